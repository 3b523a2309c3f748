import Derived.KernelRfl
import Derived.Test.YthlenkomcaiomaaGreatG4
set_option linter.all false
set_option maxRecDepth 100000
set_option maxHeartbeats 0
noncomputable section
open Option renaming some->Z,none->Y
open Bool renaming true->W,false->J
open Nat renaming beq->Nq,ble->Nl,blt->Nt,succ->Ns,add->Na
open TL.LO renaming next->N,ret->X,out->H
open TL.Rx renaming ok->G,iE->M
section
namespace Mn
open Go TL
def F31:alY:=
 λn b=>ai (aC 130 (av b.1.1)) (Z ((J,()),())) (ai (aC 130 (av b.1.2)) (Z ((J,()),())) (ai (aC 110 (av b.1.3))
 (Z ((J,()),())) (ai (aC 60 (av b.1.4)) (Z ((J,()),())) (ah (aO (Int×U) (Bool×U) (U) (λc=>ai (aC
 c.1 (av b.1.1)) (aT (aN c.1 b.1.1) (ai (aC 40 (av (bp b.1.1 (az c.1) bG).3)) (Z (X () (J,()))) (ai (aC 50 (av
 (bp b.1.1 (az c.1) bG).4)) (Z (X () (J,()))) (ah (aO (Int×U) (Bool×U) (U) (λd=>ai (aC d.1 (av
 (bp b.1.1 (az c.1) bG).4)) (aT (aN d.1 (bp b.1.1 (az c.1) bG).4) (ai (aC 40 (av (bp (bp b.1.1 (az c.1) bG).4 (az
 d.1) aS).2)) (Z (X () (J,()))) (aT (aN d.1 (bp b.1.1 (az c.1) bG).4) (ai (aC 70 (av (bp (bp b.1.1 (az c.1)
 bG).4 (az d.1) aS).3)) (Z (X () (J,()))) (Z (N (aF .i64 d.1 1,()))))))) (Z (H 0 d))) n (0,())) λd
 =>bD d (λ_ _=>Z (N (aF .i64 c.1 1,()))) (λ_ g=>Z (X () g)) λ_ _=>Y)))) (Z (H 0 c))) n (0,())) λc
 =>bD c (λ_ _=>Z ((W,()),())) (λ_ e=>Z (e,())) λ_ _=>Y))))
def k31(n:Nat):OC:=⟨31,⟨al6,K4,J,F31 n⟩,cV [] [(31,0,⟨[(3,dj)],[],[],0⟩),(31,2,⟨[(5,dj)],[],[],0⟩)] n 10 31⟩
def F19:Y93:=
 λn b=>ah (F11 n (b.1,())) λc=>ai c.1.1 (ah (F31 n b.2) λd=>Z d) (Z ((J,()),()))
def Im(n:Nat):OC:=⟨19,⟨P66,K4,J,F19 n⟩,cV [k11 n,k31 n] [] n 10 19⟩
def F116:alv:=
 λn b=>ah (aO (Int×U) (Bool×U) (U) (λc=>ai (aC c.1 (av b.1)) (aT (aN c.1 b.1) (ai (aa (bp b.1 (az c.1)
 0) b.2.1) (Z (X () (W,()))) (Z (N (aF .i64 c.1 1,()))))) (Z (H 0 c))) n (0,())) λc=>bD c (λ_ _=>Z
 ((J,()),())) (λ_ e=>Z (e,())) λ_ _=>Y
def apz(n:Nat):OC:=⟨116,⟨al7,K4,J,F116 n⟩,cV [] [(116,0,⟨[(5,dj)],[],[],0⟩)] n 10 116⟩
def Pw(b:aj×U)(g:Int×U):Int:=
 bp b.1.2 (az g.1) 0
def F64:alY:=
 λn b=>ah (aO (Int×Int×U) (Bool×U) (U) (λc=>ai (aC c.2.1 (av b.1.1)) (aT (aN c.2.1 b.1.1) (ai (aa (bp
 b.1.1 (az c.2.1) bG).1 6) (Z (N (aF .i64 c.1 1,aF .i64 c.2.1 1,()))) (Z (N (c.1,aF .i64 c.2.1 1,()))))) (Z
 (H 0 c))) n (0,0,())) λc=>bD c (λ_ e=>ai (ak (aa (av b.1.2) e.1)) (Z ((J,()),())) (ah (aO (Int×U) (Bool
 ×U) (U) (λg=>ai (aC g.1 e.1) (aT (aN g.1 b.1.2) (ah (F63 n (Pw b g,0,bF .i64 (av b.1.1) 1,())) λh=>ai
 (ak h.1.1) (Z (X () (J,()))) (aT (aN (Pw b g) b.1.1) (ai (ak (aa (bp b.1.1 (az (Pw b g)) bG).1 6)) (Z
 (X () (J,()))) (aT (fV 0 g.1 (av b.1.2)) (ah (F116 n (cY b.1.2 0 g.1,Pw b g,())) λi=>ai i.1.1 (Z (X () (J,
 ()))) (Z (N (aF .i64 g.1 1,()))))))))) (Z (H 0 g))) n (0,())) λg=>bD g (λ_ _=>Z ((W,()),())) (λ_ i=>
 Z (i,())) λ_ _=>Y)) (λ_ e=>Z (e,())) λ_ _=>Y
def k64(n:Nat):OC:=⟨64,⟨al6,K4,J,F64 n⟩,cV [k63 n,apz n] [(64,0,⟨[(3,dj),(4,dj)],[],[],0⟩),(64,2,⟨[(5,dj)],[],[],0⟩)] n 10 64⟩
def F171:Nat->bH×aj×aA×U->O Y4:=
 λn b=>ai (aa b.2.2.1.1 1) (ah (F63 n (b.2.2.1.2,(-1000000000),1000000000,())) λc=>Z c) (ai (aa b.2.2.1.1 2) (ah (F63 n
 (b.2.2.1.2,0,1,())) λc=>Z c) (ai (aa b.2.2.1.1 3) (Z ((aa b.2.2.1.2 0,()),())) (ai (aa b.2.2.1.1 4) (ah (F63 n (b.2.2.1.2,
 0,bF .i64 (av b.1.1.3) 1,())) λc=>Z c) (ai (aa b.2.2.1.1 5) (ah (F63 n (b.2.2.1.2,0,bF .i64 (av b.2.1.1) 1,())) λc=>
 Z c) (Z ((J,()),()))))))
def apf(n:Nat):OC:=⟨171,⟨asM,K4,J,F171 n⟩,cV [k63 n] [] n 10 171⟩
def F118:Nat->bH×aj×L aA×Int×U->O Y4:=
 λn b=>ai (ak (aa (av b.2.2.1) b.2.2.2.1)) (Z ((J,()),())) (ah (aO (Int×U) (Bool×U) (U) (λc=>ai
 (aC c.1 b.2.2.2.1) (aT (aN c.1 b.2.2.1) (ah (F171 n (b.1,b.2.1,bp b.2.2.1 (az c.1) cB,())) λd=>ai (ak d.1.1) (Z (X
 () (J,()))) (Z (N (aF .i64 c.1 1,()))))) (Z (H 0 c))) n (0,())) λc=>bD c (λ_ _=>Z ((W,()),())) (λ_ e
 =>Z (e,())) λ_ _=>Y)
def ajt(n:Nat):OC:=⟨118,⟨asL,K4,J,F118 n⟩,cV [apf n] [(118,0,⟨[(9,dj)],[],[],0⟩)] n 10 118⟩
def Da(n:Nat):ahl:=
 Z (X () (J,()))
def Mi(b:adE)(d:Int×U):Bool:=
 aN (bp b.2.2.1 (az d.1) aS).1 b.1.2
def CZ(b:adE)(d:Int×U):aq:=
 bp b.1.2 (az (bp b.2.2.1 (az d.1) aS).1) aQ
def Sv(n:Nat)(b:adE)(d:Int×U):LO (Int×Bool×U) (Bool×U) U Any->ahl:=
 λg=>cM g (λh=>aT (Mi b d) (ah (F118 n (b.1,b.2.1,(bp b.2.2.1 (az d.1) aS).2,(CZ b d).3,())) λi=>ai (ak
 i.1.1) (Da n) (ai (aC h.1 0) (Da n) (ah (F118 n (b.1,b.2.1,(bp b.2.2.1 (az d.1) aS).3,h.1,())) λj=>ai (ak j.1.1)
 (Da n) (Z (N (aF .i64 d.1 1,()))))))) (λ_ _=>Y) (λ_ i=>Z (X () i)) λ_ _=>Y
def F117:Nat->adE->O Y4:=
 λn b=>ah (F63 n (av b.2.2.1,1,40,())) λc=>ai (ak c.1.1) (Z ((J,()),())) (ah (aO (Int×U) (Bool×U) (U) (λd=>ai (aC d.1 (av b.2.2.1)) (aT (aN d.1 b.2.2.1) (ah (F63 n ((bp b.2.2.1 (az d.1) aS).1,0,bF .i64 (av b.1.1.1)
 1,())) λe=>ai (ak e.1.1) (Da n) (aT (Mi b d) (ai (ak (CZ b d).1) (Da n) (aT (Mi b d) (ai (ak b.2.2.2.1) (ah
 (Z (N (bF .i64 (CZ b d).2 1,W,()))) (Sv n b d)) (ah (ai (aC d.1 (bF .i64 (av b.2.2.1) 1)) (Z (N (bF .i64
 (CZ b d).2 1,W,()))) (Z (N ((CZ b d).2,J,())))) (Sv n b d)))))))) (Z (H 0 d))) n (0,())) λd=>bD d (λ
 _ _=>Z ((W,()),())) (λ_ g=>Z (g,())) λ_ _=>Y)
def apy(n:Nat):OC:=⟨117,⟨asK,K4,J,F117 n⟩,cV [k63 n,ajt n] [(117,0,⟨[(9,dj)],[],[],0⟩),(117,1000011,⟨[(11,dj),(60,dQ)],[],[],0⟩)] n 10 117⟩
def F119:Nat->bH×Int×U->O Y4:=
 λn b=>ah (aO (Int×U) (Bool×U) (U) (λc=>ai (aC c.1 (av b.1.1.1)) (aT (aN c.1 b.1.1.1) (ai (aa (bp b.1.1.1
 (az c.1) bM).1 6) (aT (aN c.1 b.1.2) (ai (bp b.1.2 (az c.1) aQ).1 (aT (aN c.1 b.1.1.1) (ai (aa (bp b.1.1.1 (az c.1)
 bM).2 b.2.1) (Z (X () (W,()))) (Z (N (aF .i64 c.1 1,()))))) (Z (N (aF .i64 c.1 1,()))))) (Z (N
 (aF .i64 c.1 1,()))))) (Z (H 0 c))) n (0,())) λc=>bD c (λ_ _=>Z ((J,()),())) (λ_ e=>Z (e,())) λ_ _=>
 Y
def apx(n:Nat):OC:=⟨119,⟨asJ,K4,J,F119 n⟩,cV [] [(119,0,⟨[(5,dj)],[],[],0⟩)] n 10 119⟩
def rA(n:Nat):O Y4:=
 Z ((J,()),())
def aas(n:Nat)(b:Y81):O Y4:=
 ah (F118 n (b.1,b.2.1,b.2.2.1.3,1,())) λc=>Z c
def F65:Nat->Y81->O Y4:=
 λn b=>ai (aa b.2.2.1.1 5) (ai (aa b.2.2.1.2 0) (ai (aa (av b.2.2.1.3) 0) (ah (F117 n (b.1,b.2.1,b.2.2.1.4,J,())) λc=>
 ai c.1.1 (aT (aN 0 b.2.2.1.4) (Z (((bp b.2.2.1.4 (az 0) aS).4,()),()))) (rA n)) (rA n)) (rA n)) (ai (aa b.2.2.1.1 6)
 (ai (aa b.2.2.1.2 0) (ai (aa (av b.2.2.1.3) 0) (ah (F117 n (b.1,b.2.1,b.2.2.1.4,W,())) λc=>Z c) (rA n)) (ai (aa
 b.2.2.1.2 1) (ai (aa (av b.2.2.1.4) 0) (aas n b) (rA n)) (ah (F63 n (b.2.2.1.2,2,4,())) λc=>ai c.1.1 (ai (aa (av b.2.2.1.4)
 0) (Z ((aa (av b.2.2.1.3) 0,()),())) (rA n)) (rA n)))) (ai (ak (aa (av b.2.2.1.4) 0)) (rA n) (ai (aa b.2.2.1.1 1) (ah
 (F63 n (b.2.2.1.2,0,bF .i64 (av b.1.1.5) 1,())) λc=>ai c.1.1 (aT (aN b.2.2.1.2 b.1.1.5) (ah (F118 n (b.1,b.2.1,b.2.2.1.3,(bp
 b.1.1.5 (az b.2.2.1.2) bf).2,())) λd=>Z d)) (rA n)) (ai (aa b.2.2.1.1 2) (ah (F119 n (b.1,b.2.2.1.2,())) λc=>ai c.1.1
 (aT (aN b.2.2.1.2 b.1.2) (ah (F118 n (b.1,b.2.1,b.2.2.1.3,bF .i64 (bp b.1.2 (az b.2.2.1.2) aQ).3 1,())) λd=>Z d)) (rA
 n)) (ai (aa b.2.2.1.1 3) (ai (aa b.2.2.1.2 0) (aas n b) (rA n)) (ai (aa b.2.2.1.1 4) (ai (aa b.2.2.1.2 0) (ai (bn (av
 b.2.2.1.3) 4) (ah (F118 n (b.1,b.2.1,b.2.2.1.3,av b.2.2.1.3,())) λc=>Z c) (rA n)) (rA n)) (rA n)))))))
def k65(n:Nat):OC:=⟨65,⟨asI,K4,J,F65 n⟩,cV [k63 n,apy n,ajt n,apx n] [] n 10 65⟩
def Kg(n:Nat):O Y4:=
 Z ((J,()),())
def F32:ash:=
 λn b=>ai (aC 120 (av b.2.1.1)) (Kg n) (ai (aC 100 (av b.2.1.3)) (Kg n) (ah (F15 n (b.2.1.4,50,())) λc=>ai (ak
 c.1.1) (Kg n) (ah (F63 n (b.2.1.5,0,1000000000,())) λd=>ai (ak d.1.1) (Kg n) (ah (F64 n b.2) λe=>ai (ak e.1.1) (Kg n)
 (ah (aO (Int×U) (Bool×U) (U) (λg=>ai (aC g.1 (av b.2.1.1)) (aT (aN g.1 b.2.1.1) (ah (F65 n (b.1,b.2.1,bp
 b.2.1.1 (az g.1) bG,())) λh=>ai (ak h.1.1) (Z (X () (J,()))) (Z (N (aF .i64 g.1 1,()))))) (Z (H 0
 g))) n (0,())) λg=>bD g (λ_ _=>ah (aO (Int×U) (Bool×U) (U) (λj=>ai (aC j.1 (av b.2.1.3)) (aT (aN j.1
 b.2.1.3) (ah (F63 n ((bp b.2.1.3 (az j.1) ki).1,0,3,())) λk=>ai (ak k.1.1) (Z (X () (J,()))) (aT (aN j.1
 b.2.1.3) (ah (F63 n ((bp b.2.1.3 (az j.1) ki).2,(-1000000000),1000000000,())) λl=>ai (ak l.1.1) (Z (X () (J,())))
 (Z (N (aF .i64 j.1 1,()))))))) (Z (H 0 j))) n (0,())) λj=>bD j (λ_ _=>Z ((W,()),())) (λ_ l=>Z (l,
 ())) λ_ _=>Y) (λ_ i=>Z (i,())) λ_ _=>Y)))))
def k32(n:Nat):OC:=⟨32,⟨asH,K4,J,F32 n⟩,cV [k15 n,k63 n,k64 n,k65 n] [(32,0,⟨[(5,dj)],[],[],0⟩),(32,2,⟨[(6,dj)],[],[],0⟩)] n 10 32⟩
def F21:Nat->Y49->Y35:=
 λn b=>ah (F14 n (b.1,())) λc=>ai c.1.2.1 (ah (F32 n (c.1.1,b.2)) λd=>Z ((c.1.1,d.1),())) (Z ((c.1.1,J,()),()))
def k21(n:Nat):OC:=⟨21,⟨P66,K121,J,F21 n⟩,cV [k14 n,k32 n] [] n 10 21⟩
def Kh(b:alx)(c:Int×U):aM:=
 bp b.2.1 (az c.1) cZ
def F23:Nat->alx->O Y4:=
 λn b=>ai (ak (aa (av b.1) (av b.2.1))) (Z ((J,()),())) (ah (aO (Int×U) (Bool×U) (U) (λc=>ai
 (aC c.1 (av b.1)) (aT (aN c.1 b.1) (aT (aN c.1 b.2.1) (ai (ak (cm (aa (bp b.1 (az c.1) cZ).1 (Kh b c).1) (cm
 (aa (bp b.1 (az c.1) cZ).2 (Kh b c).2) (cm (aa (bp b.1 (az c.1) cZ).3 (Kh b c).3) (cm (aa (bp b.1 (az
 c.1) cZ).4.1 (Kh b c).4.1) (cm (aa (bp b.1 (az c.1) cZ).4.2 (Kh b c).4.2) W)))))) (Z (X () (J,())))
 (Z (N (aF .i64 c.1 1,())))))) (Z (H 0 c))) n (0,())) λc=>bD c (λ_ _=>Z ((W,()),())) (λ_ e=>Z (e,
 ())) λ_ _=>Y)
def k23(n:Nat):OC:=⟨23,⟨asG,K4,J,F23 n⟩,cV [] [(23,0,⟨[(5,dj)],[],[],0⟩)] n 10 23⟩
def aaB(n:Nat):alA:=
 Z ((dg,0,2,()),())
def F27:Nat->Y49->alA:=
 λn b=>ah (F99 n (b.1,())) λc=>ai (ak (aa c.1.2.1 0)) (aaB n) (ah (aO (Y51) (Bool×U) (Y52) (λd=>ai (aC d.1
 (av b.1.1)) (aT (aN d.1 c.1.1) (ai (bp c.1.1 (az d.1) aQ).1 (aT (aN d.1 b.1.1) (ai (aa (bp b.1.1 (az d.1) bM).1 6)
 (aT (aN d.1 b.1.1) (Z (N (aF .i64 d.1 1,iX (A:=sg.A) (Ty.int .i64) (bp b.1.1 (az d.1) bM).2 W d.2.1,())))) (Z
 (N (aF .i64 d.1 1,d.2))))) (Z (N (aF .i64 d.1 1,d.2))))) (Z (H 0 d))) n (0,[],())) λd=>bD d (λ_ g=>ah
 (F111 n (cL.mk b.2.1 b.1 c.1.1 g.2.1,())) λh=>ai (ak h.1.1) (aaB n) (ah (F48 n (((b.2.1.1,b.2.1.2,b.2.1.3,b.2.1.4,b.2.1.5,
 b.1.1,b.1.2,b.1.3,b.1.4,b.1.5,c.1.1,()),()),g.2.1,0,())) λi=>ai (ak i.1.2.1) (Z ((dg,0,8,()),())) (ah (F49 n i.2)
 λj=>Z ((j.1.1,i.1.1,0,()),())))) (λ_ g=>ai (ak g.1) (aaB n) Y) λ_ _=>Y)
def k27(n:Nat):OC:=⟨27,⟨P66,K165,J,F27 n⟩,cV [k48 n,k49 n,k99 n,aco n] [(44,0,⟨[(23,dj),(0,RK)],[.cell (.slot 19) 11],[],0⟩)] n 10 27⟩

end Mn
end
section
namespace TL
open Go
section
def Ev{α:Type}(f:Nat->O α)(r:α):Prop:=∃a,∀n,a<=n->f n=Z r
section
variable {α β γ:Type}
def Ev.pure(r:α):Ev (λ_=>Z r) r:=⟨0,λ_ _=>rfl⟩
def Ev.of_eq{f:Nat->O α}{r:α}(h:∀n,f n=Z r):Ev f r:=⟨0,λn _=>h n⟩
def Ev.r5{f g:Nat->O α}{r:α}(h:∀n,f n=g n)(a:Ev g r):Ev f r:=(funext h:f=g)▸a
theorem Ev.ah{f:Nat->O α}{a:α}{g:Nat->α->O β}{r:β}(h:Ev f a)(d:Ev (λn=>g n a) r):Ev (λn=>ah (f n) (g n)) r:=by
 let ⟨b,h⟩:=h
 let ⟨c,d⟩:=d
 refine⟨max b c,λn e=>?_⟩
 grind[TL.ah]
end
def Dc{α β:Type}(f:Nat->Nat->α->O β)(x:α)(r:β):Prop:=∀d,Ev (λn=>f n (n-d) x) r
theorem Dc.step{α β:Type}{f:Nat->Nat->α->O β}{g:Nat->(α->O β)->α->O β}{x:α}{r:β}(h:∀n k,f n (k+1)=g n (f n k))
  (b:∀d,Ev (λn=>g n (f n (n-d)) x) r):Dc f x r:=by
 intro d
 let ⟨a,c⟩:=b (d+1)
 refine⟨max a (d+1),λn i=>?_⟩;have e:n-d=(n-(d+1))+1:=by omega
 grind
section
variable {X R B P:Type}
inductive gJ(F:Nat->X->Option (LO X R B P)):X->LO X R B P->Prop
 |next {x y:X} {o:LO X R B P}:Ev (λn=>F n x) (.next y)->gJ F y o->gJ F x o|out {x y:X} {j:Nat}:Ev (λn=>F n x) (.out j y)->gJ F x (.out j y)|ret {x:X} {b:B} {r:R}:Ev (λn=>F n x) (.ret b r)->gJ F x (.ret b r)|iE {x:X} {b:B} {p:P}:Ev (λn=>F n x) (.iE b p)->gJ F x (.iE b p)
def gJ.last{F:Nat->X->O (LO X R B P)}{x:X}{o:LO X R B P}(h:Ev (λn=>F n x) o)(hn:∀y,o≠.next y):gJ F x o:=by cases o with|next y=>simp_all|out j y=>exact .out h|ret b r=>exact .ret h|iE b p=>exact .iE h
theorem gJ.fuel{F:Nat->X->O (LO X R B P)}{x:X}{o:LO X R B P}(h:gJ F x o):∃a,∀n k,a<=n->a<=k->iter (F n) k x=Z o:=by
 induction h with
 |next h _ e=>
  let ⟨a,h⟩:=h
  let ⟨b,e⟩:=e
  refine⟨max a b+1,λn k c d=>?_⟩;cases k with
  |zero=>omega|succ k=>
   grind[iter]
 |out h=>
  let ⟨a,h⟩:=h
  refine⟨a+1,λn k c d=>?_⟩;cases k with|zero=>omega|succ k=>unfold iter;rw[show F n _=_ from h n (by omega)]
 |ret h=>
  let ⟨a,h⟩:=h
  refine⟨a+1,λn k c d=>?_⟩;cases k with|zero=>omega|succ k=>unfold iter;rw[show F n _=_ from h n (by omega)]
 |iE h=>
  let ⟨a,h⟩:=h
  refine⟨a+1,λn k c d=>?_⟩;cases k with|zero=>omega|succ k=>unfold iter;rw[show F n _=_ from h n (by omega)]
theorem Ev.iter{F:Nat->X->O (LO X R B P)}{x:X}{o:LO X R B P}(h:gJ F x o):Ev (λn=>TL.iter (F n) n x) o:=by
 let ⟨a,h⟩:=h.fuel
 exact⟨a,λn b=>h n n b b⟩
def Ev.br{β:Type}{F:Nat->X->O (LO X R B P)}{x:X}{o:LO X R B P}(h:gJ F x o)(g:Nat->LO X R B P->O β)(r:β)(a:Ev (λn=>g n o) r):Ev (λn=>TL.ah (TL.iter (F n) n x) (g n)) r:=(Ev.iter h).ah a
def gJ.many{F:Nat->X->O (LO X R B P)}{o:LO X R B P}:∀(k:Nat)(s:Nat->X),(∀i,i<k->Ev (λn=>F n (s i)) (.next (s (i+1))))->gJ F (s k) o->gJ F (s 0) o
 |0,_,_,h=>h|k+1,s,a,h=>.next (a 0 (by omega)) (gJ.many k (λi=>s (i+1)) (λi b=>a (i+1) (by omega)) h)
theorem nD{F:Nat->X->O (LO X R B P)}(len:Nat)(s:Nat->X)(q:Nat->Bool)(bad:Nat->LO X R B P)(g:Nat)(o:∀i y,bad i≠.next y)
  (h:∀i,i<len->(∀j,j<i->q j=W)->Ev (λn=>F n (s i)) (bif q i then .next (s (i+1))else bad i))
  (p:(∀j,j<len->q j=W)->Ev (λn=>F n (s len)) (.out g (s len))) :
  ((∀i,i<len->q i=W)∧gJ F (s 0) (.out g (s len)))∨∃i,i<len∧q i=J∧(∀j,j<i->q j=W)∧gJ F (s 0) (bad i):=by
 have key:∀m i,i+m=len->(∀j,j<i->q j=W)->((∀i,i<len->q i=W)∧gJ F (s i) (.out g (s len)))∨∃k,k<len∧q k=J∧(∀j,j<k->q j=W)∧gJ F (s i) (bad k):=by
  intro m
  induction m with
  |zero=>
   intro i r e;have:i=len:=by omega
   subst this;exact .inl ⟨e,.out (p e)⟩
  |succ m t=>
   intro i r e;have f:=h i (by omega) e;cases l:q i with
   |false=>rw[l]at f;exact .inr ⟨i,by omega,l,e,.last f (o i)⟩
   |true=>
    rw[l]at f;rcases t (i+1) (by omega) (λj u=>by
     grind)with⟨a,b⟩|⟨k,a,b,c,d⟩
    .exact .inl ⟨a,.next f b⟩
    .exact .inr ⟨k,a,b,c,.next f d⟩
 simp_all
def lE{F:Nat->X->O (LO X R B P)}(len:Nat)(s:Nat->X)(a:Nat)(h:∀i,i<len->Ev (λn=>F n (s i)) (.next (s (i+1))))(b:Ev (λn=>F n (s len)) (.out a (s len))):gJ F (s 0) (.out a (s len)):=
 gJ.many len s h (.out b)
def gJ.inv{F:Nat->X->O (LO X R B P)}(I:X->Prop)(m:X->Nat)(Q:LO X R B P->Prop)
  (h:∀x,I x->(∃y,Ev (λn=>F n x) (.next y)∧I y∧m y<m x)∨∃o,(∀y,o≠.next y)∧Ev (λn=>F n x) o∧Q o):∀x,I x->∃o,gJ F x o∧Q o:=by
 intro x
 induction b:m x using Nat.strongRecOn generalizing x with
 |ind k c=>
  intro d;subst b;obtain⟨y,e,f,a⟩|⟨o,g,i,j⟩:=h x d
  .let ⟨o,h1,h2⟩:=c (m y) a y rfl f
   exact⟨o,.next e h1,h2⟩
  .exact ⟨o,.last i g,j⟩
end
section
theorem EC{n:Int}(h1:-9223372036854775808<=n)(h2:n<=9223372036854775807):IntKind.wrap .i64 n=n:=by
 grind[IntKind.wrap,IntKind.bits,IntKind.signed]
theorem bQ{a b:Int}(h1:-9223372036854775808<=a+b)(h2:a+b<=9223372036854775807):aF .i64 a b=a+b:=EC h1 h2
theorem dc{a b:Int}(h1:-9223372036854775808<=a-b)(h2:a-b<=9223372036854775807):bF .i64 a b=a-b:=EC h1 h2
def QN{a b:Int}(h1:-9223372036854775808<=a*b)(h2:a*b<=9223372036854775807):Kl .i64 a b=a*b:=EC h1 h2
def pQ{α:Type}{n:Int}{l:L α}:aN n l=W↔0<=n∧n<l.length:=by simp[aN]
def Yw{α:Type}{k:Nat}{l:L α}:eR k l=W↔k<l.length:=by simp[eR]
def TX{lo hi len:Int}:fV lo hi len=W↔0<=lo∧lo<=hi∧hi<=len:=by simp[fV]
def GU{α:Type}{a b:L α}:dF a b=W↔a.length+b.length<=17179869184:=by simp[dF]
theorem xU{a b:Int}:aa a b=W↔a=b:=by simp[aa]
def xT{a b:Int}:aC a b=W↔a<b:=by simp[aC]
end
section
variable {α β:Type}
theorem tZ(a:α)(f:α->O β):ah (Z a) f=f a:=rfl
theorem akX{R P:Type}(r:R)(f:R->O α)(g:P->O α):cr (.ok r) f g=f r:=rfl
theorem agM{R P:Type}(p:P)(f:R->O α)(g:P->O α):cr (.iE p) f g=g p:=rfl
theorem ZH(x:O α):aT W x=x:=rfl
theorem S1(x y:O α):ai W x y=x:=rfl
theorem Ja(x y:O α):ai J x y=y:=rfl
def LG{γ:Type}{i:Int}{l:L γ}(h1:0<=i)(h2:i<(l.length:Int))(x:O α):aT (aN i l) x=x:=by rw[pQ.2 ⟨h1,h2⟩];rfl
def ZJ{γ:Type}{k:Nat}{l:L γ}(h:k<l.length)(x:O α):aT (eR k l) x=x:=by rw[Yw.2 h];rfl
def T3{a b c:Int}(h1:0<=a)(h2:a<=b)(h3:b<=c)(x:O α):aT (fV a b c) x=x:=by rw[TX.2 ⟨h1,h2,h3⟩];rfl
def Bm{γ:Type}{a b:L γ}(h:a.length+b.length<=17179869184)(x:O α):aT (dF a b) x=x:=by rw[GU.2 h];rfl
def adk(a b:Bool)(x:O α):aT (nK a b) x=aT a (aT b x):=by cases a<;>rfl
def adj{a b:Int}(h:a=b)(x:O α):aT (fU a b) x=x:=by subst h;simp[fU,aT]
def abn{a b:Int}(h:a=b)(x y:O α):ai (fU a b) x y=x:=by subst h;simp[fU,ai]
def W0{a b:Int}(h:a≠b)(x y:O α):ai (fU a b) x y=y:=by simp[fU,ai,h]
def uq{a b:Int}(h:a<b)(x y:O α):ai (aC a b) x y=x:=by rw[xT.2 h];rfl
def rL{a b:Int}(h:b<=a)(x y:O α):ai (aC a b) x y=y:=by simp[ai,aC,Int.not_lt.2 h]
def Qh{a b:Int}(h:a<=b)(x y:O α):ai (bn a b) x y=x:=by simp[ai,bn,h]
def abm{a b:Int}(h:b<a)(x y:O α):ai (bn a b) x y=y:=by simp[ai,bn,Int.not_le.2 h]
def W1{a b:Int}(h:a=b)(x y:O α):ai (aa a b) x y=x:=by rw[xU.2 h];rfl
def Kz{a b:Int}(h:a≠b)(x y:O α):ai (aa a b) x y=y:=by rw[show aa a b=J by simp[aa,h]];rfl
def Ky(a:Bool)(x y:O α):ai (ak a) x y=ai a y x:=by cases a<;>rfl
theorem abW{a b:Int}(h:a<b):aC a b=W:=xT.2 h
def aiN{a b:Int}(h:b<=a):aC a b=J:=by simp[aC,Int.not_lt.2 h]
def aiS{a b:Int}(h:a<=b):bn a b=W:=by simp[bn,h]
def aiT{a b:Int}(h:b<a):bn a b=J:=by simp[bn,Int.not_le.2 h]
theorem Lw{a b:Int}(h:a=b):aa a b=W:=xU.2 h
theorem vW{a b:Int}(h:a≠b):aa a b=J:=by simp[aa,h]
theorem agX(x y:α):(bif W then x else y)=x:=rfl
theorem agY(x y:α):(bif J then x else y)=y:=rfl
def MR(l:L α):cY l 0 (l.length:Int)=l:=by simp[cY]
def UB(l:L α)(k:Int):cY l k (l.length:Int)=l.drop k.toNat:=by simp[cY]
def EG(l:L α)(k:Int):cY l 0 k=l.take k.toNat:=by simp[cY]
theorem X5(k:Nat):az (k:Int)=k:=rfl
theorem eO(l:L α):av l=(l.length:Int):=rfl
theorem agN(l:L α)(k:Nat)(z:α):bp l k z=l.getD k z:=rfl
theorem abO(n:Int):az n=n.toNat:=rfl
theorem adm(a b:L α):di a b=a++b:=rfl
theorem abE(l:L α)(k:Nat)(x:α):rI l k x=l.set k x:=rfl
def ab2(a b:L α):(a++b).length=a.length+b.length:=mG
def Yj(a:α)(l:L α):(a::l).length=l.length+1:=ny
theorem ab1:([]:L α).length=0:=rfl
def X4(k:Nat):Int.toNat (k:Int)=k:=we k
theorem X3:Int.toNat 0=0:=rfl
theorem abN:Int.toNat 1=1:=rfl
end
def mK:(∀{α:Type}(a b:L α),(a++b).length=a.length+b.length)∧(∀{α:Type}(a:α)(l:L α),(a::l).length=l.length+1)∧(∀{α:Type},([]:L α).length=0)∧
 (∀{α:Type}(k:Nat)(l:L α),(l.drop k).length=l.length-k)∧(∀{α:Type}(k:Nat)(l:L α),(l.take k).length=min k l.length)∧(∀{α:Type}(k:Nat)(x:α)(l:L α),(l.set k x).length=l.length):=
 ⟨λ_ _=>mG,λ_ _=>rfl,rfl,λ_ _=>Ta,λ_ _=>KJ,λ_ _ _=>Qv⟩
def bu:(∀{α:Type}{β:Type}(a:α)(f:α->O β),ah (Z a) f=f a)∧
 (∀{α:Type}{R P:Type}(r:R)(f:R->O α)(g:P->O α),cr (.ok r) f g=f r)∧
 (∀{α:Type}{R P:Type}(p:P)(f:R->O α)(g:P->O α),cr (.iE p) f g=g p)∧
 (∀{α:Type}(x:O α),aT W x=x)∧
 (∀{α:Type}(x y:O α),ai W x y=x)∧
 (∀{α:Type}(x y:O α),ai J x y=y)∧
 (∀{α:Type}{γ:Type}{i:Int}{l:L γ}(h1:0<=i)(h2:i<(l.length:Int))(x:O α),aT (aN i l) x=x)∧
 (∀{α:Type}{γ:Type}{k:Nat}{l:L γ}(h:k<l.length)(x:O α),aT (eR k l) x=x)∧
 (∀{α:Type}{a b c:Int}(h1:0<=a)(h2:a<=b)(h3:b<=c)(x:O α),aT (fV a b c) x=x)∧
 (∀{α:Type}{γ:Type}{a b:L γ}(h:a.length+b.length<=17179869184)(x:O α),aT (dF a b) x=x)∧
 (∀{α:Type}(a b:Bool)(x:O α),aT (nK a b) x=aT a (aT b x))∧
 (∀{α:Type}{a b:Int}(h:a=b)(x:O α),aT (fU a b) x=x)∧
 (∀{α:Type}{a b:Int}(h:a=b)(x y:O α),ai (fU a b) x y=x)∧
 (∀{α:Type}{a b:Int}(h:a≠b)(x y:O α),ai (fU a b) x y=y)∧
 (∀{α:Type}{a b:Int}(h:a<b)(x y:O α),ai (aC a b) x y=x)∧
 (∀{α:Type}{a b:Int}(h:b<=a)(x y:O α),ai (aC a b) x y=y)∧
 (∀{α:Type}{a b:Int}(h:a<=b)(x y:O α),ai (bn a b) x y=x)∧
 (∀{α:Type}{a b:Int}(h:b<a)(x y:O α),ai (bn a b) x y=y)∧
 (∀{α:Type}{a b:Int}(h:a=b)(x y:O α),ai (aa a b) x y=x)∧
 (∀{α:Type}{a b:Int}(h:a≠b)(x y:O α),ai (aa a b) x y=y)∧
 (∀{α:Type}(a:Bool)(x y:O α),ai (ak a) x y=ai a y x)∧
 (∀{a b:Int}(h:a<b),aC a b=W)∧
 (∀{a b:Int}(h:b<=a),aC a b=J)∧
 (∀{a b:Int}(h:a<=b),bn a b=W)∧
 (∀{a b:Int}(h:b<a),bn a b=J)∧
 (∀{a b:Int}(h:a=b),aa a b=W)∧
 (∀{a b:Int}(h:a≠b),aa a b=J)∧
 (∀{α:Type}(x y:α),(bif W then x else y)=x)∧
 (∀{α:Type}(x y:α),(bif J then x else y)=y)∧
 (∀{α:Type}(l:L α),cY l 0 (l.length:Int)=l)∧
 (∀{α:Type}(l:L α),av l=(l.length:Int))∧
 (∀{α:Type}(l:L α)(k:Nat)(z:α),bp l k z=l.getD k z)∧
 (∀(n:Int),az n=n.toNat)∧
 (∀{α:Type}(a b:L α),di a b=a++b)∧
 (∀{α:Type}(l:L α)(k:Nat)(x:α),rI l k x=l.set k x)∧
 (∀{α:Type}(a b:L α),(a++b).length=a.length+b.length)∧
 (∀{α:Type}(a:α)(l:L α),(a::l).length=l.length+1)∧
 (∀{α:Type},([]:L α).length=0)∧
 (∀(k:Nat),Int.toNat (k:Int)=k)∧
 (Int.toNat 0=0)∧
 (Int.toNat 1=1):=
 ⟨@tZ,@akX,@agM,@ZH,@S1,@Ja,@LG,@ZJ,@T3,@Bm,@adk,@adj,@abn,@W0,@uq,@rL,@Qh,@abm,@W1,@Kz,@Ky,@abW,@aiN,@aiS,@aiT,@Lw,@vW,@agX,@agY,@MR,@eO,@agN,@abO,@adm,@abE,@ab2,@Yj,@ab1,@X4,@X3,@abN⟩
theorem bK{α:Type}{f:Nat->O α}{r:α}(h:∀n,f n=Z r):Ev f r:=.of_eq h
theorem dz{α:Type}{f:Nat->O α}{r:α}(h:∀n,f n=Z r:=by intro n;rfl):Ev f r:=.of_eq h
end
end TL
end
section
namespace Mn
open Go TL
def PR(a b:aA):Bool:=a.Kind==b.Kind&&a.N==b.N
def iu(n:Int):aA:=⟨1,n⟩
def jk(b:Bool):aA:=⟨2,bif b then 1 else 0⟩
def fR:aA:=⟨3,0⟩
def AD(n:Int):aA:=⟨5,n⟩
def rS(v:aA):aA:=if v.Kind=4∨v.Kind=5 then AD 0 else v
def lK(c:ax)(n:Int):Int:=(c.Cons.getD n.toNat bf).lY
def kT:L Nat:=[0,0,0,0,0,0,0,2,2,1,0,0,1,2,2,2,2,2,0,1,0,1,1,2,1,1,0,2,1,1,0,0,0,0,1]
def cC(c:ax)(i:bO):Nat:=if i.Op=18 then(lK c i.A).toNat else kT.getD i.Op.toNat 0
def aW(c:ax)(n:Int):bO:=c.dG.getD n.toNat bM
def mI(c:ax)(n:Int):aD:=c.ew.getD n.toNat aL
def cO(w:aj)(n:Int):bI:=w.aP.getD n.toNat bG
def cg(w:aj)(at_:Int):Int:=w.bg.getD at_.toNat 0
def hJ(l:L aA)(n:Nat):aA:=l.getD n cB
def ku(w:aj)(n:Int)(o:bI):aj:=⟨w.aP.set n.toNat o,w.bg,w.mU,w.dG,w.Used⟩
def gR(w:aj)(o:bI):aj:=⟨w.aP++[o],w.bg,w.mU,w.dG,w.Used⟩
inductive sY where
 |fail (s:Int)|waits|done (v:aA)|go (w:aj) (fr:List au) (e:Option aM)
def vD(f:au)(v:aA):au:=⟨f.At,f.Env,f.Stack++[v],f.ep⟩
def gr(w:aj)(left:L au)(f:au)(v:aA)(e:O aM:=Y):sY:=.go w (left++[vD f v]) e
def o5(w:aj)(left:L au)(f:au)(o:bI)(e:O aM:=Y):sY:=
 if 120<=w.aP.length then .fail 4 else gr (gR w o) left f (AD w.aP.length) e
def jU(w:aj)(v:aA)(a:Int):O bI:=
 if v.Kind=5∧(cO w v.N).Form=a then Z (cO w v.N)else Y
def mS(c:ax)(w:aj)(f v:aA):O au:=
 if f.Kind=4 then Z ⟨c.cU.getD f.N.toNat 0,[v],[],J⟩
 else match jU w f 2 with
  |some o=>Z ⟨o.N,o.g9++[v],[],J⟩|none=>Y
def mE:L au->aA->L au
 |[],_=>[]|[f],v=>[vD f v]|f::l,v=>f::mE l v
def oO(w:aj)(left l:L au):sY:=if 40<left.length+l.length then .fail 4 else .go w (left++l) Y
def rq(c:ax)(w:aj)(left:L au)(f v:aA)(reset:Bool):sY:=
 match mS c w f v with
 |some b=>oO w left [⟨b.At,b.Env,b.Stack,reset⟩]|none=>match jU w f 5 with
  |some o=>oO w left (mE o.Frames v)|none=>.fail 2
def j5(n:Int):Bool:=decide (-1000000000<=n)&&decide (n<=1000000000)
def uU(w:aj)(left:L au)(f:au)(op:Int)(u v:aA):sY:=
 if op=17 then(if u.Kind≠v.Kind∨3<u.Kind then .fail 2 else gr w left f (jk (u.N==v.N)))
 else if u.Kind≠1∨v.Kind≠1 then .fail 2
 else if op=16 then gr w left f (jk (decide (u.N<v.N)))
 else
  let n:=if op=13 then u.N+v.N else if op=14 then u.N-v.N else u.N*v.N
  if j5 n=W then gr w left f (iu n)else .fail 4
mutual
def kW(w:aj):aD->aA->O (L aA)
 |⟨a,n,text,parts⟩,v=>
  if a=1 then Z []else if a=2 then Z [v]
  else if a=3 then(if PR v (iu n)then Z []else Y)
  else if a=4 then(if PR v (jk (n==1))then Z []else Y)
  else if a=5 then(if PR v fR then Z []else Y)
  else match jU w v 1 with
   |none=>Y|some o=>if o.N≠n∨o.g9.length≠parts.length then Y else gZ w parts o.g9
def gZ(w:aj):L aD->L aA->O (L aA)
 |q::a,v::b=>match kW w q v with
  |none=>Y|some l=>match gZ w a b with
   |none=>Y|some m=>Z (l++m)
 |_,_=>Z []
end
def lJ{α:Type}(q:α->Bool):L α->O Nat
 |[]=>Y|a::l=>match lJ q l with
  |some k=>Z (k+1)|none=>bif q a then Z 0 else Y
def Kx(w:aj)(left:L au)(f:au)(start:Int):sY:=
 match lJ (λf:au=>f.ep) (left++[f])with
 |none=>.fail 3|some k=>if 120<=w.aP.length then .fail 4
  else .go (gR w ⟨5,0,[],(left++[f]).drop k⟩) ((left++[f]).take k++[⟨start,f.Env++[AD w.aP.length],[],W⟩]) Y
def Fl(c:ax)(w:aj)(at_:Int)(left:L au)(f:au)(g:aA):sY:=
 let mk (l:L au):sY:=if 120<=w.aP.length then .fail 4
  else gr ⟨w.aP++[⟨6,0,[],l⟩],w.bg++[(w.aP.length:Int)],w.mU,w.dG,w.Used⟩ left f (AD w.aP.length) (Z ⟨at_,19,0,fR⟩)
 match mS c w g fR with
 |some b=>mk [b]|none=>match jU w g 5 with
  |some k=>mk (mE k.Frames fR)|none=>.fail 2
def IF(w:aj)(at_:Int)(left:L au)(f:au)(v:aA):sY:=match jU w v 3 with
 |none=>.fail 2|some o=>gr w left f (hJ o.g9 0) (Z ⟨at_,17,0,rS (hJ o.g9 0)⟩)
def jq(w:aj)(at_:Int)(left:L au)(f:au)(c v:aA):sY:=match jU w c 3 with
 |none=>.fail 2|some o=>gr (ku w c.N ⟨3,0,[v],[]⟩) left f fR (Z ⟨at_,18,0,rS v⟩)
def MX(w:aj)(at_:Int)(left:L au)(f:au)(c v:aA):sY:=match jU w c 4 with
 |none=>.fail 2|some o=>if 4<=o.g9.length then .waits else gr (ku w c.N ⟨4,0,o.g9++[v],[]⟩) left f fR (Z ⟨at_,22,0,rS v⟩)
def MO(w:aj)(at_:Int)(left:L au)(f:au)(c:aA):sY:=match jU w c 4 with
 |none=>.fail 2|some o=>match o.g9 with
  |[]=>.waits|v::l=>gr (ku w c.N ⟨4,0,l,[]⟩) left f v (Z ⟨at_,23,0,rS v⟩)
def N4(w:aj)(at_:Int)(left:L au)(f:au)(v:aA):sY:=match jU w v 6 with
 |none=>.fail 2|some o=>if o.N=0 then .waits else if o.N≠1 then .fail o.N else gr w left f (hJ o.g9 0) (Z ⟨at_,20,0,rS (hJ o.g9 0)⟩)
def XT(w:aj)(at_:Int)(left:L au)(f:au)(a:Int)(v:aA):sY:=
 if v.Kind≠1 then .fail 2 else if 100<=w.mU.length then .fail 4
 else gr ⟨w.aP,w.bg,w.mU++[⟨a,v.N⟩],w.dG,w.Used⟩ left f fR (Z ⟨at_,24,a,rS v⟩)
def inS(w:aj)(at_:Int)(left:L au)(f:au):sY:=match w.dG with
 |[]=>.waits|i::l=>if 1000000000<=w.Used then .fail 4 else gr ⟨w.aP,w.bg,w.mU,l,w.Used+1⟩ left f (iu i) (Z ⟨at_,25,0,iu i⟩)
def abq(w:aj)(left:L au)(v:aA):sY:=match left with
 |[]=>.done v|_::_=>.go w (left.take (left.length-1)++[vD (left.getD (left.length-1) aS) v]) Y
theorem M6{w:aj}{l:L au}{g:au}{v:aA}:abq w (l++[g]) v=.go w (l++[vD g v]) Y:=by
 unfold abq;split
 .simp_all
 grind
def iF(c:ax)(w:aj)(at_:Int)(left:L au)(i:bO)(f:au)(l:L aA):sY:=
 match i.Op.toNat with
 |1=>gr w left f (iu i.A)|2=>gr w left f (jk (i.A==1))|3=>gr w left f fR|4=>gr w left f (hJ f.Env i.A.toNat)|5=>gr w left f ⟨4,i.A⟩|6=>o5 w left f ⟨2,i.A,f.Env,[]⟩|7=>rq c w (left++[f]) (hJ l 0) (hJ l 1) J|8=>rq c w left (hJ l 0) (hJ l 1) f.ep|9=>.go w (left++[⟨f.At,f.Env++[hJ l 0],f.Stack,f.ep⟩]) Y|10=>.go w (left++[⟨f.At,f.Env.take (f.Env.length-i.A.toNat),f.Stack,f.ep⟩]) Y|11=>.go w (left++[⟨i.A,f.Env,f.Stack,f.ep⟩]) Y|12=>if(hJ l 0).Kind≠2 then .fail 2 else .go w (left++[⟨if(hJ l 0).N=0 then i.A else f.At,f.Env,f.Stack,f.ep⟩]) Y|13|14|15|16|17=>uU w left f i.Op (hJ l 0) (hJ l 1)|18=>o5 w left f ⟨1,i.A,l,[]⟩|19=>match kW w (mI c i.A) (hJ l 0)with
  |some b=>.go w (left++[⟨f.At,f.Env++b,f.Stack,f.ep⟩]) Y|none=>.go w (left++[⟨i.B,f.Env,f.Stack++[hJ l 0],f.ep⟩]) Y
 |20=>.fail 3|21=>o5 w left f ⟨3,0,[hJ l 0],[]⟩ (Z ⟨at_,16,0,rS (hJ l 0)⟩)|22=>IF w at_ left f (hJ l 0)|23=>jq w at_ left f (hJ l 0) (hJ l 1)|24=>Fl c w at_ left f (hJ l 0)|25=>N4 w at_ left f (hJ l 0)|26=>o5 w left f ⟨4,0,[],[]⟩ (Z ⟨at_,21,0,fR⟩)|27=>MX w at_ left f (hJ l 0) (hJ l 1)|28=>MO w at_ left f (hJ l 0)|29=>XT w at_ left f i.A (hJ l 0)|30=>inS w at_ left f|31=>oO w (left++[f]) [⟨i.A,f.Env,[],W⟩]|32=>Kx w left f i.A|33=>gr w left f fR (Z ⟨at_,28,0,fR⟩)|_=>abq w left (hJ l 0)
def goS(c:ax)(w:aj)(at_:Int)(o:bI):sY:=
 let top:=o.Frames.length-1
 let f:=o.Frames.getD top aS
 let i:=aW c f.At
 let n:=f.Stack.length-cC c i
 iF c w at_ (o.Frames.take top) i ⟨f.At+1,f.Env,f.Stack.take n,f.ep⟩ (f.Stack.drop n)
def kN(c:ax)(w:aj)(at_:Int):O (aj×O aM):=
 let t:=cg w at_
 let o:=cO w t
 if o.N≠0 then Y
 else match goS c w at_ o with
  |.waits=>Y|.fail s=>Z (ku w t ⟨6,s,[],[]⟩,Z ⟨at_,0,s,cB⟩)|.done v=>Z (ku w t ⟨6,1,[v],[]⟩,Z ⟨at_,0,1,rS v⟩)|.go a fr e=>Z (ku a t ⟨6,0,[],fr⟩,e)
def bV(s e:Int):aq:=⟨W,s,e⟩
mutual
def fP:aD->Int
 |⟨a,_,_,parts⟩=>if a=2 then 1 else nS parts
def nS:L aD->Int
 |[]=>0|q::a=>fP q+nS a
end
def yN(c:ax)(i:bO)(d:aq):Prop:=
 (cC c i:Int)<=d.Stack∧(i.Op=4->i.A<d.Env)∧(i.Op=10->i.A<=d.Env)∧(i.Op=8->d.Stack=2)∧(i.Op=34->d.Stack=1)
def fO(c:ax)(i:bO)(d:aq):Int:=
 d.Stack-(cC c i:Int)+(if i.Op=9∨i.Op=10∨i.Op=11∨i.Op=12∨i.Op=19 then 0 else 1)
def dM(c:ax)(n:Int)(d:aq):L (Int×aq):=
 let i:=aW c n;let s:=fO c i d
 match i.Op.toNat with
 |8|20|34=>[]|9=>[(n+1,bV s (d.Env+1))]|10=>[(n+1,bV s (d.Env-i.A))]|11=>[(i.A,d)]|12=>[(n+1,bV s d.Env),(i.A,bV s d.Env)]|19=>[(n+1,bV s (d.Env+fP (mI c i.A))),(i.B,d)]|6|32=>[(n+1,bV s d.Env),(i.A,bV 0 (d.Env+1))]|31=>[(n+1,bV s d.Env),(i.A,bV 0 d.Env)]|_=>[(n+1,bV s d.Env)]
inductive Kk(c:ax):Int->aq->Prop
 |root {f}:f∈c.cU->Kk c f (bV 0 1)|next {n d x}:Kk c n d->x∈dM c n d->Kk c x.1 x.2
def dV(D:L aq)(n:Int):aq:=D.getD n.toNat aQ
structure PD(c:ax)(D:List aq):Prop where
 len:D.length=c.dG.length
 root:∀f∈c.cU,dV D f=bV 0 1
 ok:∀n:Int,0<=n->n<c.dG.length->(dV D n).Reached=W->(dV D n).Stack<=60∧(dV D n).Env<=30∧yN c (aW c n) (dV D n)
 step:∀n:Int,0<=n->n<c.dG.length->(dV D n).Reached=W->∀x∈dM c n (dV D n),0<=x.1∧x.1<c.dG.length∧dV D x.1=x.2
 der:∀n:Int,0<=n->n<c.dG.length->(dV D n).Reached=W->Kk c n (dV D n)
 zero:∀n:Int,0<=n->n<c.dG.length->(dV D n).Reached=J->dV D n=aQ
mutual
def pw:aD->Nat
 |⟨_,_,_,parts⟩=>1+tw parts
def tw:L aD->Nat
 |[]=>0|q::a=>pw q+tw a
end
mutual
def tE(cons:L cq):aD->Prop
 |⟨a,n,text,parts⟩=>text=[]∧(a=1∨a=2∨a=5)∧n=0∧parts=[]∨text=[]∧a=3∧j5 n=W∧parts=[]∨text=[]∧a=4∧(n=0∨n=1)∧parts=[]∨
  text=[]∧a=6∧0<=n∧n<cons.length∧(parts.length:Int)=(cons.getD n.toNat bf).lY∧oH cons parts
def oH(cons:L cq):L aD->Prop
 |[]=>True|q::a=>tE cons q∧oH cons a
end
structure Sk(c:ax)(i:bO):Prop where
 lo:1<=i.Op
 hi:i.Op<=34
 int:i.Op=1->j5 i.A=W
 bool:i.Op=2->i.A=0∨i.A=1
 place:i.Op=4->0<=i.A∧i.A<=29
 code:i.Op=5->0<=i.A∧i.A<c.cU.length
 goto:i.Op=6∨i.Op=11∨i.Op=12∨i.Op=31∨i.Op=32->0<=i.A∧i.A<c.dG.length
 drop:i.Op=10->1<=i.A∧i.A<=30
 con:i.Op=18->0<=i.A∧i.A<c.Cons.length
 Hy:i.Op=19->0<=i.A∧i.A<c.ew.length∧0<=i.B∧i.B<c.dG.length
 port:i.Op=29->0<=i.A∧i.A<=3
structure se(c:ax)(D:List aq):Prop where
 len:1<=c.dG.length∧c.dG.length<=1500
 ins:∀i∈c.dG,Sk c i
 pats:∀q∈c.ew,tE c.Cons q∧pw q<=12
 pl:c.ew.length<=100
 oM:∀f∈c.cU,0<=f∧f<c.dG.length
 fl:1<=c.cU.length∧c.cU.length<=300
 main:0<=c.Main∧c.Main<c.cU.length
 cons:∀k∈c.Cons,0<=k.lY∧k.lY<=3
 dep:PD c D
theorem bT{α:Type}{l:L α}{i:Nat}(d:α)(h:i<l.length):l.getD i d∈l:=by
 simp_all
theorem AS{c:ax}{n:Int}{d:aq}{x:Int×aq}(a:x∈dM c n d)(h:d.Reached=W):x.2.Reached=W:=by unfold dM at a;dsimp only at a;split at a<;>simp only[fS,List.not_mem_nil,or_false]at a<;>first|exact a.elim|(subst a;first|rfl|exact h)|(cases a<;>rename_i a<;>subst a<;>first|rfl|exact h)
def PD.Cc{c:ax}{D:L aq}(h:PD c D)(hf:∀f∈c.cU,0<=f∧f<c.dG.length){n:Int}{d:aq}(j:Kk c n d) :
  0<=n∧n<c.dG.length∧dV D n=d∧d.Reached=W:=by
 induction j with
 |root g=>exact⟨(hf _ g).1,(hf _ g).2,h.root _ g,rfl⟩| @next n d x m i k=>
  let ⟨l,h1,h2,h3⟩:=k
  subst h2
  let ⟨a,b,e⟩:=h.step n l h1 h3 x i
  exact⟨a,b,e,AS i h3⟩
theorem PD.uniq{c:ax}{D E:L aq}(h:PD c D)(b:PD c E)(hf:∀f∈c.cU,0<=f∧f<c.dG.length):D=E:=by
 have key:∀n:Int,0<=n->n<c.dG.length->dV D n=dV E n:=by
  intro n d h1;cases e:(dV D n).Reached with
  |true=>exact(b.Cc hf (h.der n d h1 e)).2.2.1.symm|false=>
   cases a:(dV E n).Reached with|true=>exact(h.Cc hf (b.der n d h1 a)).2.2.1|false=>rw[h.zero n d h1 e,b.zero n d h1 a]
 apply List.ext_getElem (by rw[h.len,b.len]);intro i h1 h2;have:=key i (by omega) (by have:=h.len;omega)
 grind[dV]
def cH(c:ax)(k:Nat)(v:aA):Prop:=
 (v.Kind=1∧j5 v.N=W)∨(v.Kind=2∧(v.N=0∨v.N=1))∨(v.Kind=3∧v.N=0)∨(v.Kind=4∧0<=v.N∧v.N<c.cU.length)∨(v.Kind=5∧0<=v.N∧v.N<k)
structure dm(c:ax)(D:List aq)(k:Nat)(less:Int)(f:au):Prop where
 lo:0<=f.At
 hi:f.At<c.dG.length
 re:(dV D f.At).Reached=W
 el:(f.Env.length:Int)=(dV D f.At).Env
 env:∀v∈f.Env,cH c k v
 sl:(f.Stack.length:Int)=(dV D f.At).Stack-less
 stack:∀v∈f.Stack,cH c k v
def pV(c:ax)(D:L aq)(n:Int):Prop:=∃i:Int,0<=i∧i<c.dG.length∧(aW c i).Op=6∧(dV D i).Reached=W∧(aW c i).A=n
inductive fN(c:ax)(D:List aq)(k:Nat):bI->Prop
 |data {n:Int} {vs}:0<=n->n<c.Cons.length->(vs.length:Int)=(lK c n)->(∀v∈vs,cH c k v)->fN c D k ⟨1,n,vs,[]⟩|func {n:Int} {vs}:pV c D n->(vs.length:Int)=(dV D n).Env-1->(∀v∈vs,cH c k v)->fN c D k ⟨2,n,vs,[]⟩|cell {v}:cH c k v->fN c D k ⟨3,0,[v],[]⟩|chan {vs}:vs.length<=4->(∀v∈vs,cH c k v)->fN c D k ⟨4,0,vs,[]⟩|Ci {f fs}:fs.length<40->(∀g∈f::fs,dm c D k 1 g)->f.ep=W->fN c D k ⟨5,0,[],f::fs⟩|sB {fs f}:fs.length<40->(∀g∈fs,dm c D k 1 g)->dm c D k 0 f->fN c D k ⟨6,0,[],fs++[f]⟩|done {v}:cH c k v->fN c D k ⟨6,1,[v],[]⟩|dead {s}:s=2∨s=3∨s=4->fN c D k ⟨6,s,[],[]⟩
structure jD(c:ax)(D:List aq)(w:aj):Prop where
 len:w.aP.length<=120
 obs:∀o∈w.aP,fN c D w.aP.length o
 outs:w.mU.length<=100
 out:∀o∈w.mU,0<=o.Port∧o.Port<=3∧j5 o.N=W
 ins:w.dG.length<=50
 inn:∀i∈w.dG,j5 i=W
 used:0<=w.Used∧w.Used<=1000000000
 En:w.bg.Nodup
 tl:w.bg.length<=w.aP.length
 task:∀t∈w.bg,0<=t∧t<w.aP.length∧(cO w t).Form=6
 all:∀i:Nat,i<w.aP.length->(cO w i).Form=6->(i:Int)∈w.bg
section
section
variable {c:ax}{D:List aq}{w w':aj}{k k':Nat}{f g:au}{v u:aA}{o:bI}{form:Int}{left:List au}{at_:Int}
def jD.ob(h:jD c D w){n:Int}(h1:0<=n)(h2:n<w.aP.length):fN c D w.aP.length (cO w n):=h.obs _ (bT _ (by omega))
def gO(h:jD c D w)(d:cH c w.aP.length v)(a:jU w v form=Z o) :
  o.Form=form∧fN c D w.aP.length o∧v.Kind=5∧0<=v.N∧v.N<w.aP.length∧o=cO w v.N:=by
 unfold jU at a;split at a<;>rename_i b
 .cases a;have:0<=v.N∧v.N<w.aP.length:=by obtain h|h|h|h|h:=d<;>first|exact h.2|(have:=h.1;have:=b.1;omega)
  exact⟨b.2,h.ob this.1 this.2,b.1,this.1,this.2,rfl⟩
 .cases a
def cH.ref(b:cH c k v)(h:v.Kind=5):0<=v.N∧v.N<k:=by obtain a|a|a|a|a:=b<;>first|exact a.2|(have:=a.1;omega)
def cH.code(b:cH c k v)(h:v.Kind=4):0<=v.N∧v.N<c.cU.length:=by obtain a|a|a|a|a:=b<;>first|exact a.2|(have:=a.1;omega)
def cH.int(b:cH c k v)(h:v.Kind=1):j5 v.N=W:=by obtain a|a|a|a|a:=b<;>first|exact a.2|(have:=a.1;omega)
theorem cH.mono(b:k<=k')(a:cH c k v):cH c k' v:=by
 obtain h|h|h|h|h:=a
 .exact .inl h
 .exact .inr (.inl h)
 .exact .inr (.inr (.inl h))
 .exact .inr (.inr (.inr (.inl h)))
 .exact .inr (.inr (.inr (.inr ⟨h.1,h.2.1,by omega⟩)))
theorem dm.mono{l:Int}(b:k<=k')(h:dm c D k l f):dm c D k' l f:=
 ⟨h.lo,h.hi,h.re,h.el,λv a=>(h.env v a).mono b,h.sl,λv a=>(h.stack v a).mono b⟩
theorem um{l:L aA}(h:∀u∈l,cH c k u)(a:cH c k v):∀u∈l++[v],cH c k u:=by
 grind
theorem dm.push(h:dm c D k 1 f)(a:cH c k v):dm c D k 0 (vD f v):=
 ⟨h.lo,h.hi,h.re,h.el,h.env,by have:=h.sl;grind[vD],um h.stack a⟩
def fN.vals(h:fN c D k o):∀v∈o.g9,cH c k v:=by
 have one:∀{u:aA},cH c k u->∀v∈[u],cH c k v:=λa v b=>by simp_all
 cases h with|data _ _ _ h=>exact h|func _ _ h=>exact h|cell h=>exact one h|chan _ h=>exact h|Ci=>simp_all|sB=>simp_all|done h=>exact one h|dead=>simp_all
theorem fN.mono(f:k<=k')(h:fN c D k o):fN c D k' o:=by
 cases h with
 |data a b e d=>exact .data a b e λv i=>(d v i).mono f|func a b e=>exact .func a b λv i=>(e v i).mono f|cell a=>exact .cell (a.mono f)|chan a b=>exact .chan a λv i=>(b v i).mono f|Ci a b e=>exact .Ci a (λg j=>(b g j).mono f) e|sB a b e=>exact .sB a (λg j=>(b g j).mono f) (e.mono f)|done a=>exact .done (a.mono f)|dead a=>exact .dead a
theorem xO{n:Int}(hn:0<=n)(a:n<w.aP.length){i:Nat}:cO (ku w n o) i=if(i:Int)=n then o else cO w i:=by
 unfold cO ku
 grind
theorem qf{i:Nat}:cO (gR w o) i=if i=w.aP.length then o else cO w i:=by
 unfold cO gR
 grind
theorem jD.set(h:jD c D w){n:Int}(hn:0<=n)(g:n<w.aP.length)(l:fN c D w.aP.length o)(hf:o.Form=6↔(cO w n).Form=6):jD c D (ku w n o):=by
 have b:(ku w n o).aP.length=w.aP.length:=by unfold ku;simp
 have a:∀i:Nat,i<w.aP.length->((cO (ku w n o) i).Form=6↔(cO w i).Form=6):=by
  intro i d;rw[xO hn g]
  grind
 refine⟨by rw[b];exact h.len,λx f=>?_,h.outs,h.out,h.ins,h.inn,h.used,h.En,by rw[b];exact h.tl,λt k=>?_,λi d j=>?_⟩
 .rw[b];obtain f|f:=Xi f
  .exact h.obs x f
  simp_all
 .let ⟨h1,h2,h3⟩:=h.task t k
  refine⟨h1,by omega,?_⟩;have e:((t.toNat:Nat):Int)=t:=by omega
  have:=(a t.toNat (by omega)).2 (by grind);rwa [e]at this
 .rw[b]at d;exact h.all i d ((a i d).1 j)
theorem jD.add(h:jD c D w)(hl:w.aP.length<120)(f:fN c D w.aP.length o)(hf:o.Form≠6):jD c D (gR w o):=by
 have g:(gR w o).aP.length=w.aP.length+1:=by unfold gR;simp
 refine⟨by omega,λx b=>?_,h.outs,h.out,h.ins,h.inn,h.used,h.En,by have:=h.tl;unfold gR;simp;omega,λt j=>?_,λi k a=>?_⟩
 .obtain b|b:=eS.1 b
  .exact (h.obs x b).mono (by omega)
  .rw[tj.1 b];exact f.mono (by omega)
 .let ⟨h1,h2,h3⟩:=h.task t j
  refine⟨h1,by omega,?_⟩;have e:((t.toNat:Nat):Int)=t:=by omega
  rw[<-e,qf,bL (by omega),e];exact h3
 .rw[qf]at a;by_cases d:i=w.aP.length
  .simp_all
  .rw[bL d]at a;exact h.all i (by omega) a
abbrev yb(w:aj)(o:bI):aj:=⟨w.aP++[o],w.bg++[(w.aP.length:Int)],w.mU,w.dG,w.Used⟩
theorem jD.spawn(h:jD c D w)(hl:w.aP.length<120)(l:fN c D w.aP.length o)(hf:o.Form=6):jD c D (yb w o):=by
 have m:(yb w o).aP.length=w.aP.length+1:=by simp
 have j:∀i:Nat,cO (yb w o) i=if i=w.aP.length then o else cO w i:=λi=>qf (w:=w) (o:=o) (i:=i)
 refine⟨by omega,λx f=>?_,h.outs,h.out,h.ins,h.inn,h.used,?_,by have:=h.tl;simp;omega,λt g=>?_,λi p d=>?_⟩
 .obtain f|f:=eS.1 f
  .exact (h.obs x f).mono (by omega)
  .rw[tj.1 f];exact l.mono (by omega)
 .refine List.nodup_append.2 ⟨h.En,List.pairwise_singleton _ _,λa j b n=>?_⟩;rw[tj.1 n];have:=(h.task a j).2.1;omega
 .obtain g|g:=eS.1 g
  .let ⟨h1,h2,h3⟩:=h.task t g
   refine⟨h1,by omega,?_⟩;have e:((t.toNat:Nat):Int)=t:=by omega
   grind
  grind
 .rw[j]at d;by_cases k:i=w.aP.length
  .simp_all
  .rw[bL k]at d;exact fL _ (h.all i (by omega) d)
structure yB(c:ax)(D:List aq)(w w':aj)(fr:List au)(e:Option aM):Prop where
 ok:jD c D w'
 tk:∃l,w'.bg=w.bg++l
 tn:e=Y->w'.bg=w.bg
 ln:w.aP.length<=w'.aP.length
 fm:∀i:Nat,i<w.aP.length->((cO w' i).Form=6↔(cO w i).Form=6)
 ob:fN c D w'.aP.length ⟨6,0,[],fr⟩
 sm:∀i:Nat,i<w.aP.length->(cO w i).Form=6->cO w' i=cO w i
def BD(c:ax)(D:L aq)(w:aj):sY->Prop
 |.fail s=>s=2∨s=3∨s=4|.waits=>True|.done v=>cH c w.aP.length v|.go w' fr e=>yB c D w w' fr e
variable {e:Option aM}
def yB.same(h:jD c D w){fr:L au}(a:fN c D w.aP.length ⟨6,0,[],fr⟩):yB c D w w fr e:=
 ⟨h,⟨[],by simp⟩,λ_=>rfl,eM _,λ_ _=>vO,a,λ_ _ _=>rfl⟩
theorem yB.set(h:jD c D w){fr:L au}{e:O aM}{n:Int}(hn:0<=n)(a:n<w.aP.length)(d:fN c D w.aP.length o)(hf:o.Form≠6)(b:(cO w n).Form≠6)
  (g:fN c D w.aP.length ⟨6,0,[],fr⟩):yB c D w (ku w n o) fr e:=by
 have j:(ku w n o).aP.length=w.aP.length:=by unfold ku;simp
 refine⟨h.set hn a d ⟨λh=>absurd h hf,λh=>absurd h b⟩,⟨[],by simp[ku]⟩,λ_=>rfl,by omega,λi f=>?_,by grind,λi f h6=>?_⟩
 .rw[xO hn a]
  grind
 .rw[xO hn a,bL]
  grind
theorem yB.add(h:jD c D w){fr:L au}{e:O aM}(hl:w.aP.length<120)(a:fN c D w.aP.length o)(hf:o.Form≠6)
  (f:fN c D (w.aP.length+1) ⟨6,0,[],fr⟩):yB c D w (gR w o) fr e:=by
 have b:(gR w o).aP.length=w.aP.length+1:=by unfold gR;simp
 refine⟨h.add hl a hf,⟨[],by simp[gR]⟩,λ_=>rfl,by omega,λi d=>?_,by grind,λi d _=>?_⟩
 .rw[qf,bL (by omega)]
 .rw[qf,bL (by omega)]
def Yt{n:Int}(h:j5 n=W):cH c k (iu n):=.inl ⟨rfl,h⟩
def RG{b:Bool}:cH c k (jk b):=.inr (.inl ⟨rfl,by cases b<;>simp[jk]⟩)
theorem zc:cH c k fR:=.inr (.inr (.inl ⟨rfl,rfl⟩))
def W9(h:k<k'):cH c k' (AD k):=.inr (.inr (.inr (.inr ⟨rfl,by simp[AD],by simp[AD];omega⟩)))
structure Cx(c:ax)(D:List aq)(w:aj)(left:List au)(i:bO)(f:au)(l:List aA)(n:Int):Prop where
 hp:se c D
 hw:jD c D w
 n0:0<=n
 n1:n<c.dG.length
 re:(dV D n).Reached=W
 hi:i=aW c n
 zG:f.At=n+1
 el:(f.Env.length:Int)=(dV D n).Env
 env:∀v∈f.Env,cH c w.aP.length v
 sl:(f.Stack.length:Int)+cC c i=(dV D n).Stack
 stack:∀v∈f.Stack,cH c w.aP.length v
 ll:l.length=cC c i
 vals:∀v∈l,cH c w.aP.length v
 fl:left.length<40
 left:∀g∈left,dm c D w.aP.length 1 g
variable {i:bO}{l:List aA}{n:Int}
def se.ajB(h:se c D)(a:0<=n)(h1:n<c.dG.length):Sk c (aW c n):=h.ins _ (bT _ (by omega))
def Cx.io(x:Cx c D w left i f l n):Sk c i:=x.hi▸x.hp.ajB x.n0 x.n1
def Cx.nd(x:Cx c D w left i f l n):yN c i (dV D n):=x.hi▸(x.hp.dep.ok n x.n0 x.n1 x.re).2.2
def Cx.nx(x:Cx c D w left i f l n){y:Int×aq}(d:y∈dM c n (dV D n)):0<=y.1∧y.1<c.dG.length∧dV D y.1=y.2∧(dV D y.1).Reached=W:=by
 let ⟨a,b,e⟩:=x.hp.dep.step n x.n0 x.n1 x.re y d
 exact⟨a,b,e,by rw[e];exact AS d x.re⟩
def Cx.val(x:Cx c D w left i f l n){j:Nat}(h:j<l.length):cH c w.aP.length (hJ l j):=x.vals _ (bT _ h)
theorem Cx.tl(x:Cx c D w left i f l n){q:Int}(h:i.Op=q)(a:q≠18):l.length=kT.getD q.toNat 0:=by rw[x.ll];unfold cC;rw[h,bL a]
def Cx.fr(x:Cx c D w left i f l n){p s e:Int}(j:(p,bV s e)∈dM c n (dV D n)){g:au}(m:w.aP.length<=k)(h1:g.At=p)(h2:(g.Env.length:Int)=e)(h3:∀v∈g.Env,cH c k v)
  {d:Int} (h4:(g.Stack.length:Int)=s-d) (h5:∀v∈g.Stack,cH c k v):dm c D k d g:=by
 let ⟨a,b,h,r⟩:=x.nx j
 subst h1;exact⟨a,b,r,by rw[h,h2];rfl,h3,by rw[h,h4];rfl,h5⟩
def Zb(a:k<=k')(hl:left.length<40)(h:∀g∈left,dm c D k 1 g)(b:dm c D k' 0 g):fN c D k' ⟨6,0,[],left++[g]⟩:=
 .sB hl (λx d=>(h x d).mono a) b
def dR(q:Int):Prop:=q=1∨q=2∨q=3∨q=4∨q=5∨q=6∨q=7∨(13<=q∧q<=18)∨(21<=q∧q<=33)
def NR(hi:i=aW c n){d:aq}(h:dR i.Op):(n+1,bV (d.Stack-cC c i+1) d.Env)∈dM c n d:=by
 subst hi;have a:¬((aW c n).Op=9∨(aW c n).Op=10∨(aW c n).Op=11∨(aW c n).Op=12∨(aW c n).Op=19):=by unfold dR at h;omega
 unfold dM fO;simp[a,yo];split<;>first|exact eI|(exfalso;unfold dR at h;omega)
def Cx.wait(x:Cx c D w left i f l n)(h:dR i.Op):dm c D w.aP.length 1 f:=
 x.fr (NR x.hi h) (eM _) x.zG x.el x.env (by have:=x.sl;omega) x.stack
theorem Cx.push(x:Cx c D w left i f l n)(h:dR i.Op)(a:w.aP.length<=k)(b:cH c k v):fN c D k ⟨6,0,[],left++[vD f v]⟩:=
 Zb a x.fl x.left (((x.wait h).mono a).push b)
def Cx.gr(x:Cx c D w left i f l n)(h:dR i.Op)(a:cH c w.aP.length v){e:O aM}:BD c D w (gr w left f v e):=yB.same x.hw (x.push h (eM _) a)
theorem Cx.made(x:Cx c D w left i f l n)(h:dR i.Op){e:O aM}(a:fN c D w.aP.length o)(hf:o.Form≠6):BD c D w (o5 w left f o e):=by
 unfold o5;split
 .exact .inr (.inr rfl)
 .exact yB.add x.hw (by omega) a hf (x.push h (by omega) (W9 (by omega)))
theorem Ht(d:se c D)(h:pV c D n):0<=n∧n<c.dG.length∧(dV D n).Reached=W∧(dV D n).Stack=0:=by
 let ⟨i,f,h1,h2,h3,h4⟩:=h
 have g:(n,bV 0 ((dV D i).Env+1))∈dM c i (dV D i):=by
  grind[dM]
 let ⟨a,b,e⟩:=d.dep.step i f h1 h3 _ g
 exact⟨a,b,by rw[e];rfl,by rw[e];rfl⟩
theorem O1(f:se c D)(n:jD c D w)(h:cH c w.aP.length u)(j:cH c w.aP.length v){b:au}{r:Bool}(e:mS c w u v=Z b):dm c D w.aP.length 0 ⟨b.At,b.Env,b.Stack,r⟩:=by
 unfold mS at e;split at e
 .rename_i h4;cases e
  let ⟨h1,h2⟩:=h.code h4
  have k:=bT (l:=c.cU) (i:=u.N.toNat) 0 (by omega);have m:=f.oM _ k;have g:=f.dep.root _ k;exact⟨m.1,m.2,by rw[g];rfl,by rw[g];rfl,um (l:=[]) (by simp) j,by rw[g];rfl,by simp⟩
 .split at e
  .rename_i o;cases e
   let ⟨h1,h2,_⟩:=gO n h o
   cases h2 with
   |func a b d=>
    let ⟨h3,h4,h5,h6⟩:=Ht f a
    exact⟨h3,h4,h5,by simp_all,um d j,by grind,by simp⟩
   |_=>cases h1
  .cases e
theorem pE:∀(f:au)(fs:L au)(v:aA),∃l g,f::fs=l++[g]∧mE (f::fs) v=l++[vD g v]
 |f,[],v=>⟨[],f,rfl,rfl⟩|f,g::fs,v=>by
  let ⟨l,h,h1,h2⟩:=pE g fs v
  grind[mE]
theorem Jd{fs:L au}(a:left.length+(f::fs).length<=40)(hl:∀g∈left,dm c D k 1 g)(h:∀g∈f::fs,dm c D k 1 g)(b:cH c k v):fN c D k ⟨6,0,[],left++mE (f::fs) v⟩:=by
 let ⟨l,g,h1,h2⟩:=pE f fs v
 rw[h2,<-AF];rw[h1]at h a;refine .sB (by grind) (λx d=>?_) ((h g (by simp)).push b)
 grind
theorem Qp{fs:L au}:(mE fs v).length=fs.length:=by
 cases fs with
 |nil=>rfl|cons f fs=>
  let ⟨l,g,h1,h2⟩:=pE f fs v
  grind
theorem He(a:jD c D w){l:L au}(h:left.length+l.length<=40->fN c D w.aP.length ⟨6,0,[],left++l⟩):BD c D w (oO w left l):=by
 unfold oO;split
 .exact .inr (.inr rfl)
 .exact yB.same a (h (by omega))
theorem O5(i:se c D)(e:jD c D w)(hl:∀g∈left,dm c D w.aP.length 1 g)(f:cH c w.aP.length u)(j:cH c w.aP.length v){r:Bool}:BD c D w (rq c w left u v r):=by
 unfold rq;split
 .rename_i b k;exact He e λh=>.sB (by grind) hl (O1 i e f j k)
 .split
  .rename_i l
   let ⟨h1,h2,_⟩:=gO e f l
   cases h2 with|Ci a b d=>grind[He,Jd,Qp]|_=>cases h1
  .exact .inl rfl
mutual
theorem NU(e:jD c D w):∀(q:aD)(v:aA)(l:L aA),cH c w.aP.length v->tE c.Cons q->kW w q v=Z l->(∀u∈l,cH c w.aP.length u)∧(l.length:Int)=fP q
 |⟨form,n,text,parts⟩,v,l,f,b,h=>by
  unfold kW at h;unfold fP;by_cases h1:form=1
  .rw[bw h1]at h;cases h;obtain rfl:parts=[]:=by obtain h|h|h|h:=b<;>first|exact h.2.2.2|omega
   rw[bL (by omega)];exact⟨(λu a=>by cases a),rfl⟩
  rw[bL h1]at h;by_cases h2:form=2
  .grind
  rw[bL h2]at h ⊢;have nil:form≠6->parts=[]:=λh6=>by obtain h|h|h|h:=b<;>first|exact h.2.2.2|omega
  by_cases h3:form=3
  .rw[bw h3]at h;rw[nil (by omega)];split at h<;>cases h;exact⟨(λu a=>by cases a),rfl⟩
  rw[bL h3]at h;by_cases h4:form=4
  .rw[bw h4]at h;rw[nil (by omega)];split at h<;>cases h;exact⟨(λu a=>by cases a),rfl⟩
  rw[bL h4]at h;by_cases h5:form=5
  .rw[bw h5]at h;rw[nil (by omega)];split at h<;>cases h;exact⟨(λu a=>by cases a),rfl⟩
  rw[bL h5]at h;split at h
  .cases h
  .rename_i o g;split at h
   .cases h
   .have d:oH c.Cons parts:=by obtain h|h|h|h:=b<;>first|exact h.2.2.2.2.2|(exfalso;have:=h.2.1;omega)
    exact Gi e parts o.g9 l (gO e f g).2.1.vals d (by omega) h
theorem Gi(i:jD c D w):∀(qs:L aD)(vs:L aA)(l:L aA),(∀v∈vs,cH c w.aP.length v)->oH c.Cons qs->vs.length=qs.length->gZ w qs vs=Z l->
  (∀u∈l,cH c w.aP.length u)∧(l.length:Int)=nS qs
 |[],vs,l,d,_,_,h=>by cases h;exact⟨(λu k=>by cases k),rfl⟩
 |q::qs,[],l,d,_,e,h=>by cases e
 |q::qs,v::vs,l,d,j,e,h=>by
  unfold gZ at h;unfold nS;split at h
  .cases h
  .rename_i m f;split at h
   .cases h
   .rename_i n g;cases h;have a:=NU i q v m (d v eI) j.1 f;have b:=Gi i qs vs n (λx o=>d x (g7 _ o)) j.2 (by simpa using e) g
    grind
end
theorem zC{α:Type}{q:α->Bool}:∀{l:L α}{k:Nat},lJ q l=Z k->∃h:k<l.length,q l[k]=W
 |a::l,k,h=>by
  unfold lJ at h;cases b:lJ q l with
  |some j=>
   let ⟨h1,h2⟩:=zC b
   grind
  |none=>
   grind
end
end
section
section
variable {c:ax}{D:List aq}{w w':aj}{f:au}{v u:aA}{o:bI}{left:List au}{at_:Int}{i:bO}{l:List aA}{n:Int}
def Cx.goto(x:Cx c D w left i f l n){p s e:Int}(a:(p,bV s e)∈dM c n (dV D n)){g:au}{b:O aM}(h1:g.At=p)(h2:(g.Env.length:Int)=e)(h3:∀v∈g.Env,cH c w.aP.length v)
  (h4:(g.Stack.length:Int)=s) (h5:∀v∈g.Stack,cH c w.aP.length v):BD c D w (.go w (left++[g]) b):=
 yB.same x.hw (Zb (eM _) x.fl x.left (x.fr a (eM _) h1 h2 h3 (by omega) h5))
def Lz{d:aq}(h:d.Reached=W):d=bV d.Stack d.Env:=by cases d;subst h;rfl
def afv(x:Cx c D w left i f l n):BD c D w (iF c w at_ left i f l):=by
 have io:=x.io;have nd:=x.nd;have hlen:=x.hw.len;have h1:=io.lo;have h2:=io.hi;have GG:=x.sl;have hel:=x.el;have hfl:=x.fl;obtain⟨q,z⟩:∃q:Nat,i.Op=q:=⟨_,(BX (by omega)).symm⟩;have hq1:1<=q:=by omega
 have hq2:q<=34:=by omega
 have A:(aW c n).Op=q:=by rw[<-x.hi];exact z
 have tl:q≠18->l.length=kT.getD q 0:=λh=>by rw[x.tl z (by omega)];rfl
 have K:q≠18->cC c i=kT.getD q 0:=λh=>by rw[<-x.ll];exact tl h
 have t:dR q->dR i.Op:=λh=>by rw[z];exact h
 have S:(aW c n).A=i.A:=by rw[<-x.hi]
 have ib:(aW c n).B=i.B:=by rw[<-x.hi]
 have E:fO c (aW c n) (dV D n)=(dV D n).Stack-(cC c i:Int)+(if(q:Int)=9∨(q:Int)=10∨(q:Int)=11∨(q:Int)=12∨(q:Int)=19 then 0 else 1):=by unfold fO;rw[<-x.hi,z]
 unfold iF;simp only[z,we]
 match q,z,hq1,hq2,A,tl,K,t,E with
 |1,z,_,_,_,_,_,t,_=>exact x.gr (t (by unfold dR;omega)) (Yt (io.int z))
 |2,z,_,_,_,_,_,t,_=>exact x.gr (t (by unfold dR;omega)) RG
 |3,z,_,_,_,_,_,t,_=>exact x.gr (t (by unfold dR;omega)) zc
 |4,z,_,_,_,_,_,t,_=>have:=nd.2.1 z;have:=io.place z;exact x.gr (t (by unfold dR;omega)) (x.env _ (bT _ (by omega)))
 |5,z,_,_,_,_,_,t,_=>exact x.gr (t (by unfold dR;omega)) (.inr (.inr (.inr (.inl ⟨rfl,io.code z⟩))))
 |6,z,_,_,A,_,_,t,E=>
  have hm:(i.A,bV 0 ((dV D n).Env+1))∈dM c n (dV D n):=by unfold dM;simp only[A,we,S];exact g7 _ eI
  let ⟨a,b,e,r⟩:=x.nx hm
  exact x.made (t (by unfold dR;omega)) (.func ⟨n,x.n0,x.n1,A,x.re,S⟩ (by rw[e];simp only[bV];omega) x.env) (by simp)
 |7,z,_,_,_,tl,_,t,_=>
  have P:l.length=2:=tl (by decide);refine O5 x.hp x.hw (λg B=>?_) (x.val (by omega)) (x.val (by omega));obtain B|B:=eS.1 B
  .exact x.left g B
  .rw[tj.1 B];exact x.wait (t (by unfold dR;omega))
 |8,z,_,_,_,tl,_,t,_=>have P:l.length=2:=tl (by decide);exact O5 x.hp x.hw x.left (x.val (by omega)) (x.val (by omega))
 |9,z,_,_,A,tl,K,t,E=>have hk:cC c i=1:=K (by decide);refine x.goto (p:=n+1) (s:=fO c (aW c n) (dV D n)) (e:=(dV D n).Env+1) (by unfold dM;simp only[A,we];exact eI) x.zG (by simp only[mG,rH];omega) (um x.env (x.val (by omega))) ?_ x.stack;rw[E];simp;omega
 |10,z,_,_,A,_,K,t,E=>
  have hA:=nd.2.2.1 z;have hB:=io.drop z;refine x.goto (p:=n+1) (s:=fO c (aW c n) (dV D n)) (e:=(dV D n).Env-i.A) (by unfold dM;simp only[A,we,S];exact eI) x.zG ?_ (λv R=>x.env v (UZ R)) ?_ x.stack
  .simp only[KJ];omega
  .rw[E];simp;omega
 |11,z,_,_,A,_,K,t,E=>have hk:cC c i=0:=K (by decide);refine x.goto (p:=i.A) (s:=(dV D n).Stack) (e:=(dV D n).Env) (by rw[<-Lz x.re];unfold dM;simp only[A,we,S];exact eI) rfl x.el x.env (by simp only;omega) x.stack
 |12,z,_,_,A,tl,K,t,E=>
  simp only;split
  .exact .inl rfl
  .have hs:(f.Stack.length:Int)=fO c (aW c n) (dV D n):=by rw[E];simp;omega
   by_cases h0:(hJ l 0).N=0
   .rw[bw h0];exact x.goto (p:=i.A) (by unfold dM;simp only[A,we,S];exact g7 _ eI) rfl x.el x.env hs x.stack
   .rw[bL h0];exact x.goto (p:=n+1) (by unfold dM;simp only[A,we];exact eI) x.zG x.el x.env hs x.stack
 |13,z,_,_,_,_,_,t,_|14,z,_,_,_,_,_,t,_|15,z,_,_,_,_,_,t,_|16,z,_,_,_,_,_,t,_|17,z,_,_,_,_,_,t,_=>
  have F:=t (by unfold dR;omega);simp only;have fin:∀m:Int,BD c D w (if j5 m=W then gr w left f (iu m)else .fail 4):=by
   intro m;split
   .exact x.gr F (Yt (by assumption))
   .exact .inr (.inr rfl)
  unfold uU;split
  .split
   .exact .inl rfl
   .exact x.gr F RG
  .split
   .exact .inl rfl
   .split
    .exact x.gr F RG
    .exact fin _
 |18,z,_,_,_,_,_,t,_=>
  let ⟨a,b⟩:=io.con z
  have TJ:=x.ll;unfold cC at TJ;rw[bw (show i.Op=18 from z)]at TJ;have:=x.hp.cons _ (bT bf (show i.A.toNat<c.Cons.length by omega));exact x.made (t (by unfold dR;omega)) (.data a b (by rw[TJ];unfold lK;omega) x.vals) (by simp)
 |19,z,_,_,A,tl,K,t,E=>
  have hk:cC c i=1:=K (by decide)
  let ⟨a,b,_⟩:=io.Hy z
  have v0:=x.val (j:=0) (by omega);simp only;split
  .rename_i hb
   let ⟨h3,h4⟩:=NU x.hw _ _ _ v0 (x.hp.pats _ (bT _ (by omega))).1 hb
   refine x.goto (p:=n+1) (s:=fO c (aW c n) (dV D n)) (e:=(dV D n).Env+fP (mI c i.A)) (by unfold dM;simp only[A,we,S];exact eI) x.zG ?_ (λv R=>?_) (by rw[E];simp;omega) x.stack
   .simp only[mG];unfold mI;omega
   .obtain R|R:=eS.1 R
    .exact x.env v R
    .exact h3 v R
  .exact x.goto (p:=i.B) (s:=(dV D n).Stack) (e:=(dV D n).Env) (by rw[<-Lz x.re];unfold dM;simp only[A,we,ib];exact g7 _ eI) rfl x.el x.env
    (by simp only[mG,rH];omega) (um x.stack v0)
 |20,z,_,_,_,_,_,_,_=>exact .inr (.inl rfl)|21,z,_,_,_,tl,_,t,_=>have P:l.length=1:=tl (by decide);exact x.made (t (by unfold dR;omega)) (.cell (x.val (by omega))) (by simp)
 |22,z,_,_,_,tl,_,t,_=>
  have P:l.length=1:=tl (by decide);simp only;unfold IF;split
  .exact .inl rfl
  .rename_i o C
   let ⟨h3,h4,_⟩:=gO x.hw (x.val (by omega)) C
   have:0<o.g9.length:=by cases h4<;>first|(cases h3;done)|simp
   exact x.gr (t (by unfold dR;omega)) (h4.vals _ (bT _ this))
 |23,z,_,_,_,tl,_,t,_=>
  have P:l.length=2:=tl (by decide);simp only;unfold jq;split
  .exact .inl rfl
  .rename_i o C
   let ⟨h3,h4,h5,h6,h7,h8⟩:=gO x.hw (x.val (by omega)) C
   exact yB.set x.hw h6 h7 (.cell (x.val (by omega))) (by simp) (by rw[<-h8];omega) (x.push (t (by unfold dR;omega)) (eM _) zc)
 |24,z,_,_,_,tl,_,t,_=>
  have P:l.length=1:=tl (by decide);have F:=t (by unfold dR;omega);have mk:∀{fr:L au},fN c D w.aP.length ⟨6,0,[],fr⟩->BD c D w (if 120<=w.aP.length then .fail 4 else gr (yb w ⟨6,0,[],fr⟩) left f (AD w.aP.length) (Z ⟨at_,19,0,fR⟩)):=by
   intro fr C;split
   .exact .inr (.inr rfl)
   .refine ⟨x.hw.spawn (by omega) C rfl,⟨_,rfl⟩,(λh=>by cases h),by simp,λj hj=>?_,x.push (k:=(yb w ⟨6,0,[],fr⟩).aP.length) F (by simp) (W9 (by simp)),λj hj _=>?_⟩<;>
    rw[show cO (yb w ⟨6,0,[],fr⟩) j=if j=w.aP.length then _ else cO w j from qf (w:=w),bL (by omega)]
  unfold Fl;simp only;split
  .rename_i b hb;have:=O1 (r:=b.ep) x.hp x.hw (x.val (by omega)) zc hb;exact mk (.sB (fs:=[]) (by simp) (by simp) this)
  .split
   .rename_i o C
    let ⟨h3,h4,_⟩:=gO x.hw (x.val (by omega)) C
    cases h4 with|Ci a b d=>exact mk (Jd (left:=[]) (by simp only[List.length_nil,ny];omega) (by simp) b zc)|_=>cases h3
   .exact .inl rfl
 |25,z,_,_,_,tl,_,t,_=>
  have P:l.length=1:=tl (by decide);simp only;unfold N4;split
  .exact .inl rfl
  .rename_i o C
   let ⟨h3,h4,_⟩:=gO x.hw (x.val (by omega)) C
   split
   .trivial
   .split
    .cases h4 with|dead a=>exact a|done a=>exact absurd rfl ‹_›|sB a b d=>exact absurd rfl ‹¬_=(0:Int)›|_=>cases h3
    .have:0<o.g9.length:=by cases h4 with|done a=>exact Nat.one_pos|dead a=>exact absurd ‹¬_› (by dsimp only;omega)|sB a b d=>exact absurd rfl ‹¬_=(0:Int)›|_=>cases h3
     exact x.gr (t (by unfold dR;omega)) (h4.vals _ (bT _ this))
 |26,z,_,_,_,_,_,t,_=>exact x.made (t (by unfold dR;omega)) (.chan (by simp) (by simp)) (by simp)
 |27,z,_,_,_,tl,_,t,_=>
  have P:l.length=2:=tl (by decide);simp only;unfold MX;split
  .exact .inl rfl
  .rename_i o C
   let ⟨h3,h4,h5,h6,h7,h8⟩:=gO x.hw (x.val (by omega)) C
   split
   .trivial
   .exact yB.set x.hw h6 h7 (.chan (by rw[mG];simp only[rH];omega) (um h4.vals (x.val (by omega)))) (by simp) (by rw[<-h8];omega) (x.push (t (by unfold dR;omega)) (eM _) zc)
 |28,z,_,_,_,tl,_,t,_=>
  have P:l.length=1:=tl (by decide);simp only;unfold MO;split
  .exact .inl rfl
  .rename_i o C
   let ⟨h3,h4,h5,h6,h7,h8⟩:=gO x.hw (x.val (by omega)) C
   have hvs:=h4.vals;have hl4:o.g9.length<=4:=by cases h4<;>first|(cases h3;done)|assumption
   split
   .trivial
   .rename_i v l' hvl;rw[hvl]at hvs hl4;exact yB.set x.hw h6 h7 (.chan (by simp only[ny]at hl4;omega) λu hu=>hvs u (g7 _ hu)) (by simp) (by rw[<-h8];omega) (x.push (t (by unfold dR;omega)) (eM _) (hvs v eI))
 |29,z,_,_,_,tl,_,t,_=>
  have P:l.length=1:=tl (by decide);have v0:=x.val (j:=0) (by omega);have hp:=io.port z;simp only;unfold XT;split
  .exact .inl rfl
  .split
   .exact .inr (.inr rfl)
   .refine ⟨⟨x.hw.len,x.hw.obs,by simp only[mG,rH];omega,λo C=>?_,x.hw.ins,x.hw.inn,x.hw.used,x.hw.En,x.hw.tl,x.hw.task,x.hw.all⟩,⟨[],by simp⟩,λ_=>rfl,eM _,λ_ _=>vO,x.push (t (by unfold dR;omega)) (eM _) zc,λ_ _ _=>rfl⟩;obtain C|C:=eS.1 C
    .exact x.hw.out o C
    .rw[tj.1 C];exact⟨hp.1,hp.2,v0.int (by omega)⟩
 |30,z,_,_,_,_,_,t,_=>
  have hi:=x.hw.inn;have hil:=x.hw.ins;have hu:=x.hw.used;simp only;unfold inS;split
  .trivial
  .rename_i j l' hl';rw[hl']at hi hil;split
   .exact .inr (.inr rfl)
   .exact ⟨⟨x.hw.len,x.hw.obs,x.hw.outs,x.hw.out,by simp only[ny]at hil;simp only;omega,λy hy=>hi y (g7 _ hy),by simp only;omega,x.hw.En,x.hw.tl,x.hw.task,x.hw.all⟩,⟨[],by simp⟩,λ_=>rfl,eM _,λ_ _=>vO,x.push (t (by unfold dR;omega)) (eM _) (Yt (hi j eI)),λ_ _ _=>rfl⟩
 |31,z,_,_,A,_,_,t,E=>
  refine He x.hw λh=>.sB (by simp only[mG,rH]at h ⊢;omega) (λg B=>?_) ?_
  .obtain B|B:=eS.1 B
   .exact x.left g B
   .rw[tj.1 B];exact x.wait (t (by unfold dR;omega))
  .exact x.fr (g:=⟨i.A,f.Env,[],W⟩) (p:=i.A) (s:=0) (e:=(dV D n).Env) (by unfold dM;simp only[A,we,S];exact g7 _ eI) (eM _) rfl x.el x.env (by simp) (by simp)
 |32,z,_,_,A,_,_,t,E=>
  have all:∀g∈left++[f],dm c D w.aP.length 1 g:=λg B=>by
   obtain B|B:=eS.1 B
   .exact x.left g B
   .rw[tj.1 B];exact x.wait (t (by unfold dR;omega))
  simp only;unfold Kx;split
  .exact .inr (.inl rfl)
  .rename_i k hk'
   let ⟨h3,h4⟩:=zC hk'
   split
   .exact .inr (.inr rfl)
   .have hlf:(left++[f]).length=left.length+1:=by simp
    have hd:(left++[f]).drop k=(left++[f])[k]::(left++[f]).drop (k+1):=Tf h3;have hko:fN c D w.aP.length ⟨5,0,[],(left++[f]).drop k⟩:=by rw[hd];refine .Ci (by rw[Ta];omega) (λg B=>?_) h4;exact all g (List.mem_of_mem_drop (i:=k) (by rw[hd];exact B))
    refine yB.add x.hw (by omega) hko (by simp) (.sB (by rw[KJ];omega) (λg B=>(all g (UZ B)).mono (by omega)) ?_);exact x.fr (p:=i.A) (s:=0) (e:=(dV D n).Env+1) (by unfold dM;simp only[A,we,S];exact g7 _ eI) (by omega) rfl (by simp only[mG,rH];omega)
     (um (λv R=>(x.env v R).mono (by omega)) (W9 (by omega))) (by simp) (by simp)
 |33,z,_,_,_,_,_,t,_=>exact x.gr (t (by unfold dR;omega)) zc
 |34,z,_,_,_,tl,_,t,_=>
  have P:l.length=1:=tl (by decide);have v0:=x.val (j:=0) (by omega);have I:=x.left;obtain rfl|⟨l',g,rfl⟩:=List.eq_nil_or_concat left
  .exact v0
  .rw[List.concat_eq_append]at *
   rw[M6];simp at hfl;exact yB.same x.hw (.sB (by omega) (λg B=>I g (fL _ B)) ((I g (by simp)).push v0))
 |q+35,z,hq1,hq2,A,tl,K,t,E=>omega
theorem GL(e:fN c D w.aP.length o)(h6:o.Form=6)(h:o.N=0):∃fs f,o=⟨6,0,[],fs++[f]⟩∧fs.length<40∧(∀g∈fs,dm c D w.aP.length 1 g)∧dm c D w.aP.length 0 f:=by
 cases e with
 |sB a b d=>grind|done=>cases h
 |dead a=>simp_all|_=>cases h6
theorem ZC(b:se c D)(d:jD c D w){fs:L au}{f:au}(h1:fs.length<40)(h2:∀g∈fs,dm c D w.aP.length 1 g)(h3:dm c D w.aP.length 0 f) :
  Cx c D w fs (aW c f.At) ⟨f.At+1,f.Env,f.Stack.take (f.Stack.length-cC c (aW c f.At)),f.ep⟩ (f.Stack.drop (f.Stack.length-cC c (aW c f.At))) f.At:=by
 have nd:=(b.dep.ok f.At h3.lo h3.hi h3.re).2.2.1;have sl:=h3.sl;exact⟨b,d,h3.lo,h3.hi,h3.re,rfl,rfl,h3.el,h3.env,by grind,λv a=>h3.stack v (UZ a),by grind,
  λv a=>h3.stack v (List.mem_of_mem_drop a),h1,h2⟩
theorem Ln{fs:L au}{f:au}:goS c w at_ ⟨6,0,[],fs++[f]⟩=
  iF c w at_ fs (aW c f.At) ⟨f.At+1,f.Env,f.Stack.take (f.Stack.length-cC c (aW c f.At)),f.ep⟩ (f.Stack.drop (f.Stack.length-cC c (aW c f.At))):=by
 grind[goS]
def Zc(a:se c D)(b:jD c D w)(d:fN c D w.aP.length o)(h6:o.Form=6)(e:o.N=0):BD c D w (goS c w at_ o):=by obtain⟨g,f,rfl,h1,h2,h3⟩:=GL d h6 e;rw[Ln];exact afv (ZC a b h1 h2 h3)
def xG(g:se c D)(d:jD c D w)(i:0<=at_)(h1:at_<w.bg.length){e:O aM}(hs:kN c w at_=Z (w',e)) :
  jD c D w'∧(∃l,w'.bg=w.bg++l)∧(e=Y->w'.bg=w.bg):=by
 let ⟨t1,t2,t3⟩:=d.task _ (bT 0 (show at_.toNat<w.bg.length by omega))
 have f:=d.ob t1 t2;change 0<=cg w at_ at t1;change cg w at_<_ at t2;change(cO w (cg w at_)).Form=6 at t3;change fN c D _ (cO w (cg w at_))at f;unfold kN at hs;simp only at hs;split at hs
 .cases hs
 .have a:=Zc (at_:=at_) g d f t3 (by omega);split at hs
  .cases hs
  .rename_i b;rw[b]at a;cases hs;exact⟨d.set t1 t2 (.dead a) ⟨λ_=>t3,λ_=>rfl⟩,⟨[],by simp[ku]⟩,λ_=>rfl⟩
  .rename_i b;rw[b]at a;cases hs;exact⟨d.set t1 t2 (.done a) ⟨λ_=>t3,λ_=>rfl⟩,⟨[],by simp[ku]⟩,λ_=>rfl⟩
  .rename_i b;rw[b]at a;cases hs;have h:=a.ln;have e0:(((cg w at_).toNat:Nat):Int)=cg w at_:=by omega
   refine⟨a.ok.set t1 (by omega) a.ob ⟨λ_=>?_,λ_=>rfl⟩,a.tk,a.tn⟩;have:=a.fm (cg w at_).toNat (by omega)
   simp_all
end
end
section
abbrev SB:=U×Int×L au×Int×L aA×L aA×Bool×Int×Int×Int×O aM×U
abbrev MB:=(L bI×L Int×L ei×L Int×Int×L bO×L aD×L Int×Int×L cq×L aq×U)×U
abbrev MP:=L (Int×Bool)
abbrev tb(a:Int)(bl:L au)(p:Int)(env st:L aA)(rs:Bool)(op A B:Int)(e:O aM):SB:=((),a,bl,p,env,st,rs,op,A,B,e,())
abbrev mb(c:ax)(dd:L aq)(w:aj):MB:=((w.aP,w.bg,w.mU,w.dG,w.Used,c.dG,c.ew,c.cU,c.Main,c.Cons,dd,()),())
abbrev fl(s:Int):Any:=Any.a0 ⟨J,s⟩
abbrev wt:Any:=Any.a0 ⟨W,0⟩
section
variable {n:Nat}{a p op A B form:Int}{bl fr:List au}{env st l:List aA}{rs:Bool}{e:Option aM}{T:SB}{R:MB}{M:MP}{c:ax}{dd:List aq}{w:aj}{u v:aA}{o:bI}
theorem WC:F46 n ()=Z ((fR,()),()):=rfl
theorem V0(k:Int):F252 n (k,())=Z ((iu k,()),()):=rfl
def Zu(b:Bool):F253 n (b,())=Z ((jk b,()),()):=by cases b<;>rfl
def aex(k:Int):F253 n (aa k 1,())=Z ((jk (k==1),()),()):=Zu _
def jC(b:Bool)(s:Int):F259 n (b,s,())=bif b then Z (.ok ((),()))else Z (.iE (fl s,())):=by cases b<;>rfl
def IM(b:Bool):F268 n (b,())=bif b then Z (.ok ((),()))else Z (.iE (wt,())):=by cases b<;>rfl
def CE:F301 n (v,())=Z ((rS v,()),()):=by
 unfold F301 rS;by_cases h:v.Kind=4
 .simp[h,bu];rfl
 .by_cases a:v.Kind=5
  .simp[a,bu];rfl
  simp_all[bu]
theorem ak1(l:L bI):F172 n (l,())=Z ((l,()),()):=rfl
theorem ada(l:L au):F238 n (l,())=Z ((l,()),()):=rfl
theorem ac9(l:L aA):F239 n (l,())=Z ((l,()),()):=rfl
theorem e47(l:L Int):F47 n (l,())=Z ((l,()),()):=rfl
theorem arz(l:L ei):F156 n (l,())=Z ((l,()),()):=rfl
def xF{α:Type}(a:α)(l:L α)(k:Int)(b:k=((l.length+1:Nat):Int)):cY (a::l) 1 k=l:=by subst b;simp[cY]
variable {k:Int}{g:au}
def n7{α:Type}(l m:L α)(a:k=(l.length:Int)):cY (l++m) 0 k=l:=by subst a;simp[cY]
def j9{α:Type}(l:L α)(a d:α)(m:L α){k:Nat}(b:k=l.length):(l++a::m).getD k d=a:=by simp_all
def PZ{k:Nat}(h:k<=100000):bF .i64 ((k+(0+1):Nat):Int) 1=(k:Int):=by rw[dc]<;>omega
def nG(h:st.length<=1000)(b:l.length<=1000):F251 n (tb a bl p env st rs op A B e,R,M,l,())=Z ((),tb a bl p env (st++l) rs op A B e,R,M,()):=by unfold F251 z4;simp(disch:=omega) [bu]
def m6(h:st.length<=1000):F260 n (tb a bl p env (st++[v]) rs op A B e,R,M,())=Z ((v,()),tb a bl p env st rs op A B e,R,M,()):=by unfold F260 HW;simp(disch:=first|omega|simp only[mK];omega)only[bu,PZ,j9,n7]
def tR(h:st.length<=900):F255 n (tb a bl p env (st++[u,v]) rs op A B e,R,M,())=Z ((u,v,()),tb a bl p env st rs op A B e,R,M,()):=by unfold F255;rw[show st++[u,v]=(st++[u])++[v]by simp,m6 (by simp;omega)];simp[bu];rw[m6 (by omega)];rfl
def KP:O bI->bI×Bool×U
 |some o=>(o,W,())|none=>(bG,J,())
def Zt(a:v.Kind=5->0<=v.N∧v.N<w.aP.length):F300 n (T,mb c dd w,M,v,form,())=Z (KP (jU w v form),T,mb c dd w,M,()):=by
 unfold F300 jU cO;by_cases h:v.Kind=5
 .let ⟨h1,h2⟩:=a h
  by_cases b:(w.aP.getD v.N.toNat bG).Form=form
  .simp_all[bu,KP]
  simp_all[bu,KP]
 simp_all[bu,KP]
def zL(a:v.Kind=5->0<=v.N∧v.N<w.aP.length):F265 n (T,mb c dd w,M,v,form,())=match jU w v form with
  |some o=>Z (.ok ((o,()),T,mb c dd w,M,()))|none=>Z (.iE (fl 2,T,mb c dd w,M,())):=by
 unfold F265;rw[Zt a];cases jU w v form<;>simp only[bu,jC,KP]
theorem CG(h1:w.aP.length<=1000):F254 n (T,mb c dd w,M,o,())=
  if 120<=w.aP.length then Z (.iE (fl 4,T,mb c dd w,M,()))else Z (.ok ((AD w.aP.length,()),T,mb c dd (gR w o),M,())):=by
 unfold F254;split
 .simp (disch:=omega) [bu,jC]
 .simp (disch:=first|omega|simp only[mK];omega)only[bu,jC,gR,gj]
  grind[dc,AD]
def agO(b:0<=k)(a:k<w.aP.length):F266 n (T,mb c dd w,M,k,o,())=Z ((),T,mb c dd (ku w k o),M,()):=by
 simp_all[F266,bu,ak1,ku]
def agS(d:0<=k)(a:k<w.bg.length)(e:0<=cg w k)(b:cg w k<w.aP.length):F121 n (mb c dd w,M,k,o,())=Z ((),mb c dd (ku w (cg w k) o),M,()):=by
 simp_all[cg,F121,bu,ak1,ku]
def akZ(h1:bl.length<=1000)(h2:fr.length<=1000):F257 n (tb a bl p env st rs op A B e,R,M,fr++[g],())=
  if 40<bl.length+1+(fr.length+1)then Z (.iE (fl 4,tb a bl p env st rs op A B e,R,M,()))
  else Z (.ok ((),tb a (bl++[⟨p,env,st,rs⟩]++fr) g.At g.Env g.Stack g.ep op A B e,R,M,())):=by
 unfold F257 zZ Mc HX;split
 .simp (disch:=omega) [bu,jC,bQ]
 .simp (disch:=first|omega|simp only[mK];omega)only[bu,jC,bQ,PZ,j9,n7,zZ]
def Em(hf:u.Kind=4->0<=u.N∧u.N<c.cU.length)(a:u.Kind=5->0<=u.N∧u.N<w.aP.length)(hn:∀o,jU w u 2=Z o->o.g9.length<=1000) :
  F256 n (T,mb c dd w,M,u,v,())=match mS c w u v with
   |none=>Z ((aS,J,()),T,mb c dd w,M,())|some b=>Z ((b,W,()),T,mb c dd w,M,()):=by
 unfold F256 mS;by_cases h:u.Kind=4
 .simp_all[bu]
 .simp (disch:=omega) [bu,h,yo];rw[Zt a];cases d:jU w u 2 with|none=>rfl|some o=>have:=hn o d;simp(disch:=first|omega|simp[mK];omega) [bu,KP]
def Qo{l:L au}:∀{m:L au},m=l++[g]->mE m v=l++[vD g v]:=by
 intro m b;subst b
 induction l with
 |nil=>rfl|cons a l c=>
  simp_all[mE]
def OI(b:v.Kind=5->0<=v.N∧v.N<w.aP.length)(hn:∀o,jU w v 5=Z o->o.Frames≠[]∧o.Frames.length<=1000∧∀g∈o.Frames,g.Stack.length<=1000) :
  F258 n (T,mb c dd w,M,v,u,())=match jU w v 5 with
   |none=>Z (.iE (fl 2,T,mb c dd w,M,()))|some o=>Z (.ok ((mE o.Frames u,()),T,mb c dd w,M,())):=by
 unfold F258;rw[zL b];cases d:jU w v 5 with
 |none=>rfl|some o=>
  let ⟨h1,h2,h3⟩:=hn o d
  obtain⟨l,g,a⟩:∃l g,o.Frames=l++[g]:=⟨_,_,(List.dropLast_concat_getLast h1).symm⟩;have f:=h3 g (by rw[a];simp);rw[a]at h2;simp only[mG,rH]at h2;have e:∀x:au,(l++[g]).set l.length x=l++[x]:=λx=>by simp_all
  simp only;rw[Qo a];simp(disch:=first|omega|simp only[mK];omega)only[bu,ada,a,oS,PZ,j9,e,vD]
end
end
section
abbrev Out:=Rx (U×SB×MB×MP×U) (Any×SB×MB×MP×U)
def HP(c:ax)(dd:L aq)(M:MP)(w:aj)(a op A B:Int)(r:sY)(y:Out):Prop:=match r with
 |.fail s=>∃T w1,y=.iE (fl s,T,mb c dd w1,M,())|.waits=>∃T w1,y=.iE (wt,T,mb c dd w1,M,())|.done v=>∃(bl:L au)(g:au),y=.ok ((),tb a bl g.At g.Env g.Stack g.ep op A B (Z ⟨a,0,1,rS v⟩),mb c dd (ku w (cg w a) ⟨6,1,[v],[]⟩),M,())|.go w' fr e=>∃(bl:L au)(g:au),fr=bl++[g]∧bl.length<=1000∧y=.ok ((),tb a bl g.At g.Env g.Stack g.ep op A B e,mb c dd w',M,())
def dX(c:ax)(dd:L aq)(M:MP)(w:aj)(a op A B:Int)(r:sY)(f:Nat->O Out):Prop:=∃y,Ev f y∧HP c dd M w a op A B r y
def dX.of_eq{c:ax}{dd:L aq}{M:MP}{w:aj}{a op A B:Int}{r:sY}{f:Nat->O Out}{y:Out}(h:∀n,f n=Z y)(b:HP c dd M w a op A B r y):dX c dd M w a op A B r f:=⟨y,bK h,b⟩
def Eh(x:O (U×SB×MB×MP×U)):O Out:=ah x λr=>Z (.ok r)
section
variable {c:ax}{dd:List aq}{M:MP}{w:aj}{left:List au}{i:bO}{f:au}{l:List aA}{m a:Int}
abbrev s5(a:Int)(left:L au)(f:au)(l:L aA)(i:bO):SB:=tb a left f.At f.Env (f.Stack++l) f.ep i.Op i.A i.B Y
structure Sx(c:ax)(dd:List aq)(w:aj)(left:List au)(i:bO)(f:au)(l:List aA)(m a:Int):Prop where
 cx:Cx c dd w left i f l m
 a0:0<=a
 a1:a<w.bg.length
def Sx.st(x:Sx c dd w left i f l m a):f.Stack.length<=60∧f.Env.length<=30:=by have:=x.cx.sl;have:=x.cx.el;have:=(x.cx.hp.dep.ok m x.cx.n0 x.cx.n1 x.cx.re);omega
variable {q:Int}{e:Option aM}
def Sx.one(x:Sx c dd w left i f l m a)(h:i.Op=q)(b:q≠18)(d:kT.getD q.toNat 0=1):∃v,l=[v]∧cH c w.aP.length v:=by
 have:=x.cx.tl h b;rw[d]at this
 match l,this,x.cx.vals with
 |[v],_,e=>simp_all
theorem Sx.two(x:Sx c dd w left i f l m a){q:Int}(h:i.Op=q)(b:q≠18)(d:kT.getD q.toNat 0=2):∃u v,l=[u,v]∧cH c w.aP.length u∧cH c w.aP.length v:=by
 have:=x.cx.tl h b;rw[d]at this
 match l,this,x.cx.vals with
 |[u,v],_,e=>grind
def Sx.nil(x:Sx c dd w left i f l m a)(h:i.Op=q)(b:q≠18)(d:kT.getD q.toNat 0=0):l=[]:=by
 have:=x.cx.tl h b
 simp_all
def xN(x:Sx c dd w left i f l m a):w.aP.length<=120:=x.cx.hw.len
theorem oN(x:Sx c dd w left i f l m a){u:aA}(b:cH c w.aP.length u):∀o,jU w u 2=Z o->o.g9.length<=1000:=by
 intro o d
 let ⟨h1,h2,_⟩:=gO x.cx.hw b d
 cases h2 with
 |func p q r=>
  let ⟨h3,h4,h5,_⟩:=Ht x.cx.hp p
  have:=x.cx.hp.dep.ok _ h3 h4 h5
  grind
 |_=>cases h1
def aer(x:Sx c dd w left i f l m a){b:Int}{g:au}(hl:0<=b)(h:dm c dd w.aP.length b g):g.Stack.length<=60∧g.Env.length<=30:=by have:=x.cx.hp.dep.ok _ h.lo h.hi h.re;have:=h.sl;have:=h.el;omega
theorem pP(x:Sx c dd w left i f l m a){u:aA}(b:cH c w.aP.length u):∀o,jU w u 5=Z o->o.Frames≠[]∧o.Frames.length<=1000∧∀g∈o.Frames,g.Stack.length<=1000:=by
 intro o d
 let ⟨h1,h2,_⟩:=gO x.cx.hw b d
 cases h2 with|Ci p q r=>exact⟨by simp,by grind,λg e=>by have:=(aer x (by omega) (q g e)).1;omega⟩|_=>cases h1
def jv{w':aj}{v:aA}{y:Out}(hl:left.length<=1000)(h:y=.ok ((),tb a left f.At f.Env (f.Stack++[v]) f.ep i.Op i.A i.B e,mb c dd w',M,())):HP c dd M w a i.Op i.A i.B (gr w' left f v e) y:=
 ⟨left,vD f v,rfl,hl,h⟩
def abV(x:Sx c dd w left i f l m a)(b:i.Op=1∨i.Op=2∨i.Op=3∨i.Op=5):dX c dd M w a i.Op i.A i.B (iF c w a left i f l) (λn=>Eh (F173 n (s5 a left f l i,mb c dd w,M,()))):=by
 have g:=x.st;have d:l=[]:=by obtain h|h|h|h:=b<;>exact x.nil h (by decide) rfl
 have e:=x.cx.fl;subst d;unfold iF;obtain h|h|h|h:=b<;>simp only[show i.Op.toNat=_ from fq Int.toNat h,Int.reduceToNat]<;>refine .of_eq (λn=>?_) (jv (by omega) rfl)<;>unfold F173 Me Eh
 .simp (disch:=first|omega|simp only[mK];omega)only[bu,jB,V0,nG]<;>rfl
 .simp (disch:=first|omega|simp only[mK];omega)only[bu,jB,aex,nG]<;>rfl
 .simp (disch:=first|omega|simp only[mK];omega)only[bu,jB,WC,nG]<;>rfl
 .simp (disch:=first|omega|simp only[mK];omega)only[bu,jB,nG]<;>rfl
def an1(x:Sx c dd w left i f l m a)(h:i.Op=4):dX c dd M w a i.Op i.A i.B (iF c w a left i f l) (λn=>Eh (F174 n (s5 a left f l i,mb c dd w,M,()))):=by have e:=x.st;have b:=x.nil h (by decide) rfl;have d:=x.cx.fl;have h1:=x.cx.nd.2.1 h;have h2:=x.cx.io.place h;have h3:=x.cx.el;subst b;unfold iF;simp[show i.Op.toNat=4 from fq Int.toNat h];exact .of_eq (λn=>by unfold F174 Eh;simp(disch:=first|omega|simp only[mK];omega)only[bu,jB,nG]<;>rfl) (jv (by omega) rfl)
def abU{o:bI}{k:Nat->O (Rx ((aA×U)×SB×MB×MP×U) (Any×SB×MB×MP×U))}{T:SB}(g:Nat->(aA×U)×SB×MB×MP×U->O Out)(hl:left.length<=1000)
  (h:∀n,k n=if 120<=w.aP.length then Z (.iE (fl 4,T,mb c dd w,M,()))else Z (.ok ((AD w.aP.length,()),T,mb c dd (gR w o),M,())))
  (b:∀n,g n ((AD w.aP.length,()),T,mb c dd (gR w o),M,())=Z (.ok ((),tb a left f.At f.Env (f.Stack++[AD w.aP.length]) f.ep i.Op i.A i.B e,mb c dd (gR w o),M,()))) :
  dX c dd M w a i.Op i.A i.B (o5 w left f o e) (λn=>ah (k n) λy=>cr y (g n) λd=>Z (Rx.iE d)):=by
 unfold o5;split
 .exact .of_eq (y:=.iE (fl 4,T,mb c dd w,M,())) (λn=>by rw[h,bw (by assumption)];rfl) ⟨_,_,rfl⟩
 .exact .of_eq (λn=>by rw[h,bL (by assumption)];exact b n) (jv hl rfl)
def an0(x:Sx c dd w left i f l m a)(h:i.Op=6):dX c dd M w a i.Op i.A i.B (iF c w a left i f l) (λn=>F175 n (s5 a left f l i,mb c dd w,M,())):=by have g:=x.st;have b:=x.nil h (by decide) rfl;have e:=x.cx.fl;have j:=xN x;subst b;unfold iF;simp[show i.Op.toNat=6 from fq Int.toNat h];refine abU (k:=λn=>_) (λn d=>_) (by omega) (λn=>CG (by omega)) λn=>?_;simp(disch:=first|omega|simp only[mK];omega)only[bu,jB,nG]
end
end
section
section
variable {c:ax}{dd:List aq}{M:MP}{w:aj}{left fr:List au}{i:bO}{f g:au}{l:List aA}{m a op A B:Int}{u v:aA}
theorem bN{X R B P α:Type}(x:X)(e:X->O α)(f:Nat->X->O α)(g:B->R->O α)(h:B->P->O α):cM (.next x) e f g h=e x:=rfl
theorem afR{X R B P α:Type}(b:B)(q:P)(e:X->O α)(f:Nat->X->O α)(g:B->R->O α)(h:B->P->O α):cM (.iE b q) e f g h=h b q:=rfl
theorem RI{b:au}(h:mS c w u v=Z b):b=⟨b.At,b.Env,[],J⟩:=by
 grind[mS]
def KX(h1:left.length<=900)(h2:fr.length<=900):dX c dd M w a op A B (oO w (left++[f]) (fr++[g]))
  (λn=>ah (F257 n (tb a left f.At f.Env f.Stack f.ep op A B Y,mb c dd w,M,fr++[g],())) λy=>cr y (λx=>Z (G x)) λx=>Z (Rx.iE x)):=by
 unfold oO;split
 .rename_i h;simp at h;exact .of_eq (λn=>by rw[akZ (by omega) (by omega),bw (by omega)];rfl) ⟨_,_,rfl⟩
 .rename_i h;simp only[mG,rH]at h;exact .of_eq (y:=.ok ((),tb a (left++[f]++fr) g.At g.Env g.Stack g.ep op A B Y,mb c dd w,M,())) (λn=>by rw[akZ (by omega) (by omega),bL (by omega)];rfl)
   ⟨left++[f]++fr,g,by simp,by simp;omega,rfl⟩
theorem Gt(x:Sx c dd w left i f l m a)(d:cH c w.aP.length u){o:bI}(e:jU w u 5=Z o):∃b g,mE o.Frames v=b++[g]∧b.length<=40:=by
 let ⟨h1,h2,h3⟩:=pP x d o e
 let ⟨h,j,_⟩:=gO x.cx.hw d e
 cases j with
 |Ci p q r=>
  obtain⟨b,n,s,k⟩:=pE _ _ v;refine⟨b,_,k,?_⟩
  grind
 |_=>cases h
theorem anZ(x:Sx c dd w left i f l m a)(h:i.Op=7):dX c dd M w a i.Op i.A i.B (iF c w a left i f l) (λn=>F176 n (s5 a left f l i,mb c dd w,M,())):=by
 obtain⟨u,v,rfl,d,t⟩:=x.two h (by decide) rfl;have z:=x.st;have k:=x.cx.fl;unfold iF F176;simp[show i.Op.toNat=7 from fq Int.toNat h];show dX _ _ _ _ _ _ _ _ (rq c w (left++[f]) u v J) _;unfold rq;cases e:mS c w u v with
 |some b=>
  have p:=RI e;simp only
  let ⟨y,h1,h2⟩:=KX (c:=c) (dd:=dd) (M:=M) (w:=w) (left:=left) (fr:=[]) (f:=f) (g:=b) (a:=a) (op:=i.Op) (A:=i.A) (B:=i.B) (by omega) (by simp)
  rw[Nw]at h1 h2;refine⟨y,Ev.r5 (λn=>?_) h1,by grind⟩;simp(disch:=omega) [bu,tR,Em (λh=>d.code h) (λh=>d.ref h) (oN x d),e]<;>rfl
 |none=>
  cases j:jU w u 5 with
  |none=>exact .of_eq (λn=>by simp(disch:=omega)only[bu,tR,Em (λh=>d.code h) (λh=>d.ref h) (oN x d),e,OI (λh=>d.ref h) (pP x d),j]<;>rfl) ⟨_,_,rfl⟩
  |some o=>
   let ⟨q,r,s,C⟩:=Gt (v:=v) x d j
   simp only
   let ⟨y,h1,h2⟩:=KX (c:=c) (dd:=dd) (M:=M) (w:=w) (left:=left) (fr:=q) (f:=f) (g:=r) (a:=a) (op:=i.Op) (A:=i.A) (B:=i.B) (by omega) (by omega)
   rw[<-s]at h1 h2;refine⟨y,Ev.r5 (λn=>?_) h1,h2⟩;simp(disch:=omega) [bu,tR,Em (λh=>d.code h) (λh=>d.ref h) (oN x d),e,OI (λh=>d.ref h) (pP x d),j]<;>rfl
def anY(x:Sx c dd w left i f l m a)(h:i.Op=8):dX c dd M w a i.Op i.A i.B (iF c w a left i f l) (λn=>F177 n (s5 a left f l i,mb c dd w,M,())):=by
 obtain⟨u,v,rfl,d,s⟩:=x.two h (by decide) rfl;have t:=x.st;have p:=x.cx.fl;unfold iF F177;simp[show i.Op.toNat=8 from fq Int.toNat h];show dX _ _ _ _ _ _ _ _ (rq c w left u v f.ep) _;unfold rq;cases e:mS c w u v with
 |some b=>simp only;unfold oO;rw[bL (by simp;omega)];exact .of_eq (λn=>by simp(disch:=omega) [bu,tR,Em (λh=>d.code h) (λh=>d.ref h) (oN x d),e]<;>rfl) ⟨left,⟨b.At,b.Env,b.Stack,f.ep⟩,rfl,by omega,rfl⟩
 |none=>
  cases g:jU w u 5 with
  |none=>exact .of_eq (λn=>by simp(disch:=omega)only[bu,tR,Em (λh=>d.code h) (λh=>d.ref h) (oN x d),e,OI (λh=>d.ref h) (pP x d),g]<;>rfl) ⟨_,_,rfl⟩
  |some o=>
   let ⟨q,r,j,y⟩:=Gt (v:=v) x d g
   simp only;rw[j];unfold oO;split<;>rename_i k<;>simp only[mG,rH]at k
   .exact .of_eq (λn=>by simp(disch:=omega)only[bu,tR,Em (λh=>d.code h) (λh=>d.ref h) (oN x d),e,OI (λh=>d.ref h) (pP x d),g,j,jC,bQ]<;>rfl) ⟨_,_,rfl⟩
   .exact .of_eq (λn=>by simp(disch:=first|omega|simp only[mK];omega)only[bu,tR,Em (λh=>d.code h) (λh=>d.ref h) (oN x d),e,OI (λh=>d.ref h) (pP x d),g,j,jC,bQ,H8,PZ,j9,n7]<;>rfl)
     ⟨left++q,r,by simp,by simp;omega,rfl⟩
variable {e:Option aM}{k:Int}
def Cg{g:au}{y:Out}(hl:left.length<=1000)(h:y=.ok ((),tb a left g.At g.Env g.Stack g.ep op A B e,mb c dd w,M,())):HP c dd M w a op A B (.go w (left++[g]) e) y:=
 ⟨left,g,rfl,hl,h⟩
def anX(x:Sx c dd w left i f l m a)(h:i.Op=9):dX c dd M w a i.Op i.A i.B (iF c w a left i f l) (λn=>Eh (F178 n (s5 a left f l i,mb c dd w,M,()))):=by obtain⟨v,rfl,d⟩:=x.one h (by decide) rfl;have e:=x.st;have b:=x.cx.fl;unfold iF F178 Eh;simp[show i.Op.toNat=9 from fq Int.toNat h];exact .of_eq (λn=>by simp(disch:=first|omega|simp only[mK];omega)only[bu,m6,Aa]<;>rfl) (Cg (by omega) rfl)
def anW(x:Sx c dd w left i f l m a)(h:i.Op=10):dX c dd M w a i.Op i.A i.B (iF c w a left i f l) (λn=>Eh (F179 n (s5 a left f l i,mb c dd w,M,()))):=by have b:=x.nil h (by decide) rfl;have e:=x.st;have d:=x.cx.fl;have h1:=x.cx.io.drop h;have h2:=x.cx.nd.2.2.1 h;have h3:=x.cx.el;subst b;unfold iF F179 Eh;simp only[show i.Op.toNat=10 from fq Int.toNat h];refine .of_eq (λn=>by simp(disch:=omega)only[bu,jB,dc]<;>rfl) (Cg (by omega) ?_);rw[EG,show((f.Env.length:Int)-i.A).toNat=f.Env.length-i.A.toNat by omega]
def anV(x:Sx c dd w left i f l m a)(h:i.Op=11):dX c dd M w a i.Op i.A i.B (iF c w a left i f l) (λn=>Eh (F180 n (s5 a left f l i,mb c dd w,M,()))):=by have b:=x.nil h (by decide) rfl;have d:=x.cx.fl;subst b;unfold iF F180 Eh;simp only[show i.Op.toNat=11 from fq Int.toNat h];exact .of_eq (λn=>by simp[bu,jB]<;>rfl) (Cg (by omega) rfl)
def anU(x:Sx c dd w left i f l m a)(h:i.Op=12):dX c dd M w a i.Op i.A i.B (iF c w a left i f l) (λn=>F181 n (s5 a left f l i,mb c dd w,M,())):=by
 obtain⟨v,rfl,g⟩:=x.one h (by decide) rfl;have j:=x.st;have d:=x.cx.fl;unfold iF F181;simp only[show i.Op.toNat=12 from fq Int.toNat h];show dX _ _ _ _ _ _ _ _ (if v.Kind≠2 then _ else .go w (left++[⟨if v.N=0 then _ else _,_,_,_⟩]) Y) _;by_cases e:v.Kind=2
 .rw[bL (by omega)];by_cases b:v.N=0
  .exact .of_eq (λn=>by simp(disch:=omega)only[bu,m6,jC]<;>rfl) (Cg (by omega) (by rw[bw b]))
  .exact .of_eq (λn=>by simp(disch:=omega)only[bu,m6,jC]<;>rfl) (Cg (by omega) (by rw[bL b]))
 .rw[bw e];exact .of_eq (λn=>by simp(disch:=omega)only[bu,m6,jC]<;>rfl) ⟨_,_,rfl⟩
def ac8{n:Nat}{p:Int}{bl:L au}{env st:L aA}{b:Bool}{R:MB}(h:st.length<=900):F262 n (tb a bl p env (st++[u,v]) b op A B e,R,M,())=
  if u.Kind=1∧v.Kind=1 then Z (.ok ((u.N,v.N,()),tb a bl p env st b op A B e,R,M,()))else Z (.iE (fl 2,tb a bl p env st b op A B e,R,M,())):=by
 unfold F262 Sr;by_cases h1:u.Kind=1
 .by_cases h2:v.Kind=1
  .simp_all[bu,tR,jC]
  simp_all[bu,tR,jC]
 simp_all[bu,tR,jC]
def aiM{F:Nat->O Out}(hl:left.length<=1000)(h:∀n,F n=if j5 k=W then Z (.ok ((),tb a left f.At f.Env (f.Stack++[iu k]) f.ep i.Op i.A i.B Y,mb c dd w,M,()))else Z (.iE (fl 4,tb a left f.At f.Env f.Stack f.ep i.Op i.A i.B Y,mb c dd w,M,()))) :
  dX c dd M w a i.Op i.A i.B (if j5 k=W then gr w left f (iu k)else .fail 4) F:=by
 split
 .exact .of_eq (λn=>by rw[h,bw (by assumption)]) (jv hl rfl)
 .exact .of_eq (λn=>by rw[h,bL (by assumption)]) ⟨_,_,rfl⟩
def xS(h:-1000000000<=k):j5 k=decide (k<=1000000000):=by simp[j5,h]
def Lf(h:k< -1000000000):j5 k=J:=by simp[j5];omega
def afA{x y:Int}(h1:j5 x=W)(h2:j5 y=W):-1000000000000000000<=x*y∧x*y<=1000000000000000000:=by
 simp[j5,eZ,rF]at h1 h2;have h3:(x*y).natAbs<=1000000000*1000000000:=by rw[Int.natAbs_mul];exact Np (by omega) (by omega)
 omega
def afD(x:Sx c dd w left i f l m a)(e:i.Op=13∨i.Op=14∨i.Op=15):dX c dd M w a i.Op i.A i.B (iF c w a left i f l) (λn=>F182 n (s5 a left f l i,mb c dd w,M,())):=by
 obtain⟨u,v,rfl,o,p⟩:∃u v,l=[u,v]∧cH c w.aP.length u∧cH c w.aP.length v:=by obtain h|h|h:=e<;>exact x.two h (by decide) rfl
 have s:=x.st;have q:=x.cx.fl;have r:iF c w a left i f [u,v]=uU w left f i.Op u v:=by unfold iF;obtain h|h|h:=e<;>simp only[show i.Op.toNat=_ from fq Int.toNat h,Int.reduceToNat]<;>rfl
 rw[r];unfold uU F182;rw[bL (by omega)];by_cases g:u.Kind=1∧v.Kind=1
 .rw[bL (by omega),bL (by omega)];have j:=o.int g.1;have k:=p.int g.2;have t:=afA j k;simp[j5,eZ,rF]at j k;simp only;refine aiM (by omega) λn=>?_;obtain h|h|h:=e
  all_goals
   simp only[h,sr,Int.reduceEq,yo];rw[ac8 (by omega),bw g]
  .by_cases b:-1000000000<=u.N+v.N
   .by_cases d:u.N+v.N<=1000000000
    .simp (disch:=first|omega|simp only[mK];omega)only[bu,h,bQ,bN,rB,jC,V0,nG,xS b,kz d,sr]
    .simp (disch:=omega) [bu,h,bQ,bN,rB,jC,xS b,je d,Ng,yo]
   .simp (disch:=omega) [bu,h,bQ,bN,rB,jC,Lf (Int.not_le.1 b),Ng,yo]
  .by_cases b:-1000000000<=u.N-v.N
   .by_cases d:u.N-v.N<=1000000000
    .simp (disch:=first|omega|simp only[mK];omega)only[bu,h,dc,bN,rB,jC,V0,nG,xS b,kz d,sr]
    .simp (disch:=omega) [bu,h,dc,bN,rB,jC,xS b,je d,Ng,yo]
   .simp (disch:=omega) [bu,h,dc,bN,rB,jC,Lf (Int.not_le.1 b),Ng,yo]
  .by_cases b:-1000000000<=u.N*v.N
   .by_cases d:u.N*v.N<=1000000000
    .simp (disch:=first|omega|simp only[mK];omega)only[bu,h,QN,bN,rB,jC,V0,nG,xS b,kz d,sr]
    .simp (disch:=omega) [bu,h,QN,bN,rB,jC,xS b,je d,Ng,yo]
   .simp (disch:=omega) [bu,h,QN,bN,rB,jC,Lf (Int.not_le.1 b),Ng,yo]
 .rw[bw (by omega)];exact .of_eq (λn=>by rw[ac8 (by omega),bL g];rfl) ⟨_,_,rfl⟩
def anT(x:Sx c dd w left i f l m a)(h:i.Op=16):dX c dd M w a i.Op i.A i.B (iF c w a left i f l) (λn=>F183 n (s5 a left f l i,mb c dd w,M,())):=by
 obtain⟨u,v,rfl,e,g⟩:=x.two h (by decide) rfl;have j:=x.st;have d:=x.cx.fl;unfold iF F183;simp[show i.Op.toNat=16 from fq Int.toNat h];show dX _ _ _ _ _ _ _ _ (uU w left f i.Op u v) _;unfold uU;rw[bL (by omega)];by_cases b:u.Kind=1∧v.Kind=1
 .rw[bL (by omega),bw h];exact .of_eq (λn=>by rw[ac8 (by omega),bw b];simp(disch:=first|omega|simp only[mK];omega)only[bu,Zu,nG]<;>rfl) (jv (by omega) rfl)
 .rw[bw (by omega)];exact .of_eq (λn=>by rw[ac8 (by omega),bL b];rfl) ⟨_,_,rfl⟩
def anS(x:Sx c dd w left i f l m a)(h:i.Op=17):dX c dd M w a i.Op i.A i.B (iF c w a left i f l) (λn=>F184 n (s5 a left f l i,mb c dd w,M,())):=by
 obtain⟨u,v,rfl,b,g⟩:=x.two h (by decide) rfl;have j:=x.st;have d:=x.cx.fl;have e:1<=u.Kind:=by obtain h|h|h|h|h:=b<;>(have:=h.1;omega)
 unfold iF F184 H7;simp[show i.Op.toNat=17 from fq Int.toNat h];show dX _ _ _ _ _ _ _ _ (uU w left f i.Op u v) _;unfold uU;rw[bw h];have k:jk (aa u.N v.N)=jk (u.N==v.N):=rfl;by_cases o:u.Kind=v.Kind
 .by_cases h3:3<u.Kind
  .rw[bw (by omega)];exact .of_eq (λn=>by simp(disch:=omega)only[bu,tR,jC]<;>rfl) ⟨_,_,rfl⟩
  .rw[bL (by omega)];refine .of_eq (λn=>?_) (jv (by omega) rfl);by_cases p:u.Kind=1
   .simp (disch:=first|omega|simp only[mK];omega)only[bu,tR,jC,Zu,nG]<;>rfl
   .by_cases q:u.Kind=2
    .simp (disch:=first|omega|simp only[mK];omega)only[bu,tR,jC,Zu,nG]<;>rfl
    .simp (disch:=first|omega|simp only[mK];omega)only[bu,tR,jC,Zu,nG]<;>rfl
 .rw[bw (by omega)];exact .of_eq (λn=>by simp(disch:=omega)only[bu,tR,jC]<;>rfl) ⟨_,_,rfl⟩
def anP(x:Sx c dd w left i f l m a)(h:i.Op=20):dX c dd M w a i.Op i.A i.B (iF c w a left i f l) (λn=>F187 n (s5 a left f l i,mb c dd w,M,())):=by unfold iF F187;simp[show i.Op.toNat=20 from fq Int.toNat h];exact .of_eq (λn=>by simp only[bu,jC]<;>rfl) ⟨_,_,rfl⟩
def anE(x:Sx c dd w left i f l m a)(h:i.Op=31):dX c dd M w a i.Op i.A i.B (iF c w a left i f l) (λn=>F198 n (s5 a left f l i,mb c dd w,M,())):=by
 have b:=x.nil h (by decide) rfl;have d:=x.cx.fl;subst b;unfold iF F198;simp[show i.Op.toNat=31 from fq Int.toNat h]
 let ⟨y,h1,h2⟩:=KX (c:=c) (dd:=dd) (M:=M) (w:=w) (left:=left) (fr:=[]) (f:=f) (g:=⟨i.A,f.Env,[],W⟩) (a:=a) (op:=i.Op) (A:=i.A) (B:=i.B) (by omega) (by simp)
 refine⟨y,Ev.r5 (λn=>?_) h1,h2⟩;simp only[s5,tb,jB]<;>rfl
def anC(x:Sx c dd w left i f l m a)(h:i.Op=33):dX c dd M w a i.Op i.A i.B (iF c w a left i f l) (λn=>Eh (F200 n (s5 a left f l i,mb c dd w,M,()))):=by have b:=x.nil h (by decide) rfl;have e:=x.st;have d:=x.cx.fl;subst b;unfold iF F200 Eh;simp[show i.Op.toNat=33 from fq Int.toNat h];exact .of_eq (λn=>by simp(disch:=first|omega|simp only[mK];omega)only[bu,jB,WC,nG,CE]<;>rfl) (jv (by omega) rfl)
end
end
section
section
variable {c:ax}{dd:List aq}{M:MP}{w:aj}{left fr:List au}{i:bO}{f g:au}{l:List aA}{m a op A B:Int}{u v:aA}
theorem anR(x:Sx c dd w left i f l m a)(h:i.Op=18):dX c dd M w a i.Op i.A i.B (iF c w a left i f l) (λn=>F185 n (s5 a left f l i,mb c dd w,M,())):=by
 have e:=x.st;have d:=x.cx.fl;have g:=xN x
 let ⟨h1,h2⟩:=x.cx.io.con h
 have b:=x.cx.ll;unfold cC lK at b;rw[bw h]at b;have j:=x.cx.hp.cons _ (bT bf (show i.A.toNat<c.Cons.length by omega));have h3:bF .i64 ((f.Stack.length+l.length:Nat):Int) (c.Cons.getD i.A.toNat bf).lY=f.Stack.length:=by rw[dc]<;>omega
 have h4:cY (f.Stack++l) (f.Stack.length:Int) ((f.Stack.length+l.length:Nat):Int)=l:=by unfold cY;rw[show(((f.Stack.length+l.length:Nat):Int).toNat)=(f.Stack++l).length by grind,Qw];simp
 unfold iF;simp[show i.Op.toNat=18 from fq Int.toNat h];unfold o5 F185 H6 CX;split
 .exact .of_eq (λn=>by simp(disch:=omega)only[bu,h3,ac9,CG,bw (show 120<=w.aP.length by assumption)]<;>rfl) ⟨_,_,rfl⟩
 .exact .of_eq (λn=>by simp(disch:=first|omega|simp only[mK];omega)only[bu,h3,h4,ac9,CG,bL (show ¬120<=w.aP.length by assumption),n7,nG]<;>rfl) (jv (by omega) rfl)
def anO(x:Sx c dd w left i f l m a)(h:i.Op=21):dX c dd M w a i.Op i.A i.B (iF c w a left i f l) (λn=>F188 n (s5 a left f l i,mb c dd w,M,())):=by
 obtain⟨v,rfl,d⟩:=x.one h (by decide) rfl;have e:=x.st;have b:=x.cx.fl;have g:=xN x;unfold iF;simp[show i.Op.toNat=21 from fq Int.toNat h];unfold o5 F188;split
 .exact .of_eq (λn=>by simp(disch:=omega)only[bu,m6,CG,bw (show 120<=w.aP.length by assumption)]<;>rfl) ⟨_,_,rfl⟩
 .exact .of_eq (λn=>by simp(disch:=first|omega|simp only[mK];omega)only[bu,m6,CG,bL (show ¬120<=w.aP.length by assumption),nG,CE]<;>rfl) (jv (by omega) rfl)
def anJ(x:Sx c dd w left i f l m a)(h:i.Op=26):dX c dd M w a i.Op i.A i.B (iF c w a left i f l) (λn=>F193 n (s5 a left f l i,mb c dd w,M,())):=by
 have b:=x.nil h (by decide) rfl;have e:=x.st;have d:=x.cx.fl;have g:=xN x;subst b;unfold iF;simp[show i.Op.toNat=26 from fq Int.toNat h];unfold o5 F193;split
 .exact .of_eq (λn=>by simp(disch:=omega)only[bu,CG,bw (show 120<=w.aP.length by assumption)]<;>rfl) ⟨_,_,rfl⟩
 .exact .of_eq (λn=>by simp(disch:=first|omega|simp only[mK];omega)only[bu,jB,CG,bL (show ¬120<=w.aP.length by assumption),nG,WC,CE]<;>rfl) (jv (by omega) rfl)
def anN(x:Sx c dd w left i f l m a)(h:i.Op=22):dX c dd M w a i.Op i.A i.B (iF c w a left i f l) (λn=>F189 n (s5 a left f l i,mb c dd w,M,())):=by
 obtain⟨v,rfl,b⟩:=x.one h (by decide) rfl;have g:=x.st;have e:=x.cx.fl;unfold iF;simp[show i.Op.toNat=22 from fq Int.toNat h];show dX _ _ _ _ _ _ _ _ (IF w a left f v) _;unfold IF F189;cases d:jU w v 3 with
 |none=>exact .of_eq (λn=>by simp(disch:=omega)only[bu,m6,zL (λh=>b.ref h),d]<;>rfl) ⟨_,_,rfl⟩
 |some o=>
  let ⟨h3,h4,_⟩:=gO x.cx.hw b d
  have j:0<o.g9.length:=by cases h4<;>first|(cases h3;done)|simp
  exact .of_eq (λn=>by simp(disch:=first|omega|simp only[mK];omega)only[bu,m6,zL (λh=>b.ref h),d,nG,CE]<;>rfl) (jv (by omega) rfl)
def anM(x:Sx c dd w left i f l m a)(h:i.Op=23):dX c dd M w a i.Op i.A i.B (iF c w a left i f l) (λn=>F190 n (s5 a left f l i,mb c dd w,M,())):=by
 obtain⟨u,v,rfl,b,j⟩:=x.two h (by decide) rfl;have k:=x.st;have e:=x.cx.fl;unfold iF;simp[show i.Op.toNat=23 from fq Int.toNat h];show dX _ _ _ _ _ _ _ _ (jq w a left f u v) _;unfold jq F190;cases d:jU w u 3 with
 |none=>exact .of_eq (λn=>by simp(disch:=omega)only[bu,tR,zL (λh=>b.ref h),d]<;>rfl) ⟨_,_,rfl⟩
 |some o=>
  let ⟨h3,h4,h5,h6,g,_⟩:=gO x.cx.hw b d
  exact .of_eq (λn=>by simp(disch:=first|omega|simp only[mK];omega)only[bu,tR,zL (λh=>b.ref h),d,agO h6 g,WC,nG,CE]<;>rfl) (jv (by omega) rfl)
def anI(x:Sx c dd w left i f l m a)(h:i.Op=27):dX c dd M w a i.Op i.A i.B (iF c w a left i f l) (λn=>F194 n (s5 a left f l i,mb c dd w,M,())):=by
 obtain⟨u,v,rfl,b,r⟩:=x.two h (by decide) rfl;have s:=x.st;have g:=x.cx.fl;unfold iF;simp[show i.Op.toNat=27 from fq Int.toNat h];show dX _ _ _ _ _ _ _ _ (MX w a left f u v) _;unfold MX F194;cases d:jU w u 4 with
 |none=>exact .of_eq (λn=>by simp(disch:=omega)only[bu,tR,zL (λh=>b.ref h),d]<;>rfl) ⟨_,_,rfl⟩
 |some o=>
  let ⟨h3,h4,h5,h6,j,_⟩:=gO x.cx.hw b d
  obtain⟨e,t,y⟩:o=⟨4,0,o.g9,[]⟩∧o.g9.length<=4∧True:=by cases h4<;>first|(cases h3;done)|simp_all
  have k:o.Form=4:=h3;have p:o.N=0:=by rw[e]
  have q:o.Frames=[]:=by rw[e]
  simp only;split
  .exact .of_eq (λn=>by simp(disch:=omega)only[bu,tR,zL (λh=>b.ref h),d,IM]<;>rfl) ⟨_,_,rfl⟩
  .exact .of_eq (λn=>by simp(disch:=first|omega|simp only[mK];omega)only[bu,tR,zL (λh=>b.ref h),d,IM,k,p,q,agO h6 j,WC,nG,CE]<;>rfl) (jv (by omega) rfl)
def anH(x:Sx c dd w left i f l m a)(h:i.Op=28):dX c dd M w a i.Op i.A i.B (iF c w a left i f l) (λn=>F195 n (s5 a left f l i,mb c dd w,M,())):=by
 obtain⟨u,rfl,d⟩:=x.one h (by decide) rfl;have z:=x.st;have q:=x.cx.fl;unfold iF;simp[show i.Op.toNat=28 from fq Int.toNat h];show dX _ _ _ _ _ _ _ _ (MO w a left f u) _;unfold MO F195;cases e:jU w u 4 with
 |none=>exact .of_eq (λn=>by simp(disch:=omega)only[bu,m6,zL (λh=>d.ref h),e]<;>rfl) ⟨_,_,rfl⟩
 |some o=>
  let ⟨h3,h4,h5,h6,r,_⟩:=gO x.cx.hw d e
  obtain⟨j,k,A⟩:o=⟨4,0,o.g9,[]⟩∧o.g9.length<=4∧True:=by cases h4<;>first|(cases h3;done)|simp_all
  have s:o.Form=4:=h3;have t:o.N=0:=by rw[j]
  have y:o.Frames=[]:=by rw[j]
  simp only;cases b:o.g9 with|nil=>exact .of_eq (λn=>by simp(disch:=omega)only[bu,m6,zL (λh=>d.ref h),e,IM,b]<;>rfl) ⟨_,_,rfl⟩|cons v g=>rw[b]at k;simp only[ny]at k;have p:cY (v::g) 1 (((v::g).length:Nat):Int)=g:=xF v g _ rfl;simp only[ny]at p;refine .of_eq (λn=>?_) (jv (by omega) rfl);simp(disch:=first|omega|simp only[mK];omega)only[bu,m6,zL (λh=>d.ref h),e,IM,b,s,t,y,agO h6 r,nG,CE,List.getD_cons_zero];rw[p]
theorem anK(x:Sx c dd w left i f l m a)(h:i.Op=25):dX c dd M w a i.Op i.A i.B (iF c w a left i f l) (λn=>F192 n (s5 a left f l i,mb c dd w,M,())):=by
 obtain⟨u,rfl,b⟩:=x.one h (by decide) rfl;have j:=x.st;have g:=x.cx.fl;unfold iF;simp[show i.Op.toNat=25 from fq Int.toNat h];show dX _ _ _ _ _ _ _ _ (N4 w a left f u) _;unfold N4 F192;cases d:jU w u 6 with
 |none=>exact .of_eq (λn=>by simp(disch:=omega)only[bu,m6,zL (λh=>b.ref h),d]<;>rfl) ⟨_,_,rfl⟩
 |some o=>
  let ⟨h3,h4,_⟩:=gO x.cx.hw b d
  simp only;by_cases e:o.N=0
  .rw[bw e];exact .of_eq (λn=>by simp(disch:=omega)only[bu,m6,zL (λh=>b.ref h),d,IM]<;>rfl) ⟨_,_,rfl⟩
  .rw[bL e];by_cases h1:o.N=1
   .rw[bL (by omega)];have k:0<o.g9.length:=by cases h4 with|done=>grind|dead p=>simp_all|sB=>grind|_=>cases h3
    exact .of_eq (λn=>by simp(disch:=first|omega|simp only[mK];omega)only[bu,m6,zL (λh=>b.ref h),d,IM,jC,nG,CE]<;>rfl) (jv (by omega) rfl)
   .rw[bw h1];exact .of_eq (λn=>by simp(disch:=omega) [bu,m6,zL (λh=>b.ref h),d,IM,jC]<;>rfl) ⟨_,_,rfl⟩
def anG(x:Sx c dd w left i f l m a)(h:i.Op=29):dX c dd M w a i.Op i.A i.B (iF c w a left i f l) (λn=>F196 n (s5 a left f l i,mb c dd w,M,())):=by
 obtain⟨v,rfl,e⟩:=x.one h (by decide) rfl;have g:=x.st;have b:=x.cx.fl;unfold iF;simp[show i.Op.toNat=29 from fq Int.toNat h];show dX _ _ _ _ _ _ _ _ (XT w a left f i.A v) _;unfold XT F196 xo;by_cases d:v.Kind=1
 .rw[bL (by omega)];split
  .exact .of_eq (λn=>by simp(disch:=omega)only[bu,m6,jC]<;>rfl) ⟨_,_,rfl⟩
  .exact .of_eq (λn=>by simp(disch:=first|omega|simp only[mK];omega)only[bu,m6,jC,WC,nG,CE]<;>rfl) (jv (by omega) rfl)
 .rw[bw d];exact .of_eq (λn=>by simp(disch:=omega)only[bu,m6,jC]<;>rfl) ⟨_,_,rfl⟩
def anF(x:Sx c dd w left i f l m a)(h:i.Op=30):dX c dd M w a i.Op i.A i.B (iF c w a left i f l) (λn=>F197 n (s5 a left f l i,mb c dd w,M,())):=by
 have j:=x.nil h (by decide) rfl;have q:=x.st;have o:=x.cx.fl;have e:=x.cx.hw.ins;have r:=x.cx.hw.used;subst j;unfold iF;simp only[show i.Op.toNat=30 from fq Int.toNat h];unfold inS F197 HZ;cases b:w.dG with
 |nil=>exact .of_eq (y:=.iE (wt,s5 a left f [] i,mb c dd w,M,())) (λn=>by simp(disch:=omega)only[bu,jB,b,IM]<;>simp only[mb,b]<;>rfl) ⟨_,_,rfl⟩
 |cons k d=>
  rw[b]at e;simp only[ny]at e;have g:cY (k::d) 1 (((k::d).length:Nat):Int)=d:=xF k d _ rfl;simp only[ny]at g;have p:rS (iu k)=iu k:=rfl;simp only;split
  .exact .of_eq (y:=.iE (fl 4,s5 a left f [] i,mb c dd w,M,())) (λn=>by simp(disch:=omega)only[bu,jB,b,IM,jC]<;>simp only[mb,b]<;>rfl) ⟨_,_,rfl⟩
  .refine .of_eq (λn=>?_) (jv (by omega) rfl);simp(disch:=first|omega|simp only[mK];omega)only[bu,jB,b,IM,jC,List.getD_cons_zero,V0,bQ];rw[g];simp(disch:=first|omega|simp only[mK];omega)only[bu,nG,CE,p]<;>simp only[jB]<;>rfl
end
end
section
abbrev asn:=(L aA×Bool×U)×SB×MB×MP×U
def Iv(T:SB)(R:MB)(M:MP):O (L aA)->asn
 |some m=>((m,W,()),T,R,M,())|none=>(([],J,()),T,R,M,())
def ahs(c:ax)(dd:L aq)(M:MP)(w:aj)(T:SB)(q:aD):Prop:=∀(v:aA),cH c w.aP.length v->Dc R263 (T,mb c dd w,M,q,v,()) (Iv T (mb c dd w) M (kW w q v))
section
variable {c:ax}{dd:List aq}{M:MP}{w:aj}{left fr:List au}{i:bO}{f g:au}{l:List aA}{m a op A B:Int}{u v:aA}{T:SB}
def ZR(x:Bool):cm x W=x:=by cases x<;>rfl
def akV(q:aD):aD.mk q.Form q.N q.Text q.BE=q:=by cases q;rfl
def tN{α:Type}(a:L α)(x:α)(b:L α)(d:α):(a++x::b).getD a.length d=x:=j9 a x d b rfl
theorem zy:∀(q:aD)(v:aA)(m:L aA),kW w q v=Z m->m.length<=pw q
 |⟨c,n,text,parts⟩,v,m,h=>by
  unfold kW at h;unfold pw;by_cases h1:c=1
  .simp_all
  rw[bL h1]at h;by_cases h2:c=2
  .grind
  rw[bL h2]at h;by_cases h3:c=3
  .simp_all
  rw[bL h3]at h;by_cases h4:c=4
  .simp_all
  rw[bL h4]at h;by_cases h5:c=5
  .simp_all
  rw[bL h5]at h;split at h
  .cases h
  .split at h
   .cases h
   .have:=lens parts _ m h;omega
where
 lens:∀(d:L aD)(e:L aA)(m:L aA),gZ w d e=Z m->m.length<=tw d
 |[],e,m,h=>by unfold gZ at h;cases h;simp
 |q::d,[],m,h=>by unfold gZ at h;cases h;simp
 |q::d,v::e,m,h=>by
  unfold gZ at h;unfold tw;split at h
  .cases h
  .rename_i l f;split at h
   .cases h
   .rename_i g i;cases h;have a:=zy q v l f;have b:=lens d e g i
    grind
theorem MQ{P:Type}(d:Nat):∀(qs:L aD)(vs:L aA)(pre:L aD)(b:L aA)(l:L aA),qs.length=vs.length->pre.length=b.length->pre.length+qs.length<=1000->
  (∀q∈qs,ahs c dd M w T q)->(∀v∈vs,cH c w.aP.length v)->l.length+tw qs<=1000->
  ∀(F:Nat->L aA×Int×SB×MB×MP×U->O (LO (L aA×Int×SB×MB×MP×U) (L aA×Bool×U) (SB×MB×MP×U) P)),
  (∀n e,F n e=ai (aC e.2.1 (av (pre++qs))) (aT (aN e.2.1 (pre++qs)) (aT (aN e.2.1 (b++vs)) (ah (R263 n (n-d) (e.2.2.1,e.2.2.2.1,e.2.2.2.2.1,aD.mk (@bp aD (pre++qs) (az e.2.1) aL).1 (@bp aD (pre++qs) (az e.2.1) aL).2 (@bp aD (pre++qs) (az e.2.1) aL).3 (@bp aD (pre++qs) (az e.2.1) aL).4,@bp aA (b++vs) (az e.2.1) cB,())) λg=>ai (ak g.1.2.1) (Z (X g.2 ([],J,())))
   (aT (dF e.1 g.1.1) (Z (N (di e.1 g.1.1,aF .i64 e.2.1 1,g.2))))))) (Z (H 0 e)))->
  gJ F (l,(pre.length:Int),T,mb c dd w,M,()) (match gZ w qs vs with
   |some m=>.out 0 (l++m,((pre++qs).length:Int),T,mb c dd w,M,())|none=>.ret (T,mb c dd w,M,()) ([],J,()))
 |[],[],pre,b,l,_,_,k,_,_,_,F,f=>by unfold gZ;refine .out (bK λn=>?_);rw[f];simp(disch:=omega)only[bu,jB]<;>rfl
 |q::qs,v::vs,pre,b,l,t,C,k,o,p,u,F,f=>by
  unfold tw at u;simp only[ny]at k;have h1:=o q eI v (p v eI);have r:(pre++q::qs).getD pre.length aL=q:=tN ..;have s:(b++v::vs).getD pre.length cB=v:=by simp_all
  unfold gZ;cases i:kW w q v with
  |none=>rw[i]at h1;refine .ret ?_;obtain⟨a,h1⟩:=h1 d;refine⟨a,λn j=>?_⟩;have:=h1 n j;simp only at this;show F n _=_;rw[f];simp(disch:=first|omega|simp only[mK];omega)only[bu,r,s,akV];exact(fq (λx=>ah x _) this).trans rfl
  |some m=>
   rw[i]at h1;have z:=zy q v m i;have h2:=MQ (P:=P) d qs vs (pre++[q]) (b++[v]) (l++m) (by simpa using t) (by simp;omega) (by simp;omega) (λA h=>o A (g7 _ h)) (λB h=>p B (g7 _ h))
    (by simp;omega) F (λn e=>by rw[f];simp only[AF,Nj]<;>rfl)
   refine(.next (y:=(l++m,((pre++[q]).length:Int),T,mb c dd w,M,())) ?_ ?_)
   .obtain ⟨a,h1⟩:=h1 d;refine⟨a,λn j=>?_⟩;have:=h1 n j;simp only at this;show F n _=_;rw[f];simp(disch:=first|omega|simp only[mK];omega)only[bu,r,s,akV,bQ,gj,gq];refine(fq (λx=>ah x _) this).trans ?_;show TL.aT (dF l m) (Z (N (l++m,(pre.length:Int)+1,T,mb c dd w,M,())))=_;rw[Bm (by omega)];simp<;>rfl
   grind
theorem mw(n k:Nat):R263 n (k+1)=B263 n (R263 n k):=rfl
theorem aio:∀(q:aD),pw q<=1000->tE c.Cons q->∀(k:jD c dd w),ahs c dd M w T q
 |⟨a,n0,text,parts⟩,p,l,k=>by
  intro v m;unfold pw at p;unfold kW;by_cases h1:a=1
  .refine Dc.step mw λd=>bK λn=>?_;unfold B263 xz;simp only[bu,h1,sr,Iv]<;>rfl
  rw[bL h1];by_cases h2:a=2
  .refine Dc.step mw λd=>bK λn=>?_;unfold B263 xz;simp(disch:=omega)only[bu,h2,sr,Iv]<;>rfl
  rw[bL h2];have cmp:∀u:aA,(if PR v u=W then Z ([]:L aA)else Y)=Y∧cm (aa v.Kind u.Kind) (cm (aa v.N u.N) W)=J∨(if PR v u=W then Z ([]:L aA)else Y)=Z []∧cm (aa v.Kind u.Kind) (cm (aa v.N u.N) W)=W:=by
   intro u;have:cm (aa v.Kind u.Kind) (cm (aa v.N u.N) W)=PR v u:=by rw[ZR];rfl
   rw[this];cases PR v u<;>simp
  by_cases h3:a=3
  .rw[bw h3];refine Dc.step mw λd=>bK λn=>?_;unfold B263 De xz;obtain⟨f,i⟩|⟨f,i⟩:=cmp (iu n0)<;>rw[f]<;>simp(disch:=omega)only[bu,h3,V0,i,Iv]<;>rfl
  rw[bL h3];by_cases h4:a=4
  .rw[bw h4];refine Dc.step mw λd=>bK λn=>?_;unfold B263 De xz;obtain⟨f,i⟩|⟨f,i⟩:=cmp (jk (n0==1))<;>rw[f]<;>simp(disch:=omega)only[bu,h4,aex,i,Iv]<;>rfl
  rw[bL h4];by_cases h5:a=5
  .rw[bw h5];refine Dc.step mw λd=>bK λn=>?_;unfold B263 De xz;obtain⟨f,i⟩|⟨f,i⟩:=cmp fR<;>rw[f]<;>simp(disch:=omega)only[bu,h5,WC,i,Iv]<;>rfl
  rw[bL h5];unfold tE at l;obtain⟨K,z,R⟩:(parts.length:Int)=(c.Cons.getD n0.toNat bf).lY∧oH c.Cons parts∧True:=by obtain h|h|h|h:=l<;>first|exact⟨h.2.2.2.2.1,h.2.2.2.2.2,trivial⟩|(exfalso;have:=h.2.1;omega)
  cases j:jU w v 1 with
  |none=>refine Dc.step mw λd=>bK λn=>?_;unfold B263;simp(disch:=omega)only[bu,Zt m.ref,j,KP,Iv]<;>rfl|some o=>
   dsimp only;obtain⟨r,x,_⟩:=gO k m j;by_cases y:o.N≠n0
   .rw[bw (.inl y)];refine Dc.step mw λd=>bK λn=>?_;unfold B263;simp(disch:=omega)only[bu,Zt m.ref,j,KP,Iv]<;>rfl
   .have s:(o.g9.length:Int)=lK c o.N:=by cases x<;>first|(cases r;done)|assumption
    have s:o.g9.length=parts.length:=by rw[Decidable.not_not.1 y]at s;unfold lK at s;omega
    rw[bL (by omega)];have t:=x.vals;have A:parts.length<=tw parts:=Jx parts;refine Dc.step mw λd=>?_;have B:=MQ (c:=c) (dd:=dd) (M:=M) (w:=w) (T:=T) (P:=Any) d parts o.g9 [] [] [] (by omega) rfl (by grind)
      (λq C=>adU parts (by omega) z k q C) t (by grind) _ (λn e=>rfl)
    have E:∀n,B263 n (R263 n (n-d)) (T,mb c dd w,M,⟨a,n0,text,parts⟩,v,())=ah (iter (λe=>ai (aC e.2.1 (av parts)) (aT (aN e.2.1 parts) (aT (aN e.2.1 o.g9) (ah (R263 n (n-d) (e.2.2.1,e.2.2.2.1,e.2.2.2.2.1,aD.mk (@bp aD parts (az e.2.1) aL).1 (@bp aD parts (az e.2.1) aL).2 (@bp aD parts (az e.2.1) aL).3 (@bp aD parts (az e.2.1) aL).4,@bp aA o.g9 (az e.2.1) cB,())) λg=>ai (ak g.1.2.1) (Z (X g.2 ([],J,())))
   (aT (dF e.1 g.1.1) (Z (N (di e.1 g.1.1,aF .i64 e.2.1 1,g.2))))))) (Z (H 0 e))) n ([],0,T,mb c dd w,M,())) λe=>bD e (λ_ h=>Z ((h.1,W,()),h.2.2)) (λg h=>Z (h,g)) λ_(_:Any)=>Y:=by intro n;unfold B263 Ic;simp(disch:=omega)only[bu,Zt m.ref,j,KP]<;>rfl
    refine Ev.r5 E (Ev.br B (λn e=>_) _ ?_);cases gZ w parts o.g9<;>exact dz
where
 Jx:∀b:L aD,b.length<=tw b
 |[]=>AH _|⟨_,_,_,_⟩::b=>by unfold tw pw;have:=Jx b;grind
 adU:∀(b:L aD),tw b<=1000->oH c.Cons b->∀(k:jD c dd w),∀q∈b,ahs c dd M w T q
 |[],_,_,_,_,h=>by cases h
 |q::b,F,j,k,I,h=>by
  unfold tw at F;unfold oH at j;obtain h|h:=fS.1 h
  .rw[h];exact aio q (by omega) j.1 k
  .exact adU b (by omega) j.2 k I h
def arn(x:Sx c dd w left i f l m a)(h:i.Op=19)(b:cH c w.aP.length v):Ev (λn=>F263 n (T,mb c dd w,M,mI c i.A,v,())) (Iv T (mb c dd w) M (kW w (mI c i.A) v)):=by have h1:=x.cx.io.Hy h;obtain⟨h2,h3⟩:=x.cx.hp.pats _ (bT aL (show i.A.toNat<c.ew.length by omega));exact aio _ (by omega) h2 x.cx.hw v b 0
def anQ(x:Sx c dd w left i f l m a)(h:i.Op=19):dX c dd M w a i.Op i.A i.B (iF c w a left i f l) (λn=>Eh (F186 n (s5 a left f l i,mb c dd w,M,()))):=by
 obtain⟨v,rfl,p⟩:=x.one h (by decide) rfl;have s:=x.st;have q:=x.cx.fl;have h1:=x.cx.io.Hy h;have h2:=(x.cx.hp.pats _ (bT aL (show i.A.toNat<c.ew.length by omega))).2;unfold iF F186 Eh;simp only[show i.Op.toNat=19 from fq Int.toNat h];show dX _ _ _ _ _ _ _ _ (match kW w (mI c i.A) v with|some b=>_|none=>.go w (left++[⟨_,_,f.Stack++[v],_⟩]) Y) _;have j:=arn (M:=M) (T:=s5 a left f [v] i) x h p;have k:@bp aA (f.Stack++[v]) f.Stack.length cB=v:=j9 _ _ _ _ rfl;obtain⟨d,j⟩:=j;have e:∀n,d<=n->F263 n (s5 a left f [v] i,mb c dd w,M,mI c i.A,@bp aA (f.Stack++[v]) f.Stack.length cB,())=Z (Iv (s5 a left f [v] i) (mb c dd w) M (kW w (mI c i.A) v)):=λn g=>by rw[k];exact j n g
 cases o:kW w (mI c i.A) v with|none=>rw[o]at e;refine⟨.ok ((),tb a left i.B f.Env (f.Stack++[v]) f.ep i.Op i.A i.B Y,mb c dd w,M,()),⟨d,λn g=>?_⟩,left,⟨i.B,f.Env,f.Stack++[v],f.ep⟩,rfl,by omega,rfl⟩;simp(disch:=first|omega|simp only[mK];omega)only[bu,PZ,j9];exact(fq (λx=>ah (ah x _) _) (e n g)).trans rfl|some b=>rw[o]at e;have r:=zy _ _ _ o;unfold mI at r;refine⟨.ok ((),tb a left f.At (f.Env++b) f.Stack f.ep i.Op i.A i.B Y,mb c dd w,M,()),⟨d,λn g=>?_⟩,left,⟨f.At,f.Env++b,f.Stack,f.ep⟩,rfl,by omega,rfl⟩;simp(disch:=first|omega|simp only[mK];omega)only[bu,PZ,j9];refine(fq (λx=>ah (ah x _) _) (e n g)).trans ?_;show ah (ah (F260 n (tb a left f.At f.Env (f.Stack++[v]) f.ep i.Op i.A i.B Y,mb c dd w,M,())) _) _=_;refine(fq (λx=>ah (ah x _) _) (m6 (by omega))).trans ?_;show ah (TL.aT (fV 0 (av f.Env) (av f.Env)) (TL.aT (dF (cY f.Env 0 (av f.Env)) b) (Z ((),((),a,left,f.At,di (cY f.Env 0 (av f.Env)) b,f.Stack,f.ep,i.Op,i.A,i.B,Y,()),mb c dd w,M,())))) _=_;rw[show cY f.Env 0 (av f.Env)=f.Env from MR _,T3 (Iz 0) (show 0<=av f.Env from Int.natCast_nonneg _) (Iz _),Bm (by omega)];rfl
end
end
section
section
variable {c:ax}{dd:List aq}{M:MP}{w:aj}{left fr:List au}{i:bO}{f g:au}{l:List aA}{m a op A B:Int}{u v:aA}{T:SB}
def anL(x:Sx c dd w left i f l m a)(h:i.Op=24):dX c dd M w a i.Op i.A i.B (iF c w a left i f l) (λn=>F191 n (s5 a left f l i,mb c dd w,M,())):=by
 obtain⟨u,rfl,d⟩:=x.one h (by decide) rfl;have p:=x.st;have k:=x.cx.fl;have q:=xN x;have r:=x.cx.hw.tl;have j:rS fR=fR:=rfl;unfold iF;simp[show i.Op.toNat=24 from fq Int.toNat h];show dX _ _ _ _ _ _ _ _ (Fl c w a left f u) _;unfold Fl F191 z9;simp only;cases e:mS c w u fR with
 |some b=>
  simp only;split
  .exact .of_eq (λn=>by simp(disch:=omega)only[bu,m6,WC,Em (λh=>d.code h) (λh=>d.ref h) (oN x d),e,bN,CG,bw (show 120<=w.aP.length by assumption)]<;>rfl) ⟨_,_,rfl⟩
  .exact .of_eq (λn=>by simp(disch:=first|omega|simp only[mK];omega)only[bu,m6,WC,Em (λh=>d.code h) (λh=>d.ref h) (oN x d),e,bN,CG,bL (show ¬120<=w.aP.length by assumption),gR,nG,CE,j]<;>rfl) (jv (by omega) rfl)
 |none=>
  cases g:jU w u 5 with
  |none=>exact .of_eq (λn=>by simp(disch:=omega)only[bu,m6,WC,Em (λh=>d.code h) (λh=>d.ref h) (oN x d),e,OI (λh=>d.ref h) (pP x d),g,afR]<;>rfl) ⟨_,_,rfl⟩
  |some o=>
   simp only;split
   .exact .of_eq (λn=>by simp(disch:=omega)only[bu,m6,WC,Em (λh=>d.code h) (λh=>d.ref h) (oN x d),e,OI (λh=>d.ref h) (pP x d),g,bN,CG,bw (show 120<=w.aP.length by assumption)]<;>rfl) ⟨_,_,rfl⟩
   .exact .of_eq (λn=>by simp(disch:=first|omega|simp only[mK];omega)only[bu,m6,WC,Em (λh=>d.code h) (λh=>d.ref h) (oN x d),e,OI (λh=>d.ref h) (pP x d),g,bN,CG,bL (show ¬120<=w.aP.length by assumption),gR,nG,CE,j]<;>rfl) (jv (by omega) rfl)
def uH{α:Type}{q:α->Bool}:∀{l:L α},(∀j(h:j<l.length),q l[j]=J)->lJ q l=Y
 |[],_=>rfl|a::l,h=>by
  unfold lJ;rw[uH λj b=>h (j+1) (by simpa using b)];have:=h 0 (by simp)
  simp_all
def AW{α:Type}{q:α->Bool}:∀{l:L α}{m:Nat}(c:m<l.length),q l[m]=W->(∀j(h:j<l.length),m<j->q l[j]=J)->lJ q l=Z m
 |a::l,0,_,h1,h=>by
  unfold lJ;rw[uH λj b=>h (j+1) (by simpa using b) (by omega)]
  simp_all
 |a::l,m+1,c,h1,h=>by unfold lJ;rw[AW (l:=l) (m:=m) (by simpa using c) (by simpa using h1) λj b d=>h (j+1) (by simpa using b) (by omega)]
theorem Fq{a:L au}(hl:a.length<=40){R B P:Type}{F:Nat->Int×Int×U->O (LO (Int×Int×U) R B P)}
  (g:∀n c,F n c=ai (bn 0 c.2.1) (aT (aN c.2.1 a) (aT (eR (az c.2.1) a) (ai (bp a (az c.2.1) aS).4 (Z (.out 0 (c.2.1,c.2))) (Z (.next (c.1,bF .i64 c.2.1 1,())))))) (Z (.out 0 c))) :
  ∀m:Nat,m<=a.length->(∀j(h:j<a.length),m<=j->a[j].ep=J)->
  gJ F (-1,(m:Int)-1,()) (.out 0 (match lJ (λf:au=>f.ep) a with|some k=>((k:Int),(k:Int),())|none=>(-1,-1,())))
 |0,_,h=>by rw[uH λj d=>h j d (AH _)];exact .out (bK λn=>by simp_all[bu])
 |m+1,o,h=>by
  have e:a.getD m aS=a[m]:=by grind
  have b:((m+1:Nat):Int)-1=(m:Int):=by omega
  cases i:a[m].ep with
  |true=>rw[AW (m:=m) (by omega) i λj d l=>h j d (by omega)];refine .out (bK λn=>?_);rw[g,b];simp(disch:=omega) [bu,e,i]<;>rfl
  |false=>
   refine .next (y:=(-1,(m:Int)-1,())) (bK λn=>?_) (Fq hl g m (by omega) λj d l=>?_)
   .rw[g,b];simp(disch:=omega) [bu,e,i,dc]<;>rfl
   grind
theorem anD(x:Sx c dd w left i f l m a)(h:i.Op=32):dX c dd M w a i.Op i.A i.B (iF c w a left i f l) (λn=>F199 n (s5 a left f l i,mb c dd w,M,())):=by
 have z:=x.nil h (by decide) rfl;have g:=x.st;have A:=x.cx.fl;have S:=xN x;subst z;have C:oU (s5 a left f [] i,mb c dd w,M,())=left++[f]:=by unfold oU CV;simp only[bu,jB]<;>rfl
 have e0:bF .i64 (av (left++[f])) 1=(((left++[f]).length:Nat):Int)-1:=by
  grind[dc,av]
 have h1:dF left (CV (s5 a left f [] i,mb c dd w,M,()))=W:=GU.2 (by grind[CV,List.length_singleton]);have o:(left++[f]).length<=40:=by simp;omega
 unfold iF;simp only[show i.Op.toNat=32 from fq Int.toNat h];unfold Kx F199;simp only[C,e0];have g:=λ(R B P:Type)=>@Fq (left++[f]) o R B P _ (λn c=>rfl) (left++[f]).length (eM _) (λj hj E=>by omega);have p:∀(k:Int×Int×U)(b:Nat->Int×Int×U->O Out)(r:sY),(∃y,Ev (λn=>b n k) y∧HP c dd M w a i.Op i.A i.B r y)->∀(R B P:Type)(F:Nat->Int×Int×U->O (LO (Int×Int×U) R B P))(u:Nat->B->R->O Out)(v:Nat->B->P->O Out)(x:Int×Int×U),
   gJ F x (.out 0 k)->dX c dd M w a i.Op i.A i.B r (λn=>ah (iter (F n) n x) λc=>bD c (λ_ e=>b n e) (u n) (v n)):=by
  intro k b r ⟨y,h1,h2⟩ R B P F u v x I;exact⟨y,Ev.br I _ _ h1,h2⟩
 have d:∀{r:sY}{F:Nat->O Out},dX c dd M w a i.Op i.A i.B r F->dX c dd M w a i.Op i.A i.B r (λn=>TL.aT (nK (fV 0 (av left) (av left)) (fU (av left) (av left))) (TL.aT (dF (cY left 0 (av left)) (CV (s5 a left f [] i,mb c dd w,M,()))) (F n))):=by
  simp_all[Ev.r5,bu]
 refine d ?_;cases q:lJ (λf:au=>f.ep) (left++[f])with
 |none=>simp only[q]at g;refine p _ _ (.fail 3) ?_ _ _ _ _ _ _ _ (g _ _ _);exact⟨_,bK λn=>by simp(disch:=omega)only[bu,jC]<;>rfl,_,_,rfl⟩
 |some k=>
  obtain⟨s,_⟩:=zC q;simp only[q]at g;refine p _ (λn e=>_) _ ?_ _ _ _ _ _ _ _ (g _ _ _);simp only;have t:cY (left++[f]) (k:Int) (((left++[f]).length:Nat):Int)=(left++[f]).drop k:=by rw[UB];rfl
  have K:cY (left++[f]) 0 (k:Int)=(left++[f]).take k:=by rfl
  simp only[mG,rH]at s t;split
  .exact ⟨_,bK λn=>by simp(disch:=omega)only[bu,jC,t,ada,CG,bw (show 120<=w.aP.length by assumption)]<;>rfl,_,_,rfl⟩
  .exact ⟨_,bK λn=>by simp(disch:=first|omega|simp only[mK];omega)only[bu,jC,t,K,ada,CG,bL (show ¬120<=w.aP.length by assumption),z8]<;>rfl,(left++[f]).take k,⟨i.A,f.Env++[AD w.aP.length],[],W⟩,rfl,by grind,rfl⟩
def anB(x:Sx c dd w left i f l m a)(h:i.Op=34):dX c dd M w a i.Op i.A i.B (iF c w a left i f l) (λn=>Eh (F201 n (s5 a left f l i,mb c dd w,M,()))):=by
 obtain⟨v,rfl,e⟩:=x.one h (by decide) rfl;have j:=x.st;have d:=x.cx.fl;have b:=x.cx.left;have a0:=x.a0;have a1:=x.a1
 let ⟨t1,t2,t3⟩:=x.cx.hw.task _ (bT 0 (show a.toNat<w.bg.length by omega))
 unfold iF Eh;simp[show i.Op.toNat=34 from fq Int.toNat h];unfold F201 z7;obtain rfl|⟨k,g,rfl⟩:=List.eq_nil_or_concat left
 .exact .of_eq (y:=.ok ((),tb a [] f.At f.Env f.Stack f.ep i.Op i.A i.B (Z ⟨a,0,1,rS v⟩),mb c dd (ku w (cg w a) ⟨6,1,[v],[]⟩),M,())) (λn=>by simp(disch:=omega) [bu,m6,dc,CE,agS a0 a1 t1 t2]<;>rfl) ⟨[],f,rfl⟩
 .rw[List.concat_eq_append]at *
  have o:=(aer x (by omega) (b g (by simp))).1;simp at d;rw[M6];exact .of_eq (λn=>by simp(disch:=first|omega|simp only[mK];omega)only[bu,m6,PZ,HY,z7,j9,n7,nG]<;>rfl) (Cg (g:=vD g v) (by omega) rfl)
end
end
section
section
variable {c:ax}{dd:List aq}{M:MP}{w w':aj}{left fr:List au}{i:bO}{f g:au}{l:List aA}{m a op A B:Int}{u v:aA}{T:SB}
abbrev SX:=SB×MB×MP×U
noncomputable def opF(k:Nat)(n:Nat)(x:SX):O Out:=
 match k with
 |1|2|3|5=>Eh (F173 n x)|4=>Eh (F174 n x)|6=>F175 n x|7=>F176 n x|8=>F177 n x|9=>Eh (F178 n x)|10=>Eh (F179 n x)|11=>Eh (F180 n x)|12=>F181 n x|13|14|15=>F182 n x|16=>F183 n x|17=>F184 n x|18=>F185 n x|19=>Eh (F186 n x)|20=>F187 n x|21=>F188 n x|22=>F189 n x|23=>F190 n x|24=>F191 n x|25=>F192 n x|26=>F193 n x|27=>F194 n x|28=>F195 n x|29=>F196 n x|30=>F197 n x|31=>F198 n x|32=>F199 n x|33=>Eh (F200 n x)|34=>Eh (F201 n x)|_=>Y
def Vf(x:Sx c dd w left i f l m a):dX c dd M w a i.Op i.A i.B (iF c w a left i f l) (λn=>opF i.Op.toNat n (s5 a left f l i,mb c dd w,M,())):=by
 have h1:=x.cx.io.lo;have h2:=x.cx.io.hi;obtain⟨k,e⟩:∃k:Nat,i.Op=k:=⟨_,(BX (by omega)).symm⟩;have b:1<=k:=by omega
 have d:k<=34:=by omega
 rw[show i.Op.toNat=k by omega]
 match k,e,b,d with
 |1,h,_,_=>exact abV x (.inl h)|2,h,_,_=>exact abV x (.inr (.inl h))|3,h,_,_=>exact abV x (.inr (.inr (.inl h)))|4,h,_,_=>exact an1 x h|5,h,_,_=>exact abV x (.inr (.inr (.inr h)))|6,h,_,_=>exact an0 x h|7,h,_,_=>exact anZ x h|8,h,_,_=>exact anY x h|9,h,_,_=>exact anX x h|10,h,_,_=>exact anW x h|11,h,_,_=>exact anV x h|12,h,_,_=>exact anU x h|13,h,_,_=>exact afD x (.inl h)|14,h,_,_=>exact afD x (.inr (.inl h))|15,h,_,_=>exact afD x (.inr (.inr h))|16,h,_,_=>exact anT x h|17,h,_,_=>exact anS x h|18,h,_,_=>exact anR x h|19,h,_,_=>exact anQ x h|20,h,_,_=>exact anP x h|21,h,_,_=>exact anO x h|22,h,_,_=>exact anN x h|23,h,_,_=>exact anM x h|24,h,_,_=>exact anL x h|25,h,_,_=>exact anK x h|26,h,_,_=>exact anJ x h|27,h,_,_=>exact anI x h|28,h,_,_=>exact anH x h|29,h,_,_=>exact anG x h|30,h,_,_=>exact anF x h|31,h,_,_=>exact anE x h|32,h,_,_=>exact anD x h|33,h,_,_=>exact anC x h|34,h,_,_=>exact anB x h|k+35,h,_,g=>omega
def I5(c:ax)(dd:L aq)(M:MP)(w:aj):O (aj×O aM)->(fJ×U)×MB×MP×U
 |none=>((fJ.a0 ⟨⟩,()),mb c dd w,M,())|some (w',Y)=>((fJ.a2 ⟨⟩,()),mb c dd w',M,())|some (w',Z e)=>((fJ.a1 ⟨e⟩,()),mb c dd w',M,())
def anw{n:Nat}{x:O (U×SB×MB×MP×U)}{α:Type}(p:U×SB×MB×MP×U->O α)(q:Any×SB×MB×MP×U->O α):ah (Eh x) (λc=>cr c p q)=ah x p:=by cases x<;>rfl
variable {n:Nat}
def choose{α:Type}{k:Nat}(h1:1<=k)(h2:k<=34)(x:SX)(p:U×SB×MB×MP×U->O α)(q:Any×SB×MB×MP×U->O α) :
 (ai (fU (k:Int) 0) Y (ai (fU (k:Int) 1) (ah (F173 n x) p) (ai (fU (k:Int) 2) (ah (F173 n x) p) (ai (fU (k:Int) 3) (ah (F173 n x) p) (ai (fU (k:Int) 4) (ah (F174 n x) p) (ai (fU (k:Int) 5) (ah (F173 n x) p) (ai (fU (k:Int) 6) (ah (F175 n x) λc=>cr c p q) (ai (fU (k:Int) 7) (ah (F176 n x) λc=>cr c p q) (ai (fU (k:Int) 8) (ah (F177 n x) λc=>cr c p q) (ai (fU (k:Int) 9) (ah (F178 n x) p) (ai (fU (k:Int) 10) (ah (F179 n x) p) (ai (fU (k:Int) 11) (ah (F180 n x) p) (ai (fU (k:Int) 12) (ah (F181 n x) λc=>cr c p q) (ai (fU (k:Int) 13) (ah (F182 n x) λc=>cr c p q) (ai (fU (k:Int) 14) (ah (F182 n x) λc=>cr c p q) (ai (fU (k:Int) 15) (ah (F182 n x) λc=>cr c p q) (ai (fU (k:Int) 16) (ah (F183 n x) λc=>cr c p q) (ai (fU (k:Int) 17) (ah (F184 n x) λc=>cr c p q) (ai (fU (k:Int) 18) (ah (F185 n x) λc=>cr c p q) (ai (fU (k:Int) 19) (ah (F186 n x) p) (ai (fU (k:Int) 20) (ah (F187 n x) λc=>cr c p q) (ai (fU (k:Int) 21) (ah (F188 n x) λc=>cr c p q) (ai (fU (k:Int) 22) (ah (F189 n x) λc=>cr c p q) (ai (fU (k:Int) 23) (ah (F190 n x) λc=>cr c p q) (ai (fU (k:Int) 24) (ah (F191 n x) λc=>cr c p q) (ai (fU (k:Int) 25) (ah (F192 n x) λc=>cr c p q) (ai (fU (k:Int) 26) (ah (F193 n x) λc=>cr c p q) (ai (fU (k:Int) 27) (ah (F194 n x) λc=>cr c p q) (ai (fU (k:Int) 28) (ah (F195 n x) λc=>cr c p q) (ai (fU (k:Int) 29) (ah (F196 n x) λc=>cr c p q) (ai (fU (k:Int) 30) (ah (F197 n x) λc=>cr c p q) (ai (fU (k:Int) 31) (ah (F198 n x) λc=>cr c p q) (ai (fU (k:Int) 32) (ah (F199 n x) λc=>cr c p q) (ai (fU (k:Int) 33) (ah (F200 n x) p) (ai (fU (k:Int) 34) (ah (F201 n x) p) (aT J Y))))))))))))))))))))))))))))))))))))=
 ah (opF k n x) λc=>cr c p q:=by
 match k,h1,h2 with
 |1,_,_|2,_,_|3,_,_|4,_,_|5,_,_|9,_,_|10,_,_|19,_,_|33,_,_|34,_,_=>exact(anw (n:=n) p q).symm|11,_,_=>rfl|6,_,_|7,_,_|8,_,_|12,_,_|13,_,_|14,_,_|15,_,_|16,_,_|17,_,_|18,_,_|20,_,_|21,_,_|22,_,_|23,_,_|24,_,_|25,_,_|26,_,_|27,_,_|28,_,_|29,_,_|30,_,_|31,_,_|32,_,_=>rfl|k+35,_,h=>omega
end
end
section
section
variable {n:Nat}{c:ax}{dd:List aq}{M:MP}{w w':aj}{bl:List au}{f g:au}{a op A B s:Int}{u v:aA}{T:SB}{e:Option aM}{R:MB}
def are:O aM->fJ
 |none=>fJ.a2 ⟨⟩|some e=>fJ.a1 ⟨e⟩
def agI(d:0<=a)(h1:a<w'.bg.length)(t1:0<=cg w' a)(t2:cg w' a<w'.aP.length)(f:(cO w' (cg w' a)).N=0)(hl:bl.length<=1000) :
  gG n (R,M,a,()) ((),tb a bl g.At g.Env g.Stack g.ep op A B e,mb c dd w',M,())=Z ((are e,()),mb c dd (ku w' (cg w' a) ⟨6,0,[],bl++[g]⟩),M,()):=by
 have b:=λo=>agS (n:=n) (c:=c) (dd:=dd) (M:=M) (o:=o) d h1 t1 t2;unfold cg cO at *
 unfold gG aar;cases e<;>simp(disch:=first|omega|simp only[mK];omega)only[bu,b,f,bN,Ar,IF]<;>rfl
def Zj(b:0<=a)(h1:a<w'.bg.length)(t1:0<=cg w' a)(t2:cg w' a<w'.aP.length)(d:(cO w' (cg w' a)).N≠0){e:aM} :
  gG n (R,M,a,()) ((),tb a bl g.At g.Env g.Stack g.ep op A B (Z e),mb c dd w',M,())=Z ((fJ.a1 ⟨e⟩,()),mb c dd w',M,()):=by
 unfold cg cO at *
 unfold gG;simp(disch:=omega)only[bu,bN,Ar]<;>rfl
def Zi(d:0<=a)(h1:a<w.bg.length)(t1:0<=cg w a)(t2:cg w a<w.aP.length):jR n (mb c dd w,M,a,()) (fl s,T,mb c dd w',M,())=Z ((fJ.a1 ⟨⟨a,0,s,cB⟩⟩,()),mb c dd (ku w (cg w a) ⟨6,s,[],[]⟩),M,()):=by have b:=λo=>agS (n:=n) (c:=c) (dd:=dd) (M:=M) (o:=o) d h1 t1 t2;show ah (F121 n (mb c dd w,M,a,⟨6,s,[],[]⟩,())) (λh=>Z ((fJ.a1 (iD.mk (aM.mk a 0 s cB)),()),h.2))=_;rw[b];rfl
theorem Zh:jR n (mb c dd w,M,a,()) (wt,T,mb c dd w',M,())=Z ((fJ.a0 ⟨⟩,()),mb c dd w,M,()):=rfl
theorem e67(x:se c dd)(m:jD c dd w)(z:0<=a)(h1:a<w.bg.length):Ev (λn=>F67 n (mb c dd w,M,a,())) (I5 c dd M w (kN c w a)):=by
 let ⟨t1,t2,t3⟩:=m.task _ (bT 0 (show a.toNat<w.bg.length by omega))
 have E:=m.ob t1 t2;change 0<=cg w a at t1;change cg w a<_ at t2;change(cO w (cg w a)).Form=6 at t3;change fN c dd _ (cO w (cg w a))at E;have tl:=m.tl;have ol:=m.len;unfold kN;simp only;by_cases p:(cO w (cg w a)).N=0
 .rw[bL (by omega)]
  let ⟨h,f,j,k1,k2,q⟩:=GL E t3 p
  have C:=Zc (at_:=a) x m E t3 p;have F:=q.lo;have I:=q.hi;have r:=x.dep.ok f.At F I q.re;have t:=q.sl;have nd:=r.2.2.1;have hx:Sx c dd w h (aW c f.At) ⟨f.At+1,f.Env,f.Stack.take (f.Stack.length-cC c (aW c f.At)),f.ep⟩ (f.Stack.drop (f.Stack.length-cC c (aW c f.At))) f.At a:=⟨ZC x m k1 k2 q,z,h1⟩
  let ⟨y,hy,b⟩:=Vf (M:=M) hx
  rw[<-Ln (w:=w) (at_:=a)]at b;rw[<-j]at b;have io:=hx.cx.io;have i1:=io.lo;have i2:=io.hi;have K:f.Stack.take (f.Stack.length-cC c (aW c f.At))++f.Stack.drop (f.Stack.length-cC c (aW c f.At))=f.Stack:=Xl ..;have b1:Pv (mb c dd w,M,a,())=(h.length:Int):=by show bF .i64 (av (cO w (cg w a)).Frames) 1=_;rw[j];show bF .i64 (((h++[f]).length:Nat):Int) 1=_;rw[mG,rH,dc]<;>omega
  have P:Ed (mb c dd w,M,a,())=f:=by
   unfold Ed;show(cO w (cg w a)).Frames.getD _ _=_
   grind[az]
  have b3:fj (mb c dd w,M,a,())=aW c f.At:=by unfold fj;rw[P];rfl
  have b4:gT (mb c dd w,M,a,())=(s5 a h ⟨f.At+1,f.Env,f.Stack.take (f.Stack.length-cC c (aW c f.At)),f.ep⟩ (f.Stack.drop (f.Stack.length-cC c (aW c f.At))) (aW c f.At),mb c dd w,M,()):=by
   unfold gT;rw[b1,P,b3];have e1:cY (bp w.aP (az (bp w.bg (az a) 0)) bG).4 0 (h.length:Int)=h:=by show cY (cO w (cg w a)).Frames 0 _=_;rw[j];exact n7 _ _ rfl
   have e2:aF .i64 f.At 1=f.At+1:=bQ (by omega) (by have:=x.len;omega);show(((),a,cY (bp w.aP (az (bp w.bg (az a) 0)) bG).4 0 (h.length:Int),aF .i64 f.At 1,f.Env,f.Stack,_),_)=_;rw[e1,e2];unfold s5;rw[K]
  have hF:∀n,F67 n (mb c dd w,M,a,())=ah (opF (aW c f.At).Op.toNat n (gT (mb c dd w,M,a,()))) λy=>cr y (gG n (mb c dd w,M,a,())) (jR n (mb c dd w,M,a,())):=by
   intro n;have hlen:(w.aP.getD (w.bg.getD a.toNat 0).toNat bG).Frames.length=h.length+1:=by
    grind[cO,cg]
   have S:(w.aP.getD (w.bg.getD a.toNat 0).toNat bG).N=0:=p;unfold cg at t1 t2;obtain⟨k,hk⟩:∃k:Nat,(aW c f.At).Op=k:=⟨_,(BX (by omega)).symm⟩;rw[hk,we,<-choose (by omega) (by omega)];unfold F67 Pu LV;rw[b1,P,b3,hk];simp(disch:=omega)only[bu]
  refine Ev.r5 hF ?_;rw[b4];refine Ev.ah hy ?_;cases d:goS c w a (cO w (cg w a))with
  |waits=>rw[d]at b;obtain⟨T,u,rfl⟩:=b;exact bK λn=>Zh
  |fail s=>rw[d]at b;obtain⟨T,u,rfl⟩:=b;exact bK λn=>Zi z h1 t1 t2
  |done v=>
   rw[d]at b;obtain⟨bl,g,rfl⟩:=b;have t:(ku w (cg w a) ⟨6,1,[v],[]⟩).aP.length=w.aP.length:=by unfold ku;simp
   have e0:(((cg w a).toNat:Nat):Int)=cg w a:=by omega
   have lg:=xO (w:=w) (o:=⟨6,1,[v],[]⟩) (i:=(cg w a).toNat) t1 t2;exact bK λn=>Zj (w':=ku w (cg w a) ⟨6,1,[v],[]⟩) z h1 t1 (by rw[t];exact t2) (by grind[ku,cg])
  |go u fr e=>
   rw[d]at b C;obtain⟨bl,g,rfl,Mx,rfl⟩:=b
   let ⟨l,hl⟩:=C.tk
   have hln:=C.ln;have e0:(((cg w a).toNat:Nat):Int)=cg w a:=by omega
   have ht:cg u a=cg w a:=by
    grind[cg]
   have lg:cO u (cg w a)=cO w (cg w a):=by
    have:=C.sm (cg w a).toNat (by omega)
    simp_all
   have htl:a<u.bg.length:=by grind
   have:=λn=>agI (n:=n) (c:=c) (dd:=dd) (M:=M) (R:=mb c dd w) (op:=(aW c f.At).Op) (A:=(aW c f.At).A) (B:=(aW c f.At).B) (e:=e) (g:=g) z htl (by omega) (by rw[ht];omega) (by simp_all) Mx;rw[ht]at this;cases e<;>exact bK this
 .rw[bw p];have S:(w.aP.getD (w.bg.getD a.toNat 0).toNat bG).N≠0:=p;unfold cg at t1 t2;exact bK λn=>by unfold F67;simp(disch:=omega)only[bu]<;>rfl
end
end
section
section
variable {n:Nat}{c:ax}{dd:List aq}{w w':aj}{left fr:List au}{f g:au}{a op s form:Int}{v u:aA}{o:bI}
theorem foldt(w:aj)(k:Int):w.bg.getD k.toNat 0=cg w k:=rfl
end
end
section
section
variable {n:Nat}{c:ax}{dd:List aq}{w w':aj}{left fr:List au}{f g:au}{a op s form A B:Int}{v u:aA}{o:bI}
end
end
section
section
variable {n:Nat}{c:ax}{dd:List aq}{w w':aj}{left fr:List au}{f g:au}{a op s form A B:Int}{v u:aA}{o:bI}{i:bO}{l:List aA}{m:Int}
end
end
section
section
variable {n:Nat}{c:ax}{dd:List aq}{w w':aj}{left fr:List au}{f g:au}{a op s form A B:Int}{v u:aA}{o:bI}{i:bO}{l:List aA}{m:Int}
end
end
section
section
variable {n:Nat}{c:ax}{dd:List aq}{w w':aj}{left fr:List au}{f g:au}{a op s form A B:Int}{v u:aA}{o:bI}{i:bO}{l:List aA}{m:Int}
end
end
section
section
variable {n:Nat}{c:ax}{dd:List aq}{w w':aj}{left fr:List au}{f g f0:au}{a op s form A B:Int}{v u:aA}{o:bI}{i:bO}{l:List aA}{m:Int}
end
end
section
section
variable {n:Nat}{c:ax}{dd:List aq}{w w':aj}{left fr:List au}{f g f0:au}{a op s form A B:Int}{v u:aA}{o:bI}{i:bO}{l:List aA}{m:Int}
end
end
section
section
variable {n:Nat}{c:ax}{dd:List aq}{w w':aj}{left fr:List au}{f g f0:au}{a op s form A B:Int}{v u:aA}{o:bI}{i:bO}{l:List aA}{m:Int}
end
end
section
section
variable {n:Nat}{c:ax}{dd:List aq}{w w':aj}{left fr:List au}{f g f0:au}{a op s form A B:Int}{v u:aA}{o:bI}{i:bO}{l:List aA}{m:Int}
end
end
section
section
variable {n:Nat}{c:ax}{dd:List aq}{w w':aj}{left fr:List au}{f g f0:au}{a op s form A B:Int}{v u:aA}{o:bI}{i:bO}{l:List aA}{m:Int}
end
end
section
section
variable {c:ax}{D out:List aq}{n:Int}{d:aq}
structure Ai(c:ax):Prop where
 len:1<=c.dG.length∧c.dG.length<=1500
 ins:∀i∈c.dG,Sk c i
 pats:∀q∈c.ew,tE c.Cons q∧pw q<=12
 pl:c.ew.length<=100
 oM:∀f∈c.cU,0<=f∧f<c.dG.length
 fl:1<=c.cU.length∧c.cU.length<=300
 main:0<=c.Main∧c.Main<c.cU.length
 cons:∀k∈c.Cons,0<=k.lY∧k.lY<=3
def Ai.pok(h:Ai c)(a:PD c D):se c D:=⟨h.len,h.ins,h.pats,h.pl,h.oM,h.fl,h.main,h.cons,a⟩
structure Good(c:ax)(n:Int)(d:aq):Prop where
 lo:0<=n
 hi:n<c.dG.length
 st:d.Stack<=60
 en:d.Env<=30
 ne:yN c (aW c n) d
 re:d.Reached=W
def NoD(c:ax):Prop:=¬∃D,PD c D
theorem AQ(g:Ai c)(h:Kk c n d)(i:¬Good c n d):NoD c:=λ⟨D,f⟩=>by obtain⟨a,b,e,r⟩:=f.Cc g.oM h;obtain⟨x,y,z⟩:=f.ok n a b (by grind);rw[e]at x y z;exact i ⟨a,b,x,y,z,r⟩
def X0(a:Ai c){b:aq}(h:Kk c n d)(g:Kk c n b)(i:d≠b):NoD c:=λ⟨D,f⟩=>by
 obtain⟨_,_,e,_⟩:=f.Cc a.oM h;obtain⟨_,_,j,_⟩:=f.Cc a.oM g
 simp_all
theorem E0{n:Int}(hn:0<=n)(a:n<out.length){m:Int}(b:0<=m):dV (out.set n.toNat d) m=if m=n then d else dV out m:=by
 unfold dV
 grind
def qP(out:L aq):Nat:=out.countP λd=>!d.Reached
theorem NZ:qP out<=out.length:=List.countP_le_length
theorem Jz:∀{out:L aq}{k:Nat},k<out.length->(out.getD k aQ).Reached=J->d.Reached=W->qP (out.set k d)+1=qP out
 |a::out,0,_,h,b=>by
  grind[List.getD_cons_zero,qP]
 |a::out,k+1,c,h,b=>by
  grind[qP]
structure PI(c:ax)(T:Int->Prop)(out:List aq):Prop where
 len:out.length=c.dG.length
 re:∀n:Int,0<=n->n<c.dG.length->(dV out n).Reached=W->Kk c n (dV out n)∧Good c n (dV out n)
 fo:∀n:Int,0<=n->n<c.dG.length->(dV out n).Reached=W->¬T n->∀x∈dM c n (dV out n),0<=x.1∧x.1<c.dG.length∧dV out x.1=x.2
 zero:∀n:Int,0<=n->n<c.dG.length->(dV out n).Reached=J->dV out n=aQ
theorem PI.mono{T d:Int->Prop}(h:PI c T out)(e:∀n,T n->d n):PI c d out:=⟨h.len,h.re,λn a b r f=>h.fo n a b r λg=>f (e n g),h.zero⟩
def PI.done(h:PI c (λ_=>False) out)(d:∀f∈c.cU,dV out f=bV 0 1):PD c out:=
 ⟨h.len,d,λn a b r=>⟨(h.re n a b r).2.st,(h.re n a b r).2.en,(h.re n a b r).2.ne⟩,λn a b r=>h.fo n a b r id,λn a b r=>(h.re n a b r).1,h.zero⟩
theorem PI.set{T:Int->Prop}(h:PI c T out)(q:Kk c n d)(i:Good c n d)(s:(dV out n).Reached=J):PI c (λm=>T m∨m=n) (out.set n.toNat d):=by
 have l:=h.len;have e:∀{m:Int},0<=m->dV (out.set n.toNat d) m=if m=n then d else dV out m:=λf=>E0 i.lo (by rw[l];exact i.hi) f
 refine⟨by simp_all,λm a b r=>?_,λm a b r j x g=>?_,λm a b r=>?_⟩
 .rw[e a]at r ⊢;by_cases f:m=n
  .simp_all
  .rw[bL f]at r ⊢;exact h.re m a b r
 .have f:m≠n:=λf=>j (.inr f);rw[e a,bL f]at r g;obtain⟨k,o,p⟩:=h.fo m a b r (λg=>j (.inl g)) x g;refine⟨k,o,?_⟩;rw[e k,bL]
  .exact p
  grind[AS]
 .rw[e a]at r ⊢;by_cases f:m=n
  .rw[bw f,i.re]at r;cases r
  .rw[bL f]at r ⊢;exact h.zero m a b r
def jQ(out a:L aq):Prop:=∀m:Int,0<=m->(dV out m).Reached=W->dV a m=dV out m
theorem jQ.refl:jQ out out:=λ_ _ _=>rfl
def jQ.trans{a b e:L aq}(h:jQ a b)(d:jQ b e):jQ a e:=λm c r=>(d m c (by rw[h m c r];exact r)).trans (h m c r)
theorem Vv(hl:out.length=c.dG.length)(a:Good c n d)(e:(dV out n).Reached=J):jQ out (out.set n.toNat d):=λm b r=>by
 rw[E0 a.lo (by rw[hl];exact a.hi) b,bL]
 grind
end
end
section
section
variable {n:Nat}{c:ax}{dd:List aq}{i:bO}{d:aq}{m:Int}{op s e:Int}
theorem Wp(n k:Nat):R163 n (k+1)=B163 n (R163 n k):=rfl
mutual
theorem wv:∀q:aD,0<=fP q∧fP q<=pw q
 |⟨b,_,_,parts⟩=>by have:=zzA parts;unfold fP pw;omega
theorem zzA:∀qs:L aD,0<=nS qs∧nS qs<=tw qs
 |[]=>by unfold nS tw;omega|q::qs=>by have:=wv q;have:=zzA qs;unfold nS tw;omega
end
theorem Jx:∀qs:L aD,qs.length<=tw qs
 |[]=>AH _|⟨_,_,_,_⟩::qs=>by unfold tw pw;have:=Jx qs;grind
def Names(q:aD):Prop:=Dc R163 (q,()) ((fP q,()),())
theorem Js{R B P:Type}(d:Nat):∀(qs pre:L aD)(k:Int),0<=k->k+(tw qs:Int)<=100000->pre.length+qs.length<=100000->(∀q∈qs,Names q)->
  ∀F:Nat->Int×Int×U->O (LO (Int×Int×U) R B P),
  (∀n g,F n g=ai (aC g.2.1 (av (pre++qs))) (aT (aN g.2.1 (pre++qs)) (ah (R163 n (n-d) (@bp aD (pre++qs) (az g.2.1) aL,())) λh=>Z (N (aF .i64 g.1 h.1.1,aF .i64 g.2.1 1,())))) (Z (H 0 g)))->
  gJ F (k,(pre.length:Int),()) (.out 0 (k+nS qs,((pre++qs).length:Int),()))
 |[],pre,k,_,_,_,_,F,b=>by unfold nS;refine .out (bK λn=>?_);rw[b];simp(disch:=omega) [bu,jB,FK]<;>rfl
 |q::qs,pre,k,l,h1,e,c,F,b=>by
  unfold tw at h1;simp at e;have m:=wv q;have f:(pre++q::qs).getD pre.length aL=q:=tN ..;have h2:=Js (R:=R) (B:=B) (P:=P) d qs (pre++[q]) (k+fP q) (by omega) (by omega) (by simp;omega) (λi h=>c i (g7 _ h)) F (λn g=>by rw[b];simp<;>rfl);have h3:=c q eI d;simp only[AF,Nj]at h2;unfold nS;rw[<-Int.add_assoc];refine .next (y:=(k+fP q,((pre++[q]).length:Int),())) ?_ h2
  let ⟨a,h3⟩:=h3
  refine⟨a,λn j=>?_⟩;have:=h3 n j;show F n _=_;rw[b];simp(disch:=first|omega|simp only[mK];omega)only[bu,f,gj,gq];refine(fq (λx=>ah x _) this).trans ?_;show Z (N (aF .i64 k (fP q),aF .i64 (pre.length:Int) 1,()))=_
  grind[bQ]
theorem names{cons:L cq}:∀q:aD,pw q<=1000->tE cons q->Names q
 |⟨a,n0,text,parts⟩,o,f=>by
  have j:a=2->parts=[]:=by
   grind[tE]
  have l:oH cons parts:=by
   obtain b|b|b|b:=f
   .rw[b.2.2.2];trivial
   .rw[b.2.2.2];trivial
   .rw[b.2.2.2];trivial
   simp_all
  unfold pw at o;have v:=Jx parts;refine Dc.step Wp λd=>?_;have m:=λ(k:Int)(p:0<=k)(h1:k<=1)=>Js (R:=Int×U) (B:=U) (P:=Any) d parts [] k p (by omega) (by grind) (λq r=>names' parts (by omega) l q r) _ (λn g=>rfl);have s:∀n,B163 n (R163 n (n-d)) (⟨a,n0,text,parts⟩,())=ah (@iter (Int×Int×U) (Int×U) U Any (λg=>ai (aC g.2.1 (av parts)) (aT (aN g.2.1 parts) (ah (R163 n (n-d) (@bp aD parts (az g.2.1) aL,())) λh=>Z (N (aF .i64 g.1 h.1.1,aF .i64 g.2.1 1,())))) (Z (H 0 g))) n ((if a=2 then 1 else 0),0,())) λg=>bD g (λ_ i=>Z ((i.1,()),())) (λ_ i=>Z (i,())) λ_(_:Any)=>Y:=by
   intro n;unfold B163;by_cases h:a=2
   .simp only[bu,h,sr,bN]<;>rfl
   .simp (disch:=omega)only[bu,h,yo,bN]<;>rfl
  refine Ev.r5 s ?_;by_cases h:a=2
  .rw[bw h];refine Ev.br (m 1 (by omega) (by omega)) (λn e=>_) _ ?_;exact bK λn=>by unfold fP;rw[bw h,j h];rfl
  .rw[bL h];refine Ev.br (m 0 (by omega) (by omega)) (λn e=>_) _ ?_;exact bK λn=>by unfold fP;rw[bL h,Int.zero_add];rfl
where
 names':∀(c:L aD),tw c<=1000->oH cons c->∀q∈c,Names q
 |[],_,_,_,h=>by cases h
 |q::c,t,f,u,h=>by
  unfold tw at t;obtain h|h:=fS.1 h
  .rw[h];exact names q (by omega) f.1
  .exact names' c (by omega) f.2 u h
def HG(c:ax)(i:bO):Int:=if i.Op=8 then -3 else if i.Op=34 then -2 else cC c i
def d160(h1:1<=i.Op)(h2:i.Op<=34)(f:i.Op=18->0<=i.A∧i.A<c.Cons.length∧0<=(c.Cons.getD i.A.toNat bf).lY):F160 n (c,i,())=Z ((HG c i,()),()):=by
 by_cases a:i.Op=18
 .let ⟨g,j,l⟩:=f a
  unfold F160 Ab xp HG cC lK;rw[bw a,bL (by omega),bL (by omega)];simp(disch:=omega)only[bu,bN];rw[show(((c.Cons.getD i.A.toNat bf).lY.toNat:Nat):Int)=(c.Cons.getD i.A.toNat bf).lY by omega]
 .obtain ⟨k,b⟩:∃k:Nat,i.Op=k:=⟨_,(BX (by omega)).symm⟩;have d:1<=k:=by omega
  have e:k<=34:=by omega
  unfold HG cC;rw[bL a,show i.Op.toNat=k by omega];unfold F160;simp only[b]
  match k,d,e,b with
  |18,_,_,b=>omega
  |1,_,_,_|2,_,_,_|3,_,_,_|4,_,_,_|5,_,_,_|6,_,_,_|7,_,_,_|8,_,_,_|9,_,_,_|10,_,_,_|11,_,_,_|12,_,_,_|13,_,_,_|14,_,_,_|15,_,_,_|16,_,_,_|17,_,_,_
  |19,_,_,_|20,_,_,_|21,_,_,_|22,_,_,_|23,_,_,_|24,_,_,_|25,_,_,_|26,_,_,_|27,_,_,_|28,_,_,_|29,_,_,_|30,_,_,_|31,_,_,_|32,_,_,_|33,_,_,_|34,_,_,_=>rfl|k+35,_,h,_=>omega
theorem d108:F108 n (s,e,())=Z ((bV s e,()),()):=rfl
def BU(l:L (Int×aq)):L aZ:=l.map λx=>⟨x.1,x.2⟩
def d161:F161 n (op,())=Z ((decide (op=8∨op=20∨op=34),()),()):=by
 unfold F161;by_cases h1:op=8
 .simp only[bu,h1]<;>rfl
 by_cases h2:op=20
 .simp (disch:=omega)only[bu,h2]<;>rfl
 simp(disch:=omega)only[bu,h1,h2,false_or]<;>rfl
def d162:F162 n (op,())=Z ((!decide (op=9∨op=10∨op=11∨op=12∨op=19),()),()):=by
 unfold F162 CY;by_cases h1:op=9
 .simp only[bu,h1]<;>rfl
 by_cases h2:op=10
 .simp (disch:=omega)only[bu,h2]<;>rfl
 by_cases h3:op=11
 .simp (disch:=omega)only[bu,h3]<;>rfl
 by_cases h4:op=12
 .simp (disch:=omega)only[bu,h4]<;>rfl
 by_cases h5:op=19
 .simp (disch:=omega)only[bu,h5]<;>rfl
 simp(disch:=omega) [bu,h1,h2,h3,h4,h5,or_self,decide_false,Nc]<;>rfl
structure Lo(d:aq):Prop where
 re:d.Reached=W
 s:0<=d.Stack
 e:0<=d.Env
def Ai.io(h:Ai c)(a:0<=m)(h1:m<c.dG.length):Sk c (aW c m):=h.ins _ (bT _ (by omega))
def Ai.cn(h:Ai c)(a:0<=m)(h1:m<c.dG.length):(aW c m).Op=18->0<=(aW c m).A∧(aW c m).A<c.Cons.length∧0<=(c.Cons.getD (aW c m).A.toNat bf).lY:=
 λb=>by have:=(h.io a h1).con b;exact⟨this.1,this.2,(h.cons _ (bT _ (by omega))).1⟩
def Ff(h:Ai c)(b:0<=m)(h1:m<c.dG.length):cC c (aW c m)<=3:=by
 unfold cC lK;split
 .rename_i a;have:=(h.io b h1).con a;have:=(h.cons _ (bT bf (show(aW c m).A.toNat<c.Cons.length by omega)));omega
 .have:∀k:Nat,kT.getD k 0<=3:=by
   intro k;by_cases a:k<35
   .have:∀k:Fin 35,kT.getD k.1 0<=3:=by decide
    exact this ⟨k,a⟩
   simp_all[kT]
  exact this _
def ak5(j:Ai c)(l:0<=m)(h1:m<c.dG.length)(hn:¬yN c (aW c m) d):F109 n (c,m,d,())=Z (([],J,()),()):=by
 have io:=j.io l h1;have a:=d160 (n:=n) (c:=c) (i:=aW c m) io.lo io.hi (j.cn l h1);have e:g6 (c,m,d,())=aW c m:=rfl;generalize aW c m=i at *
 have o:∀k:Nat,i.Op=k->k≠18->cC c i=kT.getD k 0:=λk h q=>by unfold cC;rw[bL (by omega),show i.Op.toNat=k by omega]
 unfold F109;unfold HG at a;unfold yN at hn;by_cases f:i.Op=8
 .rw[bw f]at a;have:=o 8 f (by decide);have g:cC c i=2:=this;have p:d.Stack≠2:=λh=>hn ⟨by omega,by omega,by omega,λ_=>h,by omega⟩;simp(disch:=omega) [bu,e,a,show bF .i64 (-1) (-3)=2 from rfl]<;>rfl
 by_cases b:i.Op=34
 .rw[bL f,bw b]at a;have g:cC c i=1:=o 34 b (by decide);have p:d.Stack≠1:=λh=>hn ⟨by omega,by omega,by omega,by omega,λ_=>h⟩;simp(disch:=omega) [bu,e,a,show bF .i64 (-1) (-2)=1 from rfl]<;>rfl
 by_cases r:d.Stack<(cC c i:Int)
 .simp (disch:=omega) [bu,e,a]<;>rfl
 by_cases s:i.Op=4
 .have p:d.Env<=i.A:=by omega
  simp(disch:=omega) [bu,e,a]<;>rfl
 simp_all[Db,bu]
def d109(q:Ai c)(v:0<=m)(h1:m<c.dG.length)(hn:yN c (aW c m) d)(C:Lo d)(hs:d.Stack<=60)(he:d.Env<=30):Ev (λn=>F109 n (c,m,d,())) ((BU (dM c m d),W,()),()):=by
 have io:=q.io v h1;have E:=q.len;have b:=λn=>d160 (n:=n) (c:=c) (i:=aW c m) io.lo io.hi (q.cn v h1);have g:g6 (c,m,d,())=aW c m:=rfl;have hi:aN m c.dG=W:=pQ.2 ⟨v,h1⟩;have ht:=Ff q v h1;have r:dM c m d=(let i:=aW c m;let s:=fO c i d
  match i.Op.toNat with
  |8|20|34=>[]|9=>[(m+1,bV s (d.Env+1))]|10=>[(m+1,bV s (d.Env-i.A))]|11=>[(i.A,d)]|12=>[(m+1,bV s d.Env),(i.A,bV s d.Env)]|19=>[(m+1,bV s (d.Env+fP (mI c i.A))),(i.B,d)]|6|32=>[(m+1,bV s d.Env),(i.A,bV 0 (d.Env+1))]|31=>[(m+1,bV s d.Env),(i.A,bV 0 d.Env)]|_=>[(m+1,bV s d.Env)]):=by rfl
 rw[r];clear r;generalize aW c m=i at *
 have tk:∀k:Nat,i.Op=k->k≠18->cC c i=kT.getD k 0:=λk h I=>by unfold cC;rw[bL (by omega),show i.Op.toNat=k by omega]
 let ⟨n1,n2,n3,K,P⟩:=hn
 have R:=C.s;have S:=C.e;have am:aF .i64 m 1=m+1:=bQ (by omega) (by omega);simp only;by_cases z:i.Op=8
 .rw[show i.Op.toNat=8 by omega];refine bK λn=>?_;have b:=b n;unfold HG at b;rw[bw z]at b;have:=K z;unfold F109;simp(disch:=omega)only[bu,g,b,show bF .i64 (-1) (-3)=2 from rfl]<;>rfl
 by_cases t:i.Op=34
 .rw[show i.Op.toNat=34 by omega];refine bK λn=>?_;have b:=b n;unfold HG at b;rw[bL z,bw t]at b;have:=P t;unfold F109;simp(disch:=omega)only[bu,g,b,show bF .i64 (-1) (-2)=1 from rfl]<;>rfl
 have red:∀n,F109 n (c,m,d,())=mZ n (c,m,d,()) (((cC c i:Int),()),()):=by
  intro n;unfold HG at b;unfold F109;by_cases k4:i.Op=4
  .simp_all[Db,bu]
  .by_cases j:i.Op=10
   .simp_all[Db,bu]
   simp_all[Db,bu]
 refine Ev.r5 red ?_;clear red;by_cases k20:i.Op=20
 .rw[show i.Op.toNat=20 by omega];refine bK λn=>?_;unfold mZ;simp(disch:=omega)only[bu,g,d161,k20]<;>rfl
 have f:=λn=>d161 (n:=n) (op:=i.Op);rw[je (show ¬(i.Op=8∨i.Op=20∨i.Op=34)by omega)]at f;have sl:bF .i64 d.Stack (cC c i:Int)=d.Stack-(cC c i:Int):=dc (by omega) (by omega);have l:aF .i64 (d.Stack-(cC c i:Int)) 1=d.Stack-(cC c i:Int)+1:=bQ (by omega) (by omega);have w:∀k:Int,0<=k->k<=1000->aF .i64 d.Env k=d.Env+k:=λk _ _=>bQ (by omega) (by omega);have p:(i.Op=9∨i.Op=10∨i.Op=11∨i.Op=12∨i.Op=19)->fO c i d=d.Stack-(cC c i:Int):=λh=>by unfold fO;omega
 have lo:¬(i.Op=9∨i.Op=10∨i.Op=11∨i.Op=12∨i.Op=19)->fO c i d=d.Stack-(cC c i:Int)+1:=λh=>by unfold fO;rw[bL h]
 have e:=λn=>d162 (n:=n) (op:=i.Op);by_cases y:i.Op=9∨i.Op=10∨i.Op=11∨i.Op=12∨i.Op=19
 .rw[kz y]at e;have p:=p y;by_cases F:i.Op=9
  .rw[show i.Op.toNat=9 by omega,p];refine bK λn=>?_;unfold mZ oV;simp(disch:=omega) [bu,g,sl,F,w 1 (by omega) (by omega),d108,am]<;>rfl
  by_cases j:i.Op=10
  .rw[show i.Op.toNat=10 by omega,p];have:=io.drop j;have sa:bF .i64 d.Env i.A=d.Env-i.A:=dc (by omega) (by omega);refine bK λn=>?_;unfold mZ oV;simp(disch:=omega) [bu,g,sl,j,sa,d108,am]<;>rfl
  by_cases k11:i.Op=11
  .rw[show i.Op.toNat=11 by omega];refine bK λn=>?_;unfold mZ oV;simp(disch:=omega) [bu,g,sl,k11]<;>rfl
  by_cases k12:i.Op=12
  .rw[show i.Op.toNat=12 by omega,p];refine bK λn=>?_;unfold mZ oV vn rC;simp(disch:=omega) [bu,g,sl,k12,d108,am]<;>rfl
  have Im:i.Op=19:=by omega
  rw[show i.Op.toNat=19 by omega,p];have hp:=io.Hy Im;have A:=q.pats _ (bT aL (show i.A.toNat<c.ew.length by omega));have B:=wv (c.ew.getD i.A.toNat aL)
  let ⟨a,o⟩:=names _ (by omega) A.1 0
  have u:∀n,a<=n->F163 n (c.ew.getD i.A.toNat aL,())=Z ((fP (c.ew.getD i.A.toNat aL),()),()):=o;refine⟨a,λn hn=>?_⟩;have o:=u n hn;show mZ n _ _=_;rw[Im]at f e;unfold mZ oV vn rC;simp(disch:=omega) [bu,g,f,e,KH,bN,sl,Im,d108,am];refine(fq (λx=>ah x _) o).trans ?_;show Z ((([(⟨m+1,bV (d.Stack-(cC c i:Int)) (aF .i64 d.Env (fP (c.ew.getD i.A.toNat aL)))⟩:aZ),⟨i.B,d⟩]:L aZ),W,()),())=_;rw[w _ B.1 (by omega)];rfl
 .rw[je y]at e;have lo:=lo y;by_cases k6:i.Op=6
  .rw[show i.Op.toNat=6 by omega,lo];refine bK λn=>?_;unfold mZ oV vn rC;simp(disch:=omega) [bu,g,bN,sl,l,k6,w 1 (by omega) (by omega),d108,am]<;>rfl
  by_cases k32:i.Op=32
  .rw[show i.Op.toNat=32 by omega,lo];refine bK λn=>?_;unfold mZ oV vn rC;simp(disch:=omega) [bu,g,bN,sl,l,k32,w 1 (by omega) (by omega),d108,am]<;>rfl
  by_cases k31:i.Op=31
  .rw[show i.Op.toNat=31 by omega,lo];refine bK λn=>?_;unfold mZ oV vn rC;simp(disch:=omega) [bu,g,bN,sl,l,k31,d108,am]<;>rfl
  have F:i.Op≠9:=by omega
  have j:i.Op≠10:=by omega
  have k11:i.Op≠11:=by omega
  have k12:i.Op≠12:=by omega
  have Im:i.Op≠19:=by omega
  have hk:(match i.Op.toNat with
   |8|20|34=>[]|9=>[(m+1,bV (fO c i d) (d.Env+1))]|10=>[(m+1,bV (fO c i d) (d.Env-i.A))]|11=>[(i.A,d)]|12=>[(m+1,bV (fO c i d) d.Env),(i.A,bV (fO c i d) d.Env)]|19=>[(m+1,bV (fO c i d) (d.Env+fP (mI c i.A))),(i.B,d)]|6|32=>[(m+1,bV (fO c i d) d.Env),(i.A,bV 0 (d.Env+1))]|31=>[(m+1,bV (fO c i d) d.Env),(i.A,bV 0 d.Env)]|_=>[(m+1,bV (fO c i d) d.Env)]:L (Int×aq))=[(m+1,bV (fO c i d) d.Env)]:=by
   split<;>first|rfl|(exfalso;omega)
  rw[hk,lo];refine bK λn=>?_;unfold mZ oV vn rC;simp(disch:=omega)only[bu,g,f,e,Nc,bN,sl,l,d108,am]<;>rfl
end
end
section
section
variable {n:Nat}{c:ax}{i:bO}{d:aq}{m:Int}{op s e:Int}
def Zq{a b:aq}(h:a=b):cm (o8 a.1 b.1) (cm (aa a.2 b.2) (cm (aa a.3 b.3) W))=W:=by
 subst h
 let ⟨r,s,e⟩:=a
 cases r<;>simp[cm,o8,aa]
theorem aev{a b:aq}(h:a≠b):cm (o8 a.1 b.1) (cm (aa a.2 b.2) (cm (aa a.3 b.3) W))=J:=by
 let ⟨r,s,e⟩:=a
 let ⟨c,d,f⟩:=b
 grind[cm,o8,aa]
theorem Gc(g:Ai c)(i:0<=m)(h1:m<c.dG.length)(hn:yN c (aW c m) d)(e:Lo d){x:Int×aq}(a:x∈dM c m d):0<=x.1∧Lo x.2:=by
 have io:=g.io i h1;have j:=AS a e.re;have h2:=e.s;have h3:=e.e
 let ⟨n1,l,n,o,p⟩:=hn
 have b:0<=fO c (aW c m) d:=by unfold fO;split<;>omega
 have k:=io.goto;have f:=io.Hy
 suffices h:0<=x.1∧0<=x.2.Stack∧0<=x.2.Env from⟨h.1,j,h.2.1,h.2.2⟩
 unfold dM at a;dsimp only at a;split at a<;>rename_i q<;>simp only[fS,List.not_mem_nil,or_false]at a
 .subst a;exact⟨by omega,b,by show 0<=d.Env+1;omega⟩
 .subst a;exact⟨by omega,b,by show 0<=d.Env-_;omega⟩
 .grind
 .obtain a|a:=a<;>subst a
  .exact ⟨by omega,b,h3⟩
  .exact ⟨by omega,b,h3⟩
 .have:=f (by omega);obtain a|a:=a<;>subst a
  .exact ⟨by omega,b,by show 0<=d.Env+_;have:=(wv (mI c (aW c m).A)).1;omega⟩
  simp_all
 .obtain a|a:=a<;>subst a
  .exact ⟨by omega,b,h3⟩
  .exact ⟨by omega,Iz _,by show 0<=d.Env+1;omega⟩
 .obtain a|a:=a<;>subst a
  .exact ⟨by omega,b,h3⟩
  .exact ⟨by omega,Iz _,by show 0<=d.Env+1;omega⟩
 .obtain a|a:=a<;>subst a
  .exact ⟨by omega,b,h3⟩
  .exact ⟨by omega,Iz _,h3⟩
 .subst a;exact⟨by omega,b,h3⟩
def Vi:(dM c m d).length<=2:=by unfold dM;dsimp only;split<;>simp
abbrev DX:=L aq×L aZ×Int×U
structure DI(c:ax)(x:DX):Prop where
 k:0<=x.2.2.1∧x.2.2.1<=x.2.1.length
 wk:∀r∈x.2.1,Kk c r.At r.jE∧Lo r.jE∧0<=r.At
 afn:∀j:Nat,(j:Int)<x.2.2.1->(x.2.1.getD j aX).At<c.dG.length∧dV x.1 (x.2.1.getD j aX).At=(x.2.1.getD j aX).jE
 len:x.1.length=c.dG.length
 re:∀n:Int,0<=n->n<c.dG.length->(dV x.1 n).Reached=W->Kk c n (dV x.1 n)∧Good c n (dV x.1 n)
 fo:∀n:Int,0<=n->n<c.dG.length->(dV x.1 n).Reached=W->∀y∈dM c n (dV x.1 n),(⟨y.1,y.2⟩:aZ)∈x.2.1
 zero:∀n:Int,0<=n->n<c.dG.length->(dV x.1 n).Reached=J->dV x.1 n=aQ
 fl:∀f∈c.cU,(⟨f,bV 0 1⟩:aZ)∈x.2.1
 sz:x.2.1.length+2*qP x.1<=c.cU.length+2*c.dG.length
def DI.done{x:DX}(h:DI c x)(k:x.2.2.1=x.2.1.length):PD c x.1:=by
 have key:∀r∈x.2.1,0<=r.At∧r.At<c.dG.length∧dV x.1 r.At=r.jE:=by intro r d;obtain⟨j,e,rfl⟩:=rG d;have:=h.afn j (by omega);rw[vR,iR e]at this;exact⟨(h.wk _ d).2.2,this.1,this.2⟩
 exact PI.done (c:=c) ⟨h.len,h.re,λn a b r _ y g=>key _ (h.fo n a b r y g),h.zero⟩ λf i=>(key _ (h.fl f i)).2.2
def DQ(c:ax)(o:LO DX (L aq×Bool×U) U Any):Prop:=
 (∃x:DX,o=.out 0 x∧PD c x.1)∨(o=.ret () ([],J,())∧NoD c)
theorem V4(s:Ai c)(F:Nat->DX->O (LO DX (L aq×Bool×U) U Any))
  (v:∀n g,F n g=ai (aC g.2.2.1 (av g.2.1)) (aT (aN g.2.2.1 g.2.1) (aT (eR (az g.2.2.1) g.2.1) (aT (aN g.2.2.1 g.2.1) (aT (eR (az g.2.2.1) g.2.1) (ai (bn (av c.1) (bp g.2.1 (az g.2.2.1) aX).1) (nq n) (ai (aC 60 (bp g.2.1 (az g.2.2.1) aX).2.2) (nq n) (ai (aC 30 (bp g.2.1 (az g.2.2.1) aX).2.3) (nq n) (aT (vK g) (aT (eR (jm g) g.1) (ai (bp g.1 (jm g) aQ).1 (aT (vK g) (aT (eR (jm g) g.1) (ai (ak (cm (o8 (bp g.1 (jm g) aQ).1 (bp g.2.1 (az g.2.2.1) aX).2.1) (cm (aa (bp g.1 (jm g) aQ).2 (bp g.2.1 (az g.2.2.1) aX).2.2) (cm (aa (bp g.1 (jm g) aQ).3 (bp g.2.1 (az g.2.2.1) aX).2.3) W)))) (nq n) (BI n (c,()) g)))) (BI n (c,()) g))))))))))) (Z (H 0 g)))
  (x:DX) (h:DI c x):(∃y,Ev (λn=>F n x) (.next y)∧DI c y∧2*qP y.1+(y.2.1.length-y.2.2.1.toNat)<2*qP x.1+(x.2.1.length-x.2.2.1.toNat))∨∃o,(∀y,o≠.next y)∧Ev (λn=>F n x) o∧DQ c o:=by
 let ⟨out,b,kk,⟨⟩⟩:=x
 obtain⟨k,hk⟩:∃k:Nat,kk=k:=⟨_,(BX h.k.1).symm⟩;subst hk;have hkl:k<=b.length:=by have:=h.k.2;simp_all
 have hlen:out.length=c.dG.length:=h.len;have hcl:=s.len;have hfl:=s.fl;have hsz:=h.sz;simp only at hsz;have bad:∀{o:LO DX (L aq×Bool×U) U Any},o=.ret () ([],J,())->∀y,o≠.next y:=λh y=>by simp_all
 by_cases WB:k=b.length
 .subst WB;refine .inr ⟨.out 0 (out,b,(b.length:Int),()),(λy h=>by cases h),bK λn=>?_,.inl ⟨_,rfl,h.done rfl⟩⟩;rw[v];simp(disch:=omega) [bu]<;>rfl
 .have hk':k<b.length:=by omega
  have I:b.getD k aX∈b:=bT _ hk'
  let ⟨C,r2,E⟩:=h.wk _ I
  have K:=r2.re;generalize A:b.getD k aX=r at *
  have no:∀{Q:Prop},NoD c->(∀n,F n (out,b,(k:Int),())=Z (.ret () ([],J,())))->Q∨∃o,(∀y,o≠.next y)∧Ev (λn=>F n (out,b,(k:Int),())) o∧DQ c o:=
   λh1 h2=>.inr ⟨.ret () ([],J,()),bad rfl,bK h2,.inr ⟨rfl,h1⟩⟩
  by_cases b1:(c.dG.length:Int)<=r.At
  .refine no (AQ s C λg=>by have:=g.hi;omega) λn=>?_;rw[v];simp(disch:=omega)only[bu,A,nq]<;>rfl
  by_cases b2:60<r.jE.Stack
  .refine no (AQ s C λg=>by have:=g.st;omega) λn=>?_;rw[v];simp(disch:=omega)only[bu,A,nq]<;>rfl
  by_cases b3:30<r.jE.Env
  .refine no (AQ s C λg=>by have:=g.en;omega) λn=>?_;rw[v];simp(disch:=omega)only[bu,A,nq]<;>rfl
  have ha:(out.getD r.At.toNat aQ)=dV out r.At:=rfl;cases t:(dV out r.At).Reached with
  |true=>
   by_cases b5:dV out r.At=r.jE
   .have P:=Zq b5;rw[t]at P;refine .inl ⟨(out,b,(k:Int)+1,()),bK λn=>?_,⟨by grind,h.wk,?_,h.len,h.re,h.fo,h.zero,h.fl,h.sz⟩,by grind⟩
    .rw[v];unfold BI jm vK;simp(disch:=omega)only[bu,A,ha,t,P,bQ]<;>rfl
    .intro j hj;by_cases hjk:j=k
     .simp_all
     .exact h.afn j (by grind)
   .have P:=aev b5;rw[t]at P;refine no (X0 s (h.re _ E (by omega) t).1 C b5) λn=>?_;rw[v];unfold jm vK;simp(disch:=omega)only[bu,A,ha,t,P,nq]<;>rfl
  |false=>
   by_cases R:yN c (aW c r.At) r.jE
   .have hg:Good c r.At r.jE:=⟨E,by omega,by omega,by omega,R,K⟩
    let ⟨a,i⟩:=d109 s E (by omega) R r2 (by omega) (by omega)
    have B:∀n,a<=n->F109 n (c,r.At,r.jE,())=Z ((BU (dM c r.At r.jE),W,()),()):=i;have hl0:=Jz (out:=out) (k:=r.At.toNat) (d:=r.jE) (by omega) t K;have hnl:=Vi (c:=c) (m:=r.At) (d:=r.jE);have hrl:(BU (dM c r.At r.jE)).length=(dM c r.At r.jE).length:=by simp[BU]
    have u:=λ(q:Int)(e:0<=q)=>E0 (d:=r.jE) (out:=out) E (by omega) e;refine .inl ⟨(out.set r.At.toNat r.jE,b++BU (dM c r.At r.jE),(k:Int)+1,()),⟨a,λn hn=>?_⟩,⟨by grind,?_,?_,by simp_all,?_,?_,?_,?_,?_⟩,?_⟩
    .show F n _=_;rw[v];unfold BI jm vK;simp(disch:=omega)only[bu,A,ha,t,B n hn,bQ]<;>rfl
    .intro q e;obtain e|e:=eS.1 e
     .exact h.wk q e
     .obtain ⟨y,w,rfl⟩:=v9.1 e;have:=Gc s E (by omega) R r2 w;exact⟨.next C w,this.2,this.1⟩
    .intro j hj;simp only at hj ⊢;have hgd:(b++BU (dM c r.At r.jE)).getD j aX=b.getD j aX:=by rw[vR,vR,Xh (by omega)]
     rw[hgd];by_cases hjk:j=k
     .simp_all
     .have hp:=h.afn j (by grind);have hw:=h.wk _ (bT (l:=b) aX (show j<b.length by omega));refine⟨hp.1,?_⟩;rw[u _ hw.2.2,bL]
      .exact hp.2
      .intro hne;rw[hne]at hp;rw[hp.2,hw.2.1.re]at t;cases t
    .intro q z S p;rw[u q z]at p ⊢;by_cases e:q=r.At
     .simp_all
     .rw[bL e]at p ⊢;exact h.re q z S p
    .intro q z S p y w;rw[u q z]at p w;by_cases e:q=r.At
     .subst e;rw[bw rfl]at w;exact eP _ (v9.2 ⟨y,w,rfl⟩)
     .rw[bL e]at p w;exact fL _ (h.fo q z S p y w)
    .intro q z S p;rw[u q z]at p ⊢;by_cases e:q=r.At
     .simp_all
     .rw[bL e]at p ⊢;exact h.zero q z S p
    .exact λf hf=>fL _ (h.fl f hf)
    .grind
    grind
   .refine no (AQ s C λg=>R g.ne) λn=>?_;have i:=ak5 (n:=n) s E (by omega) R;rw[v];unfold BI jm vK;simp(disch:=omega)only[bu,A,ha,t,i,nq]<;>rfl
theorem d51(a:Ai c):(∃D,PD c D∧Ev (λn=>F51 n (c,())) ((D,W,()),()))∨(NoD c∧Ev (λn=>F51 n (c,())) (([],J,()),())):=by
 have t:=a.len;have u:=a.fl;have mk:QT (av c.1)=W:=by
  unfold QT av
  grind
 have h1:∀(R B P:Type)(F:Nat->L aZ×Int×U->O (LO (L aZ×Int×U) R B P)),
   (∀n x,F n x=ai (aC x.2.1 (av c.3)) (aT (aN x.2.1 c.3) (ah (F108 n (0,1,())) λd=>aT (dF x.1 [aZ.mk (bp c.3 (az x.2.1) 0) d.1.1]) (Z (N (di x.1 [aZ.mk (bp c.3 (az x.2.1) 0) d.1.1],aF .i64 x.2.1 1,()))))) (Z (H 0 x)))->
   gJ F ([],0,()) (.out 0 (c.cU.map (λf=>(⟨f,bV 0 1⟩:aZ)),(c.cU.length:Int),())):=by
  intro R B P F p;have:=lE (F:=F) c.cU.length (λk=>(((c.cU.take k).map (λf=>(⟨f,bV 0 1⟩:aZ))),(k:Int),())) 0 (λk C=>bK λn=>by
   rw[p];have e:(c.cU.take (k+1)).map (λf=>(⟨f,bV 0 1⟩:aZ))=(c.cU.take k).map (λf=>(⟨f,bV 0 1⟩:aZ))++[⟨c.cU.getD k 0,bV 0 1⟩]:=by
    grind[List.take_succ_eq_append_getElem]
   have E:((c.cU.take k).map (λf=>(⟨f,bV 0 1⟩:aZ))).length<=1000:=by simp;omega
   simp(disch:=first|omega|simp only[mK];omega)only[bu,d108,bQ,e]<;>rfl) (bK λn=>by
   rw[p];simp(disch:=omega) [bu]<;>rfl)
  simp_all
 have v:DI c (List.replicate c.dG.length aQ,c.cU.map (λf=>(⟨f,bV 0 1⟩:aZ)),0,()):=by
  have l:∀q:Int,dV (List.replicate c.dG.length aQ) q=aQ:=λq=>by unfold dV;rw[vR,List.getElem?_replicate];split<;>rfl
  refine⟨⟨Iz _,by grind⟩,?_,λj I=>by grind,by simp,λq _ _ r=>?_,λq _ _ r=>?_,λq _ _ _=>l q,λf b=>v9.2 ⟨f,b,rfl⟩,?_⟩
  .intro r w;obtain⟨f,b,rfl⟩:=v9.1 w;exact⟨.root b,⟨rfl,Iz _,show(0:Int)<=1 by decide⟩,(a.oM f b).1⟩
  .simp[l]at r;cases r
  .simp[l]at r;cases r
  grind[NZ]
 have start:∀{r:(L aq×Bool×U)×U},Ev (λn=>ah (@iter DX (L aq×Bool×U) U Any (λg=>ai (aC g.2.2.1 (av g.2.1)) (aT (aN g.2.2.1 g.2.1) (aT (eR (az g.2.2.1) g.2.1) (aT (aN g.2.2.1 g.2.1) (aT (eR (az g.2.2.1) g.2.1) (ai (bn (av c.1) (bp g.2.1 (az g.2.2.1) aX).1) (nq n) (ai (aC 60 (bp g.2.1 (az g.2.2.1) aX).2.2) (nq n) (ai (aC 30 (bp g.2.1 (az g.2.2.1) aX).2.3) (nq n) (aT (vK g) (aT (eR (jm g) g.1) (ai (bp g.1 (jm g) aQ).1 (aT (vK g) (aT (eR (jm g) g.1) (ai (ak (cm (o8 (bp g.1 (jm g) aQ).1 (bp g.2.1 (az g.2.2.1) aX).2.1) (cm (aa (bp g.1 (jm g) aQ).2 (bp g.2.1 (az g.2.2.1) aX).2.2) (cm (aa (bp g.1 (jm g) aQ).3 (bp g.2.1 (az g.2.2.1) aX).2.3) W)))) (nq n) (BI n (c,()) g)))) (BI n (c,()) g))))))))))) (Z (H 0 g))) n (afi (az (av c.1)) aQ,c.cU.map (λf=>(⟨f,bV 0 1⟩:aZ)),0,())) λg=>bD g (λ_ i=>Z ((i.1,W,()),())) (λ_ i=>Z (i,())) λ_ _=>Y) r->Ev (λn=>F51 n (c,())) r:=by
  intro r h;have y:nK (QT (av c.1)) (fU (av c.1) (av c.1))=W:=by rw[mk];simp[nK,fU]
  show Ev (λn=>aT (nK (QT (av c.1)) (fU (av c.1) (av c.1))) _) r;rw[y];refine Ev.br (h1 (L aq×Bool×U) U Any _ (λn x=>rfl)) _ r ?_;exact h
 let ⟨o,s,z⟩:=gJ.inv (F:=λn=>_) (DI c) (λx=>2*qP x.1+(x.2.1.length-x.2.2.1.toNat)) (DQ c) (V4 a _ (λn g=>rfl)) _ v
 obtain⟨x,rfl,A⟩|⟨rfl,m⟩:=z
 .exact .inl ⟨x.1,A,start (Ev.br s (λn e=>_) _ dz)⟩
 .exact .inr ⟨m,start (Ev.br s (λn e=>_) _ dz)⟩
end
end
section
section
variable {n:Nat}{c:ax}{i:bO}{d:aq}{m:Int}{op s e:Int}{out:List aq}{todo:List Int}
def s4(c:ax)(i:bO):er:=
 if i.Op=4 then .a0 ⟨i.A+1⟩else if i.Op=10 then .a0 ⟨i.A⟩else if i.Op=8 then .a2 ⟨2⟩else if i.Op=34 then .a2 ⟨1⟩else .a1 ⟨(cC c i:Int)⟩
def afo(io:Sk c i)(f:i.Op=18->0<=i.A∧i.A<c.Cons.length∧0<=(c.Cons.getD i.A.toNat bf).lY):F149 n (c,i,())=Z ((s4 c i,()),()):=by
 have h1:=io.lo;have h2:=io.hi;by_cases a:i.Op=18
 .obtain ⟨g,j,l⟩:=f a;unfold F149 Ac xq s4 cC lK;rw[bL (by omega),bL (by omega),bL (by omega),bL (by omega),bw a];simp(disch:=omega)only[bu,a,bN];rw[show(((c.Cons.getD i.A.toNat bf).lY.toNat:Nat):Int)=(c.Cons.getD i.A.toNat bf).lY by omega]
 by_cases h4:i.Op=4
 .have:=io.place h4;unfold F149 s4;rw[bw h4];simp(disch:=omega)only[bu,h4,bQ]
 .obtain ⟨k,b⟩:∃k:Nat,i.Op=k:=⟨_,(BX (by omega)).symm⟩;have d:1<=k:=by omega
  have e:k<=34:=by omega
  unfold s4 cC;rw[bL h4,bL a,show i.Op.toNat=k by omega];unfold F149;simp only[b]
  match k,d,e,b with
  |18,_,_,b=>omega|4,_,_,b=>omega
  |1,_,_,_|2,_,_,_|3,_,_,_|5,_,_,_|6,_,_,_|7,_,_,_|8,_,_,_|9,_,_,_|10,_,_,_|11,_,_,_|12,_,_,_|13,_,_,_|14,_,_,_|15,_,_,_|16,_,_,_|17,_,_,_
  |19,_,_,_|20,_,_,_|21,_,_,_|22,_,_,_|23,_,_,_|24,_,_,_|25,_,_,_|26,_,_,_|27,_,_,_|28,_,_,_|29,_,_,_|30,_,_,_|31,_,_,_|32,_,_,_|33,_,_,_|34,_,_,_=>rfl|k+35,_,h,_=>omega
def Vk(c:ax)(i:bO)(d:aq):Bool:=match s4 c i with
 |.a0 x=>bn x.env d.Env|.a1 x=>bn x.stack d.Stack|.a2 x=>aa d.Stack x.stack|.none=>J
def KU(g:Lo d):Vk c i d=W↔yN c i d:=by
 have m:=g.s;have a:∀k:Nat,i.Op=k->k≠18->cC c i=kT.getD k 0:=λk h j=>by unfold cC;rw[bL (by omega),show i.Op.toNat=k by omega]
 unfold Vk s4 yN;by_cases h4:i.Op=4
 .have b:cC c i=0:=a 4 h4 (by decide);rw[bw h4];simp only[bn,rF];omega
 by_cases e:i.Op=10
 .have b:cC c i=0:=a 10 e (by decide)
  simp_all[bL,bw,bn,rF]
 by_cases l:i.Op=8
 .have b:cC c i=2:=a 8 l (by decide)
  simp_all[bL,bw,aa,xU]
 by_cases f:i.Op=34
 .have b:cC c i=1:=a 34 f (by decide)
  simp_all[bL,bw,aa,xU]
 simp_all[bL,bn,rF]
abbrev CB:=(L bO)×(L aD)×(L Int)×Int×(L cq)×U
def cb(c:ax):CB:=(c.1,c.2,c.3,c.4,c.5,())
def RM(f:Ai c)(b:0<=m)(h1:m<c.dG.length):yg n (m,d,(out,()),cb c,(todo,()),())=qq (m,d,(out,()),cb c,(todo,()),()) ((Vk c (aW c m) d,()),()):=by have a:=afo (n:=n) (f.io b h1) (f.cn b h1);have g:aN m c.dG=W:=pQ.2 ⟨b,h1⟩;unfold yg;show TL.aT (aN m c.dG) (ah (F149 n (c,aW c m,())) _)=_;rw[g,a];unfold Vk;cases e:s4 c (aW c m)with|a0 x=>rfl|a1 x=>rfl|a2 x=>rfl|none=>unfold s4 at e;(repeat' (split at e))<;>cases e
abbrev RX:=Int×aq×((L aq)×U)×CB×((L Int)×U)×U
def rx(c:ax)(m:Int)(d:aq)(out:L aq)(todo:L Int):RX:=(m,d,(out,()),cb c,(todo,()),())
theorem M8(l:Ai c)(hl:out.length=c.dG.length)(i:0<=m)(j:Lo d)(q:¬Good c m d∨((dV out m).Reached=W∧dV out m≠d)){dp:Nat} :
  ee n (dp+1) (rx c m d out todo)=Z ((J,()),(out,()),cb c,(todo,()),()):=by
 rw[zX];unfold yj rx;have f:out.getD m.toNat aQ=dV out m:=rfl;by_cases o:(out.length:Int)<=m
 .unfold kL;simp only[bu,o]<;>rfl
 by_cases r:60<d.Stack
 .unfold kL;simp(disch:=omega)only[bu]<;>rfl
 by_cases s:30<d.Env
 .unfold kL;simp(disch:=omega)only[bu]<;>rfl
 have fail:(dV out m).Reached=W->dV out m≠d->yj n dp (m,d,(out,()),cb c,(todo,()),())=Z ((J,()),(out,()),cb c,(todo,()),()):=λh1 h2=>by have a:=aev h2;rw[h1]at a;unfold yj kL jd;simp(disch:=omega)only[bu,f,h1,a]<;>rfl
 have h5:=RM (n:=n) (d:=d) (out:=out) (todo:=todo) l i (by omega);have b:¬Good c m d->Vk c (aW c m) d=J:=λh=>by cases p:Vk c (aW c m) d with|false=>rfl|true=>exact absurd ⟨i,by omega,by omega,by omega,(KU j).1 p,j.re⟩ h
 cases e:(dV out m).Reached with
 |true=>
  by_cases k:dV out m=d
  .have g:¬Good c m d:=by
    simp_all
   have a:=Zq k;rw[e]at a;rw[b g]at h5;unfold jd;simp(disch:=omega)only[bu,f,e,a,h5]<;>rfl
  .exact fail e k
 |false=>
  have g:¬Good c m d:=by
   simp_all
  rw[b g]at h5;unfold jd;simp(disch:=omega)only[bu,f,e,h5]<;>rfl
variable {dp:Nat}
def UQ(g:Ai c)(hl:out.length=c.dG.length)(h:Lo d)(a:Good c m d)(b:dV out m=d) :
  ee n (dp+1) (rx c m d out todo)=Z ((W,()),(out,()),cb c,(todo,()),()):=by
 have i:=a.lo;have h1:=a.hi;have h2:=a.st;have h3:=a.en;rw[zX];unfold yj rx;have f:out.getD m.toNat aQ=dV out m:=rfl;have h5:=RM (n:=n) (d:=d) (out:=out) (todo:=todo) g i h1;rw[(KU h).2 a.ne]at h5;have e:(dV out m).Reached=W:=by rw[b];exact a.re
 have b:=Zq b;rw[e]at b;unfold jd;simp(disch:=omega)only[bu,f,e,b,h5];unfold qq jd;simp(disch:=omega)only[bu,f,e]<;>rfl
def US(f:Ai c)(hl:out.length=c.dG.length)(g:Lo d)(a:Good c m d)(b:(dV out m).Reached=J)(i:todo.length<=100000) :
  ee n (dp+1) (rx c m d out todo)=Z ((W,()),(out.set m.toNat d,()),cb c,(todo++[m],()),()):=by
 have h:=a.lo;have h1:=a.hi;have h2:=a.st;have h3:=a.en;rw[zX];unfold yj rx;have e:out.getD m.toNat aQ=dV out m:=rfl;have h5:=RM (n:=n) (d:=d) (out:=out) (todo:=todo) f h h1;rw[(KU g).2 a.ne]at h5;unfold jd;simp(disch:=omega)only[bu,e,b,h5];unfold qq jd;simp(disch:=first|omega|simp only[mK];omega)only[bu,e,b]<;>rfl
end
end
section
section
variable {n:Nat}{c:ax}{i:bO}{d:aq}{m:Int}{op s e:Int}{out:List aq}{todo:List Int}
theorem Wm(n k:Nat):R290 n (k+1)=B290 n (R290 n k):=rfl
def akW:∀q:aD,aD.mk q.Form q.N q.Text q.BE=q
 |⟨_,_,_,_⟩=>rfl
def Se(q:aD):Prop:=Dc R290 (q,()) ((fP q,()),())
theorem FR{R B P:Type}(d:Nat):∀(qs pre:L aD)(k:Int),0<=k->k+(tw qs:Int)<=100000->pre.length+qs.length<=100000->(∀q∈qs,Se q)->
  ∀F:Nat->Int×Int×U->O (LO (Int×Int×U) R B P),
  (∀n g,F n g=ai (aC g.2.1 (av (pre++qs))) (aT (aN g.2.1 (pre++qs)) (ah (R290 n (n-d) (@bp aD (pre++qs) (az g.2.1) aL,())) λh=>Z (N (aF .i64 g.1 h.1.1,aF .i64 g.2.1 1,())))) (Z (H 0 g)))->
  gJ F (k,(pre.length:Int),()) (.out 0 (k+nS qs,((pre++qs).length:Int),()))
 |[],pre,k,_,_,_,_,F,b=>by unfold nS;refine .out (bK λn=>?_);rw[b];simp(disch:=omega)only[bu,jB,FK]<;>rfl
 |q::qs,pre,k,l,h1,e,c,F,b=>by
  unfold tw at h1;simp only[ny]at e;have m:=wv q;have f:(pre++q::qs).getD pre.length aL=q:=tN ..;have h2:=FR (R:=R) (B:=B) (P:=P) d qs (pre++[q]) (k+fP q) (by omega) (by omega) (by simp;omega) (λi h=>c i (g7 _ h)) F (λn g=>by rw[b];simp only[AF,Nj]<;>rfl);have h3:=c q eI d;simp only[AF,Nj]at h2;unfold nS;rw[<-Int.add_assoc];refine .next (y:=(k+fP q,((pre++[q]).length:Int),())) ?_ h2
  obtain⟨a,h3⟩:=h3;refine⟨a,λn j=>?_⟩;have:=h3 n j;show F n _=_;rw[b];simp(disch:=first|omega|simp only[mK];omega)only[bu,f,mG,rH,gj,gq];refine(fq (λx=>ah x _) this).trans ?_;show Z (N (aF .i64 k (fP q),aF .i64 (pre.length:Int) 1,()))=_
  grind[bQ]
theorem XI{cons:L cq}:∀q:aD,pw q<=1000->tE cons q->Se q
 |⟨a,n0,text,parts⟩,o,b=>by
  have j:a=2->parts=[]:=by
   grind[tE]
  have l:oH cons parts:=by
   unfold tE at b;obtain c|c|c|c:=b
   .rw[c.2.2.2];trivial
   .rw[c.2.2.2];trivial
   .rw[c.2.2.2];trivial
   simp_all
  unfold pw at o;have v:=Jx parts;refine Dc.step Wm λd=>?_;have m:=λ(k:Int)(p:0<=k)(h1:k<=1)=>FR (R:=Int×U) (B:=U) (P:=Any) d parts [] k p (by omega) (by grind) (λq r=>names' parts (by omega) l q r) _ (λn g=>rfl);have s:∀n,B290 n (R290 n (n-d)) (⟨a,n0,text,parts⟩,())=ah (@iter (Int×Int×U) (Int×U) U Any (λg=>ai (aC g.2.1 (av parts)) (aT (aN g.2.1 parts) (ah (R290 n (n-d) (@bp aD parts (az g.2.1) aL,())) λh=>Z (N (aF .i64 g.1 h.1.1,aF .i64 g.2.1 1,())))) (Z (H 0 g))) n ((if a=2 then 1 else 0),0,())) λg=>bD g (λ_ i=>Z ((i.1,()),())) (λ_ i=>Z (i,())) λ_(_:Any)=>Y:=by
   intro n;unfold B290 Ib;by_cases h:a=2
   .simp only[bu,h,sr,bN,akW]<;>rfl
   .simp (disch:=omega)only[bu,h,yo,bN,akW]<;>rfl
  refine Ev.r5 s ?_;by_cases h:a=2
  .rw[bw h];refine Ev.br (m 1 (by omega) (by omega)) (λn e=>_) _ ?_;exact bK λn=>by unfold fP;rw[bw h,j h];rfl
  .rw[bL h];refine Ev.br (m 0 (by omega) (by omega)) (λn e=>_) _ ?_;exact bK λn=>by unfold fP;rw[bL h,Int.zero_add];rfl
where
 names':∀(f:L aD),tw f<=1000->oH cons f->∀q∈f,Se q
 |[],_,_,_,h=>by cases h
 |q::f,t,b,u,h=>by
  unfold tw at t;unfold oH at b;obtain h|h:=fS.1 h
  .rw[h];exact XI q (by omega) b.1
  .exact names' f (by omega) b.2 u h
def o6(c:ax)(i:bO):Int:=if i.Op=8∨i.Op=20∨i.Op=34 then 0 else(if i.Op=9∨i.Op=10∨i.Op=11∨i.Op=12∨i.Op=19 then 0 else 1)-(cC c i:Int)
def kR(c:ax)(i:bO):Int:=if i.Op=9 then 1 else if i.Op=10 then -i.A else if i.Op=19 then fP (mI c i.A)else 0
theorem ant(o:Ai c)(p:0<=m)(h1:m<c.dG.length)(hi:aW c m=i):Ev (λn=>F235 n (c,i,())) ((o6 c i,kR c i,()),()):=by
 have io:=o.io p h1;have cn:=o.cn p h1;have tl:=Ff o p h1;rw[hi]at io cn tl;have w:=io.lo;have y:=io.hi;by_cases b:i.Op=18
 .obtain ⟨z,A,B⟩:=cn b;refine bK λn=>?_;have g:(cC c i:Int)=(c.Cons.getD i.A.toNat bf).lY:=by unfold cC lK;grind
  have u:o6 c i=1-(c.Cons.getD i.A.toNat bf).lY:=by unfold o6;rw[bL (by omega),bL (by omega),g]
  have ge:kR c i=0:=by unfold kR;rw[bL (by omega),bL (by omega),bL (by omega)]
  unfold F235 oT sQ;simp(disch:=omega)only[bu,b,bN,dc,u,ge]<;>rfl
 by_cases d:i.Op=10
 .have C:=io.drop d;have q:PC .i64 i.A=-i.A:=by show IntKind.wrap .i64 (-i.A)=_;exact EC (by omega) (by omega)
  refine bK λn=>?_;have g:cC c i=0:=by unfold cC;rw[bL b,show i.Op.toNat=10 by omega];rfl
  unfold F235 oT sQ o6 kR;rw[bL (by omega),bw (by omega),g,bL (by omega),bw d];simp(disch:=omega)only[bu,d,bN,q]<;>rfl
 by_cases e:i.Op=19
 .have E:=io.Hy e;have r:=o.pats _ (bT aL (show i.A.toNat<c.ew.length by omega));obtain⟨a,f⟩:=XI _ (by omega) r.1 0;have j:∀n,a<=n->F290 n (c.ew.getD i.A.toNat aL,())=Z ((fP (c.ew.getD i.A.toNat aL),()),()):=f;have g:cC c i=1:=by unfold cC;rw[bL b,show i.Op.toNat=19 by omega];rfl
  refine⟨a,λn v=>?_⟩;have f:=j n v;show F235 n _=_;unfold F235 oT sQ o6 kR;rw[bL (by omega),bw (by omega),g,bL (by omega),bL d,bw e];simp(disch:=omega)only[bu,e,bN];exact(fq (λx=>ah x _) f).trans rfl
 .obtain ⟨k,l⟩:∃k:Nat,i.Op=k:=⟨_,(BX (by omega)).symm⟩;have s:1<=k:=by omega
  have t:k<=34:=by omega
  refine bK λn=>?_;unfold o6 kR cC;rw[bL b,show i.Op.toNat=k by omega];unfold F235;simp only[l]
  match k,s,t,l with
  |18,_,_,l=>omega|10,_,_,l=>omega|19,_,_,l=>omega
  |1,_,_,_|2,_,_,_|3,_,_,_|4,_,_,_|5,_,_,_|6,_,_,_|7,_,_,_|8,_,_,_|9,_,_,_|11,_,_,_|12,_,_,_|13,_,_,_|14,_,_,_|15,_,_,_|16,_,_,_|17,_,_,_
  |20,_,_,_|21,_,_,_|22,_,_,_|23,_,_,_|24,_,_,_|25,_,_,_|26,_,_,_|27,_,_,_|28,_,_,_|29,_,_,_|30,_,_,_|31,_,_,_|32,_,_,_|33,_,_,_|34,_,_,_=>rfl|k+35,_,h,_=>omega
theorem aiD(io:Sk c i):F236 n (i,s4 c i,())=Z ((decide (i.Op=8∨i.Op=20∨i.Op=34),()),()):=by
 unfold F236 s4;have y:∀x,mj [(315,Ty.st 31),(317,Ty.st 32),(318,Ty.st 33)] 2 (jh 34 (er.a0 x))=J:=λ_=>rfl;have z:∀x,mj [(315,Ty.st 31),(317,Ty.st 32),(318,Ty.st 33)] 2 (jh 34 (er.a1 x))=J:=λ_=>rfl;have u:∀x,mj [(315,Ty.st 31),(317,Ty.st 32),(318,Ty.st 33)] 2 (jh 34 (er.a2 x))=W:=λ_=>rfl;by_cases h4:i.Op=4
 .rw[bw h4,y,je (by omega)];simp(disch:=omega)only[bu,h4]<;>rfl
 by_cases a:i.Op=10
 .rw[bL h4,bw a,y,je (by omega)];simp(disch:=omega)only[bu,a]<;>rfl
 by_cases d:i.Op=8
 .rw[bL h4,bL a,bw d,u,kz (.inl d)];rfl
 by_cases b:i.Op=34
 .rw[bL h4,bL a,bL d,bw b,u,kz (.inr (.inr b))];rfl
 rw[bL h4,bL a,bL d,bL b,z];show Z ((aa i.Op 20,()),())=_
 grind[decide_eq_true,xU,decide_eq_false,aa]
end
end
section
section
variable {n:Nat}{c:ax}{i:bO}{d e:aq}{m x:Int}{out:List aq}{todo:List Int}{mm:Int->Prop}
abbrev PX:=((L aq)×U)×CB×((L Int)×U)×(Bool×U)×U
abbrev PO:=LO PX (L aq×Int×U) PX Any
def px(c:ax)(out:L aq)(todo:L Int)(b:Bool):PX:=((out,()),cb c,(todo,()),(b,()),())
structure PJ(c:ax)(mm:Int->Prop)(out:List aq)(todo:List Int):Prop where
 pi:PI c (λn=>n∈todo∨mm n) out
 td:∀n∈todo,0<=n∧n<c.dG.length∧(dV out n).Reached=W
 sz:todo.length+qP out<=c.dG.length
 lo:∀n:Int,0<=n->n<c.dG.length->(dV out n).Reached=W->Lo (dV out n)
structure Got(c:ax)(mm:Int->Prop)(l:List (Int×aq))(out:List aq)(todo:List Int)(out':List aq)(todo':List Int):Prop where
 pj:PJ c mm out' todo'
 keep:jQ out out'
 all:∀y∈l,0<=y.1∧y.1<c.dG.length∧dV out' y.1=y.2∧y.2.Reached=W
 le:2*qP out'+todo'.length<=2*qP out+todo.length
theorem zj(o:Ai c)(h:PJ c mm out todo)(f:Kk c x d)(hlo:Lo d)(g:0<=x) :
  (∃i b,(∀n l,ee n (l+1) (rx c x d out todo)=Z ((W,()),(i,()),cb c,(b,()),()))∧Got c mm [(x,d)] out todo i b)∨
  (NoD c∧∀n l,ee n (l+1) (rx c x d out todo)=Z ((J,()),(out,()),cb c,(todo,()),())):=by
 have p:=h.pi.len;have A:=h.sz;have v:=o.len;by_cases a:Good c x d
 .cases m:(dV out x).Reached with
  |true=>
   by_cases r:dV out x=d
   .refine .inl ⟨out,todo,λn l=>UQ o p hlo a r,h,jQ.refl,λy s=>?_,eM _⟩;rw[tj.1 s];exact⟨g,a.hi,r,a.re⟩
   .exact .inr ⟨X0 o (h.pi.re x g a.hi m).1 f r,λn l=>M8 o p g hlo (.inr ⟨m,r⟩)⟩
  |false=>
   have w:=Jz (out:=out) (k:=x.toNat) (d:=d) (by have:=a.hi;omega) m a.re;have j:=λ(q:Int)(e:0<=q)=>E0 (d:=d) (out:=out) g (by have:=a.hi;omega) e;refine .inl ⟨out.set x.toNat d,todo++[x],λn l=>US o p hlo a m (by omega),⟨(h.pi.set f a m).mono λq e=>?_,λq e=>?_,by grind,λq u z t=>?_⟩,Vv p a m,λy s=>?_,by grind⟩
   .grind
   .obtain e|e:=eS.1 e
    .have:=h.td q e
     grind
    .rw[tj.1 e];exact⟨g,a.hi,by rw[j x g,bw rfl];exact a.re⟩
   .rw[j q u]at t ⊢;by_cases e:q=x
    .simp_all
    .rw[bL e]at t ⊢;exact h.lo q u z t
   .rw[tj.1 s];exact⟨g,a.hi,by rw[j x g,bw rfl],a.re⟩
 grind[AQ,M8]
noncomputable def Vg(n a:Nat)(x:RX):O PO:=ah (ee n (a+8) x) (oR n)
noncomputable def MH(n a:Nat)(i:PX)(x:RX)(k:(aq×U)×U):O PO:=
 ah (ee n (a+8) x) λl=>ai (ak l.1.1) (Ec n l) (ah (F149 n (nk i)) λm=>ah (mY n i m) λo=>ai (ak o.1.1) (ah (ee n (a+8) (sO i k l)) (oR n)) (Eb n l))
def RQ(c:ax)(mm:Int->Prop)(l:L (Int×aq))(out:L aq)(todo:L Int)(o:PO):Prop:=
 (∃b a,o=.next (px c b a W)∧Got c mm l out todo b a)∨(∃b a,o=.out 0 (px c b a J)∧NoD c)
def XW(g:Ai c)(h:PJ c mm out todo)(e:Kk c x d)(hlo:Lo d)(i:0<=x):∃o,(∀n f,Vg n f (rx c x d out todo)=Z o)∧RQ c mm [(x,d)] out todo o:=by
 obtain⟨b,a,h1,h2⟩|⟨h1,h2⟩:=zj g h e hlo i
 .refine ⟨.next (px c b a W),λn f=>?_,.inl ⟨b,a,rfl,h2⟩⟩;unfold Vg;rw[h1 n (f+7)];rfl
 .refine ⟨.out 0 (px c out todo J),λn f=>?_,.inr ⟨out,todo,rfl,h1⟩⟩;unfold Vg;rw[h2 n (f+7)];rfl
theorem ain(l:Ai c)(h:PJ c mm out todo)(p:Kk c x d)(hlo:Lo d)(z:0<=x){i:PX}{k:(aq×U)×U}(hi:ja i=aW c m)(h4:nk i=(c,aW c m,()))(t:0<=m)(u:m<c.dG.length)
  (A:¬((aW c m).Op=8∨(aW c m).Op=20∨(aW c m).Op=34)) (h2:hU i=m) (B:k.1.1=e) (f:Kk c (m+1) e) (q:Lo e) :
  ∃o,(∀n j,MH n j i (rx c x d out todo) k=Z o)∧RQ c mm [(m+1,e),(x,d)] out todo o:=by
 have C:=l.len;obtain⟨b,a,h1,g⟩|⟨h1,g⟩:=zj l h p hlo z
 .have E:=λn=>afo (n:=n) (l.io t u) (l.cn t u);have w:=λn=>aiD (n:=n) (l.io t u);rw[je A]at w;obtain⟨o,F,v⟩:=XW l g.pj f q (show 0<=m+1 by omega);have I:sO i k ((W,()),(b,()),cb c,(a,()),())=rx c (m+1) e b a:=by unfold sO;rw[h2,B,bQ (by omega) (by omega)];rfl
  refine⟨o,λn j=>?_,?_⟩
  .have:=F n j;unfold Vg at this;unfold MH;rw[h1 n (j+7),h4];show ah (F149 n (c,aW c m,())) _=_;rw[E];show ah (mY n i _) _=_;unfold mY;rw[hi];show ah (F236 n (aW c m,s4 c (aW c m),())) _=_;rw[w];show ah (ee n (j+8) (sO i k ((W,()),(b,()),cb c,(a,()),()))) _=_
   simp_all
  .obtain ⟨K,t2,P,r⟩|v:=v
   .refine .inl ⟨K,t2,P,r.pj,g.keep.trans r.keep,λy s=>?_,fZ r.le g.le⟩;obtain s|s:=fS.1 s
    .exact r.all y (by simp_all)
    .have:=g.all y s;exact⟨this.1,this.2.1,by rw[r.keep y.1 this.1 (by simp_all)];grind,this.2.2.2⟩
   .exact .inr v
 .refine ⟨.out 0 (px c out todo J),λn j=>?_,.inr ⟨out,todo,rfl,h1⟩⟩;unfold MH;rw[g n (j+7)];rfl
theorem PJ.pop{rest:L Int}(h:PJ c (λ_=>False) out (rest++[m])):PJ c (λq=>q=m) out rest:=
 ⟨h.pi.mono λq a=>by
  simp_all,λq a=>h.td q (fL _ a),by have:=h.sz;grind,h.lo⟩
theorem PJ.ail(h:PJ c (λq=>q=m) out todo)(hn:∀y∈dM c m (dV out m),0<=y.1∧y.1<c.dG.length∧dV out y.1=y.2):PJ c (λ_=>False) out todo:=
 ⟨⟨h.pi.len,h.pi.re,λq a b d f y e=>by
  by_cases g:q=m
  .grind
  .exact h.pi.fo q a b d (λi=>by
    simp_all) y e,h.pi.zero⟩,h.td,h.sz,h.lo⟩
end
end
section
section
variable {n:Nat}{c:ax}{i:bO}{d e:aq}{m x:Int}{out:List aq}{todo rest:List Int}{mm:Int->Prop}
noncomputable def IJ(n a:Nat)(i:PX)(k:(aq×U)×U):O PO:=
 ai (aa (ja i).1 11) (Vg n a (ue i k)) (ai (aa (ja i).1 12) (MH n a i (ue i k) k) (ai (aa (ja i).1 19) (MH n a i (HU i) k)
 (ai (aa (ja i).1 6) (ah (F152 n (0,aF .i64 (bp i.1.1 (az (hU i)) aQ).3 1,())) λl=>MH n a i (ue i l) k) (ai (aa (ja i).1 32) (ah (F152 n (0,aF .i64 (bp i.1.1 (az (hU i)) aQ).3 1,())) λl=>MH n a i (ue i l) k)
 (ai (aa (ja i).1 31) (ah (F152 n (0,(bp i.1.1 (az (hU i)) aQ).3,())) λl=>MH n a i (ue i l) k)
 (ah (F149 n (nk i)) λl=>ah (mY n i l) λm=>ai (ak m.1.1) (Vg n a (aF .i64 (hU i) 1,k.1.1,HS i)) (HT n i)))))))
noncomputable def UO(n a:Nat)(i:PX):O PO:=
 ai (aC 0 (av i.2.2.1.1)) (aT (aN (sj i) i.2.2.1.1) (aT (eR (az (sj i)) i.2.2.1.1) (aT (fV 0 (sj i) (av i.2.2.1.1)) (aT (aN (hU i) i.1.1) (aT (eR (az (hU i)) i.1.1) (aT (aN (hU i) i.2.1.1) (ah (F235 n (nk i)) λj=>ah (Kb n i j) λk=>IJ n a i k))))))) (Z (H 0 i))
theorem akT(z:Ai c)(h:PJ c (λ_=>False) out (rest++[m])){k:(aq×U)×U}(v:k.1.1=bV ((dV out m).Stack+o6 c (aW c m)) ((dV out m).Env+kR c (aW c m))) :
  ∃o,(∀n f,IJ n f (px c out (rest++[m]) W) k=Z o)∧RQ c (λq=>q=m) (dM c m (dV out m)) out rest o:=by
 obtain⟨A,B,mr⟩:=h.td m (by simp);obtain⟨C,R⟩:=h.pi.re m A B mr;have io:=z.io A B;have hcl:=z.len;have K:=h.pop;have S:=h.sz;rw[mG,rH]at S;have b1:sj (px c out (rest++[m]) W)=(rest.length:Int):=by show bF .i64 (((rest++[m]).length:Nat):Int) 1=_;rw[mG,rH,dc]<;>omega
 have E:hU (px c out (rest++[m]) W)=m:=by unfold hU;rw[b1];exact j9 rest m 0 [] rfl
 have p:ja (px c out (rest++[m]) W)=aW c m:=by unfold ja;rw[E];rfl
 have b4:nk (px c out (rest++[m]) W)=(c,aW c m,()):=by unfold nk;rw[p];rfl
 have b6:HS (px c out (rest++[m]) W)=((out,()),cb c,(rest,()),()):=by unfold HS;rw[b1];show((out,()),cb c,(cY (rest++[m]) 0 (rest.length:Int),()),())=_;rw[n7 _ _ rfl]
 have F:∀l:(aq×U)×U,ue (px c out (rest++[m]) W) l=rx c (aW c m).A l.1.1 out rest:=λl=>by unfold ue;rw[p,b6];rfl
 have b13:HU (px c out (rest++[m]) W)=rx c (aW c m).B (dV out m) out rest:=by unfold HU;rw[p,b6,E];rfl
 have be:(bp (px c out (rest++[m]) W).1.1 (az (hU (px c out (rest++[m]) W))) aQ).3=(dV out m).Env:=by rw[E];rfl
 have b16:∀n,HT n (px c out (rest++[m]) W)=Z (.next (px c out rest W)):=by intro n;unfold HT;rw[b1];show Z (N ((out,()),cb c,(cY (rest++[m]) 0 (rest.length:Int),()),((W,()),())))=_;rw[n7 _ _ rfl];rfl
 have I:∀n,F149 n (c,aW c m,())=Z ((s4 c (aW c m),()),()):=λn=>afo io (z.cn A B);have u:∀n,mY n (px c out (rest++[m]) W) ((s4 c (aW c m),()),())=Z ((decide ((aW c m).Op=8∨(aW c m).Op=20∨(aW c m).Op=34),()),()):=λn=>by
  grind[mY,aiD]
 have lo:=h.lo m A B mr;have nl:=λy P=>Gc z A B R.ne lo (x:=y) P;have nd:=λ(y:Int×aq)P=>Kk.next C (x:=y) P
 generalize hG:dV out m=a at *
 have hGe:a=bV a.Stack a.Env:=Lz R.re;by_cases g:(aW c m).Op=8∨(aW c m).Op=20∨(aW c m).Op=34
 .have i:dM c m a=[]:=by unfold dM;obtain h|h|h:=g<;>simp only[show ∀k:Nat,(aW c m).Op=k->(aW c m).Op.toNat=k from λk h=>by omega,h]<;>rfl
  refine⟨.next (px c out rest W),λn f=>?_,.inl ⟨out,rest,rfl,K,jQ.refl,λy P=>?_,eM _⟩⟩
  .unfold IJ;rw[p,b4];rw[kz g]at u;have n1:(aW c m).Op≠11:=by omega
   have n2:(aW c m).Op≠12:=by omega
   have n3:(aW c m).Op≠19:=by omega
   have n4:(aW c m).Op≠6:=by omega
   have n5:(aW c m).Op≠32:=by omega
   have n6:(aW c m).Op≠31:=by omega
   simp(disch:=omega)only[bu,n1,n2,n3,n4,n5,n6,I,u];exact b16 n
  grind
 rw[je g]at u;have gl:a.Stack+o6 c (aW c m)=fO c (aW c m) a:=by unfold o6 fO;omega
 rw[gl]at v;have two:=λ{x:Int}{d e:aq}(hd:Kk c x d)(hl:Lo d)(hx:0<=x)(k:(aq×U)×U)(v:k.1.1=e)(hd':Kk c (m+1) e)(hl':Lo e)=>ain (k:=k) z K hd hl hx p b4 A B g E v hd' hl';by_cases k11:(aW c m).Op=11
 .have i:dM c m a=[((aW c m).A,a)]:=by
   grind[dM,aW]
  have b:k.1.1=a:=by
   have tk:cC c (aW c m)=0:=by unfold cC;rw[bL (by omega),show(aW c m).Op.toNat=11 by omega];rfl
   have l1:fO c (aW c m) a=a.Stack:=by unfold fO;omega
   have g1:kR c (aW c m)=0:=by unfold kR;rw[bL (by omega),bL (by omega),bL (by omega)]
   grind
  rw[i]at nl nd ⊢;obtain⟨o,j,r⟩:=XW z K (nd _ (ux _)) (nl _ (ux _)).2 (nl _ (ux _)).1;refine⟨o,λn f=>?_,r⟩;unfold IJ;rw[p];simp only[bu,k11,F,b];exact j n f
 by_cases k12:(aW c m).Op=12
 .have i:dM c m a=[(m+1,bV (fO c (aW c m) a) a.Env),((aW c m).A,bV (fO c (aW c m) a) a.Env)]:=by
   grind[dM,aW]
  have b:k.1.1=bV (fO c (aW c m) a) a.Env:=by rw[v];unfold kR;rw[bL (by omega),bL (by omega),bL (by omega),FK]
  rw[i]at nl nd ⊢;obtain⟨o,j,r⟩:=two (nd _ (g7 _ (ux _))) (nl _ (g7 _ (ux _))).2 (nl _ (g7 _ (ux _))).1 k b (nd _ eI) (nl _ eI).2;refine⟨o,λn f=>?_,r⟩;unfold IJ;rw[p];simp(disch:=omega)only[bu,k11,k12,F,b];exact j n f
 by_cases Im:(aW c m).Op=19
 .have i:dM c m a=[(m+1,bV (fO c (aW c m) a) (a.Env+fP (mI c (aW c m).A))),((aW c m).B,a)]:=by
   grind[dM,aW]
  have b:k.1.1=bV (fO c (aW c m) a) (a.Env+fP (mI c (aW c m).A)):=by rw[v];unfold kR;rw[bL (by omega),bL (by omega),bw Im]
  rw[i]at nl nd ⊢;obtain⟨o,j,r⟩:=two (nd _ (g7 _ (ux _))) (nl _ (g7 _ (ux _))).2 (nl _ (g7 _ (ux _))).1 k b (nd _ eI) (nl _ eI).2;refine⟨o,λn f=>?_,r⟩;unfold IJ;rw[p];simp(disch:=omega)only[bu,Im,b13];exact j n f
 have t:∀n s e,F152 n (s,e,())=Z ((bV s e,()),()):=λ_ _ _=>rfl;have ae:aF .i64 a.Env 1=a.Env+1:=bQ (by have:=lo.e;omega) (by have:=R.en;omega);by_cases w:(aW c m).Op=6∨(aW c m).Op=32
 .have i:dM c m a=[(m+1,bV (fO c (aW c m) a) a.Env),((aW c m).A,bV 0 (a.Env+1))]:=by unfold dM;obtain h|h:=w<;>simp only[show ∀k:Nat,(aW c m).Op=k->(aW c m).Op.toNat=k from λk h=>by omega,h]<;>rfl
  have b:k.1.1=bV (fO c (aW c m) a) a.Env:=by rw[v];unfold kR;rw[bL (by omega),bL (by omega),bL (by omega),FK]
  rw[i]at nl nd ⊢;obtain⟨o,j,r⟩:=two (nd _ (g7 _ (ux _))) (nl _ (g7 _ (ux _))).2 (nl _ (g7 _ (ux _))).1 k b (nd _ eI) (nl _ eI).2;refine⟨o,λn f=>?_,r⟩;unfold IJ;rw[p,be];obtain h|h:=w
  .simp (disch:=omega)only[bu,h,ae,t,F];exact j n f
  .simp (disch:=omega)only[bu,h,ae,t,F];exact j n f
 by_cases k31:(aW c m).Op=31
 .have i:dM c m a=[(m+1,bV (fO c (aW c m) a) a.Env),((aW c m).A,bV 0 a.Env)]:=by
   grind[dM,aW]
  have b:k.1.1=bV (fO c (aW c m) a) a.Env:=by rw[v];unfold kR;rw[bL (by omega),bL (by omega),bL (by omega),FK]
  rw[i]at nl nd ⊢;obtain⟨o,j,r⟩:=two (nd _ (g7 _ (ux _))) (nl _ (g7 _ (ux _))).2 (nl _ (g7 _ (ux _))).1 k b (nd _ eI) (nl _ eI).2;refine⟨o,λn f=>?_,r⟩;unfold IJ;rw[p,be];simp(disch:=omega)only[bu,k31,t,F];exact j n f
 have k6:(aW c m).Op≠6:=by omega
 have k32:(aW c m).Op≠32:=by omega
 have i:dM c m a=[(m+1,bV (fO c (aW c m) a) (a.Env+kR c (aW c m)))]:=by
  unfold kR dM;have:=io.lo;dsimp only;by_cases k9:(aW c m).Op=9
  .grind
  by_cases k10:(aW c m).Op=10
  .grind
  rw[bL k9,bL k10,bL Im,FK];split<;>first|rfl|(exfalso;omega)
 rw[i]at nl nd ⊢;obtain⟨o,j,r⟩:=XW z K (nd _ (ux _)) (nl _ (ux _)).2 (nl _ (ux _)).1;refine⟨o,λn f=>?_,r⟩;unfold IJ;rw[p,b4];have am:aF .i64 m 1=m+1:=bQ (by omega) (by omega);simp(disch:=omega)only[bu,k11,k12,Im,k6,k32,k31,I,u,E,am,b6,v];exact j n f
end
end
section
section
variable {n:Nat}{c:ax}{i:bO}{d e:aq}{m x:Int}{out:List aq}{todo rest:List Int}{mm:Int->Prop}
def ais(a:Ai c)(h:PJ c (λ_=>False) out (rest++[m])):∃o,Ev (λn=>UO n n (px c out (rest++[m]) W)) o∧RQ c (λq=>q=m) (dM c m (dV out m)) out rest o:=by
 obtain⟨b,d,i⟩:=h.td m (by simp);obtain⟨l,p⟩:=h.pi.re m b d i;have lo:=h.lo m b d i;have R:=h.pi.len;have s:=a.len;have e:=h.sz;have t:=Ff a b d;rw[mG,rH]at e;have r:sj (px c out (rest++[m]) W)=(rest.length:Int):=by show bF .i64 (((rest++[m]).length:Nat):Int) 1=_;rw[mG,rH,dc]<;>omega
 have f:hU (px c out (rest++[m]) W)=m:=by unfold hU;rw[r];exact j9 rest m 0 [] rfl
 have u:ja (px c out (rest++[m]) W)=aW c m:=by unfold ja;rw[f];rfl
 have v:nk (px c out (rest++[m]) W)=(c,aW c m,()):=by unfold nk;rw[u];rfl
 have S:-3<=o6 c (aW c m)∧o6 c (aW c m)<=1:=by unfold o6;split<;>(try split)<;>omega
 have io:=a.io b d;have eb:-30<=kR c (aW c m)∧kR c (aW c m)<=12:=by
  unfold kR;split
  .omega
  split
  .have:=io.drop (by assumption);omega
  split
  .have hp:=io.Hy (by assumption);have w:=a.pats _ (bT aL (show(aW c m).A.toNat<c.ew.length by omega));have x:=wv (mI c (aW c m).A);unfold mI at *
   omega
  .omega
 have y:∀n,Kb n (px c out (rest++[m]) W) ((o6 c (aW c m),kR c (aW c m),()),())=Z ((bV ((dV out m).Stack+o6 c (aW c m)) ((dV out m).Env+kR c (aW c m)),()),()):=by intro n;have:=lo.s;have:=lo.e;have:=p.st;have:=p.en;unfold Kb;rw[f];show Z ((bV (aF .i64 (dV out m).Stack (o6 c (aW c m))) (aF .i64 (dV out m).Env (kR c (aW c m))),()),())=_;rw[bQ (by omega) (by omega),bQ (by omega) (by omega)]
 obtain⟨o,z,A⟩:=akT a h (k:=((bV ((dV out m).Stack+o6 c (aW c m)) ((dV out m).Env+kR c (aW c m)),()),())) rfl;refine⟨o,?_,A⟩;refine Ev.r5 (g:=λn=>ah (F235 n (c,aW c m,())) λj=>ah (Kb n (px c out (rest++[m]) W) j) λk=>IJ n n (px c out (rest++[m]) W) k) (λn=>?_) (Ev.ah (ant a b d rfl) ?_)
 .unfold UO;rw[r,f,v];have B:aC 0 (av (px c out (rest++[m]) W).2.2.1.1)=W:=xT.2 (by show(0:Int)<(((rest++[m]).length:Nat):Int);simp<;>omega);have C:aN (rest.length:Int) (px c out (rest++[m]) W).2.2.1.1=W:=pQ.2 (by show _∧_<(((rest++[m]).length:Nat):Int);simp<;>omega);have E:eR (az (rest.length:Int)) (px c out (rest++[m]) W).2.2.1.1=W:=by show decide (rest.length<(rest++[m]).length)=W;simp
  have F:fV 0 (rest.length:Int) (av (px c out (rest++[m]) W).2.2.1.1)=W:=TX.2 (by show _∧_∧_<=(((rest++[m]).length:Nat):Int);simp<;>omega);have I:aN m (px c out (rest++[m]) W).1.1=W:=pQ.2 (by show _∧_<((out.length:Nat):Int);omega);have K:eR (az m) (px c out (rest++[m]) W).1.1=W:=by show decide (m.toNat<out.length)=W;simp<;>omega
  have P:aN m (px c out (rest++[m]) W).2.1.1=W:=pQ.2 (by show _∧_<((c.dG.length:Nat):Int);omega);rw[B,C,E,F,I,K,P];rfl
 .refine bK λn=>?_;rw[y];exact z n n
structure PK(c:ax)(x:PX):Prop where
 st:∃out todo,x=px c out todo W∧PJ c (λ_=>False) out todo∧∀f∈c.cU,dV out f=bV 0 1
def PQ(c:ax)(o:PO):Prop:=(∃out todo,o=.out 0 (px c out todo W)∧PD c out)∨(∃out todo,o=.out 0 (px c out todo J)∧NoD c)
theorem aiO(k:Ai c){x':PX}(h:PK c x'):∃o,gJ (λn=>UO n n) x' o∧PQ c o:=by
 refine gJ.inv (F:=λn=>UO n n) (PK c) (λx=>2*qP x.1.1+x.2.2.1.1.length) (PQ c) (λx t=>?_) x' h;obtain⟨out,todo,rfl,d,e⟩:=t.st;obtain rfl|⟨rest,m,rfl⟩:=List.eq_nil_or_concat todo
 .refine .inr ⟨.out 0 (px c out [] W),(λy h=>by cases h),bK λn=>?_,.inl ⟨out,[],rfl,?_⟩⟩
  .rfl
  .exact PI.done (d.pi.mono λq l=>by
    simp_all) e
 .rw[List.concat_eq_append]at *
  obtain⟨o,p,l⟩:=ais k d;obtain⟨b,a,rfl,g⟩|⟨b,a,rfl,i⟩:=l
  .have r:=d.td m (by simp);refine .inl ⟨_,p,⟨⟨b,a,rfl,g.pj.ail λy s=>?_,λf j=>?_⟩⟩,?_⟩
   .rw[g.keep m r.1 r.2.2]at s;have:=g.all y s
    simp_all
   .rw[g.keep f (k.oM f j).1 (by rw[e f j];rfl)];exact e f j
   .have:=g.le;show 2*qP b+a.length<2*qP out+(rest++[m]).length
    grind
  .exact .inr ⟨_,(λy h=>by cases h),p,.inr ⟨b,a,rfl,i⟩⟩
abbrev QX:=Int×((L aq)×U)×CB×((L Int)×U)×U
abbrev QS:=((L aq)×U)×CB×((L Int)×U)×U
noncomputable def M5(c:ax)(n a:Nat)(e:QX):O (LO QX (Int×U) QS Any):=
 ai (aC e.1 (av c.3)) (aT (aN e.1 c.3) (ah (F152 n (0,1,())) λg=>ah (ee n (a+5) (bp c.3 (az e.1) 0,g.1.1,e.2)) λh=>ai (ak h.1.1) (Z (X h.2 (e.1,()))) (Z (N (aF .i64 e.1 1,h.2))))) (Z (H 0 e))
structure QK(c:ax)(x:QX):Prop where
 st:∃(k:Nat)(out:List aq)(todo:List Int),x=((k:Int),(out,()),cb c,(todo,()),())∧k<=c.cU.length∧PJ c (λ_=>False) out todo∧∀j:Nat,j<k->dV out (c.cU.getD j 0)=bV 0 1
def QQ(c:ax)(o:LO QX (Int×U) QS Any):Prop:=
 (∃(k:Int)(out:L aq)(todo:L Int),o=.out 0 (k,(out,()),cb c,(todo,()),())∧PJ c (λ_=>False) out todo∧∀f∈c.cU,dV out f=bV 0 1)∨∃(s:QS)(k:Nat),o=.ret s ((k:Int),())∧NoD c
theorem aiP(e:Ai c){x:QX}(h:QK c x):∃o,gJ (λn=>M5 c n n) x o∧QQ c o:=by
 refine gJ.inv (F:=λn=>M5 c n n) (QK c) (λx=>c.cU.length-x.1.toNat) (QQ c) (λx t=>?_) x h;obtain⟨k,out,todo,rfl,z,r,u⟩:=t.st;have v:=e.fl;by_cases i:k=c.cU.length
 .subst i;refine .inr ⟨.out 0 ((c.cU.length:Int),(out,()),cb c,(todo,()),()),(λy h=>by cases h),bK λn=>?_,.inl ⟨(c.cU.length:Int),out,todo,rfl,r,λf w=>?_⟩⟩
  .unfold M5;simp(disch:=omega)only[bu]<;>rfl
  .obtain ⟨j,l,rfl⟩:=rG w
   simp_all
 .have m:k<c.cU.length:=by omega
  have s:c.cU.getD k 0∈c.cU:=bT _ m;have b:∀n,M5 c n n ((k:Int),(out,()),cb c,(todo,()),())=ah (ee n (n+5) (rx c (c.cU.getD k 0) (bV 0 1) out todo)) λh=>ai (ak h.1.1) (Z (X h.2 ((k:Int),()))) (Z (N (aF .i64 (k:Int) 1,h.2))):=by intro n;unfold M5;rw[show aC (k:Int) (av c.3)=W from xT.2 (by simp only[av];omega),show aN (k:Int) c.3=W from pQ.2 (by omega)];rfl
  obtain⟨d,a,h1,g⟩|⟨h1,g⟩:=zj e r (.root s) ⟨rfl,Iz _,show(0:Int)<=1 by decide⟩ (e.oM _ s).1
  .have a1:aF .i64 (k:Int) 1=((k+1:Nat):Int):=by grind[bQ]
   refine .inl ⟨(((k+1:Nat):Int),(d,()),cb c,(a,()),()),bK λn=>?_,⟨k+1,d,a,rfl,by omega,g.pj,λj l=>?_⟩,by omega⟩
   .rw[b,h1 n (n+4),<-a1];rfl
   .by_cases p:j=k
    .subst p;exact(g.all _ (ux _)).2.2.1
    .have q:c.cU.getD j 0∈c.cU:=bT _ (by omega);have:=u j (by omega);rw[g.keep _ (e.oM _ q).1 (by rw[this];rfl)];exact this
  .refine .inr ⟨.ret ((out,()),cb c,(todo,()),()) ((k:Int),()),(λy h=>by cases h),bK λn=>?_,.inr ⟨_,k,rfl,h1⟩⟩;rw[b,g n (n+4)];rfl
end
end
section
section
variable {n:Nat}{c:ax}{out:List aq}{todo:List Int}
theorem PJ.zero:PJ c (λ_=>False) (List.replicate c.dG.length aQ) []:=by
 have a:∀q:Int,dV (List.replicate c.dG.length aQ) q=aQ:=λq=>by unfold dV;rw[vR,List.getElem?_replicate];split<;>rfl
 refine⟨⟨by simp,λq _ _ r=>?_,λq _ _ r=>?_,λq _ _ _=>a q⟩,λq b=>(by cases b),?_,λq _ _ r=>?_⟩
 .rw[a]at r;cases r
 .rw[a]at r;cases r
 .grind[NZ,List.replicate,aQ,List.length_replicate,List.length_nil]
 .rw[a]at r;cases r
theorem e99(g:Ai c)(a:Ev (λn=>F147 n (c,())) ((0,()),())):(∃D,PD c D∧Ev (λn=>F99 n (c,())) ((D,0,()),()))∨(NoD c∧Ev (λn=>F99 n (c,())) (([],7,()),())):=by
 have p:=g.len;have h:nK (QT (av c.1)) (fU (av c.1) (av c.1))=W:=by
  have:QT (av c.1)=W:=by
   unfold QT av
   grind
  rw[this];simp[nK,fU]
 obtain⟨o,i,q⟩:=aiP g (x:=(0,(List.replicate c.dG.length aQ,()),cb c,([],()),())) ⟨⟨0,_,[],rfl,AH _,PJ.zero,λj l=>absurd l (Nat.not_lt_zero _)⟩⟩;obtain⟨k,out,todo,rfl,l,r⟩|⟨s,k,rfl,d⟩:=q
 .obtain ⟨u,f,m⟩:=aiO g (x':=px c out todo W) ⟨⟨out,todo,rfl,l,r⟩⟩;obtain⟨b,e,rfl,t⟩|⟨b,e,rfl,d⟩:=m
  .refine .inl ⟨b,t,?_⟩;unfold F99 G99;refine Ev.ah a ?_;show Ev (λn=>TL.aT (nK (QT (av c.1)) (fU (av c.1) (av c.1))) _) _;rw[h];show Ev (λn=>ah _ _) _;refine Ev.br (F:=λn=>M5 c n n) i _ _ ?_;show Ev (λn=>ah _ _) _;refine Ev.br (F:=λn=>UO n n) f _ _ ?_;exact dz
  .refine .inr ⟨d,?_⟩;unfold F99 G99;refine Ev.ah a ?_;show Ev (λn=>TL.aT (nK (QT (av c.1)) (fU (av c.1) (av c.1))) _) _;rw[h];show Ev (λn=>ah _ _) _;refine Ev.br (F:=λn=>M5 c n n) i _ _ ?_;show Ev (λn=>ah _ _) _;refine Ev.br (F:=λn=>UO n n) f _ _ ?_;exact dz
 .refine .inr ⟨d,?_⟩;unfold F99 G99;refine Ev.ah a ?_;show Ev (λn=>TL.aT (nK (QT (av c.1)) (fU (av c.1) (av c.1))) _) _;rw[h];show Ev (λn=>ah _ _) _;refine Ev.br (F:=λn=>M5 c n n) i _ _ ?_;refine bK λn=>?_;rfl
end
end
section
theorem FN:∀q:aD,1<=pw q
 |⟨_,_,_,_⟩=>by unfold pw;omega
theorem EK:∀qs:L aD,qs.length<=tw qs
 |[]=>AH _|q::qs=>by unfold tw;have:=EK qs;grind[FN,List.length_cons]
def fT(left:Int)(k:Nat):Int:=if left<0 then -1 else if(k:Int)<=left then left-k else -1
theorem tJ{left:Int}{k:Nat}(h:left<0):fT left k=-1:=bw h
theorem oc{left:Int}{k:Nat}(h:(k:Int)<=left):fT left k=left-k:=by unfold fT;rw[bL (by omega),bw h]
theorem qO{left:Int}{k:Nat}(h:left<(k:Int)):fT left k=-1:=by
 simp_all[fT,bw,bL]
theorem NY{left:Int}{a:Nat}(b:1<=a)(h:0<=left):fT left a<=left-1∧-1<=fT left a:=by
 grind[oc,qO]
theorem xP{left:Int}{a b:Nat}:fT (fT left a) b=fT left (a+b):=by
 grind[oc,qO,tJ]
theorem Gr{left:Int}(h:-1<=left):fT left 0=left:=by
 grind[tJ,oc]
theorem aae(n k:Nat):R94 n (k+1)=B94 n (R94 n k):=rfl
def RZ(q:aD):Prop:=∀left:Int,-1<=left->left<=1000->Dc R94 (q,left,()) ((fT left (pw q),()),())
def E9{P:Type}(d:Nat):∀(qs pre:L aD)(left:Int),-1<=left->(pre.length:Int)+left<=1000->(∀q∈qs,RZ q)->
  ∀F:Nat->Int×Int×U->O (LO (Int×Int×U) (Int×U) U P),
  (∀n b,F n b=ai (aC b.2.1 (av (pre++qs))) (ai (bn 0 b.1) (aT (aN b.2.1 (pre++qs)) (ah (R94 n (n-d) (@bp aD (pre++qs) (az b.2.1) aL,b.1,())) λe=>Z (N (e.1.1,aF .i64 b.2.1 1,())))) (Z (H 0 b))) (Z (H 0 b)))->
  ∃j,gJ F (left,(pre.length:Int),()) (.out 0 (fT left (tw qs),j,()))
 |[],pre,left,h1,h2,f,F,c=>by refine⟨(pre.length:Int),.out (bK λn=>?_)⟩;rw[c];have e:fT left (tw [])=left:=Gr h1;rw[e];simp(disch:=omega)only[bu,jB]<;>rfl
 |q::qs,pre,left,h1,h2,f,F,c=>by
  by_cases l:left<0
  .refine ⟨(pre.length:Int),.out (bK λn=>?_)⟩;rw[c];have e:fT left (tw (q::qs))=left:=by rw[tJ l];omega
   rw[e];simp(disch:=omega)only[bu]<;>rfl
  .have m:(pre++q::qs).getD pre.length aL=q:=tN ..;have o:=FN q;have p:=f q eI left h1 (by omega);have g:=NY (left:=left) o (by omega);obtain⟨j,k⟩:=E9 d qs (pre++[q]) (fT left (pw q)) g.2 (by simp;omega) (λr h=>f r (g7 _ h)) F (λn e=>by rw[c];simp only[AF,Nj]<;>rfl);have e:fT (fT left (pw q)) (tw qs)=fT left (tw (q::qs)):=xP;rw[e]at k;refine⟨j,.next (y:=((fT left (pw q)),((pre++[q]).length:Int),())) ?_ k⟩;obtain⟨a,s⟩:=p d;refine⟨a,λn i=>?_⟩;show F n _=_;rw[c];simp(disch:=first|omega|simp only[mK];omega)only[bu,m,bQ,gj,gq,BW];exact(fq (λx=>ah x _) (s n i)).trans rfl
theorem WK:∀q:aD,RZ q
 |⟨a,n0,text,parts⟩=>by
  intro left h1 h2;refine Dc.step aae λd=>?_;by_cases h3:left<1
  .rw[qO (by grind[FN])];refine bK λn=>?_;unfold B94;simp(disch:=omega)only[bu]<;>rfl
  .obtain ⟨j,f⟩:=E9 (P:=Any) d parts [] (left-1) (by omega) (by simp;omega) (SP parts) _ (λn e=>rfl);have e:fT (left-1) (tw parts)=fT left (pw ⟨a,n0,text,parts⟩):=by rw[show left-1=fT left 1 from(oc (k:=1) (Int.not_lt.1 h3)).symm,xP];rfl
   rw[<-e];have i:∀n,B94 n (R94 n (n-d)) (⟨a,n0,text,parts⟩,left,())=ah (iter (λb=>ai (aC b.2.1 (av parts)) (ai (bn 0 b.1) (aT (aN b.2.1 parts) (ah (R94 n (n-d) (@bp aD parts (az b.2.1) aL,b.1,())) λe=>Z (N (e.1.1,aF .i64 b.2.1 1,())))) (Z (H 0 b))) (Z (H 0 b))) n (left-1,0,())) λe=>bD (B:=U) (P:=Any) e (λ_ g=>Z ((g.1,()),())) (λ_ g=>Z (g,())) λ_ _=>Y:=by intro n;unfold B94;simp(disch:=omega)only[bu,dc]<;>rfl
   exact Ev.r5 i (Ev.br f (λn e=>_) _ dz)
where
 SP:∀c:L aD,∀q∈c,RZ q
 |[],_,h=>by cases h
 |q::c,l,h=>by
  obtain h|h:=fS.1 h
  .rw[h];exact WK q
  .exact SP c l h
def e94(q:aD){left:Int}(h1:1<=left)(h2:left<=1000):Ev (λn=>F94 n (q,left,())) ((fT left (pw q),()),()):=by exact WK q left (by omega) h2 0
mutual
def sp:aD->Bool
 |⟨_,_,text,parts⟩=>sps parts&&decide (text.length<=30)
def sps:L aD->Bool
 |[]=>W|q::a=>sp q&&sps a
end
theorem Kr:∀{qs:L aD},sps qs=W↔∀q∈qs,sp q=W
 |[]=>by simp[sps]
 |q::qs=>by simp[sps,Kr (qs:=qs)]
theorem aad(n k:Nat):R95 n (k+1)=B95 n (R95 n k):=rfl
theorem short:∀q:aD,pw q<=1000->Dc R95 (q,()) ((sp q,()),())
 |⟨c,n0,text,parts⟩,k=>by
  unfold pw at k;have u:=EK parts;have l:=WY parts (by omega);refine Dc.step aad λd=>?_;unfold B95;have m:∀(i:Nat)(y:Int×U),(X () (J,()):LO (Int×U) (Bool×U) U Any)≠.next y:=λ_ _ h=>by cases h
  have step:∀i,i<parts.length->Ev (λn=>ai (aC (i:Int) (av parts)) (aT (aN (i:Int) parts) (ah (R95 n (n-d) (@bp aD parts (az (i:Int)) aL,())) λe=>ai (ak e.1.1) (Z (X () (J,()))) (Z (N (aF .i64 (i:Int) 1,()))))) (Z (H 0 ((i:Int),())))) (bif sp (parts.getD i aL)then .next (((i+1:Nat):Int),())else(X () (J,()):LO (Int×U) (Bool×U) U Any)):=by intro i f;obtain⟨b,o⟩:=l _ (bT aL f) d;refine⟨b,λn p=>?_⟩;show TL.ai _ _ _=_;simp(disch:=omega)only[bu,bQ,gj,gq,BW];refine(fq (λx=>ah x _) (o n p)).trans ?_;cases v:sp (parts.getD i aL)<;>rfl
  rcases nD (F:=λn g=>ai (aC g.1 (av parts)) (aT (aN g.1 parts) (ah (R95 n (n-d) (@bp aD parts (az g.1) aL,())) λe=>ai (ak e.1.1) (Z (X () (J,()))) (Z (N (aF .i64 g.1 1,()))))) (Z (H 0 g)))
   parts.length (λi=>((i:Int),())) (λi=>sp (parts.getD i aL)) (λ_=>(X () (J,()):LO (Int×U) (Bool×U) U Any)) 0 m (λi f _=>step i f) (λ_=>bK λn=>by simp(disch:=omega)only[bu]<;>rfl)with⟨a,r⟩|⟨i,f,a,_,r⟩
  .have e:sp ⟨c,n0,text,parts⟩=decide (text.length<=30):=by unfold sp;rw[Kr.2 λq k=>?_,qC];obtain⟨i,f,rfl⟩:=rG k;have:=a i f;rwa [vR,iR f]at this
   rw[e];refine Ev.br r (λn e=>_) _ (bK λn=>?_);show Z ((bn (av text) 30,()),())=_;simp only[bn,av]
   grind
  .have e:sp ⟨c,n0,text,parts⟩=J:=by
    grind[sp,sps,Kr,bT,aL]
   rw[e];exact Ev.br r (λn e=>_) _ dz
where
 WY:∀j:L aD,tw j<=1000->∀q∈j,Dc R95 (q,()) ((sp q,()),())
 |[],_,_,h=>by cases h
 |q::j,s,t,h=>by
  unfold tw at s;obtain h|h:=fS.1 h
  .rw[h];exact short q (by omega)
  .exact WY j (by omega) t h
def Fm(q:aD):Bool:=decide (pw q<=16)&&sp q
def OB(q:aD):aD.mk q.1 q.2 q.3 q.4=q:=by cases q;rfl
def e41(q:aD):Ev (λn=>F41 n (q,())) ((Fm q,()),()):=by
 unfold F41;simp only[OB];refine Ev.ah (e94 q (by omega) (by omega)) ?_;unfold Fm;by_cases h:pw q<=16
 .have a:((pw q:Nat):Int)<=16:=by omega
  rw[oc a,kz h,qC];simp(disch:=omega)only[bu];exact Ev.ah (short q (by omega) 0) (Ev.pure _)
 .have a:¬((pw q:Nat):Int)<=16:=by omega
  simp_all[qO,je,pH,bK,bu]
end
section
theorem iL{R B P:Type}(len:Nat)(q:Nat->Bool)(bad:Nat->LO (Int×U) R B P){F:Nat->Int×U->O (LO (Int×U) R B P)}(c:∀i y,bad i≠.next y)
  (h:∀i,i<len->Ev (λn=>F n ((i:Int),())) (bif q i then .next (((i+1:Nat):Int),())else bad i)) (d:∀n,F n ((len:Int),())=Z (.out 0 ((len:Int),()))) :
  ((∀i,i<len->q i=W)∧gJ F (0,()) (.out 0 ((len:Int),())))∨∃i,i<len∧q i=J∧gJ F (0,()) (bad i):=by
 obtain⟨a,r⟩|⟨i,b,a,_,r⟩:=nD len (λi=>((i:Int),())) q bad 0 c (λi b _=>h i b) (λ_=>bK d)
 .simp_all
 grind
structure Small(c:ax):Prop where
 ins:c.dG.length<=1600
 pl:c.ew.length<=120
 oM:c.cU.length<=320
 cl:c.Cons.length<=30
 names:∀k∈c.Cons,k.Name.length<=30
 pats:∀q∈c.ew,pw q<=16
def eV{α:Type}{l:L α}{d:α}{Q:α->Prop}(h:∀i,i<l.length->Q (l.getD i d)):∀a∈l,Q a:=by intro a c;obtain⟨i,b,rfl⟩:=rG c;have:=h i b;rwa [vR,iR b]at this
def Bz{α:Type}{l:L α}{d:α}{q:α->Bool}(h:∀i,i<l.length->q (l.getD i d)=W):l.all q=W:=kA.2 (eV (d:=d) h)
theorem pM{α:Type}{l:L α}{d:α}{q:α->Bool}{i:Nat}(hi:i<l.length)(h:q (l.getD i d)=J):l.all q=J:=by
 grind
def e11(c:ax):∃b,Ev (λn=>F11 n (c,())) ((b,()),())∧(b=W->Small c):=by
 unfold F11;by_cases h1:1600<c.dG.length
 .exact ⟨J,bK λn=>by simp(disch:=omega)only[bu]<;>rfl,λh=>by cases h⟩
 by_cases h2:120<c.ew.length
 .exact ⟨J,bK λn=>by simp(disch:=omega)only[bu]<;>rfl,λh=>by cases h⟩
 by_cases h3:320<c.cU.length
 .exact ⟨J,bK λn=>by simp(disch:=omega)only[bu]<;>rfl,λh=>by cases h⟩
 by_cases h4:30<c.Cons.length
 .exact ⟨J,bK λn=>by simp(disch:=omega)only[bu]<;>rfl,λh=>by cases h⟩
 simp(disch:=omega)only[bu];have j:∀{P:Type}(i:Nat)(y:Int×U),(X () (J,()):LO (Int×U) (Bool×U) U P)≠.next y:=λ_ _ h=>by cases h
 rcases iL c.ew.length (λi=>Fm (c.ew.getD i aL)) (λ_=>(X () (J,()):LO (Int×U) (Bool×U) U Any)) (F:=λn g=>ai (aC g.1 (c.ew.length:Int)) (aT (aN g.1 c.ew) (ah (F41 n (c.ew.getD g.1.toNat aL,())) λd=>ai d.1.1 (Z (N (aF .i64 g.1 1,()))) (Z (X () (J,()))))) (Z (H 0 g))) j
  (λi e=>by
   simp(disch:=omega)only[bu];refine Ev.ah (e41 _) (bK λn=>?_);cases Fm (c.ew.getD i aL)<;>simp(disch:=omega)only[bu,bQ,gj,gq]) (λn=>by simp(disch:=omega)only[bu])with⟨a,r⟩|⟨i,e,a,r⟩
 .rcases iL c.Cons.length (λi=>decide ((c.Cons.getD i bf).Name.length<=30)) (λ_=>(X () (J,()):LO (Int×U) (Bool×U) U Any)) (F:=λn g=>ai (aC g.1 (c.Cons.length:Int)) (aT (aN g.1 c.Cons) (ai (aC 30 ((c.Cons.getD g.1.toNat bf).Name.length:Int)) (Z (X () (J,()))) (Z (N (aF .i64 g.1 1,()))))) (Z (H 0 g))) j
   (λi e=>bK λn=>by
    by_cases k:(c.Cons.getD i bf).Name.length<=30
    .simp (disch:=omega)only[bu,kz k,bQ,gj,gq]
    .simp (disch:=omega)only[bu,je k]) (λn=>by simp(disch:=omega)only[bu])with⟨l,f⟩|⟨i,e,l,f⟩
  .refine ⟨W,?_,λ_=>⟨by omega,by omega,by omega,by omega,eV (d:=bf) λi e=>Ny (l i e),eV (d:=aL) λi e=>?_⟩⟩
   .refine Ev.br r _ _ ?_;refine Ev.br f _ _ ?_;exact dz
   simp_all[Fm,eZ,rF]
  .refine ⟨J,?_,λh=>by cases h⟩;refine Ev.br r _ _ ?_;refine Ev.br f _ _ ?_;exact dz
 .refine ⟨J,?_,λh=>by cases h⟩;refine Ev.br r _ _ ?_;exact dz
end
section
theorem Wo(n k:Nat):R228 n (k+1)=B228 n (R228 n k):=rfl
def ahu(q:aD):Prop:=∀left:Int,0<=left->left<=1000->Dc R228 (q,left,()) ((fT left (pw q),()),())
def Ot{P:Type}(d:Nat):∀(qs pre:L aD)(left:Int),-1<=left->(pre.length:Int)+left<=1000->(∀q∈qs,ahu q)->
  ∀F:Nat->Int×Int×U->O (LO (Int×Int×U) (Int×U) U P),
  (∀n b,F n b=ai (aC b.2.1 (av (pre++qs))) (aT (aN b.2.1 (pre++qs)) (ai (aC b.1 0) (Z (H 0 b)) (ah (R228 n (n-d) (@bp aD (pre++qs) (az b.2.1) aL,b.1,())) λe=>Z (N (e.1.1,aF .i64 b.2.1 1,()))))) (Z (H 0 b)))->
  ∃j,gJ F (left,(pre.length:Int),()) (.out 0 (fT left (tw qs),j,()))
 |[],pre,left,h1,h2,f,F,c=>by refine⟨(pre.length:Int),.out (bK λn=>?_)⟩;rw[c];have e:fT left (tw [])=left:=Gr h1;rw[e];simp(disch:=omega)only[bu,jB]<;>rfl
 |q::qs,pre,left,h1,h2,f,F,c=>by
  by_cases l:left<0
  .refine ⟨(pre.length:Int),.out (bK λn=>?_)⟩;rw[c];have e:fT left (tw (q::qs))=left:=by rw[tJ l];omega
   rw[e];simp(disch:=first|omega|simp only[mK];omega)only[bu]<;>rfl
  .have m:(pre++q::qs).getD pre.length aL=q:=tN ..;have o:=FN q;have p:=f q eI left (by omega) (by omega);have g:=NY (left:=left) o (by omega);obtain⟨j,k⟩:=Ot d qs (pre++[q]) (fT left (pw q)) g.2 (by simp;omega) (λr h=>f r (g7 _ h)) F (λn e=>by rw[c];simp only[AF,Nj]<;>rfl);have e:fT (fT left (pw q)) (tw qs)=fT left (tw (q::qs)):=xP;rw[e]at k;refine⟨j,.next (y:=((fT left (pw q)),((pre++[q]).length:Int),())) ?_ k⟩;obtain⟨a,s⟩:=p d;refine⟨a,λn i=>?_⟩;show F n _=_;rw[c];simp(disch:=first|omega|simp only[mK];omega)only[bu,m,bQ,gj,gq,BW];exact(fq (λx=>ah x _) (s n i)).trans rfl
theorem akU:∀q:aD,ahu q
 |⟨a,n0,text,parts⟩=>by
  intro left h1 h2;refine Dc.step Wo λd=>?_;obtain⟨j,f⟩:=Ot (P:=Any) d parts [] (left-1) (by omega) (by simp;omega) (aes parts) _ (λn e=>rfl);have e:fT (left-1) (tw parts)=fT left (pw ⟨a,n0,text,parts⟩):=by
   by_cases h3:left<1
   .rw[tJ (by omega),qO (by grind[FN])]
   .rw[show left-1=fT left 1 from(oc (k:=1) (Int.not_lt.1 h3)).symm,xP];rfl
  rw[<-e];have i:∀n,B228 n (R228 n (n-d)) (⟨a,n0,text,parts⟩,left,())=ah (iter (λb=>ai (aC b.2.1 (av parts)) (aT (aN b.2.1 parts) (ai (aC b.1 0) (Z (H 0 b)) (ah (R228 n (n-d) (@bp aD parts (az b.2.1) aL,b.1,())) λe=>Z (N (e.1.1,aF .i64 b.2.1 1,()))))) (Z (H 0 b))) n (left-1,0,())) λe=>bD (B:=U) (P:=Any) e (λ_ g=>Z ((g.1,()),())) (λ_ g=>Z (g,())) λ_ _=>Y:=by intro n;unfold B228 Ig;simp(disch:=omega)only[bu,dc,OB]<;>rfl
  exact Ev.r5 i (Ev.br f (λn e=>_) _ dz)
where
 aes:∀c:L aD,∀q∈c,ahu q
 |[],_,h=>by cases h
 |q::c,l,h=>by
  obtain h|h:=fS.1 h
  .rw[h];exact akU q
  .exact aes c l h
def ars(q:aD){left:Int}(h1:0<=left)(h2:left<=1000):Ev (λn=>F228 n (q,left,())) ((fT left (pw q),()),()):=akU q left h1 h2 0
end
section
section
def abG(cons:L cq)(a n:Int)(k:Nat):Bool:=
 if a=1∨a=2∨a=5 then decide (n=0)&&decide (k=0)
 else if a=3 then j5 n&&decide (k=0)
 else if a=4 then decide (0<=n∧n<=1)&&decide (k=0)
 else if a=6 then decide (0<=n∧n<cons.length)&&decide ((k:Int)=(cons.getD n.toNat bf).lY)
 else J
mutual
def pI(cons:L cq):aD->Bool
 |⟨a,n,text,parts⟩=>(decide (text=[])&&rN cons parts)&&abG cons a n parts.length
def rN(cons:L cq):L aD->Bool
 |[]=>W|q::a=>pI cons q&&rN cons a
end
theorem BZ{cons:L cq}:∀{qs:L aD},rN cons qs=W↔∀q∈qs,pI cons q=W
 |[]=>by simp[rN]
 |q::qs=>by simp[rN,BZ (qs:=qs)]
def rng(n:Nat)(a lo hi:Int):(ai (bn lo a) (Z ((bn a hi,()),())) (Z ((J,()),())))=(Z ((decide (lo<=a∧a<=hi),()),()):O ((Bool×U)×U)):=by
 by_cases h1:lo<=a
 .simp_all[bu,bn]
 .simp (disch:=omega)only[bu];simp[h1]
variable {n:Nat}{cons:List cq}
def qY(a lo hi:Int):F223 n (a,lo,hi,())=Z ((decide (lo<=a∧a<=hi),()),()):=rng n a lo hi
def V1(a lo hi:Int):F241 n (a,lo,hi,())=Z ((decide (lo<=a∧a<=hi),()),()):=rng n a lo hi
def wS(a lo hi:Int):F104 n (a,lo,hi,())=Z ((decide (lo<=a∧a<=hi),()),()):=rng n a lo hi
theorem jW(l:L UInt8):gp l []=decide (l=[]):=by cases l<;>rfl
theorem Wq(n k:Nat):R159 n (k+1)=B159 n (R159 n k):=rfl
def Sb(cons:L cq)(q:aD):Prop:=Dc R159 (q,cons,()) ((pI cons q,()),())
def S4{R B P:Type}{cons:L cq}(d:Nat):∀(qs pre:L aD)(b:Bool),pre.length+qs.length<=1000->(∀q∈qs,Sb cons q)->
  ∀(F:Nat->Bool×Int×U->O (LO (Bool×Int×U) R B P)),
  (∀n i,F n i=ai (aC i.2.1 (av (pre++qs))) (ai i.1 (aT (aN i.2.1 (pre++qs)) (ah (R159 n (n-d) (@bp aD (pre++qs) (az i.2.1) aL,cons,())) λj=>Z (N (j.1.1,aF .i64 i.2.1 1,())))) (Z (H 0 i))) (Z (H 0 i)))->
  ∃j,gJ F (b,(pre.length:Int),()) (.out 0 (b&&rN cons qs,j,()))
 |[],pre,b,h3,f,F,c=>by refine⟨(pre.length:Int),.out (bK λn=>?_)⟩;rw[c];simp(disch:=omega)only[bu,jB,rN,Dt]<;>rfl
 |q::qs,pre,b,h3,f,F,c=>by simp only[ny]at h3;cases b with|false=>refine⟨(pre.length:Int),.out (bK λn=>?_)⟩;rw[c];simp(disch:=omega)only[bu,pH]<;>rfl|true=>have k:(pre++q::qs).getD pre.length aL=q:=tN ..;obtain⟨j,o⟩:=S4 d qs (pre++[q]) (pI cons q) (by simp;omega) (λl h=>f l (g7 _ h)) F (λn e=>by rw[c];simp only[AF,Nj]<;>rfl);refine⟨j,.next (y:=(pI cons q,((pre++[q]).length:Int),())) ?_ (by simp_all[rN,qC])⟩;obtain⟨a,m⟩:=f q eI d;refine⟨a,λn g=>?_⟩;show F n _=_;rw[c];simp(disch:=first|omega|simp only[mK];omega)only[bu,k,bQ,gj,gq,BW];exact(fq (λx=>ah x _) (m n g)).trans rfl
def XP(s:cons.length<=1000):∀q:aD,pw q<=1000->Sb cons q
 |⟨a,n0,text,parts⟩,t=>by
  unfold pw at t;have x:=EK parts;have u:=XN parts (by omega);refine Dc.step Wq λd=>?_;have run:∀b:Bool,Ev (λn=>ah (iter (Ii n (R159 n (n-d)) (⟨a,n0,text,parts⟩,cons,())) n (b,0,())) (Ih n (R159 n (n-d)))) ((b&&rN cons parts,()),()):=by intro b;obtain⟨j,k⟩:=S4 (cons:=cons) d parts [] b (by simp;omega) u _ (λn e=>rfl);exact Ev.br (F:=λn c=>_) k (λn e=>_) _ dz
  have f:∀b:Bool,Ev (λn=>ai b (ah (iter (Ii n (R159 n (n-d)) (⟨a,n0,text,parts⟩,cons,())) n (decide (text=[]),0,())) (Ih n (R159 n (n-d)))) (ah (iter (Ii n (R159 n (n-d)) (⟨a,n0,text,parts⟩,cons,())) n (J,0,())) (Ih n (R159 n (n-d))))) (((decide (text=[])&&rN cons parts)&&b,()),()):=by intro b;cases b with|true=>rw[Dt];exact run _|false=>rw[KI];exact run J
  unfold pI abG;have i:(aa n0 0)=decide (n0=0):=by by_cases h:n0=0<;>simp[aa,h]
  unfold B159;by_cases l:a=1∨a=2∨a=5
  .rw[bw l];by_cases g:parts.length=0
   .rw[kz g,Dt];obtain c|c|c:=l<;>subst c<;>simp(disch:=omega)only[bu,bN,i,jW]<;>exact f _
   .rw[je g,KI];obtain c|c|c:=l<;>subst c<;>simp(disch:=omega)only[bu,bN,i,jW]<;>exact f J
  .rw[bL l];by_cases o:a=3
   .rw[bw o];subst o;by_cases g:parts.length=0
    .rw[kz g,Dt];simp(disch:=omega)only[bu,bN,V1,jW];have:=f (j5 n0);simp only[j5,Bool.decide_and]at this ⊢;exact this
    .rw[je g,KI];simp(disch:=omega)only[bu,bN,jW];exact f J
   .rw[bL o];by_cases p:a=4
    .rw[bw p];subst p;by_cases g:parts.length=0
     .rw[kz g,Dt];simp(disch:=omega)only[bu,bN,V1,jW];exact f _
     .rw[je g,KI];simp(disch:=omega)only[bu,bN,jW];exact f J
    .rw[bL p];by_cases r:a=6
     .rw[bw r];subst r;by_cases k:0<=n0∧n0<cons.length
      .rw[kz k,qC];simp(disch:=omega)only[bu,bN,V1,dc,kz (show 0<=n0∧n0<=(cons.length:Int)-1 by omega),jW];rw[show aa (parts.length:Int) (cons.getD n0.toNat bf).lY=decide ((parts.length:Int)=(cons.getD n0.toNat bf).lY)by rfl];exact f _
      .rw[je k,pH];simp(disch:=omega)only[bu,bN,V1,dc,je (show ¬(0<=n0∧n0<=(cons.length:Int)-1)by omega),jW];exact f J
     .rw[bL r];simp(disch:=omega)only[bu,bN,jW];exact f J
where
 XN:∀m:L aD,tw m<=1000->∀q∈m,Sb cons q
 |[],_,_,h=>by cases h
 |q::m,v,w,h=>by
  unfold tw at v;obtain h|h:=fS.1 h
  .rw[h];exact XP s q (by omega)
  .exact XN m (by omega) w h
def arH(a:cons.length<=1000)(q:aD)(b:pw q<=1000):Ev (λn=>F106 n (q,cons,())) ((pI cons q,()),()):=by unfold F106;simp only[OB];exact Ev.ah (XP a q b 0) (Ev.pure _)
end
end
section
theorem Wn(n k:Nat):R229 n (k+1)=B229 n (R229 n k):=rfl
theorem XO{cons:L cq}(z:cons.length<=1000):∀q:aD,pw q<=1000->Dc R229 (q,cons,()) ((pI cons q,()),())
 |⟨g,n0,text,parts⟩,K=>by
  unfold pw at K;have hl:=EK parts;have P:=XN parts (by omega);refine Dc.step Wn λd=>?_;have R:∀(i:Nat)(y:Int×U),(X () ((i:Int),()):LO (Int×U) (Int×U) U Any)≠.next y:=λ_ _ h=>by cases h
  have m:Ev (λn=>SH n (R229 n (n-d)) (⟨g,n0,text,parts⟩,cons,())) ((rN cons parts,()),()):=by
   have step:∀i,i<parts.length->Ev (λn=>ai (aC (i:Int) (av parts)) (aT (aN (i:Int) parts) (ah (R229 n (n-d) (aD.mk (@bp aD parts (az (i:Int)) aL).1 (@bp aD parts (az (i:Int)) aL).2 (@bp aD parts (az (i:Int)) aL).3 (@bp aD parts (az (i:Int)) aL).4,cons,())) λe=>ai (ak e.1.1) (Z (X () ((i:Int),()))) (Z (N (aF .i64 (i:Int) 1,()))))) (Z (H 0 ((i:Int),())))) (bif pI cons (parts.getD i aL)then .next (((i+1:Nat):Int),())else(X () ((i:Int),()):LO (Int×U) (Int×U) U Any)):=by intro i s;obtain⟨f,S⟩:=P _ (bT aL s) d;refine⟨f,λn hn=>?_⟩;show TL.ai _ _ _=_;simp(disch:=omega)only[bu,OB,bQ,gj,gq,BW];refine(fq (λx=>ah x _) (S n hn)).trans ?_;cases z:pI cons (parts.getD i aL)<;>rfl
   rcases iL (F:=λn l=>ai (aC l.1 (av parts)) (aT (aN l.1 parts) (ah (R229 n (n-d) (aD.mk (@bp aD parts (az l.1) aL).1 (@bp aD parts (az l.1) aL).2 (@bp aD parts (az l.1) aL).3 (@bp aD parts (az l.1) aL).4,cons,())) λe=>ai (ak e.1.1) (Z (X () l)) (Z (N (aF .i64 l.1 1,()))))) (Z (H 0 l)))
    parts.length (λi=>pI cons (parts.getD i aL)) (λi=>(X () ((i:Int),()):LO (Int×U) (Int×U) U Any)) R step (λn=>by simp(disch:=omega)only[bu]<;>rfl)with⟨a,r⟩|⟨i,s,a,r⟩
   .rw[BZ.2 (eV (d:=aL) a)];refine Ev.br r _ _ (bK λn=>?_);rfl
   .have e:rN cons parts=J:=by
     grind[rN,BZ,bT,aL]
    rw[e];refine Ev.br r _ _ (bK λn=>?_);rfl
  have A:∀{k:Bool}{F:Nat->O ((Bool×U)×U)},Ev F ((k,()),())->∀t:Bool,Ev (λn=>ai t (F n) (Z ((J,()),()))) ((t&&k,()),()):=by intro k F h t;cases t with|true=>exact h|false=>exact Ev.pure _
  have j:Ev (λn=>Ie n (R229 n (n-d)) (⟨g,n0,text,parts⟩,cons,())) ((decide (text=[])&&(decide (parts.length=0)&&rN cons parts),()),()):=by
   unfold Ie sW;have k0:(aa (av parts) 0)=decide (parts.length=0):=by by_cases h:parts.length=0<;>simp[aa,h,av]
   grind[jW]
  unfold pI abG;have u:∀t k p b:Bool,(t&&(k&&p))=((t&&p)&&(W&&k)):=λt k p b=>by cases t<;>cases k<;>cases p<;>rfl
  unfold B229;by_cases v:g=1∨g=2∨g=5
  .rw[bw v];by_cases o:n0=0
   .rw[kz o,<-u _ _ _ W];obtain c|c|c:=v<;>subst c<;>simp(disch:=omega)only[bu,bN,o]<;>(subst o;exact j)
   .rw[je o,pH,KI];obtain c|c|c:=v<;>subst c<;>simp(disch:=omega)only[bu,bN,o]<;>exact Ev.pure _
  .rw[bL v];by_cases B:g=3
   .rw[bw B];have s:(decide (-1000000000<=n0∧n0<=1000000000))=j5 n0:=by simp only[j5,Bool.decide_and]
    simp(disch:=omega)only[bu,bN,qY,s];cases j5 n0 with|true=>rw[<-u _ _ _ W];exact j|false=>rw[pH,KI];exact Ev.pure _
   .rw[bL B];by_cases C:g=4
    .rw[bw C];simp(disch:=omega)only[bu,bN,qY];cases decide (0<=n0∧n0<=1)with|true=>rw[<-u _ _ _ W];exact j|false=>rw[pH,KI];exact Ev.pure _
    .rw[bL C];by_cases E:g=6
     .rw[bw E];by_cases I:0<=n0∧n0<cons.length
      .rw[kz I,<-u _ _ _ W];simp(disch:=omega)only[bu,bN,qY,dc,kz (show 0<=n0∧n0<=(cons.length:Int)-1 by omega),jW];exact A (A m _) _
      .rw[je I,pH,KI];simp(disch:=omega)only[bu,bN,qY,dc,je (show ¬(0<=n0∧n0<=(cons.length:Int)-1)by omega)];exact Ev.pure _
     .rw[bL E,KI];simp(disch:=omega)only[bu,bN];exact Ev.pure _
where
 XN:∀w:L aD,tw w<=1000->∀q∈w,Dc R229 (q,cons,()) ((pI cons q,()),())
 |[],_,_,h=>by cases h
 |q::w,hp,q',h=>by
  unfold tw at hp;obtain h|h:=fS.1 h
  .rw[h];exact XO z q (by omega)
  .exact XN w (by omega) q' h
end
section
section
variable {n:Nat}{c:ax}{i:bO}
def Mt(x:Int×Int)(a:Int):Bool:=decide (x.1<=a∧a<=x.2)
def fA(c:ax)(op:Int):Int×Int:=
 if op=1 then(-1000000000,1000000000)else if op=2 then(0,1)else if op=4 then(0,29)else if op=5 then(0,(c.cU.length:Int)-1)
 else if op=6∨op=11∨op=12∨op=31∨op=32 then(0,(c.dG.length:Int)-1)else if op=10 then(1,30)else if op=18 then(0,(c.Cons.length:Int)-1)
 else if op=19 then(0,(c.ew.length:Int)-1)else if op=29 then(0,3)else(0,0)
def fB(c:ax)(op:Int):Int×Int:=if op=19 then(0,(c.dG.length:Int)-1)else(0,0)
def wF(c:ax)(i:bO):Bool:=decide (1<=i.Op∧i.Op<=34)&&(Mt (fA c i.Op) i.A&&Mt (fB c i.Op) i.B)
theorem arG(hs:Small c):F107 n (c,i,())=Z ((wF c i,()),()):=by
 have h1:=hs.ins;have h2:=hs.oM;have h3:=hs.cl;have h4:=hs.pl;obtain⟨op,A,B⟩:=i;have u:∀x y:Int,decide (x=y)=Mt (y,y) x:=λx y=>by unfold Mt;by_cases h:x=y<;>simp[h]<;>omega
 have d0:∀x:Int,aa x 0=Mt (0,0) x:=λx=>by simp_all[aa,Bool.beq_eq_decide_eq]
 by_cases Im:op=19
 .subst Im;have r:wF c ⟨19,A,B⟩=(decide (0<=A∧A<=(c.ew.length:Int)-1)&&decide (0<=B∧B<=(c.dG.length:Int)-1)):=rfl;rw[r];unfold F107 Mj Ia;simp(disch:=omega)only[bu,bN,wS,dc];cases decide (0<=A∧A<=(c.ew.length:Int)-1)<;>simp only[bu,qC,pH]
 have v:fB c op=(0,0):=bL Im;by_cases q:B=0
 .subst q;have w:∀b:Bool,(b&&Mt (0,0) 0)=b:=λb=>by cases b<;>rfl
  have r:wF c ⟨op,A,0⟩=(decide (1<=op∧op<=34)&&Mt (fA c op) A):=by
   unfold wF
   grind
  rw[r];unfold F107 Mj Ia;by_cases f:op=1
  .subst f;simp(disch:=omega)only[bu,bN,wS]<;>rfl
  by_cases g:op=2
  .subst g;simp(disch:=omega)only[bu,bN,wS]<;>rfl
  by_cases j:op=4
  .subst j;simp(disch:=omega)only[bu,bN,wS]<;>rfl
  by_cases k:op=5
  .subst k;simp(disch:=omega)only[bu,bN,wS,dc]<;>rfl
  by_cases a:op=6∨op=11∨op=12∨op=31∨op=32
  .obtain h|h|h|h|h:=a<;>subst h<;>simp(disch:=omega)only[bu,bN,wS,dc]<;>rfl
  by_cases d:op=10
  .subst d;simp(disch:=omega)only[bu,bN,wS]<;>rfl
  by_cases k18:op=18
  .subst k18;simp(disch:=omega)only[bu,bN,wS,dc]<;>rfl
  by_cases e:op=29
  .subst e;simp(disch:=omega)only[bu,bN,wS]<;>rfl
  have s:fA c op=(0,0):=by unfold fA;rw[bL f,bL g,bL j,bL k,bL a,bL d,bL k18,bL Im,bL e]
  rw[s];have t:op≠6:=λh=>a (.inl h);have l:op≠11:=λh=>a (.inr (.inl h));have m:op≠12:=λh=>a (.inr (.inr (.inl h)));have o:op≠31:=λh=>a (.inr (.inr (.inr (.inl h))));have p:op≠32:=λh=>a (.inr (.inr (.inr (.inr h))));simp(disch:=omega)only[bu,bN,wS,Im,f,g,j,k,t,l,m,o,p,d,k18,e,d0];cases decide (1<=op∧op<=34)<;>rfl
 .have r:wF c ⟨op,A,B⟩=J:=by
   unfold wF
   grind
  rw[r];unfold F107;simp(disch:=omega)only[bu,Im,q]<;>rfl
end
end
section
section
variable {n:Nat}{c:ax}{op:Int}
def arq(hs:Small c):∃x y,∀n,F232 n (c,op,())=Z ((⟨(fA c op).1,(fA c op).2,x⟩,⟨(fB c op).1,(fB c op).2,y⟩,decide (1<=op∧op<=34),()),()):=by
 have h1:=hs.ins;have h2:=hs.oM;have h3:=hs.cl;have h4:=hs.pl;by_cases Im:op=19
 .subst Im;exact⟨W,W,λn=>by unfold F232 jb nO;simp(disch:=omega)only[bu,bN,qY,dc]<;>rfl⟩
 by_cases e:op=1
 .subst e;exact⟨W,J,λn=>by unfold F232 jb nO;simp only[bu,bN,qY]<;>rfl⟩
 by_cases f:op=2
 .subst f;exact⟨W,J,λn=>by unfold F232 jb nO;simp(disch:=omega)only[bu,bN,qY]<;>rfl⟩
 by_cases g:op=4
 .subst g;exact⟨W,J,λn=>by unfold F232 jb nO;simp(disch:=omega)only[bu,bN,qY]<;>rfl⟩
 by_cases i:op=5
 .subst i;exact⟨W,J,λn=>by unfold F232 jb nO;simp(disch:=omega)only[bu,bN,qY,dc]<;>rfl⟩
 by_cases a:op=6∨op=11∨op=12∨op=31∨op=32
 .obtain h|h|h|h|h:=a<;>subst h<;>exact⟨W,J,λn=>by unfold F232 jb nO;simp(disch:=omega)only[bu,bN,qY,dc]<;>rfl⟩
 by_cases b:op=10
 .subst b;exact⟨W,J,λn=>by unfold F232 jb nO;simp(disch:=omega)only[bu,bN,qY]<;>rfl⟩
 by_cases k18:op=18
 .subst k18;exact⟨W,J,λn=>by unfold F232 jb nO;simp(disch:=omega)only[bu,bN,qY,dc]<;>rfl⟩
 by_cases d:op=29
 .subst d;exact⟨W,J,λn=>by unfold F232 jb nO;simp(disch:=omega)only[bu,bN,qY]<;>rfl⟩
 have o:fA c op=(0,0):=by unfold fA;rw[bL e,bL f,bL g,bL i,bL a,bL b,bL k18,bL Im,bL d]
 have p:fB c op=(0,0):=bL Im;rw[o,p];have q:op≠6:=λh=>a (.inl h);have j:op≠11:=λh=>a (.inr (.inl h));have k:op≠12:=λh=>a (.inr (.inr (.inl h)));have l:op≠31:=λh=>a (.inr (.inr (.inr (.inl h))));have m:op≠32:=λh=>a (.inr (.inr (.inr (.inr h))));exact⟨J,J,λn=>by
  unfold F232 jb nO;simp(disch:=omega)only[bu,bN,qY,Im,e,f,g,i,q,j,k,l,m,b,k18,d]<;>rfl⟩
def agR(hs:Small c):Ev (λn=>Mh n (c,())) ((bif c.dG.all (wF c)then 0 else 2,()),()):=by
 have h1:=hs.ins;have f:∀(i:Nat)(y:Int×U),(X () ((i:Int),()):LO (Int×U) (Int×U) U Any)≠.next y:=λ_ _ h=>by cases h
 unfold Mh nP;rcases iL (F:=λn(o:Int×U)=>ai (aC o.1 (av c.1)) (aT (aN o.1 c.1) (ah (F232 n (c,(bp c.1 (az o.1) bM).1,())) λp=>ai p.1.2.2.1 (ah (F223 n ((bp c.1 (az o.1) bM).2,p.1.1.1,p.1.1.2,())) λq=>ai q.1.1 (ah (F223 n ((bp c.1 (az o.1) bM).3,p.1.2.1.1,p.1.2.1.2,())) λr=>ai (ak r.1.1) (Z (X () o)) (Z (N (aF .i64 o.1 1,())))) (Z (X () o))) (Z (X () o)))) (Z (H 0 o)))
  c.dG.length (λi=>wF c (c.dG.getD i bM)) (λi=>(X () ((i:Int),()):LO (Int×U) (Int×U) U Any)) f
  (λi e=>by
   obtain⟨x,y,b⟩:=arq (op:=(c.dG.getD i bM).Op) hs;refine bK λn=>?_;simp(disch:=omega)only[bu,b,qY,bQ,gj,gq,BW];unfold wF Mt;cases decide (1<=(c.dG.getD i bM).Op∧(c.dG.getD i bM).Op<=34)with
   |false=>rfl|true=>
    cases decide ((fA c (c.dG.getD i bM).Op).1<=(c.dG.getD i bM).A∧(c.dG.getD i bM).A<=(fA c (c.dG.getD i bM).Op).2)with
    |false=>rfl|true=>
     cases decide ((fB c (c.dG.getD i bM).Op).1<=(c.dG.getD i bM).B∧(c.dG.getD i bM).B<=(fB c (c.dG.getD i bM).Op).2)<;>rfl) (λn=>by simp(disch:=omega)only[bu]<;>rfl)with⟨a,r⟩|⟨i,e,a,r⟩
 .rw[Bz (d:=bM) a];refine Ev.br r _ _ (bK λn=>?_);rfl
 .rw[pM (d:=bM) e a];refine Ev.br r _ _ (bK λn=>?_);rfl
end
end
section
section
def Gm(b:UInt8):Bool:=decide (97<=b.toNat∧b.toNat<=122)
def zH(s:L UInt8):Bool:=match s with
 |[]=>J|a::l=>(decide (l.length<=7)&&decide (65<=a.toNat∧a.toNat<=90))&&l.all Gm
theorem rU(a:UInt8)(l:L UInt8):zH (a::l)=((decide (l.length<=7)&&decide (65<=a.toNat∧a.toNat<=90))&&l.all Gm):=rfl
theorem KA(l:L UInt8)(i:Nat):mA l i=((l.getD i 0).toNat:Int):=rfl
variable {l:List UInt8}
def arl(hl:l.length<=1000):Ev (λn=>F275 n (l,())) ((l.all Gm,()),()):=by
 unfold F275;have e:∀(i:Nat)(y:Int×U),(X () (J,()):LO (Int×U) (Bool×U) U Any)≠.next y:=λ_ _ h=>by cases h
 rcases iL (F:=λn c=>ai (aC c.1 (av l)) (aT (aN c.1 l) (ai (aC (mA l c.1) 97) (Z (X () (J,()))) (aT (aN c.1 l) (ai (aC 122 (mA l c.1)) (Z (X () (J,()))) (Z (N (aF .i64 c.1 1,()))))))) (Z (H 0 c))) l.length (λi=>Gm (l.getD i 0)) (λ_=>(X () (J,()):LO (Int×U) (Bool×U) U Any)) e (λi b=>bK λn=>by
   unfold Gm;by_cases h1:97<=(l.getD i 0).toNat
   .by_cases h2:(l.getD i 0).toNat<=122
    .simp (disch:=omega)only[bu,KA,kz (And.intro h1 h2),bQ,gj,gq]
    .simp (disch:=omega)only[bu,KA,je (λh:97<=(l.getD i 0).toNat∧(l.getD i 0).toNat<=122=>h2 h.2)]
   .simp (disch:=omega)only[bu,KA,je (λh:97<=(l.getD i 0).toNat∧(l.getD i 0).toNat<=122=>h1 h.1)]) (λn=>by simp(disch:=omega)only[bu]<;>rfl)with⟨a,r⟩|⟨i,b,a,r⟩
 .rw[Bz (d:=(0:UInt8)) a];exact Ev.br r (λn c=>_) _ dz
 .rw[pM (d:=(0:UInt8)) b a];exact Ev.br r (λn c=>_) _ dz
theorem W5(l:L UInt8)(pos:Nat)(h:pos<l.length):(Gm l[pos]=W∧vC l pos=(l[pos].toNat:Int)∧Ir l pos=1)∨(Gm l[pos]=J∧(vC l pos<97∨122<vC l pos)):=by
 have a:pos<(bZ l).size:=by simpa[bZ,ByteArray.size]using h
 have b:(bZ l)[pos]'a=l[pos]:=rfl;unfold Gm vC Ir;by_cases h1:l[pos].toNat<128
 .have c:=decode_ascii (bZ l) pos a (by grind)
  grind
 grind[decode_high,bZ,decide_eq_false]
def Fw(F:Nat->(L UInt8×Nat)×U->O (LO ((L UInt8×Nat)×U) (Bool×U) ((L UInt8×Nat)×U) Any))
  (e:∀n c,F n c=ai (QE c.1.2 c.1.1) (ai (aC (vC c.1.1 c.1.2) 97) (Mb n c) (ai (aC 122 (vC c.1.1 c.1.2)) (Mb n c) (Z (N ((c.1.1,adw c.1.2 (Ir c.1.1 c.1.2)),()))))) (Z (H 0 c))) :
  ∀(k:Nat)(l:L UInt8)(pos:Nat),pos+k=l.length->((l.drop pos).all Gm=W∧∃c,gJ F ((l,pos),()) (.out 0 c))∨((l.drop pos).all Gm=J∧∃c,gJ F ((l,pos),()) (.ret c (J,())))
 |0,l,pos,h=>by
  refine .inl ⟨by simp_all,((l,pos),()),.out (bK λn=>?_)⟩
  simp_all[QE,je,bu]
 |k+1,l,pos,h=>by
  have f:pos<l.length:=by omega
  have i:l.drop pos=l[pos]::l.drop (pos+1):=Tf f;have d:QE pos l=W:=kz f;rw[i,List.all_cons];obtain⟨a,b,c⟩|⟨a,b⟩:=W5 l pos f
  .have j:97<=l[pos].toNat∧l[pos].toNat<=122:=Ny a;rw[a,qC];have g:Ev (λn=>F n ((l,pos),())) (.next ((l,pos+1),())):=bK λn=>by rw[e];simp(disch:=omega)only[bu,d,b,c];rfl
   obtain⟨x,y,z⟩|⟨x,y,z⟩:=Fw F e k l (pos+1) (by omega)
   .exact .inl ⟨x,y,.next g z⟩
   .exact .inr ⟨x,y,.next g z⟩
  .rw[a,pH];refine .inr ⟨rfl,((l,adw pos (Ir l pos)),()),.ret (bK λn=>?_)⟩;rw[e];obtain b|b:=b
   .simp (disch:=omega)only[bu,d]<;>rfl
   .by_cases m:vC l pos<97
    .simp (disch:=omega)only[bu,d]<;>rfl
    .simp (disch:=omega)only[bu,d]<;>rfl
def Rj{G:Nat->L UInt8->O ((Bool×U)×U)}{a:UInt8}(h:Ev (λn=>G n l) ((l.all Gm,()),()))(hl:l.length<=7) :
  Ev (λn=>aT (aN 0 (a::l)) (ai (bn 65 (mA (a::l) 0)) (aT (aN 0 (a::l)) (ai (bn (mA (a::l) 0) 90) (aT (fV 1 (av (a::l)) (av (a::l))) (ah (G n (cY (a::l) 1 (av (a::l)))) λc=>Z c)) (Z ((J,()),())))) (Z ((J,()),())))) ((zH (a::l),()),()):=by
 rw[rU,kz hl,qC];have e:mA (a::l) 0=(a.toNat:Int):=rfl;by_cases h1:65<=a.toNat
 .by_cases h2:a.toNat<=90
  .rw[kz (And.intro h1 h2),qC];simp(disch:=first|omega|simp only[mK];omega)only[bu,e,xF];exact Ev.ah h (Ev.pure _)
  .rw[je (λh:65<=a.toNat∧a.toNat<=90=>h2 h.2),pH];exact bK λn=>by simp(disch:=first|omega|simp only[mK];omega)only[bu,e]
 .rw[je (λh:65<=a.toNat∧a.toNat<=90=>h1 h.1),pH];exact bK λn=>by simp(disch:=first|omega|simp only[mK];omega)only[bu,e]
def arp{s:L UInt8}(hs:s.length<=1000):Ev (λn=>F240 n (s,())) ((zH s,()),()):=by
 unfold F240;cases s with
 |nil=>exact bK λn=>by simp(disch:=omega)only[bu]<;>rfl
 |cons a l=>
  simp only[ny]at hs;by_cases h:l.length<=7
  .have:=Rj (G:=λn l=>F275 n (l,())) (a:=a) (arl (l:=l) (by omega)) h;refine Ev.r5 (λn=>?_) this;simp only[av,ny];rw[Qh (by omega),Qh (by omega)]
  .rw[rU,je h,pH,pH];exact bK λn=>by simp(disch:=omega)only[bu]
def LC(c:cq):Bool:=zH c.Name&&decide (0<=c.lY∧c.lY<=3)
theorem take_succ{α:Type}{l:L α}{i:Nat}(d:α)(h:i<l.length):l.take i++[l.getD i d]=l.take (i+1):=by
 simp_all
theorem qH{α:Type}{l:L α}{i:Nat}(d:α)(h:i<l.length):(l.take (i+1)).Nodup↔(l.take i).Nodup∧l.getD i d∉l.take i:=by
 rw[<-take_succ d h,List.nodup_append]
 grind
theorem arB{l:L (L UInt8)}{s:L UInt8}(hl:l.length<=1000):Ev (λn=>F141 n (l,s,())) ((decide (s∈l),()),()):=by
 unfold F141;have b:∀(i:Nat)(y:Int×U),(X () (W,()):LO (Int×U) (Bool×U) U Any)≠.next y:=λ_ _ h=>by cases h
 rcases iL (F:=λn c=>ai (aC c.1 (av l)) (aT (aN c.1 l) (ai (gp (bp l (az c.1) []) s) (Z (X () (W,()))) (Z (N (aF .i64 c.1 1,()))))) (Z (H 0 c))) l.length (λi=>!(gp (l.getD i []) s)) (λ_=>(X () (W,()):LO (Int×U) (Bool×U) U Any)) b (λi e=>bK λn=>by
   cases f:gp (l.getD i []) s<;>simp(disch:=omega)only[bu,f,bQ,gj,gq,KH,Nc]) (λn=>by simp(disch:=omega)only[bu]<;>rfl)with⟨a,r⟩|⟨i,e,a,r⟩
 .have:s∉l:=by intro g;have:=eV (d:=([]:L UInt8)) (Q:=λx=>(!(gp x s))=W) a s g;simp[gp]at this
  rw[je this];exact Ev.br r (λn c=>_) _ dz
 .have:s∈l:=by
   grind[gp,bT]
  rw[kz this];exact Ev.br r (λn c=>_) _ dz
theorem arC{l:L (L UInt8)}(hl:l.length<=1000):∃b,Ev (λn=>F139 n (l,())) ((b,()),())∧(b=W↔l.Nodup):=by
 unfold F139;have e:∀(i:Nat)(y:Int×U),(X () (J,()):LO (Int×U) (Bool×U) U Any)≠.next y:=λ_ _ h=>by cases h
 rcases iL (F:=λn c=>ai (aC c.1 (av l)) (aT (fV 0 c.1 (av l)) (aT (aN c.1 l) (ah (F141 n (cY l 0 c.1,bp l (az c.1) [],())) λd=>ai d.1.1 (Z (X () (J,()))) (Z (N (aF .i64 c.1 1,())))))) (Z (H 0 c))) l.length (λi=>!(decide (l.getD i []∈l.take i))) (λ_=>(X () (J,()):LO (Int×U) (Bool×U) U Any)) e (λi f=>by
   simp(disch:=omega)only[bu,EG];refine Ev.ah (arB (by grind)) (bK λn=>?_);cases j:decide (l.getD i []∈l.take i)<;>simp(disch:=omega)only[bu,bQ,gj,gq,KH,Nc]) (λn=>by simp(disch:=omega)only[bu]<;>rfl)with⟨a,r⟩|⟨i,f,a,r⟩
 .refine ⟨W,Ev.br r (λn c=>_) _ dz,λ_=>?_,λ_=>rfl⟩;have:∀i,i<=l.length->(l.take i).Nodup:=by
   intro i
   induction i with
   |zero=>intro _;simp
   |succ i k=>
    grind[qH,decide_eq_true]
  have:=this l.length (eM _);rwa [Qw]at this
 .refine ⟨J,Ev.br r (λn c=>_) _ dz,(λh=>by cases h),λg=>?_⟩;have h1:(l.take (i+1)).Nodup:=List.Nodup.sublist (List.take_sublist _ _) g
  grind[h2,qH,decide_eq_false]
end
end
section
def ark(s:L UInt8):Ev (λn=>F284 n (s,())) ((zH s,()),()):=by
 unfold F284;cases s with
 |nil=>exact dz|cons a l=>
  have b:gp (a::l) []=J:=rfl;have e:mA (a::l) 0=(a.toNat:Int):=rfl;by_cases h:l.length<=7
  .rw[rU,kz h,qC];by_cases h1:65<=a.toNat
   .by_cases h2:a.toNat<=90
    .rw[kz (And.intro h1 h2),qC];simp(disch:=first|omega|simp only[mK];omega)only[bu,b,e,xF];obtain⟨a,c,r⟩|⟨a,c,r⟩:=Fw _ (λn c=>rfl) l.length l 0 (by omega)
     .rw[List.drop_zero]at a;rw[a];exact Ev.br (F:=λn c=>_) r (λn c=>_) _ dz
     .rw[List.drop_zero]at a;rw[a];exact Ev.br (F:=λn c=>_) r (λn c=>_) _ dz
    .rw[je (λh:65<=a.toNat∧a.toNat<=90=>h2 h.2),pH];exact bK λn=>by simp(disch:=first|omega|simp only[mK];omega)only[bu,b,e]
   .rw[je (λh:65<=a.toNat∧a.toNat<=90=>h1 h.1),pH];exact bK λn=>by simp(disch:=first|omega|simp only[mK];omega)only[bu,b,e]
  .rw[rU,je h,pH,pH];exact bK λn=>by simp(disch:=omega)only[bu,b]
end
section
theorem lS{X R B P α:Type}(j:Nat)(x:X)(f:Nat->X->O α)(g:B->R->O α)(h:B->P->O α):bD (.out j x) f g h=f j x:=rfl
theorem ary{l:L cq}(hl:l.length<=1000)(hs:∀c∈l,c.Name.length<=1000):∃b,Ev (λn=>F158 n (l,())) ((b,()),())∧(b=W↔(∀c∈l,LC c=W)∧l.length<=20∧(l.map cq.Name).Nodup):=by
 unfold F158;have p:∀(i:Nat)(y:L (L UInt8)×Int×U),(X () (J,()):LO (L (L UInt8)×Int×U) (Bool×U) U Any)≠.next y:=λ_ _ h=>by cases h
 rcases nD (F:=λn c=>ai (aC c.2.1 (av l)) (aT (aN c.2.1 l) (ah (F240 n ((bp l (az c.2.1) bf).1,())) λd=>ai (ak d.1.1) (Z (X () (J,()))) (aT (aN c.2.1 l) (ah (F241 n ((bp l (az c.2.1) bf).2,0,3,())) λe=>ai (ak e.1.1) (Z (X () (J,()))) (aT (aN c.2.1 l) (aT (dF c.1 [(bp l (az c.2.1) bf).1]) (Z (N (di c.1 [(bp l (az c.2.1) bf).1],aF .i64 c.2.1 1,()))))))))) (Z (H 0 c)))
  l.length (λi=>((l.take i).map cq.Name,(i:Int),())) (λi=>LC (l.getD i bf)) (λ_=>(X () (J,()):LO (L (L UInt8)×Int×U) (Bool×U) U Any)) 0 p (λi k _=>by
   simp(disch:=omega)only[bu];refine Ev.ah (arp (hs _ (bT bf k))) ?_;unfold LC;cases zH (l.getD i bf).Name with
   |false=>simp_all[bK,bu,pH]|true=>
    refine bK λn=>?_;have f:dF (List.map cq.Name (List.take i l)) [(l.getD i bf).Name]=W:=GU.2 (by simp;omega);cases m:decide (0<=(l.getD i bf).lY∧(l.getD i bf).lY<=3)with
    |false=>simp only[bu,V1,m,qC]|true=>
     simp(disch:=omega)only[bu,V1,m,qC,f,bQ,gj,gq]
     grind[take_succ,bf]) (λ_=>bK λn=>by simp(disch:=omega)only[bu]<;>rfl)with⟨a,r⟩|⟨i,k,a,_,r⟩
 .rw[Qw]at r;obtain⟨b,g,q⟩:=arC (l:=l.map cq.Name) (by simp_all);have o:∀c∈l,LC c=W:=eV (d:=bf) a;by_cases j:l.length<=20
  .refine ⟨b,Ev.br r (λn c=>_) _ ?_,by simp_all⟩;refine Ev.r5 (λn=>lS ..) ?_;simp(disch:=omega)only[bu];exact Ev.ah g (Ev.pure _)
  .refine ⟨J,Ev.br r (λn c=>_) _ (bK λn=>?_),(λh=>by cases h),λh=>absurd h.2.1 j⟩;rw[lS];simp(disch:=omega)only[bu]
 .refine ⟨J,Ev.br r (λn c=>_) _ dz,(λh=>by cases h),λh=>?_⟩
  simp_all
end
section
def ab7(k l:L UInt8):Gv (A:=sg.A) Ty.str k l=decide (k=l):=by show gp k l=_;by_cases h:k=l<;>simp[gp,h]
def Tv{k:L UInt8}:∀m:L (L UInt8×Bool),(∀q∈m,q.2=W)->ET (A:=sg.A) Ty.str J k m=decide (k∈m.map Prod.fst)
 |[],_=>by simp[ET]
 |q::m,h=>by
  unfold ET;rw[ab7];by_cases a:k=q.1
  .simp_all
  .rw[je a];simp only[jo];rw[Tv m λx b=>h x (g7 _ b)];simp[a]
theorem N5{k:L UInt8}:∀m:L (L UInt8×Bool),(∀q∈m,q.2=W)->∀q∈iX (A:=sg.A) Ty.str k W m,q.2=W
 |[],_,q,a=>by unfold iX at a;rw[tj.1 a]
 |x::m,h,q,a=>by
  unfold iX at a;cases b:Gv (A:=sg.A) Ty.str k x.1 with
  |true=>
   grind
  |false=>
   rw[b]at a;simp only[jo]at a;obtain a|a:=fS.1 a
   .simp_all
   .exact N5 m (λy c=>h y (g7 _ c)) q a
theorem N6{k:L UInt8}:∀m:L (L UInt8×Bool),((iX (A:=sg.A) Ty.str k W m).map Prod.fst)=if k∈m.map Prod.fst then m.map Prod.fst else m.map Prod.fst++[k]
 |[]=>by simp[iX]
 |q::m=>by
  have a:Gv (A:=sg.A) Ty.str k q.1=decide (k=q.1):=by show gp k q.1=_;by_cases h:k=q.1<;>simp[gp,h]
  unfold iX;rw[a];by_cases h:k=q.1
  .simp_all
  .rw[je h];simp only[jo,pG];rw[N6 m]
   grind
structure LU(l:List (List UInt8))(i:Nat)(m:List (List UInt8×Bool)):Prop where
 mem:∀x,x∈m.map Prod.fst↔x∈l.take i
 le:m.length<=i
 eq:m.length=i↔(l.take i).Nodup
theorem LU.step{l:L (L UInt8)}{i:Nat}{m:L (L UInt8×Bool)}(h:LU l i m)(hi:i<l.length):LU l (i+1) (iX (A:=sg.A) Ty.str (l.getD i []) W m):=by
 have d:=N6 (k:=l.getD i []) m;have a:(iX (A:=sg.A) Ty.str (l.getD i []) W m).length=if l.getD i []∈m.map Prod.fst then m.length else m.length+1:=by have:=fq List.length d;rw[QA]at this;rw[this];split<;>simp
 have e:=qH ([]:L UInt8) hi;refine⟨λx=>?_,?_,?_⟩
 .rw[d,<-take_succ [] hi,eS,tj];split
  .rename_i c;rw[h.mem];exact⟨.inl,λb=>b.elim id λb=>by rw[b];exact(h.mem _).1 c⟩
  .rw[eS,tj,h.mem]
 .rw[a];have:=h.le;split<;>omega
 .rw[a,e];have:=h.le;by_cases c:l.getD i []∈m.map Prod.fst
  .rw[bw c];exact⟨λb=>by omega,λb=>absurd ((h.mem _).1 c) b.2⟩
  .rw[bL c];have f:l.getD i []∉l.take i:=λb=>c ((h.mem _).2 b);rw[<-h.eq]
   simp_all
theorem art{l:L cq}(hl:l.length<=1000):∃b,Ev (λn=>F224 n (l,())) ((b,()),())∧(b=W↔(∀c∈l,LC c=W)∧l.length<=20∧(l.map cq.Name).Nodup):=by
 unfold F224 Md;by_cases k:l.length<=20
 .let g:Nat->L (L UInt8×Bool):=λi=>Nat.rec [] (λi m=>iX (A:=sg.A) Ty.str (l.getD i bf).Name W m) i
  have t:∀i,i<l.length->(l.map cq.Name).getD i []=(l.getD i bf).Name:=λi j=>by
   simp_all
  have s:∀i,i<=l.length->LU (l.map cq.Name) i (g i)∧∀q∈g i,q.2=W:=by
   intro i
   induction i with
   |zero=>intro _;rw[show g 0=[]from rfl];exact⟨⟨by simp,by simp,by simp⟩,λq u=>by cases u⟩
   |succ i o=>
    intro j;obtain⟨h1,h2⟩:=o (by omega);refine⟨?_,N5 (g i) h2⟩;have:=h1.step (by grind)
    grind
  have p:∀i,i<l.length->ET (A:=sg.A) Ty.str J (l.getD i bf).Name (g i)=decide ((l.getD i bf).Name∈(l.map cq.Name).take i):=λi j=>by rw[Tv (g i) (s i (by omega)).2];exact decide_eq_decide.2 ((s i (by omega)).1.mem _)
  rcases nD (F:=λn(c:Int×L (L UInt8×Bool)×U)=>ai (aC c.1 (av l)) (aT (aN c.1 l) (ah (F284 n ((bp l (az c.1) bf).1,())) λd=>ai d.1.1 (ah (F223 n ((bp l (az c.1) bf).2,0,3,())) λe=>ai e.1.1 (ai (ak (ak (ET (A:=sg.A) Ty.str J (bp l (az c.1) bf).1 c.2.1))) (Z (X (iX (A:=sg.A) Ty.str (bp l (az c.1) bf).1 W c.2.1,()) (c.1,()))) (Z (N (aF .i64 c.1 1,iX (A:=sg.A) Ty.str (bp l (az c.1) bf).1 W c.2.1,())))) (Z (X (iX (A:=sg.A) Ty.str (bp l (az c.1) bf).1 W c.2.1,()) (c.1,())))) (Z (X (iX (A:=sg.A) Ty.str (bp l (az c.1) bf).1 W c.2.1,()) (c.1,())))))
   (Z (H 0 c)))
   l.length (λi=>((i:Int),g i,())) (λi=>LC (l.getD i bf)&&!decide ((l.getD i bf).Name∈(l.map cq.Name).take i)) (λi=>(X (g (i+1),()) ((i:Int),()):LO (Int×L (L UInt8×Bool)×U) (Int×U) (L (L UInt8×Bool)×U) Any)) 0 (λ_ _ h=>by cases h) (λi j _=>by
    simp(disch:=omega)only[bu];refine Ev.ah (ark _) ?_;unfold LC;cases zH (l.getD i bf).Name with
    |false=>exact dz|true=>
     refine bK λn=>?_;simp(disch:=omega)only[bu,qY,p i j,bQ];cases decide (0<=(l.getD i bf).lY∧(l.getD i bf).lY<=3)<;>cases decide ((l.getD i bf).Name∈(l.map cq.Name).take i)<;>rfl) (λ_=>bK λn=>by simp(disch:=omega)only[bu]<;>rfl)with⟨a,r⟩|⟨i,j,a,_,r⟩
  .refine ⟨W,?_,λ_=>⟨?_,k,?_⟩,λ_=>rfl⟩
   .have:bn (av l) 20=W:=kz (show(l.length:Int)<=20 by omega);simp only[this,S1];refine Ev.br r _ _ (bK λn=>?_);rfl
   .exact eV (d:=bf) λi j=>by simp_all
   .have key:∀i,i<=l.length->((l.map cq.Name).take i).Nodup:=by
     intro i
     induction i with
     |zero=>intro _;simp
     |succ i o=>
      intro j;refine(qH [] (by grind)).2 ⟨o (by omega),?_⟩
      grind
    have:=key l.length (eM _);rwa [<-QA (f:=cq.Name),Qw]at this
  .refine ⟨J,?_,(λh=>by cases h),λh=>?_⟩
   .have:bn (av l) 20=W:=kz (show(l.length:Int)<=20 by omega);simp only[this,S1];refine Ev.br r _ _ (bK λn=>?_);rfl
   .rw[h.1 _ (bT bf j),qC]at a;have nd:=(List.take_sublist (i+1) _).nodup h.2.2
    grind[qH,List.length_map,decide_eq_false]
 .refine ⟨J,bK λn=>?_,(λh=>by cases h),λh=>absurd h.2.1 k⟩;rw[show bn (av l) 20=J from je (show ¬(l.length:Int)<=20 by omega)];rfl
end
section
section
variable {c:ax}
structure CF(c:ax):Prop where
 ins:1<=c.dG.length∧c.dG.length<=1500
 pl:c.ew.length<=100
 cons:∀k∈c.Cons,LC k=W
 TQ:c.Cons.length<=20
 names:(c.Cons.map cq.Name).Nodup
 fl:1<=c.cU.length∧c.cU.length<=300
 main:0<=c.Main∧c.Main<c.cU.length
 pats:∀q∈c.ew,pw q<=12∧pI c.Cons q=W
 oM:∀f∈c.cU,0<=f∧f<c.dG.length
 all:∀i∈c.dG,wF c i=W
mutual
theorem afm{cons:L cq}:∀q:aD,pI cons q=W->tE cons q
 |⟨b,n,text,parts⟩,h=>by
  unfold pI abG at h;unfold tE;simp only[eZ,rF]at h;obtain⟨⟨h1,h2⟩,h3⟩:=h;have h4:=zzB parts h2;split at h3
  .simp_all
  grind
theorem zzB{cons:L cq}:∀qs:L aD,rN cons qs=true->oH cons qs
 |[],_=>trivial|q::qs,h=>by unfold rN at h;simp at h;exact⟨afm q h.1,zzB qs h.2⟩
end
theorem CF.ok(h:CF c):Ai c:=by
 refine⟨h.ins,λi b=>?_,λq a=>⟨afm q (h.pats q a).2,(h.pats q a).1⟩,h.pl,h.oM,h.fl,h.main,λk d=>?_⟩
 .have:=h.all i b;unfold wF Mt at this;simp only[eZ,rF]at this;obtain⟨⟨h1,h2⟩,h3,h4⟩:=this;unfold fB at h4;unfold fA at h3;refine⟨h1,h2,λk=>?_,λk=>?_,λk=>?_,λk=>?_,λk=>?_,λk=>?_,λk=>?_,λk=>?_,λk=>?_⟩<;>simp[k]at h3 h4<;>first|omega|(simp[j5];omega)|grind
 .have:=h.cons k d
  simp_all[LC,eZ,rF]
end
end
section
section
variable {c:ax}
def arf{X B P α:Type}(i:Nat)(b:B)(f:Nat->X->O α)(u v:O α)(h:B->P->O α):bD (.ret b ((i:Int),())) f (λ_(q:Int×U)=>ai (ak (ak (bn 0 q.1))) u v) h=u:=by rfl
def agQ(hs:Small c):Ev (λn=>Mg n (c,())) ((bif (c.ew.all λq=>decide (pw q<=12)&&pI c.Cons q)&&c.dG.all (wF c)then 0 else 2,()),()):=by
 have h1:=hs.pl;have h2:=hs.cl;have e:∀(i:Nat)(y:Int×U),(X () ((i:Int),()):LO (Int×U) (Int×U) U Any)≠.next y:=λ_ _ h=>by cases h
 unfold Mg vk;simp only[OB];rcases iL (F:=λn(k:Int×U)=>ai (aC k.1 (av c.2)) (aT (aN k.1 c.2) (ah (F228 n (bp c.2 (az k.1) aL,12,())) λl=>ai (bn 0 l.1.1) (ah (F229 n (bp c.2 (az k.1) aL,c.5,())) λm=>ai (ak m.1.1) (Z (X () k)) (Z (N (aF .i64 k.1 1,())))) (Z (X () k)))) (Z (H 0 k)))
  c.ew.length (λi=>decide (pw (c.ew.getD i aL)<=12)&&pI c.Cons (c.ew.getD i aL)) (λi=>(X () ((i:Int),()):LO (Int×U) (Int×U) U Any)) e
  (λi b=>by
   have f:=hs.pats _ (bT aL b);simp(disch:=omega)only[bu];refine Ev.ah (ars (c.ew.getD i aL) (by omega) (by omega)) ?_;by_cases h:pw (c.ew.getD i aL)<=12
   .rw[oc (left:=12) (k:=pw (c.ew.getD i aL)) (by omega),kz h,qC];simp(disch:=omega)only[bu];refine Ev.ah (XO (by omega) (c.ew.getD i aL) (by omega) 0) (bK λn=>?_);cases pI c.Cons (c.ew.getD i aL)<;>simp(disch:=omega)only[bu,bQ,gj,gq]
   .rw[qO (left:=12) (k:=pw (c.ew.getD i aL)) (by omega),je h,pH]
    simp_all[bK,bu]) (λn=>by simp(disch:=omega)only[bu]<;>rfl)with⟨a,r⟩|⟨i,b,a,r⟩
 .rw[Bz (d:=aL) a,qC];refine Ev.br r _ _ ?_;exact agR hs
 .rw[pM (d:=aL) b a,pH];refine Ev.br r _ _ (bK λn=>?_);rfl
end
end
section
section
variable {c:ax}
def Jr{F:Nat->O ((Int×U)×U)}(hn:¬CF c)(h:Ev F ((2,()),())):∃r:Int,Ev F ((r,()),())∧(r=0∨r=2)∧(r=0↔CF c):=
 ⟨2,h,.inr rfl,(λh=>by cases h),λh=>absurd h hn⟩
theorem arA(hs:Small c):∃r:Int,Ev (λn=>F147 n (c,())) ((r,()),())∧(r=0∨r=2)∧(r=0↔CF c):=by
 have h1:=hs.ins;have h2:=hs.oM;have h3:=hs.cl;unfold F147 nP;by_cases j:¬(1<=c.dG.length∧c.dG.length<=1500)
 .exact Jr (λh=>j h.ins) (bK λn=>by simp only[bu,qY,je (show ¬((1:Int)<=(c.dG.length:Int)∧(c.dG.length:Int)<=1500)by omega)]<;>rfl)
 have j:=Qx.1 j;have d1:=kz (show(1:Int)<=(c.dG.length:Int)∧(c.dG.length:Int)<=1500 by omega);by_cases z:100<c.ew.length
 .exact Jr (λh=>by have:=h.pl;omega) (bK λn=>by simp(disch:=omega)only[bu,qY,d1]<;>rfl)
 obtain⟨b,e,g⟩:=art (l:=c.Cons) (by omega);simp(disch:=omega)only[bu,qY,d1];cases b with
 |false=>exact Jr (λh=>by have:=g.2 ⟨h.cons,h.TQ,h.names⟩;cases this) (Ev.ah e dz)
 |true=>
  obtain⟨t,u,v⟩:=g.1 rfl;by_cases k:¬(1<=c.cU.length∧c.cU.length<=300)
  .exact Jr (λh=>k h.fl) (Ev.ah e (bK λn=>by simp only[bu,qY,je (show ¬((1:Int)<=(c.cU.length:Int)∧(c.cU.length:Int)<=300)by omega)]<;>rfl))
  have k:=Qx.1 k;have d3:=kz (show(1:Int)<=(c.cU.length:Int)∧(c.cU.length:Int)<=300 by omega);by_cases m:¬(0<=c.Main∧c.Main<c.cU.length)
  .exact Jr (λh=>m h.main) (Ev.ah e (bK λn=>by simp(disch:=omega)only[bu,qY,d3,dc,je (show ¬((0:Int)<=c.Main∧c.Main<=(c.cU.length:Int)-1)by omega)]<;>rfl))
  have m:=Qx.1 m;have d4:=kz (show(0:Int)<=c.Main∧c.Main<=(c.cU.length:Int)-1 by omega);have w:∀(i:Nat)(y:Int×U),(X () ((i:Int),()):LO (Int×U) (Int×U) U Any)≠.next y:=λ_ _ h=>by cases h
  have o:=agQ hs;rcases iL (F:=λn(h:Int×U)=>ai (aC h.1 (c.cU.length:Int)) (aT (aN h.1 c.cU) (ai (decide (0<=c.cU.getD h.1.toNat 0∧c.cU.getD h.1.toNat 0<=bF .i64 (c.dG.length:Int) 1)) (Z (N (aF .i64 h.1 1,()))) (Z (X () h)))) (Z (H 0 h)))
   c.cU.length (λi=>decide (0<=c.cU.getD i 0∧c.cU.getD i 0<=(c.dG.length:Int)-1)) (λi=>(X () ((i:Int),()):LO (Int×U) (Int×U) U Any)) w
   (λi p=>bK λn=>by
    simp(disch:=omega)only[bu,dc];cases decide (0<=c.cU.getD i 0∧c.cU.getD i 0<=(c.dG.length:Int)-1)<;>simp(disch:=omega)only[bu,bQ,gj,gq]) (λn=>by simp(disch:=omega)only[bu]<;>rfl)with⟨a,r⟩|⟨i,p,a,r⟩
  .have x:∀f∈c.cU,0<=f∧f<c.dG.length:=eV (d:=(0:Int)) λi p=>by grind
   have goal:∀r:Int,r=(bif (c.ew.all λq=>decide (pw q<=12)&&pI c.Cons q)&&c.dG.all (wF c)then 0 else 2)->(r=0∨r=2)∧(r=0↔CF c):=by
    intro r A;have s:((c.ew.all λq=>decide (pw q<=12)&&pI c.Cons q)&&c.dG.all (wF c))=W↔CF c:=by simp only[eZ,kA,rF];exact⟨λh=>⟨j,by omega,t,u,v,k,m,h.1,x,h.2⟩,λh=>⟨h.pats,h.all⟩⟩
    grind
   refine⟨_,?_,goal _ rfl⟩;refine Ev.ah e ?_;simp only[qY,d3,d4,bu,dc (show -9223372036854775808<=(c.cU.length:Int)-1 by omega) (show(c.cU.length:Int)-1<=9223372036854775807 by omega)];refine Ev.br r _ _ ?_;exact o
  .refine Jr (λh=>?_) (Ev.ah e ?_)
   .have:=h.oM _ (bT (0:Int) p)
    grind
   .simp only[qY,d3,d4,bu,dc (show -9223372036854775808<=(c.cU.length:Int)-1 by omega) (show(c.cU.length:Int)-1<=9223372036854775807 by omega)];refine Ev.br r _ _ (bK λn=>?_);rfl
end
end
section
section
variable {α β R B P:Type}
def Ev.all{l:L α}(d:α)(q:α->Bool)(bad:Nat->LO (Int×U) R B P){F:Nat->Int×U->O (LO (Int×U) R B P)}{g:Nat->LO (Int×U) R B P->O β}{r:β}
  (e:∀i y,bad i≠.next y)
  (hs:∀i,i<l.length->Ev (λn=>F n ((i:Int),())) (bif q (l.getD i d)then .next (((i+1:Nat):Int),())else bad i))
  (f:∀n,F n ((l.length:Int),())=Z (.out 0 ((l.length:Int),())))
  (h1:l.all q=W->Ev (λn=>g n (.out 0 ((l.length:Int),()))) r) (h2:∀i,i<l.length->l.all q=J->Ev (λn=>g n (bad i)) r) :
  Ev (λn=>ah (iter (F n) n (0,())) (g n)) r:=by
 obtain⟨a,b⟩|⟨i,c,a,b⟩:=iL l.length (λi=>q (l.getD i d)) bad e hs f
 .exact Ev.br b g _ (h1 (Bz (d:=d) a))
 .exact Ev.br b g _ (h2 i c (pM (d:=d) c a))
def Ev.allI{X:Type}(len:Nat)(s:Nat->X)(q:Nat->Bool)(bad:Nat->LO X R B P){F:Nat->X->O (LO X R B P)}{g:Nat->LO X R B P->O β}{r:β}(c:∀i y,bad i≠.next y)
  (hs:∀i,i<len->(∀j,j<i->q j=W)->Ev (λn=>F n (s i)) (bif q i then .next (s (i+1))else bad i)) (d:∀n,F n (s len)=Z (.out 0 (s len)))
  (h1:(∀i,i<len->q i=W)->Ev (λn=>g n (.out 0 (s len))) r) (h2:∀i,i<len->q i=J->Ev (λn=>g n (bad i)) r):Ev (λn=>ah (iter (F n) n (s 0)) (g n)) r:=by
 obtain⟨a,b⟩|⟨i,e,a,_,b⟩:=nD len s q bad 0 c hs (λ_=>bK d)
 .exact Ev.br b g _ (h1 a)
 .exact Ev.br b g _ (h2 i e a)
def zi{X R B P:Type}{b:B}{r:X->R}:∀(c y:X),(LO.ret b (r c):LO X R B P)≠.next y:=λ_ _ h=>by cases h
def aiJ(i:Nat):ak (bn 0 (i:Int))=J:=by rfl
def JB(a lo hi:Int):Bool:=decide (lo<=a)&&decide (a<=hi)
theorem gP{a lo hi:Int}:JB a lo hi=W↔lo<=a∧a<=hi:=by simp[JB]
theorem mB{a b:Int}:aa a b=W↔a=b:=by simp[aa]
variable {b a:Int}
def zF(h:aa a b=J):a≠b:=λe=>by rw[Lw e]at h;cases h
theorem AZ{a b:Int}(h:bn a b=W):a<=b:=by simpa[bn]using h
def A0(h:bn a b=J):b<a:=by simpa[bn]using h
def AY(h:aC a b=W):a<b:=by simpa[aC]using h
def Cp(h:aC a b=J):b<=a:=by simpa[aC]using h
end
def aU{α:Type}(F:Nat->O α)(P:Prop)(x y:α):Prop:=(P∧Ev F x)∨(¬P∧Ev F y)
abbrev FB:=Nat->O ((Bool×U)×U)
abbrev eu(F:FB)(P:Prop):Prop:=aU F P ((W,()),()) ((J,()),())
section
variable {α:Type}{F G f g:Nat->Option α}{x y:α}{P Q:Prop}
def aU.no(hn:¬P)(h:Ev F y):aU F P x y:=.inr ⟨hn,h⟩
def aU.yes(a:P)(h:Ev F x):aU F P x y:=.inl ⟨a,h⟩
def aU.iff(e:P↔Q)(h:aU F P x y):aU F Q x y:=by
 simp_all
def aU.congr(e:∀n,F n=G n)(h:aU G P x y):aU F P x y:=by
 obtain⟨a,b⟩|⟨a,b⟩:=h
 .exact .inl ⟨a,Ev.r5 e b⟩
 .exact .inr ⟨a,Ev.r5 e b⟩
theorem aU.ai{b:Bool}(h1:b=W->aU f P x y)(h2:b=J->aU g P x y):aU (λn=>TL.ai b (f n) (g n)) P x y:=by
 cases b
 .exact h2 rfl
 .exact h1 rfl
def aU.aT{b:Bool}(a:b=W)(h:aU f P x y):aU (λn=>TL.aT b (f n)) P x y:=by subst a;exact h
theorem aU.ah{f:FB}{g:Nat->(Bool×U)×U->O α}(h:eu f P)(h1:P->aU (λn=>g n ((W,()),())) Q x y)(h2:¬P->aU (λn=>g n ((J,()),())) Q x y):aU (λn=>TL.ah (f n) (g n)) Q x y:=by
 obtain⟨a,b⟩|⟨a,b⟩:=h
 .obtain ⟨c,d⟩|⟨c,d⟩:=h1 a
  .exact .inl ⟨c,Ev.ah b d⟩
  .exact .inr ⟨c,Ev.ah b d⟩
 .obtain ⟨c,d⟩|⟨c,d⟩:=h2 a
  .exact .inl ⟨c,Ev.ah b d⟩
  .exact .inr ⟨c,Ev.ah b d⟩
def aU.ifN{f:FB}{bad rest:Nat->O α}(h:eu f P)(h1:P->aU rest Q x y)(h2:¬P->aU bad Q x y):aU (λn=>TL.ah (f n) λz=>TL.ai (ak z.1.1) (bad n) (rest n)) Q x y:=aU.ah h h1 h2
def aU.ifP{f:FB}{bad rest:Nat->O α}(h:eu f P)(h1:P->aU rest Q x y)(h2:¬P->aU bad Q x y):aU (λn=>TL.ah (f n) λz=>TL.ai z.1.1 (rest n) (bad n)) Q x y:=aU.ah h h1 h2
def aU.arO{β:Type}{f:Nat->O β}{a:β}{g:Nat->β->O α}(h:Ev f a)(c:aU (λn=>g n a) P x y):aU (λn=>TL.ah (f n) (g n)) P x y:=by
 obtain⟨a,b⟩|⟨a,b⟩:=c
 .exact .inl ⟨a,Ev.ah h b⟩
 .exact .inr ⟨a,Ev.ah h b⟩
def eu.mk{F:FB}{b:Bool}(h:Ev F ((b,()),()))(e:b=W↔P):eu F P:=by
 cases b
 .exact .inr ⟨(λh=>by simp_all),h⟩
 .exact .inl ⟨e.1 rfl,h⟩
theorem eu.get{F:FB}(h:eu F P):∃b,Ev F ((b,()),())∧(b=W↔P):=by
 obtain⟨a,b⟩|⟨a,b⟩:=h
 .simp_all
 simp_all
def eu.of_eq{F:FB}{b:Bool}(h:∀n,F n=Z ((b,()),()))(e:b=W↔P):eu F P:=eu.mk (bK h) e
def eu.tail{f:FB}(h:eu f P):eu (λn=>TL.ah (f n) λx=>Z x) P:=by
 obtain⟨a,b⟩|⟨a,b⟩:=h
 .exact .inl ⟨a,Ev.ah b (Ev.pure _)⟩
 .exact .inr ⟨a,Ev.ah b (Ev.pure _)⟩
end
section
variable {α β R B P:Type}{Q:Prop}{Pa:α->Prop}{x y:β}
def aU.loop{X:Type}(len:Nat)(s:Nat->X)(q:Nat->Prop)(bad:Nat->LO X R B P){F:Nat->X->O (LO X R B P)}{g:Nat->LO X R B P->O β}(f:∀i y,bad i≠.next y)
  (hs:∀i,i<len->(∀j,j<i->q j)->aU (λn=>F n (s i)) (q i) (.next (s (i+1))) (bad i)) (k:∀n,F n (s len)=Z (.out 0 (s len)))
  (h1:(∀i,i<len->q i)->aU (λn=>g n (.out 0 (s len))) Q x y) (h2:∀i,i<len->¬q i->aU (λn=>g n (bad i)) Q x y):aU (λn=>TL.ah (iter (F n) n (s 0)) (g n)) Q x y:=by
 haveI:∀i,Decidable (q i):=λi=>Classical.propDecidable _
 rcases nD (F:=F) len s (λi=>decide (q i)) bad 0 f (λi c l=>by
  obtain⟨a,b⟩|⟨a,b⟩:=hs i c (λj h=>Ny (l j h))
  .simp_all
  simp_all) (λ_=>bK k)with⟨a,d⟩|⟨i,c,a,_,d⟩
 .obtain ⟨b,e⟩|⟨b,e⟩:=h1 λi c=>Ny (a i c)
  .exact .inl ⟨b,Ev.br d g _ e⟩
  .exact .inr ⟨b,Ev.br d g _ e⟩
 .obtain ⟨b,e⟩|⟨b,e⟩:=h2 i c (of_decide_eq_false a)
  .exact .inl ⟨b,Ev.br d g _ e⟩
  .exact .inr ⟨b,Ev.br d g _ e⟩
def aU.all{l:L α}(d:α)(Pa:α->Prop)(bad:Nat->LO (Int×U) R B P){F:Nat->Int×U->O (LO (Int×U) R B P)}{g:Nat->LO (Int×U) R B P->O β}(c:∀i y,bad i≠.next y)
  (hs:∀i,i<l.length->aU (λn=>F n ((i:Int),())) (Pa (l.getD i d)) (.next (((i+1:Nat):Int),())) (bad i)) (e:∀n,F n ((l.length:Int),())=Z (.out 0 ((l.length:Int),())))
  (h1:(∀a∈l,Pa a)->aU (λn=>g n (.out 0 ((l.length:Int),()))) Q x y) (h2:¬(∀a∈l,Pa a)->∀i:Nat,aU (λn=>g n (bad i)) Q x y):aU (λn=>TL.ah (iter (F n) n (0,())) (g n)) Q x y:=
 aU.loop l.length (λi=>((i:Int),())) (λi=>Pa (l.getD i d)) bad c (λi b _=>hs i b) e (λh=>h1 (eV (d:=d) h)) (λi b h=>h2 (λf=>h (f _ (bT d b))) i)
def aU.LN{l:L α}(d:α)(Pa:α->Prop)(T:Nat->α->O ((Bool×U)×U))(bad:Int×U->LO (Int×U) R B P){F:Nat->Int×U->O (LO (Int×U) R B P)}{g:Nat->LO (Int×U) R B P->O β}
  (j:∀n c,F n c=TL.ai (aC c.1 (av l)) (TL.aT (aN c.1 l) (TL.ah (T n (bp l (az c.1) d)) λx=>TL.ai (ak x.1.1) (Z (bad c)) (Z (N (aF .i64 c.1 1,()))))) (Z (H 0 c)))
  (hl:l.length<=1000000) (k:∀c y,bad c≠.next y) (m:∀a∈l,eu (λn=>T n a) (Pa a))
  (h1:(∀a∈l,Pa a)->aU (λn=>g n (.out 0 ((l.length:Int),()))) Q x y) (h2:¬(∀a∈l,Pa a)->∀i:Nat,aU (λn=>g n (bad ((i:Int),()))) Q x y) :
  aU (λn=>TL.ah (iter (F n) n (0,())) (g n)) Q x y:=by
 refine aU.all d Pa (λi=>bad ((i:Int),())) (λi y=>k _ y) (λi o=>?_) (λn=>by simp_all[bu]) h1 h2;obtain⟨b,h,e⟩:=(m _ (bT d o)).get;have f:Ev (λn=>F n ((i:Int),())) (bif b then .next (((i+1:Nat):Int),())else bad ((i:Int),())):=by refine Ev.r5 (λn=>j n _) ?_;simp(disch:=omega)only[bu];refine Ev.ah h (bK λn=>?_);cases b<;>simp(disch:=omega)only[bu,bQ,gj,gq]
 cases b with|true=>exact .inl ⟨e.1 rfl,f⟩|false=>exact .inr ⟨(λh=>by simp_all),f⟩
end
end
section
section
variable {c:ax}
theorem e50(hs:Small c):eu (λn=>F50 n (c,())) (CF c):=by
 have h1:=hs.ins;have h2:=hs.oM;have h3:=hs.cl;have h4:=hs.pl;unfold F50 Kf;by_cases m:¬(1<=c.dG.length∧c.dG.length<=1500)
 .exact aU.no (λh=>m h.ins) (bK λn=>by simp only[bu,wS,je (show ¬((1:Int)<=(c.dG.length:Int)∧(c.dG.length:Int)<=1500)by omega)]<;>rfl)
 have m:=Qx.1 m;have d1:=kz (show(1:Int)<=(c.dG.length:Int)∧(c.dG.length:Int)<=1500 by omega);by_cases x:100<c.ew.length
 .exact aU.no (λh=>by have:=h.pl;omega) (bK λn=>by simp(disch:=omega)only[bu,wS,d1]<;>rfl)
 obtain⟨b,g,j⟩:=ary (l:=c.Cons) (by omega) (λk s=>by have:=hs.names k s;omega);have d:Ev (λn=>F105 n (c.Cons,())) ((b,()),()):=by unfold F105;exact Ev.ah g (Ev.pure _)
 simp(disch:=omega)only[bu,wS,d1];cases b with
 |false=>exact aU.no (λh=>by have:=j.2 ⟨h.cons,h.TQ,h.names⟩;cases this) (Ev.ah d dz)
 |true=>
  obtain⟨t,u,v⟩:=j.1 rfl;by_cases o:¬(1<=c.cU.length∧c.cU.length<=300)
  .exact aU.no (λh=>o h.fl) (Ev.ah d (bK λn=>by simp only[bu,wS,je (show ¬((1:Int)<=(c.cU.length:Int)∧(c.cU.length:Int)<=300)by omega)]<;>rfl))
  have o:=Qx.1 o;have d3:=kz (show(1:Int)<=(c.cU.length:Int)∧(c.cU.length:Int)<=300 by omega);by_cases p:¬(0<=c.Main∧c.Main<c.cU.length)
  .exact aU.no (λh=>p h.main) (Ev.ah d (bK λn=>by simp(disch:=omega)only[bu,wS,d3,dc,je (show ¬((0:Int)<=c.Main∧c.Main<=(c.cU.length:Int)-1)by omega)]<;>rfl))
  have p:=Qx.1 p;have d4:=kz (show(0:Int)<=c.Main∧c.Main<=(c.cU.length:Int)-1 by omega);have w:=dc (show -9223372036854775808<=(c.cU.length:Int)-1 by omega) (show(c.cU.length:Int)-1<=9223372036854775807 by omega);have goal:((c.ew.all λq=>decide (pw q<=12)&&pI c.Cons q)&&(c.cU.all (λf=>decide (0<=f∧f<=(c.dG.length:Int)-1))&&c.dG.all (wF c)))=W↔CF c:=by simp only[eZ,kA,rF];exact⟨λh=>⟨m,by omega,t,u,v,o,p,h.1,λf r=>by grind,h.2.2⟩,λh=>⟨h.pats,λf r=>by have:=h.oM f r;omega,h.all⟩⟩
  refine eu.mk (Ev.ah d ?_) goal;simp only[wS,d3,d4,bu,w];refine Ev.all (l:=c.ew) aL (λq=>decide (pw q<=12)&&pI c.Cons q) (λ_=>.ret () (J,())) (λ_ _ h=>by cases h) (λi e=>?_) (λn=>by simp(disch:=omega)only[bu]) (λa=>?_) (λi e a=>?_)
  .have a:=hs.pats _ (bT aL e);simp(disch:=omega)only[bu];refine Ev.ah (e94 (c.ew.getD i aL) (by omega) (by omega)) ?_;by_cases h:pw (c.ew.getD i aL)<=12
   .rw[oc (left:=12) (k:=pw (c.ew.getD i aL)) (by omega),kz h,qC];simp(disch:=omega)only[bu];refine Ev.ah (arH (by omega) (c.ew.getD i aL) (by omega)) (bK λn=>?_);cases pI c.Cons (c.ew.getD i aL)<;>simp(disch:=omega)only[bu,bQ,gj,gq]
   .rw[qO (left:=12) (k:=pw (c.ew.getD i aL)) (by omega),je h,pH]
    simp_all[bK,bu]
  .rw[a,qC];refine Ev.r5 (λn=>lS ..) ?_;refine Ev.all (l:=c.cU) 0 (λf=>decide (0<=f∧f<=(c.dG.length:Int)-1)) (λ_=>.ret () (J,())) (λ_ _ h=>by cases h) (λi e=>bK λn=>?_) (λn=>by simp(disch:=omega)only[bu]) (λa=>?_) (λi e a=>?_)
   .simp (disch:=omega)only[bu,dc,wS];cases decide (0<=c.cU.getD i 0∧c.cU.getD i 0<=(c.dG.length:Int)-1)<;>simp(disch:=omega)only[bu,bQ,gj,gq]
   .rw[a,qC];refine Ev.r5 (λn=>lS ..) ?_;refine Ev.all (l:=c.dG) bM (wF c) (λ_=>.ret () (J,())) (λ_ _ h=>by cases h) (λi e=>bK λn=>?_) (λn=>by simp(disch:=omega)only[bu]) (λa=>?_) (λi e a=>?_)
    .simp (disch:=omega)only[bu,arG hs];cases wF c (c.dG.getD i bM)<;>simp(disch:=omega)only[bu,bQ,gj,gq]
    .rw[a];exact dz
    .rw[a];exact dz
   .rw[a];exact dz
  .rw[a];exact dz
end
end
section
section
variable {c:ax}{dd:List aq}{w:aj}{mm:List (Int×Bool)}{k:Nat}
def vB(c:ax)(k:Nat)(v:aA):Bool:=
 bif aa v.Kind 1 then JB v.N (-1000000000) 1000000000 else bif aa v.Kind 2 then JB v.N 0 1 else bif aa v.Kind 3 then aa v.N 0
 else bif aa v.Kind 4 then JB v.N 0 (c.cU.length-1)else bif aa v.Kind 5 then JB v.N 0 (k-1)else J
theorem Ko{v:aA}:vB c k v=W↔cH c k v:=by
 let ⟨a,b⟩:=v
 unfold vB cH
 grind[aa,JB,j5]
def e63(n:Nat)(a lo hi:Int):F63 n (a,lo,hi,())=Z ((JB a lo hi,()),()):=by unfold F63 JB;by_cases h1:lo<=a<;>by_cases h2:a<=hi<;>simp[ai,bn,h1,h2]
def aru(n:Nat)(a:c.cU.length<=1000)(b:w.aP.length<=1000)(v:aA):F171 n (⟨c,dd⟩,w,v,())=Z ((vB c w.aP.length v,()),()):=by unfold F171 vB;simp(disch:=omega)only[bu,dc,e63];cases aa v.Kind 1<;>cases aa v.Kind 2<;>cases aa v.Kind 3<;>cases aa v.Kind 4<;>cases aa v.Kind 5<;>rfl
def rgl(a:Int)(k:Nat):(ai (bn 0 a) (Z ((aC a (k:Int),()),())) (Z ((J,()),())))=(Z ((JB a 0 (k-1),()),()):O ((Bool×U)×U)):=by unfold JB;by_cases h1:0<=a<;>by_cases h2:a<k<;>simp[ai,bn,aC,h1,h2]<;>omega
def rgi(a lo hi:Int):(ai (bn lo a) (Z ((bn a hi,()),())) (Z ((J,()),())))=(Z ((JB a lo hi,()),()):O ((Bool×U)×U)):=by unfold JB;by_cases h1:lo<=a<;>by_cases h2:a<=hi<;>simp[ai,bn,h1,h2]
theorem agP(n:Nat)(v:aA):F245 n (⟨w,c,dd,mm⟩,v,())=Z ((vB c w.aP.length v,()),()):=by
 unfold F245 vB;simp only[eO,rgl,rgi]
 grind[aa,gP,ai,vW]
def Rr(a:c.cU.length<=1000)(d:w.aP.length<=1000){l:L aA}(hl:l.length<=1000){m:Int}:eu (λn=>F118 n (⟨c,dd⟩,w,l,m,())) ((l.length:Int)=m∧∀v∈l,cH c w.aP.length v):=by
 by_cases h:(l.length:Int)=m
 .subst h;refine aU.iff (P:=∀v∈l,cH c w.aP.length v) ⟨λh=>⟨rfl,h⟩,λh=>h.2⟩ (aU.congr (λn=>show F118 n (⟨c,dd⟩,w,l,(l.length:Int),())=_ by unfold F118;exact fq (λb=>ai (ak b) _ _) (Lw rfl)) ?_);exact aU.LN (l:=l) cB (cH c w.aP.length) (λn v=>F171 n (⟨c,dd⟩,w,v,())) (λ_=>.ret () (J,())) (λn c=>rfl) (by omega) (λ_ _ h=>by cases h) (λv _=>eu.of_eq (λn=>aru n a d v) Ko) (λh=>aU.yes h dz) (λh i=>aU.no h dz)
 .exact aU.no (λe=>h e.1) (bK λn=>by
   unfold F118;rw[show aa (av l) m=J from vW h];rfl)
structure Bd(c:ax)(dd:List aq)(w:aj):Prop where
 ok:se c dd
 cl:c.Cons.length<=1000
 wl:w.aP.length<=1000
def Bd.fl(h:Bd c dd w):c.cU.length<=1000:=by have:=h.ok.fl;omega
def Bd.nl(h:Bd c dd w):c.dG.length<=1500:=h.ok.len.2
def Bd.dl(h:Bd c dd w):dd.length=c.dG.length:=h.ok.dep.len
def se.cok(h:se c dd):Ai c:=⟨h.len,h.ins,h.pats,h.pl,h.oM,h.fl,h.main,h.cons⟩
theorem PD.lo(h:PD c dd)(f:Ai c){n:Int}{d:aq}(g:Kk c n d):Lo d:=by
 induction g with
 |root _=>exact⟨rfl,by decide,by decide⟩
 | @next n d x i j k=>
  let ⟨a,b,e,r⟩:=h.Cc f.oM i
  have:=h.ok n a b (by grind);rw[e]at this;exact(Gc f a b this.2.2 k j).2
theorem Bd.lo(h:Bd c dd w){n:Int}(a:0<=n)(h1:n<c.dG.length)(b:(dV dd n).Reached=W):Lo (dV dd n)∧(dV dd n).Stack<=60∧(dV dd n).Env<=30:=by have:=h.ok.dep.ok n a h1 b;exact⟨h.ok.dep.lo h.ok.cok (h.ok.dep.der n a h1 b),this.1,this.2.1⟩
def od(l:L au)(last:Bool)(i:Nat):Int:=if last=W∧i+1=l.length then 0 else 1
structure SmF(l:List au):Prop where
 len:l.length<=1000
 env:∀f∈l,f.Env.length<=1000
 stack:∀f∈l,f.Stack.length<=1000
def ak2(b:Bd c dd w){l:L au}(sm:SmF l){last:Bool}:eu (λn=>F117 n (⟨c,dd⟩,w,l,last,())) ((1<=l.length∧l.length<=40)∧∀i,i<l.length->dm c dd w.aP.length (od l last i) (l.getD i aS)):=by
 have F:=sm.len;have I:=b.nl;have K:=b.dl;unfold F117 Da;refine aU.ifN (P:=1<=l.length∧l.length<=40) (eu.of_eq (λn=>e63 n _ _ _) (gP.trans (by simp[eO];omega))) (λh1=>?_) (λh1=>aU.no (λh=>h1 h.1) dz);refine aU.loop l.length (λi=>((i:Int),())) (λi=>dm c dd w.aP.length (od l last i) (l.getD i aS)) (λ_=>.ret () (J,())) (λ_ _ h=>by cases h) (λi k _=>?_) (λn=>by simp(disch:=omega) [bu]) (λh=>aU.yes ⟨h1,h⟩ dz) (λi k h=>aU.no (λz=>h (z.2 i k)) dz);have s:=sm.env _ (bT aS k);have t:=sm.stack _ (bT aS k);generalize A:l.getD i aS=f at s t;have q:bp l (az (i:Int)) aS=f:=A;unfold Sv Mi CZ;simp only[q];simp(disch:=omega)only[bu,e63,dc];cases h1:JB f.At 0 ((c.dG.length:Int)-1)with
 |false=>exact aU.no (λh=>by rw[gP.2 ⟨h.lo,by have:=h.hi;omega⟩]at h1;cases h1) dz
 |true=>
 have u:=gP.1 h1;have e:f.At<c.dG.length:=by omega
 simp(disch:=omega)only[bu];rw[show dd.getD f.At.toNat aQ=dV dd f.At from rfl];cases h2:(dV dd f.At).Reached with
 |false=>exact aU.no (λh=>by have:=h.re;simp_all) dz
 |true=>
 let ⟨lo,B,C⟩:=b.lo u.1 e h2
 have E:=lo.s;have d:∀(a m:Int),m=(dV dd f.At).Stack-a->aU (λn=>ah (F118 n (⟨c,dd⟩,w,f.Env,(dV dd f.At).Env,())) λx=>ai x.1.1 (ai (aC m 0) (Z (X () (J,()))) (ah (F118 n (⟨c,dd⟩,w,f.Stack,m,())) λj=>ai j.1.1 (Z (N (aF .i64 (i:Int) 1,()))) (Z (X () (J,()))))) (Z (X () (J,()))))
   (dm c dd w.aP.length a f) (N (((i+1:Nat):Int),()):LO (Int×U) (Bool×U) U Any) (X () (J,())):=by
  intro a m v;refine aU.ifP (Rr b.fl b.wl s) (λo=>?_) (λo=>aU.no (λh=>o ⟨h.el,h.env⟩) dz);refine aU.ai (λy=>aU.no (λh=>by have:=h.sl;have:=AY y;omega) dz) (λy=>?_);refine aU.ifP (Rr b.fl b.wl t) (λp=>aU.yes ⟨u.1,e,h2,o.1,o.2,by rw[p.1,v],p.2⟩ (bK λn=>?_)) (λp=>aU.no (λh=>p ⟨by rw[h.sl,v],h.stack⟩) dz);simp(disch:=omega) [bQ,gj,gq]
 have g:bF .i64 (dV dd f.At).Stack 1=(dV dd f.At).Stack-1:=dc (by omega) (by omega);rw[g];cases last with
 |false=>rw[show od l J i=1 from bL (by simp_all)];exact d 1 _ rfl
 |true=>
  by_cases r:i+1=l.length
  .rw[show od l W i=0 from bw ⟨rfl,r⟩];rw[show aC (i:Int) ((l.length:Int)-1)=J from aiN (by omega)];exact d 0 _ (by omega)
  .rw[show od l W i=1 from bL (by omega)];rw[show aC (i:Int) ((l.length:Int)-1)=W from abW (by omega)];exact d 1 _ rfl
end
end
section
section
variable {c:ax}{dd:List aq}{w:aj}{k:Nat}{s n fo:Int}{vs:List aA}{fs:List au}
def Pq(c:ax)(dd:L aq)(k:Nat)(last:Bool)(l:L au):Prop:=(1<=l.length∧l.length<=40)∧∀i,i<l.length->dm c dd k (od l last i) (l.getD i aS)
def Lr(h:Pq c dd k J fs):∀f∈fs,dm c dd k 1 f:=eV (d:=aS) λi a=>by
 have:=h.2 i a
 simp_all[od,bL]
theorem N2:fN c dd k ⟨5,s,vs,fs⟩↔s=0∧vs=[]∧Pq c dd k J fs∧(fs.getD 0 aS).ep=W:=by
 constructor
 .intro h;cases h with
  |Ci a b d=>
   rename_i f l;refine⟨rfl,rfl,⟨⟨by simp,by grind⟩,λi g=>?_⟩,d⟩;rw[show od (f::l) J i=1 from bL (by simp_all)]
   grind
 .rintro ⟨rfl,rfl,h,e⟩
  have h1:=h.1;have h2:=Lr h
  match fs,h1,h2,e with
  |f::l,h1,h2,e=>exact .Ci (by grind) h2 e
def Oi:fN c dd k ⟨6,0,vs,fs⟩↔vs=[]∧Pq c dd k W fs:=by
 constructor
 .intro h;generalize m:(0:Int)=s at h;cases h with
  |sB a b d=>
   rename_i l f;refine⟨rfl,⟨by simp,by simp only[mG,rH];omega⟩,λi g=>?_⟩;simp only[mG,rH]at g;by_cases j:i=l.length
   .subst j;rw[show od (l++[f]) W l.length=0 from bw ⟨rfl,by simp⟩,show(l++[f]).getD l.length aS=f by simp[vR]];exact d
   .rw[show od (l++[f]) W i=1 from bL (by rintro⟨_,h⟩;simp at h;omega),show(l++[f]).getD i aS=l.getD i aS by simp[vR,Xh (show i<l.length by omega)]];exact b _ (bT aS (by omega))
  |done=>cases m
  |dead h=>omega
 .rintro ⟨rfl,h1,h2⟩
  have e:fs≠[]:=by rintro rfl;simp at h1
  rw[<-List.dropLast_concat_getLast e]at h1 h2 ⊢;generalize fs.dropLast=l at *
  generalize fs.getLast e=f at *
  simp only[mG,rH]at h1 h2;refine .sB (by omega) (eV (d:=aS) λi g=>?_) ?_
  .have:=h2 i (by omega);rw[show od (l++[f]) W i=1 from bL (by rintro⟨_,h⟩;simp at h;omega),show(l++[f]).getD i aS=l.getD i aS by simp[vR,Xh g]]at this;exact this
  .have:=h2 l.length (by omega);rw[show od (l++[f]) W l.length=0 from bw ⟨rfl,by simp⟩,show(l++[f]).getD l.length aS=f by simp[vR]]at this;exact this
theorem OK:fN c dd k ⟨6,1,vs,fs⟩↔fs=[]∧(vs.length:Int)=1∧∀v∈vs,cH c k v:=by
 constructor
 .intro h;generalize a:(1:Int)=s at h;cases h with
  |sB=>cases a
  |done h=>simp_all|dead h=>omega
 .rintro ⟨rfl,b,d⟩
  match vs,b with
  |[v],_=>exact .done (d v (by simp))
  |[],h=>simp at h|_::_::_,h=>grind
theorem OM(b:s≠0)(h1:s≠1):fN c dd k ⟨6,s,vs,fs⟩↔(2<=s∧s<=4)∧fs=[]∧vs=[]:=by
 constructor
 .intro h;cases h with|sB=>omega|done=>omega|dead h=>grind
 .rintro ⟨a,rfl,rfl⟩
  exact .dead (by omega)
def ON:fN c dd k ⟨1,n,vs,fs⟩↔fs=[]∧(0<=n∧n<c.Cons.length)∧(vs.length:Int)=lK c n∧∀v∈vs,cH c k v:=by
 constructor
 .intro h;cases h with|data a b e f=>simp_all
 .rintro ⟨rfl,⟨a,b⟩,e,f⟩
  exact .data a b e f
def Ok:fN c dd k ⟨2,n,vs,fs⟩↔fs=[]∧pV c dd n∧(vs.length:Int)=(dV dd n).Env-1∧∀v∈vs,cH c k v:=by
 constructor
 .intro h;cases h with|func a e f=>simp_all
 .rintro ⟨rfl,a,e,f⟩
  exact .func a e f
theorem OS:fN c dd k ⟨3,n,vs,fs⟩↔fs=[]∧n=0∧(vs.length:Int)=1∧∀v∈vs,cH c k v:=by
 constructor
 .intro h;cases h with|cell h=>simp_all
 .rintro ⟨rfl,rfl,b,d⟩
  match vs,b with
  |[v],_=>exact .cell (d v (by simp))
  |[],h=>simp at h|_::_::_,h=>grind
theorem OR:fN c dd k ⟨4,n,vs,fs⟩↔fs=[]∧n=0∧(vs.length:Int)<=4∧∀v∈vs,cH c k v:=by
 constructor
 .intro h;cases h with|chan a b=>grind
 .rintro ⟨rfl,rfl,b,d⟩
  exact .chan (by omega) d
theorem XX(h5:fo≠5)(h6:fo≠6)(h:fN c dd k ⟨fo,n,vs,fs⟩):fs=[]∧(fo=1∨fo=2∨fo=3∨fo=4):=by cases h with|data=>simp_all|func=>simp_all|cell=>simp_all|chan=>simp_all|Ci=>omega|sB=>omega|done=>omega|dead=>omega
theorem fN.um{o:bI}(h:fN c dd k o):∀v∈o.g9,cH c k v:=by cases h with|data _ _ _ h=>exact h|func _ _ h=>exact h|cell h=>simp_all|chan _ h=>exact h|Ci=>simp_all|sB=>simp_all|done h=>simp_all|dead=>simp_all
theorem arD(b:Bd c dd w){x:Int}:eu (λn=>F119 n (⟨c,dd⟩,x,())) (pV c dd x):=by
 have g:=b.nl;have k:=b.dl;unfold F119;refine aU.loop c.dG.length (λi=>((i:Int),())) (λi=>¬((aW c (i:Int)).Op=6∧(dV dd (i:Int)).Reached=W∧(aW c (i:Int)).A=x)) (λ_=>.ret () (W,())) (λ_ _ h=>by cases h) (λi a _=>?_) (λn=>by simp(disch:=omega)only[bu]) (λh=>aU.no (λ⟨i,d,h1,h2⟩=>?_) dz) (λi a h=>aU.yes ⟨(i:Int),by omega,by omega,Qx.1 h⟩ dz)
 .have e:c.dG.getD i bM=aW c (i:Int):=rfl;have f:dd.getD i aQ=dV dd (i:Int):=rfl;simp(disch:=omega)only[bu,e,f];cases h1:aa (aW c (i:Int)).Op 6 with
  |false=>exact aU.yes (λh=>by rw[Lw h.1]at h1;cases h1) (bK λn=>by simp(disch:=omega)only[bu,bQ,gj,gq])
  |true=>
  cases h2:(dV dd (i:Int)).Reached with
  |false=>exact aU.yes (λh=>by cases h.2.1) (bK λn=>by simp(disch:=omega)only[bu,bQ,gj,gq])
  |true=>
  cases h3:aa (aW c (i:Int)).A x with|false=>exact aU.yes (λh=>by rw[Lw h.2.2]at h3;cases h3) (bK λn=>by simp(disch:=omega)only[bu,bQ,gj,gq])|true=>exact aU.no (λh=>h ⟨mB.1 h1,rfl,mB.1 h3⟩) dz
 .obtain ⟨j,rfl⟩:∃j:Nat,i=j:=⟨_,(BX d).symm⟩
  grind
theorem JW(b:Bd c dd w){x:Int}(h:pV c dd x):0<=x∧x<c.dG.length∧1<=(dV dd x).Env∧(dV dd x).Env<=31:=by
 obtain⟨i,a,h1,h2,h3,h4⟩:=h;obtain⟨lo,d,e⟩:=b.lo a h1 h3;have:=b.ok.dep.step i a h1 h3 (x,bV 0 ((dV dd i).Env+1)) (by simp[dM,h2,h4]);obtain⟨f,g,j⟩:=this;have k:=lo.e
 grind[bV]
structure SmO(o:bI):Prop where
 vals:o.g9.length<=1000
 frs:SmF o.Frames
theorem eN{α:Type}{l:L α}:aa (l.length:Int) 0=W↔l=[]:=by grind[mB,List.eq_nil_of_length_eq_zero]
def e65(b:Bd c dd w){o:bI}(sm:SmO o):eu (λn=>F65 n (⟨c,dd⟩,w,o,())) (fN c dd w.aP.length o):=by
 have i:=b.cl;have j:=b.nl;have k:=b.dl;obtain⟨fo,s,vs,fs⟩:=o;obtain⟨e,f⟩:=sm;simp only at e f;have a:∀{P:Prop},¬P->eu (λn=>rA n) P:=λh=>aU.no h dz;unfold F65 aas;by_cases h5:fo=5
 .subst h5;refine aU.iff N2.symm ?_;simp only[bu];refine aU.ai (λh1=>?_) (λh1=>a λh=>zF h1 h.1);refine aU.ai (λh2=>?_) (λh2=>a λh=>by rw[eN.2 h.2.1]at h2;cases h2);refine aU.ifP (ak2 b f) (λh3=>?_) (λh3=>a λh=>h3 h.2.2.1);have:=h3.1;refine aU.aT (by simp[aN];omega) (eu.of_eq (λn=>rfl) ?_);exact⟨λh=>⟨mB.1 h1,eN.1 h2,h3,h⟩,λh=>h.2.2.2⟩
 by_cases h6:fo=6
 .subst h6;simp(disch:=omega)only[bu];by_cases g:s=0
  .subst g;refine aU.iff Oi.symm ?_;simp only[bu];refine aU.ai (λh2=>?_) (λh2=>a λh=>by rw[eN.2 h.1]at h2;cases h2);exact aU.iff ⟨λh=>⟨eN.1 h2,h⟩,λh=>h.2⟩ (eu.tail (ak2 b f))
  by_cases h1:s=1
  .subst h1;refine aU.iff OK.symm ?_;simp(disch:=omega)only[bu];refine aU.ai (λh2=>?_) (λh2=>a λh=>by rw[eN.2 h.1]at h2;cases h2);exact aU.iff ⟨λh=>⟨eN.1 h2,h⟩,λh=>h.2⟩ (eu.tail (Rr b.fl b.wl e))
  refine aU.iff (OM g h1).symm ?_;simp(disch:=omega)only[bu,e63];refine aU.ai (λh2=>?_) (λh2=>a λh=>by rw[gP.2 h.1]at h2;cases h2);refine aU.ai (λh3=>?_) (λh3=>a λh=>by rw[eN.2 h.2.1]at h3;cases h3);exact eu.of_eq (λn=>rfl) (eN.trans ⟨λh=>⟨gP.1 h2,eN.1 h3,h⟩,λh=>h.2.2⟩)
 simp(disch:=omega)only[bu];by_cases d:fs=[];rotate_left
 .have:¬fs.length=0:=λh=>d (Eg h);simp(disch:=omega)only[bu];exact a λh=>d (XX h5 h6 h).1
 subst d;simp(disch:=omega)only[bu,List.length_nil,Int.natCast_zero];by_cases h1:fo=1
 .subst h1;refine aU.iff ON.symm ?_;simp(disch:=omega)only[bu,e63,dc];refine aU.ai (λh1=>?_) (λh1=>a λh=>by rw[gP.2 ⟨h.2.1.1,by omega⟩]at h1;cases h1);have l:=gP.1 h1;refine aU.aT (by simp[aN];omega) ?_;exact aU.iff ⟨λh=>⟨trivial,by omega,h⟩,λh=>h.2.2⟩ (eu.tail (Rr b.fl b.wl e))
 by_cases h2:fo=2
 .subst h2;refine aU.iff Ok.symm ?_;simp(disch:=omega)only[bu];refine aU.ifP (arD b) (λh1=>?_) (λh1=>a λh=>h1 h.2.1);obtain⟨m,p,q,r⟩:=JW b h1;refine aU.aT (by simp[aN];omega) ?_;refine aU.iff ⟨λh=>⟨trivial,h1,h⟩,λh=>h.2.2⟩ (eu.tail (aU.congr (λn=>?_) (Rr (dd:=dd) b.fl b.wl e)));rw[show dd.getD s.toNat aQ=dV dd s from rfl,dc (by omega) (by omega)]
 by_cases h3:fo=3
 .subst h3;refine aU.iff OS.symm ?_;simp(disch:=omega)only[bu];refine aU.ai (λh1=>?_) (λh1=>a λh=>zF h1 h.2.1);exact aU.iff ⟨λh=>⟨trivial,mB.1 h1,h⟩,λh=>h.2.2⟩ (eu.tail (Rr b.fl b.wl e))
 by_cases h4:fo=4
 .subst h4;refine aU.iff OR.symm ?_;simp(disch:=omega)only[bu];refine aU.ai (λh1=>?_) (λh1=>a λh=>zF h1 h.2.1);refine aU.ai (λh2=>?_) (λh2=>a λh=>absurd h.2.2.1 (by have:=A0 h2;omega));exact aU.iff ⟨λh=>⟨trivial,mB.1 h1,AZ h2,h.2⟩,λh=>⟨rfl,h.2.2.2⟩⟩ (eu.tail (Rr b.fl b.wl e))
 simp(disch:=omega)only[bu];exact a λh=>by have:=(XX h5 h6 h).2;omega
end
end
section
theorem EF:∀{T S:L Int},T.Nodup->(∀x∈T,x∈S)->T.length<=S.length
 |[],_,_,_=>AH _|t::T,S,a,h=>by
  have a:=Nd.1 a;have h1:=EF (S:=S.erase t) a.2 (λx b=>(List.mem_erase_of_ne (λe=>a.1 (by simp_all))).2 (h x (g7 _ b)))
  grind
theorem NQ{l:L Int}:l.Nodup↔∀i,i<l.length->(l.take i).contains (l.getD i 0)=J:=by
 rw[List.Nodup,QB];constructor
 .grind[List.contains_iff_mem,List.getElem_of_mem,List.length_take,List.getElem?_eq_getElem,absurd]
 .intro h i j c a b e;have:=h j a;rw[vR,iR a,Qz,<-e]at this;have d:l[i]∈l.take j:=List.mem_take_iff_getElem.2 ⟨i,by omega,rfl⟩
  simp_all
section
variable {w:aj}
structure Ew(w:aj):Prop where
 En:w.bg.Nodup
 task:∀t∈w.bg,0<=t∧t<w.aP.length∧(cO w t).Form=6
 all:∀i:Nat,i<w.aP.length->(cO w i).Form=6->(i:Int)∈w.bg
def BQ(w:aj):L Int:=((List.range w.aP.length).filter λi:Nat=>aa (cO w i).Form 6).map λi:Nat=>(i:Int)
theorem qM{x:Int}:x∈BQ w↔0<=x∧x<w.aP.length∧(cO w x).Form=6:=by
 unfold BQ;simp only[v9,List.mem_filter,List.mem_range,mB];constructor
 .grind
 .rintro ⟨h1,h2,h3⟩
  obtain⟨i,rfl⟩:∃i:Nat,x=i:=⟨_,(BX h1).symm⟩
  grind
theorem Fe:(BQ w).Nodup:=by
 grind[BQ,List.nodup_range]
theorem WU:(BQ w).length=w.aP.countP λo=>aa o.Form 6:=by
 unfold BQ;rw[QA,<-List.countP_eq_length_filter];have e:w.aP=(List.range w.aP.length).map λi:Nat=>cO w (i:Int):=by
  apply List.ext_getElem
  .simp
  grind[h1,h2,cO,List.getElem?_eq_getElem]
 conv=>rhs;rw[e,List.countP_map]
 rfl
theorem Ew.len(h:Ew w):w.bg.length=(BQ w).length:=Nat.le_antisymm (EF h.En λx a=>qM.2 (h.task x a)) (EF Fe λx a=>by
 obtain⟨h1,h2,h3⟩:=qM.1 a;obtain⟨i,rfl⟩:∃i:Nat,x=i:=⟨_,(BX h1).symm⟩;exact h.all i (by omega) h3)
theorem Ew.afx(h1:w.bg.Nodup)(h2:∀t∈w.bg,0<=t∧t<w.aP.length∧(cO w t).Form=6)(h3:w.bg.length=(BQ w).length):Ew w:=by
 refine⟨h1,h2,λi c d=>Xg λb=>?_⟩;have:=EF (T:=(i:Int)::w.bg) (S:=BQ w) (Nd.2 ⟨b,h1⟩) (λx a=>by
  obtain rfl|a:=fS.1 a
  .grind[qM]
  .exact qM.2 (h2 x a))
 grind
theorem Ew.tl(h:Ew w):w.bg.length<=w.aP.length:=by
 rw[h.len]
 grind[BQ,List.length_map,Nat.le_trans,List.length_filter_le]
def WQ(w:aj)(i:Nat):Bool:=JB (w.bg.getD i 0) 0 (w.aP.length-1)&&(aa (cO w (w.bg.getD i 0)).Form 6&&!(w.bg.take i).contains (w.bg.getD i 0))
theorem Al:(∀i,i<w.bg.length->WQ w i=W)↔w.bg.Nodup∧∀t∈w.bg,0<=t∧t<w.aP.length∧(cO w t).Form=6:=by
 rw[NQ];unfold WQ;simp only[eZ,gP,mB,Nf];constructor
 .intro h;exact⟨λi a=>(h i a).2.2,eV (d:=0) λi a=>⟨(h i a).1.1,by grind,(h i a).2.1⟩⟩
 grind
def arE{l:L Int}{x:Int}(hl:l.length<=1000):Ev (λn=>F116 n (l,x,())) ((l.contains x,()),()):=by
 unfold F116;refine Ev.all (l:=l) 0 (λa=>!(aa a x)) (λ_=>.ret () (W,())) (λ_ _ h=>by cases h) (λi d=>bK λn=>?_) (λn=>by simp(disch:=omega)only[bu]) (λb=>?_) (λi d b=>?_)
 .simp (disch:=omega)only[bu];cases aa (l.getD i 0) x<;>simp(disch:=omega)only[bu,bQ,gj,gq,KH,Nc]
 .rw[show l.contains x=J from ?_]
  .exact dz
  .cases c:l.contains x with|false=>rfl|true=>have:=kA.1 b x (abu.1 c);rw[Lw rfl]at this;cases this
 .rw[show l.contains x=W from ?_]
  .exact dz
  .rw[List.all_eq_false]at b;obtain⟨a,e,h⟩:=b;rw[abu];have:aa a x=W:=by cases c:aa a x with|true=>rfl|false=>rw[c]at h;exact absurd rfl h
   rw[<-mB.1 this];exact e
theorem e64(q:w.aP.length<=1000)(r:w.bg.length<=1000):∃b,Ev (λn=>F64 n (w,())) ((b,()),())∧(b=W↔Ew w):=by
 have a:∀i,i<w.aP.length->(w.aP.take (i+1)).countP (λo=>aa o.Form 6)=(w.aP.take i).countP (λo=>aa o.Form 6)+(bif aa (w.aP.getD i bG).Form 6 then 1 else 0):=by intro i d;rw[ad3 d,List.countP_append,List.countP_singleton];rw[vR,iR d,Qz,Bool.cond_eq_ite]
 have run:=lE (F:=λn(c:Int×Int×U)=>ai (aC c.2.1 (av w.aP)) (aT (aN c.2.1 w.aP) (ai (aa (bp w.aP (az c.2.1) bG).Form 6) (Z (N (R:=Bool×U) (B:=U) (P:=Any) (aF .i64 c.1 1,aF .i64 c.2.1 1,()))) (Z (N (c.1,aF .i64 c.2.1 1,()))))) (Z (H 0 c)))
  w.aP.length (λi=>((((w.aP.take i).countP λo=>aa o.Form 6:Nat):Int),(i:Int),())) 0 (λi d=>bK λn=>by
   have h1:=List.countP_le_length (p:=λo:bI=>aa o.Form 6) (l:=w.aP.take i);rw[KJ]at h1;simp only[a i d];cases m:aa (w.aP.getD i bG).Form 6<;>simp(disch:=omega)only[bu,m,bQ,gj,gq,Int.natCast_zero,FK,Nat.add_zero]) (bK λn=>by simp(disch:=omega)only[bu])
 simp only[List.take_zero,List.countP_nil,Qw,<-WU]at run;by_cases f:w.bg.length=(BQ w).length
 .have g:∀{b:Bool},(b=W↔∀i,i<w.bg.length->WQ w i=W)->(b=W↔Ew w):=λ{b}h=>h.trans ⟨λh=>Ew.afx (Al.1 h).1 (Al.1 h).2 f,λh=>Al.2 ⟨h.En,h.task⟩⟩;have step:∀b:Bool,((∀i,i<w.bg.length->WQ w i=W)->b=W)->((∃i,i<w.bg.length∧WQ w i=J)->b=J)->Ev (λn=>F64 n (w,())) ((b,()),()):=by
   intro b j k;unfold F64;refine Ev.br run (λn c=>_) _ (Ev.r5 (λn=>lS ..) ?_);rw[<-f];simp only[bu];refine Ev.allI w.bg.length (λi=>((i:Int),())) (WQ w) (λ_=>.ret () (J,())) (λ_ _ h=>by cases h) (λi d _=>?_) (λn=>by simp(disch:=omega)only[bu]) (λe=>?_) (λi d e=>?_)
   .unfold WQ Pw;simp(disch:=omega)only[bu,e63,dc];cases h1:JB (w.bg.getD i 0) 0 ((w.aP.length:Int)-1)with
    |false=>simp_all[bu,pH,Ev.pure]|true=>
     have s:=gP.1 h1;simp(disch:=omega)only[bu,qC];rw[show w.aP.getD (w.bg.getD i 0).toNat bG=cO w (w.bg.getD i 0)from rfl];cases aa (cO w (w.bg.getD i 0)).Form 6 with|false=>simp_all[bu,pH,Ev.pure]|true=>simp only[bu,qC,EG];refine Ev.ah (arE (by grind)) (bK λn=>?_);cases(w.bg.take i).contains (w.bg.getD i 0)<;>simp(disch:=omega)only[bu,bQ,gj,gq,KH,Nc]
   .rw[j e];exact dz
   .rw[k ⟨i,d,e⟩];exact dz
  by_cases e:∀i,i<w.bg.length->WQ w i=W
  .simp_all
  .exact ⟨J,step J (λh=>absurd h e) (λ_=>rfl),g ⟨(λh=>by cases h),λh=>absurd h e⟩⟩
 .unfold F64;refine⟨J,Ev.br run (λn c=>_) _ (bK λn=>?_),(λh=>by cases h),λh=>absurd h.len f⟩;rw[lS];simp(disch:=omega)only[bu]
end
end
section
section
variable {w:aj}{c:ax}{dd:List aq}{mm:List (Int×Bool)}
abbrev WA(x:Int)(l:L (Int×Bool)):Bool:=ET (A:=sg.A) (Ty.int .i64) J x l
abbrev Q1(x:Int)(l:L (Int×Bool)):L (Int×Bool):=iX (A:=sg.A) (Ty.int .i64) x W l
abbrev ak4(x:Int)(l:L (Int×Bool)):L (Int×Bool):=LA (A:=sg.A) (Ty.int .i64) x l
def Ye(x k:Int):∀l:L (Int×Bool),WA x (Q1 k l)=(aa x k||WA x l)
 |[]=>by show(bif aa x k then W else J)=(aa x k||J);cases aa x k<;>rfl
 |q::l=>by
  have a:=Ye x k l;show WA x (bif aa k q.1 then(k,W)::l else q::Q1 k l)=(aa x k||(bif aa x q.1 then q.2 else WA x l));cases h1:aa k q.1 with
  |true=>have h1:=mB.1 h1;show(bif aa x k then W else WA x l)=_;rw[<-h1];cases aa x k<;>rfl
  |false=>
   show(bif aa x q.1 then q.2 else WA x (Q1 k l))=_;rw[a];cases h2:aa x q.1 with|false=>rfl|true=>rw[mB.1 h2,show aa q.1 k=J from vW λe=>by rw[e,Lw rfl]at h1;cases h1];rfl
def tg(l:L Int):L (Int×Bool):=l.map λx=>(x,W)
def aeb(x:Int):∀l,WA x (tg l)=l.contains x
 |[]=>rfl|a::l=>by show(bif aa x a then W else WA x (tg l))=_;rw[aeb x l,List.contains_cons];rfl
def Yu{x:Int}:∀{l:L Int},x∉l->Q1 x (tg l)=tg (l++[x])
 |[],_=>rfl|a::l,h=>by have h1:x≠a:=λe=>h (by simp_all);show(bif aa x a then(x,W)::tg l else(a,W)::Q1 x (tg l))=_;rw[vW h1,jo,Yu λb=>h (g7 _ b)];rfl
theorem ZA{x:Int}:∀{l:L Int},ak4 x (tg l)=tg (l.erase x)
 |[]=>rfl|a::l=>by
  show(bif aa x a then tg l else(a,W)::ak4 x (tg l))=_;rw[ZA,List.erase_cons];by_cases h:x=a
  .rw[Lw h,bw (by simp[h])];rfl
  .rw[vW h,bL (by grind)];rfl
def An(w:aj)(i:Nat):L Int:=((List.range i).filter λi:Nat=>aa (cO w i).Form 6).map λi:Nat=>(i:Int)
def PU(i:Nat):An w (i+1)=bif aa (cO w (i:Int)).Form 6 then An w i++[(i:Int)]else An w i:=by unfold An;rw[List.range_succ,List.filter_append];cases h:aa (cO w (i:Int)).Form 6<;>simp[h]
theorem Ux{i:Nat}{x:Int}(h:x∈An w i):x<i:=by
 unfold An at h
 grind
def o3(w:aj):Nat->L Int
 |0=>BQ w|i+1=>(o3 w i).erase (w.bg.getD i 0)
def Dm:∀i,(o3 w i).Nodup
 |0=>Fe|i+1=>(Dm i).erase _
theorem xJ{x:Int}:∀i,i<=w.bg.length->(x∈o3 w i↔x∈BQ w∧x∉w.bg.take i)
 |0,_=>by simp[o3]
 |i+1,h=>by
  have a:=xJ (x:=x) i (by omega);show x∈(o3 w i).erase _↔_;rw[(Dm i).mem_erase_iff,a,ad3 (by omega),vR,iR (by omega),Qz]
  grind
theorem MJ{i:Nat}(h:i<w.bg.length):WQ w i=W↔w.bg.getD i 0∈o3 w i:=by
 rw[xJ i (by omega),qM];unfold WQ;simp only[eZ,gP,mB,Nf]
 grind
theorem arv(s:w.aP.length<=1000)(t:w.bg.length<=1000):eu (λn=>F167 n (⟨w,c,dd,mm⟩,())) (Ew w):=by
 refine aU.arO (Ev.iter (F:=λn c=>_) (lE w.aP.length (λi=>((i:Int),tg (An w i),())) 0 (λi f=>bK λn=>?_) (bK λn=>by simp(disch:=omega)only[bu]))) ?_
 .have k:bp w.aP (az (i:Int)) bG=cO w (i:Int):=rfl;rw[PU];simp only[k];cases h1:aa (cO w (i:Int)).Form 6 with
  |false=>simp(disch:=omega)only[bu,h1,bQ,gj,gq]|true=>
   have f:iX (A:=sg.A) (Ty.int .i64) (i:Int) W (tg (An w i))=tg (An w i++[(i:Int)]):=Yu λh=>by have:=Ux h;omega
   simp(disch:=omega)only[bu,h1,f,bQ,gj,gq]
 .refine aU.congr (λn=>lS ..) ?_;refine aU.loop w.bg.length (λi=>((i:Int),tg (o3 w i),())) (λi=>WQ w i=W) (λi=>.ret (tg (o3 w i),()) (J,())) (λ_ _ h=>by cases h) (λi f _=>?_) (λn=>by simp(disch:=omega)only[bu]) (λh=>?_) (λi f h=>aU.no (λg=>h (Al.2 ⟨g.En,g.task⟩ i f)) dz)
  .have l:ET (A:=sg.A) (Ty.int .i64) J (w.bg.getD i 0) (tg (o3 w i))=(o3 w i).contains (w.bg.getD i 0):=aeb _ _;have m:LA (A:=sg.A) (Ty.int .i64) (w.bg.getD i 0) (tg (o3 w i))=tg (o3 w (i+1)):=ZA;simp(disch:=omega)only[bu,l,m,bQ,gj,gq];cases h:(o3 w i).contains (w.bg.getD i 0)with|true=>exact aU.yes ((MJ f).2 (abu.1 h)) dz|false=>exact aU.no (λg=>by grind[List.contains_iff_mem,MJ]) dz
  .obtain ⟨o,p⟩:=Al.1 h;refine eu.of_eq (λn=>rfl) ?_;rw[mB];have e:av (tg (o3 w w.bg.length))=((o3 w w.bg.length).length:Int):=by unfold tg av;rw[QA]
   rw[e];constructor
   .intro j;refine⟨o,p,λi f q=>Xg λu=>?_⟩;have:=(xJ (w:=w) (x:=(i:Int)) w.bg.length (eM _)).2 ⟨qM.2 ⟨by omega,by omega,q⟩,by simp_all⟩
    simp_all
   .intro j;have:o3 w w.bg.length=[]:=by rw[List.eq_nil_iff_forall_not_mem];intro x r;have:=(xJ (w:=w) (x:=x) w.bg.length (eM _)).1 r;rw[Qw]at this;obtain⟨a,b,d⟩:=qM.1 this.1;obtain⟨i,rfl⟩:∃i:Nat,x=i:=⟨_,(BX a).symm⟩;exact this.2 (j.all i (by omega) d)
    rw[this];rfl
end
end
section
section
variable {c:ax}{dd:List aq}{w:aj}{mm:List (Int×Bool)}{k:Nat}{s n fo:Int}{vs:List aA}{fs:List au}
variable {b:Bool}{f:au}
def bnT(h:ak b=W):b=J:=by cases b<;>first|rfl|cases h
def bnF(h:ak b=J):b=W:=by cases b<;>first|rfl|cases h
def JA{α:Type}{l:L α}{i:Int}(a:0<=i)(h1:i<l.length):aN i l=W:=by simp[aN];omega
def TV{X B P α:Type}(i:Nat)(b:B)(f:Nat->X->O α)(u v:O α)(h:B->P->O α):bD (.ret b ((i:Int),())) f (λ_(q:Int×U)=>ai (ak (bn 0 q.1)) u v) h=v:=by rfl
theorem akY(b:Bd c dd w){f:au}(p:f.Env.length<=1000)(hs:f.Stack.length<=1000){a:Int}(hl:0<=a∧a<=1):eu (λn=>F296 n (⟨w,c,dd,mm⟩,f,a,())) (dm c dd w.aP.length a f):=by
 have g:=b.dl;have e:∀{P:Prop},¬P->eu (λn=>xm n) P:=λh=>aU.no h dz;unfold F296;refine aU.ai (λh=>e λd=>by have:=d.lo;have:=AY h;grind) (λh1=>?_);refine aU.ai (λh=>e λd=>by have:=d.hi;have:=AZ h;simp only[eO]at this;omega) (λh2=>?_);have h1:0<=f.At:=Cp h1;have h2:f.At<dd.length:=A0 h2;refine aU.aT (JA h1 h2) ?_;refine aU.ai (λh=>e λd=>by have:=d.re;rw[show(dV dd f.At).Reached=J from bnT h]at this;cases this) (λh3=>?_);have h3:(dV dd f.At).Reached=W:=bnF h3;obtain⟨lo,j,k⟩:=b.lo h1 (by omega) h3;have m:=lo.s;refine aU.aT (JA h1 h2) ?_;refine aU.ai (λh4=>?_) (λh=>e λd=>zF h d.el);refine aU.ai (λh5=>?_) (λh=>e λd=>zF h (d.sl.trans (dc (show -9223372036854775808<=(dV dd f.At).Stack-a by omega) (show(dV dd f.At).Stack-a<=9223372036854775807 by omega)).symm));have h4:(f.Env.length:Int)=(dV dd f.At).Env:=mB.1 h4;have h5:(f.Stack.length:Int)=(dV dd f.At).Stack-a:=(mB.1 h5).trans (dc (show -9223372036854775808<=(dV dd f.At).Stack-a by omega) (show(dV dd f.At).Stack-a<=9223372036854775807 by omega));refine aU.LN (l:=f.Env) cB (cH c w.aP.length) (λn v=>F245 n (⟨w,c,dd,mm⟩,v,())) (λx=>.ret () x) (λn c=>rfl) (by omega) zi (λv _=>eu.of_eq (λn=>agP n v) Ko) (λh6=>?_) (λh i=>aU.no (λd=>h d.env) (bK λn=>?_))
 .show eu (λn=>Ma n (⟨w,c,dd,mm⟩,f,a,())) _;unfold Ma;refine aU.LN (l:=f.Stack) cB (cH c w.aP.length) (λn v=>F245 n (⟨w,c,dd,mm⟩,v,())) (λx=>.ret () x) (λn c=>rfl) (by omega) zi (λv _=>eu.of_eq (λn=>agP n v) Ko) (λo=>aU.yes ⟨h1,by omega,h3,h4,h6,h5,o⟩ dz) (λh i=>aU.no (λd=>h d.stack) (bK λn=>?_));show Z ((ak (bn 0 (i:Int)),()),())=_;rw[aiJ]
 rfl
def ak0(b:Bd c dd w)(a:f.Env.length<=1000)(hs:f.Stack.length<=1000):eu (λn=>F247 n (⟨w,c,dd,mm⟩,f,())) (dm c dd w.aP.length 1 f):=by
 simp_all[F247,eu.tail,akY]
def arj(b:Bd c dd w)(a:f.Env.length<=1000)(hs:f.Stack.length<=1000):eu (λn=>F297 n (⟨w,c,dd,mm⟩,f,())) (dm c dd w.aP.length 0 f):=by
 simp_all[F297,eu.tail,akY]
def JH{α:Type}{l:L α}{k i:Nat}{d:α}(h:i<k):(l.take k).getD i d=l.getD i d:=by
 simp_all
def Ol:Pq c dd k W fs↔(1<=fs.length∧fs.length<=40)∧(∀f∈fs.take (fs.length-1),dm c dd k 1 f)∧dm c dd k 0 (fs.getD (fs.length-1) aS):=by
 constructor
 .intro h;have a:=h.1;refine⟨a,eV (d:=aS) λi e=>?_,?_⟩
  .rw[KJ]at e;have:=h.2 i (by omega);rw[show od fs W i=1 from bL (by rintro⟨_,h⟩;omega)]at this;rw[JH (by omega)];exact this
  .have:=h.2 (fs.length-1) (by omega);rw[show od fs W (fs.length-1)=0 from bw ⟨rfl,by omega⟩]at this;exact this
 .rintro ⟨a,h1,h2⟩
  refine⟨a,λi e=>?_⟩;by_cases b:i=fs.length-1
  .rw[b,show od fs W (fs.length-1)=0 from bw ⟨rfl,by omega⟩];exact h2
  .rw[show od fs W i=1 from bL (by rintro⟨_,h⟩;omega)];have:=h1 _ (bT aS (show i<(fs.take (fs.length-1)).length by rw[KJ];omega));rw[JH (by omega)]at this;exact this
def acX:Pq c dd k J fs↔(1<=fs.length∧fs.length<=40)∧∀f∈fs,dm c dd k 1 f:=by
 constructor
 .intro h;exact⟨h.1,Lr h⟩
 .rintro ⟨h1,h2⟩
  refine⟨h1,λi a=>?_⟩
  simp_all[od,bL,bT,aS]
def aro(b:Bd c dd w)(p:vs.length<=1000)(hf:SmF fs)(e:∀v∈vs,cH c w.aP.length v):eu (λn=>F248 n (⟨w,c,dd,mm⟩,⟨6,s,vs,fs⟩,())) (fN c dd w.aP.length ⟨6,s,vs,fs⟩):=by
 have q:=hf.len;have a:∀{P:Prop},¬P->eu (λn=>sP n) P:=λh=>aU.no h dz;unfold F248 Ss z6;simp only;by_cases g:s=0
 .subst g;refine aU.iff Oi.symm ?_;refine aU.ai (λ_=>?_) (λh=>absurd rfl (zF h));simp only[eO];refine aU.ai (λh1=>?_) (λh1=>a λh=>by rw[eN.2 h.1]at h1;cases h1);refine aU.ai (λh2=>?_) (λh2=>a λh=>by have:=A0 h2;have:=h.2.1;omega);refine aU.ai (λh3=>?_) (λh3=>a λh=>by have:=A0 h3;have:=h.2.1;omega);have h2:=AZ h2;have h3:=AZ h3;have j:bF .i64 (fs.length:Int) 1=((fs.length-1:Nat):Int):=by rw[dc (by omega) (by omega)];omega
  have d:fV 0 ((fs.length-1:Nat):Int) (fs.length:Int)=W:=by simp[fV]<;>omega
  simp only[j,d,EG,we];refine aU.aT rfl ?_;refine aU.iff (P:=(∀f∈fs.take (fs.length-1),dm c dd w.aP.length 1 f)∧dm c dd w.aP.length 0 (fs.getD (fs.length-1) aS)) ⟨λh=>⟨eN.1 h1,Ol.2 ⟨⟨by omega,by omega⟩,h⟩⟩,λh=>(Ol.1 h.2).2⟩ ?_;refine aU.LN (l:=fs.take (fs.length-1)) aS (dm c dd w.aP.length 1) (λn f=>F247 n (⟨w,c,dd,mm⟩,f,())) (λx=>.ret () x) (λn c=>rfl) (by rw[KJ];omega) zi (λf k=>ak0 b (hf.env f (UZ k)) (hf.stack f (UZ k))) (λh4=>?_) (λh i=>aU.congr (λn=>TV i () _ _ _ _) (a λo=>h o.1));refine aU.iff (P:=dm c dd w.aP.length 0 (fs.getD (fs.length-1) aS)) ⟨λh=>⟨h4,h⟩,λh=>h.2⟩ ?_;have m:fs.length-1<fs.length:=by omega
  refine aU.aT (JA (by omega) (by omega)) ?_;exact eu.tail (arj b (hf.env _ (bT aS m)) (hf.stack _ (bT aS m)))
 by_cases h1:s=1
 .subst h1;refine aU.iff OK.symm ?_;simp(disch:=omega)only[bu];refine aU.ai (λh2=>?_) (λh2=>a λh=>zF h2 h.2.1);exact eu.of_eq (λn=>rfl) (eN.trans ⟨λh=>⟨h,mB.1 h2,e⟩,λh=>h.1⟩)
 refine aU.iff (OM g h1).symm ?_;have key:2<=s∧s<=4->eu (λn=>ai (aa (av vs) 0) (Z ((aa (av fs) 0,()),())) (sP n)) ((2<=s∧s<=4)∧fs=[]∧vs=[]):=λj=>
  aU.ai (λh2=>eu.of_eq (λn=>rfl) (eN.trans ⟨λh=>⟨j,h,eN.1 h2⟩,λh=>h.2.1⟩)) (λh2=>a λh=>by rw[show aa (av vs) 0=W from eN.2 h.2.2]at h2;cases h2)
 simp only[vW g,vW h1,Ja];by_cases h2:s=2
 .subst h2;exact aU.congr (λn=>rfl) (key (by omega))
 by_cases h3:s=3
 .subst h3;exact aU.congr (λn=>rfl) (key (by omega))
 by_cases h4:s=4
 .subst h4;exact aU.congr (λn=>rfl) (key (by omega))
 simp only[vW h2,vW h3,vW h4,Ja];exact a λh=>by omega
theorem arw(b:Bd c dd w){o:bI}(sm:SmO o)(k:∀x,WA x mm=W↔pV c dd x):eu (λn=>F166 n (⟨w,c,dd,mm⟩,o,())) (fN c dd w.aP.length o):=by
 have y:=b.cl;have z:=b.nl;have A:=b.dl;have a:∀{P:Prop},¬P->eu (λn=>jc n) P:=λh=>aU.no h dz;obtain⟨fo,s,vs,fs⟩:=o;obtain⟨t,m⟩:=sm;simp only at t m;unfold F166;refine aU.LN (l:=vs) cB (cH c w.aP.length) (λn v=>F245 n (⟨w,c,dd,mm⟩,v,())) (λx=>.ret () x) (λn c=>rfl) (by omega) zi (λv _=>eu.of_eq (λn=>agP n v) Ko) (λg=>?_) (λh i=>aU.congr (G:=λn=>jc n) (λn=>arf i () _ _ _ _) (a λp=>h p.um));show eu (λn=>Mf n (⟨w,c,dd,mm⟩,⟨fo,s,vs,fs⟩,())) _;unfold Mf Su;simp only;by_cases h1:fo=1
 .subst h1;refine aU.iff ON.symm ?_;refine aU.ai (λ_=>?_) (λh=>absurd rfl (zF h));refine aU.ai (λe=>?_) (λe=>a λh=>by grind[aa,av,eN]);refine aU.ai (λd=>?_) (λd=>a λh=>by have:=h.2.1.1;have:=A0 d;omega);refine aU.ai (λj=>?_) (λj=>a λh=>by have:=h.2.1.2;have:=Cp j;simp only[eO]at this;omega);have d:=AZ d;have j:=AY j;simp only[eO]at j;refine aU.aT (JA d j) (eu.of_eq (λn=>rfl) ?_);rw[mB];exact⟨λh=>⟨eN.1 e,⟨d,j⟩,h,g⟩,λh=>h.2.2.1⟩
 by_cases h2:fo=2
 .subst h2;refine aU.iff Ok.symm ?_;refine aU.ai (λh=>absurd (mB.1 h) (by decide)) (λ_=>?_);refine aU.ai (λ_=>?_) (λh=>absurd rfl (zF h));refine aU.ai (λe=>?_) (λe=>a λh=>by grind[aa,av,eN]);refine aU.ai (λd=>?_) (λd=>a λh=>by grind);have d:pV c dd s:=(k s).1 d;obtain⟨B,E,F,I⟩:=JW b d;refine aU.aT (JA B (by omega)) (eu.of_eq (λn=>rfl) ?_);rw[mB,show bp dd (az s) aQ=dV dd s from rfl,dc (by omega) (by omega)];exact⟨λh=>⟨eN.1 e,d,h,g⟩,λh=>h.2.2.1⟩
 by_cases h3:fo=3
 .subst h3;refine aU.iff OS.symm ?_;refine aU.ai (λh=>absurd (mB.1 h) (by decide)) (λ_=>?_);refine aU.ai (λh=>absurd (mB.1 h) (by decide)) (λ_=>?_);refine aU.ai (λ_=>?_) (λh=>absurd rfl (zF h));refine aU.ai (λe=>?_) (λe=>a λh=>by grind[aa,av,eN]);refine aU.ai (λd=>?_) (λd=>a λh=>zF d h.2.1);exact eu.of_eq (λn=>rfl) (mB.trans ⟨λh=>⟨eN.1 e,mB.1 d,h,g⟩,λh=>h.2.2.1⟩)
 by_cases h4:fo=4
 .subst h4;refine aU.iff OR.symm ?_;refine aU.ai (λh=>absurd (mB.1 h) (by decide)) (λ_=>?_);refine aU.ai (λh=>absurd (mB.1 h) (by decide)) (λ_=>?_);refine aU.ai (λh=>absurd (mB.1 h) (by decide)) (λ_=>?_);refine aU.ai (λ_=>?_) (λh=>absurd rfl (zF h));refine aU.ai (λe=>?_) (λe=>a λh=>by grind[aa,av,eN]);refine aU.ai (λd=>?_) (λd=>a λh=>zF d h.2.1);refine eu.of_eq (λn=>rfl) ?_;exact⟨λh=>⟨eN.1 e,mB.1 d,AZ h,g⟩,λh=>aiS h.2.2.1⟩
 simp only[vW h1,vW h2,vW h3,vW h4,Ja];by_cases h5:fo=5
 .subst h5;refine aU.iff N2.symm ?_;refine aU.ai (λ_=>?_) (λh=>absurd rfl (zF h));refine aU.ai (λe=>?_) (λe=>a λh=>by have:=h.2.2.1.1.1;have:=A0 e;simp only[eO]at this;omega);refine aU.ai (λd=>?_) (λd=>a λh=>by have:=h.2.2.1.1.2;have:=A0 d;simp only[eO]at this;omega);refine aU.ai (λj=>?_) (λj=>a λh=>zF j h.1);refine aU.ai (λu=>?_) (λu=>a λh=>by grind[aa,av,eN]);have e:=AZ e;have d:=AZ d;simp only[eO]at e d;have q:1<=fs.length:=by omega
  have r:fs.length<=40:=by omega
  refine aU.LN (l:=fs) aS (dm c dd w.aP.length 1) (λn f=>F247 n (⟨w,c,dd,mm⟩,f,())) (λx=>.ret () x) (λn c=>rfl) (by omega) zi (λf k=>ak0 b (m.env f k) (m.stack f k)) (λC=>?_) (λh i=>aU.congr (λn=>TV i () _ _ _ _) (a λp=>h (Lr p.2.2.1)));refine aU.aT (JA (by omega) (by omega)) (eu.of_eq (λn=>rfl) ?_);exact⟨λh=>⟨mB.1 j,eN.1 u,acX.2 ⟨⟨q,r⟩,C⟩,h⟩,λh=>h.2.2.2⟩
 simp only[vW h5,Ja];by_cases h6:fo=6
 .subst h6;exact eu.tail (aro b t m g)
 simp only[vW h6,Ja]
 grind[XX]
end
end
section
section
variable {c:ax}{dd:List aq}{w:aj}{mm:List (Int×Bool)}
structure oQ(w:aj):Prop where
 afy:w.aP.length<=130
 tasks:w.bg.length<=130
 outs:w.mU.length<=110
 ins:w.dG.length<=60
 parts:∀o∈w.aP,o.g9.length<=40∧o.Frames.length<=50∧∀f∈o.Frames,f.Env.length<=40∧f.Stack.length<=70
theorem oQ.sm(h:oQ w){o:bI}(c:o∈w.aP):SmO o:=by obtain⟨a,b,d⟩:=h.parts o c;exact⟨by omega,⟨by omega,λf e=>by grind,λf e=>by grind⟩⟩
def e31(w:aj):eu (λn=>F31 n (w,())) (oQ w):=by
 refine aU.ai (λh=>aU.no (λa=>by have:=a.afy;have:=AY h;simp only[eO]at this;omega) (Ev.pure _)) (λh1=>?_);refine aU.ai (λh=>aU.no (λa=>by have:=a.tasks;have:=AY h;simp only[eO]at this;omega) (Ev.pure _)) (λh2=>?_);refine aU.ai (λh=>aU.no (λa=>by have:=a.outs;have:=AY h;simp only[eO]at this;omega) (Ev.pure _)) (λh3=>?_);refine aU.ai (λh=>aU.no (λa=>by have:=a.ins;have:=AY h;simp only[eO]at this;omega) (Ev.pure _)) (λh4=>?_);have h1:=Cp h1;have h2:=Cp h2;have h3:=Cp h3;have h4:=Cp h4;simp only[eO]at h1 h2 h3 h4;refine aU.all (l:=w.aP) bG (λo=>o.g9.length<=40∧o.Frames.length<=50∧∀f∈o.Frames,f.Env.length<=40∧f.Stack.length<=70) (λ_=>.ret () (J,())) (λ_ _ h=>by cases h) (λi k=>?_) (λn=>by simp(disch:=omega)only[bu])
  (λh=>aU.yes ⟨by omega,by omega,by omega,by omega,h⟩ dz) (λh i=>aU.no (λa=>h a.parts) dz)
 generalize g:w.aP.getD i bG=o;simp(disch:=omega)only[bu,g];refine aU.ai (λh=>aU.no (λa=>by have:=AY h;omega) (Ev.pure _)) (λb=>?_);refine aU.ai (λh=>aU.no (λa=>by have:=AY h;omega) (Ev.pure _)) (λc=>?_);have b:=Cp b;have c:=Cp c;refine aU.all (l:=o.Frames) aS (λf=>f.Env.length<=40∧f.Stack.length<=70) (λ_=>.ret () (J,())) (λ_ _ h=>by cases h) (λj m=>?_) (λn=>by simp(disch:=omega)only[bu])
  (λh=>aU.yes ⟨by omega,by omega,h⟩ (bK λn=>by simp(disch:=omega)only[bu,lS,bQ,gj,gq])) (λh j=>aU.no (λa=>h a.2.2) dz)
 simp(disch:=omega)only[bu];refine aU.ai (λh=>aU.no (λa=>by have:=AY h;omega) (Ev.pure _)) (λd=>?_);refine aU.ai (λh=>aU.no (λa=>by have:=AY h;omega) (Ev.pure _)) (λe=>?_);have d:=Cp d;have e:=Cp e;exact aU.yes ⟨by omega,by omega⟩ (bK λn=>by simp(disch:=omega)only[bu,bQ,gj,gq])
def e19(c:ax)(w:aj):∃b,Ev (λn=>F19 n (c,w,())) ((b,()),())∧(b=W->Small c∧oQ w):=by
 obtain⟨a,h1,e⟩:=e11 c;obtain⟨d,h2,f⟩:=(e31 w).get;refine⟨a&&d,?_,λh=>?_⟩
 .refine Ev.ah h1 ?_;cases a with
  |false=>exact dz|true=>exact Ev.ah h2 (Ev.pure _)
 simp_all
def Ug(o:ei):Prop:=0<=o.Port∧o.Port<=3∧j5 o.N=W
def aak(l:L Int):Prop:=l.length<=50∧∀i∈l,j5 i=W
theorem qR{a:Int}:j5 a=W↔-1000000000<=a∧a<=1000000000:=by unfold j5;simp
def e52(n:Nat)(a lo hi:Int):F52 n (a,lo,hi,())=Z ((JB a lo hi,()),()):=e63 n a lo hi
theorem e15{l:L Int}(hl:l.length<=1000):eu (λn=>F15 n (l,50,())) (aak l):=by
 by_cases h:l.length<=50
 .refine aU.iff (P:=∀i∈l,j5 i=W) ⟨λb=>⟨h,b⟩,λh=>h.2⟩ ?_;refine aU.all (l:=l) 0 (λi=>j5 i=W) (λ_=>.ret () (J,())) (λ_ _ h=>by cases h) (λi e=>?_) (λn=>by simp(disch:=omega)only[bu]) (λb=>aU.yes b (bK λn=>by simp(disch:=omega)only[bu,lS])) (λb i=>aU.no b dz);simp(disch:=omega)only[bu,e52];cases h1:JB (l.getD i 0) (-1000000000) 1000000000 with|true=>exact aU.yes (qR.2 (gP.1 h1)) (bK λn=>by simp(disch:=omega)only[bu,bQ,gj,gq])|false=>exact aU.no (λh=>by grind[gP,qR]) dz
 .refine aU.no (λb=>h b.1) ?_;rcases nD (F:=λn(c:Int×U)=>ai (aC c.1 (av l)) (ai (bn c.1 50) (aT (aN c.1 l) (ah (F52 n (bp l (az c.1) 0,(-1000000000),1000000000,())) λd=>ai (ak d.1.1) (Z (X (P:=Any) () (J,()))) (Z (N (aF .i64 c.1 1,()))))) (Z (H 0 c))) (Z (H 0 c)))
   51 (λi=>((i:Int),())) (λi=>JB (l.getD i 0) (-1000000000) 1000000000) (λ_=>.ret () (J,())) 0 (λ_ _ h=>by cases h) (λi e _=>bK λn=>by
    simp(disch:=omega)only[bu,e52];cases JB (l.getD i 0) (-1000000000) 1000000000<;>simp(disch:=omega)only[bu,bQ,gj,gq]) (λ_=>bK λn=>by
    simp(disch:=omega)only[bu];cases aC ((51:Nat):Int) (l.length:Int)<;>rfl)with⟨a,r⟩|⟨i,e,a,_,r⟩
  .exact Ev.br r (λn c=>_) _ (bK λn=>by
    show Z ((bn (l.length:Int) 50,()),())=_;rw[aiT (by omega)])
  .exact Ev.br r (λn c=>_) _ dz
def e45{l:L Int}(hl:l.length<=1000):eu (λn=>F45 n (l,())) (aak l):=by
 refine aU.ai (λh=>?_) (λh=>aU.no (λa=>by have:=a.1;have:=A0 h;simp only[eO]at this;omega) (Ev.pure _));have h:=AZ h;simp only[eO]at h;refine aU.iff (P:=∀i∈l,j5 i=W) ⟨λa=>⟨by omega,a⟩,λh=>h.2⟩ ?_;refine aU.all (l:=l) 0 (λi=>j5 i=W) (λi=>.ret () ((i:Int),())) (λ_ _ h=>by cases h) (λi b=>?_) (λn=>by simp(disch:=omega)only[bu]) (λa=>aU.yes a dz) (λa i=>aU.no a (bK λn=>by
  show Z ((ak (bn 0 (i:Int)),()),())=_;rw[aiJ]))
 simp(disch:=omega)only[bu];refine aU.ai (λh1=>aU.ai (λh2=>?_) (λh2=>?_)) (λh1=>aU.no (λa=>by have:=A0 h1;have:=qR.1 a;omega) (Ev.pure _))
 .exact aU.yes (qR.2 ⟨AZ h1,AZ h2⟩) (bK λn=>by simp(disch:=omega)only[bu,bQ,gj,gq])
 simp_all[aU.no,A0,qR,Ev.pure]
theorem arx(o:ei):eu (λn=>F164 n (o,())) (Ug o):=by refine aU.ai (λh1=>?_) (λh1=>aU.no (λh=>by have:=h.1;have:=A0 h1;grind) (Ev.pure _));refine aU.ai (λh2=>?_) (λh2=>aU.no (λh=>by have:=h.2.1;have:=Cp h2;grind) (Ev.pure _));have h1:=AZ h1;have h2:=AY h2;simp only at h1 h2;refine eu.of_eq (λn=>rgi o.N (-1000000000) 1000000000) ?_;exact⟨λh=>⟨h1,by omega,h⟩,λh=>h.2.2⟩
def Ue:jD c dd w↔w.aP.length<=120∧(∀o∈w.aP,fN c dd w.aP.length o)∧Ew w∧w.mU.length<=100∧(∀o∈w.mU,Ug o)∧aak w.dG∧(0<=w.Used∧w.Used<=1000000000):=by
 constructor
 .intro h;exact⟨h.len,h.obs,⟨h.En,h.task,h.all⟩,h.outs,h.out,⟨h.ins,h.inn⟩,h.used⟩
 .rintro ⟨a,b,d,e,f,g,u⟩
  exact⟨a,b,e,f,g.1,g.2,u,d.En,d.tl,d.task,d.all⟩
def e32(o:se c dd)(hs:Small c)(k:oQ w):eu (λn=>F32 n (⟨c,dd⟩,w,())) (jD c dd w):=by
 have t:=k.afy;have p:Bd c dd w:=⟨o,by have:=hs.cl;omega,by omega⟩;refine aU.iff Ue.symm ?_;have d:∀{P:Prop},¬P->eu (λn=>Kg n) P:=λh=>aU.no h dz;refine aU.ai (λh=>d λf=>by have:=AY h;simp only[eO]at this;omega) (λh1=>?_);refine aU.ai (λh=>d λf=>by have:=AY h;simp only[eO]at this;omega) (λh2=>?_);have h1:=Cp h1;have h2:=Cp h2;simp only[eO]at h1 h2;refine aU.ifN (e15 (l:=w.dG) (by have:=k.ins;omega)) (λh3=>?_) (λh3=>d λh=>h3 h.2.2.2.2.2.1);refine aU.ifN (P:=0<=w.Used∧w.Used<=1000000000) (eu.of_eq (λn=>e63 n _ _ _) gP) (λh4=>?_) (λh4=>d λh=>h4 h.2.2.2.2.2.2);refine aU.ifN (P:=Ew w) (by obtain⟨b,q,e⟩:=e64 (w:=w) (by omega) (by have:=k.tasks;omega);exact eu.mk q e) (λh5=>?_) (λh5=>d λh=>h5 h.2.2.1);refine aU.LN (l:=w.aP) bG (fN c dd w.aP.length) (λn a=>F65 n (⟨c,dd⟩,w,a,())) (λ_=>.ret () (J,())) (λn c=>rfl) (by omega) (λ_ _ h=>by cases h) (λa r=>e65 p (k.sm r)) (λh6=>?_) (λh i=>aU.no (λf=>h f.2.1) dz);refine aU.congr (λn=>lS ..) ?_;refine aU.all (l:=w.mU) ki Ug (λ_=>.ret () (J,())) (λ_ _ h=>by cases h) (λj u=>?_) (λn=>by simp(disch:=omega)only[bu]) (λs=>aU.yes ⟨by omega,h6,h5,by omega,s,h3,h4⟩ dz) (λh i=>aU.no (λf=>h f.2.2.2.2.1) dz);simp(disch:=omega)only[bu,e63]
 refine aU.ai (λg=>?_) (λg=>aU.no (λh=>by rw[gP.2 ⟨h.1,h.2.1⟩]at g;cases g) (Ev.pure _));refine aU.ai (λm=>?_) (λm=>aU.no (λh=>by rw[gP.2 (qR.1 h.2.2)]at m;cases m) (Ev.pure _));exact aU.yes ⟨(gP.1 g).1,(gP.1 g).2,qR.2 (gP.1 m)⟩ (bK λn=>by simp(disch:=omega)only[bu,bQ,gj,gq])
theorem arF(g:se c dd)(hs:Small c)(e:oQ w)(j:∀x,WA x mm=W↔pV c dd x):eu (λn=>F111 n (⟨w,c,dd,mm⟩,())) (jD c dd w):=by
 have m:=e.afy;have k:Bd c dd w:=⟨g,by have:=hs.cl;omega,by omega⟩;refine aU.iff Ue.symm ?_;have b:∀{P:Prop},¬P->eu (λn=>sR n) P:=λh=>aU.no h dz;refine aU.ai (λh1=>?_) (λh=>b λd=>by have:=A0 h;simp only[eO]at this;omega);simp only[eO]at h1;refine aU.LN (l:=w.aP) bG (fN c dd w.aP.length) (λn a=>F166 n (⟨w,c,dd,mm⟩,a,())) (λx=>.ret () x) (λn c=>rfl) (by omega) zi (λa f=>arw k (e.sm f) j) (λh2=>?_) (λh i=>aU.congr (λn=>TV i () _ _ _ _) (b λd=>h d.2.1));refine aU.ifP (arv (by omega) (by have:=e.tasks;omega)) (λh3=>?_) (λh3=>b λh=>h3 h.2.2.1);refine aU.ai (λh4=>?_) (λh=>b λd=>by have:=A0 h;simp only[eO]at this;omega);have h4:=AZ h4;simp only[eO]at h4;refine aU.LN (l:=w.mU) ki Ug (λn a=>F164 n (a,())) (λx=>.ret () x) (λn c=>rfl) (by omega) zi (λa f=>arx a) (λh5=>?_) (λh i=>aU.congr (λn=>TV i () _ _ _ _) (b λd=>h d.2.2.2.2.1));refine aU.ifP (e45 (l:=w.dG) (by have:=e.ins;omega)) (λh6=>?_) (λh6=>b λh=>h6 h.2.2.2.2.2.1);refine aU.ai (λo=>?_) (λh=>b λd=>by have:=A0 h;grind);refine eu.of_eq (λn=>rfl) ?_
 grind[AZ,bn]
end
end
section
section
variable {c:ax}{dd:List aq}{w:aj}
structure Rt(c:ax)(dd:List aq):Prop where
 cf:CF c
 dep:PD c dd
theorem Rt.ok(h:Rt c dd):se c dd:=h.cf.ok.pok h.dep
theorem Rt.uniq{D E:L aq}(h:Rt c D)(a:Rt c E):D=E:=h.dep.uniq a.dep h.cf.ok.oM
def arh(hs:Small c):(∃D,Rt c D∧Ev (λn=>F99 n (c,())) ((D,0,()),()))∨((¬∃D,Rt c D)∧∃e:Int,e≠0∧Ev (λn=>F99 n (c,())) (([],e,()),())):=by
 obtain⟨r,h1,h2,h3⟩:=arA hs;obtain rfl|rfl:=h2
 .have a:=h3.1 rfl;obtain⟨D,b,h⟩|⟨d,h⟩:=e99 a.ok h1
  .exact .inl ⟨D,⟨a,b⟩,h⟩
  .exact .inr ⟨λ⟨D,h⟩=>d ⟨D,h.dep⟩,7,by decide,h⟩
 .refine .inr ⟨(λ⟨D,h⟩=>by have:=h3.2 h.cf;cases this),2,by decide,?_⟩;exact Ev.ah h1 dz
def e14(hs:Small c):(∃D,Rt c D∧Ev (λn=>F14 n (c,())) ((⟨c,D⟩,W,()),()))∨((¬∃D,Rt c D)∧∃m,Ev (λn=>F14 n (c,())) ((m,J,()),())):=by
 obtain⟨a,b⟩|⟨a,b⟩:=e50 hs
 .obtain ⟨D,d,h⟩|⟨e,h⟩:=d51 a.ok
  .exact .inl ⟨D,⟨a,d⟩,Ev.ah b (Ev.ah h (Ev.pure _))⟩
  .exact .inr ⟨λ⟨D,h⟩=>e ⟨D,h.dep⟩,_,Ev.ah b (Ev.ah h (Ev.pure _))⟩
 .exact .inr ⟨λ⟨D,h⟩=>a h.cf,_,Ev.ah b (Ev.pure _)⟩
def LD(c:ax)(dd:L aq):Nat->L (Int×Bool)
 |0=>[]|i+1=>bif (dV dd (i:Int)).Reached&&aa (aW c (i:Int)).Op 6 then Q1 (aW c (i:Int)).A (LD c dd i)else LD c dd i
theorem ZG{x:Int}:∀i:Nat,WA x (LD c dd i)=W↔∃j:Nat,j<i∧(aW c (j:Int)).Op=6∧(dV dd (j:Int)).Reached=W∧(aW c (j:Int)).A=x
 |0=>⟨(λh=>by cases h),λ⟨j,h,_⟩=>by omega⟩
 |i+1=>by
  have a:=ZG (x:=x) i;unfold LD;cases h:(dV dd (i:Int)).Reached&&aa (aW c (i:Int)).Op 6 with
  |false=>
   grind[h1,h2,h3,h4,Lw]
  |true=>
   simp only[eZ,mB]at h;rw[gY,Ye,oG,a,mB]
   grind
abbrev Rz(c:ax)(dd:L aq):L (Int×Bool):=LD c dd c.dG.length
theorem agZ{x:Int}:WA x (Rz c dd)=W↔pV c dd x:=by
 rw[ZG];constructor
 .rintro ⟨j,h1,h2,h3,h4⟩
  exact⟨(j:Int),by omega,by omega,h2,h3,h4⟩
 .rintro ⟨i,a,h1,h2,h3,h4⟩
  obtain⟨j,rfl⟩:∃j:Nat,i=j:=⟨_,(BX a).symm⟩
  grind
def ZF{β R B P:Type}(hl:c.dG.length<=1500)(f:dd.length=c.dG.length){F:Nat->Int×L (Int×Bool)×U->O (LO (Int×L (Int×Bool)×U) R B P)}{g:Nat->LO (Int×L (Int×Bool)×U) R B P->O β}{r:β}
  (a:∀n d,F n d=ai (aC d.1 (av c.1)) (aT (aN d.1 dd) (ai (bp dd (az d.1) aQ).1 (aT (aN d.1 c.1) (ai (aa (bp c.1 (az d.1) bM).1 6) (aT (aN d.1 c.1) (Z (N (aF .i64 d.1 1,iX (A:=sg.A) (Ty.int .i64) (bp c.1 (az d.1) bM).2 W d.2.1,())))) (Z (N (aF .i64 d.1 1,d.2))))) (Z (N (aF .i64 d.1 1,d.2))))) (Z (H 0 d)))
  (h:Ev (λn=>g n (.out 0 ((c.dG.length:Int),Rz c dd,()))) r):Ev (λn=>ah (iter (F n) n (0,[],())) (g n)) r:=by
 refine Ev.br (lE c.dG.length (λi=>((i:Int),LD c dd i,())) 0 (λi j=>bK λn=>?_) (bK λn=>by simp_all[bu])) g _ h;have b:bp dd (az (i:Int)) aQ=dV dd (i:Int):=rfl;have e:bp c.1 (az (i:Int)) bM=aW c (i:Int):=rfl;rw[a];simp only[b,e];rw[show LD c dd (i+1)=bif (dV dd (i:Int)).Reached&&aa (aW c (i:Int)).Op 6 then Q1 (aW c (i:Int)).A (LD c dd i)else LD c dd i from rfl];cases h1:(dV dd (i:Int)).Reached<;>cases h2:aa (aW c (i:Int)).Op 6<;>simp(disch:=omega)only[bu,h1,h2,bQ,gj,gq,qC,pH]
def UI(hs:Small c){α:Type}{bad:Nat->O α}{rest:Nat->(L aq×Int×U)×U->Int×L (Int×Bool)×U->O α}{z:Nat->Bool×U->O α}{r:α}
  (h1:∀D,Rt c D->Ev (λn=>rest n ((D,0,()),()) ((c.dG.length:Int),Rz c D,())) r) (h2:(¬∃D,Rt c D)->Ev bad r) :
  Ev (λn=>ah (F99 n (c,())) λx=>ai (ak (aa x.1.2.1 0)) (bad n) (ah (iter (λd:Int×L (Int×Bool)×U=>ai (aC d.1 (av c.1)) (aT (aN d.1 x.1.1) (ai (bp x.1.1 (az d.1) aQ).1 (aT (aN d.1 c.1) (ai (aa (bp c.1 (az d.1) bM).1 6) (aT (aN d.1 c.1) (Z (N (R:=Bool×U) (B:=L (Int×Bool)×U) (P:=Any) (aF .i64 d.1 1,iX (A:=sg.A) (Ty.int .i64) (bp c.1 (az d.1) bM).2 W d.2.1,())))) (Z (N (aF .i64 d.1 1,d.2))))) (Z (N (aF .i64 d.1 1,d.2))))) (Z (H 0 d))) n (0,[],())) λd=>bD d (λ_ g=>rest n x g) (λ_ g=>z n g) λ_ _=>Y)) r:=by
 obtain⟨D,a,h⟩|⟨b,e,f,h⟩:=arh hs
 .refine Ev.ah h ?_;exact ZF a.ok.len.2 a.dep.len (λn d=>rfl) (h1 D a)
 .refine Ev.ah h (Ev.r5 (λn=>?_) (h2 b));rw[vW f];rfl
def Hz(hs:Small c)(f:oQ w){α:Type}{bad:Nat->O α}{rest:Nat->(L aq×Int×U)×U->Int×L (Int×Bool)×U->O α}{z:Nat->Bool×U->O α}{r:α}
  (h1:∀D,Rt c D->jD c D w->Ev (λn=>rest n ((D,0,()),()) ((c.dG.length:Int),Rz c D,())) r) (h2:(¬∃D,Rt c D∧jD c D w)->Ev bad r) :
  Ev (λn=>ah (F99 n (c,())) λx=>ai (ak (aa x.1.2.1 0)) (bad n) (ah (iter (λd:Int×L (Int×Bool)×U=>ai (aC d.1 (av c.1)) (aT (aN d.1 x.1.1) (ai (bp x.1.1 (az d.1) aQ).1 (aT (aN d.1 c.1) (ai (aa (bp c.1 (az d.1) bM).1 6) (aT (aN d.1 c.1) (Z (N (R:=Bool×U) (B:=L (Int×Bool)×U) (P:=Any) (aF .i64 d.1 1,iX (A:=sg.A) (Ty.int .i64) (bp c.1 (az d.1) bM).2 W d.2.1,())))) (Z (N (aF .i64 d.1 1,d.2))))) (Z (N (aF .i64 d.1 1,d.2))))) (Z (H 0 d))) n (0,[],())) λd=>bD d (λ_ g=>ah (F111 n (cL.mk w c x.1.1 g.2.1,())) λh=>ai (ak h.1.1) (bad n) (rest n x g)) (λ_ g=>z n g) λ_ _=>Y)) r:=by
 refine UI hs (rest:=λn x g=>ah (F111 n (cL.mk w c x.1.1 g.2.1,())) λh=>ai (ak h.1.1) (bad n) (rest n x g)) (λD e=>?_) (λh=>h2 λ⟨D,a,_⟩=>h ⟨D,a⟩);obtain⟨a,b⟩|⟨a,b⟩:=arF e.ok hs f (λx=>agZ)
 .exact Ev.ah b (h1 D e a)
 .exact Ev.ah b (h2 λ⟨E,i,j⟩=>a (e.uniq i▸j))
end
end
section
def Fz(p:ax)(at_:Int):Nat->aj->Nat->O (aj×Nat)
 |0,_,_=>Y|k+1,w,s=>match kN p w at_ with
  |some (a,Y)=>if 5000<s+1 then Y else Fz p at_ k a (s+1)|_=>Z (w,s)
def eG(p:ax):Nat->Nat->aj->Nat->O (aj×Nat)
 |0,_,w,s=>Z (w,s)|m+1,i,w,s=>match Fz p i 5002 w s with
  |none=>Y|some (a,b)=>eG p m (i+1) a b
section
variable {p:ax}{dd:List aq}{M:MP}{w:aj}{at_:Int}
theorem KD(g:se p dd):∀(k:Nat)(w:aj)(s:Nat)(w':aj)(s':Nat),jD p dd w->0<=at_->at_<w.bg.length->Fz p at_ k w s=Z (w',s')->jD p dd w'∧w'.bg=w.bg∧s<=s'∧(s'<=s∨s'<=5000)
 |0,w,s,w',s',i,f,h1,h=>by cases h
 |k+1,w,s,w',s',i,f,h1,h=>by
  unfold Fz at h;cases j:kN p w at_ with
  |none=>simp_all|some r=>
   obtain⟨l,e⟩:=r;rw[j]at h;cases e with
   |some e=>simp_all|none=>
    obtain⟨m,n,o⟩:=xG g i f h1 j;simp only at h;split at h
    .cases h
    .obtain ⟨a,b,c,d⟩:=KD g k l (s+1) w' s' m f (by grind) h
     grind
theorem Fu(e:se p dd):∀(m i:Nat)(w:aj)(s:Nat)(w':aj)(s':Nat),jD p dd w->i+m<=w.bg.length->eG p m i w s=Z (w',s')->jD p dd w'∧w'.bg=w.bg∧s<=s'∧(s'<=s∨s'<=5000)
 |0,i,w,s,w',s',f,k,h=>by cases h;simp_all
 |m+1,i,w,s,w',s',f,k,h=>by
  unfold eG at h;split at h
  .cases h
  .rename_i g j l;obtain⟨a,b,c,d⟩:=KD e _ w s g j f (by omega) (by omega) l;obtain⟨n,o,q,r⟩:=Fu e m (i+1) g j w' s' a (by rw[b];omega) h
   grind
def S6:O (aj×O aM)->Int
 |none=>2|some (_,Y)=>0|some (_,Z _)=>1
def T2{r:O (aj×O aM)}{w:aj}:Ev (λn=>F68 n (I5 p dd M w r).1) ((S6 r,()),()):=by
 match r with
 |none=>exact dz|some (_,Y)=>exact dz|some (_,Z _)=>exact dz
abbrev SX4:=Int×Int×MB×MP×U
theorem v7(u:se p dd){N0:Nat}(F:Nat->SX4->O (LO SX4 (Int×Bool×U) (MB×MP×U) Any))
  (j:∀n c,F n c=ai (aC c.2.1 (av c.2.2.1.1.2.1)) (ah (F67 n (c.2.2.1,c.2.2.2.1,c.2.1,())) λd=>ah (F68 n d.1) λe=>ai (ak (aa e.1.1 0)) (Z (N (c.1,aF .i64 c.2.1 1,c.2.2.1,d.2.2))) (ai (aC 5000 (aF .i64 c.1 1)) (Z (X (c.2.2.1,d.2.2) (0,J,()))) (Z (N (aF .i64 c.1 1,c.2.1,d.2))))) (Z (H 0 c))) :
  ∀(m k i:Nat)(w:aj)(s:Nat),jD p dd w->i+m=N0->N0=w.bg.length->s<=5001->5002<=k+s->1<=m->
  (∃w' s',(match Fz p (i:Int) k w s with|none=>Y|some (w1,s1)=>eG p (m-1) (i+1) w1 s1)=Z (w',s')∧gJ F ((s:Int),(i:Int),mb p dd w,M,()) (.out 0 ((s':Int),(N0:Int),mb p dd w',M,())))∨
  ((match Fz p (i:Int) k w s with|none=>Y|some (w1,s1)=>eG p (m-1) (i+1) w1 s1)=Y∧∃R,gJ F ((s:Int),(i:Int),mb p dd w,M,()) (.ret R (0,J,())))
 |0,_,_,_,_,_,_,_,_,_,h=>by omega
 |m+1,0,i,w,s,l,v,x,y,z,_=>by omega
 |m+1,k+1,i,w,s,l,v,x,y,z,_=>by
  have I:=l.tl;have A:=l.len;have q:=e67 (M:=M) (a:=(i:Int)) u l (by omega) (by omega);have t:=T2 (p:=p) (dd:=dd) (M:=M) (w:=w) (r:=kN p w (i:Int));have g:∀r,kN p w (i:Int)=r->ak (aa (S6 r) 0)=W->(I5 p dd M w r).2.2=(M,())->
    (∃w' s',eG p m (i+1) w s=Z (w',s')∧gJ F ((s:Int),(i:Int),mb p dd w,M,()) (.out 0 ((s':Int),(N0:Int),mb p dd w',M,())))∨
    (eG p m (i+1) w s=Y∧∃R,gJ F ((s:Int),(i:Int),mb p dd w,M,()) (.ret R (0,J,()))):=by
   intro r B h1 h2;rw[B]at q t;have o:Ev (λn=>F n ((s:Int),(i:Int),mb p dd w,M,())) (.next ((s:Int),((i+1:Nat):Int),mb p dd w,M,())):=by refine Ev.r5 (λn=>(j n _).trans (uq (show(i:Int)<(w.bg.length:Int)by omega) _ _)) ?_;refine Ev.ah q (Ev.ah t (bK λn=>?_));rw[h1,h2];simp(disch:=omega)only[bu,bQ,gj,gq]<;>rfl
   cases m with
   |zero=>refine .inl ⟨w,s,rfl,.next o (.out (bK λn=>?_))⟩;rw[j,show((i+1:Nat):Int)=(N0:Int)by omega];exact rL (show(w.bg.length:Int)<=(N0:Int)by omega) _ _
   |succ m=>
    have C:=v7 u F j (m+1) 5002 (i+1) w s l (by omega) x y (by omega) (by omega);obtain⟨w',s',a,b⟩|⟨a,R,b⟩:=C
    .exact .inl ⟨w',s',a,.next o b⟩
    .exact .inr ⟨a,R,.next o b⟩
  unfold Fz;cases f:kN p w (i:Int)with
  |none=>exact g Y f rfl rfl|some r=>
   obtain⟨w1,e⟩:=r;cases e with
   |some e=>exact g (Z (w1,Z e)) f rfl rfl|none=>
    rw[f]at q t;obtain⟨E,K,P⟩:=xG u l (by omega) (by omega) f;simp only;by_cases h5:5000<s+1
    .rw[bw h5];refine .inr ⟨rfl,(mb p dd w,M,()),.ret ?_⟩;refine Ev.r5 (λn=>(j n _).trans (uq (show(i:Int)<(w.bg.length:Int)by omega) _ _)) ?_;refine Ev.ah q (Ev.ah t (bK λn=>?_));simp(disch:=omega)only[bu,I5,bQ]<;>rfl
    .rw[bL h5];have o:Ev (λn=>F n ((s:Int),(i:Int),mb p dd w,M,())) (.next (((s+1:Nat):Int),(i:Int),mb p dd w1,M,())):=by refine Ev.r5 (λn=>(j n _).trans (uq (show(i:Int)<(w.bg.length:Int)by omega) _ _)) ?_;refine Ev.ah q (Ev.ah t (bK λn=>?_));simp(disch:=omega)only[bu,I5,bQ,gj,gq]<;>rfl
     obtain⟨w',s',a,b⟩|⟨a,R,b⟩:=v7 u F j (m+1) k i w1 (s+1) E v (by grind) (by omega) (by omega) (by omega)
     .exact .inl ⟨w',s',a,.next o b⟩
     .exact .inr ⟨a,R,.next o b⟩
termination_by m k=>(m,k)
def e48(d:se p dd)(e:jD p dd w){s:Nat}(hs:s<=5001) :
  (∃w' s',eG p w.bg.length 0 w s=Z (w',s')∧Ev (λn=>F48 n (mb p dd w,M,(s:Int),())) (((s':Int),W,()),mb p dd w',M,()))∨
  (eG p w.bg.length 0 w s=Y∧∃R,Ev (λn=>F48 n (mb p dd w,M,(s:Int),())) ((0,J,()),R)):=by
 by_cases f:w.bg.length=0
 .refine .inl ⟨w,s,by rw[f];rfl,Ev.br (F:=λn c=>_) (.out (j:=0) (y:=((s:Int),(0:Int),mb p dd w,M,())) (bK λn=>?_)) (λn c=>_) _ dz⟩;exact rL (show(w.bg.length:Int)<=(0:Int)by omega) _ _
 .have key:=v7 (M:=M) d (N0:=w.bg.length) (λn c=>_) (λn c=>rfl) w.bg.length 5002 0 w s e (by omega) rfl hs (by omega) (by omega);obtain⟨m,g⟩:∃m,w.bg.length=m+1:=⟨w.bg.length-1,by omega⟩;rw[g]at key ⊢;obtain⟨w',s',a,b⟩|⟨a,R,b⟩:=key
  .exact .inl ⟨w',s',a,Ev.br (F:=λn c=>_) b (λn c=>_) _ dz⟩
  .exact .inr ⟨a,R,Ev.br (F:=λn c=>_) b (λn c=>_) _ dz⟩
abbrev Z5:=L bI×L Int×L ei×L Int×Int×U
end
end
end Mn
end
end
