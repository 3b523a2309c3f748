import Derived.KernelRfl
import Derived.Test.YthlenkomcaiomaaGreatH4
set_option linter.all false
set_option maxRecDepth 100000
set_option maxHeartbeats 0
noncomputable section
open Option renaming some->Z,none->Y
open Bool renaming true->W,false->J
open Nat renaming beq->Nq,ble->Nl,blt->Nt,succ->Ns,add->Na
open TL.LO renaming next->N,ret->X,out->H
open TL.Rx renaming ok->G,iJ->M
section
namespace Mn
open Go TL
def F33:Nat->Y49->O (Y91×U):=
 λn b=>ah (F99 n (b.1,())) λc=>ai (aq (aa c.1.2.1 0)) (Z (([],2,()),())) (ah (aQ (Y51) (Bool×U) (Y52) (λd=>
 ai (aD d.1 (ak b.1.1)) (aO (aF d.1 c.1.1) (ai (bh c.1.1 (ax d.1) aT).1 (aO (aF d.1 b.1.1) (ai (aa (bh b.1.1 (ax d.1)
 bP).1 6) (aO (aF d.1 b.1.1) (Z (N (aG .i64 d.1 1,iV (A:=sg.A) (Ty.int .i64) (bh b.1.1 (ax d.1) bP).2 W d.2.1,
 ())))) (Z (N (aG .i64 d.1 1,d.2))))) (Z (N (aG .i64 d.1 1,d.2))))) (Z (H 0 d))) n (0,[],())) λd=>bK d (λ
 _ g=>ah (F111 n (cJ.mk b.2.1 b.1 c.1.1 g.2.1,())) λh=>ai (aq h.1.1) (Z (([],2,()),())) (ah (F66 n (((b.2.1.1,b.2.1.2,
 b.2.1.3,b.2.1.4,b.2.1.5,b.1.1,b.1.2,b.1.3,b.1.4,b.1.5,c.1.1,()),()),g.2)) λi=>Z ((i.1.1,0,()),()))) (λ_ g=>ai (aq g.1)
 (Z (([],2,()),())) Y) λ_ _=>Y)
def k33(n:Nat):OC:=⟨33,⟨P66,K167,J,F33 n⟩,cQ [k66 n,k99 n,YN n] [(44,0,⟨[(23,dm),(0,Pj)],[.cell (.slot 19) 11],[],0⟩)] n 10 33⟩
def Qf(n:Nat):O aat:=
 Z ((cX,ct,2,()),())
def KC:L (Nat×Ty):=
 [(197,Ty.st 14),(203,Ty.st 15),(213,Ty.st 16)]
def aaT(n:Nat)(k:amt):aau->O aat:=
 λl=>Z ((k.1.1,l.1.1,0,()),())
def F34:Nat->Y99->O aat:=
 λn b=>ah (F99 n (b.1,())) λc=>ai (aq (aa c.1.2.1 0)) (Qf n) (ah (aQ (Y51) (Bool×U) (Y52) (λd=>ai (aD d.1
 (ak b.1.1)) (aO (aF d.1 c.1.1) (ai (bh c.1.1 (ax d.1) aT).1 (aO (aF d.1 b.1.1) (ai (aa (bh b.1.1 (ax d.1) bP).1 6)
 (aO (aF d.1 b.1.1) (Z (N (aG .i64 d.1 1,iV (A:=sg.A) (Ty.int .i64) (bh b.1.1 (ax d.1) bP).2 W d.2.1,())))) (Z
 (N (aG .i64 d.1 1,d.2))))) (Z (N (aG .i64 d.1 1,d.2))))) (Z (H 0 d))) n (0,[],())) λd=>bK d (λ_ g=>ah
 (F111 n (cJ.mk b.2.1 b.1 c.1.1 g.2.1,())) λh=>ai (aq h.1.1) (Qf n) (ai (aD b.2.2.1 0) (Qf n) (ai (br (ak b.2.1.2)
 b.2.2.1) (Qf n) (ah (F67 n (((b.2.1.1,b.2.1.2,b.2.1.3,b.2.1.4,b.2.1.5,b.1.1,b.1.2,b.1.3,b.1.4,b.1.5,c.1.1,()),()),g.2.1,b.2.2)) λi
 =>ah (F68 n i.1) λj=>ai (aa j.1.1 2) (Z ((cX,ct,5,()),())) (ah (F49 n i.2) λk=>ai (kB KC 0 (gW 17
 i.1.1)) (ah (F353 n (jf (Sg.zero sg) KC 0 (gW 17 i.1.1),())) (aaT n k)) (ai (kB KC 1 (gW 17 i.1.1)) (ah (F354 n (jf
 (Sg.zero sg) KC 1 (gW 17 i.1.1),())) (aaT n k)) (ai (kB KC 2 (gW 17 i.1.1)) (ah (F355 n (jf (Sg.zero sg) KC 2 (gW 17
 i.1.1),())) (aaT n k)) Y))))))) (λ_ g=>ai (aq g.1) (Qf n) Y) λ_ _=>Y)
def k34(n:Nat):OC:=⟨34,⟨P67,K168,J,F34 n⟩,cQ [k49 n,k67 n,k68 n,k99 n,YN n,ajC n,ajB n,ajA n] [(44,0,⟨[(23,dm),(0,Pj)],[.cell (.slot 19) 11],[],0⟩)] n 10 34⟩

end Mn
end
section
namespace TL
open Go
section
def Ev{α:Type}(f:Nat->O α)(r:α):Prop:=∃a,∀n,a<=n->f n=Z r
section
variable {α β γ:Type}
def Ev.pure(r:α):Ev (λ_=>Z r) r:=⟨0,λ_ _=>rfl⟩
def Ev.of_eq{f:Nat->O α}{r:α}(h:∀n,f n=Z r):Ev f r:=⟨0,λn _=>h n⟩
def Ev.v5{f g:Nat->O α}{r:α}(h:∀n,f n=g n)(a:Ev g r):Ev f r:=(funext h:f=g)▸a
theorem Ev.ah{f:Nat->O α}{a:α}{g:Nat->α->O β}{r:β}(h:Ev f a)(d:Ev (λn=>g n a) r):Ev (λn=>ah (f n) (g n)) r:=by
 let ⟨b,h⟩:=h
 let ⟨c,d⟩:=d
 refine⟨max b c,λn e=>?_⟩
 grind[TL.ah]
end
def v7{α β:Type}(f:Nat->Nat->α->O β)(x:α)(r:β):Prop:=∀d,Ev (λn=>f n (n-d) x) r
theorem v7.step{α β:Type}{f:Nat->Nat->α->O β}{g:Nat->(α->O β)->α->O β}{x:α}{r:β}(h:∀n k,f n (k+1)=g n (f n k))
  (b:∀d,Ev (λn=>g n (f n (n-d)) x) r):v7 f x r:=by
 intro d
 let ⟨a,c⟩:=b (d+1)
 refine⟨max a (d+1),λn i=>?_⟩;have e:n-d=(n-(d+1))+1:=by omega
 grind
section
variable {X R B P:Type}
inductive gV(F:Nat->X->Option (LO X R B P)):X->LO X R B P->Prop
 |next {x y:X} {o:LO X R B P}:Ev (λn=>F n x) (.next y)->gV F y o->gV F x o|out {x y:X} {j:Nat}:Ev (λn=>F n x) (.out j y)->gV F x (.out j y)|ret {x:X} {b:B} {r:R}:Ev (λn=>F n x) (.ret b r)->gV F x (.ret b r)|iJ {x:X} {b:B} {p:P}:Ev (λn=>F n x) (.iJ b p)->gV F x (.iJ b p)
def gV.last{F:Nat->X->O (LO X R B P)}{x:X}{o:LO X R B P}(h:Ev (λn=>F n x) o)(hn:∀y,o≠.next y):gV F x o:=by cases o with|next y=>simp_all|out j y=>exact .out h|ret b r=>exact .ret h|iJ b p=>exact .iJ h
theorem gV.fuel{F:Nat->X->O (LO X R B P)}{x:X}{o:LO X R B P}(h:gV F x o):∃a,∀n k,a<=n->a<=k->iter (F n) k x=Z o:=by
 induction h with
 |next h _ e=>
  let ⟨a,h⟩:=h
  let ⟨b,e⟩:=e
  refine⟨max a b+1,λn k c d=>?_⟩;cases k with
  |zero=>omega|succ k=>
   grind[iter]
 |out h=>
  let ⟨a,h⟩:=h
  refine⟨a+1,λn k c d=>?_⟩;cases k with|zero=>omega|succ k=>unfold iter;rw[show F n _=_ from h n (by omega)]
 |ret h=>
  let ⟨a,h⟩:=h
  refine⟨a+1,λn k c d=>?_⟩;cases k with|zero=>omega|succ k=>unfold iter;rw[show F n _=_ from h n (by omega)]
 |iJ h=>
  let ⟨a,h⟩:=h
  refine⟨a+1,λn k c d=>?_⟩;cases k with|zero=>omega|succ k=>unfold iter;rw[show F n _=_ from h n (by omega)]
theorem Ev.iter{F:Nat->X->O (LO X R B P)}{x:X}{o:LO X R B P}(h:gV F x o):Ev (λn=>TL.iter (F n) n x) o:=by
 let ⟨a,h⟩:=h.fuel
 exact⟨a,λn b=>h n n b b⟩
def Ev.bz{β:Type}{F:Nat->X->O (LO X R B P)}{x:X}{o:LO X R B P}(h:gV F x o)(g:Nat->LO X R B P->O β)(r:β)(a:Ev (λn=>g n o) r):Ev (λn=>TL.ah (TL.iter (F n) n x) (g n)) r:=(Ev.iter h).ah a
def gV.many{F:Nat->X->O (LO X R B P)}{o:LO X R B P}:∀(k:Nat)(s:Nat->X),(∀i,i<k->Ev (λn=>F n (s i)) (.next (s (i+1))))->gV F (s k) o->gV F (s 0) o
 |0,_,_,h=>h|k+1,s,a,h=>.next (a 0 (by omega)) (gV.many k (λi=>s (i+1)) (λi b=>a (i+1) (by omega)) h)
theorem nP{F:Nat->X->O (LO X R B P)}(len:Nat)(s:Nat->X)(q:Nat->Bool)(bad:Nat->LO X R B P)(g:Nat)(o:∀i y,bad i≠.next y)
  (h:∀i,i<len->(∀j,j<i->q j=W)->Ev (λn=>F n (s i)) (bif q i then .next (s (i+1))else bad i))
  (p:(∀j,j<len->q j=W)->Ev (λn=>F n (s len)) (.out g (s len))) :
  ((∀i,i<len->q i=W)/\gV F (s 0) (.out g (s len)))\/∃i,i<len/\q i=J/\(∀j,j<i->q j=W)/\gV F (s 0) (bad i):=by
 have key:∀m i,i+m=len->(∀j,j<i->q j=W)->((∀i,i<len->q i=W)/\gV F (s i) (.out g (s len)))\/∃k,k<len/\q k=J/\(∀j,j<k->q j=W)/\gV F (s i) (bad k):=by
  intro m
  induction m with
  |zero=>
   intro i r e;have:i=len:=by omega
   subst this;exact .inl ⟨e,.out (p e)⟩
  |succ m t=>
   intro i r e;have f:=h i (by omega) e;cases l:q i with
   |false=>rw[l]at f;exact .inr ⟨i,by omega,l,e,.last f (o i)⟩
   |true=>
    rw[l]at f;rcases t (i+1) (by omega) (λj u=>by
     grind)with⟨a,b⟩|⟨k,a,b,c,d⟩
    .exact .inl ⟨a,.next f b⟩
    .exact .inr ⟨k,a,b,c,.next f d⟩
 simp_all
def kA{F:Nat->X->O (LO X R B P)}(len:Nat)(s:Nat->X)(a:Nat)(h:∀i,i<len->Ev (λn=>F n (s i)) (.next (s (i+1))))(b:Ev (λn=>F n (s len)) (.out a (s len))):gV F (s 0) (.out a (s len)):=
 gV.many len s h (.out b)
def gV.inv{F:Nat->X->O (LO X R B P)}(I:X->Prop)(m:X->Nat)(Q:LO X R B P->Prop)
  (h:∀x,I x->(∃y,Ev (λn=>F n x) (.next y)/\I y/\m y<m x)\/∃o,(∀y,o≠.next y)/\Ev (λn=>F n x) o/\Q o):∀x,I x->∃o,gV F x o/\Q o:=by
 intro x
 induction b:m x using Nat.strongRecOn generalizing x with
 |ind k c=>
  intro d;subst b;obtain⟨y,e,f,a⟩|⟨o,g,i,j⟩:=h x d
  .let ⟨o,h1,h2⟩:=c (m y) a y rfl f
   exact⟨o,.next e h1,h2⟩
  exact⟨o,.last i g,j⟩
end
section
theorem EF{n:Int}(h1:-9223372036854775808<=n)(h2:n<=9223372036854775807):IntKind.wrap .i64 n=n:=by
 grind[IntKind.wrap,IntKind.bits,IntKind.signed]
theorem bZ{a b:Int}(h1:-9223372036854775808<=a+b)(h2:a+b<=9223372036854775807):aG .i64 a b=a+b:=EF h1 h2
theorem cW{a b:Int}(h1:-9223372036854775808<=a-b)(h2:a-b<=9223372036854775807):aZ .i64 a b=a-b:=EF h1 h2
def Ln{a b:Int}(h1:-9223372036854775808<=a*b)(h2:a*b<=9223372036854775807):Im .i64 a b=a*b:=EF h1 h2
def ie{α:Type}{n:Int}{l:L α}:aF n l=W↔0<=n/\n<l.length:=by simp[aF]
def YV{α:Type}{k:Nat}{l:L α}:dX k l=W↔k<l.length:=by simp[dX]
def uY{lo hi len:Int}:ez lo hi len=W↔0<=lo/\lo<=hi/\hi<=len:=by simp[ez]
def GZ{α:Type}{a b:L α}:dg a b=W↔a.length+b.length<=17179869184:=by simp[dg]
theorem xT{a b:Int}:aa a b=W↔a=b:=by simp[aa]
def EW{a b:Int}:aD a b=W↔a<b:=by simp[aD]
end
section
variable {α β:Type}
theorem ud(a:α)(f:α->O β):ah (Z a) f=f a:=rfl
theorem alJ{R P:Type}(r:R)(f:R->O α)(g:P->O α):cB (.ok r) f g=f r:=rfl
theorem ahb{R P:Type}(p:P)(f:R->O α)(g:P->O α):cB (.iJ p) f g=g p:=rfl
theorem Z5(x:O α):aO W x=x:=rfl
theorem Nj(x y:O α):ai W x y=x:=rfl
theorem Jn(x y:O α):ai J x y=y:=rfl
def adF{γ:Type}{i:Int}{l:L γ}(h1:0<=i)(h2:i<(l.length:Int))(x:O α):aO (aF i l) x=x:=by rw[ie.2 ⟨h1,h2⟩];rfl
def Z6{γ:Type}{k:Nat}{l:L γ}(h:k<l.length)(x:O α):aO (dX k l) x=x:=by rw[YV.2 h];rfl
def Ui{a b c:Int}(h1:0<=a)(h2:a<=b)(h3:b<=c)(x:O α):aO (ez a b c) x=x:=by rw[uY.2 ⟨h1,h2,h3⟩];rfl
def Bc{γ:Type}{a b:L γ}(h:a.length+b.length<=17179869184)(x:O α):aO (dg a b) x=x:=by rw[GZ.2 h];rfl
def adH(a b:Bool)(x:O α):aO (nW a b) x=aO a (aO b x):=by cases a<;>rfl
def adG{a b:Int}(h:a=b)(x:O α):aO (fZ a b) x=x:=by subst h;simp[fZ,aO]
def abP{a b:Int}(h:a=b)(x y:O α):ai (fZ a b) x y=x:=by subst h;simp[fZ,ai]
def Xp{a b:Int}(h:a≠b)(x y:O α):ai (fZ a b) x y=y:=by simp[fZ,ai,h]
def Fz{a b:Int}(h:a<b)(x y:O α):ai (aD a b) x y=x:=by rw[EW.2 h];rfl
def xH{a b:Int}(h:b<=a)(x y:O α):ai (aD a b) x y=y:=by simp[ai,aD,Int.not_lt.2 h]
def FA{a b:Int}(h:a<=b)(x y:O α):ai (br a b) x y=x:=by simp[ai,br,h]
def KT{a b:Int}(h:b<a)(x y:O α):ai (br a b) x y=y:=by simp[ai,br,Int.not_le.2 h]
def afI{a b:Int}(h:a=b)(x y:O α):ai (aa a b) x y=x:=by rw[xT.2 h];rfl
def Th{a b:Int}(h:a≠b)(x y:O α):ai (aa a b) x y=y:=by rw[show aa a b=J by simp[aa,h]];rfl
def Tg(a:Bool)(x y:O α):ai (aq a) x y=ai a y x:=by cases a<;>rfl
theorem ajl{a b:Int}(h:a<b):aD a b=W:=EW.2 h
def ajm{a b:Int}(h:b<=a):aD a b=J:=by simp[aD,Int.not_lt.2 h]
def ajr{a b:Int}(h:a<=b):br a b=W:=by simp[br,h]
def ajs{a b:Int}(h:b<a):br a b=J:=by simp[br,Int.not_le.2 h]
theorem IY{a b:Int}(h:a=b):aa a b=W:=xT.2 h
theorem vZ{a b:Int}(h:a≠b):aa a b=J:=by simp[aa,h]
theorem aho(x y:α):(bif W then x else y)=x:=rfl
theorem ahp(x y:α):(bif J then x else y)=y:=rfl
def Nd(l:L α):cL l 0 (l.length:Int)=l:=by simp[cL]
def BN(l:L α)(k:Int):cL l k (l.length:Int)=l.drop k.toNat:=by simp[cL]
def xG(l:L α)(k:Int):cL l 0 k=l.take k.toNat:=by simp[cL]
theorem Yr(k:Nat):ax (k:Int)=k:=rfl
theorem ff(l:L α):ak l=(l.length:Int):=rfl
theorem ahc(l:L α)(k:Nat)(z:α):bh l k z=l.getD k z:=rfl
theorem acf(n:Int):ax n=n.toNat:=rfl
theorem adJ(a b:L α):dc a b=a++b:=rfl
theorem ab3(l:L α)(k:Nat)(x:α):lF l k x=l.set k x:=rfl
def acu(a b:L α):(a++b).length=a.length+b.length:=j9
def YF(a:α)(l:L α):(a::l).length=l.length+1:=lR
theorem acs:([]:L α).length=0:=rfl
def Yq(k:Nat):Int.toNat (k:Int)=k:=vT k
theorem Yp:Int.toNat 0=0:=rfl
theorem ace:Int.toNat 1=1:=rfl
end
def g7:(∀{α:Type}(a b:L α),(a++b).length=a.length+b.length)/\(∀{α:Type}(a:α)(l:L α),(a::l).length=l.length+1)/\(∀{α:Type},([]:L α).length=0)/\
 (∀{α:Type}(k:Nat)(l:L α),(l.drop k).length=l.length-k)/\(∀{α:Type}(k:Nat)(l:L α),(l.take k).length=min k l.length)/\(∀{α:Type}(k:Nat)(x:α)(l:L α),(l.set k x).length=l.length):=
 ⟨λ_ _=>j9,λ_ _=>rfl,rfl,λ_ _=>Tq,λ_ _=>Le,λ_ _ _=>Ld⟩
def aU:(∀{α:Type}{β:Type}(a:α)(f:α->O β),ah (Z a) f=f a)/\
 (∀{α:Type}{R P:Type}(r:R)(f:R->O α)(g:P->O α),cB (.ok r) f g=f r)/\
 (∀{α:Type}{R P:Type}(p:P)(f:R->O α)(g:P->O α),cB (.iJ p) f g=g p)/\
 (∀{α:Type}(x:O α),aO W x=x)/\
 (∀{α:Type}(x y:O α),ai W x y=x)/\
 (∀{α:Type}(x y:O α),ai J x y=y)/\
 (∀{α:Type}{γ:Type}{i:Int}{l:L γ}(h1:0<=i)(h2:i<(l.length:Int))(x:O α),aO (aF i l) x=x)/\
 (∀{α:Type}{γ:Type}{k:Nat}{l:L γ}(h:k<l.length)(x:O α),aO (dX k l) x=x)/\
 (∀{α:Type}{a b c:Int}(h1:0<=a)(h2:a<=b)(h3:b<=c)(x:O α),aO (ez a b c) x=x)/\
 (∀{α:Type}{γ:Type}{a b:L γ}(h:a.length+b.length<=17179869184)(x:O α),aO (dg a b) x=x)/\
 (∀{α:Type}(a b:Bool)(x:O α),aO (nW a b) x=aO a (aO b x))/\
 (∀{α:Type}{a b:Int}(h:a=b)(x:O α),aO (fZ a b) x=x)/\
 (∀{α:Type}{a b:Int}(h:a=b)(x y:O α),ai (fZ a b) x y=x)/\
 (∀{α:Type}{a b:Int}(h:a≠b)(x y:O α),ai (fZ a b) x y=y)/\
 (∀{α:Type}{a b:Int}(h:a<b)(x y:O α),ai (aD a b) x y=x)/\
 (∀{α:Type}{a b:Int}(h:b<=a)(x y:O α),ai (aD a b) x y=y)/\
 (∀{α:Type}{a b:Int}(h:a<=b)(x y:O α),ai (br a b) x y=x)/\
 (∀{α:Type}{a b:Int}(h:b<a)(x y:O α),ai (br a b) x y=y)/\
 (∀{α:Type}{a b:Int}(h:a=b)(x y:O α),ai (aa a b) x y=x)/\
 (∀{α:Type}{a b:Int}(h:a≠b)(x y:O α),ai (aa a b) x y=y)/\
 (∀{α:Type}(a:Bool)(x y:O α),ai (aq a) x y=ai a y x)/\
 (∀{a b:Int}(h:a<b),aD a b=W)/\
 (∀{a b:Int}(h:b<=a),aD a b=J)/\
 (∀{a b:Int}(h:a<=b),br a b=W)/\
 (∀{a b:Int}(h:b<a),br a b=J)/\
 (∀{a b:Int}(h:a=b),aa a b=W)/\
 (∀{a b:Int}(h:a≠b),aa a b=J)/\
 (∀{α:Type}(x y:α),(bif W then x else y)=x)/\
 (∀{α:Type}(x y:α),(bif J then x else y)=y)/\
 (∀{α:Type}(l:L α),cL l 0 (l.length:Int)=l)/\
 (∀{α:Type}(l:L α),ak l=(l.length:Int))/\
 (∀{α:Type}(l:L α)(k:Nat)(z:α),bh l k z=l.getD k z)/\
 (∀(n:Int),ax n=n.toNat)/\
 (∀{α:Type}(a b:L α),dc a b=a++b)/\
 (∀{α:Type}(l:L α)(k:Nat)(x:α),lF l k x=l.set k x)/\
 (∀{α:Type}(a b:L α),(a++b).length=a.length+b.length)/\
 (∀{α:Type}(a:α)(l:L α),(a::l).length=l.length+1)/\
 (∀{α:Type},([]:L α).length=0)/\
 (∀(k:Nat),Int.toNat (k:Int)=k)/\
 (Int.toNat 0=0)/\
 (Int.toNat 1=1):=
 ⟨@ud,@alJ,@ahb,@Z5,@Nj,@Jn,@adF,@Z6,@Ui,@Bc,@adH,@adG,@abP,@Xp,@Fz,@xH,@FA,@KT,@afI,@Th,@Tg,@ajl,@ajm,@ajr,@ajs,@IY,@vZ,@aho,@ahp,@Nd,@ff,@ahc,@acf,@adJ,@ab3,@acu,@YF,@acs,@Yq,@Yp,@ace⟩
theorem bF{α:Type}{f:Nat->O α}{r:α}(h:∀n,f n=Z r):Ev f r:=.of_eq h
theorem dB{α:Type}{f:Nat->O α}{r:α}(h:∀n,f n=Z r:=by intro n;rfl):Ev f r:=.of_eq h
end
end TL
end
section
namespace Mn
open Go TL
def Fe(a b:az):Bool:=a.Kind==b.Kind&&a.N==b.N
def g8(n:Int):az:=⟨1,n⟩
def iD(b:Bool):az:=⟨2,bif b then 1 else 0⟩
def ep:az:=⟨3,0⟩
def vR(n:Int):az:=⟨5,n⟩
def lA(v:az):az:=if v.Kind=4\/v.Kind=5 then vR 0 else v
def kY(c:aA)(n:Int):Int:=(c.Cons.getD n.toNat bg).lu
def nH:L Nat:=[0,0,0,0,0,0,0,2,2,1,0,0,1,2,2,2,2,2,0,1,0,1,1,2,1,1,0,2,1,1,0,0,0,0,1]
def cA(c:aA)(i:bR):Nat:=if i.Op=18 then(kY c i.A).toNat else nH.getD i.Op.toNat 0
def aW(c:aA)(n:Int):bR:=c.dF.getD n.toNat bP
def iZ(c:aA)(n:Int):aB:=c.eA.getD n.toNat aK
def dh(w:av)(n:Int):bB:=w.aN.getD n.toNat bw
def bE(w:av)(at_:Int):Int:=w.bI.getD at_.toNat 0
def eU(l:L az)(n:Nat):az:=l.getD n bu
def gE(w:av)(n:Int)(o:bB):av:=⟨w.aN.set n.toNat o,w.bI,w.mo,w.dF,w.Used⟩
def ia(w:av)(o:bB):av:=⟨w.aN++[o],w.bI,w.mo,w.dF,w.Used⟩
inductive uq where
 |fail (s:Int)|waits|done (v:az)|go (w:av) (fr:List aj) (e:Option aP)
def lS(f:aj)(v:az):aj:=⟨f.At,f.Env,f.Stack++[v],f.dI⟩
def fD(w:av)(left:L aj)(f:aj)(v:az)(e:O aP:=Y):uq:=.go w (left++[lS f v]) e
def pG(w:av)(left:L aj)(f:aj)(o:bB)(e:O aP:=Y):uq:=
 if 120<=w.aN.length then .fail 4 else fD (ia w o) left f (vR w.aN.length) e
def gO(w:av)(v:az)(a:Int):O bB:=
 if v.Kind=5/\(dh w v.N).Form=a then Z (dh w v.N)else Y
def jE(c:aA)(w:av)(f v:az):O aj:=
 if f.Kind=4 then Z ⟨c.cY.getD f.N.toNat 0,[v],[],J⟩
 else match gO w f 2 with
  |some o=>Z ⟨o.N,o.fP++[v],[],J⟩|none=>Y
def kN:L aj->az->L aj
 |[],_=>[]|[f],v=>[lS f v]|f::l,v=>f::kN l v
def kG(w:av)(left l:L aj):uq:=if 40<left.length+l.length then .fail 4 else .go w (left++l) Y
def sQ(c:aA)(w:av)(left:L aj)(f v:az)(reset:Bool):uq:=
 match jE c w f v with
 |some b=>kG w left [⟨b.At,b.Env,b.Stack,reset⟩]|none=>match gO w f 5 with
  |some o=>kG w left (kN o.Frames v)|none=>.fail 2
def jd(n:Int):Bool:=decide (-1000000000<=n)&&decide (n<=1000000000)
def sM(w:av)(left:L aj)(f:aj)(op:Int)(u v:az):uq:=
 if op=17 then(if u.Kind≠v.Kind\/3<u.Kind then .fail 2 else fD w left f (iD (u.N==v.N)))
 else if u.Kind≠1\/v.Kind≠1 then .fail 2
 else if op=16 then fD w left f (iD (decide (u.N<v.N)))
 else
  let n:=if op=13 then u.N+v.N else if op=14 then u.N-v.N else u.N*v.N
  if jd n=W then fD w left f (g8 n)else .fail 4
mutual
def jB(w:av):aB->az->O (L az)
 |⟨a,n,text,parts⟩,v=>
  if a=1 then Z []else if a=2 then Z [v]
  else if a=3 then(if Fe v (g8 n)then Z []else Y)
  else if a=4 then(if Fe v (iD (n==1))then Z []else Y)
  else if a=5 then(if Fe v ep then Z []else Y)
  else match gO w v 1 with
   |none=>Y|some o=>if o.N≠n\/o.fP.length≠parts.length then Y else fF w parts o.fP
def fF(w:av):L aB->L az->O (L az)
 |q::a,v::b=>match jB w q v with
  |none=>Y|some l=>match fF w a b with
   |none=>Y|some m=>Z (l++m)
 |_,_=>Z []
end
def jZ{α:Type}(q:α->Bool):L α->O Nat
 |[]=>Y|a::l=>match jZ q l with
  |some k=>Z (k+1)|none=>bif q a then Z 0 else Y
def Fv(w:av)(left:L aj)(f:aj)(start:Int):uq:=
 match jZ (λf:aj=>f.dI) (left++[f])with
 |none=>.fail 3|some k=>if 120<=w.aN.length then .fail 4
  else .go (ia w ⟨5,0,[],(left++[f]).drop k⟩) ((left++[f]).take k++[⟨start,f.Env++[vR w.aN.length],[],W⟩]) Y
def BO(c:aA)(w:av)(at_:Int)(left:L aj)(f:aj)(g:az):uq:=
 let mk (l:L aj):uq:=if 120<=w.aN.length then .fail 4
  else fD ⟨w.aN++[⟨6,0,[],l⟩],w.bI++[(w.aN.length:Int)],w.mo,w.dF,w.Used⟩ left f (vR w.aN.length) (Z ⟨at_,19,0,ep⟩)
 match jE c w g ep with
 |some b=>mk [b]|none=>match gO w g 5 with
  |some k=>mk (kN k.Frames ep)|none=>.fail 2
def GQ(w:av)(at_:Int)(left:L aj)(f:aj)(v:az):uq:=match gO w v 3 with
 |none=>.fail 2|some o=>fD w left f (eU o.fP 0) (Z ⟨at_,17,0,lA (eU o.fP 0)⟩)
def jr(w:av)(at_:Int)(left:L aj)(f:aj)(c v:az):uq:=match gO w c 3 with
 |none=>.fail 2|some o=>fD (gE w c.N ⟨3,0,[v],[]⟩) left f ep (Z ⟨at_,18,0,lA v⟩)
def Jl(w:av)(at_:Int)(left:L aj)(f:aj)(c v:az):uq:=match gO w c 4 with
 |none=>.fail 2|some o=>if 4<=o.fP.length then .waits else fD (gE w c.N ⟨4,0,o.fP++[v],[]⟩) left f ep (Z ⟨at_,22,0,lA v⟩)
def Jh(w:av)(at_:Int)(left:L aj)(f:aj)(c:az):uq:=match gO w c 4 with
 |none=>.fail 2|some o=>match o.fP with
  |[]=>.waits|v::l=>fD (gE w c.N ⟨4,0,l,[]⟩) left f v (Z ⟨at_,23,0,lA v⟩)
def JQ(w:av)(at_:Int)(left:L aj)(f:aj)(v:az):uq:=match gO w v 6 with
 |none=>.fail 2|some o=>if o.N=0 then .waits else if o.N≠1 then .fail o.N else fD w left f (eU o.fP 0) (Z ⟨at_,20,0,lA (eU o.fP 0)⟩)
def Vp(w:av)(at_:Int)(left:L aj)(f:aj)(a:Int)(v:az):uq:=
 if v.Kind≠1 then .fail 2 else if 100<=w.mo.length then .fail 4
 else fD ⟨w.aN,w.bI,w.mo++[⟨a,v.N⟩],w.dF,w.Used⟩ left f ep (Z ⟨at_,24,a,lA v⟩)
def inS(w:av)(at_:Int)(left:L aj)(f:aj):uq:=match w.dF with
 |[]=>.waits|i::l=>if 1000000000<=w.Used then .fail 4 else fD ⟨w.aN,w.bI,w.mo,l,w.Used+1⟩ left f (g8 i) (Z ⟨at_,25,0,g8 i⟩)
def afM(w:av)(left:L aj)(v:az):uq:=match left with
 |[]=>.done v|_::_=>.go w (left.take (left.length-1)++[lS (left.getD (left.length-1) aR) v]) Y
theorem FI{w:av}{l:L aj}{g:aj}{v:az}:afM w (l++[g]) v=.go w (l++[lS g v]) Y:=by
 unfold afM;split
 simp_all
 grind
def ir(c:aA)(w:av)(at_:Int)(left:L aj)(i:bR)(f:aj)(l:L az):uq:=
 match i.Op.toNat with
 |1=>fD w left f (g8 i.A)|2=>fD w left f (iD (i.A==1))|3=>fD w left f ep|4=>fD w left f (eU f.Env i.A.toNat)|5=>fD w left f ⟨4,i.A⟩|6=>pG w left f ⟨2,i.A,f.Env,[]⟩|7=>sQ c w (left++[f]) (eU l 0) (eU l 1) J|8=>sQ c w left (eU l 0) (eU l 1) f.dI|9=>.go w (left++[⟨f.At,f.Env++[eU l 0],f.Stack,f.dI⟩]) Y|10=>.go w (left++[⟨f.At,f.Env.take (f.Env.length-i.A.toNat),f.Stack,f.dI⟩]) Y|11=>.go w (left++[⟨i.A,f.Env,f.Stack,f.dI⟩]) Y|12=>if(eU l 0).Kind≠2 then .fail 2 else .go w (left++[⟨if(eU l 0).N=0 then i.A else f.At,f.Env,f.Stack,f.dI⟩]) Y|13|14|15|16|17=>sM w left f i.Op (eU l 0) (eU l 1)|18=>pG w left f ⟨1,i.A,l,[]⟩|19=>match jB w (iZ c i.A) (eU l 0)with
  |some b=>.go w (left++[⟨f.At,f.Env++b,f.Stack,f.dI⟩]) Y|none=>.go w (left++[⟨i.B,f.Env,f.Stack++[eU l 0],f.dI⟩]) Y
 |20=>.fail 3|21=>pG w left f ⟨3,0,[eU l 0],[]⟩ (Z ⟨at_,16,0,lA (eU l 0)⟩)|22=>GQ w at_ left f (eU l 0)|23=>jr w at_ left f (eU l 0) (eU l 1)|24=>BO c w at_ left f (eU l 0)|25=>JQ w at_ left f (eU l 0)|26=>pG w left f ⟨4,0,[],[]⟩ (Z ⟨at_,21,0,ep⟩)|27=>Jl w at_ left f (eU l 0) (eU l 1)|28=>Jh w at_ left f (eU l 0)|29=>Vp w at_ left f i.A (eU l 0)|30=>inS w at_ left f|31=>kG w (left++[f]) [⟨i.A,f.Env,[],W⟩]|32=>Fv w left f i.A|33=>fD w left f ep (Z ⟨at_,28,0,ep⟩)|_=>afM w left (eU l 0)
def goS(c:aA)(w:av)(at_:Int)(o:bB):uq:=
 let top:=o.Frames.length-1
 let f:=o.Frames.getD top aR
 let i:=aW c f.At
 let n:=f.Stack.length-cA c i
 ir c w at_ (o.Frames.take top) i ⟨f.At+1,f.Env,f.Stack.take n,f.dI⟩ (f.Stack.drop n)
def o9(c:aA)(w:av)(at_:Int):O (av×O aP):=
 let t:=bE w at_
 let o:=dh w t
 if o.N≠0 then Y
 else match goS c w at_ o with
  |.waits=>Y|.fail s=>Z (gE w t ⟨6,s,[],[]⟩,Z ⟨at_,0,s,bu⟩)|.done v=>Z (gE w t ⟨6,1,[v],[]⟩,Z ⟨at_,0,1,lA v⟩)|.go a fr e=>Z (gE a t ⟨6,0,[],fr⟩,e)
def bY(s e:Int):au:=⟨W,s,e⟩
mutual
def fW:aB->Int
 |⟨a,_,_,parts⟩=>if a=2 then 1 else jY parts
def jY:L aB->Int
 |[]=>0|q::a=>fW q+jY a
end
def yM(c:aA)(i:bR)(d:au):Prop:=
 (cA c i:Int)<=d.Stack/\(i.Op=4->i.A<d.Env)/\(i.Op=10->i.A<=d.Env)/\(i.Op=8->d.Stack=2)/\(i.Op=34->d.Stack=1)
def fU(c:aA)(i:bR)(d:au):Int:=
 d.Stack-(cA c i:Int)+(if i.Op=9\/i.Op=10\/i.Op=11\/i.Op=12\/i.Op=19 then 0 else 1)
def dO(c:aA)(n:Int)(d:au):L (Int×au):=
 let i:=aW c n;let s:=fU c i d
 match i.Op.toNat with
 |8|20|34=>[]|9=>[(n+1,bY s (d.Env+1))]|10=>[(n+1,bY s (d.Env-i.A))]|11=>[(i.A,d)]|12=>[(n+1,bY s d.Env),(i.A,bY s d.Env)]|19=>[(n+1,bY s (d.Env+fW (iZ c i.A))),(i.B,d)]|6|32=>[(n+1,bY s d.Env),(i.A,bY 0 (d.Env+1))]|31=>[(n+1,bY s d.Env),(i.A,bY 0 d.Env)]|_=>[(n+1,bY s d.Env)]
inductive KG(c:aA):Int->au->Prop
 |root {f}:f∈c.cY->KG c f (bY 0 1)|next {n d x}:KG c n d->x∈dO c n d->KG c x.1 x.2
def dW(D:L au)(n:Int):au:=D.getD n.toNat aT
structure Qj(c:aA)(D:List au):Prop where
 len:D.length=c.dF.length
 root:∀f∈c.cY,dW D f=bY 0 1
 ok:∀n:Int,0<=n->n<c.dF.length->(dW D n).Reached=W->(dW D n).Stack<=60/\(dW D n).Env<=30/\yM c (aW c n) (dW D n)
 step:∀n:Int,0<=n->n<c.dF.length->(dW D n).Reached=W->∀x∈dO c n (dW D n),0<=x.1/\x.1<c.dF.length/\dW D x.1=x.2
 der:∀n:Int,0<=n->n<c.dF.length->(dW D n).Reached=W->KG c n (dW D n)
 zero:∀n:Int,0<=n->n<c.dF.length->(dW D n).Reached=J->dW D n=aT
mutual
def pw:aB->Nat
 |⟨_,_,_,parts⟩=>1+oR parts
def oR:L aB->Nat
 |[]=>0|q::a=>pw q+oR a
end
mutual
def tH(cons:L cz):aB->Prop
 |⟨a,n,text,parts⟩=>text=[]/\(a=1\/a=2\/a=5)/\n=0/\parts=[]\/text=[]/\a=3/\jd n=W/\parts=[]\/text=[]/\a=4/\(n=0\/n=1)/\parts=[]\/
  text=[]/\a=6/\0<=n/\n<cons.length/\(parts.length:Int)=(cons.getD n.toNat bg).lu/\nM cons parts
def nM(cons:L cz):L aB->Prop
 |[]=>True|q::a=>tH cons q/\nM cons a
end
structure PL(c:aA)(i:bR):Prop where
 lo:1<=i.Op
 hi:i.Op<=34
 int:i.Op=1->jd i.A=W
 bool:i.Op=2->i.A=0\/i.A=1
 place:i.Op=4->0<=i.A/\i.A<=29
 code:i.Op=5->0<=i.A/\i.A<c.cY.length
 goto:i.Op=6\/i.Op=11\/i.Op=12\/i.Op=31\/i.Op=32->0<=i.A/\i.A<c.dF.length
 drop:i.Op=10->1<=i.A/\i.A<=30
 con:i.Op=18->0<=i.A/\i.A<c.Cons.length
 Be:i.Op=19->0<=i.A/\i.A<c.eA.length/\0<=i.B/\i.B<c.dF.length
 port:i.Op=29->0<=i.A/\i.A<=3
structure Bx(c:aA)(D:List au):Prop where
 len:1<=c.dF.length/\c.dF.length<=1500
 ins:∀i∈c.dF,PL c i
 pats:∀q∈c.eA,tH c.Cons q/\pw q<=12
 pl:c.eA.length<=100
 oV:∀f∈c.cY,0<=f/\f<c.dF.length
 fl:1<=c.cY.length/\c.cY.length<=300
 main:0<=c.Main/\c.Main<c.cY.length
 cons:∀k∈c.Cons,0<=k.lu/\k.lu<=3
 dep:Qj c D
theorem bW{α:Type}{l:L α}{i:Nat}(d:α)(h:i<l.length):l.getD i d∈l:=by
 simp_all
theorem AH{c:aA}{n:Int}{d:au}{x:Int×au}(a:x∈dO c n d)(h:d.Reached=W):x.2.Reached=W:=by unfold dO at a;dsimp only at a;split at a<;>simp only[fV,List.not_mem_nil,or_false]at a<;>first|exact a.elim|(subst a;first|rfl|exact h)|(cases a<;>rename_i a<;>subst a<;>first|rfl|exact h)
def Qj.BZ{c:aA}{D:L au}(h:Qj c D)(hf:∀f∈c.cY,0<=f/\f<c.dF.length){n:Int}{d:au}(j:KG c n d) :
  0<=n/\n<c.dF.length/\dW D n=d/\d.Reached=W:=by
 induction j with
 |root g=>exact⟨(hf _ g).1,(hf _ g).2,h.root _ g,rfl⟩| @next n d x m i k=>
  let ⟨l,h1,h2,h3⟩:=k
  subst h2
  let ⟨a,b,e⟩:=h.step n l h1 h3 x i
  exact⟨a,b,e,AH i h3⟩
theorem Qj.uniq{c:aA}{D E:L au}(h:Qj c D)(b:Qj c E)(hf:∀f∈c.cY,0<=f/\f<c.dF.length):D=E:=by
 have key:∀n:Int,0<=n->n<c.dF.length->dW D n=dW E n:=by
  intro n d h1;cases e:(dW D n).Reached with
  |true=>exact(b.BZ hf (h.der n d h1 e)).2.2.1.symm|false=>
   cases a:(dW E n).Reached with|true=>exact(h.BZ hf (b.der n d h1 a)).2.2.1|false=>rw[h.zero n d h1 e,b.zero n d h1 a]
 apply List.ext_getElem (by rw[h.len,b.len]);intro i h1 h2;have:=key i (by omega) (by have:=h.len;omega)
 grind[dW]
def cG(c:aA)(k:Nat)(v:az):Prop:=
 (v.Kind=1/\jd v.N=W)\/(v.Kind=2/\(v.N=0\/v.N=1))\/(v.Kind=3/\v.N=0)\/(v.Kind=4/\0<=v.N/\v.N<c.cY.length)\/(v.Kind=5/\0<=v.N/\v.N<k)
structure dw(c:aA)(D:List au)(k:Nat)(less:Int)(f:aj):Prop where
 lo:0<=f.At
 hi:f.At<c.dF.length
 re:(dW D f.At).Reached=W
 el:(f.Env.length:Int)=(dW D f.At).Env
 env:∀v∈f.Env,cG c k v
 sl:(f.Stack.length:Int)=(dW D f.At).Stack-less
 stack:∀v∈f.Stack,cG c k v
def qc(c:aA)(D:L au)(n:Int):Prop:=∃i:Int,0<=i/\i<c.dF.length/\(aW c i).Op=6/\(dW D i).Reached=W/\(aW c i).A=n
inductive gf(c:aA)(D:List au)(k:Nat):bB->Prop
 |data {n:Int} {vs}:0<=n->n<c.Cons.length->(vs.length:Int)=(kY c n)->(∀v∈vs,cG c k v)->gf c D k ⟨1,n,vs,[]⟩|func {n:Int} {vs}:qc c D n->(vs.length:Int)=(dW D n).Env-1->(∀v∈vs,cG c k v)->gf c D k ⟨2,n,vs,[]⟩|cell {v}:cG c k v->gf c D k ⟨3,0,[v],[]⟩|chan {vs}:vs.length<=4->(∀v∈vs,cG c k v)->gf c D k ⟨4,0,vs,[]⟩|AN {f fs}:fs.length<40->(∀g∈f::fs,dw c D k 1 g)->f.dI=W->gf c D k ⟨5,0,[],f::fs⟩|rR {fs f}:fs.length<40->(∀g∈fs,dw c D k 1 g)->dw c D k 0 f->gf c D k ⟨6,0,[],fs++[f]⟩|done {v}:cG c k v->gf c D k ⟨6,1,[v],[]⟩|dead {s}:s=2\/s=3\/s=4->gf c D k ⟨6,s,[],[]⟩
structure oX(c:aA)(D:List au)(w:av):Prop where
 len:w.aN.length<=120
 obs:∀o∈w.aN,gf c D w.aN.length o
 outs:w.mo.length<=100
 out:∀o∈w.mo,0<=o.Port/\o.Port<=3/\jd o.N=W
 ins:w.dF.length<=50
 inn:∀i∈w.dF,jd i=W
 used:0<=w.Used/\w.Used<=1000000000
 Hu:w.bI.Nodup
 tl:w.bI.length<=w.aN.length
 task:∀t∈w.bI,0<=t/\t<w.aN.length/\(dh w t).Form=6
 all:∀i:Nat,i<w.aN.length->(dh w i).Form=6->(i:Int)∈w.bI
section
section
variable {c:aA}{D:List au}{w w':av}{k k':Nat}{f g:aj}{v u:az}{o:bB}{form:Int}{left:List aj}{at_:Int}
def oX.ob(h:oX c D w){n:Int}(h1:0<=n)(h2:n<w.aN.length):gf c D w.aN.length (dh w n):=h.obs _ (bW _ (by omega))
def eD(h:oX c D w)(d:cG c w.aN.length v)(a:gO w v form=Z o) :
  o.Form=form/\gf c D w.aN.length o/\v.Kind=5/\0<=v.N/\v.N<w.aN.length/\o=dh w v.N:=by
 unfold gO at a;split at a<;>rename_i b;cases a;have:0<=v.N/\v.N<w.aN.length:=by obtain h|h|h|h|h:=d<;>first|exact h.2|(have:=h.1;have:=b.1;omega)
 exact⟨b.2,h.ob this.1 this.2,b.1,this.1,this.2,rfl⟩;cases a
def cG.ref(b:cG c k v)(h:v.Kind=5):0<=v.N/\v.N<k:=by obtain a|a|a|a|a:=b<;>first|exact a.2|(have:=a.1;omega)
def cG.code(b:cG c k v)(h:v.Kind=4):0<=v.N/\v.N<c.cY.length:=by obtain a|a|a|a|a:=b<;>first|exact a.2|(have:=a.1;omega)
def cG.int(b:cG c k v)(h:v.Kind=1):jd v.N=W:=by obtain a|a|a|a|a:=b<;>first|exact a.2|(have:=a.1;omega)
theorem cG.mono(b:k<=k')(a:cG c k v):cG c k' v:=by
 obtain h|h|h|h|h:=a
 exact .inl h;exact .inr (.inl h);exact .inr (.inr (.inl h));exact .inr (.inr (.inr (.inl h)));exact .inr (.inr (.inr (.inr ⟨h.1,h.2.1,by omega⟩)))
theorem dw.mono{l:Int}(b:k<=k')(h:dw c D k l f):dw c D k' l f:=
 ⟨h.lo,h.hi,h.re,h.el,λv a=>(h.env v a).mono b,h.sl,λv a=>(h.stack v a).mono b⟩
theorem uu{l:L az}(h:∀u∈l,cG c k u)(a:cG c k v):∀u∈l++[v],cG c k u:=by
 grind
theorem dw.push(h:dw c D k 1 f)(a:cG c k v):dw c D k 0 (lS f v):=
 ⟨h.lo,h.hi,h.re,h.el,h.env,by have:=h.sl;grind[lS],uu h.stack a⟩
def gf.vals(h:gf c D k o):∀v∈o.fP,cG c k v:=by
 have one:∀{u:az},cG c k u->∀v∈[u],cG c k v:=λa v b=>by simp_all
 cases h with|data _ _ _ h=>exact h|func _ _ h=>exact h|cell h=>exact one h|chan _ h=>exact h|AN=>simp_all|rR=>simp_all|done h=>exact one h|dead=>simp_all
theorem gf.mono(f:k<=k')(h:gf c D k o):gf c D k' o:=by
 cases h with
 |data a b e d=>exact .data a b e λv i=>(d v i).mono f|func a b e=>exact .func a b λv i=>(e v i).mono f|cell a=>exact .cell (a.mono f)|chan a b=>exact .chan a λv i=>(b v i).mono f|AN a b e=>exact .AN a (λg j=>(b g j).mono f) e|rR a b e=>exact .rR a (λg j=>(b g j).mono f) (e.mono f)|done a=>exact .done (a.mono f)|dead a=>exact .dead a
theorem xO{n:Int}(hn:0<=n)(a:n<w.aN.length){i:Nat}:dh (gE w n o) i=if(i:Int)=n then o else dh w i:=by
 unfold dh gE
 grind
theorem qq{i:Nat}:dh (ia w o) i=if i=w.aN.length then o else dh w i:=by
 unfold dh ia
 grind
theorem oX.set(h:oX c D w){n:Int}(hn:0<=n)(g:n<w.aN.length)(l:gf c D w.aN.length o)(hf:o.Form=6↔(dh w n).Form=6):oX c D (gE w n o):=by
 have b:(gE w n o).aN.length=w.aN.length:=by unfold gE;simp
 have a:∀i:Nat,i<w.aN.length->((dh (gE w n o) i).Form=6↔(dh w i).Form=6):=by
  intro i d;rw[xO hn g]
  grind
 refine⟨by rw[b];exact h.len,λx f=>?_,h.outs,h.out,h.ins,h.inn,h.used,h.Hu,by rw[b];exact h.tl,λt k=>?_,λi d j=>?_⟩;rw[b];obtain f|f:=XE f
 exact h.obs x f
 simp_all
 let ⟨h1,h2,h3⟩:=h.task t k
 refine⟨h1,by omega,?_⟩;have e:((t.toNat:Nat):Int)=t:=by omega
 have:=(a t.toNat (by omega)).2 (by grind);rwa [e]at this;rw[b]at d;exact h.all i d ((a i d).1 j)
theorem oX.add(h:oX c D w)(hl:w.aN.length<120)(f:gf c D w.aN.length o)(hf:o.Form≠6):oX c D (ia w o):=by
 have g:(ia w o).aN.length=w.aN.length+1:=by unfold ia;simp
 refine⟨by omega,λx b=>?_,h.outs,h.out,h.ins,h.inn,h.used,h.Hu,by have:=h.tl;unfold ia;simp;omega,λt j=>?_,λi k a=>?_⟩;obtain b|b:=eX.1 b
 exact(h.obs x b).mono (by omega);rw[tC.1 b];exact f.mono (by omega)
 let ⟨h1,h2,h3⟩:=h.task t j
 refine⟨h1,by omega,?_⟩;have e:((t.toNat:Nat):Int)=t:=by omega
 rw[<-e,qq,bQ (by omega),e];exact h3;rw[qq]at a;by_cases d:i=w.aN.length
 simp_all
 rw[bQ d]at a;exact h.all i (by omega) a
abbrev ya(w:av)(o:bB):av:=⟨w.aN++[o],w.bI++[(w.aN.length:Int)],w.mo,w.dF,w.Used⟩
theorem oX.spawn(h:oX c D w)(hl:w.aN.length<120)(l:gf c D w.aN.length o)(hf:o.Form=6):oX c D (ya w o):=by
 have m:(ya w o).aN.length=w.aN.length+1:=by simp
 have j:∀i:Nat,dh (ya w o) i=if i=w.aN.length then o else dh w i:=λi=>qq (w:=w) (o:=o) (i:=i)
 refine⟨by omega,λx f=>?_,h.outs,h.out,h.ins,h.inn,h.used,?_,by have:=h.tl;simp;omega,λt g=>?_,λi p d=>?_⟩;obtain f|f:=eX.1 f
 exact(h.obs x f).mono (by omega);rw[tC.1 f];exact l.mono (by omega);refine List.nodup_append.2 ⟨h.Hu,List.pairwise_singleton _ _,λa j b n=>?_⟩;rw[tC.1 n];have:=(h.task a j).2.1;omega;obtain g|g:=eX.1 g
 let ⟨h1,h2,h3⟩:=h.task t g
 refine⟨h1,by omega,?_⟩;have e:((t.toNat:Nat):Int)=t:=by omega
 grind
 grind
 rw[j]at d;by_cases k:i=w.aN.length
 simp_all
 rw[bQ k]at d;exact fS _ (h.all i (by omega) d)
structure yC(c:aA)(D:List au)(w w':av)(fr:List aj)(e:Option aP):Prop where
 ok:oX c D w'
 tk:∃l,w'.bI=w.bI++l
 tn:e=Y->w'.bI=w.bI
 ln:w.aN.length<=w'.aN.length
 fm:∀i:Nat,i<w.aN.length->((dh w' i).Form=6↔(dh w i).Form=6)
 ob:gf c D w'.aN.length ⟨6,0,[],fr⟩
 sm:∀i:Nat,i<w.aN.length->(dh w i).Form=6->dh w' i=dh w i
def Bv(c:aA)(D:L au)(w:av):uq->Prop
 |.fail s=>s=2\/s=3\/s=4|.waits=>True|.done v=>cG c w.aN.length v|.go w' fr e=>yC c D w w' fr e
variable {e:Option aP}
def yC.same(h:oX c D w){fr:L aj}(a:gf c D w.aN.length ⟨6,0,[],fr⟩):yC c D w w fr e:=
 ⟨h,⟨[],by simp⟩,λ_=>rfl,eO _,λ_ _=>vS,a,λ_ _ _=>rfl⟩
theorem yC.set(h:oX c D w){fr:L aj}{e:O aP}{n:Int}(hn:0<=n)(a:n<w.aN.length)(d:gf c D w.aN.length o)(hf:o.Form≠6)(b:(dh w n).Form≠6)
  (g:gf c D w.aN.length ⟨6,0,[],fr⟩):yC c D w (gE w n o) fr e:=by
 have j:(gE w n o).aN.length=w.aN.length:=by unfold gE;simp
 refine⟨h.set hn a d ⟨λh=>absurd h hf,λh=>absurd h b⟩,⟨[],by simp[gE]⟩,λ_=>rfl,by omega,λi f=>?_,by grind,λi f h6=>?_⟩;rw[xO hn a]
 grind
 rw[xO hn a,bQ]
 grind
theorem yC.add(h:oX c D w){fr:L aj}{e:O aP}(hl:w.aN.length<120)(a:gf c D w.aN.length o)(hf:o.Form≠6)
  (f:gf c D (w.aN.length+1) ⟨6,0,[],fr⟩):yC c D w (ia w o) fr e:=by
 have b:(ia w o).aN.length=w.aN.length+1:=by unfold ia;simp
 refine⟨h.add hl a hf,⟨[],by simp[ia]⟩,λ_=>rfl,by omega,λi d=>?_,by grind,λi d _=>?_⟩;rw[qq,bQ (by omega)];rw[qq,bQ (by omega)]
def YS{n:Int}(h:jd n=W):cG c k (g8 n):=.inl ⟨rfl,h⟩
def RW{b:Bool}:cG c k (iD b):=.inr (.inl ⟨rfl,by cases b<;>simp[iD]⟩)
theorem zb:cG c k ep:=.inr (.inr (.inl ⟨rfl,rfl⟩))
def Xw(h:k<k'):cG c k' (vR k):=.inr (.inr (.inr (.inr ⟨rfl,by simp[vR],by simp[vR];omega⟩)))
structure Cx(c:aA)(D:List au)(w:av)(left:List aj)(i:bR)(f:aj)(l:List az)(n:Int):Prop where
 hp:Bx c D
 hw:oX c D w
 n0:0<=n
 n1:n<c.dF.length
 re:(dW D n).Reached=W
 hi:i=aW c n
 zB:f.At=n+1
 el:(f.Env.length:Int)=(dW D n).Env
 env:∀v∈f.Env,cG c w.aN.length v
 sl:(f.Stack.length:Int)+cA c i=(dW D n).Stack
 stack:∀v∈f.Stack,cG c w.aN.length v
 ll:l.length=cA c i
 vals:∀v∈l,cG c w.aN.length v
 fl:left.length<40
 left:∀g∈left,dw c D w.aN.length 1 g
variable {i:bR}{l:List az}{n:Int}
def Bx.akd(h:Bx c D)(a:0<=n)(h1:n<c.dF.length):PL c (aW c n):=h.ins _ (bW _ (by omega))
def Cx.io(x:Cx c D w left i f l n):PL c i:=x.hi▸x.hp.akd x.n0 x.n1
def Cx.nd(x:Cx c D w left i f l n):yM c i (dW D n):=x.hi▸(x.hp.dep.ok n x.n0 x.n1 x.re).2.2
def Cx.nx(x:Cx c D w left i f l n){y:Int×au}(d:y∈dO c n (dW D n)):0<=y.1/\y.1<c.dF.length/\dW D y.1=y.2/\(dW D y.1).Reached=W:=by
 let ⟨a,b,e⟩:=x.hp.dep.step n x.n0 x.n1 x.re y d
 exact⟨a,b,e,by rw[e];exact AH d x.re⟩
def Cx.val(x:Cx c D w left i f l n){j:Nat}(h:j<l.length):cG c w.aN.length (eU l j):=x.vals _ (bW _ h)
theorem Cx.tl(x:Cx c D w left i f l n){q:Int}(h:i.Op=q)(a:q≠18):l.length=nH.getD q.toNat 0:=by rw[x.ll];unfold cA;rw[h,bQ a]
def Cx.fr(x:Cx c D w left i f l n){p s e:Int}(j:(p,bY s e)∈dO c n (dW D n)){g:aj}(m:w.aN.length<=k)(h1:g.At=p)(h2:(g.Env.length:Int)=e)(h3:∀v∈g.Env,cG c k v)
  {d:Int} (h4:(g.Stack.length:Int)=s-d) (h5:∀v∈g.Stack,cG c k v):dw c D k d g:=by
 let ⟨a,b,h,r⟩:=x.nx j
 subst h1;exact⟨a,b,r,by rw[h,h2];rfl,h3,by rw[h,h4];rfl,h5⟩
def Zy(a:k<=k')(hl:left.length<40)(h:∀g∈left,dw c D k 1 g)(b:dw c D k' 0 g):gf c D k' ⟨6,0,[],left++[g]⟩:=
 .rR hl (λx d=>(h x d).mono a) b
def dS(q:Int):Prop:=q=1\/q=2\/q=3\/q=4\/q=5\/q=6\/q=7\/(13<=q/\q<=18)\/(21<=q/\q<=33)
def N6(hi:i=aW c n){d:au}(h:dS i.Op):(n+1,bY (d.Stack-cA c i+1) d.Env)∈dO c n d:=by
 subst hi;have a:¬((aW c n).Op=9\/(aW c n).Op=10\/(aW c n).Op=11\/(aW c n).Op=12\/(aW c n).Op=19):=by unfold dS at h;omega
 unfold dO fU;simp[a,jP];split<;>first|exact eI|(exfalso;unfold dS at h;omega)
def Cx.wait(x:Cx c D w left i f l n)(h:dS i.Op):dw c D w.aN.length 1 f:=
 x.fr (N6 x.hi h) (eO _) x.zB x.el x.env (by have:=x.sl;omega) x.stack
theorem Cx.push(x:Cx c D w left i f l n)(h:dS i.Op)(a:w.aN.length<=k)(b:cG c k v):gf c D k ⟨6,0,[],left++[lS f v]⟩:=
 Zy a x.fl x.left (((x.wait h).mono a).push b)
def Cx.fD(x:Cx c D w left i f l n)(h:dS i.Op)(a:cG c w.aN.length v){e:O aP}:Bv c D w (fD w left f v e):=yC.same x.hw (x.push h (eO _) a)
theorem Cx.made(x:Cx c D w left i f l n)(h:dS i.Op){e:O aP}(a:gf c D w.aN.length o)(hf:o.Form≠6):Bv c D w (pG w left f o e):=by unfold pG;split;exact .inr (.inr rfl);exact yC.add x.hw (by omega) a hf (x.push h (by omega) (Xw (by omega)))
theorem Hz(d:Bx c D)(h:qc c D n):0<=n/\n<c.dF.length/\(dW D n).Reached=W/\(dW D n).Stack=0:=by
 let ⟨i,f,h1,h2,h3,h4⟩:=h
 have g:(n,bY 0 ((dW D i).Env+1))∈dO c i (dW D i):=by
  grind[dO]
 let ⟨a,b,e⟩:=d.dep.step i f h1 h3 _ g
 exact⟨a,b,by rw[e];rfl,by rw[e];rfl⟩
theorem Pf(f:Bx c D)(n:oX c D w)(h:cG c w.aN.length u)(j:cG c w.aN.length v){b:aj}{r:Bool}(e:jE c w u v=Z b):dw c D w.aN.length 0 ⟨b.At,b.Env,b.Stack,r⟩:=by
 unfold jE at e;split at e;rename_i h4;cases e
 let ⟨h1,h2⟩:=h.code h4
 have k:=bW (l:=c.cY) (i:=u.N.toNat) 0 (by omega);have m:=f.oV _ k;have g:=f.dep.root _ k;exact⟨m.1,m.2,by rw[g];rfl,by rw[g];rfl,uu (l:=[]) (by simp) j,by rw[g];rfl,by simp⟩;split at e
 .rename_i o;cases e
  let ⟨h1,h2,_⟩:=eD n h o
  cases h2 with
  |func a b d=>
   let ⟨h3,h4,h5,h6⟩:=Hz f a
   exact⟨h3,h4,h5,by simp_all,uu d j,by grind,by simp⟩
  |_=>cases h1
 cases e
theorem pM:∀(f:aj)(fs:L aj)(v:az),∃l g,f::fs=l++[g]/\kN (f::fs) v=l++[lS g v]
 |f,[],v=>⟨[],f,rfl,rfl⟩|f,g::fs,v=>by
  let ⟨l,h,h1,h2⟩:=pM g fs v
  grind[kN]
theorem Jq{fs:L aj}(a:left.length+(f::fs).length<=40)(hl:∀g∈left,dw c D k 1 g)(h:∀g∈f::fs,dw c D k 1 g)(b:cG c k v):gf c D k ⟨6,0,[],left++kN (f::fs) v⟩:=by
 let ⟨l,g,h1,h2⟩:=pM f fs v
 rw[h2,<-wj];rw[h1]at h a;refine .rR (by grind) (λx d=>?_) ((h g (by simp)).push b)
 grind
theorem FK{fs:L aj}:(kN fs v).length=fs.length:=by
 cases fs with
 |nil=>rfl|cons f fs=>
  let ⟨l,g,h1,h2⟩:=pM f fs v
  grind
theorem Hj(a:oX c D w){l:L aj}(h:left.length+l.length<=40->gf c D w.aN.length ⟨6,0,[],left++l⟩):Bv c D w (kG w left l):=by unfold kG;split;exact .inr (.inr rfl);exact yC.same a (h (by omega))
theorem Pn(i:Bx c D)(e:oX c D w)(hl:∀g∈left,dw c D w.aN.length 1 g)(f:cG c w.aN.length u)(j:cG c w.aN.length v){r:Bool}:Bv c D w (sQ c w left u v r):=by
 unfold sQ;split;rename_i b k;exact Hj e λh=>.rR (by grind) hl (Pf i e f j k);split
 .rename_i l
  let ⟨h1,h2,_⟩:=eD e f l
  cases h2 with|AN a b d=>grind[Hj,Jq,FK]|_=>cases h1
 exact .inl rfl
mutual
theorem N9(e:oX c D w):∀(q:aB)(v:az)(l:L az),cG c w.aN.length v->tH c.Cons q->jB w q v=Z l->(∀u∈l,cG c w.aN.length u)/\(l.length:Int)=fW q
 |⟨form,n,text,parts⟩,v,l,f,b,h=>by
  unfold jB at h;unfold fW;by_cases h1:form=1;rw[bD h1]at h;cases h;obtain rfl:parts=[]:=by obtain h|h|h|h:=b<;>first|exact h.2.2.2|omega
  rw[bQ (by omega)];exact⟨(λu a=>by cases a),rfl⟩;rw[bQ h1]at h;by_cases h2:form=2
  grind
  rw[bQ h2]at h ⊢;have nil:form≠6->parts=[]:=λh6=>by obtain h|h|h|h:=b<;>first|exact h.2.2.2|omega
  by_cases h3:form=3;rw[bD h3]at h;rw[nil (by omega)];split at h<;>cases h;exact⟨(λu a=>by cases a),rfl⟩;rw[bQ h3]at h;by_cases h4:form=4;rw[bD h4]at h;rw[nil (by omega)];split at h<;>cases h;exact⟨(λu a=>by cases a),rfl⟩;rw[bQ h4]at h;by_cases h5:form=5;rw[bD h5]at h;rw[nil (by omega)];split at h<;>cases h;exact⟨(λu a=>by cases a),rfl⟩;rw[bQ h5]at h;split at h;cases h;rename_i o g;split at h;cases h;have d:nM c.Cons parts:=by obtain h|h|h|h:=b<;>first|exact h.2.2.2.2.2|(exfalso;have:=h.2.1;omega)
  exact Gq e parts o.fP l (eD e f g).2.1.vals d (by omega) h
theorem Gq(i:oX c D w):∀(qs:L aB)(vs:L az)(l:L az),(∀v∈vs,cG c w.aN.length v)->nM c.Cons qs->vs.length=qs.length->fF w qs vs=Z l->
  (∀u∈l,cG c w.aN.length u)/\(l.length:Int)=jY qs
 |[],vs,l,d,_,_,h=>by cases h;exact⟨(λu k=>by cases k),rfl⟩
 |q::qs,[],l,d,_,e,h=>by cases e
 |q::qs,v::vs,l,d,j,e,h=>by
  unfold fF at h;unfold jY;split at h;cases h;rename_i m f;split at h;cases h;rename_i n g;cases h;have a:=N9 i q v m (d v eI) j.1 f;have b:=Gq i qs vs n (λx o=>d x (hJ _ o)) j.2 (by simpa using e) g
  grind
end
theorem uL{α:Type}{q:α->Bool}:∀{l:L α}{k:Nat},jZ q l=Z k->∃h:k<l.length,q l[k]=W
 |a::l,k,h=>by
  unfold jZ at h;cases b:jZ q l with
  |some j=>
   let ⟨h1,h2⟩:=uL b
   grind
  |none=>
   grind
end
end
section
section
variable {c:aA}{D:List au}{w w':av}{f:aj}{v u:az}{o:bB}{left:List aj}{at_:Int}{i:bR}{l:List az}{n:Int}
def Cx.goto(x:Cx c D w left i f l n){p s e:Int}(a:(p,bY s e)∈dO c n (dW D n)){g:aj}{b:O aP}(h1:g.At=p)(h2:(g.Env.length:Int)=e)(h3:∀v∈g.Env,cG c w.aN.length v)
  (h4:(g.Stack.length:Int)=s) (h5:∀v∈g.Stack,cG c w.aN.length v):Bv c D w (.go w (left++[g]) b):=
 yC.same x.hw (Zy (eO _) x.fl x.left (x.fr a (eO _) h1 h2 h3 (by omega) h5))
def LV{d:au}(h:d.Reached=W):d=bY d.Stack d.Env:=by cases d;subst h;rfl
def afZ(x:Cx c D w left i f l n):Bv c D w (ir c w at_ left i f l):=by
 have io:=x.io;have nd:=x.nd;have hlen:=x.hw.len;have h1:=io.lo;have h2:=io.hi;have Qo:=x.sl;have hel:=x.el;have hfl:=x.fl;obtain⟨q,z⟩:∃q:Nat,i.Op=q:=⟨_,(Ay (by omega)).symm⟩;have hq1:1<=q:=by omega
 have hq2:q<=34:=by omega
 have A:(aW c n).Op=q:=by rw[<-x.hi];exact z
 have tl:q≠18->l.length=nH.getD q 0:=λh=>by rw[x.tl z (by omega)];rfl
 have K:q≠18->cA c i=nH.getD q 0:=λh=>by rw[<-x.ll];exact tl h
 have t:dS q->dS i.Op:=λh=>by rw[z];exact h
 have R:(aW c n).A=i.A:=by rw[<-x.hi]
 have ib:(aW c n).B=i.B:=by rw[<-x.hi]
 have E:fU c (aW c n) (dW D n)=(dW D n).Stack-(cA c i:Int)+(if(q:Int)=9\/(q:Int)=10\/(q:Int)=11\/(q:Int)=12\/(q:Int)=19 then 0 else 1):=by unfold fU;rw[<-x.hi,z]
 unfold ir;simp only[z,vT]
 match q,z,hq1,hq2,A,tl,K,t,E with
 |1,z,_,_,_,_,_,t,_=>exact x.fD (t (by unfold dS;omega)) (YS (io.int z))
 |2,z,_,_,_,_,_,t,_=>exact x.fD (t (by unfold dS;omega)) RW
 |3,z,_,_,_,_,_,t,_=>exact x.fD (t (by unfold dS;omega)) zb
 |4,z,_,_,_,_,_,t,_=>have:=nd.2.1 z;have:=io.place z;exact x.fD (t (by unfold dS;omega)) (x.env _ (bW _ (by omega)))
 |5,z,_,_,_,_,_,t,_=>exact x.fD (t (by unfold dS;omega)) (.inr (.inr (.inr (.inl ⟨rfl,io.code z⟩))))
 |6,z,_,_,A,_,_,t,E=>
  have hm:(i.A,bY 0 ((dW D n).Env+1))∈dO c n (dW D n):=by unfold dO;simp only[A,vT,R];exact hJ _ eI
  let ⟨a,b,e,r⟩:=x.nx hm
  exact x.made (t (by unfold dS;omega)) (.func ⟨n,x.n0,x.n1,A,x.re,R⟩ (by rw[e];simp only[bY];omega) x.env) (by simp)
 |7,z,_,_,_,tl,_,t,_=>
  have P:l.length=2:=tl (by decide);refine Pn x.hp x.hw (λg B=>?_) (x.val (by omega)) (x.val (by omega));obtain B|B:=eX.1 B
  exact x.left g B;rw[tC.1 B];exact x.wait (t (by unfold dS;omega))
 |8,z,_,_,_,tl,_,t,_=>have P:l.length=2:=tl (by decide);exact Pn x.hp x.hw x.left (x.val (by omega)) (x.val (by omega))
 |9,z,_,_,A,tl,K,t,E=>have hk:cA c i=1:=K (by decide);refine x.goto (p:=n+1) (s:=fU c (aW c n) (dW D n)) (e:=(dW D n).Env+1) (by unfold dO;simp only[A,vT];exact eI) x.zB (by simp only[j9,nK];omega) (uu x.env (x.val (by omega))) ?_ x.stack;rw[E];simp;omega
 |10,z,_,_,A,_,K,t,E=>have hA:=nd.2.2.1 z;have hB:=io.drop z;refine x.goto (p:=n+1) (s:=fU c (aW c n) (dW D n)) (e:=(dW D n).Env-i.A) (by unfold dO;simp only[A,vT,R];exact eI) x.zB ?_ (λv Q=>x.env v (Ve Q)) ?_ x.stack;simp only[Le];omega;rw[E];simp;omega
 |11,z,_,_,A,_,K,t,E=>have hk:cA c i=0:=K (by decide);refine x.goto (p:=i.A) (s:=(dW D n).Stack) (e:=(dW D n).Env) (by rw[<-LV x.re];unfold dO;simp only[A,vT,R];exact eI) rfl x.el x.env (by simp only;omega) x.stack
 |12,z,_,_,A,tl,K,t,E=>
  simp only;split;exact .inl rfl;have hs:(f.Stack.length:Int)=fU c (aW c n) (dW D n):=by rw[E];simp;omega
  by_cases h0:(eU l 0).N=0;rw[bD h0];exact x.goto (p:=i.A) (by unfold dO;simp only[A,vT,R];exact hJ _ eI) rfl x.el x.env hs x.stack;rw[bQ h0];exact x.goto (p:=n+1) (by unfold dO;simp only[A,vT];exact eI) x.zB x.el x.env hs x.stack
 |13,z,_,_,_,_,_,t,_|14,z,_,_,_,_,_,t,_|15,z,_,_,_,_,_,t,_|16,z,_,_,_,_,_,t,_|17,z,_,_,_,_,_,t,_=>
  have F:=t (by unfold dS;omega);simp only;have fin:∀m:Int,Bv c D w (if jd m=W then fD w left f (g8 m)else .fail 4):=by intro m;split;exact x.fD F (YS (by assumption));exact .inr (.inr rfl)
  unfold sM;split;split;exact .inl rfl;exact x.fD F RW;split;exact .inl rfl;split;exact x.fD F RW;exact fin _
 |18,z,_,_,_,_,_,t,_=>
  let ⟨a,b⟩:=io.con z
  have S:=x.ll;unfold cA at S;rw[bD (show i.Op=18 from z)]at S;have:=x.hp.cons _ (bW bg (show i.A.toNat<c.Cons.length by omega));exact x.made (t (by unfold dS;omega)) (.data a b (by rw[S];unfold kY;omega) x.vals) (by simp)
 |19,z,_,_,A,tl,K,t,E=>
  have hk:cA c i=1:=K (by decide)
  let ⟨a,b,_⟩:=io.Be z
  have v0:=x.val (j:=0) (by omega);simp only;split;rename_i hb
  let ⟨h3,h4⟩:=N9 x.hw _ _ _ v0 (x.hp.pats _ (bW _ (by omega))).1 hb
  refine x.goto (p:=n+1) (s:=fU c (aW c n) (dW D n)) (e:=(dW D n).Env+fW (iZ c i.A)) (by unfold dO;simp only[A,vT,R];exact eI) x.zB ?_ (λv Q=>?_) (by rw[E];simp;omega) x.stack;simp only[j9];unfold iZ;omega;obtain Q|Q:=eX.1 Q
  exact x.env v Q;exact h3 v Q;exact x.goto (p:=i.B) (s:=(dW D n).Stack) (e:=(dW D n).Env) (by rw[<-LV x.re];unfold dO;simp only[A,vT,ib];exact hJ _ eI) rfl x.el x.env
   (by simp only[j9,nK];omega) (uu x.stack v0)
 |20,z,_,_,_,_,_,_,_=>exact .inr (.inl rfl)|21,z,_,_,_,tl,_,t,_=>have P:l.length=1:=tl (by decide);exact x.made (t (by unfold dS;omega)) (.cell (x.val (by omega))) (by simp)
 |22,z,_,_,_,tl,_,t,_=>
  have P:l.length=1:=tl (by decide);simp only;unfold GQ;split;exact .inl rfl
  .rename_i o C
   let ⟨h3,h4,_⟩:=eD x.hw (x.val (by omega)) C
   have:0<o.fP.length:=by cases h4<;>first|(cases h3;done)|simp
   exact x.fD (t (by unfold dS;omega)) (h4.vals _ (bW _ this))
 |23,z,_,_,_,tl,_,t,_=>
  have P:l.length=2:=tl (by decide);simp only;unfold jr;split;exact .inl rfl;rename_i o C
  let ⟨h3,h4,h5,h6,h7,h8⟩:=eD x.hw (x.val (by omega)) C
  exact yC.set x.hw h6 h7 (.cell (x.val (by omega))) (by simp) (by rw[<-h8];omega) (x.push (t (by unfold dS;omega)) (eO _) zb)
 |24,z,_,_,_,tl,_,t,_=>
  have P:l.length=1:=tl (by decide);have F:=t (by unfold dS;omega);have mk:∀{fr:L aj},gf c D w.aN.length ⟨6,0,[],fr⟩->Bv c D w (if 120<=w.aN.length then .fail 4 else fD (ya w ⟨6,0,[],fr⟩) left f (vR w.aN.length) (Z ⟨at_,19,0,ep⟩)):=by
   intro fr C;split;exact .inr (.inr rfl);refine⟨x.hw.spawn (by omega) C rfl,⟨_,rfl⟩,(λh=>by cases h),by simp,λj hj=>?_,x.push (k:=(ya w ⟨6,0,[],fr⟩).aN.length) F (by simp) (Xw (by simp)),λj hj _=>?_⟩<;>
   rw[show dh (ya w ⟨6,0,[],fr⟩) j=if j=w.aN.length then _ else dh w j from qq (w:=w),bQ (by omega)]
  unfold BO;simp only;split;rename_i b hb;have:=Pf (r:=b.dI) x.hp x.hw (x.val (by omega)) zb hb;exact mk (.rR (fs:=[]) (by simp) (by simp) this);split
  .rename_i o C
   let ⟨h3,h4,_⟩:=eD x.hw (x.val (by omega)) C
   cases h4 with|AN a b d=>exact mk (Jq (left:=[]) (by simp only[Jv,lR];omega) (by simp) b zb)|_=>cases h3
  exact .inl rfl
 |25,z,_,_,_,tl,_,t,_=>
  have P:l.length=1:=tl (by decide);simp only;unfold JQ;split;exact .inl rfl
  .rename_i o C
   let ⟨h3,h4,_⟩:=eD x.hw (x.val (by omega)) C
   split;trivial
   .split
    .cases h4 with|dead a=>exact a|done a=>exact absurd rfl ‹_›|rR a b d=>exact absurd rfl ‹¬_=(0:Int)›|_=>cases h3
    .have:0<o.fP.length:=by cases h4 with|done a=>exact Nat.one_pos|dead a=>exact absurd ‹¬_› (by dsimp only;omega)|rR a b d=>exact absurd rfl ‹¬_=(0:Int)›|_=>cases h3
     exact x.fD (t (by unfold dS;omega)) (h4.vals _ (bW _ this))
 |26,z,_,_,_,_,_,t,_=>exact x.made (t (by unfold dS;omega)) (.chan (by simp) (by simp)) (by simp)
 |27,z,_,_,_,tl,_,t,_=>
  have P:l.length=2:=tl (by decide);simp only;unfold Jl;split;exact .inl rfl;rename_i o C
  let ⟨h3,h4,h5,h6,h7,h8⟩:=eD x.hw (x.val (by omega)) C
  split;trivial;exact yC.set x.hw h6 h7 (.chan (by rw[j9];simp only[nK];omega) (uu h4.vals (x.val (by omega)))) (by simp) (by rw[<-h8];omega) (x.push (t (by unfold dS;omega)) (eO _) zb)
 |28,z,_,_,_,tl,_,t,_=>
  have P:l.length=1:=tl (by decide);simp only;unfold Jh;split;exact .inl rfl
  .rename_i o C
   let ⟨h3,h4,h5,h6,h7,h8⟩:=eD x.hw (x.val (by omega)) C
   have hvs:=h4.vals;have hl4:o.fP.length<=4:=by cases h4<;>first|(cases h3;done)|assumption
   split;trivial;rename_i v l' hvl;rw[hvl]at hvs hl4;exact yC.set x.hw h6 h7 (.chan (by simp only[lR]at hl4;omega) λu hu=>hvs u (hJ _ hu)) (by simp) (by rw[<-h8];omega) (x.push (t (by unfold dS;omega)) (eO _) (hvs v eI))
 |29,z,_,_,_,tl,_,t,_=>
  have P:l.length=1:=tl (by decide);have v0:=x.val (j:=0) (by omega);have hp:=io.port z;simp only;unfold Vp;split;exact .inl rfl;split;exact .inr (.inr rfl);refine⟨⟨x.hw.len,x.hw.obs,by simp only[j9,nK];omega,λo C=>?_,x.hw.ins,x.hw.inn,x.hw.used,x.hw.Hu,x.hw.tl,x.hw.task,x.hw.all⟩,⟨[],by simp⟩,λ_=>rfl,eO _,λ_ _=>vS,x.push (t (by unfold dS;omega)) (eO _) zb,λ_ _ _=>rfl⟩;obtain C|C:=eX.1 C
  exact x.hw.out o C;rw[tC.1 C];exact⟨hp.1,hp.2,v0.int (by omega)⟩
 |30,z,_,_,_,_,_,t,_=>have hi:=x.hw.inn;have hil:=x.hw.ins;have hu:=x.hw.used;simp only;unfold inS;split;trivial;rename_i j l' hl';rw[hl']at hi hil;split;exact .inr (.inr rfl);exact⟨⟨x.hw.len,x.hw.obs,x.hw.outs,x.hw.out,by simp only[lR]at hil;simp only;omega,λy hy=>hi y (hJ _ hy),by simp only;omega,x.hw.Hu,x.hw.tl,x.hw.task,x.hw.all⟩,⟨[],by simp⟩,λ_=>rfl,eO _,λ_ _=>vS,x.push (t (by unfold dS;omega)) (eO _) (YS (hi j eI)),λ_ _ _=>rfl⟩
 |31,z,_,_,A,_,_,t,E=>
  refine Hj x.hw λh=>.rR (by simp only[j9,nK]at h ⊢;omega) (λg B=>?_) ?_;obtain B|B:=eX.1 B
  exact x.left g B;rw[tC.1 B];exact x.wait (t (by unfold dS;omega));exact x.fr (g:=⟨i.A,f.Env,[],W⟩) (p:=i.A) (s:=0) (e:=(dW D n).Env) (by unfold dO;simp only[A,vT,R];exact hJ _ eI) (eO _) rfl x.el x.env (by simp) (by simp)
 |32,z,_,_,A,_,_,t,E=>
  have all:∀g∈left++[f],dw c D w.aN.length 1 g:=λg B=>by
   obtain B|B:=eX.1 B
   exact x.left g B;rw[tC.1 B];exact x.wait (t (by unfold dS;omega))
  simp only;unfold Fv;split;exact .inr (.inl rfl);rename_i k hk'
  let ⟨h3,h4⟩:=uL hk'
  split;exact .inr (.inr rfl);have hlf:(left++[f]).length=left.length+1:=by simp
  have hd:(left++[f]).drop k=(left++[f])[k]::(left++[f]).drop (k+1):=TA h3;have hko:gf c D w.aN.length ⟨5,0,[],(left++[f]).drop k⟩:=by rw[hd];refine .AN (by rw[Tq];omega) (λg B=>?_) h4;exact all g (List.mem_of_mem_drop (i:=k) (by rw[hd];exact B))
  refine yC.add x.hw (by omega) hko (by simp) (.rR (by rw[Le];omega) (λg B=>(all g (Ve B)).mono (by omega)) ?_);exact x.fr (p:=i.A) (s:=0) (e:=(dW D n).Env+1) (by unfold dO;simp only[A,vT,R];exact hJ _ eI) (by omega) rfl (by simp only[j9,nK];omega)
   (uu (λv Q=>(x.env v Q).mono (by omega)) (Xw (by omega))) (by simp) (by simp)
 |33,z,_,_,_,_,_,t,_=>exact x.fD (t (by unfold dS;omega)) zb
 |34,z,_,_,_,tl,_,t,_=>
  have P:l.length=1:=tl (by decide);have v0:=x.val (j:=0) (by omega);have I:=x.left;obtain rfl|⟨l',g,rfl⟩:=Tw left
  exact v0;rw[Tv]at *
  rw[FI];simp at hfl;exact yC.same x.hw (.rR (by omega) (λg B=>I g (fS _ B)) ((I g (by simp)).push v0))
 |q+35,z,hq1,hq2,A,tl,K,t,E=>omega
theorem GP(e:gf c D w.aN.length o)(h6:o.Form=6)(h:o.N=0):∃fs f,o=⟨6,0,[],fs++[f]⟩/\fs.length<40/\(∀g∈fs,dw c D w.aN.length 1 g)/\dw c D w.aN.length 0 f:=by
 cases e with
 |rR a b d=>grind|done=>cases h
 |dead a=>simp_all|_=>cases h6
theorem Z0(b:Bx c D)(d:oX c D w){fs:L aj}{f:aj}(h1:fs.length<40)(h2:∀g∈fs,dw c D w.aN.length 1 g)(h3:dw c D w.aN.length 0 f) :
  Cx c D w fs (aW c f.At) ⟨f.At+1,f.Env,f.Stack.take (f.Stack.length-cA c (aW c f.At)),f.dI⟩ (f.Stack.drop (f.Stack.length-cA c (aW c f.At))) f.At:=by
 have nd:=(b.dep.ok f.At h3.lo h3.hi h3.re).2.2.1;have sl:=h3.sl;exact⟨b,d,h3.lo,h3.hi,h3.re,rfl,rfl,h3.el,h3.env,by grind,λv a=>h3.stack v (Ve a),by grind,
  λv a=>h3.stack v (List.mem_of_mem_drop a),h1,h2⟩
theorem RB{fs:L aj}{f:aj}:goS c w at_ ⟨6,0,[],fs++[f]⟩=
  ir c w at_ fs (aW c f.At) ⟨f.At+1,f.Env,f.Stack.take (f.Stack.length-cA c (aW c f.At)),f.dI⟩ (f.Stack.drop (f.Stack.length-cA c (aW c f.At))):=by
 grind[goS]
def Zz(a:Bx c D)(b:oX c D w)(d:gf c D w.aN.length o)(h6:o.Form=6)(e:o.N=0):Bv c D w (goS c w at_ o):=by obtain⟨g,f,rfl,h1,h2,h3⟩:=GP d h6 e;rw[RB];exact afZ (Z0 a b h1 h2 h3)
def Te(g:Bx c D)(d:oX c D w)(i:0<=at_)(h1:at_<w.bI.length){e:O aP}(hs:o9 c w at_=Z (w',e)) :
  oX c D w'/\(∃l,w'.bI=w.bI++l)/\(e=Y->w'.bI=w.bI):=by
 let ⟨t1,t2,t3⟩:=d.task _ (bW 0 (show at_.toNat<w.bI.length by omega))
 have f:=d.ob t1 t2;change 0<=bE w at_ at t1;change bE w at_<_ at t2;change(dh w (bE w at_)).Form=6 at t3;change gf c D _ (dh w (bE w at_))at f;unfold o9 at hs;simp only at hs;split at hs;cases hs
 .have a:=Zz (at_:=at_) g d f t3 (by omega);split at hs;cases hs;rename_i b;rw[b]at a;cases hs;exact⟨d.set t1 t2 (.dead a) ⟨λ_=>t3,λ_=>rfl⟩,⟨[],by simp[gE]⟩,λ_=>rfl⟩
  .rename_i b;rw[b]at a;cases hs;exact⟨d.set t1 t2 (.done a) ⟨λ_=>t3,λ_=>rfl⟩,⟨[],by simp[gE]⟩,λ_=>rfl⟩
  rename_i b;rw[b]at a;cases hs;have h:=a.ln;have e0:(((bE w at_).toNat:Nat):Int)=bE w at_:=by omega
  refine⟨a.ok.set t1 (by omega) a.ob ⟨λ_=>?_,λ_=>rfl⟩,a.tk,a.tn⟩;have:=a.fm (bE w at_).toNat (by omega)
  simp_all
end
end
section
abbrev SB:=U×Int×L aj×Int×L az×L az×Bool×Int×Int×Int×O aP×U
abbrev MB:=(L bB×L Int×L eg×L Int×Int×L bR×L aB×L Int×Int×L cz×L au×U)×U
abbrev MP:=L (Int×Bool)
abbrev tb(a:Int)(bl:L aj)(p:Int)(env st:L az)(rs:Bool)(op A B:Int)(e:O aP):SB:=((),a,bl,p,env,st,rs,op,A,B,e,())
abbrev mb(c:aA)(dd:L au)(w:av):MB:=((w.aN,w.bI,w.mo,w.dF,w.Used,c.dF,c.eA,c.cY,c.Main,c.Cons,dd,()),())
abbrev fl(s:Int):Any:=Any.a0 ⟨J,s⟩
abbrev wt:Any:=Any.a0 ⟨W,0⟩
section
variable {n:Nat}{a p op A B form:Int}{bl fr:List aj}{env st l:List az}{rs:Bool}{e:Option aP}{T:SB}{R:MB}{M:MP}{c:aA}{dd:List au}{w:av}{u v:az}{o:bB}
theorem WZ:F46 n ()=Z ((ep,()),()):=rfl
theorem Wi(k:Int):F252 n (k,())=Z ((g8 k,()),()):=rfl
def ZQ(b:Bool):F253 n (b,())=Z ((iD b,()),()):=by cases b<;>rfl
def aeX(k:Int):F253 n (aa k 1,())=Z ((iD (k==1),()),()):=ZQ _
def jJ(b:Bool)(s:Int):F259 n (b,s,())=bif b then Z (.ok ((),()))else Z (.iJ (fl s,())):=by cases b<;>rfl
def IZ(b:Bool):F268 n (b,())=bif b then Z (.ok ((),()))else Z (.iJ (wt,())):=by cases b<;>rfl
def Cy:F301 n (v,())=Z ((lA v,()),()):=by
 unfold F301 lA;by_cases h:v.Kind=4;simp[h,aU];rfl;by_cases a:v.Kind=5;simp[a,aU];rfl
 simp_all[aU]
theorem alN(l:L bB):F172 n (l,())=Z ((l,()),()):=rfl
theorem adx(l:L aj):F238 n (l,())=Z ((l,()),()):=rfl
theorem adw(l:L az):F239 n (l,())=Z ((l,()),()):=rfl
theorem e47(l:L Int):F47 n (l,())=Z ((l,()),()):=rfl
theorem aso(l:L eg):F156 n (l,())=Z ((l,()),()):=rfl
def ql{α:Type}(a:α)(l:L α)(k:Int)(b:k=((l.length+1:Nat):Int)):cL (a::l) 1 k=l:=by subst b;simp[cL]
variable {k:Int}{g:aj}
def kf{α:Type}(l m:L α)(a:k=(l.length:Int)):cL (l++m) 0 k=l:=by subst a;simp[cL]
def hY{α:Type}(l:L α)(a d:α)(m:L α){k:Nat}(b:k=l.length):(l++a::m).getD k d=a:=by simp_all
def IF{k:Nat}(h:k<=100000):aZ .i64 ((k+(0+1):Nat):Int) 1=(k:Int):=by rw[cW]<;>omega
def nS(h:st.length<=1000)(b:l.length<=1000):F251 n (tb a bl p env st rs op A B e,R,M,l,())=Z ((),tb a bl p env (st++l) rs op A B e,R,M,()):=by unfold F251 zW;simp(disch:=omega) [aU]
def nt(h:st.length<=1000):F260 n (tb a bl p env (st++[v]) rs op A B e,R,M,())=Z ((v,()),tb a bl p env st rs op A B e,R,M,()):=by unfold F260 Ia;simp(disch:=first|omega|simp only[g7];omega)only[aU,IF,hY,kf]
def tU(h:st.length<=900):F255 n (tb a bl p env (st++[u,v]) rs op A B e,R,M,())=Z ((u,v,()),tb a bl p env st rs op A B e,R,M,()):=by unfold F255;rw[show st++[u,v]=(st++[u])++[v]by simp,nt (by simp;omega)];simp[aU];rw[nt (by omega)];rfl
def js:O bB->bB×Bool×U
 |some o=>(o,W,())|none=>(bw,J,())
def ZP(a:v.Kind=5->0<=v.N/\v.N<w.aN.length):F300 n (T,mb c dd w,M,v,form,())=Z (js (gO w v form),T,mb c dd w,M,()):=by
 unfold F300 gO dh;by_cases h:v.Kind=5
 let ⟨h1,h2⟩:=a h
 by_cases b:(w.aN.getD v.N.toNat bw).Form=form
 simp_all[aU,js]
 simp_all[aU,js]
 simp_all[aU,js]
def zH(a:v.Kind=5->0<=v.N/\v.N<w.aN.length):F265 n (T,mb c dd w,M,v,form,())=match gO w v form with
  |some o=>Z (.ok ((o,()),T,mb c dd w,M,()))|none=>Z (.iJ (fl 2,T,mb c dd w,M,())):=by
 unfold F265;rw[ZP a];cases gO w v form<;>simp only[aU,jJ,js]
theorem Cz(h1:w.aN.length<=1000):F254 n (T,mb c dd w,M,o,())=
  if 120<=w.aN.length then Z (.iJ (fl 4,T,mb c dd w,M,()))else Z (.ok ((vR w.aN.length,()),T,mb c dd (ia w o),M,())):=by
 unfold F254;split;simp(disch:=omega) [aU,jJ];simp(disch:=first|omega|simp only[g7];omega)only[aU,jJ,ia,gG]
 grind[cW,vR]
def ahd(b:0<=k)(a:k<w.aN.length):F266 n (T,mb c dd w,M,k,o,())=Z ((),T,mb c dd (gE w k o),M,()):=by
 simp_all[F266,aU,alN,gE]
def ahh(d:0<=k)(a:k<w.bI.length)(e:0<=bE w k)(b:bE w k<w.aN.length):F121 n (mb c dd w,M,k,o,())=Z ((),mb c dd (gE w (bE w k) o),M,()):=by
 simp_all[bE,F121,aU,alN,gE]
def alL(h1:bl.length<=1000)(h2:fr.length<=1000):F257 n (tb a bl p env st rs op A B e,R,M,fr++[g],())=
  if 40<bl.length+1+(fr.length+1)then Z (.iJ (fl 4,tb a bl p env st rs op A B e,R,M,()))
  else Z (.ok ((),tb a (bl++[⟨p,env,st,rs⟩]++fr) g.At g.Env g.Stack g.dI op A B e,R,M,())):=by
 unfold F257 zV Mz Ib;split;simp(disch:=omega) [aU,jJ,bZ];simp(disch:=first|omega|simp only[g7];omega)only[aU,jJ,bZ,IF,hY,kf,zV]
def Et(hf:u.Kind=4->0<=u.N/\u.N<c.cY.length)(a:u.Kind=5->0<=u.N/\u.N<w.aN.length)(hn:∀o,gO w u 2=Z o->o.fP.length<=1000) :
  F256 n (T,mb c dd w,M,u,v,())=match jE c w u v with
   |none=>Z ((aR,J,()),T,mb c dd w,M,())|some b=>Z ((b,W,()),T,mb c dd w,M,()):=by
 unfold F256 jE;by_cases h:u.Kind=4
 simp_all[aU]
 simp(disch:=omega) [aU,h,jP];rw[ZP a];cases d:gO w u 2 with|none=>rfl|some o=>have:=hn o d;simp(disch:=first|omega|simp[g7];omega) [aU,js]
def FJ{l:L aj}:∀{m:L aj},m=l++[g]->kN m v=l++[lS g v]:=by
 intro m b;subst b
 induction l with
 |nil=>rfl|cons a l c=>
  simp_all[kN]
def OV(b:v.Kind=5->0<=v.N/\v.N<w.aN.length)(hn:∀o,gO w v 5=Z o->o.Frames≠[]/\o.Frames.length<=1000/\∀g∈o.Frames,g.Stack.length<=1000) :
  F258 n (T,mb c dd w,M,v,u,())=match gO w v 5 with
   |none=>Z (.iJ (fl 2,T,mb c dd w,M,()))|some o=>Z (.ok ((kN o.Frames u,()),T,mb c dd w,M,())):=by
 unfold F258;rw[zH b];cases d:gO w v 5 with
 |none=>rfl|some o=>
  let ⟨h1,h2,h3⟩:=hn o d
  obtain⟨l,g,a⟩:∃l g,o.Frames=l++[g]:=⟨_,_,(X2 h1).symm⟩;have f:=h3 g (by rw[a];simp);rw[a]at h2;simp only[j9,nK]at h2;have e:∀x:aj,(l++[g]).set l.length x=l++[x]:=λx=>by simp_all
  simp only;rw[FJ a];simp(disch:=first|omega|simp only[g7];omega)only[aU,adx,a,oZ,IF,hY,e,lS]
end
end
section
abbrev Out:=Rx (U×SB×MB×MP×U) (Any×SB×MB×MP×U)
def HV(c:aA)(dd:L au)(M:MP)(w:av)(a op A B:Int)(r:uq)(y:Out):Prop:=match r with
 |.fail s=>∃T w1,y=.iJ (fl s,T,mb c dd w1,M,())|.waits=>∃T w1,y=.iJ (wt,T,mb c dd w1,M,())|.done v=>∃(bl:L aj)(g:aj),y=.ok ((),tb a bl g.At g.Env g.Stack g.dI op A B (Z ⟨a,0,1,lA v⟩),mb c dd (gE w (bE w a) ⟨6,1,[v],[]⟩),M,())|.go w' fr e=>∃(bl:L aj)(g:aj),fr=bl++[g]/\bl.length<=1000/\y=.ok ((),tb a bl g.At g.Env g.Stack g.dI op A B e,mb c dd w',M,())
def dZ(c:aA)(dd:L au)(M:MP)(w:av)(a op A B:Int)(r:uq)(f:Nat->O Out):Prop:=∃y,Ev f y/\HV c dd M w a op A B r y
def dZ.of_eq{c:aA}{dd:L au}{M:MP}{w:av}{a op A B:Int}{r:uq}{f:Nat->O Out}{y:Out}(h:∀n,f n=Z y)(b:HV c dd M w a op A B r y):dZ c dd M w a op A B r f:=⟨y,bF h,b⟩
def El(x:O (U×SB×MB×MP×U)):O Out:=ah x λr=>Z (.ok r)
section
variable {c:aA}{dd:List au}{M:MP}{w:av}{left:List aj}{i:bR}{f:aj}{l:List az}{m a:Int}
abbrev s9(a:Int)(left:L aj)(f:aj)(l:L az)(i:bR):SB:=tb a left f.At f.Env (f.Stack++l) f.dI i.Op i.A i.B Y
structure Sx(c:aA)(dd:List au)(w:av)(left:List aj)(i:bR)(f:aj)(l:List az)(m a:Int):Prop where
 cx:Cx c dd w left i f l m
 a0:0<=a
 a1:a<w.bI.length
def Sx.st(x:Sx c dd w left i f l m a):f.Stack.length<=60/\f.Env.length<=30:=by have:=x.cx.sl;have:=x.cx.el;have:=(x.cx.hp.dep.ok m x.cx.n0 x.cx.n1 x.cx.re);omega
variable {q:Int}{e:Option aP}
def Sx.one(x:Sx c dd w left i f l m a)(h:i.Op=q)(b:q≠18)(d:nH.getD q.toNat 0=1):∃v,l=[v]/\cG c w.aN.length v:=by
 have:=x.cx.tl h b;rw[d]at this
 match l,this,x.cx.vals with
 |[v],_,e=>simp_all
theorem Sx.two(x:Sx c dd w left i f l m a){q:Int}(h:i.Op=q)(b:q≠18)(d:nH.getD q.toNat 0=2):∃u v,l=[u,v]/\cG c w.aN.length u/\cG c w.aN.length v:=by
 have:=x.cx.tl h b;rw[d]at this
 match l,this,x.cx.vals with
 |[u,v],_,e=>grind
def Sx.nil(x:Sx c dd w left i f l m a)(h:i.Op=q)(b:q≠18)(d:nH.getD q.toNat 0=0):l=[]:=by
 have:=x.cx.tl h b
 simp_all
def xN(x:Sx c dd w left i f l m a):w.aN.length<=120:=x.cx.hw.len
theorem l8(x:Sx c dd w left i f l m a){u:az}(b:cG c w.aN.length u):∀o,gO w u 2=Z o->o.fP.length<=1000:=by
 intro o d
 let ⟨h1,h2,_⟩:=eD x.cx.hw b d
 cases h2 with
 |func p q r=>
  let ⟨h3,h4,h5,_⟩:=Hz x.cx.hp p
  have:=x.cx.hp.dep.ok _ h3 h4 h5
  grind
 |_=>cases h1
def T2(x:Sx c dd w left i f l m a){b:Int}{g:aj}(hl:0<=b)(h:dw c dd w.aN.length b g):g.Stack.length<=60/\g.Env.length<=30:=by have:=x.cx.hp.dep.ok _ h.lo h.hi h.re;have:=h.sl;have:=h.el;omega
theorem pX(x:Sx c dd w left i f l m a){u:az}(b:cG c w.aN.length u):∀o,gO w u 5=Z o->o.Frames≠[]/\o.Frames.length<=1000/\∀g∈o.Frames,g.Stack.length<=1000:=by
 intro o d
 let ⟨h1,h2,_⟩:=eD x.cx.hw b d
 cases h2 with|AN p q r=>exact⟨by simp,by grind,λg e=>by have:=(T2 x (by omega) (q g e)).1;omega⟩|_=>cases h1
def jC{w':av}{v:az}{y:Out}(hl:left.length<=1000)(h:y=.ok ((),tb a left f.At f.Env (f.Stack++[v]) f.dI i.Op i.A i.B e,mb c dd w',M,())):HV c dd M w a i.Op i.A i.B (fD w' left f v e) y:=
 ⟨left,lS f v,rfl,hl,h⟩
def acn(x:Sx c dd w left i f l m a)(b:i.Op=1\/i.Op=2\/i.Op=3\/i.Op=5):dZ c dd M w a i.Op i.A i.B (ir c w a left i f l) (λn=>El (F173 n (s9 a left f l i,mb c dd w,M,()))):=by
 have g:=x.st;have d:l=[]:=by obtain h|h|h|h:=b<;>exact x.nil h (by decide) rfl
 have e:=x.cx.fl;subst d;unfold ir;obtain h|h|h|h:=b<;>simp only[show i.Op.toNat=_ from eu Int.toNat h,Int.reduceToNat]<;>refine .of_eq (λn=>?_) (jC (by omega) rfl)<;>unfold F173 MC El
 simp(disch:=first|omega|simp only[g7];omega)only[aU,jQ,Wi,nS]<;>rfl;simp(disch:=first|omega|simp only[g7];omega)only[aU,jQ,aeX,nS]<;>rfl;simp(disch:=first|omega|simp only[g7];omega)only[aU,jQ,WZ,nS]<;>rfl;simp(disch:=first|omega|simp only[g7];omega)only[aU,jQ,nS]<;>rfl
def aoO(x:Sx c dd w left i f l m a)(h:i.Op=4):dZ c dd M w a i.Op i.A i.B (ir c w a left i f l) (λn=>El (F174 n (s9 a left f l i,mb c dd w,M,()))):=by have e:=x.st;have b:=x.nil h (by decide) rfl;have d:=x.cx.fl;have h1:=x.cx.nd.2.1 h;have h2:=x.cx.io.place h;have h3:=x.cx.el;subst b;unfold ir;simp[show i.Op.toNat=4 from eu Int.toNat h];exact .of_eq (λn=>by unfold F174 El;simp(disch:=first|omega|simp only[g7];omega)only[aU,jQ,nS]<;>rfl) (jC (by omega) rfl)
def acm{o:bB}{k:Nat->O (Rx ((az×U)×SB×MB×MP×U) (Any×SB×MB×MP×U))}{T:SB}(g:Nat->(az×U)×SB×MB×MP×U->O Out)(hl:left.length<=1000)
  (h:∀n,k n=if 120<=w.aN.length then Z (.iJ (fl 4,T,mb c dd w,M,()))else Z (.ok ((vR w.aN.length,()),T,mb c dd (ia w o),M,())))
  (b:∀n,g n ((vR w.aN.length,()),T,mb c dd (ia w o),M,())=Z (.ok ((),tb a left f.At f.Env (f.Stack++[vR w.aN.length]) f.dI i.Op i.A i.B e,mb c dd (ia w o),M,()))) :
  dZ c dd M w a i.Op i.A i.B (pG w left f o e) (λn=>ah (k n) λy=>cB y (g n) λd=>Z (Rx.iJ d)):=by
 unfold pG;split;exact .of_eq (y:=.iJ (fl 4,T,mb c dd w,M,())) (λn=>by rw[h,bD (by assumption)];rfl) ⟨_,_,rfl⟩;exact .of_eq (λn=>by rw[h,bQ (by assumption)];exact b n) (jC hl rfl)
def aoN(x:Sx c dd w left i f l m a)(h:i.Op=6):dZ c dd M w a i.Op i.A i.B (ir c w a left i f l) (λn=>F175 n (s9 a left f l i,mb c dd w,M,())):=by have g:=x.st;have b:=x.nil h (by decide) rfl;have e:=x.cx.fl;have j:=xN x;subst b;unfold ir;simp[show i.Op.toNat=6 from eu Int.toNat h];refine acm (k:=λn=>_) (λn d=>_) (by omega) (λn=>Cz (by omega)) λn=>?_;simp(disch:=first|omega|simp only[g7];omega)only[aU,jQ,nS]
end
end
section
section
variable {c:aA}{dd:List au}{M:MP}{w:av}{left fr:List aj}{i:bR}{f g:aj}{l:List az}{m a op A B:Int}{u v:az}
theorem aS{X R B P α:Type}(x:X)(e:X->O α)(f:Nat->X->O α)(g:B->R->O α)(h:B->P->O α):cr (.next x) e f g h=e x:=rfl
theorem agl{X R B P α:Type}(b:B)(q:P)(e:X->O α)(f:Nat->X->O α)(g:B->R->O α)(h:B->P->O α):cr (.iJ b q) e f g h=h b q:=rfl
theorem RZ{b:aj}(h:jE c w u v=Z b):b=⟨b.At,b.Env,[],J⟩:=by
 grind[jE]
def Lu(h1:left.length<=900)(h2:fr.length<=900):dZ c dd M w a op A B (kG w (left++[f]) (fr++[g]))
  (λn=>ah (F257 n (tb a left f.At f.Env f.Stack f.dI op A B Y,mb c dd w,M,fr++[g],())) λy=>cB y (λx=>Z (G x)) λx=>Z (Rx.iJ x)):=by
 unfold kG;split;rename_i h;simp at h;exact .of_eq (λn=>by rw[alL (by omega) (by omega),bD (by omega)];rfl) ⟨_,_,rfl⟩;rename_i h;simp only[j9,nK]at h;exact .of_eq (y:=.ok ((),tb a (left++[f]++fr) g.At g.Env g.Stack g.dI op A B Y,mb c dd w,M,())) (λn=>by rw[alL (by omega) (by omega),bQ (by omega)];rfl)
  ⟨left++[f]++fr,g,by simp,by simp;omega,rfl⟩
theorem Gz(x:Sx c dd w left i f l m a)(d:cG c w.aN.length u){o:bB}(e:gO w u 5=Z o):∃b g,kN o.Frames v=b++[g]/\b.length<=40:=by
 let ⟨h1,h2,h3⟩:=pX x d o e
 let ⟨h,j,_⟩:=eD x.cx.hw d e
 cases j with
 |AN p q r=>
  obtain⟨b,n,s,k⟩:=pM _ _ v;refine⟨b,_,k,?_⟩
  grind
 |_=>cases h
theorem aoM(x:Sx c dd w left i f l m a)(h:i.Op=7):dZ c dd M w a i.Op i.A i.B (ir c w a left i f l) (λn=>F176 n (s9 a left f l i,mb c dd w,M,())):=by
 obtain⟨u,v,rfl,d,t⟩:=x.two h (by decide) rfl;have z:=x.st;have k:=x.cx.fl;unfold ir F176;simp[show i.Op.toNat=7 from eu Int.toNat h];show dZ _ _ _ _ _ _ _ _ (sQ c w (left++[f]) u v J) _;unfold sQ;cases e:jE c w u v with
 |some b=>
  have p:=RZ e;simp only
  let ⟨y,h1,h2⟩:=Lu (c:=c) (dd:=dd) (M:=M) (w:=w) (left:=left) (fr:=[]) (f:=f) (g:=b) (a:=a) (op:=i.Op) (A:=i.A) (B:=i.B) (by omega) (by simp)
  rw[NA]at h1 h2;refine⟨y,Ev.v5 (λn=>?_) h1,by grind⟩;simp(disch:=omega) [aU,tU,Et (λh=>d.code h) (λh=>d.ref h) (l8 x d),e]<;>rfl
 |none=>
  cases j:gO w u 5 with
  |none=>exact .of_eq (λn=>by simp(disch:=omega)only[aU,tU,Et (λh=>d.code h) (λh=>d.ref h) (l8 x d),e,OV (λh=>d.ref h) (pX x d),j]<;>rfl) ⟨_,_,rfl⟩
  |some o=>
   let ⟨q,r,s,C⟩:=Gz (v:=v) x d j
   simp only
   let ⟨y,h1,h2⟩:=Lu (c:=c) (dd:=dd) (M:=M) (w:=w) (left:=left) (fr:=q) (f:=f) (g:=r) (a:=a) (op:=i.Op) (A:=i.A) (B:=i.B) (by omega) (by omega)
   rw[<-s]at h1 h2;refine⟨y,Ev.v5 (λn=>?_) h1,h2⟩;simp(disch:=omega) [aU,tU,Et (λh=>d.code h) (λh=>d.ref h) (l8 x d),e,OV (λh=>d.ref h) (pX x d),j]<;>rfl
def aoL(x:Sx c dd w left i f l m a)(h:i.Op=8):dZ c dd M w a i.Op i.A i.B (ir c w a left i f l) (λn=>F177 n (s9 a left f l i,mb c dd w,M,())):=by
 obtain⟨u,v,rfl,d,s⟩:=x.two h (by decide) rfl;have t:=x.st;have p:=x.cx.fl;unfold ir F177;simp[show i.Op.toNat=8 from eu Int.toNat h];show dZ _ _ _ _ _ _ _ _ (sQ c w left u v f.dI) _;unfold sQ;cases e:jE c w u v with
 |some b=>simp only;unfold kG;rw[bQ (by simp;omega)];exact .of_eq (λn=>by simp(disch:=omega) [aU,tU,Et (λh=>d.code h) (λh=>d.ref h) (l8 x d),e]<;>rfl) ⟨left,⟨b.At,b.Env,b.Stack,f.dI⟩,rfl,by omega,rfl⟩
 |none=>
  cases g:gO w u 5 with
  |none=>exact .of_eq (λn=>by simp(disch:=omega)only[aU,tU,Et (λh=>d.code h) (λh=>d.ref h) (l8 x d),e,OV (λh=>d.ref h) (pX x d),g]<;>rfl) ⟨_,_,rfl⟩
  |some o=>
   let ⟨q,r,j,y⟩:=Gz (v:=v) x d g
   simp only;rw[j];unfold kG;split<;>rename_i k<;>simp only[j9,nK]at k;exact .of_eq (λn=>by simp(disch:=omega)only[aU,tU,Et (λh=>d.code h) (λh=>d.ref h) (l8 x d),e,OV (λh=>d.ref h) (pX x d),g,j,jJ,bZ]<;>rfl) ⟨_,_,rfl⟩;exact .of_eq (λn=>by simp(disch:=first|omega|simp only[g7];omega)only[aU,tU,Et (λh=>d.code h) (λh=>d.ref h) (l8 x d),e,OV (λh=>d.ref h) (pX x d),g,j,jJ,bZ,Ii,IF,hY,kf]<;>rfl)
    ⟨left++q,r,by simp,by simp;omega,rfl⟩
variable {e:Option aP}{k:Int}
def Cd{g:aj}{y:Out}(hl:left.length<=1000)(h:y=.ok ((),tb a left g.At g.Env g.Stack g.dI op A B e,mb c dd w,M,())):HV c dd M w a op A B (.go w (left++[g]) e) y:=
 ⟨left,g,rfl,hl,h⟩
def aoK(x:Sx c dd w left i f l m a)(h:i.Op=9):dZ c dd M w a i.Op i.A i.B (ir c w a left i f l) (λn=>El (F178 n (s9 a left f l i,mb c dd w,M,()))):=by obtain⟨v,rfl,d⟩:=x.one h (by decide) rfl;have e:=x.st;have b:=x.cx.fl;unfold ir F178 El;simp[show i.Op.toNat=9 from eu Int.toNat h];exact .of_eq (λn=>by simp(disch:=first|omega|simp only[g7];omega)only[aU,nt,z5]<;>rfl) (Cd (by omega) rfl)
def aoJ(x:Sx c dd w left i f l m a)(h:i.Op=10):dZ c dd M w a i.Op i.A i.B (ir c w a left i f l) (λn=>El (F179 n (s9 a left f l i,mb c dd w,M,()))):=by have b:=x.nil h (by decide) rfl;have e:=x.st;have d:=x.cx.fl;have h1:=x.cx.io.drop h;have h2:=x.cx.nd.2.2.1 h;have h3:=x.cx.el;subst b;unfold ir F179 El;simp only[show i.Op.toNat=10 from eu Int.toNat h];refine .of_eq (λn=>by simp(disch:=omega)only[aU,jQ,cW]<;>rfl) (Cd (by omega) ?_);rw[xG,show((f.Env.length:Int)-i.A).toNat=f.Env.length-i.A.toNat by omega]
def aoI(x:Sx c dd w left i f l m a)(h:i.Op=11):dZ c dd M w a i.Op i.A i.B (ir c w a left i f l) (λn=>El (F180 n (s9 a left f l i,mb c dd w,M,()))):=by have b:=x.nil h (by decide) rfl;have d:=x.cx.fl;subst b;unfold ir F180 El;simp only[show i.Op.toNat=11 from eu Int.toNat h];exact .of_eq (λn=>by simp[aU,jQ]<;>rfl) (Cd (by omega) rfl)
def aoH(x:Sx c dd w left i f l m a)(h:i.Op=12):dZ c dd M w a i.Op i.A i.B (ir c w a left i f l) (λn=>F181 n (s9 a left f l i,mb c dd w,M,())):=by obtain⟨v,rfl,g⟩:=x.one h (by decide) rfl;have j:=x.st;have d:=x.cx.fl;unfold ir F181;simp only[show i.Op.toNat=12 from eu Int.toNat h];show dZ _ _ _ _ _ _ _ _ (if v.Kind≠2 then _ else .go w (left++[⟨if v.N=0 then _ else _,_,_,_⟩]) Y) _;by_cases e:v.Kind=2;rw[bQ (by omega)];by_cases b:v.N=0;exact .of_eq (λn=>by simp(disch:=omega)only[aU,nt,jJ]<;>rfl) (Cd (by omega) (by rw[bD b]));exact .of_eq (λn=>by simp(disch:=omega)only[aU,nt,jJ]<;>rfl) (Cd (by omega) (by rw[bQ b]));rw[bD e];exact .of_eq (λn=>by simp(disch:=omega)only[aU,nt,jJ]<;>rfl) ⟨_,_,rfl⟩
def adv{n:Nat}{p:Int}{bl:L aj}{env st:L az}{b:Bool}{R:MB}(h:st.length<=900):F262 n (tb a bl p env (st++[u,v]) b op A B e,R,M,())=
  if u.Kind=1/\v.Kind=1 then Z (.ok ((u.N,v.N,()),tb a bl p env st b op A B e,R,M,()))else Z (.iJ (fl 2,tb a bl p env st b op A B e,R,M,())):=by
 unfold F262 SI;by_cases h1:u.Kind=1;by_cases h2:v.Kind=1
 simp_all[aU,tU,jJ]
 simp_all[aU,tU,jJ]
 simp_all[aU,tU,jJ]
def ajk{F:Nat->O Out}(hl:left.length<=1000)(h:∀n,F n=if jd k=W then Z (.ok ((),tb a left f.At f.Env (f.Stack++[g8 k]) f.dI i.Op i.A i.B Y,mb c dd w,M,()))else Z (.iJ (fl 4,tb a left f.At f.Env f.Stack f.dI i.Op i.A i.B Y,mb c dd w,M,()))) :
  dZ c dd M w a i.Op i.A i.B (if jd k=W then fD w left f (g8 k)else .fail 4) F:=by
 split;exact .of_eq (λn=>by rw[h,bD (by assumption)]) (jC hl rfl);exact .of_eq (λn=>by rw[h,bQ (by assumption)]) ⟨_,_,rfl⟩
def xS(h:-1000000000<=k):jd k=decide (k<=1000000000):=by simp[jd,h]
def LC(h:k< -1000000000):jd k=J:=by simp[jd];omega
def Ys{x y:Int}(h1:jd x=W)(h2:jd y=W):-1000000000000000000<=x*y/\x*y<=1000000000000000000:=by
 simp[jd,eW,qM]at h1 h2;have h3:(x*y).natAbs<=1000000000*1000000000:=by rw[Int.natAbs_mul];exact NK (by omega) (by omega)
 omega
def af5(x:Sx c dd w left i f l m a)(e:i.Op=13\/i.Op=14\/i.Op=15):dZ c dd M w a i.Op i.A i.B (ir c w a left i f l) (λn=>F182 n (s9 a left f l i,mb c dd w,M,())):=by
 obtain⟨u,v,rfl,o,p⟩:∃u v,l=[u,v]/\cG c w.aN.length u/\cG c w.aN.length v:=by obtain h|h|h:=e<;>exact x.two h (by decide) rfl
 have s:=x.st;have q:=x.cx.fl;have r:ir c w a left i f [u,v]=sM w left f i.Op u v:=by unfold ir;obtain h|h|h:=e<;>simp only[show i.Op.toNat=_ from eu Int.toNat h,Int.reduceToNat]<;>rfl
 rw[r];unfold sM F182;rw[bQ (by omega)];by_cases g:u.Kind=1/\v.Kind=1
 .rw[bQ (by omega),bQ (by omega)];have j:=o.int g.1;have k:=p.int g.2;have t:=Ys j k;simp[jd,eW,qM]at j k;simp only;refine ajk (by omega) λn=>?_;obtain h|h|h:=e
  all_goals
   simp only[h,ki,Int.reduceEq,jP];rw[adv (by omega),bD g]
  by_cases b:-1000000000<=u.N+v.N;by_cases d:u.N+v.N<=1000000000;simp(disch:=first|omega|simp only[g7];omega)only[aU,h,bZ,aS,rM,jJ,Wi,nS,xS b,kO d,ki];simp(disch:=omega) [aU,h,bZ,aS,rM,jJ,xS b,jq d,ND,jP];simp(disch:=omega) [aU,h,bZ,aS,rM,jJ,LC (Int.not_le.1 b),ND,jP];by_cases b:-1000000000<=u.N-v.N;by_cases d:u.N-v.N<=1000000000;simp(disch:=first|omega|simp only[g7];omega)only[aU,h,cW,aS,rM,jJ,Wi,nS,xS b,kO d,ki];simp(disch:=omega) [aU,h,cW,aS,rM,jJ,xS b,jq d,ND,jP];simp(disch:=omega) [aU,h,cW,aS,rM,jJ,LC (Int.not_le.1 b),ND,jP];by_cases b:-1000000000<=u.N*v.N;by_cases d:u.N*v.N<=1000000000;simp(disch:=first|omega|simp only[g7];omega)only[aU,h,Ln,aS,rM,jJ,Wi,nS,xS b,kO d,ki];simp(disch:=omega) [aU,h,Ln,aS,rM,jJ,xS b,jq d,ND,jP];simp(disch:=omega) [aU,h,Ln,aS,rM,jJ,LC (Int.not_le.1 b),ND,jP]
 rw[bD (by omega)];exact .of_eq (λn=>by rw[adv (by omega),bQ g];rfl) ⟨_,_,rfl⟩
def aoG(x:Sx c dd w left i f l m a)(h:i.Op=16):dZ c dd M w a i.Op i.A i.B (ir c w a left i f l) (λn=>F183 n (s9 a left f l i,mb c dd w,M,())):=by obtain⟨u,v,rfl,e,g⟩:=x.two h (by decide) rfl;have j:=x.st;have d:=x.cx.fl;unfold ir F183;simp[show i.Op.toNat=16 from eu Int.toNat h];show dZ _ _ _ _ _ _ _ _ (sM w left f i.Op u v) _;unfold sM;rw[bQ (by omega)];by_cases b:u.Kind=1/\v.Kind=1;rw[bQ (by omega),bD h];exact .of_eq (λn=>by rw[adv (by omega),bD b];simp(disch:=first|omega|simp only[g7];omega)only[aU,ZQ,nS]<;>rfl) (jC (by omega) rfl);rw[bD (by omega)];exact .of_eq (λn=>by rw[adv (by omega),bQ b];rfl) ⟨_,_,rfl⟩
def aoF(x:Sx c dd w left i f l m a)(h:i.Op=17):dZ c dd M w a i.Op i.A i.B (ir c w a left i f l) (λn=>F184 n (s9 a left f l i,mb c dd w,M,())):=by
 obtain⟨u,v,rfl,b,g⟩:=x.two h (by decide) rfl;have j:=x.st;have d:=x.cx.fl;have e:1<=u.Kind:=by obtain h|h|h|h|h:=b<;>(have:=h.1;omega)
 unfold ir F184 Ih;simp[show i.Op.toNat=17 from eu Int.toNat h];show dZ _ _ _ _ _ _ _ _ (sM w left f i.Op u v) _;unfold sM;rw[bD h];have k:iD (aa u.N v.N)=iD (u.N==v.N):=rfl;by_cases o:u.Kind=v.Kind;by_cases h3:3<u.Kind;rw[bD (by omega)];exact .of_eq (λn=>by simp(disch:=omega)only[aU,tU,jJ]<;>rfl) ⟨_,_,rfl⟩;rw[bQ (by omega)];refine .of_eq (λn=>?_) (jC (by omega) rfl);by_cases p:u.Kind=1;simp(disch:=first|omega|simp only[g7];omega)only[aU,tU,jJ,ZQ,nS]<;>rfl;by_cases q:u.Kind=2;simp(disch:=first|omega|simp only[g7];omega)only[aU,tU,jJ,ZQ,nS]<;>rfl;simp(disch:=first|omega|simp only[g7];omega)only[aU,tU,jJ,ZQ,nS]<;>rfl;rw[bD (by omega)];exact .of_eq (λn=>by simp(disch:=omega)only[aU,tU,jJ]<;>rfl) ⟨_,_,rfl⟩
def aoC(x:Sx c dd w left i f l m a)(h:i.Op=20):dZ c dd M w a i.Op i.A i.B (ir c w a left i f l) (λn=>F187 n (s9 a left f l i,mb c dd w,M,())):=by unfold ir F187;simp[show i.Op.toNat=20 from eu Int.toNat h];exact .of_eq (λn=>by simp only[aU,jJ]<;>rfl) ⟨_,_,rfl⟩
def aor(x:Sx c dd w left i f l m a)(h:i.Op=31):dZ c dd M w a i.Op i.A i.B (ir c w a left i f l) (λn=>F198 n (s9 a left f l i,mb c dd w,M,())):=by
 have b:=x.nil h (by decide) rfl;have d:=x.cx.fl;subst b;unfold ir F198;simp[show i.Op.toNat=31 from eu Int.toNat h]
 let ⟨y,h1,h2⟩:=Lu (c:=c) (dd:=dd) (M:=M) (w:=w) (left:=left) (fr:=[]) (f:=f) (g:=⟨i.A,f.Env,[],W⟩) (a:=a) (op:=i.Op) (A:=i.A) (B:=i.B) (by omega) (by simp)
 refine⟨y,Ev.v5 (λn=>?_) h1,h2⟩;simp only[s9,tb,jQ]<;>rfl
def aop(x:Sx c dd w left i f l m a)(h:i.Op=33):dZ c dd M w a i.Op i.A i.B (ir c w a left i f l) (λn=>El (F200 n (s9 a left f l i,mb c dd w,M,()))):=by have b:=x.nil h (by decide) rfl;have e:=x.st;have d:=x.cx.fl;subst b;unfold ir F200 El;simp[show i.Op.toNat=33 from eu Int.toNat h];exact .of_eq (λn=>by simp(disch:=first|omega|simp only[g7];omega)only[aU,jQ,WZ,nS,Cy]<;>rfl) (jC (by omega) rfl)
end
end
section
section
variable {c:aA}{dd:List au}{M:MP}{w:av}{left fr:List aj}{i:bR}{f g:aj}{l:List az}{m a op A B:Int}{u v:az}
theorem aoE(x:Sx c dd w left i f l m a)(h:i.Op=18):dZ c dd M w a i.Op i.A i.B (ir c w a left i f l) (λn=>F185 n (s9 a left f l i,mb c dd w,M,())):=by
 have e:=x.st;have d:=x.cx.fl;have g:=xN x
 let ⟨h1,h2⟩:=x.cx.io.con h
 have b:=x.cx.ll;unfold cA kY at b;rw[bD h]at b;have j:=x.cx.hp.cons _ (bW bg (show i.A.toNat<c.Cons.length by omega));have h3:aZ .i64 ((f.Stack.length+l.length:Nat):Int) (c.Cons.getD i.A.toNat bg).lu=f.Stack.length:=by rw[cW]<;>omega
 have h4:cL (f.Stack++l) (f.Stack.length:Int) ((f.Stack.length+l.length:Nat):Int)=l:=by unfold cL;rw[show(((f.Stack.length+l.length:Nat):Int).toNat)=(f.Stack++l).length by grind,QN];simp
 unfold ir;simp[show i.Op.toNat=18 from eu Int.toNat h];unfold pG F185 Ig CU;split;exact .of_eq (λn=>by simp(disch:=omega)only[aU,h3,adw,Cz,bD (show 120<=w.aN.length by assumption)]<;>rfl) ⟨_,_,rfl⟩;exact .of_eq (λn=>by simp(disch:=first|omega|simp only[g7];omega)only[aU,h3,h4,adw,Cz,bQ (show ¬120<=w.aN.length by assumption),kf,nS]<;>rfl) (jC (by omega) rfl)
def aoB(x:Sx c dd w left i f l m a)(h:i.Op=21):dZ c dd M w a i.Op i.A i.B (ir c w a left i f l) (λn=>F188 n (s9 a left f l i,mb c dd w,M,())):=by obtain⟨v,rfl,d⟩:=x.one h (by decide) rfl;have e:=x.st;have b:=x.cx.fl;have g:=xN x;unfold ir;simp[show i.Op.toNat=21 from eu Int.toNat h];unfold pG F188;split;exact .of_eq (λn=>by simp(disch:=omega)only[aU,nt,Cz,bD (show 120<=w.aN.length by assumption)]<;>rfl) ⟨_,_,rfl⟩;exact .of_eq (λn=>by simp(disch:=first|omega|simp only[g7];omega)only[aU,nt,Cz,bQ (show ¬120<=w.aN.length by assumption),nS,Cy]<;>rfl) (jC (by omega) rfl)
def aow(x:Sx c dd w left i f l m a)(h:i.Op=26):dZ c dd M w a i.Op i.A i.B (ir c w a left i f l) (λn=>F193 n (s9 a left f l i,mb c dd w,M,())):=by have b:=x.nil h (by decide) rfl;have e:=x.st;have d:=x.cx.fl;have g:=xN x;subst b;unfold ir;simp[show i.Op.toNat=26 from eu Int.toNat h];unfold pG F193;split;exact .of_eq (λn=>by simp(disch:=omega)only[aU,Cz,bD (show 120<=w.aN.length by assumption)]<;>rfl) ⟨_,_,rfl⟩;exact .of_eq (λn=>by simp(disch:=first|omega|simp only[g7];omega)only[aU,jQ,Cz,bQ (show ¬120<=w.aN.length by assumption),nS,WZ,Cy]<;>rfl) (jC (by omega) rfl)
def aoA(x:Sx c dd w left i f l m a)(h:i.Op=22):dZ c dd M w a i.Op i.A i.B (ir c w a left i f l) (λn=>F189 n (s9 a left f l i,mb c dd w,M,())):=by
 obtain⟨v,rfl,b⟩:=x.one h (by decide) rfl;have g:=x.st;have e:=x.cx.fl;unfold ir;simp[show i.Op.toNat=22 from eu Int.toNat h];show dZ _ _ _ _ _ _ _ _ (GQ w a left f v) _;unfold GQ F189;cases d:gO w v 3 with
 |none=>exact .of_eq (λn=>by simp(disch:=omega)only[aU,nt,zH (λh=>b.ref h),d]<;>rfl) ⟨_,_,rfl⟩
 |some o=>
  let ⟨h3,h4,_⟩:=eD x.cx.hw b d
  have j:0<o.fP.length:=by cases h4<;>first|(cases h3;done)|simp
  exact .of_eq (λn=>by simp(disch:=first|omega|simp only[g7];omega)only[aU,nt,zH (λh=>b.ref h),d,nS,Cy]<;>rfl) (jC (by omega) rfl)
def aoz(x:Sx c dd w left i f l m a)(h:i.Op=23):dZ c dd M w a i.Op i.A i.B (ir c w a left i f l) (λn=>F190 n (s9 a left f l i,mb c dd w,M,())):=by
 obtain⟨u,v,rfl,b,j⟩:=x.two h (by decide) rfl;have k:=x.st;have e:=x.cx.fl;unfold ir;simp[show i.Op.toNat=23 from eu Int.toNat h];show dZ _ _ _ _ _ _ _ _ (jr w a left f u v) _;unfold jr F190;cases d:gO w u 3 with
 |none=>exact .of_eq (λn=>by simp(disch:=omega)only[aU,tU,zH (λh=>b.ref h),d]<;>rfl) ⟨_,_,rfl⟩
 |some o=>
  let ⟨h3,h4,h5,h6,g,_⟩:=eD x.cx.hw b d
  exact .of_eq (λn=>by simp(disch:=first|omega|simp only[g7];omega)only[aU,tU,zH (λh=>b.ref h),d,ahd h6 g,WZ,nS,Cy]<;>rfl) (jC (by omega) rfl)
def aov(x:Sx c dd w left i f l m a)(h:i.Op=27):dZ c dd M w a i.Op i.A i.B (ir c w a left i f l) (λn=>F194 n (s9 a left f l i,mb c dd w,M,())):=by
 obtain⟨u,v,rfl,b,r⟩:=x.two h (by decide) rfl;have s:=x.st;have g:=x.cx.fl;unfold ir;simp[show i.Op.toNat=27 from eu Int.toNat h];show dZ _ _ _ _ _ _ _ _ (Jl w a left f u v) _;unfold Jl F194;cases d:gO w u 4 with
 |none=>exact .of_eq (λn=>by simp(disch:=omega)only[aU,tU,zH (λh=>b.ref h),d]<;>rfl) ⟨_,_,rfl⟩
 |some o=>
  let ⟨h3,h4,h5,h6,j,_⟩:=eD x.cx.hw b d
  obtain⟨e,t,y⟩:o=⟨4,0,o.fP,[]⟩/\o.fP.length<=4/\True:=by cases h4<;>first|(cases h3;done)|simp_all
  have k:o.Form=4:=h3;have p:o.N=0:=by rw[e]
  have q:o.Frames=[]:=by rw[e]
  simp only;split;exact .of_eq (λn=>by simp(disch:=omega)only[aU,tU,zH (λh=>b.ref h),d,IZ]<;>rfl) ⟨_,_,rfl⟩;exact .of_eq (λn=>by simp(disch:=first|omega|simp only[g7];omega)only[aU,tU,zH (λh=>b.ref h),d,IZ,k,p,q,ahd h6 j,WZ,nS,Cy]<;>rfl) (jC (by omega) rfl)
def aou(x:Sx c dd w left i f l m a)(h:i.Op=28):dZ c dd M w a i.Op i.A i.B (ir c w a left i f l) (λn=>F195 n (s9 a left f l i,mb c dd w,M,())):=by
 obtain⟨u,rfl,d⟩:=x.one h (by decide) rfl;have z:=x.st;have q:=x.cx.fl;unfold ir;simp[show i.Op.toNat=28 from eu Int.toNat h];show dZ _ _ _ _ _ _ _ _ (Jh w a left f u) _;unfold Jh F195;cases e:gO w u 4 with
 |none=>exact .of_eq (λn=>by simp(disch:=omega)only[aU,nt,zH (λh=>d.ref h),e]<;>rfl) ⟨_,_,rfl⟩
 |some o=>
  let ⟨h3,h4,h5,h6,r,_⟩:=eD x.cx.hw d e
  obtain⟨j,k,A⟩:o=⟨4,0,o.fP,[]⟩/\o.fP.length<=4/\True:=by cases h4<;>first|(cases h3;done)|simp_all
  have s:o.Form=4:=h3;have t:o.N=0:=by rw[j]
  have y:o.Frames=[]:=by rw[j]
  simp only;cases b:o.fP with|nil=>exact .of_eq (λn=>by simp(disch:=omega)only[aU,nt,zH (λh=>d.ref h),e,IZ,b]<;>rfl) ⟨_,_,rfl⟩|cons v g=>rw[b]at k;simp only[lR]at k;have p:cL (v::g) 1 (((v::g).length:Nat):Int)=g:=ql v g _ rfl;simp only[lR]at p;refine .of_eq (λn=>?_) (jC (by omega) rfl);simp(disch:=first|omega|simp only[g7];omega)only[aU,nt,zH (λh=>d.ref h),e,IZ,b,s,t,y,ahd h6 r,nS,Cy,kQ];rw[p]
theorem aox(x:Sx c dd w left i f l m a)(h:i.Op=25):dZ c dd M w a i.Op i.A i.B (ir c w a left i f l) (λn=>F192 n (s9 a left f l i,mb c dd w,M,())):=by
 obtain⟨u,rfl,b⟩:=x.one h (by decide) rfl;have j:=x.st;have g:=x.cx.fl;unfold ir;simp[show i.Op.toNat=25 from eu Int.toNat h];show dZ _ _ _ _ _ _ _ _ (JQ w a left f u) _;unfold JQ F192;cases d:gO w u 6 with
 |none=>exact .of_eq (λn=>by simp(disch:=omega)only[aU,nt,zH (λh=>b.ref h),d]<;>rfl) ⟨_,_,rfl⟩
 |some o=>
  let ⟨h3,h4,_⟩:=eD x.cx.hw b d
  simp only;by_cases e:o.N=0;rw[bD e];exact .of_eq (λn=>by simp(disch:=omega)only[aU,nt,zH (λh=>b.ref h),d,IZ]<;>rfl) ⟨_,_,rfl⟩
  .rw[bQ e];by_cases h1:o.N=1
   .rw[bQ (by omega)];have k:0<o.fP.length:=by cases h4 with|done=>grind|dead p=>simp_all|rR=>grind|_=>cases h3
    exact .of_eq (λn=>by simp(disch:=first|omega|simp only[g7];omega)only[aU,nt,zH (λh=>b.ref h),d,IZ,jJ,nS,Cy]<;>rfl) (jC (by omega) rfl)
   rw[bD h1];exact .of_eq (λn=>by simp(disch:=omega) [aU,nt,zH (λh=>b.ref h),d,IZ,jJ]<;>rfl) ⟨_,_,rfl⟩
def aot(x:Sx c dd w left i f l m a)(h:i.Op=29):dZ c dd M w a i.Op i.A i.B (ir c w a left i f l) (λn=>F196 n (s9 a left f l i,mb c dd w,M,())):=by obtain⟨v,rfl,e⟩:=x.one h (by decide) rfl;have g:=x.st;have b:=x.cx.fl;unfold ir;simp[show i.Op.toNat=29 from eu Int.toNat h];show dZ _ _ _ _ _ _ _ _ (Vp w a left f i.A v) _;unfold Vp F196 xp;by_cases d:v.Kind=1;rw[bQ (by omega)];split;exact .of_eq (λn=>by simp(disch:=omega)only[aU,nt,jJ]<;>rfl) ⟨_,_,rfl⟩;exact .of_eq (λn=>by simp(disch:=first|omega|simp only[g7];omega)only[aU,nt,jJ,WZ,nS,Cy]<;>rfl) (jC (by omega) rfl);rw[bD d];exact .of_eq (λn=>by simp(disch:=omega)only[aU,nt,jJ]<;>rfl) ⟨_,_,rfl⟩
def aos(x:Sx c dd w left i f l m a)(h:i.Op=30):dZ c dd M w a i.Op i.A i.B (ir c w a left i f l) (λn=>F197 n (s9 a left f l i,mb c dd w,M,())):=by have j:=x.nil h (by decide) rfl;have q:=x.st;have o:=x.cx.fl;have e:=x.cx.hw.ins;have r:=x.cx.hw.used;subst j;unfold ir;simp only[show i.Op.toNat=30 from eu Int.toNat h];unfold inS F197 Ie;cases b:w.dF with|nil=>exact .of_eq (y:=.iJ (wt,s9 a left f [] i,mb c dd w,M,())) (λn=>by simp(disch:=omega)only[aU,jQ,b,IZ]<;>simp only[mb,b]<;>rfl) ⟨_,_,rfl⟩|cons k d=>rw[b]at e;simp only[lR]at e;have g:cL (k::d) 1 (((k::d).length:Nat):Int)=d:=ql k d _ rfl;simp only[lR]at g;have p:lA (g8 k)=g8 k:=rfl;simp only;split;exact .of_eq (y:=.iJ (fl 4,s9 a left f [] i,mb c dd w,M,())) (λn=>by simp(disch:=omega)only[aU,jQ,b,IZ,jJ]<;>simp only[mb,b]<;>rfl) ⟨_,_,rfl⟩;refine .of_eq (λn=>?_) (jC (by omega) rfl);simp(disch:=first|omega|simp only[g7];omega)only[aU,jQ,b,IZ,jJ,kQ,Wi,bZ];rw[g];simp(disch:=first|omega|simp only[g7];omega)only[aU,nS,Cy,p]<;>simp only[jQ]<;>rfl
end
end
section
abbrev atd:=(L az×Bool×U)×SB×MB×MP×U
def IE(T:SB)(R:MB)(M:MP):O (L az)->atd
 |some m=>((m,W,()),T,R,M,())|none=>(([],J,()),T,R,M,())
def ahS(c:aA)(dd:L au)(M:MP)(w:av)(T:SB)(q:aB):Prop:=∀(v:az),cG c w.aN.length v->v7 R263 (T,mb c dd w,M,q,v,()) (IE T (mb c dd w) M (jB w q v))
section
variable {c:aA}{dd:List au}{M:MP}{w:av}{left fr:List aj}{i:bR}{f g:aj}{l:List az}{m a op A B:Int}{u v:az}{T:SB}
def Mf(x:Bool):bS x W=x:=by cases x<;>rfl
def alH(q:aB):aB.mk q.Form q.N q.Text q.Bw=q:=by cases q;rfl
def rm{α:Type}(a:L α)(x:α)(b:L α)(d:α):(a++x::b).getD a.length d=x:=hY a x d b rfl
theorem qX:∀(q:aB)(v:az)(m:L az),jB w q v=Z m->m.length<=pw q
 |⟨c,n,text,parts⟩,v,m,h=>by
  unfold jB at h;unfold pw;by_cases h1:c=1
  simp_all
  rw[bQ h1]at h;by_cases h2:c=2
  grind
  rw[bQ h2]at h;by_cases h3:c=3
  simp_all
  rw[bQ h3]at h;by_cases h4:c=4
  simp_all
  rw[bQ h4]at h;by_cases h5:c=5
  simp_all
  rw[bQ h5]at h;split at h;cases h;split at h;cases h;have:=lens parts _ m h;omega
where
 lens:∀(d:L aB)(e:L az)(m:L az),fF w d e=Z m->m.length<=oR d
 |[],e,m,h=>by unfold fF at h;cases h;simp
 |q::d,[],m,h=>by unfold fF at h;cases h;simp
 |q::d,v::e,m,h=>by
  unfold fF at h;unfold oR;split at h;cases h;rename_i l f;split at h;cases h;rename_i g i;cases h;have a:=qX q v l f;have b:=lens d e g i
  grind
theorem Nc{P:Type}(d:Nat):∀(qs:L aB)(vs:L az)(pre:L aB)(b:L az)(l:L az),qs.length=vs.length->pre.length=b.length->pre.length+qs.length<=1000->
  (∀q∈qs,ahS c dd M w T q)->(∀v∈vs,cG c w.aN.length v)->l.length+oR qs<=1000->
  ∀(F:Nat->L az×Int×SB×MB×MP×U->O (LO (L az×Int×SB×MB×MP×U) (L az×Bool×U) (SB×MB×MP×U) P)),
  (∀n e,F n e=ai (aD e.2.1 (ak (pre++qs))) (aO (aF e.2.1 (pre++qs)) (aO (aF e.2.1 (b++vs)) (ah (R263 n (n-d) (e.2.2.1,e.2.2.2.1,e.2.2.2.2.1,aB.mk (@bh aB (pre++qs) (ax e.2.1) aK).1 (@bh aB (pre++qs) (ax e.2.1) aK).2 (@bh aB (pre++qs) (ax e.2.1) aK).3 (@bh aB (pre++qs) (ax e.2.1) aK).4,@bh az (b++vs) (ax e.2.1) bu,())) λg=>ai (aq g.1.2.1) (Z (X g.2 ([],J,())))
   (aO (dg e.1 g.1.1) (Z (N (dc e.1 g.1.1,aG .i64 e.2.1 1,g.2))))))) (Z (H 0 e)))->
  gV F (l,(pre.length:Int),T,mb c dd w,M,()) (match fF w qs vs with
   |some m=>.out 0 (l++m,((pre++qs).length:Int),T,mb c dd w,M,())|none=>.ret (T,mb c dd w,M,()) ([],J,()))
 |[],[],pre,b,l,_,_,k,_,_,_,F,f=>by unfold fF;refine .out (bF λn=>?_);rw[f];simp(disch:=omega)only[aU,jQ]<;>rfl
 |q::qs,v::vs,pre,b,l,t,C,k,o,p,u,F,f=>by
  unfold oR at u;simp only[lR]at k;have h1:=o q eI v (p v eI);have r:(pre++q::qs).getD pre.length aK=q:=rm ..;have s:(b++v::vs).getD pre.length bu=v:=by simp_all
  unfold fF;cases i:jB w q v with
  |none=>rw[i]at h1;refine .ret ?_;obtain⟨a,h1⟩:=h1 d;refine⟨a,λn j=>?_⟩;have:=h1 n j;simp only at this;show F n _=_;rw[f];simp(disch:=first|omega|simp only[g7];omega)only[aU,r,s,alH];exact(eu (λx=>ah x _) this).trans rfl
  |some m=>
   rw[i]at h1;have z:=qX q v m i;have h2:=Nc (P:=P) d qs vs (pre++[q]) (b++[v]) (l++m) (by simpa using t) (by simp;omega) (by simp;omega) (λA h=>o A (hJ _ h)) (λB h=>p B (hJ _ h))
    (by simp;omega) F (λn e=>by rw[f];simp only[wj,Lf]<;>rfl)
   refine(.next (y:=(l++m,((pre++[q]).length:Int),T,mb c dd w,M,())) ?_ ?_)
   .obtain ⟨a,h1⟩:=h1 d;refine⟨a,λn j=>?_⟩;have:=h1 n j;simp only at this;show F n _=_;rw[f];simp(disch:=first|omega|simp only[g7];omega)only[aU,r,s,alH,bZ,gG,gM];refine(eu (λx=>ah x _) this).trans ?_;show TL.aO (dg l m) (Z (N (l++m,(pre.length:Int)+1,T,mb c dd w,M,())))=_;rw[Bc (by omega)];simp<;>rfl
   grind
theorem mL(n k:Nat):R263 n (k+1)=B263 n (R263 n k):=rfl
theorem aiW:∀(q:aB),pw q<=1000->tH c.Cons q->∀(k:oX c dd w),ahS c dd M w T q
 |⟨a,n0,text,parts⟩,p,l,k=>by
  intro v m;unfold pw at p;unfold jB;by_cases h1:a=1;refine v7.step mL λd=>bF λn=>?_;unfold B263 xA;simp only[aU,h1,ki,IE]<;>rfl;rw[bQ h1];by_cases h2:a=2;refine v7.step mL λd=>bF λn=>?_;unfold B263 xA;simp(disch:=omega)only[aU,h2,ki,IE]<;>rfl;rw[bQ h2];have cmp:∀u:az,(if Fe v u=W then Z ([]:L az)else Y)=Y/\bS (aa v.Kind u.Kind) (bS (aa v.N u.N) W)=J\/(if Fe v u=W then Z ([]:L az)else Y)=Z []/\bS (aa v.Kind u.Kind) (bS (aa v.N u.N) W)=W:=by
   intro u;have:bS (aa v.Kind u.Kind) (bS (aa v.N u.N) W)=Fe v u:=by rw[Mf];rfl
   rw[this];cases Fe v u<;>simp
  by_cases h3:a=3;rw[bD h3];refine v7.step mL λd=>bF λn=>?_;unfold B263 Da xA;obtain⟨f,i⟩|⟨f,i⟩:=cmp (g8 n0)<;>rw[f]<;>simp(disch:=omega)only[aU,h3,Wi,i,IE]<;>rfl
  rw[bQ h3];by_cases h4:a=4;rw[bD h4];refine v7.step mL λd=>bF λn=>?_;unfold B263 Da xA;obtain⟨f,i⟩|⟨f,i⟩:=cmp (iD (n0==1))<;>rw[f]<;>simp(disch:=omega)only[aU,h4,aeX,i,IE]<;>rfl
  rw[bQ h4];by_cases h5:a=5;rw[bD h5];refine v7.step mL λd=>bF λn=>?_;unfold B263 Da xA;obtain⟨f,i⟩|⟨f,i⟩:=cmp ep<;>rw[f]<;>simp(disch:=omega)only[aU,h5,WZ,i,IE]<;>rfl
  rw[bQ h5];unfold tH at l;obtain⟨K,z,Q⟩:(parts.length:Int)=(c.Cons.getD n0.toNat bg).lu/\nM c.Cons parts/\True:=by obtain h|h|h|h:=l<;>first|exact⟨h.2.2.2.2.1,h.2.2.2.2.2,trivial⟩|(exfalso;have:=h.2.1;omega)
  cases j:gO w v 1 with
  |none=>refine v7.step mL λd=>bF λn=>?_;unfold B263;simp(disch:=omega)only[aU,ZP m.ref,j,js,IE]<;>rfl|some o=>
   dsimp only;obtain⟨r,x,_⟩:=eD k m j;by_cases y:o.N≠n0;rw[bD (.inl y)];refine v7.step mL λd=>bF λn=>?_;unfold B263;simp(disch:=omega)only[aU,ZP m.ref,j,js,IE]<;>rfl
   .have s:(o.fP.length:Int)=kY c o.N:=by cases x<;>first|(cases r;done)|assumption
    have s:o.fP.length=parts.length:=by rw[Decidable.not_not.1 y]at s;unfold kY at s;omega
    rw[bQ (by omega)];have t:=x.vals;have A:parts.length<=oR parts:=AJ parts;refine v7.step mL λd=>?_;have B:=Nc (c:=c) (dd:=dd) (M:=M) (w:=w) (T:=T) (P:=Any) d parts o.fP [] [] [] (by omega) rfl (by grind)
      (λq C=>ael parts (by omega) z k q C) t (by grind) _ (λn e=>rfl)
    have E:∀n,B263 n (R263 n (n-d)) (T,mb c dd w,M,⟨a,n0,text,parts⟩,v,())=ah (iter (λe=>ai (aD e.2.1 (ak parts)) (aO (aF e.2.1 parts) (aO (aF e.2.1 o.fP) (ah (R263 n (n-d) (e.2.2.1,e.2.2.2.1,e.2.2.2.2.1,aB.mk (@bh aB parts (ax e.2.1) aK).1 (@bh aB parts (ax e.2.1) aK).2 (@bh aB parts (ax e.2.1) aK).3 (@bh aB parts (ax e.2.1) aK).4,@bh az o.fP (ax e.2.1) bu,())) λg=>ai (aq g.1.2.1) (Z (X g.2 ([],J,())))
   (aO (dg e.1 g.1.1) (Z (N (dc e.1 g.1.1,aG .i64 e.2.1 1,g.2))))))) (Z (H 0 e))) n ([],0,T,mb c dd w,M,())) λe=>bK e (λ_ h=>Z ((h.1,W,()),h.2.2)) (λg h=>Z (h,g)) λ_(_:Any)=>Y:=by intro n;unfold B263 Ip;simp(disch:=omega)only[aU,ZP m.ref,j,js]<;>rfl
    refine Ev.v5 E (Ev.bz B (λn e=>_) _ ?_);cases fF w parts o.fP<;>exact dB
where
 AJ:∀b:L aB,b.length<=oR b
 |[]=>FP _|⟨_,_,_,_⟩::b=>by unfold oR pw;have:=AJ b;grind
 ael:∀(b:L aB),oR b<=1000->nM c.Cons b->∀(k:oX c dd w),∀q∈b,ahS c dd M w T q
 |[],_,_,_,_,h=>by cases h
 |q::b,F,j,k,I,h=>by
  unfold oR at F;unfold nM at j;obtain h|h:=fV.1 h
  rw[h];exact aiW q (by omega) j.1 k;exact ael b (by omega) j.2 k I h
def asb(x:Sx c dd w left i f l m a)(h:i.Op=19)(b:cG c w.aN.length v):Ev (λn=>F263 n (T,mb c dd w,M,iZ c i.A,v,())) (IE T (mb c dd w) M (jB w (iZ c i.A) v)):=by have h1:=x.cx.io.Be h;obtain⟨h2,h3⟩:=x.cx.hp.pats _ (bW aK (show i.A.toNat<c.eA.length by omega));exact aiW _ (by omega) h2 x.cx.hw v b 0
def aoD(x:Sx c dd w left i f l m a)(h:i.Op=19):dZ c dd M w a i.Op i.A i.B (ir c w a left i f l) (λn=>El (F186 n (s9 a left f l i,mb c dd w,M,()))):=by
 obtain⟨v,rfl,p⟩:=x.one h (by decide) rfl;have s:=x.st;have q:=x.cx.fl;have h1:=x.cx.io.Be h;have h2:=(x.cx.hp.pats _ (bW aK (show i.A.toNat<c.eA.length by omega))).2;unfold ir F186 El;simp only[show i.Op.toNat=19 from eu Int.toNat h];show dZ _ _ _ _ _ _ _ _ (match jB w (iZ c i.A) v with|some b=>_|none=>.go w (left++[⟨_,_,f.Stack++[v],_⟩]) Y) _;have j:=asb (M:=M) (T:=s9 a left f [v] i) x h p;have k:@bh az (f.Stack++[v]) f.Stack.length bu=v:=hY _ _ _ _ rfl;obtain⟨d,j⟩:=j;have e:∀n,d<=n->F263 n (s9 a left f [v] i,mb c dd w,M,iZ c i.A,@bh az (f.Stack++[v]) f.Stack.length bu,())=Z (IE (s9 a left f [v] i) (mb c dd w) M (jB w (iZ c i.A) v)):=λn g=>by rw[k];exact j n g
 cases o:jB w (iZ c i.A) v with|none=>rw[o]at e;refine⟨.ok ((),tb a left i.B f.Env (f.Stack++[v]) f.dI i.Op i.A i.B Y,mb c dd w,M,()),⟨d,λn g=>?_⟩,left,⟨i.B,f.Env,f.Stack++[v],f.dI⟩,rfl,by omega,rfl⟩;simp(disch:=first|omega|simp only[g7];omega)only[aU,IF,hY];exact(eu (λx=>ah (ah x _) _) (e n g)).trans rfl|some b=>rw[o]at e;have r:=qX _ _ _ o;unfold iZ at r;refine⟨.ok ((),tb a left f.At (f.Env++b) f.Stack f.dI i.Op i.A i.B Y,mb c dd w,M,()),⟨d,λn g=>?_⟩,left,⟨f.At,f.Env++b,f.Stack,f.dI⟩,rfl,by omega,rfl⟩;simp(disch:=first|omega|simp only[g7];omega)only[aU,IF,hY];refine(eu (λx=>ah (ah x _) _) (e n g)).trans ?_;show ah (ah (F260 n (tb a left f.At f.Env (f.Stack++[v]) f.dI i.Op i.A i.B Y,mb c dd w,M,())) _) _=_;refine(eu (λx=>ah (ah x _) _) (nt (by omega))).trans ?_;show ah (TL.aO (ez 0 (ak f.Env) (ak f.Env)) (TL.aO (dg (cL f.Env 0 (ak f.Env)) b) (Z ((),((),a,left,f.At,dc (cL f.Env 0 (ak f.Env)) b,f.Stack,f.dI,i.Op,i.A,i.B,Y,()),mb c dd w,M,())))) _=_;rw[show cL f.Env 0 (ak f.Env)=f.Env from Nd _,Ui (IK 0) (show 0<=ak f.Env from Int.natCast_nonneg _) (IK _),Bc (by omega)];rfl
end
end
section
section
variable {c:aA}{dd:List au}{M:MP}{w:av}{left fr:List aj}{i:bR}{f g:aj}{l:List az}{m a op A B:Int}{u v:az}{T:SB}
def aoy(x:Sx c dd w left i f l m a)(h:i.Op=24):dZ c dd M w a i.Op i.A i.B (ir c w a left i f l) (λn=>F191 n (s9 a left f l i,mb c dd w,M,())):=by
 obtain⟨u,rfl,d⟩:=x.one h (by decide) rfl;have p:=x.st;have k:=x.cx.fl;have q:=xN x;have r:=x.cx.hw.tl;have j:lA ep=ep:=rfl;unfold ir;simp[show i.Op.toNat=24 from eu Int.toNat h];show dZ _ _ _ _ _ _ _ _ (BO c w a left f u) _;unfold BO F191 z4;simp only;cases e:jE c w u ep with
 |some b=>simp only;split;exact .of_eq (λn=>by simp(disch:=omega)only[aU,nt,WZ,Et (λh=>d.code h) (λh=>d.ref h) (l8 x d),e,aS,Cz,bD (show 120<=w.aN.length by assumption)]<;>rfl) ⟨_,_,rfl⟩;exact .of_eq (λn=>by simp(disch:=first|omega|simp only[g7];omega)only[aU,nt,WZ,Et (λh=>d.code h) (λh=>d.ref h) (l8 x d),e,aS,Cz,bQ (show ¬120<=w.aN.length by assumption),ia,nS,Cy,j]<;>rfl) (jC (by omega) rfl)
 |none=>
  cases g:gO w u 5 with|none=>exact .of_eq (λn=>by simp(disch:=omega)only[aU,nt,WZ,Et (λh=>d.code h) (λh=>d.ref h) (l8 x d),e,OV (λh=>d.ref h) (pX x d),g,agl]<;>rfl) ⟨_,_,rfl⟩|some o=>simp only;split;exact .of_eq (λn=>by simp(disch:=omega)only[aU,nt,WZ,Et (λh=>d.code h) (λh=>d.ref h) (l8 x d),e,OV (λh=>d.ref h) (pX x d),g,aS,Cz,bD (show 120<=w.aN.length by assumption)]<;>rfl) ⟨_,_,rfl⟩;exact .of_eq (λn=>by simp(disch:=first|omega|simp only[g7];omega)only[aU,nt,WZ,Et (λh=>d.code h) (λh=>d.ref h) (l8 x d),e,OV (λh=>d.ref h) (pX x d),g,aS,Cz,bQ (show ¬120<=w.aN.length by assumption),ia,nS,Cy,j]<;>rfl) (jC (by omega) rfl)
def pW{α:Type}{q:α->Bool}:∀{l:L α},(∀j(h:j<l.length),q l[j]=J)->jZ q l=Y
 |[],_=>rfl|a::l,h=>by
  unfold jZ;rw[pW λj b=>h (j+1) (by simpa using b)];have:=h 0 (by simp)
  simp_all
def uK{α:Type}{q:α->Bool}:∀{l:L α}{m:Nat}(c:m<l.length),q l[m]=W->(∀j(h:j<l.length),m<j->q l[j]=J)->jZ q l=Z m
 |a::l,0,_,h1,h=>by
  unfold jZ;rw[pW λj b=>h (j+1) (by simpa using b) (by omega)]
  simp_all
 |a::l,m+1,c,h1,h=>by unfold jZ;rw[uK (l:=l) (m:=m) (by simpa using c) (by simpa using h1) λj b d=>h (j+1) (by simpa using b) (by omega)]
theorem Fu{a:L aj}(hl:a.length<=40){R B P:Type}{F:Nat->Int×Int×U->O (LO (Int×Int×U) R B P)}
  (g:∀n c,F n c=ai (br 0 c.2.1) (aO (aF c.2.1 a) (aO (dX (ax c.2.1) a) (ai (bh a (ax c.2.1) aR).4 (Z (.out 0 (c.2.1,c.2))) (Z (.next (c.1,aZ .i64 c.2.1 1,())))))) (Z (.out 0 c))) :
  ∀m:Nat,m<=a.length->(∀j(h:j<a.length),m<=j->a[j].dI=J)->
  gV F (-1,(m:Int)-1,()) (.out 0 (match jZ (λf:aj=>f.dI) a with|some k=>((k:Int),(k:Int),())|none=>(-1,-1,())))
 |0,_,h=>by rw[pW λj d=>h j d (FP _)];exact .out (bF λn=>by simp_all[aU])
 |m+1,o,h=>by
  have e:a.getD m aR=a[m]:=by grind
  have b:((m+1:Nat):Int)-1=(m:Int):=by omega
  cases i:a[m].dI with
  |true=>rw[uK (m:=m) (by omega) i λj d l=>h j d (by omega)];refine .out (bF λn=>?_);rw[g,b];simp(disch:=omega) [aU,e,i]<;>rfl
  |false=>
   refine .next (y:=(-1,(m:Int)-1,())) (bF λn=>?_) (Fu hl g m (by omega) λj d l=>?_)
   rw[g,b];simp(disch:=omega) [aU,e,i,cW]<;>rfl
   grind
theorem aoq(x:Sx c dd w left i f l m a)(h:i.Op=32):dZ c dd M w a i.Op i.A i.B (ir c w a left i f l) (λn=>F199 n (s9 a left f l i,mb c dd w,M,())):=by
 have z:=x.nil h (by decide) rfl;have g:=x.st;have A:=x.cx.fl;have Q:=xN x;subst z;have C:o4 (s9 a left f [] i,mb c dd w,M,())=left++[f]:=by unfold o4 CS;simp only[aU,jQ]<;>rfl
 have e0:aZ .i64 (ak (left++[f])) 1=(((left++[f]).length:Nat):Int)-1:=by
  grind[cW,ak]
 have h1:dg left (CS (s9 a left f [] i,mb c dd w,M,()))=W:=GZ.2 (by grind[CS,List.length_singleton]);have o:(left++[f]).length<=40:=by simp;omega
 unfold ir;simp only[show i.Op.toNat=32 from eu Int.toNat h];unfold Fv F199;simp only[C,e0];have g:=λ(R B P:Type)=>@Fu (left++[f]) o R B P _ (λn c=>rfl) (left++[f]).length (eO _) (λj S E=>by omega);have p:∀(k:Int×Int×U)(b:Nat->Int×Int×U->O Out)(r:uq),(∃y,Ev (λn=>b n k) y/\HV c dd M w a i.Op i.A i.B r y)->∀(R B P:Type)(F:Nat->Int×Int×U->O (LO (Int×Int×U) R B P))(u:Nat->B->R->O Out)(v:Nat->B->P->O Out)(x:Int×Int×U),
   gV F x (.out 0 k)->dZ c dd M w a i.Op i.A i.B r (λn=>ah (iter (F n) n x) λc=>bK c (λ_ e=>b n e) (u n) (v n)):=by
  intro k b r ⟨y,h1,h2⟩ R B P F u v x I;exact⟨y,Ev.bz I _ _ h1,h2⟩
 have d:∀{r:uq}{F:Nat->O Out},dZ c dd M w a i.Op i.A i.B r F->dZ c dd M w a i.Op i.A i.B r (λn=>TL.aO (nW (ez 0 (ak left) (ak left)) (fZ (ak left) (ak left))) (TL.aO (dg (cL left 0 (ak left)) (CS (s9 a left f [] i,mb c dd w,M,()))) (F n))):=by
  simp_all[Ev.v5,aU]
 refine d ?_;cases q:jZ (λf:aj=>f.dI) (left++[f])with
 |none=>simp only[q]at g;refine p _ _ (.fail 3) ?_ _ _ _ _ _ _ _ (g _ _ _);exact⟨_,bF λn=>by simp(disch:=omega)only[aU,jJ]<;>rfl,_,_,rfl⟩
 |some k=>
  obtain⟨s,_⟩:=uL q;simp only[q]at g;refine p _ (λn e=>_) _ ?_ _ _ _ _ _ _ _ (g _ _ _);simp only;have t:cL (left++[f]) (k:Int) (((left++[f]).length:Nat):Int)=(left++[f]).drop k:=by rw[BN];rfl
  have K:cL (left++[f]) 0 (k:Int)=(left++[f]).take k:=by rfl
  simp only[j9,nK]at s t;split;exact⟨_,bF λn=>by simp(disch:=omega)only[aU,jJ,t,adx,Cz,bD (show 120<=w.aN.length by assumption)]<;>rfl,_,_,rfl⟩;exact⟨_,bF λn=>by simp(disch:=first|omega|simp only[g7];omega)only[aU,jJ,t,K,adx,Cz,bQ (show ¬120<=w.aN.length by assumption),zZ]<;>rfl,(left++[f]).take k,⟨i.A,f.Env++[vR w.aN.length],[],W⟩,rfl,by grind,rfl⟩
def aoo(x:Sx c dd w left i f l m a)(h:i.Op=34):dZ c dd M w a i.Op i.A i.B (ir c w a left i f l) (λn=>El (F201 n (s9 a left f l i,mb c dd w,M,()))):=by
 obtain⟨v,rfl,e⟩:=x.one h (by decide) rfl;have j:=x.st;have d:=x.cx.fl;have b:=x.cx.left;have a0:=x.a0;have a1:=x.a1
 let ⟨t1,t2,t3⟩:=x.cx.hw.task _ (bW 0 (show a.toNat<w.bI.length by omega))
 unfold ir El;simp[show i.Op.toNat=34 from eu Int.toNat h];unfold F201 zY;obtain rfl|⟨k,g,rfl⟩:=Tw left
 exact .of_eq (y:=.ok ((),tb a [] f.At f.Env f.Stack f.dI i.Op i.A i.B (Z ⟨a,0,1,lA v⟩),mb c dd (gE w (bE w a) ⟨6,1,[v],[]⟩),M,())) (λn=>by simp(disch:=omega) [aU,nt,cW,Cy,ahh a0 a1 t1 t2]<;>rfl) ⟨[],f,rfl⟩;rw[Tv]at *
 have o:=(T2 x (by omega) (b g (by simp))).1;simp at d;rw[FI];exact .of_eq (λn=>by simp(disch:=first|omega|simp only[g7];omega)only[aU,nt,IF,Ic,zY,hY,kf,nS]<;>rfl) (Cd (g:=lS g v) (by omega) rfl)
end
end
section
section
variable {c:aA}{dd:List au}{M:MP}{w w':av}{left fr:List aj}{i:bR}{f g:aj}{l:List az}{m a op A B:Int}{u v:az}{T:SB}
abbrev SX:=SB×MB×MP×U
noncomputable def opF(k:Nat)(n:Nat)(x:SX):O Out:=
 match k with
 |1|2|3|5=>El (F173 n x)|4=>El (F174 n x)|6=>F175 n x|7=>F176 n x|8=>F177 n x|9=>El (F178 n x)|10=>El (F179 n x)|11=>El (F180 n x)|12=>F181 n x|13|14|15=>F182 n x|16=>F183 n x|17=>F184 n x|18=>F185 n x|19=>El (F186 n x)|20=>F187 n x|21=>F188 n x|22=>F189 n x|23=>F190 n x|24=>F191 n x|25=>F192 n x|26=>F193 n x|27=>F194 n x|28=>F195 n x|29=>F196 n x|30=>F197 n x|31=>F198 n x|32=>F199 n x|33=>El (F200 n x)|34=>El (F201 n x)|_=>Y
def Vw(x:Sx c dd w left i f l m a):dZ c dd M w a i.Op i.A i.B (ir c w a left i f l) (λn=>opF i.Op.toNat n (s9 a left f l i,mb c dd w,M,())):=by
 have h1:=x.cx.io.lo;have h2:=x.cx.io.hi;obtain⟨k,e⟩:∃k:Nat,i.Op=k:=⟨_,(Ay (by omega)).symm⟩;have b:1<=k:=by omega
 have d:k<=34:=by omega
 rw[show i.Op.toNat=k by omega]
 match k,e,b,d with
 |1,h,_,_=>exact acn x (.inl h)|2,h,_,_=>exact acn x (.inr (.inl h))|3,h,_,_=>exact acn x (.inr (.inr (.inl h)))|4,h,_,_=>exact aoO x h|5,h,_,_=>exact acn x (.inr (.inr (.inr h)))|6,h,_,_=>exact aoN x h|7,h,_,_=>exact aoM x h|8,h,_,_=>exact aoL x h|9,h,_,_=>exact aoK x h|10,h,_,_=>exact aoJ x h|11,h,_,_=>exact aoI x h|12,h,_,_=>exact aoH x h|13,h,_,_=>exact af5 x (.inl h)|14,h,_,_=>exact af5 x (.inr (.inl h))|15,h,_,_=>exact af5 x (.inr (.inr h))|16,h,_,_=>exact aoG x h|17,h,_,_=>exact aoF x h|18,h,_,_=>exact aoE x h|19,h,_,_=>exact aoD x h|20,h,_,_=>exact aoC x h|21,h,_,_=>exact aoB x h|22,h,_,_=>exact aoA x h|23,h,_,_=>exact aoz x h|24,h,_,_=>exact aoy x h|25,h,_,_=>exact aox x h|26,h,_,_=>exact aow x h|27,h,_,_=>exact aov x h|28,h,_,_=>exact aou x h|29,h,_,_=>exact aot x h|30,h,_,_=>exact aos x h|31,h,_,_=>exact aor x h|32,h,_,_=>exact aoq x h|33,h,_,_=>exact aop x h|34,h,_,_=>exact aoo x h|k+35,h,_,g=>omega
def Xj(c:aA)(dd:L au)(M:MP)(w:av):O (av×O aP)->(fQ×U)×MB×MP×U
 |none=>((fQ.a0 ⟨⟩,()),mb c dd w,M,())|some (w',Y)=>((fQ.a2 ⟨⟩,()),mb c dd w',M,())|some (w',Z e)=>((fQ.a1 ⟨e⟩,()),mb c dd w',M,())
def aok{n:Nat}{x:O (U×SB×MB×MP×U)}{α:Type}(p:U×SB×MB×MP×U->O α)(q:Any×SB×MB×MP×U->O α):ah (El x) (λc=>cB c p q)=ah x p:=by cases x<;>rfl
variable {n:Nat}
def choose{α:Type}{k:Nat}(h1:1<=k)(h2:k<=34)(x:SX)(p:U×SB×MB×MP×U->O α)(q:Any×SB×MB×MP×U->O α) :
 (ai (fZ (k:Int) 0) Y (ai (fZ (k:Int) 1) (ah (F173 n x) p) (ai (fZ (k:Int) 2) (ah (F173 n x) p) (ai (fZ (k:Int) 3) (ah (F173 n x) p) (ai (fZ (k:Int) 4) (ah (F174 n x) p) (ai (fZ (k:Int) 5) (ah (F173 n x) p) (ai (fZ (k:Int) 6) (ah (F175 n x) λc=>cB c p q) (ai (fZ (k:Int) 7) (ah (F176 n x) λc=>cB c p q) (ai (fZ (k:Int) 8) (ah (F177 n x) λc=>cB c p q) (ai (fZ (k:Int) 9) (ah (F178 n x) p) (ai (fZ (k:Int) 10) (ah (F179 n x) p) (ai (fZ (k:Int) 11) (ah (F180 n x) p) (ai (fZ (k:Int) 12) (ah (F181 n x) λc=>cB c p q) (ai (fZ (k:Int) 13) (ah (F182 n x) λc=>cB c p q) (ai (fZ (k:Int) 14) (ah (F182 n x) λc=>cB c p q) (ai (fZ (k:Int) 15) (ah (F182 n x) λc=>cB c p q) (ai (fZ (k:Int) 16) (ah (F183 n x) λc=>cB c p q) (ai (fZ (k:Int) 17) (ah (F184 n x) λc=>cB c p q) (ai (fZ (k:Int) 18) (ah (F185 n x) λc=>cB c p q) (ai (fZ (k:Int) 19) (ah (F186 n x) p) (ai (fZ (k:Int) 20) (ah (F187 n x) λc=>cB c p q) (ai (fZ (k:Int) 21) (ah (F188 n x) λc=>cB c p q) (ai (fZ (k:Int) 22) (ah (F189 n x) λc=>cB c p q) (ai (fZ (k:Int) 23) (ah (F190 n x) λc=>cB c p q) (ai (fZ (k:Int) 24) (ah (F191 n x) λc=>cB c p q) (ai (fZ (k:Int) 25) (ah (F192 n x) λc=>cB c p q) (ai (fZ (k:Int) 26) (ah (F193 n x) λc=>cB c p q) (ai (fZ (k:Int) 27) (ah (F194 n x) λc=>cB c p q) (ai (fZ (k:Int) 28) (ah (F195 n x) λc=>cB c p q) (ai (fZ (k:Int) 29) (ah (F196 n x) λc=>cB c p q) (ai (fZ (k:Int) 30) (ah (F197 n x) λc=>cB c p q) (ai (fZ (k:Int) 31) (ah (F198 n x) λc=>cB c p q) (ai (fZ (k:Int) 32) (ah (F199 n x) λc=>cB c p q) (ai (fZ (k:Int) 33) (ah (F200 n x) p) (ai (fZ (k:Int) 34) (ah (F201 n x) p) (aO J Y))))))))))))))))))))))))))))))))))))=
 ah (opF k n x) λc=>cB c p q:=by
 match k,h1,h2 with
 |1,_,_|2,_,_|3,_,_|4,_,_|5,_,_|9,_,_|10,_,_|19,_,_|33,_,_|34,_,_=>exact(aok (n:=n) p q).symm|11,_,_=>rfl|6,_,_|7,_,_|8,_,_|12,_,_|13,_,_|14,_,_|15,_,_|16,_,_|17,_,_|18,_,_|20,_,_|21,_,_|22,_,_|23,_,_|24,_,_|25,_,_|26,_,_|27,_,_|28,_,_|29,_,_|30,_,_|31,_,_|32,_,_=>rfl|k+35,_,h=>omega
end
end
section
section
variable {n:Nat}{c:aA}{dd:List au}{M:MP}{w w':av}{bl:List aj}{f g:aj}{a op A B s:Int}{u v:az}{T:SB}{e:Option aP}{R:MB}
def ar4:O aP->fQ
 |none=>fQ.a2 ⟨⟩|some e=>fQ.a1 ⟨e⟩
def ag7(d:0<=a)(h1:a<w'.bI.length)(t1:0<=bE w' a)(t2:bE w' a<w'.aN.length)(f:(dh w' (bE w' a)).N=0)(hl:bl.length<=1000) :
  gK n (R,M,a,()) ((),tb a bl g.At g.Env g.Stack g.dI op A B e,mb c dd w',M,())=Z ((ar4 e,()),mb c dd (gE w' (bE w' a) ⟨6,0,[],bl++[g]⟩),M,()):=by
 have b:=λo=>ahh (n:=n) (c:=c) (dd:=dd) (M:=M) (o:=o) d h1 t1 t2;unfold bE dh at *
 unfold gK aaP;cases e<;>simp(disch:=first|omega|simp only[g7];omega)only[aU,b,f,aS,Al,GQ]<;>rfl
def ZF(b:0<=a)(h1:a<w'.bI.length)(t1:0<=bE w' a)(t2:bE w' a<w'.aN.length)(d:(dh w' (bE w' a)).N≠0){e:aP} :
  gK n (R,M,a,()) ((),tb a bl g.At g.Env g.Stack g.dI op A B (Z e),mb c dd w',M,())=Z ((fQ.a1 ⟨e⟩,()),mb c dd w',M,()):=by
 unfold bE dh at *
 unfold gK;simp(disch:=omega)only[aU,aS,Al]<;>rfl
def ZE(d:0<=a)(h1:a<w.bI.length)(t1:0<=bE w a)(t2:bE w a<w.aN.length):j5 n (mb c dd w,M,a,()) (fl s,T,mb c dd w',M,())=Z ((fQ.a1 ⟨⟨a,0,s,bu⟩⟩,()),mb c dd (gE w (bE w a) ⟨6,s,[],[]⟩),M,()):=by have b:=λo=>ahh (n:=n) (c:=c) (dd:=dd) (M:=M) (o:=o) d h1 t1 t2;show ah (F121 n (mb c dd w,M,a,⟨6,s,[],[]⟩,())) (λh=>Z ((fQ.a1 (iI.mk (aP.mk a 0 s bu)),()),h.2))=_;rw[b];rfl
theorem ZD:j5 n (mb c dd w,M,a,()) (wt,T,mb c dd w',M,())=Z ((fQ.a0 ⟨⟩,()),mb c dd w,M,()):=rfl
theorem e67(x:Bx c dd)(m:oX c dd w)(z:0<=a)(h1:a<w.bI.length):Ev (λn=>F67 n (mb c dd w,M,a,())) (Xj c dd M w (o9 c w a)):=by
 let ⟨t1,t2,t3⟩:=m.task _ (bW 0 (show a.toNat<w.bI.length by omega))
 have E:=m.ob t1 t2;change 0<=bE w a at t1;change bE w a<_ at t2;change(dh w (bE w a)).Form=6 at t3;change gf c dd _ (dh w (bE w a))at E;have tl:=m.tl;have ol:=m.len;unfold o9;simp only;by_cases p:(dh w (bE w a)).N=0
 .rw[bQ (by omega)]
  let ⟨h,f,j,k1,k2,q⟩:=GP E t3 p
  have C:=Zz (at_:=a) x m E t3 p;have F:=q.lo;have I:=q.hi;have r:=x.dep.ok f.At F I q.re;have t:=q.sl;have nd:=r.2.2.1;have hx:Sx c dd w h (aW c f.At) ⟨f.At+1,f.Env,f.Stack.take (f.Stack.length-cA c (aW c f.At)),f.dI⟩ (f.Stack.drop (f.Stack.length-cA c (aW c f.At))) f.At a:=⟨Z0 x m k1 k2 q,z,h1⟩
  let ⟨y,hy,b⟩:=Vw (M:=M) hx
  rw[<-RB (w:=w) (at_:=a)]at b;rw[<-j]at b;have io:=hx.cx.io;have i1:=io.lo;have i2:=io.hi;have K:f.Stack.take (f.Stack.length-cA c (aW c f.At))++f.Stack.drop (f.Stack.length-cA c (aW c f.At))=f.Stack:=XH ..;have b1:Qb (mb c dd w,M,a,())=(h.length:Int):=by show aZ .i64 (ak (dh w (bE w a)).Frames) 1=_;rw[j];show aZ .i64 (((h++[f]).length:Nat):Int) 1=_;rw[j9,nK,cW]<;>omega
  have P:Eh (mb c dd w,M,a,())=f:=by
   unfold Eh;show(dh w (bE w a)).Frames.getD _ _=_
   grind[ax]
  have b3:fE (mb c dd w,M,a,())=aW c f.At:=by unfold fE;rw[P];rfl
  have b4:gY (mb c dd w,M,a,())=(s9 a h ⟨f.At+1,f.Env,f.Stack.take (f.Stack.length-cA c (aW c f.At)),f.dI⟩ (f.Stack.drop (f.Stack.length-cA c (aW c f.At))) (aW c f.At),mb c dd w,M,()):=by
   unfold gY;rw[b1,P,b3];have e1:cL (bh w.aN (ax (bh w.bI (ax a) 0)) bw).4 0 (h.length:Int)=h:=by show cL (dh w (bE w a)).Frames 0 _=_;rw[j];exact kf _ _ rfl
   have e2:aG .i64 f.At 1=f.At+1:=bZ (by omega) (by have:=x.len;omega);show(((),a,cL (bh w.aN (ax (bh w.bI (ax a) 0)) bw).4 0 (h.length:Int),aG .i64 f.At 1,f.Env,f.Stack,_),_)=_;rw[e1,e2];unfold s9;rw[K]
  have hF:∀n,F67 n (mb c dd w,M,a,())=ah (opF (aW c f.At).Op.toNat n (gY (mb c dd w,M,a,()))) λy=>cB y (gK n (mb c dd w,M,a,())) (j5 n (mb c dd w,M,a,())):=by
   intro n;have hlen:(w.aN.getD (w.bI.getD a.toNat 0).toNat bw).Frames.length=h.length+1:=by
    grind[dh,bE]
   have Q:(w.aN.getD (w.bI.getD a.toNat 0).toNat bw).N=0:=p;unfold bE at t1 t2;obtain⟨k,hk⟩:∃k:Nat,(aW c f.At).Op=k:=⟨_,(Ay (by omega)).symm⟩;rw[hk,vT,<-choose (by omega) (by omega)];unfold F67 Qa Mq;rw[b1,P,b3,hk];simp(disch:=omega)only[aU]
  refine Ev.v5 hF ?_;rw[b4];refine Ev.ah hy ?_;cases d:goS c w a (dh w (bE w a))with
  |waits=>rw[d]at b;obtain⟨T,u,rfl⟩:=b;exact bF λn=>ZD
  |fail s=>rw[d]at b;obtain⟨T,u,rfl⟩:=b;exact bF λn=>ZE z h1 t1 t2
  |done v=>
   rw[d]at b;obtain⟨bl,g,rfl⟩:=b;have t:(gE w (bE w a) ⟨6,1,[v],[]⟩).aN.length=w.aN.length:=by unfold gE;simp
   have e0:(((bE w a).toNat:Nat):Int)=bE w a:=by omega
   have S:=xO (w:=w) (o:=⟨6,1,[v],[]⟩) (i:=(bE w a).toNat) t1 t2;exact bF λn=>ZF (w':=gE w (bE w a) ⟨6,1,[v],[]⟩) z h1 t1 (by rw[t];exact t2) (by grind[gE,bE])
  |go u fr e=>
   rw[d]at b C;obtain⟨bl,g,rfl,MV,rfl⟩:=b
   let ⟨l,hl⟩:=C.tk
   have hln:=C.ln;have e0:(((bE w a).toNat:Nat):Int)=bE w a:=by omega
   have ht:bE u a=bE w a:=by
    grind[bE]
   have S:dh u (bE w a)=dh w (bE w a):=by
    have:=C.sm (bE w a).toNat (by omega)
    simp_all
   have htl:a<u.bI.length:=by grind
   have:=λn=>ag7 (n:=n) (c:=c) (dd:=dd) (M:=M) (R:=mb c dd w) (op:=(aW c f.At).Op) (A:=(aW c f.At).A) (B:=(aW c f.At).B) (e:=e) (g:=g) z htl (by omega) (by rw[ht];omega) (by simp_all) MV;rw[ht]at this;cases e<;>exact bF this
 rw[bD p];have Q:(w.aN.getD (w.bI.getD a.toNat 0).toNat bw).N≠0:=p;unfold bE at t1 t2;exact bF λn=>by unfold F67;simp(disch:=omega)only[aU]<;>rfl
end
end
section
def jg(w:av)(a t:Int):uq->bn
 |.fail s=>⟨gE w t ⟨6,s,[],[]⟩,1,⟨a,0,s,bu⟩⟩|.waits=>⟨w,2,ct⟩|.done v=>⟨gE w t ⟨6,1,[v],[]⟩,1,⟨a,0,1,lA v⟩⟩|.go w' fr Y=>⟨gE w' t ⟨6,0,[],fr⟩,0,ct⟩|.go w' fr (Z e)=>⟨gE w' t ⟨6,0,[],fr⟩,1,e⟩
structure At(w:av)(a:Int):Prop where
 lo:0<=a
 hi:a<w.bI.length
 tlo:0<=bE w a
 thi:bE w a<w.aN.length
section
variable {n:Nat}{c:aA}{dd:List au}{w w':av}{left fr:List aj}{f g:aj}{a op s form:Int}{v u:az}{o:bB}
theorem foldt(w:av)(k:Int):w.bI.getD k.toNat 0=bE w k:=rfl
theorem d126(k:Int):F126 n (k,())=Z ((vR k,()),()):=rfl
theorem d74:F74 n ()=Z ((ep,()),()):=rfl
theorem d43(k:Int):F43 n (k,())=Z ((g8 k,()),()):=rfl
def d73(b:Bool):F73 n (b,())=Z ((iD b,()),()):=by cases b<;>rfl
def alR(k:Int):F73 n (aa k 1,())=Z ((iD (k==1),()),()):=d73 _
def d88:F88 n (v,())=Z ((lA v,()),()):=by
 unfold F88 lA;by_cases h:v.Kind=4;simp[h,aU,d126];by_cases a:v.Kind=5;simp[a,aU,d126]
 simp_all[aU,or_self,jP]
def d124{l:L az}(h:l.length<=1000):F124 n (l,v,())=Z ((l++[v],()),()):=by unfold F124;simp(disch:=first|omega|simp only[g7];omega)only[aU]
def d70(h:left.length<=1000):F70 n (left,f,())=Z ((left++[f],()),()):=by unfold F70;simp(disch:=first|omega|simp only[g7];omega)only[aU]
def d63(k:Int):F63 n (k,(-1000000000),1000000000,())=Z ((jd k,()),()):=by unfold F63 jd;by_cases h1:-1000000000<=k<;>by_cases h2:k<=1000000000<;>simp[ai,br,h1,h2]
def d83{d:bn}{k:Int}:F83 n (d,a,op,k,v,())=if d.ad6=1 then Z ((d,()),())else Z ((⟨d.W,1,⟨a,op,k,lA v⟩⟩,()),()):=by
 unfold F83;split<;>rename_i h;simp only[aU,h]
 simp_all[aU,d88]
def d127(a:v.Kind=5->0<=v.N/\v.N<w.aN.length):F127 n (w,v,form,())=Z (js (gO w v form),()):=by
 unfold F127 gO dh;by_cases h:v.Kind=5;obtain⟨h1,h2⟩:=a h;by_cases b:(w.aN.getD v.N.toNat bw).Form=form
 simp_all[aU,and_self,ki,js]
 simp_all[aU,and_false,jP,js]
 simp_all[aU,false_and,jP,js]
def frR:O aj->aj×Bool×U
 |some b=>(b,W,())|none=>(aR,J,())
def d128(hf:u.Kind=4->0<=u.N/\u.N<c.cY.length)(a:u.Kind=5->0<=u.N/\u.N<w.aN.length)(hn:∀o,gO w u 2=Z o->o.fP.length<=1000) :
  F128 n (⟨c,dd⟩,w,u,v,())=Z (frR (jE c w u v),()):=by
 unfold F128 jE;by_cases h:u.Kind=4
 simp_all[h1,h2,aU,ki,frR]
 simp(disch:=omega)only[aU,h,jP];rw[d127 a];cases b:gO w u 2 with
 |none=>rfl|some o=>
  simp_all[aU,js,d124,frR]
def d79(t:At w a):F79 n (w,a,s,())=Z ((jg w a (bE w a) (.fail s),()),()):=by
 obtain⟨a1,a2,b,c⟩:=t
 simp_all[F79,bE,aU,jg,gE]
def d71(t:At w a)(h:fr.length<=1000):F71 n (w,a,fr,())=Z ((jg w a (bE w a) (kG w [] fr),()),()):=by have b:=λs=>d79 (n:=n) (s:=s) t;obtain⟨a1,a2,c,d⟩:=t;unfold F71 kG;simp only[Jv,yo,NA];unfold bE at c d;split;simp(disch:=omega)only[aU,b];simp(disch:=omega)only[aU,jg,gE,bE]
def ZZ(t:At w a)(h:fr.length<=40):F71 n (w,a,fr,())=Z ((⟨gE w (bE w a) ⟨6,0,[],fr⟩,0,ct⟩,()),()):=by rw[d71 t (by omega)];unfold kG;rw[bQ (by simp_all)];rfl
def d72(h:left.length<=1000)(b:g.Stack.length<=1000):F72 n (left++[g],v,())=Z ((left++[lS g v],()),()):=by
 have a:∀x:aj,(left++[g]).set left.length x=left++[x]:=λx=>by simp_all
 unfold F72;simp(disch:=first|omega|simp only[g7];omega)only[aU,PZ,IF,hY,d124,a,lS]
def alS(h:left.length<=900)(d:fr.length<=90)(b:fr≠[])(hs:∀g∈fr,g.Stack.length<=1000):F72 n (left++fr,v,())=Z ((left++kN fr v,()),()):=by obtain⟨l,g,a⟩:∃l g,fr=l++[g]:=⟨_,_,(X2 b).symm⟩;have c:=hs g (by rw[a];simp);have:=eu List.length a;simp only[j9,nK]at this;rw[FJ a,a,<-wj,d72 (by simp;omega) c,wj]
def Mh{w':av}(t:At w a)(h1:w'.bI=w.bI)(h2:w.aN.length<=w'.aN.length):At w' a/\bE w' a=bE w a:=by
 have e:bE w' a=bE w a:=by unfold bE;rw[h1]
 exact⟨⟨t.lo,by rw[h1];exact t.hi,by rw[e];exact t.tlo,by rw[e];have:=t.thi;omega⟩,e⟩
def d75(t:At w a)(hl:w.aN.length<=1000)(h:left.length<40)(c:f.Stack.length<=900):F75 n (w,a,left++[f],o,())=Z ((jg w a (bE w a) (pG w left f o),()),()):=by have b:=Mh (w':=ia w o) t rfl (by simp[ia]);unfold F75 pG;split;simp(disch:=omega)only[aU,d79 t];simp(disch:=first|omega|simp only[g7];omega)only[aU,d126,j9,nK];rw[show aZ .i64 ((w.aN.length+1:Nat):Int) 1=(w.aN.length:Int)by rw[cW]<;>omega];simp(disch:=omega)only[aU,d72];have:=ZZ (n:=n) (fr:=left++[lS f (vR w.aN.length)]) b.1 (by simp;omega);rw[b.2]at this;exact(eu (λx=>ah x _) this).trans rfl
def Jx{e:O aP}(t:At w a)(h:left.length<40)(h1:w'.bI=w.bI)(h2:w.aN.length<=w'.aN.length) :
  F71 n (w',a,left++[lS f v],())=Z ((⟨gE w' (bE w a) ⟨6,0,[],left++[lS f v]⟩,0,ct⟩,()),()):=by
 obtain⟨h3,h4⟩:=Mh t h1 h2;rw[ZZ h3 (by simp;omega),h4]
theorem d76(t:At w a)(m:Bx c dd)(i:oX c dd w)(d:cG c w.aN.length u)(hn:∀o,gO w u 2=Z o->o.fP.length<=1000)
  (j:∀o,gO w u 5=Z o->o.Frames≠[]/\o.Frames.length<=40/\∀g∈o.Frames,g.Stack.length<=1000) (h:left.length<=40) {r:Bool} :
  F76 n (⟨c,dd⟩,w,a,left,u,v,r,())=Z ((jg w a (bE w a) (sQ c w left u v r),()),()):=by
 unfold F76 sQ;cases e:gO w u 5 with
 |some o=>
  obtain⟨h1,h2,h3,h4,h5,h6⟩:=eD i d e;have f:jE c w u v=Y:=by unfold jE gO;rw[bQ (by omega),<-h6,bQ (by omega)]
  obtain⟨k,p,l⟩:=j o e;have q:=FK (v:=v) (fs:=o.Frames);simp(disch:=omega)only[aU,d127 (λh=>d.ref h),e,js,alS (left:=left) (v:=v) (show left.length<=900 by omega) (show o.Frames.length<=90 by omega) k l,f];rw[d71 t (by grind)];unfold kG;simp only[Jv,yo,NA,j9];rfl
 |none=>
  cases f:jE c w u v with|none=>simp only[aU,d127 (λh=>d.ref h),e,js,d128 (λh=>d.code h) (λh=>d.ref h) hn,f,frR,d79 t]|some b=>simp(disch:=omega)only[aU,d127 (λh=>d.ref h),e,js,d128 (λh=>d.code h) (λh=>d.ref h) hn,f,frR,d70];rw[d71 t (by simp;omega)];unfold kG;simp only[Jv,yo,NA,j9];rfl
def d78(t:At w a)(k:op=13\/op=14\/op=15\/op=16\/op=17)(q:cG c w.aN.length u)(r:cG c w.aN.length v)(h:left.length<40)(s:f.Stack.length<=900) :
  F78 n (w,a,left++[f],op,u,v,())=Z ((jg w a (bE w a) (sM w left f op u v),()),()):=by
 have d:=λx=>Jx (n:=n) (w':=w) (f:=f) (v:=x) (e:=Y) t h rfl (eO _);have b:=λx=>d72 (n:=n) (left:=left) (g:=f) (v:=x) (by omega) (by omega);unfold F78 PV Uw sM;by_cases i:op=17;subst i;rw[bD rfl];by_cases h1:u.Kind=v.Kind;by_cases h2:u.Kind<=3;rw[bQ (by omega)];simp(disch:=omega)only[aU,show ∀x,bS W x=x from λ_=>rfl,Mf,d73,b,d]<;>rfl
 simp_all[bD,aU,d79]
 simp_all[bD,aU,d79]
 rw[bQ i];by_cases h1:u.Kind=1/\v.Kind=1;obtain⟨j,l⟩:=h1;have m:=q.int j;have o:=r.int l;have y:=Ys m o;simp only[jd,eW,qM]at m o;rw[bQ (by omega)];obtain h|h|h|h|h:=k
 subst h;simp only[Int.reduceEq,jP,ki];simp(disch:=omega)only[aU,aS,bZ,d63];cases p:jd (u.N+v.N)<;>simp only[aU,d43,b,d,d79 t,jP,ki,reduceCtorEq]<;>rfl;subst h;simp only[Int.reduceEq,jP,ki];simp(disch:=omega)only[aU,aS,cW,d63];cases p:jd (u.N-v.N)<;>simp only[aU,d43,b,d,d79 t,jP,ki,reduceCtorEq]<;>rfl;subst h;simp only[Int.reduceEq,jP,ki];simp(disch:=omega)only[aU,aS,Ln,d63];cases p:jd (u.N*v.N)<;>simp only[aU,d43,b,d,d79 t,jP,ki,reduceCtorEq]<;>rfl;subst h;simp only[Int.reduceEq,jP,ki];simp(disch:=omega)only[aU,d73,b,d]<;>rfl;omega;rw[bD (by omega)];by_cases j:u.Kind=1;simp(disch:=omega)only[aU,d79 t]<;>rfl
 simp_all[aU,d79]
end
end
section
section
variable {n:Nat}{c:aA}{dd:List au}{w w':av}{left fr:List aj}{f g:aj}{a op s form A B:Int}{v u:az}{o:bB}
structure Fx(c:aA)(dd:List au)(w:av)(left:List aj)(f:aj)(a:Int):Prop where
 at_:At w a
 hp:Bx c dd
 hw:oX c dd w
 h:left.length<40
 h':f.Stack.length<=60
 e:f.Env.length<=30
def Fx.QZ(x:Fx c dd w left f a)(v:az):F72 n (left++[f],v,())=Z ((left++[lS f v],()),()):=d72 (by have:=x.h;omega) (by have:=x.h';omega)
def Fx.p71(x:Fx c dd w left f a)(v:az)(h1:w'.bI=w.bI)(h2:w.aN.length<=w'.aN.length):F71 n (w',a,left++[lS f v],())=Z ((⟨gE w' (bE w a) ⟨6,0,[],left++[lS f v]⟩,0,ct⟩,()),()):=
 Jx (e:=Y) x.at_ x.h h1 h2
def KS{k:Int}:(gE w k o).aN.length=w.aN.length:=by unfold gE;simp
variable {l:List az}
def asI(x:Fx c dd w left f a)(hl:l=[v]):F80 n (w,a,left++[f],21,l,())=Z ((jg w a (bE w a) (pG w left f ⟨3,0,[v],[]⟩ (Z ⟨a,16,0,lA v⟩)),()),()):=by
 have ol:=x.hw.len;subst hl;unfold F80 BC;simp(disch:=first|omega|simp only[g7];omega)only[aU,kQ,d75 x.at_ (show w.aN.length<=1000 by omega) x.h (show f.Stack.length<=900 by have:=x.h';omega)];unfold pG;by_cases h:120<=w.aN.length;rw[bD h,bD h];simp only[aU,d83,jg,ki]<;>rfl
 simp_all[bQ,fD,aU,d83,jg,Int.reduceEq,jP]
def asH(x:Fx c dd w left f a)(hl:l=[v])(b:cG c w.aN.length v):F80 n (w,a,left++[f],22,l,())=Z ((jg w a (bE w a) (GQ w a left f v),()),()):=by
 subst hl;unfold F80 BC GQ;cases d:gO w v 3 with
 |none=>simp(disch:=first|omega|simp only[g7];omega)only[aU,kQ,d127 (λh=>b.ref h),d,js,d79 x.at_]
 |some o=>
  obtain⟨h3,h4,_⟩:=eD x.hw b d;have g:0<o.fP.length:=by cases h4<;>first|(cases h3;done)|simp
  have e:=λu=>x.p71 (n:=n) (w':=w) u rfl (eO _);simp(disch:=first|omega|simp only[g7];omega)only[aU,kQ,d127 (λh=>b.ref h),d,js,x.QZ,e,d83,Int.reduceEq,jP,jg]<;>rfl
def asG(x:Fx c dd w left f a)(hl:l=[u,v])(d:cG c w.aN.length u):F80 n (w,a,left++[f],23,l,())=Z ((jg w a (bE w a) (jr w a left f u v),()),()):=by subst hl;unfold F80 BC jr;cases e:gO w u 3 with|none=>simp(disch:=first|omega|simp only[g7];omega)only[aU,kQ,d127 (λh=>d.ref h),e,js,d79 x.at_]|some o=>obtain⟨h3,h4,h5,h6,g,_⟩:=eD x.hw d e;have b:=λq=>x.p71 (n:=n) (w':=gE w u.N ⟨3,0,[v],[]⟩) q rfl (by rw[KS];omega);unfold gE at b;simp(disch:=first|omega|simp only[g7];omega)only[aU,kQ,FQ,d127 (λh=>d.ref h),e,js,d74,x.QZ,b,d83,Int.reduceEq,jP,jg]<;>rfl
theorem d82(x:Fx c dd w left f a)(b:cG c w.aN.length u):F82 n (w,a,left++[f],u,())=Z ((jg w a (bE w a) (JQ w a left f u),()),()):=by
 unfold F82 JQ;cases d:gO w u 6 with
 |none=>simp only[aU,d127 (λh=>b.ref h),d,js,d79 x.at_]|some o=>
  obtain⟨h3,h4,_⟩:=eD x.hw b d;simp only;by_cases g:o.N=0
  simp_all[bD,aU,d127,js,jg]
  .rw[bQ g];by_cases h1:o.N=1
   .rw[bQ (by omega)];have i:0<o.fP.length:=by cases h4 with|done=>grind|dead p=>simp_all|rR=>grind|_=>cases h3
    have e:=λu=>x.p71 (n:=n) (w':=w) u rfl (eO _);simp(disch:=omega)only[aU,d127 (λh=>b.ref h),d,js,x.QZ,e,d83,Int.reduceEq,jP,jg]<;>rfl
   rw[bD h1];simp(disch:=omega)only[aU,d127 (λh=>b.ref h),d,js,d79 x.at_]
def asF(x:Fx c dd w left f a)(hl:l=[u,v])(d:cG c w.aN.length u):F84 n (w,a,left++[f],27,l,())=Z ((jg w a (bE w a) (Jl w a left f u v),()),()):=by subst hl;unfold F84 Kx Jl;cases e:gO w u 4 with|none=>simp(disch:=first|omega|simp only[g7];omega)only[aU,kQ,d127 (λh=>d.ref h),e,js,d79 x.at_]|some o=>obtain⟨h3,h4,h5,h6,i,_⟩:=eD x.hw d e;simp only;by_cases g:4<=o.fP.length;rw[bD g];simp(disch:=first|omega|simp only[g7];omega)only[aU,kQ,d127 (λh=>d.ref h),e,js,jg];rw[bQ g];have b:=λq=>x.p71 (n:=n) (w':=gE w u.N ⟨4,0,o.fP++[v],[]⟩) q rfl (by rw[KS];omega);unfold gE at b;simp(disch:=first|omega|simp only[g7];omega)only[aU,kQ,FQ,d127 (λh=>d.ref h),e,js,d124,d74,x.QZ,b,d83,Int.reduceEq,jP,jg]<;>rfl
def asE(x:Fx c dd w left f a)(hl:l=[u])(g:cG c w.aN.length u):F84 n (w,a,left++[f],28,l,())=Z ((jg w a (bE w a) (Jh w a left f u),()),()):=by
 subst hl;unfold F84 Kx Jh;cases i:gO w u 4 with
 |none=>simp(disch:=first|omega|simp only[g7];omega)only[aU,kQ,d127 (λh=>g.ref h),i,js,d79 x.at_]
 |some o=>
  obtain⟨h3,h4,h5,h6,m,_⟩:=eD x.hw g i;have j:o.fP.length<=4:=by cases h4<;>first|(cases h3;done)|assumption
  cases b:o.fP with|nil=>simp_all[g7,aU,kQ,d127,js,jg]|cons v d=>rw[b]at j;simp only[lR]at j;have k:cL (v::d) 1 (((v::d).length:Nat):Int)=d:=ql v d _ rfl;simp only[lR]at k;have e:=λq=>x.p71 (n:=n) (w':=gE w u.N ⟨4,0,d,[]⟩) q rfl (by rw[KS];omega);unfold gE at e;simp(disch:=first|omega|simp only[g7];omega)only[aU,kQ,d127 (λh=>g.ref h),i,js,b,x.QZ,k];simp only[aU,e,d83,Int.reduceEq,jP,jg]<;>rfl
def asC(x:Fx c dd w left f a)(hl:l=[v]):F85 n (w,a,left++[f],⟨29,A,B⟩,l,())=Z ((jg w a (bE w a) (Vp w a left f A v),()),()):=by subst hl;unfold F85 Vp;by_cases d:v.Kind=1;rw[bQ (by omega)];split;simp(disch:=first|omega|simp only[g7];omega)only[aU,kQ,d79 x.at_];have b:=λq=>x.p71 (n:=n) (w':=⟨w.aN,w.bI,w.mo++[⟨A,v.N⟩],w.dF,w.Used⟩) q rfl (eO _);simp(disch:=first|omega|simp only[g7];omega)only[aU,kQ,d74,x.QZ,b,d83,Int.reduceEq,jP,jg]<;>rfl;rw[bD d];simp(disch:=first|omega|simp only[g7];omega)only[aU,kQ,d79 x.at_]
def asD(x:Fx c dd w left f a):F85 n (w,a,left++[f],⟨30,A,B⟩,l,())=Z ((jg w a (bE w a) (inS w a left f),()),()):=by have g:=x.hw.ins;have j:=x.hw.used;unfold F85 inS;cases b:w.dF with|nil=>rfl|cons k d=>rw[b]at g;simp only[lR]at g;have h:cL (k::d) 1 (((k::d).length:Nat):Int)=d:=ql k d _ rfl;simp only[lR]at h;have i:lA (g8 k)=g8 k:=rfl;simp only;split;simp(disch:=first|omega|simp only[g7];omega)only[aU,b,d43,d79 x.at_];have e:=λq=>x.p71 (n:=n) (w':=⟨w.aN,w.bI,w.mo,d,w.Used+1⟩) q rfl (eO _);simp(disch:=first|omega|simp only[g7];omega)only[aU,b,d43,kQ,x.QZ,bZ,h];simp only[aU,e,d83,i,Int.reduceEq,jP,jg]<;>rfl
theorem DS{a:L aj}(hl:a.length<=41){R B P:Type}{F:Nat->Int×U->O (LO (Int×U) R B P)}
  (g:∀n c,F n c=ai (br 0 c.1) (aO (aF c.1 a) (ai (aq (bh a (ax c.1) aR).4) (Z (.next (aZ .i64 c.1 1,()))) (Z (.out 0 c)))) (Z (.out 0 c))) :
  ∀m:Nat,m<=a.length->(∀j(h:j<a.length),m<=j->a[j].dI=J)->
  gV F ((m:Int)-1,()) (.out 0 (match jZ (λf:aj=>f.dI) a with|some k=>(k:Int)|none=>-1,()))
 |0,_,h=>by rw[pW λj d=>h j d (FP _)];exact .out (bF λn=>by simp_all[aU])
 |m+1,o,h=>by
  have e:a.getD m aR=a[m]:=by grind
  have b:((m+1:Nat):Int)-1=(m:Int):=by omega
  cases i:a[m].dI with
  |true=>rw[uK (m:=m) (by omega) i λj d l=>h j d (by omega)];refine .out (bF λn=>?_);rw[g,b];simp(disch:=omega)only[aU,e,i]<;>rfl
  |false=>
   refine .next (y:=((m:Int)-1,())) (bF λn=>?_) (DS hl g m (by omega) λj d l=>?_)
   rw[g,b];simp(disch:=omega)only[aU,e,i,cW]<;>rfl
   grind
def d86(x:Fx c dd w left f a):Ev (λn=>F86 n (w,a,left++[f],A,())) ((jg w a (bE w a) (Fv w left f A),()),()):=by
 have t:=x.h;have u:=x.e;have m:(left++[f]).length=left.length+1:=by simp
 have e0:aZ .i64 (ak (left++[f])) 1=(((left++[f]).length:Nat):Int)-1:=cW (by simp only[ak];omega) (by simp only[ak];omega);have d:=λ(R B P:Type)=>@DS (left++[f]) (by omega) R B P _ (λn c=>rfl) (left++[f]).length (eO _) (λj I v=>by omega);have o:∀(k:Int)(r:(bn×U)×U){b:Nat->Int×U->O ((bn×U)×U)},Ev (λn=>b n (k,())) r->∀(R B P:Type)(F:Nat->Int×U->O (LO (Int×U) R B P))(p:Nat->B->R->O ((bn×U)×U))(q:Nat->B->P->O ((bn×U)×U))(y:Int×U),
   gV F y (.out 0 (k,()))->Ev (λn=>ah (iter (F n) n y) λc=>bK c (λ_ e=>b n e) (p n) (q n)) r:=by
  intro k r b h R B P F p q y z;exact Ev.bz z _ _ h
 unfold F86 Fv;simp only[e0];refine Ev.v5 (λn=>by rw[show aF ((((left++[f]).length:Nat):Int)-1) (left++[f])=W from ie.2 (by omega)]) ?_;cases g:jZ (λf:aj=>f.dI) (left++[f])with
 |none=>simp only[g]at d;refine o _ _ ?_ _ _ _ _ _ _ _ (d _ _ _);exact bF λn=>by simp(disch:=omega)only[aU,d79 x.at_]
 |some k=>
  obtain⟨i,_⟩:=uL g;simp only[g]at d;refine o _ _ ?_ _ _ _ _ _ _ _ (d _ _ _);simp only;have s:cL (left++[f]) (k:Int) (((left++[f]).length:Nat):Int)=(left++[f]).drop k:=by rw[BN];rfl
  have C:cL (left++[f]) 0 (k:Int)=(left++[f]).take k:=by rfl
  have E:(left++[f]).getD left.length aR=f:=hY _ _ _ _ rfl;simp only[j9,nK]at i s;split;exact bF λn=>by simp(disch:=omega)only[aU,d79 x.at_]
  obtain⟨h3,h4⟩:=Mh (w':=ia w ⟨5,0,[],(left++[f]).drop k⟩) x.at_ rfl (by simp[ia]);have l:=λn=>ZZ (n:=n) (fr:=(left++[f]).take k++[⟨A,f.Env++[vR w.aN.length],[],W⟩]) h3 (by simp;omega);refine bF λn=>?_;simp(disch:=first|omega|simp only[g7];omega)only[aU,s,C,IF,show(((left.length+(0+1):Nat):Int)-1).toNat=left.length by omega,d126,E,d124,d70];exact(eu (λx=>ah x _) (l n)).trans rfl
end
end
section
abbrev at7:=(L az×Bool×U)×U
def IP:O (L az)->at7
 |some m=>((m,W,()),())|none=>(([],J,()),())
def ahW(c:aA)(w:av)(q:aB):Prop:=∀(v:az),cG c w.aN.length v->v7 R129 (w,q,v,()) (IP (jB w q v))
section
variable {n:Nat}{c:aA}{dd:List au}{w w':av}{left fr:List aj}{f g:aj}{a op s form A B:Int}{v u:az}{o:bB}{i:bR}{l:List az}{m:Int}
theorem Oa{B P:Type}(d:Nat):∀(qs:L aB)(vs:L az)(pre:L aB)(b:L az)(l:L az),qs.length=vs.length->pre.length=b.length->pre.length+qs.length<=1000->
  (∀q∈qs,ahW c w q)->(∀v∈vs,cG c w.aN.length v)->l.length+oR qs<=1000->
  ∀(F:Nat->L az×Int×U->O (LO (L az×Int×U) (L az×Bool×U) U P)),
  (∀n e,F n e=ai (aD e.2.1 (ak (pre++qs))) (aO (aF e.2.1 (pre++qs)) (aO (aF e.2.1 (b++vs)) (ah (R129 n (n-d) (w,@bh aB (pre++qs) (ax e.2.1) aK,@bh az (b++vs) (ax e.2.1) bu,())) λg=>ai (aq g.1.2.1) (Z (X () ([],J,())))
   (aO (dg e.1 g.1.1) (Z (N (dc e.1 g.1.1,aG .i64 e.2.1 1,()))))))) (Z (H 0 e)))->
  gV F (l,(pre.length:Int),()) (match fF w qs vs with
   |some m=>.out 0 (l++m,((pre++qs).length:Int),())|none=>.ret () ([],J,()))
 |[],[],pre,b,l,_,_,k,_,_,_,F,f=>by unfold fF;refine .out (bF λn=>?_);rw[f];simp(disch:=omega)only[aU,jQ]<;>rfl
 |q::qs,v::vs,pre,b,l,t,E,k,o,p,u,F,f=>by
  unfold oR at u;simp only[lR]at k;have h1:=o q eI v (p v eI);have r:(pre++q::qs).getD pre.length aK=q:=rm ..;have s:(b++v::vs).getD pre.length bu=v:=by simp_all
  unfold fF;cases i:jB w q v with
  |none=>rw[i]at h1;refine .ret ?_;obtain⟨a,h1⟩:=h1 d;refine⟨a,λn j=>?_⟩;have:=h1 n j;simp only at this;show F n _=_;rw[f];simp(disch:=first|omega|simp only[g7];omega)only[aU,r,s];exact(eu (λx=>ah x _) this).trans rfl
  |some m=>
   rw[i]at h1;have z:=qX q v m i;have h2:=Oa (B:=B) (P:=P) d qs vs (pre++[q]) (b++[v]) (l++m) (by simpa using t) (by simp;omega) (by simp;omega) (λA h=>o A (hJ _ h)) (λC h=>p C (hJ _ h))
    (by simp;omega) F (λn e=>by rw[f];simp only[wj,Lf]<;>rfl)
   refine(.next (y:=(l++m,((pre++[q]).length:Int),())) ?_ ?_)
   .obtain ⟨a,h1⟩:=h1 d;refine⟨a,λn j=>?_⟩;have:=h1 n j;simp only at this;show F n _=_;rw[f];simp(disch:=first|omega|simp only[g7];omega)only[aU,r,s,bZ,gG,gM];refine(eu (λx=>ah x _) this).trans ?_;show TL.aO (dg l m) (Z (N (l++m,(pre.length:Int)+1,())))=_;rw[Bc (by omega)];simp<;>rfl
   grind
theorem mM(n k:Nat):R129 n (k+1)=B129 n (R129 n k):=rfl
theorem ajj:∀(q:aB),pw q<=1000->∀(i:oX c dd w),ahW c w q
 |⟨form,n0,text,parts⟩,l,i=>by
  intro v j;unfold pw at l;unfold jB;by_cases h1:form=1;refine v7.step mM λd=>bF λn=>?_;unfold B129;simp only[aU,h1,ki,IP]<;>rfl;rw[bQ h1];by_cases h2:form=2;refine v7.step mM λd=>bF λn=>?_;unfold B129;simp(disch:=omega)only[aU,h2,ki,IP]<;>rfl;rw[bQ h2];have cmp:∀u:az,(if Fe v u=W then Z ([]:L az)else Y)=Y/\bS (aa v.Kind u.Kind) (bS (aa v.N u.N) W)=J\/(if Fe v u=W then Z ([]:L az)else Y)=Z []/\bS (aa v.Kind u.Kind) (bS (aa v.N u.N) W)=W:=by
   intro u;have:bS (aa v.Kind u.Kind) (bS (aa v.N u.N) W)=Fe v u:=by rw[Mf];rfl
   rw[this];cases Fe v u<;>simp
  by_cases h3:form=3;rw[bD h3];refine v7.step mM λd=>bF λn=>?_;unfold B129 Dd;obtain⟨b,f⟩|⟨b,f⟩:=cmp (g8 n0)<;>rw[b]<;>simp(disch:=omega)only[aU,h3,d43,f,IP]<;>rfl
  rw[bQ h3];by_cases h4:form=4;rw[bD h4];refine v7.step mM λd=>bF λn=>?_;unfold B129 Dd;obtain⟨b,f⟩|⟨b,f⟩:=cmp (iD (n0==1))<;>rw[b]<;>simp(disch:=omega)only[aU,h4,alR,f,IP]<;>rfl
  rw[bQ h4];by_cases h5:form=5;rw[bD h5];refine v7.step mM λd=>bF λn=>?_;unfold B129 Dd;obtain⟨b,f⟩|⟨b,f⟩:=cmp ep<;>rw[b]<;>simp(disch:=omega)only[aU,h5,d74,f,IP]<;>rfl
  rw[bQ h5];cases k:gO w v 1 with
  |none=>refine v7.step mM λd=>bF λn=>?_;unfold B129;simp(disch:=omega)only[aU,d127 j.ref,k,js,IP]<;>rfl|some o=>
   dsimp only;obtain⟨_,r,_⟩:=eD i j k;by_cases p:o.N≠n0\/o.fP.length≠parts.length;rw[bD p];refine v7.step mM λd=>bF λn=>?_;unfold B129;by_cases C:o.N=n0;simp(disch:=omega)only[aU,d127 j.ref,k,js,IP]<;>rfl;simp(disch:=omega)only[aU,d127 j.ref,k,js,IP]<;>rfl;rw[bQ p];have m:=r.vals;have s:parts.length<=oR parts:=AJ parts;refine v7.step mM λd=>?_;have t:=Oa (c:=c) (w:=w) (B:=U) (P:=Any) d parts o.fP [] [] [] (by omega) rfl (by grind)
     (λq x=>aeB parts (by omega) i q x) m (by grind) _ (λn e=>rfl)
   have y:∀n,B129 n (R129 n (n-d)) (w,⟨form,n0,text,parts⟩,v,())=ah (iter (λe=>ai (aD e.2.1 (ak parts)) (aO (aF e.2.1 parts) (aO (aF e.2.1 o.fP) (ah (R129 n (n-d) (w,@bh aB parts (ax e.2.1) aK,@bh az o.fP (ax e.2.1) bu,())) λg=>ai (aq g.1.2.1) (Z (X () ([],J,())))
   (aO (dg e.1 g.1.1) (Z (N (dc e.1 g.1.1,aG .i64 e.2.1 1,()))))))) (Z (H 0 e))) n ([],0,())) λe=>bK e (λ_ h=>Z ((h.1,W,()),())) (λ_ h=>Z (h,())) λ_(_:Any)=>Y:=by intro n;unfold B129;simp(disch:=omega)only[aU,d127 j.ref,k,js]<;>rfl
   refine Ev.v5 y (Ev.bz t (λn e=>_) _ ?_);cases fF w parts o.fP<;>exact dB
where
 AJ:∀a:L aB,a.length<=oR a
 |[]=>FP _|⟨_,_,_,_⟩::a=>by unfold oR pw;have:=AJ a;grind
 aeB:∀(a:L aB),oR a<=1000->∀(i:oX c dd w),∀q∈a,ahW c w q
 |[],_,_,_,h=>by cases h
 |q::a,z,i,A,h=>by
  unfold oR at z;obtain h|h:=fV.1 h
  rw[h];exact ajj q (by omega) i;exact aeB a (by omega) i A h
def d69(h1:1<=i.Op)(h2:i.Op<=34)(f:i.Op=18->0<=i.A/\i.A<c.Cons.length/\0<=(c.Cons.getD i.A.toNat bg).lu):F69 n (⟨c,dd⟩,i,())=Z (((cA c i:Int),()),()):=by
 by_cases a:i.Op=18;obtain⟨g,j,l⟩:=f a;unfold F69 Eg BD cA kY;rw[bD a];simp(disch:=omega)only[aU,a,aS];rw[show(((c.Cons.getD i.A.toNat bg).lu.toNat:Nat):Int)=(c.Cons.getD i.A.toNat bg).lu by omega];obtain⟨k,b⟩:∃k:Nat,i.Op=k:=⟨_,(Ay (by omega)).symm⟩;have d:1<=k:=by omega
 have e:k<=34:=by omega
 unfold cA;rw[bQ a,show i.Op.toNat=k by omega];unfold F69;simp only[b]
 match k,d,e,b with
 |18,_,_,b=>omega
 |1,_,_,_|2,_,_,_|3,_,_,_|4,_,_,_|5,_,_,_|6,_,_,_|7,_,_,_|8,_,_,_|9,_,_,_|10,_,_,_|11,_,_,_|12,_,_,_|13,_,_,_|14,_,_,_|15,_,_,_|16,_,_,_|17,_,_,_
 |19,_,_,_|20,_,_,_|21,_,_,_|22,_,_,_|23,_,_,_|24,_,_,_|25,_,_,_|26,_,_,_|27,_,_,_|28,_,_,_|29,_,_,_|30,_,_,_|31,_,_,_|32,_,_,_|33,_,_,_|34,_,_,_=>rfl|k+35,_,h,_=>omega
end
end
section
section
variable {n:Nat}{c:aA}{dd:List au}{w w':av}{left fr:List aj}{f g:aj}{a op s form A B:Int}{v u:az}{o:bB}{i:bR}{l:List az}{m:Int}
theorem Fx.on(x:Fx c dd w left f a)(g:aj):F71 n (w,a,left++[g],())=Z ((jg w a (bE w a) (.go w (left++[g]) Y),()),()):=by have:=x.h;rw[ZZ x.at_ (by simp;omega)];rfl
def d77(x:Fx c dd w left f a)(S:c.eA.length<=100000)(io:PL c i)(hl:∀q∈l,cG c w.aN.length q)(A:i.Op=19->pw (iZ c i.A)<=12)(B:i.Op=10->i.A<=f.Env.length)(hn:i.Op=9\/i.Op=12\/i.Op=19->l.length=1)
  (t:i.Op=9\/i.Op=10\/i.Op=11\/i.Op=12\/i.Op=19):Ev (λn=>F77 n (⟨c,dd⟩,w,a,left++[f],i,l,())) ((jg w a (bE w a) (ir c w a left i f l),()),()):=by
 have C:=x.h;have E:=x.e;have F:=x.h';have e:=λ(n:Nat)g=>d70 (n:=n) (left:=left) (f:=g) (by omega);have on:=λ(n:Nat)g=>x.on (n:=n) g;have one:i.Op=9\/i.Op=12\/i.Op=19->∃v,l=[v]:=λh=>by
  have:=hn h
  match l,this with
  |[v],_=>exact⟨v,rfl⟩
 have m:Ky (⟨c,dd⟩,w,a,left++[f],i,l,())=(left.length:Int):=by unfold Ky;simp(disch:=omega)only[aU,IF]
 have o:jL (⟨c,dd⟩,w,a,left++[f],i,l,())=f:=by unfold jL;rw[m];exact hY _ _ _ _ rfl
 have p:Ee (⟨c,dd⟩,w,a,left++[f],i,l,())=W:=by unfold Ee;exact uY.2 (by simp only[ak,j9,nK];omega)
 have r:Ed (⟨c,dd⟩,w,a,left++[f],i,l,())=left:=by unfold Ed;rw[m];exact kf _ _ rfl
 have k:aF (left.length:Int) (left++[f])=W:=ie.2 (by simp;omega);unfold ir;obtain h|h|h|h|h:=t
 obtain⟨v,rfl⟩:=one (.inl h);simp[show i.Op.toNat=9 from eu Int.toNat h];refine bF λn=>?_;unfold F77 xl Ef PY;rw[m,o,p,r];simp(disch:=omega)only[aU,k,d124,e,on,kQ]<;>rfl;have hA:=io.drop h;have I:=B h;simp[show i.Op.toNat=10 from eu Int.toNat h];have K:cL f.Env 0 ((f.Env.length:Int)-i.A)=f.Env.take (f.Env.length-i.A.toNat):=by rw[xG,show((f.Env.length:Int)-i.A).toNat=f.Env.length-i.A.toNat by omega]
 refine bF λn=>?_;unfold F77 xl;rw[m,o,p,r];simp(disch:=omega) [aU,k,cW,K,e,on]<;>rfl;simp[show i.Op.toNat=11 from eu Int.toNat h];refine bF λn=>?_;unfold F77 Ux xl;rw[m,o,p,r];simp(disch:=omega) [aU,k,e,on]<;>rfl;obtain⟨v,rfl⟩:=one (.inr (.inl h));simp only[show i.Op.toNat=12 from eu Int.toNat h];show Ev _ ((jg _ _ _ (if v.Kind≠2 then _ else .go w (left++[⟨if v.N=0 then _ else _,_,_,_⟩]) Y),()),());refine bF λn=>?_;unfold F77 aaO Ux xl Ef;rw[m,o,p,r];by_cases P:v.Kind=2;rw[bQ (by omega)];by_cases z:v.N=0;simp(disch:=omega) [aU,k,e,on,kQ,bD z]<;>rfl;simp(disch:=omega) [aU,k,e,on,kQ,bQ z]<;>rfl;rw[bD P];simp(disch:=omega) [aU,k,kQ,d79 x.at_]<;>rfl;obtain⟨v,rfl⟩:=one (.inr (.inr h));have hc:=io.Be h;have Q:=hl v eI;have u:=ajj (c:=c) (dd:=dd) (w:=w) (iZ c i.A) (by omega) x.hw v Q 0
 let ⟨d,u⟩:=u
 have j:∀n,d<=n->F129 n (w,iZ c i.A,v,())=Z (IP (jB w (iZ c i.A) v)):=u;unfold iZ at A;simp[show i.Op.toNat=19 from eu Int.toNat h];show Ev _ ((jg _ _ _ (match jB w (iZ c i.A) v with|some b=>_|none=>.go w (left++[⟨_,_,f.Stack++[v],_⟩]) Y),()),());refine⟨d,λn s=>?_⟩;unfold F77 xl Ef PY;rw[m,o,p,r];cases y:jB w (iZ c i.A) v with|none=>rw[y]at j;simp(disch:=omega) [aU,k,kQ,d124,e,on];exact(eu (λx=>ah x _) (j n s)).trans rfl|some b=>have R:=qX _ _ _ y;rw[y]at j;unfold iZ at R;simp(disch:=omega) [aU,k,kQ,e,on];refine(eu (λx=>ah x _) (j n s)).trans ?_;show TL.aO (dg f.Env b) _=_;rw[Bc (by omega)];rfl
end
end
section
section
variable {n:Nat}{c:aA}{dd:List au}{w w':av}{left fr:List aj}{f g:aj}{a op s form A B:Int}{v u:az}{o:bB}{i:bR}{l:List az}{m:Int}
theorem agk{X R B P α:Type}(b:B)(r:R)(e:X->O α)(f:Nat->X->O α)(g:B->R->O α)(h:B->P->O α):cr (.ret b r) e f g h=g b r:=rfl
def alT(b:fr.length<=90)(a:fr≠[])(hs:∀g∈fr,g.Stack.length<=1000):F72 n (fr,v,())=Z ((kN fr v,()),()):=alS (left:=[]) (by simp) b a hs
def d81(x:Fx c dd w left f a)(d:cG c w.aN.length u)(hn:∀o,gO w u 2=Z o->o.fP.length<=1000)
  (p:∀o,gO w u 5=Z o->o.Frames≠[]/\o.Frames.length<=40/\∀g∈o.Frames,g.Stack.length<=1000):F81 n (⟨c,dd⟩,w,a,left++[f],u,())=Z ((jg w a (bE w a) (BO c w a left f u),()),()):=by
 let ⟨a1,a2,r,s⟩:=x.at_
 have t:=x.h;have ol:=x.hw.len;have tl:=x.hw.tl;have j:lA ep=ep:=rfl;have y:∀(q:L bB),aZ .i64 ((((w.aN.length+(0+1):Nat)):Int)) 1=(w.aN.length:Int):=λq=>by rw[cW]<;>omega
 have k:=y [];have z:(left++[lS f (vR w.aN.length)]).length=left.length+1:=by simp
 unfold F81 PR PS Ec H7 PT BB PU BO;unfold bE at r s;cases e:gO w u 5 with
 |some o=>
  let ⟨h1,h2,h3,h4,h5,h6⟩:=eD x.hw d e
  have i:jE c w u ep=Y:=by unfold jE gO;rw[bQ (by omega),<-h6,bQ (by omega)]
  let ⟨l,A,m⟩:=p o e
  simp[i];split;simp(disch:=omega)only[aU,d127 (λh=>d.ref h),e,js,d74,alT (v:=ep) (show o.Frames.length<=90 by omega) l m,aS,d83,ki,jg,gE,bE];simp(disch:=first|omega|simp only[g7];omega)only[aU,d127 (λh=>d.ref h),e,js,d74,alT (v:=ep) (show o.Frames.length<=90 by omega) l m,aS,k,d126,x.QZ,d83,Int.reduceEq,jP,j,jg,fD,gE,bE,Ld]<;>rfl
 |none=>
  cases i:jE c w u ep with|none=>simp(disch:=omega)only[aU,d127 (λh=>d.ref h),e,js,d74,d128 (λh=>d.code h) (λh=>d.ref h) hn,i,frR,agk,jg,gE,bE]<;>rfl|some b=>split;simp(disch:=omega)only[aU,d127 (λh=>d.ref h),e,js,d74,d128 (λh=>d.code h) (λh=>d.ref h) hn,i,frR,aS,d83,ki,jg,gE,bE];simp(disch:=first|omega|simp only[g7];omega)only[aU,d127 (λh=>d.ref h),e,js,d74,d128 (λh=>d.code h) (λh=>d.ref h) hn,i,frR,aS,k,d126,x.QZ,d83,Int.reduceEq,jP,j,jg,fD,gE,bE,Ld]<;>rfl
end
end
section
def fN{α:Type}(x:O α):ah x (λh=>Z h)=x:=by cases x<;>rfl
section
variable {n:Nat}{c:aA}{dd:List au}{w w':av}{left fr:List aj}{f g f0:aj}{a op s form A B:Int}{v u:az}{o:bB}{i:bR}{l:List az}{m:Int}
structure Dx(c:aA)(dd:List au)(w:av)(left:List aj)(i:bR)(f f0:aj)(l:List az)(m a:Int):Prop where
 sx:Sx c dd w left i f l m a
 at_:At w a
 hf:f=⟨f0.At+1,f0.Env,f0.Stack.take (f0.Stack.length-l.length),f0.dI⟩
 hl:l=f0.Stack.drop (f0.Stack.length-l.length)
 hi:i=aW c f0.At
 hle:l.length<=f0.Stack.length
 hm:f0.At=m
 hof:dh w (bE w a)=⟨6,0,[],left++[f0]⟩
def Dx.fx(x:Dx c dd w left i f f0 l m a):Fx c dd w left f a:=⟨x.at_,x.sx.cx.hp,x.sx.cx.hw,x.sx.cx.fl,x.sx.st.1,x.sx.st.2⟩
theorem Dx.kt(x:Dx c dd w left i f f0 l m a){u:az}(b:cG c w.aN.length u):∀o,gO w u 5=Z o->o.Frames≠[]/\o.Frames.length<=40/\∀g∈o.Frames,g.Stack.length<=1000:=by intro o d;obtain⟨h1,h2,_⟩:=eD x.sx.cx.hw b d;cases h2 with|AN p q r=>exact⟨by simp,by grind,λg e=>by have:=(T2 x.sx (by omega) (q g e)).1;omega⟩|_=>cases h1
abbrev Dp(c:aA)(dd:L au)(w:av)(left:L aj)(i:bR)(f f0:aj)(l:L az)(a:Int):Prop:=
 (xm (⟨c,dd⟩,w,a,())=(bE w a).toNat)/\
 (vN (⟨c,dd⟩,w,a,())=(left.length:Int))/\
 (mN (⟨c,dd⟩,w,a,())=f0)/\
 (ej (⟨c,dd⟩,w,a,())=i)/\
 (∀n,F69 n (⟨c,dd⟩,i,())=Z (((l.length:Int),()),()))/\
 (H8 (⟨c,dd⟩,w,a,()) (((l.length:Int),()),())=((f0.Stack.length-l.length:Nat):Int))/\
 (lW (⟨c,dd⟩,w,a,()) (((l.length:Int),()),())=l)/\
 (y5 (⟨c,dd⟩,w,a,()) (((l.length:Int),()),())=eU l 0)/\
 (aF a w.bI=W)/\
 (aF (w.bI.getD a.toNat 0) w.aN=W)/\
 ((w.aN.getD (bE w a).toNat bw).N=0)/\
 ((w.aN.getD (bE w a).toNat bw).Frames=left++[f0])/\
 (aF (left.length:Int) (left++[f0])=W)/\
 (aF f0.At c.dF=W)/\
 (ez ((f0.Stack.length-l.length:Nat):Int) (ak f0.Stack) (ak f0.Stack)=W)/\
 (ez 0 (left.length:Int) (ak (left++[f0]))=W)/\
 (ez 0 ((f0.Stack.length-l.length:Nat):Int) (ak f0.Stack)=W)/\
 (cL (left++[f0]) 0 (left.length:Int)=left)/\
 ((⟨aG .i64 f0.At 1,f0.Env,cL f0.Stack 0 ((f0.Stack.length-l.length:Nat):Int),f0.dI⟩:aj)=f)/\
 (∀n,F70 n (left,f,())=Z ((left++[f],()),()))
theorem Dx.parts(x:Dx c dd w left i f f0 l m a):Dp c dd w left i f f0 l a:=by
 have q:=x.sx.cx.fl;have r:=x.sx.st;have s:=x.sx.cx.n0;have t:=x.sx.cx.n1;have u:=x.sx.cx.hp.len;have v:=x.hle;have g:=x.sx.cx.ll;have A:=x.hm;have d:=x.at_;have fl:f.Stack.length=f0.Stack.length-l.length:=by rw[x.hf];simp
 have y:f0.Stack.length<=60:=by have:=x.sx.cx.sl;have:=(x.sx.cx.hp.dep.ok m x.sx.cx.n0 x.sx.cx.n1 x.sx.cx.re);omega
 have b:bh w.aN (bE w a).toNat bw=⟨6,0,[],left++[f0]⟩:=x.hof;have j:xm (⟨c,dd⟩,w,a,())=(bE w a).toNat:=rfl;have k:vN (⟨c,dd⟩,w,a,())=(left.length:Int):=by unfold vN;rw[j,b];show aZ .i64 (((left++[f0]).length:Nat):Int) 1=_;rw[j9,nK,cW]<;>omega
 have e:mN (⟨c,dd⟩,w,a,())=f0:=by unfold mN;rw[k,j,b];exact hY _ _ _ _ (by simp[ax])
 have z:ej (⟨c,dd⟩,w,a,())=i:=by unfold ej;rw[e,x.hi];rfl
 have o:H8 (⟨c,dd⟩,w,a,()) (((l.length:Int),()),())=((f0.Stack.length-l.length:Nat):Int):=by unfold H8;rw[e];show aZ .i64 ((f0.Stack.length:Nat):Int) (l.length:Int)=_;rw[cW]<;>omega
 have p:lW (⟨c,dd⟩,w,a,()) (((l.length:Int),()),())=l:=by unfold lW;rw[e,o];show cL f0.Stack _ ((f0.Stack.length:Nat):Int)=_;rw[BN,vT];exact x.hl.symm
 have io:=x.sx.cx.io;refine⟨j,k,e,z,?_,o,p,by unfold y5;rw[p];rfl,ie.2 ⟨d.lo,d.hi⟩,ie.2 ⟨d.tlo,d.thi⟩,by show(bh w.aN (bE w a).toNat bw).N=0;rw[b],by show(bh w.aN (bE w a).toNat bw).Frames=_;rw[b],ie.2 (by simp;omega),ie.2 (by omega),uY.2 (by simp only[ak];omega),uY.2 (by grind[ak,List.length_append,List.length_singleton]),
  uY.2 (by simp only[ak];omega),kf _ _ rfl,?_,λ_=>d70 (by omega)⟩
 intro n;rw[d69 io.lo io.hi (λh=>⟨(io.con h).1,(io.con h).2,(x.sx.cx.hp.cons _ (bW _ (by have:=io.con h;omega))).1⟩),g];rw[x.hf,xG,vT,bZ (by omega) (by omega)]
abbrev D37(c:aA)(dd:L au)(w:av)(left:L aj)(i:bR)(f:aj)(l:L az)(a:Int):Prop:=Ev (λn=>F37 n (⟨c,dd⟩,w,a,())) ((jg w a (bE w a) (ir c w a left i f l),()),())
end
end
section
section
variable {n:Nat}{c:aA}{dd:List au}{w w':av}{left fr:List aj}{f g f0:aj}{a op s form A B:Int}{v u:az}{o:bB}{i:bR}{l:List az}{m:Int}
theorem ahj(x:Dx c dd w left i f f0 l m a):D37 c dd w left i f l a:=by
 have h1:=x.sx.cx.io.lo;have h2:=x.sx.cx.io.hi;have io:=x.sx.cx.io;have nd:=x.sx.cx.nd;have fx:=x.fx;have q:=fx.h;have F:=fx.h';have I:=fx.e;have K:=x.sx.cx.hw.len;have on:=λ(n:Nat)g=>fx.on (n:=n) g;have s:f.Env=f0.Env:=by rw[x.hf]
 have P:f.dI=f0.dI:=by rw[x.hf]
 have t:cL (left++[f]) 0 (left.length:Int)=left:=kf _ _ rfl;have C:lA ep=ep:=rfl;have p:=x.parts;unfold D37 F37 UB KB Ms SD Mr SC CQ;simp only[p];by_cases o:i.Op=9\/i.Op=10\/i.Op=11\/i.Op=12\/i.Op=19;refine Ev.v5 (g:=λn=>F77 n (⟨c,dd⟩,w,a,left++[f],i,l,())) (λn=>?_) (d77 fx (by have:=fx.hp.pl;omega) io x.sx.cx.vals (λh=>(fx.hp.pats _ (bW _ (by have:=io.Be h;omega))).2) (λh=>by have:=nd.2.2.1 h;have:=x.sx.cx.el;omega) (λh=>by obtain h|h|h:=h<;>exact x.sx.cx.tl h (by decide)) o);obtain h|h|h|h|h:=o<;>(simp(disch:=omega)only[aU,h,p,aS];exact fN _)
 obtain⟨k,Q⟩:∃k:Nat,i.Op=k:=⟨_,(Ay (by omega)).symm⟩;have y:1<=k:=by omega
 have z:k<=34:=by omega
 unfold ir;rw[show i.Op.toNat=k by omega]
 match k,Q,y,z with
 |9,h,_,_|10,h,_,_|11,h,_,_|12,h,_,_|19,h,_,_=>omega|k+35,_,_,_=>omega|1,h,_,_=>refine bF λn=>?_;simp(disch:=omega)only[aU,h,p,aS,d43,fx.QZ,on]<;>rfl|2,h,_,_=>refine bF λn=>?_;simp(disch:=omega)only[aU,h,p,aS,alR,fx.QZ,on]<;>rfl|3,h,_,_=>refine bF λn=>?_;simp(disch:=omega)only[aU,h,p,aS,d74,fx.QZ,on]<;>rfl|4,h,_,_=>
  have hA:=io.place h;have R:=nd.2.1 h;have S:=x.sx.cx.el;rw[s]at *
  have hb:aF i.A f0.Env=W:=ie.2 (by omega);refine bF λn=>?_;simp(disch:=omega)only[aU,h,p,aS,hb,fx.QZ,on]<;>rfl
 |5,h,_,_=>refine bF λn=>?_;simp(disch:=omega)only[aU,h,p,aS,fx.QZ,on]<;>rfl|6,h,_,_=>refine bF λn=>?_;simp(disch:=omega)only[aU,h,p,aS,s,d75 fx.at_ (show w.aN.length<=1000 by omega) fx.h (show f.Stack.length<=900 by omega)]<;>rfl
 |7,h,_,_=>obtain⟨u,v,b,e,d⟩:=x.sx.two h (by decide) rfl;refine bF λn=>?_;simp(disch:=omega)only[aU,h,p,aS];subst b;simp(disch:=first|omega|simp only[g7];omega)only[aU,aS,kQ,FQ,eU,d76 (v:=v) (r:=J) (left:=left++[f]) fx.at_ fx.hp fx.hw e (l8 x.sx e) (x.kt e) (by simp;omega)]<;>rfl
 |8,h,_,_=>obtain⟨u,v,b,e,d⟩:=x.sx.two h (by decide) rfl;refine bF λn=>?_;simp(disch:=omega)only[aU,h,p,aS];subst b;simp(disch:=first|omega|simp only[g7];omega)only[aU,aS,kQ,FQ,eU,P,t,d76 (v:=v) (left:=left) fx.at_ fx.hp fx.hw e (l8 x.sx e) (x.kt e) (by omega)]<;>rfl
 |13,h,_,_=>have h:i.Op=13:=h;obtain⟨u,v,b,e,d⟩:=x.sx.two h (by decide) rfl;refine bF λn=>?_;simp(disch:=omega)only[aU,h,p,aS];subst b;simp(disch:=first|omega|simp only[g7];omega)only[aU,aS,kQ,FQ,eU,d78 (left:=left) (f:=f) fx.at_ (.inl rfl) e d fx.h (by omega)]<;>rfl
 |14,h,_,_=>have h:i.Op=14:=h;obtain⟨u,v,b,e,d⟩:=x.sx.two h (by decide) rfl;refine bF λn=>?_;simp(disch:=omega)only[aU,h,p,aS];subst b;simp(disch:=first|omega|simp only[g7];omega)only[aU,aS,kQ,FQ,eU,d78 (left:=left) (f:=f) fx.at_ (.inr (.inl rfl)) e d fx.h (by omega)]<;>rfl
 |15,h,_,_=>have h:i.Op=15:=h;obtain⟨u,v,b,e,d⟩:=x.sx.two h (by decide) rfl;refine bF λn=>?_;simp(disch:=omega)only[aU,h,p,aS];subst b;simp(disch:=first|omega|simp only[g7];omega)only[aU,aS,kQ,FQ,eU,d78 (left:=left) (f:=f) fx.at_ (.inr (.inr (.inl rfl))) e d fx.h (by omega)]<;>rfl
 |16,h,_,_=>have h:i.Op=16:=h;obtain⟨u,v,b,e,d⟩:=x.sx.two h (by decide) rfl;refine bF λn=>?_;simp(disch:=omega)only[aU,h,p,aS];subst b;simp(disch:=first|omega|simp only[g7];omega)only[aU,aS,kQ,FQ,eU,d78 (left:=left) (f:=f) fx.at_ (.inr (.inr (.inr (.inl rfl)))) e d fx.h (by omega)]<;>rfl
 |17,h,_,_=>have h:i.Op=17:=h;obtain⟨u,v,b,e,d⟩:=x.sx.two h (by decide) rfl;refine bF λn=>?_;simp(disch:=omega)only[aU,h,p,aS];subst b;simp(disch:=first|omega|simp only[g7];omega)only[aU,aS,kQ,FQ,eU,d78 (left:=left) (f:=f) fx.at_ (.inr (.inr (.inr (.inr rfl)))) e d fx.h (by omega)]<;>rfl
 |18,h,_,_=>refine bF λn=>?_;simp(disch:=omega)only[aU,h,p,aS,d75 fx.at_ (show w.aN.length<=1000 by omega) fx.h (show f.Stack.length<=900 by omega)]<;>rfl
 |20,h,_,_=>refine bF λn=>?_;simp(disch:=omega)only[aU,h,p,aS,d79 fx.at_]<;>rfl|21,h,_,_=>have h:i.Op=21:=h;obtain⟨v,b,d⟩:=x.sx.one h (by decide) rfl;refine bF λn=>?_;simp(disch:=omega)only[aU,h,p,aS];subst b;simp only[aU,aS,asI fx rfl]<;>rfl
 |22,h,_,_=>have h:i.Op=22:=h;obtain⟨v,b,d⟩:=x.sx.one h (by decide) rfl;refine bF λn=>?_;simp(disch:=omega)only[aU,h,p,aS];subst b;simp only[aU,aS,asH fx rfl d]<;>rfl
 |23,h,_,_=>have h:i.Op=23:=h;obtain⟨u,v,b,e,d⟩:=x.sx.two h (by decide) rfl;refine bF λn=>?_;simp(disch:=omega)only[aU,h,p,aS];subst b;simp only[aU,aS,asG fx rfl e]<;>rfl
 |24,h,_,_=>obtain⟨v,b,d⟩:=x.sx.one h (by decide) rfl;refine bF λn=>?_;simp(disch:=omega)only[aU,h,p,aS];subst b;simp(disch:=first|omega|simp only[g7];omega)only[aU,aS,kQ,FQ,eU,d81 fx d (l8 x.sx d) (x.kt d)]<;>rfl
 |25,h,_,_=>obtain⟨v,b,d⟩:=x.sx.one h (by decide) rfl;refine bF λn=>?_;simp(disch:=omega)only[aU,h,p,aS];subst b;simp(disch:=first|omega|simp only[g7];omega)only[aU,aS,kQ,FQ,eU,d82 fx d]<;>rfl
 |26,h,_,_=>refine bF λn=>?_;simp(disch:=omega)only[aU,h,p,aS,d75 fx.at_ (show w.aN.length<=1000 by omega) fx.h (show f.Stack.length<=900 by omega),d74,d83]<;>(unfold pG;split<;>simp[jg,fD,C,fN])
 |27,h,_,_=>have h:i.Op=27:=h;obtain⟨u,v,b,e,d⟩:=x.sx.two h (by decide) rfl;refine bF λn=>?_;simp(disch:=omega)only[aU,h,p,aS];subst b;simp only[aU,aS,asF fx rfl e]<;>rfl
 |28,h,_,_=>have h:i.Op=28:=h;obtain⟨v,b,d⟩:=x.sx.one h (by decide) rfl;refine bF λn=>?_;simp(disch:=omega)only[aU,h,p,aS];subst b;simp only[aU,aS,asE fx rfl d]<;>rfl
 |29,h,_,_=>obtain⟨v,b,d⟩:=x.sx.one h (by decide) rfl;obtain⟨A,A1,B1⟩:=i;have h:A=29:=h;subst h;refine bF λn=>?_;simp(disch:=omega)only[aU,p,aS];subst b;simp only[aU,aS,asC fx rfl]<;>rfl
 |30,h,_,_=>obtain⟨A,A1,B1⟩:=i;have h:A=30:=h;subst h;refine bF λn=>?_;simp(disch:=omega)only[aU,p,aS,asD fx]<;>rfl
 |31,h,_,_=>refine bF λn=>?_;have B:=λg=>d71 (n:=n) (fr:=left++[f]++[g]) fx.at_ (by simp;omega);rw[s,show kG w (left++[f]) [⟨i.A,f0.Env,[],W⟩]=kG w [] (left++[f]++[⟨i.A,f0.Env,[],W⟩])by unfold kG;simp];simp(disch:=first|omega|simp only[g7];omega)only[aU,h,p,aS,d70 (left:=left++[f]),B]<;>rfl
 |32,h,_,_=>refine Ev.v5 (g:=λn=>F86 n (w,a,left++[f],i.A,())) (λn=>?_) (d86 fx);simp(disch:=omega)only[aU,h,p,aS];exact fN _|33,h,_,_=>refine bF λn=>?_;simp(disch:=omega)only[aU,h,p,aS,d74,fx.QZ,on,d83]<;>simp[jg,fD,C,fN]|34,h,_,_=>
  have j:=x.sx.cx.left;obtain⟨v,b,d⟩:=x.sx.one h (by decide) rfl;have c3:ez 0 (left.length:Int) (ak (left++[f]))=W:=uY.2 (by grind[ak,List.length_append,List.length_singleton]);have t3:=fx.at_.tlo;have t4:=fx.at_.thi;refine bF λn=>?_;simp(disch:=omega)only[aU,h,p,aS,t];have hle:=x.hle;subst b;obtain rfl|⟨E,g,rfl⟩:=Tw left
  simp(disch:=first|omega|simp only[g7];omega)only[aU,p,aS,kQ,eU,d88]<;>rfl;rw[Tv]at *
  have hg:=(T2 x.sx (by omega) (j g (by simp))).1;simp only[j9,nK]at q;have on:=λg'=>ZZ (n:=n) (fr:=E++[g']) fx.at_ (by simp;omega);rw[FI];simp(disch:=first|omega|simp only[g7];omega)only[aU,p,aS,kQ,eU,t,d72 (left:=E) (g:=g) (v:=v) (by omega) (by omega),on]<;>rfl
end
end
section
section
variable {n:Nat}{c:aA}{dd:List au}{w w':av}{left fr:List aj}{f g f0:aj}{a op s form A B:Int}{v u:az}{o:bB}{i:bR}{l:List az}{m:Int}
def ahm(w:av):O (av×O aP)->bn
 |none=>⟨w,2,ct⟩|some (w',Y)=>⟨w',0,ct⟩|some (w',Z e)=>⟨w',1,e⟩
theorem d37(p:Bx c dd)(h:oX c dd w)(i:0<=a)(h1:a<w.bI.length):Ev (λn=>F37 n (⟨c,dd⟩,w,a,())) ((ahm w (o9 c w a),()),()):=by
 obtain⟨t1,t2,t3⟩:=h.task _ (bW 0 (show a.toNat<w.bI.length by omega));have l:=h.ob t1 t2;change 0<=bE w a at t1;change bE w a<_ at t2;change(dh w (bE w a)).Form=6 at t3;change gf c dd _ (dh w (bE w a))at l;unfold o9;simp only;by_cases j:(dh w (bE w a)).N=0
 .rw[bQ (by omega)];obtain⟨m,f,d,q,t,u⟩:=GP l t3 j;have o:=Z0 p h q t u;have g:=o.ll;have y:cA c (aW c f.At)<=f.Stack.length:=by
   grind
  have x:Dx c dd w m (aW c f.At) ⟨f.At+1,f.Env,f.Stack.take (f.Stack.length-cA c (aW c f.At)),f.dI⟩ f (f.Stack.drop (f.Stack.length-cA c (aW c f.At))) f.At a:=
   ⟨⟨o,i,h1⟩,⟨i,h1,t1,t2⟩,by rw[g],by rw[g],rfl,by omega,rfl,d⟩
  have b:=ahj x;unfold D37 at b;rw[d,RB]
  revert b
  generalize ir c w a m (aW c f.At) _ _=r;intro b;cases r with|waits=>exact b|fail s=>exact b|done v=>exact b|go w' fr e=>cases e<;>exact b
 rw[bD j];refine bF λn=>?_;have z:xm (⟨c,dd⟩,w,a,())=(bE w a).toNat:=rfl;have k:(w.aN.getD (bE w a).toNat bw).N≠0:=j;have A:aF a w.bI=W:=ie.2 ⟨i,h1⟩;have B:aF (w.bI.getD a.toNat 0) w.aN=W:=ie.2 ⟨t1,t2⟩;unfold F37;rw[z];simp(disch:=omega)only[aU,k,A,B]<;>rfl
end
end
section
section
variable {c:aA}{D out:List au}{n:Int}{d:au}
structure Ac(c:aA):Prop where
 len:1<=c.dF.length/\c.dF.length<=1500
 ins:∀i∈c.dF,PL c i
 pats:∀q∈c.eA,tH c.Cons q/\pw q<=12
 pl:c.eA.length<=100
 oV:∀f∈c.cY,0<=f/\f<c.dF.length
 fl:1<=c.cY.length/\c.cY.length<=300
 main:0<=c.Main/\c.Main<c.cY.length
 cons:∀k∈c.Cons,0<=k.lu/\k.lu<=3
def Ac.pok(h:Ac c)(a:Qj c D):Bx c D:=⟨h.len,h.ins,h.pats,h.pl,h.oV,h.fl,h.main,h.cons,a⟩
structure Good(c:aA)(n:Int)(d:au):Prop where
 lo:0<=n
 hi:n<c.dF.length
 st:d.Stack<=60
 en:d.Env<=30
 ne:yM c (aW c n) d
 re:d.Reached=W
def NoD(c:aA):Prop:=¬∃D,Qj c D
theorem AF(g:Ac c)(h:KG c n d)(i:¬Good c n d):NoD c:=λ⟨D,f⟩=>by obtain⟨a,b,e,r⟩:=f.BZ g.oV h;obtain⟨x,y,z⟩:=f.ok n a b (by grind);rw[e]at x y z;exact i ⟨a,b,x,y,z,r⟩
def Ym(a:Ac c){b:au}(h:KG c n d)(g:KG c n b)(i:d≠b):NoD c:=λ⟨D,f⟩=>by
 obtain⟨_,_,e,_⟩:=f.BZ a.oV h;obtain⟨_,_,j,_⟩:=f.BZ a.oV g
 simp_all
theorem E3{n:Int}(hn:0<=n)(a:n<out.length){m:Int}(b:0<=m):dW (out.set n.toNat d) m=if m=n then d else dW out m:=by
 unfold dW
 grind
def qZ(out:L au):Nat:=out.countP λd=>!d.Reached
theorem Of:qZ out<=out.length:=List.countP_le_length
theorem JP:∀{out:L au}{k:Nat},k<out.length->(out.getD k aT).Reached=J->d.Reached=W->qZ (out.set k d)+1=qZ out
 |a::out,0,_,h,b=>by
  grind[List.getD_cons_zero,qZ]
 |a::out,k+1,c,h,b=>by
  grind[qZ]
structure PI(c:aA)(T:Int->Prop)(out:List au):Prop where
 len:out.length=c.dF.length
 re:∀n:Int,0<=n->n<c.dF.length->(dW out n).Reached=W->KG c n (dW out n)/\Good c n (dW out n)
 fo:∀n:Int,0<=n->n<c.dF.length->(dW out n).Reached=W->¬T n->∀x∈dO c n (dW out n),0<=x.1/\x.1<c.dF.length/\dW out x.1=x.2
 zero:∀n:Int,0<=n->n<c.dF.length->(dW out n).Reached=J->dW out n=aT
theorem PI.mono{T d:Int->Prop}(h:PI c T out)(e:∀n,T n->d n):PI c d out:=⟨h.len,h.re,λn a b r f=>h.fo n a b r λg=>f (e n g),h.zero⟩
def PI.done(h:PI c (λ_=>False) out)(d:∀f∈c.cY,dW out f=bY 0 1):Qj c out:=
 ⟨h.len,d,λn a b r=>⟨(h.re n a b r).2.st,(h.re n a b r).2.en,(h.re n a b r).2.ne⟩,λn a b r=>h.fo n a b r id,λn a b r=>(h.re n a b r).1,h.zero⟩
theorem PI.set{T:Int->Prop}(h:PI c T out)(q:KG c n d)(i:Good c n d)(s:(dW out n).Reached=J):PI c (λm=>T m\/m=n) (out.set n.toNat d):=by
 have l:=h.len;have e:∀{m:Int},0<=m->dW (out.set n.toNat d) m=if m=n then d else dW out m:=λf=>E3 i.lo (by rw[l];exact i.hi) f
 refine⟨by simp_all,λm a b r=>?_,λm a b r j x g=>?_,λm a b r=>?_⟩;rw[e a]at r ⊢;by_cases f:m=n
 simp_all
 rw[bQ f]at r ⊢;exact h.re m a b r;have f:m≠n:=λf=>j (.inr f);rw[e a,bQ f]at r g;obtain⟨k,o,p⟩:=h.fo m a b r (λg=>j (.inl g)) x g;refine⟨k,o,?_⟩;rw[e k,bQ];exact p
 grind[AH]
 rw[e a]at r ⊢;by_cases f:m=n;rw[bD f,i.re]at r;cases r;rw[bQ f]at r ⊢;exact h.zero m a b r
def j4(out a:L au):Prop:=∀m:Int,0<=m->(dW out m).Reached=W->dW a m=dW out m
theorem j4.refl:j4 out out:=λ_ _ _=>rfl
def j4.trans{a b e:L au}(h:j4 a b)(d:j4 b e):j4 a e:=λm c r=>(d m c (by rw[h m c r];exact r)).trans (h m c r)
theorem VM(hl:out.length=c.dF.length)(a:Good c n d)(e:(dW out n).Reached=J):j4 out (out.set n.toNat d):=λm b r=>by
 rw[E3 a.lo (by rw[hl];exact a.hi) b,bQ]
 grind
end
end
section
section
variable {n:Nat}{c:aA}{dd:List au}{i:bR}{d:au}{m:Int}{op s e:Int}
theorem WJ(n k:Nat):R163 n (k+1)=B163 n (R163 n k):=rfl
mutual
def tL:∀q:aB,0<=fW q/\fW q<=pw q
 |⟨a,_,_,parts⟩=>by have:=JI parts;unfold fW pw;omega
def JI:∀qs:L aB,0<=jY qs/\jY qs<=oR qs
 |[]=>by unfold jY oR;omega
 |q::qs=>by have:=tL q;have:=JI qs;unfold jY oR;omega
end
theorem AJ:∀qs:L aB,qs.length<=oR qs
 |[]=>FP _|⟨_,_,_,_⟩::qs=>by unfold oR pw;have:=AJ qs;grind
def Names(q:aB):Prop:=v7 R163 (q,()) ((fW q,()),())
theorem JJ{R B P:Type}(d:Nat):∀(qs pre:L aB)(k:Int),0<=k->k+(oR qs:Int)<=100000->pre.length+qs.length<=100000->(∀q∈qs,Names q)->
  ∀F:Nat->Int×Int×U->O (LO (Int×Int×U) R B P),
  (∀n g,F n g=ai (aD g.2.1 (ak (pre++qs))) (aO (aF g.2.1 (pre++qs)) (ah (R163 n (n-d) (@bh aB (pre++qs) (ax g.2.1) aK,())) λh=>Z (N (aG .i64 g.1 h.1.1,aG .i64 g.2.1 1,())))) (Z (H 0 g)))->
  gV F (k,(pre.length:Int),()) (.out 0 (k+jY qs,((pre++qs).length:Int),()))
 |[],pre,k,_,_,_,_,F,b=>by unfold jY;refine .out (bF λn=>?_);rw[b];simp(disch:=omega) [aU,jQ,FT]<;>rfl
 |q::qs,pre,k,l,h1,e,c,F,b=>by
  unfold oR at h1;simp at e;have m:=tL q;have f:(pre++q::qs).getD pre.length aK=q:=rm ..;have h2:=JJ (R:=R) (B:=B) (P:=P) d qs (pre++[q]) (k+fW q) (by omega) (by omega) (by simp;omega) (λi h=>c i (hJ _ h)) F (λn g=>by rw[b];simp<;>rfl);have h3:=c q eI d;simp only[wj,Lf]at h2;unfold jY;rw[<-Int.add_assoc];refine .next (y:=(k+fW q,((pre++[q]).length:Int),())) ?_ h2
  let ⟨a,h3⟩:=h3
  refine⟨a,λn j=>?_⟩;have:=h3 n j;show F n _=_;rw[b];simp(disch:=first|omega|simp only[g7];omega)only[aU,f,gG,gM];refine(eu (λx=>ah x _) this).trans ?_;show Z (N (aG .i64 k (fW q),aG .i64 (pre.length:Int) 1,()))=_
  grind[bZ]
theorem names{cons:L cz}:∀q:aB,pw q<=1000->tH cons q->Names q
 |⟨a,n0,text,parts⟩,o,f=>by
  have j:a=2->parts=[]:=by
   grind[tH]
  have l:nM cons parts:=by
   obtain b|b|b|b:=f
   rw[b.2.2.2];trivial;rw[b.2.2.2];trivial;rw[b.2.2.2];trivial
   simp_all
  unfold pw at o;have v:=AJ parts;refine v7.step WJ λd=>?_;have m:=λ(k:Int)(p:0<=k)(h1:k<=1)=>JJ (R:=Int×U) (B:=U) (P:=Any) d parts [] k p (by omega) (by grind) (λq r=>names' parts (by omega) l q r) _ (λn g=>rfl);have s:∀n,B163 n (R163 n (n-d)) (⟨a,n0,text,parts⟩,())=ah (@iter (Int×Int×U) (Int×U) U Any (λg=>ai (aD g.2.1 (ak parts)) (aO (aF g.2.1 parts) (ah (R163 n (n-d) (@bh aB parts (ax g.2.1) aK,())) λh=>Z (N (aG .i64 g.1 h.1.1,aG .i64 g.2.1 1,())))) (Z (H 0 g))) n ((if a=2 then 1 else 0),0,())) λg=>bK g (λ_ i=>Z ((i.1,()),())) (λ_ i=>Z (i,())) λ_(_:Any)=>Y:=by intro n;unfold B163;by_cases h:a=2;simp only[aU,h,ki,aS]<;>rfl;simp(disch:=omega)only[aU,h,jP,aS]<;>rfl
  refine Ev.v5 s ?_;by_cases h:a=2;rw[bD h];refine Ev.bz (m 1 (by omega) (by omega)) (λn e=>_) _ ?_;exact bF λn=>by unfold fW;rw[bD h,j h];rfl
  rw[bQ h];refine Ev.bz (m 0 (by omega) (by omega)) (λn e=>_) _ ?_;exact bF λn=>by unfold fW;rw[bQ h,Int.zero_add];rfl
where
 names':∀(c:L aB),oR c<=1000->nM cons c->∀q∈c,Names q
 |[],_,_,_,h=>by cases h
 |q::c,t,f,u,h=>by
  unfold oR at t;obtain h|h:=fV.1 h
  rw[h];exact names q (by omega) f.1;exact names' c (by omega) f.2 u h
def HL(c:aA)(i:bR):Int:=if i.Op=8 then -3 else if i.Op=34 then -2 else cA c i
def d160(h1:1<=i.Op)(h2:i.Op<=34)(f:i.Op=18->0<=i.A/\i.A<c.Cons.length/\0<=(c.Cons.getD i.A.toNat bg).lu):F160 n (c,i,())=Z ((HL c i,()),()):=by
 by_cases a:i.Op=18
 let ⟨g,j,l⟩:=f a
 unfold F160 z6 xq HL cA kY;rw[bD a,bQ (by omega),bQ (by omega)];simp(disch:=omega)only[aU,aS];rw[show(((c.Cons.getD i.A.toNat bg).lu.toNat:Nat):Int)=(c.Cons.getD i.A.toNat bg).lu by omega];obtain⟨k,b⟩:∃k:Nat,i.Op=k:=⟨_,(Ay (by omega)).symm⟩;have d:1<=k:=by omega
 have e:k<=34:=by omega
 unfold HL cA;rw[bQ a,show i.Op.toNat=k by omega];unfold F160;simp only[b]
 match k,d,e,b with
 |18,_,_,b=>omega
 |1,_,_,_|2,_,_,_|3,_,_,_|4,_,_,_|5,_,_,_|6,_,_,_|7,_,_,_|8,_,_,_|9,_,_,_|10,_,_,_|11,_,_,_|12,_,_,_|13,_,_,_|14,_,_,_|15,_,_,_|16,_,_,_|17,_,_,_
 |19,_,_,_|20,_,_,_|21,_,_,_|22,_,_,_|23,_,_,_|24,_,_,_|25,_,_,_|26,_,_,_|27,_,_,_|28,_,_,_|29,_,_,_|30,_,_,_|31,_,_,_|32,_,_,_|33,_,_,_|34,_,_,_=>rfl|k+35,_,h,_=>omega
theorem d108:F108 n (s,e,())=Z ((bY s e,()),()):=rfl
def BT(l:L (Int×au)):L bq:=l.map λx=>⟨x.1,x.2⟩
def d161:F161 n (op,())=Z ((decide (op=8\/op=20\/op=34),()),()):=by unfold F161;by_cases h1:op=8;simp only[aU,h1]<;>rfl;by_cases h2:op=20;simp(disch:=omega)only[aU,h2]<;>rfl;simp(disch:=omega)only[aU,h1,h2,false_or]<;>rfl
def d162:F162 n (op,())=Z ((!decide (op=9\/op=10\/op=11\/op=12\/op=19),()),()):=by unfold F162 CV;by_cases h1:op=9;simp only[aU,h1]<;>rfl;by_cases h2:op=10;simp(disch:=omega)only[aU,h2]<;>rfl;by_cases h3:op=11;simp(disch:=omega)only[aU,h3]<;>rfl;by_cases h4:op=12;simp(disch:=omega)only[aU,h4]<;>rfl;by_cases h5:op=19;simp(disch:=omega)only[aU,h5]<;>rfl;simp(disch:=omega) [aU,h1,h2,h3,h4,h5,or_self,decide_false,Lc]<;>rfl
structure Lo(d:au):Prop where
 re:d.Reached=W
 s:0<=d.Stack
 e:0<=d.Env
def Ac.io(h:Ac c)(a:0<=m)(h1:m<c.dF.length):PL c (aW c m):=h.ins _ (bW _ (by omega))
def Ac.cn(h:Ac c)(a:0<=m)(h1:m<c.dF.length):(aW c m).Op=18->0<=(aW c m).A/\(aW c m).A<c.Cons.length/\0<=(c.Cons.getD (aW c m).A.toNat bg).lu:=
 λb=>by have:=(h.io a h1).con b;exact⟨this.1,this.2,(h.cons _ (bW _ (by omega))).1⟩
def Fj(h:Ac c)(b:0<=m)(h1:m<c.dF.length):cA c (aW c m)<=3:=by
 unfold cA kY;split;rename_i a;have:=(h.io b h1).con a;have:=(h.cons _ (bW bg (show(aW c m).A.toNat<c.Cons.length by omega)));omega;have:∀k:Nat,nH.getD k 0<=3:=by
  intro k;by_cases a:k<35;have:∀k:Fin 35,nH.getD k.1 0<=3:=by decide
  exact this ⟨k,a⟩
  simp_all[nH]
 exact this _
def alU(g:Ac c)(j:0<=m)(h1:m<c.dF.length)(hn:¬yM c (aW c m) d):F109 n (c,m,d,())=Z (([],J,()),()):=by
 have io:=g.io j h1;have a:=d160 (n:=n) (c:=c) (i:=aW c m) io.lo io.hi (g.cn j h1);have b:ic (c,m,d,())=aW c m:=rfl;generalize aW c m=i at *
 have l:∀k:Nat,i.Op=k->k≠18->cA c i=nH.getD k 0:=λk h p=>by unfold cA;rw[bQ (by omega),show i.Op.toNat=k by omega]
 unfold F109;unfold HL at a;unfold yM at hn;by_cases e:i.Op=8;rw[bD e]at a;have:=l 8 e (by decide);have f:cA c i=2:=this;have o:d.Stack≠2:=λh=>hn ⟨by omega,by omega,by omega,λ_=>h,by omega⟩;simp(disch:=omega) [aU,b,a,show aZ .i64 (-1) (-3)=2 from rfl]<;>rfl;by_cases k34:i.Op=34;rw[bQ e,bD k34]at a;have f:cA c i=1:=l 34 k34 (by decide);have o:d.Stack≠1:=λh=>hn ⟨by omega,by omega,by omega,by omega,λ_=>h⟩;simp(disch:=omega) [aU,b,a,show aZ .i64 (-1) (-2)=1 from rfl]<;>rfl;by_cases q:d.Stack<(cA c i:Int);simp(disch:=omega) [aU,b,a]<;>rfl;by_cases r:i.Op=4;have o:d.Env<=i.A:=by omega
 simp(disch:=omega) [aU,b,a]<;>rfl
 simp_all[CY,aU]
def d109(q:Ac c)(u:0<=m)(h1:m<c.dF.length)(hn:yM c (aW c m) d)(B:Lo d)(hs:d.Stack<=60)(he:d.Env<=30):Ev (λn=>F109 n (c,m,d,())) ((BT (dO c m d),W,()),()):=by
 have io:=q.io u h1;have C:=q.len;have b:=λn=>d160 (n:=n) (c:=c) (i:=aW c m) io.lo io.hi (q.cn u h1);have g:ic (c,m,d,())=aW c m:=rfl;have hi:aF m c.dF=W:=ie.2 ⟨u,h1⟩;have ht:=Fj q u h1;have r:dO c m d=(let i:=aW c m;let s:=fU c i d
  match i.Op.toNat with
  |8|20|34=>[]|9=>[(m+1,bY s (d.Env+1))]|10=>[(m+1,bY s (d.Env-i.A))]|11=>[(i.A,d)]|12=>[(m+1,bY s d.Env),(i.A,bY s d.Env)]|19=>[(m+1,bY s (d.Env+fW (iZ c i.A))),(i.B,d)]|6|32=>[(m+1,bY s d.Env),(i.A,bY 0 (d.Env+1))]|31=>[(m+1,bY s d.Env),(i.A,bY 0 d.Env)]|_=>[(m+1,bY s d.Env)]):=by rfl
 rw[r];clear r;generalize aW c m=i at *
 have tk:∀k:Nat,i.Op=k->k≠18->cA c i=nH.getD k 0:=λk h F=>by unfold cA;rw[bQ (by omega),show i.Op.toNat=k by omega]
 let ⟨n1,n2,n3,I,K⟩:=hn
 have P:=B.s;have Q:=B.e;have am:aG .i64 m 1=m+1:=bZ (by omega) (by omega);simp only;by_cases y:i.Op=8;rw[show i.Op.toNat=8 by omega];refine bF λn=>?_;have b:=b n;unfold HL at b;rw[bD y]at b;have:=I y;unfold F109;simp(disch:=omega)only[aU,g,b,show aZ .i64 (-1) (-3)=2 from rfl]<;>rfl;by_cases k34:i.Op=34;rw[show i.Op.toNat=34 by omega];refine bF λn=>?_;have b:=b n;unfold HL at b;rw[bQ y,bD k34]at b;have:=K k34;unfold F109;simp(disch:=omega)only[aU,g,b,show aZ .i64 (-1) (-2)=1 from rfl]<;>rfl;have red:∀n,F109 n (c,m,d,())=nr n (c,m,d,()) (((cA c i:Int),()),()):=by
  intro n;unfold HL at b;unfold F109;by_cases k4:i.Op=4
  simp_all[CY,aU]
  by_cases j:i.Op=10
  simp_all[CY,aU]
  simp_all[CY,aU]
 refine Ev.v5 red ?_;clear red;by_cases k20:i.Op=20;rw[show i.Op.toNat=20 by omega];refine bF λn=>?_;unfold nr;simp(disch:=omega)only[aU,g,d161,k20]<;>rfl;have f:=λn=>d161 (n:=n) (op:=i.Op);rw[jq (show ¬(i.Op=8\/i.Op=20\/i.Op=34)by omega)]at f;have sl:aZ .i64 d.Stack (cA c i:Int)=d.Stack-(cA c i:Int):=cW (by omega) (by omega);have l:aG .i64 (d.Stack-(cA c i:Int)) 1=d.Stack-(cA c i:Int)+1:=bZ (by omega) (by omega);have v:∀k:Int,0<=k->k<=1000->aG .i64 d.Env k=d.Env+k:=λk _ _=>bZ (by omega) (by omega);have p:(i.Op=9\/i.Op=10\/i.Op=11\/i.Op=12\/i.Op=19)->fU c i d=d.Stack-(cA c i:Int):=λh=>by unfold fU;omega
 have lo:¬(i.Op=9\/i.Op=10\/i.Op=11\/i.Op=12\/i.Op=19)->fU c i d=d.Stack-(cA c i:Int)+1:=λh=>by unfold fU;rw[bQ h]
 have e:=λn=>d162 (n:=n) (op:=i.Op);by_cases w:i.Op=9\/i.Op=10\/i.Op=11\/i.Op=12\/i.Op=19;rw[kO w]at e;have p:=p w;by_cases E:i.Op=9;rw[show i.Op.toNat=9 by omega,p];refine bF λn=>?_;unfold nr o5;simp(disch:=omega) [aU,g,sl,E,v 1 (by omega) (by omega),d108,am]<;>rfl;by_cases j:i.Op=10;rw[show i.Op.toNat=10 by omega,p];have:=io.drop j;have R:aZ .i64 d.Env i.A=d.Env-i.A:=cW (by omega) (by omega);refine bF λn=>?_;unfold nr o5;simp(disch:=omega) [aU,g,sl,j,R,d108,am]<;>rfl;by_cases k11:i.Op=11;rw[show i.Op.toNat=11 by omega];refine bF λn=>?_;unfold nr o5;simp(disch:=omega) [aU,g,sl,k11]<;>rfl;by_cases k12:i.Op=12;rw[show i.Op.toNat=12 by omega,p];refine bF λn=>?_;unfold nr o5 vz rN;simp(disch:=omega) [aU,g,sl,k12,d108,am]<;>rfl;have Ix:i.Op=19:=by omega
 rw[show i.Op.toNat=19 by omega,p];have hp:=io.Be Ix;have z:=q.pats _ (bW aK (show i.A.toNat<c.eA.length by omega));have A:=tL (c.eA.getD i.A.toNat aK)
 let ⟨a,o⟩:=names _ (by omega) z.1 0
 have t:∀n,a<=n->F163 n (c.eA.getD i.A.toNat aK,())=Z ((fW (c.eA.getD i.A.toNat aK),()),()):=o;refine⟨a,λn hn=>?_⟩;have o:=t n hn;show nr n _ _=_;rw[Ix]at f e;unfold nr o5 vz rN;simp(disch:=omega) [aU,g,f,e,IL,aS,sl,Ix,d108,am];refine(eu (λx=>ah x _) o).trans ?_;show Z ((([(⟨m+1,bY (d.Stack-(cA c i:Int)) (aG .i64 d.Env (fW (c.eA.getD i.A.toNat aK)))⟩:bq),⟨i.B,d⟩]:L bq),W,()),())=_;rw[v _ A.1 (by omega)];rfl;rw[jq w]at e;have lo:=lo w;by_cases S:i.Op=6;rw[show i.Op.toNat=6 by omega,lo];refine bF λn=>?_;unfold nr o5 vz rN;simp(disch:=omega) [aU,g,aS,sl,l,S,v 1 (by omega) (by omega),d108,am]<;>rfl;by_cases k32:i.Op=32;rw[show i.Op.toNat=32 by omega,lo];refine bF λn=>?_;unfold nr o5 vz rN;simp(disch:=omega) [aU,g,aS,sl,l,k32,v 1 (by omega) (by omega),d108,am]<;>rfl;by_cases k31:i.Op=31;rw[show i.Op.toNat=31 by omega,lo];refine bF λn=>?_;unfold nr o5 vz rN;simp(disch:=omega) [aU,g,aS,sl,l,k31,d108,am]<;>rfl;have E:i.Op≠9:=by omega
 have j:i.Op≠10:=by omega
 have k11:i.Op≠11:=by omega
 have k12:i.Op≠12:=by omega
 have Ix:i.Op≠19:=by omega
 have hk:(match i.Op.toNat with
  |8|20|34=>[]|9=>[(m+1,bY (fU c i d) (d.Env+1))]|10=>[(m+1,bY (fU c i d) (d.Env-i.A))]|11=>[(i.A,d)]|12=>[(m+1,bY (fU c i d) d.Env),(i.A,bY (fU c i d) d.Env)]|19=>[(m+1,bY (fU c i d) (d.Env+fW (iZ c i.A))),(i.B,d)]|6|32=>[(m+1,bY (fU c i d) d.Env),(i.A,bY 0 (d.Env+1))]|31=>[(m+1,bY (fU c i d) d.Env),(i.A,bY 0 d.Env)]|_=>[(m+1,bY (fU c i d) d.Env)]:L (Int×au))=[(m+1,bY (fU c i d) d.Env)]:=by
  split<;>first|rfl|(exfalso;omega)
 rw[hk,lo];refine bF λn=>?_;unfold nr o5 vz rN;simp(disch:=omega)only[aU,g,f,e,Lc,aS,sl,l,d108,am]<;>rfl
end
end
section
section
variable {n:Nat}{c:aA}{i:bR}{d:au}{m:Int}{op s e:Int}
def ZM{a b:au}(h:a=b):bS (pJ a.1 b.1) (bS (aa a.2 b.2) (bS (aa a.3 b.3) W))=W:=by
 subst h
 let ⟨r,s,e⟩:=a
 cases r<;>simp[bS,pJ,aa]
theorem aeV{a b:au}(h:a≠b):bS (pJ a.1 b.1) (bS (aa a.2 b.2) (bS (aa a.3 b.3) W))=J:=by
 let ⟨r,s,e⟩:=a
 let ⟨c,d,f⟩:=b
 grind[bS,pJ,aa]
theorem Gk(g:Ac c)(i:0<=m)(h1:m<c.dF.length)(hn:yM c (aW c m) d)(e:Lo d){x:Int×au}(a:x∈dO c m d):0<=x.1/\Lo x.2:=by
 have io:=g.io i h1;have j:=AH a e.re;have h2:=e.s;have h3:=e.e
 let ⟨n1,l,n,o,p⟩:=hn
 have b:0<=fU c (aW c m) d:=by unfold fU;split<;>omega
 have k:=io.goto;have f:=io.Be
 suffices h:0<=x.1/\0<=x.2.Stack/\0<=x.2.Env from⟨h.1,j,h.2.1,h.2.2⟩
 unfold dO at a;dsimp only at a;split at a<;>rename_i q<;>simp only[fV,List.not_mem_nil,or_false]at a;subst a;exact⟨by omega,b,by show 0<=d.Env+1;omega⟩;subst a;exact⟨by omega,b,by show 0<=d.Env-_;omega⟩
 grind
 obtain a|a:=a<;>subst a
 exact⟨by omega,b,h3⟩;exact⟨by omega,b,h3⟩;have:=f (by omega);obtain a|a:=a<;>subst a
 exact⟨by omega,b,by show 0<=d.Env+_;have:=(tL (iZ c (aW c m).A)).1;omega⟩
 simp_all
 obtain a|a:=a<;>subst a
 exact⟨by omega,b,h3⟩;exact⟨by omega,IK _,by show 0<=d.Env+1;omega⟩;obtain a|a:=a<;>subst a
 exact⟨by omega,b,h3⟩;exact⟨by omega,IK _,by show 0<=d.Env+1;omega⟩;obtain a|a:=a<;>subst a
 exact⟨by omega,b,h3⟩;exact⟨by omega,IK _,h3⟩;subst a;exact⟨by omega,b,h3⟩
def Vz:(dO c m d).length<=2:=by unfold dO;dsimp only;split<;>simp
abbrev DX:=L au×L bq×Int×U
structure DI(c:aA)(x:DX):Prop where
 k:0<=x.2.2.1/\x.2.2.1<=x.2.1.length
 wk:∀r∈x.2.1,KG c r.At r.jM/\Lo r.jM/\0<=r.At
 afR:∀j:Nat,(j:Int)<x.2.2.1->(x.2.1.getD j bf).At<c.dF.length/\dW x.1 (x.2.1.getD j bf).At=(x.2.1.getD j bf).jM
 len:x.1.length=c.dF.length
 re:∀n:Int,0<=n->n<c.dF.length->(dW x.1 n).Reached=W->KG c n (dW x.1 n)/\Good c n (dW x.1 n)
 fo:∀n:Int,0<=n->n<c.dF.length->(dW x.1 n).Reached=W->∀y∈dO c n (dW x.1 n),(⟨y.1,y.2⟩:bq)∈x.2.1
 zero:∀n:Int,0<=n->n<c.dF.length->(dW x.1 n).Reached=J->dW x.1 n=aT
 fl:∀f∈c.cY,(⟨f,bY 0 1⟩:bq)∈x.2.1
 sz:x.2.1.length+2*qZ x.1<=c.cY.length+2*c.dF.length
def DI.done{x:DX}(h:DI c x)(k:x.2.2.1=x.2.1.length):Qj c x.1:=by
 have key:∀r∈x.2.1,0<=r.At/\r.At<c.dF.length/\dW x.1 r.At=r.jM:=by intro r d;obtain⟨j,e,rfl⟩:=rQ d;have:=h.afR j (by omega);rw[zm,iX e]at this;exact⟨(h.wk _ d).2.2,this.1,this.2⟩
 exact PI.done (c:=c) ⟨h.len,h.re,λn a b r _ y g=>key _ (h.fo n a b r y g),h.zero⟩ λf i=>(key _ (h.fl f i)).2.2
def DQ(c:aA)(o:LO DX (L au×Bool×U) U Any):Prop:=
 (∃x:DX,o=.out 0 x/\Qj c x.1)\/(o=.ret () ([],J,())/\NoD c)
theorem Wm(s:Ac c)(F:Nat->DX->O (LO DX (L au×Bool×U) U Any))
  (v:∀n g,F n g=ai (aD g.2.2.1 (ak g.2.1)) (aO (aF g.2.2.1 g.2.1) (aO (dX (ax g.2.2.1) g.2.1) (aO (aF g.2.2.1 g.2.1) (aO (dX (ax g.2.2.1) g.2.1) (ai (br (ak c.1) (bh g.2.1 (ax g.2.2.1) bf).1) (nE n) (ai (aD 60 (bh g.2.1 (ax g.2.2.1) bf).2.2) (nE n) (ai (aD 30 (bh g.2.1 (ax g.2.2.1) bf).2.3) (nE n) (aO (vM g) (aO (dX (jw g) g.1) (ai (bh g.1 (jw g) aT).1 (aO (vM g) (aO (dX (jw g) g.1) (ai (aq (bS (pJ (bh g.1 (jw g) aT).1 (bh g.2.1 (ax g.2.2.1) bf).2.1) (bS (aa (bh g.1 (jw g) aT).2 (bh g.2.1 (ax g.2.2.1) bf).2.2) (bS (aa (bh g.1 (jw g) aT).3 (bh g.2.1 (ax g.2.2.1) bf).2.3) W)))) (nE n) (BE n (c,()) g)))) (BE n (c,()) g))))))))))) (Z (H 0 g)))
  (x:DX) (h:DI c x):(∃y,Ev (λn=>F n x) (.next y)/\DI c y/\2*qZ y.1+(y.2.1.length-y.2.2.1.toNat)<2*qZ x.1+(x.2.1.length-x.2.2.1.toNat))\/∃o,(∀y,o≠.next y)/\Ev (λn=>F n x) o/\DQ c o:=by
 let ⟨out,b,kk,⟨⟩⟩:=x
 obtain⟨k,hk⟩:∃k:Nat,kk=k:=⟨_,(Ay h.k.1).symm⟩;subst hk;have hkl:k<=b.length:=by have:=h.k.2;simp_all
 have hlen:out.length=c.dF.length:=h.len;have hcl:=s.len;have hfl:=s.fl;have hsz:=h.sz;simp only at hsz;have bad:∀{o:LO DX (L au×Bool×U) U Any},o=.ret () ([],J,())->∀y,o≠.next y:=λh y=>by simp_all
 by_cases WY:k=b.length
 .subst WY;refine .inr ⟨.out 0 (out,b,(b.length:Int),()),(λy h=>by cases h),bF λn=>?_,.inl ⟨_,rfl,h.done rfl⟩⟩;rw[v];simp(disch:=omega) [aU]<;>rfl
 .have hk':k<b.length:=by omega
  have I:b.getD k bf∈b:=bW _ hk'
  let ⟨C,r2,E⟩:=h.wk _ I
  have K:=r2.re;generalize A:b.getD k bf=r at *
  have no:∀{Q:Prop},NoD c->(∀n,F n (out,b,(k:Int),())=Z (.ret () ([],J,())))->Q\/∃o,(∀y,o≠.next y)/\Ev (λn=>F n (out,b,(k:Int),())) o/\DQ c o:=
   λh1 h2=>.inr ⟨.ret () ([],J,()),bad rfl,bF h2,.inr ⟨rfl,h1⟩⟩
  by_cases b1:(c.dF.length:Int)<=r.At;refine no (AF s C λg=>by have:=g.hi;omega) λn=>?_;rw[v];simp(disch:=omega)only[aU,A,nE]<;>rfl;by_cases b2:60<r.jM.Stack;refine no (AF s C λg=>by have:=g.st;omega) λn=>?_;rw[v];simp(disch:=omega)only[aU,A,nE]<;>rfl;by_cases b3:30<r.jM.Env;refine no (AF s C λg=>by have:=g.en;omega) λn=>?_;rw[v];simp(disch:=omega)only[aU,A,nE]<;>rfl;have ha:(out.getD r.At.toNat aT)=dW out r.At:=rfl;cases t:(dW out r.At).Reached with
  |true=>
   by_cases b5:dW out r.At=r.jM;have P:=ZM b5;rw[t]at P;refine .inl ⟨(out,b,(k:Int)+1,()),bF λn=>?_,⟨by grind,h.wk,?_,h.len,h.re,h.fo,h.zero,h.fl,h.sz⟩,by grind⟩;rw[v];unfold BE jw vM;simp(disch:=omega)only[aU,A,ha,t,P,bZ]<;>rfl;intro j hj;by_cases hjk:j=k
   simp_all
   exact h.afR j (by grind);have P:=aeV b5;rw[t]at P;refine no (Ym s (h.re _ E (by omega) t).1 C b5) λn=>?_;rw[v];unfold jw vM;simp(disch:=omega)only[aU,A,ha,t,P,nE]<;>rfl
  |false=>
   by_cases R:yM c (aW c r.At) r.jM
   .have hg:Good c r.At r.jM:=⟨E,by omega,by omega,by omega,R,K⟩
    let ⟨a,i⟩:=d109 s E (by omega) R r2 (by omega) (by omega)
    have B:∀n,a<=n->F109 n (c,r.At,r.jM,())=Z ((BT (dO c r.At r.jM),W,()),()):=i;have hl0:=JP (out:=out) (k:=r.At.toNat) (d:=r.jM) (by omega) t K;have hnl:=Vz (c:=c) (m:=r.At) (d:=r.jM);have hrl:(BT (dO c r.At r.jM)).length=(dO c r.At r.jM).length:=by simp[BT]
    have u:=λ(q:Int)(e:0<=q)=>E3 (d:=r.jM) (out:=out) E (by omega) e;refine .inl ⟨(out.set r.At.toNat r.jM,b++BT (dO c r.At r.jM),(k:Int)+1,()),⟨a,λn hn=>?_⟩,⟨by grind,?_,?_,by simp_all,?_,?_,?_,?_,?_⟩,?_⟩;show F n _=_;rw[v];unfold BE jw vM;simp(disch:=omega)only[aU,A,ha,t,B n hn,bZ]<;>rfl
    .intro q e;obtain e|e:=eX.1 e
     exact h.wk q e
     .obtain ⟨y,w,rfl⟩:=ym.1 e;have:=Gk s E (by omega) R r2 w;exact⟨.next C w,this.2,this.1⟩
    intro j hj;simp only at hj ⊢;have hgd:(b++BT (dO c r.At r.jM)).getD j bf=b.getD j bf:=by rw[zm,zm,Tz (by omega)]
    rw[hgd];by_cases hjk:j=k
    simp_all
    have hp:=h.afR j (by grind);have hw:=h.wk _ (bW (l:=b) bf (show j<b.length by omega));refine⟨hp.1,?_⟩;rw[u _ hw.2.2,bQ];exact hp.2;intro hne;rw[hne]at hp;rw[hp.2,hw.2.1.re]at t;cases t;intro q z S p;rw[u q z]at p ⊢;by_cases e:q=r.At
    simp_all
    rw[bQ e]at p ⊢;exact h.re q z S p;intro q z S p y w;rw[u q z]at p w;by_cases e:q=r.At;subst e;rw[bD rfl]at w;exact eV _ (ym.2 ⟨y,w,rfl⟩);rw[bQ e]at p w;exact fS _ (h.fo q z S p y w);intro q z S p;rw[u q z]at p ⊢;by_cases e:q=r.At
    simp_all
    rw[bQ e]at p ⊢;exact h.zero q z S p;exact λf hf=>fS _ (h.fl f hf)
    grind
    grind
   refine no (AF s C λg=>R g.ne) λn=>?_;have i:=alU (n:=n) s E (by omega) R;rw[v];unfold BE jw vM;simp(disch:=omega)only[aU,A,ha,t,i,nE]<;>rfl
theorem d51(a:Ac c):(∃D,Qj c D/\Ev (λn=>F51 n (c,())) ((D,W,()),()))\/(NoD c/\Ev (λn=>F51 n (c,())) (([],J,()),())):=by
 have t:=a.len;have u:=a.fl;have mk:Q6 (ak c.1)=W:=by
  unfold Q6 ak
  grind
 have h1:∀(R B P:Type)(F:Nat->L bq×Int×U->O (LO (L bq×Int×U) R B P)),
   (∀n x,F n x=ai (aD x.2.1 (ak c.3)) (aO (aF x.2.1 c.3) (ah (F108 n (0,1,())) λd=>aO (dg x.1 [bq.mk (bh c.3 (ax x.2.1) 0) d.1.1]) (Z (N (dc x.1 [bq.mk (bh c.3 (ax x.2.1) 0) d.1.1],aG .i64 x.2.1 1,()))))) (Z (H 0 x)))->
   gV F ([],0,()) (.out 0 (c.cY.map (λf=>(⟨f,bY 0 1⟩:bq)),(c.cY.length:Int),())):=by
  intro R B P F p;have:=kA (F:=F) c.cY.length (λk=>(((c.cY.take k).map (λf=>(⟨f,bY 0 1⟩:bq))),(k:Int),())) 0 (λk C=>bF λn=>by
   rw[p];have e:(c.cY.take (k+1)).map (λf=>(⟨f,bY 0 1⟩:bq))=(c.cY.take k).map (λf=>(⟨f,bY 0 1⟩:bq))++[⟨c.cY.getD k 0,bY 0 1⟩]:=by
    grind[List.take_succ_eq_append_getElem]
   have E:((c.cY.take k).map (λf=>(⟨f,bY 0 1⟩:bq))).length<=1000:=by simp;omega
   simp(disch:=first|omega|simp only[g7];omega)only[aU,d108,bZ,e]<;>rfl) (bF λn=>by
   rw[p];simp(disch:=omega) [aU]<;>rfl)
  simp_all
 have v:DI c (List.replicate c.dF.length aT,c.cY.map (λf=>(⟨f,bY 0 1⟩:bq)),0,()):=by
  have l:∀q:Int,dW (List.replicate c.dF.length aT) q=aT:=λq=>by unfold dW;rw[zm,List.getElem?_replicate];split<;>rfl
  refine⟨⟨IK _,by grind⟩,?_,λj I=>by grind,by simp,λq _ _ r=>?_,λq _ _ r=>?_,λq _ _ _=>l q,λf b=>ym.2 ⟨f,b,rfl⟩,?_⟩;intro r w;obtain⟨f,b,rfl⟩:=ym.1 w;exact⟨.root b,⟨rfl,IK _,show(0:Int)<=1 by decide⟩,(a.oV f b).1⟩;simp[l]at r;cases r;simp[l]at r;cases r
  grind[Of]
 have start:∀{r:(L au×Bool×U)×U},Ev (λn=>ah (@iter DX (L au×Bool×U) U Any (λg=>ai (aD g.2.2.1 (ak g.2.1)) (aO (aF g.2.2.1 g.2.1) (aO (dX (ax g.2.2.1) g.2.1) (aO (aF g.2.2.1 g.2.1) (aO (dX (ax g.2.2.1) g.2.1) (ai (br (ak c.1) (bh g.2.1 (ax g.2.2.1) bf).1) (nE n) (ai (aD 60 (bh g.2.1 (ax g.2.2.1) bf).2.2) (nE n) (ai (aD 30 (bh g.2.1 (ax g.2.2.1) bf).2.3) (nE n) (aO (vM g) (aO (dX (jw g) g.1) (ai (bh g.1 (jw g) aT).1 (aO (vM g) (aO (dX (jw g) g.1) (ai (aq (bS (pJ (bh g.1 (jw g) aT).1 (bh g.2.1 (ax g.2.2.1) bf).2.1) (bS (aa (bh g.1 (jw g) aT).2 (bh g.2.1 (ax g.2.2.1) bf).2.2) (bS (aa (bh g.1 (jw g) aT).3 (bh g.2.1 (ax g.2.2.1) bf).2.3) W)))) (nE n) (BE n (c,()) g)))) (BE n (c,()) g))))))))))) (Z (H 0 g))) n (afN (ax (ak c.1)) aT,c.cY.map (λf=>(⟨f,bY 0 1⟩:bq)),0,())) λg=>bK g (λ_ i=>Z ((i.1,W,()),())) (λ_ i=>Z (i,())) λ_ _=>Y) r->Ev (λn=>F51 n (c,())) r:=by
  intro r h;have y:nW (Q6 (ak c.1)) (fZ (ak c.1) (ak c.1))=W:=by rw[mk];simp[nW,fZ]
  show Ev (λn=>aO (nW (Q6 (ak c.1)) (fZ (ak c.1) (ak c.1))) _) r;rw[y];refine Ev.bz (h1 (L au×Bool×U) U Any _ (λn x=>rfl)) _ r ?_;exact h
 let ⟨o,s,z⟩:=gV.inv (F:=λn=>_) (DI c) (λx=>2*qZ x.1+(x.2.1.length-x.2.2.1.toNat)) (DQ c) (Wm a _ (λn g=>rfl)) _ v
 obtain⟨x,rfl,A⟩|⟨rfl,m⟩:=z
 exact .inl ⟨x.1,A,start (Ev.bz s (λn e=>_) _ dB)⟩;exact .inr ⟨m,start (Ev.bz s (λn e=>_) _ dB)⟩
end
end
section
section
variable {n:Nat}{c:aA}{i:bR}{d:au}{m:Int}{op s e:Int}{out:List au}{todo:List Int}
def s8(c:aA)(i:bR):eB:=
 if i.Op=4 then .a0 ⟨i.A+1⟩else if i.Op=10 then .a0 ⟨i.A⟩else if i.Op=8 then .a2 ⟨2⟩else if i.Op=34 then .a2 ⟨1⟩else .a1 ⟨(cA c i:Int)⟩
def afT(io:PL c i)(f:i.Op=18->0<=i.A/\i.A<c.Cons.length/\0<=(c.Cons.getD i.A.toNat bg).lu):F149 n (c,i,())=Z ((s8 c i,()),()):=by
 have h1:=io.lo;have h2:=io.hi;by_cases a:i.Op=18;obtain⟨g,j,l⟩:=f a;unfold F149 z7 xu s8 cA kY;rw[bQ (by omega),bQ (by omega),bQ (by omega),bQ (by omega),bD a];simp(disch:=omega)only[aU,a,aS];rw[show(((c.Cons.getD i.A.toNat bg).lu.toNat:Nat):Int)=(c.Cons.getD i.A.toNat bg).lu by omega];by_cases h4:i.Op=4;have:=io.place h4;unfold F149 s8;rw[bD h4];simp(disch:=omega)only[aU,h4,bZ];obtain⟨k,b⟩:∃k:Nat,i.Op=k:=⟨_,(Ay (by omega)).symm⟩;have d:1<=k:=by omega
 have e:k<=34:=by omega
 unfold s8 cA;rw[bQ h4,bQ a,show i.Op.toNat=k by omega];unfold F149;simp only[b]
 match k,d,e,b with
 |18,_,_,b=>omega|4,_,_,b=>omega
 |1,_,_,_|2,_,_,_|3,_,_,_|5,_,_,_|6,_,_,_|7,_,_,_|8,_,_,_|9,_,_,_|10,_,_,_|11,_,_,_|12,_,_,_|13,_,_,_|14,_,_,_|15,_,_,_|16,_,_,_|17,_,_,_
 |19,_,_,_|20,_,_,_|21,_,_,_|22,_,_,_|23,_,_,_|24,_,_,_|25,_,_,_|26,_,_,_|27,_,_,_|28,_,_,_|29,_,_,_|30,_,_,_|31,_,_,_|32,_,_,_|33,_,_,_|34,_,_,_=>rfl|k+35,_,h,_=>omega
def VB(c:aA)(i:bR)(d:au):Bool:=match s8 c i with
 |.a0 x=>br x.env d.Env|.a1 x=>br x.stack d.Stack|.a2 x=>aa d.Stack x.stack|.none=>J
def Lr(g:Lo d):VB c i d=W↔yM c i d:=by
 have m:=g.s;have a:∀k:Nat,i.Op=k->k≠18->cA c i=nH.getD k 0:=λk h j=>by unfold cA;rw[bQ (by omega),show i.Op.toNat=k by omega]
 unfold VB s8 yM;by_cases h4:i.Op=4;have b:cA c i=0:=a 4 h4 (by decide);rw[bD h4];simp only[br,qM];omega;by_cases e:i.Op=10;have b:cA c i=0:=a 10 e (by decide)
 simp_all[bQ,bD,br,qM]
 by_cases l:i.Op=8;have b:cA c i=2:=a 8 l (by decide)
 simp_all[bQ,bD,aa,xT]
 by_cases f:i.Op=34;have b:cA c i=1:=a 34 f (by decide)
 simp_all[bQ,bD,aa,xT]
 simp_all[bQ,br,qM]
abbrev CB:=(L bR)×(L aB)×(L Int)×Int×(L cz)×U
def cb(c:aA):CB:=(c.1,c.2,c.3,c.4,c.5,())
def Sc(f:Ac c)(b:0<=m)(h1:m<c.dF.length):yf n (m,d,(out,()),cb c,(todo,()),())=qB (m,d,(out,()),cb c,(todo,()),()) ((VB c (aW c m) d,()),()):=by have a:=afT (n:=n) (f.io b h1) (f.cn b h1);have g:aF m c.dF=W:=ie.2 ⟨b,h1⟩;unfold yf;show TL.aO (aF m c.dF) (ah (F149 n (c,aW c m,())) _)=_;rw[g,a];unfold VB;cases e:s8 c (aW c m)with|a0 x=>rfl|a1 x=>rfl|a2 x=>rfl|none=>unfold s8 at e;(repeat' (split at e))<;>cases e
abbrev RX:=Int×au×((L au)×U)×CB×((L Int)×U)×U
def rx(c:aA)(m:Int)(d:au)(out:L au)(todo:L Int):RX:=(m,d,(out,()),cb c,(todo,()),())
theorem Nw(l:Ac c)(hl:out.length=c.dF.length)(i:0<=m)(j:Lo d)(q:¬Good c m d\/((dW out m).Reached=W/\dW out m≠d)){dp:Nat} :
  ei n (dp+1) (rx c m d out todo)=Z ((J,()),(out,()),cb c,(todo,()),()):=by
 rw[zT];unfold yg rx;have f:out.getD m.toNat aT=dW out m:=rfl;by_cases o:(out.length:Int)<=m;unfold lq;simp only[aU,o]<;>rfl;by_cases r:60<d.Stack;unfold lq;simp(disch:=omega)only[aU]<;>rfl;by_cases s:30<d.Env;unfold lq;simp(disch:=omega)only[aU]<;>rfl;have fail:(dW out m).Reached=W->dW out m≠d->yg n dp (m,d,(out,()),cb c,(todo,()),())=Z ((J,()),(out,()),cb c,(todo,()),()):=λh1 h2=>by have a:=aeV h2;rw[h1]at a;unfold yg lq jo;simp(disch:=omega)only[aU,f,h1,a]<;>rfl
 have h5:=Sc (n:=n) (d:=d) (out:=out) (todo:=todo) l i (by omega);have b:¬Good c m d->VB c (aW c m) d=J:=λh=>by cases p:VB c (aW c m) d with|false=>rfl|true=>exact absurd ⟨i,by omega,by omega,by omega,(Lr j).1 p,j.re⟩ h
 cases e:(dW out m).Reached with
 |true=>
  by_cases k:dW out m=d;have g:¬Good c m d:=by
   simp_all
  have a:=ZM k;rw[e]at a;rw[b g]at h5;unfold jo;simp(disch:=omega)only[aU,f,e,a,h5]<;>rfl;exact fail e k
 |false=>
  have g:¬Good c m d:=by
   simp_all
  rw[b g]at h5;unfold jo;simp(disch:=omega)only[aU,f,e,h5]<;>rfl
variable {dp:Nat}
def U9(g:Ac c)(hl:out.length=c.dF.length)(h:Lo d)(a:Good c m d)(b:dW out m=d) :
  ei n (dp+1) (rx c m d out todo)=Z ((W,()),(out,()),cb c,(todo,()),()):=by
 have i:=a.lo;have h1:=a.hi;have h2:=a.st;have h3:=a.en;rw[zT];unfold yg rx;have f:out.getD m.toNat aT=dW out m:=rfl;have h5:=Sc (n:=n) (d:=d) (out:=out) (todo:=todo) g i h1;rw[(Lr h).2 a.ne]at h5;have e:(dW out m).Reached=W:=by rw[b];exact a.re
 have b:=ZM b;rw[e]at b;unfold jo;simp(disch:=omega)only[aU,f,e,b,h5];unfold qB jo;simp(disch:=omega)only[aU,f,e]<;>rfl
def Va(f:Ac c)(hl:out.length=c.dF.length)(g:Lo d)(a:Good c m d)(b:(dW out m).Reached=J)(i:todo.length<=100000) :
  ei n (dp+1) (rx c m d out todo)=Z ((W,()),(out.set m.toNat d,()),cb c,(todo++[m],()),()):=by
 have h:=a.lo;have h1:=a.hi;have h2:=a.st;have h3:=a.en;rw[zT];unfold yg rx;have e:out.getD m.toNat aT=dW out m:=rfl;have h5:=Sc (n:=n) (d:=d) (out:=out) (todo:=todo) f h h1;rw[(Lr g).2 a.ne]at h5;unfold jo;simp(disch:=omega)only[aU,e,b,h5];unfold qB jo;simp(disch:=first|omega|simp only[g7];omega)only[aU,e,b]<;>rfl
end
end
section
section
variable {n:Nat}{c:aA}{i:bR}{d:au}{m:Int}{op s e:Int}{out:List au}{todo:List Int}
theorem WG(n k:Nat):R290 n (k+1)=B290 n (R290 n k):=rfl
def alI:∀q:aB,aB.mk q.Form q.N q.Text q.Bw=q
 |⟨_,_,_,_⟩=>rfl
def Sv(q:aB):Prop:=v7 R290 (q,()) ((fW q,()),())
theorem Ga{R B P:Type}(d:Nat):∀(qs pre:L aB)(k:Int),0<=k->k+(oR qs:Int)<=100000->pre.length+qs.length<=100000->(∀q∈qs,Sv q)->
  ∀F:Nat->Int×Int×U->O (LO (Int×Int×U) R B P),
  (∀n g,F n g=ai (aD g.2.1 (ak (pre++qs))) (aO (aF g.2.1 (pre++qs)) (ah (R290 n (n-d) (@bh aB (pre++qs) (ax g.2.1) aK,())) λh=>Z (N (aG .i64 g.1 h.1.1,aG .i64 g.2.1 1,())))) (Z (H 0 g)))->
  gV F (k,(pre.length:Int),()) (.out 0 (k+jY qs,((pre++qs).length:Int),()))
 |[],pre,k,_,_,_,_,F,b=>by unfold jY;refine .out (bF λn=>?_);rw[b];simp(disch:=omega)only[aU,jQ,FT]<;>rfl
 |q::qs,pre,k,l,h1,e,c,F,b=>by
  unfold oR at h1;simp only[lR]at e;have m:=tL q;have f:(pre++q::qs).getD pre.length aK=q:=rm ..;have h2:=Ga (R:=R) (B:=B) (P:=P) d qs (pre++[q]) (k+fW q) (by omega) (by omega) (by simp;omega) (λi h=>c i (hJ _ h)) F (λn g=>by rw[b];simp only[wj,Lf]<;>rfl);have h3:=c q eI d;simp only[wj,Lf]at h2;unfold jY;rw[<-Int.add_assoc];refine .next (y:=(k+fW q,((pre++[q]).length:Int),())) ?_ h2
  obtain⟨a,h3⟩:=h3;refine⟨a,λn j=>?_⟩;have:=h3 n j;show F n _=_;rw[b];simp(disch:=first|omega|simp only[g7];omega)only[aU,f,j9,nK,gG,gM];refine(eu (λx=>ah x _) this).trans ?_;show Z (N (aG .i64 k (fW q),aG .i64 (pre.length:Int) 1,()))=_
  grind[bZ]
theorem X6{cons:L cz}:∀q:aB,pw q<=1000->tH cons q->Sv q
 |⟨a,n0,text,parts⟩,o,b=>by
  have j:a=2->parts=[]:=by
   grind[tH]
  have l:nM cons parts:=by
   unfold tH at b;obtain c|c|c|c:=b
   rw[c.2.2.2];trivial;rw[c.2.2.2];trivial;rw[c.2.2.2];trivial
   simp_all
  unfold pw at o;have v:=AJ parts;refine v7.step WG λd=>?_;have m:=λ(k:Int)(p:0<=k)(h1:k<=1)=>Ga (R:=Int×U) (B:=U) (P:=Any) d parts [] k p (by omega) (by grind) (λq r=>names' parts (by omega) l q r) _ (λn g=>rfl);have s:∀n,B290 n (R290 n (n-d)) (⟨a,n0,text,parts⟩,())=ah (@iter (Int×Int×U) (Int×U) U Any (λg=>ai (aD g.2.1 (ak parts)) (aO (aF g.2.1 parts) (ah (R290 n (n-d) (@bh aB parts (ax g.2.1) aK,())) λh=>Z (N (aG .i64 g.1 h.1.1,aG .i64 g.2.1 1,())))) (Z (H 0 g))) n ((if a=2 then 1 else 0),0,())) λg=>bK g (λ_ i=>Z ((i.1,()),())) (λ_ i=>Z (i,())) λ_(_:Any)=>Y:=by intro n;unfold B290 Io;by_cases h:a=2;simp only[aU,h,ki,aS,alI]<;>rfl;simp(disch:=omega)only[aU,h,jP,aS,alI]<;>rfl
  refine Ev.v5 s ?_;by_cases h:a=2;rw[bD h];refine Ev.bz (m 1 (by omega) (by omega)) (λn e=>_) _ ?_;exact bF λn=>by unfold fW;rw[bD h,j h];rfl
  rw[bQ h];refine Ev.bz (m 0 (by omega) (by omega)) (λn e=>_) _ ?_;exact bF λn=>by unfold fW;rw[bQ h,Int.zero_add];rfl
where
 names':∀(f:L aB),oR f<=1000->nM cons f->∀q∈f,Sv q
 |[],_,_,_,h=>by cases h
 |q::f,t,b,u,h=>by
  unfold oR at t;unfold nM at b;obtain h|h:=fV.1 h
  rw[h];exact X6 q (by omega) b.1;exact names' f (by omega) b.2 u h
def pH(c:aA)(i:bR):Int:=if i.Op=8\/i.Op=20\/i.Op=34 then 0 else(if i.Op=9\/i.Op=10\/i.Op=11\/i.Op=12\/i.Op=19 then 0 else 1)-(cA c i:Int)
def lB(c:aA)(i:bR):Int:=if i.Op=9 then 1 else if i.Op=10 then -i.A else if i.Op=19 then fW (iZ c i.A)else 0
theorem aoh(o:Ac c)(p:0<=m)(h1:m<c.dF.length)(hi:aW c m=i):Ev (λn=>F235 n (c,i,())) ((pH c i,lB c i,()),()):=by
 have io:=o.io p h1;have cn:=o.cn p h1;have tl:=Fj o p h1;rw[hi]at io cn tl;have w:=io.lo;have y:=io.hi;by_cases b:i.Op=18;obtain⟨z,A,B⟩:=cn b;refine bF λn=>?_;have g:(cA c i:Int)=(c.Cons.getD i.A.toNat bg).lu:=by unfold cA kY;grind
 have u:pH c i=1-(c.Cons.getD i.A.toNat bg).lu:=by unfold pH;rw[bQ (by omega),bQ (by omega),g]
 have ge:lB c i=0:=by unfold lB;rw[bQ (by omega),bQ (by omega),bQ (by omega)]
 unfold F235 o3 sW;simp(disch:=omega)only[aU,b,aS,cW,u,ge]<;>rfl;by_cases d:i.Op=10;have C:=io.drop d;have q:Qi .i64 i.A=-i.A:=by show IntKind.wrap .i64 (-i.A)=_;exact EF (by omega) (by omega)
 refine bF λn=>?_;have g:cA c i=0:=by unfold cA;rw[bQ b,show i.Op.toNat=10 by omega];rfl
 unfold F235 o3 sW pH lB;rw[bQ (by omega),bD (by omega),g,bQ (by omega),bD d];simp(disch:=omega)only[aU,d,aS,q]<;>rfl;by_cases e:i.Op=19;have E:=io.Be e;have r:=o.pats _ (bW aK (show i.A.toNat<c.eA.length by omega));obtain⟨a,f⟩:=X6 _ (by omega) r.1 0;have j:∀n,a<=n->F290 n (c.eA.getD i.A.toNat aK,())=Z ((fW (c.eA.getD i.A.toNat aK),()),()):=f;have g:cA c i=1:=by unfold cA;rw[bQ b,show i.Op.toNat=19 by omega];rfl
 refine⟨a,λn v=>?_⟩;have f:=j n v;show F235 n _=_;unfold F235 o3 sW pH lB;rw[bQ (by omega),bD (by omega),g,bQ (by omega),bQ d,bD e];simp(disch:=omega)only[aU,e,aS];exact(eu (λx=>ah x _) f).trans rfl;obtain⟨k,l⟩:∃k:Nat,i.Op=k:=⟨_,(Ay (by omega)).symm⟩;have s:1<=k:=by omega
 have t:k<=34:=by omega
 refine bF λn=>?_;unfold pH lB cA;rw[bQ b,show i.Op.toNat=k by omega];unfold F235;simp only[l]
 match k,s,t,l with
 |18,_,_,l=>omega|10,_,_,l=>omega|19,_,_,l=>omega
 |1,_,_,_|2,_,_,_|3,_,_,_|4,_,_,_|5,_,_,_|6,_,_,_|7,_,_,_|8,_,_,_|9,_,_,_|11,_,_,_|12,_,_,_|13,_,_,_|14,_,_,_|15,_,_,_|16,_,_,_|17,_,_,_
 |20,_,_,_|21,_,_,_|22,_,_,_|23,_,_,_|24,_,_,_|25,_,_,_|26,_,_,_|27,_,_,_|28,_,_,_|29,_,_,_|30,_,_,_|31,_,_,_|32,_,_,_|33,_,_,_|34,_,_,_=>rfl|k+35,_,h,_=>omega
theorem aja(io:PL c i):F236 n (i,s8 c i,())=Z ((decide (i.Op=8\/i.Op=20\/i.Op=34),()),()):=by
 unfold F236 s8;have y:∀x,kB [(315,Ty.st 31),(317,Ty.st 32),(318,Ty.st 33)] 2 (gW 34 (eB.a0 x))=J:=λ_=>rfl;have z:∀x,kB [(315,Ty.st 31),(317,Ty.st 32),(318,Ty.st 33)] 2 (gW 34 (eB.a1 x))=J:=λ_=>rfl;have u:∀x,kB [(315,Ty.st 31),(317,Ty.st 32),(318,Ty.st 33)] 2 (gW 34 (eB.a2 x))=W:=λ_=>rfl;by_cases h4:i.Op=4;rw[bD h4,y,jq (by omega)];simp(disch:=omega)only[aU,h4]<;>rfl;by_cases a:i.Op=10;rw[bQ h4,bD a,y,jq (by omega)];simp(disch:=omega)only[aU,a]<;>rfl;by_cases d:i.Op=8;rw[bQ h4,bQ a,bD d,u,kO (.inl d)];rfl;by_cases b:i.Op=34;rw[bQ h4,bQ a,bQ d,bD b,u,kO (.inr (.inr b))];rfl;rw[bQ h4,bQ a,bQ d,bQ b,z];show Z ((aa i.Op 20,()),())=_
 grind[decide_eq_true,xT,decide_eq_false,aa]
end
end
section
section
variable {n:Nat}{c:aA}{i:bR}{d e:au}{m x:Int}{out:List au}{todo:List Int}{mm:Int->Prop}
abbrev PX:=((L au)×U)×CB×((L Int)×U)×(Bool×U)×U
abbrev PO:=LO PX (L au×Int×U) PX Any
def px(c:aA)(out:L au)(todo:L Int)(b:Bool):PX:=((out,()),cb c,(todo,()),(b,()),())
structure PJ(c:aA)(mm:Int->Prop)(out:List au)(todo:List Int):Prop where
 pi:PI c (λn=>n∈todo\/mm n) out
 td:∀n∈todo,0<=n/\n<c.dF.length/\(dW out n).Reached=W
 sz:todo.length+qZ out<=c.dF.length
 lo:∀n:Int,0<=n->n<c.dF.length->(dW out n).Reached=W->Lo (dW out n)
structure Got(c:aA)(mm:Int->Prop)(l:List (Int×au))(out:List au)(todo:List Int)(out':List au)(todo':List Int):Prop where
 pj:PJ c mm out' todo'
 keep:j4 out out'
 all:∀y∈l,0<=y.1/\y.1<c.dF.length/\dW out' y.1=y.2/\y.2.Reached=W
 le:2*qZ out'+todo'.length<=2*qZ out+todo.length
theorem zh(o:Ac c)(h:PJ c mm out todo)(f:KG c x d)(hlo:Lo d)(g:0<=x) :
  (∃i b,(∀n l,ei n (l+1) (rx c x d out todo)=Z ((W,()),(i,()),cb c,(b,()),()))/\Got c mm [(x,d)] out todo i b)\/
  (NoD c/\∀n l,ei n (l+1) (rx c x d out todo)=Z ((J,()),(out,()),cb c,(todo,()),())):=by
 have p:=h.pi.len;have A:=h.sz;have v:=o.len;by_cases a:Good c x d
 .cases m:(dW out x).Reached with
  |true=>by_cases r:dW out x=d;refine .inl ⟨out,todo,λn l=>U9 o p hlo a r,h,j4.refl,λy s=>?_,eO _⟩;rw[tC.1 s];exact⟨g,a.hi,r,a.re⟩;exact .inr ⟨Ym o (h.pi.re x g a.hi m).1 f r,λn l=>Nw o p g hlo (.inr ⟨m,r⟩)⟩|false=>
   have w:=JP (out:=out) (k:=x.toNat) (d:=d) (by have:=a.hi;omega) m a.re;have j:=λ(q:Int)(e:0<=q)=>E3 (d:=d) (out:=out) g (by have:=a.hi;omega) e;refine .inl ⟨out.set x.toNat d,todo++[x],λn l=>Va o p hlo a m (by omega),⟨(h.pi.set f a m).mono λq e=>?_,λq e=>?_,by grind,λq u z t=>?_⟩,VM p a m,λy s=>?_,by grind⟩
   grind
   obtain e|e:=eX.1 e
   have:=h.td q e
   grind
   rw[tC.1 e];exact⟨g,a.hi,by rw[j x g,bD rfl];exact a.re⟩;rw[j q u]at t ⊢;by_cases e:q=x
   simp_all
   rw[bQ e]at t ⊢;exact h.lo q u z t;rw[tC.1 s];exact⟨g,a.hi,by rw[j x g,bD rfl],a.re⟩
 grind[AF,Nw]
noncomputable def Vx(n a:Nat)(x:RX):O PO:=ah (ei n (a+8) x) (oY n)
noncomputable def M5(n a:Nat)(i:PX)(x:RX)(k:(au×U)×U):O PO:=
 ah (ei n (a+8) x) λl=>ai (aq l.1.1) (Eb n l) (ah (F149 n (nD i)) λm=>ah (nq n i m) λo=>ai (aq o.1.1) (ah (ei n (a+8) (sU i k l)) (oY n)) (Ea n l))
def RQ(c:aA)(mm:Int->Prop)(l:L (Int×au))(out:L au)(todo:L Int)(o:PO):Prop:=
 (∃b a,o=.next (px c b a W)/\Got c mm l out todo b a)\/(∃b a,o=.out 0 (px c b a J)/\NoD c)
def Yi(g:Ac c)(h:PJ c mm out todo)(e:KG c x d)(hlo:Lo d)(i:0<=x):∃o,(∀n f,Vx n f (rx c x d out todo)=Z o)/\RQ c mm [(x,d)] out todo o:=by
 obtain⟨b,a,h1,h2⟩|⟨h1,h2⟩:=zh g h e hlo i
 .refine ⟨.next (px c b a W),λn f=>?_,.inl ⟨b,a,rfl,h2⟩⟩;unfold Vx;rw[h1 n (f+7)];rfl
 refine⟨.out 0 (px c out todo J),λn f=>?_,.inr ⟨out,todo,rfl,h1⟩⟩;unfold Vx;rw[h2 n (f+7)];rfl
theorem aiV(l:Ac c)(h:PJ c mm out todo)(p:KG c x d)(hlo:Lo d)(z:0<=x){i:PX}{k:(au×U)×U}(hi:jk i=aW c m)(h4:nD i=(c,aW c m,()))(t:0<=m)(u:m<c.dF.length)
  (A:¬((aW c m).Op=8\/(aW c m).Op=20\/(aW c m).Op=34)) (h2:ij i=m) (B:k.1.1=e) (f:KG c (m+1) e) (q:Lo e) :
  ∃o,(∀n j,M5 n j i (rx c x d out todo) k=Z o)/\RQ c mm [(m+1,e),(x,d)] out todo o:=by
 have C:=l.len;obtain⟨b,a,h1,g⟩|⟨h1,g⟩:=zh l h p hlo z
 have E:=λn=>afT (n:=n) (l.io t u) (l.cn t u);have w:=λn=>aja (n:=n) (l.io t u);rw[jq A]at w;obtain⟨o,F,v⟩:=Yi l g.pj f q (show 0<=m+1 by omega);have I:sU i k ((W,()),(b,()),cb c,(a,()),())=rx c (m+1) e b a:=by unfold sU;rw[h2,B,bZ (by omega) (by omega)];rfl
 refine⟨o,λn j=>?_,?_⟩;have:=F n j;unfold Vx at this;unfold M5;rw[h1 n (j+7),h4];show ah (F149 n (c,aW c m,())) _=_;rw[E];show ah (nq n i _) _=_;unfold nq;rw[hi];show ah (F236 n (aW c m,s8 c (aW c m),())) _=_;rw[w];show ah (ei n (j+8) (sU i k ((W,()),(b,()),cb c,(a,()),()))) _=_
 simp_all
 obtain⟨K,t2,P,r⟩|v:=v
 refine .inl ⟨K,t2,P,r.pj,g.keep.trans r.keep,λy s=>?_,gk r.le g.le⟩;obtain s|s:=fV.1 s
 exact r.all y (by simp_all);have:=g.all y s;exact⟨this.1,this.2.1,by rw[r.keep y.1 this.1 (by simp_all)];grind,this.2.2.2⟩;exact .inr v;refine⟨.out 0 (px c out todo J),λn j=>?_,.inr ⟨out,todo,rfl,h1⟩⟩;unfold M5;rw[g n (j+7)];rfl
theorem PJ.pop{rest:L Int}(h:PJ c (λ_=>False) out (rest++[m])):PJ c (λq=>q=m) out rest:=
 ⟨h.pi.mono λq a=>by
  simp_all,λq a=>h.td q (fS _ a),by have:=h.sz;grind,h.lo⟩
theorem PJ.aiU(h:PJ c (λq=>q=m) out todo)(hn:∀y∈dO c m (dW out m),0<=y.1/\y.1<c.dF.length/\dW out y.1=y.2):PJ c (λ_=>False) out todo:=
 ⟨⟨h.pi.len,h.pi.re,λq a b d f y e=>by
  by_cases g:q=m
  grind
  exact h.pi.fo q a b d (λi=>by
   simp_all) y e,h.pi.zero⟩,h.td,h.sz,h.lo⟩
end
end
section
section
variable {n:Nat}{c:aA}{i:bR}{d e:au}{m x:Int}{out:List au}{todo rest:List Int}{mm:Int->Prop}
noncomputable def IV(n a:Nat)(i:PX)(k:(au×U)×U):O PO:=
 ai (aa (jk i).1 11) (Vx n a (uh i k)) (ai (aa (jk i).1 12) (M5 n a i (uh i k) k) (ai (aa (jk i).1 19) (M5 n a i (H6 i) k)
 (ai (aa (jk i).1 6) (ah (F152 n (0,aG .i64 (bh i.1.1 (ax (ij i)) aT).3 1,())) λl=>M5 n a i (uh i l) k) (ai (aa (jk i).1 32) (ah (F152 n (0,aG .i64 (bh i.1.1 (ax (ij i)) aT).3 1,())) λl=>M5 n a i (uh i l) k)
 (ai (aa (jk i).1 31) (ah (F152 n (0,(bh i.1.1 (ax (ij i)) aT).3,())) λl=>M5 n a i (uh i l) k)
 (ah (F149 n (nD i)) λl=>ah (nq n i l) λm=>ai (aq m.1.1) (Vx n a (aG .i64 (ij i) 1,k.1.1,HY i)) (HZ n i)))))))
noncomputable def U7(n a:Nat)(i:PX):O PO:=
 ai (aD 0 (ak i.2.2.1.1)) (aO (aF (sq i) i.2.2.1.1) (aO (dX (ax (sq i)) i.2.2.1.1) (aO (ez 0 (sq i) (ak i.2.2.1.1)) (aO (aF (ij i) i.1.1) (aO (dX (ax (ij i)) i.1.1) (aO (aF (ij i) i.2.1.1) (ah (F235 n (nD i)) λj=>ah (Kv n i j) λk=>IV n a i k))))))) (Z (H 0 i))
theorem alF(z:Ac c)(h:PJ c (λ_=>False) out (rest++[m])){k:(au×U)×U}(v:k.1.1=bY ((dW out m).Stack+pH c (aW c m)) ((dW out m).Env+lB c (aW c m))) :
  ∃o,(∀n f,IV n f (px c out (rest++[m]) W) k=Z o)/\RQ c (λq=>q=m) (dO c m (dW out m)) out rest o:=by
 obtain⟨A,B,mr⟩:=h.td m (by simp);obtain⟨C,Q⟩:=h.pi.re m A B mr;have io:=z.io A B;have hcl:=z.len;have K:=h.pop;have R:=h.sz;rw[j9,nK]at R;have S:sq (px c out (rest++[m]) W)=(rest.length:Int):=by show aZ .i64 (((rest++[m]).length:Nat):Int) 1=_;rw[j9,nK,cW]<;>omega
 have E:ij (px c out (rest++[m]) W)=m:=by unfold ij;rw[S];exact hY rest m 0 [] rfl
 have p:jk (px c out (rest++[m]) W)=aW c m:=by unfold jk;rw[E];rfl
 have b4:nD (px c out (rest++[m]) W)=(c,aW c m,()):=by unfold nD;rw[p];rfl
 have b6:HY (px c out (rest++[m]) W)=((out,()),cb c,(rest,()),()):=by unfold HY;rw[S];show((out,()),cb c,(cL (rest++[m]) 0 (rest.length:Int),()),())=_;rw[kf _ _ rfl]
 have F:∀l:(au×U)×U,uh (px c out (rest++[m]) W) l=rx c (aW c m).A l.1.1 out rest:=λl=>by unfold uh;rw[p,b6];rfl
 have b13:H6 (px c out (rest++[m]) W)=rx c (aW c m).B (dW out m) out rest:=by unfold H6;rw[p,b6,E];rfl
 have be:(bh (px c out (rest++[m]) W).1.1 (ax (ij (px c out (rest++[m]) W))) aT).3=(dW out m).Env:=by rw[E];rfl
 have b16:∀n,HZ n (px c out (rest++[m]) W)=Z (.next (px c out rest W)):=by intro n;unfold HZ;rw[S];show Z (N ((out,()),cb c,(cL (rest++[m]) 0 (rest.length:Int),()),((W,()),())))=_;rw[kf _ _ rfl];rfl
 have I:∀n,F149 n (c,aW c m,())=Z ((s8 c (aW c m),()),()):=λn=>afT io (z.cn A B);have u:∀n,nq n (px c out (rest++[m]) W) ((s8 c (aW c m),()),())=Z ((decide ((aW c m).Op=8\/(aW c m).Op=20\/(aW c m).Op=34),()),()):=λn=>by
  grind[nq,aja]
 have lo:=h.lo m A B mr;have nl:=λy P=>Gk z A B Q.ne lo (x:=y) P;have nd:=λ(y:Int×au)P=>KG.next C (x:=y) P
 generalize hG:dW out m=a at *
 have hGe:a=bY a.Stack a.Env:=LV Q.re;by_cases g:(aW c m).Op=8\/(aW c m).Op=20\/(aW c m).Op=34
 .have i:dO c m a=[]:=by unfold dO;obtain h|h|h:=g<;>simp only[show ∀k:Nat,(aW c m).Op=k->(aW c m).Op.toNat=k from λk h=>by omega,h]<;>rfl
  refine⟨.next (px c out rest W),λn f=>?_,.inl ⟨out,rest,rfl,K,j4.refl,λy P=>?_,eO _⟩⟩;unfold IV;rw[p,b4];rw[kO g]at u;have n1:(aW c m).Op≠11:=by omega
  have n2:(aW c m).Op≠12:=by omega
  have n3:(aW c m).Op≠19:=by omega
  have n4:(aW c m).Op≠6:=by omega
  have n5:(aW c m).Op≠32:=by omega
  have n6:(aW c m).Op≠31:=by omega
  simp(disch:=omega)only[aU,n1,n2,n3,n4,n5,n6,I,u];exact b16 n
  grind
 rw[jq g]at u;have gl:a.Stack+pH c (aW c m)=fU c (aW c m) a:=by unfold pH fU;omega
 rw[gl]at v;have two:=λ{x:Int}{d e:au}(hd:KG c x d)(hl:Lo d)(hx:0<=x)(k:(au×U)×U)(v:k.1.1=e)(hd':KG c (m+1) e)(hl':Lo e)=>aiV (k:=k) z K hd hl hx p b4 A B g E v hd' hl';by_cases k11:(aW c m).Op=11;have i:dO c m a=[((aW c m).A,a)]:=by
  grind[dO,aW]
 have b:k.1.1=a:=by
  have tk:cA c (aW c m)=0:=by unfold cA;rw[bQ (by omega),show(aW c m).Op.toNat=11 by omega];rfl
  have l1:fU c (aW c m) a=a.Stack:=by unfold fU;omega
  have g1:lB c (aW c m)=0:=by unfold lB;rw[bQ (by omega),bQ (by omega),bQ (by omega)]
  grind
 rw[i]at nl nd ⊢;obtain⟨o,j,r⟩:=Yi z K (nd _ (uA _)) (nl _ (uA _)).2 (nl _ (uA _)).1;refine⟨o,λn f=>?_,r⟩;unfold IV;rw[p];simp only[aU,k11,F,b];exact j n f;by_cases k12:(aW c m).Op=12;have i:dO c m a=[(m+1,bY (fU c (aW c m) a) a.Env),((aW c m).A,bY (fU c (aW c m) a) a.Env)]:=by
  grind[dO,aW]
 have b:k.1.1=bY (fU c (aW c m) a) a.Env:=by rw[v];unfold lB;rw[bQ (by omega),bQ (by omega),bQ (by omega),FT]
 rw[i]at nl nd ⊢;obtain⟨o,j,r⟩:=two (nd _ (hJ _ (uA _))) (nl _ (hJ _ (uA _))).2 (nl _ (hJ _ (uA _))).1 k b (nd _ eI) (nl _ eI).2;refine⟨o,λn f=>?_,r⟩;unfold IV;rw[p];simp(disch:=omega)only[aU,k11,k12,F,b];exact j n f;by_cases Ix:(aW c m).Op=19;have i:dO c m a=[(m+1,bY (fU c (aW c m) a) (a.Env+fW (iZ c (aW c m).A))),((aW c m).B,a)]:=by
  grind[dO,aW]
 have b:k.1.1=bY (fU c (aW c m) a) (a.Env+fW (iZ c (aW c m).A)):=by rw[v];unfold lB;rw[bQ (by omega),bQ (by omega),bD Ix]
 rw[i]at nl nd ⊢;obtain⟨o,j,r⟩:=two (nd _ (hJ _ (uA _))) (nl _ (hJ _ (uA _))).2 (nl _ (hJ _ (uA _))).1 k b (nd _ eI) (nl _ eI).2;refine⟨o,λn f=>?_,r⟩;unfold IV;rw[p];simp(disch:=omega)only[aU,Ix,b13];exact j n f;have t:∀n s e,F152 n (s,e,())=Z ((bY s e,()),()):=λ_ _ _=>rfl;have ae:aG .i64 a.Env 1=a.Env+1:=bZ (by have:=lo.e;omega) (by have:=Q.en;omega);by_cases w:(aW c m).Op=6\/(aW c m).Op=32;have i:dO c m a=[(m+1,bY (fU c (aW c m) a) a.Env),((aW c m).A,bY 0 (a.Env+1))]:=by unfold dO;obtain h|h:=w<;>simp only[show ∀k:Nat,(aW c m).Op=k->(aW c m).Op.toNat=k from λk h=>by omega,h]<;>rfl
 have b:k.1.1=bY (fU c (aW c m) a) a.Env:=by rw[v];unfold lB;rw[bQ (by omega),bQ (by omega),bQ (by omega),FT]
 rw[i]at nl nd ⊢;obtain⟨o,j,r⟩:=two (nd _ (hJ _ (uA _))) (nl _ (hJ _ (uA _))).2 (nl _ (hJ _ (uA _))).1 k b (nd _ eI) (nl _ eI).2;refine⟨o,λn f=>?_,r⟩;unfold IV;rw[p,be];obtain h|h:=w
 simp(disch:=omega)only[aU,h,ae,t,F];exact j n f;simp(disch:=omega)only[aU,h,ae,t,F];exact j n f;by_cases k31:(aW c m).Op=31;have i:dO c m a=[(m+1,bY (fU c (aW c m) a) a.Env),((aW c m).A,bY 0 a.Env)]:=by
  grind[dO,aW]
 have b:k.1.1=bY (fU c (aW c m) a) a.Env:=by rw[v];unfold lB;rw[bQ (by omega),bQ (by omega),bQ (by omega),FT]
 rw[i]at nl nd ⊢;obtain⟨o,j,r⟩:=two (nd _ (hJ _ (uA _))) (nl _ (hJ _ (uA _))).2 (nl _ (hJ _ (uA _))).1 k b (nd _ eI) (nl _ eI).2;refine⟨o,λn f=>?_,r⟩;unfold IV;rw[p,be];simp(disch:=omega)only[aU,k31,t,F];exact j n f;have k6:(aW c m).Op≠6:=by omega
 have k32:(aW c m).Op≠32:=by omega
 have i:dO c m a=[(m+1,bY (fU c (aW c m) a) (a.Env+lB c (aW c m)))]:=by
  unfold lB dO;have:=io.lo;dsimp only;by_cases k9:(aW c m).Op=9
  grind
  by_cases k10:(aW c m).Op=10
  grind
  rw[bQ k9,bQ k10,bQ Ix,FT];split<;>first|rfl|(exfalso;omega)
 rw[i]at nl nd ⊢;obtain⟨o,j,r⟩:=Yi z K (nd _ (uA _)) (nl _ (uA _)).2 (nl _ (uA _)).1;refine⟨o,λn f=>?_,r⟩;unfold IV;rw[p,b4];have am:aG .i64 m 1=m+1:=bZ (by omega) (by omega);simp(disch:=omega)only[aU,k11,k12,Ix,k6,k32,k31,I,u,E,am,b6,v];exact j n f
end
end
section
section
variable {n:Nat}{c:aA}{i:bR}{d e:au}{m x:Int}{out:List au}{todo rest:List Int}{mm:Int->Prop}
def ai0(a:Ac c)(h:PJ c (λ_=>False) out (rest++[m])):∃o,Ev (λn=>U7 n n (px c out (rest++[m]) W)) o/\RQ c (λq=>q=m) (dO c m (dW out m)) out rest o:=by
 obtain⟨b,d,i⟩:=h.td m (by simp);obtain⟨l,p⟩:=h.pi.re m b d i;have lo:=h.lo m b d i;have Q:=h.pi.len;have s:=a.len;have e:=h.sz;have t:=Fj a b d;rw[j9,nK]at e;have r:sq (px c out (rest++[m]) W)=(rest.length:Int):=by show aZ .i64 (((rest++[m]).length:Nat):Int) 1=_;rw[j9,nK,cW]<;>omega
 have f:ij (px c out (rest++[m]) W)=m:=by unfold ij;rw[r];exact hY rest m 0 [] rfl
 have u:jk (px c out (rest++[m]) W)=aW c m:=by unfold jk;rw[f];rfl
 have v:nD (px c out (rest++[m]) W)=(c,aW c m,()):=by unfold nD;rw[u];rfl
 have R:-3<=pH c (aW c m)/\pH c (aW c m)<=1:=by unfold pH;split<;>(try split)<;>omega
 have io:=a.io b d;have S:-30<=lB c (aW c m)/\lB c (aW c m)<=12:=by
  unfold lB;split;omega;split;have:=io.drop (by assumption);omega;split;have hp:=io.Be (by assumption);have w:=a.pats _ (bW aK (show(aW c m).A.toNat<c.eA.length by omega));have x:=tL (iZ c (aW c m).A);unfold iZ at *
  omega;omega
 have y:∀n,Kv n (px c out (rest++[m]) W) ((pH c (aW c m),lB c (aW c m),()),())=Z ((bY ((dW out m).Stack+pH c (aW c m)) ((dW out m).Env+lB c (aW c m)),()),()):=by intro n;have:=lo.s;have:=lo.e;have:=p.st;have:=p.en;unfold Kv;rw[f];show Z ((bY (aG .i64 (dW out m).Stack (pH c (aW c m))) (aG .i64 (dW out m).Env (lB c (aW c m))),()),())=_;rw[bZ (by omega) (by omega),bZ (by omega) (by omega)]
 obtain⟨o,z,A⟩:=alF a h (k:=((bY ((dW out m).Stack+pH c (aW c m)) ((dW out m).Env+lB c (aW c m)),()),())) rfl;refine⟨o,?_,A⟩;refine Ev.v5 (g:=λn=>ah (F235 n (c,aW c m,())) λj=>ah (Kv n (px c out (rest++[m]) W) j) λk=>IV n n (px c out (rest++[m]) W) k) (λn=>?_) (Ev.ah (aoh a b d rfl) ?_);unfold U7;rw[r,f,v];have B:aD 0 (ak (px c out (rest++[m]) W).2.2.1.1)=W:=EW.2 (by show(0:Int)<(((rest++[m]).length:Nat):Int);simp<;>omega);have C:aF (rest.length:Int) (px c out (rest++[m]) W).2.2.1.1=W:=ie.2 (by show _/\_<(((rest++[m]).length:Nat):Int);simp<;>omega);have E:dX (ax (rest.length:Int)) (px c out (rest++[m]) W).2.2.1.1=W:=by show decide (rest.length<(rest++[m]).length)=W;simp
 have F:ez 0 (rest.length:Int) (ak (px c out (rest++[m]) W).2.2.1.1)=W:=uY.2 (by show _/\_/\_<=(((rest++[m]).length:Nat):Int);simp<;>omega);have I:aF m (px c out (rest++[m]) W).1.1=W:=ie.2 (by show _/\_<((out.length:Nat):Int);omega);have K:dX (ax m) (px c out (rest++[m]) W).1.1=W:=by show decide (m.toNat<out.length)=W;simp<;>omega
 have P:aF m (px c out (rest++[m]) W).2.1.1=W:=ie.2 (by show _/\_<((c.dF.length:Nat):Int);omega);rw[B,C,E,F,I,K,P];rfl;refine bF λn=>?_;rw[y];exact z n n
structure PK(c:aA)(x:PX):Prop where
 st:∃out todo,x=px c out todo W/\PJ c (λ_=>False) out todo/\∀f∈c.cY,dW out f=bY 0 1
def PQ(c:aA)(o:PO):Prop:=(∃out todo,o=.out 0 (px c out todo W)/\Qj c out)\/(∃out todo,o=.out 0 (px c out todo J)/\NoD c)
theorem ajn(k:Ac c){x':PX}(h:PK c x'):∃o,gV (λn=>U7 n n) x' o/\PQ c o:=by
 refine gV.inv (F:=λn=>U7 n n) (PK c) (λx=>2*qZ x.1.1+x.2.2.1.1.length) (PQ c) (λx t=>?_) x' h;obtain⟨out,todo,rfl,d,e⟩:=t.st;obtain rfl|⟨rest,m,rfl⟩:=Tw todo
 .refine .inr ⟨.out 0 (px c out [] W),(λy h=>by cases h),bF λn=>?_,.inl ⟨out,[],rfl,?_⟩⟩;rfl
  .exact PI.done (d.pi.mono λq l=>by
    simp_all) e
 rw[Tv]at *
 obtain⟨o,p,l⟩:=ai0 k d;obtain⟨b,a,rfl,g⟩|⟨b,a,rfl,i⟩:=l
 have r:=d.td m (by simp);refine .inl ⟨_,p,⟨⟨b,a,rfl,g.pj.aiU λy s=>?_,λf j=>?_⟩⟩,?_⟩;rw[g.keep m r.1 r.2.2]at s;have:=g.all y s
 simp_all
 rw[g.keep f (k.oV f j).1 (by rw[e f j];rfl)];exact e f j;have:=g.le;show 2*qZ b+a.length<2*qZ out+(rest++[m]).length
 grind
 exact .inr ⟨_,(λy h=>by cases h),p,.inr ⟨b,a,rfl,i⟩⟩
abbrev QX:=Int×((L au)×U)×CB×((L Int)×U)×U
abbrev QS:=((L au)×U)×CB×((L Int)×U)×U
noncomputable def Nu(c:aA)(n a:Nat)(e:QX):O (LO QX (Int×U) QS Any):=
 ai (aD e.1 (ak c.3)) (aO (aF e.1 c.3) (ah (F152 n (0,1,())) λg=>ah (ei n (a+5) (bh c.3 (ax e.1) 0,g.1.1,e.2)) λh=>ai (aq h.1.1) (Z (X h.2 (e.1,()))) (Z (N (aG .i64 e.1 1,h.2))))) (Z (H 0 e))
structure QK(c:aA)(x:QX):Prop where
 st:∃(k:Nat)(out:List au)(todo:List Int),x=((k:Int),(out,()),cb c,(todo,()),())/\k<=c.cY.length/\PJ c (λ_=>False) out todo/\∀j:Nat,j<k->dW out (c.cY.getD j 0)=bY 0 1
def QQ(c:aA)(o:LO QX (Int×U) QS Any):Prop:=
 (∃(k:Int)(out:L au)(todo:L Int),o=.out 0 (k,(out,()),cb c,(todo,()),())/\PJ c (λ_=>False) out todo/\∀f∈c.cY,dW out f=bY 0 1)\/∃(s:QS)(k:Nat),o=.ret s ((k:Int),())/\NoD c
theorem ajo(e:Ac c){x:QX}(h:QK c x):∃o,gV (λn=>Nu c n n) x o/\QQ c o:=by
 refine gV.inv (F:=λn=>Nu c n n) (QK c) (λx=>c.cY.length-x.1.toNat) (QQ c) (λx t=>?_) x h;obtain⟨k,out,todo,rfl,z,r,u⟩:=t.st;have v:=e.fl;by_cases i:k=c.cY.length;subst i;refine .inr ⟨.out 0 ((c.cY.length:Int),(out,()),cb c,(todo,()),()),(λy h=>by cases h),bF λn=>?_,.inl ⟨(c.cY.length:Int),out,todo,rfl,r,λf w=>?_⟩⟩;unfold Nu;simp(disch:=omega)only[aU]<;>rfl;obtain⟨j,l,rfl⟩:=rQ w
 simp_all
 .have m:k<c.cY.length:=by omega
  have s:c.cY.getD k 0∈c.cY:=bW _ m;have b:∀n,Nu c n n ((k:Int),(out,()),cb c,(todo,()),())=ah (ei n (n+5) (rx c (c.cY.getD k 0) (bY 0 1) out todo)) λh=>ai (aq h.1.1) (Z (X h.2 ((k:Int),()))) (Z (N (aG .i64 (k:Int) 1,h.2))):=by intro n;unfold Nu;rw[show aD (k:Int) (ak c.3)=W from EW.2 (by simp only[ak];omega),show aF (k:Int) c.3=W from ie.2 (by omega)];rfl
  obtain⟨d,a,h1,g⟩|⟨h1,g⟩:=zh e r (.root s) ⟨rfl,IK _,show(0:Int)<=1 by decide⟩ (e.oV _ s).1
  have a1:aG .i64 (k:Int) 1=((k+1:Nat):Int):=by grind[bZ]
  refine .inl ⟨(((k+1:Nat):Int),(d,()),cb c,(a,()),()),bF λn=>?_,⟨k+1,d,a,rfl,by omega,g.pj,λj l=>?_⟩,by omega⟩;rw[b,h1 n (n+4),<-a1];rfl;by_cases p:j=k;subst p;exact(g.all _ (uA _)).2.2.1;have q:c.cY.getD j 0∈c.cY:=bW _ (by omega);have:=u j (by omega);rw[g.keep _ (e.oV _ q).1 (by rw[this];rfl)];exact this;refine .inr ⟨.ret ((out,()),cb c,(todo,()),()) ((k:Int),()),(λy h=>by cases h),bF λn=>?_,.inr ⟨_,k,rfl,h1⟩⟩;rw[b,g n (n+4)];rfl
end
end
section
section
variable {n:Nat}{c:aA}{out:List au}{todo:List Int}
theorem PJ.zero:PJ c (λ_=>False) (List.replicate c.dF.length aT) []:=by
 have a:∀q:Int,dW (List.replicate c.dF.length aT) q=aT:=λq=>by unfold dW;rw[zm,List.getElem?_replicate];split<;>rfl
 refine⟨⟨by simp,λq _ _ r=>?_,λq _ _ r=>?_,λq _ _ _=>a q⟩,λq b=>(by cases b),?_,λq _ _ r=>?_⟩;rw[a]at r;cases r;rw[a]at r;cases r
 grind[Of,List.replicate,aT,List.length_replicate,List.length_nil]
 rw[a]at r;cases r
theorem e99(g:Ac c)(a:Ev (λn=>F147 n (c,())) ((0,()),())):(∃D,Qj c D/\Ev (λn=>F99 n (c,())) ((D,0,()),()))\/(NoD c/\Ev (λn=>F99 n (c,())) (([],7,()),())):=by
 have p:=g.len;have h:nW (Q6 (ak c.1)) (fZ (ak c.1) (ak c.1))=W:=by
  have:Q6 (ak c.1)=W:=by
   unfold Q6 ak
   grind
  rw[this];simp[nW,fZ]
 obtain⟨o,i,q⟩:=ajo g (x:=(0,(List.replicate c.dF.length aT,()),cb c,([],()),())) ⟨⟨0,_,[],rfl,FP _,PJ.zero,λj l=>absurd l (Nat.not_lt_zero _)⟩⟩;obtain⟨k,out,todo,rfl,l,r⟩|⟨s,k,rfl,d⟩:=q
 obtain⟨u,f,m⟩:=ajn g (x':=px c out todo W) ⟨⟨out,todo,rfl,l,r⟩⟩;obtain⟨b,e,rfl,t⟩|⟨b,e,rfl,d⟩:=m
 refine .inl ⟨b,t,?_⟩;unfold F99 G99;refine Ev.ah a ?_;show Ev (λn=>TL.aO (nW (Q6 (ak c.1)) (fZ (ak c.1) (ak c.1))) _) _;rw[h];show Ev (λn=>ah _ _) _;refine Ev.bz (F:=λn=>Nu c n n) i _ _ ?_;show Ev (λn=>ah _ _) _;refine Ev.bz (F:=λn=>U7 n n) f _ _ ?_;exact dB;refine .inr ⟨d,?_⟩;unfold F99 G99;refine Ev.ah a ?_;show Ev (λn=>TL.aO (nW (Q6 (ak c.1)) (fZ (ak c.1) (ak c.1))) _) _;rw[h];show Ev (λn=>ah _ _) _;refine Ev.bz (F:=λn=>Nu c n n) i _ _ ?_;show Ev (λn=>ah _ _) _;refine Ev.bz (F:=λn=>U7 n n) f _ _ ?_;exact dB;refine .inr ⟨d,?_⟩;unfold F99 G99;refine Ev.ah a ?_;show Ev (λn=>TL.aO (nW (Q6 (ak c.1)) (fZ (ak c.1) (ak c.1))) _) _;rw[h];show Ev (λn=>ah _ _) _;refine Ev.bz (F:=λn=>Nu c n n) i _ _ ?_;refine bF λn=>?_;rfl
end
end
section
theorem FW:∀q:aB,1<=pw q
 |⟨_,_,_,_⟩=>by unfold pw;omega
theorem EM:∀qs:L aB,qs.length<=oR qs
 |[]=>FP _|q::qs=>by unfold oR;have:=EM qs;grind[FW,List.length_cons]
def fY(left:Int)(k:Nat):Int:=if left<0 then -1 else if(k:Int)<=left then left-k else -1
theorem tN{left:Int}{k:Nat}(h:left<0):fY left k=-1:=bD h
theorem oz{left:Int}{k:Nat}(h:(k:Int)<=left):fY left k=left-k:=by unfold fY;rw[bQ (by omega),bD h]
theorem qY{left:Int}{k:Nat}(h:left<(k:Int)):fY left k=-1:=by
 simp_all[fY,bD,bQ]
theorem Oe{left:Int}{a:Nat}(b:1<=a)(h:0<=left):fY left a<=left-1/\-1<=fY left a:=by
 grind[oz,qY]
theorem xP{left:Int}{a b:Nat}:fY (fY left a) b=fY left (a+b):=by
 grind[oz,qY,tN]
theorem Gx{left:Int}(h:-1<=left):fY left 0=left:=by
 grind[tN,oz]
theorem aaB(n k:Nat):R94 n (k+1)=B94 n (R94 n k):=rfl
def Sp(q:aB):Prop:=∀left:Int,-1<=left->left<=1000->v7 R94 (q,left,()) ((fY left (pw q),()),())
def Fc{P:Type}(d:Nat):∀(qs pre:L aB)(left:Int),-1<=left->(pre.length:Int)+left<=1000->(∀q∈qs,Sp q)->
  ∀F:Nat->Int×Int×U->O (LO (Int×Int×U) (Int×U) U P),
  (∀n b,F n b=ai (aD b.2.1 (ak (pre++qs))) (ai (br 0 b.1) (aO (aF b.2.1 (pre++qs)) (ah (R94 n (n-d) (@bh aB (pre++qs) (ax b.2.1) aK,b.1,())) λe=>Z (N (e.1.1,aG .i64 b.2.1 1,())))) (Z (H 0 b))) (Z (H 0 b)))->
  ∃j,gV F (left,(pre.length:Int),()) (.out 0 (fY left (oR qs),j,()))
 |[],pre,left,h1,h2,f,F,c=>by refine⟨(pre.length:Int),.out (bF λn=>?_)⟩;rw[c];have e:fY left (oR [])=left:=Gx h1;rw[e];simp(disch:=omega)only[aU,jQ]<;>rfl
 |q::qs,pre,left,h1,h2,f,F,c=>by
  by_cases l:left<0;refine⟨(pre.length:Int),.out (bF λn=>?_)⟩;rw[c];have e:fY left (oR (q::qs))=left:=by rw[tN l];omega
  rw[e];simp(disch:=omega)only[aU]<;>rfl
  .have m:(pre++q::qs).getD pre.length aK=q:=rm ..;have o:=FW q;have p:=f q eI left h1 (by omega);have g:=Oe (left:=left) o (by omega);obtain⟨j,k⟩:=Fc d qs (pre++[q]) (fY left (pw q)) g.2 (by simp;omega) (λr h=>f r (hJ _ h)) F (λn e=>by rw[c];simp only[wj,Lf]<;>rfl);have e:fY (fY left (pw q)) (oR qs)=fY left (oR (q::qs)):=xP;rw[e]at k;refine⟨j,.next (y:=((fY left (pw q)),((pre++[q]).length:Int),())) ?_ k⟩;obtain⟨a,s⟩:=p d;refine⟨a,λn i=>?_⟩;show F n _=_;rw[c];simp(disch:=first|omega|simp only[g7];omega)only[aU,m,bZ,gG,gM,yo];exact(eu (λx=>ah x _) (s n i)).trans rfl
theorem Xa:∀q:aB,Sp q
 |⟨a,n0,text,parts⟩=>by
  intro left h1 h2;refine v7.step aaB λd=>?_;by_cases h3:left<1;rw[qY (by grind[FW])];refine bF λn=>?_;unfold B94;simp(disch:=omega)only[aU]<;>rfl
  .obtain ⟨j,f⟩:=Fc (P:=Any) d parts [] (left-1) (by omega) (by simp;omega) (S5 parts) _ (λn e=>rfl);have e:fY (left-1) (oR parts)=fY left (pw ⟨a,n0,text,parts⟩):=by rw[show left-1=fY left 1 from(oz (k:=1) (Int.not_lt.1 h3)).symm,xP];rfl
   rw[<-e];have i:∀n,B94 n (R94 n (n-d)) (⟨a,n0,text,parts⟩,left,())=ah (iter (λb=>ai (aD b.2.1 (ak parts)) (ai (br 0 b.1) (aO (aF b.2.1 parts) (ah (R94 n (n-d) (@bh aB parts (ax b.2.1) aK,b.1,())) λe=>Z (N (e.1.1,aG .i64 b.2.1 1,())))) (Z (H 0 b))) (Z (H 0 b))) n (left-1,0,())) λe=>bK (B:=U) (P:=Any) e (λ_ g=>Z ((g.1,()),())) (λ_ g=>Z (g,())) λ_ _=>Y:=by intro n;unfold B94;simp(disch:=omega)only[aU,cW]<;>rfl
   exact Ev.v5 i (Ev.bz f (λn e=>_) _ dB)
where
 S5:∀c:L aB,∀q∈c,Sp q
 |[],_,h=>by cases h
 |q::c,l,h=>by
  obtain h|h:=fV.1 h
  rw[h];exact Xa q;exact S5 c l h
def e94(q:aB){left:Int}(h1:1<=left)(h2:left<=1000):Ev (λn=>F94 n (q,left,())) ((fY left (pw q),()),()):=by exact Xa q left (by omega) h2 0
mutual
def sp:aB->Bool
 |⟨_,_,text,parts⟩=>sps parts&&decide (text.length<=30)
def sps:L aB->Bool
 |[]=>W|q::a=>sp q&&sps a
end
theorem KM:∀{qs:L aB},sps qs=W↔∀q∈qs,sp q=W
 |[]=>by simp[sps]
 |q::qs=>by simp[sps,KM (qs:=qs)]
theorem aaA(n k:Nat):R95 n (k+1)=B95 n (R95 n k):=rfl
theorem short:∀q:aB,pw q<=1000->v7 R95 (q,()) ((sp q,()),())
 |⟨c,n0,text,parts⟩,k=>by
  unfold pw at k;have u:=EM parts;have l:=Xn parts (by omega);refine v7.step aaA λd=>?_;unfold B95;have m:∀(i:Nat)(y:Int×U),(X () (J,()):LO (Int×U) (Bool×U) U Any)≠.next y:=λ_ _ h=>by cases h
  have step:∀i,i<parts.length->Ev (λn=>ai (aD (i:Int) (ak parts)) (aO (aF (i:Int) parts) (ah (R95 n (n-d) (@bh aB parts (ax (i:Int)) aK,())) λe=>ai (aq e.1.1) (Z (X () (J,()))) (Z (N (aG .i64 (i:Int) 1,()))))) (Z (H 0 ((i:Int),())))) (bif sp (parts.getD i aK)then .next (((i+1:Nat):Int),())else(X () (J,()):LO (Int×U) (Bool×U) U Any)):=by intro i f;obtain⟨b,o⟩:=l _ (bW aK f) d;refine⟨b,λn p=>?_⟩;show TL.ai _ _ _=_;simp(disch:=omega)only[aU,bZ,gG,gM,yo];refine(eu (λx=>ah x _) (o n p)).trans ?_;cases v:sp (parts.getD i aK)<;>rfl
  rcases nP (F:=λn g=>ai (aD g.1 (ak parts)) (aO (aF g.1 parts) (ah (R95 n (n-d) (@bh aB parts (ax g.1) aK,())) λe=>ai (aq e.1.1) (Z (X () (J,()))) (Z (N (aG .i64 g.1 1,()))))) (Z (H 0 g)))
   parts.length (λi=>((i:Int),())) (λi=>sp (parts.getD i aK)) (λ_=>(X () (J,()):LO (Int×U) (Bool×U) U Any)) 0 m (λi f _=>step i f) (λ_=>bF λn=>by simp(disch:=omega)only[aU]<;>rfl)with⟨a,r⟩|⟨i,f,a,_,r⟩
  have e:sp ⟨c,n0,text,parts⟩=decide (text.length<=30):=by unfold sp;rw[KM.2 λq k=>?_,qL];obtain⟨i,f,rfl⟩:=rQ k;have:=a i f;rwa [zm,iX f]at this
  rw[e];refine Ev.bz r (λn e=>_) _ (bF λn=>?_);show Z ((br (ak text) 30,()),())=_;simp only[br,ak]
  grind
  have e:sp ⟨c,n0,text,parts⟩=J:=by
   grind[sp,sps,KM,bW,aK]
  rw[e];exact Ev.bz r (λn e=>_) _ dB
where
 Xn:∀j:L aB,oR j<=1000->∀q∈j,v7 R95 (q,()) ((sp q,()),())
 |[],_,_,h=>by cases h
 |q::j,s,t,h=>by
  unfold oR at s;obtain h|h:=fV.1 h
  rw[h];exact short q (by omega);exact Xn j (by omega) t h
def Fq(q:aB):Bool:=decide (pw q<=16)&&sp q
def OP(q:aB):aB.mk q.1 q.2 q.3 q.4=q:=by cases q;rfl
def e41(q:aB):Ev (λn=>F41 n (q,())) ((Fq q,()),()):=by
 unfold F41;simp only[OP];refine Ev.ah (e94 q (by omega) (by omega)) ?_;unfold Fq;by_cases h:pw q<=16;have a:((pw q:Nat):Int)<=16:=by omega
 rw[oz a,kO h,qL];simp(disch:=omega)only[aU];exact Ev.ah (short q (by omega) 0) (Ev.pure _);have a:¬((pw q:Nat):Int)<=16:=by omega
 simp_all[qY,jq,pO,bF,aU]
end
section
theorem iP{R B P:Type}(len:Nat)(q:Nat->Bool)(bad:Nat->LO (Int×U) R B P){F:Nat->Int×U->O (LO (Int×U) R B P)}(c:∀i y,bad i≠.next y)
  (h:∀i,i<len->Ev (λn=>F n ((i:Int),())) (bif q i then .next (((i+1:Nat):Int),())else bad i)) (d:∀n,F n ((len:Int),())=Z (.out 0 ((len:Int),()))) :
  ((∀i,i<len->q i=W)/\gV F (0,()) (.out 0 ((len:Int),())))\/∃i,i<len/\q i=J/\gV F (0,()) (bad i):=by
 obtain⟨a,r⟩|⟨i,b,a,_,r⟩:=nP len (λi=>((i:Int),())) q bad 0 c (λi b _=>h i b) (λ_=>bF d)
 simp_all
 grind
structure Small(c:aA):Prop where
 ins:c.dF.length<=1600
 pl:c.eA.length<=120
 oV:c.cY.length<=320
 cl:c.Cons.length<=30
 names:∀k∈c.Cons,k.Name.length<=30
 pats:∀q∈c.eA,pw q<=16
def e8{α:Type}{l:L α}{d:α}{Q:α->Prop}(h:∀i,i<l.length->Q (l.getD i d)):∀a∈l,Q a:=by intro a c;obtain⟨i,b,rfl⟩:=rQ c;have:=h i b;rwa [zm,iX b]at this
def Bs{α:Type}{l:L α}{d:α}{q:α->Bool}(h:∀i,i<l.length->q (l.getD i d)=W):l.all q=W:=kP.2 (e8 (d:=d) h)
theorem pT{α:Type}{l:L α}{d:α}{q:α->Bool}{i:Nat}(hi:i<l.length)(h:q (l.getD i d)=J):l.all q=J:=by
 grind
def e11(c:aA):∃b,Ev (λn=>F11 n (c,())) ((b,()),())/\(b=W->Small c):=by
 unfold F11;by_cases h1:1600<c.dF.length;exact⟨J,bF λn=>by simp(disch:=omega)only[aU]<;>rfl,λh=>by cases h⟩;by_cases h2:120<c.eA.length;exact⟨J,bF λn=>by simp(disch:=omega)only[aU]<;>rfl,λh=>by cases h⟩;by_cases h3:320<c.cY.length;exact⟨J,bF λn=>by simp(disch:=omega)only[aU]<;>rfl,λh=>by cases h⟩;by_cases h4:30<c.Cons.length;exact⟨J,bF λn=>by simp(disch:=omega)only[aU]<;>rfl,λh=>by cases h⟩;simp(disch:=omega)only[aU];have j:∀{P:Type}(i:Nat)(y:Int×U),(X () (J,()):LO (Int×U) (Bool×U) U P)≠.next y:=λ_ _ h=>by cases h
 rcases iP c.eA.length (λi=>Fq (c.eA.getD i aK)) (λ_=>(X () (J,()):LO (Int×U) (Bool×U) U Any)) (F:=λn g=>ai (aD g.1 (c.eA.length:Int)) (aO (aF g.1 c.eA) (ah (F41 n (c.eA.getD g.1.toNat aK,())) λd=>ai d.1.1 (Z (N (aG .i64 g.1 1,()))) (Z (X () (J,()))))) (Z (H 0 g))) j
  (λi e=>by
   simp(disch:=omega)only[aU];refine Ev.ah (e41 _) (bF λn=>?_);cases Fq (c.eA.getD i aK)<;>simp(disch:=omega)only[aU,bZ,gG,gM]) (λn=>by simp(disch:=omega)only[aU])with⟨a,r⟩|⟨i,e,a,r⟩
 .rcases iP c.Cons.length (λi=>decide ((c.Cons.getD i bg).Name.length<=30)) (λ_=>(X () (J,()):LO (Int×U) (Bool×U) U Any)) (F:=λn g=>ai (aD g.1 (c.Cons.length:Int)) (aO (aF g.1 c.Cons) (ai (aD 30 ((c.Cons.getD g.1.toNat bg).Name.length:Int)) (Z (X () (J,()))) (Z (N (aG .i64 g.1 1,()))))) (Z (H 0 g))) j
   (λi e=>bF λn=>by
    by_cases k:(c.Cons.getD i bg).Name.length<=30;simp(disch:=omega)only[aU,kO k,bZ,gG,gM];simp(disch:=omega)only[aU,jq k]) (λn=>by simp(disch:=omega)only[aU])with⟨l,f⟩|⟨i,e,l,f⟩
  refine⟨W,?_,λ_=>⟨by omega,by omega,by omega,by omega,e8 (d:=bg) λi e=>NP (l i e),e8 (d:=aK) λi e=>?_⟩⟩;refine Ev.bz r _ _ ?_;refine Ev.bz f _ _ ?_;exact dB
  simp_all[Fq,eW,qM]
  refine⟨J,?_,λh=>by cases h⟩;refine Ev.bz r _ _ ?_;refine Ev.bz f _ _ ?_;exact dB
 refine⟨J,?_,λh=>by cases h⟩;refine Ev.bz r _ _ ?_;exact dB
end
section
theorem WI(n k:Nat):R228 n (k+1)=B228 n (R228 n k):=rfl
def ahX(q:aB):Prop:=∀left:Int,0<=left->left<=1000->v7 R228 (q,left,()) ((fY left (pw q),()),())
def OH{P:Type}(d:Nat):∀(qs pre:L aB)(left:Int),-1<=left->(pre.length:Int)+left<=1000->(∀q∈qs,ahX q)->
  ∀F:Nat->Int×Int×U->O (LO (Int×Int×U) (Int×U) U P),
  (∀n b,F n b=ai (aD b.2.1 (ak (pre++qs))) (aO (aF b.2.1 (pre++qs)) (ai (aD b.1 0) (Z (H 0 b)) (ah (R228 n (n-d) (@bh aB (pre++qs) (ax b.2.1) aK,b.1,())) λe=>Z (N (e.1.1,aG .i64 b.2.1 1,()))))) (Z (H 0 b)))->
  ∃j,gV F (left,(pre.length:Int),()) (.out 0 (fY left (oR qs),j,()))
 |[],pre,left,h1,h2,f,F,c=>by refine⟨(pre.length:Int),.out (bF λn=>?_)⟩;rw[c];have e:fY left (oR [])=left:=Gx h1;rw[e];simp(disch:=omega)only[aU,jQ]<;>rfl
 |q::qs,pre,left,h1,h2,f,F,c=>by
  by_cases l:left<0;refine⟨(pre.length:Int),.out (bF λn=>?_)⟩;rw[c];have e:fY left (oR (q::qs))=left:=by rw[tN l];omega
  rw[e];simp(disch:=first|omega|simp only[g7];omega)only[aU]<;>rfl
  .have m:(pre++q::qs).getD pre.length aK=q:=rm ..;have o:=FW q;have p:=f q eI left (by omega) (by omega);have g:=Oe (left:=left) o (by omega);obtain⟨j,k⟩:=OH d qs (pre++[q]) (fY left (pw q)) g.2 (by simp;omega) (λr h=>f r (hJ _ h)) F (λn e=>by rw[c];simp only[wj,Lf]<;>rfl);have e:fY (fY left (pw q)) (oR qs)=fY left (oR (q::qs)):=xP;rw[e]at k;refine⟨j,.next (y:=((fY left (pw q)),((pre++[q]).length:Int),())) ?_ k⟩;obtain⟨a,s⟩:=p d;refine⟨a,λn i=>?_⟩;show F n _=_;rw[c];simp(disch:=first|omega|simp only[g7];omega)only[aU,m,bZ,gG,gM,yo];exact(eu (λx=>ah x _) (s n i)).trans rfl
theorem alG:∀q:aB,ahX q
 |⟨a,n0,text,parts⟩=>by
  intro left h1 h2;refine v7.step WI λd=>?_;obtain⟨j,f⟩:=OH (P:=Any) d parts [] (left-1) (by omega) (by simp;omega) (aeS parts) _ (λn e=>rfl);have e:fY (left-1) (oR parts)=fY left (pw ⟨a,n0,text,parts⟩):=by by_cases h3:left<1;rw[tN (by omega),qY (by grind[FW])];rw[show left-1=fY left 1 from(oz (k:=1) (Int.not_lt.1 h3)).symm,xP];rfl
  rw[<-e];have i:∀n,B228 n (R228 n (n-d)) (⟨a,n0,text,parts⟩,left,())=ah (iter (λb=>ai (aD b.2.1 (ak parts)) (aO (aF b.2.1 parts) (ai (aD b.1 0) (Z (H 0 b)) (ah (R228 n (n-d) (@bh aB parts (ax b.2.1) aK,b.1,())) λe=>Z (N (e.1.1,aG .i64 b.2.1 1,()))))) (Z (H 0 b))) n (left-1,0,())) λe=>bK (B:=U) (P:=Any) e (λ_ g=>Z ((g.1,()),())) (λ_ g=>Z (g,())) λ_ _=>Y:=by intro n;unfold B228 Ir;simp(disch:=omega)only[aU,cW,OP]<;>rfl
  exact Ev.v5 i (Ev.bz f (λn e=>_) _ dB)
where
 aeS:∀c:L aB,∀q∈c,ahX q
 |[],_,h=>by cases h
 |q::c,l,h=>by
  obtain h|h:=fV.1 h
  rw[h];exact alG q;exact aeS c l h
def asf(q:aB){left:Int}(h1:0<=left)(h2:left<=1000):Ev (λn=>F228 n (q,left,())) ((fY left (pw q),()),()):=alG q left h1 h2 0
end
section
section
def ab5(cons:L cz)(a n:Int)(k:Nat):Bool:=
 if a=1\/a=2\/a=5 then decide (n=0)&&decide (k=0)
 else if a=3 then jd n&&decide (k=0)
 else if a=4 then decide (0<=n/\n<=1)&&decide (k=0)
 else if a=6 then decide (0<=n/\n<cons.length)&&decide ((k:Int)=(cons.getD n.toNat bg).lu)
 else J
mutual
def pP(cons:L cz):aB->Bool
 |⟨a,n,text,parts⟩=>(decide (text=[])&&pE cons parts)&&ab5 cons a n parts.length
def pE(cons:L cz):L aB->Bool
 |[]=>W|q::a=>pP cons q&&pE cons a
end
theorem BW{cons:L cz}:∀{qs:L aB},pE cons qs=W↔∀q∈qs,pP cons q=W
 |[]=>by simp[pE]
 |q::qs=>by simp[pE,BW (qs:=qs)]
def rng(n:Nat)(a lo hi:Int):(ai (br lo a) (Z ((br a hi,()),())) (Z ((J,()),())))=(Z ((decide (lo<=a/\a<=hi),()),()):O ((Bool×U)×U)):=by
 by_cases h1:lo<=a
 simp_all[aU,br]
 simp(disch:=omega)only[aU];simp[h1]
variable {n:Nat}{cons:List cz}
def rB(a lo hi:Int):F223 n (a,lo,hi,())=Z ((decide (lo<=a/\a<=hi),()),()):=rng n a lo hi
def Wj(a lo hi:Int):F241 n (a,lo,hi,())=Z ((decide (lo<=a/\a<=hi),()),()):=rng n a lo hi
def wR(a lo hi:Int):F104 n (a,lo,hi,())=Z ((decide (lo<=a/\a<=hi),()),()):=rng n a lo hi
theorem kg(l:L UInt8):gw l []=decide (l=[]):=by cases l<;>rfl
theorem WK(n k:Nat):R159 n (k+1)=B159 n (R159 n k):=rfl
def Sr(cons:L cz)(q:aB):Prop:=v7 R159 (q,cons,()) ((pP cons q,()),())
def Tk{R B P:Type}{cons:L cz}(d:Nat):∀(qs pre:L aB)(b:Bool),pre.length+qs.length<=1000->(∀q∈qs,Sr cons q)->
  ∀(F:Nat->Bool×Int×U->O (LO (Bool×Int×U) R B P)),
  (∀n i,F n i=ai (aD i.2.1 (ak (pre++qs))) (ai i.1 (aO (aF i.2.1 (pre++qs)) (ah (R159 n (n-d) (@bh aB (pre++qs) (ax i.2.1) aK,cons,())) λj=>Z (N (j.1.1,aG .i64 i.2.1 1,())))) (Z (H 0 i))) (Z (H 0 i)))->
  ∃j,gV F (b,(pre.length:Int),()) (.out 0 (b&&pE cons qs,j,()))
 |[],pre,b,h3,f,F,c=>by refine⟨(pre.length:Int),.out (bF λn=>?_)⟩;rw[c];simp(disch:=omega)only[aU,jQ,pE,Dr]<;>rfl
 |q::qs,pre,b,h3,f,F,c=>by simp only[lR]at h3;cases b with|false=>refine⟨(pre.length:Int),.out (bF λn=>?_)⟩;rw[c];simp(disch:=omega)only[aU,pO]<;>rfl|true=>have k:(pre++q::qs).getD pre.length aK=q:=rm ..;obtain⟨j,o⟩:=Tk d qs (pre++[q]) (pP cons q) (by simp;omega) (λl h=>f l (hJ _ h)) F (λn e=>by rw[c];simp only[wj,Lf]<;>rfl);refine⟨j,.next (y:=(pP cons q,((pre++[q]).length:Int),())) ?_ (by simp_all[pE,qL])⟩;obtain⟨a,m⟩:=f q eI d;refine⟨a,λn g=>?_⟩;show F n _=_;rw[c];simp(disch:=first|omega|simp only[g7];omega)only[aU,k,bZ,gG,gM,yo];exact(eu (λx=>ah x _) (m n g)).trans rfl
def Yc(s:cons.length<=1000):∀q:aB,pw q<=1000->Sr cons q
 |⟨a,n0,text,parts⟩,t=>by
  unfold pw at t;have x:=EM parts;have u:=Ya parts (by omega);refine v7.step WK λd=>?_;have run:∀b:Bool,Ev (λn=>ah (iter (It n (R159 n (n-d)) (⟨a,n0,text,parts⟩,cons,())) n (b,0,())) (Is n (R159 n (n-d)))) ((b&&pE cons parts,()),()):=by intro b;obtain⟨j,k⟩:=Tk (cons:=cons) d parts [] b (by simp;omega) u _ (λn e=>rfl);exact Ev.bz (F:=λn c=>_) k (λn e=>_) _ dB
  have f:∀b:Bool,Ev (λn=>ai b (ah (iter (It n (R159 n (n-d)) (⟨a,n0,text,parts⟩,cons,())) n (decide (text=[]),0,())) (Is n (R159 n (n-d)))) (ah (iter (It n (R159 n (n-d)) (⟨a,n0,text,parts⟩,cons,())) n (J,0,())) (Is n (R159 n (n-d))))) (((decide (text=[])&&pE cons parts)&&b,()),()):=by intro b;cases b with|true=>rw[Dr];exact run _|false=>rw[Lb];exact run J
  unfold pP ab5;have i:(aa n0 0)=decide (n0=0):=by by_cases h:n0=0<;>simp[aa,h]
  unfold B159;by_cases l:a=1\/a=2\/a=5;rw[bD l];by_cases g:parts.length=0;rw[kO g,Dr];obtain c|c|c:=l<;>subst c<;>simp(disch:=omega)only[aU,aS,i,kg]<;>exact f _
  rw[jq g,Lb];obtain c|c|c:=l<;>subst c<;>simp(disch:=omega)only[aU,aS,i,kg]<;>exact f J
  rw[bQ l];by_cases o:a=3;rw[bD o];subst o;by_cases g:parts.length=0;rw[kO g,Dr];simp(disch:=omega)only[aU,aS,Wj,kg];have:=f (jd n0);simp only[jd,Bool.decide_and]at this ⊢;exact this;rw[jq g,Lb];simp(disch:=omega)only[aU,aS,kg];exact f J;rw[bQ o];by_cases p:a=4;rw[bD p];subst p;by_cases g:parts.length=0;rw[kO g,Dr];simp(disch:=omega)only[aU,aS,Wj,kg];exact f _;rw[jq g,Lb];simp(disch:=omega)only[aU,aS,kg];exact f J;rw[bQ p];by_cases r:a=6;rw[bD r];subst r;by_cases k:0<=n0/\n0<cons.length;rw[kO k,qL];simp(disch:=omega)only[aU,aS,Wj,cW,kO (show 0<=n0/\n0<=(cons.length:Int)-1 by omega),kg];rw[show aa (parts.length:Int) (cons.getD n0.toNat bg).lu=decide ((parts.length:Int)=(cons.getD n0.toNat bg).lu)by rfl];exact f _;rw[jq k,pO];simp(disch:=omega)only[aU,aS,Wj,cW,jq (show ¬(0<=n0/\n0<=(cons.length:Int)-1)by omega),kg];exact f J;rw[bQ r];simp(disch:=omega)only[aU,aS,kg];exact f J
where
 Ya:∀m:L aB,oR m<=1000->∀q∈m,Sr cons q
 |[],_,_,h=>by cases h
 |q::m,v,w,h=>by
  unfold oR at v;obtain h|h:=fV.1 h
  rw[h];exact Yc s q (by omega);exact Ya m (by omega) w h
def asw(a:cons.length<=1000)(q:aB)(b:pw q<=1000):Ev (λn=>F106 n (q,cons,())) ((pP cons q,()),()):=by unfold F106;simp only[OP];exact Ev.ah (Yc a q b 0) (Ev.pure _)
end
end
section
theorem WH(n k:Nat):R229 n (k+1)=B229 n (R229 n k):=rfl
theorem Yb{cons:L cz}(z:cons.length<=1000):∀q:aB,pw q<=1000->v7 R229 (q,cons,()) ((pP cons q,()),())
 |⟨g,n0,text,parts⟩,K=>by
  unfold pw at K;have hl:=EM parts;have P:=Ya parts (by omega);refine v7.step WH λd=>?_;have Q:∀(i:Nat)(y:Int×U),(X () ((i:Int),()):LO (Int×U) (Int×U) U Any)≠.next y:=λ_ _ h=>by cases h
  have m:Ev (λn=>SW n (R229 n (n-d)) (⟨g,n0,text,parts⟩,cons,())) ((pE cons parts,()),()):=by
   have step:∀i,i<parts.length->Ev (λn=>ai (aD (i:Int) (ak parts)) (aO (aF (i:Int) parts) (ah (R229 n (n-d) (aB.mk (@bh aB parts (ax (i:Int)) aK).1 (@bh aB parts (ax (i:Int)) aK).2 (@bh aB parts (ax (i:Int)) aK).3 (@bh aB parts (ax (i:Int)) aK).4,cons,())) λe=>ai (aq e.1.1) (Z (X () ((i:Int),()))) (Z (N (aG .i64 (i:Int) 1,()))))) (Z (H 0 ((i:Int),())))) (bif pP cons (parts.getD i aK)then .next (((i+1:Nat):Int),())else(X () ((i:Int),()):LO (Int×U) (Int×U) U Any)):=by intro i s;obtain⟨f,R⟩:=P _ (bW aK s) d;refine⟨f,λn S=>?_⟩;show TL.ai _ _ _=_;simp(disch:=omega)only[aU,OP,bZ,gG,gM,yo];refine(eu (λx=>ah x _) (R n S)).trans ?_;cases z:pP cons (parts.getD i aK)<;>rfl
   rcases iP (F:=λn l=>ai (aD l.1 (ak parts)) (aO (aF l.1 parts) (ah (R229 n (n-d) (aB.mk (@bh aB parts (ax l.1) aK).1 (@bh aB parts (ax l.1) aK).2 (@bh aB parts (ax l.1) aK).3 (@bh aB parts (ax l.1) aK).4,cons,())) λe=>ai (aq e.1.1) (Z (X () l)) (Z (N (aG .i64 l.1 1,()))))) (Z (H 0 l)))
    parts.length (λi=>pP cons (parts.getD i aK)) (λi=>(X () ((i:Int),()):LO (Int×U) (Int×U) U Any)) Q step (λn=>by simp(disch:=omega)only[aU]<;>rfl)with⟨a,r⟩|⟨i,s,a,r⟩
   rw[BW.2 (e8 (d:=aK) a)];refine Ev.bz r _ _ (bF λn=>?_);rfl;have e:pE cons parts=J:=by
    grind[pE,BW,bW,aK]
   rw[e];refine Ev.bz r _ _ (bF λn=>?_);rfl
  have A:∀{k:Bool}{F:Nat->O ((Bool×U)×U)},Ev F ((k,()),())->∀t:Bool,Ev (λn=>ai t (F n) (Z ((J,()),()))) ((t&&k,()),()):=by intro k F h t;cases t with|true=>exact h|false=>exact Ev.pure _
  have j:Ev (λn=>Iq n (R229 n (n-d)) (⟨g,n0,text,parts⟩,cons,())) ((decide (text=[])&&(decide (parts.length=0)&&pE cons parts),()),()):=by
   unfold Iq s5;have k0:(aa (ak parts) 0)=decide (parts.length=0):=by by_cases h:parts.length=0<;>simp[aa,h,ak]
   grind[kg]
  unfold pP ab5;have u:∀t k p b:Bool,(t&&(k&&p))=((t&&p)&&(W&&k)):=λt k p b=>by cases t<;>cases k<;>cases p<;>rfl
  unfold B229;by_cases v:g=1\/g=2\/g=5;rw[bD v];by_cases o:n0=0;rw[kO o,<-u _ _ _ W];obtain c|c|c:=v<;>subst c<;>simp(disch:=omega)only[aU,aS,o]<;>(subst o;exact j)
  rw[jq o,pO,Lb];obtain c|c|c:=v<;>subst c<;>simp(disch:=omega)only[aU,aS,o]<;>exact Ev.pure _
  rw[bQ v];by_cases B:g=3
  .rw[bD B];have s:(decide (-1000000000<=n0/\n0<=1000000000))=jd n0:=by simp only[jd,Bool.decide_and]
   simp(disch:=omega)only[aU,aS,rB,s];cases jd n0 with|true=>rw[<-u _ _ _ W];exact j|false=>rw[pO,Lb];exact Ev.pure _
  rw[bQ B];by_cases C:g=4
  .rw[bD C];simp(disch:=omega)only[aU,aS,rB];cases decide (0<=n0/\n0<=1)with|true=>rw[<-u _ _ _ W];exact j|false=>rw[pO,Lb];exact Ev.pure _
  rw[bQ C];by_cases E:g=6;rw[bD E];by_cases I:0<=n0/\n0<cons.length;rw[kO I,<-u _ _ _ W];simp(disch:=omega)only[aU,aS,rB,cW,kO (show 0<=n0/\n0<=(cons.length:Int)-1 by omega),kg];exact A (A m _) _;rw[jq I,pO,Lb];simp(disch:=omega)only[aU,aS,rB,cW,jq (show ¬(0<=n0/\n0<=(cons.length:Int)-1)by omega)];exact Ev.pure _;rw[bQ E,Lb];simp(disch:=omega)only[aU,aS];exact Ev.pure _
where
 Ya:∀w:L aB,oR w<=1000->∀q∈w,v7 R229 (q,cons,()) ((pP cons q,()),())
 |[],_,_,h=>by cases h
 |q::w,hp,q',h=>by
  unfold oR at hp;obtain h|h:=fV.1 h
  rw[h];exact Yb z q (by omega);exact Ya w (by omega) q' h
end
section
section
variable {n:Nat}{c:aA}{i:bR}
def MQ(x:Int×Int)(a:Int):Bool:=decide (x.1<=a/\a<=x.2)
def fA(c:aA)(op:Int):Int×Int:=
 if op=1 then(-1000000000,1000000000)else if op=2 then(0,1)else if op=4 then(0,29)else if op=5 then(0,(c.cY.length:Int)-1)
 else if op=6\/op=11\/op=12\/op=31\/op=32 then(0,(c.dF.length:Int)-1)else if op=10 then(1,30)else if op=18 then(0,(c.Cons.length:Int)-1)
 else if op=19 then(0,(c.eA.length:Int)-1)else if op=29 then(0,3)else(0,0)
def fB(c:aA)(op:Int):Int×Int:=if op=19 then(0,(c.dF.length:Int)-1)else(0,0)
def wF(c:aA)(i:bR):Bool:=decide (1<=i.Op/\i.Op<=34)&&(MQ (fA c i.Op) i.A&&MQ (fB c i.Op) i.B)
theorem asv(hs:Small c):F107 n (c,i,())=Z ((wF c i,()),()):=by
 have h1:=hs.ins;have h2:=hs.oV;have h3:=hs.cl;have h4:=hs.pl;obtain⟨op,A,B⟩:=i;have u:∀x y:Int,decide (x=y)=MQ (y,y) x:=λx y=>by unfold MQ;by_cases h:x=y<;>simp[h]<;>omega
 have d0:∀x:Int,aa x 0=MQ (0,0) x:=λx=>by simp_all[aa,Bool.beq_eq_decide_eq]
 by_cases Ix:op=19;subst Ix;have r:wF c ⟨19,A,B⟩=(decide (0<=A/\A<=(c.eA.length:Int)-1)&&decide (0<=B/\B<=(c.dF.length:Int)-1)):=rfl;rw[r];unfold F107 MH Ik;simp(disch:=omega)only[aU,aS,wR,cW];cases decide (0<=A/\A<=(c.eA.length:Int)-1)<;>simp only[aU,qL,pO];have v:fB c op=(0,0):=bQ Ix;by_cases q:B=0;subst q;have w:∀b:Bool,(b&&MQ (0,0) 0)=b:=λb=>by cases b<;>rfl
 have r:wF c ⟨op,A,0⟩=(decide (1<=op/\op<=34)&&MQ (fA c op) A):=by
  unfold wF
  grind
 rw[r];unfold F107 MH Ik;by_cases f:op=1;subst f;simp(disch:=omega)only[aU,aS,wR]<;>rfl;by_cases g:op=2;subst g;simp(disch:=omega)only[aU,aS,wR]<;>rfl;by_cases j:op=4;subst j;simp(disch:=omega)only[aU,aS,wR]<;>rfl;by_cases k:op=5;subst k;simp(disch:=omega)only[aU,aS,wR,cW]<;>rfl;by_cases a:op=6\/op=11\/op=12\/op=31\/op=32;obtain h|h|h|h|h:=a<;>subst h<;>simp(disch:=omega)only[aU,aS,wR,cW]<;>rfl
 by_cases d:op=10;subst d;simp(disch:=omega)only[aU,aS,wR]<;>rfl;by_cases k18:op=18;subst k18;simp(disch:=omega)only[aU,aS,wR,cW]<;>rfl;by_cases e:op=29;subst e;simp(disch:=omega)only[aU,aS,wR]<;>rfl;have s:fA c op=(0,0):=by unfold fA;rw[bQ f,bQ g,bQ j,bQ k,bQ a,bQ d,bQ k18,bQ Ix,bQ e]
 rw[s];have t:op≠6:=λh=>a (.inl h);have l:op≠11:=λh=>a (.inr (.inl h));have m:op≠12:=λh=>a (.inr (.inr (.inl h)));have o:op≠31:=λh=>a (.inr (.inr (.inr (.inl h))));have p:op≠32:=λh=>a (.inr (.inr (.inr (.inr h))));simp(disch:=omega)only[aU,aS,wR,Ix,f,g,j,k,t,l,m,o,p,d,k18,e,d0];cases decide (1<=op/\op<=34)<;>rfl;have r:wF c ⟨op,A,B⟩=J:=by
  unfold wF
  grind
 rw[r];unfold F107;simp(disch:=omega)only[aU,Ix,q]<;>rfl
end
end
section
section
variable {n:Nat}{c:aA}{op:Int}
def ase(hs:Small c):∃x y,∀n,F232 n (c,op,())=Z ((⟨(fA c op).1,(fA c op).2,x⟩,⟨(fB c op).1,(fB c op).2,y⟩,decide (1<=op/\op<=34),()),()):=by
 have h1:=hs.ins;have h2:=hs.oV;have h3:=hs.cl;have h4:=hs.pl;by_cases Ix:op=19;subst Ix;exact⟨W,W,λn=>by unfold F232 jl n7;simp(disch:=omega)only[aU,aS,rB,cW]<;>rfl⟩;by_cases e:op=1;subst e;exact⟨W,J,λn=>by unfold F232 jl n7;simp only[aU,aS,rB]<;>rfl⟩;by_cases f:op=2;subst f;exact⟨W,J,λn=>by unfold F232 jl n7;simp(disch:=omega)only[aU,aS,rB]<;>rfl⟩;by_cases g:op=4;subst g;exact⟨W,J,λn=>by unfold F232 jl n7;simp(disch:=omega)only[aU,aS,rB]<;>rfl⟩;by_cases i:op=5;subst i;exact⟨W,J,λn=>by unfold F232 jl n7;simp(disch:=omega)only[aU,aS,rB,cW]<;>rfl⟩;by_cases a:op=6\/op=11\/op=12\/op=31\/op=32;obtain h|h|h|h|h:=a<;>subst h<;>exact⟨W,J,λn=>by unfold F232 jl n7;simp(disch:=omega)only[aU,aS,rB,cW]<;>rfl⟩
 by_cases b:op=10;subst b;exact⟨W,J,λn=>by unfold F232 jl n7;simp(disch:=omega)only[aU,aS,rB]<;>rfl⟩;by_cases k18:op=18;subst k18;exact⟨W,J,λn=>by unfold F232 jl n7;simp(disch:=omega)only[aU,aS,rB,cW]<;>rfl⟩;by_cases d:op=29;subst d;exact⟨W,J,λn=>by unfold F232 jl n7;simp(disch:=omega)only[aU,aS,rB]<;>rfl⟩;have o:fA c op=(0,0):=by unfold fA;rw[bQ e,bQ f,bQ g,bQ i,bQ a,bQ b,bQ k18,bQ Ix,bQ d]
 have p:fB c op=(0,0):=bQ Ix;rw[o,p];have q:op≠6:=λh=>a (.inl h);have j:op≠11:=λh=>a (.inr (.inl h));have k:op≠12:=λh=>a (.inr (.inr (.inl h)));have l:op≠31:=λh=>a (.inr (.inr (.inr (.inl h))));have m:op≠32:=λh=>a (.inr (.inr (.inr (.inr h))));exact⟨J,J,λn=>by
  unfold F232 jl n7;simp(disch:=omega)only[aU,aS,rB,Ix,e,f,g,i,q,j,k,l,m,b,k18,d]<;>rfl⟩
def ahg(hs:Small c):Ev (λn=>MF n (c,())) ((bif c.dF.all (wF c)then 0 else 2,()),()):=by
 have h1:=hs.ins;have f:∀(i:Nat)(y:Int×U),(X () ((i:Int),()):LO (Int×U) (Int×U) U Any)≠.next y:=λ_ _ h=>by cases h
 unfold MF n8;rcases iP (F:=λn(o:Int×U)=>ai (aD o.1 (ak c.1)) (aO (aF o.1 c.1) (ah (F232 n (c,(bh c.1 (ax o.1) bP).1,())) λp=>ai p.1.2.2.1 (ah (F223 n ((bh c.1 (ax o.1) bP).2,p.1.1.1,p.1.1.2,())) λq=>ai q.1.1 (ah (F223 n ((bh c.1 (ax o.1) bP).3,p.1.2.1.1,p.1.2.1.2,())) λr=>ai (aq r.1.1) (Z (X () o)) (Z (N (aG .i64 o.1 1,())))) (Z (X () o))) (Z (X () o)))) (Z (H 0 o)))
  c.dF.length (λi=>wF c (c.dF.getD i bP)) (λi=>(X () ((i:Int),()):LO (Int×U) (Int×U) U Any)) f
  (λi e=>by
   obtain⟨x,y,b⟩:=ase (op:=(c.dF.getD i bP).Op) hs;refine bF λn=>?_;simp(disch:=omega)only[aU,b,rB,bZ,gG,gM,yo];unfold wF MQ;cases decide (1<=(c.dF.getD i bP).Op/\(c.dF.getD i bP).Op<=34)with
   |false=>rfl|true=>
    cases decide ((fA c (c.dF.getD i bP).Op).1<=(c.dF.getD i bP).A/\(c.dF.getD i bP).A<=(fA c (c.dF.getD i bP).Op).2)with
    |false=>rfl|true=>
     cases decide ((fB c (c.dF.getD i bP).Op).1<=(c.dF.getD i bP).B/\(c.dF.getD i bP).B<=(fB c (c.dF.getD i bP).Op).2)<;>rfl) (λn=>by simp(disch:=omega)only[aU]<;>rfl)with⟨a,r⟩|⟨i,e,a,r⟩
 rw[Bs (d:=bP) a];refine Ev.bz r _ _ (bF λn=>?_);rfl;rw[pT (d:=bP) e a];refine Ev.bz r _ _ (bF λn=>?_);rfl
end
end
section
section
def Gt(b:UInt8):Bool:=decide (97<=b.toNat/\b.toNat<=122)
def zC(s:L UInt8):Bool:=match s with
 |[]=>J|a::l=>(decide (l.length<=7)&&decide (65<=a.toNat/\a.toNat<=90))&&l.all Gt
theorem r5(a:UInt8)(l:L UInt8):zC (a::l)=((decide (l.length<=7)&&decide (65<=a.toNat/\a.toNat<=90))&&l.all Gt):=rfl
theorem KU(l:L UInt8)(i:Nat):mP l i=((l.getD i 0).toNat:Int):=rfl
variable {l:List UInt8}
def asa(hl:l.length<=1000):Ev (λn=>F275 n (l,())) ((l.all Gt,()),()):=by
 unfold F275;have e:∀(i:Nat)(y:Int×U),(X () (J,()):LO (Int×U) (Bool×U) U Any)≠.next y:=λ_ _ h=>by cases h
 rcases iP (F:=λn c=>ai (aD c.1 (ak l)) (aO (aF c.1 l) (ai (aD (mP l c.1) 97) (Z (X () (J,()))) (aO (aF c.1 l) (ai (aD 122 (mP l c.1)) (Z (X () (J,()))) (Z (N (aG .i64 c.1 1,()))))))) (Z (H 0 c))) l.length (λi=>Gt (l.getD i 0)) (λ_=>(X () (J,()):LO (Int×U) (Bool×U) U Any)) e (λi b=>bF λn=>by
   unfold Gt;by_cases h1:97<=(l.getD i 0).toNat;by_cases h2:(l.getD i 0).toNat<=122;simp(disch:=omega)only[aU,KU,kO (And.intro h1 h2),bZ,gG,gM];simp(disch:=omega)only[aU,KU,jq (λh:97<=(l.getD i 0).toNat/\(l.getD i 0).toNat<=122=>h2 h.2)];simp(disch:=omega)only[aU,KU,jq (λh:97<=(l.getD i 0).toNat/\(l.getD i 0).toNat<=122=>h1 h.1)]) (λn=>by simp(disch:=omega)only[aU]<;>rfl)with⟨a,r⟩|⟨i,b,a,r⟩
 rw[Bs (d:=(0:UInt8)) a];exact Ev.bz r (λn c=>_) _ dB;rw[pT (d:=(0:UInt8)) b a];exact Ev.bz r (λn c=>_) _ dB
theorem Xs(l:L UInt8)(pos:Nat)(h:pos<l.length):(Gt l[pos]=W/\vG l pos=(l[pos].toNat:Int)/\IA l pos=1)\/(Gt l[pos]=J/\(vG l pos<97\/122<vG l pos)):=by
 have a:pos<(cq l).size:=by simpa[cq,ByteArray.size]using h
 have b:(cq l)[pos]'a=l[pos]:=rfl;unfold Gt vG IA;by_cases h1:l[pos].toNat<128;have c:=decode_ascii (cq l) pos a (by grind)
 grind
 grind[decode_high,cq,decide_eq_false]
def FD(F:Nat->(L UInt8×Nat)×U->O (LO ((L UInt8×Nat)×U) (Bool×U) ((L UInt8×Nat)×U) Any))
  (e:∀n c,F n c=ai (QY c.1.2 c.1.1) (ai (aD (vG c.1.1 c.1.2) 97) (My n c) (ai (aD 122 (vG c.1.1 c.1.2)) (My n c) (Z (N ((c.1.1,adS c.1.2 (IA c.1.1 c.1.2)),()))))) (Z (H 0 c))) :
  ∀(k:Nat)(l:L UInt8)(pos:Nat),pos+k=l.length->((l.drop pos).all Gt=W/\∃c,gV F ((l,pos),()) (.out 0 c))\/((l.drop pos).all Gt=J/\∃c,gV F ((l,pos),()) (.ret c (J,())))
 |0,l,pos,h=>by
  refine .inl ⟨by simp_all,((l,pos),()),.out (bF λn=>?_)⟩
  simp_all[QY,jq,aU]
 |k+1,l,pos,h=>by
  have f:pos<l.length:=by omega
  have i:l.drop pos=l[pos]::l.drop (pos+1):=TA f;have d:QY pos l=W:=kO f;rw[i,List.all_cons];obtain⟨a,b,c⟩|⟨a,b⟩:=Xs l pos f
  .have j:97<=l[pos].toNat/\l[pos].toNat<=122:=NP a;rw[a,qL];have g:Ev (λn=>F n ((l,pos),())) (.next ((l,pos+1),())):=bF λn=>by rw[e];simp(disch:=omega)only[aU,d,b,c];rfl
   obtain⟨x,y,z⟩|⟨x,y,z⟩:=FD F e k l (pos+1) (by omega)
   .exact .inl ⟨x,y,.next g z⟩
   .exact .inr ⟨x,y,.next g z⟩
  rw[a,pO];refine .inr ⟨rfl,((l,adS pos (IA l pos)),()),.ret (bF λn=>?_)⟩;rw[e];obtain b|b:=b
  simp(disch:=omega)only[aU,d]<;>rfl;by_cases m:vG l pos<97;simp(disch:=omega)only[aU,d]<;>rfl;simp(disch:=omega)only[aU,d]<;>rfl
def RA{G:Nat->L UInt8->O ((Bool×U)×U)}{a:UInt8}(h:Ev (λn=>G n l) ((l.all Gt,()),()))(hl:l.length<=7) :
  Ev (λn=>aO (aF 0 (a::l)) (ai (br 65 (mP (a::l) 0)) (aO (aF 0 (a::l)) (ai (br (mP (a::l) 0) 90) (aO (ez 1 (ak (a::l)) (ak (a::l))) (ah (G n (cL (a::l) 1 (ak (a::l)))) λc=>Z c)) (Z ((J,()),())))) (Z ((J,()),())))) ((zC (a::l),()),()):=by
 rw[r5,kO hl,qL];have e:mP (a::l) 0=(a.toNat:Int):=rfl;by_cases h1:65<=a.toNat;by_cases h2:a.toNat<=90;rw[kO (And.intro h1 h2),qL];simp(disch:=first|omega|simp only[g7];omega)only[aU,e,ql];exact Ev.ah h (Ev.pure _);rw[jq (λh:65<=a.toNat/\a.toNat<=90=>h2 h.2),pO];exact bF λn=>by simp(disch:=first|omega|simp only[g7];omega)only[aU,e]
 rw[jq (λh:65<=a.toNat/\a.toNat<=90=>h1 h.1),pO];exact bF λn=>by simp(disch:=first|omega|simp only[g7];omega)only[aU,e]
def asd{s:L UInt8}(hs:s.length<=1000):Ev (λn=>F240 n (s,())) ((zC s,()),()):=by
 unfold F240;cases s with
 |nil=>exact bF λn=>by simp(disch:=omega)only[aU]<;>rfl
 |cons a l=>simp only[lR]at hs;by_cases h:l.length<=7;have:=RA (G:=λn l=>F275 n (l,())) (a:=a) (asa (l:=l) (by omega)) h;refine Ev.v5 (λn=>?_) this;simp only[ak,lR];rw[FA (by omega),FA (by omega)];rw[r5,jq h,pO,pO];exact bF λn=>by simp(disch:=omega)only[aU]
def LY(c:cz):Bool:=zC c.Name&&decide (0<=c.lu/\c.lu<=3)
theorem take_succ{α:Type}{l:L α}{i:Nat}(d:α)(h:i<l.length):l.take i++[l.getD i d]=l.take (i+1):=by
 simp_all
theorem qQ{α:Type}{l:L α}{i:Nat}(d:α)(h:i<l.length):(l.take (i+1)).Nodup↔(l.take i).Nodup/\l.getD i d∉l.take i:=by
 rw[<-take_succ d h,List.nodup_append]
 grind
theorem asq{l:L (L UInt8)}{s:L UInt8}(hl:l.length<=1000):Ev (λn=>F141 n (l,s,())) ((decide (s∈l),()),()):=by
 unfold F141;have b:∀(i:Nat)(y:Int×U),(X () (W,()):LO (Int×U) (Bool×U) U Any)≠.next y:=λ_ _ h=>by cases h
 rcases iP (F:=λn c=>ai (aD c.1 (ak l)) (aO (aF c.1 l) (ai (gw (bh l (ax c.1) []) s) (Z (X () (W,()))) (Z (N (aG .i64 c.1 1,()))))) (Z (H 0 c))) l.length (λi=>!(gw (l.getD i []) s)) (λ_=>(X () (W,()):LO (Int×U) (Bool×U) U Any)) b (λi e=>bF λn=>by
   cases f:gw (l.getD i []) s<;>simp(disch:=omega)only[aU,f,bZ,gG,gM,IL,Lc]) (λn=>by simp(disch:=omega)only[aU]<;>rfl)with⟨a,r⟩|⟨i,e,a,r⟩
 have:s∉l:=by intro g;have:=e8 (d:=([]:L UInt8)) (Q:=λx=>(!(gw x s))=W) a s g;simp[gw]at this
 rw[jq this];exact Ev.bz r (λn c=>_) _ dB;have:s∈l:=by
  grind[gw,bW]
 rw[kO this];exact Ev.bz r (λn c=>_) _ dB
theorem asr{l:L (L UInt8)}(hl:l.length<=1000):∃b,Ev (λn=>F139 n (l,())) ((b,()),())/\(b=W↔l.Nodup):=by
 unfold F139;have e:∀(i:Nat)(y:Int×U),(X () (J,()):LO (Int×U) (Bool×U) U Any)≠.next y:=λ_ _ h=>by cases h
 rcases iP (F:=λn c=>ai (aD c.1 (ak l)) (aO (ez 0 c.1 (ak l)) (aO (aF c.1 l) (ah (F141 n (cL l 0 c.1,bh l (ax c.1) [],())) λd=>ai d.1.1 (Z (X () (J,()))) (Z (N (aG .i64 c.1 1,())))))) (Z (H 0 c))) l.length (λi=>!(decide (l.getD i []∈l.take i))) (λ_=>(X () (J,()):LO (Int×U) (Bool×U) U Any)) e (λi f=>by
   simp(disch:=omega)only[aU,xG];refine Ev.ah (asq (by grind)) (bF λn=>?_);cases j:decide (l.getD i []∈l.take i)<;>simp(disch:=omega)only[aU,bZ,gG,gM,IL,Lc]) (λn=>by simp(disch:=omega)only[aU]<;>rfl)with⟨a,r⟩|⟨i,f,a,r⟩
 refine⟨W,Ev.bz r (λn c=>_) _ dB,λ_=>?_,λ_=>rfl⟩;have:∀i,i<=l.length->(l.take i).Nodup:=by
  intro i
  induction i with
  |zero=>intro _;simp
  |succ i k=>
   grind[qQ,decide_eq_true]
 have:=this l.length (eO _);rwa [QN]at this;refine⟨J,Ev.bz r (λn c=>_) _ dB,(λh=>by cases h),λg=>?_⟩;have h1:(l.take (i+1)).Nodup:=List.Nodup.sublist (List.take_sublist _ _) g
 grind[h2,qQ,decide_eq_false]
end
end
section
def ar9(s:L UInt8):Ev (λn=>F284 n (s,())) ((zC s,()),()):=by
 unfold F284;cases s with
 |nil=>exact dB|cons a l=>
  have b:gw (a::l) []=J:=rfl;have e:mP (a::l) 0=(a.toNat:Int):=rfl;by_cases h:l.length<=7;rw[r5,kO h,qL];by_cases h1:65<=a.toNat;by_cases h2:a.toNat<=90;rw[kO (And.intro h1 h2),qL];simp(disch:=first|omega|simp only[g7];omega)only[aU,b,e,ql];obtain⟨a,c,r⟩|⟨a,c,r⟩:=FD _ (λn c=>rfl) l.length l 0 (by omega)
  rw[List.drop_zero]at a;rw[a];exact Ev.bz (F:=λn c=>_) r (λn c=>_) _ dB;rw[List.drop_zero]at a;rw[a];exact Ev.bz (F:=λn c=>_) r (λn c=>_) _ dB;rw[jq (λh:65<=a.toNat/\a.toNat<=90=>h2 h.2),pO];exact bF λn=>by simp(disch:=first|omega|simp only[g7];omega)only[aU,b,e]
  rw[jq (λh:65<=a.toNat/\a.toNat<=90=>h1 h.1),pO];exact bF λn=>by simp(disch:=first|omega|simp only[g7];omega)only[aU,b,e]
  rw[r5,jq h,pO,pO];exact bF λn=>by simp(disch:=omega)only[aU,b]
end
section
theorem me{X R B P α:Type}(j:Nat)(x:X)(f:Nat->X->O α)(g:B->R->O α)(h:B->P->O α):bK (.out j x) f g h=f j x:=rfl
theorem asn{l:L cz}(hl:l.length<=1000)(hs:∀c∈l,c.Name.length<=1000):∃b,Ev (λn=>F158 n (l,())) ((b,()),())/\(b=W↔(∀c∈l,LY c=W)/\l.length<=20/\(l.map cz.Name).Nodup):=by
 unfold F158;have p:∀(i:Nat)(y:L (L UInt8)×Int×U),(X () (J,()):LO (L (L UInt8)×Int×U) (Bool×U) U Any)≠.next y:=λ_ _ h=>by cases h
 rcases nP (F:=λn c=>ai (aD c.2.1 (ak l)) (aO (aF c.2.1 l) (ah (F240 n ((bh l (ax c.2.1) bg).1,())) λd=>ai (aq d.1.1) (Z (X () (J,()))) (aO (aF c.2.1 l) (ah (F241 n ((bh l (ax c.2.1) bg).2,0,3,())) λe=>ai (aq e.1.1) (Z (X () (J,()))) (aO (aF c.2.1 l) (aO (dg c.1 [(bh l (ax c.2.1) bg).1]) (Z (N (dc c.1 [(bh l (ax c.2.1) bg).1],aG .i64 c.2.1 1,()))))))))) (Z (H 0 c)))
  l.length (λi=>((l.take i).map cz.Name,(i:Int),())) (λi=>LY (l.getD i bg)) (λ_=>(X () (J,()):LO (L (L UInt8)×Int×U) (Bool×U) U Any)) 0 p (λi k _=>by
   simp(disch:=omega)only[aU];refine Ev.ah (asd (hs _ (bW bg k))) ?_;unfold LY;cases zC (l.getD i bg).Name with
   |false=>simp_all[bF,aU,pO]|true=>
    refine bF λn=>?_;have f:dg (List.map cz.Name (List.take i l)) [(l.getD i bg).Name]=W:=GZ.2 (by simp;omega);cases m:decide (0<=(l.getD i bg).lu/\(l.getD i bg).lu<=3)with
    |false=>simp only[aU,Wj,m,qL]|true=>
     simp(disch:=omega)only[aU,Wj,m,qL,f,bZ,gG,gM]
     grind[take_succ,bg]) (λ_=>bF λn=>by simp(disch:=omega)only[aU]<;>rfl)with⟨a,r⟩|⟨i,k,a,_,r⟩
 rw[QN]at r;obtain⟨b,g,q⟩:=asr (l:=l.map cz.Name) (by simp_all);have o:∀c∈l,LY c=W:=e8 (d:=bg) a;by_cases j:l.length<=20;refine⟨b,Ev.bz r (λn c=>_) _ ?_,by simp_all⟩;refine Ev.v5 (λn=>me ..) ?_;simp(disch:=omega)only[aU];exact Ev.ah g (Ev.pure _);refine⟨J,Ev.bz r (λn c=>_) _ (bF λn=>?_),(λh=>by cases h),λh=>absurd h.2.1 j⟩;rw[me];simp(disch:=omega)only[aU];refine⟨J,Ev.bz r (λn c=>_) _ dB,(λh=>by cases h),λh=>?_⟩
 simp_all
end
section
def acA(k l:L UInt8):GB (A:=sg.A) Ty.str k l=decide (k=l):=by show gw k l=_;by_cases h:k=l<;>simp[gw,h]
def TP{k:L UInt8}:∀m:L (L UInt8×Bool),(∀q∈m,q.2=W)->EV (A:=sg.A) Ty.str J k m=decide (k∈m.map Prod.fst)
 |[],_=>by simp[EV]
 |q::m,h=>by
  unfold EV;rw[acA];by_cases a:k=q.1
  simp_all
  rw[jq a];simp only[j7];rw[TP m λx b=>h x (hJ _ b)];simp[a]
theorem Oj{k:L UInt8}:∀m:L (L UInt8×Bool),(∀q∈m,q.2=W)->∀q∈iV (A:=sg.A) Ty.str k W m,q.2=W
 |[],_,q,a=>by unfold iV at a;rw[tC.1 a]
 |x::m,h,q,a=>by
  unfold iV at a;cases b:GB (A:=sg.A) Ty.str k x.1 with
  |true=>
   grind
  |false=>
   rw[b]at a;simp only[j7]at a;obtain a|a:=fV.1 a
   simp_all
   exact Oj m (λy c=>h y (hJ _ c)) q a
theorem Ok{k:L UInt8}:∀m:L (L UInt8×Bool),((iV (A:=sg.A) Ty.str k W m).map Prod.fst)=if k∈m.map Prod.fst then m.map Prod.fst else m.map Prod.fst++[k]
 |[]=>by simp[iV]
 |q::m=>by
  have a:GB (A:=sg.A) Ty.str k q.1=decide (k=q.1):=by show gw k q.1=_;by_cases h:k=q.1<;>simp[gw,h]
  unfold iV;rw[a];by_cases h:k=q.1
  simp_all
  rw[jq h];simp only[j7,pN];rw[Ok m]
  grind
structure Mp(l:List (List UInt8))(i:Nat)(m:List (List UInt8×Bool)):Prop where
 mem:∀x,x∈m.map Prod.fst↔x∈l.take i
 le:m.length<=i
 eq:m.length=i↔(l.take i).Nodup
theorem Mp.step{l:L (L UInt8)}{i:Nat}{m:L (L UInt8×Bool)}(h:Mp l i m)(hi:i<l.length):Mp l (i+1) (iV (A:=sg.A) Ty.str (l.getD i []) W m):=by
 have d:=Ok (k:=l.getD i []) m;have a:(iV (A:=sg.A) Ty.str (l.getD i []) W m).length=if l.getD i []∈m.map Prod.fst then m.length else m.length+1:=by have:=eu List.length d;rw[QU]at this;rw[this];split<;>simp
 have e:=qQ ([]:L UInt8) hi;refine⟨λx=>?_,?_,?_⟩;rw[d,<-take_succ [] hi,eX,tC];split;rename_i c;rw[h.mem];exact⟨.inl,λb=>b.elim id λb=>by rw[b];exact(h.mem _).1 c⟩;rw[eX,tC,h.mem];rw[a];have:=h.le;split<;>omega;rw[a,e];have:=h.le;by_cases c:l.getD i []∈m.map Prod.fst;rw[bD c];exact⟨λb=>by omega,λb=>absurd ((h.mem _).1 c) b.2⟩;rw[bQ c];have f:l.getD i []∉l.take i:=λb=>c ((h.mem _).2 b);rw[<-h.eq]
 simp_all
theorem ash{l:L cz}(hl:l.length<=1000):∃b,Ev (λn=>F224 n (l,())) ((b,()),())/\(b=W↔(∀c∈l,LY c=W)/\l.length<=20/\(l.map cz.Name).Nodup):=by
 unfold F224 MA;by_cases k:l.length<=20
 .let g:Nat->L (L UInt8×Bool):=λi=>Nat.rec [] (λi m=>iV (A:=sg.A) Ty.str (l.getD i bg).Name W m) i
  have t:∀i,i<l.length->(l.map cz.Name).getD i []=(l.getD i bg).Name:=λi j=>by
   simp_all
  have s:∀i,i<=l.length->Mp (l.map cz.Name) i (g i)/\∀q∈g i,q.2=W:=by
   intro i
   induction i with
   |zero=>intro _;rw[show g 0=[]from rfl];exact⟨⟨by simp,by simp,by simp⟩,λq u=>by cases u⟩
   |succ i o=>
    intro j;obtain⟨h1,h2⟩:=o (by omega);refine⟨?_,Oj (g i) h2⟩;have:=h1.step (by grind)
    grind
  have p:∀i,i<l.length->EV (A:=sg.A) Ty.str J (l.getD i bg).Name (g i)=decide ((l.getD i bg).Name∈(l.map cz.Name).take i):=λi j=>by rw[TP (g i) (s i (by omega)).2];exact decide_eq_decide.2 ((s i (by omega)).1.mem _)
  rcases nP (F:=λn(c:Int×L (L UInt8×Bool)×U)=>ai (aD c.1 (ak l)) (aO (aF c.1 l) (ah (F284 n ((bh l (ax c.1) bg).1,())) λd=>ai d.1.1 (ah (F223 n ((bh l (ax c.1) bg).2,0,3,())) λe=>ai e.1.1 (ai (aq (aq (EV (A:=sg.A) Ty.str J (bh l (ax c.1) bg).1 c.2.1))) (Z (X (iV (A:=sg.A) Ty.str (bh l (ax c.1) bg).1 W c.2.1,()) (c.1,()))) (Z (N (aG .i64 c.1 1,iV (A:=sg.A) Ty.str (bh l (ax c.1) bg).1 W c.2.1,())))) (Z (X (iV (A:=sg.A) Ty.str (bh l (ax c.1) bg).1 W c.2.1,()) (c.1,())))) (Z (X (iV (A:=sg.A) Ty.str (bh l (ax c.1) bg).1 W c.2.1,()) (c.1,())))))
   (Z (H 0 c)))
   l.length (λi=>((i:Int),g i,())) (λi=>LY (l.getD i bg)&&!decide ((l.getD i bg).Name∈(l.map cz.Name).take i)) (λi=>(X (g (i+1),()) ((i:Int),()):LO (Int×L (L UInt8×Bool)×U) (Int×U) (L (L UInt8×Bool)×U) Any)) 0 (λ_ _ h=>by cases h) (λi j _=>by
    simp(disch:=omega)only[aU];refine Ev.ah (ar9 _) ?_;unfold LY;cases zC (l.getD i bg).Name with
    |false=>exact dB|true=>
     refine bF λn=>?_;simp(disch:=omega)only[aU,rB,p i j,bZ];cases decide (0<=(l.getD i bg).lu/\(l.getD i bg).lu<=3)<;>cases decide ((l.getD i bg).Name∈(l.map cz.Name).take i)<;>rfl) (λ_=>bF λn=>by simp(disch:=omega)only[aU]<;>rfl)with⟨a,r⟩|⟨i,j,a,_,r⟩
  refine⟨W,?_,λ_=>⟨?_,k,?_⟩,λ_=>rfl⟩;have:br (ak l) 20=W:=kO (show(l.length:Int)<=20 by omega);simp only[this,Nj];refine Ev.bz r _ _ (bF λn=>?_);rfl;exact e8 (d:=bg) λi j=>by simp_all
  have key:∀i,i<=l.length->((l.map cz.Name).take i).Nodup:=by
   intro i
   induction i with
   |zero=>intro _;simp
   |succ i o=>
    intro j;refine(qQ [] (by grind)).2 ⟨o (by omega),?_⟩
    grind
  have:=key l.length (eO _);rwa [<-QU (f:=cz.Name),QN]at this;refine⟨J,?_,(λh=>by cases h),λh=>?_⟩;have:br (ak l) 20=W:=kO (show(l.length:Int)<=20 by omega);simp only[this,Nj];refine Ev.bz r _ _ (bF λn=>?_);rfl;rw[h.1 _ (bW bg j),qL]at a;have nd:=(List.take_sublist (i+1) _).nodup h.2.2
  grind[qQ,List.length_map,decide_eq_false]
 refine⟨J,bF λn=>?_,(λh=>by cases h),λh=>absurd h.2.1 k⟩;rw[show br (ak l) 20=J from jq (show ¬(l.length:Int)<=20 by omega)];rfl
end
section
section
variable {c:aA}
structure CF(c:aA):Prop where
 ins:1<=c.dF.length/\c.dF.length<=1500
 pl:c.eA.length<=100
 cons:∀k∈c.Cons,LY k=W
 T6:c.Cons.length<=20
 names:(c.Cons.map cz.Name).Nodup
 fl:1<=c.cY.length/\c.cY.length<=300
 main:0<=c.Main/\c.Main<c.cY.length
 pats:∀q∈c.eA,pw q<=12/\pP c.Cons q=W
 oV:∀f∈c.cY,0<=f/\f<c.dF.length
 all:∀i∈c.dF,wF c i=W
mutual
theorem X9{cons:L cz}:∀q:aB,pP cons q=W->tH cons q
 |⟨a,n,text,parts⟩,h=>by
  unfold pP ab5 at h;unfold tH;simp only[eW,qM]at h;obtain⟨⟨h1,h2⟩,h3⟩:=h;have h4:=TD parts h2;split at h3
  simp_all
  grind
theorem TD{cons:L cz}:∀qs:L aB,pE cons qs=W->nM cons qs
 |[],_=>trivial|q::qs,h=>by unfold pE at h;simp only[eW]at h;exact⟨X9 q h.1,TD qs h.2⟩
end
theorem CF.ok(h:CF c):Ac c:=by
 refine⟨h.ins,λi b=>?_,λq a=>⟨X9 q (h.pats q a).2,(h.pats q a).1⟩,h.pl,h.oV,h.fl,h.main,λk d=>?_⟩;have:=h.all i b;unfold wF MQ at this;simp only[eW,qM]at this;obtain⟨⟨h1,h2⟩,h3,h4⟩:=this;unfold fB at h4;unfold fA at h3;refine⟨h1,h2,λk=>?_,λk=>?_,λk=>?_,λk=>?_,λk=>?_,λk=>?_,λk=>?_,λk=>?_,λk=>?_⟩<;>simp[k]at h3 h4<;>first|omega|(simp[jd];omega)|grind
 have:=h.cons k d
 simp_all[LY,eW,qM]
end
end
section
section
variable {c:aA}
def ar5{X B P α:Type}(i:Nat)(b:B)(f:Nat->X->O α)(u v:O α)(h:B->P->O α):bK (.ret b ((i:Int),())) f (λ_(q:Int×U)=>ai (aq (aq (br 0 q.1))) u v) h=u:=by rfl
def ahf(hs:Small c):Ev (λn=>ME n (c,())) ((bif (c.eA.all λq=>decide (pw q<=12)&&pP c.Cons q)&&c.dF.all (wF c)then 0 else 2,()),()):=by
 have h1:=hs.pl;have h2:=hs.cl;have e:∀(i:Nat)(y:Int×U),(X () ((i:Int),()):LO (Int×U) (Int×U) U Any)≠.next y:=λ_ _ h=>by cases h
 unfold ME vw;simp only[OP];rcases iP (F:=λn(k:Int×U)=>ai (aD k.1 (ak c.2)) (aO (aF k.1 c.2) (ah (F228 n (bh c.2 (ax k.1) aK,12,())) λl=>ai (br 0 l.1.1) (ah (F229 n (bh c.2 (ax k.1) aK,c.5,())) λm=>ai (aq m.1.1) (Z (X () k)) (Z (N (aG .i64 k.1 1,())))) (Z (X () k)))) (Z (H 0 k)))
  c.eA.length (λi=>decide (pw (c.eA.getD i aK)<=12)&&pP c.Cons (c.eA.getD i aK)) (λi=>(X () ((i:Int),()):LO (Int×U) (Int×U) U Any)) e
  (λi b=>by
   have f:=hs.pats _ (bW aK b);simp(disch:=omega)only[aU];refine Ev.ah (asf (c.eA.getD i aK) (by omega) (by omega)) ?_;by_cases h:pw (c.eA.getD i aK)<=12;rw[oz (left:=12) (k:=pw (c.eA.getD i aK)) (by omega),kO h,qL];simp(disch:=omega)only[aU];refine Ev.ah (Yb (by omega) (c.eA.getD i aK) (by omega) 0) (bF λn=>?_);cases pP c.Cons (c.eA.getD i aK)<;>simp(disch:=omega)only[aU,bZ,gG,gM];rw[qY (left:=12) (k:=pw (c.eA.getD i aK)) (by omega),jq h,pO]
   simp_all[bF,aU]) (λn=>by simp(disch:=omega)only[aU]<;>rfl)with⟨a,r⟩|⟨i,b,a,r⟩
 rw[Bs (d:=aK) a,qL];refine Ev.bz r _ _ ?_;exact ahg hs;rw[pT (d:=aK) b a,pO];refine Ev.bz r _ _ (bF λn=>?_);rfl
end
end
section
section
variable {c:aA}
def JH{F:Nat->O ((Int×U)×U)}(hn:¬CF c)(h:Ev F ((2,()),())):∃r:Int,Ev F ((r,()),())/\(r=0\/r=2)/\(r=0↔CF c):=
 ⟨2,h,.inr rfl,(λh=>by cases h),λh=>absurd h hn⟩
theorem asp(hs:Small c):∃r:Int,Ev (λn=>F147 n (c,())) ((r,()),())/\(r=0\/r=2)/\(r=0↔CF c):=by
 have h1:=hs.ins;have h2:=hs.oV;have h3:=hs.cl;unfold F147 n8;by_cases j:¬(1<=c.dF.length/\c.dF.length<=1500);exact JH (λh=>j h.ins) (bF λn=>by simp only[aU,rB,jq (show ¬((1:Int)<=(c.dF.length:Int)/\(c.dF.length:Int)<=1500)by omega)]<;>rfl);have j:=QO.1 j;have d1:=kO (show(1:Int)<=(c.dF.length:Int)/\(c.dF.length:Int)<=1500 by omega);by_cases z:100<c.eA.length;exact JH (λh=>by have:=h.pl;omega) (bF λn=>by simp(disch:=omega)only[aU,rB,d1]<;>rfl);obtain⟨b,e,g⟩:=ash (l:=c.Cons) (by omega);simp(disch:=omega)only[aU,rB,d1];cases b with
 |false=>exact JH (λh=>by have:=g.2 ⟨h.cons,h.T6,h.names⟩;cases this) (Ev.ah e dB)
 |true=>
  obtain⟨t,u,v⟩:=g.1 rfl;by_cases k:¬(1<=c.cY.length/\c.cY.length<=300);exact JH (λh=>k h.fl) (Ev.ah e (bF λn=>by simp only[aU,rB,jq (show ¬((1:Int)<=(c.cY.length:Int)/\(c.cY.length:Int)<=300)by omega)]<;>rfl));have k:=QO.1 k;have d3:=kO (show(1:Int)<=(c.cY.length:Int)/\(c.cY.length:Int)<=300 by omega);by_cases m:¬(0<=c.Main/\c.Main<c.cY.length);exact JH (λh=>m h.main) (Ev.ah e (bF λn=>by simp(disch:=omega)only[aU,rB,d3,cW,jq (show ¬((0:Int)<=c.Main/\c.Main<=(c.cY.length:Int)-1)by omega)]<;>rfl));have m:=QO.1 m;have d4:=kO (show(0:Int)<=c.Main/\c.Main<=(c.cY.length:Int)-1 by omega);have w:∀(i:Nat)(y:Int×U),(X () ((i:Int),()):LO (Int×U) (Int×U) U Any)≠.next y:=λ_ _ h=>by cases h
  have o:=ahf hs;rcases iP (F:=λn(h:Int×U)=>ai (aD h.1 (c.cY.length:Int)) (aO (aF h.1 c.cY) (ai (decide (0<=c.cY.getD h.1.toNat 0/\c.cY.getD h.1.toNat 0<=aZ .i64 (c.dF.length:Int) 1)) (Z (N (aG .i64 h.1 1,()))) (Z (X () h)))) (Z (H 0 h)))
   c.cY.length (λi=>decide (0<=c.cY.getD i 0/\c.cY.getD i 0<=(c.dF.length:Int)-1)) (λi=>(X () ((i:Int),()):LO (Int×U) (Int×U) U Any)) w
   (λi p=>bF λn=>by
    simp(disch:=omega)only[aU,cW];cases decide (0<=c.cY.getD i 0/\c.cY.getD i 0<=(c.dF.length:Int)-1)<;>simp(disch:=omega)only[aU,bZ,gG,gM]) (λn=>by simp(disch:=omega)only[aU]<;>rfl)with⟨a,r⟩|⟨i,p,a,r⟩
  have x:∀f∈c.cY,0<=f/\f<c.dF.length:=e8 (d:=(0:Int)) λi p=>by grind
  have goal:∀r:Int,r=(bif (c.eA.all λq=>decide (pw q<=12)&&pP c.Cons q)&&c.dF.all (wF c)then 0 else 2)->(r=0\/r=2)/\(r=0↔CF c):=by
   intro r A;have s:((c.eA.all λq=>decide (pw q<=12)&&pP c.Cons q)&&c.dF.all (wF c))=W↔CF c:=by simp only[eW,kP,qM];exact⟨λh=>⟨j,by omega,t,u,v,k,m,h.1,x,h.2⟩,λh=>⟨h.pats,h.all⟩⟩
   grind
  refine⟨_,?_,goal _ rfl⟩;refine Ev.ah e ?_;simp only[rB,d3,d4,aU,cW (show -9223372036854775808<=(c.cY.length:Int)-1 by omega) (show(c.cY.length:Int)-1<=9223372036854775807 by omega)];refine Ev.bz r _ _ ?_;exact o;refine JH (λh=>?_) (Ev.ah e ?_);have:=h.oV _ (bW (0:Int) p)
  grind
  simp only[rB,d3,d4,aU,cW (show -9223372036854775808<=(c.cY.length:Int)-1 by omega) (show(c.cY.length:Int)-1<=9223372036854775807 by omega)];refine Ev.bz r _ _ (bF λn=>?_);rfl
end
end
section
section
variable {α β R B P:Type}
def Ev.all{l:L α}(d:α)(q:α->Bool)(bad:Nat->LO (Int×U) R B P){F:Nat->Int×U->O (LO (Int×U) R B P)}{g:Nat->LO (Int×U) R B P->O β}{r:β}
  (e:∀i y,bad i≠.next y)
  (hs:∀i,i<l.length->Ev (λn=>F n ((i:Int),())) (bif q (l.getD i d)then .next (((i+1:Nat):Int),())else bad i))
  (f:∀n,F n ((l.length:Int),())=Z (.out 0 ((l.length:Int),())))
  (h1:l.all q=W->Ev (λn=>g n (.out 0 ((l.length:Int),()))) r) (h2:∀i,i<l.length->l.all q=J->Ev (λn=>g n (bad i)) r) :
  Ev (λn=>ah (iter (F n) n (0,())) (g n)) r:=by
 obtain⟨a,b⟩|⟨i,c,a,b⟩:=iP l.length (λi=>q (l.getD i d)) bad e hs f
 exact Ev.bz b g _ (h1 (Bs (d:=d) a));exact Ev.bz b g _ (h2 i c (pT (d:=d) c a))
def Ev.allI{X:Type}(len:Nat)(s:Nat->X)(q:Nat->Bool)(bad:Nat->LO X R B P){F:Nat->X->O (LO X R B P)}{g:Nat->LO X R B P->O β}{r:β}(c:∀i y,bad i≠.next y)
  (hs:∀i,i<len->(∀j,j<i->q j=W)->Ev (λn=>F n (s i)) (bif q i then .next (s (i+1))else bad i)) (d:∀n,F n (s len)=Z (.out 0 (s len)))
  (h1:(∀i,i<len->q i=W)->Ev (λn=>g n (.out 0 (s len))) r) (h2:∀i,i<len->q i=J->Ev (λn=>g n (bad i)) r):Ev (λn=>ah (iter (F n) n (s 0)) (g n)) r:=by
 obtain⟨a,b⟩|⟨i,e,a,_,b⟩:=nP len s q bad 0 c hs (λ_=>bF d)
 exact Ev.bz b g _ (h1 a);exact Ev.bz b g _ (h2 i e a)
def zg{X R B P:Type}{b:B}{r:X->R}:∀(c y:X),(LO.ret b (r c):LO X R B P)≠.next y:=λ_ _ h=>by cases h
def ajg(i:Nat):aq (br 0 (i:Int))=J:=by rfl
def JS(a lo hi:Int):Bool:=decide (lo<=a)&&decide (a<=hi)
theorem gT{a lo hi:Int}:JS a lo hi=W↔lo<=a/\a<=hi:=by simp[JS]
theorem mQ{a b:Int}:aa a b=W↔a=b:=by simp[aa]
variable {b a:Int}
def zA(h:aa a b=J):a≠b:=λe=>by rw[IY e]at h;cases h
theorem AQ{a b:Int}(h:br a b=W):a<=b:=by simpa[br]using h
def AR(h:br a b=J):b<a:=by simpa[br]using h
def AP(h:aD a b=W):a<b:=by simpa[aD]using h
def Cl(h:aD a b=J):b<=a:=by simpa[aD]using h
end
def aX{α:Type}(F:Nat->O α)(P:Prop)(x y:α):Prop:=(P/\Ev F x)\/(¬P/\Ev F y)
abbrev FB:=Nat->O ((Bool×U)×U)
abbrev eC(F:FB)(P:Prop):Prop:=aX F P ((W,()),()) ((J,()),())
section
variable {α:Type}{F G f g:Nat->Option α}{x y:α}{P Q:Prop}
def aX.no(hn:¬P)(h:Ev F y):aX F P x y:=.inr ⟨hn,h⟩
def aX.yes(a:P)(h:Ev F x):aX F P x y:=.inl ⟨a,h⟩
def aX.iff(e:P↔Q)(h:aX F P x y):aX F Q x y:=by
 simp_all
def aX.congr(e:∀n,F n=G n)(h:aX G P x y):aX F P x y:=by
 obtain⟨a,b⟩|⟨a,b⟩:=h
 exact .inl ⟨a,Ev.v5 e b⟩;exact .inr ⟨a,Ev.v5 e b⟩
theorem aX.ai{b:Bool}(h1:b=W->aX f P x y)(h2:b=J->aX g P x y):aX (λn=>TL.ai b (f n) (g n)) P x y:=by cases b;exact h2 rfl;exact h1 rfl
def aX.aO{b:Bool}(a:b=W)(h:aX f P x y):aX (λn=>TL.aO b (f n)) P x y:=by subst a;exact h
theorem aX.ah{f:FB}{g:Nat->(Bool×U)×U->O α}(h:eC f P)(h1:P->aX (λn=>g n ((W,()),())) Q x y)(h2:¬P->aX (λn=>g n ((J,()),())) Q x y):aX (λn=>TL.ah (f n) (g n)) Q x y:=by
 obtain⟨a,b⟩|⟨a,b⟩:=h
 obtain⟨c,d⟩|⟨c,d⟩:=h1 a
 exact .inl ⟨c,Ev.ah b d⟩;exact .inr ⟨c,Ev.ah b d⟩;obtain⟨c,d⟩|⟨c,d⟩:=h2 a
 exact .inl ⟨c,Ev.ah b d⟩;exact .inr ⟨c,Ev.ah b d⟩
def aX.ifN{f:FB}{bad rest:Nat->O α}(h:eC f P)(h1:P->aX rest Q x y)(h2:¬P->aX bad Q x y):aX (λn=>TL.ah (f n) λz=>TL.ai (aq z.1.1) (bad n) (rest n)) Q x y:=aX.ah h h1 h2
def aX.ifP{f:FB}{bad rest:Nat->O α}(h:eC f P)(h1:P->aX rest Q x y)(h2:¬P->aX bad Q x y):aX (λn=>TL.ah (f n) λz=>TL.ai z.1.1 (rest n) (bad n)) Q x y:=aX.ah h h1 h2
def aX.asL{β:Type}{f:Nat->O β}{a:β}{g:Nat->β->O α}(h:Ev f a)(c:aX (λn=>g n a) P x y):aX (λn=>TL.ah (f n) (g n)) P x y:=by
 obtain⟨a,b⟩|⟨a,b⟩:=c
 exact .inl ⟨a,Ev.ah h b⟩;exact .inr ⟨a,Ev.ah h b⟩
def eC.mk{F:FB}{b:Bool}(h:Ev F ((b,()),()))(e:b=W↔P):eC F P:=by cases b;exact .inr ⟨(λh=>by simp_all),h⟩;exact .inl ⟨e.1 rfl,h⟩
theorem eC.get{F:FB}(h:eC F P):∃b,Ev F ((b,()),())/\(b=W↔P):=by
 obtain⟨a,b⟩|⟨a,b⟩:=h
 simp_all
 simp_all
def eC.of_eq{F:FB}{b:Bool}(h:∀n,F n=Z ((b,()),()))(e:b=W↔P):eC F P:=eC.mk (bF h) e
def eC.tail{f:FB}(h:eC f P):eC (λn=>TL.ah (f n) λx=>Z x) P:=by
 obtain⟨a,b⟩|⟨a,b⟩:=h
 exact .inl ⟨a,Ev.ah b (Ev.pure _)⟩;exact .inr ⟨a,Ev.ah b (Ev.pure _)⟩
end
section
variable {α β R B P:Type}{Q:Prop}{Pa:α->Prop}{x y:β}
def aX.loop{X:Type}(len:Nat)(s:Nat->X)(q:Nat->Prop)(bad:Nat->LO X R B P){F:Nat->X->O (LO X R B P)}{g:Nat->LO X R B P->O β}(f:∀i y,bad i≠.next y)
  (hs:∀i,i<len->(∀j,j<i->q j)->aX (λn=>F n (s i)) (q i) (.next (s (i+1))) (bad i)) (k:∀n,F n (s len)=Z (.out 0 (s len)))
  (h1:(∀i,i<len->q i)->aX (λn=>g n (.out 0 (s len))) Q x y) (h2:∀i,i<len->¬q i->aX (λn=>g n (bad i)) Q x y):aX (λn=>TL.ah (iter (F n) n (s 0)) (g n)) Q x y:=by
 haveI:∀i,Decidable (q i):=λi=>Classical.propDecidable _
 rcases nP (F:=F) len s (λi=>decide (q i)) bad 0 f (λi c l=>by
  obtain⟨a,b⟩|⟨a,b⟩:=hs i c (λj h=>NP (l j h))
  simp_all
  simp_all) (λ_=>bF k)with⟨a,d⟩|⟨i,c,a,_,d⟩
 obtain⟨b,e⟩|⟨b,e⟩:=h1 λi c=>NP (a i c)
 exact .inl ⟨b,Ev.bz d g _ e⟩;exact .inr ⟨b,Ev.bz d g _ e⟩;obtain⟨b,e⟩|⟨b,e⟩:=h2 i c (of_decide_eq_false a)
 exact .inl ⟨b,Ev.bz d g _ e⟩;exact .inr ⟨b,Ev.bz d g _ e⟩
def aX.all{l:L α}(d:α)(Pa:α->Prop)(bad:Nat->LO (Int×U) R B P){F:Nat->Int×U->O (LO (Int×U) R B P)}{g:Nat->LO (Int×U) R B P->O β}(c:∀i y,bad i≠.next y)
  (hs:∀i,i<l.length->aX (λn=>F n ((i:Int),())) (Pa (l.getD i d)) (.next (((i+1:Nat):Int),())) (bad i)) (e:∀n,F n ((l.length:Int),())=Z (.out 0 ((l.length:Int),())))
  (h1:(∀a∈l,Pa a)->aX (λn=>g n (.out 0 ((l.length:Int),()))) Q x y) (h2:¬(∀a∈l,Pa a)->∀i:Nat,aX (λn=>g n (bad i)) Q x y):aX (λn=>TL.ah (iter (F n) n (0,())) (g n)) Q x y:=
 aX.loop l.length (λi=>((i:Int),())) (λi=>Pa (l.getD i d)) bad c (λi b _=>hs i b) e (λh=>h1 (e8 (d:=d) h)) (λi b h=>h2 (λf=>h (f _ (bW d b))) i)
def aX.Mj{l:L α}(d:α)(Pa:α->Prop)(T:Nat->α->O ((Bool×U)×U))(bad:Int×U->LO (Int×U) R B P){F:Nat->Int×U->O (LO (Int×U) R B P)}{g:Nat->LO (Int×U) R B P->O β}
  (j:∀n c,F n c=TL.ai (aD c.1 (ak l)) (TL.aO (aF c.1 l) (TL.ah (T n (bh l (ax c.1) d)) λx=>TL.ai (aq x.1.1) (Z (bad c)) (Z (N (aG .i64 c.1 1,()))))) (Z (H 0 c)))
  (hl:l.length<=1000000) (k:∀c y,bad c≠.next y) (m:∀a∈l,eC (λn=>T n a) (Pa a))
  (h1:(∀a∈l,Pa a)->aX (λn=>g n (.out 0 ((l.length:Int),()))) Q x y) (h2:¬(∀a∈l,Pa a)->∀i:Nat,aX (λn=>g n (bad ((i:Int),()))) Q x y) :
  aX (λn=>TL.ah (iter (F n) n (0,())) (g n)) Q x y:=by
 refine aX.all d Pa (λi=>bad ((i:Int),())) (λi y=>k _ y) (λi o=>?_) (λn=>by simp_all[aU]) h1 h2;obtain⟨b,h,e⟩:=(m _ (bW d o)).get;have f:Ev (λn=>F n ((i:Int),())) (bif b then .next (((i+1:Nat):Int),())else bad ((i:Int),())):=by refine Ev.v5 (λn=>j n _) ?_;simp(disch:=omega)only[aU];refine Ev.ah h (bF λn=>?_);cases b<;>simp(disch:=omega)only[aU,bZ,gG,gM]
 cases b with|true=>exact .inl ⟨e.1 rfl,f⟩|false=>exact .inr ⟨(λh=>by simp_all),f⟩
end
end
section
section
variable {c:aA}
theorem e50(hs:Small c):eC (λn=>F50 n (c,())) (CF c):=by
 have h1:=hs.ins;have h2:=hs.oV;have h3:=hs.cl;have h4:=hs.pl;unfold F50 KA;by_cases m:¬(1<=c.dF.length/\c.dF.length<=1500);exact aX.no (λh=>m h.ins) (bF λn=>by simp only[aU,wR,jq (show ¬((1:Int)<=(c.dF.length:Int)/\(c.dF.length:Int)<=1500)by omega)]<;>rfl);have m:=QO.1 m;have d1:=kO (show(1:Int)<=(c.dF.length:Int)/\(c.dF.length:Int)<=1500 by omega);by_cases x:100<c.eA.length;exact aX.no (λh=>by have:=h.pl;omega) (bF λn=>by simp(disch:=omega)only[aU,wR,d1]<;>rfl);obtain⟨b,g,j⟩:=asn (l:=c.Cons) (by omega) (λk s=>by have:=hs.names k s;omega);have d:Ev (λn=>F105 n (c.Cons,())) ((b,()),()):=by unfold F105;exact Ev.ah g (Ev.pure _)
 simp(disch:=omega)only[aU,wR,d1];cases b with
 |false=>exact aX.no (λh=>by have:=j.2 ⟨h.cons,h.T6,h.names⟩;cases this) (Ev.ah d dB)
 |true=>
  obtain⟨t,u,v⟩:=j.1 rfl;by_cases o:¬(1<=c.cY.length/\c.cY.length<=300);exact aX.no (λh=>o h.fl) (Ev.ah d (bF λn=>by simp only[aU,wR,jq (show ¬((1:Int)<=(c.cY.length:Int)/\(c.cY.length:Int)<=300)by omega)]<;>rfl));have o:=QO.1 o;have d3:=kO (show(1:Int)<=(c.cY.length:Int)/\(c.cY.length:Int)<=300 by omega);by_cases p:¬(0<=c.Main/\c.Main<c.cY.length);exact aX.no (λh=>p h.main) (Ev.ah d (bF λn=>by simp(disch:=omega)only[aU,wR,d3,cW,jq (show ¬((0:Int)<=c.Main/\c.Main<=(c.cY.length:Int)-1)by omega)]<;>rfl));have p:=QO.1 p;have d4:=kO (show(0:Int)<=c.Main/\c.Main<=(c.cY.length:Int)-1 by omega);have w:=cW (show -9223372036854775808<=(c.cY.length:Int)-1 by omega) (show(c.cY.length:Int)-1<=9223372036854775807 by omega);have goal:((c.eA.all λq=>decide (pw q<=12)&&pP c.Cons q)&&(c.cY.all (λf=>decide (0<=f/\f<=(c.dF.length:Int)-1))&&c.dF.all (wF c)))=W↔CF c:=by simp only[eW,kP,qM];exact⟨λh=>⟨m,by omega,t,u,v,o,p,h.1,λf r=>by grind,h.2.2⟩,λh=>⟨h.pats,λf r=>by have:=h.oV f r;omega,h.all⟩⟩
  refine eC.mk (Ev.ah d ?_) goal;simp only[wR,d3,d4,aU,w];refine Ev.all (l:=c.eA) aK (λq=>decide (pw q<=12)&&pP c.Cons q) (λ_=>.ret () (J,())) (λ_ _ h=>by cases h) (λi e=>?_) (λn=>by simp(disch:=omega)only[aU]) (λa=>?_) (λi e a=>?_);have a:=hs.pats _ (bW aK e);simp(disch:=omega)only[aU];refine Ev.ah (e94 (c.eA.getD i aK) (by omega) (by omega)) ?_;by_cases h:pw (c.eA.getD i aK)<=12;rw[oz (left:=12) (k:=pw (c.eA.getD i aK)) (by omega),kO h,qL];simp(disch:=omega)only[aU];refine Ev.ah (asw (by omega) (c.eA.getD i aK) (by omega)) (bF λn=>?_);cases pP c.Cons (c.eA.getD i aK)<;>simp(disch:=omega)only[aU,bZ,gG,gM];rw[qY (left:=12) (k:=pw (c.eA.getD i aK)) (by omega),jq h,pO]
  simp_all[bF,aU]
  rw[a,qL];refine Ev.v5 (λn=>me ..) ?_;refine Ev.all (l:=c.cY) 0 (λf=>decide (0<=f/\f<=(c.dF.length:Int)-1)) (λ_=>.ret () (J,())) (λ_ _ h=>by cases h) (λi e=>bF λn=>?_) (λn=>by simp(disch:=omega)only[aU]) (λa=>?_) (λi e a=>?_);simp(disch:=omega)only[aU,cW,wR];cases decide (0<=c.cY.getD i 0/\c.cY.getD i 0<=(c.dF.length:Int)-1)<;>simp(disch:=omega)only[aU,bZ,gG,gM];rw[a,qL];refine Ev.v5 (λn=>me ..) ?_;refine Ev.all (l:=c.dF) bP (wF c) (λ_=>.ret () (J,())) (λ_ _ h=>by cases h) (λi e=>bF λn=>?_) (λn=>by simp(disch:=omega)only[aU]) (λa=>?_) (λi e a=>?_);simp(disch:=omega)only[aU,asv hs];cases wF c (c.dF.getD i bP)<;>simp(disch:=omega)only[aU,bZ,gG,gM];rw[a];exact dB;rw[a];exact dB;rw[a];exact dB;rw[a];exact dB
end
end
section
section
variable {c:aA}{dd:List au}{w:av}{mm:List (Int×Bool)}{k:Nat}
def vB(c:aA)(k:Nat)(v:az):Bool:=
 bif aa v.Kind 1 then JS v.N (-1000000000) 1000000000 else bif aa v.Kind 2 then JS v.N 0 1 else bif aa v.Kind 3 then aa v.N 0
 else bif aa v.Kind 4 then JS v.N 0 (c.cY.length-1)else bif aa v.Kind 5 then JS v.N 0 (k-1)else J
theorem KJ{v:az}:vB c k v=W↔cG c k v:=by
 let ⟨a,b⟩:=v
 unfold vB cG
 grind[aa,JS,jd]
def e63(n:Nat)(a lo hi:Int):F63 n (a,lo,hi,())=Z ((JS a lo hi,()),()):=by unfold F63 JS;by_cases h1:lo<=a<;>by_cases h2:a<=hi<;>simp[ai,br,h1,h2]
def asi(n:Nat)(a:c.cY.length<=1000)(b:w.aN.length<=1000)(v:az):F171 n (⟨c,dd⟩,w,v,())=Z ((vB c w.aN.length v,()),()):=by unfold F171 vB;simp(disch:=omega)only[aU,cW,e63];cases aa v.Kind 1<;>cases aa v.Kind 2<;>cases aa v.Kind 3<;>cases aa v.Kind 4<;>cases aa v.Kind 5<;>rfl
def rgl(a:Int)(k:Nat):(ai (br 0 a) (Z ((aD a (k:Int),()),())) (Z ((J,()),())))=(Z ((JS a 0 (k-1),()),()):O ((Bool×U)×U)):=by unfold JS;by_cases h1:0<=a<;>by_cases h2:a<k<;>simp[ai,br,aD,h1,h2]<;>omega
def rgi(a lo hi:Int):(ai (br lo a) (Z ((br a hi,()),())) (Z ((J,()),())))=(Z ((JS a lo hi,()),()):O ((Bool×U)×U)):=by unfold JS;by_cases h1:lo<=a<;>by_cases h2:a<=hi<;>simp[ai,br,h1,h2]
theorem ahe(n:Nat)(v:az):F245 n (⟨w,c,dd,mm⟩,v,())=Z ((vB c w.aN.length v,()),()):=by
 unfold F245 vB;simp only[ff,rgl,rgi]
 grind[aa,gT,ai,vZ]
def RJ(a:c.cY.length<=1000)(d:w.aN.length<=1000){l:L az}(hl:l.length<=1000){m:Int}:eC (λn=>F118 n (⟨c,dd⟩,w,l,m,())) ((l.length:Int)=m/\∀v∈l,cG c w.aN.length v):=by
 by_cases h:(l.length:Int)=m;subst h;refine aX.iff (P:=∀v∈l,cG c w.aN.length v) ⟨λh=>⟨rfl,h⟩,λh=>h.2⟩ (aX.congr (λn=>show F118 n (⟨c,dd⟩,w,l,(l.length:Int),())=_ by unfold F118;exact eu (λb=>ai (aq b) _ _) (IY rfl)) ?_);exact aX.Mj (l:=l) bu (cG c w.aN.length) (λn v=>F171 n (⟨c,dd⟩,w,v,())) (λ_=>.ret () (J,())) (λn c=>rfl) (by omega) (λ_ _ h=>by cases h) (λv _=>eC.of_eq (λn=>asi n a d v) KJ) (λh=>aX.yes h dB) (λh i=>aX.no h dB);exact aX.no (λe=>h e.1) (bF λn=>by
  unfold F118;rw[show aa (ak l) m=J from vZ h];rfl)
structure Bd(c:aA)(dd:List au)(w:av):Prop where
 ok:Bx c dd
 cl:c.Cons.length<=1000
 wl:w.aN.length<=1000
def Bd.fl(h:Bd c dd w):c.cY.length<=1000:=by have:=h.ok.fl;omega
def Bd.nl(h:Bd c dd w):c.dF.length<=1500:=h.ok.len.2
def Bd.dl(h:Bd c dd w):dd.length=c.dF.length:=h.ok.dep.len
def Bx.cok(h:Bx c dd):Ac c:=⟨h.len,h.ins,h.pats,h.pl,h.oV,h.fl,h.main,h.cons⟩
theorem Qj.lo(h:Qj c dd)(f:Ac c){n:Int}{d:au}(g:KG c n d):Lo d:=by
 induction g with
 |root _=>exact⟨rfl,by decide,by decide⟩
 | @next n d x i j k=>
  let ⟨a,b,e,r⟩:=h.BZ f.oV i
  have:=h.ok n a b (by grind);rw[e]at this;exact(Gk f a b this.2.2 k j).2
theorem Bd.lo(h:Bd c dd w){n:Int}(a:0<=n)(h1:n<c.dF.length)(b:(dW dd n).Reached=W):Lo (dW dd n)/\(dW dd n).Stack<=60/\(dW dd n).Env<=30:=by have:=h.ok.dep.ok n a h1 b;exact⟨h.ok.dep.lo h.ok.cok (h.ok.dep.der n a h1 b),this.1,this.2.1⟩
def oA(l:L aj)(last:Bool)(i:Nat):Int:=if last=W/\i+1=l.length then 0 else 1
structure SmF(l:List aj):Prop where
 len:l.length<=1000
 env:∀f∈l,f.Env.length<=1000
 stack:∀f∈l,f.Stack.length<=1000
def alO(b:Bd c dd w){l:L aj}(sm:SmF l){last:Bool}:eC (λn=>F117 n (⟨c,dd⟩,w,l,last,())) ((1<=l.length/\l.length<=40)/\∀i,i<l.length->dw c dd w.aN.length (oA l last i) (l.getD i aR)):=by
 have F:=sm.len;have I:=b.nl;have K:=b.dl;unfold F117 CX;refine aX.ifN (P:=1<=l.length/\l.length<=40) (eC.of_eq (λn=>e63 n _ _ _) (gT.trans (by simp[ff];omega))) (λh1=>?_) (λh1=>aX.no (λh=>h1 h.1) dB);refine aX.loop l.length (λi=>((i:Int),())) (λi=>dw c dd w.aN.length (oA l last i) (l.getD i aR)) (λ_=>.ret () (J,())) (λ_ _ h=>by cases h) (λi k _=>?_) (λn=>by simp(disch:=omega) [aU]) (λh=>aX.yes ⟨h1,h⟩ dB) (λi k h=>aX.no (λz=>h (z.2 i k)) dB);have s:=sm.env _ (bW aR k);have t:=sm.stack _ (bW aR k);generalize A:l.getD i aR=f at s t;have q:bh l (ax (i:Int)) aR=f:=A;unfold SL MG CW;simp only[q];simp(disch:=omega)only[aU,e63,cW];cases h1:JS f.At 0 ((c.dF.length:Int)-1)with
 |false=>exact aX.no (λh=>by rw[gT.2 ⟨h.lo,by have:=h.hi;omega⟩]at h1;cases h1) dB
 |true=>
 have u:=gT.1 h1;have e:f.At<c.dF.length:=by omega
 simp(disch:=omega)only[aU];rw[show dd.getD f.At.toNat aT=dW dd f.At from rfl];cases h2:(dW dd f.At).Reached with
 |false=>exact aX.no (λh=>by have:=h.re;simp_all) dB
 |true=>
 let ⟨lo,B,C⟩:=b.lo u.1 e h2
 have E:=lo.s;have d:∀(a m:Int),m=(dW dd f.At).Stack-a->aX (λn=>ah (F118 n (⟨c,dd⟩,w,f.Env,(dW dd f.At).Env,())) λx=>ai x.1.1 (ai (aD m 0) (Z (X () (J,()))) (ah (F118 n (⟨c,dd⟩,w,f.Stack,m,())) λj=>ai j.1.1 (Z (N (aG .i64 (i:Int) 1,()))) (Z (X () (J,()))))) (Z (X () (J,()))))
   (dw c dd w.aN.length a f) (N (((i+1:Nat):Int),()):LO (Int×U) (Bool×U) U Any) (X () (J,())):=by
  intro a m v;refine aX.ifP (RJ b.fl b.wl s) (λo=>?_) (λo=>aX.no (λh=>o ⟨h.el,h.env⟩) dB);refine aX.ai (λy=>aX.no (λh=>by have:=h.sl;have:=AP y;omega) dB) (λy=>?_);refine aX.ifP (RJ b.fl b.wl t) (λp=>aX.yes ⟨u.1,e,h2,o.1,o.2,by rw[p.1,v],p.2⟩ (bF λn=>?_)) (λp=>aX.no (λh=>p ⟨by rw[h.sl,v],h.stack⟩) dB);simp(disch:=omega) [bZ,gG,gM]
 have g:aZ .i64 (dW dd f.At).Stack 1=(dW dd f.At).Stack-1:=cW (by omega) (by omega);rw[g];cases last with|false=>rw[show oA l J i=1 from bQ (by simp_all)];exact d 1 _ rfl|true=>by_cases r:i+1=l.length;rw[show oA l W i=0 from bD ⟨rfl,r⟩];rw[show aD (i:Int) ((l.length:Int)-1)=J from ajm (by omega)];exact d 0 _ (by omega);rw[show oA l W i=1 from bQ (by omega)];rw[show aD (i:Int) ((l.length:Int)-1)=W from ajl (by omega)];exact d 1 _ rfl
end
end
section
section
variable {c:aA}{dd:List au}{w:av}{k:Nat}{s n fo:Int}{vs:List az}{fs:List aj}
def PM(c:aA)(dd:L au)(k:Nat)(last:Bool)(l:L aj):Prop:=(1<=l.length/\l.length<=40)/\∀i,i<l.length->dw c dd k (oA l last i) (l.getD i aR)
def LM(h:PM c dd k J fs):∀f∈fs,dw c dd k 1 f:=e8 (d:=aR) λi a=>by
 have:=h.2 i a
 simp_all[oA,bQ]
theorem Oh:gf c dd k ⟨5,s,vs,fs⟩↔s=0/\vs=[]/\PM c dd k J fs/\(fs.getD 0 aR).dI=W:=by
 constructor
 .intro h;cases h with
  |AN a b d=>
   rename_i f l;refine⟨rfl,rfl,⟨⟨by simp,by grind⟩,λi g=>?_⟩,d⟩;rw[show oA (f::l) J i=1 from bQ (by simp_all)]
   grind
 rintro⟨rfl,rfl,h,e⟩
 have h1:=h.1;have h2:=LM h
 match fs,h1,h2,e with
 |f::l,h1,h2,e=>exact .AN (by grind) h2 e
def Ox:gf c dd k ⟨6,0,vs,fs⟩↔vs=[]/\PM c dd k W fs:=by
 constructor
 .intro h;generalize m:(0:Int)=s at h;cases h with
  |rR a b d=>rename_i l f;refine⟨rfl,⟨by simp,by simp only[j9,nK];omega⟩,λi g=>?_⟩;simp only[j9,nK]at g;by_cases j:i=l.length;subst j;rw[show oA (l++[f]) W l.length=0 from bD ⟨rfl,by simp⟩,show(l++[f]).getD l.length aR=f by simp[zm]];exact d;rw[show oA (l++[f]) W i=1 from bQ (by rintro⟨_,h⟩;simp at h;omega),show(l++[f]).getD i aR=l.getD i aR by simp[zm,Tz (show i<l.length by omega)]];exact b _ (bW aR (by omega))
  |done=>cases m
  |dead h=>omega
 rintro⟨rfl,h1,h2⟩
 have e:fs≠[]:=by rintro rfl;simp at h1
 rw[<-X2 e]at h1 h2 ⊢;generalize fs.dropLast=l at *
 generalize fs.getLast e=f at *
 simp only[j9,nK]at h1 h2;refine .rR (by omega) (e8 (d:=aR) λi g=>?_) ?_;have:=h2 i (by omega);rw[show oA (l++[f]) W i=1 from bQ (by rintro⟨_,h⟩;simp at h;omega),show(l++[f]).getD i aR=l.getD i aR by simp[zm,Tz g]]at this;exact this;have:=h2 l.length (by omega);rw[show oA (l++[f]) W l.length=0 from bD ⟨rfl,by simp⟩,show(l++[f]).getD l.length aR=f by simp[zm]]at this;exact this
theorem OX:gf c dd k ⟨6,1,vs,fs⟩↔fs=[]/\(vs.length:Int)=1/\∀v∈vs,cG c k v:=by
 constructor
 .intro h;generalize a:(1:Int)=s at h;cases h with
  |rR=>cases a
  |done h=>simp_all|dead h=>omega
 .rintro ⟨rfl,b,d⟩
  match vs,b with
  |[v],_=>exact .done (d v (by simp))
  |[],h=>simp at h|_::_::_,h=>grind
theorem OZ(b:s≠0)(h1:s≠1):gf c dd k ⟨6,s,vs,fs⟩↔(2<=s/\s<=4)/\fs=[]/\vs=[]:=by
 constructor
 .intro h;cases h with|rR=>omega|done=>omega|dead h=>grind
 rintro⟨a,rfl,rfl⟩
 exact .dead (by omega)
def O0:gf c dd k ⟨1,n,vs,fs⟩↔fs=[]/\(0<=n/\n<c.Cons.length)/\(vs.length:Int)=kY c n/\∀v∈vs,cG c k v:=by
 constructor
 .intro h;cases h with|data a b e f=>simp_all
 rintro⟨rfl,⟨a,b⟩,e,f⟩
 exact .data a b e f
def Oz:gf c dd k ⟨2,n,vs,fs⟩↔fs=[]/\qc c dd n/\(vs.length:Int)=(dW dd n).Env-1/\∀v∈vs,cG c k v:=by
 constructor
 .intro h;cases h with|func a e f=>simp_all
 rintro⟨rfl,a,e,f⟩
 exact .func a e f
theorem O5:gf c dd k ⟨3,n,vs,fs⟩↔fs=[]/\n=0/\(vs.length:Int)=1/\∀v∈vs,cG c k v:=by
 constructor
 .intro h;cases h with|cell h=>simp_all
 rintro⟨rfl,rfl,b,d⟩
 match vs,b with
 |[v],_=>exact .cell (d v (by simp))
 |[],h=>simp at h|_::_::_,h=>grind
theorem O4:gf c dd k ⟨4,n,vs,fs⟩↔fs=[]/\n=0/\(vs.length:Int)<=4/\∀v∈vs,cG c k v:=by
 constructor
 .intro h;cases h with|chan a b=>grind
 rintro⟨rfl,rfl,b,d⟩
 exact .chan (by omega) d
theorem Yj(h5:fo≠5)(h6:fo≠6)(h:gf c dd k ⟨fo,n,vs,fs⟩):fs=[]/\(fo=1\/fo=2\/fo=3\/fo=4):=by cases h with|data=>simp_all|func=>simp_all|cell=>simp_all|chan=>simp_all|AN=>omega|rR=>omega|done=>omega|dead=>omega
theorem gf.uu{o:bB}(h:gf c dd k o):∀v∈o.fP,cG c k v:=by cases h with|data _ _ _ h=>exact h|func _ _ h=>exact h|cell h=>simp_all|chan _ h=>exact h|AN=>simp_all|rR=>simp_all|done h=>simp_all|dead=>simp_all
theorem ass(b:Bd c dd w){x:Int}:eC (λn=>F119 n (⟨c,dd⟩,x,())) (qc c dd x):=by
 have g:=b.nl;have k:=b.dl;unfold F119;refine aX.loop c.dF.length (λi=>((i:Int),())) (λi=>¬((aW c (i:Int)).Op=6/\(dW dd (i:Int)).Reached=W/\(aW c (i:Int)).A=x)) (λ_=>.ret () (W,())) (λ_ _ h=>by cases h) (λi a _=>?_) (λn=>by simp(disch:=omega)only[aU]) (λh=>aX.no (λ⟨i,d,h1,h2⟩=>?_) dB) (λi a h=>aX.yes ⟨(i:Int),by omega,by omega,QO.1 h⟩ dB)
 .have e:c.dF.getD i bP=aW c (i:Int):=rfl;have f:dd.getD i aT=dW dd (i:Int):=rfl;simp(disch:=omega)only[aU,e,f];cases h1:aa (aW c (i:Int)).Op 6 with
  |false=>exact aX.yes (λh=>by rw[IY h.1]at h1;cases h1) (bF λn=>by simp(disch:=omega)only[aU,bZ,gG,gM])
  |true=>
  cases h2:(dW dd (i:Int)).Reached with
  |false=>exact aX.yes (λh=>by cases h.2.1) (bF λn=>by simp(disch:=omega)only[aU,bZ,gG,gM])
  |true=>
  cases h3:aa (aW c (i:Int)).A x with|false=>exact aX.yes (λh=>by rw[IY h.2.2]at h3;cases h3) (bF λn=>by simp(disch:=omega)only[aU,bZ,gG,gM])|true=>exact aX.no (λh=>h ⟨mQ.1 h1,rfl,mQ.1 h3⟩) dB
 obtain⟨j,rfl⟩:∃j:Nat,i=j:=⟨_,(Ay d).symm⟩
 grind
theorem Kf(b:Bd c dd w){x:Int}(h:qc c dd x):0<=x/\x<c.dF.length/\1<=(dW dd x).Env/\(dW dd x).Env<=31:=by
 obtain⟨i,a,h1,h2,h3,h4⟩:=h;obtain⟨lo,d,e⟩:=b.lo a h1 h3;have:=b.ok.dep.step i a h1 h3 (x,bY 0 ((dW dd i).Env+1)) (by simp[dO,h2,h4]);obtain⟨f,g,j⟩:=this;have k:=lo.e
 grind[bY]
structure SmO(o:bB):Prop where
 vals:o.fP.length<=1000
 frs:SmF o.Frames
theorem eT{α:Type}{l:L α}:aa (l.length:Int) 0=W↔l=[]:=by grind[mQ,List.eq_nil_of_length_eq_zero]
def e65(b:Bd c dd w){o:bB}(sm:SmO o):eC (λn=>F65 n (⟨c,dd⟩,w,o,())) (gf c dd w.aN.length o):=by
 have i:=b.cl;have j:=b.nl;have k:=b.dl;obtain⟨fo,s,vs,fs⟩:=o;obtain⟨e,f⟩:=sm;simp only at e f;have a:∀{P:Prop},¬P->eC (λn=>rL n) P:=λh=>aX.no h dB;unfold F65 aaQ;by_cases h5:fo=5;subst h5;refine aX.iff Oh.symm ?_;simp only[aU];refine aX.ai (λh1=>?_) (λh1=>a λh=>zA h1 h.1);refine aX.ai (λh2=>?_) (λh2=>a λh=>by rw[eT.2 h.2.1]at h2;cases h2);refine aX.ifP (alO b f) (λh3=>?_) (λh3=>a λh=>h3 h.2.2.1);have:=h3.1;refine aX.aO (by simp[aF];omega) (eC.of_eq (λn=>rfl) ?_);exact⟨λh=>⟨mQ.1 h1,eT.1 h2,h3,h⟩,λh=>h.2.2.2⟩;by_cases h6:fo=6;subst h6;simp(disch:=omega)only[aU];by_cases g:s=0;subst g;refine aX.iff Ox.symm ?_;simp only[aU];refine aX.ai (λh2=>?_) (λh2=>a λh=>by rw[eT.2 h.1]at h2;cases h2);exact aX.iff ⟨λh=>⟨eT.1 h2,h⟩,λh=>h.2⟩ (eC.tail (alO b f));by_cases h1:s=1;subst h1;refine aX.iff OX.symm ?_;simp(disch:=omega)only[aU];refine aX.ai (λh2=>?_) (λh2=>a λh=>by rw[eT.2 h.1]at h2;cases h2);exact aX.iff ⟨λh=>⟨eT.1 h2,h⟩,λh=>h.2⟩ (eC.tail (RJ b.fl b.wl e));refine aX.iff (OZ g h1).symm ?_;simp(disch:=omega)only[aU,e63];refine aX.ai (λh2=>?_) (λh2=>a λh=>by rw[gT.2 h.1]at h2;cases h2);refine aX.ai (λh3=>?_) (λh3=>a λh=>by rw[eT.2 h.2.1]at h3;cases h3);exact eC.of_eq (λn=>rfl) (eT.trans ⟨λh=>⟨gT.1 h2,eT.1 h3,h⟩,λh=>h.2.2⟩)
 simp(disch:=omega)only[aU];by_cases d:fs=[];rotate_left;have:¬fs.length=0:=λh=>d (Ek h);simp(disch:=omega)only[aU];exact a λh=>d (Yj h5 h6 h).1;subst d;simp(disch:=omega)only[aU,Jv,Int.natCast_zero];by_cases h1:fo=1;subst h1;refine aX.iff O0.symm ?_;simp(disch:=omega)only[aU,e63,cW];refine aX.ai (λh1=>?_) (λh1=>a λh=>by rw[gT.2 ⟨h.2.1.1,by omega⟩]at h1;cases h1);have l:=gT.1 h1;refine aX.aO (by simp[aF];omega) ?_;exact aX.iff ⟨λh=>⟨trivial,by omega,h⟩,λh=>h.2.2⟩ (eC.tail (RJ b.fl b.wl e));by_cases h2:fo=2;subst h2;refine aX.iff Oz.symm ?_;simp(disch:=omega)only[aU];refine aX.ifP (ass b) (λh1=>?_) (λh1=>a λh=>h1 h.2.1);obtain⟨m,p,q,r⟩:=Kf b h1;refine aX.aO (by simp[aF];omega) ?_;refine aX.iff ⟨λh=>⟨trivial,h1,h⟩,λh=>h.2.2⟩ (eC.tail (aX.congr (λn=>?_) (RJ (dd:=dd) b.fl b.wl e)));rw[show dd.getD s.toNat aT=dW dd s from rfl,cW (by omega) (by omega)];by_cases h3:fo=3;subst h3;refine aX.iff O5.symm ?_;simp(disch:=omega)only[aU];refine aX.ai (λh1=>?_) (λh1=>a λh=>zA h1 h.2.1);exact aX.iff ⟨λh=>⟨trivial,mQ.1 h1,h⟩,λh=>h.2.2⟩ (eC.tail (RJ b.fl b.wl e));by_cases h4:fo=4;subst h4;refine aX.iff O4.symm ?_;simp(disch:=omega)only[aU];refine aX.ai (λh1=>?_) (λh1=>a λh=>zA h1 h.2.1);refine aX.ai (λh2=>?_) (λh2=>a λh=>absurd h.2.2.1 (by have:=AR h2;omega))
 exact aX.iff ⟨λh=>⟨trivial,mQ.1 h1,AQ h2,h.2⟩,λh=>⟨rfl,h.2.2.2⟩⟩ (eC.tail (RJ b.fl b.wl e));simp(disch:=omega)only[aU];exact a λh=>by have:=(Yj h5 h6 h).2;omega
end
end
section
theorem EI:∀{T S:L Int},T.Nodup->(∀x∈T,x∈S)->T.length<=S.length
 |[],_,_,_=>FP _|t::T,S,a,h=>by
  have a:=Nz.1 a;have h1:=EI (S:=S.erase t) a.2 (λx b=>(List.mem_erase_of_ne (λe=>a.1 (by simp_all))).2 (h x (hJ _ b)))
  grind
theorem N5{l:L Int}:l.Nodup↔∀i,i<l.length->(l.take i).contains (l.getD i 0)=J:=by
 rw[List.Nodup,Vh];constructor
 grind[List.contains_iff_mem,List.getElem_of_mem,List.length_take,List.getElem?_eq_getElem,absurd]
 intro h i j c a b e;have:=h j a;rw[zm,iX a,NB,<-e]at this;have d:l[i]∈l.take j:=List.mem_take_iff_getElem.2 ⟨i,by omega,rfl⟩
 simp_all
section
variable {w:av}
structure EB(w:av):Prop where
 Hu:w.bI.Nodup
 task:∀t∈w.bI,0<=t/\t<w.aN.length/\(dh w t).Form=6
 all:∀i:Nat,i<w.aN.length->(dh w i).Form=6->(i:Int)∈w.bI
def BM(w:av):L Int:=((List.range w.aN.length).filter λi:Nat=>aa (dh w i).Form 6).map λi:Nat=>(i:Int)
theorem qV{x:Int}:x∈BM w↔0<=x/\x<w.aN.length/\(dh w x).Form=6:=by
 unfold BM;simp only[ym,List.mem_filter,List.mem_range,mQ];constructor
 grind
 rintro⟨h1,h2,h3⟩
 obtain⟨i,rfl⟩:∃i:Nat,x=i:=⟨_,(Ay h1).symm⟩
 grind
theorem Fi:(BM w).Nodup:=by
 grind[BM,List.nodup_range]
theorem Xi:(BM w).length=w.aN.countP λo=>aa o.Form 6:=by
 unfold BM;rw[QU,<-List.countP_eq_length_filter];have e:w.aN=(List.range w.aN.length).map λi:Nat=>dh w (i:Int):=by
  apply List.ext_getElem;simp
  grind[h1,h2,dh,List.getElem?_eq_getElem]
 conv=>rhs;rw[e,List.countP_map]
 rfl
theorem EB.len(h:EB w):w.bI.length=(BM w).length:=Nat.le_antisymm (EI h.Hu λx a=>qV.2 (h.task x a)) (EI Fi λx a=>by
 obtain⟨h1,h2,h3⟩:=qV.1 a;obtain⟨i,rfl⟩:∃i:Nat,x=i:=⟨_,(Ay h1).symm⟩;exact h.all i (by omega) h3)
theorem EB.af1(h1:w.bI.Nodup)(h2:∀t∈w.bI,0<=t/\t<w.aN.length/\(dh w t).Form=6)(h3:w.bI.length=(BM w).length):EB w:=by
 refine⟨h1,h2,λi c d=>XD λb=>?_⟩;have:=EI (T:=(i:Int)::w.bI) (S:=BM w) (Nz.2 ⟨b,h1⟩) (λx a=>by
  obtain rfl|a:=fV.1 a
  grind[qV]
  exact qV.2 (h2 x a))
 grind
theorem EB.tl(h:EB w):w.bI.length<=w.aN.length:=by
 rw[h.len]
 grind[BM,List.length_map,Nat.le_trans,List.length_filter_le]
def Xf(w:av)(i:Nat):Bool:=JS (w.bI.getD i 0) 0 (w.aN.length-1)&&(aa (dh w (w.bI.getD i 0)).Form 6&&!(w.bI.take i).contains (w.bI.getD i 0))
theorem Af:(∀i,i<w.bI.length->Xf w i=W)↔w.bI.Nodup/\∀t∈w.bI,0<=t/\t<w.aN.length/\(dh w t).Form=6:=by
 rw[N5];unfold Xf;simp only[eW,gT,mQ,NC];constructor;intro h;exact⟨λi a=>(h i a).2.2,e8 (d:=0) λi a=>⟨(h i a).1.1,by grind,(h i a).2.1⟩⟩
 grind
def ast{l:L Int}{x:Int}(hl:l.length<=1000):Ev (λn=>F116 n (l,x,())) ((l.contains x,()),()):=by
 unfold F116;refine Ev.all (l:=l) 0 (λa=>!(aa a x)) (λ_=>.ret () (W,())) (λ_ _ h=>by cases h) (λi d=>bF λn=>?_) (λn=>by simp(disch:=omega)only[aU]) (λb=>?_) (λi d b=>?_);simp(disch:=omega)only[aU];cases aa (l.getD i 0) x<;>simp(disch:=omega)only[aU,bZ,gG,gM,IL,Lc];rw[show l.contains x=J from ?_];exact dB
 .cases c:l.contains x with|false=>rfl|true=>have:=kP.1 b x (abT.1 c);rw[IY rfl]at this;cases this
 rw[show l.contains x=W from ?_];exact dB;rw[List.all_eq_false]at b;obtain⟨a,e,h⟩:=b;rw[abT];have:aa a x=W:=by cases c:aa a x with|true=>rfl|false=>rw[c]at h;exact absurd rfl h
 rw[<-mQ.1 this];exact e
theorem e64(q:w.aN.length<=1000)(r:w.bI.length<=1000):∃b,Ev (λn=>F64 n (w,())) ((b,()),())/\(b=W↔EB w):=by
 have a:∀i,i<w.aN.length->(w.aN.take (i+1)).countP (λo=>aa o.Form 6)=(w.aN.take i).countP (λo=>aa o.Form 6)+(bif aa (w.aN.getD i bw).Form 6 then 1 else 0):=by intro i d;rw[aeu d,List.countP_append,List.countP_singleton];rw[zm,iX d,NB,Bool.cond_eq_ite]
 have run:=kA (F:=λn(c:Int×Int×U)=>ai (aD c.2.1 (ak w.aN)) (aO (aF c.2.1 w.aN) (ai (aa (bh w.aN (ax c.2.1) bw).Form 6) (Z (N (R:=Bool×U) (B:=U) (P:=Any) (aG .i64 c.1 1,aG .i64 c.2.1 1,()))) (Z (N (c.1,aG .i64 c.2.1 1,()))))) (Z (H 0 c)))
  w.aN.length (λi=>((((w.aN.take i).countP λo=>aa o.Form 6:Nat):Int),(i:Int),())) 0 (λi d=>bF λn=>by
   have h1:=List.countP_le_length (p:=λo:bB=>aa o.Form 6) (l:=w.aN.take i);rw[Le]at h1;simp only[a i d];cases m:aa (w.aN.getD i bw).Form 6<;>simp(disch:=omega)only[aU,m,bZ,gG,gM,Int.natCast_zero,FT,Nat.add_zero]) (bF λn=>by simp(disch:=omega)only[aU])
 simp only[List.take_zero,List.countP_nil,QN,<-Xi]at run;by_cases f:w.bI.length=(BM w).length;have g:∀{b:Bool},(b=W↔∀i,i<w.bI.length->Xf w i=W)->(b=W↔EB w):=λ{b}h=>h.trans ⟨λh=>EB.af1 (Af.1 h).1 (Af.1 h).2 f,λh=>Af.2 ⟨h.Hu,h.task⟩⟩;have step:∀b:Bool,((∀i,i<w.bI.length->Xf w i=W)->b=W)->((∃i,i<w.bI.length/\Xf w i=J)->b=J)->Ev (λn=>F64 n (w,())) ((b,()),()):=by
  intro b j k;unfold F64;refine Ev.bz run (λn c=>_) _ (Ev.v5 (λn=>me ..) ?_);rw[<-f];simp only[aU];refine Ev.allI w.bI.length (λi=>((i:Int),())) (Xf w) (λ_=>.ret () (J,())) (λ_ _ h=>by cases h) (λi d _=>?_) (λn=>by simp(disch:=omega)only[aU]) (λe=>?_) (λi d e=>?_)
  .unfold Xf Qc;simp(disch:=omega)only[aU,e63,cW];cases h1:JS (w.bI.getD i 0) 0 ((w.aN.length:Int)-1)with
   |false=>simp_all[aU,pO,Ev.pure]|true=>
    have s:=gT.1 h1;simp(disch:=omega)only[aU,qL];rw[show w.aN.getD (w.bI.getD i 0).toNat bw=dh w (w.bI.getD i 0)from rfl];cases aa (dh w (w.bI.getD i 0)).Form 6 with|false=>simp_all[aU,pO,Ev.pure]|true=>simp only[aU,qL,xG];refine Ev.ah (ast (by grind)) (bF λn=>?_);cases(w.bI.take i).contains (w.bI.getD i 0)<;>simp(disch:=omega)only[aU,bZ,gG,gM,IL,Lc]
  rw[j e];exact dB;rw[k ⟨i,d,e⟩];exact dB
 by_cases e:∀i,i<w.bI.length->Xf w i=W
 simp_all
 exact⟨J,step J (λh=>absurd h e) (λ_=>rfl),g ⟨(λh=>by cases h),λh=>absurd h e⟩⟩;unfold F64;refine⟨J,Ev.bz run (λn c=>_) _ (bF λn=>?_),(λh=>by cases h),λh=>absurd h.len f⟩;rw[me];simp(disch:=omega)only[aU]
end
end
section
section
variable {w:av}{c:aA}{dd:List au}{mm:List (Int×Bool)}
abbrev WX(x:Int)(l:L (Int×Bool)):Bool:=EV (A:=sg.A) (Ty.int .i64) J x l
abbrev Rf(x:Int)(l:L (Int×Bool)):L (Int×Bool):=iV (A:=sg.A) (Ty.int .i64) x W l
abbrev alQ(x:Int)(l:L (Int×Bool)):L (Int×Bool):=LW (A:=sg.A) (Ty.int .i64) x l
def YA(x k:Int):∀l:L (Int×Bool),WX x (Rf k l)=(aa x k||WX x l)
 |[]=>by show(bif aa x k then W else J)=(aa x k||J);cases aa x k<;>rfl
 |q::l=>by
  have a:=YA x k l;show WX x (bif aa k q.1 then(k,W)::l else q::Rf k l)=(aa x k||(bif aa x q.1 then q.2 else WX x l));cases h1:aa k q.1 with
  |true=>have h1:=mQ.1 h1;show(bif aa x k then W else WX x l)=_;rw[<-h1];cases aa x k<;>rfl
  |false=>
   show(bif aa x q.1 then q.2 else WX x (Rf k l))=_;rw[a];cases h2:aa x q.1 with|false=>rfl|true=>rw[mQ.1 h2,show aa q.1 k=J from vZ λe=>by rw[e,IY rfl]at h1;cases h1];rfl
def tg(l:L Int):L (Int×Bool):=l.map λx=>(x,W)
def aeC(x:Int):∀l,WX x (tg l)=l.contains x
 |[]=>rfl|a::l=>by show(bif aa x a then W else WX x (tg l))=_;rw[aeC x l,List.contains_cons];rfl
def YT{x:Int}:∀{l:L Int},x∉l->Rf x (tg l)=tg (l++[x])
 |[],_=>rfl|a::l,h=>by have h1:x≠a:=λe=>h (by simp_all);show(bif aa x a then(x,W)::tg l else(a,W)::Rf x (tg l))=_;rw[vZ h1,j7,YT λb=>h (hJ _ b)];rfl
theorem ZX{x:Int}:∀{l:L Int},alQ x (tg l)=tg (l.erase x)
 |[]=>rfl|a::l=>by show(bif aa x a then tg l else(a,W)::alQ x (tg l))=_;rw[ZX,List.erase_cons];by_cases h:x=a;rw[IY h,bD (by simp[h])];rfl;rw[vZ h,bQ (by grind)];rfl
def Ah(w:av)(i:Nat):L Int:=((List.range i).filter λi:Nat=>aa (dh w i).Form 6).map λi:Nat=>(i:Int)
def Qs(i:Nat):Ah w (i+1)=bif aa (dh w (i:Int)).Form 6 then Ah w i++[(i:Int)]else Ah w i:=by unfold Ah;rw[List.range_succ,List.filter_append];cases h:aa (dh w (i:Int)).Form 6<;>simp[h]
theorem UP{i:Nat}{x:Int}(h:x∈Ah w i):x<i:=by
 unfold Ah at h
 grind
def pz(w:av):Nat->L Int
 |0=>BM w|i+1=>(pz w i).erase (w.bI.getD i 0)
def Dj:∀i,(pz w i).Nodup
 |0=>Fi|i+1=>(Dj i).erase _
theorem xJ{x:Int}:∀i,i<=w.bI.length->(x∈pz w i↔x∈BM w/\x∉w.bI.take i)
 |0,_=>by simp[pz]
 |i+1,h=>by
  have a:=xJ (x:=x) i (by omega);show x∈(pz w i).erase _↔_;rw[(Dj i).mem_erase_iff,a,aeu (by omega),zm,iX (by omega),NB]
  grind
theorem M6{i:Nat}(h:i<w.bI.length):Xf w i=W↔w.bI.getD i 0∈pz w i:=by
 rw[xJ i (by omega),qV];unfold Xf;simp only[eW,gT,mQ,NC]
 grind
theorem asj(s:w.aN.length<=1000)(t:w.bI.length<=1000):eC (λn=>F167 n (⟨w,c,dd,mm⟩,())) (EB w):=by
 refine aX.asL (Ev.iter (F:=λn c=>_) (kA w.aN.length (λi=>((i:Int),tg (Ah w i),())) 0 (λi f=>bF λn=>?_) (bF λn=>by simp(disch:=omega)only[aU]))) ?_
 .have k:bh w.aN (ax (i:Int)) bw=dh w (i:Int):=rfl;rw[Qs];simp only[k];cases h1:aa (dh w (i:Int)).Form 6 with
  |false=>simp(disch:=omega)only[aU,h1,bZ,gG,gM]|true=>
   have f:iV (A:=sg.A) (Ty.int .i64) (i:Int) W (tg (Ah w i))=tg (Ah w i++[(i:Int)]):=YT λh=>by have:=UP h;omega
   simp(disch:=omega)only[aU,h1,f,bZ,gG,gM]
 refine aX.congr (λn=>me ..) ?_;refine aX.loop w.bI.length (λi=>((i:Int),tg (pz w i),())) (λi=>Xf w i=W) (λi=>.ret (tg (pz w i),()) (J,())) (λ_ _ h=>by cases h) (λi f _=>?_) (λn=>by simp(disch:=omega)only[aU]) (λh=>?_) (λi f h=>aX.no (λg=>h (Af.2 ⟨g.Hu,g.task⟩ i f)) dB)
 .have l:EV (A:=sg.A) (Ty.int .i64) J (w.bI.getD i 0) (tg (pz w i))=(pz w i).contains (w.bI.getD i 0):=aeC _ _;have m:LW (A:=sg.A) (Ty.int .i64) (w.bI.getD i 0) (tg (pz w i))=tg (pz w (i+1)):=ZX;simp(disch:=omega)only[aU,l,m,bZ,gG,gM];cases h:(pz w i).contains (w.bI.getD i 0)with|true=>exact aX.yes ((M6 f).2 (abT.1 h)) dB|false=>exact aX.no (λg=>by grind[List.contains_iff_mem,M6]) dB
 obtain⟨o,p⟩:=Af.1 h;refine eC.of_eq (λn=>rfl) ?_;rw[mQ];have e:ak (tg (pz w w.bI.length))=((pz w w.bI.length).length:Int):=by unfold tg ak;rw[QU]
 rw[e];constructor;intro j;refine⟨o,p,λi f q=>XD λu=>?_⟩;have:=(xJ (w:=w) (x:=(i:Int)) w.bI.length (eO _)).2 ⟨qV.2 ⟨by omega,by omega,q⟩,by simp_all⟩
 simp_all
 intro j;have:pz w w.bI.length=[]:=by rw[List.eq_nil_iff_forall_not_mem];intro x r;have:=(xJ (w:=w) (x:=x) w.bI.length (eO _)).1 r;rw[QN]at this;obtain⟨a,b,d⟩:=qV.1 this.1;obtain⟨i,rfl⟩:∃i:Nat,x=i:=⟨_,(Ay a).symm⟩;exact this.2 (j.all i (by omega) d)
 rw[this];rfl
end
end
end Mn
end
end
