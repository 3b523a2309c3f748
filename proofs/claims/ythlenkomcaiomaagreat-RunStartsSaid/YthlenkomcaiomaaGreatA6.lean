import Derived.Test.YthlenkomcaiomaaGreatRows
import Derived.WalkKit
import Derived.ProofKit
import Derived.OpenShut
import Derived.KernelRfl
import Derived.Test.YthlenkomcaiomaaGreatA5
set_option linter.all false
set_option maxRecDepth 100000
set_option maxHeartbeats 0
noncomputable section
open Option renaming some->Z,none->Y
open Bool renaming true->W,false->J
open Nat renaming beq->Nq,ble->Nl,blt->Nt,succ->Ns,add->Na
open TL.LO renaming next->N,ret->X,out->H
open TL.Rx renaming ok->G,iJ->M
section
namespace Mn
open Go TL
section
def abi(k l:L UInt8):FW (A:=sg.A) Ty.str k l=decide (k=l):=by show gC k l=_;by_cases h:k=l<;>simp[gC,h]
def SF{k:L UInt8}:∀m:L (L UInt8×Bool),(∀q∈m,q.2=W)->HV (A:=sg.A) Ty.str J k m=decide (k∈m.map Prod.fst)
 |[],_=>by simp[HV]
 |q::m,h=>by
  unfold HV;rw[abi];by_cases a:k=q.1
  .simp_all
  .rw[jl a];simp only[j9];rw[SF m λx b=>h x (ic _ b)];simp[a]
theorem Ny{k:L UInt8}:∀m:L (L UInt8×Bool),(∀q∈m,q.2=W)->∀q∈jL (A:=sg.A) Ty.str k W m,q.2=W
 |[],_,q,a=>by unfold jL at a;rw[rL.1 a]
 |x::m,h,q,a=>by
  unfold jL at a;cases b:FW (A:=sg.A) Ty.str k x.1 with
  |true=>
   grind
  |false=>
   rw[b]at a;simp only[j9]at a;obtain a|a:=ga.1 a
   .simp_all
   .exact Ny m (λy c=>h y (ic _ c)) q a
theorem Nz{k:L UInt8}:∀m:L (L UInt8×Bool),((jL (A:=sg.A) Ty.str k W m).map Prod.fst)=if k∈m.map Prod.fst then m.map Prod.fst else m.map Prod.fst++[k]
 |[]=>by simp[jL]
 |q::m=>by
  have a:FW (A:=sg.A) Ty.str k q.1=decide (k=q.1):=by show gC k q.1=_;by_cases h:k=q.1<;>simp[gC,h]
  unfold jL;rw[a];by_cases h:k=q.1
  .simp_all
  .rw[jl h];simp only[j9,pz];rw[Nz m]
   grind
structure Lv(l:List (List UInt8))(i:Nat)(m:List (List UInt8×Bool)):Prop where
 mem:∀x,x∈m.map Prod.fst↔x∈l.take i
 le:m.length<=i
 eq:m.length=i↔(l.take i).Nodup
theorem Lv.step{l:L (L UInt8)}{i:Nat}{m:L (L UInt8×Bool)}(h:Lv l i m)(hi:i<l.length):Lv l (i+1) (jL (A:=sg.A) Ty.str (l.getD i []) W m):=by
 have d:=Nz (k:=l.getD i []) m;have a:(jL (A:=sg.A) Ty.str (l.getD i []) W m).length=if l.getD i []∈m.map Prod.fst then m.length else m.length+1:=by have:=cU List.length d;rw[M4]at this;rw[this];split<;>simp
 have e:=qI ([]:L UInt8) hi;refine⟨λx=>?_,?_,?_⟩
 .rw[d,<-take_succ [] hi,eZ,rL];split
  .rename_i c;rw[h.mem];exact⟨.inl,λb=>b.elim id λb=>by rw[b];exact(h.mem _).1 c⟩
  .rw[eZ,rL,h.mem]
 .rw[a];have:=h.le;split<;>omega
 .rw[a,e];have:=h.le;by_cases c:l.getD i []∈m.map Prod.fst
  .rw[bB c];exact⟨λb=>by omega,λb=>absurd ((h.mem _).1 c) b.2⟩
  .rw[bO c];have f:l.getD i []∉l.take i:=λb=>c ((h.mem _).2 b);rw[<-h.eq]
   simp_all
theorem aqJ{l:L cw}(hl:l.length<=1000):∃b,Ev (λn=>F224 n (l,())) ((b,()),())∧(b=W↔(∀c∈l,Lf c=W)∧l.length<=20∧(l.map cw.Name).Nodup):=by
 unfold F224 LD;by_cases k:l.length<=20
 .let g:Nat->L (L UInt8×Bool):=λi=>Nat.rec [] (λi m=>jL (A:=sg.A) Ty.str (l.getD i aY).Name W m) i
  have t:∀i,i<l.length->(l.map cw.Name).getD i []=(l.getD i aY).Name:=λi j=>by
   simp_all
  have s:∀i,i<=l.length->Lv (l.map cw.Name) i (g i)∧∀q∈g i,q.2=W:=by
   intro i
   induction i with
   |zero=>intro _;rw[show g 0=[]from rfl];exact⟨⟨by simp,by simp,by simp⟩,λq u=>by cases u⟩
   |succ i o=>
    intro j;obtain⟨h1,h2⟩:=o (by omega);refine⟨?_,Ny (g i) h2⟩;have:=h1.step (by grind)
    grind
  have p:∀i,i<l.length->HV (A:=sg.A) Ty.str J (l.getD i aY).Name (g i)=decide ((l.getD i aY).Name∈(l.map cw.Name).take i):=λi j=>by rw[SF (g i) (s i (by omega)).2];exact decide_eq_decide.2 ((s i (by omega)).1.mem _)
  rcases qg (F:=λn(c:Int×L (L UInt8×Bool)×U)=>aj (aE c.1 (aq l)) (aO (aI c.1 l) (ah (F284 n ((bn l (az c.1) aY).1,())) λd=>aj d.1.1 (ah (F223 n ((bn l (az c.1) aY).2,0,3,())) λe=>aj e.1.1 (aj (au (au (HV (A:=sg.A) Ty.str J (bn l (az c.1) aY).1 c.2.1))) (Z (X (jL (A:=sg.A) Ty.str (bn l (az c.1) aY).1 W c.2.1,()) (c.1,()))) (Z (N (aG .i64 c.1 1,jL (A:=sg.A) Ty.str (bn l (az c.1) aY).1 W c.2.1,())))) (Z (X (jL (A:=sg.A) Ty.str (bn l (az c.1) aY).1 W c.2.1,()) (c.1,())))) (Z (X (jL (A:=sg.A) Ty.str (bn l (az c.1) aY).1 W c.2.1,()) (c.1,())))))
   (Z (H 0 c)))
   l.length (λi=>((i:Int),g i,())) (λi=>Lf (l.getD i aY)&&!decide ((l.getD i aY).Name∈(l.map cw.Name).take i)) (λi=>(X (g (i+1),()) ((i:Int),()):LO (Int×L (L UInt8×Bool)×U) (Int×U) (L (L UInt8×Bool)×U) Any)) 0 (λ_ _ h=>by cases h) (λi j _=>by
    simp(disch:=omega)only[aT];refine Ev.ah (aqD _) ?_;unfold Lf;cases zp (l.getD i aY).Name with
    |false=>exact fc|true=>
     refine bG λn=>?_;simp(disch:=omega)only[aT,rm,p i j,ct];cases decide (0<=(l.getD i aY).lg∧(l.getD i aY).lg<=3)<;>cases decide ((l.getD i aY).Name∈(l.map cw.Name).take i)<;>rfl) (λ_=>bG λn=>by simp(disch:=omega)only[aT]<;>rfl)with⟨a,r⟩|⟨i,j,a,_,r⟩
  .refine ⟨W,?_,λ_=>⟨?_,k,?_⟩,λ_=>rfl⟩
   .have:br (aq l) 20=W:=kO (show(l.length:Int)<=20 by omega);simp only[this,RV];refine Ev.bw r _ _ (bG λn=>?_);rfl
   .exact iB (d:=aY) λi j=>by simp_all
   .have key:∀i,i<=l.length->((l.map cw.Name).take i).Nodup:=by
     intro i
     induction i with
     |zero=>intro _;simp
     |succ i o=>
      intro j;refine(qI [] (by grind)).2 ⟨o (by omega),?_⟩
      grind
    have:=key l.length (eR _);rwa [<-M4 (f:=cw.Name),MY]at this
  .refine ⟨J,?_,(λh=>by cases h),λh=>?_⟩
   .have:br (aq l) 20=W:=kO (show(l.length:Int)<=20 by omega);simp only[this,RV];refine Ev.bw r _ _ (bG λn=>?_);rfl
   .rw[h.1 _ (bV aY j),sr]at a;have nd:=(List.take_sublist (i+1) _).nodup h.2.2
    grind[qI,List.length_map,decide_eq_false]
 .refine ⟨J,bG λn=>?_,(λh=>by cases h),λh=>absurd h.2.1 k⟩;rw[show br (aq l) 20=J from jl (show ¬(l.length:Int)<=20 by omega)];rfl
end
section
section
variable {c:aA}
structure CF(c:aA):Prop where
 ins:1<=c.dL.length∧c.dL.length<=1500
 pl:c.eC.length<=100
 cons:∀k∈c.Cons,Lf k=W
 SY:c.Cons.length<=20
 names:(c.Cons.map cw.Name).Nodup
 fl:1<=c.cX.length∧c.cX.length<=300
 main:0<=c.Main∧c.Main<c.cX.length
 pats:∀q∈c.eC,pw q<=12∧pG c.Cons q=W
 qV:∀f∈c.cX,0<=f∧f<c.dL.length
 all:∀i∈c.dL,wz c i=W
mutual
theorem aez{cons:L cw}:∀q:aB,pG cons q=W->tw cons q
 |⟨b,n,text,parts⟩,h=>by
  unfold pG aaT at h;unfold tw;simp only[fF,qE]at h;obtain⟨⟨h1,h2⟩,h3⟩:=h;have h4:=zzB parts h2;split at h3
  .simp_all
  grind
theorem zzB{cons:L cw}:∀qs:L aB,rQ cons qs=true->oN cons qs
 |[],_=>trivial|q::qs,h=>by unfold rQ at h;simp at h;exact⟨aez q h.1,zzB qs h.2⟩
end
theorem CF.ok(h:CF c):Bu c:=by
 refine⟨h.ins,λi b=>?_,λq a=>⟨aez q (h.pats q a).2,(h.pats q a).1⟩,h.pl,h.qV,h.fl,h.main,λk d=>?_⟩
 .have:=h.all i b;unfold wz LU at this;simp only[fF,qE]at this;obtain⟨⟨h1,h2⟩,h3,h4⟩:=this;unfold fB at h4;unfold fA at h3;refine⟨h1,h2,λk=>?_,λk=>?_,λk=>?_,λk=>?_,λk=>?_,λk=>?_,λk=>?_,λk=>?_,λk=>?_⟩<;>simp[k]at h3 h4<;>first|omega|(simp[jD];omega)|grind
 .have:=h.cons k d
  simp_all[Lf,fF,qE]
end
end
section
section
variable {c:aA}
def afZ(hs:Small c):Ev (λn=>LG n (c,())) ((bif (c.eC.all λq=>decide (pw q<=12)&&pG c.Cons q)&&c.dL.all (wz c)then 0 else 2,()),()):=by
 have h1:=hs.pl;have h2:=hs.cl;have e:∀(i:Nat)(y:Int×U),(X () ((i:Int),()):LO (Int×U) (Int×U) U Any)≠.next y:=λ_ _ h=>by cases h
 unfold LG u6;simp only[NX];rcases iP (F:=λn(k:Int×U)=>aj (aE k.1 (aq c.2)) (aO (aI k.1 c.2) (ah (F228 n (bn c.2 (az k.1) aK,12,())) λl=>aj (br 0 l.1.1) (ah (F229 n (bn c.2 (az k.1) aK,c.5,())) λm=>aj (au m.1.1) (Z (X () k)) (Z (N (aG .i64 k.1 1,())))) (Z (X () k)))) (Z (H 0 k)))
  c.eC.length (λi=>decide (pw (c.eC.getD i aK)<=12)&&pG c.Cons (c.eC.getD i aK)) (λi=>(X () ((i:Int),()):LO (Int×U) (Int×U) U Any)) e
  (λi b=>by
   have f:=hs.pats _ (bV aK b);simp(disch:=omega)only[aT];refine Ev.ah (aqI (c.eC.getD i aK) (by omega) (by omega)) ?_;by_cases h:pw (c.eC.getD i aK)<=12
   .rw[ou (left:=12) (k:=pw (c.eC.getD i aK)) (by omega),kO h,sr];simp(disch:=omega)only[aT];refine Ev.ah (W3 (by omega) (c.eC.getD i aK) (by omega) 0) (bG λn=>?_);cases pG c.Cons (c.eC.getD i aK)<;>simp(disch:=omega)only[aT,ct,iV,iX]
   .rw[qQ (left:=12) (k:=pw (c.eC.getD i aK)) (by omega),jl h,rK]
    simp_all[bG,aT]) (λn=>by simp(disch:=omega)only[aT]<;>rfl)with⟨a,r⟩|⟨i,b,a,r⟩
 .rw[Bb (d:=aK) a,sr];refine Ev.bw r _ _ ?_;exact af0 hs
 .rw[pK (d:=aK) b a,rK];refine Ev.bw r _ _ (bG λn=>?_);rfl
end
end
section
section
variable {c:aA}
def Jd{F:Nat->O ((Int×U)×U)}(hn:¬CF c)(h:Ev F ((2,()),())):∃r:Int,Ev F ((r,()),())∧(r=0∨r=2)∧(r=0↔CF c):=
 ⟨2,h,.inr rfl,(λh=>by cases h),λh=>absurd h hn⟩
theorem aqM(hs:Small c):∃r:Int,Ev (λn=>F147 n (c,())) ((r,()),())∧(r=0∨r=2)∧(r=0↔CF c):=by
 have h1:=hs.ins;have h2:=hs.qV;have h3:=hs.cl;unfold F147 nX;by_cases j:¬(1<=c.dL.length∧c.dL.length<=1500)
 .exact Jd (λh=>j h.ins) (bG λn=>by simp only[aT,rm,jl (show ¬((1:Int)<=(c.dL.length:Int)∧(c.dL.length:Int)<=1500)by omega)]<;>rfl)
 have j:=T2.1 j;have d1:=kO (show(1:Int)<=(c.dL.length:Int)∧(c.dL.length:Int)<=1500 by omega);by_cases z:100<c.eC.length
 .exact Jd (λh=>by have:=h.pl;omega) (bG λn=>by simp(disch:=omega)only[aT,rm,d1]<;>rfl)
 obtain⟨b,e,g⟩:=aqJ (l:=c.Cons) (by omega);simp(disch:=omega)only[aT,rm,d1];cases b with
 |false=>exact Jd (λh=>by have:=g.2 ⟨h.cons,h.SY,h.names⟩;cases this) (Ev.ah e fc)
 |true=>
  obtain⟨t,u,v⟩:=g.1 rfl;by_cases k:¬(1<=c.cX.length∧c.cX.length<=300)
  .exact Jd (λh=>k h.fl) (Ev.ah e (bG λn=>by simp only[aT,rm,jl (show ¬((1:Int)<=(c.cX.length:Int)∧(c.cX.length:Int)<=300)by omega)]<;>rfl))
  have k:=T2.1 k;have d3:=kO (show(1:Int)<=(c.cX.length:Int)∧(c.cX.length:Int)<=300 by omega);by_cases m:¬(0<=c.Main∧c.Main<c.cX.length)
  .exact Jd (λh=>m h.main) (Ev.ah e (bG λn=>by simp(disch:=omega)only[aT,rm,d3,dh,jl (show ¬((0:Int)<=c.Main∧c.Main<=(c.cX.length:Int)-1)by omega)]<;>rfl))
  have m:=T2.1 m;have d4:=kO (show(0:Int)<=c.Main∧c.Main<=(c.cX.length:Int)-1 by omega);have w:∀(i:Nat)(y:Int×U),(X () ((i:Int),()):LO (Int×U) (Int×U) U Any)≠.next y:=λ_ _ h=>by cases h
  have o:=afZ hs;rcases iP (F:=λn(h:Int×U)=>aj (aE h.1 (c.cX.length:Int)) (aO (aI h.1 c.cX) (aj (decide (0<=c.cX.getD h.1.toNat 0∧c.cX.getD h.1.toNat 0<=bf .i64 (c.dL.length:Int) 1)) (Z (N (aG .i64 h.1 1,()))) (Z (X () h)))) (Z (H 0 h)))
   c.cX.length (λi=>decide (0<=c.cX.getD i 0∧c.cX.getD i 0<=(c.dL.length:Int)-1)) (λi=>(X () ((i:Int),()):LO (Int×U) (Int×U) U Any)) w
   (λi p=>bG λn=>by
    simp(disch:=omega)only[aT,dh];cases decide (0<=c.cX.getD i 0∧c.cX.getD i 0<=(c.dL.length:Int)-1)<;>simp(disch:=omega)only[aT,ct,iV,iX]) (λn=>by simp(disch:=omega)only[aT]<;>rfl)with⟨a,r⟩|⟨i,p,a,r⟩
  .have x:∀f∈c.cX,0<=f∧f<c.dL.length:=iB (d:=(0:Int)) λi p=>by grind
   have goal:∀r:Int,r=(bif (c.eC.all λq=>decide (pw q<=12)&&pG c.Cons q)&&c.dL.all (wz c)then 0 else 2)->(r=0∨r=2)∧(r=0↔CF c):=by
    intro r A;have s:((c.eC.all λq=>decide (pw q<=12)&&pG c.Cons q)&&c.dL.all (wz c))=W↔CF c:=by simp only[fF,lB,qE];exact⟨λh=>⟨j,by omega,t,u,v,k,m,h.1,x,h.2⟩,λh=>⟨h.pats,h.all⟩⟩
    grind
   refine⟨_,?_,goal _ rfl⟩;refine Ev.ah e ?_;simp only[rm,d3,d4,aT,dh (show -9223372036854775808<=(c.cX.length:Int)-1 by omega) (show(c.cX.length:Int)-1<=9223372036854775807 by omega)];refine Ev.bw r _ _ ?_;exact o
  .refine Jd (λh=>?_) (Ev.ah e ?_)
   .have:=h.qV _ (bV (0:Int) p)
    grind
   .simp only[rm,d3,d4,aT,dh (show -9223372036854775808<=(c.cX.length:Int)-1 by omega) (show(c.cX.length:Int)-1<=9223372036854775807 by omega)];refine Ev.bw r _ _ (bG λn=>?_);rfl
end
end
section
section
variable {α β R B P:Type}
def Ev.all{l:L α}(d:α)(q:α->Bool)(bad:Nat->LO (Int×U) R B P){F:Nat->Int×U->O (LO (Int×U) R B P)}{g:Nat->LO (Int×U) R B P->O β}{r:β}
  (e:∀i y,bad i≠.next y)
  (hs:∀i,i<l.length->Ev (λn=>F n ((i:Int),())) (bif q (l.getD i d)then .next (((i+1:Nat):Int),())else bad i))
  (f:∀n,F n ((l.length:Int),())=Z (.out 0 ((l.length:Int),())))
  (h1:l.all q=W->Ev (λn=>g n (.out 0 ((l.length:Int),()))) r) (h2:∀i,i<l.length->l.all q=J->Ev (λn=>g n (bad i)) r) :
  Ev (λn=>ah (iter (F n) n (0,())) (g n)) r:=by
 obtain⟨a,b⟩|⟨i,c,a,b⟩:=iP l.length (λi=>q (l.getD i d)) bad e hs f
 .exact Ev.bw b g _ (h1 (Bb (d:=d) a))
 .exact Ev.bw b g _ (h2 i c (pK (d:=d) c a))
def amP(i:Nat):au (br 0 (i:Int))=J:=by rfl
def inR(a lo hi:Int):Bool:=decide (lo<=a)&&decide (a<=hi)
theorem AA{a lo hi:Int}:inR a lo hi=W↔lo<=a∧a<=hi:=by simp[inR]
theorem ae4{a b:Int}(h:br a b=W):a<=b:=by simpa[br]using h
def ae5{a b:Int}(h:br a b=J):b<a:=by simpa[br]using h
end
def fu{α:Type}(F:Nat->O α)(P:Prop)(x y:α):Prop:=(P∧Ev F x)∨(¬P∧Ev F y)
abbrev FB:=Nat->O ((Bool×U)×U)
abbrev OH(F:FB)(P:Prop):Prop:=fu F P ((W,()),()) ((J,()),())
section
variable {α:Type}{F G f g:Nat->Option α}{x y:α}{P Q:Prop}
def fu.no(hn:¬P)(h:Ev F y):fu F P x y:=.inr ⟨hn,h⟩
def fu.yes(a:P)(h:Ev F x):fu F P x y:=.inl ⟨a,h⟩
def fu.iff(e:P↔Q)(h:fu F P x y):fu F Q x y:=by
 simp_all
theorem fu.aj{b:Bool}(h1:b=W->fu f P x y)(h2:b=J->fu g P x y):fu (λn=>TL.aj b (f n) (g n)) P x y:=by
 cases b
 .exact h2 rfl
 .exact h1 rfl
def OH.mk{F:FB}{b:Bool}(h:Ev F ((b,()),()))(e:b=W↔P):OH F P:=by
 cases b
 .exact .inr ⟨(λh=>by simp_all),h⟩
 .exact .inl ⟨e.1 rfl,h⟩
end
section
variable {α β R B P:Type}{Q:Prop}{Pa:α->Prop}{x y:β}
def fu.loop{X:Type}(len:Nat)(s:Nat->X)(q:Nat->Prop)(bad:Nat->LO X R B P){F:Nat->X->O (LO X R B P)}{g:Nat->LO X R B P->O β}(f:∀i y,bad i≠.next y)
  (hs:∀i,i<len->(∀j,j<i->q j)->fu (λn=>F n (s i)) (q i) (.next (s (i+1))) (bad i)) (k:∀n,F n (s len)=Z (.out 0 (s len)))
  (h1:(∀i,i<len->q i)->fu (λn=>g n (.out 0 (s len))) Q x y) (h2:∀i,i<len->¬q i->fu (λn=>g n (bad i)) Q x y):fu (λn=>TL.ah (iter (F n) n (s 0)) (g n)) Q x y:=by
 haveI:∀i,Decidable (q i):=λi=>Classical.propDecidable _
 rcases qg (F:=F) len s (λi=>decide (q i)) bad 0 f (λi c l=>by
  obtain⟨a,b⟩|⟨a,b⟩:=hs i c (λj h=>M0 (l j h))
  .simp_all
  simp_all) (λ_=>bG k)with⟨a,d⟩|⟨i,c,a,_,d⟩
 .obtain ⟨b,e⟩|⟨b,e⟩:=h1 λi c=>M0 (a i c)
  .exact .inl ⟨b,Ev.bw d g _ e⟩
  .exact .inr ⟨b,Ev.bw d g _ e⟩
 .obtain ⟨b,e⟩|⟨b,e⟩:=h2 i c (of_decide_eq_false a)
  .exact .inl ⟨b,Ev.bw d g _ e⟩
  .exact .inr ⟨b,Ev.bw d g _ e⟩
def fu.all{l:L α}(d:α)(Pa:α->Prop)(bad:Nat->LO (Int×U) R B P){F:Nat->Int×U->O (LO (Int×U) R B P)}{g:Nat->LO (Int×U) R B P->O β}(c:∀i y,bad i≠.next y)
  (hs:∀i,i<l.length->fu (λn=>F n ((i:Int),())) (Pa (l.getD i d)) (.next (((i+1:Nat):Int),())) (bad i)) (e:∀n,F n ((l.length:Int),())=Z (.out 0 ((l.length:Int),())))
  (h1:(∀a∈l,Pa a)->fu (λn=>g n (.out 0 ((l.length:Int),()))) Q x y) (h2:¬(∀a∈l,Pa a)->∀i:Nat,fu (λn=>g n (bad i)) Q x y):fu (λn=>TL.ah (iter (F n) n (0,())) (g n)) Q x y:=
 fu.loop l.length (λi=>((i:Int),())) (λi=>Pa (l.getD i d)) bad c (λi b _=>hs i b) e (λh=>h1 (iB (d:=d) h)) (λi b h=>h2 (λf=>h (f _ (bV d b))) i)
end
end
section
section
variable {c:aA}
theorem e50(hs:Small c):OH (λn=>F50 n (c,())) (CF c):=by
 have h1:=hs.ins;have h2:=hs.qV;have h3:=hs.cl;have h4:=hs.pl;unfold F50 J1;by_cases m:¬(1<=c.dL.length∧c.dL.length<=1500)
 .exact fu.no (λh=>m h.ins) (bG λn=>by simp only[aT,wM,jl (show ¬((1:Int)<=(c.dL.length:Int)∧(c.dL.length:Int)<=1500)by omega)]<;>rfl)
 have m:=T2.1 m;have d1:=kO (show(1:Int)<=(c.dL.length:Int)∧(c.dL.length:Int)<=1500 by omega);by_cases x:100<c.eC.length
 .exact fu.no (λh=>by have:=h.pl;omega) (bG λn=>by simp(disch:=omega)only[aT,wM,d1]<;>rfl)
 obtain⟨b,g,j⟩:=aqK (l:=c.Cons) (by omega) (λk s=>by have:=hs.names k s;omega);have d:Ev (λn=>F105 n (c.Cons,())) ((b,()),()):=by unfold F105;exact Ev.ah g (Ev.pure _)
 simp(disch:=omega)only[aT,wM,d1];cases b with
 |false=>exact fu.no (λh=>by have:=j.2 ⟨h.cons,h.SY,h.names⟩;cases this) (Ev.ah d fc)
 |true=>
  obtain⟨t,u,v⟩:=j.1 rfl;by_cases o:¬(1<=c.cX.length∧c.cX.length<=300)
  .exact fu.no (λh=>o h.fl) (Ev.ah d (bG λn=>by simp only[aT,wM,jl (show ¬((1:Int)<=(c.cX.length:Int)∧(c.cX.length:Int)<=300)by omega)]<;>rfl))
  have o:=T2.1 o;have d3:=kO (show(1:Int)<=(c.cX.length:Int)∧(c.cX.length:Int)<=300 by omega);by_cases p:¬(0<=c.Main∧c.Main<c.cX.length)
  .exact fu.no (λh=>p h.main) (Ev.ah d (bG λn=>by simp(disch:=omega)only[aT,wM,d3,dh,jl (show ¬((0:Int)<=c.Main∧c.Main<=(c.cX.length:Int)-1)by omega)]<;>rfl))
  have p:=T2.1 p;have d4:=kO (show(0:Int)<=c.Main∧c.Main<=(c.cX.length:Int)-1 by omega);have w:=dh (show -9223372036854775808<=(c.cX.length:Int)-1 by omega) (show(c.cX.length:Int)-1<=9223372036854775807 by omega);have goal:((c.eC.all λq=>decide (pw q<=12)&&pG c.Cons q)&&(c.cX.all (λf=>decide (0<=f∧f<=(c.dL.length:Int)-1))&&c.dL.all (wz c)))=W↔CF c:=by simp only[fF,lB,qE];exact⟨λh=>⟨m,by omega,t,u,v,o,p,h.1,λf r=>by grind,h.2.2⟩,λh=>⟨h.pats,λf r=>by have:=h.qV f r;omega,h.all⟩⟩
  refine OH.mk (Ev.ah d ?_) goal;simp only[wM,d3,d4,aT,w];refine Ev.all (l:=c.eC) aK (λq=>decide (pw q<=12)&&pG c.Cons q) (λ_=>.ret () (J,())) (λ_ _ h=>by cases h) (λi e=>?_) (λn=>by simp(disch:=omega)only[aT]) (λa=>?_) (λi e a=>?_)
  .have a:=hs.pats _ (bV aK e);simp(disch:=omega)only[aT];refine Ev.ah (e94 (c.eC.getD i aK) (by omega) (by omega)) ?_;by_cases h:pw (c.eC.getD i aK)<=12
   .rw[ou (left:=12) (k:=pw (c.eC.getD i aK)) (by omega),kO h,sr];simp(disch:=omega)only[aT];refine Ev.ah (aqR (by omega) (c.eC.getD i aK) (by omega)) (bG λn=>?_);cases pG c.Cons (c.eC.getD i aK)<;>simp(disch:=omega)only[aT,ct,iV,iX]
   .rw[qQ (left:=12) (k:=pw (c.eC.getD i aK)) (by omega),jl h,rK]
    simp_all[bG,aT]
  .rw[a,sr];refine Ev.vQ (λn=>rj ..) ?_;refine Ev.all (l:=c.cX) 0 (λf=>decide (0<=f∧f<=(c.dL.length:Int)-1)) (λ_=>.ret () (J,())) (λ_ _ h=>by cases h) (λi e=>bG λn=>?_) (λn=>by simp(disch:=omega)only[aT]) (λa=>?_) (λi e a=>?_)
   .simp (disch:=omega)only[aT,dh,wM];cases decide (0<=c.cX.getD i 0∧c.cX.getD i 0<=(c.dL.length:Int)-1)<;>simp(disch:=omega)only[aT,ct,iV,iX]
   .rw[a,sr];refine Ev.vQ (λn=>rj ..) ?_;refine Ev.all (l:=c.dL) bY (wz c) (λ_=>.ret () (J,())) (λ_ _ h=>by cases h) (λi e=>bG λn=>?_) (λn=>by simp(disch:=omega)only[aT]) (λa=>?_) (λi e a=>?_)
    .simp (disch:=omega)only[aT,aqQ hs];cases wz c (c.dL.getD i bY)<;>simp(disch:=omega)only[aT,ct,iV,iX]
    .rw[a];exact fc
    .rw[a];exact fc
   .rw[a];exact fc
  .rw[a];exact fc
end
end
section
section
variable {c:aA}{dd:List av}{w:ak}{mm:List (Int×Bool)}{k:Nat}
def e63(n:Nat)(a lo hi:Int):F63 n (a,lo,hi,())=Z ((inR a lo hi,()),()):=by unfold F63 inR;by_cases h1:lo<=a<;>by_cases h2:a<=hi<;>simp[aj,br,h1,h2]
end
end
section
section
variable {c:aA}{dd:List av}{w:ak}{k:Nat}{s n fo:Int}{vs:List ax}{fs:List ai}
end
end
section
section
variable {w:ak}
end
end
section
section
variable {w:ak}{c:aA}{dd:List av}{mm:List (Int×Bool)}
abbrev aiK(x:Int)(l:L (Int×Bool)):L (Int×Bool):=jL (A:=sg.A) (Ty.int .i64) x W l
end
end
section
section
variable {c:aA}{dd:List av}{w:ak}{mm:List (Int×Bool)}{k:Nat}{s n fo:Int}{vs:List ax}{fs:List ai}
end
end
section
section
variable {c:aA}{dd:List av}{w:ak}{mm:List (Int×Bool)}
def JV(l:L Int):Prop:=l.length<=50∧∀i∈l,jD i=W
theorem wv{a:Int}:jD a=W↔-1000000000<=a∧a<=1000000000:=by unfold jD;simp
def e52(n:Nat)(a lo hi:Int):F52 n (a,lo,hi,())=Z ((inR a lo hi,()),()):=e63 n a lo hi
theorem e15{l:L Int}(hl:l.length<=1000):OH (λn=>F15 n (l,50,())) (JV l):=by
 by_cases h:l.length<=50
 .refine fu.iff (P:=∀i∈l,jD i=W) ⟨λb=>⟨h,b⟩,λh=>h.2⟩ ?_;refine fu.all (l:=l) 0 (λi=>jD i=W) (λ_=>.ret () (J,())) (λ_ _ h=>by cases h) (λi e=>?_) (λn=>by simp(disch:=omega)only[aT]) (λb=>fu.yes b (bG λn=>by simp(disch:=omega)only[aT,rj])) (λb i=>fu.no b fc);simp(disch:=omega)only[aT,e52];cases h1:inR (l.getD i 0) (-1000000000) 1000000000 with|true=>exact fu.yes (wv.2 (AA.1 h1)) (bG λn=>by simp(disch:=omega)only[aT,ct,iV,iX])|false=>exact fu.no (λh=>by grind[AA,wv]) fc
 .refine fu.no (λb=>h b.1) ?_;rcases qg (F:=λn(c:Int×U)=>aj (aE c.1 (aq l)) (aj (br c.1 50) (aO (aI c.1 l) (ah (F52 n (bn l (az c.1) 0,(-1000000000),1000000000,())) λd=>aj (au d.1.1) (Z (X (P:=Any) () (J,()))) (Z (N (aG .i64 c.1 1,()))))) (Z (H 0 c))) (Z (H 0 c)))
   51 (λi=>((i:Int),())) (λi=>inR (l.getD i 0) (-1000000000) 1000000000) (λ_=>.ret () (J,())) 0 (λ_ _ h=>by cases h) (λi e _=>bG λn=>by
    simp(disch:=omega)only[aT,e52];cases inR (l.getD i 0) (-1000000000) 1000000000<;>simp(disch:=omega)only[aT,ct,iV,iX]) (λ_=>bG λn=>by
    simp(disch:=omega)only[aT];cases aE ((51:Nat):Int) (l.length:Int)<;>rfl)with⟨a,r⟩|⟨i,e,a,_,r⟩
  .exact Ev.bw r (λn c=>_) _ (bG λn=>by
    show Z ((br (l.length:Int) 50,()),())=_;rw[ah1 (by omega)])
  .exact Ev.bw r (λn c=>_) _ fc
def e45{l:L Int}(hl:l.length<=1000):OH (λn=>F45 n (l,())) (JV l):=by
 refine fu.aj (λh=>?_) (λh=>fu.no (λa=>by have:=a.1;have:=ae5 h;simp only[Ex]at this;omega) (Ev.pure _));have h:=ae4 h;simp only[Ex]at h;refine fu.iff (P:=∀i∈l,jD i=W) ⟨λa=>⟨by omega,a⟩,λh=>h.2⟩ ?_;refine fu.all (l:=l) 0 (λi=>jD i=W) (λi=>.ret () ((i:Int),())) (λ_ _ h=>by cases h) (λi b=>?_) (λn=>by simp(disch:=omega)only[aT]) (λa=>fu.yes a fc) (λa i=>fu.no a (bG λn=>by
  show Z ((au (br 0 (i:Int)),()),())=_;rw[amP]))
 simp(disch:=omega)only[aT];refine fu.aj (λh1=>fu.aj (λh2=>?_) (λh2=>?_)) (λh1=>fu.no (λa=>by have:=ae5 h1;have:=wv.1 a;omega) (Ev.pure _))
 .exact fu.yes (wv.2 ⟨ae4 h1,ae4 h2⟩) (bG λn=>by simp(disch:=omega)only[aT,ct,iV,iX])
 simp_all[fu.no,ae5,wv,Ev.pure]
end
end
section
section
variable {c:aA}{dd:List av}{w:ak}
structure Rt(c:aA)(dd:List av):Prop where
 cf:CF c
 dep:VY c dd
theorem Rt.ok(h:Rt c dd):Bt c dd:=h.cf.ok.pok h.dep
def aqB(hs:Small c):(∃D,Rt c D∧Ev (λn=>F99 n (c,())) ((D,0,()),()))∨((¬∃D,Rt c D)∧∃e:Int,e≠0∧Ev (λn=>F99 n (c,())) (([],e,()),())):=by
 obtain⟨r,h1,h2,h3⟩:=aqM hs;obtain rfl|rfl:=h2
 .have a:=h3.1 rfl;obtain⟨D,b,h⟩|⟨d,h⟩:=e99 a.ok h1
  .exact .inl ⟨D,⟨a,b⟩,h⟩
  .exact .inr ⟨λ⟨D,h⟩=>d ⟨D,h.dep⟩,7,by decide,h⟩
 .refine .inr ⟨(λ⟨D,h⟩=>by have:=h3.2 h.cf;cases this),2,by decide,?_⟩;exact Ev.ah h1 fc
def e14(hs:Small c):(∃D,Rt c D∧Ev (λn=>F14 n (c,())) ((⟨c,D⟩,W,()),()))∨((¬∃D,Rt c D)∧∃m,Ev (λn=>F14 n (c,())) ((m,J,()),())):=by
 obtain⟨a,b⟩|⟨a,b⟩:=e50 hs
 .obtain ⟨D,d,h⟩|⟨e,h⟩:=d51 a.ok
  .exact .inl ⟨D,⟨a,d⟩,Ev.ah b (Ev.ah h (Ev.pure _))⟩
  .exact .inr ⟨λ⟨D,h⟩=>e ⟨D,h.dep⟩,_,Ev.ah b (Ev.ah h (Ev.pure _))⟩
 .exact .inr ⟨λ⟨D,h⟩=>a h.cf,_,Ev.ah b (Ev.pure _)⟩
def QH(c:aA)(dd:L av):Nat->L (Int×Bool)
 |0=>[]|i+1=>bif (eV dd (i:Int)).Reached&&aa (aX c (i:Int)).Op 6 then aiK (aX c (i:Int)).A (QH c dd i)else QH c dd i
abbrev aco(c:aA)(dd:L av):L (Int×Bool):=QH c dd c.dL.length
def YG{β R B P:Type}(hl:c.dL.length<=1500)(f:dd.length=c.dL.length){F:Nat->Int×L (Int×Bool)×U->O (LO (Int×L (Int×Bool)×U) R B P)}{g:Nat->LO (Int×L (Int×Bool)×U) R B P->O β}{r:β}
  (a:∀n d,F n d=aj (aE d.1 (aq c.1)) (aO (aI d.1 dd) (aj (bn dd (az d.1) aU).1 (aO (aI d.1 c.1) (aj (aa (bn c.1 (az d.1) bY).1 6) (aO (aI d.1 c.1) (Z (N (aG .i64 d.1 1,jL (A:=sg.A) (Ty.int .i64) (bn c.1 (az d.1) bY).2 W d.2.1,())))) (Z (N (aG .i64 d.1 1,d.2))))) (Z (N (aG .i64 d.1 1,d.2))))) (Z (H 0 d)))
  (h:Ev (λn=>g n (.out 0 ((c.dL.length:Int),aco c dd,()))) r):Ev (λn=>ah (iter (F n) n (0,[],())) (g n)) r:=by
 refine Ev.bw (qP c.dL.length (λi=>((i:Int),QH c dd i,())) 0 (λi j=>bG λn=>?_) (bG λn=>by simp_all[aT])) g _ h;have b:bn dd (az (i:Int)) aU=eV dd (i:Int):=rfl;have e:bn c.1 (az (i:Int)) bY=aX c (i:Int):=rfl;rw[a];simp only[b,e];rw[show QH c dd (i+1)=bif (eV dd (i:Int)).Reached&&aa (aX c (i:Int)).Op 6 then aiK (aX c (i:Int)).A (QH c dd i)else QH c dd i from rfl];cases h1:(eV dd (i:Int)).Reached<;>cases h2:aa (aX c (i:Int)).Op 6<;>simp(disch:=omega)only[aT,h1,h2,ct,iV,iX,sr,rK]
def TS(hs:Small c){α:Type}{bad:Nat->O α}{rest:Nat->(L av×Int×U)×U->Int×L (Int×Bool)×U->O α}{z:Nat->Bool×U->O α}{r:α}
  (h1:∀D,Rt c D->Ev (λn=>rest n ((D,0,()),()) ((c.dL.length:Int),aco c D,())) r) (h2:(¬∃D,Rt c D)->Ev bad r) :
  Ev (λn=>ah (F99 n (c,())) λx=>aj (au (aa x.1.2.1 0)) (bad n) (ah (iter (λd:Int×L (Int×Bool)×U=>aj (aE d.1 (aq c.1)) (aO (aI d.1 x.1.1) (aj (bn x.1.1 (az d.1) aU).1 (aO (aI d.1 c.1) (aj (aa (bn c.1 (az d.1) bY).1 6) (aO (aI d.1 c.1) (Z (N (R:=Bool×U) (B:=L (Int×Bool)×U) (P:=Any) (aG .i64 d.1 1,jL (A:=sg.A) (Ty.int .i64) (bn c.1 (az d.1) bY).2 W d.2.1,())))) (Z (N (aG .i64 d.1 1,d.2))))) (Z (N (aG .i64 d.1 1,d.2))))) (Z (H 0 d))) n (0,[],())) λd=>bK d (λ_ g=>rest n x g) (λ_ g=>z n g) λ_ _=>Y)) r:=by
 obtain⟨D,a,h⟩|⟨b,e,f,h⟩:=aqB hs
 .refine Ev.ah h ?_;exact YG a.ok.len.2 a.dep.len (λn d=>rfl) (h1 D a)
 .refine Ev.ah h (Ev.vQ (λn=>?_) (h2 b));rw[akb f];rfl
end
end
section
def Ie(p:aA)(at_:Int):Nat->ak->Nat->O (ak×Nat)
 |0,_,_=>Y|k+1,w,s=>match qy p w at_ with
  |some (a,Y)=>if 5000<s+1 then Y else Ie p at_ k a (s+1)|_=>Z (w,s)
def gV(p:aA):Nat->Nat->ak->Nat->O (ak×Nat)
 |0,_,w,s=>Z (w,s)|m+1,i,w,s=>match Ie p i 5002 w s with
  |none=>Y|some (a,b)=>gV p m (i+1) a b
section
variable {p:aA}{dd:List av}{M:MP}{w:ak}{at_:Int}
theorem Km(g:Bt p dd):∀(k:Nat)(w:ak)(s:Nat)(w':ak)(s':Nat),rC p dd w->0<=at_->at_<w.cq.length->Ie p at_ k w s=Z (w',s')->rC p dd w'∧w'.cq=w.cq∧s<=s'∧(s'<=s∨s'<=5000)
 |0,w,s,w',s',i,f,h1,h=>by cases h
 |k+1,w,s,w',s',i,f,h1,h=>by
  unfold Ie at h;cases j:qy p w at_ with
  |none=>simp_all|some r=>
   obtain⟨l,e⟩:=r;rw[j]at h;cases e with
   |some e=>simp_all|none=>
    obtain⟨m,n,o⟩:=J9 g i f h1 j;simp only at h;split at h
    .cases h
    .obtain ⟨a,b,c,d⟩:=Km g k l (s+1) w' s' m f (by grind) h
     grind
theorem y6(e:Bt p dd):∀(m i:Nat)(w:ak)(s:Nat)(w':ak)(s':Nat),rC p dd w->i+m<=w.cq.length->gV p m i w s=Z (w',s')->rC p dd w'∧w'.cq=w.cq∧s<=s'∧(s'<=s∨s'<=5000)
 |0,i,w,s,w',s',f,k,h=>by cases h;simp_all
 |m+1,i,w,s,w',s',f,k,h=>by
  unfold gV at h;split at h
  .cases h
  .rename_i g j l;obtain⟨a,b,c,d⟩:=Km e _ w s g j f (by omega) (by omega) l;obtain⟨n,o,q,r⟩:=y6 e m (i+1) g j w' s' a (by rw[b];omega) h
   grind
def ada:O (ak×O aP)->Int
 |none=>2|some (_,Y)=>0|some (_,Z _)=>1
def acp{r:O (ak×O aP)}{w:ak}:Ev (λn=>F68 n (Mq p dd M w r).1) ((ada r,()),()):=by
 match r with
 |none=>exact fc|some (_,Y)=>exact fc|some (_,Z _)=>exact fc
abbrev SX4:=Int×Int×MB×MP×U
theorem vX(u:Bt p dd){N0:Nat}(F:Nat->SX4->O (LO SX4 (Int×Bool×U) (MB×MP×U) Any))
  (j:∀n c,F n c=aj (aE c.2.1 (aq c.2.2.1.1.2.1)) (ah (F67 n (c.2.2.1,c.2.2.2.1,c.2.1,())) λd=>ah (F68 n d.1) λe=>aj (au (aa e.1.1 0)) (Z (N (c.1,aG .i64 c.2.1 1,c.2.2.1,d.2.2))) (aj (aE 5000 (aG .i64 c.1 1)) (Z (X (c.2.2.1,d.2.2) (0,J,()))) (Z (N (aG .i64 c.1 1,c.2.1,d.2))))) (Z (H 0 c))) :
  ∀(m k i:Nat)(w:ak)(s:Nat),rC p dd w->i+m=N0->N0=w.cq.length->s<=5001->5002<=k+s->1<=m->
  (∃w' s',(match Ie p (i:Int) k w s with|none=>Y|some (w1,s1)=>gV p (m-1) (i+1) w1 s1)=Z (w',s')∧fY F ((s:Int),(i:Int),mb p dd w,M,()) (.out 0 ((s':Int),(N0:Int),mb p dd w',M,())))∨
  ((match Ie p (i:Int) k w s with|none=>Y|some (w1,s1)=>gV p (m-1) (i+1) w1 s1)=Y∧∃R,fY F ((s:Int),(i:Int),mb p dd w,M,()) (.ret R (0,J,())))
 |0,_,_,_,_,_,_,_,_,_,h=>by omega
 |m+1,0,i,w,s,l,v,x,y,z,_=>by omega
 |m+1,k+1,i,w,s,l,v,x,y,z,_=>by
  have I:=l.tl;have A:=l.len;have q:=e67 (M:=M) (a:=(i:Int)) u l (by omega) (by omega);have t:=acp (p:=p) (dd:=dd) (M:=M) (w:=w) (r:=qy p w (i:Int));have g:∀r,qy p w (i:Int)=r->au (aa (ada r) 0)=W->(Mq p dd M w r).2.2=(M,())->
    (∃w' s',gV p m (i+1) w s=Z (w',s')∧fY F ((s:Int),(i:Int),mb p dd w,M,()) (.out 0 ((s':Int),(N0:Int),mb p dd w',M,())))∨
    (gV p m (i+1) w s=Y∧∃R,fY F ((s:Int),(i:Int),mb p dd w,M,()) (.ret R (0,J,()))):=by
   intro r B h1 h2;rw[B]at q t;have o:Ev (λn=>F n ((s:Int),(i:Int),mb p dd w,M,())) (.next ((s:Int),((i+1:Nat):Int),mb p dd w,M,())):=by refine Ev.vQ (λn=>(j n _).trans (y7 (show(i:Int)<(w.cq.length:Int)by omega) _ _)) ?_;refine Ev.ah q (Ev.ah t (bG λn=>?_));rw[h1,h2];simp(disch:=omega)only[aT,ct,iV,iX]<;>rfl
   cases m with
   |zero=>refine .inl ⟨w,s,rfl,.next o (.out (bG λn=>?_))⟩;rw[j,show((i+1:Nat):Int)=(N0:Int)by omega];exact El (show(w.cq.length:Int)<=(N0:Int)by omega) _ _
   |succ m=>
    have C:=vX u F j (m+1) 5002 (i+1) w s l (by omega) x y (by omega) (by omega);obtain⟨w',s',a,b⟩|⟨a,R,b⟩:=C
    .exact .inl ⟨w',s',a,.next o b⟩
    .exact .inr ⟨a,R,.next o b⟩
  unfold Ie;cases f:qy p w (i:Int)with
  |none=>exact g Y f rfl rfl|some r=>
   obtain⟨w1,e⟩:=r;cases e with
   |some e=>exact g (Z (w1,Z e)) f rfl rfl|none=>
    rw[f]at q t;obtain⟨E,K,P⟩:=J9 u l (by omega) (by omega) f;simp only;by_cases h5:5000<s+1
    .rw[bB h5];refine .inr ⟨rfl,(mb p dd w,M,()),.ret ?_⟩;refine Ev.vQ (λn=>(j n _).trans (y7 (show(i:Int)<(w.cq.length:Int)by omega) _ _)) ?_;refine Ev.ah q (Ev.ah t (bG λn=>?_));simp(disch:=omega)only[aT,Mq,ct]<;>rfl
    .rw[bO h5];have o:Ev (λn=>F n ((s:Int),(i:Int),mb p dd w,M,())) (.next (((s+1:Nat):Int),(i:Int),mb p dd w1,M,())):=by refine Ev.vQ (λn=>(j n _).trans (y7 (show(i:Int)<(w.cq.length:Int)by omega) _ _)) ?_;refine Ev.ah q (Ev.ah t (bG λn=>?_));simp(disch:=omega)only[aT,Mq,ct,iV,iX]<;>rfl
     obtain⟨w',s',a,b⟩|⟨a,R,b⟩:=vX u F j (m+1) k i w1 (s+1) E v (by grind) (by omega) (by omega) (by omega)
     .exact .inl ⟨w',s',a,.next o b⟩
     .exact .inr ⟨a,R,.next o b⟩
termination_by m k=>(m,k)
variable {s:Nat}
def e48(d:Bt p dd)(e:rC p dd w)(hs:s<=5001) :
  (∃w' s',gV p w.cq.length 0 w s=Z (w',s')∧Ev (λn=>F48 n (mb p dd w,M,(s:Int),())) (((s':Int),W,()),mb p dd w',M,()))∨
  (gV p w.cq.length 0 w s=Y∧∃R,Ev (λn=>F48 n (mb p dd w,M,(s:Int),())) ((0,J,()),R)):=by
 by_cases f:w.cq.length=0
 .refine .inl ⟨w,s,by rw[f];rfl,Ev.bw (F:=λn c=>_) (.out (j:=0) (y:=((s:Int),(0:Int),mb p dd w,M,())) (bG λn=>?_)) (λn c=>_) _ fc⟩;exact El (show(w.cq.length:Int)<=(0:Int)by omega) _ _
 .have key:=vX (M:=M) d (N0:=w.cq.length) (λn c=>_) (λn c=>rfl) w.cq.length 5002 0 w s e (by omega) rfl hs (by omega) (by omega);obtain⟨m,g⟩:∃m,w.cq.length=m+1:=⟨w.cq.length-1,by omega⟩;rw[g]at key ⊢;obtain⟨w',s',a,b⟩|⟨a,R,b⟩:=key
  .exact .inl ⟨w',s',a,Ev.bw (F:=λn c=>_) b (λn c=>_) _ fc⟩
  .exact .inr ⟨a,R,Ev.bw (F:=λn c=>_) b (λn c=>_) _ fc⟩
abbrev Z12:=L bx×L Int×L ei×L Int×Int×Int×Int×Int×Int×Int×Int×U
def flat(d:aZ):Z12:=(d.1.1,d.1.2,d.1.3,d.1.4,d.1.5,d.2,d.3.1,d.3.2,d.3.3,d.3.4.1,d.3.4.2,())
abbrev Z5:=L bx×L Int×L ei×L Int×Int×U
abbrev w5(w:ak):Z5:=(w.aS,w.cq,w.nV,w.dL,w.Used,())
theorem N6(h:Bt p dd){z:Z5}(F:Nat->Int×Z5×Z5×Z12×U->O (LO (Int×Z5×Z5×Z12×U) (Int×Bool×U) (Z5×Z5×Z12×U) Any))
  (d:∀n e,F n e=aj (aa e.2.2.2.1.2.2.2.2.2.1 0) (aj (aE 5000 (aG .i64 e.1 1)) (Z (X (e.2.1,e.2.1,e.2.2.2) (aG .i64 e.1 1,J,()))) (ah (F37 n (⟨p,dd⟩,ak.mk e.2.2.2.1.1 e.2.2.2.1.2.1 e.2.2.2.1.2.2.1 e.2.2.2.1.2.2.2.1 e.2.2.2.1.2.2.2.2.1,at_,())) λg=>Z (N (aG .i64 e.1 1,(e.2.2.2.1.1,e.2.2.2.1.2.1,e.2.2.2.1.2.2.1,e.2.2.2.1.2.2.2.1,e.2.2.2.1.2.2.2.2.1,()),e.2.2.1,J2 g)))) (Z (H 0 e))) :
  ∀(k:Nat)(w:ak)(s:Nat),rC p dd w->0<=at_->at_<w.cq.length->s<=5001->5002<=k+s->
  (∃w' s' q,Ie p at_ k w s=Z (w',s')∧fY F ((s:Int),w5 w,z,flat (DU w (qy p w at_)),()) (.out 0 ((s':Int),w5 w',z,q,())))∨
  (Ie p at_ k w s=Y∧∃R s',fY F ((s:Int),w5 w,z,flat (DU w (qy p w at_)),()) (.ret R (s',J,())))
 |0,w,s,j,f,h1,o,t=>by omega
 |k+1,w,s,j,f,h1,o,t=>by
  unfold Ie;cases i:qy p w at_ with
  |none=>refine .inl ⟨w,s,flat (DU w Y),rfl,.out (bG λn=>?_)⟩;rw[d];simp(disch:=omega)only[aT,flat,DU]<;>rfl|some r=>
   obtain⟨c,e⟩:=r;cases e with
   |some e=>refine .inl ⟨w,s,flat (DU w (Z (c,Z e))),rfl,.out (bG λn=>?_)⟩;rw[d];simp(disch:=omega)only[aT,flat,DU]<;>rfl|none=>
    obtain⟨l,v,x⟩:=J9 h j f h1 i;simp only;by_cases h5:5000<s+1
    .rw[bB h5];refine .inr ⟨rfl,(w5 w,w5 w,flat (DU w (Z (c,Y))),()),((s+1:Nat):Int),.ret (bG λn=>?_)⟩;rw[d];simp(disch:=omega)only[aT,flat,DU,ct,iV,iX]<;>rfl
    .rw[bO h5];have u:=d37 h l f (show at_<c.cq.length by grind);have m:Ev (λn=>F n ((s:Int),w5 w,z,flat (DU w (Z (c,Y))),())) (.next (((s+1:Nat):Int),w5 c,z,flat (DU c (qy p c at_)),())):=by
      refine Ev.vQ (g:=λn=>ah (F37 n (⟨p,dd⟩,c,at_,())) λg=>Z (N ((s:Int)+1,w5 c,z,J2 g))) (λn=>?_) (Ev.ah u (bG λn=>?_))
      .rw[d];simp(disch:=omega)only[aT,flat,DU,ct,iV,iX]<;>rfl
      rfl
     obtain⟨w',s',q,a,b⟩|⟨a,R,s',b⟩:=N6 h F d k c (s+1) l f (by grind) (by omega) (by omega)
     .exact .inl ⟨w',s',q,a,.next m b⟩
     .exact .inr ⟨a,R,s',.next m b⟩
theorem Jy(k:Bt p dd){N0:Nat}{z:Z5}(F:Nat->Int×Int×Z5×Z5×U->O (LO (Int×Int×Z5×Z5×U) (Int×Bool×U) (Z5×Z5×U) Any))
  (l:∀n c,F n c=aj (aE c.2.1 (aq c.2.2.1.2.1)) (ah (F37 n (⟨p,dd⟩,ZH c,c.2.1,())) λd=>ah (iter (λe:Int×Z5×Z5×Z12×U=>aj (aa e.2.2.2.1.2.2.2.2.2.1 0) (aj (aE 5000 (aG .i64 e.1 1)) (Z (X (P:=Any) (e.2.1,e.2.1,e.2.2.2) (aG .i64 e.1 1,J,()))) (ah (F37 n (⟨p,dd⟩,ak.mk e.2.2.2.1.1 e.2.2.2.1.2.1 e.2.2.2.1.2.2.1 e.2.2.2.1.2.2.2.1 e.2.2.2.1.2.2.2.2.1,c.2.1,())) λg=>Z (N (aG .i64 e.1 1,(e.2.2.2.1.1,e.2.2.2.1.2.1,e.2.2.2.1.2.2.1,e.2.2.2.1.2.2.2.1,e.2.2.2.1.2.2.2.2.1,()),e.2.2.1,J2 g)))) (Z (H 0 e))) n (c.1,c.2.2.1,c.2.2.2.1,J2 d)) λe=>bK e (λ_ h=>Z (N (h.1,aG .i64 c.2.1 1,h.2.1,h.2.2.1,()))) (λg h=>Z (X (g.1,g.2.1,()) h)) λ_ _=>Y) (Z (H 0 c))) :
  ∀(m i:Nat)(w:ak)(s:Nat),rC p dd w->i+m=N0->N0=w.cq.length->s<=5001->
  (∃w' s',gV p m i w s=Z (w',s')∧fY F ((s:Int),(i:Int),w5 w,z,()) (.out 0 ((s':Int),(N0:Int),w5 w',z,())))∨
  (gV p m i w s=Y∧∃R s',fY F ((s:Int),(i:Int),w5 w,z,()) (.ret R (s',J,())))
 |0,i,w,s,f,v,A,r=>by
  refine .inl ⟨w,s,rfl,?_⟩;have:i=N0:=by omega
  subst this;refine .out (bG λn=>?_);rw[l];simp(disch:=omega)only[aT]<;>rfl
 |m+1,i,w,s,f,v,A,r=>by
  have E:=f.tl;have B:=f.len;have t:=d37 (a:=(i:Int)) k f (by omega) (by omega);unfold gV;obtain⟨o,j,q,a,b⟩|⟨a,R,j,b⟩:=N6 (at_:=(i:Int)) (z:=z) k _ (λn d=>rfl) 5002 w s f (by omega) (by omega) r (by omega)
  .rw[a];obtain⟨C,I,K,Q⟩:=Km k _ w s o j f (by omega) (by omega) a;have u:Ev (λn=>F n ((s:Int),(i:Int),w5 w,z,())) (.next ((j:Int),((i+1:Nat):Int),w5 o,z,())):=by refine Ev.vQ (λn=>(l n _).trans (y7 (by simp only[aq];omega) _ _)) ?_;refine Ev.ah t ?_;refine Ev.bw b (λn c=>_) _ (bG λn=>?_);rw[rj];simp(disch:=omega)only[aT,ct,iV,iX]
   obtain⟨w',s',x,y⟩|⟨x,R,s',y⟩:=Jy (N0:=N0) (z:=z) k F l m (i+1) o j C (by omega) (by grind) (by omega)
   .exact .inl ⟨w',s',x,.next u y⟩
   .exact .inr ⟨x,R,s',.next u y⟩
  .rw[a];refine .inr ⟨rfl,(R.1,R.2.1,()),j,.ret ?_⟩;refine Ev.vQ (λn=>(l n _).trans (y7 (by simp only[aq];omega) _ _)) ?_;refine Ev.ah t ?_;refine Ev.bw b (λn c=>_) _ (bG λn=>?_);rw[afV]
def e29(d:Bt p dd)(e:rC p dd w)(hs:s<=5001) :
  (∃w' s',gV p w.cq.length 0 w s=Z (w',s')∧Ev (λn=>F29 n (⟨p,dd⟩,w,(s:Int),())) ((w',(s':Int),W,()),()))∨
  (gV p w.cq.length 0 w s=Y∧∃w' s',Ev (λn=>F29 n (⟨p,dd⟩,w,(s:Int),())) ((w',s',J,()),())):=by
 obtain⟨w',s',a,b⟩|⟨a,R,s',b⟩:=Jy d (N0:=w.cq.length) (z:=([],[],[],[],0,())) _ (λn c=>rfl) w.cq.length 0 w s e (by omega) rfl hs
 .exact .inl ⟨w',s',a,Ev.bw (F:=λn c=>_) b (λn c=>_) _ fc⟩
 .exact .inr ⟨a,_,s',Ev.bw (F:=λn c=>_) b (λn c=>_) _ fc⟩
end
end
section
section
variable {p:aA}{dd:List av}{M:MP}{w:ak}{at_:Int}
def ux(n:Nat):L Int:=(List.range n).map λi:Nat=>(i:Int)
def FE(n:Nat):(ux n).length=n:=by simp[ux]
def Uq(n:Nat):ux (n+1)=ux n++[(n:Int)]:=by simp[ux,List.range_succ]
theorem Xb{n i:Nat}(h:i<n):(ux n).getD i 0=(i:Int):=by
 grind[ux,List.getElem?_range]
end
end
section
section
variable {n:Nat}{p:aA}{dd:List av}{w:ak}
theorem dW.sm{k:Nat}{l:Int}(b:Bt p dd)(hl:0<=l){g:ai}(a:dW p dd k l g):g.Env.length<=30∧g.Stack.length<=60:=by have h1:=a.el;have h2:=a.sl;have:=b.dep.ok g.At a.lo a.hi a.re;omega
theorem jF.small(e:Bt p dd){k:Nat}{o:bx}(h:jF p dd k o):o.gu.length<=40∧o.Frames.length<=50∧∀g∈o.Frames,g.Env.length<=40∧g.Stack.length<=70:=by
 have fr:∀{g:ai}{l:Int},0<=l->dW p dd k l g->g.Env.length<=40∧g.Stack.length<=70:=λj m=>by have:=m.sm e j;omega
 cases h with
 | @data n q a b c d=>
  have:=(e.cons _ (bV aY (show n.toNat<p.Cons.length by omega))).2
  grind[lY]
 | @func n q a b c=>
  obtain⟨i,f,h1,h2,h3,h4⟩:=a;have r:=e.dep.ok i f h1 h3;have:=e.dep.step i f h1 h3 (n,bW 0 ((eV dd i).Env+1)) (by simp[dM,h2,h4])
  grind[bW]
 |cell a=>simp_all|chan a b=>grind|Il a b c=>grind|wF a b c=>
  grind
 |done a=>simp_all|dead a=>simp_all
def s6{R B P:Type}(len:Nat)(hl:len<=1000000){F:Nat->Int×U->O (LO (Int×U) R B P)}(h:∀i,i<len->Ev (λn=>F n ((i:Int),())) (.next (((i+1:Nat):Int),())))(a:∀n,F n ((len:Int),())=Z (.out 0 ((len:Int),()))) :
  fY F (0,()) (.out 0 ((len:Int),())):=qP (s:=λi=>((i:Int),())) len 0 h (bG a)
def e35{l:L Int}(hl:l.length<=1000):Ev (λn=>F35 n (l,l,())) ((W,()),()):=by
 unfold F35;simp only[aT];refine Ev.bw (F:=λn c=>_) (s6 l.length (by omega) (λi a=>bG λn=>?_) λn=>?_) (λn c=>_) _ fc
 .simp (disch:=omega)only[aT,ct,iV,iX]<;>rfl
 simp_all[aT]
def e54{l:L ei}(hl:l.length<=1000):Ev (λn=>F54 n (l,l,())) ((W,()),()):=by
 unfold F54;simp only[aT];refine Ev.bw (F:=λn c=>_) (s6 l.length (by omega) (λi a=>bG λn=>?_) λn=>?_) (λn c=>_) _ fc
 .simp (disch:=omega)only[aT,ct,iV,iX]<;>rfl
 simp_all[aT]
theorem agc(b:Bool):bZ W b=b:=rfl
def af2{l:L ax}(hl:l.length<=1000):Ev (λn=>F110 n (l,l,())) ((W,()),()):=by
 unfold F110;simp only[aT];refine Ev.bw (F:=λn c=>_) (s6 l.length (by omega) (λi a=>bG λn=>?_) λn=>?_) (λn c=>_) _ fc
 .simp (disch:=omega)only[aT,agc,Lm,ct,iV,iX]<;>rfl
 simp_all[aT]
def e55{o:bx}(h1:o.gu.length<=40)(h2:o.Frames.length<=50)(h3:∀g∈o.Frames,g.Env.length<=40∧g.Stack.length<=70):Ev (λn=>F55 n (o,o,())) ((W,()),()):=by
 unfold F55 OV OU;have d:∀b,o7 b b=W:=λb=>by cases b<;>rfl
 simp only[aT];refine Ev.ah (af2 (by omega)) ?_;simp only[aT];refine Ev.bw (F:=λn c=>_) (s6 o.Frames.length (by omega) (λi e=>?_) λn=>?_) (λn c=>_) _ fc
 .have a:=h3 _ (bV bz e);simp(disch:=omega)only[aT,d];refine Ev.ah (af2 (gD a.1 (by decide))) ?_;simp only[aT];refine Ev.ah (af2 (gD a.2 (by decide))) (bG λn=>?_);simp(disch:=omega)only[aT,ct,iV,iX]<;>rfl
 simp_all[aT]
def e18(d:Bt p dd)(a:rC p dd w):Ev (λn=>F18 n (w,w,())) ((W,()),()):=by
 have e:=a.len;have f:=a.tl;have g:=a.outs;have b:=a.ins;unfold F18;simp only[aT];refine Ev.ah (e35 (by omega)) ?_;simp only[aT];refine Ev.ah (e54 (by omega)) ?_;simp only[aT];refine Ev.ah (e35 (by omega)) ?_;simp only[aT];refine Ev.bw (F:=λn c=>_) (s6 w.aS.length (by omega) (λi b=>?_) λn=>?_) (λn c=>_) _ fc
 .obtain ⟨h1,h2,h3⟩:=(a.obs _ (bV bL b)).small d;simp(disch:=omega)only[aT];refine Ev.ah (e55 h1 h2 h3) (bG λn=>?_);simp(disch:=omega)only[aT,ct,iV,iX]<;>rfl
 simp_all[aT]
def e16:Ev (λn=>F16 n (cY,())) ((W,()),()):=by unfold F16 F18;refine Ev.ah (a:=((W,()),())) ?_ (Ev.pure _);have z:aq cY.1=0:=rfl;have b:aa cY.5 cY.5=W:=rfl;simp only[z,b];simp only[aT];refine Ev.ah (e35 (l:=[]) (by simp)) ?_;simp only[aT];refine Ev.ah (e54 (l:=[]) (by simp)) ?_;simp only[aT];refine Ev.ah (e35 (l:=[]) (by simp)) ?_;simp only[aT];refine Ev.bw (F:=λn c=>_) (fY.out (j:=0) (y:=(0,())) (bG λn=>?_)) (λn c=>_) _ fc;rfl
end
end
section
section
variable {n:Nat}{p:aA}{dd:List av}{w:ak}{M:MP}
theorem akf(k:Int):F103 n (k,())=Z ((k,()),()):=rfl
variable {i:Nat}
def Mu{α:Type}{l:L α}{d x:α}(h:i<l.length)(a:x=l.getD i d):l.set i x=l:=by
 simp_all
def Cg{l:L ax}(hl:l.length<=1000):Ev (λn=>mN n ((l,()),())) (.out 0 (l,(l.length:Int),())):=by
 unfold mN;refine Ev.iter (F:=λn c=>_) (qP (s:=λi=>(l,(i:Int),())) l.length 0 (λi a=>bG λn=>?_) (bG λn=>?_))
 .by_cases h5:(l.getD i bq).Kind=5
  .simp (disch:=omega)only[aT,h5,akf,ct,iV,iX];rw[Mu a (by rw[<-h5])]
  .simp (disch:=omega)only[aT,h5,ct,iV,iX]<;>rfl
 simp_all[aT]
def tj{fs:L ai}(hi:i<fs.length):lE fs i (ai.mk (fs.getD i bz).At (fs.getD i bz).Env (fs.getD i bz).Stack (fs.getD i bz).dI)=fs:=Mu hi rfl
theorem N9{a b:Int}{vs:L ax}{fs:L ai}(hf:fs.length<=1000)(hs:∀g∈fs,g.Env.length<=1000∧g.Stack.length<=1000) :
  ∀m i:Nat,i+m=fs.length->∃c,∀n,c<=n->∀d,m+4<=d->Bh n d ((i:Int),(a,b,vs,fs,()),())=Z ((W,()),(a,b,vs,fs,()),())
 |0,i,h=>⟨0,λn _ d j=>by
  obtain⟨k,rfl⟩:∃k,d=k+4:=⟨d-4,by omega⟩
  simp_all[Hu,LQ,aT]⟩
 |m+1,i,h=>by
  have e:i<fs.length:=by omega
  obtain⟨l,h1⟩:=N9 (a:=a) (b:=b) (vs:=vs) hf hs m (i+1) (by omega);obtain⟨o,p⟩:=hs _ (bV bz e);obtain⟨q,h2⟩:=Cg o;obtain⟨r,h3⟩:=Cg p;refine⟨l+q+r,λn t d j=>?_⟩;obtain⟨k,rfl⟩:∃k,d=k+4:=⟨d-4,by omega⟩;have h1:=h1 n (by omega) (k+3) (by omega);have h2:mN n (((fs.getD i bz).Env,()),())=_:=h2 n (by omega);have h3:mN n (((fs.getD i bz).Stack,()),())=_:=h3 n (by omega);have u:tZ ((i:Int),(a,b,vs,fs,()),())=fs.getD i bz:=rfl;have s:qq ((i:Int),(a,b,vs,fs,()),()) ((fs.getD i bz).Env,((fs.getD i bz).Env.length:Int),())=fs:=tj e;have v:qo ((i:Int),(a,b,vs,fs,()),()) ((fs.getD i bz).Env,((fs.getD i bz).Env.length:Int),())=fs.getD i bz:=by unfold qo;rw[s];rfl
  have w:lE fs i (ai.mk (fs.getD i bz).At (fs.getD i bz).Env (fs.getD i bz).Stack (fs.getD i bz).dI)=fs:=tj e;rw[Hu];unfold LQ;have f:aG .i64 (i:Int) 1=((i+1:Nat):Int):=by grind[ct]
  have x:aI (i:Int) fs=W:=by simp[aI];omega
  have y:dV i fs=W:=by simp[dV];omega
  refine(RY (show ¬(i:Int)=(fs.length:Int)by omega) _ _).trans ?_
  simp_all[Xi,YH,acf,tU,rj]
theorem e49(f:Bt p dd)(e:rC p dd w):Ev (λn=>F49 n (mb p dd w,M,())) ((w,()),mb p dd w,M,()):=by
 have A:=e.len;have h:=e.tl;unfold F49 G49;have q:fY (R:=U) (B:=U) (P:=Any) (λn d=>aj (aE d.2.1 (aq w.aS)) (aO (de d.1 [d.2.1]) (Z (N (cZ d.1 [d.2.1],aG .i64 d.2.1 1,())))) (Z (H 0 d))) ([],0,()) (.out 0 (ux w.aS.length,(w.aS.length:Int),())):=by refine qP (s:=λi=>(ux i,(i:Int),())) w.aS.length 0 (λi c=>bG λn=>?_) (bG λn=>by simp(disch:=omega)only[aT]);have r:=FE i;simp(disch:=first|omega|simp only[hJ];omega)only[aT,ct,iV,iX,Uq]
 refine Ev.bw q (λn d=>_) _ ?_;refine Ev.vQ (λn=>rj ..) ?_;have t:fY (R:=U) (B:=(L bx×L Int×L ei×L Int×Int×U)×U) (P:=Any) (λn(j:Int×(L bx×L Int×L ei×L Int×Int×U)×U)=>aj (aE j.1 (aq (ux w.aS.length))) (aO (aI j.1 (ux w.aS.length)) (aO (dV (az j.1) (ux w.aS.length)) (aO (aI (bn (ux w.aS.length) (az j.1) 0) w.aS) (ah (F238 n ((yS (mb p dd w,M,()) (ux w.aS.length,(w.aS.length:Int),()) j).4,())) λk=>ah (EJ n (n+8) (((yS (mb p dd w,M,()) (ux w.aS.length,(w.aS.length:Int),()) j).1,(yS (mb p dd w,M,()) (ux w.aS.length,(w.aS.length:Int),()) j).2,(yS (mb p dd w,M,()) (ux w.aS.length,(w.aS.length:Int),()) j).3,k.1),())) λl=>aO (de j.2.1.1 [bx.mk l.2.1.1 l.2.1.2.1 l.2.1.2.2.1 l.2.1.2.2.2.1]) (Z (N (aG .i64 j.1 1,(cZ j.2.1.1 [bx.mk l.2.1.1 l.2.1.2.1 l.2.1.2.2.1 l.2.1.2.2.2.1],j.2.1.2),()))))))) (Z (H 0 j)))
   (0,([],[],w.nV,w.dL,w.Used,()),()) (.out 0 ((w.aS.length:Int),(w.aS.take w.aS.length,[],w.nV,w.dL,w.Used,()),())):=by
  refine qP (s:=λi=>((i:Int),(w.aS.take i,[],w.nV,w.dL,w.Used,()),())) w.aS.length 0 (λi c=>?_) (bG λn=>?_)
  .obtain ⟨h1,h2,h3⟩:=(e.obs _ (bV bL c)).small f;obtain⟨u,q1⟩:=Cg (l:=(w.aS.getD i bL).gu) (by omega);obtain⟨v,q2⟩:=N9 (a:=(w.aS.getD i bL).Form) (b:=(w.aS.getD i bL).N) (vs:=(w.aS.getD i bL).gu) (fs:=(w.aS.getD i bL).Frames) (by omega) (λg C=>by grind) (w.aS.getD i bL).Frames.length 0 (by omega);refine⟨u+v+1000,λn r=>?_⟩;have q1:mN n (((w.aS.getD i bL).gu,()),())=_:=q1 n (by omega);have q2:Bh n (n+7) (0,((w.aS.getD i bL).Form,(w.aS.getD i bL).N,(w.aS.getD i bL).gu,(w.aS.getD i bL).Frames,()),())=_:=q2 n (by omega) (n+7) (by omega);have q3:EJ n (n+8) (((w.aS.getD i bL).Form,(w.aS.getD i bL).N,(w.aS.getD i bL).gu,(w.aS.getD i bL).Frames,()),())=Z ((),((w.aS.getD i bL).Form,(w.aS.getD i bL).N,(w.aS.getD i bL).gu,(w.aS.getD i bL).Frames,()),()):=by
    rw[show n+8=(n+4)+4 from rfl,Rg]
    grind[Tx,acf,tU,ah,mN,bL,rj]
   have e0:bn (ux w.aS.length) (az (i:Int)) 0=(i:Int):=Xb c;have x:yS (mb p dd w,M,()) (ux w.aS.length,(w.aS.length:Int),()) ((i:Int),(w.aS.take i,[],w.nV,w.dL,w.Used,()),())=w.aS.getD i bL:=by unfold yS;simp only[e0];rfl
   have y:=FE w.aS.length;simp only[x,acg,tU,q3,e0];simp(disch:=first|omega|simp only[hJ];omega)only[aT,ct,iV,iX];rw[show bx.mk (w.aS.getD i bL).Form (w.aS.getD i bL).N (w.aS.getD i bL).gu (w.aS.getD i bL).Frames=w.aS.getD i bL from rfl,take_succ bL c]
  simp_all[FE,aT]
 have z:fY (R:=U) (B:=(L bx×L Int×L ei×L Int×Int×U)×U) (P:=Any) (λn(m:Int×(L bx×L Int×L ei×L Int×Int×U)×U)=>aj (aE m.1 (aq w.cq)) (aO (aI m.1 w.cq) (ah (F103 n (bn w.cq (az m.1) 0,())) λo=>aO (de m.2.1.2.1 [o.1.1]) (Z (N (aG .i64 m.1 1,(m.2.1.1,cZ m.2.1.2.1 [o.1.1],m.2.1.2.2),()))))) (Z (H 0 m)))
   (0,(w.aS.take w.aS.length,[],w.nV,w.dL,w.Used,()),()) (.out 0 ((w.cq.length:Int),(w.aS.take w.aS.length,w.cq.take w.cq.length,w.nV,w.dL,w.Used,()),())):=by
  refine qP (s:=λi=>((i:Int),(w.aS.take w.aS.length,w.cq.take i,w.nV,w.dL,w.Used,()),())) w.cq.length 0 (λi c=>bG λn=>?_) (bG λn=>by simp(disch:=omega)only[aT]);simp(disch:=first|omega|simp only[hJ];omega)only[aT,akf,ct,iV,iX];rw[take_succ 0 c]
 refine Ev.ah (bG λn=>aqL w.nV) (Ev.ah (bG λn=>e47 w.dL) ?_);refine Ev.bw t (λn d=>_) _ ?_;refine Ev.vQ (λn=>rj ..) ?_;refine Ev.bw z (λn d=>_) _ (bG λn=>?_);rw[rj];simp only[MY];rfl
end
end
section
section
variable {p:aA}{dd:List av}{M:MP}{w w':ak}{left:List ai}{f:ai}{at_ t n:Int}{v u:ax}{i:bN}{l:List ax}
end
end
section
section
variable {p:aA}{dd:List av}{M:MP}{w:ak}
end
end
section
section
variable {p:aA}{w:ak}{dd:List av}
def qX(p:aA)(ins:L Int):ak:=⟨[⟨6,0,[],[⟨p.cX.getD p.Main.toNat 0,[dU],[],J⟩]⟩],[0],[],ins,0⟩
theorem Gr(h:Bt p dd){ins:L Int}(hi:JV ins):rC p dd (qX p ins):=by
 have g:=h.main;have a:=bV 0 (show p.Main.toNat<p.cX.length by omega);have c:=h.qV _ a;have b:=h.dep.root _ a;unfold qX;refine⟨by simp,λo d=>?_,by simp,by simp,hi.1,hi.2,by simp,by simp,by simp,λt e=>?_,λi hi=>?_⟩
 .simp only[rL]at d;subst d;exact .wF (fs:=[]) (by simp) (by simp) ⟨c.1,c.2,by rw[b];rfl,by rw[b];rfl,λv f=>by grind[List.mem_singleton,vS],by rw[b];rfl,λv f=>by cases f⟩
 .simp only[rL]at e;subst e;exact⟨by simp,by simp,rfl⟩
 simp_all
variable {ins:List Int}
def e17(d:Bt p dd)(hi:JV ins):∃w' b,Ev (λn=>F17 n (⟨p,dd⟩,ins,())) ((w',b,()),())∧
  ((b=J∧gV p 1 0 (qX p ins) 0=Y)∨(b=W∧∃s,gV p 1 0 (qX p ins) 0=Z (w',s))):=by
 have g:=d.main;have f:=Gr d hi;have c:∀n,F53 n (⟨p,dd⟩,ins,())=Z ((qX p ins,()),()):=λn=>by unfold F53;simp(disch:=omega)only[aT,show ∀n,F74 n ()=Z ((dU,()),())from λn=>rfl]<;>rfl
 unfold F17;obtain⟨w',e,a,b⟩|⟨a,w',e,b⟩:=e29 d f (s:=0) (by omega)
 .exact ⟨w',W,Ev.ah (bG c) (Ev.ah b (Ev.pure _)),.inr ⟨rfl,e,a⟩⟩
 .exact ⟨w',J,Ev.ah (bG c) (Ev.ah b (Ev.pure _)),.inl ⟨rfl,a⟩⟩
def Ka(p:aA)(ins:L Int):(ak×Int×U)×U:=match gV p 1 0 (qX p ins) 0 with
 |none=>((cY,8,()),())|some (w,_)=>((w,0,()),())
def e13(hs:Small p)(hl:ins.length<=1000){r:(ak×Int×U)×U}(h1:∀E,Rt p E->JV ins->Ka p ins=r)(h2:(¬∃E,Rt p E)∨¬JV ins->((cY,2,()),())=r):Ev (λn=>F13 n (p,ins,())) r:=by
 unfold F13;refine TS hs (λE e=>?_) (λh=>by rw[<-h2 (.inl h)];exact Ev.pure _);have c:=e.ok;have f:=c.main;obtain⟨a,b⟩|⟨a,b⟩:=e45 hl
 .refine Ev.ah b ?_;have g:=Gr c a;rw[<-h1 E e a];refine Ev.vQ (λn=>S9 f.1 f.2 _) ?_;refine Ev.ah (bG λn=>show F46 n ()=Z ((dU,()),())from rfl) (Ev.ah (bG λn=>e47 ins) ?_);show Ev (λn=>ah (F48 n (mb p E (qX p ins),aco p E,0,())) λk=>aj (au k.1.2.1) (Z ((cY,8,()),())) (ah (F49 n k.2) λl=>Z ((l.1.1,0,()),()))) _;unfold Ka;obtain⟨i,j,x,y⟩|⟨x,R,y⟩:=e48 (M:=aco p E) c g (s:=0) (by omega)
  .have d:gV p 1 0 (qX p ins) 0=Z (i,j):=x;rw[d];exact Ev.ah y (Ev.ah (e49 c (y6 c _ _ _ _ _ _ g (by simp[qX]) x).1) (Ev.pure _))
  .have d:gV p 1 0 (qX p ins) 0=Y:=x;rw[d];exact Ev.ah y fc
 .refine Ev.ah b ?_;rw[<-h2 (.inr a)];exact Ev.pure _
end
end
def tB:L UInt8:=[109,111,100,117,108,101,32,98,32,123,32,102,117,110,32,119,111,114,107,40,99,32,58,32,99,104,97,110,32,105,110,116,41,32,58,32,117,110,105,116,32,61,32,108,101,116,32,120,32,61,32,115,101,110,100,40,99,44,32,53,41,32,105,110,32,115,101,110,100,40,99,44,32,54,41,59,32,102,117,110,32,109,97,105,110,40,117,32,58,32,117,110,105,116,41,32,58,32,105,110,116,32,61,32,108,101,116,32,99,32,61,32,99,104,97,110,32,105,110,32,108,101,116,32,116,32,61,32,115,112,97,119,110,40,102,117,110,32,117,32,61,62,32,119,111,114,107,32,99,41,32,105,110,32,116,97,107,101,40,99,41,32,43,32,114,101,115,101,116,40,49,32,43,32,40,115,104,105,102,116,32,107,32,61,62,32,107,32,40,107,32,49,48,41,41,41,59,32,125]
def Sa(e:aP)(t op n k m:Int):Bool:=bZ (aa e.1 t) (bZ (aa e.2 op) (bZ (aa e.3 n) (bZ (aa e.4.1 k) (bZ (aa e.4.2 m) W))))
noncomputable def gB(n:Nat):O Bool:=ah (F42 n (tB,())) λc=>ah (F13 n (c.1.1,[],())) λd=>ah (F20 n (c.1.1,d.1.1,[0,0,1,1,0,0,1],())) λe=>ah (F24 n (c.1.1,e.1.1,())) λg=>
 Z (aa d.1.2.1 0&&(aa e.1.2.2.1 0&&(aa g.1.2.1 0&&(aa (aq e.1.2.1) 7&&(Sa (J4 e) 1 22 0 1 5&&(Sa (J3 e) 0 0 1 1 17&&aa (aq g.1.1.1) 2))))))
noncomputable def gA(n:Nat):O Bool:=ah (ZQ n) λh=>ah (F13 n (h.1.1,[],())) λi=>ah (F28 n (h.1.1,i.1.1,0,())) λk=>
 Z (aa i.1.2.1 0&&(aa k.1.2.2.2.1 0&&(Sa k.1.2.1 0 16 0 1 1&&aa k.1.2.2.1 3)))
def ab2:gB 300=Z W:=by kernel_rfl
def ab3:gA 300=Z W:=by kernel_rfl
def PZ:F12 300 ()=Z ((W,()),()):=by have a:=ab2;have b:=ab3;unfold gB at a;unfold gA at b;obtain⟨c,h1,a⟩:=TL.eB a;obtain⟨d,h2,a⟩:=TL.eB a;obtain⟨e,h3,a⟩:=TL.eB a;obtain⟨g,h4,a⟩:=TL.eB a;obtain⟨h,h5,b⟩:=TL.eB b;obtain⟨i,h6,b⟩:=TL.eB b;obtain⟨k,o,b⟩:=TL.eB b;simp only[gR,fF]at b a;obtain⟨p,q,r,f,j,l,s⟩:=a;obtain⟨a1,a2,n,t⟩:=b;unfold Sa at j l n;have u:(e.1.2.1.length:Int)=7:=xM.1 f;unfold F12;show ah (F42 300 (tB,())) _=_;rw[h1,tU,h2,tU,h3,tU,h4,tU,h5,tU,h6,tU,tU,o,tU];have v:aI 2 e.1.2.1=W:=ie.2 (by omega);have w:aI 5 e.1.2.1=W:=ie.2 (by omega);have f43:∀m:Int,F43 300 (m,())=Z ((⟨1,m⟩,()),()):=λ_=>rfl;simp only[p,q,r,f,s,a1,a2,t,RW,RV,v,w,YH,f43,tU,j,l,n]
def kn:Fn [] K4 J:=λ_=>Z ((W,()),())
abbrev cK:lI sg:=⟨[],K4,J,kn⟩
def CK:bC prog 12 cK:=by
 have h:=(k12 300).h;have e:F12 300=kn:=funext λx=>by cases x;exact PZ
 have h:bC prog 12 (⟨[],K4,J,F12 300⟩:lI sg):=h;rw[e]at h;exact h
def agf:L TypeId:=[27,26,22,137,136,135,3,23,90,89,88,9,24,25,92,91,33,32,30,106,105,99,101,64,63,62,104,103,102,4,31,128,127]
noncomputable def tyL(t:TypeId):O Ty:=bif agf.contains t then TF.get t else Y
noncomputable def ahH(t:TypeId):Bool:=match TF.get t with|some τ=>rdT sg prog tyL t τ|none=>W
def aew:agf.all ahH=W:=by kernel_rfl
def ahF(t:TypeId)(τ:Ty)(h:tyL t=Z τ):rdT sg prog tyL t τ=W:=by
 unfold tyL at h;cases a:agf.contains t with
 |false=>rw[a]at h;cases h
 |true=>rw[a,iq]at h;have:=lB.1 aew t (by simpa using a);unfold ahH at this;rw[h]at this;exact this
def laid:laidOutB prog=W:=by kernel_rfl
def own:ownKnob prog.godebug=Y:=by kernel_rfl
end Mn
end
end
