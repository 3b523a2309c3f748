/- Proved: for every program and all inputs the law MeanStarts of hearthlaw06 returns true, never panics, and leaves its arguments as they were. Conditions: none beyond those of the given statement MeanStartsSaid. -/
import Derived.Laws.RangeAny
import Derived.KernelRfl
import Derived.Test.YtdddliieplcejaaGreatRows
import Derived.WalkKit
import Derived.ProofKit
import Derived.OpenShut
import Derived.Test.YtdddliieplcejaaGreatD0
import Derived.Test.YtdddliieplcejaaGreatD5
set_option linter.all false
set_option maxRecDepth 100000
set_option maxHeartbeats 0
noncomputable section
section
namespace Mn
open Go TL
section
abbrev aqX:=(List au×Bool×Unit)×Unit
def CJ:Option (List au)->aqX
 |some m=>((m,true,()),())
 |none=>(([],false,()),())
def afs(p:aG)(w:ai)(q:aC):Prop:=∀(v:au),cO p w.bI.length v->xD R178 (w,q,v,()) (CJ (j4 w q v))
section
variable {p:aG}{w:ai}{left:List ax}{f:ax}{at_:Int}{v u:au}{form:Int}
def Mu{B P:Type}(d:Nat):∀(qs:List aC)(vs:List au)(pre:List aC)(xF:List au)(l:List au),qs.length=vs.length->pre.length=xF.length->pre.length+qs.length<=1000->
  (∀q∈qs,afs p w q)->(∀v∈vs,cO p w.bI.length v)->l.length+qR qs<=1000->
  ∀(F:Nat->List au×Int×Unit->Option (LO (List au×Int×Unit) (List au×Bool×Unit) Unit P)),
  (∀n e,F n e=aj (D.bN e.2.1 (aq (pre++qs))) (aB (av e.2.1 (pre++qs)) (aB (av e.2.1 (xF++vs)) (ak (R178 n (n-d) (w,@aN aC (pre++qs) (ah e.2.1) aK,@aN au (xF++vs) (ah e.2.1) az,())) λg=>aj (D.aM g.1.2.1) (some (LO.ret () ([],false,())))
   (aB (cY e.1 g.1.1) (some (LO.next (cM e.1 g.1.1,D.add .i64 e.2.1 1,()))))))) (some (LO.out 0 e)))->
  fE F (l,(pre.length:Int),()) (match eG w qs vs with
   |some m=>.out 0 (l++m,((pre++qs).length:Int),())
   |none=>.ret () ([],false,()))
 |[],[],pre,xF,l,_,_,hb,_,_,_,F,hF=>by unfold eG;refine .out (Ev.of_eq λn=>?_);rw[hF];simp(disch:=omega)only[aY,lB]<;>rfl
 |q::qs,v::vs,pre,xF,l,hl,hp,hb,hq,hv,hw,F,hF=>by
  unfold qR at hw;simp only[fI]at hb;have h1:=hq q eC v (hv v eC);have g1:(pre++q::qs).getD pre.length aK=q:=eU ..;have g2:(xF++v::vs).getD pre.length az=v:=by rw[hp];exact eU ..
  unfold eG;cases hm:j4 w q v with
  |none=>rw[hm]at h1;refine .ret ?_;obtain⟨N,h1⟩:=h1 d;refine⟨N,λn hn=>?_⟩;have:=h1 n hn;simp only at this;show F n _=_;rw[hF];simp(disch:=first|omega|simp only[lX];omega)only[aY,g1,g2];exact(congrArg (λx=>ak x _) this).trans rfl
  |some m=>
   rw[hm]at h1;have hml:=oV q v m hm;have h2:=Mu (B:=B) (P:=P) d qs vs (pre++[q]) (xF++[v]) (l++m) (by simpa using hl) (by simp;omega) (by simp;omega) (λq' h=>hq q' (gL _ h)) (λv' h=>hv v' (gL _ h))
    (by simp;omega) F (λn e=>by rw[hF];simp only[sn,zj]<;>rfl)
   refine(.next (y:=(l++m,((pre++[q]).length:Int),())) ?_ ?_)
   .obtain ⟨N,h1⟩:=h1 d;refine⟨N,λn hn=>?_⟩;have:=h1 n hn;simp only at this;show F n _=_;rw[hF];simp(disch:=first|omega|simp only[lX];omega)only[aY,g1,g2,bW,fH,fJ];refine(nB (λx=>ak x _) this).trans ?_;show TL.aB (cY l m) (some (LO.next (l++m,(pre.length:Int)+1,())))=_;rw[RK (by omega)];simp
   .simp only;cases O3:eG w qs vs with|none=>rw[O3]at h2;exact h2|some m'=>rw[O3]at h2;simpa only[sn,zj]using h2
theorem lq(n k:Nat):R178 n (k+1)=B178 n (R178 n k):=rfl
def agK:∀(q:aC),pw q<=1000->∀(hw:lf p w),afs p w q
 |⟨form,n0,text,parts⟩,dc,hw=>by
  intro v hv;unfold pw at dc;unfold j4;by_cases h1:form=1
  .refine xD.step lq λd=>Ev.of_eq λn=>?_;unfold B178;simp only[aY,h1,fR,CJ]<;>rfl
  rw[bw h1];by_cases h2:form=2
  .refine xD.step lq λd=>Ev.of_eq λn=>?_;unfold B178;simp(disch:=omega)only[aY,h2,fR,CJ]<;>rfl
  rw[bw h2];have cmp:∀u:au,(if wu v u=true then some ([]:List au)else none)=none∧D.ey (D.aO v.Kind u.Kind) (D.ey (D.aO v.N u.N) true)=false∨(if wu v u=true then some ([]:List au)else none)=some []∧D.ey (D.aO v.Kind u.Kind) (D.ey (D.aO v.N u.N) true)=true:=by
   intro u;have:D.ey (D.aO v.Kind u.Kind) (D.ey (D.aO v.N u.N) true)=wu v u:=by rw[Bp];rfl
   rw[this];cases wu v u<;>simp
  by_cases h3:form=3
  .rw[bL h3];refine xD.step lq λd=>Ev.of_eq λn=>?_;unfold B178 BN;obtain⟨e1,e2⟩|⟨e1,e2⟩:=cmp (gF n0)<;>rw[e1]<;>simp(disch:=omega)only[aY,h3,e25,e2,CJ]<;>rfl
  rw[bw h3];by_cases h4:form=4
  .rw[bL h4];refine xD.step lq λd=>Ev.of_eq λn=>?_;unfold B178 BN;obtain⟨e1,e2⟩|⟨e1,e2⟩:=cmp (iw (n0==1))<;>rw[e1]<;>simp(disch:=omega)only[aY,h4,acd,e2,CJ]<;>rfl
  rw[bw h4];by_cases h5:form=5
  .rw[bL h5];refine xD.step lq λd=>Ev.of_eq λn=>?_;unfold B178 BN;obtain⟨e1,e2⟩|⟨e1,e2⟩:=cmp ff<;>rw[e1]<;>simp(disch:=omega)only[aY,h5,Po,e2,CJ]<;>rfl
  rw[bw h5];cases ho:iu w v 1 with
  |none=>refine xD.step lq λd=>Ev.of_eq λn=>?_;unfold B178;simp(disch:=omega)only[aY,lS hv.ref,ho,gJ,CJ]<;>rfl
  |some o=>
   dsimp only;obtain⟨_,h8,_⟩:=ee hw hv ho;by_cases h7:o.N≠n0∨o.bZ.length≠parts.length
   .rw[bL h7];refine xD.step lq λd=>Ev.of_eq λn=>?_;unfold B178;by_cases h9:o.N=n0
    .simp (disch:=omega)only[aY,lS hv.ref,ho,gJ,CJ]<;>rfl
    .simp (disch:=omega)only[aY,lS hv.ref,ho,gJ,CJ]<;>rfl
   .rw[bw h7];have hov:=h8.vals;have qS:parts.length<=qR parts:=abJ parts;refine xD.step lq λd=>?_;have hr:=Mu (p:=p) (w:=w) (B:=Unit) (P:=Any) d parts o.bZ [] [] [] (by omega) rfl (by simp only[AG];omega)
      (λq hq=>abI parts (by omega) hw q hq) hov (by simp only[AG];omega) _ (λn e=>rfl)
    have hB:∀n,B178 n (R178 n (n-d)) (w,⟨form,n0,text,parts⟩,v,())=ak (iter (λe=>aj (D.bN e.2.1 (aq parts)) (aB (av e.2.1 parts) (aB (av e.2.1 o.bZ) (ak (R178 n (n-d) (w,@aN aC parts (ah e.2.1) aK,@aN au o.bZ (ah e.2.1) az,())) λg=>aj (D.aM g.1.2.1) (some (LO.ret () ([],false,())))
   (aB (cY e.1 g.1.1) (some (LO.next (cM e.1 g.1.1,D.add .i64 e.2.1 1,()))))))) (some (LO.out 0 e))) n ([],0,())) λe=>LO.el e (λ_ h=>some ((h.1,true,()),())) (λ_ h=>some (h,())) λ_(_:Any)=>none:=by intro n;unfold B178;simp(disch:=omega)only[aY,lS hv.ref,ho,gJ]<;>rfl
    refine Ev.congr hB (Ev.aU hr (λn e=>_) _ ?_);cases eG w parts o.bZ<;>exact Ev.of_eq λn=>rfl
where
 abJ:∀qs:List aC,qs.length<=qR qs
 |[]=>wZ _
 |⟨_,_,_,_⟩::qs=>by unfold qR pw;have:=abJ qs;simp only[fI];omega
 abI:∀(qs:List aC),qR qs<=1000->∀(hw:lf p w),∀q∈qs,afs p w q
 |[],_,_,_,h=>by cases h
 |q::qs,hp,hw,q',h=>by
  unfold qR at hp;rcases fc.1 h with h|h
  .rw[h];exact agK q (by omega) hw
  .exact abI qs (by omega) hw q' h
def apC{q:aC}(hq:pw q<=1000)(hw:lf p w){v:au}(hv:cO p w.bI.length v):Ev (λn=>F178 n (w,q,v,())) (CJ (j4 w q v)):=agK q hq hw v hv 0
abbrev Z12:=List aE×List Int×List dW×List Int×Int×Int×Int×Int×Int×Int×Int×Unit
def flat(d:aA):Z12:=(d.1.1,d.1.2,d.1.3,d.1.4,d.1.5,d.2,d.3.1,d.3.2,d.3.3,d.3.4.1,d.3.4.2,())
def FA{P:Type}(a:At w at_)(hw:lf p w)(hu:cO p w.bI.length u)(hl:left.length<40){env:List au}(he:env.length<=30){nd:bp}{z:Z12}
  (F:Nat->Int×Z12×Unit->Option (LO (Int×Z12×Unit) Unit (Z12×Unit) P))
  (hF:∀n c,F n c=aj (D.bN c.1 (aq nd.cx)) (aB (av c.1 nd.cx) (ak (F178 n (w,@aN aC nd.cx (ah c.1) aK,u,())) λd=>aj d.1.2.1 (aB (av (D.add .i64 1 c.1) nd.Kids) (aB (cY env d.1.1) (ak (F76 n (w,at_,left,aN nd.Kids (ah (D.add .i64 1 c.1)) 0,cM env d.1.1,())) λe=>some (LO.ret (flat e.1.1,()) ()))))
   (some (LO.next (D.add .i64 c.1 1,c.2))))) (some (LO.out 0 c))) :
  ∀(qs:List aC)(ks:List Int)(pre:List aC)(xY:List Int),nd.cx=pre++qs->nd.Kids=xY++ks->xY.length=pre.length+1->ks.length=qs.length->pre.length+qs.length<=1000->(∀q∈qs,pw q<=12)->
  fE F ((pre.length:Int),z,()) (.out 0 ((nd.cx.length:Int),z,()))∧qK w left env u qs ks=.fail 3∨fE F ((pre.length:Int),z,()) (.ret (flat (dK w at_ (cL w at_) (qK w left env u qs ks)),()) ())
 |[],ks,pre,xY,h1,h2,h3,h4,h5,h6=>by
  have qS:nd.cx.length=pre.length:=by rw[h1];simp
  refine .inl ⟨?_,by cases ks<;>rfl⟩;rw[qS];refine .out (Ev.of_eq λn=>?_);rw[hF];simp(disch:=omega)only[aY,h1,lB]<;>rfl
 |q::qs,[],pre,xY,h1,h2,h3,h4,h5,h6=>by simp at h4
 |q::qs,k::ks,pre,xY,h1,h2,h3,h4,h5,h6=>by
  simp only[fI]at h4 h5;have qS:nd.cx.length=pre.length+(qs.length+1):=by rw[h1];simp
  have hkl:nd.Kids.length=xY.length+(ks.length+1):=by rw[h2];simp
  have g1:nd.cx.getD pre.length aK=q:=by rw[h1];exact eU ..
  have g2:nd.Kids.getD (pre.length+1) 0=k:=by rw[h2,<-h3];exact eU ..
  have Tn:=h6 q eC;have hE:=apC (p:=p) (show pw q<=1000 by omega) hw hu;have e1:(1+(pre.length:Int)).toNat=pre.length+1:=by omega
  have hb:∀n,F n ((pre.length:Int),z,())=ak (F178 n (w,q,u,())) λd=>aj d.1.2.1 (aB (av (D.add .i64 1 pre.length) nd.Kids) (aB (cY env d.1.1) (ak (F76 n (w,at_,left,aN nd.Kids (ah (D.add .i64 1 pre.length)) 0,cM env d.1.1,())) λe=>some (LO.ret (flat e.1.1,()) ()))))
   (some (LO.next (D.add .i64 pre.length 1,z,()))):=by
   intro n;rw[hF];simp(disch:=omega)only[aY,g1]<;>rfl
  unfold qK;cases hm:j4 w q u with
  |none=>
   rw[hm]at hE;have hr:=FA (z:=z) a hw hu hl he F hF qs ks (pre++[q]) (xY++[k]) (by rw[h1];simp) (by rw[h2];simp) (by simp;omega) (by omega) (by simp;omega) (λq' h=>h6 q' (gL _ h));have hn:Ev (λn=>F n ((pre.length:Int),z,())) (.next (((pre++[q]).length:Int),z,())):=by refine Ev.congr hb (Ev.ak hE (Ev.of_eq λn=>?_));simp(disch:=omega)only[aY,CJ,bW,fH,fJ]<;>rfl
   rcases hr with⟨r1,r2⟩|r
   .exact .inl ⟨.next hn r1,r2⟩
   .exact .inr (.next hn r)
  |some m=>rw[hm]at hE;have hml:=oV q u m hm;dsimp only;refine .inr (.ret ?_);refine Ev.congr hb (Ev.ak hE (Ev.of_eq λn=>?_));simp(disch:=omega)only[aY,CJ,bW,e1,g2,e76 a (show left.length<=1000 by omega) (show(env++m).length<=1000 by rw[jg];omega)]<;>rfl
variable {env:List au}{nd:bp}
def apL(a:At w at_)(hp:yV p)(hw:lf p w)(hu:cO p w.bI.length u)(hl:left.length<40)(he:env.length<=30)(hn:Up p nd)(h:nd.Op=15) :
  Ev (λn=>F124 n (w,at_,left,nd,env,u,())) ((dK w at_ (cL w at_) (qK w left env u nd.cx (nd.Kids.drop 1)),()),()):=by
 obtain⟨hk,qS⟩:=hn.mat h;obtain⟨k0,hk0⟩:∃k0,nd.Kids=[k0]++nd.Kids.drop 1:=by cases hc:nd.Kids with|nil=>rw[hc]at hk;simp at hk;omega|cons a l=>exact⟨a,rfl⟩
 have hr:=λ(P:Type)=>FA (P:=P) (nd:=nd) (z:=([],[],[],[],0,0,0,0,0,0,0,())) a hw hu hl he _ (λn c=>rfl) nd.cx (nd.Kids.drop 1) [] [k0] rfl hk0 rfl (by rw[LF];omega) (by simp only[AG];omega) (λq hq=>(hn.pats q hq).1);unfold F124;obtain⟨a1,a2,a3,a4⟩:=a;rcases hr Any with⟨r1,r2⟩|r1
 .rw[r2];refine Ev.aU (F:=λn c=>_) r1 (λn c=>_) _ (Ev.of_eq λn=>?_);show TL.aB _ _=_;simp(disch:=omega)only[aY,cH,dK]<;>rfl
 .exact Ev.aU (F:=λn c=>_) r1 (λn c=>_) _ (Ev.of_eq λn=>rfl)
end
end
section
section
variable {p:aG}{w:ai}{left:List ax}{f:ax}{at_:Int}{v u:au}{form:Int}
theorem ab5(n:Int):p.aW.getD n.toNat aQ=nodeAt p n:=rfl
abbrev D77(p:aG)(w:ai)(at_:Int)(left:List ax)(f:ax):Prop:=Ev (λn=>F77 n (p,w,at_,left,f,())) ((dK w at_ (cL w at_) (jc p w at_ left f),()),())
def d77(c:Cx p w left f)(a:At w at_):D77 p w at_ left f:=by
 have nd:=c.nd;have hw:=c.hw;have hp:=c.hp;have hlen:=c.hw.len;have yT:=c.ll;have h1:=nd.lo;have h2:=nd.hi;have hlo:=c.hf.lo;have hhi:=c.hf.hi;have hel:=c.hf.el;have hfl:=hp.fl;have a':=a;obtain⟨a1,a2,a3,a4⟩:=a;have many:∀k:Int,(nodeAt p f.Node).Op=k->k≠14->k≠15->(nodeAt p f.Node).Kids.length=rJ.getD k.toNat 0:=by intro k h xg Ci;have:=nd.many (by omega) (by omega);rwa [h]at this
 obtain⟨k,hk⟩:∃k:Nat,(nodeAt p f.Node).Op=k:=⟨_,(LH (by omega)).symm⟩;have ke:1<=k:=by omega
 have hk2:k<=28:=by omega
 unfold D77 jc;simp only[hk,Jr]
 match k,hk,ke,hk2 with
 |1,hk,_,_=>have hk:(nodeAt p f.Node).Op=1:=hk;refine Ev.of_eq λn=>?_;unfold F77 rW tR qv me mg iz kD cu;simp(disch:=omega)only[aY,bu,hk,e25,cH,dK,fU]<;>rfl
 |2,hk,_,_=>have hk:(nodeAt p f.Node).Op=2:=hk;refine Ev.of_eq λn=>?_;unfold F77 rW tR qv me mg iz kD cu;simp(disch:=omega)only[aY,bu,hk,acd,cH,dK,fU]<;>rfl
 |3,hk,_,_=>have hk:(nodeAt p f.Node).Op=3:=hk;refine Ev.of_eq λn=>?_;unfold F77 rW tR qv me mg iz kD cu;simp(disch:=omega)only[aY,bu,hk,Po,cH,dK,fU]<;>rfl
 |4,hk,_,_=>
  have hk:(nodeAt p f.Node).Op=4:=hk;have hn:=nd.name hk;refine Ev.of_eq λn=>?_;unfold F77 CD rW tR qv me mg iz kD cu;simp only;by_cases h3:(nodeAt p f.Node).N<0
  .rw[bL h3];simp(disch:=omega)only[aY,bu,hk,ek,cH,dK,fU]<;>rfl
  .rw[bw h3];by_cases h4:(f.Env.length:Int)<=(nodeAt p f.Node).N
   .rw[bL h4];simp(disch:=omega)only[aY,bu,hk,cH,dK,fU]<;>rfl
   .rw[bw h4];simp(disch:=omega)only[aY,bu,hk,cH,dK,fU]<;>rfl
 |5,hk,_,_=>
  have hk:(nodeAt p f.Node).Op=5:=hk;refine Ev.of_eq λn=>?_;unfold F77 Ga Kv Gb CD rW tR qv me mg iz kD cu oX;simp only;by_cases h3:120<=w.bI.length
  .rw[bL h3];simp(disch:=omega)only[aY,bu,hk,cH,dK]<;>rfl
  .rw[bw h3];simp(disch:=first|omega|simp only[lX];omega)only[aY,bu,hk,cH,J9,ek,ju,fH,fJ,Om,dK,fU]<;>rfl
 |6,hk,_,_=>have hk:(nodeAt p f.Node).Op=6:=hk;have hv:=c.vl hk (by decide);simp[dR]at hv;refine Ev.of_eq λn=>?_;unfold F77 gK hG cu;simp(disch:=omega)only[aY,bu,hk,apM a' hp hw (c.val (i:=0) (by omega)) (show left.length<=100 by omega)]<;>rfl
 |7,hk,_,_=>have hk:(nodeAt p f.Node).Op=7:=hk;have hv:=c.vl hk (by decide);simp[dR]at hv;have hm:=many _ hk (by decide) (by decide);have hm:(nodeAt p f.Node).Kids.length=2:=hm;refine Ev.of_eq λn=>?_;unfold F77 gK hG cu;simp(disch:=omega)only[aY,bu,hk,e74,e76 a' (show left.length<=1000 by omega) (show(f.Env++[bQ f.bZ 0]).length<=1000 by simp;omega)]<;>rfl
 |8,hk,_,_=>
  have hk:(nodeAt p f.Node).Op=8:=hk;have hv:=c.vl hk (by decide);simp[dR]at hv;have hm:=many _ hk (by decide) (by decide);have hm:(nodeAt p f.Node).Kids.length=3:=hm;refine Ev.of_eq λn=>?_;unfold F77 gK hG CD rW tR qv me mg iz kD cu;simp only;by_cases h3:(bQ f.bZ 0).Kind=2
  .have:=(c.val (i:=0) (by omega)).US h3;rw[bw (by omega)];simp(disch:=omega)only[aY,bu,hk,ek,e76 a' (show left.length<=1000 by omega) (show f.Env.length<=1000 by omega)]<;>rfl
  .rw[bL h3];simp(disch:=omega)only[aY,bu,hk,cH,dK]<;>rfl
 |9,hk,_,_=>have hv:=c.vl hk (by decide);simp[dR]at hv;refine Ev.of_eq λn=>?_;unfold F77 gz gK hG cu;simp(disch:=omega)only[aY,bu,hk,bG,Xs (left:=left) (op:=((9:Nat):Int)) a' (by omega) (c.val (i:=0) (by omega)) (c.val (i:=1) (by omega))]<;>rfl
 |10,hk,_,_=>have hv:=c.vl hk (by decide);simp[dR]at hv;refine Ev.of_eq λn=>?_;unfold F77 gz gK hG cu;simp(disch:=omega)only[aY,bu,hk,bG,Xs (left:=left) (op:=((10:Nat):Int)) a' (by omega) (c.val (i:=0) (by omega)) (c.val (i:=1) (by omega))]<;>rfl
 |11,hk,_,_=>have hv:=c.vl hk (by decide);simp[dR]at hv;refine Ev.of_eq λn=>?_;unfold F77 gz gK hG cu;simp(disch:=omega)only[aY,bu,hk,bG,Xs (left:=left) (op:=((11:Nat):Int)) a' (by omega) (c.val (i:=0) (by omega)) (c.val (i:=1) (by omega))]<;>rfl
 |12,hk,_,_=>have hv:=c.vl hk (by decide);simp[dR]at hv;refine Ev.of_eq λn=>?_;unfold F77 gz gK hG cu;simp(disch:=omega)only[aY,bu,hk,bG,Xs (left:=left) (op:=((12:Nat):Int)) a' (by omega) (c.val (i:=0) (by omega)) (c.val (i:=1) (by omega))]<;>rfl
 |13,hk,_,_=>have hv:=c.vl hk (by decide);simp[dR]at hv;refine Ev.of_eq λn=>?_;unfold F77 gz gK hG cu;simp(disch:=omega)only[aY,bu,hk,bG,Xs (left:=left) (op:=((13:Nat):Int)) a' (by omega) (c.val (i:=0) (by omega)) (c.val (i:=1) (by omega))]<;>rfl
 |14,hk,_,_=>
  have hk:(nodeAt p f.Node).Op=14:=hk;refine Ev.of_eq λn=>?_;have N5:=zF hp nd;have hf:=c.full;unfold pH at hf;rw[bL (show(nodeAt p f.Node).Op=14 from hk)]at hf;unfold F77 FZ gz Kv Gb CD rW tR qv me mg iz kD cu oX;simp only;by_cases h3:120<=w.bI.length
  .rw[bL h3];simp(disch:=omega)only[aY,bu,hk,bG,cH,dK]<;>rfl
  .rw[bw h3];simp(disch:=first|omega|simp only[lX];omega)only[aY,bu,hk,bG,cH,J9,ek,ju,fH,fJ,Om,dK,fU]<;>rfl
 |15,hk,_,_=>have hk:(nodeAt p f.Node).Op=15:=hk;have hv:=c.vl hk (by decide);simp[dR]at hv;unfold F77 gz gK hG cu;simp(disch:=omega)only[aY,bu,hk,bG];exact Ev.ak (apL a' hp hw (c.val (i:=0) (by omega)) yT hel nd hk) (Ev.pure _)
 |16,hk,_,_=>have hk:(nodeAt p f.Node).Op=16:=hk;have hv:=c.vl hk (by decide);simp[dR]at hv;refine Ev.of_eq λn=>?_;unfold F77 yE gz cu;simp(disch:=omega)only[aY,bu,hk,bG,TV a' hw (show 0<f.bZ.length by omega)]<;>rfl
 |17,hk,_,_=>have hk:(nodeAt p f.Node).Op=17:=hk;have hv:=c.vl hk (by decide);simp[dR]at hv;refine Ev.of_eq λn=>?_;unfold F77 yE gz cu;simp(disch:=omega)only[aY,bu,hk,bG,Xr a' hw (show 0<f.bZ.length by omega) (c.val (i:=0) (by omega))]<;>rfl
 |18,hk,_,_=>have hk:(nodeAt p f.Node).Op=18:=hk;have hv:=c.vl hk (by decide);simp[dR]at hv;refine Ev.of_eq λn=>?_;unfold F77 yE gz cu;simp(disch:=omega)only[aY,bu,hk,bG,Xq a' hw (show 1<f.bZ.length by omega) (c.val (i:=0) (by omega))]<;>rfl
 |19,hk,_,_=>have hk:(nodeAt p f.Node).Op=19:=hk;have hv:=c.vl hk (by decide);simp[dR]at hv;refine Ev.of_eq λn=>?_;unfold F77 gz gK hG cu;simp(disch:=omega)only[aY,bu,hk,bG,apJ a' hp hw (c.val (i:=0) (by omega))]<;>rfl
 |20,hk,_,_=>have hk:(nodeAt p f.Node).Op=20:=hk;have hv:=c.vl hk (by decide);simp[dR]at hv;refine Ev.of_eq λn=>?_;unfold F77 gz gK hG cu;simp(disch:=omega)only[aY,bu,hk,bG,apI a' hw (c.val (i:=0) (by omega))]<;>rfl
 |21,hk,_,_=>
  have hk:(nodeAt p f.Node).Op=21:=hk;refine Ev.of_eq λn=>?_;unfold F77 FY gz Gb CD rW tR qv me mg iz kD cu oX;simp only;by_cases h3:120<=w.bI.length
  .rw[bL h3];simp(disch:=omega)only[aY,bu,hk,bG,cH,Po,wL,fR,dK]<;>rfl
  .rw[bw h3];simp(disch:=first|omega|simp only[lX];omega)only[aY,bu,hk,bG,cH,Po,J9,ek,ju,fH,fJ,Om,wL,Int.reduceEq,eO,dK,fU]<;>rfl
 |22,hk,_,_=>have hk:(nodeAt p f.Node).Op=22:=hk;have hv:=c.vl hk (by decide);simp[dR]at hv;refine Ev.of_eq λn=>?_;unfold F77 yE gz cu;simp(disch:=omega)only[aY,bu,hk,bG,TU a' hw (show 1<f.bZ.length by omega) (c.val (i:=0) (by omega))]<;>rfl
 |23,hk,_,_=>have hk:(nodeAt p f.Node).Op=23:=hk;have hv:=c.vl hk (by decide);simp[dR]at hv;refine Ev.of_eq λn=>?_;unfold F77 yE gz cu;simp(disch:=omega)only[aY,bu,hk,bG,TT a' hw (show 0<f.bZ.length by omega) (c.val (i:=0) (by omega))]<;>rfl
 |24,hk,_,_=>have hk:(nodeAt p f.Node).Op=24:=hk;have hv:=c.vl hk (by decide);simp[dR]at hv;refine Ev.of_eq λn=>?_;unfold F77 gz cu;simp(disch:=omega)only[aY,bu,hk,bG,Xp a' hw hk (show 0<f.bZ.length by omega)]<;>rfl
 |25,hk,_,_=>have hk:(nodeAt p f.Node).Op=25:=hk;refine Ev.of_eq λn=>?_;unfold F77 gz cu;simp(disch:=omega)only[aY,bu,hk,bG,aa0 a' hw hk]<;>rfl
 |26,hk,_,_=>have hk:(nodeAt p f.Node).Op=26:=hk;have hv:=c.vl hk (by decide);simp[dR]at hv;refine Ev.of_eq λn=>?_;unfold F77 gz gK hG CD rW tR qv me mg iz kD cu;simp(disch:=omega)only[aY,bu,hk,bG,cH,dK,fU]<;>rfl
 |27,hk,_,_=>have hk:(nodeAt p f.Node).Op=27:=hk;have hm:=many _ hk (by decide) (by decide);have hm:(nodeAt p f.Node).Kids.length=1:=hm;unfold F77 gz cu;simp(disch:=omega)only[aY,bu,hk,bG];exact Ev.ak (apK a' hw yT (λg hg=>⟨(c.left g hg).1.lo,(c.left g hg).1.hi⟩) (by omega)) (Ev.pure _)
 |28,hk,_,_=>have hk:(nodeAt p f.Node).Op=28:=hk;refine Ev.of_eq λn=>?_;unfold F77 gz rW tR qv me mg iz kD cu;simp(disch:=omega)only[aY,bu,hk,bG,cH,Po,wL,Int.reduceEq,eO,dK,fU]<;>rfl
 |k+29,hk,_,h=>omega
def CQ(w:ai):Option (ai×Option aS)->aA
 |none=>⟨w,2,aZ⟩
 |some (w',none)=>⟨w',0,aZ⟩
 |some (w',some e)=>⟨w',1,e⟩
def U4{l:List ax}{g x:ax}:(l++[g]).set l.length x=l++[x]:=by rw[List.set_append_right _ _ (bT _),Nat.sub_self];rfl
def d40(hp:yV p)(hw:lf p w)(h0:0<=at_)(h1:at_<w.cU.length):Ev (λn=>F40 n (p,w,at_,())) ((CQ w (qY p w at_),()),()):=by
 obtain⟨t1,t2,t3⟩:=hw.task _ (cG 0 (show at_.toNat<w.cU.length by omega));have ho:=hw.ob t1 t2;change 0<=cL w at_ at t1;change cL w at_<_ at t2;change(eF w (cL w at_)).Form=6 at t3;change iF p _ (eF w (cL w at_))at ho;have e2:lu (p,w,at_,())=(cL w at_).toNat:=rfl;have e1:Se (p,w,at_,())=av (cL w at_) w.bI:=rfl;unfold qY F40 Sd rX;simp only[e1];by_cases hN:(eF w (cL w at_)).N=0
 .rw[bw (by omega)];by_cases hfr:(eF w (cL w at_)).Frames=[]
  .rw[bL hfr];obtain⟨v,hv,yS⟩:=Fm ho t3 hN hfr;have e3:tT (p,w,at_,())=-1:=by unfold tT;simp only[e2];simp only[aY,bu,hfr];rfl
   refine Ev.of_eq λn=>?_;simp(disch:=first|omega|simp only[lX];omega)only[aY,e2,e3,bu,hN,hfr,hv,e73,cH,List.getD_cons_zero]<;>rfl
  .rw[bw hfr];obtain⟨l,g,Rq⟩:∃l g,(eF w (cL w at_)).Frames=l++[g]:=⟨_,_,A0 hfr⟩;obtain⟨hg,hl,yT,hvs⟩:=Et ho t3 hN Rq;have l5:=hp.nd hg.lo hg.hi;have Ws:(l++[g]).length-1=l.length:=by simp
   have xd:(l++[g]).take l.length=l:=List.take_left;have cJ:(l++[g]).getD l.length aX=g:=eU ..;have e3:tT (p,w,at_,())=(l.length:Int):=by unfold tT;simp only[e2];simp(disch:=omega)only[aY,bu,Rq,ek];omega
   have hlo:=hg.lo;have hhi:=hg.hi;have hvl:g.bZ.length<=1000:=by have h1:=hg.vl;have h2:=oB l5;have h3:=zF hp l5;omega
   unfold goS;simp only[Rq,Ws,xd,cJ];rcases hvs with hv|⟨v,hv,yS,hop⟩
   .simp only[hv];by_cases hk:(g.bZ.length:Int)<pH (nodeAt p g.Node)
    .rw[bL hk];have:=oB l5;have h76:=λn=>e76 (n:=n) (w:=w) (at_:=at_) (left:=l++[g]) (node:=(nodeAt p g.Node).Kids.getD g.bZ.length 0) (env:=g.Env) ⟨h0,h1,t1,t2⟩ (by simp;omega) (by have:=hg.el;omega);refine Ev.of_eq λn=>?_;simp(disch:=first|omega|simp only[lX];omega)only[aY,e2,e3,bu,hN,Rq,hv,cJ,zy,ab5,e75 _ l5.lo l5.hi,h76];unfold kS;split<;>rfl
    .rw[bw hk];have c:Cx p w l g:=⟨hp,hw,hg,by have:=hg.vl;omega,yT,hl⟩;have hd:=d77 c ⟨h0,h1,t1,t2⟩;unfold D77 at hd;simp(disch:=first|omega|simp only[lX];omega)only[aY,e2,e3,bu,hN,Rq,hv,cJ,zy,ab5,e75 _ l5.lo l5.hi,r8,xd];refine Ev.ak hd ?_;cases jc p w at_ l g with|waits=>exact Ev.pure _|fail s=>exact Ev.pure _|go w' fr bk e=>cases e<;>exact Ev.pure _
   .simp only[hv];refine Ev.of_eq λn=>?_;simp(disch:=first|omega|simp only[lX];omega)only[aY,e2,e3,bu,hN,Rq,hv,cJ,zy,cH,List.getD_cons_zero,e74,U4]<;>rfl
 .rw[bL hN];refine Ev.of_eq λn=>?_;simp(disch:=omega)only[aY,e2,bu,hN]<;>rfl
end
end
section
def GJ(p:aG)(at_:Int):Nat->ai->Nat->Option (ai×Nat)
 |0,_,_=>none
 |k+1,w,s=>match qY p w at_ with
  |some (w',none)=>if 5000<s+1 then none else GJ p at_ k w' (s+1)
  |_=>some (w,s)
def gP(p:aG):Nat->Nat->ai->Nat->Option (ai×Nat)
 |0,_,w,s=>some (w,s)
 |m+1,i,w,s=>match GJ p i 5002 w s with
  |none=>none
  |some (w',s')=>gP p m (i+1) w' s'
section
variable {p:aG}{w:ai}{at_:Int}
def Dc(hp:yV p):∀(k:Nat)(w:ai)(s:Nat)(w':ai)(s':Nat),lf p w->0<=at_->at_<w.cU.length->GJ p at_ k w s=some (w',s')->lf p w'∧w'.cU=w.cU∧s<=s'∧(s'<=s∨s'<=5000)
 |0,w,s,w',s',hw,h0,h1,h=>by cases h
 |k+1,w,s,w',s',hw,h0,h1,h=>by
  unfold GJ at h;cases hs:qY p w at_ with
  |none=>rw[hs]at h;cases h;exact⟨hw,rfl,bT _,.inl (bT _)⟩
  |some r=>
   obtain⟨w1,e⟩:=r;rw[hs]at h;cases e with
   |some e=>cases h;exact⟨hw,rfl,bT _,.inl (bT _)⟩
   |none=>
    obtain⟨g1,g2,g3⟩:=DG hp hw h0 h1 hs;have ht:=g3 rfl;simp only at h;split at h
    .cases h
    .rename_i h5;obtain⟨a,b,c,d⟩:=Dc hp k w1 (s+1) w' s' g1 h0 (by rw[ht];exact h1) h;exact⟨a,b.trans ht,by omega,by omega⟩
def DO(hp:yV p):∀(m i:Nat)(w:ai)(s:Nat)(w':ai)(s':Nat),lf p w->i+m<=w.cU.length->gP p m i w s=some (w',s')->lf p w'∧w'.cU=w.cU∧s<=s'∧(s'<=s∨s'<=5000)
 |0,i,w,s,w',s',hw,hi,h=>by cases h;exact⟨hw,rfl,bT _,.inl (bT _)⟩
 |m+1,i,w,s,w',s',hw,hi,h=>by
  unfold gP at h;split at h
  .cases h
  .rename_i w1 s1 hr;obtain⟨a,b,c,d⟩:=Dc hp _ w s w1 s1 hw (by omega) (by omega) hr;obtain⟨a',b',c',d'⟩:=DO hp m (i+1) w1 s1 w' s' a (by rw[b];omega) h;exact⟨a',b'.trans b,by omega,by omega⟩
def Lw(hp:yV p)(F:Nat->Int×RB×Unit->Option (LO (Int×RB×Unit) (Int×Bool×Unit) (RB×Unit) Any))
  (hF:∀n d,F n d=ak (F70 n (d.2.1,at_,())) λe=>ak (F71 n e.1) λg=>aj (D.aM (D.aO g.1.1 0)) (some (LO.out 0 d)) (aj (D.bN 5000 (D.add .i64 d.1 1)) (some (LO.ret d.2 (0,false,()))) (some (LO.next (D.add .i64 d.1 1,e.2))))) :
  ∀(k:Nat)(w:ai)(s:Nat),lf p w->0<=at_->at_<w.cU.length->s<=5001->5002<=k+s->
  (∃w' s',GJ p at_ k w s=some (w',s')∧fE F ((s:Int),rb p w,()) (.out 0 ((s':Int),rb p w',())))∨
  (GJ p at_ k w s=none∧∃R,fE F ((s:Int),rb p w,()) (.ret R (0,false,())))
 |0,w,s,hw,h0,h1,hs,hk=>by omega
 |k+1,w,s,hw,h0,h1,hs,hk=>by
  have he:=e70 hp hw h0 h1;unfold GJ;cases hst:qY p w at_ with
  |none=>rw[hst]at he;refine .inl ⟨w,s,rfl,.out ?_⟩;refine Ev.congr (λn=>hF n _) (Ev.ak he (Ev.of_eq λn=>?_));simp(disch:=omega)only[aY,Lm,aiJ]<;>rfl
  |some r=>
   obtain⟨w1,e⟩:=r;rw[hst]at he;cases e with
   |some e=>refine .inl ⟨w,s,rfl,.out ?_⟩;refine Ev.congr (λn=>hF n _) (Ev.ak he (Ev.of_eq λn=>?_));simp(disch:=omega)only[aY,Lm,aaV]<;>rfl
   |none=>
    obtain⟨g1,g2,g3⟩:=DG hp hw h0 h1 hst;have ht:=g3 rfl;simp only;by_cases h5:5000<s+1
    .rw[bL h5];refine .inr ⟨rfl,(rb p w,()),.ret ?_⟩;refine Ev.congr (λn=>hF n _) (Ev.ak he (Ev.of_eq λn=>?_));simp(disch:=omega)only[aY,Lm,aaV,bW]<;>rfl
    .rw[bw h5];have hn:Ev (λn=>F n ((s:Int),rb p w,())) (.next (((s+1:Nat):Int),rb p w1,())):=by refine Ev.congr (λn=>hF n _) (Ev.ak he (Ev.of_eq λn=>?_));simp(disch:=omega)only[aY,Lm,aaV,bW,fH,fJ]<;>rfl
     rcases Lw hp F hF k w1 (s+1) g1 h0 (by rw[ht];exact h1) (by omega) (by omega)with⟨w',s',a,b⟩|⟨a,R,b⟩
     .exact .inl ⟨w',s',a,.next hn b⟩
     .exact .inr ⟨a,R,.next hn b⟩
theorem fu{X R B P α:Type}(j:Nat)(x:X)(f:Nat->X->Option α)(g:B->R->Option α)(h:B->P->Option α):LO.el (.out j x) f g h=f j x:=rfl
theorem uY{X R B P α:Type}(b:B)(r:R)(f:Nat->X->Option α)(g:B->R->Option α)(h:B->P->Option α):LO.el (.ret b r) f g h=g b r:=rfl
theorem Wg{X R B P α:Type}(b:B)(r:R)(e:X->Option α)(f:Nat->X->Option α)(g:B->R->Option α)(h:B->P->Option α):LO.jn (.ret b r) e f g h=g b r:=rfl
def BQ(hp:yV p){N0:Nat}(F:Nat->Int×Int×RB×Unit->Option (LO (Int×Int×RB×Unit) (Int×Bool×Unit) (RB×Unit) Any))
  (hF:∀n c,F n c=aj (D.bN c.2.1 (N0:Int)) (ak (iter (λd:Int×RB×Unit=>ak (F70 n (d.2.1,c.2.1,())) λe=>ak (F71 n e.1) λg=>aj (D.aM (D.aO g.1.1 0)) (some (LO.out 0 d)) (aj (D.bN 5000 (D.add .i64 d.1 1)) (some (LO.ret (P:=Any) d.2 (0,false,()))) (some (LO.next (D.add .i64 d.1 1,e.2))))) n (c.1,c.2.2)) λd=>LO.el d (λ_ g=>some (LO.next (g.1,D.add .i64 c.2.1 1,g.2))) (λe g=>some (LO.ret e g)) λ_ _=>none) (some (LO.out 0 c))) :
  ∀(m i:Nat)(w:ai)(s:Nat),lf p w->i+m=N0->N0=w.cU.length->s<=5001->
  (∃w' s',gP p m i w s=some (w',s')∧fE F ((s:Int),(i:Int),rb p w,()) (.out 0 ((s':Int),(N0:Int),rb p w',())))∨
  (gP p m i w s=none∧∃R,fE F ((s:Int),(i:Int),rb p w,()) (.ret R (0,false,())))
 |0,i,w,s,hw,hi,hN,hs=>by
  refine .inl ⟨w,s,rfl,?_⟩;have:i=N0:=by omega
  subst this;refine .out (Ev.of_eq λn=>?_);rw[hF];simp(disch:=omega)only[aY]<;>rfl
 |m+1,i,w,s,hw,hi,hN,hs=>by
  have hl:=hw.tl;have hl':=hw.len;unfold gP;rcases Lw (at_:=(i:Int)) hp _ (λn d=>rfl) 5002 w s hw (by omega) (by omega) hs (by omega)with⟨w1,s1,a,b⟩|⟨a,R,b⟩
  .rw[a];simp only;obtain⟨c1,c2,c3,c4⟩:=Dc hp _ w s w1 s1 hw (by omega) (by omega) a;have hn:Ev (λn=>F n ((s:Int),(i:Int),rb p w,())) (.next ((s1:Int),((i+1:Nat):Int),rb p w1,())):=by refine Ev.congr (λn=>(hF n _).trans (AE (by simp only;omega) _ _)) ?_;refine Ev.aU b (λn c=>_) _ (Ev.of_eq λn=>?_);rw[fu];simp(disch:=omega)only[aY,bW,fH,fJ]
   rcases BQ hp F hF m (i+1) w1 s1 c1 (by omega) (by rw[c2];exact hN) (by omega)with⟨w',s',x,y⟩|⟨x,R,y⟩
   .exact .inl ⟨w',s',x,.next hn y⟩
   .exact .inr ⟨x,R,.next hn y⟩
  .rw[a];refine .inr ⟨rfl,R,.ret ?_⟩;refine Ev.congr (λn=>(hF n _).trans (AE (by simp only;omega) _ _)) ?_;refine Ev.aU b (λn c=>_) _ (Ev.of_eq λn=>?_);rw[uY]
variable {N0 s:Nat}
def e50(hp:yV p)(hw:lf p w)(hs:s<=5001) :
  (∃w' s',gP p w.cU.length 0 w s=some (w',s')∧Ev (λn=>F50 n (rb p w,(s:Int),())) (((s':Int),true,()),rb p w',()))∨
  (gP p w.cU.length 0 w s=none∧∃R,Ev (λn=>F50 n (rb p w,(s:Int),())) ((0,false,()),R)):=by
 unfold F50;rcases BQ hp (N0:=w.cU.length) _ (λn c=>rfl) w.cU.length 0 w s hw (by omega) rfl hs with⟨w',s',a,b⟩|⟨a,R,b⟩
 .exact .inl ⟨w',s',a,Ev.aU (F:=λn c=>_) b (λn c=>_) _ (Ev.of_eq λn=>rfl)⟩
 .exact .inr ⟨a,R,Ev.aU (F:=λn c=>_) b (λn c=>_) _ (Ev.of_eq λn=>rfl)⟩
abbrev Z5:=List aE×List Int×List dW×List Int×Int×Unit
variable {z:Z5}
abbrev w5(w:ai):Z5:=(w.bI,w.cU,w.nw,w.CY,w.Used,())
def Nc(hp:yV p){z:Z5}(F:Nat->Int×Z5×Z5×Z12×Unit->Option (LO (Int×Z5×Z5×Z12×Unit) (Int×Bool×Unit) (Z5×Z5×Z12×Unit) Any))
  (hF:∀n e,F n e=aj (D.aO e.2.2.2.1.2.2.2.2.2.1 0) (aj (D.bN 5000 (D.add .i64 e.1 1)) (some (LO.ret (e.2.1,e.2.1,e.2.2.2) (D.add .i64 e.1 1,false,()))) (ak (F40 n (p,ai.mk e.2.2.2.1.1 e.2.2.2.1.2.1 e.2.2.2.1.2.2.1 e.2.2.2.1.2.2.2.1 e.2.2.2.1.2.2.2.2.1,at_,())) λg=>some (LO.next (D.add .i64 e.1 1,(e.2.2.2.1.1,e.2.2.2.1.2.1,e.2.2.2.1.2.2.1,e.2.2.2.1.2.2.2.1,e.2.2.2.1.2.2.2.2.1,()),e.2.2.1,IZ g)))) (some (LO.out 0 e))) :
  ∀(k:Nat)(w:ai)(s:Nat),lf p w->0<=at_->at_<w.cU.length->s<=5001->5002<=k+s->
  (∃w' s' q,GJ p at_ k w s=some (w',s')∧fE F ((s:Int),w5 w,z,flat (CQ w (qY p w at_)),()) (.out 0 ((s':Int),w5 w',z,q,())))∨
  (GJ p at_ k w s=none∧∃R s',fE F ((s:Int),w5 w,z,flat (CQ w (qY p w at_)),()) (.ret R (s',false,())))
 |0,w,s,hw,h0,h1,hs,hk=>by omega
 |k+1,w,s,hw,h0,h1,hs,hk=>by
  unfold GJ;cases hst:qY p w at_ with
  |none=>refine .inl ⟨w,s,flat (CQ w none),rfl,.out (Ev.of_eq λn=>?_)⟩;rw[hF];simp(disch:=omega)only[aY,flat,CQ]<;>rfl
  |some r=>
   obtain⟨w1,e⟩:=r;cases e with
   |some e=>refine .inl ⟨w,s,flat (CQ w (some (w1,some e))),rfl,.out (Ev.of_eq λn=>?_)⟩;rw[hF];simp(disch:=omega)only[aY,flat,CQ]<;>rfl
   |none=>
    obtain⟨g1,g2,g3⟩:=DG hp hw h0 h1 hst;have ht:=g3 rfl;simp only;by_cases h5:5000<s+1
    .rw[bL h5];refine .inr ⟨rfl,(w5 w,w5 w,flat (CQ w (some (w1,none))),()),((s+1:Nat):Int),.ret (Ev.of_eq λn=>?_)⟩;rw[hF];simp(disch:=omega)only[aY,flat,CQ,bW,fH,fJ]<;>rfl
    .rw[bw h5];have he:=d40 hp g1 h0 (show at_<w1.cU.length by rw[ht];exact h1);have hn:Ev (λn=>F n ((s:Int),w5 w,z,flat (CQ w (some (w1,none))),())) (.next (((s+1:Nat):Int),w5 w1,z,flat (CQ w1 (qY p w1 at_)),())):=by
      refine Ev.congr (g:=λn=>ak (F40 n (p,w1,at_,())) λg=>some (LO.next ((s:Int)+1,w5 w1,z,IZ g))) (λn=>?_) (Ev.ak he (Ev.of_eq λn=>?_))
      .rw[hF];simp(disch:=omega)only[aY,flat,CQ,bW,fH,fJ]<;>rfl
      .simp only[fH,fJ];rfl
     rcases Nc hp F hF k w1 (s+1) g1 h0 (by rw[ht];exact h1) (by omega) (by omega)with⟨w',s',q,a,b⟩|⟨a,R,s',b⟩
     .exact .inl ⟨w',s',q,a,.next hn b⟩
     .exact .inr ⟨a,R,s',.next hn b⟩
def IA(hp:yV p){N0:Nat}{z:Z5}(F:Nat->Int×Int×Z5×Z5×Unit->Option (LO (Int×Int×Z5×Z5×Unit) (Int×Bool×Unit) (Z5×Z5×Unit) Any))
  (hF:∀n c,F n c=aj (D.bN c.2.1 (aq c.2.2.1.2.1)) (ak (F40 n (p,Yq c,c.2.1,())) λd=>ak (iter (λe:Int×Z5×Z5×Z12×Unit=>aj (D.aO e.2.2.2.1.2.2.2.2.2.1 0) (aj (D.bN 5000 (D.add .i64 e.1 1)) (some (LO.ret (P:=Any) (e.2.1,e.2.1,e.2.2.2) (D.add .i64 e.1 1,false,()))) (ak (F40 n (p,ai.mk e.2.2.2.1.1 e.2.2.2.1.2.1 e.2.2.2.1.2.2.1 e.2.2.2.1.2.2.2.1 e.2.2.2.1.2.2.2.2.1,c.2.1,())) λg=>some (LO.next (D.add .i64 e.1 1,(e.2.2.2.1.1,e.2.2.2.1.2.1,e.2.2.2.1.2.2.1,e.2.2.2.1.2.2.2.1,e.2.2.2.1.2.2.2.2.1,()),e.2.2.1,IZ g)))) (some (LO.out 0 e))) n (c.1,c.2.2.1,c.2.2.2.1,IZ d)) λe=>LO.el e (λ_ h=>some (LO.next (h.1,D.add .i64 c.2.1 1,h.2.1,h.2.2.1,()))) (λg h=>some (LO.ret (g.1,g.2.1,()) h)) λ_ _=>none) (some (LO.out 0 c))) :
  ∀(m i:Nat)(w:ai)(s:Nat),lf p w->i+m=N0->N0=w.cU.length->s<=5001->
  (∃w' s',gP p m i w s=some (w',s')∧fE F ((s:Int),(i:Int),w5 w,z,()) (.out 0 ((s':Int),(N0:Int),w5 w',z,())))∨
  (gP p m i w s=none∧∃R s',fE F ((s:Int),(i:Int),w5 w,z,()) (.ret R (s',false,())))
 |0,i,w,s,hw,hi,hN,hs=>by
  refine .inl ⟨w,s,rfl,?_⟩;have:i=N0:=by omega
  subst this;refine .out (Ev.of_eq λn=>?_);rw[hF];simp(disch:=omega)only[aY]<;>rfl
 |m+1,i,w,s,hw,hi,hN,hs=>by
  have hl:=hw.tl;have hl':=hw.len;have he:=d40 (at_:=(i:Int)) hp hw (by omega) (by omega);unfold gP;rcases Nc (at_:=(i:Int)) (z:=z) hp _ (λn d=>rfl) 5002 w s hw (by omega) (by omega) hs (by omega)with⟨w1,s1,q,a,b⟩|⟨a,R,s1,b⟩
  .rw[a];simp only;obtain⟨c1,c2,c3,c4⟩:=Dc hp _ w s w1 s1 hw (by omega) (by omega) a;have hn:Ev (λn=>F n ((s:Int),(i:Int),w5 w,z,())) (.next ((s1:Int),((i+1:Nat):Int),w5 w1,z,())):=by refine Ev.congr (λn=>(hF n _).trans (AE (by simp only[aq];omega) _ _)) ?_;refine Ev.ak he ?_;refine Ev.aU b (λn c=>_) _ (Ev.of_eq λn=>?_);rw[fu];simp(disch:=omega)only[aY,bW,fH,fJ]
   rcases IA (N0:=N0) (z:=z) hp F hF m (i+1) w1 s1 c1 (by omega) (by rw[c2];exact hN) (by omega)with⟨w',s',x,y⟩|⟨x,R,s',y⟩
   .exact .inl ⟨w',s',x,.next hn y⟩
   .exact .inr ⟨x,R,s',.next hn y⟩
  .rw[a];refine .inr ⟨rfl,(R.1,R.2.1,()),s1,.ret ?_⟩;refine Ev.congr (λn=>(hF n _).trans (AE (by simp only[aq];omega) _ _)) ?_;refine Ev.ak he ?_;refine Ev.aU b (λn c=>_) _ (Ev.of_eq λn=>?_);rw[uY]
def e33(hp:yV p)(hw:lf p w)(hs:s<=5001) :
  (∃w' s',gP p w.cU.length 0 w s=some (w',s')∧Ev (λn=>F33 n (p,w,(s:Int),())) ((w',(s':Int),true,()),()))∨
  (gP p w.cU.length 0 w s=none∧∃w' s',Ev (λn=>F33 n (p,w,(s:Int),())) ((w',s',false,()),())):=by
 unfold F33;rcases IA hp (N0:=w.cU.length) (z:=([],[],[],[],0,())) _ (λn c=>rfl) w.cU.length 0 w s hw (by omega) rfl hs with⟨w',s',a,b⟩|⟨a,R,s',b⟩
 .exact .inl ⟨w',s',a,Ev.aU (F:=λn c=>_) b (λn c=>_) _ (Ev.of_eq λn=>rfl)⟩
 .exact .inr ⟨a,_,s',Ev.aU (F:=λn c=>_) b (λn c=>_) _ (Ev.of_eq λn=>rfl)⟩
end
end
section
section
variable {n:Nat}{p:aG}{w:ai}{at_:Int}
theorem e49(l:List Int):F49 n (l,())=some ((l,()),()):=rfl
theorem e90(l:List dW):F90 n (l,())=some ((l,()),()):=rfl
theorem e92(k:Int):F92 n (k,())=some ((k,()),()):=rfl
variable {i:Nat}{o:aE}
def Lr{α:Type}{l:List α}{d x:α}(h:i<l.length)(hx:x=l.getD i d):l.set i x=l:=by subst hx;rw[pQ,gm h];exact List.set_getElem_self h
theorem apr(v:ax):ax.mk v.Node v.Env v.bZ=v:=rfl
def Bg{l:List au}(hl:l.length<=1000):Ev (λn=>tS n ((l,()),())) (.out 0 (l,(l.length:Int),())):=by
 unfold tS;refine Ev.iter (F:=λn c=>_) (rI (s:=λi=>(l,(i:Int),())) l.length 0 (λi hi=>Ev.of_eq λn=>?_) (Ev.of_eq λn=>?_))
 .by_cases h5:(l.getD i az).Kind=5
  .simp (disch:=omega)only[aY,h5,e92,bW,fH,fJ];rw[Lr hi (by rw[<-h5])]
  .simp (disch:=omega)only[aY,h5,bW,fH,fJ]<;>rfl
 .simp (disch:=omega)only[aY]<;>rfl
def Nd{l:List ax}{a b:Int}{vs:List au}(hl:l.length<=1000)(hf:∀g∈l,g.Env.length<=1000∧g.bZ.length<=1000)(F:Nat->Int×(Int×Int×List au×List ax×Unit)×Unit->Option (LO (Int×(Int×Int×List au×List ax×Unit)×Unit) Unit ((Int×Int×List au×List ax×Unit)×Unit) Any))
  (hF:∀n m,F n m=aj (D.bN m.1 (aq l)) (aB (av m.1 m.2.1.2.2.2.1) (aB (cw (ah m.1) m.2.1.2.2.2.1) (ak (F159 n ((xA m).2,())) λo=>ak (tS n o) λp=>LO.el p (λ_ r=>Sc n m r) (λ_ r=>Sb n m r) λ_ _=>none))) (some (LO.out 0 m))) :
  fE F (0,(a,b,vs,l,()),()) (.out 0 ((l.length:Int),(a,b,vs,l,()),())):=by
 refine rI (s:=λi=>((i:Int),(a,b,vs,l,()),())) l.length 0 (λi hi=>?_) (Ev.of_eq λn=>?_)
 .have hg:=hf _ (cG aX hi);refine Ev.congr (g:=λn=>ak (tS n (((l.getD i aX).Env,()),())) λp=>LO.el p (λ_ r=>Sc n ((i:Int),(a,b,vs,l,()),()) r) (λ_ r=>Sb n ((i:Int),(a,b,vs,l,()),()) r) λ_ _=>none) (λn=>?_) ?_
  .rw[hF];simp(disch:=omega)only[aY]<;>rfl
  .refine Ev.ak (Bg hg.1) ?_;refine Ev.congr (g:=λn=>ak (tS n (((l.getD i aX).bZ,()),())) λt=>LO.el t (λ_ v=>Yn n ((i:Int),(a,b,vs,l,()),()) ((l.getD i aX).Env,((l.getD i aX).Env.length:Int),()) v) (λ_ v=>acv n ((i:Int),(a,b,vs,l,()),()) ((l.getD i aX).Env,((l.getD i aX).Env.length:Int),()) v) λ_ _=>none) (λn=>rfl) ?_;refine Ev.ak (Bg hg.2) (Ev.of_eq λn=>?_);rw[fu];unfold Yn xA;simp(disch:=omega)only[aY,bW,fH,fJ,apr];rw[Lr hi rfl]
 .rw[hF];simp(disch:=omega)only[aY]<;>rfl
def iF.small(hp:yV p){k:Nat}(h:iF p k o):o.bZ.length<=1000∧o.Frames.length<=1000∧∀g∈o.Frames,g.Env.length<=1000∧g.bZ.length<=1000:=by
 have fr:∀{g:ax},eK p k g->g.Env.length<=1000∧g.bZ.length<=1000:=by intro g hg;have h1:=hg.vl;have l5:=hp.nd hg.lo hg.hi;have h2:=oB l5;have h3:=zF hp l5;have:=hg.el;omega
 cases h with
 | @data n vs a b c d=>have:=(hp.cons _ (cG bE (show n.toNat<p.Cons.length by omega))).2;exact⟨by simp only;omega,by simp,by simp⟩
 |func a b c d e=>exact⟨by simp only;omega,by simp,by simp⟩
 |cell a=>exact⟨by simp,by simp,by simp⟩
 |chan a b=>exact⟨by simp only;omega,by simp,by simp⟩
 |JJ a b c=>exact⟨by simp,by simp only[fI];omega,λg hg=>fr (b g hg).1⟩
 |A1 a b c=>
  refine⟨by simp,by simp;omega,λg hg=>?_⟩;rcases eg.1 hg with hg|hg
  .exact fr (b g hg).1
  .rw[mq.1 hg];exact fr c
 |back a b c=>exact⟨by simp,by simp only;omega,λg hg=>fr (b g hg).1⟩
 |done a=>exact⟨by simp,by simp,by simp⟩
 |dead a=>exact⟨by simp,by simp,by simp⟩
def take_succ{α:Type}{l:List α}(d:α)(h:i<l.length):l.take i++[l.getD i d]=l.take (i+1):=by rw[pQ,gm h,List.take_succ_eq_append_getElem h];rfl
theorem apq(o:aE):aE.mk o.Form o.N o.bZ o.Frames=o:=rfl
def e51(hp:yV p)(hw:lf p w):Ev (λn=>F51 n (rb p w,())) ((w,()),rb p w,()):=by
 have hl:=hw.len;have hr:fE (λn g=>aj (D.bN g.1 (aq w.bI)) (aB (av g.1 w.bI) (ak (F159 n ((Ao (rb p w,()) g).3,())) λh=>ak (tS n h) λi=>LO.el i (λ_ k=>Kx n (rb p w,()) g k) (λ_ k=>PZ n (rb p w,()) g k) λ_ _=>none)) (some (LO.out 0 g)))
   (0,([],w.cU,w.nw,w.CY,w.Used,()),()) (.out 0 ((w.bI.length:Int),(w.bI.take w.bI.length,w.cU,w.nw,w.CY,w.Used,()),())):=by
  refine rI (s:=λi=>((i:Int),(w.bI.take i,w.cU,w.nw,w.CY,w.Used,()),())) w.bI.length 0 (λi hi=>?_) (Ev.of_eq λn=>?_)
  .have ho:=(hw.obs _ (cG aR hi)).small hp;obtain⟨h1,h2,h3⟩:=ho;refine Ev.congr (g:=λn=>ak (tS n (((w.bI.getD i aR).bZ,()),())) λk=>LO.el k (λ_ k=>Kx n (rb p w,()) ((i:Int),(w.bI.take i,w.cU,w.nw,w.CY,w.Used,()),()) k) (λ_ k=>PZ n (rb p w,()) ((i:Int),(w.bI.take i,w.cU,w.nw,w.CY,w.Used,()),()) k) λ_ _=>none) (λn=>?_) ?_
   .simp (disch:=omega)only[aY]<;>rfl
   .refine Ev.ak (Bg h1) ?_;refine Ev.congr (λn=>fu ..) ?_;unfold Kx;have e1:Ao (rb p w,()) ((i:Int),(w.bI.take i,w.cU,w.nw,w.CY,w.Used,()),())=w.bI.getD i aR:=rfl;simp only[e1];refine Ev.ak (Ev.of_eq λn=>aaZ (w.bI.getD i aR).Frames) ?_;refine Ev.aU (Nd (a:=(w.bI.getD i aR).Form) (b:=(w.bI.getD i aR).N) (vs:=(w.bI.getD i aR).bZ) h2 h3 _ (λn m=>rfl)) (λn m=>_) _ (Ev.of_eq λn=>?_);rw[fu];simp(disch:=first|omega|simp only[lX];omega)only[aY,bW,fH,fJ,apq];rw[take_succ aR hi]
  .simp (disch:=omega)only[aY]<;>rfl
 unfold F51;refine Ev.ak (Ev.of_eq λn=>e49 w.cU) (Ev.ak (Ev.of_eq λn=>e90 w.nw) (Ev.ak (Ev.of_eq λn=>e49 w.CY) ?_));refine Ev.aU hr (λn m=>_) _ (Ev.of_eq λn=>?_);rw[fu];simp only[HT]
def ri{R B P:Type}(len:Nat)(hl:len<=1000000){F:Nat->Int×Unit->Option (LO (Int×Unit) R B P)}(h:∀i,i<len->Ev (λn=>F n ((i:Int),())) (.next (((i+1:Nat):Int),())))(he:∀n,F n ((len:Int),())=some (.out 0 ((len:Int),()))) :
  fE F (0,()) (.out 0 ((len:Int),())):=rI (s:=λi=>((i:Int),())) len 0 h (Ev.of_eq he)
def e26{l:List Int}(hl:l.length<=1000):Ev (λn=>F26 n (l,l,())) ((true,()),()):=by
 unfold F26;simp only[aY];refine Ev.aU (F:=λn c=>_) (ri l.length (by omega) (λi hi=>Ev.of_eq λn=>?_) λn=>?_) (λn c=>_) _ (Ev.of_eq λn=>rfl)
 .simp (disch:=omega)only[aY,bW,fH,fJ]<;>rfl
 .simp (disch:=omega)only[aY]<;>rfl
def e27{l:List dW}(hl:l.length<=1000):Ev (λn=>F27 n (l,l,())) ((true,()),()):=by
 unfold F27;simp only[aY];refine Ev.aU (F:=λn c=>_) (ri l.length (by omega) (λi hi=>Ev.of_eq λn=>?_) λn=>?_) (λn c=>_) _ (Ev.of_eq λn=>rfl)
 .simp (disch:=omega)only[aY,Kl,Bp,bW,fH,fJ]<;>rfl
 .simp (disch:=omega)only[aY]<;>rfl
def e98{l:List au}(hl:l.length<=1000):Ev (λn=>F98 n (l,l,())) ((true,()),()):=by
 unfold F98;simp only[aY];refine Ev.aU (F:=λn c=>_) (ri l.length (by omega) (λi hi=>Ev.of_eq λn=>?_) λn=>?_) (λn c=>_) _ (Ev.of_eq λn=>rfl)
 .simp (disch:=omega)only[aY,Kl,Bp,bW,fH,fJ]<;>rfl
 .simp (disch:=omega)only[aY]<;>rfl
def e57(h1:o.bZ.length<=1000)(h2:o.Frames.length<=1000)(h3:∀g∈o.Frames,g.Env.length<=1000∧g.bZ.length<=1000):Ev (λn=>F57 n (o,o,())) ((true,()),()):=by
 unfold F57;simp only[aY];refine Ev.ak (e98 h1) ?_;simp only[aY];refine Ev.aU (F:=λn c=>_) (ri o.Frames.length (by omega) (λi hi=>?_) λn=>?_) (λn c=>_) _ (Ev.of_eq λn=>rfl)
 .have hg:=h3 _ (cG aX hi);simp(disch:=omega)only[aY];refine Ev.ak (e98 hg.1) ?_;simp only[aY];refine Ev.ak (e98 hg.2) (Ev.of_eq λn=>?_);simp(disch:=omega)only[aY,bW,fH,fJ]<;>rfl
 .simp (disch:=omega)only[aY]<;>rfl
def e19(hp:yV p)(hw:lf p w):Ev (λn=>F19 n (w,w,())) ((true,()),()):=by
 have hl:=hw.len;have ht:=hw.tl;have ho:=hw.outs;have hi:=hw.ins;unfold F19;simp only[aY];refine Ev.ak (e26 (by omega)) ?_;simp only[aY];refine Ev.ak (e27 (by omega)) ?_;simp only[aY];refine Ev.ak (e26 (by omega)) ?_;simp only[aY];refine Ev.aU (F:=λn c=>_) (ri w.bI.length (by omega) (λi hi=>?_) λn=>?_) (λn c=>_) _ (Ev.of_eq λn=>rfl)
 .obtain ⟨h1,h2,h3⟩:=(hw.obs _ (cG aR hi)).small hp;simp(disch:=omega)only[aY];refine Ev.ak (e57 h1 h2 h3) (Ev.of_eq λn=>?_);simp(disch:=omega)only[aY,bW,fH,fJ]<;>rfl
 .simp (disch:=omega)only[aY]<;>rfl
end
end
section
section
def Jw:∀q:aC,1<=pw q
 |⟨_,_,_,_⟩=>by unfold pw;omega
def zn:∀qs:List aC,qs.length<=qR qs
 |[]=>wZ _
 |q::qs=>by unfold qR;have:=zn qs;have:=Jw q;simp only[fI];omega
def jq(left:Int)(k:Nat):Int:=if left<0 then -1 else if(k:Int)<=left then left-k else -1
variable {left:Int}{k a:Nat}
def AP(h:left<0):jq left k=-1:=bL h
def nc(h:(k:Int)<=left):jq left k=left-k:=by unfold jq;rw[bw (by omega),bL h]
def nh(h:left<(k:Int)):jq left k=-1:=by
 unfold jq;by_cases h':left<0
 .rw[bL h']
 .rw[bw h',bw (by omega)]
def V7(ha:1<=a)(h:0<=left):jq left a<=left-1∧-1<=jq left a:=by
 by_cases h':(a:Int)<=left
 .rw[nc h'];omega
 .rw[nh (by omega)];omega
def Ig{b:Nat}:jq (jq left a) b=jq left (a+b):=by
 by_cases h:(a:Int)<=left
 .rw[nc h];by_cases h':(b:Int)<=left-a
  .rw[nc h',nc (by omega)];omega
  .rw[nh (by omega),nh (by omega)]
 .rw[nh (left:=left) (k:=a) (by omega),AP (by omega),nh (by omega)]
def OF(h:-1<=left):jq left 0=left:=by
 by_cases h':left<0
 .rw[AP h'];omega
 .rw[nc (by omega)];omega
theorem XY(n k:Nat):R83 n (k+1)=B83 n (R83 n k):=rfl
def PU(q:aC):Prop:=∀left:Int,-1<=left->left<=1000->xD R83 (q,left,()) ((jq left (pw q),()),())
def DA{P:Type}(d:Nat):∀(qs pre:List aC)(left:Int),-1<=left->(pre.length:Int)+left<=1000->(∀q∈qs,PU q)->
  ∀F:Nat->Int×Int×Unit->Option (LO (Int×Int×Unit) (Int×Unit) Unit P),
  (∀n d',F n d'=aj (D.bN d'.2.1 (aq (pre++qs))) (aj (D.eu 0 d'.1) (aB (av d'.2.1 (pre++qs)) (ak (R83 n (n-d) (@aN aC (pre++qs) (ah d'.2.1) aK,d'.1,())) λe=>some (LO.next (e.1.1,D.add .i64 d'.2.1 1,())))) (some (LO.out 0 d'))) (some (LO.out 0 d')))->
  ∃j,fE F (left,(pre.length:Int),()) (.out 0 (jq left (qR qs),j,()))
 |[],pre,left,h1,h2,hq,F,hF=>by refine⟨(pre.length:Int),.out (Ev.of_eq λn=>?_)⟩;rw[hF];have e:jq left (qR [])=left:=OF h1;rw[e];simp(disch:=omega)only[aY,lB]<;>rfl
 |q::qs,pre,left,h1,h2,hq,F,hF=>by
  by_cases hn:left<0
  .refine ⟨(pre.length:Int),.out (Ev.of_eq λn=>?_)⟩;rw[hF];have e:jq left (qR (q::qs))=left:=by rw[AP hn];omega
   rw[e];simp(disch:=omega)only[aY]<;>rfl
  .have g1:(pre++q::qs).getD pre.length aK=q:=eU ..;have hp:=Jw q;have hw:=hq q eC left h1 (by omega);have hle:=V7 (left:=left) hp (by omega);obtain⟨j,hr⟩:=DA d qs (pre++[q]) (jq left (pw q)) hle.2 (by simp;omega) (λq' h=>hq q' (gL _ h)) F (λn e=>by rw[hF];simp only[sn,zj]<;>rfl);have e:jq (jq left (pw q)) (qR qs)=jq left (qR (q::qs)):=Ig;rw[e]at hr;refine⟨j,.next (y:=((jq left (pw q)),((pre++[q]).length:Int),())) ?_ hr⟩;obtain⟨N,hN⟩:=hw d;refine⟨N,λn hn'=>?_⟩;show F n _=_;rw[hF];simp(disch:=first|omega|simp only[lX];omega)only[aY,g1,bW,fH,fJ,ju];exact(nB (λx=>ak x _) (hN n hn')).trans rfl
def UO:∀q:aC,PU q
 |⟨form,n0,text,parts⟩=>by
  intro left h1 h2;refine xD.step XY λd=>?_;by_cases h3:left<1
  .rw[nh (by have:=Jw ⟨form,n0,text,parts⟩;omega)];refine Ev.of_eq λn=>?_;unfold B83;simp(disch:=omega)only[aY]<;>rfl
  .obtain ⟨j,hr⟩:=DA (P:=Any) d parts [] (left-1) (by omega) (by simp;omega) (Qz parts) _ (λn e=>rfl);have e:jq (left-1) (qR parts)=jq left (pw ⟨form,n0,text,parts⟩):=by rw[show left-1=jq left 1 from(nc (k:=1) (Int.not_lt.1 h3)).symm,Ig];rfl
   rw[<-e];have hB:∀n,B83 n (R83 n (n-d)) (⟨form,n0,text,parts⟩,left,())=ak (iter (λd'=>aj (D.bN d'.2.1 (aq parts)) (aj (D.eu 0 d'.1) (aB (av d'.2.1 parts) (ak (R83 n (n-d) (@aN aC parts (ah d'.2.1) aK,d'.1,())) λe=>some (LO.next (e.1.1,D.add .i64 d'.2.1 1,())))) (some (LO.out 0 d'))) (some (LO.out 0 d'))) n (left-1,0,())) λe=>LO.el (B:=Unit) (P:=Any) e (λ_ g=>some ((g.1,()),())) (λ_ g=>some (g,())) λ_ _=>none:=by intro n;unfold B83;simp(disch:=omega)only[aY,ek]<;>rfl
   exact Ev.congr hB (Ev.aU hr (λn e=>_) _ (Ev.of_eq λn=>rfl))
where
 Qz:∀qs:List aC,∀q∈qs,PU q
 |[],_,h=>by cases h
 |q::qs,q',h=>by
  rcases fc.1 h with h|h
  .rw[h];exact UO q
  .exact Qz qs q' h
def e83(q:aC)(h1:1<=left)(h2:left<=1000):Ev (λn=>F83 n (q,left,())) ((jq left (pw q),()),()):=by exact UO q left (by omega) h2 0
mutual
def sp:aC->Bool
 |⟨_,_,text,parts⟩=>sps parts&&decide (text.length<=30)
def sps:List aC->Bool
 |[]=>true
 |q::qs=>sp q&&sps qs
end
def I6:∀{qs:List aC},sps qs=true↔∀q∈qs,sp q=true
 |[]=>by simp[sps]
 |q::qs=>by simp[sps,I6 (qs:=qs)]
theorem XX(n k:Nat):R84 n (k+1)=B84 n (R84 n k):=rfl
def short:∀q:aC,pw q<=1000->xD R84 (q,()) ((sp q,()),())
 |⟨form,n0,text,parts⟩,hq=>by
  unfold pw at hq;have hl:=zn parts;have hs:=U3 parts (by omega);refine xD.step XX λd=>?_;unfold B84;have hb:∀(i:Nat)(y:Int×Unit),(LO.ret () (false,()):LO (Int×Unit) (Bool×Unit) Unit Any)≠.next y:=λ_ _ h=>by cases h
  have step:∀i,i<parts.length->Ev (λn=>aj (D.bN (i:Int) (aq parts)) (aB (av (i:Int) parts) (ak (R84 n (n-d) (@aN aC parts (ah (i:Int)) aK,())) λe=>aj (D.aM e.1.1) (some (LO.ret () (false,()))) (some (LO.next (D.add .i64 (i:Int) 1,()))))) (some (LO.out 0 ((i:Int),())))) (bif sp (parts.getD i aK)then .next (((i+1:Nat):Int),())else(LO.ret () (false,()):LO (Int×Unit) (Bool×Unit) Unit Any)):=by intro i hi;obtain⟨N,hN⟩:=hs _ (cG aK hi) d;refine⟨N,λn hn=>?_⟩;show TL.aj _ _ _=_;simp(disch:=omega)only[aY,bW,fH,fJ,ju];refine(nB (λx=>ak x _) (hN n hn)).trans ?_;cases hc:sp (parts.getD i aK)<;>rfl
  rcases v5 (F:=λn d'=>aj (D.bN d'.1 (aq parts)) (aB (av d'.1 parts) (ak (R84 n (n-d) (@aN aC parts (ah d'.1) aK,())) λe=>aj (D.aM e.1.1) (some (LO.ret () (false,()))) (some (LO.next (D.add .i64 d'.1 1,()))))) (some (LO.out 0 d')))
   parts.length (λi=>((i:Int),())) (λi=>sp (parts.getD i aK)) (λ_=>(LO.ret () (false,()):LO (Int×Unit) (Bool×Unit) Unit Any)) 0 hb (λi hi _=>step i hi) (λ_=>Ev.of_eq λn=>by simp(disch:=omega)only[aY]<;>rfl)with⟨a,r⟩|⟨i,hi,a,_,r⟩
  .have e:sp ⟨form,n0,text,parts⟩=decide (text.length<=30):=by unfold sp;rw[I6.2 λq hq=>?_,iL];obtain⟨i,hi,rfl⟩:=uw hq;have:=a i hi;rwa [pQ,gm hi]at this
   rw[e];refine Ev.aU r (λn e=>_) _ (Ev.of_eq λn=>?_);show some ((D.eu (aq text) 30,()),())=_;simp only[D.eu,aq]
   congr 3
   exact decide_eq_decide.2 (by omega)
  .have e:sp ⟨form,n0,text,parts⟩=false:=by unfold sp;cases hc:sps parts with|false=>rfl|true=>rw[I6.1 hc _ (cG aK hi)]at a;cases a
   rw[e];exact Ev.aU r (λn e=>_) _ (Ev.of_eq λn=>rfl)
where
 U3:∀qs:List aC,qR qs<=1000->∀q∈qs,xD R84 (q,()) ((sp q,()),())
 |[],_,_,h=>by cases h
 |q::qs,hp,q',h=>by
  unfold qR at hp;rcases fc.1 h with h|h
  .rw[h];exact short q (by omega)
  .exact U3 qs (by omega) q' h
def AA(q:aC):Bool:=decide (pw q<=16)&&sp q
def aiB(q:aC):aC.mk q.1 q.2 q.3 q.4=q:=by cases q;rfl
def e44(q:aC):Ev (λn=>F44 n (q,())) ((AA q,()),()):=by
 unfold F44;simp only[aiB];refine Ev.ak (e83 q (by omega) (by omega)) ?_;unfold AA;by_cases h:pw q<=16
 .have h':((pw q:Nat):Int)<=16:=by omega
  rw[nc h',ig h,iL];simp(disch:=omega)only[aY];exact Ev.ak (short q (by omega) 0) (Ev.pure _)
 .have h':¬((pw q:Nat):Int)<=16:=by omega
  rw[nh (by omega),iC h,jr];exact Ev.of_eq λn=>by simp(disch:=omega)only[aY]<;>rfl
end
end
section
def eV{R B P:Type}(len:Nat)(q:Nat->Bool)(bad:Nat->LO (Int×Unit) R B P){F:Nat->Int×Unit->Option (LO (Int×Unit) R B P)}(hb:∀i y,bad i≠.next y)
  (h:∀i,i<len->Ev (λn=>F n ((i:Int),())) (bif q i then .next (((i+1:Nat):Int),())else bad i)) (he:∀n,F n ((len:Int),())=some (.out 0 ((len:Int),()))) :
  ((∀i,i<len->q i=true)∧fE F (0,()) (.out 0 ((len:Int),())))∨∃i,i<len∧q i=false∧fE F (0,()) (bad i):=by
 rcases v5 len (λi=>((i:Int),())) q bad 0 hb (λi hi _=>h i hi) (λ_=>Ev.of_eq he)with⟨a,r⟩|⟨i,hi,a,_,r⟩
 .exact .inl ⟨a,r⟩
 .exact .inr ⟨i,hi,a,r⟩
structure Small(p:aG):Prop where
 nodes:p.aW.length<=320
 wI:p.dH.length<=320
 cons:p.Cons.length<=25
 names:∀c∈p.Cons,c.Name.length<=40
 wC:∀nd∈p.aW,nd.Kids.length<=10∧nd.cx.length<=10∧∀q∈nd.cx,pw q<=16
def iJ{α:Type}{l:List α}{d:α}{Q:α->Prop}(h:∀i,i<l.length->Q (l.getD i d)):∀a∈l,Q a:=by intro a ha;obtain⟨i,hi,rfl⟩:=uw ha;have:=h i hi;rwa [pQ,gm hi]at this
def lN(nd:bp):Bool:=(decide (nd.Kids.length<=10)&&decide (nd.cx.length<=10))&&nd.cx.all AA
def vB{α:Type}{l:List α}{d:α}{q:α->Bool}(h:∀i,i<l.length->q (l.getD i d)=true):l.all q=true:=gr.2 (iJ (d:=d) h)
def lK{α:Type}{l:List α}{d:α}{q:α->Bool}{i:Nat}(hi:i<l.length)(h:q (l.getD i d)=false):l.all q=false:=by cases hc:l.all q with|false=>rfl|true=>rw[gr.1 hc _ (cG d hi)]at h;cases h
abbrev G12(p:aG)(n:Nat)(g:Int×Unit):Option (LO (Int×Unit) (Bool×Unit) Unit Any):=
 aj (D.bN g.1 (p.aW.length:Int)) (aB (av g.1 p.aW) (aj (D.bN 10 ((p.aW.getD g.1.toNat aQ).Kids.length:Int)) (some (LO.ret () (false,()))) (aj (D.bN 10 ((p.aW.getD g.1.toNat aQ).cx.length:Int)) (some (LO.ret () (false,()))) (ak (iter (λh:Int×Unit=>aj (D.bN h.1 ((p.aW.getD g.1.toNat aQ).cx.length:Int)) (aB (av h.1 (p.aW.getD g.1.toNat aQ).cx) (ak (F44 n ((p.aW.getD g.1.toNat aQ).cx.getD h.1.toNat aK,())) λi=>aj i.1.1 (some (LO.next (D.add .i64 h.1 1,()))) (some (LO.ret (B:=Unit) (P:=Any) () (false,()))))) (some (LO.out 0 h))) n (0,())) λh=>LO.el h (λ_ _=>some (LO.next (D.add .i64 g.1 1,()))) (λ_ j=>some (LO.ret () j)) λ_ _=>none)))) (some (LO.out 0 g))
def e12(p:aG):∃b,Ev (λn=>F12 n (p,())) ((b,()),())∧(b=true->Small p):=by
 unfold F12;by_cases h1:320<p.aW.length
 .exact ⟨false,Ev.of_eq λn=>by simp(disch:=omega)only[aY]<;>rfl,λh=>by cases h⟩
 by_cases h2:320<p.dH.length
 .exact ⟨false,Ev.of_eq λn=>by simp(disch:=omega)only[aY]<;>rfl,λh=>by cases h⟩
 by_cases h3:25<p.Cons.length
 .exact ⟨false,Ev.of_eq λn=>by simp(disch:=omega)only[aY]<;>rfl,λh=>by cases h⟩
 simp(disch:=omega)only[aY];have hb:∀{P:Type}(i:Nat)(y:Int×Unit),(LO.ret () (false,()):LO (Int×Unit) (Bool×Unit) Unit P)≠.next y:=λ_ _ h=>by cases h
 rcases eV p.Cons.length (λi=>decide ((p.Cons.getD i bE).Name.length<=40)) (λ_=>(LO.ret () (false,()):LO (Int×Unit) (Bool×Unit) Unit Any)) (F:=λn c=>aj (D.bN c.1 (p.Cons.length:Int)) (aB (av c.1 p.Cons) (aj (D.bN 40 ((p.Cons.getD c.1.toNat bE).Name.length:Int)) (some (LO.ret () (false,()))) (some (LO.next (D.add .i64 c.1 1,()))))) (some (LO.out 0 c))) hb
  (λi hi=>Ev.of_eq λn=>by
   by_cases hc:(p.Cons.getD i bE).Name.length<=40
   .simp (disch:=omega)only[aY,ig hc,bW,fH,fJ]
   .simp (disch:=omega)only[aY,iC hc]) (λn=>by simp(disch:=omega)only[aY])with⟨a,r⟩|⟨i,hi,a,r⟩
 .have step:∀g:Nat,g<p.aW.length->Ev (λn=>G12 p n ((g:Int),())) (bif lN (p.aW.getD g aQ)then .next (((g+1:Nat):Int),())else(LO.ret () (false,()):LO (Int×Unit) (Bool×Unit) Unit Any)):=by
   intro g hg;by_cases k1:10<(p.aW.getD g aQ).Kids.length
   .rw[show lN (p.aW.getD g aQ)=false by simp only[lN,iC (zk.2 k1),jr]];exact Ev.of_eq λn=>by simp(disch:=omega)only[aY]
   by_cases k2:10<(p.aW.getD g aQ).cx.length
   .rw[show lN (p.aW.getD g aQ)=false by simp only[lN,iC (zk.2 k2),Ee,jr]];exact Ev.of_eq λn=>by simp(disch:=omega)only[aY]
   rcases eV (p.aW.getD g aQ).cx.length (λi=>AA ((p.aW.getD g aQ).cx.getD i aK)) (λ_=>(LO.ret () (false,()):LO (Int×Unit) (Bool×Unit) Unit Any)) (F:=λn h=>aj (D.bN h.1 ((p.aW.getD g aQ).cx.length:Int)) (aB (av h.1 (p.aW.getD g aQ).cx) (ak (F44 n ((p.aW.getD g aQ).cx.getD h.1.toNat aK,())) λi=>aj i.1.1 (some (LO.next (D.add .i64 h.1 1,()))) (some (LO.ret () (false,()))))) (some (LO.out 0 h))) hb
    (λi hi=>by
     simp(disch:=omega)only[aY];refine Ev.ak (e44 _) (Ev.of_eq λn=>?_);cases AA ((p.aW.getD g aQ).cx.getD i aK)<;>simp(disch:=omega)only[aY,bW,fH,fJ]) (λn=>by simp(disch:=omega)only[aY])with⟨a',r'⟩|⟨i,hi,a',r'⟩
   .rw[show lN (p.aW.getD g aQ)=true by simp only[lN,ig (BW.1 k1),ig (BW.1 k2),vB a',DY]];simp(disch:=omega)only[aY];refine Ev.aU r' (λn c=>_) _ (Ev.of_eq λn=>?_);rw[fu];simp(disch:=omega)only[aY,bW,fH,fJ]
   .rw[show lN (p.aW.getD g aQ)=false by simp only[lN,lK hi a',Ee]];simp(disch:=omega)only[aY];exact Ev.aU r' (λn c=>_) _ (Ev.of_eq λn=>rfl)
  rcases eV p.aW.length (λg=>lN (p.aW.getD g aQ)) (λ_=>(LO.ret () (false,()):LO (Int×Unit) (Bool×Unit) Unit Any)) (F:=λn g=>G12 p n g) hb step (λn=>by simp(disch:=omega)only[aY])with⟨a',r'⟩|⟨i,hi,a',r'⟩
  .refine ⟨true,Ev.aU r (λn c=>_) _ ?_,λ_=>⟨by omega,by omega,by omega,iJ (d:=bE) λi hi=>CH (a i hi),iJ (d:=aQ) λi hi=>?_⟩⟩
   .refine Ev.congr (λn=>fu ..) ?_;exact Ev.aU r' (λn c=>_) _ (Ev.of_eq λn=>rfl)
   .have:=a' i hi;simp only[lN,eE,qA,gr,AA]at this;exact⟨this.1.1,this.1.2,λq hq=>(this.2 q hq).1⟩
  .refine ⟨false,Ev.aU r (λn c=>_) _ ?_,λh=>by cases h⟩;refine Ev.congr (λn=>fu ..) ?_;exact Ev.aU r' (λn c=>_) _ (Ev.of_eq λn=>rfl)
 .exact ⟨false,Ev.aU r (λn c=>_) _ (Ev.of_eq λn=>rfl),λh=>by cases h⟩
end
section
section
theorem Uh(n k:Nat):R202 n (k+1)=B202 n (R202 n k):=rfl
def afn(k:Nat)(most r:Int):Prop:=((k:Int)<=most->r=k)∧(most<k->most<r)∧1<=r∧r<=k
def XV(q:aC):Prop:=∀most:Int,0<=most->most<=1000->∃r,xD R202 (q,most,()) ((r,()),())∧afn (pw q) most r
def HI{R B P:Type}{most:Int}(hm:0<=most)(hm':most<=1000):∀(qs pre:List aC)(s:Int),1<=s->s+qR qs<=1000->pre.length+qs.length<=1000->(∀q∈qs,XV q)->
  ∃r j,((s+qR qs<=most->r=s+qR qs)∧(most<s+qR qs->most<r)∧s<=r∧r<=s+qR qs)∧∀(d:Nat)(F:Nat->Int×Int×Unit->Option (LO (Int×Int×Unit) R B P)),
  (∀n d',F n d'=aj (D.bN d'.2.1 (aq (pre++qs))) (aB (av d'.2.1 (pre++qs)) (aj (D.bN most d'.1) (some (LO.out 0 d')) (ak (R202 n (n-d) (aC.mk (@aN aC (pre++qs) (ah d'.2.1) aK).1 (@aN aC (pre++qs) (ah d'.2.1) aK).2 (@aN aC (pre++qs) (ah d'.2.1) aK).3 (@aN aC (pre++qs) (ah d'.2.1) aK).4,D.dN .i64 most d'.1,())) λe=>some (LO.next (D.add .i64 d'.1 e.1.1,D.add .i64 d'.2.1 1,()))))) (some (LO.out 0 d')))->
  fE F (s,(pre.length:Int),()) (.out 0 (r,j,()))
 |[],pre,s,h1,h2,h3,hq=>by refine⟨s,(pre.length:Int),by simp[qR],λd F hF=>.out (Ev.of_eq λn=>?_)⟩;rw[hF];simp(disch:=omega)only[aY,lB]<;>rfl
 |q::qs,pre,s,h1,h2,h3,hq=>by
  have hp:=Jw q;have hd:qR (q::qs)=pw q+qR qs:=rfl;rw[hd]at h2 ⊢;simp only[fI]at h3;by_cases hn:most<s
  .refine ⟨s,(pre.length:Int),⟨by omega,by omega,by omega,by omega⟩,λd F hF=>.out (Ev.of_eq λn=>?_)⟩;rw[hF];simp(disch:=first|omega|simp only[lX];omega)only[aY]<;>rfl
  .have g1:(pre++q::qs).getD pre.length aK=q:=eU ..;obtain⟨r1,KW,k1,k2,k3,k4⟩:=hq q eC (most-s) (by omega) (by omega);obtain⟨r,j,⟨a1,a2,a3,a4⟩,hr⟩:=HI (R:=R) (B:=B) (P:=P) hm hm' qs (pre++[q]) (s+r1) (by omega) (by omega) (by simp;omega) (λq' h=>hq q' (gL _ h));refine⟨r,j,⟨by omega,by omega,by omega,by omega⟩,λd F hF=>?_⟩;refine .next (y:=(s+r1,((pre++[q]).length:Int),())) ?_ (hr d F λn e=>by rw[hF];simp only[sn,zj]<;>rfl)
   obtain⟨N,hN⟩:=KW d;refine⟨N,λn hn'=>?_⟩;show F n _=_;rw[hF];simp(disch:=first|omega|simp only[lX];omega)only[aY,g1,TM,ek,bW,fH,fJ,ju];refine(nB (λx=>ak x _) (hN n hn')).trans ?_;show some (LO.next (D.add .i64 s r1,_,()))=_;rw[bW (by omega) (by omega)]
def sizes:∀q:aC,pw q<=1000->XV q
 |⟨form,n0,text,parts⟩,hq=>by intro most hm hm';unfold pw at hq ⊢;have hl:=zn parts;obtain⟨r,j,⟨a1,a2,a3,a4⟩,hr⟩:=HI (R:=Int×Unit) (B:=Unit) (P:=Any) hm hm' parts [] 1 (by omega) (by omega) (by simp;omega) (U2 parts (by omega));refine⟨r,xD.step Uh λd=>?_,by omega,by omega,by omega,by omega⟩;unfold B202;exact Ev.aU (F:=λn e=>_) (hr d _ λn e=>rfl) (λn e=>_) _ (Ev.of_eq λn=>rfl)
where
 U2:∀qs:List aC,qR qs<=1000->∀q∈qs,XV q
 |[],_,_,h=>by cases h
 |q::qs,hp,q',h=>by
  unfold qR at hp;rcases fc.1 h with h|h
  .rw[h];exact sizes q (by omega)
  .exact U2 qs (by omega) q' h
def SR(cons:List cz)(form n:Int)(k:Nat):Bool:=
 if form=1∨form=2∨form=5 then decide (n=0)&&decide (k=0)
 else if form=3 then hJ n&&decide (k=0)
 else if form=4 then decide (0<=n∧n<=1)&&decide (k=0)
 else if form=6 then decide (0<=n∧n<cons.length)&&decide ((k:Int)=(cons.getD n.toNat bE).qQ)
 else false
mutual
def nU(cons:List cz):aC->Bool
 |⟨form,n,text,parts⟩=>(decide (text=[])&&rA cons parts)&&SR cons form n parts.length
def rA(cons:List cz):List aC->Bool
 |[]=>true
 |q::qs=>nU cons q&&rA cons qs
end
def AK{cons:List cz}:∀{qs:List aC},rA cons qs=true↔∀q∈qs,nU cons q=true
 |[]=>by simp[rA]
 |q::qs=>by simp[rA,AK (qs:=qs)]
variable {cons:List cz}{n:Nat}
def Ej:∀q:aC,nU cons q=true->pf q=true
 |⟨form,n,text,parts⟩,h=>by
  unfold nU at h;simp only[eE]at h;unfold pf;have hs:=go parts h.1.2;have:1<=form∧form<=6:=by
   have h2:=h.2;unfold SR at h2;by_cases c1:form=1∨form=2∨form=5
   .omega
   .rw[bw c1]at h2;by_cases c2:form=3
    .omega
    .rw[bw c2]at h2;by_cases c3:form=4
     .omega
     .rw[bw c3]at h2;by_cases c4:form=6
      .omega
      .rw[bw c4]at h2;cases h2
  simp only[hs,ig this.1,ig this.2,DY]
where
 go:∀qs:List aC,rA cons qs=true->pfs qs=true
 |[],_=>rfl
 |q::qs,h=>by unfold rA at h;simp only[eE]at h;unfold pfs;rw[Ej q h.1,go qs h.2];rfl
def wK(a lo hi:Int):F146 n (a,lo,hi,())=some ((decide (lo<=a∧a<=hi),()),()):=by
 unfold F146;by_cases h1:lo<=a
 .simp (disch:=omega)only[aY];simp[D.eu,h1]
 .simp (disch:=omega)only[aY];simp[h1]
def Hl(a lo hi:Int):F52 n (a,lo,hi,())=some ((decide (lo<=a∧a<=hi),()),()):=wK (n:=n) a lo hi
def aiL(a:Int):F259 n (a,())=some ((hJ a,()),()):=by unfold F259;rw[wK];simp only[aY,hJ,Bool.decide_and]
theorem Ug(n k:Nat):R203 n (k+1)=B203 n (R203 n k):=rfl
def kj(l:List UInt8):gf l []=decide (l=[]):=by cases l<;>rfl
def aeS{f:_}{p:aG}(hc:p.Cons.length<=1000){form n0:Int}{text:List UInt8}{parts:List aC}(hl:parts.length<=1000) :
  BM n f (⟨p⟩,⟨form,n0,text,parts⟩,())=some ((SR p.Cons form n0 parts.length,()),()):=by
 unfold BM Qu pN SR;have k0:(D.aO (parts.length:Int) 0)=decide (parts.length=0):=by by_cases h:parts.length=0<;>simp[D.aO,h]
 have n00:(D.aO n0 0)=decide (n0=0):=by by_cases h:n0=0<;>simp[D.aO,h]
 have fin:∀b:Bool,aj b (some ((decide (parts.length=0),()),())) (some ((false,()),()))=(some ((b&&decide (parts.length=0),()),()):Option ((Bool×Unit)×Unit)):=λb=>by cases b<;>rfl
 by_cases c1:form=1∨form=2∨form=5
 .rw[bL c1];rcases c1 with c|c|c<;>subst c<;>simp(disch:=omega)only[aY,bG,k0,n00,fin]
 .rw[bw c1];by_cases c2:form=3
  .rw[bL c2];subst c2;simp(disch:=omega)only[aY,bG,aiL,k0,fin]
  .rw[bw c2];by_cases c3:form=4
   .rw[bL c3];subst c3;simp(disch:=omega)only[aY,bG,wK,k0,fin]
   .rw[bw c3];by_cases c4:form=6
    .rw[bL c4];subst c4;by_cases hr:0<=n0∧n0<p.Cons.length
     .rw[ig hr,iL];simp(disch:=omega)only[aY,bG,wK,ek,ig (show 0<=n0∧n0<=(p.Cons.length:Int)-1 by omega)];rw[show D.aO (parts.length:Int) (p.Cons.getD n0.toNat bE).qQ=decide ((parts.length:Int)=(p.Cons.getD n0.toNat bE).qQ)by simp only[D.aO];exact(Bool.beq_eq_decide_eq ..)]
     .rw[iC hr,jr];simp(disch:=omega)only[aY,bG,wK,ek,iC (show ¬(0<=n0∧n0<=(p.Cons.length:Int)-1)by omega)]
    .rw[bw c4];simp(disch:=omega)only[aY,bG]
end
end
section
section
variable {p:aG}
def VI(hc:p.Cons.length<=1000):∀q:aC,pw q<=1000->xD R203 (⟨p⟩,q,()) ((nU p.Cons q,()),())
 |⟨form,n0,text,parts⟩,hq=>by
  unfold pw at hq;have hl:=zn parts;have hs:=VH parts (by omega);refine xD.step Ug λd=>?_;by_cases ht:text=[]
  .subst ht;have hb:∀(i:Nat)(y:Int×Unit),(LO.ret () ((i:Int),()):LO (Int×Unit) (Int×Unit) Unit Any)≠.next y:=λ_ _ h=>by cases h
   have step:∀i,i<parts.length->Ev (λn=>aj (D.bN (i:Int) (aq parts)) (aB (av (i:Int) parts) (ak (R203 n (n-d) (⟨p⟩,aC.mk (@aN aC parts (ah (i:Int)) aK).1 (@aN aC parts (ah (i:Int)) aK).2 (@aN aC parts (ah (i:Int)) aK).3 (@aN aC parts (ah (i:Int)) aK).4,())) λe=>aj (D.aM e.1.1) (some (LO.ret () ((i:Int),()))) (some (LO.next (D.add .i64 (i:Int) 1,()))))) (some (LO.out 0 ((i:Int),())))) (bif nU p.Cons (parts.getD i aK)then .next (((i+1:Nat):Int),())else(LO.ret () ((i:Int),()):LO (Int×Unit) (Int×Unit) Unit Any)):=by intro i hi;obtain⟨N,hN⟩:=hs _ (cG aK hi) d;refine⟨N,λn hn=>?_⟩;show TL.aj _ _ _=_;simp(disch:=omega)only[aY,TM,bW,fH,fJ,ju];refine(nB (λx=>ak x _) (hN n hn)).trans ?_;cases hc:nU p.Cons (parts.getD i aK)<;>rfl
   have hB:∀n,B203 n (R203 n (n-d)) (⟨p⟩,⟨form,n0,[],parts⟩,())=ak (iter (λd'=>aj (D.bN d'.1 (aq parts)) (aB (av d'.1 parts) (ak (R203 n (n-d) (⟨p⟩,aC.mk (@aN aC parts (ah d'.1) aK).1 (@aN aC parts (ah d'.1) aK).2 (@aN aC parts (ah d'.1) aK).3 (@aN aC parts (ah d'.1) aK).4,())) λe=>aj (D.aM e.1.1) (some (LO.ret () d')) (some (LO.next (D.add .i64 d'.1 1,()))))) (some (LO.out 0 d'))) n (0,())) λd'=>LO.el (X:=Int×Unit) (R:=Int×Unit) (B:=Unit) (P:=Any) d' (λ_ _=>aj (D.aM (D.aM false)) (pN n (R203 n (n-d))) (BM n (R203 n (n-d)) (⟨p⟩,⟨form,n0,[],parts⟩,()))) (λ_ g=>aj (D.aM (D.aM (D.eu 0 g.1))) (pN n (R203 n (n-d))) (BM n (R203 n (n-d)) (⟨p⟩,⟨form,n0,[],parts⟩,()))) λ_ _=>none:=λn=>rfl;rcases eV (F:=λn d'=>aj (D.bN d'.1 (aq parts)) (aB (av d'.1 parts) (ak (R203 n (n-d) (⟨p⟩,aC.mk (@aN aC parts (ah d'.1) aK).1 (@aN aC parts (ah d'.1) aK).2 (@aN aC parts (ah d'.1) aK).3 (@aN aC parts (ah d'.1) aK).4,())) λe=>aj (D.aM e.1.1) (some (LO.ret () d')) (some (LO.next (D.add .i64 d'.1 1,()))))) (some (LO.out 0 d')))
    parts.length (λi=>nU p.Cons (parts.getD i aK)) (λi=>(LO.ret () ((i:Int),()):LO (Int×Unit) (Int×Unit) Unit Any)) hb step (λn=>by simp(disch:=omega)only[aY]<;>rfl)with⟨a,r⟩|⟨i,hi,a,r⟩
   .have e:nU p.Cons ⟨form,n0,[],parts⟩=SR p.Cons form n0 parts.length:=by unfold nU;rw[AK.2 (iJ (d:=aK) a)];rfl
    rw[e];refine Ev.congr hB (Ev.aU r (λn e=>_) _ (Ev.of_eq λn=>?_));rw[fu];exact aeS hc (by omega)
   .have e:nU p.Cons ⟨form,n0,[],parts⟩=false:=by unfold nU;cases hp:rA p.Cons parts with|false=>rfl|true=>rw[AK.1 hp _ (cG aK hi)]at a;cases a
    rw[e];refine Ev.congr hB (Ev.aU r (λn e=>_) _ (Ev.of_eq λn=>?_));rw[uY];simp(disch:=omega)only[aY]<;>rfl
  .have e:nU p.Cons ⟨form,n0,text,parts⟩=false:=by unfold nU;rw[iC ht];rfl
   rw[e];refine Ev.of_eq λn=>?_;unfold B203 pN;simp only[aY,kj,iC ht]<;>rfl
where
 VH:∀qs:List aC,qR qs<=1000->∀q∈qs,xD R203 (⟨p⟩,q,()) ((nU p.Cons q,()),())
 |[],_,_,h=>by cases h
 |q::qs,hp,q',h=>by
  unfold qR at hp;rcases fc.1 h with h|h
  .rw[h];exact VI hc q (by omega)
  .exact VH qs (by omega) q' h
theorem XW(n k:Nat):R95 n (k+1)=B95 n (R95 n k):=rfl
def X0(cons:List cz)(q:aC):Prop:=xD R95 (q,cons,()) ((nU cons q,()),())
def U8{R B P:Type}{cons:List cz}(d:Nat):∀(qs pre:List aC)(b:Bool),pre.length+qs.length<=1000->(∀q∈qs,X0 cons q)->
  ∀(F:Nat->Bool×Int×Unit->Option (LO (Bool×Int×Unit) R B P)),
  (∀n i,F n i=aj (D.bN i.2.1 (aq (pre++qs))) (aj i.1 (aB (av i.2.1 (pre++qs)) (ak (R95 n (n-d) (@aN aC (pre++qs) (ah i.2.1) aK,cons,())) λj=>some (LO.next (j.1.1,D.add .i64 i.2.1 1,())))) (some (LO.out 0 i))) (some (LO.out 0 i)))->
  ∃j,fE F (b,(pre.length:Int),()) (.out 0 (b&&rA cons qs,j,()))
 |[],pre,b,h3,hq,F,hF=>by refine⟨(pre.length:Int),.out (Ev.of_eq λn=>?_)⟩;rw[hF];simp(disch:=omega)only[aY,lB,rA,DY]<;>rfl
 |q::qs,pre,b,h3,hq,F,hF=>by simp only[fI]at h3;cases b with|false=>refine⟨(pre.length:Int),.out (Ev.of_eq λn=>?_)⟩;rw[hF];simp(disch:=omega)only[aY,jr]<;>rfl|true=>have g1:(pre++q::qs).getD pre.length aK=q:=eU ..;obtain⟨j,hr⟩:=U8 d qs (pre++[q]) (nU cons q) (by simp;omega) (λq' h=>hq q' (gL _ h)) F (λn e=>by rw[hF];simp only[sn,zj]<;>rfl);refine⟨j,.next (y:=(nU cons q,((pre++[q]).length:Int),())) ?_ (by unfold rA;rw[iL];exact hr)⟩;obtain⟨N,hN⟩:=hq q eC d;refine⟨N,λn hn'=>?_⟩;show F n _=_;rw[hF];simp(disch:=first|omega|simp only[lX];omega)only[aY,g1,bW,fH,fJ,ju];exact(nB (λx=>ak x _) (hN n hn')).trans rfl
variable {cons:List cz}
def abF(hc:cons.length<=1000):∀q:aC,pw q<=1000->X0 cons q
 |⟨form,n0,text,parts⟩,hq=>by
  unfold pw at hq;have hl:=zn parts;have hs:=VH parts (by omega);refine xD.step XW λd=>?_;have run:∀b:Bool,Ev (λn=>ak (iter (N1 n (R95 n (n-d)) (⟨form,n0,text,parts⟩,cons,())) n (b,0,())) (NZ n (R95 n (n-d)))) ((b&&rA cons parts,()),()):=by intro b;obtain⟨j,hr⟩:=U8 (cons:=cons) d parts [] b (by simp;omega) hs _ (λn e=>rfl);exact Ev.aU (F:=λn c=>_) hr (λn e=>_) _ (Ev.of_eq λn=>rfl)
  have fin:∀b:Bool,Ev (λn=>aj b (ak (iter (N1 n (R95 n (n-d)) (⟨form,n0,text,parts⟩,cons,())) n (decide (text=[]),0,())) (NZ n (R95 n (n-d)))) (ak (iter (N1 n (R95 n (n-d)) (⟨form,n0,text,parts⟩,cons,())) n (false,0,())) (NZ n (R95 n (n-d))))) (((decide (text=[])&&rA cons parts)&&b,()),()):=by intro b;cases b with|true=>rw[DY];exact run _|false=>rw[Ee];exact run false
  unfold nU SR;have n00:(D.aO n0 0)=decide (n0=0):=by by_cases h:n0=0<;>simp[D.aO,h]
  unfold B95;by_cases c1:form=1∨form=2∨form=5
  .rw[bL c1];by_cases hk:parts.length=0
   .rw[ig hk,DY];rcases c1 with c|c|c<;>subst c<;>simp(disch:=omega)only[aY,bG,n00,kj]<;>exact fin _
   .rw[iC hk,Ee];rcases c1 with c|c|c<;>subst c<;>simp(disch:=omega)only[aY,bG,n00,kj]<;>exact fin false
  .rw[bw c1];by_cases c2:form=3
   .rw[bL c2];subst c2;by_cases hk:parts.length=0
    .rw[ig hk,DY];simp(disch:=omega)only[aY,bG,Hl,kj];have:=fin (hJ n0);simp only[hJ,Bool.decide_and]at this ⊢;exact this
    .rw[iC hk,Ee];simp(disch:=omega)only[aY,bG,kj];exact fin false
   .rw[bw c2];by_cases c3:form=4
    .rw[bL c3];subst c3;by_cases hk:parts.length=0
     .rw[ig hk,DY];simp(disch:=omega)only[aY,bG,Hl,kj];exact fin _
     .rw[iC hk,Ee];simp(disch:=omega)only[aY,bG,kj];exact fin false
    .rw[bw c3];by_cases c4:form=6
     .rw[bL c4];subst c4;by_cases hr:0<=n0∧n0<cons.length
      .rw[ig hr,iL];simp(disch:=omega)only[aY,bG,Hl,ek,ig (show 0<=n0∧n0<=(cons.length:Int)-1 by omega),kj];rw[show D.aO (parts.length:Int) (cons.getD n0.toNat bE).qQ=decide ((parts.length:Int)=(cons.getD n0.toNat bE).qQ)by simp only[D.aO];exact(Bool.beq_eq_decide_eq ..)];exact fin _
      .rw[iC hr,jr];simp(disch:=omega)only[aY,bG,Hl,ek,iC (show ¬(0<=n0∧n0<=(cons.length:Int)-1)by omega),kj];exact fin false
     .rw[bw c4];simp(disch:=omega)only[aY,bG,kj];exact fin false
where
 VH:∀qs:List aC,qR qs<=1000->∀q∈qs,X0 cons q
 |[],_,_,h=>by cases h
 |q::qs,hp,q',h=>by
  unfold qR at hp;rcases fc.1 h with h|h
  .rw[h];exact abF hc q (by omega)
  .exact VH qs (by omega) q' h
end
end
section
section
variable {p:aG}{nd:bp}
def OH(op:Int):cI:=if op=15 then .a0 ⟨⟩else if op=14 then .a2 ⟨⟩else if 1<=op∧op<=28 then .a1 (rJ.getD op.toNat 0:Nat)else .none
variable {n:Nat}
def apA(op:Int):F200 n (op,())=some ((OH op,()),()):=by
 by_cases h:1<=op∧op<=28
 .obtain ⟨k,rfl⟩:∃k:Nat,op=k:=⟨_,(LH (by omega)).symm⟩;have hk2:k<=28:=by omega
  match k,hk2 with
  |0,_=>omega
  |1,_|2,_|3,_|4,_|5,_|6,_|7,_|8,_|9,_|10,_|11,_|12,_|13,_|14,_|15,_|16,_|17,_|18,_|19,_|20,_|21,_|22,_|23,_|24,_|25,_|26,_|27,_|28,_=>rfl
  |k+29,h=>omega
 .unfold F200 BC vJ vI OH;rw[bw (by omega),bw (by omega),bw h];simp(disch:=omega)only[aY,bG]
def CI(p:aG)(nd:bp):Bool:=
 if nd.Op=1 then hJ nd.N else if nd.Op=2 then decide (0<=nd.N∧nd.N<=1)else if nd.Op=24 then decide (0<=nd.N∧nd.N<=3)
 else if nd.Op=4 then decide (-(p.dH.length:Int)<=nd.N∧nd.N<=29)else if nd.Op=14 then true else decide (nd.N=0)
def MC(p:aG)(nd:bp):Bool:=
 if nd.Op=15 then decide (1<=(nd.cx.length:Int)∧(nd.cx.length:Int)<=5)&&decide ((nd.Kids.length:Int)=1+nd.cx.length)
 else if nd.Op=14 then decide (0<=nd.N∧nd.N<p.Cons.length)&&decide ((nd.Kids.length:Int)=(p.Cons.getD nd.N.toNat bE).qQ)
 else if 1<=nd.Op∧nd.Op<=28 then decide ((nd.Kids.length:Int)=(rJ.getD nd.Op.toNat 0:Nat))else false
def npB(nd:bp):Bool:=decide (nd.Op=15∨nd.cx.length=0)
def qB(p:aG)(q:aC):Bool:=decide (pw q<=12)&&nU p.Cons q
def lM(p:aG)(nd:bp):Bool:=((npB nd&&MC p nd)&&CI p nd)&&nd.cx.all (qB p)
def mR(a b:Int):D.aO a b=decide (a=b):=by by_cases h:a=b<;>simp[D.aO,h]
def aab(b c:Bool):aj b (some ((c,()),())) (some ((false,()),()))=(some ((b&&c,()),()):Option ((Bool×Unit)×Unit)):=by cases b<;>rfl
def apz(hf:p.dH.length<=1000):F204 n (⟨p⟩,nd,())=some ((CI p nd,()),()):=by
 have hn:D.neg .i64 (p.dH.length:Int)=-(p.dH.length:Int):=yW (by omega) (by omega);unfold F204 CI;by_cases h1:nd.Op=1
 .rw[bL h1];simp only[aY,h1,aiL]
 rw[bw h1];by_cases h2:nd.Op=2
 .rw[bL h2];simp(disch:=omega)only[aY,h2,wK]
 rw[bw h2];by_cases h3:nd.Op=24
 .rw[bL h3];simp(disch:=omega)only[aY,h3,wK]
 rw[bw h3];by_cases h4:nd.Op=4
 .rw[bL h4];simp(disch:=omega)only[aY,h4,hn,wK]
 rw[bw h4];by_cases h5:nd.Op=14
 .rw[bL h5];simp(disch:=omega)only[aY,h5]
 rw[bw h5];simp(disch:=omega)only[aY];rw[mR]
def ZH(hs:Small p)(hq:∀q∈nd.cx,pw q<=16)(hl:nd.cx.length<=10)(b:Bool):Ev (λn=>vK n (⟨p⟩,nd,()) ((b,()),())) (((b&&CI p nd)&&nd.cx.all (qB p),()),()):=by
 have hf:=hs.wI;have hc:=hs.cons;unfold vK tA;cases b with
 |false=>exact Ev.of_eq λn=>by simp only[aY,jr]
 |true=>
  simp only[aY,apz (p:=p) (nd:=nd) (show p.dH.length<=1000 by omega),iL];cases hnb:CI p nd with
  |false=>exact Ev.of_eq λn=>by simp only[aY,jr]
  |true=>
   simp only[aY,iL];have hb:∀(i:Nat)(y:Int×Unit),(LO.ret () ((i:Int),()):LO (Int×Unit) (Int×Unit) Unit Any)≠.next y:=λ_ _ h=>by cases h
   rcases eV (F:=λn i=>aj (D.bN i.1 (nd.cx.length:Int)) (aB (av i.1 nd.cx) (ak (F202 n (aC.mk (nd.cx.getD i.1.toNat aK).1 (nd.cx.getD i.1.toNat aK).2 (nd.cx.getD i.1.toNat aK).3 (nd.cx.getD i.1.toNat aK).4,12,())) λj=>aj (D.eu j.1.1 12) (ak (F203 n (⟨p⟩,aC.mk (nd.cx.getD i.1.toNat aK).1 (nd.cx.getD i.1.toNat aK).2 (nd.cx.getD i.1.toNat aK).3 (nd.cx.getD i.1.toNat aK).4,())) λk=>aj k.1.1 (some (LO.next (D.add .i64 i.1 1,()))) (some (LO.ret () i))) (some (LO.ret () i)))) (some (LO.out 0 i)))
    nd.cx.length (λi=>qB p (nd.cx.getD i aK)) (λi=>(LO.ret () ((i:Int),()):LO (Int×Unit) (Int×Unit) Unit Any)) hb (λi hi=>by
     have hw:=hq _ (cG aK hi);obtain⟨r,hr,k1,k2,_,_⟩:=sizes (nd.cx.getD i aK) (by omega) 12 (by omega) (by omega);simp(disch:=omega)only[aY,TM];refine Ev.ak (hr 0) ?_;unfold qB;by_cases h12:pw (nd.cx.getD i aK)<=12
     .rw[ig h12,iL];simp(disch:=omega)only[aY];refine Ev.ak (VI (p:=p) (by omega) (nd.cx.getD i aK) (by omega) 0) (Ev.of_eq λn=>?_);cases nU p.Cons (nd.cx.getD i aK)<;>simp(disch:=omega)only[aY,bW,fH,fJ]
     .rw[iC h12,jr];exact Ev.of_eq λn=>by simp(disch:=omega)only[aY]) (λn=>by simp(disch:=omega)only[aY])with⟨a,r⟩|⟨i,hi,a,r⟩
   .rw[vB (d:=aK) a];exact Ev.aU r (λn c=>_) _ (Ev.of_eq λn=>rfl)
   .rw[lK (d:=aK) hi a];refine Ev.aU r (λn c=>_) _ (Ev.of_eq λn=>?_);rw[uY];simp(disch:=omega)only[aY]<;>rfl
def apE(hs:Small p)(hq:∀q∈nd.cx,pw q<=16)(hl:nd.cx.length<=10):Ev (λn=>F153 n (⟨p⟩,nd,())) ((lM p nd,()),()):=by
 have hc:=hs.cons;have fin:=ZH hs hq hl;unfold F153 tB lM;simp only[aY,apA];unfold OH MC npB;by_cases Ci:nd.Op=15
 .rw[bL Ci,bL Ci,ig (Or.inl Ci),iL];have h1:isNil [(274,Ty.st 27),(297,Ty.int .i64),(298,Ty.st 28)] (eM 29 (cI.a0 ⟨⟩))=false:=rfl;have h2:iI [(274,Ty.st 27),(297,Ty.int .i64),(298,Ty.st 28)] 0 (eM 29 (cI.a0 ⟨⟩))=true:=rfl;refine Ev.congr (g:=λn=>vK n (⟨p⟩,nd,()) ((decide (1<=(nd.cx.length:Int)∧(nd.cx.length:Int)<=5)&&decide ((nd.Kids.length:Int)=1+nd.cx.length),()),())) (λn=>?_) (fin _);simp only[h1,h2];unfold F338;simp(disch:=omega)only[aY,bG,wK,bW,mR,aab]
 .rw[bw Ci,bw Ci];by_cases h0:nd.cx.length=0
  .rw[ig (Or.inr h0),iL];by_cases xg:nd.Op=14
   .rw[bL xg,bL xg];have h1:isNil [(274,Ty.st 27),(297,Ty.int .i64),(298,Ty.st 28)] (eM 29 (cI.a2 ⟨⟩))=false:=rfl;have h2:iI [(274,Ty.st 27),(297,Ty.int .i64),(298,Ty.st 28)] 0 (eM 29 (cI.a2 ⟨⟩))=false:=rfl;have h3:iI [(274,Ty.st 27),(297,Ty.int .i64),(298,Ty.st 28)] 1 (eM 29 (cI.a2 ⟨⟩))=false:=rfl;have h4:iI [(274,Ty.st 27),(297,Ty.int .i64),(298,Ty.st 28)] 2 (eM 29 (cI.a2 ⟨⟩))=true:=rfl;refine Ev.congr (g:=λn=>vK n (⟨p⟩,nd,()) ((decide (0<=nd.N∧nd.N<p.Cons.length)&&decide ((nd.Kids.length:Int)=(p.Cons.getD nd.N.toNat bE).qQ),()),())) (λn=>?_) (fin _);simp only[h1,h2,h3,h4];unfold F340;by_cases hr:0<=nd.N∧nd.N<p.Cons.length
    .rw[ig hr,iL];simp(disch:=omega)only[aY,bG,wK,ek,ig (show 0<=nd.N∧nd.N<=(p.Cons.length:Int)-1 by omega),mR]
    .rw[iC hr,jr];simp(disch:=omega)only[aY,bG,wK,ek,iC (show ¬(0<=nd.N∧nd.N<=(p.Cons.length:Int)-1)by omega)]
   .rw[bw xg,bw xg];by_cases hop:1<=nd.Op∧nd.Op<=28
    .rw[bL hop,bL hop];generalize((rJ.getD nd.Op.toNat 0:Nat):Int)=K;have h1:isNil [(274,Ty.st 27),(297,Ty.int .i64),(298,Ty.st 28)] (eM 29 (cI.a1 K))=false:=rfl;have h2:iI [(274,Ty.st 27),(297,Ty.int .i64),(298,Ty.st 28)] 0 (eM 29 (cI.a1 K))=false:=rfl;have h3:iI [(274,Ty.st 27),(297,Ty.int .i64),(298,Ty.st 28)] 1 (eM 29 (cI.a1 K))=true:=rfl;refine Ev.congr (g:=λn=>vK n (⟨p⟩,nd,()) ((decide ((nd.Kids.length:Int)=K),()),())) (λn=>?_) (fin _);simp only[h1,h2,h3];unfold F339;simp(disch:=omega)only[aY,bG,<-mR];rfl
    .rw[bw hop,bw hop];have h1:isNil [(274,Ty.st 27),(297,Ty.int .i64),(298,Ty.st 28)] (eM 29 cI.none)=true:=rfl;simp only[h1];exact Ev.of_eq λn=>by simp only[aY,jr]
  .rw[show decide (nd.Op=15∨nd.cx.length=0)=false from iC (by omega),jr,jr,jr];by_cases xg:nd.Op=14
   .rw[bL xg];have h1:isNil [(274,Ty.st 27),(297,Ty.int .i64),(298,Ty.st 28)] (eM 29 (cI.a2 ⟨⟩))=false:=rfl;have h2:iI [(274,Ty.st 27),(297,Ty.int .i64),(298,Ty.st 28)] 0 (eM 29 (cI.a2 ⟨⟩))=false:=rfl;simp only[h1,h2];exact Ev.of_eq λn=>by simp(disch:=omega)only[aY,Wg]<;>rfl
   .rw[bw xg];by_cases hop:1<=nd.Op∧nd.Op<=28
    .rw[bL hop];generalize((rJ.getD nd.Op.toNat 0:Nat):Int)=K;have h1:isNil [(274,Ty.st 27),(297,Ty.int .i64),(298,Ty.st 28)] (eM 29 (cI.a1 K))=false:=rfl;have h2:iI [(274,Ty.st 27),(297,Ty.int .i64),(298,Ty.st 28)] 0 (eM 29 (cI.a1 K))=false:=rfl;simp only[h1,h2];exact Ev.of_eq λn=>by simp(disch:=omega)only[aY,Wg]<;>rfl
    .rw[bw hop];have h1:isNil [(274,Ty.st 27),(297,Ty.int .i64),(298,Ty.st 28)] (eM 29 cI.none)=true:=rfl;simp only[h1];exact Ev.of_eq λn=>by simp only[aY]<;>rfl
end
end
section
section
variable {p:aG}{nd:bp}
def w9(op pats args:Int):Int:=if op=15 then 1+pats else if op=14 then args else if 1<=op∧op<=28 then(rJ.getD op.toNat 0:Nat)else -1
def e96{n:Nat}(op:Int){pats args:Int}(h1:0<=pats)(h2:pats<=1000):F96 n (op,pats,args,())=some ((w9 op pats args,()),()):=by
 by_cases h:1<=op∧op<=28
 .by_cases Ci:op=15
  .subst Ci;unfold F96 FX Am Al w9;rw[bL rfl];simp(disch:=omega)only[aY,bG,bW]
  .obtain ⟨k,rfl⟩:∃k:Nat,op=k:=⟨_,(LH (by omega)).symm⟩;have hk2:k<=28:=by omega
   match k,hk2,Ci with
   |0,_,_=>omega
   |1,_,_|2,_,_|3,_,_|4,_,_|5,_,_|6,_,_|7,_,_|8,_,_|9,_,_|10,_,_|11,_,_|12,_,_|13,_,_|14,_,_|16,_,_|17,_,_|18,_,_|19,_,_|20,_,_|21,_,_|22,_,_|23,_,_|24,_,_|25,_,_|26,_,_|27,_,_|28,_,_=>rfl
   |15,_,h=>exact absurd rfl h
   |k+29,h,_=>omega
 .unfold F96 FX Am Al w9;rw[bw (by omega),bw (by omega),bw h];simp(disch:=omega)only[aY,bG]
def U9{R B P:Type}{cons:List cz}(hc:cons.length<=1000):∀(qs pre:List aC)(b:Bool),pre.length+qs.length<=1000->(∀q∈qs,pw q<=16)->
  ∀(F:Nat->Bool×Int×Unit->Option (LO (Bool×Int×Unit) R B P)),
  (∀n h,F n h=aj (D.bN h.2.1 (aq (pre++qs))) (aj h.1 (aB (av h.2.1 (pre++qs)) (ak (F83 n (@aN aC (pre++qs) (ah h.2.1) aK,12,())) λi=>aj (D.eu 0 i.1.1) (aB (av h.2.1 (pre++qs)) (ak (F95 n (@aN aC (pre++qs) (ah h.2.1) aK,cons,())) λj=>some (LO.next (j.1.1,D.add .i64 h.2.1 1,())))) (some (LO.next (false,D.add .i64 h.2.1 1,()))))) (some (LO.out 0 h))) (some (LO.out 0 h)))->
  ∃j,fE F (b,(pre.length:Int),()) (.out 0 (b&&qs.all (λq=>decide (pw q<=12)&&nU cons q),j,()))
 |[],pre,b,h3,hq,F,hF=>by refine⟨(pre.length:Int),.out (Ev.of_eq λn=>?_)⟩;rw[hF];simp(disch:=omega)only[aY,lB,List.all_nil,DY]<;>rfl
 |q::qs,pre,b,h3,hq,F,hF=>by
  simp only[fI]at h3;cases b with
  |false=>refine⟨(pre.length:Int),.out (Ev.of_eq λn=>?_)⟩;rw[hF];simp(disch:=omega)only[aY,jr]<;>rfl
  |true=>
   have hw:=hq q eC;have g1:(pre++q::qs).getD pre.length aK=q:=eU ..;obtain⟨j,hr⟩:=U9 hc qs (pre++[q]) (decide (pw q<=12)&&nU cons q) (by simp;omega) (λq' h=>hq q' (gL _ h)) F (λn e=>by rw[hF];simp only[sn,zj]<;>rfl);refine⟨j,.next (y:=(decide (pw q<=12)&&nU cons q,((pre++[q]).length:Int),())) ?_ (by rw[Ed,iL];exact hr)⟩;refine Ev.congr (g:=λn=>ak (F83 n (q,12,())) λi=>aj (D.eu 0 i.1.1) (ak (F95 n (q,cons,())) λj=>some (LO.next (j.1.1,(pre.length:Int)+1,()))) (some (LO.next (false,(pre.length:Int)+1,())))) (λn=>?_) (Ev.ak (e83 q (by omega) (by omega)) ?_)
   .rw[hF];simp(disch:=first|omega|simp only[lX];omega)only[aY,g1,bW]<;>rfl
   .by_cases h12:pw q<=12
    .have apn:((pw q:Nat):Int)<=12:=by omega
     rw[nc apn,ig h12,iL];simp(disch:=omega)only[aY];refine Ev.ak (abF hc q (by omega) 0) (Ev.of_eq λn=>?_);simp only[aY,fH,fJ,ju]
    .rw[nh (by omega),iC h12,jr];exact Ev.of_eq λn=>by simp(disch:=omega)only[aY,fH,fJ,ju]
abbrev Oa(p:aG)(nd:bp)(args:Int)(n:Nat)(b:Bool):Option ((Bool×Unit)×Unit):=
 ak (iter (λh:Bool×Int×Unit=>aj (D.bN h.2.1 (aq nd.cx)) (aj h.1 (aB (av h.2.1 nd.cx) (ak (F83 n (@aN aC nd.cx (ah h.2.1) aK,12,())) λi=>aj (D.eu 0 i.1.1) (aB (av h.2.1 nd.cx) (ak (F95 n (@aN aC nd.cx (ah h.2.1) aK,p.Cons,())) λj=>some (LO.next (j.1.1,D.add .i64 h.2.1 1,())))) (some (LO.next (false,D.add .i64 h.2.1 1,()))))) (some (LO.out 0 h))) (some (LO.out 0 h))) n (b,0,()))
  λh=>LO.el (R:=Bool×Unit) (B:=Unit) (P:=Any) h (λ_ j=>aj j.1 (ak (F96 n (nd.Op,aq nd.cx,args,())) λk=>some ((D.aO (aq nd.Kids) k.1.1,()),())) (some ((false,()),()))) (λ_ j=>some (j,())) λ_ _=>none
def Xm(hs:Small p)(hq:∀q∈nd.cx,pw q<=16)(hl:nd.cx.length<=10)(args:Int)(b:Bool):Ev (λn=>Oa p nd args n b) (((b&&nd.cx.all (qB p))&&decide ((nd.Kids.length:Int)=w9 nd.Op nd.cx.length args),()),()):=by have hc:=hs.cons;obtain⟨j,hr⟩:=U9 (R:=Bool×Unit) (B:=Unit) (P:=Any) (cons:=p.Cons) (by omega) nd.cx [] b (by simp;omega) hq _ (λn h=>rfl);refine Ev.aU (F:=λn h=>_) hr (λn c=>_) _ (Ev.of_eq λn=>?_);rw[fu];show TL.aj (b&&nd.cx.all (qB p)) _ _=_;cases b&&nd.cx.all (qB p)with|false=>simp only[aY,jr]|true=>simp(disch:=omega)only[aY,e96,mR,iL]
def e54(hs:Small p)(hq:∀q∈nd.cx,pw q<=16)(hl:nd.cx.length<=10):Ev (λn=>F54 n (p,nd,())) ((lM p nd,()),()):=by
 have hc:=hs.cons;have hf:=hs.wI;have hn:D.neg .i64 (p.dH.length:Int)=-(p.dH.length:Int):=yW (by omega) (by omega);have OW:D.aO (nd.cx.length:Int) 0=decide ((nd.cx.length:Int)=0):=mR ..;have fin:=Xm (p:=p) (nd:=nd) hs hq hl;have fold:∀n args b,(ak (iter (λh:Bool×Int×Unit=>aj (D.bN h.2.1 (nd.cx.length:Int)) (aj h.1 (aB (av h.2.1 nd.cx) (ak (F83 n (nd.cx.getD h.2.1.toNat aK,12,())) λi=>aj (D.eu 0 i.1.1) (aB (av h.2.1 nd.cx) (ak (F95 n (nd.cx.getD h.2.1.toNat aK,p.Cons,())) λj=>some (LO.next (j.1.1,D.add .i64 h.2.1 1,())))) (some (LO.next (false,D.add .i64 h.2.1 1,()))))) (some (LO.out 0 h))) (some (LO.out 0 h))) n (b,0,()))
  λh=>LO.el (R:=Bool×Unit) (B:=Unit) (P:=Any) h (λ_ j=>aj j.1 (ak (F96 n (nd.Op,(nd.cx.length:Int),args,())) λk=>some ((D.aO (nd.Kids.length:Int) k.1.1,()),())) (some ((false,()),()))) (λ_ j=>some (j,())) λ_ _=>none)=Oa p nd args n b:=λ_ _ _=>rfl
 have ev:∀{G:Nat->Option ((Bool×Unit)×Unit)}(args:Int)(b r:Bool),(∀n,G n=Oa p nd args n b)->((b&&nd.cx.all (qB p))&&decide ((nd.Kids.length:Int)=w9 nd.Op nd.cx.length args))=r->Ev G ((r,()),()):=by intro G args b r h1 h2;rw[<-h2];exact Ev.congr h1 (fin args b)
 unfold F54;by_cases Ci:nd.Op=15
 .refine ev 0 (decide (nd.N=0)&&decide (1<=(nd.cx.length:Int)∧(nd.cx.length:Int)<=5)) _ (λn=>?_) ?_
  .cases hz:decide (nd.N=0)<;>(have GV:D.aO nd.N 0=_:=(mR ..).trans hz)<;>simp(disch:=omega)only[aY,bG,GV,Hl,jr,iL]<;>exact fold ..
  .unfold lM npB MC CI w9;simp only[Ci,Int.reduceEq,fR,eO,true_or,decide_true,iL]
   ac_rfl
 .have pats:∀b:Bool,(b&&decide ((nd.cx.length:Int)=0))=(b&&npB nd):=by
   intro b;unfold npB
   congr 1
   exact decide_eq_decide.2 (by omega)
  by_cases xg:nd.Op=14
  .by_cases hr:0<=nd.N∧nd.N<p.Cons.length
   .refine ev (p.Cons.getD nd.N.toNat bE).qQ (decide ((nd.cx.length:Int)=0)) _ (λn=>?_) ?_
    .simp (disch:=omega)only[aY,bG,Hl,ek,ig (show 0<=nd.N∧nd.N<=(p.Cons.length:Int)-1 by omega),OW];exact fold ..
    .have:=pats true;rw[iL,iL]at this;rw[this];unfold lM MC CI w9;simp only[xg,Int.reduceEq,fR,eO,ig hr,iL,DY]
     ac_rfl
   .refine ev 0 false _ (λn=>?_) ?_
    .simp (disch:=omega)only[aY,bG,Hl,ek,iC (show ¬(0<=nd.N∧nd.N<=(p.Cons.length:Int)-1)by omega)];exact fold ..
    .unfold lM MC CI;simp only[xg,Int.reduceEq,fR,eO,iC hr,jr,Ee]
  .have last:∀b:Bool,CI p nd=b->((b&&decide ((nd.cx.length:Int)=0))&&nd.cx.all (qB p)&&decide ((nd.Kids.length:Int)=w9 nd.Op nd.cx.length 0))=lM p nd:=by
    intro b hb;rw[pats];unfold lM;rw[hb];have hk:MC p nd=decide ((nd.Kids.length:Int)=w9 nd.Op nd.cx.length 0):=by
     unfold MC w9;rw[bw Ci,bw xg,bw Ci,bw xg];by_cases hop:1<=nd.Op∧nd.Op<=28
     .rw[bL hop,bL hop]
     .rw[bw hop,bw hop];exact(iC (by omega)).symm
    rw[hk]
    ac_rfl
   refine ev 0 (CI p nd&&decide ((nd.cx.length:Int)=0)) _ (λn=>?_) (last _ rfl);unfold CI;by_cases h1:nd.Op=1
   .rw[bL h1];have e:decide (-1000000000<=nd.N∧nd.N<=1000000000)=hJ nd.N:=by simp only[hJ,Bool.decide_and]
    cases hz:hJ nd.N<;>simp(disch:=omega)only[aY,bG,Hl,e,hz,OW,jr,iL]<;>exact fold ..
   rw[bw h1];by_cases h2:nd.Op=2
   .rw[bL h2];cases hz:decide (0<=nd.N∧nd.N<=1)<;>simp(disch:=omega)only[aY,bG,Hl,hz,OW,jr,iL]<;>exact fold ..
   rw[bw h2];by_cases h3:nd.Op=24
   .rw[bL h3];cases hz:decide (0<=nd.N∧nd.N<=3)<;>simp(disch:=omega)only[aY,bG,Hl,hz,OW,jr,iL]<;>exact fold ..
   rw[bw h3];by_cases h4:nd.Op=4
   .rw[bL h4];cases hz:decide (-(p.dH.length:Int)<=nd.N∧nd.N<=29)<;>simp(disch:=omega)only[aY,hn,bG,Hl,hz,OW,jr,iL]<;>exact fold ..
   rw[bw h4,bw xg];cases hz:decide (nd.N=0)<;>(have GV:D.aO nd.N 0=_:=(mR ..).trans hz)<;>simp(disch:=omega)only[aY,bG,GV,OW,jr,iL]<;>exact fold ..
end
end
section
section
def CL(b:UInt8):Bool:=decide (97<=b.toNat∧b.toNat<=122)
def yj(s:List UInt8):Bool:=match s with
 |[]=>false
 |a::l=>(decide (l.length<=7)&&decide (65<=a.toNat∧a.toNat<=90))&&l.all CL
theorem uR(a:UInt8)(l:List UInt8):yj (a::l)=((decide (l.length<=7)&&decide (65<=a.toNat∧a.toNat<=90))&&l.all CL):=rfl
theorem Je(l:List UInt8)(i:Nat):lH l i=((l.getD i 0).toNat:Int):=rfl
variable {l s:List UInt8}
def apD(hl:l.length<=1000):Ev (λn=>F161 n (l,())) ((l.all CL,()),()):=by
 unfold F161;have hb:∀(i:Nat)(y:Int×Unit),(LO.ret () (false,()):LO (Int×Unit) (Bool×Unit) Unit Any)≠.next y:=λ_ _ h=>by cases h
 rcases eV (F:=λn c=>aj (D.bN c.1 (aq l)) (aB (av c.1 l) (aj (D.bN (lH l c.1) 97) (some (LO.ret () (false,()))) (aB (av c.1 l) (aj (D.bN 122 (lH l c.1)) (some (LO.ret () (false,()))) (some (LO.next (D.add .i64 c.1 1,()))))))) (some (LO.out 0 c))) l.length (λi=>CL (l.getD i 0)) (λ_=>(LO.ret () (false,()):LO (Int×Unit) (Bool×Unit) Unit Any)) hb (λi hi=>Ev.of_eq λn=>by
   unfold CL;by_cases h1:97<=(l.getD i 0).toNat
   .by_cases h2:(l.getD i 0).toNat<=122
    .simp (disch:=omega)only[aY,Je,ig (And.intro h1 h2),bW,fH,fJ]
    .simp (disch:=omega)only[aY,Je,iC (λh:97<=(l.getD i 0).toNat∧(l.getD i 0).toNat<=122=>h2 h.2)]
   .simp (disch:=omega)only[aY,Je,iC (λh:97<=(l.getD i 0).toNat∧(l.getD i 0).toNat<=122=>h1 h.1)]) (λn=>by simp(disch:=omega)only[aY]<;>rfl)with⟨a,r⟩|⟨i,hi,a,r⟩
 .rw[vB (d:=(0:UInt8)) a];exact Ev.aU r (λn c=>_) _ (Ev.of_eq λn=>rfl)
 .rw[lK (d:=(0:UInt8)) hi a];exact Ev.aU r (λn c=>_) _ (Ev.of_eq λn=>rfl)
def Va(l:List UInt8)(pos:Nat)(h:pos<l.length):(CL l[pos]=true∧tE l pos=(l[pos].toNat:Int)∧GB l pos=1)∨(CL l[pos]=false∧(tE l pos<97∨122<tE l pos)):=by
 have hs:pos<(bF l).size:=by simpa[bF,ByteArray.size]using h
 have hg:(bF l)[pos]'hs=l[pos]:=rfl;unfold CL tE GB;by_cases h1:l[pos].toNat<128
 .have hd:=decode_ascii (bF l) pos hs (by rw[hg];exact h1);rw[hd,hg];simp only;by_cases h2:97<=l[pos].toNat∧l[pos].toNat<=122
  .exact .inl ⟨ig h2,rfl,trivial⟩
  .exact .inr ⟨iC h2,by omega⟩
 .have hd:=decode_high (bF l) pos hs (by rw[hg];omega);exact .inr ⟨iC (by omega),by omega⟩
def DP(F:Nat->(List UInt8×Nat)×Unit->Option (LO ((List UInt8×Nat)×Unit) (Bool×Unit) ((List UInt8×Nat)×Unit) Any))
  (hF:∀n c,F n c=aj (Ot c.1.2 c.1.1) (aj (D.bN (tE c.1.1 c.1.2) 97) (KD n c) (aj (D.bN 122 (tE c.1.1 c.1.2)) (KD n c) (some (LO.next ((c.1.1,abh c.1.2 (GB c.1.1 c.1.2)),()))))) (some (LO.out 0 c))) :
  ∀(k:Nat)(l:List UInt8)(pos:Nat),pos+k=l.length->((l.drop pos).all CL=true∧∃c,fE F ((l,pos),()) (.out 0 c))∨((l.drop pos).all CL=false∧∃c,fE F ((l,pos),()) (.ret c (false,())))
 |0,l,pos,h=>by refine .inl ⟨by rw[List.drop_eq_nil_of_le (by omega)];rfl,((l,pos),()),.out (Ev.of_eq λn=>?_)⟩;rw[hF];have:Ot pos l=false:=iC (by omega);simp only[aY,this]
 |k+1,l,pos,h=>by
  have hp:pos<l.length:=by omega
  have hd:l.drop pos=l[pos]::l.drop (pos+1):=Q1 hp;have hb:Ot pos l=true:=ig hp;rw[hd,Ed];rcases Va l pos hp with⟨a,b,c⟩|⟨a,b⟩
  .have hl:97<=l[pos].toNat∧l[pos].toNat<=122:=CH a;rw[a,iL];have hn:Ev (λn=>F n ((l,pos),())) (.next ((l,pos+1),())):=Ev.of_eq λn=>by rw[hF];simp(disch:=omega)only[aY,hb,b,c];rfl
   rcases DP F hF k l (pos+1) (by omega)with⟨x,y,z⟩|⟨x,y,z⟩
   .exact .inl ⟨x,y,.next hn z⟩
   .exact .inr ⟨x,y,.next hn z⟩
  .rw[a,jr];refine .inr ⟨rfl,((l,abh pos (GB l pos)),()),.ret (Ev.of_eq λn=>?_)⟩;rw[hF];rcases b with b|b
   .simp (disch:=omega)only[aY,hb]<;>rfl
   .by_cases b':tE l pos<97
    .simp (disch:=omega)only[aY,hb]<;>rfl
    .simp (disch:=omega)only[aY,hb]<;>rfl
def apy(l:List UInt8):Ev (λn=>F257 n (l,())) ((l.all CL,()),()):=by
 unfold F257;rcases DP _ (λn c=>rfl) l.length l 0 (by omega)with⟨a,c,r⟩|⟨a,c,r⟩
 .rw[List.drop_zero]at a;rw[a];exact Ev.aU (F:=λn c=>_) r (λn c=>_) _ (Ev.of_eq λn=>rfl)
 .rw[List.drop_zero]at a;rw[a];exact Ev.aU (F:=λn c=>_) r (λn c=>_) _ (Ev.of_eq λn=>rfl)
def E2{G:Nat->List UInt8->Option ((Bool×Unit)×Unit)}{a:UInt8}(h:Ev (λn=>G n l) ((l.all CL,()),()))(hl:l.length<=7) :
  Ev (λn=>aB (av 0 (a::l)) (aj (D.eu 65 (lH (a::l) 0)) (aB (av 0 (a::l)) (aj (D.eu (lH (a::l) 0) 90) (aB (eW 1 (aq (a::l)) (aq (a::l))) (ak (G n (eo (a::l) 1 (aq (a::l)))) λc=>some c)) (some ((false,()),())))) (some ((false,()),())))) ((yj (a::l),()),()):=by
 rw[uR,ig hl,iL];have e:lH (a::l) 0=(a.toNat:Int):=rfl;by_cases h1:65<=a.toNat
 .by_cases h2:a.toNat<=90
  .rw[ig (And.intro h1 h2),iL];simp(disch:=first|omega|simp only[lX];omega)only[aY,e,qX];exact Ev.ak h (Ev.pure _)
  .rw[iC (λh:65<=a.toNat∧a.toNat<=90=>h2 h.2),jr];exact Ev.of_eq λn=>by simp(disch:=first|omega|simp only[lX];omega)only[aY,e]
 .rw[iC (λh:65<=a.toNat∧a.toNat<=90=>h1 h.1),jr];exact Ev.of_eq λn=>by simp(disch:=first|omega|simp only[lX];omega)only[aY,e]
def e93(hs:s.length<=1000):Ev (λn=>F93 n (s,())) ((yj s,()),()):=by
 unfold F93;cases s with
 |nil=>exact Ev.of_eq λn=>by simp(disch:=omega)only[aY]<;>rfl
 |cons a l=>
  simp only[fI]at hs;by_cases h:l.length<=7
  .have:=E2 (G:=λn l=>F161 n (l,())) (a:=a) (apD (l:=l) (by omega)) h;refine Ev.congr (λn=>?_) this;simp only[aq,fI];rw[Jd (by omega),Jd (by omega)]
  .rw[uR,iC h,jr,jr];exact Ev.of_eq λn=>by simp(disch:=omega)only[aY]
def apB(hs:s.length<=1000):Ev (λn=>F197 n (s,())) ((yj s,()),()):=by
 unfold F197;cases s with
 |nil=>exact Ev.of_eq λn=>rfl
 |cons a l=>
  simp only[fI]at hs;have hn:gf (a::l) []=false:=rfl;by_cases h:l.length<=7
  .have:=E2 (G:=λn l=>F257 n (l,())) (a:=a) (apy l) h;refine Ev.congr (λn=>?_) this;simp only[hn];rw[pZ,QN,Jd (by simp only[aq,fI];omega)]
  .rw[uR,iC h,jr,jr];exact Ev.of_eq λn=>by simp(disch:=omega)only[aY,hn]
def Fw(c:cz):Bool:=yj c.Name&&decide (0<=c.qQ∧c.qQ<=3)
def apG{c:cz}(hs:c.Name.length<=1000):Ev (λn=>F148 n (c,())) ((Fw c,()),()):=by unfold F148 Fw;refine Ev.ak (apB hs) (Ev.of_eq λn=>?_);cases yj c.Name<;>simp only[aY,wK,iL,jr]
def xT{α:Type}{l:List α}{i:Nat}(d:α)(h:i<l.length):(l.take (i+1)).Nodup↔(l.take i).Nodup∧l.getD i d∉l.take i:=by
 rw[<-take_succ d h,HU];constructor
 .rintro ⟨a,_,b⟩
  exact⟨a,λhm=>b _ hm _ (List.mem_singleton_self _) rfl⟩
 .rintro ⟨a,b⟩
  refine⟨a,Vx _ _,λx hx y hy=>?_⟩;rw[mq.1 hy];exact λh=>b (h▸hx)
def apH{l:List (List UInt8)}(hl:l.length<=1000):Ev (λn=>F142 n (l,s,())) ((decide (s∈l),()),()):=by
 unfold F142;have hb:∀(i:Nat)(y:Int×Unit),(LO.ret () (true,()):LO (Int×Unit) (Bool×Unit) Unit Any)≠.next y:=λ_ _ h=>by cases h
 rcases eV (F:=λn c=>aj (D.bN c.1 (aq l)) (aB (av c.1 l) (aj (gf (aN l (ah c.1) []) s) (some (LO.ret () (true,()))) (some (LO.next (D.add .i64 c.1 1,()))))) (some (LO.out 0 c))) l.length (λi=>!(gf (l.getD i []) s)) (λ_=>(LO.ret () (true,()):LO (Int×Unit) (Bool×Unit) Unit Any)) hb (λi hi=>Ev.of_eq λn=>by
   cases hc:gf (l.getD i []) s<;>simp(disch:=omega)only[aY,hc,bW,fH,fJ,LN,Bool.not_false]) (λn=>by simp(disch:=omega)only[aY]<;>rfl)with⟨a,r⟩|⟨i,hi,a,r⟩
 .have:s∉l:=by intro hm;have:=iJ (d:=([]:List UInt8)) (Q:=λx=>(!(gf x s))=true) a s hm;simp[gf]at this
  rw[iC this];exact Ev.aU r (λn c=>_) _ (Ev.of_eq λn=>rfl)
 .have:s∈l:=by
   have he:l.getD i []=s:=by simpa[gf]using a
   rw[<-he];exact cG _ hi
  rw[ig this];exact Ev.aU r (λn c=>_) _ (Ev.of_eq λn=>rfl)
def e94{l:List (List UInt8)}(hl:l.length<=1000):∃b,Ev (λn=>F94 n (l,())) ((b,()),())∧(b=true↔l.Nodup):=by
 unfold F94;have hb:∀(i:Nat)(y:Int×Unit),(LO.ret () (false,()):LO (Int×Unit) (Bool×Unit) Unit Any)≠.next y:=λ_ _ h=>by cases h
 rcases eV (F:=λn c=>aj (D.bN c.1 (aq l)) (aB (eW 0 c.1 (aq l)) (aB (av c.1 l) (ak (F142 n (eo l 0 c.1,aN l (ah c.1) [],())) λd=>aj d.1.1 (some (LO.ret () (false,()))) (some (LO.next (D.add .i64 c.1 1,())))))) (some (LO.out 0 c))) l.length (λi=>!(decide (l.getD i []∈l.take i))) (λ_=>(LO.ret () (false,()):LO (Int×Unit) (Bool×Unit) Unit Any)) hb (λi hi=>by
   simp(disch:=omega)only[aY,r8];refine Ev.ak (apH (by rw[LG];omega)) (Ev.of_eq λn=>?_);cases hc:decide (l.getD i []∈l.take i)<;>simp(disch:=omega)only[aY,bW,fH,fJ,LN,Bool.not_false]) (λn=>by simp(disch:=omega)only[aY]<;>rfl)with⟨a,r⟩|⟨i,hi,a,r⟩
 .refine ⟨true,Ev.aU r (λn c=>_) _ (Ev.of_eq λn=>rfl),λ_=>?_,λ_=>rfl⟩;have:∀i,i<=l.length->(l.take i).Nodup:=by
   intro i
   induction i with|zero=>intro _;simp|succ i ih=>intro hi;refine(xT [] (by omega)).2 ⟨ih (by omega),λhm=>?_⟩;have:=a i (by omega);rw[ig hm]at this;cases this
  have:=this l.length (bT _);rwa [HT]at this
 .refine ⟨false,Ev.aU r (λn c=>_) _ (Ev.of_eq λn=>rfl),(λh=>by cases h),λhn=>?_⟩;have h1:(l.take (i+1)).Nodup:=List.Nodup.sublist (List.take_sublist _ _) hn;have h2:=((xT [] hi).1 h1).2;rw[iC h2]at a;cases a
end
end
section
section
def Zi(n:Nat)(o:List Int)(ks:List Int):Prop:=o.length=n∧∀i:Nat,i<n->o.getD i 0=(ks.count (i:Int):Nat)
def HA(n:Nat)(u:List Bool)(ks:List Int):Prop:=u.length=n∧∀i:Nat,i<n->(u.getD i false=true↔(i:Int)∈ks)
variable {n N:Nat}{ks:List Int}{k lo:Int}
def Zi.step{o:List Int}(h:Zi n o ks)(h0:0<=k)(h1:k<n):Zi n (o.set k.toNat (o.getD k.toNat 0+1)) (ks++[k]):=by
 obtain⟨a,b⟩:=h;refine⟨by rw[AH];exact a,λi hi=>?_⟩;rw[List.count_append,List.count_singleton];have hk:=b k.toNat (by omega);by_cases hik:i=k.toNat
 .have e:(k==(i:Int))=true:=by simp;omega
  rw[e,bL rfl];rw[pQ,hik,LK (by omega)];simp only[Jp];rw[hk,<-hik];simp
 .have e:(k==(i:Int))=false:=by simp;omega
  rw[e];simp only[Bool.false_eq_true,eO,Ec];rw[pQ,LJ (by omega),<-pQ];exact b i hi
def HA.step{u:List Bool}(h:HA n u ks)(h0:0<=k)(h1:k<n):HA n (u.set k.toNat true) (ks++[k]):=by
 obtain⟨a,b⟩:=h;refine⟨by rw[AH];exact a,λi hi=>?_⟩;rw[eg,mq];by_cases hik:i=k.toNat
 .rw[pQ,hik,LK (by omega)];simp only[Jp,true_iff];exact .inr (by omega)
 .rw[pQ,LJ (by omega),<-pQ,b i hi];exact⟨.inl,λh=>h.elim id λh=>absurd h (by omega)⟩
abbrev Mp(N:Nat)(l:List Int)(lo:Int)(n:Nat)(c:List Int×Int×Unit):Option (LO (List Int×Int×Unit) (Bool×Unit) Unit Any):=
 aj (D.bN c.2.1 (aq l)) (aB (av c.2.1 l) (ak (F146 n (aN l (ah c.2.1) 0,lo,(N:Int)-1,())) λq=>aj (D.aM q.1.1) (some (LO.ret () (false,()))) (aB (av (aN l (ah c.2.1) 0) c.1) (aB (cw (ah (aN l (ah c.2.1) 0)) c.1) (aB (av (aN l (ah c.2.1) 0) c.1) (aB (cw (ah (aN l (ah c.2.1) 0)) c.1)
  (some (LO.next (dQ c.1 (ah (aN l (ah c.2.1) 0)) (D.add .i64 (aN c.1 (ah (aN l (ah c.2.1) 0)) 0) 1),D.add .i64 c.2.1 1,()))))))))) (some (LO.out 0 c))
def Em{N:Nat}{lo:Int}(hlo:0<=lo):∀(l pre:List Int)(o ks:List Int),Zi N o ks->ks.length+l.length<=100000->pre.length+l.length<=100000->
  ((∀k∈l,lo<=k∧k<N)∧∃o',Zi N o' (ks++l)∧fE (λn c=>Mp N (pre++l) lo n c) (o,(pre.length:Int),()) (.out 0 (o',((pre++l).length:Int),())))∨
  (¬(∀k∈l,lo<=k∧k<N)∧fE (λn c=>Mp N (pre++l) lo n c) (o,(pre.length:Int),()) (.ret () (false,())))
 |[],pre,o,ks,ho,h1,h2=>by refine .inl ⟨by simp,o,by rw[lB];exact ho,.out (Ev.of_eq λn=>?_)⟩;simp(disch:=omega)only[aY,Mp,lB]
 |k::l,pre,o,ks,ho,h1,h2=>by
  simp only[fI]at h1 h2;have g1:(pre++k::l).getD pre.length 0=k:=eU ..;have hol:=ho.1;by_cases hk:lo<=k∧k<N
  .have hc:=ho.2 k.toNat (by omega);have hcl:=List.count_le_length (a:=((k.toNat:Nat):Int)) (l:=ks);have hn:Ev (λn=>Mp N (pre++k::l) lo n (o,(pre.length:Int),())) (.next (o.set k.toNat (o.getD k.toNat 0+1),((pre++[k]).length:Int),())):=by refine Ev.of_eq λn=>?_;simp(disch:=first|omega|simp only[lX];omega)only[aY,Mp,g1,wK,ig (show lo<=k∧k<=(N:Int)-1 by omega),bW,fH,fJ,ju]
   rcases Em hlo l (pre++[k]) _ (ks++[k]) (ho.step (by omega) hk.2) (by simp;omega) (by simp;omega)with⟨a,o',b,c⟩|⟨a,c⟩
   .refine .inl ⟨λx hx=>?_,o',by simpa only[sn,zj]using b,.next hn (by simpa only[sn,zj]using c)⟩;rcases fc.1 hx with hx|hx
    .rw[hx];exact hk
    .exact a x hx
   .exact .inr ⟨λh=>a λx hx=>h x (gL _ hx),.next hn (by simpa only[sn,zj]using c)⟩
  .refine .inr ⟨λh=>hk (h k eC),.ret (Ev.of_eq λn=>?_)⟩;simp(disch:=first|omega|simp only[lX];omega)only[aY,Mp,g1,wK,iC (show ¬(lo<=k∧k<=(N:Int)-1)by omega)]
abbrev rO(N:Nat)(l:List Int)(lo:Int)(n:Nat)(c:List Bool×Int×Unit):Option (LO (List Bool×Int×Unit) (Bool×Unit) Unit Any):=
 aj (D.bN c.2.1 (aq l)) (aB (av c.2.1 l) (ak (F52 n (aN l (ah c.2.1) 0,lo,(N:Int)-1,())) λh=>aj (D.aM h.1.1) (some (LO.ret () (false,()))) (aB (av (aN l (ah c.2.1) 0) c.1) (aB (cw (ah (aN l (ah c.2.1) 0)) c.1) (aj (aN c.1 (ah (aN l (ah c.2.1) 0)) false) (some (LO.ret () (false,())))
  (aB (av (aN l (ah c.2.1) 0) c.1) (aB (cw (ah (aN l (ah c.2.1) 0)) c.1) (some (LO.next (dQ c.1 (ah (aN l (ah c.2.1) 0)) true,D.add .i64 c.2.1 1,())))))))))) (some (LO.out 0 c))
def A4{N:Nat}{lo:Int}(hlo:0<=lo):∀(l pre:List Int)(u:List Bool)(ks:List Int),HA N u ks->ks.Nodup->pre.length+l.length<=100000->
  (((∀k∈l,lo<=k∧k<N)∧(ks++l).Nodup)∧∃u',HA N u' (ks++l)∧fE (λn c=>rO N (pre++l) lo n c) (u,(pre.length:Int),()) (.out 0 (u',((pre++l).length:Int),())))∨
  (¬((∀k∈l,lo<=k∧k<N)∧(ks++l).Nodup)∧fE (λn c=>rO N (pre++l) lo n c) (u,(pre.length:Int),()) (.ret () (false,())))
 |[],pre,u,ks,ho,hd,h2=>by refine .inl ⟨⟨by simp,by rw[lB];exact hd⟩,u,by rw[lB];exact ho,.out (Ev.of_eq λn=>?_)⟩;simp(disch:=omega)only[aY,rO,lB]
 |k::l,pre,u,ks,ho,hd,h2=>by
  simp only[fI]at h2;have g1:(pre++k::l).getD pre.length 0=k:=eU ..;have hol:=ho.1;by_cases hk:lo<=k∧k<N
  .have hc:=ho.2 k.toNat (by omega);rw[show((k.toNat:Nat):Int)=k by omega]at hc;cases hf:u.getD k.toNat false with
   |true=>
    refine .inr ⟨λh=>?_,.ret (Ev.of_eq λn=>?_)⟩
    .have:=(HU.1 h.2).2.2 k (hc.1 hf) k eC;exact this rfl
    .simp (disch:=first|omega|simp only[lX];omega)only[aY,rO,g1,Hl,ig (show lo<=k∧k<=(N:Int)-1 by omega),hf]
   |false=>
    have hnk:k∉ks:=λh=>by rw[hc.2 h]at hf;cases hf
    have hd':(ks++[k]).Nodup:=HU.2 ⟨hd,Vx _ _,λa ha b hb=>by
     rw[mq.1 hb];exact λh=>hnk (h▸ha)⟩
    have hn:Ev (λn=>rO N (pre++k::l) lo n (u,(pre.length:Int),())) (.next (u.set k.toNat true,((pre++[k]).length:Int),())):=by refine Ev.of_eq λn=>?_;simp(disch:=first|omega|simp only[lX];omega)only[aY,rO,g1,Hl,ig (show lo<=k∧k<=(N:Int)-1 by omega),hf,bW,fH,fJ,ju]
    have ass:ks++[k]++l=ks++k::l:=by simp
    rcases A4 hlo l (pre++[k]) _ (ks++[k]) (ho.step (by omega) hk.2) hd' (by simp;omega)with⟨⟨a,a'⟩,o',b,c⟩|⟨a,c⟩
    .rw[ass]at a' b;refine .inl ⟨⟨λx hx=>?_,a'⟩,o',b,.next hn (by simpa only[sn,zj]using c)⟩;rcases fc.1 hx with hx|hx
     .rw[hx];exact hk
     .exact a x hx
    .rw[ass]at a;exact .inr ⟨λh=>a ⟨λx hx=>h.1 x (gL _ hx),h.2⟩,.next hn (by simpa only[sn,zj]using c)⟩
  .refine .inr ⟨λh=>hk (h.1 k eC),.ret (Ev.of_eq λn=>?_)⟩;simp(disch:=first|omega|simp only[lX];omega)only[aY,rO,g1,Hl,iC (show ¬(lo<=k∧k<=(N:Int)-1)by omega)]
def Zi.zero(N:Nat):Zi N (Jk N 0) []:=⟨by simp[Jk],λi hi=>by simp[Jk,pQ,List.getElem?_replicate,hi]⟩
def HA.zero(N:Nat):HA N (Jk N false) []:=⟨by simp[Jk],λi hi=>by simp[Jk,pQ,List.getElem?_replicate,hi]⟩
def nI(N:Nat):Nat->List bp->Prop
 |_,[]=>True
 |i,nd::l=>(∀k∈nd.Kids,(i:Int)+1<=k∧k<N)∧nI N (i+1) l
end
end
section
section
variable {p:aG}
def ME{k:List UInt8}:∀m:List (List UInt8×Bool),((n3 (A:=sg.A) Ty.str k true m).map Prod.fst)=if k∈m.map Prod.fst then m.map Prod.fst else m.map Prod.fst++[k]
 |[]=>by simp[n3]
 |q::m=>by
  have hk:Ii (A:=sg.A) Ty.str k q.1=decide (k=q.1):=by show gf k q.1=_;by_cases h:k=q.1<;>simp[gf,h]
  unfold n3;rw[hk];by_cases h:k=q.1
  .rw[ig h];simp[h]
  .rw[iC h];simp only[gE,lZ];rw[ME m];by_cases hm:k∈m.map Prod.fst
   .rw[bL hm,bL (gL _ hm)]
   .rw[bw hm,bw (by simp only[fc,not_or];exact⟨h,hm⟩)];rfl
structure Kt(l:List (List UInt8))(i:Nat)(m:List (List UInt8×Bool)):Prop where
 mem:∀x,x∈m.map Prod.fst↔x∈l.take i
 le:m.length<=i
 eq:m.length=i↔(l.take i).Nodup
variable {l:List (List UInt8)}
def Kt.step{i:Nat}{m:List (List UInt8×Bool)}(h:Kt l i m)(hi:i<l.length):Kt l (i+1) (n3 (A:=sg.A) Ty.str (l.getD i []) true m):=by
 have hk:=ME (k:=l.getD i []) m;have hlen:(n3 (A:=sg.A) Ty.str (l.getD i []) true m).length=if l.getD i []∈m.map Prod.fst then m.length else m.length+1:=by have:=nB List.length hk;rw[Jo]at this;rw[this];split<;>simp
 have hn:=xT ([]:List UInt8) hi;refine⟨λx=>?_,?_,?_⟩
 .rw[hk,<-take_succ [] hi,eg,mq];split
  .rename_i hm;rw[h.mem];exact⟨.inl,λh'=>h'.elim id λh'=>by rw[h'];exact(h.mem _).1 hm⟩
  .rw[eg,mq,h.mem]
 .rw[hlen];have:=h.le;split<;>omega
 .rw[hlen,hn];have:=h.le;by_cases hm:l.getD i []∈m.map Prod.fst
  .rw[bL hm];exact⟨λh'=>by omega,λh'=>absurd ((h.mem _).1 hm) h'.2⟩
  .rw[bw hm];have hm':l.getD i []∉l.take i:=λh'=>hm ((h.mem _).2 h');rw[<-h.eq];exact⟨λh'=>⟨by omega,hm'⟩,λh'=>by omega⟩
def apF(hl:l.length<=1000):∃b,Ev (λn=>F149 n (l,())) ((b,()),())∧(b=true↔l.Nodup):=by
 unfold F149
 let M:Nat->List (List UInt8×Bool):=λi=>Nat.rec [] (λi m=>n3 (A:=sg.A) Ty.str (l.getD i []) true m) i
 have hM:∀i,i<=l.length->Kt l i (M i):=by
  intro i
  induction i with|zero=>intro _;rw[show M 0=[]from rfl];exact⟨by simp,by simp,by simp⟩|succ i ih=>intro hi;exact(ih (by omega)).step (by omega)
 have hr:=rI (F:=λn c=>aj (D.bN c.1 (aq l)) (aB (av c.1 l) (some (LO.next (D.add .i64 c.1 1,n3 (A:=sg.A) Ty.str (aN l (ah c.1) []) true c.2.1,())))) (some (LO.out (R:=Bool×Unit) (B:=List (List UInt8×Bool)×Unit) (P:=Any) 0 c))) l.length (λi=>((i:Int),M i,())) 0 (λi hi=>Ev.of_eq λn=>by simp(disch:=omega)only[aY,bW,fH,fJ]<;>rfl) (Ev.of_eq λn=>by simp(disch:=omega)only[aY]<;>rfl);have hk:=hM l.length (bT _);refine⟨decide ((M l.length).length=l.length),Ev.aU hr (λn c=>_) _ (Ev.of_eq λn=>?_),?_⟩
 .rw[fu];simp only[mR,aq]
  congr 3
  exact decide_eq_decide.2 (by omega)
 .rw[decide_eq_true_iff,hk.eq,HT]
def e53{l:List cz}(hl:l.length<=1000)(hs:∀c∈l,c.Name.length<=1000):∃b,Ev (λn=>F53 n (l,())) ((b,()),())∧(b=true↔(∀c∈l,Fw c=true)∧l.length<=20∧(l.map cz.Name).Nodup):=by
 unfold F53;have hb:∀(i:Nat)(y:List (List UInt8)×Int×Unit),(LO.ret () (false,()):LO (List (List UInt8)×Int×Unit) (Bool×Unit) Unit Any)≠.next y:=λ_ _ h=>by cases h
 rcases v5 (F:=λn c=>aj (D.bN c.2.1 (aq l)) (aB (av c.2.1 l) (ak (F93 n ((aN l (ah c.2.1) bE).1,())) λd=>aj (D.aM d.1.1) (some (LO.ret () (false,()))) (aB (av c.2.1 l) (ak (F52 n ((aN l (ah c.2.1) bE).2,0,3,())) λe=>aj (D.aM e.1.1) (some (LO.ret () (false,()))) (aB (av c.2.1 l) (aB (cY c.1 [(aN l (ah c.2.1) bE).1]) (some (LO.next (cM c.1 [(aN l (ah c.2.1) bE).1],D.add .i64 c.2.1 1,()))))))))) (some (LO.out 0 c)))
  l.length (λi=>((l.take i).map cz.Name,(i:Int),())) (λi=>Fw (l.getD i bE)) (λ_=>(LO.ret () (false,()):LO (List (List UInt8)×Int×Unit) (Bool×Unit) Unit Any)) 0 hb (λi hi _=>by
   simp(disch:=omega)only[aY];refine Ev.ak (e93 (hs _ (cG bE hi))) ?_;unfold Fw;cases yj (l.getD i bE).Name with
   |false=>exact Ev.of_eq λn=>by simp only[aY,jr]
   |true=>
    refine Ev.of_eq λn=>?_;have uN:cY (List.map cz.Name (List.take i l)) [(l.getD i bE).Name]=true:=E7.2 (by simp;omega);cases hc:decide (0<=(l.getD i bE).qQ∧(l.getD i bE).qQ<=3)with
    |false=>simp only[aY,Hl,hc,iL]
    |true=>
     simp(disch:=omega)only[aY,Hl,hc,iL,uN,bW,fH,fJ];rw[<-take_succ bE hi,LV];rfl) (λ_=>Ev.of_eq λn=>by simp(disch:=omega)only[aY]<;>rfl)with⟨a,r⟩|⟨i,hi,a,_,r⟩
 .rw[HT]at r;obtain⟨b,n5,fM⟩:=e94 (l:=l.map cz.Name) (by rw[Jo];exact hl);have hall:∀c∈l,Fw c=true:=iJ (d:=bE) a;by_cases h20:l.length<=20
  .refine ⟨b,Ev.aU r (λn c=>_) _ ?_,by rw[fM];exact⟨λh=>⟨hall,h20,h⟩,λh=>h.2.2⟩⟩;refine Ev.congr (λn=>fu ..) ?_;simp(disch:=omega)only[aY];exact Ev.ak n5 (Ev.pure _)
  .refine ⟨false,Ev.aU r (λn c=>_) _ (Ev.of_eq λn=>?_),(λh=>by cases h),λh=>absurd h.2.1 h20⟩;rw[fu];simp(disch:=omega)only[aY]
 .refine ⟨false,Ev.aU r (λn c=>_) _ (Ev.of_eq λn=>rfl),(λh=>by cases h),λh=>?_⟩;rw[h.1 _ (cG bE hi)]at a;cases a
structure FP(p:aG):Prop where
 nodes:p.aW.length<=300
 wI:1<=p.dH.length∧p.dH.length<=p.aW.length
 main:0<=p.Main∧p.Main<p.dH.length
 RD:p.Cons.length<=20
 cons:∀c∈p.Cons,Fw c=true
 names:(p.Cons.map cz.Name).Nodup
 wC:∀nd∈p.aW,lM p nd=true
 fr:∀k∈p.dH,0<=k∧k<p.aW.length
 kr:nI p.aW.length 0 p.aW
 Ka:(p.dH++p.aW.flatMap bp.Kids).Nodup
 all:∀i:Nat,i<p.aW.length->(i:Int)∈p.dH++p.aW.flatMap bp.Kids
abbrev OI(p:aG)(n:Nat)(s:List Int×Int×Unit):Option (LO (List Int×Int×Unit) (Bool×Unit) Unit Any):=
 aj (D.bN s.2.1 (aq p.aW)) (aB (av s.2.1 p.aW) (ak (iter (Mp p.aW.length (aN p.aW (ah s.2.1) aQ).3 (D.add .i64 s.2.1 1) n) n (s.1,0,())) λt=>LO.el t (λ_ v=>some (LO.next (v.1,D.add .i64 s.2.1 1,()))) (λ_ v=>some (LO.ret () v)) λ_ _=>none)) (some (LO.out 0 s))
def V9{l:List bp}(h:∀nd∈l,nd.Kids.length<=10):(l.flatMap bp.Kids).length<=10*l.length:=by
 induction l with|nil=>simp|cons a l ih=>have:=h a eC;have:=ih λx hx=>h x (gL _ hx);simp only[QV,jg,fI];omega
def MA(hs:Small p):∀(wC pre:List bp)(o ks:List Int),p.aW=pre++wC->Zi p.aW.length o ks->ks.length+10*wC.length<=100000->
  (nI p.aW.length pre.length wC∧∃o',Zi p.aW.length o' (ks++wC.flatMap bp.Kids)∧fE (λn c=>OI p n c) (o,(pre.length:Int),()) (.out 0 (o',(p.aW.length:Int),())))∨
  (¬nI p.aW.length pre.length wC∧fE (λn c=>OI p n c) (o,(pre.length:Int),()) (.ret () (false,())))
 |[],pre,o,ks,hn,ho,hk=>by
  have:p.aW.length=pre.length:=by rw[hn];simp
  refine .inl ⟨trivial,o,by simpa using ho,?_⟩;rw[this];refine .out (Ev.of_eq λn=>?_);simp(disch:=omega)only[aY,OI,this]
 |nd::wC,pre,o,ks,hn,ho,hk=>by
  have hsn:=hs.nodes;have hl:p.aW.length=pre.length+(wC.length+1):=by rw[hn];simp
  have g1:p.aW.getD pre.length aQ=nd:=by rw[hn];exact eU ..
  have hkl:=(hs.wC nd (by rw[hn];simp)).1;simp only[fI]at hk;unfold nI;rcases Em (N:=p.aW.length) (lo:=(pre.length:Int)+1) (by omega) nd.Kids [] o ks ho (by omega) (by simp;omega)with⟨a,o1,b,c⟩|⟨a,c⟩
  .have hx:Ev (λn=>OI p n (o,(pre.length:Int),())) (.next (o1,((pre++[nd]).length:Int),())):=by simp(disch:=omega)only[aY,OI,g1,bW];refine Ev.aU c (λn c=>_) _ (Ev.of_eq λn=>?_);rw[fu];simp only[aY,fH,fJ,ju]
   rcases MA hs wC (pre++[nd]) o1 (ks++nd.Kids) (by rw[hn];simp) b (by simp;omega)with⟨d,o2,e,f⟩|⟨d,f⟩
   .rw[show(pre++[nd]).length=pre.length+1 by simp]at d;exact .inl ⟨⟨a,d⟩,o2,by simpa only[QV,sn]using e,.next hx f⟩
   .rw[show(pre++[nd]).length=pre.length+1 by simp]at d;exact .inr ⟨λh=>d h.2,.next hx f⟩
  .refine .inr ⟨λh=>a h.1,.ret ?_⟩;simp(disch:=omega)only[aY,OI,g1,bW];exact Ev.aU c (λn c=>_) _ (Ev.of_eq λn=>rfl)
abbrev MB(p:aG)(n:Nat)(j:List Bool×Int×Unit):Option (LO (List Bool×Int×Unit) (Bool×Unit) Unit Any):=
 aj (D.bN j.2.1 (aq p.aW)) (aB (av j.2.1 p.aW) (ak (F54 n (p,aN p.aW (ah j.2.1) aQ,())) λk=>aj (D.aM k.1.1) (some (LO.ret () (false,()))) (ak (iter (rO p.aW.length (aN p.aW (ah j.2.1) aQ).3 (D.add .i64 j.2.1 1) n) n (j.1,0,())) λl=>LO.el l (λ_ o=>some (LO.next (o.1,D.add .i64 j.2.1 1,()))) (λ_ o=>some (LO.ret () o)) λ_ _=>none))) (some (LO.out 0 j))
def Ih(hs:Small p):∀(wC pre:List bp)(u:List Bool)(ks:List Int),p.aW=pre++wC->HA p.aW.length u ks->ks.Nodup->
  (((∀nd∈wC,lM p nd=true)∧nI p.aW.length pre.length wC∧(ks++wC.flatMap bp.Kids).Nodup)∧∃u',HA p.aW.length u' (ks++wC.flatMap bp.Kids)∧fE (λn c=>MB p n c) (u,(pre.length:Int),()) (.out 0 (u',(p.aW.length:Int),())))∨
  (¬((∀nd∈wC,lM p nd=true)∧nI p.aW.length pre.length wC∧(ks++wC.flatMap bp.Kids).Nodup)∧fE (λn c=>MB p n c) (u,(pre.length:Int),()) (.ret () (false,())))
 |[],pre,u,ks,hn,ho,hd=>by
  have:p.aW.length=pre.length:=by rw[hn];simp
  refine .inl ⟨⟨by simp,trivial,by simpa using hd⟩,u,by simpa using ho,?_⟩;rw[this];refine .out (Ev.of_eq λn=>?_);simp(disch:=omega)only[aY,MB,this]
 |nd::wC,pre,u,ks,hn,ho,hd=>by
  have hsn:=hs.nodes;have hl:p.aW.length=pre.length+(wC.length+1):=by rw[hn];simp
  have g1:p.aW.getD pre.length aQ=nd:=by rw[hn];exact eU ..
  obtain⟨hkl,qS,dc⟩:=hs.wC nd (by rw[hn];simp);have he:=e54 hs dc qS;unfold nI;have hx0:∀{o:LO (List Bool×Int×Unit) (Bool×Unit) Unit Any},Ev (λn=>aj (D.aM (lM p nd)) (some (LO.ret () (false,()))) (ak (iter (rO p.aW.length nd.Kids ((pre.length:Int)+1) n) n (u,0,())) λl=>LO.el l (λ_ o=>some (LO.next (o.1,(pre.length:Int)+1,()))) (λ_ o=>some (LO.ret () o)) λ_ _=>none)) o->Ev (λn=>MB p n (u,(pre.length:Int),())) o:=by intro o h;simp(disch:=omega)only[aY,MB,g1,bW];refine Ev.ak he ?_;rw[show(λn=>aj (D.aM (lM p nd)) (some (LO.ret () (false,()))) (ak (iter (rO p.aW.length nd.Kids ((pre.length:Int)+1) n) n (u,0,())) λl=>LO.el l (λ_ o=>some (LO.next (o.1,(pre.length:Int)+1,()))) (λ_ o=>some (LO.ret () o)) λ_ _=>none))=_ from rfl]at h;simpa only[aY]using h
  cases hnb:lM p nd with
  |false=>
   refine .inr ⟨λh=>?_,.ret (hx0 ?_)⟩
   .have:=h.1 nd eC;rw[hnb]at this;cases this
   .rw[hnb];exact Ev.of_eq λn=>rfl
  |true=>
   rw[hnb]at hx0;rcases A4 (N:=p.aW.length) (lo:=(pre.length:Int)+1) (by omega) nd.Kids [] u ks ho hd (by simp;omega)with⟨⟨a,a'⟩,o1,b,c⟩|⟨a,c⟩
   .have hx:Ev (λn=>MB p n (u,(pre.length:Int),())) (.next (o1,((pre++[nd]).length:Int),())):=by refine hx0 ?_;simp only[aY];refine Ev.aU c (λn c=>_) _ (Ev.of_eq λn=>?_);rw[fu];simp only[aY,fH,fJ,ju]
    have ass:ks++nd.Kids++wC.flatMap bp.Kids=ks++(nd::wC).flatMap bp.Kids:=by simp
    rcases Ih hs wC (pre++[nd]) o1 (ks++nd.Kids) (by rw[hn];simp) b a' with⟨⟨d1,d2,d3⟩,o2,e,f⟩|⟨d,f⟩
    .rw[show(pre++[nd]).length=pre.length+1 by simp]at d2;rw[ass]at d3 e;refine .inl ⟨⟨λx hx=>?_,⟨a,d2⟩,d3⟩,o2,e,.next hx f⟩;rcases fc.1 hx with hx|hx
     .rw[hx];exact hnb
     .exact d1 x hx
    .rw[show(pre++[nd]).length=pre.length+1 by simp,ass]at d;exact .inr ⟨λh=>d ⟨λx hx=>h.1 x (gL _ hx),h.2.1.2,h.2.2⟩,.next hx f⟩
   .refine .inr ⟨λh=>a ⟨h.2.1.1,?_⟩,.ret (hx0 ?_)⟩
    .have:=h.2.2;rw[QV,<-sn]at this;exact(HU.1 this).1
    .simp only[aY];exact Ev.aU c (λn c=>_) _ (Ev.of_eq λn=>rfl)
end
end
section
section
variable {p:aG}
def tX{Q:Prop}{F:Nat->Option ((Bool×Unit)×Unit)}(hn:¬Q)(h:Ev F ((false,()),())):∃b,Ev F ((b,()),())∧(b=true↔Q):=⟨false,h,λh=>(by cases h),λh=>absurd h hn⟩
variable {N:Nat}
def ID{ks:List Int}(hr:∀k∈ks,0<=k∧k<N):(∀i:Nat,i<N->ks.count (i:Int)=1)↔ks.Nodup∧∀i:Nat,i<N->(i:Int)∈ks:=by
 constructor
 .intro h;refine⟨List.nodup_iff_count.2 λa=>?_,λi hi=>List.count_pos_iff.1 (by rw[h i hi];omega)⟩;by_cases ha:a∈ks
  .have:=hr a ha;have:=h a.toNat (by omega);rw[show((a.toNat:Nat):Int)=a by omega]at this;omega
  .rw[List.count_eq_zero.2 ha];omega
 .rintro ⟨h1,h2⟩ i hi
  have a:=List.nodup_iff_count.1 h1 (i:Int);have b:=List.count_pos_iff.2 (h2 i hi);omega
def EJ{N:Nat}:∀{l:List bp}{i:Nat},nI N i l->∀k∈l.flatMap bp.Kids,0<=k∧k<N
 |[],_,_,k,h=>by simp at h
 |nd::l,i,hk,k,h=>by
  rw[QV]at h;rcases eg.1 h with h|h
  .have:=hk.1 k h;omega
  .exact EJ hk.2 k h
def aiH(hs:Small p):∃b,Ev (λn=>NP n (⟨p⟩,())) ((b,()),())∧(b=true↔(∀k∈p.dH,0<=k∧k<p.aW.length)∧nI p.aW.length 0 p.aW∧(p.dH++p.aW.flatMap bp.Kids).Nodup∧∀i:Nat,i<p.aW.length->(i:Int)∈p.dH++p.aW.flatMap bp.Kids):=by
 have h1:=hs.nodes;have h2:=hs.wI;have e1:D.dN .i64 (aq p.aW) 1=(p.aW.length:Int)-1:=ek (a:=(p.aW.length:Int)) (by omega) (by omega);have mk:ZP (aq p.aW)=true:=by unfold ZP aq;rw[ig (by omega),ig (by omega)];rfl
 have hN:ah (aq p.aW)=p.aW.length:=rfl;have start:∀{r:(Bool×Unit)×Unit},Ev (λn=>ak (iter (Mp p.aW.length p.dH 0 n) n (Jk p.aW.length 0,0,())) λq=>LO.el q (λ_ r=>ak (iter (OI p n) n (r.1,0,())) λs=>LO.el s (λ_ u=>ak (iter (λv:Int×Unit=>aj (D.bN v.1 (aq u.1)) (aB (av v.1 u.1) (aB (cw (ah v.1) u.1) (ak (F155 n (aN u.1 (ah v.1) 0,())) λw=>aj (D.aM w.1.1) (some (LO.ret (B:=Unit) (P:=Any) () v)) (some (LO.next (D.add .i64 v.1 1,())))))) (some (LO.out 0 v))) n (0,())) λv=>LO.el v (λ_ _=>some ((D.aM false,()),())) (λ_ x=>some ((D.aM (D.eu 0 x.1),()),())) λ_ _=>none) (λ_ u=>some (u,())) λ_ _=>none) (λ_ r=>some (r,())) λ_ _=>none) r->Ev (λn=>NP n (⟨p⟩,())) r:=by intro r h;refine Ev.congr (λn=>?_) h;unfold NP CC RV NQ;simp only[mk,e1,hN];rw[Kg,Ni,Kf rfl]
 rcases Em (N:=p.aW.length) (lo:=0) (by omega) p.dH [] _ [] (Zi.zero _) (by simp;omega) (by simp;omega)with⟨a,o1,b,c⟩|⟨a,c⟩
 .rcases MA hs p.aW [] o1 _ rfl b (by simp;omega)with⟨d,o2,e,f⟩|⟨d,f⟩
  .have hkl:=V9 (l:=p.aW) λnd l5=>(hs.wC nd l5).1;have JT:∀k∈p.dH++p.aW.flatMap bp.Kids,0<=k∧k<p.aW.length:=λk hk=>by
    rcases eg.1 hk with hk|hk
    .exact a k hk
    .exact EJ d k hk
   have e':=e;rw[xN]at e';have hb:∀(i:Nat)(y:Int×Unit),(LO.ret () ((i:Int),()):LO (Int×Unit) (Int×Unit) Unit Any)≠.next y:=λ_ _ h=>by cases h
   have hol:=e'.1;rcases eV (F:=λn v=>aj (D.bN v.1 (aq o2)) (aB (av v.1 o2) (aB (cw (ah v.1) o2) (ak (F155 n (aN o2 (ah v.1) 0,())) λw=>aj (D.aM w.1.1) (some (LO.ret () v)) (some (LO.next (D.add .i64 v.1 1,())))))) (some (LO.out 0 v))) o2.length (λi=>decide (o2.getD i 0=1)) (λi=>(LO.ret () ((i:Int),()):LO (Int×Unit) (Int×Unit) Unit Any)) hb (λi hi=>Ev.of_eq λn=>by
     unfold F155;cases hc:decide (o2.getD i 0=1)<;>(have hc':D.aO (o2.getD i 0) 1=_:=(mR ..).trans hc)<;>simp(disch:=omega)only[aY,hc',bW,fH,fJ]) (λn=>by simp(disch:=omega)only[aY]<;>rfl)with⟨g,r⟩|⟨i,hi,g,r⟩
   .have hall:∀i:Nat,i<p.aW.length->(p.dH++p.aW.flatMap bp.Kids).count (i:Int)=1:=λi hi=>by have h3:=CH (g i (by omega));have h4:=e'.2 i hi;omega
    have:=(ID JT).1 hall;refine⟨true,start (Ev.aU c (λn q=>_) _ ?_),λ_=>⟨a,d,this.1,this.2⟩,λ_=>rfl⟩;refine Ev.congr (λn=>fu ..) (Ev.aU f (λn q=>_) _ ?_);refine Ev.congr (λn=>fu ..) (Ev.aU r (λn q=>_) _ (Ev.of_eq λn=>rfl))
   .refine tX (λh=>?_) (start (Ev.aU c (λn q=>_) _ ?_))
    .have h3:=(ID JT).2 ⟨h.2.2.1,h.2.2.2⟩ i (by omega);have h4:=e'.2 i (by omega);have h5:=of_decide_eq_false g;omega
    .refine Ev.congr (λn=>fu ..) (Ev.aU f (λn q=>_) _ ?_);refine Ev.congr (λn=>fu ..) (Ev.aU r (λn q=>_) _ (Ev.of_eq λn=>?_));rw[uY];simp(disch:=omega)only[aY]<;>rfl
  .refine tX (λh=>d h.2.1) (start (Ev.aU c (λn q=>_) _ ?_));exact Ev.congr (λn=>fu ..) (Ev.aU f (λn q=>_) _ (Ev.of_eq λn=>rfl))
 .exact tX (λh=>a h.1) (start (Ev.aU c (λn q=>_) _ (Ev.of_eq λn=>rfl)))
def aiG(hs:Small p)(b:Bool):∃b',Ev (λn=>RU n (⟨p⟩,()) ((b,()),())) ((b',()),())∧(b'=true↔b=true∧(∀nd∈p.aW,lM p nd=true)∧(∀k∈p.dH,0<=k∧k<p.aW.length)∧nI p.aW.length 0 p.aW∧(p.dH++p.aW.flatMap bp.Kids).Nodup∧∀i:Nat,i<p.aW.length->(i:Int)∈p.dH++p.aW.flatMap bp.Kids):=by
 have h1:=hs.nodes;unfold RU;cases b with
 |false=>exact tX (λh=>by cases h.1) (Ev.of_eq λn=>rfl)
 |true=>
  have hb:∀(i:Nat)(y:Int×Unit),(LO.ret () ((i:Int),()):LO (Int×Unit) (Int×Unit) Unit Any)≠.next y:=λ_ _ h=>by cases h
  have s:∀{Q:Prop}{G:Nat->Option ((Bool×Unit)×Unit)},(∃b,Ev G ((b,()),())∧(b=true↔Q))->∃b,Ev (λn=>aj (D.aM true) (mc n) (G n)) ((b,()),())∧(b=true↔Q):=λh=>h;refine s ?_;rcases eV (F:=λn l=>aj (D.bN l.1 (aq p.aW)) (aB (av l.1 p.aW) (ak (F153 n (⟨p⟩,aN p.aW (ah l.1) aQ,())) λm=>aj (D.aM m.1.1) (some (LO.ret () l)) (some (LO.next (D.add .i64 l.1 1,()))))) (some (LO.out 0 l))) p.aW.length (λi=>lM p (p.aW.getD i aQ)) (λi=>(LO.ret () ((i:Int),()):LO (Int×Unit) (Int×Unit) Unit Any)) hb (λi hi=>by
    obtain⟨_,k2,k3⟩:=hs.wC _ (cG aQ hi);simp(disch:=omega)only[aY];refine Ev.ak (apE hs k3 k2) (Ev.of_eq λn=>?_);cases lM p (p.aW.getD i aQ)<;>simp(disch:=omega)only[aY,bW,fH,fJ]) (λn=>by simp(disch:=omega)only[aY]<;>rfl)with⟨a,r⟩|⟨i,hi,a,r⟩
  .obtain ⟨b',n5,fM⟩:=aiH hs;have hall:∀nd∈p.aW,lM p nd=true:=iJ (d:=aQ) a;refine⟨b',Ev.aU r (λn q=>_) _ n5,?_⟩;rw[fM];exact⟨λh=>⟨rfl,hall,h⟩,λh=>h.2.2⟩
  .refine tX (λh=>?_) (Ev.aU r (λn q=>_) _ (Ev.of_eq λn=>?_))
   .have:=h.2.1 _ (cG aQ hi);rw[a]at this;cases this
   .rw[uY];unfold mc;simp(disch:=omega)only[aY]
def e87(hs:Small p):∃b,Ev (λn=>F87 n (⟨p⟩,())) ((b,()),())∧(b=true↔FP p):=by
 have h1:=hs.nodes;have h2:=hs.wI;have h3:=hs.cons;unfold F87;by_cases c1:300<p.aW.length
 .exact tX (λh=>by have:=h.nodes;omega) (Ev.of_eq λn=>by unfold mc;simp(disch:=omega)only[aY])
 by_cases c2:p.dH.length<1
 .exact tX (λh=>by have:=h.wI;omega) (Ev.of_eq λn=>by unfold mc;simp(disch:=omega)only[aY])
 by_cases c3:p.aW.length<p.dH.length
 .exact tX (λh=>by have:=h.wI;omega) (Ev.of_eq λn=>by unfold mc;simp(disch:=omega)only[aY])
 by_cases c4:20<p.Cons.length
 .exact tX (λh=>by have:=h.RD;omega) (Ev.of_eq λn=>by unfold mc;simp(disch:=omega)only[aY])
 by_cases c5:0<=p.Main∧p.Main<p.dH.length
 .have hd:=ig (show 0<=p.Main∧p.Main<=(p.dH.length:Int)-1 by omega);have hb:∀(i:Nat)(y:Int×Unit),(LO.ret () ((i:Int),()):LO (Int×Unit) (Int×Unit) Unit Any)≠.next y:=λ_ _ h=>by cases h
  simp(disch:=omega)only[aY,ek,wK,hd];rcases eV (F:=λn d=>aj (D.bN d.1 (p.Cons.length:Int)) (aB (av d.1 p.Cons) (ak (F148 n (p.Cons.getD d.1.toNat bE,())) λe=>aj e.1.1 (some (LO.next (D.add .i64 d.1 1,()))) (some (LO.ret () d)))) (some (LO.out 0 d))) p.Cons.length (λi=>Fw (p.Cons.getD i bE)) (λi=>(LO.ret () ((i:Int),()):LO (Int×Unit) (Int×Unit) Unit Any)) hb (λi hi=>by
    have hn:=hs.names _ (cG bE hi);simp(disch:=omega)only[aY];refine Ev.ak (apG (by omega)) (Ev.of_eq λn=>?_);cases Fw (p.Cons.getD i bE)<;>simp(disch:=omega)only[aY,bW,fH,fJ]) (λn=>by simp(disch:=omega)only[aY])with⟨a,r⟩|⟨i,hi,a,r⟩
  .have hall:∀c∈p.Cons,Fw c=true:=iJ (d:=bE) a;obtain⟨b,n5,fM⟩:=apF (l:=p.Cons.map cz.Name) (by rw[Jo];omega);obtain⟨b',Pa,Ir⟩:=aiG hs b;refine⟨b',Ev.aU r (λn q=>_) _ ?_,?_⟩
   .rw[show(λn=>LO.el (LO.out 0 ((p.Cons.length:Int),()):LO (Int×Unit) (Int×Unit) Unit Any) _ _ _)=_ from rfl];refine Ev.congr (g:=λn=>RS n (⟨p⟩,())) (λn=>rfl) ?_;unfold RS acr;have hl:=rI (F:=λn h=>aj (D.bN h.2.1 (aq p.Cons)) (aB (av h.2.1 p.Cons) (ak (F151 n (aN p.Cons (ah h.2.1) bE,())) λi=>aB (cY h.1 [i.1.1]) (some (LO.next (cM h.1 [i.1.1],D.add .i64 h.2.1 1,()))))) (some (LO.out (R:=List (List UInt8)×Unit) (B:=Unit) (P:=Any) 0 h))) p.Cons.length (λi=>((p.Cons.take i).map cz.Name,(i:Int),())) 0 (λi hi=>Ev.of_eq λn=>by
     unfold F151;have uN:cY (List.map cz.Name (List.take i p.Cons)) [(p.Cons.getD i bE).Name]=true:=E7.2 (by simp;omega);simp(disch:=omega)only[aY,uN,bW,fH,fJ];rw[<-take_succ bE hi,LV];rfl) (Ev.of_eq λn=>by simp(disch:=omega)only[aY]<;>rfl)
    rw[HT]at hl;refine Ev.aU hl (λn q=>_) _ ?_;exact Ev.ak n5 Pa
   .rw[Ir,fM];exact⟨λ⟨g1,g2,g3,g4,g5,g6⟩=>⟨by omega,by omega,c5,by omega,hall,g1,g2,g3,g4,g5,g6⟩,λh=>⟨h.names,h.wC,h.fr,h.kr,h.Ka,h.all⟩⟩
  .refine tX (λh=>?_) (Ev.aU r (λn q=>_) _ (Ev.of_eq λn=>?_))
   .have:=h.cons _ (cG bE hi);rw[a]at this;cases this
   .rw[uY];unfold mc;simp(disch:=omega)only[aY]
 .have hd:=iC (show ¬(0<=p.Main∧p.Main<=(p.dH.length:Int)-1)by omega);exact tX (λh=>c5 h.main) (Ev.of_eq λn=>by unfold mc;simp(disch:=omega)only[aY,ek,wK,hd])
end
end
section
section
variable {p:aG}
def e15(hs:Small p):∃b,Ev (λn=>F15 n (p,())) ((b,()),())∧(b=true↔FP p):=by
 have h1:=hs.nodes;have h2:=hs.wI;have h3:=hs.cons;have e1:D.dN .i64 (aq p.aW) 1=(p.aW.length:Int)-1:=ek (a:=(p.aW.length:Int)) (by omega) (by omega);have e2:D.dN .i64 (aq p.dH) 1=(p.dH.length:Int)-1:=ek (a:=(p.dH.length:Int)) (by omega) (by omega);have mk:ZP (aq p.aW)=true:=by unfold ZP aq;rw[ig (by omega),ig (by omega)];rfl
 have hN:ah (aq p.aW)=p.aW.length:=rfl;have hlN:aq p.aW=(p.aW.length:Int):=rfl;have hlF:aq p.dH=(p.dH.length:Int):=rfl;unfold F15 CF;simp only[mk,e1,e2,hN];by_cases c1:300<p.aW.length
 .exact tX (λh=>by have:=h.nodes;omega) (Ev.of_eq λn=>by simp(disch:=omega)only[aY])
 by_cases c2:1<=p.dH.length∧p.dH.length<=p.aW.length
 .have d2:=ig (show 1<=aq p.dH∧aq p.dH<=aq p.aW by rw[hlN,hlF];omega);by_cases c5:0<=p.Main∧p.Main<p.dH.length
  .have d5:=ig (show 0<=p.Main∧p.Main<=(p.dH.length:Int)-1 by omega);obtain⟨b,n5,fM⟩:=e53 (l:=p.Cons) (by omega) (λc hc=>by have:=hs.names c hc;omega);have s1:∀{Q:Prop}{G:Nat->Option ((Bool×Unit)×Unit)}{K:Nat->((Bool×Unit)×Unit)->Option ((Bool×Unit)×Unit)},(∃b',Ev (λn=>K n ((b,()),())) ((b',()),())∧(b'=true↔Q))->(∀n,G n=ak (F53 n (p.Cons,())) (K n))->∃b',Ev G ((b',()),())∧(b'=true↔Q):=by intro Q G K ⟨b',x,y⟩ h;exact⟨b',Ev.congr h (Ev.ak n5 x),y⟩
   refine s1 ?_ (λn=>by
    rw[y9 (by rw[hlN];omega),Hl,d2,IJ,pZ,Lt,Hl,d5,IJ,pZ,Lt])
   simp only[];cases b with
   |false=>exact tX (λh=>by have:=fM.2 ⟨h.cons,h.RD,h.names⟩;cases this) (Ev.of_eq λn=>rfl)
   |true=>
    obtain⟨k1,k2,k3⟩:=fM.1 rfl;have s2:∀{Q:Prop}{G:Nat->Option ((Bool×Unit)×Unit)},(∃b,Ev G ((b,()),())∧(b=true↔Q))->∃b,Ev (λn=>aj (D.aM true) (some ((false,()),())) (aB (CV true (hU (aq p.aW) (aq p.aW))) (G n))) ((b,()),())∧(b=true↔Q):=by intro Q G h;obtain⟨b,x,y⟩:=h;exact⟨b,Ev.congr (λn=>by rw[pZ,Lt,Kg,Ni,Kf rfl]) x,y⟩
    refine s2 ?_;have fF:∀n c,rO p.aW.length p.dH 0 n c=aj (D.bN c.2.1 (aq p.dH)) (aB (av c.2.1 p.dH) (ak (F52 n (aN p.dH (ah c.2.1) 0,0,(p.aW.length:Int)-1,())) λh=>aj (D.aM h.1.1) (some (LO.ret () (false,()))) (aB (av c.2.1 p.dH) (aB (av (aN p.dH (ah c.2.1) 0) c.1) (aB (cw (ah (aN p.dH (ah c.2.1) 0)) c.1) (aj (aN c.1 (ah (aN p.dH (ah c.2.1) 0)) false) (some (LO.ret () (false,()))) (aB (av c.2.1 p.dH) (aB (av (aN p.dH (ah c.2.1) 0) c.1) (aB (cw (ah (aN p.dH (ah c.2.1) 0)) c.1) (some (LO.next (dQ c.1 (ah (aN p.dH (ah c.2.1) 0)) true,D.add .i64 c.2.1 1,())))))))))))) (some (LO.out 0 c)):=by intro n c;unfold rO;cases hz:av c.2.1 p.dH with|false=>rfl|true=>simp only[Ni]
    have fK:∀n j,MB p n j=aj (D.bN j.2.1 (aq p.aW)) (aB (av j.2.1 p.aW) (ak (F54 n (p,aN p.aW (ah j.2.1) aQ,())) λk=>aj (D.aM k.1.1) (some (LO.ret () (false,()))) (ak (iter (λl:List Bool×Int×Unit=>aB (av j.2.1 p.aW) (aj (D.bN l.2.1 (aq (aN p.aW (ah j.2.1) aQ).3)) (aB (av j.2.1 p.aW) (aB (av l.2.1 (aN p.aW (ah j.2.1) aQ).3) (ak (F52 n (aN (aN p.aW (ah j.2.1) aQ).3 (ah l.2.1) 0,D.add .i64 j.2.1 1,(p.aW.length:Int)-1,())) λm=>aj (D.aM m.1.1) (some (LO.ret () (false,()))) (aB (av (aN (aN p.aW (ah j.2.1) aQ).3 (ah l.2.1) 0) l.1) (aB (cw (ah (aN (aN p.aW (ah j.2.1) aQ).3 (ah l.2.1) 0)) l.1) (aj (aN l.1 (ah (aN (aN p.aW (ah j.2.1) aQ).3 (ah l.2.1) 0)) false) (some (LO.ret () (false,()))) (aB (av (aN (aN p.aW (ah j.2.1) aQ).3 (ah l.2.1) 0) l.1) (aB (cw (ah (aN (aN p.aW (ah j.2.1) aQ).3 (ah l.2.1) 0)) l.1) (some (LO.next (dQ l.1 (ah (aN (aN p.aW (ah j.2.1) aQ).3 (ah l.2.1) 0)) true,D.add .i64 l.2.1 1,()))))))))))) (some (LO.out (P:=Any) (B:=Unit) 0 l)))) n (j.1,0,())) λl=>LO.el l (λ_ o=>some (LO.next (o.1,D.add .i64 j.2.1 1,()))) (λ_ o=>some (LO.ret () o)) λ_ _=>none))) (some (LO.out 0 j)):=by intro n j;unfold MB rO;cases hz:av j.2.1 p.aW with|false=>rfl|true=>simp only[Ni]
    simp only[<-fF,<-fK];rcases A4 (N:=p.aW.length) (lo:=0) (by omega) p.dH [] _ [] (HA.zero _) (by simp) (by simp;omega)with⟨⟨a,a'⟩,u1,b,c⟩|⟨a,c⟩
    .rcases Ih hs p.aW [] u1 _ rfl b a' with⟨⟨d1,d2,d3⟩,u2,e,f⟩|⟨d,f⟩
     .have hb:∀(i:Nat)(y:Int×Unit),(LO.ret () (false,()):LO (Int×Unit) (Bool×Unit) Unit Any)≠.next y:=λ_ _ h=>by cases h
      have hul:=e.1;rcases eV (F:=λn m=>aj (D.bN m.1 (aq p.aW)) (aB (av m.1 u2) (aB (cw (ah m.1) u2) (aj (D.aM (aN u2 (ah m.1) false)) (some (LO.ret () (false,()))) (some (LO.next (D.add .i64 m.1 1,())))))) (some (LO.out 0 m))) p.aW.length (λi=>u2.getD i false) (λ_=>(LO.ret () (false,()):LO (Int×Unit) (Bool×Unit) Unit Any)) hb (λi hi=>Ev.of_eq λn=>by
        cases hc:u2.getD i false<;>simp(disch:=omega)only[aY,hc,bW,fH,fJ]) (λn=>by simp(disch:=omega)only[aY]<;>rfl)with⟨g,r⟩|⟨i,hi,g,r⟩
      .rw[xN]at d3 e;refine⟨true,Ev.aU c (λn q=>_) _ ?_,λ_=>⟨by omega,c2,c5,k2,k1,k3,d1,a,d2,d3,λi hi=>(e.2 i hi).1 (g i hi)⟩,λ_=>rfl⟩;refine Ev.congr (λn=>fu ..) (Ev.aU f (λn q=>_) _ ?_);refine Ev.congr (λn=>fu ..) (Ev.aU r (λn q=>_) _ (Ev.of_eq λn=>rfl))
      .rw[xN]at e;refine tX (λh=>?_) (Ev.aU c (λn q=>_) _ ?_)
       .have:=(e.2 i hi).2 (h.all i hi);rw[g]at this;cases this
       .refine Ev.congr (λn=>fu ..) (Ev.aU f (λn q=>_) _ ?_);refine Ev.congr (λn=>fu ..) (Ev.aU r (λn q=>_) _ (Ev.of_eq λn=>rfl))
     .rw[xN]at d;refine tX (λh=>d ⟨h.wC,h.kr,h.Ka⟩) (Ev.aU c (λn q=>_) _ ?_);exact Ev.congr (λn=>fu ..) (Ev.aU f (λn q=>_) _ (Ev.of_eq λn=>rfl))
    .refine tX (λh=>a ⟨h.fr,?_⟩) (Ev.aU c (λn q=>_) _ (Ev.of_eq λn=>rfl));rw[xN];exact(HU.1 h.Ka).1
  .have d5:=iC (show ¬(0<=p.Main∧p.Main<=(p.dH.length:Int)-1)by omega);refine tX (λh=>c5 h.main) (Ev.of_eq λn=>?_);rw[y9 (by rw[hlN];omega),Hl,d2,IJ,pZ,Lt,Hl,d5,IJ,pZ,QN]
 .have d2:=iC (show ¬(1<=aq p.dH∧aq p.dH<=aq p.aW)by rw[hlN,hlF];omega);refine tX (λh=>c2 h.wI) (Ev.of_eq λn=>?_);rw[y9 (by rw[hlN];omega),Hl,d2,IJ,pZ,QN]
def e46{b:Bool}(h:Ev (λn=>F87 n (⟨p⟩,())) ((b,()),())):Ev (λn=>F46 n (p,())) ((if b=true then 0 else 2,()),()):=by unfold F46;refine Ev.ak h (Ev.of_eq λn=>?_);cases b<;>rfl
def FP.ok(h:FP p):yV p:=by
 have kr:∀{l:List bp}{i:Nat},nI p.aW.length i l->∀nd∈l,∀k∈nd.Kids,0<=k∧k<p.aW.length:=by
  intro l
  induction l with
  |nil=>intro i _ nd l5;cases l5
  |cons a l ih=>
   intro i hk nd l5 k hkk;rcases fc.1 l5 with h|h
   .subst h;have:=hk.1 k hkk;omega
   .exact ih hk.2 nd h k hkk
 refine⟨h.nodes,λnd l5=>?_,h.fr,by have:=h.wI;have:=h.nodes;omega,h.main,λc hc=>?_⟩
 .have hB:=h.wC nd l5;unfold lM at hB;simp only[eE]at hB;obtain⟨⟨⟨b1,b2⟩,b3⟩,b4⟩:=hB;have b4':∀q∈nd.cx,pw q<=12∧pf q=true:=λq hq=>by have:=gr.1 b4 q hq;unfold qB at this;simp only[eE,qA]at this;exact⟨this.1,Ej q this.2⟩
  unfold MC at b2;unfold CI at b3;have hop:1<=nd.Op∧nd.Op<=28:=by
   by_cases Ci:nd.Op=15
   .omega
   .rw[bw Ci]at b2;by_cases xg:nd.Op=14
    .omega
    .rw[bw xg]at b2;by_cases hr:1<=nd.Op∧nd.Op<=28
     .exact hr
     .rw[bw hr]at b2;cases b2
  refine⟨hop.1,hop.2,λk hk=>kr h.kr nd l5 k hk,λxg Ci=>?_,λxg=>?_,λCi=>?_,λh1=>?_,λh2=>?_,λh4=>?_,λh24=>?_,b4'⟩
  .rw[bw Ci,bw xg,bL hop]at b2;have:=CH b2;omega
  .rw[bw (by omega),bL xg,eE]at b2;have x:=CH b2.1;have y:=CH b2.2;exact⟨x.1,x.2,y⟩
  .rw[bL Ci,eE]at b2;have x:=CH b2.1;have y:=CH b2.2;omega
  .rw[bL h1]at b3;exact b3
  .rw[bw (by omega),bL h2]at b3;have:=CH b3;omega
  .rw[bw (by omega),bw (by omega),bw (by omega),bL h4]at b3;exact CH b3
  .rw[bw (by omega),bw (by omega),bL h24]at b3;exact CH b3
 .have:=h.cons c hc;unfold Fw at this;simp only[eE,qA]at this;exact this.2
end
end
section
set_option maxRecDepth 1000000
def alL:F13 300 ()=some ((true,()),()):=by kernel_rfl
def kn:Fn [] K4 false:=λ_=>some ((true,()),())
abbrev cK:lF sg:=⟨[],K4,false,kn⟩
def CK:bC prog 13 cK:=by
 have h:=(k13 300).h;have e:F13 300=kn:=funext λx=>by cases x;exact alL
 have h:bC prog 13 (⟨[],K4,false,F13 300⟩:lF sg):=h;rw[e]at h;exact h
end
def X4(n:Nat)(d:Y30):Option fe:=
 ak (F17 n (d.1.1,())) λg=>aj g.1.1 (ak (kn ()) λh=>some h) (some ((false,()),()))
def L3:Nat->Y29->Option fe:=
 λn b=>ak (F12 n (b.1,())) λc=>aj (D.aM c.1.1) (ak (kn ()) λd=>some d) (aj (D.bN 60 (aq b.2.1)) (ak (kn ()) λd=>
 some d) (ak (F14 n b) λd=>ak (F15 n (b.1,())) λe=>aj (D.aM e.1.1) (aj (D.aO d.1.2.1 2) (X4 n d) (some ((false,()),()))) (ak (F16
 n (b.2.1,50,())) λg=>aj (D.aM g.1.1) (aj (D.aO d.1.2.1 2) (X4 n d) (some ((false,()),()))) (ak (F18 n b) λh=>aj (D.aM h.1.2.1)
 (aj (D.aO d.1.2.1 8) (X4 n d) (some ((false,()),()))) (aj (D.aO d.1.2.1 0) (ak (F19 n (d.1.1,h.1.1,())) λi=>aj i.1.1 (ak (kn ())
 λj=>some j) (some ((false,()),()))) (some ((false,()),())))))))
abbrev cL3(n:Nat):lF sg:=⟨P54,K4,false,L3 n⟩
def CL3(n:Nat):bC prog 3 (cL3 n):=cq [k12 n,⟨13,cK,CK⟩,k14 n,k15 n,k16 n,k17 n,k18 n,k19 n] [] n 10 3
section
section
variable {p:aG}
def GR(l:List Int):Bool:=decide (l.length<=50)&&l.all hJ
variable {l ins:List Int}
def e47(hl:l.length<=60):Ev (λn=>F47 n (l,())) ((GR l,()),()):=by
 unfold F47 GR;by_cases h:l.length<=50
 .rw[ig h,iL];simp(disch:=omega)only[aY];have hb:∀(i:Nat)(y:Int×Unit),(LO.ret () ((i:Int),()):LO (Int×Unit) (Int×Unit) Unit Any)≠.next y:=λ_ _ h=>by cases h
  rcases eV (F:=λn c=>aj (D.bN c.1 (l.length:Int)) (aB (av c.1 l) (ak (F69 n (l.getD c.1.toNat 0,(-1000000000),1000000000,())) λd=>aj d.1.1 (some (LO.next (D.add .i64 c.1 1,()))) (some (LO.ret () c)))) (some (LO.out 0 c))) l.length (λi=>hJ (l.getD i 0)) (λi=>(LO.ret () ((i:Int),()):LO (Int×Unit) (Int×Unit) Unit Any)) hb (λi hi=>Ev.of_eq λn=>by
    simp(disch:=omega)only[aY,e69];cases hJ (l.getD i 0)<;>simp(disch:=omega)only[aY,bW,fH,fJ]) (λn=>by simp(disch:=omega)only[aY])with⟨a,r⟩|⟨i,hi,a,r⟩
  .rw[vB (d:=(0:Int)) a];exact Ev.aU r (λn c=>_) _ (Ev.of_eq λn=>rfl)
  .rw[lK (d:=(0:Int)) hi a];refine Ev.aU r (λn c=>_) _ (Ev.of_eq λn=>?_);rw[uY];simp(disch:=omega)only[aY]<;>rfl
 .rw[iC h,jr];exact Ev.of_eq λn=>by simp(disch:=omega)only[aY]
def e16(hl:l.length<=60):Ev (λn=>F16 n (l,50,())) ((GR l,()),()):=by
 unfold F16 GR;have hb:∀(i:Nat)(y:Int×Unit),(LO.ret () (false,()):LO (Int×Unit) (Bool×Unit) Unit Any)≠.next y:=λ_ _ h=>by cases h
 have step:∀i,i<l.length->i<=50->Ev (λn=>aj (D.bN (i:Int) (aq l)) (aj (D.eu (i:Int) 50) (aB (av (i:Int) l) (ak (F55 n (aN l (ah (i:Int)) 0,(-1000000000),1000000000,())) λd=>aj (D.aM d.1.1) (some (LO.ret () (false,()))) (some (LO.next (D.add .i64 (i:Int) 1,()))))) (some (LO.out 0 ((i:Int),())))) (some (LO.out 0 ((i:Int),())))) (bif hJ (l.getD i 0)then .next (((i+1:Nat):Int),())else(LO.ret () (false,()):LO (Int×Unit) (Bool×Unit) Unit Any)):=by intro i hi h50;refine Ev.of_eq λn=>?_;simp(disch:=omega)only[aY,e55];cases hJ (l.getD i 0)<;>simp(disch:=omega)only[aY,bW,fH,fJ]
 by_cases h:l.length<=50
 .rw[ig h,iL];rcases eV (F:=λn c=>aj (D.bN c.1 (aq l)) (aj (D.eu c.1 50) (aB (av c.1 l) (ak (F55 n (aN l (ah c.1) 0,(-1000000000),1000000000,())) λd=>aj (D.aM d.1.1) (some (LO.ret () (false,()))) (some (LO.next (D.add .i64 c.1 1,()))))) (some (LO.out 0 c))) (some (LO.out 0 c))) l.length (λi=>hJ (l.getD i 0)) (λi=>(LO.ret () (false,()):LO (Int×Unit) (Bool×Unit) Unit Any)) hb (λi hi=>step i hi (by omega)) (λn=>by simp(disch:=omega)only[aY]<;>rfl)with⟨a,r⟩|⟨i,hi,a,r⟩
  .rw[vB (d:=(0:Int)) a];refine Ev.aU r (λn c=>_) _ (Ev.of_eq λn=>?_);rw[fu];show some ((D.eu (l.length:Int) 50,()),())=_;rw[agM (by omega)]
  .rw[lK (d:=(0:Int)) hi a];exact Ev.aU r (λn c=>_) _ (Ev.of_eq λn=>rfl)
 .rw[iC h,jr];rcases v5 (F:=λn c=>aj (D.bN c.1 (aq l)) (aj (D.eu c.1 50) (aB (av c.1 l) (ak (F55 n (aN l (ah c.1) 0,(-1000000000),1000000000,())) λd=>aj (D.aM d.1.1) (some (LO.ret () (false,()))) (some (LO.next (D.add .i64 c.1 1,()))))) (some (LO.out 0 c))) (some (LO.out 0 c))) 51 (λi=>((i:Int),())) (λi=>hJ (l.getD i 0)) (λi=>(LO.ret () (false,()):LO (Int×Unit) (Bool×Unit) Unit Any)) 0 hb (λi hi _=>step i (by omega) (by omega)) (λ_=>Ev.of_eq λn=>by
    show TL.aj (D.bN (51:Int) (l.length:Int)) (TL.aj (D.eu (51:Int) 50) _ _) _=_;rw[QM (show(50:Int)<51 by decide)];cases D.bN (51:Int) (l.length:Int)<;>rfl)with⟨a,r⟩|⟨i,hi,a,_,r⟩
  .refine Ev.aU r (λn c=>_) _ (Ev.of_eq λn=>?_);rw[fu];show some ((D.eu (l.length:Int) 50,()),())=_;rw[agN (by omega)]
  .exact Ev.aU r (λn c=>_) _ (Ev.of_eq λn=>rfl)
def sQ(p:aG)(ins:List Int):ai:=⟨[⟨6,0,[],[⟨p.dH.getD p.Main.toNat 0,[ff],[]⟩]⟩],[0],[],ins,0⟩
def MV(h:yV p)(hi:GR ins=true):lf p (sQ p ins):=by
 have hm:=h.main;have hf:=h.wI _ (cG 0 (show p.Main.toNat<p.dH.length by omega));unfold GR at hi;simp only[eE,qA,gr]at hi;unfold sQ;refine⟨by simp,λo ho=>?_,by simp,by simp,hi.1,hi.2,by simp,by simp,by simp,λt ht=>?_,λi hi=>?_⟩
 .simp only[mq]at ho;subst ho;exact .A1 (fs:=[]) (by simp) (by simp) ⟨hf.1,hf.2,by simp,λv hv=>by rw[mq.1 hv];exact um,Dt _,λv hv=>by cases hv⟩
 .simp only[mq]at ht;subst ht;exact⟨by simp,by simp,rfl⟩
 .simp only[qC]at hi;have:i=0:=by omega
  subst this;intro _;simp
def e17:Ev (λn=>F17 n (bS,())) ((true,()),()):=by unfold F17 F19;refine Ev.ak (a:=((true,()),())) ?_ (Ev.pure _);have z:aq bS.1=0:=rfl;have z':D.aO bS.5 bS.5=true:=rfl;simp only[z,z'];simp only[aY];refine Ev.ak (e26 (l:=[]) (by simp)) ?_;simp only[aY];refine Ev.ak (e27 (l:=[]) (by simp)) ?_;simp only[aY];refine Ev.ak (e26 (l:=[]) (by simp)) ?_;simp only[aY];refine Ev.aU (F:=λn c=>_) (fE.out (j:=0) (y:=(0,())) (Ev.of_eq λn=>?_)) (λn c=>_) _ (Ev.of_eq λn=>rfl);simp(disch:=omega)only[aY]
def e18(hp:yV p)(hi:GR ins=true):∃w' b,Ev (λn=>F18 n (p,ins,())) ((w',b,()),())∧
  ((b=false∧gP p 1 0 (sQ p ins) 0=none)∨(b=true∧∃s,gP p 1 0 (sQ p ins) 0=some (w',s))):=by
 have hm:=hp.main;have hw:=MV hp hi;have h56:∀n,F56 n (p,ins,())=some ((sQ p ins,()),()):=λn=>by unfold F56;simp(disch:=omega)only[aY,Po]<;>rfl
 unfold F18;rcases e33 hp hw (s:=0) (by omega)with⟨w',s',a,b⟩|⟨a,w',s',b⟩
 .exact ⟨w',true,Ev.ak (Ev.of_eq h56) (Ev.ak b (Ev.pure _)),.inr ⟨rfl,s',a⟩⟩
 .exact ⟨w',false,Ev.ak (Ev.of_eq h56) (Ev.ak b (Ev.pure _)),.inl ⟨rfl,a⟩⟩
def aeH(hp:yV p)(h46:Ev (λn=>F46 n (p,())) ((0,()),()))(hl:ins.length<=60)(hi:GR ins=true) :
  (gP p 1 0 (sQ p ins) 0=none∧Ev (λn=>F14 n (p,ins,())) ((bS,8,()),()))∨∃w' s,gP p 1 0 (sQ p ins) 0=some (w',s)∧lf p w'∧Ev (λn=>F14 n (p,ins,())) ((w',0,()),()):=by
 have hm:=hp.main;have hw:=MV hp hi;have h47:=e47 hl;rw[hi]at h47;have start:∀{r:(ai×Int×Unit)×Unit},Ev (λn=>ak (F50 n (rb p (sQ p ins),0,())) λh=>aj h.1.2.1 (ak (F51 n h.2) λi=>some ((i.1.1,0,()),())) (some ((bS,8,()),()))) r->Ev (λn=>F14 n (p,ins,())) r:=by intro r h;unfold F14;refine Ev.ak h46 ?_;simp(disch:=omega)only[aY];refine Ev.ak h47 ?_;simp only[aY,Pp,e49];exact h
 rcases e50 hp hw (s:=0) (by omega)with⟨w',s',a,b⟩|⟨a,R,b⟩
 .have hok:=(DO hp _ _ _ _ _ _ hw (by simp[sQ]) a).1;refine .inr ⟨w',s',a,hok,start (Ev.ak b ?_)⟩;simp only[aY];exact Ev.ak (e51 hp hok) (Ev.pure _)
 .refine .inl ⟨a,start (Ev.ak b (Ev.of_eq λn=>?_))⟩;rfl
def RH(h:(∃k,Ev (λn=>F46 n (p,())) ((k,()),())∧k≠0)∨(Ev (λn=>F46 n (p,())) ((0,()),())∧ins.length<=60∧GR ins=false)):Ev (λn=>F14 n (p,ins,())) ((bS,2,()),()):=by
 unfold F14;rcases h with⟨k,h,hk⟩|⟨h,hl,hi⟩
 .refine Ev.ak h ?_;simp(disch:=omega)only[aY];exact Ev.pure _
 .refine Ev.ak h ?_;simp only[aY];have h47:=e47 hl;rw[hi]at h47;refine Ev.ak h47 ?_;simp only[aY];exact Ev.pure _
def alJ(p:aG)(ins:List Int):Ev (λn=>L3 n (p,ins,())) ((true,()),()):=by
 have kn1:(ak (kn ()) λh=>some h)=some ((true,()),()):=rfl;have VN:∀d:(ai×Int×Unit)×Unit,d.1.1=bS->Ev (λn=>X4 n d) ((true,()),()):=by intro d hd;unfold X4;rw[hd];exact Ev.ak e17 (Ev.of_eq λn=>rfl)
 unfold L3;obtain⟨b,n5,fM⟩:=e12 p;refine Ev.ak n5 ?_;cases b with
 |false=>exact Ev.of_eq λn=>rfl
 |true=>
  have hs:=fM rfl;simp(disch:=omega)only[aY];by_cases hl:60<ins.length
  .exact Ev.of_eq λn=>by rw[AE (by omega)];rfl
  .refine Ev.congr (λn=>y9 (by omega) _ _) ?_;obtain⟨c,UF,WZ⟩:=e87 hs;obtain⟨c',hc3,hc4⟩:=e15 hs;have h46:=e46 UF;cases c' with
   |false=>
    have hc:c=false:=by cases c with|false=>rfl|true=>have:=hc4.2 (WZ.1 rfl);cases this
    subst hc;refine Ev.ak (RH (.inl ⟨2,h46,by decide⟩)) (Ev.ak hc3 ?_);simp only[aY];exact VN _ rfl
   |true=>
    have hF:=hc4.1 rfl;have hc:c=true:=WZ.2 hF;subst hc;have hp:=hF.ok;have h16:=e16 (l:=ins) (by omega);cases hi:GR ins with
    |false=>rw[hi]at h16;refine Ev.ak (RH (.inr ⟨h46,by omega,hi⟩)) (Ev.ak hc3 ?_);simp(disch:=omega)only[aY];refine Ev.ak h16 ?_;simp only[aY];exact VN _ rfl
    |true=>
     rw[hi]at h16;obtain⟨w1,b1,h18,ya⟩:=e18 hp hi;rcases aeH hp h46 (by omega) hi with⟨a,xg⟩|⟨w',s,a,hok,xg⟩
     .rcases ya with⟨g1,g2⟩|⟨g1,s1,g2⟩
      .subst g1;refine Ev.ak xg (Ev.ak hc3 ?_);simp(disch:=omega)only[aY];refine Ev.ak h16 ?_;simp only[aY];refine Ev.ak h18 ?_;simp only[aY];exact VN _ rfl
      .rw[a]at g2;cases g2
     .rcases ya with⟨g1,g2⟩|⟨g1,s1,g2⟩
      .rw[a]at g2;cases g2
      .rw[a]at g2;cases g2;subst g1;refine Ev.ak xg (Ev.ak hc3 ?_);simp(disch:=omega)only[aY];refine Ev.ak h16 ?_;simp only[aY];refine Ev.ak h18 ?_;simp only[aY];exact Ev.ak (e19 hp hok) (Ev.of_eq λn=>rfl)
end
end
def aeV:List TypeId:=[26,22,85,48,3,23,83,89,87,9,24,82,32,29,100,93,95,51,49,98,97,30,55]
noncomputable def tyL(t:TypeId):Option Ty:=bif aeV.contains t then Sp.get t else none
noncomputable def agy(t:TypeId):Bool:=match Sp.get t with|some τ=>rdT sg prog tyL t τ|none=>true
def ac9:aeV.all agy=true:=by kernel_rfl
def agx(t:TypeId)(τ:Ty)(h:tyL t=some τ):rdT sg prog tyL t τ=true:=by
 unfold tyL at h;cases hc:aeV.contains t with
 |false=>rw[hc]at h;cases h
 |true=>rw[hc,dM]at h;have:=gr.1 ac9 t (by simpa using hc);unfold agy at this;rw[h]at this;exact this
def laid:laidOutB prog=true:=by kernel_rfl
def own:ownKnob prog.godebug=none:=by kernel_rfl
end Mn
end
section
namespace Go.Proofs.YtdddliieplcejaaGreat.meanStarts
open Go.ChangeShapes Go.WideShapes Go.ChangeAt Go.RowKit
end Go.Proofs.YtdddliieplcejaaGreat.meanStarts
end
section
namespace Go.Proofs.YtdddliieplcejaaGreat.meanStarts
open Go TL Mn
open Go.ChangeShapes Go.WideShapes Go.ChangeAt Go.RowKit
theorem params:(Tryz.f3.params.toList)=[26,23]:=by kernel_rfl
theorem akZ:tyL 26=some (.st 3):=by kernel_rfl
theorem ak0:tyL 23=some (.sl (.int .i64)):=by kernel_rfl
theorem ak5:Tryz.prog.readableRec 26=true:=by kernel_rfl
theorem ak6:Tryz.prog.readableRec 23=true:=by kernel_rfl
theorem sz:decide (26<Tryz.prog.types.size)=true:=by kernel_rfl
theorem ak4:Tryz.f3.resultTypes=#[4]:=by kernel_rfl
theorem lifted(os:Os)(started:os.Started)(H:Type)(enc:TypeId×Value->H) :
  ReturnsInHanded {} Tryz.checked os 3 .any (Rows.meanStartsSpec.pre6 enc Tryz.prog Tryz.f3 Rows.meanStartsRow.domain false) (Rows.meanStartsSpec.post enc Tryz.prog Tryz.f3 false true false false):=by
 refine returnsInHanded_of_change_sized (C:=Tryz.checked) own started (by kernel_rfl) Tryz.func3
  (ChangeSpec.witness6 (enc:=enc) (C:=Tryz.checked) false ⟨#[],#[.agg #[.slice none 0 0,.slice none 0 0,.int .i64 0,.slice none 0 0],.slice none 0 0],[]⟩ 8 (by kernel_rfl) (by kernel_rfl) (by kernel_rfl) (by kernel_rfl)) ?_
 intro W base args ds gs before hval hW hcnd Tk _;refine Tc (S:=sg) (P:=Tryz.prog) (ty:=tyL) (τs:=[.st 3,.sl (.int .i64)]) (tb:=4) abA agx laid ?_ ?_ ak4 Tryz.underlying4 rfl ?_ ?_ hval hW Tk
 .rw[params];refine⟨rfl,λj a b ha hb=>?_⟩
  match j with
  |0=>cases ha;cases hb;exact akZ
  |1=>cases ha;cases hb;exact ak0
  |j+2=>simp at ha
 .rw[params];have:=of_decide_eq_true sz;intro t ht;simp only[List.mem_cons,List.not_mem_nil,or_false]at ht;rcases ht with h|h
  .subst h;exact⟨ak5,this⟩
  .subst h;exact⟨ak6,Nat.lt_trans (by decide) this⟩
 .intro ds hds
  match ds,hds with
  |[d1,d2],_=>exact⟨rfl,rfl,rfl⟩
 .intro x;obtain⟨p,ins,u⟩:=x;obtain⟨N,h⟩:=alJ p ins;exact⟨L3 N,((true,()),()),CL3 N,h N (Nat.le_refl _),rfl⟩
theorem proved:Rows.MeanStartsSaid:=over lifted
end Go.Proofs.YtdddliieplcejaaGreat.meanStarts
end
end
