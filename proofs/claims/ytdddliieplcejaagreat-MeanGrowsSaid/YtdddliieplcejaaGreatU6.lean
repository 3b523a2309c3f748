import Derived.KernelRfl
import Derived.Test.YtdddliieplcejaaGreatRows
import Derived.WalkKit
import Derived.ProofKit
import Derived.OpenShut
import Derived.Test.YtdddliieplcejaaGreatU5
set_option linter.all false
set_option maxRecDepth 100000
set_option maxHeartbeats 0
noncomputable section
open Option renaming some->Z,none->Y
open Bool renaming true->W,false->J
section
namespace Mn
open Go TL
section
section
variable {p:ax}
def tJ{Q:Prop}{F:Nat->O ((Bool×U)×U)}(hn:¬Q)(h:Ev F ((J,()),())):∃b,Ev F ((b,()),())∧(b=W↔Q):=⟨J,h,λh=>(by cases h),λh=>absurd h hn⟩
variable {N:Nat}
def Iu{c:L Int}(f:∀k∈c,0<=k∧k<N):(∀i:Nat,i<N->c.count (i:Int)=1)↔c.Nodup∧∀i:Nat,i<N->(i:Int)∈c:=by
 constructor
 .intro h;refine⟨List.nodup_iff_count.2 λa=>?_,λi d=>List.count_pos_iff.1 (by rw[h i d];omega)⟩;by_cases e:a∈c
  .have:=f a e;have:=h a.toNat (by omega);rw[show((a.toNat:Nat):Int)=a by omega]at this;omega
  .rw[List.count_eq_zero.2 e];omega
 .rintro ⟨h1,h2⟩ i d
  have a:=List.nodup_iff_count.1 h1 (i:Int);have b:=List.count_pos_iff.2 (h2 i d);omega
def Ez{N:Nat}:∀{l:L bp}{i:Nat},nB N i l->∀k∈l.flatMap bp.Kids,0<=k∧k<N
 |[],_,_,k,h=>by simp at h
 |nd::l,i,a,k,h=>by
  rw[HF]at h;rcases ef.1 h with h|h
  .have:=a.1 k h;omega
  .exact Ez a.2 k h
def ahI(hs:Small p):∃b,Ev (λn=>NJ n (⟨p⟩,())) ((b,()),())∧(b=W↔(∀k∈p.dA,0<=k∧k<p.aW.length)∧nB p.aW.length 0 p.aW∧(p.dA++p.aW.flatMap bp.Kids).Nodup∧∀i:Nat,i<p.aW.length->(i:Int)∈p.dA++p.aW.flatMap bp.Kids):=by
 have h1:=hs.nodes;have h2:=hs.xO;have G:D.dH .i64 (ak p.aW) 1=(p.aW.length:Int)-1:=cT (a:=(p.aW.length:Int)) (by omega) (by omega);have mk:Zn (ak p.aW)=W:=by unfold Zn ak;rw[fP (by omega),fP (by omega)];rfl
 have H:ah (ak p.aW)=p.aW.length:=rfl;have start:∀{r:(Bool×U)×U},Ev (λn=>ai (iter (Ma p.aW.length p.dA 0 n) n (Jg p.aW.length 0,0,())) λq=>LO.el q (λ_ r=>ai (iter (OK p n) n (r.1,0,())) λs=>LO.el s (λ_ u=>ai (iter (λv:Int×U=>aj (D.bO v.1 (ak u.1)) (aD (av v.1 u.1) (aD (cz (ah v.1) u.1) (ai (F155 n (aR u.1 (ah v.1) 0,())) λw=>aj (D.aK w.1.1) (Z (LO.ret (B:=U) (P:=Any) () v)) (Z (LO.next (D.add .i64 v.1 1,())))))) (Z (LO.out 0 v))) n (0,())) λv=>LO.el v (λ_ _=>Z ((D.aK J,()),())) (λ_ x=>Z ((D.aK (D.ep 0 x.1),()),())) λ_ _=>Y) (λ_ u=>Z (u,())) λ_ _=>Y) (λ_ r=>Z (r,())) λ_ _=>Y) r->Ev (λn=>NJ n (⟨p⟩,())) r:=by intro r h;refine Ev.congr (λn=>?_) h;unfold NJ Ce RP NK;simp only[mk,G,H];rw[J6,M6,J4 rfl]
 rcases Ea (N:=p.aW.length) (lo:=0) (by omega) p.dA [] _ [] (YF.zero _) (by simp;omega) (by simp;omega)with⟨a,I,b,c⟩|⟨a,c⟩
 .rcases Mr hs p.aW [] I _ rfl b (by simp;omega)with⟨d,m,e,f⟩|⟨d,f⟩
  .have K:=VY (l:=p.aW) λnd A=>(hs.Yv nd A).1;have j:∀k∈p.dA++p.aW.flatMap bp.Kids,0<=k∧k<p.aW.length:=λk o=>by
    rcases ef.1 o with o|o
    .exact a k o
    .exact Ez d k o
   have z:=e;rw[vX]at z;have M:∀(i:Nat)(y:Int×U),(LO.ret () ((i:Int),()):LO (Int×U) (Int×U) U Any)≠.next y:=λ_ _ h=>by cases h
   have R:=z.1;rcases eJ (F:=λn v=>aj (D.bO v.1 (ak m)) (aD (av v.1 m) (aD (cz (ah v.1) m) (ai (F155 n (aR m (ah v.1) 0,())) λw=>aj (D.aK w.1.1) (Z (LO.ret () v)) (Z (LO.next (D.add .i64 v.1 1,())))))) (Z (LO.out 0 v))) m.length (λi=>decide (m.getD i 0=1)) (λi=>(LO.ret () ((i:Int),()):LO (Int×U) (Int×U) U Any)) M (λi C=>Ev.of_eq λn=>by
     unfold F155;cases S:decide (m.getD i 0=1)<;>(have E:D.aG (m.getD i 0) 1=_:=(mK ..).trans S)<;>simp(disch:=omega)only[aS,E,bE,dU,dX]) (λn=>by simp(disch:=omega)only[aS]<;>rfl)with⟨g,r⟩|⟨i,C,g,r⟩
   .have t:∀i:Nat,i<p.aW.length->(p.dA++p.aW.flatMap bp.Kids).count (i:Int)=1:=λi C=>by have h3:=Co (g i (by omega));have h4:=z.2 i C;omega
    have:=(Iu j).1 t;refine⟨W,start (Ev.aQ c (λn q=>_) _ ?_),λ_=>⟨a,d,this.1,this.2⟩,λ_=>rfl⟩;refine Ev.congr (λn=>dY ..) (Ev.aQ f (λn q=>_) _ ?_);refine Ev.congr (λn=>dY ..) (Ev.aQ r (λn q=>_) _ (Ev.of_eq λn=>rfl))
   .refine tJ (λh=>?_) (start (Ev.aQ c (λn q=>_) _ ?_))
    .have h3:=(Iu j).2 ⟨h.2.2.1,h.2.2.2⟩ i (by omega);have h4:=z.2 i (by omega);have h5:=of_decide_eq_false g;omega
    .refine Ev.congr (λn=>dY ..) (Ev.aQ f (λn q=>_) _ ?_);refine Ev.congr (λn=>dY ..) (Ev.aQ r (λn q=>_) _ (Ev.of_eq λn=>?_));rw[o3];simp(disch:=omega)only[aS]<;>rfl
  .refine tJ (λh=>d h.2.1) (start (Ev.aQ c (λn q=>_) _ ?_));exact Ev.congr (λn=>dY ..) (Ev.aQ f (λn q=>_) _ (Ev.of_eq λn=>rfl))
 .exact tJ (λh=>a h.1) (start (Ev.aQ c (λn q=>_) _ (Ev.of_eq λn=>rfl)))
def ahH(hs:Small p)(b:Bool):∃e,Ev (λn=>RO n (⟨p⟩,()) ((b,()),())) ((e,()),())∧(e=W↔b=W∧(∀nd∈p.aW,lF p nd=W)∧(∀k∈p.dA,0<=k∧k<p.aW.length)∧nB p.aW.length 0 p.aW∧(p.dA++p.aW.flatMap bp.Kids).Nodup∧∀i:Nat,i<p.aW.length->(i:Int)∈p.dA++p.aW.flatMap bp.Kids):=by
 have h1:=hs.nodes;unfold RO;cases b with
 |false=>exact tJ (λh=>by cases h.1) (Ev.of_eq λn=>rfl)
 |true=>
  have o:∀(i:Nat)(y:Int×U),(LO.ret () ((i:Int),()):LO (Int×U) (Int×U) U Any)≠.next y:=λ_ _ h=>by cases h
  have s:∀{Q:Prop}{G:Nat->O ((Bool×U)×U)},(∃b,Ev G ((b,()),())∧(b=W↔Q))->∃b,Ev (λn=>aj (D.aK W) (l5 n) (G n)) ((b,()),())∧(b=W↔Q):=λh=>h;refine s ?_;rcases eJ (F:=λn l=>aj (D.bO l.1 (ak p.aW)) (aD (av l.1 p.aW) (ai (F153 n (⟨p⟩,aR p.aW (ah l.1) aP,())) λm=>aj (D.aK m.1.1) (Z (LO.ret () l)) (Z (LO.next (D.add .i64 l.1 1,()))))) (Z (LO.out 0 l))) p.aW.length (λi=>lF p (p.aW.getD i aP)) (λi=>(LO.ret () ((i:Int),()):LO (Int×U) (Int×U) U Any)) o (λi f=>by
    obtain⟨_,t,u⟩:=hs.Yv _ (bX aP f);simp(disch:=omega)only[aS];refine Ev.ai (an6 hs u t) (Ev.of_eq λn=>?_);cases lF p (p.aW.getD i aP)<;>simp(disch:=omega)only[aS,bE,dU,dX]) (λn=>by simp(disch:=omega)only[aS]<;>rfl)with⟨a,r⟩|⟨i,f,a,r⟩
  .obtain ⟨e,g,j⟩:=ahI hs;have c:∀nd∈p.aW,lF p nd=W:=gY (d:=aP) a;refine⟨e,Ev.aQ r (λn q=>_) _ g,?_⟩;rw[j];exact⟨λh=>⟨rfl,c,h⟩,λh=>h.2.2⟩
  .refine tJ (λh=>?_) (Ev.aQ r (λn q=>_) _ (Ev.of_eq λn=>?_))
   .have:=h.2.1 _ (bX aP f);rw[a]at this;cases this
   .rw[o3];unfold l5;simp(disch:=omega)only[aS]
def e87(hs:Small p):∃b,Ev (λn=>F87 n (⟨p⟩,())) ((b,()),())∧(b=W↔FP p):=by
 have h1:=hs.nodes;have h2:=hs.xO;have h3:=hs.cons;unfold F87;by_cases K:300<p.aW.length
 .exact tJ (λh=>by have:=h.nodes;omega) (Ev.of_eq λn=>by unfold l5;simp(disch:=omega)only[aS])
 by_cases M:p.dA.length<1
 .exact tJ (λh=>by have:=h.xO;omega) (Ev.of_eq λn=>by unfold l5;simp(disch:=omega)only[aS])
 by_cases N:p.aW.length<p.dA.length
 .exact tJ (λh=>by have:=h.xO;omega) (Ev.of_eq λn=>by unfold l5;simp(disch:=omega)only[aS])
 by_cases S:20<p.Cons.length
 .exact tJ (λh=>by have:=h.Rp;omega) (Ev.of_eq λn=>by unfold l5;simp(disch:=omega)only[aS])
 by_cases v:0<=p.Main∧p.Main<p.dA.length
 .have m:=fP (show 0<=p.Main∧p.Main<=(p.dA.length:Int)-1 by omega);have x:∀(i:Nat)(y:Int×U),(LO.ret () ((i:Int),()):LO (Int×U) (Int×U) U Any)≠.next y:=λ_ _ h=>by cases h
  simp(disch:=omega)only[aS,cT,wj,m];rcases eJ (F:=λn d=>aj (D.bO d.1 (p.Cons.length:Int)) (aD (av d.1 p.Cons) (ai (F148 n (p.Cons.getD d.1.toNat bx,())) λe=>aj e.1.1 (Z (LO.next (D.add .i64 d.1 1,()))) (Z (LO.ret () d)))) (Z (LO.out 0 d))) p.Cons.length (λi=>Fh (p.Cons.getD i bx)) (λi=>(LO.ret () ((i:Int),()):LO (Int×U) (Int×U) U Any)) x (λi f=>by
    have X:=hs.names _ (bX bx f);simp(disch:=omega)only[aS];refine Ev.ai (an8 (by omega)) (Ev.of_eq λn=>?_);cases Fh (p.Cons.getD i bx)<;>simp(disch:=omega)only[aS,bE,dU,dX]) (λn=>by simp(disch:=omega)only[aS])with⟨a,r⟩|⟨i,f,a,r⟩
  .have j:∀c∈p.Cons,Fh c=W:=gY (d:=bx) a;obtain⟨b,o,s⟩:=an7 (l:=p.Cons.map cB.Name) (by rw[Aj];omega);obtain⟨z,t,u⟩:=ahH hs b;refine⟨z,Ev.aQ r (λn q=>_) _ ?_,?_⟩
   .rw[show(λn=>LO.el (LO.out 0 ((p.Cons.length:Int),()):LO (Int×U) (Int×U) U Any) _ _ _)=_ from rfl];refine Ev.congr (g:=λn=>RN n (⟨p⟩,())) (λn=>rfl) ?_;unfold RN abV;have w:=jy (F:=λn h=>aj (D.bO h.2.1 (ak p.Cons)) (aD (av h.2.1 p.Cons) (ai (F151 n (aR p.Cons (ah h.2.1) bx,())) λi=>aD (cX h.1 [i.1.1]) (Z (LO.next (cM h.1 [i.1.1],D.add .i64 h.2.1 1,()))))) (Z (LO.out (R:=L (L UInt8)×U) (B:=U) (P:=Any) 0 h))) p.Cons.length (λi=>((p.Cons.take i).map cB.Name,(i:Int),())) 0 (λi f=>Ev.of_eq λn=>by
     unfold F151;have k:cX (List.map cB.Name (List.take i p.Cons)) [(p.Cons.getD i bx).Name]=W:=ET.2 (by simp;omega);simp(disch:=omega)only[aS,k,bE,dU,dX];rw[<-take_succ bx f,HE];rfl) (Ev.of_eq λn=>by simp(disch:=omega)only[aS]<;>rfl)
    rw[Cn]at w;refine Ev.aQ w (λn q=>_) _ ?_;exact Ev.ai o t
   .rw[u,s];exact⟨λ⟨A,C,E,G,H,I⟩=>⟨by omega,by omega,v,by omega,j,A,C,E,G,H,I⟩,λh=>⟨h.names,h.Yv,h.fr,h.kr,h.wm,h.all⟩⟩
  .refine tJ (λh=>?_) (Ev.aQ r (λn q=>_) _ (Ev.of_eq λn=>?_))
   .have:=h.cons _ (bX bx f);rw[a]at this;cases this
   .rw[o3];unfold l5;simp(disch:=omega)only[aS]
 .have m:=gu (show ¬(0<=p.Main∧p.Main<=(p.dA.length:Int)-1)by omega);exact tJ (λh=>v h.main) (Ev.of_eq λn=>by unfold l5;simp(disch:=omega)only[aS,cT,wj,m])
end
end
section
section
variable {p:ax}
def e15(hs:Small p):∃b,Ev (λn=>F15 n (p,())) ((b,()),())∧(b=W↔FP p):=by
 have h1:=hs.nodes;have h2:=hs.xO;have h3:=hs.cons;have I:D.dH .i64 (ak p.aW) 1=(p.aW.length:Int)-1:=cT (a:=(p.aW.length:Int)) (by omega) (by omega);have M:D.dH .i64 (ak p.dA) 1=(p.dA.length:Int)-1:=cT (a:=(p.dA.length:Int)) (by omega) (by omega);have mk:Zn (ak p.aW)=W:=by unfold Zn ak;rw[fP (by omega),fP (by omega)];rfl
 have R:ah (ak p.aW)=p.aW.length:=rfl;have s:ak p.aW=(p.aW.length:Int):=rfl;have v:ak p.dA=(p.dA.length:Int):=rfl;unfold F15 Ci;simp only[mk,I,M,R];by_cases c1:300<p.aW.length
 .exact tJ (λh=>by have:=h.nodes;omega) (Ev.of_eq λn=>by simp(disch:=omega)only[aS])
 by_cases E:1<=p.dA.length∧p.dA.length<=p.aW.length
 .have d2:=fP (show 1<=ak p.dA∧ak p.dA<=ak p.aW by rw[s,v];omega);by_cases H:0<=p.Main∧p.Main<p.dA.length
  .have d5:=fP (show 0<=p.Main∧p.Main<=(p.dA.length:Int)-1 by omega);obtain⟨b,A,w⟩:=e53 (l:=p.Cons) (by omega) (λc C=>by have:=hs.names c C;omega);have S:∀{Q:Prop}{G:Nat->O ((Bool×U)×U)}{K:Nat->((Bool×U)×U)->O ((Bool×U)×U)},(∃t,Ev (λn=>K n ((b,()),())) ((t,()),())∧(t=W↔Q))->(∀n,G n=ai (F53 n (p.Cons,())) (K n))->∃t,Ev G ((t,()),())∧(t=W↔Q):=by intro Q G K ⟨t,x,y⟩ h;exact⟨t,Ev.congr h (Ev.ai A x),y⟩
   refine S ?_ (λn=>by
    rw[jk (by rw[s];omega),GM,d2,Fu,mH,DA,GM,d5,Fu,mH,DA])
   simp only[];cases b with
   |false=>exact tJ (λh=>by have:=w.2 ⟨h.cons,h.Rp,h.names⟩;cases this) (Ev.of_eq λn=>rfl)
   |true=>
    obtain⟨X,k2,k3⟩:=w.1 rfl;have s2:∀{Q:Prop}{G:Nat->O ((Bool×U)×U)},(∃b,Ev G ((b,()),())∧(b=W↔Q))->∃b,Ev (λn=>aj (D.aK W) (Z ((J,()),())) (aD (CA W (iq (ak p.aW) (ak p.aW))) (G n))) ((b,()),())∧(b=W↔Q):=by intro Q G h;obtain⟨b,x,y⟩:=h;exact⟨b,Ev.congr (λn=>by rw[mH,DA,J6,M6,J4 rfl]) x,y⟩
    refine s2 ?_;have fF:∀n c,ry p.aW.length p.dA 0 n c=aj (D.bO c.2.1 (ak p.dA)) (aD (av c.2.1 p.dA) (ai (F52 n (aR p.dA (ah c.2.1) 0,0,(p.aW.length:Int)-1,())) λh=>aj (D.aK h.1.1) (Z (LO.ret () (J,()))) (aD (av c.2.1 p.dA) (aD (av (aR p.dA (ah c.2.1) 0) c.1) (aD (cz (ah (aR p.dA (ah c.2.1) 0)) c.1) (aj (aR c.1 (ah (aR p.dA (ah c.2.1) 0)) J) (Z (LO.ret () (J,()))) (aD (av c.2.1 p.dA) (aD (av (aR p.dA (ah c.2.1) 0) c.1) (aD (cz (ah (aR p.dA (ah c.2.1) 0)) c.1) (Z (LO.next (dV c.1 (ah (aR p.dA (ah c.2.1) 0)) W,D.add .i64 c.2.1 1,())))))))))))) (Z (LO.out 0 c)):=by intro n c;unfold ry;cases hz:av c.2.1 p.dA with|false=>rfl|true=>simp only[M6]
    have fK:∀n j,Ms p n j=aj (D.bO j.2.1 (ak p.aW)) (aD (av j.2.1 p.aW) (ai (F54 n (p,aR p.aW (ah j.2.1) aP,())) λk=>aj (D.aK k.1.1) (Z (LO.ret () (J,()))) (ai (iter (λl:L Bool×Int×U=>aD (av j.2.1 p.aW) (aj (D.bO l.2.1 (ak (aR p.aW (ah j.2.1) aP).3)) (aD (av j.2.1 p.aW) (aD (av l.2.1 (aR p.aW (ah j.2.1) aP).3) (ai (F52 n (aR (aR p.aW (ah j.2.1) aP).3 (ah l.2.1) 0,D.add .i64 j.2.1 1,(p.aW.length:Int)-1,())) λm=>aj (D.aK m.1.1) (Z (LO.ret () (J,()))) (aD (av (aR (aR p.aW (ah j.2.1) aP).3 (ah l.2.1) 0) l.1) (aD (cz (ah (aR (aR p.aW (ah j.2.1) aP).3 (ah l.2.1) 0)) l.1) (aj (aR l.1 (ah (aR (aR p.aW (ah j.2.1) aP).3 (ah l.2.1) 0)) J) (Z (LO.ret () (J,()))) (aD (av (aR (aR p.aW (ah j.2.1) aP).3 (ah l.2.1) 0) l.1) (aD (cz (ah (aR (aR p.aW (ah j.2.1) aP).3 (ah l.2.1) 0)) l.1) (Z (LO.next (dV l.1 (ah (aR (aR p.aW (ah j.2.1) aP).3 (ah l.2.1) 0)) W,D.add .i64 l.2.1 1,()))))))))))) (Z (LO.out (P:=Any) (B:=U) 0 l)))) n (j.1,0,())) λl=>LO.el l (λ_ o=>Z (LO.next (o.1,D.add .i64 j.2.1 1,()))) (λ_ o=>Z (LO.ret () o)) λ_ _=>Y))) (Z (LO.out 0 j)):=by intro n j;unfold Ms ry;cases hz:av j.2.1 p.aW with|false=>rfl|true=>simp only[M6]
    simp only[<-fF,<-fK];rcases AF (N:=p.aW.length) (lo:=0) (by omega) p.dA [] _ [] (Hf.zero _) (by simp) (by simp;omega)with⟨⟨a,a'⟩,u1,b,c⟩|⟨a,c⟩
    .rcases H7 hs p.aW [] u1 _ rfl b a' with⟨⟨d1,d2,d3⟩,z,e,f⟩|⟨d,f⟩
     .have hb:∀(i:Nat)(y:Int×U),(LO.ret () (J,()):LO (Int×U) (Bool×U) U Any)≠.next y:=λ_ _ h=>by cases h
      have hul:=e.1;rcases eJ (F:=λn m=>aj (D.bO m.1 (ak p.aW)) (aD (av m.1 z) (aD (cz (ah m.1) z) (aj (D.aK (aR z (ah m.1) J)) (Z (LO.ret () (J,()))) (Z (LO.next (D.add .i64 m.1 1,())))))) (Z (LO.out 0 m))) p.aW.length (λi=>z.getD i J) (λ_=>(LO.ret () (J,()):LO (Int×U) (Bool×U) U Any)) hb (λi u=>Ev.of_eq λn=>by
        cases C:z.getD i J<;>simp(disch:=omega)only[aS,C,bE,dU,dX]) (λn=>by simp(disch:=omega)only[aS]<;>rfl)with⟨g,r⟩|⟨i,u,g,r⟩
      .rw[vX]at d3 e;refine⟨W,Ev.aQ c (λn q=>_) _ ?_,λ_=>⟨by omega,E,H,k2,X,k3,d1,a,d2,d3,λi u=>(e.2 i u).1 (g i u)⟩,λ_=>rfl⟩;refine Ev.congr (λn=>dY ..) (Ev.aQ f (λn q=>_) _ ?_);refine Ev.congr (λn=>dY ..) (Ev.aQ r (λn q=>_) _ (Ev.of_eq λn=>rfl))
      .rw[vX]at e;refine tJ (λh=>?_) (Ev.aQ c (λn q=>_) _ ?_)
       .have:=(e.2 i u).2 (h.all i u);rw[g]at this;cases this
       .refine Ev.congr (λn=>dY ..) (Ev.aQ f (λn q=>_) _ ?_);refine Ev.congr (λn=>dY ..) (Ev.aQ r (λn q=>_) _ (Ev.of_eq λn=>rfl))
     .rw[vX]at d;refine tJ (λh=>d ⟨h.Yv,h.kr,h.wm⟩) (Ev.aQ c (λn q=>_) _ ?_);exact Ev.congr (λn=>dY ..) (Ev.aQ f (λn q=>_) _ (Ev.of_eq λn=>rfl))
    .refine tJ (λh=>a ⟨h.fr,?_⟩) (Ev.aQ c (λn q=>_) _ (Ev.of_eq λn=>rfl));rw[vX];exact(HG.1 h.wm).1
  .have d5:=gu (show ¬(0<=p.Main∧p.Main<=(p.dA.length:Int)-1)by omega);refine tJ (λh=>H h.main) (Ev.of_eq λn=>?_);rw[jk (by rw[s];omega),GM,d2,Fu,mH,DA,GM,d5,Fu,mH,QH]
 .have d2:=gu (show ¬(1<=ak p.dA∧ak p.dA<=ak p.aW)by rw[s,v];omega);refine tJ (λh=>E h.xO) (Ev.of_eq λn=>?_);rw[jk (by rw[s];omega),GM,d2,Fu,mH,QH]
def e46{b:Bool}(h:Ev (λn=>F87 n (⟨p⟩,())) ((b,()),())):Ev (λn=>F46 n (p,())) ((if b=W then 0 else 2,()),()):=by unfold F46;refine Ev.ai h (Ev.of_eq λn=>?_);cases b<;>rfl
def FP.ok(h:FP p):lY p:=by
 have u:∀{l:L bp}{i:Nat},nB p.aW.length i l->∀nd∈l,∀k∈nd.Kids,0<=k∧k<p.aW.length:=by
  intro l
  induction l with
  |nil=>intro i _ nd b;cases b
  |cons a l v=>
   intro i n nd b k m;rcases eU.1 b with h|h
   .subst h;have:=n.1 k m;omega
   .exact v n.2 nd h k m
 refine⟨h.nodes,λnd b=>?_,h.fr,by have:=h.xO;have:=h.nodes;omega,h.main,λc w=>?_⟩
 .have o:=h.Yv nd b;unfold lF at o;simp only[ec]at o;obtain⟨⟨⟨B,d⟩,g⟩,z⟩:=o;have r:∀q∈nd.cA,pw q<=12∧pf q=W:=λq A=>by have:=eC.1 z q A;unfold qB at this;simp only[ec,jL]at this;exact⟨this.1,DX q this.2⟩
  unfold Mt at d;unfold Cp at g;have j:1<=nd.Op∧nd.Op<=28:=by
   by_cases e:nd.Op=15
   .omega
   .rw[br e]at d;by_cases f:nd.Op=14
    .omega
    .rw[br f]at d;by_cases t:1<=nd.Op∧nd.Op<=28
     .exact t
     .rw[br t]at d;cases d
  refine⟨j.1,j.2,λk n=>u h.kr nd b k n,λf e=>?_,λf=>?_,λe=>?_,λh1=>?_,λh2=>?_,λh4=>?_,λs=>?_,r⟩
  .rw[br e,br f,bJ j]at d;have:=Co d;omega
  .rw[br (by omega),bJ f,ec]at d;have x:=Co d.1;have y:=Co d.2;exact⟨x.1,x.2,y⟩
  .rw[bJ e,ec]at d;have x:=Co d.1;have y:=Co d.2;omega
  .rw[bJ h1]at g;exact g
  .rw[br (by omega),bJ h2]at g;have:=Co g;omega
  .rw[br (by omega),br (by omega),br (by omega),bJ h4]at g;exact Co g
  .rw[br (by omega),br (by omega),bJ s]at g;exact Co g
 .have:=h.cons c w;unfold Fh at this;simp only[ec,jL]at this;exact this.2
end
end
section
set_option maxRecDepth 1000000
def akx:F13 300 ()=Z ((W,()),()):=by kernel_rfl
def kn:Fn [] K4 J:=λ_=>Z ((W,()),())
abbrev cK:kC sg:=⟨[],K4,J,kn⟩
def CK:bz prog 13 cK:=by
 have h:=(k13 300).h;have e:F13 300=kn:=funext λx=>by cases x;exact akx
 have h:bz prog 13 (⟨[],K4,J,F13 300⟩:kC sg):=h;rw[e]at h;exact h
end
section
section
variable {p:ax}
def Ax(l:L Int):Bool:=decide (l.length<=50)&&l.all gN
variable {l:List Int}
def e47(hl:l.length<=60):Ev (λn=>F47 n (l,())) ((Ax l,()),()):=by
 unfold F47 Ax;by_cases h:l.length<=50
 .rw[fP h,dQ];simp(disch:=omega)only[aS];have e:∀(i:Nat)(y:Int×U),(LO.ret () ((i:Int),()):LO (Int×U) (Int×U) U Any)≠.next y:=λ_ _ h=>by cases h
  rcases eJ (F:=λn c=>aj (D.bO c.1 (l.length:Int)) (aD (av c.1 l) (ai (F69 n (l.getD c.1.toNat 0,(-1000000000),1000000000,())) λd=>aj d.1.1 (Z (LO.next (D.add .i64 c.1 1,()))) (Z (LO.ret () c)))) (Z (LO.out 0 c))) l.length (λi=>gN (l.getD i 0)) (λi=>(LO.ret () ((i:Int),()):LO (Int×U) (Int×U) U Any)) e (λi b=>Ev.of_eq λn=>by
    simp(disch:=omega)only[aS,e69];cases gN (l.getD i 0)<;>simp(disch:=omega)only[aS,bE,dU,dX]) (λn=>by simp(disch:=omega)only[aS])with⟨a,r⟩|⟨i,b,a,r⟩
  .rw[rF (d:=(0:Int)) a];exact Ev.aQ r (λn c=>_) _ (Ev.of_eq λn=>rfl)
  .rw[jP (d:=(0:Int)) b a];refine Ev.aQ r (λn c=>_) _ (Ev.of_eq λn=>?_);rw[o3];simp(disch:=omega)only[aS]<;>rfl
 .rw[gu h,fO];exact Ev.of_eq λn=>by simp(disch:=omega)only[aS]
def e16(hl:l.length<=60):Ev (λn=>F16 n (l,50,())) ((Ax l,()),()):=by
 unfold F16 Ax;have e:∀(i:Nat)(y:Int×U),(LO.ret () (J,()):LO (Int×U) (Bool×U) U Any)≠.next y:=λ_ _ h=>by cases h
 have step:∀i,i<l.length->i<=50->Ev (λn=>aj (D.bO (i:Int) (ak l)) (aj (D.ep (i:Int) 50) (aD (av (i:Int) l) (ai (F55 n (aR l (ah (i:Int)) 0,(-1000000000),1000000000,())) λd=>aj (D.aK d.1.1) (Z (LO.ret () (J,()))) (Z (LO.next (D.add .i64 (i:Int) 1,()))))) (Z (LO.out 0 ((i:Int),())))) (Z (LO.out 0 ((i:Int),())))) (bif gN (l.getD i 0)then .next (((i+1:Nat):Int),())else(LO.ret () (J,()):LO (Int×U) (Bool×U) U Any)):=by intro i b f;refine Ev.of_eq λn=>?_;simp(disch:=omega)only[aS,e55];cases gN (l.getD i 0)<;>simp(disch:=omega)only[aS,bE,dU,dX]
 by_cases h:l.length<=50
 .rw[fP h,dQ];rcases eJ (F:=λn c=>aj (D.bO c.1 (ak l)) (aj (D.ep c.1 50) (aD (av c.1 l) (ai (F55 n (aR l (ah c.1) 0,(-1000000000),1000000000,())) λd=>aj (D.aK d.1.1) (Z (LO.ret () (J,()))) (Z (LO.next (D.add .i64 c.1 1,()))))) (Z (LO.out 0 c))) (Z (LO.out 0 c))) l.length (λi=>gN (l.getD i 0)) (λi=>(LO.ret () (J,()):LO (Int×U) (Bool×U) U Any)) e (λi b=>step i b (by omega)) (λn=>by simp(disch:=omega)only[aS]<;>rfl)with⟨a,r⟩|⟨i,b,a,r⟩
  .rw[rF (d:=(0:Int)) a];refine Ev.aQ r (λn c=>_) _ (Ev.of_eq λn=>?_);rw[dY];show Z ((D.ep (l.length:Int) 50,()),())=_;rw[Zw (by omega)]
  .rw[jP (d:=(0:Int)) b a];exact Ev.aQ r (λn c=>_) _ (Ev.of_eq λn=>rfl)
 .rw[gu h,fO];rcases og (F:=λn c=>aj (D.bO c.1 (ak l)) (aj (D.ep c.1 50) (aD (av c.1 l) (ai (F55 n (aR l (ah c.1) 0,(-1000000000),1000000000,())) λd=>aj (D.aK d.1.1) (Z (LO.ret () (J,()))) (Z (LO.next (D.add .i64 c.1 1,()))))) (Z (LO.out 0 c))) (Z (LO.out 0 c))) 51 (λi=>((i:Int),())) (λi=>gN (l.getD i 0)) (λi=>(LO.ret () (J,()):LO (Int×U) (Bool×U) U Any)) 0 e (λi b _=>step i (by omega) (by omega)) (λ_=>Ev.of_eq λn=>by
    show TL.aj (D.bO (51:Int) (l.length:Int)) (TL.aj (D.ep (51:Int) 50) _ _) _=_;rw[CL (show(50:Int)<51 by decide)];cases D.bO (51:Int) (l.length:Int)<;>rfl)with⟨a,r⟩|⟨i,b,a,_,r⟩
  .refine Ev.aQ r (λn c=>_) _ (Ev.of_eq λn=>?_);rw[dY];show Z ((D.ep (l.length:Int) 50,()),())=_;rw[acT (by omega)]
  .exact Ev.aQ r (λn c=>_) _ (Ev.of_eq λn=>rfl)
def e17:Ev (λn=>F17 n (bF,())) ((W,()),()):=by unfold F17 F19;refine Ev.ai (a:=((W,()),())) ?_ (Ev.pure _);have z:ak bF.1=0:=rfl;have b:D.aG bF.5 bF.5=W:=rfl;simp only[z,b];simp only[aS];refine Ev.ai (e26 (l:=[]) (by simp)) ?_;simp only[aS];refine Ev.ai (e27 (l:=[]) (by simp)) ?_;simp only[aS];refine Ev.ai (e26 (l:=[]) (by simp)) ?_;simp only[aS];refine Ev.aQ (F:=λn c=>_) (eM.out (j:=0) (y:=(0,())) (Ev.of_eq λn=>?_)) (λn c=>_) _ (Ev.of_eq λn=>rfl);simp(disch:=omega)only[aS]
end
end
section
variable {m:Int}
section
variable {α β R B P:Type}
def Ev.all{l:L α}(d:α)(q:α->Bool)(bad:Nat->LO (Int×U) R B P){F:Nat->Int×U->O (LO (Int×U) R B P)}{g:Nat->LO (Int×U) R B P->O β}{r:β}
  (e:∀i y,bad i≠.next y)
  (hs:∀i,i<l.length->Ev (λn=>F n ((i:Int),())) (bif q (l.getD i d)then .next (((i+1:Nat):Int),())else bad i))
  (f:∀n,F n ((l.length:Int),())=Z (.out 0 ((l.length:Int),())))
  (h1:l.all q=W->Ev (λn=>g n (.out 0 ((l.length:Int),()))) r) (h2:∀i,i<l.length->l.all q=J->Ev (λn=>g n (bad i)) r) :
  Ev (λn=>ai (iter (F n) n (0,())) (g n)) r:=by
 rcases eJ l.length (λi=>q (l.getD i d)) bad e hs f with⟨a,b⟩|⟨i,c,a,b⟩
 .exact Ev.aQ b g _ (h1 (rF (d:=d) a))
 .exact Ev.aQ b g _ (h2 i c (jP (d:=d) c a))
def Ev.Ns{l:L α}(d:α)(q:α->Bool)(T:Nat->α->O ((Bool×U)×U))(bad:Int×U->LO (Int×U) R B P){F:Nat->Int×U->O (LO (Int×U) R B P)}{g:Nat->LO (Int×U) R B P->O β}{r:β}
  (b:∀n c,F n c=aj (D.bO c.1 (ak l)) (aD (av c.1 l) (ai (T n (aR l (ah c.1) d)) λx=>aj (D.aK x.1.1) (Z (bad c)) (Z (LO.next (D.add .i64 c.1 1,()))))) (Z (LO.out 0 c)))
  (hl:l.length<=1000000) (e:∀c y,bad c≠.next y) (f:∀a∈l,Ev (λn=>T n a) ((q a,()),()))
  (h1:l.all q=W->Ev (λn=>g n (.out 0 ((l.length:Int),()))) r) (h2:l.all q=J->∀i:Nat,Ev (λn=>g n (bad ((i:Int),()))) r) :
  Ev (λn=>ai (iter (F n) n (0,())) (g n)) r:=by
 refine Ev.all d q (λi=>bad ((i:Int),())) (λi y=>e _ y) (λi j=>?_) (λn=>by rw[b];simp(disch:=omega)only[aS]) h1 (λi _ h=>h2 h i);refine Ev.congr (λn=>b n _) ?_;simp(disch:=omega)only[aS];refine Ev.ai (f _ (bX d j)) (Ev.of_eq λn=>?_);cases q (l.getD i d)<;>simp(disch:=omega)only[aS,bE,dU,dX]
def Ev.cap{l:L α}(d:α)(q:α->Bool)(o:0<=m)(p:m<=1000000){F:Nat->Int×U->O (LO (Int×U) (Bool×U) U P)}
  (hs:∀i,i<l.length->(i:Int)<=m->Ev (λn=>F n ((i:Int),())) (bif q (l.getD i d)then .next (((i+1:Nat):Int),())else .ret () (J,())))
  (g:∀n(i:Nat),l.length<=i∨m<i->F n ((i:Int),())=Z (.out 0 ((i:Int),()))) :
  Ev (λn=>ai (iter (F n) n (0,())) λc=>LO.el c (λ_ _=>Z ((D.ep (ak l) m,()),())) (λ_ e=>Z (e,())) λ_ _=>Y) ((decide ((l.length:Int)<=m)&&l.all q,()),()):=by
 have j:∀(i:Nat)(y:Int×U),(LO.ret () (J,()):LO (Int×U) (Bool×U) U P)≠.next y:=λ_ _ h=>by cases h
 by_cases h:(l.length:Int)<=m
 .rw[fP h,dQ];refine Ev.all d q (λ_=>.ret () (J,())) j (λi b=>hs i b (by omega)) (λn=>g n _ (.inl (bQ _))) (λf=>?_) (λi b f=>?_)
  .refine Ev.of_eq λn=>?_;rw[dY,f,vI,Zw h]
  .rw[f];exact Ev.of_eq λn=>rfl
 .rw[gu h,fO];obtain⟨k,rfl⟩:∃k:Nat,m=k:=⟨_,(Al o).symm⟩;rcases og (F:=F) (k+1) (λi=>((i:Int),())) (λi=>q (l.getD i d)) (λi=>.ret () (J,())) 0 j (λi b _=>hs i (by omega) (by omega)) (λ_=>Ev.of_eq λn=>g n (k+1) (.inr (by omega)))with⟨a,r⟩|⟨i,b,a,_,r⟩
  .refine Ev.aQ r (λn c=>_) _ (Ev.of_eq λn=>?_);rw[dY,vI,acT (by omega)]
  .exact Ev.aQ r (λn c=>_) _ (Ev.of_eq λn=>rfl)
end
def tL(a lo b:Int):Bool:=decide (lo<=a)&&decide (a<=b)
def gz{a lo b:Int}:tL a lo b=W↔lo<=a∧a<=b:=by simp[tL]
def JZ(n:Nat)(a lo b:Int):F55 n (a,lo,b,())=Z ((tL a lo b,()),()):=by unfold F55 tL;by_cases h1:lo<=a<;>by_cases h2:a<=b<;>simp[aj,D.ep,h1,h2]
def Pd(n:Nat)(a lo b:Int):F69 n (a,lo,b,())=Z ((tL a lo b,()),()):=JZ n a lo b
section
variable {p:ax}{w:aa}{v:aq}{f:au}{o:aE}
def vB(p:ax)(k:Nat)(v:aq):Bool:=
 bif D.aG v.Kind 1 then tL v.N (-1000000000) 1000000000 else bif D.aG v.Kind 2 then tL v.N 0 1 else bif D.aG v.Kind 3 then D.aG v.N 0
 else bif D.aG v.Kind 4 then tL v.N 0 (p.dA.length-1)else bif D.aG v.Kind 5 then tL v.N 0 (k-1)else J
def UA{k:Nat}:vB p k v=W↔cD p k v:=by
 obtain⟨a,b⟩:=v;unfold vB cD;simp only;by_cases h1:a=1
 .subst h1;simp[D.aG,tL,gN]
 by_cases h2:a=2
 .subst h2;simp[D.aG,tL];omega
 by_cases h3:a=3
 .subst h3;simp[D.aG]
 by_cases h4:a=4
 .subst h4;simp[D.aG,tL];omega
 by_cases h5:a=5
 .subst h5;simp[D.aG,tL];omega
 simp[D.aG,h1,h2,h3,h4,h5]
def ahR(n:Nat)(a:p.dA.length<=1000)(b:w.aY.length<=1000)(v:aq):F169 n (p,w,v,())=Z ((vB p w.aY.length v,()),()):=by unfold F169 vB;simp(disch:=omega)only[aS,cT,JZ];cases D.aG v.Kind 1<;>cases D.aG v.Kind 2<;>cases D.aG v.Kind 3<;>cases D.aG v.Kind 4<;>cases D.aG v.Kind 5<;>rfl
def ad4(n:Nat)(a:p.dA.length<=1000)(b:w.aY.length<=1000)(v:aq):F211 n (⟨p,w⟩,v,())=Z ((vB p w.aY.length v,()),()):=ahR n a b v
def MY(b:p.dA.length<=1000)(c:w.aY.length<=1000){l:L aq}(d:0<=m)(a:m<=1000000):Ev (λn=>F109 n (p,w,l,m,())) ((decide ((l.length:Int)<=m)&&l.all (vB p w.aY.length),()),()):=by
 unfold F109;refine Ev.cap (l:=l) az _ d a (λi g e=>Ev.of_eq λn=>?_) (λn i h=>?_)
 .simp (disch:=omega)only[aS,ahR n b c];cases vB p w.aY.length (l.getD i az)<;>simp(disch:=omega)only[aS,bE,dU,dX]
 .rcases h with h|h
  .simp (disch:=omega)only[aS]
  .cases f:D.bO (i:Int) (l.length:Int)<;>simp(disch:=omega)only[aS,f]
end
end
section
section
variable {p:ax}{w:aa}{f:au}{o:aE}{k:Nat}
def RF(i:lY p){n:bp}(h:PN p n):jo n<=3:=by
 unfold jo;split
 .rename_i d;obtain⟨a,b,c⟩:=h.con d;have:=(i.cons _ (bX bx (show n.N.toNat<p.Cons.length by omega))).2;omega
 .have h1:=h.lo;have h2:=h.hi;obtain⟨op,m,f,g⟩:=n;dsimp only at h1 h2 ⊢;obtain⟨j,rfl⟩:∃j:Nat,op=j:=⟨_,(Al (by omega)).symm⟩;have e:j<=28:=by omega
  match j,e with
  |0,_|1,_|2,_|3,_|4,_|5,_|6,_|7,_|8,_|9,_|10,_|11,_|12,_|13,_|14,_|15,_|16,_|17,_|18,_|19,_|20,_|21,_|22,_|23,_|24,_|25,_|26,_|27,_|28,_=>decide
  |j+29,h=>omega
def NY(p:ax)(k:Nat)(f:au):Bool:=
 tL f.Node 0 (p.aW.length-1)&&((decide ((f.Env.length:Int)<=30)&&f.Env.all (vB p k))&&(decide ((f.bI.length:Int)<=jo (nodeAt p f.Node))&&f.bI.all (vB p k)))
def Q7(p:ax)(f:au):Bool:=decide ((f.bI.length:Int)<jo (nodeAt p f.Node))
def zm:NY p k f=W↔eF p k f:=by unfold NY;simp only[ec,gz,jL,eC,UA];exact⟨λ⟨⟨a,b⟩,⟨c,d⟩,e,g⟩=>⟨a,by omega,by omega,d,e,g⟩,λh=>⟨⟨h.lo,by have:=h.hi;omega⟩,⟨by have:=h.el;omega,h.env⟩,h.vl,h.vals⟩⟩
def Zk:Q7 p f=W↔sZ p f:=by unfold Q7 sZ;exact decide_eq_true_iff
variable {l fs:List au}{vs:List aq}
def ME:l.all (NY p k)=W↔∀f∈l,eF p k f:=by simp only[eC,zm]
def Md:l.all (Q7 p)=W↔∀f∈l,sZ p f:=by simp only[eC,Zk]
def lu{l:L aq}:l.all (vB p k)=W↔∀v∈l,cD p k v:=by simp only[eC,UA]
def MD(p:ax)(k:Nat)(o:aE):Bool:=
 ((decide ((o.Frames.length:Int)<=40)&&o.Frames.all (NY p k))&&(decide ((o.bI.length:Int)<=1)&&o.bI.all (vB p k)))&&(decide (0<o.Frames.length+o.bI.length)&&(o.Frames.take (o.Frames.length-(1-o.bI.length))).all (Q7 p))
def Tt:MD p k ⟨6,0,vs,fs⟩=W↔gE p k ⟨6,0,vs,fs⟩:=by
 unfold MD;simp only[ec,jL,ME,Md,lu];constructor
 .rintro ⟨⟨⟨a,b⟩,c,d⟩,e,g⟩
  match vs,c with
  |[],_=>
   have i:fs≠[]:=by rintro rfl;simp at e
   rw[<-List.dropLast_concat_getLast i]at a b g ⊢;simp only[gw,nq,xy]at a e g;rw[show fs.dropLast.length+1-(1-0)=fs.dropLast.length by omega,Lx]at g;exact .uv (by omega) (λq f=>⟨b q (eL _ f),g q f⟩) (b _ (by simp))
  |[v],_=>simp only[nq,Nat.sub_self,Nat.sub_zero,Cn]at g;exact .back (by omega) (λq f=>⟨b q f,g q f⟩) (d v (by simp))
  |_::_::_,h=>simp at h;omega
 .intro h;cases h with
  |uv a b c=>
   refine⟨⟨⟨by simp;omega,λq f=>?_⟩,by simp,by simp⟩,by simp,?_⟩
   .rcases ef.1 f with h|h
    .exact (b q h).1
    .rw[lg.1 h];exact c
   .simp only[gw,nq,xy];rw[show ∀m:Nat,m+1-(1-0)=m by intro m;omega,Lx];exact λq f=>(b q f).2
  |back a b c=>refine⟨⟨⟨by omega,λq f=>(b q f).1⟩,by simp,λq f=>by rw[lg.1 f];exact c⟩,by simp,λq f=>(b q (QS f)).2⟩
  |dead h=>omega
def Dp(p:ax)(k:Nat)(o:aE):Bool:=
 bif D.aG o.N 0 then MD p k o else bif D.aG o.N 1 then D.aG o.Frames.length 0&&(D.aG o.bI.length 1&&o.bI.all (vB p k))
 else(D.aG o.N 2||(D.aG o.N 3||D.aG o.N 4))&&(D.aG o.Frames.length 0&&D.aG o.bI.length 0)
def Q8(p:ax)(k:Nat)(o:aE):Bool:=
 bif D.aG o.Form 6 then Dp p k o
 else bif D.aG o.Form 5 then D.aG o.N 0&&(D.aG o.bI.length 0&&(D.bO 0 o.Frames.length&&((decide ((o.Frames.length:Int)<=40)&&o.Frames.all (NY p k))&&(o.Frames.all (Q7 p)&&D.aG (nodeAt p (o.Frames.getD 0 aV).Node).Op 26))))
 else D.aG o.Frames.length 0&&(bif D.aG o.Form 1 then tL o.N 0 (p.Cons.length-1)&&(D.aG o.bI.length (p.Cons.getD o.N.toNat bx).pG&&o.bI.all (vB p k))
 else bif D.aG o.Form 2 then tL o.N 0 (p.aW.length-1)&&(D.aG (nodeAt p o.N).Op 5&&(decide ((o.bI.length:Int)<=30)&&o.bI.all (vB p k)))
 else bif D.aG o.Form 3 then D.aG o.N 0&&(D.aG o.bI.length 1&&o.bI.all (vB p k))
 else bif D.aG o.Form 4 then D.aG o.N 0&&(decide ((o.bI.length:Int)<=4)&&o.bI.all (vB p k))else J)
def qo{a b:Int}:D.aG a b=W↔a=b:=by simp[D.aG]
def So{s:Int}:Dp p k ⟨6,s,vs,fs⟩=W↔gE p k ⟨6,s,vs,fs⟩:=by
 unfold Dp;simp only;by_cases d:s=0
 .subst d;exact Tt
 rw[jS d,dS];by_cases h1:s=1
 .subst h1;rw[jB rfl,cH];simp only[ec,qo,lu];constructor
  .rintro ⟨a,b,c⟩
   obtain rfl:=tH (show fs.length=0 by omega)
   match vs,b with
   |[v],_=>exact .done (c v (by simp))
   |[],h=>simp at h
   |_::_::_,h=>simp at h;omega
  .intro h;cases h with|done h=>exact⟨rfl,rfl,λv e=>by rw[lg.1 e];exact h⟩|dead h=>omega
 rw[jS h1,dS];simp only[ec,j0,qo];constructor
 .rintro ⟨a,b,c⟩
  obtain rfl:=tH (show fs.length=0 by omega);obtain rfl:=tH (show vs.length=0 by omega);exact .dead a
 .intro h;cases h with|uv=>exact absurd rfl d|back=>exact absurd rfl d|done=>exact absurd rfl h1|dead h=>exact⟨h,rfl,rfl⟩
def CQ:Q8 p k o=W↔gE p k o:=by
 obtain⟨i,s,vs,fs⟩:=o;unfold Q8;simp only;by_cases h6:i=6
 .subst h6;exact So
 rw[jS h6,dS];by_cases h5:i=5
 .subst h5;rw[jB rfl,cH];simp only[ec,qo,ME,Md,jL,vK];constructor
  .rintro ⟨rfl,b,c,⟨d,e⟩,g,h⟩
   obtain rfl:=tH (show vs.length=0 by omega)
   match fs,c with
   |f::fs,_=>exact .Av (by simp at d;omega) (λq j=>⟨e q j,g q j⟩) h
   |[],h=>simp at h
  .intro h;cases h with|Av a b c=>exact⟨rfl,rfl,by simp,⟨by simp;omega,λq j=>(b q j).1⟩,λq j=>(b q j).2,c⟩
 rw[jS h5,dS];simp only[ec,qo];constructor
 .rintro ⟨a,b⟩
  obtain rfl:=tH (show fs.length=0 by omega);by_cases h1:i=1
  .subst h1;simp only[jB,cH,ec,qo,lu,gz]at b;exact .data b.1.1 (by omega) b.2.1 b.2.2
  rw[jS h1,dS]at b;by_cases h2:i=2
  .subst h2;simp only[jB,cH,ec,qo,lu,gz,jL]at b;exact .func b.1.1 (by omega) b.2.1 (by omega) b.2.2.2
  rw[jS h2,dS]at b;by_cases h3:i=3
  .subst h3;simp only[jB,cH,ec,qo,lu]at b;obtain⟨rfl,b,c⟩:=b
   match vs,b with
   |[v],_=>exact .cell (c v (by simp))
   |[],h=>simp at h
   |_::_::_,h=>simp at h;omega
  rw[jS h3,dS]at b;by_cases h4:i=4
  .subst h4;simp only[jB,cH,ec,qo,lu,jL]at b;obtain⟨rfl,b,c⟩:=b;exact .chan (by omega) c
  rw[jS h4]at b;cases b
 .intro h;cases h with|data a b c d=>exact⟨rfl,by simp only[jB,cH,ec,qo,lu,gz];exact⟨⟨a,by omega⟩,c,d⟩⟩|func a b c d e=>exact⟨rfl,by rw[jS (by decide),dS];simp only[jB,cH,ec,qo,lu,gz,jL];exact⟨⟨a,by omega⟩,c,by omega,e⟩⟩|cell a=>exact⟨rfl,by rw[jS (by decide),dS,jS (by decide),dS];simp only[jB,cH,ec,qo,lu];exact⟨trivial,rfl,λv l=>by rw[lg.1 l];exact a⟩⟩|chan a b=>exact⟨rfl,by rw[jS (by decide),dS,jS (by decide),dS,jS (by decide),dS];simp only[jB,cH,ec,qo,lu,jL];exact⟨trivial,by omega,b⟩⟩|Av=>exact absurd rfl h5|uv=>exact absurd rfl h6|back=>exact absurd rfl h6|done=>exact absurd rfl h6|dead=>exact absurd rfl h6
end
end
section
def Tv{α:Type}{l:L α}{k i:Nat}{d:α}(h:i<k):(l.take k).getD i d=l.getD i d:=by simp only[jq,v5,bJ h]
section
variable {p:ax}{w:aa}{f:au}{o:aE}
structure Bd(p:ax)(w:aa):Prop where
 ok:lY p
 cl:p.Cons.length<=1000
 wl:w.aY.length<=1000
def Bd.fl(h:Bd p w):p.dA.length<=1000:=by have:=h.ok.fl;omega
def Bd.nl(h:Bd p w):p.aW.length<=1000:=by have:=h.ok.len;omega
def ahT(b:Bd p w)(l:L au):Ev (λn=>F107 n (p,w,l,())) ((decide ((l.length:Int)<=40)&&l.all (NY p w.aY.length),()),()):=by
 have f:=b.ok;have s:=b.nl;unfold F107;refine Ev.cap (l:=l) aV _ (by decide) (by decide) (λi t j=>?_) (λn i h=>?_)
 .generalize k:l.getD i aV=g;have c:aR l (ah (i:Int)) aV=g:=k;refine Ev.congr (g:=λn=>ai (F55 n (g.Node,0,D.dH .i64 (ak p.aW) 1,())) λd=>aj (D.aK d.1.1) (Z (LO.ret () (J,()))) (ai (F109 n (p,w,g.Env,30,())) λe=>aj (D.aK e.1.1) (Z (LO.ret () (J,()))) (aD (av g.Node p.aW) (ai (F75 n (aR p.aW (ah g.Node) aP,())) λq=>ai (F109 n (p,w,g.bI,q.1)) λh=>aj (D.aK h.1.1) (Z (LO.ret () (J,()))) (Z (LO.next (D.add .i64 (i:Int) 1,()))))))) (λn=>?_) ?_
  .simp only[c];simp(disch:=omega)only[aS]
  .unfold NY;simp(disch:=omega)only[aS,cT,JZ];cases h1:tL g.Node 0 ((p.aW.length:Int)-1)with
   |false=>simp only[aS,fO];exact Ev.pure _
   |true=>
    have o:=gz.1 h1;have a:=f.nd o.1 (show g.Node<p.aW.length by omega);simp(disch:=omega)only[aS,dQ];refine Ev.ai (MY b.fl b.wl (by decide) (by decide)) ?_;cases h2:decide ((g.Env.length:Int)<=30)&&g.Env.all (vB p w.aY.length)with|false=>simp only[aS,fO];exact Ev.pure _|true=>simp only[aS,dQ];simp only[show p.aW.getD g.Node.toNat aP=nodeAt p g.Node from rfl];refine Ev.ai (Ev.of_eq λn=>e75 _ a.lo a.hi) ?_;refine Ev.ai (MY (m:=jo (nodeAt p g.Node)) b.fl b.wl (Dc _) (by have:=RF f a;omega)) (Ev.of_eq λn=>?_);cases decide ((g.bI.length:Int)<=jo (nodeAt p g.Node))&&g.bI.all (vB p w.aY.length)<;>simp(disch:=omega)only[aS,bE,dU,dX]
 .rcases h with h|h
  .simp (disch:=omega)only[aS]
  .cases r:D.bO (i:Int) (l.length:Int)<;>simp(disch:=omega)only[aS,r]
def ahS(b:Bd p w){l:L au}{m:Nat}(o:m<=l.length)(hl:l.length<=1000)(h:l.all (NY p w.aY.length)=W):Ev (λn=>F108 n (p,l,(m:Int),())) (((l.take m).all (Q7 p),()),()):=by
 have q:=b.ok;unfold F108;refine Ev.all (l:=l.take m) aV (Q7 p) (λ_=>.ret () (J,())) (λ_ _ h=>by cases h) (λi g=>Ev.of_eq λn=>?_) (λn=>?_) (λc=>?_) (λi g c=>?_)
 .have d:i<m:=by simp at g;omega
  rw[Tv d];have j:=zm.1 (eC.1 h _ (bX aV (show i<l.length by omega)));have e:=j.lo;have f:=j.hi;have a:=q.nd e f;simp(disch:=omega)only[aS];rw[show p.aW.getD (l.getD i aV).Node.toNat aP=nodeAt p (l.getD i aV).Node from rfl,e75 _ a.lo a.hi];unfold Q7;by_cases k:((l.getD i aV).bI.length:Int)<jo (nodeAt p (l.getD i aV).Node)
  .simp (disch:=omega)only[aS,fP k,bE,dU,dX]
  .simp (disch:=omega)only[aS,gu k]
 .rw[xz,Nat.min_eq_left o];simp(disch:=omega)only[aS]
 .rw[c];exact Ev.of_eq λn=>rfl
 .rw[c];exact Ev.of_eq λn=>rfl
def aoh(b:Bd p w){o:aE}(h:o.bI.length<=1000):Ev (λn=>F106 n (p,w,o,())) ((Dp p w.aY.length o,()),()):=by
 obtain⟨j,s,d,c⟩:=o;have i:∀{f:Bool},Ev (λn=>u5 n) ((f&&J,()),()):=λ{f}=>Ev.of_eq λn=>by rw[Cm];rfl
 unfold F106 Dp;simp only at h ⊢;by_cases g:s=0
 .subst g;rw[jB rfl,cH];unfold MD;simp only[aS];refine Ev.ai (ahT b c) ?_;simp only;cases h1:decide ((c.length:Int)<=40)&&c.all (NY p w.aY.length)with
  |false=>exact Ev.of_eq λn=>rfl
  |true=>
   simp only[aS,dQ];refine Ev.ai (MY b.fl b.wl (by decide) (by decide)) ?_;simp only;cases h2:decide ((d.length:Int)<=1)&&d.all (vB p w.aY.length)with
   |false=>exact Ev.of_eq λn=>rfl
   |true=>
    simp only[ec,jL]at h1 h2;simp(disch:=omega)only[aS,dQ,bE,cT];by_cases h3:0<c.length+d.length
    .rw[fP h3,dQ];simp(disch:=omega)only[aS];have e:OA (c.length:Int) (El 0 ((c.length:Int)-1+(d.length:Int)))=((c.length-(1-d.length):Nat):Int):=by
      simp only[OA,El,D.bO,Bool.cond_decide]
      repeat' split
      all_goals omega
     rw[e];exact Ev.ai (ahS b (by omega) (by omega) h1.2) (Ev.pure _)
    .rw[gu h3,fO];simp(disch:=omega)only[aS];exact Ev.of_eq λn=>rfl
 rw[jS g,dS];by_cases h1:s=1
 .subst h1;rw[jB rfl,cH];simp only[aS];by_cases a:c.length=0
  .rw[jB (show((c.length:Nat):Int)=0 by omega),dQ];simp only[aS];by_cases k:d.length=1
   .rw[jB (show((d.length:Nat):Int)=1 by omega),dQ];simp only[aS];refine Ev.ai (MY b.fl b.wl (by decide) (by decide)) (Ev.of_eq λn=>?_);rw[fP (show(d.length:Int)<=1 by omega),dQ]
   .rw[jS (show ¬((d.length:Nat):Int)=1 by omega)];exact Ev.of_eq λn=>rfl
  .rw[jS (show ¬((c.length:Nat):Int)=0 by omega)];exact Ev.of_eq λn=>rfl
 rw[jS h1,dS];refine Ev.of_eq λn=>?_;simp only[aS];cases D.aG s 2<;>cases D.aG s 3<;>cases D.aG s 4<;>cases D.aG (c.length:Int) 0<;>cases D.aG (d.length:Int) 0<;>rfl
def e67(b:Bd p w){o:aE}(f:o.bI.length<=1000)(d:o.Frames.length<=1000):Ev (λn=>F67 n (p,w,o,())) ((Q8 p w.aY.length o,()),()):=by
 have h:=b.cl;have i:=b.nl;obtain⟨c,s,e,a⟩:=o;unfold F67 Q8;simp only at f d ⊢;by_cases h6:c=6
 .subst h6;rw[jB rfl,cH];simp only[aS];exact Ev.ai (aoh b f) (Ev.pure _)
 rw[jS h6,dS];by_cases h5:c=5
 .subst h5;rw[jB rfl,cH];simp only[aS];cases D.aG s 0 with
  |false=>exact Ev.of_eq λn=>rfl
  |true=>
  cases D.aG (e.length:Int) 0 with
  |false=>exact Ev.of_eq λn=>rfl
  |true=>
  cases h3:D.bO 0 (a.length:Int)with
  |false=>exact Ev.of_eq λn=>rfl
  |true=>
  simp only[aS,dQ];refine Ev.ai (ahT b a) ?_;simp only;cases h1:decide ((a.length:Int)<=40)&&a.all (NY p w.aY.length)with
  |false=>exact Ev.of_eq λn=>rfl
  |true=>
  simp only[ec,jL]at h1;simp only[aS,dQ];refine Ev.ai (ahS b (bQ _) d h1.2) ?_;rw[Cn];simp only;cases h2:a.all (Q7 p)with
  |false=>exact Ev.of_eq λn=>rfl
  |true=>have h3:=vK.1 h3;have g:=zm.1 (eC.1 h1.2 _ (bX aV (show 0<a.length by omega)));have j:=g.lo;have k:=g.hi;simp(disch:=omega)only[aS,dQ];exact Ev.of_eq λn=>rfl
 rw[jS h5,dS];simp only[aS];cases D.aG (a.length:Int) 0 with
 |false=>exact Ev.of_eq λn=>rfl
 |true=>
 simp only[aS,dQ];by_cases h1:c=1
 .subst h1;rw[jB rfl,cH];simp(disch:=omega)only[aS,cT,JZ];cases h1:tL s 0 ((p.Cons.length:Int)-1)with
  |false=>exact Ev.of_eq λn=>rfl
  |true=>
  have l:=gz.1 h1;have m:=b.ok.cons _ (bX bx (show s.toNat<p.Cons.length by omega));simp(disch:=omega)only[aS,dQ];cases h2:D.aG (e.length:Int) (p.Cons.getD s.toNat bx).pG with
  |false=>exact Ev.of_eq λn=>rfl
  |true=>
  have h2:=qo.1 h2;simp only[aS,dQ];refine Ev.ai (MY b.fl b.wl (by decide) (by decide)) (Ev.of_eq λn=>?_);rw[fP (show(e.length:Int)<=3 by omega),dQ]
 rw[jS h1,dS];by_cases h2:c=2
 .subst h2;rw[jB rfl,cH];simp(disch:=omega)only[aS,cT,JZ];cases h1:tL s 0 ((p.aW.length:Int)-1)with
  |false=>exact Ev.of_eq λn=>rfl
  |true=>
  have l:=gz.1 h1;simp(disch:=omega)only[aS,dQ];rw[show p.aW.getD s.toNat aP=nodeAt p s from rfl];cases D.aG (nodeAt p s).Op 5 with
  |false=>exact Ev.of_eq λn=>rfl
  |true=>exact Ev.ai (MY b.fl b.wl (by decide) (by decide)) (Ev.pure _)
 rw[jS h2,dS];by_cases h3:c=3
 .subst h3;rw[jB rfl,cH];simp only[aS];cases D.aG s 0 with
  |false=>exact Ev.of_eq λn=>rfl
  |true=>
  cases h2:D.aG (e.length:Int) 1 with
  |false=>exact Ev.of_eq λn=>rfl
  |true=>
  have h2:=qo.1 h2;simp only[aS,dQ];refine Ev.ai (MY b.fl b.wl (by decide) (by decide)) (Ev.of_eq λn=>?_);rw[fP (show(e.length:Int)<=1 by omega),dQ]
 rw[jS h3,dS];by_cases h4:c=4
 .subst h4;rw[jB rfl,cH];simp only[aS];cases D.aG s 0 with
  |false=>exact Ev.of_eq λn=>rfl
  |true=>exact Ev.ai (MY b.fl b.wl (by decide) (by decide)) (Ev.pure _)
 rw[jS h4,dS];simp only[aS];exact Ev.of_eq λn=>rfl
end
end
section
def Ev.allI{β R B P X:Type}(len:Nat)(s:Nat->X)(q:Nat->Bool)(bad:Nat->LO X R B P){F:Nat->X->O (LO X R B P)}{g:Nat->LO X R B P->O β}{r:β}(c:∀i y,bad i≠.next y)
  (hs:∀i,i<len->(∀j,j<i->q j=W)->Ev (λn=>F n (s i)) (bif q i then .next (s (i+1))else bad i)) (d:∀n,F n (s len)=Z (.out 0 (s len)))
  (h1:(∀i,i<len->q i=W)->Ev (λn=>g n (.out 0 (s len))) r) (h2:∀i,i<len->q i=J->Ev (λn=>g n (bad i)) r):Ev (λn=>ai (iter (F n) n (s 0)) (g n)) r:=by
 rcases og len s q bad 0 c hs (λ_=>Ev.of_eq d)with⟨a,b⟩|⟨i,e,a,_,b⟩
 .exact Ev.aQ b g _ (h1 a)
 .exact Ev.aQ b g _ (h2 i e a)
def CI:∀{T S:L Int},T.Nodup->(∀x∈T,x∈S)->T.length<=S.length
 |[],_,_,_=>Cj _
 |t::T,S,a,h=>by have a:=HD.1 a;have h1:=CI (S:=S.erase t) a.2 (λx b=>(List.mem_erase_of_ne (λe=>a.1 (by rw[<-e];exact b))).2 (h x (gO _ b)));have h2:=List.length_erase_of_mem (h t eD);have h3:=List.length_pos_of_mem (h t eD);simp only[eV];omega
variable {l:List Int}{x:Int}
def Mg:l.Nodup↔∀i,i<l.length->(l.take i).contains (l.getD i 0)=J:=by
 rw[List.Nodup,SJ];constructor
 .intro h i b;cases c:(l.take i).contains (l.getD i 0)with|false=>rfl|true=>rw[Ok]at c;obtain⟨j,a,e⟩:=tF c;simp only[xz]at a;rw[List.getElem_take,jq,fN b,vY]at e;exact absurd e (h j i (by omega) b (by omega))
 .intro h i j b a f e;have:=h j a;rw[jq,fN a,vY,<-e]at this;have d:l[i]∈l.take j:=List.mem_take_iff_getElem.2 ⟨i,by omega,rfl⟩;rw[<-Ok,this]at d;cases d
section
variable {p:ax}{w:aa}
structure CB(w:aa):Prop where
 wm:w.aX.Nodup
 task:∀t∈w.aX,0<=t∧t<w.aY.length∧(cr w t).Form=6
 all:∀i:Nat,i<w.aY.length->(cr w i).Form=6->(i:Int)∈w.aX
def Dn(w:aa):L Int:=((List.range w.aY.length).filter λi:Nat=>D.aG (cr w i).Form 6).map λi:Nat=>(i:Int)
def y8:x∈Dn w↔0<=x∧x<w.aY.length∧(cr w x).Form=6:=by
 unfold Dn;simp only[tY,List.mem_filter,Lz,qo];constructor
 .rintro ⟨i,⟨h1,h2⟩,rfl⟩
  exact⟨by omega,by omega,h2⟩
 .rintro ⟨h1,h2,h3⟩
  obtain⟨i,rfl⟩:∃i:Nat,x=i:=⟨_,(Al h1).symm⟩;exact⟨i,⟨by omega,h3⟩,rfl⟩
def N4:(Dn w).Nodup:=by unfold Dn;exact List.Pairwise.map _ (λa b h e=>h (by omega)) ((List.nodup_range).filter _)
def UG:(Dn w).length=w.aY.countP λo=>D.aG o.Form 6:=by
 unfold Dn;rw[Aj,<-List.countP_eq_length_filter];have e:w.aY=(List.range w.aY.length).map λi:Nat=>cr w (i:Int):=by
  apply List.ext_getElem
  .simp
  .intro i h1 h2;simp[cr,fN h1]
 conv=>rhs;rw[e,List.countP_map]
 rfl
def CB.len(h:CB w):w.aX.length=(Dn w).length:=Nat.le_antisymm (CI h.wm λx a=>y8.2 (h.task x a)) (CI N4 λx a=>by
 obtain⟨h1,h2,h3⟩:=y8.1 a;obtain⟨i,rfl⟩:∃i:Nat,x=i:=⟨_,(Al h1).symm⟩;exact h.all i (by omega) h3)
def CB.acL(h1:w.aX.Nodup)(h2:∀t∈w.aX,0<=t∧t<w.aY.length∧(cr w t).Form=6)(h3:w.aX.length=(Dn w).length):CB w:=by
 refine⟨h1,h2,λi d b=>QU λc=>?_⟩;have:=CI (T:=(i:Int)::w.aX) (S:=Dn w) (HD.2 ⟨c,h1⟩) (λx a=>by
  rcases eU.1 a with rfl|a
  .exact y8.2 ⟨by omega,by omega,b⟩
  .exact y8.2 (h2 x a))
 simp only[eV]at this;omega
def CB.tl(h:CB w):w.aX.length<=w.aY.length:=by rw[h.len];unfold Dn;rw[Aj];exact fJ (List.length_filter_le _ _) (by simp)
def Sk(w:aa)(i:Nat):Bool:=tL (w.aX.getD i 0) 0 (w.aY.length-1)&&(D.aG (cr w (w.aX.getD i 0)).Form 6&&!(w.aX.take i).contains (w.aX.getD i 0))
def vu:(∀i,i<w.aX.length->Sk w i=W)↔w.aX.Nodup∧∀t∈w.aX,0<=t∧t<w.aY.length∧(cr w t).Form=6:=by
 rw[Mg];unfold Sk;simp only[ec,gz,qo,DK];constructor
 .intro h;exact⟨λi a=>(h i a).2.2,gY (d:=0) λi a=>⟨(h i a).1.1,by have:=(h i a).1.2;omega,(h i a).2.1⟩⟩
 .rintro ⟨h1,h2⟩ i a
  have:=h2 _ (bX 0 a);exact⟨⟨this.1,by omega⟩,this.2.2,h1 i a⟩
def aoi(hl:l.length<=1000):Ev (λn=>F105 n (l,x,())) ((l.contains x,()),()):=by
 unfold F105;refine Ev.all (l:=l) 0 (λa=>!(D.aG a x)) (λ_=>.ret () (W,())) (λ_ _ h=>by cases h) (λi d=>Ev.of_eq λn=>?_) (λn=>by simp(disch:=omega)only[aS]) (λb=>?_) (λi d b=>?_)
 .simp (disch:=omega)only[aS];cases D.aG (l.getD i 0) x<;>simp(disch:=omega)only[aS,bE,dU,dX,Ai,yR]
 .rw[show l.contains x=J from ?_]
  .exact Ev.of_eq λn=>rfl
  .cases c:l.contains x with|false=>rfl|true=>have:=eC.1 b x (Ok.1 c);rw[jB rfl]at this;cases this
 .rw[show l.contains x=W from ?_]
  .exact Ev.of_eq λn=>rfl
  .rw[List.all_eq_false]at b;obtain⟨a,e,h⟩:=b;rw[Ok];have:D.aG a x=W:=by cases c:D.aG a x with|true=>rfl|false=>rw[c]at h;exact absurd rfl h
   rw[<-qo.1 this];exact e
def e66(q:w.aY.length<=1000)(r:w.aX.length<=1000):∃b,Ev (λn=>F66 n (w,())) ((b,()),())∧(b=W↔CB w):=by
 have a:∀i,i<w.aY.length->(w.aY.take (i+1)).countP (λo=>D.aG o.Form 6)=(w.aY.take i).countP (λo=>D.aG o.Form 6)+(bif D.aG (w.aY.getD i aU).Form 6 then 1 else 0):=by intro i d;rw[QZ d,List.countP_append,List.countP_singleton];rw[jq,fN d,vY,Bool.cond_eq_ite]
 have run:=jy (F:=λn(c:Int×Int×U)=>aj (D.bO c.2.1 (ak w.aY)) (aD (av c.2.1 w.aY) (aj (D.aG (aR w.aY (ah c.2.1) aU).Form 6) (Z (LO.next (R:=Bool×U) (B:=U) (P:=Any) (D.add .i64 c.1 1,D.add .i64 c.2.1 1,()))) (Z (LO.next (c.1,D.add .i64 c.2.1 1,()))))) (Z (LO.out 0 c)))
  w.aY.length (λi=>((((w.aY.take i).countP λo=>D.aG o.Form 6:Nat):Int),(i:Int),())) 0 (λi d=>Ev.of_eq λn=>by
   have h1:=List.countP_le_length (p:=λo:aE=>D.aG o.Form 6) (l:=w.aY.take i);rw[xz]at h1;simp only[a i d];cases m:D.aG (w.aY.getD i aU).Form 6<;>simp(disch:=omega)only[aS,m,bE,dU,dX,QK,Int.add_zero,wJ]) (Ev.of_eq λn=>by simp(disch:=omega)only[aS])
 simp only[List.take_zero,List.countP_nil,Cn,<-UG]at run;by_cases g:w.aX.length=(Dn w).length
 .have f:∀{b:Bool},(b=W↔∀i,i<w.aX.length->Sk w i=W)->(b=W↔CB w):=λ{b}h=>h.trans ⟨λh=>CB.acL (vu.1 h).1 (vu.1 h).2 g,λh=>vu.2 ⟨h.wm,h.task⟩⟩;have step:∀b:Bool,((∀i,i<w.aX.length->Sk w i=W)->b=W)->((∃i,i<w.aX.length∧Sk w i=J)->b=J)->Ev (λn=>F66 n (w,())) ((b,()),()):=by
   intro b j k;unfold F66;refine Ev.aQ run (λn c=>_) _ (Ev.congr (λn=>dY ..) ?_);rw[<-g];simp only[aS];refine Ev.allI w.aX.length (λi=>((i:Int),())) (Sk w) (λ_=>.ret () (J,())) (λ_ _ h=>by cases h) (λi d _=>?_) (λn=>by simp(disch:=omega)only[aS]) (λe=>?_) (λi d e=>?_)
   .unfold Sk NL;simp(disch:=omega)only[aS,JZ,cT];cases h1:tL (w.aX.getD i 0) 0 ((w.aY.length:Int)-1)with
    |false=>simp only[aS,fO];exact Ev.pure _
    |true=>
     have s:=gz.1 h1;simp(disch:=omega)only[aS,dQ];rw[show w.aY.getD (w.aX.getD i 0).toNat aU=cr w (w.aX.getD i 0)from rfl];cases D.aG (cr w (w.aX.getD i 0)).Form 6 with|false=>simp only[aS,fO];exact Ev.pure _|true=>simp only[aS,dQ,mF];refine Ev.ai (aoi (by rw[xz];omega)) (Ev.of_eq λn=>?_);cases(w.aX.take i).contains (w.aX.getD i 0)<;>simp(disch:=omega)only[aS,bE,dU,dX,Ai,yR]
   .rw[j e];exact Ev.of_eq λn=>rfl
   .rw[k ⟨i,d,e⟩];exact Ev.of_eq λn=>rfl
  by_cases e:∀i,i<w.aX.length->Sk w i=W
  .exact ⟨W,step W (λ_=>rfl) (λ⟨i,d,h⟩=>by rw[e i d]at h;cases h),f ⟨λ_=>e,λ_=>rfl⟩⟩
  .exact ⟨J,step J (λh=>absurd h e) (λ_=>rfl),f ⟨(λh=>by cases h),λh=>absurd h e⟩⟩
 .unfold F66;refine⟨J,Ev.aQ run (λn c=>_) _ (Ev.of_eq λn=>?_),(λh=>by cases h),λh=>absurd h.len g⟩;rw[dY];simp(disch:=omega)only[aS]
end
end
section
section
variable {p:ax}{w:aa}
structure jH(w:aa):Prop where
 acM:w.aY.length<=130
 tasks:w.aX.length<=130
 outs:w.fe.length<=110
 ins:w.kM.length<=60
 parts:∀o∈w.aY,o.bI.length<=40∧o.Frames.length<=50∧∀f∈o.Frames,f.Env.length<=40∧f.bI.length<=40
def WE(f:au):Bool:=decide ((f.Env.length:Int)<=40)&&decide ((f.bI.length:Int)<=40)
def Vz(o:aE):Bool:=decide ((o.bI.length:Int)<=40)&&(decide ((o.Frames.length:Int)<=50)&&o.Frames.all WE)
theorem e65(n:Nat)(l:L aq):F65 n (l,())=Z ((decide ((l.length:Int)<=40),()),()):=rfl
def e35(w:aa):∃b,Ev (λn=>F35 n (w,())) ((b,()),())∧(b=W↔jH w):=by
 have no:¬jH w->(J=W↔jH w):=λh=>⟨(λh=>by cases h),λe=>absurd e h⟩;by_cases h1:130<w.aY.length
 .exact ⟨J,Ev.of_eq λn=>by unfold F35;simp(disch:=omega)only[aS],no λh=>by have:=h.acM;omega⟩
 by_cases h2:130<w.aX.length
 .exact ⟨J,Ev.of_eq λn=>by unfold F35;simp(disch:=omega)only[aS],no λh=>by have:=h.tasks;omega⟩
 by_cases h3:110<w.fe.length
 .exact ⟨J,Ev.of_eq λn=>by unfold F35;simp(disch:=omega)only[aS],no λh=>by have:=h.outs;omega⟩
 by_cases h4:60<w.kM.length
 .exact ⟨J,Ev.of_eq λn=>by unfold F35;simp(disch:=omega)only[aS],no λh=>by have:=h.ins;omega⟩
 refine⟨w.aY.all Vz,?_,λh=>⟨by omega,by omega,by omega,by omega,λo d=>?_⟩,λh=>eC.2 λo d=>?_⟩
 .unfold F35;simp(disch:=omega)only[aS];refine Ev.all (l:=w.aY) aU Vz (λ_=>.ret () (J,())) (λ_ _ h=>by cases h) (λi g=>?_) (λn=>by simp(disch:=omega)only[aS]) (λa=>?_) (λi g a=>?_)
  .generalize k:w.aY.getD i aU=o;unfold Vz;simp(disch:=omega)only[aS,k,e65];cases decide ((o.bI.length:Int)<=40)with
   |false=>simp only[aS,fO];exact Ev.pure _
   |true=>
   by_cases h5:50<o.Frames.length
   .rw[gu (show ¬(o.Frames.length:Int)<=50 by omega)];simp(disch:=omega)only[aS,fO,Cm];exact Ev.pure _
   .rw[fP (show(o.Frames.length:Int)<=50 by omega)];simp(disch:=omega)only[aS,dQ];refine Ev.all (l:=o.Frames) aV WE (λ_=>.ret () (J,())) (λ_ _ h=>by cases h) (λj m=>Ev.of_eq λn=>?_) (λn=>by simp(disch:=omega)only[aS]) (λa=>?_) (λj m a=>?_)
    .unfold WE;simp(disch:=omega)only[aS,e65];cases decide (((o.Frames.getD j aV).Env.length:Int)<=40)<;>cases decide (((o.Frames.getD j aV).bI.length:Int)<=40)<;>simp(disch:=omega)only[aS,bE,dU,dX,dQ,fO]
    .rw[a,dY];exact Ev.of_eq λn=>by simp(disch:=omega)only[aS,bE,dU,dX]
    .rw[a];exact Ev.of_eq λn=>rfl
  .rw[a];exact Ev.of_eq λn=>rfl
  .rw[a];exact Ev.of_eq λn=>rfl
 .have:=eC.1 h o d;simp only[Vz,WE,ec,jL,eC]at this;exact⟨by omega,by omega,λf c=>⟨by have:=(this.2.2 f c).1;omega,by have:=(this.2.2 f c).2;omega⟩⟩
 .have:=h.parts o d;simp only[Vz,WE,ec,jL,eC];exact⟨by omega,by omega,λf c=>⟨by have:=(this.2.2 f c).1;omega,by have:=(this.2.2 f c).2;omega⟩⟩
def e20(p:ax)(w:aa):∃b,Ev (λn=>F20 n (p,w,())) ((b,()),())∧(b=W->Small p∧jH w):=by
 obtain⟨a,h1,c⟩:=e12 p;obtain⟨d,h2,e⟩:=e35 w;refine⟨a&&d,?_,λh=>?_⟩
 .unfold F20;refine Ev.ai h1 ?_;cases a with
  |false=>exact Ev.of_eq λn=>rfl
  |true=>exact Ev.ai h2 (Ev.pure _)
 .simp only[ec]at h;exact⟨c h.1,e.1 h.2⟩
def Ec(o:cS):Bool:=tL o.Port 0 3&&tL o.N (-1000000000) 1000000000
def EG{l:L Int}:Ax l=W↔l.length<=50∧∀i∈l,gN i=W:=by unfold Ax;simp only[ec,jL,eC]
def Mb{o:cS}:Ec o=W↔0<=o.Port∧o.Port<=3∧gN o.N=W:=by unfold Ec gN;simp only[ec,gz,jL,and_assoc]
def RK:fD p w↔w.aY.length<=120∧(∀o∈w.aY,gE p w.aY.length o)∧CB w∧w.fe.length<=100∧(∀o∈w.fe,Ec o=W)∧Ax w.kM=W∧tL w.Used 0 1000000000=W:=by
 constructor
 .intro h;exact⟨h.len,h.obs,⟨h.wm,h.task,h.all⟩,h.outs,λo i=>Mb.2 (h.out o i),EG.2 ⟨h.ins,h.inn⟩,gz.2 h.used⟩
 .rintro ⟨a,b,c,d,e,f,g⟩
  exact⟨a,b,d,λo i=>Mb.1 (e o i),(EG.1 f).1,(EG.1 f).2,gz.1 g,c.wm,c.tl,c.task,c.all⟩
def e36(z:lY p)(hs:Small p)(o:jH w):∃b,Ev (λn=>F36 n (p,w,())) ((b,()),())∧(b=W↔fD p w):=by
 have F:=o.acM;have G:=o.outs;have A:Bd p w:=⟨z,by have:=hs.cons;omega,by omega⟩;have bad:∀{q:Prop},¬q->(J=W↔q):=λh=>⟨(λh=>by cases h),λB=>absurd B h⟩;obtain⟨C,t,u⟩:=e66 (w:=w) (by omega) (by have:=o.tasks;omega);rw[RK];by_cases h1:120<w.aY.length
 .exact ⟨J,Ev.of_eq λn=>by unfold F36;simp(disch:=omega)only[aS]<;>rfl,bad λh=>by omega⟩
 by_cases h2:100<w.fe.length
 .exact ⟨J,Ev.of_eq λn=>by unfold F36;simp(disch:=omega)only[aS]<;>rfl,bad λh=>by omega⟩
 have start:∀{r:(Bool×U)×U},Ev (λn=>ai (F16 n (w.kM,50,())) λc=>aj (D.aK c.1.1) (w8 n) (ai (F55 n (w.Used,0,1000000000,())) λd=>aj (D.aK d.1.1) (w8 n) (ai (F66 n (w,())) λe=>aj (D.aK e.1.1) (w8 n) (ai (iter (λg:Int×U=>aj (D.bO g.1 (ak w.aY)) (aD (av g.1 w.aY) (ai (F67 n (p,w,aR w.aY (ah g.1) aU,())) λh=>aj (D.aK h.1.1) (Z (LO.ret () (J,()))) (Z (LO.next (D.add .i64 g.1 1,()))))) (Z (LO.out 0 g))) n (0,())) λg=>LO.el g (λ_ _=>ai (iter (λj:Int×U=>aj (D.bO j.1 (ak w.fe)) (aD (av j.1 w.fe) (ai (F55 n ((aR w.fe (ah j.1) gF).1,0,3,())) λk=>aj (D.aK k.1.1) (Z (LO.ret () (J,()))) (aD (av j.1 w.fe) (ai (F55 n ((aR w.fe (ah j.1) gF).2,(-1000000000),1000000000,())) λl=>aj (D.aK l.1.1) (Z (LO.ret () (J,()))) (Z (LO.next (D.add .i64 j.1 1,()))))))) (Z (LO.out 0 j))) n (0,())) λj=>LO.el j (λ_ _=>Z ((W,()),())) (λ_ l=>Z (l,())) λ_(_:Any)=>Y) (λ_ i=>Z (i,())) λ_(_:Any)=>Y)))) r->Ev (λn=>F36 n (p,w,())) r:=λh=>Ev.congr (λn=>by unfold F36;simp(disch:=omega)only[aS]<;>rfl) h;cases v:Ax w.kM with
 |false=>exact⟨J,start (Ev.ai (e16 o.ins) (Ev.of_eq λn=>by rw[v];rfl)),bad λh=>by have:=h.2.2.2.2.2.1;cases this⟩
 |true=>
 cases x:tL w.Used 0 1000000000 with
 |false=>exact⟨J,start (Ev.ai (e16 o.ins) (Ev.of_eq λn=>by rw[v];simp only[aS,JZ,x]<;>rfl)),bad λh=>by have:=h.2.2.2.2.2.2;cases this⟩
 |true=>
 have m:∀{f:Nat->O ((Bool×U)×U)}{r:(Bool×U)×U},Ev f r->Ev (λn=>aj (D.aK (Ax w.kM)) (w8 n) (ai (F55 n (w.Used,0,1000000000,())) λd=>aj (D.aK d.1.1) (w8 n) (f n))) r:=λ{f r}h=>by simp only[aS,v,JZ,x];exact h
 cases C with
 |false=>exact⟨J,start (Ev.ai (e16 o.ins) (m (Ev.ai t (Ev.of_eq λn=>rfl)))),bad λh=>by have:=u.2 h.2.2.1;cases this⟩
 |true=>
 refine⟨w.aY.all (Q8 p w.aY.length)&&w.fe.all Ec,start (Ev.ai (e16 o.ins) (m (Ev.ai t ?_))),?_⟩
 .show Ev (λn=>ai (iter _ n (0,())) _) _;refine Ev.Ns (l:=w.aY) aU (Q8 p w.aY.length) (λn a=>F67 n (p,w,a,())) (λ_=>.ret () (J,())) (λn c=>by rfl) (by omega) (λ_ _ h=>by cases h) (λa y=>e67 A (by have:=(o.parts a y).1;omega) (by have:=(o.parts a y).2.1;omega)) (λs=>?_) (λs i=>?_)
  .rw[s,dQ];refine Ev.congr (λn=>dY ..) ?_;refine Ev.all (l:=w.fe) gF Ec (λ_=>.ret () (J,())) (λ_ _ h=>by cases h) (λj E=>Ev.of_eq λn=>?_) (λn=>by simp(disch:=omega)only[aS]) (λs=>?_) (λj E s=>?_)
   .unfold Ec;simp(disch:=omega)only[aS,JZ];cases tL (w.fe.getD j gF).Port 0 3<;>cases tL (w.fe.getD j gF).N (-1000000000) 1000000000<;>simp(disch:=omega)only[aS,bE,dU,dX,dQ,fO]
   .rw[s];exact Ev.of_eq λn=>rfl
   .rw[s];exact Ev.of_eq λn=>rfl
  .rw[s];exact Ev.of_eq λn=>rfl
 .simp only[ec,eC,CQ];exact⟨λ⟨a,b⟩=>⟨by omega,a,u.1 rfl,by omega,b,trivial,trivial⟩,λ⟨_,a,_,_,b,_⟩=>⟨a,b⟩⟩
def e22(hs:Small p)(e:jH w):∃b,Ev (λn=>F22 n (p,w,())) ((b,()),())∧(b=W↔FP p∧fD p w):=by obtain⟨f,h1,a⟩:=e15 hs;cases f with|false=>exact⟨J,by unfold F22;exact Ev.ai h1 (Ev.of_eq λn=>rfl),(λh=>by cases h),λh=>by have:=a.2 h.1;cases this⟩|true=>have c:=a.1 rfl;obtain⟨g,h2,d⟩:=e36 c.ok hs e;exact⟨g,by unfold F22;exact Ev.ai h1 (Ev.ai h2 (Ev.pure _)),λh=>⟨c,d.1 h⟩,λh=>d.2 h.2⟩
end
end
section
section
variable {p:ax}{w:aa}
def xp{X R B P:Type}{b:B}{r:X->R}:∀(c y:X),(LO.ret b (r c):LO X R B P)≠.next y:=λ_ _ h=>by cases h
def S1(i:Nat):D.aK (D.ep 0 (i:Int))=J:=by rw[Zw (by omega)];rfl
def anV(b:Bd p w){f:au}(hl:f.Env.length<=1000)(g:f.bI.length<=1000):Ev (λn=>F266 n (⟨p,w⟩,f,())) ((NY p w.aY.length f,()),()):=by
 have h:=b.nl;unfold F266 NY;simp(disch:=omega)only[aS,Pd,cT];cases h1:tL f.Node 0 ((p.aW.length:Int)-1)with
 |false=>exact Ev.of_eq λn=>rfl
 |true=>
 have e:=gz.1 h1;have d:=b.ok.nd e.1 (show f.Node<p.aW.length by omega);simp(disch:=omega)only[aS,dQ];by_cases h2:f.Env.length<=30
 .rw[fP (show(f.Env.length:Int)<=30 by omega)];simp(disch:=omega)only[aS,dQ,show p.aW.getD f.Node.toNat aP=nodeAt p f.Node from rfl,aau _ d.lo d.hi];by_cases h3:(f.bI.length:Int)<=jo (nodeAt p f.Node)
  .rw[fP h3,dQ];refine Ev.congr (λn=>qg h3 _ _) ?_;refine Ev.Ns (l:=f.Env) az (vB p w.aY.length) (λn v=>F211 n (⟨p,w⟩,v,())) (λc=>.ret () c) (λn c=>rfl) (by omega) xp (λv _=>Ev.of_eq λn=>ad4 n b.fl b.wl v) (λa=>?_) (λa i=>?_)
   .rw[a,dQ];refine Ev.Ns (l:=f.bI) az (vB p w.aY.length) (λn v=>F211 n (⟨p,w⟩,v,())) (λc=>.ret () c) (λn c=>rfl) (by omega) xp (λv _=>Ev.of_eq λn=>ad4 n b.fl b.wl v) (λa=>?_) (λa i=>?_)
    .rw[a];exact Ev.of_eq λn=>rfl
    .rw[a];exact Ev.of_eq λn=>by rw[o3,S1]
   .rw[a];exact Ev.of_eq λn=>(qg (Int.natCast_nonneg i) _ _).trans rfl
  .rw[gu h3];simp only[fO,Cm];exact Ev.congr (λn=>CL (by omega) _ _) (Ev.of_eq λn=>rfl)
 .rw[gu (show ¬(f.Env.length:Int)<=30 by omega)];simp(disch:=omega)only[aS,fO];exact Ev.of_eq λn=>rfl
def ahO(b:Bd p w){l:L au}{m:Nat}(q:m<=1)(hl:l.length<=1000)(hf:∀f∈l,f.Env.length<=1000∧f.bI.length<=1000) :
  Ev (λn=>F212 n (⟨p,w⟩,l,(m:Int),())) (((decide ((l.length:Int)<=40)&&l.all (NY p w.aY.length))&&(l.take (l.length-m)).all (Q7 p),()),()):=by
 unfold F212;by_cases h1:l.length<=40
 .rw[fP (show(l.length:Int)<=40 by omega)];simp(disch:=omega)only[aS,dQ];refine Ev.Ns (l:=l) aV (NY p w.aY.length) (λn v=>F266 n (⟨p,w⟩,v,())) (λc=>.ret () c) (λn c=>rfl) (by omega) xp (λv g=>anV b (hf v g).1 (hf v g).2) (λa=>?_) (λa i=>?_)
  .rw[a,dQ];have e:El 0 (D.dH .i64 (ak l) (m:Int))=((l.length-m:Nat):Int):=by
    rw[vI,cT (by omega) (by omega)];simp only[El,D.bO,Bool.cond_decide]
    repeat' split
    all_goals omega
   have o:FX ((⟨p,w⟩:cq),l,(m:Int),())=l.take (l.length-m):=by unfold FX;simp only[e,mF];rfl
   show Ev (λn=>Ky n (⟨p,w⟩,l,(m:Int),())) _;unfold Ky;rw[o,e];simp(disch:=omega)only[aS];refine Ev.Ns (l:=l.take (l.length-m)) aV (Q7 p) (λn v=>F267 n (⟨p,w⟩,v,())) (λc=>.ret () c) (λn c=>by rfl) (by rw[xz];omega) xp (λv g=>Ev.of_eq λn=>?_) (λa=>?_) (λa i=>?_)
   .have k:=zm.1 (eC.1 a v (QS g));have h:=k.lo;have j:=k.hi;have d:=b.ok.nd h j;unfold F267 Q7;simp(disch:=omega)only[aS,show p.aW.getD v.Node.toNat aP=nodeAt p v.Node from rfl,aau _ d.lo d.hi];rfl
   .rw[a];exact Ev.of_eq λn=>rfl
   .rw[a];exact Ev.of_eq λn=>by rw[o3,S1]
  .rw[a];exact Ev.of_eq λn=>(qg (Int.natCast_nonneg i) _ _).trans rfl
 .rw[gu (show ¬(l.length:Int)<=40 by omega)];simp(disch:=omega)only[aS,fO];exact Ev.of_eq λn=>rfl
def aeO(o:aE):Prop:=o.bI.length<=1000∧o.Frames.length<=1000∧∀f∈o.Frames,f.Env.length<=1000∧f.bI.length<=1000
variable {o:aE}
def anX(b:Bd p w)(hs:aeO o)(d:o.bI.all (vB p w.aY.length)=W):Ev (λn=>F213 n (⟨p,w⟩,o,())) ((Dp p w.aY.length o,()),()):=by
 obtain⟨h,s,a,c⟩:=o;obtain⟨i,e,f⟩:=hs;unfold F213 Dp;simp only at d i e f ⊢;by_cases g:s=0
 .subst g;rw[jB rfl,cH];unfold MD;simp only[d,rU];simp only[aS];by_cases h1:1<a.length
  .rw[gu (show ¬(a.length:Int)<=1 by omega)];simp(disch:=omega)only[aS,Cm,fO];exact Ev.of_eq λn=>rfl
  rw[fP (show(a.length:Int)<=1 by omega),rU];simp(disch:=omega)only[aS];have go:Ev (λn=>Kx n (⟨p,w⟩,⟨h,0,a,c⟩,())) (((decide ((c.length:Int)<=40)&&c.all (NY p w.aY.length))&&(c.take (c.length-(1-a.length))).all (Q7 p),()),()):=by unfold Kx;simp(disch:=omega)only[aS,cT];rw[show(1:Int)-(a.length:Int)=((1-a.length:Nat):Int)by omega];exact Ev.ai (ahO b (by omega) e f) (Ev.pure _)
  by_cases h2:0<c.length+a.length
  .rw[fP h2,dQ];by_cases h3:c.length=0
   .have h4:¬a.length=0:=by omega
    simp(disch:=omega)only[aS];exact go
   .simp (disch:=omega)only[aS];exact go
  .rw[gu h2,fO,Cm];have h3:c.length=0:=by omega
   have h4:a.length=0:=by omega
   simp(disch:=omega)only[aS];exact Ev.of_eq λn=>rfl
 rw[jS g,dS];by_cases h1:s=1
 .subst h1;rw[jB rfl,cH,d,rU];simp only[aS];refine Ev.of_eq λn=>?_;cases D.aG (c.length:Int) 0<;>cases D.aG (a.length:Int) 1<;>rfl
 rw[jS h1,dS];refine Ev.of_eq λn=>?_;simp only[aS];cases D.aG s 2<;>cases D.aG s 3<;>cases D.aG s 4<;>cases D.aG (c.length:Int) 0<;>cases D.aG (a.length:Int) 0<;>rfl
def an4(b:Bd p w)(hs:aeO o):Ev (λn=>F163 n (⟨p,w⟩,o,())) ((Q8 p w.aY.length o,()),()):=by
 have j:=b.cl;have k:=b.nl;unfold F163;refine Ev.Ns (l:=o.bI) az (vB p w.aY.length) (λn v=>F211 n (⟨p,w⟩,v,())) (λc=>.ret () c) (λn c=>rfl) (by have:=hs.1;omega) xp (λv _=>Ev.of_eq λn=>ad4 n b.fl b.wl v) (λd=>?_) (λd i=>?_);rotate_left
 .rw[show Q8 p w.aY.length o=J from ?_]
  .refine Ev.of_eq λn=>?_;rw[o3,S1];rfl
  .cases q:Q8 p w.aY.length o with|false=>rfl|true=>rw[lu.2 (CQ.1 q).vals]at d;cases d
 show Ev (λn=>Kz n (⟨p,w⟩,o,())) _;have r:=anX b hs d;obtain⟨e,s,t,a⟩:=o;obtain⟨u,f,g⟩:=hs;unfold Kz Q8;simp only at d u f g ⊢;by_cases h6:e=6
 .subst h6;rw[jB rfl,cH];simp(disch:=omega)only[aS];exact Ev.ai r (Ev.pure _)
 rw[jS h6,dS];by_cases h5:e=5
 .subst h5;rw[jB rfl,cH];simp(disch:=omega)only[aS];cases D.aG s 0 with
  |false=>exact Ev.of_eq λn=>rfl
  |true=>
  cases D.aG (t.length:Int) 0 with
  |false=>exact Ev.of_eq λn=>rfl
  |true=>
  cases h3:D.bO 0 (a.length:Int)with
  |false=>exact Ev.of_eq λn=>rfl
  |true=>
  simp only[aS,dQ];refine Ev.ai (ahO (m:=0) b (by omega) f g) ?_;rw[Nat.sub_zero,Cn];cases h1:decide ((a.length:Int)<=40)&&a.all (NY p w.aY.length)with
  |false=>exact Ev.of_eq λn=>rfl
  |true=>
  cases h2:a.all (Q7 p)with
  |false=>exact Ev.of_eq λn=>rfl
  |true=>have h3:=vK.1 h3;simp only[ec,jL]at h1;have h:=zm.1 (eC.1 h1.2 _ (bX aV (show 0<a.length by omega)));have x:=h.lo;have y:=h.hi;simp(disch:=omega)only[aS,dQ];exact Ev.of_eq λn=>rfl
 rw[jS h5,dS];refine Ev.of_eq λn=>?_;simp only[aS,d,rU];by_cases h1:e=1
 .subst h1;rw[jB rfl,cH];simp(disch:=omega)only[aS,cT,Pd];cases D.aG (a.length:Int) 0 with
  |false=>rfl
  |true=>
  cases h1:tL s 0 ((p.Cons.length:Int)-1)with
  |false=>rfl
  |true=>
  have z:=gz.1 h1;simp(disch:=omega)only[aS,dQ]
 rw[jS h1,dS];by_cases h2:e=2
 .subst h2;rw[jB rfl,cH];simp(disch:=omega)only[aS,cT,Pd];cases D.aG (a.length:Int) 0 with
  |false=>rfl
  |true=>
  cases h1:tL s 0 ((p.aW.length:Int)-1)with
  |false=>rfl
  |true=>
  have z:=gz.1 h1;simp(disch:=omega)only[aS,dQ];rw[show p.aW.getD s.toNat aP=nodeAt p s from rfl];cases D.aG (nodeAt p s).Op 5<;>rfl
 rw[jS h2,dS];by_cases h3:e=3
 .subst h3;rw[jB rfl,cH];simp only[aS];cases D.aG (a.length:Int) 0<;>cases D.aG s 0<;>rfl
 rw[jS h3,dS];by_cases h4:e=4
 .subst h4;rw[jB rfl,cH];simp only[aS];cases D.aG (a.length:Int) 0<;>cases D.aG s 0<;>rfl
 rw[jS h4,dS];simp only[aS];cases D.aG (a.length:Int) 0<;>rfl
end
end
section
section
variable {p:ax}{w:aa}
abbrev VR(x:Int)(l:L (Int×Bool)):Bool:=Gl (A:=sg.A) (Ty.int .i64) J x l
abbrev Wb(x:Int)(l:L (Int×Bool)):L (Int×Bool):=nu (A:=sg.A) (Ty.int .i64) x W l
def VQ(x k:Int):∀l:L (Int×Bool),VR x (Wb k l)=(D.aG x k||VR x l)
 |[]=>by show(bif D.aG x k then W else J)=(D.aG x k||J);cases D.aG x k<;>rfl
 |q::l=>by
  have a:=VQ x k l;show VR x (bif D.aG k q.1 then(k,W)::l else q::Wb k l)=(D.aG x k||(bif D.aG x q.1 then q.2 else VR x l));cases h1:D.aG k q.1 with
  |true=>have h1:=qo.1 h1;show(bif D.aG x k then W else VR x l)=_;rw[<-h1];cases D.aG x k<;>rfl
  |false=>
   show(bif D.aG x q.1 then q.2 else VR x (Wb k l))=_;rw[a];cases h2:D.aG x q.1 with|false=>rfl|true=>rw[qo.1 h2,show D.aG q.1 k=J from jS λe=>by rw[e,jB rfl]at h1;cases h1];rfl
def met(w:aa):Nat->L (Int×Bool)
 |0=>[]
 |i+1=>Wb (w.aX.getD i 0) (met w i)
def JD(x:Int):∀i,i<=w.aX.length->VR x (met w i)=(w.aX.take i).contains x
 |0,_=>rfl
 |i+1,h=>by show VR x (Wb (w.aX.getD i 0) (met w i))=_;rw[VQ,JD x i (by omega),QZ (by omega),jq,fN (by omega),vY];rw[Bool.eq_iff_iff];simp only[j0,qo,Ok,ef,lg];exact or_comm
def qX(n:Nat):L Int:=(List.range n).map λi:Nat=>(i:Int)
def y4(n:Nat):(qX n).length=n:=by simp[qX]
def HT(n:Nat):qX (n+1)=qX n++[(n:Int)]:=by simp[qX,List.range_succ]
def Mf{n i:Nat}(h:i<n):(qX n).getD i 0=(i:Int):=by simp[qX,jq,gM,Oj h]
def an3(v:w.aY.length<=1000)(y:w.aX.length<=1000):∃b,Ev (λn=>F164 n (⟨p,w⟩,())) ((b,()),())∧(b=W↔CB w):=by
 let f:Int->Bool:=λx=>VR x (met w w.aX.length)||!(D.aG (cr w x).Form 6)
 have key:∀b:Bool,((∀i,i<w.aX.length->Sk w i=W)->b=(qX w.aY.length).all f)->((∃i,i<w.aX.length∧Sk w i=J)->b=J)->Ev (λn=>F164 n (⟨p,w⟩,())) ((b,()),()):=by
  intro b m o;unfold F164;refine Ev.allI w.aX.length (λi=>((i:Int),met w i,())) (Sk w) (λi=>.ret (met w i,()) (J,())) (λ_ _ h=>by cases h) (λi d _=>Ev.of_eq λn=>?_) (λn=>by simp(disch:=omega)only[aS]) (λa=>?_) (λi d a=>?_)
  .unfold Sk Bg;simp(disch:=omega)only[aS,Pd,cT];cases h1:tL (w.aX.getD i 0) 0 ((w.aY.length:Int)-1)with
   |false=>simp only[aS,fO]
   |true=>
    have z:=gz.1 h1;simp(disch:=omega)only[aS,dQ];rw[show w.aY.getD (w.aX.getD i 0).toNat aU=cr w (w.aX.getD i 0)from rfl];cases D.aG (cr w (w.aX.getD i 0)).Form 6 with|false=>simp only[aS,fO]|true=>rw[show Gl (A:=sg.A) (Ty.int .i64) J (w.aX.getD i 0) (met w i)=_ from JD _ i (by omega)];cases(w.aX.take i).contains (w.aX.getD i 0)<;>simp(disch:=omega)only[aS,bE,dU,dX,Ai,yR,dQ];rfl
  .rw[m a];refine Ev.congr (λn=>dY ..) ?_;refine Ev.aQ (jy w.aY.length (λi=>((i:Int),(qX i,()),())) 0 (λi d=>Ev.of_eq λn=>?_) (Ev.of_eq λn=>?_)) (λn c=>_) _ ?_
   .have q:=y4 i;simp(disch:=first|omega|simp only[lq];omega)only[aS,bE,dU,dX,HT]
   .simp (disch:=omega)only[aS]
   .refine Ev.congr (λn=>dY ..) ?_;refine Ev.all (l:=qX w.aY.length) 0 f (λj=>.ret () ((j:Int),())) (λ_ _ h=>by cases h) (λj k=>Ev.of_eq λn=>?_) (λn=>by simp(disch:=omega)only[aS]) (λa=>?_) (λj k a=>?_)
    .have q:=y4 w.aY.length;rw[q]at k;rw[Mf k];show _=Z (bif VR (j:Int) (met w w.aX.length)||!(D.aG (cr w (j:Int)).Form 6)then _ else _);have r:aR (qX w.aY.length) (ah (j:Int)) 0=(j:Int):=Mf k;have s:aR w.aY (ah (j:Int)) aU=cr w (j:Int):=rfl;unfold FY;simp only[r,s];cases e:VR (j:Int) (met w w.aX.length)with|true=>have e:Gl (A:=sg.A) (Ty.int .i64) J (j:Int) (met w w.aX.length)=W:=e;simp(disch:=omega)only[aS,e,bE,dU,dX,Bool.true_or]|false=>have e:Gl (A:=sg.A) (Ty.int .i64) J (j:Int) (met w w.aX.length)=J:=e;cases t:D.aG (cr w (j:Int)).Form 6<;>simp(disch:=omega)only[aS,e,t,bE,dU,dX,HA,Ai,yR]
    .rw[a];exact Ev.of_eq λn=>rfl
    .rw[a];exact Ev.of_eq λn=>by show Z ((D.aK (D.ep 0 (j:Int)),()),())=_;rw[S1]
  .rw[o ⟨i,d,a⟩];exact Ev.of_eq λn=>rfl
 have g:(qX w.aY.length).all f=W↔∀i:Nat,i<w.aY.length->(cr w i).Form=6->(i:Int)∈w.aX:=by
  simp only[eC,qX,tY,Lz];constructor
  .intro h i d u;have:=h i ⟨i,d,rfl⟩;simp only[f,JD _ _ (bQ _),Cn,jB u,Ai,Bool.or_false,Ok]at this;exact this
  .rintro h x ⟨i,d,rfl⟩
   simp only[f,JD _ _ (bQ _),Cn,j0,Ok];cases e:D.aG (cr w (i:Int)).Form 6 with|false=>exact .inr rfl|true=>exact .inl (h i d (qo.1 e))
 by_cases a:∀i,i<w.aX.length->Sk w i=W
 .refine ⟨_,key _ (λ_=>rfl) (λ⟨i,d,h⟩=>by rw[a i d]at h;cases h),g.trans ⟨λh=>⟨(vu.1 a).1,(vu.1 a).2,h⟩,λh=>h.all⟩⟩
 .exact ⟨J,key J (λh=>absurd h a) (λ_=>rfl),(λh=>by cases h),λh=>absurd (vu.2 ⟨h.wm,h.task⟩) a⟩
def an2(n:Nat)(o:cS):F166 n (o,())=Z ((Ec o,()),()):=by unfold F166 Ec;simp only[aS,Pd];cases tL o.Port 0 3<;>rfl
def e99(x:lY p)(hs:Small p)(e:jH w):∃b,Ev (λn=>F99 n (⟨p,w⟩,())) ((b,()),())∧(b=W↔fD p w):=by
 have G:=e.acM;have H:=e.outs;have y:Bd p w:=⟨x,by have:=hs.cons;omega,by omega⟩;have bad:∀{q:Prop},¬q->(J=W↔q):=λh=>⟨(λh=>by cases h),λz=>absurd z h⟩;obtain⟨A,g,k⟩:=an3 (p:=p) (w:=w) (by omega) (by have:=e.tasks;omega);have B:∀o∈w.aY,aeO o:=λo d=>⟨by have:=(e.parts o d).1;omega,by have:=(e.parts o d).2.1;omega,λf u=>⟨by have:=((e.parts o d).2.2 f u).1;omega,by have:=((e.parts o d).2.2 f u).2;omega⟩⟩;rw[RK];by_cases h1:120<w.aY.length
 .exact ⟨J,Ev.of_eq λn=>by unfold F99;simp(disch:=omega)only[aS]<;>rfl,bad λh=>by omega⟩
 have go:∀{r:(Bool×U)×U},(w.aY.all (Q8 p w.aY.length)=W->Ev (λn=>Cd n (⟨p,w⟩,())) r)->(w.aY.all (Q8 p w.aY.length)=J->((J,()),())=r)->Ev (λn=>F99 n (⟨p,w⟩,())) r:=by intro r C E;unfold F99;refine Ev.congr (λn=>qg (show(w.aY.length:Int)<=120 by omega) _ _) ?_;refine Ev.Ns (l:=w.aY) aU (Q8 p w.aY.length) (λn a=>F163 n (⟨p,w⟩,a,())) (λc=>.ret () c) (λn c=>rfl) (by omega) xp (λa v=>an4 y (B a v)) (λj=>C j) (λj i=>?_);rw[<-E j];exact Ev.of_eq λn=>by show TL.aj (D.aK (D.ep 0 (i:Int))) (Cd n (⟨p,w⟩,())) (w4 n)=_;rw[S1];rfl
 cases d:w.aY.all (Q8 p w.aY.length)with
 |false=>exact⟨J,go (λh=>by rw[d]at h;cases h) (λ_=>rfl),bad λh=>by rw[eC.2 λo m=>CQ.2 (h.2.1 o m)]at d;cases d⟩
 |true=>
 have s:∀o∈w.aY,gE p w.aY.length o:=λo m=>CQ.1 (eC.1 d o m)
 suffices h:∃b,Ev (λn=>Cd n (⟨p,w⟩,())) ((b,()),())∧(b=W↔CB w∧w.fe.length<=100∧(∀o∈w.fe,Ec o=W)∧Ax w.kM=W∧tL w.Used 0 1000000000=W)by obtain⟨b,F,m⟩:=h;exact⟨b,go (λ_=>F) (λh=>by rw[d]at h;cases h),m.trans ⟨λh=>⟨by omega,s,h⟩,λh=>h.2.2⟩⟩
 cases A with
 |false=>exact⟨J,by unfold Cd;exact Ev.ai g (Ev.of_eq λn=>rfl),bad λh=>by have:=k.2 h.1;cases this⟩
 |true=>
 by_cases h2:100<w.fe.length
 .exact ⟨J,by unfold Cd;exact Ev.ai g (Ev.of_eq λn=>by simp(disch:=omega)only[aS]<;>rfl),bad λh=>by omega⟩
 have t:Ev (λn=>NI n (⟨p,w⟩,())) ((Ax w.kM&&tL w.Used 0 1000000000,()),()):=by unfold NI;refine Ev.ai (e47 e.ins) (Ev.of_eq λn=>?_);simp only[aS,Pd];cases Ax w.kM<;>rfl
 refine⟨w.fe.all Ec&&(Ax w.kM&&tL w.Used 0 1000000000),?_,?_⟩
 .unfold Cd;refine Ev.ai g (Ev.congr (λn=>qg (show(w.fe.length:Int)<=100 by omega) _ _) ?_);refine Ev.Ns (l:=w.fe) gF Ec (λn a=>F166 n (a,())) (λc=>.ret () c) (λn c=>rfl) (by omega) xp (λa v=>Ev.of_eq λn=>an2 n a) (λj=>?_) (λj i=>?_)
  .rw[j,dQ];exact t
  .rw[j,fO];exact Ev.of_eq λn=>by show TL.aj (D.aK (D.ep 0 (i:Int))) (NI n (⟨p,w⟩,())) (w4 n)=_;rw[S1];rfl
 .simp only[ec,eC];exact⟨λ⟨a,b,c⟩=>⟨k.1 rfl,by omega,a,b,c⟩,λ⟨_,_,a,b,c⟩=>⟨a,b,c⟩⟩
end
end
section
section
variable {p:ax}{w:aa}{at_:Int}
def abd:O (aa×O aA)->Int
 |none=>2
 |some (_,Y)=>0
 |some (_,Z _)=>1
variable {r:Option (aa×Option aA)}{q:Int->Bool}{n pick:Int}
def U2:D.aG (abd r) 2=!r.isSome:=by
 match r with
 |none=>rfl
 |some (_,Y)=>rfl
 |some (_,Z _)=>rfl
def aog(a:lY p)(b:fD p w)(c:0<=at_)(h1:at_<w.aX.length):Ev (λn=>F110 n (⟨p,w⟩,at_,())) ((abd (fL p w at_),()),()):=by
 unfold F110;refine Ev.ai (e70 a b c h1) (Ev.of_eq λn=>?_)
 match fL p w at_ with
 |none=>rfl
 |some (_,Y)=>rfl
 |some (_,Z _)=>rfl
def dW(p:ax)(w:aa):L Int:=(qX w.aX.length).filter λi=>(fL p w i).isSome
def Oh{x:Int}:x∈dW p w↔0<=x∧x<w.aX.length∧(fL p w x).isSome=W:=by
 unfold dW qX;simp only[List.mem_filter,tY,Lz];constructor
 .rintro ⟨⟨i,a,rfl⟩,h⟩
  exact⟨by omega,by omega,h⟩
 .rintro ⟨h1,h2,h3⟩
  exact⟨⟨x.toNat,by omega,by omega⟩,h3⟩
def xq:(dW p w).length<=w.aX.length:=fJ (List.length_filter_le _ _) (by rw[y4];exact bQ _)
def Il(i:Nat):(qX (i+1)).filter q=(qX i).filter q++(bif q (i:Int)then[(i:Int)]else[]):=by rw[HT,List.filter_append];cases h:q (i:Int)<;>simp[h]
def MI(i:Nat):((qX i).filter q).length<=i:=fJ (List.length_filter_le _ _) (by rw[y4];exact bQ _)
def e68(b:lY p)(a:fD p w):Ev (λn=>F68 n (rb p w,())) ((dW p w,()),rb p w,()):=by have e:=a.tl;have d:=a.len;unfold F68;refine Ev.aQ (jy w.aX.length (λi=>((qX i).filter λi=>(fL p w i).isSome,(i:Int),())) 0 (λi f=>?_) (Ev.of_eq λn=>by simp(disch:=omega)only[aS])) (λn c=>_) _ (Ev.of_eq λn=>rfl);have g:=MI (q:=λi=>(fL p w i).isSome) i;rw[Il];refine Ev.congr (λn=>jZ (show(i:Int)<(w.aX.length:Int)by omega) _ _) ?_;refine Ev.ai (aog b a (by omega) (show(i:Int)<w.aX.length by omega)) (Ev.of_eq λn=>?_);simp only[U2];cases(fL p w (i:Int)).isSome<;>simp(disch:=first|omega|simp only[lq];omega)only[aS,bE,dU,dX,ij,Ai,yR]
def W6:D.aG (zB w r).aaX 2=!r.isSome:=by
 match r with
 |none=>rfl
 |some (_,Y)=>rfl
 |some (_,Z _)=>rfl
def e39(b:lY p)(a:fD p w):Ev (λn=>F39 n (p,w,())) ((dW p w,()),()):=by have e:=a.tl;have d:=a.len;unfold F39;refine Ev.aQ (jy w.aX.length (λi=>((qX i).filter λi=>(fL p w i).isSome,(i:Int),())) 0 (λi f=>?_) (Ev.of_eq λn=>by simp(disch:=omega)only[aS])) (λn c=>_) _ (Ev.of_eq λn=>rfl);have g:=MI (q:=λi=>(fL p w i).isSome) i;rw[Il];refine Ev.congr (λn=>jZ (show(i:Int)<(w.aX.length:Int)by omega) _ _) ?_;refine Ev.ai (d40 b a (by omega) (show(i:Int)<w.aX.length by omega)) (Ev.of_eq λn=>?_);simp only[W6];cases(fL p w (i:Int)).isSome<;>simp(disch:=first|omega|simp only[lq];omega)only[aS,bE,dU,dX,ij,Ai,yR]
def Jw(a n:Int):Int:=bif D.bO (a.tmod n) 0 then a.tmod n+n else a.tmod n
def Oz(a:Int)(h:0<n):0<=Jw a n∧Jw a n<n:=by
 have h1:=Int.tmod_lt_of_pos a h;have h2:=Int.lt_tmod_of_pos a h;unfold Jw;cases b:D.bO (a.tmod n) 0 with
 |true=>have:=vK.1 b;rw[cH];omega
 |false=>
  rw[dS];have:¬a.tmod n<0:=λh=>by rw[af0 h]at b;cases b
  omega
def Rb(a:Int)(h:0<n)(b:n<=1000)(c:D.bO (a.tmod n) 0=W):D.add .i64 (a.tmod n) n=a.tmod n+n:=by have h1:=Int.tmod_lt_of_pos a h;have h2:=Int.lt_tmod_of_pos a h;exact bE (by omega) (by omega)
inductive RL where
 |we
 |idle (w:aa)
 |ok (w:aa) (e:aA) (s:Nat)
def Q2(p:ax)(w:aa)(pick:Int):Int:=(dW p w).getD (Jw pick (dW p w).length).toNat 0
def gm(p:ax)(w:aa)(pick:Int):RL:=match dD p w.aX.length 0 w 0 with
 |none=>.we
 |some (a,d)=>if dW p a=[]then .idle a else match fL p a (Q2 p a pick)with
  |none=>.idle a
  |some (b,e)=>match dD p b.aX.length 0 b (d+1)with
   |none=>.we
   |some (f,c)=>if 5000<c then .we else .ok f (e.getD aH) c
def yU(h:dW p w≠[]):0<=Q2 p w pick∧Q2 p w pick<w.aX.length∧∃r,fL p w (Q2 p w pick)=Z r:=by have d:0<(dW p w).length:=DN.2 h;have e:=Oz pick (n:=((dW p w).length:Int)) (by omega);obtain⟨a,b,c⟩:=Oh.1 (bX (l:=dW p w) (0:Int) (i:=(Jw pick (dW p w).length).toNat) (by omega));exact⟨a,b,Vl.1 c⟩
def eK(a:lY p)(b:fD p w){s:Nat}{w':aa}{s':Nat}(h:dD p w.aX.length 0 w s=Z (w',s')):fD p w'∧w'.aX=w.aX∧s<=s'∧(s'<=s∨s'<=5000):=
 Dy a _ 0 w s w' s' b (by omega) h
def yx(h:lY p)(n:fD p w):match gm p w pick with
  | .we=>True
  | .idle g=>fD p g∧g.aX=w.aX∧∃s,dD p w.aX.length 0 w 0=Z (g,s)
  | .ok i e s=>fD p i∧∃f o,fD p f∧dD p f.aX.length 0 f o=Z (i,s):=by
 unfold gm;cases h1:dD p w.aX.length 0 w 0 with
 |none=>trivial
 |some r=>
  obtain⟨g,j⟩:=r;obtain⟨a,b,c,d⟩:=eK h n h1;simp only;by_cases k:dW p g=[]
  .rw[bJ k];exact⟨a,b,j,rfl⟩
  rw[br k];obtain⟨q,t,r,l⟩:=yU (pick:=pick) k;rw[l];obtain⟨f,e⟩:=r;obtain⟨m,_,_⟩:=kf h a q t l;simp only;cases h2:dD p f.aX.length 0 f (j+1)with
  |none=>trivial
  |some r=>
   obtain⟨i,u⟩:=r;simp only;by_cases h5:5000<u
   .rw[bJ h5];trivial
   .rw[br h5];exact⟨(eK h m h2).1,f,j+1,m,h2⟩
def wA(p:ax)(R:RB×U):RL->(aA×Int×Int×U)×RB×U
 | .we=>((aH,0,8,()),R)
 | .idle a=>((aH,0,5,()),rb p a,())
 | .ok b e s=>((e,(s:Int),0,()),rb p b,())
def Xb{α:Type}{a:Int}(h:a≠0)(x:O α):aD (nzI a) x=x:=by simp[nzI,aD,h]
def e59(d:lY p)(q:fD p w)(pick:Int):∃R,Ev (λn=>F59 n (rb p w,pick,())) (wA p R (gm p w pick)):=by
 unfold gm;rcases e50 d q (s:=0) (by omega)with⟨c,l,a,b⟩|⟨a,R,b⟩;rotate_left
 .rw[a];exact⟨R,Ev.ai b (Ev.of_eq λn=>rfl)⟩
 rw[a];simp only;obtain⟨f,M,N,S⟩:=eK d q a;have X:=f.tl;have E:=f.len;have F:=xq (p:=p) (w:=c);by_cases g:dW p c=[]
 .rw[bJ g];refine⟨(rb p w,()),Ev.ai b (Ev.ai (e68 d f) (Ev.of_eq λn=>?_))⟩;simp only[g];rfl
 rw[br g];obtain⟨t,u,r,o⟩:=yU (pick:=pick) g;rw[o];obtain⟨G,e⟩:=r;obtain⟨v,_,_⟩:=kf d f t u o;have x:0<(dW p c).length:=DN.2 g;have y:=Oz pick (n:=((dW p c).length:Int)) (by omega);have j:D.add .i64 (l:Int) 1=((l+1:Nat):Int):=by rw[bE (by omega) (by omega)];omega
 have key:∀{R:(aA×Int×Int×U)×RB×U},(Ev (λn=>ai (F50 n (rb p G,((l+1:Nat):Int),())) λi=>aj (D.aK i.1.2.1) (NM n i) (aj (D.bO 5000 i.1.1) (NM n i) (Z ((e.getD aH,i.1.1,0,()),i.2)))) R)->Ev (λn=>F59 n (rb p w,pick,())) R:=by
  intro R h;unfold F59;refine Ev.ai b (Ev.ai (e68 d f) ?_);have k:∀{R B P:Type},∃z,(TL.aj (D.bO (D.rem pick (ak (dW p c))) 0) (Z (LO.next (R:=R) (B:=B) (P:=P) (D.add .i64 (D.rem pick (ak (dW p c))) (ak (dW p c)),W,()))) (Z (LO.next (D.rem pick (ak (dW p c)),J,()))))=Z (LO.next (Jw pick (dW p c).length,z,())):=by intro R B P;unfold Jw;rw[show D.rem pick (ak (dW p c))=pick.tmod (dW p c).length from rfl];cases H:D.bO (pick.tmod (dW p c).length) 0 with|true=>exact⟨W,by rw[cH,<-Rb pick (by omega) (by omega) H];rfl⟩|false=>exact⟨J,rfl⟩
  refine Ev.congr (λn=>I7 (show ¬((dW p c).length:Int)=0 by omega) _ _) ?_;refine Ev.congr (λn=>Xb (show((dW p c).length:Int)≠0 by omega) _) ?_;obtain⟨z,I⟩:=k;refine Ev.ai (Ev.of_eq λn=>I) ?_;refine Ev.congr (λn=>bH ..) ?_;refine Ev.congr (λn=>zH y.1 y.2 _) ?_;have A:=e70 d f t u;rw[o]at A;refine Ev.ai A ?_;refine Ev.congr (λn=>?_) h;simp only[j];cases e<;>rfl
 rcases e50 d v (s:=l+1) (by omega)with⟨C,K,a3,m⟩|⟨a3,R,m⟩
 .simp only[a3];have h3:=(eK d v a3).2.2;by_cases h5:5000<K
  .rw[bJ h5];exact⟨(rb p C,()),key (Ev.ai m (Ev.of_eq λn=>by simp(disch:=omega)only[aS]<;>rfl))⟩
  .rw[br h5];exact⟨(rb p C,()),key (Ev.ai m (Ev.of_eq λn=>by simp(disch:=omega)only[aS]<;>rfl))⟩
 .simp only[a3];exact⟨R,key (Ev.ai m (Ev.of_eq λn=>rfl))⟩
def e64(n:Nat)(a:Int){m:Int}(h:0<m)(b:m<=1000):F64 n (a,m,())=Z ((Jw a m,()),()):=by unfold F64 Jw;rw[show D.rem (a,m,()).1 (a,m,()).2.1=a.tmod m from rfl];refine(Xb (show m≠0 by omega) _).trans ?_;cases c:D.bO (a.tmod m) 0 with|true=>rw[cH,<-Rb a h b c];rfl|false=>rfl
def Qy(a:aa):RL->(aa×aA×Int×Int×U)×U
 | .we=>((a,aH,0,8,()),())
 | .idle b=>((b,aH,0,5,()),())
 | .ok c e s=>((c,e,(s:Int),0,()),())
def e34(f:lY p)(q:fD p w)(pick:Int):∃c,Ev (λn=>F34 n (p,w,pick,())) (Qy c (gm p w pick)):=by
 unfold gm;rcases e33 f q (s:=0) (by omega)with⟨d,i,a,b⟩|⟨a,d,i,b⟩;rotate_left
 .rw[a];exact⟨d,Ev.ai b (Ev.of_eq λn=>rfl)⟩
 rw[a];simp only;obtain⟨g,F,G,H⟩:=eK f q a;have I:=g.tl;have B:=g.len;have C:=xq (p:=p) (w:=d);by_cases j:dW p d=[]
 .rw[bJ j];refine⟨w,Ev.ai b (Ev.ai (e39 f g) (Ev.of_eq λn=>?_))⟩;simp only[j];rfl
 rw[br j];obtain⟨t,u,r,o⟩:=yU (pick:=pick) j;rw[o];obtain⟨E,e⟩:=r;obtain⟨v,_,_⟩:=kf f g t u o;have x:0<(dW p d).length:=DN.2 j;have y:=Oz pick (n:=((dW p d).length:Int)) (by omega);have k:D.add .i64 (i:Int) 1=((i+1:Nat):Int):=by rw[bE (by omega) (by omega)];omega
 have key:∀{R:(aa×aA×Int×Int×U)×U},(Ev (λn=>ai (F33 n (p,E,((i+1:Nat):Int),())) λh=>aj (D.aK h.1.2.2.1) (NN n h) (aj (D.bO 5000 h.1.2.1) (NN n h) (Z ((h.1.1,e.getD aH,h.1.2.1,0,()),())))) R)->Ev (λn=>F34 n (p,w,pick,())) R:=by intro R h;refine Ev.ai b (Ev.ai (e39 f g) ?_);refine Ev.congr (λn=>I7 (show ¬((dW p d).length:Int)=0 by omega) _ _) ?_;refine Ev.ai (Ev.of_eq λn=>e64 n pick (show 0<((dW p d).length:Int)by omega) (show((dW p d).length:Int)<=1000 by omega)) ?_;refine Ev.congr (λn=>zH y.1 y.2 _) ?_;have z:=d40 f g t u;rw[o]at z;refine Ev.ai z ?_;refine Ev.congr (λn=>?_) h;simp only[k];cases e<;>rfl
 rcases e33 f v (s:=i+1) (by omega)with⟨l,A,a3,m⟩|⟨a3,l,A,m⟩
 .simp only[a3];have h3:=(eK f v a3).2.2;by_cases h5:5000<A
  .rw[bJ h5];exact⟨l,key (Ev.ai m (Ev.of_eq λn=>by simp(disch:=omega)only[aS]<;>rfl))⟩
  .rw[br h5];exact⟨l,key (Ev.ai m (Ev.of_eq λn=>by simp(disch:=omega)only[aS]<;>rfl))⟩
 .simp only[a3];exact⟨l,key (Ev.ai m (Ev.of_eq λn=>rfl))⟩
end
end
section
section
variable {p:ax}{w w':aa}{left:List au}{f:au}{at_ t:Int}{v u:aq}
structure Ex(w w':aa)(t:Int):Prop where
 le:w.aY.length<=w'.aY.length
 same:∀x:Int,0<=x->x<w.aY.length->x≠t->cr w' x=cr w x
 f1:(cr w t).Form=6
 f2:(cr w' t).Form=6
def Pl(r:ou):Prop:=∃w fr a,r=.go w fr a Y
structure Q(w:aa)(r r':ou):Prop where
 one:∀w1 fr bk,r=.go w1 fr bk Y->w1=w∨∃o,w1=fA w o
 two:Pl r'->Pl r
variable {r:ou}{env:List aq}{o:aE}
def Q.Gk{a:ou}(h:¬Pl r)(b:¬Pl a):Q w r a:=⟨λc d f e=>absurd ⟨_,_,_,e⟩ h,λe=>absurd e b⟩
def dn{s:Int}:¬Pl (.fail s):=λ⟨_,_,_,h⟩=>by cases h
def y5:¬Pl .waits:=λ⟨_,_,_,h⟩=>by cases h
def wM{w:aa}{fr:L au}{a:L aq}{e:aA}:¬Pl (.go w fr a (Z e)):=λ⟨_,_,_,h⟩=>by cases h
def VA{op n:Int}:¬Pl (evS at_ op n v r):=λ⟨_,_,_,h⟩=>by cases r<;>cases h
def Q.back{v b:aq}{a:L au}:Q w (fH w left v) (fH w' a b):=⟨λc d f e=>by cases e;exact .inl rfl,λ_=>⟨_,_,_,rfl⟩⟩
def Q.Vy{node:Int}{a:L aq}(h:a.length=env.length):Q w (iM w left node env) (iM w' left node a):=by
 unfold iM;rw[h];split
 .exact Q.Gk dn dn
 .exact ⟨λb c d e=>by cases e;exact .inl rfl,λ_=>⟨_,_,_,rfl⟩⟩
def Q.made(a:Ex w w' t):Q w (jY w left o) (jY w' left o):=by
 have:=a.le;unfold jY;by_cases h:120<=w.aY.length
 .rw[bJ h,bJ (by omega)];exact Q.Gk dn dn
 .rw[br h];exact⟨λb c d e=>by cases e;exact .inr ⟨_,rfl⟩,λ_=>⟨_,_,_,rfl⟩⟩
def Jt(d:Ex w w' t)(f:cD p w.aY.length v){c:Int}(hf:c≠6):gR w' v c=gR w v c:=by
 unfold gR;by_cases h5:v.Kind=5
 .obtain ⟨a,b⟩:=f.ref h5;by_cases e:v.N=t
  .rw[e,br (by rw[d.f2];omega),br (by rw[d.f1];omega)]
  .rw[d.same _ a b e]
 .rw[br (by omega),br (by omega)]
def Xj(a:Ex w w' t)(b:cD p w.aY.length v):hY p w' v u=hY p w v u:=by unfold hY;rw[Jt a b (by decide)]
mutual
def Mj(a:fD p w)(b:Ex w w' t):∀(q:aC)(v:aq),cD p w.aY.length v->iC w' q v=iC w q v
 |⟨c,n,text,parts⟩,v,d=>by unfold iC;rw[Jt b d (by decide)];cases e:gR w v 1 with|none=>rfl|some o=>simp only[En a b parts o.bI (eg a d e).2.1.vals]
def En(a:fD p w)(b:Ex w w' t):∀(qs:L aC)(vs:L aq),(∀v∈vs,cD p w.aY.length v)->eu w' qs vs=eu w qs vs
 |[],vs,_=>by cases vs<;>rfl
 |_::_,[],_=>rfl
 |q::qs,v::vs,h=>by unfold eu;rw[Mj a b q v (h v eD),En a b qs vs (λv c=>h v (gO _ c))]
end
def RA(b:fD p w)(c:Ex w w' t)(d:cD p w.aY.length u){env:L aq}:∀(qs:L aC)(a:L Int),Q w (kK w left env u qs a) (kK w' left env u qs a)
 |[],a=>by cases a<;>exact Q.Gk dn dn
 |_::_,[]=>Q.Gk dn dn
 |q::qs,k::a=>by unfold kK;rw[Mj b c q u d];cases iC w q u with|some l=>exact Q.Vy rfl|none=>exact RA b c d qs a
def afR(c:Cx p w left f)(b:Ex w w' t):Q w (iI p w at_ left f) (iI p w' at_ left f):=by
 have m:=b.le;have nd:=c.nd;have h1:=nd.lo;have h2:=nd.hi;obtain⟨k,a⟩:∃k:Nat,(nodeAt p f.Node).Op=k:=⟨_,(Al (by omega)).symm⟩;have d:1<=k:=by omega
 have g:k<=28:=by omega
 unfold iI;simp only[a,Gy]
 match k,a,d,g with
 |1,_,_,_|2,_,_,_|3,_,_,_|26,_,_,_=>exact Q.back
 |4,_,_,_=>
  simp only;split
  .exact Q.back
  .split
   .exact Q.Gk dn dn
   .exact Q.back
 |5,_,_,_|14,_,_,_=>exact Q.made b
 |6,a,_,_=>
  have j:=c.vl a (by decide);simp[dP]at j;have v0:=c.val (i:=0) (by omega);simp only;unfold xX;rw[Jt b v0 (by decide),Xj b v0];split
  .split
   .exact Q.Gk dn dn
   .exact Q.back
  .split
   .exact Q.Gk dn dn
   .exact Q.Vy rfl
 |7,_,_,_=>exact Q.Vy rfl
 |8,_,_,_=>
  simp only;split
  .exact Q.Gk dn dn
  .exact Q.Vy rfl
 |9,_,_,_|10,_,_,_|11,_,_,_|12,_,_,_|13,_,_,_=>
  simp only;unfold mw;simp only
  repeat' split
  all_goals first|exact Q.back|exact Q.Gk dn dn
 |15,a,_,_=>have j:=c.vl a (by decide);simp[dP]at j;exact RA c.hw b (c.val (i:=0) (by omega)) _ _
 |16,_,_,_|21,_,_,_=>exact Q.Gk VA VA
 |17,_,_,_=>
  simp only;unfold O3;refine Q.Gk ?_ ?_<;>split<;>first|exact dn|exact wM
 |18,_,_,_=>
  simp only;unfold g9;refine Q.Gk ?_ ?_<;>split<;>first|exact dn|exact wM
 |19,_,_,_=>
  simp only;unfold xk;refine Q.Gk ?_ ?_<;>(repeat' split)<;>first|exact dn|exact wM
 |20,_,_,_=>
  simp only;unfold ED;refine Q.Gk ?_ ?_<;>(repeat' split)<;>first|exact dn|exact wM|exact y5
 |22,_,_,_=>
  simp only;unfold Dz;refine Q.Gk ?_ ?_<;>(repeat' split)<;>first|exact dn|exact wM|exact y5
 |23,_,_,_=>
  simp only;unfold Dq;refine Q.Gk ?_ ?_<;>(repeat' split)<;>first|exact dn|exact wM|exact y5
 |24,_,_,_=>
  simp only;unfold Ou;refine Q.Gk ?_ ?_<;>(repeat' split)<;>first|exact dn|exact wM|exact y5
 |25,_,_,_=>
  simp only;unfold inS;refine Q.Gk ?_ ?_<;>(repeat' split)<;>first|exact dn|exact wM|exact y5
 |27,_,_,_=>
  simp only;unfold xm;split
  .exact Q.Gk dn dn
  .rename_i n o;by_cases h:120<=w.aY.length
   .rw[bJ h,bJ (by omega)];exact Q.Gk dn dn
   .rw[br h];unfold iM;by_cases l:40<=(left.take (n+1)).length∨30<(f.Env++[tE w.aY.length]).length
    .rw[bJ l];refine Q.Gk dn ?_;split
     .exact dn
     .rw[bJ (by simpa using l)];exact dn
    .rw[br l];exact⟨λq r s e=>by cases e;exact .inr ⟨_,rfl⟩,λ_=>⟨_,_,_,rfl⟩⟩
 |28,_,_,_=>exact Q.Gk wM wM
 |k+29,_,_,h=>omega
def Ex.refl(h:(cr w t).Form=6):Ex w w t:=⟨bQ _,λ_ _ _ _=>rfl,h,h⟩
def abB(i:lY p)(j:fD p w)(hf:o.Form=6)(hn:o.N=0)(d:o.Frames≠[])(k:gE p w.aY.length o)(m:Ex w w' t):Q w (Tu p w at_ o) (Tu p w' at_ o):=by
 obtain⟨l,g,b⟩:∃l g,o.Frames=l++[g]:=⟨_,_,vL d⟩;obtain⟨h,n,f,a⟩:=yZ k hf hn b;have q:o.Frames.length-1=l.length:=by rw[b];simp
 have r:o.Frames.getD l.length aV=g:=by rw[b];simp
 have s:o.Frames.take l.length=l:=by rw[b];simp
 unfold Tu;simp only[q,r,s];rcases a with a|⟨v,a,_⟩
 .rw[a];simp only;by_cases c:(g.bI.length:Int)<jo (nodeAt p g.Node)
  .rw[bJ c,bJ c];exact Q.Vy rfl
  .rw[br c,br c];exact afR ⟨i,j,h,by have:=h.vl;omega,f,n⟩ m
 .rw[a];exact⟨λu x y e=>by cases e;exact .inl rfl,λ_=>⟨_,_,_,rfl⟩⟩
def oJ(p:ax)(w:aa)(i:Int):Prop:=∃x,fL p w i=Z (x,Y)
def LU(b:cr w (bT w at_)=o):oJ p w at_↔o.N=0∧o.Frames≠[]∧Pl (Tu p w at_ o):=by
 subst b;unfold oJ fL;simp only;constructor
 .rintro ⟨x,h⟩
  split at h
  .cases h
  .rename_i i;split at h
   .cases h
   .rename_i c;refine⟨by omega,c,?_⟩;split at h
    .cases h
    .cases h
    .rename_i d f g e a;cases h;exact⟨_,_,_,a⟩
 .rintro ⟨h1,h2,d,f,g,a⟩
  rw[br (by omega),br h2,a];exact⟨_,rfl⟩
def vC{x:Int}(b:0<=t)(c:0<=x):cr (lB w t o) x=if x=t∧x<w.aY.length then o else cr w x:=by
 unfold cr lB;simp only[jq,DL];by_cases h:t.toNat=x.toNat
 .have:x=t:=by omega
  subst this;rw[bJ rfl];by_cases a:x.toNat<w.aY.length
  .rw[bJ a,bJ ⟨rfl,by omega⟩];rfl
  .rw[br a,br (by omega),GB (by omega)]
 .rw[br h,br (by omega)]
def Vr(f:lY p)(d:fD p w)(i:0<=at_)(h1:at_<w.aX.length)(hs:fL p w at_=Z (w',Y)):w'.aX=w.aX∧Ex w w' (bT w at_):=by
 refine⟨(kf f d i h1 hs).2.2 rfl,?_⟩;have j:=d.task _ (bX 0 (show at_.toNat<w.aX.length by omega));obtain⟨t1,t2,t3⟩:=j;have g:=d.ob t1 t2;change 0<=bT w at_ at t1;change bT w at_<_ at t2;change(cr w (bT w at_)).Form=6 at t3;change gE p _ (cr w (bT w at_))at g;unfold fL at hs;simp only at hs;split at hs
 .cases hs
 rename_i m;split at hs
 .cases hs
 rename_i k;have q:=abB (at_:=at_) (w':=w) f d t3 (by omega) k g (Ex.refl t3);split at hs
 .cases hs
 .cases hs
 rename_i n r s e l;cases hs;rcases q.one _ _ _ l with rfl|⟨o,rfl⟩
 .refine ⟨by simp[lB],λx a b c=>?_,t3,?_⟩
  .rw[vC t1 a,br (λh=>c h.1)]
  .rw[vC t1 t1,bJ ⟨rfl,t2⟩]
 .have e:∀x:Int,0<=x->x<w.aY.length->cr (fA w o) x=cr w x:=λx a b=>by unfold cr fA;simp only[jq];rw[SI (by omega)]
  refine⟨by simp[lB,fA],λx a b c=>?_,t3,?_⟩
  .rw[vC t1 a,br (λh=>c h.1),e x a b]
  .rw[vC t1 t1,bJ ⟨rfl,by simp[fA];omega⟩]
def Oq(k:lY p)(d:fD p w)(l:w'.aX=w.aX)(g:Ex w w' (bT w at_)){j:Int}(n:0<=at_)(h1:at_<w.aX.length)(o:0<=j)(q:j<w.aX.length)(r:j≠at_)(h:oJ p w' j):oJ p w j:=by
 have m:=d.task _ (bX 0 (show j.toNat<w.aX.length by omega));obtain⟨t1,t2,t3⟩:=m;have i:=d.ob t1 t2;change 0<=bT w j at t1;change bT w j<_ at t2;change(cr w (bT w j)).Form=6 at t3;change gE p _ (cr w (bT w j))at i;have f:bT w j≠bT w at_:=by
  unfold bT;intro e;rw[jq,jq,fN (show j.toNat<w.aX.length by omega),fN (show at_.toNat<w.aX.length by omega)]at e;have:=(SJ.1 d.wm);rcases Nat.lt_trichotomy j.toNat at_.toNat with h|h|h
  .exact this _ _ (by omega) (by omega) h e
  .omega
  .exact this _ _ (by omega) (by omega) h e.symm
 have e:cr w' (bT w' j)=cr w (bT w j):=by rw[show bT w' j=bT w j by unfold bT;rw[l]];exact g.same _ t1 t2 f
 obtain⟨a,b,c⟩:=(LU e).1 h;exact(LU rfl).2 ⟨a,b,(abB k d t3 a b i g).two c⟩
def DF(f:lY p):∀(k:Nat)(w:aa)(s:Nat)(w':aa)(s':Nat),fD p w->0<=at_->at_<w.aX.length->vW p at_ k w s=Z (w',s')->
  ¬oJ p w' at_∧∀j:Int,0<=j->j<w.aX.length->j≠at_->¬oJ p w j->¬oJ p w' j
 |0,_,_,_,_,_,_,_,h=>by cases h
 |k+1,w,s,w',s',i,g,h1,h=>by
  unfold vW at h;cases d:fL p w at_ with
  |none=>rw[d]at h;cases h;exact⟨(λ⟨x,c⟩=>by rw[d]at c;cases c),λ_ _ _ _ h=>h⟩
  |some r=>
   obtain⟨q,e⟩:=r;rw[d]at h;cases e with
   |some e=>cases h;exact⟨(λ⟨x,c⟩=>by rw[d]at c;cases c),λ_ _ _ _ h=>h⟩
   |none=>
    obtain⟨t,_,_⟩:=kf f i g h1 d;obtain⟨l,c⟩:=Vr f i g h1 d;simp only at h;split at h
    .cases h
    .obtain ⟨a,b⟩:=DF f k q (s+1) w' s' t g (by rw[l];exact h1) h;exact⟨a,λj m n o u=>b j m (by rw[l];exact n) o λv=>u (Oq f i l c g h1 m n o v)⟩
def wC(f:lY p):∀(m i:Nat)(w:aa)(s:Nat)(w':aa)(s':Nat),fD p w->i+m<=w.aX.length->dD p m i w s=Z (w',s')->
  (∀j:Int,0<=j->j<i->¬oJ p w j)->∀j:Int,0<=j->j<i+m->¬oJ p w' j
 |0,i,w,s,w',s',g,r,h,k=>by cases h;simpa using k
 |m+1,i,w,s,w',s',g,r,h,k=>by
  unfold dD at h;split at h
  .cases h
  .rename_i l n o;obtain⟨a,b,_,_⟩:=yI f _ w s l n g (by omega) (by omega) o;obtain⟨c,d⟩:=DF f _ w s l n g (by omega) (by omega) o;have:=wC f m (i+1) l n w' s' a (by rw[b];omega) h (λj e t=>by
    by_cases q:j=i
    .subst q;exact c
    .exact d j e (by omega) q (k j e (by omega)))
   exact λj e t=>this j e (by omega)
def uT(p:ax)(w:aa):Prop:=∀j:Int,0<=j->j<w.aX.length->¬oJ p w j
def lz(c:lY p)(d:fD p w){s s':Nat}(h:dD p w.aX.length 0 w s=Z (w',s')):uT p w':=by obtain⟨a,b,_,_⟩:=eK c d h;have:=wC c _ 0 w s w' s' d (by omega) h (λj a b=>by omega);exact λj e f=>this j e (by rw[b]at f;omega)
def SG(h:¬oJ p w at_)(k s:Nat):vW p at_ (k+1) w s=Z (w,s):=by
 unfold vW;cases a:fL p w at_ with
 |none=>rfl
 |some r=>
  obtain⟨b,e⟩:=r;cases e with|some e=>rfl|none=>exact absurd ⟨b,a⟩ h
def nM(a:uT p w):∀(m i s:Nat),i+m<=w.aX.length->dD p m i w s=Z (w,s)
 |0,_,_,_=>rfl
 |m+1,i,s,h=>by unfold dD;rw[SG (a (i:Int) (by omega) (by omega)) 5001 s];exact nM a m (i+1) s (by omega)
end
end
section
section
variable {p:ax}{w:aa}
variable {k:Int}{w1:aa}{l:List aA}{cx:List Int}
def N3(b:lY p)(c:fD p w)(d:uT p w)(h:gm p w k=.idle w1):w1=w:=by have:=yx b c (pick:=k);rw[h]at this;obtain⟨_,_,s,a⟩:=this;rw[nM d _ 0 0 (by omega)]at a;cases a;rfl
def rM(d:lY p)(f:fD p w){e:aA}{s:Nat}(h:gm p w k=.ok w1 e s):fD p w1∧uT p w1:=by have:=yx d f (pick:=k);rw[h]at this;obtain⟨a,g,i,b,c⟩:=this;exact⟨a,lz d b c⟩
def iz(p:ax):L Int->aa->O (aa×L aA)
 |[],w=>Z (w,[])
 |k::a,w=>match gm p w k with
  | .we=>Y
  | .idle _=>Z (w,[])
  | .ok b e _=>match iz p a b with
   |none=>Y
   |some (x,l)=>Z (x,e::l)
def yT(n:lY p):∀(f:L Int){w x:aa}{l:L aA},fD p w->uT p w->iz p f w=Z (x,l)->fD p x∧uT p x∧l.length<=f.length
 |[],w,x,l,g,j,h=>by cases h;exact⟨g,j,bQ _⟩
 |k::f,w,x,l,g,j,h=>by
  unfold iz at h;cases i:gm p w k with
  |we=>rw[i]at h;cases h
  |idle w1=>rw[i]at h;cases h;exact⟨g,j,Cj _⟩
  |ok w1 e s=>
   obtain⟨a,b⟩:=rM n g i;rw[i]at h;simp only at h;cases m:iz p f w1 with
   |none=>rw[m]at h;cases h
   |some r=>obtain⟨o,q⟩:=r;rw[m]at h;cases h;obtain⟨c,d,e⟩:=yT n f a b m;exact⟨c,d,by simp only[eV];omega⟩
def mT(p:ax)(w:aa)(a:L Int):O (aa×L aA):=match dD p w.aX.length 0 w 0 with
 |none=>Y
 |some (w1,_)=>iz p a w1
def DW(b:lY p)(d:fD p w){c:L Int}{x:aa}(h:mT p w c=Z (x,l)):fD p x∧uT p x∧l.length<=c.length:=by
 unfold mT at h;cases a:dD p w.aX.length 0 w 0 with
 |none=>rw[a]at h;cases h
 |some r=>obtain⟨w1,s⟩:=r;rw[a]at h;exact yT b c (eK b d a).1 (lz b d a) h
abbrev z5:Z5:=([],[],[],[],0,())
def Rm{α:Type}{pre:L α}{k:α}{a:L α}{d:α}:(pre++k::a).getD pre.length d=k:=by simp
def HL(m:lY p){P:Type}{cx:L Int}(r:cx.length<=1000)(F:Nat->L aA×Int×Z5×RB×U->O (LO (L aA×Int×Z5×RB×U) (L aA×Int×U) (Z5×RB×U) P))
  (t:∀n g,F n g=aj (D.bO g.2.1 (ak cx)) (aD (av g.2.1 cx) (ai (F59 n (g.2.2.2.1,aR cx (ah g.2.1) 0,())) λh=>aj (D.aG h.1.2.2.1 5) (Z (LO.out 0 (g.1,g.2.1,([],[],[],[],g.2.2.1.2.2.2.2),h.2))) (aj (D.aK (D.aG h.1.2.2.1 0)) (Z (LO.ret (([],[],[],[],0,()),h.2) ([],h.1.2.2))) (aD (cX g.1 [h.1.1]) (Z (LO.next (cM g.1 [h.1.1],D.add .i64 g.2.1 1,([],[],[],[],g.2.2.1.2.2.2.2),h.2))))))) (Z (LO.out 0 (g.1,g.2.1,([],[],[],[],g.2.2.1.2.2.2.2),g.2.2.2)))) :
  ∀(f pre:L Int)(c:L aA)(w:aa),cx=pre++f->c.length<=pre.length->fD p w->uT p w->
  (∃w' l i,iz p f w=Z (w',l)∧eM F (c,(pre.length:Int),z5,rb p w,()) (.out 0 (c++l,i,z5,rb p w',())))∨
  (iz p f w=Y∧∃R,eM F (c,(pre.length:Int),z5,rb p w,()) (.ret (z5,R) ([],8,())))
 |[],pre,c,w,d,A,q,u=>by refine .inl ⟨w,[],(pre.length:Int),rfl,?_⟩;rw[ij];refine .out (Ev.of_eq λn=>?_);rw[ij]at d;subst d;rw[t];simp(disch:=omega)only[aS]
 |k::f,pre,c,w,d,A,q,u=>by
  have v:pre.length<cx.length:=by rw[d];simp
  have B:cx.getD pre.length 0=k:=by rw[d];exact Rm
  obtain⟨R,C⟩:=e59 m q k;have step:∀{o:LO (L aA×Int×Z5×RB×U) (L aA×Int×U) (Z5×RB×U) P},Ev (λn=>TL.aj (D.aG (wA p R (gm p w k)).1.2.2.1 5) (Z (LO.out 0 (c,(pre.length:Int),z5,(wA p R (gm p w k)).2))) (TL.aj (D.aK (D.aG (wA p R (gm p w k)).1.2.2.1 0)) (Z (LO.ret (z5,(wA p R (gm p w k)).2) ([],(wA p R (gm p w k)).1.2.2))) (TL.aD (cX c [(wA p R (gm p w k)).1.1]) (Z (LO.next (cM c [(wA p R (gm p w k)).1.1],D.add .i64 (pre.length:Int) 1,z5,(wA p R (gm p w k)).2)))))) o->Ev (λn=>F n (c,(pre.length:Int),z5,rb p w,())) o:=by intro o h;refine Ev.congr (λn=>(t n _).trans (jZ (show((pre.length:Nat):Int)<(cx.length:Int)by omega) _ _)) ?_;refine Ev.congr (λn=>zH (show(0:Int)<=pre.length by omega) (by omega) _) ?_;have e:aR cx (ah ((pre.length:Nat):Int)) 0=k:=B;simp only[e];exact Ev.ai C h
  unfold iz;cases j:gm p w k with
  |we=>rw[j]at step;exact .inr ⟨rfl,R,.ret (step (Ev.of_eq λn=>rfl))⟩
  |idle w1=>rw[j]at step;have:=N3 m q u j;subst this;refine .inl ⟨w1,[],(pre.length:Int),rfl,?_⟩;rw[ij];exact .out (step (Ev.of_eq λn=>rfl))
  |ok w1 e s=>
   rw[j]at step;obtain⟨a,b⟩:=rM m q j;have z:Ev (λn=>F n (c,(pre.length:Int),z5,rb p w,())) (.next (c++[e],((pre++[k]).length:Int),z5,rb p w1,())):=by refine step (Ev.of_eq λn=>?_);have h1:([e]:L aA).length=1:=rfl;simp only[wA];simp(disch:=omega)only[aS,bE,gw,nq,dU,dX]<;>rfl
   simp only;rcases HL m r F t f (pre++[k]) (c++[e]) w1 (by rw[d];simp) (by simp;omega) a b with⟨w',l,i,x,y⟩|⟨x,R,y⟩
   .refine .inl ⟨w',e::l,i,by rw[x],.next z ?_⟩;rw[nk]at y;exact y
   .exact .inr ⟨by rw[x],R,.next z y⟩
def abf:O (aa×L aA)->(aa×L aA×Int×U)×U
 |none=>((bF,[],8,()),())
 |some (w,l)=>((w,l,0,()),())
def ad3(d:lY p)(e:Ev (λn=>F46 n (p,())) ((0,()),()))(f:Ev (λn=>F99 n (⟨p,w⟩,())) ((W,()),()))(h:fD p w)(hl:cx.length<=200) :
  Ev (λn=>F21 n (p,w,cx,())) (abf (mT p w cx)):=by
 unfold F21 mT;refine Ev.ai e (Ev.ai f ?_);refine Ev.congr (λn=>jk (show(cx.length:Int)<=200 by omega) _ _) ?_;rcases e50 d h (s:=0) (by omega)with⟨w1,j,a,b⟩|⟨a,R,b⟩
 .rw[a];refine Ev.ai b ?_;have a1:=(eK d h a).1;have a2:=lz d h a;simp only;rcases HL d (P:=_) (cx:=cx) (by omega) _ (λn g=>rfl) cx [] [] w1 rfl (bQ _) a1 a2 with⟨k,l,i,x,y⟩|⟨x,R,y⟩
  .rw[x];refine Ev.aQ y (λn c=>_) _ ?_;exact Ev.ai (e51 d (yT d cx a1 a2 x).1) (Ev.pure _)
  .rw[x];exact Ev.aQ y (λn c=>_) _ (Ev.of_eq λn=>rfl)
 .rw[a];exact Ev.ai b (Ev.of_eq λn=>rfl)
def E7(q:lY p){P:Type}{cx:L Int}(r:cx.length<=1000)(F:Nat->L aA×Int×Z5×Z5×U->O (LO (L aA×Int×Z5×Z5×U) (L aA×Int×U) (Z5×Z5×U) P))
  (t:∀n d,F n d=aj (D.bO d.2.1 (ak cx)) (aD (av d.2.1 cx) (ai (F34 n (p,X9 d,aR cx (ah d.2.1) 0,())) λe=>aj (D.aG e.1.2.2.2.1 5) (Z (LO.ret (d.2.2.1,d.2.2.1,()) (d.1,0,()))) (aj (D.aK (D.aG e.1.2.2.2.1 0)) (Z (LO.ret (d.2.2.1,IQ e,()) ([],e.1.2.2.2))) (aD (cX d.1 [e.1.2.1]) (Z (LO.next (cM d.1 [e.1.2.1],D.add .i64 d.2.1 1,IQ e,d.2.2.2))))))) (Z (LO.out 0 d))) :
  ∀(j pre:L Int)(f:L aA)(w:aa),cx=pre++j->f.length<=pre.length->fD p w->uT p w->
  (∃w' l,iz p j w=Z (w',l)∧((∃i,eM F (f,(pre.length:Int),w5 w,z5,()) (.out 0 (f++l,i,w5 w',z5,())))∨∃x,eM F (f,(pre.length:Int),w5 w,z5,()) (.ret (x,w5 w',()) (f++l,0,()))))∨
  (iz p j w=Y∧∃x c,eM F (f,(pre.length:Int),w5 w,z5,()) (.ret (x,w5 c,()) ([],8,())))
 |[],pre,f,w,g,B,u,C=>by refine .inl ⟨w,[],rfl,.inl ⟨(pre.length:Int),?_⟩⟩;rw[ij];refine .out (Ev.of_eq λn=>?_);rw[ij]at g;subst g;rw[t];simp(disch:=omega)only[aS]
 |k::j,pre,f,w,g,B,u,C=>by
  have A:pre.length<cx.length:=by rw[g];simp
  have E:cx.getD pre.length 0=k:=by rw[g];exact Rm
  obtain⟨c,G⟩:=e34 q u k;have step:∀{o:LO (L aA×Int×Z5×Z5×U) (L aA×Int×U) (Z5×Z5×U) P},Ev (λn=>(λe:(aa×aA×Int×Int×U)×U=>TL.aj (D.aG e.1.2.2.2.1 5) (Z (LO.ret (w5 w,w5 w,()) (f,0,()))) (TL.aj (D.aK (D.aG e.1.2.2.2.1 0)) (Z (LO.ret (w5 w,IQ e,()) ([],e.1.2.2.2))) (TL.aD (cX f [e.1.2.1]) (Z (LO.next (cM f [e.1.2.1],D.add .i64 (pre.length:Int) 1,IQ e,z5,())))))) (Qy c (gm p w k))) o->Ev (λn=>F n (f,(pre.length:Int),w5 w,z5,())) o:=by intro o h;refine Ev.congr (λn=>(t n _).trans (jZ (show((pre.length:Nat):Int)<(cx.length:Int)by omega) _ _)) ?_;refine Ev.congr (λn=>zH (show(0:Int)<=pre.length by omega) (by omega) _) ?_;have e:aR cx (ah ((pre.length:Nat):Int)) 0=k:=E;simp only[e];exact Ev.ai G h
  unfold iz;cases m:gm p w k with
  |we=>rw[m]at step;exact .inr ⟨rfl,w5 w,c,.ret (step (Ev.of_eq λn=>rfl))⟩
  |idle w1=>rw[m]at step;refine .inl ⟨w,[],rfl,.inr ⟨w5 w,?_⟩⟩;rw[ij];exact .ret (step (Ev.of_eq λn=>rfl))
  |ok w1 e s=>
   rw[m]at step;obtain⟨a,b⟩:=rM q u m;have v:Ev (λn=>F n (f,(pre.length:Int),w5 w,z5,())) (.next (f++[e],((pre++[k]).length:Int),w5 w1,z5,())):=by refine step (Ev.of_eq λn=>?_);have h1:([e]:L aA).length=1:=rfl;simp only[Qy];simp(disch:=omega)only[aS,bE,gw,nq,dU,dX]<;>rfl
   simp only;rcases E7 q r F t j (pre++[k]) (f++[e]) w1 (by rw[g];simp) (by simp;omega) a b with⟨w',l,x,y⟩|⟨x,z,c,y⟩
   .refine .inl ⟨w',e::l,by rw[x],?_⟩;rw[nk]at y;rcases y with⟨i,y⟩|⟨z,y⟩
    .exact .inl ⟨i,.next v y⟩
    .exact .inr ⟨z,.next v y⟩
   .exact .inr ⟨by rw[x],z,c,.next v y⟩
def afO(a:aa):O (aa×L aA)->(aa×L aA×Int×U)×U
 |none=>((a,[],8,()),())
 |some (w,l)=>((w,l,0,()),())
def e23(e:lY p)(f:fD p w)(hl:cx.length<=200):∃d,Ev (λn=>F23 n (p,w,cx,())) (afO d (mT p w cx)):=by
 unfold F23 mT;rcases e33 e f (s:=0) (by omega)with⟨w1,h,a,b⟩|⟨a,w1,h,b⟩
 .rw[a];have a1:=(eK e f a).1;have a2:=lz e f a;simp only;rcases E7 e (P:=_) (cx:=cx) (by omega) _ (λn g=>rfl) cx [] [] w1 rfl (bQ _) a1 a2 with⟨j,l,x,⟨i,y⟩|⟨z,y⟩⟩|⟨x,z,d,y⟩
  .rw[x];exact⟨w,Ev.ai b (Ev.aQ y (λn c=>_) _ (Ev.of_eq λn=>rfl))⟩
  .rw[x];exact⟨w,Ev.ai b (Ev.aQ y (λn c=>_) _ (Ev.of_eq λn=>rfl))⟩
  .rw[x];exact⟨d,Ev.ai b (Ev.aQ y (λn c=>_) _ (Ev.of_eq λn=>rfl))⟩
 .rw[a];exact⟨w1,Ev.ai b (Ev.of_eq λn=>rfl)⟩
def e24(hl:l.length<=1000):Ev (λn=>F24 n (l,l,())) ((W,()),()):=by
 unfold F24;refine Ev.congr (λn=>(mH ..).trans (I8 rfl _ _)) ?_;refine Ev.all (l:=l) aH (λ_=>W) (λ_=>.ret () (J,())) (λ_ _ h=>by cases h) (λi b=>Ev.of_eq λn=>?_) (λn=>by simp(disch:=omega)only[aS]) (λa=>Ev.of_eq λn=>rfl) (λi b a=>?_)
 .unfold IP;simp(disch:=omega)only[aS,D.dz,rU,bE,dU,dX]
 .rw[List.all_eq_false]at a;obtain⟨_,_,h⟩:=a;exact absurd rfl h
end
end
section
section
variable {p:ax}{w:aa}
variable {cx:List Int}
def Rw(hs:Small p)(j:jH w)(hl:cx.length<=1000)(h:¬(FP p∧fD p w)∨200<cx.length):Ev (λn=>F21 n (p,w,cx,())) ((bF,[],2,()),()):=by
 obtain⟨c,d,e⟩:=e87 hs;have a:=e46 d;cases c with
 |false=>exact Ev.ai a (Ev.of_eq λn=>rfl)
 |true=>
  have i:=e.1 rfl;obtain⟨b,f,g⟩:=e99 i.ok hs j;refine Ev.ai a (Ev.ai f ?_);cases b with
  |false=>exact Ev.of_eq λn=>rfl
  |true=>
   have:200<cx.length:=by
    rcases h with h|h
    .exact absurd ⟨i,g.1 rfl⟩ h
    .exact h
   exact Ev.congr (λn=>jZ (show(200:Int)<cx.length by omega) _ _) (Ev.of_eq λn=>rfl)
def uC(hs:Small p)(j:jH w)(e:FP p)(i:fD p w)(hl:cx.length<=200):Ev (λn=>F21 n (p,w,cx,())) (abf (mT p w cx)):=by obtain⟨c,f,g⟩:=e87 hs;have a:=e46 f;rw[g.2 e]at a;obtain⟨b,d,h⟩:=e99 e.ok hs j;rw[h.2 i]at d;exact ad3 e.ok a d i hl
end
end
section
section
variable {p:ax}{w:aa}
def vD(hs:Small p)(k:jH w){α:Type}{bad rest:Nat->O α}{r:α}(h1:FP p∧fD p w->Ev rest r)(h2:¬(FP p∧fD p w)->Ev bad r) :
  Ev (λn=>ai (F46 n (p,())) λc=>aj (D.aK (D.aG c.1.1 0)) (bad n) (ai (F99 n (⟨p,w⟩,())) λd=>aj (D.aK d.1.1) (bad n) (rest n))) r:=by
 obtain⟨c,g,a⟩:=e87 hs;have e:=e46 g;cases c with
 |false=>exact Ev.ai e (h2 λh=>by have:=a.2 h.1;cases this)
 |true=>
  have j:=a.1 rfl;obtain⟨b,i,f⟩:=e99 j.ok hs k;refine Ev.ai e (Ev.ai i ?_);cases b with
  |false=>exact h2 λh=>by have:=f.2 h.2;cases this
  |true=>exact h1 ⟨j,f.1 rfl⟩
def Lg(p:ax)(w:aa):(aa×Int×Int×U)×U:=match dD p w.aX.length 0 w 0 with
 |none=>((bF,0,8,()),())
 |some (a,s)=>((a,(s:Int),0,()),())
def e31(hs:Small p)(e:jH w){r:(aa×Int×Int×U)×U}(h1:FP p∧fD p w->Lg p w=r)(h2:¬(FP p∧fD p w)->((bF,0,2,()),())=r):Ev (λn=>F31 n (p,w,())) r:=by
 unfold F31;refine vD hs e (λh=>?_) (λh=>by rw[<-h2 h];exact Ev.pure _);obtain⟨c,d⟩:=h;rw[<-h1 ⟨c,d⟩];unfold Lg;rcases e50 c.ok d (s:=0) (by omega)with⟨f,g,a,b⟩|⟨a,R,b⟩
 .rw[a];exact Ev.ai b (Ev.ai (e51 c.ok (eK c.ok d a).1) (Ev.pure _))
 .rw[a];exact Ev.ai b (Ev.of_eq λn=>rfl)
def aa7:RL->(aa×aA×Int×Int×U)×U
 | .we=>((bF,aH,0,8,()),())
 | .idle _=>((bF,aH,0,5,()),())
 | .ok w e s=>((w,e,(s:Int),0,()),())
def e32(hs:Small p)(d:jH w){pick:Int}{r:(aa×aA×Int×Int×U)×U}(h1:FP p∧fD p w->aa7 (gm p w pick)=r)(h2:¬(FP p∧fD p w)->((bF,aH,0,2,()),())=r):Ev (λn=>F32 n (p,w,pick,())) r:=by
 unfold F32;refine vD hs d (λh=>?_) (λh=>by rw[<-h2 h];exact Ev.pure _);obtain⟨b,c⟩:=h;rw[<-h1 ⟨b,c⟩];obtain⟨R,f⟩:=e59 b.ok c pick;have a:=yx b.ok c (pick:=pick);refine Ev.ai f ?_;cases g:gm p w pick with
 |we=>exact Ev.of_eq λn=>rfl
 |idle i=>exact Ev.of_eq λn=>rfl
 |ok i e s=>rw[g]at a;exact Ev.ai (e51 b.ok a.1) (Ev.pure _)
def e37(hs:Small p)(a:jH w){r:(L Int×Int×U)×U}(h1:FP p∧fD p w->((dW p w,0,()),())=r)(h2:¬(FP p∧fD p w)->(([],2,()),())=r):Ev (λn=>F37 n (p,w,())) r:=by unfold F37;refine vD hs a (λh=>?_) (λh=>by rw[<-h2 h];exact Ev.pure _);rw[<-h1 h];exact Ev.ai (e68 h.1.ok h.2) (Ev.pure _)
def aa9:O (aa×O aA)->(aa×aA×Int×U)×U
 |none=>((bF,aH,5,()),())
 |some (w,e)=>((w,e.getD aH,0,()),())
def e38(hs:Small p)(l:jH w){k:Int}{r:(aa×aA×Int×U)×U}(h1:FP p∧fD p w->0<=k->k<w.aX.length->aa9 (fL p w k)=r)(h2:¬(FP p∧fD p w)∨¬(0<=k∧k<w.aX.length)->((bF,aH,2,()),())=r):Ev (λn=>F38 n (p,w,k,())) r:=by
 unfold F38;refine vD hs l (λh=>?_) (λh=>by rw[<-h2 (.inl h)];exact Ev.pure _);obtain⟨c,b⟩:=h;have o:=b.tl;have m:=b.len;refine Ev.congr (λn=>?_) (g:=λn=>aj (D.aK (tL k 0 (w.aX.length-1))) (RZ n) (ai (F70 n (rb p w,k,())) λg=>ai (F71 n g.1) λh=>aj (D.aG h.1.1 2) (Z ((bF,aH,5,()),())) (ai (F51 n g.2) λi=>aj (fW nJ 0 (dj 16 g.1.1)) (ai (F335 n (gi (Sg.zero sg) nJ 0 (dj 16 g.1.1),())) (Ch n i)) (aj (fW nJ 1 (dj 16 g.1.1)) (ai (F336 n (gi (Sg.zero sg) nJ 1 (dj 16 g.1.1),())) (Ch n i)) (aj (fW nJ 2 (dj 16 g.1.1)) (ai (F114 n (gi (Sg.zero sg) nJ 2 (dj 16 g.1.1),())) (Ch n i)) (aj (fW nJ 3 (dj 16 g.1.1)) (ai (F337 n (gi (Sg.zero sg) nJ 3 (dj 16 g.1.1),())) (Ch n i)) Y)))))) ?_
 .simp only[Pd,Fu,vI];rw[cT (by omega) (by omega)]
 .cases a:tL k 0 ((w.aX.length:Int)-1)with
  |false=>rw[<-h2 (.inr λh=>by rw[gz.2 ⟨h.1,by omega⟩]at a;cases a)];exact Ev.of_eq λn=>rfl
  |true=>
   have d:=gz.1 a;rw[<-h1 ⟨c,b⟩ d.1 (by omega)];refine Ev.ai (e70 c.ok b d.1 (by omega)) ?_;cases f:fL p w k with
   |none=>exact Ev.of_eq λn=>rfl
   |some r=>obtain⟨q,e⟩:=r;have j:=(kf c.ok b d.1 (by omega) f).1;refine Ev.ai (Ev.of_eq λn=>WT e) ?_;cases e<;>exact Ev.ai (e51 c.ok j) (Ev.of_eq λn=>rfl)
def fD.small(j:lY p)(h:fD p w):jH w:=by
 have h1:=h.len;have h2:=h.tl;have h3:=h.outs;have h4:=h.ins;have i:∀{f:au},eF p w.aY.length f->f.Env.length<=40∧f.bI.length<=40:=λg=>by have a:=g.el;have b:=g.vl;have c:=RF j (j.nd g.lo g.hi);omega
 refine⟨by omega,by omega,by omega,by omega,λo l=>?_⟩;have k:=h.obs o l;cases k with
 | @data n m a b c d=>have:=(j.cons _ (bX bx (show n.toNat<p.Cons.length by omega))).2;exact⟨by simp only;omega,by simp,λf g=>by cases g⟩
 |func a b c d e=>exact⟨by simp only;omega,by simp,λf g=>by cases g⟩
 |cell a=>exact⟨by simp,by simp,λf g=>by cases g⟩
 |chan a b=>exact⟨by simp only;omega,by simp,λf g=>by cases g⟩
 |Av a b c=>exact⟨by simp,by simp;omega,λf g=>i (b f g).1⟩
 |uv a b c=>
  refine⟨by simp,by simp;omega,λf g=>?_⟩;rcases ef.1 g with g|g
  .exact i (b f g).1
  .rw[lg.1 g];exact i c
 |back a b c=>exact⟨by simp,by simp only;omega,λf g=>i (b f g).1⟩
 |done a=>exact⟨by simp,by simp,λf g=>by cases g⟩
 |dead a=>exact⟨by simp,by simp,λf g=>by cases g⟩
end
end
def aei:L TypeId:=[26,22,85,48,3,23,83,89,87,9,24,82,32,29,100,93,95,51,49,98,97,30,55]
noncomputable def CH(t:TypeId):O Ty:=bif aei.contains t then Si.get t else Y
noncomputable def afK(t:TypeId):Bool:=match Si.get t with|some τ=>rdT sg prog CH t τ|none=>W
def acD:aei.all afK=W:=by kernel_rfl
def Lr(t:TypeId)(τ:Ty)(h:CH t=Z τ):rdT sg prog CH t τ=W:=by
 unfold CH at h;cases a:aei.contains t with
 |false=>rw[a]at h;cases h
 |true=>rw[a,cH]at h;have:=eC.1 acD t (by simpa using a);unfold afK at this;rw[h]at this;exact this
def laid:laidOutB prog=W:=by kernel_rfl
def own:ownKnob prog.godebug=Y:=by kernel_rfl
end Mn
end
end
