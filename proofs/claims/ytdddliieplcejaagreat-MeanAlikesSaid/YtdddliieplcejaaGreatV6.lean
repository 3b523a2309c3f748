import Derived.Test.YtdddliieplcejaaGreatRows
import Derived.WalkKit
import Derived.ProofKit
import Derived.OpenShut
import Derived.KernelRfl
import Derived.Test.YtdddliieplcejaaGreatV5
set_option linter.all false
set_option maxRecDepth 100000
set_option maxHeartbeats 0
noncomputable section
open Option renaming some->Z,none->Y
open Bool renaming true->W,false->J
section
namespace Mn
open Go TL
section
section
variable {p:av}{w:ak}
def e30(m:DH p)(e:sH p w):Ev (λn=>F30 n (w,())) ((l5 w,()),()):=by
 have z:=e.len;have r:=e.tl;have d:=EZ m e;have f:=d.len;unfold F30;refine Ev.af (e61 m e) ?_;generalize g:qQ w=a at d f;refine Ev.aM (F:=λn c=>_) (o:=.out 0 ((a.length:Int),((a.take a.length).map (λn=>n4 (λx=>gQ a x) (eU w n)),[],w.fI,w.qG,w.Used,()),()))
  (e8 (s:=λi=>((i:Int),((a.take i).map (λn=>n4 (λx=>gQ a x) (eU w n)),[],w.fI,w.qG,w.Used,()),())) a.length 0 (λi k=>?_) (Ev.of_eq λn=>?_)) (λn c=>_) _ ?_
 .have t:=yI d k;have l:=yH m e t;have b:((a.take i).map (λn=>n4 (λx=>gQ a x) (eU w n))).length<=1000:=by rw[mC,qh];omega
  rw[<-take_succ 0 k,vS,show List.map (λn=>n4 (λx=>gQ a x) (eU w n)) [a.getD i 0]=[n4 (λx=>gQ a x) (w.bC.getD (a.getD i 0).toNat aS)]from rfl];generalize(a.take i).map (λn=>n4 (λx=>gQ a x) (eU w n))=u at b;simp(disch:=first|omega|simp only[DU];omega)only[bx,vG];generalize w.bC.getD (a.getD i 0).toNat aS=o at l;refine Ev.af (e62 l.vl (by omega)) ?_;refine Ev.aM (F:=λn c=>_) (o:=.out 0 ((o.Frames.length:Int),(o.Form,o.N,o.cw.map (iS λx=>gQ a x),(o.Frames.take o.Frames.length).map (sy λx=>gQ a x),()),()))
   (e8 (s:=λj=>((j:Int),(o.Form,o.N,o.cw.map (iS λx=>gQ a x),(o.Frames.take j).map (sy λx=>gQ a x),()),())) o.Frames.length 0 (λj q=>?_) (Ev.of_eq λn=>?_)) (λn c=>_) _ (Ev.of_eq λn=>?_)
  .have v:=l.fl;have h:=l.el _ (cG aF q);have y:((o.Frames.take j).map (sy λx=>gQ a x)).length<=1000:=by rw[mC,qh];omega
   rw[<-take_succ aF q,vS];simp(disch:=first|omega|simp only[DU];omega)only[bx];refine Ev.af (e62 h.1 (by omega)) (Ev.af (e62 h.2 (by omega)) (Ev.of_eq λn=>?_));simp(disch:=omega)only[bx,bO,er,ep];rfl
  .simp (disch:=omega)only[bx]<;>rfl
  .rw[cF,mE];simp(disch:=omega)only[bx,bO,er,ep];rfl
 .simp (disch:=omega)only[bx]<;>rfl
 .rw[mE];refine Ev.congr (λn=>cF ..) ?_;refine Ev.aM (F:=λn c=>_) (o:=.out 0 ((w.bz.length:Int),(a.map (λn=>n4 (λx=>gQ a x) (eU w n)),(w.bz.take w.bz.length).map (λn=>(gQ a n:Int)),w.fI,w.qG,w.Used,()),()))
   (e8 (s:=λi=>((i:Int),(a.map (λn=>n4 (λx=>gQ a x) (eU w n)),(w.bz.take i).map (λn=>(gQ a n:Int)),w.fI,w.qG,w.Used,()),())) w.bz.length 0 (λi k=>?_) (Ev.of_eq λn=>?_)) (λn c=>_) _ (Ev.of_eq λn=>?_)
  .have b:((w.bz.take i).map (λn=>(gQ a n:Int))).length<=1000:=by rw[mC,qh];omega
   rw[<-take_succ 0 k,vS];simp(disch:=first|omega|simp only[DU];omega)only[bx];refine Ev.af (e63 (by omega)) (Ev.of_eq λn=>?_);simp(disch:=omega)only[bx,bO,er,ep];rfl
  .simp (disch:=omega)only[bx]<;>rfl
  .rw[cF,mE];unfold l5;rw[g]
end
abbrev xp(x:Int)(m:L (Int×Int)):Bool:=yT (A:=sg.A) (Ty.int .i64) x m
abbrev oH(x:Int)(m:L (Int×Int)):Int:=Ct (A:=sg.A) (Ty.int .i64) (0:Int) x m
abbrev AA(x v:Int)(m:L (Int×Int)):L (Int×Int):=lz (A:=sg.A) (Ty.int .i64) x v m
def JC(x k v:Int):∀m:L (Int×Int),xp x (AA k v m)=(D.aH x k||xp x m)
 |[]=>by show(bif D.aH x k then W else J)=(D.aH x k||J);cases D.aH x k<;>rfl
 |q::m=>by
  have a:=JC x k v m;show xp x (bif D.aH k q.1 then(k,v)::m else q::AA k v m)=(D.aH x k||(bif D.aH x q.1 then W else xp x m));cases h1:D.aH k q.1 with
  |true=>have h1:=mH.1 h1;show(bif D.aH x k then W else xp x m)=_;rw[<-h1];cases D.aH x k<;>rfl
  |false=>show(bif D.aH x q.1 then W else xp x (AA k v m))=_;rw[a];cases D.aH x k<;>cases D.aH x q.1<;>rfl
def NZ(x k v:Int):∀m:L (Int×Int),oH x (AA k v m)=bif D.aH x k then v else oH x m
 |[]=>rfl
 |q::m=>by
  have a:=NZ x k v m;show oH x (bif D.aH k q.1 then(k,v)::m else q::AA k v m)=(bif D.aH x k then v else(bif D.aH x q.1 then q.2 else oH x m));cases h1:D.aH k q.1 with
  |true=>have h1:=mH.1 h1;show(bif D.aH x k then v else oH x m)=_;rw[<-h1];cases D.aH x k<;>rfl
  |false=>
   show(bif D.aH x q.1 then q.2 else oH x (AA k v m))=_;rw[a];cases h2:D.aH x q.1 with|false=>rfl|true=>rw[mH.1 h2,show D.aH q.1 k=J from gR λe=>by rw[e,gZ rfl]at h1;cases h1];rfl
def nI(s:L (Int×Int)×L Int)(x:Int):L (Int×Int)×L Int:=bif xp x s.1 then s else(AA x s.2.length s.1,s.2++[x])
def gP(s:L (Int×Int)×L Int)(ns:L Int):L (Int×Int)×L Int:=ns.foldl nI s
def w5(s:L (Int×Int)×L Int)(a b:L Int):gP s (a++b)=gP (gP s a) b:=List.foldl_append ..
def tN(s:L (Int×Int)×L Int):Prop:=∀x,xp x s.1=s.2.contains x∧(x∈s.2->oH x s.1=gQ s.2 x)
def Jt:∀{l:L Int}{x y:Int},x∈l->gQ (l++[y]) x=gQ l x
 |[],_,_,h=>by cases h
 |a::l,x,y,h=>by
  show(bif D.aH a x then 0 else gQ (l++[y]) x+1)=(bif D.aH a x then 0 else gQ l x+1);cases b:D.aH a x with
  |true=>rfl
  |false=>
   rcases ej.1 h with h|h
   .rw[gZ h.symm]at b;cases b
   .rw[cM,cM,Jt h]
def Js:∀{l:L Int}{x:Int},x∉l->gQ (l++[x]) x=l.length
 |[],x,_=>by show(bif D.aH x x then 0 else _)=0;rw[gZ rfl];rfl
 |a::l,x,h=>by show(bif D.aH a x then 0 else gQ (l++[x]) x+1)=_;rw[gR λe=>h (by rw[e];exact dX),cM,Js λb=>h (gl _ b),gi]
variable {s:List (Int×Int)×List Int}
def tN.step(h:tN s)(x:Int):tN (nI s x)∧(nI s x).2=pH s.2 x:=by
 unfold nI pH;rw[(h x).1];cases c:s.2.contains x with
 |true=>exact⟨h,rfl⟩
 |false=>
  have d:x∉s.2:=λe=>by rw[BJ.2 e]at c;cases c
  refine⟨λy=>?_,rfl⟩;rw[cM];refine⟨?_,λa=>?_⟩
  .show xp y (AA x s.2.length s.1)=_;rw[JC,(h y).1,IS];simp only[ir,mH,BJ,dy,ko];exact or_comm
  .show oH y (AA x s.2.length s.1)=_;rw[NZ];have a:y∈s.2++[x]:=a;by_cases b:y=x
   .subst b;rw[gZ rfl,cn,Js d]
   .rw[gR b,cM];rcases dy.1 a with a|a
    .rw[(h y).2 a,Jt a]
    .exact absurd (ko.1 a) b
def tN.pts:∀(ns:L Int){s:L (Int×Int)×L Int},tN s->tN (gP s ns)∧(gP s ns).2=dN s.2 ns
 |[],s,h=>⟨h,rfl⟩
 |x::ns,s,h=>by obtain⟨a,b⟩:=h.step x;obtain⟨c,d⟩:=tN.pts ns a;refine⟨c,?_⟩;show(gP (nI s x) ns).2=dN (pH s.2 x) ns;rw[d,b]
def O3(s:L (Int×Int)×L Int)(x:Int):(nI s x).2.length<=s.2.length+1:=by unfold nI;cases xp x s.1<;>simp
def acF:∀(vs:L aJ)(s:L (Int×Int)×L Int)(n a:Nat),s.2.length+vs.length<=1000000->vs.length<=a->
  AN n (a+3) (vs,s.1,(s.2,()),())=Z ((W,()),(gP s (ct vs)).1,((gP s (ct vs)).2,()),())
 |[],s,n,a,_,_=>by rw[OF];unfold B168;simp(disch:=omega)only[bx];rfl
 |v::vs,s,n,0,_,h=>by simp at h
 |v::vs,s,n,a+1,h1,h2=>by
  simp only[gi]at h1 h2;have b:=λe(h:e.2.length+vs.length<=1000000)=>acF vs e n a h (by omega);rw[OF];unfold B168;have e0:aT (v::vs) (ai 0) aB=v:=rfl;have g:eZ (v::vs) 1 (aj (v::vs))=vs:=by show eZ (v::vs) 1 ((v::vs).length:Int)=_;rw[O1];rfl
  have i:az (0:Int) (v::vs)=W:=N3.2 ⟨by omega,by simp only[gi];omega⟩;have j:iz 1 (aj (v::vs)) (aj (v::vs))=W:=Ok.2 ⟨by omega,by simp only[aj,gi];omega,by omega⟩;have k:D.aH (aj (v::vs)) 0=J:=gR (by simp only[aj,gi];omega);simp only[e0,g,i,j,k,Bs,FM,dz];show ah (D.aH v.Kind 5) _ _=_;cases h5:D.aH v.Kind 5 with
  |false=>
   have c:ct (v::vs)=ct vs:=by show(bif D.aH v.Kind 5 then _ else _)=_;rw[h5];rfl
   rw[Bs,c];show af (AN n (a+3) (vs,s.1,(s.2,()),())) _=_;rw[b s (by omega)];rfl
  |true=>
   have c:ct (v::vs)=v.N::ct vs:=by show(bif D.aH v.Kind 5 then _ else _)=_;rw[h5];rfl
   rw[Br,c];have l:gP s (v.N::ct vs)=gP (nI s v.N) (ct vs):=rfl;rw[l];show ah (xp v.N s.1) _ _=_;cases f:xp v.N s.1 with
   |true=>rw[Br];show af (AN n (a+3) (vs,s.1,(s.2,()),())) _=_;rw[show nI s v.N=s from by unfold nI;rw[f];rfl,b s (by omega)];rfl
   |false=>
    rw[Bs,HH (by simp only[IK];omega)];have d:nI s v.N=(AA v.N s.2.length s.1,s.2++[v.N]):=by unfold nI;rw[f];rfl
    show af (AN n (a+3) (vs,(AA v.N s.2.length s.1,s.2++[v.N]).1,((AA v.N s.2.length s.1,s.2++[v.N]).2,()),())) _=_;rw[<-d,b _ (by have:=O3 s v.N;omega)];rfl
def aan{vs:L aJ}(h:s.2.length+vs.length<=1000000):Ev (λn=>AN n (n+9) (vs,s.1,(s.2,()),())) ((W,()),(gP s (ct vs)).1,((gP s (ct vs)).2,()),()):=
 ⟨vs.length,λn a=>acF vs s n (n+6) h (by omega)⟩
end
section
section
variable {p:av}{w:ak}
structure Vf(k:Nat)(s:List (Int×Int)×List Int):Prop where
 m:tN s
 l:Ga k s.2
def Vf.pts{k:Nat}{s:L (Int×Int)×L Int}(h:Vf k s){ns:L Int}(hn:∀x∈ns,0<=x∧x<k):Vf k (gP s ns):=by obtain⟨a,b⟩:=tN.pts ns h.m;exact⟨a,by rw[b];exact h.l.I1 hn⟩
variable {k i:Nat}{s:List (Int×Int)×List Int}{l:List Int}
def ajK(q:k<=1000){o:aZ}(a:Sm p k o)(hs:Vf k s) :
  Ev (λn=>Xr n (n+10) ((o.Form,o.N,o.cw,o.Frames,()),s.1,(s.2,()),())) ((),(o.Form,o.N,o.cw,o.Frames,()),(gP s (kU o)).1,((gP s (kU o)).2,()),()):=by
 refine Ev.congr (λn=>congrFun (Xq n (n+9)) _) ?_;have r:=hs.l.len;have i:=a.vl;unfold B167;refine Ev.af (aan (vs:=o.cw) (by omega)) ?_;have h1:=hs.pts (kB a.v);have b:∀j,Vf k (gP (gP s (ct o.cw)) (fh (o.Frames.take j))):=λj=>h1.pts (ug λf b=>a.f f (E9 b));show Ev (λn=>ah (D.aK W) _ _) _;refine Ev.congr (λn=>dz W _ _) ?_;refine Ev.aM (F:=λn c=>_) (o:=.out 0 ((o.Frames.length:Int),(gP (gP s (ct o.cw)) (fh (o.Frames.take o.Frames.length))).1,((gP (gP s (ct o.cw)) (fh (o.Frames.take o.Frames.length))).2,()),()))
  (e8 (s:=λj=>((j:Int),(gP (gP s (ct o.cw)) (fh (o.Frames.take j))).1,((gP (gP s (ct o.cw)) (fh (o.Frames.take j))).2,()),())) o.Frames.length 0 (λj g=>?_) (Ev.of_eq λn=>?_)) (λn c=>_) _ (Ev.of_eq λn=>?_)
 .have l:=a.fl;have h:=cG aF g;have d:=a.f _ h;have m:=a.el _ h;have h2:=b j;have h3:=h2.pts (kB d.1);have t:=h2.l.len;have u:=h3.l.len;have e:gP (gP s (ct o.cw)) (fh (o.Frames.take (j+1)))=gP (gP (gP (gP s (ct o.cw)) (fh (o.Frames.take j))) (ct (o.Frames.getD j aF).Env)) (ct (o.Frames.getD j aF).cw):=by rw[<-take_succ aF g,vO,w5,BA,w5]
  rw[e];simp(disch:=omega)only[bx];refine Ev.af (aan (by omega)) ?_;refine Ev.af (aan (by omega)) (Ev.of_eq λn=>?_);simp(disch:=omega)only[bx,bO,er,ep]
 .simp (disch:=omega)only[bx]<;>rfl
 .rw[cF,mE,<-w5];rfl
noncomputable def Vy(n:Nat)(c:RB×U)(h:Int×(L (Int×Int))×((L Int)×U)×U):O (LO (Int×(L (Int×Int))×((L Int)×U)×U) U ((L (Int×Int))×((L Int)×U)×U) Any):=
 ah (D.bM h.1 (aj h.2.2.1.1)) (aP (az h.1 h.2.2.1.1) (aP (ef (ai h.1) h.2.2.1.1) (aP (az (aT h.2.2.1.1 (ai h.1) 0) c.1.2.2.2.2.1) (af (Xr n (n+10) (((yg c h).1,(yg c h).2,(yg c h).3,(yg c h).4,()),h.2)) λi=>Z (LO.next (D.add .i64 h.1 1,i.2.2)))))) (Z (LO.out 0 h))
def Ph(b:DH p)(a:sH p w)(hs:Vf w.bC.length s)(c:i<s.2.length) :
  Ev (λn=>Vy n (rb p w,()) ((i:Int),s.1,(s.2,()),())) (.next (((i+1:Nat):Int),(gP s (kU (w.bC.getD (s.2.getD i 0).toNat aS))).1,((gP s (kU (w.bC.getD (s.2.getD i 0).toNat aS))).2,()),())):=by
 have g:=a.len;have d:=yI hs.l c;have e:=yH b a d;have f:=hs.l.len;unfold Vy;simp(disch:=omega)only[bx,yg];refine Ev.af (ajK (by omega) e hs) (Ev.of_eq λn=>?_);simp(disch:=omega)only[bx,bO,er,ep]
def zo(a:L aZ)(i:Nat)(l:L Int):Prop:=∀j,j<i->j<l.length->∀x∈kU (a.getD (l.getD j 0).toNat aS),x∈l
def Sk{x:Int}:x∈pH l x:=by unfold pH;cases a:l.contains x with|true=>exact BJ.1 a|false=>exact gp _ (ko.2 rfl)
def Sj(l:L Int)(x:Int):∃t,pH l x=l++t:=by unfold pH;cases l.contains x with|true=>exact⟨[],by simp⟩|false=>exact⟨[x],rfl⟩
def uj:∀(ns l:L Int),∃t,dN l ns=l++t
 |[],l=>⟨[],by simp[dN]⟩
 |x::ns,l=>by obtain⟨t,h⟩:=Sj l x;obtain⟨a,b⟩:=uj ns (pH l x);exact⟨t++a,by show dN (pH l x) ns=_;rw[b,h,nS]⟩
def yC:∀{ns l:L Int}{x:Int},x∈ns->x∈dN l ns
 |[],_,_,h=>by cases h
 |y::ns,l,x,h=>by
  show x∈dN (pH l y) ns;rcases ej.1 h with rfl|h
  .obtain ⟨t,a⟩:=uj ns (pH l x);rw[a];exact dH _ Sk
  .exact yC h
def zo.next{a:L aZ}(h:zo a i l)(k:i<l.length):zo a (i+1) (dN l (kU (a.getD (l.getD i 0).toNat aS))):=by
 intro j e m x b;obtain⟨t,f⟩:=uj (kU (a.getD (l.getD i 0).toNat aS)) l;have g:∀j,j<l.length->(dN l (kU (a.getD (l.getD i 0).toNat aS))).getD j 0=l.getD j 0:=λj e=>by rw[f,jO,NJ e,<-jO]
 by_cases c:j=i
 .subst c;rw[g j k]at b;exact yC b
 .have d:j<i:=by omega
  rw[g j (by omega)]at b;have:=h j d (by omega) x b;rw[f];exact dH _ this
def BD:∀(a:L aZ)(m i:Nat)(l:L Int),∃t,nQ a m i l=l++t
 |_,0,_,l=>⟨[],by simp[nQ]⟩
 |a,m+1,i,l=>by
  unfold nQ;split
  .obtain ⟨t,h⟩:=uj (kU (a.getD (l.getD i 0).toNat aS)) l;obtain⟨b,c⟩:=BD a m (i+1) (dN l (kU (a.getD (l.getD i 0).toNat aS)));exact⟨t++b,by rw[c,h,nS]⟩
  .exact ⟨[],by simp⟩
def E0(g:DH p)(f:sH p w):∀(m i:Nat)(s:L (Int×Int)×L Int),Vf w.bC.length s->i<=s.2.length->zo w.bC i s.2->w.bC.length+1<=i+m->
  ∃s',Vf w.bC.length s'∧s'.2=nQ w.bC m i s.2∧zo w.bC s'.2.length s'.2∧gM (λn h=>Vy n (rb p w,()) h) ((i:Int),s.1,(s.2,()),()) (.out 0 ((s'.2.length:Int),s'.1,(s'.2,()),()))
 |0,i,s,e,k,_,l=>by have:=e.l.len;omega
 |m+1,i,s,e,k,j,l=>by
  unfold nQ;by_cases h:i<s.2.length
  .rw[aY h];have o:=yI e.l h;have q:=yH g f o;have r:=BT (kU (w.bC.getD (s.2.getD i 0).toNat aS)) s.2;have h2:=(tN.pts (kU (w.bC.getD (s.2.getD i 0).toNat aS)) e.m).2;obtain⟨s',a,b,c,d⟩:=E0 g f m (i+1) (gP s (kU (w.bC.getD (s.2.getD i 0).toNat aS))) (e.pts q.refs) (by rw[h2];omega) (by rw[h2];exact j.next h) (by omega);rw[h2]at b;exact⟨s',a,b,c,.next (Ph g f e h) d⟩
  .rw[bK h];have:i=s.2.length:=by omega
   subst this;refine⟨s,e,rfl,j,.out (Ev.of_eq λn=>?_)⟩;unfold Vy;have:=e.l.len;have:=f.len;simp(disch:=omega)only[bx]
end
end
section
section
variable {α:Type}{g:α->α}{vs:List α}{i:Nat}
def ni(g:α->α)(vs:L α)(i:Nat):L α:=(vs.take i).map g++vs.drop i
def A5:(ni g vs i).length=vs.length:=by unfold ni;rw[su,mC,qh,BP];omega
def Om(d:α)(h:i<vs.length):(ni g vs i).getD i d=vs.getD i d:=by
 have a:((vs.take i).map g).length=i:=by rw[mC,qh];omega
 unfold ni;rw[jO,NM (by omega),a,E1,Au,wZ,jO]
def Ol(d:α)(h:i<vs.length):(ni g vs i).set i (g (vs.getD i d))=ni g vs (i+1):=by
 have a:((vs.take i).map g).length=i:=by rw[mC,qh];omega
 unfold ni;rw[List.set_append_right _ _ (by omega),a,E1,NL h,ND,<-take_succ d h,vS,nS];rfl
def On:ni g vs vs.length=vs.map g:=by unfold ni;rw[mE,List.drop_length,mD]
end
section
variable {p:av}{w:ak}
variable {j:Int×(List (Int×Int))×((List Int)×Unit)×Unit}{g':Int->Int}
def Cq{vs:L aJ}(hl:vs.length<=1000):Ev (λn=>tO n j ((vs,()),())) (.out 0 (vs.map (iS λx=>oH x j.2.1),(vs.length:Int),())):=by
 unfold tO;have h:(vs,(0:Int),())=(ni (iS λx=>oH x j.2.1) vs 0,((0:Nat):Int),()):=rfl;have h1:(vs.map (iS λx=>oH x j.2.1),(vs.length:Int),())=(ni (iS λx=>oH x j.2.1) vs vs.length,(vs.length:Int),()):=by rw[On]
 rw[h1];refine Ev.iter (F:=λn c=>_) (e8 (s:=λi=>(ni (iS λx=>oH x j.2.1) vs i,(i:Int),())) vs.length 0 (λi d=>Ev.of_eq λn=>?_) (Ev.of_eq λn=>?_))
 .have a:(ni (iS λx=>oH x j.2.1) vs i).length=vs.length:=A5;have cC:(ni (iS λx=>oH x j.2.1) vs i).getD i aB=vs.getD i aB:=Om aB d;have sB:=Ol (g:=iS λx=>oH x j.2.1) aB d;have b:i<(ni (iS λx=>oH x j.2.1) vs i).length:=by omega
  generalize e:ni (iS λx=>oH x j.2.1) vs i=f at a cC sB b;rw[<-sB];by_cases h5:(vs.getD i aB).Kind=5
  .simp (disch:=omega)only[bx,cC,h5,bO,er,ep]
   congr 4
   unfold iS;rw[gZ h5,h5];rfl
  .simp (disch:=omega)only[bx,cC,h5,bO,er,ep];rw[show iS (λx=>oH x j.2.1) (vs.getD i aB)=vs.getD i aB from by unfold iS;rw[gR h5];rfl,Rw b cC.symm]
 .have a:(ni (iS λx=>oH x j.2.1) vs vs.length).length=vs.length:=A5;simp(disch:=omega)only[bx]<;>rfl
def LA{l:L aD}{a b:Int}{vs:L aJ}(hl:l.length<=1000)(hf:∀g∈l,g.Env.length<=1000∧g.cw.length<=1000)(F:Nat->Int×(Int×Int×L aJ×L aD×U)×U->O (LO (Int×(Int×Int×L aJ×L aD×U)×U) U ((Int×Int×L aJ×L aD×U)×U) Any))
  (m:∀n t,F n t=ah (D.bM t.1 (aj l)) (aP (az t.1 t.2.1.2.2.2.1) (aP (ef (ai t.1) t.2.1.2.2.2.1) (af (F159 n ((vD t).2,())) λu=>af (tO n j u) λv=>LO.el v (λ_ x=>KC n j t x) (λ_ x=>HU n j t x) λ_ _=>Y))) (Z (LO.out 0 t))) :
  gM F (0,(a,b,vs,l,()),()) (.out 0 ((l.length:Int),(a,b,vs,l.map (sy λx=>oH x j.2.1),()),())):=by
 have h1:(a,b,vs,l.map (sy λx=>oH x j.2.1),())=(a,b,vs,ni (sy λx=>oH x j.2.1) l l.length,()):=by rw[On]
 rw[h1];refine e8 (s:=λi=>((i:Int),(a,b,vs,ni (sy λx=>oH x j.2.1) l i,()),())) l.length 0 (λi e=>?_) (Ev.of_eq λn=>?_)
 .have o:=hf _ (cG aF e);have d:(ni (sy λx=>oH x j.2.1) l i).length=l.length:=A5;have cC:(ni (sy λx=>oH x j.2.1) l i).getD i aF=l.getD i aF:=Om aF e;have sB:=Ol (g:=sy λx=>oH x j.2.1) aF e;have f:i<(ni (sy λx=>oH x j.2.1) l i).length:=by omega
  generalize p:ni (sy λx=>oH x j.2.1) l i=c at d cC sB f;rw[<-sB];have h:vD ((i:Int),(a,b,vs,c,()),())=l.getD i aF:=cC;refine Ev.congr (g:=λn=>af (tO n j (((l.getD i aF).Env,()),())) λv=>LO.el v (λ_ x=>KC n j ((i:Int),(a,b,vs,c,()),()) x) (λ_ x=>HU n j ((i:Int),(a,b,vs,c,()),()) x) λ_ _=>Y) (λn=>?_) ?_
  .rw[m];simp(disch:=omega)only[bx,h];rfl
  .refine Ev.af (Cq o.1) ?_;refine Ev.congr (g:=λn=>af (tO n j (((l.getD i aF).cw,()),())) λz=>LO.el z (λ_ k=>Ut n ((i:Int),(a,b,vs,c,()),()) ((l.getD i aF).Env.map (iS λx=>oH x j.2.1),((l.getD i aF).Env.length:Int),()) k) (λ_ k=>Yg n ((i:Int),(a,b,vs,c,()),()) ((l.getD i aF).Env.map (iS λx=>oH x j.2.1),((l.getD i aF).Env.length:Int),()) k) λ_ _=>Y) (λn=>?_) ?_
   .rw[cF];unfold KC;rw[h];rfl
   .refine Ev.af (Cq o.2) (Ev.of_eq λn=>?_);rw[cF];unfold Ut;simp(disch:=omega)only[bx,h,bO,er,ep];rfl
 .have d:(ni (sy λx=>oH x j.2.1) l l.length).length=l.length:=A5;rw[m];simp(disch:=omega)only[bx]<;>rfl
def n3{g g':Int->Int}:∀{vs:L aJ},(∀x∈ct vs,g x=g' x)->vs.map (iS g)=vs.map (iS g')
 |[],_=>rfl
 |v::vs,h=>by
  rw[jh,jh];have b:ct (v::vs)=bif D.aH v.Kind 5 then v.N::ct vs else ct vs:=rfl
  rw[b]at h;unfold iS;cases a:D.aH v.Kind 5 with
  |true=>
   rw[a,cn]at h;rw[cn,cn,h v.N dX]
   congr 1
   exact n3 λx c=>h x (gl _ c)
  |false=>
   rw[a,cM]at h;rw[cM,cM]
   congr 1
   exact n3 h
def Ci{g g':Int->Int}:∀{a:L aD},(∀x∈fh a,g x=g' x)->a.map (sy g)=a.map (sy g')
 |[],_=>rfl
 |f::a,h=>by
  rw[jh,jh];have c:fh (f::a)=ct f.Env++(ct f.cw++fh a):=rfl;rw[c]at h;unfold sy;rw[n3 (vs:=f.Env) λx b=>h x (dH _ b),n3 (vs:=f.cw) λx b=>h x (gp _ (dH _ b))]
  congr 1
  exact Ci λx b=>h x (gp _ (gp _ b))
def Ly{g:Int->Int}{o:aZ}(h:∀x∈kU o,g x=g' x):n4 g o=n4 g' o:=by unfold n4;rw[n3 λx a=>h x (dH _ a),Ci λx a=>h x (gp _ a)]
end
end
section
section
variable {p:av}{w:ak}
def I6(c:sH p w)(i:Nat):Vf w.bC.length (gP ([],[]) (w.bz.take i))∧(gP ([],[]) (w.bz.take i)).2=dN [] (w.bz.take i):=by obtain⟨a,b⟩:=tN.pts (w.bz.take i) (s:=([],[])) (λx=>⟨rfl,λh=>by cases h⟩);exact⟨⟨a,by rw[b];exact wJ c i⟩,b⟩
def YV(i:DH p)(k:sH p w){s:L (Int×Int)×L Int}(hs:Vf w.bC.length s)(d:s.2=qQ w)(f:zo w.bC s.2.length s.2) :
  (⟨s.2.map (λn=>n4 (λx=>oH x s.1) (eU w n)),w.bz.map (λn=>oH n s.1),w.fI,w.qG,w.Used⟩:ak)=l5 w:=by
 have e:∀x∈s.2,oH x s.1=gQ s.2 x:=λx a=>(hs.m x).2 a;unfold l5;rw[<-d]
 congr 1
 .refine II λn b=>Ly λx a=>e x ?_;obtain⟨j,c,rfl⟩:=oJ b;refine f j c c x ?_;have g:s.2.getD j 0=s.2[j]:=by rw[jO,eS c];rfl
  rw[g];exact a
 .refine II λn b=>e n ?_;rw[d];unfold qQ;obtain⟨t,h⟩:=BD w.bC (w.bC.length+1) 0 (dN [] w.bz);rw[h];exact dH _ (yC b)
def ajz(u:DH p)(e:sH p w):Ev (λn=>G60 n n (rb p w,())) ((l5 w,()),rb p w,()):=by
 have M:=e.len;have C:=e.tl;have v:=I6 e w.bz.length;rw[mE]at v;unfold G60;refine Ev.aM (F:=λn c=>_) (o:=.out 0 ((w.bz.length:Int),(gP ([],[]) (w.bz.take w.bz.length)).1,((gP ([],[]) (w.bz.take w.bz.length)).2,()),()))
  (e8 (s:=λi=>((i:Int),(gP ([],[]) (w.bz.take i)).1,((gP ([],[]) (w.bz.take i)).2,()),())) w.bz.length 0 (λi h=>Ev.of_eq λn=>?_) (Ev.of_eq λn=>?_)) (λn c=>_) _ ?_
 .have E:=(I6 e i).1.l.len;rw[<-take_succ 0 h,w5];generalize gP ([],[]) (w.bz.take i)=s at E;show _=Z (LO.next (((i+1:Nat):Int),(nI s (w.bz.getD i 0)).1,((nI s (w.bz.getD i 0)).2,()),()));have G:KD (rb p w,()) ((i:Int),s.1,(s.2,()),())=w.bz.getD i 0:=rfl;simp(disch:=first|omega|simp only[DU];omega)only[bx,G];show ah (xp (w.bz.getD i 0) s.1) _ _=_;unfold nI;cases N:xp (w.bz.getD i 0) s.1 with|true=>simp(disch:=omega)only[bx,bO,er,ep]|false=>simp(disch:=omega)only[bx,bO,er,ep]
 .simp (disch:=omega)only[bx]<;>rfl
 rw[mE];refine Ev.congr (λn=>cF ..) ?_;obtain⟨s,y,l,H,k⟩:=E0 u e (w.bC.length+1) 0 (gP ([],[]) w.bz) v.1 (yA _) (λj P=>by omega) (by omega);refine Ev.aM k (λn c=>_) _ ?_;refine Ev.congr (λn=>cF ..) ?_;rw[v.2]at l;have l:s.2=qQ w:=l;rw[<-YV u e y l H];have I:=y.l.len;refine Ev.af (Ev.of_eq λn=>e90 w.fI) (Ev.af (Ev.of_eq λn=>e49 w.qG) ?_);refine Ev.aM (F:=λn c=>_) (o:=.out 0 ((s.2.length:Int),((s.2.take s.2.length).map (λn=>n4 (λx=>oH x s.1) (eU w n)),[],w.fI,w.qG,w.Used,()),()))
  (e8 (s:=λi=>((i:Int),((s.2.take i).map (λn=>n4 (λx=>oH x s.1) (eU w n)),[],w.fI,w.qG,w.Used,()),())) s.2.length 0 (λi h=>?_) (Ev.of_eq λn=>?_)) (λn c=>_) _ ?_
 .have K:=yI y.l h;have t:=yH u e K;have d:((s.2.take i).map (λn=>n4 (λx=>oH x s.1) (eU w n))).length<=1000:=by rw[mC,qh];omega
  rw[<-take_succ 0 h,vS,show List.map (λn=>n4 (λx=>oH x s.1) (eU w n)) [s.2.getD i 0]=[n4 (λx=>oH x s.1) (w.bC.getD (s.2.getD i 0).toNat aS)]from rfl];generalize(s.2.take i).map (λn=>n4 (λx=>oH x s.1) (eU w n))=f at d;have z:Aj (rb p w,()) ((s.2.length:Int),s.1,(s.2,()),()) ((i:Int),(f,[],w.fI,w.qG,w.Used,()),())=w.bC.getD (s.2.getD i 0).toNat aS:=rfl;generalize A:w.bC.getD (s.2.getD i 0).toNat aS=o at t z;refine Ev.congr (g:=λn=>af (tO n ((s.2.length:Int),s.1,(s.2,()),()) ((o.cw,()),())) λq=>LO.el q (λ_ r=>MS n (rb p w,()) ((s.2.length:Int),s.1,(s.2,()),()) ((i:Int),(f,[],w.fI,w.qG,w.Used,()),()) r) (λ_ r=>Uu n (rb p w,()) ((s.2.length:Int),s.1,(s.2,()),()) ((i:Int),(f,[],w.fI,w.qG,w.Used,()),()) r) λ_ _=>Y) (λn=>?_) ?_
  .simp (disch:=omega)only[bx,A];rw[z];rfl
  .refine Ev.af (Cq t.vl) ?_;refine Ev.congr (λn=>cF ..) ?_;unfold MS;simp only[z];refine Ev.af (Ev.of_eq λn=>ajP o.Frames) ?_;refine Ev.aM (LA (j:=((s.2.length:Int),s.1,(s.2,()),())) (a:=o.Form) (b:=o.N) t.fl t.el _ (λn m=>rfl)) (λn m=>_) _ (Ev.of_eq λn=>?_);rw[cF];simp(disch:=first|omega|simp only[DU];omega)only[bx,bO,er,ep];rfl
 .simp (disch:=omega)only[bx]<;>rfl
 rw[mE];refine Ev.congr (λn=>cF ..) ?_;refine Ev.aM (F:=λn c=>_) (o:=.out 0 ((w.bz.length:Int),(s.2.map (λn=>n4 (λx=>oH x s.1) (eU w n)),(w.bz.take w.bz.length).map (λn=>oH n s.1),w.fI,w.qG,w.Used,()),()))
  (e8 (s:=λi=>((i:Int),(s.2.map (λn=>n4 (λx=>oH x s.1) (eU w n)),(w.bz.take i).map (λn=>oH n s.1),w.fI,w.qG,w.Used,()),())) w.bz.length 0 (λi h=>Ev.of_eq λn=>?_) (Ev.of_eq λn=>?_)) (λn c=>_) _ (Ev.of_eq λn=>?_)
 .have d:((w.bz.take i).map (λn=>oH n s.1)).length<=1000:=by rw[mC,qh];omega
  have B:∀q,MR (rb p w,()) ((i:Int),q,())=w.bz.getD i 0:=λq=>rfl;rw[<-take_succ 0 h,vS];simp(disch:=first|omega|simp only[DU];omega)only[bx,B,bO,er,ep];rfl
 .simp (disch:=omega)only[bx]<;>rfl
 .rw[cF,mE]
def e60(a:DH p)(b:sH p w):Ev (λn=>F60 n (rb p w,())) ((l5 w,()),rb p w,()):=ajz a b
def Vc(hs:Small p)(a:mL w){r:(ak×Int×U)×U}(h1:FP p∧sH p w->((l5 w,0,()),())=r)(h2:¬(FP p∧sH p w)->((cm,2,()),())=r):Ev (λn=>F28 n (p,w,())) r:=by unfold F28;refine EV hs a (λh=>?_) (λh=>by rw[<-h2 h];exact Ev.pure _);rw[<-h1 h];exact Ev.af (e60 h.1.ok h.2) (Ev.pure _)
def e29(hs:Small p)(a:mL w){r:(Int×U)×U}(h1:FP p∧sH p w->((0,()),())=r)(h2:¬(FP p∧sH p w)->((2,()),())=r):Ev (λn=>F29 n (p,w,())) r:=by unfold F29;refine EV hs a (λh=>?_) (λh=>by rw[<-h2 h];exact Ev.pure _);rw[<-h1 h];exact Ev.pure _
end
end
section
section
variable {α β:Type}
def V2{l m:L α}(d:α)(hl:l.length=m.length)(h:∀i,i<l.length->l.getD i d=m.getD i d):l=m:=by refine List.ext_getElem hl λi h1 h2=>?_;have:=h i h1;rwa [jO,jO,eS h1,eS h2]at this
abbrev LOE:=LO (Int×U) (Bool×U) U Any
def Ev.Qw{l m:L α}(d:α){F:Nat->Int×U->O LOE}(T:Nat->α->α->Int×U->O LOE)
  (s:∀n c,F n c=ah (D.bM c.1 (aj l)) (aP (az c.1 l) (aP (az c.1 m) (T n (aT l (ai c.1) d) (aT m (ai c.1) d) c))) (Z (LO.out 0 c))) (hl:l.length<=1000)
  (t:∀a∈l,∀b∈m,∃e:Bool,(e=W↔a=b)∧∀i:Nat,i<=1000->Ev (λn=>T n a b ((i:Int),())) (bif e then .next (((i+1:Nat):Int),())else .ret () (J,())))
  {A:Nat->O β} {g:Nat->LOE->O β} {r:β} (h1:l=m->Ev (λn=>g n (.out 0 ((l.length:Int),()))) r) (h2:l≠m->Ev A r∧Ev (λn=>g n (.ret () (J,()))) r) :
  Ev (λn=>ah (D.aK (D.aH (aj l) (aj m))) (A n) (af (iter (F n) n (0,())) (g n))) r:=by
 by_cases j:l.length=m.length
 .refine Ev.congr (λn=>(dz _ _ _).trans (nM (show aj l=aj m by simp only[aj];omega) _ _)) ?_;have o:∀i,i<l.length->∃e:Bool,(e=W↔l.getD i d=m.getD i d)∧Ev (λn=>F n ((i:Int),())) (bif e then .next (((i+1:Nat):Int),())else .ret () (J,())):=λi f=>by obtain⟨e,a,b⟩:=t _ (cG d f) _ (cG d (show i<m.length by omega));refine⟨e,a,Ev.congr (λn=>?_) (b i (by omega))⟩;rw[s];simp(disch:=omega)only[bx]
  let q:Nat->Bool:=λi=>if h:i<l.length then Classical.choose (o i h)else W
  have k:∀i,i<l.length->(q i=W↔l.getD i d=m.getD i d)∧Ev (λn=>F n ((i:Int),())) (bif q i then .next (((i+1:Nat):Int),())else .ret () (J,())):=λi f=>by have:q i=Classical.choose (o i f):=dif_pos f;rw[this];exact Classical.choose_spec (o i f)
  rcases dZ l.length q (λ_=>.ret () (J,())) (λ_ _ h=>by cases h) (λi f=>(k i f).2) (λn=>by rw[s];simp(disch:=omega)only[bx])with⟨a,p⟩|⟨i,f,a,p⟩
  .exact Ev.aM p g _ (h1 (V2 d j λi f=>(k i f).1.1 (a i f)))
  .refine Ev.aM p g _ (h2 λh=>?_).2;subst h;rw[(k i f).1.2 rfl]at a;cases a
 .refine Ev.congr (λn=>(dz _ _ _).trans (lK (show aj l≠aj m by simp only[aj];omega) _ _)) (h2 λh=>j (by rw[h])).1
end
def Vh{a b:aJ}:D.eJ (D.aH a.1 b.1) (D.eJ (D.aH a.2 b.2) W)=W↔a=b:=by obtain⟨x,y⟩:=a;obtain⟨c,d⟩:=b;simp[D.eJ,D.aH]
def abT{a b:dW}:D.eJ (D.aH a.1 b.1) (D.eJ (D.aH a.2 b.2) W)=W↔a=b:=by obtain⟨x,y⟩:=a;obtain⟨c,d⟩:=b;simp[D.eJ,D.aH]
def gV(e:Bool)(i:Nat)(a:i<=1000):Ev (λ_:Nat=>ah (D.aK e) (Z (LO.ret () (J,()))) (Z (LO.next (D.add .i64 (i:Int) 1,())))) ((bif e then .next (((i+1:Nat):Int),())else .ret () (J,())):LOE):=by refine Ev.of_eq λn=>?_;cases e<;>simp(disch:=omega)only[bx,bO,er,ep]<;>rfl
def ad7{l m:L Int}(hl:l.length<=1000):∃b,Ev (λn=>F26 n (l,m,())) ((b,()),())∧(b=W↔l=m):=by
 refine⟨@decide (l=m) (Classical.propDecidable _),?_,by simp⟩;unfold F26;refine Ev.Qw (0:Int) (λn a b c=>ah (D.aK (D.aH a b)) (Z (LO.ret () (J,()))) (Z (LO.next (D.add .i64 c.1 1,())))) (λn c=>rfl) hl (λa _ b _=>⟨D.aH a b,oT,λi d=>gV _ i d⟩) (λh=>?_) (λh=>?_)
 .rw[@ez _ (_) h];exact Ev.of_eq λn=>rfl
 .rw[@eP _ (_) h];exact⟨Ev.of_eq λn=>rfl,Ev.of_eq λn=>rfl⟩
def ajD{l m:L dW}(hl:l.length<=1000):∃b,Ev (λn=>F27 n (l,m,())) ((b,()),())∧(b=W↔l=m):=by
 refine⟨@decide (l=m) (Classical.propDecidable _),?_,by simp⟩;unfold F27;refine Ev.Qw eg (λn a b c=>ah (D.aK (D.eJ (D.aH a.1 b.1) (D.eJ (D.aH a.2 b.2) W))) (Z (LO.ret () (J,()))) (Z (LO.next (D.add .i64 c.1 1,())))) (λn c=>rfl) hl (λa _ b _=>⟨_,abT,λi d=>gV _ i d⟩) (λh=>?_) (λh=>?_)
 .rw[@ez _ (_) h];exact Ev.of_eq λn=>rfl
 .rw[@eP _ (_) h];exact⟨Ev.of_eq λn=>rfl,Ev.of_eq λn=>rfl⟩
def aal{l m:L aJ}(hl:l.length<=1000):∃b,Ev (λn=>F98 n (l,m,())) ((b,()),())∧(b=W↔l=m):=by
 refine⟨@decide (l=m) (Classical.propDecidable _),?_,by simp⟩;unfold F98;refine Ev.Qw aB (λn a b c=>ah (D.aK (D.eJ (D.aH a.1 b.1) (D.eJ (D.aH a.2 b.2) W))) (Z (LO.ret () (J,()))) (Z (LO.next (D.add .i64 c.1 1,())))) (λn c=>rfl) hl (λa _ b _=>⟨_,Vh,λi d=>gV _ i d⟩) (λh=>?_) (λh=>?_)
 .rw[@ez _ (_) h];exact Ev.of_eq λn=>rfl
 .rw[@eP _ (_) h];exact⟨Ev.of_eq λn=>rfl,Ev.of_eq λn=>rfl⟩
structure SmO(o:aZ):Prop where
 v:o.cw.length<=1000
 f:o.Frames.length<=1000
 e:∀g∈o.Frames,g.Env.length<=1000∧g.cw.length<=1000
def Tz{a b:aD}:a=b↔a.Node=b.Node∧a.Env=b.Env∧a.cw=b.cw:=by obtain⟨x,y,z⟩:=a;obtain⟨c,d,e⟩:=b;simp
def abV{a b:aZ}:a=b↔a.Form=b.Form∧a.N=b.N∧a.cw=b.cw∧a.Frames=b.Frames:=by obtain⟨x,y,z,u⟩:=a;obtain⟨c,d,e,f⟩:=b;simp
def Re{a b:ak}:a=b↔a.bC=b.bC∧a.bz=b.bz∧a.fI=b.fI∧a.qG=b.qG∧a.Used=b.Used:=by obtain⟨x,y,z,u,v⟩:=a;obtain⟨c,d,e,f,g⟩:=b;simp
def ajA{o q:aZ}(s:SmO o):∃b,Ev (λn=>F57 n (o,q,())) ((b,()),())∧(b=W↔o=q):=by
 have yes:∀{r:Bool×U},o=q->r=(W,())->((@decide (o=q) (Classical.propDecidable _),()),())=(r,()):=λh z=>by rw[@ez _ (_) h,z]
 have no:¬o=q->(((@decide (o=q) (Classical.propDecidable _)),()),())=((J,()),()):=λh=>by rw[@eP _ (_) h]
 refine⟨@decide (o=q) (Classical.propDecidable _),?_,by simp⟩;unfold F57;by_cases h1:o.Form=q.Form;rotate_left
 .rw[no λh=>h1 (by rw[h])];exact Ev.of_eq λn=>(dz _ _ _).trans ((lK h1 _ _).trans rfl)
 refine Ev.congr (λn=>(dz _ _ _).trans (nM h1 _ _)) ?_;by_cases h2:o.N=q.N;rotate_left
 .rw[no λh=>h2 (by rw[h])];exact Ev.of_eq λn=>(dz _ _ _).trans ((lK h2 _ _).trans rfl)
 refine Ev.congr (λn=>(dz _ _ _).trans (nM h2 _ _)) ?_;obtain⟨b,t,f⟩:=aal (l:=o.cw) (m:=q.cw) s.v;refine Ev.af t ?_;cases b with
 |false=>rw[no λh=>by have:=f.2 (by rw[h]);cases this];exact Ev.of_eq λn=>rfl
 |true=>
  have h3:=f.1 rfl;refine Ev.congr (λn=>dz W _ _) ?_;refine Ev.Qw (l:=o.Frames) (m:=q.Frames) aF (λn a b d=>ah (D.aK (D.aH a.1 b.1)) (Z (LO.ret () (J,()))) (af (F98 n (a.2,b.2,())) λe=>ah (D.aK e.1.1) (Z (LO.ret () (J,()))) (af (F98 n (a.3,b.3,())) λg=>ah (D.aK g.1.1) (Z (LO.ret () (J,()))) (Z (LO.next (D.add .i64 d.1 1,())))))) (λn c=>rfl) s.f (λa A b G=>?_) (λh=>?_) (λh=>?_)
  .refine ⟨@decide (a=b) (Classical.propDecidable _),by simp,λi B=>?_⟩;have j:¬a=b->(bif @decide (a=b) (Classical.propDecidable _)then .next (((i+1:Nat):Int),())else .ret () (J,()):LOE)=.ret () (J,()):=λh=>by rw[@eP _ (_) h];rfl
   have x:=s.e a A;by_cases p:a.Node=b.Node;rotate_left
   .rw[j λh=>p (by rw[h])];exact Ev.of_eq λn=>(dz _ _ _).trans ((lK p _ _).trans rfl)
   refine Ev.congr (λn=>(dz _ _ _).trans (nM p _ _)) ?_;obtain⟨C,u,k⟩:=aal (l:=a.Env) (m:=b.Env) x.1;refine Ev.af u ?_;cases C with
   |false=>rw[j λh=>by have:=k.2 (by rw[h]);cases this];exact Ev.of_eq λn=>rfl
   |true=>
    refine Ev.congr (λn=>dz W _ _) ?_;obtain⟨y,v,w⟩:=aal (l:=a.cw) (m:=b.cw) x.2;refine Ev.af v ?_;have E:y=@decide (a=b) (Classical.propDecidable _):=by rw[IS,w,@IY _ (Classical.propDecidable _),Tz];exact⟨λh=>⟨p,k.1 rfl,h⟩,λh=>h.2.2⟩
    rw[<-E];exact gV y i B
  .rw[@ez _ (_) (abV.2 ⟨h1,h2,h3,h⟩)];exact Ev.of_eq λn=>rfl
  .rw[no λF=>h (by rw[F])];exact⟨Ev.of_eq λn=>rfl,Ev.of_eq λn=>rfl⟩
structure Ug(w:ak):Prop where
 o:w.bC.length<=1000
 t:w.bz.length<=1000
 u:w.fI.length<=1000
 i:w.qG.length<=1000
 s:∀o∈w.bC,SmO o
variable {w:ak}
def aea{x:ak}(d:Ug w):∃b,Ev (λn=>F19 n (w,x,())) ((b,()),())∧(b=W↔w=x):=by
 have no:¬w=x->(((@decide (w=x) (Classical.propDecidable _)),()),())=((J,()),()):=λh=>by rw[@eP _ (_) h]
 refine⟨@decide (w=x) (Classical.propDecidable _),?_,by simp⟩;unfold F19;by_cases p:w.bC.length=x.bC.length;rotate_left
 .rw[no λh=>p (by rw[h])];exact Ev.of_eq λn=>(dz _ _ _).trans ((lK (show aj w.1≠aj x.1 by simp only[aj];omega) _ _).trans rfl)
 have f:aj w.1=aj x.1:=by simp only[aj];omega
 refine Ev.congr (λn=>(dz _ _ _).trans (nM f _ _)) ?_;obtain⟨s,t1,t2⟩:=ad7 (l:=w.bz) (m:=x.bz) d.t;refine Ev.af t1 ?_;cases s with
 |false=>rw[no λh=>by have:=t2.2 (by rw[h]);cases this];exact Ev.of_eq λn=>rfl
 |true=>
 refine Ev.congr (λn=>dz W _ _) ?_;obtain⟨t,u,j⟩:=ajD (l:=w.fI) (m:=x.fI) d.u;refine Ev.af u ?_;cases t with
 |false=>rw[no λh=>by have:=j.2 (by rw[h]);cases this];exact Ev.of_eq λn=>rfl
 |true=>
 refine Ev.congr (λn=>dz W _ _) ?_;obtain⟨v,y,k⟩:=ad7 (l:=w.qG) (m:=x.qG) d.i;refine Ev.af y ?_;cases v with
 |false=>rw[no λh=>by have:=k.2 (by rw[h]);cases this];exact Ev.of_eq λn=>rfl
 |true=>
 refine Ev.congr (λn=>dz W _ _) ?_;by_cases h5:w.Used=x.Used;rotate_left
 .rw[no λh=>h5 (by rw[h])];exact Ev.of_eq λn=>(dz _ _ _).trans ((lK h5 _ _).trans rfl)
 refine Ev.congr (λn=>(dz _ _ _).trans (nM h5 _ _)) ?_;have key:=Ev.Qw (l:=w.bC) (m:=x.bC) (β:=(Bool×U)×U) aS (λn a b c=>af (F57 n (a,b,())) λh=>ah (D.aK h.1.1) (Z (LO.ret () (J,()))) (Z (LO.next (D.add .i64 c.1 1,())))) (λn c=>rfl) d.o (λa z b G=>by
   obtain⟨e,B,C⟩:=ajA (o:=a) (q:=b) (d.s a z);exact⟨e,C,λi E=>Ev.af B (gV e i E)⟩) (A:=λn=>Gf n) (g:=λn g=>LO.el g (λ_ _=>Z ((W,()),())) (λ_ i=>Z (i,())) λ_ _=>Y) (r:=((@decide (w=x) (Classical.propDecidable _),()),()))
  (λh=>by rw[@ez _ (_) (Re.2 ⟨h,t2.1 rfl,j.1 rfl,k.1 rfl,h5⟩)];exact Ev.of_eq λn=>rfl)
  (λh=>by rw[no λF=>h (by rw[F])];exact⟨Ev.of_eq λn=>rfl,Ev.of_eq λn=>rfl⟩)
 exact Ev.congr (λn=>((dz _ _ _).trans (nM f _ _)).symm) key
def PD{n:Int}(a:0<=n)(h1:n<w.bC.length):eU w n∈w.bC:=by
 have h:n.toNat<w.bC.length:=by omega
 show w.bC.getD n.toNat aS∈_;rw[jO,eS h];exact BI h
def Lt{p:av}(e:DH p)(d:sH p w):Ug (l5 w):=by
 have s:=d.len;have i:=d.tl;have h:=EZ e d;have j:=h.len;refine⟨?_,?_,?_,?_,?_⟩
 .simp only[l5,mC];omega
 .simp only[l5,mC];omega
 .exact eO d.outs (by omega)
 .exact eO d.ins (by omega)
 .intro o k;obtain⟨n,l,rfl⟩:=sr.1 k;obtain⟨m,h1⟩:=h.2 n l;obtain⟨a,b,c⟩:=(d.obs _ (PD m h1)).small e;refine⟨by simp only[n4,mC];exact a,by simp only[n4,mC];exact b,λg q=>?_⟩;obtain⟨f,r,rfl⟩:=sr.1 q;simp only[sy,mC];exact c f r
end
def aaA:L TypeId:=[26,22,85,48,3,23,83,89,87,9,24,82,32,29,100,93,95,51,49,98,97,30,55]
noncomputable def U4(t:TypeId):O Ty:=bif aaA.contains t then OU.get t else Y
noncomputable def abO(t:TypeId):Bool:=match OU.get t with|some τ=>XC sg prog U4 t τ|none=>W
def YR:aaA.all abO=W:=by kernel_rfl
def XB(t:TypeId)(τ:Ty)(h:U4 t=Z τ):XC sg prog U4 t τ=W:=by
 unfold U4 at h;cases a:aaA.contains t with
 |false=>rw[a]at h;cases h
 |true=>rw[a,cn]at h;have:=dU.1 YR t (by simpa using a);unfold abO at this;rw[h]at this;exact this
def laid:laidOutB prog=W:=by kernel_rfl
def own:ownKnob prog.godebug=Y:=by kernel_rfl
end Mn
end
end
