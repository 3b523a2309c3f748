/- The statement MeanGrows of hearthlaw06 holds for all programs, worlds and picks: the law's function returns true at each of them, whatever the sizes are. -/
import Derived.Test.YtdddliieplcejaaGreatU05
import Derived.Test.YtdddliieplcejaaGreatU6
set_option linter.all false
set_option maxRecDepth 100000
set_option maxHeartbeats 0
noncomputable section
open Option renaming some->Z,none->Y
open Bool renaming true->W,false->J
section
namespace Mn
open Go TL
section
def v9(e:aA):L cS:=if e.Do=24 then[⟨e.N,e.V.N⟩]else[]
def EK(e:aA):O aq:=if e.Do=25 then Z e.V else Y
def evL:O aA->L aA
 |none=>[]
 |some e=>[e]
structure Gr(w x:aa)(l:List aA):Prop where
 outs:x.fe=w.fe++l.flatMap v9
 tasks:∃ts,x.aX=w.aX++ts
 ins:∃ii:List Int,w.kM=ii++x.kM∧x.Used=w.Used+ii.length∧l.filterMap EK=ii.map gf
section
variable {p:ax}{w x y:aa}{l m:List aA}{left:List au}{at_:Int}{f:au}{v u:aq}
def Gr.same(h1:x.fe=w.fe)(h2:∃ts,x.aX=w.aX++ts)(h3:x.kM=w.kM)(h4:x.Used=w.Used):Gr w x []:=
 ⟨by simpa using h1,h2,[],by simp[h3],by simp[h4],rfl⟩
def Gr.refl:Gr w w []:=.same rfl ⟨[],by simp⟩ rfl rfl
def Gr.trans(h:Gr w x l)(a:Gr x y m):Gr w y (l++m):=by obtain⟨a1,⟨t1,a2⟩,b,c,d,d1⟩:=h;obtain⟨a3,⟨t2,e⟩,f,g,i,d2⟩:=a;refine⟨by rw[a3,a1,List.flatMap_append,nk],⟨t1++t2,by rw[e,a2,nk]⟩,b++f,by rw[c,g,nk],by rw[i,d,gw];omega,by rw[List.filterMap_append,d1,d2,HE]⟩
variable {e:aA}{o:aE}{env:List aq}
def Gr.ev(h:Gr w x [])(h1:e.Do≠24)(h2:e.Do≠25):Gr w x [e]:=by have:Gr x x [e]:=⟨by simp[v9,h1],⟨[],by simp⟩,[],by simp,by simp,by simp[EK,h2]⟩;exact h.trans this
def Gr.set{t:Int}(h:Gr w x l):Gr w (lB x t o) l:=⟨h.outs,h.tasks,h.ins⟩
def Gr.add:Gr w (fA w o) []:=.same rfl ⟨[],by simp[fA]⟩ rfl rfl
def GR(w:aa):ou->Prop
 | .go x _ _ e=>Gr w x (evL e)
 |_=>True
def Aq{node:Int}(h:Gr w x []):GR w (iM x left node env):=by
 unfold iM;split
 .trivial
 .exact h
def JB:GR w (jY w left o):=by
 unfold jY;split
 .trivial
 .exact Gr.add
def abE{r:ou}{op n:Int}(h:GR w r)(b:∀x fr a e,r=.go x fr a e->e=Y)(h1:op≠24)(h2:op≠25):GR w (evS at_ op n v r):=by cases r with|go x fr a e=>have:=b x fr a e rfl;subst this;exact Gr.ev h h1 h2|_=>trivial
def HW:∀x fr a e,jY w left o=.go x fr a e->e=Y:=by
 intro x fr a e h;unfold jY at h;split at h
 .cases h
 .cases h;rfl
def RC{env:L aq}:∀(qs:L aC)(a:L Int),GR w (kK w left env u qs a)
 |[],a=>by cases a<;>trivial
 |_::_,[]=>trivial
 |q::qs,k::a=>by
  unfold kK;split
  .exact Aq Gr.refl
  .exact RC qs a
def VK(h:v.Kind=1):mX v=v:=by unfold mX;rw[br (by omega)]
def afS:GR w (iI p w at_ left f):=by
 have back:∀{v:aq},GR w (fH w left v):=λ{v}=>Gr.refl;have ev:∀{x:aa}{a:L au}{b:L aq}{k n:Int}{v:aq},Gr w x []->k≠24->k≠25->GR w (.go x a b (Z ⟨at_,k,n,v⟩)):=λh h1 h2=>h.ev h1 h2;unfold iI;simp only;split
 .exact back
 .exact back
 .exact back
 .split
  .exact back
  .split
   .trivial
   .exact back
 .exact JB
 .unfold xX;split
  .split
   .trivial
   .exact Gr.refl
  .split
   .trivial
   .exact Aq Gr.refl
 .exact Aq Gr.refl
 .split
  .trivial
  .exact Aq Gr.refl
 .unfold mw;simp only
  repeat' split
  all_goals first|exact back|trivial
 .unfold mw;simp only
  repeat' split
  all_goals first|exact back|trivial
 .unfold mw;simp only
  repeat' split
  all_goals first|exact back|trivial
 .unfold mw;simp only
  repeat' split
  all_goals first|exact back|trivial
 .unfold mw;simp only
  repeat' split
  all_goals first|exact back|trivial
 .exact JB
 .exact RC _ _
 .exact abE JB HW (by decide) (by decide)
 .unfold O3;split
  .trivial
  .exact ev Gr.refl (by decide) (by decide)
 .unfold g9;split
  .trivial
  .exact ev Gr.refl.set (by decide) (by decide)
 .unfold xk;simp only;have mk:∀{o:aE},GR w (if 120<=w.aY.length then .fail 4 else .go ⟨w.aY++[o],w.aX++[(w.aY.length:Int)],w.fe,w.kM,w.Used⟩ left [tE w.aY.length] (Z ⟨at_,19,0,fq⟩)):=by
   intro o;split
   .trivial
   .exact ev (Gr.same rfl ⟨_,rfl⟩ rfl rfl) (by decide) (by decide)
  split
  .exact mk
  .split
   .trivial
   .split
    .trivial
    .exact mk
 .unfold ED;split
  .trivial
  .split
   .trivial
   .split
    .trivial
    .exact ev Gr.refl (by decide) (by decide)
 .exact abE JB HW (by decide) (by decide)
 .unfold Dz;split
  .trivial
  .split
   .trivial
   .exact ev Gr.refl.set (by decide) (by decide)
 .unfold Dq;split
  .trivial
  .split
   .trivial
   .exact ev Gr.refl.set (by decide) (by decide)
 .unfold Ou;split
  .trivial
  .rename_i d;split
   .trivial
   .rw[VK (show(bU f.bI 0).Kind=1 by omega)];exact⟨rfl,⟨[],by simp⟩,[],rfl,by simp,rfl⟩
 .unfold inS;split
  .trivial
  .rename_i i l c;split
   .trivial
   .exact ⟨by simp[evL,v9],⟨[],by simp⟩,[i],c,rfl,rfl⟩
 .exact back
 .unfold xm;split
  .trivial
  .split
   .trivial
   .exact Aq Gr.add
 .exact ev Gr.refl (by decide) (by decide)
def ahA:GR w (Tu p w at_ o):=by
 unfold Tu;simp only;split
 .exact Gr.refl
 .split
  .exact Aq Gr.refl
  .exact afS
def QE{x:aa}{e:O aA}(h:fL p w at_=Z (x,e)):Gr w x (evL e):=by
 unfold fL at h;simp only at h;split at h
 .cases h
 split at h
 .cases h;exact Gr.refl.set.ev (by simp) (by simp)
 have a:=ahA (p:=p) (w:=w) (at_:=at_) (o:=cr w (bT w at_));split at h
 .cases h
 .cases h;exact Gr.refl.set.ev (by simp) (by simp)
 .rename_i c d f g b;rw[b]at a;cases h;exact a.set
def UX:∀(k:Nat)(w:aa)(s:Nat)(x:aa)(s':Nat),vW p at_ k w s=Z (x,s')->Gr w x []
 |0,_,_,_,_,h=>by cases h
 |k+1,w,s,x,s',h=>by
  unfold vW at h;split at h
  .rename_i a b;split at h
   .cases h
   .exact (QE b).trans (UX k a (s+1) x s' h)
  .cases h;exact Gr.refl
def vA:∀(m i:Nat)(w:aa)(s:Nat)(x:aa)(s':Nat),dD p m i w s=Z (x,s')->Gr w x []
 |0,_,_,_,_,_,h=>by cases h;exact Gr.refl
 |m+1,i,w,s,x,s',h=>by
  unfold dD at h;split at h
  .cases h
  .rename_i a b c;exact(UX _ _ _ _ _ c).trans (vA m (i+1) a b x s' h)
def YI{k:Int}{s:Nat}(h:gm p w k=.ok x e s):Gr w x [e]:=by
 unfold gm at h;split at h
 .cases h
 .rename_i c d h1;split at h
  .cases h
  .split at h
   .cases h
   .rename_i f b h2;split at h
    .cases h
    .rename_i g i h3;split at h
     .cases h
     .cases h;have a:=((vA _ _ _ _ _ _ h1).trans (QE h2)).trans (vA _ _ _ _ _ _ h3);simp only[vX,ij]at a;cases b with|none=>exact a.ev (by decide) (by decide)|some e=>exact a
def Q1:∀(a:L Int){w x:aa}{l:L aA},iz p a w=Z (x,l)->Gr w x l
 |[],w,x,l,h=>by cases h;exact Gr.refl
 |k::a,w,x,l,h=>by
  unfold iz at h;split at h
  .cases h
  .cases h;exact Gr.refl
  .rename_i d e s b;split at h
   .cases h
   .rename_i f g c;cases h;exact(YI b).trans (Q1 a c)
def Zd{a:L Int}(h:mT p w a=Z (x,l)):Gr w x l:=by
 unfold mT at h;split at h
 .cases h
 .rename_i b c h1;exact(vA _ _ _ _ _ _ h1).trans (Q1 a h)
end
end
def PO(n:Nat):O fc:=
 ai (kn ()) λd=>Z d
def GZ(n:Nat):O fc:=
 Z ((J,()),())
def XJ(e:Y80)(g:Y81):Bool:=
 av g.2.2.1 e.1.2.1
def aiR(e:Y80)(g:Y81):L cS:=
 [cS.mk (aR e.1.2.1 (ah g.2.2.1) aH).3 (aR e.1.2.1 (ah g.2.2.1) aH).4.2]
def L5:Y77:=
 λn b=>ai (F20 n (b.1,b.2.1,())) λc=>aj (D.aK c.1.1) (PO n) (ai (F22 n (b.1,b.2.1,())) λd=>aj (D.aK d.1.1) (PO n) (aj
 (D.bO 12 (ak b.2.2.1)) (PO n) (ai (F21 n b) λe=>aj (D.aK (D.aG e.1.2.2.1 0)) (aj (D.aG e.1.2.2.1 8) (PO n) (GZ n)) (ai (@iter
 (Y81) (Bool×U) (U) (Any) (λg=>aj (D.bO g.2.2.1 (ak e.1.2.1)) (aD (XJ e g) (ai (aj (D.aG (aR e.1.2.1 (ah g.2.2.1)
 aH).2 24) (aD (XJ e g) (aD (XJ e g) (aD (cX g.1 (aiR e g)) (Z (LO.next (cM g.1 (aiR e g),W,())))))) (Z (LO.next (g.1,
 J,())))) λ(h:LO (L cS×Bool×U) (Bool×U) U Any)=>LO.jn h (λi=>aD (XJ e g) (aj (D.aG (aR e.1.2.1 (ah
 g.2.2.1) aH).2 25) (aj (D.ep (ak b.2.1.4) g.2.1) (Z (LO.ret () (J,()))) (aD (XJ e g) (aD (av g.2.1 b.2.1.4) (ai (F25 n (aR
 b.2.1.4 (ah g.2.1) 0,())) λj=>aj (D.aK (D.dz (D.aG (aR e.1.2.1 (ah g.2.2.1) aH).4.1 j.1.1.1) (D.dz (D.aG (aR e.1.2.1 (ah
 g.2.2.1) aH).4.2 j.1.1.2) W))) (Z (LO.ret () (J,()))) (Z (LO.next (i.1,D.add .i64 g.2.1 1,D.add .i64 g.2.2.1 1,()))))))) (Z
 (LO.next (i.1,g.2.1,D.add .i64 g.2.2.1 1,()))))) (λ_ _=>Y) (λ_ j=>Z (LO.ret () j)) λ_ _=>Y)) (Z (LO.out 0 g))) n
 (b.2.1.3,0,0,())) λg=>LO.el g (λ_ i=>aj (D.bO (ak e.1.1.2) (ak b.2.1.2)) (GZ n) (aD (eS 0 (ak b.2.1.2) (ak e.1.1.2)) (ai
 (F26 n (eo e.1.1.2 0 (ak b.2.1.2),b.2.1.2,())) λj=>aj (D.aK j.1.1) (GZ n) (ai (F27 n (e.1.1.3,i.1,())) λk=>aj k.1.1 (aj
 (D.aG e.1.1.5 (D.add .i64 b.2.1.5 i.2.1)) (aD (eS i.2.1 (ak b.2.1.4) (ak b.2.1.4)) (ai (F26 n (e.1.1.4,eo b.2.1.4 i.2.1 (ak b.2.1.4),
 ())) λl=>aj l.1.1 (PO n) (GZ n))) (GZ n)) (GZ n))))) (λ_ i=>Z (i,())) λ_ _=>Y))))
abbrev cL5(n:Nat):kC sg:=⟨P65,K4,J,L5 n⟩
def CL5(n:Nat):bz prog 5 (cL5 n):=ct [⟨13,cK,CK⟩,k20 n,k21 n,k22 n,k25 n,k26 n,k27 n] [(5,0,⟨[(10,.one (.own (.st 7))),(11,de),(12,de)],[],[],0⟩),(5,1000011,⟨[(10,.one (.own (.st 7))),(58,cZ)],[],[],0⟩)] n 10 5
section
section
variable {p:ax}{w:aa}
variable {l:List aA}{i:Nat}{ii:List Int}
def take_one{α:Type}{l:L α}(d:α)(h:i<l.length):l.take (i+1)=l.take i++[l.getD i d]:=by rw[QZ h,jq,fN h,vY]
def Wa(h:l.filterMap EK=ii.map gf)(f:i<l.length)(a:(l.getD i aH).Do=25) :
  ((l.take i).filterMap EK).length<ii.length∧(l.getD i aH).V=gf (ii.getD ((l.take i).filterMap EK).length 0):=by
 have d:l=l.take (i+1)++l.drop (i+1):=(HJ _ _).symm;rw[take_one aH f]at d;generalize l.getD i aH=e at *
 have b:l.filterMap EK=(l.take i).filterMap EK++e.V::(l.drop (i+1)).filterMap EK:=by
  conv=>lhs;rw[d]
  have:EK e=Z e.V:=by unfold EK;rw[bJ a]
  simp[List.filterMap_append,List.filterMap_cons,this]
 rw[h]at b;have c:((l.take i).filterMap EK).length<ii.length:=by have:=lS List.length b;simp only[Aj,gw,eV]at this;omega
 refine⟨c,?_⟩;have:=lS (λm=>m[((l.take i).filterMap EK).length]?) b;simp only[gM,fN c,ee]at this;rw[QX (bQ _),Nat.sub_self]at this;simp only[qO,bg]at this;rw[<-this,jq,fN c,vY]
def Ta{x:aa}(r:w.kM=ii++x.kM)(u:l.filterMap EK=ii.map gf)(hl:l.length<=1000)(G:w.fe.length<=1000)(hn:w.kM.length<=1000){P:Type}
  (F:Nat->L cS×Int×Int×U->O (LO (L cS×Int×Int×U) (Bool×U) U P))
  (s:∀n g,F n g=aj (D.bO g.2.2.1 (ak l)) (aD (av g.2.2.1 l) (ai (aj (D.aG (aR l (ah g.2.2.1) aH).2 24) (aD (av g.2.2.1 l) (aD (av g.2.2.1 l) (aD (cX g.1 [cS.mk (aR l (ah g.2.2.1) aH).3 (aR l (ah g.2.2.1) aH).4.2]) (Z (LO.next (R:=Bool×U) (B:=U) (P:=P) (cM g.1 [cS.mk (aR l (ah g.2.2.1) aH).3 (aR l (ah g.2.2.1) aH).4.2],W,())))))) (Z (LO.next (g.1,J,())))) λh=>LO.jn h (λi=>aD (av g.2.2.1 l) (aj (D.aG (aR l (ah g.2.2.1) aH).2 25) (aj (D.ep (ak w.kM) g.2.1) (Z (LO.ret () (J,()))) (aD (av g.2.2.1 l) (aD (av g.2.1 w.kM) (ai (F25 n (aR w.kM (ah g.2.1) 0,())) λj=>aj (D.aK (D.dz (D.aG (aR l (ah g.2.2.1) aH).4.1 j.1.1.1) (D.dz (D.aG (aR l (ah g.2.2.1) aH).4.2 j.1.1.2) W))) (Z (LO.ret () (J,()))) (Z (LO.next (i.1,D.add .i64 g.2.1 1,D.add .i64 g.2.2.1 1,()))))))) (Z (LO.next (i.1,g.2.1,D.add .i64 g.2.2.1 1,()))))) (λ_ _=>Y) (λ_ j=>Z (LO.ret () j)) λ_ _=>Y)) (Z (LO.out 0 g))) :
  eM F (w.fe,0,0,()) (.out 0 (w.fe++l.flatMap v9,((l.filterMap EK).length:Int),(l.length:Int),())):=by
 have p:∀m:L aA,(m.flatMap v9).length<=m.length:=by
  intro m
  induction m with
  |nil=>simp
  |cons a m H=>
   simp only[HF,gw,eV];have:(v9 a).length<=1:=by unfold v9;split<;>simp
   omega
 have run:=jy (F:=F) l.length (λi=>(w.fe++(l.take i).flatMap v9,(((l.take i).filterMap EK).length:Int),(i:Int),())) 0 (λi k=>Ev.of_eq λn=>?_) (Ev.of_eq λn=>?_)
 .simpa using run
 .have v:=p (l.take i);rw[xz]at v;have y:=List.length_filterMap_le EK (l.take i);rw[xz]at y;have t:(w.fe++(l.take i).flatMap v9).length=w.fe.length+((l.take i).flatMap v9).length:=gw;have o:=λh=>Wa u k h;have q:=take_one aH k;rw[s];have z:aR l (ah (i:Int)) aH=l.getD i aH:=rfl;simp only[z,q,List.flatMap_append,List.filterMap_append,HF,List.flatMap_nil,ij,gw];generalize l.getD i aH=e at o ⊢;by_cases c:e.Do=25
  .obtain ⟨A,C⟩:=o c;have E:w.kM.length=ii.length+x.kM.length:=by rw[r,gw]
   have cJ:w.kM.getD ((l.take i).filterMap EK).length 0=ii.getD ((l.take i).filterMap EK).length 0:=by rw[r,jq,SI A,jq]
   have b:v9 e=[]:=by unfold v9;rw[br (by omega)]
   have d:[e].filterMap EK=[e.V]:=by simp[List.filterMap_cons,EK,c]
   have f:e.Do≠24:=by omega
   rw[b,d,ij];simp(disch:=omega)only[aS,bH,e25,cJ];simp only[C,gf,D.dz,jB,rU,D.aK,Ai];simp(disch:=omega)only[aS,bE,dU,dX,QK,Int.zero_add]<;>rfl
  .have d:[e].filterMap EK=[]:=by simp[List.filterMap_cons,EK,c]
   rw[d];by_cases f:e.Do=24
   .have b:v9 e=[⟨e.N,e.V.N⟩]:=by unfold v9;rw[bJ f]
    have h1:([⟨e.N,e.V.N⟩]:L cS).length=1:=rfl;rw[b];simp(disch:=omega)only[aS,bH,bE,dU,dX,wJ,nk,QK,Int.add_zero]
   .have b:v9 e=[]:=by unfold v9;rw[br f]
    rw[b];simp(disch:=omega)only[aS,bH,bE,dU,dX,wJ,ij,QK,Int.add_zero]
 .rw[s];simp(disch:=omega)only[aS]
def akv(p:ax)(w:aa)(cx:L Int):Ev (λn=>L5 n (p,w,cx,())) ((W,()),()):=by
 have yes:Ev (λn=>PO n) ((W,()),()):=Ev.of_eq λn=>rfl;unfold L5;obtain⟨b,e,f⟩:=e20 p w;refine Ev.ai e ?_;cases b with
 |false=>exact yes
 |true=>
  obtain⟨t,u⟩:=f rfl;obtain⟨b,h,i⟩:=e22 t u;refine Ev.ai h ?_;cases b with
  |false=>exact yes
  |true=>
   obtain⟨v,a⟩:=i.1 rfl;have A:=v.ok;by_cases I:12<cx.length
   .exact Ev.congr (λn=>jZ (show(12:Int)<cx.length by omega) _ _) yes
   refine Ev.congr (λn=>jk (show(cx.length:Int)<=12 by omega) _ _) ?_;refine Ev.ai (uC t u v a (by omega)) ?_;cases h1:mT p w cx with
   |none=>exact yes
   |some r=>
    obtain⟨x,l⟩:=r;obtain⟨d,_,y⟩:=DW A a h1;obtain⟨go,⟨B,gt⟩,ii,o,K,z⟩:=Zd h1;have M:=a.outs;have N:=a.ins;have P:=d.outs;have R:=d.ins;have S:=d.used;have X:=a.used;have b7:=d.tl;have b8:=d.len;have b9:=a.tl;have C:=a.len;have E:w.kM.length=ii.length+x.kM.length:=by rw[o,gw]
    have F:x.aX.length=w.aX.length+B.length:=by rw[gt,gw]
    refine Ev.aQ (Ta (x:=x) (l:=l) o z (by omega) (by omega) (by omega) _ (λn g=>rfl)) (λn c=>_) _ ?_;refine Ev.congr (λn=>dY ..) ?_;have q:(l.filterMap EK).length=ii.length:=by rw[z,Aj]
    rw[q,<-go];refine Ev.congr (λn=>jk (show(w.aX.length:Int)<=x.aX.length by omega) _ _) ?_;refine Ev.congr (λn=>J5 (by omega) (show(0:Int)<=w.aX.length by omega) (show(w.aX.length:Int)<=x.aX.length by omega) _) ?_;have G:eo x.aX 0 (ak w.aX)=w.aX:=by rw[mF,gt];simp[ak]
    have H:eo w.kM (ii.length:Int) (ak w.kM)=x.kM:=by rw[vI,qG,o];simp
    refine Ev.congr (g:=λn=>ai (F26 n (w.aX,w.aX,())) λj=>aj (D.aK j.1.1) (GZ n) (ai (F27 n (x.fe,x.fe,())) λk=>aj k.1.1 (aj (D.aG x.Used (D.add .i64 w.Used (ii.length:Int))) (aD (eS (ii.length:Int) (ak w.kM) (ak w.kM)) (ai (F26 n (x.kM,x.kM,())) λl=>aj l.1.1 (PO n) (GZ n))) (GZ n)) (GZ n))) (λn=>?_) ?_
    .show ai (F26 n (eo x.aX 0 (ak w.aX),w.aX,())) _=_;rw[G];have s:∀m,F26 m (x.kM,eo w.kM (ii.length:Int) (ak w.kM),())=F26 m (x.kM,x.kM,()):=λm=>by rw[H]
     rw[<-s];rfl
    .refine Ev.ai (e26 (by omega)) (Ev.ai (e27 (by omega)) ?_);refine Ev.congr (λn=>I8 (by rw[bE (by omega) (by omega)];omega) _ _) ?_;refine Ev.congr (λn=>J5 (by omega) (by simp only[ak];omega) (Int.le_refl _) _) ?_;exact Ev.ai (e26 (by omega)) yes
end
end
end Mn
end
section
namespace Go.Proofs.YtdddliieplcejaaGreat.meanGrows
open Go TL Mn
open Go.ChangeShapes Go.WideShapes Go.ChangeAt Go.RowKit
theorem params:(Tryz.f5.params.toList)=[26,32,23]:=by kernel_rfl
theorem IY:CH 26=some (.st 3):=by kernel_rfl
theorem Jk:Tryz.prog.readableRec 26=true:=by kernel_rfl
theorem IX:CH 32=some (.st 8):=by kernel_rfl
theorem Jj:Tryz.prog.readableRec 32=true:=by kernel_rfl
theorem Sj:CH 23=some (.sl (.int .i64)):=by kernel_rfl
theorem SF:Tryz.prog.readableRec 23=true:=by kernel_rfl
theorem sz:decide (32<Tryz.prog.types.size)=true:=by kernel_rfl
theorem Jf:Tryz.f5.resultTypes=#[4]:=by kernel_rfl
theorem lifted(os:Os)(started:os.Started)(H:Type)(enc:TypeId×Value->H) :
  ReturnsInHanded {} Tryz.checked os 5 .any (Rows.meanGrowsSpec.pre6 enc Tryz.prog Tryz.f5 Rows.meanGrowsRow.domain false) (Rows.meanGrowsSpec.post enc Tryz.prog Tryz.f5 false true false false):=by
 refine returnsInHanded_of_change_sized (C:=Tryz.checked) own started (by kernel_rfl) Tryz.func5
  (ChangeSpec.witness6 (enc:=enc) (C:=Tryz.checked) false ⟨#[],#[.agg #[.slice none 0 0,.slice none 0 0,.int .i64 0,.slice none 0 0],.agg #[.slice none 0 0,.slice none 0 0,.slice none 0 0,.slice none 0 0,.int .i64 0],.slice none 0 0],[]⟩ 8 (by kernel_rfl) (by kernel_rfl) (by kernel_rfl) (by kernel_rfl)) ?_
 intro W base args ds gs before hval hW Z9 ZQ _;refine ri (S:=sg) (P:=Tryz.prog) (ty:=CH) (τs:=[.st 3,.st 8,.sl (.int .i64)]) (tb:=4) Hr Lr laid ?_ ?_ Jf Tryz.underlying4 rfl ?_ ?_ hval hW ZQ
 .rw[params];refine⟨rfl,λj a b ha hb=>?_⟩
  match j with
  |0=>cases ha;cases hb;exact IY
  |1=>cases ha;cases hb;exact IX
  |2=>cases ha;cases hb;exact Sj
  |j+3=>simp at ha
 .rw[params];have:=of_decide_eq_true sz;intro t ht;simp only[List.mem_cons,List.not_mem_nil,or_false]at ht;rcases ht with h|h|h
  .subst h;exact⟨Jk,Nat.lt_of_le_of_lt (by decide) this⟩
  .subst h;exact⟨Jj,Nat.lt_of_le_of_lt (by decide) this⟩
  .subst h;exact⟨SF,Nat.lt_of_le_of_lt (by decide) this⟩
 .intro ds hds
  match ds,hds with
  |[d1,d2,d3],_=>exact⟨rfl,rfl,rfl⟩
 .intro x;obtain⟨x1,x2,x3,u⟩:=x;obtain⟨N,h⟩:=akv x1 x2 x3;exact⟨L5 N,((true,()),()),CL5 N,h N (Nat.le_refl _),rfl⟩
theorem proved:Rows.MeanGrowsSaid:=over lifted
end Go.Proofs.YtdddliieplcejaaGreat.meanGrows
end
end
