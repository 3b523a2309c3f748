import Derived.Scope
import Derived.Recover
import Derived.Laws.StructEq
import Derived.Test.YthlenkomcaiomaaGreatI2
set_option linter.all false
set_option maxRecDepth 100000
set_option maxHeartbeats 0
noncomputable section
open Option renaming some->Z,none->Y
open Bool renaming true->W,false->J
open Nat renaming beq->Nq,ble->Nl,blt->Nt,succ->Ns,add->Na
open Go.Result(andThen_ok)
open Go.Sem(run_bind run_pure)
open TL.LO renaming next->N,ret->X,out->H
open TL.Rx renaming ok->G,jJ->M
namespace TL
open Go
variable {S:Sg}
section
def xl(s:bf S)(g:Gh)(w:av){ω:Type}(k kp:V S->bf S->O ω)(r:ω):Ending->av->Prop
 |.returned v,b=>∃t c d,k t c=Z r/\aH d b (low t) v/\eB s g w c d b|.panicked chain,b=>∃v t c d,chain=[{v,recovered:=J}]/\kp t c=Z r/\aH d b (low t) v/\eB s g w c d b|.outgrown,_=>False
def ak3(P:cP)(call:fO S):Prop:=∀(f:FuncId)(args:L (V S))(s:bf S){ω:Type}(k kp:V S->bf S->O ω)(r:ω),call (.jn f) args s k kp=Z r->∀(g:Gh)(w:av)(vs:Array az),aY g (aE s) w->PW (aH g w) (bu args) vs.toList->
  lH P f/\Calls P f vs w (xl s g w k kp r)
theorem w6:∀{l:L Nat}{o:Nat},o∈l->o<=Hr l
 |[],_,h=>by cases h
 |a::l,o,h=>by
  simp[Hr];obtain rfl|h:=fF.1 h
  .cases b:Nl (Hr l) o with
   |true=>grind|false=>
    grind[Nat.ble_eq_true_of_le]
  have:=w6 h;cases b:Nl (Hr l) a with|true=>exact fP this (gH b)|false=>exact this
theorem jd{l:L Nat}{o:Nat}:Bf l o=J↔o∈l:=by simp[Bf]
def tX{t:Tr (uz S)}:∀{l:L Nat},(∀o∈l,o<bD)->∀{o:Nat},(Cz t l).get o=if o∈l then t.get o else Y
 |[],_,o=>by rfl
 |a::l,h,o=>by
  have f:=tX (t:=t) (l:=l) (λo b=>h o (hJ _ b)) (o:=o);have c:=h a fQ;simp only[Cz];by_cases e:o=a
  .subst e;rw[bO fQ];cases d:t.get o with
   |none=>
    simp_all
   |some x=>simp only;rw[Tr.aV _ _ _ _ c,bO rfl]
  cases d:t.get a with
  |none=>simp_all|some x=>
   simp_all[Tr.aV]
def RR(os:L Nat)(t:T):dH os.contains t=dn os t:=by
 induction t using T.rec (motive_2:=λl=>jf os.contains l=iz os l)with|fn f a b d g=>simp[dn,dH,d,g]|de t v e=>simpa only[dn,dH]using e|agg i e=>simpa only[dn,dH]using e|gG i e=>simpa only[dn,dH]using e|gd c t e=>simpa only[dn,dH]using e|nil=>rfl|cons a l d h=>simp[iz,jf,d,h]|_=>rfl
def Cv{p q:Nat->aa}(h:∀o,p o=W->q o=W){α:Type}:∀l:L (α×V S),yN p l=W->yN q l=W
 |[],a=>by cases a
 |v::l,a=>by simp[yN,nI]at a ⊢;exact a.imp (eg h v.2) (Cv h l)
theorem tT{p q:V S->aa}(h:∀v,p v=W->q v=W):∀t:Tr (V S),mo p t=W->mo q t=W
 |.nil,a=>by cases a
 |.node v l r,a=>by
  simp[mo,nI]at a ⊢;refine a.imp (λa=>?_) (Or.imp (tT h l) (tT h r))
  grind
variable {p q:Nat->aa}
def JV(h:∀o,p o=W->q o=W){ob:uz S}(d:gq q ob=J):gq p ob=J:=by
 cases a:gq p ob with
 |false=>rfl|true=>
  have:gq q ob=W:=by cases ob with|box c=>exact lQ h c a|GY e l=>exact Cv h l a|lp l=>exact tT (eg h) _ a|kT n j l era m b hole=>exact h m a|_=>cases a
  simp_all
theorem Ez{g:Gh}{w:av}{s:bf S}{b:L Ck}{v:V S}{val:az}(i:aH g w (low v) val){x:fU S.A b}{fz ow:L Nat}(h:fR s b (V5 b v)=Z (x,fz,ow)):∃vals,val=valOf vals/\PW (aH g w) (bu (V5 b v)) vals:=by
 have one:∀{l:L (V S)},l=[v]->b.length=1->∃vals,val=valOf vals/\PW (aH g w) (bu l) vals:=by
  rintro l rfl _
  refine⟨[val],rfl,rfl,λj t u h1 h2=>?_⟩
  grind[bu]
 have d:∀{a:L Ck}{l:L (V S)}{x:fU S.A a}{fz ow:L Nat},fR s a l=Z (x,fz,ow)->a.length=l.length:=by
  intro a
  induction a with
  |nil=>grind[fR]|cons c a o=>intro l x fz ow h;cases l with
   |nil=>simp[fR]at h|cons v l=>
    grind[fR]
 have e:=d h;unfold V5 at e h ⊢;split at h
 grind
 .cases i with
  |gG _ f k m=>
   refine⟨f.toList,?_,by simpa using k,λj t v h1 h2=>m j t v h1 (by simpa using h2)⟩;have n:f.toList.length≠1:=by
    grind[eF,List.length_eq_one_iff]
   unfold valOf;split
   simp_all
   rfl
 simp_all
def Fz{fr:bV S}:∀{n j:Nat}{l:L (V S)},getAll fr j n=Z l->l.length=n/\∀(i:Nat)(v:V S),l[i]?=Z v->fr.get (j+i)=Z v
 |0,j,l,h=>by simp only[getAll,gC]at h;subst h;exact⟨rfl,λi v h=>by simp at h⟩
 |n+1,j,l,h=>by
  simp only[getAll]at h;split at h
  .rename_i h1 h2;simp at h;subst h
   let ⟨b,c⟩:=Fz h2
   refine⟨by simp[b],λi u a=>?_⟩;cases i with|zero=>simp at a;subst a;exact h1|succ i=>have:=c i u (by simpa using a);rw[show j+(i+1)=Ns j+i by omega];exact this
  cases h
theorem RH{g:Gh}{w:av}{fr:bV S}{s:bf S}{a:Act}(hf:cS g (bB fr) a w)(hs:aY g (aE s) w):∀{ps:L Pt}{f:L Nat},WG fr s ps=Z f->∀o∈f,∃b,g.bP o=Z b
 |[],f,h=>by
  grind[WG]
 |p::l,f,h=>by
  simp[WG]at h;split at h;rename_i h1 h2;simp at h;subst h;intro j c;obtain rfl|c:=fF.1 c
  unfold ptO at h1;split at h1
  .rename_i k d;cases h1
   let ⟨u,e⟩:=jK hf hs d
   cases e with|ptr _ _ b i=>grind
  .rename_i k d;cases h1
   let ⟨u,e⟩:=jK hf hs d
   cases e with|mp _ b i=>grind
  .rename_i d;cases h1
   let ⟨u,e⟩:=jK hf hs d
   cases e with|qN _ b i=>grind
  cases h1;exact RH hf hs h2 j c;cases h
theorem Rr{s:bf S}:∀{cs:L Ck}{l:L (V S)}{x:fU S.A cs}{fz ow:L Nat},kE cs=W->fR s cs l=Z (x,fz,ow)->fz=[]/\ow=[]
 |[],[],_,fz,ow,_,h=>by
  grind[fR]
 |.dat t::cs,v::l,x,fz,ow,a,h=>by
  simp[kE,eM]at a;simp[fR]at h;split at h
  .rename_i c d;obtain⟨_,rfl,rfl⟩:=h;obtain⟨rfl,rfl⟩:=Rr a.2 d;simp[oG]at c;split at c
   .rename_i b;obtain⟨_,rfl,rfl⟩:=c;refine⟨?_,rfl⟩;cases t with
    |int k=>
     cases v<;>simp only[bT]at b<;>try(cases b;done)
     grind
     grind
    |bool=>
     cases v<;>simp only[bT]at b<;>try(cases b;done)
     grind
     simp_all
    |str=>
     cases v<;>simp only[bT]at b<;>try(cases b;done)
     grind
    |_=>simp[V1]at a
   cases c
  cases h
 |.own _::_,_,_,_,_,a,_=>by simp[kE]at a
 |.jQ ..::_,_,_,_,_,a,_=>by simp[kE]at a
 |.nil _::_,_,_,_,_,a,_=>by simp[kE]at a
 |.ptr _::_,_,_,_,_,a,_=>by simp[kE]at a
 |[],_::_,_,_,_,_,h=>by simp[fR]at h
 |.dat _::_,[],_,_,_,_,h=>by simp[fR]at h
section
variable {g:Gh}{w:av}
theorem UP{P:cP}(hS:eZ S){call:fO S}(vR:ak3 P call){s:bf S}(hs:aY g (aE s) w){c:JSh}{f:FuncId}{args:L (V S)}{ω:Type}{k:V S->bf S->L Nat->O ω}{r:ω}
  (h:evJ call c s f args k=Z r) {vs:Array az} (hall:PW (aH g w) (bu args) vs.toList):lH P f/\Calls P f vs w λ
   |.returned v,w'=>∃t s' g' ow,k t s' ow=Z r/\aH g' w' (low t) v/\cO ow s g w s' g' w'|.panicked _,_=>False|.outgrown,_=>False:=by
 unfold evJ at h;split at h;rotate_left;cases h;rename_i C z hbs hks;split at h;cases h;rename_i F ow hpk;obtain⟨m,h1⟩|⟨_,h1⟩:=ah h
 rotate_left;cases h1;clear h;simp only[eM]at m
 let ⟨⟨hlen,XC⟩,ac5,ae6,hmax⟩:=m
 have hlen:cC args<bD:=gH hlen;have XC:∀k∈yx c.sh,k<bD:=λk hk=>by
  simp_all
 have hmax:Hr (C++z)+1<=F.aF:=gH hmax
 let ⟨y,hrun,h2⟩:=iQ h1
 clear h1;split at h2;cases h2;rename_i s3 hout;have hvl:args.length=vs.size:=by have:=hall.1;rw[eF]at this;omega
 have Uy:cS g (bB (PL args)) {tmps:=vs++Array.replicate (cC args-vs.size) undef,defers:=[]} w:=sR hlen (by rw[bS];omega) hall;have aeN:vs++Array.replicate (cC args-vs.size) undef=vs:=by
  simp_all[bS]
 rw[aeN]at Uy;generalize ha0:({tmps:=vs,defers:=[]}:Act)=a0 at Uy;have ha0t:a0.tmps=vs:=by rw[<-ha0]
 let ⟨bl0,PA⟩:=sK Uy hs hbs
 let ⟨A,vals,al,bl,d⟩:=j7 hS Uy hs PA hpk
 have hkb:=RH Uy hs hks;have UC:∀o∈C,∃b,A.bP o=Z b:=λo ho=>by
  obtain⟨j,hj,rfl⟩:=p8 ho;have hj':j<bl.length:=by have:=d.GZ.1;omega
  exact⟨bl[j],d.GZ.2 j _ _ (iu hj) (iu hj')⟩
 have hKb:∀o∈C++z,∃b,A.bP o=Z b:=λo ho=>by
  obtain ho|ho:=eN.1 ho
  exact UC o ho
  let ⟨b,m⟩:=hkb o ho
  exact⟨b,d.ext.bP _ _ m⟩
 have afi:∀o∈C++z,o<F.aF:=λo ho=>by
  let ⟨b,m⟩:=hKb o ho
  exact d.rel.lt m
 have hn1:F.aF<=bD:=d.rel.aF;have apn:∀o∈C++z,o∉ow:=λo ho hm=>by
  obtain ho|ho:=eN.1 ho
  exact(d.SM o ho).2.2.1 hm
  let ⟨b,m⟩:=hkb o ho
  rw[d.owb o hm]at m;cases m
 have hkp:∀o∈z,∃ob,F.ob.get o=Z ob/\jz ob=W/\gq (Bf (C++z)) ob=J:=λo ho=>by
  unfold SI at ae6;rw[j5]at ae6;have:=ae6 o ho;split at this
  simp_all
  cases this
 have hKarr:∀o∈C++z,∀e,A.arr o e=Y:=λo ho e=>by
  obtain ho|ho:=eN.1 ho
  exact(d.SM o ho).2.2.2 e
  let ⟨ob,i,MS,_⟩:=hkp o ho
  cases hx:A.arr o e with
  |none=>rfl|some x=>
   exfalso
   let ⟨_,h2⟩:=d.rel.arr o e x hx
   exact zO MS (h2 _ (by rw[aK,i];rfl))
 have aby:∀o∈z,o<bD:=λo ho=>iE (afi o (kz _ ho)) hn1;have Dg:=d.YE.owned d.pr.iy;have aof:aY (A.base (Bf (C++z))) (aE (ZX C z F)) w:=by
  refine d.rel.base (aF:=Hr (C++z)+1) (λo ho=>?_) rfl hmax (λo ob Q i=>?_)
  .cases hn:Bf (C++z) o with|true=>rfl|false=>have:=w6 (jd.1 hn);omega
  rw[aK,show(ZX C z F).ob.get o=(Cz F.ob z).get o from rfl,tX aby]at i;split at i;rename_i hok
  let ⟨Vz,R,_,hm⟩:=hkp o hok
  rw[R]at i;simp at i;subst i;refine⟨cX Vz,by rw[aK,R];rfl,?_⟩;have:=kU (Bf (C++z)) Vz;rwa [nX hm]at this;cases i
 have hf1:cS (A.base (Bf (C++z))) (bB (M9 (C++z) c.sh (PL args))) a0 w:=by
  refine⟨Uy.size,by rw[<-ha0];exact .nil,λk t hk=>?_⟩;rw[bU,fG]at hk;obtain⟨v,hv,rfl⟩:=hk;have hv:(((yx c.sh).foldl (λt k=>t.del aO k) (PL args).tm).keep λv=>!(cH (Bf (C++z)) v)).get k=Z v:=hv;rw[Tr.nS,ahj]at hv
  let ⟨h3,h4⟩:=hv
  have h5:(PL args).get k=Z v:=by rw[Tr.nT _ _ _ XC]at h3;split at h3;cases h3;exact h3
  let ⟨u,hu,hr⟩:=Uy.tm k (low v) (by rw[bU,h5];rfl)
  exact⟨u,hu,(hr.ext d.ext hs.bp).on (A.gr _) (λ_ _=>rfl) (by rw[g6];simpa using h4)⟩
 unfold LR at hrun;split at hrun;cases hrun;rename_i Br yw MZ;split at hrun;cases hrun;rename_i args' dN
 let ⟨gh,hh⟩:=vQ (gb:=A.base (Bf (C++z))) MZ (Ic hlen) d.pr d.at_ ⟨d.GZ.1,λj o b h1 h2=>(A.gr _).bP o b (jd.2 (eL _ (hU h1))) (d.GZ.2 j o b h1 h2)⟩
  (λo ho e=>by
   simp_all[Gh.base])
  (λa ha b m o E=>by
   let ⟨h3,h4⟩:=Gh.fD E
   let ⟨o',ho',K⟩:=Dg a ha b m
   have:=d.rel.jF o o' b h4 K
   grind[jd]) d.ap hf1 aof
 have hfn:Br.n=vs.size:=by have h3:Br.n=(PL args).n:=hh.n;rw[h3];show cC args=_;rw[bS,hvl]
 have oX:PW (aH gh w) (bu args') vs.toList:=by
  let ⟨k1,k2⟩:=Fz dN
  refine⟨by rw[eF,k1,hfn];simp,λj t v h3 h4=>?_⟩;rw[eP,kF,fG]at h3;obtain⟨u,hu,rfl⟩:=h3;have h5:=k2 j u hu;rw[A4]at h5
  let ⟨v',h6,h7⟩:=hh.fr.tm j (low u) (by rw[bU,h5];rfl)
  simp_all
 let ⟨M0,hc⟩:=vR f args' yw _ _ y hrun gh w vs hh.rel oX
 refine⟨M0,hc.mono λe w' he=>?_⟩;cases e with
 |outgrown=>exact he.elim|panicked ch=>
  let ⟨_,_,_,_,_,h3,_⟩:=he
  cases h3
 |returned v=>
 let ⟨t,s',g',h3,ht,n⟩:=he
 unfold acU at h3;split at h3;rotate_left;cases h3;rename_i yr fz ow' y2 s2 Lj hr hy;obtain⟨hkw,h4⟩|⟨_,h4⟩:=ah h3
 rotate_left;cases h4;simp at h4;subst h4;clear h3;have hkw:∀o∈z,o∉s2.wr:=λo ho=>by
  simp_all
 have hfE:∀(g:Gh)(w:av),cS g (bB (frE:bV S)) {tmps:=#[],defers:=[]} w:=λg w=>⟨rfl,.nil,λk t hk=>by simp_all[bU,frE,bV.get,Tr.get_nil]⟩;have ae9:∀o∈C++z,∀b,A.bP o=Z b->gh.bP o=Z b:=λo ho b m=>by rw[hh.bP];exact(A.gr _).bP o b (jd.2 ho) m
 have apj:PW (λo b=>g'.bP o=Z b) C bl:=⟨d.GZ.1,λj o b h1 h2=>n.ext.bP o b (ae9 o (eL _ (hU h1)) b (d.GZ.2 j o b h1 h2))⟩
 let ⟨g3,vals2,AS,bl2,l⟩:=j7 hS (hfE g' w') n.rel apj hy
 have hfl:yw.fl=s.fl:=hh.fl.trans (show(ZX C z F).fl=s.fl from d.fl);have p:n8 yw.lo yw.fl gh w g3 w':=n.ext.trans (n.fl▸l.ext.Hi yw.lo);have hgi:gh.bp=A.bp:=hh.bp;have ae0:∀{o b:Nat},bx gh o b->(o∈C++z/\A.bP o=Z b/\bx A o b)\/∃a∈al,a.at b:=λ{o b}E=>by
  obtain E|⟨_,hx⟩:=hh.own o b E
  let ⟨h3,h4⟩:=Gh.fD E
  have h3:=jd.1 h3;refine .inl ⟨h3,?_,h4⟩;obtain h5|⟨e,x,_,h5,_⟩:=h4.2
  exact h5
  simp_all
  exact .inr hx
 let X:Nat->Prop:=λb=>(∃o∈C++z,A.bP o=Z b)\/∃a∈al,a.at b
 have abC:∀{o b:Nat},bx gh o b->X b:=λ{o b}E=>(ae0 E).imp (λ⟨h1,h2,_⟩=>⟨o,h1,h2⟩) id;have hK3:∀o∈C++z,∀b,A.bP o=Z b->g3.bP o=Z b:=λo ho b m=>p.bP o b (ae9 o ho b m);have XY:∀b,A.bp b->g3.bp b:=λb m=>p.bp b (by grind);have hXi:∀b,X b->¬A.bp b:=λb hX=>by
  obtain⟨o,_,ho⟩|⟨a,ha,I⟩:=hX
  exact(d.rel.box o b ho).1;exact d.pr.iy a ha b I
 have hXO:∀b,X b->∃o,(o∈C++z\/o∈ow)/\bx A o b:=λb hX=>by
  obtain⟨o,h1,ho⟩|⟨a,ha,I⟩:=hX
  exact⟨o,.inl h1,(d.rel.box o b ho).1,.inl ho⟩
  let ⟨o,ho,E⟩:=Dg a ha b I
  grind
 generalize hB:(cI [] ow C (frE:bV S) F).2=B at hout;have hBg:∀o,B.ob.get o=if o∈C then Y else(F.ob.get o).map (eT (dL ow F.aF)):=λo=>by rw[<-hB];exact s8 (ds:=[]) (fr:=frE) (λb m=>iE (afi b (eL _ m)) hn1) o
 have hBn:B.aF=F.aF:=by rw[<-hB];rfl
 have apt:B.fl=F.fl:=by rw[<-hB];rfl
 have apr:B.lo=F.lo:=by rw[<-hB];rfl
 have hA:aY (A.base (dL ow F.aF)) (aE B) w:=by
  refine d.rel.base (aF:=F.aF) (λo ho=>?_) hBn (cM _) (λo ob Q i=>?_)
  simp_all[dL]
  rw[aK,hBg]at i;split at i;cases i;rw[EL,fG]at i;obtain⟨vob,hv,rfl⟩:=i;exact⟨cX vob,by rw[aK,hv];rfl,kU _ vob⟩
 have apu:∀o,(xV z B).ob.get o=if o∈z then Y else B.ob.get o:=λo=>Tr.nT z _ o aby
 have hA':aY (A.base (dL ow F.aF)) (aE (xV z B)) w:=by
  have hsub:∀o ob,(aE (xV z B)).ob.get o=Z ob->(aE B).ob.get o=Z ob:=by
   simp_all[aK]
  refine⟨hA.aF,hA.ai,λo b h=>?_,λo e x h=>?_,hA.bp,hA.jF⟩
  let ⟨k1,k2,k3⟩:=hA.box o b h
  exact⟨k1,k2,λob i=>k3 ob (hsub o ob i)⟩
  let ⟨k1,k2⟩:=hA.arr o e x h
  exact⟨k1,λob i=>k2 ob (hsub o ob i)⟩
 have hC:aY {A.base (dL ow F.aF)with bp:=g3.bp} (aE (xV z B)) w':=by
  refine hA'.step (X:=X) XY (λb m=>?_) l.rel.bp p.size (λb m hX=>n.ext.heap b m λo _ E=>hX (abC E)) (λo b hX E=>?_) hXi;obtain h|h|⟨o,_,E⟩:=p.nQ b m
  rw[hgi]at h;exact .inl h;omega;exact .inr (.inr (abC E))
  let ⟨Q,E⟩:=Gh.fD E
  let ⟨o',ho',K⟩:=hXO b hX
  have:=d.rel.jF o o' b E K;subst this;obtain hK|hw:=ho'
  refine⟨?_,?_⟩;rw[aK,apu];obtain h|h:=eN.1 hK
  simp_all
  simp_all
  let ⟨b',hb'⟩:=hKb o hK
  obtain h5|⟨e,x,_,h5,_⟩:=E.2
  exact(l.rel.box o b (hK3 o hK b h5)).1
  simp_all
  exact absurd hw (lz Q).1
 have ajA:∀o∈C++z,dL ow F.aF o=J:=λo ho=>oS (apn o ho) (afi o ho);have hgB:acC (Bf (C++z)) g3 {A.base (dL ow F.aF)with bp:=g3.bp}:=by
  refine⟨λo b Q m=>?_,λo e x Q hx=>?_,λ_ h=>h⟩;have hK:=jd.1 Q
  let ⟨b',hb'⟩:=hKb o hK
  rw[hK3 o hK b' hb']at m;have hbb:b'=b:=jG m;rw[<-hbb];exact(A.gr _).bP o b' (ajA o hK) hb';exfalso;have hK:=jd.1 Q;obtain h|h:=eN.1 hK
  rw[(l.SM o h).2.2.2 e]at hx;cases hx
  let ⟨Vz,R,MS,_⟩:=hkp o h
  let ⟨b',hb'⟩:=hKb o hK
  let ⟨_,k2⟩:=l.rel.arr o e x hx
  cases hoc:(aE s2).ob.get o with
  |none=>
   exfalso;have:s2.ob.get o=Z Vz\/o∈C:=by
    by_cases i:o∈C;exact .inr i
    left
    rw[l.same o (hkw o h),n.same o (iE (RC (w6 hK)) hh.aF) (λhm=>hkw o h (l.tw o hm)),hh.ob o (RC (w6 hK)) i];show(Cz F.ob z).get o=_;rw[tX aby,bO h,R]
   obtain h6|h6:=this
   grind[aK]
   rw[(l.SM o h6).2.2.2 e]at hx;cases hx
  |some obx=>
   have h7:=(k2 obx hoc).nP;have h8:=(l.rel.box o b' (hK3 o hK b' hb')).2.2 obx hoc
   let ⟨_,_,h9⟩:=h8
   rw[h9.Bg]at h7;cases h7
 have hD:aY {A.base (dL ow F.aF)with bp:=g3.bp} (aE B) w':=by
  refine⟨hC.aF,hC.ai,λo b h=>?_,λo e x h=>?_,hC.bp,hC.jF⟩
  let ⟨k1,k2,k3⟩:=hC.box o b h
  refine⟨k1,k2,λob i=>?_⟩;by_cases hok:o∈z;have hK:o∈C++z:=kz _ hok
  let ⟨Vz,R,MS,hm⟩:=hkp o hok
  have Pr:=i;rw[aK,hBg]at Pr;split at Pr;cases Pr;rename_i hnb;rw[R]at Pr;simp at Pr;have hm2:gq (dL ow F.aF) Vz=J:=JV (λo ho=>by
   grind[jd]) hm
  rw[nX hm2]at Pr;subst Pr;have h6:s2.ob.get o=Z Vz:=by rw[l.same o (hkw o hok),n.same o (iE (RC (w6 hK)) hh.aF) (λhm=>hkw o hok (l.tw o hm)),hh.ob o (RC (w6 hK)) hnb];show(Cz F.ob z).get o=_;rw[tX aby,bO hok,R]
  let ⟨Q,oY⟩:=Gh.Az (show(A.base (dL ow F.aF)).bP o=Z b from h)
  let ⟨x,h7,h8⟩:=(l.rel.box o b (hK3 o hK b oY)).2.2 (cX Vz) (by rw[aK,h6];rfl)
  have hl:=kU (Bf (C++z)) Vz;rw[nX hm]at hl;exact⟨x,h7,h8.left (λt v ht hmt=>ht.on hgB (λ_ _=>rfl) hmt) hl⟩;exact k3 ob (by simp_all[aK])
  let ⟨k1,k2⟩:=hC.arr o e x h
  refine⟨k1,λob i=>?_⟩;by_cases hok:o∈z;have h3:=(Gh.AA (show(A.base (dL ow F.aF)).arr o e=Z x from h)).2
  simp_all
  exact k2 ob (by simp_all[aK])
 have XV:=l.YE.owned l.pr.iy;have XW:∀a∈AS,∀b,a.at b->X b\/w.heap.size<=b:=λa ha b I=>by
  let ⟨o2,ho2,UF⟩:=XV a ha b I
  obtain⟨o',_,K⟩|h:=p.own o2 b (n.fl▸(l.WS o2 ho2).1) UF
  exact .inl (abC K);omega
 obtain⟨gF,XN⟩:=vQ (a:={tmps:=#[],defers:=[]}) (gb:={A.base (dL ow F.aF)with bp:=g3.bp}) (w:=w') hout (Hp _) l.pr l.at_
  ⟨l.GZ.1,λj o b h1 h2=>hgB.bP o b (jd.2 (eL _ (hU h1))) (l.GZ.2 j o b h1 h2)⟩
  (λo ho e=>by
   simp_all[Gh.base])
  (λa ha b I o E=>by
   have hO0:bx (A.base (dL ow F.aF)) o b:=⟨λhi=>E.1 (XY b hi),E.2⟩
   let ⟨Q,UF⟩:=Gh.fD hO0
   let ⟨o2,ho2,hO3⟩:=XV a ha b I
   by_cases hK:o∈C++z;have PC:g3.bP o=Z b:=by
    obtain h5|⟨e,x,_,h5,_⟩:=UF.2
    grind
    simp_all
   have:=l.rel.jF o o2 b ⟨(l.rel.box o b PC).1,.inl PC⟩ hO3;subst this
   let ⟨b',hb'⟩:=hKb o hK
   have h6:g'.bP o=Z b':=n.ext.bP o b' (ae9 o hK b' hb');rw[l.owb o ho2]at h6;cases h6;obtain hX|h:=XW a ha b I
   let ⟨o',ho',K⟩:=hXO b hX
   have:=d.rel.jF o o' b UF K
   grind[lz]
   have:=(d.rel.qU UF).1;omega) l.ap (hfE _ _) hD
 have hflX:∀b,b<w.heap.size->(∀o,s.fl<=o->¬bx g o b)->∀o,s.fl<=o->¬bx gh o b:=λb m hn o ho E=>by
  obtain⟨_,_,UF⟩|⟨a,ha,I⟩:=ae0 E
  obtain h|h:=d.ext.own o b UF
  grind
  omega
  let ⟨o',ho',K⟩:=Dg a ha b I
  obtain h|h:=d.ext.own o' b K
  exact hn o' (d.WS o' ho').1 h;omega
 have ai9:∀{o b:Nat},s.fl<=o->bx gh o b->(∃o',s.fl<=o'/\bx g o' b)\/w.heap.size<=b:=λ{o b}ho E=>by
  obtain⟨_,_,UF⟩|⟨a,ha,I⟩:=ae0 E
  exact(d.ext.own o b UF).imp (λh=>⟨o,ho,h⟩) id
  let ⟨o',ho',K⟩:=Dg a ha b I
  exact(d.ext.own o' b K).imp (λh=>⟨o',(d.WS o' ho').1,h⟩) id
 have aiv:aH gF w' (low (CZ (sX c.rs yr))) v:=by
  obtain⟨vals',rfl,aor⟩:=Ez ht hr
  let ⟨_,_,q⟩:=fW hS n.rel hr aor
  obtain⟨rfl,rfl⟩:=Rr ac5 hr
  let ⟨YE,hH,_⟩:=q g' (aE s') [] n.rel (Ext.refl _ _ _) ⟨rfl,rfl,λo ho=>(by cases ho),λ_ _ _ _ h=>h,λo ho=>(by cases ho)⟩ (λ_ h=>h) (λo ho=>(by cases ho))
  exact zp (xb ac5 hH)
 refine⟨_,_,gF,ow,h2,aiv,XN.rel,⟨λo b m=>?_,λo e x hl hx=>?_,λb m=>?_,p.size,λb m hn=>?_,λo b ho E=>?_,λb m=>?_,p.os,p.output⟩,XN.fl.trans (apt.trans d.fl),XN.lo.trans (apr.trans d.lo),?_,λo ho=>?_,λo hl ho=>?_,λt v ht hm=>?_,λo ho=>?_,λo ho=>?_,λo ho=>?_⟩;rw[XN.bP];exact(A.gr _).bP o b (oS (λhm=>by rw[d.owb o hm]at m;cases m) (by have:=hs.lt m;rw[d.aF];exact this)) (d.ext.bP o b m);have hlt:o<F.aF:=by have:=hs.lt' hx;rw[d.aF];exact this
 rw[XN.arr o (by omega)];exact(A.gr _).arr o e x (oS (λhm=>by have:=(d.WS o hm).2.1;omega) hlt) (d.ext.arr o e x hx);rw[XN.bp];exact XY b (d.ext.bp b m);exact n.ext.heap b m (by simp_all);obtain E|⟨_,a,ha,I⟩:=XN.own o b E
 have hO0:bx (A.base (dL ow F.aF)) o b:=⟨λhi=>E.1 (XY b hi),E.2⟩;exact(d.ext.own o b (Gh.fD hO0).2).imp (λh=>⟨o,ho,h⟩) id
 let ⟨o2,ho2,UF⟩:=XV a ha b I
 obtain⟨o',ho',K⟩|h:=p.own o2 b (n.fl▸(l.WS o2 ho2).1) UF
 exact ai9 (hfl▸ho') K;omega;rw[XN.bp]at m;obtain h|h|⟨o,ho,E⟩:=p.nQ b m
 rw[hgi]at h;exact d.ext.nQ b h;omega;obtain h|h:=ai9 (hfl▸ho) E
 exact .inr (.inr h);omega;have h3:B.aF<=s3.aF:=XN.aF;rw[hBn,d.aF]at h3;exact h3;exact kz _ (kz _ (kz _ (d.tw o ho)))
 .simp at ho;rw[XN.ob o (by rw[hBn,d.aF];exact hl) ho.2.1,hBg,cm ho.2.1,<-d.same o ho.2.2.2];cases hg:F.ob.get o with
  |none=>rfl|some ob=>
   grind[nX,Tr.qo]
 have h3:aH A w t v:=ht.ext d.ext hs.bp;have hon:acC ow.contains A {A.base (dL ow F.aF)with bp:=g3.bp}:=by refine⟨λo b Q m=>?_,λo e x Q hx=>?_,XY⟩;exact(A.gr _).bP o b (oS (by grind) (d.rel.lt m)) m;exact(A.gr _).arr o e x (oS (by grind) (d.rel.lt' hx)) hx
 exact(h3.on hon (λb m=>n.ext.heap b (d.rel.bp b m) λo _ E=>hXi b (abC E) m) (by rw[RR];exact hm)).le XN.le
 simp_all
 exact kz _ (by rw[d.dr];exact ho)
 simp_all
end
end
section
structure e8(E:er S):Prop where
 sg:eZ S
 Tn:AI E.T.E
 ty:Qw S E.T
 name:∀f fn,E.T.E.Sp f=Z fn->(fn.name== "runtime.NumGoroutine")=J
 ng:∀f,E.T.E.Hv f=Y
 x:XOk S E.T
 Hv:∀f c,E.Hv f=Z c->bz E.T.E.P f c
variable {E:er S}{args:List (V S)}{s:bf S}
def e8.env(h:e8 E):Oh E.T.E:={h.Tn with
 name:=h.name
 Hv:=λf c a=>by rw[h.ng]at a;cases a}
def BY(s:bf S)(g:Gh)(w:av){ω:Type}(k kp:V S->bf S->O ω)(r:ω):Ending->av->Prop
 |.returned v,b=>∃t c d,k t c=Z r/\aH d b (low t) v/\cO [] s g w c d b|.panicked chain,b=>∃v t c d,chain=[{v,recovered:=J}]/\kp t c=Z r/\aH d b (low t) v/\cO [] s g w c d b|.outgrown,_=>False
structure gu(P:cP)(call:fO S):Prop where
 fn:∀(f:FuncId)(args:List (V S))(s:bf S){ω:Type}(k kp:V S->bf S->Option ω)(r:ω),call (.fn f) args s k kp=Z r->∀(g:Gh)(w:av)(vs:Array az),aY g (aE s) w->PW (aH g w) (bu args) vs.toList->
  lH P f/\Calls P f vs w (BY s g w k kp r)
 jn:ak3 P call
 yl:∀(o:Nat)(args:List (V S))(s:bf S){ω:Type}(k kp:V S->bf S->Option ω)(r:ω),call (.yl o) args s k kp=Z r->∀(g:Gh)(w:av)(vs:Array az)(b:Nat),aY g (aE s) w->PW (aH g w) (bu args) vs.toList->g.bP o=Z b->
  ∃l:Loop,w.heap[b]?=Z (.loop l)/\vs.size=l.params.size/\∀rr n,RoundIn (WR rr) n P b l.fn ((l.params.zip vs).foldl (λtmps(t,a)=>tmps.setIfInBounds t a) l.tmps) l.assign l.body w (BY s g w k kp r)
 yd:∀(o:Nat)(args:List (V S))(s:bf S){ω:Type}(k kp:V S->bf S->Option ω)(r:ω),call (.yd o) args s k kp=Z r->∀(g:Gh)(w:av)(vs:Array az)(b:Nat),aY g (aE s) w->PW (aH g w) (bu args) vs.toList->g.bP o=Z b->
  ∃l:Loop,w.heap[b]?=Z (.loop l)/\vs.size=l.params.size/\∀rr n,RoundIn (WR rr) n P b l.fn ((l.params.zip vs).foldl (λtmps(t,a)=>tmps.setIfInBounds t a) l.tmps) l.assign l.body w (xl s g w k kp r)
theorem nY{α:Type}{c:aa}{x:O α}{r:α}(h:aU c x=Z r):c=W/\x=Z r:=by
 unfold aU at h
 grind
theorem sy{α:Type}{c:aa}{x y:O α}{r:α}(h:aj c x y=Z r):(c=W/\x=Z r)\/(c=J/\y=Z r):=ah h
def ry{f:V S}{as:L (V S)}{id:FuncId}(h:o8 f args=Z (id,as)):xd (low f) (bu args)=Z (id,bu as):=by unfold o8 at h;split at h;obtain⟨rfl,rfl⟩:=h;simp[low,xd,jR];cases h
section
variable {g:Gh}{w:av}
theorem gL{p:V S->aa}{q:T->aa}(a:∀v,q (low v)=p v)(b:∀o e,p (.sh o e)=p (.sh o 0)):∀l:L (so S),ie q (l.map lU) ((l.map (ey p)).map lU)
 |[]=>.nil|.marks o::l=>by have d:=gL a b l;simp only[mh,ey];cases c:p (.sh o 0)with|true=>exact .aem o d|false=>exact .marks o (λe=>((a (.sh o e)).trans (b o e)).trans c) d
 |.jZ::l=>.jZ (gL a b l)|.call f args::l=>.cons (by
   simp[ey];cases c:p f||args.any p with
   |true=>exact .inl ⟨rfl,rfl⟩|false=>
    simp only[yG,List.any_eq_false]at c;refine .inr ⟨rfl,by simp_all,λt g=>?_⟩;rw[eP,tJ]at g
    grind) (gL a b l)
 |.mark o::l=>.cons (by
   simp[ey];cases c:p (.ptr o 0)with
   |true=>exact .inl ⟨rfl,rfl⟩|false=>exact .inr ⟨rfl,(a (.ptr o 0)).trans c⟩) (gL a b l)
 |.bad::l=>.cons (.inr ⟨rfl,trivial⟩) (gL a b l)
theorem nB{ow:L Nat}{fr:bV S}{a:Act}{g':Gh}{w':av}{s s':bf S}(hf:cS g (bB fr) a w)(h:cO ow s g w s' g' w'):cS g' (bB (dx ow fr)) a w':=by
 refine⟨?_,?_,λk t r=>?_⟩;cases ow<;>exact hf.size
 .cases ow with
  |nil=>
   have i:∀t:T,dn [] t=J:=by
    intro t
    induction t using T.rec (motive_2:=λl=>iz [] l=J)with|fn f a b d j=>simp[dn,d,j]|de t v e=>simp[dn,e]|agg p e=>simp[dn,e]|gG p e=>simp[dn,e]|gd c v e=>simp[dn,e]|nil=>rfl|cons a l d m=>simp[iz,d,m]|_=>simp[dn]
   refine hf.df.imp (λt v x=>h.tr t v x (i t)) λo b y=>?_;have:=h.tr _ _ (.ptr o 0 b y) (i _);cases this with|ptr _ _ _ q=>exact q
  |cons o ow=>exact(gL (λv=>j9 _ v) (λ_ _=>rfl) fr.df).rel h.tr hf.df
 rw[bU,fG]at r;obtain⟨v,z,rfl⟩:=r;have n:fr.get k=Z v/\dn ow (low v)=J:=by
  cases ow with
  |nil=>
   refine⟨z,?_⟩;have:∀t:T,dn [] t=J:=by
    intro t;have key:(∀t:T,dn [] t=J):=by
     intro t
     induction t using T.rec (motive_2:=λl=>iz [] l=J)with|fn f a b d j=>simp[dn,d,j]|de t v e=>simp[dn,e]|agg p e=>simp[dn,e]|gG p e=>simp[dn,e]|gd c v e=>simp[dn,e]|nil=>rfl|cons a l d m=>simp[iz,d,m]|_=>simp[dn]
    exact key t
   exact this _
  |cons o ow=>
   grind[dx,bV.get,Tr.nS,Option.filter_eq_some_iff,j9]
 let ⟨u,A,B⟩:=hf.tm k (low v) (by rw[bU,n.1];rfl)
 exact⟨u,A,h.tr _ _ B n.2⟩
theorem RL{E:er S}(b:e8 E){fr:bV S}{s s':bf S}{a:Act}(hf:cS g (bB fr) a w)(hs:aY g (aE s) w)(o:Oper){c:aa}{t:V S}(h:zS E.T fr s o.op=Z (c,t,s'))(e:c=W) :
  ∃v w' g',((execOp a.eval o).run E.T.E.P w=.ok (.value v) w'\/((execOp a.eval o).run E.T.E.P w=.ok .skip w'/\v=undef))/\aH g' w' (low t) v/\cO [] s g w s' g' w':=by
 unfold zS at h;split at h;rename_i r d;cases h;exact aaM b.sg b.Tn b.ty hf hs o d e;split at h;rename_i d;cases h
 let ⟨p,f,j⟩:=Mz b.sg b.ty d e
 let ⟨⟨v,w',g',k,i,l,m⟩,h1,h2,h3⟩:=m7 b.Tn hf hs o f j
 exact⟨v,w',g',k,m,cO.kA hs i l h1 h2 h3 (WV d)⟩;exact aaK b.sg b.Tn b.ty b.x hf hs o h e
def Vw(s:bf S)(g:Gh)(w:av){ω:Type}(k:V S->bf S->L Nat->O ω)(kp:V S->bf S->O ω)(r:ω):Ending->av->Prop
 |.returned v,b=>∃t c d e,k t c e=Z r/\aH d b (low t) v/\cO e s g w c d b|.panicked chain,b=>∃v t c d,chain=[{v,recovered:=J}]/\kp t c=Z r/\aH d b (low t) v/\cO [] s g w c d b|.outgrown,_=>False
def ME{s:bf S}{o:Nat}:∀{n:Nat},o<n->s.lo<=o->(s.ob.get o).any jz=J->o∈zX s n
 |n+1,c,a,b=>by unfold zX;by_cases h:o=n;subst h;rw[b,Me a];exact fQ;have:=ME (n:=n) (by omega) a b;cases Nl s.lo n&&!((s.ob.get n).any jz);exact this;exact hJ _ this
def eB.acK{s':bf S}{g':Gh}{w':av}(hs:aY g (aE s) w)(h:eB s g w s' g' w'):cO (zX s s.aF) s g w {s' with wr:=zX s s.aF++s'.wr,dr:=zX s s.aF++s'.dr} g' w':=by
 have l:jE g.bp w w':=λb i=>h.ext.heap b (hs.bp b i) (λo _ m=>m.1 i);refine⟨h.rel,h.ext,h.fl,h.lo,h.aF,λo a=>kz _ (h.tw o a),λo a d=>h.same o a λf=>d (kz _ f),λt v q f=>?_,λo a=>eL _ a,λo a=>kz _ (h.FT o a),λo a=>eL _ a⟩;refine q.on (p:=(zX s s.aF).contains) ⟨λo b _ e=>h.ext.bP o b e,λo e x j k=>h.ext.arr o e x ?_ k,h.ext.bp⟩ l (by rw[RR];exact f);refine Nat.lt_of_not_le λr=>?_;have c:(s.ob.get o).any jz=J:=by
  cases a:s.ob.get o with
  |none=>rfl|some ob=>
   cases c:jz ob with|false=>exact c|true=>exact(zO c ((hs.arr o e x k).2 _ (by rw[aK,a];rfl))).elim
 have:=ME (n:=s.aF) (hs.lt' k) r c;rw[JO.2 this]at j;cases j
def Aj(m:e8 E){call:fO S}(b:gu E.T.E.P call)(hs:aY g (aE s) w){f:FuncId}{ω:Type}{kp:V S->bf S->O ω}{k:V S->bf S->L Nat->O ω}{r:ω}
  (h:ug E call s f args kp k=Z r) {vs:Array az} (d:PW (aH g w) (bu args) vs.toList):lH E.T.E.P f/\Calls E.T.E.P f vs w (Vw s g w k kp r):=by
 unfold ug at h;split at h
 .rename_i j
  let ⟨a,i⟩:=CJ m.sg (m.Hv _ _ j) hs d h
  refine⟨a,i.mono λe n c=>?_⟩;cases e with|returned v=>exact c|panicked o=>exact c|outgrown=>exact c.elim
 split at h
 .let ⟨a,i⟩:=UP m.sg b.jn hs h d
  refine⟨a,i.mono λe n c=>?_⟩;cases e with|returned v=>exact c|panicked o=>exact c.elim|outgrown=>exact c.elim
 obtain⟨_,h⟩|⟨_,h⟩:=ah h
 .let ⟨a,i⟩:=b.jn _ _ _ _ _ _ h g w _ hs d
  refine⟨a,i.mono λe n c=>?_⟩;cases e with
  |returned v=>
   let ⟨t,p,l,h1,h2,h3⟩:=c
   exact⟨t,_,l,_,h1,h2,h3.acK hs⟩
  |panicked o=>obtain⟨v,t,p,l,_,h1,_⟩:=c;cases h1
  |outgrown=>exact c.elim
 let ⟨a,i⟩:=b.fn _ _ _ _ _ _ h g w _ hs d
 refine⟨a,i.mono λe n c=>?_⟩;cases e with
 |returned v=>
  let ⟨t,p,l,h1,h2,h3⟩:=c
  exact⟨t,p,l,[],h1,h2,h3⟩
 |panicked o=>exact c|outgrown=>exact c.elim
theorem CI{E:er S}{call:fO S}{s:bf S}{m:String}{args:L (V S)}{n:Nat}{x:den S.A (.de n)}{ω:Type}{kp:V S->bf S->O ω}{k:V S->bf S->L Nat->O ω}{r:ω}:∀{l:L (TypeId×Ty)}{j:Nat},
  X6 E call s m args n x kp k l j=Z r->∃i t f,lW (S.alts n) i (S.tZ n x)=W/\((nth (S.alts n) i).elim 0 (·.1))=t/\E.T.JX t m=Z f/\ug E call s f (.ty (mR (S.alts n) i) (jV S.zero (S.alts n) i (S.tZ n x))::args) kp k=Z r
 |[],j,h=>by cases h
 |p::l,j,h=>by
  obtain⟨a,h⟩|⟨_,h⟩:=sy h
  split at h;obtain⟨b,h⟩|⟨_,h⟩:=ah h
  grind[Nat.eq_of_beq_eq_true]
  cases h;cases h;exact CI h
def FN:∀(l:L (TypeId×Ty))(i:Nat)(x:xz S.A l),lW l i x=W->uh S l x=Z ((nth l i).elim 0 (·.1),enc S (mR l i) (jV S.zero l i x))
 |[],_,_,h=>by cases h
 |p::l,0,.inl y,_=>rfl|p::l,0,.inr y,h=>by cases h
 |p::l,i+1,.inl y,h=>by cases h
 |p::l,i+1,.inr y,h=>FN l i y h
theorem xM{P:cP}{o:Oper}{c:Call}(e:o.op=.call c){d:Operand}(f:c.callee=.value d){a:Act}{b:Nat}(g:a.eval d=.func (.yield b) #[] #[]){w:av}{l:Loop}(hl:w.heap[b]?=Z (.loop l))(hs:(c.args.map a.eval).size=l.params.size) :
  (execOp a.eval o).run P w=.ok (.round b l.fn ((l.params.zip (c.args.map a.eval)).foldl (λtmps(t,a)=>tmps.setIfInBounds t a) l.tmps) l.assign l.body) w:=by
 grind[execOp,resolve,Deferred.ofValue,invoke,run_yield]
theorem Hy{E:er S}(F:e8 E){call:fO S}(vR:gu E.T.E.P call){fr:bV S}{s:bf S}{a:Act}(hf:cS g (bB fr) a w)(hs:aY g (aE s) w){o:Oper}{ω:Type}{kp:V S->bf S->O ω}{k:V S->bf S->L Nat->O ω}{r:ω}
  (h:ue E call o fr s kp k=Z r) {K:Act->av->Prop} {Q:Exit->Act->av->Prop} (hK:∀t s' g' ow v w',k t s' ow=Z r->cO ow s g w s' g' w'->aH g' w' (low t) v->K (a.put o.dst v) w')
  (hP:∀t s' g' v w',kp t s'=Z r->cO [] s g w s' g' w'->aH g' w' (low t) v->Q (.panic [{v,recovered:=J}]) a w') (hny:∀c fv oo,o.op=.call c->c.callee=.value fv->cx fr fv≠Z (.qN oo)) :
  o.wp E.T.E.P a w K Q\/(o.asks E.T.E.P a w/\LetsOut Q):=by
 have fin:∀{t:V S}{s':bf S}{v:az}{w':av}{g':Gh},k t s' []=Z r->((execOp a.eval o).run E.T.E.P w=.ok (.value v) w'\/((execOp a.eval o).run E.T.E.P w=.ok .skip w'/\v=undef))->aH g' w' (low t) v->cO [] s g w s' g' w'->o.wp E.T.E.P a w K Q:=by
  intro t s' v w' g' hk R ht b;unfold Oper.wp;obtain R|⟨R,rfl⟩:=R
  rw[R];exact hK t s' g' [] v w' hk b ht;rw[R];exact hK t s' g' [] undef w' hk b ht
 have plain:(match Io E.T fr s o.op with
   |some (U8,p,d,s')=>xZ (λv s=>k v s []) (aU p (k d s' [])) U8|none=>match zS E.T fr s o.op with
    |none=>Y|some (p,t,s')=>aU p (k t s' []))=Z r->o.wp E.T.E.P a w K Q:=by
  intro h;split at h;rename_i p d s' B
  let ⟨t,s1,v,w',g',h1,h2,h3,h4,_⟩:=RM F.Tn F.x hf hs o B (X:=λv s=>k v s []) h
  grind
  grind[nY,RL]
 have called:∀{f:FuncId}{args:L (V S)}{vs:Array az},ug E call s f args kp k=Z r->PW (aH g w) (bu args) vs.toList->(lH E.T.E.P f->(execOp a.eval o).run E.T.E.P w=.ok (.enter f vs) w)->o.wp E.T.E.P a w K Q:=by
  intro f args vs h I hrun
  let ⟨M0,hc⟩:=Aj F vR hs h I
  unfold Oper.wp;rw[hrun M0];refine hc.mono λe w' he=>?_;cases e with
  |returned v=>
   let ⟨t,s',g',ow,h1,h2,h3⟩:=he
   grind
  |panicked ch=>
   obtain⟨v,t,s',g',rfl,h1,h2,h3⟩:=he
   grind
  |outgrown=>exact he.elim
 unfold ue at h;split at h;rename_i c B;split at h;cases h;rename_i args A;have P:=gN A;have oX:=eO hf P;split at h;rename_i hb;split at h;cases h;rename_i t s' C
 let ⟨hp,hk⟩:=nY h
 unfold kV at C;split at C;rename_i r0 h0;cases C;exact Gf F.sg F.Tn F.env F.ty hf hs B hb A h0 hp (λg' v w' b ht=>hK t s' g' [] v w' hk b ht);split at C;rename_i r0 h0;cases C
 let ⟨q,hq,hqp⟩:=xY F.sg F.ty h0 hp
 refine xX F.env hf hs B hb P hq hqp (k:=λt' st'=>t'=low t/\st'=aE s') ⟨rfl,rfl⟩ (λt' st' g' v w' he b ht=>?_);obtain⟨rfl,rfl⟩:=he;exact hK t s' g' [] v w' hk (cO.kA hs b.rel b.ext b.fl b.lo b.aF (HB h0)) ht;split at C;rename_i h0;cases C;obtain⟨rfl,v,R,ht⟩:=Aw F.x hs hf B hb A h0
 grind[cO.refl]
 let ⟨v,w',g',R,ht,b⟩:=Kw F.x hs hf B hb A C
 grind
 rename_i fv hfv;split at h
 simp_all[ag3]
 split at h;cases h;rename_i f args' hfa
 left
 simp[uY]at hfa
 let ⟨tf,htf,Kf⟩:=hfa
 have XE:=bR hf (cw htf);have z:=ry Kf;unfold xd at z;split at z
 .rename_i MU
  simp only[gC,fc]at z;obtain⟨rfl,afe⟩:=z;rw[MU]at XE;generalize hvf:a.eval fv=vf at XE;cases XE with
  |fn _ _ _ va vc l1 l2 r1 r2=>
  have I:PW (aH g w) (bu args') (va++c.args.map a.eval++vc).toList:=by rw[<-afe];simp only[TN,RA];exact PW.append (PW.append ⟨by simpa using l1,λj x y h1 h2=>r1 j x y h1 (by simpa using h2)⟩ oX) ⟨by simpa using l2,λj x y h1 h2=>r2 j x y h1 (by simpa using h2)⟩
  grind[zJ]
 cases z;rename_i x m hxm;have inv:∀{tt:TypeId}{f:FuncId}{tv:V S}{u:az},a.eval x=.iface tt u->aH g w (low tv) u->E.T.JX tt m=Z f->ug E call s f (tv::args) kp k=Z r->o.wp E.T.E.P a w K Q:=by
  intro tt f tv u hv hu hm h;have I:PW (aH g w) (bu (tv::args)) (#[u]++c.args.map a.eval).toList:=by
   simp only[TN,RA];exact PW.append (l:=[low tv]) (m:=[u]) ⟨rfl,λj x y h1 h2=>by
    grind⟩ oX
  exact called h I (λM0=>LQ F.x B hxm hv hm M0)
 split at h;rename_i tt tv hx;split at h
 .rename_i f hm;have R:=bR hf (cw hx);generalize hv:a.eval x=v at R;cases R with|de _ _ u hu=>grind
 cases h;rename_i n y hx
 let ⟨i,t,f,h1,h2,h3,h4⟩:=CI h
 have he:=FN _ _ _ h1;obtain⟨he',_⟩|⟨t',d,u,he',hv,hd⟩:=DG F.sg (show aH g w (dY S (.de n) y) (a.eval x)from cT hf hx)
 simp_all
 rw[he']at he;simp at he;obtain⟨ht,rfl⟩:=he;rw[h2]at ht;subst ht;exact .inl (inv (tv:=.ty (mR (S.alts n) i) (jV S.zero (S.alts n) i (S.tZ n y))) hv (tF hd) h3 h4);cases h;rename_i x B;split at h
 .rename_i tt tv hx
  left
  have R:=bR hf (cw hx);unfold Oper.wp;generalize hv:a.eval x=v at R;cases R with
  |de _ _ u hu=>
  have:(execOp a.eval o).run E.T.E.P w=.halt (.panic (.iface tt u)) w:=by
   simp_all[execOp,Instr.panic]
  rw[this];exact hP _ _ g _ w h (cO.refl hs) (by exact .de _ _ _ hu)
 cases h
 grind
theorem Ah{E:er S}(R:e8 E){call:fO S}(f:gu E.T.E.P call){fr:bV S}{s:bf S}{a:Act}(hf:cS g (bB fr) a w)(hs:aY g (aE s) w){o:Oper}{ω:Type}{kp:V S->bf S->O ω}{k:V S->bf S->L Nat->O ω}{r:ω}
  (h:ue E call o fr s kp k=Z r) {K:Act->av->Prop} {Q:Exit->Act->av->Prop} (F:∀t s' g' ow v w',k t s' ow=Z r->cO ow s g w s' g' w'->aH g' w' (low t) v->K (a.put o.dst v) w')
  (hP:∀t s' g' v w',kp t s'=Z r->cO [] s g w s' g' w'->aH g' w' (low t) v->Q (.panic [{v,recovered:=J}]) a w') {rr:O Nat} (B:rr≠Y->∀c,o.op≠.defer c) :
  YZ rr E.T.E.P o a w K Q:=by
 by_cases I:∃c q A,o.op=.call c/\c.callee=.value q/\cx fr q=Z (.qN A);rotate_left;exact .of_wp B (Hy R f hf hs h F hP λc q A h1 h2 h3=>I ⟨c,q,A,h1,h2,h3⟩)
 let ⟨c,q,A,i,j,u⟩:=I
 unfold ue at h;rw[i]at h;dsimp only at h;split at h;cases h;rename_i args m;rw[j]at h;dsimp only at h;rw[u]at h;have x:=eO hf (gN m);have y:=bR hf (cw u);generalize z:a.eval q=vf at y;cases y with
 |qN _ b P=>
 obtain⟨_,h⟩|⟨_,h⟩:=ah h
 .let ⟨l,C,n,d⟩:=f.yd _ _ _ _ _ _ h g w (c.args.map a.eval) b hs (by simpa using x) P
  left
  rw[Oper.semAt_eq _ _ _ (by simp_all),xM i j z C n];refine⟨λh=>by simp[Fence.wide]at h,(d rr _).mono λe w' p=>?_⟩;cases e with
  |returned v=>
   let ⟨t,s',g',h1,h2,h3⟩:=p
   exact F _ _ _ _ _ _ h1 (h3.acK hs) h2
  |panicked ch=>obtain⟨v,t,s',g',rfl,h1,h2,h3⟩:=p;cases h1
  |outgrown=>exact p.elim
 let ⟨l,C,n,d⟩:=f.yl _ _ _ _ _ _ h g w (c.args.map a.eval) b hs (by simpa using x) P
 left
 rw[Oper.semAt_eq _ _ _ (by simp_all),xM i j z C n];refine⟨λh=>by simp[Fence.wide]at h,(d rr _).mono λe w' p=>?_⟩;cases e with
 |returned v=>
  let ⟨t,s',g',h1,h2,h3⟩:=p
  grind
 |panicked ch=>
  obtain⟨v,t,s',g',rfl,h1,h2,h3⟩:=p
  grind
 |outgrown=>exact p.elim
mutual
theorem sL:∀(s:bf S)(t:Ty)(v:V S){x:den S.A t}{os:L Nat},u5 v=W->bT s t v=Z (x,os)->os=[]
 |s,t,.ty u y,x,os,_,h=>by
  grind[bT]
 |s,t,.agg e,x,os,c,h=>by
  cases t with
  |st n=>simp[bT]at h;split at h;rename_i f g;obtain⟨_,rfl⟩:=h;exact Ip s _ e c g;cases h
  |_=>simp[bT]at h
 |s,t,.kb b,x,os,_,h=>by
  cases t<;>simp[bT]at h
  simp_all
 |s,t,.kn k n,x,os,_,h=>by
  cases t<;>simp only[bT]at h<;>try(cases h;done)
  grind
 |s,t,.emp,x,os,_,h=>by
  cases t<;>simp[bT]at h
  simp_all
 |s,t,.j4 n u l,x,os,_,h=>by
  cases t<;>simp only[bT]at h<;>try(cases h;done)
  grind
 |s,t,.o6 n u y,x,os,_,h=>by
  cases t<;>simp only[bT]at h<;>try(cases h;done)
  grind
 |s,t,.rQ _ _ _ _,x,os,c,_=>by simp[u5]at c
 |s,t,.sh _ _,x,os,c,_=>by simp[u5]at c
 |s,t,.dat d,x,os,_,h=>by
  cases t with
  |de n=>
   cases d with
   |lit v=>cases v<;>simp[bT]at h;simp_all
   |_=>simp[bT]at h
  |opt n=>
   cases d with
   |lit v=>cases v with
    |pointer a=>cases a<;>simp[bT]at h;simp_all
    |_=>simp[bT]at h
   |_=>simp[bT]at h
  |_=>simp[bT]at h
 |s,t,.mp _,_,_,_,h=>by cases t<;>simp[bT]at h
 |s,t,.qN _,_,_,_,h=>by cases t<;>simp[bT]at h
 |s,t,.tD _,_,_,_,h=>by cases t<;>simp[bT]at h
 |s,t,.ub _,_,_,_,h=>by cases t<;>simp[bT]at h
 |s,t,.ptr _ _,_,_,_,h=>by cases t<;>simp[bT]at h
 |s,t,.lD _ _ _,_,_,_,h=>by cases t<;>simp[bT]at h
 |s,t,.lC _ _ _ _,_,_,_,h=>by cases t<;>simp[bT]at h
 |s,t,.fn _ _ _,_,_,_,h=>by cases t<;>simp[bT]at h
 |s,t,.de u v,x,os,c,h=>by
  cases t<;>simp only[bT]at h<;>try(cases h;done)
  split at h;split at h;rename_i i;obtain⟨_,rfl⟩:=h;exact sL s _ v c i;cases h;cases h
 |s,t,.gG _,_,_,_,h=>by cases t<;>simp[bT]at h
 |s,t,.gd _ _,_,_,_,h=>by cases t<;>simp[bT]at h
theorem Ip:∀(s:bf S)(ts:L Ty)(l:L (V S)){h:lB S.A ts}{os:L Nat},jB l=W->nG s ts l=Z (h,os)->os=[]
 |s,[],[],x,os,_,h=>by grind[nG]
 |s,t::ts,v::l,x,os,a,h=>by simp[nG]at h;split at h;rename_i b c;obtain⟨_,rfl⟩:=h;simp[jB,eM]at a;rw[sL s t v a.1 b,Ip s ts l a.2 c];rfl;cases h
 |s,[],_::_,_,_,_,h=>by simp[nG]at h
 |s,_::_,[],_,_,_,h=>by simp[nG]at h
end
end
end
section
def qg:Op->aa
 |.alloc _|.box ..|.store ..|.buildSlice ..|.slice ..|.makeMap ..|.mapUpdate ..|.insert ..|.makeSlice ..|.range ..|.next ..|.defer ..=>W|_=>J
theorem O3{E:fN}{fr:bV S}{s s':bf S}{o:Op}{c:aa}{v:V S}(h:cG E fr s o=Z (c,v,s'))(d:qg o=J):s'=s:=by
 cases o with
 |alloc=>cases d
 |box=>cases d
 |store=>cases d
 |buildSlice=>cases d
 |slice=>cases d
 |move x=>simp only[cG,fG,fc]at h;grind|assign x=>simp only[cG,fG,fc]at h;grind|pick x y z=>simp[cG]at h;split at h;simp only[fG,fc]at h;grind;cases h
 |build t e=>simp[cG]at h;split at h;split at h;simp only[fG,fc]at h;grind;cases h;cases h
 |load t x=>
  simp[cG]at h;split at h;unfold xR at h;split at h;split at h;obtain⟨_,h⟩|⟨_,h⟩:=ah h
  simp only[fG,fc]at h;grind;cases h;cases h;simp only[fG,fc]at h;grind;split at h;simp at h;grind;iterate 3 cases h
 |nilCheck x=>
  simp[cG]at h
  grind
 |binOp op t x y u=>simp[cG]at h;split at h;simp only[fG,fc]at h;grind;cases h
 |unOp op t x=>simp[cG]at h;split at h;simp only[fG,fc]at h;grind;cases h
 |convert t u x=>
  grind[cG,BB]
 |makeInterface t x=>
  simp[cG]at h
  grind
 |makeFunc f a b=>
  simp[cG]at h
  grind
 |extract x k=>
  grind[cG,ud]
 |fieldAddr t x k=>
  grind[cG,qx]
 |field t x k=>
  simp[cG]at h;split at h;unfold Bv at h;split at h;split at h;obtain⟨_,h⟩|⟨_,h⟩:=ah h
  simp only[fG,fc]at h;grind;iterate 4 cases h
 |indexAddr t x y=>
  simp[cG]at h;split at h;unfold jS at h;split at h
  grind
  have:=CS h
  grind
  cases h;cases h
 |index t x y=>
  simp[cG]at h;split at h;unfold Bn at h
  grind
  cases h
 |typeAssert x t u ok=>
  grind[cG,wA]
 |_=>simp[cG]at h
theorem T1{E:fN}{fr:bV S}{s s':bf S}{o:Op}{c:aa}{v:V S}(h:tC E fr s o=Z (c,v,s'))(a:qg o=J):s'=s:=by
 unfold tC at h;split at h;cases a
 grind
 iterate 4 cases a
 grind
 grind
 grind
 grind
 grind
 grind
 grind
 .split at h;rotate_left;cases h;split at h;rotate_left;cases h;simp only[fG,fc]at h
  grind
 cases h
theorem T4{E:fN}{fr:bV S}{s s':bf S}{o:Op}{c:aa}{v:V S}(h:AP E fr s o=Z (c,v,s'))(a:qg o=J):s'=s:=by
 unfold AP at h;split at h
 grind
 (iterate 3 split at h);obtain⟨_,h⟩|⟨_,h⟩:=ah h
 obtain⟨_,h⟩|⟨_,h⟩:=ah h
 grind
 obtain⟨_,h⟩|⟨_,h⟩:=ah h
 simp at h;grind;(iterate 5 cases h);(iterate 3 cases a);cases h
theorem T3{E:fN}{fr:bV S}{s s':bf S}{o:Op}{c:aa}{v:V S}(h:zS E fr s o=Z (c,v,s'))(a:qg o=J):s'=s:=by
 grind[zS,T4,O3,T1]
theorem DA{E:fN}{fr:bV S}{s:bf S}{o:Op}(h:tC E fr s o=Y)(hn:AP E fr s o=Y):zS E fr s o=cG E fr s o:=by
 grind[zS]
def SQ{ω:Type}(k:V S->O ω)(d:O ω):∀l:L (aa×V S×bf S),wC k d l=xZ (λv _=>k v) d l
 |[]=>rfl|p::l=>by simp[wC,xZ,SQ k d l]
theorem E1{l:L (Nat×V S)}(h:jB (l.map (·.2))=W):∀p∈l,u5 p.2=W:=by
 induction l with
 |nil=>simp_all|cons a l b=>
  simp[mh,jB,eM]at h
  grind
theorem BA{s:bf S}{e:Ty}:∀{ps:L (Nat×V S)}{es r:L (den S.A e)}{os:L Nat},(∀p∈ps,u5 p.2=W)->om s e es ps=Z (r,os)->os=[]
 |[],es,r,os,_,h=>by grind[om]
 |(k,v)::ps,es,r,os,a,h=>by
  simp[om]at h;split at h;cases h;rename_i b;obtain⟨_,h⟩|⟨_,h⟩:=ah h
  split at h;rename_i c;obtain⟨_,rfl⟩:=h;rw[sL s e v (a _ fQ) b,BA (λp d=>a p (hJ _ d)) c];rfl;cases h;cases h
theorem BG{E:fN}{fr:bV S}{s s':bf S}{t:TypeId}{n:Nat}{ps:Array (Nat×Operand)}{l:L (Nat×V S)}{c:aa}{v:V S}(hl:iL fr ps.toList=Z l)(hn:jB (l.map (·.2))=W)
  (h:zS E fr s (.buildSlice t n ps)=Z (c,v,s')):s'=s:=by
 cases a:AP E fr s (.buildSlice t n ps)with
 |some r=>
  simp[zS,a,gC]at h;simp[AP]at a;split at a;rename_i b;split at a;rename_i i j f _ _ g;split at a;split at a;obtain⟨_,a⟩|⟨_,a⟩:=ah a
  split at a;rename_i os k;have d:l=[(0,.agg f)]:=by
   grind[iL,cx]
  subst d;simp[mh,List.map_nil,jB,EK]at hn
  grind[sL,dS]
  iterate 5 cases a
  grind
  cases a
 |none=>
 rw[DA rfl a]at h;simp only[cG]at h;split at h;rename_i _ _ b;rw[hl]at b;cases b;split at h;obtain⟨_,h⟩|⟨_,h⟩:=ah h
 split at h;rename_i e;have:=BA (E1 hn) e
 grind[dS]
 iterate 4 cases h
variable {E:fN}{fr:bV S}{s:bf S}{args:List (V S)}
def Ba{t:TypeId}{x:Operand}{lo hi a:O Operand}{u:V S}(hl:cx fr x=Z u)(hn:u5 u=W):AP E fr s (.slice t x lo hi a)=Y:=by
 cases lo<;>cases hi<;>cases a<;>first
  |rfl|(
    simp only[AP,hl];split;rename_i h2 _;cases h2;simp[u5]at hn;rfl)
theorem LH{E:fN}{fr:bV S}{s s':bf S}{t:TypeId}{x:Operand}{lo hi b:O Operand}{u:V S}{c:aa}{v:V S}(hl:cx fr x=Z u)(hn:u5 u=W)
  (h:zS E fr s (.slice t x lo hi b)=Z (c,v,s')):s'=s:=by
 rw[DA rfl (Ba hl hn)]at h;simp[cG]at h;split at h;rename_i a _ _ _;rw[hl]at a;cases a;obtain rfl|h:=En h
 rfl;have:Mw u=[]:=by cases u<;>first|rfl|simp[u5]at hn
 grind[dS]
 cases h
theorem Cq{s:bf S}:∀{ps:L Pk}{l:L (V S)}{x:fI S.A ps}{fz ow bs:L Nat},cr ps=W->jB l=W->eC s ps l Y=Z (x,fz,ow,bs)->fz=[]/\ow=[]/\bs=[]
 |[],[],x,fz,ow,bs,_,_,h=>by
  grind[eC]
 |.one (.dat t)::ps,v::l,x,fz,ow,bs,a,c,h=>by
  simp[eC]at h;simp[jB,eM]at c;split at h;rename_i b d;obtain⟨_,rfl,rfl,rfl⟩:=h;obtain⟨rfl,rfl,rfl⟩:=Cq (by simpa[cr]using a) c.2 d;simp[oG]at b;split at b;rename_i e;obtain⟨_,rfl,rfl⟩:=b;rw[sL s t v c.1 e]
  simp_all
  cases b;cases h
 |.one (.own _)::_,_,_,_,_,_,a,_,_=>by simp[cr]at a
 |.one (.jQ ..)::_,_,_,_,_,_,a,_,_=>by simp[cr]at a
 |.one (.nil _)::_,_,_,_,_,_,a,_,_=>by simp[cr]at a
 |.one (.ptr _)::_,_,_,_,_,_,a,_,_=>by simp[cr]at a
 |.box _::_,_,_,_,_,_,a,_,_=>by simp[cr]at a
 |.hid _::_,_,_,_,_,_,a,_,_=>by simp[cr]at a
 |[],_::_,_,_,_,_,_,_,h=>by simp[eC]at h
 |.one _::_,[],_,_,_,_,_,_,h=>by simp[eC]at h
def ER{s:bf S}:∀{ps:L Pk}(r:gQ S.A ps),cr ps=W->lM s ps [] r=Z s
 |[],_,_=>rfl|.one (.dat t)::ps,r,h=>by exact ER (ps:=ps) r (by simpa[cr]using h)
 |.one (.own _)::_,_,a=>by simp[cr]at a
 |.one (.jQ ..)::_,_,a=>by simp[cr]at a
 |.one (.nil _)::_,_,a=>by simp[cr]at a
 |.one (.ptr _)::_,_,a=>by simp[cr]at a
 |.box _::_,_,a=>by simp[cr]at a
 |.hid _::_,_,a=>by simp[cr]at a
def Lv{s:bf S}:∀{cs:L Ck}(x:fU S.A cs),jv cs=W->g9 s cs x=(sX cs x,s)
 |[],_,_=>rfl|.dat t::cs,x,h=>by simp only[g9,vg,sX];rw[Lv (cs:=cs) x.2 (by simpa[jv]using h)]
 |.own _::_,_,h=>by simp[jv]at h
 |.jQ ..::_,_,h=>by simp[jv]at h
 |.nil _::_,_,h=>by simp[jv]at h
 |.ptr _::_,_,h=>by simp[jv]at h
def Fx:∀{ps:L Pk},cr ps=W->XS ps=J
 |[],_=>rfl|.one (.dat t)::ps,h=>Fx (ps:=ps) (by simpa[cr]using h)
 |.one (.own _)::_,a=>by simp[cr]at a
 |.one (.jQ ..)::_,a=>by simp[cr]at a
 |.one (.nil _)::_,a=>by simp[cr]at a
 |.one (.ptr _)::_,a=>by simp[cr]at a
 |.box _::_,a=>by simp[cr]at a
 |.hid _::_,a=>by simp[cr]at a
def Nn(hn:s.aF<=bD){c:kD S}(h1:cr c.ps=W)(h2:jv c.rs=W)(h3:jB args=W){x:fI S.A c.ps}{fz ow bs:L Nat}(b:eC s c.ps args Y=Z (x,fz,ow,bs))
  {d:RT c.pn (fU S.A c.rs×gQ S.A c.ps) (den S.A S.pt×gQ S.A c.ps)} {r:fU S.A c.rs×gQ S.A c.ps} (f:c.F x=Z d) (g:RT.res c.pn d=.ok r):No s c args (λ_ _=>Y) (λt s' ow=>Z (t,s',ow))=Z (CZ (sX c.rs r.1),s,[]):=by
 obtain⟨rfl,rfl,rfl⟩:=Cq h1 h3 b;have a:Nl s.aF bD=W:=Me hn;unfold No;rw[Fx h1];simp only[gJ];rw[b];simp only[dS];cases Xg c with
 |true=>simp[gn,f,ai,g]|false=>
 simp[gJ,rP,BJ,List.all_nil,Mf,gn,f,ai,List.nil_append,g];have e:xV [] (forget [] s)=s:=rfl;rw[e,ER _ h1];simp[Lv _ h2,a,gn]
def X1(g:O aa):Prop:=g=Y\/g=Z W
def IL{α:Type}{g:O aa}{p:aa}{x:O α}{r:α}(a:X1 g)(h:yU g p x=Z r):p=W/\x=Z r:=by
 obtain rfl|rfl:=a
 exact nY h;exact nY h
def abJ{α:Type}{g:O aa}{x:O α}{z:α}(a:X1 g):ajG g x z=x:=by obtain rfl|rfl:=a<;>rfl
section
variable {g:Gh}{w:av}
def Kv(A:Oh E.E){s':bf S}{a:Act}(hf:cS g (bB fr) a w)(hs:aY g (aE s) w){o:Oper}{f:Call}(B:o.op=.call f)(hb:f.callee=.builtin .len)(b:jN fr f.args.toList=Z args){c:aa}{t:V S}
  (h:mC E s .len f.argTypes args=Z (c,t,s')):∃v,(execOp a.eval o).run E.E.P w=.ok (.value v) w/\aH g w (low t) v:=by
 have k:=eO hf (gN b);unfold mC at h;split at h
 .rename_i d r _;split at h;rotate_left;cases h;rename_i n j l era m gR hole C;split at h;rotate_left;cases h;rename_i i n' hi Kc;split at h;rotate_left;cases h;rename_i F;obtain⟨q,I⟩|⟨_,I⟩:=ah h
  rotate_left;cases I;simp only[eM]at q;have K:=beq_iff'.1 q.1;subst K;obtain⟨_,rfl,rfl⟩:=I;have P:aH g w (.sh d r) ((f.args.toList.map a.eval)[0]'(by have:=k.1;simp[bu]at this;simp;omega)):=k.2 0 _ _ rfl (iu _)
  let ⟨xs,u,_⟩:=Ep P
  have Q:d<bD:=iE (hs.lt' u) hs.aF
  let ⟨z,h1,h2,h3,h4⟩:=HP hs C u
  have x:(lits j (l.map (enc S (.st n))) z).length=l.length:=by rw[nM (by simpa using h1)];simp
  let ⟨_,v,y,ht⟩:=Xh A hf h4 B hb (gN b) (p:=True) (t:=.sym (.lit (.int .i64 (eE (lits j (l.map (enc S (.st n))) z))))) (s':=lI s d (.arr (S.width (.st n)) (lits j (l.map (enc S (.st n))) z) r)) (by
   have R:(nth f.argTypes.toList 0).bind E.E.ti=Z i:=hi;simp only[bu,low,fC,zB,R,F,AZ];rw[gp Q,bO rfl];simp) trivial
  refine⟨v,y,?_⟩;have e:eE (lits j (l.map (enc S (.st n))) z)=aq l:=by simp[eE,x,aq]
  rw[e]at ht;exact ht
 rename_i h0;exact Builtin.noConfusion h0;rename_i h0;exact Builtin.noConfusion h0;cases h
theorem rW{E:er S}(I:e8 E){fr:bV S}{s:bf S}{a:Act}(hf:cS g (bB fr) a w)(hs:aY g (aE s) w){o:Oper}{gd:O aa}(hg:X1 gd){ω:Type}{k:V S->O ω}{r:ω}
  (h:fm E gd fr s o k=Z r) {K:Act->av->Prop} {Q:Exit->Act->av->Prop} (hK:∀t g' v w',k t=Z r->cO [] s g w s g' w'->aH g' w' (low t) v->K (a.put o.dst v) w') :
  o.wp E.T.E.P a w K Q:=by
 have plain:∀{c:aa}{t:V S}{s':bf S},zS E.T fr s o.op=Z (c,t,s')->s'=s->yU gd c (k t)=Z r->o.wp E.T.E.P a w K Q:=by
  intro c t s' f hss h9;subst hss
  let ⟨hp,P⟩:=IL hg h9
  let ⟨v,w',g',C,ht,vS⟩:=RL I hf hs o f hp
  unfold Oper.wp;obtain C|⟨C,rfl⟩:=C
  rw[C];exact hK t g' v w' P vS ht;rw[C];exact hK t g' undef w' P vS ht
 unfold fm at h;split at h
 .rename_i c f;split at h;cases h
  .rename_i args A;have B:=gN A;split at h
   .rename_i b hb;obtain⟨hqb,h⟩|⟨_,h⟩:=ah h
    rotate_left;cases h;split at h
    .rename_i p t s' m
     let ⟨hp,P⟩:=IL hg h
     unfold kV at m;split at m
     .rename_i r0 h0;cases m;cases b with
      |len=>
       let ⟨v,F,ht⟩:=Kv I.env hf hs f hb A h0
       unfold Oper.wp;rw[F];exact hK t g v w P (cO.refl hs) ht
      |append=>cases hqb
      |_=>simp[mC]at h0
     split at m
     .rename_i r0 h0;cases m
      let ⟨q,hq,hqp⟩:=xY I.sg I.ty h0 hp
      cases b with
      |len=>
       let ⟨hss,v,F,ht⟩:=Xh I.env hf hs f hb B hq hqp
       unfold Oper.wp;rw[F];exact hK t g v w P (cO.refl hs) ht
      |max=>simp[g8]at h0|min=>simp[g8]at h0|_=>cases hqb
     split at m;rename_i h0;cases m;obtain⟨rfl,v,C,ht⟩:=Aw I.x hs hf f hb A h0;unfold Oper.wp;rw[C];exact hK t g v w P (cO.refl hs) ht
     .cases b<;>first|(cases hqb;done)|(simp[s7]at m)
    cases h
   .rename_i fv hfv;split at h;cases h
    .rename_i args' hfa;split at h;cases h
     .rename_i ao2;obtain⟨l,h⟩|⟨_,h⟩:=ah h
      .simp only[eM]at l;split at h
       .rename_i x _ _ _ b hpk hnb
        let ⟨rr,hF,P⟩:=iQ h
        rw[abJ hg]at hF;split at P;rotate_left;cases P;rename_i r1 hr1;have hq:=Nn hs.aF l.1 l.2.1 l.2.2.1 hpk hF hr1;simp[uY]at hfa
        let ⟨tf,htf,Kf⟩:=hfa
        have XE:=bR hf (cw htf);have oX:=eO hf B;have i:=ry Kf;unfold xd at i;split at i
        .rename_i MU
         simp only[gC,fc]at i;obtain⟨rfl,R⟩:=i;rw[MU]at XE;generalize hvf:a.eval fv=vf at XE;cases XE with
         |fn _ _ _ va vc l1 l2 r1 r2=>
         have hall:PW (aH g w) (bu args') (va++c.args.map a.eval++vc).toList:=by rw[<-R];simp only[TN,RA];exact PW.append (PW.append ⟨by simpa using l1,λj x y h1 h2=>r1 j x y h1 (by simpa using h2)⟩ oX) ⟨by simpa using l2,λj x y h1 h2=>r2 j x y h1 (by simpa using h2)⟩
         let ⟨M0,hc⟩:=CJ I.sg (I.Hv _ _ ao2) hs hall hq
         unfold Oper.wp;rw[zJ f hfv hvf M0];refine hc.mono λe w' he=>?_
         grind
        cases i
       cases h
      cases h
   cases h
 iterate 11
  cases h
 rename_i t n ps f;split at h;obtain⟨hn,h⟩|⟨_,h⟩:=ah h
 grind[BG]
 cases h;cases h;rename_i t x lo hi mx f;split at h;rename_i v hv;obtain⟨hn,h⟩|⟨_,h⟩:=ah h
 grind[LH]
 cases h;cases h;all_goals try(cases h;done)
 rename_i op h1 h2 h3 h4 h5 h6 h7 h8 h9 h10 h11 h12 h13 h14;have hmv:qg o.op=J:=by cases f:o.op with|store x y z=>simp_all|alloc x=>simp_all|box x y=>simp_all|makeMap x y=>simp_all|mapUpdate x y z u=>grind|insert x y z u=>grind|makeSlice x y z=>simp_all|range x y=>simp_all|next x y=>simp_all|defer x=>simp_all|buildSlice x y z=>simp_all|slice x y z u v=>grind|_=>rfl
 split at h;rename_i U8 p d s' f;have hx:xZ (λv _=>k v) (aU p (k d)) U8=Z r:=by
  rw[<-SQ];obtain rfl|rfl:=hg
  exact h;simpa[yU,imp]using h
 let ⟨t,s1,v,w',g',k1,k2,k3,k4,k5⟩:=RM I.Tn I.x hf hs o f (X:=λv _=>k v) hx
 have:s1=s:=k5 λit b hh=>by simp_all
 subst this;unfold Oper.wp;obtain C|⟨C,rfl⟩:=k2
 rw[C];exact hK t g' v w' k1 k4 k3;rw[C];exact hK t g' undef w' k1 k4 k3
 grind[T3]
theorem Gn{ω:Type}{k:V S->O ω}{d:O ω}{r:ω}:∀{l:L (aa×V S×bf S)},wC k d l=Z r->(∃t,k t=Z r)\/d=Z r
 |[],h=>.inr h|p::l,h=>by
  obtain⟨_,h⟩|⟨_,h⟩:=sy h
  grind
  exact Gn h
theorem Km{E:er S}{fr:bV S}{s:bf S}{o:Oper}{ω:Type}{k:V S->O ω}{r:ω}(h:fm E (Z J) fr s o k=Z r):∃t,k t=Z r:=by
 have a:∀{p:aa}{x:O ω},yU (Z J) p x=Z r->x=Z r:=λh=>(nY h).2;unfold fm at h;split at h;split at h;cases h;split at h
 grind
 split at h;cases h;split at h;cases h;obtain⟨_,h⟩|⟨_,h⟩:=ah h
 split at h
 let ⟨b,_,c⟩:=iQ h
 grind
 iterate 3 cases h
 iterate 11
  cases h
 grind
 grind
 split at h;obtain h|h:=Gn h
 exact h
 grind
 grind
end
end
def rY(p:Nat->aa):so S->aa
 |.call f args=>cH p f||args.any (cH p)|.mark o=>cH (S:=S) p (.ptr o 0)|.marks o=>cH (S:=S) p (.sh o 0)|.jZ=>W|.bad=>W
theorem nW{p q:Nat->aa}(h:∀o,p o=W->q o=W):∀d:so S,rY p d=W->rY q d=W
 |.call f args,a=>by
  simp[rY,nI,Rz]at a ⊢
  grind[eg]
 |.mark o,a=>h o a|.marks o,a=>h o a|.jZ,_=>rfl|.bad,_=>rfl
inductive pg(p:Nat->aa):List (so S)->List (so S)->Prop where
 |nil:pg p [] []|cons {d e:so S} {l m:List (so S)} (h:e=d\/(((e=.bad/\d.one=W)\/(e=.jZ/\d.one=J))/\rY p d=W)) (t:pg p l m):pg p (d::l) (e::m)
theorem pg.refl(p:Nat->aa):∀l:L (so S),pg p l l
 |[]=>.nil|_::l=>.cons (.inl rfl) (pg.refl p l)
theorem pg.mono{p q:Nat->aa}(h:∀o,p o=W->q o=W){l m:L (so S)}(k:pg p l m):pg q l m:=by
 induction k with|nil=>exact .nil|cons c _ d=>exact .cons (c.imp id λ⟨a,b⟩=>⟨a,nW h _ b⟩) d
def pg.trans{p:Nat->aa}:∀{l m n:L (so S)},pg p l m->pg p m n->pg p l n
 |_,_,_,.nil,.nil=>.nil|_,_,_,.cons h t,.cons a b=>by
  refine .cons ?_ (t.trans b);obtain rfl|⟨⟨rfl,h1⟩|⟨rfl,h1⟩,h⟩:=h
  exact a;obtain rfl|⟨⟨rfl,_⟩|⟨rfl,h2⟩,_⟩:=a
  simp_all
  simp_all
  cases h2;obtain rfl|⟨⟨rfl,h2⟩|⟨rfl,_⟩,_⟩:=a
  simp_all
  cases h2
  simp_all
theorem pg.split{p:Nat->aa}:∀{a b m:L (so S)},pg p (a++b) m->∃c d,m=c++d/\pg p b d
 |[],_,m,h=>⟨[],m,rfl,h⟩|_::_,_,_,.cons _ t=>by
  let ⟨c,d,h1,h2⟩:=t.split
  grind
theorem pg.len{p:Nat->aa}{l m:L (so S)}(h:pg p l m):m.length=l.length:=by
 induction h with|nil=>rfl|cons _ _ a=>simp[a]
def xH(p:Nat->aa)(l m:L (so S)):Prop:=∃c d,m=c++d/\pg p l d
theorem xH.refl(p:Nat->aa)(l:L (so S)):xH p l l:=⟨[],l,rfl,.refl p l⟩
theorem pg.ok{p:Nat->aa}{l m:L (so S)}(h:pg p l m):xH p l m:=⟨[],m,rfl,h⟩
theorem xH.mono{p q:Nat->aa}(h:∀o,p o=W->q o=W){l m:L (so S)}(k:xH p l m):xH q l m:=by
 let ⟨c,d,h1,h2⟩:=k
 exact⟨c,d,h1,h2.mono h⟩
def xH.trans{p:Nat->aa}{l m n:L (so S)}(h:xH p l m)(k:xH p m n):xH p l n:=by obtain⟨c,d,rfl,h2⟩:=h;obtain⟨a,b,rfl,h4⟩:=k;obtain⟨x,y,rfl,h5⟩:=h4.split;exact⟨a++x,y,by rw[vw],h2.trans h5⟩
structure ej(ds:List Nat)(fr fr':bV S)(dr:List Nat)(aF:Nat):Prop where
 tm:∀k v,k∉ds->fr.get k=Z v->fr'.get k=Z v\/cH (dL dr aF) v=W
 df:xH (dL dr aF) fr.df fr'.df
theorem ej.refl(ds:L Nat)(fr:bV S)(dr:L Nat)(aF:Nat):ej ds fr fr dr aF:=⟨λ_ _ _ h=>.inl h,xH.refl _ _⟩
def ej.trans{ds d:L Nat}{fr fr' a:bV S}{dr c:L Nat}{aF b:Nat}(h:ej ds fr fr' dr aF)(k:ej d fr' a c b)(f:∀o∈dr,o∈c)(hn:aF<=b):ej (ds++d) fr a c aF:=by
 refine⟨λj v e g=>?_,(h.df.mono (iM f (cM _))).trans (k.df.mono (iM (λ_ h=>h) hn))⟩;simp at e;obtain h1|h1:=h.tm j v e.1 g
 exact(k.tm j v e.2 h1).imp id (eg (iM (λ_ h=>h) hn) v);exact .inr (eg (iM f (cM _)) v h1)
theorem ej.mono{ds a:L Nat}{fr fr':bV S}{dr b:L Nat}{aF:Nat}(h:ej ds fr fr' dr aF)(d:∀k∈ds,k∈a)(c:∀o∈dr,o∈b):ej a fr fr' b aF:=by refine⟨λj v e f=>?_,h.df.mono (iM c (cM _))⟩;exact(h.tm j v (λg=>e (d j g)) f).imp id (eg (iM c (cM _)) v)
def uo{p q:Nat->aa}(a:∀o,p o=W->q o=W){f:V S->aa}(hf:∀v,f v=cH p v):∀l:L (so S),pg q l (l.map (ey f))
 |[]=>.nil|d::l=>by
  refine .cons ?_ (uo a hf l);cases d with
  |call g args=>
   simp[ey];cases b:f g||args.any f with
   |true=>
    refine .inr ⟨.inl ⟨rfl,rfl⟩,nW a _ ?_⟩;simp only[rY,<-hf]
    simp_all
   |false=>exact .inl rfl
  |mark o=>
   simp[ey];cases b:f (.ptr o 0)with|true=>exact .inr ⟨.inl ⟨rfl,rfl⟩,nW a _ (by simp[rY,<-hf];exact b)⟩|false=>exact .inl rfl
  |marks o=>
   simp[ey];cases b:f (.sh o 0)with|true=>exact .inr ⟨.inr ⟨rfl,rfl⟩,nW a _ (by simp[rY,<-hf];exact b)⟩|false=>exact .inl rfl
  |jZ=>exact .inl rfl|bad=>exact .inl rfl
section
variable {g:Gh}{w:av}
theorem oZ{ops:Array Oper}{fr:bV S}{a:Act}(hf:cS g (bB fr) a w){o:Oper}{r:O aa}(h:iB ops.toList fr o=Z r) :
  match r with
  |none=>Region.wanted o (yielded ops a.tmps)=W|some c=>Region.wanted o (yielded ops a.tmps)=c:=by
 unfold iB at h;split at h
 grind[Region.wanted]
 rename_i j f z;split at h;rename_i b l;simp only[uY,jP]at l
 let ⟨d,⟨m,n,q⟩,i⟩:=l
 obtain⟨v,s,u⟩:=hf.tm d (low (.kb b)) (by rw[bU,i];rfl);cases u;have k:ops[j]?=Z m:=by grind
 have x:yielded ops a.tmps j=Z b:=by simp[yielded,k,q,s]
 cases b<;>cases f<;>simp only[gn,gJ,JJ,Ma,gC]at h<;>subst h<;>simp[Region.wanted,z,x];rename_i t _ l;split at h;rename_i b A;simp at h;subst h
 let ⟨p,e,B⟩:=lZ A
 simp only[uY,jP]at l
 let ⟨d,⟨m,n,q⟩,i⟩:=l
 let ⟨v,s,u⟩:=hf.tm d (low t) (by rw[bU,i];rfl)
 have y:=ja e B u;subst y;have k:ops[j]?=Z m:=by grind
 have x:yielded ops a.tmps j=Z b:=by simp[yielded,k,q,s]
 simp only[Region.wanted,z,x,j3];cases b<;>cases f<;>rfl;cases h;cases h
theorem Cb{ops:Array Oper}{fr:bV S}{a:Act}(hf:cS g (bB fr) a w){o:Oper}(h:uJ ops.toList fr o=W):Region.wanted o (yielded ops a.tmps)=J:=by
 unfold uJ at h;split at h;cases h
 .rename_i j e s;split at h
  .rename_i b f;simp only[uY,jP]at f
   let ⟨d,⟨p,i,q⟩,c⟩:=f
   obtain⟨v,r,k⟩:=hf.tm d (low (.kb b)) (by rw[bU,c];rfl);cases k;have m:ops[j]?=Z p:=by grind
   have t:yielded ops a.tmps j=Z b:=by simp[yielded,m,q,r]
   cases b<;>cases e<;>first|(cases h;done)|simp[Region.wanted,s,t]
  .rename_i l f;simp only[uY,jP]at f
   let ⟨d,⟨p,i,q⟩,c⟩:=f
   obtain⟨v,r,k⟩:=hf.tm d (low (.dat (.lit (.tuple l)))) (by rw[bU,c];rfl);cases k with
   |sym _ _ n=>
   cases n
   grind[yielded,Region.wanted]
  cases h
def Lu:aH g w (low (S:=S) mN) undef:=.sym _ _ (.lit _)
def Zb(t a:V S):Prop:=a=t\/∃b,t=.ty .bool b/\a=.kb b
variable {p:Nat->aa}{fr:bV S}{t:V S}{v:az}{a:Act}
def Zb.rel{a:V S}(h:Zb t a)(c:aH g w (low t) v):aH g w (low a) v:=by
 obtain rfl|⟨b,rfl,rfl⟩:=h
 exact c;cases c with|sym _ _ d=>cases d;exact .kb b
def Ts{b:aa}{ω:Type}{k:V S->O ω}{r:ω}(h:Jy b t k=Z r):∃c,Zb t c/\k c=Z r:=by
 obtain⟨_,a⟩|⟨_,a⟩:=ah h
 clear h;split at a;obtain⟨rfl,h⟩|⟨rfl,h⟩:=sy a
 exact⟨_,.inr ⟨W,rfl,rfl⟩,h⟩;exact⟨_,.inr ⟨J,rfl,rfl⟩,h⟩;exact⟨_,.inl rfl,a⟩;exact⟨t,.inl rfl,a⟩
theorem Jx{b:aa}{t:V S}{ω:Type}{k:V S->O ω}{r:ω}(h:Jy b t k=Z r){v:az}(d:aH g w (low t) v):∃a,k a=Z r/\aH g w (low a) v:=by
 obtain⟨_,c⟩|⟨_,h⟩:=ah h
 clear h;split at c;rename_i x;have e:v=.bool x:=by cases d with|sym _ _ f=>cases f;rfl
 subst e;obtain⟨rfl,h⟩|⟨rfl,h⟩:=sy c
 exact⟨_,h,.kb W⟩;exact⟨_,h,.kb J⟩
 grind
 grind
theorem vU{fr:bV S}{a:Act}(hf:cS g (bB fr) a w)(hn:fr.n<=bD){o:Op}(h:M5 W fr o=W):cS g (bB (ri fr o)) a w/\(ri fr o).n=fr.n:=by
 have key:∀(l:L Operand)(q:aa)(f0:bV S),f0.n=fr.n->(q=W->cS g (bB f0) a w)->
   l.foldl (λp x=>match x with
    |.tmp k=>match fr.get k with
     |some (.gd g _)=>p&&imp W g|_=>p
    |_=>p) q=W->
   cS g (bB (l.foldl (λf x=>match x with
    |.tmp k=>match fr.get k with
     |some (.gd _ v)=>f.put k v|_=>f
    |_=>f) f0)) a w/\(l.foldl (λf x=>match x with
    |.tmp k=>match fr.get k with
     |some (.gd _ v)=>f.put k v|_=>f
    |_=>f) f0).n=fr.n:=by
  intro l
  induction l with
  |nil=>simp_all|cons x l s=>
   intro q f0 j t h;simp at h ⊢;cases x with
   |tmp k=>
    simp only at h ⊢;split at h;rename_i y v dN;refine s _ _ (by simpa[bV.put]using j) (λc=>?_) h;simp at c;have d:=t c.1;have m:y=W:=c.2;subst m
    let ⟨u,z,A⟩:=hf.tm k (low (.gd W v)) (by rw[bU,dN];rfl)
    have e:k<fr.n:=by have:=(Wh.1 z).1;rw[hf.size]at this;exact this
    refine⟨d.size,d.df,λn B b=>?_⟩;rw[bU,bV.jC _ _ _ _ (iE e hn)]at b;by_cases i:n=k
    .subst i;rw[bO rfl]at b;simp at b;cases A with|gd _ _ _ r=>simp_all
    rw[cm i]at b;exact d.tm n B (by rw[bU];exact b)
    grind
   |const v=>grind|global v=>grind|func v=>grind
 exact key o.operands.toList W fr rfl (λ_=>hf) h
def tP(hf:cS g (bB fr) a w){dst:O Nat}(b:gw fr dst=W)(hn:fr.n<=bD)(c:aH g w (low t) v) :
  cS g (bB (fr.kG dst t)) (a.put dst v) w/\(fr.kG dst t).n=fr.n:=by
 refine⟨?_,by cases dst<;>rfl⟩;rw[O9];exact UN hf (by cases dst<;>exact b) hn c
theorem A7{fr:bV S}(hn:fr.n<=bD){dst:O Nat}(g:gw fr dst=W){ow dr:L Nat}(i:∀o∈ow,o∈dr)(aF:Nat)(t:V S):ej dst.toList fr ((dx ow fr).kG dst t) dr aF:=by
 refine⟨λk v h c=>?_,?_⟩;rotate_left
 .have e:((dx ow fr).kG dst t).df=(dx ow fr).df:=by cases dst<;>rfl
  rw[e];cases ow with
  |nil=>exact xH.refl _ _|cons o ow=>
   refine(uo (p:=(o::ow).contains) (λj a=>?_) (λv=>oU _ v) _).ok;simp only[dL,nI,EG,sC]at a ⊢
   grind
 have h1:(dx ow fr).get k=Z v\/cH (dL dr aF) v=W:=by
  cases ow with
  |nil=>exact .inl c|cons o ow=>
   cases f:iF (o::ow) v with
   |true=>
    rw[oU]at f;refine .inr (eg (λo a=>?_) v f);simp only[dL,nI,EG,sC]at a ⊢
    grind
   |false=>
    left
    show(fr.tm.keep _).get k=Z v;rw[Tr.nS,show fr.tm.get k=Z v from c]
    simp_all
 refine h1.imp (λh1=>?_) id;cases dst with|none=>exact h1|some d=>have b:d<fr.n:=gH g;show((dx ow fr).put d t).get k=Z v;rw[bV.jC _ _ _ _ (iE b hn),cm (by simpa using h)];exact h1
def Aa(v:az):aH g w (low (S:=S) (.gd J mN)) v:=by exact .gd _ _ _ λh=>by cases h
def sV(ow:L Nat)(fr:bV S):(dx ow fr).n=fr.n:=by cases ow<;>rfl
def zT{ow:L Nat}{d:O Nat}(h:gw fr d=W):gw (dx ow fr) d=W:=by
 simp_all[gw,sV]
theorem rV{E:er S}(u:e8 E){call:fO S}(i:gu E.T.E.P call){ops:Array Oper}{fr:bV S}{s:bf S}{a:Act}(hn:fr.n<=bD)(hf:cS g (bB fr) a w)(hs:aY g (aE s) w){o:Oper}{ω:Type}
  {kp:V S->bf S->O ω} {k:V S->bf S->L Nat->O ω} {r:ω} (h:o5 E call ops.toList o fr s kp k=Z r) {K:Act->av->Prop} {Q:Exit->Act->av->Prop}
  (f:∀t s' ow g' v w',k t s' ow=Z r->aH g' w' (low t) v->cO ow s g w s' g' w'->K (a.put o.dst v) w')
  (z:∀t s' g' v w',kp t s'=Z r->cO [] s g w s' g' w'->aH g' w' (low t) v->Q (.panic [{v,recovered:=J}]) a w') {rr:O Nat} (j:rr≠Y->∀c,o.op≠.defer c) :
  gw fr o.dst=W/\if Region.wanted o (yielded ops a.tmps)then YZ rr E.T.E.P o a w K Q else K (a.put o.dst undef) w:=by
 obtain⟨x,h⟩|⟨_,h⟩:=ah h
 rotate_left;cases h;refine⟨x,?_⟩;obtain⟨l,h⟩|⟨_,h⟩:=ah h
 rw[cm (by rw[Cb hf l];simp_all)];exact f _ s [] g undef w h Lu (cO.refl hs);split at h;cases h;rename_i m;have q:=oZ hf m
 grind[Ah]
 rename_i c m;have q:=oZ hf m;obtain⟨_,h⟩|⟨_,h⟩:=ah h
 .let ⟨b,h⟩:=nY h
  cases c with
  |true=>
   rw[bO q]
   let ⟨d,n⟩:=vU hf hn b
   exact .of_wp j (.inl (rW u d hs (.inr rfl) h (λt g' v w' p e y=>f _ s [] g' v w' p (by exact .gd _ _ _ λ_=>y) e)))
  |false=>
   rw[cm (by simp_all)]
   let ⟨t,p⟩:=Km h
   exact f _ s [] g undef w p (by exact .gd _ _ _ λh=>by cases h) (cO.refl hs)
 obtain⟨rfl,h⟩|⟨rfl,h⟩:=sy h
 let ⟨b,h⟩:=nY h
 let ⟨d,n⟩:=vU hf hn b
 grind[Ah]
 rw[cm (by simp_all)];exact f _ s [] g undef w h (Aa _) (cO.refl hs)
theorem Kq{P:cP}{fr:bV S}{a:Act}(hf:cS g (bB fr) a w){o:Oper}{d:so S}(h:PY fr o=Z d) :
  o.guard=Y/\∃e,(execOp a.eval o).run P w=.ok (.defer e) w/\wL g w (lU d) e:=by
 unfold PY at h;split at h;rotate_left;cases h;rename_i c r s;refine⟨r,?_⟩;split at h;rotate_left;cases h;rename_i f p;split at h;rotate_left;cases h;rename_i k u x args l b;simp at h;subst h;have q:=bR hf (cw l);have i:=eO hf (gN b);generalize y:a.eval f=E at q;cases q with
 |fn _ _ _ m n z A B C=>
  refine⟨{target:=.fn k n,args:=m++c.args.map a.eval},?_,?_⟩
  grind[execOp,resolve,Deferred.ofValue,run_pure]
  exact .call (.fn k (bu u) (bu x)) (bu args) k m n (c.args.map a.eval) (.fn k _ _ m n z A B C) (by simpa using i.1) (λj t v h1 h2=>i.2 j t v h1 (by simpa using h2))
def Kl{E:er S}(A:e8 E){call:fO S}(f:gu E.T.E.P call){ops:Array Oper}{s:bf S}(hn:fr.n<=bD)(hf:cS g (bB fr) a w)(hs:aY g (aE s) w){o:Oper}{ω:Type}
  {kp:V S->bf S->O ω} {k:bV S->bf S->O ω} {r:ω} (h:PN E call ops.toList o fr s kp k=Z r) {K:Act->av->Prop} {Q:Exit->Act->av->Prop}
  (B:∀fr' s' g' a' w',k fr' s'=Z r->fr'.n=fr.n->cS g' (bB fr') a' w'->eB s g w s' g' w'->ej o.dst.toList fr fr' s'.dr s.aF->K a' w')
  (C:∀t s' g' v w',kp t s'=Z r->cS g' (bB fr) a w'->eB s g w s' g' w'->aH g' w' (low t) v->Q (.panic [{v,recovered:=J}]) a w') {rr:O Nat} (l:rr≠Y->∀c,o.op≠.defer c) :
  if Region.wanted o (yielded ops a.tmps)then YZ rr E.T.E.P o a w K Q else K (a.put o.dst undef) w:=by
 unfold PN at h;split at h
 .rename_i d x;obtain⟨m,h2⟩|⟨_,h2⟩:=ah h
  rotate_left;cases h2
  let ⟨F,e,n,i⟩:=Kq (P:=E.T.E.P) hf x
  have I:Region.wanted o (yielded ops a.tmps)=W:=by simp[Region.wanted,F]
  rw[bO I];refine .of_wp l (.inl ?_);unfold Oper.wp;rw[n]
  let ⟨h1,h3⟩:=tP hf m hn (t:=yq) (v:=undef) (Aa _)
  have key:∀dst:O Nat,cS g (bB (fr.kG dst yq)) (a.put dst undef) w->cS g (bB {(fr.kG dst yq)with df:=d::fr.df}) (({a with defers:=e::a.defers}:Act).put dst undef) w:=by intro dst h1;cases dst with|none=>exact⟨h1.size,.cons i hf.df,h1.tm⟩|some j=>exact⟨h1.size,.cons i hf.df,h1.tm⟩
  let ⟨h4,h5⟩:=A7 (ow:=[]) (dr:=s.dr) hn m (λo R=>by cases R) s.aF yq
  exact B _ s g _ w h2 h3 (key _ h1) (eB.refl hs) ⟨h4,[d],fr.df,rfl,.refl _ _⟩
 have m:gw fr o.dst=W:=(rV A f hn hf hs h (K:=λ_ _=>True) (Q:=λ_ _ _=>True) (λ_ _ _ _ _ _ _ _ _=>trivial) (λ_ _ _ _ _ _ _ _=>trivial) l).1;refine(rV A f hn hf hs h (λt s' ow g' v w' p q b=>?_) (λt s' g' v w' p b q=>C t s' g' v w' p (nB (ow:=[]) hf b) b.toW q) l).2;have y:=b.owd;have z:=nB hf b
 let ⟨t,p,q⟩:=Jx p q
 let ⟨h1,h2⟩:=tP (fr:=dx ow fr) z (zT m) (by rw[sV];exact hn) q
 exact B _ s' g' _ w' p (h2.trans (sV ow fr)) h1 b.toW (A7 hn m y _ t)
theorem CH{E:er S}(K:e8 E){call:fO S}(e:gu E.T.E.P call){ops:Array Oper}{ω:Type}{kp:bV S->V S->bf S->O ω}{kk:bV S->bf S->O ω}{r:ω}{Q:Exit->Act->av->Prop}{rr:O Nat}(q:rr≠Y->∀o∈ops.toList,∀c,o.op≠.defer c) :
  ∀(l:L Oper)(k:Nat),ops.toList.drop k=l->∀{fr:bV S}{s:bf S}{a:Act}{g:Gh}{w:av},fr.n<=bD->Ss E call ops.toList kp kk l fr s=Z r->cS g (bB fr) a w->aY g (aE s) w->
   (∀fr' s' g' a' w',kk fr' s'=Z r->fr'.n=fr.n->cS g' (bB fr') a' w'->eB s g w s' g' w'->ej (l.filterMap (·.dst)) fr fr' s'.dr s.aF->Q .normal a' w')->
   (∀fr' t s' g' a' v w',kp fr' t s'=Z r->fr'.n=fr.n->cS g' (bB fr') a' w'->eB s g w s' g' w'->ej (l.filterMap (·.dst)) fr fr' s'.dr s.aF->aH g' w' (low t) v->Q (.panic [{v,recovered:=J}]) a' w')->
   wG rr E.T.E.P ops Q (List.range' k l.length) a w:=by
 intro l
 induction l with
 |nil=>intro k _ fr s a g w _ h u x y _;exact y fr s g a w h rfl u (eB.refl x) (ej.refl _ _ _ _)
 |cons o l P=>
  intro k F fr s a g w R h u x y I;have hk:ops[k]?=Z o:=by
   have:=lq (λm=>m[0]?) F
   grind
  have z:ops.toList.drop (k+1)=l:=by
   have:=lq (List.drop 1) F
   grind[List.drop_drop]
  rw[qP,List.range'_succ];unfold wG;simp[hk];have tail:∀{fr' b:bV S}{s' d:bf S}{g':Gh}{w':av},eB s g w s' g' w'->ej o.dst.toList fr fr' s'.dr s.aF->(∀o∈s'.dr,o∈d.dr)->ej (l.filterMap (·.dst)) fr' b d.dr s'.aF->ej ((o::l).filterMap (·.dst)) fr b d.dr s.aF:=by
   intro fr' b s' d g' w' h4 h5 h6 n;have:=h5.trans n h6 h4.aF
   grind
  refine Kl K e R u x h (λfr' s' g' a' w' h1 h2 h3 h4 h5=>?_) (λt s' g' v w' h1 h2 h3 h4=>I fr t s' g' a v w' h1 rfl h2 h3 (ej.refl _ _ _ _) h4) λhr=>q hr o (by grind);exact P (k+1) z (by omega) h1 h3 h4.rel (λb d f i j A B C p n=>y b d f i j A (B.trans h2) C (h4.trans p) (tail h4 h5 p.FT n)) (λb t d f i v' j A B C p n k6=>I b t d f i v' j A (B.trans h2) C (h4.trans p) (tail h4 h5 p.FT n) k6)
end
section
def VW(a:Act)(w:av)(c:Nat):O az:=bif Nt c 1000000 then a.tmps[c]? else match a.tmps[Nat.div (Nat.sub c 1000000) 1000]? with
 |some (.pointer (Z b))=>match w.heap[b.block]? with
  |some (.cells d _ _)=>d[Nat.mod (Nat.sub c 1000000) 1000]?|_=>Y
 |_=>Y
theorem Ek{g:Gh}{w:av}{fr:bV S}{s:bf S}{a:Act}(hf:cS g (bB fr) a w)(hs:aY g (aE s) w){c:Nat}{v:V S}(h:VV fr s c=Z v):∃u,VW a w c=Z u/\aH g w (low v) u:=by
 unfold VV at h;unfold VW;cases i:Nt c 1000000 with
 |true=>
  rw[i,gn]at h
  let ⟨u,e,f⟩:=hf.tm c (low v) (by rw[bU,h];rfl)
  exact⟨u,e,f⟩
 |false=>
  rw[i,gJ]at h;split at h;rename_i o k;split at h
  .rename_i cs l;obtain⟨u,e,f⟩:=hf.tm _ (low (.ptr o 0)) (by rw[bU,k];rfl);cases f with
   |ptr _ _ b m=>
   let ⟨n,ty,p,q,d⟩:=(hs.box o b m).box (cs:=bu cs) (by rw[aK,l];rfl)
   have h1:=DB h;have h2:∃x,n[Nat.mod (Nat.sub c 1000000) 1000]?=Z x:=by have:=(TR.1 h1).1;exact⟨_,tO (by omega)⟩
   let ⟨x,j⟩:=h2
   exact⟨x,by simp only[gJ,e,p,j],d _ _ _ h1 j⟩
  cases h;cases h
def ZU(a:Act)(w:av)(al:L (Nat×Nat)):Prop:=∀p∈al,a.tmps[p.1]?=VW a w p.2
theorem lN{g:Gh}{w:av}{a:Act}{s:bf S}(hs:aY g (aE s) w):∀{al:L (Nat×Nat)}{fr:bV S},(∀p∈al,p.1<bD)->ZU a w al->cS g (bB fr) a w->
  cS g (bB (mj s al fr)) a w/\(mj s al fr).n=fr.n/\(mj s al fr).df=fr.df/\∀k,k∉al.map (·.1)->(mj s al fr).get k=fr.get k
 |[],fr,_,_,c=>⟨c,rfl,rfl,λ_ _=>rfl⟩|p::al,fr,e,f,c=>by
  have d:=e p fQ;have n:=f p fQ;simp only[mj];cases o:VV fr s p.2 with
  |none=>
   let ⟨h1,h2,h3,h4⟩:=lN hs (fr:=fr) (λq b=>e q (hJ _ b)) (λq b=>f q (hJ _ b)) c
   simp_all
  |some v=>
   have h:cS g (bB (fr.put p.1 v)) a w:=by
    refine⟨c.size,c.df,λj t i=>?_⟩;rw[bU,bV.jC _ _ _ _ d]at i;by_cases l:j=p.1
    grind[Ek]
    rw[cm l]at i;exact c.tm j t (by rw[bU];exact i)
   let ⟨h1,h2,h3,h4⟩:=lN hs (fr:=fr.put p.1 v) (λq b=>e q (hJ _ b)) (λq b=>f q (hJ _ b)) h
   refine⟨h1,h2,h3,λk m=>?_⟩;simp only[mh,fF,not_or]at m;rw[h4 k m.2,bV.jC _ _ _ _ d,cm m.1]
def AK.mj{sh:Sh}{bs:L Nat}{a:Act}{gb:Gh}{jD c:bV S}{s0 b:bf S}{w:av}{d:L eU}{e:Gh}(h:AK [] sh bs a gb jD s0 w d e c b){al:L (Nat×Nat)}(f:∀p∈al,p.1<bD)(g:ZU a w al) :
  AK (al.map (·.1)) sh bs a gb jD s0 w d e (TL.mj b al c) b:=by
 let ⟨h1,h2,h3,h4⟩:=lN h.rel f g h.fr
 exact⟨h.rel,h1,h.le,h.bp,h.own,h.fl,h.lo,h.aF,h.wr,h.dr,h.ob,h.bP,h.arr,h2.trans h.n,h3.trans h.NA,λk i j=>(h4 k i).trans (h.get k (by simp) j)⟩
variable {a:Act}{w:av}{al:List (Nat×Nat)}
def xg{g:Gh}{fr:bV S}{s:bf S}(hf:cS g (bB fr) a w)(hs:aY g (aE s) w)(h:Va fr s al=W):ZU a w al:=by
 intro p k;unfold Va at h;rw[j5]at h;have h1:=h p k;split at h1
 .rename_i o r t u l m;rw[eM]at h1;obtain rfl:=beq_iff'.1 h1.1;obtain rfl:=beq_iff'.1 h1.2;obtain⟨v,c,d⟩:=hf.tm p.1 (low (.sh o r)) (by rw[bU,l];rfl)
  let ⟨y,e,f⟩:=Ek hf hs m
  cases d with
  |sh _ _ len cap sz x n=>
  cases f with|sh _ _ i j q z b=>rw[n]at b;cases b;rw[c,e]
 cases h1
theorem NX{fr:bV S}{ow:L Nat}{al:L (Nat×Nat)}(h:aci fr ow al=W){p:Nat×Nat}(a:p∈al){v:V S}(b:fr.get p.1=Z v):∃o r,v=.sh o r/\o∈ow:=by
 unfold aci at h
 grind
end
section
inductive HN(g:Gh)(w:av):uF S->Exit->Prop where
 |qW:HN g w .qW .normal|ext (i:Nat):HN g w (.ext i) (.exit i)|ret:HN g w .ret .ret|jJ (t:V S) (v:az) (h:aH g w (low t) v):HN g w (.jJ t) (.panic [{v,recovered:=J}])
def HJ(ds:L Nat)(fr:bV S)(s:bf S)(g:Gh)(w:av){ω:Type}(Q:uF S->bV S->bf S->O ω)(r:ω)(e:Exit)(a:Act)(w':av):Prop:=
 False\/∃ex fr' s' g',HN g' w' ex e/\Q ex fr' s'=Z r/\fr'.n=fr.n/\cS g' (bB fr') a w'/\eB s g w s' g' w'/\ej ds fr fr' s'.dr s.aF
theorem HJ.mono{ds c:L Nat}{fr sU:bV S}{s s1:bf S}{g f:Gh}{w w1:av}{ω:Type}{Q:uF S->bV S->bf S->O ω}{r:ω}{e:Exit}{a:Act}{w':av}(hn:sU.n=fr.n)(b:eB s g w s1 f w1)(hf:ej ds fr sU s1.dr s.aF)
  (h:HJ c sU s1 f w1 Q r e a w'):HJ (ds++c) fr s g w Q r e a w':=by
 obtain h|⟨i,d,j,k,h1,h2,h3,h4,h5,h6⟩:=h
 exact .inl h;exact .inr ⟨i,d,j,k,h1,h2,h3.trans hn,h4,b.trans h5,hf.trans h6 h5.FT b.aF⟩
def HJ.ds{ds b:L Nat}{fr:bV S}{s:bf S}{g:Gh}{w:av}{ω:Type}{Q:uF S->bV S->bf S->O ω}{r:ω}{e:Exit}{a:Act}{w':av}(d:∀k∈ds,k∈b)(h:HJ ds fr s g w Q r e a w'):HJ b fr s g w Q r e a w':=by
 obtain h|⟨f,c,i,j,h1,h2,h3,h4,h5,h6⟩:=h
 exact .inl h;exact .inr ⟨f,c,i,j,h1,h2,h3,h4,h5,h6.mono d (λ_ h=>h)⟩
theorem Ug(p:Nat->Prop)(h:∃n,p n):∃n,p n/\∀m,p m->n<=m:=by
 let ⟨n,a⟩:=h
 induction n using Nat.strongRecOn with
 |_ n b=>
  grind
theorem Ur{X R B P:Type}{F:X->O (LO X R B P)}:∀{n:Nat}{x:X}{o:LO X R B P},iter F n x=Z o->∃m,n=m+1/\∃a,F x=Z a/\((∃y,a=.next y/\iter F m y=Z o)\/(a=o/\∀y,o≠.next y))
 |0,_,_,h=>by cases h
 |_+1,x,o,h=>by
  simp[iter]at h
  grind
structure wN(sh:Sh)(bs:List Nat)(jD:bV S)(s0 s:bf S)(g:Gh)(w:av)(x:fI S.A (kP sh))(a:Act)(gb:Gh)(w':av)(vals:List az)(al:List eU)(bl:List Nat):Prop where
 rel:aY gb (aE s0) w'
 fr:cS gb (bB jD) a w'
 pr:qI S gb.bp w' (kP sh) x vals al bl
 at_:iI a sh vals
 GZ:PW (λo b=>gb.bP o=Z b) bs bl
 WZ:∀o∈bs,∀e,gb.arr o e=Y
 fresh:∀a∈al,∀b,a.at b->∀o,¬bx gb o b
 ap:wP al
 ext:n8 s.lo s.fl g w gb w'
 alo:∀a∈al,∀b,a.at b->(∃o,s.fl<=o/\bx g o b)\/w.heap.size<=b
variable {w':av}
def wN.head{sh:Sh}{bs:L Nat}{jD f:bV S}{s0 s i:bf S}{g:Gh}{w:av}{x:fI S.A (kP sh)}{a:Act}{gb:Gh}{vals:L az}{al:L eU}{bl:L Nat}
  (c:wN sh bs jD s0 s g w x a gb w' vals al bl) (hn:jD.n<=bD) (h:mP sh bs x jD s0=Z (f,i)) :
  ∃j,AK [] sh bs a gb jD s0 w' al j f i/\n8 s.lo s.fl g w j w':=by
 let ⟨j,d⟩:=vQ h hn c.pr c.at_ c.GZ c.WZ c.fresh c.ap c.fr c.rel
 refine⟨j,d,λo b e=>?_,λo e y q k=>?_,λb e=>?_,c.ext.size,c.ext.heap,λo b r l=>?_,λb p=>?_,c.ext.os,c.ext.output⟩;exact d.le.bP o b (c.ext.bP o b e);exact d.le.arr o e y (c.ext.arr o e y q k);exact d.le.bp b (c.ext.bp b e);obtain l|⟨_,t,m,n⟩:=d.own o b l
 exact c.ext.own o b r l;exact c.alo t m b n;rw[d.bp]at p;exact c.ext.nQ b p
theorem Yk(P:Nat->aa)(d:so S):ey (cH P) (ey (cH P) d)=ey (cH P) d:=by
 cases d with
 |call f args=>
  simp[ey]
  grind
 |mark o=>
  simp[ey]
  grind
 |marks o=>
  simp[ey]
  grind
 |_=>rfl
def ab0{P Q:Nat->aa}(c:∀o,Q o=W->P o=W):∀{l m:L (so S)},pg Q (l.map (ey (cH P))) m->m=l.map (ey (cH P)):=by
 intro l
 induction l with
 |nil=>intro m h;cases h;rfl
 |cons d l g=>
  intro m h;cases h with
  | @cons _ e _ _ i j=>
  rw[mh,g j]
  congr 1
  obtain rfl|⟨h1,k⟩:=i
  rfl;have a:=nW c _ k;cases d with
  |call f args=>
   simp[ey]at a h1 ⊢;cases b:cH P f||args.any (cH P)with
   |true=>
    rw[b]at h1;obtain⟨h1,_⟩|⟨_,h1⟩:=h1
    exact h1;cases h1
   |false=>
    simp_all[rY]
  |mark o=>
   simp[ey]at a h1 ⊢;cases b:cH (S:=S) P (.ptr o 0)with
   |true=>
    rw[b]at h1;obtain⟨h1,_⟩|⟨_,h1⟩:=h1
    exact h1;cases h1
   |false=>
    simp_all[rY]
  |marks o=>
   simp[ey]at a h1 ⊢;cases b:cH (S:=S) P (.sh o 0)with
   |true=>
    rw[b]at h1;obtain⟨_,h1⟩|⟨h1,_⟩:=h1
    cases h1;exact h1
   |false=>
    simp_all[rY]
  |jZ=>
   obtain⟨_,h1⟩|⟨h1,_⟩:=h1
   cases h1;exact h1
  |bad=>
   obtain⟨h1,_⟩|⟨_,h1⟩:=h1
   exact h1;cases h1
theorem ab1{g g':Gh}{w w':av}{P:Nat->aa}(b:∀t v,aH g w t v->dH P t=J->aH g' w' t v){l:L (so S)}{a:L Deferred}(c:eH g w ((l.map (ey (cH P))).map lU) a) :
  eH g' w' ((l.map (ey (cH P))).map lU) a:=by
 have h:=gL (S:=S) (p:=cH P) (q:=dH P) (λv=>g6 P v) (λ_ _=>rfl) (l.map (ey (cH P)));have e:(l.map (ey (cH P))).map (ey (cH P))=l.map (ey (cH P)):=by
  grind[List.map_congr_left,Yk]
 rw[e]at h;exact ie.rel b h c
section
variable {sh:Sh}{bs ow ds:List Nat}{fr:bV S}{s s1:bf S}{g:Gh}{w:av}{a:Act}
theorem SO(a:∀d∈ds,d<bD)(k:Nat):(cI ds ow bs fr s1).1.get k=if k∈ds then Y else(fr.get k).filter (λv=>!(cH (dL ow s1.aF) v)):=by show((ds.foldl (λt k=>t.del aO k) fr.tm).keep _).get k=_;rw[Tr.nS,Tr.nT ds _ k a];split;rfl;rfl
theorem Ay(a:∀d∈ds,d<bD){k:Nat}{v:V S}(h:(cI ds ow bs fr s1).1.get k=Z v):k∉ds/\fr.get k=Z v/\cH (dL ow s1.aF) v=J:=by
 grind[SO,Option.filter_eq_some_iff]
theorem Gi(hf:cS g (bB fr) a w)(hs:aY g (aE s) w)(C:∀d∈ds,d<bD){x:fI S.A (kP sh)}{m:Gh}{vals:L az}{al:L eU}{bl:L Nat}
  (c:Gx sh bs a g s w x s1 ow m vals al bl):wN sh bs (cI ds ow bs fr s1).1 (cI ds ow bs fr s1).2 s g w x a (m.base (dL ow s1.aF)) w vals al bl:=by
 have r:∀b∈bs,b<bD:=λb i=>by exact iE (c.SM b i).2.1 hs.aF
 have n:∀o,o∉ow->o<s.aF->dL ow s1.aF o=J:=λo h1 h2=>oS h1 (c.aF▸h2);have l:=c.YE.owned c.pr.iy;refine⟨c.rel.base (λo q=>?_) rfl (cM _) (λo ob hpo f=>?_),⟨hf.size,(gL (λv=>g6 (dL ow s1.aF) v) (λ_ _=>rfl) fr.df).rel (λt v ht z=>(ht.ext c.ext hs.bp).on (m.gr _) (λ_ _=>rfl) z) hf.df,λk t Q=>?_⟩,c.pr,c.at_,⟨c.GZ.1,λj o b h1 h2=>?_⟩,λo q e=>?_,λE F b i o A=>?_,c.ap,⟨λo b i=>?_,λo e y hl R=>?_,c.ext.bp,cM _,λ_ _ _=>rfl,λo b q A=>?_,c.ext.nQ,rfl,rfl⟩,λE F b i=>?_⟩;simp only[dL,nI];exact .inr (Me q);rw[aK,s8 r]at f;split at f;cases f;rw[EL,fG]at f;obtain⟨B,I,rfl⟩:=f;exact⟨cX B,by rw[aK,I];rfl,kU _ B⟩;rw[bU,fG]at Q;obtain⟨v,I,rfl⟩:=Q
 let ⟨_,h2,h3⟩:=Ay C I
 let ⟨u,hu,hr⟩:=hf.tm k (low v) (by rw[bU,h2];rfl)
 exact⟨u,hu,(hr.ext c.ext hs.bp).on (m.gr _) (λ_ _=>rfl) (by rw[g6];exact h3)⟩;have f:=hU h1;have:=c.SM o f;exact(m.gr _).bP o b (n o this.2.2.1 this.2.1) (c.GZ.2 j o b h1 h2);simp only[Gh.base];split;exact(c.SM o q).2.2.2 e;rfl
 let ⟨h1,h2⟩:=Gh.fD A
 let ⟨o',K,P⟩:=l E F b i
 have:=c.rel.jF o o' b h2 P;subst this;exact(lz h1).1 K;have p:=hs.lt i;exact(m.gr _).bP o b (n o (λz=>by rw[c.owb o z]at i;cases i) p) (c.ext.bP o b i);have p:=hs.lt' R;exact(m.gr _).arr o e y (n o (λz=>by have:=(c.WS o z).2.1;omega) p) (c.ext.arr o e y R);obtain h|h:=c.ext.own o b (Gh.fD A).2
 grind
 omega
 let ⟨o,q,A⟩:=l E F b i
 obtain h|h:=c.ext.own o b A
 exact .inl ⟨o,(c.WS o q).1,h⟩;omega
theorem Qi{ex:L Nat}{v:Sh}{jD:bV S}(hds:∀d∈ds,d<bD)(i:∀b∈bs,b<s1.aF/\b∉ow)(E:s1.aF<=bD)(hlo:s.lo<=s1.aF)(how:∀o∈ow,s.lo<=o)(F:∀o b,g.bP o=Z b->o<s1.aF/\o∉ow)(I:s1.lo=s.lo)(K:s1.fl=s.fl)
  {a':Act} {w':av} {al:L eU} {gb gh:Gh} {Br:bV S} {k:bf S}
  (P:n8 s.lo s.fl g w gh w') (hh:AK ex sh bs a' gb (cI ds ow bs fr s1).1 (cI ds ow bs fr s1).2 w' al gh Br k)
  {s2 n:bf S} {g2 z:Gh} {a2:Act} {C:av} (h:eB k gh w' s2 g2 C)
  {x:fI S.A (kP v)} {A:L Nat} {vals:L az} {Q:L eU} {R:L Nat} (f:Gx v bs a2 g2 s2 C x n A z vals Q R)
  (hwr:Th s1.aF bs n.wr=W) (aiO:A.all (λo=>Nl s1.aF o)=W) (Z2:n.dr.all (λo=>Nl s1.aF o)=W) (hfr:cS (z.base (dL ow s1.aF)) (bB jD) a2 C) :
  wN v bs jD (cI ds ow bs fr s1).2 s g w x a2 (z.base (dL ow s1.aF)) C vals Q R:=by
 have l:∀b∈bs,b<bD:=λb m=>iE (i b m).1 E;have p:(cI ds ow bs fr s1).2.aF=s1.aF:=rfl;have hlen:s1.aF<=k.aF:=p▸hh.aF;have how2':∀o∈A,s1.aF<=o:=λo q=>by
  simp_all
 have hwr':∀o∈n.wr,s1.aF<=o\/o∈bs:=λo q=>by
  simp_all[Th]
 have r:=f.YE.owned f.pr.iy;have t:k.fl=s.fl:=hh.fl.trans (show(cI ds ow bs fr s1).2.fl=s.fl from K);have aeY:k.lo=s.lo:=hh.lo.trans (show(cI ds ow bs fr s1).2.lo=s.lo from I);have B:n8 s.lo s.fl g w g2 C:=P.trans (t▸aeY▸h.ext);have XO:s2.fl=s.fl:=h.fl.trans t;have a:n8 s.lo s.fl g w z C:=B.trans (XO▸f.ext.Hi s.lo);refine⟨f.rel.base (aF:=s1.aF) (λo q=>?_) rfl ?_ (λo ob hpo c=>?_),hfr,f.pr,f.at_,⟨f.GZ.1,λj o b h1 h2=>?_⟩,λo q e=>?_,λa' ha b m o hO=>?_,f.ap,⟨λo b m=>?_,λo e y hl hy=>?_,a.bp,a.size,a.heap,λo b q hO=>?_,a.nQ,a.os,a.output⟩,λa' ha b m=>?_⟩
 simp_all[dL]
 have e1:(aE n).aF=n.aF:=rfl;have:=h.aF;have:=f.aF;omega;rw[aK,s8 l]at c;split at c;cases c;rename_i hnb;rw[EL,fG]at c;obtain⟨vob,hv,rfl⟩:=c;have u:=(lz hpo).2;have hnw:o∉n.wr:=λhm=>by
  grind
 have aoD:o∉s2.wr:=λhm=>hnw (f.tw o hm);have e1:n.ob.get o=Z (eT (dL ow s1.aF) vob):=by rw[f.same o hnw,h.same o (iE u hlen) aoD,hh.ob o (p▸u) hnb,s8 l,cm hnb,hv];rfl
 grind[aK,FY]
 have c:=hU h1;exact(z.gr _).bP o b (oS (i o c).2 (i o c).1) (f.GZ.2 j o b h1 h2);simp only[Gh.base];split;exact(f.SM o q).2.2.2 e;rfl
 let ⟨h1,h2⟩:=Gh.fD hO
 let ⟨o',ho',UG⟩:=r a' ha b m
 have:=f.rel.jF o o' b h2 UG
 grind[lz]
 exact(z.gr _).bP o b (oS (F o b m).2 (F o b m).1) (a.bP o b m);exact(z.gr _).arr o e y (oS (λhm=>by grind) (by omega)) (a.arr o e y hl hy);exact a.own o b q (Gh.fD hO).2
 let ⟨o,q,hO⟩:=r a' ha b m
 exact a.own o b (by have:=(f.WS o q).1;omega) hO
def iI.tmps{a a':Act}(h:a'.tmps=a.tmps):∀{sh:Sh}{vs:L az},iI a sh vs->iI a' sh vs
 |[],[],_=>trivial|(_,.one _)::_,_::_,k=>⟨by rw[h];exact k.1,iI.tmps h k.2⟩
 |(_,.box _)::l,_::_,k=>iI.tmps (sh:=l) h k|(_,.hid _)::l,_,k=>iI.tmps (sh:=l) h k|[],_::_,k=>k.elim|(_,.one _)::_,[],k=>k.elim|(_,.box _)::_,[],k=>k.elim
theorem eH.split{g:Gh}{w:av}:∀{l1 l2:L Df}{m:L Deferred},eH g w (l1++l2) m->∃a b,m=a++b/\eH g w l1 a/\eH g w l2 b
 |[],_,m,h=>⟨[],m,rfl,.nil,h⟩|_::l1,l2,_,.cons h t=>by obtain⟨a,b,rfl,h1,h2⟩:=eH.split (l1:=l1) (l2:=l2) t;exact⟨_::a,b,rfl,.cons h h1,h2⟩
 |_::l1,l2,_,.marks o bs c h t=>by obtain⟨a,b,rfl,h1,h2⟩:=eH.split (l1:=l1) (l2:=l2) t;exact⟨_++a,b,(vw _ _ _).symm,.marks o bs c h h1,h2⟩
 |_::l1,l2,_,.jZ d t=>by obtain⟨a,b,rfl,h1,h2⟩:=eH.split (l1:=l1) (l2:=l2) t;exact⟨_++a,b,(vw _ _ _).symm,.jZ d h1,h2⟩
def eH.one{g:Gh}{w:av}:∀{os:L Nat}{m:L Deferred},eH g w (os.map Df.mark) m->∃bl,PW (λo b=>g.bP o=Z b) os bl/\m=bl.map λb=>{target:=.collected b,args:=#[]}
 |[],_,.nil=>⟨[],⟨rfl,λj o b h=>by simp at h⟩,rfl⟩
 |o::os,_,.cons h t=>by
  obtain⟨bl,h1,rfl⟩:=eH.one t;cases h with
  |mark _ b f=>
  refine⟨b::bl,⟨by simp[h1.1],λj a c d e=>?_⟩,rfl⟩;cases j with|zero=>simp_all|succ j=>exact h1.2 j a c (by simpa using d) (by simpa using e)
theorem aY.NZ{s:St}{w:av}{o:Nat}(m:s.ob.get o=Z .E5)(u:o<s.aF):∀(bl:L Nat){g:Gh},aY g s w->bl.Nodup->(∀b∈bl,b<w.heap.size/\¬g.bp b/\(∀k,¬bx g k b)/\w.heap[b]?=Z (.deferred (Z [])))->
  ∃g',aY g' s w/\mH g g'/\g'.bP=g.bP/\g'.bp=g.bp/\(∀k,k≠o->g'.arr k=g.arr k)/\(∀k b,bx g' k b->bx g k b\/(k=o/\b∈bl))/\∀b∈bl,g'.arr o b=Z ⟨Z ⟨b,0,Y⟩,0,1,0⟩
 |[],g,f,_,_=>⟨g,f,mH.refl _,rfl,rfl,λ_ _=>rfl,λ_ _ h=>.inl h,λb v=>by cases v⟩
 |b::bl,g,f,S,v=>by
  let ⟨b1,b2,b3,b4⟩:=v b fQ
  have z:g.arr o b=Y:=by
   cases i:g.arr o b with
   |none=>rfl|some x=>
    exfalso;obtain⟨A,_,_,h,_⟩|⟨_,_,_,_,_,_,h,_⟩|⟨_,_,_,h,_⟩|h|⟨_,h1,h2,h3,_⟩:=(f.arr o b x i).2 _ m
    cases A<;>cases h;cases h;cases h;cases h;exact b3 o ⟨h3,.inr ⟨b,x,_,i,h1,rfl,h2⟩⟩
  let r:Gh:={g with arr:=λk e=>if k=o/\e=b then Z ⟨Z ⟨b,0,Y⟩,0,1,0⟩else g.arr k e}
  have j:∀k e y,g.arr k e=Z y->r.arr k e=Z y:=λk e y h=>by
   grind
  have n:mH g r:=⟨λ_ _ h=>h,j,λ_ h=>h⟩;have l:∀k c,bx r k c->bx g k c\/(k=o/\c=b):=by
   rintro k c ⟨h1,h2|⟨e,x,F,h2,h3,h4,h5⟩⟩
   exact .inl ⟨h1,.inl h2⟩;by_cases d:k=o/\e=b
   grind
   have h2:(if k=o/\e=b then Z ⟨Z ⟨b,0,Y⟩,0,1,0⟩else g.arr k e)=Z x:=h2;rw[cm d]at h2;exact .inl ⟨h1,.inr ⟨e,x,F,h2,h3,h4,h5⟩⟩
  have B:aY r s w:=by
   refine⟨f.aF,λk d=>⟨(f.ai k d).1,λe=>?_⟩,λk c p=>?_,λk e x i=>?_,f.bp,λk I c h h'=>?_⟩;show(if k=o/\e=b then _ else g.arr k e)=_;rw[cm (λh=>by omega)];exact(f.ai k d).2 e
   let ⟨C,t,k3⟩:=f.box k c p
   exact⟨C,t,λob a=>let ⟨x,h1,h2⟩:=k3 ob a;⟨x,h1,h2.imp λ_ _ ht=>ht.le n⟩⟩;by_cases d:k=o/\e=b;have i:(if k=o/\e=b then Z ⟨Z ⟨b,0,Y⟩,0,1,0⟩else g.arr k e)=Z x:=i;rw[bO d]at i;cases i;obtain⟨rfl,rfl⟩:=d;refine⟨λF ha _=>by grind,λob a=>?_⟩;rw[m]at a;cases a;exact .inr (.inr (.inr (.inr ⟨rfl,rfl,by simp,b2,b4⟩)));have E:g.arr k e=Z x:=by have i:(if k=o/\e=b then Z ⟨Z ⟨b,0,Y⟩,0,1,0⟩else g.arr k e)=Z x:=i;rwa [cm d]at i
   let ⟨C,t⟩:=f.arr k e x E
   refine⟨C,λob a=>?_⟩;by_cases q:k=o;subst q;rw[m]at a;cases a;obtain⟨A,_,_,h,_⟩|⟨_,_,_,_,_,_,h,_⟩|⟨_,_,_,h,_⟩|h|h:=t _ m
   cases A<;>cases h;cases h;cases h;cases h;exact .inr (.inr (.inr (.inr h)));exact(t ob a).tr (λh=>h.jU rfl) j (funext λK=>by show(if k=o/\K=b then _ else g.arr k K)=_;rw[cm (λh=>q h.1)]) (λ_ _ _=>⟨rfl,yF⟩);obtain P|⟨P,e2⟩:=l k c h
   obtain Q|⟨Q,e4⟩:=l I c h'
   exact f.jF k I c P Q
   simp_all
   grind
  let ⟨g',q1,R,q3,q4,q5,q6,q7⟩:=B.NZ m u bl (JL.1 S).2 (λc p=>by
   grind)
  refine⟨g',q1,n.trans R,q3,q4,λk d=>(q5 k d).trans (funext λe=>by show(if k=o/\e=b then _ else g.arr k e)=_;rw[cm (λh=>d h.1)]),λk c hO=>?_,λc p=>?_⟩
  grind
  obtain rfl|p:=fF.1 p
  exact R.arr o c _ (by show(if o=o/\c=c then _ else g.arr o c)=_;rw[bO ⟨rfl,rfl⟩])
  grind
def Marks(aF fl:Nat)(base:bV S×bf S)(c:bV S)(g:Gh)(w:av):Prop:=
 ∃os d,c.df=os.map so.mark++d/\d.length=base.1.df.length/\os.Nodup/\(∀o∈os,aF<=o/\∀b,g.bP o=Z b->w.heap[b]?=Z (.deferred (Z [])))/\
  (os=[]\/∃a rest,base.1.df=.marks a::rest/\base.2.ob.get a=Z .E5/\a<aF/\fl<=a)
theorem Marks.mono{aF fl:Nat}{base:bV S×bf S}{c:bV S}{g g':Gh}{w:av}{a:Act}(h:Marks aF fl base c g w)(hf:cS g (bB c) a w)(v:∀o b,g.bP o=Z b->g'.bP o=Z b):Marks aF fl base c g' w:=by
 let ⟨os,d,l,n,p,q,r⟩:=h
 refine⟨os,d,l,n,p,λo m=>⟨(q o m).1,λb x=>?_⟩,r⟩;have e:=hf.df;rw[show(bB c).df=(os.map so.mark).map lU++d.map lU from by show c.df.map lU=_;rw[l,A5]]at e
 let ⟨y,z,_,f,_⟩:=e.split
 rw[List.map_map,show(lU∘so.mark:Nat->Df)=Df.mark from rfl]at f
 let ⟨s,j,_⟩:=f.one
 obtain⟨i,t,rfl⟩:=p8 m;have k:i<s.length:=by have:=j.1;omega
 have u:=j.2 i _ _ (iu t) (iu k)
 grind
def Cx{aF:Nat}{s:bf S}{g:Gh}{w:av}(hs:aY g (aE s) w):∀{l:L (so S)}{os:L Nat},tV aF s l=Z os->l=os.map so.mark/\∀o∈os,aF<=o/\∀b,g.bP o=Z b->w.heap[b]?=Z (.deferred (Z []))
 |[],os,h=>by simp only[tV,gC]at h;subst h;exact⟨rfl,λo f=>by cases f⟩
 |.mark o::l,os,h=>by
  simp[tV]at h;split at h;rename_i i;obtain⟨j,h⟩|⟨_,h⟩:=ah h
  split at h;rename_i c;simp at h;subst h
  let ⟨h1,h2⟩:=Cx hs c
  refine⟨by rw[h1];rfl,λe a=>?_⟩;obtain rfl|a:=fF.1 a
  refine⟨gH j,λb d=>?_⟩
  let ⟨x,k,c⟩:=(hs.box e b d).2.2 .zm (by rw[aK,i];rfl)
  cases c;exact k;exact h2 e a;iterate 3 cases h
 |.call _ _::_,_,h=>by simp[tV]at h
 |.marks _::_,_,h=>by simp[tV]at h
 |.jZ::_,_,h=>by simp[tV]at h
 |.bad::_,_,h=>by simp[tV]at h
theorem zG{aF:Nat}{base:bV S×bf S}{fr':bV S}{s':bf S}{g:Gh}{w:av}(hs:aY g (aE s') w)(h:OH aF base fr' s'=W):Marks aF s'.fl base fr' g w:=by
 unfold OH at h;split at h;rotate_left;cases h;rename_i os a;simp only[eM,nI]at h
 let ⟨h1,h2,h3⟩:=h
 let ⟨b,c⟩:=Cx hs a
 have h2:=beq_iff'.1 h2;rw[bS,bS,bS]at h2;refine⟨os,fr'.df.drop (Nat.sub (cC fr'.df) (cC base.1.df)),by rw[<-b,Wj],?_,lA h1,c,?_⟩
 grind[bS]
 obtain h3|h3:=h3
 simp_all
 right
 unfold ahu at h3;split at h3;split at h3
 simp_all
 cases h3;cases h3
def I8{ex:L Nat}(ao9:∀k∈ex,k∈ds){OE:Sh}(hds:∀d∈ds,d<bD)(UC:∀b∈bs,b<s1.aF/\b∉ow)(abv:s1.aF<=bD)(hlo:s.lo<=s1.aF)(how:∀o∈ow,s.lo<=o)(hgb:∀o b,g.bP o=Z b->o<s1.aF/\o∉ow)(hsh:Er ds sh=W)(ajE:s1.lo=s.lo)(ajF:s1.fl=s.fl)
  {a':Act} {w':av} {al:L eU} {gb gh:Gh} {Br:bV S} {p:bf S}
  (Uz:n8 s.lo s.fl g w gh w') (hh:AK ex sh bs a' gb (cI ds ow bs fr s1).1 (cI ds ow bs fr s1).2 w' al gh Br p)
  {A:bV S} {s2 s3:bf S} {g2 E:Gh} {a2:Act} {B:av} (m:eB p gh w' s2 g2 B) (hf2:cS g2 (bB A) a2 B) (hfo:ej ds Br A s2.dr p.aF) (hn2:A.n=Br.n) (hmk:Marks s1.aF s.fl (cI ds ow bs fr s1) A g2 B)
  {x:fI S.A (kP OE)} {Lj:L Nat} {vals:L az} {AS:L eU} {bl2:L Nat} (f:Gx OE bs a2 g2 s2 B x s3 Lj E vals AS bl2)
  (hwr:Th s1.aF bs s3.wr=W) (aiO:Lj.all (λo=>Nl s1.aF o)=W) (Z2:s3.dr.all (λo=>Nl s1.aF o)=W) :
  ∃F,wN OE bs (cI ds ow bs fr s1).1 (cI ds ow bs fr s1).2 s g w x a2 F B vals AS bl2/\F.bp=E.bp:=by
 have ajs:∀b∈bs,b<bD:=λb hb=>iE (UC b hb).1 abv;have aog:(cI ds ow bs fr s1).2.aF=s1.aF:=rfl;have hlen:s1.aF<=p.aF:=aog▸hh.aF;have ajm:∀o∈s2.dr,s1.aF<=o:=λo ho=>by rw[j5]at Z2;exact gH (Z2 o (f.dr▸ho))
 have Dg:=f.YE.owned f.pr.iy;have aje:p.fl=s.fl:=hh.fl.trans (show(cI ds ow bs fr s1).2.fl=s.fl from ajF);have aeY:p.lo=s.lo:=hh.lo.trans (show(cI ds ow bs fr s1).2.lo=s.lo from ajE);have ajg:n8 s.lo s.fl g w g2 B:=Uz.trans (aje▸aeY▸m.ext);have XO:s2.fl=s.fl:=m.fl.trans aje;have ajf:n8 s.lo s.fl g w E B:=ajg.trans (XO▸f.ext.Hi s.lo);have hQ:∀o,dL s2.dr p.aF o=W->dL ow s1.aF o=W:=λo ho=>by
  simp only[dL,nI,EG,sC]at ho ⊢;obtain ho|ho:=ho
  exact .inr (Me (ajm o ho));have:=gH ho;exact .inr (Me (by omega))
 have hT:∀t v,aH g2 B t v->dH (dL ow s1.aF) t=J->aH (E.base (dL ow s1.aF)) B t v:=λt v ht hm=>(ht.ext f.ext m.rel.bp).on (E.gr _) (λ_ _=>rfl) hm
 let ⟨os,d,e1,e2,aou,I,CD⟩:=hmk
 have apc:pg (dL s2.dr p.aF) (cI ds ow bs fr s1).1.df d:=by
  let ⟨c,d',k1,k2⟩:=hfo.df
  have hl:=k2.len;rw[hh.NA]at hl k2;have hdd:d'=d:=by have h1:c++d'=os.map so.mark++d:=k1.symm.trans e1;exact(List.append_inj' h1 (by omega)).2
  rw[<-hdd];exact k2
 have hdb:=ab0 hQ (l:=fr.df) apc;have ajn:=hf2.df;rw[show(bB A).df=(os.map so.mark).map lU++d.map lU from by show A.df.map lU=_;rw[e1,A5]]at ajn
 let ⟨m1,m2,aiX,hd1,hd2⟩:=ajn.split
 rw[List.map_map,show(lU∘so.mark:Nat->Df)=Df.mark from rfl]at hd1
 let ⟨bl,C,hm1⟩:=hd1.one
 rw[hdb]at hd2;have hd3:=ab1 hT (l:=fr.df) hd2;have htm:∀k t,(bB (cI ds ow bs fr s1).1).get k=Z t->∃v,a2.tmps[k]?=Z v/\aH (E.base (dL ow s1.aF)) B t v:=by
  intro k t hk;rw[bU,fG]at hk;obtain⟨v,hv,rfl⟩:=hk
  let ⟨h1,h2,h3⟩:=Ay hds hv
  have hgh:Br.get k=Z v:=by
   rw[hh.get k (λhm=>h1 (ao9 k hm)) (λq hq hqk=>?_)];exact hv
   let ⟨qk,qp⟩:=q
   cases qp with|box cs=>rfl|hid cs=>rfl|one c=>unfold Er at hsh;rw[j5]at hsh;have:=hsh _ hq;subst hqk;exact absurd (by simpa using this) h1
  obtain h4|h4:=hfo.tm k v h1 hgh
  let ⟨u,hu,hr⟩:=hf2.tm k (low v) (by rw[bU,h4];rfl)
  exact⟨u,hu,(hr.ext f.ext m.rel.bp).on (E.gr _) (λ_ _=>rfl) (by rw[g6];exact h3)⟩;exfalso
  let ⟨o,Sn,ho2⟩:=Ud h4 h3
  have:=(lz ho2).2;simp only[dL,nI,EG,sC]at Sn;obtain Sn|Sn:=Sn
  have:=ajm o Sn;omega;have:=gH Sn;omega
 have hp':Gx OE bs {a2 with defers:=[]} g2 s2 B x s3 Lj E vals AS bl2:=⟨f.rel,f.ext,f.pr,iI.tmps (a:=a2) (a':={a2 with defers:=[]}) rfl f.at_,f.YE,f.GZ,f.now,f.WS,f.nbs,f.SM,f.fl,f.lo,f.aF,f.tw,f.same,f.dr,f.ap,f.owb⟩;have hsz:a2.tmps.size=(cI ds ow bs fr s1).1.n:=hf2.size.trans (hn2.trans hh.n);have hB:=Qi (fr:=fr) hds UC abv hlo how hgb ajE ajF Uz hh m hp' hwr aiO Z2 (jD:={(cI ds ow bs fr s1).1 with df:=[]}) ⟨hsz,.nil,htm⟩;obtain rfl|⟨oB,rest,ajo,aiW,aoP,hflB⟩:=CD
 have PA:bl=[]:=Da (by have:=C.1;simpa using this.symm);subst PA;subst hm1;exact⟨_,⟨hB.rel,⟨hsz,by rw[aiX];exact hd3,htm⟩,hB.pr,f.at_,hB.GZ,hB.WZ,hB.fresh,hB.ap,hB.ext,hB.alo⟩,rfl⟩;have hmb:(aE (cI ds ow bs fr s1).2).ob.get oB=Z .E5:=by rw[aK,aiW];rfl
 have z:∀b∈bl,∃o∈os,g2.bP o=Z b:=λb hb=>by
  obtain⟨i,hi,rfl⟩:=p8 hb;have K:i<os.length:=by have:=C.1;omega
  exact⟨os[i],JM K,C.2 i _ _ (iu K) (iu hi)⟩
 have P:∀{o b:Nat},g2.bP o=Z b->bx E o b:=λ{o b}hb=>⟨(f.rel.box o b (f.ext.bP o b hb)).1,.inl (f.ext.bP o b hb)⟩;have abF:bl.Nodup:=by
  refine TS.2 λi j hi hj hij heq=>?_;have hlen:=C.1;have K:i<os.length:=by omega
  have hj':j<os.length:=by omega
  have e1:=C.2 i _ _ (iu K) (iu hi);have e2:=C.2 j _ _ (iu hj') (iu hj);rw[<-heq]at e2;exact(TS.1 aou i j K hj' hij) (f.rel.jF _ _ _ (P e1) (P e2))
 have aiU:∀b∈bl,∀k,¬bx (E.base (dL ow s1.aF)) k b:=λb hb k hO=>by
  let ⟨o,ho,r⟩:=z b hb
  let ⟨h1,h2⟩:=Gh.fD hO
  have:=f.rel.jF k o b h2 (P r);subst this;have:=(lz h1).2;have:=(I k ho).1;omega
 let ⟨F,q1,q2,q3,q4,q5,q6,q7⟩:=hB.rel.NZ hmb aoP bl abF (λb hb=>by
  let ⟨o,ho,r⟩:=z b hb
  exact⟨(m.rel.box o b r).2.1,(f.rel.box o b (f.ext.bP o b r)).1,aiU b hb,(I o ho).2 b r⟩)
 have hd4:eH (E.base (dL ow s1.aF)) B ((so.marks oB::rest).map lU) m2:=ajo▸hd3;have hdf:eH F B ((cI ds ow bs fr s1).1.df.map lU) a2.defers:=by
  rw[ajo,aiX,hm1];cases hd4 with
  |cons k _=>cases k
  |marks _ ms hnm hms ht=>
  rw[<-vw,<-A5];refine .marks oB (bl++ms) (List.nodup_append.2 ⟨abF,hnm,λb hb c hc hbc=>?_⟩) (λb hb=>?_) (ht.imp (λt v ht=>ht.le q2) q2.bP)
  .subst hbc
   let ⟨n,c',hr⟩:=hms b hc
   cases hr with
   |sh _ _ _ _ sz _ hx=>
   obtain⟨fz,_,_,h,_⟩|⟨_,_,_,_,_,_,h,_⟩|⟨_,_,_,h,_⟩|h|⟨_,h1,h2,h3,_⟩:=(hB.rel.arr oB b _ hx).2 _ hmb
   cases fz<;>cases h;cases h;cases h;cases h;exact aiU b hb oB ⟨h3,.inr ⟨b,_,_,hx,h1,rfl,h2⟩⟩
  obtain hb|hb:=eN.1 hb
  exact⟨0,1,.sh _ _ _ _ 0 _ (q7 b hb)⟩
  let ⟨n,c,hr⟩:=hms b hb
  exact⟨n,c,hr.le q2⟩
 have hfresh:∀b∈bl,(∃o,s.fl<=o/\bx g o b)\/w.heap.size<=b:=λb hb=>by
  let ⟨o,ho,r⟩:=z b hb
  exact ajf.own o b (by have:=(I o ho).1;omega) (P r)
 refine⟨F,⟨q1,⟨hsz,hdf,λk t hk=>let ⟨v,hv,ht⟩:=htm k t hk;⟨v,hv,ht.le q2⟩⟩,q4▸hB.pr,f.at_,⟨hB.GZ.1,λj o b h1 h2=>by rw[q3];exact hB.GZ.2 j o b h1 h2⟩,λo ho e=>?_,λa' ha b hb o hO=>?_,hB.ap,⟨λo b hb=>?_,λo e y hl hy=>?_,λb hb=>?_,hB.ext.size,hB.ext.heap,λo b ho hO=>?_,λb hb=>?_,hB.ext.os,hB.ext.output⟩,hB.alo⟩,q4⟩;rw[q5 o (λh=>by
  subst h;have:=s8 (ow:=ow) (ds:=ds) (fr:=fr) (s1:=s1) ajs o;rw[bO ho,aiW]at this;cases this)]
 exact hB.WZ o ho e;obtain hO|⟨_,Q⟩:=q6 o b hO
 exact hB.fresh a' ha b hb o hO
 let ⟨o1,Sn,R⟩:=z b Q
 let ⟨o2,ho2,UF⟩:=Dg a' ha b hb
 have:=f.rel.jF o1 o2 b (P R) UF;subst this;rw[f.owb o1 ho2]at R;cases R;rw[q3];exact hB.ext.bP o b hb;exact q2.arr o e y (hB.ext.arr o e y hl hy);exact q2.bp b (hB.ext.bp b hb);obtain hO|⟨_,Q⟩:=q6 o b hO
 exact hB.ext.own o b ho hO;exact hfresh b Q;rw[q4]at hb;exact hB.ext.nQ b hb
theorem U3{ex:L Nat}{k:Sh}{jD:bV S}(hs:aY g (aE s) w){q:Gh}{e:L az}{l:L eU}{m:L Nat}{r:fI S.A (kP sh)}(c:Gx sh bs a g s w r s1 ow q e l m)
  {a':Act} {w':av} {al:L eU} {gb n:Gh} {p:bV S} {f:bf S} (h:n8 s.lo s.fl g w n w') (i:AK ex k bs a' gb jD (cI ds ow bs fr s1).2 w' al n p f) :
  eB s g w {f with wr:=s1.ob.ju (gq (dL ow s1.aF))++(bs++s1.wr),dr:=ow++s1.dr} n w':=by
 have j:∀b∈bs,b<bD:=λb t=>iE (c.SM b t).2.1 hs.aF;refine⟨i.rel,h,i.fl.trans c.fl,i.lo.trans c.lo,?_,λo d=>?_,λo u d=>?_,λo d=>?_⟩;have:=i.aF;have v:(cI ds ow bs fr s1).2.aF=s1.aF:=rfl;have:=c.aF
 simp_all
 exact kz _ (kz _ (c.tw o d))
 .simp at d;have h1:f.ob.get o=(cI ds ow bs fr s1).2.ob.get o:=i.ob o (by show o<s1.aF;have:=c.aF;omega) d.2.1;rw[h1,s8 j,cm d.2.1,<-c.same o d.2.2];cases x:s1.ob.get o with
  |none=>rfl|some ob=>
   grind[nX,Tr.qo]
 exact kz _ (by rw[c.dr];exact d)
theorem NS{ex:L Nat}(f:∀k∈ex,k∈ds){h:Sh}(hs:aY g (aE s) w)(m:∀d∈ds,d<bD){z:Gh}{b:L az}{n:L eU}{p:L Nat}{A:fI S.A (kP sh)}(r:Gx sh bs a g s w A s1 ow z b n p)(B:Er ds h=W)
  {a':Act} {w':av} {al:L eU} {gb t:Gh} {e:bV S} {i:bf S} (j:n8 s.lo s.fl g w t w') (l:AK ex h bs a' gb (cI ds ow bs fr s1).1 (cI ds ow bs fr s1).2 w' al t e i) :
  eB s g w {i with wr:=s1.ob.ju (gq (dL ow s1.aF))++(bs++s1.wr),dr:=ow++s1.dr} t w'/\ej ds fr e (ow++s1.dr) s.aF/\e.n=fr.n:=by
 refine⟨U3 (fr:=fr) hs r j l,⟨λk v y C=>?_,?_⟩,l.n⟩
 .cases u:cH (dL ow s1.aF) v with
  |true=>exact .inr (eg (iM (λo x=>eL _ x) (by rw[r.aF];omega)) v u)
  |false=>
   left
   rw[l.get k (λu=>y (f k u)) (λq K E=>?_),SO m,cm y,C]
   simp_all
   let ⟨P,F⟩:=q
   cases F with
   |box I=>rfl|hid I=>rfl|one c=>
    grind[Er]
 rw[l.NA];exact(uo (iM (λo x=>eL _ x) (by rw[r.aF];omega)) (λv=>rfl) fr.df).ok
end
theorem JF{g:Gh}{w:av}{fr:bV S}{a:Act}(hf:cS g (bB fr) a w):∀{rv:Rv}{vs:L (V S)},V2 fr rv=Z vs->∃vals,iI a (rv.map λp=>(p.1,Pk.one (.dat p.2))) vals/\PW (aH g w) (bu vs) vals
 |[],vs,h=>by simp only[V2,gC]at h;subst h;exact⟨[],trivial,rfl,λj t v h=>by grind⟩
 |(k,c)::l,vs,h=>by
  simp[V2]at h;split at h
  .rename_i v r h1 h2;simp at h;subst h
   let ⟨vals,h3,h4⟩:=JF hf h2
   let ⟨u,b,i⟩:=hf.tm k (low v) (by rw[bU,h1];rfl)
   refine⟨u::vals,⟨b,h3⟩,by simp[bu,qP,h4.1],λj t d e f=>?_⟩;cases j with|zero=>grind[bu]|succ j=>exact h4.2 j t d (by simpa[bu]using e) (by simpa using f)
  cases h
def vu{g:Gh}{w:av}{a:Act}:∀{rv:Rv}{r:fU S.A (Es rv)}{vals:L az}{al:L eU}{I:Nat->Prop}{fr:bV S},jw S I w (Es rv) r vals al->(∀b,I b->g.bp b)->iI a (rv.map λp=>(p.1,Pk.one (.dat p.2))) vals->
  fr.n<=bD->cS g (bB fr) a w->cS g (bB (xI rv r fr)) a w/\(xI rv r fr).n=fr.n/\∀k,k∉rv.map (·.1)->(xI rv r fr).get k=fr.get k
 |[],r,vals,al,I,fr,_,_,_,_,f=>⟨f,rfl,λ_ _=>rfl⟩|(k,t)::rv,r,vals,al,I,fr,q,n,e,l,f=>by
  cases q with
  | @dat _ _ x h v z al s u=>
  let ⟨o,e⟩:=e
  have d:k<fr.n:=by have:=(Wh.1 o).1;rw[f.size]at this;exact this
  have m:cS g (bB (fr.put k (.ty t x))) a w:=by refine⟨f.size,f.df,λj y c=>?_⟩;rw[bU,bV.jC _ _ _ _ (iE d l)]at c;by_cases i:j=k;subst i;rw[bO rfl]at c;simp at c;subst c;exact⟨v,o,pQ (s.le n)⟩;rw[cm i]at c;exact f.tm j y (by rw[bU];exact c)
  let ⟨h1,h2,h3⟩:=vu (rv:=rv) (fr:=fr.put k (.ty t x)) u n e l m
  refine⟨h1,h2,λj c=>?_⟩;simp only[mh,fF,not_or]at c;rw[show xI ((k,t)::rv) (x,h) fr=xI rv h (fr.put k (.ty t x))from rfl,h3 j c.2,bV.jC _ _ _ _ (iE d l),cm c.1]
theorem yK{ω:Type}{Q:uF S->bV S->bf S->O ω}{fr:bV S}{s:bf S}{r:ω}:∀{l:L Nat}{i:Nat},i∈l->aaJ Q fr s l (abn l i)=Z r->Q (.ext i) fr s=Z r
 |[],i,a,_=>by cases a
 |[j],i,a,h=>by simp at a;subst a;exact h
 |j::c::l,i,a,h=>by
  simp only[abn]at h;cases b:Nq j i with
  |true=>rw[b]at h;have:=beq_iff'.1 b;subst this;exact h|false=>
   rw[b]at h;have d:j≠i:=λe=>by simp_all
   refine yK (l:=c::l) ?_ h
   grind
end
theorem EC{st:LoopState}{a:O Code}(h:JH st a=W):st=.ready/\a=Y:=by
 unfold JH at h
 grind
def WU{st:LoopState}{a:O Code}{ex:uF S}(h:aed st a=Z ex):st≠.busy/\((a=Y/\ex=.qW)\/(∃i,a=Z (.exit i)/\ex=.ext i)\/(a=Z .ret/\ex=.ret)):=by unfold aed at h;split at h<;>simp_all
theorem PG{g:Gh}{w:av}{fr:bV S}{a:Act}(hf:cS g (bB fr) a w)(hn:fr.n<=bD)(l:L Nat):∀k t,(bB (M8 l fr)).get k=Z t->∃v,a.tmps[k]?=Z v/\aH g w t v:=by
 have key:∀(l:L Nat)(t0:Tr (V S)),(∀k v,t0.get k=Z v->fr.get k=Z v)->∀k v,(l.foldl (λt k=>match fr.get k with|some v=>t.set aO k v|none=>t) t0).get k=Z v->fr.get k=Z v:=by
  intro l
  induction l with
  |nil=>grind|cons j l d=>
   intro t0 h;rw[Mj];refine d _ λk v b=>?_;split at b;rename_i u e;have f:j<bD:=by
    have:(bB fr).get j=Z (low u):=by rw[bU,e];rfl
    obtain⟨x,i,_⟩:=hf.tm j _ this;have:=hf.size;have h2:=(Wh.1 i).1;have h3:(bB fr).n=fr.n:=rfl;omega
   rw[Tr.aV _ _ _ _ f]at b
   grind
   grind
 intro k t b;rw[bU]at b;cases c:(M8 l fr).get k with|none=>simp_all|some v=>rw[c]at b;have h1:=key l .nil (λk v h=>by simp[Tr.get_nil]at h) k v c;exact hf.tm k t (by rw[bU,h1];exact b)
theorem LY{E:er S}(hE:e8 E){call:fO S}(vR:gu E.T.E.P call)(n:Nat)(fid:FuncId)(rv:Rv){gv:Operand}{ps:Array Tmp}{q body:Code}{i:Nat}{ω:Type}{Q:uF S->bV S->bf S->O ω}{r:ω}{fr:bV S}{s:bf S}
  (h:yV E call n fid rv (.rangeFunc gv ps q body) i Q fr s=Z r) (hn:fr.n<=bD) {g:Gh} {a:Act} {w:av} (hf:cS g (bB fr) a w) (hs:aY g (aE s) w) :
  (Code.rangeFunc gv ps q body).wpIn (WR Y) 0 E.T.E.P (HJ (eG (.rangeFunc gv ps q body)++rv.map (·.1)) fr s g w Q r) a w:=by
 simp only[yV]at h;split at h;cases h;rename_i args hfa;obtain⟨hb,h1⟩|⟨_,h1⟩:=ah h
 rotate_left;cases h1;clear h;simp only[eM]at hb;obtain⟨_,_,ae3,z⟩:=hb;have z:s.aF+1<bD:=gH z;simp only[uY]at hfa;obtain⟨tf,htf,Kf⟩:=hfa;have XE:=bR hf (cw htf);have m:=ry Kf;unfold xd at m;split at m;rotate_left;cases m;rename_i f' first cap C
 simp only[gC,fc]at m;obtain⟨rfl,I⟩:=m;rw[C]at XE;generalize hvf:a.eval gv=vf at XE;cases XE with
 |fn _ _ _ va vc l1 l2 r1 r2=>
 obtain⟨zl,Z1⟩:=hs.newObj (ob0:=.zm) (x0:=.deferred (Z [])) (by show s.aF<bD;omega) .zm;have aeI:(ee (aE s) Ob.zm).2=aE (dh s .zm):=(gO s .zm).symm;rw[aeI]at zl;refine wpIn_rangeFunc λfn _=>?_
 let b:Loop:={state:=.ready,pending:=Y,fn,tmps:=a.tmps,params:=ps,assign:=q,body,defers:=w.heap.size}
 let lv:LpV S:=⟨.ready,Y,fid,M8 (uH q++uH body) fr,ps.toList,q,body⟩
 have hf1:cS (g.dB (aE s).aF w.heap.size) (bB fr) a (w.alloc (.deferred (Z []))):=hf.ext Z1 hs.bp;obtain⟨R,UA⟩:=zl.newObj (ob0:=.lp (sO lv)) (x0:=.loop b) (by show s.aF+1<bD;exact z)
  (.lp _ b rfl rfl rfl rfl rfl hf1.size (PG hf1 hn _))
 have aoa:(ee (aE (dh s .zm)) (Ob.lp (sO lv))).2=aE (dh (dh s .zm) (.lp lv)):=(gO _ (.lp lv)).symm;rw[aoa]at R;have A:(Instr.enterLoop fn a.tmps ps q body Y).run E.T.E.P w=.ok (w.heap.size+1,[{target:=.collected w.heap.size,args:=#[]}]) ((w.alloc (.deferred (Z []))).alloc (.loop b)):=run_enterLoop_outer _ _ _ _ _;generalize hW2:(w.alloc (.deferred (Z []))).alloc (.loop b)=W2 at R UA A;generalize hg2:(g.dB (aE s).aF w.heap.size).dB (aE (dh s .zm)).aF (w.alloc (.deferred (Z []))).heap.size=g2 at R UA;have ajt:g2.bP s.aF=Z w.heap.size:=by rw[<-hg2];simp[Gh.dB,aE,dh]
 have F:g2.bP (s.aF+1)=Z (w.heap.size+1):=by rw[<-hg2];simp[Gh.dB,aE,dh]
 have he:Ext s.fl g w g2 W2:=Z1.trans UA;have hall:PW (aH g2 W2) (bu args) (va++#[Value.func (.yield (w.heap.size+1)) #[] #[]]++vc).toList:=by rw[<-I];simp only[TN];refine PW.append (PW.append ⟨by simpa using l1,λj x y h1 h2=>(r1 j x y h1 (by simpa using h2)).ext he hs.bp⟩ ⟨rfl,λj x y h1 h2=>?_⟩) ⟨by simpa using l2,λj x y h1 h2=>(r2 j x y h1 (by simpa using h2)).ext he hs.bp⟩;cases j with|zero=>simp only[bu,Mc,gC]at h1 h2;subst h1;subst h2;exact .qN _ _ F|succ j=>grind
 obtain⟨M0,hc⟩:=Aj hE vR R h1 hall;refine⟨w.heap.size+1,[{target:=.collected w.heap.size,args:=#[]}],W2,{target:=.fn (.func f') vc,args:=va++#[Value.func (.yield (w.heap.size+1)) #[] #[]]},W2,f',va++#[Value.func (.yield (w.heap.size+1)) #[] #[]]++vc,W2,A,?_,λ_ _=>trivial,?_,λh=>by simp[Fence.wide]at h,Qd.2 (hc.mono λe w' he'=>?_)⟩
 simp_all[rangeCall,resolve,Deferred.ofValue,run_bind,run_pure,andThen_ok,Act.eval]
 grind[invoke,wT]
 cases e with
 |panicked ch=>obtain⟨v,t,B,g',_,h1,_⟩:=he';cases h1
 |outgrown=>exact he'.elim|returned v=>
 obtain⟨t,B,g',ow,h1,_,f⟩:=he';dsimp only at h1;split at h1;rotate_left;cases h1;rename_i l ho;split at h1;rotate_left;cases h1;rename_i ex hox;obtain⟨hst,hpe⟩:=WU hox;have u:=f.ext.bP _ _ F;have ho':(aE B).ob.get (s.aF+1)=Z (.lp (sO l)):=by rw[aK,show B.ob.get (s.aF+1)=Z (.lp l)from ho];rfl
 obtain⟨x,hx,hr⟩:=(f.rel.box _ _ u).2.2 _ ho';cases hr with
 |lp _ L' q1 q2 q4 q5 q6 q8 q9=>
 have hfl:B.fl<=s.aF+1:=by
  have h0:B.fl=s.fl:=f.fl
  simp_all
 obtain⟨Po,DH⟩:=f.rel.setObj (w':=w'.putObj (w.heap.size+1) (.loop {L' with state:=.exhausted})) u ho' rfl hfl (x':=.loop {L' with state:=.exhausted}) (ZY:=.lp (sO {l with st:=.exhausted})) (.lp _ _ rfl q2 q4 q5 q6 q8 q9)
  World.putObj_size (λb' hb'=>World.putObj_heap_other hb') (World.putObj_heap_same (f.rel.box _ _ u).2.1) rfl rfl
 have hfo:ej [] fr (dx ow fr) B.dr s.aF:=A7 hn (dst:=Y) rfl f.owd s.aF mN;have key:∀e,HN g' (w'.putObj (w.heap.size+1) (.loop {L' with state:=.exhausted})) ex e->HJ (eG (.rangeFunc gv ps q body)++rv.map (·.1)) fr s g w Q r e {a with defers:=[{target:=.collected w.heap.size,args:=#[]}]++a.defers} (w'.putObj (w.heap.size+1) (.loop {L' with state:=.exhausted})):=λe hx0=>by
  refine .inr ⟨ex,_,_,g',hx0,h1,sV ow fr,?_,?_,⟨λk v _ hk=>hfo.tm k v (λh=>by cases h) hk,?_⟩⟩;rotate_left;rotate_left;obtain⟨c,d,q1,q2⟩:=hfo.df;exact⟨_::c,d,by show _::(dx ow fr).df=_;rw[show(dx ow fr).df=c++d from q1];rfl,q2⟩;have hf2:cS g2 (bB fr) a W2:=hf.ext he hs.bp;have hf3:cS g' (bB (dx ow fr)) a w':=nB hf2 f;have hf4:=hf3.ext DH f.rel.bp;exact⟨hf4.size,.cons (.mark _ _ (f.ext.bP _ _ ajt)) hf4.df,hf4.tm⟩;have hn1:s.aF<bD:=by omega
  have hl1:=je s (.zm:uz S) hn1;have hl2:=je (dh s (.zm:uz S)) (.lp lv) z;have C:aE {B with ob:=B.ob.set aO (Ns s.aF) (.lp {l with st:=.exhausted})}={aE B with ob:=(aE B).ob.set aO (s.aF+1) (cX (.lp {l with st:=.exhausted}))}:=eu B _ _ B.wr;refine⟨by rw[C];exact Po,(he.Hi s.lo).trans ((show n8 s.lo s.fl g2 _ g' w' from f.ext).trans ?_),f.fl,f.lo,fP (by show s.aF<=s.aF+1+1;omega) f.aF,λo ho=>f.tw o ho,λo ho hno=>?_,λo ho=>f.FT o ho⟩;have:=DH.Hi s.lo;rw[show(aE B).fl=s.fl from f.fl]at this;exact this;have e1:o≠Ns s.aF:=by omega
  show(B.ob.set aO (Ns s.aF) _).get o=_;rw[Tr.dy _ _ _ _ _ e1,f.same o (by show o<s.aF+1+1;omega) hno,hl2.same o (by show o<s.aF+1;omega) (λhm=>hno (f.tw o hm)),hl1.same o ho (λhm=>hno (f.tw o hm))]
 refine⟨l.u0,w'.putObj (w.heap.size+1) (.loop {L' with state:=.exhausted}),?_,?_⟩;have:=run_endLoop (P:=E.T.E.P) hx (by rw[q1];exact hst);rw[this,q2];rfl;obtain⟨h0,rfl⟩|⟨i,h0,rfl⟩|⟨h0,rfl⟩:=hpe<;>rw[h0]
 exact key _ .qW;exact wpIn_exit (key _ (.ext i));exact wpIn_ret (key _ .ret)
section
def sn(E:er S)(call:fO S):Prop:=
 ∀(id:Nat)(ops:Array Oper){ω:Type}(kp:bV S->V S->bf S->O ω)(k:bV S->bf S->O ω)(r:ω)(fr:bV S)(s:bf S),
  Yh E fr s ops.toList (wq ops.toList)=W->
  uf E call ops.toList (wq ops.toList) (ops.toList.zipIdx.map λp=>(p.2,p.1)) kp k (Ns (Nat.mul 2 (cC ops.toList))) 0 fr s=Z r->fr.n<=bD->
  ∀{g:Gh}{a:Act}{w:av},cS g (bB fr) a w->aY g (aE s) w->∀{Q:Exit->Act->av->Prop},
  (∀fr' s' g' a' w',k fr' s'=Z r->fr'.n=fr.n->cS g' (bB fr') a' w'->eB s g w s' g' w'->ej (ops.toList.filterMap (·.dst)) fr fr' s'.dr s.aF->Q .normal a' w')->
  (∀fr' t s' g' a' v w',kp fr' t s'=Z r->fr'.n=fr.n->cS g' (bB fr') a' w'->eB s g w s' g' w'->ej (ops.toList.filterMap (·.dst)) fr fr' s'.dr s.aF->aH g' w' (low t) v->Q (.panic [{v,recovered:=J}]) a' w')->
  ∀rr:O Nat,(rr≠Y->On (.region id ops W)=W)->(Code.region id ops W).wpIn (WR rr) 0 E.T.E.P Q a w
theorem qd{s:bf S}:∀{cs:L Ck}{l:L (V S)}{x:fU S.A cs}{fz ow:L Nat},jv cs=W->fR s cs l=Z (x,fz,ow)->ow=[]
 |[],[],x,fz,ow,_,h=>by
  grind[fR]
 |.dat t::cs,v::l,x,fz,ow,a,h=>by
  simp[fR]at h;split at h;rename_i b;obtain⟨_,_,rfl⟩:=h;have:=qd (cs:=cs) (by simpa[jv]using a) b
  grind[oG]
  cases h
 |.own _::_,_,_,_,_,a,_=>by simp[jv]at a
 |.jQ ..::_,_,_,_,_,a,_=>by simp[jv]at a
 |.nil _::_,_,_,_,_,a,_=>by simp[jv]at a
 |.ptr _::_,_,_,_,_,a,_=>by simp[jv]at a
 |[],_::_,_,_,_,_,h=>by simp[fR]at h
 |.dat _::_,[],_,_,_,_,h=>by simp[fR]at h
def BK:∀rv:Rv,jv (Es rv)=W
 |[]=>rfl|_::rv=>BK rv
def J5(fr:bV S)(c:Operand)(b:aa):(fr.sQ c b).n=fr.n:=by unfold bV.sQ;split;rename_i k;cases Nt k fr.n<;>rfl;rfl
variable {w:av}{fr:bV S}{a:Act}{c:Code}{b:aa}{k:Nat}{rr:Option Nat}{P:cP}{Q:Exit->Act->av->Prop}
def Fi{g:Gh}{c:Operand}(hn:fr.n<=bD)(hf:cS g (bB fr) a w)(i:a.eval c=.bool b):cS g (bB (fr.sQ c b)) a w:=by
 unfold bV.sQ;split
 .rename_i k;cases l:Nt k fr.n with
  |false=>exact hf|true=>
   have e:k<fr.n:=gH l;refine⟨hf.size,hf.df,λj t d=>?_⟩;simp at d;rw[bU,bV.jC _ _ _ _ (iE e hn)]at d;by_cases f:j=k;subst f;rw[bO rfl]at d;simp at d;subst d;have h:j<a.tmps.size:=by rw[hf.size];exact e
   have:a.tmps[j]?=Z (.bool b):=by have:=i;simp[Act.eval,Array.getD_eq_getD_getElem?,tO h,OR]at this;rw[tO h,this]
   exact⟨_,this,.kb b⟩;rw[cm f]at d;exact hf.tm j t (by rw[bU];exact d)
 exact hf
def Sa(hn:fr.n<=bD)(c:Operand)(b:aa)(dr:L Nat)(aF:Nat):ej (SG c) fr (fr.sQ c b) dr aF:=by
 unfold bV.sQ;split
 .rename_i k;cases d:Nt k fr.n with|false=>exact ej.refl _ _ _ _|true=>have a:k<fr.n:=gH d;refine⟨λj v e f=>.inl ?_,xH.refl _ _⟩;simp;rw[bV.jC _ _ _ _ (iE a hn),cm (by simpa[SG]using e)];exact f
 exact ej.refl _ _ _ _
theorem U9{ω:Type}{e:aa}{x y:O ω}{r:ω}(h:HF e x y=Z r):y=Z r/\(e=W->x=Z r):=by
 unfold HF at h
 grind
def pV(ds:L Nat):∀sh:Sh,Er ds (Om sh)=W
 |[]=>rfl|(_,.one _)::l=>pV ds l|(_,.box _)::l=>by
  have:=pV ds l
  simp_all[Om,Er]
 |(_,.hid _)::l=>by
  have:=pV ds l
  simp_all[Om,Er]
theorem jM{s:bf S}{fr:bV S}{k o r:Nat}(i:fr.get k=Z (.sh o r)):∀{sh:Sh}{ps:L Pk}{bs:L Nat}{vs:L (V S)}{m:O Nat}{x:fI S.A ps}{fz ow f:L Nat},kP sh=ps->uX fr sh bs=Z vs->eC s ps vs m=Z (x,fz,ow,f)->k∈O0 sh->o∈ow
 |[],_,_,_,_,_,_,_,_,_,_,_,d=>by simp[O0]at d
 |(j,.one c)::sh,ps,bs,vs,m,x,fz,ow,f,a,h1,h2,d=>by
  simp[uX]at h1;split at h1;rotate_left;cases h1;rename_i q p g;simp at h1;subst h1
  replace a:Pk.one c::kP sh=ps:=a
  subst a;simp[eC]at h2;split at h2;rotate_left;cases h2;rename_i u h;obtain⟨_,_,rfl,_⟩:=h2;cases c with
  |dat t=>exact kz _ (jM i rfl g h d)|jQ n j t=>exact kz _ (jM i rfl g h d)|nil e=>exact kz _ (jM i rfl g h d)|ptr t=>exact kz _ (jM i rfl g h d)|own e=>
   obtain rfl|d:=fF.1 d
   rw[i]at p;cases p;simp[oG]at u
   grind
   exact kz _ (jM i rfl g h d)
 |(j,.box l)::sh,ps,[],vs,m,x,fz,ow,f,a,h1,h2,d=>by simp[uX]at h1
 |(j,.box l)::sh,ps,b::bs,vs,m,x,fz,ow,f,a,h1,h2,d=>by
  simp[uX]at h1;split at h1;rotate_left;cases h1;rename_i g;simp at h1;subst h1
  replace a:Pk.box l::kP sh=ps:=a
  subst a;simp[eC]at h2;split at h2;rotate_left;cases h2;obtain⟨_,h2⟩|⟨_,h2⟩:=ah h2
  rotate_left;cases h2;split at h2;rotate_left;cases h2;split at h2;rotate_left;cases h2;rename_i h;obtain⟨_,_,rfl,_⟩:=h2;exact kz _ (jM i rfl g h d)
 |(j,.hid l)::sh,ps,[],vs,m,x,fz,ow,f,a,h1,h2,d=>by simp[uX]at h1
 |(j,.hid l)::sh,ps,b::bs,vs,Y,x,fz,ow,f,a,h1,h2,d=>by
  replace a:Pk.hid l::kP sh=ps:=a
  subst a;cases vs<;>simp[eC]at h2
 |(j,.hid l)::sh,ps,b::bs,vs,Z v,x,fz,ow,f,a,h1,h2,d=>by
  simp[uX]at h1
  replace a:Pk.hid l::kP sh=ps:=a
  subst a;obtain⟨_,h2⟩|⟨_,h2⟩:=ah h2
  rotate_left;cases h2;split at h2;rotate_left;cases h2;split at h2;rotate_left;cases h2;rename_i h;obtain⟨_,_,rfl,_⟩:=h2;exact kz _ (jM i rfl h1 h d)
def nC{ds:L Nat}{k:Nat}:∀{sh:Sh},k∈X5 ds sh->k∈O0 sh
 |[],h=>h|(j,.one (.own e))::sh,h=>by
  simp only[X5]at h;simp[O0,fF];obtain a|a:=Bool.eq_false_or_eq_true (ds.contains j)
  rw[a]at h;exact .inr (nC h);rw[a]at h;obtain rfl|h:=fF.1 h
  exact .inl rfl;exact .inr (nC h)
 |(j,.one (.dat t))::sh,h=>nC (sh:=sh) h|(j,.one (.jQ ..))::sh,h=>nC (sh:=sh) h|(j,.one (.nil _))::sh,h=>nC (sh:=sh) h|(j,.one (.ptr _))::sh,h=>nC (sh:=sh) h|(j,.box b)::sh,h=>nC (sh:=sh) h|(j,.hid b)::sh,h=>nC (sh:=sh) h
def WT{s c:bf S}{sh:Sh}{bs ow:L Nat}{x:fI S.A (kP sh)}{o r:Nat}(h:qc sh bs fr s=Z (x,c,ow))(d:k∈O0 sh)(e:fr.get k=Z (.sh o r)):o∈ow:=by
 unfold qc at h;split at h;cases h;rename_i a;split at h;cases h;rename_i b;split at h;cases h;obtain⟨_,h2⟩|⟨_,h2⟩:=ah h
 obtain⟨_,_,rfl⟩:=h2;exact jM e rfl a b d;cases h2
def Gz(rr:O Nat)(P:cP)(c:Code)(Q:Exit->Act->av->Prop)(a:Act)(w:av):Prop:=
 ∀(b:Frame)(k:L Item)(cs:L Frame),b.roundOf=rr->∃e a' w',Q e a' w'/\acH rr P (lone (b.atR a (.code c::.inLoop c::k)) cs w) b k cs e a' w'
def Jq(h:Gz rr P c Q a w):(Code.loop c).wpIn (WR rr) 0 P Q a w:=λb k g f _ _=>
 let ⟨e,i,j,l,d⟩:=h b k g f
 ⟨e,i,j,l,.of_steps (fZ.2 (.one stepR_loop)) d⟩
def tW(h:c.wpIn (WR rr) 0 P (Exit.then (Gz rr P c Q) Q) a w):Gz rr P c Q a w:=by
 intro b k o i
 let ⟨e,j,m,g,d⟩:=h b (.inLoop c::k) o i trivial (LS _)
 cases e with
 |normal=>
  let ⟨p,q,r,n,f⟩:=g b k o i
  exact⟨p,q,r,n,.of_steps (fZ.2 ((fZ.1 d).trans (.one stepR_inLoop))) f⟩
 |exit id=>exact⟨_,j,m,g,.pass (x:=.inLoop c) rfl (λ_ _=>.inl (by simp)) d⟩
 |goto l=>exact⟨_,j,m,g,.pass (x:=.inLoop c) rfl (λ_ _=>.inl (by simp)) d⟩
 |ret=>exact⟨_,j,m,g,.pass (x:=.inLoop c) rfl (λ_ _=>.inl (by simp)) d⟩
 |panic s=>exact⟨_,j,m,g,.pass (x:=.inLoop c) rfl (λ_ _=>.inl (by simp)) d⟩
 |outgrown=>exact⟨_,j,m,g,.pass (x:=.inLoop c) rfl (λ_ _=>.inl (by simp)) d⟩
def Pb(I:Act->av->Prop)(μ:Act->av->Nat)(round:∀a w,I a w->c.wpIn (WR rr) 0 P (Exit.then (λa' w'=>I a' w'/\μ a' w'<μ a w) Q) a w) :
  ∀(m:Nat)(a:Act)(w:av),μ a w<=m->I a w->Gz rr P c Q a w:=by
 intro m
 induction m with
 |zero=>
  intro a w f d;refine tW (wpIn_mono (round a w d) λe a' w' b=>?_);cases e with|normal=>have:=b.2;omega|_=>exact b
 |succ m g=>
  intro a w f d;refine tW (wpIn_mono (round a w d) λe a' w' b=>?_);cases e with|normal=>exact g a' w' (by have:=b.2;omega) b.1|_=>exact b
def wW{a:aa}(h:(a&&b)=W):a=W/\b=W:=yH.1 h
theorem Ry{id:Nat}{ops:Array Oper}{d:aa}(h:On (.region id ops d)=W):∀o∈ops.toList,∀c,o.op≠.defer c:=by
 grind[On]
theorem Pf{E:er S}(hE:e8 E)(rv:Rv){rr:O Nat}{b:Code}{ev:{ω:Type}->(uF S->bV S->bf S->O ω)->bV S->bf S->O ω}
  (hev:∀{ω:Type}{Q:uF S->bV S->bf S->O ω}{r:ω}{fr:bV S}{s:bf S},ev Q fr s=Z r->fr.n<=bD->s.lo<=s.aF->∀{g:Gh}{a:Act}{w:av},cS g (bB fr) a w->aY g (aE s) w->b.wpIn (WR rr) 0 E.T.E.P (HJ (eG b++rv.map (·.1)) fr s g w Q r) a w)
  {ω:Type} {sh:Sh} {pts:L Pt} {al:L (Nat×Nat)} {Q:uF S->bV S->bf S->O ω} {r:ω} {fr:bV S} {s:bf S} (h:Xq E rv ev sh pts al (eG b++rv.map (·.1)) (v7 (kI b)) Q fr s=Z r) (hn:fr.n<=bD) (hlo:s.lo<=s.aF) {g:Gh} {a:Act} {w:av} (hf:cS g (bB fr) a w) (hs:aY g (aE s) w) :
  b.wpIn (WR rr) 0 E.T.E.P (HJ (eG b++rv.map (·.1)) fr s g w Q r) a w:=by
 unfold Xq at h;split at h;cases h;rename_i bs aeU;split at h;cases h;rename_i x0 u ow hpk;obtain⟨hb,h2⟩|⟨_,h2⟩:=ah h
 rotate_left;cases h2;clear h;rw[eM,eM]at hb
 let ⟨⟨IE,z⟩,XP⟩:=hb
 rw[eM,eM]at z
 let ⟨z,XT,aff⟩:=z
 let ⟨o,n,c⟩:=iQ h2
 clear h2;generalize hds:(eG b++rv.map (·.1))++(X5 (eG b++rv.map (·.1)) sh++al.map (·.1))=ds at *
 let ⟨bl0,PA⟩:=sK hf hs aeU
 have Ke:∀d∈ds,d<bD:=λd hd=>by rw[j5]at XP;exact iE (gH (XP d hd)) hn
 have UE:∀p∈al,p.1<bD:=λp hp=>Ke _ (by grind);have UD:∀k∈al.map (·.1),k∈ds:=λk hk=>by grind
 let ⟨g1,VM,CU,bl1,i⟩:=j7 hE.sg hf hs PA hpk
 have Py:=Gi (fr:=fr) hf hs Ke i;have aeK:u.aF<=bD:=i.rel.aF;have XR:(cI ds ow bs fr u).1.n<=bD:=hn;have fix:∀{l:bV S},ej ds fr l (ow++u.dr) s.aF->ej (eG b++rv.map (·.1)) fr l (ow++u.dr) s.aF:=by
  intro l hfo;refine⟨λk v hk hv=>?_,hfo.df⟩;by_cases C:k∈ds
  right
  rw[<-hds]at C;obtain C|C:=eN.1 C
  grind
  obtain C|C:=eN.1 C
  unfold abV at z;rw[j5]at z;have h1:=z k C;split at h1;rename_i r' ho';rw[hv]at ho';cases ho';have:=WT hpk (nC C) hv;simp[cH,dL,this];cases h1;obtain⟨p,hp,rfl⟩:=tJ.1 C;obtain⟨o1,r1,rfl,this⟩:=NX aff hp hv;simp[cH,dL,this];exact hfo.tm k v C hv
 have XU:ZU a w al:=xg hf hs XT;have hbase:wN sh bs (cI ds ow bs fr u).1 (cI ds ow bs fr u).2 s g w x0 a _ w VM CU bl1:=Py;unfold Ey at n;split at n;cases n;rename_i afk A MZ
 let ⟨gh,hh0,Uz⟩:=hbase.head XR MZ
 have hh:=hh0.mj UE XU;generalize mj A al afk=Br at hh n;have ao3:Br.n=fr.n:=hh.n;have ai1:A.lo<=A.aF:=by have h1:A.lo=s.lo:=hh.lo.trans i.lo;have h2:=hh.aF;have h3:(cI ds ow bs fr u).2.aF=u.aF:=rfl;have:=i.aF;omega
 have XK:u.aF<=A.aF:=hh.aF;have rT:aY gh (aE {A with lo:=u.aF}) _:=⟨hh.rel.aF,hh.rel.ai,hh.rel.box,hh.rel.arr,hh.rel.bp,hh.rel.jF⟩;have Pn:A.lo=(cI ds ow bs fr u).2.lo:=hh.lo;refine wpIn_mono (hev n (by omega) XK hh.fr rT) λe N0 m hq=>?_;obtain hF|⟨ex,Ot,s20,g2,h1,h2,h3,h4,h50,h60⟩:=hq
 exact hF.elim;have h5:=eB.lower (s:=A) h50 (by have:=hh.lo.trans i.lo;have:=i.aF;omega);rw[<-Pn]at h2;dsimp only at h2;obtain⟨s2,Ll⟩:∃s2:bf S,s2={s20 with lo:=A.lo}:=⟨_,rfl⟩;have h6:=h60;rw[show s20.dr=s2.dr by rw[Ll]]at h6;rw[<-Ll]at h2 h5;unfold OL at h2
 replace h6:ej ds Br Ot s2.dr A.aF:=h6.mono (λk hk=>by grind) (λ_ h=>h)
 obtain⟨ae4,h2⟩|⟨_,h2⟩:=ah h2
 rotate_left;cases h2;have Pw:s2.fl=s.fl:=h5.fl.trans (hh.fl.trans i.fl);have hmk:∀{Kh:Gh},(∀o b,g2.bP o=Z b->Kh.bP o=Z b)->Marks u.aF s.fl (cI ds ow bs fr u) Ot Kh m:=λ{Kh}hq=>by have:=zG h5.rel ae4;rw[Pw]at this;exact this.mono h4 hq
 have next:∀{K:Sh}{y:fI S.A (kP K)}{P s3:bf S}{Kh:Gh}{Lj:L Nat},eB A gh w P Kh m->(∀o b,g2.bP o=Z b->Kh.bP o=Z b)->cS Kh (bB Ot) N0 m->ej ds Br Ot P.dr A.aF->qc K bs Ot P=Z (y,s3,Lj)->
   Th u.aF bs s3.wr=W->Lj.all (λo=>Nl u.aF o)=W->s3.dr.all (λo=>Nl u.aF o)=W->
   ∃B f R AR,wN K bs (cI ds ow bs fr u).1 (cI ds ow bs fr u).2 s g w y N0 B m f R AR/\∀b,Kh.bp b->B.bp b:=by
  intro K y P s3 Kh Lj k1 k0 k2 k3 k4 k5 k6 k7
  let ⟨g3,f,R,AR,hp2⟩:=j7 hE.sg (bl0:=bl1) k2 k1.rel ⟨hbase.GZ.1,λj o b q1 q2=>k1.ext.bP o b (hh.le.bP o b (hbase.GZ.2 j o b q1 q2))⟩ k4
  let ⟨B,Dd,oY⟩:=I8 UD Ke (λb hb=>⟨by have:=(i.SM b hb).2.1;rw[i.aF];exact this,(i.SM b hb).2.2.1⟩) aeK (by rw[i.aF];exact hlo) (λo ho=>(i.WS o ho).2.1) (λo b hb=>⟨by rw[i.aF];exact hs.lt hb,λhm=>by rw[i.owb o hm]at hb;cases hb⟩) IE i.lo i.fl Uz hh k1 k2 k3 h3 (hmk k0) hp2 k5 k6 k7
  exact⟨B,f,R,AR,Dd,λb hb=>by rw[oY];exact hp2.ext.bp b hb⟩
 have leave:∀{K:Sh}{y:fI S.A (kP K)}{B:Gh}{f:L az}{R:L eU}{AR:L Nat}{l:bV S}{F:bf S},Er ds K=W->wN K bs (cI ds ow bs fr u).1 (cI ds ow bs fr u).2 s g w y N0 B m f R AR->mP K bs y (cI ds ow bs fr u).1 (cI ds ow bs fr u).2=Z (l,F)->
   ∃gy,cS gy (bB l) N0 m/\(∀b,B.bp b->gy.bp b)/\eB s g w {F with wr:=u.ob.ju (gq (dL ow u.aF))++(bs++u.wr),dr:=ow++u.dr} gy m/\ej ds fr l (ow++u.dr) s.aF/\l.n=fr.n:=by
  intro K y B f R AR l F aeJ k1 k2
  let ⟨gy,k3,k4⟩:=k1.head XR k2
  let ⟨k5,k6,k7⟩:=NS (ex:=[]) (λ_ h=>by cases h) hs Ke i aeJ k4 k3
  exact⟨gy,k3.fr,k3.le.bp,k5,k6,k7⟩
 cases h1 with
 |qW=>
  obtain⟨XW,h2⟩|⟨_,h2⟩:=ah h2
  rotate_left;cases h2;simp[uP]at h2;split at h2
  .rename_i y s3 Lj I;obtain⟨hc,h2⟩|⟨_,h2⟩:=ah h2
   rotate_left;cases h2;simp only[eM]at hc
   let ⟨B,f,R,AR,k1,_⟩:=next h5 (λ_ _ h=>h) h4 h6 I hc.1 hc.2.1 hc.2.2
   cases h2;simp only at c;split at c;cases c;rename_i l F Ux
   let ⟨gy,l1,_,l2,l3,l4⟩:=leave IE k1 Ux
   let ⟨m1,m2,m3,m4⟩:=lN (s:=F) l2.rel UE (xg h4 h5.rel XW) l1
   exact .inr ⟨.qW,mj F al l,_,gy,.qW,c,m2.trans l4,m1,l2,fix ⟨λk v hk hv=>by rw[m4 k λhm=>hk (UD k hm)];exact l3.tm k v hk hv,by rw[m3];exact l3.df⟩⟩
  cases h2
 |ext j=>
  obtain⟨hj,h2⟩|⟨_,h2⟩:=ah h2
  rotate_left;cases h2;simp[uP]at h2;split at h2
  .rename_i y s3 Lj I;obtain⟨hc,h2⟩|⟨_,h2⟩:=ah h2
   rotate_left;cases h2;simp only[eM]at hc
   let ⟨B,f,R,AR,k1,_⟩:=next h5 (λ_ _ h=>h) h4 h6 I hc.1 hc.2.1 hc.2.2
   cases h2;simp only at c;split at c;cases c;rename_i l F Ux
   let ⟨gy,l1,_,l2,l3,l4⟩:=leave IE k1 Ux
   rw[eM]at hj;have hjm:j∈v7 (kI b):=by grind
   let ⟨m1,m2,m3,m4⟩:=lN (s:=F) l2.rel UE (xg h4 h5.rel hj.2) l1
   exact .inr ⟨.ext j,mj F al l,_,gy,.ext j,yK hjm c,m2.trans l4,m1,l2,fix ⟨λk v hk hv=>by rw[m4 k λhm=>hk (UD k hm)];exact l3.tm k v hk hv,by rw[m3];exact l3.df⟩⟩
  cases h2
 |ret=>
  simp only at h2;split at h2;cases h2;rename_i vs hvs;split at h2;rotate_left;cases h2;rename_i r' fz owr Uv;split at h2;rotate_left;cases h2;rename_i P hfz;simp[uP]at h2;split at h2
  .rename_i y s3 Lj I;obtain⟨hc,h2⟩|⟨_,h2⟩:=ah h2
   rotate_left;cases h2;simp only[eM]at hc
   let ⟨aha,De,oX⟩:=JF h4 hvs
   let ⟨p1,p2,p3⟩:=fW hE.sg h5.rel Uv oX
   let ⟨g3,Po,DH,Pv⟩:=ew fz h5.rel (dw hE.sg _ hfz) p1
   have aeQ:owr=[]:=qd (BK rv) Uv
   let ⟨YE,rT,_⟩:=p3 g3 (aE P) fz Po DH Pv (λo ho=>ho) (λo ho=>by simp_all)
   let ⟨f1,f2,f3,f4,f5,f6,f7⟩:=eD hfz
   have vS:eB s2 g2 m P g3 m:=⟨Po,DH.Hi _,f1,f2,Cm f3.symm,f4,λo _ ho=>f5 o ho,λo ho=>by grind⟩;have hf3:cS g3 (bB Ot) N0 m:=h4.ext DH h5.rel.bp
   let ⟨B,f,R,AR,k1,k2⟩:=next (h5.trans vS) DH.bP hf3 (by grind) I hc.1 hc.2.1 hc.2.2
   cases h2;simp only at c;split at c;cases c;rename_i l F Ux
   let ⟨gy,l1,l0,l2,l3,l4⟩:=leave (pV ds sh) k1 Ux
   let ⟨m1,m2,m3⟩:=vu (g:=gy) (w:=m) (a:=N0) (fr:=l) rT (λb hb=>l0 b (k2 b hb)) De (by omega) l1
   have hdf:∀(rv:Rv)(r:fU S.A (Es rv))(fr:bV S),(xI rv r fr).df=fr.df:=by
    intro rv
    induction rv with|nil=>intro _ _;rfl|cons q rv ih=>intro r fr;let ⟨k,t⟩:=q;exact ih _ _
   refine .inr ⟨.ret,_,_,gy,.ret,c,m2.trans l4,m1,l2,⟨λk v hk hv=>?_,by rw[hdf];exact l3.df⟩⟩;rw[m3 k (λhm=>hk (kz _ hm))];exact(fix l3).tm k v hk hv
  cases h2
 |jJ t v hv=>
  obtain⟨hpn,h2⟩|⟨_,h2⟩:=ah h2
  rotate_left;cases h2;split at h2;rotate_left;cases h2;rename_i r' fz owr Uv;split at h2;rotate_left;cases h2;rename_i P hfz;simp[uP]at h2;split at h2;rotate_left;cases h2;rename_i I;obtain⟨hc,h2⟩|⟨_,h2⟩:=ah h2
  rotate_left;cases h2;simp only[eM]at hc;have oX:PW (aH g2 m) (bu [t]) [v]:=⟨rfl,λj t' v' q1 q2=>by
   grind[bu]⟩
  let ⟨p1,p2,p3⟩:=fW hE.sg h5.rel Uv oX
  let ⟨g3,Po,DH,Pv⟩:=ew fz h5.rel (dw hE.sg _ hfz) p1
  have aeQ:owr=[]:=qd (cs:=[.dat S.pt]) rfl Uv
  let ⟨YE,rT,_⟩:=p3 g3 (aE P) fz Po DH Pv (λo ho=>ho) (λo ho=>by grind)
  let ⟨f1,f2,f3,f4,f5,f6,f7⟩:=eD hfz
  have vS:eB s2 g2 m P g3 m:=⟨Po,DH.Hi _,f1,f2,Cm f3.symm,f4,λo _ ho=>f5 o ho,λo ho=>by grind⟩;have hf3:cS g3 (bB Ot) N0 m:=h4.ext DH h5.rel.bp
  let ⟨B,f,R,AR,k1,k2⟩:=next (h5.trans vS) DH.bP hf3 (by grind) I hc.1 hc.2.1 hc.2.2
  cases h2;simp only at c;obtain⟨_,c⟩|⟨_,c⟩:=ah c
  rotate_left;cases c;split at c;cases c;rename_i l F Ux
  let ⟨gy,l1,l0,l2,l3,l4⟩:=leave (pV ds sh) k1 Ux
  refine .inr ⟨.jJ (.ty S.pt r'.1),l,_,gy,.jJ _ v ?_,c,l4,l1,l2,fix l3⟩;cases rT with|@dat _ _ x h v vs al hd hr=>exact pQ (hd.le λb hb=>l0 b (k2 b hb))
theorem pI{E:er S}(hE:e8 E){call:fO S}(vR:gu E.T.E.P call)(ajl:sn E call)(n:Nat)(fid:FuncId)(rv:Rv){rr:O Nat}:∀(c:Code)(i:Nat){ω:Type}{Q:uF S->bV S->bf S->O ω}{r:ω}{fr:bV S}{s:bf S},
  yV E call n fid rv c i Q fr s=Z r->(rr≠Y->On c=W)->fr.n<=bD->s.lo<=s.aF->∀{g:Gh}{a:Act}{w:av},cS g (bB fr) a w->aY g (aE s) w->c.wpIn (WR rr) 0 E.T.E.P (HJ (eG c++rv.map (·.1)) fr s g w Q r) a w:=by
 intro c
 induction c with
 |region id ops draw=>
  intro i ω Q r fr s h A hn hlo g a w hf hs;cases draw with
  |true=>
   obtain⟨hb,h⟩|⟨_,h⟩:=ah h
   rotate_left;cases h;refine ajl id ops _ _ r fr s hb h hn hf hs (λl s' g' K I h1 h2 h3 h4 h5=>.inr ⟨.qW,l,s',g',.qW,h1,h2,h3,h4,h5.mono (λk B=>eL _ B) (λ_ h=>h)⟩)
    (λl t s' g' K v I h1 h2 h3 h4 h6 h5=>.inr ⟨.jJ t,l,s',g',.jJ t v h5,h1,h2,h3,h4,h6.mono (λk B=>eL _ B) (λ_ h=>h)⟩) rr A
  |false=>
   refine V6 ?_;have:=CH hE vR (Q:=HJ (eG (.region id ops J)++rv.map (·.1)) fr s g w Q r) (rr:=rr) (λhr=>Ry (A hr)) ops.toList 0 rfl hn h hf hs
    (λl s' g' K I h1 h2 h3 h4 h5=>.inr ⟨.qW,l,s',g',.qW,h1,h2,h3,h4,h5.mono (λk B=>eL _ B) (λ_ h=>h)⟩)
    (λl t s' g' K v I h1 h2 h3 h4 h6 h5=>.inr ⟨.jJ t,l,s',g',.jJ t v h5,h1,h2,h3,h4,h6.mono (λk B=>eL _ B) (λ_ h=>h)⟩)
   grind[List.range_eq_range']
 |seq x y ihx ihy=>
  intro i ω Q r fr s h A hn hlo g a w hf hs;have hds:∀k∈(eG x++rv.map (·.1))++(eG y++rv.map (·.1)),k∈eG (.seq x y)++rv.map (·.1):=by
   grind[eG]
  refine wpIn_seq (wpIn_mono (ihx i h (λhr=>(wW (A hr)).1) hn hlo hf hs) λe K I hq=>?_);obtain hF|⟨ex,l,s',g',h1,h2,h3,h4,h5,h6⟩:=hq
  exact hF.elim;cases h1 with
  |qW=>have:=ihy i h2 (λhr=>(wW (A hr)).2) (by omega) (by rw[h5.lo];exact fP hlo h5.aF) h4 h5.rel;exact wpIn_mono this λe a w hq=>(HJ.mono h3 h5 h6 hq).ds hds
  |ext j=>exact .inr ⟨_,l,s',g',.ext j,h2,h3,h4,h5,h6.mono (λk B=>hds k (eL _ B)) (λ_ h=>h)⟩|ret=>exact .inr ⟨_,l,s',g',.ret,h2,h3,h4,h5,h6.mono (λk B=>hds k (eL _ B)) (λ_ h=>h)⟩|jJ t v hv=>exact .inr ⟨_,l,s',g',.jJ t v hv,h2,h3,h4,h5,h6.mono (λk B=>hds k (eL _ B)) (λ_ h=>h)⟩
 |cond c x y ihx ihy=>
  intro i ω Q r fr s h A hn hlo g a w hf hs;have cnd:∀{ω:Type}{Q:uF S->bV S->bf S->O ω}{r:ω}{fr:bV S}{s:bf S},SF c (yV E call n fid rv x i) (yV E call n fid rv y i) Q fr s=Z r->fr.n<=bD->s.lo<=s.aF->∀{g:Gh}{a:Act}{w:av},cS g (bB fr) a w->aY g (aE s) w->
    (Code.cond c x y).wpIn (WR rr) 0 E.T.E.P (HJ (eG (.cond c x y)++rv.map (·.1)) fr s g w Q r) a w:=by
   clear h hn hlo hf hs;intro ω Q r fr s h hn hlo g a w hf hs;have hx:∀k∈eG x++rv.map (·.1),k∈eG (.cond c x y)++rv.map (·.1):=by
    grind[eG]
   have hy:∀k∈eG y++rv.map (·.1),k∈eG (.cond c x y)++rv.map (·.1):=by
    grind[eG]
   have R:∀k∈SG c,k∈eG (.cond c x y)++rv.map (·.1):=by
    grind[eG]
   have tru:a.eval c=.bool W->yV E call n fid rv x i Q (fr.sQ c W) s=Z r->x.wpIn (WR rr) 0 E.T.E.P (HJ (eG (.cond c x y)++rv.map (·.1)) fr s g w Q r) a w:=λhv h=>
    wpIn_mono (ihx i h (λhr=>(wW (A hr)).1) (by rw[J5];exact hn) hlo (Fi hn hf hv) hs) λe a w hq=>(HJ.mono (J5 _ _ _) (eB.refl hs) (Sa hn c W _ _) hq).ds λk B=>(eN.1 B).elim (R k) (hx k)
   have fls:a.eval c=.bool J->yV E call n fid rv y i Q (fr.sQ c J) s=Z r->y.wpIn (WR rr) 0 E.T.E.P (HJ (eG (.cond c x y)++rv.map (·.1)) fr s g w Q r) a w:=λhv h=>
    wpIn_mono (ihy i h (λhr=>(wW (A hr)).2) (by rw[J5];exact hn) hlo (Fi hn hf hv) hs) λe a w hq=>(HJ.mono (J5 _ _ _) (eB.refl hs) (Sa hn c J _ _) hq).ds λk B=>(eN.1 B).elim (R k) (hy k)
   unfold SF at h;split at h;rename_i R;have:=bR hf (cw R);generalize hv:a.eval c=v at this;cases this;exact wpIn_cond_true hv (wpIn_mono (ihx i h (λhr=>(wW (A hr)).1) hn hlo hf hs) λe a w hq=>hq.ds hx);rename_i R;have:=bR hf (cw R);generalize hv:a.eval c=v at this;cases this;exact wpIn_cond_false hv (wpIn_mono (ihy i h (λhr=>(wW (A hr)).2) hn hlo hf hs) λe a w hq=>hq.ds hy)
   .rename_i e R;have:=bR hf (cw R);generalize hv:a.eval c=v at this
    let ⟨h2,h1⟩:=U9 h
    cases this with
    |ub _ b hb=>
     simp_all[wpIn_cond_split]
   rename_i t _ _ _ R;split at h;rename_i b hb
   let ⟨p,e,hp⟩:=lZ hb
   have hv:=ja e hp (bR hf (cw R))
   grind[wpIn_cond_split,sy]
   cases h;cases h
  grind[yV,Pf]
 |block j b ih=>
  intro i ω Q r fr s h A hn hlo g a w hf hs;refine wpIn_block (wpIn_mono (ih j h A hn hlo hf hs) λe K I hq=>?_);obtain hF|⟨ex,l,s',g',h1,h2,h3,h4,h5,h6⟩:=hq
  exact hF.elim;cases h1 with|qW=>exact .inr ⟨_,l,s',g',.qW,h2,h3,h4,h5,h6⟩|ext k=>simp[Nh]at h2;simp[Exit.inBlock];split at h2;rename_i hji;rw[bO (beq_iff'.1 hji)];exact .inr ⟨_,l,s',g',.qW,h2,h3,h4,h5,h6⟩;rw[cm (λe=>by simp_all)];exact .inr ⟨_,l,s',g',.ext k,h2,h3,h4,h5,h6⟩|ret=>exact .inr ⟨_,l,s',g',.ret,h2,h3,h4,h5,h6⟩|jJ t v hv=>exact .inr ⟨_,l,s',g',.jJ t v hv,h2,h3,h4,h5,h6⟩
 |loop b ih=>
  intro i ω Q r fr s h A hn hlo g a w hf hs;simp[yV]at h;split at h;cases h;rename_i sh pts al pl hsh;refine Jq ?_;clear hsh
  induction pl generalizing fr s g a w with
  |succ pl ihp=>
   refine tW (wpIn_mono (ih i h A hn hlo hf hs) λe K I hq=>?_);obtain hF|⟨ex,l,s',g',h1,h2,h3,h4,h5,h6⟩:=hq
   exact hF.elim;have hds:∀k∈eG b++rv.map (·.1),k∈eG (.loop b)++rv.map (·.1):=λk B=>B;cases h1 with
   |qW=>
    intro b1 k1 cs1 aeM;have ihq:=ihp (fr:=l) (s:=s') (g:=g') (a:=K) (w:=I) (h:=h2) (hn:=by omega) (hlo:=by rw[h5.lo];exact fP hlo h5.aF) (hf:=h4) (hs:=h5.rel)
    let ⟨e,a2,w2,hq,Kg⟩:=ihq b1 k1 cs1 aeM
    refine⟨e,a2,w2,?_,Kg⟩;exact(HJ.mono h3 h5 h6 hq).ds λk B=>(eN.1 B).elim (hds k) id
   |ext j=>exact .inr ⟨_,l,s',g',.ext j,h2,h3,h4,h5,h6⟩|ret=>exact .inr ⟨_,l,s',g',.ret,h2,h3,h4,h5,h6⟩|jJ t v hv=>exact .inr ⟨_,l,s',g',.jJ t v hv,h2,h3,h4,h5,h6⟩
  |zero=>
  simp[WL]at h
  suffices main:∀{fr:bV S}{s:bf S}{g:Gh}{a:Act}{w:av},Xa E n rv (yV E call n fid rv b i) sh pts al (eG b++rv.map (·.1)) (v7 (kI b)) Q fr s=Z r->fr.n<=bD->s.lo<=s.aF->cS g (bB fr) a w->aY g (aE s) w->Gz rr E.T.E.P b (HJ (eG (.loop b)++rv.map (·.1)) fr s g w Q r) a w by
   obtain⟨_,h⟩|⟨_,h⟩:=ah h
   rotate_left
   simp_all
   obtain⟨hnb,h⟩|⟨_,h⟩:=ah h
   rotate_left;cases h;have hnb:s.aF<bD:=gH hnb;have hg:∀k,(dh s .E5).ob.get k=if k=s.aF then Z .E5 else s.ob.get k:=λk=>Tr.aV _ _ _ _ hnb
   have zl:aY g (aE (dh s .E5)) w:=by
    refine⟨hnb,λo ho=>hs.ai o (Nat.le_of_succ_le ho),λo b hb=>?_,λo e x hx=>?_,hs.bp,hs.jF⟩
    let ⟨k1,k2,k3⟩:=hs.box o b hb
    refine⟨k1,k2,λob l9=>k3 ob ?_⟩;have:=hs.lt hb;rw[aK,hg,cm (by have h:o<s.aF:=this;omega)]at l9;rw[aK];exact l9
    let ⟨k1,k2⟩:=hs.arr o e x hx
    refine⟨k1,λob l9=>k2 ob ?_⟩;have:=hs.lt' hx;rw[aK,hg,cm (by have h:o<s.aF:=this;omega)]at l9;rw[aK];exact l9
   have vS:eB s g w (dh s .E5) g w:=by refine⟨zl,n8.refl _ _ _ _,rfl,rfl,Cj _,λ_ h=>h,λo ho _=>?_,λ_ h=>h⟩;rw[hg,cm (by omega)]
   intro b1 k1 cs1 aeM
   let ⟨e,a2,w2,hq,Kg⟩:=main (fr:={fr with df:=.marks s.aF::fr.df}) (s:=dh s .E5) h hn (Nat.le_succ_of_le hlo) ⟨hf.size,.marks s.aF [] .nil (λb hb=>by cases hb) hf.df,hf.tm⟩ zl b1 k1 cs1 aeM
   refine⟨e,a2,w2,?_,Kg⟩;exact(HJ.mono (ds:=[]) (fr:=fr) (sU:={fr with df:=.marks s.aF::fr.df}) rfl vS ⟨λk v _ B=>.inl B,[.marks s.aF],fr.df,rfl,.refl _ _⟩ hq).ds λk B=>B
  clear h hn hlo hf hs;intro fr s g a w h hn hlo hf hs;unfold Xa at h;split at h;cases h;rename_i bs aeU;split at h;cases h;rename_i x0 s1 ow hpk;obtain⟨hb,h2⟩|⟨_,h2⟩:=ah h
  rotate_left;cases h2;clear h;rw[eM,eM]at hb
  let ⟨⟨IE,II⟩,XP⟩:=hb
  rw[eM,eM]at II
  let ⟨II,XT,aff⟩:=II
  let ⟨o,ai8,u⟩:=iQ h2
  clear h2;generalize hds:(eG b++rv.map (·.1))++(X5 (eG b++rv.map (·.1)) sh++al.map (·.1))=ds at *
  let ⟨bl0,PA⟩:=sK hf hs aeU
  have Ke:∀d∈ds,d<bD:=λd hd=>by rw[j5]at XP;exact iE (gH (XP d hd)) hn
  have UE:∀p∈al,p.1<bD:=λp hp=>Ke _ (by grind);have UD:∀k∈al.map (·.1),k∈ds:=λk B=>by grind
  let ⟨g1,VM,CU,bl1,C⟩:=j7 hE.sg hf hs PA hpk
  have Py:=Gi (fr:=fr) hf hs Ke C;have aeK:s1.aF<=bD:=C.rel.aF;have XR:(cI ds ow bs fr s1).1.n<=bD:=hn;have fix:∀{P:bV S},ej ds fr P (ow++s1.dr) s.aF->ej (eG (.loop b)++rv.map (·.1)) fr P (ow++s1.dr) s.aF:=by
   intro P hfo;refine⟨λk v B hv=>?_,hfo.df⟩;by_cases xA:k∈ds
   right
   rw[<-hds]at xA;obtain xA|xA:=eN.1 xA
   exact absurd xA B;obtain xA|xA:=eN.1 xA
   unfold abV at II;rw[j5]at II;have h1:=II k xA;split at h1;rename_i o' r' ho';rw[hv]at ho';cases ho';have:=WT hpk (nC xA) hv;simp[cH,dL,this];cases h1;obtain⟨p,hp,rfl⟩:=tJ.1 xA;obtain⟨o1,r1,rfl,this⟩:=NX aff hp hv;simp[cH,dL,this];exact hfo.tm k v xA hv
  let Inv (K:Act) (I:av) (m:Nat):Prop:=ZU K I al/\∃x gb vals als bl,iter (Ey rv (yV E call n fid rv b i) sh bs s1.aF (v7 (kI b)) (cI ds ow bs fr s1) E.pn al) m x=Z o/\wN sh bs (cI ds ow bs fr s1).1 (cI ds ow bs fr s1).2 s g w x K gb I vals als bl
  have XM:∀(K:Act)(I:av),∃m,(∃k,Inv K I k)->Inv K I m/\∀k,Inv K I k->m<=k:=by intro K I;by_cases hex:∃k,Inv K I k;obtain⟨m,hm,hmin⟩:=Ug (λk=>Inv K I k) hex;exact⟨m,λ_=>⟨hm,hmin⟩⟩;exact⟨0,λh=>absurd h hex⟩
  obtain⟨f,hM⟩:∃f:Act->av->Nat,∀K I,(∃k,Inv K I k)->Inv K I (f K I)/\∀k,Inv K I k->f K I<=k:=
   ⟨λK I=>Classical.choose (XM K I),λK I=>Classical.choose_spec (XM K I)⟩
  refine Pb (λK I=>∃k,Inv K I k) f ?_ _ a w (cM _) ⟨n,xg hf hs XT,x0,_,VM,CU,bl1,ai8,Py⟩;intro K I hI
  let ⟨⟨XU,x,gb,vals,als,bl,hit,hbase⟩,hmin⟩:=hM K I hI
  let ⟨m,hm,o',Fw,CD⟩:=Ur hit
  unfold Ey at Fw;split at Fw;cases Fw;rename_i afk yw MZ
  let ⟨gh,hh0,Uz⟩:=hbase.head XR MZ
  have hh:=hh0.mj UE XU;generalize mj yw al afk=Br at hh Fw;have ao3:Br.n=fr.n:=hh.n;have ai1:yw.lo<=yw.aF:=by have h1:yw.lo=s.lo:=hh.lo.trans C.lo;have h2:=hh.aF;have h3:(cI ds ow bs fr s1).2.aF=s1.aF:=rfl;have:=C.aF;omega
  have XK:s1.aF<=yw.aF:=hh.aF;have rT:aY gh (aE {yw with lo:=s1.aF}) _:=⟨hh.rel.aF,hh.rel.ai,hh.rel.box,hh.rel.arr,hh.rel.bp,hh.rel.jF⟩;have Pn:yw.lo=(cI ds ow bs fr s1).2.lo:=hh.lo;refine wpIn_mono (ih i Fw A (by omega) XK hh.fr rT) λe N0 F hq=>?_;obtain hF|⟨ex,Ot,s20,g2,h1,h2,h3,h4,h50,h60⟩:=hq
  exact hF.elim;have h5:=eB.lower (s:=yw) h50 (by have:=hh.lo.trans C.lo;have:=C.aF;omega);rw[<-Pn]at h2;dsimp only at h2;obtain⟨s2,Ll⟩:∃s2:bf S,s2={s20 with lo:=yw.lo}:=⟨_,rfl⟩;have h6:=h60;rw[show s20.dr=s2.dr by rw[Ll]]at h6;rw[<-Ll]at h2 h5;unfold OL at h2
  replace h6:ej ds Br Ot s2.dr yw.aF:=h6.mono (λk B=>by grind) (λ_ h=>h)
  obtain⟨ae4,h2⟩|⟨_,h2⟩:=ah h2
  rotate_left;cases h2;have Pw:s2.fl=s.fl:=h5.fl.trans (hh.fl.trans C.fl);have hmk:∀{Kh:Gh},(∀o b,g2.bP o=Z b->Kh.bP o=Z b)->Marks s1.aF s.fl (cI ds ow bs fr s1) Ot Kh F:=λ{Kh}hq=>by have:=zG h5.rel ae4;rw[Pw]at this;exact this.mono h4 hq
  have next:∀{OE:Sh}{y:fI S.A (kP OE)}{s2' s3:bf S}{Kh:Gh}{Lj:L Nat},eB yw gh I s2' Kh F->(∀o b,g2.bP o=Z b->Kh.bP o=Z b)->cS Kh (bB Ot) N0 F->ej ds Br Ot s2'.dr yw.aF->qc OE bs Ot s2'=Z (y,s3,Lj)->
    Th s1.aF bs s3.wr=W->Lj.all (λo=>Nl s1.aF o)=W->s3.dr.all (λo=>Nl s1.aF o)=W->
    ∃UI z uS AR,wN OE bs (cI ds ow bs fr s1).1 (cI ds ow bs fr s1).2 s g w y N0 UI F z uS AR/\∀b,Kh.bp b->UI.bp b:=by
   intro OE y s2' s3 Kh Lj k1 k0 k2 k3 k4 k5 k6 k7
   let ⟨g3,z,uS,AR,hp2⟩:=j7 hE.sg (bl0:=bl) k2 k1.rel ⟨hbase.GZ.1,λj o b q1 q2=>k1.ext.bP o b (hh.le.bP o b (hbase.GZ.2 j o b q1 q2))⟩ k4
   let ⟨UI,Dd,oY⟩:=I8 UD Ke (λb hb=>⟨by have:=(C.SM b hb).2.1;rw[C.aF];exact this,(C.SM b hb).2.2.1⟩) aeK (by rw[C.aF];exact hlo) (λo ho=>(C.WS o ho).2.1) (λo b hb=>⟨by rw[C.aF];exact hs.lt hb,λhm=>by rw[C.owb o hm]at hb;cases hb⟩) IE C.lo C.fl Uz hh k1 k2 k3 h3 (hmk k0) hp2 k5 k6 k7
   exact⟨UI,z,uS,AR,Dd,λb hb=>by rw[oY];exact hp2.ext.bp b hb⟩
  have leave:∀{OE:Sh}{y:fI S.A (kP OE)}{UI:Gh}{z:L az}{uS:L eU}{AR:L Nat}{P:bV S}{sty:bf S},Er ds OE=W->wN OE bs (cI ds ow bs fr s1).1 (cI ds ow bs fr s1).2 s g w y N0 UI F z uS AR->mP OE bs y (cI ds ow bs fr s1).1 (cI ds ow bs fr s1).2=Z (P,sty)->
    ∃gy,cS gy (bB P) N0 F/\(∀b,UI.bp b->gy.bp b)/\eB s g w {sty with wr:=s1.ob.ju (gq (dL ow s1.aF))++(bs++s1.wr),dr:=ow++s1.dr} gy F/\ej ds fr P (ow++s1.dr) s.aF/\P.n=fr.n:=by
   intro OE y UI z uS AR P sty aeJ k1 k2
   let ⟨gy,k3,k4⟩:=k1.head XR k2
   let ⟨k5,k6,k7⟩:=NS (ex:=[]) (λ_ h=>by cases h) hs Ke C aeJ k4 k3
   exact⟨gy,k3.fr,k3.le.bp,k5,k6,k7⟩
  cases h1 with
  |qW=>
   obtain⟨XW,h2⟩|⟨_,h2⟩:=ah h2
   rotate_left;cases h2;simp[uP]at h2;split at h2
   .rename_i y s3 Lj Pp;obtain⟨R,h2⟩|⟨_,h2⟩:=ah h2
    rotate_left;cases h2;simp only[eM]at R
    let ⟨UI,z,uS,AR,k1,_⟩:=next h5 (λ_ _ h=>h) h4 h6 Pp R.1 R.2.1 R.2.2
    cases h2;obtain⟨y',hy',abB⟩|⟨rfl,hno⟩:=CD
    cases hy';have hIy:Inv N0 F m:=⟨xg h4 h5.rel XW,y,UI,z,uS,AR,abB,k1⟩;refine⟨⟨m,hIy⟩,?_⟩;have:=(hM N0 F ⟨m,hIy⟩).2 m hIy;omega
    grind
   cases h2
  |ext j=>
   obtain⟨hj,h2⟩|⟨_,h2⟩:=ah h2
   rotate_left;cases h2;simp[uP]at h2;split at h2
   .rename_i y s3 Lj Pp;obtain⟨R,h2⟩|⟨_,h2⟩:=ah h2
    rotate_left;cases h2;simp only[eM]at R
    let ⟨UI,z,uS,AR,k1,_⟩:=next h5 (λ_ _ h=>h) h4 h6 Pp R.1 R.2.1 R.2.2
    cases h2;obtain⟨y',hy',abB⟩|⟨rfl,hno⟩:=CD
    cases hy';simp only at u;split at u;cases u;rename_i P sty Ux
    let ⟨gy,l1,_,l2,l3,l4⟩:=leave IE k1 Ux
    rw[eM]at hj;have hjm:j∈v7 (kI b):=by grind
    let ⟨m1,m2,m3,m4⟩:=lN (s:=sty) l2.rel UE (xg h4 h5.rel hj.2) l1
    exact .inr ⟨.ext j,mj sty al P,_,gy,.ext j,yK hjm u,m2.trans l4,m1,l2,fix ⟨λk v B hv=>by rw[m4 k λhm=>B (UD k hm)];exact l3.tm k v B hv,by rw[m3];exact l3.df⟩⟩
   cases h2
  |ret=>
   simp only at h2;split at h2;cases h2;rename_i vs hvs;split at h2;rotate_left;cases h2;rename_i r' fz owr Uv;split at h2;rotate_left;cases h2;rename_i s2' hfz;simp[uP]at h2;split at h2
   .rename_i y s3 Lj Pp;obtain⟨R,h2⟩|⟨_,h2⟩:=ah h2
    rotate_left;cases h2;simp only[eM]at R
    let ⟨aha,De,oX⟩:=JF h4 hvs
    let ⟨p1,p2,p3⟩:=fW hE.sg h5.rel Uv oX
    let ⟨g3,Po,DH,Pv⟩:=ew fz h5.rel (dw hE.sg _ hfz) p1
    have aeQ:owr=[]:=qd (BK rv) Uv
    let ⟨YE,rT,_⟩:=p3 g3 (aE s2') fz Po DH Pv (λo ho=>ho) (λo ho=>by grind)
    let ⟨f1,f2,f3,f4,f5,f6,f7⟩:=eD hfz
    have vS:eB s2 g2 F s2' g3 F:=⟨Po,DH.Hi _,f1,f2,Cm f3.symm,f4,λo _ ho=>f5 o ho,λo ho=>by grind⟩;have hf3:cS g3 (bB Ot) N0 F:=h4.ext DH h5.rel.bp
    let ⟨UI,z,uS,AR,k1,k2⟩:=next (h5.trans vS) DH.bP hf3 (by grind) Pp R.1 R.2.1 R.2.2
    cases h2;obtain⟨y',hy',abB⟩|⟨rfl,hno⟩:=CD
    cases hy';simp only at u;split at u;cases u;rename_i P sty Ux
    let ⟨gy,l1,l0,l2,l3,l4⟩:=leave (pV ds sh) k1 Ux
    let ⟨m1,m2,m3⟩:=vu (g:=gy) (w:=F) (a:=N0) (fr:=P) rT (λb hb=>l0 b (k2 b hb)) De (by omega) l1
    have hdf:∀(rv:Rv)(r:fU S.A (Es rv))(fr:bV S),(xI rv r fr).df=fr.df:=by
     intro rv
     induction rv with|nil=>intro _ _;rfl|cons q rv ih=>intro r fr;let ⟨k,t⟩:=q;exact ih _ _
    refine .inr ⟨.ret,_,_,gy,.ret,u,m2.trans l4,m1,l2,⟨λk v B hv=>?_,by rw[hdf];exact l3.df⟩⟩;rw[m3 k (λhm=>B (kz _ hm))];exact(fix l3).tm k v B hv
   cases h2
  |jJ t v hv=>
   obtain⟨hpn,h2⟩|⟨_,h2⟩:=ah h2
   rotate_left;cases h2;split at h2;rotate_left;cases h2;rename_i r' fz owr Uv;split at h2;rotate_left;cases h2;rename_i s2' hfz;simp[uP]at h2;split at h2;rotate_left;cases h2;rename_i Pp;obtain⟨R,h2⟩|⟨_,h2⟩:=ah h2
   rotate_left;cases h2;simp only[eM]at R;have oX:PW (aH g2 F) (bu [t]) [v]:=⟨rfl,λj t' v' q1 q2=>by
    grind[bu]⟩
   let ⟨p1,p2,p3⟩:=fW hE.sg h5.rel Uv oX
   let ⟨g3,Po,DH,Pv⟩:=ew fz h5.rel (dw hE.sg _ hfz) p1
   have aeQ:owr=[]:=qd (cs:=[.dat S.pt]) rfl Uv
   let ⟨YE,rT,_⟩:=p3 g3 (aE s2') fz Po DH Pv (λo ho=>ho) (λo ho=>by grind)
   let ⟨f1,f2,f3,f4,f5,f6,f7⟩:=eD hfz
   have vS:eB s2 g2 F s2' g3 F:=⟨Po,DH.Hi _,f1,f2,Cm f3.symm,f4,λo _ ho=>f5 o ho,λo ho=>by grind⟩;have hf3:cS g3 (bB Ot) N0 F:=h4.ext DH h5.rel.bp
   let ⟨UI,z,uS,AR,k1,k2⟩:=next (h5.trans vS) DH.bP hf3 (by grind) Pp R.1 R.2.1 R.2.2
   cases h2;obtain⟨y',hy',abB⟩|⟨rfl,hno⟩:=CD
   cases hy'
   .obtain ⟨_,u⟩|⟨_,u⟩:=ah u
    rotate_left;cases u;split at u;cases u;rename_i P sty Ux
    let ⟨gy,l1,l0,l2,l3,l4⟩:=leave (pV ds sh) k1 Ux
    refine .inr ⟨.jJ (.ty S.pt r'.1),P,_,gy,.jJ _ v ?_,u,l4,l1,l2,fix l3⟩;cases rT with|@dat _ _ x h v vs al hd hr=>exact pQ (hd.le λb hb=>l0 b (k2 b hb))
 |exit j=>intro i ω Q r fr s h A hn hlo g a w hf hs;exact wpIn_exit (.inr ⟨_,fr,s,g,.ext j,h,rfl,hf,eB.refl hs,ej.refl _ _ _ _⟩)
 |ret=>intro i ω Q r fr s h A hn hlo g a w hf hs;exact wpIn_ret (.inr ⟨_,fr,s,g,.ret,h,rfl,hf,eB.refl hs,ej.refl _ _ _ _⟩)
 |skip=>intro i ω Q r fr s h A hn hlo g a w hf hs;exact wpIn_skip (.inr ⟨_,fr,s,g,.qW,h,rfl,hf,eB.refl hs,ej.refl _ _ _ _⟩)
 |label j=>intro i ω Q r fr s h A hn hlo g a w hf hs;exact wpIn_label (.inr ⟨_,fr,s,g,.qW,h,rfl,hf,eB.refl hs,ej.refl _ _ _ _⟩)
 |scope b ih=>
  intro i ω Q r fr s h A hn hlo g a w hf hs;have hr0:rr=Y:=by
   grind[On]
  subst hr0;refine wpIn_wide.2 (wp_scope_straight (wp_mono (wpIn_wide.1 (ih i h (λh=>absurd rfl h) hn hlo hf hs)) λe K I hq=>?_));obtain hF|⟨ex,l,s',g',h1,h2⟩:=hq
  exact hF.elim;cases h1 with|qW=>exact .inr ⟨_,l,s',g',.qW,h2⟩|ext j=>exact .inr ⟨_,l,s',g',.ext j,h2⟩|ret=>exact .inr ⟨_,l,s',g',.ret,h2⟩|jJ t v hv=>exact .inr ⟨_,l,s',g',.jJ t v hv,h2⟩
 |rangeFunc gv ps asg body _ _=>
  grind[On,LY]
 |_=>intro i ω Q r fr s h;simp[yV]at h
end
section
def MD:∀t:T,dH (λ_=>J) t=J:=by
 intro t
 induction t using T.rec (motive_2:=λl=>jf (λ_=>J) l=J)with|fn f a b d g=>simp[dH,d,g]|de t v e=>simp[dH,e]|agg i e=>simp[dH,e]|gG i e=>simp[dH,e]|gd c v e=>simp[dH,e]|nil=>rfl|cons a l d h=>simp[jf,d,h]|_=>simp[dH]
theorem tI(b:eZ S){E:fN}(c:Qw S E){s:bf S}{fr:bV S}:∀{l:L ResultVar}{vs:L (V S)},kQ E s fr l=Z vs->∃p,mg E.E (aE s) (bB fr) l=Z (p,bu vs)/\p
 |[],vs,h=>by simp only[kQ,gC]at h;subst h;exact⟨True,rfl,trivial⟩
 |.tmp t::l,vs,h=>by
  simp[kQ]at h;split at h;rename_i x r h1 h2;simp at h
  let ⟨p,e,d⟩:=tI b c h2
  exact⟨p,by grind[mg,bU,bu],d⟩;cases h
 |.cell a t::l,vs,h=>by
  simp[kQ]at h;split at h;rename_i f m;split at h;rename_i g h2;obtain⟨i,h⟩|⟨_,h⟩:=ah h
  simp at h;obtain⟨rfl,q,n,j⟩:=Iv b (λu k=>c.row _ _ _ f k) g i
  let ⟨p,e,d⟩:=tI b c h2
  exact⟨q/\p,by grind[mg,bU,bu],j,d⟩;iterate 3 cases h
theorem W9:∀l:L (V S),low (CZ l)=adV (bu l)
 |[]=>rfl|[_]=>rfl|_::_::_=>rfl
variable {s s' s0:bf S}{g g' g0:Gh}{w w' w0:av}{E:er S}{call:fO S}{m:Nat}{st:aa->List Frame}
def eB.Hi(hs:aY g (aE s) w)(h:eB {s with lo:=s.aF} g w s' g' w'):cO [] s g w {s' with lo:=s.lo} g' w':=by have d:jE g.bp w w':=λb c=>h.ext.heap b (hs.bp b c) (λo _ f=>f.1 c);refine⟨⟨h.rel.aF,h.rel.ai,h.rel.box,h.rel.arr,h.rel.bp,h.rel.jF⟩,⟨λo b e=>h.ext.bP o b e,λo e x _ k=>h.ext.arr o e x (hs.lt' k) k,h.ext.bp,h.ext.size,h.ext.heap,h.ext.own,h.ext.nQ,h.ext.os,h.ext.output⟩,h.fl,rfl,h.aF,h.tw,h.same,λt v i _=>?_,λo a=>(by cases a),h.FT,λo a=>(by cases a)⟩;exact i.on (p:=λ_=>J) ⟨λo b _ e=>h.ext.bP o b e,λo e x _ k=>h.ext.arr o e x (hs.lt' k) k,h.ext.bp⟩ d (MD t)
theorem xN{E:er S}(b:e8 E){g:Gh}{w:av}{fr:bV S}{s:bf S}{a:Act}(hf:cS g (bB fr) a w)(hs:aY g (aE s) w){fn:Func}{l:L (V S)}(h:kQ E.T s fr fn.results.toList=Z l) :
  ∃v,(results fn a.tmps).run E.T.E.P w=.ok v w/\aH g w (low (CZ l)) v:=by
 let ⟨p,e,c⟩:=tI b.sg b.ty h
 let ⟨v,d,f⟩:=LN b.Tn hf hs e c
 grind[W9]
def cO.trans{s s' b:bf S}{g g' c:Gh}{w w' d:av}(h:cO [] s g w s' g' w')(k:cO [] s' g' w' b c d):cO [] s g w b c d where
 rel:=k.rel
 ext:=h.ext.trans (h.fl▸h.lo▸k.ext)
 fl:=k.fl.trans h.fl
 lo:=k.lo.trans h.lo
 aF:=fP h.aF k.aF
 tw:=λo a=>k.tw o (h.tw o a)
 same:=λo f a=>(k.same o (iE f h.aF) a).trans (h.same o f λe=>a (k.tw o e))
 tr:=λt v i e=>k.tr t v (h.tr t v i e) e
 oww:=λo a=>by cases a
 FT:=λo a=>k.FT o (h.FT o a)
 owd:=λo a=>by cases a
def UR(g:Gh)(w:av):O (V S)->FrameMode->Prop
 |none,u=>u=.returning|some t,u=>∃v,u=.panicking [{v,recovered:=J}]/\aH g w (low t) v
structure adp(g:Gh)(s:bf S)(w:av)(pv:Option (V S))(st:aa->List Frame)(vp:az):Prop where
 rel:∀g' s' w',eB s g w s' g' w'->aH g' w' (low (ahe pv)) vp
 rcv:(pv=Y/\recoverD (st J)=Y/\vp=.nilIface)\/(pv.isSome=W/\recoverD (st J)=Z (vp,st W))
def QRV(s:bf S)(g:Gh)(w:av)(m:Nat)(st:aa->L Frame){ω:Type}(Q:aa->uF S->bV S->bf S->O ω)(r:ω)(e:Exit)(a:Act)(cs:L Frame)(w':av):Prop:=
 False\/∃b ex fr' s' g',cs=st b/\HN g' w' ex e/\Q b ex fr' s'=Z r/\fr'.n=m/\cS g' (bB fr') a w'/\eB s g w s' g' w'
theorem Xr{o:Oper}(h:isRec o=W):o.guard=Y/\∃c,o.op=.call c/\c.callee=.builtin .recover:=by
 grind[isRec]
def tE(l:e8 E)(b:gu E.T.E.P call)(d:sn E call)(n:Nat)(j:FuncId)(rv:Rv)(hlo:s0.lo<=s0.aF)(t:m<=bD)(f:aa)
  (c:Code) (i:Nat) {ω:Type} {Q:aa->uF S->bV S->bf S->O ω} {r:ω} {fr:bV S} {s:bf S} (h:yV E call n j rv c i (Q f) fr s=Z r) (hn:fr.n=m) {g:Gh} {a:Act} {w:av} (hs:eB s0 g0 w0 s g w) (hf:cS g (bB fr) a w) :
  c.wpS E.T.E.P (QRV s0 g0 w0 m st Q r) a (st f) w:=by
 refine wpS_of_wp (wp_mono (wpIn_wide.1 (pI (rr:=Y) l b d n j rv c i h (λh=>absurd rfl h) (by omega) ?_ hf hs.rel)) λe u w' o=>?_);have:=hs.aF;rw[hs.lo];omega;obtain p|⟨q,k,s',g',h1,h2,h3,h4,h5,h6⟩:=o
 exact p.elim;exact .inr ⟨f,q,k,s',g',rfl,h1,h2,h3.trans hn,h4,hs.trans h5⟩
def UO(hE:e8 E)(f:gu E.T.E.P call)(p:sn E call)(n:Nat)(pv:O (V S))(A:FuncId)(rv:Rv)(hlo:s0.lo<=s0.aF)(hm:m<=bD){vp:az}
  (K:adp g0 s0 w0 pv st vp):∀(c:Code)(i:Nat){ω:Type}{Q:aa->uF S->bV S->bf S->O ω}{r:ω}{fr:bV S}{s:bf S},evR E call n pv A rv c i Q fr s=Z r->fr.n=m->
  ∀{g:Gh}{a:Act}{w:av},eB s0 g0 w0 s g w->cS g (bB fr) a w->c.wpS E.T.E.P (QRV s0 g0 w0 m st Q r) a (st J) w:=by
 intro c
 induction c with
 |seq x y ihx ihy=>
  intro i ω Q r fr s h hn g a w B hf;refine wpS_seq λb k hb hr=>?_
  let ⟨e,a',cs',w',hq,z⟩:=ihx i h hn B hf b k hb hr
  refine⟨e,a',cs',w',?_,z⟩;obtain hF|⟨d,ex,u,s',g',h0,h1,h2,h3,h4,h5⟩:=hq
  exact hF.elim;cases h1 with|qW=>subst h0;exact tE hE f p n A rv hlo hm d y i h2 h3 h5 h4|ext j=>exact .inr ⟨d,_,u,s',g',h0,.ext j,h2,h3,h4,h5⟩|ret=>exact .inr ⟨d,_,u,s',g',h0,.ret,h2,h3,h4,h5⟩|jJ t v hv=>exact .inr ⟨d,_,u,s',g',h0,.jJ t v hv,h2,h3,h4,h5⟩
 |region id q draw=>
  intro i ω Q r fr s h hn g a w B hf;cases draw with
  |true=>exact tE hE f p n A rv hlo hm J _ i h hn B hf|false=>
   simp[evR]at h;split at h;rotate_left;cases h;rename_i o l C;obtain⟨hr,h2⟩|⟨_,h2⟩:=ah h
   rotate_left;exact tE hE f p n A rv hlo hm J _ i h2 hn B hf;obtain⟨hd,h3⟩|⟨_,h3⟩:=ah h2
   rotate_left;cases h3
   let ⟨hg,c,hop,Kf⟩:=Xr hr
   rw[<-C]at h3;have ho:q[0]?=Z o:=by have:=lq (λl=>l[0]?) C;simpa using this
   have hsz:q.size=l.length+1:=by have:=lq List.length C;simpa using this
   have hw:Region.wanted o (yielded q a.tmps)=W:=by simp[Region.wanted,hg]
   have R:(execOp a.eval o).run E.T.E.P w=.ok .recover w:=by simp[execOp,hop,resolve,Kf,run_bind,run_pure,andThen_ok,invoke];simp[builtin]
   have rT:=K.rel _ _ _ B
   let ⟨k1,k2⟩:=tP hf hd (by omega) rT
   have key:∃d,d=pv.isSome/\recoverD (st J)=(if d then Z (vp,st W)else Y)/\(d=J->vp=.nilIface):=by
    obtain⟨e1,e2,e3⟩|⟨e1,e2⟩:=K.rcv
    exact⟨J,by rw[e1];rfl,by simpa using e2,λ_=>e3⟩;exact⟨W,e1.symm,by simpa using e2,λh=>by cases h⟩
   let ⟨d,aok,hrd,Pu⟩:=key
   rw[<-aok]at h3;have hwp:wG Y E.T.E.P q (λe a' w'=>QRV s0 g0 w0 m st Q r e a' (st d) w') (List.range' 1 l.length) (a.put o.dst vp) w:=by
    refine CH hE f (rr:=Y) (λh=>absurd rfl h) l 1 (by rw[C];rfl) (by rw[k2];omega) h3 k1 B.rel (λu s' g' a' w' q1 q2 q3 q4 _=>.inr ⟨d,.qW,u,s',g',rfl,.qW,q1,by omega,q3,B.trans q4⟩)
     (λu t s' g' a' v w' q1 q2 q3 q4 _ q5=>.inr ⟨d,.jJ t,u,s',g',rfl,.jJ t v q5,q1,by omega,q3,B.trans q4⟩)
   intro b k hb hro;have F:List.range q.size=0::List.range' 1 l.length:=by rw[List.range_eq_range',hsz,List.range'_succ]
   have hgo:=stepG_op (P:=E.T.E.P) (b:=b) (k:=k) (cs:=st J) (w:=w) (rest:=List.range' 1 l.length) ho hw;have ao7:∀v,(b.at a (.inRegion q (0::List.range' 1 l.length)::k)).finish v=b.at (a.put o.dst v) (.inRegion q (List.range' 1 l.length)::k):=by intro v;rw[Frame.finish_at,ho];rfl
   have hk:(b.at a (.inRegion q (0::List.range' 1 l.length)::k)).kind=.deferred:=hb;have I:=tryRecover_deferred hk (st J)
   let ⟨e,a',w',hq,ajv⟩:=m6 _ _ _ hwp b k (st d) hro
   have z:=(arrivesIn_iff (λ_ _=>stepsIn_wide) hro).1 ajv;rw[Frame.atR_of_none hro]at z;refine⟨e,a',st d,w',hq,.of_steps (.one step_region) ?_⟩;rw[F];refine .of_steps (.one (step_lone_go ?_)) z;rw[hgo,<-ao7];simp[Frame.at]at I ⊢;rw[hrd]at I;cases d with|true=>simp[stepG.apply,R,I]|false=>have:=Pu rfl;subst this;simp[stepG.apply,R,I]
 |_=>intro i ω Q r fr s h hn g a w B hf;exact tE hE f p n A rv hlo hm J _ i h hn B hf
def VJ:FrameMode->az
 |.panicking (p::_)=>p.v|_=>.nilIface
def adT:FrameMode->FrameMode
 |.panicking (p::_)=>.panicking [{v:=p.v,recovered:=W}]|m=>m
theorem Nm{E:er S}(hE:e8 E){call:fO S}(Q:gu E.T.E.P call)(R:sn E call)(n:Nat){q:O (V S)}{d:so S}{s:bf S}{ω:Type}{k:aa->bf S->O ω}{r:ω}(h:Sv E call n q d s k=Z r)
  {g:Gh} {w:av} (hs:aY g (aE s) w) {e:Deferred} (hd:wL g w (lU d) e) {u:FrameMode} (l:UR g w q u) :
  u≠.run/\((∃b w',e.target=.collected b/\(Instr.takeDeferred b).run E.T.E.P w=.ok [] w'/\∃s',k J s'=Z r/\UR g w' q u/\cO [] s g w s' g w')\/∃fv cap f args,e.target=.fn fv cap/\(invoke e.target e.args).run E.T.E.P w=.ok (.enter f args) w/\CallsD E.T.E.P f args u w λ
   |.returned _,I,w'=>∃a s' g',k a s'=Z r/\UR g' w' (bif a then Y else q) (settle I)/\cO [] s g w s' g' w'|.panicked _,_,_=>False|.outgrown,_,_=>False):=by
 have hrun:u≠.run:=by cases q with|none=>rw[show u=.returning from l];simp|some t=>obtain⟨v,rfl,_⟩:=l;simp
 refine⟨hrun,?_⟩;unfold Sv at h;split at h;rotate_left
 .rename_i o
  left
  cases hd with
  |mark _ b hb=>
  split at h;rotate_left;cases h;rename_i ho;obtain⟨hfl,h2⟩|⟨_,h2⟩:=ah h
  rotate_left;cases h2;rw[eM]at hfl;have ho':(aE s).ob.get o=Z .zm:=by rw[aK,ho];rfl
  let ⟨x,hx,hr⟩:=(hs.box o b hb).2.2 _ ho'
  cases hr with
  |zm=>
  let ⟨h3,he⟩:=hs.al3 (w':=w.putObj b (.deferred Y)) hb ho' rfl (gH hfl.1) World.putObj_size (λb' hb'=>World.putObj_heap_other hb') rfl rfl
  have hlt:o<bD:=gH hfl.2;have K:o+1<2 ^ aO:=by grind[aO,bD]
  have p:cO [] s g w {s with ob:=s.ob.del aO o,wr:=o::s.wr} g (w.putObj b (.deferred Y)):=by
   refine cO.kA hs (h3.X0 rfl λk=>?_) he rfl rfl (cM _) ⟨λ_ h=>hJ _ h,λk _ hk=>?_,rfl⟩;show(Tr.map cX (s.ob.del aO o)).get k=((aE s).ob.del aO o).get k;rw[Tr.get_map,Tr.qZ _ _ _ _ K,Tr.qZ _ _ _ _ K,aK];split<;>rfl
   simp_all[Tr.qZ]
  refine⟨b,_,rfl,run_takeDeferred hx,_,h2,?_,p⟩;cases q with
  |none=>exact l|some t=>
   let ⟨v,l,ht⟩:=l
   exact⟨v,l,p.tr _ _ ht (lP _)⟩
 cases hd;cases h
 right
 split at h;cases h;rename_i z Kf;split at h;cases h;rename_i fn hfn;split at h;cases h;rename_i c hc;obtain⟨hb,h2⟩|⟨_,h2⟩:=ah h
 rotate_left;cases h2;clear h;rw[yH]at hb;have i:=ry Kf;unfold xd at i;split at i;rotate_left;cases i;rename_i f' first cap MU
 simp only[gC,fc]at i;obtain⟨rfl,F⟩:=i;cases hd with
 |call _ _ fvn xa xc A h3 h4 h5=>
 rw[MU]at h3;cases h3 with
 |fn _ _ _ _ _ l1 l2 r1 r2=>
 have hfs:=hE.Tn.Sp _ _ hfn;have M0:lH E.T.E.P f':=⟨fn,hfs,by rw[hc];rfl,hE.name _ _ hfn⟩;refine⟨_,_,f',xa++A++xc,rfl,?_,?_⟩
 grind[invoke,wT]
 have oX:PW (aH g w) (bu z) (xa++A++xc).toList:=by rw[<-F];simp only[TN];exact PW.append (PW.append ⟨by simpa using l1,λj x y h1 h2=>r1 j x y h1 (by simpa using h2)⟩ ⟨by simpa using h4,λj x y h1 h2=>h5 j x y h1 (by simpa using h2)⟩) ⟨by simpa using l2,λj x y h1 h2=>r2 j x y h1 (by simpa using h2)⟩
 have Dd:z.length<=fn.ntmps:=by have:=gH hb.1;rwa [bS]at this
 have oY:fn.ntmps<bD:=gH hb.2;have Uy:=sR (n:=fn.ntmps) oY Dd oX;have hs0:aY g (aE {s with lo:=s.aF}) w:=⟨hs.aF,hs.ai,hs.box,hs.arr,hs.bp,hs.jF⟩;refine callsD_of_wpS hfs hc λc₀ cs hcu=>?_
 let st:aa->L Frame:=λa=>(if a then{c₀ with mode:=adT u}else{c₀ with mode:=u})::cs
 have aob:st J=c₀::cs:=by show{c₀ with mode:=u}::cs=c₀::cs;rw[<-hcu]
 have aol:adp g {s with lo:=s.aF} w q st (VJ u):=by
  cases q with
  |none=>
   have l:u=.returning:=l;refine⟨λg' s' w' _=>?_,.inl ⟨rfl,?_,?_⟩⟩;simp[VJ,l];exact .sym _ _ (.lit _)
   grind[recoverD]
   simp[VJ,l]
  |some t=>
   let ⟨v,l,ht⟩:=l
   refine⟨λg' s' w' p=>?_,.inr ⟨rfl,?_⟩⟩;simp[VJ,l];exact(eB.Hi hs p).tr _ _ ht (lP _)
   grind[recoverD,VJ,adT]
 have hw:=UO hE Q R n q f' _ (s0:={s with lo:=s.aF}) (g0:=g) (w0:=w) (cM _) (m:=fn.ntmps) (Ic oY) (st:=st) aol c 0 h2 rfl (eB.refl hs0) Uy;rw[aob]at hw;intro b kk hb' hro
 let ⟨e,a',cs',w',hq,Kg⟩:=hw b kk hb' hro
 refine⟨e,a',cs',w',?_,Kg⟩;obtain hF|⟨a,ex,fr',s',g',k0,k1,C,k3,k4,k5⟩:=hq
 exact hF.elim;have p:=eB.Hi hs k5;dsimp only at C;split at C;rotate_left;cases C;rename_i hdf;have P:a'.defers=[]:=by have:=k4.df;rw[show(bB fr').df=[]from by simp[bB,hdf,List.map_nil]]at this;generalize a'.defers=m at this;cases this;rfl
 have u7:∃I,cs'={c₀ with mode:=I}::cs/\UR g' w' (bif a then Y else q) (settle I):=by
  cases a with
  |false=>
   refine⟨u,k0,?_⟩;cases q with
   |none=>rw[l];rfl|some t=>
    let ⟨v,l,ht⟩:=l
    rw[l];exact⟨v,rfl,p.tr _ _ ht (lP _)⟩
  |true=>
   refine⟨adT u,k0,?_⟩;cases q with
   |none=>rw[l];rfl|some t=>
    let ⟨v,l,ht⟩:=l
    rw[l];rfl
 let ⟨I,hcs,hur⟩:=u7
 have fin:(match kQ E.T s' fr' fn.results.toList with|some _=>k a {s' with lo:=s.lo}|none=>Y)=Z r->∃v,(results fn a'.tmps).run E.T.E.P w'=.ok v w'/\
   ∃a s' g',k a s'=Z r/\UR g' w' (bif a then Y else q) (settle I)/\cO [] s g w s' g' w':=by
  intro C;split at C;rotate_left;cases C;rename_i hr
  let ⟨v,hv,_⟩:=xN hE k4 k5.rel hr
  grind
 cases k1 with
 |qW=>
  let ⟨v,hv,h⟩:=fin C
  exact⟨P,I,hcs,v,hv,h⟩
 |ret=>
  let ⟨v,hv,h⟩:=fin C
  exact⟨P,I,hcs,v,hv,h⟩
 |ext j=>cases C
 |jJ t v hv=>cases C
theorem Cw{P:cP}{fn:Func}{tmps:Array az}{R:Ending->av->Prop}{ds:L Deferred}{u:FrameMode}(q:u≠.run){s:bf S}{g:Gh}{o:Nat}(f:s.fl<=o)(i:s.ob.get o=Y) :
  ∀(bs:L Nat)(w:av),aY g (aE s) w->bs.Nodup->(∀b∈bs,bx g o b/\w.heap[b]?=Z (.deferred (Z [])))->(∀w',cO [] s g w s g w'->mF P fn tmps R ds u w')->
   mF P fn tmps R (bs.map (λb=>{target:=.collected b,args:=#[]})++ds) u w
 |[],w,d,_,_,m=>m w (cO.refl d)|b::bs,w,d,n,r,m=>by
  let ⟨l,t⟩:=r b fQ
  have j:aY g (aE s) (w.putObj b (.deferred Y)):=by
   have:=d.step (I:=g.bp) (X:=λc=>c=b) (w':=w.putObj b (.deferred Y)) (λ_ h=>h) (λ_ h=>.inl h) (λc a=>by rw[World.putObj_size];exact d.bp c a) (by simp_all)
    (λc _ a=>World.putObj_heap_other a) (λv c a p=>by
     subst a;have:=d.jF v o c p l;subst this;exact⟨by rw[aK,i];rfl,l.1⟩) (λc a=>by subst a;exact l.1)
   exact this
  have x:Ext s.fl g w g (w.putObj b (.deferred Y)):=
   ⟨λ_ _ h=>h,λ_ _ _ h=>h,λ_ h=>h,by simp_all,λc _ n=>World.putObj_heap_other (λe=>n o f (e▸l)),λ_ _ h=>.inl h,λ_ h=>.inl h,rfl,rfl⟩
  have k:cO [] s g w s g (w.putObj b (.deferred Y)):=cO.kA d j x rfl rfl (cM _) ⟨λ_ h=>h,λ_ _ _=>rfl,rfl⟩;refine⟨q,.inl ⟨b,_,rfl,run_takeDeferred t,Cw q f i bs _ j (JL.1 n).2 (λc a=>⟨(r c (hJ _ a)).1,?_⟩) λw' h=>m w' (k.trans h)⟩⟩
  grind[World.putObj_heap_other]
theorem Nk{E:er S}(hE:e8 E){call:fO S}(z:gu E.T.E.P call)(A:sn E call)(n:Nat){fn:Func}{tmps:Array az}{R:Ending->av->Prop}{ω:Type}{k:O (V S)->bf S->O ω}{r:ω}{s0:bf S}{g0:Gh}{w0:av}
  (hk:∀m s' g' w' u,k m s'=Z r->UR g' w' m u->cO [] s0 g0 w0 s' g' w'->mF E.T.E.P fn tmps R [] u w'):∀(l:L (so S))(m:O (V S))(s:bf S),FJ E call n l m s k=Z r->
  ∀(g:Gh)(w:av)(ds:L Deferred)(u:FrameMode),eH g w (l.map lU) ds->UR g w m u->cO [] s0 g0 w0 s g w->mF E.T.E.P fn tmps R ds u w:=by
 intro l
 induction l with
 |nil=>intro m s h g w ds u B p a;cases B;exact hk m s g w u h p a
 |cons d l ih=>
  intro m s h g w ds u B p a;simp at B;generalize C:lU d=x at B;cases B with
  |jZ xs i=>
   cases d with
   |jZ=>cases h
   |_=>cases C
  |marks o bs hn hbs i=>
   cases d with
   |marks o'=>
    cases C;simp only[FJ,Sv]at h;split at h;rotate_left;cases h;rename_i ho;obtain⟨F,h2⟩|⟨_,h2⟩:=ah h
    rotate_left;cases h2;rw[eM]at F;have hlt:o<bD:=gH F.2;have hlt':o+1<2 ^ aO:=by grind[aO,bD]
    have q:=a.rel;have ho':(aE s).ob.get o=Z .E5:=by rw[aK,ho];rfl
    have hown:∀b∈bs,bx g o b/\w.heap[b]?=Z (.deferred (Z [])):=λb I=>by
     let ⟨n,c,hr⟩:=hbs b I
     cases hr with
     |sh _ _ _ _ sz _ C=>
     obtain⟨fz,_,_,h,_⟩|⟨_,_,_,_,_,_,h,_⟩|⟨_,_,_,h,_⟩|h|⟨_,h1,h2,h3,h4⟩:=(q.arr o b _ C).2 _ ho'
     cases fz<;>cases h;cases h;cases h;cases h;exact⟨⟨h3,.inr ⟨b,_,_,C,h1,rfl,h2⟩⟩,h4⟩
    have hgD:∀k,(s.ob.del aO o).get k=if k=o then Y else s.ob.get k:=λk=>Tr.qZ _ _ _ _ hlt'
    have hsD:aY g (aE {s with ob:=s.ob.del aO o,wr:=o::s.wr}) w:=by
     have y:∀k ob,(aE {s with ob:=s.ob.del aO o,wr:=o::s.wr}).ob.get k=Z ob->(aE s).ob.get k=Z ob:=by
      grind[aK]
     refine⟨q.aF,q.ai,λk b h=>?_,λk e x h=>?_,q.bp,q.jF⟩
     let ⟨K,P,j⟩:=q.box k b h
     exact⟨K,P,λob Q=>j ob (y k ob Q)⟩
     let ⟨K,P⟩:=q.arr k e x h
     exact⟨K,λob Q=>P ob (y k ob Q)⟩
    have haD:cO [] s g w {s with ob:=s.ob.del aO o,wr:=o::s.wr} g w:=
     cO.kA q hsD (Ext.refl _ _ _) rfl rfl (cM _) ⟨λ_ h=>hJ _ h,λk _ hk=>(hgD k).trans (cm λe=>hk (by simp_all)),rfl⟩
    have hrun:u≠.run:=by cases m with|none=>rw[show u=.returning from p];simp|some t=>obtain⟨v,rfl,_⟩:=p;simp
    refine Cw hrun (s:={s with ob:=s.ob.del aO o,wr:=o::s.wr}) (g:=g) (o:=o) (gH F.1) ((hgD o).trans (bO rfl)) bs w hsD hn hown λw' j=>?_;have k4:=haD.trans j;refine ih _ _ h2 g w' _ u (i.imp (λt v i=>k4.tr t v i (lP _)) λo b I=>k4.ext.bP o b I) ?_ (a.trans k4);cases m with
    |none=>exact p|some t=>
     let ⟨v,p,i⟩:=p
     exact⟨v,p,k4.tr _ _ i (lP _)⟩
   |_=>cases C
  | @cons _ e _ ds B i=>
  subst C
  let ⟨h1,h⟩:=Nm hE z A n h a.rel B p
  obtain⟨b,w',h2,h3,s',K,P,j⟩|⟨fv,cap,f,args,h2,h3,h4⟩:=h
  exact⟨h1,.inl ⟨b,w',h2,h3,ih _ s' K g w' ds u (i.imp (λt v i=>j.tr t v i (lP _)) λo b I=>j.ext.bP o b I) P (a.trans j)⟩⟩;refine⟨h1,.inr ⟨fv,cap,f,args,h2,h3,h4.mono λe u' w' he=>?_⟩⟩;cases e with
  |returned v=>
   let ⟨rec,s',g',K,P,j⟩:=he
   refine ih _ s' K g' w' ds (settle u') (i.imp (λt v i=>j.tr t v i (lP _)) λo b I=>j.ext.bP o b I) P (a.trans j)
  |panicked ch=>exact he.elim|outgrown=>exact he.elim
def vY(x:e8 E)(c:gu E.T.E.P call)(d:sn E call)(n:Nat){fn:Func}{R:Ending->av->Prop}{ω:Type}{k kp:V S->bf S->O ω}{r:ω}{ex:uF S}{fr:bV S}
  (h:Su E call n fn.results.toList k kp ex fr s=Z r) {g:Gh} {w:av} {e:Exit} {a:Act} (y:HN g w ex e) (hf:cS g (bB fr) a w) (hs:aY g (aE s) w)
  (z:∀t s' g' v w',k t s'=Z r->aH g' w' (low t) v->cO [] s g w s' g' w'->R (.returned v) w')
  (m:∀t s' g' v w',kp t s'=Z r->aH g' w' (low t) v->cO [] s g w s' g' w'->R (.panicked [{v,recovered:=J}]) w'):adm E.T.E.P fn R e a w:=by
 have f:∀(j:O (V S))(u:FrameMode),FJ E call n fr.df j s (Nj E.T fn.results.toList fr k kp)=Z r->UR g w j u->mF E.T.E.P fn a.tmps R a.defers u w:=by
  intro j u h l;refine Nk x c d n (s0:=s) (g0:=g) (w0:=w) (λj s' g' w' u h l b=>?_) fr.df j s h g w a.defers u hf.df l (cO.refl hs);have o:cS g' (bB fr) a w':=nB (ow:=[]) hf b;cases j with
  |none=>
   subst l;simp[Nj]at h;split at h;rotate_left;cases h;rename_i A
   let ⟨v,p,q⟩:=xN x o b.rel A
   exact⟨v,p,z _ _ g' v w' h q b⟩
  |some t=>
   let ⟨v,l,q⟩:=l
   subst l;exact m t s' g' v w' h q b
 cases y with
 |qW=>exact f Y .returning h rfl|ret=>exact f Y .returning h rfl|ext i=>cases h
 |jJ t v p=>exact f (Z t) _ h ⟨v,rfl,p⟩
end
section
def Cc{g:Gh}{w:av}{n:Nat}(hn:n<=bD):∀(ps:L Nat)(args:L (V S))(vs:L az)(tm:Tr (V S))(tmps:Array az),(∀k∈ps,k<n)->PW (aH g w) (bu args) vs->cS g (bB {n:=n,tm:=tm}) {tmps:=tmps,defers:=[]} w->
  cS g (bB {n:=n,tm:=OF ps args tm}) {tmps:=(ps.zip vs).foldl (λt p=>t.setIfInBounds p.1 p.2) tmps,defers:=[]} w
 |[],_,_,_,_,_,_,h=>h|_::_,[],[],_,_,_,_,h=>h|_::_,[],_::_,_,_,_,b,_=>by have:=b.1;simp[bu]at this
 |_::_,_::_,[],_,_,_,b,_=>by have:=b.1;simp[bu]at this
 |k::ps,a::args,v::vs,tm,tmps,d,b,h=>by have e:aH g w (low a) v:=b.2 0 _ _ rfl rfl;have c:PW (aH g w) (bu args) vs:=⟨by have:=b.1;simpa[bu]using this,λj t u h1 h2=>b.2 (j+1) t u (by simpa[bu]using h1) (by simpa using h2)⟩;have f:=tP (dst:=Z k) (fr:={n:=n,tm:=tm}) h (by simp_all[gw,Me,fQ]) hn e;exact Cc hn ps args vs _ _ (λj i=>d j (hJ _ i)) c f.1
def Tf(ps:Array Tmp)(vs:Array az)(tmps:Array az):(ps.zip vs).foldl (λtmps(t,a)=>tmps.setIfInBounds t a) tmps=(ps.toList.zip vs.toList).foldl (λt p=>t.setIfInBounds p.1 p.2) tmps:=by rw[<-Array.foldl_toList,Array.toList_zip]
variable {g:Gh}{w:av}
def HN.jump{ex:uF S}{e:Exit}(h:HN g w ex e){j:O Code}(a:ac3 ex=Z j):ac2 e=Z j:=by cases h<;>first|exact a|cases a
theorem zL{E:er S}(hE:e8 E){call:fO S}(B:gu E.T.E.P call)(C:sn E call)(n:Nat){o:Nat}{args:L (V S)}{s:bf S}{ω:Type}{k kp:V S->bf S->O ω}{r:ω}
  (h:JG E call n o args s k=Z r) {g:Gh} {w:av} {vs:Array az} {b:Nat} (hs:aY g (aE s) w) (oX:PW (aH g w) (bu args) vs.toList) (hb:g.bP o=Z b) :
  ∃l:Loop,w.heap[b]?=Z (.loop l)/\vs.size=l.params.size/\∀rr n,RoundIn (WR rr) n E.T.E.P b l.fn ((l.params.zip vs).foldl (λtmps(t,a)=>tmps.setIfInBounds t a) l.tmps) l.assign l.body w (xl s g w k kp r):=by
 unfold JG at h;split at h;rotate_left;cases h;rename_i l ho;obtain⟨hc,h1⟩|⟨_,h1⟩:=ah h
 rotate_left;cases h1;clear h;simp only[eM,j5]at hc;obtain⟨hrd,hlen,hpar,P,hra,hrb,hfl,Q⟩:=hc;have Q:s.lo<=s.aF:=gH Q;obtain⟨hst,hpe⟩:=EC hrd;have hfl:s.fl<=o:=gH hfl;have P:l.fr.n<=bD:=gH P;have ho0:(aE s).ob.get o=Z (.lp (sO l)):=by rw[aK,ho];rfl
 obtain⟨x,hx,hr⟩:=(hs.box o b hb).2.2 _ ho0;cases hr with
 |lp _ d q1 q2 q4 q5 q6 q8 q9=>
 have hsz:vs.size=d.params.size:=by
  have h1:=beq_iff'.1 hlen;rw[bS,bS]at h1;have h2:=oX.1;rw[eF]at h2;have h3:d.params.toList.length=l.params.length:=by rw[q4];rfl
  grind
 refine⟨d,hx,hsz,λrr n'=>?_⟩;have Uy:cS g (bB {n:=l.fr.n,tm:=l.fr.tm}) {tmps:=d.tmps,defers:=[]} w:=⟨q8,.nil,q9⟩;have hf1:=Cc P l.params args vs.toList l.fr.tm d.tmps (λk hk=>gH (hpar k hk)) oX Uy;rw[Tf,q4];have q5:d.assign=l.assign:=q5;have q6:d.body=l.body:=q6;rw[q5,q6];refine ad2 ?_;refine wpIn_mono (pI (rr:=Z b) hE B C n l.fid [] l.assign 0 h1 (λ_=>hra) P Q hf1 hs) λe a' w1 hq=>?_;obtain hF|⟨ex,sU,p,g1,p1,p2,p3,p4,i,_⟩:=hq
 exact hF.elim;cases p1 with
 |ext j=>cases p2
 |ret=>cases p2
 |jJ t v hv=>cases p2
 |qW=>
 simp only[acO]at p2;split at p2;rotate_left;cases p2;rename_i l1 Sn;obtain⟨aom,p2'⟩|⟨_,p2'⟩:=ah p2
 rotate_left;cases p2';clear p2;obtain⟨aeI,hpe1⟩:=EC aom;have R:=i.ext.bP _ _ hb;have aiS:(aE p).ob.get o=Z (.lp (sO l1)):=by rw[aK,Sn];rfl
 obtain⟨x1,hx1,hr1⟩:=(i.rel.box o b R).2.2 _ aiS;cases hr1 with
 |lp _ L1 a1 a2 a4 a5 a6 a8 a9=>
 have Px:p.fl<=o:=by rw[i.fl];exact hfl
 obtain⟨Ll,UA⟩:=i.rel.setObj (w':=w1.putObj b (.loop {L1 with state:=.busy})) R aiS rfl Px (x':=.loop {L1 with state:=.busy}) (ZY:=.lp (sO {l1 with st:=.busy})) (.lp _ _ rfl a2 a4 a5 a6 a8 a9)
  World.putObj_size (λb' hb'=>World.putObj_heap_other hb') (World.putObj_heap_same (i.rel.box o b R).2.1) rfl rfl
 have ai0:aE {p with ob:=p.ob.set aO o (.lp {l1 with st:=.busy})}={aE p with ob:=(aE p).ob.set aO o (cX (.lp {l1 with st:=.busy}))}:=eu p _ _ p.wr;have aod:aY g1 (aE {p with ob:=p.ob.set aO o (.lp {l1 with st:=.busy})}) (w1.putObj b (.loop {L1 with state:=.busy})):=by rw[ai0];exact Ll
 refine⟨_,run_beginRound hx1 (by rw[a1];exact aeI),?_⟩;have aoS:p.lo<=p.aF:=by rw[i.lo];exact fP Q i.aF
 refine wpIn_mono (pI (rr:=Z b) hE B C n l.fid [] l.body 0 p2' (λ_=>hrb) (by grind) aoS (p4.ext UA i.rel.bp) aod) λe a2 w2 hq=>?_;obtain hF|⟨ex,Ot,m,g2,c1,c2,c3,c4,y,_⟩:=hq
 exact hF.elim;have aiR:o<bD:=iE (hs.lt hb) hs.aF;have XO:m.fl<=o:=by rw[y.fl];exact Px
 have oY:=y.ext.bP _ _ R;have fin:∀(A l3:LpV S)(L2 L3:Loop)(wr:L Nat),m.ob.get o=Z (.lp A)->w2.heap[b]?=Z (.loop L2)->gM g2 w2 (.lp (sO l3)) (.loop L3)->(∀j∈m.wr,j∈wr)->(l3={A with st:=.ready,u0:=Y}\/o∈wr)->
   eB s g w {m with ob:=m.ob.set aO o (.lp l3),wr:=wr} g2 (w2.putObj b (.loop L3)):=by
  intro A l3 L2 L3 wr q z hr3 hw hl3;have u:(aE m).ob.get o=Z (.lp (sO A)):=by rw[aK,q];rfl
  obtain⟨Po,DH⟩:=y.rel.setObj (w':=w2.putObj b (.loop L3)) oY u rfl XO (x':=.loop L3) (ZY:=.lp (sO l3)) hr3
   World.putObj_size (λb' hb'=>World.putObj_heap_other hb') (World.putObj_heap_same (y.rel.box o b oY).2.1) rfl rfl
  have aiZ:aE {m with ob:=m.ob.set aO o (.lp l3),wr:=wr}={aE m with ob:=(aE m).ob.set aO o (cX (.lp l3))}:=eu m _ _ wr;have e1:n8 s.lo s.fl g1 w1 g1 (w1.putObj b (.loop {L1 with state:=.busy})):=by have:=UA.Hi s.lo;rw[show(aE p).fl=s.fl from i.fl]at this;exact this
  have e2:n8 s.lo s.fl g1 (w1.putObj b (.loop {L1 with state:=.busy})) g2 w2:=by have:=y.ext;rw[show p.lo=s.lo from i.lo,show p.fl=s.fl from i.fl]at this;exact this
  have e3:n8 s.lo s.fl g2 w2 g2 (w2.putObj b (.loop L3)):=by have:=DH.Hi s.lo;rw[show(aE m).fl=s.fl from y.fl.trans i.fl]at this;exact this
  refine⟨by rw[aiZ];exact Po,((i.ext.trans e1).trans e2).trans e3,y.fl.trans i.fl,y.lo.trans i.lo,fP i.aF y.aF,λj K=>hw j (y.tw j (i.tw j K)),λj K hno=>?_,λj K=>y.FT j (i.FT j K)⟩;have aiV:j∉m.wr:=λhm=>hno (hw j hm);have aoG:j∉p.wr:=λhm=>aiV (y.tw j hm);have k1:=i.same j K aoG;have k2:=y.same j (iE K i.aF) aiV;show(m.ob.set aO o _).get j=s.ob.get j;rw[Tr.aV _ _ _ _ aiR];have F:m.ob.get j=(p.ob.set aO o (.lp {l1 with st:=.busy})).get j:=k2;rw[Tr.aV _ _ _ _ aiR]at F;by_cases e:j=o
  .subst e;obtain rfl|hl3:=hl3
   rotate_left;exact absurd hl3 hno;rw[bO rfl]at F ⊢;rw[q]at F;rw[Sn]at k1;have k1:Z (uz.lp l1)=s.ob.get j:=k1;rw[ho]at k1;simp only[gC,uz.lp.injEq]at k1 F;subst k1;subst F;rw[ho];obtain⟨st,pe,fid,fr,par,asg,bd⟩:=l1
   grind
  simp_all
 unfold acP at c2;split at c2
 .rename_i A q K;have u:(aE m).ob.get o=Z (.lp (sO A)):=by rw[aK,q];rfl
  obtain⟨x2,z,hr2⟩:=(y.rel.box o b oY).2.2 _ u;cases hr2 with
  |lp _ L2 d1 d2 d4 d5 d6 d8 d9=>
  have I:=fin A {A with st:=.ready,u0:=Y} L2 {L2 with state:=.ready,pending:=Y} m.wr q z (.lp _ _ rfl rfl d4 d5 d6 d8 d9) (λ_ h=>h) (.inl rfl);exact .inr ⟨Y,c1.jump K,.bool W,_,run_endRound Y z,.kb W,_,g2,c2,.kb W,I⟩
 .rename_i A c q K;have u:(aE m).ob.get o=Z (.lp (sO A)):=by rw[aK,q];rfl
  obtain⟨x2,z,hr2⟩:=(y.rel.box o b oY).2.2 _ u;cases hr2 with
  |lp _ L2 d1 d2 d4 d5 d6 d8 d9=>
  have I:=fin A {A with st:=.done,u0:=Z c} L2 {L2 with state:=.done,pending:=Z c} (o::m.wr) q z (.lp _ _ rfl rfl d4 d5 d6 d8 d9) (λ_ h=>hJ _ h) (.inr fQ);exact .inr ⟨Z c,c1.jump K,.bool J,_,run_endRound (Z c) z,.kb J,_,g2,c2,.kb J,I⟩
 cases c2
def NK{E:er S}(C:e8 E)(a:∀call:fO S,gu E.T.E.P call->sn E call)(n:Nat):∀d,gu E.T.E.P (uO E n d):=by
 intro d
 induction d with
 |zero=>exact⟨λf args s ω k kp r h=>(by cases h),λf args s ω k kp r h=>(by cases h),λo args s ω k kp r h=>(by cases h),λo args s ω k kp r h=>(by cases h)⟩
 |succ d u=>
  refine⟨λf args s ω k kp r h g w vs j m=>?_,λf args s ω k kp r h g w vs j m=>?_,λo args s ω k kp r h g w vs b j m x=>?_,λo args s ω k kp r h g w vs b j m x=>zL C u (a _ u) n h j m x⟩;rotate_left 2
  .have K:aY g (aE {s with lo:=s.aF}) w:=⟨j.aF,j.ai,j.box,j.arr,j.bp,j.jF⟩
   let ⟨l,h1,h2,h3⟩:=zL C u (a _ u) n (kp:=λ_ _=>Y) h K m x
   refine⟨l,h1,h2,λrr n=>(h3 rr n).mono λe w' he=>?_⟩;cases e with
   |returned v=>
    let ⟨t,s',g',y,F,I⟩:=he
    exact⟨t,_,g',y,F,eB.Hi j I⟩
   |panicked ch=>obtain⟨v,t,s',g',_,y,_⟩:=he;cases y
   |outgrown=>exact he.elim
  rotate_left
  .simp only[uO,Yw]at h;split at h;cases h;rename_i fn z;split at h;cases h;rename_i c hc;have A:=C.Tn.Sp _ _ z;refine⟨⟨fn,A,by rw[hc];rfl,C.name _ _ z⟩,?_⟩;obtain⟨x,h⟩|⟨_,h⟩:=ah h
   rotate_left;cases h;simp only[eM]at x;have P:args.length<=fn.ntmps:=by have:=gH x.1;rwa [bS]at this
   have B:fn.ntmps<bD:=gH x.2.1;have hlo:s.lo<=s.aF:=gH x.2.2;have Q:=sR (n:=fn.ntmps) B P m;refine r6 A hc (wpIn_mono (pI C u (a _ u) n f _ c 0 h (λh=>absurd rfl h) (Ic B) (by omega) Q j) λe a' w' hq=>?_);obtain hF|⟨ex,fr',s',g',h1,h2,h3,h4,h5,h6⟩:=hq
   exact hF.elim;exact vY C u (a _ u) n (R:=xl s g w k kp r) h2 h1 h4 h5.rel (λt p i v q y F I=>⟨t,_,i,y,F,h5.trans I.toW⟩) (λt p i v q y F I=>⟨v,t,_,i,rfl,y,F,h5.trans I.toW⟩)
  simp only[uO,Yw]at h;split at h;cases h;rename_i fn z;split at h;cases h;rename_i c hc;have A:=C.Tn.Sp _ _ z;refine⟨⟨fn,A,by rw[hc];rfl,C.name _ _ z⟩,?_⟩;obtain⟨x,h⟩|⟨_,h⟩:=ah h
  rw[yH]at x;have P:args.length<=fn.ntmps:=by have:=gH x.1;rwa [bS]at this
  have B:fn.ntmps<bD:=gH x.2;have Q:=sR (n:=fn.ntmps) B P m;have K:aY g (aE {s with lo:=s.aF}) w:=⟨j.aF,j.ai,j.box,j.arr,j.bp,j.jF⟩;refine r6 A hc (wpIn_mono (pI C u (a _ u) n f _ c 0 h (λh=>absurd rfl h) (Ic B) (cM _) Q K) λe a' w' hq=>?_);obtain hF|⟨ex,fr',s',g',h1,h2,h3,h4,h5,h6⟩:=hq
  exact hF.elim;have vS:=eB.Hi j h5;have lo:∀{p:bf S}{i:Gh}{q:av},cO [] s' g' w' p i q->cO [] s g w {p with lo:=s.lo} i q:=λ{p i q}k=>
   eB.Hi j (h5.trans k.toW)
  exact vY C u (a _ u) n (R:=BY s g w k kp r) h2 h1 h4 h5.rel (λt p i v q y F I=>⟨t,_,i,y,F,lo I⟩) (λt p i v q y F I=>⟨v,t,_,i,rfl,y,F,lo I⟩);cases h
end
section
structure QD(Iw:Nat)(s0:bf S)(g0:Gh)(w:av)(s':bf S)(g':Gh)(w':av):Prop where
 rel:aY g' (aE s') w'
 bP:∀o b,o<Iw->g0.bP o=Z b->g'.bP o=Z b
 box:∀o,o<Iw->∃b,g'.bP o=Z b
 own:∀o b,bx g' o b->(∃o',bx g0 o' b)\/w.heap.size<=b
 bp:∀b,g0.bp b->g'.bp b
 nQ:∀b,g'.bp b->g0.bp b\/w.heap.size<=b\/∃o,bx g0 o b
 size:w.heap.size<=w'.heap.size
 heap:∀b,b<w.heap.size->(∀o,¬bx g0 o b)->w'.heap[b]?=w.heap[b]?
 os:w'.os=w.os
 output:w'.output=w.output
 fl:s'.fl=s0.fl
 lo:s'.lo=s0.lo
variable {Iw:Nat}{s0:bf S}{g0 g:Gh}{w w':av}{v:V S}{val:az}
def QD.of{s':bf S}{g':Gh}(e:s0.fl=0)(d:∀o,o<Iw->∃b,g0.bP o=Z b)(h:eB s0 g0 w s' g' w'):QD Iw s0 g0 w s' g' w' where
 rel:=h.rel
 bP o b _ a:=h.ext.bP o b a
 box o f:=(d o f).imp λb a=>h.ext.bP o b a
 own o b c:=(h.ext.own o b (by omega) c).imp (λ⟨g,_,h⟩=>⟨g,h⟩) id
 bp:=h.ext.bp
 nQ b a:=(h.ext.nQ b a).imp id (Or.imp id λ⟨o,_,c⟩=>⟨o,c⟩)
 size:=h.ext.size
 heap b a i:=h.ext.heap b a λo _ c=>i o c
 os:=h.ext.os
 output:=h.ext.output
 fl:=h.fl
 lo:=h.lo
def aY.afL{s:St}(hs:aY g s w){b:Nat}(I:b<w.heap.size)(n:∀o,¬bx g o b):aY {g with bp:=λk=>g.bp k\/k=b} s w:=by have y:∀t v,aH g w t v->aH {g with bp:=λk=>g.bp k\/k=b} w t v:=λt v h=>aH.le (g:=g) (g':={g with bp:=λk=>g.bp k\/k=b}) (mH.mk (λ_ _ h=>h) (λ_ _ _ h=>h) (λK(h:g.bp K)=>Or.inl h)) h;have f:∀o k,bx {g with bp:=λk=>g.bp k\/k=b} o k->bx g o k:=λo k h=>⟨λz=>h.1 (.inl z),h.2⟩;refine⟨hs.aF,hs.ai,λo k a=>?_,λo e x p=>?_,λk a=>a.elim (hs.bp k) (λe=>e▸I),λo F k h P=>hs.jF o F k (f o k h) (f F k P)⟩;obtain⟨h1,h2,h3⟩:=hs.box o k a;refine⟨λz=>z.elim h1 λe=>n o (e▸⟨h1,.inl a⟩),h2,λob m=>?_⟩;obtain⟨x,p,Q⟩:=h3 ob m;exact⟨x,p,Q.imp y⟩;obtain⟨h1,h2⟩:=hs.arr o e x p;refine⟨h1,λob m=>?_⟩;have A:∀k,x.at k->¬g.bp k->k≠b:=λk⟨R,q,B,C⟩a E=>n o (E▸⟨a,.inr ⟨e,x,R,p,q,B,C⟩⟩);have l:∀k,x.at k->((g.bp k\/k=b)↔g.bp k):=λk a=>⟨λh=>h.elim id λE=>(Classical.em (g.bp k)).elim id λS=>absurd E (A k a S),λh=>Or.inl h⟩;refine(h2 ob m).tr (λ{fz sz es}hA=>⟨hA.len,hA.cap,hA.rows,hA.pos,hA.VC,λr=>?_⟩) (λ_ _ _ h=>h) rfl (λk a r=>⟨rfl,l k ⟨_,a,rfl,r⟩⟩);obtain⟨k,vs,ty,q,B,C,q4,q5⟩:=hA.mem r;refine⟨k,vs,ty,q,B.trans (l k ⟨_,q,rfl,r⟩).symm,C,q4,λi d j c k1 k2=>?_⟩;obtain⟨u,r1,r2⟩:=q5 i d j c k1 k2;exact⟨u,r1,r2.le λ_ h=>.inl h⟩
def CP(p:Nat->aa)(vs:L (V S))(i:Nat)(u:V S):bu ((vs.map (fK p)).set i u)=(bu (vs.map (fK p))).set i (low u):=by simp[eP,EJ]
def JS(hS:eZ S){s:bf S}(h:QD Iw s0 g0 w s g w')(hv:aH g w' (low v) val)(q:Nat×Nat×Nat) :
  ∃a,QD Iw s0 g0 w (EY v Iw s q) a w'/\aH a w' (low v) val:=by
 obtain⟨f,i,n⟩:=q;unfold EY;split;rotate_left;exact⟨g,h,hv⟩;rename_i vs hvs;split;rotate_left;exact⟨g,h,hv⟩;rename_i o hvi;split;rotate_left;exact⟨g,h,hv⟩;rename_i us hus;split;rotate_left;exact⟨g,h,hv⟩;rename_i A os htt;generalize hp:(λk=>Nq o k||Nl s.aF k)=p;dsimp only;cases B:aip os&&(Nl Iw o&&(Nt f Iw&&!(cH p v)))with
 |false=>exact⟨g,h,hv⟩|true=>
 rw[gn];simp only[eM]at B;obtain⟨hos,hlo,Oq,hmv⟩:=B;have hos:os=[]:=by cases os with|nil=>rfl|cons=>cases hos
 subst hos;have hlo:Iw<=o:=gH hlo;have Oq:f<Iw:=gH Oq;have r:=h.rel;obtain⟨b,hb⟩:=h.box f Oq;obtain⟨cv,ty,IF,C,E⟩:=(r.box f b hb).box (cs:=bu vs) (by rw[aK,hvs];rfl);have aiw:(bu vs)[i]?=Z (.ptr o 0):=DB hvi;have hi:i<cv.size:=by rw[<-C];exact(TR.1 aiw).1
 have hci:=E i _ _ aiw (tO hi);obtain⟨d,l,hcv⟩:∃d,g.bP o=Z d/\cv[i]=.pointer (Z ⟨d,0,Y⟩):=by generalize cv[i]=u at hci;cases hci with|ptr _ _ d l=>exact⟨d,l,rfl⟩
 obtain⟨cu,tu,Q,ai3,R⟩:=(r.box o d l).box (cs:=bu us) (by rw[aK,hus];rfl);have hno:o<s.aF:=r.lt l;have hnb:f<s.aF:=r.lt hb;have hpo:p o=W:=by rw[<-hp];simp
 have hpk:∀k,k≠o->k<s.aF->p k=J:=λk h1 h2=>by rw[<-hp];simp only[yG];exact⟨by cases hq:Nq o k with|true=>exact absurd (uZ hq).symm h1|false=>rfl,by cases hq:Nl s.aF k with|true=>have:=gH hq;omega|false=>rfl⟩
 have hpb:p f=J:=hpk f (by omega) hnb
 let s1:bf S:={s with ob:=s.ob.mapA (eT p)}
 have zl:aY (g.base p) (aE s1) w':=by refine r.base (aF:=s.aF) (λk P=>?_) rfl (cM _) λk ob P l9=>?_;rw[<-hp];simp[Me P];rw[aK]at l9;simp only[s1,fG]at l9;obtain⟨vob,h1,rfl⟩:=l9;rw[Tr.nR,fG]at h1;obtain⟨Vz,h1,rfl⟩:=h1;exact⟨cX Vz,by rw[aK,h1];rfl,kU _ Vz⟩
 have hOo:bx g o d:=⟨(r.box o d l).1,.inl l⟩;have Ll:=zl.afL (b:=d) (r.box o d l).2.1 (λk P=>by
  obtain⟨h1,h2⟩:=Gh.fD P;have:=r.jF k o d h2 hOo;subst this;rw[hpo]at h1;cases h1)
 generalize y:({g.base p with bp:=λk=>(g.base p).bp k\/k=d}:Gh)=a at Ll;have hle:mH (g.base p) a:=by rw[<-y];exact⟨λ_ _ h=>h,λ_ _ _ h=>h,λ_ h=>.inl h⟩
 have hon:∀t u,aH g w' t u->dH p t=J->aH a w' t u:=λt u ht hm=>(ht.on (g.gr p) (λ_ _=>rfl) hm).le hle;have F:∀k c,p k=J->g.bP k=Z c->a.bP k=Z c:=λk c h1 h2=>hle.bP k c (by simp[Gh.base,h1,h2]);have hown:∀k c,bx a k c->bx g k c:=λk c hO=>by rw[<-y]at hO;exact(Gh.fD (⟨λhi=>hO.1 (.inl hi),hO.2⟩:bx (g.base p) k c)).2
 obtain⟨pp,htd,hpp⟩:=pE hS s (S.fs n) us htt;obtain⟨k0,_,k2⟩:=pS r (bu us) (vs:=cu.toList) htd hpp (by simpa using ai3) (λj t u h1 h2=>R j t u h1 (by simpa using h2));have hd:=k2 g (aE s) r (Ext.refl _ _ _) ⟨rfl,rfl,λo ho=>(by cases ho),λ_ _ _ _ h=>h,λo ho=>(by cases ho)⟩;have aoZ:a.bp d:=by rw[<-y];exact .inr rfl
 have K:∀c,g.bp c->a.bp c:=λc z=>by rw[<-y];exact .inl z
 have afh:∀j,(⟨d,0,Y⟩:Addr).add j=⟨d,j,Y⟩:=λj=>by simp[nk]
 have m:∀j c,(eS S (S.fs n) A)[j]?=Z c->∃u,cu[j]?=Z u/\dF a.bp w' c u:=λj c hj=>by
  have hl1:=k0;have hlt:j<cu.size:=by have:=(TR.1 hj).1;omega
  exact⟨cu[j],tO hlt,(hd j c cu[j] hj (by simp[hlt])).le K⟩
 have hnew:aH a w' (low (.ty (.opt n) (Z (S.DC n A)):V S)) cv[i]:=by
  rw[hcv];have hE:enc S (.opt n) (Z (S.DC n A))=.pt (.agg (eS S (S.fs n) A)):=by show D.pt (.agg (S.cells n (S.DC n A)))=_;rw[hS.cells,hS.rU]
  show aH a w' (.sym (enc S (.opt n) (Z (S.DC n A)))) _;rw[hE];have:=dF.pt (I:=a.bp) (w:=w') (.agg (eS S (S.fs n) A)) ⟨d,0,Y⟩ (λj=>(cu[j]?).getD undef) aoZ (λj c hj=>by
   obtain⟨u,h1,_⟩:=m j c hj;rw[afh,cell?_of_block Q,h1];rfl) (λj c hj=>by
   obtain⟨u,h1,h2⟩:=m j c hj;rw[h1];exact h2)
  rw[afh]at this;exact .sym _ _ this
 have XJ:∀e,a.arr f e=Y:=λe=>by rw[<-y];show(g.base p).arr f e=Y;simp only[Gh.base,hpb,yE];cases hx:g.arr f e with|none=>rfl|some x=>have:=((r.arr f e x hx).2 _ (by rw[aK,hvs];rfl)).nP;cases this
 have aph:gM a w' (cX (.box ((vs.map (fK p)).set i (.ty (.opt n) (Z (S.DC n A)))))) (.cells cv ty (0,0)):=by refine .box _ _ _ (by rw[CP];simp[eP]at C ⊢;exact C) λj t u h1 h2=>?_;rw[CP,OT]at h1;split at h1;rename_i hij;subst hij;split at h1;cases h1;rw[tO hi]at h2;cases h2;exact hnew;cases h1;simp only[eP,kF,fG]at h1;obtain⟨v',⟨v'',h3,rfl⟩,rfl⟩:=h1;exact(o7 p v'').rel hon (E j _ u (by simp[eP,h3]) h2)
 have P:=Ll.sQ (F f b hpb hb) IF aph XJ;have rT:aY a (aE {s with ob:=(s.ob.mapA (eT p)).set aO f (.box ((vs.map (fK p)).set i (.ty (.opt n) (Z (S.DC n A)))))}) w':=by have:=eu s1 f (.box ((vs.map (fK p)).set i (.ty (.opt n) (Z (S.DC n A))))) s.wr;rw[show aE {s with ob:=(s.ob.mapA (eT p)).set aO f (.box ((vs.map (fK p)).set i (.ty (.opt n) (Z (S.DC n A)))))}=_ from this];exact P
 refine⟨a,⟨rT,λk c P z=>?_,λk P=>?_,λk c hO=>h.own k c (hown k c hO),λc z=>K c (h.bp c z),λc z=>?_,h.size,h.heap,h.os,h.output,h.fl,h.lo⟩,hon _ _ hv (by rw[g6];simpa using hmv)⟩;have h1:=h.bP k c P z;exact F k c (hpk k (by omega) (r.lt h1)) h1;obtain⟨c,z⟩:=h.box k P;exact⟨c,F k c (hpk k (by omega) (r.lt z)) z⟩;rw[<-y]at z;obtain z|rfl:=z
 exact h.nQ c z;exact .inr ((h.own o c hOo).symm)
def zR(d:eZ S){Iw:Nat}{s0:bf S}{g0:Gh}{w w':av}{v:V S}{val:az}:∀(l:L (Nat×Nat×Nat)){s:bf S}{g:Gh},QD Iw s0 g0 w s g w'->aH g w' (low v) val->
  ∃a,QD Iw s0 g0 w (l.foldl (EY v Iw) s) a w'/\aH a w' (low v) val
 |[],_,g,h,b=>⟨g,h,b⟩|q::l,_,_,h,b=>by obtain⟨a,h2,c⟩:=JS d h b q;exact zR d l h2 c
end
def qw:∀(ps:L Pk)(b:Nat)(s:bf S)(x:fI S.A ps),s.aF<=(u6 b s ps x).2.aF
 |[],_,_,_=>cM _|.one c::ps,b,s,x=>fP (Rf s c x.1) (qw ps b _ x.2)|.box k::ps,b,s,x=>fP (Dr k s (Z (Ns b)) x.1) (qw ps (Ns b) {(kL s (Z (Ns b)) k x.1).2 with ob:=(kL s (Z (Ns b)) k x.1).2.ob.set aO b (kL s (Z (Ns b)) k x.1).1} x.2)
 |.hid k::ps,b,s,x=>fP (Dr k s (Z (Ns b)) x.1) (qw ps (Ns b) {(kL s (Z (Ns b)) k x.1).2 with ob:=(kL s (Z (Ns b)) k x.1).2.ob.set aO b (kL s (Z (Ns b)) k x.1).1} x.2)
structure InR(g:Gh)(s:bf S)(w:av)(al:List eU)(g':Gh)(s':bf S):Prop where
 rel:aY g' (aE s') w
 le:mH g g'
 bp:g'.bp=g.bp
 own:∀k b,bx g' k b->bx g k b\/∃a∈al,a.at b
 fl:s'.fl=s.fl
 lo:s'.lo=s.lo
 aF:s.aF<=s'.aF
 bP:g'.bP=g.bP
 arr:∀o,o<s.aF->∀e,g'.arr o e=g.arr o e
theorem Pj{w:av}:∀{ps:L Pk}{x:fI S.A ps}{vals:L az}{al:L eU}{bl:L Nat}{b:Nat}{g:Gh}{s:bf S},qI S g.bp w ps x vals al bl->aY g (aE s) w->(∀j bP,bl[j]?=Z bP->g.bP (b+j)=Z bP)->
  (∀j,j<bl.length->b+j<s.aF/\∀e,g.arr (b+j) e=Y)->(∀a∈al,∀b,a.at b->∀o,¬bx g o b)->wP al->(u6 b s ps x).2.aF<=bD->
  ∃g',InR g s w al g' (u6 b s ps x).2/\PW (aH g' w) (bu (u6 b s ps x).1) vals:=by
 intro ps
 induction ps with
 |nil=>intro x vals al bl b g s hp hs _ _ _ _ _;cases hp;exact⟨g,⟨hs,mH.refl _,rfl,λ_ _ h=>.inl h,rfl,rfl,cM _,rfl,λ_ _ _=>rfl⟩,⟨rfl,λj t v h=>by simp_all⟩⟩
 |cons p ps ih=>
  intro x vals al bl b g s hp hs q r K P hn;cases hp with
  | @one c _ f xr v vs CU AS bl h1 h2=>
   have m:=tM.1 P;have y:(vg s c f).2.aF<=bD:=fP (qw ps b _ xr) hn
   let ⟨E,d,oX⟩:=mW (cs:=[c]) (x:=(f,())) h1 hs (λa F=>K a (eL _ F)) m.1 (by simpa[g9]using y)
   have e1:(g9 s [c] (f,())).1=[(vg s c f).1]:=rfl;have e2:(g9 s [c] (f,())).2=(vg s c f).2:=rfl;have hv1:aH E w (low (vg s c f).1) v:=oX.2 0 _ _ rfl rfl
   let ⟨g2,i,Q⟩:=ih (b:=b) (g:=E) (s:=(vg s c f).2) (d.bp▸h2) d.rel (λj bP h=>by rw[d.bP];grind) (λj hj=>⟨iE (r j hj).1 d.aF,λe=>by rw[d.arr _ (r j hj).1];simp_all⟩)
    (λa F b hb o n=>by
     obtain n|⟨_,a2,ha2,oY⟩:=d.own o b n
     grind
     grind) m.2.1 hn
   refine⟨g2,⟨i.rel,d.le.trans i.le,i.bp.trans d.bp,λk B n=>?_,i.fl.trans d.fl,i.lo.trans d.lo,fP d.aF i.aF,i.bP.trans d.bP,λo I e=>(i.arr o (iE I d.aF) e).trans (d.arr o I e)⟩,⟨by simp only[u6,bu,qP];rw[Q.1],λj t v' R u=>?_⟩⟩;obtain n|⟨a',u,q3⟩:=i.own k B n
   obtain n|⟨_,a',u,q3⟩:=d.own k B n
   exact .inl n
   grind
   grind
   cases j with|zero=>simp[u6,bu]at R u;subst R;subst u;exact hv1.le i.le|succ j=>exact Q.2 j t v' (by simpa[u6,bu]using R) (by simpa using u)
  | @box l _ f xr b0 hx vs CU AS bl hh h1 h2=>
   have m:=tM.1 P;have y:(kL s (Z (Ns b)) l f).2.aF<=bD:=fP (qw ps (Ns b) {(kL s (Z (Ns b)) l f).2 with ob:=(kL s (Z (Ns b)) l f).2.ob.set aO b (kL s (Z (Ns b)) l f).1} xr) hn
   let ⟨E,d,z⟩:=pz h1 (λB A=>⟨_,rfl,by cases bl with|nil=>cases A|cons c' AR=>(cases A;grind)⟩) hs (λa F=>K a (eL _ F)) m.1 y
   have hb0:=r 0 (by simp);have C:g.bP b=Z b0:=q 0 b0 rfl;have hk:=d.rel.sQ (o:=b) (b:=b0) (by rw[d.bP];exact C) hh z (λe=>by rw[d.arr b (by omega)];exact hb0.2 e);have hk2:aY E (aE {(kL s (Z (Ns b)) l f).2 with ob:=(kL s (Z (Ns b)) l f).2.ob.set aO b (kL s (Z (Ns b)) l f).1}) w:=by
    have:=eu (kL s (Z (Ns b)) l f).2 b (kL s (Z (Ns b)) l f).1 (kL s (Z (Ns b)) l f).2.wr
    simp_all
   let ⟨g2,i,Q⟩:=ih (b:=Ns b) (g:=E) (s:={(kL s (Z (Ns b)) l f).2 with ob:=(kL s (Z (Ns b)) l f).2.ob.set aO b (kL s (Z (Ns b)) l f).1}) (d.bp▸h2) hk2
    (λj bP h=>by rw[d.bP];have:=q (j+1) bP (by simpa using h);rwa [show b+(j+1)=Ns b+j by omega]at this)
    (λj hj=>by
     have:=r (j+1) (by simp;omega);rw[show b+(j+1)=Ns b+j by omega]at this;exact⟨iE this.1 d.aF,λe=>by rw[d.arr _ this.1];exact this.2 e⟩)
    (λa F b hb o n=>by
     obtain n|⟨_,a2,ha2,oY⟩:=d.own o b n
     grind
     grind) m.2.1 hn
   refine⟨g2,⟨i.rel,d.le.trans i.le,i.bp.trans d.bp,λk B n=>?_,i.fl.trans d.fl,i.lo.trans d.lo,fP d.aF i.aF,i.bP.trans d.bP,λo I e=>(i.arr o (iE I d.aF) e).trans (d.arr o I e)⟩,⟨by simp only[u6,bu,qP];rw[Q.1],λj t v' R u=>?_⟩⟩;obtain n|⟨a',u,q3⟩:=i.own k B n
   obtain n|⟨_,a',u,q3⟩:=d.own k B n
   exact .inl n
   grind
   grind
   cases j with|zero=>simp[u6,bu,Mc,gC]at R u;subst R;subst u;exact MJ (by rw[i.bP,d.bP];exact C)|succ j=>exact Q.2 j t v' (by simpa[u6,bu]using R) (by simpa using u)
  | @hid l _ f xr b0 hx vs CU AS bl hh h1 h2=>
   have m:=tM.1 P;have y:(kL s (Z (Ns b)) l f).2.aF<=bD:=fP (qw ps (Ns b) {(kL s (Z (Ns b)) l f).2 with ob:=(kL s (Z (Ns b)) l f).2.ob.set aO b (kL s (Z (Ns b)) l f).1} xr) hn
   let ⟨E,d,z⟩:=pz h1 (λB A=>⟨_,rfl,by cases bl with|nil=>cases A|cons c' AR=>(cases A;grind)⟩) hs (λa F=>K a (eL _ F)) m.1 y
   have hb0:=r 0 (by simp);have C:g.bP b=Z b0:=q 0 b0 rfl;have hk:=d.rel.sQ (o:=b) (b:=b0) (by rw[d.bP];exact C) hh z (λe=>by rw[d.arr b (by omega)];exact hb0.2 e);have hk2:aY E (aE {(kL s (Z (Ns b)) l f).2 with ob:=(kL s (Z (Ns b)) l f).2.ob.set aO b (kL s (Z (Ns b)) l f).1}) w:=by
    have:=eu (kL s (Z (Ns b)) l f).2 b (kL s (Z (Ns b)) l f).1 (kL s (Z (Ns b)) l f).2.wr
    simp_all
   let ⟨g2,i,Q⟩:=ih (b:=Ns b) (g:=E) (s:={(kL s (Z (Ns b)) l f).2 with ob:=(kL s (Z (Ns b)) l f).2.ob.set aO b (kL s (Z (Ns b)) l f).1}) (d.bp▸h2) hk2
    (λj bP h=>by rw[d.bP];have:=q (j+1) bP (by simpa using h);rwa [show b+(j+1)=Ns b+j by omega]at this)
    (λj hj=>by
     have:=r (j+1) (by simp;omega);rw[show b+(j+1)=Ns b+j by omega]at this;exact⟨iE this.1 d.aF,λe=>by rw[d.arr _ this.1];exact this.2 e⟩)
    (λa F b hb o n=>by
     obtain n|⟨_,a2,ha2,oY⟩:=d.own o b n
     grind
     grind) m.2.1 hn
   refine⟨g2,⟨i.rel,d.le.trans i.le,i.bp.trans d.bp,λk B n=>?_,i.fl.trans d.fl,i.lo.trans d.lo,fP d.aF i.aF,i.bP.trans d.bP,λo I e=>(i.arr o (iE I d.aF) e).trans (d.arr o I e)⟩,Q⟩;obtain n|⟨a',u,q3⟩:=i.own k B n
   obtain n|⟨_,a',u,q3⟩:=d.own k B n
   exact .inl n
   grind
   grind
def oR(E:eZ S){g:Gh}{w:av}{s:bf S}(hs:aY g (aE s) w):∀{ps:L Pk}{b:Nat}{x:gQ S.A ps}{fz ow bl:L Nat},tS s b ps=Z (x,fz,ow)->(∀j bP,bl[j]?=Z bP->g.bP (b+j)=Z bP)->bl.length=dU ps->
  (∀o∈fz,Live g (aE s) o)/\(∀o∈ow,s.fl<=o/\s.lo<=o/\o<s.aF/\∃ob,s.ob.get o=Z ob/\Qo ob=W)/\∀(v:Gh)(s1:St)(r:L Nat),aY v s1 w->Ext s.fl g w v w->jl (aE s) s1 r->(∀o∈fz,o∈r)->(∀o∈ow,s1.ob.get o=(aE s).ob.get o)->
   ∃al,Dq S v.bp w ps x bl al/\AL v al ow
 |[],b,x,fz,ow,bl,h,_,i=>by
  simp only[tS,gC,fc]at h;obtain⟨_,rfl,rfl⟩:=h
  match bl,i with
  |[],_=>exact⟨λo l=>(by cases l),λo l=>(by cases l),λ_ _ _ _ _ _ _ _=>⟨[],.nil,.nil⟩⟩
  |_::_,i=>exact absurd i (by simp[dU])
 |.one c::ps,b,x,fz,ow,bl,h,n,i=>by
  simp[tS]at h
  let ⟨F,I,K⟩:=oR E hs h n (by simpa[dU]using i)
  refine⟨F,I,λv s1 r a b c d e=>?_⟩
  let ⟨al,P,Q⟩:=K v s1 r a b c d e
  exact⟨al,.one P,Q⟩
 |.box k::ps,b,x,fz,ow,bl,h,n,i=>by
  match bl,i with
  |[],i=>exact absurd i (by simp[dU])
  |b0::bl,i=>
  simp only[tS]at h;split at h;rotate_left;cases h;rename_i x1 a1 b1 nx h1 a2 b2 R e2;obtain⟨A,h⟩|⟨_,h⟩:=ah h
  rotate_left;cases h;rw[yH]at A;obtain⟨rfl,rfl,rfl⟩:=h;have y:g.bP b=Z b0:=n 0 b0 rfl;have p:∀j bP,bl[j]?=Z bP->g.bP (Ns b+j)=Z bP:=λj bP h=>by have:=n (j+1) bP (by simpa using h);rwa [show b+(j+1)=Ns b+j by omega]at this
  have f:bl.length=dU ps:=by simpa[dU]using i
  let ⟨_,hx,hh,F,I,K⟩:=qT E hs y R
  let ⟨_,B⟩:=zQ hs y R
  let ⟨q1,q2,q3⟩:=oR E hs e2 p f
  refine⟨λo l=>(eN.1 l).elim (F o) (q1 o),λo l=>(eN.1 l).elim (I o) (q2 o),λv s1 r z C hf t q=>?_⟩
  let ⟨CU,P,Q⟩:=K v s1 r z C hf (λo l=>t o (eL _ l)) (λo l=>q o (eL _ l)) (fj bl) (λo' u=>by
   subst u;obtain⟨m,pre,post,rfl⟩:=B o' rfl;have u:o'=Ns b:=uZ A.1;subst u
   match ps,A.2,f with
   |.hid k'::ps,_,f=>
    match bl,f with
    |c::bl,_=>exact⟨c,rfl,C.bP _ _ (p 0 c rfl)⟩|[],f=>exact absurd f (by simp[dU]))
  let ⟨AS,k3,k4⟩:=q3 v s1 r z C hf (λo l=>t o (kz _ l)) (λo l=>q o (kz _ l))
  exact⟨_,.box hh P k3,Q.append k4⟩
 |.hid k::ps,b,x,fz,ow,bl,h,n,i=>by
  match bl,i with
  |[],i=>exact absurd i (by simp[dU])
  |b0::bl,i=>
  simp only[tS]at h;split at h;rotate_left;cases h;rename_i R e2;obtain⟨A,h⟩|⟨_,h⟩:=ah h
  rotate_left;cases h;rw[yH]at A;obtain⟨rfl,rfl,rfl⟩:=h;have y:g.bP b=Z b0:=n 0 b0 rfl;have p:∀j bP,bl[j]?=Z bP->g.bP (Ns b+j)=Z bP:=λj bP h=>by have:=n (j+1) bP (by simpa using h);rwa [show b+(j+1)=Ns b+j by omega]at this
  have f:bl.length=dU ps:=by simpa[dU]using i
  let ⟨_,hx,hh,F,I,K⟩:=qT E hs y R
  let ⟨_,B⟩:=zQ hs y R
  let ⟨q1,q2,q3⟩:=oR E hs e2 p f
  refine⟨λo l=>(eN.1 l).elim (F o) (q1 o),λo l=>(eN.1 l).elim (I o) (q2 o),λv s1 r z C hf t q=>?_⟩
  let ⟨CU,P,Q⟩:=K v s1 r z C hf (λo l=>t o (eL _ l)) (λo l=>q o (eL _ l)) (fj bl) (λo' u=>by
   subst u;obtain⟨m,pre,post,rfl⟩:=B o' rfl;have u:o'=Ns b:=uZ A.1;subst u
   match ps,A.2,f with
   |.hid k'::ps,_,f=>
    match bl,f with
    |c::bl,_=>exact⟨c,rfl,C.bP _ _ (p 0 c rfl)⟩|[],f=>exact absurd f (by simp[dU]))
  let ⟨AS,k3,k4⟩:=q3 v s1 r z C hf (λo l=>t o (kz _ l)) (λo l=>q o (kz _ l))
  exact⟨_,.hid hh P k3,Q.append k4⟩
theorem Dq.iy{I:Nat->Prop}{w:av}{ps:L Pk}{x:gQ S.A ps}{al:L eU}{bl:L Nat}(h:Dq S I w ps x bl al):∀a∈al,∀b,a.at b->¬I b:=by
 induction h with
 |nil=>simp_all|one _ d=>exact d|box f h1 h2 d=>
  intro a c b e;obtain c|c:=eN.1 c
  exact h1.iy a c b e
  grind
 |hid f h1 h2 d=>
  intro a c b e;obtain c|c:=eN.1 c
  exact h1.iy a c b e
  grind
theorem Qg{I:Nat->Prop}{w:av}{ps:L Pk}{x:fI S.A ps}{vs:L az}{al:L eU}{bl:L Nat}(h:qI S I w ps x vs al bl):dU ps=bl.length:=by
 induction h with|nil=>rfl|one _ _ a=>exact a|box _ _ _ a=>grind[dU]|hid _ _ _ a=>grind[dU]
def gh0(I:Nat->Prop)(bl:L Nat):Gh:=⟨λo=>bl[o]?,λ_ _=>Y,I⟩
def w8{I:Nat->Prop}{bl:L Nat}{o b:Nat}(h:bx (gh0 I bl) o b):bl[o]?=Z b:=by obtain⟨_,h|⟨e,x,a,h,_⟩⟩:=h;exact h;cases h
theorem abK{I:Nat->Prop}{bl:L Nat}{w:av}(d:∀b,I b->b<w.heap.size)(f:bl.Nodup)(a:∀b∈bl,b<w.heap.size/\¬I b)(hn:bl.length<=bD) :
  aY (gh0 I bl) (aE (⟨.nil,bl.length,0,bl.length,[],[]⟩:bf S)) w:=by
 refine⟨hn,λo g=>⟨?_,λe=>rfl⟩,λo b h=>?_,λo e x h=>?_,d,λo k b h i=>?_⟩;exact List.getElem?_eq_none g;have c:=hU h;refine⟨(a b c).2,(a b c).1,λob j=>?_⟩
 grind[aK,Tr.get_nil]
 cases h;have h1:=w8 h;have h2:=w8 i
 grind[List.getElem?_inj]
def UQ{E:er S}{n d:Nat}{f:FuncId}{ps:L Pk}{a:L Ck}{x:fI S.A ps}{r:RT E.pn (fU S.A a×gQ S.A ps) (den S.A S.pt×gQ S.A ps)}(h:uM E n d f ps a x=Z r) :
  (u6 0 ⟨.nil,dU ps,0,dU ps,[],[]⟩ ps x).2.aF<=bD/\Yy E n d f (u6 0 ⟨.nil,dU ps,0,dU ps,[],[]⟩ ps x).1 (u6 0 ⟨.nil,dU ps,0,dU ps,[],[]⟩ ps x).2 (afn E.pn a ps) (afm E.pn a ps)=Z r:=by
 unfold uM at h;obtain⟨_,h⟩|⟨b,h⟩:=ah h
 cases h
 simp_all
def RT.aaI{R P:Type}:∀{a:aa}{p:P}{r:RT a R P},RT.jJ a p=Z r->RT.res a r=.jJ p
 |false,_,_,h=>by cases h
 |true,_,_,h=>by cases h;rfl
theorem FW{E:er S}(hE:e8 E)(y:∀call:fO S,gu E.T.E.P call->sn E call){f:FuncId}{fn:Func}{c:Code}(hfn:E.T.E.Sp f=Z fn)(hc:fn.body=Z c)(n d:Nat)(ps:L Pk)(rs:L Ck) :
  bz E.T.E.P f ⟨ps,rs,E.pn,uM E n d f ps rs⟩:=by
 have hfs:=hE.Tn.Sp _ _ hfn;refine⟨⟨fn,hfs,by rw[hc];rfl,hE.name _ _ hfn⟩,λx r h I w vs al bl hp hI hap hnd Oq=>?_⟩;dsimp only at x r h hp
 let ⟨B,h⟩:=UQ h
 have hlen:=Qg hp;have z:=qw ps 0 (⟨.nil,dU ps,0,dU ps,[],[]⟩:bf S) x;have hn0:dU ps<=bD:=fP z B;have aoh:aY (gh0 I bl) (aE (⟨.nil,dU ps,0,dU ps,[],[]⟩:bf S)) w:=by have:=abK (S:=S) (w:=w) hI hnd (λb i=>⟨(Oq b i).1,(Oq b i).2.1⟩) (by omega);rwa [hlen]
 let ⟨g0,P,oX⟩:=Pj (b:=0) (g:=gh0 I bl) hp aoh (λj bP h=>by rw[A4];exact h) (λj hj=>⟨by simp;omega,λe=>rfl⟩)
  (λa C b i o k=>(Oq b (hU (w8 k))).2.2 a C i) hap B
 generalize u6 0 ⟨.nil,dU ps,0,dU ps,[],[]⟩ ps x=q at h B P oX z
 let ⟨args,s0⟩:=q
 dsimp only at h B P oX z;have ae3:s0.fl=0:=P.fl;have aoT:s0.lo=dU ps:=P.lo;simp[Yy,hfn,hc]at h;obtain⟨i,h⟩|⟨_,h⟩:=ah h
 rotate_left;cases h;rw[yH]at i;have Dd:args.length<=fn.ntmps:=by have:=gH i.1;rwa [bS]at this
 have oY:fn.ntmps<bD:=gH i.2;have Uy:=sR (n:=fn.ntmps) oY Dd oX;have m:=NK hE y n d;have core:∀(s':bf S)(g':Gh)(w':av),eB s0 g0 w s' g' w'->∀(rs:L Ck)(t:V S)(v:az)(r1:fU S.A rs×gQ S.A ps),abU rs ps t s'=Z r1->aH g' w' (low t) v->DU S I w ps rs r1 al bl v w':=by
  intro s0' g0' w' h50 rs t v r h2 ht0;unfold abU at h2;obtain⟨g',h5,ht⟩:=zR hE.sg (Ij ps 0) (QD.of (Iw:=dU ps) ae3 (λo A=>by rw[P.bP];exact⟨bl[o]'(by omega),iu _⟩) h50) ht0;generalize(Ij ps 0).foldl (EY t (dU ps)) s0'=s' at h2 h5;dsimp only at h2;split at h2;rotate_left;cases h2;rename_i r1 fz ow b1 fz' ow' e1 e2;split at h2;rotate_left;cases h2;rename_i s1 e3;obtain⟨i,h2⟩|⟨_,h2⟩:=ah h2
  rotate_left;cases h2;simp at h2;subst h2;rw[yH]at i;have Ht:=lA i.1;have apl:=zb i.2;obtain⟨vals,rfl,aiy⟩:=Ez ht e1;have aju:∀j bP,bl[j]?=Z bP->g'.bP (0+j)=Z bP:=λj bP h=>h5.bP _ _ (by have:=(TR.1 h).1;omega) (by rw[P.bP,A4];exact h)
  let ⟨p1,p2,p3⟩:=fW hE.sg h5.rel e1 aiy
  let ⟨q1,q2,q3⟩:=oR hE.sg h5.rel e2 aju hlen.symm
  have hfr:=dw hE.sg _ e3
  let ⟨g1,l,F,hfz⟩:=ew (fz++fz') h5.rel hfr (λo A=>(eN.1 A).elim (p1 o) (q1 o))
  let ⟨f1,f2,f3,f4,f5,f6,f7⟩:=eD e3
  have hsame:∀o∈ow++ow',(aE s1).ob.get o=(aE s').ob.get o:=λo A=>by rw[aK,aK,f6 o (apl o A)]
  let ⟨AS,K,k2⟩:=p3 g1 (aE s1) (fz++fz') l F hfz (λo A=>eL _ A) (λo A=>hsame o (eL _ A))
  let ⟨CU,k3,k4⟩:=q3 g1 (aE s1) (fz++fz') l F hfz (λo A=>kz _ A) (λo A=>hsame o (kz _ A))
  have aoH:=K.iy;have aoI:=k3.iy;have hmem:∀a∈CU++AS,a∈AS++CU:=λa C=>eN.2 ((eN.1 C).symm);have hni:∀a∈AS++CU,∀b,a.at b->¬g1.bp b:=λa C=>(eN.1 C).elim (aoH a) (aoI a);have hAL:=k2.append k4;have hown:=hAL.owned hni;have p:=hAL.apart l Ht hni;have hfl':s'.fl=0:=h5.fl.trans ae3;have ai1:s'.lo=dU ps:=h5.lo.trans aoT;have aiP:∀o b,bx g1 o b->(b∈bl\/∃a∈al,a.at b)\/w.heap.size<=b:=by
   intro o b k;obtain k|hge:=F.own o b k
   obtain⟨Q,UG⟩|hge:=h5.own o b k
   obtain UG|⟨a,C,hab⟩:=P.own Q b UG
   exact .inl (.inl (hU (w8 UG)))
   grind
   omega;have:=h5.size;omega
  have s:∀b∈bl,∃o,o<dU ps/\g1.bP o=Z b:=by intro b i;obtain⟨j,hj,rfl⟩:=p8 i;exact⟨0+j,by omega,F.bP _ _ (aju j _ (iu hj))⟩
  refine⟨g1.bp,vals,CU,AS,λb i=>F.bp b (h5.bp b (P.bp▸i)),λb i=>?_,l.bp,h5.size,λb i B hna=>?_,h5.os,h5.output,rfl,k3,K,?_,λa C b hab=>?_,λb i=>⟨?_,λa C hab=>?_⟩⟩;have h0:∀o,bx g0 o b->I b\/w.heap.size<=b\/∃a∈al,a.at b:=λo k=>by
   obtain k|h:=P.own o b k
   let ⟨Q,_,u⟩:=s b (hU (w8 k))
   exact absurd i (l.box Q b u).1
   simp_all
  obtain i|i|⟨o,_,k⟩:=F.nQ b i
  obtain i|i|⟨o,k⟩:=h5.nQ b i
  exact .inl (by rw[P.bp]at i;exact i);omega
  grind
  have:=h5.size;omega;obtain⟨Q,UG⟩|hge:=h5.own o b k
  grind
  omega;refine h5.heap b i λo k=>?_;obtain k|⟨a,C,hab⟩:=P.own o b k
  exact B (hU (w8 k))
  simp_all
  refine tM.2 ⟨(tM.1 p).2.1,(tM.1 p).1,λa C a' ha' b h1 h2=>(tM.1 p).2.2 a' ha' a C b h2 h1⟩
  let ⟨o,A,k⟩:=hown a (hmem a C) b hab
  obtain(h|h)|h:=aiP o b k
  let ⟨Q,ho',u⟩:=s b h
  have:=l.jF o Q b k ⟨(l.box Q b u).1,.inl u⟩
  grind
  exact .inl h;omega
  let ⟨Q,ho',u⟩:=s b i
  exact(l.box Q b u).1
  let ⟨o,A,k⟩:=hown a (hmem a C) b hab
  let ⟨Q,ho',u⟩:=s b i
  have:=l.jF o Q b k ⟨(l.box Q b u).1,.inl u⟩
  grind
 refine r6 hfs hc (wpIn_mono (pI hE m (y _ m) n f _ c 0 h (λh=>absurd rfl h) (Ic oY) (by omega) Uy P.rel) λe a' w' hq=>?_);obtain hF|⟨ex,fr',s',g',h1,h2,h3,h4,h5,h6⟩:=hq
 exact hF.elim;refine vY hE m (y _ m) n (R:=xk S I w ps rs (RT.res E.pn r) al bl) h2 h1 h4 h5.rel (λt s'' g'' v w'' K k2 k3=>?_) (λt s'' g'' v w'' K k2 k3=>?_)
 .unfold afn at K;split at K;rotate_left;cases K;rename_i r1 e1;simp at K;have e2:RT.res E.pn r=.ok r1:=by rw[<-K];cases E.pn<;>rfl
  simp[xk,e2];exact core _ _ _ (h5.trans k3.toW) rs _ v r1 e1 k2
 .simp[afm]at K;split at K;rotate_left;cases K;rename_i r1 e1;have e2:RT.res E.pn r=.jJ (r1.1.1,r1.2):=RT.aaI K;simp only[xk,e2];exact⟨v,rfl,core _ _ _ (h5.trans k3.toW) [.dat S.pt] t v r1 e1 k2⟩
section
section
variable {fr fr':bV S}{s s':bf S}
theorem vF:∀{l:L Operand},(∀x∈l,cx fr x=cx fr' x)->jN fr l=jN fr' l
 |[],_=>rfl|x::l,h=>by simp[jN,h x fQ,vF λy a=>h y (hJ _ a)]
theorem j6:∀{l:L (Nat×Operand)},(∀x∈l.map (·.2),cx fr x=cx fr' x)->iL fr l=iL fr' l
 |[],_=>rfl|(k,x)::l,h=>by simp[iL,h x (by simp),j6 λy a=>h y (by simp at a ⊢;exact .inr a)]
theorem O2:∀{x:O Operand},(∀y∈x.toList,cx fr y=cx fr' y)->JR fr x=JR fr' x
 |none,_=>rfl|some x,h=>by simp[JR,h x (by simp)]
theorem O4(E:fN)(s:bf S)(o:Op)(h:∀x∈o.operands.toList,cx fr x=cx fr' x):cG E fr s o=cG E fr' s o:=by
 cases o with
 |buildSlice t n c=>
  grind[Op.operands,cG,j6]
 |build t c=>
  grind[Op.operands,cG,j6]
 |makeFunc f a b=>
  grind[Op.operands,cG,vF]
 |slice t x l d m=>
  grind[Op.operands,cG,O2]
 |alloc=>rfl|box t x=>grind[Op.operands,cG]|move x=>grind[Op.operands,cG]|assign x=>grind[Op.operands,cG]|pick x y z=>grind[Op.operands,cG]|load t x=>grind[Op.operands,cG]|store t x y=>grind[Op.operands,cG]|nilCheck x=>grind[Op.operands,cG]|binOp op t x y u=>grind[Op.operands,cG]|unOp op t x=>grind[Op.operands,cG]|convert t u x=>grind[Op.operands,cG]|makeInterface t x=>grind[Op.operands,cG]|extract x k=>grind[Op.operands,cG]|fieldAddr t x k=>grind[Op.operands,cG]|field t x k=>grind[Op.operands,cG]|indexAddr t x k=>grind[Op.operands,cG]|index t x k=>grind[Op.operands,cG]|typeAssert x t u ok=>grind[Op.operands,cG]|_=>rfl
theorem MX:∀{x:O Operand},(∀y∈x.toList,cx fr y=cx fr' y)->MY fr x=MY fr' x
 |none,_=>rfl|some x,h=>by simp[MY,h x (by simp)]
theorem T2(E:fN)(s:bf S)(o:Op)(h:∀x∈o.operands.toList,cx fr x=cx fr' x):tC E fr s o=tC E fr' s o:=by
 cases o with
 |makeMap t r=>
  grind[tC,MX,Op.operands]
 |lookup t x d ok=>grind[Op.operands,tC]|mapUpdate t x d y=>grind[Op.operands,tC]|insert t x d y=>grind[Op.operands,tC]|makeSlice t n c=>grind[Op.operands,tC]|range t x=>grind[Op.operands,tC]|nilCheck x=>grind[Op.operands,tC]|typeAssert x t u ok=>grind[Op.operands,tC]|build t e=>
  grind[Op.operands,tC,j6]
 |binOp op t x y u=>
  have b:cx fr x=cx fr' x:=h x (by simp[Op.operands]);cases op<;>first
   |rfl|(
     cases y with
     |const v=>
      cases v with
      |nilIface=>simp only[tC,b]|pointer a=>cases a<;>first|rfl|simp only[tC,b]
      |slice a n m=>cases a<;>cases n<;>cases m<;>first|rfl|simp[tC,b]
      |_=>rfl
     |_=>rfl)
 |_=>rfl
theorem T5(E:fN)(s:bf S)(o:Op)(h:∀x∈o.operands.toList,cx fr x=cx fr' x):AP E fr s o=AP E fr' s o:=by
 cases o with
 |indexAddr t x f=>grind[Op.operands,AP]|load t a=>grind[Op.operands,AP]|store t a x=>
  simp[Op.operands]at h;cases x with|tmp k=>have h2:fr.get k=fr'.get k:=h.2;simp[AP,h.1,h2]|_=>rfl
 |buildSlice t n g=>
  simp[AP];split;rename_i b c;have h2:fr.get b=fr'.get b:=h (.tmp b) (by
   grind[Op.operands])
  simp[h2];rfl;rfl
 |slice t x lo d e=>
  cases lo<;>cases d<;>cases e<;>first
   |rfl|(
     rename_i y;have h1:cx fr x=cx fr' x:=h x (by simp[Op.operands]);have h2:cx fr y=cx fr' y:=h y (by simp[Op.operands]);simp only[AP,h1,h2])
 |_=>rfl
def Il(E:fN)(s:bf S)(o:Op)(h:∀x∈o.operands.toList,cx fr x=cx fr' x):zS E fr s o=zS E fr' s o:=by unfold zS;rw[T5 E s o h,O4 E s o h,T2 E s o h]
theorem Im(E:fN)(s:bf S)(o:Op)(h:∀x∈o.operands.toList,cx fr x=cx fr' x):Io E fr s o=Io E fr' s o:=by
 cases o with
 |next c b=>simp[Op.operands]at h;cases b<;>first|rfl|simp[Io,h]
 |lookup t x a ok=>grind[Op.operands,Io]|index t x a=>grind[Op.operands,Io]|_=>rfl
theorem BD{c:Call}(h:∀x∈c.operands.toList,cx fr x=cx fr' x):jN fr c.args.toList=jN fr' c.args.toList/\(∀f,c.callee=.value f->cx fr f=cx fr' f)/\∀x m,c.callee=.invoke x m->cx fr x=cx fr' x:=by
 grind[Call.operands,vF]
theorem Ai(E:er S)(call:fO S)(o:Oper)(s:bf S){ω:Type}(kp:V S->bf S->O ω)(k:V S->bf S->L Nat->O ω)(h:∀x∈o.op.operands.toList,cx fr x=cx fr' x) :
  ue E call o fr s kp k=ue E call o fr' s kp k:=by
 unfold ue;have a:=Il E.T s o.op h;have d:=Im E.T s o.op h;cases e:o.op with
 |call c=>
  rw[e]at h
  let ⟨h1,h2,h3⟩:=BD h
  dsimp only;rw[h1];cases g:c.callee with|value f=>simp_all|builtin b=>rfl|invoke x m=>simp_all
 |panic x=>
  grind[Op.operands]
 |_=>rw[e]at a d;simp only[a,d]
theorem iC(E:er S)(g:O aa)(o:Oper)(s:bf S){ω:Type}(k:V S->O ω)(h:∀x∈o.op.operands.toList,cx fr x=cx fr' x) :
  fm E g fr s o k=fm E g fr' s o k:=by
 unfold fm;have a:=Il E.T s o.op h;have b:=Im E.T s o.op h;cases d:o.op with
 |call c=>
  grind[Op.operands,BD]
 |buildSlice t n e=>
  grind[Op.operands,j6]
 |slice t x l f m=>
  grind[Op.operands]
 |_=>first|rfl|(rw[d]at a b;simp only[a,b])
theorem JI(E:er S)(o:Oper)(h:∀x∈o.op.operands.toList,cx fr x=cx fr' x):A3 E fr o=A3 E fr' o:=by
 unfold A3;cases a:o.op with
 |call c=>
  grind[Op.operands,BD]
 |buildSlice t n b=>
  grind[Op.operands,j6]
 |slice t x l d m=>
  grind[Op.operands]
 |_=>rfl
def tmpsOf(o:Op):L Nat:=o.operands.toList.filterMap λx=>match x with|.tmp k=>Z k|_=>Y
theorem iY{o:Op}(h:∀k∈tmpsOf o,fr.get k=fr'.get k):∀x∈o.operands.toList,cx fr x=cx fr' x:=by intro x a;cases x with|tmp k=>exact h k (zN.2 ⟨.tmp k,a,rfl⟩)|_=>rfl
theorem rf{o:Op}(c:∀k∈tmpsOf o,k<bD)(h:∀k∈tmpsOf o,fr.get k=fr'.get k):∀k∈tmpsOf o,(ri fr o).get k=(ri fr' o).get k:=by
 have key:∀(l:L Operand)(f a:bV S),(∀k,.tmp k∈l->k∈tmpsOf o)->(∀k∈tmpsOf o,f.get k=a.get k)->∀k∈tmpsOf o,
   (l.foldl (λf x=>match x with
    |.tmp k=>match fr.get k with
     |some (.gd _ v)=>f.put k v|_=>f
    |_=>f) f).get k=(l.foldl (λf x=>match x with
    |.tmp k=>match fr'.get k with
     |some (.gd _ v)=>f.put k v|_=>f
    |_=>f) a).get k:=by
  intro l
  induction l with
  |nil=>simp_all|cons x l d=>
   intro f a e g k b;simp
   grind[bV.jC]
 exact key _ _ _ (λk b=>zN.2 ⟨.tmp k,b,rfl⟩) h
theorem ua{o:Op}(c:aa)(h:∀k∈tmpsOf o,fr.get k=fr'.get k):M5 c fr o=M5 c fr' o:=by
 have key:∀(l:L Operand)(q:aa),(∀k,.tmp k∈l->k∈tmpsOf o)->
   l.foldl (λp x=>match x with
    |.tmp k=>match fr.get k with
     |some (.gd g _)=>p&&imp c g|_=>p
    |_=>p) q=l.foldl (λp x=>match x with
    |.tmp k=>match fr'.get k with
     |some (.gd g _)=>p&&imp c g|_=>p
    |_=>p) q:=by
  intro l
  induction l with
  |nil=>intro q _;rfl
  |cons x l b=>
   grind
 exact key _ _ (λk a=>zN.2 ⟨.tmp k,a,rfl⟩)
def nU(ops:L Oper)(o:Oper):O Nat:=match o.guard with
 |none=>Y|some (j,_)=>(nth ops j).bind (·.dst)
def o3{ops:L Oper}{o:Oper}(h:∀k,nU ops o=Z k->fr.get k=fr'.get k):iB ops fr o=iB ops fr' o:=by
 unfold iB;cases b:o.guard with
 |none=>rfl|some p=>
  let ⟨j,a⟩:=p
  dsimp only;cases c:(nth ops j).bind (·.dst)with|none=>rfl|some k=>simp;rw[h k (by simp[nU,b,c])]
theorem qR{ops:L Oper}{o:Oper}(h:∀k,nU ops o=Z k->fr.get k=fr'.get k):uJ ops fr o=uJ ops fr' o:=by
 unfold uJ;cases b:o.guard with
 |none=>rfl|some p=>
  let ⟨j,a⟩:=p
  dsimp only;cases c:(nth ops j).bind (·.dst)with|none=>rfl|some k=>simp;rw[h k (by simp[nU,b,c])]
theorem Hx(E:er S)(call:fO S){ops:L Oper}{o:Oper}(s:bf S){ω:Type}(kp:V S->bf S->O ω)(k:V S->bf S->L Nat->O ω)(hn:fr.n=fr'.n)(b:∀k∈tmpsOf o.op,k<bD)
  (h:∀k∈tmpsOf o.op,fr.get k=fr'.get k) (a:∀k,nU ops o=Z k->fr.get k=fr'.get k):o5 E call ops o fr s kp k=o5 E call ops o fr' s kp k:=by
 unfold o5;have h1:gw fr o.dst=gw fr' o.dst:=by cases o.dst<;>simp only[gw,hn]
 have h2:=iY h;have h3:=iY (rf b h);rw[h1,o3 a,qR a];simp[Ai E call o s kp k h2,Ai E call o s kp k h3,JI E o h3,ua (o:=o.op) _ h]
 grind[iC]
end
theorem Gp{ω:Type}(k:V S->O ω){D:O ω}{a:O (V S)}(h:D=a.bind k):∀l:L (aa×V S×bf S),wC k D l=(wC Z a l).bind k
 |[]=>h|p::l=>by simp[wC,Gp k h l];cases p.1<;>rfl
theorem Ag(E:er S)(g:O aa)(fr:bV S)(s:bf S)(o:Oper){ω:Type}(k:V S->O ω):fm E g fr s o k=(fm E g fr s o Z).bind k:=by
 have a:∀(p:aa)(t:V S),yU g p (k t)=(yU g p (Z t)).bind k:=by
  intro p t;cases g with
  |none=>cases p<;>rfl
  |some c=>cases c<;>cases p<;>rfl
 unfold fm;split;split;rfl;split
 grind
 split;rfl;split;rfl
 .rename_i c _;cases(cr c.ps&&(jv c.rs&&(jB _&&!c.pn)))with
  |false=>rfl|true=>
   split;unfold ai
   grind
   rfl
 rfl
 iterate 11
  rfl
 grind
 grind
 grind[Gp]
def Sm(s s':bf S)(v:V S):Prop:=∀o,cH (Nq o) v=W->s'.ob.get o=s.ob.get o
def Sms(s s':bf S)(l:L (V S)):Prop:=∀o,iA (Nq o) l=W->s'.ob.get o=s.ob.get o
variable {v:V S}
def Sms.cons{s s':bf S}{l:L (V S)}(h:Sms s s' (v::l)):Sm s s' v/\Sms s s' l:=
 ⟨λo a=>h o (by simp[iA,a]),λo a=>h o (by simp[iA,a])⟩
theorem AY{s s':bf S}{v:V S}(h:Sm s s' v)(e:Ty):JA s' e v=JA s e v:=by
 cases v with
 |sh o r=>simp[JA,h o (by simp[cH])]
 |ty t x=>cases t<;>rfl
 |_=>rfl
def SP{s s':bf S}{o:Nat}(h:s'.ob.get o=s.ob.get o)(e:Nat):KA s' o e=KA s o e:=by simp[KA,h]
mutual
def zu{s s':bf S}:∀(t:Ty)(v:V S),Sm s s' v->u5 v=W->bT s' t v=bT s t v
 |t,.agg c,h,b=>by cases t with|st n=>simp[bT,LB (S.fs n) c h b]|_=>simp only[bT]
 |t,.de u v,h,b=>by
  cases t with
  |de n=>
   simp[bT];cases wE (S.alts n) u with|none=>rfl|some i=>simp[zu (mR (S.alts n) i) v h b]
  |_=>simp only[bT]
 |t,.sh o r,_,b=>by simp[u5]at b
 |t,.rQ _ _ _ _,_,b=>by rfl
 |t,.o6 _ _ _,_,_=>by cases t<;>simp only[bT]
 |t,.ty _ _,_,_=>by rfl
 |t,.kb _,_,_=>by cases t<;>simp only[bT]
 |t,.kn _ _,_,_=>by cases t<;>simp only[bT]
 |t,.dat d,_,_=>by
  cases t with
  |de n=>
   cases d with
   |lit v=>cases v<;>simp only[bT]
   |_=>simp only[bT]
  |opt n=>
   cases d with
   |lit v=>cases v with
    |pointer a=>cases a<;>simp only[bT]
    |_=>simp only[bT]
   |_=>simp only[bT]
  |_=>simp only[bT]
 |t,.ptr _ _,_,_=>by cases t<;>simp only[bT]
 |t,.lD _ _ _,_,_=>by cases t<;>simp only[bT]
 |t,.lC _ _ _ _,_,_=>by cases t<;>simp only[bT]
 |t,.emp,_,_=>by cases t<;>simp only[bT]
 |t,.j4 _ _ _,_,_=>by cases t<;>simp only[bT]
 |t,.fn _ _ _,_,_=>by cases t<;>simp only[bT]
 |t,.gG _,_,_=>by cases t<;>simp only[bT]
 |t,.gd _ _,_,_=>by cases t<;>simp only[bT]
 |t,.mp _,_,_=>by cases t<;>simp only[bT]
 |t,.qN _,_,_=>by cases t<;>simp only[bT]
 |t,.tD _,_,_=>by cases t<;>simp only[bT]
 |t,.ub _,_,_=>by cases t<;>simp only[bT]
def LB{s s':bf S}:∀(ts:L Ty)(l:L (V S)),Sms s s' l->jB l=W->nG s' ts l=nG s ts l
 |[],[],_,_=>rfl|t::ts,v::l,h,a=>by simp[jB,eM]at a;simp[nG,zu t v h.cons.1 a.1,LB ts l h.cons.2 a.2]
 |[],_::_,_,_=>rfl|_::_,[],_,_=>rfl
end
def fT(r:nr S):O (aa×V S):=match r with
 |some (c,t,_)=>Z (c,t)|none=>Y
theorem pL{b:aa}{x y:nr S}(h:b=W->fT x=fT y):fT (bif b then x else Y)=fT (bif b then y else Y):=by
 grind
theorem PZ{b:aa}{x y x' a:nr S}(h:fT x=fT x')(c:fT y=fT a):fT (bif b then x else y)=fT (bif b then x' else a):=by
 grind
theorem gk{α:Type}(x:O α)(f g:α->aa×V S×bf S)(h:∀a,(f a).1=(g a).1/\(f a).2.1=(g a).2.1):fT (x.map f)=fT (x.map g):=by cases x with|none=>rfl|some a=>grind[fT]
section
variable {fr:bV S}{s s':bf S}
theorem Xb(i:TI)(τ:O Ty){a:V S}(h:Sm s s' a):fT (xR i τ s' a)=fT (xR i τ s a):=by
 cases a with
 |ptr o off=>
  simp[xR,h o (by simp[cH])];cases s.ob.get o with
  |none=>rfl|some ob=>
   cases ob with
   |box b=>
    dsimp only;cases Nq (cC ((b.drop off).take i.size)) i.size with|false=>rfl|true=>exact gk _ _ _ λ_=>⟨rfl,rfl⟩
   |_=>rfl
 |lD t x off=>exact gk _ _ _ λ_=>⟨rfl,rfl⟩|lC o e k off=>
  simp[xR,SP (h o (by simp[cH]))];cases KA s o e with|none=>rfl|some x=>exact gk _ _ _ λ_=>⟨rfl,rfl⟩
 |_=>rfl
theorem Hs(i:TI)(τ:O Ty){a b:V S}(h:Sm s s' a):fT (jS i τ s' a b)=fT (jS i τ s a b):=by
 unfold jS;split
 .rename_i e n c _;cases a with
  |sh o r=>
   simp[SP (h o (by simp[cH]))];cases KA s o r with|none=>rfl|some x=>dsimp only;cases rH x.1 e<;>rfl
  |ty t x=>dsimp only;rw[AY h];cases JA s e (.ty t x)<;>rfl
  |emp=>rfl|j4 n t l=>dsimp only;rw[AY h];cases JA s e (.j4 n t l)<;>rfl
  |o6 n t l=>dsimp only;rw[AY h];cases JA s e (.o6 n t l)<;>rfl
  |_=>rfl
 unfold wB;split;rename_i k;cases Nt k _<;>rfl;rfl;rfl
theorem aaL(E:fN)(o:Op)(c:qg o=J)(h:∀x∈o.operands.toList,∀v,cx fr x=Z v->Sm s s' v):fT (cG E fr s' o)=fT (cG E fr s o):=by
 cases o with
 |alloc=>cases c
 |box=>cases c
 |store=>cases c
 |buildSlice=>cases c
 |slice=>cases c
 |move x=>exact gk _ _ _ λ_=>⟨rfl,rfl⟩|assign x=>exact gk _ _ _ λ_=>⟨rfl,rfl⟩|pick x y z=>simp[cG];split;exact gk _ _ _ λ_=>⟨rfl,rfl⟩;rfl
 |build t i=>simp[cG];split;split;exact gk _ _ _ λ_=>⟨rfl,rfl⟩;rfl;rfl
 |load t x=>
  grind[cG,Xb,Op.operands]
 |nilCheck x=>
  simp[cG];split<;>first|rfl|(split<;>rfl)
 |binOp op t x y u=>simp[cG];split;exact gk _ _ _ λ_=>⟨rfl,rfl⟩;rfl
 |unOp op t x=>simp[cG];split;exact gk _ _ _ λ_=>⟨rfl,rfl⟩;rfl
 |convert t u x=>simp[cG];split;unfold SE;split;exact gk _ _ _ λ_=>⟨rfl,rfl⟩;exact gk _ _ _ λ_=>⟨rfl,rfl⟩;rfl;rfl
 |makeInterface t x=>simp[cG];split;split<;>rfl;rfl
 |makeFunc f a b=>simp[cG];split<;>rfl
 |extract x k=>simp[cG];split;unfold Ae;split;exact gk _ _ _ λ_=>⟨rfl,rfl⟩;rfl;rfl
 |fieldAddr t x k=>
  simp[cG];split;unfold qy;split;split
  .rename_i off size d _;cases Nq size 0 with
   |true=>rfl|false=>
    first|rfl|(simp only[gJ];split<;>rfl)
  rfl;rfl;rfl
 |field t x k=>
  simp[cG];split;unfold Bv;split;split
  .rename_i off size d e _ _;dsimp only;cases(Nq (cC ((e.drop off).take size)) size&&!(Nq size 0))with|false=>rfl|true=>exact gk _ _ _ λ_=>⟨rfl,rfl⟩
  rfl;rfl;rfl
 |indexAddr t x g=>
  grind[cG,Hs,Op.operands]
 |index t x g=>simp[cG];split;unfold Bn;split<;>rfl;rfl
 |typeAssert x a t ok=>
  simp[cG];split;rename_i v h1 h2;unfold DR;split;rfl
  .rename_i u v _;cases Nq u t with|true=>rfl|false=>exact gk _ _ _ λ_=>⟨rfl,rfl⟩
  rename_i u v _;cases Nq u t<;>rfl;rfl;rfl
 |_=>rfl
end
section
variable {fr:bV S}{s s':bf S}
theorem IX{r a:nr S}(h:fT r=fT a):r=Y↔a=Y:=by cases r<;>cases a<;>simp_all [fT]
def aaU{s s':bf S}{a b:Ty}(h:Sm s s' v):W8 s' a b v=W8 s a b v:=by unfold W8;split;rename_i o;rw[h o (by simp[cH])];rfl;rfl;rfl
theorem aef(E:fN)(o:Op)(b:qg o=J)(c:∀x∈o.operands.toList,∀v,cx fr x=Z v->Sm s s' v):fT (tC E fr s' o)=fT (tC E fr s o):=by
 cases o with
 |makeMap=>cases b
 |mapUpdate=>cases b
 |insert=>cases b
 |makeSlice=>cases b
 |range=>cases b
 |lookup t x d ok=>simp[tC];split;rename_i m e f h1 h2 h3;have:=c x (by simp[Op.operands]) _ h2;simp[aaU this];split;split<;>rfl;rfl;rfl
 |nilCheck x=>simp[tC];split<;>rfl
 |typeAssert x t u ok=>simp[tC];split;rename_i τ n y _ _ _;split;rfl;rename_i j _ _;cases rH (mR (S.alts n) j) τ<;>cases ok<;>rfl;cases ok<;>rfl;rfl
 |build t g=>simp only[tC];split;split;exact gk _ _ _ λ_=>⟨rfl,rfl⟩;rfl;rfl
 |binOp op t x y u=>
  cases op<;>first
   |rfl|(
     cases y with
     |const v=>
      cases v with
      |nilIface=>simp only[tC];split<;>first|rfl|(split<;>rfl)
      |pointer a=>cases a<;>first|rfl|(simp only[tC];split<;>first|rfl|(split<;>rfl))
      |slice a n m=>
       cases a<;>cases n<;>cases m<;>first
        |rfl|(
         simp[tC];split;rename_i h2;have:=c x (by simp[Op.operands]) _ h2;simp[AY this];split<;>rfl;rfl)
      |_=>rfl
     |_=>rfl)
 |_=>rfl
theorem aei(E:fN)(o:Op)(b:qg o=J)(c:∀x∈o.operands.toList,∀v,cx fr x=Z v->Sm s s' v):fT (AP E fr s' o)=fT (AP E fr s o):=by
 cases o with
 |slice=>cases b
 |store=>cases b
 |buildSlice=>cases b
 |indexAddr t x d=>simp[AP];split;rename_i o r h1;rw[c x (by simp[Op.operands]) _ h1 o (by simp[cH])];split;split;split;exact pL λ_=>rfl;rfl;rfl;rfl;rfl
 |load t a=>simp only[AP];split;rename_i o e k off h1;rw[c a (by simp[Op.operands]) _ h1 o (by simp[cH])];split;split;exact pL λ_=>PZ (pL λ_=>rfl) (pL λ_=>gk _ _ _ λ_=>⟨rfl,rfl⟩);rfl;rfl;rfl
 |_=>rfl
theorem RK(E:fN){o:Op}(a:fT (AP E fr s' o)=fT (AP E fr s o))(h1:fT (cG E fr s' o)=fT (cG E fr s o))(h2:fT (tC E fr s' o)=fT (tC E fr s o)):fT (zS E fr s' o)=fT (zS E fr s o):=by
 grind[zS,IX]
theorem aeg(E:fN)(o:Op)(a:qg o=J)(b:∀x∈o.operands.toList,∀v,cx fr x=Z v->Sm s s' v):fT (zS E fr s' o)=fT (zS E fr s o):=by
 grind[aaL,aef,aei,RK]
def HA(a:L (aa×V S×bf S)):L (aa×V S):=a.map λp=>(p.1,p.2.1)
def Ja{ω:Type}(k:V S->O ω)(d:O ω):∀{l m:L (aa×V S×bf S)},HA l=HA m->wC k d l=wC k d m
 |[],[],_=>rfl|p::l,q::m,h=>by simp[HA,mh,Mi,fc]at h;simp[wC,h.1.1,h.1.2,Ja k d (l:=l) (m:=m) h.2]
 |[],_::_,h=>by simp[HA]at h
 |_::_,[],h=>by simp[HA]at h
def Yo(r:O (L (aa×V S×bf S)×aa×V S×bf S)):O (L (aa×V S)×aa×V S):=match r with
 |none=>Y|some (l,p,d,_)=>Z (HA l,p,d)
def Gq(n:Int)(ag:aa)(sz:Nat)(cs:L (V S))(s s':bf S):∀l:L Nat,HA (za n ag sz cs s' l)=HA (za n ag sz cs s l)
 |[]=>rfl|j::l=>by simp only[za];split;simp[HA,mh,Mi,true_and];exact Gq n ag sz cs s s' l;rfl
def aeh(E:fN)(o:Op)(b:qg o=J)(c:∀x∈o.operands.toList,∀v,cx fr x=Z v->Sm s s' v):Yo (Io E fr s' o)=Yo (Io E fr s o):=by
 cases o with
 |next=>cases b
 |lookup t x d ok=>
  simp[Io];split;rename_i a e h1 h2 h3;have:=c x (by simp[Op.operands]) _ h2 a (by simp[cH]);rw[this];split;split
  simp_all[Yo,HA]
  rfl;rfl;rfl
 |index t x d=>
  simp[Io];split;rename_i i f e _ _ _;split
  .cases Nq (cC f) i.size with|false=>rfl|true=>simp[gn,Yo,Gq _ _ _ _ s s']
  rfl;rfl
 |_=>rfl
end
def IS{s s':bf S}{e:Ty}:∀{ps:L (Nat×V S)}{es:L (den S.A e)},(∀p∈ps,Sm s s' p.2)->(∀p∈ps,u5 p.2=W)->om s' e es ps=om s e es ps
 |[],es,_,_=>rfl|(k,v)::ps,es,h,b=>by simp[om,zu e v (h _ fQ) (b _ fQ)];cases bT s e v with|none=>rfl|some x=>dsimp only;rw[IS (λp a=>h p (hJ _ a)) (λp a=>b p (hJ _ a))]
theorem EU{fr:bV S}:∀{ps:L (Nat×Operand)}{l:L (Nat×V S)},iL fr ps=Z l->∀p∈l,∃x∈ps.map (·.2),cx fr x=Z p.2
 |[],l,h,p,a=>by grind[iL]
 |(k,x)::ps,l,h,p,a=>by
  simp[iL]at h;split at h;rename_i h2;simp at h;subst h;obtain rfl|a:=fF.1 a
  simp_all
  let ⟨y,b,h⟩:=EU h2 p a
  grind
  cases h
theorem Ik{fr:bV S}:∀{ps:L Operand}{l:L (V S)},jN fr ps=Z l->∀v∈l,∃x∈ps,cx fr x=Z v
 |[],l,h,p,a=>by grind[jN]
 |x::ps,l,h,p,a=>by
  simp[jN]at h;split at h;rename_i h2;simp at h;subst h;obtain rfl|a:=fF.1 a
  simp_all
  let ⟨y,b,h⟩:=Ik h2 p a
  grind
  cases h
theorem Tt(i:TI)(τ:O Ty){s s':bf S}{v:V S}(hs:∀e,JA s' e v=JA s e v)(f:Mw v=[])(l h m:O (V S)):fT (vo i τ s' v l h m)=fT (vo i τ s v l h m):=by
 unfold vo;rw[f];simp[dS,hs];split;split;split<;>rfl;rfl
 .rename_i e lo _;cases i.kd with
  |slice a b c d=>
   cases JA s e v with
   |none=>rfl|some g=>
    dsimp only;cases BI (aq g) h with
    |none=>rfl|some j=>
     cases m with
     |none=>rfl|some y=>
      cases h with
      |none=>rfl|some z=>
       cases y with
       |kn k n=>
        cases k with
        |i64=>cases n with
         |ofNat n=>cases n<;>rfl
         |negSucc n=>rfl
        |_=>rfl
       |ty t x=>dsimp only;cases l6 .i64 (V.ty (S:=S) t x)<;>rfl
       |_=>rfl
  |_=>rfl
 rfl
def Ii{s s':bf S}:∀{ps:L Pk}{l:L (V S)},cr ps=W->(∀v∈l,Sm s s' v)->jB l=W->eC s' ps l=eC s ps l
 |[],[],_,_,_=>rfl|.one (.dat t)::ps,v::l,a,h,b=>by simp[jB,eM]at b;simp[eC,oG,zu t v (h v fQ) b.1,Ii (ps:=ps) (by simpa[cr]using a) (λv c=>h v (hJ _ c)) b.2]
 |.one (.own _)::_,_,a,_,_=>by simp[cr]at a
 |.one (.jQ ..)::_,_,a,_,_=>by simp[cr]at a
 |.one (.nil _)::_,_,a,_,_=>by simp[cr]at a
 |.one (.ptr _)::_,_,a,_,_=>by simp[cr]at a
 |.box _::_,_,a,_,_=>by simp[cr]at a
 |[],_::_,_,_,_=>rfl|.one _::_,[],_,_,_=>rfl
def yM{p:Nat->aa}:∀{l:L (V S)}{v:V S},v∈l->cH p v=W->iA p l=W
 |a::l,v,h,b=>by
  obtain rfl|h:=fF.1 h
  simp[iA,b];simp[iA,yM h b]
def Dj(E:fN){s s':bf S}{ts:Array TypeId}{args:L (V S)}(h:∀v∈args,Sm s s' v):fT (g8 E s' .len ts args)=fT (g8 E s .len ts args):=by
 unfold g8;split;rename_i _;split;split<;>rfl;split;rw[AY (h _ (by simp))];exact gk _ _ _ λ_=>⟨rfl,rfl⟩;rfl;rfl
 simp_all
 rfl
theorem BF(E:fN){s s':bf S}{b:Builtin}(a:Dv b=W){ts:Array TypeId}{args:L (V S)}(h:∀v∈args,Sm s s' v):fT (kV E s' b ts args)=fT (kV E s b ts args):=by
 have h1:fT (g8 E s' b ts args)=fT (g8 E s b ts args):=by cases b with|len=>exact Dj E h|max=>rfl|min=>rfl|_=>cases a
 have h2:fT (s6 E s' b ts args)=fT (s6 E s b ts args):=by unfold s6;split;rename_i o;rw[h (.mp o) (by simp) o (by simp[cH])];split<;>rfl;split<;>rfl;split<;>rfl;rfl
 have c:fT (mC E s' b ts args)=fT (mC E s b ts args):=by unfold mC;split;rename_i o r;rw[h (.sh o r) (by simp) o (by simp[cH])];split;split;split;exact pL λ_=>rfl;rfl;rfl;rfl;cases a;cases a;rfl
 have h3:fT (s7 E s' b ts args)=fT (s7 E s b ts args):=by cases b<;>first|rfl|cases a
 grind[kV,IX]
def adS{α:Type}(f:aa->V S->O α)(r:nr S):O α:=match r with
 |none=>Y|some (p,t,_)=>f p t
def Ap{α:Type}{r a:nr S}(h:fT r=fT a)(f:aa->V S->O α):adS f r=adS f a:=by
 cases r with
 |none=>cases a with|none=>rfl|some x=>cases h
 |some x=>cases a with
  |none=>cases h
  |some y=>simp[fT,gC,fc]at h;simp[adS];rw[h.1,h.2]
theorem FI(E:er S)(g:O aa){fr:bV S}{s s':bf S}(o:Oper){ω:Type}(k:V S->O ω)(i:∀x∈o.op.operands.toList,∀v,cx fr x=Z v->Sm s s' v) :
  fm E g fr s' o k=fm E g fr s o k:=by
 unfold fm;have A:qg o.op=J->fT (zS E.T fr s' o.op)=fT (zS E.T fr s o.op):=λhq=>aeg E.T o.op hq i;cases B:o.op with
 |call c=>
  rw[B]at i;simp only[Op.operands,Call.operands,TN,eN]at i;dsimp only;cases ha:jN fr c.args.toList with
  |none=>rfl|some args=>
   have w:∀v∈args,Sm s s' v:=λv z=>by
    grind[Ik]
   cases K:c.callee with
   |value f=>
    dsimp only;cases hf:cx fr f with
    |none=>rfl|some v=>
     simp;have z:=i f (.inl (by rw[K];simp)) v hf;cases d:o8 v args with
     |none=>rfl|some q=>
      let ⟨f',j⟩:=q
      dsimp only;cases hg:E.Hv f' with
      |none=>rfl|some c'=>
       dsimp only;have m:∀v∈j,Sm s s' v:=by
        unfold o8 at d;split at d;obtain⟨_,rfl⟩:=d;intro u hu;simp only[eN]at hu;obtain(hu|hu)|hu:=hu
        exact λo P=>z o (by simp[cH,yM hu P])
        grind
        exact λo P=>z o (by simp[cH,yM hu P]);cases d
       cases Q:cr c'.ps with
       |false=>rfl|true=>
        cases R:jB j with|false=>simp|true=>rw[Ii Q m R]
   |builtin b=>
    dsimp only;cases hb:Dv b with
    |false=>rfl|true=>
     have:=Ap (BF E.T hb (ts:=c.argTypes) w) (λp t=>yU g p (k t));cases h1:kV E.T s' b c.argTypes args with
     |none=>cases h2:kV E.T s b c.argTypes args with|none=>rfl|some y=>rw[h1,h2]at this;exact this
     |some x=>cases h2:kV E.T s b c.argTypes args with|none=>rw[h1,h2]at this;exact this|some y=>rw[h1,h2]at this;exact this
   |invoke=>rfl
 |buildSlice t n ps=>
  rw[B]at i;simp only[Op.operands]at i;dsimp only;cases C:iL fr ps.toList with
  |none=>rfl|some l=>
   dsimp only;cases r:jB (l.map (·.2))with
   |false=>rfl|true=>
    refine Ap ?_ (λp t=>yU g p (k t));refine RK E.T ?_ ?_ rfl;simp[AP];split;rename_i kx F;split;split;split;refine pL λ_=>?_;have hmm:=i (.tmp kx) (by rw[F];simp);rename_i I _ _ _ _ _ _ _ _ _ _ _ _;rw[F]at C;simp[iL,cx,I,gC]at C;subst C;simp[mh,List.map_nil,jB,EK]at r;rw[zu _ _ (hmm _ I) r];split;rename_i Kc;have:=sL _ _ _ r Kc;subst this;rfl;rfl;rfl;rfl;rfl;split;split;cases Nq n 0<;>rfl;rfl;rfl;rfl;simp only[cG,C];split;rename_i e ps' h1 h2 h3;cases h3;split
    .rename_i sz _ _ _ _;cases Nl (Nat.mul n sz) 16777216 with
     |false=>rfl|true=>
      rw[IS (λp hp=>by
       let ⟨x,I,h⟩:=EU C p hp
       exact i x (by simpa using I) _ h) (E1 r)]
      cases hel:om s e (List.replicate n (S.zero e)) l with
      |none=>rfl|some q=>
       let ⟨es,os⟩:=q
       have:=BA (E1 r) hel;subst this;rfl
    rfl;rfl
 |slice t x lo hi mx=>
  rw[B]at i;dsimp only;cases z:cx fr x with
  |none=>rfl|some v=>
   dsimp only;cases r:u5 v with
   |false=>rfl|true=>
    refine Ap ?_ (λp t=>yU g p (k t));have hsm:=i x (by simp[Op.operands]) v z;have hown:Mw v=[]:=by cases v<;>first|rfl|simp[u5]at r
    rw[DA rfl (Ba z r),DA rfl (Ba z r)]
    grind[cG,Tt,AY]
 |store=>rfl|alloc=>rfl|box=>rfl|panic=>rfl|makeMap=>rfl|mapUpdate=>rfl|insert=>rfl|makeSlice=>rfl|range=>rfl|next=>rfl|defer=>rfl|_=>
  have a:=aeh E.T o.op (by rw[B];rfl) i;rw[B]at A a;dsimp only;have h2:=Ap (A rfl) (λp t=>yU g p (k t));generalize I:Io E.T fr s' _=x at a;generalize hy:Io E.T fr s _=y at a;cases x with
  |none=>cases y with|none=>exact h2|some y=>cases a
  |some x=>cases y with
   |none=>cases a
   |some y=>simp only[Yo,gC,fc]at a;obtain⟨q1,q2,q3⟩:=a;dsimp only;rw[q2,q3];exact Ja k _ q1
end
theorem Kx(e j:Nat):(1 <<< e).testBit j=decide (e=j):=by rw[Nat.shiftLeft_eq,Ib,Nat.testBit_two_pow]
theorem IM(f:Nat->Nat)(j:Nat):∀(l:L Nat)(z:Nat),(l.foldl (λb e=>b||| (1 <<< e||| f e)) z).testBit j=(z.testBit j||l.any λe=>decide (e=j)||(f e).testBit j)
 |[],z=>by simp
 |e::l,z=>by
  rw[Mj,IM f j l]
  grind[Kx]
theorem wu:∀(l:L Oper)(a:L Nat)(i:Nat),i<a.length->(NR l a).getD i 0=a.getD i 0
 |[],_,_,_=>rfl|o::l,a,i,h=>by
  rw[NR,wu l _ i (by grind)]
  grind
def any_eq{α:Type}{f g:α->aa}:∀{l:L α},(∀e∈l,f e=g e)->l.any f=l.any g
 |[],_=>rfl|a::l,h=>by rw[List.any_cons,List.any_cons,h a fQ,any_eq λe b=>h e (hJ _ b)]
theorem SN:∀(l:L Oper)(acc:L Nat)(k:Nat)(o:Oper),l[k]?=Z o->uQ l acc.length=W->∀j,
  ((NR l acc).getD (acc.length+k) 0).testBit j=(xD o).any λe=>decide (e=j)||((NR l acc).getD e 0).testBit j
 |[],acc,k,o,h,_,j=>by simp at h
 |p::l,acc,k,o,h,c,j=>by
  simp only[uQ,eM]at c;cases k with
  |zero=>simp at h;subst h;rw[NR,wu _ _ _ (by simp_all)];simp;rw[IM];simp;refine any_eq λe d=>?_;have a:e<acc.length:=gH (j5.1 c.1 e d);have:=wu l (acc++[(xD p).foldl (λb e=>b||| (1 <<< e||| acc.getD e 0)) 0]) e (by grind);simp[oc,Wf a]at this ⊢;rw[this]
  |succ k=>
   rw[NR];have:=SN l (acc++[(xD p).foldl (λb e=>b||| (1 <<< e||| acc.getD e 0)) 0]) k o (by simpa using h) (by grind) j
   grind
section
variable {ops:List Oper}
def Pre(ops:L Oper)(i j:Nat):Prop:=((wq ops).getD i 0).testBit j=W
variable {i:Nat}{o:Oper}
def Dz(a:uQ ops 0=W)(h:ops[i]?=Z o)(j:Nat):Pre ops i j↔∃e∈xD o,e=j\/Pre ops e j:=by
 have:=SN ops [] i o h a j
 simp_all[Pre,wq]
def AB:∀{l:L Oper}{n:Nat},uQ l n=W->∀{k:Nat}{o:Oper},l[k]?=Z o->∀e∈xD o,e<n+k
 |[],_,_,k,o,h,_,_=>by simp at h
 |p::l,n,a,k,o,h,e,b=>by
  simp only[uQ,eM]at a;cases k with
  |zero=>
   simp_all
  |succ k=>have:=AB a.2 (k:=k) (by simpa using h) e b;omega
theorem WI(a:uQ ops 0=W):∀{i:Nat}{o:Oper},ops[i]?=Z o->∀j,Pre ops i j->j<i:=by
 intro i
 induction i using Nat.strongRecOn with
 |_ i g=>
  intro o h j b
  let ⟨e,c,d⟩:=(Dz a h j).1 b
  have f:=AB a h e c
  grind
theorem TW(a:uQ ops 0=W):∀{i:Nat}{o:Oper},ops[i]?=Z o->∀{j k:Nat},Pre ops i j->Pre ops j k->Pre ops i k:=by
 intro i
 induction i using Nat.strongRecOn with
 |_ i g=>
  intro o h j k c d
  let ⟨e,b,hej⟩:=(Dz a h j).1 c
  refine(Dz a h k).2 ⟨e,b,.inr ?_⟩;obtain rfl|hej:=hej
  exact d;have f:=AB a h e b
  grind
theorem mZ(b:uQ ops 0=W){a:Nat->Prop}(k:∀i o,ops[i]?=Z o->a i->∀e∈xD o,a e):∀{i:Nat}{o:Oper},ops[i]?=Z o->(∀e∈xD o,a e)->∀j,Pre ops i j->a j:=by
 intro i
 induction i using Nat.strongRecOn with
 |_ i l=>
  intro o h d j f
  let ⟨e,c,hej⟩:=(Dz b h j).1 f
  obtain rfl|hej:=hej
  exact d _ c;have g:=AB b h e c
  grind
theorem zA{a b:Nat}:Tp a b=W↔∀j,a.testBit j=W->b.testBit j=W:=by
 unfold Tp;constructor;intro h j c;have h:a&&& b=a:=uZ h
 grind
 intro h;have:a&&& b=a:=Nat.eq_of_testBit_eq λj=>by
  simp_all
 rw[this];simp
def rO(ops:L Oper):Vt:=ops.zipIdx.map λp=>(p.2,p.1)
theorem jg{i:Nat}{o:Oper}:(i,o)∈rO ops↔ops[i]?=Z o:=by
 unfold rO;rw[tJ];constructor
 grind
 intro h;exact⟨(o,i),Md.2 h,rfl⟩
theorem uj(h:afy ops (wq ops)=W){i:Nat}{o:Oper}(hi:ops[i]?=Z o){d:Nat}(f:o.dst=Z d) :
  d<bD/\d∉tmpsOf o.op/\∀{j:Nat}{p:Oper},ops[j]?=Z p->i≠j->p.dst≠Z d/\(d∈tmpsOf p.op->Pre ops j i\/Pre ops i j):=by
 have h1:=j5.1 h (o,i) (Md.2 hi);simp only[f,eM]at h1;have c:∀{p:Oper},d∈tmpsOf p.op->Lt p d=W:=by
  intro p a
  let ⟨x,g,b⟩:=zN.1 a
  refine Rz.2 ⟨x,g,?_⟩;cases x with
  |tmp k=>
   simp_all
  |_=>cases b
 refine⟨gH h1.1,λa=>?_,λ{j p}l m=>?_⟩;have h2:=j5.1 h1.2 (o,i) (Md.2 hi)
 simp_all
 have h2:=j5.1 h1.2 (p,j) (Md.2 l);have e:Nq i j=J:=by
  grind[Nat.eq_of_beq_eq_true]
 simp only[e,gJ,eM,nI]at h2;refine⟨λn=>?_,λa=>?_⟩
 simp_all
 obtain h3|h3:=h2.2
 simp_all
 exact h3
def antiP(ops:L Oper)(i:Nat):Prop:=∃o,ops[i]?=Z o/\∃d,o.dst=Z d/\∃j p,ops[j]?=Z p/\d∈tmpsOf p.op/\Pre ops i j
def YD(hi:ops[i]?=Z o)(h:SU ops (wq ops) i o=J):¬antiP ops i:=by
 rintro⟨e,b,d,f,j,p,g,l,m⟩
 have:o=e:=jG (hi.symm.trans b);subst this;unfold SU at h;rw[f]at h;have h1:=List.any_eq_false.1 h (p,j) (Md.2 g);have a:Lt p d=W:=by
  let ⟨x,n,c⟩:=zN.1 l
  refine Rz.2 ⟨x,n,?_⟩;cases x with
  |tmp k=>
   simp_all
  |_=>cases c
 refine h1 ?_;simp only[a,p7];exact m
def XZ(h:PD ops (wq ops)=W)(hi:ops[i]?=Z o){d:Nat}(a:nU ops o=Z d):∃j p,ops[j]?=Z p/\p.dst=Z d/\Pre ops i j:=by
 have h1:=j5.1 h (o,i) (Md.2 hi);unfold nU at a;cases e:o.guard with
 |none=>simp_all|some q=>
  let ⟨j,c⟩:=q
  simp only[e]at a h1;rw[jP,uY]at a
  let ⟨p,f,b⟩:=a
  exact⟨j,p,f,b,h1⟩
def Ea(h:adR ops=W)(hi:ops[i]?=Z o):∀k∈tmpsOf o.op,k<bD:=by
 intro k b
 let ⟨x,c,a⟩:=zN.1 b
 have h1:=j5.1 h o (hU hi);have h2:=j5.1 h1 x c;cases x with
 |tmp j=>
  simp_all
 |_=>cases a
def YF{E:fN}{n:Nat}(h:Qq E n ops=W)(hi:ops[i]?=Z o)(a:eX o=W):o.guard=Y/\(∃t c,o.op=.alloc t/\E.E.ti t=Z c)/\∀d,o.dst=Z d->d<n:=by
 have h1:=j5.1 h o (hU hi);simp[a,cond_true,eM]at h1;unfold eX at a;split at a;rename_i t b;rw[b]at h1;refine⟨by simpa using a,⟨t,?_⟩,λd f=>?_⟩
 .cases e:E.E.ti t with|none=>simp_all|some c=>simp_all
 simp_all
 cases a
theorem Ih(done:Nat):∀(l:Vt)(z j:Nat),(l.foldl (λb(i,o)=>bif eX o&&!(done.testBit i)then b||| 1 <<< i else b) z).testBit j=(z.testBit j||l.any λ(i,o)=>eX o&&!(done.testBit i)&&decide (i=j))
 |[],z,j=>by simp
 |(i,o)::l,z,j=>by rw[Mj,Ih done l,List.any_cons];cases h:(eX o&&!(done.testBit i))with|false=>grind|true=>simp only[h,gn,LZ,Kx,p7,Bool.or_assoc]
def vC(done j:Nat):(xO (rO ops) done).testBit j=W↔∃o,ops[j]?=Z o/\eX o=W/\done.testBit j=J:=by
 unfold xO;rw[Ih,Nat.zero_testBit,Bool.false_or,Rz];constructor
 rintro⟨⟨i,o⟩,a,h⟩
 simp at h;obtain⟨⟨h1,h2⟩,rfl⟩:=h;exact⟨o,jg.1 a,h1,h2⟩
 rintro⟨o,b,h1,h2⟩
 exact⟨(j,o),jg.2 b,by simp[h1,h2]⟩
end
structure HM(g:Gh)(w0 w:av)(b:Nat)(z:Array az):Prop where
 new:w0.heap.size<=b
 lt:b<w.heap.size
 bp:¬g.bp b
 own:∀o,¬bx g o b
 mem:∃ty,w.heap[b]?=Z (.cells z ty (0,0))
section
variable {g g':Gh}{w0 w w':av}{b:Nat}{z:Array az}
theorem HM.AT(h:HM g w0 w b z){ow:L Nat}{s s':bf S}(c:cO ow s g w s' g' w')(f:s.fl=0):HM g' w0 w' b z:=by
 let ⟨ty,i⟩:=h.mem
 refine⟨h.new,iE h.lt c.ext.size,λa=>?_,λo d=>?_,ty,?_⟩;obtain a|a|⟨o,_,d⟩:=c.ext.nQ b a
 exact h.bp a
 grind
 exact h.own o d;obtain⟨j,_,e⟩|a:=c.ext.own o b (by omega) d
 exact h.own j e
 simp_all
 rw[c.ext.heap b h.lt λo _=>h.own o];exact i
def aY.YG{s:St}(hs:aY g s w)(hn:s.aF<bD)(hf:HM g w0 w b z){cs:L T}(hl:cs.length=z.size)
  (y:∀(j:Nat)(t:T)(v:az),cs[j]?=Z t->z[j]?=Z v->aH g w t v) :
  aY (g.dB s.aF b) (ee s (.box cs)).2 w/\mH g (g.dB s.aF b)/\(∀k c,bx (g.dB s.aF b) k c->bx g k c\/(k=s.aF/\c=b)):=by
 have a:=hs.ai s.aF (cM _);have n:∀o c,g.bP o=Z c->(g.dB s.aF b).bP o=Z c:=λo c h=>by
  have:o≠s.aF:=λe=>by rw[e,a.1]at h;cases h
  simp[Gh.dB,this,h]
 have i:mH g (g.dB s.aF b):=⟨n,λ_ _ _ h=>h,λ_ h=>h⟩;have d:∀k c,bx (g.dB s.aF b) k c->bx g k c\/(k=s.aF/\c=b):=by
  rintro o c ⟨h1,h2|h2⟩
  by_cases f:o=s.aF;subst f;simp[Gh.dB]at h2;exact .inr ⟨rfl,h2.symm⟩;simp[Gh.dB,f]at h2;exact .inl ⟨h1,.inl h2⟩;exact .inl ⟨h1,.inr h2⟩
 let ⟨ty,A⟩:=hf.mem
 refine⟨⟨by simp only[ee];omega,λo f=>?_,λo c p=>?_,λo e x B=>?_,hs.bp,λo q c h C=>?_⟩,i,d⟩;simp only[ee]at f;have h1:o≠s.aF:=by omega
 simp[Gh.dB,h1,if_false];exact hs.ai o (by omega);by_cases f:o=s.aF;subst f;have r:c=b:=by simp[Gh.dB]at p;exact p.symm
 subst r;refine⟨hf.bp,hf.lt,λob l=>⟨_,A,?_⟩⟩;simp[ee]at l;rw[Tr.aV _ _ _ _ hn,bO rfl]at l;obtain rfl:=jG l;exact .box cs z ty hl λj t v E F=>(y j t v E F).le i;have u:g.bP o=Z c:=by simpa[Gh.dB,f]using p
 exact(hs.box o c u).le i rfl (by simp[ee];rw[Tr.aV _ _ _ _ hn,cm f]);have m:g.arr o e=Z x:=B;have f:o≠s.aF:=λh=>by rw[h,a.2 e]at m;cases m
 exact(hs.arr o e x m).le rfl (by simp[ee];rw[Tr.aV _ _ _ _ hn,cm f]) (λ_ _ _ h=>h) (λ_=>rfl);obtain h1|⟨h1,h3⟩:=d o c h<;>obtain h2|⟨h2,h4⟩:=d q c C
 exact hs.jF o q c h1 h2;subst h4;exact absurd h1 (hf.own o);subst h3;exact absurd h2 (hf.own q);rw[h1,h2]
def HM.keep{o c:Nat}{f:Array az}(h:HM g w0 w b z)(j:HM g w0 w c f)(i:b≠c)(a:∀k e,bx (g.dB o c) k e->bx g k e\/(k=o/\e=c)):HM (g.dB o c) w0 w b z:=
 ⟨h.new,h.lt,h.bp,λk d=>by
  obtain d|⟨_,rfl⟩:=a k b d
  exact h.own k d;omega,h.mem⟩
end
def ZD(E:fN)(g:Gh)(w0 w:av)(a:Act)(o:Oper)(b:Nat):Prop:=
 ∀t c d,o.op=.alloc t->E.E.ti t=Z c->o.dst=Z d->∃z,a.tmps[d]?=Z (.pointer (Z ⟨b,0,Y⟩))/\HM g w0 w b z/\ZOk c.zero z
structure Adp(E:fN)(which:Nat)(l:Vt)(fr:bV S)(s:bf S)(g:Gh)(w:av)(a:Act)(fr':bV S)(s':bf S)(g':Gh):Prop where
 rel:aY g' (aE s') w
 le:mH g g'
 bp:g'.bp=g.bp
 fl:s'.fl=s.fl
 lo:s'.lo=s.lo
 wr:s'.wr=s.wr
 dr:s'.dr=s.dr
 aF:s.aF<=s'.aF
 ob:∀o,o<s.aF->s'.ob.get o=s.ob.get o
 n:fr'.n=fr.n
 NA:fr'.df=fr.df
 old:∀k,(∀p∈l,which.testBit p.1=W->p.2.dst≠Z k)->fr'.get k=fr.get k
 new:∀k,(∃p∈l,which.testBit p.1=W/\p.2.dst=Z k)->∀t,fr'.get k=Z t->∃v,a.tmps[k]?=Z v/\aH g' w (low t) v
 own:∀k b,bx g' k b->bx g k b\/∃p∈l,which.testBit p.1=W/\∃d,p.2.dst=Z d/\a.tmps[d]?=Z (.pointer (Z ⟨b,0,Y⟩))
 abY:∀p∈l,which.testBit p.1=W->∃t ti d,p.2.op=.alloc t/\E.E.ti t=Z ti/\p.2.dst=Z d/\d<fr.n
theorem NY{E:fN}{f:Nat}{w0 w:av}{a:Act}{bl:Nat->Nat}:∀{l:Vt}{fr fr':bV S}{s s':bf S}{g:Gh},yb E f l fr s=Z (fr',s')->fr.n<=bD->aY g (aE s) w->
  (∀p∈l,f.testBit p.1=W->ZD E g w0 w a p.2 (bl p.1))->(l.map (·.1)).Nodup->(∀p∈l,∀q∈l,f.testBit p.1=W->f.testBit q.1=W->p.1≠q.1->bl p.1≠bl q.1)->
  (∀p∈l,∀q∈l,p.1≠q.1->∀d,p.2.dst=Z d->q.2.dst≠Z d)->∃g',Adp E f l fr s g w a fr' s' g':=by
 intro l
 induction l with
 |nil=>intro fr fr' s s' g h _ hs _ _ _ _;obtain⟨rfl,rfl⟩:=h;exact⟨g,hs,mH.refl _,rfl,rfl,rfl,rfl,rfl,cM _,λ_ _=>rfl,rfl,rfl,λ_ _=>rfl,λk⟨p,hp,_⟩=>by(cases hp),λ_ _ h=>.inl h,λp hp=>by(cases hp)⟩
 |cons p l ih=>
  intro fr fr' s s' g h hn hs he x B C
  let ⟨i,o⟩:=p
  rw[mh,JL]at x;have A:∀q∈l,i≠q.1:=λq b e=>x.1 (tJ.2 ⟨q,b,e.symm⟩);obtain⟨hw,h1⟩|⟨hw,h1⟩:=ah h
  .clear h;split at h1
   .rename_i t d hop n;split at h1
    .rename_i ti Uu;obtain⟨hb,h⟩|⟨_,h⟩:=ah h1
     rotate_left;cases h;rw[eM]at hb;have P:s.aF<bD:=gH hb.1;have Q:d<fr.n:=gH hb.2
     let ⟨z,R,u,hz⟩:=he (i,o) fQ hw t ti d hop Uu n
     let ⟨z1,z2⟩:=sv (g:=g) (w:=w) hz
     let ⟨zl,aoV,v⟩:=hs.YG P u z1 z2
     have aeL:aY (g.dB s.aF (bl i)) (aE (dh s (.box (ti.zero.map zeroV)))) w:=by rw[gO];simp[cX,mV];exact zl
     have hE:∀q∈l,f.testBit q.1=W->ZD E (g.dB s.aF (bl i)) w0 w a q.2 (bl q.1):=by
      intro q b hw' t' ti' d' q1 q2 q3
      let ⟨z',r1,r2,r3⟩:=he q (hJ _ b) hw' t' ti' d' q1 q2 q3
      exact⟨z',r1,r2.keep u (B q (hJ _ b) (i,o) fQ hw' hw (λe=>A q b e.symm)) v,r3⟩
     let ⟨g',k⟩:=ih h (by exact hn) aeL hE x.2 (λq b r F=>B q (hJ _ b) r (hJ _ F)) (λq b r F=>C q (hJ _ b) r (hJ _ F))
     have hdl:∀q∈l,f.testBit q.1=W->q.2.dst≠Z d:=λq b _=>C (i,o) fQ q (hJ _ b) (A q b) d n;refine⟨g',k.rel,aoV.trans k.le,k.bp,k.fl,k.lo,k.wr,k.dr,fP (Cj _) k.aF,λj hj=>?_,k.n,k.NA,λj hj=>?_,λj⟨q,b,m,y⟩t' I=>?_,λj c K=>?_,λq b m=>?_⟩;rw[k.ob j (Nat.lt_succ_of_lt hj)];simp[dh];rw[Tr.aV _ _ _ _ P,cm (by omega)];rw[k.old j (λq b=>hj q (hJ _ b)),bV.jC _ _ _ _ (iE Q hn),cm]
     grind[List.mem_cons_self]
     obtain rfl|b:=fF.1 b
     have hjd:j=d:=by
      grind
     subst hjd;rw[k.old j hdl,bV.jC _ _ _ _ (iE Q hn),bO rfl]at I;cases I;refine⟨_,R,?_⟩;exact .ptr _ _ _ (k.le.bP _ _ (by simp[Gh.dB]));exact k.new j ⟨q,b,m,y⟩ t' I;obtain K|⟨q,b,m,y⟩:=k.own j c K
     obtain K|⟨_,rfl⟩:=v j c K
     exact .inl K;exact .inr ⟨(i,o),fQ,hw,d,n,R⟩
     grind
     obtain rfl|b:=fF.1 b
     grind
     exact k.abY q b m
    cases h1
   cases h1
  let ⟨g',k⟩:=ih h1 hn hs (λq b=>he q (hJ _ b)) x.2 (λq b r F=>B q (hJ _ b) r (hJ _ F)) (λq b r F=>C q (hJ _ b) r (hJ _ F))
  have hnw:∀q∈(i,o)::l,f.testBit q.1=W->q∈l:=λq b m=>by
   grind
  refine⟨g',k.rel,k.le,k.bp,k.fl,k.lo,k.wr,k.dr,k.aF,k.ob,k.n,k.NA,λj hj=>k.old j λq b=>hj q (hJ _ b),λj⟨q,b,m,y⟩=>k.new j ⟨q,hnw q b m,m,y⟩,λj c K=>(k.own j c K).imp id λ⟨q,b,h⟩=>⟨q,hJ _ b,h⟩,λq b m=>k.abY q (hnw q b m) m⟩
def mS(listed:Array aa)(i:Nat):Prop:=listed.getD i J=W
def DT(E:er S)(ops:L Oper)(fr:bV S)(s:bf S)(o:Oper):Prop:=
 gw fr o.dst=W/\((uJ ops fr o=W/\∀d,o.dst=Z d->∀a,fr.get d=Z a->a=mN)\/(iB ops fr o=Z Y/\∃t,fm E Y fr s o Z=Z t/\∀d,o.dst=Z d->∀a,fr.get d=Z a->Zb t a)\/
  ∃c,iB ops fr o=Z (Z c)/\M5 c fr o.op=W/\∃t,fm E (Z c) (ri fr o.op) s o Z=Z t/\∀d,o.dst=Z d->∀a,fr.get d=Z a->a=.gd c t)
theorem EZ{p:Nat->aa}{fr:bV S}{s s':bf S}{o:Op}(h:jA p fr o=J)(hs:∀x,p x=J->s'.ob.get x=s.ob.get x):∀x∈o.operands.toList,∀v,cx fr x=Z v->Sm s s' v:=by
 intro x a v b j c
 grind[jA,eg,Nat.eq_of_beq_eq_true]
theorem Af(E:er S)(g:O aa){fr:bV S}(o:Oper)(s s':bf S){ω:Type}(k:V S->O ω)(c:Ms o.op=W):fm E g fr s o k=fm E g fr s' o k:=by
 unfold fm;cases d:o.op with
 |move x=>simp[Io,zS,AP,cG];cases cx fr x<;>simp[tC]
 |assign x=>simp[Io,zS,AP,cG];cases cx fr x<;>simp[tC]
 |nilCheck x=>
  simp[Io,zS,AP,cG];cases h:cx fr x with
  |none=>simp[tC,h]|some v=>
   cases v with
   |ty t y=>cases t<;>simp[tC,h]
   |fn f a b=>cases f<;>simp[tC,h]
   |_=>simp[tC,h]
 |fieldAddr t x n=>
  simp[Io,zS,AP,cG];cases E.T.E.ti t with
  |none=>simp[tC]|some e=>
   cases cx fr x with
   |none=>simp[tC]|some v=>
    grind[qy,tC]
 |_=>simp[d,Ms]at c
theorem DT.move{E:er S}{ops:L Oper}{fr fr':bV S}{s s':bf S}{o:Oper}(h:DT E ops fr s o)(hn:fr'.n=fr.n)(j:∀k∈tmpsOf o.op,k<bD)(f:∀k∈tmpsOf o.op,fr'.get k=fr.get k)(l:∀k,nU ops o=Z k->fr'.get k=fr.get k)
  (g:∀d,o.dst=Z d->∀t,fr'.get d=Z t->fr.get d=Z t) {p:Nat->aa}
  (hs:s'=s\/(jA p fr o.op=J/\jA p (ri fr o.op) o.op=J/\∀x,p x=J->s'.ob.get x=s.ob.get x)\/Ms o.op=W):DT E ops fr' s' o:=by
 let ⟨q,h⟩:=h
 have i:iB ops fr' o=iB ops fr o:=o3 l;refine⟨by simp_all[gw],?_⟩;obtain⟨h1,h3⟩|⟨h1,t,h2,h3⟩|⟨c,h1,h4,t,h2,h3⟩:=h
 grind[qR]
 refine .inr (.inl ⟨i.trans h1,t,?_,λd a e b=>h3 d a e (g d a e b)⟩);rw[iC E Y o s' Z (iY f)];obtain rfl|⟨m,_,hs⟩|n:=hs
 exact h2
 grind[FI,EZ]
 grind[Af]
 refine .inr (.inr ⟨c,i.trans h1,by rw[ua c f];exact h4,t,?_,λd a e b=>h3 d a e (g d a e b)⟩);rw[iC E (Z c) o s' Z (iY (rf j f))];obtain rfl|⟨_,m,hs⟩|n:=hs
 exact h2
 grind[FI,EZ]
 grind[Af]
structure yp(E:er S)(ops:Array Oper)(n:Nat):Prop where
 bk:uQ ops.toList 0=W
 ds:afy ops.toList (wq ops.toList)=W
 gd:PD ops.toList (wq ops.toList)=W
 us:adR ops.toList=W
 al:Qq E.T n ops.toList=W
def At(ops:Array Oper)(i:Nat)(o:Oper):Prop:=ops.toList[i]?=Z o
structure sq(E:er S)(ops:Array Oper)(jD:bV S)(s0:bf S)(g0:Gh)(w0:av)(done:Nat)(fr:bV S)(s:bf S)(bl:Nat->Nat)(listed:Array aa)(g:Gh)(a:Act)(w:av):Prop where
 J1:listed.size=ops.size
 n:fr.n=jD.n
 nb:fr.n<=bD
 U6:a.tmps.size=fr.n
 df:eH g w (bB fr).df a.defers
 tm:∀k t,fr.get k=Z t->(∀i o,At ops i o->o.dst=Z k->(mS listed i↔done.testBit i=W))->∃v,a.tmps[k]?=Z v/\aH g w (low t) v
 Ui:∀i o,At ops i o->mS listed i->∀e∈xD o,mS listed e
 Yn:∀i o,At ops i o->done.testBit i=W->∀j,Pre ops.toList i j->done.testBit j=W
 ld:∀i o,At ops i o->mS listed i->done.testBit i=W\/eX o=W
 fo:∀i o,At ops i o->done.testBit i=W->¬mS listed i->eX o=J/\DT E ops.toList fr s o
 ea:∀i o,At ops i o->mS listed i->done.testBit i=J->ZD E.T g w0 w a o (bl i)/\bl i<w.heap.size
 eb:∀i j,mS listed i->mS listed j->done.testBit i=J->done.testBit j=J->i≠j->i<ops.size->j<ops.size->bl i≠bl j
 AT:eB s0 g0 w0 s g w
 fk:ej (ops.toList.filterMap (·.dst)) jD fr s.dr s0.aF
 fl:s.fl=0
 an:∀j,antiP ops.toList j->done.testBit j=W->mS listed j
structure Tb(E:er S)(ops:Array Oper)(jD:bV S)(s0:bf S)(g0:Gh)(w0:av)(done:Nat)(fr:bV S)(s:bf S)(listed:Array aa)(g:Gh)(a:Act)(w:av):Prop where
 n:fr.n=jD.n
 nb:fr.n<=bD
 U6:a.tmps.size=fr.n
 df:eH g w (bB fr).df a.defers
 tm:∀k t,fr.get k=Z t->(∀i o,At ops i o->o.dst=Z k->(mS listed i↔done.testBit i=W))->∃v,a.tmps[k]?=Z v/\aH g w (low t) v
 Yn:∀i o,At ops i o->done.testBit i=W->∀j,Pre ops.toList i j->done.testBit j=W
 AT:eB s0 g0 w0 s g w
section
variable {E:er S}{ops:Array Oper}{jD:bV S}{s0:bf S}{g0:Gh}{w0:av}{done:Nat}{fr:bV S}{s:bf S}{bl:Nat->Nat}{listed:Array aa}{g:Gh}{a:Act}{w:av}
def Dx(fr:bV S)(d:O Nat)(t:V S):(fr.kG d t).df=fr.df:=by cases d<;>rfl
theorem Fa(fr:bV S):(bB fr).df=fr.df.map lU:=rfl
theorem uk(done i j:Nat):(done||| 1 <<< i).testBit j=W↔done.testBit j=W\/i=j:=by rw[LZ,Kx,nI,sC]
theorem IK{d:O Nat}{t:V S}{k:Nat}(h:gw fr d=W)(hn:fr.n<=bD):(fr.kG d t).get k=if d=Z k then Z t else fr.get k:=by
 cases d with
 |none=>rfl|some d=>
  have h:d<fr.n:=gH h;simp only[bV.kG];rw[bV.jC _ _ _ _ (by omega)]
  grind
theorem Jt(c:yp E ops jD.n){i:Nat}{o:Oper}(f:At ops i o){k:Nat}(d:k∈tmpsOf o.op\/nU ops.toList o=Z k){j:Nat}{p:Oper}(g:At ops j p)(q:p.dst=Z k):i≠j/\(Pre ops.toList i j\/(Pre ops.toList j i/\antiP ops.toList j)):=by
 let ⟨_,h2,h3⟩:=uj c.ds g q
 obtain d|d:=d
 have a:i≠j:=by
  rintro rfl
  have:o=p:=jG (f.symm.trans g)
  simp_all
 exact⟨a,((h3 f (Ne.symm a)).2 d).imp id λh=>⟨h,p,g,k,q,i,o,f,d,h⟩⟩
 let ⟨r,s,l,m,b⟩:=XZ c.gd f d
 have n:j=r:=We λa=>(h3 l a).1 m;subst n;refine⟨λe=>?_,.inl b⟩;subst e;exact absurd (WI c.bk f _ b) (Nat.lt_irrefl _)
theorem sq.float(x:yp E ops jD.n)(h:sq E ops jD s0 g0 w0 done fr s bl listed g a w){i:Nat}{o:Oper}(u:At ops i o)(hnd:done.testBit i=J)(P:eX o=J)(han:¬antiP ops.toList i)(hpre:∀j,Pre ops.toList i j->done.testBit j=W)
  (hd:gw fr o.dst=W) {t:V S} (hf:(uJ ops.toList fr o=W/\t=mN)\/(iB ops.toList fr o=Z Y/\∃t0,fm E Y fr s o Z=Z t0/\Zb t0 t)\/∃c t1,iB ops.toList fr o=Z (Z c)/\M5 c fr o.op=W/\fm E (Z c) (ri fr o.op) s o Z=Z t1/\t=.gd c t1) :
  sq E ops jD s0 g0 w0 (done||| 1 <<< i) (fr.kG o.dst t) s bl listed g a w:=by
 have dN:∀k,(fr.kG o.dst t).get k=if o.dst=Z k then Z t else fr.get k:=λk=>IK hd h.nb
 have Q:¬mS listed i:=λz=>by
  obtain h1|h1:=h.ld i o u z
  simp_all
  simp_all
 have y:(fr.kG o.dst t).n=fr.n:=by cases o.dst<;>rfl
 have b:∀{j:Nat}{p:Oper},At ops j p->(j=i\/¬Pre ops.toList j i)->∀k,k∈tmpsOf p.op\/nU ops.toList p=Z k->(fr.kG o.dst t).get k=fr.get k:=by
  intro j p n f k l;rw[dN,cm];intro A
  let ⟨h1,h2⟩:=Jt x n l u A
  simp_all
 refine⟨h.J1,y.trans h.n,by rw[y];exact h.nb,by rw[y];exact h.U6,by rw[Fa,Dx];exact h.df,λk B l hc=>?_,h.Ui,λj p n f m R=>?_,λj p n z=>?_,λj p n f z=>?_,λj p n z f=>?_,λj m f R h1 h2=>?_,h.AT,?_,h.fl,λj ha f=>?_⟩
 .have A:o.dst≠Z k:=λe=>Q ((hc i o u e).2 ((uk done i i).2 (.inr rfl)));rw[dN,cm A]at l;refine h.tm k B l λj p n C=>?_
  grind[uk]
 rw[uk]at f ⊢;obtain f|rfl:=f
 exact .inl (h.Yn j p n f m R)
 simp_all
 rw[uk];exact(h.ld j p n z).imp .inl id;rw[uk]at f;obtain f|rfl:=f
 let ⟨h1,h2⟩:=h.fo j p n f z
 have F:¬Pre ops.toList j i:=λhpr=>by
  have:=h.Yn j p n f i hpr
  simp_all
 refine⟨h1,h2.move y (Ea x.us n) (λk l=>b n (.inr F) k (.inl l)) (λk l=>b n (.inr F) k (.inr l)) (λd C B r=>?_) (p:=λ_=>J) (.inl rfl)⟩;rw[dN,cm]at r;exact r;intro q;have hij:i≠j:=λe=>by simp_all
 exact((uj x.ds u q).2.2 n hij).1 C;have:o=p:=jG (u.symm.trans n);subst this;have hu:=Ea x.us u;have ht:∀k∈tmpsOf o.op,(fr.kG o.dst t).get k=fr.get k:=λk l=>b u (.inl rfl) k (.inl l);have I:iB ops.toList (fr.kG o.dst t) o=iB ops.toList fr o:=o3 λk l=>b u (.inl rfl) k (.inr l);refine⟨P,by simp_all[gw],?_⟩;obtain⟨f1,rfl⟩|⟨f1,t0,f2,f3⟩|⟨c,t1,f1,f2,f3,rfl⟩:=hf
 refine .inl ⟨(qR λk l=>b u (.inl rfl) k (.inr l)).trans f1,λd q B r=>?_⟩
 simp_all
 refine .inr (.inl ⟨I.trans f1,t0,by grind[iC,iY],λd q B r=>?_⟩)
 simp_all
 refine .inr (.inr ⟨c,I.trans f1,by rw[ua c ht];exact f2,t1,by grind[iC,iY,rf],λd q B r=>?_⟩)
 simp_all
 .have hj':done.testBit j=J:=by
   simp_all
  exact h.ea j p n z hj'
 .have K:∀j,(done||| 1 <<< i).testBit j=J->done.testBit j=J:=λj f=>by
   simp_all
  exact h.eb j m f R (K j h1) (K m h2)
 refine⟨λk v l hv=>?_,by rw[Dx];exact h.fk.df⟩;obtain h1|h1:=h.fk.tm k v l hv
 left
 rw[dN,cm];exact h1;intro q;exact l (zN.2 ⟨o,hU u,q⟩)
 grind
 .obtain f|rfl:=(uk done i j).1 f
  exact h.an j ha f
  simp_all
end
section
variable {i:Nat}{o:Oper}{v:az}
def fh{listed:Array aa}{j:Nat}(hi:i<listed.size):mS (listed.setIfInBounds i W) j↔mS listed j\/i=j:=by
 unfold mS;by_cases h:i=j
 simp_all
 simp_all
section
variable {E:er S}{ops:Array Oper}{jD:bV S}{s0:bf S}{g0:Gh}{w0:av}{done:Nat}{fr:bV S}{s:bf S}{bl:Nat->Nat}{listed:Array aa}{g:Gh}{a:Act}{w:av}
def uR(h:At ops i o):i<ops.size:=by have:=(TR.1 h).1;omega
theorem Gk{i:Nat}{o:Oper}(h:At ops i o):ops[i]?=Z o:=by unfold At at h;simpa using h
def tU:∀t:T,dn [] t=J:=by
 intro t
 induction t using T.rec (motive_2:=λl=>iz [] l=J)with|fn f a b d g=>simp[dn,d,g]|de t v e=>simp[dn,e]|agg i e=>simp[dn,e]|gG i e=>simp[dn,e]|gd c v e=>simp[dn,e]|nil=>rfl|cons a l d h=>simp[iz,d,h]|_=>simp[dn]
def dead(ops:L Oper)(done:Nat)(listed:Array aa):L Nat:=ops.zipIdx.filterMap λ(o,i)=>if listed.getD i J=done.testBit i then Y else o.dst
theorem E8{k:Nat}:k∈dead ops.toList done listed↔∃i o,At ops i o/\o.dst=Z k/\¬(mS listed i↔done.testBit i=W):=by
 have b:∀i,(listed.getD i J=done.testBit i)↔(mS listed i↔done.testBit i=W):=λi=>by unfold mS;cases listed.getD i J<;>cases done.testBit i<;>simp
 unfold dead;rw[zN];constructor
 rintro⟨⟨o,i⟩,c,h⟩
 dsimp only at h;split at h;cases h;rename_i a;exact⟨i,o,Md.1 c,h,λd=>a ((b i).2 d)⟩
 rintro⟨i,o,e,f,a⟩
 refine⟨(o,i),Md.2 e,?_⟩
 simp_all
def rfr(a:L Nat)(fr:bV S):bV S:={fr with tm:=a.foldl (λt k=>t.del aO k) fr.tm}
def sq.core(h:sq E ops jD s0 g0 w0 done fr s bl listed g a w):Tb E ops jD s0 g0 w0 done fr s listed g a w:=⟨h.n,h.nb,h.U6,h.df,h.tm,h.Yn,h.AT⟩
theorem Tb.ajH(d:yp E ops jD.n)(h:Tb E ops jD s0 g0 w0 done fr s listed g a w):cS g (bB (rfr (dead ops.toList done listed) fr)) a w/\(rfr (dead ops.toList done listed) fr).n=fr.n/\
  ∀{i:Nat}{o:Oper},At ops i o->(∀j,Pre ops.toList i j->mS listed j/\done.testBit j=W)->(∀j,antiP ops.toList j->Pre ops.toList j i->¬mS listed j/\done.testBit j=J)->∀k,k∈tmpsOf o.op\/nU ops.toList o=Z k->fr.get k=(rfr (dead ops.toList done listed) fr).get k:=by
 have dN:∀k,(rfr (dead ops.toList done listed) fr).get k=if k∈dead ops.toList done listed then Y else fr.get k:=λk=>Tr.nT _ _ _ λb n=>by
  let ⟨i,o,e,f,_⟩:=E8.1 n
  exact(uj d.ds e f).1
 refine⟨⟨h.U6,h.df,λk t l=>?_⟩,rfl,λ{i o}q r u k l=>?_⟩;rw[bU,fG]at l;obtain⟨v,c,rfl⟩:=l;rw[dN]at c;split at c;cases c;rename_i m;exact h.tm k v c λi o e f=>We λp=>m (E8.2 ⟨i,o,e,f,p⟩)
 grind[E8,Jt]
theorem xh{a:Act}{dst:O Tmp}{v:az}{k:Nat}(h:dst≠Z k):(a.put dst v).tmps[k]?=a.tmps[k]?:=by
 cases dst with
 |none=>rfl|some d=>
  grind[Act.put]
def EP{a:Act}{d:Nat}(h:d<a.tmps.size):(a.put (Z d) v).tmps[d]?=Z v:=by simp[Act.put,h]
def sH{a:Act}{dst:O Tmp}:(a.put dst v).tmps.size=a.tmps.size/\(a.put dst v).defers=a.defers:=by cases dst<;>simp[Act.put]
def cO.NA{s s':bf S}{g g':Gh}{w w':av}(h:cO [] s g w s' g' w'){l:L Df}{m:L Deferred}(c:eH g w l m):eH g' w' l m:=
 c.imp (λt v d=>h.tr t v d (tU t)) λo b e=>by have:=h.tr _ _ (.ptr o 0 b e) (tU _);cases this with|ptr _ _ _ a=>exact a
theorem sq.meet(C:yp E ops jD.n)(h:sq E ops jD s0 g0 w0 done fr s bl listed g a w){i:Nat}{o:Oper}(A:At ops i o)(hd:done.testBit i=W)(hl:∀e∈xD o,mS listed e)(x:gw fr o.dst=W){v:az}{g':Gh}{w':av}
  (l:cO [] s g w s g' w') (Q:∀d,o.dst=Z d->∀t,fr.get d=Z t->aH g' w' (low t) v):sq E ops jD s0 g0 w0 done fr s bl (listed.setIfInBounds i W) g' (a.put o.dst v) w':=by
 have n:i<listed.size:=by rw[h.J1];exact uR A
 have q:∀{j:Nat}{p:Oper}{k:Nat},At ops j p->j≠i->p.dst=Z k->o.dst≠Z k:=λc q r f=>((uj C.ds A f).2.2 c (Ne.symm q)).1 r;refine⟨by simpa using h.J1,h.n,h.nb,sH.1.trans h.U6,by rw[sH.2];exact l.NA h.df,λk t K R=>?_,λj p c b e S=>?_,h.Yn,λj p c b=>?_,λj p c b F=>?_,λj p c b F=>?_,λj m b B h1 h2=>?_,h.AT.trans l.toW,h.fk,h.fl,λj l b=>(fh n).2 (.inl (h.an j l b))⟩;by_cases f:o.dst=Z k;have I:k<fr.n:=by rw[f]at x;exact gH x
 exact⟨v,by rw[f];exact EP (by rw[h.U6];exact I),Q k f t K⟩
 let ⟨u,hu,ht⟩:=h.tm k t K λj p c r=>by
  have h1:=R j p c r;rw[fh n]at h1;refine Iff.trans ⟨.inl,λh=>h.elim id λe=>?_⟩ h1;subst e;have:o=p:=jG (A.symm.trans c)
  simp_all
 exact⟨u,by rw[xh f];exact hu,l.tr _ _ ht (tU _)⟩;rw[fh n]at b ⊢;obtain b|rfl:=b
 exact .inl (h.Ui j p c b e S);have:o=p:=jG (A.symm.trans c)
 simp_all
 rw[fh n]at b;obtain b|rfl:=b
 exact h.ld j p c b
 grind
 exact h.fo j p c b λhl=>F ((fh n).2 (.inl hl));rw[fh n]at b;have y:j≠i:=λe=>by simp_all
 have b:mS listed j:=b.elim id λe=>absurd e.symm y
 let ⟨h1,h2⟩:=h.ea j p c b F
 refine⟨λt ti d q1 q2 P=>?_,iE h2 l.ext.size⟩
 let ⟨z,r1,r2,r3⟩:=h1 t ti d q1 q2 P
 exact⟨z,by rw[xh (q c y P)];exact r1,r2.AT l h.fl,r3⟩;rw[fh n]at b B;have b:mS listed j:=b.elim id λe=>by simp_all
 have B:mS listed m:=B.elim id λe=>by simp_all
 exact h.eb j m b B h1 h2
theorem at_mem{ops:Array Oper}{i:Nat}{o:Oper}(h:At ops i o):o∈ops.toList:=hU (show ops.toList[i]?=Z o from by grind[Gk])
def sq.acX(hE:e8 E)(b:yp E ops jD.n)(h:sq E ops jD s0 g0 w0 done fr s bl listed g a w)(m:At ops i o)(B:done.testBit i=W)(C:¬mS listed i)(hl:∀e∈xD o,mS listed e)
  {K:Act->av->Prop} {Q:Exit->Act->av->Prop} (P:∀g' a' w',sq E ops jD s0 g0 w0 done fr s bl (listed.setIfInBounds i W) g' a' w'->K a' w') {rr:O Nat} (R:rr≠Y->∀o∈ops.toList,∀c,o.op≠.defer c):BM rr E.T.E.P ops Q i K a w:=by
 have z:rr≠Y->∀c,o.op≠.defer c:=λhr=>R hr o (at_mem m)
 let ⟨hna,u,hf⟩:=h.fo i o m B C
 let ⟨n,S,XX⟩:=h.core.ajH b
 have MS:∀j,Pre ops.toList i j->mS listed j/\done.testBit j=W:=λj hj=>⟨mZ b.bk (λi o hi hl=>h.Ui i o hi hl) m hl j hj,h.Yn i o m B j hj⟩;have p:=XX m MS λj ha hji=>by
  have F:¬mS listed j:=λhlj=>by
   let ⟨q,hq,_⟩:=ha
   exact C (mZ b.bk (λi o hi hl=>h.Ui i o hi hl) hq (h.Ui j q hq hlj) i hji)
  refine⟨F,?_⟩;cases Lm:done.testBit j with|false=>rfl|true=>exact absurd (h.an j ha Lm) F
 have I:iB ops.toList fr o=iB ops.toList (rfr (dead ops.toList done listed) fr) o:=o3 λk x=>p k (.inr x);have A:∀k∈tmpsOf o.op,fr.get k=(rfr (dead ops.toList done listed) fr).get k:=λk x=>p k (.inl x);unfold BM;simp[Gk m];obtain⟨f1,f3⟩|⟨f1,t,f2,f3⟩|⟨c,f1,f4,t,f2,f3⟩:=hf
 .rw[qR (fr':=rfr (dead ops.toList done listed) fr) λk x=>p k (.inr x)]at f1;rw[cm (by rw[Cb n f1];simp_all)];exact P _ _ _ (h.meet b m B hl u (cO.refl h.AT.rel) λd f y l=>by rw[f3 d f y l];exact Lu)
 rw[I]at f1;have hw:=oZ n f1;rw[bO hw];refine .of_wp z (.inl ?_);rw[iC E Y o s Z (iY A)]at f2;refine rW hE n h.AT.rel (.inl rfl) f2 (λy g' v w' x r ht=>?_);cases x;exact P _ _ _ (h.meet b m B hl u r λd f y l=>(f3 d f y l).rel ht);rw[I]at f1;have hw:=oZ n f1;rw[iC E (Z c) o s Z (iY (rf (Ea b.us m) A))]at f2;cases c with
 |true=>
  rw[bO hw];refine .of_wp z (.inl ?_);rw[ua W A]at f4
  let ⟨hff,hfn'⟩:=vU n (by rw[S];exact h.nb) f4
  refine rW hE hff h.AT.rel (.inr rfl) f2 (λy g' v w' x r ht=>?_);cases x;exact P _ _ _ (h.meet b m B hl u r λd f y l=>by rw[f3 d f y l];exact .gd _ _ _ λ_=>ht)
 |false=>rw[cm (by simp_all)];exact P _ _ _ (h.meet b m B hl u (cO.refl h.AT.rel) λd f y l=>by rw[f3 d f y l];exact .gd _ _ _ λh=>by cases h)
theorem sq.acY(hE:e8 E)(C:yp E ops jD.n)(h:sq E ops jD s0 g0 w0 done fr s bl listed g a w){i:Nat}{o:Oper}(n:At ops i o)(hd:done.testBit i=J)(hna:eX o=W)(hnl:¬mS listed i)(hl:∀e∈xD o,mS listed e)
  {K:Act->av->Prop} {Q:Exit->Act->av->Prop} (hK:∀AR a' w',sq E ops jD s0 g0 w0 done fr s AR (listed.setIfInBounds i W) g a' w'->K a' w') {rr:O Nat} (hrr:rr≠Y->∀o∈ops.toList,∀c,o.op≠.defer c):BM rr E.T.E.P ops Q i K a w:=by
 have F:rr≠Y->∀c,o.op≠.defer c:=λhr=>hrr hr o (at_mem n)
 let ⟨hg,⟨t,ti,hop,P⟩,hdn⟩:=YF C.al n hna
 let ⟨xi,dd,z,MR,_,_,_,hz,R,_⟩:=(hE.Tn.ti _ _ P).all
 unfold BM;simp[Gk n];rw[bO (by simp[Region.wanted,hg])];refine .of_wp F (.inl ?_);unfold Oper.wp;have S:(execOp a.eval o).run E.T.E.P w=.ok (.value (.pointer (Z ⟨w.heap.size,0,Y⟩))) (w.alloc (.cells z.cells t)):=by
  simp_all[execOp,Instr.alloc,ef,newVar,newRow]
 rw[S];have r:i<listed.size:=by rw[h.J1];exact uR n
 have B:=h.AT.rel;have hsz:(w.alloc (.cells z.cells t)).heap.size=w.heap.size+1:=by simp
 let ⟨hs',he⟩:=B.grow (fl:=s.fl) (I:=g.bp) (w':=w.alloc (.cells z.cells t)) (λ_ h=>h) (λ_ h=>.inl h) (λb hb=>by have:=B.bp b hb;omega) (by omega) (λb hb=>pN w _ b hb) rfl rfl
 have x:∀{j:Nat}{p:Oper}{k:Nat},At ops j p->j≠i->p.dst=Z k->o.dst≠Z k:=λl x y A=>((uj C.ds n A).2.2 l (Ne.symm x)).1 y;refine hK (λj=>if j=i then w.heap.size else bl j) _ _ ⟨by simpa using h.J1,h.n,h.nb,sH.1.trans h.U6,by rw[sH.2];exact h.df.imp (λt v ht=>ht.ext he B.bp) (λ_ _ h=>h),λk t' hk hc=>?_,λj p l f e he=>?_,h.Yn,λj p l f=>?_,λj p l f hn=>?_,λj p l f hn=>?_,λj m f hm h1 h2 hjm xB hms=>?_,?_,h.fk,h.fl,λj ha f=>(fh r).2 (.inl (h.an j ha f))⟩;have A:o.dst≠Z k:=λe=>by
  have:=(hc i o n e).1 ((fh r).2 (.inr rfl))
  simp_all
 let ⟨u,hu,ht⟩:=h.tm k t' hk λj p l y=>by
  have h1:=hc j p l y;rw[fh r]at h1
  grind
 exact⟨u,by rw[xh A];exact hu,ht.ext he B.bp⟩;rw[fh r]at f ⊢;obtain f|rfl:=f
 exact .inl (h.Ui j p l f e he);have:o=p:=jG (n.symm.trans l)
 simp_all
 rw[fh r]at f;obtain f|rfl:=f
 exact h.ld j p l f;have:o=p:=jG (n.symm.trans l)
 simp_all
 exact h.fo j p l f λhl=>hn ((fh r).2 (.inl hl));by_cases q:j=i;subst q;have:o=p:=jG (n.symm.trans l);subst this;simp only[yE];refine⟨λt' ti' d q1 q2 q3=>?_,by omega⟩;rw[hop]at q1;cases q1;rw[P]at q2;cases q2;have hdl:d<a.tmps.size:=by rw[h.U6,h.n];exact hdn d q3
 refine⟨z.cells,by rw[q3];exact EP hdl,⟨h.AT.ext.size,by omega,λUw=>?_,λk hO=>?_,t,xe w _⟩,R⟩;have:=B.bp _ Uw;omega;have:=(B.qU hO).1;omega;rw[fh r]at f;have f:mS listed j:=f.elim id λe=>absurd e.symm q
 let ⟨h1,h2⟩:=h.ea j p l f hn
 simp only[cm q];refine⟨λt ti d q1 q2 q3=>?_,by omega⟩
 let ⟨z',r1,r2,r3⟩:=h1 t ti d q1 q2 q3
 let ⟨ty,r4⟩:=r2.mem
 exact⟨z',by rw[xh (x l q q3)];exact r1,⟨r2.new,by omega,r2.bp,r2.own,ty,by rw[pN w _ _ r2.lt];exact r4⟩,r3⟩
 .have hlt:∀j,mS listed j->done.testBit j=J->j<ops.size->bl j<w.heap.size:=λj f Lm xB=>by
   have De:At ops j ops[j]:=by simp[At]
   exact(h.ea j _ De f Lm).2
  rw[fh r]at f hm;by_cases hji:j=i<;>by_cases hmi:m=i;omega
  grind
  grind
  rw[cm hji,cm hmi];exact h.eb j m (f.elim id λe=>absurd e.symm hji) (hm.elim id λe=>absurd e.symm hmi) h1 h2 hjm xB hms
 have hx:n8 s.lo s.fl g w g (w.alloc (.cells z.cells t)):=Ext.Hi s.lo he;exact⟨hs',h.AT.ext.trans (h.AT.fl▸h.AT.lo▸hx),h.AT.fl,h.AT.lo,h.AT.aF,h.AT.tw,h.AT.same,h.AT.FT⟩
end
end
section
variable {E:er S}{ops:Array Oper}{jD:bV S}{s0:bf S}{g0:Gh}{w0:av}{done:Nat}{fr:bV S}{s:bf S}{bl:Nat->Nat}{listed:Array aa}{g:Gh}{a:Act}{w:av}
theorem T8(l:L Oper):((rO l).map (·.1)).Nodup:=by
 have:(rO l).map (·.1)=List.range l.length:=by
  unfold rO;have:((λx:Nat×Oper=>x.1)∘λp:Oper×Nat=>(p.2,p.1))=Prod.snd:=rfl
  grind[List.zipIdx_map_snd,List.range_eq_range']
 grind
theorem sq.yb(Q:yp E ops jD.n)(h:sq E ops jD s0 g0 w0 done fr s bl listed g a w){c:Nat}{sU:bV S}{s1:bf S}(R:yb E.T c (rO ops.toList) fr s=Z (sU,s1))
  (hwh:∀j,c.testBit j=W->mS listed j/\(xO (rO ops.toList) done).testBit j=W) (hcl:∀j,c.testBit j=W->∀m,Pre ops.toList j m->done.testBit m=W\/c.testBit m=W) :
  ∃I,Adp E.T c (rO ops.toList) fr s g w a sU s1 I/\Tb E ops jD s0 g0 w0 (done||| c) sU s1 listed I a w:=by
 have l:∀{j:Nat}{o:Oper},At ops j o->c.testBit j=W->mS listed j/\eX o=W/\done.testBit j=J:=λ{j o}u B=>by
  let ⟨h1,h2⟩:=hwh j B
  let ⟨o',ho',h3,h4⟩:=(vC done j).1 h2
  have:o=o':=jG (u.symm.trans ho')
  simp_all
 have f:∀{p:Nat×Oper},p∈rO ops.toList->At ops p.1 p.2:=λ{p}n=>jg.1 n;obtain⟨I,hA⟩:=NY (w0:=w0) (bl:=bl) R h.nb h.AT.rel (λp n y=>by
   let ⟨h1,_,h3⟩:=l (f n) y
   exact(h.ea p.1 p.2 (f n) h1 h3).1) (T8 _) (λp n q K oX hqw C=>by
   let ⟨h1,_,h3⟩:=l (f n) oX
   let ⟨h4,_,h6⟩:=l (f K) hqw
   exact h.eb p.1 q.1 h1 h4 h3 h6 C (uR (f n)) (uR (f K))) (λp n q K C d A=>((uj Q.ds (f n) A).2.2 (f K) C).1)
 refine⟨I,hA,⟨hA.n.trans h.n,by rw[hA.n];exact h.nb,by rw[hA.n];exact h.U6,by rw[Fa,hA.NA];exact h.df.imp (λ_ _ ht=>ht.le hA.le) hA.le.bP,λk t hk hc=>?_,λj p n B m hm=>?_,?_⟩⟩;by_cases F:∃p∈rO ops.toList,c.testBit p.1=W/\p.2.dst=Z k;exact hA.new k F t hk;rw[hA.old k λp n y A=>F ⟨p,n,y,A⟩]at hk
 let ⟨v,hv,ht⟩:=h.tm k t hk λi o hi A=>by have h1:=hc i o hi A;rw[LZ,nI]at h1;exact h1.trans ⟨λh=>h.elim id λy=>absurd ⟨(i,o),jg.2 hi,y,A⟩ F,.inl⟩
 exact⟨v,hv,ht.le hA.le⟩;rw[LZ,nI]at B ⊢;obtain B|B:=B
 exact .inl (h.Yn j p n B m hm)
 grind
 have r:=h.AT;refine⟨hA.rel,⟨λo b e=>hA.le.bP o b (r.ext.bP o b e),λo e x hl k=>hA.le.arr o e x (r.ext.arr o e x hl k),λb P=>hA.le.bp b (r.ext.bp b P),r.ext.size,r.ext.heap,λo b hl hO=>?_,λb P=>r.ext.nQ b (by rw[hA.bp]at P;exact P),r.ext.os,r.ext.output⟩,hA.fl.trans r.fl,hA.lo.trans r.lo,fP r.aF hA.aF,λo u=>by rw[hA.wr];exact r.tw o u,λo u hn=>?_,λo u=>by rw[hA.dr];exact r.FT o u⟩;obtain hO|⟨p,n,y,d,A,htm⟩:=hA.own o b hO
 exact r.ext.own o b hl hO
 let ⟨h1,_,h3⟩:=l (f n) y
 let ⟨t,ti,d',e1,e2,e3,_⟩:=hA.abY p n y
 let ⟨z,r1,r2,_⟩:=(h.ea p.1 p.2 (f n) h1 h3).1 t ti d' e1 e2 e3
 have:d=d':=jG (A.symm.trans e3);subst this;rw[htm]at r1;cases r1;exact .inr r2.new;rw[hA.ob o (iE u r.aF)];exact r.same o u (by rw[hA.wr]at hn;exact hn)
theorem vW{ow:L Nat}{k:Nat}{v:V S}(h:(dx ow fr).get k=Z v):fr.get k=Z v/\dn ow (low v)=J:=by
 cases ow with
 |nil=>exact⟨h,tU _⟩|cons o ow=>
  grind[dx,bV.get,Tr.nS,Option.filter_eq_some_iff,j9]
theorem Ad{ow:L Nat}{k:Nat}{v:V S}(h:fr.get k=Z v)(a:iF ow v=J):(dx ow fr).get k=Z v:=by
 cases ow with
 |nil=>exact h|cons o ow=>
  grind[dx,bV.get,Tr.nS]
theorem Ni{call:fO S}{l:L Oper}{o:Oper}{ω:Type}{kp:V S->bf S->O ω}{k:V S->bf S->L Nat->O ω}{r:ω}(h:o5 E call l o fr s kp k=Z r):gw fr o.dst=W:=by
 unfold o5 at h
 grind
theorem VU{done i:Nat}{aF:Nat}{wr ow:L Nat}:∀{l:Vt},Ej ops.toList (wq ops.toList) done i fr aF wr ow l=W->∀{j:Nat}{p:Oper},(j,p)∈l->done.testBit j=W->eX p=J->¬Pre ops.toList i j->
  (jA (dL wr aF) fr p.op=J/\jA (dL wr aF) (ri fr p.op) p.op=J)\/(Ms p.op=W/\jA (λx=>ow.contains x) fr p.op=J/\jA (λx=>ow.contains x) (ri fr p.op) p.op=J):=by
 intro l
 induction l with
 |nil=>simp_all|cons q l f=>
  intro h j p c d a b
  let ⟨g,k⟩:=q
  simp only[Ej,eM]at h;obtain e|c:=fF.1 c
  cases e;have h1:=h.1;simp only[d,a,JJ,Bool.false_or]at h1;rw[nI]at h1;obtain h1|h1:=h1
  exact absurd h1 b
  grind
  grind
end
section
variable {E:er S}{ops:Array Oper}{jD:bV S}{s0:bf S}{g0:Gh}{w0:av}{done:Nat}{fr:bV S}{s:bf S}{bl:Nat->Nat}{listed:Array aa}{g:Gh}{a:Act}{w:av}
theorem MA{p:Nat->aa}{o:Op}(h:jA p fr o=J){k:Nat}(a:k∈tmpsOf o){v:V S}(c:fr.get k=Z v):cH p v=J:=by
 let ⟨x,d,b⟩:=zN.1 a
 grind[jA,cx]
theorem Uc{ow wr:L Nat}{aF:Nat}(a:∀o∈ow,o∈wr){v:V S}(h:cH (dL wr aF) v=J):iF ow v=J:=by
 grind[oU,eg,dL]
theorem LJ{ops:L Oper}{fr:bV S}{o:Oper}{k:Nat}{v:V S}(h:uJ ops fr o=W)(a:nU ops o=Z k)(c:fr.get k=Z v):(∃b,v=.kb b)\/∃l,v=.dat (.lit (.tuple l)):=by
 unfold uJ at h;unfold nU at a
 grind
theorem sq.step(hE:e8 E){call:fO S}(vR:gu E.T.E.P call)(A:yp E ops jD.n)(h:sq E ops jD s0 g0 w0 done fr s bl listed g a w){i:Nat}{o:Oper}(I:At ops i o)(hd:done.testBit i=J)(hnl:¬mS listed i)(hl:∀e∈xD o,mS listed e)
  (hsub:∀j,Pre ops.toList i j->done.testBit j=W\/(xO (rO ops.toList) done).testBit j=W) {sU:bV S} {s1:bf S} (had:TL.yb E.T (xO (rO ops.toList) done&&& (wq ops.toList).getD i 0) (rO ops.toList) fr s=Z (sU,s1))
  {ω:Type} {kp:bV S->V S->bf S->O ω} {k:Nat->bV S->bf S->O ω} {r:ω}
  (hev:o5 E call ops.toList o sU {s1 with wr:=[]} (λt s'=>kp (afA ops.toList sU) t {s' with wr:=s'.wr++s1.wr}) (λt s' ow=>bif Ej ops.toList (wq ops.toList) done i fr s.aF s'.wr ow (rO ops.toList)then
   k (done||| (xO (rO ops.toList) done&&& (wq ops.toList).getD i 0)||| 1 <<< i) ((dx ow sU).kG o.dst t) {s' with wr:=s'.wr++s1.wr}else Y)=Z r)
  {K:Act->av->Prop} {Q:Exit->Act->av->Prop}
  (hK:∀done' fr' s' g' a' w',k done' fr' s'=Z r->sq E ops jD s0 g0 w0 done' fr' s' bl (listed.setIfInBounds i W) g' a' w'->K a' w')
  (hP:∀fr' t s' g' a' v w',kp fr' t s'=Z r->fr'.n=jD.n->cS g' (bB fr') a' w'->eB s0 g0 w0 s' g' w'->ej (ops.toList.filterMap (·.dst)) jD fr' s'.dr s0.aF->aH g' w' (low t) v->Q (.panic [{v,recovered:=J}]) a' w') {rr:O Nat} (hrr:rr≠Y->∀o∈ops.toList,∀c,o.op≠.defer c):BM rr E.T.E.P ops Q i K a w:=by
 have aoi:rr≠Y->∀c,o.op≠.defer c:=λhr=>hrr hr o (at_mem I);have hi:i<listed.size:=by rw[h.J1];exact uR I
 have MS:∀j,Pre ops.toList i j->mS listed j:=mZ A.bk (λi o hi hl=>h.Ui i o hi hl) I hl;generalize hwe:xO (rO ops.toList) done&&& (wq ops.toList).getD i 0=which at had hev;have hwb:∀j,which.testBit j=W↔(xO (rO ops.toList) done).testBit j=W/\Pre ops.toList i j:=λj=>by rw[<-hwe,Nat.testBit_and,eM];rfl
 let ⟨g1,hA,hC⟩:=h.yb A had (λj hj=>⟨MS j ((hwb j).1 hj).2,((hwb j).1 hj).1⟩) (λj hj m hm=>by
  have hpm:=TW A.bk I ((hwb j).1 hj).2 hm
  simp_all)
 have hpd:∀j,Pre ops.toList i j->(done||| which).testBit j=W:=λj hj=>by
  simp_all
 have hwd:∀{j:Nat}{q:Oper},At ops j q->which.testBit j=W->mS listed j/\eX q=W/\done.testBit j=J:=λ{j q}B hj=>by
  let ⟨o',ho',h3,h4⟩:=(vC done j).1 ((hwb j).1 hj).1
  have:q=o':=jG (B.symm.trans ho')
  simp_all
 have hwi:which.testBit i=J:=by
  grind
 have P:gw sU o.dst=W:=Ni hev;have hdst:gw (dx (S:=S) [] sU) o.dst=W:=P
 let ⟨hfr,hfn,XX⟩:=hC.ajH A
 have afg:=XX I (λj hj=>⟨MS j hj,hpd j hj⟩) λj ha hji=>by
  let ⟨q,B,_⟩:=ha
  have hnj:¬mS listed j:=λhlj=>hnl (mZ A.bk (λi o hi hl=>h.Ui i o hi hl) B (h.Ui j q B hlj) i hji);refine⟨hnj,?_⟩;cases Lm:(done||| which).testBit j with
  |false=>rfl|true=>
   rw[LZ,nI]at Lm;obtain Lm|Lm:=Lm
   have:=h.Yn j q B Lm i hji
   simp_all
   simp_all
 rw[Hx E call _ _ _ hfn.symm (Ea A.us I) (λk n=>afg k (.inl n)) (λk n=>afg k (.inr n))]at hev;have zl:aY g1 (aE {s1 with wr:=[]}) w:=hC.AT.rel;unfold BM;simp[Gk I];refine(rV hE vR (by rw[hfn];exact hC.nb) hfr zl hev (λt s' ow g' v w' n ht f=>?_) (λt s' g' v w' n f ht=>?_) aoi).2
 .obtain ⟨aiG,n⟩|⟨_,n⟩:=ah n
  rotate_left;cases n;refine hK _ _ _ g' _ w' n ?_;have Px:s1.fl=0:=hA.fl.trans h.fl;have hnf:∀ow':L Nat,(dx ow' sU).n=sU.n:=λow'=>sV ow' sU;have aox:gw (dx ow sU) o.dst=W:=zT P;have dN:∀k,((dx ow sU).kG o.dst t).get k=if o.dst=Z k then Z t else(dx ow sU).get k:=λk=>IK aox (by rw[hnf];exact hC.nb)
  have hnn:((dx ow sU).kG o.dst t).n=sU.n:=by
   have:((dx ow sU).kG o.dst t).n=(dx ow sU).n:=by cases o.dst<;>rfl
   rw[this,hnf]
  have ajy:eB s1 g1 w {s' with wr:=s'.wr++s1.wr} g' w':=
   ⟨f.rel,f.ext,f.fl,f.lo,f.aF,λo I=>kz _ I,λo I hn=>f.same o I (λhm=>hn (eL _ hm)),f.FT⟩
  have hne:∀{j:Nat}{p:Oper}{k:Nat},At ops j p->j≠i->p.dst=Z k->o.dst≠Z k:=λF hne hpd R=>((uj A.ds I R).2.2 F (Ne.symm hne)).1 hpd;have hd':∀j,(done||| which||| 1 <<< i).testBit j=W↔(done.testBit j=W\/which.testBit j=W)\/i=j:=λj=>by rw[uk,LZ,nI]
  refine⟨by simpa using h.J1,hnn.trans hC.n,by rw[hnn];exact hC.nb,by rw[sH.1,hnn];exact hC.U6,?_,λk t' C hc=>?_,λj p F hj e he=>?_,λj p F hj m hm=>?_,λj p F hj=>?_,λj p F hj hn=>?_,λj p F hj hn=>?_,λj m hj hm h1 h2 hjm xB hms=>?_,hC.AT.trans ajy,?_,f.fl.trans Px,λj ha hj=>?_⟩
  .rw[sH.2,Fa,Dx];cases ow with|nil=>exact f.NA hC.df|cons x ow=>exact(gL (λv=>j9 _ v) (λ_ _=>rfl) sU.df).rel f.tr hC.df
  rw[dN]at C;by_cases R:o.dst=Z k;rw[bO R]at C;cases C;have hk2:k<sU.n:=by rw[R]at P;exact gH P
  exact⟨v,by rw[R];exact EP (by rw[hC.U6];exact hk2),ht⟩;rw[cm R]at C
  let ⟨h1,h2⟩:=vW C
  let ⟨u,hu,htu⟩:=hC.tm k t' h1 λj p F hpd=>by
   have c1:=hc j p F hpd;rw[fh hi,hd']at c1
   grind
  exact⟨u,by rw[xh R];exact hu,f.tr _ _ htu h2⟩;rw[fh hi]at hj ⊢;obtain hj|rfl:=hj
  exact .inl (h.Ui j p F hj e he);have:o=p:=jG (I.symm.trans F)
  simp_all
  rw[hd']at hj ⊢;obtain hj|rfl:=hj
  left
  have:=hC.Yn j p F (by simp_all) m hm;rwa [LZ,nI]at this
  simp_all
  rw[fh hi]at hj;rw[hd'];obtain hj|rfl:=hj
  exact(h.ld j p F hj).imp (λh=>.inl (.inl h)) id;omega
  ·
   have hji:j≠i:=λe=>hn ((fh hi).2 (.inr e.symm));have hnl:¬mS listed j:=λhl=>hn ((fh hi).2 (.inl hl));have Lm:done.testBit j=W:=by
    grind
   let ⟨hna,hfo⟩:=h.fo j p F Lm hnl
   have hnp:¬Pre ops.toList i j:=λhpr=>hnl (MS j hpr);have hmm:=VU aiG (jg.2 F) Lm hna hnp;have hpi:∀{m:Nat}{q:Oper}{k:Nat},At ops m q->(m=i\/which.testBit m=W)->(k∈tmpsOf p.op\/nU ops.toList p=Z k)->q.dst≠Z k:=by
    intro m q k B hm n XG;have hpre:Pre ops.toList j m:=by
     obtain h1|⟨h1,_⟩:=(Jt A F n B XG).2
     exact h1;exfalso;obtain rfl|hm:=hm
     exact hnp h1;exact hnl (mZ A.bk (λi o hi hl=>h.Ui i o hi hl) B (h.Ui m q B (hwd B hm).1) j h1)
    have:=h.Yn j p F Lm m hpre
    grind
   have hold:∀k,(k∈tmpsOf p.op\/nU ops.toList p=Z k)->sU.get k=fr.get k:=λk n=>hA.old k λq B hw=>hpi (jg.1 B) (.inr hw) n;have hput:∀k,(k∈tmpsOf p.op\/nU ops.toList p=Z k)->((dx ow sU).kG o.dst t).get k=(dx ow sU).get k:=λk n=>by rw[dN,cm (hpi I (.inl rfl) n)]
   have hsubw:∀o∈ow,o∈s'.wr:=f.oww;have hkeep:∀k,fr.get k=sU.get k->(∀v,fr.get k=Z v->iF ow v=J)->(dx ow sU).get k=fr.get k:=λk he hm=>by
    cases hfk:fr.get k with
    |some v=>grind[Ad]|none=>
     cases ao6:(dx ow sU).get k with
     |none=>rfl|some v=>
      have:=(vW ao6).1
      simp_all
   have hno:∀k v,k∈tmpsOf p.op->fr.get k=Z v->iF ow v=J:=λk v n hv=>by
    grind[Uc,MA,oU]
   have hsame:∀x,dL s'.wr s.aF x=J->({s' with wr:=s'.wr++s1.wr}:bf S).ob.get x=s.ob.get x:=λx hx=>by
    simp only[dL,yG]at hx;have hx1:x∉s'.wr:=by grind
    have hx2:x<s.aF:=by
     grind[Nat.ble_eq_true_of_le]
    have:=f.same x (iE hx2 hA.aF) hx1;exact this.trans (hA.ob x hx2)
   refine⟨hna,hfo.move (hnn.trans hA.n) (Ea A.us F) (λk n=>?_) (λk n=>?_) (λd aiK t' ht'=>?_) (p:=dL s'.wr s.aF) (.inr (hmm.imp (λh=>⟨h.1,h.2,hsame⟩) (λh=>h.1)))⟩
   grind
   .rw[hput k (.inr n)];refine hkeep k (hold k (.inr n)).symm λv hv=>?_;obtain⟨f1,_⟩|Sk:=hfo.2
    obtain⟨b,rfl⟩|⟨l,rfl⟩:=LJ f1 n hv<;>rfl
    have hgv:∃b,rB v=Z b:=by
     have y:∃c,iB ops.toList fr p=Z (Z c)\/iB ops.toList fr p=Z Y:=by
      obtain⟨f1,_⟩|⟨c,f1,_⟩:=Sk
      simp_all
      simp_all
     let ⟨c,y⟩:=y
     unfold nU at n;unfold iB at y;cases hpg:p.guard with
     |none=>simp_all|some q=>
      let ⟨m,want⟩:=q
      simp[hpg]at n y;rw[n,RB,hv]at y;cases hb:rB v with
      |some b=>grind|none=>
       exfalso;cases v<;>first|(cases hb;done)|(simp only[hb]at y;obtain h|h:=y<;>cases h)
    let ⟨b,hb⟩:=hgv
    cases v<;>first|rfl|simp[rB]at hb
   rw[dN,cm (hne F hji aiK)]at ht';have h1:=(vW ht').1;rw[hA.old d λq B hw XG=>?_]at h1;exact h1;have hq':At ops q.1 q.2:=jg.1 B;have hjq:j≠q.1:=λe=>by
    simp_all
   exact((uj A.ds F aiK).2.2 hq' hjq).1 XG
  .have hji:j≠i:=λe=>by
    simp_all
   have Lm:done.testBit j=J:=by
    simp_all
   have hwj:which.testBit j=J:=by
    simp_all
   rw[fh hi]at hj;have hlj:mS listed j:=hj.elim id λe=>absurd e.symm hji
   let ⟨h1,h2⟩:=h.ea j p F hlj Lm
   refine⟨λt2 ti d q1 q2 q3=>?_,iE h2 f.ext.size⟩
   let ⟨z,r1,r2,r3⟩:=h1 t2 ti d q1 q2 q3
   have ae2:HM g1 w0 w (bl j) z:=⟨r2.new,r2.lt,by rw[hA.bp];exact r2.bp,λx hO=>by
    obtain hO|⟨q,B,hw,d2,hd2,htm⟩:=hA.own x (bl j) hO
    exact r2.own x hO;have hq':At ops q.1 q.2:=jg.1 B
    let ⟨l1,_,l3⟩:=hwd hq' hw
    let ⟨t3,ti3,d3,e1,e2,e3,_⟩:=hA.abY q B hw
    let ⟨z3,u1,_,_⟩:=(h.ea q.1 q.2 hq' l1 l3).1 t3 ti3 d3 e1 e2 e3
    have:d2=d3:=jG (hd2.symm.trans e3);subst this;have hbb:bl j=bl q.1:=by
     simp_all
    have hjq:j≠q.1:=λe=>by simp_all
    exact h.eb j q.1 hlj l1 Lm l3 hjq (uR F) (uR hq') hbb,r2.mem⟩
   exact⟨z,by rw[xh (hne F hji q3)];exact r1,ae2.AT f Px,r3⟩
  .have hx:∀j,(done||| which||| 1 <<< i).testBit j=J->done.testBit j=J/\i≠j:=λj hj=>by
    grind
   rw[fh hi]at hj hm;exact h.eb j m (hj.elim id λe=>absurd e (hx j h1).2) (hm.elim id λe=>absurd e (hx m h2).2) (hx j h1).1 (hx m h2).1 hjm xB hms
  .refine ⟨λk v n hv=>?_,?_⟩;rotate_left
   .rw[Dx];have h0:xH (dL s'.dr s0.aF) jD.df sU.df:=by rw[hA.NA];exact h.fk.df.mono (iM (λx hx=>f.FT x (by rw[hA.dr];exact hx)) (cM _))
    cases ow with|nil=>exact h0|cons x ow=>refine h0.trans (uo (p:=(x::ow).contains) (λo' ho'=>?_) (λv=>oU _ v) _).ok;have:=f.owd o' (by grind);simp[dL,this]
   have xA:∀{m:Nat}{q:Oper},At ops m q->q.dst≠Z k:=λB XG=>n (zN.2 ⟨_,hU B,XG⟩);obtain h1|h1:=h.fk.tm k v n hv
   .rw[dN,cm (xA I)];rw[<-hA.old k λq B _=>xA (jg.1 B)]at h1;cases hm:iF ow v with
    |false=>exact .inl (Ad h1 hm)|true=>
     rw[oU]at hm;refine .inr (eg (λx hx=>?_) v hm);have:x∈ow:=by simpa using hx
     have:=f.owd x this;simp[dL,this]
   exact .inr (eg (iM (λx hx=>f.FT x (by rw[hA.dr];exact hx)) (cM _)) v h1)
  rw[fh hi];obtain(hj|hj)|hj:=(hd' j).1 hj
  exact .inl (h.an j ha hj)
  simp_all
  omega
 have hds:∀d∈ops.toList.filterMap (·.dst),d<bD:=λd hd=>by
  let ⟨q,B,XG⟩:=zN.1 hd
  let ⟨m,hm⟩:=Wb B
  exact(uj A.ds hm XG).1
 have hgd:∀k,(afA ops.toList sU).get k=if k∈ops.toList.filterMap (·.dst)then Y else sU.get k:=λk=>Tr.nT _ _ _ hds
 have Z2:∀x,dL s.dr s0.aF x=W->dL s'.dr s0.aF x=W:=iM (λx hx=>f.FT x (by rw[hA.dr];exact hx)) (cM _);refine hP _ t _ g' _ v w' n hC.n ⟨hC.U6,f.NA hC.df,λk t' C=>?_⟩ (hC.AT.trans ⟨f.rel,f.ext,f.fl,f.lo,f.aF,λo I=>kz _ I,λo I hn=>f.same o I (λhm=>hn (eL _ hm)),f.FT⟩) ⟨λk v n hv=>?_,?_⟩ ht;rw[bU,hgd]at C;split at C;cases C;rename_i hnk;rw[fG]at C;obtain⟨u,hu,rfl⟩:=C
 let ⟨v',hv',ht'⟩:=hC.tm k u hu λi o hi R=>absurd (zN.2 ⟨o,hU hi,R⟩) hnk
 exact⟨v',hv',f.tr _ _ ht' (lP _)⟩;obtain h1|h1:=h.fk.tm k v n hv
 left
 rw[hgd,cm n,hA.old k λq B _ XG=>n (zN.2 ⟨_,hU (jg.1 B),XG⟩)];exact h1;exact .inr (eg Z2 v h1);show xH _ jD.df sU.df;rw[hA.NA];exact h.fk.df.mono Z2
end
def Cg{E:er S}{ops:L Oper}{bef:L Nat}{done:Nat}{fr:bV S}{i:Nat}{o:Oper}:∀{l:Vt},OO E ops bef done fr l=Z (i,o)->(i,o)∈l/\done.testBit i=J/\eX o=J/\SU ops bef i o=J/\Tp (bef.getD i 0) done=W
 |[],h=>by cases h
 |(j,p)::l,h=>by
  obtain⟨a,h⟩|⟨_,h⟩:=ah h
  simp_all
  let ⟨h1,h2⟩:=Cg h
  simp_all
def Ch{bef:L Nat}{done u0:Nat}{i:Nat}{o:Oper}:∀{l:Vt},OP bef done u0 l=Z (i,o)->(i,o)∈l/\done.testBit i=J/\eX o=J/\Tp (bef.getD i 0) (done||| u0)=W
 |[],h=>by cases h
 |(j,p)::l,h=>by
  obtain⟨a,h⟩|⟨_,h⟩:=ah h
  simp_all
  let ⟨h1,h2⟩:=Ch h
  simp_all
section
variable {ops:Array Oper}{listed:Array aa}
theorem EB{j:Nat}(b:listed.size=ops.size)(h:j∈Region.ready .any ops listed):∃o,At ops j o/\¬mS listed j/\∀e∈xD o,mS listed e:=by
 let ⟨h1,o,c,h2⟩:=mem_ready.1 h
 have g:j<listed.size:=by grind
 refine⟨o,by unfold At;simpa using c,λi=>?_,λe f=>?_⟩
 simp_all[mS]
 obtain⟨d,a,rfl⟩:=tJ.1 f;rw[List.mem_filter]at a;exact h2 d (by grind) a.2
variable {bef:List Nat}{done i j:Nat}{o:Oper}
def V7(a:listed.size=ops.size)(b:At ops j o)(hn:¬mS listed j)(c:∀e∈xD o,mS listed e):j∈Region.ready .any ops listed:=by
 have g:j<listed.size:=by rw[a];exact uR b
 refine mem_ready.2 ⟨?_,o,Gk b,λe d f=>c e.on (tJ.2 ⟨e,List.mem_filter.2 ⟨by simpa using d,f⟩,rfl⟩)⟩
 simp_all[mS]
theorem H8(c:uQ ops.toList 0=W)(a:listed.size=ops.size)(h:Region.ready .any ops listed=[]):∀j o,At ops j o->mS listed j:=by
 intro j
 induction j using Nat.strongRecOn with
 |_ j k=>
  intro o b;refine We λd=>?_;have:j∈Region.ready .any ops listed:=V7 a b d λe f=>by
   have g:=AB c b e f;have l:=uR b;have i:At ops e (ops[e]'(by omega)):=by
    grind[At]
   grind
  simp_all
theorem FV(a:listed.size=ops.size)(h:listed.toList.count J<=0){j:Nat}{o:Oper}(b:At ops j o):mS listed j:=by
 have c:j<listed.size:=by rw[a];exact uR b
 have d:listed.toList.count J=0:=by omega
 rw[List.count_eq_zero]at d;unfold mS;simp only[Array.getD,c,dite_true];cases e:listed[j]with
 |true=>exact e|false=>
  grind
def count_set(a:listed.size=ops.size){m j:Nat}{o:Oper}(b:At ops j o)(hn:¬mS listed j)(h:listed.toList.count J<=m+1):(listed.setIfInBounds j W).toList.count J<=m:=by
 have c:j<listed.size:=by rw[a];exact uR b
 simp_all[mS,List.count_set]
end
section
variable {E:er S}{ops:Array Oper}{jD:bV S}{s0:bf S}{g0:Gh}{w0:av}
theorem PU(hE:e8 E){call:fO S}(vR:gu E.T.E.P call)(e:yp E ops jD.n){ω:Type}{kp:bV S->V S->bf S->O ω}{kk:bV S->bf S->O ω}{r:ω}{Q:Exit->Act->av->Prop}
  (hN:∀fr' s' g' a' w',kk fr' s'=Z r->fr'.n=jD.n->cS g' (bB fr') a' w'->eB s0 g0 w0 s' g' w'->ej (ops.toList.filterMap (·.dst)) jD fr' s'.dr s0.aF->Q .normal a' w')
  (hP:∀fr' t s' g' a' v w',kp fr' t s'=Z r->fr'.n=jD.n->cS g' (bB fr') a' w'->eB s0 g0 w0 s' g' w'->ej (ops.toList.filterMap (·.dst)) jD fr' s'.dr s0.aF->aH g' w' (low t) v->Q (.panic [{v,recovered:=J}]) a' w') {rr:O Nat} (I:rr≠Y->∀o∈ops.toList,∀c,o.op≠.defer c) :
  ∀(n done:Nat)(fr:bV S)(s:bf S),uf E call ops.toList (wq ops.toList) (rO ops.toList) kp kk n done fr s=Z r->∀(m:Nat)(listed:Array aa)(bl:Nat->Nat)(g:Gh)(a:Act)(w:av),
   sq E ops jD s0 g0 w0 done fr s bl listed g a w->listed.toList.count J<=m->acI rr E.T.E.P ops Q m listed a w:=by
 intro n
 induction n with
 |zero=>intro done fr s h;cases h
 |succ n ih=>
  intro done fr s h;simp only[uf]at h;split at h
  ·
   rename_i i o hq
   let ⟨hm,K,hna,P,z⟩:=Cg hq
   have C:At ops i o:=jg.1 hm
   replace P:¬antiP ops.toList i:=YD C P
   obtain⟨hd,h2⟩|⟨_,h2⟩:=ah h
   rotate_left;cases h2;clear h;intro m listed bl g a w b F;obtain⟨hsk,h3⟩|⟨_,h2⟩:=ah h2
   exact ih _ _ _ h3 m listed bl g a w (b.float e C K hna P (zA.1 z) hd (.inl ⟨hsk,rfl⟩)) F;split at h2;cases h2;rename_i hg;rw[Ag]at h2
   let ⟨t,e1,h3⟩:=uY.1 h2
   let ⟨t',hkb,h3⟩:=Ts h3
   exact ih _ _ _ h3 m listed bl g a w (b.float e C K hna P (zA.1 z) hd (.inr (.inl ⟨hg,t,e1,hkb⟩))) F;rename_i c hg
   let ⟨hok,h2⟩:=nY h2
   rw[Ag]at h2
   let ⟨t,e1,h3⟩:=uY.1 h2
   exact ih _ _ _ h3 m listed bl g a w (b.float e C K hna P (zA.1 z) hd (.inr (.inr ⟨c,t,hg,hok,e1,rfl⟩))) F
  .split at h
   ·
    rename_i i o hq
    let ⟨hm,K,hna,z⟩:=Ch hq
    have C:At ops i o:=jg.1 hm;obtain⟨R,h2⟩|⟨_,h2⟩:=ah h
    rotate_left;cases h2;clear h;split at h2;cases h2;rename_i sU s1 had;intro m
    induction m with
    |zero=>
     intro listed bl g a w b F;exfalso;obtain h1|h1:=b.ld i o C (FV b.J1 F C)
     simp_all
     simp_all
    |succ m ihm=>
     intro listed bl g a w b F;have hnl:¬mS listed i:=λhl=>by
      obtain h1|h1:=b.ld i o C hl
      simp_all
      simp_all
     refine⟨λhr=>absurd (H8 e.bk b.J1 hr i o C) hnl,λj hj=>?_⟩
     let ⟨p,y,f,B⟩:=EB b.J1 hj
     cases A:done.testBit j with
     |true=>exact b.acX hE e y A f B (λg' a' w' d=>ihm _ bl g' a' w' d (count_set b.J1 y f F)) I|false=>
      cases haj:eX p with
      |true=>exact b.acY hE e y A haj f B (λAR a' w' d=>ihm _ AR g a' w' d (count_set b.J1 y f F)) I|false=>
       have hji:i=j:=by
        have:=j5.1 R (j,p) (jg.2 y);simp only[A,haj,Bool.false_or,nI]at this;obtain h1|h1:=this
        simp_all
        exact absurd (mZ e.bk (λi o hi hl=>b.Ui i o hi hl) y B i h1) hnl
       subst hji;have:o=p:=jG (C.symm.trans y);subst this;refine b.step hE vR e C K f B (λj hj=>?_) had (kp:=kp) (k:=λdone fr s=>uf E call ops.toList (wq ops.toList) (rO ops.toList) kp kk n done fr s) h2 (λdone' fr' s' g' a' w' hk d=>ih _ _ _ hk m _ bl g' a' w' d (count_set b.J1 C f F)) hP I;have:=zA.1 z j hj;rwa [LZ,nI]at this
   ·
    split at h;cases h;rename_i sU s1 had;obtain⟨R,h2⟩|⟨_,h2⟩:=ah h
    rotate_left;cases h2;have hda:∀{j:Nat}{p:Oper},At ops j p->done.testBit j=W\/eX p=W:=λ{j p}y=>by
     have:=j5.1 R (j,p) (jg.2 y)
     grind
    have hend:∀(listed:Array aa)(bl:Nat->Nat)(g:Gh)(a:Act)(w:av),sq E ops jD s0 g0 w0 done fr s bl listed g a w->(∀j o,At ops j o->mS listed j)->Q .normal a w:=by
     intro listed bl g a w b hl;have hdp:∀{j:Nat}{p:Oper},At ops j p->done.testBit j=W\/(xO (rO ops.toList) done).testBit j=W:=λ{j p}y=>by cases A:done.testBit j with|true=>exact .inl rfl|false=>exact .inr ((vC done j).2 ⟨p,y,(hda y).resolve_left (by simp_all),A⟩)
     let ⟨g1,hA,hC⟩:=b.yb e had (λj hj=>by
       let ⟨p,y,_⟩:=(vC done j).1 hj
       exact⟨hl j p y,hj⟩) (λj hj x hx=>by
       let ⟨p,y,_⟩:=(vC done j).1 hj
       have hlt:=WI e.bk y x hx;have xB:=uR (ops:=ops) y;have De:At ops x (ops[x]'(by omega)):=by
        grind[At]
       exact hdp De)
     refine hN sU s1 g1 a w h2 hC.n ⟨hC.U6,hC.df,λk t hk=>?_⟩ hC.AT ⟨λk v hk hv=>?_,by rw[hA.NA,hA.dr];exact b.fk.df⟩;rw[bU,fG]at hk;obtain⟨u,hu,rfl⟩:=hk;exact hC.tm k u hu λi o hi _=>⟨λ_=>by grind,λ_=>hl i o hi⟩;obtain h1|h1:=b.fk.tm k v hk hv
     left
     rw[hA.old k λq hq _ XG=>hk (zN.2 ⟨_,hU (jg.1 hq),XG⟩)];exact h1;rw[hA.dr];exact .inr h1
    intro m
    induction m with
    |zero=>
     intro listed bl g a w b F;have hl:∀j o,At ops j o->mS listed j:=λj o C=>FV b.J1 F C;refine⟨?_,hend listed bl g a w b hl⟩;cases hr:Region.ready .any ops listed with
     |nil=>rfl|cons j l=>
      let ⟨p,y,f,_⟩:=EB b.J1 (j:=j) (by simp_all)
      grind
    |succ m ihm=>
     intro listed bl g a w b F;refine⟨λhr=>hend listed bl g a w b (H8 e.bk b.J1 hr),λj hj=>?_⟩
     let ⟨p,y,f,B⟩:=EB b.J1 hj
     cases A:done.testBit j with|true=>exact b.acX hE e y A f B (λg' a' w' d=>ihm _ bl g' a' w' d (count_set b.J1 y f F)) I|false=>exact b.acY hE e y A ((hda y).resolve_left (by simp_all)) f B (λAR a' w' d=>ihm _ AR g a' w' d (count_set b.J1 y f F)) I
def afz(hE:e8 E)(hm:E.T.E.P.follows .mixedOrders=W){call:fO S}(e:gu E.T.E.P call):sn E call:=by
 intro id ops ω kp k r fr s u h hn g a w x p Q hN hP rr m;have y:rr≠Y->∀o∈ops.toList,∀c,o.op≠.defer c:=λhr=>Ry (m hr);unfold Yh at u;simp only[eM]at u
 let ⟨b1,b2,b3,b4,b5,b6⟩:=u
 have z:yp E ops fr.n:=⟨b1,b2,b3,b4,b5⟩;have A:s.fl=0:=uZ b6;refine LV hm ?_
 let ⟨B,C⟩:=p.grow (fl:=s.fl) (I:=g.bp) (w':={w with drawn:=w.drawn+1}) (λ_ h=>h) (λ_ h=>.inl h) p.bp (cM _) (λ_ _=>rfl) rfl rfl
 have n:eB s g w s g {w with drawn:=w.drawn+1}:=
  ⟨B,⟨λ_ _ h=>h,λ_ _ _ _ h=>h,λ_ h=>h,cM _,λ_ _ _=>rfl,λo b d hO=>.inl ⟨o,d,hO⟩,λ_ h=>.inl h,rfl,rfl⟩,rfl,rfl,cM _,λ_ h=>h,λ_ _ _=>rfl,λ_ h=>h⟩
 have q:∀i,¬mS (Array.replicate ops.size J) i:=λi d=>by
  simp_all[mS,Array.getD]
 refine PU hE e z (s0:=s) (g0:=g) (w0:=w) (kp:=kp) (kk:=k) (r:=r) (λl F K P w' h1 h2 h3 h4 h5=>hN l F K P w' h1 h2 h3 h4 ?_) (λl t F K P v w' h1 h2 h3 h4 h5 h6=>hP l t F K P v w' h1 h2 h3 h4 h5 h6) y _ 0 fr s h ops.size _ (λ_=>0) g a _
  ⟨by simp,rfl,hn,x.size,x.df.imp (λ_ _ R=>R.ext C p.bp) C.bP,λk t hk _=>?_,λi _ _ d=>absurd d (q i),λi _ _ hd=>by simp at hd,λi _ _ d=>absurd d (q i),λi _ _ hd=>by simp at hd,λi _ _ d=>absurd d (q i),λi _ d=>absurd d (q i),n,ej.refl _ _ _ _,A,λj _ hj=>by simp at hj⟩ (by simp)
 exact h5
 let ⟨v,hv,R⟩:=x.tm k (low t) (by rw[bU,hk];rfl)
 exact⟨v,hv,R.ext C p.bp⟩
def adl{E:er S}(e:e8 E)(g:E.T.E.P.follows .mixedOrders=W){f:FuncId}{fn:Func}{c:Code}(a:E.T.E.Sp f=Z fn)(h:fn.body=Z c)(n d:Nat)(ps:L Pk)(b:L Ck) :
  bz E.T.E.P f ⟨ps,b,E.pn,uM E n d f ps b⟩:=FW e (λ_=>afz e g) a h n d ps b
end
section
def zD:az->D
 |.slice Y 0 0=>.sl []|v=>.lit v
def Vy(z:az):L D:=z.cells.toList.map zD
theorem ag2(v:az):afM (zD v) v:=by unfold zD;split;exact .inl ⟨rfl,rfl⟩;exact .inr rfl
theorem VG(z:az):ZOk (Vy z) z.cells:=by
 refine⟨by simp[Vy],λj d v h1 h2=>?_⟩;simp only[Vy,kF,fG]at h1;obtain⟨u,a,rfl⟩:=h1
 grind[ag2]
def afE:D->Nat
 |.lit (.string _)=>16|.sl _=>24|_=>8
def oC:L D->Nat
 |[]=>0|d::l=>Na (afE d) (oC l)
def FQ(agg:aa)(a:L D):Nat:=bif agg then oC a else match a with
 |[.lit (.int .i8 _)]|[.lit (.int .u8 _)]|[.lit (.bool _)]=>1|[.lit (.int .i16 _)]|[.lit (.int .u16 _)]=>2|[.lit (.int .i32 _)]|[.lit (.int .u32 _)]=>4|a=>oC a
def Sq(P:cP)(f:Field):O (Nat×Nat×aa):=match P.info? f.type,P.underlying f.type with
 |some j,Z d=>Z (f.offset,j.size,dV d)|_,_=>Y
def fieldsOf(P:cP):L Field->O (L (Nat×Nat×aa))
 |[]=>Z []|f::l=>match Sq P f,fieldsOf P l with
  |some x,Z r=>Z (x::r)|_,_=>Y
def CG{P:cP}:∀{l:L Field}{a:L (Nat×Nat×aa)},fieldsOf P l=Z a->l.length=a.length/\∀(k:Nat)off size ag,a[k]?=Z (off,size,ag)->
  ∃f j c,l[k]?=Z f/\f.offset=off/\P.info? f.type=Z j/\j.size=size/\P.underlying f.type=Z c/\ag=dV c
 |[],a,h=>by simp only[fieldsOf,gC]at h;subst h;exact⟨rfl,λk _ _ _ h=>by simp at h⟩
 |f::l,a,h=>by
  simp[fieldsOf]at h;split at h
  .rename_i h1 h2;simp at h;subst h
   let ⟨e,g⟩:=CG h2
   refine⟨by simp[e],λk off size ag b=>?_⟩;cases k with
   |zero=>simp at b;subst b;unfold Sq at h1;split at h1;rename_i j d i m;obtain⟨rfl,rfl,rfl⟩:=h1;exact⟨f,j,d,rfl,rfl,i,rfl,m,rfl⟩;cases h1
   |succ k=>exact g k off size ag (by simpa using b)
  cases h
def Xl(P:cP):TypeDesc->Kd
 |.int k=>.leaf (.int k)|.bool=>.leaf .bool|.string=>.leaf .str|.pointer _=>.ptr|.interface _=>.iface|.slice e=>match P.info? e,P.underlying e with
  |some j,Z d=>match j.zero with
   |some z=>bif Nl j.bytes 4096&&(Nt 0 j.size&&(Nl j.bytes (FQ (dV d) (Vy z))&&(Nl (FQ (dV d) (Vy z)) (Nat.mul 2 j.bytes)&&(Nt 0 j.bytes&&Nq (cC (Vy z)) j.size))))then
     .slice j.size (dV d) (FQ (dV d) (Vy z)) (Vy z)else .other
   |none=>.other
  |_,_=>.other
 |.struct fields=>match fieldsOf P fields.toList with
  |some a=>.struct a|none=>.other
 |.array len e=>match P.info? e,P.underlying e with
  |some j,Z d=>.array len j.size (dV d)|_,_=>.other
 |_=>.other
theorem aa7(P:cP)(d:TypeDesc):ak2 P (Xl P d) d:=by
 cases d with
 |slice e=>
  simp only[Xl];split;rename_i j d h1 h2;split
  .rename_i z b;cases a:(Nl j.bytes 4096&&(Nt 0 j.size&&(Nl j.bytes (FQ (dV d) (Vy z))&&(Nl (FQ (dV d) (Vy z)) (Nat.mul 2 j.bytes)&&(Nt 0 j.bytes&&Nq (cC (Vy z)) j.size)))))with
   |false=>trivial|true=>
    simp only[eM]at a
    let ⟨c,f,g,i,l,o⟩:=a
    exact⟨e,j,d,z,rfl,h1,rfl,h2,rfl,b,VG z,gH c,gH f,gH g,gH i,gH l,by grind[bS,Nat.eq_of_beq_eq_true]⟩
  trivial;trivial
 |struct fields=>
  simp[Xl];split;rename_i h
  let ⟨m,p⟩:=CG h
  exact⟨fields,rfl,by simpa using m,λk off size q r=>by
   grind⟩
  trivial
 |array len e=>simp[Xl];split;rename_i j d h1 h2;exact⟨e,j,d,rfl,h1,rfl,h2,rfl⟩;trivial
 |int k=>exact rfl|bool=>exact rfl|string=>exact rfl|pointer e=>exact⟨e,rfl⟩|interface n=>exact⟨n,rfl⟩|_=>trivial
def Xu:az->aa
 |.agg _=>W|_=>J
def aaj(P:cP)(a:TypeId->L Lk)(t:TypeId):O TI:=match P.info? t,P.underlying t with
 |some x,Z d=>match x.zero with
  |some z=>bif (bif dV d then Xu z else !(Xu z))then Z ⟨x.size,dV d,Vy z,bif dV d then a t else[],Xl P d⟩else Y|none=>Y
 |_,_=>Y
variable {P:cP}
def aai{a:TypeId->L Lk}(n:∀t,a t≠[]->aga P t (a t)){t:TypeId}{i:TI}(h:aaj P a t=Z i):mM P t i:=by
 unfold aaj at h;split at h;rename_i x d j k;split at h;rename_i z l;obtain⟨g,h⟩|⟨_,h⟩:=ah h
 simp at h;subst h;refine⟨λb m=>?_,λo c=>?_,λp q e f=>?_,x,d,z,j,k,rfl,rfl,l,VG z,aa7 P d⟩
 simp_all
 rw[k]at c;cases c;rfl;rw[j]at e;cases e;rw[l]at f;cases f;refine⟨λb=>?_,λb=>?_⟩;dsimp only at b;rw[b,gn]at g;cases z<;>first|exact⟨_,rfl⟩|cases g
 dsimp only at b;rw[b,gJ]at g;cases z<;>first|rfl|cases g
 iterate 3 cases h
end
def FD(P:cP)(b:TypeId->O (L Lk)):L Field->Nat->O (L Lk)
 |[],_=>Z []|f::l,off=>match b f.type,P.info? f.type with
  |some a,Z j=>bif (f.name != "_")&&(Nq f.offset off&&Nq j.size (cC a))then(FD P b l (Na off (cC a))).map λr=>a++r else Y|_,_=>Y
def CE(P:cP):Nat->TypeId->O (L Lk)
 |0,_=>Y|d+1,t=>match P.underlying t with
  |some (.int k)=>Z [.int k]|some .bool=>Z [.bool]|some .string=>Z [.str]|some (.struct a)=>bif P.stoodInHeld t then Y else FD P (CE P d) a.toList 0|_=>Y
def xT:∀{a b c d:L az},a.length=b.length->m9 (a++c) (b++d)=(m9 a b&&m9 c d)
 |[],[],c,d,_=>by rfl
 |x::a,y::b,c,d,h=>by simp[List.cons_append,m9,xT (a:=a) (b:=b) (by simpa using h),Bool.and_assoc]
 |[],_::_,_,_,h=>by simp at h
 |_::_,[],_,_,h=>by simp at h
def uA(a:L Lk)(l:L az):Prop:=l.length=a.length/\∀(j:Nat)(k:Lk)(v:az),a[j]?=Z k->l[j]?=Z v->AJ k v
theorem uA.split{a b:L Lk}{l:L az}(h:uA (a++b) l):uA a (l.take a.length)/\uA b (l.drop a.length):=by have c:=h.1;refine⟨⟨by simp_all,λj k v h1 h2=>?_⟩,⟨by simp_all,λj k v h1 h2=>?_⟩⟩;exact h.2 j k v (by grind) (by grind);exact h.2 (a.length+j) k v (by grind) (by simp_all)
section
variable {P:cP}
def Mk(P:cP)(t:TypeId)(l:L az)(v:az):Prop:=∃u,P.underlying t=Z u/\((dV u=W/\v=.agg l.toArray)\/(dV u=J/\l=[v]))
theorem abS{d:Nat}{t:TypeId}{a:L Lk}(h:CE P d t=Z a):∃u,P.underlying t=Z u/\(dV u=W\/(dV u=J/\a.length=1)):=by
 cases d with
 |zero=>cases h
 |succ d=>
  simp[CE]at h;split at h
  grind
  grind
  grind
  rename_i b;exact⟨_,b,.inl rfl⟩;cases h
theorem abR:∀(d:Nat)(t:TypeId)(z:L Lk),CE P d t=Z z->∀(D:Nat),d<=D->∀(w:av)(e ys:L az)(x y:az),uA z e->uA z ys->Mk P t e x->Mk P t ys y->
  (Op.equalIn D t x y).run P w=.ok (m9 e ys) w:=by
 intro d
 induction d with
 |zero=>intro t z h;cases h
 |succ d ih=>
  intro t z h D hD w e ys x y hx hy K Q;obtain⟨D,rfl⟩:∃D',D=D'+1:=⟨D-1,by omega⟩;simp[CE]at h
  let ⟨u,S,K⟩:=K
  let ⟨u',g,Q⟩:=Q
  rw[S]at g;cases g;rw[S]at h;have one:∀{k:Lk},z=[k]->dV u=J->e=[x]/\ys=[y]/\AJ k x/\AJ k y:=by
   rintro k rfl ha
   obtain⟨h1,_⟩|⟨_,rfl⟩:=K
   simp_all
   obtain⟨h1,_⟩|⟨_,rfl⟩:=Q
   simp_all
   exact⟨rfl,rfl,hx.2 0 _ _ rfl rfl,hy.2 0 _ _ rfl rfl⟩
  split at h;rename_i p;cases p;simp at h;obtain⟨rfl,rfl,⟨a,rfl⟩,⟨b,rfl⟩⟩:=one h.symm rfl
  grind[run_equalIn_int,m9,FL]
  rename_i p;cases p;simp at h;obtain⟨rfl,rfl,⟨a,rfl⟩,⟨b,rfl⟩⟩:=one h.symm rfl
  grind[run_equalIn_bool',m9,FL]
  rename_i p;cases p;simp at h;obtain⟨rfl,rfl,⟨a,rfl⟩,⟨b,rfl⟩⟩:=one h.symm rfl
  grind[run_equalIn_string,beq_toListBytes,m9,FL]
  .rename_i fs p;cases p;obtain⟨_,h⟩|⟨hst,h⟩:=ah h
   cases h;obtain⟨_,rfl⟩|⟨h1,_⟩:=K
   rotate_left;cases h1;obtain⟨_,rfl⟩|⟨h1,_⟩:=Q
   rotate_left;cases h1;have hfo:P.fieldsOf t=fs:=by simp[Program.fieldsOf,S]
   rw[run_equalIn_struct w D t _ _ (by grind) hst,hfo];have key:∀(l:L Field)(off:Nat)(i:L Lk),FD P (CE P d) l off=Z i->uA i (e.drop off)->uA i (ys.drop off)->off<=e.length->off<=ys.length->
     (Op.eqFields D e.toArray ys.toArray l).run P w=.ok (m9 (e.drop off) (ys.drop off)) w:=by
    intro l
    induction l with
    |nil=>intro off i h R ky _ _;simp only[FD,gC]at h;subst h;have e1:=Da R.1;rw[e1];rfl
    |cons f l ihl=>
     intro off i h R ky ox oy;simp only[FD]at h;split at h
     .rename_i c j h1 h2;obtain⟨hb,h⟩|⟨_,h⟩:=ah h
      rotate_left;cases h;simp only[eM]at hb
      let ⟨hnm,o,hsz⟩:=hb
      have o:=uZ o;rw[bS]at hsz h;simp only[fG]at h;obtain⟨r,hr,rfl⟩:=h
      let ⟨q,B⟩:=R.split
      let ⟨s,C⟩:=ky.split
      rw[acR]at B C;have hlx:=R.1;have hly:=ky.1;rw[xu,List.length_drop]at hlx hly;have m:∀(A:L az),uA c ((A.drop off).take c.length)->∃v,(part f.type A.toArray f.offset).run P w=.ok v w/\Mk P f.type ((A.drop off).take c.length) v:=by
       intro A hz
       let ⟨u,g,n⟩:=abS h1
       obtain n|⟨n,h1l⟩:=n
       refine⟨.agg ((A.drop off).take c.length).toArray,?_,u,g,.inl ⟨n,rfl⟩⟩
       simp_all[part,tH,dm]
       have E:=hz.1;rw[h1l]at E
       let ⟨v,hv⟩:=Wi.1 E
       refine⟨v,?_,u,g,.inr ⟨n,by grind⟩⟩;have hvv:A[off]?=Z v:=by
        have:=lq (λl=>l[0]?) hv
        grind
       simp_all[part,tH]
      let ⟨v1,e1,m1⟩:=m e q
      let ⟨v2,e2,m2⟩:=m ys s
      have F:=ih f.type c h1 D (by omega) w _ _ v1 v2 q s m1 m2;have Sk:=ihl (off+c.length) r hr B C (by omega) (by omega);have I:f.name≠ "_":=by grind
      have hsx:e.drop off=(e.drop off).take c.length++e.drop (off+c.length):=by
       grind[List.drop_drop,List.take_append_drop]
      have hsy:ys.drop off=(ys.drop off).take c.length++ys.drop (off+c.length):=by
       grind[List.drop_drop,List.take_append_drop]
      rw[hsx,hsy,xT (by rw[q.1,s.1])];simp only[Op.eqFields,I,ne_eq,not_false_eq_true,yE,run_bind,e1,e2,F,andThen_ok];cases hq:m9 ((e.drop off).take c.length) ((ys.drop off).take c.length)with|true=>grind|false=>simp
     cases h
   grind
  cases h
def Nd(P:cP)(t:TypeId):L Lk:=bif P.eqGuardType P.depth t then[]else match CE P 100 t with
 |some a=>match P.underlying t with
  |some u=>bif dV u then a else[]|none=>[]
 |none=>[]
def X3(t:TypeId)(h:Nd P t≠[]):aga P t (Nd P t):=by
 unfold Nd at h ⊢;cases e:P.eqGuardType P.depth t with
 |true=>simp_all|false=>
  cases f:CE P 100 t with
  |none=>simp_all|some g=>
   cases c:P.underlying t with
   |none=>simp_all|some u=>
    dsimp only at h ⊢;cases d:dV u with
    |false=>simp_all|true=>
     intro w op x y a b i l m n;refine⟨run_eqGuard_agg w op t x y a b e,?_⟩;have:=abR 100 t g f Op.maxDepth (by decide) w a.toList b.toList (.agg a) (.agg b) ⟨by simpa using i,λj k v h1 h2=>m j k v h1 (by simpa using h2)⟩ ⟨by simpa using l,λj k v h1 h2=>n j k v h1 (by simpa using h2)⟩
      ⟨u,c,.inl ⟨d,rfl⟩⟩ ⟨u,c,.inl ⟨d,rfl⟩⟩
     exact this
end
def Xk{l:L Ty}(h:l.all (λt=>!(ke t))=W):∀t∈l,ke t=J:=by
 simp_all
namespace Tr
variable {α β:Type}
def mapKey(f:Nat->α->β):Tr α->Tr β
 |.nil=>.nil|.node v l r=>.node (match v with|some x=>Z (f 0 x)|none=>Y) (mapKey (λj=>f (Ns (Nat.mul 2 j))) l) (mapKey (λj=>f (Ns (Ns (Nat.mul 2 j)))) r)
theorem yT:∀(t:Tr α)(f:Nat->α->β)(k:Nat),(t.mapKey f).get k=(t.get k).map (f k)
 |.nil,f,k=>by rfl
 |.node v l r,f,0=>by simp[mapKey,Tr.iO];cases v<;>rfl
 |.node v l r,f,k+1=>by
  simp only[mapKey,Tr.dz];by_cases a:k%2=0;rw[bO a,bO a,yT l];have:Ns (Nat.mul 2 (k/2))=k+1:=by grind
  rw[this];rw[cm a,cm a,yT r];have:Ns (Ns (Nat.mul 2 (k/2)))=k+1:=by grind
  rw[this]
theorem pH{t:Tr α}{f g:Nat->α->β}(h:t.mapKey f=t.mapKey g){k:Nat}{v:α}(a:t.get k=Z v):f k v=g k v:=by
 have:=lq (λt=>t.get k) h
 grind[yT]
end Tr
def RV:L (String×FuncId)->String->O FuncId
 |[],_=>Y|p::l,m=>bif p.1==m then Z p.2 else RV l m
def mkE(P:cP)(Ox:Tr TI)(Tj:Tr Ty)(ZZ:Tr MT)(vH:Tr (L (String×FuncId)))(og:Tr Func)(a:Nat->O Nat):fN:=
 ⟨⟨P,λk=>Ox.get k,λk=>og.get k,λ_=>Y⟩,λk=>Tj.get k,λk=>ZZ.get k,λt m=>match vH.get t with|some l=>RV l m|none=>Y,a⟩
section
variable (S:Sg)(P:cP)
def kZ(τ:Ty):L D:=bif ke τ then(match enc S τ (S.zero τ)with|.agg l=>l|_=>[])else[enc S τ (S.zero τ)]
def Ex(τ:Ty)(i:TI):Kd×aa×Nat×aa×L D:=match τ with
 |.int k=>(.leaf (.int k),J,1,W,kZ S τ)|.bool=>(.leaf .bool,J,1,W,kZ S τ)|.str=>(.leaf .str,J,1,W,kZ S τ)|.sl e=>(.slice (S.width e) (ke e) (y9 S e) (kZ S e),J,1,W,kZ S τ)|.st n=>(i.kd,W,cC (S.fs n),W,kZ S τ)|.de _=>(.iface,J,1,W,kZ S τ)|.opt _=>(.ptr,J,1,W,kZ S τ)|.mp _ _=>(i.kd,J,1,W,kZ S τ)
def Ew(τ:Ty)(i:TI):Kd×aa×Nat×aa×L D:=(i.kd,i.agg,i.size,(match τ with|.sl e=>Nt 0 (S.width e)|_=>W),i.zero)
theorem DY(τ:Ty):bif ke τ then D.agg (kZ S τ)=enc S τ (S.zero τ)else kZ S τ=[enc S τ (S.zero τ)]:=by cases τ<;>rfl
theorem ad1{τ:Ty}{i:TI}(h:Ex S τ i=Ew S τ i):yc S i τ/\Qr S i τ:=by
 have a:i.zero=kZ S τ->Qr S i τ:=by
  grind[Qr,DY]
 cases τ with
 |int k=>
  simp only[Ex,Ew,fc]at h
  let ⟨h1,h2,h3,_,h5⟩:=h
  exact⟨⟨h1.symm,h2.symm,h3.symm⟩,a h5.symm⟩
 |bool=>
  simp only[Ex,Ew,fc]at h
  let ⟨h1,h2,h3,_,h5⟩:=h
  exact⟨⟨h1.symm,h2.symm,h3.symm⟩,a h5.symm⟩
 |str=>
  simp only[Ex,Ew,fc]at h
  let ⟨h1,h2,h3,_,h5⟩:=h
  exact⟨⟨h1.symm,h2.symm,h3.symm⟩,a h5.symm⟩
 |sl e=>
  simp only[Ex,Ew,fc]at h
  let ⟨h1,h2,h3,h4,h5⟩:=h
  exact⟨⟨⟨_,h1.symm,DY S e⟩,h2.symm,h3.symm,gH h4.symm⟩,a h5.symm⟩
 |st n=>
  simp only[Ex,Ew,fc]at h
  let ⟨_,h2,h3,_,h5⟩:=h
  exact⟨⟨h2.symm,by rw[<-h3,bS]⟩,a h5.symm⟩
 |de n=>
  simp only[Ex,Ew,fc]at h
  let ⟨h1,h2,h3,_,h5⟩:=h
  exact⟨⟨h1.symm,h2.symm,h3.symm⟩,a h5.symm⟩
 |opt n=>
  simp only[Ex,Ew,fc]at h
  let ⟨h1,h2,h3,_,h5⟩:=h
  exact⟨⟨h1.symm,h2.symm,h3.symm⟩,a h5.symm⟩
 |mp k v=>
  simp only[Ex,Ew,fc]at h
  let ⟨_,h2,h3,_,h5⟩:=h
  exact⟨⟨trivial,h2.symm,h3.symm⟩,a h5.symm⟩
def ahI:Ty->TypeDesc->aa
 |.int k,.int j=>oe j k|.bool,.bool=>W|.str,.string=>W|_,_=>J
def aa5{t:Ty}{d:TypeDesc}(h:ahI t d=W):hY t d:=by
 cases t<;>cases d<;>first|exact rfl|(cases h;done)|skip
 rename_i k j;have:j=k:=by cases j<;>cases k<;>first|rfl|cases h
 rw[this];exact rfl
def mtB(E:fN)(t:Nat)(m:MT):aa:=match E.E.P.underlying t with
 |some (.map a el)=>Nq el m.el&&((match E.E.P.underlying a with|some d=>ahI m.kt d|none=>J)&&((match E.E.P.info? m.el with|some x=>x.zero.isSome|none=>J)&&
   (match m.vt with|some b=>(match E.ty m.el with|some c=>rH c b|none=>J)&&(E.E.ti m.el).isSome|none=>W)))
 |_=>J
theorem ael{E:fN}{t:Nat}{m:MT}(h:mtB E t m=W):∃a d,E.E.P.underlying t=Z (.map a m.el)/\E.E.P.underlying a=Z d/\hY m.kt d/\(∃x z,E.E.P.info? m.el=Z x/\x.zero=Z z)/\
  ∀b,m.vt=Z b->E.ty m.el=Z b/\∃i,E.E.ti m.el=Z i:=by
 unfold mtB at h;split at h
 .rename_i a el f;simp only[eM]at h
  let ⟨h1,h2,h3,h4⟩:=h
  have:=uZ h1;subst this;cases e:E.E.P.underlying a with
  |none=>simp_all|some d=>
   rw[e]at h2;cases g:E.E.P.info? m.el with
   |none=>simp_all|some x=>
    rw[g]at h3
    let ⟨z,j⟩:=Option.isSome_iff_exists.1 h3
    refine⟨a,d,f,e,aa5 h2,⟨x,z,rfl,j⟩,λb c=>?_⟩;rw[c]at h4
    grind[jy,Option.isSome_iff_exists]
 cases h
def Xs:TypeDesc->aa
 |.pointer _=>W|_=>J
def RP(P:cP)(t:Nat)(p:String×FuncId):aa:=match P.info? t,P.underlying t with
 |some x,Z d=>match x.methods.find? (·.name==p.1)with
  |some a=>match a.path.toList,a.func with
   |[],Z (f,b)=>Nq f p.2&&(bif b then Xs d else !(Xs d))|_,_=>J
  |none=>J
 |_,_=>J
def W7{P:cP}{t:Nat}{p:String×FuncId}(h:RP P t p=W):∃x a d,P.info? t=Z x/\x.methods.find? (·.name==p.1)=Z a/\a.path=#[]/\P.underlying t=Z d/\
  ((a.func=Z (p.2,J)/\∀e,d≠.pointer e)\/(a.func=Z (p.2,W)/\∃e,d=.pointer e)):=by
 unfold RP at h;split at h;rename_i x d c f;split at h;rename_i a g;split at h
 .rename_i b h1 h2;rw[eM]at h;have:=uZ h.1;subst this;refine⟨x,a,d,c,g,by simpa using h1,f,?_⟩;cases b with
  |false=>refine .inl ⟨h2,λe i=>?_⟩;subst i;exact Bool.noConfusion h.2|true=>
   refine .inr ⟨h2,?_⟩;cases d<;>first|exact⟨_,rfl⟩|exact Bool.noConfusion h.2
 iterate 3 cases h
theorem Iu:∀{l:L (String×FuncId)}{m:String}{f:FuncId},RV l m=Z f->(m,f)∈l
 |[],_,_,h=>by cases h
 |p::l,m,f,h=>by
  obtain⟨a,h⟩|⟨_,h⟩:=ah h
  grind
  exact hJ _ (Iu h)
end
theorem Yd{S:Sg}(o:eZ S){P:cP}{Ox:Tr TI}{Tj:Tr Ty}{ZZ:Tr MT}{vH:Tr (L (String×FuncId))}{og:Tr Func}{d:Nat->O Nat}
  (h1:Ox.mapKey (λk _=>aaj P (Nd P) k)=Ox.mapKey λ_ i=>Z i)
  (h2:og.mapKey (λk _=>P.funcs[k]?)=og.mapKey λ_ f=>Z f)
  (h3:Tj.mapKey (λk τ=>(Ox.get k).map (Ex S τ))=Tj.mapKey λk τ=>(Ox.get k).map (Ew S τ))
  (h4:og.mapKey (λ_ f=>f.name== "runtime.NumGoroutine")=og.mapKey λ_ _=>J)
  (h5:ZZ.mapKey (λk m=>mtB (mkE P Ox Tj ZZ vH og d) k m)=ZZ.mapKey λ_ _=>W)
  (h6:vH.mapKey (λk l=>l.all (RP P k))=vH.mapKey λ_ _=>W) (Hv:FuncId->O (kD S)) (sh:FuncId->Nat->O Vu) (p:∀f c,Hv f=Z c->bz P f c) (q:aa) (r:FuncId->L (V S)->O JSh) :
  e8 (⟨mkE P Ox Tj ZZ vH og d,Hv,sh,q,r⟩:er S):=by
 have a:∀k i τ,Ox.get k=Z i->Tj.get k=Z τ->yc S i τ/\Qr S i τ:=by
  grind[Tr.pH,ad1]
 refine⟨o,⟨λk i e=>?_,λf fn g=>?_⟩,⟨λk i τ e j=>(a k i τ e j).1⟩,λf fn g=>Tr.pH h4 g,λ_=>rfl,⟨λk i τ e j=>(a k i τ e j).2,λt m s=>?_,λt u f g=>?_⟩,p⟩;exact aai (λt h=>X3 t h) (Tr.pH h1 e);exact Tr.pH h2 g;exact ael (Tr.pH h5 s);have b:(match vH.get t with|some l=>RV l u|none=>Y)=Z f:=g;split at b;rename_i v;have n:=Tr.pH h6 v;rw[j5]at n;exact W7 (n _ (Iu b));cases b
section
def dg{R P α:Type}(x:Rx R P)(f:R->O α)(g:P->O α):O α:=match x with
 |.ok r=>f r|.jJ p=>g p
def bq{X R B P α:Type}(o:LO X R B P)(f:Nat->X->O α)(g:B->R->O α)(h:B->P->O α):O α:=match o with
 |.next _=>Y|.out j x=>f j x|.ret b r=>g b r|.jJ b p=>h b p
def cF{X R B P α:Type}(o:LO X R B P)(e:X->O α)(f:Nat->X->O α)(g:B->R->O α)(h:B->P->O α):O α:=match o with
 |.next x=>e x|.out j x=>f j x|.ret b r=>g b r|.jJ b p=>h b p
def ad5{α:Type}(n:Nat)(a:α):L α:=List.replicate n a
def n7(a b:aa):aa:=a&&b
def acj(a b:Nat):Nat:=Na a b
def trL{α:Type}:L (Nat×α)->Tr α
 |[]=>.nil|p::l=>(trL l).set aO p.1 p.2
def Rw:Code->L (Code×Code)
 |.seq a b=>Rw a++Rw b|.cond _ a b=>Rw a++Rw b|.block _ b=>Rw b|.loop b=>Rw b|.rangeFunc _ _ a b=>(a,b)::(Rw a++Rw b)|.scope b=>Rw b|_=>[]
def rgN(l:L (Code×Code))(i:Nat):Code×Code:=match l with
 |[]=>(.skip,.skip)|a::l=>match i with
  |0=>a|i+1=>rgN l i
def lpR(a n:Nat)(ps:L Nat)(c:Code×Code)(l:L (Nat×V S)):uz S:=.lp ⟨.ready,Y,a,M8 (uH c.1++uH c.2) {n:=n,tm:=trL l},ps,c.1,c.2⟩
def LF(l:L (FuncId×kD S))(f:FuncId):O (kD S):=match l with
 |[]=>Y|p::l=>bif Nq p.1 f then Z p.2 else LF l f
def OkL(P:cP):L (FuncId×kD S)->Prop
 |[]=>True|p::l=>bz P p.1 p.2/\OkL P l
def Rk{P:cP}:∀{l:L (FuncId×kD S)},OkL P l->∀f c,LF l f=Z c->bz P f c
 |[],_,_,_,h=>by cases h
 |p::l,⟨d,a⟩,f,c,h=>by
  unfold LF at h;cases b:Nq p.1 f with
  |true=>
   simp_all
  |false=>rw[b]at h;exact Rk a f c h
variable {P:cP}
def cq{f:FuncId}{ps:L Pk}{a:L Ck}{b:aa}(h:lH P f):bz P f (⟨ps,a,b,λ_=>Y⟩:kD S):=
 ⟨h,λ_ _ h=>by cases h⟩
def s9{α:Type}(b:L α×U):HF (isE b.1) (Z (([],()),())) (Z (b,()))=Z (b,()):=by
 let ⟨l,u⟩:=b
 cases l with|nil=>simp[HF]|cons a l=>rfl
end
end TL
end
