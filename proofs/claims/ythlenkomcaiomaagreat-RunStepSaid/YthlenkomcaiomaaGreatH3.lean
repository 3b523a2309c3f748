import Derived.Scope
import Derived.Recover
import Derived.Laws.StructEq
import Derived.Test.YthlenkomcaiomaaGreatH2
set_option linter.all false
set_option maxRecDepth 100000
set_option maxHeartbeats 0
noncomputable section
open Option renaming some->Z,none->Y
open Bool renaming true->W,false->J
open Nat renaming beq->Nq,ble->Nl,blt->Nt,succ->Ns,add->Na
open Go.Result(andThen_ok)
open Go.Sem(run_bind run_pure)
open TL.LO renaming next->N,ret->X,out->H
open TL.Rx renaming ok->G,iJ->M
section
namespace TL
open Go
variable {S:Sg}
section
def ye(s:bp S)(g:Gh)(w:World){ω:Type}(k kp:V S->bp S->O ω)(r:ω):Ending->World->Prop
 |.returned v,b=>∃t c d,k t c=Z r/\aI d b (low t) v/\eJ s g w c d b|.panicked chain,b=>∃v t c d,chain=[{v,recovered:=J}]/\kp t c=Z r/\aI d b (low t) v/\eJ s g w c d b|.outgrown,_=>False
def am3(P:Program)(call:gj S):Prop:=∀(f:FuncId)(args:L (V S))(s:bp S){ω:Type}(k kp:V S->bp S->O ω)(r:ω),call (.jn f) args s k kp=Z r->∀(g:Gh)(w:World)(vs:Array Value),aY g (aC s) w->PW (aI g w) (bA args) vs.toList->
  mu P f/\Calls P f vs w (ye s g w k kp r)
theorem xQ:∀{l:L Nat}{o:Nat},o∈l->o<=IN l
 |[],_,h=>by cases h
 |a::l,o,h=>by
  simp[IN];obtain rfl|h:=fV.1 h
  .cases b:Nl (IN l) o with
   |true=>grind|false=>
    grind[Nat.ble_eq_true_of_le]
  have:=xQ h;cases b:Nl (IN l) a with|true=>exact gk this (gS b)|false=>exact this
theorem jx{l:L Nat}{o:Nat}:Ca l o=J↔o∈l:=by simp[Ca]
def uM{t:Tr (vo S)}:∀{l:L Nat},(∀o∈l,o<bM)->∀{o:Nat},(DE t l).get o=if o∈l then t.get o else Y
 |[],_,o=>by rfl
 |a::l,h,o=>by
  have f:=uM (t:=t) (l:=l) (λo b=>h o (hJ _ b)) (o:=o);have c:=h a eI;simp only[DE];by_cases e:o=a
  .subst e;rw[bD eI];cases d:t.get o with
   |none=>
    simp_all
   |some x=>simp only;rw[Tr.aV _ _ _ _ c,bD rfl]
  cases d:t.get a with
  |none=>simp_all|some x=>
   simp_all[Tr.aV]
def TN(os:L Nat)(t:T):dK os.contains t=dy os t:=by
 induction t using T.rec (motive_2:=λl=>jz os.contains l=iM os l)with|fn f a b d g=>simp[dy,dK,d,g]|dj t v e=>simpa only[dy,dK]using e|agg i e=>simpa only[dy,dK]using e|gR i e=>simpa only[dy,dK]using e|gd c t e=>simpa only[dy,dK]using e|nil=>rfl|cons a l d h=>simp[iM,jz,d,h]|_=>rfl
def DA{p q:Nat->Bool}(h:∀o,p o=W->q o=W){α:Type}:∀l:L (α×V S),zu p l=W->zu q l=W
 |[],a=>by cases a
 |v::l,a=>by simp[zu,oQ]at a ⊢;exact a.imp (ew h v.2) (DA h l)
theorem uG{p q:V S->Bool}(h:∀v,p v=W->q v=W):∀t:Tr (V S),mW p t=W->mW q t=W
 |.nil,a=>by cases a
 |.node v l r,a=>by
  simp[mW,oQ]at a ⊢;refine a.imp (λa=>?_) (Or.imp (uG h l) (uG h r))
  grind
variable {p q:Nat->Bool}
def Lm(h:∀o,p o=W->q o=W){ob:vo S}(d:gI q ob=J):gI p ob=J:=by
 cases a:gI p ob with
 |false=>rfl|true=>
  have:gI q ob=W:=by cases ob with|box c=>exact mE h c a|Iw kt l=>exact DA h l a|lp l=>exact uG (ew h) _ a|lT n j l era m b hole=>exact h m a|_=>cases a
  simp_all
theorem FL{g:Gh}{w:World}{s:bp S}{b:L Ck}{v:V S}{val:Value}(i:aI g w (low v) val){x:gC S.A b}{fz ow:L Nat}(h:gn s b (Xu b v)=Z (x,fz,ow)):∃vals,val=valOf vals/\PW (aI g w) (bA (Xu b v)) vals:=by
 have one:∀{l:L (V S)},l=[v]->b.length=1->∃vals,val=valOf vals/\PW (aI g w) (bA l) vals:=by
  rintro l rfl _
  refine⟨[val],rfl,rfl,λj t u h1 h2=>?_⟩
  grind[bA]
 have d:∀{a:L Ck}{l:L (V S)}{x:gC S.A a}{fz ow:L Nat},gn s a l=Z (x,fz,ow)->a.length=l.length:=by
  intro a
  induction a with
  |nil=>grind[gn]|cons c a o=>intro l x fz ow h;cases l with
   |nil=>simp[gn]at h|cons v l=>
    grind[gn]
 have e:=d h;unfold Xu at e h ⊢;split at h
 grind
 .cases i with
  |gR _ f k m=>
   refine⟨f.toList,?_,by simpa using k,λj t v h1 h2=>m j t v h1 (by simpa using h2)⟩;have n:f.toList.length≠1:=by
    grind[eP,List.length_eq_one_iff]
   unfold valOf;split
   simp_all
   rfl
 simp_all
def GR{fr:ck S}:∀{n j:Nat}{l:L (V S)},getAll fr j n=Z l->l.length=n/\∀(i:Nat)(v:V S),l[i]?=Z v->fr.get (j+i)=Z v
 |0,j,l,h=>by simp only[getAll,gP]at h;subst h;exact⟨rfl,λi v h=>by simp at h⟩
 |n+1,j,l,h=>by
  simp only[getAll]at h;split at h
  .rename_i h1 h2;simp at h;subst h
   let ⟨b,c⟩:=GR h2
   refine⟨by simp[b],λi u a=>?_⟩;cases i with|zero=>simp at a;subst a;exact h1|succ i=>have:=c i u (by simpa using a);rw[show j+(i+1)=Ns j+i by omega];exact this
  cases h
theorem TC{g:Gh}{w:World}{fr:ck S}{s:bp S}{a:Act}(hf:cU g (bL fr) a w)(hs:aY g (aC s) w):∀{ps:L Pt}{f:L Nat},X3 fr s ps=Z f->∀o∈f,∃b,g.bT o=Z b
 |[],f,h=>by
  grind[X3]
 |p::l,f,h=>by
  simp[X3]at h;split at h;rename_i h1 h2;simp at h;subst h;intro j c;obtain rfl|c:=fV.1 c
  unfold ptO at h1;split at h1
  .rename_i k d;cases h1
   let ⟨u,e⟩:=ke hf hs d
   cases e with|ptr _ _ b i=>grind
  .rename_i k d;cases h1
   let ⟨u,e⟩:=ke hf hs d
   cases e with|mp _ b i=>grind
  .rename_i d;cases h1
   let ⟨u,e⟩:=ke hf hs d
   cases e with|rP _ b i=>grind
  cases h1;exact TC hf hs h2 j c;cases h
theorem Ti{s:bp S}:∀{cs:L Ck}{l:L (V S)}{x:gC S.A cs}{fz ow:L Nat},lD cs=W->gn s cs l=Z (x,fz,ow)->fz=[]/\ow=[]
 |[],[],_,fz,ow,_,h=>by
  grind[gn]
 |.dat t::cs,v::l,x,fz,ow,a,h=>by
  simp[lD,eW]at a;simp[gn]at h;split at h
  .rename_i c d;obtain⟨_,rfl,rfl⟩:=h;obtain⟨rfl,rfl⟩:=Ti a.2 d;simp[pF]at c;split at c
   .rename_i b;obtain⟨_,rfl,rfl⟩:=c;refine⟨?_,rfl⟩;cases t with
    |int k=>
     cases v<;>simp only[bX]at b<;>try(cases b;done)
     grind
     grind
    |bool=>
     cases v<;>simp only[bX]at b<;>try(cases b;done)
     grind
     simp_all
    |str=>
     cases v<;>simp only[bX]at b<;>try(cases b;done)
     grind
    |_=>simp[Xq]at a
   cases c
  cases h
 |.own _::_,_,_,_,_,a,_=>by simp[lD]at a
 |.ku ..::_,_,_,_,_,a,_=>by simp[lD]at a
 |.nil _::_,_,_,_,_,a,_=>by simp[lD]at a
 |.ptr _::_,_,_,_,_,a,_=>by simp[lD]at a
 |[],_::_,_,_,_,_,h=>by simp[gn]at h
 |.dat _::_,[],_,_,_,_,h=>by simp[gn]at h
section
variable {g:Gh}{w:World}
theorem Wf{P:Program}(hS:fq S){call:gj S}(wJ:am3 P call){s:bp S}(hs:aY g (aC s) w){c:JSh}{f:FuncId}{args:L (V S)}{ω:Type}{k:V S->bp S->L Nat->O ω}{r:ω}
  (h:evJ call c s f args k=Z r) {vs:Array Value} (hall:PW (aI g w) (bA args) vs.toList):mu P f/\Calls P f vs w λ
   |.returned v,w'=>∃t s' g' ow,k t s' ow=Z r/\aI g' w' (low t) v/\cS ow s g w s' g' w'|.panicked _,_=>False|.outgrown,_=>False:=by
 unfold evJ at h;split at h;rotate_left;cases h;rename_i C z hbs hks;split at h;cases h;rename_i F ow hpk;obtain⟨m,h1⟩|⟨_,h1⟩:=af h
 rotate_left;cases h1;clear h;simp only[eW]at m
 let ⟨⟨hlen,Za⟩,aeI,agQ,hmax⟩:=m
 have hlen:cH args<bM:=gS hlen;have Za:∀k∈zd c.sh,k<bM:=λk hk=>by
  simp_all
 have hmax:IN (C++z)+1<=F.aE:=gS hmax
 let ⟨y,hrun,h2⟩:=fN h1
 clear h1;split at h2;cases h2;rename_i s3 hout;have hvl:args.length=vs.size:=by have:=hall.1;rw[eP]at this;omega
 have VY:cU g (bL (T3 args)) {tmps:=vs++Array.replicate (cH args-vs.size) undef,defers:=[]} w:=tP hlen (by rw[bV];omega) hall;have agx:vs++Array.replicate (cH args-vs.size) undef=vs:=by
  simp_all[bV]
 rw[agx]at VY;generalize ha0:({tmps:=vs,defers:=[]}:Act)=a0 at VY;have ha0t:a0.tmps=vs:=by rw[<-ha0]
 let ⟨bl0,Ru⟩:=tJ VY hs hbs
 let ⟨A,vals,al,bl,d⟩:=kS hS VY hs Ru hpk
 have hkb:=TC VY hs hks;have V2:∀o∈C,∃b,A.bT o=Z b:=λo ho=>by
  obtain⟨j,hj,rfl⟩:=rQ ho;have hj':j<bl.length:=by have:=d.Iy.1;omega
  exact⟨bl[j],d.Iy.2 j _ _ (iX hj) (iX hj')⟩
 have hKb:∀o∈C++z,∃b,A.bT o=Z b:=λo ho=>by
  obtain ho|ho:=eX.1 ho
  exact V2 o ho
  let ⟨b,m⟩:=hkb o ho
  exact⟨b,d.ext.bT _ _ m⟩
 have ag2:∀o∈C++z,o<F.aE:=λo ho=>by
  let ⟨b,m⟩:=hKb o ho
  exact d.rel.lt m
 have hn1:F.aE<=bM:=d.rel.aE;have arS:∀o∈C++z,o∉ow:=λo ho hm=>by
  obtain ho|ho:=eX.1 ho
  exact(d.Uj o ho).2.2.1 hm
  let ⟨b,m⟩:=hkb o ho
  rw[d.owb o hm]at m;cases m
 have hkp:∀o∈z,∃ob,F.ob.get o=Z ob/\jV ob=W/\gI (Ca (C++z)) ob=J:=λo ho=>by
  unfold Ug at agQ;rw[kP]at agQ;have:=agQ o ho;split at this
  simp_all
  cases this
 have hKarr:∀o∈C++z,∀e,A.arr o e=Y:=λo ho e=>by
  obtain ho|ho:=eX.1 ho
  exact(d.Uj o ho).2.2.2 e
  let ⟨ob,i,Om,_⟩:=hkp o ho
  cases hx:A.arr o e with
  |none=>rfl|some x=>
   exfalso
   let ⟨_,h2⟩:=d.rel.arr o e x hx
   exact Az Om (h2 _ (by rw[aJ,i];rfl))
 have ac2:∀o∈z,o<bM:=λo ho=>iS (ag2 o (eV _ ho)) hn1;have Er:=d.alr.owned d.pr.iL;have aqJ:aY (A.base (Ca (C++z))) (aC (stJ C z F)) w:=by
  refine d.rel.base (aE:=IN (C++z)+1) (λo ho=>?_) rfl hmax (λo ob Q i=>?_)
  .cases hn:Ca (C++z) o with|true=>rfl|false=>have:=xQ (jx.1 hn);omega
  rw[aJ,show(stJ C z F).ob.get o=(DE F.ob z).get o from rfl,uM ac2]at i;split at i;rename_i hok
  let ⟨WW,R,_,hm⟩:=hkp o hok
  rw[R]at i;simp at i;subst i;refine⟨de WW,by rw[aJ,R];rfl,?_⟩;have:=lU (Ca (C++z)) WW;rwa [oK hm]at this;cases i
 have hf1:cU (A.base (Ca (C++z))) (bL (RE (C++z) c.sh (T3 args))) a0 w:=by
  refine⟨VY.size,by rw[<-ha0];exact .nil,λk t hk=>?_⟩;rw[cg,fT]at hk;obtain⟨v,hv,rfl⟩:=hk;have hv:(((zd c.sh).foldl (λt k=>t.del aM k) (T3 args).tm).keep λv=>!(cN (Ca (C++z)) v)).get k=Z v:=hv;rw[Tr.oF,ai8]at hv
  let ⟨h3,h4⟩:=hv
  have h5:(T3 args).get k=Z v:=by rw[Tr.oG _ _ _ Za]at h3;split at h3;cases h3;exact h3
  let ⟨u,hu,hr⟩:=VY.tm k (low v) (by rw[cg,h5];rfl)
  exact⟨u,hu,(hr.ext d.ext hs.bx).on (A.gJ _) (λ_ _=>rfl) (by rw[iu];simpa using h4)⟩
 unfold QG at hrun;split at hrun;cases hrun;rename_i Cn zc Ov;split at hrun;cases hrun;rename_i args' ek
 let ⟨gh,hh⟩:=wI (gb:=A.base (Ca (C++z))) Ov (Jt hlen) d.pr d.at_ ⟨d.Iy.1,λj o b h1 h2=>(A.gJ _).bT o b (jx.2 (fS _ (iA h1))) (d.Iy.2 j o b h1 h2)⟩
  (λo ho e=>by
   simp_all[Gh.base])
  (λa ha b m o E=>by
   let ⟨h3,h4⟩:=Gh.fO E
   let ⟨o',ho',K⟩:=Er a ha b m
   have:=d.rel.j6 o o' b h4 K
   grind[jx]) d.ap hf1 aqJ
 have hfn:Cn.n=vs.size:=by have h3:Cn.n=(T3 args).n:=hh.n;rw[h3];show cH args=_;rw[bV,hvl]
 have pY:PW (aI gh w) (bA args') vs.toList:=by
  let ⟨k1,k2⟩:=GR ek
  refine⟨by rw[eP,k1,hfn];simp,λj t v h3 h4=>?_⟩;rw[eZ,lE,fT]at h3;obtain⟨u,hu,rfl⟩:=h3;have h5:=k2 j u hu;rw[yo]at h5
  let ⟨v',h6,h7⟩:=hh.fr.tm j (low u) (by rw[cg,h5];rfl)
  simp_all
 let ⟨Ow,hc⟩:=wJ f args' zc _ _ y hrun gh w vs hh.rel pY
 refine⟨Ow,hc.mono λe w' he=>?_⟩;cases e with
 |outgrown=>exact he.elim|panicked ch=>
  let ⟨_,_,_,_,_,h3,_⟩:=he
  cases h3
 |returned v=>
 let ⟨t,s',g',h3,ht,n⟩:=he
 unfold aew at h3;split at h3;rotate_left;cases h3;rename_i yr fz ow' y2 s2 MR hr hy;obtain⟨hkw,h4⟩|⟨_,h4⟩:=af h3
 rotate_left;cases h4;simp at h4;subst h4;clear h3;have hkw:∀o∈z,o∉s2.wr:=λo ho=>by
  simp_all
 have hfE:∀(g:Gh)(w:World),cU g (bL (frE:ck S)) {tmps:=#[],defers:=[]} w:=λg w=>⟨rfl,.nil,λk t hk=>by simp_all[cg,frE,ck.get,Tr.get_nil]⟩;have agT:∀o∈C++z,∀b,A.bT o=Z b->gh.bT o=Z b:=λo ho b m=>by rw[hh.bT];exact(A.gJ _).bT o b (jx.2 ho) m
 have arO:PW (λo b=>g'.bT o=Z b) C bl:=⟨d.Iy.1,λj o b h1 h2=>n.ext.bT o b (agT o (fS _ (iA h1)) b (d.Iy.2 j o b h1 h2))⟩
 let ⟨g3,vals2,BI,bl2,l⟩:=kS hS (hfE g' w') n.rel arO hy
 have hfl:zc.fl=s.fl:=hh.fl.trans (show(stJ C z F).fl=s.fl from d.fl);have p:oN zc.lo zc.fl gh w g3 w':=n.ext.trans (n.fl▸l.ext.ID zc.lo);have hgi:gh.bx=A.bx:=hh.bx;have agK:∀{o b:Nat},bJ gh o b->(o∈C++z/\A.bT o=Z b/\bJ A o b)\/∃a∈al,a.at b:=λ{o b}E=>by
  obtain E|⟨_,hx⟩:=hh.own o b E
  let ⟨h3,h4⟩:=Gh.fO E
  have h3:=jx.1 h3;refine .inl ⟨h3,?_,h4⟩;obtain h5|⟨e,x,_,h5,_⟩:=h4.2
  exact h5
  simp_all
  exact .inr hx
 let X:Nat->Prop:=λb=>(∃o∈C++z,A.bT o=Z b)\/∃a∈al,a.at b
 have ac6:∀{o b:Nat},bJ gh o b->X b:=λ{o b}E=>(agK E).imp (λ⟨h1,h2,_⟩=>⟨o,h1,h2⟩) id;have hK3:∀o∈C++z,∀b,A.bT o=Z b->g3.bT o=Z b:=λo ho b m=>p.bT o b (agT o ho b m);have Zw:∀b,A.bx b->g3.bx b:=λb m=>p.bx b (by grind);have hXi:∀b,X b->¬A.bx b:=λb hX=>by
  obtain⟨o,_,ho⟩|⟨a,ha,I⟩:=hX
  exact(d.rel.box o b ho).1;exact d.pr.iL a ha b I
 have hXO:∀b,X b->∃o,(o∈C++z\/o∈ow)/\bJ A o b:=λb hX=>by
  obtain⟨o,h1,ho⟩|⟨a,ha,I⟩:=hX
  exact⟨o,.inl h1,(d.rel.box o b ho).1,.inl ho⟩
  let ⟨o,ho,E⟩:=Er a ha b I
  grind
 generalize hB:(cP [] ow C (frE:ck S) F).2=B at hout;have hBg:∀o,B.ob.get o=if o∈C then Y else(F.ob.get o).map (fc (dN ow F.aE)):=λo=>by rw[<-hB];exact ue (ds:=[]) (fr:=frE) (λb m=>iS (ag2 b (fS _ m)) hn1) o
 have hBn:B.aE=F.aE:=by rw[<-hB];rfl
 have arX:B.fl=F.fl:=by rw[<-hB];rfl
 have arV:B.lo=F.lo:=by rw[<-hB];rfl
 have hA:aY (A.base (dN ow F.aE)) (aC B) w:=by
  refine d.rel.base (aE:=F.aE) (λo ho=>?_) hBn (eO _) (λo ob Q i=>?_)
  simp_all[dN]
  rw[aJ,hBg]at i;split at i;cases i;rw[FV,fT]at i;obtain⟨vob,hv,rfl⟩:=i;exact⟨de vob,by rw[aJ,hv];rfl,lU _ vob⟩
 have arY:∀o,(yR z B).ob.get o=if o∈z then Y else B.ob.get o:=λo=>Tr.oG z _ o ac2
 have hA':aY (A.base (dN ow F.aE)) (aC (yR z B)) w:=by
  have hsub:∀o ob,(aC (yR z B)).ob.get o=Z ob->(aC B).ob.get o=Z ob:=by
   simp_all[aJ]
  refine⟨hA.aE,hA.ah,λo b h=>?_,λo e x h=>?_,hA.bx,hA.j6⟩
  let ⟨k1,k2,k3⟩:=hA.box o b h
  exact⟨k1,k2,λob i=>k3 ob (hsub o ob i)⟩
  let ⟨k1,k2⟩:=hA.arr o e x h
  exact⟨k1,λob i=>k2 ob (hsub o ob i)⟩
 have hC:aY {A.base (dN ow F.aE)with bx:=g3.bx} (aC (yR z B)) w':=by
  refine hA'.step (X:=X) Zw (λb m=>?_) l.rel.bx p.size (λb m hX=>n.ext.heap b m λo _ E=>hX (ac6 E)) (λo b hX E=>?_) hXi;obtain h|h|⟨o,_,E⟩:=p.oD b m
  rw[hgi]at h;exact .inl h;omega;exact .inr (.inr (ac6 E))
  let ⟨Q,E⟩:=Gh.fO E
  let ⟨o',ho',K⟩:=hXO b hX
  have:=d.rel.j6 o o' b E K;subst this;obtain hK|hw:=ho'
  refine⟨?_,?_⟩;rw[aJ,arY];obtain h|h:=eX.1 hK
  simp_all
  simp_all
  let ⟨b',hb'⟩:=hKb o hK
  obtain h5|⟨e,x,_,h5,_⟩:=E.2
  exact(l.rel.box o b (hK3 o hK b h5)).1
  simp_all
  exact absurd hw (l5 Q).1
 have alw:∀o∈C++z,dN ow F.aE o=J:=λo ho=>pS (arS o ho) (ag2 o ho);have hgB:aec (Ca (C++z)) g3 {A.base (dN ow F.aE)with bx:=g3.bx}:=by
  refine⟨λo b Q m=>?_,λo e x Q hx=>?_,λ_ h=>h⟩;have hK:=jx.1 Q
  let ⟨b',hb'⟩:=hKb o hK
  rw[hK3 o hK b' hb']at m;have hbb:b'=b:=j8 m;rw[<-hbb];exact(A.gJ _).bT o b' (alw o hK) hb';exfalso;have hK:=jx.1 Q;obtain h|h:=eX.1 hK
  rw[(l.Uj o h).2.2.2 e]at hx;cases hx
  let ⟨WW,R,Om,_⟩:=hkp o h
  let ⟨b',hb'⟩:=hKb o hK
  let ⟨_,k2⟩:=l.rel.arr o e x hx
  cases hoc:(aC s2).ob.get o with
  |none=>
   exfalso;have:s2.ob.get o=Z WW\/o∈C:=by
    by_cases i:o∈C;exact .inr i
    left
    rw[l.same o (hkw o h),n.same o (iS (Ts (xQ hK)) hh.aE) (λhm=>hkw o h (l.uk o hm)),hh.ob o (Ts (xQ hK)) i];show(DE F.ob z).get o=_;rw[uM ac2,bD h,R]
   obtain h6|h6:=this
   grind[aJ]
   rw[(l.Uj o h6).2.2.2 e]at hx;cases hx
  |some obx=>
   have h7:=(k2 obx hoc).oC;have h8:=(l.rel.box o b' (hK3 o hK b' hb')).2.2 obx hoc
   let ⟨_,_,h9⟩:=h8
   rw[h9.Cb]at h7;cases h7
 have hD:aY {A.base (dN ow F.aE)with bx:=g3.bx} (aC B) w':=by
  refine⟨hC.aE,hC.ah,λo b h=>?_,λo e x h=>?_,hC.bx,hC.j6⟩
  let ⟨k1,k2,k3⟩:=hC.box o b h
  refine⟨k1,k2,λob i=>?_⟩;by_cases hok:o∈z;have hK:o∈C++z:=eV _ hok
  let ⟨WW,R,Om,hm⟩:=hkp o hok
  have Rm:=i;rw[aJ,hBg]at Rm;split at Rm;cases Rm;rename_i hnb;rw[R]at Rm;simp at Rm;have hm2:gI (dN ow F.aE) WW=J:=Lm (λo ho=>by
   grind[jx]) hm
  rw[oK hm2]at Rm;subst Rm;have h6:s2.ob.get o=Z WW:=by rw[l.same o (hkw o hok),n.same o (iS (Ts (xQ hK)) hh.aE) (λhm=>hkw o hok (l.uk o hm)),hh.ob o (Ts (xQ hK)) hnb];show(DE F.ob z).get o=_;rw[uM ac2,bD hok,R]
  let ⟨Q,pZ⟩:=Gh.Bn (show(A.base (dN ow F.aE)).bT o=Z b from h)
  let ⟨x,h7,h8⟩:=(l.rel.box o b (hK3 o hK b pZ)).2.2 (de WW) (by rw[aJ,h6];rfl)
  have hl:=lU (Ca (C++z)) WW;rw[oK hm]at hl;exact⟨x,h7,h8.left (λt v ht hmt=>ht.on hgB (λ_ _=>rfl) hmt) hl⟩;exact k3 ob (by simp_all[aJ])
  let ⟨k1,k2⟩:=hC.arr o e x h
  refine⟨k1,λob i=>?_⟩;by_cases hok:o∈z;have h3:=(Gh.Bo (show(A.base (dN ow F.aE)).arr o e=Z x from h)).2
  simp_all
  exact k2 ob (by simp_all[aJ])
 have Zu:=l.alr.owned l.pr.iL;have Zv:∀a∈BI,∀b,a.at b->X b\/w.heap.size<=b:=λa ha b I=>by
  let ⟨o2,ho2,V5⟩:=Zu a ha b I
  obtain⟨o',_,K⟩|h:=p.own o2 b (n.fl▸(l.Yd o2 ho2).1) V5
  exact .inl (ac6 K);omega
 obtain⟨gF,Zm⟩:=wI (a:={tmps:=#[],defers:=[]}) (gb:={A.base (dN ow F.aE)with bx:=g3.bx}) (w:=w') hout (FP _) l.pr l.at_
  ⟨l.Iy.1,λj o b h1 h2=>hgB.bT o b (jx.2 (fS _ (iA h1))) (l.Iy.2 j o b h1 h2)⟩
  (λo ho e=>by
   simp_all[Gh.base])
  (λa ha b I o E=>by
   have hO0:bJ (A.base (dN ow F.aE)) o b:=⟨λhi=>E.1 (Zw b hi),E.2⟩
   let ⟨Q,V5⟩:=Gh.fO hO0
   let ⟨o2,ho2,hO3⟩:=Zu a ha b I
   by_cases hK:o∈C++z;have Ry:g3.bT o=Z b:=by
    obtain h5|⟨e,x,_,h5,_⟩:=V5.2
    grind
    simp_all
   have:=l.rel.j6 o o2 b ⟨(l.rel.box o b Ry).1,.inl Ry⟩ hO3;subst this
   let ⟨b',hb'⟩:=hKb o hK
   have h6:g'.bT o=Z b':=n.ext.bT o b' (agT o hK b' hb');rw[l.owb o ho2]at h6;cases h6;obtain hX|h:=Zv a ha b I
   let ⟨o',ho',K⟩:=hXO b hX
   have:=d.rel.j6 o o' b V5 K
   grind[l5]
   have:=(d.rel.rW V5).1;omega) l.ap (hfE _ _) hD
 have hflX:∀b,b<w.heap.size->(∀o,s.fl<=o->¬bJ g o b)->∀o,s.fl<=o->¬bJ gh o b:=λb m hn o ho E=>by
  obtain⟨_,_,V5⟩|⟨a,ha,I⟩:=agK E
  obtain h|h:=d.ext.own o b V5
  grind
  omega
  let ⟨o',ho',K⟩:=Er a ha b I
  obtain h|h:=d.ext.own o' b K
  exact hn o' (d.Yd o' ho').1 h;omega
 have ak0:∀{o b:Nat},s.fl<=o->bJ gh o b->(∃o',s.fl<=o'/\bJ g o' b)\/w.heap.size<=b:=λ{o b}ho E=>by
  obtain⟨_,_,V5⟩|⟨a,ha,I⟩:=agK E
  exact(d.ext.own o b V5).imp (λh=>⟨o,ho,h⟩) id
  let ⟨o',ho',K⟩:=Er a ha b I
  exact(d.ext.own o' b K).imp (λh=>⟨o',(d.Yd o' ho').1,h⟩) id
 have akl:aI gF w' (low (Ej (tV c.rs yr))) v:=by
  obtain⟨vals',rfl,aqV⟩:=FL ht hr
  let ⟨_,_,q⟩:=gq hS n.rel hr aqV
  obtain⟨rfl,rfl⟩:=Ti aeI hr
  let ⟨alr,hH,_⟩:=q g' (aC s') [] n.rel (Ext.refl _ _ _) ⟨rfl,rfl,λo ho=>(by cases ho),λ_ _ _ _ h=>h,λo ho=>(by cases ho)⟩ (λ_ h=>h) (λo ho=>(by cases ho))
  exact Ae (xW aeI hH)
 refine⟨_,_,gF,ow,h2,akl,Zm.rel,⟨λo b m=>?_,λo e x hl hx=>?_,λb m=>?_,p.size,λb m hn=>?_,λo b ho E=>?_,λb m=>?_,p.os,p.output⟩,Zm.fl.trans (arX.trans d.fl),Zm.lo.trans (arV.trans d.lo),?_,λo ho=>?_,λo hl ho=>?_,λt v ht hm=>?_,λo ho=>?_,λo ho=>?_,λo ho=>?_⟩;rw[Zm.bT];exact(A.gJ _).bT o b (pS (λhm=>by rw[d.owb o hm]at m;cases m) (by have:=hs.lt m;rw[d.aE];exact this)) (d.ext.bT o b m);have hlt:o<F.aE:=by have:=hs.lt' hx;rw[d.aE];exact this
 rw[Zm.arr o (by omega)];exact(A.gJ _).arr o e x (pS (λhm=>by have:=(d.Yd o hm).2.1;omega) hlt) (d.ext.arr o e x hx);rw[Zm.bx];exact Zw b (d.ext.bx b m);exact n.ext.heap b m (by simp_all);obtain E|⟨_,a,ha,I⟩:=Zm.own o b E
 have hO0:bJ (A.base (dN ow F.aE)) o b:=⟨λhi=>E.1 (Zw b hi),E.2⟩;exact(d.ext.own o b (Gh.fO hO0).2).imp (λh=>⟨o,ho,h⟩) id
 let ⟨o2,ho2,V5⟩:=Zu a ha b I
 obtain⟨o',ho',K⟩|h:=p.own o2 b (n.fl▸(l.Yd o2 ho2).1) V5
 exact ak0 (hfl▸ho') K;omega;rw[Zm.bx]at m;obtain h|h|⟨o,ho,E⟩:=p.oD b m
 rw[hgi]at h;exact d.ext.oD b h;omega;obtain h|h:=ak0 (hfl▸ho) E
 exact .inr (.inr h);omega;have h3:B.aE<=s3.aE:=Zm.aE;rw[hBn,d.aE]at h3;exact h3;exact eV _ (eV _ (eV _ (d.uk o ho)))
 .simp at ho;rw[Zm.ob o (by rw[hBn,d.aE];exact hl) ho.2.1,hBg,bQ ho.2.1,<-d.same o ho.2.2.2];cases hg:F.ob.get o with
  |none=>rfl|some ob=>
   grind[oK,Tr.qW]
 have h3:aI A w t v:=ht.ext d.ext hs.bx;have hon:aec ow.contains A {A.base (dN ow F.aE)with bx:=g3.bx}:=by refine⟨λo b Q m=>?_,λo e x Q hx=>?_,Zw⟩;exact(A.gJ _).bT o b (pS (by grind) (d.rel.lt m)) m;exact(A.gJ _).arr o e x (pS (by grind) (d.rel.lt' hx)) hx
 exact(h3.on hon (λb m=>n.ext.heap b (d.rel.bx b m) λo _ E=>hXi b (ac6 E) m) (by rw[TN];exact hm)).le Zm.le
 simp_all
 exact eV _ (by rw[d.dr];exact ho)
 simp_all
end
end
section
structure fu(E:eM S):Prop where
 sg:fq S
 US:Bu E.T.E
 ty:Sq S E.T
 name:∀f fn,E.T.E.T4 f=Z fn->(fn.name== "runtime.NumGoroutine")=J
 ng:∀f,E.T.E.IU f=Y
 x:XOk S E.T
 IU:∀f c,E.IU f=Z c->bG E.T.E.P f c
variable {E:eM S}{args:List (V S)}{s:bp S}
def fu.env(h:fu E):Qh E.T.E:={h.US with
 name:=h.name
 IU:=λf c a=>by rw[h.ng]at a;cases a}
def CZ(s:bp S)(g:Gh)(w:World){ω:Type}(k kp:V S->bp S->O ω)(r:ω):Ending->World->Prop
 |.returned v,b=>∃t c d,k t c=Z r/\aI d b (low t) v/\cS [] s g w c d b|.panicked chain,b=>∃v t c d,chain=[{v,recovered:=J}]/\kp t c=Z r/\aI d b (low t) v/\cS [] s g w c d b|.outgrown,_=>False
structure gL(P:Program)(call:gj S):Prop where
 fn:∀(f:FuncId)(args:List (V S))(s:bp S){ω:Type}(k kp:V S->bp S->Option ω)(r:ω),call (.fn f) args s k kp=Z r->∀(g:Gh)(w:World)(vs:Array Value),aY g (aC s) w->PW (aI g w) (bA args) vs.toList->
  mu P f/\Calls P f vs w (CZ s g w k kp r)
 jn:am3 P call
 yl:∀(o:Nat)(args:List (V S))(s:bp S){ω:Type}(k kp:V S->bp S->Option ω)(r:ω),call (.yl o) args s k kp=Z r->∀(g:Gh)(w:World)(vs:Array Value)(b:Nat),aY g (aC s) w->PW (aI g w) (bA args) vs.toList->g.bT o=Z b->
  ∃l:Loop,w.heap[b]?=Z (.loop l)/\vs.size=l.params.size/\∀rr n,RoundIn (WR rr) n P b l.fn ((l.params.zip vs).foldl (λtmps(t,a)=>tmps.setIfInBounds t a) l.tmps) l.assign l.body w (CZ s g w k kp r)
 yd:∀(o:Nat)(args:List (V S))(s:bp S){ω:Type}(k kp:V S->bp S->Option ω)(r:ω),call (.yd o) args s k kp=Z r->∀(g:Gh)(w:World)(vs:Array Value)(b:Nat),aY g (aC s) w->PW (aI g w) (bA args) vs.toList->g.bT o=Z b->
  ∃l:Loop,w.heap[b]?=Z (.loop l)/\vs.size=l.params.size/\∀rr n,RoundIn (WR rr) n P b l.fn ((l.params.zip vs).foldl (λtmps(t,a)=>tmps.setIfInBounds t a) l.tmps) l.assign l.body w (ye s g w k kp r)
theorem oL{α:Type}{c:Bool}{x:O α}{r:α}(h:aO c x=Z r):c=W/\x=Z r:=by
 unfold aO at h
 grind
theorem tq{α:Type}{c:Bool}{x y:O α}{r:α}(h:ai c x y=Z r):(c=W/\x=Z r)\/(c=J/\y=Z r):=af h
def se{f:V S}{as:L (V S)}{id:FuncId}(h:qf f args=Z (id,as)):xX (low f) (bA args)=Z (id,bA as):=by unfold qf at h;split at h;obtain⟨rfl,rfl⟩:=h;simp[low,xX,kz];cases h
section
variable {g:Gh}{w:World}
theorem gU{p:V S->Bool}{q:T->Bool}(a:∀v,q (low v)=p v)(b:∀o e,p (.sh o e)=p (.sh o 0)):∀l:L (sZ S),iF q (l.map mH) ((l.map (eG p)).map mH)
 |[]=>.nil|.marks o::l=>by have d:=gU a b l;simp only[pN,eG];cases c:p (.sh o 0)with|true=>exact .af4 o d|false=>exact .marks o (λe=>((a (.sh o e)).trans (b o e)).trans c) d
 |.kK::l=>.kK (gU a b l)|.call f args::l=>.cons (by
   simp[eG];cases c:p f||args.any p with
   |true=>exact .inl ⟨rfl,rfl⟩|false=>
    simp only[zj,List.any_eq_false]at c;refine .inr ⟨rfl,by simp_all,λt g=>?_⟩;rw[eZ,ym]at g
    grind) (gU a b l)
 |.mark o::l=>.cons (by
   simp[eG];cases c:p (.ptr o 0)with
   |true=>exact .inl ⟨rfl,rfl⟩|false=>exact .inr ⟨rfl,(a (.ptr o 0)).trans c⟩) (gU a b l)
 |.bad::l=>.cons (.inr ⟨rfl,trivial⟩) (gU a b l)
theorem oc{ow:L Nat}{fr:ck S}{a:Act}{g':Gh}{w':World}{s s':bp S}(hf:cU g (bL fr) a w)(h:cS ow s g w s' g' w'):cU g' (bL (dA ow fr)) a w':=by
 refine⟨?_,?_,λk t r=>?_⟩;cases ow<;>exact hf.size
 .cases ow with
  |nil=>
   have i:∀t:T,dy [] t=J:=by
    intro t
    induction t using T.rec (motive_2:=λl=>iM [] l=J)with|fn f a b d j=>simp[dy,d,j]|dj t v e=>simp[dy,e]|agg p e=>simp[dy,e]|gR p e=>simp[dy,e]|gd c v e=>simp[dy,e]|nil=>rfl|cons a l d m=>simp[iM,d,m]|_=>simp[dy]
   refine hf.df.imp (λt v x=>h.tr t v x (i t)) λo b y=>?_;have:=h.tr _ _ (.ptr o 0 b y) (i _);cases this with|ptr _ _ _ q=>exact q
  |cons o ow=>exact(gU (λv=>kU _ v) (λ_ _=>rfl) fr.df).rel h.tr hf.df
 rw[cg,fT]at r;obtain⟨v,z,rfl⟩:=r;have n:fr.get k=Z v/\dy ow (low v)=J:=by
  cases ow with
  |nil=>
   refine⟨z,?_⟩;have:∀t:T,dy [] t=J:=by
    intro t;have key:(∀t:T,dy [] t=J):=by
     intro t
     induction t using T.rec (motive_2:=λl=>iM [] l=J)with|fn f a b d j=>simp[dy,d,j]|dj t v e=>simp[dy,e]|agg p e=>simp[dy,e]|gR p e=>simp[dy,e]|gd c v e=>simp[dy,e]|nil=>rfl|cons a l d m=>simp[iM,d,m]|_=>simp[dy]
    exact key t
   exact this _
  |cons o ow=>
   grind[dA,ck.get,Tr.oF,Option.filter_eq_some_iff,kU]
 let ⟨u,A,B⟩:=hf.tm k (low v) (by rw[cg,n.1];rfl)
 exact⟨u,A,h.tr _ _ B n.2⟩
theorem TG{E:eM S}(b:fu E){fr:ck S}{s s':bp S}{a:Act}(hf:cU g (bL fr) a w)(hs:aY g (aC s) w)(o:Oper){c:Bool}{t:V S}(h:AD E.T fr s o.op=Z (c,t,s'))(e:c=W) :
  ∃v w' g',((execOp a.eval o).run E.T.E.P w=.ok (.value v) w'\/((execOp a.eval o).run E.T.E.P w=.ok .skip w'/\v=undef))/\aI g' w' (low t) v/\cS [] s g w s' g' w':=by
 unfold AD at h;split at h;rename_i r d;cases h;exact acd b.sg b.US b.ty hf hs o d e;split at h;rename_i d;cases h
 let ⟨p,f,j⟩:=N3 b.sg b.ty d e
 let ⟨⟨v,w',g',k,i,l,m⟩,h1,h2,h3⟩:=nO b.US hf hs o f j
 exact⟨v,w',g',k,m,cS.lz hs i l h1 h2 h3 (Yg d)⟩;exact ab8 b.sg b.US b.ty b.x hf hs o h e
def WT(s:bp S)(g:Gh)(w:World){ω:Type}(k:V S->bp S->L Nat->O ω)(kp:V S->bp S->O ω)(r:ω):Ending->World->Prop
 |.returned v,b=>∃t c d e,k t c e=Z r/\aI d b (low t) v/\cS e s g w c d b|.panicked chain,b=>∃v t c d,chain=[{v,recovered:=J}]/\kp t c=Z r/\aI d b (low t) v/\cS [] s g w c d b|.outgrown,_=>False
def N8{s:bp S}{o:Nat}:∀{n:Nat},o<n->s.lo<=o->(s.ob.get o).any jV=J->o∈AI s n
 |n+1,c,a,b=>by unfold AI;by_cases h:o=n;subst h;rw[b,NI a];exact eI;have:=N8 (n:=n) (by omega) a b;cases Nl s.lo n&&!((s.ob.get n).any jV);exact this;exact hJ _ this
def eJ.aek{s':bp S}{g':Gh}{w':World}(hs:aY g (aC s) w)(h:eJ s g w s' g' w'):cS (AI s s.aE) s g w {s' with wr:=AI s s.aE++s'.wr,dr:=AI s s.aE++s'.dr} g' w':=by
 have l:j4 g.bx w w':=λb i=>h.ext.heap b (hs.bx b i) (λo _ m=>m.1 i);refine⟨h.rel,h.ext,h.fl,h.lo,h.aE,λo a=>eV _ (h.uk o a),λo a d=>h.same o a λf=>d (eV _ f),λt v q f=>?_,λo a=>fS _ a,λo a=>eV _ (h.Ht o a),λo a=>fS _ a⟩;refine q.on (p:=(AI s s.aE).contains) ⟨λo b _ e=>h.ext.bT o b e,λo e x j k=>h.ext.arr o e x ?_ k,h.ext.bx⟩ l (by rw[TN];exact f);refine Nat.lt_of_not_le λr=>?_;have c:(s.ob.get o).any jV=J:=by
  cases a:s.ob.get o with
  |none=>rfl|some ob=>
   cases c:jV ob with|false=>exact c|true=>exact(Az c ((hs.arr o e x k).2 _ (by rw[aJ,a];rfl))).elim
 have:=N8 (n:=s.aE) (hs.lt' k) r c;rw[abT.2 this]at j;cases j
def A4(m:fu E){call:gj S}(b:gL E.T.E.P call)(hs:aY g (aC s) w){f:FuncId}{ω:Type}{kp:V S->bp S->O ω}{k:V S->bp S->L Nat->O ω}{r:ω}
  (h:uU E call s f args kp k=Z r) {vs:Array Value} (d:PW (aI g w) (bA args) vs.toList):mu E.T.E.P f/\Calls E.T.E.P f vs w (WT s g w k kp r):=by
 unfold uU at h;split at h
 .rename_i j
  let ⟨a,i⟩:=DN m.sg (m.IU _ _ j) hs d h
  refine⟨a,i.mono λe n c=>?_⟩;cases e with|returned v=>exact c|panicked o=>exact c|outgrown=>exact c.elim
 split at h
 .let ⟨a,i⟩:=Wf m.sg b.jn hs h d
  refine⟨a,i.mono λe n c=>?_⟩;cases e with|returned v=>exact c|panicked o=>exact c.elim|outgrown=>exact c.elim
 obtain⟨_,h⟩|⟨_,h⟩:=af h
 .let ⟨a,i⟩:=b.jn _ _ _ _ _ _ h g w _ hs d
  refine⟨a,i.mono λe n c=>?_⟩;cases e with
  |returned v=>
   let ⟨t,p,l,h1,h2,h3⟩:=c
   exact⟨t,_,l,_,h1,h2,h3.aek hs⟩
  |panicked o=>obtain⟨v,t,p,l,_,h1,_⟩:=c;cases h1
  |outgrown=>exact c.elim
 let ⟨a,i⟩:=b.fn _ _ _ _ _ _ h g w _ hs d
 refine⟨a,i.mono λe n c=>?_⟩;cases e with
 |returned v=>
  let ⟨t,p,l,h1,h2,h3⟩:=c
  exact⟨t,p,l,[],h1,h2,h3⟩
 |panicked o=>exact c|outgrown=>exact c.elim
theorem DM{E:eM S}{call:gj S}{s:bp S}{m:String}{args:L (V S)}{n:Nat}{x:den S.A (.dj n)}{ω:Type}{kp:V S->bp S->O ω}{k:V S->bp S->L Nat->O ω}{r:ω}:∀{l:L (TypeId×Ty)}{j:Nat},
  ZI E call s m args n x kp k l j=Z r->∃i t f,kB (S.alts n) i (S.uO n x)=W/\((nth (S.alts n) i).elim 0 (·.1))=t/\E.T.Lq t m=Z f/\uU E call s f (.ty (nB (S.alts n) i) (jf S.zero (S.alts n) i (S.uO n x))::args) kp k=Z r
 |[],j,h=>by cases h
 |p::l,j,h=>by
  obtain⟨a,h⟩|⟨_,h⟩:=tq h
  split at h;obtain⟨b,h⟩|⟨_,h⟩:=af h
  grind[Nat.eq_of_beq_eq_true]
  cases h;cases h;exact DM h
def Ho:∀(l:L (TypeId×Ty))(i:Nat)(x:yu S.A l),kB l i x=W->uV S l x=Z ((nth l i).elim 0 (·.1),enc S (nB l i) (jf S.zero l i x))
 |[],_,_,h=>by cases h
 |p::l,0,.inl y,_=>rfl|p::l,0,.inr y,h=>by cases h
 |p::l,i+1,.inl y,h=>by cases h
 |p::l,i+1,.inr y,h=>Ho l i y h
theorem yI{P:Program}{o:Oper}{c:Call}(e:o.op=.call c){d:Operand}(f:c.callee=.value d){a:Act}{b:Nat}(g:a.eval d=.func (.yield b) #[] #[]){w:World}{l:Loop}(hl:w.heap[b]?=Z (.loop l))(hs:(c.args.map a.eval).size=l.params.size) :
  (execOp a.eval o).run P w=.ok (.round b l.fn ((l.params.zip (c.args.map a.eval)).foldl (λtmps(t,a)=>tmps.setIfInBounds t a) l.tmps) l.assign l.body) w:=by
 grind[execOp,resolve,Deferred.ofValue,invoke,run_yield]
theorem IX{E:eM S}(F:fu E){call:gj S}(wJ:gL E.T.E.P call){fr:ck S}{s:bp S}{a:Act}(hf:cU g (bL fr) a w)(hs:aY g (aC s) w){o:Oper}{ω:Type}{kp:V S->bp S->O ω}{k:V S->bp S->L Nat->O ω}{r:ω}
  (h:uS E call o fr s kp k=Z r) {K:Act->World->Prop} {Q:Exit->Act->World->Prop} (hK:∀t s' g' ow v w',k t s' ow=Z r->cS ow s g w s' g' w'->aI g' w' (low t) v->K (a.put o.dst v) w')
  (hP:∀t s' g' v w',kp t s'=Z r->cS [] s g w s' g' w'->aI g' w' (low t) v->Q (.panic [{v,recovered:=J}]) a w') (hny:∀c fv oo,o.op=.call c->c.callee=.value fv->cF fr fv≠Z (.rP oo)) :
  o.wp E.T.E.P a w K Q\/(o.asks E.T.E.P a w/\LetsOut Q):=by
 have fin:∀{t:V S}{s':bp S}{v:Value}{w':World}{g':Gh},k t s' []=Z r->((execOp a.eval o).run E.T.E.P w=.ok (.value v) w'\/((execOp a.eval o).run E.T.E.P w=.ok .skip w'/\v=undef))->aI g' w' (low t) v->cS [] s g w s' g' w'->o.wp E.T.E.P a w K Q:=by
  intro t s' v w' g' hk R ht b;unfold Oper.wp;obtain R|⟨R,rfl⟩:=R
  rw[R];exact hK t s' g' [] v w' hk b ht;rw[R];exact hK t s' g' [] undef w' hk b ht
 have plain:(match ir E.T fr s o.op with
   |some (Ww,p,d,s')=>yV (λv s=>k v s []) (aO p (k d s' [])) Ww|none=>match AD E.T fr s o.op with
    |none=>Y|some (p,t,s')=>aO p (k t s' []))=Z r->o.wp E.T.E.P a w K Q:=by
  intro h;split at h;rename_i p d s' B
  let ⟨t,s1,v,w',g',h1,h2,h3,h4,_⟩:=TH F.US F.x hf hs o B (X:=λv s=>k v s []) h
  grind
  grind[oL,TG]
 have called:∀{f:FuncId}{args:L (V S)}{vs:Array Value},uU E call s f args kp k=Z r->PW (aI g w) (bA args) vs.toList->(mu E.T.E.P f->(execOp a.eval o).run E.T.E.P w=.ok (.enter f vs) w)->o.wp E.T.E.P a w K Q:=by
  intro f args vs h I hrun
  let ⟨Ow,hc⟩:=A4 F wJ hs h I
  unfold Oper.wp;rw[hrun Ow];refine hc.mono λe w' he=>?_;cases e with
  |returned v=>
   let ⟨t,s',g',ow,h1,h2,h3⟩:=he
   grind
  |panicked ch=>
   obtain⟨v,t,s',g',rfl,h1,h2,h3⟩:=he
   grind
  |outgrown=>exact he.elim
 unfold uS at h;split at h;rename_i c B;split at h;cases h;rename_i args A;have P:=gZ A;have pY:=eY hf P;split at h;rename_i hb;split at h;cases h;rename_i t s' C
 let ⟨hp,hk⟩:=oL h
 unfold lV at C;split at C;rename_i r0 h0;cases C;exact HH F.sg F.US F.env F.ty hf hs B hb A h0 hp (λg' v w' b ht=>hK t s' g' [] v w' hk b ht);split at C;rename_i r0 h0;cases C
 let ⟨q,hq,hqp⟩:=yU F.sg F.ty h0 hp
 refine yT F.env hf hs B hb P hq hqp (k:=λt' st'=>t'=low t/\st'=aC s') ⟨rfl,rfl⟩ (λt' st' g' v w' he b ht=>?_);obtain⟨rfl,rfl⟩:=he;exact hK t s' g' [] v w' hk (cS.lz hs b.rel b.ext b.fl b.lo b.aE (I1 h0)) ht;split at C;rename_i h0;cases C;obtain⟨rfl,v,R,ht⟩:=Bj F.x hs hf B hb A h0
 grind[cS.refl]
 let ⟨v,w',g',R,ht,b⟩:=Mc F.x hs hf B hb A C
 grind
 rename_i fv hfv;split at h
 simp_all[aiR]
 split at h;cases h;rename_i f args' hfa
 left
 simp[vU]at hfa
 let ⟨tf,htf,LJ⟩:=hfa
 have Zc:=bU hf (cE htf);have z:=se LJ;unfold xX at z;split at z
 .rename_i On
  simp only[gP,fC]at z;obtain⟨rfl,agY⟩:=z;rw[On]at Zc;generalize hvf:a.eval fv=vf at Zc;cases Zc with
  |fn _ _ _ va vc l1 l2 r1 r2=>
  have I:PW (aI g w) (bA args') (va++c.args.map a.eval++vc).toList:=by rw[<-agY];simp only[Vc,Tn];exact PW.append (PW.append ⟨by simpa using l1,λj x y h1 h2=>r1 j x y h1 (by simpa using h2)⟩ pY) ⟨by simpa using l2,λj x y h1 h2=>r2 j x y h1 (by simpa using h2)⟩
  grind[As]
 cases z;rename_i x m hxm;have inv:∀{tt:TypeId}{f:FuncId}{tv:V S}{u:Value},a.eval x=.iface tt u->aI g w (low tv) u->E.T.Lq tt m=Z f->uU E call s f (tv::args) kp k=Z r->o.wp E.T.E.P a w K Q:=by
  intro tt f tv u hv hu hm h;have I:PW (aI g w) (bA (tv::args)) (#[u]++c.args.map a.eval).toList:=by
   simp only[Vc,Tn];exact PW.append (l:=[low tv]) (m:=[u]) ⟨rfl,λj x y h1 h2=>by
    grind⟩ pY
  exact called h I (λOw=>Np F.x B hxm hv hm Ow)
 split at h;rename_i tt tv hx;split at h
 .rename_i f hm;have R:=bU hf (cE hx);generalize hv:a.eval x=v at R;cases R with|dj _ _ u hu=>grind
 cases h;rename_i n y hx
 let ⟨i,t,f,h1,h2,h3,h4⟩:=DM h
 have he:=Ho _ _ _ h1;obtain⟨he',_⟩|⟨t',d,u,he',hv,hd⟩:=EY F.sg (show aI g w (ef S (.dj n) y) (a.eval x)from cV hf hx)
 simp_all
 rw[he']at he;simp at he;obtain⟨ht,rfl⟩:=he;rw[h2]at ht;subst ht;exact .inl (inv (tv:=.ty (nB (S.alts n) i) (jf S.zero (S.alts n) i (S.uO n y))) hv (uv hd) h3 h4);cases h;rename_i x B;split at h
 .rename_i tt tv hx
  left
  have R:=bU hf (cE hx);unfold Oper.wp;generalize hv:a.eval x=v at R;cases R with
  |dj _ _ u hu=>
  have:(execOp a.eval o).run E.T.E.P w=.halt (.panic (.iface tt u)) w:=by
   simp_all[execOp,Instr.panic]
  rw[this];exact hP _ _ g _ w h (cS.refl hs) (by exact .dj _ _ _ hu)
 cases h
 grind
theorem A0{E:eM S}(R:fu E){call:gj S}(f:gL E.T.E.P call){fr:ck S}{s:bp S}{a:Act}(hf:cU g (bL fr) a w)(hs:aY g (aC s) w){o:Oper}{ω:Type}{kp:V S->bp S->O ω}{k:V S->bp S->L Nat->O ω}{r:ω}
  (h:uS E call o fr s kp k=Z r) {K:Act->World->Prop} {Q:Exit->Act->World->Prop} (F:∀t s' g' ow v w',k t s' ow=Z r->cS ow s g w s' g' w'->aI g' w' (low t) v->K (a.put o.dst v) w')
  (hP:∀t s' g' v w',kp t s'=Z r->cS [] s g w s' g' w'->aI g' w' (low t) v->Q (.panic [{v,recovered:=J}]) a w') {rr:O Nat} (B:rr≠Y->∀c,o.op≠.defer c) :
  OpR rr E.T.E.P o a w K Q:=by
 by_cases I:∃c q A,o.op=.call c/\c.callee=.value q/\cF fr q=Z (.rP A);rotate_left;exact .of_wp B (IX R f hf hs h F hP λc q A h1 h2 h3=>I ⟨c,q,A,h1,h2,h3⟩)
 let ⟨c,q,A,i,j,u⟩:=I
 unfold uS at h;rw[i]at h;dsimp only at h;split at h;cases h;rename_i args m;rw[j]at h;dsimp only at h;rw[u]at h;have x:=eY hf (gZ m);have y:=bU hf (cE u);generalize z:a.eval q=vf at y;cases y with
 |rP _ b P=>
 obtain⟨_,h⟩|⟨_,h⟩:=af h
 .let ⟨l,C,n,d⟩:=f.yd _ _ _ _ _ _ h g w (c.args.map a.eval) b hs (by simpa using x) P
  left
  rw[Oper.semAt_eq _ _ _ (by simp_all),yI i j z C n];refine⟨λh=>by simp[Fence.wide]at h,(d rr _).mono λe w' p=>?_⟩;cases e with
  |returned v=>
   let ⟨t,s',g',h1,h2,h3⟩:=p
   exact F _ _ _ _ _ _ h1 (h3.aek hs) h2
  |panicked ch=>obtain⟨v,t,s',g',rfl,h1,h2,h3⟩:=p;cases h1
  |outgrown=>exact p.elim
 let ⟨l,C,n,d⟩:=f.yl _ _ _ _ _ _ h g w (c.args.map a.eval) b hs (by simpa using x) P
 left
 rw[Oper.semAt_eq _ _ _ (by simp_all),yI i j z C n];refine⟨λh=>by simp[Fence.wide]at h,(d rr _).mono λe w' p=>?_⟩;cases e with
 |returned v=>
  let ⟨t,s',g',h1,h2,h3⟩:=p
  grind
 |panicked ch=>
  obtain⟨v,t,s',g',rfl,h1,h2,h3⟩:=p
  grind
 |outgrown=>exact p.elim
mutual
theorem tK:∀(s:bp S)(t:Ty)(v:V S){x:den S.A t}{os:L Nat},vX v=W->bX s t v=Z (x,os)->os=[]
 |s,t,.ty u y,x,os,_,h=>by
  grind[bX]
 |s,t,.agg e,x,os,c,h=>by
  cases t with
  |st n=>simp[bX]at h;split at h;rename_i f g;obtain⟨_,rfl⟩:=h;exact JG s _ e c g;cases h
  |_=>simp[bX]at h
 |s,t,.kb b,x,os,_,h=>by
  cases t<;>simp[bX]at h
  simp_all
 |s,t,.kn k n,x,os,_,h=>by
  cases t<;>simp only[bX]at h<;>try(cases h;done)
  grind
 |s,t,.emp,x,os,_,h=>by
  cases t<;>simp[bX]at h
  simp_all
 |s,t,.kM n u l,x,os,_,h=>by
  cases t<;>simp only[bX]at h<;>try(cases h;done)
  grind
 |s,t,.qd n u y,x,os,_,h=>by
  cases t<;>simp only[bX]at h<;>try(cases h;done)
  grind
 |s,t,.sC _ _ _ _,x,os,c,_=>by simp[vX]at c
 |s,t,.sh _ _,x,os,c,_=>by simp[vX]at c
 |s,t,.dat d,x,os,_,h=>by
  cases t with
  |dj n=>
   cases d with
   |lit v=>cases v<;>simp[bX]at h;simp_all
   |_=>simp[bX]at h
  |opt n=>
   cases d with
   |lit v=>cases v with
    |pointer a=>cases a<;>simp[bX]at h;simp_all
    |_=>simp[bX]at h
   |_=>simp[bX]at h
  |_=>simp[bX]at h
 |s,t,.mp _,_,_,_,h=>by cases t<;>simp[bX]at h
 |s,t,.rP _,_,_,_,h=>by cases t<;>simp[bX]at h
 |s,t,.uo _,_,_,_,h=>by cases t<;>simp[bX]at h
 |s,t,.ub _,_,_,_,h=>by cases t<;>simp[bX]at h
 |s,t,.ptr _ _,_,_,_,h=>by cases t<;>simp[bX]at h
 |s,t,.mc _ _ _,_,_,_,h=>by cases t<;>simp[bX]at h
 |s,t,.l9 _ _ _ _,_,_,_,h=>by cases t<;>simp[bX]at h
 |s,t,.fn _ _ _,_,_,_,h=>by cases t<;>simp[bX]at h
 |s,t,.dj u v,x,os,c,h=>by
  cases t<;>simp only[bX]at h<;>try(cases h;done)
  split at h;split at h;rename_i i;obtain⟨_,rfl⟩:=h;exact tK s _ v c i;cases h;cases h
 |s,t,.gR _,_,_,_,h=>by cases t<;>simp[bX]at h
 |s,t,.gd _ _,_,_,_,h=>by cases t<;>simp[bX]at h
theorem JG:∀(s:bp S)(ts:L Ty)(l:L (V S)){h:l7 S.A ts}{os:L Nat},jX l=W->om s ts l=Z (h,os)->os=[]
 |s,[],[],x,os,_,h=>by grind[om]
 |s,t::ts,v::l,x,os,a,h=>by simp[om]at h;split at h;rename_i b c;obtain⟨_,rfl⟩:=h;simp[jX,eW]at a;rw[tK s t v a.1 b,JG s ts l a.2 c];rfl;cases h
 |s,[],_::_,_,_,_,h=>by simp[om]at h
 |s,_::_,[],_,_,_,h=>by simp[om]at h
end
end
end
section
def qR:Op->Bool
 |.alloc _|.box ..|.store ..|.buildSlice ..|.slice ..|.makeMap ..|.mapUpdate ..|.insert ..|.makeSlice ..|.range ..|.next ..|.defer ..=>W|_=>J
theorem Q2{E:gi}{fr:ck S}{s s':bp S}{o:Op}{c:Bool}{v:V S}(h:cM E fr s o=Z (c,v,s'))(d:qR o=J):s'=s:=by
 cases o with
 |alloc=>cases d
 |box=>cases d
 |store=>cases d
 |buildSlice=>cases d
 |slice=>cases d
 |move x=>simp only[cM,fT,fC]at h;grind|assign x=>simp only[cM,fT,fC]at h;grind|pick x y z=>simp[cM]at h;split at h;simp only[fT,fC]at h;grind;cases h
 |build t e=>simp[cM]at h;split at h;split at h;simp only[fT,fC]at h;grind;cases h;cases h
 |load t x=>
  simp[cM]at h;split at h;unfold yN at h;split at h;split at h;obtain⟨_,h⟩|⟨_,h⟩:=af h
  simp only[fT,fC]at h;grind;cases h;cases h;simp only[fT,fC]at h;grind;split at h;simp at h;grind;cases h;cases h;cases h
 |nilCheck x=>
  simp[cM]at h
  grind
 |binOp op t x y u=>simp[cM]at h;split at h;simp only[fT,fC]at h;grind;cases h
 |unOp op t x=>simp[cM]at h;split at h;simp only[fT,fC]at h;grind;cases h
 |convert t u x=>
  grind[cM,CC]
 |makeInterface t x=>
  simp[cM]at h
  grind
 |makeFunc f a b=>
  simp[cM]at h
  grind
 |extract x k=>
  grind[cM,uR]
 |fieldAddr t x k=>
  grind[cM,ru]
 |field t x k=>
  simp[cM]at h;split at h;unfold Cr at h;split at h;split at h;obtain⟨_,h⟩|⟨_,h⟩:=af h
  simp only[fT,fC]at h;grind;cases h;cases h;cases h;cases h
 |indexAddr t x y=>
  simp[cM]at h;split at h;unfold kC at h;split at h
  grind
  have:=DW h
  grind
  cases h;cases h
 |index t x y=>
  simp[cM]at h;split at h;unfold Ci at h
  grind
  cases h
 |typeAssert x t u ok=>
  grind[cM,xb]
 |_=>simp[cM]at h
theorem Vr{E:gi}{fr:ck S}{s s':bp S}{o:Op}{c:Bool}{v:V S}(h:um E fr s o=Z (c,v,s'))(a:qR o=J):s'=s:=by
 unfold um at h;split at h;cases a
 grind
 cases a;cases a;cases a;cases a
 grind
 grind
 grind
 grind
 grind
 grind
 grind
 .split at h;rotate_left;cases h;split at h;rotate_left;cases h;simp only[fT,fC]at h
  grind
 cases h
theorem Vu{E:gi}{fr:ck S}{s s':bp S}{o:Op}{c:Bool}{v:V S}(h:BG E fr s o=Z (c,v,s'))(a:qR o=J):s'=s:=by
 unfold BG at h;split at h
 grind
 split at h;split at h;split at h;obtain⟨_,h⟩|⟨_,h⟩:=af h
 obtain⟨_,h⟩|⟨_,h⟩:=af h
 grind
 obtain⟨_,h⟩|⟨_,h⟩:=af h
 simp at h;grind;cases h;cases h;cases h;cases h;cases h;cases a;cases a;cases a;cases h
theorem Vt{E:gi}{fr:ck S}{s s':bp S}{o:Op}{c:Bool}{v:V S}(h:AD E fr s o=Z (c,v,s'))(a:qR o=J):s'=s:=by
 grind[AD,Vu,Q2,Vr]
theorem ER{E:gi}{fr:ck S}{s:bp S}{o:Op}(h:um E fr s o=Y)(hn:BG E fr s o=Y):AD E fr s o=cM E fr s o:=by
 grind[AD]
def Uo{ω:Type}(k:V S->O ω)(d:O ω):∀l:L (Bool×V S×bp S),xe k d l=yV (λv _=>k v) d l
 |[]=>rfl|p::l=>by simp[xe,yV,Uo k d l]
theorem Gj{l:L (Nat×V S)}(h:jX (l.map (·.2))=W):∀p∈l,vX p.2=W:=by
 induction l with
 |nil=>simp_all|cons a l b=>
  simp[pN,jX,eW]at h
  grind
theorem Cw{s:bp S}{e:Ty}:∀{ps:L (Nat×V S)}{es r:L (den S.A e)}{os:L Nat},(∀p∈ps,vX p.2=W)->oW s e es ps=Z (r,os)->os=[]
 |[],es,r,os,_,h=>by grind[oW]
 |(k,v)::ps,es,r,os,a,h=>by
  simp[oW]at h;split at h;cases h;rename_i b;obtain⟨_,h⟩|⟨_,h⟩:=af h
  split at h;rename_i c;obtain⟨_,rfl⟩:=h;rw[tK s e v (a _ eI) b,Cw (λp d=>a p (hJ _ d)) c];rfl;cases h;cases h
theorem CI{E:gi}{fr:ck S}{s s':bp S}{t:TypeId}{n:Nat}{ps:Array (Nat×Operand)}{l:L (Nat×V S)}{c:Bool}{v:V S}(hl:ja fr ps.toList=Z l)(hn:jX (l.map (·.2))=W)
  (h:AD E fr s (.buildSlice t n ps)=Z (c,v,s')):s'=s:=by
 cases a:BG E fr s (.buildSlice t n ps)with
 |some r=>
  simp[AD,a,gP]at h;simp[BG]at a;split at a;rename_i b;split at a;rename_i i j f _ _ g;split at a;split at a;obtain⟨_,a⟩|⟨_,a⟩:=af a
  split at a;rename_i os k;have d:l=[(0,.agg f)]:=by
   grind[ja,cF]
  subst d;simp[pN,List.map_nil,jX,Dr]at hn
  grind[tK,dV]
  cases a;cases a;cases a;cases a;cases a
  grind
  cases a
 |none=>
 rw[ER rfl a]at h;simp only[cM]at h;split at h;rename_i _ _ b;rw[hl]at b;cases b;split at h;obtain⟨_,h⟩|⟨_,h⟩:=af h
 split at h;rename_i e;have:=Cw (Gj hn) e
 grind[dV]
 cases h;cases h;cases h;cases h
variable {E:gi}{fr:ck S}{s:bp S}{args:List (V S)}
def BY{t:TypeId}{x:Operand}{lo hi a:O Operand}{u:V S}(hl:cF fr x=Z u)(hn:vX u=W):BG E fr s (.slice t x lo hi a)=Y:=by
 cases lo<;>cases hi<;>cases a<;>first
  |rfl|(
    simp only[BG,hl];split;rename_i h2 _;cases h2;simp[vX]at hn;rfl)
theorem Nf{E:gi}{fr:ck S}{s s':bp S}{t:TypeId}{x:Operand}{lo hi b:O Operand}{u:V S}{c:Bool}{v:V S}(hl:cF fr x=Z u)(hn:vX u=W)
  (h:AD E fr s (.slice t x lo hi b)=Z (c,v,s')):s'=s:=by
 rw[ER rfl (BY hl hn)]at h;simp[cM]at h;split at h;rename_i a _ _ _;rw[hl]at a;cases a;obtain rfl|h:=Fs h
 rfl;have:NZ u=[]:=by cases u<;>first|rfl|simp[vX]at hn
 grind[dV]
 cases h
theorem Du{s:bp S}:∀{ps:L Pk}{l:L (V S)}{x:gm S.A ps}{fz ow bs:L Nat},cC ps=W->jX l=W->eK s ps l Y=Z (x,fz,ow,bs)->fz=[]/\ow=[]/\bs=[]
 |[],[],x,fz,ow,bs,_,_,h=>by
  grind[eK]
 |.one (.dat t)::ps,v::l,x,fz,ow,bs,a,c,h=>by
  simp[eK]at h;simp[jX,eW]at c;split at h;rename_i b d;obtain⟨_,rfl,rfl,rfl⟩:=h;obtain⟨rfl,rfl,rfl⟩:=Du (by simpa[cC]using a) c.2 d;simp[pF]at b;split at b;rename_i e;obtain⟨_,rfl,rfl⟩:=b;rw[tK s t v c.1 e]
  simp_all
  cases b;cases h
 |.one (.own _)::_,_,_,_,_,_,a,_,_=>by simp[cC]at a
 |.one (.ku ..)::_,_,_,_,_,_,a,_,_=>by simp[cC]at a
 |.one (.nil _)::_,_,_,_,_,_,a,_,_=>by simp[cC]at a
 |.one (.ptr _)::_,_,_,_,_,_,a,_,_=>by simp[cC]at a
 |.box _::_,_,_,_,_,_,a,_,_=>by simp[cC]at a
 |.hid _::_,_,_,_,_,_,a,_,_=>by simp[cC]at a
 |[],_::_,_,_,_,_,_,_,h=>by simp[eK]at h
 |.one _::_,[],_,_,_,_,_,_,h=>by simp[eK]at h
def FY{s:bp S}:∀{ps:L Pk}(r:iE S.A ps),cC ps=W->mA s ps [] r=Z s
 |[],_,_=>rfl|.one (.dat t)::ps,r,h=>by exact FY (ps:=ps) r (by simpa[cC]using h)
 |.one (.own _)::_,_,a=>by simp[cC]at a
 |.one (.ku ..)::_,_,a=>by simp[cC]at a
 |.one (.nil _)::_,_,a=>by simp[cC]at a
 |.one (.ptr _)::_,_,a=>by simp[cC]at a
 |.box _::_,_,a=>by simp[cC]at a
 |.hid _::_,_,a=>by simp[cC]at a
def M1{s:bp S}:∀{cs:L Ck}(x:gC S.A cs),jS cs=W->iz s cs x=(tV cs x,s)
 |[],_,_=>rfl|.dat t::cs,x,h=>by simp only[iz,v8,tV];rw[M1 (cs:=cs) x.2 (by simpa[jS]using h)]
 |.own _::_,_,h=>by simp[jS]at h
 |.ku ..::_,_,h=>by simp[jS]at h
 |.nil _::_,_,h=>by simp[jS]at h
 |.ptr _::_,_,h=>by simp[jS]at h
def GN:∀{ps:L Pk},cC ps=W->Zr ps=J
 |[],_=>rfl|.one (.dat t)::ps,h=>GN (ps:=ps) (by simpa[cC]using h)
 |.one (.own _)::_,a=>by simp[cC]at a
 |.one (.ku ..)::_,a=>by simp[cC]at a
 |.one (.nil _)::_,a=>by simp[cC]at a
 |.one (.ptr _)::_,a=>by simp[cC]at a
 |.box _::_,a=>by simp[cC]at a
 |.hid _::_,a=>by simp[cC]at a
def ON(hn:s.aE<=bM){c:lJ S}(h1:cC c.ps=W)(h2:jS c.rs=W)(h3:jX args=W){x:gm S.A c.ps}{fz ow bs:L Nat}(b:eK s c.ps args Y=Z (x,fz,ow,bs))
  {d:RT c.pn (gC S.A c.rs×iE S.A c.ps) (den S.A S.pt×iE S.A c.ps)} {r:gC S.A c.rs×iE S.A c.ps} (f:c.F x=Z d) (g:RT.res c.pn d=.ok r):OO s c args (λ_ _=>Y) (λt s' ow=>Z (t,s',ow))=Z (Ej (tV c.rs r.1),s,[]):=by
 obtain⟨rfl,rfl,rfl⟩:=Du h1 h3 b;have a:Nl s.aE bM=W:=NI hn;unfold OO;rw[GN h1];simp only[j7];rw[b];simp only[dV];cases YD c with
 |true=>simp[iq,f,ah,g]|false=>
 simp[j7,sB,CM,List.all_nil,NJ,iq,f,ah,NA,g];have e:yR [] (forget [] s)=s:=rfl;rw[e,FY _ h1];simp[M1 _ h2,a,iq]
def ZB(g:O Bool):Prop:=g=Y\/g=Z W
def J1{α:Type}{g:O Bool}{p:Bool}{x:O α}{r:α}(a:ZB g)(h:zF g p x=Z r):p=W/\x=Z r:=by
 obtain rfl|rfl:=a
 exact oL h;exact oL h
def adf{α:Type}{g:O Bool}{x:O α}{z:α}(a:ZB g):alC g x z=x:=by obtain rfl|rfl:=a<;>rfl
section
variable {g:Gh}{w:World}
def Mb(A:Qh E.E){s':bp S}{a:Act}(hf:cU g (bL fr) a w)(hs:aY g (aC s) w){o:Oper}{f:Call}(B:o.op=.call f)(hb:f.callee=.builtin .len)(b:ko fr f.args.toList=Z args){c:Bool}{t:V S}
  (h:m9 E s .len f.argTypes args=Z (c,t,s')):∃v,(execOp a.eval o).run E.E.P w=.ok (.value v) w/\aI g w (low t) v:=by
 have k:=eY hf (gZ b);unfold m9 at h;split at h
 .rename_i d r _;split at h;rotate_left;cases h;rename_i n j l era m hU hole C;split at h;rotate_left;cases h;rename_i i n' hi LH;split at h;rotate_left;cases h;rename_i F;obtain⟨q,I⟩|⟨_,I⟩:=af h
  rotate_left;cases I;simp only[eW]at q;have K:=beq_iff'.1 q.1;subst K;obtain⟨_,rfl,rfl⟩:=I;have P:aI g w (.sh d r) ((f.args.toList.map a.eval)[0]'(by have:=k.1;simp[bA]at this;simp;omega)):=k.2 0 _ _ rfl (iX _)
  let ⟨xs,u,_⟩:=Fw P
  have Q:d<bM:=iS (hs.lt' u) hs.aE
  let ⟨z,h1,h2,h3,h4⟩:=Jf hs C u
  have x:(lits j (l.map (enc S (.st n))) z).length=l.length:=by rw[ov (by simpa using h1)];simp
  let ⟨_,v,y,ht⟩:=YE A hf h4 B hb (gZ b) (p:=True) (t:=.sym (.lit (.int .i64 (eN (lits j (l.map (enc S (.st n))) z))))) (s':=mw s d (.arr (S.width (.st n)) (lits j (l.map (enc S (.st n))) z) r)) (by
   have R:(nth f.argTypes.toList 0).bind E.E.ti=Z i:=hi;simp only[bA,low,fM,Ak,R,F,BQ];rw[gH Q,bD rfl];simp) trivial
  refine⟨v,y,?_⟩;have e:eN (lits j (l.map (enc S (.st n))) z)=ak l:=by simp[eN,x,ak]
  rw[e]at ht;exact ht
 rename_i h0;exact Builtin.noConfusion h0;rename_i h0;exact Builtin.noConfusion h0;cases h
theorem sJ{E:eM S}(I:fu E){fr:ck S}{s:bp S}{a:Act}(hf:cU g (bL fr) a w)(hs:aY g (aC s) w){o:Oper}{gd:O Bool}(hg:ZB gd){ω:Type}{k:V S->O ω}{r:ω}
  (h:fI E gd fr s o k=Z r) {K:Act->World->Prop} {Q:Exit->Act->World->Prop} (hK:∀t g' v w',k t=Z r->cS [] s g w s g' w'->aI g' w' (low t) v->K (a.put o.dst v) w') :
  o.wp E.T.E.P a w K Q:=by
 have plain:∀{c:Bool}{t:V S}{s':bp S},AD E.T fr s o.op=Z (c,t,s')->s'=s->zF gd c (k t)=Z r->o.wp E.T.E.P a w K Q:=by
  intro c t s' f hss h9;subst hss
  let ⟨hp,P⟩:=J1 hg h9
  let ⟨v,w',g',C,ht,wK⟩:=TG I hf hs o f hp
  unfold Oper.wp;obtain C|⟨C,rfl⟩:=C
  rw[C];exact hK t g' v w' P wK ht;rw[C];exact hK t g' undef w' P wK ht
 unfold fI at h;split at h
 .rename_i c f;split at h;cases h
  .rename_i args A;have B:=gZ A;split at h
   .rename_i b hb;obtain⟨hqb,h⟩|⟨_,h⟩:=af h
    rotate_left;cases h;split at h
    .rename_i p t s' m
     let ⟨hp,P⟩:=J1 hg h
     unfold lV at m;split at m
     .rename_i r0 h0;cases m;cases b with
      |len=>
       let ⟨v,F,ht⟩:=Mb I.env hf hs f hb A h0
       unfold Oper.wp;rw[F];exact hK t g v w P (cS.refl hs) ht
      |append=>cases hqb
      |_=>simp[m9]at h0
     split at m
     .rename_i r0 h0;cases m
      let ⟨q,hq,hqp⟩:=yU I.sg I.ty h0 hp
      cases b with
      |len=>
       let ⟨hss,v,F,ht⟩:=YE I.env hf hs f hb B hq hqp
       unfold Oper.wp;rw[F];exact hK t g v w P (cS.refl hs) ht
      |max=>simp[iy]at h0|min=>simp[iy]at h0|_=>cases hqb
     split at m;rename_i h0;cases m;obtain⟨rfl,v,C,ht⟩:=Bj I.x hs hf f hb A h0;unfold Oper.wp;rw[C];exact hK t g v w P (cS.refl hs) ht
     .cases b<;>first|(cases hqb;done)|(simp[uc]at m)
    cases h
   .rename_i fv hfv;split at h;cases h
    .rename_i args' hfa;split at h;cases h
     .rename_i ary;obtain⟨l,h⟩|⟨_,h⟩:=af h
      .simp only[eW]at l;split at h
       .rename_i x _ _ _ b hpk hnb
        let ⟨rr,hF,P⟩:=fN h
        rw[adf hg]at hF;split at P;rotate_left;cases P;rename_i r1 hr1;have hq:=ON hs.aE l.1 l.2.1 l.2.2.1 hpk hF hr1;simp[vU]at hfa
        let ⟨tf,htf,LJ⟩:=hfa
        have Zc:=bU hf (cE htf);have pY:=eY hf B;have i:=se LJ;unfold xX at i;split at i
        .rename_i On
         simp only[gP,fC]at i;obtain⟨rfl,R⟩:=i;rw[On]at Zc;generalize hvf:a.eval fv=vf at Zc;cases Zc with
         |fn _ _ _ va vc l1 l2 r1 r2=>
         have hall:PW (aI g w) (bA args') (va++c.args.map a.eval++vc).toList:=by rw[<-R];simp only[Vc,Tn];exact PW.append (PW.append ⟨by simpa using l1,λj x y h1 h2=>r1 j x y h1 (by simpa using h2)⟩ pY) ⟨by simpa using l2,λj x y h1 h2=>r2 j x y h1 (by simpa using h2)⟩
         let ⟨Ow,hc⟩:=DN I.sg (I.IU _ _ ary) hs hall hq
         unfold Oper.wp;rw[As f hfv hvf Ow];refine hc.mono λe w' he=>?_
         grind
        cases i
       cases h
      cases h
   cases h
 iterate 11
  cases h
 rename_i t n ps f;split at h;obtain⟨hn,h⟩|⟨_,h⟩:=af h
 grind[CI]
 cases h;cases h;rename_i t x lo hi mx f;split at h;rename_i v hv;obtain⟨hn,h⟩|⟨_,h⟩:=af h
 grind[Nf]
 cases h;cases h;all_goals try(cases h;done)
 rename_i op h1 h2 h3 h4 h5 h6 h7 h8 h9 h10 h11 h12 h13 h14;have hmv:qR o.op=J:=by cases f:o.op with|store x y z=>simp_all|alloc x=>simp_all|box x y=>simp_all|makeMap x y=>simp_all|mapUpdate x y z u=>grind|insert x y z u=>grind|makeSlice x y z=>simp_all|range x y=>simp_all|next x y=>simp_all|defer x=>simp_all|buildSlice x y z=>simp_all|slice x y z u v=>grind|_=>rfl
 split at h;rename_i Ww p d s' f;have hx:yV (λv _=>k v) (aO p (k d)) Ww=Z r:=by
  rw[<-Uo];obtain rfl|rfl:=hg
  exact h;simpa[zF,imp]using h
 let ⟨t,s1,v,w',g',k1,k2,k3,k4,k5⟩:=TH I.US I.x hf hs o f (X:=λv _=>k v) hx
 have:s1=s:=k5 λit b hh=>by simp_all
 subst this;unfold Oper.wp;obtain C|⟨C,rfl⟩:=k2
 rw[C];exact hK t g' v w' k1 k4 k3;rw[C];exact hK t g' undef w' k1 k4 k3
 grind[Vt]
theorem HN{ω:Type}{k:V S->O ω}{d:O ω}{r:ω}:∀{l:L (Bool×V S×bp S)},xe k d l=Z r->(∃t,k t=Z r)\/d=Z r
 |[],h=>.inr h|p::l,h=>by
  obtain⟨_,h⟩|⟨_,h⟩:=tq h
  grind
  exact HN h
theorem LR{E:eM S}{fr:ck S}{s:bp S}{o:Oper}{ω:Type}{k:V S->O ω}{r:ω}(h:fI E (Z J) fr s o k=Z r):∃t,k t=Z r:=by
 have a:∀{p:Bool}{x:O ω},zF (Z J) p x=Z r->x=Z r:=λh=>(oL h).2;unfold fI at h;split at h;split at h;cases h;split at h
 grind
 split at h;cases h;split at h;cases h;obtain⟨_,h⟩|⟨_,h⟩:=af h
 split at h
 let ⟨b,_,c⟩:=fN h
 grind
 cases h;cases h;cases h
 iterate 11
  cases h
 grind
 grind
 split at h;obtain h|h:=HN h
 exact h
 grind
 grind
end
end
section
def sL(p:Nat->Bool):sZ S->Bool
 |.call f args=>cN p f||args.any (cN p)|.mark o=>cN (S:=S) p (.ptr o 0)|.marks o=>cN (S:=S) p (.sh o 0)|.kK=>W|.bad=>W
theorem oJ{p q:Nat->Bool}(h:∀o,p o=W->q o=W):∀d:sZ S,sL p d=W->sL q d=W
 |.call f args,a=>by
  simp[sL,oQ,Tm]at a ⊢
  grind[ew]
 |.mark o,a=>h o a|.marks o,a=>h o a|.kK,_=>rfl|.bad,_=>rfl
inductive qh(p:Nat->Bool):List (sZ S)->List (sZ S)->Prop where
 |nil:qh p [] []|cons {d e:sZ S} {l m:List (sZ S)} (h:e=d\/(((e=.bad/\d.one=W)\/(e=.kK/\d.one=J))/\sL p d=W)) (t:qh p l m):qh p (d::l) (e::m)
theorem qh.refl(p:Nat->Bool):∀l:L (sZ S),qh p l l
 |[]=>.nil|_::l=>.cons (.inl rfl) (qh.refl p l)
theorem qh.mono{p q:Nat->Bool}(h:∀o,p o=W->q o=W){l m:L (sZ S)}(k:qh p l m):qh q l m:=by
 induction k with|nil=>exact .nil|cons c _ d=>exact .cons (c.imp id λ⟨a,b⟩=>⟨a,oJ h _ b⟩) d
def qh.trans{p:Nat->Bool}:∀{l m n:L (sZ S)},qh p l m->qh p m n->qh p l n
 |_,_,_,.nil,.nil=>.nil|_,_,_,.cons h t,.cons a b=>by
  refine .cons ?_ (t.trans b);obtain rfl|⟨⟨rfl,h1⟩|⟨rfl,h1⟩,h⟩:=h
  exact a;obtain rfl|⟨⟨rfl,_⟩|⟨rfl,h2⟩,_⟩:=a
  simp_all
  simp_all
  cases h2;obtain rfl|⟨⟨rfl,h2⟩|⟨rfl,_⟩,_⟩:=a
  simp_all
  cases h2
  simp_all
theorem qh.split{p:Nat->Bool}:∀{a b m:L (sZ S)},qh p (a++b) m->∃c d,m=c++d/\qh p b d
 |[],_,m,h=>⟨[],m,rfl,h⟩|_::_,_,_,.cons _ t=>by
  let ⟨c,d,h1,h2⟩:=t.split
  grind
theorem qh.len{p:Nat->Bool}{l m:L (sZ S)}(h:qh p l m):m.length=l.length:=by
 induction h with|nil=>rfl|cons _ _ a=>simp[a]
def yD(p:Nat->Bool)(l m:L (sZ S)):Prop:=∃c d,m=c++d/\qh p l d
theorem yD.refl(p:Nat->Bool)(l:L (sZ S)):yD p l l:=⟨[],l,rfl,.refl p l⟩
theorem qh.ok{p:Nat->Bool}{l m:L (sZ S)}(h:qh p l m):yD p l m:=⟨[],m,rfl,h⟩
theorem yD.mono{p q:Nat->Bool}(h:∀o,p o=W->q o=W){l m:L (sZ S)}(k:yD p l m):yD q l m:=by
 let ⟨c,d,h1,h2⟩:=k
 exact⟨c,d,h1,h2.mono h⟩
def yD.trans{p:Nat->Bool}{l m n:L (sZ S)}(h:yD p l m)(k:yD p m n):yD p l n:=by obtain⟨c,d,rfl,h2⟩:=h;obtain⟨a,b,rfl,h4⟩:=k;obtain⟨x,y,rfl,h5⟩:=h4.split;exact⟨a++x,y,by rw[wj],h2.trans h5⟩
structure dw(ds:List Nat)(fr fr':ck S)(dr:List Nat)(aE:Nat):Prop where
 tm:∀k v,k∉ds->fr.get k=Z v->fr'.get k=Z v\/cN (dN dr aE) v=W
 df:yD (dN dr aE) fr.df fr'.df
theorem dw.refl(ds:L Nat)(fr:ck S)(dr:L Nat)(aE:Nat):dw ds fr fr dr aE:=⟨λ_ _ _ h=>.inl h,yD.refl _ _⟩
def dw.trans{ds d:L Nat}{fr fr' a:ck S}{dr c:L Nat}{aE b:Nat}(h:dw ds fr fr' dr aE)(k:dw d fr' a c b)(f:∀o∈dr,o∈c)(hn:aE<=b):dw (ds++d) fr a c aE:=by
 refine⟨λj v e g=>?_,(h.df.mono (jb f (eO _))).trans (k.df.mono (jb (λ_ h=>h) hn))⟩;simp at e;obtain h1|h1:=h.tm j v e.1 g
 exact(k.tm j v e.2 h1).imp id (ew (jb (λ_ h=>h) hn) v);exact .inr (ew (jb f (eO _)) v h1)
theorem dw.mono{ds a:L Nat}{fr fr':ck S}{dr b:L Nat}{aE:Nat}(h:dw ds fr fr' dr aE)(d:∀k∈ds,k∈a)(c:∀o∈dr,o∈b):dw a fr fr' b aE:=by refine⟨λj v e f=>?_,h.df.mono (jb c (eO _))⟩;exact(h.tm j v (λg=>e (d j g)) f).imp id (ew (jb c (eO _)) v)
def u0{p q:Nat->Bool}(a:∀o,p o=W->q o=W){f:V S->Bool}(hf:∀v,f v=cN p v):∀l:L (sZ S),qh q l (l.map (eG f))
 |[]=>.nil|d::l=>by
  refine .cons ?_ (u0 a hf l);cases d with
  |call g args=>
   simp[eG];cases b:f g||args.any f with
   |true=>
    refine .inr ⟨.inl ⟨rfl,rfl⟩,oJ a _ ?_⟩;simp only[sL,<-hf]
    simp_all
   |false=>exact .inl rfl
  |mark o=>
   simp[eG];cases b:f (.ptr o 0)with|true=>exact .inr ⟨.inl ⟨rfl,rfl⟩,oJ a _ (by simp[sL,<-hf];exact b)⟩|false=>exact .inl rfl
  |marks o=>
   simp[eG];cases b:f (.sh o 0)with|true=>exact .inr ⟨.inr ⟨rfl,rfl⟩,oJ a _ (by simp[sL,<-hf];exact b)⟩|false=>exact .inl rfl
  |kK=>exact .inl rfl|bad=>exact .inl rfl
section
variable {g:Gh}{w:World}
theorem p7{ops:Array Oper}{fr:ck S}{a:Act}(hf:cU g (bL fr) a w){o:Oper}{r:O Bool}(h:iO ops.toList fr o=Z r) :
  match r with
  |none=>Region.wanted o (yielded ops a.tmps)=W|some c=>Region.wanted o (yielded ops a.tmps)=c:=by
 unfold iO at h;split at h
 grind[Region.wanted]
 rename_i j f z;split at h;rename_i b l;simp only[vU,kr]at l
 let ⟨d,⟨m,n,q⟩,i⟩:=l
 obtain⟨v,s,u⟩:=hf.tm d (low (.kb b)) (by rw[cg,i];rfl);cases u;have k:ops[j]?=Z m:=by grind
 have x:yielded ops a.tmps j=Z b:=by simp[yielded,k,q,s]
 cases b<;>cases f<;>simp only[iq,j7,IL,Lc,gP]at h<;>subst h<;>simp[Region.wanted,z,x];rename_i t _ l;split at h;rename_i b A;simp at h;subst h
 let ⟨p,e,B⟩:=mK A
 simp only[vU,kr]at l
 let ⟨d,⟨m,n,q⟩,i⟩:=l
 let ⟨v,s,u⟩:=hf.tm d (low t) (by rw[cg,i];rfl)
 have y:=jv e B u;subst y;have k:ops[j]?=Z m:=by grind
 have x:yielded ops a.tmps j=Z b:=by simp[yielded,k,q,s]
 simp only[Region.wanted,z,x,pJ];cases b<;>cases f<;>rfl;cases h;cases h
theorem De{ops:Array Oper}{fr:ck S}{a:Act}(hf:cU g (bL fr) a w){o:Oper}(h:vF ops.toList fr o=W):Region.wanted o (yielded ops a.tmps)=J:=by
 unfold vF at h;split at h;cases h
 .rename_i j e s;split at h
  .rename_i b f;simp only[vU,kr]at f
   let ⟨d,⟨p,i,q⟩,c⟩:=f
   obtain⟨v,r,k⟩:=hf.tm d (low (.kb b)) (by rw[cg,c];rfl);cases k;have m:ops[j]?=Z p:=by grind
   have t:yielded ops a.tmps j=Z b:=by simp[yielded,m,q,r]
   cases b<;>cases e<;>first|(cases h;done)|simp[Region.wanted,s,t]
  .rename_i l f;simp only[vU,kr]at f
   let ⟨d,⟨p,i,q⟩,c⟩:=f
   obtain⟨v,r,k⟩:=hf.tm d (low (.dat (.lit (.tuple l)))) (by rw[cg,c];rfl);cases k with
   |sym _ _ n=>
   cases n
   grind[yielded,Region.wanted]
  cases h
def M0:aI g w (low (S:=S) ep) undef:=.sym _ _ (.lit _)
def aaG(t a:V S):Prop:=a=t\/∃b,t=.ty .bool b/\a=.kb b
variable {p:Nat->Bool}{fr:ck S}{t:V S}{v:Value}{a:Act}
def aaG.rel{a:V S}(h:aaG t a)(c:aI g w (low t) v):aI g w (low a) v:=by
 obtain rfl|⟨b,rfl,rfl⟩:=h
 exact c;cases c with|sym _ _ d=>cases d;exact .kb b
def UU{b:Bool}{ω:Type}{k:V S->O ω}{r:ω}(h:KO b t k=Z r):∃c,aaG t c/\k c=Z r:=by
 obtain⟨_,a⟩|⟨_,a⟩:=af h
 clear h;split at a;obtain⟨rfl,h⟩|⟨rfl,h⟩:=tq a
 exact⟨_,.inr ⟨W,rfl,rfl⟩,h⟩;exact⟨_,.inr ⟨J,rfl,rfl⟩,h⟩;exact⟨_,.inl rfl,a⟩;exact⟨t,.inl rfl,a⟩
theorem KN{b:Bool}{t:V S}{ω:Type}{k:V S->O ω}{r:ω}(h:KO b t k=Z r){v:Value}(d:aI g w (low t) v):∃a,k a=Z r/\aI g w (low a) v:=by
 obtain⟨_,c⟩|⟨_,h⟩:=af h
 clear h;split at c;rename_i x;have e:v=.bool x:=by cases d with|sym _ _ f=>cases f;rfl
 subst e;obtain⟨rfl,h⟩|⟨rfl,h⟩:=tq c
 exact⟨_,h,.kb W⟩;exact⟨_,h,.kb J⟩
 grind
 grind
theorem wL{fr:ck S}{a:Act}(hf:cU g (bL fr) a w)(hn:fr.n<=bM){o:Op}(h:Oy W fr o=W):cU g (bL (r8 fr o)) a w/\(r8 fr o).n=fr.n:=by
 have key:∀(l:L Operand)(q:Bool)(f0:ck S),f0.n=fr.n->(q=W->cU g (bL f0) a w)->
   l.foldl (λp x=>match x with
    |.tmp k=>match fr.get k with
     |some (.gd g _)=>p&&imp W g|_=>p
    |_=>p) q=W->
   cU g (bL (l.foldl (λf x=>match x with
    |.tmp k=>match fr.get k with
     |some (.gd _ v)=>f.put k v|_=>f
    |_=>f) f0)) a w/\(l.foldl (λf x=>match x with
    |.tmp k=>match fr.get k with
     |some (.gd _ v)=>f.put k v|_=>f
    |_=>f) f0).n=fr.n:=by
  intro l
  induction l with
  |nil=>simp_all|cons x l s=>
   intro q f0 j t h;simp at h ⊢;cases x with
   |tmp k=>
    simp only at h ⊢;split at h;rename_i y v ek;refine s _ _ (by simpa[ck.put]using j) (λc=>?_) h;simp at c;have d:=t c.1;have m:y=W:=c.2;subst m
    let ⟨u,z,A⟩:=hf.tm k (low (.gd W v)) (by rw[cg,ek];rfl)
    have e:k<fr.n:=by have:=(XF.1 z).1;rw[hf.size]at this;exact this
    refine⟨d.size,d.df,λn B b=>?_⟩;rw[cg,ck.j0 _ _ _ _ (iS e hn)]at b;by_cases i:n=k
    .subst i;rw[bD rfl]at b;simp at b;cases A with|gd _ _ _ r=>simp_all
    rw[bQ i]at b;exact d.tm n B (by rw[cg];exact b)
    grind
   |const v=>grind|global v=>grind|func v=>grind
 exact key o.operands.toList W fr rfl (λ_=>hf) h
def uC(hf:cU g (bL fr) a w){dst:O Nat}(b:gN fr dst=W)(hn:fr.n<=bM)(c:aI g w (low t) v) :
  cU g (bL (fr.jr dst t)) (a.put dst v) w/\(fr.jr dst t).n=fr.n:=by
 refine⟨?_,by cases dst<;>rfl⟩;rw[Q8];exact Wd hf (by cases dst<;>exact b) hn c
theorem BV{fr:ck S}(hn:fr.n<=bM){dst:O Nat}(g:gN fr dst=W){ow dr:L Nat}(i:∀o∈ow,o∈dr)(aE:Nat)(t:V S):dw dst.toList fr ((dA ow fr).jr dst t) dr aE:=by
 refine⟨λk v h c=>?_,?_⟩;rotate_left
 .have e:((dA ow fr).jr dst t).df=(dA ow fr).df:=by cases dst<;>rfl
  rw[e];cases ow with
  |nil=>exact yD.refl _ _|cons o ow=>
   refine(u0 (p:=(o::ow).contains) (λj a=>?_) (λv=>pU _ v) _).ok;simp only[dN,oQ,FR,qM]at a ⊢
   grind
 have h1:(dA ow fr).get k=Z v\/cN (dN dr aE) v=W:=by
  cases ow with
  |nil=>exact .inl c|cons o ow=>
   cases f:iT (o::ow) v with
   |true=>
    rw[pU]at f;refine .inr (ew (λo a=>?_) v f);simp only[dN,oQ,FR,qM]at a ⊢
    grind
   |false=>
    left
    show(fr.tm.keep _).get k=Z v;rw[Tr.oF,show fr.tm.get k=Z v from c]
    simp_all
 refine h1.imp (λh1=>?_) id;cases dst with|none=>exact h1|some d=>have b:d<fr.n:=gS g;show((dA ow fr).put d t).get k=Z v;rw[ck.j0 _ _ _ _ (iS b hn),bQ (by simpa using h)];exact h1
def AT(v:Value):aI g w (low (S:=S) (.gd J ep)) v:=by exact .gd _ _ _ λh=>by cases h
def tS(ow:L Nat)(fr:ck S):(dA ow fr).n=fr.n:=by cases ow<;>rfl
def AE{ow:L Nat}{d:O Nat}(h:gN fr d=W):gN (dA ow fr) d=W:=by
 simp_all[gN,tS]
theorem sI{E:eM S}(u:fu E){call:gj S}(i:gL E.T.E.P call){ops:Array Oper}{fr:ck S}{s:bp S}{a:Act}(hn:fr.n<=bM)(hf:cU g (bL fr) a w)(hs:aY g (aC s) w){o:Oper}{ω:Type}
  {kp:V S->bp S->O ω} {k:V S->bp S->L Nat->O ω} {r:ω} (h:p9 E call ops.toList o fr s kp k=Z r) {K:Act->World->Prop} {Q:Exit->Act->World->Prop}
  (f:∀t s' ow g' v w',k t s' ow=Z r->aI g' w' (low t) v->cS ow s g w s' g' w'->K (a.put o.dst v) w')
  (z:∀t s' g' v w',kp t s'=Z r->cS [] s g w s' g' w'->aI g' w' (low t) v->Q (.panic [{v,recovered:=J}]) a w') {rr:O Nat} (j:rr≠Y->∀c,o.op≠.defer c) :
  gN fr o.dst=W/\if Region.wanted o (yielded ops a.tmps)then OpR rr E.T.E.P o a w K Q else K (a.put o.dst undef) w:=by
 obtain⟨x,h⟩|⟨_,h⟩:=af h
 rotate_left;cases h;refine⟨x,?_⟩;obtain⟨l,h⟩|⟨_,h⟩:=af h
 rw[bQ (by rw[De hf l];simp_all)];exact f _ s [] g undef w h M0 (cS.refl hs);split at h;cases h;rename_i m;have q:=p7 hf m
 grind[A0]
 rename_i c m;have q:=p7 hf m;obtain⟨_,h⟩|⟨_,h⟩:=af h
 .let ⟨b,h⟩:=oL h
  cases c with
  |true=>
   rw[bD q]
   let ⟨d,n⟩:=wL hf hn b
   exact .of_wp j (.inl (sJ u d hs (.inr rfl) h (λt g' v w' p e y=>f _ s [] g' v w' p (by exact .gd _ _ _ λ_=>y) e)))
  |false=>
   rw[bQ (by simp_all)]
   let ⟨t,p⟩:=LR h
   exact f _ s [] g undef w p (by exact .gd _ _ _ λh=>by cases h) (cS.refl hs)
 obtain⟨rfl,h⟩|⟨rfl,h⟩:=tq h
 let ⟨b,h⟩:=oL h
 let ⟨d,n⟩:=wL hf hn b
 grind[A0]
 rw[bQ (by simp_all)];exact f _ s [] g undef w h (AT _) (cS.refl hs)
theorem LX{P:Program}{fr:ck S}{a:Act}(hf:cU g (bL fr) a w){o:Oper}{d:sZ S}(h:RL fr o=Z d) :
  o.guard=Y/\∃e,(execOp a.eval o).run P w=.ok (.defer e) w/\xw g w (mH d) e:=by
 unfold RL at h;split at h;rotate_left;cases h;rename_i c r s;refine⟨r,?_⟩;split at h;rotate_left;cases h;rename_i f p;split at h;rotate_left;cases h;rename_i k u x args l b;simp at h;subst h;have q:=bU hf (cE l);have i:=eY hf (gZ b);generalize y:a.eval f=E at q;cases q with
 |fn _ _ _ m n z A B C=>
  refine⟨{target:=.fn k n,args:=m++c.args.map a.eval},?_,?_⟩
  grind[execOp,resolve,Deferred.ofValue,run_pure]
  exact .call (.fn k (bA u) (bA x)) (bA args) k m n (c.args.map a.eval) (.fn k _ _ m n z A B C) (by simpa using i.1) (λj t v h1 h2=>i.2 j t v h1 (by simpa using h2))
def LQ{E:eM S}(A:fu E){call:gj S}(f:gL E.T.E.P call){ops:Array Oper}{s:bp S}(hn:fr.n<=bM)(hf:cU g (bL fr) a w)(hs:aY g (aC s) w){o:Oper}{ω:Type}
  {kp:V S->bp S->O ω} {k:ck S->bp S->O ω} {r:ω} (h:RG E call ops.toList o fr s kp k=Z r) {K:Act->World->Prop} {Q:Exit->Act->World->Prop}
  (B:∀fr' s' g' a' w',k fr' s'=Z r->fr'.n=fr.n->cU g' (bL fr') a' w'->eJ s g w s' g' w'->dw o.dst.toList fr fr' s'.dr s.aE->K a' w')
  (C:∀t s' g' v w',kp t s'=Z r->cU g' (bL fr) a w'->eJ s g w s' g' w'->aI g' w' (low t) v->Q (.panic [{v,recovered:=J}]) a w') {rr:O Nat} (l:rr≠Y->∀c,o.op≠.defer c) :
  if Region.wanted o (yielded ops a.tmps)then OpR rr E.T.E.P o a w K Q else K (a.put o.dst undef) w:=by
 unfold RG at h;split at h
 .rename_i d x;obtain⟨m,h2⟩|⟨_,h2⟩:=af h
  rotate_left;cases h2
  let ⟨F,e,n,i⟩:=LX (P:=E.T.E.P) hf x
  have I:Region.wanted o (yielded ops a.tmps)=W:=by simp[Region.wanted,F]
  rw[bD I];refine .of_wp l (.inl ?_);unfold Oper.wp;rw[n]
  let ⟨h1,h3⟩:=uC hf m hn (t:=za) (v:=undef) (AT _)
  have key:∀dst:O Nat,cU g (bL (fr.jr dst za)) (a.put dst undef) w->cU g (bL {(fr.jr dst za)with df:=d::fr.df}) (({a with defers:=e::a.defers}:Act).put dst undef) w:=by intro dst h1;cases dst with|none=>exact⟨h1.size,.cons i hf.df,h1.tm⟩|some j=>exact⟨h1.size,.cons i hf.df,h1.tm⟩
  let ⟨h4,h5⟩:=BV (ow:=[]) (dr:=s.dr) hn m (λo R=>by cases R) s.aE za
  exact B _ s g _ w h2 h3 (key _ h1) (eJ.refl hs) ⟨h4,[d],fr.df,rfl,.refl _ _⟩
 have m:gN fr o.dst=W:=(sI A f hn hf hs h (K:=λ_ _=>True) (Q:=λ_ _ _=>True) (λ_ _ _ _ _ _ _ _ _=>trivial) (λ_ _ _ _ _ _ _ _=>trivial) l).1;refine(sI A f hn hf hs h (λt s' ow g' v w' p q b=>?_) (λt s' g' v w' p b q=>C t s' g' v w' p (oc (ow:=[]) hf b) b.toW q) l).2;have y:=b.owd;have z:=oc hf b
 let ⟨t,p,q⟩:=KN p q
 let ⟨h1,h2⟩:=uC (fr:=dA ow fr) z (AE m) (by rw[tS];exact hn) q
 exact B _ s' g' _ w' p (h2.trans (tS ow fr)) h1 b.toW (BV hn m y _ t)
theorem DL{E:eM S}(K:fu E){call:gj S}(e:gL E.T.E.P call){ops:Array Oper}{ω:Type}{kp:ck S->V S->bp S->O ω}{kk:ck S->bp S->O ω}{r:ω}{Q:Exit->Act->World->Prop}{rr:O Nat}(q:rr≠Y->∀o∈ops.toList,∀c,o.op≠.defer c) :
  ∀(l:L Oper)(k:Nat),ops.toList.drop k=l->∀{fr:ck S}{s:bp S}{a:Act}{g:Gh}{w:World},fr.n<=bM->T7 E call ops.toList kp kk l fr s=Z r->cU g (bL fr) a w->aY g (aC s) w->
   (∀fr' s' g' a' w',kk fr' s'=Z r->fr'.n=fr.n->cU g' (bL fr') a' w'->eJ s g w s' g' w'->dw (l.filterMap (·.dst)) fr fr' s'.dr s.aE->Q .normal a' w')->
   (∀fr' t s' g' a' v w',kp fr' t s'=Z r->fr'.n=fr.n->cU g' (bL fr') a' w'->eJ s g w s' g' w'->dw (l.filterMap (·.dst)) fr fr' s'.dr s.aE->aI g' w' (low t) v->Q (.panic [{v,recovered:=J}]) a' w')->
   xk rr E.T.E.P ops Q (List.range' k l.length) a w:=by
 intro l
 induction l with
 |nil=>intro k _ fr s a g w _ h u x y _;exact y fr s g a w h rfl u (eJ.refl x) (dw.refl _ _ _ _)
 |cons o l P=>
  intro k F fr s a g w R h u x y I;have hk:ops[k]?=Z o:=by
   have:=eu (λm=>m[0]?) F
   grind
  have z:ops.toList.drop (k+1)=l:=by
   have:=eu (List.drop 1) F
   grind[List.drop_drop]
  rw[lR,List.range'_succ];unfold xk;simp[hk];have tail:∀{fr' b:ck S}{s' d:bp S}{g':Gh}{w':World},eJ s g w s' g' w'->dw o.dst.toList fr fr' s'.dr s.aE->(∀o∈s'.dr,o∈d.dr)->dw (l.filterMap (·.dst)) fr' b d.dr s'.aE->dw ((o::l).filterMap (·.dst)) fr b d.dr s.aE:=by
   intro fr' b s' d g' w' h4 h5 h6 n;have:=h5.trans n h6 h4.aE
   grind
  refine LQ K e R u x h (λfr' s' g' a' w' h1 h2 h3 h4 h5=>?_) (λt s' g' v w' h1 h2 h3 h4=>I fr t s' g' a v w' h1 rfl h2 h3 (dw.refl _ _ _ _) h4) λhr=>q hr o (by grind);exact P (k+1) z (by omega) h1 h3 h4.rel (λb d f i j A B C p n=>y b d f i j A (B.trans h2) C (h4.trans p) (tail h4 h5 p.Ht n)) (λb t d f i v' j A B C p n k6=>I b t d f i v' j A (B.trans h2) C (h4.trans p) (tail h4 h5 p.Ht n) k6)
end
end
section
def Xm(a:Act)(w:World)(c:Nat):O Value:=bif Nt c 1000000 then a.tmps[c]? else match a.tmps[Nat.div (Nat.sub c 1000000) 1000]? with
 |some (.pointer (Z b))=>match w.heap[b.block]? with
  |some (.cells d _ _)=>d[Nat.mod (Nat.sub c 1000000) 1000]?|_=>Y
 |_=>Y
theorem Fp{g:Gh}{w:World}{fr:ck S}{s:bp S}{a:Act}(hf:cU g (bL fr) a w)(hs:aY g (aC s) w){c:Nat}{v:V S}(h:Xl fr s c=Z v):∃u,Xm a w c=Z u/\aI g w (low v) u:=by
 unfold Xl at h;unfold Xm;cases i:Nt c 1000000 with
 |true=>
  rw[i,iq]at h
  let ⟨u,e,f⟩:=hf.tm c (low v) (by rw[cg,h];rfl)
  exact⟨u,e,f⟩
 |false=>
  rw[i,j7]at h;split at h;rename_i o k;split at h
  .rename_i cs l;obtain⟨u,e,f⟩:=hf.tm _ (low (.ptr o 0)) (by rw[cg,k];rfl);cases f with
   |ptr _ _ b m=>
   let ⟨n,ty,p,q,d⟩:=(hs.box o b m).box (cs:=bA cs) (by rw[aJ,l];rfl)
   have h1:=ES h;have h2:∃x,n[Nat.mod (Nat.sub c 1000000) 1000]?=Z x:=by have:=(Vg.1 h1).1;exact⟨_,uB (by omega)⟩
   let ⟨x,j⟩:=h2
   exact⟨x,by simp only[j7,e,p,j],d _ _ _ h1 j⟩
  cases h;cases h
def abn(a:Act)(w:World)(al:L (Nat×Nat)):Prop:=∀p∈al,a.tmps[p.1]?=Xm a w p.2
theorem mB{g:Gh}{w:World}{a:Act}{s:bp S}(hs:aY g (aC s) w):∀{al:L (Nat×Nat)}{fr:ck S},(∀p∈al,p.1<bM)->abn a w al->cU g (bL fr) a w->
  cU g (bL (mV s al fr)) a w/\(mV s al fr).n=fr.n/\(mV s al fr).df=fr.df/\∀k,k∉al.map (·.1)->(mV s al fr).get k=fr.get k
 |[],fr,_,_,c=>⟨c,rfl,rfl,λ_ _=>rfl⟩|p::al,fr,e,f,c=>by
  have d:=e p eI;have n:=f p eI;simp only[mV];cases o:Xl fr s p.2 with
  |none=>
   let ⟨h1,h2,h3,h4⟩:=mB hs (fr:=fr) (λq b=>e q (hJ _ b)) (λq b=>f q (hJ _ b)) c
   simp_all
  |some v=>
   have h:cU g (bL (fr.put p.1 v)) a w:=by
    refine⟨c.size,c.df,λj t i=>?_⟩;rw[cg,ck.j0 _ _ _ _ d]at i;by_cases l:j=p.1
    grind[Fp]
    rw[bQ l]at i;exact c.tm j t (by rw[cg];exact i)
   let ⟨h1,h2,h3,h4⟩:=mB hs (fr:=fr.put p.1 v) (λq b=>e q (hJ _ b)) (λq b=>f q (hJ _ b)) h
   refine⟨h1,h2,h3,λk m=>?_⟩;simp only[pN,fV,not_or]at m;rw[h4 k m.2,ck.j0 _ _ _ _ d,bQ m.1]
def BA.mV{sh:Sh}{bs:L Nat}{a:Act}{gb:Gh}{j3 c:ck S}{s0 b:bp S}{w:World}{d:L fe}{e:Gh}(h:BA [] sh bs a gb j3 s0 w d e c b){al:L (Nat×Nat)}(f:∀p∈al,p.1<bM)(g:abn a w al) :
  BA (al.map (·.1)) sh bs a gb j3 s0 w d e (TL.mV b al c) b:=by
 let ⟨h1,h2,h3,h4⟩:=mB h.rel f g h.fr
 exact⟨h.rel,h1,h.le,h.bx,h.own,h.fl,h.lo,h.aE,h.wr,h.dr,h.ob,h.bT,h.arr,h2.trans h.n,h3.trans h.OY,λk i j=>(h4 k i).trans (h.get k (by simp) j)⟩
variable {a:Act}{w:World}{al:List (Nat×Nat)}
def xZ{g:Gh}{fr:ck S}{s:bp S}(hf:cU g (bL fr) a w)(hs:aY g (aC s) w)(h:Wy fr s al=W):abn a w al:=by
 intro p k;unfold Wy at h;rw[kP]at h;have h1:=h p k;split at h1
 .rename_i o r t u l m;rw[eW]at h1;obtain rfl:=beq_iff'.1 h1.1;obtain rfl:=beq_iff'.1 h1.2;obtain⟨v,c,d⟩:=hf.tm p.1 (low (.sh o r)) (by rw[cg,l];rfl)
  let ⟨y,e,f⟩:=Fp hf hs m
  cases d with
  |sh _ _ len cap sz x n=>
  cases f with|sh _ _ i j q z b=>rw[n]at b;cases b;rw[c,e]
 cases h1
theorem Pr{fr:ck S}{ow:L Nat}{al:L (Nat×Nat)}(h:adR fr ow al=W){p:Nat×Nat}(a:p∈al){v:V S}(b:fr.get p.1=Z v):∃o r,v=.sh o r/\o∈ow:=by
 unfold adR at h
 grind
end
section
inductive Jd(g:Gh)(w:World):vA S->Exit->Prop where
 |rY:Jd g w .rY .normal|ext (i:Nat):Jd g w (.ext i) (.exit i)|ret:Jd g w .ret .ret|iJ (t:V S) (v:Value) (h:aI g w (low t) v):Jd g w (.iJ t) (.panic [{v,recovered:=J}])
def Ja(ds:L Nat)(fr:ck S)(s:bp S)(g:Gh)(w:World){ω:Type}(Q:vA S->ck S->bp S->O ω)(r:ω)(e:Exit)(a:Act)(w':World):Prop:=
 False\/∃ex fr' s' g',Jd g' w' ex e/\Q ex fr' s'=Z r/\fr'.n=fr.n/\cU g' (bL fr') a w'/\eJ s g w s' g' w'/\dw ds fr fr' s'.dr s.aE
theorem Ja.mono{ds c:L Nat}{fr tR:ck S}{s s1:bp S}{g f:Gh}{w w1:World}{ω:Type}{Q:vA S->ck S->bp S->O ω}{r:ω}{e:Exit}{a:Act}{w':World}(hn:tR.n=fr.n)(b:eJ s g w s1 f w1)(hf:dw ds fr tR s1.dr s.aE)
  (h:Ja c tR s1 f w1 Q r e a w'):Ja (ds++c) fr s g w Q r e a w':=by
 obtain h|⟨i,d,j,k,h1,h2,h3,h4,h5,h6⟩:=h
 exact .inl h;exact .inr ⟨i,d,j,k,h1,h2,h3.trans hn,h4,b.trans h5,hf.trans h6 h5.Ht b.aE⟩
def Ja.ds{ds b:L Nat}{fr:ck S}{s:bp S}{g:Gh}{w:World}{ω:Type}{Q:vA S->ck S->bp S->O ω}{r:ω}{e:Exit}{a:Act}{w':World}(d:∀k∈ds,k∈b)(h:Ja ds fr s g w Q r e a w'):Ja b fr s g w Q r e a w':=by
 obtain h|⟨f,c,i,j,h1,h2,h3,h4,h5,h6⟩:=h
 exact .inl h;exact .inr ⟨f,c,i,j,h1,h2,h3,h4,h5,h6.mono d (λ_ h=>h)⟩
theorem VG(p:Nat->Prop)(h:∃n,p n):∃n,p n/\∀m,p m->n<=m:=by
 let ⟨n,a⟩:=h
 induction n using Nat.strongRecOn with
 |_ n b=>
  grind
theorem VR{X R B P:Type}{F:X->O (LO X R B P)}:∀{n:Nat}{x:X}{o:LO X R B P},iter F n x=Z o->∃m,n=m+1/\∃a,F x=Z a/\((∃y,a=.next y/\iter F m y=Z o)\/(a=o/\∀y,o≠.next y))
 |0,_,_,h=>by cases h
 |_+1,x,o,h=>by
  simp[iter]at h
  grind
structure xz(sh:Sh)(bs:List Nat)(j3:ck S)(s0 s:bp S)(g:Gh)(w:World)(x:gm S.A (lP sh))(a:Act)(gb:Gh)(w':World)(vals:List Value)(al:List fe)(bl:List Nat):Prop where
 rel:aY gb (aC s0) w'
 fr:cU gb (bL j3) a w'
 pr:rJ S gb.bx w' (lP sh) x vals al bl
 at_:iW a sh vals
 Iy:PW (λo b=>gb.bT o=Z b) bs bl
 Yl:∀o∈bs,∀e,gb.arr o e=Y
 fresh:∀a∈al,∀b,a.at b->∀o,¬bJ gb o b
 ap:xC al
 ext:oN s.lo s.fl g w gb w'
 alo:∀a∈al,∀b,a.at b->(∃o,s.fl<=o/\bJ g o b)\/w.heap.size<=b
variable {w':World}
def xz.head{sh:Sh}{bs:L Nat}{j3 f:ck S}{s0 s i:bp S}{g:Gh}{w:World}{x:gm S.A (lP sh)}{a:Act}{gb:Gh}{vals:L Value}{al:L fe}{bl:L Nat}
  (c:xz sh bs j3 s0 s g w x a gb w' vals al bl) (hn:j3.n<=bM) (h:ny sh bs x j3 s0=Z (f,i)) :
  ∃j,BA [] sh bs a gb j3 s0 w' al j f i/\oN s.lo s.fl g w j w':=by
 let ⟨j,d⟩:=wI h hn c.pr c.at_ c.Iy c.Yl c.fresh c.ap c.fr c.rel
 refine⟨j,d,λo b e=>?_,λo e y q k=>?_,λb e=>?_,c.ext.size,c.ext.heap,λo b r l=>?_,λb p=>?_,c.ext.os,c.ext.output⟩;exact d.le.bT o b (c.ext.bT o b e);exact d.le.arr o e y (c.ext.arr o e y q k);exact d.le.bx b (c.ext.bx b e);obtain l|⟨_,t,m,n⟩:=d.own o b l
 exact c.ext.own o b r l;exact c.alo t m b n;rw[d.bx]at p;exact c.ext.oD b p
theorem ZV(P:Nat->Bool)(d:sZ S):eG (cN P) (eG (cN P) d)=eG (cN P) d:=by
 cases d with
 |call f args=>
  simp[eG]
  grind
 |mark o=>
  simp[eG]
  grind
 |marks o=>
  simp[eG]
  grind
 |_=>rfl
def adB{P Q:Nat->Bool}(c:∀o,Q o=W->P o=W):∀{l m:L (sZ S)},qh Q (l.map (eG (cN P))) m->m=l.map (eG (cN P)):=by
 intro l
 induction l with
 |nil=>intro m h;cases h;rfl
 |cons d l g=>
  intro m h;cases h with
  | @cons _ e _ _ i j=>
  rw[pN,g j]
  congr 1
  obtain rfl|⟨h1,k⟩:=i
  rfl;have a:=oJ c _ k;cases d with
  |call f args=>
   simp[eG]at a h1 ⊢;cases b:cN P f||args.any (cN P)with
   |true=>
    rw[b]at h1;obtain⟨h1,_⟩|⟨_,h1⟩:=h1
    exact h1;cases h1
   |false=>
    simp_all[sL]
  |mark o=>
   simp[eG]at a h1 ⊢;cases b:cN (S:=S) P (.ptr o 0)with
   |true=>
    rw[b]at h1;obtain⟨h1,_⟩|⟨_,h1⟩:=h1
    exact h1;cases h1
   |false=>
    simp_all[sL]
  |marks o=>
   simp[eG]at a h1 ⊢;cases b:cN (S:=S) P (.sh o 0)with
   |true=>
    rw[b]at h1;obtain⟨_,h1⟩|⟨h1,_⟩:=h1
    cases h1;exact h1
   |false=>
    simp_all[sL]
  |kK=>
   obtain⟨_,h1⟩|⟨h1,_⟩:=h1
   cases h1;exact h1
  |bad=>
   obtain⟨h1,_⟩|⟨_,h1⟩:=h1
   exact h1;cases h1
theorem adC{g g':Gh}{w w':World}{P:Nat->Bool}(b:∀t v,aI g w t v->dK P t=J->aI g' w' t v){l:L (sZ S)}{a:L Deferred}(c:eS g w ((l.map (eG (cN P))).map mH) a) :
  eS g' w' ((l.map (eG (cN P))).map mH) a:=by
 have h:=gU (S:=S) (p:=cN P) (q:=dK P) (λv=>iu P v) (λ_ _=>rfl) (l.map (eG (cN P)));have e:(l.map (eG (cN P))).map (eG (cN P))=l.map (eG (cN P)):=by
  grind[List.map_congr_left,ZV]
 rw[e]at h;exact iF.rel b h c
section
variable {sh:Sh}{bs ow ds:List Nat}{fr:ck S}{s s1:bp S}{g:Gh}{w:World}{a:Act}
theorem Um(a:∀d∈ds,d<bM)(k:Nat):(cP ds ow bs fr s1).1.get k=if k∈ds then Y else(fr.get k).filter (λv=>!(cN (dN ow s1.aE) v)):=by show((ds.foldl (λt k=>t.del aM k) fr.tm).keep _).get k=_;rw[Tr.oF,Tr.oG ds _ k a];split;rfl;rfl
theorem Bm(a:∀d∈ds,d<bM){k:Nat}{v:V S}(h:(cP ds ow bs fr s1).1.get k=Z v):k∉ds/\fr.get k=Z v/\cN (dN ow s1.aE) v=J:=by
 grind[Um,Option.filter_eq_some_iff]
theorem HJ(hf:cU g (bL fr) a w)(hs:aY g (aC s) w)(C:∀d∈ds,d<bM){x:gm S.A (lP sh)}{m:Gh}{vals:L Value}{al:L fe}{bl:L Nat}
  (c:HU sh bs a g s w x s1 ow m vals al bl):xz sh bs (cP ds ow bs fr s1).1 (cP ds ow bs fr s1).2 s g w x a (m.base (dN ow s1.aE)) w vals al bl:=by
 have r:∀b∈bs,b<bM:=λb i=>by exact iS (c.Uj b i).2.1 hs.aE
 have n:∀o,o∉ow->o<s.aE->dN ow s1.aE o=J:=λo h1 h2=>pS h1 (c.aE▸h2);have l:=c.alr.owned c.pr.iL;refine⟨c.rel.base (λo q=>?_) rfl (eO _) (λo ob hpo f=>?_),⟨hf.size,(gU (λv=>iu (dN ow s1.aE) v) (λ_ _=>rfl) fr.df).rel (λt v ht z=>(ht.ext c.ext hs.bx).on (m.gJ _) (λ_ _=>rfl) z) hf.df,λk t Q=>?_⟩,c.pr,c.at_,⟨c.Iy.1,λj o b h1 h2=>?_⟩,λo q e=>?_,λE F b i o A=>?_,c.ap,⟨λo b i=>?_,λo e y hl R=>?_,c.ext.bx,eO _,λ_ _ _=>rfl,λo b q A=>?_,c.ext.oD,rfl,rfl⟩,λE F b i=>?_⟩;simp only[dN,oQ];exact .inr (NI q);rw[aJ,ue r]at f;split at f;cases f;rw[FV,fT]at f;obtain⟨B,I,rfl⟩:=f;exact⟨de B,by rw[aJ,I];rfl,lU _ B⟩;rw[cg,fT]at Q;obtain⟨v,I,rfl⟩:=Q
 let ⟨_,h2,h3⟩:=Bm C I
 let ⟨u,hu,hr⟩:=hf.tm k (low v) (by rw[cg,h2];rfl)
 exact⟨u,hu,(hr.ext c.ext hs.bx).on (m.gJ _) (λ_ _=>rfl) (by rw[iu];exact h3)⟩;have f:=iA h1;have:=c.Uj o f;exact(m.gJ _).bT o b (n o this.2.2.1 this.2.1) (c.Iy.2 j o b h1 h2);simp only[Gh.base];split;exact(c.Uj o q).2.2.2 e;rfl
 let ⟨h1,h2⟩:=Gh.fO A
 let ⟨o',K,P⟩:=l E F b i
 have:=c.rel.j6 o o' b h2 P;subst this;exact(l5 h1).1 K;have p:=hs.lt i;exact(m.gJ _).bT o b (n o (λz=>by rw[c.owb o z]at i;cases i) p) (c.ext.bT o b i);have p:=hs.lt' R;exact(m.gJ _).arr o e y (n o (λz=>by have:=(c.Yd o z).2.1;omega) p) (c.ext.arr o e y R);obtain h|h:=c.ext.own o b (Gh.fO A).2
 grind
 omega
 let ⟨o,q,A⟩:=l E F b i
 obtain h|h:=c.ext.own o b A
 exact .inl ⟨o,(c.Yd o q).1,h⟩;omega
theorem Sa{ex:L Nat}{v:Sh}{j3:ck S}(hds:∀d∈ds,d<bM)(i:∀b∈bs,b<s1.aE/\b∉ow)(E:s1.aE<=bM)(hlo:s.lo<=s1.aE)(how:∀o∈ow,s.lo<=o)(F:∀o b,g.bT o=Z b->o<s1.aE/\o∉ow)(I:s1.lo=s.lo)(K:s1.fl=s.fl)
  {a':Act} {w':World} {al:L fe} {gb gh:Gh} {Cn:ck S} {k:bp S}
  (P:oN s.lo s.fl g w gh w') (hh:BA ex sh bs a' gb (cP ds ow bs fr s1).1 (cP ds ow bs fr s1).2 w' al gh Cn k)
  {s2 n:bp S} {g2 z:Gh} {a2:Act} {C:World} (h:eJ k gh w' s2 g2 C)
  {x:gm S.A (lP v)} {A:L Nat} {vals:L Value} {Q:L fe} {R:L Nat} (f:HU v bs a2 g2 s2 C x n A z vals Q R)
  (hwr:UL s1.aE bs n.wr=W) (akE:A.all (λo=>Nl s1.aE o)=W) (hdr:n.dr.all (λo=>Nl s1.aE o)=W) (hfr:cU (z.base (dN ow s1.aE)) (bL j3) a2 C) :
  xz v bs j3 (cP ds ow bs fr s1).2 s g w x a2 (z.base (dN ow s1.aE)) C vals Q R:=by
 have l:∀b∈bs,b<bM:=λb m=>iS (i b m).1 E;have p:(cP ds ow bs fr s1).2.aE=s1.aE:=rfl;have hlen:s1.aE<=k.aE:=p▸hh.aE;have how2':∀o∈A,s1.aE<=o:=λo q=>by
  simp_all
 have hwr':∀o∈n.wr,s1.aE<=o\/o∈bs:=λo q=>by
  simp_all[UL]
 have r:=f.alr.owned f.pr.iL;have t:k.fl=s.fl:=hh.fl.trans (show(cP ds ow bs fr s1).2.fl=s.fl from K);have agI:k.lo=s.lo:=hh.lo.trans (show(cP ds ow bs fr s1).2.lo=s.lo from I);have B:oN s.lo s.fl g w g2 C:=P.trans (t▸agI▸h.ext);have Zn:s2.fl=s.fl:=h.fl.trans t;have a:oN s.lo s.fl g w z C:=B.trans (Zn▸f.ext.ID s.lo);refine⟨f.rel.base (aE:=s1.aE) (λo q=>?_) rfl ?_ (λo ob hpo c=>?_),hfr,f.pr,f.at_,⟨f.Iy.1,λj o b h1 h2=>?_⟩,λo q e=>?_,λa' ha b m o hO=>?_,f.ap,⟨λo b m=>?_,λo e y hl hy=>?_,a.bx,a.size,a.heap,λo b q hO=>?_,a.oD,a.os,a.output⟩,λa' ha b m=>?_⟩
 simp_all[dN]
 have e1:(aC n).aE=n.aE:=rfl;have:=h.aE;have:=f.aE;omega;rw[aJ,ue l]at c;split at c;cases c;rename_i hnb;rw[FV,fT]at c;obtain⟨vob,hv,rfl⟩:=c;have u:=(l5 hpo).2;have hnw:o∉n.wr:=λhm=>by
  grind
 have aq6:o∉s2.wr:=λhm=>hnw (f.uk o hm);have e1:n.ob.get o=Z (fc (dN ow s1.aE) vob):=by rw[f.same o hnw,h.same o (iS u hlen) aq6,hh.ob o (p▸u) hnb,ue l,bQ hnb,hv];rfl
 grind[aJ,HA]
 have c:=iA h1;exact(z.gJ _).bT o b (pS (i o c).2 (i o c).1) (f.Iy.2 j o b h1 h2);simp only[Gh.base];split;exact(f.Uj o q).2.2.2 e;rfl
 let ⟨h1,h2⟩:=Gh.fO hO
 let ⟨o',ho',V6⟩:=r a' ha b m
 have:=f.rel.j6 o o' b h2 V6
 grind[l5]
 exact(z.gJ _).bT o b (pS (F o b m).2 (F o b m).1) (a.bT o b m);exact(z.gJ _).arr o e y (pS (λhm=>by grind) (by omega)) (a.arr o e y hl hy);exact a.own o b q (Gh.fO hO).2
 let ⟨o,q,hO⟩:=r a' ha b m
 exact a.own o b (by have:=(f.Yd o q).1;omega) hO
def iW.tmps{a a':Act}(h:a'.tmps=a.tmps):∀{sh:Sh}{vs:L Value},iW a sh vs->iW a' sh vs
 |[],[],_=>trivial|(_,.one _)::_,_::_,k=>⟨by rw[h];exact k.1,iW.tmps h k.2⟩
 |(_,.box _)::l,_::_,k=>iW.tmps (sh:=l) h k|(_,.hid _)::l,_,k=>iW.tmps (sh:=l) h k|[],_::_,k=>k.elim|(_,.one _)::_,[],k=>k.elim|(_,.box _)::_,[],k=>k.elim
theorem eS.split{g:Gh}{w:World}:∀{l1 l2:L Df}{m:L Deferred},eS g w (l1++l2) m->∃a b,m=a++b/\eS g w l1 a/\eS g w l2 b
 |[],_,m,h=>⟨[],m,rfl,.nil,h⟩|_::l1,l2,_,.cons h t=>by obtain⟨a,b,rfl,h1,h2⟩:=eS.split (l1:=l1) (l2:=l2) t;exact⟨_::a,b,rfl,.cons h h1,h2⟩
 |_::l1,l2,_,.marks o bs c h t=>by obtain⟨a,b,rfl,h1,h2⟩:=eS.split (l1:=l1) (l2:=l2) t;exact⟨_++a,b,(wj _ _ _).symm,.marks o bs c h h1,h2⟩
 |_::l1,l2,_,.kK d t=>by obtain⟨a,b,rfl,h1,h2⟩:=eS.split (l1:=l1) (l2:=l2) t;exact⟨_++a,b,(wj _ _ _).symm,.kK d h1,h2⟩
def eS.one{g:Gh}{w:World}:∀{os:L Nat}{m:L Deferred},eS g w (os.map Df.mark) m->∃bl,PW (λo b=>g.bT o=Z b) os bl/\m=bl.map λb=>{target:=.collected b,args:=#[]}
 |[],_,.nil=>⟨[],⟨rfl,λj o b h=>by simp at h⟩,rfl⟩
 |o::os,_,.cons h t=>by
  obtain⟨bl,h1,rfl⟩:=eS.one t;cases h with
  |mark _ b f=>
  refine⟨b::bl,⟨by simp[h1.1],λj a c d e=>?_⟩,rfl⟩;cases j with|zero=>simp_all|succ j=>exact h1.2 j a c (by simpa using d) (by simpa using e)
theorem aY.Pv{s:St}{w:World}{o:Nat}(m:s.ob.get o=Z .Gl)(u:o<s.aE):∀(bl:L Nat){g:Gh},aY g s w->bl.Nodup->(∀b∈bl,b<w.heap.size/\¬g.bx b/\(∀k,¬bJ g k b)/\w.heap[b]?=Z (.deferred (Z [])))->
  ∃g',aY g' s w/\nk g g'/\g'.bT=g.bT/\g'.bx=g.bx/\(∀k,k≠o->g'.arr k=g.arr k)/\(∀k b,bJ g' k b->bJ g k b\/(k=o/\b∈bl))/\∀b∈bl,g'.arr o b=Z ⟨Z ⟨b,0,Y⟩,0,1,0⟩
 |[],g,f,_,_=>⟨g,f,nk.refl _,rfl,rfl,λ_ _=>rfl,λ_ _ h=>.inl h,λb v=>by cases v⟩
 |b::bl,g,f,S,v=>by
  let ⟨b1,b2,b3,b4⟩:=v b eI
  have z:g.arr o b=Y:=by
   cases i:g.arr o b with
   |none=>rfl|some x=>
    exfalso;obtain⟨A,_,_,h,_⟩|⟨_,_,_,_,_,_,h,_⟩|⟨_,_,_,h,_⟩|h|⟨_,h1,h2,h3,_⟩:=(f.arr o b x i).2 _ m
    cases A<;>cases h;cases h;cases h;cases h;exact b3 o ⟨h3,.inr ⟨b,x,_,i,h1,rfl,h2⟩⟩
  let r:Gh:={g with arr:=λk e=>if k=o/\e=b then Z ⟨Z ⟨b,0,Y⟩,0,1,0⟩else g.arr k e}
  have j:∀k e y,g.arr k e=Z y->r.arr k e=Z y:=λk e y h=>by
   grind
  have n:nk g r:=⟨λ_ _ h=>h,j,λ_ h=>h⟩;have l:∀k c,bJ r k c->bJ g k c\/(k=o/\c=b):=by
   rintro k c ⟨h1,h2|⟨e,x,F,h2,h3,h4,h5⟩⟩
   exact .inl ⟨h1,.inl h2⟩;by_cases d:k=o/\e=b
   grind
   have h2:(if k=o/\e=b then Z ⟨Z ⟨b,0,Y⟩,0,1,0⟩else g.arr k e)=Z x:=h2;rw[bQ d]at h2;exact .inl ⟨h1,.inr ⟨e,x,F,h2,h3,h4,h5⟩⟩
  have B:aY r s w:=by
   refine⟨f.aE,λk d=>⟨(f.ah k d).1,λe=>?_⟩,λk c p=>?_,λk e x i=>?_,f.bx,λk I c h h'=>?_⟩;show(if k=o/\e=b then _ else g.arr k e)=_;rw[bQ (λh=>by omega)];exact(f.ah k d).2 e
   let ⟨C,t,k3⟩:=f.box k c p
   exact⟨C,t,λob a=>let ⟨x,h1,h2⟩:=k3 ob a;⟨x,h1,h2.imp λ_ _ ht=>ht.le n⟩⟩;by_cases d:k=o/\e=b;have i:(if k=o/\e=b then Z ⟨Z ⟨b,0,Y⟩,0,1,0⟩else g.arr k e)=Z x:=i;rw[bD d]at i;cases i;obtain⟨rfl,rfl⟩:=d;refine⟨λF ha _=>by grind,λob a=>?_⟩;rw[m]at a;cases a;exact .inr (.inr (.inr (.inr ⟨rfl,rfl,by simp,b2,b4⟩)));have E:g.arr k e=Z x:=by have i:(if k=o/\e=b then Z ⟨Z ⟨b,0,Y⟩,0,1,0⟩else g.arr k e)=Z x:=i;rwa [bQ d]at i
   let ⟨C,t⟩:=f.arr k e x E
   refine⟨C,λob a=>?_⟩;by_cases q:k=o;subst q;rw[m]at a;cases a;obtain⟨A,_,_,h,_⟩|⟨_,_,_,_,_,_,h,_⟩|⟨_,_,_,h,_⟩|h|h:=t _ m
   cases A<;>cases h;cases h;cases h;cases h;exact .inr (.inr (.inr (.inr h)));exact(t ob a).tr (λh=>h.kE rfl) j (funext λK=>by show(if k=o/\K=b then _ else g.arr k K)=_;rw[bQ (λh=>q h.1)]) (λ_ _ _=>⟨rfl,vS⟩);obtain P|⟨P,e2⟩:=l k c h
   obtain Q|⟨Q,e4⟩:=l I c h'
   exact f.j6 k I c P Q
   simp_all
   grind
  let ⟨g',q1,R,q3,q4,q5,q6,q7⟩:=B.Pv m u bl (Nz.1 S).2 (λc p=>by
   grind)
  refine⟨g',q1,n.trans R,q3,q4,λk d=>(q5 k d).trans (funext λe=>by show(if k=o/\e=b then _ else g.arr k e)=_;rw[bQ (λh=>d h.1)]),λk c hO=>?_,λc p=>?_⟩
  grind
  obtain rfl|p:=fV.1 p
  exact R.arr o c _ (by show(if o=o/\c=c then _ else g.arr o c)=_;rw[bD ⟨rfl,rfl⟩])
  grind
def Marks(aE fl:Nat)(base:ck S×bp S)(c:ck S)(g:Gh)(w:World):Prop:=
 ∃os d,c.df=os.map sZ.mark++d/\d.length=base.1.df.length/\os.Nodup/\(∀o∈os,aE<=o/\∀b,g.bT o=Z b->w.heap[b]?=Z (.deferred (Z [])))/\
  (os=[]\/∃a rest,base.1.df=.marks a::rest/\base.2.ob.get a=Z .Gl/\a<aE/\fl<=a)
theorem Marks.mono{aE fl:Nat}{base:ck S×bp S}{c:ck S}{g g':Gh}{w:World}{a:Act}(h:Marks aE fl base c g w)(hf:cU g (bL c) a w)(v:∀o b,g.bT o=Z b->g'.bT o=Z b):Marks aE fl base c g' w:=by
 let ⟨os,d,l,n,p,q,r⟩:=h
 refine⟨os,d,l,n,p,λo m=>⟨(q o m).1,λb x=>?_⟩,r⟩;have e:=hf.df;rw[show(bL c).df=(os.map sZ.mark).map mH++d.map mH from by show c.df.map mH=_;rw[l,Ju]]at e
 let ⟨y,z,_,f,_⟩:=e.split
 rw[List.map_map,show(mH∘sZ.mark:Nat->Df)=Df.mark from rfl]at f
 let ⟨s,j,_⟩:=f.one
 obtain⟨i,t,rfl⟩:=rQ m;have k:i<s.length:=by have:=j.1;omega
 have u:=j.2 i _ _ (iX t) (iX k)
 grind
def DC{aE:Nat}{s:bp S}{g:Gh}{w:World}(hs:aY g (aC s) w):∀{l:L (sZ S)}{os:L Nat},uI aE s l=Z os->l=os.map sZ.mark/\∀o∈os,aE<=o/\∀b,g.bT o=Z b->w.heap[b]?=Z (.deferred (Z []))
 |[],os,h=>by simp only[uI,gP]at h;subst h;exact⟨rfl,λo f=>by cases f⟩
 |.mark o::l,os,h=>by
  simp[uI]at h;split at h;rename_i i;obtain⟨j,h⟩|⟨_,h⟩:=af h
  split at h;rename_i c;simp at h;subst h
  let ⟨h1,h2⟩:=DC hs c
  refine⟨by rw[h1];rfl,λe a=>?_⟩;obtain rfl|a:=fV.1 a
  refine⟨gS j,λb d=>?_⟩
  let ⟨x,k,c⟩:=(hs.box e b d).2.2 .Ab (by rw[aJ,i];rfl)
  cases c;exact k;exact h2 e a;cases h;cases h;cases h
 |.call _ _::_,_,h=>by simp[uI]at h
 |.marks _::_,_,h=>by simp[uI]at h
 |.kK::_,_,h=>by simp[uI]at h
 |.bad::_,_,h=>by simp[uI]at h
theorem Ap{aE:Nat}{base:ck S×bp S}{fr':ck S}{s':bp S}{g:Gh}{w:World}(hs:aY g (aC s') w)(h:QC aE base fr' s'=W):Marks aE s'.fl base fr' g w:=by
 unfold QC at h;split at h;rotate_left;cases h;rename_i os a;simp only[eW,oQ]at h
 let ⟨h1,h2,h3⟩:=h
 let ⟨b,c⟩:=DC hs a
 have h2:=beq_iff'.1 h2;rw[bV,bV,bV]at h2;refine⟨os,fr'.df.drop (Nat.sub (cH fr'.df) (cH base.1.df)),by rw[<-b,XH],?_,l6 h1,c,?_⟩
 grind[bV]
 obtain h3|h3:=h3
 simp_all
 right
 unfold ajh at h3;split at h3;split at h3
 simp_all
 cases h3;cases h3
def Ko{ex:L Nat}(arF:∀k∈ex,k∈ds){QA:Sh}(hds:∀d∈ds,d<bM)(V2:∀b∈bs,b<s1.aE/\b∉ow)(acZ:s1.aE<=bM)(hlo:s.lo<=s1.aE)(how:∀o∈ow,s.lo<=o)(hgb:∀o b,g.bT o=Z b->o<s1.aE/\o∉ow)(hsh:Fy ds sh=W)(alA:s1.lo=s.lo)(alB:s1.fl=s.fl)
  {a':Act} {w':World} {al:L fe} {gb gh:Gh} {Cn:ck S} {r:bp S}
  (VZ:oN s.lo s.fl g w gh w') (hh:BA ex sh bs a' gb (cP ds ow bs fr s1).1 (cP ds ow bs fr s1).2 w' al gh Cn r)
  {B:ck S} {s2 s3:bp S} {g2 F:Gh} {a2:Act} {C:World} (p:eJ r gh w' s2 g2 C) (hf2:cU g2 (bL B) a2 C) (hfo:dw ds Cn B s2.dr r.aE) (hn2:B.n=Cn.n) (hmk:Marks s1.aE s.fl (cP ds ow bs fr s1) B g2 C)
  {x:gm S.A (lP QA)} {MR:L Nat} {vals:L Value} {BI:L fe} {bl2:L Nat} (f:HU QA bs a2 g2 s2 C x s3 MR F vals BI bl2)
  (hwr:UL s1.aE bs s3.wr=W) (akE:MR.all (λo=>Nl s1.aE o)=W) (hdr:s3.dr.all (λo=>Nl s1.aE o)=W) :
  ∃I,xz QA bs (cP ds ow bs fr s1).1 (cP ds ow bs fr s1).2 s g w x a2 I C vals BI bl2/\I.bx=F.bx:=by
 have alj:∀b∈bs,b<bM:=λb hb=>iS (V2 b hb).1 acZ;have aqK:(cP ds ow bs fr s1).2.aE=s1.aE:=rfl;have hlen:s1.aE<=r.aE:=aqK▸hh.aE;have ald:∀o∈s2.dr,s1.aE<=o:=λo ho=>by rw[kP]at hdr;exact gS (hdr o (f.dr▸ho))
 have Er:=f.alr.owned f.pr.iL;have ak5:r.fl=s.fl:=hh.fl.trans (show(cP ds ow bs fr s1).2.fl=s.fl from alB);have agI:r.lo=s.lo:=hh.lo.trans (show(cP ds ow bs fr s1).2.lo=s.lo from alA);have ak7:oN s.lo s.fl g w g2 C:=VZ.trans (ak5▸agI▸p.ext);have Zn:s2.fl=s.fl:=p.fl.trans ak5;have ak6:oN s.lo s.fl g w F C:=ak7.trans (Zn▸f.ext.ID s.lo);have hQ:∀o,dN s2.dr r.aE o=W->dN ow s1.aE o=W:=λo ho=>by
  simp only[dN,oQ,FR,qM]at ho ⊢;obtain ho|ho:=ho
  exact .inr (NI (ald o ho));have:=gS ho;exact .inr (NI (by omega))
 have hT:∀t v,aI g2 C t v->dK (dN ow s1.aE) t=J->aI (F.base (dN ow s1.aE)) C t v:=λt v ht hm=>(ht.ext f.ext p.rel.bx).on (F.gJ _) (λ_ _=>rfl) hm
 let ⟨os,d,e1,e2,aqY,K,DH⟩:=hmk
 have arI:qh (dN s2.dr r.aE) (cP ds ow bs fr s1).1.df d:=by
  let ⟨c,d',k1,k2⟩:=hfo.df
  have hl:=k2.len;rw[hh.OY]at hl k2;have hdd:d'=d:=by have h1:c++d'=os.map sZ.mark++d:=k1.symm.trans e1;exact(List.append_inj' h1 (by omega)).2
  rw[<-hdd];exact k2
 have hdb:=adB hQ (l:=fr.df) arI;have ale:=hf2.df;rw[show(bL B).df=(os.map sZ.mark).map mH++d.map mH from by show B.df.map mH=_;rw[e1,Ju]]at ale
 let ⟨m1,m2,akN,hd1,hd2⟩:=ale.split
 rw[List.map_map,show(mH∘sZ.mark:Nat->Df)=Df.mark from rfl]at hd1
 let ⟨bl,E,hm1⟩:=hd1.one
 rw[hdb]at hd2;have hd3:=adC hT (l:=fr.df) hd2;have htm:∀k t,(bL (cP ds ow bs fr s1).1).get k=Z t->∃v,a2.tmps[k]?=Z v/\aI (F.base (dN ow s1.aE)) C t v:=by
  intro k t hk;rw[cg,fT]at hk;obtain⟨v,hv,rfl⟩:=hk
  let ⟨h1,h2,h3⟩:=Bm hds hv
  have hgh:Cn.get k=Z v:=by
   rw[hh.get k (λhm=>h1 (arF k hm)) (λq hq hqk=>?_)];exact hv
   let ⟨qk,qp⟩:=q
   cases qp with|box cs=>rfl|hid cs=>rfl|one c=>unfold Fy at hsh;rw[kP]at hsh;have:=hsh _ hq;subst hqk;exact absurd (by simpa using this) h1
  obtain h4|h4:=hfo.tm k v h1 hgh
  let ⟨u,hu,hr⟩:=hf2.tm k (low v) (by rw[cg,h4];rfl)
  exact⟨u,hu,(hr.ext f.ext p.rel.bx).on (F.gJ _) (λ_ _=>rfl) (by rw[iu];exact h3)⟩;exfalso
  let ⟨o,T0,ho2⟩:=VD h4 h3
  have:=(l5 ho2).2;simp only[dN,oQ,FR,qM]at T0;obtain T0|T0:=T0
  have:=ald o T0;omega;have:=gS T0;omega
 have hp':HU QA bs {a2 with defers:=[]} g2 s2 C x s3 MR F vals BI bl2:=⟨f.rel,f.ext,f.pr,iW.tmps (a:=a2) (a':={a2 with defers:=[]}) rfl f.at_,f.alr,f.Iy,f.now,f.Yd,f.nbs,f.Uj,f.fl,f.lo,f.aE,f.uk,f.same,f.dr,f.ap,f.owb⟩;have hsz:a2.tmps.size=(cP ds ow bs fr s1).1.n:=hf2.size.trans (hn2.trans hh.n);have m:=Sa (fr:=fr) hds V2 acZ hlo how hgb alA alB VZ hh p hp' hwr akE hdr (j3:={(cP ds ow bs fr s1).1 with df:=[]}) ⟨hsz,.nil,htm⟩;obtain rfl|⟨oB,rest,alf,akM,arj,hflB⟩:=DH
 have Ru:bl=[]:=Ek (by have:=E.1;simpa using this.symm);subst Ru;subst hm1;exact⟨_,⟨m.rel,⟨hsz,by rw[akN];exact hd3,htm⟩,m.pr,f.at_,m.Iy,m.Yl,m.fresh,m.ap,m.ext,m.alo⟩,rfl⟩;have hmb:(aC (cP ds ow bs fr s1).2).ob.get oB=Z .Gl:=by rw[aJ,akM];rfl
 have A:∀b∈bl,∃o∈os,g2.bT o=Z b:=λb hb=>by
  obtain⟨i,hi,rfl⟩:=rQ hb;have P:i<os.length:=by have:=E.1;omega
  exact⟨os[i],NF P,E.2 i _ _ (iX P) (iX hi)⟩
 have Q:∀{o b:Nat},g2.bT o=Z b->bJ F o b:=λ{o b}hb=>⟨(f.rel.box o b (f.ext.bT o b hb)).1,.inl (f.ext.bT o b hb)⟩;have ac9:bl.Nodup:=by
  refine Vh.2 λi j hi hj hij heq=>?_;have hlen:=E.1;have P:i<os.length:=by omega
  have hj':j<os.length:=by omega
  have e1:=E.2 i _ _ (iX P) (iX hi);have e2:=E.2 j _ _ (iX hj') (iX hj);rw[<-heq]at e2;exact(Vh.1 aqY i j P hj' hij) (f.rel.j6 _ _ _ (Q e1) (Q e2))
 have akK:∀b∈bl,∀k,¬bJ (F.base (dN ow s1.aE)) k b:=λb hb k hO=>by
  let ⟨o,ho,z⟩:=A b hb
  let ⟨h1,h2⟩:=Gh.fO hO
  have:=f.rel.j6 k o b h2 (Q z);subst this;have:=(l5 h1).2;have:=(K k ho).1;omega
 let ⟨I,q1,q2,q3,q4,q5,q6,q7⟩:=m.rel.Pv hmb arj bl ac9 (λb hb=>by
  let ⟨o,ho,z⟩:=A b hb
  exact⟨(p.rel.box o b z).2.1,(f.rel.box o b (f.ext.bT o b z)).1,akK b hb,(K o ho).2 b z⟩)
 have hd4:eS (F.base (dN ow s1.aE)) C ((sZ.marks oB::rest).map mH) m2:=alf▸hd3;have hdf:eS I C ((cP ds ow bs fr s1).1.df.map mH) a2.defers:=by
  rw[alf,akN,hm1];cases hd4 with
  |cons k _=>cases k
  |marks _ ms hnm hms ht=>
  rw[<-wj,<-Ju];refine .marks oB (bl++ms) (List.nodup_append.2 ⟨ac9,hnm,λb hb c hc hbc=>?_⟩) (λb hb=>?_) (ht.imp (λt v ht=>ht.le q2) q2.bT)
  .subst hbc
   let ⟨n,c',hr⟩:=hms b hc
   cases hr with
   |sh _ _ _ _ sz _ hx=>
   obtain⟨fz,_,_,h,_⟩|⟨_,_,_,_,_,_,h,_⟩|⟨_,_,_,h,_⟩|h|⟨_,h1,h2,h3,_⟩:=(m.rel.arr oB b _ hx).2 _ hmb
   cases fz<;>cases h;cases h;cases h;cases h;exact akK b hb oB ⟨h3,.inr ⟨b,_,_,hx,h1,rfl,h2⟩⟩
  obtain hb|hb:=eX.1 hb
  exact⟨0,1,.sh _ _ _ _ 0 _ (q7 b hb)⟩
  let ⟨n,c,hr⟩:=hms b hb
  exact⟨n,c,hr.le q2⟩
 have hfresh:∀b∈bl,(∃o,s.fl<=o/\bJ g o b)\/w.heap.size<=b:=λb hb=>by
  let ⟨o,ho,z⟩:=A b hb
  exact ak6.own o b (by have:=(K o ho).1;omega) (Q z)
 refine⟨I,⟨q1,⟨hsz,hdf,λk t hk=>let ⟨v,hv,ht⟩:=htm k t hk;⟨v,hv,ht.le q2⟩⟩,q4▸m.pr,f.at_,⟨m.Iy.1,λj o b h1 h2=>by rw[q3];exact m.Iy.2 j o b h1 h2⟩,λo ho e=>?_,λa' ha b hb o hO=>?_,m.ap,⟨λo b hb=>?_,λo e y hl hy=>?_,λb hb=>?_,m.ext.size,m.ext.heap,λo b ho hO=>?_,λb hb=>?_,m.ext.os,m.ext.output⟩,m.alo⟩,q4⟩;rw[q5 o (λh=>by
  subst h;have:=ue (ow:=ow) (ds:=ds) (fr:=fr) (s1:=s1) alj o;rw[bD ho,akM]at this;cases this)]
 exact m.Yl o ho e;obtain hO|⟨_,R⟩:=q6 o b hO
 exact m.fresh a' ha b hb o hO
 let ⟨o1,T0,Zh⟩:=A b R
 let ⟨o2,ho2,V5⟩:=Er a' ha b hb
 have:=f.rel.j6 o1 o2 b (Q Zh) V5;subst this;rw[f.owb o1 ho2]at Zh;cases Zh;rw[q3];exact m.ext.bT o b hb;exact q2.arr o e y (m.ext.arr o e y hl hy);exact q2.bx b (m.ext.bx b hb);obtain hO|⟨_,R⟩:=q6 o b hO
 exact m.ext.own o b ho hO;exact hfresh b R;rw[q4]at hb;exact m.ext.oD b hb
theorem Ws{ex:L Nat}{k:Sh}{j3:ck S}(hs:aY g (aC s) w){q:Gh}{e:L Value}{l:L fe}{m:L Nat}{r:gm S.A (lP sh)}(c:HU sh bs a g s w r s1 ow q e l m)
  {a':Act} {w':World} {al:L fe} {gb n:Gh} {p:ck S} {f:bp S} (h:oN s.lo s.fl g w n w') (i:BA ex k bs a' gb j3 (cP ds ow bs fr s1).2 w' al n p f) :
  eJ s g w {f with wr:=s1.ob.jR (gI (dN ow s1.aE))++(bs++s1.wr),dr:=ow++s1.dr} n w':=by
 have j:∀b∈bs,b<bM:=λb t=>iS (c.Uj b t).2.1 hs.aE;refine⟨i.rel,h,i.fl.trans c.fl,i.lo.trans c.lo,?_,λo d=>?_,λo u d=>?_,λo d=>?_⟩;have:=i.aE;have v:(cP ds ow bs fr s1).2.aE=s1.aE:=rfl;have:=c.aE
 simp_all
 exact eV _ (eV _ (c.uk o d))
 .simp at d;have h1:f.ob.get o=(cP ds ow bs fr s1).2.ob.get o:=i.ob o (by show o<s1.aE;have:=c.aE;omega) d.2.1;rw[h1,ue j,bQ d.2.1,<-c.same o d.2.2];cases x:s1.ob.get o with
  |none=>rfl|some ob=>
   grind[oK,Tr.qW]
 exact eV _ (by rw[c.dr];exact d)
theorem Ph{ex:L Nat}(f:∀k∈ex,k∈ds){h:Sh}(hs:aY g (aC s) w)(m:∀d∈ds,d<bM){z:Gh}{b:L Value}{n:L fe}{p:L Nat}{A:gm S.A (lP sh)}(r:HU sh bs a g s w A s1 ow z b n p)(B:Fy ds h=W)
  {a':Act} {w':World} {al:L fe} {gb t:Gh} {e:ck S} {i:bp S} (j:oN s.lo s.fl g w t w') (l:BA ex h bs a' gb (cP ds ow bs fr s1).1 (cP ds ow bs fr s1).2 w' al t e i) :
  eJ s g w {i with wr:=s1.ob.jR (gI (dN ow s1.aE))++(bs++s1.wr),dr:=ow++s1.dr} t w'/\dw ds fr e (ow++s1.dr) s.aE/\e.n=fr.n:=by
 refine⟨Ws (fr:=fr) hs r j l,⟨λk v y C=>?_,?_⟩,l.n⟩
 .cases u:cN (dN ow s1.aE) v with
  |true=>exact .inr (ew (jb (λo x=>fS _ x) (by rw[r.aE];omega)) v u)
  |false=>
   left
   rw[l.get k (λu=>y (f k u)) (λq K E=>?_),Um m,bQ y,C]
   simp_all
   let ⟨P,F⟩:=q
   cases F with
   |box I=>rfl|hid I=>rfl|one c=>
    grind[Fy]
 rw[l.OY];exact(u0 (jb (λo x=>fS _ x) (by rw[r.aE];omega)) (λv=>rfl) fr.df).ok
end
theorem KW{g:Gh}{w:World}{fr:ck S}{a:Act}(hf:cU g (bL fr) a w):∀{rv:Rv}{vs:L (V S)},Xr fr rv=Z vs->∃vals,iW a (rv.map λp=>(p.1,Pk.one (.dat p.2))) vals/\PW (aI g w) (bA vs) vals
 |[],vs,h=>by simp only[Xr,gP]at h;subst h;exact⟨[],trivial,rfl,λj t v h=>by grind⟩
 |(k,c)::l,vs,h=>by
  simp[Xr]at h;split at h
  .rename_i v r h1 h2;simp at h;subst h
   let ⟨vals,h3,h4⟩:=KW hf h2
   let ⟨u,b,i⟩:=hf.tm k (low v) (by rw[cg,h1];rfl)
   refine⟨u::vals,⟨b,h3⟩,by simp[bA,lR,h4.1],λj t d e f=>?_⟩;cases j with|zero=>grind[bA]|succ j=>exact h4.2 j t d (by simpa[bA]using e) (by simpa using f)
  cases h
def wh{g:Gh}{w:World}{a:Act}:∀{rv:Rv}{r:gC S.A (FC rv)}{vals:L Value}{al:L fe}{I:Nat->Prop}{fr:ck S},jT S I w (FC rv) r vals al->(∀b,I b->g.bx b)->iW a (rv.map λp=>(p.1,Pk.one (.dat p.2))) vals->
  fr.n<=bM->cU g (bL fr) a w->cU g (bL (yE rv r fr)) a w/\(yE rv r fr).n=fr.n/\∀k,k∉rv.map (·.1)->(yE rv r fr).get k=fr.get k
 |[],r,vals,al,I,fr,_,_,_,_,f=>⟨f,rfl,λ_ _=>rfl⟩|(k,t)::rv,r,vals,al,I,fr,q,n,e,l,f=>by
  cases q with
  | @dat _ _ x h v z al s u=>
  let ⟨o,e⟩:=e
  have d:k<fr.n:=by have:=(XF.1 o).1;rw[f.size]at this;exact this
  have m:cU g (bL (fr.put k (.ty t x))) a w:=by refine⟨f.size,f.df,λj y c=>?_⟩;rw[cg,ck.j0 _ _ _ _ (iS d l)]at c;by_cases i:j=k;subst i;rw[bD rfl]at c;simp at c;subst c;exact⟨v,o,qD (s.le n)⟩;rw[bQ i]at c;exact f.tm j y (by rw[cg];exact c)
  let ⟨h1,h2,h3⟩:=wh (rv:=rv) (fr:=fr.put k (.ty t x)) u n e l m
  refine⟨h1,h2,λj c=>?_⟩;simp only[pN,fV,not_or]at c;rw[show yE ((k,t)::rv) (x,h) fr=yE rv h (fr.put k (.ty t x))from rfl,h3 j c.2,ck.j0 _ _ _ _ (iS d l),bQ c.1]
theorem zo{ω:Type}{Q:vA S->ck S->bp S->O ω}{fr:ck S}{s:bp S}{r:ω}:∀{l:L Nat}{i:Nat},i∈l->ab7 Q fr s l (acS l i)=Z r->Q (.ext i) fr s=Z r
 |[],i,a,_=>by cases a
 |[j],i,a,h=>by simp at a;subst a;exact h
 |j::c::l,i,a,h=>by
  simp only[acS]at h;cases b:Nq j i with
  |true=>rw[b]at h;have:=beq_iff'.1 b;subst this;exact h|false=>
   rw[b]at h;have d:j≠i:=λe=>by simp_all
   refine zo (l:=c::l) ?_ h
   grind
end
theorem FN{st:LoopState}{a:O Code}(h:KZ st a=W):st=.ready/\a=Y:=by
 unfold KZ at h
 grind
def Yf{st:LoopState}{a:O Code}{ex:vA S}(h:afV st a=Z ex):st≠.busy/\((a=Y/\ex=.rY)\/(∃i,a=Z (.exit i)/\ex=.ext i)\/(a=Z .ret/\ex=.ret)):=by unfold afV at h;split at h<;>simp_all
theorem RD{g:Gh}{w:World}{fr:ck S}{a:Act}(hf:cU g (bL fr) a w)(hn:fr.n<=bM)(l:L Nat):∀k t,(bL (OB l fr)).get k=Z t->∃v,a.tmps[k]?=Z v/\aI g w t v:=by
 have key:∀(l:L Nat)(t0:Tr (V S)),(∀k v,t0.get k=Z v->fr.get k=Z v)->∀k v,(l.foldl (λt k=>match fr.get k with|some v=>t.set aM k v|none=>t) t0).get k=Z v->fr.get k=Z v:=by
  intro l
  induction l with
  |nil=>grind|cons j l d=>
   intro t0 h;rw[NO];refine d _ λk v b=>?_;split at b;rename_i u e;have f:j<bM:=by
    have:(bL fr).get j=Z (low u):=by rw[cg,e];rfl
    obtain⟨x,i,_⟩:=hf.tm j _ this;have:=hf.size;have h2:=(XF.1 i).1;have h3:(bL fr).n=fr.n:=rfl;omega
   rw[Tr.aV _ _ _ _ f]at b
   grind
   grind
 intro k t b;rw[cg]at b;cases c:(OB l fr).get k with|none=>simp_all|some v=>rw[c]at b;have h1:=key l .nil (λk v h=>by simp[Tr.get_nil]at h) k v c;exact hf.tm k t (by rw[cg,h1];exact b)
theorem Nx{E:eM S}(hE:fu E){call:gj S}(wJ:gL E.T.E.P call)(n:Nat)(fid:FuncId)(rv:Rv){gv:Operand}{ps:Array Tmp}{q body:Code}{i:Nat}{ω:Type}{Q:vA S->ck S->bp S->O ω}{r:ω}{fr:ck S}{s:bp S}
  (h:zG E call n fid rv (.rangeFunc gv ps q body) i Q fr s=Z r) (hn:fr.n<=bM) {g:Gh} {a:Act} {w:World} (hf:cU g (bL fr) a w) (hs:aY g (aC s) w) :
  (Code.rangeFunc gv ps q body).wpIn (WR Y) 0 E.T.E.P (Ja (eR (.rangeFunc gv ps q body)++rv.map (·.1)) fr s g w Q r) a w:=by
 simp only[zG]at h;split at h;cases h;rename_i args hfa;obtain⟨hb,h1⟩|⟨_,h1⟩:=af h
 rotate_left;cases h1;clear h;simp only[eW]at hb;obtain⟨_,_,agN,z⟩:=hb;have z:s.aE+1<bM:=gS z;simp only[vU]at hfa;obtain⟨tf,htf,LJ⟩:=hfa;have Zc:=bU hf (cE htf);have m:=se LJ;unfold xX at m;split at m;rotate_left;cases m;rename_i f' first cap C
 simp only[gP,fC]at m;obtain⟨rfl,I⟩:=m;rw[C]at Zc;generalize hvf:a.eval gv=vf at Zc;cases Zc with
 |fn _ _ _ va vc l1 l2 r1 r2=>
 obtain⟨Aa,he1⟩:=hs.newObj (ob0:=.Ab) (x0:=.deferred (Z [])) (by show s.aE<bM;omega) .Ab;have ags:(eo (aC s) Ob.Ab).2=aC (dn s .Ab):=(g6 s .Ab).symm;rw[ags]at Aa;refine wpIn_rangeFunc λfn _=>?_
 let b:Loop:={state:=.ready,pending:=Y,fn,tmps:=a.tmps,params:=ps,assign:=q,body,defers:=w.heap.size}
 let lv:LpV S:=⟨.ready,Y,fid,OB (vD q++vD body) fr,ps.toList,q,body⟩
 have hf1:cU (g.dH (aC s).aE w.heap.size) (bL fr) a (w.alloc (.deferred (Z []))):=hf.ext he1 hs.bx;obtain⟨R,V0⟩:=Aa.newObj (ob0:=.lp (tM lv)) (x0:=.loop b) (by show s.aE+1<bM;exact z)
  (.lp _ b rfl rfl rfl rfl rfl hf1.size (RD hf1 hn _))
 have aqE:(eo (aC (dn s .Ab)) (Ob.lp (tM lv))).2=aC (dn (dn s .Ab) (.lp lv)):=(g6 _ (.lp lv)).symm;rw[aqE]at R;have A:(Instr.enterLoop fn a.tmps ps q body Y).run E.T.E.P w=.ok (w.heap.size+1,[{target:=.collected w.heap.size,args:=#[]}]) ((w.alloc (.deferred (Z []))).alloc (.loop b)):=run_enterLoop_outer _ _ _ _ _;generalize hW2:(w.alloc (.deferred (Z []))).alloc (.loop b)=W2 at R V0 A;generalize hg2:(g.dH (aC s).aE w.heap.size).dH (aC (dn s .Ab)).aE (w.alloc (.deferred (Z []))).heap.size=g2 at R V0;have alk:g2.bT s.aE=Z w.heap.size:=by rw[<-hg2];simp[Gh.dH,aC,dn]
 have F:g2.bT (s.aE+1)=Z (w.heap.size+1):=by rw[<-hg2];simp[Gh.dH,aC,dn]
 have he:Ext s.fl g w g2 W2:=he1.trans V0;have hall:PW (aI g2 W2) (bA args) (va++#[Value.func (.yield (w.heap.size+1)) #[] #[]]++vc).toList:=by rw[<-I];simp only[Vc];refine PW.append (PW.append ⟨by simpa using l1,λj x y h1 h2=>(r1 j x y h1 (by simpa using h2)).ext he hs.bx⟩ ⟨rfl,λj x y h1 h2=>?_⟩) ⟨by simpa using l2,λj x y h1 h2=>(r2 j x y h1 (by simpa using h2)).ext he hs.bx⟩;cases j with|zero=>simp only[bA,NG,gP]at h1 h2;subst h1;subst h2;exact .rP _ _ F|succ j=>grind
 obtain⟨Ow,hc⟩:=A4 hE wJ R h1 hall;refine⟨w.heap.size+1,[{target:=.collected w.heap.size,args:=#[]}],W2,{target:=.fn (.func f') vc,args:=va++#[Value.func (.yield (w.heap.size+1)) #[] #[]]},W2,f',va++#[Value.func (.yield (w.heap.size+1)) #[] #[]]++vc,W2,A,?_,λ_ _=>trivial,?_,λh=>by simp[Fence.wide]at h,RR.2 (hc.mono λe w' he'=>?_)⟩
 simp_all[rangeCall,resolve,Deferred.ofValue,run_bind,run_pure,andThen_ok,Act.eval]
 grind[invoke,xI]
 cases e with
 |panicked ch=>obtain⟨v,t,B,g',_,h1,_⟩:=he';cases h1
 |outgrown=>exact he'.elim|returned v=>
 obtain⟨t,B,g',ow,h1,_,f⟩:=he';dsimp only at h1;split at h1;rotate_left;cases h1;rename_i l ho;split at h1;rotate_left;cases h1;rename_i ex hox;obtain⟨hst,hpe⟩:=Yf hox;have u:=f.ext.bT _ _ F;have ho':(aC B).ob.get (s.aE+1)=Z (.lp (tM l)):=by rw[aJ,show B.ob.get (s.aE+1)=Z (.lp l)from ho];rfl
 obtain⟨x,hx,hr⟩:=(f.rel.box _ _ u).2.2 _ ho';cases hr with
 |lp _ L' q1 q2 q4 q5 q6 q8 q9=>
 have hfl:B.fl<=s.aE+1:=by
  have h0:B.fl=s.fl:=f.fl
  simp_all
 obtain⟨Rj,EZ⟩:=f.rel.setObj (w':=w'.putObj (w.heap.size+1) (.loop {L' with state:=.exhausted})) u ho' rfl hfl (x':=.loop {L' with state:=.exhausted}) (ob':=.lp (tM {l with st:=.exhausted})) (.lp _ _ rfl q2 q4 q5 q6 q8 q9)
  World.putObj_size (λb' hb'=>World.putObj_heap_other hb') (World.putObj_heap_same (f.rel.box _ _ u).2.1) rfl rfl
 have hfo:dw [] fr (dA ow fr) B.dr s.aE:=BV hn (dst:=Y) rfl f.owd s.aE ep;have key:∀e,Jd g' (w'.putObj (w.heap.size+1) (.loop {L' with state:=.exhausted})) ex e->Ja (eR (.rangeFunc gv ps q body)++rv.map (·.1)) fr s g w Q r e {a with defers:=[{target:=.collected w.heap.size,args:=#[]}]++a.defers} (w'.putObj (w.heap.size+1) (.loop {L' with state:=.exhausted})):=λe hx0=>by
  refine .inr ⟨ex,_,_,g',hx0,h1,tS ow fr,?_,?_,⟨λk v _ hk=>hfo.tm k v (λh=>by cases h) hk,?_⟩⟩;rotate_left;rotate_left;obtain⟨c,d,q1,q2⟩:=hfo.df;exact⟨_::c,d,by show _::(dA ow fr).df=_;rw[show(dA ow fr).df=c++d from q1];rfl,q2⟩;have hf2:cU g2 (bL fr) a W2:=hf.ext he hs.bx;have hf3:cU g' (bL (dA ow fr)) a w':=oc hf2 f;have hf4:=hf3.ext EZ f.rel.bx;exact⟨hf4.size,.cons (.mark _ _ (f.ext.bT _ _ alk)) hf4.df,hf4.tm⟩;have hn1:s.aE<bM:=by omega
  have hl1:=jy s (.Ab:vo S) hn1;have hl2:=jy (dn s (.Ab:vo S)) (.lp lv) z;have C:aC {B with ob:=B.ob.set aM (Ns s.aE) (.lp {l with st:=.exhausted})}={aC B with ob:=(aC B).ob.set aM (s.aE+1) (de (.lp {l with st:=.exhausted}))}:=eE B _ _ B.wr;refine⟨by rw[C];exact Rj,(he.ID s.lo).trans ((show oN s.lo s.fl g2 _ g' w' from f.ext).trans ?_),f.fl,f.lo,gk (by show s.aE<=s.aE+1+1;omega) f.aE,λo ho=>f.uk o ho,λo ho hno=>?_,λo ho=>f.Ht o ho⟩;have:=EZ.ID s.lo;rw[show(aC B).fl=s.fl from f.fl]at this;exact this;have e1:o≠Ns s.aE:=by omega
  show(B.ob.set aM (Ns s.aE) _).get o=_;rw[Tr.dD _ _ _ _ _ e1,f.same o (by show o<s.aE+1+1;omega) hno,hl2.same o (by show o<s.aE+1;omega) (λhm=>hno (f.uk o hm)),hl1.same o ho (λhm=>hno (f.uk o hm))]
 refine⟨l.vW,w'.putObj (w.heap.size+1) (.loop {L' with state:=.exhausted}),?_,?_⟩;have:=run_endLoop (P:=E.T.E.P) hx (by rw[q1];exact hst);rw[this,q2];rfl;obtain⟨h0,rfl⟩|⟨i,h0,rfl⟩|⟨h0,rfl⟩:=hpe<;>rw[h0]
 exact key _ .rY;exact wpIn_exit (key _ (.ext i));exact wpIn_ret (key _ .ret)
section
def sY(E:eM S)(call:gj S):Prop:=
 ∀(id:Nat)(ops:Array Oper){ω:Type}(kp:ck S->V S->bp S->O ω)(k:ck S->bp S->O ω)(r:ω)(fr:ck S)(s:bp S),
  ZR E fr s ops.toList (w6 ops.toList)=W->
  uT E call ops.toList (w6 ops.toList) (ops.toList.zipIdx.map λp=>(p.2,p.1)) kp k (Ns (Nat.mul 2 (cH ops.toList))) 0 fr s=Z r->fr.n<=bM->
  ∀{g:Gh}{a:Act}{w:World},cU g (bL fr) a w->aY g (aC s) w->∀{Q:Exit->Act->World->Prop},
  (∀fr' s' g' a' w',k fr' s'=Z r->fr'.n=fr.n->cU g' (bL fr') a' w'->eJ s g w s' g' w'->dw (ops.toList.filterMap (·.dst)) fr fr' s'.dr s.aE->Q .normal a' w')->
  (∀fr' t s' g' a' v w',kp fr' t s'=Z r->fr'.n=fr.n->cU g' (bL fr') a' w'->eJ s g w s' g' w'->dw (ops.toList.filterMap (·.dst)) fr fr' s'.dr s.aE->aI g' w' (low t) v->Q (.panic [{v,recovered:=J}]) a' w')->
  ∀rr:O Nat,(rr≠Y->Qm (.region id ops W)=W)->(Code.region id ops W).wpIn (WR rr) 0 E.T.E.P Q a w
theorem qO{s:bp S}:∀{cs:L Ck}{l:L (V S)}{x:gC S.A cs}{fz ow:L Nat},jS cs=W->gn s cs l=Z (x,fz,ow)->ow=[]
 |[],[],x,fz,ow,_,h=>by
  grind[gn]
 |.dat t::cs,v::l,x,fz,ow,a,h=>by
  simp[gn]at h;split at h;rename_i b;obtain⟨_,_,rfl⟩:=h;have:=qO (cs:=cs) (by simpa[jS]using a) b
  grind[pF]
  cases h
 |.own _::_,_,_,_,_,a,_=>by simp[jS]at a
 |.ku ..::_,_,_,_,_,a,_=>by simp[jS]at a
 |.nil _::_,_,_,_,_,a,_=>by simp[jS]at a
 |.ptr _::_,_,_,_,_,a,_=>by simp[jS]at a
 |[],_::_,_,_,_,_,h=>by simp[gn]at h
 |.dat _::_,[],_,_,_,_,h=>by simp[gn]at h
def CN:∀rv:Rv,jS (FC rv)=W
 |[]=>rfl|_::rv=>CN rv
def Lz(fr:ck S)(c:Operand)(b:Bool):(fr.tO c b).n=fr.n:=by unfold ck.tO;split;rename_i k;cases Nt k fr.n<;>rfl;rfl
variable {w:World}{fr:ck S}{a:Act}{c:Code}{b:Bool}{k:Nat}{rr:Option Nat}{P:Program}{Q:Exit->Act->World->Prop}
def GA{g:Gh}{c:Operand}(hn:fr.n<=bM)(hf:cU g (bL fr) a w)(i:a.eval c=.bool b):cU g (bL (fr.tO c b)) a w:=by
 unfold ck.tO;split
 .rename_i k;cases l:Nt k fr.n with
  |false=>exact hf|true=>
   have e:k<fr.n:=gS l;refine⟨hf.size,hf.df,λj t d=>?_⟩;simp at d;rw[cg,ck.j0 _ _ _ _ (iS e hn)]at d;by_cases f:j=k;subst f;rw[bD rfl]at d;simp at d;subst d;have h:j<a.tmps.size:=by rw[hf.size];exact e
   have:a.tmps[j]?=Z (.bool b):=by have:=i;simp[Act.eval,Array.getD_eq_getD_getElem?,uB h,NB]at this;rw[uB h,this]
   exact⟨_,this,.kb b⟩;rw[bQ f]at d;exact hf.tm j t (by rw[cg];exact d)
 exact hf
def TR(hn:fr.n<=bM)(c:Operand)(b:Bool)(dr:L Nat)(aE:Nat):dw (Uf c) fr (fr.tO c b) dr aE:=by
 unfold ck.tO;split
 .rename_i k;cases d:Nt k fr.n with|false=>exact dw.refl _ _ _ _|true=>have a:k<fr.n:=gS d;refine⟨λj v e f=>.inl ?_,yD.refl _ _⟩;simp;rw[ck.j0 _ _ _ _ (iS a hn),bQ (by simpa[Uf]using e)];exact f
 exact dw.refl _ _ _ _
theorem Wx{ω:Type}{e:Bool}{x y:O ω}{r:ω}(h:I6 e x y=Z r):y=Z r/\(e=W->x=Z r):=by
 unfold I6 at h
 grind
def qH(ds:L Nat):∀sh:Sh,Fy ds (Ql sh)=W
 |[]=>rfl|(_,.one _)::l=>qH ds l|(_,.box _)::l=>by
  have:=qH ds l
  simp_all[Ql,Fy]
 |(_,.hid _)::l=>by
  have:=qH ds l
  simp_all[Ql,Fy]
theorem kj{s:bp S}{fr:ck S}{k o r:Nat}(i:fr.get k=Z (.sh o r)):∀{sh:Sh}{ps:L Pk}{bs:L Nat}{vs:L (V S)}{nx:O Nat}{x:gm S.A ps}{fz ow f:L Nat},lP sh=ps->vQ fr sh bs=Z vs->eK s ps vs nx=Z (x,fz,ow,f)->k∈Q0 sh->o∈ow
 |[],_,_,_,_,_,_,_,_,_,_,_,d=>by simp[Q0]at d
 |(j,.one c)::sh,ps,bs,vs,nx,x,fz,ow,f,a,h1,h2,d=>by
  simp[vQ]at h1;split at h1;rotate_left;cases h1;rename_i p m g;simp at h1;subst h1
  replace a:Pk.one c::lP sh=ps:=a
  subst a;simp[eK]at h2;split at h2;rotate_left;cases h2;rename_i q h;obtain⟨_,_,rfl,_⟩:=h2;cases c with
  |dat t=>exact eV _ (kj i rfl g h d)|ku n j t=>exact eV _ (kj i rfl g h d)|nil e=>exact eV _ (kj i rfl g h d)|ptr t=>exact eV _ (kj i rfl g h d)|own e=>
   obtain rfl|d:=fV.1 d
   rw[i]at m;cases m;simp[pF]at q
   grind
   exact eV _ (kj i rfl g h d)
 |(j,.box l)::sh,ps,[],vs,nx,x,fz,ow,f,a,h1,h2,d=>by simp[vQ]at h1
 |(j,.box l)::sh,ps,b::bs,vs,nx,x,fz,ow,f,a,h1,h2,d=>by
  simp[vQ]at h1;split at h1;rotate_left;cases h1;rename_i g;simp at h1;subst h1
  replace a:Pk.box l::lP sh=ps:=a
  subst a;simp[eK]at h2;split at h2;rotate_left;cases h2;obtain⟨_,h2⟩|⟨_,h2⟩:=af h2
  rotate_left;cases h2;split at h2;rotate_left;cases h2;split at h2;rotate_left;cases h2;rename_i h;obtain⟨_,_,rfl,_⟩:=h2;exact eV _ (kj i rfl g h d)
 |(j,.hid l)::sh,ps,[],vs,nx,x,fz,ow,f,a,h1,h2,d=>by simp[vQ]at h1
 |(j,.hid l)::sh,ps,b::bs,vs,Y,x,fz,ow,f,a,h1,h2,d=>by
  replace a:Pk.hid l::lP sh=ps:=a
  subst a;cases vs<;>simp[eK]at h2
 |(j,.hid l)::sh,ps,b::bs,vs,Z u,x,fz,ow,f,a,h1,h2,d=>by
  simp[vQ]at h1
  replace a:Pk.hid l::lP sh=ps:=a
  subst a;obtain⟨_,h2⟩|⟨_,h2⟩:=af h2
  rotate_left;cases h2;split at h2;rotate_left;cases h2;split at h2;rotate_left;cases h2;rename_i h;obtain⟨_,_,rfl,_⟩:=h2;exact eV _ (kj i rfl h1 h d)
def od{ds:L Nat}{k:Nat}:∀{sh:Sh},k∈ZH ds sh->k∈Q0 sh
 |[],h=>h|(j,.one (.own e))::sh,h=>by
  simp only[ZH]at h;simp[Q0,fV];obtain a|a:=Bool.eq_false_or_eq_true (ds.contains j)
  rw[a]at h;exact .inr (od h);rw[a]at h;obtain rfl|h:=fV.1 h
  exact .inl rfl;exact .inr (od h)
 |(j,.one (.dat t))::sh,h=>od (sh:=sh) h|(j,.one (.ku ..))::sh,h=>od (sh:=sh) h|(j,.one (.nil _))::sh,h=>od (sh:=sh) h|(j,.one (.ptr _))::sh,h=>od (sh:=sh) h|(j,.box b)::sh,h=>od (sh:=sh) h|(j,.hid b)::sh,h=>od (sh:=sh) h
def Ye{s c:bp S}{sh:Sh}{bs ow:L Nat}{x:gm S.A (lP sh)}{o r:Nat}(h:qN sh bs fr s=Z (x,c,ow))(d:k∈Q0 sh)(e:fr.get k=Z (.sh o r)):o∈ow:=by
 unfold qN at h;split at h;cases h;rename_i a;split at h;cases h;rename_i b;split at h;cases h;obtain⟨_,h2⟩|⟨_,h2⟩:=af h
 obtain⟨_,_,rfl⟩:=h2;exact kj e rfl a b d;cases h2
def HW(rr:O Nat)(P:Program)(c:Code)(Q:Exit->Act->World->Prop)(a:Act)(w:World):Prop:=
 ∀(b:Frame)(k:L Item)(cs:L Frame),b.roundOf=rr->∃e a' w',Q e a' w'/\aeh rr P (lone (b.atR a (.code c::.inLoop c::k)) cs w) b k cs e a' w'
def KH(h:HW rr P c Q a w):(Code.loop c).wpIn (WR rr) 0 P Q a w:=λb k g f _ _=>
 let ⟨e,i,j,l,d⟩:=h b k g f
 ⟨e,i,j,l,.of_steps (gu.2 (.one stepR_loop)) d⟩
def uJ(h:c.wpIn (WR rr) 0 P (Exit.then (HW rr P c Q) Q) a w):HW rr P c Q a w:=by
 intro b k o i
 let ⟨e,j,m,g,d⟩:=h b (.inLoop c::k) o i trivial (Nr _)
 cases e with
 |normal=>
  let ⟨p,q,r,n,f⟩:=g b k o i
  exact⟨p,q,r,n,.of_steps (gu.2 ((gu.1 d).trans (.one stepR_inLoop))) f⟩
 |exit id=>exact⟨_,j,m,g,.pass (x:=.inLoop c) rfl (λ_ _=>.inl (by simp)) d⟩
 |goto l=>exact⟨_,j,m,g,.pass (x:=.inLoop c) rfl (λ_ _=>.inl (by simp)) d⟩
 |ret=>exact⟨_,j,m,g,.pass (x:=.inLoop c) rfl (λ_ _=>.inl (by simp)) d⟩
 |panic s=>exact⟨_,j,m,g,.pass (x:=.inLoop c) rfl (λ_ _=>.inl (by simp)) d⟩
 |outgrown=>exact⟨_,j,m,g,.pass (x:=.inLoop c) rfl (λ_ _=>.inl (by simp)) d⟩
def Q9(I:Act->World->Prop)(μ:Act->World->Nat)(round:∀a w,I a w->c.wpIn (WR rr) 0 P (Exit.then (λa' w'=>I a' w'/\μ a' w'<μ a w) Q) a w) :
  ∀(m:Nat)(a:Act)(w:World),μ a w<=m->I a w->HW rr P c Q a w:=by
 intro m
 induction m with
 |zero=>
  intro a w f d;refine uJ (wpIn_mono (round a w d) λe a' w' b=>?_);cases e with|normal=>have:=b.2;omega|_=>exact b
 |succ m g=>
  intro a w f d;refine uJ (wpIn_mono (round a w d) λe a' w' b=>?_);cases e with|normal=>exact g a' w' (by have:=b.2;omega) b.1|_=>exact b
def xK{a:Bool}(h:(a&&b)=W):a=W/\b=W:=zk.1 h
theorem Tl{id:Nat}{ops:Array Oper}{d:Bool}(h:Qm (.region id ops d)=W):∀o∈ops.toList,∀c,o.op≠.defer c:=by
 grind[Qm]
theorem Re{E:eM S}(hE:fu E)(rv:Rv){rr:O Nat}{b:Code}{ev:{ω:Type}->(vA S->ck S->bp S->O ω)->ck S->bp S->O ω}
  (hev:∀{ω:Type}{Q:vA S->ck S->bp S->O ω}{r:ω}{fr:ck S}{s:bp S},ev Q fr s=Z r->fr.n<=bM->s.lo<=s.aE->∀{g:Gh}{a:Act}{w:World},cU g (bL fr) a w->aY g (aC s) w->b.wpIn (WR rr) 0 E.T.E.P (Ja (eR b++rv.map (·.1)) fr s g w Q r) a w)
  {ω:Type} {sh:Sh} {pts:L Pt} {al:L (Nat×Nat)} {Q:vA S->ck S->bp S->O ω} {r:ω} {fr:ck S} {s:bp S} (h:YO E rv ev sh pts al (eR b++rv.map (·.1)) (wS (lG b)) Q fr s=Z r) (hn:fr.n<=bM) (hlo:s.lo<=s.aE) {g:Gh} {a:Act} {w:World} (hf:cU g (bL fr) a w) (hs:aY g (aC s) w) :
  b.wpIn (WR rr) 0 E.T.E.P (Ja (eR b++rv.map (·.1)) fr s g w Q r) a w:=by
 unfold YO at h;split at h;cases h;rename_i bs agE;split at h;cases h;rename_i x0 u ow hpk;obtain⟨hb,h2⟩|⟨_,h2⟩:=af h
 rotate_left;cases h2;clear h;rw[eW,eW]at hb
 let ⟨⟨JV,z⟩,Zo⟩:=hb
 rw[eW,eW]at z
 let ⟨z,Zs,agZ⟩:=z
 let ⟨o,n,c⟩:=fN h2
 clear h2;generalize hds:(eR b++rv.map (·.1))++(ZH (eR b++rv.map (·.1)) sh++al.map (·.1))=ds at *
 let ⟨bl0,Ru⟩:=tJ hf hs agE
 have LI:∀d∈ds,d<bM:=λd hd=>by rw[kP]at Zo;exact iS (gS (Zo d hd)) hn
 have V4:∀p∈al,p.1<bM:=λp hp=>LI _ (by grind);have V3:∀k∈al.map (·.1),k∈ds:=λk hk=>by grind
 let ⟨g1,Xd,DZ,bl1,i⟩:=kS hE.sg hf hs Ru hpk
 have Rr:=HJ (fr:=fr) hf hs LI i;have agu:u.aE<=bM:=i.rel.aE;have Zq:(cP ds ow bs fr u).1.n<=bM:=hn;have fix:∀{l:ck S},dw ds fr l (ow++u.dr) s.aE->dw (eR b++rv.map (·.1)) fr l (ow++u.dr) s.aE:=by
  intro l hfo;refine⟨λk v hk hv=>?_,hfo.df⟩;by_cases C:k∈ds
  right
  rw[<-hds]at C;obtain C|C:=eX.1 C
  grind
  obtain C|C:=eX.1 C
  unfold adr at z;rw[kP]at z;have h1:=z k C;split at h1;rename_i r' ho';rw[hv]at ho';cases ho';have:=Ye hpk (od C) hv;simp[cN,dN,this];cases h1;obtain⟨p,hp,rfl⟩:=ym.1 C;obtain⟨o1,r1,rfl,this⟩:=Pr agZ hp hv;simp[cN,dN,this];exact hfo.tm k v C hv
 have Zt:abn a w al:=xZ hf hs Zs;have hbase:xz sh bs (cP ds ow bs fr u).1 (cP ds ow bs fr u).2 s g w x0 a _ w Xd DZ bl1:=Rr;unfold FH at n;split at n;cases n;rename_i ag3 A Ov
 let ⟨gh,hh0,VZ⟩:=hbase.head Zq Ov
 have hh:=hh0.mV V4 Zt;generalize mV A al ag3=Cn at hh n;have arz:Cn.n=fr.n:=hh.n;have akR:A.lo<=A.aE:=by have h1:A.lo=s.lo:=hh.lo.trans i.lo;have h2:=hh.aE;have h3:(cP ds ow bs fr u).2.aE=u.aE:=rfl;have:=i.aE;omega
 have Zj:u.aE<=A.aE:=hh.aE;have sG:aY gh (aC {A with lo:=u.aE}) _:=⟨hh.rel.aE,hh.rel.ah,hh.rel.box,hh.rel.arr,hh.rel.bx,hh.rel.j6⟩;have Qo:A.lo=(cP ds ow bs fr u).2.lo:=hh.lo;refine wpIn_mono (hev n (by omega) Zj hh.fr sG) λe Pw m hq=>?_;obtain hF|⟨ex,Qp,s20,g2,h1,h2,h3,h4,h50,h60⟩:=hq
 exact hF.elim;have h5:=eJ.lower (s:=A) h50 (by have:=hh.lo.trans i.lo;have:=i.aE;omega);rw[<-Qo]at h2;dsimp only at h2;obtain⟨s2,MS⟩:∃s2:bp S,s2={s20 with lo:=A.lo}:=⟨_,rfl⟩;have h6:=h60;rw[show s20.dr=s2.dr by rw[MS]]at h6;rw[<-MS]at h2 h5;unfold QH at h2
 replace h6:dw ds Cn Qp s2.dr A.aE:=h6.mono (λk hk=>by grind) (λ_ h=>h)
 obtain⟨agO,h2⟩|⟨_,h2⟩:=af h2
 rotate_left;cases h2;have Rp:s2.fl=s.fl:=h5.fl.trans (hh.fl.trans i.fl);have hmk:∀{LL:Gh},(∀o b,g2.bT o=Z b->LL.bT o=Z b)->Marks u.aE s.fl (cP ds ow bs fr u) Qp LL m:=λ{LL}hq=>by have:=Ap h5.rel agO;rw[Rp]at this;exact this.mono h4 hq
 have next:∀{K:Sh}{y:gm S.A (lP K)}{P s3:bp S}{LL:Gh}{MR:L Nat},eJ A gh w P LL m->(∀o b,g2.bT o=Z b->LL.bT o=Z b)->cU LL (bL Qp) Pw m->dw ds Cn Qp P.dr A.aE->qN K bs Qp P=Z (y,s3,MR)->
   UL u.aE bs s3.wr=W->MR.all (λo=>Nl u.aE o)=W->s3.dr.all (λo=>Nl u.aE o)=W->
   ∃B f R BH,xz K bs (cP ds ow bs fr u).1 (cP ds ow bs fr u).2 s g w y Pw B m f R BH/\∀b,LL.bx b->B.bx b:=by
  intro K y P s3 LL MR k1 k0 k2 k3 k4 k5 k6 k7
  let ⟨g3,f,R,BH,hp2⟩:=kS hE.sg (bl0:=bl1) k2 k1.rel ⟨hbase.Iy.1,λj o b q1 q2=>k1.ext.bT o b (hh.le.bT o b (hbase.Iy.2 j o b q1 q2))⟩ k4
  let ⟨B,Ep,pZ⟩:=Ko V3 LI (λb hb=>⟨by have:=(i.Uj b hb).2.1;rw[i.aE];exact this,(i.Uj b hb).2.2.1⟩) agu (by rw[i.aE];exact hlo) (λo ho=>(i.Yd o ho).2.1) (λo b hb=>⟨by rw[i.aE];exact hs.lt hb,λhm=>by rw[i.owb o hm]at hb;cases hb⟩) JV i.lo i.fl VZ hh k1 k2 k3 h3 (hmk k0) hp2 k5 k6 k7
  exact⟨B,f,R,BH,Ep,λb hb=>by rw[pZ];exact hp2.ext.bx b hb⟩
 have leave:∀{K:Sh}{y:gm S.A (lP K)}{B:Gh}{f:L Value}{R:L fe}{BH:L Nat}{l:ck S}{F:bp S},Fy ds K=W->xz K bs (cP ds ow bs fr u).1 (cP ds ow bs fr u).2 s g w y Pw B m f R BH->ny K bs y (cP ds ow bs fr u).1 (cP ds ow bs fr u).2=Z (l,F)->
   ∃gy,cU gy (bL l) Pw m/\(∀b,B.bx b->gy.bx b)/\eJ s g w {F with wr:=u.ob.jR (gI (dN ow u.aE))++(bs++u.wr),dr:=ow++u.dr} gy m/\dw ds fr l (ow++u.dr) s.aE/\l.n=fr.n:=by
  intro K y B f R BH l F agt k1 k2
  let ⟨gy,k3,k4⟩:=k1.head Zq k2
  let ⟨k5,k6,k7⟩:=Ph (ex:=[]) (λ_ h=>by cases h) hs LI i agt k4 k3
  exact⟨gy,k3.fr,k3.le.bx,k5,k6,k7⟩
 cases h1 with
 |rY=>
  obtain⟨Zv,h2⟩|⟨_,h2⟩:=af h2
  rotate_left;cases h2;simp[vH]at h2;split at h2
  .rename_i y s3 MR I;obtain⟨hc,h2⟩|⟨_,h2⟩:=af h2
   rotate_left;cases h2;simp only[eW]at hc
   let ⟨B,f,R,BH,k1,_⟩:=next h5 (λ_ _ h=>h) h4 h6 I hc.1 hc.2.1 hc.2.2
   cases h2;simp only at c;split at c;cases c;rename_i l F VX
   let ⟨gy,l1,_,l2,l3,l4⟩:=leave JV k1 VX
   let ⟨m1,m2,m3,m4⟩:=mB (s:=F) l2.rel V4 (xZ h4 h5.rel Zv) l1
   exact .inr ⟨.rY,mV F al l,_,gy,.rY,c,m2.trans l4,m1,l2,fix ⟨λk v hk hv=>by rw[m4 k λhm=>hk (V3 k hm)];exact l3.tm k v hk hv,by rw[m3];exact l3.df⟩⟩
  cases h2
 |ext j=>
  obtain⟨hj,h2⟩|⟨_,h2⟩:=af h2
  rotate_left;cases h2;simp[vH]at h2;split at h2
  .rename_i y s3 MR I;obtain⟨hc,h2⟩|⟨_,h2⟩:=af h2
   rotate_left;cases h2;simp only[eW]at hc
   let ⟨B,f,R,BH,k1,_⟩:=next h5 (λ_ _ h=>h) h4 h6 I hc.1 hc.2.1 hc.2.2
   cases h2;simp only at c;split at c;cases c;rename_i l F VX
   let ⟨gy,l1,_,l2,l3,l4⟩:=leave JV k1 VX
   rw[eW]at hj;have hjm:j∈wS (lG b):=by grind
   let ⟨m1,m2,m3,m4⟩:=mB (s:=F) l2.rel V4 (xZ h4 h5.rel hj.2) l1
   exact .inr ⟨.ext j,mV F al l,_,gy,.ext j,zo hjm c,m2.trans l4,m1,l2,fix ⟨λk v hk hv=>by rw[m4 k λhm=>hk (V3 k hm)];exact l3.tm k v hk hv,by rw[m3];exact l3.df⟩⟩
  cases h2
 |ret=>
  simp only at h2;split at h2;cases h2;rename_i vs hvs;split at h2;rotate_left;cases h2;rename_i r' fz owr VV;split at h2;rotate_left;cases h2;rename_i P hfz;simp[vH]at h2;split at h2
  .rename_i y s3 MR I;obtain⟨hc,h2⟩|⟨_,h2⟩:=af h2
   rotate_left;cases h2;simp only[eW]at hc
   let ⟨aiY,zB,pY⟩:=KW h4 hvs
   let ⟨p1,p2,p3⟩:=gq hE.sg h5.rel VV pY
   let ⟨g3,Rj,EZ,Ro⟩:=eF fz h5.rel (dz hE.sg _ hfz) p1
   have agA:owr=[]:=qO (CN rv) VV
   let ⟨alr,sG,_⟩:=p3 g3 (aC P) fz Rj EZ Ro (λo ho=>ho) (λo ho=>by simp_all)
   let ⟨f1,f2,f3,f4,f5,f6,f7⟩:=eL hfz
   have wK:eJ s2 g2 m P g3 m:=⟨Rj,EZ.ID _,f1,f2,Dq f3.symm,f4,λo _ ho=>f5 o ho,λo ho=>by grind⟩;have hf3:cU g3 (bL Qp) Pw m:=h4.ext EZ h5.rel.bx
   let ⟨B,f,R,BH,k1,k2⟩:=next (h5.trans wK) EZ.bT hf3 (by grind) I hc.1 hc.2.1 hc.2.2
   cases h2;simp only at c;split at c;cases c;rename_i l F VX
   let ⟨gy,l1,l0,l2,l3,l4⟩:=leave (qH ds sh) k1 VX
   let ⟨m1,m2,m3⟩:=wh (g:=gy) (w:=m) (a:=Pw) (fr:=l) sG (λb hb=>l0 b (k2 b hb)) zB (by omega) l1
   have hdf:∀(rv:Rv)(r:gC S.A (FC rv))(fr:ck S),(yE rv r fr).df=fr.df:=by
    intro rv
    induction rv with|nil=>intro _ _;rfl|cons q rv ih=>intro r fr;let ⟨k,t⟩:=q;exact ih _ _
   refine .inr ⟨.ret,_,_,gy,.ret,c,m2.trans l4,m1,l2,⟨λk v hk hv=>?_,by rw[hdf];exact l3.df⟩⟩;rw[m3 k (λhm=>hk (eV _ hm))];exact(fix l3).tm k v hk hv
  cases h2
 |iJ t v hv=>
  obtain⟨hpn,h2⟩|⟨_,h2⟩:=af h2
  rotate_left;cases h2;split at h2;rotate_left;cases h2;rename_i r' fz owr VV;split at h2;rotate_left;cases h2;rename_i P hfz;simp[vH]at h2;split at h2;rotate_left;cases h2;rename_i I;obtain⟨hc,h2⟩|⟨_,h2⟩:=af h2
  rotate_left;cases h2;simp only[eW]at hc;have pY:PW (aI g2 m) (bA [t]) [v]:=⟨rfl,λj t' v' q1 q2=>by
   grind[bA]⟩
  let ⟨p1,p2,p3⟩:=gq hE.sg h5.rel VV pY
  let ⟨g3,Rj,EZ,Ro⟩:=eF fz h5.rel (dz hE.sg _ hfz) p1
  have agA:owr=[]:=qO (cs:=[.dat S.pt]) rfl VV
  let ⟨alr,sG,_⟩:=p3 g3 (aC P) fz Rj EZ Ro (λo ho=>ho) (λo ho=>by grind)
  let ⟨f1,f2,f3,f4,f5,f6,f7⟩:=eL hfz
  have wK:eJ s2 g2 m P g3 m:=⟨Rj,EZ.ID _,f1,f2,Dq f3.symm,f4,λo _ ho=>f5 o ho,λo ho=>by grind⟩;have hf3:cU g3 (bL Qp) Pw m:=h4.ext EZ h5.rel.bx
  let ⟨B,f,R,BH,k1,k2⟩:=next (h5.trans wK) EZ.bT hf3 (by grind) I hc.1 hc.2.1 hc.2.2
  cases h2;simp only at c;obtain⟨_,c⟩|⟨_,c⟩:=af c
  rotate_left;cases c;split at c;cases c;rename_i l F VX
  let ⟨gy,l1,l0,l2,l3,l4⟩:=leave (qH ds sh) k1 VX
  refine .inr ⟨.iJ (.ty S.pt r'.1),l,_,gy,.iJ _ v ?_,c,l4,l1,l2,fix l3⟩;cases sG with|@dat _ _ x h v vs al hd hr=>exact qD (hd.le λb hb=>l0 b (k2 b hb))
theorem qt{E:eM S}(hE:fu E){call:gj S}(wJ:gL E.T.E.P call)(alc:sY E call)(n:Nat)(fid:FuncId)(rv:Rv){rr:O Nat}:∀(c:Code)(i:Nat){ω:Type}{Q:vA S->ck S->bp S->O ω}{r:ω}{fr:ck S}{s:bp S},
  zG E call n fid rv c i Q fr s=Z r->(rr≠Y->Qm c=W)->fr.n<=bM->s.lo<=s.aE->∀{g:Gh}{a:Act}{w:World},cU g (bL fr) a w->aY g (aC s) w->c.wpIn (WR rr) 0 E.T.E.P (Ja (eR c++rv.map (·.1)) fr s g w Q r) a w:=by
 intro c
 induction c with
 |region id ops draw=>
  intro i ω Q r fr s h A hn hlo g a w hf hs;cases draw with
  |true=>
   obtain⟨hb,h⟩|⟨_,h⟩:=af h
   rotate_left;cases h;refine alc id ops _ _ r fr s hb h hn hf hs (λl s' g' K I h1 h2 h3 h4 h5=>.inr ⟨.rY,l,s',g',.rY,h1,h2,h3,h4,h5.mono (λk B=>fS _ B) (λ_ h=>h)⟩)
    (λl t s' g' K v I h1 h2 h3 h4 h6 h5=>.inr ⟨.iJ t,l,s',g',.iJ t v h5,h1,h2,h3,h4,h6.mono (λk B=>fS _ B) (λ_ h=>h)⟩) rr A
  |false=>
   refine Xv ?_;have:=DL hE wJ (Q:=Ja (eR (.region id ops J)++rv.map (·.1)) fr s g w Q r) (rr:=rr) (λhr=>Tl (A hr)) ops.toList 0 rfl hn h hf hs
    (λl s' g' K I h1 h2 h3 h4 h5=>.inr ⟨.rY,l,s',g',.rY,h1,h2,h3,h4,h5.mono (λk B=>fS _ B) (λ_ h=>h)⟩)
    (λl t s' g' K v I h1 h2 h3 h4 h6 h5=>.inr ⟨.iJ t,l,s',g',.iJ t v h5,h1,h2,h3,h4,h6.mono (λk B=>fS _ B) (λ_ h=>h)⟩)
   grind[List.range_eq_range']
 |seq x y ihx ihy=>
  intro i ω Q r fr s h A hn hlo g a w hf hs;have hds:∀k∈(eR x++rv.map (·.1))++(eR y++rv.map (·.1)),k∈eR (.seq x y)++rv.map (·.1):=by
   grind[eR]
  refine wpIn_seq (wpIn_mono (ihx i h (λhr=>(xK (A hr)).1) hn hlo hf hs) λe K I hq=>?_);obtain hF|⟨ex,l,s',g',h1,h2,h3,h4,h5,h6⟩:=hq
  exact hF.elim;cases h1 with
  |rY=>have:=ihy i h2 (λhr=>(xK (A hr)).2) (by omega) (by rw[h5.lo];exact gk hlo h5.aE) h4 h5.rel;exact wpIn_mono this λe a w hq=>(Ja.mono h3 h5 h6 hq).ds hds
  |ext j=>exact .inr ⟨_,l,s',g',.ext j,h2,h3,h4,h5,h6.mono (λk B=>hds k (fS _ B)) (λ_ h=>h)⟩|ret=>exact .inr ⟨_,l,s',g',.ret,h2,h3,h4,h5,h6.mono (λk B=>hds k (fS _ B)) (λ_ h=>h)⟩|iJ t v hv=>exact .inr ⟨_,l,s',g',.iJ t v hv,h2,h3,h4,h5,h6.mono (λk B=>hds k (fS _ B)) (λ_ h=>h)⟩
 |cond c x y ihx ihy=>
  intro i ω Q r fr s h A hn hlo g a w hf hs;have cnd:∀{ω:Type}{Q:vA S->ck S->bp S->O ω}{r:ω}{fr:ck S}{s:bp S},Ue c (zG E call n fid rv x i) (zG E call n fid rv y i) Q fr s=Z r->fr.n<=bM->s.lo<=s.aE->∀{g:Gh}{a:Act}{w:World},cU g (bL fr) a w->aY g (aC s) w->
    (Code.cond c x y).wpIn (WR rr) 0 E.T.E.P (Ja (eR (.cond c x y)++rv.map (·.1)) fr s g w Q r) a w:=by
   clear h hn hlo hf hs;intro ω Q r fr s h hn hlo g a w hf hs;have hx:∀k∈eR x++rv.map (·.1),k∈eR (.cond c x y)++rv.map (·.1):=by
    grind[eR]
   have hy:∀k∈eR y++rv.map (·.1),k∈eR (.cond c x y)++rv.map (·.1):=by
    grind[eR]
   have R:∀k∈Uf c,k∈eR (.cond c x y)++rv.map (·.1):=by
    grind[eR]
   have tru:a.eval c=.bool W->zG E call n fid rv x i Q (fr.tO c W) s=Z r->x.wpIn (WR rr) 0 E.T.E.P (Ja (eR (.cond c x y)++rv.map (·.1)) fr s g w Q r) a w:=λhv h=>
    wpIn_mono (ihx i h (λhr=>(xK (A hr)).1) (by rw[Lz];exact hn) hlo (GA hn hf hv) hs) λe a w hq=>(Ja.mono (Lz _ _ _) (eJ.refl hs) (TR hn c W _ _) hq).ds λk B=>(eX.1 B).elim (R k) (hx k)
   have fls:a.eval c=.bool J->zG E call n fid rv y i Q (fr.tO c J) s=Z r->y.wpIn (WR rr) 0 E.T.E.P (Ja (eR (.cond c x y)++rv.map (·.1)) fr s g w Q r) a w:=λhv h=>
    wpIn_mono (ihy i h (λhr=>(xK (A hr)).2) (by rw[Lz];exact hn) hlo (GA hn hf hv) hs) λe a w hq=>(Ja.mono (Lz _ _ _) (eJ.refl hs) (TR hn c J _ _) hq).ds λk B=>(eX.1 B).elim (R k) (hy k)
   unfold Ue at h;split at h;rename_i R;have:=bU hf (cE R);generalize hv:a.eval c=v at this;cases this;exact wpIn_cond_true hv (wpIn_mono (ihx i h (λhr=>(xK (A hr)).1) hn hlo hf hs) λe a w hq=>hq.ds hx);rename_i R;have:=bU hf (cE R);generalize hv:a.eval c=v at this;cases this;exact wpIn_cond_false hv (wpIn_mono (ihy i h (λhr=>(xK (A hr)).2) hn hlo hf hs) λe a w hq=>hq.ds hy)
   .rename_i e R;have:=bU hf (cE R);generalize hv:a.eval c=v at this
    let ⟨h2,h1⟩:=Wx h
    cases this with
    |ub _ b hb=>
     simp_all[wpIn_cond_split]
   rename_i t _ _ _ R;split at h;rename_i b hb
   let ⟨p,e,hp⟩:=mK hb
   have hv:=jv e hp (bU hf (cE R))
   grind[wpIn_cond_split,tq]
   cases h;cases h
  grind[zG,Re]
 |block j b ih=>
  intro i ω Q r fr s h A hn hlo g a w hf hs;refine wpIn_block (wpIn_mono (ih j h A hn hlo hf hs) λe K I hq=>?_);obtain hF|⟨ex,l,s',g',h1,h2,h3,h4,h5,h6⟩:=hq
  exact hF.elim;cases h1 with|rY=>exact .inr ⟨_,l,s',g',.rY,h2,h3,h4,h5,h6⟩|ext k=>simp[OI]at h2;simp[Exit.inBlock];split at h2;rename_i hji;rw[bD (beq_iff'.1 hji)];exact .inr ⟨_,l,s',g',.rY,h2,h3,h4,h5,h6⟩;rw[bQ (λe=>by simp_all)];exact .inr ⟨_,l,s',g',.ext k,h2,h3,h4,h5,h6⟩|ret=>exact .inr ⟨_,l,s',g',.ret,h2,h3,h4,h5,h6⟩|iJ t v hv=>exact .inr ⟨_,l,s',g',.iJ t v hv,h2,h3,h4,h5,h6⟩
 |loop b ih=>
  intro i ω Q r fr s h A hn hlo g a w hf hs;simp[zG]at h;split at h;cases h;rename_i sh pts al pl hsh;refine KH ?_;clear hsh
  induction pl generalizing fr s g a w with
  |succ pl ihp=>
   refine uJ (wpIn_mono (ih i h A hn hlo hf hs) λe K I hq=>?_);obtain hF|⟨ex,l,s',g',h1,h2,h3,h4,h5,h6⟩:=hq
   exact hF.elim;have hds:∀k∈eR b++rv.map (·.1),k∈eR (.loop b)++rv.map (·.1):=λk B=>B;cases h1 with
   |rY=>
    intro b1 k1 cs1 agw;have ihq:=ihp (fr:=l) (s:=s') (g:=g') (a:=K) (w:=I) (h:=h2) (hn:=by omega) (hlo:=by rw[h5.lo];exact gk hlo h5.aE) (hf:=h4) (hs:=h5.rel)
    let ⟨e,a2,w2,hq,LK⟩:=ihq b1 k1 cs1 agw
    refine⟨e,a2,w2,?_,LK⟩;exact(Ja.mono h3 h5 h6 hq).ds λk B=>(eX.1 B).elim (hds k) id
   |ext j=>exact .inr ⟨_,l,s',g',.ext j,h2,h3,h4,h5,h6⟩|ret=>exact .inr ⟨_,l,s',g',.ret,h2,h3,h4,h5,h6⟩|iJ t v hv=>exact .inr ⟨_,l,s',g',.iJ t v hv,h2,h3,h4,h5,h6⟩
  |zero=>
  simp[X8]at h
  suffices main:∀{fr:ck S}{s:bp S}{g:Gh}{a:Act}{w:World},Yy E n rv (zG E call n fid rv b i) sh pts al (eR b++rv.map (·.1)) (wS (lG b)) Q fr s=Z r->fr.n<=bM->s.lo<=s.aE->cU g (bL fr) a w->aY g (aC s) w->HW rr E.T.E.P b (Ja (eR (.loop b)++rv.map (·.1)) fr s g w Q r) a w by
   obtain⟨_,h⟩|⟨_,h⟩:=af h
   rotate_left
   simp_all
   obtain⟨hnb,h⟩|⟨_,h⟩:=af h
   rotate_left;cases h;have hnb:s.aE<bM:=gS hnb;have hg:∀k,(dn s .Gl).ob.get k=if k=s.aE then Z .Gl else s.ob.get k:=λk=>Tr.aV _ _ _ _ hnb
   have Aa:aY g (aC (dn s .Gl)) w:=by
    refine⟨hnb,λo ho=>hs.ah o (Nat.le_of_succ_le ho),λo b hb=>?_,λo e x hx=>?_,hs.bx,hs.j6⟩
    let ⟨k1,k2,k3⟩:=hs.box o b hb
    refine⟨k1,k2,λob mR=>k3 ob ?_⟩;have:=hs.lt hb;rw[aJ,hg,bQ (by have h:o<s.aE:=this;omega)]at mR;rw[aJ];exact mR
    let ⟨k1,k2⟩:=hs.arr o e x hx
    refine⟨k1,λob mR=>k2 ob ?_⟩;have:=hs.lt' hx;rw[aJ,hg,bQ (by have h:o<s.aE:=this;omega)]at mR;rw[aJ];exact mR
   have wK:eJ s g w (dn s .Gl) g w:=by refine⟨Aa,oN.refl _ _ _ _,rfl,rfl,Dn _,λ_ h=>h,λo ho _=>?_,λ_ h=>h⟩;rw[hg,bQ (by omega)]
   intro b1 k1 cs1 agw
   let ⟨e,a2,w2,hq,LK⟩:=main (fr:={fr with df:=.marks s.aE::fr.df}) (s:=dn s .Gl) h hn (Nat.le_succ_of_le hlo) ⟨hf.size,.marks s.aE [] .nil (λb hb=>by cases hb) hf.df,hf.tm⟩ Aa b1 k1 cs1 agw
   refine⟨e,a2,w2,?_,LK⟩;exact(Ja.mono (ds:=[]) (fr:=fr) (tR:={fr with df:=.marks s.aE::fr.df}) rfl wK ⟨λk v _ B=>.inl B,[.marks s.aE],fr.df,rfl,.refl _ _⟩ hq).ds λk B=>B
  clear h hn hlo hf hs;intro fr s g a w h hn hlo hf hs;unfold Yy at h;split at h;cases h;rename_i bs agE;split at h;cases h;rename_i x0 s1 ow hpk;obtain⟨hb,h2⟩|⟨_,h2⟩:=af h
  rotate_left;cases h2;clear h;rw[eW,eW]at hb
  let ⟨⟨JV,JY⟩,Zo⟩:=hb
  rw[eW,eW]at JY
  let ⟨JY,Zs,agZ⟩:=JY
  let ⟨o,akY,u⟩:=fN h2
  clear h2;generalize hds:(eR b++rv.map (·.1))++(ZH (eR b++rv.map (·.1)) sh++al.map (·.1))=ds at *
  let ⟨bl0,Ru⟩:=tJ hf hs agE
  have LI:∀d∈ds,d<bM:=λd hd=>by rw[kP]at Zo;exact iS (gS (Zo d hd)) hn
  have V4:∀p∈al,p.1<bM:=λp hp=>LI _ (by grind);have V3:∀k∈al.map (·.1),k∈ds:=λk B=>by grind
  let ⟨g1,Xd,DZ,bl1,C⟩:=kS hE.sg hf hs Ru hpk
  have Rr:=HJ (fr:=fr) hf hs LI C;have agu:s1.aE<=bM:=C.rel.aE;have Zq:(cP ds ow bs fr s1).1.n<=bM:=hn;have fix:∀{P:ck S},dw ds fr P (ow++s1.dr) s.aE->dw (eR (.loop b)++rv.map (·.1)) fr P (ow++s1.dr) s.aE:=by
   intro P hfo;refine⟨λk v B hv=>?_,hfo.df⟩;by_cases yw:k∈ds
   right
   rw[<-hds]at yw;obtain yw|yw:=eX.1 yw
   exact absurd yw B;obtain yw|yw:=eX.1 yw
   unfold adr at JY;rw[kP]at JY;have h1:=JY k yw;split at h1;rename_i o' r' ho';rw[hv]at ho';cases ho';have:=Ye hpk (od yw) hv;simp[cN,dN,this];cases h1;obtain⟨p,hp,rfl⟩:=ym.1 yw;obtain⟨o1,r1,rfl,this⟩:=Pr agZ hp hv;simp[cN,dN,this];exact hfo.tm k v yw hv
  let Inv (K:Act) (I:World) (m:Nat):Prop:=abn K I al/\∃x gb vals als bl,iter (FH rv (zG E call n fid rv b i) sh bs s1.aE (wS (lG b)) (cP ds ow bs fr s1) E.pn al) m x=Z o/\xz sh bs (cP ds ow bs fr s1).1 (cP ds ow bs fr s1).2 s g w x K gb I vals als bl
  have Zl:∀(K:Act)(I:World),∃m,(∃k,Inv K I k)->Inv K I m/\∀k,Inv K I k->m<=k:=by intro K I;by_cases hex:∃k,Inv K I k;obtain⟨m,hm,hmin⟩:=VG (λk=>Inv K I k) hex;exact⟨m,λ_=>⟨hm,hmin⟩⟩;exact⟨0,λh=>absurd h hex⟩
  obtain⟨f,hM⟩:∃f:Act->World->Nat,∀K I,(∃k,Inv K I k)->Inv K I (f K I)/\∀k,Inv K I k->f K I<=k:=
   ⟨λK I=>Classical.choose (Zl K I),λK I=>Classical.choose_spec (Zl K I)⟩
  refine Q9 (λK I=>∃k,Inv K I k) f ?_ _ a w (eO _) ⟨n,xZ hf hs Zs,x0,_,Xd,DZ,bl1,akY,Rr⟩;intro K I hI
  let ⟨⟨Zt,x,gb,vals,als,bl,hit,hbase⟩,hmin⟩:=hM K I hI
  let ⟨m,hm,o',GM,DH⟩:=VR hit
  unfold FH at GM;split at GM;cases GM;rename_i ag3 zc Ov
  let ⟨gh,hh0,VZ⟩:=hbase.head Zq Ov
  have hh:=hh0.mV V4 Zt;generalize mV zc al ag3=Cn at hh GM;have arz:Cn.n=fr.n:=hh.n;have akR:zc.lo<=zc.aE:=by have h1:zc.lo=s.lo:=hh.lo.trans C.lo;have h2:=hh.aE;have h3:(cP ds ow bs fr s1).2.aE=s1.aE:=rfl;have:=C.aE;omega
  have Zj:s1.aE<=zc.aE:=hh.aE;have sG:aY gh (aC {zc with lo:=s1.aE}) _:=⟨hh.rel.aE,hh.rel.ah,hh.rel.box,hh.rel.arr,hh.rel.bx,hh.rel.j6⟩;have Qo:zc.lo=(cP ds ow bs fr s1).2.lo:=hh.lo;refine wpIn_mono (ih i GM A (by omega) Zj hh.fr sG) λe Pw F hq=>?_;obtain hF|⟨ex,Qp,s20,g2,h1,h2,h3,h4,h50,h60⟩:=hq
  exact hF.elim;have h5:=eJ.lower (s:=zc) h50 (by have:=hh.lo.trans C.lo;have:=C.aE;omega);rw[<-Qo]at h2;dsimp only at h2;obtain⟨s2,MS⟩:∃s2:bp S,s2={s20 with lo:=zc.lo}:=⟨_,rfl⟩;have h6:=h60;rw[show s20.dr=s2.dr by rw[MS]]at h6;rw[<-MS]at h2 h5;unfold QH at h2
  replace h6:dw ds Cn Qp s2.dr zc.aE:=h6.mono (λk B=>by grind) (λ_ h=>h)
  obtain⟨agO,h2⟩|⟨_,h2⟩:=af h2
  rotate_left;cases h2;have Rp:s2.fl=s.fl:=h5.fl.trans (hh.fl.trans C.fl);have hmk:∀{LL:Gh},(∀o b,g2.bT o=Z b->LL.bT o=Z b)->Marks s1.aE s.fl (cP ds ow bs fr s1) Qp LL F:=λ{LL}hq=>by have:=Ap h5.rel agO;rw[Rp]at this;exact this.mono h4 hq
  have next:∀{QA:Sh}{y:gm S.A (lP QA)}{s2' s3:bp S}{LL:Gh}{MR:L Nat},eJ zc gh I s2' LL F->(∀o b,g2.bT o=Z b->LL.bT o=Z b)->cU LL (bL Qp) Pw F->dw ds Cn Qp s2'.dr zc.aE->qN QA bs Qp s2'=Z (y,s3,MR)->
    UL s1.aE bs s3.wr=W->MR.all (λo=>Nl s1.aE o)=W->s3.dr.all (λo=>Nl s1.aE o)=W->
    ∃V8 z vK BH,xz QA bs (cP ds ow bs fr s1).1 (cP ds ow bs fr s1).2 s g w y Pw V8 F z vK BH/\∀b,LL.bx b->V8.bx b:=by
   intro QA y s2' s3 LL MR k1 k0 k2 k3 k4 k5 k6 k7
   let ⟨g3,z,vK,BH,hp2⟩:=kS hE.sg (bl0:=bl) k2 k1.rel ⟨hbase.Iy.1,λj o b q1 q2=>k1.ext.bT o b (hh.le.bT o b (hbase.Iy.2 j o b q1 q2))⟩ k4
   let ⟨V8,Ep,pZ⟩:=Ko V3 LI (λb hb=>⟨by have:=(C.Uj b hb).2.1;rw[C.aE];exact this,(C.Uj b hb).2.2.1⟩) agu (by rw[C.aE];exact hlo) (λo ho=>(C.Yd o ho).2.1) (λo b hb=>⟨by rw[C.aE];exact hs.lt hb,λhm=>by rw[C.owb o hm]at hb;cases hb⟩) JV C.lo C.fl VZ hh k1 k2 k3 h3 (hmk k0) hp2 k5 k6 k7
   exact⟨V8,z,vK,BH,Ep,λb hb=>by rw[pZ];exact hp2.ext.bx b hb⟩
  have leave:∀{QA:Sh}{y:gm S.A (lP QA)}{V8:Gh}{z:L Value}{vK:L fe}{BH:L Nat}{P:ck S}{sty:bp S},Fy ds QA=W->xz QA bs (cP ds ow bs fr s1).1 (cP ds ow bs fr s1).2 s g w y Pw V8 F z vK BH->ny QA bs y (cP ds ow bs fr s1).1 (cP ds ow bs fr s1).2=Z (P,sty)->
    ∃gy,cU gy (bL P) Pw F/\(∀b,V8.bx b->gy.bx b)/\eJ s g w {sty with wr:=s1.ob.jR (gI (dN ow s1.aE))++(bs++s1.wr),dr:=ow++s1.dr} gy F/\dw ds fr P (ow++s1.dr) s.aE/\P.n=fr.n:=by
   intro QA y V8 z vK BH P sty agt k1 k2
   let ⟨gy,k3,k4⟩:=k1.head Zq k2
   let ⟨k5,k6,k7⟩:=Ph (ex:=[]) (λ_ h=>by cases h) hs LI C agt k4 k3
   exact⟨gy,k3.fr,k3.le.bx,k5,k6,k7⟩
  cases h1 with
  |rY=>
   obtain⟨Zv,h2⟩|⟨_,h2⟩:=af h2
   rotate_left;cases h2;simp[vH]at h2;split at h2
   .rename_i y s3 MR Rk;obtain⟨R,h2⟩|⟨_,h2⟩:=af h2
    rotate_left;cases h2;simp only[eW]at R
    let ⟨V8,z,vK,BH,k1,_⟩:=next h5 (λ_ _ h=>h) h4 h6 Rk R.1 R.2.1 R.2.2
    cases h2;obtain⟨y',hy',ac5⟩|⟨rfl,hno⟩:=DH
    cases hy';have hIy:Inv Pw F m:=⟨xZ h4 h5.rel Zv,y,V8,z,vK,BH,ac5,k1⟩;refine⟨⟨m,hIy⟩,?_⟩;have:=(hM Pw F ⟨m,hIy⟩).2 m hIy;omega
    grind
   cases h2
  |ext j=>
   obtain⟨hj,h2⟩|⟨_,h2⟩:=af h2
   rotate_left;cases h2;simp[vH]at h2;split at h2
   .rename_i y s3 MR Rk;obtain⟨R,h2⟩|⟨_,h2⟩:=af h2
    rotate_left;cases h2;simp only[eW]at R
    let ⟨V8,z,vK,BH,k1,_⟩:=next h5 (λ_ _ h=>h) h4 h6 Rk R.1 R.2.1 R.2.2
    cases h2;obtain⟨y',hy',ac5⟩|⟨rfl,hno⟩:=DH
    cases hy';simp only at u;split at u;cases u;rename_i P sty VX
    let ⟨gy,l1,_,l2,l3,l4⟩:=leave JV k1 VX
    rw[eW]at hj;have hjm:j∈wS (lG b):=by grind
    let ⟨m1,m2,m3,m4⟩:=mB (s:=sty) l2.rel V4 (xZ h4 h5.rel hj.2) l1
    exact .inr ⟨.ext j,mV sty al P,_,gy,.ext j,zo hjm u,m2.trans l4,m1,l2,fix ⟨λk v B hv=>by rw[m4 k λhm=>B (V3 k hm)];exact l3.tm k v B hv,by rw[m3];exact l3.df⟩⟩
   cases h2
  |ret=>
   simp only at h2;split at h2;cases h2;rename_i vs hvs;split at h2;rotate_left;cases h2;rename_i r' fz owr VV;split at h2;rotate_left;cases h2;rename_i s2' hfz;simp[vH]at h2;split at h2
   .rename_i y s3 MR Rk;obtain⟨R,h2⟩|⟨_,h2⟩:=af h2
    rotate_left;cases h2;simp only[eW]at R
    let ⟨aiY,zB,pY⟩:=KW h4 hvs
    let ⟨p1,p2,p3⟩:=gq hE.sg h5.rel VV pY
    let ⟨g3,Rj,EZ,Ro⟩:=eF fz h5.rel (dz hE.sg _ hfz) p1
    have agA:owr=[]:=qO (CN rv) VV
    let ⟨alr,sG,_⟩:=p3 g3 (aC s2') fz Rj EZ Ro (λo ho=>ho) (λo ho=>by grind)
    let ⟨f1,f2,f3,f4,f5,f6,f7⟩:=eL hfz
    have wK:eJ s2 g2 F s2' g3 F:=⟨Rj,EZ.ID _,f1,f2,Dq f3.symm,f4,λo _ ho=>f5 o ho,λo ho=>by grind⟩;have hf3:cU g3 (bL Qp) Pw F:=h4.ext EZ h5.rel.bx
    let ⟨V8,z,vK,BH,k1,k2⟩:=next (h5.trans wK) EZ.bT hf3 (by grind) Rk R.1 R.2.1 R.2.2
    cases h2;obtain⟨y',hy',ac5⟩|⟨rfl,hno⟩:=DH
    cases hy';simp only at u;split at u;cases u;rename_i P sty VX
    let ⟨gy,l1,l0,l2,l3,l4⟩:=leave (qH ds sh) k1 VX
    let ⟨m1,m2,m3⟩:=wh (g:=gy) (w:=F) (a:=Pw) (fr:=P) sG (λb hb=>l0 b (k2 b hb)) zB (by omega) l1
    have hdf:∀(rv:Rv)(r:gC S.A (FC rv))(fr:ck S),(yE rv r fr).df=fr.df:=by
     intro rv
     induction rv with|nil=>intro _ _;rfl|cons q rv ih=>intro r fr;let ⟨k,t⟩:=q;exact ih _ _
    refine .inr ⟨.ret,_,_,gy,.ret,u,m2.trans l4,m1,l2,⟨λk v B hv=>?_,by rw[hdf];exact l3.df⟩⟩;rw[m3 k (λhm=>B (eV _ hm))];exact(fix l3).tm k v B hv
   cases h2
  |iJ t v hv=>
   obtain⟨hpn,h2⟩|⟨_,h2⟩:=af h2
   rotate_left;cases h2;split at h2;rotate_left;cases h2;rename_i r' fz owr VV;split at h2;rotate_left;cases h2;rename_i s2' hfz;simp[vH]at h2;split at h2;rotate_left;cases h2;rename_i Rk;obtain⟨R,h2⟩|⟨_,h2⟩:=af h2
   rotate_left;cases h2;simp only[eW]at R;have pY:PW (aI g2 F) (bA [t]) [v]:=⟨rfl,λj t' v' q1 q2=>by
    grind[bA]⟩
   let ⟨p1,p2,p3⟩:=gq hE.sg h5.rel VV pY
   let ⟨g3,Rj,EZ,Ro⟩:=eF fz h5.rel (dz hE.sg _ hfz) p1
   have agA:owr=[]:=qO (cs:=[.dat S.pt]) rfl VV
   let ⟨alr,sG,_⟩:=p3 g3 (aC s2') fz Rj EZ Ro (λo ho=>ho) (λo ho=>by grind)
   let ⟨f1,f2,f3,f4,f5,f6,f7⟩:=eL hfz
   have wK:eJ s2 g2 F s2' g3 F:=⟨Rj,EZ.ID _,f1,f2,Dq f3.symm,f4,λo _ ho=>f5 o ho,λo ho=>by grind⟩;have hf3:cU g3 (bL Qp) Pw F:=h4.ext EZ h5.rel.bx
   let ⟨V8,z,vK,BH,k1,k2⟩:=next (h5.trans wK) EZ.bT hf3 (by grind) Rk R.1 R.2.1 R.2.2
   cases h2;obtain⟨y',hy',ac5⟩|⟨rfl,hno⟩:=DH
   cases hy'
   .obtain ⟨_,u⟩|⟨_,u⟩:=af u
    rotate_left;cases u;split at u;cases u;rename_i P sty VX
    let ⟨gy,l1,l0,l2,l3,l4⟩:=leave (qH ds sh) k1 VX
    refine .inr ⟨.iJ (.ty S.pt r'.1),P,_,gy,.iJ _ v ?_,u,l4,l1,l2,fix l3⟩;cases sG with|@dat _ _ x h v vs al hd hr=>exact qD (hd.le λb hb=>l0 b (k2 b hb))
 |exit j=>intro i ω Q r fr s h A hn hlo g a w hf hs;exact wpIn_exit (.inr ⟨_,fr,s,g,.ext j,h,rfl,hf,eJ.refl hs,dw.refl _ _ _ _⟩)
 |ret=>intro i ω Q r fr s h A hn hlo g a w hf hs;exact wpIn_ret (.inr ⟨_,fr,s,g,.ret,h,rfl,hf,eJ.refl hs,dw.refl _ _ _ _⟩)
 |skip=>intro i ω Q r fr s h A hn hlo g a w hf hs;exact wpIn_skip (.inr ⟨_,fr,s,g,.rY,h,rfl,hf,eJ.refl hs,dw.refl _ _ _ _⟩)
 |label j=>intro i ω Q r fr s h A hn hlo g a w hf hs;exact wpIn_label (.inr ⟨_,fr,s,g,.rY,h,rfl,hf,eJ.refl hs,dw.refl _ _ _ _⟩)
 |scope b ih=>
  intro i ω Q r fr s h A hn hlo g a w hf hs;have hr0:rr=Y:=by
   grind[Qm]
  subst hr0;refine wpIn_wide.2 (wp_scope_straight (wp_mono (wpIn_wide.1 (ih i h (λh=>absurd rfl h) hn hlo hf hs)) λe K I hq=>?_));obtain hF|⟨ex,l,s',g',h1,h2⟩:=hq
  exact hF.elim;cases h1 with|rY=>exact .inr ⟨_,l,s',g',.rY,h2⟩|ext j=>exact .inr ⟨_,l,s',g',.ext j,h2⟩|ret=>exact .inr ⟨_,l,s',g',.ret,h2⟩|iJ t v hv=>exact .inr ⟨_,l,s',g',.iJ t v hv,h2⟩
 |rangeFunc gv ps asg body _ _=>
  grind[Qm,Nx]
 |_=>intro i ω Q r fr s h;simp[zG]at h
end
section
def N7:∀t:T,dK (λ_=>J) t=J:=by
 intro t
 induction t using T.rec (motive_2:=λl=>jz (λ_=>J) l=J)with|fn f a b d g=>simp[dK,d,g]|dj t v e=>simp[dK,e]|agg i e=>simp[dK,e]|gR i e=>simp[dK,e]|gd c v e=>simp[dK,e]|nil=>rfl|cons a l d h=>simp[jz,d,h]|_=>simp[dK]
theorem uy(b:fq S){E:gi}(c:Sq S E){s:bp S}{fr:ck S}:∀{l:L ResultVar}{vs:L (V S)},lQ E s fr l=Z vs->∃p,mU E.E (aC s) (bL fr) l=Z (p,bA vs)/\p
 |[],vs,h=>by simp only[lQ,gP]at h;subst h;exact⟨True,rfl,trivial⟩
 |.tmp t::l,vs,h=>by
  simp[lQ]at h;split at h;rename_i x r h1 h2;simp at h
  let ⟨p,e,d⟩:=uy b c h2
  exact⟨p,by grind[mU,cg,bA],d⟩;cases h
 |.cell a t::l,vs,h=>by
  simp[lQ]at h;split at h;rename_i f m;split at h;rename_i g h2;obtain⟨i,h⟩|⟨_,h⟩:=af h
  simp at h;obtain⟨rfl,q,n,j⟩:=JM b (λu k=>c.row _ _ _ f k) g i
  let ⟨p,e,d⟩:=uy b c h2
  exact⟨q/\p,by grind[mU,cg,bA],j,d⟩;cases h;cases h;cases h
theorem Yx:∀l:L (V S),low (Ej l)=afC (bA l)
 |[]=>rfl|[_]=>rfl|_::_::_=>rfl
variable {s s' s0:bp S}{g g' g0:Gh}{w w' w0:World}{E:eM S}{call:gj S}{m:Nat}{st:Bool->List Frame}
def eJ.ID(hs:aY g (aC s) w)(h:eJ {s with lo:=s.aE} g w s' g' w'):cS [] s g w {s' with lo:=s.lo} g' w':=by have d:j4 g.bx w w':=λb c=>h.ext.heap b (hs.bx b c) (λo _ f=>f.1 c);refine⟨⟨h.rel.aE,h.rel.ah,h.rel.box,h.rel.arr,h.rel.bx,h.rel.j6⟩,⟨λo b e=>h.ext.bT o b e,λo e x _ k=>h.ext.arr o e x (hs.lt' k) k,h.ext.bx,h.ext.size,h.ext.heap,h.ext.own,h.ext.oD,h.ext.os,h.ext.output⟩,h.fl,rfl,h.aE,h.uk,h.same,λt v i _=>?_,λo a=>(by cases a),h.Ht,λo a=>(by cases a)⟩;exact i.on (p:=λ_=>J) ⟨λo b _ e=>h.ext.bT o b e,λo e x _ k=>h.ext.arr o e x (hs.lt' k) k,h.ext.bx⟩ d (N7 t)
theorem yJ{E:eM S}(b:fu E){g:Gh}{w:World}{fr:ck S}{s:bp S}{a:Act}(hf:cU g (bL fr) a w)(hs:aY g (aC s) w){fn:Func}{l:L (V S)}(h:lQ E.T s fr fn.results.toList=Z l) :
  ∃v,(results fn a.tmps).run E.T.E.P w=.ok v w/\aI g w (low (Ej l)) v:=by
 let ⟨p,e,c⟩:=uy b.sg b.ty h
 let ⟨v,d,f⟩:=Nn b.US hf hs e c
 grind[Yx]
def cS.trans{s s' b:bp S}{g g' c:Gh}{w w' d:World}(h:cS [] s g w s' g' w')(k:cS [] s' g' w' b c d):cS [] s g w b c d where
 rel:=k.rel
 ext:=h.ext.trans (h.fl▸h.lo▸k.ext)
 fl:=k.fl.trans h.fl
 lo:=k.lo.trans h.lo
 aE:=gk h.aE k.aE
 uk:=λo a=>k.uk o (h.uk o a)
 same:=λo f a=>(k.same o (iS f h.aE) a).trans (h.same o f λe=>a (k.uk o e))
 tr:=λt v i e=>k.tr t v (h.tr t v i e) e
 oww:=λo a=>by cases a
 Ht:=λo a=>k.Ht o (h.Ht o a)
 owd:=λo a=>by cases a
def UR(g:Gh)(w:World):O (V S)->FrameMode->Prop
 |none,u=>u=.returning|some t,u=>∃v,u=.panicking [{v,recovered:=J}]/\aI g w (low t) v
structure ae4(g:Gh)(s:bp S)(w:World)(pv:Option (V S))(st:Bool->List Frame)(vp:Value):Prop where
 rel:∀g' s' w',eJ s g w s' g' w'->aI g' w' (low (ai2 pv)) vp
 rcv:(pv=Y/\recoverD (st J)=Y/\vp=.nilIface)\/(pv.isSome=W/\recoverD (st J)=Z (vp,st W))
def QRV(s:bp S)(g:Gh)(w:World)(m:Nat)(st:Bool->L Frame){ω:Type}(Q:Bool->vA S->ck S->bp S->O ω)(r:ω)(e:Exit)(a:Act)(cs:L Frame)(w':World):Prop:=
 False\/∃b ex fr' s' g',cs=st b/\Jd g' w' ex e/\Q b ex fr' s'=Z r/\fr'.n=m/\cU g' (bL fr') a w'/\eJ s g w s' g' w'
theorem YP{o:Oper}(h:isRec o=W):o.guard=Y/\∃c,o.op=.call c/\c.callee=.builtin .recover:=by
 grind[isRec]
def ur(l:fu E)(b:gL E.T.E.P call)(d:sY E call)(n:Nat)(j:FuncId)(rv:Rv)(hlo:s0.lo<=s0.aE)(t:m<=bM)(f:Bool)
  (c:Code) (i:Nat) {ω:Type} {Q:Bool->vA S->ck S->bp S->O ω} {r:ω} {fr:ck S} {s:bp S} (h:zG E call n j rv c i (Q f) fr s=Z r) (hn:fr.n=m) {g:Gh} {a:Act} {w:World} (hs:eJ s0 g0 w0 s g w) (hf:cU g (bL fr) a w) :
  c.wpS E.T.E.P (QRV s0 g0 w0 m st Q r) a (st f) w:=by
 refine wpS_of_wp (wp_mono (wpIn_wide.1 (qt (rr:=Y) l b d n j rv c i h (λh=>absurd rfl h) (by omega) ?_ hf hs.rel)) λe u w' o=>?_);have:=hs.aE;rw[hs.lo];omega;obtain p|⟨q,k,s',g',h1,h2,h3,h4,h5,h6⟩:=o
 exact p.elim;exact .inr ⟨f,q,k,s',g',rfl,h1,h2,h3.trans hn,h4,hs.trans h5⟩
def We(hE:fu E)(f:gL E.T.E.P call)(p:sY E call)(n:Nat)(pv:O (V S))(A:FuncId)(rv:Rv)(hlo:s0.lo<=s0.aE)(hm:m<=bM){vp:Value}
  (K:ae4 g0 s0 w0 pv st vp):∀(c:Code)(i:Nat){ω:Type}{Q:Bool->vA S->ck S->bp S->O ω}{r:ω}{fr:ck S}{s:bp S},evR E call n pv A rv c i Q fr s=Z r->fr.n=m->
  ∀{g:Gh}{a:Act}{w:World},eJ s0 g0 w0 s g w->cU g (bL fr) a w->c.wpS E.T.E.P (QRV s0 g0 w0 m st Q r) a (st J) w:=by
 intro c
 induction c with
 |seq x y ihx ihy=>
  intro i ω Q r fr s h hn g a w B hf;refine wpS_seq λb k hb hr=>?_
  let ⟨e,a',cs',w',hq,z⟩:=ihx i h hn B hf b k hb hr
  refine⟨e,a',cs',w',?_,z⟩;obtain hF|⟨d,ex,u,s',g',h0,h1,h2,h3,h4,h5⟩:=hq
  exact hF.elim;cases h1 with|rY=>subst h0;exact ur hE f p n A rv hlo hm d y i h2 h3 h5 h4|ext j=>exact .inr ⟨d,_,u,s',g',h0,.ext j,h2,h3,h4,h5⟩|ret=>exact .inr ⟨d,_,u,s',g',h0,.ret,h2,h3,h4,h5⟩|iJ t v hv=>exact .inr ⟨d,_,u,s',g',h0,.iJ t v hv,h2,h3,h4,h5⟩
 |region id q draw=>
  intro i ω Q r fr s h hn g a w B hf;cases draw with
  |true=>exact ur hE f p n A rv hlo hm J _ i h hn B hf|false=>
   simp[evR]at h;split at h;rotate_left;cases h;rename_i o l C;obtain⟨hr,h2⟩|⟨_,h2⟩:=af h
   rotate_left;exact ur hE f p n A rv hlo hm J _ i h2 hn B hf;obtain⟨hd,h3⟩|⟨_,h3⟩:=af h2
   rotate_left;cases h3
   let ⟨hg,c,hop,LJ⟩:=YP hr
   rw[<-C]at h3;have ho:q[0]?=Z o:=by have:=eu (λl=>l[0]?) C;simpa using this
   have hsz:q.size=l.length+1:=by have:=eu List.length C;simpa using this
   have hw:Region.wanted o (yielded q a.tmps)=W:=by simp[Region.wanted,hg]
   have R:(execOp a.eval o).run E.T.E.P w=.ok .recover w:=by simp[execOp,hop,resolve,LJ,run_bind,run_pure,andThen_ok,invoke];simp[builtin]
   have sG:=K.rel _ _ _ B
   let ⟨k1,k2⟩:=uC hf hd (by omega) sG
   have key:∃d,d=pv.isSome/\recoverD (st J)=(if d then Z (vp,st W)else Y)/\(d=J->vp=.nilIface):=by
    obtain⟨e1,e2,e3⟩|⟨e1,e2⟩:=K.rcv
    exact⟨J,by rw[e1];rfl,by simpa using e2,λ_=>e3⟩;exact⟨W,e1.symm,by simpa using e2,λh=>by cases h⟩
   let ⟨d,aqO,hrd,Rn⟩:=key
   rw[<-aqO]at h3;have hwp:xk Y E.T.E.P q (λe a' w'=>QRV s0 g0 w0 m st Q r e a' (st d) w') (List.range' 1 l.length) (a.put o.dst vp) w:=by
    refine DL hE f (rr:=Y) (λh=>absurd rfl h) l 1 (by rw[C];rfl) (by rw[k2];omega) h3 k1 B.rel (λu s' g' a' w' q1 q2 q3 q4 _=>.inr ⟨d,.rY,u,s',g',rfl,.rY,q1,by omega,q3,B.trans q4⟩)
     (λu t s' g' a' v w' q1 q2 q3 q4 _ q5=>.inr ⟨d,.iJ t,u,s',g',rfl,.iJ t v q5,q1,by omega,q3,B.trans q4⟩)
   intro b k hb hro;have F:List.range q.size=0::List.range' 1 l.length:=by rw[List.range_eq_range',hsz,List.range'_succ]
   have hgo:=stepG_op (P:=E.T.E.P) (b:=b) (k:=k) (cs:=st J) (w:=w) (rest:=List.range' 1 l.length) ho hw;have arD:∀v,(b.at a (.inRegion q (0::List.range' 1 l.length)::k)).finish v=b.at (a.put o.dst v) (.inRegion q (List.range' 1 l.length)::k):=by intro v;rw[Frame.finish_at,ho];rfl
   have hk:(b.at a (.inRegion q (0::List.range' 1 l.length)::k)).kind=.deferred:=hb;have I:=tryRecover_deferred hk (st J)
   let ⟨e,a',w',hq,aln⟩:=nN _ _ _ hwp b k (st d) hro
   have z:=(arrivesIn_iff (λ_ _=>stepsIn_wide) hro).1 aln;rw[Frame.atR_of_none hro]at z;refine⟨e,a',st d,w',hq,.of_steps (.one step_region) ?_⟩;rw[F];refine .of_steps (.one (step_lone_go ?_)) z;rw[hgo,<-arD];simp[Frame.at]at I ⊢;rw[hrd]at I;cases d with|true=>simp[stepG.apply,R,I]|false=>have:=Rn rfl;subst this;simp[stepG.apply,R,I]
 |_=>intro i ω Q r fr s h hn g a w B hf;exact ur hE f p n A rv hlo hm J _ i h hn B hf
def Xb:FrameMode->Value
 |.panicking (p::_)=>p.v|_=>.nilIface
def afB:FrameMode->FrameMode
 |.panicking (p::_)=>.panicking [{v:=p.v,recovered:=W}]|m=>m
theorem OM{E:eM S}(hE:fu E){call:gj S}(Q:gL E.T.E.P call)(R:sY E call)(n:Nat){q:O (V S)}{d:sZ S}{s:bp S}{ω:Type}{k:Bool->bp S->O ω}{r:ω}(h:T9 E call n q d s k=Z r)
  {g:Gh} {w:World} (hs:aY g (aC s) w) {e:Deferred} (hd:xw g w (mH d) e) {u:FrameMode} (l:UR g w q u) :
  u≠.run/\((∃b w',e.target=.collected b/\(Instr.takeDeferred b).run E.T.E.P w=.ok [] w'/\∃s',k J s'=Z r/\UR g w' q u/\cS [] s g w s' g w')\/∃fv cap f args,e.target=.fn fv cap/\(invoke e.target e.args).run E.T.E.P w=.ok (.enter f args) w/\CallsD E.T.E.P f args u w λ
   |.returned _,I,w'=>∃a s' g',k a s'=Z r/\UR g' w' (bif a then Y else q) (settle I)/\cS [] s g w s' g' w'|.panicked _,_,_=>False|.outgrown,_,_=>False):=by
 have hrun:u≠.run:=by cases q with|none=>rw[show u=.returning from l];simp|some t=>obtain⟨v,rfl,_⟩:=l;simp
 refine⟨hrun,?_⟩;unfold T9 at h;split at h;rotate_left
 .rename_i o
  left
  cases hd with
  |mark _ b hb=>
  split at h;rotate_left;cases h;rename_i ho;obtain⟨hfl,h2⟩|⟨_,h2⟩:=af h
  rotate_left;cases h2;rw[eW]at hfl;have ho':(aC s).ob.get o=Z .Ab:=by rw[aJ,ho];rfl
  let ⟨x,hx,hr⟩:=(hs.box o b hb).2.2 _ ho'
  cases hr with
  |Ab=>
  let ⟨h3,he⟩:=hs.an6 (w':=w.putObj b (.deferred Y)) hb ho' rfl (gS hfl.1) World.putObj_size (λb' hb'=>World.putObj_heap_other hb') rfl rfl
  have hlt:o<bM:=gS hfl.2;have K:o+1<2 ^ aM:=by grind[aM,bM]
  have p:cS [] s g w {s with ob:=s.ob.del aM o,wr:=o::s.wr} g (w.putObj b (.deferred Y)):=by
   refine cS.lz hs (h3.ZA rfl λk=>?_) he rfl rfl (eO _) ⟨λ_ h=>hJ _ h,λk _ hk=>?_,rfl⟩;show(Tr.map de (s.ob.del aM o)).get k=((aC s).ob.del aM o).get k;rw[Tr.get_map,Tr.r6 _ _ _ _ K,Tr.r6 _ _ _ _ K,aJ];split<;>rfl
   simp_all[Tr.r6]
  refine⟨b,_,rfl,run_takeDeferred hx,_,h2,?_,p⟩;cases q with
  |none=>exact l|some t=>
   let ⟨v,l,ht⟩:=l
   exact⟨v,l,p.tr _ _ ht (mD _)⟩
 cases hd;cases h
 right
 split at h;cases h;rename_i z LJ;split at h;cases h;rename_i fn hfn;split at h;cases h;rename_i c hc;obtain⟨hb,h2⟩|⟨_,h2⟩:=af h
 rotate_left;cases h2;clear h;rw[zk]at hb;have i:=se LJ;unfold xX at i;split at i;rotate_left;cases i;rename_i f' first cap On
 simp only[gP,fC]at i;obtain⟨rfl,F⟩:=i;cases hd with
 |call _ _ fvn xa xc A h3 h4 h5=>
 rw[On]at h3;cases h3 with
 |fn _ _ _ _ _ l1 l2 r1 r2=>
 have hfs:=hE.US.T4 _ _ hfn;have Ow:mu E.T.E.P f':=⟨fn,hfs,by rw[hc];rfl,hE.name _ _ hfn⟩;refine⟨_,_,f',xa++A++xc,rfl,?_,?_⟩
 grind[invoke,xI]
 have pY:PW (aI g w) (bA z) (xa++A++xc).toList:=by rw[<-F];simp only[Vc];exact PW.append (PW.append ⟨by simpa using l1,λj x y h1 h2=>r1 j x y h1 (by simpa using h2)⟩ ⟨by simpa using h4,λj x y h1 h2=>h5 j x y h1 (by simpa using h2)⟩) ⟨by simpa using l2,λj x y h1 h2=>r2 j x y h1 (by simpa using h2)⟩
 have Ep:z.length<=fn.ntmps:=by have:=gS hb.1;rwa [bV]at this
 have pZ:fn.ntmps<bM:=gS hb.2;have VY:=tP (n:=fn.ntmps) pZ Ep pY;have hs0:aY g (aC {s with lo:=s.aE}) w:=⟨hs.aE,hs.ah,hs.box,hs.arr,hs.bx,hs.j6⟩;refine callsD_of_wpS hfs hc λc₀ cs hcu=>?_
 let st:Bool->L Frame:=λa=>(if a then{c₀ with mode:=afB u}else{c₀ with mode:=u})::cs
 have aqF:st J=c₀::cs:=by show{c₀ with mode:=u}::cs=c₀::cs;rw[<-hcu]
 have aqP:ae4 g {s with lo:=s.aE} w q st (Xb u):=by
  cases q with
  |none=>
   have l:u=.returning:=l;refine⟨λg' s' w' _=>?_,.inl ⟨rfl,?_,?_⟩⟩;simp[Xb,l];exact .sym _ _ (.lit _)
   grind[recoverD]
   simp[Xb,l]
  |some t=>
   let ⟨v,l,ht⟩:=l
   refine⟨λg' s' w' p=>?_,.inr ⟨rfl,?_⟩⟩;simp[Xb,l];exact(eJ.ID hs p).tr _ _ ht (mD _)
   grind[recoverD,Xb,afB]
 have hw:=We hE Q R n q f' _ (s0:={s with lo:=s.aE}) (g0:=g) (w0:=w) (eO _) (m:=fn.ntmps) (Jt pZ) (st:=st) aqP c 0 h2 rfl (eJ.refl hs0) VY;rw[aqF]at hw;intro b kk hb' hro
 let ⟨e,a',cs',w',hq,LK⟩:=hw b kk hb' hro
 refine⟨e,a',cs',w',?_,LK⟩;obtain hF|⟨a,ex,fr',s',g',k0,k1,C,k3,k4,k5⟩:=hq
 exact hF.elim;have p:=eJ.ID hs k5;dsimp only at C;split at C;rotate_left;cases C;rename_i hdf;have P:a'.defers=[]:=by have:=k4.df;rw[show(bL fr').df=[]from by simp[bL,hdf,List.map_nil]]at this;generalize a'.defers=m at this;cases this;rfl
 have Eo:∃I,cs'={c₀ with mode:=I}::cs/\UR g' w' (bif a then Y else q) (settle I):=by
  cases a with
  |false=>
   refine⟨u,k0,?_⟩;cases q with
   |none=>rw[l];rfl|some t=>
    let ⟨v,l,ht⟩:=l
    rw[l];exact⟨v,rfl,p.tr _ _ ht (mD _)⟩
  |true=>
   refine⟨afB u,k0,?_⟩;cases q with
   |none=>rw[l];rfl|some t=>
    let ⟨v,l,ht⟩:=l
    rw[l];rfl
 let ⟨I,hcs,hur⟩:=Eo
 have fin:(match lQ E.T s' fr' fn.results.toList with|some _=>k a {s' with lo:=s.lo}|none=>Y)=Z r->∃v,(results fn a'.tmps).run E.T.E.P w'=.ok v w'/\
   ∃a s' g',k a s'=Z r/\UR g' w' (bif a then Y else q) (settle I)/\cS [] s g w s' g' w':=by
  intro C;split at C;rotate_left;cases C;rename_i hr
  let ⟨v,hv,_⟩:=yJ hE k4 k5.rel hr
  grind
 cases k1 with
 |rY=>
  let ⟨v,hv,h⟩:=fin C
  exact⟨P,I,hcs,v,hv,h⟩
 |ret=>
  let ⟨v,hv,h⟩:=fin C
  exact⟨P,I,hcs,v,hv,h⟩
 |ext j=>cases C
 |iJ t v hv=>cases C
theorem DB{P:Program}{fn:Func}{tmps:Array Value}{R:Ending->World->Prop}{ds:L Deferred}{u:FrameMode}(q:u≠.run){s:bp S}{g:Gh}{o:Nat}(f:s.fl<=o)(i:s.ob.get o=Y) :
  ∀(bs:L Nat)(w:World),aY g (aC s) w->bs.Nodup->(∀b∈bs,bJ g o b/\w.heap[b]?=Z (.deferred (Z [])))->(∀w',cS [] s g w s g w'->nh P fn tmps R ds u w')->
   nh P fn tmps R (bs.map (λb=>{target:=.collected b,args:=#[]})++ds) u w
 |[],w,d,_,_,m=>m w (cS.refl d)|b::bs,w,d,n,r,m=>by
  let ⟨l,t⟩:=r b eI
  have j:aY g (aC s) (w.putObj b (.deferred Y)):=by
   have:=d.step (I:=g.bx) (X:=λc=>c=b) (w':=w.putObj b (.deferred Y)) (λ_ h=>h) (λ_ h=>.inl h) (λc a=>by rw[World.putObj_size];exact d.bx c a) (by simp_all)
    (λc _ a=>World.putObj_heap_other a) (λv c a p=>by
     subst a;have:=d.j6 v o c p l;subst this;exact⟨by rw[aJ,i];rfl,l.1⟩) (λc a=>by subst a;exact l.1)
   exact this
  have x:Ext s.fl g w g (w.putObj b (.deferred Y)):=
   ⟨λ_ _ h=>h,λ_ _ _ h=>h,λ_ h=>h,by simp_all,λc _ n=>World.putObj_heap_other (λe=>n o f (e▸l)),λ_ _ h=>.inl h,λ_ h=>.inl h,rfl,rfl⟩
  have k:cS [] s g w s g (w.putObj b (.deferred Y)):=cS.lz d j x rfl rfl (eO _) ⟨λ_ h=>h,λ_ _ _=>rfl,rfl⟩;refine⟨q,.inl ⟨b,_,rfl,run_takeDeferred t,DB q f i bs _ j (Nz.1 n).2 (λc a=>⟨(r c (hJ _ a)).1,?_⟩) λw' h=>m w' (k.trans h)⟩⟩
  grind[World.putObj_heap_other]
theorem OL{E:eM S}(hE:fu E){call:gj S}(z:gL E.T.E.P call)(A:sY E call)(n:Nat){fn:Func}{tmps:Array Value}{R:Ending->World->Prop}{ω:Type}{k:O (V S)->bp S->O ω}{r:ω}{s0:bp S}{g0:Gh}{w0:World}
  (hk:∀m s' g' w' u,k m s'=Z r->UR g' w' m u->cS [] s0 g0 w0 s' g' w'->nh E.T.E.P fn tmps R [] u w'):∀(l:L (sZ S))(m:O (V S))(s:bp S),Hg E call n l m s k=Z r->
  ∀(g:Gh)(w:World)(ds:L Deferred)(u:FrameMode),eS g w (l.map mH) ds->UR g w m u->cS [] s0 g0 w0 s g w->nh E.T.E.P fn tmps R ds u w:=by
 intro l
 induction l with
 |nil=>intro m s h g w ds u B p a;cases B;exact hk m s g w u h p a
 |cons d l ih=>
  intro m s h g w ds u B p a;simp at B;generalize C:mH d=x at B;cases B with
  |kK xs i=>
   cases d with
   |kK=>cases h
   |_=>cases C
  |marks o bs hn hbs i=>
   cases d with
   |marks o'=>
    cases C;simp only[Hg,T9]at h;split at h;rotate_left;cases h;rename_i ho;obtain⟨F,h2⟩|⟨_,h2⟩:=af h
    rotate_left;cases h2;rw[eW]at F;have hlt:o<bM:=gS F.2;have hlt':o+1<2 ^ aM:=by grind[aM,bM]
    have q:=a.rel;have ho':(aC s).ob.get o=Z .Gl:=by rw[aJ,ho];rfl
    have hown:∀b∈bs,bJ g o b/\w.heap[b]?=Z (.deferred (Z [])):=λb I=>by
     let ⟨n,c,hr⟩:=hbs b I
     cases hr with
     |sh _ _ _ _ sz _ C=>
     obtain⟨fz,_,_,h,_⟩|⟨_,_,_,_,_,_,h,_⟩|⟨_,_,_,h,_⟩|h|⟨_,h1,h2,h3,h4⟩:=(q.arr o b _ C).2 _ ho'
     cases fz<;>cases h;cases h;cases h;cases h;exact⟨⟨h3,.inr ⟨b,_,_,C,h1,rfl,h2⟩⟩,h4⟩
    have hgD:∀k,(s.ob.del aM o).get k=if k=o then Y else s.ob.get k:=λk=>Tr.r6 _ _ _ _ hlt'
    have hsD:aY g (aC {s with ob:=s.ob.del aM o,wr:=o::s.wr}) w:=by
     have y:∀k ob,(aC {s with ob:=s.ob.del aM o,wr:=o::s.wr}).ob.get k=Z ob->(aC s).ob.get k=Z ob:=by
      grind[aJ]
     refine⟨q.aE,q.ah,λk b h=>?_,λk e x h=>?_,q.bx,q.j6⟩
     let ⟨K,P,j⟩:=q.box k b h
     exact⟨K,P,λob Q=>j ob (y k ob Q)⟩
     let ⟨K,P⟩:=q.arr k e x h
     exact⟨K,λob Q=>P ob (y k ob Q)⟩
    have haD:cS [] s g w {s with ob:=s.ob.del aM o,wr:=o::s.wr} g w:=
     cS.lz q hsD (Ext.refl _ _ _) rfl rfl (eO _) ⟨λ_ h=>hJ _ h,λk _ hk=>(hgD k).trans (bQ λe=>hk (by simp_all)),rfl⟩
    have hrun:u≠.run:=by cases m with|none=>rw[show u=.returning from p];simp|some t=>obtain⟨v,rfl,_⟩:=p;simp
    refine DB hrun (s:={s with ob:=s.ob.del aM o,wr:=o::s.wr}) (g:=g) (o:=o) (gS F.1) ((hgD o).trans (bD rfl)) bs w hsD hn hown λw' j=>?_;have k4:=haD.trans j;refine ih _ _ h2 g w' _ u (i.imp (λt v i=>k4.tr t v i (mD _)) λo b I=>k4.ext.bT o b I) ?_ (a.trans k4);cases m with
    |none=>exact p|some t=>
     let ⟨v,p,i⟩:=p
     exact⟨v,p,k4.tr _ _ i (mD _)⟩
   |_=>cases C
  | @cons _ e _ ds B i=>
  subst C
  let ⟨h1,h⟩:=OM hE z A n h a.rel B p
  obtain⟨b,w',h2,h3,s',K,P,j⟩|⟨fv,cap,f,args,h2,h3,h4⟩:=h
  exact⟨h1,.inl ⟨b,w',h2,h3,ih _ s' K g w' ds u (i.imp (λt v i=>j.tr t v i (mD _)) λo b I=>j.ext.bT o b I) P (a.trans j)⟩⟩;refine⟨h1,.inr ⟨fv,cap,f,args,h2,h3,h4.mono λe u' w' he=>?_⟩⟩;cases e with
  |returned v=>
   let ⟨rec,s',g',K,P,j⟩:=he
   refine ih _ s' K g' w' ds (settle u') (i.imp (λt v i=>j.tr t v i (mD _)) λo b I=>j.ext.bT o b I) P (a.trans j)
  |panicked ch=>exact he.elim|outgrown=>exact he.elim
def wP(x:fu E)(c:gL E.T.E.P call)(d:sY E call)(n:Nat){fn:Func}{R:Ending->World->Prop}{ω:Type}{k kp:V S->bp S->O ω}{r:ω}{ex:vA S}{fr:ck S}
  (h:T8 E call n fn.results.toList k kp ex fr s=Z r) {g:Gh} {w:World} {e:Exit} {a:Act} (y:Jd g w ex e) (hf:cU g (bL fr) a w) (hs:aY g (aC s) w)
  (z:∀t s' g' v w',k t s'=Z r->aI g' w' (low t) v->cS [] s g w s' g' w'->R (.returned v) w')
  (m:∀t s' g' v w',kp t s'=Z r->aI g' w' (low t) v->cS [] s g w s' g' w'->R (.panicked [{v,recovered:=J}]) w'):aeZ E.T.E.P fn R e a w:=by
 have f:∀(j:O (V S))(u:FrameMode),Hg E call n fr.df j s (OK E.T fn.results.toList fr k kp)=Z r->UR g w j u->nh E.T.E.P fn a.tmps R a.defers u w:=by
  intro j u h l;refine OL x c d n (s0:=s) (g0:=g) (w0:=w) (λj s' g' w' u h l b=>?_) fr.df j s h g w a.defers u hf.df l (cS.refl hs);have o:cU g' (bL fr) a w':=oc (ow:=[]) hf b;cases j with
  |none=>
   subst l;simp[OK]at h;split at h;rotate_left;cases h;rename_i A
   let ⟨v,p,q⟩:=yJ x o b.rel A
   exact⟨v,p,z _ _ g' v w' h q b⟩
  |some t=>
   let ⟨v,l,q⟩:=l
   subst l;exact m t s' g' v w' h q b
 cases y with
 |rY=>exact f Y .returning h rfl|ret=>exact f Y .returning h rfl|ext i=>cases h
 |iJ t v p=>exact f (Z t) _ h ⟨v,rfl,p⟩
end
section
def Dg{g:Gh}{w:World}{n:Nat}(hn:n<=bM):∀(ps:L Nat)(args:L (V S))(vs:L Value)(tm:Tr (V S))(tmps:Array Value),(∀k∈ps,k<n)->PW (aI g w) (bA args) vs->cU g (bL {n:=n,tm:=tm}) {tmps:=tmps,defers:=[]} w->
  cU g (bL {n:=n,tm:=QB ps args tm}) {tmps:=(ps.zip vs).foldl (λt p=>t.setIfInBounds p.1 p.2) tmps,defers:=[]} w
 |[],_,_,_,_,_,_,h=>h|_::_,[],[],_,_,_,_,h=>h|_::_,[],_::_,_,_,_,b,_=>by have:=b.1;simp[bA]at this
 |_::_,_::_,[],_,_,_,b,_=>by have:=b.1;simp[bA]at this
 |k::ps,a::args,v::vs,tm,tmps,d,b,h=>by have e:aI g w (low a) v:=b.2 0 _ _ rfl rfl;have c:PW (aI g w) (bA args) vs:=⟨by have:=b.1;simpa[bA]using this,λj t u h1 h2=>b.2 (j+1) t u (by simpa[bA]using h1) (by simpa using h2)⟩;have f:=uC (dst:=Z k) (fr:={n:=n,tm:=tm}) h (by simp_all[gN,NI,eI]) hn e;exact Dg hn ps args vs _ _ (λj i=>d j (hJ _ i)) c f.1
def UJ(ps:Array Tmp)(vs:Array Value)(tmps:Array Value):(ps.zip vs).foldl (λtmps(t,a)=>tmps.setIfInBounds t a) tmps=(ps.toList.zip vs.toList).foldl (λt p=>t.setIfInBounds p.1 p.2) tmps:=by rw[<-Array.foldl_toList,Array.toList_zip]
variable {g:Gh}{w:World}
def Jd.jump{ex:vA S}{e:Exit}(h:Jd g w ex e){j:O Code}(a:aeG ex=Z j):aeF e=Z j:=by cases h<;>first|exact a|cases a
theorem Av{E:eM S}(hE:fu E){call:gj S}(B:gL E.T.E.P call)(C:sY E call)(n:Nat){o:Nat}{args:L (V S)}{s:bp S}{ω:Type}{k kp:V S->bp S->O ω}{r:ω}
  (h:KY E call n o args s k=Z r) {g:Gh} {w:World} {vs:Array Value} {b:Nat} (hs:aY g (aC s) w) (pY:PW (aI g w) (bA args) vs.toList) (hb:g.bT o=Z b) :
  ∃l:Loop,w.heap[b]?=Z (.loop l)/\vs.size=l.params.size/\∀rr n,RoundIn (WR rr) n E.T.E.P b l.fn ((l.params.zip vs).foldl (λtmps(t,a)=>tmps.setIfInBounds t a) l.tmps) l.assign l.body w (ye s g w k kp r):=by
 unfold KY at h;split at h;rotate_left;cases h;rename_i l ho;obtain⟨hc,h1⟩|⟨_,h1⟩:=af h
 rotate_left;cases h1;clear h;simp only[eW,kP]at hc;obtain⟨hrd,hlen,hpar,P,hra,hrb,hfl,Q⟩:=hc;have Q:s.lo<=s.aE:=gS Q;obtain⟨hst,hpe⟩:=FN hrd;have hfl:s.fl<=o:=gS hfl;have P:l.fr.n<=bM:=gS P;have ho0:(aC s).ob.get o=Z (.lp (tM l)):=by rw[aJ,ho];rfl
 obtain⟨x,hx,hr⟩:=(hs.box o b hb).2.2 _ ho0;cases hr with
 |lp _ d q1 q2 q4 q5 q6 q8 q9=>
 have hsz:vs.size=d.params.size:=by
  have h1:=beq_iff'.1 hlen;rw[bV,bV]at h1;have h2:=pY.1;rw[eP]at h2;have h3:d.params.toList.length=l.params.length:=by rw[q4];rfl
  grind
 refine⟨d,hx,hsz,λrr n'=>?_⟩;have VY:cU g (bL {n:=l.fr.n,tm:=l.fr.tm}) {tmps:=d.tmps,defers:=[]} w:=⟨q8,.nil,q9⟩;have hf1:=Dg P l.params args vs.toList l.fr.tm d.tmps (λk hk=>gS (hpar k hk)) pY VY;rw[UJ,q4];have q5:d.assign=l.assign:=q5;have q6:d.body=l.body:=q6;rw[q5,q6];refine afK ?_;refine wpIn_mono (qt (rr:=Z b) hE B C n l.fid [] l.assign 0 h1 (λ_=>hra) P Q hf1 hs) λe a' w1 hq=>?_;obtain hF|⟨ex,tR,p,g1,p1,p2,p3,p4,i,_⟩:=hq
 exact hF.elim;cases p1 with
 |ext j=>cases p2
 |ret=>cases p2
 |iJ t v hv=>cases p2
 |rY=>
 simp only[aeq]at p2;split at p2;rotate_left;cases p2;rename_i l1 T0;obtain⟨aqQ,p2'⟩|⟨_,p2'⟩:=af p2
 rotate_left;cases p2';clear p2;obtain⟨ags,hpe1⟩:=FN aqQ;have R:=i.ext.bT _ _ hb;have akI:(aC p).ob.get o=Z (.lp (tM l1)):=by rw[aJ,T0];rfl
 obtain⟨x1,hx1,hr1⟩:=(i.rel.box o b R).2.2 _ akI;cases hr1 with
 |lp _ L1 a1 a2 a4 a5 a6 a8 a9=>
 have Rq:p.fl<=o:=by rw[i.fl];exact hfl
 obtain⟨MS,V0⟩:=i.rel.setObj (w':=w1.putObj b (.loop {L1 with state:=.busy})) R akI rfl Rq (x':=.loop {L1 with state:=.busy}) (ob':=.lp (tM {l1 with st:=.busy})) (.lp _ _ rfl a2 a4 a5 a6 a8 a9)
  World.putObj_size (λb' hb'=>World.putObj_heap_other hb') (World.putObj_heap_same (i.rel.box o b R).2.1) rfl rfl
 have akQ:aC {p with ob:=p.ob.set aM o (.lp {l1 with st:=.busy})}={aC p with ob:=(aC p).ob.set aM o (de (.lp {l1 with st:=.busy}))}:=eE p _ _ p.wr;have aqH:aY g1 (aC {p with ob:=p.ob.set aM o (.lp {l1 with st:=.busy})}) (w1.putObj b (.loop {L1 with state:=.busy})):=by rw[akQ];exact MS
 refine⟨_,run_beginRound hx1 (by rw[a1];exact ags),?_⟩;have arn:p.lo<=p.aE:=by rw[i.lo];exact gk Q i.aE
 refine wpIn_mono (qt (rr:=Z b) hE B C n l.fid [] l.body 0 p2' (λ_=>hrb) (by grind) arn (p4.ext V0 i.rel.bx) aqH) λe a2 w2 hq=>?_;obtain hF|⟨ex,Qp,m,g2,c1,c2,c3,c4,y,_⟩:=hq
 exact hF.elim;have akH:o<bM:=iS (hs.lt hb) hs.aE;have Zn:m.fl<=o:=by rw[y.fl];exact Rq
 have pZ:=y.ext.bT _ _ R;have fin:∀(A l3:LpV S)(L2 L3:Loop)(wr:L Nat),m.ob.get o=Z (.lp A)->w2.heap[b]?=Z (.loop L2)->gX g2 w2 (.lp (tM l3)) (.loop L3)->(∀j∈m.wr,j∈wr)->(l3={A with st:=.ready,vW:=Y}\/o∈wr)->
   eJ s g w {m with ob:=m.ob.set aM o (.lp l3),wr:=wr} g2 (w2.putObj b (.loop L3)):=by
  intro A l3 L2 L3 wr q z hr3 hw hl3;have u:(aC m).ob.get o=Z (.lp (tM A)):=by rw[aJ,q];rfl
  obtain⟨Rj,EZ⟩:=y.rel.setObj (w':=w2.putObj b (.loop L3)) pZ u rfl Zn (x':=.loop L3) (ob':=.lp (tM l3)) hr3
   World.putObj_size (λb' hb'=>World.putObj_heap_other hb') (World.putObj_heap_same (y.rel.box o b pZ).2.1) rfl rfl
  have akP:aC {m with ob:=m.ob.set aM o (.lp l3),wr:=wr}={aC m with ob:=(aC m).ob.set aM o (de (.lp l3))}:=eE m _ _ wr;have e1:oN s.lo s.fl g1 w1 g1 (w1.putObj b (.loop {L1 with state:=.busy})):=by have:=V0.ID s.lo;rw[show(aC p).fl=s.fl from i.fl]at this;exact this
  have e2:oN s.lo s.fl g1 (w1.putObj b (.loop {L1 with state:=.busy})) g2 w2:=by have:=y.ext;rw[show p.lo=s.lo from i.lo,show p.fl=s.fl from i.fl]at this;exact this
  have e3:oN s.lo s.fl g2 w2 g2 (w2.putObj b (.loop L3)):=by have:=EZ.ID s.lo;rw[show(aC m).fl=s.fl from y.fl.trans i.fl]at this;exact this
  refine⟨by rw[akP];exact Rj,((i.ext.trans e1).trans e2).trans e3,y.fl.trans i.fl,y.lo.trans i.lo,gk i.aE y.aE,λj K=>hw j (y.uk j (i.uk j K)),λj K hno=>?_,λj K=>y.Ht j (i.Ht j K)⟩;have akL:j∉m.wr:=λhm=>hno (hw j hm);have aq9:j∉p.wr:=λhm=>akL (y.uk j hm);have k1:=i.same j K aq9;have k2:=y.same j (iS K i.aE) akL;show(m.ob.set aM o _).get j=s.ob.get j;rw[Tr.aV _ _ _ _ akH];have F:m.ob.get j=(p.ob.set aM o (.lp {l1 with st:=.busy})).get j:=k2;rw[Tr.aV _ _ _ _ akH]at F;by_cases e:j=o
  .subst e;obtain rfl|hl3:=hl3
   rotate_left;exact absurd hl3 hno;rw[bD rfl]at F ⊢;rw[q]at F;rw[T0]at k1;have k1:Z (vo.lp l1)=s.ob.get j:=k1;rw[ho]at k1;simp only[gP,vo.lp.injEq]at k1 F;subst k1;subst F;rw[ho];obtain⟨st,pe,fid,fr,par,asg,bd⟩:=l1
   grind
  simp_all
 unfold aer at c2;split at c2
 .rename_i A q K;have u:(aC m).ob.get o=Z (.lp (tM A)):=by rw[aJ,q];rfl
  obtain⟨x2,z,hr2⟩:=(y.rel.box o b pZ).2.2 _ u;cases hr2 with
  |lp _ L2 d1 d2 d4 d5 d6 d8 d9=>
  have I:=fin A {A with st:=.ready,vW:=Y} L2 {L2 with state:=.ready,pending:=Y} m.wr q z (.lp _ _ rfl rfl d4 d5 d6 d8 d9) (λ_ h=>h) (.inl rfl);exact .inr ⟨Y,c1.jump K,.bool W,_,run_endRound Y z,.kb W,_,g2,c2,.kb W,I⟩
 .rename_i A c q K;have u:(aC m).ob.get o=Z (.lp (tM A)):=by rw[aJ,q];rfl
  obtain⟨x2,z,hr2⟩:=(y.rel.box o b pZ).2.2 _ u;cases hr2 with
  |lp _ L2 d1 d2 d4 d5 d6 d8 d9=>
  have I:=fin A {A with st:=.done,vW:=Z c} L2 {L2 with state:=.done,pending:=Z c} (o::m.wr) q z (.lp _ _ rfl rfl d4 d5 d6 d8 d9) (λ_ h=>hJ _ h) (.inr eI);exact .inr ⟨Z c,c1.jump K,.bool J,_,run_endRound (Z c) z,.kb J,_,g2,c2,.kb J,I⟩
 cases c2
def O8{E:eM S}(C:fu E)(a:∀call:gj S,gL E.T.E.P call->sY E call)(n:Nat):∀d,gL E.T.E.P (wX E n d):=by
 intro d
 induction d with
 |zero=>exact⟨λf args s ω k kp r h=>(by cases h),λf args s ω k kp r h=>(by cases h),λo args s ω k kp r h=>(by cases h),λo args s ω k kp r h=>(by cases h)⟩
 |succ d u=>
  refine⟨λf args s ω k kp r h g w vs j m=>?_,λf args s ω k kp r h g w vs j m=>?_,λo args s ω k kp r h g w vs b j m x=>?_,λo args s ω k kp r h g w vs b j m x=>Av C u (a _ u) n h j m x⟩;rotate_left 2
  .have K:aY g (aC {s with lo:=s.aE}) w:=⟨j.aE,j.ah,j.box,j.arr,j.bx,j.j6⟩
   let ⟨l,h1,h2,h3⟩:=Av C u (a _ u) n (kp:=λ_ _=>Y) h K m x
   refine⟨l,h1,h2,λrr n=>(h3 rr n).mono λe w' he=>?_⟩;cases e with
   |returned v=>
    let ⟨t,s',g',y,F,I⟩:=he
    exact⟨t,_,g',y,F,eJ.ID j I⟩
   |panicked ch=>obtain⟨v,t,s',g',_,y,_⟩:=he;cases y
   |outgrown=>exact he.elim
  rotate_left
  .simp only[wX,Z9]at h;split at h;cases h;rename_i fn z;split at h;cases h;rename_i c hc;have A:=C.US.T4 _ _ z;refine⟨⟨fn,A,by rw[hc];rfl,C.name _ _ z⟩,?_⟩;obtain⟨x,h⟩|⟨_,h⟩:=af h
   rotate_left;cases h;simp only[eW]at x;have P:args.length<=fn.ntmps:=by have:=gS x.1;rwa [bV]at this
   have B:fn.ntmps<bM:=gS x.2.1;have hlo:s.lo<=s.aE:=gS x.2.2;have Q:=tP (n:=fn.ntmps) B P m;refine sO A hc (wpIn_mono (qt C u (a _ u) n f _ c 0 h (λh=>absurd rfl h) (Jt B) (by omega) Q j) λe a' w' hq=>?_);obtain hF|⟨ex,fr',s',g',h1,h2,h3,h4,h5,h6⟩:=hq
   exact hF.elim;exact wP C u (a _ u) n (R:=ye s g w k kp r) h2 h1 h4 h5.rel (λt p i v q y F I=>⟨t,_,i,y,F,h5.trans I.toW⟩) (λt p i v q y F I=>⟨v,t,_,i,rfl,y,F,h5.trans I.toW⟩)
  simp only[wX,Z9]at h;split at h;cases h;rename_i fn z;split at h;cases h;rename_i c hc;have A:=C.US.T4 _ _ z;refine⟨⟨fn,A,by rw[hc];rfl,C.name _ _ z⟩,?_⟩;obtain⟨x,h⟩|⟨_,h⟩:=af h
  rw[zk]at x;have P:args.length<=fn.ntmps:=by have:=gS x.1;rwa [bV]at this
  have B:fn.ntmps<bM:=gS x.2;have Q:=tP (n:=fn.ntmps) B P m;have K:aY g (aC {s with lo:=s.aE}) w:=⟨j.aE,j.ah,j.box,j.arr,j.bx,j.j6⟩;refine sO A hc (wpIn_mono (qt C u (a _ u) n f _ c 0 h (λh=>absurd rfl h) (Jt B) (eO _) Q K) λe a' w' hq=>?_);obtain hF|⟨ex,fr',s',g',h1,h2,h3,h4,h5,h6⟩:=hq
  exact hF.elim;have wK:=eJ.ID j h5;have lo:∀{p:bp S}{i:Gh}{q:World},cS [] s' g' w' p i q->cS [] s g w {p with lo:=s.lo} i q:=λ{p i q}k=>
   eJ.ID j (h5.trans k.toW)
  exact wP C u (a _ u) n (R:=CZ s g w k kp r) h2 h1 h4 h5.rel (λt p i v q y F I=>⟨t,_,i,y,F,lo I⟩) (λt p i v q y F I=>⟨v,t,_,i,rfl,y,F,lo I⟩);cases h
end
section
structure SA(JN:Nat)(s0:bp S)(g0:Gh)(w:World)(s':bp S)(g':Gh)(w':World):Prop where
 rel:aY g' (aC s') w'
 bT:∀o b,o<JN->g0.bT o=Z b->g'.bT o=Z b
 box:∀o,o<JN->∃b,g'.bT o=Z b
 own:∀o b,bJ g' o b->(∃o',bJ g0 o' b)\/w.heap.size<=b
 bx:∀b,g0.bx b->g'.bx b
 oD:∀b,g'.bx b->g0.bx b\/w.heap.size<=b\/∃o,bJ g0 o b
 size:w.heap.size<=w'.heap.size
 heap:∀b,b<w.heap.size->(∀o,¬bJ g0 o b)->w'.heap[b]?=w.heap[b]?
 os:w'.os=w.os
 output:w'.output=w.output
 fl:s'.fl=s0.fl
 lo:s'.lo=s0.lo
variable {JN:Nat}{s0:bp S}{g0 g:Gh}{w w':World}{v:V S}{val:Value}
def SA.of{s':bp S}{g':Gh}(e:s0.fl=0)(d:∀o,o<JN->∃b,g0.bT o=Z b)(h:eJ s0 g0 w s' g' w'):SA JN s0 g0 w s' g' w' where
 rel:=h.rel
 bT o b _ a:=h.ext.bT o b a
 box o f:=(d o f).imp λb a=>h.ext.bT o b a
 own o b c:=(h.ext.own o b (by omega) c).imp (λ⟨g,_,h⟩=>⟨g,h⟩) id
 bx:=h.ext.bx
 oD b a:=(h.ext.oD b a).imp id (Or.imp id λ⟨o,_,c⟩=>⟨o,c⟩)
 size:=h.ext.size
 heap b a i:=h.ext.heap b a λo _ c=>i o c
 os:=h.ext.os
 output:=h.ext.output
 fl:=h.fl
 lo:=h.lo
def aY.ahz{s:St}(hs:aY g s w){b:Nat}(K:b<w.heap.size)(p:∀o,¬bJ g o b):aY {g with bx:=λk=>g.bx k\/k=b} s w:=by have z:∀t v,aI g w t v->aI {g with bx:=λk=>g.bx k\/k=b} w t v:=λt v h=>aI.le (g:=g) (g':={g with bx:=λk=>g.bx k\/k=b}) (nk.mk (λ_ _ h=>h) (λ_ _ _ h=>h) (λP(h:g.bx P)=>Or.inl h)) h;have f:∀o k,bJ {g with bx:=λk=>g.bx k\/k=b} o k->bJ g o k:=λo k h=>⟨λA=>h.1 (.inl A),h.2⟩;refine⟨hs.aE,hs.ah,λo k a=>?_,λo e x q=>?_,λk a=>a.elim (hs.bx k) (λe=>e▸K),λo I k h Q=>hs.j6 o I k (f o k h) (f I k Q)⟩;obtain⟨h1,h2,h3⟩:=hs.box o k a;refine⟨λA=>A.elim h1 λe=>p o (e▸⟨h1,.inl a⟩),h2,λob m=>?_⟩;obtain⟨x,q,R⟩:=h3 ob m;exact⟨x,q,R.imp z⟩;obtain⟨h1,h2⟩:=hs.arr o e x q;refine⟨h1,λob m=>?_⟩;have B:∀k,x.at k->¬g.bx k->k≠b:=λk⟨S,r,C,E⟩a F=>p o (F▸⟨a,.inr ⟨e,x,S,q,r,C,E⟩⟩);have l:∀k,x.at k->((g.bx k\/k=b)↔g.bx k):=λk a=>⟨λh=>h.elim id λF=>(Classical.em (g.bx k)).elim id λhn=>absurd F (B k a hn),λh=>Or.inl h⟩;refine(h2 ob m).tr (λ{fz sz es}n=>⟨n.len,n.cap,n.rows,n.pos,n.W0,λy=>?_⟩) (λ_ _ _ h=>h) rfl (λk a y=>⟨rfl,l k ⟨_,a,rfl,y⟩⟩);obtain⟨k,vs,ty,r,C,E,q4,q5⟩:=n.mem y;refine⟨k,vs,ty,r,C.trans (l k ⟨_,r,rfl,y⟩).symm,E,q4,λi d j c k1 k2=>?_⟩;obtain⟨u,r1,r2⟩:=q5 i d j c k1 k2;exact⟨u,r1,r2.le λ_ h=>.inl h⟩
def DU(p:Nat->Bool)(vs:L (V S))(i:Nat)(u:V S):bA ((vs.map (fX p)).set i u)=(bA (vs.map (fX p))).set i (low u):=by simp[eZ,FU]
def Lj(hS:fq S){s:bp S}(h:SA JN s0 g0 w s g w')(hv:aI g w' (low v) val)(q:Nat×Nat×Nat) :
  ∃a,SA JN s0 g0 w (Gf v JN s q) a w'/\aI a w' (low v) val:=by
 obtain⟨f,i,n⟩:=q;unfold Gf;split;rotate_left;exact⟨g,h,hv⟩;rename_i vs hvs;split;rotate_left;exact⟨g,h,hv⟩;rename_i o hvi;split;rotate_left;exact⟨g,h,hv⟩;rename_i us hus;split;rotate_left;exact⟨g,h,hv⟩;rename_i A os htt;generalize hp:(λk=>Nq o k||Nl s.aE k)=p;dsimp only;cases B:akc os&&(Nl JN o&&(Nt f JN&&!(cN p v)))with
 |false=>exact⟨g,h,hv⟩|true=>
 rw[iq];simp only[eW]at B;obtain⟨hos,hlo,MV,hmv⟩:=B;have hos:os=[]:=by cases os with|nil=>rfl|cons=>cases hos
 subst hos;have hlo:JN<=o:=gS hlo;have MV:f<JN:=gS MV;have r:=h.rel;obtain⟨b,hb⟩:=h.box f MV;obtain⟨cv,ty,JW,C,E⟩:=(r.box f b hb).box (cs:=bA vs) (by rw[aJ,hvs];rfl);have akm:(bA vs)[i]?=Z (.ptr o 0):=ES hvi;have hi:i<cv.size:=by rw[<-C];exact(Vg.1 akm).1
 have hci:=E i _ _ akm (uB hi);obtain⟨d,l,hcv⟩:∃d,g.bT o=Z d/\cv[i]=.pointer (Z ⟨d,0,Y⟩):=by generalize cv[i]=u at hci;cases hci with|ptr _ _ d l=>exact⟨d,l,rfl⟩
 obtain⟨cu,tu,Q,akT,R⟩:=(r.box o d l).box (cs:=bA us) (by rw[aJ,hus];rfl);have hno:o<s.aE:=r.lt l;have hnb:f<s.aE:=r.lt hb;have hpo:p o=W:=by rw[<-hp];simp
 have hpk:∀k,k≠o->k<s.aE->p k=J:=λk h1 h2=>by rw[<-hp];simp only[zj];exact⟨by cases hq:Nq o k with|true=>exact absurd (vV hq).symm h1|false=>rfl,by cases hq:Nl s.aE k with|true=>have:=gS hq;omega|false=>rfl⟩
 have hpb:p f=J:=hpk f (by omega) hnb
 let s1:bp S:={s with ob:=s.ob.mapA (fc p)}
 have Aa:aY (g.base p) (aC s1) w':=by refine r.base (aE:=s.aE) (λk P=>?_) rfl (eO _) λk ob P mR=>?_;rw[<-hp];simp[NI P];rw[aJ]at mR;simp only[s1,fT]at mR;obtain⟨vob,h1,rfl⟩:=mR;rw[Tr.oE,fT]at h1;obtain⟨WW,h1,rfl⟩:=h1;exact⟨de WW,by rw[aJ,h1];rfl,lU _ WW⟩
 have hOo:bJ g o d:=⟨(r.box o d l).1,.inl l⟩;have MS:=Aa.ahz (b:=d) (r.box o d l).2.1 (λk P=>by
  obtain⟨h1,h2⟩:=Gh.fO P;have:=r.j6 k o d h2 hOo;subst this;rw[hpo]at h1;cases h1)
 generalize y:({g.base p with bx:=λk=>(g.base p).bx k\/k=d}:Gh)=a at MS;have hle:nk (g.base p) a:=by rw[<-y];exact⟨λ_ _ h=>h,λ_ _ _ h=>h,λ_ h=>.inl h⟩
 have hon:∀t u,aI g w' t u->dK p t=J->aI a w' t u:=λt u ht hm=>(ht.on (g.gJ p) (λ_ _=>rfl) hm).le hle;have F:∀k c,p k=J->g.bT k=Z c->a.bT k=Z c:=λk c h1 h2=>hle.bT k c (by simp[Gh.base,h1,h2]);have hown:∀k c,bJ a k c->bJ g k c:=λk c hO=>by rw[<-y]at hO;exact(Gh.fO (⟨λhi=>hO.1 (.inl hi),hO.2⟩:bJ (g.base p) k c)).2
 obtain⟨pp,htd,hpp⟩:=qj hS s (S.fs n) us htt;obtain⟨k0,_,k2⟩:=qF r (bA us) (vs:=cu.toList) htd hpp (by simpa using akT) (λj t u h1 h2=>R j t u h1 (by simpa using h2));have hd:=k2 g (aC s) r (Ext.refl _ _ _) ⟨rfl,rfl,λo ho=>(by cases ho),λ_ _ _ _ h=>h,λo ho=>(by cases ho)⟩;have arv:a.bx d:=by rw[<-y];exact .inr rfl
 have K:∀c,g.bx c->a.bx c:=λc z=>by rw[<-y];exact .inl z
 have ag1:∀j,(⟨d,0,Y⟩:Addr).add j=⟨d,j,Y⟩:=λj=>by simp[nX]
 have m:∀j c,(e9 S (S.fs n) A)[j]?=Z c->∃u,cu[j]?=Z u/\dJ a.bx w' c u:=λj c hj=>by
  have hl1:=k0;have hlt:j<cu.size:=by have:=(Vg.1 hj).1;omega
  exact⟨cu[j],uB hlt,(hd j c cu[j] hj (by simp[hlt])).le K⟩
 have hnew:aI a w' (low (.ty (.opt n) (Z (S.ET n A)):V S)) cv[i]:=by
  rw[hcv];have hE:enc S (.opt n) (Z (S.ET n A))=.pt (.agg (e9 S (S.fs n) A)):=by show D.pt (.agg (S.cells n (S.ET n A)))=_;rw[hS.cells,hS.sH]
  show aI a w' (.sym (enc S (.opt n) (Z (S.ET n A)))) _;rw[hE];have:=dJ.pt (I:=a.bx) (w:=w') (.agg (e9 S (S.fs n) A)) ⟨d,0,Y⟩ (λj=>(cu[j]?).getD undef) arv (λj c hj=>by
   obtain⟨u,h1,_⟩:=m j c hj;rw[ag1,cell?_of_block Q,h1];rfl) (λj c hj=>by
   obtain⟨u,h1,h2⟩:=m j c hj;rw[h1];exact h2)
  rw[ag1]at this;exact .sym _ _ this
 have Zi:∀e,a.arr f e=Y:=λe=>by rw[<-y];show(g.base p).arr f e=Y;simp only[Gh.base,hpb,ki];cases hx:g.arr f e with|none=>rfl|some x=>have:=((r.arr f e x hx).2 _ (by rw[aJ,hvs];rfl)).oC;cases this
 have arM:gX a w' (de (.box ((vs.map (fX p)).set i (.ty (.opt n) (Z (S.ET n A)))))) (.cells cv ty (0,0)):=by refine .box _ _ _ (by rw[DU];simp[eZ]at C ⊢;exact C) λj t u h1 h2=>?_;rw[DU,QT]at h1;split at h1;rename_i hij;subst hij;split at h1;cases h1;rw[uB hi]at h2;cases h2;exact hnew;cases h1;simp only[eZ,lE,fT]at h1;obtain⟨v',⟨v'',h3,rfl⟩,rfl⟩:=h1;exact(qe p v'').rel hon (E j _ u (by simp[eZ,h3]) h2)
 have P:=MS.tO (F f b hpb hb) JW arM Zi;have sG:aY a (aC {s with ob:=(s.ob.mapA (fc p)).set aM f (.box ((vs.map (fX p)).set i (.ty (.opt n) (Z (S.ET n A)))))}) w':=by have:=eE s1 f (.box ((vs.map (fX p)).set i (.ty (.opt n) (Z (S.ET n A))))) s.wr;rw[show aC {s with ob:=(s.ob.mapA (fc p)).set aM f (.box ((vs.map (fX p)).set i (.ty (.opt n) (Z (S.ET n A)))))}=_ from this];exact P
 refine⟨a,⟨sG,λk c P z=>?_,λk P=>?_,λk c hO=>h.own k c (hown k c hO),λc z=>K c (h.bx c z),λc z=>?_,h.size,h.heap,h.os,h.output,h.fl,h.lo⟩,hon _ _ hv (by rw[iu];simpa using hmv)⟩;have h1:=h.bT k c P z;exact F k c (hpk k (by omega) (r.lt h1)) h1;obtain⟨c,z⟩:=h.box k P;exact⟨c,F k c (hpk k (by omega) (r.lt z)) z⟩;rw[<-y]at z;obtain z|rfl:=z
 exact h.oD c z;exact .inr ((h.own o c hOo).symm)
def AB(d:fq S){JN:Nat}{s0:bp S}{g0:Gh}{w w':World}{v:V S}{val:Value}:∀(l:L (Nat×Nat×Nat)){s:bp S}{g:Gh},SA JN s0 g0 w s g w'->aI g w' (low v) val->
  ∃a,SA JN s0 g0 w (l.foldl (Gf v JN) s) a w'/\aI a w' (low v) val
 |[],_,g,h,b=>⟨g,h,b⟩|q::l,_,_,h,b=>by obtain⟨a,h2,c⟩:=Lj d h b q;exact AB d l h2 c
end
def rj:∀(ps:L Pk)(b:Nat)(s:bp S)(x:gm S.A ps),s.aE<=(vY b s ps x).2.aE
 |[],_,_,_=>eO _|.one c::ps,b,s,x=>gk (S7 s c x.1) (rj ps b _ x.2)|.box k::ps,b,s,x=>gk (EG k s (Z (Ns b)) x.1) (rj ps (Ns b) {(lK s (Z (Ns b)) k x.1).2 with ob:=(lK s (Z (Ns b)) k x.1).2.ob.set aM b (lK s (Z (Ns b)) k x.1).1} x.2)
 |.hid k::ps,b,s,x=>gk (EG k s (Z (Ns b)) x.1) (rj ps (Ns b) {(lK s (Z (Ns b)) k x.1).2 with ob:=(lK s (Z (Ns b)) k x.1).2.ob.set aM b (lK s (Z (Ns b)) k x.1).1} x.2)
structure InR(g:Gh)(s:bp S)(w:World)(al:List fe)(g':Gh)(s':bp S):Prop where
 rel:aY g' (aC s') w
 le:nk g g'
 bx:g'.bx=g.bx
 own:∀k b,bJ g' k b->bJ g k b\/∃a∈al,a.at b
 fl:s'.fl=s.fl
 lo:s'.lo=s.lo
 aE:s.aE<=s'.aE
 bT:g'.bT=g.bT
 arr:∀o,o<s.aE->∀e,g'.arr o e=g.arr o e
theorem Rh{w:World}:∀{ps:L Pk}{x:gm S.A ps}{vals:L Value}{al:L fe}{bl:L Nat}{b:Nat}{g:Gh}{s:bp S},rJ S g.bx w ps x vals al bl->aY g (aC s) w->(∀j bT,bl[j]?=Z bT->g.bT (b+j)=Z bT)->
  (∀j,j<bl.length->b+j<s.aE/\∀e,g.arr (b+j) e=Y)->(∀a∈al,∀b,a.at b->∀o,¬bJ g o b)->xC al->(vY b s ps x).2.aE<=bM->
  ∃g',InR g s w al g' (vY b s ps x).2/\PW (aI g' w) (bA (vY b s ps x).1) vals:=by
 intro ps
 induction ps with
 |nil=>intro x vals al bl b g s hp hs _ _ _ _ _;cases hp;exact⟨g,⟨hs,nk.refl _,rfl,λ_ _ h=>.inl h,rfl,rfl,eO _,rfl,λ_ _ _=>rfl⟩,⟨rfl,λj t v h=>by simp_all⟩⟩
 |cons p ps ih=>
  intro x vals al bl b g s hp hs q r K P hn;cases hp with
  | @one c _ f xr v vs DZ BI bl h1 h2=>
   have m:=uz.1 P;have y:(v8 s c f).2.aE<=bM:=gk (rj ps b _ xr) hn
   let ⟨E,d,pY⟩:=nG (cs:=[c]) (x:=(f,())) h1 hs (λa F=>K a (fS _ F)) m.1 (by simpa[iz]using y)
   have e1:(iz s [c] (f,())).1=[(v8 s c f).1]:=rfl;have e2:(iz s [c] (f,())).2=(v8 s c f).2:=rfl;have hv1:aI E w (low (v8 s c f).1) v:=pY.2 0 _ _ rfl rfl
   let ⟨g2,i,Q⟩:=ih (b:=b) (g:=E) (s:=(v8 s c f).2) (d.bx▸h2) d.rel (λj bT h=>by rw[d.bT];grind) (λj hj=>⟨iS (r j hj).1 d.aE,λe=>by rw[d.arr _ (r j hj).1];simp_all⟩)
    (λa F b hb o n=>by
     obtain n|⟨_,a2,ha2,pZ⟩:=d.own o b n
     grind
     grind) m.2.1 hn
   refine⟨g2,⟨i.rel,d.le.trans i.le,i.bx.trans d.bx,λk B n=>?_,i.fl.trans d.fl,i.lo.trans d.lo,gk d.aE i.aE,i.bT.trans d.bT,λo I e=>(i.arr o (iS I d.aE) e).trans (d.arr o I e)⟩,⟨by simp only[vY,bA,lR];rw[Q.1],λj t v' R u=>?_⟩⟩;obtain n|⟨a',u,q3⟩:=i.own k B n
   obtain n|⟨_,a',u,q3⟩:=d.own k B n
   exact .inl n
   grind
   grind
   cases j with|zero=>simp[vY,bA]at R u;subst R;subst u;exact hv1.le i.le|succ j=>exact Q.2 j t v' (by simpa[vY,bA]using R) (by simpa using u)
  | @box l _ f xr b0 hx vs DZ BI bl hh h1 h2=>
   have m:=uz.1 P;have y:(lK s (Z (Ns b)) l f).2.aE<=bM:=gk (rj ps (Ns b) {(lK s (Z (Ns b)) l f).2 with ob:=(lK s (Z (Ns b)) l f).2.ob.set aM b (lK s (Z (Ns b)) l f).1} xr) hn
   let ⟨E,d,z⟩:=qi h1 (λB A=>⟨_,rfl,by cases bl with|nil=>cases A|cons c' BH=>(cases A;grind)⟩) hs (λa F=>K a (fS _ F)) m.1 y
   have hb0:=r 0 (by simp);have C:g.bT b=Z b0:=q 0 b0 rfl;have hk:=d.rel.tO (o:=b) (b:=b0) (by rw[d.bT];exact C) hh z (λe=>by rw[d.arr b (by omega)];exact hb0.2 e);have hk2:aY E (aC {(lK s (Z (Ns b)) l f).2 with ob:=(lK s (Z (Ns b)) l f).2.ob.set aM b (lK s (Z (Ns b)) l f).1}) w:=by
    have:=eE (lK s (Z (Ns b)) l f).2 b (lK s (Z (Ns b)) l f).1 (lK s (Z (Ns b)) l f).2.wr
    simp_all
   let ⟨g2,i,Q⟩:=ih (b:=Ns b) (g:=E) (s:={(lK s (Z (Ns b)) l f).2 with ob:=(lK s (Z (Ns b)) l f).2.ob.set aM b (lK s (Z (Ns b)) l f).1}) (d.bx▸h2) hk2
    (λj bT h=>by rw[d.bT];have:=q (j+1) bT (by simpa using h);rwa [show b+(j+1)=Ns b+j by omega]at this)
    (λj hj=>by
     have:=r (j+1) (by simp;omega);rw[show b+(j+1)=Ns b+j by omega]at this;exact⟨iS this.1 d.aE,λe=>by rw[d.arr _ this.1];exact this.2 e⟩)
    (λa F b hb o n=>by
     obtain n|⟨_,a2,ha2,pZ⟩:=d.own o b n
     grind
     grind) m.2.1 hn
   refine⟨g2,⟨i.rel,d.le.trans i.le,i.bx.trans d.bx,λk B n=>?_,i.fl.trans d.fl,i.lo.trans d.lo,gk d.aE i.aE,i.bT.trans d.bT,λo I e=>(i.arr o (iS I d.aE) e).trans (d.arr o I e)⟩,⟨by simp only[vY,bA,lR];rw[Q.1],λj t v' R u=>?_⟩⟩;obtain n|⟨a',u,q3⟩:=i.own k B n
   obtain n|⟨_,a',u,q3⟩:=d.own k B n
   exact .inl n
   grind
   grind
   cases j with|zero=>simp[vY,bA,NG,gP]at R u;subst R;subst u;exact Og (by rw[i.bT,d.bT];exact C)|succ j=>exact Q.2 j t v' (by simpa[vY,bA]using R) (by simpa using u)
  | @hid l _ f xr b0 hx vs DZ BI bl hh h1 h2=>
   have m:=uz.1 P;have y:(lK s (Z (Ns b)) l f).2.aE<=bM:=gk (rj ps (Ns b) {(lK s (Z (Ns b)) l f).2 with ob:=(lK s (Z (Ns b)) l f).2.ob.set aM b (lK s (Z (Ns b)) l f).1} xr) hn
   let ⟨E,d,z⟩:=qi h1 (λB A=>⟨_,rfl,by cases bl with|nil=>cases A|cons c' BH=>(cases A;grind)⟩) hs (λa F=>K a (fS _ F)) m.1 y
   have hb0:=r 0 (by simp);have C:g.bT b=Z b0:=q 0 b0 rfl;have hk:=d.rel.tO (o:=b) (b:=b0) (by rw[d.bT];exact C) hh z (λe=>by rw[d.arr b (by omega)];exact hb0.2 e);have hk2:aY E (aC {(lK s (Z (Ns b)) l f).2 with ob:=(lK s (Z (Ns b)) l f).2.ob.set aM b (lK s (Z (Ns b)) l f).1}) w:=by
    have:=eE (lK s (Z (Ns b)) l f).2 b (lK s (Z (Ns b)) l f).1 (lK s (Z (Ns b)) l f).2.wr
    simp_all
   let ⟨g2,i,Q⟩:=ih (b:=Ns b) (g:=E) (s:={(lK s (Z (Ns b)) l f).2 with ob:=(lK s (Z (Ns b)) l f).2.ob.set aM b (lK s (Z (Ns b)) l f).1}) (d.bx▸h2) hk2
    (λj bT h=>by rw[d.bT];have:=q (j+1) bT (by simpa using h);rwa [show b+(j+1)=Ns b+j by omega]at this)
    (λj hj=>by
     have:=r (j+1) (by simp;omega);rw[show b+(j+1)=Ns b+j by omega]at this;exact⟨iS this.1 d.aE,λe=>by rw[d.arr _ this.1];exact this.2 e⟩)
    (λa F b hb o n=>by
     obtain n|⟨_,a2,ha2,pZ⟩:=d.own o b n
     grind
     grind) m.2.1 hn
   refine⟨g2,⟨i.rel,d.le.trans i.le,i.bx.trans d.bx,λk B n=>?_,i.fl.trans d.fl,i.lo.trans d.lo,gk d.aE i.aE,i.bT.trans d.bT,λo I e=>(i.arr o (iS I d.aE) e).trans (d.arr o I e)⟩,Q⟩;obtain n|⟨a',u,q3⟩:=i.own k B n
   obtain n|⟨_,a',u,q3⟩:=d.own k B n
   exact .inl n
   grind
   grind
def pR(E:fq S){g:Gh}{w:World}{s:bp S}(hs:aY g (aC s) w):∀{ps:L Pk}{b:Nat}{x:iE S.A ps}{fz ow bl:L Nat},uF s b ps=Z (x,fz,ow)->(∀j bT,bl[j]?=Z bT->g.bT (b+j)=Z bT)->bl.length=dY ps->
  (∀o∈fz,Live g (aC s) o)/\(∀o∈ow,s.fl<=o/\s.lo<=o/\o<s.aE/\∃ob,s.ob.get o=Z ob/\Sf ob=W)/\∀(v:Gh)(s1:St)(r:L Nat),aY v s1 w->Ext s.fl g w v w->jF (aC s) s1 r->(∀o∈fz,o∈r)->(∀o∈ow,s1.ob.get o=(aC s).ob.get o)->
   ∃al,EE S v.bx w ps x bl al/\AL v al ow
 |[],b,x,fz,ow,bl,h,_,i=>by
  simp only[uF,gP,fC]at h;obtain⟨_,rfl,rfl⟩:=h
  match bl,i with
  |[],_=>exact⟨λo l=>(by cases l),λo l=>(by cases l),λ_ _ _ _ _ _ _ _=>⟨[],.nil,.nil⟩⟩
  |_::_,i=>exact absurd i (by simp[dY])
 |.one c::ps,b,x,fz,ow,bl,h,n,i=>by
  simp[uF]at h
  let ⟨F,I,K⟩:=pR E hs h n (by simpa[dY]using i)
  refine⟨F,I,λv s1 r a b c d e=>?_⟩
  let ⟨al,P,Q⟩:=K v s1 r a b c d e
  exact⟨al,.one P,Q⟩
 |.box k::ps,b,x,fz,ow,bl,h,n,i=>by
  match bl,i with
  |[],i=>exact absurd i (by simp[dY])
  |b0::bl,i=>
  simp only[uF]at h;split at h;rotate_left;cases h;rename_i x1 a1 b1 nx h1 a2 b2 R e2;obtain⟨A,h⟩|⟨_,h⟩:=af h
  rotate_left;cases h;rw[zk]at A;obtain⟨rfl,rfl,rfl⟩:=h;have y:g.bT b=Z b0:=n 0 b0 rfl;have p:∀j bT,bl[j]?=Z bT->g.bT (Ns b+j)=Z bT:=λj bT h=>by have:=n (j+1) bT (by simpa using h);rwa [show b+(j+1)=Ns b+j by omega]at this
  have f:bl.length=dY ps:=by simpa[dY]using i
  let ⟨_,hx,hh,F,I,K⟩:=rV E hs y R
  let ⟨_,B⟩:=AA hs y R
  let ⟨q1,q2,q3⟩:=pR E hs e2 p f
  refine⟨λo l=>(eX.1 l).elim (F o) (q1 o),λo l=>(eX.1 l).elim (I o) (q2 o),λv s1 r z C hf t q=>?_⟩
  let ⟨DZ,P,Q⟩:=K v s1 r z C hf (λo l=>t o (fS _ l)) (λo l=>q o (fS _ l)) (fH bl) (λo' u=>by
   subst u;obtain⟨m,pre,post,rfl⟩:=B o' rfl;have u:o'=Ns b:=vV A.1;subst u
   match ps,A.2,f with
   |.hid k'::ps,_,f=>
    match bl,f with
    |c::bl,_=>exact⟨c,rfl,C.bT _ _ (p 0 c rfl)⟩|[],f=>exact absurd f (by simp[dY]))
  let ⟨BI,k3,k4⟩:=q3 v s1 r z C hf (λo l=>t o (eV _ l)) (λo l=>q o (eV _ l))
  exact⟨_,.box hh P k3,Q.append k4⟩
 |.hid k::ps,b,x,fz,ow,bl,h,n,i=>by
  match bl,i with
  |[],i=>exact absurd i (by simp[dY])
  |b0::bl,i=>
  simp only[uF]at h;split at h;rotate_left;cases h;rename_i R e2;obtain⟨A,h⟩|⟨_,h⟩:=af h
  rotate_left;cases h;rw[zk]at A;obtain⟨rfl,rfl,rfl⟩:=h;have y:g.bT b=Z b0:=n 0 b0 rfl;have p:∀j bT,bl[j]?=Z bT->g.bT (Ns b+j)=Z bT:=λj bT h=>by have:=n (j+1) bT (by simpa using h);rwa [show b+(j+1)=Ns b+j by omega]at this
  have f:bl.length=dY ps:=by simpa[dY]using i
  let ⟨_,hx,hh,F,I,K⟩:=rV E hs y R
  let ⟨_,B⟩:=AA hs y R
  let ⟨q1,q2,q3⟩:=pR E hs e2 p f
  refine⟨λo l=>(eX.1 l).elim (F o) (q1 o),λo l=>(eX.1 l).elim (I o) (q2 o),λv s1 r z C hf t q=>?_⟩
  let ⟨DZ,P,Q⟩:=K v s1 r z C hf (λo l=>t o (fS _ l)) (λo l=>q o (fS _ l)) (fH bl) (λo' u=>by
   subst u;obtain⟨m,pre,post,rfl⟩:=B o' rfl;have u:o'=Ns b:=vV A.1;subst u
   match ps,A.2,f with
   |.hid k'::ps,_,f=>
    match bl,f with
    |c::bl,_=>exact⟨c,rfl,C.bT _ _ (p 0 c rfl)⟩|[],f=>exact absurd f (by simp[dY]))
  let ⟨BI,k3,k4⟩:=q3 v s1 r z C hf (λo l=>t o (eV _ l)) (λo l=>q o (eV _ l))
  exact⟨_,.hid hh P k3,Q.append k4⟩
theorem EE.iL{I:Nat->Prop}{w:World}{ps:L Pk}{x:iE S.A ps}{al:L fe}{bl:L Nat}(h:EE S I w ps x bl al):∀a∈al,∀b,a.at b->¬I b:=by
 induction h with
 |nil=>simp_all|one _ d=>exact d|box f h1 h2 d=>
  intro a c b e;obtain c|c:=eX.1 c
  exact h1.iL a c b e
  grind
 |hid f h1 h2 d=>
  intro a c b e;obtain c|c:=eX.1 c
  exact h1.iL a c b e
  grind
theorem RV{I:Nat->Prop}{w:World}{ps:L Pk}{x:gm S.A ps}{vs:L Value}{al:L fe}{bl:L Nat}(h:rJ S I w ps x vs al bl):dY ps=bl.length:=by
 induction h with|nil=>rfl|one _ _ a=>exact a|box _ _ _ a=>grind[dY]|hid _ _ _ a=>grind[dY]
def gh0(I:Nat->Prop)(bl:L Nat):Gh:=⟨λo=>bl[o]?,λ_ _=>Y,I⟩
def xU{I:Nat->Prop}{bl:L Nat}{o b:Nat}(h:bJ (gh0 I bl) o b):bl[o]?=Z b:=by obtain⟨_,h|⟨e,x,a,h,_⟩⟩:=h;exact h;cases h
theorem adg{I:Nat->Prop}{bl:L Nat}{w:World}(d:∀b,I b->b<w.heap.size)(f:bl.Nodup)(a:∀b∈bl,b<w.heap.size/\¬I b)(hn:bl.length<=bM) :
  aY (gh0 I bl) (aC (⟨.nil,bl.length,0,bl.length,[],[]⟩:bp S)) w:=by
 refine⟨hn,λo g=>⟨?_,λe=>rfl⟩,λo b h=>?_,λo e x h=>?_,d,λo k b h i=>?_⟩;exact List.getElem?_eq_none g;have c:=iA h;refine⟨(a b c).2,(a b c).1,λob j=>?_⟩
 grind[aJ,Tr.get_nil]
 cases h;have h1:=xU h;have h2:=xU i
 grind[List.getElem?_inj]
def Wg{E:eM S}{n d:Nat}{f:FuncId}{ps:L Pk}{a:L Ck}{x:gm S.A ps}{r:RT E.pn (gC S.A a×iE S.A ps) (den S.A S.pt×iE S.A ps)}(h:A3 E n d f ps a x=Z r) :
  (vY 0 ⟨.nil,dY ps,0,dY ps,[],[]⟩ ps x).2.aE<=bM/\aab E n d f (vY 0 ⟨.nil,dY ps,0,dY ps,[],[]⟩ ps x).1 (vY 0 ⟨.nil,dY ps,0,dY ps,[],[]⟩ ps x).2 (ag6 E.pn a ps) (ag5 E.pn a ps)=Z r:=by
 unfold A3 at h;obtain⟨_,h⟩|⟨b,h⟩:=af h
 cases h
 simp_all
def RT.ab6{R P:Type}:∀{a:Bool}{p:P}{r:RT a R P},RT.iJ a p=Z r->RT.res a r=.iJ p
 |false,_,_,h=>by cases h
 |true,_,_,h=>by cases h;rfl
theorem Hx{E:eM S}(hE:fu E)(y:∀call:gj S,gL E.T.E.P call->sY E call){f:FuncId}{fn:Func}{c:Code}(hfn:E.T.E.T4 f=Z fn)(hc:fn.body=Z c)(n d:Nat)(ps:L Pk)(rs:L Ck) :
  bG E.T.E.P f ⟨ps,rs,E.pn,A3 E n d f ps rs⟩:=by
 have hfs:=hE.US.T4 _ _ hfn;refine⟨⟨fn,hfs,by rw[hc];rfl,hE.name _ _ hfn⟩,λx r h I w vs al bl hp hI hap hnd MV=>?_⟩;dsimp only at x r h hp
 let ⟨B,h⟩:=Wg h
 have hlen:=RV hp;have z:=rj ps 0 (⟨.nil,dY ps,0,dY ps,[],[]⟩:bp S) x;have hn0:dY ps<=bM:=gk z B;have aqL:aY (gh0 I bl) (aC (⟨.nil,dY ps,0,dY ps,[],[]⟩:bp S)) w:=by have:=adg (S:=S) (w:=w) hI hnd (λb i=>⟨(MV b i).1,(MV b i).2.1⟩) (by omega);rwa [hlen]
 let ⟨g0,P,pY⟩:=Rh (b:=0) (g:=gh0 I bl) hp aqL (λj bT h=>by rw[yo];exact h) (λj hj=>⟨by simp;omega,λe=>rfl⟩)
  (λa C b i o k=>(MV b (iA (xU k))).2.2 a C i) hap B
 generalize vY 0 ⟨.nil,dY ps,0,dY ps,[],[]⟩ ps x=q at h B P pY z
 let ⟨args,s0⟩:=q
 dsimp only at h B P pY z;have agN:s0.fl=0:=P.fl;have aro:s0.lo=dY ps:=P.lo;simp[aab,hfn,hc]at h;obtain⟨i,h⟩|⟨_,h⟩:=af h
 rotate_left;cases h;rw[zk]at i;have Ep:args.length<=fn.ntmps:=by have:=gS i.1;rwa [bV]at this
 have pZ:fn.ntmps<bM:=gS i.2;have VY:=tP (n:=fn.ntmps) pZ Ep pY;have m:=O8 hE y n d;have core:∀(s':bp S)(g':Gh)(w':World),eJ s0 g0 w s' g' w'->∀(rs:L Ck)(t:V S)(v:Value)(r1:gC S.A rs×iE S.A ps),adq rs ps t s'=Z r1->aI g' w' (low t) v->E9 S I w ps rs r1 al bl v w':=by
  intro s0' g0' w' h50 rs t v r h2 ht0;unfold adq at h2;obtain⟨g',h5,ht⟩:=AB hE.sg (JB ps 0) (SA.of (JN:=dY ps) agN (λo A=>by rw[P.bT];exact⟨bl[o]'(by omega),iX _⟩) h50) ht0;generalize(JB ps 0).foldl (Gf t (dY ps)) s0'=s' at h2 h5;dsimp only at h2;split at h2;rotate_left;cases h2;rename_i r1 fz ow b1 fz' ow' e1 e2;split at h2;rotate_left;cases h2;rename_i s1 e3;obtain⟨i,h2⟩|⟨_,h2⟩:=af h2
  rotate_left;cases h2;simp at h2;subst h2;rw[zk]at i;have IS:=l6 i.1;have arQ:=zS i.2;obtain⟨vals,rfl,ako⟩:=FL ht e1;have alm:∀j bT,bl[j]?=Z bT->g'.bT (0+j)=Z bT:=λj bT h=>h5.bT _ _ (by have:=(Vg.1 h).1;omega) (by rw[P.bT,yo];exact h)
  let ⟨p1,p2,p3⟩:=gq hE.sg h5.rel e1 ako
  let ⟨q1,q2,q3⟩:=pR hE.sg h5.rel e2 alm hlen.symm
  have hfr:=dz hE.sg _ e3
  let ⟨g1,l,F,hfz⟩:=eF (fz++fz') h5.rel hfr (λo A=>(eX.1 A).elim (p1 o) (q1 o))
  let ⟨f1,f2,f3,f4,f5,f6,f7⟩:=eL e3
  have hsame:∀o∈ow++ow',(aC s1).ob.get o=(aC s').ob.get o:=λo A=>by rw[aJ,aJ,f6 o (arQ o A)]
  let ⟨BI,K,k2⟩:=p3 g1 (aC s1) (fz++fz') l F hfz (λo A=>fS _ A) (λo A=>hsame o (fS _ A))
  let ⟨DZ,k3,k4⟩:=q3 g1 (aC s1) (fz++fz') l F hfz (λo A=>eV _ A) (λo A=>hsame o (eV _ A))
  have ara:=K.iL;have arb:=k3.iL;have hmem:∀a∈DZ++BI,a∈BI++DZ:=λa C=>eX.2 ((eX.1 C).symm);have hni:∀a∈BI++DZ,∀b,a.at b->¬g1.bx b:=λa C=>(eX.1 C).elim (ara a) (arb a);have hAL:=k2.append k4;have hown:=hAL.owned hni;have p:=hAL.apart l IS hni;have hfl':s'.fl=0:=h5.fl.trans agN;have akR:s'.lo=dY ps:=h5.lo.trans aro;have akF:∀o b,bJ g1 o b->(b∈bl\/∃a∈al,a.at b)\/w.heap.size<=b:=by
   intro o b k;obtain k|hge:=F.own o b k
   obtain⟨Q,V6⟩|hge:=h5.own o b k
   obtain V6|⟨a,C,hab⟩:=P.own Q b V6
   exact .inl (.inl (iA (xU V6)))
   grind
   omega;have:=h5.size;omega
  have s:∀b∈bl,∃o,o<dY ps/\g1.bT o=Z b:=by intro b i;obtain⟨j,hj,rfl⟩:=rQ i;exact⟨0+j,by omega,F.bT _ _ (alm j _ (iX hj))⟩
  refine⟨g1.bx,vals,DZ,BI,λb i=>F.bx b (h5.bx b (P.bx▸i)),λb i=>?_,l.bx,h5.size,λb i B hna=>?_,h5.os,h5.output,rfl,k3,K,?_,λa C b hab=>?_,λb i=>⟨?_,λa C hab=>?_⟩⟩;have h0:∀o,bJ g0 o b->I b\/w.heap.size<=b\/∃a∈al,a.at b:=λo k=>by
   obtain k|h:=P.own o b k
   let ⟨Q,_,u⟩:=s b (iA (xU k))
   exact absurd i (l.box Q b u).1
   simp_all
  obtain i|i|⟨o,_,k⟩:=F.oD b i
  obtain i|i|⟨o,k⟩:=h5.oD b i
  exact .inl (by rw[P.bx]at i;exact i);omega
  grind
  have:=h5.size;omega;obtain⟨Q,V6⟩|hge:=h5.own o b k
  grind
  omega;refine h5.heap b i λo k=>?_;obtain k|⟨a,C,hab⟩:=P.own o b k
  exact B (iA (xU k))
  simp_all
  refine uz.2 ⟨(uz.1 p).2.1,(uz.1 p).1,λa C a' ha' b h1 h2=>(uz.1 p).2.2 a' ha' a C b h2 h1⟩
  let ⟨o,A,k⟩:=hown a (hmem a C) b hab
  obtain(h|h)|h:=akF o b k
  let ⟨Q,ho',u⟩:=s b h
  have:=l.j6 o Q b k ⟨(l.box Q b u).1,.inl u⟩
  grind
  exact .inl h;omega
  let ⟨Q,ho',u⟩:=s b i
  exact(l.box Q b u).1
  let ⟨o,A,k⟩:=hown a (hmem a C) b hab
  let ⟨Q,ho',u⟩:=s b i
  have:=l.j6 o Q b k ⟨(l.box Q b u).1,.inl u⟩
  grind
 refine sO hfs hc (wpIn_mono (qt hE m (y _ m) n f _ c 0 h (λh=>absurd rfl h) (Jt pZ) (by omega) VY P.rel) λe a' w' hq=>?_);obtain hF|⟨ex,fr',s',g',h1,h2,h3,h4,h5,h6⟩:=hq
 exact hF.elim;refine wP hE m (y _ m) n (R:=yc S I w ps rs (RT.res E.pn r) al bl) h2 h1 h4 h5.rel (λt s'' g'' v w'' K k2 k3=>?_) (λt s'' g'' v w'' K k2 k3=>?_)
 .unfold ag6 at K;split at K;rotate_left;cases K;rename_i r1 e1;simp at K;have e2:RT.res E.pn r=.ok r1:=by rw[<-K];cases E.pn<;>rfl
  simp[yc,e2];exact core _ _ _ (h5.trans k3.toW) rs _ v r1 e1 k2
 .simp[ag5]at K;split at K;rotate_left;cases K;rename_i r1 e1;have e2:RT.res E.pn r=.iJ (r1.1.1,r1.2):=RT.ab6 K;simp only[yc,e2];exact⟨v,rfl,core _ _ _ (h5.trans k3.toW) [.dat S.pt] t v r1 e1 k2⟩
section
section
variable {fr fr':ck S}{s s':bp S}
theorem wq:∀{l:L Operand},(∀x∈l,cF fr x=cF fr' x)->ko fr l=ko fr' l
 |[],_=>rfl|x::l,h=>by simp[ko,h x eI,wq λy a=>h y (hJ _ a)]
theorem kR:∀{l:L (Nat×Operand)},(∀x∈l.map (·.2),cF fr x=cF fr' x)->ja fr l=ja fr' l
 |[],_=>rfl|(k,x)::l,h=>by simp[ja,h x (by simp),kR λy a=>h y (by simp at a ⊢;exact .inr a)]
theorem Q1:∀{x:O Operand},(∀y∈x.toList,cF fr y=cF fr' y)->Li fr x=Li fr' x
 |none,_=>rfl|some x,h=>by simp[Li,h x (by simp)]
theorem Q3(E:gi)(s:bp S)(o:Op)(h:∀x∈o.operands.toList,cF fr x=cF fr' x):cM E fr s o=cM E fr' s o:=by
 cases o with
 |buildSlice t n c=>
  grind[Op.operands,cM,kR]
 |build t c=>
  grind[Op.operands,cM,kR]
 |makeFunc f a b=>
  grind[Op.operands,cM,wq]
 |slice t x l d m=>
  grind[Op.operands,cM,Q1]
 |alloc=>rfl|box t x=>grind[Op.operands,cM]|move x=>grind[Op.operands,cM]|assign x=>grind[Op.operands,cM]|pick x y z=>grind[Op.operands,cM]|load t x=>grind[Op.operands,cM]|store t x y=>grind[Op.operands,cM]|nilCheck x=>grind[Op.operands,cM]|binOp op t x y u=>grind[Op.operands,cM]|unOp op t x=>grind[Op.operands,cM]|convert t u x=>grind[Op.operands,cM]|makeInterface t x=>grind[Op.operands,cM]|extract x k=>grind[Op.operands,cM]|fieldAddr t x k=>grind[Op.operands,cM]|field t x k=>grind[Op.operands,cM]|indexAddr t x k=>grind[Op.operands,cM]|index t x k=>grind[Op.operands,cM]|typeAssert x t u ok=>grind[Op.operands,cM]|_=>rfl
theorem Ot:∀{x:O Operand},(∀y∈x.toList,cF fr y=cF fr' y)->Ou fr x=Ou fr' x
 |none,_=>rfl|some x,h=>by simp[Ou,h x (by simp)]
theorem Vs(E:gi)(s:bp S)(o:Op)(h:∀x∈o.operands.toList,cF fr x=cF fr' x):um E fr s o=um E fr' s o:=by
 cases o with
 |makeMap t r=>
  grind[um,Ot,Op.operands]
 |lookup t x d ok=>grind[Op.operands,um]|mapUpdate t x d y=>grind[Op.operands,um]|insert t x d y=>grind[Op.operands,um]|makeSlice t n c=>grind[Op.operands,um]|range t x=>grind[Op.operands,um]|nilCheck x=>grind[Op.operands,um]|typeAssert x t u ok=>grind[Op.operands,um]|build t e=>
  grind[Op.operands,um,kR]
 |binOp op t x y u=>
  have b:cF fr x=cF fr' x:=h x (by simp[Op.operands]);cases op<;>first
   |rfl|(
     cases y with
     |const v=>
      cases v with
      |nilIface=>simp only[um,b]|pointer a=>cases a<;>first|rfl|simp only[um,b]
      |slice a n m=>cases a<;>cases n<;>cases m<;>first|rfl|simp[um,b]
      |_=>rfl
     |_=>rfl)
 |_=>rfl
theorem Vv(E:gi)(s:bp S)(o:Op)(h:∀x∈o.operands.toList,cF fr x=cF fr' x):BG E fr s o=BG E fr' s o:=by
 cases o with
 |indexAddr t x f=>grind[Op.operands,BG]|load t a=>grind[Op.operands,BG]|store t a x=>
  simp[Op.operands]at h;cases x with|tmp k=>have h2:fr.get k=fr'.get k:=h.2;simp[BG,h.1,h2]|_=>rfl
 |buildSlice t n g=>
  simp[BG];split;rename_i b c;have h2:fr.get b=fr'.get b:=h (.tmp b) (by
   grind[Op.operands])
  simp[h2];rfl;rfl
 |slice t x lo d e=>
  cases lo<;>cases d<;>cases e<;>first
   |rfl|(
     rename_i y;have h1:cF fr x=cF fr' x:=h x (by simp[Op.operands]);have h2:cF fr y=cF fr' y:=h y (by simp[Op.operands]);simp only[BG,h1,h2])
 |_=>rfl
def JD(E:gi)(s:bp S)(o:Op)(h:∀x∈o.operands.toList,cF fr x=cF fr' x):AD E fr s o=AD E fr' s o:=by unfold AD;rw[Vv E s o h,Q3 E s o h,Vs E s o h]
theorem JE(E:gi)(s:bp S)(o:Op)(h:∀x∈o.operands.toList,cF fr x=cF fr' x):ir E fr s o=ir E fr' s o:=by
 cases o with
 |next c b=>simp[Op.operands]at h;cases b<;>first|rfl|simp[ir,h]
 |lookup t x a ok=>grind[Op.operands,ir]|index t x a=>grind[Op.operands,ir]|_=>rfl
theorem CE{c:Call}(h:∀x∈c.operands.toList,cF fr x=cF fr' x):ko fr c.args.toList=ko fr' c.args.toList/\(∀f,c.callee=.value f->cF fr f=cF fr' f)/\∀x m,c.callee=.invoke x m->cF fr x=cF fr' x:=by
 grind[Call.operands,wq]
theorem A2(E:eM S)(call:gj S)(o:Oper)(s:bp S){ω:Type}(kp:V S->bp S->O ω)(k:V S->bp S->L Nat->O ω)(h:∀x∈o.op.operands.toList,cF fr x=cF fr' x) :
  uS E call o fr s kp k=uS E call o fr' s kp k:=by
 unfold uS;have a:=JD E.T s o.op h;have d:=JE E.T s o.op h;cases e:o.op with
 |call c=>
  rw[e]at h
  let ⟨h1,h2,h3⟩:=CE h
  dsimp only;rw[h1];cases g:c.callee with|value f=>simp_all|builtin b=>rfl|invoke x m=>simp_all
 |panic x=>
  grind[Op.operands]
 |_=>rw[e]at a d;simp only[a,d]
theorem iQ(E:eM S)(g:O Bool)(o:Oper)(s:bp S){ω:Type}(k:V S->O ω)(h:∀x∈o.op.operands.toList,cF fr x=cF fr' x) :
  fI E g fr s o k=fI E g fr' s o k:=by
 unfold fI;have a:=JD E.T s o.op h;have b:=JE E.T s o.op h;cases d:o.op with
 |call c=>
  grind[Op.operands,CE]
 |buildSlice t n e=>
  grind[Op.operands,kR]
 |slice t x l f m=>
  grind[Op.operands]
 |_=>first|rfl|(rw[d]at a b;simp only[a,b])
theorem La(E:eM S)(o:Oper)(h:∀x∈o.op.operands.toList,cF fr x=cF fr' x):BU E fr o=BU E fr' o:=by
 unfold BU;cases a:o.op with
 |call c=>
  grind[Op.operands,CE]
 |buildSlice t n b=>
  grind[Op.operands,kR]
 |slice t x l d m=>
  grind[Op.operands]
 |_=>rfl
def tmpsOf(o:Op):L Nat:=o.operands.toList.filterMap λx=>match x with|.tmp k=>Z k|_=>Y
theorem ju{o:Op}(h:∀k∈tmpsOf o,fr.get k=fr'.get k):∀x∈o.operands.toList,cF fr x=cF fr' x:=by intro x a;cases x with|tmp k=>exact h k (Ax.2 ⟨.tmp k,a,rfl⟩)|_=>rfl
theorem r7{o:Op}(c:∀k∈tmpsOf o,k<bM)(h:∀k∈tmpsOf o,fr.get k=fr'.get k):∀k∈tmpsOf o,(r8 fr o).get k=(r8 fr' o).get k:=by
 have key:∀(l:L Operand)(f a:ck S),(∀k,.tmp k∈l->k∈tmpsOf o)->(∀k∈tmpsOf o,f.get k=a.get k)->∀k∈tmpsOf o,
   (l.foldl (λf x=>match x with
    |.tmp k=>match fr.get k with
     |some (.gd _ v)=>f.put k v|_=>f
    |_=>f) f).get k=(l.foldl (λf x=>match x with
    |.tmp k=>match fr'.get k with
     |some (.gd _ v)=>f.put k v|_=>f
    |_=>f) a).get k:=by
  intro l
  induction l with
  |nil=>simp_all|cons x l d=>
   intro f a e g k b;simp
   grind[ck.j0]
 exact key _ _ _ (λk b=>Ax.2 ⟨.tmp k,b,rfl⟩) h
theorem uP{o:Op}(c:Bool)(h:∀k∈tmpsOf o,fr.get k=fr'.get k):Oy c fr o=Oy c fr' o:=by
 have key:∀(l:L Operand)(q:Bool),(∀k,.tmp k∈l->k∈tmpsOf o)->
   l.foldl (λp x=>match x with
    |.tmp k=>match fr.get k with
     |some (.gd g _)=>p&&imp c g|_=>p
    |_=>p) q=l.foldl (λp x=>match x with
    |.tmp k=>match fr'.get k with
     |some (.gd g _)=>p&&imp c g|_=>p
    |_=>p) q:=by
  intro l
  induction l with
  |nil=>intro q _;rfl
  |cons x l b=>
   grind
 exact key _ _ (λk a=>Ax.2 ⟨.tmp k,a,rfl⟩)
def oH(ops:L Oper)(o:Oper):O Nat:=match o.guard with
 |none=>Y|some (j,_)=>(nth ops j).bind (·.dst)
def p8{ops:L Oper}{o:Oper}(h:∀k,oH ops o=Z k->fr.get k=fr'.get k):iO ops fr o=iO ops fr' o:=by
 unfold iO;cases b:o.guard with
 |none=>rfl|some p=>
  let ⟨j,a⟩:=p
  dsimp only;cases c:(nth ops j).bind (·.dst)with|none=>rfl|some k=>simp;rw[h k (by simp[oH,b,c])]
theorem rT{ops:L Oper}{o:Oper}(h:∀k,oH ops o=Z k->fr.get k=fr'.get k):vF ops fr o=vF ops fr' o:=by
 unfold vF;cases b:o.guard with
 |none=>rfl|some p=>
  let ⟨j,a⟩:=p
  dsimp only;cases c:(nth ops j).bind (·.dst)with|none=>rfl|some k=>simp;rw[h k (by simp[oH,b,c])]
theorem IW(E:eM S)(call:gj S){ops:L Oper}{o:Oper}(s:bp S){ω:Type}(kp:V S->bp S->O ω)(k:V S->bp S->L Nat->O ω)(hn:fr.n=fr'.n)(b:∀k∈tmpsOf o.op,k<bM)
  (h:∀k∈tmpsOf o.op,fr.get k=fr'.get k) (a:∀k,oH ops o=Z k->fr.get k=fr'.get k):p9 E call ops o fr s kp k=p9 E call ops o fr' s kp k:=by
 unfold p9;have h1:gN fr o.dst=gN fr' o.dst:=by cases o.dst<;>simp only[gN,hn]
 have h2:=ju h;have h3:=ju (r7 b h);rw[h1,p8 a,rT a];simp[A2 E call o s kp k h2,A2 E call o s kp k h3,La E o h3,uP (o:=o.op) _ h]
 grind[iQ]
end
theorem HO{ω:Type}(k:V S->O ω){D:O ω}{a:O (V S)}(h:D=a.bind k):∀l:L (Bool×V S×bp S),xe k D l=(xe Z a l).bind k
 |[]=>h|p::l=>by simp[xe,HO k h l];cases p.1<;>rfl
theorem AZ(E:eM S)(g:O Bool)(fr:ck S)(s:bp S)(o:Oper){ω:Type}(k:V S->O ω):fI E g fr s o k=(fI E g fr s o Z).bind k:=by
 have a:∀(p:Bool)(t:V S),zF g p (k t)=(zF g p (Z t)).bind k:=by
  intro p t;cases g with
  |none=>cases p<;>rfl
  |some c=>cases c<;>cases p<;>rfl
 unfold fI;split;split;rfl;split
 grind
 split;rfl;split;rfl
 .rename_i c _;cases(cC c.ps&&(jS c.rs&&(jX _&&!c.pn)))with
  |false=>rfl|true=>
   split;unfold ah
   grind
   rfl
 rfl
 iterate 11
  rfl
 grind
 grind
 grind[HO]
def Sm(s s':bp S)(v:V S):Prop:=∀o,cN (Nq o) v=W->s'.ob.get o=s.ob.get o
def Sms(s s':bp S)(l:L (V S)):Prop:=∀o,iN (Nq o) l=W->s'.ob.get o=s.ob.get o
variable {v:V S}
def Sms.cons{s s':bp S}{l:L (V S)}(h:Sms s s' (v::l)):Sm s s' v/\Sms s s' l:=
 ⟨λo a=>h o (by simp[iN,a]),λo a=>h o (by simp[iN,a])⟩
theorem BP{s s':bp S}{v:V S}(h:Sm s s' v)(e:Ty):KQ s' e v=KQ s e v:=by
 cases v with
 |sh o r=>simp[KQ,h o (by simp[cN])]
 |ty t x=>cases t<;>rfl
 |_=>rfl
def Un{s s':bp S}{o:Nat}(h:s'.ob.get o=s.ob.get o)(e:Nat):Mi s' o e=Mi s o e:=by simp[Mi,h]
mutual
def Ag{s s':bp S}:∀(t:Ty)(v:V S),Sm s s' v->vX v=W->bX s' t v=bX s t v
 |t,.agg c,h,b=>by cases t with|st n=>simp[bX,M8 (S.fs n) c h b]|_=>simp only[bX]
 |t,.dj u v,h,b=>by
  cases t with
  |dj n=>
   simp[bX];cases xh (S.alts n) u with|none=>rfl|some i=>simp[Ag (nB (S.alts n) i) v h b]
  |_=>simp only[bX]
 |t,.sh o r,_,b=>by simp[vX]at b
 |t,.sC _ _ _ _,_,b=>by rfl
 |t,.qd _ _ _,_,_=>by cases t<;>simp only[bX]
 |t,.ty _ _,_,_=>by rfl
 |t,.kb _,_,_=>by cases t<;>simp only[bX]
 |t,.kn _ _,_,_=>by cases t<;>simp only[bX]
 |t,.dat d,_,_=>by
  cases t with
  |dj n=>
   cases d with
   |lit v=>cases v<;>simp only[bX]
   |_=>simp only[bX]
  |opt n=>
   cases d with
   |lit v=>cases v with
    |pointer a=>cases a<;>simp only[bX]
    |_=>simp only[bX]
   |_=>simp only[bX]
  |_=>simp only[bX]
 |t,.ptr _ _,_,_=>by cases t<;>simp only[bX]
 |t,.mc _ _ _,_,_=>by cases t<;>simp only[bX]
 |t,.l9 _ _ _ _,_,_=>by cases t<;>simp only[bX]
 |t,.emp,_,_=>by cases t<;>simp only[bX]
 |t,.kM _ _ _,_,_=>by cases t<;>simp only[bX]
 |t,.fn _ _ _,_,_=>by cases t<;>simp only[bX]
 |t,.gR _,_,_=>by cases t<;>simp only[bX]
 |t,.gd _ _,_,_=>by cases t<;>simp only[bX]
 |t,.mp _,_,_=>by cases t<;>simp only[bX]
 |t,.rP _,_,_=>by cases t<;>simp only[bX]
 |t,.uo _,_,_=>by cases t<;>simp only[bX]
 |t,.ub _,_,_=>by cases t<;>simp only[bX]
def M8{s s':bp S}:∀(ts:L Ty)(l:L (V S)),Sms s s' l->jX l=W->om s' ts l=om s ts l
 |[],[],_,_=>rfl|t::ts,v::l,h,a=>by simp[jX,eW]at a;simp[om,Ag t v h.cons.1 a.1,M8 ts l h.cons.2 a.2]
 |[],_::_,_,_=>rfl|_::_,[],_,_=>rfl
end
def gp(r:nZ S):O (Bool×V S):=match r with
 |some (c,t,_)=>Z (c,t)|none=>Y
theorem qw{b:Bool}{x y:nZ S}(h:b=W->gp x=gp y):gp (bif b then x else Y)=gp (bif b then y else Y):=by
 grind
theorem RM{b:Bool}{x y x' a:nZ S}(h:gp x=gp x')(c:gp y=gp a):gp (bif b then x else y)=gp (bif b then x' else a):=by
 grind
theorem gz{α:Type}(x:O α)(f g:α->Bool×V S×bp S)(h:∀a,(f a).1=(g a).1/\(f a).2.1=(g a).2.1):gp (x.map f)=gp (x.map g):=by cases x with|none=>rfl|some a=>grind[gp]
section
variable {fr:ck S}{s s':bp S}
theorem Yz(i:TI)(τ:O Ty){a:V S}(h:Sm s s' a):gp (yN i τ s' a)=gp (yN i τ s a):=by
 cases a with
 |ptr o off=>
  simp[yN,h o (by simp[cN])];cases s.ob.get o with
  |none=>rfl|some ob=>
   cases ob with
   |box b=>
    dsimp only;cases Nq (cH ((b.drop off).take i.size)) i.size with|false=>rfl|true=>exact gz _ _ _ λ_=>⟨rfl,rfl⟩
   |_=>rfl
 |mc t x off=>exact gz _ _ _ λ_=>⟨rfl,rfl⟩|l9 o e k off=>
  simp[yN,Un (h o (by simp[cN]))];cases Mi s o e with|none=>rfl|some x=>exact gz _ _ _ λ_=>⟨rfl,rfl⟩
 |_=>rfl
theorem IQ(i:TI)(τ:O Ty){a b:V S}(h:Sm s s' a):gp (kC i τ s' a b)=gp (kC i τ s a b):=by
 unfold kC;split
 .rename_i e n c _;cases a with
  |sh o r=>
   simp[Un (h o (by simp[cN]))];cases Mi s o r with|none=>rfl|some x=>dsimp only;cases sr x.1 e<;>rfl
  |ty t x=>dsimp only;rw[BP h];cases KQ s e (.ty t x)<;>rfl
  |emp=>rfl|kM n t l=>dsimp only;rw[BP h];cases KQ s e (.kM n t l)<;>rfl
  |qd n t l=>dsimp only;rw[BP h];cases KQ s e (.qd n t l)<;>rfl
  |_=>rfl
 unfold xd;split;rename_i k;cases Nt k _<;>rfl;rfl;rfl
theorem ab9(E:gi)(o:Op)(c:qR o=J)(h:∀x∈o.operands.toList,∀v,cF fr x=Z v->Sm s s' v):gp (cM E fr s' o)=gp (cM E fr s o):=by
 cases o with
 |alloc=>cases c
 |box=>cases c
 |store=>cases c
 |buildSlice=>cases c
 |slice=>cases c
 |move x=>exact gz _ _ _ λ_=>⟨rfl,rfl⟩|assign x=>exact gz _ _ _ λ_=>⟨rfl,rfl⟩|pick x y z=>simp[cM];split;exact gz _ _ _ λ_=>⟨rfl,rfl⟩;rfl
 |build t i=>simp[cM];split;split;exact gz _ _ _ λ_=>⟨rfl,rfl⟩;rfl;rfl
 |load t x=>
  grind[cM,Yz,Op.operands]
 |nilCheck x=>
  simp[cM];split<;>first|rfl|(split<;>rfl)
 |binOp op t x y u=>simp[cM];split;exact gz _ _ _ λ_=>⟨rfl,rfl⟩;rfl
 |unOp op t x=>simp[cM];split;exact gz _ _ _ λ_=>⟨rfl,rfl⟩;rfl
 |convert t u x=>simp[cM];split;unfold Ud;split;exact gz _ _ _ λ_=>⟨rfl,rfl⟩;exact gz _ _ _ λ_=>⟨rfl,rfl⟩;rfl;rfl
 |makeInterface t x=>simp[cM];split;split<;>rfl;rfl
 |makeFunc f a b=>simp[cM];split<;>rfl
 |extract x k=>simp[cM];split;unfold AX;split;exact gz _ _ _ λ_=>⟨rfl,rfl⟩;rfl;rfl
 |fieldAddr t x k=>
  simp[cM];split;unfold ry;split;split
  .rename_i off size d _;cases Nq size 0 with
   |true=>rfl|false=>
    first|rfl|(simp only[j7];split<;>rfl)
  rfl;rfl;rfl
 |field t x k=>
  simp[cM];split;unfold Cr;split;split
  .rename_i off size d e _ _;dsimp only;cases(Nq (cH ((e.drop off).take size)) size&&!(Nq size 0))with|false=>rfl|true=>exact gz _ _ _ λ_=>⟨rfl,rfl⟩
  rfl;rfl;rfl
 |indexAddr t x g=>
  grind[cM,IQ,Op.operands]
 |index t x g=>simp[cM];split;unfold Ci;split<;>rfl;rfl
 |typeAssert x a t ok=>
  simp[cM];split;rename_i v h1 h2;unfold E6;split;rfl
  .rename_i u v _;cases Nq u t with|true=>rfl|false=>exact gz _ _ _ λ_=>⟨rfl,rfl⟩
  rename_i u v _;cases Nq u t<;>rfl;rfl;rfl
 |_=>rfl
end
section
variable {fr:ck S}{s s':bp S}
theorem Kc{r a:nZ S}(h:gp r=gp a):r=Y↔a=Y:=by cases r<;>cases a<;>simp_all [gp]
def ack{s s':bp S}{kt a:Ty}(h:Sm s s' v):Yv s' kt a v=Yv s kt a v:=by unfold Yv;split;rename_i o;rw[h o (by simp[cN])];rfl;rfl;rfl
theorem afW(E:gi)(o:Op)(b:qR o=J)(c:∀x∈o.operands.toList,∀v,cF fr x=Z v->Sm s s' v):gp (um E fr s' o)=gp (um E fr s o):=by
 cases o with
 |makeMap=>cases b
 |mapUpdate=>cases b
 |insert=>cases b
 |makeSlice=>cases b
 |range=>cases b
 |lookup t x d ok=>simp[um];split;rename_i m e f h1 h2 h3;have:=c x (by simp[Op.operands]) _ h2;simp[ack this];split;split<;>rfl;rfl;rfl
 |nilCheck x=>simp[um];split<;>rfl
 |typeAssert x t u ok=>simp[um];split;rename_i τ n y _ _ _;split;rfl;rename_i j _ _;cases sr (nB (S.alts n) j) τ<;>cases ok<;>rfl;cases ok<;>rfl;rfl
 |build t g=>simp only[um];split;split;exact gz _ _ _ λ_=>⟨rfl,rfl⟩;rfl;rfl
 |binOp op t x y u=>
  cases op<;>first
   |rfl|(
     cases y with
     |const v=>
      cases v with
      |nilIface=>simp only[um];split<;>first|rfl|(split<;>rfl)
      |pointer a=>cases a<;>first|rfl|(simp only[um];split<;>first|rfl|(split<;>rfl))
      |slice a n m=>
       cases a<;>cases n<;>cases m<;>first
        |rfl|(
         simp[um];split;rename_i h2;have:=c x (by simp[Op.operands]) _ h2;simp[BP this];split<;>rfl;rfl)
      |_=>rfl
     |_=>rfl)
 |_=>rfl
theorem af0(E:gi)(o:Op)(b:qR o=J)(c:∀x∈o.operands.toList,∀v,cF fr x=Z v->Sm s s' v):gp (BG E fr s' o)=gp (BG E fr s o):=by
 cases o with
 |slice=>cases b
 |store=>cases b
 |buildSlice=>cases b
 |indexAddr t x d=>simp[BG];split;rename_i o r h1;rw[c x (by simp[Op.operands]) _ h1 o (by simp[cN])];split;split;split;exact qw λ_=>rfl;rfl;rfl;rfl;rfl
 |load t a=>simp only[BG];split;rename_i o e k off h1;rw[c a (by simp[Op.operands]) _ h1 o (by simp[cN])];split;split;exact qw λ_=>RM (qw λ_=>rfl) (qw λ_=>gz _ _ _ λ_=>⟨rfl,rfl⟩);rfl;rfl;rfl
 |_=>rfl
theorem TF(E:gi){o:Op}(a:gp (BG E fr s' o)=gp (BG E fr s o))(h1:gp (cM E fr s' o)=gp (cM E fr s o))(h2:gp (um E fr s' o)=gp (um E fr s o)):gp (AD E fr s' o)=gp (AD E fr s o):=by
 grind[AD,Kc]
theorem afX(E:gi)(o:Op)(a:qR o=J)(b:∀x∈o.operands.toList,∀v,cF fr x=Z v->Sm s s' v):gp (AD E fr s' o)=gp (AD E fr s o):=by
 grind[ab9,afW,af0,TF]
def I0(a:L (Bool×V S×bp S)):L (Bool×V S):=a.map λp=>(p.1,p.2.1)
def Kq{ω:Type}(k:V S->O ω)(d:O ω):∀{l m:L (Bool×V S×bp S)},I0 l=I0 m->xe k d l=xe k d m
 |[],[],_=>rfl|p::l,q::m,h=>by simp[I0,pN,NN,fC]at h;simp[xe,h.1.1,h.1.2,Kq k d (l:=l) (m:=m) h.2]
 |[],_::_,h=>by simp[I0]at h
 |_::_,[],h=>by simp[I0]at h
def Z1(r:O (L (Bool×V S×bp S)×Bool×V S×bp S)):O (L (Bool×V S)×Bool×V S):=match r with
 |none=>Y|some (l,p,d,_)=>Z (I0 l,p,d)
def HP(n:Int)(ag:Bool)(sz:Nat)(cs:L (V S))(s s':bp S):∀l:L Nat,I0 (zR n ag sz cs s' l)=I0 (zR n ag sz cs s l)
 |[]=>rfl|j::l=>by simp only[zR];split;simp[I0,pN,NN,true_and];exact HP n ag sz cs s s' l;rfl
def afY(E:gi)(o:Op)(b:qR o=J)(c:∀x∈o.operands.toList,∀v,cF fr x=Z v->Sm s s' v):Z1 (ir E fr s' o)=Z1 (ir E fr s o):=by
 cases o with
 |next=>cases b
 |lookup t x d ok=>
  simp[ir];split;rename_i a e h1 h2 h3;have:=c x (by simp[Op.operands]) _ h2 a (by simp[cN]);rw[this];split;split
  simp_all[Z1,I0]
  rfl;rfl;rfl
 |index t x d=>
  simp[ir];split;rename_i i f e _ _ _;split
  .cases Nq (cH f) i.size with|false=>rfl|true=>simp[iq,Z1,HP _ _ _ _ s s']
  rfl;rfl
 |_=>rfl
end
def J7{s s':bp S}{e:Ty}:∀{ps:L (Nat×V S)}{es:L (den S.A e)},(∀p∈ps,Sm s s' p.2)->(∀p∈ps,vX p.2=W)->oW s' e es ps=oW s e es ps
 |[],es,_,_=>rfl|(k,v)::ps,es,h,b=>by simp[oW,Ag e v (h _ eI) (b _ eI)];cases bX s e v with|none=>rfl|some x=>dsimp only;rw[J7 (λp a=>h p (hJ _ a)) (λp a=>b p (hJ _ a))]
theorem Gb{fr:ck S}:∀{ps:L (Nat×Operand)}{l:L (Nat×V S)},ja fr ps=Z l->∀p∈l,∃x∈ps.map (·.2),cF fr x=Z p.2
 |[],l,h,p,a=>by grind[ja]
 |(k,x)::ps,l,h,p,a=>by
  simp[ja]at h;split at h;rename_i h2;simp at h;subst h;obtain rfl|a:=fV.1 a
  simp_all
  let ⟨y,b,h⟩:=Gb h2 p a
  grind
  cases h
theorem JC{fr:ck S}:∀{ps:L Operand}{l:L (V S)},ko fr ps=Z l->∀v∈l,∃x∈ps,cF fr x=Z v
 |[],l,h,p,a=>by grind[ko]
 |x::ps,l,h,p,a=>by
  simp[ko]at h;split at h;rename_i h2;simp at h;subst h;obtain rfl|a:=fV.1 a
  simp_all
  let ⟨y,b,h⟩:=JC h2 p a
  grind
  cases h
theorem UW(i:TI)(τ:O Ty){s s':bp S}{v:V S}(hs:∀e,KQ s' e v=KQ s e v)(f:NZ v=[])(l h m:O (V S)):gp (wg i τ s' v l h m)=gp (wg i τ s v l h m):=by
 unfold wg;rw[f];simp[dV,hs];split;split;split<;>rfl;rfl
 .rename_i e lo _;cases i.kd with
  |slice a b c d=>
   cases KQ s e v with
   |none=>rfl|some g=>
    dsimp only;cases CL (ak g) h with
    |none=>rfl|some j=>
     cases m with
     |none=>rfl|some y=>
      cases h with
      |none=>rfl|some z=>
       cases y with
       |kn k n=>
        cases k with
        |i64=>cases n with
         |ofNat n=>cases n<;>rfl
         |negSucc n=>rfl
        |_=>rfl
       |ty t x=>dsimp only;cases g8 .i64 (V.ty (S:=S) t x)<;>rfl
       |_=>rfl
  |_=>rfl
 rfl
def JA{s s':bp S}:∀{ps:L Pk}{l:L (V S)},cC ps=W->(∀v∈l,Sm s s' v)->jX l=W->eK s' ps l=eK s ps l
 |[],[],_,_,_=>rfl|.one (.dat t)::ps,v::l,a,h,b=>by simp[jX,eW]at b;simp[eK,pF,Ag t v (h v eI) b.1,JA (ps:=ps) (by simpa[cC]using a) (λv c=>h v (hJ _ c)) b.2]
 |.one (.own _)::_,_,a,_,_=>by simp[cC]at a
 |.one (.ku ..)::_,_,a,_,_=>by simp[cC]at a
 |.one (.nil _)::_,_,a,_,_=>by simp[cC]at a
 |.one (.ptr _)::_,_,a,_,_=>by simp[cC]at a
 |.box _::_,_,a,_,_=>by simp[cC]at a
 |[],_::_,_,_,_=>rfl|.one _::_,[],_,_,_=>rfl
def zq{p:Nat->Bool}:∀{l:L (V S)}{v:V S},v∈l->cN p v=W->iN p l=W
 |a::l,v,h,b=>by
  obtain rfl|h:=fV.1 h
  simp[iN,b];simp[iN,zq h b]
def Ex(E:gi){s s':bp S}{ts:Array TypeId}{args:L (V S)}(h:∀v∈args,Sm s s' v):gp (iy E s' .len ts args)=gp (iy E s .len ts args):=by
 unfold iy;split;rename_i _;split;split<;>rfl;split;rw[BP (h _ (by simp))];exact gz _ _ _ λ_=>⟨rfl,rfl⟩;rfl;rfl
 simp_all
 rfl
theorem CH(E:gi){s s':bp S}{b:Builtin}(a:EL b=W){ts:Array TypeId}{args:L (V S)}(h:∀v∈args,Sm s s' v):gp (lV E s' b ts args)=gp (lV E s b ts args):=by
 have h1:gp (iy E s' b ts args)=gp (iy E s b ts args):=by cases b with|len=>exact Ex E h|max=>rfl|min=>rfl|_=>cases a
 have h2:gp (ua E s' b ts args)=gp (ua E s b ts args):=by unfold ua;split;rename_i o;rw[h (.mp o) (by simp) o (by simp[cN])];split<;>rfl;split<;>rfl;split<;>rfl;rfl
 have c:gp (m9 E s' b ts args)=gp (m9 E s b ts args):=by unfold m9;split;rename_i o r;rw[h (.sh o r) (by simp) o (by simp[cN])];split;split;split;exact qw λ_=>rfl;rfl;rfl;rfl;cases a;cases a;rfl
 have h3:gp (uc E s' b ts args)=gp (uc E s b ts args):=by cases b<;>first|rfl|cases a
 grind[lV,Kc]
def afA{α:Type}(f:Bool->V S->O α)(r:nZ S):O α:=match r with
 |none=>Y|some (p,t,_)=>f p t
def Ba{α:Type}{r a:nZ S}(h:gp r=gp a)(f:Bool->V S->O α):afA f r=afA f a:=by
 cases r with
 |none=>cases a with|none=>rfl|some x=>cases h
 |some x=>cases a with
  |none=>cases h
  |some y=>simp[gp,gP,fC]at h;simp[afA];rw[h.1,h.2]
theorem Hf(E:eM S)(g:O Bool){fr:ck S}{s s':bp S}(o:Oper){ω:Type}(k:V S->O ω)(i:∀x∈o.op.operands.toList,∀v,cF fr x=Z v->Sm s s' v) :
  fI E g fr s' o k=fI E g fr s o k:=by
 unfold fI;have A:qR o.op=J->gp (AD E.T fr s' o.op)=gp (AD E.T fr s o.op):=λhq=>afX E.T o.op hq i;cases B:o.op with
 |call c=>
  rw[B]at i;simp only[Op.operands,Call.operands,Vc,eX]at i;dsimp only;cases ha:ko fr c.args.toList with
  |none=>rfl|some args=>
   have w:∀v∈args,Sm s s' v:=λv z=>by
    grind[JC]
   cases K:c.callee with
   |value f=>
    dsimp only;cases hf:cF fr f with
    |none=>rfl|some v=>
     simp;have z:=i f (.inl (by rw[K];simp)) v hf;cases d:qf v args with
     |none=>rfl|some q=>
      let ⟨f',j⟩:=q
      dsimp only;cases hg:E.IU f' with
      |none=>rfl|some c'=>
       dsimp only;have m:∀v∈j,Sm s s' v:=by
        unfold qf at d;split at d;obtain⟨_,rfl⟩:=d;intro u hu;simp only[eX]at hu;obtain(hu|hu)|hu:=hu
        exact λo P=>z o (by simp[cN,zq hu P])
        grind
        exact λo P=>z o (by simp[cN,zq hu P]);cases d
       cases Q:cC c'.ps with
       |false=>rfl|true=>
        cases R:jX j with|false=>simp|true=>rw[JA Q m R]
   |builtin b=>
    dsimp only;cases hb:EL b with
    |false=>rfl|true=>
     have:=Ba (CH E.T hb (ts:=c.argTypes) w) (λp t=>zF g p (k t));cases h1:lV E.T s' b c.argTypes args with
     |none=>cases h2:lV E.T s b c.argTypes args with|none=>rfl|some y=>rw[h1,h2]at this;exact this
     |some x=>cases h2:lV E.T s b c.argTypes args with|none=>rw[h1,h2]at this;exact this|some y=>rw[h1,h2]at this;exact this
   |invoke=>rfl
 |buildSlice t n ps=>
  rw[B]at i;simp only[Op.operands]at i;dsimp only;cases C:ja fr ps.toList with
  |none=>rfl|some l=>
   dsimp only;cases r:jX (l.map (·.2))with
   |false=>rfl|true=>
    refine Ba ?_ (λp t=>zF g p (k t));refine TF E.T ?_ ?_ rfl;simp[BG];split;rename_i kx F;split;split;split;refine qw λ_=>?_;have hmm:=i (.tmp kx) (by rw[F];simp);rename_i I _ _ _ _ _ _ _ _ _ _ _ _;rw[F]at C;simp[ja,cF,I,gP]at C;subst C;simp[pN,List.map_nil,jX,Dr]at r;rw[Ag _ _ (hmm _ I) r];split;rename_i LH;have:=tK _ _ _ r LH;subst this;rfl;rfl;rfl;rfl;rfl;split;split;cases Nq n 0<;>rfl;rfl;rfl;rfl;simp only[cM,C];split;rename_i e ps' h1 h2 h3;cases h3;split
    .rename_i sz _ _ _ _;cases Nl (Nat.mul n sz) 16777216 with
     |false=>rfl|true=>
      rw[J7 (λp hp=>by
       let ⟨x,I,h⟩:=Gb C p hp
       exact i x (by simpa using I) _ h) (Gj r)]
      cases hel:oW s e (List.replicate n (S.zero e)) l with
      |none=>rfl|some q=>
       let ⟨es,os⟩:=q
       have:=Cw (Gj r) hel;subst this;rfl
    rfl;rfl
 |slice t x lo hi mx=>
  rw[B]at i;dsimp only;cases z:cF fr x with
  |none=>rfl|some v=>
   dsimp only;cases r:vX v with
   |false=>rfl|true=>
    refine Ba ?_ (λp t=>zF g p (k t));have hsm:=i x (by simp[Op.operands]) v z;have hown:NZ v=[]:=by cases v<;>first|rfl|simp[vX]at r
    rw[ER rfl (BY z r),ER rfl (BY z r)]
    grind[cM,UW,BP]
 |store=>rfl|alloc=>rfl|box=>rfl|panic=>rfl|makeMap=>rfl|mapUpdate=>rfl|insert=>rfl|makeSlice=>rfl|range=>rfl|next=>rfl|defer=>rfl|_=>
  have a:=afY E.T o.op (by rw[B];rfl) i;rw[B]at A a;dsimp only;have h2:=Ba (A rfl) (λp t=>zF g p (k t));generalize I:ir E.T fr s' _=x at a;generalize hy:ir E.T fr s _=y at a;cases x with
  |none=>cases y with|none=>exact h2|some y=>cases a
  |some x=>cases y with
   |none=>cases a
   |some y=>simp only[Z1,gP,fC]at a;obtain⟨q1,q2,q3⟩:=a;dsimp only;rw[q2,q3];exact Kq k _ q1
end
section
theorem Md(e j:Nat):(1 <<< e).testBit j=decide (e=j):=by rw[Nat.shiftLeft_eq,Js,Nat.testBit_two_pow]
theorem J2(f:Nat->Nat)(j:Nat):∀(l:L Nat)(z:Nat),(l.foldl (λb e=>b||| (1 <<< e||| f e)) z).testBit j=(z.testBit j||l.any λe=>decide (e=j)||(f e).testBit j)
 |[],z=>by simp
 |e::l,z=>by
  rw[NO,J2 f j l]
  grind[Md]
theorem w7:∀(l:L Oper)(a:L Nat)(i:Nat),i<a.length->(Pg l a).getD i 0=a.getD i 0
 |[],_,_,_=>rfl|o::l,a,i,h=>by
  rw[Pg,w7 l _ i (by grind)]
  grind
def any_eq{α:Type}{f g:α->Bool}:∀{l:L α},(∀e∈l,f e=g e)->l.any f=l.any g
 |[],_=>rfl|a::l,h=>by rw[List.any_cons,List.any_cons,h a eI,any_eq λe b=>h e (hJ _ b)]
theorem Ul:∀(l:L Oper)(acc:L Nat)(k:Nat)(o:Oper),l[k]?=Z o->vI l acc.length=W->∀j,
  ((Pg l acc).getD (acc.length+k) 0).testBit j=(yz o).any λe=>decide (e=j)||((Pg l acc).getD e 0).testBit j
 |[],acc,k,o,h,_,j=>by simp at h
 |p::l,acc,k,o,h,c,j=>by
  simp only[vI,eW]at c;cases k with
  |zero=>simp at h;subst h;rw[Pg,w7 _ _ _ (by simp_all)];simp;rw[J2];simp;refine any_eq λe d=>?_;have a:e<acc.length:=gS (kP.1 c.1 e d);have:=w7 l (acc++[(yz p).foldl (λb e=>b||| (1 <<< e||| acc.getD e 0)) 0]) e (by grind);simp[zm,Tz a]at this ⊢;rw[this]
  |succ k=>
   rw[Pg];have:=Ul l (acc++[(yz p).foldl (λb e=>b||| (1 <<< e||| acc.getD e 0)) 0]) k o (by simpa using h) (by grind) j
   grind
section
variable {ops:List Oper}
def Pre(ops:L Oper)(i j:Nat):Prop:=((w6 ops).getD i 0).testBit j=W
variable {i:Nat}{o:Oper}
def EP(a:vI ops 0=W)(h:ops[i]?=Z o)(j:Nat):Pre ops i j↔∃e∈yz o,e=j\/Pre ops e j:=by
 have:=Ul ops [] i o h a j
 simp_all[Pre,w6]
def Bp:∀{l:L Oper}{n:Nat},vI l n=W->∀{k:Nat}{o:Oper},l[k]?=Z o->∀e∈yz o,e<n+k
 |[],_,_,k,o,h,_,_=>by simp at h
 |p::l,n,a,k,o,h,e,b=>by
  simp only[vI,eW]at a;cases k with
  |zero=>
   simp_all
  |succ k=>have:=Bp a.2 (k:=k) (by simpa using h) e b;omega
theorem X5(a:vI ops 0=W):∀{i:Nat}{o:Oper},ops[i]?=Z o->∀j,Pre ops i j->j<i:=by
 intro i
 induction i using Nat.strongRecOn with
 |_ i g=>
  intro o h j b
  let ⟨e,c,d⟩:=(EP a h j).1 b
  have f:=Bp a h e c
  grind
theorem Vl(a:vI ops 0=W):∀{i:Nat}{o:Oper},ops[i]?=Z o->∀{j k:Nat},Pre ops i j->Pre ops j k->Pre ops i k:=by
 intro i
 induction i using Nat.strongRecOn with
 |_ i g=>
  intro o h j k c d
  let ⟨e,b,hej⟩:=(EP a h j).1 c
  refine(EP a h k).2 ⟨e,b,.inr ?_⟩;obtain rfl|hej:=hej
  exact d;have f:=Bp a h e b
  grind
theorem nL(b:vI ops 0=W){a:Nat->Prop}(k:∀i o,ops[i]?=Z o->a i->∀e∈yz o,a e):∀{i:Nat}{o:Oper},ops[i]?=Z o->(∀e∈yz o,a e)->∀j,Pre ops i j->a j:=by
 intro i
 induction i using Nat.strongRecOn with
 |_ i l=>
  intro o h d j f
  let ⟨e,c,hej⟩:=(EP b h j).1 f
  obtain rfl|hej:=hej
  exact d _ c;have g:=Bp b h e c
  grind
theorem Aj{a b:Nat}:UT a b=W↔∀j,a.testBit j=W->b.testBit j=W:=by
 unfold UT;constructor;intro h j c;have h:a&&& b=a:=vV h
 grind
 intro h;have:a&&& b=a:=Nat.eq_of_testBit_eq λj=>by
  simp_all
 rw[this];simp
def sA(ops:L Oper):WS:=ops.zipIdx.map λp=>(p.2,p.1)
theorem jA{i:Nat}{o:Oper}:(i,o)∈sA ops↔ops[i]?=Z o:=by
 unfold sA;rw[ym];constructor
 grind
 intro h;exact⟨(o,i),NH.2 h,rfl⟩
theorem uW(h:ahk ops (w6 ops)=W){i:Nat}{o:Oper}(hi:ops[i]?=Z o){d:Nat}(f:o.dst=Z d) :
  d<bM/\d∉tmpsOf o.op/\∀{j:Nat}{p:Oper},ops[j]?=Z p->i≠j->p.dst≠Z d/\(d∈tmpsOf p.op->Pre ops j i\/Pre ops i j):=by
 have h1:=kP.1 h (o,i) (NH.2 hi);simp only[f,eW]at h1;have c:∀{p:Oper},d∈tmpsOf p.op->MZ p d=W:=by
  intro p a
  let ⟨x,g,b⟩:=Ax.1 a
  refine Tm.2 ⟨x,g,?_⟩;cases x with
  |tmp k=>
   simp_all
  |_=>cases b
 refine⟨gS h1.1,λa=>?_,λ{j p}l m=>?_⟩;have h2:=kP.1 h1.2 (o,i) (NH.2 hi)
 simp_all
 have h2:=kP.1 h1.2 (p,j) (NH.2 l);have e:Nq i j=J:=by
  grind[Nat.eq_of_beq_eq_true]
 simp only[e,j7,eW,oQ]at h2;refine⟨λn=>?_,λa=>?_⟩
 simp_all
 obtain h3|h3:=h2.2
 simp_all
 exact h3
def antiP(ops:L Oper)(i:Nat):Prop:=∃o,ops[i]?=Z o/\∃d,o.dst=Z d/\∃j p,ops[j]?=Z p/\d∈tmpsOf p.op/\Pre ops i j
def aag(hi:ops[i]?=Z o)(h:Ur ops (w6 ops) i o=J):¬antiP ops i:=by
 rintro⟨e,b,d,f,j,p,g,l,m⟩
 have:o=e:=j8 (hi.symm.trans b);subst this;unfold Ur at h;rw[f]at h;have h1:=List.any_eq_false.1 h (p,j) (NH.2 g);have a:MZ p d=W:=by
  let ⟨x,n,c⟩:=Ax.1 l
  refine Tm.2 ⟨x,n,?_⟩;cases x with
  |tmp k=>
   simp_all
  |_=>cases c
 refine h1 ?_;simp only[a,qL];exact m
def Zx(h:Rz ops (w6 ops)=W)(hi:ops[i]?=Z o){d:Nat}(a:oH ops o=Z d):∃j p,ops[j]?=Z p/\p.dst=Z d/\Pre ops i j:=by
 have h1:=kP.1 h (o,i) (NH.2 hi);unfold oH at a;cases e:o.guard with
 |none=>simp_all|some q=>
  let ⟨j,c⟩:=q
  simp only[e]at a h1;rw[kr,vU]at a
  let ⟨p,f,b⟩:=a
  exact⟨j,p,f,b,h1⟩
def Ff(h:afz ops=W)(hi:ops[i]?=Z o):∀k∈tmpsOf o.op,k<bM:=by
 intro k b
 let ⟨x,c,a⟩:=Ax.1 b
 have h1:=kP.1 h o (iA hi);have h2:=kP.1 h1 x c;cases x with
 |tmp j=>
  simp_all
 |_=>cases a
def aai{E:gi}{n:Nat}(h:Sj E n ops=W)(hi:ops[i]?=Z o)(a:fh o=W):o.guard=Y/\(∃t c,o.op=.alloc t/\E.E.ti t=Z c)/\∀d,o.dst=Z d->d<n:=by
 have h1:=kP.1 h o (iA hi);simp[a,cond_true,eW]at h1;unfold fh at a;split at a;rename_i t b;rw[b]at h1;refine⟨by simpa using a,⟨t,?_⟩,λd f=>?_⟩
 .cases e:E.E.ti t with|none=>simp_all|some c=>simp_all
 simp_all
 cases a
theorem Jz(done:Nat):∀(l:WS)(z j:Nat),(l.foldl (λb(i,o)=>bif fh o&&!(done.testBit i)then b||| 1 <<< i else b) z).testBit j=(z.testBit j||l.any λ(i,o)=>fh o&&!(done.testBit i)&&decide (i=j))
 |[],z,j=>by simp
 |(i,o)::l,z,j=>by rw[NO,Jz done l,List.any_cons];cases h:(fh o&&!(done.testBit i))with|false=>grind|true=>simp only[h,iq,Ny,Md,qL,Bool.or_assoc]
def wm(done j:Nat):(yK (sA ops) done).testBit j=W↔∃o,ops[j]?=Z o/\fh o=W/\done.testBit j=J:=by
 unfold yK;rw[Jz,Nat.zero_testBit,Bool.false_or,Tm];constructor
 rintro⟨⟨i,o⟩,a,h⟩
 simp at h;obtain⟨⟨h1,h2⟩,rfl⟩:=h;exact⟨o,jA.1 a,h1,h2⟩
 rintro⟨o,b,h1,h2⟩
 exact⟨(j,o),jA.2 b,by simp[h1,h2]⟩
end
end
section
structure Jc(g:Gh)(w0 w:World)(b:Nat)(z:Array Value):Prop where
 new:w0.heap.size<=b
 lt:b<w.heap.size
 bx:¬g.bx b
 own:∀o,¬bJ g o b
 mem:∃ty,w.heap[b]?=Z (.cells z ty (0,0))
section
variable {g g':Gh}{w0 w w':World}{b:Nat}{z:Array Value}
theorem Jc.BJ(h:Jc g w0 w b z){ow:L Nat}{s s':bp S}(c:cS ow s g w s' g' w')(f:s.fl=0):Jc g' w0 w' b z:=by
 let ⟨ty,i⟩:=h.mem
 refine⟨h.new,iS h.lt c.ext.size,λa=>?_,λo d=>?_,ty,?_⟩;obtain a|a|⟨o,_,d⟩:=c.ext.oD b a
 exact h.bx a
 grind
 exact h.own o d;obtain⟨j,_,e⟩|a:=c.ext.own o b (by omega) d
 exact h.own j e
 simp_all
 rw[c.ext.heap b h.lt λo _=>h.own o];exact i
def aY.aaj{s:St}(hs:aY g s w)(hn:s.aE<bM)(hf:Jc g w0 w b z){cs:L T}(hl:cs.length=z.size)
  (y:∀(j:Nat)(t:T)(v:Value),cs[j]?=Z t->z[j]?=Z v->aI g w t v) :
  aY (g.dH s.aE b) (eo s (.box cs)).2 w/\nk g (g.dH s.aE b)/\(∀k c,bJ (g.dH s.aE b) k c->bJ g k c\/(k=s.aE/\c=b)):=by
 have a:=hs.ah s.aE (eO _);have n:∀o c,g.bT o=Z c->(g.dH s.aE b).bT o=Z c:=λo c h=>by
  have:o≠s.aE:=λe=>by rw[e,a.1]at h;cases h
  simp[Gh.dH,this,h]
 have i:nk g (g.dH s.aE b):=⟨n,λ_ _ _ h=>h,λ_ h=>h⟩;have d:∀k c,bJ (g.dH s.aE b) k c->bJ g k c\/(k=s.aE/\c=b):=by
  rintro o c ⟨h1,h2|h2⟩
  by_cases f:o=s.aE;subst f;simp[Gh.dH]at h2;exact .inr ⟨rfl,h2.symm⟩;simp[Gh.dH,f]at h2;exact .inl ⟨h1,.inl h2⟩;exact .inl ⟨h1,.inr h2⟩
 let ⟨ty,A⟩:=hf.mem
 refine⟨⟨by simp only[eo];omega,λo f=>?_,λo c p=>?_,λo e x B=>?_,hs.bx,λo q c h C=>?_⟩,i,d⟩;simp only[eo]at f;have h1:o≠s.aE:=by omega
 simp[Gh.dH,h1,jP];exact hs.ah o (by omega);by_cases f:o=s.aE;subst f;have r:c=b:=by simp[Gh.dH]at p;exact p.symm
 subst r;refine⟨hf.bx,hf.lt,λob l=>⟨_,A,?_⟩⟩;simp[eo]at l;rw[Tr.aV _ _ _ _ hn,bD rfl]at l;obtain rfl:=j8 l;exact .box cs z ty hl λj t v E F=>(y j t v E F).le i;have u:g.bT o=Z c:=by simpa[Gh.dH,f]using p
 exact(hs.box o c u).le i rfl (by simp[eo];rw[Tr.aV _ _ _ _ hn,bQ f]);have m:g.arr o e=Z x:=B;have f:o≠s.aE:=λh=>by rw[h,a.2 e]at m;cases m
 exact(hs.arr o e x m).le rfl (by simp[eo];rw[Tr.aV _ _ _ _ hn,bQ f]) (λ_ _ _ h=>h) (λ_=>rfl);obtain h1|⟨h1,h3⟩:=d o c h<;>obtain h2|⟨h2,h4⟩:=d q c C
 exact hs.j6 o q c h1 h2;subst h4;exact absurd h1 (hf.own o);subst h3;exact absurd h2 (hf.own q);rw[h1,h2]
def Jc.keep{o c:Nat}{f:Array Value}(h:Jc g w0 w b z)(j:Jc g w0 w c f)(i:b≠c)(a:∀k e,bJ (g.dH o c) k e->bJ g k e\/(k=o/\e=c)):Jc (g.dH o c) w0 w b z:=
 ⟨h.new,h.lt,h.bx,λk d=>by
  obtain d|⟨_,rfl⟩:=a k b d
  exact h.own k d;omega,h.mem⟩
end
def aa6(E:gi)(g:Gh)(w0 w:World)(a:Act)(o:Oper)(b:Nat):Prop:=
 ∀t c d,o.op=.alloc t->E.E.ti t=Z c->o.dst=Z d->∃z,a.tmps[d]?=Z (.pointer (Z ⟨b,0,Y⟩))/\Jc g w0 w b z/\ZOk c.zero z
structure Adp(E:gi)(which:Nat)(l:WS)(fr:ck S)(s:bp S)(g:Gh)(w:World)(a:Act)(fr':ck S)(s':bp S)(g':Gh):Prop where
 rel:aY g' (aC s') w
 le:nk g g'
 bx:g'.bx=g.bx
 fl:s'.fl=s.fl
 lo:s'.lo=s.lo
 wr:s'.wr=s.wr
 dr:s'.dr=s.dr
 aE:s.aE<=s'.aE
 ob:∀o,o<s.aE->s'.ob.get o=s.ob.get o
 n:fr'.n=fr.n
 OY:fr'.df=fr.df
 old:∀k,(∀p∈l,which.testBit p.1=W->p.2.dst≠Z k)->fr'.get k=fr.get k
 new:∀k,(∃p∈l,which.testBit p.1=W/\p.2.dst=Z k)->∀t,fr'.get k=Z t->∃v,a.tmps[k]?=Z v/\aI g' w (low t) v
 own:∀k b,bJ g' k b->bJ g k b\/∃p∈l,which.testBit p.1=W/\∃d,p.2.dst=Z d/\a.tmps[d]?=Z (.pointer (Z ⟨b,0,Y⟩))
 adz:∀p∈l,which.testBit p.1=W->∃t ti d,p.2.op=.alloc t/\E.E.ti t=Z ti/\p.2.dst=Z d/\d<fr.n
theorem Pu{E:gi}{f:Nat}{w0 w:World}{a:Act}{bl:Nat->Nat}:∀{l:WS}{fr fr':ck S}{s s':bp S}{g:Gh},yX E f l fr s=Z (fr',s')->fr.n<=bM->aY g (aC s) w->
  (∀p∈l,f.testBit p.1=W->aa6 E g w0 w a p.2 (bl p.1))->(l.map (·.1)).Nodup->(∀p∈l,∀q∈l,f.testBit p.1=W->f.testBit q.1=W->p.1≠q.1->bl p.1≠bl q.1)->
  (∀p∈l,∀q∈l,p.1≠q.1->∀d,p.2.dst=Z d->q.2.dst≠Z d)->∃g',Adp E f l fr s g w a fr' s' g':=by
 intro l
 induction l with
 |nil=>intro fr fr' s s' g h _ hs _ _ _ _;obtain⟨rfl,rfl⟩:=h;exact⟨g,hs,nk.refl _,rfl,rfl,rfl,rfl,rfl,eO _,λ_ _=>rfl,rfl,rfl,λ_ _=>rfl,λk⟨p,hp,_⟩=>by(cases hp),λ_ _ h=>.inl h,λp hp=>by(cases hp)⟩
 |cons p l ih=>
  intro fr fr' s s' g h hn hs he x B C
  let ⟨i,o⟩:=p
  rw[pN,Nz]at x;have A:∀q∈l,i≠q.1:=λq b e=>x.1 (ym.2 ⟨q,b,e.symm⟩);obtain⟨hw,h1⟩|⟨hw,h1⟩:=af h
  .clear h;split at h1
   .rename_i t d hop n;split at h1
    .rename_i ti VU;obtain⟨hb,h⟩|⟨_,h⟩:=af h1
     rotate_left;cases h;rw[eW]at hb;have P:s.aE<bM:=gS hb.1;have Q:d<fr.n:=gS hb.2
     let ⟨z,R,u,hz⟩:=he (i,o) eI hw t ti d hop VU n
     let ⟨z1,z2⟩:=s7 (g:=g) (w:=w) hz
     let ⟨Aa,arq,v⟩:=hs.aaj P u z1 z2
     have agv:aY (g.dH s.aE (bl i)) (aC (dn s (.box (ti.zero.map zeroV)))) w:=by rw[g6];simp[de,nF];exact Aa
     have hE:∀q∈l,f.testBit q.1=W->aa6 E (g.dH s.aE (bl i)) w0 w a q.2 (bl q.1):=by
      intro q b hw' t' ti' d' q1 q2 q3
      let ⟨z',r1,r2,r3⟩:=he q (hJ _ b) hw' t' ti' d' q1 q2 q3
      exact⟨z',r1,r2.keep u (B q (hJ _ b) (i,o) eI hw' hw (λe=>A q b e.symm)) v,r3⟩
     let ⟨g',k⟩:=ih h (by exact hn) agv hE x.2 (λq b r F=>B q (hJ _ b) r (hJ _ F)) (λq b r F=>C q (hJ _ b) r (hJ _ F))
     have hdl:∀q∈l,f.testBit q.1=W->q.2.dst≠Z d:=λq b _=>C (i,o) eI q (hJ _ b) (A q b) d n;refine⟨g',k.rel,arq.trans k.le,k.bx,k.fl,k.lo,k.wr,k.dr,gk (Dn _) k.aE,λj hj=>?_,k.n,k.OY,λj hj=>?_,λj⟨q,b,m,y⟩t' I=>?_,λj c K=>?_,λq b m=>?_⟩;rw[k.ob j (Nat.lt_succ_of_lt hj)];simp[dn];rw[Tr.aV _ _ _ _ P,bQ (by omega)];rw[k.old j (λq b=>hj q (hJ _ b)),ck.j0 _ _ _ _ (iS Q hn),bQ]
     grind[List.mem_cons_self]
     obtain rfl|b:=fV.1 b
     have hjd:j=d:=by
      grind
     subst hjd;rw[k.old j hdl,ck.j0 _ _ _ _ (iS Q hn),bD rfl]at I;cases I;refine⟨_,R,?_⟩;exact .ptr _ _ _ (k.le.bT _ _ (by simp[Gh.dH]));exact k.new j ⟨q,b,m,y⟩ t' I;obtain K|⟨q,b,m,y⟩:=k.own j c K
     obtain K|⟨_,rfl⟩:=v j c K
     exact .inl K;exact .inr ⟨(i,o),eI,hw,d,n,R⟩
     grind
     obtain rfl|b:=fV.1 b
     grind
     exact k.adz q b m
    cases h1
   cases h1
  let ⟨g',k⟩:=ih h1 hn hs (λq b=>he q (hJ _ b)) x.2 (λq b r F=>B q (hJ _ b) r (hJ _ F)) (λq b r F=>C q (hJ _ b) r (hJ _ F))
  have hnw:∀q∈(i,o)::l,f.testBit q.1=W->q∈l:=λq b m=>by
   grind
  refine⟨g',k.rel,k.le,k.bx,k.fl,k.lo,k.wr,k.dr,k.aE,k.ob,k.n,k.OY,λj hj=>k.old j λq b=>hj q (hJ _ b),λj⟨q,b,m,y⟩=>k.new j ⟨q,hnw q b m,m,y⟩,λj c K=>(k.own j c K).imp id λ⟨q,b,h⟩=>⟨q,hJ _ b,h⟩,λq b m=>k.adz q (hnw q b m) m⟩
end
section
def nC(listed:Array Bool)(i:Nat):Prop:=listed.getD i J=W
def E8(E:eM S)(ops:L Oper)(fr:ck S)(s:bp S)(o:Oper):Prop:=
 gN fr o.dst=W/\((vF ops fr o=W/\∀d,o.dst=Z d->∀a,fr.get d=Z a->a=ep)\/(iO ops fr o=Z Y/\∃t,fI E Y fr s o Z=Z t/\∀d,o.dst=Z d->∀a,fr.get d=Z a->aaG t a)\/
  ∃c,iO ops fr o=Z (Z c)/\Oy c fr o.op=W/\∃t,fI E (Z c) (r8 fr o.op) s o Z=Z t/\∀d,o.dst=Z d->∀a,fr.get d=Z a->a=.gd c t)
theorem Gg{p:Nat->Bool}{fr:ck S}{s s':bp S}{o:Op}(h:jW p fr o=J)(hs:∀x,p x=J->s'.ob.get x=s.ob.get x):∀x∈o.operands.toList,∀v,cF fr x=Z v->Sm s s' v:=by
 intro x a v b j c
 grind[jW,ew,Nat.eq_of_beq_eq_true]
theorem AY(E:eM S)(g:O Bool){fr:ck S}(o:Oper)(s s':bp S){ω:Type}(k:V S->O ω)(c:NX o.op=W):fI E g fr s o k=fI E g fr s' o k:=by
 unfold fI;cases d:o.op with
 |move x=>simp[ir,AD,BG,cM];cases cF fr x<;>simp[um]
 |assign x=>simp[ir,AD,BG,cM];cases cF fr x<;>simp[um]
 |nilCheck x=>
  simp[ir,AD,BG,cM];cases h:cF fr x with
  |none=>simp[um,h]|some v=>
   cases v with
   |ty t y=>cases t<;>simp[um,h]
   |fn f a b=>cases f<;>simp[um,h]
   |_=>simp[um,h]
 |fieldAddr t x n=>
  simp[ir,AD,BG,cM];cases E.T.E.ti t with
  |none=>simp[um]|some e=>
   cases cF fr x with
   |none=>simp[um]|some v=>
    grind[ry,um]
 |_=>simp[d,NX]at c
theorem E8.move{E:eM S}{ops:L Oper}{fr fr':ck S}{s s':bp S}{o:Oper}(h:E8 E ops fr s o)(hn:fr'.n=fr.n)(j:∀k∈tmpsOf o.op,k<bM)(f:∀k∈tmpsOf o.op,fr'.get k=fr.get k)(l:∀k,oH ops o=Z k->fr'.get k=fr.get k)
  (g:∀d,o.dst=Z d->∀t,fr'.get d=Z t->fr.get d=Z t) {p:Nat->Bool}
  (hs:s'=s\/(jW p fr o.op=J/\jW p (r8 fr o.op) o.op=J/\∀x,p x=J->s'.ob.get x=s.ob.get x)\/NX o.op=W):E8 E ops fr' s' o:=by
 let ⟨q,h⟩:=h
 have i:iO ops fr' o=iO ops fr o:=p8 l;refine⟨by simp_all[gN],?_⟩;obtain⟨h1,h3⟩|⟨h1,t,h2,h3⟩|⟨c,h1,h4,t,h2,h3⟩:=h
 grind[rT]
 refine .inr (.inl ⟨i.trans h1,t,?_,λd a e b=>h3 d a e (g d a e b)⟩);rw[iQ E Y o s' Z (ju f)];obtain rfl|⟨m,_,hs⟩|n:=hs
 exact h2
 grind[Hf,Gg]
 grind[AY]
 refine .inr (.inr ⟨c,i.trans h1,by rw[uP c f];exact h4,t,?_,λd a e b=>h3 d a e (g d a e b)⟩);rw[iQ E (Z c) o s' Z (ju (r7 j f))];obtain rfl|⟨_,m,hs⟩|n:=hs
 exact h2
 grind[Hf,Gg]
 grind[AY]
structure y9(E:eM S)(ops:Array Oper)(n:Nat):Prop where
 bk:vI ops.toList 0=W
 ds:ahk ops.toList (w6 ops.toList)=W
 gd:Rz ops.toList (w6 ops.toList)=W
 us:afz ops.toList=W
 al:Sj E.T n ops.toList=W
def At(ops:Array Oper)(i:Nat)(o:Oper):Prop:=ops.toList[i]?=Z o
structure s4(E:eM S)(ops:Array Oper)(j3:ck S)(s0:bp S)(g0:Gh)(w0:World)(done:Nat)(fr:ck S)(s:bp S)(bl:Nat->Nat)(listed:Array Bool)(g:Gh)(a:Act)(w:World):Prop where
 Lv:listed.size=ops.size
 n:fr.n=j3.n
 nb:fr.n<=bM
 Wu:a.tmps.size=fr.n
 df:eS g w (bL fr).df a.defers
 tm:∀k t,fr.get k=Z t->(∀i o,At ops i o->o.dst=Z k->(nC listed i↔done.testBit i=W))->∃v,a.tmps[k]?=Z v/\aI g w (low t) v
 VI:∀i o,At ops i o->nC listed i->∀e∈yz o,nC listed e
 ZY:∀i o,At ops i o->done.testBit i=W->∀j,Pre ops.toList i j->done.testBit j=W
 ld:∀i o,At ops i o->nC listed i->done.testBit i=W\/fh o=W
 fo:∀i o,At ops i o->done.testBit i=W->¬nC listed i->fh o=J/\E8 E ops.toList fr s o
 ea:∀i o,At ops i o->nC listed i->done.testBit i=J->aa6 E.T g w0 w a o (bl i)/\bl i<w.heap.size
 eb:∀i j,nC listed i->nC listed j->done.testBit i=J->done.testBit j=J->i≠j->i<ops.size->j<ops.size->bl i≠bl j
 BJ:eJ s0 g0 w0 s g w
 fk:dw (ops.toList.filterMap (·.dst)) j3 fr s.dr s0.aE
 fl:s.fl=0
 an:∀j,antiP ops.toList j->done.testBit j=W->nC listed j
structure UF(E:eM S)(ops:Array Oper)(j3:ck S)(s0:bp S)(g0:Gh)(w0:World)(done:Nat)(fr:ck S)(s:bp S)(listed:Array Bool)(g:Gh)(a:Act)(w:World):Prop where
 n:fr.n=j3.n
 nb:fr.n<=bM
 Wu:a.tmps.size=fr.n
 df:eS g w (bL fr).df a.defers
 tm:∀k t,fr.get k=Z t->(∀i o,At ops i o->o.dst=Z k->(nC listed i↔done.testBit i=W))->∃v,a.tmps[k]?=Z v/\aI g w (low t) v
 ZY:∀i o,At ops i o->done.testBit i=W->∀j,Pre ops.toList i j->done.testBit j=W
 BJ:eJ s0 g0 w0 s g w
section
variable {E:eM S}{ops:Array Oper}{j3:ck S}{s0:bp S}{g0:Gh}{w0:World}{done:Nat}{fr:ck S}{s:bp S}{bl:Nat->Nat}{listed:Array Bool}{g:Gh}{a:Act}{w:World}
def EN(fr:ck S)(d:O Nat)(t:V S):(fr.jr d t).df=fr.df:=by cases d<;>rfl
theorem Gs(fr:ck S):(bL fr).df=fr.df.map mH:=rfl
theorem uX(done i j:Nat):(done||| 1 <<< i).testBit j=W↔done.testBit j=W\/i=j:=by rw[Ny,Md,oQ,qM]
theorem J0{d:O Nat}{t:V S}{k:Nat}(h:gN fr d=W)(hn:fr.n<=bM):(fr.jr d t).get k=if d=Z k then Z t else fr.get k:=by
 cases d with
 |none=>rfl|some d=>
  have h:d<fr.n:=gS h;simp only[ck.jr];rw[ck.j0 _ _ _ _ (by omega)]
  grind
theorem KK(c:y9 E ops j3.n){i:Nat}{o:Oper}(f:At ops i o){k:Nat}(d:k∈tmpsOf o.op\/oH ops.toList o=Z k){j:Nat}{p:Oper}(g:At ops j p)(q:p.dst=Z k):i≠j/\(Pre ops.toList i j\/(Pre ops.toList j i/\antiP ops.toList j)):=by
 let ⟨_,h2,h3⟩:=uW c.ds g q
 obtain d|d:=d
 have a:i≠j:=by
  rintro rfl
  have:o=p:=j8 (f.symm.trans g)
  simp_all
 exact⟨a,((h3 f (Ne.symm a)).2 d).imp id λh=>⟨h,p,g,k,q,i,o,f,d,h⟩⟩
 let ⟨r,s,l,m,b⟩:=Zx c.gd f d
 have n:j=r:=XD λa=>(h3 l a).1 m;subst n;refine⟨λe=>?_,.inl b⟩;subst e;exact absurd (X5 c.bk f _ b) (Nat.lt_irrefl _)
theorem s4.float(x:y9 E ops j3.n)(h:s4 E ops j3 s0 g0 w0 done fr s bl listed g a w){i:Nat}{o:Oper}(u:At ops i o)(hnd:done.testBit i=J)(P:fh o=J)(han:¬antiP ops.toList i)(hpre:∀j,Pre ops.toList i j->done.testBit j=W)
  (hd:gN fr o.dst=W) {t:V S} (hf:(vF ops.toList fr o=W/\t=ep)\/(iO ops.toList fr o=Z Y/\∃t0,fI E Y fr s o Z=Z t0/\aaG t0 t)\/∃c t1,iO ops.toList fr o=Z (Z c)/\Oy c fr o.op=W/\fI E (Z c) (r8 fr o.op) s o Z=Z t1/\t=.gd c t1) :
  s4 E ops j3 s0 g0 w0 (done||| 1 <<< i) (fr.jr o.dst t) s bl listed g a w:=by
 have ek:∀k,(fr.jr o.dst t).get k=if o.dst=Z k then Z t else fr.get k:=λk=>J0 hd h.nb
 have Q:¬nC listed i:=λz=>by
  obtain h1|h1:=h.ld i o u z
  simp_all
  simp_all
 have y:(fr.jr o.dst t).n=fr.n:=by cases o.dst<;>rfl
 have b:∀{j:Nat}{p:Oper},At ops j p->(j=i\/¬Pre ops.toList j i)->∀k,k∈tmpsOf p.op\/oH ops.toList p=Z k->(fr.jr o.dst t).get k=fr.get k:=by
  intro j p n f k l;rw[ek,bQ];intro A
  let ⟨h1,h2⟩:=KK x n l u A
  simp_all
 refine⟨h.Lv,y.trans h.n,by rw[y];exact h.nb,by rw[y];exact h.Wu,by rw[Gs,EN];exact h.df,λk B l hc=>?_,h.VI,λj p n f m R=>?_,λj p n z=>?_,λj p n f z=>?_,λj p n z f=>?_,λj m f R h1 h2=>?_,h.BJ,?_,h.fl,λj ha f=>?_⟩
 .have A:o.dst≠Z k:=λe=>Q ((hc i o u e).2 ((uX done i i).2 (.inr rfl)));rw[ek,bQ A]at l;refine h.tm k B l λj p n C=>?_
  grind[uX]
 rw[uX]at f ⊢;obtain f|rfl:=f
 exact .inl (h.ZY j p n f m R)
 simp_all
 rw[uX];exact(h.ld j p n z).imp .inl id;rw[uX]at f;obtain f|rfl:=f
 let ⟨h1,h2⟩:=h.fo j p n f z
 have F:¬Pre ops.toList j i:=λhpr=>by
  have:=h.ZY j p n f i hpr
  simp_all
 refine⟨h1,h2.move y (Ff x.us n) (λk l=>b n (.inr F) k (.inl l)) (λk l=>b n (.inr F) k (.inr l)) (λd C B r=>?_) (p:=λ_=>J) (.inl rfl)⟩;rw[ek,bQ]at r;exact r;intro q;have hij:i≠j:=λe=>by simp_all
 exact((uW x.ds u q).2.2 n hij).1 C;have:o=p:=j8 (u.symm.trans n);subst this;have hu:=Ff x.us u;have ht:∀k∈tmpsOf o.op,(fr.jr o.dst t).get k=fr.get k:=λk l=>b u (.inl rfl) k (.inl l);have I:iO ops.toList (fr.jr o.dst t) o=iO ops.toList fr o:=p8 λk l=>b u (.inl rfl) k (.inr l);refine⟨P,by simp_all[gN],?_⟩;obtain⟨f1,rfl⟩|⟨f1,t0,f2,f3⟩|⟨c,t1,f1,f2,f3,rfl⟩:=hf
 refine .inl ⟨(rT λk l=>b u (.inl rfl) k (.inr l)).trans f1,λd q B r=>?_⟩
 simp_all
 refine .inr (.inl ⟨I.trans f1,t0,by grind[iQ,ju],λd q B r=>?_⟩)
 simp_all
 refine .inr (.inr ⟨c,I.trans f1,by rw[uP c ht];exact f2,t1,by grind[iQ,ju,r7],λd q B r=>?_⟩)
 simp_all
 .have hj':done.testBit j=J:=by
   simp_all
  exact h.ea j p n z hj'
 .have K:∀j,(done||| 1 <<< i).testBit j=J->done.testBit j=J:=λj f=>by
   simp_all
  exact h.eb j m f R (K j h1) (K m h2)
 refine⟨λk v l hv=>?_,by rw[EN];exact h.fk.df⟩;obtain h1|h1:=h.fk.tm k v l hv
 left
 rw[ek,bQ];exact h1;intro q;exact l (Ax.2 ⟨o,iA u,q⟩)
 grind
 .obtain f|rfl:=(uX done i j).1 f
  exact h.an j ha f
  simp_all
end
end
section
variable {i:Nat}{o:Oper}{v:Value}
def fG{listed:Array Bool}{j:Nat}(hi:i<listed.size):nC (listed.setIfInBounds i W) j↔nC listed j\/i=j:=by
 unfold nC;by_cases h:i=j
 simp_all
 simp_all
section
variable {E:eM S}{ops:Array Oper}{j3:ck S}{s0:bp S}{g0:Gh}{w0:World}{done:Nat}{fr:ck S}{s:bp S}{bl:Nat->Nat}{listed:Array Bool}{g:Gh}{a:Act}{w:World}
def vJ(h:At ops i o):i<ops.size:=by have:=(Vg.1 h).1;omega
theorem HK{i:Nat}{o:Oper}(h:At ops i o):ops[i]?=Z o:=by unfold At at h;simpa using h
def uH:∀t:T,dy [] t=J:=by
 intro t
 induction t using T.rec (motive_2:=λl=>iM [] l=J)with|fn f a b d g=>simp[dy,d,g]|dj t v e=>simp[dy,e]|agg i e=>simp[dy,e]|gR i e=>simp[dy,e]|gd c v e=>simp[dy,e]|nil=>rfl|cons a l d h=>simp[iM,d,h]|_=>simp[dy]
def dead(ops:L Oper)(done:Nat)(listed:Array Bool):L Nat:=ops.zipIdx.filterMap λ(o,i)=>if listed.getD i J=done.testBit i then Y else o.dst
theorem Gp{k:Nat}:k∈dead ops.toList done listed↔∃i o,At ops i o/\o.dst=Z k/\¬(nC listed i↔done.testBit i=W):=by
 have b:∀i,(listed.getD i J=done.testBit i)↔(nC listed i↔done.testBit i=W):=λi=>by unfold nC;cases listed.getD i J<;>cases done.testBit i<;>simp
 unfold dead;rw[Ax];constructor
 rintro⟨⟨o,i⟩,c,h⟩
 dsimp only at h;split at h;cases h;rename_i a;exact⟨i,o,NH.1 c,h,λd=>a ((b i).2 d)⟩
 rintro⟨i,o,e,f,a⟩
 refine⟨(o,i),NH.2 e,?_⟩
 simp_all
def rfr(a:L Nat)(fr:ck S):ck S:={fr with tm:=a.foldl (λt k=>t.del aM k) fr.tm}
def s4.core(h:s4 E ops j3 s0 g0 w0 done fr s bl listed g a w):UF E ops j3 s0 g0 w0 done fr s listed g a w:=⟨h.n,h.nb,h.Wu,h.df,h.tm,h.ZY,h.BJ⟩
theorem UF.alE(d:y9 E ops j3.n)(h:UF E ops j3 s0 g0 w0 done fr s listed g a w):cU g (bL (rfr (dead ops.toList done listed) fr)) a w/\(rfr (dead ops.toList done listed) fr).n=fr.n/\
  ∀{i:Nat}{o:Oper},At ops i o->(∀j,Pre ops.toList i j->nC listed j/\done.testBit j=W)->(∀j,antiP ops.toList j->Pre ops.toList j i->¬nC listed j/\done.testBit j=J)->∀k,k∈tmpsOf o.op\/oH ops.toList o=Z k->fr.get k=(rfr (dead ops.toList done listed) fr).get k:=by
 have ek:∀k,(rfr (dead ops.toList done listed) fr).get k=if k∈dead ops.toList done listed then Y else fr.get k:=λk=>Tr.oG _ _ _ λb n=>by
  let ⟨i,o,e,f,_⟩:=Gp.1 n
  exact(uW d.ds e f).1
 refine⟨⟨h.Wu,h.df,λk t l=>?_⟩,rfl,λ{i o}q r u k l=>?_⟩;rw[cg,fT]at l;obtain⟨v,c,rfl⟩:=l;rw[ek]at c;split at c;cases c;rename_i m;exact h.tm k v c λi o e f=>XD λp=>m (Gp.2 ⟨i,o,e,f,p⟩)
 grind[Gp,KK]
theorem yb{a:Act}{dst:O Tmp}{v:Value}{k:Nat}(h:dst≠Z k):(a.put dst v).tmps[k]?=a.tmps[k]?:=by
 cases dst with
 |none=>rfl|some d=>
  grind[Act.put]
def tF{a:Act}{d:Nat}(h:d<a.tmps.size):(a.put (Z d) v).tmps[d]?=Z v:=by simp[Act.put,h]
def tE{a:Act}{dst:O Tmp}:(a.put dst v).tmps.size=a.tmps.size/\(a.put dst v).defers=a.defers:=by cases dst<;>simp[Act.put]
def cS.OY{s s':bp S}{g g':Gh}{w w':World}(h:cS [] s g w s' g' w'){l:L Df}{m:L Deferred}(c:eS g w l m):eS g' w' l m:=
 c.imp (λt v d=>h.tr t v d (uH t)) λo b e=>by have:=h.tr _ _ (.ptr o 0 b e) (uH _);cases this with|ptr _ _ _ a=>exact a
theorem s4.meet(C:y9 E ops j3.n)(h:s4 E ops j3 s0 g0 w0 done fr s bl listed g a w){i:Nat}{o:Oper}(A:At ops i o)(hd:done.testBit i=W)(hl:∀e∈yz o,nC listed e)(x:gN fr o.dst=W){v:Value}{g':Gh}{w':World}
  (l:cS [] s g w s g' w') (Q:∀d,o.dst=Z d->∀t,fr.get d=Z t->aI g' w' (low t) v):s4 E ops j3 s0 g0 w0 done fr s bl (listed.setIfInBounds i W) g' (a.put o.dst v) w':=by
 have n:i<listed.size:=by rw[h.Lv];exact vJ A
 have q:∀{j:Nat}{p:Oper}{k:Nat},At ops j p->j≠i->p.dst=Z k->o.dst≠Z k:=λc q r f=>((uW C.ds A f).2.2 c (Ne.symm q)).1 r;refine⟨by simpa using h.Lv,h.n,h.nb,tE.1.trans h.Wu,by rw[tE.2];exact l.OY h.df,λk t K R=>?_,λj p c b e S=>?_,h.ZY,λj p c b=>?_,λj p c b F=>?_,λj p c b F=>?_,λj m b B h1 h2=>?_,h.BJ.trans l.toW,h.fk,h.fl,λj l b=>(fG n).2 (.inl (h.an j l b))⟩;by_cases f:o.dst=Z k;have I:k<fr.n:=by rw[f]at x;exact gS x
 exact⟨v,by rw[f];exact tF (by rw[h.Wu];exact I),Q k f t K⟩
 let ⟨u,hu,ht⟩:=h.tm k t K λj p c r=>by
  have h1:=R j p c r;rw[fG n]at h1;refine Iff.trans ⟨.inl,λh=>h.elim id λe=>?_⟩ h1;subst e;have:o=p:=j8 (A.symm.trans c)
  simp_all
 exact⟨u,by rw[yb f];exact hu,l.tr _ _ ht (uH _)⟩;rw[fG n]at b ⊢;obtain b|rfl:=b
 exact .inl (h.VI j p c b e S);have:o=p:=j8 (A.symm.trans c)
 simp_all
 rw[fG n]at b;obtain b|rfl:=b
 exact h.ld j p c b
 grind
 exact h.fo j p c b λhl=>F ((fG n).2 (.inl hl));rw[fG n]at b;have y:j≠i:=λe=>by simp_all
 have b:nC listed j:=b.elim id λe=>absurd e.symm y
 let ⟨h1,h2⟩:=h.ea j p c b F
 refine⟨λt ti d q1 q2 P=>?_,iS h2 l.ext.size⟩
 let ⟨z,r1,r2,r3⟩:=h1 t ti d q1 q2 P
 exact⟨z,by rw[yb (q c y P)];exact r1,r2.BJ l h.fl,r3⟩;rw[fG n]at b B;have b:nC listed j:=b.elim id λe=>by simp_all
 have B:nC listed m:=B.elim id λe=>by simp_all
 exact h.eb j m b B h1 h2
theorem at_mem{ops:Array Oper}{i:Nat}{o:Oper}(h:At ops i o):o∈ops.toList:=iA (show ops.toList[i]?=Z o from by grind[HK])
def s4.aez(hE:fu E)(b:y9 E ops j3.n)(h:s4 E ops j3 s0 g0 w0 done fr s bl listed g a w)(m:At ops i o)(B:done.testBit i=W)(C:¬nC listed i)(hl:∀e∈yz o,nC listed e)
  {K:Act->World->Prop} {Q:Exit->Act->World->Prop} (P:∀g' a' w',s4 E ops j3 s0 g0 w0 done fr s bl (listed.setIfInBounds i W) g' a' w'->K a' w') {rr:O Nat} (R:rr≠Y->∀o∈ops.toList,∀c,o.op≠.defer c):CO rr E.T.E.P ops Q i K a w:=by
 have z:rr≠Y->∀c,o.op≠.defer c:=λhr=>R hr o (at_mem m)
 let ⟨hna,u,hf⟩:=h.fo i o m B C
 let ⟨n,S,hag⟩:=h.core.alE b
 have Om:∀j,Pre ops.toList i j->nC listed j/\done.testBit j=W:=λj hj=>⟨nL b.bk (λi o hi hl=>h.VI i o hi hl) m hl j hj,h.ZY i o m B j hj⟩;have p:=hag m Om λj ha hji=>by
  have F:¬nC listed j:=λhlj=>by
   let ⟨q,hq,_⟩:=ha
   exact C (nL b.bk (λi o hi hl=>h.VI i o hi hl) hq (h.VI j q hq hlj) i hji)
  refine⟨F,?_⟩;cases MU:done.testBit j with|false=>rfl|true=>exact absurd (h.an j ha MU) F
 have I:iO ops.toList fr o=iO ops.toList (rfr (dead ops.toList done listed) fr) o:=p8 λk x=>p k (.inr x);have A:∀k∈tmpsOf o.op,fr.get k=(rfr (dead ops.toList done listed) fr).get k:=λk x=>p k (.inl x);unfold CO;simp[HK m];obtain⟨f1,f3⟩|⟨f1,t,f2,f3⟩|⟨c,f1,f4,t,f2,f3⟩:=hf
 .rw[rT (fr':=rfr (dead ops.toList done listed) fr) λk x=>p k (.inr x)]at f1;rw[bQ (by rw[De n f1];simp_all)];exact P _ _ _ (h.meet b m B hl u (cS.refl h.BJ.rel) λd f y l=>by rw[f3 d f y l];exact M0)
 rw[I]at f1;have hw:=p7 n f1;rw[bD hw];refine .of_wp z (.inl ?_);rw[iQ E Y o s Z (ju A)]at f2;refine sJ hE n h.BJ.rel (.inl rfl) f2 (λy g' v w' x r ht=>?_);cases x;exact P _ _ _ (h.meet b m B hl u r λd f y l=>(f3 d f y l).rel ht);rw[I]at f1;have hw:=p7 n f1;rw[iQ E (Z c) o s Z (ju (r7 (Ff b.us m) A))]at f2;cases c with
 |true=>
  rw[bD hw];refine .of_wp z (.inl ?_);rw[uP W A]at f4
  let ⟨hff,hfn'⟩:=wL n (by rw[S];exact h.nb) f4
  refine sJ hE hff h.BJ.rel (.inr rfl) f2 (λy g' v w' x r ht=>?_);cases x;exact P _ _ _ (h.meet b m B hl u r λd f y l=>by rw[f3 d f y l];exact .gd _ _ _ λ_=>ht)
 |false=>rw[bQ (by simp_all)];exact P _ _ _ (h.meet b m B hl u (cS.refl h.BJ.rel) λd f y l=>by rw[f3 d f y l];exact .gd _ _ _ λh=>by cases h)
theorem s4.aeA(hE:fu E)(C:y9 E ops j3.n)(h:s4 E ops j3 s0 g0 w0 done fr s bl listed g a w){i:Nat}{o:Oper}(n:At ops i o)(hd:done.testBit i=J)(hna:fh o=W)(hnl:¬nC listed i)(hl:∀e∈yz o,nC listed e)
  {K:Act->World->Prop} {Q:Exit->Act->World->Prop} (hK:∀BH a' w',s4 E ops j3 s0 g0 w0 done fr s BH (listed.setIfInBounds i W) g a' w'->K a' w') {rr:O Nat} (hrr:rr≠Y->∀o∈ops.toList,∀c,o.op≠.defer c):CO rr E.T.E.P ops Q i K a w:=by
 have F:rr≠Y->∀c,o.op≠.defer c:=λhr=>hrr hr o (at_mem n)
 let ⟨hg,⟨t,ti,hop,P⟩,hdn⟩:=aai C.al n hna
 let ⟨xi,dd,z,Ol,_,_,_,hz,R,_⟩:=(hE.US.ti _ _ P).all
 unfold CO;simp[HK n];rw[bD (by simp[Region.wanted,hg])];refine .of_wp F (.inl ?_);unfold Oper.wp;have S:(execOp a.eval o).run E.T.E.P w=.ok (.value (.pointer (Z ⟨w.heap.size,0,Y⟩))) (w.alloc (.cells z.cells t)):=by
  simp_all[execOp,Instr.alloc,er,newVar,newRow]
 rw[S];have r:i<listed.size:=by rw[h.Lv];exact vJ n
 have B:=h.BJ.rel;have hsz:(w.alloc (.cells z.cells t)).heap.size=w.heap.size+1:=by simp
 let ⟨hs',he⟩:=B.grow (fl:=s.fl) (I:=g.bx) (w':=w.alloc (.cells z.cells t)) (λ_ h=>h) (λ_ h=>.inl h) (λb hb=>by have:=B.bx b hb;omega) (by omega) (λb hb=>qy w _ b hb) rfl rfl
 have x:∀{j:Nat}{p:Oper}{k:Nat},At ops j p->j≠i->p.dst=Z k->o.dst≠Z k:=λl x y A=>((uW C.ds n A).2.2 l (Ne.symm x)).1 y;refine hK (λj=>if j=i then w.heap.size else bl j) _ _ ⟨by simpa using h.Lv,h.n,h.nb,tE.1.trans h.Wu,by rw[tE.2];exact h.df.imp (λt v ht=>ht.ext he B.bx) (λ_ _ h=>h),λk t' hk hc=>?_,λj p l f e he=>?_,h.ZY,λj p l f=>?_,λj p l f hn=>?_,λj p l f hn=>?_,λj m f hm h1 h2 hjm yx hms=>?_,?_,h.fk,h.fl,λj ha f=>(fG r).2 (.inl (h.an j ha f))⟩;have A:o.dst≠Z k:=λe=>by
  have:=(hc i o n e).1 ((fG r).2 (.inr rfl))
  simp_all
 let ⟨u,hu,ht⟩:=h.tm k t' hk λj p l y=>by
  have h1:=hc j p l y;rw[fG r]at h1
  grind
 exact⟨u,by rw[yb A];exact hu,ht.ext he B.bx⟩;rw[fG r]at f ⊢;obtain f|rfl:=f
 exact .inl (h.VI j p l f e he);have:o=p:=j8 (n.symm.trans l)
 simp_all
 rw[fG r]at f;obtain f|rfl:=f
 exact h.ld j p l f;have:o=p:=j8 (n.symm.trans l)
 simp_all
 exact h.fo j p l f λhl=>hn ((fG r).2 (.inl hl));by_cases q:j=i;subst q;have:o=p:=j8 (n.symm.trans l);subst this;simp only[ki];refine⟨λt' ti' d q1 q2 q3=>?_,by omega⟩;rw[hop]at q1;cases q1;rw[P]at q2;cases q2;have hdl:d<a.tmps.size:=by rw[h.Wu,h.n];exact hdn d q3
 refine⟨z.cells,by rw[q3];exact tF hdl,⟨h.BJ.ext.size,by omega,λVW=>?_,λk hO=>?_,t,xY w _⟩,R⟩;have:=B.bx _ VW;omega;have:=(B.rW hO).1;omega;rw[fG r]at f;have f:nC listed j:=f.elim id λe=>absurd e.symm q
 let ⟨h1,h2⟩:=h.ea j p l f hn
 simp only[bQ q];refine⟨λt ti d q1 q2 q3=>?_,by omega⟩
 let ⟨z',r1,r2,r3⟩:=h1 t ti d q1 q2 q3
 let ⟨ty,r4⟩:=r2.mem
 exact⟨z',by rw[yb (x l q q3)];exact r1,⟨r2.new,by omega,r2.bx,r2.own,ty,by rw[qy w _ _ r2.lt];exact r4⟩,r3⟩
 .have hlt:∀j,nC listed j->done.testBit j=J->j<ops.size->bl j<w.heap.size:=λj f MU yx=>by
   have zB:At ops j ops[j]:=by simp[At]
   exact(h.ea j _ zB f MU).2
  rw[fG r]at f hm;by_cases hji:j=i<;>by_cases hmi:m=i;omega
  grind
  grind
  rw[bQ hji,bQ hmi];exact h.eb j m (f.elim id λe=>absurd e.symm hji) (hm.elim id λe=>absurd e.symm hmi) h1 h2 hjm yx hms
 have hx:oN s.lo s.fl g w g (w.alloc (.cells z.cells t)):=Ext.ID s.lo he;exact⟨hs',h.BJ.ext.trans (h.BJ.fl▸h.BJ.lo▸hx),h.BJ.fl,h.BJ.lo,h.BJ.aE,h.BJ.uk,h.BJ.same,h.BJ.Ht⟩
end
end
section
section
variable {E:eM S}{ops:Array Oper}{j3:ck S}{s0:bp S}{g0:Gh}{w0:World}{done:Nat}{fr:ck S}{s:bp S}{bl:Nat->Nat}{listed:Array Bool}{g:Gh}{a:Act}{w:World}
theorem Vy(l:L Oper):((sA l).map (·.1)).Nodup:=by
 have:(sA l).map (·.1)=List.range l.length:=by
  unfold sA;have:((λx:Nat×Oper=>x.1)∘λp:Oper×Nat=>(p.2,p.1))=Prod.snd:=rfl
  grind[List.zipIdx_map_snd,List.range_eq_range']
 grind
theorem s4.yX(R:y9 E ops j3.n)(h:s4 E ops j3 s0 g0 w0 done fr s bl listed g a w){c:Nat}{tR:ck S}{s1:bp S}(had:yX E.T c (sA ops.toList) fr s=Z (tR,s1))
  (hwh:∀j,c.testBit j=W->nC listed j/\(yK (sA ops.toList) done).testBit j=W) (hcl:∀j,c.testBit j=W->∀m,Pre ops.toList j m->done.testBit m=W\/c.testBit m=W) :
  ∃K,Adp E.T c (sA ops.toList) fr s g w a tR s1 K/\UF E ops j3 s0 g0 w0 (done||| c) tR s1 listed K a w:=by
 have n:∀{j:Nat}{o:Oper},At ops j o->c.testBit j=W->nC listed j/\fh o=W/\done.testBit j=J:=λ{j o}y C=>by
  let ⟨h1,h2⟩:=hwh j C
  let ⟨o',ho',h3,h4⟩:=(wm done j).1 h2
  have:o=o':=j8 (y.symm.trans ho')
  simp_all
 have f:∀{p:Nat×Oper},p∈sA ops.toList->At ops p.1 p.2:=λ{p}r=>jA.1 r;obtain⟨K,l⟩:=Pu (w0:=w0) (bl:=bl) had h.nb h.BJ.rel (λp r A=>by
   let ⟨h1,_,h3⟩:=n (f r) A
   exact(h.ea p.1 p.2 (f r) h1 h3).1) (Vy _) (λp r q P pY hqw F=>by
   let ⟨h1,_,h3⟩:=n (f r) pY
   let ⟨h4,_,h6⟩:=n (f P) hqw
   exact h.eb p.1 q.1 h1 h4 h3 h6 F (vJ (f r)) (vJ (f P))) (λp r q P F d B=>((uW R.ds (f r) B).2.2 (f P) F).1)
 refine⟨K,l,⟨l.n.trans h.n,by rw[l.n];exact h.nb,by rw[l.n];exact h.Wu,by rw[Gs,l.OY];exact h.df.imp (λ_ _ ht=>ht.le l.le) l.le.bT,λk t hk hc=>?_,λj p r C m hm=>?_,?_⟩⟩;by_cases I:∃p∈sA ops.toList,c.testBit p.1=W/\p.2.dst=Z k;exact l.new k I t hk;rw[l.old k λp r A B=>I ⟨p,r,A,B⟩]at hk
 let ⟨v,hv,ht⟩:=h.tm k t hk λi o hi B=>by have h1:=hc i o hi B;rw[Ny,oQ]at h1;exact h1.trans ⟨λh=>h.elim id λA=>absurd ⟨(i,o),jA.2 hi,A,B⟩ I,.inl⟩
 exact⟨v,hv,ht.le l.le⟩;rw[Ny,oQ]at C ⊢;obtain C|C:=C
 exact .inl (h.ZY j p r C m hm)
 grind
 have u:=h.BJ;refine⟨l.rel,⟨λo b e=>l.le.bT o b (u.ext.bT o b e),λo e x hl k=>l.le.arr o e x (u.ext.arr o e x hl k),λb Q=>l.le.bx b (u.ext.bx b Q),u.ext.size,u.ext.heap,λo b hl hO=>?_,λb Q=>u.ext.oD b (by rw[l.bx]at Q;exact Q),u.ext.os,u.ext.output⟩,l.fl.trans u.fl,l.lo.trans u.lo,gk u.aE l.aE,λo y=>by rw[l.wr];exact u.uk o y,λo y hn=>?_,λo y=>by rw[l.dr];exact u.Ht o y⟩;obtain hO|⟨p,r,A,d,B,htm⟩:=l.own o b hO
 exact u.ext.own o b hl hO
 let ⟨h1,_,h3⟩:=n (f r) A
 let ⟨t,ti,d',e1,e2,e3,_⟩:=l.adz p r A
 let ⟨z,r1,r2,_⟩:=(h.ea p.1 p.2 (f r) h1 h3).1 t ti d' e1 e2 e3
 have:d=d':=j8 (B.symm.trans e3);subst this;rw[htm]at r1;cases r1;exact .inr r2.new;rw[l.ob o (iS y u.aE)];exact u.same o y (by rw[l.wr]at hn;exact hn)
theorem wN{ow:L Nat}{k:Nat}{v:V S}(h:(dA ow fr).get k=Z v):fr.get k=Z v/\dy ow (low v)=J:=by
 cases ow with
 |nil=>exact⟨h,uH _⟩|cons o ow=>
  grind[dA,ck.get,Tr.oF,Option.filter_eq_some_iff,kU]
theorem AW{ow:L Nat}{k:Nat}{v:V S}(h:fr.get k=Z v)(a:iT ow v=J):(dA ow fr).get k=Z v:=by
 cases ow with
 |nil=>exact h|cons o ow=>
  grind[dA,ck.get,Tr.oF]
theorem OJ{call:gj S}{l:L Oper}{o:Oper}{ω:Type}{kp:V S->bp S->O ω}{k:V S->bp S->L Nat->O ω}{r:ω}(h:p9 E call l o fr s kp k=Z r):gN fr o.dst=W:=by
 unfold p9 at h
 grind
theorem Xk{done i:Nat}{aE:Nat}{wr ow:L Nat}:∀{l:WS},Fo ops.toList (w6 ops.toList) done i fr aE wr ow l=W->∀{j:Nat}{p:Oper},(j,p)∈l->done.testBit j=W->fh p=J->¬Pre ops.toList i j->
  (jW (dN wr aE) fr p.op=J/\jW (dN wr aE) (r8 fr p.op) p.op=J)\/(NX p.op=W/\jW (λx=>ow.contains x) fr p.op=J/\jW (λx=>ow.contains x) (r8 fr p.op) p.op=J):=by
 intro l
 induction l with
 |nil=>simp_all|cons q l f=>
  intro h j p c d a b
  let ⟨g,k⟩:=q
  simp only[Fo,eW]at h;obtain e|c:=fV.1 c
  cases e;have h1:=h.1;simp only[d,a,IL,Bool.false_or]at h1;rw[oQ]at h1;obtain h1|h1:=h1
  exact absurd h1 b
  grind
  grind
end
end
section
section
variable {E:eM S}{ops:Array Oper}{j3:ck S}{s0:bp S}{g0:Gh}{w0:World}{done:Nat}{fr:ck S}{s:bp S}{bl:Nat->Nat}{listed:Array Bool}{g:Gh}{a:Act}{w:World}
theorem N4{p:Nat->Bool}{o:Op}(h:jW p fr o=J){k:Nat}(a:k∈tmpsOf o){v:V S}(c:fr.get k=Z v):cN p v=J:=by
 let ⟨x,d,b⟩:=Ax.1 a
 grind[jW,cF]
theorem VC{ow wr:L Nat}{aE:Nat}(a:∀o∈ow,o∈wr){v:V S}(h:cN (dN wr aE) v=J):iT ow v=J:=by
 grind[pU,ew,dN]
theorem Nh{ops:L Oper}{fr:ck S}{o:Oper}{k:Nat}{v:V S}(h:vF ops fr o=W)(a:oH ops o=Z k)(c:fr.get k=Z v):(∃b,v=.kb b)\/∃l,v=.dat (.lit (.tuple l)):=by
 unfold vF at h;unfold oH at a
 grind
theorem s4.step(hE:fu E){call:gj S}(wJ:gL E.T.E.P call)(A:y9 E ops j3.n)(h:s4 E ops j3 s0 g0 w0 done fr s bl listed g a w){i:Nat}{o:Oper}(I:At ops i o)(hd:done.testBit i=J)(hnl:¬nC listed i)(hl:∀e∈yz o,nC listed e)
  (hsub:∀j,Pre ops.toList i j->done.testBit j=W\/(yK (sA ops.toList) done).testBit j=W) {tR:ck S} {s1:bp S} (had:TL.yX E.T (yK (sA ops.toList) done&&& (w6 ops.toList).getD i 0) (sA ops.toList) fr s=Z (tR,s1))
  {ω:Type} {kp:ck S->V S->bp S->O ω} {k:Nat->ck S->bp S->O ω} {r:ω}
  (hev:p9 E call ops.toList o tR {s1 with wr:=[]} (λt s'=>kp (ahn ops.toList tR) t {s' with wr:=s'.wr++s1.wr}) (λt s' ow=>bif Fo ops.toList (w6 ops.toList) done i fr s.aE s'.wr ow (sA ops.toList)then
   k (done||| (yK (sA ops.toList) done&&& (w6 ops.toList).getD i 0)||| 1 <<< i) ((dA ow tR).jr o.dst t) {s' with wr:=s'.wr++s1.wr}else Y)=Z r)
  {K:Act->World->Prop} {Q:Exit->Act->World->Prop}
  (hK:∀done' fr' s' g' a' w',k done' fr' s'=Z r->s4 E ops j3 s0 g0 w0 done' fr' s' bl (listed.setIfInBounds i W) g' a' w'->K a' w')
  (hP:∀fr' t s' g' a' v w',kp fr' t s'=Z r->fr'.n=j3.n->cU g' (bL fr') a' w'->eJ s0 g0 w0 s' g' w'->dw (ops.toList.filterMap (·.dst)) j3 fr' s'.dr s0.aE->aI g' w' (low t) v->Q (.panic [{v,recovered:=J}]) a' w') {rr:O Nat} (hrr:rr≠Y->∀o∈ops.toList,∀c,o.op≠.defer c):CO rr E.T.E.P ops Q i K a w:=by
 have aqM:rr≠Y->∀c,o.op≠.defer c:=λhr=>hrr hr o (at_mem I);have hi:i<listed.size:=by rw[h.Lv];exact vJ I
 have Om:∀j,Pre ops.toList i j->nC listed j:=nL A.bk (λi o hi hl=>h.VI i o hi hl) I hl;generalize hwe:yK (sA ops.toList) done&&& (w6 ops.toList).getD i 0=which at had hev;have hwb:∀j,which.testBit j=W↔(yK (sA ops.toList) done).testBit j=W/\Pre ops.toList i j:=λj=>by rw[<-hwe,Nat.testBit_and,eW];rfl
 let ⟨g1,hA,hC⟩:=h.yX A had (λj hj=>⟨Om j ((hwb j).1 hj).2,((hwb j).1 hj).1⟩) (λj hj m hm=>by
  have hpm:=Vl A.bk I ((hwb j).1 hj).2 hm
  simp_all)
 have hpd:∀j,Pre ops.toList i j->(done||| which).testBit j=W:=λj hj=>by
  simp_all
 have hwd:∀{j:Nat}{q:Oper},At ops j q->which.testBit j=W->nC listed j/\fh q=W/\done.testBit j=J:=λ{j q}B hj=>by
  let ⟨o',ho',h3,h4⟩:=(wm done j).1 ((hwb j).1 hj).1
  have:q=o':=j8 (B.symm.trans ho')
  simp_all
 have hwi:which.testBit i=J:=by
  grind
 have P:gN tR o.dst=W:=OJ hev;have hdst:gN (dA (S:=S) [] tR) o.dst=W:=P
 let ⟨hfr,hfn,hag⟩:=hC.alE A
 have ag0:=hag I (λj hj=>⟨Om j hj,hpd j hj⟩) λj ha hji=>by
  let ⟨q,B,_⟩:=ha
  have hnj:¬nC listed j:=λhlj=>hnl (nL A.bk (λi o hi hl=>h.VI i o hi hl) B (h.VI j q B hlj) i hji);refine⟨hnj,?_⟩;cases MU:(done||| which).testBit j with
  |false=>rfl|true=>
   rw[Ny,oQ]at MU;obtain MU|MU:=MU
   have:=h.ZY j q B MU i hji
   simp_all
   simp_all
 rw[IW E call _ _ _ hfn.symm (Ff A.us I) (λk n=>ag0 k (.inl n)) (λk n=>ag0 k (.inr n))]at hev;have Aa:aY g1 (aC {s1 with wr:=[]}) w:=hC.BJ.rel;unfold CO;simp[HK I];refine(sI hE wJ (by rw[hfn];exact hC.nb) hfr Aa hev (λt s' ow g' v w' n ht f=>?_) (λt s' g' v w' n f ht=>?_) aqM).2
 .obtain ⟨akw,n⟩|⟨_,n⟩:=af n
  rotate_left;cases n;refine hK _ _ _ g' _ w' n ?_;have Rq:s1.fl=0:=hA.fl.trans h.fl;have hnf:∀ow':L Nat,(dA ow' tR).n=tR.n:=λow'=>tS ow' tR;have aq1:gN (dA ow tR) o.dst=W:=AE P;have ek:∀k,((dA ow tR).jr o.dst t).get k=if o.dst=Z k then Z t else(dA ow tR).get k:=λk=>J0 aq1 (by rw[hnf];exact hC.nb)
  have hnn:((dA ow tR).jr o.dst t).n=tR.n:=by
   have:((dA ow tR).jr o.dst t).n=(dA ow tR).n:=by cases o.dst<;>rfl
   rw[this,hnf]
  have alu:eJ s1 g1 w {s' with wr:=s'.wr++s1.wr} g' w':=
   ⟨f.rel,f.ext,f.fl,f.lo,f.aE,λo I=>eV _ I,λo I hn=>f.same o I (λhm=>hn (fS _ hm)),f.Ht⟩
  have hne:∀{j:Nat}{p:Oper}{k:Nat},At ops j p->j≠i->p.dst=Z k->o.dst≠Z k:=λF hne hpd R=>((uW A.ds I R).2.2 F (Ne.symm hne)).1 hpd;have hd':∀j,(done||| which||| 1 <<< i).testBit j=W↔(done.testBit j=W\/which.testBit j=W)\/i=j:=λj=>by rw[uX,Ny,oQ]
  refine⟨by simpa using h.Lv,hnn.trans hC.n,by rw[hnn];exact hC.nb,by rw[tE.1,hnn];exact hC.Wu,?_,λk t' C hc=>?_,λj p F hj e he=>?_,λj p F hj m hm=>?_,λj p F hj=>?_,λj p F hj hn=>?_,λj p F hj hn=>?_,λj m hj hm h1 h2 hjm yx hms=>?_,hC.BJ.trans alu,?_,f.fl.trans Rq,λj ha hj=>?_⟩
  .rw[tE.2,Gs,EN];cases ow with|nil=>exact f.OY hC.df|cons x ow=>exact(gU (λv=>kU _ v) (λ_ _=>rfl) tR.df).rel f.tr hC.df
  rw[ek]at C;by_cases R:o.dst=Z k;rw[bD R]at C;cases C;have hk2:k<tR.n:=by rw[R]at P;exact gS P
  exact⟨v,by rw[R];exact tF (by rw[hC.Wu];exact hk2),ht⟩;rw[bQ R]at C
  let ⟨h1,h2⟩:=wN C
  let ⟨u,hu,htu⟩:=hC.tm k t' h1 λj p F hpd=>by
   have c1:=hc j p F hpd;rw[fG hi,hd']at c1
   grind
  exact⟨u,by rw[yb R];exact hu,f.tr _ _ htu h2⟩;rw[fG hi]at hj ⊢;obtain hj|rfl:=hj
  exact .inl (h.VI j p F hj e he);have:o=p:=j8 (I.symm.trans F)
  simp_all
  rw[hd']at hj ⊢;obtain hj|rfl:=hj
  left
  have:=hC.ZY j p F (by simp_all) m hm;rwa [Ny,oQ]at this
  simp_all
  rw[fG hi]at hj;rw[hd'];obtain hj|rfl:=hj
  exact(h.ld j p F hj).imp (λh=>.inl (.inl h)) id;omega
  ·
   have hji:j≠i:=λe=>hn ((fG hi).2 (.inr e.symm));have hnl:¬nC listed j:=λhl=>hn ((fG hi).2 (.inl hl));have MU:done.testBit j=W:=by
    grind
   let ⟨hna,hfo⟩:=h.fo j p F MU hnl
   have hnp:¬Pre ops.toList i j:=λhpr=>hnl (Om j hpr);have hmm:=Xk akw (jA.2 F) MU hna hnp;have hpi:∀{m:Nat}{q:Oper}{k:Nat},At ops m q->(m=i\/which.testBit m=W)->(k∈tmpsOf p.op\/oH ops.toList p=Z k)->q.dst≠Z k:=by
    intro m q k B hm n Ze;have hpre:Pre ops.toList j m:=by
     obtain h1|⟨h1,_⟩:=(KK A F n B Ze).2
     exact h1;exfalso;obtain rfl|hm:=hm
     exact hnp h1;exact hnl (nL A.bk (λi o hi hl=>h.VI i o hi hl) B (h.VI m q B (hwd B hm).1) j h1)
    have:=h.ZY j p F MU m hpre
    grind
   have hold:∀k,(k∈tmpsOf p.op\/oH ops.toList p=Z k)->tR.get k=fr.get k:=λk n=>hA.old k λq B hw=>hpi (jA.1 B) (.inr hw) n;have hput:∀k,(k∈tmpsOf p.op\/oH ops.toList p=Z k)->((dA ow tR).jr o.dst t).get k=(dA ow tR).get k:=λk n=>by rw[ek,bQ (hpi I (.inl rfl) n)]
   have hsubw:∀o∈ow,o∈s'.wr:=f.oww;have hkeep:∀k,fr.get k=tR.get k->(∀v,fr.get k=Z v->iT ow v=J)->(dA ow tR).get k=fr.get k:=λk he hm=>by
    cases hfk:fr.get k with
    |some v=>grind[AW]|none=>
     cases arC:(dA ow tR).get k with
     |none=>rfl|some v=>
      have:=(wN arC).1
      simp_all
   have hno:∀k v,k∈tmpsOf p.op->fr.get k=Z v->iT ow v=J:=λk v n hv=>by
    grind[VC,N4,pU]
   have hsame:∀x,dN s'.wr s.aE x=J->({s' with wr:=s'.wr++s1.wr}:bp S).ob.get x=s.ob.get x:=λx hx=>by
    simp only[dN,zj]at hx;have hx1:x∉s'.wr:=by grind
    have hx2:x<s.aE:=by
     grind[Nat.ble_eq_true_of_le]
    have:=f.same x (iS hx2 hA.aE) hx1;exact this.trans (hA.ob x hx2)
   refine⟨hna,hfo.move (hnn.trans hA.n) (Ff A.us F) (λk n=>?_) (λk n=>?_) (λd akA t' ht'=>?_) (p:=dN s'.wr s.aE) (.inr (hmm.imp (λh=>⟨h.1,h.2,hsame⟩) (λh=>h.1)))⟩
   grind
   .rw[hput k (.inr n)];refine hkeep k (hold k (.inr n)).symm λv hv=>?_;obtain⟨f1,_⟩|TY:=hfo.2
    obtain⟨b,rfl⟩|⟨l,rfl⟩:=Nh f1 n hv<;>rfl
    have hgv:∃b,iD v=Z b:=by
     have y:∃c,iO ops.toList fr p=Z (Z c)\/iO ops.toList fr p=Z Y:=by
      obtain⟨f1,_⟩|⟨c,f1,_⟩:=TY
      simp_all
      simp_all
     let ⟨c,y⟩:=y
     unfold oH at n;unfold iO at y;cases hpg:p.guard with
     |none=>simp_all|some q=>
      let ⟨m,want⟩:=q
      simp[hpg]at n y;rw[n,Tp,hv]at y;cases hb:iD v with
      |some b=>grind|none=>
       exfalso;cases v<;>first|(cases hb;done)|(simp only[hb]at y;obtain h|h:=y<;>cases h)
    let ⟨b,hb⟩:=hgv
    cases v<;>first|rfl|simp[iD]at hb
   rw[ek,bQ (hne F hji akA)]at ht';have h1:=(wN ht').1;rw[hA.old d λq B hw Ze=>?_]at h1;exact h1;have hq':At ops q.1 q.2:=jA.1 B;have hjq:j≠q.1:=λe=>by
    simp_all
   exact((uW A.ds F akA).2.2 hq' hjq).1 Ze
  .have hji:j≠i:=λe=>by
    simp_all
   have MU:done.testBit j=J:=by
    simp_all
   have hwj:which.testBit j=J:=by
    simp_all
   rw[fG hi]at hj;have hlj:nC listed j:=hj.elim id λe=>absurd e.symm hji
   let ⟨h1,h2⟩:=h.ea j p F hlj MU
   refine⟨λt2 ti d q1 q2 q3=>?_,iS h2 f.ext.size⟩
   let ⟨z,r1,r2,r3⟩:=h1 t2 ti d q1 q2 q3
   have agM:Jc g1 w0 w (bl j) z:=⟨r2.new,r2.lt,by rw[hA.bx];exact r2.bx,λx hO=>by
    obtain hO|⟨q,B,hw,d2,hd2,htm⟩:=hA.own x (bl j) hO
    exact r2.own x hO;have hq':At ops q.1 q.2:=jA.1 B
    let ⟨l1,_,l3⟩:=hwd hq' hw
    let ⟨t3,ti3,d3,e1,e2,e3,_⟩:=hA.adz q B hw
    let ⟨z3,u1,_,_⟩:=(h.ea q.1 q.2 hq' l1 l3).1 t3 ti3 d3 e1 e2 e3
    have:d2=d3:=j8 (hd2.symm.trans e3);subst this;have hbb:bl j=bl q.1:=by
     simp_all
    have hjq:j≠q.1:=λe=>by simp_all
    exact h.eb j q.1 hlj l1 MU l3 hjq (vJ F) (vJ hq') hbb,r2.mem⟩
   exact⟨z,by rw[yb (hne F hji q3)];exact r1,agM.BJ f Rq,r3⟩
  .have hx:∀j,(done||| which||| 1 <<< i).testBit j=J->done.testBit j=J/\i≠j:=λj hj=>by
    grind
   rw[fG hi]at hj hm;exact h.eb j m (hj.elim id λe=>absurd e (hx j h1).2) (hm.elim id λe=>absurd e (hx m h2).2) (hx j h1).1 (hx m h2).1 hjm yx hms
  .refine ⟨λk v n hv=>?_,?_⟩;rotate_left
   .rw[EN];have h0:yD (dN s'.dr s0.aE) j3.df tR.df:=by rw[hA.OY];exact h.fk.df.mono (jb (λx hx=>f.Ht x (by rw[hA.dr];exact hx)) (eO _))
    cases ow with|nil=>exact h0|cons x ow=>refine h0.trans (u0 (p:=(x::ow).contains) (λo' ho'=>?_) (λv=>pU _ v) _).ok;have:=f.owd o' (by grind);simp[dN,this]
   have yw:∀{m:Nat}{q:Oper},At ops m q->q.dst≠Z k:=λB Ze=>n (Ax.2 ⟨_,iA B,Ze⟩);obtain h1|h1:=h.fk.tm k v n hv
   .rw[ek,bQ (yw I)];rw[<-hA.old k λq B _=>yw (jA.1 B)]at h1;cases hm:iT ow v with
    |false=>exact .inl (AW h1 hm)|true=>
     rw[pU]at hm;refine .inr (ew (λx hx=>?_) v hm);have:x∈ow:=by simpa using hx
     have:=f.owd x this;simp[dN,this]
   exact .inr (ew (jb (λx hx=>f.Ht x (by rw[hA.dr];exact hx)) (eO _)) v h1)
  rw[fG hi];obtain(hj|hj)|hj:=(hd' j).1 hj
  exact .inl (h.an j ha hj)
  simp_all
  omega
 have hds:∀d∈ops.toList.filterMap (·.dst),d<bM:=λd hd=>by
  let ⟨q,B,Ze⟩:=Ax.1 hd
  let ⟨m,hm⟩:=NS B
  exact(uW A.ds hm Ze).1
 have hgd:∀k,(ahn ops.toList tR).get k=if k∈ops.toList.filterMap (·.dst)then Y else tR.get k:=λk=>Tr.oG _ _ _ hds
 have hdr:∀x,dN s.dr s0.aE x=W->dN s'.dr s0.aE x=W:=jb (λx hx=>f.Ht x (by rw[hA.dr];exact hx)) (eO _);refine hP _ t _ g' _ v w' n hC.n ⟨hC.Wu,f.OY hC.df,λk t' C=>?_⟩ (hC.BJ.trans ⟨f.rel,f.ext,f.fl,f.lo,f.aE,λo I=>eV _ I,λo I hn=>f.same o I (λhm=>hn (fS _ hm)),f.Ht⟩) ⟨λk v n hv=>?_,?_⟩ ht;rw[cg,hgd]at C;split at C;cases C;rename_i hnk;rw[fT]at C;obtain⟨u,hu,rfl⟩:=C
 let ⟨v',hv',ht'⟩:=hC.tm k u hu λi o hi R=>absurd (Ax.2 ⟨o,iA hi,R⟩) hnk
 exact⟨v',hv',f.tr _ _ ht' (mD _)⟩;obtain h1|h1:=h.fk.tm k v n hv
 left
 rw[hgd,bQ n,hA.old k λq B _ Ze=>n (Ax.2 ⟨_,iA (jA.1 B),Ze⟩)];exact h1;exact .inr (ew hdr v h1);show yD _ j3.df tR.df;rw[hA.OY];exact h.fk.df.mono hdr
end
end
section
def Dk{E:eM S}{ops:L Oper}{bef:L Nat}{done:Nat}{fr:ck S}{i:Nat}{o:Oper}:∀{l:WS},QJ E ops bef done fr l=Z (i,o)->(i,o)∈l/\done.testBit i=J/\fh o=J/\Ur ops bef i o=J/\UT (bef.getD i 0) done=W
 |[],h=>by cases h
 |(j,p)::l,h=>by
  obtain⟨a,h⟩|⟨_,h⟩:=af h
  simp_all
  let ⟨h1,h2⟩:=Dk h
  simp_all
def Dl{bef:L Nat}{done vW:Nat}{i:Nat}{o:Oper}:∀{l:WS},QL bef done vW l=Z (i,o)->(i,o)∈l/\done.testBit i=J/\fh o=J/\UT (bef.getD i 0) (done||| vW)=W
 |[],h=>by cases h
 |(j,p)::l,h=>by
  obtain⟨a,h⟩|⟨_,h⟩:=af h
  simp_all
  let ⟨h1,h2⟩:=Dl h
  simp_all
section
variable {ops:Array Oper}{listed:Array Bool}
theorem FM{j:Nat}(b:listed.size=ops.size)(h:j∈Region.ready .any ops listed):∃o,At ops j o/\¬nC listed j/\∀e∈yz o,nC listed e:=by
 let ⟨h1,o,c,h2⟩:=mem_ready.1 h
 have g:j<listed.size:=by grind
 refine⟨o,by unfold At;simpa using c,λi=>?_,λe f=>?_⟩
 simp_all[nC]
 obtain⟨d,a,rfl⟩:=ym.1 f;rw[List.mem_filter]at a;exact h2 d (by grind) a.2
variable {bef:List Nat}{done i j:Nat}{o:Oper}
def Xx(a:listed.size=ops.size)(b:At ops j o)(hn:¬nC listed j)(c:∀e∈yz o,nC listed e):j∈Region.ready .any ops listed:=by
 have g:j<listed.size:=by rw[a];exact vJ b
 refine mem_ready.2 ⟨?_,o,HK b,λe d f=>c e.on (ym.2 ⟨e,List.mem_filter.2 ⟨by simpa using d,f⟩,rfl⟩)⟩
 simp_all[nC]
theorem Jr(c:vI ops.toList 0=W)(a:listed.size=ops.size)(h:Region.ready .any ops listed=[]):∀j o,At ops j o->nC listed j:=by
 intro j
 induction j using Nat.strongRecOn with
 |_ j k=>
  intro o b;refine XD λd=>?_;have:j∈Region.ready .any ops listed:=Xx a b d λe f=>by
   have g:=Bp c b e f;have l:=vJ b;have i:At ops e (ops[e]'(by omega)):=by
    grind[At]
   grind
  simp_all
theorem Hw(a:listed.size=ops.size)(h:listed.toList.count J<=0){j:Nat}{o:Oper}(b:At ops j o):nC listed j:=by
 have c:j<listed.size:=by rw[a];exact vJ b
 have d:listed.toList.count J=0:=by omega
 rw[List.count_eq_zero]at d;unfold nC;simp only[Array.getD,c,dite_true];cases e:listed[j]with
 |true=>exact e|false=>
  grind
def count_set(a:listed.size=ops.size){m j:Nat}{o:Oper}(b:At ops j o)(hn:¬nC listed j)(h:listed.toList.count J<=m+1):(listed.setIfInBounds j W).toList.count J<=m:=by
 have c:j<listed.size:=by rw[a];exact vJ b
 simp_all[nC,List.count_set]
end
section
variable {E:eM S}{ops:Array Oper}{j3:ck S}{s0:bp S}{g0:Gh}{w0:World}
theorem RK(hE:fu E){call:gj S}(wJ:gL E.T.E.P call)(e:y9 E ops j3.n){ω:Type}{kp:ck S->V S->bp S->O ω}{kk:ck S->bp S->O ω}{r:ω}{Q:Exit->Act->World->Prop}
  (hN:∀fr' s' g' a' w',kk fr' s'=Z r->fr'.n=j3.n->cU g' (bL fr') a' w'->eJ s0 g0 w0 s' g' w'->dw (ops.toList.filterMap (·.dst)) j3 fr' s'.dr s0.aE->Q .normal a' w')
  (hP:∀fr' t s' g' a' v w',kp fr' t s'=Z r->fr'.n=j3.n->cU g' (bL fr') a' w'->eJ s0 g0 w0 s' g' w'->dw (ops.toList.filterMap (·.dst)) j3 fr' s'.dr s0.aE->aI g' w' (low t) v->Q (.panic [{v,recovered:=J}]) a' w') {rr:O Nat} (I:rr≠Y->∀o∈ops.toList,∀c,o.op≠.defer c) :
  ∀(n done:Nat)(fr:ck S)(s:bp S),uT E call ops.toList (w6 ops.toList) (sA ops.toList) kp kk n done fr s=Z r->∀(m:Nat)(listed:Array Bool)(bl:Nat->Nat)(g:Gh)(a:Act)(w:World),
   s4 E ops j3 s0 g0 w0 done fr s bl listed g a w->listed.toList.count J<=m->aei rr E.T.E.P ops Q m listed a w:=by
 intro n
 induction n with
 |zero=>intro done fr s h;cases h
 |succ n ih=>
  intro done fr s h;simp only[uT]at h;split at h
  ·
   rename_i i o hq
   let ⟨hm,K,hna,P,z⟩:=Dk hq
   have C:At ops i o:=jA.1 hm
   replace P:¬antiP ops.toList i:=aag C P
   obtain⟨hd,h2⟩|⟨_,h2⟩:=af h
   rotate_left;cases h2;clear h;intro m listed bl g a w b F;obtain⟨hsk,h3⟩|⟨_,h2⟩:=af h2
   exact ih _ _ _ h3 m listed bl g a w (b.float e C K hna P (Aj.1 z) hd (.inl ⟨hsk,rfl⟩)) F;split at h2;cases h2;rename_i hg;rw[AZ]at h2
   let ⟨t,e1,h3⟩:=vU.1 h2
   let ⟨t',hkb,h3⟩:=UU h3
   exact ih _ _ _ h3 m listed bl g a w (b.float e C K hna P (Aj.1 z) hd (.inr (.inl ⟨hg,t,e1,hkb⟩))) F;rename_i c hg
   let ⟨hok,h2⟩:=oL h2
   rw[AZ]at h2
   let ⟨t,e1,h3⟩:=vU.1 h2
   exact ih _ _ _ h3 m listed bl g a w (b.float e C K hna P (Aj.1 z) hd (.inr (.inr ⟨c,t,hg,hok,e1,rfl⟩))) F
  .split at h
   ·
    rename_i i o hq
    let ⟨hm,K,hna,z⟩:=Dl hq
    have C:At ops i o:=jA.1 hm;obtain⟨R,h2⟩|⟨_,h2⟩:=af h
    rotate_left;cases h2;clear h;split at h2;cases h2;rename_i tR s1 had;intro m
    induction m with
    |zero=>
     intro listed bl g a w b F;exfalso;obtain h1|h1:=b.ld i o C (Hw b.Lv F C)
     simp_all
     simp_all
    |succ m ihm=>
     intro listed bl g a w b F;have hnl:¬nC listed i:=λhl=>by
      obtain h1|h1:=b.ld i o C hl
      simp_all
      simp_all
     refine⟨λhr=>absurd (Jr e.bk b.Lv hr i o C) hnl,λj hj=>?_⟩
     let ⟨p,y,f,B⟩:=FM b.Lv hj
     cases A:done.testBit j with
     |true=>exact b.aez hE e y A f B (λg' a' w' d=>ihm _ bl g' a' w' d (count_set b.Lv y f F)) I|false=>
      cases haj:fh p with
      |true=>exact b.aeA hE e y A haj f B (λBH a' w' d=>ihm _ BH g a' w' d (count_set b.Lv y f F)) I|false=>
       have hji:i=j:=by
        have:=kP.1 R (j,p) (jA.2 y);simp only[A,haj,Bool.false_or,oQ]at this;obtain h1|h1:=this
        simp_all
        exact absurd (nL e.bk (λi o hi hl=>b.VI i o hi hl) y B i h1) hnl
       subst hji;have:o=p:=j8 (C.symm.trans y);subst this;refine b.step hE wJ e C K f B (λj hj=>?_) had (kp:=kp) (k:=λdone fr s=>uT E call ops.toList (w6 ops.toList) (sA ops.toList) kp kk n done fr s) h2 (λdone' fr' s' g' a' w' hk d=>ih _ _ _ hk m _ bl g' a' w' d (count_set b.Lv C f F)) hP I;have:=Aj.1 z j hj;rwa [Ny,oQ]at this
   ·
    split at h;cases h;rename_i tR s1 had;obtain⟨R,h2⟩|⟨_,h2⟩:=af h
    rotate_left;cases h2;have hda:∀{j:Nat}{p:Oper},At ops j p->done.testBit j=W\/fh p=W:=λ{j p}y=>by
     have:=kP.1 R (j,p) (jA.2 y)
     grind
    have hend:∀(listed:Array Bool)(bl:Nat->Nat)(g:Gh)(a:Act)(w:World),s4 E ops j3 s0 g0 w0 done fr s bl listed g a w->(∀j o,At ops j o->nC listed j)->Q .normal a w:=by
     intro listed bl g a w b hl;have hdp:∀{j:Nat}{p:Oper},At ops j p->done.testBit j=W\/(yK (sA ops.toList) done).testBit j=W:=λ{j p}y=>by cases A:done.testBit j with|true=>exact .inl rfl|false=>exact .inr ((wm done j).2 ⟨p,y,(hda y).resolve_left (by simp_all),A⟩)
     let ⟨g1,hA,hC⟩:=b.yX e had (λj hj=>by
       let ⟨p,y,_⟩:=(wm done j).1 hj
       exact⟨hl j p y,hj⟩) (λj hj x hx=>by
       let ⟨p,y,_⟩:=(wm done j).1 hj
       have hlt:=X5 e.bk y x hx;have yx:=vJ (ops:=ops) y;have zB:At ops x (ops[x]'(by omega)):=by
        grind[At]
       exact hdp zB)
     refine hN tR s1 g1 a w h2 hC.n ⟨hC.Wu,hC.df,λk t hk=>?_⟩ hC.BJ ⟨λk v hk hv=>?_,by rw[hA.OY,hA.dr];exact b.fk.df⟩;rw[cg,fT]at hk;obtain⟨u,hu,rfl⟩:=hk;exact hC.tm k u hu λi o hi _=>⟨λ_=>by grind,λ_=>hl i o hi⟩;obtain h1|h1:=b.fk.tm k v hk hv
     left
     rw[hA.old k λq hq _ Ze=>hk (Ax.2 ⟨_,iA (jA.1 hq),Ze⟩)];exact h1;rw[hA.dr];exact .inr h1
    intro m
    induction m with
    |zero=>
     intro listed bl g a w b F;have hl:∀j o,At ops j o->nC listed j:=λj o C=>Hw b.Lv F C;refine⟨?_,hend listed bl g a w b hl⟩;cases hr:Region.ready .any ops listed with
     |nil=>rfl|cons j l=>
      let ⟨p,y,f,_⟩:=FM b.Lv (j:=j) (by simp_all)
      grind
    |succ m ihm=>
     intro listed bl g a w b F;refine⟨λhr=>hend listed bl g a w b (Jr e.bk b.Lv hr),λj hj=>?_⟩
     let ⟨p,y,f,B⟩:=FM b.Lv hj
     cases A:done.testBit j with|true=>exact b.aez hE e y A f B (λg' a' w' d=>ihm _ bl g' a' w' d (count_set b.Lv y f F)) I|false=>exact b.aeA hE e y A ((hda y).resolve_left (by simp_all)) f B (λBH a' w' d=>ihm _ BH g a' w' d (count_set b.Lv y f F)) I
def ahl(hE:fu E)(hm:E.T.E.P.follows .mixedOrders=W){call:gj S}(e:gL E.T.E.P call):sY E call:=by
 intro id ops ω kp k r fr s u h hn g a w x p Q hN hP rr m;have y:rr≠Y->∀o∈ops.toList,∀c,o.op≠.defer c:=λhr=>Tl (m hr);unfold ZR at u;simp only[eW]at u
 let ⟨b1,b2,b3,b4,b5,b6⟩:=u
 have z:y9 E ops fr.n:=⟨b1,b2,b3,b4,b5⟩;have A:s.fl=0:=vV b6;refine Nv hm ?_
 let ⟨B,C⟩:=p.grow (fl:=s.fl) (I:=g.bx) (w':={w with drawn:=w.drawn+1}) (λ_ h=>h) (λ_ h=>.inl h) p.bx (eO _) (λ_ _=>rfl) rfl rfl
 have n:eJ s g w s g {w with drawn:=w.drawn+1}:=
  ⟨B,⟨λ_ _ h=>h,λ_ _ _ _ h=>h,λ_ h=>h,eO _,λ_ _ _=>rfl,λo b d hO=>.inl ⟨o,d,hO⟩,λ_ h=>.inl h,rfl,rfl⟩,rfl,rfl,eO _,λ_ h=>h,λ_ _ _=>rfl,λ_ h=>h⟩
 have q:∀i,¬nC (Array.replicate ops.size J) i:=λi d=>by
  simp_all[nC,Array.getD]
 refine RK hE e z (s0:=s) (g0:=g) (w0:=w) (kp:=kp) (kk:=k) (r:=r) (λl F K P w' h1 h2 h3 h4 h5=>hN l F K P w' h1 h2 h3 h4 ?_) (λl t F K P v w' h1 h2 h3 h4 h5 h6=>hP l t F K P v w' h1 h2 h3 h4 h5 h6) y _ 0 fr s h ops.size _ (λ_=>0) g a _
  ⟨by simp,rfl,hn,x.size,x.df.imp (λ_ _ R=>R.ext C p.bx) C.bT,λk t hk _=>?_,λi _ _ d=>absurd d (q i),λi _ _ hd=>by simp at hd,λi _ _ d=>absurd d (q i),λi _ _ hd=>by simp at hd,λi _ _ d=>absurd d (q i),λi _ d=>absurd d (q i),n,dw.refl _ _ _ _,A,λj _ hj=>by simp at hj⟩ (by simp)
 exact h5
 let ⟨v,hv,R⟩:=x.tm k (low t) (by rw[cg,hk];rfl)
 exact⟨v,hv,R.ext C p.bx⟩
def aeY{E:eM S}(e:fu E)(g:E.T.E.P.follows .mixedOrders=W){f:FuncId}{fn:Func}{c:Code}(a:E.T.E.T4 f=Z fn)(h:fn.body=Z c)(n d:Nat)(ps:L Pk)(b:L Ck) :
  bG E.T.E.P f ⟨ps,b,E.pn,A3 E n d f ps b⟩:=Hx e (λ_=>ahl e g) a h n d ps b
end
end
section
def zD:Value->D
 |.slice Y 0 0=>.sl []|v=>.lit v
def WV(z:Value):L D:=z.cells.toList.map zD
theorem aiQ(v:Value):ahA (zD v) v:=by unfold zD;split;exact .inl ⟨rfl,rfl⟩;exact .inr rfl
theorem W8(z:Value):ZOk (WV z) z.cells:=by
 refine⟨by simp[WV],λj d v h1 h2=>?_⟩;simp only[WV,lE,fT]at h1;obtain⟨u,a,rfl⟩:=h1
 grind[aiQ]
def ahs:D->Nat
 |.lit (.string _)=>16|.sl _=>24|_=>8
def o8:L D->Nat
 |[]=>0|d::l=>Na (ahs d) (o8 l)
def Hr(agg:Bool)(a:L D):Nat:=bif agg then o8 a else match a with
 |[.lit (.int .i8 _)]|[.lit (.int .u8 _)]|[.lit (.bool _)]=>1|[.lit (.int .i16 _)]|[.lit (.int .u16 _)]=>2|[.lit (.int .i32 _)]|[.lit (.int .u32 _)]=>4|a=>o8 a
def T5(P:Program)(f:Field):O (Nat×Nat×Bool):=match P.info? f.type,P.underlying f.type with
 |some j,Z d=>Z (f.offset,j.size,ec d)|_,_=>Y
def fieldsOf(P:Program):L Field->O (L (Nat×Nat×Bool))
 |[]=>Z []|f::l=>match T5 P f,fieldsOf P l with
  |some x,Z r=>Z (x::r)|_,_=>Y
def DK{P:Program}:∀{l:L Field}{fs:L (Nat×Nat×Bool)},fieldsOf P l=Z fs->l.length=fs.length/\∀(k:Nat)off size ag,fs[k]?=Z (off,size,ag)->
  ∃f j b,l[k]?=Z f/\f.offset=off/\P.info? f.type=Z j/\j.size=size/\P.underlying f.type=Z b/\ag=ec b
 |[],fs,h=>by simp only[fieldsOf,gP]at h;subst h;exact⟨rfl,λk _ _ _ h=>by simp at h⟩
 |f::l,fs,h=>by
  simp[fieldsOf]at h;split at h
  .rename_i h1 h2;simp at h;subst h
   let ⟨c,e⟩:=DK h2
   refine⟨by simp[c],λk off size ag a=>?_⟩;cases k with
   |zero=>simp at a;subst a;unfold T5 at h1;split at h1;rename_i j d g i;obtain⟨rfl,rfl,rfl⟩:=h1;exact⟨f,j,d,rfl,rfl,g,rfl,i,rfl⟩;cases h1
   |succ k=>exact e k off size ag (by simpa using a)
  cases h
def YH(P:Program):TypeDesc->Kd
 |.int k=>.leaf (.int k)|.bool=>.leaf .bool|.string=>.leaf .str|.pointer _=>.ptr|.interface _=>.iface|.slice e=>match P.info? e,P.underlying e with
  |some j,Z d=>match j.zero with
   |some z=>bif Nl j.bytes 4096&&(Nt 0 j.size&&(Nl j.bytes (Hr (ec d) (WV z))&&(Nl (Hr (ec d) (WV z)) (Nat.mul 2 j.bytes)&&(Nt 0 j.bytes&&Nq (cH (WV z)) j.size))))then
     .slice j.size (ec d) (Hr (ec d) (WV z)) (WV z)else .other
   |none=>.other
  |_,_=>.other
 |.struct fields=>match fieldsOf P fields.toList with
  |some a=>.struct a|none=>.other
 |.array len e=>match P.info? e,P.underlying e with
  |some j,Z d=>.array len j.size (ec d)|_,_=>.other
 |_=>.other
theorem acB(P:Program)(d:TypeDesc):am2 P (YH P d) d:=by
 cases d with
 |slice e=>
  simp only[YH];split;rename_i j d h1 h2;split
  .rename_i z b;cases a:(Nl j.bytes 4096&&(Nt 0 j.size&&(Nl j.bytes (Hr (ec d) (WV z))&&(Nl (Hr (ec d) (WV z)) (Nat.mul 2 j.bytes)&&(Nt 0 j.bytes&&Nq (cH (WV z)) j.size)))))with
   |false=>trivial|true=>
    simp only[eW]at a
    let ⟨c,f,g,i,l,o⟩:=a
    exact⟨e,j,d,z,rfl,h1,rfl,h2,rfl,b,W8 z,gS c,gS f,gS g,gS i,gS l,by grind[bV,Nat.eq_of_beq_eq_true]⟩
  trivial;trivial
 |struct fields=>
  simp[YH];split;rename_i h
  let ⟨m,p⟩:=DK h
  exact⟨fields,rfl,by simpa using m,λk off size q r=>by
   grind⟩
  trivial
 |array len e=>simp[YH];split;rename_i j d h1 h2;exact⟨e,j,d,rfl,h1,rfl,h2,rfl⟩;trivial
 |int k=>exact rfl|bool=>exact rfl|string=>exact rfl|pointer e=>exact⟨e,rfl⟩|interface n=>exact⟨n,rfl⟩|_=>trivial
def YR:Value->Bool
 |.agg _=>W|_=>J
def abL(P:Program)(a:TypeId->L Lk)(t:TypeId):O TI:=match P.info? t,P.underlying t with
 |some x,Z d=>match x.zero with
  |some z=>bif (bif ec d then YR z else !(YR z))then Z ⟨x.size,ec d,WV z,bif ec d then a t else[],YH P d⟩else Y|none=>Y
 |_,_=>Y
variable {P:Program}
def abK{a:TypeId->L Lk}(n:∀t,a t≠[]->ahY P t (a t)){t:TypeId}{i:TI}(h:abL P a t=Z i):nu P t i:=by
 unfold abL at h;split at h;rename_i x d j k;split at h;rename_i z l;obtain⟨g,h⟩|⟨_,h⟩:=af h
 simp at h;subst h;refine⟨λb m=>?_,λo c=>?_,λp q e f=>?_,x,d,z,j,k,rfl,rfl,l,W8 z,acB P d⟩
 simp_all
 rw[k]at c;cases c;rfl;rw[j]at e;cases e;rw[l]at f;cases f;refine⟨λb=>?_,λb=>?_⟩;dsimp only at b;rw[b,iq]at g;cases z<;>first|exact⟨_,rfl⟩|cases g
 dsimp only at b;rw[b,j7]at g;cases z<;>first|rfl|cases g
 cases h;cases h;cases h
end
section
def GV(P:Program)(b:TypeId->O (L Lk)):L Field->Nat->O (L Lk)
 |[],_=>Z []|f::l,off=>match b f.type,P.info? f.type with
  |some a,Z j=>bif (f.name != "_")&&(Nq f.offset off&&Nq j.size (cH a))then(GV P b l (Na off (cH a))).map λr=>a++r else Y|_,_=>Y
def DJ(P:Program):Nat->TypeId->O (L Lk)
 |0,_=>Y|d+1,t=>match P.underlying t with
  |some (.int k)=>Z [.int k]|some .bool=>Z [.bool]|some .string=>Z [.str]|some (.struct a)=>bif P.stoodInHeld t then Y else GV P (DJ P d) a.toList 0|_=>Y
def yP:∀{a b c d:L Value},a.length=b.length->nR (a++c) (b++d)=(nR a b&&nR c d)
 |[],[],c,d,_=>by rfl
 |x::a,y::b,c,d,h=>by simp[List.cons_append,nR,yP (a:=a) (b:=b) (by simpa using h),Bool.and_assoc]
 |[],_::_,_,_,h=>by simp at h
 |_::_,[],_,_,h=>by simp at h
def vu(a:L Lk)(l:L Value):Prop:=l.length=a.length/\∀(j:Nat)(k:Lk)(v:Value),a[j]?=Z k->l[j]?=Z v->By k v
theorem vu.split{a b:L Lk}{l:L Value}(h:vu (a++b) l):vu a (l.take a.length)/\vu b (l.drop a.length):=by have c:=h.1;refine⟨⟨by simp_all,λj k v h1 h2=>?_⟩,⟨by simp_all,λj k v h1 h2=>?_⟩⟩;exact h.2 j k v (by grind) (by grind);exact h.2 (a.length+j) k v (by grind) (by simp_all)
section
variable {P:Program}
def Mk(P:Program)(t:TypeId)(l:L Value)(v:Value):Prop:=∃u,P.underlying t=Z u/\((ec u=W/\v=.agg l.toArray)\/(ec u=J/\l=[v]))
theorem ado{d:Nat}{t:TypeId}{a:L Lk}(h:DJ P d t=Z a):∃u,P.underlying t=Z u/\(ec u=W\/(ec u=J/\a.length=1)):=by
 cases d with
 |zero=>cases h
 |succ d=>
  simp[DJ]at h;split at h
  grind
  grind
  grind
  rename_i b;exact⟨_,b,.inl rfl⟩;cases h
theorem adn:∀(d:Nat)(t:TypeId)(z:L Lk),DJ P d t=Z z->∀(D:Nat),d<=D->∀(w:World)(e ys:L Value)(x y:Value),vu z e->vu z ys->Mk P t e x->Mk P t ys y->
  (Op.equalIn D t x y).run P w=.ok (nR e ys) w:=by
 intro d
 induction d with
 |zero=>intro t z h;cases h
 |succ d ih=>
  intro t z h D hD w e ys x y hx hy K Q;obtain⟨D,rfl⟩:∃D',D=D'+1:=⟨D-1,by omega⟩;simp[DJ]at h
  let ⟨u,S,K⟩:=K
  let ⟨u',g,Q⟩:=Q
  rw[S]at g;cases g;rw[S]at h;have one:∀{k:Lk},z=[k]->ec u=J->e=[x]/\ys=[y]/\By k x/\By k y:=by
   rintro k rfl ha
   obtain⟨h1,_⟩|⟨_,rfl⟩:=K
   simp_all
   obtain⟨h1,_⟩|⟨_,rfl⟩:=Q
   simp_all
   exact⟨rfl,rfl,hx.2 0 _ _ rfl rfl,hy.2 0 _ _ rfl rfl⟩
  split at h;rename_i p;cases p;simp at h;obtain⟨rfl,rfl,⟨a,rfl⟩,⟨b,rfl⟩⟩:=one h.symm rfl
  grind[run_equalIn_int,nR,Hi]
  rename_i p;cases p;simp at h;obtain⟨rfl,rfl,⟨a,rfl⟩,⟨b,rfl⟩⟩:=one h.symm rfl
  grind[run_equalIn_bool',nR,Hi]
  rename_i p;cases p;simp at h;obtain⟨rfl,rfl,⟨a,rfl⟩,⟨b,rfl⟩⟩:=one h.symm rfl
  grind[run_equalIn_string,beq_toListBytes,nR,Hi]
  .rename_i fs p;cases p;obtain⟨_,h⟩|⟨hst,h⟩:=af h
   cases h;obtain⟨_,rfl⟩|⟨h1,_⟩:=K
   rotate_left;cases h1;obtain⟨_,rfl⟩|⟨h1,_⟩:=Q
   rotate_left;cases h1;have hfo:P.fieldsOf t=fs:=by simp[Program.fieldsOf,S]
   rw[run_equalIn_struct w D t _ _ (by grind) hst,hfo];have key:∀(l:L Field)(off:Nat)(i:L Lk),GV P (DJ P d) l off=Z i->vu i (e.drop off)->vu i (ys.drop off)->off<=e.length->off<=ys.length->
     (Op.eqFields D e.toArray ys.toArray l).run P w=.ok (nR (e.drop off) (ys.drop off)) w:=by
    intro l
    induction l with
    |nil=>intro off i h R ky _ _;simp only[GV,gP]at h;subst h;have e1:=Ek R.1;rw[e1];rfl
    |cons f l ihl=>
     intro off i h R ky ox oy;simp only[GV]at h;split at h
     .rename_i c j h1 h2;obtain⟨hb,h⟩|⟨_,h⟩:=af h
      rotate_left;cases h;simp only[eW]at hb
      let ⟨hnm,o,hsz⟩:=hb
      have o:=vV o;rw[bV]at hsz h;simp only[fT]at h;obtain⟨r,hr,rfl⟩:=h
      let ⟨q,B⟩:=R.split
      let ⟨s,C⟩:=ky.split
      rw[aet]at B C;have hlx:=R.1;have hly:=ky.1;rw[j9,Tq]at hlx hly;have m:∀(A:L Value),vu c ((A.drop off).take c.length)->∃v,(part f.type A.toArray f.offset).run P w=.ok v w/\Mk P f.type ((A.drop off).take c.length) v:=by
       intro A hz
       let ⟨u,g,n⟩:=ado h1
       obtain n|⟨n,h1l⟩:=n
       refine⟨.agg ((A.drop off).take c.length).toArray,?_,u,g,.inl ⟨n,rfl⟩⟩
       simp_all[part,ux,dx]
       have E:=hz.1;rw[h1l]at E
       let ⟨v,hv⟩:=XG.1 E
       refine⟨v,?_,u,g,.inr ⟨n,by grind⟩⟩;have hvv:A[off]?=Z v:=by
        have:=eu (λl=>l[0]?) hv
        grind
       simp_all[part,ux]
      let ⟨v1,e1,m1⟩:=m e q
      let ⟨v2,e2,m2⟩:=m ys s
      have F:=ih f.type c h1 D (by omega) w _ _ v1 v2 q s m1 m2;have TY:=ihl (off+c.length) r hr B C (by omega) (by omega);have I:f.name≠ "_":=by grind
      have hsx:e.drop off=(e.drop off).take c.length++e.drop (off+c.length):=by
       grind[List.drop_drop,List.take_append_drop]
      have hsy:ys.drop off=(ys.drop off).take c.length++ys.drop (off+c.length):=by
       grind[List.drop_drop,List.take_append_drop]
      rw[hsx,hsy,yP (by rw[q.1,s.1])];simp only[Op.eqFields,I,ne_eq,not_false_eq_true,ki,run_bind,e1,e2,F,andThen_ok];cases hq:nR ((e.drop off).take c.length) ((ys.drop off).take c.length)with|true=>grind|false=>simp
     cases h
   grind
  cases h
def OF(P:Program)(t:TypeId):L Lk:=bif P.eqGuardType P.depth t then[]else match DJ P 100 t with
 |some a=>match P.underlying t with
  |some u=>bif ec u then a else[]|none=>[]
 |none=>[]
def ZC(t:TypeId)(h:OF P t≠[]):ahY P t (OF P t):=by
 unfold OF at h ⊢;cases e:P.eqGuardType P.depth t with
 |true=>simp_all|false=>
  cases f:DJ P 100 t with
  |none=>simp_all|some g=>
   cases c:P.underlying t with
   |none=>simp_all|some u=>
    dsimp only at h ⊢;cases d:ec u with
    |false=>simp_all|true=>
     intro w op x y a b i l m n;refine⟨run_eqGuard_agg w op t x y a b e,?_⟩;have:=adn 100 t g f Op.maxDepth (by decide) w a.toList b.toList (.agg a) (.agg b) ⟨by simpa using i,λj k v h1 h2=>m j k v h1 (by simpa using h2)⟩ ⟨by simpa using l,λj k v h1 h2=>n j k v h1 (by simpa using h2)⟩
      ⟨u,c,.inl ⟨d,rfl⟩⟩ ⟨u,c,.inl ⟨d,rfl⟩⟩
     exact this
end
end
section
def cO{l:L Ty}(h:l.all (λt=>!(kV t))=W):∀t∈l,kV t=J:=by
 simp_all
namespace Tr
variable {α β:Type}
def mapKey(f:Nat->α->β):Tr α->Tr β
 |.nil=>.nil|.node v l r=>.node (match v with|some x=>Z (f 0 x)|none=>Y) (mapKey (λj=>f (Ns (Nat.mul 2 j))) l) (mapKey (λj=>f (Ns (Ns (Nat.mul 2 j)))) r)
theorem zE:∀(t:Tr α)(f:Nat->α->β)(k:Nat),(t.mapKey f).get k=(t.get k).map (f k)
 |.nil,f,k=>by rfl
 |.node v l r,f,0=>by simp[mapKey,Tr.je];cases v<;>rfl
 |.node v l r,f,k+1=>by
  simp only[mapKey,Tr.dG];by_cases a:k%2=0;rw[bD a,bD a,zE l];have:Ns (Nat.mul 2 (k/2))=k+1:=by grind
  rw[this];rw[bQ a,bQ a,zE r];have:Ns (Ns (Nat.mul 2 (k/2)))=k+1:=by grind
  rw[this]
theorem qo{t:Tr α}{f g:Nat->α->β}(h:t.mapKey f=t.mapKey g){k:Nat}{v:α}(a:t.get k=Z v):f k v=g k v:=by
 have:=eu (λt=>t.get k) h
 grind[zE]
end Tr
end
section
def TO:L (String×FuncId)->String->O FuncId
 |[],_=>Y|p::l,m=>bif p.1==m then Z p.2 else TO l m
def mkE(P:Program)(Qt:Tr TI)(UN:Tr Ty)(mtT:Tr MT)(wz:Tr (L (String×FuncId)))(rq:Tr Func)(a:Nat->O Nat):gi:=
 ⟨⟨P,λk=>Qt.get k,λk=>rq.get k,λ_=>Y⟩,λk=>UN.get k,λk=>mtT.get k,λt m=>match wz.get t with|some l=>TO l m|none=>Y,a⟩
section
variable (S:Sg)(P:Program)
def lY(τ:Ty):L D:=bif kV τ then(match enc S τ (S.zero τ)with|.agg l=>l|_=>[])else[enc S τ (S.zero τ)]
def FG(τ:Ty)(i:TI):Kd×Bool×Nat×Bool×L D:=match τ with
 |.int k=>(.leaf (.int k),J,1,W,lY S τ)|.bool=>(.leaf .bool,J,1,W,lY S τ)|.str=>(.leaf .str,J,1,W,lY S τ)|.sl e=>(.slice (S.width e) (kV e) (zQ S e) (lY S e),J,1,W,lY S τ)|.st n=>(i.kd,W,cH (S.fs n),W,lY S τ)|.dj _=>(.iface,J,1,W,lY S τ)|.opt _=>(.ptr,J,1,W,lY S τ)|.mp _ _=>(i.kd,J,1,W,lY S τ)
def FF(τ:Ty)(i:TI):Kd×Bool×Nat×Bool×L D:=(i.kd,i.agg,i.size,(match τ with|.sl e=>Nt 0 (S.width e)|_=>W),i.zero)
theorem Fb(τ:Ty):bif kV τ then D.agg (lY S τ)=enc S τ (S.zero τ)else lY S τ=[enc S τ (S.zero τ)]:=by cases τ<;>rfl
theorem afJ{τ:Ty}{i:TI}(h:FG S τ i=FF S τ i):yY S i τ/\Sk S i τ:=by
 have a:i.zero=lY S τ->Sk S i τ:=by
  grind[Sk,Fb]
 cases τ with
 |int k=>
  simp only[FG,FF,fC]at h
  let ⟨h1,h2,h3,_,h5⟩:=h
  exact⟨⟨h1.symm,h2.symm,h3.symm⟩,a h5.symm⟩
 |bool=>
  simp only[FG,FF,fC]at h
  let ⟨h1,h2,h3,_,h5⟩:=h
  exact⟨⟨h1.symm,h2.symm,h3.symm⟩,a h5.symm⟩
 |str=>
  simp only[FG,FF,fC]at h
  let ⟨h1,h2,h3,_,h5⟩:=h
  exact⟨⟨h1.symm,h2.symm,h3.symm⟩,a h5.symm⟩
 |sl e=>
  simp only[FG,FF,fC]at h
  let ⟨h1,h2,h3,h4,h5⟩:=h
  exact⟨⟨⟨_,h1.symm,Fb S e⟩,h2.symm,h3.symm,gS h4.symm⟩,a h5.symm⟩
 |st n=>
  simp only[FG,FF,fC]at h
  let ⟨_,h2,h3,_,h5⟩:=h
  exact⟨⟨h2.symm,by rw[<-h3,bV]⟩,a h5.symm⟩
 |dj n=>
  simp only[FG,FF,fC]at h
  let ⟨h1,h2,h3,_,h5⟩:=h
  exact⟨⟨h1.symm,h2.symm,h3.symm⟩,a h5.symm⟩
 |opt n=>
  simp only[FG,FF,fC]at h
  let ⟨h1,h2,h3,_,h5⟩:=h
  exact⟨⟨h1.symm,h2.symm,h3.symm⟩,a h5.symm⟩
 |mp k v=>
  simp only[FG,FF,fC]at h
  let ⟨_,h2,h3,_,h5⟩:=h
  exact⟨⟨trivial,h2.symm,h3.symm⟩,a h5.symm⟩
def aju:Ty->TypeDesc->Bool
 |.int k,.int j=>oU j k|.bool,.bool=>W|.str,.string=>W|_,_=>J
def acz{t:Ty}{d:TypeDesc}(h:aju t d=W):iB t d:=by
 cases t<;>cases d<;>first|exact rfl|(cases h;done)|skip
 rename_i k j;have:j=k:=by cases j<;>cases k<;>first|rfl|cases h
 rw[this];exact rfl
def mtB(E:gi)(t:Nat)(m:MT):Bool:=match E.E.P.underlying t with
 |some (.map a el)=>Nq el m.el&&((match E.E.P.underlying a with|some d=>aju m.kt d|none=>J)&&((match E.E.P.info? m.el with|some x=>x.zero.isSome|none=>J)&&
   (match m.vt with|some b=>(match E.ty m.el with|some c=>sr c b|none=>J)&&(E.E.ti m.el).isSome|none=>W)))
 |_=>J
theorem af3{E:gi}{t:Nat}{m:MT}(h:mtB E t m=W):∃a d,E.E.P.underlying t=Z (.map a m.el)/\E.E.P.underlying a=Z d/\iB m.kt d/\(∃x z,E.E.P.info? m.el=Z x/\x.zero=Z z)/\
  ∀b,m.vt=Z b->E.ty m.el=Z b/\∃i,E.E.ti m.el=Z i:=by
 unfold mtB at h;split at h
 .rename_i a el f;simp only[eW]at h
  let ⟨h1,h2,h3,h4⟩:=h
  have:=vV h1;subst this;cases e:E.E.P.underlying a with
  |none=>simp_all|some d=>
   rw[e]at h2;cases g:E.E.P.info? m.el with
   |none=>simp_all|some x=>
    rw[g]at h3
    let ⟨z,j⟩:=Option.isSome_iff_exists.1 h3
    refine⟨a,d,f,e,acz h2,⟨x,z,rfl,j⟩,λb c=>?_⟩;rw[c]at h4
    grind[jU,Option.isSome_iff_exists]
 cases h
def YQ:TypeDesc->Bool
 |.pointer _=>W|_=>J
def TM(P:Program)(t:Nat)(p:String×FuncId):Bool:=match P.info? t,P.underlying t with
 |some x,Z d=>match x.methods.find? (·.name==p.1)with
  |some a=>match a.path.toList,a.func with
   |[],Z (f,b)=>Nq f p.2&&(bif b then YQ d else !(YQ d))|_,_=>J
  |none=>J
 |_,_=>J
def Yu{P:Program}{t:Nat}{p:String×FuncId}(h:TM P t p=W):∃x a d,P.info? t=Z x/\x.methods.find? (·.name==p.1)=Z a/\a.path=#[]/\P.underlying t=Z d/\
  ((a.func=Z (p.2,J)/\∀e,d≠.pointer e)\/(a.func=Z (p.2,W)/\∃e,d=.pointer e)):=by
 unfold TM at h;split at h;rename_i x d c f;split at h;rename_i a g;split at h
 .rename_i b h1 h2;rw[eW]at h;have:=vV h.1;subst this;refine⟨x,a,d,c,g,by simpa using h1,f,?_⟩;cases b with
  |false=>refine .inl ⟨h2,λe i=>?_⟩;subst i;exact Bool.noConfusion h.2|true=>
   refine .inr ⟨h2,?_⟩;cases d<;>first|exact⟨_,rfl⟩|exact Bool.noConfusion h.2
 cases h;cases h;cases h
theorem JL:∀{l:L (String×FuncId)}{m:String}{f:FuncId},TO l m=Z f->(m,f)∈l
 |[],_,_,h=>by cases h
 |p::l,m,f,h=>by
  obtain⟨a,h⟩|⟨_,h⟩:=af h
  grind
  exact hJ _ (JL h)
end
theorem ZN{S:Sg}(o:fq S){P:Program}{Qt:Tr TI}{UN:Tr Ty}{mtT:Tr MT}{wz:Tr (L (String×FuncId))}{rq:Tr Func}{d:Nat->O Nat}
  (h1:Qt.mapKey (λk _=>abL P (OF P) k)=Qt.mapKey λ_ i=>Z i)
  (h2:rq.mapKey (λk _=>P.funcs[k]?)=rq.mapKey λ_ f=>Z f)
  (h3:UN.mapKey (λk τ=>(Qt.get k).map (FG S τ))=UN.mapKey λk τ=>(Qt.get k).map (FF S τ))
  (h4:rq.mapKey (λ_ f=>f.name== "runtime.NumGoroutine")=rq.mapKey λ_ _=>J)
  (h5:mtT.mapKey (λk m=>mtB (mkE P Qt UN mtT wz rq d) k m)=mtT.mapKey λ_ _=>W)
  (h6:wz.mapKey (λk l=>l.all (TM P k))=wz.mapKey λ_ _=>W) (IU:FuncId->O (lJ S)) (sh:FuncId->Nat->O LSh) (p:∀f c,IU f=Z c->bG P f c) (q:Bool) (r:FuncId->L (V S)->O JSh) :
  fu (⟨mkE P Qt UN mtT wz rq d,IU,sh,q,r⟩:eM S):=by
 have a:∀k i τ,Qt.get k=Z i->UN.get k=Z τ->yY S i τ/\Sk S i τ:=by
  grind[Tr.qo,afJ]
 refine⟨o,⟨λk i e=>?_,λf fn g=>?_⟩,⟨λk i τ e j=>(a k i τ e j).1⟩,λf fn g=>Tr.qo h4 g,λ_=>rfl,⟨λk i τ e j=>(a k i τ e j).2,λt m s=>?_,λt u f g=>?_⟩,p⟩;exact abK (λt h=>ZC t h) (Tr.qo h1 e);exact Tr.qo h2 g;exact af3 (Tr.qo h5 s);have b:(match wz.get t with|some l=>TO l u|none=>Y)=Z f:=g;split at b;rename_i v;have n:=Tr.qo h6 v;rw[kP]at n;exact Yu (n _ (JL b));cases b
end
section
def cB{R P α:Type}(x:Rx R P)(f:R->O α)(g:P->O α):O α:=match x with
 |.ok r=>f r|.iJ p=>g p
def bK{X R B P α:Type}(o:LO X R B P)(f:Nat->X->O α)(g:B->R->O α)(h:B->P->O α):O α:=match o with
 |.next _=>Y|.out j x=>f j x|.ret b r=>g b r|.iJ b p=>h b p
def cr{X R B P α:Type}(o:LO X R B P)(e:X->O α)(f:Nat->X->O α)(g:B->R->O α)(h:B->P->O α):O α:=match o with
 |.next x=>e x|.out j x=>f j x|.ret b r=>g b r|.iJ b p=>h b p
def afN{α:Type}(n:Nat)(a:α):L α:=List.replicate n a
def nW(a b:Bool):Bool:=a&&b
def adS(a b:Nat):Nat:=Na a b
def trL{α:Type}:L (Nat×α)->Tr α
 |[]=>.nil|p::l=>(trL l).set aM p.1 p.2
def U8:Code->L (Code×Code)
 |.seq a b=>U8 a++U8 b|.cond _ a b=>U8 a++U8 b|.block _ b=>U8 b|.loop b=>U8 b|.rangeFunc _ _ a b=>(a,b)::(U8 a++U8 b)|.scope b=>U8 b|_=>[]
def rgN(l:L (Code×Code))(i:Nat):Code×Code:=match l with
 |[]=>(.skip,.skip)|a::l=>match i with
  |0=>a|i+1=>rgN l i
def lpR(a n:Nat)(ps:L Nat)(c:Code×Code)(l:L (Nat×V S)):vo S:=.lp ⟨.ready,Y,a,OB (vD c.1++vD c.2) {n:=n,tm:=trL l},ps,c.1,c.2⟩
def Qu(l:L (FuncId×lJ S))(f:FuncId):O (lJ S):=match l with
 |[]=>Y|p::l=>bif Nq p.1 f then Z p.2 else Qu l f
def OkL(P:Program):L (FuncId×lJ S)->Prop
 |[]=>True|p::l=>bG P p.1 p.2/\OkL P l
def Tc{P:Program}:∀{l:L (FuncId×lJ S)},OkL P l->∀f c,Qu l f=Z c->bG P f c
 |[],_,_,_,h=>by cases h
 |p::l,⟨d,a⟩,f,c,h=>by
  unfold Qu at h;cases b:Nq p.1 f with
  |true=>
   simp_all
  |false=>rw[b]at h;exact Tc a f c h
variable {P:Program}
def cw{f:FuncId}{ps:L Pk}{a:L Ck}{b:Bool}(h:mu P f):bG P f (⟨ps,a,b,λ_=>Y⟩:lJ S):=
 ⟨h,λ_ _ h=>by cases h⟩
def uf{α:Type}(b:L α×U):I6 (isE b.1) (Z (([],()),())) (Z (b,()))=Z (b,()):=by
 let ⟨l,u⟩:=b
 cases l with|nil=>simp[I6]|cons a l=>rfl
end
end TL
end
end
