import Derived.Scope
import Derived.Recover
import Derived.Laws.StructEq
import Derived.Test.YthlenkomcaiomaaGreatE2
set_option linter.all false
set_option maxRecDepth 100000
set_option maxHeartbeats 0
noncomputable section
open Option renaming some->Z,none->Y
open Bool renaming true->W,false->J
open Nat renaming beq->Nq,ble->Nl,blt->Nt,succ->Ns,add->Na
open Go.Result(andThen_ok)
open Go.Sem(run_bind run_pure)
open TL.LO renaming next->N,ret->X,out->H
open TL.Rx renaming ok->G,iN->M
namespace TL
open Go
variable {S:Sg}
section
def yO(s:bx S)(g:Gh)(w:az){ω:Type}(k kp:V S->bx S->O ω)(r:ω):Ending->az->Prop
 |.returned v,b=>∃t c d,k t c=Z r/\aL d b (low t) v/\eO s g w c d b|.panicked chain,b=>∃v t c d,chain=[{v,recovered:=J}]/\kp t c=Z r/\aL d b (low t) v/\eO s g w c d b|.outgrown,_=>False
def aoi(P:cV)(call:gD S):Prop:=∀(f:FuncId)(args:L (V S))(s:bx S){ω:Type}(k kp:V S->bx S->O ω)(r:ω),call (.jn f) args s k kp=Z r->∀(g:Gh)(w:az)(vs:Array aD),bg g (aF s) w->PW (aL g w) (bI args) vs.toList->
  mF P f/\Calls P f vs w (yO s g w k kp r)
theorem yA:∀{l:L Nat}{o:Nat},o∈l->o<=Jv l
 |[],_,h=>by cases h
 |a::l,o,h=>by
  simp[Jv];obtain rfl|h:=gn.1 h
  .cases b:Nl (Jv l) o with
   |true=>grind|false=>
    grind[Nat.ble_eq_true_of_le]
  have:=yA h;cases b:Nl (Jv l) a with|true=>exact gE this (gY b)|false=>exact this
theorem jE{l:L Nat}{o:Nat}:CM l o=J↔o∈l:=by simp[CM]
def u7{t:Tr (vO S)}:∀{l:L Nat},(∀o∈l,o<bO)->∀{o:Nat},(Er t l).get o=if o∈l then t.get o else Y
 |[],_,o=>by rfl
 |a::l,h,o=>by
  have f:=u7 (t:=t) (l:=l) (λo b=>h o (ie _ b)) (o:=o);have c:=h a eN;simp only[Er];by_cases e:o=a
  .subst e;rw[bH eN];cases d:t.get o with
   |none=>
    simp_all
   |some x=>simp only;rw[Tr.aX _ _ _ _ c,bH rfl]
  cases d:t.get a with
  |none=>simp_all|some x=>
   simp_all[Tr.aX]
def UT(os:L Nat)(t:T):dQ os.contains t=dF os t:=by
 induction t using T.rec (motive_2:=λl=>jG os.contains l=iR os l)with|fn f a b d g=>simp[dF,dQ,d,g]|dn t v e=>simpa only[dF,dQ]using e|agg i e=>simpa only[dF,dQ]using e|gX i e=>simpa only[dF,dQ]using e|gd c t e=>simpa only[dF,dQ]using e|nil=>rfl|cons a l d h=>simp[iR,jG,d,h]|_=>rfl
def Em{p q:Nat->aa}(h:∀o,p o=W->q o=W){α:Type}:∀l:L (α×V S),zY p l=W->zY q l=W
 |[],a=>by cases a
 |v::l,a=>by simp[zY,o8]at a ⊢;exact a.imp (eD h v.2) (Em h l)
theorem uX{p q:V S->aa}(h:∀v,p v=W->q v=W):∀t:Tr (V S),nc p t=W->nc q t=W
 |.nil,a=>by cases a
 |.node v l r,a=>by
  simp[nc,o8]at a ⊢;refine a.imp (λa=>?_) (Or.imp (uX h l) (uX h r))
  grind
variable {p q:Nat->aa}
def Mp(h:∀o,p o=W->q o=W){ob:vO S}(d:gQ q ob=J):gQ p ob=J:=by
 cases a:gQ p ob with
 |false=>rfl|true=>
  have:gQ q ob=W:=by cases ob with|box c=>exact mM h c a|Jh kt l=>exact Em h l a|lp l=>exact uX (eD h) _ a|l8 n j l era m b hole=>exact h m a|_=>cases a
  simp_all
theorem GB{g:Gh}{w:az}{s:bx S}{b:L Ck}{v:V S}{val:aD}(i:aL g w (low v) val){x:gJ S.A b}{fz ow:L Nat}(h:gG s b (YC b v)=Z (x,fz,ow)):∃vals,val=valOf vals/\PW (aL g w) (bI (YC b v)) vals:=by
 have one:∀{l:L (V S)},l=[v]->b.length=1->∃vals,val=valOf vals/\PW (aL g w) (bI l) vals:=by
  rintro l rfl _
  refine⟨[val],rfl,rfl,λj t u h1 h2=>?_⟩
  grind[bI]
 have d:∀{a:L Ck}{l:L (V S)}{x:gJ S.A a}{fz ow:L Nat},gG s a l=Z (x,fz,ow)->a.length=l.length:=by
  intro a
  induction a with
  |nil=>grind[gG]|cons c a o=>intro l x fz ow h;cases l with
   |nil=>simp[gG]at h|cons v l=>
    grind[gG]
 have e:=d h;unfold YC at e h ⊢;split at h
 grind
 .cases i with
  |gX _ f k m=>
   refine⟨f.toList,?_,by simpa using k,λj t v h1 h2=>m j t v h1 (by simpa using h2)⟩;have n:f.toList.length≠1:=by
    grind[eU,List.length_eq_one_iff]
   unfold valOf;split
   simp_all
   rfl
 simp_all
def HS{fr:cr S}:∀{n j:Nat}{l:L (V S)},getAll fr j n=Z l->l.length=n/\∀(i:Nat)(v:V S),l[i]?=Z v->fr.get (j+i)=Z v
 |0,j,l,h=>by simp only[getAll,gV]at h;subst h;exact⟨rfl,λi v h=>by simp at h⟩
 |n+1,j,l,h=>by
  simp only[getAll]at h;split at h
  .rename_i h1 h2;simp at h;subst h
   let ⟨b,c⟩:=HS h2
   refine⟨by simp[b],λi u a=>?_⟩;cases i with|zero=>simp at a;subst a;exact h1|succ i=>have:=c i u (by simpa using a);rw[show j+(i+1)=Ns j+i by omega];exact this
  cases h
theorem UH{g:Gh}{w:az}{fr:cr S}{s:bx S}{a:Act}(hf:cZ g (bM fr) a w)(hs:bg g (aF s) w):∀{ps:L Pt}{f:L Nat},Zf fr s ps=Z f->∀o∈f,∃b,g.bX o=Z b
 |[],f,h=>by
  grind[Zf]
 |p::l,f,h=>by
  simp[Zf]at h;split at h;rename_i h1 h2;simp at h;subst h;intro j c;obtain rfl|c:=gn.1 c
  unfold ptO at h1;split at h1
  .rename_i k d;cases h1
   let ⟨u,e⟩:=kq hf hs d
   cases e with|ptr _ _ b i=>grind
  .rename_i k d;cases h1
   let ⟨u,e⟩:=kq hf hs d
   cases e with|mp _ b i=>grind
  .rename_i d;cases h1
   let ⟨u,e⟩:=kq hf hs d
   cases e with|r9 _ b i=>grind
  cases h1;exact UH hf hs h2 j c;cases h
theorem Uq{s:bx S}:∀{cs:L Ck}{l:L (V S)}{x:gJ S.A cs}{fz ow:L Nat},lJ cs=W->gG s cs l=Z (x,fz,ow)->fz=[]/\ow=[]
 |[],[],_,fz,ow,_,h=>by
  grind[gG]
 |.dat t::cs,v::l,x,fz,ow,a,h=>by
  simp[lJ,eX]at a;simp[gG]at h;split at h
  .rename_i c d;obtain⟨_,rfl,rfl⟩:=h;obtain⟨rfl,rfl⟩:=Uq a.2 d;simp[pU]at c;split at c
   .rename_i b;obtain⟨_,rfl,rfl⟩:=c;refine⟨?_,rfl⟩;cases t with
    |int k=>
     cases v<;>simp only[ck]at b<;>try(cases b;done)
     grind
     grind
    |bool=>
     cases v<;>simp only[ck]at b<;>try(cases b;done)
     grind
     simp_all
    |str=>
     cases v<;>simp only[ck]at b<;>try(cases b;done)
     grind
    |_=>simp[Yy]at a
   cases c
  cases h
 |.own _::_,_,_,_,_,a,_=>by simp[lJ]at a
 |.kE ..::_,_,_,_,_,a,_=>by simp[lJ]at a
 |.nil _::_,_,_,_,_,a,_=>by simp[lJ]at a
 |.ptr _::_,_,_,_,_,a,_=>by simp[lJ]at a
 |[],_::_,_,_,_,_,h=>by simp[gG]at h
 |.dat _::_,[],_,_,_,_,h=>by simp[gG]at h
section
variable {g:Gh}{w:az}
theorem Xt{P:cV}(hS:fE S){call:gD S}(xe:aoi P call){s:bx S}(hs:bg g (aF s) w){c:JSh}{f:FuncId}{args:L (V S)}{ω:Type}{k:V S->bx S->L Nat->O ω}{r:ω}
  (h:evJ call c s f args k=Z r) {vs:Array aD} (hall:PW (aL g w) (bI args) vs.toList):mF P f/\Calls P f vs w λ
   |.returned v,w'=>∃t s' g' ow,k t s' ow=Z r/\aL g' w' (low t) v/\cU ow s g w s' g' w'|.panicked _,_=>False|.outgrown,_=>False:=by
 unfold evJ at h;split at h;rotate_left;cases h;rename_i C z hbs hks;split at h;cases h;rename_i F ow hpk;obtain⟨m,h1⟩|⟨_,h1⟩:=ah h
 rotate_left;cases h1;clear h;simp only[eX]at m
 let ⟨⟨hlen,aag⟩,afU,ah6,hmax⟩:=m
 have hlen:cM args<bO:=gY hlen;have aag:∀k∈zL c.sh,k<bO:=λk hk=>by
  simp_all
 have hmax:Jv (C++z)+1<=F.aH:=gY hmax
 let ⟨y,hrun,h2⟩:=jq h1
 clear h1;split at h2;cases h2;rename_i s3 hout;have hvl:args.length=vs.size:=by have:=hall.1;rw[eU]at this;omega
 have Px:cZ g (bM (Vd args)) {tmps:=vs++Array.replicate (cM args-vs.size) undef,defers:=[]} w:=uf hlen (by rw[bZ];omega) hall;have ahM:vs++Array.replicate (cM args-vs.size) undef=vs:=by
  simp_all[bZ]
 rw[ahM]at Px;generalize ha0:({tmps:=vs,defers:=[]}:Act)=a0 at Px;have ha0t:a0.tmps=vs:=by rw[<-ha0]
 let ⟨bl0,SS⟩:=tY Px hs hbs
 let ⟨A,vals,al,bl,d⟩:=kX hS Px hs SS hpk
 have hkb:=UH Px hs hks;have Xg:∀o∈C,∃b,A.bX o=Z b:=λo ho=>by
  obtain⟨j,hj,rfl⟩:=sd ho;have hj':j<bl.length:=by have:=d.Ji.1;omega
  exact⟨bl[j],d.Ji.2 j _ _ (iZ hj) (iZ hj')⟩
 have hKb:∀o∈C++z,∃b,A.bX o=Z b:=λo ho=>by
  obtain ho|ho:=fc.1 ho
  exact Xg o ho
  let ⟨b,m⟩:=hkb o ho
  exact⟨b,d.ext.bX _ _ m⟩
 have aik:∀o∈C++z,o<F.aH:=λo ho=>by
  let ⟨b,m⟩:=hKb o ho
  exact d.rel.lt m
 have hn1:F.aH<=bO:=d.rel.aH;have ata:∀o∈C++z,o∉ow:=λo ho hm=>by
  obtain ho|ho:=fc.1 ho
  exact(d.Vv o ho).2.2.1 hm
  let ⟨b,m⟩:=hkb o ho
  rw[d.owb o hm]at m;cases m
 have hkp:∀o∈z,∃ob,F.ob.get o=Z ob/\j5 ob=W/\gQ (CM (C++z)) ob=J:=λo ho=>by
  unfold Vs at ah6;rw[kU]at ah6;have:=ah6 o ho;split at this
  simp_all
  cases this
 have hKarr:∀o∈C++z,∀e,A.arr o e=Y:=λo ho e=>by
  obtain ho|ho:=fc.1 ho
  exact(d.Vv o ho).2.2.2 e
  let ⟨ob,i,Po,_⟩:=hkp o ho
  cases hx:A.arr o e with
  |none=>rfl|some x=>
   exfalso
   let ⟨_,h2⟩:=d.rel.arr o e x hx
   exact A8 Po (h2 _ (by rw[aN,i];rfl))
 have aei:∀o∈z,o<bO:=λo ho=>iW (aik o (e9 _ ho)) hn1;have E3:=d.alr.owned d.pr.iQ;have arZ:bg (A.base (CM (C++z))) (aF (stJ C z F)) w:=by
  refine d.rel.base (aH:=Jv (C++z)+1) (λo ho=>?_) rfl hmax (λo ob R i=>?_)
  .cases hn:CM (C++z) o with|true=>rfl|false=>have:=yA (jE.1 hn);omega
  rw[aN,show(stJ C z F).ob.get o=(Er F.ob z).get o from rfl,u7 aei]at i;split at i;rename_i hok
  let ⟨X7,CY,_,hm⟩:=hkp o hok
  rw[CY]at i;simp at i;subst i;refine⟨dj X7,by rw[aN,CY];rfl,?_⟩;have:=mc (CM (C++z)) X7;rwa [oV hm]at this;cases i
 have hf1:cZ (A.base (CM (C++z))) (bM (S1 (C++z) c.sh (Vd args))) a0 w:=by
  refine⟨Px.size,by rw[<-ha0];exact .nil,λk t hk=>?_⟩;rw[cq,gi]at hk;obtain⟨v,hv,rfl⟩:=hk;have hv:(((zL c.sh).foldl (λt k=>t.del aP k) (Vd args).tm).keep λv=>!(cQ (CM (C++z)) v)).get k=Z v:=hv;rw[Tr.oP,akl]at hv
  let ⟨h3,h4⟩:=hv
  have h5:(Vd args).get k=Z v:=by rw[Tr.oQ _ _ _ aag]at h3;split at h3;cases h3;exact h3
  let ⟨u,hu,hr⟩:=Px.tm k (low v) (by rw[cq,h5];rfl)
  exact⟨u,hu,(hr.ext d.ext hs.bF).on (A.gR _) (λ_ _=>rfl) (by rw[iC];simpa using h4)⟩
 unfold RO at hrun;split at hrun;cases hrun;rename_i CZ zJ Pw;split at hrun;cases hrun;rename_i args' eu
 let ⟨gh,hh⟩:=xd (gb:=A.base (CM (C++z))) Pw (Ka hlen) d.pr d.at_ ⟨d.Ji.1,λj o b h1 h2=>(A.gR _).bX o b (jE.2 (gf _ (iG h1))) (d.Ji.2 j o b h1 h2)⟩
  (λo ho e=>by
   simp_all[Gh.base])
  (λa ha b m o E=>by
   let ⟨h3,h4⟩:=Gh.fW E
   let ⟨o',ho',K⟩:=E3 a ha b m
   have:=d.rel.kj o o' b h4 K
   grind[jE]) d.ap hf1 arZ
 have hfn:CZ.n=vs.size:=by have h3:CZ.n=(Vd args).n:=hh.n;rw[h3];show cM args=_;rw[bZ,hvl]
 have pE:PW (aL gh w) (bI args') vs.toList:=by
  let ⟨k1,k2⟩:=HS eu
  refine⟨by rw[eU,k1,hfn];simp,λj t v h3 h4=>?_⟩;rw[ff,lK,gi]at h3;obtain⟨u,hu,rfl⟩:=h3;have h5:=k2 j u hu;rw[yS]at h5
  let ⟨v',h6,h7⟩:=hh.fr.tm j (low u) (by rw[cq,h5];rfl)
  simp_all
 let ⟨Py,hc⟩:=xe f args' zJ _ _ y hrun gh w vs hh.rel pE
 refine⟨Py,hc.mono λe w' he=>?_⟩;cases e with
 |outgrown=>exact he.elim|panicked ch=>
  let ⟨_,_,_,_,_,h3,_⟩:=he
  cases h3
 |returned v=>
 let ⟨t,s',g',h3,ht,n⟩:=he
 unfold afH at h3;split at h3;rotate_left;cases h3;rename_i yr fz ow' y2 s2 NQ hr hy;obtain⟨hkw,h4⟩|⟨_,h4⟩:=ah h3
 rotate_left;cases h4;simp at h4;subst h4;clear h3;have hkw:∀o∈z,o∉s2.wr:=λo ho=>by
  simp_all
 have hfE:∀(g:Gh)(w:az),cZ g (bM (frE:cr S)) {tmps:=#[],defers:=[]} w:=λg w=>⟨rfl,.nil,λk t hk=>by simp_all[cq,frE,cr.get,Tr.get_nil]⟩;have aia:∀o∈C++z,∀b,A.bX o=Z b->gh.bX o=Z b:=λo ho b m=>by rw[hh.bX];exact(A.gR _).bX o b (jE.2 ho) m
 have as6:PW (λo b=>g'.bX o=Z b) C bl:=⟨d.Ji.1,λj o b h1 h2=>n.ext.bX o b (aia o (gf _ (iG h1)) b (d.Ji.2 j o b h1 h2))⟩
 let ⟨g3,vals2,Cb,bl2,l⟩:=kX hS (hfE g' w') n.rel as6 hy
 have hfl:zJ.fl=s.fl:=hh.fl.trans (show(stJ C z F).fl=s.fl from d.fl);have p:o4 zJ.lo zJ.fl gh w g3 w':=n.ext.trans (n.fl▸l.ext.Jn zJ.lo);have hgi:gh.bF=A.bF:=hh.bF;have ahZ:∀{o b:Nat},bL gh o b->(o∈C++z/\A.bX o=Z b/\bL A o b)\/∃a∈al,a.at b:=λ{o b}E=>by
  obtain E|⟨_,hx⟩:=hh.own o b E
  let ⟨h3,h4⟩:=Gh.fW E
  have h3:=jE.1 h3;refine .inl ⟨h3,?_,h4⟩;obtain h5|⟨e,x,_,h5,_⟩:=h4.2
  exact h5
  simp_all
  exact .inr hx
 let X:Nat->Prop:=λb=>(∃o∈C++z,A.bX o=Z b)\/∃a∈al,a.at b
 have aem:∀{o b:Nat},bL gh o b->X b:=λ{o b}E=>(ahZ E).imp (λ⟨h1,h2,_⟩=>⟨o,h1,h2⟩) id;have hK3:∀o∈C++z,∀b,A.bX o=Z b->g3.bX o=Z b:=λo ho b m=>p.bX o b (aia o ho b m);have aaD:∀b,A.bF b->g3.bF b:=λb m=>p.bF b (by grind);have hXi:∀b,X b->¬A.bF b:=λb hX=>by
  obtain⟨o,_,ho⟩|⟨a,ha,I⟩:=hX
  exact(d.rel.box o b ho).1;exact d.pr.iQ a ha b I
 have hXO:∀b,X b->∃o,(o∈C++z\/o∈ow)/\bL A o b:=λb hX=>by
  obtain⟨o,h1,ho⟩|⟨a,ha,I⟩:=hX
  exact⟨o,.inl h1,(d.rel.box o b ho).1,.inl ho⟩
  let ⟨o,ho,E⟩:=E3 a ha b I
  grind
 generalize hB:(cR [] ow C (frE:cr S) F).2=B at hout;have hBg:∀o,B.ob.get o=if o∈C then Y else(F.ob.get o).map (fq (dU ow F.aH)):=λo=>by rw[<-hB];exact uz (ds:=[]) (fr:=frE) (λb m=>iW (aik b (gf _ m)) hn1) o
 have hBn:B.aH=F.aH:=by rw[<-hB];rfl
 have atf:B.fl=F.fl:=by rw[<-hB];rfl
 have atd:B.lo=F.lo:=by rw[<-hB];rfl
 have hA:bg (A.base (dU ow F.aH)) (aF B) w:=by
  refine d.rel.base (aH:=F.aH) (λo ho=>?_) hBn (eP _) (λo ob R i=>?_)
  simp_all[dU]
  rw[aN,hBg]at i;split at i;cases i;rw[GM,gi]at i;obtain⟨vob,hv,rfl⟩:=i;exact⟨dj vob,by rw[aN,hv];rfl,mc _ vob⟩
 have atg:∀o,(zl z B).ob.get o=if o∈z then Y else B.ob.get o:=λo=>Tr.oQ z _ o aei
 have hA':bg (A.base (dU ow F.aH)) (aF (zl z B)) w:=by
  have hsub:∀o ob,(aF (zl z B)).ob.get o=Z ob->(aF B).ob.get o=Z ob:=by
   simp_all[aN]
  refine⟨hA.aH,hA.aj,λo b h=>?_,λo e x h=>?_,hA.bF,hA.kj⟩
  let ⟨k1,k2,k3⟩:=hA.box o b h
  exact⟨k1,k2,λob i=>k3 ob (hsub o ob i)⟩
  let ⟨k1,k2⟩:=hA.arr o e x h
  exact⟨k1,λob i=>k2 ob (hsub o ob i)⟩
 have hC:bg {A.base (dU ow F.aH)with bF:=g3.bF} (aF (zl z B)) w':=by
  refine hA'.step (X:=X) aaD (λb m=>?_) l.rel.bF p.size (λb m hX=>n.ext.heap b m λo _ E=>hX (aem E)) (λo b hX E=>?_) hXi;obtain h|h|⟨o,_,E⟩:=p.oN b m
  rw[hgi]at h;exact .inl h;omega;exact .inr (.inr (aem E))
  let ⟨R,E⟩:=Gh.fW E
  let ⟨o',ho',K⟩:=hXO b hX
  have:=d.rel.kj o o' b E K;subst this;obtain hK|hw:=ho'
  refine⟨?_,?_⟩;rw[aN,atg];obtain h|h:=fc.1 hK
  simp_all
  simp_all
  let ⟨b',hb'⟩:=hKb o hK
  obtain h5|⟨e,x,_,h5,_⟩:=E.2
  exact(l.rel.box o b (hK3 o hK b h5)).1
  simp_all
  exact absurd hw (mw R).1
 have amI:∀o∈C++z,dU ow F.aH o=J:=λo ho=>qh (ata o ho) (aik o ho);have hgB:afm (CM (C++z)) g3 {A.base (dU ow F.aH)with bF:=g3.bF}:=by
  refine⟨λo b R m=>?_,λo e x R hx=>?_,λ_ h=>h⟩;have hK:=jE.1 R
  let ⟨b',hb'⟩:=hKb o hK
  rw[hK3 o hK b' hb']at m;have hbb:b'=b:=ko m;rw[<-hbb];exact(A.gR _).bX o b' (amI o hK) hb';exfalso;have hK:=jE.1 R;obtain h|h:=fc.1 hK
  rw[(l.Vv o h).2.2.2 e]at hx;cases hx
  let ⟨X7,CY,Po,_⟩:=hkp o h
  let ⟨b',hb'⟩:=hKb o hK
  let ⟨_,k2⟩:=l.rel.arr o e x hx
  cases hoc:(aF s2).ob.get o with
  |none=>
   exfalso;have:s2.ob.get o=Z X7\/o∈C:=by
    by_cases i:o∈C;exact .inr i
    left
    rw[l.same o (hkw o h),n.same o (iW (Uz (yA hK)) hh.aH) (λhm=>hkw o h (l.uF o hm)),hh.ob o (Uz (yA hK)) i];show(Er F.ob z).get o=_;rw[u7 aei,bH h,CY]
   obtain h6|h6:=this
   grind[aN]
   rw[(l.Vv o h6).2.2.2 e]at hx;cases hx
  |some obx=>
   have h7:=(k2 obx hoc).oM;have h8:=(l.rel.box o b' (hK3 o hK b' hb')).2.2 obx hoc
   let ⟨_,_,h9⟩:=h8
   rw[h9.CN]at h7;cases h7
 have hD:bg {A.base (dU ow F.aH)with bF:=g3.bF} (aF B) w':=by
  refine⟨hC.aH,hC.aj,λo b h=>?_,λo e x h=>?_,hC.bF,hC.kj⟩
  let ⟨k1,k2,k3⟩:=hC.box o b h
  refine⟨k1,k2,λob i=>?_⟩;by_cases hok:o∈z;have hK:o∈C++z:=e9 _ hok
  let ⟨X7,CY,Po,hm⟩:=hkp o hok
  have SL:=i;rw[aN,hBg]at SL;split at SL;cases SL;rename_i hnb;rw[CY]at SL;simp at SL;have hm2:gQ (dU ow F.aH) X7=J:=Mp (λo ho=>by
   grind[jE]) hm
  rw[oV hm2]at SL;subst SL;have h6:s2.ob.get o=Z X7:=by rw[l.same o (hkw o hok),n.same o (iW (Uz (yA hK)) hh.aH) (λhm=>hkw o hok (l.uF o hm)),hh.ob o (Uz (yA hK)) hnb];show(Er F.ob z).get o=_;rw[u7 aei,bH hok,CY]
  let ⟨R,qq⟩:=Gh.BV (show(A.base (dU ow F.aH)).bX o=Z b from h)
  let ⟨x,h7,h8⟩:=(l.rel.box o b (hK3 o hK b qq)).2.2 (dj X7) (by rw[aN,h6];rfl)
  have hl:=mc (CM (C++z)) X7;rw[oV hm]at hl;exact⟨x,h7,h8.left (λt v ht hmt=>ht.on hgB (λ_ _=>rfl) hmt) hl⟩;exact k3 ob (by simp_all[aN])
  let ⟨k1,k2⟩:=hC.arr o e x h
  refine⟨k1,λob i=>?_⟩;by_cases hok:o∈z;have h3:=(Gh.BW (show(A.base (dU ow F.aH)).arr o e=Z x from h)).2
  simp_all
  exact k2 ob (by simp_all[aN])
 have aaA:=l.alr.owned l.pr.iQ;have aaB:∀a∈Cb,∀b,a.at b->X b\/w.heap.size<=b:=λa ha b I=>by
  let ⟨o2,ho2,Xj⟩:=aaA a ha b I
  obtain⟨o',_,K⟩|h:=p.own o2 b (n.fl▸(l.Zr o2 ho2).1) Xj
  exact .inl (aem K);omega
 obtain⟨gF,hhF⟩:=xd (a:={tmps:=#[],defers:=[]}) (gb:={A.base (dU ow F.aH)with bF:=g3.bF}) (w:=w') hout (GH _) l.pr l.at_
  ⟨l.Ji.1,λj o b h1 h2=>hgB.bX o b (jE.2 (gf _ (iG h1))) (l.Ji.2 j o b h1 h2)⟩
  (λo ho e=>by
   simp_all[Gh.base])
  (λa ha b I o E=>by
   have hO0:bL (A.base (dU ow F.aH)) o b:=⟨λhi=>E.1 (aaD b hi),E.2⟩
   let ⟨R,Xj⟩:=Gh.fW hO0
   let ⟨o2,ho2,hO3⟩:=aaA a ha b I
   by_cases hK:o∈C++z;have SV:g3.bX o=Z b:=by
    obtain h5|⟨e,x,_,h5,_⟩:=Xj.2
    grind
    simp_all
   have:=l.rel.kj o o2 b ⟨(l.rel.box o b SV).1,.inl SV⟩ hO3;subst this
   let ⟨b',hb'⟩:=hKb o hK
   have h6:g'.bX o=Z b':=n.ext.bX o b' (aia o hK b' hb');rw[l.owb o ho2]at h6;cases h6;obtain hX|h:=aaB a ha b I
   let ⟨o',ho',K⟩:=hXO b hX
   have:=d.rel.kj o o' b Xj K
   grind[mw]
   have:=(d.rel.sq Xj).1;omega) l.ap (hfE _ _) hD
 have hflX:∀b,b<w.heap.size->(∀o,s.fl<=o->¬bL g o b)->∀o,s.fl<=o->¬bL gh o b:=λb m hn o ho E=>by
  obtain⟨_,_,Xj⟩|⟨a,ha,I⟩:=ahZ E
  obtain h|h:=d.ext.own o b Xj
  grind
  omega
  let ⟨o',ho',K⟩:=E3 a ha b I
  obtain h|h:=d.ext.own o' b K
  exact hn o' (d.Zr o' ho').1 h;omega
 have amj:∀{o b:Nat},s.fl<=o->bL gh o b->(∃o',s.fl<=o'/\bL g o' b)\/w.heap.size<=b:=λ{o b}ho E=>by
  obtain⟨_,_,Xj⟩|⟨a,ha,I⟩:=ahZ E
  exact(d.ext.own o b Xj).imp (λh=>⟨o,ho,h⟩) id
  let ⟨o',ho',K⟩:=E3 a ha b I
  exact(d.ext.own o' b K).imp (λh=>⟨o',(d.Zr o' ho').1,h⟩) id
 have alD:aL gF w' (low (EY (uo c.rs yr))) v:=by
  obtain⟨vals',rfl,asc⟩:=GB ht hr
  let ⟨_,_,q⟩:=gK hS n.rel hr asc
  obtain⟨rfl,rfl⟩:=Uq afU hr
  let ⟨alr,hH,_⟩:=q g' (aF s') [] n.rel (Ext.refl _ _ _) ⟨rfl,rfl,λo ho=>(by cases ho),λ_ _ _ _ h=>h,λo ho=>(by cases ho)⟩ (λ_ h=>h) (λo ho=>(by cases ho))
  exact AK (yG afU hH)
 refine⟨_,_,gF,ow,h2,alD,hhF.rel,⟨λo b m=>?_,λo e x hl hx=>?_,λb m=>?_,p.size,λb m hn=>?_,λo b ho E=>?_,λb m=>?_,p.os,p.output⟩,hhF.fl.trans (atf.trans d.fl),hhF.lo.trans (atd.trans d.lo),?_,λo ho=>?_,λo hl ho=>?_,λt v ht hm=>?_,λo ho=>?_,λo ho=>?_,λo ho=>?_⟩;rw[hhF.bX];exact(A.gR _).bX o b (qh (λhm=>by rw[d.owb o hm]at m;cases m) (by have:=hs.lt m;rw[d.aH];exact this)) (d.ext.bX o b m);have hlt:o<F.aH:=by have:=hs.lt' hx;rw[d.aH];exact this
 rw[hhF.arr o (by omega)];exact(A.gR _).arr o e x (qh (λhm=>by have:=(d.Zr o hm).2.1;omega) hlt) (d.ext.arr o e x hx);rw[hhF.bF];exact aaD b (d.ext.bF b m);exact n.ext.heap b m (by simp_all);obtain E|⟨_,a,ha,I⟩:=hhF.own o b E
 have hO0:bL (A.base (dU ow F.aH)) o b:=⟨λhi=>E.1 (aaD b hi),E.2⟩;exact(d.ext.own o b (Gh.fW hO0).2).imp (λh=>⟨o,ho,h⟩) id
 let ⟨o2,ho2,Xj⟩:=aaA a ha b I
 obtain⟨o',ho',K⟩|h:=p.own o2 b (n.fl▸(l.Zr o2 ho2).1) Xj
 exact amj (hfl▸ho') K;omega;rw[hhF.bF]at m;obtain h|h|⟨o,ho,E⟩:=p.oN b m
 rw[hgi]at h;exact d.ext.oN b h;omega;obtain h|h:=amj (hfl▸ho) E
 exact .inr (.inr h);omega;have h3:B.aH<=s3.aH:=hhF.aH;rw[hBn,d.aH]at h3;exact h3;exact e9 _ (e9 _ (e9 _ (d.uF o ho)))
 .simp at ho;rw[hhF.ob o (by rw[hBn,d.aH];exact hl) ho.2.1,hBg,bS ho.2.1,<-d.same o ho.2.2.2];cases hg:F.ob.get o with
  |none=>rfl|some ob=>
   grind[oV,Tr.rE]
 have h3:aL A w t v:=ht.ext d.ext hs.bF;have hon:afm ow.contains A {A.base (dU ow F.aH)with bF:=g3.bF}:=by refine⟨λo b R m=>?_,λo e x R hx=>?_,aaD⟩;exact(A.gR _).bX o b (qh (by grind) (d.rel.lt m)) m;exact(A.gR _).arr o e x (qh (by grind) (d.rel.lt' hx)) hx
 exact(h3.on hon (λb m=>n.ext.heap b (d.rel.bF b m) λo _ E=>hXi b (aem E) m) (by rw[UT];exact hm)).le hhF.le
 simp_all
 exact e9 _ (by rw[d.dr];exact ho)
 simp_all
end
end
section
structure fF(E:eI S):Prop where
 sg:fE S
 V5:Cc E.T.E
 ty:TB S E.T
 name:∀f fn,E.T.E.Ve f=Z fn->(fn.name== "runtime.NumGoroutine")=J
 ng:∀f,E.T.E.JA f=Y
 x:XOk S E.T
 JA:∀f c,E.JA f=Z c->bN E.T.E.P f c
variable {E:eI S}{args:List (V S)}{s:bx S}
def fF.env(h:fF E):Rl E.T.E:={h.V5 with
 name:=h.name
 JA:=λf c a=>by rw[h.ng]at a;cases a}
def DP(s:bx S)(g:Gh)(w:az){ω:Type}(k kp:V S->bx S->O ω)(r:ω):Ending->az->Prop
 |.returned v,b=>∃t c d,k t c=Z r/\aL d b (low t) v/\cU [] s g w c d b|.panicked chain,b=>∃v t c d,chain=[{v,recovered:=J}]/\kp t c=Z r/\aL d b (low t) v/\cU [] s g w c d b|.outgrown,_=>False
structure gT(P:cV)(call:gD S):Prop where
 fn:∀(f:FuncId)(args:List (V S))(s:bx S){ω:Type}(k kp:V S->bx S->Option ω)(r:ω),call (.fn f) args s k kp=Z r->∀(g:Gh)(w:az)(vs:Array aD),bg g (aF s) w->PW (aL g w) (bI args) vs.toList->
  mF P f/\Calls P f vs w (DP s g w k kp r)
 jn:aoi P call
 yl:∀(o:Nat)(args:List (V S))(s:bx S){ω:Type}(k kp:V S->bx S->Option ω)(r:ω),call (.yl o) args s k kp=Z r->∀(g:Gh)(w:az)(vs:Array aD)(b:Nat),bg g (aF s) w->PW (aL g w) (bI args) vs.toList->g.bX o=Z b->
  ∃l:Loop,w.heap[b]?=Z (.loop l)/\vs.size=l.params.size/\∀rr n,RoundIn (WR rr) n P b l.fn ((l.params.zip vs).foldl (λtmps(t,a)=>tmps.setIfInBounds t a) l.tmps) l.assign l.body w (DP s g w k kp r)
 yd:∀(o:Nat)(args:List (V S))(s:bx S){ω:Type}(k kp:V S->bx S->Option ω)(r:ω),call (.yd o) args s k kp=Z r->∀(g:Gh)(w:az)(vs:Array aD)(b:Nat),bg g (aF s) w->PW (aL g w) (bI args) vs.toList->g.bX o=Z b->
  ∃l:Loop,w.heap[b]?=Z (.loop l)/\vs.size=l.params.size/\∀rr n,RoundIn (WR rr) n P b l.fn ((l.params.zip vs).foldl (λtmps(t,a)=>tmps.setIfInBounds t a) l.tmps) l.assign l.body w (yO s g w k kp r)
theorem oW{α:Type}{c:aa}{x:O α}{r:α}(h:aS c x=Z r):c=W/\x=Z r:=by
 unfold aS at h
 grind
theorem tO{α:Type}{c:aa}{x y:O α}{r:α}(h:ak c x y=Z r):(c=W/\x=Z r)\/(c=J/\y=Z r):=ah h
def sG{f:V S}{as:L (V S)}{id:FuncId}(h:qz f args=Z (id,as)):yI (low f) (bI args)=Z (id,bI as):=by unfold qz at h;split at h;obtain⟨rfl,rfl⟩:=h;simp[low,yI,kF];cases h
section
variable {g:Gh}{w:az}
theorem g7{p:V S->aa}{q:T->aa}(a:∀v,q (low v)=p v)(b:∀o e,p (.sh o e)=p (.sh o 0)):∀l:L (tG S),iJ q (l.map mP) ((l.map (eL p)).map mP)
 |[]=>.nil|.marks o::l=>by have d:=g7 a b l;simp only[o7,eL];cases c:p (.sh o 0)with|true=>exact .ahh o d|false=>exact .marks o (λe=>((a (.sh o e)).trans (b o e)).trans c) d
 |.kO::l=>.kO (g7 a b l)|.call f args::l=>.cons (by
   simp[eL];cases c:p f||args.any p with
   |true=>exact .inl ⟨rfl,rfl⟩|false=>
    simp only[zS,List.any_eq_false]at c;refine .inr ⟨rfl,by simp_all,λt g=>?_⟩;rw[ff,wP]at g
    grind) (g7 a b l)
 |.mark o::l=>.cons (by
   simp[eL];cases c:p (.ptr o 0)with
   |true=>exact .inl ⟨rfl,rfl⟩|false=>exact .inr ⟨rfl,(a (.ptr o 0)).trans c⟩) (g7 a b l)
 |.bad::l=>.cons (.inr ⟨rfl,trivial⟩) (g7 a b l)
theorem ov{ow:L Nat}{fr:cr S}{a:Act}{g':Gh}{w':az}{s s':bx S}(hf:cZ g (bM fr) a w)(h:cU ow s g w s' g' w'):cZ g' (bM (dH ow fr)) a w':=by
 refine⟨?_,?_,λk t r=>?_⟩;cases ow<;>exact hf.size
 .cases ow with
  |nil=>
   have i:∀t:T,dF [] t=J:=by
    intro t
    induction t using T.rec (motive_2:=λl=>iR [] l=J)with|fn f a b d j=>simp[dF,d,j]|dn t v e=>simp[dF,e]|agg p e=>simp[dF,e]|gX p e=>simp[dF,e]|gd c v e=>simp[dF,e]|nil=>rfl|cons a l d m=>simp[iR,d,m]|_=>simp[dF]
   refine hf.df.imp (λt v x=>h.tr t v x (i t)) λo b y=>?_;have:=h.tr _ _ (.ptr o 0 b y) (i _);cases this with|ptr _ _ _ q=>exact q
  |cons o ow=>exact(g7 (λv=>kZ _ v) (λ_ _=>rfl) fr.df).rel h.tr hf.df
 rw[cq,gi]at r;obtain⟨v,z,rfl⟩:=r;have n:fr.get k=Z v/\dF ow (low v)=J:=by
  cases ow with
  |nil=>
   refine⟨z,?_⟩;have:∀t:T,dF [] t=J:=by
    intro t;have key:(∀t:T,dF [] t=J):=by
     intro t
     induction t using T.rec (motive_2:=λl=>iR [] l=J)with|fn f a b d j=>simp[dF,d,j]|dn t v e=>simp[dF,e]|agg p e=>simp[dF,e]|gX p e=>simp[dF,e]|gd c v e=>simp[dF,e]|nil=>rfl|cons a l d m=>simp[iR,d,m]|_=>simp[dF]
    exact key t
   exact this _
  |cons o ow=>
   grind[dH,cr.get,Tr.oP,Option.filter_eq_some_iff,kZ]
 let ⟨u,A,B⟩:=hf.tm k (low v) (by rw[cq,n.1];rfl)
 exact⟨u,A,h.tr _ _ B n.2⟩
theorem UM{E:eI S}(b:fF E){fr:cr S}{s s':bx S}{a:Act}(hf:cZ g (bM fr) a w)(hs:bg g (aF s) w)(o:Oper){c:aa}{t:V S}(h:Bb E.T fr s o.op=Z (c,t,s'))(e:c=W) :
  ∃v w' g',((execOp a.eval o).run E.T.E.P w=.ok (.value v) w'\/((execOp a.eval o).run E.T.E.P w=.ok .skip w'/\v=undef))/\aL g' w' (low t) v/\cU [] s g w s' g' w':=by
 unfold Bb at h;split at h;rename_i r d;cases h;exact ads b.sg b.V5 b.ty hf hs o d e;split at h;rename_i d;cases h
 let ⟨p,f,j⟩:=OZ b.sg b.ty d e
 let ⟨⟨v,w',g',k,i,l,m⟩,h1,h2,h3⟩:=nX b.V5 hf hs o f j
 exact⟨v,w',g',k,m,cU.lF hs i l h1 h2 h3 (Zu d)⟩;exact adq b.sg b.V5 b.ty b.x hf hs o h e
def X3(s:bx S)(g:Gh)(w:az){ω:Type}(k:V S->bx S->L Nat->O ω)(kp:V S->bx S->O ω)(r:ω):Ending->az->Prop
 |.returned v,b=>∃t c d e,k t c e=Z r/\aL d b (low t) v/\cU e s g w c d b|.panicked chain,b=>∃v t c d,chain=[{v,recovered:=J}]/\kp t c=Z r/\aL d b (low t) v/\cU [] s g w c d b|.outgrown,_=>False
def O4{s:bx S}{o:Nat}:∀{n:Nat},o<n->s.lo<=o->(s.ob.get o).any j5=J->o∈Bi s n
 |n+1,c,a,b=>by unfold Bi;by_cases h:o=n;subst h;rw[b,OD a];exact eN;have:=O4 (n:=n) (by omega) a b;cases Nl s.lo n&&!((s.ob.get n).any j5);exact this;exact ie _ this
def eO.afv{s':bx S}{g':Gh}{w':az}(hs:bg g (aF s) w)(h:eO s g w s' g' w'):cU (Bi s s.aH) s g w {s' with wr:=Bi s s.aH++s'.wr,dr:=Bi s s.aH++s'.dr} g' w':=by
 have l:kg g.bF w w':=λb i=>h.ext.heap b (hs.bF b i) (λo _ m=>m.1 i);refine⟨h.rel,h.ext,h.fl,h.lo,h.aH,λo a=>e9 _ (h.uF o a),λo a d=>h.same o a λf=>d (e9 _ f),λt v q f=>?_,λo a=>gf _ a,λo a=>e9 _ (h.Ik o a),λo a=>gf _ a⟩;refine q.on (p:=(Bi s s.aH).contains) ⟨λo b _ e=>h.ext.bX o b e,λo e x j k=>h.ext.arr o e x ?_ k,h.ext.bF⟩ l (by rw[UT];exact f);refine Nat.lt_of_not_le λr=>?_;have c:(s.ob.get o).any j5=J:=by
  cases a:s.ob.get o with
  |none=>rfl|some ob=>
   cases c:j5 ob with|false=>exact c|true=>exact(A8 c ((hs.arr o e x k).2 _ (by rw[aN,a];rfl))).elim
 have:=O4 (n:=s.aH) (hs.lt' k) r c;rw[ac6.2 this]at j;cases j
def BE(m:fF E){call:gD S}(b:gT E.T.E.P call)(hs:bg g (aF s) w){f:FuncId}{ω:Type}{kp:V S->bx S->O ω}{k:V S->bx S->L Nat->O ω}{r:ω}
  (h:vz E call s f args kp k=Z r) {vs:Array aD} (d:PW (aL g w) (bI args) vs.toList):mF E.T.E.P f/\Calls E.T.E.P f vs w (X3 s g w k kp r):=by
 unfold vz at h;split at h
 .rename_i j
  let ⟨a,i⟩:=EC m.sg (m.JA _ _ j) hs d h
  refine⟨a,i.mono λe n c=>?_⟩;cases e with|returned v=>exact c|panicked o=>exact c|outgrown=>exact c.elim
 split at h
 .let ⟨a,i⟩:=Xt m.sg b.jn hs h d
  refine⟨a,i.mono λe n c=>?_⟩;cases e with|returned v=>exact c|panicked o=>exact c.elim|outgrown=>exact c.elim
 obtain⟨_,h⟩|⟨_,h⟩:=ah h
 .let ⟨a,i⟩:=b.jn _ _ _ _ _ _ h g w _ hs d
  refine⟨a,i.mono λe n c=>?_⟩;cases e with
  |returned v=>
   let ⟨t,p,l,h1,h2,h3⟩:=c
   exact⟨t,_,l,_,h1,h2,h3.afv hs⟩
  |panicked o=>obtain⟨v,t,p,l,_,h1,_⟩:=c;cases h1
  |outgrown=>exact c.elim
 let ⟨a,i⟩:=b.fn _ _ _ _ _ _ h g w _ hs d
 refine⟨a,i.mono λe n c=>?_⟩;cases e with
 |returned v=>
  let ⟨t,p,l,h1,h2,h3⟩:=c
  exact⟨t,p,l,[],h1,h2,h3⟩
 |panicked o=>exact c|outgrown=>exact c.elim
theorem EB{E:eI S}{call:gD S}{s:bx S}{m:String}{args:L (V S)}{n:Nat}{x:den S.A (.dn n)}{ω:Type}{kp:V S->bx S->O ω}{k:V S->bx S->L Nat->O ω}{r:ω}:∀{l:L (TypeId×Ty)}{j:Nat},
  aaP E call s m args n x kp k l j=Z r->∃i t f,mQ (S.alts n) i (S.vg n x)=W/\((nth (S.alts n) i).elim 0 (·.1))=t/\E.T.Mu t m=Z f/\vz E call s f (.ty (nL (S.alts n) i) (kK S.zero (S.alts n) i (S.vg n x))::args) kp k=Z r
 |[],j,h=>by cases h
 |p::l,j,h=>by
  obtain⟨a,h⟩|⟨_,h⟩:=tO h
  split at h;obtain⟨b,h⟩|⟨_,h⟩:=ah h
  grind[Nat.eq_of_beq_eq_true]
  cases h;cases h;exact EB h
def Ie:∀(l:L (TypeId×Ty))(i:Nat)(x:yV S.A l),mQ l i x=W->vA S l x=Z ((nth l i).elim 0 (·.1),enc S (nL l i) (kK S.zero l i x))
 |[],_,_,h=>by cases h
 |p::l,0,.inl y,_=>rfl|p::l,0,.inr y,h=>by cases h
 |p::l,i+1,.inl y,h=>by cases h
 |p::l,i+1,.inr y,h=>Ie l i y h
theorem zb{P:cV}{o:Oper}{c:Call}(e:o.op=.call c){d:Operand}(f:c.callee=.value d){a:Act}{b:Nat}(g:a.eval d=.func (.yield b) #[] #[]){w:az}{l:Loop}(hl:w.heap[b]?=Z (.loop l))(hs:(c.args.map a.eval).size=l.params.size) :
  (execOp a.eval o).run P w=.ok (.round b l.fn ((l.params.zip (c.args.map a.eval)).foldl (λtmps(t,a)=>tmps.setIfInBounds t a) l.tmps) l.assign l.body) w:=by
 grind[execOp,resolve,Deferred.ofValue,invoke,run_yield]
theorem JD{E:eI S}(F:fF E){call:gD S}(xe:gT E.T.E.P call){fr:cr S}{s:bx S}{a:Act}(hf:cZ g (bM fr) a w)(hs:bg g (aF s) w){o:Oper}{ω:Type}{kp:V S->bx S->O ω}{k:V S->bx S->L Nat->O ω}{r:ω}
  (h:vu E call o fr s kp k=Z r) {K:Act->az->Prop} {Q:Exit->Act->az->Prop} (hK:∀t s' g' ow v w',k t s' ow=Z r->cU ow s g w s' g' w'->aL g' w' (low t) v->K (a.put o.dst v) w')
  (hP:∀t s' g' v w',kp t s'=Z r->cU [] s g w s' g' w'->aL g' w' (low t) v->Q (.panic [{v,recovered:=J}]) a w') (hny:∀c fv oo,o.op=.call c->c.callee=.value fv->cI fr fv≠Z (.r9 oo)) :
  o.wp E.T.E.P a w K Q\/(o.asks E.T.E.P a w/\LetsOut Q):=by
 have fin:∀{t:V S}{s':bx S}{v:aD}{w':az}{g':Gh},k t s' []=Z r->((execOp a.eval o).run E.T.E.P w=.ok (.value v) w'\/((execOp a.eval o).run E.T.E.P w=.ok .skip w'/\v=undef))->aL g' w' (low t) v->cU [] s g w s' g' w'->o.wp E.T.E.P a w K Q:=by
  intro t s' v w' g' hk R ht b;unfold Oper.wp;obtain R|⟨R,rfl⟩:=R
  rw[R];exact hK t s' g' [] v w' hk b ht;rw[R];exact hK t s' g' [] undef w' hk b ht
 have plain:(match l7 E.T fr s o.op with
   |some (XI,p,d,s')=>zp (λv s=>k v s []) (aS p (k d s' [])) XI|none=>match Bb E.T fr s o.op with
    |none=>Y|some (p,t,s')=>aS p (k t s' []))=Z r->o.wp E.T.E.P a w K Q:=by
  intro h;split at h;rename_i p d s' B
  let ⟨t,s1,v,w',g',h1,h2,h3,h4,_⟩:=UN F.V5 F.x hf hs o B (X:=λv s=>k v s []) h
  grind
  grind[oW,UM]
 have called:∀{f:FuncId}{args:L (V S)}{vs:Array aD},vz E call s f args kp k=Z r->PW (aL g w) (bI args) vs.toList->(mF E.T.E.P f->(execOp a.eval o).run E.T.E.P w=.ok (.enter f vs) w)->o.wp E.T.E.P a w K Q:=by
  intro f args vs h I hrun
  let ⟨Py,hc⟩:=BE F xe hs h I
  unfold Oper.wp;rw[hrun Py];refine hc.mono λe w' he=>?_;cases e with
  |returned v=>
   let ⟨t,s',g',ow,h1,h2,h3⟩:=he
   grind
  |panicked ch=>
   obtain⟨v,t,s',g',rfl,h1,h2,h3⟩:=he
   grind
  |outgrown=>exact he.elim
 unfold vu at h;split at h;rename_i c B;split at h;cases h;rename_i args A;have P:=hJ A;have pE:=fe hf P;split at h;rename_i hb;split at h;cases h;rename_i t s' C
 let ⟨hp,hk⟩:=oW h
 unfold me at C;split at C;rename_i r0 h0;cases C;exact Iy F.sg F.V5 F.env F.ty hf hs B hb A h0 hp (λg' v w' b ht=>hK t s' g' [] v w' hk b ht);split at C;rename_i r0 h0;cases C
 let ⟨q,hq,hqp⟩:=zo F.sg F.ty h0 hp
 refine zn F.env hf hs B hb P hq hqp (k:=λt' st'=>t'=low t/\st'=aF s') ⟨rfl,rfl⟩ (λt' st' g' v w' he b ht=>?_);obtain⟨rfl,rfl⟩:=he;exact hK t s' g' [] v w' hk (cU.lF hs b.rel b.ext b.fl b.lo b.aH (JH h0)) ht;split at C;rename_i h0;cases C;obtain⟨rfl,v,R,ht⟩:=BS F.x hs hf B hb A h0
 grind[cU.refl]
 let ⟨v,w',g',R,ht,b⟩:=M6 F.x hs hf B hb A C
 grind
 rename_i fv hfv;split at h
 simp_all[aj4]
 split at h;cases h;rename_i f args' hfa
 left
 simp[wz]at hfa
 let ⟨tf,htf,ML⟩:=hfa
 have hrf:=bY hf (cH htf);have z:=sG ML;unfold yI at z;split at z
 .rename_i Pp
  simp only[gV,fH]at z;obtain⟨rfl,aif⟩:=z;rw[Pp]at hrf;generalize hvf:a.eval fv=vf at hrf;cases hrf with
  |fn _ _ _ va vc l1 l2 r1 r2=>
  have I:PW (aL g w) (bI args') (va++c.args.map a.eval++vc).toList:=by rw[<-aif];simp only[Wq,Uw];exact PW.append (PW.append ⟨by simpa using l1,λj x y h1 h2=>r1 j x y h1 (by simpa using h2)⟩ pE) ⟨by simpa using l2,λj x y h1 h2=>r2 j x y h1 (by simpa using h2)⟩
  grind[AZ]
 cases z;rename_i x m hxm;have inv:∀{tt:TypeId}{f:FuncId}{tv:V S}{u:aD},a.eval x=.iface tt u->aL g w (low tv) u->E.T.Mu tt m=Z f->vz E call s f (tv::args) kp k=Z r->o.wp E.T.E.P a w K Q:=by
  intro tt f tv u hv hu hm h;have I:PW (aL g w) (bI (tv::args)) (#[u]++c.args.map a.eval).toList:=by
   simp only[Wq,Uw];exact PW.append (l:=[low tv]) (m:=[u]) ⟨rfl,λj x y h1 h2=>by
    grind⟩ pE
  exact called h I (λPy=>Ol F.x B hxm hv hm Py)
 split at h;rename_i tt tv hx;split at h
 .rename_i f hm;have R:=bY hf (cH hx);generalize hv:a.eval x=v at R;cases R with|dn _ _ u hu=>grind
 cases h;rename_i n y hx
 let ⟨i,t,f,h1,h2,h3,h4⟩:=EB h
 have he:=Ie _ _ _ h1;obtain⟨he',_⟩|⟨t',d,u,he',hv,hd⟩:=FG F.sg (show aL g w (ek S (.dn n) y) (a.eval x)from dc hf hx)
 simp_all
 rw[he']at he;simp at he;obtain⟨ht,rfl⟩:=he;rw[h2]at ht;subst ht;exact .inl (inv (tv:=.ty (nL (S.alts n) i) (kK S.zero (S.alts n) i (S.vg n y))) hv (uK hd) h3 h4);cases h;rename_i x B;split at h
 .rename_i tt tv hx
  left
  have R:=bY hf (cH hx);unfold Oper.wp;generalize hv:a.eval x=v at R;cases R with
  |dn _ _ u hu=>
  have:(execOp a.eval o).run E.T.E.P w=.halt (.panic (.iface tt u)) w:=by
   simp_all[execOp,Instr.panic]
  rw[this];exact hP _ _ g _ w h (cU.refl hs) (by exact .dn _ _ _ hu)
 cases h
 grind
theorem BC{E:eI S}(R:fF E){call:gD S}(f:gT E.T.E.P call){fr:cr S}{s:bx S}{a:Act}(hf:cZ g (bM fr) a w)(hs:bg g (aF s) w){o:Oper}{ω:Type}{kp:V S->bx S->O ω}{k:V S->bx S->L Nat->O ω}{r:ω}
  (h:vu E call o fr s kp k=Z r) {K:Act->az->Prop} {Q:Exit->Act->az->Prop} (F:∀t s' g' ow v w',k t s' ow=Z r->cU ow s g w s' g' w'->aL g' w' (low t) v->K (a.put o.dst v) w')
  (hP:∀t s' g' v w',kp t s'=Z r->cU [] s g w s' g' w'->aL g' w' (low t) v->Q (.panic [{v,recovered:=J}]) a w') {rr:O Nat} (B:rr≠Y->∀c,o.op≠.defer c) :
  OpR rr E.T.E.P o a w K Q:=by
 by_cases I:∃c q A,o.op=.call c/\c.callee=.value q/\cI fr q=Z (.r9 A);rotate_left;exact .of_wp B (JD R f hf hs h F hP λc q A h1 h2 h3=>I ⟨c,q,A,h1,h2,h3⟩)
 let ⟨c,q,A,i,j,u⟩:=I
 unfold vu at h;rw[i]at h;dsimp only at h;split at h;cases h;rename_i args m;rw[j]at h;dsimp only at h;rw[u]at h;have x:=fe hf (hJ m);have y:=bY hf (cH u);generalize z:a.eval q=vf at y;cases y with
 |r9 _ b P=>
 obtain⟨_,h⟩|⟨_,h⟩:=ah h
 .let ⟨l,C,n,d⟩:=f.yd _ _ _ _ _ _ h g w (c.args.map a.eval) b hs (by simpa using x) P
  left
  rw[Oper.semAt_eq _ _ _ (by simp_all),zb i j z C n];refine⟨λh=>by simp[Fence.wide]at h,(d rr _).mono λe w' p=>?_⟩;cases e with
  |returned v=>
   let ⟨t,s',g',h1,h2,h3⟩:=p
   exact F _ _ _ _ _ _ h1 (h3.afv hs) h2
  |panicked ch=>obtain⟨v,t,s',g',rfl,h1,h2,h3⟩:=p;cases h1
  |outgrown=>exact p.elim
 let ⟨l,C,n,d⟩:=f.yl _ _ _ _ _ _ h g w (c.args.map a.eval) b hs (by simpa using x) P
 left
 rw[Oper.semAt_eq _ _ _ (by simp_all),zb i j z C n];refine⟨λh=>by simp[Fence.wide]at h,(d rr _).mono λe w' p=>?_⟩;cases e with
 |returned v=>
  let ⟨t,s',g',h1,h2,h3⟩:=p
  grind
 |panicked ch=>
  obtain⟨v,t,s',g',rfl,h1,h2,h3⟩:=p
  grind
 |outgrown=>exact p.elim
mutual
theorem tZ:∀(s:bx S)(t:Ty)(v:V S){x:den S.A t}{os:L Nat},wD v=W->ck s t v=Z (x,os)->os=[]
 |s,t,.ty u y,x,os,_,h=>by
  grind[ck]
 |s,t,.agg e,x,os,c,h=>by
  cases t with
  |st n=>simp[ck]at h;split at h;rename_i f g;obtain⟨_,rfl⟩:=h;exact Kp s _ e c g;cases h
  |_=>simp[ck]at h
 |s,t,.kb b,x,os,_,h=>by
  cases t<;>simp[ck]at h
  simp_all
 |s,t,.kn k n,x,os,_,h=>by
  cases t<;>simp only[ck]at h<;>try(cases h;done)
  grind
 |s,t,.emp,x,os,_,h=>by
  cases t<;>simp[ck]at h
  simp_all
 |s,t,.kR n u l,x,os,_,h=>by
  cases t<;>simp only[ck]at h<;>try(cases h;done)
  grind
 |s,t,.qx n u y,x,os,_,h=>by
  cases t<;>simp only[ck]at h<;>try(cases h;done)
  grind
 |s,t,.sV _ _ _ _,x,os,c,_=>by simp[wD]at c
 |s,t,.sh _ _,x,os,c,_=>by simp[wD]at c
 |s,t,.dat d,x,os,_,h=>by
  cases t with
  |dn n=>
   cases d with
   |lit v=>cases v<;>simp[ck]at h;simp_all
   |_=>simp[ck]at h
  |opt n=>
   cases d with
   |lit v=>cases v with
    |pointer a=>cases a<;>simp[ck]at h;simp_all
    |_=>simp[ck]at h
   |_=>simp[ck]at h
  |_=>simp[ck]at h
 |s,t,.mp _,_,_,_,h=>by cases t<;>simp[ck]at h
 |s,t,.r9 _,_,_,_,h=>by cases t<;>simp[ck]at h
 |s,t,.uH _,_,_,_,h=>by cases t<;>simp[ck]at h
 |s,t,.ub _,_,_,_,h=>by cases t<;>simp[ck]at h
 |s,t,.ptr _ _,_,_,_,h=>by cases t<;>simp[ck]at h
 |s,t,.mD _ _ _,_,_,_,h=>by cases t<;>simp[ck]at h
 |s,t,.mC _ _ _ _,_,_,_,h=>by cases t<;>simp[ck]at h
 |s,t,.fn _ _ _,_,_,_,h=>by cases t<;>simp[ck]at h
 |s,t,.dn u v,x,os,c,h=>by
  cases t<;>simp only[ck]at h<;>try(cases h;done)
  split at h;split at h;rename_i i;obtain⟨_,rfl⟩:=h;exact tZ s _ v c i;cases h;cases h
 |s,t,.gX _,_,_,_,h=>by cases t<;>simp[ck]at h
 |s,t,.gd _ _,_,_,_,h=>by cases t<;>simp[ck]at h
theorem Kp:∀(s:bx S)(ts:L Ty)(l:L (V S)){h:mA S.A ts}{os:L Nat},j7 l=W->oE s ts l=Z (h,os)->os=[]
 |s,[],[],x,os,_,h=>by grind[oE]
 |s,t::ts,v::l,x,os,a,h=>by simp[oE]at h;split at h;rename_i b c;obtain⟨_,rfl⟩:=h;simp[j7,eX]at a;rw[tZ s t v a.1 b,Kp s ts l a.2 c];rfl;cases h
 |s,[],_::_,_,_,_,h=>by simp[oE]at h
 |s,_::_,[],_,_,_,h=>by simp[oE]at h
end
end
end
section
def rz:Op->aa
 |.alloc _|.box ..|.store ..|.buildSlice ..|.slice ..|.makeMap ..|.mapUpdate ..|.insert ..|.makeSlice ..|.range ..|.next ..|.defer ..=>W|_=>J
theorem Sn{E:gC}{fr:cr S}{s s':bx S}{o:Op}{c:aa}{v:V S}(h:cP E fr s o=Z (c,v,s'))(d:rz o=J):s'=s:=by
 cases o with
 |alloc=>cases d
 |box=>cases d
 |store=>cases d
 |buildSlice=>cases d
 |slice=>cases d
 |move x=>simp only[cP,gi,fH]at h;grind|assign x=>simp only[cP,gi,fH]at h;grind|pick x y z=>simp[cP]at h;split at h;simp only[gi,fH]at h;grind;cases h
 |build t e=>simp[cP]at h;split at h;split at h;simp only[gi,fH]at h;grind;cases h;cases h
 |load t x=>
  simp[cP]at h;split at h;unfold zh at h;split at h;split at h;obtain⟨_,h⟩|⟨_,h⟩:=ah h
  simp only[gi,fH]at h;grind;cases h;cases h;simp only[gi,fH]at h;grind;split at h;simp at h;grind;iterate 3 cases h
 |nilCheck x=>
  simp[cP]at h
  grind
 |binOp op t x y u=>simp[cP]at h;split at h;simp only[gi,fH]at h;grind;cases h
 |unOp op t x=>simp[cP]at h;split at h;simp only[gi,fH]at h;grind;cases h
 |convert t u x=>
  grind[cP,Dr]
 |makeInterface t x=>
  simp[cP]at h
  grind
 |makeFunc f a b=>
  simp[cP]at h
  grind
 |extract x k=>
  grind[cP,vo]
 |fieldAddr t x k=>
  grind[cP,rM]
 |field t x k=>
  simp[cP]at h;split at h;unfold Dd at h;split at h;split at h;obtain⟨_,h⟩|⟨_,h⟩:=ah h
  simp only[gi,fH]at h;grind;iterate 4 cases h
 |indexAddr t x y=>
  simp[cP]at h;split at h;unfold kH at h;split at h
  grind
  have:=EL h
  grind
  cases h;cases h
 |index t x y=>
  simp[cP]at h;split at h;unfold CU at h
  grind
  cases h
 |typeAssert x t u ok=>
  grind[cP,xJ]
 |_=>simp[cP]at h
theorem WD{E:gC}{fr:cr S}{s s':bx S}{o:Op}{c:aa}{v:V S}(h:uG E fr s o=Z (c,v,s'))(a:rz o=J):s'=s:=by
 unfold uG at h;split at h;cases a
 grind
 iterate 4 cases a
 grind
 grind
 grind
 grind
 grind
 grind
 grind
 .split at h;rotate_left;cases h;split at h;rotate_left;cases h;simp only[gi,fH]at h
  grind
 cases h
theorem WH{E:gC}{fr:cr S}{s s':bx S}{o:Op}{c:aa}{v:V S}(h:Cp E fr s o=Z (c,v,s'))(a:rz o=J):s'=s:=by
 unfold Cp at h;split at h
 grind
 (iterate 3 split at h);obtain⟨_,h⟩|⟨_,h⟩:=ah h
 obtain⟨_,h⟩|⟨_,h⟩:=ah h
 grind
 obtain⟨_,h⟩|⟨_,h⟩:=ah h
 simp at h;grind;(iterate 5 cases h);(iterate 3 cases a);cases h
theorem WG{E:gC}{fr:cr S}{s s':bx S}{o:Op}{c:aa}{v:V S}(h:Bb E fr s o=Z (c,v,s'))(a:rz o=J):s'=s:=by
 grind[Bb,WH,Sn,WD]
theorem Fz{E:gC}{fr:cr S}{s:bx S}{o:Op}(h:uG E fr s o=Y)(hn:Cp E fr s o=Y):Bb E fr s o=cP E fr s o:=by
 grind[Bb]
def VA{ω:Type}(k:V S->O ω)(d:O ω):∀l:L (aa×V S×bx S),xL k d l=zp (λv _=>k v) d l
 |[]=>rfl|p::l=>by simp[xL,zp,VA k d l]
theorem Hh{l:L (Nat×V S)}(h:j7 (l.map (·.2))=W):∀p∈l,wD p.2=W:=by
 induction l with
 |nil=>simp_all|cons a l b=>
  simp[o7,j7,eX]at h
  grind
theorem Dj{s:bx S}{e:Ty}:∀{ps:L (Nat×V S)}{es r:L (den S.A e)}{os:L Nat},(∀p∈ps,wD p.2=W)->pH s e es ps=Z (r,os)->os=[]
 |[],es,r,os,_,h=>by grind[pH]
 |(k,v)::ps,es,r,os,a,h=>by
  simp[pH]at h;split at h;cases h;rename_i b;obtain⟨_,h⟩|⟨_,h⟩:=ah h
  split at h;rename_i c;obtain⟨_,rfl⟩:=h;rw[tZ s e v (a _ eN) b,Dj (λp d=>a p (ie _ d)) c];rfl;cases h;cases h
theorem Dw{E:gC}{fr:cr S}{s s':bx S}{t:TypeId}{n:Nat}{ps:Array (Nat×Operand)}{l:L (Nat×V S)}{c:aa}{v:V S}(hl:je fr ps.toList=Z l)(hn:j7 (l.map (·.2))=W)
  (h:Bb E fr s (.buildSlice t n ps)=Z (c,v,s')):s'=s:=by
 cases a:Cp E fr s (.buildSlice t n ps)with
 |some r=>
  simp[Bb,a,gV]at h;simp[Cp]at a;split at a;rename_i b;split at a;rename_i i j f _ _ g;split at a;split at a;obtain⟨_,a⟩|⟨_,a⟩:=ah a
  split at a;rename_i os k;have d:l=[(0,.agg f)]:=by
   grind[je,cI]
  subst d;simp[o7,List.map_nil,j7,Ma]at hn
  grind[tZ,dZ]
  iterate 5 cases a
  grind
  cases a
 |none=>
 rw[Fz rfl a]at h;simp only[cP]at h;split at h;rename_i _ _ b;rw[hl]at b;cases b;split at h;obtain⟨_,h⟩|⟨_,h⟩:=ah h
 split at h;rename_i e;have:=Dj (Hh hn) e
 grind[dZ]
 iterate 4 cases h
variable {E:gC}{fr:cr S}{s:bx S}{args:List (V S)}
def CJ{t:TypeId}{x:Operand}{lo hi a:O Operand}{u:V S}(hl:cI fr x=Z u)(hn:wD u=W):Cp E fr s (.slice t x lo hi a)=Y:=by
 cases lo<;>cases hi<;>cases a<;>first
  |rfl|(
    simp only[Cp,hl];split;rename_i h2 _;cases h2;simp[wD]at hn;rfl)
theorem Oc{E:gC}{fr:cr S}{s s':bx S}{t:TypeId}{x:Operand}{lo hi b:O Operand}{u:V S}{c:aa}{v:V S}(hl:cI fr x=Z u)(hn:wD u=W)
  (h:Bb E fr s (.slice t x lo hi b)=Z (c,v,s')):s'=s:=by
 rw[Fz rfl (CJ hl hn)]at h;simp[cP]at h;split at h;rename_i a _ _ _;rw[hl]at a;cases a;obtain rfl|h:=Gj h
 rfl;have:OW u=[]:=by cases u<;>first|rfl|simp[wD]at hn
 grind[dZ]
 cases h
theorem Eh{s:bx S}:∀{ps:L Pk}{l:L (V S)}{x:gp S.A ps}{fz ow bs:L Nat},cE ps=W->j7 l=W->eR s ps l Y=Z (x,fz,ow,bs)->fz=[]/\ow=[]/\bs=[]
 |[],[],x,fz,ow,bs,_,_,h=>by
  grind[eR]
 |.one (.dat t)::ps,v::l,x,fz,ow,bs,a,c,h=>by
  simp[eR]at h;simp[j7,eX]at c;split at h;rename_i b d;obtain⟨_,rfl,rfl,rfl⟩:=h;obtain⟨rfl,rfl,rfl⟩:=Eh (by simpa[cE]using a) c.2 d;simp[pU]at b;split at b;rename_i e;obtain⟨_,rfl,rfl⟩:=b;rw[tZ s t v c.1 e]
  simp_all
  cases b;cases h
 |.one (.own _)::_,_,_,_,_,_,a,_,_=>by simp[cE]at a
 |.one (.kE ..)::_,_,_,_,_,_,a,_,_=>by simp[cE]at a
 |.one (.nil _)::_,_,_,_,_,_,a,_,_=>by simp[cE]at a
 |.one (.ptr _)::_,_,_,_,_,_,a,_,_=>by simp[cE]at a
 |.box _::_,_,_,_,_,_,a,_,_=>by simp[cE]at a
 |.hid _::_,_,_,_,_,_,a,_,_=>by simp[cE]at a
 |[],_::_,_,_,_,_,_,_,h=>by simp[eR]at h
 |.one _::_,[],_,_,_,_,_,_,h=>by simp[eR]at h
def GP{s:bx S}:∀{ps:L Pk}(r:ic S.A ps),cE ps=W->mI s ps [] r=Z s
 |[],_,_=>rfl|.one (.dat t)::ps,r,h=>by exact GP (ps:=ps) r (by simpa[cE]using h)
 |.one (.own _)::_,_,a=>by simp[cE]at a
 |.one (.kE ..)::_,_,a=>by simp[cE]at a
 |.one (.nil _)::_,_,a=>by simp[cE]at a
 |.one (.ptr _)::_,_,a=>by simp[cE]at a
 |.box _::_,_,a=>by simp[cE]at a
 |.hid _::_,_,a=>by simp[cE]at a
def NY{s:bx S}:∀{cs:L Ck}(x:gJ S.A cs),j0 cs=W->iF s cs x=(uo cs x,s)
 |[],_,_=>rfl|.dat t::cs,x,h=>by simp only[iF,wJ,uo];rw[NY (cs:=cs) x.2 (by simpa[j0]using h)]
 |.own _::_,_,h=>by simp[j0]at h
 |.kE ..::_,_,h=>by simp[j0]at h
 |.nil _::_,_,h=>by simp[j0]at h
 |.ptr _::_,_,h=>by simp[j0]at h
def HP:∀{ps:L Pk},cE ps=W->aax ps=J
 |[],_=>rfl|.one (.dat t)::ps,h=>HP (ps:=ps) (by simpa[cE]using h)
 |.one (.own _)::_,a=>by simp[cE]at a
 |.one (.kE ..)::_,a=>by simp[cE]at a
 |.one (.nil _)::_,a=>by simp[cE]at a
 |.one (.ptr _)::_,a=>by simp[cE]at a
 |.box _::_,a=>by simp[cE]at a
 |.hid _::_,a=>by simp[cE]at a
def PV(hn:s.aH<=bO){c:lT S}(h1:cE c.ps=W)(h2:j0 c.rs=W)(h3:j7 args=W){x:gp S.A c.ps}{fz ow bs:L Nat}(b:eR s c.ps args Y=Z (x,fz,ow,bs))
  {d:RT c.pn (gJ S.A c.rs×ic S.A c.ps) (den S.A S.pt×ic S.A c.ps)} {r:gJ S.A c.rs×ic S.A c.ps} (f:c.F x=Z d) (g:RT.res c.pn d=.ok r):PY s c args (λ_ _=>Y) (λt s' ow=>Z (t,s',ow))=Z (EY (uo c.rs r.1),s,[]):=by
 obtain⟨rfl,rfl,rfl⟩:=Eh h1 h3 b;have a:Nl s.aH bO=W:=OD hn;unfold PY;rw[HP h1];simp only[jP];rw[b];simp only[dZ];cases ZR c with
 |true=>simp[iq,f,aj,g]|false=>
 simp[jP,sU,DA,List.all_nil,OE,iq,f,aj,Ow,g];have e:zl [] (forget [] s)=s:=rfl;rw[e,GP _ h1];simp[NY _ h2,a,iq]
def aaI(g:O aa):Prop:=g=Y\/g=Z W
def KJ{α:Type}{g:O aa}{p:aa}{x:O α}{r:α}(a:aaI g)(h:Ab g p x=Z r):p=W/\x=Z r:=by
 obtain rfl|rfl:=a
 exact oW h;exact oW h
def aet{α:Type}{g:O aa}{x:O α}{z:α}(a:aaI g):amO g x z=x:=by obtain rfl|rfl:=a<;>rfl
section
variable {g:Gh}{w:az}
def M5(A:Rl E.E){s':bx S}{a:Act}(hf:cZ g (bM fr) a w)(hs:bg g (aF s) w){o:Oper}{f:Call}(B:o.op=.call f)(hb:f.callee=.builtin .len)(b:kB fr f.args.toList=Z args){c:aa}{t:V S}
  (h:nu E s .len f.argTypes args=Z (c,t,s')):∃v,(execOp a.eval o).run E.E.P w=.ok (.value v) w/\aL g w (low t) v:=by
 have k:=fe hf (hJ b);unfold nu at h;split at h
 .rename_i d r _;split at h;rotate_left;cases h;rename_i n j l era m ij hole C;split at h;rotate_left;cases h;rename_i i n' hi MJ;split at h;rotate_left;cases h;rename_i F;obtain⟨q,I⟩|⟨_,I⟩:=ah h
  rotate_left;cases I;simp only[eX]at q;have K:=beq_iff'.1 q.1;subst K;obtain⟨_,rfl,rfl⟩:=I;have P:aL g w (.sh d r) ((f.args.toList.map a.eval)[0]'(by have:=k.1;simp[bI]at this;simp;omega)):=k.2 0 _ _ rfl (iZ _)
  let ⟨xs,u,_⟩:=Gm P
  have R:d<bO:=iW (hs.lt' u) hs.aH
  let ⟨z,h1,h2,h3,h4⟩:=JX hs C u
  have x:(lits j (l.map (enc S (.st n))) z).length=l.length:=by rw[oJ (by simpa using h1)];simp
  let ⟨_,v,y,ht⟩:=ZS A hf h4 B hb (hJ b) (p:=True) (t:=.sym (.lit (.int .i64 (eT (lits j (l.map (enc S (.st n))) z))))) (s':=mG s d (.arr (S.width (.st n)) (lits j (l.map (enc S (.st n))) z) r)) (by
   have hi':(nth f.argTypes.toList 0).bind E.E.ti=Z i:=hi;simp only[bI,low,fV,AR,hi',F,Cz];rw[gP R,bH rfl];simp) trivial
  refine⟨v,y,?_⟩;have e:eT (lits j (l.map (enc S (.st n))) z)=au l:=by simp[eT,x,au]
  rw[e]at ht;exact ht
 rename_i h0;exact Builtin.noConfusion h0;rename_i h0;exact Builtin.noConfusion h0;cases h
theorem s4{E:eI S}(I:fF E){fr:cr S}{s:bx S}{a:Act}(hf:cZ g (bM fr) a w)(hs:bg g (aF s) w){o:Oper}{gd:O aa}(hg:aaI gd){ω:Type}{k:V S->O ω}{r:ω}
  (h:fR E gd fr s o k=Z r) {K:Act->az->Prop} {Q:Exit->Act->az->Prop} (hK:∀t g' v w',k t=Z r->cU [] s g w s g' w'->aL g' w' (low t) v->K (a.put o.dst v) w') :
  o.wp E.T.E.P a w K Q:=by
 have plain:∀{c:aa}{t:V S}{s':bx S},Bb E.T fr s o.op=Z (c,t,s')->s'=s->Ab gd c (k t)=Z r->o.wp E.T.E.P a w K Q:=by
  intro c t s' f hss h9;subst hss
  let ⟨hp,P⟩:=KJ hg h9
  let ⟨v,w',g',C,ht,xg⟩:=UM I hf hs o f hp
  unfold Oper.wp;obtain C|⟨C,rfl⟩:=C
  rw[C];exact hK t g' v w' P xg ht;rw[C];exact hK t g' undef w' P xg ht
 unfold fR at h;split at h
 .rename_i c f;split at h;cases h
  .rename_i args A;have B:=hJ A;split at h
   .rename_i b hb;obtain⟨hqb,h⟩|⟨_,h⟩:=ah h
    rotate_left;cases h;split at h
    .rename_i p t s' m
     let ⟨hp,P⟩:=KJ hg h
     unfold me at m;split at m
     .rename_i r0 h0;cases m;cases b with
      |len=>
       let ⟨v,F,ht⟩:=M5 I.env hf hs f hb A h0
       unfold Oper.wp;rw[F];exact hK t g v w P (cU.refl hs) ht
      |append=>cases hqb
      |_=>simp[nu]at h0
     split at m
     .rename_i r0 h0;cases m
      let ⟨q,hq,hqp⟩:=zo I.sg I.ty h0 hp
      cases b with
      |len=>
       let ⟨hss,v,F,ht⟩:=ZS I.env hf hs f hb B hq hqp
       unfold Oper.wp;rw[F];exact hK t g v w P (cU.refl hs) ht
      |max=>simp[iE]at h0|min=>simp[iE]at h0|_=>cases hqb
     split at m;rename_i h0;cases m;obtain⟨rfl,v,C,ht⟩:=BS I.x hs hf f hb A h0;unfold Oper.wp;rw[C];exact hK t g v w P (cU.refl hs) ht
     .cases b<;>first|(cases hqb;done)|(simp[ux]at m)
    cases h
   .rename_i fv hfv;split at h;cases h
    .rename_i args' hfa;split at h;cases h
     .rename_i asP;obtain⟨l,h⟩|⟨_,h⟩:=ah h
      .simp only[eX]at l;split at h
       .rename_i x _ _ _ b hpk hnb
        let ⟨rr,hF,P⟩:=jq h
        rw[aet hg]at hF;split at P;rotate_left;cases P;rename_i r1 hr1;have hq:=PV hs.aH l.1 l.2.1 l.2.2.1 hpk hF hr1;simp[wz]at hfa
        let ⟨tf,htf,ML⟩:=hfa
        have hrf:=bY hf (cH htf);have pE:=fe hf B;have i:=sG ML;unfold yI at i;split at i
        .rename_i Pp
         simp only[gV,fH]at i;obtain⟨rfl,R⟩:=i;rw[Pp]at hrf;generalize hvf:a.eval fv=vf at hrf;cases hrf with
         |fn _ _ _ va vc l1 l2 r1 r2=>
         have hall:PW (aL g w) (bI args') (va++c.args.map a.eval++vc).toList:=by rw[<-R];simp only[Wq,Uw];exact PW.append (PW.append ⟨by simpa using l1,λj x y h1 h2=>r1 j x y h1 (by simpa using h2)⟩ pE) ⟨by simpa using l2,λj x y h1 h2=>r2 j x y h1 (by simpa using h2)⟩
         let ⟨Py,hc⟩:=EC I.sg (I.JA _ _ asP) hs hall hq
         unfold Oper.wp;rw[AZ f hfv hvf Py];refine hc.mono λe w' he=>?_
         grind
        cases i
       cases h
      cases h
   cases h
 iterate 11
  cases h
 rename_i t n ps f;split at h;obtain⟨hn,h⟩|⟨_,h⟩:=ah h
 grind[Dw]
 cases h;cases h;rename_i t x lo hi mx f;split at h;rename_i v hv;obtain⟨hn,h⟩|⟨_,h⟩:=ah h
 grind[Oc]
 cases h;cases h;all_goals try(cases h;done)
 rename_i op h1 h2 h3 h4 h5 h6 h7 h8 h9 h10 h11 h12 h13 h14;have hmv:rz o.op=J:=by cases f:o.op with|store x y z=>simp_all|alloc x=>simp_all|box x y=>simp_all|makeMap x y=>simp_all|mapUpdate x y z u=>grind|insert x y z u=>grind|makeSlice x y z=>simp_all|range x y=>simp_all|next x y=>simp_all|defer x=>simp_all|buildSlice x y z=>simp_all|slice x y z u v=>grind|_=>rfl
 split at h;rename_i XI p d s' f;have hx:zp (λv _=>k v) (aS p (k d)) XI=Z r:=by
  rw[<-VA];obtain rfl|rfl:=hg
  exact h;simpa[Ab,imp]using h
 let ⟨t,s1,v,w',g',k1,k2,k3,k4,k5⟩:=UN I.V5 I.x hf hs o f (X:=λv _=>k v) hx
 have:s1=s:=k5 λit b hh=>by simp_all
 subst this;unfold Oper.wp;obtain C|⟨C,rfl⟩:=k2
 rw[C];exact hK t g' v w' k1 k4 k3;rw[C];exact hK t g' undef w' k1 k4 k3
 grind[WG]
theorem IF{ω:Type}{k:V S->O ω}{d:O ω}{r:ω}:∀{l:L (aa×V S×bx S)},xL k d l=Z r->(∃t,k t=Z r)\/d=Z r
 |[],h=>.inr h|p::l,h=>by
  obtain⟨_,h⟩|⟨_,h⟩:=tO h
  grind
  exact IF h
theorem MU{E:eI S}{fr:cr S}{s:bx S}{o:Oper}{ω:Type}{k:V S->O ω}{r:ω}(h:fR E (Z J) fr s o k=Z r):∃t,k t=Z r:=by
 have a:∀{p:aa}{x:O ω},Ab (Z J) p x=Z r->x=Z r:=λh=>(oW h).2;unfold fR at h;split at h;split at h;cases h;split at h
 grind
 split at h;cases h;split at h;cases h;obtain⟨_,h⟩|⟨_,h⟩:=ah h
 split at h
 let ⟨b,_,c⟩:=jq h
 grind
 iterate 3 cases h
 iterate 11
  cases h
 grind
 grind
 split at h;obtain h|h:=IF h
 exact h
 grind
 grind
end
end
def s6(p:Nat->aa):tG S->aa
 |.call f args=>cQ p f||args.any (cQ p)|.mark o=>cQ (S:=S) p (.ptr o 0)|.marks o=>cQ (S:=S) p (.sh o 0)|.kO=>W|.bad=>W
theorem oT{p q:Nat->aa}(h:∀o,p o=W->q o=W):∀d:tG S,s6 p d=W->s6 q d=W
 |.call f args,a=>by
  simp[s6,o8,Uv]at a ⊢
  grind[eD]
 |.mark o,a=>h o a|.marks o,a=>h o a|.kO,_=>rfl|.bad,_=>rfl
inductive qB(p:Nat->aa):List (tG S)->List (tG S)->Prop where
 |nil:qB p [] []|cons {d e:tG S} {l m:List (tG S)} (h:e=d\/(((e=.bad/\d.one=W)\/(e=.kO/\d.one=J))/\s6 p d=W)) (t:qB p l m):qB p (d::l) (e::m)
theorem qB.refl(p:Nat->aa):∀l:L (tG S),qB p l l
 |[]=>.nil|_::l=>.cons (.inl rfl) (qB.refl p l)
theorem qB.mono{p q:Nat->aa}(h:∀o,p o=W->q o=W){l m:L (tG S)}(k:qB p l m):qB q l m:=by
 induction k with|nil=>exact .nil|cons c _ d=>exact .cons (c.imp id λ⟨a,b⟩=>⟨a,oT h _ b⟩) d
def qB.trans{p:Nat->aa}:∀{l m n:L (tG S)},qB p l m->qB p m n->qB p l n
 |_,_,_,.nil,.nil=>.nil|_,_,_,.cons h t,.cons a b=>by
  refine .cons ?_ (t.trans b);obtain rfl|⟨⟨rfl,h1⟩|⟨rfl,h1⟩,h⟩:=h
  exact a;obtain rfl|⟨⟨rfl,_⟩|⟨rfl,h2⟩,_⟩:=a
  simp_all
  simp_all
  cases h2;obtain rfl|⟨⟨rfl,h2⟩|⟨rfl,_⟩,_⟩:=a
  simp_all
  cases h2
  simp_all
theorem qB.split{p:Nat->aa}:∀{a b m:L (tG S)},qB p (a++b) m->∃c d,m=c++d/\qB p b d
 |[],_,m,h=>⟨[],m,rfl,h⟩|_::_,_,_,.cons _ t=>by
  let ⟨c,d,h1,h2⟩:=t.split
  grind
theorem qB.len{p:Nat->aa}{l m:L (tG S)}(h:qB p l m):m.length=l.length:=by
 induction h with|nil=>rfl|cons _ _ a=>simp[a]
def y4(p:Nat->aa)(l m:L (tG S)):Prop:=∃c d,m=c++d/\qB p l d
theorem y4.refl(p:Nat->aa)(l:L (tG S)):y4 p l l:=⟨[],l,rfl,.refl p l⟩
theorem qB.ok{p:Nat->aa}{l m:L (tG S)}(h:qB p l m):y4 p l m:=⟨[],m,rfl,h⟩
theorem y4.mono{p q:Nat->aa}(h:∀o,p o=W->q o=W){l m:L (tG S)}(k:y4 p l m):y4 q l m:=by
 let ⟨c,d,h1,h2⟩:=k
 exact⟨c,d,h1,h2.mono h⟩
def y4.trans{p:Nat->aa}{l m n:L (tG S)}(h:y4 p l m)(k:y4 p m n):y4 p l n:=by obtain⟨c,d,rfl,h2⟩:=h;obtain⟨a,b,rfl,h4⟩:=k;obtain⟨x,y,rfl,h5⟩:=h4.split;exact⟨a++x,y,by rw[wv],h2.trans h5⟩
structure dB(ds:List Nat)(fr fr':cr S)(dr:List Nat)(aH:Nat):Prop where
 tm:∀k v,k∉ds->fr.get k=Z v->fr'.get k=Z v\/cQ (dU dr aH) v=W
 df:y4 (dU dr aH) fr.df fr'.df
theorem dB.refl(ds:L Nat)(fr:cr S)(dr:L Nat)(aH:Nat):dB ds fr fr dr aH:=⟨λ_ _ _ h=>.inl h,y4.refl _ _⟩
def dB.trans{ds d:L Nat}{fr fr' a:cr S}{dr c:L Nat}{aH b:Nat}(h:dB ds fr fr' dr aH)(k:dB d fr' a c b)(f:∀o∈dr,o∈c)(hn:aH<=b):dB (ds++d) fr a c aH:=by
 refine⟨λj v e g=>?_,(h.df.mono (jf f (eP _))).trans (k.df.mono (jf (λ_ h=>h) hn))⟩;simp at e;obtain h1|h1:=h.tm j v e.1 g
 exact(k.tm j v e.2 h1).imp id (eD (jf (λ_ h=>h) hn) v);exact .inr (eD (jf f (eP _)) v h1)
theorem dB.mono{ds a:L Nat}{fr fr':cr S}{dr b:L Nat}{aH:Nat}(h:dB ds fr fr' dr aH)(d:∀k∈ds,k∈a)(c:∀o∈dr,o∈b):dB a fr fr' b aH:=by refine⟨λj v e f=>?_,h.df.mono (jf c (eP _))⟩;exact(h.tm j v (λg=>e (d j g)) f).imp id (eD (jf c (eP _)) v)
def vG{p q:Nat->aa}(a:∀o,p o=W->q o=W){f:V S->aa}(hf:∀v,f v=cQ p v):∀l:L (tG S),qB q l (l.map (eL f))
 |[]=>.nil|d::l=>by
  refine .cons ?_ (vG a hf l);cases d with
  |call g args=>
   simp[eL];cases b:f g||args.any f with
   |true=>
    refine .inr ⟨.inl ⟨rfl,rfl⟩,oT a _ ?_⟩;simp only[s6,<-hf]
    simp_all
   |false=>exact .inl rfl
  |mark o=>
   simp[eL];cases b:f (.ptr o 0)with|true=>exact .inr ⟨.inl ⟨rfl,rfl⟩,oT a _ (by simp[s6,<-hf];exact b)⟩|false=>exact .inl rfl
  |marks o=>
   simp[eL];cases b:f (.sh o 0)with|true=>exact .inr ⟨.inr ⟨rfl,rfl⟩,oT a _ (by simp[s6,<-hf];exact b)⟩|false=>exact .inl rfl
  |kO=>exact .inl rfl|bad=>exact .inl rfl
section
variable {g:Gh}{w:az}
theorem qt{ops:Array Oper}{fr:cr S}{a:Act}(hf:cZ g (bM fr) a w){o:Oper}{r:O aa}(h:iT ops.toList fr o=Z r) :
  match r with
  |none=>Region.wanted o (yielded ops a.tmps)=W|some c=>Region.wanted o (yielded ops a.tmps)=c:=by
 unfold iT at h;split at h
 grind[Region.wanted]
 rename_i j f z;split at h;rename_i b l;simp only[wz,kD]at l
 let ⟨d,⟨m,n,q⟩,i⟩:=l
 obtain⟨v,s,u⟩:=hf.tm d (low (.kb b)) (by rw[cq,i];rfl);cases u;have k:ops[j]?=Z m:=by grind
 have x:yielded ops a.tmps j=Z b:=by simp[yielded,k,q,s]
 cases b<;>cases f<;>simp only[iq,jP,Jt,Mc,gV]at h<;>subst h<;>simp[Region.wanted,z,x];rename_i t _ l;split at h;rename_i b A;simp at h;subst h
 let ⟨p,e,B⟩:=mS A
 simp only[wz,kD]at l
 let ⟨d,⟨m,n,q⟩,i⟩:=l
 let ⟨v,s,u⟩:=hf.tm d (low t) (by rw[cq,i];rfl)
 have y:=jC e B u;subst y;have k:ops[j]?=Z m:=by grind
 have x:yielded ops a.tmps j=Z b:=by simp[yielded,k,q,s]
 simp only[Region.wanted,z,x,pZ];cases b<;>cases f<;>rfl;cases h;cases h
theorem DU{ops:Array Oper}{fr:cr S}{a:Act}(hf:cZ g (bM fr) a w){o:Oper}(h:vX ops.toList fr o=W):Region.wanted o (yielded ops a.tmps)=J:=by
 unfold vX at h;split at h;cases h
 .rename_i j e s;split at h
  .rename_i b f;simp only[wz,kD]at f
   let ⟨d,⟨p,i,q⟩,c⟩:=f
   obtain⟨v,r,k⟩:=hf.tm d (low (.kb b)) (by rw[cq,c];rfl);cases k;have m:ops[j]?=Z p:=by grind
   have t:yielded ops a.tmps j=Z b:=by simp[yielded,m,q,r]
   cases b<;>cases e<;>first|(cases h;done)|simp[Region.wanted,s,t]
  .rename_i l f;simp only[wz,kD]at f
   let ⟨d,⟨p,i,q⟩,c⟩:=f
   obtain⟨v,r,k⟩:=hf.tm d (low (.dat (.lit (.tuple l)))) (by rw[cq,c];rfl);cases k with
   |sym _ _ n=>
   cases n
   grind[yielded,Region.wanted]
  cases h
def NX:aL g w (low (S:=S) eA) undef:=.sym _ _ (.lit _)
def abR(t a:V S):Prop:=a=t\/∃b,t=.ty .bool b/\a=.kb b
variable {p:Nat->aa}{fr:cr S}{t:V S}{v:aD}{a:Act}
def abR.rel{a:V S}(h:abR t a)(c:aL g w (low t) v):aL g w (low a) v:=by
 obtain rfl|⟨b,rfl,rfl⟩:=h
 exact c;cases c with|sym _ _ d=>cases d;exact .kb b
def V7{b:aa}{ω:Type}{k:V S->O ω}{r:ω}(h:LN b t k=Z r):∃c,abR t c/\k c=Z r:=by
 obtain⟨_,a⟩|⟨_,a⟩:=ah h
 clear h;split at a;obtain⟨rfl,h⟩|⟨rfl,h⟩:=tO a
 exact⟨_,.inr ⟨W,rfl,rfl⟩,h⟩;exact⟨_,.inr ⟨J,rfl,rfl⟩,h⟩;exact⟨_,.inl rfl,a⟩;exact⟨t,.inl rfl,a⟩
theorem LM{b:aa}{t:V S}{ω:Type}{k:V S->O ω}{r:ω}(h:LN b t k=Z r){v:aD}(d:aL g w (low t) v):∃a,k a=Z r/\aL g w (low a) v:=by
 obtain⟨_,c⟩|⟨_,h⟩:=ah h
 clear h;split at c;rename_i x;have e:v=.bool x:=by cases d with|sym _ _ f=>cases f;rfl
 subst e;obtain⟨rfl,h⟩|⟨rfl,h⟩:=tO c
 exact⟨_,h,.kb W⟩;exact⟨_,h,.kb J⟩
 grind
 grind
theorem xh{fr:cr S}{a:Act}(hf:cZ g (bM fr) a w)(hn:fr.n<=bO){o:Op}(h:PA W fr o=W):cZ g (bM (sB fr o)) a w/\(sB fr o).n=fr.n:=by
 have key:∀(l:L Operand)(q:aa)(f0:cr S),f0.n=fr.n->(q=W->cZ g (bM f0) a w)->
   l.foldl (λp x=>match x with
    |.tmp k=>match fr.get k with
     |some (.gd g _)=>p&&imp W g|_=>p
    |_=>p) q=W->
   cZ g (bM (l.foldl (λf x=>match x with
    |.tmp k=>match fr.get k with
     |some (.gd _ v)=>f.put k v|_=>f
    |_=>f) f0)) a w/\(l.foldl (λf x=>match x with
    |.tmp k=>match fr.get k with
     |some (.gd _ v)=>f.put k v|_=>f
    |_=>f) f0).n=fr.n:=by
  intro l
  induction l with
  |nil=>simp_all|cons x l s=>
   intro q f0 j t h;simp at h ⊢;cases x with
   |tmp k=>
    simp only at h ⊢;split at h;rename_i y v eu;refine s _ _ (by simpa[cr.put]using j) (λc=>?_) h;simp at c;have d:=t c.1;have m:y=W:=c.2;subst m
    let ⟨u,z,A⟩:=hf.tm k (low (.gd W v)) (by rw[cq,eu];rfl)
    have e:k<fr.n:=by have:=(YM.1 z).1;rw[hf.size]at this;exact this
    refine⟨d.size,d.df,λn B b=>?_⟩;rw[cq,cr.ke _ _ _ _ (iW e hn)]at b;by_cases i:n=k
    .subst i;rw[bH rfl]at b;simp at b;cases A with|gd _ _ _ r=>simp_all
    rw[bS i]at b;exact d.tm n B (by rw[cq];exact b)
    grind
   |const v=>grind|global v=>grind|func v=>grind
 exact key o.operands.toList W fr rfl (λ_=>hf) h
def uT(hf:cZ g (bM fr) a w){dst:O Nat}(b:gU fr dst=W)(hn:fr.n<=bO)(c:aL g w (low t) v) :
  cZ g (bM (fr.jb dst t)) (a.put dst v) w/\(fr.jb dst t).n=fr.n:=by
 refine⟨?_,by cases dst<;>rfl⟩;rw[Su];exact Xr hf (by cases dst<;>exact b) hn c
theorem CG{fr:cr S}(hn:fr.n<=bO){dst:O Nat}(g:gU fr dst=W){ow dr:L Nat}(i:∀o∈ow,o∈dr)(aH:Nat)(t:V S):dB dst.toList fr ((dH ow fr).jb dst t) dr aH:=by
 refine⟨λk v h c=>?_,?_⟩;rotate_left
 .have e:((dH ow fr).jb dst t).df=(dH ow fr).df:=by cases dst<;>rfl
  rw[e];cases ow with
  |nil=>exact y4.refl _ _|cons o ow=>
   refine(vG (p:=(o::ow).contains) (λj a=>?_) (λv=>qj _ v) _).ok;simp only[dU,o8,GJ,ri]at a ⊢
   grind
 have h1:(dH ow fr).get k=Z v\/cQ (dU dr aH) v=W:=by
  cases ow with
  |nil=>exact .inl c|cons o ow=>
   cases f:iX (o::ow) v with
   |true=>
    rw[qj]at f;refine .inr (eD (λo a=>?_) v f);simp only[dU,o8,GJ,ri]at a ⊢
    grind
   |false=>
    left
    show(fr.tm.keep _).get k=Z v;rw[Tr.oP,show fr.tm.get k=Z v from c]
    simp_all
 refine h1.imp (λh1=>?_) id;cases dst with|none=>exact h1|some d=>have b:d<fr.n:=gY g;show((dH ow fr).put d t).get k=Z v;rw[cr.ke _ _ _ _ (iW b hn),bS (by simpa using h)];exact h1
def Bv(v:aD):aL g w (low (S:=S) (.gd J eA)) v:=by exact .gd _ _ _ λh=>by cases h
def uj(ow:L Nat)(fr:cr S):(dH ow fr).n=fr.n:=by cases ow<;>rfl
def Bc{ow:L Nat}{d:O Nat}(h:gU fr d=W):gU (dH ow fr) d=W:=by
 simp_all[gU,uj]
theorem sZ{E:eI S}(u:fF E){call:gD S}(i:gT E.T.E.P call){ops:Array Oper}{fr:cr S}{s:bx S}{a:Act}(hn:fr.n<=bO)(hf:cZ g (bM fr) a w)(hs:bg g (aF s) w){o:Oper}{ω:Type}
  {kp:V S->bx S->O ω} {k:V S->bx S->L Nat->O ω} {r:ω} (h:qv E call ops.toList o fr s kp k=Z r) {K:Act->az->Prop} {Q:Exit->Act->az->Prop}
  (f:∀t s' ow g' v w',k t s' ow=Z r->aL g' w' (low t) v->cU ow s g w s' g' w'->K (a.put o.dst v) w')
  (z:∀t s' g' v w',kp t s'=Z r->cU [] s g w s' g' w'->aL g' w' (low t) v->Q (.panic [{v,recovered:=J}]) a w') {rr:O Nat} (j:rr≠Y->∀c,o.op≠.defer c) :
  gU fr o.dst=W/\if Region.wanted o (yielded ops a.tmps)then OpR rr E.T.E.P o a w K Q else K (a.put o.dst undef) w:=by
 obtain⟨x,h⟩|⟨_,h⟩:=ah h
 rotate_left;cases h;refine⟨x,?_⟩;obtain⟨l,h⟩|⟨_,h⟩:=ah h
 rw[bS (by rw[DU hf l];simp_all)];exact f _ s [] g undef w h NX (cU.refl hs);split at h;cases h;rename_i m;have q:=qt hf m
 grind[BC]
 rename_i c m;have q:=qt hf m;obtain⟨_,h⟩|⟨_,h⟩:=ah h
 .let ⟨b,h⟩:=oW h
  cases c with
  |true=>
   rw[bH q]
   let ⟨d,n⟩:=xh hf hn b
   exact .of_wp j (.inl (s4 u d hs (.inr rfl) h (λt g' v w' p e y=>f _ s [] g' v w' p (by exact .gd _ _ _ λ_=>y) e)))
  |false=>
   rw[bS (by simp_all)]
   let ⟨t,p⟩:=MU h
   exact f _ s [] g undef w p (by exact .gd _ _ _ λh=>by cases h) (cU.refl hs)
 obtain⟨rfl,h⟩|⟨rfl,h⟩:=tO h
 let ⟨b,h⟩:=oW h
 let ⟨d,n⟩:=xh hf hn b
 grind[BC]
 rw[bS (by simp_all)];exact f _ s [] g undef w h (Bv _) (cU.refl hs)
theorem MZ{P:cV}{fr:cr S}{a:Act}(hf:cZ g (bM fr) a w){o:Oper}{d:tG S}(h:S8 fr o=Z d) :
  o.guard=Y/\∃e,(execOp a.eval o).run P w=.ok (.defer e) w/\xW g w (mP d) e:=by
 unfold S8 at h;split at h;rotate_left;cases h;rename_i c r s;refine⟨r,?_⟩;split at h;rotate_left;cases h;rename_i f p;split at h;rotate_left;cases h;rename_i k u x args l b;simp at h;subst h;have q:=bY hf (cH l);have i:=fe hf (hJ b);generalize y:a.eval f=E at q;cases q with
 |fn _ _ _ m n z A B C=>
  refine⟨{target:=.fn k n,args:=m++c.args.map a.eval},?_,?_⟩
  grind[execOp,resolve,Deferred.ofValue,run_pure]
  exact .call (.fn k (bI u) (bI x)) (bI args) k m n (c.args.map a.eval) (.fn k _ _ m n z A B C) (by simpa using i.1) (λj t v h1 h2=>i.2 j t v h1 (by simpa using h2))
def MS{E:eI S}(A:fF E){call:gD S}(f:gT E.T.E.P call){ops:Array Oper}{s:bx S}(hn:fr.n<=bO)(hf:cZ g (bM fr) a w)(hs:bg g (aF s) w){o:Oper}{ω:Type}
  {kp:V S->bx S->O ω} {k:cr S->bx S->O ω} {r:ω} (h:S3 E call ops.toList o fr s kp k=Z r) {K:Act->az->Prop} {Q:Exit->Act->az->Prop}
  (B:∀fr' s' g' a' w',k fr' s'=Z r->fr'.n=fr.n->cZ g' (bM fr') a' w'->eO s g w s' g' w'->dB o.dst.toList fr fr' s'.dr s.aH->K a' w')
  (C:∀t s' g' v w',kp t s'=Z r->cZ g' (bM fr) a w'->eO s g w s' g' w'->aL g' w' (low t) v->Q (.panic [{v,recovered:=J}]) a w') {rr:O Nat} (l:rr≠Y->∀c,o.op≠.defer c) :
  if Region.wanted o (yielded ops a.tmps)then OpR rr E.T.E.P o a w K Q else K (a.put o.dst undef) w:=by
 unfold S3 at h;split at h
 .rename_i d x;obtain⟨m,h2⟩|⟨_,h2⟩:=ah h
  rotate_left;cases h2
  let ⟨F,e,n,i⟩:=MZ (P:=E.T.E.P) hf x
  have I:Region.wanted o (yielded ops a.tmps)=W:=by simp[Region.wanted,F]
  rw[bH I];refine .of_wp l (.inl ?_);unfold Oper.wp;rw[n]
  let ⟨h1,h3⟩:=uT hf m hn (t:=zG) (v:=undef) (Bv _)
  have key:∀dst:O Nat,cZ g (bM (fr.jb dst zG)) (a.put dst undef) w->cZ g (bM {(fr.jb dst zG)with df:=d::fr.df}) (({a with defers:=e::a.defers}:Act).put dst undef) w:=by intro dst h1;cases dst with|none=>exact⟨h1.size,.cons i hf.df,h1.tm⟩|some j=>exact⟨h1.size,.cons i hf.df,h1.tm⟩
  let ⟨h4,h5⟩:=CG (ow:=[]) (dr:=s.dr) hn m (λo R=>by cases R) s.aH zG
  exact B _ s g _ w h2 h3 (key _ h1) (eO.refl hs) ⟨h4,[d],fr.df,rfl,.refl _ _⟩
 have m:gU fr o.dst=W:=(sZ A f hn hf hs h (K:=λ_ _=>True) (Q:=λ_ _ _=>True) (λ_ _ _ _ _ _ _ _ _=>trivial) (λ_ _ _ _ _ _ _ _=>trivial) l).1;refine(sZ A f hn hf hs h (λt s' ow g' v w' p q b=>?_) (λt s' g' v w' p b q=>C t s' g' v w' p (ov (ow:=[]) hf b) b.toW q) l).2;have y:=b.owd;have z:=ov hf b
 let ⟨t,p,q⟩:=LM p q
 let ⟨h1,h2⟩:=uT (fr:=dH ow fr) z (Bc m) (by rw[uj];exact hn) q
 exact B _ s' g' _ w' p (h2.trans (uj ow fr)) h1 b.toW (CG hn m y _ t)
theorem EA{E:eI S}(K:fF E){call:gD S}(e:gT E.T.E.P call){ops:Array Oper}{ω:Type}{kp:cr S->V S->bx S->O ω}{kk:cr S->bx S->O ω}{r:ω}{Q:Exit->Act->az->Prop}{rr:O Nat}(q:rr≠Y->∀o∈ops.toList,∀c,o.op≠.defer c) :
  ∀(l:L Oper)(k:Nat),ops.toList.drop k=l->∀{fr:cr S}{s:bx S}{a:Act}{g:Gh}{w:az},fr.n<=bO->Vh E call ops.toList kp kk l fr s=Z r->cZ g (bM fr) a w->bg g (aF s) w->
   (∀fr' s' g' a' w',kk fr' s'=Z r->fr'.n=fr.n->cZ g' (bM fr') a' w'->eO s g w s' g' w'->dB (l.filterMap (·.dst)) fr fr' s'.dr s.aH->Q .normal a' w')->
   (∀fr' t s' g' a' v w',kp fr' t s'=Z r->fr'.n=fr.n->cZ g' (bM fr') a' w'->eO s g w s' g' w'->dB (l.filterMap (·.dst)) fr fr' s'.dr s.aH->aL g' w' (low t) v->Q (.panic [{v,recovered:=J}]) a' w')->
   xP rr E.T.E.P ops Q (List.range' k l.length) a w:=by
 intro l
 induction l with
 |nil=>intro k _ fr s a g w _ h u x y _;exact y fr s g a w h rfl u (eO.refl x) (dB.refl _ _ _ _)
 |cons o l P=>
  intro k F fr s a g w R h u x y I;have hk:ops[k]?=Z o:=by
   have:=eC (λm=>m[0]?) F
   grind
  have z:ops.toList.drop (k+1)=l:=by
   have:=eC (List.drop 1) F
   grind[List.drop_drop]
  rw[l5,List.range'_succ];unfold xP;simp[hk];have tail:∀{fr' b:cr S}{s' d:bx S}{g':Gh}{w':az},eO s g w s' g' w'->dB o.dst.toList fr fr' s'.dr s.aH->(∀o∈s'.dr,o∈d.dr)->dB (l.filterMap (·.dst)) fr' b d.dr s'.aH->dB ((o::l).filterMap (·.dst)) fr b d.dr s.aH:=by
   intro fr' b s' d g' w' h4 h5 h6 n;have:=h5.trans n h6 h4.aH
   grind
  refine MS K e R u x h (λfr' s' g' a' w' h1 h2 h3 h4 h5=>?_) (λt s' g' v w' h1 h2 h3 h4=>I fr t s' g' a v w' h1 rfl h2 h3 (dB.refl _ _ _ _) h4) λhr=>q hr o (by grind);exact P (k+1) z (by omega) h1 h3 h4.rel (λb d f i j A B C p n=>y b d f i j A (B.trans h2) C (h4.trans p) (tail h4 h5 p.Ik n)) (λb t d f i v' j A B C p n k6=>I b t d f i v' j A (B.trans h2) C (h4.trans p) (tail h4 h5 p.Ik n) k6)
end
section
def Yu(a:Act)(w:az)(c:Nat):O aD:=bif Nt c 1000000 then a.tmps[c]? else match a.tmps[Nat.div (Nat.sub c 1000000) 1000]? with
 |some (.pointer (Z b))=>match w.heap[b.block]? with
  |some (.cells d _ _)=>d[Nat.mod (Nat.sub c 1000000) 1000]?|_=>Y
 |_=>Y
theorem Gg{g:Gh}{w:az}{fr:cr S}{s:bx S}{a:Act}(hf:cZ g (bM fr) a w)(hs:bg g (aF s) w){c:Nat}{v:V S}(h:Yt fr s c=Z v):∃u,Yu a w c=Z u/\aL g w (low v) u:=by
 unfold Yt at h;unfold Yu;cases i:Nt c 1000000 with
 |true=>
  rw[i,iq]at h
  let ⟨u,e,f⟩:=hf.tm c (low v) (by rw[cq,h];rfl)
  exact⟨u,e,f⟩
 |false=>
  rw[i,jP]at h;split at h;rename_i o k;split at h
  .rename_i cs l;obtain⟨u,e,f⟩:=hf.tm _ (low (.ptr o 0)) (by rw[cq,k];rfl);cases f with
   |ptr _ _ b m=>
   let ⟨n,ty,p,q,d⟩:=(hs.box o b m).box (cs:=bI cs) (by rw[aN,l];rfl)
   have h1:=FA h;have h2:∃x,n[Nat.mod (Nat.sub c 1000000) 1000]?=Z x:=by have:=(Wt.1 h1).1;exact⟨_,uS (by omega)⟩
   let ⟨x,j⟩:=h2
   exact⟨x,by simp only[jP,e,p,j],d _ _ _ h1 j⟩
  cases h;cases h
def acA(a:Act)(w:az)(al:L (Nat×Nat)):Prop:=∀p∈al,a.tmps[p.1]?=Yu a w p.2
theorem mJ{g:Gh}{w:az}{a:Act}{s:bx S}(hs:bg g (aF s) w):∀{al:L (Nat×Nat)}{fr:cr S},(∀p∈al,p.1<bO)->acA a w al->cZ g (bM fr) a w->
  cZ g (bM (m9 s al fr)) a w/\(m9 s al fr).n=fr.n/\(m9 s al fr).df=fr.df/\∀k,k∉al.map (·.1)->(m9 s al fr).get k=fr.get k
 |[],fr,_,_,c=>⟨c,rfl,rfl,λ_ _=>rfl⟩|p::al,fr,e,f,c=>by
  have d:=e p eN;have n:=f p eN;simp only[m9];cases o:Yt fr s p.2 with
  |none=>
   let ⟨h1,h2,h3,h4⟩:=mJ hs (fr:=fr) (λq b=>e q (ie _ b)) (λq b=>f q (ie _ b)) c
   simp_all
  |some v=>
   have h:cZ g (bM (fr.put p.1 v)) a w:=by
    refine⟨c.size,c.df,λj t i=>?_⟩;rw[cq,cr.ke _ _ _ _ d]at i;by_cases l:j=p.1
    grind[Gg]
    rw[bS l]at i;exact c.tm j t (by rw[cq];exact i)
   let ⟨h1,h2,h3,h4⟩:=mJ hs (fr:=fr.put p.1 v) (λq b=>e q (ie _ b)) (λq b=>f q (ie _ b)) h
   refine⟨h1,h2,h3,λk m=>?_⟩;simp only[o7,gn,not_or]at m;rw[h4 k m.2,cr.ke _ _ _ _ d,bS m.1]
def Ci.m9{sh:Sh}{bs:L Nat}{a:Act}{gb:Gh}{kf c:cr S}{s0 b:bx S}{w:az}{d:L fy}{e:Gh}(h:Ci [] sh bs a gb kf s0 w d e c b){al:L (Nat×Nat)}(f:∀p∈al,p.1<bO)(g:acA a w al) :
  Ci (al.map (·.1)) sh bs a gb kf s0 w d e (TL.m9 b al c) b:=by
 let ⟨h1,h2,h3,h4⟩:=mJ h.rel f g h.fr
 exact⟨h.rel,h1,h.le,h.bF,h.own,h.fl,h.lo,h.aH,h.wr,h.dr,h.ob,h.bX,h.arr,h2.trans h.n,h3.trans h.Qj,λk i j=>(h4 k i).trans (h.get k (by simp) j)⟩
variable {a:Act}{w:az}{al:List (Nat×Nat)}
def yK{g:Gh}{fr:cr S}{s:bx S}(hf:cZ g (bM fr) a w)(hs:bg g (aF s) w)(h:XK fr s al=W):acA a w al:=by
 intro p k;unfold XK at h;rw[kU]at h;have h1:=h p k;split at h1
 .rename_i o r t u l m;rw[eX]at h1;obtain rfl:=beq_iff'.1 h1.1;obtain rfl:=beq_iff'.1 h1.2;obtain⟨v,c,d⟩:=hf.tm p.1 (low (.sh o r)) (by rw[cq,l];rfl)
  let ⟨y,e,f⟩:=Gg hf hs m
  cases d with
  |sh _ _ len cap sz x n=>
  cases f with|sh _ _ i j q z b=>rw[n]at b;cases b;rw[c,e]
 cases h1
theorem QJ{fr:cr S}{ow:L Nat}{al:L (Nat×Nat)}(h:ae4 fr ow al=W){p:Nat×Nat}(a:p∈al){v:V S}(b:fr.get p.1=Z v):∃o r,v=.sh o r/\o∈ow:=by
 unfold ae4 at h
 grind
end
section
inductive JV(g:Gh)(w:az):vT S->Exit->Prop where
 |su:JV g w .su .normal|ext (i:Nat):JV g w (.ext i) (.exit i)|ret:JV g w .ret .ret|iN (t:V S) (v:aD) (h:aL g w (low t) v):JV g w (.iN t) (.panic [{v,recovered:=J}])
def JR(ds:L Nat)(fr:cr S)(s:bx S)(g:Gh)(w:az){ω:Type}(Q:vT S->cr S->bx S->O ω)(r:ω)(e:Exit)(a:Act)(w':az):Prop:=
 False\/∃ex fr' s' g',JV g' w' ex e/\Q ex fr' s'=Z r/\fr'.n=fr.n/\cZ g' (bM fr') a w'/\eO s g w s' g' w'/\dB ds fr fr' s'.dr s.aH
theorem JR.mono{ds c:L Nat}{fr uh:cr S}{s s1:bx S}{g f:Gh}{w w1:az}{ω:Type}{Q:vT S->cr S->bx S->O ω}{r:ω}{e:Exit}{a:Act}{w':az}(hn:uh.n=fr.n)(b:eO s g w s1 f w1)(hf:dB ds fr uh s1.dr s.aH)
  (h:JR c uh s1 f w1 Q r e a w'):JR (ds++c) fr s g w Q r e a w':=by
 obtain h|⟨i,d,j,k,h1,h2,h3,h4,h5,h6⟩:=h
 exact .inl h;exact .inr ⟨i,d,j,k,h1,h2,h3.trans hn,h4,b.trans h5,hf.trans h6 h5.Ik b.aH⟩
def JR.ds{ds b:L Nat}{fr:cr S}{s:bx S}{g:Gh}{w:az}{ω:Type}{Q:vT S->cr S->bx S->O ω}{r:ω}{e:Exit}{a:Act}{w':az}(d:∀k∈ds,k∈b)(h:JR ds fr s g w Q r e a w'):JR b fr s g w Q r e a w':=by
 obtain h|⟨f,c,i,j,h1,h2,h3,h4,h5,h6⟩:=h
 exact .inl h;exact .inr ⟨f,c,i,j,h1,h2,h3,h4,h5,h6.mono d (λ_ h=>h)⟩
theorem WV(p:Nat->Prop)(h:∃n,p n):∃n,p n/\∀m,p m->n<=m:=by
 let ⟨n,a⟩:=h
 induction n using Nat.strongRecOn with
 |_ n b=>
  grind
theorem W7{X R B P:Type}{F:X->O (LO X R B P)}:∀{n:Nat}{x:X}{o:LO X R B P},iter F n x=Z o->∃m,n=m+1/\∃a,F x=Z a/\((∃y,a=.next y/\iter F m y=Z o)\/(a=o/\∀y,o≠.next y))
 |0,_,_,h=>by cases h
 |_+1,x,o,h=>by
  simp[iter]at h
  grind
structure xY(sh:Sh)(bs:List Nat)(kf:cr S)(s0 s:bx S)(g:Gh)(w:az)(x:gp S.A (lY sh))(a:Act)(gb:Gh)(w':az)(vals:List aD)(al:List fy)(bl:List Nat):Prop where
 rel:bg gb (aF s0) w'
 fr:cZ gb (bM kf) a w'
 pr:rY S gb.bF w' (lY sh) x vals al bl
 at_:ja a sh vals
 Ji:PW (λo b=>gb.bX o=Z b) bs bl
 Zz:∀o∈bs,∀e,gb.arr o e=Y
 fresh:∀a∈al,∀b,a.at b->∀o,¬bL gb o b
 ap:yb al
 ext:o4 s.lo s.fl g w gb w'
 alo:∀a∈al,∀b,a.at b->(∃o,s.fl<=o/\bL g o b)\/w.heap.size<=b
variable {w':az}
def xY.head{sh:Sh}{bs:L Nat}{kf f:cr S}{s0 s i:bx S}{g:Gh}{w:az}{x:gp S.A (lY sh)}{a:Act}{gb:Gh}{vals:L aD}{al:L fy}{bl:L Nat}
  (c:xY sh bs kf s0 s g w x a gb w' vals al bl) (hn:kf.n<=bO) (h:nJ sh bs x kf s0=Z (f,i)) :
  ∃j,Ci [] sh bs a gb kf s0 w' al j f i/\o4 s.lo s.fl g w j w':=by
 let ⟨j,d⟩:=xd h hn c.pr c.at_ c.Ji c.Zz c.fresh c.ap c.fr c.rel
 refine⟨j,d,λo b e=>?_,λo e y q k=>?_,λb e=>?_,c.ext.size,c.ext.heap,λo b r l=>?_,λb p=>?_,c.ext.os,c.ext.output⟩;exact d.le.bX o b (c.ext.bX o b e);exact d.le.arr o e y (c.ext.arr o e y q k);exact d.le.bF b (c.ext.bF b e);obtain l|⟨_,t,m,n⟩:=d.own o b l
 exact c.ext.own o b r l;exact c.alo t m b n;rw[d.bF]at p;exact c.ext.oN b p
theorem aa4(P:Nat->aa)(d:tG S):eL (cQ P) (eL (cQ P) d)=eL (cQ P) d:=by
 cases d with
 |call f args=>
  simp[eL]
  grind
 |mark o=>
  simp[eL]
  grind
 |marks o=>
  simp[eL]
  grind
 |_=>rfl
def aeN{P Q:Nat->aa}(c:∀o,Q o=W->P o=W):∀{l m:L (tG S)},qB Q (l.map (eL (cQ P))) m->m=l.map (eL (cQ P)):=by
 intro l
 induction l with
 |nil=>intro m h;cases h;rfl
 |cons d l g=>
  intro m h;cases h with
  | @cons _ e _ _ i j=>
  rw[o7,g j]
  congr 1
  obtain rfl|⟨h1,k⟩:=i
  rfl;have a:=oT c _ k;cases d with
  |call f args=>
   simp[eL]at a h1 ⊢;cases b:cQ P f||args.any (cQ P)with
   |true=>
    rw[b]at h1;obtain⟨h1,_⟩|⟨_,h1⟩:=h1
    exact h1;cases h1
   |false=>
    simp_all[s6]
  |mark o=>
   simp[eL]at a h1 ⊢;cases b:cQ (S:=S) P (.ptr o 0)with
   |true=>
    rw[b]at h1;obtain⟨h1,_⟩|⟨_,h1⟩:=h1
    exact h1;cases h1
   |false=>
    simp_all[s6]
  |marks o=>
   simp[eL]at a h1 ⊢;cases b:cQ (S:=S) P (.sh o 0)with
   |true=>
    rw[b]at h1;obtain⟨_,h1⟩|⟨h1,_⟩:=h1
    cases h1;exact h1
   |false=>
    simp_all[s6]
  |kO=>
   obtain⟨_,h1⟩|⟨h1,_⟩:=h1
   cases h1;exact h1
  |bad=>
   obtain⟨h1,_⟩|⟨_,h1⟩:=h1
   exact h1;cases h1
theorem aeO{g g':Gh}{w w':az}{P:Nat->aa}(b:∀t v,aL g w t v->dQ P t=J->aL g' w' t v){l:L (tG S)}{a:L Deferred}(c:eW g w ((l.map (eL (cQ P))).map mP) a) :
  eW g' w' ((l.map (eL (cQ P))).map mP) a:=by
 have h:=g7 (S:=S) (p:=cQ P) (q:=dQ P) (λv=>iC P v) (λ_ _=>rfl) (l.map (eL (cQ P)));have e:(l.map (eL (cQ P))).map (eL (cQ P))=l.map (eL (cQ P)):=by
  grind[List.map_congr_left,aa4]
 rw[e]at h;exact iJ.rel b h c
section
variable {sh:Sh}{bs ow ds:List Nat}{fr:cr S}{s s1:bx S}{g:Gh}{w:az}{a:Act}
theorem Vy(a:∀d∈ds,d<bO)(k:Nat):(cR ds ow bs fr s1).1.get k=if k∈ds then Y else(fr.get k).filter (λv=>!(cQ (dU ow s1.aH) v)):=by show((ds.foldl (λt k=>t.del aP k) fr.tm).keep _).get k=_;rw[Tr.oP,Tr.oQ ds _ k a];split;rfl;rfl
theorem BU(a:∀d∈ds,d<bO){k:Nat}{v:V S}(h:(cR ds ow bs fr s1).1.get k=Z v):k∉ds/\fr.get k=Z v/\cQ (dU ow s1.aH) v=J:=by
 grind[Vy,Option.filter_eq_some_iff]
theorem IA(hf:cZ g (bM fr) a w)(hs:bg g (aF s) w)(C:∀d∈ds,d<bO){x:gp S.A (lY sh)}{m:Gh}{vals:L aD}{al:L fy}{bl:L Nat}
  (c:IP sh bs a g s w x s1 ow m vals al bl):xY sh bs (cR ds ow bs fr s1).1 (cR ds ow bs fr s1).2 s g w x a (m.base (dU ow s1.aH)) w vals al bl:=by
 have r:∀b∈bs,b<bO:=λb i=>by exact iW (c.Vv b i).2.1 hs.aH
 have n:∀o,o∉ow->o<s.aH->dU ow s1.aH o=J:=λo h1 h2=>qh h1 (c.aH▸h2);have l:=c.alr.owned c.pr.iQ;refine⟨c.rel.base (λo q=>?_) rfl (eP _) (λo ob hpo f=>?_),⟨hf.size,(g7 (λv=>iC (dU ow s1.aH) v) (λ_ _=>rfl) fr.df).rel (λt v ht z=>(ht.ext c.ext hs.bF).on (m.gR _) (λ_ _=>rfl) z) hf.df,λk t R=>?_⟩,c.pr,c.at_,⟨c.Ji.1,λj o b h1 h2=>?_⟩,λo q e=>?_,λE F b i o A=>?_,c.ap,⟨λo b i=>?_,λo e y hl hy=>?_,c.ext.bF,eP _,λ_ _ _=>rfl,λo b q A=>?_,c.ext.oN,rfl,rfl⟩,λE F b i=>?_⟩;simp only[dU,o8];exact .inr (OD q);rw[aN,uz r]at f;split at f;cases f;rw[GM,gi]at f;obtain⟨B,I,rfl⟩:=f;exact⟨dj B,by rw[aN,I];rfl,mc _ B⟩;rw[cq,gi]at R;obtain⟨v,I,rfl⟩:=R
 let ⟨_,h2,h3⟩:=BU C I
 let ⟨u,hu,hr⟩:=hf.tm k (low v) (by rw[cq,h2];rfl)
 exact⟨u,hu,(hr.ext c.ext hs.bF).on (m.gR _) (λ_ _=>rfl) (by rw[iC];exact h3)⟩;have f:=iG h1;have:=c.Vv o f;exact(m.gR _).bX o b (n o this.2.2.1 this.2.1) (c.Ji.2 j o b h1 h2);simp only[Gh.base];split;exact(c.Vv o q).2.2.2 e;rfl
 let ⟨h1,h2⟩:=Gh.fW A
 let ⟨o',K,P⟩:=l E F b i
 have:=c.rel.kj o o' b h2 P;subst this;exact(mw h1).1 K;have p:=hs.lt i;exact(m.gR _).bX o b (n o (λz=>by rw[c.owb o z]at i;cases i) p) (c.ext.bX o b i);have p:=hs.lt' hy;exact(m.gR _).arr o e y (n o (λz=>by have:=(c.Zr o z).2.1;omega) p) (c.ext.arr o e y hy);obtain h|h:=c.ext.own o b (Gh.fW A).2
 grind
 omega
 let ⟨o,q,A⟩:=l E F b i
 obtain h|h:=c.ext.own o b A
 exact .inl ⟨o,(c.Zr o q).1,h⟩;omega
theorem Tl{ex:L Nat}{v:Sh}{kf:cr S}(hds:∀d∈ds,d<bO)(i:∀b∈bs,b<s1.aH/\b∉ow)(E:s1.aH<=bO)(hlo:s.lo<=s1.aH)(how:∀o∈ow,s.lo<=o)(F:∀o b,g.bX o=Z b->o<s1.aH/\o∉ow)(I:s1.lo=s.lo)(K:s1.fl=s.fl)
  {a':Act} {w':az} {al:L fy} {gb gh:Gh} {CZ:cr S} {k:bx S}
  (P:o4 s.lo s.fl g w gh w') (hh:Ci ex sh bs a' gb (cR ds ow bs fr s1).1 (cR ds ow bs fr s1).2 w' al gh CZ k)
  {s2 n:bx S} {g2 z:Gh} {a2:Act} {C:az} (h:eO k gh w' s2 g2 C)
  {x:gp S.A (lY v)} {A:L Nat} {vals:L aD} {R:L fy} {bl2:L Nat} (f:IP v bs a2 g2 s2 C x n A z vals R bl2)
  (hwr:VY s1.aH bs n.wr=W) (alV:A.all (λo=>Nl s1.aH o)=W) (hdr:n.dr.all (λo=>Nl s1.aH o)=W) (hfr:cZ (z.base (dU ow s1.aH)) (bM kf) a2 C) :
  xY v bs kf (cR ds ow bs fr s1).2 s g w x a2 (z.base (dU ow s1.aH)) C vals R bl2:=by
 have l:∀b∈bs,b<bO:=λb m=>iW (i b m).1 E;have p:(cR ds ow bs fr s1).2.aH=s1.aH:=rfl;have hlen:s1.aH<=k.aH:=p▸hh.aH;have how2':∀o∈A,s1.aH<=o:=λo q=>by
  simp_all
 have hwr':∀o∈n.wr,s1.aH<=o\/o∈bs:=λo q=>by
  simp_all[VY]
 have r:=f.alr.owned f.pr.iQ;have t:k.fl=s.fl:=hh.fl.trans (show(cR ds ow bs fr s1).2.fl=s.fl from K);have ahX:k.lo=s.lo:=hh.lo.trans (show(cR ds ow bs fr s1).2.lo=s.lo from I);have B:o4 s.lo s.fl g w g2 C:=P.trans (t▸ahX▸h.ext);have aas:s2.fl=s.fl:=h.fl.trans t;have a:o4 s.lo s.fl g w z C:=B.trans (aas▸f.ext.Jn s.lo);refine⟨f.rel.base (aH:=s1.aH) (λo q=>?_) rfl ?_ (λo ob hpo c=>?_),hfr,f.pr,f.at_,⟨f.Ji.1,λj o b h1 h2=>?_⟩,λo q e=>?_,λa' ha b m o hO=>?_,f.ap,⟨λo b m=>?_,λo e y hl hy=>?_,a.bF,a.size,a.heap,λo b q hO=>?_,a.oN,a.os,a.output⟩,λa' ha b m=>?_⟩
 simp_all[dU]
 have e1:(aF n).aH=n.aH:=rfl;have:=h.aH;have:=f.aH;omega;rw[aN,uz l]at c;split at c;cases c;rename_i hnb;rw[GM,gi]at c;obtain⟨vob,hv,rfl⟩:=c;have u:=(mw hpo).2;have hnw:o∉n.wr:=λhm=>by
  grind
 have asp:o∉s2.wr:=λhm=>hnw (f.uF o hm);have e1:n.ob.get o=Z (fq (dU ow s1.aH) vob):=by rw[f.same o hnw,h.same o (iW u hlen) asp,hh.ob o (p▸u) hnb,uz l,bS hnb,hv];rfl
 grind[aN,Is]
 have c:=iG h1;exact(z.gR _).bX o b (qh (i o c).2 (i o c).1) (f.Ji.2 j o b h1 h2);simp only[Gh.base];split;exact(f.Vv o q).2.2.2 e;rfl
 let ⟨h1,h2⟩:=Gh.fW hO
 let ⟨o',ho',Xk⟩:=r a' ha b m
 have:=f.rel.kj o o' b h2 Xk
 grind[mw]
 exact(z.gR _).bX o b (qh (F o b m).2 (F o b m).1) (a.bX o b m);exact(z.gR _).arr o e y (qh (λhm=>by grind) (by omega)) (a.arr o e y hl hy);exact a.own o b q (Gh.fW hO).2
 let ⟨o,q,hO⟩:=r a' ha b m
 exact a.own o b (by have:=(f.Zr o q).1;omega) hO
def ja.tmps{a a':Act}(h:a'.tmps=a.tmps):∀{sh:Sh}{vs:L aD},ja a sh vs->ja a' sh vs
 |[],[],_=>trivial|(_,.one _)::_,_::_,k=>⟨by rw[h];exact k.1,ja.tmps h k.2⟩
 |(_,.box _)::l,_::_,k=>ja.tmps (sh:=l) h k|(_,.hid _)::l,_,k=>ja.tmps (sh:=l) h k|[],_::_,k=>k.elim|(_,.one _)::_,[],k=>k.elim|(_,.box _)::_,[],k=>k.elim
theorem eW.split{g:Gh}{w:az}:∀{l1 l2:L Df}{m:L Deferred},eW g w (l1++l2) m->∃a b,m=a++b/\eW g w l1 a/\eW g w l2 b
 |[],_,m,h=>⟨[],m,rfl,.nil,h⟩|_::l1,l2,_,.cons h t=>by obtain⟨a,b,rfl,h1,h2⟩:=eW.split (l1:=l1) (l2:=l2) t;exact⟨_::a,b,rfl,.cons h h1,h2⟩
 |_::l1,l2,_,.marks o bs c h t=>by obtain⟨a,b,rfl,h1,h2⟩:=eW.split (l1:=l1) (l2:=l2) t;exact⟨_++a,b,(wv _ _ _).symm,.marks o bs c h h1,h2⟩
 |_::l1,l2,_,.kO d t=>by obtain⟨a,b,rfl,h1,h2⟩:=eW.split (l1:=l1) (l2:=l2) t;exact⟨_++a,b,(wv _ _ _).symm,.kO d h1,h2⟩
def eW.one{g:Gh}{w:az}:∀{os:L Nat}{m:L Deferred},eW g w (os.map Df.mark) m->∃bl,PW (λo b=>g.bX o=Z b) os bl/\m=bl.map λb=>{target:=.collected b,args:=#[]}
 |[],_,.nil=>⟨[],⟨rfl,λj o b h=>by simp at h⟩,rfl⟩
 |o::os,_,.cons h t=>by
  obtain⟨bl,h1,rfl⟩:=eW.one t;cases h with
  |mark _ b f=>
  refine⟨b::bl,⟨by simp[h1.1],λj a c d e=>?_⟩,rfl⟩;cases j with|zero=>simp_all|succ j=>exact h1.2 j a c (by simpa using d) (by simpa using e)
theorem bg.QM{s:St}{w:az}{o:Nat}(m:s.ob.get o=Z .Hj)(u:o<s.aH):∀(bl:L Nat){g:Gh},bg g s w->bl.Nodup->(∀b∈bl,b<w.heap.size/\¬g.bF b/\(∀k,¬bL g k b)/\w.heap[b]?=Z (.deferred (Z [])))->
  ∃g',bg g' s w/\nD g g'/\g'.bX=g.bX/\g'.bF=g.bF/\(∀k,k≠o->g'.arr k=g.arr k)/\(∀k b,bL g' k b->bL g k b\/(k=o/\b∈bl))/\∀b∈bl,g'.arr o b=Z ⟨Z ⟨b,0,Y⟩,0,1,0⟩
 |[],g,f,_,_=>⟨g,f,nD.refl _,rfl,rfl,λ_ _=>rfl,λ_ _ h=>.inl h,λb v=>by cases v⟩
 |b::bl,g,f,hn,v=>by
  let ⟨b1,b2,b3,b4⟩:=v b eN
  have z:g.arr o b=Y:=by
   cases i:g.arr o b with
   |none=>rfl|some x=>
    exfalso;obtain⟨A,_,_,h,_⟩|⟨_,_,_,_,_,_,h,_⟩|⟨_,_,_,h,_⟩|h|⟨_,h1,h2,h3,_⟩:=(f.arr o b x i).2 _ m
    cases A<;>cases h;cases h;cases h;cases h;exact b3 o ⟨h3,.inr ⟨b,x,_,i,h1,rfl,h2⟩⟩
  let r:Gh:={g with arr:=λk e=>if k=o/\e=b then Z ⟨Z ⟨b,0,Y⟩,0,1,0⟩else g.arr k e}
  have j:∀k e y,g.arr k e=Z y->r.arr k e=Z y:=λk e y h=>by
   grind
  have n:nD g r:=⟨λ_ _ h=>h,j,λ_ h=>h⟩;have l:∀k c,bL r k c->bL g k c\/(k=o/\c=b):=by
   rintro k c ⟨h1,h2|⟨e,x,F,h2,h3,h4,h5⟩⟩
   exact .inl ⟨h1,.inl h2⟩;by_cases d:k=o/\e=b
   grind
   have h2:(if k=o/\e=b then Z ⟨Z ⟨b,0,Y⟩,0,1,0⟩else g.arr k e)=Z x:=h2;rw[bS d]at h2;exact .inl ⟨h1,.inr ⟨e,x,F,h2,h3,h4,h5⟩⟩
  have B:bg r s w:=by
   refine⟨f.aH,λk d=>⟨(f.aj k d).1,λe=>?_⟩,λk c p=>?_,λk e x i=>?_,f.bF,λk I c h h'=>?_⟩;show(if k=o/\e=b then _ else g.arr k e)=_;rw[bS (λh=>by omega)];exact(f.aj k d).2 e
   let ⟨C,t,k3⟩:=f.box k c p
   exact⟨C,t,λob a=>let ⟨x,h1,h2⟩:=k3 ob a;⟨x,h1,h2.imp λ_ _ ht=>ht.le n⟩⟩;by_cases d:k=o/\e=b;have i:(if k=o/\e=b then Z ⟨Z ⟨b,0,Y⟩,0,1,0⟩else g.arr k e)=Z x:=i;rw[bH d]at i;cases i;obtain⟨rfl,rfl⟩:=d;refine⟨λF ha _=>by grind,λob a=>?_⟩;rw[m]at a;cases a;exact .inr (.inr (.inr (.inr ⟨rfl,rfl,by simp,b2,b4⟩)));have E:g.arr k e=Z x:=by have i:(if k=o/\e=b then Z ⟨Z ⟨b,0,Y⟩,0,1,0⟩else g.arr k e)=Z x:=i;rwa [bS d]at i
   let ⟨C,t⟩:=f.arr k e x E
   refine⟨C,λob a=>?_⟩;by_cases q:k=o;subst q;rw[m]at a;cases a;obtain⟨A,_,_,h,_⟩|⟨_,_,_,_,_,_,h,_⟩|⟨_,_,_,h,_⟩|h|h:=t _ m
   cases A<;>cases h;cases h;cases h;cases h;exact .inr (.inr (.inr (.inr h)));exact(t ob a).tr (λh=>h.kJ rfl) j (funext λK=>by show(if k=o/\K=b then _ else g.arr k K)=_;rw[bS (λh=>q h.1)]) (λ_ _ _=>⟨rfl,wu⟩);obtain P|⟨P,e2⟩:=l k c h
   obtain R|⟨R,e4⟩:=l I c h'
   exact f.kj k I c P R
   simp_all
   grind
  let ⟨g',q1,S,q3,q4,q5,q6,q7⟩:=B.QM m u bl (Ov.1 hn).2 (λc p=>by
   grind)
  refine⟨g',q1,n.trans S,q3,q4,λk d=>(q5 k d).trans (funext λe=>by show(if k=o/\e=b then _ else g.arr k e)=_;rw[bS (λh=>d h.1)]),λk c hO=>?_,λc p=>?_⟩
  grind
  obtain rfl|p:=gn.1 p
  exact S.arr o c _ (by show(if o=o/\c=c then _ else g.arr o c)=_;rw[bH ⟨rfl,rfl⟩])
  grind
def Marks(aH fl:Nat)(base:cr S×bx S)(c:cr S)(g:Gh)(w:az):Prop:=
 ∃os d,c.df=os.map tG.mark++d/\d.length=base.1.df.length/\os.Nodup/\(∀o∈os,aH<=o/\∀b,g.bX o=Z b->w.heap[b]?=Z (.deferred (Z [])))/\
  (os=[]\/∃a rest,base.1.df=.marks a::rest/\base.2.ob.get a=Z .Hj/\a<aH/\fl<=a)
theorem Marks.mono{aH fl:Nat}{base:cr S×bx S}{c:cr S}{g g':Gh}{w:az}{a:Act}(h:Marks aH fl base c g w)(hf:cZ g (bM c) a w)(v:∀o b,g.bX o=Z b->g'.bX o=Z b):Marks aH fl base c g' w:=by
 let ⟨os,d,l,n,p,q,r⟩:=h
 refine⟨os,d,l,n,p,λo m=>⟨(q o m).1,λb x=>?_⟩,r⟩;have e:=hf.df;rw[show(bM c).df=(os.map tG.mark).map mP++d.map mP from by show c.df.map mP=_;rw[l,Kb]]at e
 let ⟨y,z,_,f,_⟩:=e.split
 rw[List.map_map,show(mP∘tG.mark:Nat->Df)=Df.mark from rfl]at f
 let ⟨s,j,_⟩:=f.one
 obtain⟨i,t,rfl⟩:=sd m;have k:i<s.length:=by have:=j.1;omega
 have u:=j.2 i _ _ (iZ t) (iZ k)
 grind
def Eo{aH:Nat}{s:bx S}{g:Gh}{w:az}(hs:bg g (aF s) w):∀{l:L (tG S)}{os:L Nat},uZ aH s l=Z os->l=os.map tG.mark/\∀o∈os,aH<=o/\∀b,g.bX o=Z b->w.heap[b]?=Z (.deferred (Z []))
 |[],os,h=>by simp only[uZ,gV]at h;subst h;exact⟨rfl,λo f=>by cases f⟩
 |.mark o::l,os,h=>by
  simp[uZ]at h;split at h;rename_i i;obtain⟨j,h⟩|⟨_,h⟩:=ah h
  split at h;rename_i c;simp at h;subst h
  let ⟨h1,h2⟩:=Eo hs c
  refine⟨by rw[h1];rfl,λe a=>?_⟩;obtain rfl|a:=gn.1 a
  refine⟨gY j,λb d=>?_⟩
  let ⟨x,k,c⟩:=(hs.box e b d).2.2 .AG (by rw[aN,i];rfl)
  cases c;exact k;exact h2 e a;iterate 3 cases h
 |.call _ _::_,_,h=>by simp[uZ]at h
 |.marks _::_,_,h=>by simp[uZ]at h
 |.kO::_,_,h=>by simp[uZ]at h
 |.bad::_,_,h=>by simp[uZ]at h
theorem AW{aH:Nat}{base:cr S×bx S}{fr':cr S}{s':bx S}{g:Gh}{w:az}(hs:bg g (aF s') w)(h:RK aH base fr' s'=W):Marks aH s'.fl base fr' g w:=by
 unfold RK at h;split at h;rotate_left;cases h;rename_i os a;simp only[eX,o8]at h
 let ⟨h1,h2,h3⟩:=h
 let ⟨b,c⟩:=Eo hs a
 have h2:=beq_iff'.1 h2;rw[bZ,bZ,bZ]at h2;refine⟨os,fr'.df.drop (Nat.sub (cM fr'.df) (cM base.1.df)),by rw[<-b,YO],?_,mz h1,c,?_⟩
 grind[bZ]
 obtain h3|h3:=h3
 simp_all
 right
 unfold akw at h3;split at h3;split at h3
 simp_all
 cases h3;cases h3
def Li{ex:L Nat}(asW:∀k∈ex,k∈ds){RG:Sh}(hds:∀d∈ds,d<bO)(Xg:∀b∈bs,b<s1.aH/\b∉ow)(aef:s1.aH<=bO)(hlo:s.lo<=s1.aH)(how:∀o∈ow,s.lo<=o)(hgb:∀o b,g.bX o=Z b->o<s1.aH/\o∉ow)(hsh:Gn ds sh=W)(amM:s1.lo=s.lo)(amN:s1.fl=s.fl)
  {a':Act} {w':az} {al:L fy} {gb gh:Gh} {CZ:cr S} {p:bx S}
  (Xd:o4 s.lo s.fl g w gh w') (hh:Ci ex sh bs a' gb (cR ds ow bs fr s1).1 (cR ds ow bs fr s1).2 w' al gh CZ p)
  {A:cr S} {s2 s3:bx S} {g2 E:Gh} {a2:Act} {B:az} (m:eO p gh w' s2 g2 B) (hf2:cZ g2 (bM A) a2 B) (hfo:dB ds CZ A s2.dr p.aH) (hn2:A.n=CZ.n) (hmk:Marks s1.aH s.fl (cR ds ow bs fr s1) A g2 B)
  {x:gp S.A (lY RG)} {NQ:L Nat} {vals:L aD} {Cb:L fy} {bl2:L Nat} (f:IP RG bs a2 g2 s2 B x s3 NQ E vals Cb bl2)
  (hwr:VY s1.aH bs s3.wr=W) (alV:NQ.all (λo=>Nl s1.aH o)=W) (hdr:s3.dr.all (λo=>Nl s1.aH o)=W) :
  ∃F,xY RG bs (cR ds ow bs fr s1).1 (cR ds ow bs fr s1).2 s g w x a2 F B vals Cb bl2/\F.bF=E.bF:=by
 have amA:∀b∈bs,b<bO:=λb hb=>iW (Xg b hb).1 aef;have ar0:(cR ds ow bs fr s1).2.aH=s1.aH:=rfl;have hlen:s1.aH<=p.aH:=ar0▸hh.aH;have amv:∀o∈s2.dr,s1.aH<=o:=λo ho=>by rw[kU]at hdr;exact gY (hdr o (f.dr▸ho))
 have E3:=f.alr.owned f.pr.iQ;have amo:p.fl=s.fl:=hh.fl.trans (show(cR ds ow bs fr s1).2.fl=s.fl from amN);have ahX:p.lo=s.lo:=hh.lo.trans (show(cR ds ow bs fr s1).2.lo=s.lo from amM);have amq:o4 s.lo s.fl g w g2 B:=Xd.trans (amo▸ahX▸m.ext);have aas:s2.fl=s.fl:=m.fl.trans amo;have amp:o4 s.lo s.fl g w E B:=amq.trans (aas▸f.ext.Jn s.lo);have hQ:∀o,dU s2.dr p.aH o=W->dU ow s1.aH o=W:=λo ho=>by
  simp only[dU,o8,GJ,ri]at ho ⊢;obtain ho|ho:=ho
  exact .inr (OD (amv o ho));have:=gY ho;exact .inr (OD (by omega))
 have hT:∀t v,aL g2 B t v->dQ (dU ow s1.aH) t=J->aL (E.base (dU ow s1.aH)) B t v:=λt v ht hm=>(ht.ext f.ext m.rel.bF).on (E.gR _) (λ_ _=>rfl) hm
 let ⟨os,d,e1,e2,asf,I,Ew⟩:=hmk
 have asZ:qB (dU s2.dr p.aH) (cR ds ow bs fr s1).1.df d:=by
  let ⟨c,d',k1,k2⟩:=hfo.df
  have hl:=k2.len;rw[hh.Qj]at hl k2;have hdd:d'=d:=by have h1:c++d'=os.map tG.mark++d:=k1.symm.trans e1;exact(List.append_inj' h1 (by omega)).2
  rw[<-hdd];exact k2
 have hdb:=aeN hQ (l:=fr.df) asZ;have amw:=hf2.df;rw[show(bM A).df=(os.map tG.mark).map mP++d.map mP from by show A.df.map mP=_;rw[e1,Kb]]at amw
 let ⟨m1,m2,al6,hd1,hd2⟩:=amw.split
 rw[List.map_map,show(mP∘tG.mark:Nat->Df)=Df.mark from rfl]at hd1
 let ⟨bl,C,hm1⟩:=hd1.one
 rw[hdb]at hd2;have hd3:=aeO hT (l:=fr.df) hd2;have htm:∀k t,(bM (cR ds ow bs fr s1).1).get k=Z t->∃v,a2.tmps[k]?=Z v/\aL (E.base (dU ow s1.aH)) B t v:=by
  intro k t hk;rw[cq,gi]at hk;obtain⟨v,hv,rfl⟩:=hk
  let ⟨h1,h2,h3⟩:=BU hds hv
  have hgh:CZ.get k=Z v:=by
   rw[hh.get k (λhm=>h1 (asW k hm)) (λq hq hqk=>?_)];exact hv
   let ⟨qk,qp⟩:=q
   cases qp with|box cs=>rfl|hid cs=>rfl|one c=>unfold Gn at hsh;rw[kU]at hsh;have:=hsh _ hq;subst hqk;exact absurd (by simpa using this) h1
  obtain h4|h4:=hfo.tm k v h1 hgh
  let ⟨u,hu,hr⟩:=hf2.tm k (low v) (by rw[cq,h4];rfl)
  exact⟨u,hu,(hr.ext f.ext m.rel.bF).on (E.gR _) (λ_ _=>rfl) (by rw[iC];exact h3)⟩;exfalso
  let ⟨o,U8,ho2⟩:=WS h4 h3
  have:=(mw ho2).2;simp only[dU,o8,GJ,ri]at U8;obtain U8|U8:=U8
  have:=amv o U8;omega;have:=gY U8;omega
 have hp':IP RG bs {a2 with defers:=[]} g2 s2 B x s3 NQ E vals Cb bl2:=⟨f.rel,f.ext,f.pr,ja.tmps (a:=a2) (a':={a2 with defers:=[]}) rfl f.at_,f.alr,f.Ji,f.now,f.Zr,f.nbs,f.Vv,f.fl,f.lo,f.aH,f.uF,f.same,f.dr,f.ap,f.owb⟩;have hsz:a2.tmps.size=(cR ds ow bs fr s1).1.n:=hf2.size.trans (hn2.trans hh.n);have hB:=Tl (fr:=fr) hds Xg aef hlo how hgb amM amN Xd hh m hp' hwr alV hdr (kf:={(cR ds ow bs fr s1).1 with df:=[]}) ⟨hsz,.nil,htm⟩;obtain rfl|⟨oB,rest,amx,al5,asC,hflB⟩:=Ew
 have SS:bl=[]:=EZ (by have:=C.1;simpa using this.symm);subst SS;subst hm1;exact⟨_,⟨hB.rel,⟨hsz,by rw[al6];exact hd3,htm⟩,hB.pr,f.at_,hB.Ji,hB.Zz,hB.fresh,hB.ap,hB.ext,hB.alo⟩,rfl⟩;have hmb:(aF (cR ds ow bs fr s1).2).ob.get oB=Z .Hj:=by rw[aN,al5];rfl
 have z:∀b∈bl,∃o∈os,g2.bX o=Z b:=λb hb=>by
  obtain⟨i,hi,rfl⟩:=sd hb;have K:i<os.length:=by have:=C.1;omega
  exact⟨os[i],Oz K,C.2 i _ _ (iZ K) (iZ hi)⟩
 have P:∀{o b:Nat},g2.bX o=Z b->bL E o b:=λ{o b}hb=>⟨(f.rel.box o b (f.ext.bX o b hb)).1,.inl (f.ext.bX o b hb)⟩;have aep:bl.Nodup:=by
  refine Sc.2 λi j hi hj hij heq=>?_;have hlen:=C.1;have K:i<os.length:=by omega
  have hj':j<os.length:=by omega
  have e1:=C.2 i _ _ (iZ K) (iZ hi);have e2:=C.2 j _ _ (iZ hj') (iZ hj);rw[<-heq]at e2;exact(Sc.1 asf i j K hj' hij) (f.rel.kj _ _ _ (P e1) (P e2))
 have al3:∀b∈bl,∀k,¬bL (E.base (dU ow s1.aH)) k b:=λb hb k hO=>by
  let ⟨o,ho,r⟩:=z b hb
  let ⟨h1,h2⟩:=Gh.fW hO
  have:=f.rel.kj k o b h2 (P r);subst this;have:=(mw h1).2;have:=(I k ho).1;omega
 let ⟨F,q1,q2,q3,q4,q5,q6,q7⟩:=hB.rel.QM hmb asC bl aep (λb hb=>by
  let ⟨o,ho,r⟩:=z b hb
  exact⟨(m.rel.box o b r).2.1,(f.rel.box o b (f.ext.bX o b r)).1,al3 b hb,(I o ho).2 b r⟩)
 have hd4:eW (E.base (dU ow s1.aH)) B ((tG.marks oB::rest).map mP) m2:=amx▸hd3;have hdf:eW F B ((cR ds ow bs fr s1).1.df.map mP) a2.defers:=by
  rw[amx,al6,hm1];cases hd4 with
  |cons k _=>cases k
  |marks _ ms hnm hms ht=>
  rw[<-wv,<-Kb];refine .marks oB (bl++ms) (List.nodup_append.2 ⟨aep,hnm,λb hb c hc hbc=>?_⟩) (λb hb=>?_) (ht.imp (λt v ht=>ht.le q2) q2.bX)
  .subst hbc
   let ⟨n,c',hr⟩:=hms b hc
   cases hr with
   |sh _ _ _ _ sz _ hx=>
   obtain⟨fz,_,_,h,_⟩|⟨_,_,_,_,_,_,h,_⟩|⟨_,_,_,h,_⟩|h|⟨_,h1,h2,h3,_⟩:=(hB.rel.arr oB b _ hx).2 _ hmb
   cases fz<;>cases h;cases h;cases h;cases h;exact al3 b hb oB ⟨h3,.inr ⟨b,_,_,hx,h1,rfl,h2⟩⟩
  obtain hb|hb:=fc.1 hb
  exact⟨0,1,.sh _ _ _ _ 0 _ (q7 b hb)⟩
  let ⟨n,c,hr⟩:=hms b hb
  exact⟨n,c,hr.le q2⟩
 have hfresh:∀b∈bl,(∃o,s.fl<=o/\bL g o b)\/w.heap.size<=b:=λb hb=>by
  let ⟨o,ho,r⟩:=z b hb
  exact amp.own o b (by have:=(I o ho).1;omega) (P r)
 refine⟨F,⟨q1,⟨hsz,hdf,λk t hk=>let ⟨v,hv,ht⟩:=htm k t hk;⟨v,hv,ht.le q2⟩⟩,q4▸hB.pr,f.at_,⟨hB.Ji.1,λj o b h1 h2=>by rw[q3];exact hB.Ji.2 j o b h1 h2⟩,λo ho e=>?_,λa' ha b hb o hO=>?_,hB.ap,⟨λo b hb=>?_,λo e y hl hy=>?_,λb hb=>?_,hB.ext.size,hB.ext.heap,λo b ho hO=>?_,λb hb=>?_,hB.ext.os,hB.ext.output⟩,hB.alo⟩,q4⟩;rw[q5 o (λh=>by
  subst h;have:=uz (ow:=ow) (ds:=ds) (fr:=fr) (s1:=s1) amA o;rw[bH ho,al5]at this;cases this)]
 exact hB.Zz o ho e;obtain hO|⟨_,R⟩:=q6 o b hO
 exact hB.fresh a' ha b hb o hO
 let ⟨o1,U8,CY⟩:=z b R
 let ⟨o2,ho2,Xj⟩:=E3 a' ha b hb
 have:=f.rel.kj o1 o2 b (P CY) Xj;subst this;rw[f.owb o1 ho2]at CY;cases CY;rw[q3];exact hB.ext.bX o b hb;exact q2.arr o e y (hB.ext.arr o e y hl hy);exact q2.bF b (hB.ext.bF b hb);obtain hO|⟨_,R⟩:=q6 o b hO
 exact hB.ext.own o b ho hO;exact hfresh b R;rw[q4]at hb;exact hB.ext.oN b hb
theorem XF{ex:L Nat}{k:Sh}{kf:cr S}(hs:bg g (aF s) w){q:Gh}{e:L aD}{l:L fy}{m:L Nat}{r:gp S.A (lY sh)}(c:IP sh bs a g s w r s1 ow q e l m)
  {a':Act} {w':az} {al:L fy} {gb n:Gh} {p:cr S} {f:bx S} (h:o4 s.lo s.fl g w n w') (i:Ci ex k bs a' gb kf (cR ds ow bs fr s1).2 w' al n p f) :
  eO s g w {f with wr:=s1.ob.jZ (gQ (dU ow s1.aH))++(bs++s1.wr),dr:=ow++s1.dr} n w':=by
 have j:∀b∈bs,b<bO:=λb t=>iW (c.Vv b t).2.1 hs.aH;refine⟨i.rel,h,i.fl.trans c.fl,i.lo.trans c.lo,?_,λo d=>?_,λo u d=>?_,λo d=>?_⟩;have:=i.aH;have v:(cR ds ow bs fr s1).2.aH=s1.aH:=rfl;have:=c.aH
 simp_all
 exact e9 _ (e9 _ (c.uF o d))
 .simp at d;have h1:f.ob.get o=(cR ds ow bs fr s1).2.ob.get o:=i.ob o (by show o<s1.aH;have:=c.aH;omega) d.2.1;rw[h1,uz j,bS d.2.1,<-c.same o d.2.2];cases x:s1.ob.get o with
  |none=>rfl|some ob=>
   grind[oV,Tr.rE]
 exact e9 _ (by rw[c.dr];exact d)
theorem QD{ex:L Nat}(f:∀k∈ex,k∈ds){h:Sh}(hs:bg g (aF s) w)(m:∀d∈ds,d<bO){z:Gh}{b:L aD}{n:L fy}{p:L Nat}{A:gp S.A (lY sh)}(r:IP sh bs a g s w A s1 ow z b n p)(B:Gn ds h=W)
  {a':Act} {w':az} {al:L fy} {gb t:Gh} {e:cr S} {i:bx S} (j:o4 s.lo s.fl g w t w') (l:Ci ex h bs a' gb (cR ds ow bs fr s1).1 (cR ds ow bs fr s1).2 w' al t e i) :
  eO s g w {i with wr:=s1.ob.jZ (gQ (dU ow s1.aH))++(bs++s1.wr),dr:=ow++s1.dr} t w'/\dB ds fr e (ow++s1.dr) s.aH/\e.n=fr.n:=by
 refine⟨XF (fr:=fr) hs r j l,⟨λk v y C=>?_,?_⟩,l.n⟩
 .cases u:cQ (dU ow s1.aH) v with
  |true=>exact .inr (eD (jf (λo x=>gf _ x) (by rw[r.aH];omega)) v u)
  |false=>
   left
   rw[l.get k (λu=>y (f k u)) (λq K E=>?_),Vy m,bS y,C]
   simp_all
   let ⟨P,F⟩:=q
   cases F with
   |box I=>rfl|hid I=>rfl|one c=>
    grind[Gn]
 rw[l.Qj];exact(vG (jf (λo x=>gf _ x) (by rw[r.aH];omega)) (λv=>rfl) fr.df).ok
end
theorem LW{g:Gh}{w:az}{fr:cr S}{a:Act}(hf:cZ g (bM fr) a w):∀{rv:Rv}{vs:L (V S)},Yz fr rv=Z vs->∃vals,ja a (rv.map λp=>(p.1,Pk.one (.dat p.2))) vals/\PW (aL g w) (bI vs) vals
 |[],vs,h=>by simp only[Yz,gV]at h;subst h;exact⟨[],trivial,rfl,λj t v h=>by grind⟩
 |(k,c)::l,vs,h=>by
  simp[Yz]at h;split at h
  .rename_i v r h1 h2;simp at h;subst h
   let ⟨vals,h3,h4⟩:=LW hf h2
   let ⟨u,b,i⟩:=hf.tm k (low v) (by rw[cq,h1];rfl)
   refine⟨u::vals,⟨b,h3⟩,by simp[bI,l5,h4.1],λj t d e f=>?_⟩;cases j with|zero=>grind[bI]|succ j=>exact h4.2 j t d (by simpa[bI]using e) (by simpa using f)
  cases h
def wO{g:Gh}{w:az}{a:Act}:∀{rv:Rv}{r:gJ S.A (Gr rv)}{vals:L aD}{al:L fy}{I:Nat->Prop}{fr:cr S},j3 S I w (Gr rv) r vals al->(∀b,I b->g.bF b)->ja a (rv.map λp=>(p.1,Pk.one (.dat p.2))) vals->
  fr.n<=bO->cZ g (bM fr) a w->cZ g (bM (y7 rv r fr)) a w/\(y7 rv r fr).n=fr.n/\∀k,k∉rv.map (·.1)->(y7 rv r fr).get k=fr.get k
 |[],r,vals,al,I,fr,_,_,_,_,f=>⟨f,rfl,λ_ _=>rfl⟩|(k,t)::rv,r,vals,al,I,fr,q,n,e,l,f=>by
  cases q with
  | @dat _ _ x h v z al s u=>
  let ⟨o,e⟩:=e
  have d:k<fr.n:=by have:=(YM.1 o).1;rw[f.size]at this;exact this
  have m:cZ g (bM (fr.put k (.ty t x))) a w:=by refine⟨f.size,f.df,λj y c=>?_⟩;rw[cq,cr.ke _ _ _ _ (iW d l)]at c;by_cases i:j=k;subst i;rw[bH rfl]at c;simp at c;subst c;exact⟨v,o,qS (s.le n)⟩;rw[bS i]at c;exact f.tm j y (by rw[cq];exact c)
  let ⟨h1,h2,h3⟩:=wO (rv:=rv) (fr:=fr.put k (.ty t x)) u n e l m
  refine⟨h1,h2,λj c=>?_⟩;simp only[o7,gn,not_or]at c;rw[show y7 ((k,t)::rv) (x,h) fr=y7 rv h (fr.put k (.ty t x))from rfl,h3 j c.2,cr.ke _ _ _ _ (iW d l),bS c.1]
theorem zV{ω:Type}{Q:vT S->cr S->bx S->O ω}{fr:cr S}{s:bx S}{r:ω}:∀{l:L Nat}{i:Nat},i∈l->adp Q fr s l (ad7 l i)=Z r->Q (.ext i) fr s=Z r
 |[],i,a,_=>by cases a
 |[j],i,a,h=>by simp at a;subst a;exact h
 |j::c::l,i,a,h=>by
  simp only[ad7]at h;cases b:Nq j i with
  |true=>rw[b]at h;have:=beq_iff'.1 b;subst this;exact h|false=>
   rw[b]at h;have d:j≠i:=λe=>by simp_all
   refine zV (l:=c::l) ?_ h
   grind
end
theorem GF{st:LoopState}{a:O Code}(h:LY st a=W):st=.ready/\a=Y:=by
 unfold LY at h
 grind
def Zt{st:LoopState}{a:O Code}{ex:vT S}(h:ag8 st a=Z ex):st≠.busy/\((a=Y/\ex=.su)\/(∃i,a=Z (.exit i)/\ex=.ext i)\/(a=Z .ret/\ex=.ret)):=by unfold ag8 at h;split at h<;>simp_all
theorem S0{g:Gh}{w:az}{fr:cr S}{a:Act}(hf:cZ g (bM fr) a w)(hn:fr.n<=bO)(l:L Nat):∀k t,(bM (PD l fr)).get k=Z t->∃v,a.tmps[k]?=Z v/\aL g w t v:=by
 have key:∀(l:L Nat)(t0:Tr (V S)),(∀k v,t0.get k=Z v->fr.get k=Z v)->∀k v,(l.foldl (λt k=>match fr.get k with|some v=>t.set aP k v|none=>t) t0).get k=Z v->fr.get k=Z v:=by
  intro l
  induction l with
  |nil=>grind|cons j l d=>
   intro t0 h;rw[OJ];refine d _ λk v b=>?_;split at b;rename_i u e;have f:j<bO:=by
    have:(bM fr).get j=Z (low u):=by rw[cq,e];rfl
    obtain⟨x,i,_⟩:=hf.tm j _ this;have:=hf.size;have h2:=(YM.1 i).1;have h3:(bM fr).n=fr.n:=rfl;omega
   rw[Tr.aX _ _ _ _ f]at b
   grind
   grind
 intro k t b;rw[cq]at b;cases c:(PD l fr).get k with|none=>simp_all|some v=>rw[c]at b;have h1:=key l .nil (λk v h=>by simp[Tr.get_nil]at h) k v c;exact hf.tm k t (by rw[cq,h1];exact b)
theorem Ot{E:eI S}(hE:fF E){call:gD S}(xe:gT E.T.E.P call)(n:Nat)(fid:FuncId)(rv:Rv){gv:Operand}{ps:Array Tmp}{q body:Code}{i:Nat}{ω:Type}{Q:vT S->cr S->bx S->O ω}{r:ω}{fr:cr S}{s:bx S}
  (h:Ac E call n fid rv (.rangeFunc gv ps q body) i Q fr s=Z r) (hn:fr.n<=bO) {g:Gh} {a:Act} {w:az} (hf:cZ g (bM fr) a w) (hs:bg g (aF s) w) :
  (Code.rangeFunc gv ps q body).wpIn (WR Y) 0 E.T.E.P (JR (eV (.rangeFunc gv ps q body)++rv.map (·.1)) fr s g w Q r) a w:=by
 simp only[Ac]at h;split at h;cases h;rename_i args hfa;obtain⟨hb,h1⟩|⟨_,h1⟩:=ah h
 rotate_left;cases h1;clear h;simp only[eX]at hb;obtain⟨_,_,ah2,z⟩:=hb;have z:s.aH+1<bO:=gY z;simp only[wz]at hfa;obtain⟨tf,htf,ML⟩:=hfa;have hrf:=bY hf (cH htf);have m:=sG ML;unfold yI at m;split at m;rotate_left;cases m;rename_i f' first cap C
 simp only[gV,fH]at m;obtain⟨rfl,I⟩:=m;rw[C]at hrf;generalize hvf:a.eval gv=vf at hrf;cases hrf with
 |fn _ _ _ va vc l1 l2 r1 r2=>
 obtain⟨AE,he1⟩:=hs.newObj (ob0:=.AG) (x0:=.deferred (Z [])) (by show s.aH<bO;omega) .AG;have ahH:(ew (aF s) Ob.AG).2=aF (dy s .AG):=(hU s .AG).symm;rw[ahH]at AE;refine wpIn_rangeFunc λfn _=>?_
 let b:Loop:={state:=.ready,pending:=Y,fn,tmps:=a.tmps,params:=ps,assign:=q,body,defers:=w.heap.size}
 let lv:LpV S:=⟨.ready,Y,fid,PD (vV q++vV body) fr,ps.toList,q,body⟩
 have hf1:cZ (g.dN (aF s).aH w.heap.size) (bM fr) a (w.alloc (.deferred (Z []))):=hf.ext he1 hs.bF;obtain⟨R,Xe⟩:=AE.newObj (ob0:=.lp (uc lv)) (x0:=.loop b) (by show s.aH+1<bO;exact z)
  (.lp _ b rfl rfl rfl rfl rfl hf1.size (S0 hf1 hn _))
 have arU:(ew (aF (dy s .AG)) (Ob.lp (uc lv))).2=aF (dy (dy s .AG) (.lp lv)):=(hU _ (.lp lv)).symm;rw[arU]at R;have A:(Instr.enterLoop fn a.tmps ps q body Y).run E.T.E.P w=.ok (w.heap.size+1,[{target:=.collected w.heap.size,args:=#[]}]) ((w.alloc (.deferred (Z []))).alloc (.loop b)):=run_enterLoop_outer _ _ _ _ _;generalize hW2:(w.alloc (.deferred (Z []))).alloc (.loop b)=W2 at R Xe A;generalize hg2:(g.dN (aF s).aH w.heap.size).dN (aF (dy s .AG)).aH (w.alloc (.deferred (Z []))).heap.size=g2 at R Xe;have amB:g2.bX s.aH=Z w.heap.size:=by rw[<-hg2];simp[Gh.dN,aF,dy]
 have F:g2.bX (s.aH+1)=Z (w.heap.size+1):=by rw[<-hg2];simp[Gh.dN,aF,dy]
 have he:Ext s.fl g w g2 W2:=he1.trans Xe;have hall:PW (aL g2 W2) (bI args) (va++#[Value.func (.yield (w.heap.size+1)) #[] #[]]++vc).toList:=by rw[<-I];simp only[Wq];refine PW.append (PW.append ⟨by simpa using l1,λj x y h1 h2=>(r1 j x y h1 (by simpa using h2)).ext he hs.bF⟩ ⟨rfl,λj x y h1 h2=>?_⟩) ⟨by simpa using l2,λj x y h1 h2=>(r2 j x y h1 (by simpa using h2)).ext he hs.bF⟩;cases j with|zero=>simp only[bI,OA,gV]at h1 h2;subst h1;subst h2;exact .r9 _ _ F|succ j=>grind
 obtain⟨Py,hc⟩:=BE hE xe R h1 hall;refine⟨w.heap.size+1,[{target:=.collected w.heap.size,args:=#[]}],W2,{target:=.fn (.func f') vc,args:=va++#[Value.func (.yield (w.heap.size+1)) #[] #[]]},W2,f',va++#[Value.func (.yield (w.heap.size+1)) #[] #[]]++vc,W2,A,?_,λ_ _=>trivial,?_,λh=>by simp[Fence.wide]at h,Te.2 (hc.mono λe w' he'=>?_)⟩
 simp_all[rangeCall,resolve,Deferred.ofValue,run_bind,run_pure,andThen_ok,Act.eval]
 grind[invoke,ym]
 cases e with
 |panicked ch=>obtain⟨v,t,B,g',_,h1,_⟩:=he';cases h1
 |outgrown=>exact he'.elim|returned v=>
 obtain⟨t,B,g',ow,h1,_,f⟩:=he';dsimp only at h1;split at h1;rotate_left;cases h1;rename_i l ho;split at h1;rotate_left;cases h1;rename_i ex hox;obtain⟨hst,hpe⟩:=Zt hox;have u:=f.ext.bX _ _ F;have ho':(aF B).ob.get (s.aH+1)=Z (.lp (uc l)):=by rw[aN,show B.ob.get (s.aH+1)=Z (.lp l)from ho];rfl
 obtain⟨x,hx,hr⟩:=(f.rel.box _ _ u).2.2 _ ho';cases hr with
 |lp _ L' q1 q2 q4 q5 q6 q8 q9=>
 have hfl:B.fl<=s.aH+1:=by
  have h0:B.fl=s.fl:=f.fl
  simp_all
 obtain⟨SI,FH⟩:=f.rel.setObj (w':=w'.putObj (w.heap.size+1) (.loop {L' with state:=.exhausted})) u ho' rfl hfl (x':=.loop {L' with state:=.exhausted}) (ob':=.lp (uc {l with st:=.exhausted})) (.lp _ _ rfl q2 q4 q5 q6 q8 q9)
  World.putObj_size (λb' hb'=>World.putObj_heap_other hb') (World.putObj_heap_same (f.rel.box _ _ u).2.1) rfl rfl
 have hfo:dB [] fr (dH ow fr) B.dr s.aH:=CG hn (dst:=Y) rfl f.owd s.aH eA;have key:∀e,JV g' (w'.putObj (w.heap.size+1) (.loop {L' with state:=.exhausted})) ex e->JR (eV (.rangeFunc gv ps q body)++rv.map (·.1)) fr s g w Q r e {a with defers:=[{target:=.collected w.heap.size,args:=#[]}]++a.defers} (w'.putObj (w.heap.size+1) (.loop {L' with state:=.exhausted})):=λe hx0=>by
  refine .inr ⟨ex,_,_,g',hx0,h1,uj ow fr,?_,?_,⟨λk v _ hk=>hfo.tm k v (λh=>by cases h) hk,?_⟩⟩;rotate_left;rotate_left;obtain⟨c,d,q1,q2⟩:=hfo.df;exact⟨_::c,d,by show _::(dH ow fr).df=_;rw[show(dH ow fr).df=c++d from q1];rfl,q2⟩;have hf2:cZ g2 (bM fr) a W2:=hf.ext he hs.bF;have hf3:cZ g' (bM (dH ow fr)) a w':=ov hf2 f;have hf4:=hf3.ext FH f.rel.bF;exact⟨hf4.size,.cons (.mark _ _ (f.ext.bX _ _ amB)) hf4.df,hf4.tm⟩;have hn1:s.aH<bO:=by omega
  have hl1:=jF s (.AG:vO S) hn1;have hl2:=jF (dy s (.AG:vO S)) (.lp lv) z;have C:aF {B with ob:=B.ob.set aP (Ns s.aH) (.lp {l with st:=.exhausted})}={aF B with ob:=(aF B).ob.set aP (s.aH+1) (dj (.lp {l with st:=.exhausted}))}:=eJ B _ _ B.wr;refine⟨by rw[C];exact SI,(he.Jn s.lo).trans ((show o4 s.lo s.fl g2 _ g' w' from f.ext).trans ?_),f.fl,f.lo,gE (by show s.aH<=s.aH+1+1;omega) f.aH,λo ho=>f.uF o ho,λo ho hno=>?_,λo ho=>f.Ik o ho⟩;have:=FH.Jn s.lo;rw[show(aF B).fl=s.fl from f.fl]at this;exact this;have e1:o≠Ns s.aH:=by omega
  show(B.ob.set aP (Ns s.aH) _).get o=_;rw[Tr.dK _ _ _ _ _ e1,f.same o (by show o<s.aH+1+1;omega) hno,hl2.same o (by show o<s.aH+1;omega) (λhm=>hno (f.uF o hm)),hl1.same o ho (λhm=>hno (f.uF o hm))]
 refine⟨l.wC,w'.putObj (w.heap.size+1) (.loop {L' with state:=.exhausted}),?_,?_⟩;have:=run_endLoop (P:=E.T.E.P) hx (by rw[q1];exact hst);rw[this,q2];rfl;obtain⟨h0,rfl⟩|⟨i,h0,rfl⟩|⟨h0,rfl⟩:=hpe<;>rw[h0]
 exact key _ .su;exact wpIn_exit (key _ (.ext i));exact wpIn_ret (key _ .ret)
section
def tF(E:eI S)(call:gD S):Prop:=
 ∀(id:Nat)(ops:Array Oper){ω:Type}(kp:cr S->V S->bx S->O ω)(k:cr S->bx S->O ω)(r:ω)(fr:cr S)(s:bx S),
  aa0 E fr s ops.toList (xF ops.toList)=W->
  vw E call ops.toList (xF ops.toList) (ops.toList.zipIdx.map λp=>(p.2,p.1)) kp k (Ns (Nat.mul 2 (cM ops.toList))) 0 fr s=Z r->fr.n<=bO->
  ∀{g:Gh}{a:Act}{w:az},cZ g (bM fr) a w->bg g (aF s) w->∀{Q:Exit->Act->az->Prop},
  (∀fr' s' g' a' w',k fr' s'=Z r->fr'.n=fr.n->cZ g' (bM fr') a' w'->eO s g w s' g' w'->dB (ops.toList.filterMap (·.dst)) fr fr' s'.dr s.aH->Q .normal a' w')->
  (∀fr' t s' g' a' v w',kp fr' t s'=Z r->fr'.n=fr.n->cZ g' (bM fr') a' w'->eO s g w s' g' w'->dB (ops.toList.filterMap (·.dst)) fr fr' s'.dr s.aH->aL g' w' (low t) v->Q (.panic [{v,recovered:=J}]) a' w')->
  ∀rr:O Nat,(rr≠Y->Rq (.region id ops W)=W)->(Code.region id ops W).wpIn (WR rr) 0 E.T.E.P Q a w
theorem rq{s:bx S}:∀{cs:L Ck}{l:L (V S)}{x:gJ S.A cs}{fz ow:L Nat},j0 cs=W->gG s cs l=Z (x,fz,ow)->ow=[]
 |[],[],x,fz,ow,_,h=>by
  grind[gG]
 |.dat t::cs,v::l,x,fz,ow,a,h=>by
  simp[gG]at h;split at h;rename_i b;obtain⟨_,_,rfl⟩:=h;have:=rq (cs:=cs) (by simpa[j0]using a) b
  grind[pU]
  cases h
 |.own _::_,_,_,_,_,a,_=>by simp[j0]at a
 |.kE ..::_,_,_,_,_,a,_=>by simp[j0]at a
 |.nil _::_,_,_,_,_,a,_=>by simp[j0]at a
 |.ptr _::_,_,_,_,_,a,_=>by simp[j0]at a
 |[],_::_,_,_,_,_,h=>by simp[gG]at h
 |.dat _::_,[],_,_,_,_,h=>by simp[gG]at h
def DB:∀rv:Rv,j0 (Gr rv)=W
 |[]=>rfl|_::rv=>DB rv
def ME(fr:cr S)(c:Operand)(b:aa):(fr.ue c b).n=fr.n:=by unfold cr.ue;split;rename_i k;cases Nt k fr.n<;>rfl;rfl
variable {w:az}{fr:cr S}{a:Act}{c:Code}{b:aa}{k:Nat}{rr:Option Nat}{P:cV}{Q:Exit->Act->az->Prop}
def HB{g:Gh}{c:Operand}(hn:fr.n<=bO)(hf:cZ g (bM fr) a w)(i:a.eval c=.bool b):cZ g (bM (fr.ue c b)) a w:=by
 unfold cr.ue;split
 .rename_i k;cases l:Nt k fr.n with
  |false=>exact hf|true=>
   have e:k<fr.n:=gY l;refine⟨hf.size,hf.df,λj t d=>?_⟩;simp at d;rw[cq,cr.ke _ _ _ _ (iW e hn)]at d;by_cases f:j=k;subst f;rw[bH rfl]at d;simp at d;subst d;have h:j<a.tmps.size:=by rw[hf.size];exact e
   have:a.tmps[j]?=Z (.bool b):=by have:=i;simp[Act.eval,Array.getD_eq_getD_getElem?,uS h,RY]at this;rw[uS h,this]
   exact⟨_,this,.kb b⟩;rw[bS f]at d;exact hf.tm j t (by rw[cq];exact d)
 exact hf
def UZ(hn:fr.n<=bO)(c:Operand)(b:aa)(dr:L Nat)(aH:Nat):dB (Vq c) fr (fr.ue c b) dr aH:=by
 unfold cr.ue;split
 .rename_i k;cases d:Nt k fr.n with|false=>exact dB.refl _ _ _ _|true=>have a:k<fr.n:=gY d;refine⟨λj v e f=>.inl ?_,y4.refl _ _⟩;simp;rw[cr.ke _ _ _ _ (iW a hn),bS (by simpa[Vq]using e)];exact f
 exact dB.refl _ _ _ _
theorem XJ{ω:Type}{e:aa}{x y:O ω}{r:ω}(h:JM e x y=Z r):y=Z r/\(e=W->x=Z r):=by
 unfold JM at h
 grind
def qW(ds:L Nat):∀sh:Sh,Gn ds (Rp sh)=W
 |[]=>rfl|(_,.one _)::l=>qW ds l|(_,.box _)::l=>by
  have:=qW ds l
  simp_all[Rp,Gn]
 |(_,.hid _)::l=>by
  have:=qW ds l
  simp_all[Rp,Gn]
theorem kA{s:bx S}{fr:cr S}{k o r:Nat}(i:fr.get k=Z (.sh o r)):∀{sh:Sh}{ps:L Pk}{bs:L Nat}{vs:L (V S)}{nx:O Nat}{x:gp S.A ps}{fz ow f:L Nat},lY sh=ps->wo fr sh bs=Z vs->eR s ps vs nx=Z (x,fz,ow,f)->k∈Sj sh->o∈ow
 |[],_,_,_,_,_,_,_,_,_,_,_,d=>by simp[Sj]at d
 |(j,.one c)::sh,ps,bs,vs,nx,x,fz,ow,f,a,h1,h2,d=>by
  simp[wo]at h1;split at h1;rotate_left;cases h1;rename_i p m g;simp at h1;subst h1
  replace a:Pk.one c::lY sh=ps:=a
  subst a;simp[eR]at h2;split at h2;rotate_left;cases h2;rename_i q h;obtain⟨_,_,rfl,_⟩:=h2;cases c with
  |dat t=>exact e9 _ (kA i rfl g h d)|kE n j t=>exact e9 _ (kA i rfl g h d)|nil e=>exact e9 _ (kA i rfl g h d)|ptr t=>exact e9 _ (kA i rfl g h d)|own e=>
   obtain rfl|d:=gn.1 d
   rw[i]at m;cases m;simp[pU]at q
   grind
   exact e9 _ (kA i rfl g h d)
 |(j,.box l)::sh,ps,[],vs,nx,x,fz,ow,f,a,h1,h2,d=>by simp[wo]at h1
 |(j,.box l)::sh,ps,b::bs,vs,nx,x,fz,ow,f,a,h1,h2,d=>by
  simp[wo]at h1;split at h1;rotate_left;cases h1;rename_i g;simp at h1;subst h1
  replace a:Pk.box l::lY sh=ps:=a
  subst a;simp[eR]at h2;split at h2;rotate_left;cases h2;obtain⟨_,h2⟩|⟨_,h2⟩:=ah h2
  rotate_left;cases h2;split at h2;rotate_left;cases h2;split at h2;rotate_left;cases h2;rename_i h;obtain⟨_,_,rfl,_⟩:=h2;exact e9 _ (kA i rfl g h d)
 |(j,.hid l)::sh,ps,[],vs,nx,x,fz,ow,f,a,h1,h2,d=>by simp[wo]at h1
 |(j,.hid l)::sh,ps,b::bs,vs,Y,x,fz,ow,f,a,h1,h2,d=>by
  replace a:Pk.hid l::lY sh=ps:=a
  subst a;cases vs<;>simp[eR]at h2
 |(j,.hid l)::sh,ps,b::bs,vs,Z u,x,fz,ow,f,a,h1,h2,d=>by
  simp[wo]at h1
  replace a:Pk.hid l::lY sh=ps:=a
  subst a;obtain⟨_,h2⟩|⟨_,h2⟩:=ah h2
  rotate_left;cases h2;split at h2;rotate_left;cases h2;split at h2;rotate_left;cases h2;rename_i h;obtain⟨_,_,rfl,_⟩:=h2;exact e9 _ (kA i rfl h1 h d)
def oz{ds:L Nat}{k:Nat}:∀{sh:Sh},k∈exS ds sh->k∈Sj sh
 |[],h=>h|(j,.one (.own e))::sh,h=>by
  simp only[exS]at h;simp[Sj,gn];obtain a|a:=Bool.eq_false_or_eq_true (ds.contains j)
  rw[a]at h;exact .inr (oz h);rw[a]at h;obtain rfl|h:=gn.1 h
  exact .inl rfl;exact .inr (oz h)
 |(j,.one (.dat t))::sh,h=>oz (sh:=sh) h|(j,.one (.kE ..))::sh,h=>oz (sh:=sh) h|(j,.one (.nil _))::sh,h=>oz (sh:=sh) h|(j,.one (.ptr _))::sh,h=>oz (sh:=sh) h|(j,.box b)::sh,h=>oz (sh:=sh) h|(j,.hid b)::sh,h=>oz (sh:=sh) h
def Zs{s c:bx S}{sh:Sh}{bs ow:L Nat}{x:gp S.A (lY sh)}{o r:Nat}(h:rm sh bs fr s=Z (x,c,ow))(d:k∈Sj sh)(e:fr.get k=Z (.sh o r)):o∈ow:=by
 unfold rm at h;split at h;cases h;rename_i a;split at h;cases h;rename_i b;split at h;cases h;obtain⟨_,h2⟩|⟨_,h2⟩:=ah h
 obtain⟨_,_,rfl⟩:=h2;exact kA e rfl a b d;cases h2
def IS(rr:O Nat)(P:cV)(c:Code)(Q:Exit->Act->az->Prop)(a:Act)(w:az):Prop:=
 ∀(b:Frame)(k:L Item)(cs:L Frame),b.roundOf=rr->∃e a' w',Q e a' w'/\afr rr P (lone (b.atR a (.code c::.inLoop c::k)) cs w) b k cs e a' w'
def LG(h:IS rr P c Q a w):(Code.loop c).wpIn (WR rr) 0 P Q a w:=λb k g f _ _=>
 let ⟨e,i,j,l,d⟩:=h b k g f
 ⟨e,i,j,l,.of_steps (gM.2 (.one stepR_loop)) d⟩
def u0(h:c.wpIn (WR rr) 0 P (Exit.then (IS rr P c Q) Q) a w):IS rr P c Q a w:=by
 intro b k o i
 let ⟨e,j,m,g,d⟩:=h b (.inLoop c::k) o i trivial (Om _)
 cases e with
 |normal=>
  let ⟨p,q,r,n,f⟩:=g b k o i
  exact⟨p,q,r,n,.of_steps (gM.2 ((gM.1 d).trans (.one stepR_inLoop))) f⟩
 |exit id=>exact⟨_,j,m,g,.pass (x:=.inLoop c) rfl (λ_ _=>.inl (by simp)) d⟩
 |goto l=>exact⟨_,j,m,g,.pass (x:=.inLoop c) rfl (λ_ _=>.inl (by simp)) d⟩
 |ret=>exact⟨_,j,m,g,.pass (x:=.inLoop c) rfl (λ_ _=>.inl (by simp)) d⟩
 |panic s=>exact⟨_,j,m,g,.pass (x:=.inLoop c) rfl (λ_ _=>.inl (by simp)) d⟩
 |outgrown=>exact⟨_,j,m,g,.pass (x:=.inLoop c) rfl (λ_ _=>.inl (by simp)) d⟩
def Sv(I:Act->az->Prop)(μ:Act->az->Nat)(round:∀a w,I a w->c.wpIn (WR rr) 0 P (Exit.then (λa' w'=>I a' w'/\μ a' w'<μ a w) Q) a w) :
  ∀(m:Nat)(a:Act)(w:az),μ a w<=m->I a w->IS rr P c Q a w:=by
 intro m
 induction m with
 |zero=>
  intro a w f d;refine u0 (wpIn_mono (round a w d) λe a' w' b=>?_);cases e with|normal=>have:=b.2;omega|_=>exact b
 |succ m g=>
  intro a w f d;refine u0 (wpIn_mono (round a w d) λe a' w' b=>?_);cases e with|normal=>exact g a' w' (by have:=b.2;omega) b.1|_=>exact b
def yp{a:aa}(h:(a&&b)=W):a=W/\b=W:=zT.1 h
theorem Ut{id:Nat}{ops:Array Oper}{d:aa}(h:Rq (.region id ops d)=W):∀o∈ops.toList,∀c,o.op≠.defer c:=by
 grind[Rq]
theorem SD{E:eI S}(hE:fF E)(rv:Rv){rr:O Nat}{b:Code}{ev:{ω:Type}->(vT S->cr S->bx S->O ω)->cr S->bx S->O ω}
  (hev:∀{ω:Type}{Q:vT S->cr S->bx S->O ω}{r:ω}{fr:cr S}{s:bx S},ev Q fr s=Z r->fr.n<=bO->s.lo<=s.aH->∀{g:Gh}{a:Act}{w:az},cZ g (bM fr) a w->bg g (aF s) w->b.wpIn (WR rr) 0 E.T.E.P (JR (eV b++rv.map (·.1)) fr s g w Q r) a w)
  {ω:Type} {sh:Sh} {pts:L Pt} {al:L (Nat×Nat)} {Q:vT S->cr S->bx S->O ω} {r:ω} {fr:cr S} {s:bx S} (h:Z2 E rv ev sh pts al (eV b++rv.map (·.1)) (xq (lO b)) Q fr s=Z r) (hn:fr.n<=bO) (hlo:s.lo<=s.aH) {g:Gh} {a:Act} {w:az} (hf:cZ g (bM fr) a w) (hs:bg g (aF s) w) :
  b.wpIn (WR rr) 0 E.T.E.P (JR (eV b++rv.map (·.1)) fr s g w Q r) a w:=by
 unfold Z2 at h;split at h;cases h;rename_i bs ahT;split at h;cases h;rename_i x0 u ow hpk;obtain⟨hb,h2⟩|⟨_,h2⟩:=ah h
 rotate_left;cases h2;clear h;rw[eX,eX]at hb
 let ⟨⟨KD,z⟩,aat⟩:=hb
 rw[eX,eX]at z
 let ⟨z,aay,aih⟩:=z
 let ⟨o,n,c⟩:=jq h2
 clear h2;generalize hds:(eV b++rv.map (·.1))++(exS (eV b++rv.map (·.1)) sh++al.map (·.1))=ds at *
 let ⟨bl0,SS⟩:=tY hf hs ahT
 have MK:∀d∈ds,d<bO:=λd hd=>by rw[kU]at aat;exact iW (gY (aat d hd)) hn
 have Xi:∀p∈al,p.1<bO:=λp hp=>MK _ (by grind);have Xh:∀k∈al.map (·.1),k∈ds:=λk hk=>by grind
 let ⟨g1,Yl,EN,bl1,i⟩:=kX hE.sg hf hs SS hpk
 have SQ:=IA (fr:=fr) hf hs MK i;have ahJ:u.aH<=bO:=i.rel.aH;have aaw:(cR ds ow bs fr u).1.n<=bO:=hn;have fix:∀{l:cr S},dB ds fr l (ow++u.dr) s.aH->dB (eV b++rv.map (·.1)) fr l (ow++u.dr) s.aH:=by
  intro l hfo;refine⟨λk v hk hv=>?_,hfo.df⟩;by_cases C:k∈ds
  right
  rw[<-hds]at C;obtain C|C:=fc.1 C
  grind
  obtain C|C:=fc.1 C
  unfold aeF at z;rw[kU]at z;have h1:=z k C;split at h1;rename_i r' ho';rw[hv]at ho';cases ho';have:=Zs hpk (oz C) hv;simp[cQ,dU,this];cases h1;obtain⟨p,hp,rfl⟩:=wP.1 C;obtain⟨o1,r1,rfl,this⟩:=QJ aih hp hv;simp[cQ,dU,this];exact hfo.tm k v C hv
 have aaz:acA a w al:=yK hf hs aay;have hbase:xY sh bs (cR ds ow bs fr u).1 (cR ds ow bs fr u).2 s g w x0 a _ w Yl EN bl1:=SQ;unfold Gx at n;split at n;cases n;rename_i ail A Pw
 let ⟨gh,hh0,Xd⟩:=hbase.head aaw Pw
 have hh:=hh0.m9 Xi aaz;generalize m9 A al ail=CZ at hh n;have asQ:CZ.n=fr.n:=hh.n;have ama:A.lo<=A.aH:=by have h1:A.lo=s.lo:=hh.lo.trans i.lo;have h2:=hh.aH;have h3:(cR ds ow bs fr u).2.aH=u.aH:=rfl;have:=i.aH;omega
 have aao:u.aH<=A.aH:=hh.aH;have sX:bg gh (aF {A with lo:=u.aH}) _:=⟨hh.rel.aH,hh.rel.aj,hh.rel.box,hh.rel.arr,hh.rel.bF,hh.rel.kj⟩;have HM:A.lo=(cR ds ow bs fr u).2.lo:=hh.lo;refine wpIn_mono (hev n (by omega) aao hh.fr sX) λe QN m hq=>?_;obtain hF|⟨ex,Rs,s20,g2,h1,h2,h3,h4,h50,h60⟩:=hq
 exact hF.elim;have h5:=eO.lower (s:=A) h50 (by have:=hh.lo.trans i.lo;have:=i.aH;omega);rw[<-HM]at h2;dsimp only at h2;obtain⟨s2,NR⟩:∃s2:bx S,s2={s20 with lo:=A.lo}:=⟨_,rfl⟩;have h6:=h60;rw[show s20.dr=s2.dr by rw[NR]]at h6;rw[<-NR]at h2 h5;unfold RP at h2
 replace h6:dB ds CZ Rs s2.dr A.aH:=h6.mono (λk hk=>by grind) (λ_ h=>h)
 obtain⟨ah4,h2⟩|⟨_,h2⟩:=ah h2
 rotate_left;cases h2;have SO:s2.fl=s.fl:=h5.fl.trans (hh.fl.trans i.fl);have hmk:∀{MN:Gh},(∀o b,g2.bX o=Z b->MN.bX o=Z b)->Marks u.aH s.fl (cR ds ow bs fr u) Rs MN m:=λ{MN}hq=>by have:=AW h5.rel ah4;rw[SO]at this;exact this.mono h4 hq
 have next:∀{K:Sh}{y:gp S.A (lY K)}{P s3:bx S}{MN:Gh}{NQ:L Nat},eO A gh w P MN m->(∀o b,g2.bX o=Z b->MN.bX o=Z b)->cZ MN (bM Rs) QN m->dB ds CZ Rs P.dr A.aH->rm K bs Rs P=Z (y,s3,NQ)->
   VY u.aH bs s3.wr=W->NQ.all (λo=>Nl u.aH o)=W->s3.dr.all (λo=>Nl u.aH o)=W->
   ∃B f R Cq,xY K bs (cR ds ow bs fr u).1 (cR ds ow bs fr u).2 s g w y QN B m f R Cq/\∀b,MN.bF b->B.bF b:=by
  intro K y P s3 MN NQ k1 k0 k2 k3 k4 k5 k6 k7
  let ⟨g3,f,R,Cq,hp2⟩:=kX hE.sg (bl0:=bl1) k2 k1.rel ⟨hbase.Ji.1,λj o b q1 q2=>k1.ext.bX o b (hh.le.bX o b (hbase.Ji.2 j o b q1 q2))⟩ k4
  let ⟨B,AF,qq⟩:=Li Xh MK (λb hb=>⟨by have:=(i.Vv b hb).2.1;rw[i.aH];exact this,(i.Vv b hb).2.2.1⟩) ahJ (by rw[i.aH];exact hlo) (λo ho=>(i.Zr o ho).2.1) (λo b hb=>⟨by rw[i.aH];exact hs.lt hb,λhm=>by rw[i.owb o hm]at hb;cases hb⟩) KD i.lo i.fl Xd hh k1 k2 k3 h3 (hmk k0) hp2 k5 k6 k7
  exact⟨B,f,R,Cq,AF,λb hb=>by rw[qq];exact hp2.ext.bF b hb⟩
 have leave:∀{K:Sh}{y:gp S.A (lY K)}{B:Gh}{f:L aD}{R:L fy}{Cq:L Nat}{l:cr S}{F:bx S},Gn ds K=W->xY K bs (cR ds ow bs fr u).1 (cR ds ow bs fr u).2 s g w y QN B m f R Cq->nJ K bs y (cR ds ow bs fr u).1 (cR ds ow bs fr u).2=Z (l,F)->
   ∃gy,cZ gy (bM l) QN m/\(∀b,B.bF b->gy.bF b)/\eO s g w {F with wr:=u.ob.jZ (gQ (dU ow u.aH))++(bs++u.wr),dr:=ow++u.dr} gy m/\dB ds fr l (ow++u.dr) s.aH/\l.n=fr.n:=by
  intro K y B f R Cq l F ahI k1 k2
  let ⟨gy,k3,k4⟩:=k1.head aaw k2
  let ⟨k5,k6,k7⟩:=QD (ex:=[]) (λ_ h=>by cases h) hs MK i ahI k4 k3
  exact⟨gy,k3.fr,k3.le.bF,k5,k6,k7⟩
 cases h1 with
 |su=>
  obtain⟨aaB,h2⟩|⟨_,h2⟩:=ah h2
  rotate_left;cases h2;simp[v5]at h2;split at h2
  .rename_i y s3 NQ I;obtain⟨hc,h2⟩|⟨_,h2⟩:=ah h2
   rotate_left;cases h2;simp only[eX]at hc
   let ⟨B,f,R,Cq,k1,_⟩:=next h5 (λ_ _ h=>h) h4 h6 I hc.1 hc.2.1 hc.2.2
   cases h2;simp only at c;split at c;cases c;rename_i l F Xc
   let ⟨gy,l1,_,l2,l3,l4⟩:=leave KD k1 Xc
   let ⟨m1,m2,m3,m4⟩:=mJ (s:=F) l2.rel Xi (yK h4 h5.rel aaB) l1
   exact .inr ⟨.su,m9 F al l,_,gy,.su,c,m2.trans l4,m1,l2,fix ⟨λk v hk hv=>by rw[m4 k λhm=>hk (Xh k hm)];exact l3.tm k v hk hv,by rw[m3];exact l3.df⟩⟩
  cases h2
 |ext j=>
  obtain⟨hj,h2⟩|⟨_,h2⟩:=ah h2
  rotate_left;cases h2;simp[v5]at h2;split at h2
  .rename_i y s3 NQ I;obtain⟨hc,h2⟩|⟨_,h2⟩:=ah h2
   rotate_left;cases h2;simp only[eX]at hc
   let ⟨B,f,R,Cq,k1,_⟩:=next h5 (λ_ _ h=>h) h4 h6 I hc.1 hc.2.1 hc.2.2
   cases h2;simp only at c;split at c;cases c;rename_i l F Xc
   let ⟨gy,l1,_,l2,l3,l4⟩:=leave KD k1 Xc
   rw[eX]at hj;have hjm:j∈xq (lO b):=by grind
   let ⟨m1,m2,m3,m4⟩:=mJ (s:=F) l2.rel Xi (yK h4 h5.rel hj.2) l1
   exact .inr ⟨.ext j,m9 F al l,_,gy,.ext j,zV hjm c,m2.trans l4,m1,l2,fix ⟨λk v hk hv=>by rw[m4 k λhm=>hk (Xh k hm)];exact l3.tm k v hk hv,by rw[m3];exact l3.df⟩⟩
  cases h2
 |ret=>
  simp only at h2;split at h2;cases h2;rename_i vs hvs;split at h2;rotate_left;cases h2;rename_i r' fz owr Xb;split at h2;rotate_left;cases h2;rename_i P hfz;simp[v5]at h2;split at h2
  .rename_i y s3 NQ I;obtain⟨hc,h2⟩|⟨_,h2⟩:=ah h2
   rotate_left;cases h2;simp only[eX]at hc
   let ⟨akc,z8,pE⟩:=LW h4 hvs
   let ⟨p1,p2,p3⟩:=gK hE.sg h5.rel Xb pE
   let ⟨g3,SI,FH,SN⟩:=eK fz h5.rel (dG hE.sg _ hfz) p1
   have ahP:owr=[]:=rq (DB rv) Xb
   let ⟨alr,sX,_⟩:=p3 g3 (aF P) fz SI FH SN (λo ho=>ho) (λo ho=>by simp_all)
   let ⟨f1,f2,f3,f4,f5,f6,f7⟩:=eS hfz
   have xg:eO s2 g2 m P g3 m:=⟨SI,FH.Jn _,f1,f2,Ee f3.symm,f4,λo _ ho=>f5 o ho,λo ho=>by grind⟩;have hf3:cZ g3 (bM Rs) QN m:=h4.ext FH h5.rel.bF
   let ⟨B,f,R,Cq,k1,k2⟩:=next (h5.trans xg) FH.bX hf3 (by grind) I hc.1 hc.2.1 hc.2.2
   cases h2;simp only at c;split at c;cases c;rename_i l F Xc
   let ⟨gy,l1,l0,l2,l3,l4⟩:=leave (qW ds sh) k1 Xc
   let ⟨m1,m2,m3⟩:=wO (g:=gy) (w:=m) (a:=QN) (fr:=l) sX (λb hb=>l0 b (k2 b hb)) z8 (by omega) l1
   have hdf:∀(rv:Rv)(r:gJ S.A (Gr rv))(fr:cr S),(y7 rv r fr).df=fr.df:=by
    intro rv
    induction rv with|nil=>intro _ _;rfl|cons q rv ih=>intro r fr;let ⟨k,t⟩:=q;exact ih _ _
   refine .inr ⟨.ret,_,_,gy,.ret,c,m2.trans l4,m1,l2,⟨λk v hk hv=>?_,by rw[hdf];exact l3.df⟩⟩;rw[m3 k (λhm=>hk (e9 _ hm))];exact(fix l3).tm k v hk hv
  cases h2
 |iN t v hv=>
  obtain⟨hpn,h2⟩|⟨_,h2⟩:=ah h2
  rotate_left;cases h2;split at h2;rotate_left;cases h2;rename_i r' fz owr Xb;split at h2;rotate_left;cases h2;rename_i P hfz;simp[v5]at h2;split at h2;rotate_left;cases h2;rename_i I;obtain⟨hc,h2⟩|⟨_,h2⟩:=ah h2
  rotate_left;cases h2;simp only[eX]at hc;have pE:PW (aL g2 m) (bI [t]) [v]:=⟨rfl,λj t' v' q1 q2=>by
   grind[bI]⟩
  let ⟨p1,p2,p3⟩:=gK hE.sg h5.rel Xb pE
  let ⟨g3,SI,FH,SN⟩:=eK fz h5.rel (dG hE.sg _ hfz) p1
  have ahP:owr=[]:=rq (cs:=[.dat S.pt]) rfl Xb
  let ⟨alr,sX,_⟩:=p3 g3 (aF P) fz SI FH SN (λo ho=>ho) (λo ho=>by grind)
  let ⟨f1,f2,f3,f4,f5,f6,f7⟩:=eS hfz
  have xg:eO s2 g2 m P g3 m:=⟨SI,FH.Jn _,f1,f2,Ee f3.symm,f4,λo _ ho=>f5 o ho,λo ho=>by grind⟩;have hf3:cZ g3 (bM Rs) QN m:=h4.ext FH h5.rel.bF
  let ⟨B,f,R,Cq,k1,k2⟩:=next (h5.trans xg) FH.bX hf3 (by grind) I hc.1 hc.2.1 hc.2.2
  cases h2;simp only at c;obtain⟨_,c⟩|⟨_,c⟩:=ah c
  rotate_left;cases c;split at c;cases c;rename_i l F Xc
  let ⟨gy,l1,l0,l2,l3,l4⟩:=leave (qW ds sh) k1 Xc
  refine .inr ⟨.iN (.ty S.pt r'.1),l,_,gy,.iN _ v ?_,c,l4,l1,l2,fix l3⟩;cases sX with|@dat _ _ x h v vs al hd hr=>exact qS (hd.le λb hb=>l0 b (k2 b hb))
theorem qJ{E:eI S}(hE:fF E){call:gD S}(xe:gT E.T.E.P call)(aau:tF E call)(n:Nat)(fid:FuncId)(rv:Rv){rr:O Nat}:∀(c:Code)(i:Nat){ω:Type}{Q:vT S->cr S->bx S->O ω}{r:ω}{fr:cr S}{s:bx S},
  Ac E call n fid rv c i Q fr s=Z r->(rr≠Y->Rq c=W)->fr.n<=bO->s.lo<=s.aH->∀{g:Gh}{a:Act}{w:az},cZ g (bM fr) a w->bg g (aF s) w->c.wpIn (WR rr) 0 E.T.E.P (JR (eV c++rv.map (·.1)) fr s g w Q r) a w:=by
 intro c
 induction c with
 |region id ops draw=>
  intro i ω Q r fr s h A hn hlo g a w hf hs;cases draw with
  |true=>
   obtain⟨hb,h⟩|⟨_,h⟩:=ah h
   rotate_left;cases h;refine aau id ops _ _ r fr s hb h hn hf hs (λl s' g' K I h1 h2 h3 h4 h5=>.inr ⟨.su,l,s',g',.su,h1,h2,h3,h4,h5.mono (λk B=>gf _ B) (λ_ h=>h)⟩)
    (λl t s' g' K v I h1 h2 h3 h4 h6 h5=>.inr ⟨.iN t,l,s',g',.iN t v h5,h1,h2,h3,h4,h6.mono (λk B=>gf _ B) (λ_ h=>h)⟩) rr A
  |false=>
   refine YD ?_;have:=EA hE xe (Q:=JR (eV (.region id ops J)++rv.map (·.1)) fr s g w Q r) (rr:=rr) (λhr=>Ut (A hr)) ops.toList 0 rfl hn h hf hs
    (λl s' g' K I h1 h2 h3 h4 h5=>.inr ⟨.su,l,s',g',.su,h1,h2,h3,h4,h5.mono (λk B=>gf _ B) (λ_ h=>h)⟩)
    (λl t s' g' K v I h1 h2 h3 h4 h6 h5=>.inr ⟨.iN t,l,s',g',.iN t v h5,h1,h2,h3,h4,h6.mono (λk B=>gf _ B) (λ_ h=>h)⟩)
   grind[List.range_eq_range']
 |seq x y ihx ihy=>
  intro i ω Q r fr s h A hn hlo g a w hf hs;have hds:∀k∈(eV x++rv.map (·.1))++(eV y++rv.map (·.1)),k∈eV (.seq x y)++rv.map (·.1):=by
   grind[eV]
  refine wpIn_seq (wpIn_mono (ihx i h (λhr=>(yp (A hr)).1) hn hlo hf hs) λe K I hq=>?_);obtain hF|⟨ex,l,s',g',h1,h2,h3,h4,h5,h6⟩:=hq
  exact hF.elim;cases h1 with
  |su=>have:=ihy i h2 (λhr=>(yp (A hr)).2) (by omega) (by rw[h5.lo];exact gE hlo h5.aH) h4 h5.rel;exact wpIn_mono this λe a w hq=>(JR.mono h3 h5 h6 hq).ds hds
  |ext j=>exact .inr ⟨_,l,s',g',.ext j,h2,h3,h4,h5,h6.mono (λk B=>hds k (gf _ B)) (λ_ h=>h)⟩|ret=>exact .inr ⟨_,l,s',g',.ret,h2,h3,h4,h5,h6.mono (λk B=>hds k (gf _ B)) (λ_ h=>h)⟩|iN t v hv=>exact .inr ⟨_,l,s',g',.iN t v hv,h2,h3,h4,h5,h6.mono (λk B=>hds k (gf _ B)) (λ_ h=>h)⟩
 |cond c x y ihx ihy=>
  intro i ω Q r fr s h A hn hlo g a w hf hs;have cnd:∀{ω:Type}{Q:vT S->cr S->bx S->O ω}{r:ω}{fr:cr S}{s:bx S},Vp c (Ac E call n fid rv x i) (Ac E call n fid rv y i) Q fr s=Z r->fr.n<=bO->s.lo<=s.aH->∀{g:Gh}{a:Act}{w:az},cZ g (bM fr) a w->bg g (aF s) w->
    (Code.cond c x y).wpIn (WR rr) 0 E.T.E.P (JR (eV (.cond c x y)++rv.map (·.1)) fr s g w Q r) a w:=by
   clear h hn hlo hf hs;intro ω Q r fr s h hn hlo g a w hf hs;have hx:∀k∈eV x++rv.map (·.1),k∈eV (.cond c x y)++rv.map (·.1):=by
    grind[eV]
   have hy:∀k∈eV y++rv.map (·.1),k∈eV (.cond c x y)++rv.map (·.1):=by
    grind[eV]
   have R:∀k∈Vq c,k∈eV (.cond c x y)++rv.map (·.1):=by
    grind[eV]
   have tru:a.eval c=.bool W->Ac E call n fid rv x i Q (fr.ue c W) s=Z r->x.wpIn (WR rr) 0 E.T.E.P (JR (eV (.cond c x y)++rv.map (·.1)) fr s g w Q r) a w:=λhv h=>
    wpIn_mono (ihx i h (λhr=>(yp (A hr)).1) (by rw[ME];exact hn) hlo (HB hn hf hv) hs) λe a w hq=>(JR.mono (ME _ _ _) (eO.refl hs) (UZ hn c W _ _) hq).ds λk B=>(fc.1 B).elim (R k) (hx k)
   have fls:a.eval c=.bool J->Ac E call n fid rv y i Q (fr.ue c J) s=Z r->y.wpIn (WR rr) 0 E.T.E.P (JR (eV (.cond c x y)++rv.map (·.1)) fr s g w Q r) a w:=λhv h=>
    wpIn_mono (ihy i h (λhr=>(yp (A hr)).2) (by rw[ME];exact hn) hlo (HB hn hf hv) hs) λe a w hq=>(JR.mono (ME _ _ _) (eO.refl hs) (UZ hn c J _ _) hq).ds λk B=>(fc.1 B).elim (R k) (hy k)
   unfold Vp at h;split at h;rename_i R;have:=bY hf (cH R);generalize hv:a.eval c=v at this;cases this;exact wpIn_cond_true hv (wpIn_mono (ihx i h (λhr=>(yp (A hr)).1) hn hlo hf hs) λe a w hq=>hq.ds hx);rename_i R;have:=bY hf (cH R);generalize hv:a.eval c=v at this;cases this;exact wpIn_cond_false hv (wpIn_mono (ihy i h (λhr=>(yp (A hr)).2) hn hlo hf hs) λe a w hq=>hq.ds hy)
   .rename_i e R;have:=bY hf (cH R);generalize hv:a.eval c=v at this
    let ⟨h2,h1⟩:=XJ h
    cases this with
    |ub _ b hb=>
     simp_all[wpIn_cond_split]
   rename_i t _ _ _ R;split at h;rename_i b hb
   let ⟨p,e,hp⟩:=mS hb
   have hv:=jC e hp (bY hf (cH R))
   grind[wpIn_cond_split,tO]
   cases h;cases h
  grind[Ac,SD]
 |block j b ih=>
  intro i ω Q r fr s h A hn hlo g a w hf hs;refine wpIn_block (wpIn_mono (ih j h A hn hlo hf hs) λe K I hq=>?_);obtain hF|⟨ex,l,s',g',h1,h2,h3,h4,h5,h6⟩:=hq
  exact hF.elim;cases h1 with|su=>exact .inr ⟨_,l,s',g',.su,h2,h3,h4,h5,h6⟩|ext k=>simp[PN]at h2;simp[Exit.inBlock];split at h2;rename_i hji;rw[bH (beq_iff'.1 hji)];exact .inr ⟨_,l,s',g',.su,h2,h3,h4,h5,h6⟩;rw[bS (λe=>by simp_all)];exact .inr ⟨_,l,s',g',.ext k,h2,h3,h4,h5,h6⟩|ret=>exact .inr ⟨_,l,s',g',.ret,h2,h3,h4,h5,h6⟩|iN t v hv=>exact .inr ⟨_,l,s',g',.iN t v hv,h2,h3,h4,h5,h6⟩
 |loop b ih=>
  intro i ω Q r fr s h A hn hlo g a w hf hs;simp[Ac]at h;split at h;cases h;rename_i sh pts al pl hsh;refine LG ?_;clear hsh
  induction pl generalizing fr s g a w with
  |succ pl ihp=>
   refine u0 (wpIn_mono (ih i h A hn hlo hf hs) λe K I hq=>?_);obtain hF|⟨ex,l,s',g',h1,h2,h3,h4,h5,h6⟩:=hq
   exact hF.elim;have hds:∀k∈eV b++rv.map (·.1),k∈eV (.loop b)++rv.map (·.1):=λk B=>B;cases h1 with
   |su=>
    intro b1 k1 cs1 ahL;have ihq:=ihp (fr:=l) (s:=s') (g:=g') (a:=K) (w:=I) (h:=h2) (hn:=by omega) (hlo:=by rw[h5.lo];exact gE hlo h5.aH) (hf:=h4) (hs:=h5.rel)
    let ⟨e,a2,w2,hq,MM⟩:=ihq b1 k1 cs1 ahL
    refine⟨e,a2,w2,?_,MM⟩;exact(JR.mono h3 h5 h6 hq).ds λk B=>(fc.1 B).elim (hds k) id
   |ext j=>exact .inr ⟨_,l,s',g',.ext j,h2,h3,h4,h5,h6⟩|ret=>exact .inr ⟨_,l,s',g',.ret,h2,h3,h4,h5,h6⟩|iN t v hv=>exact .inr ⟨_,l,s',g',.iN t v hv,h2,h3,h4,h5,h6⟩
  |zero=>
  simp[Zm]at h
  suffices main:∀{fr:cr S}{s:bx S}{g:Gh}{a:Act}{w:az},ZM E n rv (Ac E call n fid rv b i) sh pts al (eV b++rv.map (·.1)) (xq (lO b)) Q fr s=Z r->fr.n<=bO->s.lo<=s.aH->cZ g (bM fr) a w->bg g (aF s) w->IS rr E.T.E.P b (JR (eV (.loop b)++rv.map (·.1)) fr s g w Q r) a w by
   obtain⟨_,h⟩|⟨_,h⟩:=ah h
   rotate_left
   simp_all
   obtain⟨hnb,h⟩|⟨_,h⟩:=ah h
   rotate_left;cases h;have hnb:s.aH<bO:=gY hnb;have hg:∀k,(dy s .Hj).ob.get k=if k=s.aH then Z .Hj else s.ob.get k:=λk=>Tr.aX _ _ _ _ hnb
   have AE:bg g (aF (dy s .Hj)) w:=by
    refine⟨hnb,λo ho=>hs.aj o (Nat.le_of_succ_le ho),λo b hb=>?_,λo e x hx=>?_,hs.bF,hs.kj⟩
    let ⟨k1,k2,k3⟩:=hs.box o b hb
    refine⟨k1,k2,λob lV=>k3 ob ?_⟩;have:=hs.lt hb;rw[aN,hg,bS (by have h:o<s.aH:=this;omega)]at lV;rw[aN];exact lV
    let ⟨k1,k2⟩:=hs.arr o e x hx
    refine⟨k1,λob lV=>k2 ob ?_⟩;have:=hs.lt' hx;rw[aN,hg,bS (by have h:o<s.aH:=this;omega)]at lV;rw[aN];exact lV
   have xg:eO s g w (dy s .Hj) g w:=by refine⟨AE,o4.refl _ _ _ _,rfl,rfl,Ed _,λ_ h=>h,λo ho _=>?_,λ_ h=>h⟩;rw[hg,bS (by omega)]
   intro b1 k1 cs1 ahL
   let ⟨e,a2,w2,hq,MM⟩:=main (fr:={fr with df:=.marks s.aH::fr.df}) (s:=dy s .Hj) h hn (Nat.le_succ_of_le hlo) ⟨hf.size,.marks s.aH [] .nil (λb hb=>by cases hb) hf.df,hf.tm⟩ AE b1 k1 cs1 ahL
   refine⟨e,a2,w2,?_,MM⟩;exact(JR.mono (ds:=[]) (fr:=fr) (uh:={fr with df:=.marks s.aH::fr.df}) rfl xg ⟨λk v _ B=>.inl B,[.marks s.aH],fr.df,rfl,.refl _ _⟩ hq).ds λk B=>B
  clear h hn hlo hf hs;intro fr s g a w h hn hlo hf hs;unfold ZM at h;split at h;cases h;rename_i bs ahT;split at h;cases h;rename_i x0 s1 ow hpk;obtain⟨hb,h2⟩|⟨_,h2⟩:=ah h
  rotate_left;cases h2;clear h;rw[eX,eX]at hb
  let ⟨⟨KD,KG⟩,aat⟩:=hb
  rw[eX,eX]at KG
  let ⟨KG,aay,aih⟩:=KG
  let ⟨o,amh,u⟩:=jq h2
  clear h2;generalize hds:(eV b++rv.map (·.1))++(exS (eV b++rv.map (·.1)) sh++al.map (·.1))=ds at *
  let ⟨bl0,SS⟩:=tY hf hs ahT
  have MK:∀d∈ds,d<bO:=λd hd=>by rw[kU]at aat;exact iW (gY (aat d hd)) hn
  have Xi:∀p∈al,p.1<bO:=λp hp=>MK _ (by grind);have Xh:∀k∈al.map (·.1),k∈ds:=λk B=>by grind
  let ⟨g1,Yl,EN,bl1,C⟩:=kX hE.sg hf hs SS hpk
  have SQ:=IA (fr:=fr) hf hs MK C;have ahJ:s1.aH<=bO:=C.rel.aH;have aaw:(cR ds ow bs fr s1).1.n<=bO:=hn;have fix:∀{P:cr S},dB ds fr P (ow++s1.dr) s.aH->dB (eV (.loop b)++rv.map (·.1)) fr P (ow++s1.dr) s.aH:=by
   intro P hfo;refine⟨λk v B hv=>?_,hfo.df⟩;by_cases wG:k∈ds
   right
   rw[<-hds]at wG;obtain wG|wG:=fc.1 wG
   exact absurd wG B;obtain wG|wG:=fc.1 wG
   unfold aeF at KG;rw[kU]at KG;have h1:=KG k wG;split at h1;rename_i o' r' ho';rw[hv]at ho';cases ho';have:=Zs hpk (oz wG) hv;simp[cQ,dU,this];cases h1;obtain⟨p,hp,rfl⟩:=wP.1 wG;obtain⟨o1,r1,rfl,this⟩:=QJ aih hp hv;simp[cQ,dU,this];exact hfo.tm k v wG hv
  let Inv (K:Act) (I:az) (m:Nat):Prop:=acA K I al/\∃x gb vals als bl,iter (Gx rv (Ac E call n fid rv b i) sh bs s1.aH (xq (lO b)) (cR ds ow bs fr s1) E.pn al) m x=Z o/\xY sh bs (cR ds ow bs fr s1).1 (cR ds ow bs fr s1).2 s g w x K gb I vals als bl
  have aaq:∀(K:Act)(I:az),∃m,(∃k,Inv K I k)->Inv K I m/\∀k,Inv K I k->m<=k:=by intro K I;by_cases hex:∃k,Inv K I k;obtain⟨m,hm,hmin⟩:=WV (λk=>Inv K I k) hex;exact⟨m,λ_=>⟨hm,hmin⟩⟩;exact⟨0,λh=>absurd h hex⟩
  obtain⟨f,hM⟩:∃f:Act->az->Nat,∀K I,(∃k,Inv K I k)->Inv K I (f K I)/\∀k,Inv K I k->f K I<=k:=
   ⟨λK I=>Classical.choose (aaq K I),λK I=>Classical.choose_spec (aaq K I)⟩
  refine Sv (λK I=>∃k,Inv K I k) f ?_ _ a w (eP _) ⟨n,yK hf hs aay,x0,_,Yl,EN,bl1,amh,SQ⟩;intro K I hI
  let ⟨⟨aaz,x,gb,vals,als,bl,hit,hbase⟩,hmin⟩:=hM K I hI
  let ⟨m,hm,o',HN,Ew⟩:=W7 hit
  unfold Gx at HN;split at HN;cases HN;rename_i ail zJ Pw
  let ⟨gh,hh0,Xd⟩:=hbase.head aaw Pw
  have hh:=hh0.m9 Xi aaz;generalize m9 zJ al ail=CZ at hh HN;have asQ:CZ.n=fr.n:=hh.n;have ama:zJ.lo<=zJ.aH:=by have h1:zJ.lo=s.lo:=hh.lo.trans C.lo;have h2:=hh.aH;have h3:(cR ds ow bs fr s1).2.aH=s1.aH:=rfl;have:=C.aH;omega
  have aao:s1.aH<=zJ.aH:=hh.aH;have sX:bg gh (aF {zJ with lo:=s1.aH}) _:=⟨hh.rel.aH,hh.rel.aj,hh.rel.box,hh.rel.arr,hh.rel.bF,hh.rel.kj⟩;have HM:zJ.lo=(cR ds ow bs fr s1).2.lo:=hh.lo;refine wpIn_mono (ih i HN A (by omega) aao hh.fr sX) λe QN F hq=>?_;obtain hF|⟨ex,Rs,s20,g2,h1,h2,h3,h4,h50,h60⟩:=hq
  exact hF.elim;have h5:=eO.lower (s:=zJ) h50 (by have:=hh.lo.trans C.lo;have:=C.aH;omega);rw[<-HM]at h2;dsimp only at h2;obtain⟨s2,NR⟩:∃s2:bx S,s2={s20 with lo:=zJ.lo}:=⟨_,rfl⟩;have h6:=h60;rw[show s20.dr=s2.dr by rw[NR]]at h6;rw[<-NR]at h2 h5;unfold RP at h2
  replace h6:dB ds CZ Rs s2.dr zJ.aH:=h6.mono (λk B=>by grind) (λ_ h=>h)
  obtain⟨ah4,h2⟩|⟨_,h2⟩:=ah h2
  rotate_left;cases h2;have SO:s2.fl=s.fl:=h5.fl.trans (hh.fl.trans C.fl);have hmk:∀{MN:Gh},(∀o b,g2.bX o=Z b->MN.bX o=Z b)->Marks s1.aH s.fl (cR ds ow bs fr s1) Rs MN F:=λ{MN}hq=>by have:=AW h5.rel ah4;rw[SO]at this;exact this.mono h4 hq
  have next:∀{RG:Sh}{y:gp S.A (lY RG)}{s2' s3:bx S}{MN:Gh}{NQ:L Nat},eO zJ gh I s2' MN F->(∀o b,g2.bX o=Z b->MN.bX o=Z b)->cZ MN (bM Rs) QN F->dB ds CZ Rs s2'.dr zJ.aH->rm RG bs Rs s2'=Z (y,s3,NQ)->
    VY s1.aH bs s3.wr=W->NQ.all (λo=>Nl s1.aH o)=W->s3.dr.all (λo=>Nl s1.aH o)=W->
    ∃Xm z v9 Cq,xY RG bs (cR ds ow bs fr s1).1 (cR ds ow bs fr s1).2 s g w y QN Xm F z v9 Cq/\∀b,MN.bF b->Xm.bF b:=by
   intro RG y s2' s3 MN NQ k1 k0 k2 k3 k4 k5 k6 k7
   let ⟨g3,z,v9,Cq,hp2⟩:=kX hE.sg (bl0:=bl) k2 k1.rel ⟨hbase.Ji.1,λj o b q1 q2=>k1.ext.bX o b (hh.le.bX o b (hbase.Ji.2 j o b q1 q2))⟩ k4
   let ⟨Xm,AF,qq⟩:=Li Xh MK (λb hb=>⟨by have:=(C.Vv b hb).2.1;rw[C.aH];exact this,(C.Vv b hb).2.2.1⟩) ahJ (by rw[C.aH];exact hlo) (λo ho=>(C.Zr o ho).2.1) (λo b hb=>⟨by rw[C.aH];exact hs.lt hb,λhm=>by rw[C.owb o hm]at hb;cases hb⟩) KD C.lo C.fl Xd hh k1 k2 k3 h3 (hmk k0) hp2 k5 k6 k7
   exact⟨Xm,z,v9,Cq,AF,λb hb=>by rw[qq];exact hp2.ext.bF b hb⟩
  have leave:∀{RG:Sh}{y:gp S.A (lY RG)}{Xm:Gh}{z:L aD}{v9:L fy}{Cq:L Nat}{P:cr S}{sty:bx S},Gn ds RG=W->xY RG bs (cR ds ow bs fr s1).1 (cR ds ow bs fr s1).2 s g w y QN Xm F z v9 Cq->nJ RG bs y (cR ds ow bs fr s1).1 (cR ds ow bs fr s1).2=Z (P,sty)->
    ∃gy,cZ gy (bM P) QN F/\(∀b,Xm.bF b->gy.bF b)/\eO s g w {sty with wr:=s1.ob.jZ (gQ (dU ow s1.aH))++(bs++s1.wr),dr:=ow++s1.dr} gy F/\dB ds fr P (ow++s1.dr) s.aH/\P.n=fr.n:=by
   intro RG y Xm z v9 Cq P sty ahI k1 k2
   let ⟨gy,k3,k4⟩:=k1.head aaw k2
   let ⟨k5,k6,k7⟩:=QD (ex:=[]) (λ_ h=>by cases h) hs MK C ahI k4 k3
   exact⟨gy,k3.fr,k3.le.bF,k5,k6,k7⟩
  cases h1 with
  |su=>
   obtain⟨aaB,h2⟩|⟨_,h2⟩:=ah h2
   rotate_left;cases h2;simp[v5]at h2;split at h2
   .rename_i y s3 NQ SJ;obtain⟨R,h2⟩|⟨_,h2⟩:=ah h2
    rotate_left;cases h2;simp only[eX]at R
    let ⟨Xm,z,v9,Cq,k1,_⟩:=next h5 (λ_ _ h=>h) h4 h6 SJ R.1 R.2.1 R.2.2
    cases h2;obtain⟨y',hy',ael⟩|⟨rfl,hno⟩:=Ew
    cases hy';have hIy:Inv QN F m:=⟨yK h4 h5.rel aaB,y,Xm,z,v9,Cq,ael,k1⟩;refine⟨⟨m,hIy⟩,?_⟩;have:=(hM QN F ⟨m,hIy⟩).2 m hIy;omega
    grind
   cases h2
  |ext j=>
   obtain⟨hj,h2⟩|⟨_,h2⟩:=ah h2
   rotate_left;cases h2;simp[v5]at h2;split at h2
   .rename_i y s3 NQ SJ;obtain⟨R,h2⟩|⟨_,h2⟩:=ah h2
    rotate_left;cases h2;simp only[eX]at R
    let ⟨Xm,z,v9,Cq,k1,_⟩:=next h5 (λ_ _ h=>h) h4 h6 SJ R.1 R.2.1 R.2.2
    cases h2;obtain⟨y',hy',ael⟩|⟨rfl,hno⟩:=Ew
    cases hy';simp only at u;split at u;cases u;rename_i P sty Xc
    let ⟨gy,l1,_,l2,l3,l4⟩:=leave KD k1 Xc
    rw[eX]at hj;have hjm:j∈xq (lO b):=by grind
    let ⟨m1,m2,m3,m4⟩:=mJ (s:=sty) l2.rel Xi (yK h4 h5.rel hj.2) l1
    exact .inr ⟨.ext j,m9 sty al P,_,gy,.ext j,zV hjm u,m2.trans l4,m1,l2,fix ⟨λk v B hv=>by rw[m4 k λhm=>B (Xh k hm)];exact l3.tm k v B hv,by rw[m3];exact l3.df⟩⟩
   cases h2
  |ret=>
   simp only at h2;split at h2;cases h2;rename_i vs hvs;split at h2;rotate_left;cases h2;rename_i r' fz owr Xb;split at h2;rotate_left;cases h2;rename_i s2' hfz;simp[v5]at h2;split at h2
   .rename_i y s3 NQ SJ;obtain⟨R,h2⟩|⟨_,h2⟩:=ah h2
    rotate_left;cases h2;simp only[eX]at R
    let ⟨akc,z8,pE⟩:=LW h4 hvs
    let ⟨p1,p2,p3⟩:=gK hE.sg h5.rel Xb pE
    let ⟨g3,SI,FH,SN⟩:=eK fz h5.rel (dG hE.sg _ hfz) p1
    have ahP:owr=[]:=rq (DB rv) Xb
    let ⟨alr,sX,_⟩:=p3 g3 (aF s2') fz SI FH SN (λo ho=>ho) (λo ho=>by grind)
    let ⟨f1,f2,f3,f4,f5,f6,f7⟩:=eS hfz
    have xg:eO s2 g2 F s2' g3 F:=⟨SI,FH.Jn _,f1,f2,Ee f3.symm,f4,λo _ ho=>f5 o ho,λo ho=>by grind⟩;have hf3:cZ g3 (bM Rs) QN F:=h4.ext FH h5.rel.bF
    let ⟨Xm,z,v9,Cq,k1,k2⟩:=next (h5.trans xg) FH.bX hf3 (by grind) SJ R.1 R.2.1 R.2.2
    cases h2;obtain⟨y',hy',ael⟩|⟨rfl,hno⟩:=Ew
    cases hy';simp only at u;split at u;cases u;rename_i P sty Xc
    let ⟨gy,l1,l0,l2,l3,l4⟩:=leave (qW ds sh) k1 Xc
    let ⟨m1,m2,m3⟩:=wO (g:=gy) (w:=F) (a:=QN) (fr:=P) sX (λb hb=>l0 b (k2 b hb)) z8 (by omega) l1
    have hdf:∀(rv:Rv)(r:gJ S.A (Gr rv))(fr:cr S),(y7 rv r fr).df=fr.df:=by
     intro rv
     induction rv with|nil=>intro _ _;rfl|cons q rv ih=>intro r fr;let ⟨k,t⟩:=q;exact ih _ _
    refine .inr ⟨.ret,_,_,gy,.ret,u,m2.trans l4,m1,l2,⟨λk v B hv=>?_,by rw[hdf];exact l3.df⟩⟩;rw[m3 k (λhm=>B (e9 _ hm))];exact(fix l3).tm k v B hv
   cases h2
  |iN t v hv=>
   obtain⟨hpn,h2⟩|⟨_,h2⟩:=ah h2
   rotate_left;cases h2;split at h2;rotate_left;cases h2;rename_i r' fz owr Xb;split at h2;rotate_left;cases h2;rename_i s2' hfz;simp[v5]at h2;split at h2;rotate_left;cases h2;rename_i SJ;obtain⟨R,h2⟩|⟨_,h2⟩:=ah h2
   rotate_left;cases h2;simp only[eX]at R;have pE:PW (aL g2 F) (bI [t]) [v]:=⟨rfl,λj t' v' q1 q2=>by
    grind[bI]⟩
   let ⟨p1,p2,p3⟩:=gK hE.sg h5.rel Xb pE
   let ⟨g3,SI,FH,SN⟩:=eK fz h5.rel (dG hE.sg _ hfz) p1
   have ahP:owr=[]:=rq (cs:=[.dat S.pt]) rfl Xb
   let ⟨alr,sX,_⟩:=p3 g3 (aF s2') fz SI FH SN (λo ho=>ho) (λo ho=>by grind)
   let ⟨f1,f2,f3,f4,f5,f6,f7⟩:=eS hfz
   have xg:eO s2 g2 F s2' g3 F:=⟨SI,FH.Jn _,f1,f2,Ee f3.symm,f4,λo _ ho=>f5 o ho,λo ho=>by grind⟩;have hf3:cZ g3 (bM Rs) QN F:=h4.ext FH h5.rel.bF
   let ⟨Xm,z,v9,Cq,k1,k2⟩:=next (h5.trans xg) FH.bX hf3 (by grind) SJ R.1 R.2.1 R.2.2
   cases h2;obtain⟨y',hy',ael⟩|⟨rfl,hno⟩:=Ew
   cases hy'
   .obtain ⟨_,u⟩|⟨_,u⟩:=ah u
    rotate_left;cases u;split at u;cases u;rename_i P sty Xc
    let ⟨gy,l1,l0,l2,l3,l4⟩:=leave (qW ds sh) k1 Xc
    refine .inr ⟨.iN (.ty S.pt r'.1),P,_,gy,.iN _ v ?_,u,l4,l1,l2,fix l3⟩;cases sX with|@dat _ _ x h v vs al hd hr=>exact qS (hd.le λb hb=>l0 b (k2 b hb))
 |exit j=>intro i ω Q r fr s h A hn hlo g a w hf hs;exact wpIn_exit (.inr ⟨_,fr,s,g,.ext j,h,rfl,hf,eO.refl hs,dB.refl _ _ _ _⟩)
 |ret=>intro i ω Q r fr s h A hn hlo g a w hf hs;exact wpIn_ret (.inr ⟨_,fr,s,g,.ret,h,rfl,hf,eO.refl hs,dB.refl _ _ _ _⟩)
 |skip=>intro i ω Q r fr s h A hn hlo g a w hf hs;exact wpIn_skip (.inr ⟨_,fr,s,g,.su,h,rfl,hf,eO.refl hs,dB.refl _ _ _ _⟩)
 |label j=>intro i ω Q r fr s h A hn hlo g a w hf hs;exact wpIn_label (.inr ⟨_,fr,s,g,.su,h,rfl,hf,eO.refl hs,dB.refl _ _ _ _⟩)
 |scope b ih=>
  intro i ω Q r fr s h A hn hlo g a w hf hs;have hr0:rr=Y:=by
   grind[Rq]
  subst hr0;refine wpIn_wide.2 (wp_scope_straight (wp_mono (wpIn_wide.1 (ih i h (λh=>absurd rfl h) hn hlo hf hs)) λe K I hq=>?_));obtain hF|⟨ex,l,s',g',h1,h2⟩:=hq
  exact hF.elim;cases h1 with|su=>exact .inr ⟨_,l,s',g',.su,h2⟩|ext j=>exact .inr ⟨_,l,s',g',.ext j,h2⟩|ret=>exact .inr ⟨_,l,s',g',.ret,h2⟩|iN t v hv=>exact .inr ⟨_,l,s',g',.iN t v hv,h2⟩
 |rangeFunc gv ps asg body _ _=>
  grind[Rq,Ot]
 |_=>intro i ω Q r fr s h;simp[Ac]at h
end
section
def O3:∀t:T,dQ (λ_=>J) t=J:=by
 intro t
 induction t using T.rec (motive_2:=λl=>jG (λ_=>J) l=J)with|fn f a b d g=>simp[dQ,d,g]|dn t v e=>simp[dQ,e]|agg i e=>simp[dQ,e]|gX i e=>simp[dQ,e]|gd c v e=>simp[dQ,e]|nil=>rfl|cons a l d h=>simp[jG,d,h]|_=>simp[dQ]
theorem uO(b:fE S){E:gC}(c:TB S E){s:bx S}{fr:cr S}:∀{l:L ResultVar}{vs:L (V S)},lZ E s fr l=Z vs->∃p,m7 E.E (aF s) (bM fr) l=Z (p,bI vs)/\p
 |[],vs,h=>by simp only[lZ,gV]at h;subst h;exact⟨True,rfl,trivial⟩
 |.tmp t::l,vs,h=>by
  simp[lZ]at h;split at h;rename_i x r h1 h2;simp at h
  let ⟨p,e,d⟩:=uO b c h2
  exact⟨p,by grind[m7,cq,bI],d⟩;cases h
 |.cell a t::l,vs,h=>by
  simp[lZ]at h;split at h;rename_i f m;split at h;rename_i g h2;obtain⟨i,h⟩|⟨_,h⟩:=ah h
  simp at h;obtain⟨rfl,q,n,j⟩:=Kv b (λu k=>c.row _ _ _ f k) g i
  let ⟨p,e,d⟩:=uO b c h2
  exact⟨q/\p,by grind[m7,cq,bI],j,d⟩;iterate 3 cases h
theorem ZL:∀l:L (V S),low (EY l)=agO (bI l)
 |[]=>rfl|[_]=>rfl|_::_::_=>rfl
variable {s s' s0:bx S}{g g' g0:Gh}{w w' w0:az}{E:eI S}{call:gD S}{m:Nat}{st:aa->List Frame}
def eO.Jn(hs:bg g (aF s) w)(h:eO {s with lo:=s.aH} g w s' g' w'):cU [] s g w {s' with lo:=s.lo} g' w':=by have d:kg g.bF w w':=λb c=>h.ext.heap b (hs.bF b c) (λo _ f=>f.1 c);refine⟨⟨h.rel.aH,h.rel.aj,h.rel.box,h.rel.arr,h.rel.bF,h.rel.kj⟩,⟨λo b e=>h.ext.bX o b e,λo e x _ k=>h.ext.arr o e x (hs.lt' k) k,h.ext.bF,h.ext.size,h.ext.heap,h.ext.own,h.ext.oN,h.ext.os,h.ext.output⟩,h.fl,rfl,h.aH,h.uF,h.same,λt v i _=>?_,λo a=>(by cases a),h.Ik,λo a=>(by cases a)⟩;exact i.on (p:=λ_=>J) ⟨λo b _ e=>h.ext.bX o b e,λo e x _ k=>h.ext.arr o e x (hs.lt' k) k,h.ext.bF⟩ d (O3 t)
theorem zc{E:eI S}(b:fF E){g:Gh}{w:az}{fr:cr S}{s:bx S}{a:Act}(hf:cZ g (bM fr) a w)(hs:bg g (aF s) w){fn:Func}{l:L (V S)}(h:lZ E.T s fr fn.results.toList=Z l) :
  ∃v,(results fn a.tmps).run E.T.E.P w=.ok v w/\aL g w (low (EY l)) v:=by
 let ⟨p,e,c⟩:=uO b.sg b.ty h
 let ⟨v,d,f⟩:=Oj b.V5 hf hs e c
 grind[ZL]
def cU.trans{s s' b:bx S}{g g' c:Gh}{w w' d:az}(h:cU [] s g w s' g' w')(k:cU [] s' g' w' b c d):cU [] s g w b c d where
 rel:=k.rel
 ext:=h.ext.trans (h.fl▸h.lo▸k.ext)
 fl:=k.fl.trans h.fl
 lo:=k.lo.trans h.lo
 aH:=gE h.aH k.aH
 uF:=λo a=>k.uF o (h.uF o a)
 same:=λo f a=>(k.same o (iW f h.aH) a).trans (h.same o f λe=>a (k.uF o e))
 tr:=λt v i e=>k.tr t v (h.tr t v i e) e
 oww:=λo a=>by cases a
 Ik:=λo a=>k.Ik o (h.Ik o a)
 owd:=λo a=>by cases a
def UR(g:Gh)(w:az):O (V S)->FrameMode->Prop
 |none,u=>u=.returning|some t,u=>∃v,u=.panicking [{v,recovered:=J}]/\aL g w (low t) v
structure agh(g:Gh)(s:bx S)(w:az)(pv:Option (V S))(st:aa->List Frame)(vp:aD):Prop where
 rel:∀g' s' w',eO s g w s' g' w'->aL g' w' (low (akg pv)) vp
 rcv:(pv=Y/\recoverD (st J)=Y/\vp=.nilIface)\/(pv.isSome=W/\recoverD (st J)=Z (vp,st W))
def QRV(s:bx S)(g:Gh)(w:az)(m:Nat)(st:aa->L Frame){ω:Type}(Q:aa->vT S->cr S->bx S->O ω)(r:ω)(e:Exit)(a:Act)(cs:L Frame)(w':az):Prop:=
 False\/∃b ex fr' s' g',cs=st b/\JV g' w' ex e/\Q b ex fr' s'=Z r/\fr'.n=m/\cZ g' (bM fr') a w'/\eO s g w s' g' w'
theorem Z3{o:Oper}(h:isRec o=W):o.guard=Y/\∃c,o.op=.call c/\c.callee=.builtin .recover:=by
 grind[isRec]
def uI(l:fF E)(b:gT E.T.E.P call)(d:tF E call)(n:Nat)(j:FuncId)(rv:Rv)(hlo:s0.lo<=s0.aH)(t:m<=bO)(f:aa)
  (c:Code) (i:Nat) {ω:Type} {Q:aa->vT S->cr S->bx S->O ω} {r:ω} {fr:cr S} {s:bx S} (h:Ac E call n j rv c i (Q f) fr s=Z r) (hn:fr.n=m) {g:Gh} {a:Act} {w:az} (hs:eO s0 g0 w0 s g w) (hf:cZ g (bM fr) a w) :
  c.wpS E.T.E.P (QRV s0 g0 w0 m st Q r) a (st f) w:=by
 refine wpS_of_wp (wp_mono (wpIn_wide.1 (qJ (rr:=Y) l b d n j rv c i h (λh=>absurd rfl h) (by omega) ?_ hf hs.rel)) λe u w' o=>?_);have:=hs.aH;rw[hs.lo];omega;obtain p|⟨q,k,s',g',h1,h2,h3,h4,h5,h6⟩:=o
 exact p.elim;exact .inr ⟨f,q,k,s',g',rfl,h1,h2,h3.trans hn,h4,hs.trans h5⟩
def Xs(hE:fF E)(f:gT E.T.E.P call)(p:tF E call)(n:Nat)(pv:O (V S))(A:FuncId)(rv:Rv)(hlo:s0.lo<=s0.aH)(hm:m<=bO){vp:aD}
  (K:agh g0 s0 w0 pv st vp):∀(c:Code)(i:Nat){ω:Type}{Q:aa->vT S->cr S->bx S->O ω}{r:ω}{fr:cr S}{s:bx S},evR E call n pv A rv c i Q fr s=Z r->fr.n=m->
  ∀{g:Gh}{a:Act}{w:az},eO s0 g0 w0 s g w->cZ g (bM fr) a w->c.wpS E.T.E.P (QRV s0 g0 w0 m st Q r) a (st J) w:=by
 intro c
 induction c with
 |seq x y ihx ihy=>
  intro i ω Q r fr s h hn g a w B hf;refine wpS_seq λb k hb hr=>?_
  let ⟨e,a',cs',w',hq,z⟩:=ihx i h hn B hf b k hb hr
  refine⟨e,a',cs',w',?_,z⟩;obtain hF|⟨d,ex,u,s',g',h0,h1,h2,h3,h4,h5⟩:=hq
  exact hF.elim;cases h1 with|su=>subst h0;exact uI hE f p n A rv hlo hm d y i h2 h3 h5 h4|ext j=>exact .inr ⟨d,_,u,s',g',h0,.ext j,h2,h3,h4,h5⟩|ret=>exact .inr ⟨d,_,u,s',g',h0,.ret,h2,h3,h4,h5⟩|iN t v hv=>exact .inr ⟨d,_,u,s',g',h0,.iN t v hv,h2,h3,h4,h5⟩
 |region id q draw=>
  intro i ω Q r fr s h hn g a w B hf;cases draw with
  |true=>exact uI hE f p n A rv hlo hm J _ i h hn B hf|false=>
   simp[evR]at h;split at h;rotate_left;cases h;rename_i o l C;obtain⟨hr,h2⟩|⟨_,h2⟩:=ah h
   rotate_left;exact uI hE f p n A rv hlo hm J _ i h2 hn B hf;obtain⟨hd,h3⟩|⟨_,h3⟩:=ah h2
   rotate_left;cases h3
   let ⟨hg,c,hop,ML⟩:=Z3 hr
   rw[<-C]at h3;have ho:q[0]?=Z o:=by have:=eC (λl=>l[0]?) C;simpa using this
   have hsz:q.size=l.length+1:=by have:=eC List.length C;simpa using this
   have hw:Region.wanted o (yielded q a.tmps)=W:=by simp[Region.wanted,hg]
   have R:(execOp a.eval o).run E.T.E.P w=.ok .recover w:=by simp[execOp,hop,resolve,ML,run_bind,run_pure,andThen_ok,invoke];simp[builtin]
   have sX:=K.rel _ _ _ B
   let ⟨k1,k2⟩:=uT hf hd (by omega) sX
   have key:∃d,d=pv.isSome/\recoverD (st J)=(if d then Z (vp,st W)else Y)/\(d=J->vp=.nilIface):=by
    obtain⟨e1,e2,e3⟩|⟨e1,e2⟩:=K.rcv
    exact⟨J,by rw[e1];rfl,by simpa using e2,λ_=>e3⟩;exact⟨W,e1.symm,by simpa using e2,λh=>by cases h⟩
   let ⟨d,ar4,hrd,SM⟩:=key
   rw[<-ar4]at h3;have hwp:xP Y E.T.E.P q (λe a' w'=>QRV s0 g0 w0 m st Q r e a' (st d) w') (List.range' 1 l.length) (a.put o.dst vp) w:=by
    refine EA hE f (rr:=Y) (λh=>absurd rfl h) l 1 (by rw[C];rfl) (by rw[k2];omega) h3 k1 B.rel (λu s' g' a' w' q1 q2 q3 q4 _=>.inr ⟨d,.su,u,s',g',rfl,.su,q1,by omega,q3,B.trans q4⟩)
     (λu t s' g' a' v w' q1 q2 q3 q4 _ q5=>.inr ⟨d,.iN t,u,s',g',rfl,.iN t v q5,q1,by omega,q3,B.trans q4⟩)
   intro b k hb hro;have F:List.range q.size=0::List.range' 1 l.length:=by rw[List.range_eq_range',hsz,List.range'_succ]
   have hgo:=stepG_op (P:=E.T.E.P) (b:=b) (k:=k) (cs:=st J) (w:=w) (rest:=List.range' 1 l.length) ho hw;have asU:∀v,(b.at a (.inRegion q (0::List.range' 1 l.length)::k)).finish v=b.at (a.put o.dst v) (.inRegion q (List.range' 1 l.length)::k):=by intro v;rw[Frame.finish_at,ho];rfl
   have hk:(b.at a (.inRegion q (0::List.range' 1 l.length)::k)).kind=.deferred:=hb;have I:=tryRecover_deferred hk (st J)
   let ⟨e,a',w',hq,amD⟩:=nW _ _ _ hwp b k (st d) hro
   have z:=(arrivesIn_iff (λ_ _=>stepsIn_wide) hro).1 amD;rw[Frame.atR_of_none hro]at z;refine⟨e,a',st d,w',hq,.of_steps (.one step_region) ?_⟩;rw[F];refine .of_steps (.one (step_lone_go ?_)) z;rw[hgo,<-asU];simp[Frame.at]at I ⊢;rw[hrd]at I;cases d with|true=>simp[stepG.apply,R,I]|false=>have:=SM rfl;subst this;simp[stepG.apply,R,I]
 |_=>intro i ω Q r fr s h hn g a w B hf;exact uI hE f p n A rv hlo hm J _ i h hn B hf
def Yj:FrameMode->aD
 |.panicking (p::_)=>p.v|_=>.nilIface
def agL:FrameMode->FrameMode
 |.panicking (p::_)=>.panicking [{v:=p.v,recovered:=W}]|m=>m
theorem PU{E:eI S}(hE:fF E){call:gD S}(R:gT E.T.E.P call)(aau:tF E call)(n:Nat){q:O (V S)}{d:tG S}{s:bx S}{ω:Type}{k:aa->bx S->O ω}{r:ω}(h:Vj E call n q d s k=Z r)
  {g:Gh} {w:az} (hs:bg g (aF s) w) {e:Deferred} (hd:xW g w (mP d) e) {u:FrameMode} (l:UR g w q u) :
  u≠.run/\((∃b w',e.target=.collected b/\(Instr.takeDeferred b).run E.T.E.P w=.ok [] w'/\∃s',k J s'=Z r/\UR g w' q u/\cU [] s g w s' g w')\/∃fv cap f args,e.target=.fn fv cap/\(invoke e.target e.args).run E.T.E.P w=.ok (.enter f args) w/\CallsD E.T.E.P f args u w λ
   |.returned _,I,w'=>∃a s' g',k a s'=Z r/\UR g' w' (bif a then Y else q) (settle I)/\cU [] s g w s' g' w'|.panicked _,_,_=>False|.outgrown,_,_=>False):=by
 have hrun:u≠.run:=by cases q with|none=>rw[show u=.returning from l];simp|some t=>obtain⟨v,rfl,_⟩:=l;simp
 refine⟨hrun,?_⟩;unfold Vj at h;split at h;rotate_left
 .rename_i o
  left
  cases hd with
  |mark _ b hb=>
  split at h;rotate_left;cases h;rename_i ho;obtain⟨hfl,h2⟩|⟨_,h2⟩:=ah h
  rotate_left;cases h2;rw[eX]at hfl;have ho':(aF s).ob.get o=Z .AG:=by rw[aN,ho];rfl
  let ⟨x,hx,hr⟩:=(hs.box o b hb).2.2 _ ho'
  cases hr with
  |AG=>
  let ⟨h3,he⟩:=hs.aph (w':=w.putObj b (.deferred Y)) hb ho' rfl (gY hfl.1) World.putObj_size (λb' hb'=>World.putObj_heap_other hb') rfl rfl
  have hlt:o<bO:=gY hfl.2;have K:o+1<2 ^ aP:=by grind[aP,bO]
  have p:cU [] s g w {s with ob:=s.ob.del aP o,wr:=o::s.wr} g (w.putObj b (.deferred Y)):=by
   refine cU.lF hs (h3.aaH rfl λk=>?_) he rfl rfl (eP _) ⟨λ_ h=>ie _ h,λk _ hk=>?_,rfl⟩;show(Tr.map dj (s.ob.del aP o)).get k=((aF s).ob.del aP o).get k;rw[Tr.get_map,Tr.sy _ _ _ _ K,Tr.sy _ _ _ _ K,aN];split<;>rfl
   simp_all[Tr.sy]
  refine⟨b,_,rfl,run_takeDeferred hx,_,h2,?_,p⟩;cases q with
  |none=>exact l|some t=>
   let ⟨v,l,ht⟩:=l
   exact⟨v,l,p.tr _ _ ht (mL _)⟩
 cases hd;cases h
 right
 split at h;cases h;rename_i z ML;split at h;cases h;rename_i fn hfn;split at h;cases h;rename_i c hc;obtain⟨hb,h2⟩|⟨_,h2⟩:=ah h
 rotate_left;cases h2;clear h;rw[zT]at hb;have i:=sG ML;unfold yI at i;split at i;rotate_left;cases i;rename_i f' first cap Pp
 simp only[gV,fH]at i;obtain⟨rfl,F⟩:=i;cases hd with
 |call _ _ fvn xa xc A h3 h4 h5=>
 rw[Pp]at h3;cases h3 with
 |fn _ _ _ _ _ l1 l2 r1 r2=>
 have hfs:=hE.V5.Ve _ _ hfn;have Py:mF E.T.E.P f':=⟨fn,hfs,by rw[hc];rfl,hE.name _ _ hfn⟩;refine⟨_,_,f',xa++A++xc,rfl,?_,?_⟩
 grind[invoke,ym]
 have pE:PW (aL g w) (bI z) (xa++A++xc).toList:=by rw[<-F];simp only[Wq];exact PW.append (PW.append ⟨by simpa using l1,λj x y h1 h2=>r1 j x y h1 (by simpa using h2)⟩ ⟨by simpa using h4,λj x y h1 h2=>h5 j x y h1 (by simpa using h2)⟩) ⟨by simpa using l2,λj x y h1 h2=>r2 j x y h1 (by simpa using h2)⟩
 have AF:z.length<=fn.ntmps:=by have:=gY hb.1;rwa [bZ]at this
 have qq:fn.ntmps<bO:=gY hb.2;have Px:=uf (n:=fn.ntmps) qq AF pE;have hs0:bg g (aF {s with lo:=s.aH}) w:=⟨hs.aH,hs.aj,hs.box,hs.arr,hs.bF,hs.kj⟩;refine callsD_of_wpS hfs hc λc₀ cs hcu=>?_
 let st:aa->L Frame:=λa=>(if a then{c₀ with mode:=agL u}else{c₀ with mode:=u})::cs
 have arV:st J=c₀::cs:=by show{c₀ with mode:=u}::cs=c₀::cs;rw[<-hcu]
 have ar5:agh g {s with lo:=s.aH} w q st (Yj u):=by
  cases q with
  |none=>
   have l:u=.returning:=l;refine⟨λg' s' w' _=>?_,.inl ⟨rfl,?_,?_⟩⟩;simp[Yj,l];exact .sym _ _ (.lit _)
   grind[recoverD]
   simp[Yj,l]
  |some t=>
   let ⟨v,l,ht⟩:=l
   refine⟨λg' s' w' p=>?_,.inr ⟨rfl,?_⟩⟩;simp[Yj,l];exact(eO.Jn hs p).tr _ _ ht (mL _)
   grind[recoverD,Yj,agL]
 have hw:=Xs hE R aau n q f' _ (s0:={s with lo:=s.aH}) (g0:=g) (w0:=w) (eP _) (m:=fn.ntmps) (Ka qq) (st:=st) ar5 c 0 h2 rfl (eO.refl hs0) Px;rw[arV]at hw;intro b kk hb' hro
 let ⟨e,a',cs',w',hq,MM⟩:=hw b kk hb' hro
 refine⟨e,a',cs',w',?_,MM⟩;obtain hF|⟨a,ex,fr',s',g',k0,k1,C,k3,k4,k5⟩:=hq
 exact hF.elim;have p:=eO.Jn hs k5;dsimp only at C;split at C;rotate_left;cases C;rename_i hdf;have P:a'.defers=[]:=by have:=k4.df;rw[show(bM fr').df=[]from by simp[bM,hdf,List.map_nil]]at this;generalize a'.defers=m at this;cases this;rfl
 have yW:∃I,cs'={c₀ with mode:=I}::cs/\UR g' w' (bif a then Y else q) (settle I):=by
  cases a with
  |false=>
   refine⟨u,k0,?_⟩;cases q with
   |none=>rw[l];rfl|some t=>
    let ⟨v,l,ht⟩:=l
    rw[l];exact⟨v,rfl,p.tr _ _ ht (mL _)⟩
  |true=>
   refine⟨agL u,k0,?_⟩;cases q with
   |none=>rw[l];rfl|some t=>
    let ⟨v,l,ht⟩:=l
    rw[l];rfl
 let ⟨I,hcs,hur⟩:=yW
 have fin:(match lZ E.T s' fr' fn.results.toList with|some _=>k a {s' with lo:=s.lo}|none=>Y)=Z r->∃v,(results fn a'.tmps).run E.T.E.P w'=.ok v w'/\
   ∃a s' g',k a s'=Z r/\UR g' w' (bif a then Y else q) (settle I)/\cU [] s g w s' g' w':=by
  intro C;split at C;rotate_left;cases C;rename_i hr
  let ⟨v,hv,_⟩:=zc hE k4 k5.rel hr
  grind
 cases k1 with
 |su=>
  let ⟨v,hv,h⟩:=fin C
  exact⟨P,I,hcs,v,hv,h⟩
 |ret=>
  let ⟨v,hv,h⟩:=fin C
  exact⟨P,I,hcs,v,hv,h⟩
 |ext j=>cases C
 |iN t v hv=>cases C
theorem En{P:cV}{fn:Func}{tmps:Array aD}{R:Ending->az->Prop}{ds:L Deferred}{u:FrameMode}(q:u≠.run){s:bx S}{g:Gh}{o:Nat}(f:s.fl<=o)(i:s.ob.get o=Y) :
  ∀(bs:L Nat)(w:az),bg g (aF s) w->bs.Nodup->(∀b∈bs,bL g o b/\w.heap[b]?=Z (.deferred (Z [])))->(∀w',cU [] s g w s g w'->nB P fn tmps R ds u w')->
   nB P fn tmps R (bs.map (λb=>{target:=.collected b,args:=#[]})++ds) u w
 |[],w,d,_,_,m=>m w (cU.refl d)|b::bs,w,d,n,r,m=>by
  let ⟨l,t⟩:=r b eN
  have j:bg g (aF s) (w.putObj b (.deferred Y)):=by
   have:=d.step (I:=g.bF) (X:=λc=>c=b) (w':=w.putObj b (.deferred Y)) (λ_ h=>h) (λ_ h=>.inl h) (λc a=>by rw[World.putObj_size];exact d.bF c a) (by simp_all)
    (λc _ a=>World.putObj_heap_other a) (λv c a p=>by
     subst a;have:=d.kj v o c p l;subst this;exact⟨by rw[aN,i];rfl,l.1⟩) (λc a=>by subst a;exact l.1)
   exact this
  have x:Ext s.fl g w g (w.putObj b (.deferred Y)):=
   ⟨λ_ _ h=>h,λ_ _ _ h=>h,λ_ h=>h,by simp_all,λc _ n=>World.putObj_heap_other (λe=>n o f (e▸l)),λ_ _ h=>.inl h,λ_ h=>.inl h,rfl,rfl⟩
  have k:cU [] s g w s g (w.putObj b (.deferred Y)):=cU.lF d j x rfl rfl (eP _) ⟨λ_ h=>h,λ_ _ _=>rfl,rfl⟩;refine⟨q,.inl ⟨b,_,rfl,run_takeDeferred t,En q f i bs _ j (Ov.1 n).2 (λc a=>⟨(r c (ie _ a)).1,?_⟩) λw' h=>m w' (k.trans h)⟩⟩
  grind[World.putObj_heap_other]
theorem PT{E:eI S}(hE:fF E){call:gD S}(z:gT E.T.E.P call)(A:tF E call)(n:Nat){fn:Func}{tmps:Array aD}{R:Ending->az->Prop}{ω:Type}{k:O (V S)->bx S->O ω}{r:ω}{s0:bx S}{g0:Gh}{w0:az}
  (hk:∀m s' g' w' u,k m s'=Z r->UR g' w' m u->cU [] s0 g0 w0 s' g' w'->nB E.T.E.P fn tmps R [] u w'):∀(l:L (tG S))(m:O (V S))(s:bx S),H8 E call n l m s k=Z r->
  ∀(g:Gh)(w:az)(ds:L Deferred)(u:FrameMode),eW g w (l.map mP) ds->UR g w m u->cU [] s0 g0 w0 s g w->nB E.T.E.P fn tmps R ds u w:=by
 intro l
 induction l with
 |nil=>intro m s h g w ds u B p a;cases B;exact hk m s g w u h p a
 |cons d l ih=>
  intro m s h g w ds u B p a;simp at B;generalize C:mP d=x at B;cases B with
  |kO xs i=>
   cases d with
   |kO=>cases h
   |_=>cases C
  |marks o bs hn hbs i=>
   cases d with
   |marks o'=>
    cases C;simp only[H8,Vj]at h;split at h;rotate_left;cases h;rename_i ho;obtain⟨F,h2⟩|⟨_,h2⟩:=ah h
    rotate_left;cases h2;rw[eX]at F;have hlt:o<bO:=gY F.2;have hlt':o+1<2 ^ aP:=by grind[aP,bO]
    have q:=a.rel;have ho':(aF s).ob.get o=Z .Hj:=by rw[aN,ho];rfl
    have hown:∀b∈bs,bL g o b/\w.heap[b]?=Z (.deferred (Z [])):=λb I=>by
     let ⟨n,c,hr⟩:=hbs b I
     cases hr with
     |sh _ _ _ _ sz _ C=>
     obtain⟨fz,_,_,h,_⟩|⟨_,_,_,_,_,_,h,_⟩|⟨_,_,_,h,_⟩|h|⟨_,h1,h2,h3,h4⟩:=(q.arr o b _ C).2 _ ho'
     cases fz<;>cases h;cases h;cases h;cases h;exact⟨⟨h3,.inr ⟨b,_,_,C,h1,rfl,h2⟩⟩,h4⟩
    have hgD:∀k,(s.ob.del aP o).get k=if k=o then Y else s.ob.get k:=λk=>Tr.sy _ _ _ _ hlt'
    have hsD:bg g (aF {s with ob:=s.ob.del aP o,wr:=o::s.wr}) w:=by
     have y:∀k ob,(aF {s with ob:=s.ob.del aP o,wr:=o::s.wr}).ob.get k=Z ob->(aF s).ob.get k=Z ob:=by
      grind[aN]
     refine⟨q.aH,q.aj,λk b h=>?_,λk e x h=>?_,q.bF,q.kj⟩
     let ⟨K,P,j⟩:=q.box k b h
     exact⟨K,P,λob lV=>j ob (y k ob lV)⟩
     let ⟨K,P⟩:=q.arr k e x h
     exact⟨K,λob lV=>P ob (y k ob lV)⟩
    have haD:cU [] s g w {s with ob:=s.ob.del aP o,wr:=o::s.wr} g w:=
     cU.lF q hsD (Ext.refl _ _ _) rfl rfl (eP _) ⟨λ_ h=>ie _ h,λk _ hk=>(hgD k).trans (bS λe=>hk (by simp_all)),rfl⟩
    have hrun:u≠.run:=by cases m with|none=>rw[show u=.returning from p];simp|some t=>obtain⟨v,rfl,_⟩:=p;simp
    refine En hrun (s:={s with ob:=s.ob.del aP o,wr:=o::s.wr}) (g:=g) (o:=o) (gY F.1) ((hgD o).trans (bH rfl)) bs w hsD hn hown λw' j=>?_;have k4:=haD.trans j;refine ih _ _ h2 g w' _ u (i.imp (λt v i=>k4.tr t v i (mL _)) λo b I=>k4.ext.bX o b I) ?_ (a.trans k4);cases m with
    |none=>exact p|some t=>
     let ⟨v,p,i⟩:=p
     exact⟨v,p,k4.tr _ _ i (mL _)⟩
   |_=>cases C
  | @cons _ e _ ds B i=>
  subst C
  let ⟨h1,h⟩:=PU hE z A n h a.rel B p
  obtain⟨b,w',h2,h3,s',K,P,j⟩|⟨fv,cap,f,args,h2,h3,h4⟩:=h
  exact⟨h1,.inl ⟨b,w',h2,h3,ih _ s' K g w' ds u (i.imp (λt v i=>j.tr t v i (mL _)) λo b I=>j.ext.bX o b I) P (a.trans j)⟩⟩;refine⟨h1,.inr ⟨fv,cap,f,args,h2,h3,h4.mono λe u' w' he=>?_⟩⟩;cases e with
  |returned v=>
   let ⟨rec,s',g',K,P,j⟩:=he
   refine ih _ s' K g' w' ds (settle u') (i.imp (λt v i=>j.tr t v i (mL _)) λo b I=>j.ext.bX o b I) P (a.trans j)
  |panicked ch=>exact he.elim|outgrown=>exact he.elim
def xm(x:fF E)(c:gT E.T.E.P call)(d:tF E call)(n:Nat){fn:Func}{R:Ending->az->Prop}{ω:Type}{k kp:V S->bx S->O ω}{r:ω}{ex:vT S}{fr:cr S}
  (h:Vi E call n fn.results.toList k kp ex fr s=Z r) {g:Gh} {w:az} {e:Exit} {a:Act} (y:JV g w ex e) (hf:cZ g (bM fr) a w) (hs:bg g (aF s) w)
  (z:∀t s' g' v w',k t s'=Z r->aL g' w' (low t) v->cU [] s g w s' g' w'->R (.returned v) w')
  (m:∀t s' g' v w',kp t s'=Z r->aL g' w' (low t) v->cU [] s g w s' g' w'->R (.panicked [{v,recovered:=J}]) w'):agc E.T.E.P fn R e a w:=by
 have f:∀(j:O (V S))(u:FrameMode),H8 E call n fr.df j s (PS E.T fn.results.toList fr k kp)=Z r->UR g w j u->nB E.T.E.P fn a.tmps R a.defers u w:=by
  intro j u h l;refine PT x c d n (s0:=s) (g0:=g) (w0:=w) (λj s' g' w' u h l b=>?_) fr.df j s h g w a.defers u hf.df l (cU.refl hs);have o:cZ g' (bM fr) a w':=ov (ow:=[]) hf b;cases j with
  |none=>
   subst l;simp[PS]at h;split at h;rotate_left;cases h;rename_i A
   let ⟨v,p,q⟩:=zc x o b.rel A
   exact⟨v,p,z _ _ g' v w' h q b⟩
  |some t=>
   let ⟨v,l,q⟩:=l
   subst l;exact m t s' g' v w' h q b
 cases y with
 |su=>exact f Y .returning h rfl|ret=>exact f Y .returning h rfl|ext i=>cases h
 |iN t v p=>exact f (Z t) _ h ⟨v,rfl,p⟩
end
section
def DV{g:Gh}{w:az}{n:Nat}(hn:n<=bO):∀(ps:L Nat)(args:L (V S))(vs:L aD)(tm:Tr (V S))(tmps:Array aD),(∀k∈ps,k<n)->PW (aL g w) (bI args) vs->cZ g (bM {n:=n,tm:=tm}) {tmps:=tmps,defers:=[]} w->
  cZ g (bM {n:=n,tm:=RH ps args tm}) {tmps:=(ps.zip vs).foldl (λt p=>t.setIfInBounds p.1 p.2) tmps,defers:=[]} w
 |[],_,_,_,_,_,_,h=>h|_::_,[],[],_,_,_,_,h=>h|_::_,[],_::_,_,_,_,b,_=>by have:=b.1;simp[bI]at this
 |_::_,_::_,[],_,_,_,b,_=>by have:=b.1;simp[bI]at this
 |k::ps,a::args,v::vs,tm,tmps,d,b,h=>by have e:aL g w (low a) v:=b.2 0 _ _ rfl rfl;have c:PW (aL g w) (bI args) vs:=⟨by have:=b.1;simpa[bI]using this,λj t u h1 h2=>b.2 (j+1) t u (by simpa[bI]using h1) (by simpa using h2)⟩;have f:=uT (dst:=Z k) (fr:={n:=n,tm:=tm}) h (by simp_all[gU,OD,eN]) hn e;exact DV hn ps args vs _ _ (λj i=>d j (ie _ i)) c f.1
def VW(ps:Array Tmp)(vs:Array aD)(tmps:Array aD):(ps.zip vs).foldl (λtmps(t,a)=>tmps.setIfInBounds t a) tmps=(ps.toList.zip vs.toList).foldl (λt p=>t.setIfInBounds p.1 p.2) tmps:=by rw[<-Array.foldl_toList,Array.toList_zip]
variable {g:Gh}{w:az}
def JV.jump{ex:vT S}{e:Exit}(h:JV g w ex e){j:O Code}(a:afS ex=Z j):afR e=Z j:=by cases h<;>first|exact a|cases a
theorem A3{E:eI S}(hE:fF E){call:gD S}(B:gT E.T.E.P call)(C:tF E call)(n:Nat){o:Nat}{args:L (V S)}{s:bx S}{ω:Type}{k kp:V S->bx S->O ω}{r:ω}
  (h:LX E call n o args s k=Z r) {g:Gh} {w:az} {vs:Array aD} {b:Nat} (hs:bg g (aF s) w) (pE:PW (aL g w) (bI args) vs.toList) (hb:g.bX o=Z b) :
  ∃l:Loop,w.heap[b]?=Z (.loop l)/\vs.size=l.params.size/\∀rr n,RoundIn (WR rr) n E.T.E.P b l.fn ((l.params.zip vs).foldl (λtmps(t,a)=>tmps.setIfInBounds t a) l.tmps) l.assign l.body w (yO s g w k kp r):=by
 unfold LX at h;split at h;rotate_left;cases h;rename_i l ho;obtain⟨hc,h1⟩|⟨_,h1⟩:=ah h
 rotate_left;cases h1;clear h;simp only[eX,kU]at hc;obtain⟨hrd,hlen,hpar,P,hra,hrb,hfl,R⟩:=hc;have R:s.lo<=s.aH:=gY R;obtain⟨hst,hpe⟩:=GF hrd;have hfl:s.fl<=o:=gY hfl;have P:l.fr.n<=bO:=gY P;have ho0:(aF s).ob.get o=Z (.lp (uc l)):=by rw[aN,ho];rfl
 obtain⟨x,hx,hr⟩:=(hs.box o b hb).2.2 _ ho0;cases hr with
 |lp _ d q1 q2 q4 q5 q6 q8 q9=>
 have hsz:vs.size=d.params.size:=by
  have h1:=beq_iff'.1 hlen;rw[bZ,bZ]at h1;have h2:=pE.1;rw[eU]at h2;have h3:d.params.toList.length=l.params.length:=by rw[q4];rfl
  grind
 refine⟨d,hx,hsz,λrr n'=>?_⟩;have Px:cZ g (bM {n:=l.fr.n,tm:=l.fr.tm}) {tmps:=d.tmps,defers:=[]} w:=⟨q8,.nil,q9⟩;have hf1:=DV P l.params args vs.toList l.fr.tm d.tmps (λk hk=>gY (hpar k hk)) pE Px;rw[VW,q4];have q5:d.assign=l.assign:=q5;have q6:d.body=l.body:=q6;rw[q5,q6];refine agV ?_;refine wpIn_mono (qJ (rr:=Z b) hE B C n l.fid [] l.assign 0 h1 (λ_=>hra) P R hf1 hs) λe a' w1 hq=>?_;obtain hF|⟨ex,uh,p,g1,p1,p2,p3,p4,i,_⟩:=hq
 exact hF.elim;cases p1 with
 |ext j=>cases p2
 |ret=>cases p2
 |iN t v hv=>cases p2
 |su=>
 simp only[afA]at p2;split at p2;rotate_left;cases p2;rename_i l1 U8;obtain⟨ar6,p2'⟩|⟨_,p2'⟩:=ah p2
 rotate_left;cases p2';clear p2;obtain⟨ahH,hpe1⟩:=GF ar6;have AF:=i.ext.bX _ _ hb;have alZ:(aF p).ob.get o=Z (.lp (uc l1)):=by rw[aN,U8];rfl
 obtain⟨x1,hx1,hr1⟩:=(i.rel.box o b AF).2.2 _ alZ;cases hr1 with
 |lp _ L1 a1 a2 a4 a5 a6 a8 a9=>
 have SP:p.fl<=o:=by rw[i.fl];exact hfl
 obtain⟨NR,Xe⟩:=i.rel.setObj (w':=w1.putObj b (.loop {L1 with state:=.busy})) AF alZ rfl SP (x':=.loop {L1 with state:=.busy}) (ob':=.lp (uc {l1 with st:=.busy})) (.lp _ _ rfl a2 a4 a5 a6 a8 a9)
  World.putObj_size (λb' hb'=>World.putObj_heap_other hb') (World.putObj_heap_same (i.rel.box o b AF).2.1) rfl rfl
 have al9:aF {p with ob:=p.ob.set aP o (.lp {l1 with st:=.busy})}={aF p with ob:=(aF p).ob.set aP o (dj (.lp {l1 with st:=.busy}))}:=eJ p _ _ p.wr;have arX:bg g1 (aF {p with ob:=p.ob.set aP o (.lp {l1 with st:=.busy})}) (w1.putObj b (.loop {L1 with state:=.busy})):=by rw[al9];exact NR
 refine⟨_,run_beginRound hx1 (by rw[a1];exact ahH),?_⟩;have asF:p.lo<=p.aH:=by rw[i.lo];exact gE R i.aH
 refine wpIn_mono (qJ (rr:=Z b) hE B C n l.fid [] l.body 0 p2' (λ_=>hrb) (by grind) asF (p4.ext Xe i.rel.bF) arX) λe a2 w2 hq=>?_;obtain hF|⟨ex,Rs,m,g2,c1,c2,c3,c4,y,_⟩:=hq
 exact hF.elim;have alY:o<bO:=iW (hs.lt hb) hs.aH;have aas:m.fl<=o:=by rw[y.fl];exact SP
 have qq:=y.ext.bX _ _ AF;have fin:∀(A l3:LpV S)(L2 L3:Loop)(wr:L Nat),m.ob.get o=Z (.lp A)->w2.heap[b]?=Z (.loop L2)->g8 g2 w2 (.lp (uc l3)) (.loop L3)->(∀j∈m.wr,j∈wr)->(l3={A with st:=.ready,wC:=Y}\/o∈wr)->
   eO s g w {m with ob:=m.ob.set aP o (.lp l3),wr:=wr} g2 (w2.putObj b (.loop L3)):=by
  intro A l3 L2 L3 wr q z hr3 hw hl3;have u:(aF m).ob.get o=Z (.lp (uc A)):=by rw[aN,q];rfl
  obtain⟨SI,FH⟩:=y.rel.setObj (w':=w2.putObj b (.loop L3)) qq u rfl aas (x':=.loop L3) (ob':=.lp (uc l3)) hr3
   World.putObj_size (λb' hb'=>World.putObj_heap_other hb') (World.putObj_heap_same (y.rel.box o b qq).2.1) rfl rfl
  have al8:aF {m with ob:=m.ob.set aP o (.lp l3),wr:=wr}={aF m with ob:=(aF m).ob.set aP o (dj (.lp l3))}:=eJ m _ _ wr;have e1:o4 s.lo s.fl g1 w1 g1 (w1.putObj b (.loop {L1 with state:=.busy})):=by have:=Xe.Jn s.lo;rw[show(aF p).fl=s.fl from i.fl]at this;exact this
  have e2:o4 s.lo s.fl g1 (w1.putObj b (.loop {L1 with state:=.busy})) g2 w2:=by have:=y.ext;rw[show p.lo=s.lo from i.lo,show p.fl=s.fl from i.fl]at this;exact this
  have e3:o4 s.lo s.fl g2 w2 g2 (w2.putObj b (.loop L3)):=by have:=FH.Jn s.lo;rw[show(aF m).fl=s.fl from y.fl.trans i.fl]at this;exact this
  refine⟨by rw[al8];exact SI,((i.ext.trans e1).trans e2).trans e3,y.fl.trans i.fl,y.lo.trans i.lo,gE i.aH y.aH,λj K=>hw j (y.uF j (i.uF j K)),λj K hno=>?_,λj K=>y.Ik j (i.Ik j K)⟩;have al4:j∉m.wr:=λhm=>hno (hw j hm);have ass:j∉p.wr:=λhm=>al4 (y.uF j hm);have k1:=i.same j K ass;have k2:=y.same j (iW K i.aH) al4;show(m.ob.set aP o _).get j=s.ob.get j;rw[Tr.aX _ _ _ _ alY];have F:m.ob.get j=(p.ob.set aP o (.lp {l1 with st:=.busy})).get j:=k2;rw[Tr.aX _ _ _ _ alY]at F;by_cases e:j=o
  .subst e;obtain rfl|hl3:=hl3
   rotate_left;exact absurd hl3 hno;rw[bH rfl]at F ⊢;rw[q]at F;rw[U8]at k1;have k1:Z (vO.lp l1)=s.ob.get j:=k1;rw[ho]at k1;simp only[gV,vO.lp.injEq]at k1 F;subst k1;subst F;rw[ho];obtain⟨st,pe,fid,fr,par,asg,bd⟩:=l1
   grind
  simp_all
 unfold afB at c2;split at c2
 .rename_i A q K;have u:(aF m).ob.get o=Z (.lp (uc A)):=by rw[aN,q];rfl
  obtain⟨x2,z,hr2⟩:=(y.rel.box o b qq).2.2 _ u;cases hr2 with
  |lp _ L2 d1 d2 d4 d5 d6 d8 d9=>
  have I:=fin A {A with st:=.ready,wC:=Y} L2 {L2 with state:=.ready,pending:=Y} m.wr q z (.lp _ _ rfl rfl d4 d5 d6 d8 d9) (λ_ h=>h) (.inl rfl);exact .inr ⟨Y,c1.jump K,.bool W,_,run_endRound Y z,.kb W,_,g2,c2,.kb W,I⟩
 .rename_i A c q K;have u:(aF m).ob.get o=Z (.lp (uc A)):=by rw[aN,q];rfl
  obtain⟨x2,z,hr2⟩:=(y.rel.box o b qq).2.2 _ u;cases hr2 with
  |lp _ L2 d1 d2 d4 d5 d6 d8 d9=>
  have I:=fin A {A with st:=.done,wC:=Z c} L2 {L2 with state:=.done,pending:=Z c} (o::m.wr) q z (.lp _ _ rfl rfl d4 d5 d6 d8 d9) (λ_ h=>ie _ h) (.inr eN);exact .inr ⟨Z c,c1.jump K,.bool J,_,run_endRound (Z c) z,.kb J,_,g2,c2,.kb J,I⟩
 cases c2
def Qv{E:eI S}(C:fF E)(a:∀call:gD S,gT E.T.E.P call->tF E call)(n:Nat):∀d,gT E.T.E.P (xA E n d):=by
 intro d
 induction d with
 |zero=>exact⟨λf args s ω k kp r h=>(by cases h),λf args s ω k kp r h=>(by cases h),λo args s ω k kp r h=>(by cases h),λo args s ω k kp r h=>(by cases h)⟩
 |succ d u=>
  refine⟨λf args s ω k kp r h g w vs j m=>?_,λf args s ω k kp r h g w vs j m=>?_,λo args s ω k kp r h g w vs b j m x=>?_,λo args s ω k kp r h g w vs b j m x=>A3 C u (a _ u) n h j m x⟩;rotate_left 2
  .have K:bg g (aF {s with lo:=s.aH}) w:=⟨j.aH,j.aj,j.box,j.arr,j.bF,j.kj⟩
   let ⟨l,h1,h2,h3⟩:=A3 C u (a _ u) n (kp:=λ_ _=>Y) h K m x
   refine⟨l,h1,h2,λrr n=>(h3 rr n).mono λe w' he=>?_⟩;cases e with
   |returned v=>
    let ⟨t,s',g',y,F,I⟩:=he
    exact⟨t,_,g',y,F,eO.Jn j I⟩
   |panicked ch=>obtain⟨v,t,s',g',_,y,_⟩:=he;cases y
   |outgrown=>exact he.elim
  rotate_left
  .simp only[xA,abh]at h;split at h;cases h;rename_i fn z;split at h;cases h;rename_i c hc;have A:=C.V5.Ve _ _ z;refine⟨⟨fn,A,by rw[hc];rfl,C.name _ _ z⟩,?_⟩;obtain⟨x,h⟩|⟨_,h⟩:=ah h
   rotate_left;cases h;simp only[eX]at x;have P:args.length<=fn.ntmps:=by have:=gY x.1;rwa [bZ]at this
   have B:fn.ntmps<bO:=gY x.2.1;have hlo:s.lo<=s.aH:=gY x.2.2;have Px:=uf (n:=fn.ntmps) B P m;refine s8 A hc (wpIn_mono (qJ C u (a _ u) n f _ c 0 h (λh=>absurd rfl h) (Ka B) (by omega) Px j) λe a' w' hq=>?_);obtain hF|⟨ex,fr',s',g',h1,h2,h3,h4,h5,h6⟩:=hq
   exact hF.elim;exact xm C u (a _ u) n (R:=yO s g w k kp r) h2 h1 h4 h5.rel (λt p i v q y F I=>⟨t,_,i,y,F,h5.trans I.toW⟩) (λt p i v q y F I=>⟨v,t,_,i,rfl,y,F,h5.trans I.toW⟩)
  simp only[xA,abh]at h;split at h;cases h;rename_i fn z;split at h;cases h;rename_i c hc;have A:=C.V5.Ve _ _ z;refine⟨⟨fn,A,by rw[hc];rfl,C.name _ _ z⟩,?_⟩;obtain⟨x,h⟩|⟨_,h⟩:=ah h
  rw[zT]at x;have P:args.length<=fn.ntmps:=by have:=gY x.1;rwa [bZ]at this
  have B:fn.ntmps<bO:=gY x.2;have Px:=uf (n:=fn.ntmps) B P m;have K:bg g (aF {s with lo:=s.aH}) w:=⟨j.aH,j.aj,j.box,j.arr,j.bF,j.kj⟩;refine s8 A hc (wpIn_mono (qJ C u (a _ u) n f _ c 0 h (λh=>absurd rfl h) (Ka B) (eP _) Px K) λe a' w' hq=>?_);obtain hF|⟨ex,fr',s',g',h1,h2,h3,h4,h5,h6⟩:=hq
  exact hF.elim;have xg:=eO.Jn j h5;have lo:∀{p:bx S}{i:Gh}{q:az},cU [] s' g' w' p i q->cU [] s g w {p with lo:=s.lo} i q:=λ{p i q}k=>
   eO.Jn j (h5.trans k.toW)
  exact xm C u (a _ u) n (R:=DP s g w k kp r) h2 h1 h4 h5.rel (λt p i v q y F I=>⟨t,_,i,y,F,lo I⟩) (λt p i v q y F I=>⟨v,t,_,i,rfl,y,F,lo I⟩);cases h
end
section
structure TN(Kw:Nat)(s0:bx S)(g0:Gh)(w:az)(s':bx S)(g':Gh)(w':az):Prop where
 rel:bg g' (aF s') w'
 bX:∀o b,o<Kw->g0.bX o=Z b->g'.bX o=Z b
 box:∀o,o<Kw->∃b,g'.bX o=Z b
 own:∀o b,bL g' o b->(∃o',bL g0 o' b)\/w.heap.size<=b
 bF:∀b,g0.bF b->g'.bF b
 oN:∀b,g'.bF b->g0.bF b\/w.heap.size<=b\/∃o,bL g0 o b
 size:w.heap.size<=w'.heap.size
 heap:∀b,b<w.heap.size->(∀o,¬bL g0 o b)->w'.heap[b]?=w.heap[b]?
 os:w'.os=w.os
 output:w'.output=w.output
 fl:s'.fl=s0.fl
 lo:s'.lo=s0.lo
variable {Kw:Nat}{s0:bx S}{g0 g:Gh}{w w':az}{v:V S}{val:aD}
def TN.of{s':bx S}{g':Gh}(e:s0.fl=0)(d:∀o,o<Kw->∃b,g0.bX o=Z b)(h:eO s0 g0 w s' g' w'):TN Kw s0 g0 w s' g' w' where
 rel:=h.rel
 bX o b _ a:=h.ext.bX o b a
 box o f:=(d o f).imp λb a=>h.ext.bX o b a
 own o b c:=(h.ext.own o b (by omega) c).imp (λ⟨g,_,h⟩=>⟨g,h⟩) id
 bF:=h.ext.bF
 oN b a:=(h.ext.oN b a).imp id (Or.imp id λ⟨o,_,c⟩=>⟨o,c⟩)
 size:=h.ext.size
 heap b a i:=h.ext.heap b a λo _ c=>i o c
 os:=h.ext.os
 output:=h.ext.output
 fl:=h.fl
 lo:=h.lo
def bg.aiS{s:St}(hs:bg g s w){b:Nat}(I:b<w.heap.size)(n:∀o,¬bL g o b):bg {g with bF:=λk=>g.bF k\/k=b} s w:=by have y:∀t v,aL g w t v->aL {g with bF:=λk=>g.bF k\/k=b} w t v:=λt v h=>aL.le (g:=g) (g':={g with bF:=λk=>g.bF k\/k=b}) (nD.mk (λ_ _ h=>h) (λ_ _ _ h=>h) (λK(h:g.bF K)=>Or.inl h)) h;have f:∀o k,bL {g with bF:=λk=>g.bF k\/k=b} o k->bL g o k:=λo k h=>⟨λz=>h.1 (.inl z),h.2⟩;refine⟨hs.aH,hs.aj,λo k a=>?_,λo e x p=>?_,λk a=>a.elim (hs.bF k) (λe=>e▸I),λo F k h P=>hs.kj o F k (f o k h) (f F k P)⟩;obtain⟨h1,h2,h3⟩:=hs.box o k a;refine⟨λz=>z.elim h1 λe=>n o (e▸⟨h1,.inl a⟩),h2,λob m=>?_⟩;obtain⟨x,p,R⟩:=h3 ob m;exact⟨x,p,R.imp y⟩;obtain⟨h1,h2⟩:=hs.arr o e x p;refine⟨h1,λob m=>?_⟩;have A:∀k,x.at k->¬g.bF k->k≠b:=λk⟨S,q,B,C⟩a E=>n o (E▸⟨a,.inr ⟨e,x,S,p,q,B,C⟩⟩);have l:∀k,x.at k->((g.bF k\/k=b)↔g.bF k):=λk a=>⟨λh=>h.elim id λE=>(Classical.em (g.bF k)).elim id λhn=>absurd E (A k a hn),λh=>Or.inl h⟩;refine(h2 ob m).tr (λ{fz sz es}hA=>⟨hA.len,hA.cap,hA.rows,hA.pos,hA.Yb,λr=>?_⟩) (λ_ _ _ h=>h) rfl (λk a r=>⟨rfl,l k ⟨_,a,rfl,r⟩⟩);obtain⟨k,vs,ty,q,B,C,q4,q5⟩:=hA.mem r;refine⟨k,vs,ty,q,B.trans (l k ⟨_,q,rfl,r⟩).symm,C,q4,λi d j c k1 k2=>?_⟩;obtain⟨u,r1,r2⟩:=q5 i d j c k1 k2;exact⟨u,r1,r2.le λ_ h=>.inl h⟩
def EJ(p:Nat->aa)(vs:L (V S))(i:Nat)(u:V S):bI ((vs.map (gu p)).set i u)=(bI (vs.map (gu p))).set i (low u):=by simp[ff,GL]
def Ml(hS:fE S){s:bx S}(h:TN Kw s0 g0 w s g w')(hv:aL g w' (low v) val)(q:Nat×Nat×Nat) :
  ∃a,TN Kw s0 g0 w (He v Kw s q) a w'/\aL a w' (low v) val:=by
 obtain⟨f,i,n⟩:=q;unfold He;split;rotate_left;exact⟨g,h,hv⟩;rename_i vs hvs;split;rotate_left;exact⟨g,h,hv⟩;rename_i o hvi;split;rotate_left;exact⟨g,h,hv⟩;rename_i us hus;split;rotate_left;exact⟨g,h,hv⟩;rename_i A os htt;generalize hp:(λk=>Nq o k||Nl s.aH k)=p;dsimp only;cases B:alw os&&(Nl Kw o&&(Nt f Kw&&!(cQ p v)))with
 |false=>exact⟨g,h,hv⟩|true=>
 rw[iq];simp only[eX]at B;obtain⟨hos,hlo,NT,hmv⟩:=B;have hos:os=[]:=by cases os with|nil=>rfl|cons=>cases hos
 subst hos;have hlo:Kw<=o:=gY hlo;have NT:f<Kw:=gY NT;have r:=h.rel;obtain⟨b,hb⟩:=h.box f NT;obtain⟨cv,ty,KE,C,E⟩:=(r.box f b hb).box (cs:=bI vs) (by rw[aN,hvs];rfl);have alE:(bI vs)[i]?=Z (.ptr o 0):=FA hvi;have hi:i<cv.size:=by rw[<-C];exact(Wt.1 alE).1
 have hci:=E i _ _ alE (uS hi);obtain⟨d,l,hcv⟩:∃d,g.bX o=Z d/\cv[i]=.pointer (Z ⟨d,0,Y⟩):=by generalize cv[i]=u at hci;cases hci with|ptr _ _ d l=>exact⟨d,l,rfl⟩
 obtain⟨cu,tu,R,amc,ah7⟩:=(r.box o d l).box (cs:=bI us) (by rw[aN,hus];rfl);have hno:o<s.aH:=r.lt l;have hnb:f<s.aH:=r.lt hb;have hpo:p o=W:=by rw[<-hp];simp
 have hpk:∀k,k≠o->k<s.aH->p k=J:=λk h1 h2=>by rw[<-hp];simp only[zS];exact⟨by cases hq:Nq o k with|true=>exact absurd (wA hq).symm h1|false=>rfl,by cases hq:Nl s.aH k with|true=>have:=gY hq;omega|false=>rfl⟩
 have hpb:p f=J:=hpk f (by omega) hnb
 let s1:bx S:={s with ob:=s.ob.mapA (fq p)}
 have AE:bg (g.base p) (aF s1) w':=by refine r.base (aH:=s.aH) (λk P=>?_) rfl (eP _) λk ob P lV=>?_;rw[<-hp];simp[OD P];rw[aN]at lV;simp only[s1,gi]at lV;obtain⟨vob,h1,rfl⟩:=lV;rw[Tr.oO,gi]at h1;obtain⟨X7,h1,rfl⟩:=h1;exact⟨dj X7,by rw[aN,h1];rfl,mc _ X7⟩
 have hOo:bL g o d:=⟨(r.box o d l).1,.inl l⟩;have NR:=AE.aiS (b:=d) (r.box o d l).2.1 (λk P=>by
  obtain⟨h1,h2⟩:=Gh.fW P;have:=r.kj k o d h2 hOo;subst this;rw[hpo]at h1;cases h1)
 generalize y:({g.base p with bF:=λk=>(g.base p).bF k\/k=d}:Gh)=a at NR;have hle:nD (g.base p) a:=by rw[<-y];exact⟨λ_ _ h=>h,λ_ _ _ h=>h,λ_ h=>.inl h⟩
 have hon:∀t u,aL g w' t u->dQ p t=J->aL a w' t u:=λt u ht hm=>(ht.on (g.gR p) (λ_ _=>rfl) hm).le hle;have F:∀k c,p k=J->g.bX k=Z c->a.bX k=Z c:=λk c h1 h2=>hle.bX k c (by simp[Gh.base,h1,h2]);have hown:∀k c,bL a k c->bL g k c:=λk c hO=>by rw[<-y]at hO;exact(Gh.fW (⟨λhi=>hO.1 (.inl hi),hO.2⟩:bL (g.base p) k c)).2
 obtain⟨pp,htd,hpp⟩:=qD hS s (S.fs n) us htt;obtain⟨k0,_,k2⟩:=qU r (bI us) (vs:=cu.toList) htd hpp (by simpa using amc) (λj t u h1 h2=>ah7 j t u h1 (by simpa using h2));have hd:=k2 g (aF s) r (Ext.refl _ _ _) ⟨rfl,rfl,λo ho=>(by cases ho),λ_ _ _ _ h=>h,λo ho=>(by cases ho)⟩;have asM:a.bF d:=by rw[<-y];exact .inr rfl
 have K:∀c,g.bF c->a.bF c:=λc z=>by rw[<-y];exact .inl z
 have aij:∀j,(⟨d,0,Y⟩:Addr).add j=⟨d,j,Y⟩:=λj=>by simp[og]
 have m:∀j c,(fj S (S.fs n) A)[j]?=Z c->∃u,cu[j]?=Z u/\dP a.bF w' c u:=λj c hj=>by
  have hl1:=k0;have hlt:j<cu.size:=by have:=(Wt.1 hj).1;omega
  exact⟨cu[j],uS hlt,(hd j c cu[j] hj (by simp[hlt])).le K⟩
 have hnew:aL a w' (low (.ty (.opt n) (Z (S.FC n A)):V S)) cv[i]:=by
  rw[hcv];have hE:enc S (.opt n) (Z (S.FC n A))=.pt (.agg (fj S (S.fs n) A)):=by show D.pt (.agg (S.cells n (S.FC n A)))=_;rw[hS.cells,hS.sY]
  show aL a w' (.sym (enc S (.opt n) (Z (S.FC n A)))) _;rw[hE];have:=dP.pt (I:=a.bF) (w:=w') (.agg (fj S (S.fs n) A)) ⟨d,0,Y⟩ (λj=>(cu[j]?).getD undef) asM (λj c hj=>by
   obtain⟨u,h1,_⟩:=m j c hj;rw[aij,cell?_of_block R,h1];rfl) (λj c hj=>by
   obtain⟨u,h1,h2⟩:=m j c hj;rw[h1];exact h2)
  rw[aij]at this;exact .sym _ _ this
 have aan:∀e,a.arr f e=Y:=λe=>by rw[<-y];show(g.base p).arr f e=Y;simp only[Gh.base,hpb,kz];cases hx:g.arr f e with|none=>rfl|some x=>have:=((r.arr f e x hx).2 _ (by rw[aN,hvs];rfl)).oM;cases this
 have as4:g8 a w' (dj (.box ((vs.map (gu p)).set i (.ty (.opt n) (Z (S.FC n A)))))) (.cells cv ty (0,0)):=by refine .box _ _ _ (by rw[EJ];simp[ff]at C ⊢;exact C) λj t u h1 h2=>?_;rw[EJ,Sa]at h1;split at h1;rename_i hij;subst hij;split at h1;cases h1;rw[uS hi]at h2;cases h2;exact hnew;cases h1;simp only[ff,lK,gi]at h1;obtain⟨v',⟨v'',h3,rfl⟩,rfl⟩:=h1;exact(qy p v'').rel hon (E j _ u (by simp[ff,h3]) h2)
 have P:=NR.ue (F f b hpb hb) KE as4 aan;have sX:bg a (aF {s with ob:=(s.ob.mapA (fq p)).set aP f (.box ((vs.map (gu p)).set i (.ty (.opt n) (Z (S.FC n A)))))}) w':=by have:=eJ s1 f (.box ((vs.map (gu p)).set i (.ty (.opt n) (Z (S.FC n A))))) s.wr;rw[show aF {s with ob:=(s.ob.mapA (fq p)).set aP f (.box ((vs.map (gu p)).set i (.ty (.opt n) (Z (S.FC n A)))))}=_ from this];exact P
 refine⟨a,⟨sX,λk c P z=>?_,λk P=>?_,λk c hO=>h.own k c (hown k c hO),λc z=>K c (h.bF c z),λc z=>?_,h.size,h.heap,h.os,h.output,h.fl,h.lo⟩,hon _ _ hv (by rw[iC];simpa using hmv)⟩;have h1:=h.bX k c P z;exact F k c (hpk k (by omega) (r.lt h1)) h1;obtain⟨c,z⟩:=h.box k P;exact⟨c,F k c (hpk k (by omega) (r.lt z)) z⟩;rw[<-y]at z;obtain z|rfl:=z
 exact h.oN c z;exact .inr ((h.own o c hOo).symm)
def Ba(d:fE S){Kw:Nat}{s0:bx S}{g0:Gh}{w w':az}{v:V S}{val:aD}:∀(l:L (Nat×Nat×Nat)){s:bx S}{g:Gh},TN Kw s0 g0 w s g w'->aL g w' (low v) val->
  ∃a,TN Kw s0 g0 w (l.foldl (He v Kw) s) a w'/\aL a w' (low v) val
 |[],_,g,h,b=>⟨g,h,b⟩|q::l,_,_,h,b=>by obtain⟨a,h2,c⟩:=Ml d h b q;exact Ba d l h2 c
end
def rK:∀(ps:L Pk)(b:Nat)(s:bx S)(x:gp S.A ps),s.aH<=(wF b s ps x).2.aH
 |[],_,_,_=>eP _|.one c::ps,b,s,x=>gE (Uf s c x.1) (rK ps b _ x.2)|.box k::ps,b,s,x=>gE (Fj k s (Z (Ns b)) x.1) (rK ps (Ns b) {(lU s (Z (Ns b)) k x.1).2 with ob:=(lU s (Z (Ns b)) k x.1).2.ob.set aP b (lU s (Z (Ns b)) k x.1).1} x.2)
 |.hid k::ps,b,s,x=>gE (Fj k s (Z (Ns b)) x.1) (rK ps (Ns b) {(lU s (Z (Ns b)) k x.1).2 with ob:=(lU s (Z (Ns b)) k x.1).2.ob.set aP b (lU s (Z (Ns b)) k x.1).1} x.2)
structure InR(g:Gh)(s:bx S)(w:az)(al:List fy)(g':Gh)(s':bx S):Prop where
 rel:bg g' (aF s') w
 le:nD g g'
 bF:g'.bF=g.bF
 own:∀k b,bL g' k b->bL g k b\/∃a∈al,a.at b
 fl:s'.fl=s.fl
 lo:s'.lo=s.lo
 aH:s.aH<=s'.aH
 bX:g'.bX=g.bX
 arr:∀o,o<s.aH->∀e,g'.arr o e=g.arr o e
theorem SG{w:az}:∀{ps:L Pk}{x:gp S.A ps}{vals:L aD}{al:L fy}{bl:L Nat}{b:Nat}{g:Gh}{s:bx S},rY S g.bF w ps x vals al bl->bg g (aF s) w->(∀j bX,bl[j]?=Z bX->g.bX (b+j)=Z bX)->
  (∀j,j<bl.length->b+j<s.aH/\∀e,g.arr (b+j) e=Y)->(∀a∈al,∀b,a.at b->∀o,¬bL g o b)->yb al->(wF b s ps x).2.aH<=bO->
  ∃g',InR g s w al g' (wF b s ps x).2/\PW (aL g' w) (bI (wF b s ps x).1) vals:=by
 intro ps
 induction ps with
 |nil=>intro x vals al bl b g s hp hs _ _ _ _ _;cases hp;exact⟨g,⟨hs,nD.refl _,rfl,λ_ _ h=>.inl h,rfl,rfl,eP _,rfl,λ_ _ _=>rfl⟩,⟨rfl,λj t v h=>by simp_all⟩⟩
 |cons p ps ih=>
  intro x vals al bl b g s hp hs q r K P hn;cases hp with
  | @one c _ f xr v vs EN Cb bl h1 h2=>
   have m:=uQ.1 P;have y:(wJ s c f).2.aH<=bO:=gE (rK ps b _ xr) hn
   let ⟨E,d,pE⟩:=nQ (cs:=[c]) (x:=(f,())) h1 hs (λa F=>K a (gf _ F)) m.1 (by simpa[iF]using y)
   have e1:(iF s [c] (f,())).1=[(wJ s c f).1]:=rfl;have e2:(iF s [c] (f,())).2=(wJ s c f).2:=rfl;have hv1:aL E w (low (wJ s c f).1) v:=pE.2 0 _ _ rfl rfl
   let ⟨g2,i,R⟩:=ih (b:=b) (g:=E) (s:=(wJ s c f).2) (d.bF▸h2) d.rel (λj bX h=>by rw[d.bX];grind) (λj hj=>⟨iW (r j hj).1 d.aH,λe=>by rw[d.arr _ (r j hj).1];simp_all⟩)
    (λa F b hb o n=>by
     obtain n|⟨_,a2,ha2,qq⟩:=d.own o b n
     grind
     grind) m.2.1 hn
   refine⟨g2,⟨i.rel,d.le.trans i.le,i.bF.trans d.bF,λk B n=>?_,i.fl.trans d.fl,i.lo.trans d.lo,gE d.aH i.aH,i.bX.trans d.bX,λo I e=>(i.arr o (iW I d.aH) e).trans (d.arr o I e)⟩,⟨by simp only[wF,bI,l5];rw[R.1],λj t v' q1 u=>?_⟩⟩;obtain n|⟨a',u,q3⟩:=i.own k B n
   obtain n|⟨_,a',u,q3⟩:=d.own k B n
   exact .inl n
   grind
   grind
   cases j with|zero=>simp[wF,bI]at q1 u;subst q1;subst u;exact hv1.le i.le|succ j=>exact R.2 j t v' (by simpa[wF,bI]using q1) (by simpa using u)
  | @box l _ f xr b0 hx vs EN Cb bl hh h1 h2=>
   have m:=uQ.1 P;have y:(lU s (Z (Ns b)) l f).2.aH<=bO:=gE (rK ps (Ns b) {(lU s (Z (Ns b)) l f).2 with ob:=(lU s (Z (Ns b)) l f).2.ob.set aP b (lU s (Z (Ns b)) l f).1} xr) hn
   let ⟨E,d,z⟩:=qC h1 (λB A=>⟨_,rfl,by cases bl with|nil=>cases A|cons c' Cq=>(cases A;grind)⟩) hs (λa F=>K a (gf _ F)) m.1 y
   have hb0:=r 0 (by simp);have C:g.bX b=Z b0:=q 0 b0 rfl;have hk:=d.rel.ue (o:=b) (b:=b0) (by rw[d.bX];exact C) hh z (λe=>by rw[d.arr b (by omega)];exact hb0.2 e);have hk2:bg E (aF {(lU s (Z (Ns b)) l f).2 with ob:=(lU s (Z (Ns b)) l f).2.ob.set aP b (lU s (Z (Ns b)) l f).1}) w:=by
    have:=eJ (lU s (Z (Ns b)) l f).2 b (lU s (Z (Ns b)) l f).1 (lU s (Z (Ns b)) l f).2.wr
    simp_all
   let ⟨g2,i,R⟩:=ih (b:=Ns b) (g:=E) (s:={(lU s (Z (Ns b)) l f).2 with ob:=(lU s (Z (Ns b)) l f).2.ob.set aP b (lU s (Z (Ns b)) l f).1}) (d.bF▸h2) hk2
    (λj bX h=>by rw[d.bX];have:=q (j+1) bX (by simpa using h);rwa [show b+(j+1)=Ns b+j by omega]at this)
    (λj hj=>by
     have:=r (j+1) (by simp;omega);rw[show b+(j+1)=Ns b+j by omega]at this;exact⟨iW this.1 d.aH,λe=>by rw[d.arr _ this.1];exact this.2 e⟩)
    (λa F b hb o n=>by
     obtain n|⟨_,a2,ha2,qq⟩:=d.own o b n
     grind
     grind) m.2.1 hn
   refine⟨g2,⟨i.rel,d.le.trans i.le,i.bF.trans d.bF,λk B n=>?_,i.fl.trans d.fl,i.lo.trans d.lo,gE d.aH i.aH,i.bX.trans d.bX,λo I e=>(i.arr o (iW I d.aH) e).trans (d.arr o I e)⟩,⟨by simp only[wF,bI,l5];rw[R.1],λj t v' q1 u=>?_⟩⟩;obtain n|⟨a',u,q3⟩:=i.own k B n
   obtain n|⟨_,a',u,q3⟩:=d.own k B n
   exact .inl n
   grind
   grind
   cases j with|zero=>simp[wF,bI,OA,gV]at q1 u;subst q1;subst u;exact Pd (by rw[i.bX,d.bX];exact C)|succ j=>exact R.2 j t v' (by simpa[wF,bI]using q1) (by simpa using u)
  | @hid l _ f xr b0 hx vs EN Cb bl hh h1 h2=>
   have m:=uQ.1 P;have y:(lU s (Z (Ns b)) l f).2.aH<=bO:=gE (rK ps (Ns b) {(lU s (Z (Ns b)) l f).2 with ob:=(lU s (Z (Ns b)) l f).2.ob.set aP b (lU s (Z (Ns b)) l f).1} xr) hn
   let ⟨E,d,z⟩:=qC h1 (λB A=>⟨_,rfl,by cases bl with|nil=>cases A|cons c' Cq=>(cases A;grind)⟩) hs (λa F=>K a (gf _ F)) m.1 y
   have hb0:=r 0 (by simp);have C:g.bX b=Z b0:=q 0 b0 rfl;have hk:=d.rel.ue (o:=b) (b:=b0) (by rw[d.bX];exact C) hh z (λe=>by rw[d.arr b (by omega)];exact hb0.2 e);have hk2:bg E (aF {(lU s (Z (Ns b)) l f).2 with ob:=(lU s (Z (Ns b)) l f).2.ob.set aP b (lU s (Z (Ns b)) l f).1}) w:=by
    have:=eJ (lU s (Z (Ns b)) l f).2 b (lU s (Z (Ns b)) l f).1 (lU s (Z (Ns b)) l f).2.wr
    simp_all
   let ⟨g2,i,R⟩:=ih (b:=Ns b) (g:=E) (s:={(lU s (Z (Ns b)) l f).2 with ob:=(lU s (Z (Ns b)) l f).2.ob.set aP b (lU s (Z (Ns b)) l f).1}) (d.bF▸h2) hk2
    (λj bX h=>by rw[d.bX];have:=q (j+1) bX (by simpa using h);rwa [show b+(j+1)=Ns b+j by omega]at this)
    (λj hj=>by
     have:=r (j+1) (by simp;omega);rw[show b+(j+1)=Ns b+j by omega]at this;exact⟨iW this.1 d.aH,λe=>by rw[d.arr _ this.1];exact this.2 e⟩)
    (λa F b hb o n=>by
     obtain n|⟨_,a2,ha2,qq⟩:=d.own o b n
     grind
     grind) m.2.1 hn
   refine⟨g2,⟨i.rel,d.le.trans i.le,i.bF.trans d.bF,λk B n=>?_,i.fl.trans d.fl,i.lo.trans d.lo,gE d.aH i.aH,i.bX.trans d.bX,λo I e=>(i.arr o (iW I d.aH) e).trans (d.arr o I e)⟩,R⟩;obtain n|⟨a',u,q3⟩:=i.own k B n
   obtain n|⟨_,a',u,q3⟩:=d.own k B n
   exact .inl n
   grind
   grind
def qg(E:fE S){g:Gh}{w:az}{s:bx S}(hs:bg g (aF s) w):∀{ps:L Pk}{b:Nat}{x:ic S.A ps}{fz ow bl:L Nat},uW s b ps=Z (x,fz,ow)->(∀j bX,bl[j]?=Z bX->g.bX (b+j)=Z bX)->bl.length=ef ps->
  (∀o∈fz,Live g (aF s) o)/\(∀o∈ow,s.fl<=o/\s.lo<=o/\o<s.aH/\∃ob,s.ob.get o=Z ob/\Ts ob=W)/\∀(v:Gh)(s1:St)(r:L Nat),bg v s1 w->Ext s.fl g w v w->jM (aF s) s1 r->(∀o∈fz,o∈r)->(∀o∈ow,s1.ob.get o=(aF s).ob.get o)->
   ∃al,Fh S v.bF w ps x bl al/\AL v al ow
 |[],b,x,fz,ow,bl,h,_,i=>by
  simp only[uW,gV,fH]at h;obtain⟨_,rfl,rfl⟩:=h
  match bl,i with
  |[],_=>exact⟨λo l=>(by cases l),λo l=>(by cases l),λ_ _ _ _ _ _ _ _=>⟨[],.nil,.nil⟩⟩
  |_::_,i=>exact absurd i (by simp[ef])
 |.one c::ps,b,x,fz,ow,bl,h,n,i=>by
  simp[uW]at h
  let ⟨F,I,K⟩:=qg E hs h n (by simpa[ef]using i)
  refine⟨F,I,λv s1 r a b c d e=>?_⟩
  let ⟨al,P,R⟩:=K v s1 r a b c d e
  exact⟨al,.one P,R⟩
 |.box k::ps,b,x,fz,ow,bl,h,n,i=>by
  match bl,i with
  |[],i=>exact absurd i (by simp[ef])
  |b0::bl,i=>
  simp only[uW]at h;split at h;rotate_left;cases h;rename_i x1 a1 b1 nx h1 a2 b2 e1 e2;obtain⟨A,h⟩|⟨_,h⟩:=ah h
  rotate_left;cases h;rw[zT]at A;obtain⟨rfl,rfl,rfl⟩:=h;have y:g.bX b=Z b0:=n 0 b0 rfl;have p:∀j bX,bl[j]?=Z bX->g.bX (Ns b+j)=Z bX:=λj bX h=>by have:=n (j+1) bX (by simpa using h);rwa [show b+(j+1)=Ns b+j by omega]at this
  have f:bl.length=ef ps:=by simpa[ef]using i
  let ⟨_,hx,hh,F,I,K⟩:=so E hs y e1
  let ⟨_,B⟩:=A9 hs y e1
  let ⟨q1,q2,q3⟩:=qg E hs e2 p f
  refine⟨λo l=>(fc.1 l).elim (F o) (q1 o),λo l=>(fc.1 l).elim (I o) (q2 o),λv s1 r z C hf t q=>?_⟩
  let ⟨EN,P,R⟩:=K v s1 r z C hf (λo l=>t o (gf _ l)) (λo l=>q o (gf _ l)) (fQ bl) (λo' u=>by
   subst u;obtain⟨m,pre,post,rfl⟩:=B o' rfl;have u:o'=Ns b:=wA A.1;subst u
   match ps,A.2,f with
   |.hid k'::ps,_,f=>
    match bl,f with
    |c::bl,_=>exact⟨c,rfl,C.bX _ _ (p 0 c rfl)⟩|[],f=>exact absurd f (by simp[ef]))
  let ⟨Cb,k3,k4⟩:=q3 v s1 r z C hf (λo l=>t o (e9 _ l)) (λo l=>q o (e9 _ l))
  exact⟨_,.box hh P k3,R.append k4⟩
 |.hid k::ps,b,x,fz,ow,bl,h,n,i=>by
  match bl,i with
  |[],i=>exact absurd i (by simp[ef])
  |b0::bl,i=>
  simp only[uW]at h;split at h;rotate_left;cases h;rename_i e1 e2;obtain⟨A,h⟩|⟨_,h⟩:=ah h
  rotate_left;cases h;rw[zT]at A;obtain⟨rfl,rfl,rfl⟩:=h;have y:g.bX b=Z b0:=n 0 b0 rfl;have p:∀j bX,bl[j]?=Z bX->g.bX (Ns b+j)=Z bX:=λj bX h=>by have:=n (j+1) bX (by simpa using h);rwa [show b+(j+1)=Ns b+j by omega]at this
  have f:bl.length=ef ps:=by simpa[ef]using i
  let ⟨_,hx,hh,F,I,K⟩:=so E hs y e1
  let ⟨_,B⟩:=A9 hs y e1
  let ⟨q1,q2,q3⟩:=qg E hs e2 p f
  refine⟨λo l=>(fc.1 l).elim (F o) (q1 o),λo l=>(fc.1 l).elim (I o) (q2 o),λv s1 r z C hf t q=>?_⟩
  let ⟨EN,P,R⟩:=K v s1 r z C hf (λo l=>t o (gf _ l)) (λo l=>q o (gf _ l)) (fQ bl) (λo' u=>by
   subst u;obtain⟨m,pre,post,rfl⟩:=B o' rfl;have u:o'=Ns b:=wA A.1;subst u
   match ps,A.2,f with
   |.hid k'::ps,_,f=>
    match bl,f with
    |c::bl,_=>exact⟨c,rfl,C.bX _ _ (p 0 c rfl)⟩|[],f=>exact absurd f (by simp[ef]))
  let ⟨Cb,k3,k4⟩:=q3 v s1 r z C hf (λo l=>t o (e9 _ l)) (λo l=>q o (e9 _ l))
  exact⟨_,.hid hh P k3,R.append k4⟩
theorem Fh.iQ{I:Nat->Prop}{w:az}{ps:L Pk}{x:ic S.A ps}{al:L fy}{bl:L Nat}(h:Fh S I w ps x bl al):∀a∈al,∀b,a.at b->¬I b:=by
 induction h with
 |nil=>simp_all|one _ d=>exact d|box f h1 h2 d=>
  intro a c b e;obtain c|c:=fc.1 c
  exact h1.iQ a c b e
  grind
 |hid f h1 h2 d=>
  intro a c b e;obtain c|c:=fc.1 c
  exact h1.iQ a c b e
  grind
theorem Th{I:Nat->Prop}{w:az}{ps:L Pk}{x:gp S.A ps}{vs:L aD}{al:L fy}{bl:L Nat}(h:rY S I w ps x vs al bl):ef ps=bl.length:=by
 induction h with|nil=>rfl|one _ _ a=>exact a|box _ _ _ a=>grind[ef]|hid _ _ _ a=>grind[ef]
def gh0(I:Nat->Prop)(bl:L Nat):Gh:=⟨λo=>bl[o]?,λ_ _=>Y,I⟩
def yE{I:Nat->Prop}{bl:L Nat}{o b:Nat}(h:bL (gh0 I bl) o b):bl[o]?=Z b:=by obtain⟨_,h|⟨e,x,a,h,_⟩⟩:=h;exact h;cases h
theorem aeu{I:Nat->Prop}{bl:L Nat}{w:az}(d:∀b,I b->b<w.heap.size)(f:bl.Nodup)(a:∀b∈bl,b<w.heap.size/\¬I b)(hn:bl.length<=bO) :
  bg (gh0 I bl) (aF (⟨.nil,bl.length,0,bl.length,[],[]⟩:bx S)) w:=by
 refine⟨hn,λo g=>⟨?_,λe=>rfl⟩,λo b h=>?_,λo e x h=>?_,d,λo k b h i=>?_⟩;exact List.getElem?_eq_none g;have c:=iG h;refine⟨(a b c).2,(a b c).1,λob j=>?_⟩
 grind[aN,Tr.get_nil]
 cases h;have h1:=yE h;have h2:=yE i
 grind[List.getElem?_inj]
def Xu{E:eI S}{n d:Nat}{f:FuncId}{ps:L Pk}{a:L Ck}{x:gp S.A ps}{r:RT E.pn (gJ S.A a×ic S.A ps) (den S.A S.pt×ic S.A ps)}(h:vZ E n d f ps a x=Z r) :
  (wF 0 ⟨.nil,ef ps,0,ef ps,[],[]⟩ ps x).2.aH<=bO/\abj E n d f (wF 0 ⟨.nil,ef ps,0,ef ps,[],[]⟩ ps x).1 (wF 0 ⟨.nil,ef ps,0,ef ps,[],[]⟩ ps x).2 (aio E.pn a ps) (ain E.pn a ps)=Z r:=by
 unfold vZ at h;obtain⟨_,h⟩|⟨b,h⟩:=ah h
 cases h
 simp_all
def RT.ado{R P:Type}:∀{a:aa}{p:P}{r:RT a R P},RT.iN a p=Z r->RT.res a r=.iN p
 |false,_,_,h=>by cases h
 |true,_,_,h=>by cases h;rfl
theorem Ip{E:eI S}(hE:fF E)(y:∀call:gD S,gT E.T.E.P call->tF E call){f:FuncId}{fn:Func}{c:Code}(hfn:E.T.E.Ve f=Z fn)(hc:fn.body=Z c)(n d:Nat)(ps:L Pk)(rs:L Ck) :
  bN E.T.E.P f ⟨ps,rs,E.pn,vZ E n d f ps rs⟩:=by
 have hfs:=hE.V5.Ve _ _ hfn;refine⟨⟨fn,hfs,by rw[hc];rfl,hE.name _ _ hfn⟩,λx r h I w vs al bl hp hI hap hnd NT=>?_⟩;dsimp only at x r h hp
 let ⟨B,h⟩:=Xu h
 have hlen:=Th hp;have z:=rK ps 0 (⟨.nil,ef ps,0,ef ps,[],[]⟩:bx S) x;have hn0:ef ps<=bO:=gE z B;have ar1:bg (gh0 I bl) (aF (⟨.nil,ef ps,0,ef ps,[],[]⟩:bx S)) w:=by have:=aeu (S:=S) (w:=w) hI hnd (λb i=>⟨(NT b i).1,(NT b i).2.1⟩) (by omega);rwa [hlen]
 let ⟨g0,P,pE⟩:=SG (b:=0) (g:=gh0 I bl) hp ar1 (λj bX h=>by rw[yS];exact h) (λj hj=>⟨by simp;omega,λe=>rfl⟩)
  (λa C b i o k=>(NT b (iG (yE k))).2.2 a C i) hap B
 generalize wF 0 ⟨.nil,ef ps,0,ef ps,[],[]⟩ ps x=q at h B P pE z
 let ⟨args,s0⟩:=q
 dsimp only at h B P pE z;have ah2:s0.fl=0:=P.fl;have asG:s0.lo=ef ps:=P.lo;simp[abj,hfn,hc]at h;obtain⟨i,h⟩|⟨_,h⟩:=ah h
 rotate_left;cases h;rw[zT]at i;have AF:args.length<=fn.ntmps:=by have:=gY i.1;rwa [bZ]at this
 have qq:fn.ntmps<bO:=gY i.2;have Px:=uf (n:=fn.ntmps) qq AF pE;have m:=Qv hE y n d;have core:∀(s':bx S)(g':Gh)(w':az),eO s0 g0 w s' g' w'->∀(rs:L Ck)(t:V S)(v:aD)(r1:gJ S.A rs×ic S.A ps),aeE rs ps t s'=Z r1->aL g' w' (low t) v->FR S I w ps rs r1 al bl v w':=by
  intro s0' g0' w' h50 rs t v r h2 ht0;unfold aeE at h2;obtain⟨g',h5,ht⟩:=Ba hE.sg (Kk ps 0) (TN.of (Kw:=ef ps) ah2 (λo A=>by rw[P.bX];exact⟨bl[o]'(by omega),iZ _⟩) h50) ht0;generalize(Kk ps 0).foldl (He t (ef ps)) s0'=s' at h2 h5;dsimp only at h2;split at h2;rotate_left;cases h2;rename_i r1 fz ow b1 fz' ow' e1 e2;split at h2;rotate_left;cases h2;rename_i s1 e3;obtain⟨i,h2⟩|⟨_,h2⟩:=ah h2
  rotate_left;cases h2;simp at h2;subst h2;rw[zT]at i;have Jy:=mz i.1;have as8:=Ap i.2;obtain⟨vals,rfl,alG⟩:=GB ht e1;have amC:∀j bX,bl[j]?=Z bX->g'.bX (0+j)=Z bX:=λj bX h=>h5.bX _ _ (by have:=(Wt.1 h).1;omega) (by rw[P.bX,yS];exact h)
  let ⟨p1,p2,p3⟩:=gK hE.sg h5.rel e1 alG
  let ⟨q1,q2,q3⟩:=qg hE.sg h5.rel e2 amC hlen.symm
  have hfr:=dG hE.sg _ e3
  let ⟨g1,l,F,hfz⟩:=eK (fz++fz') h5.rel hfr (λo A=>(fc.1 A).elim (p1 o) (q1 o))
  let ⟨f1,f2,f3,f4,f5,f6,f7⟩:=eS e3
  have hsame:∀o∈ow++ow',(aF s1).ob.get o=(aF s').ob.get o:=λo A=>by rw[aN,aN,f6 o (as8 o A)]
  let ⟨Cb,K,k2⟩:=p3 g1 (aF s1) (fz++fz') l F hfz (λo A=>gf _ A) (λo A=>hsame o (gf _ A))
  let ⟨EN,k3,k4⟩:=q3 g1 (aF s1) (fz++fz') l F hfz (λo A=>e9 _ A) (λo A=>hsame o (e9 _ A))
  have ast:=K.iQ;have asu:=k3.iQ;have hmem:∀a∈EN++Cb,a∈Cb++EN:=λa C=>fc.2 ((fc.1 C).symm);have hni:∀a∈Cb++EN,∀b,a.at b->¬g1.bF b:=λa C=>(fc.1 C).elim (ast a) (asu a);have hAL:=k2.append k4;have hown:=hAL.owned hni;have p:=hAL.apart l Jy hni;have hfl':s'.fl=0:=h5.fl.trans ah2;have ama:s'.lo=ef ps:=h5.lo.trans asG;have alW:∀o b,bL g1 o b->(b∈bl\/∃a∈al,a.at b)\/w.heap.size<=b:=by
   intro o b k;obtain k|hge:=F.own o b k
   obtain⟨o',Xk⟩|hge:=h5.own o b k
   obtain Xk|⟨a,C,hab⟩:=P.own o' b Xk
   exact .inl (.inl (iG (yE Xk)))
   grind
   omega;have:=h5.size;omega
  have s:∀b∈bl,∃o,o<ef ps/\g1.bX o=Z b:=by intro b i;obtain⟨j,hj,rfl⟩:=sd i;exact⟨0+j,by omega,F.bX _ _ (amC j _ (iZ hj))⟩
  refine⟨g1.bF,vals,EN,Cb,λb i=>F.bF b (h5.bF b (P.bF▸i)),λb i=>?_,l.bF,h5.size,λb i B hna=>?_,h5.os,h5.output,rfl,k3,K,?_,λa C b hab=>?_,λb i=>⟨?_,λa C hab=>?_⟩⟩;have h0:∀o,bL g0 o b->I b\/w.heap.size<=b\/∃a∈al,a.at b:=λo k=>by
   obtain k|h:=P.own o b k
   let ⟨o',_,u⟩:=s b (iG (yE k))
   exact absurd i (l.box o' b u).1
   simp_all
  obtain i|i|⟨o,_,k⟩:=F.oN b i
  obtain i|i|⟨o,k⟩:=h5.oN b i
  exact .inl (by rw[P.bF]at i;exact i);omega
  grind
  have:=h5.size;omega;obtain⟨o',Xk⟩|hge:=h5.own o b k
  grind
  omega;refine h5.heap b i λo k=>?_;obtain k|⟨a,C,hab⟩:=P.own o b k
  exact B (iG (yE k))
  simp_all
  refine uQ.2 ⟨(uQ.1 p).2.1,(uQ.1 p).1,λa C a' ha' b h1 h2=>(uQ.1 p).2.2 a' ha' a C b h2 h1⟩
  let ⟨o,A,k⟩:=hown a (hmem a C) b hab
  obtain(h|h)|h:=alW o b k
  let ⟨o',ho',u⟩:=s b h
  have:=l.kj o o' b k ⟨(l.box o' b u).1,.inl u⟩
  grind
  exact .inl h;omega
  let ⟨o',ho',u⟩:=s b i
  exact(l.box o' b u).1
  let ⟨o,A,k⟩:=hown a (hmem a C) b hab
  let ⟨o',ho',u⟩:=s b i
  have:=l.kj o o' b k ⟨(l.box o' b u).1,.inl u⟩
  grind
 refine s8 hfs hc (wpIn_mono (qJ hE m (y _ m) n f _ c 0 h (λh=>absurd rfl h) (Ka qq) (by omega) Px P.rel) λe a' w' hq=>?_);obtain hF|⟨ex,fr',s',g',h1,h2,h3,h4,h5,h6⟩:=hq
 exact hF.elim;refine xm hE m (y _ m) n (R:=yN S I w ps rs (RT.res E.pn r) al bl) h2 h1 h4 h5.rel (λt s'' g'' v w'' K k2 k3=>?_) (λt s'' g'' v w'' K k2 k3=>?_)
 .unfold aio at K;split at K;rotate_left;cases K;rename_i r1 e1;simp at K;have e2:RT.res E.pn r=.ok r1:=by rw[<-K];cases E.pn<;>rfl
  simp[yN,e2];exact core _ _ _ (h5.trans k3.toW) rs _ v r1 e1 k2
 .simp[ain]at K;split at K;rotate_left;cases K;rename_i r1 e1;have e2:RT.res E.pn r=.iN (r1.1.1,r1.2):=RT.ado K;simp only[yN,e2];exact⟨v,rfl,core _ _ _ (h5.trans k3.toW) [.dat S.pt] t v r1 e1 k2⟩
section
section
variable {fr fr':cr S}{s s':bx S}
theorem wT:∀{l:L Operand},(∀x∈l,cI fr x=cI fr' x)->kB fr l=kB fr' l
 |[],_=>rfl|x::l,h=>by simp[kB,h x eN,wT λy a=>h y (ie _ a)]
theorem kW:∀{l:L (Nat×Operand)},(∀x∈l.map (·.2),cI fr x=cI fr' x)->je fr l=je fr' l
 |[],_=>rfl|(k,x)::l,h=>by simp[je,h x (by simp),kW λy a=>h y (by simp at a ⊢;exact .inr a)]
theorem Sl:∀{x:O Operand},(∀y∈x.toList,cI fr y=cI fr' y)->Mj fr x=Mj fr' x
 |none,_=>rfl|some x,h=>by simp[Mj,h x (by simp)]
theorem So(E:gC)(s:bx S)(o:Op)(h:∀x∈o.operands.toList,cI fr x=cI fr' x):cP E fr s o=cP E fr' s o:=by
 cases o with
 |buildSlice t n c=>
  grind[Op.operands,cP,kW]
 |build t c=>
  grind[Op.operands,cP,kW]
 |makeFunc f a b=>
  grind[Op.operands,cP,wT]
 |slice t x l d m=>
  grind[Op.operands,cP,Sl]
 |alloc=>rfl|box t x=>grind[Op.operands,cP]|move x=>grind[Op.operands,cP]|assign x=>grind[Op.operands,cP]|pick x y z=>grind[Op.operands,cP]|load t x=>grind[Op.operands,cP]|store t x y=>grind[Op.operands,cP]|nilCheck x=>grind[Op.operands,cP]|binOp op t x y u=>grind[Op.operands,cP]|unOp op t x=>grind[Op.operands,cP]|convert t u x=>grind[Op.operands,cP]|makeInterface t x=>grind[Op.operands,cP]|extract x k=>grind[Op.operands,cP]|fieldAddr t x k=>grind[Op.operands,cP]|field t x k=>grind[Op.operands,cP]|indexAddr t x k=>grind[Op.operands,cP]|index t x k=>grind[Op.operands,cP]|typeAssert x t u ok=>grind[Op.operands,cP]|_=>rfl
theorem Pu:∀{x:O Operand},(∀y∈x.toList,cI fr y=cI fr' y)->Pv fr x=Pv fr' x
 |none,_=>rfl|some x,h=>by simp[Pv,h x (by simp)]
theorem WE(E:gC)(s:bx S)(o:Op)(h:∀x∈o.operands.toList,cI fr x=cI fr' x):uG E fr s o=uG E fr' s o:=by
 cases o with
 |makeMap t r=>
  grind[uG,Pu,Op.operands]
 |lookup t x d ok=>grind[Op.operands,uG]|mapUpdate t x d y=>grind[Op.operands,uG]|insert t x d y=>grind[Op.operands,uG]|makeSlice t n c=>grind[Op.operands,uG]|range t x=>grind[Op.operands,uG]|nilCheck x=>grind[Op.operands,uG]|typeAssert x t u ok=>grind[Op.operands,uG]|build t e=>
  grind[Op.operands,uG,kW]
 |binOp op t x y u=>
  have b:cI fr x=cI fr' x:=h x (by simp[Op.operands]);cases op<;>first
   |rfl|(
     cases y with
     |const v=>
      cases v with
      |nilIface=>simp only[uG,b]|pointer a=>cases a<;>first|rfl|simp only[uG,b]
      |slice a n m=>cases a<;>cases n<;>cases m<;>first|rfl|simp[uG,b]
      |_=>rfl
     |_=>rfl)
 |_=>rfl
theorem WI(E:gC)(s:bx S)(o:Op)(h:∀x∈o.operands.toList,cI fr x=cI fr' x):Cp E fr s o=Cp E fr' s o:=by
 cases o with
 |indexAddr t x f=>grind[Op.operands,Cp]|load t a=>grind[Op.operands,Cp]|store t a x=>
  simp[Op.operands]at h;cases x with|tmp k=>have h2:fr.get k=fr'.get k:=h.2;simp[Cp,h.1,h2]|_=>rfl
 |buildSlice t n g=>
  simp[Cp];split;rename_i b c;have h2:fr.get b=fr'.get b:=h (.tmp b) (by
   grind[Op.operands])
  simp[h2];rfl;rfl
 |slice t x lo d e=>
  cases lo<;>cases d<;>cases e<;>first
   |rfl|(
     rename_i y;have h1:cI fr x=cI fr' x:=h x (by simp[Op.operands]);have h2:cI fr y=cI fr' y:=h y (by simp[Op.operands]);simp only[Cp,h1,h2])
 |_=>rfl
def Km(E:gC)(s:bx S)(o:Op)(h:∀x∈o.operands.toList,cI fr x=cI fr' x):Bb E fr s o=Bb E fr' s o:=by unfold Bb;rw[WI E s o h,So E s o h,WE E s o h]
theorem Kn(E:gC)(s:bx S)(o:Op)(h:∀x∈o.operands.toList,cI fr x=cI fr' x):l7 E fr s o=l7 E fr' s o:=by
 cases o with
 |next c b=>simp[Op.operands]at h;cases b<;>first|rfl|simp[l7,h]
 |lookup t x a ok=>grind[Op.operands,l7]|index t x a=>grind[Op.operands,l7]|_=>rfl
theorem Dt{c:Call}(h:∀x∈c.operands.toList,cI fr x=cI fr' x):kB fr c.args.toList=kB fr' c.args.toList/\(∀f,c.callee=.value f->cI fr f=cI fr' f)/\∀x m,c.callee=.invoke x m->cI fr x=cI fr' x:=by
 grind[Call.operands,wT]
theorem BD(E:eI S)(call:gD S)(o:Oper)(s:bx S){ω:Type}(kp:V S->bx S->O ω)(k:V S->bx S->L Nat->O ω)(h:∀x∈o.op.operands.toList,cI fr x=cI fr' x) :
  vu E call o fr s kp k=vu E call o fr' s kp k:=by
 unfold vu;have a:=Km E.T s o.op h;have d:=Kn E.T s o.op h;cases e:o.op with
 |call c=>
  rw[e]at h
  let ⟨h1,h2,h3⟩:=Dt h
  dsimp only;rw[h1];cases g:c.callee with|value f=>simp_all|builtin b=>rfl|invoke x m=>simp_all
 |panic x=>
  grind[Op.operands]
 |_=>rw[e]at a d;simp only[a,d]
theorem iV(E:eI S)(g:O aa)(o:Oper)(s:bx S){ω:Type}(k:V S->O ω)(h:∀x∈o.op.operands.toList,cI fr x=cI fr' x) :
  fR E g fr s o k=fR E g fr' s o k:=by
 unfold fR;have a:=Km E.T s o.op h;have b:=Kn E.T s o.op h;cases d:o.op with
 |call c=>
  grind[Op.operands,Dt]
 |buildSlice t n e=>
  grind[Op.operands,kW]
 |slice t x l f m=>
  grind[Op.operands]
 |_=>first|rfl|(rw[d]at a b;simp only[a,b])
theorem LZ(E:eI S)(o:Oper)(h:∀x∈o.op.operands.toList,cI fr x=cI fr' x):CE E fr o=CE E fr' o:=by
 unfold CE;cases a:o.op with
 |call c=>
  grind[Op.operands,Dt]
 |buildSlice t n b=>
  grind[Op.operands,kW]
 |slice t x l d m=>
  grind[Op.operands]
 |_=>rfl
def tmpsOf(o:Op):L Nat:=o.operands.toList.filterMap λx=>match x with|.tmp k=>Z k|_=>Y
theorem jA{o:Op}(h:∀k∈tmpsOf o,fr.get k=fr'.get k):∀x∈o.operands.toList,cI fr x=cI fr' x:=by intro x a;cases x with|tmp k=>exact h k (A6.2 ⟨.tmp k,a,rfl⟩)|_=>rfl
theorem sA{o:Op}(c:∀k∈tmpsOf o,k<bO)(h:∀k∈tmpsOf o,fr.get k=fr'.get k):∀k∈tmpsOf o,(sB fr o).get k=(sB fr' o).get k:=by
 have key:∀(l:L Operand)(f a:cr S),(∀k,.tmp k∈l->k∈tmpsOf o)->(∀k∈tmpsOf o,f.get k=a.get k)->∀k∈tmpsOf o,
   (l.foldl (λf x=>match x with
    |.tmp k=>match fr.get k with
     |some (.gd _ v)=>f.put k v|_=>f
    |_=>f) f).get k=(l.foldl (λf x=>match x with
    |.tmp k=>match fr'.get k with
     |some (.gd _ v)=>f.put k v|_=>f
    |_=>f) a).get k:=by
  intro l
  induction l with
  |nil=>simp_all|cons x l d=>
   intro f a e g k b;simp
   grind[cr.ke]
 exact key _ _ _ (λk b=>A6.2 ⟨.tmp k,b,rfl⟩) h
theorem vk{o:Op}(c:aa)(h:∀k∈tmpsOf o,fr.get k=fr'.get k):PA c fr o=PA c fr' o:=by
 have key:∀(l:L Operand)(q:aa),(∀k,.tmp k∈l->k∈tmpsOf o)->
   l.foldl (λp x=>match x with
    |.tmp k=>match fr.get k with
     |some (.gd g _)=>p&&imp c g|_=>p
    |_=>p) q=l.foldl (λp x=>match x with
    |.tmp k=>match fr'.get k with
     |some (.gd g _)=>p&&imp c g|_=>p
    |_=>p) q:=by
  intro l
  induction l with
  |nil=>intro q _;rfl
  |cons x l b=>
   grind
 exact key _ _ (λk a=>A6.2 ⟨.tmp k,a,rfl⟩)
def oR(ops:L Oper)(o:Oper):O Nat:=match o.guard with
 |none=>Y|some (j,_)=>(nth ops j).bind (·.dst)
def qu{ops:L Oper}{o:Oper}(h:∀k,oR ops o=Z k->fr.get k=fr'.get k):iT ops fr o=iT ops fr' o:=by
 unfold iT;cases b:o.guard with
 |none=>rfl|some p=>
  let ⟨j,a⟩:=p
  dsimp only;cases c:(nth ops j).bind (·.dst)with|none=>rfl|some k=>simp;rw[h k (by simp[oR,b,c])]
theorem sk{ops:L Oper}{o:Oper}(h:∀k,oR ops o=Z k->fr.get k=fr'.get k):vX ops fr o=vX ops fr' o:=by
 unfold vX;cases b:o.guard with
 |none=>rfl|some p=>
  let ⟨j,a⟩:=p
  dsimp only;cases c:(nth ops j).bind (·.dst)with|none=>rfl|some k=>simp;rw[h k (by simp[oR,b,c])]
theorem JC(E:eI S)(call:gD S){ops:L Oper}{o:Oper}(s:bx S){ω:Type}(kp:V S->bx S->O ω)(k:V S->bx S->L Nat->O ω)(hn:fr.n=fr'.n)(b:∀k∈tmpsOf o.op,k<bO)
  (h:∀k∈tmpsOf o.op,fr.get k=fr'.get k) (a:∀k,oR ops o=Z k->fr.get k=fr'.get k):qv E call ops o fr s kp k=qv E call ops o fr' s kp k:=by
 unfold qv;have h1:gU fr o.dst=gU fr' o.dst:=by cases o.dst<;>simp only[gU,hn]
 have h2:=jA h;have h3:=jA (sA b h);rw[h1,qu a,sk a];simp[BD E call o s kp k h2,BD E call o s kp k h3,LZ E o h3,vk (o:=o.op) _ h]
 grind[iV]
end
theorem IG{ω:Type}(k:V S->O ω){D:O ω}{a:O (V S)}(h:D=a.bind k):∀l:L (aa×V S×bx S),xL k D l=(xL Z a l).bind k
 |[]=>h|p::l=>by simp[xL,IG k h l];cases p.1<;>rfl
theorem BB(E:eI S)(g:O aa)(fr:cr S)(s:bx S)(o:Oper){ω:Type}(k:V S->O ω):fR E g fr s o k=(fR E g fr s o Z).bind k:=by
 have a:∀(p:aa)(t:V S),Ab g p (k t)=(Ab g p (Z t)).bind k:=by
  intro p t;cases g with
  |none=>cases p<;>rfl
  |some c=>cases c<;>cases p<;>rfl
 unfold fR;split;split;rfl;split
 grind
 split;rfl;split;rfl
 .rename_i c _;cases(cE c.ps&&(j0 c.rs&&(j7 _&&!c.pn)))with
  |false=>rfl|true=>
   split;unfold aj
   grind
   rfl
 rfl
 iterate 11
  rfl
 grind
 grind
 grind[IG]
def Sm(s s':bx S)(v:V S):Prop:=∀o,cQ (Nq o) v=W->s'.ob.get o=s.ob.get o
def Sms(s s':bx S)(l:L (V S)):Prop:=∀o,iS (Nq o) l=W->s'.ob.get o=s.ob.get o
variable {v:V S}
def Sms.cons{s s':bx S}{l:L (V S)}(h:Sms s s' (v::l)):Sm s s' v/\Sms s s' l:=
 ⟨λo a=>h o (by simp[iS,a]),λo a=>h o (by simp[iS,a])⟩
theorem Cy{s s':bx S}{v:V S}(h:Sm s s' v)(e:Ty):LQ s' e v=LQ s e v:=by
 cases v with
 |sh o r=>simp[LQ,h o (by simp[cQ])]
 |ty t x=>cases t<;>rfl
 |_=>rfl
def Vz{s s':bx S}{o:Nat}(h:s'.ob.get o=s.ob.get o)(e:Nat):Nf s' o e=Nf s o e:=by simp[Nf,h]
mutual
def AN{s s':bx S}:∀(t:Ty)(v:V S),Sm s s' v->wD v=W->ck s' t v=ck s t v
 |t,.agg c,h,b=>by cases t with|st n=>simp[ck,N5 (S.fs n) c h b]|_=>simp only[ck]
 |t,.dn u v,h,b=>by
  cases t with
  |dn n=>
   simp[ck];cases xN (S.alts n) u with|none=>rfl|some i=>simp[AN (nL (S.alts n) i) v h b]
  |_=>simp only[ck]
 |t,.sh o r,_,b=>by simp[wD]at b
 |t,.sV _ _ _ _,_,b=>by rfl
 |t,.qx _ _ _,_,_=>by cases t<;>simp only[ck]
 |t,.ty _ _,_,_=>by rfl
 |t,.kb _,_,_=>by cases t<;>simp only[ck]
 |t,.kn _ _,_,_=>by cases t<;>simp only[ck]
 |t,.dat d,_,_=>by
  cases t with
  |dn n=>
   cases d with
   |lit v=>cases v<;>simp only[ck]
   |_=>simp only[ck]
  |opt n=>
   cases d with
   |lit v=>cases v with
    |pointer a=>cases a<;>simp only[ck]
    |_=>simp only[ck]
   |_=>simp only[ck]
  |_=>simp only[ck]
 |t,.ptr _ _,_,_=>by cases t<;>simp only[ck]
 |t,.mD _ _ _,_,_=>by cases t<;>simp only[ck]
 |t,.mC _ _ _ _,_,_=>by cases t<;>simp only[ck]
 |t,.emp,_,_=>by cases t<;>simp only[ck]
 |t,.kR _ _ _,_,_=>by cases t<;>simp only[ck]
 |t,.fn _ _ _,_,_=>by cases t<;>simp only[ck]
 |t,.gX _,_,_=>by cases t<;>simp only[ck]
 |t,.gd _ _,_,_=>by cases t<;>simp only[ck]
 |t,.mp _,_,_=>by cases t<;>simp only[ck]
 |t,.r9 _,_,_=>by cases t<;>simp only[ck]
 |t,.uH _,_,_=>by cases t<;>simp only[ck]
 |t,.ub _,_,_=>by cases t<;>simp only[ck]
def N5{s s':bx S}:∀(ts:L Ty)(l:L (V S)),Sms s s' l->j7 l=W->oE s' ts l=oE s ts l
 |[],[],_,_=>rfl|t::ts,v::l,h,a=>by simp[j7,eX]at a;simp[oE,AN t v h.cons.1 a.1,N5 ts l h.cons.2 a.2]
 |[],_::_,_,_=>rfl|_::_,[],_,_=>rfl
end
def gI(r:oh S):O (aa×V S):=match r with
 |some (c,t,_)=>Z (c,t)|none=>Y
theorem qL{b:aa}{x y:oh S}(h:b=W->gI x=gI y):gI (bif b then x else Y)=gI (bif b then y else Y):=by
 grind
theorem S9{b:aa}{x y x' a:oh S}(h:gI x=gI x')(c:gI y=gI a):gI (bif b then x else y)=gI (bif b then x' else a):=by
 grind
theorem gO{α:Type}(x:O α)(f g:α->aa×V S×bx S)(h:∀a,(f a).1=(g a).1/\(f a).2.1=(g a).2.1):gI (x.map f)=gI (x.map g):=by cases x with|none=>rfl|some a=>grind[gI]
section
variable {fr:cr S}{s s':bx S}
theorem ZN(i:TI)(τ:O Ty){a:V S}(h:Sm s s' a):gI (zh i τ s' a)=gI (zh i τ s a):=by
 cases a with
 |ptr o off=>
  simp[zh,h o (by simp[cQ])];cases s.ob.get o with
  |none=>rfl|some ob=>
   cases ob with
   |box b=>
    dsimp only;cases Nq (cM ((b.drop off).take i.size)) i.size with|false=>rfl|true=>exact gO _ _ _ λ_=>⟨rfl,rfl⟩
   |_=>rfl
 |mD t x off=>exact gO _ _ _ λ_=>⟨rfl,rfl⟩|mC o e k off=>
  simp[zh,Vz (h o (by simp[cQ]))];cases Nf s o e with|none=>rfl|some x=>exact gO _ _ _ λ_=>⟨rfl,rfl⟩
 |_=>rfl
theorem Jx(i:TI)(τ:O Ty){a b:V S}(h:Sm s s' a):gI (kH i τ s' a b)=gI (kH i τ s a b):=by
 unfold kH;split
 .rename_i e n c _;cases a with
  |sh o r=>
   simp[Vz (h o (by simp[cQ]))];cases Nf s o r with|none=>rfl|some x=>dsimp only;cases sN x.1 e<;>rfl
  |ty t x=>dsimp only;rw[Cy h];cases LQ s e (.ty t x)<;>rfl
  |emp=>rfl|kR n t l=>dsimp only;rw[Cy h];cases LQ s e (.kR n t l)<;>rfl
  |qx n t l=>dsimp only;rw[Cy h];cases LQ s e (.qx n t l)<;>rfl
  |_=>rfl
 unfold xK;split;rename_i k;cases Nt k _<;>rfl;rfl;rfl
theorem adr(E:gC)(o:Op)(c:rz o=J)(h:∀x∈o.operands.toList,∀v,cI fr x=Z v->Sm s s' v):gI (cP E fr s' o)=gI (cP E fr s o):=by
 cases o with
 |alloc=>cases c
 |box=>cases c
 |store=>cases c
 |buildSlice=>cases c
 |slice=>cases c
 |move x=>exact gO _ _ _ λ_=>⟨rfl,rfl⟩|assign x=>exact gO _ _ _ λ_=>⟨rfl,rfl⟩|pick x y z=>simp[cP];split;exact gO _ _ _ λ_=>⟨rfl,rfl⟩;rfl
 |build t i=>simp[cP];split;split;exact gO _ _ _ λ_=>⟨rfl,rfl⟩;rfl;rfl
 |load t x=>
  grind[cP,ZN,Op.operands]
 |nilCheck x=>
  simp[cP];split<;>first|rfl|(split<;>rfl)
 |binOp op t x y u=>simp[cP];split;exact gO _ _ _ λ_=>⟨rfl,rfl⟩;rfl
 |unOp op t x=>simp[cP];split;exact gO _ _ _ λ_=>⟨rfl,rfl⟩;rfl
 |convert t u x=>simp[cP];split;unfold Vo;split;exact gO _ _ _ λ_=>⟨rfl,rfl⟩;exact gO _ _ _ λ_=>⟨rfl,rfl⟩;rfl;rfl
 |makeInterface t x=>simp[cP];split;split<;>rfl;rfl
 |makeFunc f a b=>simp[cP];split<;>rfl
 |extract x k=>simp[cP];split;unfold Bz;split;exact gO _ _ _ λ_=>⟨rfl,rfl⟩;rfl;rfl
 |fieldAddr t x k=>
  simp[cP];split;unfold rN;split;split
  .rename_i off size d _;cases Nq size 0 with
   |true=>rfl|false=>
    first|rfl|(simp only[jP];split<;>rfl)
  rfl;rfl;rfl
 |field t x k=>
  simp[cP];split;unfold Dd;split;split
  .rename_i off size d e _ _;dsimp only;cases(Nq (cM ((e.drop off).take size)) size&&!(Nq size 0))with|false=>rfl|true=>exact gO _ _ _ λ_=>⟨rfl,rfl⟩
  rfl;rfl;rfl
 |indexAddr t x g=>
  grind[cP,Jx,Op.operands]
 |index t x g=>simp[cP];split;unfold CU;split<;>rfl;rfl
 |typeAssert x a t ok=>
  simp[cP];split;rename_i v h1 h2;unfold FO;split;rfl
  .rename_i u v _;cases Nq u t with|true=>rfl|false=>exact gO _ _ _ λ_=>⟨rfl,rfl⟩
  rename_i u v _;cases Nq u t<;>rfl;rfl;rfl
 |_=>rfl
end
section
variable {fr:cr S}{s s':bx S}
theorem KX{r a:oh S}(h:gI r=gI a):r=Y↔a=Y:=by cases r<;>cases a<;>simp_all [gI]
def adC{s s':bx S}{kt a:Ty}(h:Sm s s' v):ZK s' kt a v=ZK s kt a v:=by unfold ZK;split;rename_i o;rw[h o (by simp[cQ])];rfl;rfl;rfl
theorem ag9(E:gC)(o:Op)(b:rz o=J)(c:∀x∈o.operands.toList,∀v,cI fr x=Z v->Sm s s' v):gI (uG E fr s' o)=gI (uG E fr s o):=by
 cases o with
 |makeMap=>cases b
 |mapUpdate=>cases b
 |insert=>cases b
 |makeSlice=>cases b
 |range=>cases b
 |lookup t x d ok=>simp[uG];split;rename_i m e f h1 h2 h3;have:=c x (by simp[Op.operands]) _ h2;simp[adC this];split;split<;>rfl;rfl;rfl
 |nilCheck x=>simp[uG];split<;>rfl
 |typeAssert x t u ok=>simp[uG];split;rename_i τ n y _ _ _;split;rfl;rename_i j _ _;cases sN (nL (S.alts n) j) τ<;>cases ok<;>rfl;cases ok<;>rfl;rfl
 |build t g=>simp only[uG];split;split;exact gO _ _ _ λ_=>⟨rfl,rfl⟩;rfl;rfl
 |binOp op t x y u=>
  cases op<;>first
   |rfl|(
     cases y with
     |const v=>
      cases v with
      |nilIface=>simp only[uG];split<;>first|rfl|(split<;>rfl)
      |pointer a=>cases a<;>first|rfl|(simp only[uG];split<;>first|rfl|(split<;>rfl))
      |slice a n m=>
       cases a<;>cases n<;>cases m<;>first
        |rfl|(
         simp[uG];split;rename_i h2;have:=c x (by simp[Op.operands]) _ h2;simp[Cy this];split<;>rfl;rfl)
      |_=>rfl
     |_=>rfl)
 |_=>rfl
theorem ahd(E:gC)(o:Op)(b:rz o=J)(c:∀x∈o.operands.toList,∀v,cI fr x=Z v->Sm s s' v):gI (Cp E fr s' o)=gI (Cp E fr s o):=by
 cases o with
 |slice=>cases b
 |store=>cases b
 |buildSlice=>cases b
 |indexAddr t x d=>simp[Cp];split;rename_i o r h1;rw[c x (by simp[Op.operands]) _ h1 o (by simp[cQ])];split;split;split;exact qL λ_=>rfl;rfl;rfl;rfl;rfl
 |load t a=>simp only[Cp];split;rename_i o e k off h1;rw[c a (by simp[Op.operands]) _ h1 o (by simp[cQ])];split;split;exact qL λ_=>S9 (qL λ_=>rfl) (qL λ_=>gO _ _ _ λ_=>⟨rfl,rfl⟩);rfl;rfl;rfl
 |_=>rfl
theorem UL(E:gC){o:Op}(a:gI (Cp E fr s' o)=gI (Cp E fr s o))(h1:gI (cP E fr s' o)=gI (cP E fr s o))(h2:gI (uG E fr s' o)=gI (uG E fr s o)):gI (Bb E fr s' o)=gI (Bb E fr s o):=by
 grind[Bb,KX]
theorem aha(E:gC)(o:Op)(a:rz o=J)(b:∀x∈o.operands.toList,∀v,cI fr x=Z v->Sm s s' v):gI (Bb E fr s' o)=gI (Bb E fr s o):=by
 grind[adr,ag9,ahd,UL]
def JG(a:L (aa×V S×bx S)):L (aa×V S):=a.map λp=>(p.1,p.2.1)
def Ll{ω:Type}(k:V S->O ω)(d:O ω):∀{l m:L (aa×V S×bx S)},JG l=JG m->xL k d l=xL k d m
 |[],[],_=>rfl|p::l,q::m,h=>by simp[JG,o7,OI,fH]at h;simp[xL,h.1.1,h.1.2,Ll k d (l:=l) (m:=m) h.2]
 |[],_::_,h=>by simp[JG]at h
 |_::_,[],h=>by simp[JG]at h
def aa9(r:O (L (aa×V S×bx S)×aa×V S×bx S)):O (L (aa×V S)×aa×V S):=match r with
 |none=>Y|some (l,p,d,_)=>Z (JG l,p,d)
def II(n:Int)(ag:aa)(sz:Nat)(cs:L (V S))(s s':bx S):∀l:L Nat,JG (Ao n ag sz cs s' l)=JG (Ao n ag sz cs s l)
 |[]=>rfl|j::l=>by simp only[Ao];split;simp[JG,o7,OI,true_and];exact II n ag sz cs s s' l;rfl
def ahb(E:gC)(o:Op)(b:rz o=J)(c:∀x∈o.operands.toList,∀v,cI fr x=Z v->Sm s s' v):aa9 (l7 E fr s' o)=aa9 (l7 E fr s o):=by
 cases o with
 |next=>cases b
 |lookup t x d ok=>
  simp[l7];split;rename_i a e h1 h2 h3;have:=c x (by simp[Op.operands]) _ h2 a (by simp[cQ]);rw[this];split;split
  simp_all[aa9,JG]
  rfl;rfl;rfl
 |index t x d=>
  simp[l7];split;rename_i i f e _ _ _;split
  .cases Nq (cM f) i.size with|false=>rfl|true=>simp[iq,aa9,II _ _ _ _ s s']
  rfl;rfl
 |_=>rfl
end
def KP{s s':bx S}{e:Ty}:∀{ps:L (Nat×V S)}{es:L (den S.A e)},(∀p∈ps,Sm s s' p.2)->(∀p∈ps,wD p.2=W)->pH s' e es ps=pH s e es ps
 |[],es,_,_=>rfl|(k,v)::ps,es,h,b=>by simp[pH,AN e v (h _ eN) (b _ eN)];cases ck s e v with|none=>rfl|some x=>dsimp only;rw[KP (λp a=>h p (ie _ a)) (λp a=>b p (ie _ a))]
theorem GW{fr:cr S}:∀{ps:L (Nat×Operand)}{l:L (Nat×V S)},je fr ps=Z l->∀p∈l,∃x∈ps.map (·.2),cI fr x=Z p.2
 |[],l,h,p,a=>by grind[je]
 |(k,x)::ps,l,h,p,a=>by
  simp[je]at h;split at h;rename_i h2;simp at h;subst h;obtain rfl|a:=gn.1 a
  simp_all
  let ⟨y,b,h⟩:=GW h2 p a
  grind
  cases h
theorem Kl{fr:cr S}:∀{ps:L Operand}{l:L (V S)},kB fr ps=Z l->∀v∈l,∃x∈ps,cI fr x=Z v
 |[],l,h,p,a=>by grind[kB]
 |x::ps,l,h,p,a=>by
  simp[kB]at h;split at h;rename_i h2;simp at h;subst h;obtain rfl|a:=gn.1 a
  simp_all
  let ⟨y,b,h⟩:=Kl h2 p a
  grind
  cases h
theorem V8(i:TI)(τ:O Ty){s s':bx S}{v:V S}(hs:∀e,LQ s' e v=LQ s e v)(f:OW v=[])(l h m:O (V S)):gI (wM i τ s' v l h m)=gI (wM i τ s v l h m):=by
 unfold wM;rw[f];simp[dZ,hs];split;split;split<;>rfl;rfl
 .rename_i e lo _;cases i.kd with
  |slice a b c d=>
   cases LQ s e v with
   |none=>rfl|some g=>
    dsimp only;cases Dz (au g) h with
    |none=>rfl|some j=>
     cases m with
     |none=>rfl|some y=>
      cases h with
      |none=>rfl|some z=>
       cases y with
       |kn k n=>
        cases k with
        |i64=>cases n with
         |ofNat n=>cases n<;>rfl
         |negSucc n=>rfl
        |_=>rfl
       |ty t x=>dsimp only;cases ia .i64 (V.ty (S:=S) t x)<;>rfl
       |_=>rfl
  |_=>rfl
 rfl
def Kj{s s':bx S}:∀{ps:L Pk}{l:L (V S)},cE ps=W->(∀v∈l,Sm s s' v)->j7 l=W->eR s' ps l=eR s ps l
 |[],[],_,_,_=>rfl|.one (.dat t)::ps,v::l,a,h,b=>by simp[j7,eX]at b;simp[eR,pU,AN t v (h v eN) b.1,Kj (ps:=ps) (by simpa[cE]using a) (λv c=>h v (ie _ c)) b.2]
 |.one (.own _)::_,_,a,_,_=>by simp[cE]at a
 |.one (.kE ..)::_,_,a,_,_=>by simp[cE]at a
 |.one (.nil _)::_,_,a,_,_=>by simp[cE]at a
 |.one (.ptr _)::_,_,a,_,_=>by simp[cE]at a
 |.box _::_,_,a,_,_=>by simp[cE]at a
 |[],_::_,_,_,_=>rfl|.one _::_,[],_,_,_=>rfl
def zX{p:Nat->aa}:∀{l:L (V S)}{v:V S},v∈l->cQ p v=W->iS p l=W
 |a::l,v,h,b=>by
  obtain rfl|h:=gn.1 h
  simp[iS,b];simp[iS,zX h b]
def E9(E:gC){s s':bx S}{ts:Array TypeId}{args:L (V S)}(h:∀v∈args,Sm s s' v):gI (iE E s' .len ts args)=gI (iE E s .len ts args):=by
 unfold iE;split;rename_i _;split;split<;>rfl;split;rw[Cy (h _ (by simp))];exact gO _ _ _ λ_=>⟨rfl,rfl⟩;rfl;rfl
 simp_all
 rfl
theorem Dv(E:gC){s s':bx S}{b:Builtin}(a:Ft b=W){ts:Array TypeId}{args:L (V S)}(h:∀v∈args,Sm s s' v):gI (me E s' b ts args)=gI (me E s b ts args):=by
 have h1:gI (iE E s' b ts args)=gI (iE E s b ts args):=by cases b with|len=>exact E9 E h|max=>rfl|min=>rfl|_=>cases a
 have h2:gI (uw E s' b ts args)=gI (uw E s b ts args):=by unfold uw;split;rename_i o;rw[h (.mp o) (by simp) o (by simp[cQ])];split<;>rfl;split<;>rfl;split<;>rfl;rfl
 have c:gI (nu E s' b ts args)=gI (nu E s b ts args):=by unfold nu;split;rename_i o r;rw[h (.sh o r) (by simp) o (by simp[cQ])];split;split;split;exact qL λ_=>rfl;rfl;rfl;rfl;cases a;cases a;rfl
 have h3:gI (ux E s' b ts args)=gI (ux E s b ts args):=by cases b<;>first|rfl|cases a
 grind[me,KX]
def agK{α:Type}(f:aa->V S->O α)(r:oh S):O α:=match r with
 |none=>Y|some (p,t,_)=>f p t
def BJ{α:Type}{r a:oh S}(h:gI r=gI a)(f:aa->V S->O α):agK f r=agK f a:=by
 cases r with
 |none=>cases a with|none=>rfl|some x=>cases h
 |some x=>cases a with
  |none=>cases h
  |some y=>simp[gI,gV,fH]at h;simp[agK];rw[h.1,h.2]
theorem H7(E:eI S)(g:O aa){fr:cr S}{s s':bx S}(o:Oper){ω:Type}(k:V S->O ω)(i:∀x∈o.op.operands.toList,∀v,cI fr x=Z v->Sm s s' v) :
  fR E g fr s' o k=fR E g fr s o k:=by
 unfold fR;have A:rz o.op=J->gI (Bb E.T fr s' o.op)=gI (Bb E.T fr s o.op):=λhq=>aha E.T o.op hq i;cases B:o.op with
 |call c=>
  rw[B]at i;simp only[Op.operands,Call.operands,Wq,fc]at i;dsimp only;cases ha:kB fr c.args.toList with
  |none=>rfl|some args=>
   have w:∀v∈args,Sm s s' v:=λv z=>by
    grind[Kl]
   cases K:c.callee with
   |value f=>
    dsimp only;cases hf:cI fr f with
    |none=>rfl|some v=>
     simp;have z:=i f (.inl (by rw[K];simp)) v hf;cases d:qz v args with
     |none=>rfl|some q=>
      let ⟨f',j⟩:=q
      dsimp only;cases hg:E.JA f' with
      |none=>rfl|some c'=>
       dsimp only;have m:∀v∈j,Sm s s' v:=by
        unfold qz at d;split at d;obtain⟨_,rfl⟩:=d;intro u hu;simp only[fc]at hu;obtain(hu|hu)|hu:=hu
        exact λo P=>z o (by simp[cQ,zX hu P])
        grind
        exact λo P=>z o (by simp[cQ,zX hu P]);cases d
       cases R:cE c'.ps with
       |false=>rfl|true=>
        cases hns:j7 j with|false=>simp|true=>rw[Kj R m hns]
   |builtin b=>
    dsimp only;cases hb:Ft b with
    |false=>rfl|true=>
     have:=BJ (Dv E.T hb (ts:=c.argTypes) w) (λp t=>Ab g p (k t));cases h1:me E.T s' b c.argTypes args with
     |none=>cases h2:me E.T s b c.argTypes args with|none=>rfl|some y=>rw[h1,h2]at this;exact this
     |some x=>cases h2:me E.T s b c.argTypes args with|none=>rw[h1,h2]at this;exact this|some y=>rw[h1,h2]at this;exact this
   |invoke=>rfl
 |buildSlice t n ps=>
  rw[B]at i;simp only[Op.operands]at i;dsimp only;cases C:je fr ps.toList with
  |none=>rfl|some l=>
   dsimp only;cases r:j7 (l.map (·.2))with
   |false=>rfl|true=>
    refine BJ ?_ (λp t=>Ab g p (k t));refine UL E.T ?_ ?_ rfl;simp[Cp];split;rename_i kx F;split;split;split;refine qL λ_=>?_;have hmm:=i (.tmp kx) (by rw[F];simp);rename_i I _ _ _ _ _ _ _ _ _ _ _ _;rw[F]at C;simp[je,cI,I,gV]at C;subst C;simp[o7,List.map_nil,j7,Ma]at r;rw[AN _ _ (hmm _ I) r];split;rename_i MJ;have:=tZ _ _ _ r MJ;subst this;rfl;rfl;rfl;rfl;rfl;split;split;cases Nq n 0<;>rfl;rfl;rfl;rfl;simp only[cP,C];split;rename_i e ps' h1 h2 h3;cases h3;split
    .rename_i sz _ _ _ _;cases Nl (Nat.mul n sz) 16777216 with
     |false=>rfl|true=>
      rw[KP (λp hp=>by
       let ⟨x,I,h⟩:=GW C p hp
       exact i x (by simpa using I) _ h) (Hh r)]
      cases hel:pH s e (List.replicate n (S.zero e)) l with
      |none=>rfl|some q=>
       let ⟨es,os⟩:=q
       have:=Dj (Hh r) hel;subst this;rfl
    rfl;rfl
 |slice t x lo hi mx=>
  rw[B]at i;dsimp only;cases z:cI fr x with
  |none=>rfl|some v=>
   dsimp only;cases r:wD v with
   |false=>rfl|true=>
    refine BJ ?_ (λp t=>Ab g p (k t));have hsm:=i x (by simp[Op.operands]) v z;have hown:OW v=[]:=by cases v<;>first|rfl|simp[wD]at r
    rw[Fz rfl (CJ z r),Fz rfl (CJ z r)]
    grind[cP,V8,Cy]
 |store=>rfl|alloc=>rfl|box=>rfl|panic=>rfl|makeMap=>rfl|mapUpdate=>rfl|insert=>rfl|makeSlice=>rfl|range=>rfl|next=>rfl|defer=>rfl|_=>
  have a:=ahb E.T o.op (by rw[B];rfl) i;rw[B]at A a;dsimp only;have h2:=BJ (A rfl) (λp t=>Ab g p (k t));generalize I:l7 E.T fr s' _=x at a;generalize hy:l7 E.T fr s _=y at a;cases x with
  |none=>cases y with|none=>exact h2|some y=>cases a
  |some x=>cases y with
   |none=>cases a
   |some y=>simp only[aa9,gV,fH]at a;obtain⟨q1,q2,q3⟩:=a;dsimp only;rw[q2,q3];exact Ll k _ q1
end
theorem M8(e j:Nat):(1 <<< e).testBit j=decide (e=j):=by rw[Nat.shiftLeft_eq,J9,Nat.testBit_two_pow]
theorem KK(f:Nat->Nat)(j:Nat):∀(l:L Nat)(z:Nat),(l.foldl (λb e=>b||| (1 <<< e||| f e)) z).testBit j=(z.testBit j||l.any λe=>decide (e=j)||(f e).testBit j)
 |[],z=>by simp
 |e::l,z=>by
  rw[OJ,KK f j l]
  grind[M8]
theorem xG:∀(l:L Oper)(a:L Nat)(i:Nat),i<a.length->(QC l a).getD i 0=a.getD i 0
 |[],_,_,_=>rfl|o::l,a,i,h=>by
  rw[QC,xG l _ i (by grind)]
  grind
def any_eq{α:Type}{f g:α->aa}:∀{l:L α},(∀e∈l,f e=g e)->l.any f=l.any g
 |[],_=>rfl|a::l,h=>by rw[List.any_cons,List.any_cons,h a eN,any_eq λe b=>h e (ie _ b)]
theorem Vx:∀(l:L Oper)(acc:L Nat)(k:Nat)(o:Oper),l[k]?=Z o->v7 l acc.length=W->∀j,
  ((QC l acc).getD (acc.length+k) 0).testBit j=(yY o).any λe=>decide (e=j)||((QC l acc).getD e 0).testBit j
 |[],acc,k,o,h,_,j=>by simp at h
 |p::l,acc,k,o,h,c,j=>by
  simp only[v7,eX]at c;cases k with
  |zero=>simp at h;subst h;rw[QC,xG _ _ _ (by simp_all)];simp;rw[KK];simp;refine any_eq λe d=>?_;have a:e<acc.length:=gY (kU.1 c.1 e d);have:=xG l (acc++[(yY p).foldl (λb e=>b||| (1 <<< e||| acc.getD e 0)) 0]) e (by grind);simp[wB,YK a]at this ⊢;rw[this]
  |succ k=>
   rw[QC];have:=Vx l (acc++[(yY p).foldl (λb e=>b||| (1 <<< e||| acc.getD e 0)) 0]) k o (by simpa using h) (by grind) j
   grind
section
variable {ops:List Oper}
def Pre(ops:L Oper)(i j:Nat):Prop:=((xF ops).getD i 0).testBit j=W
variable {i:Nat}{o:Oper}
def Fy(a:v7 ops 0=W)(h:ops[i]?=Z o)(j:Nat):Pre ops i j↔∃e∈yY o,e=j\/Pre ops e j:=by
 have:=Vx ops [] i o h a j
 simp_all[Pre,xF]
def BX:∀{l:L Oper}{n:Nat},v7 l n=W->∀{k:Nat}{o:Oper},l[k]?=Z o->∀e∈yY o,e<n+k
 |[],_,_,k,o,h,_,_=>by simp at h
 |p::l,n,a,k,o,h,e,b=>by
  simp only[v7,eX]at a;cases k with
  |zero=>
   simp_all
  |succ k=>have:=BX a.2 (k:=k) (by simpa using h) e b;omega
theorem Zh(a:v7 ops 0=W):∀{i:Nat}{o:Oper},ops[i]?=Z o->∀j,Pre ops i j->j<i:=by
 intro i
 induction i using Nat.strongRecOn with
 |_ i g=>
  intro o h j b
  let ⟨e,c,d⟩:=(Fy a h j).1 b
  have f:=BX a h e c
  grind
theorem Wy(a:v7 ops 0=W):∀{i:Nat}{o:Oper},ops[i]?=Z o->∀{j k:Nat},Pre ops i j->Pre ops j k->Pre ops i k:=by
 intro i
 induction i using Nat.strongRecOn with
 |_ i g=>
  intro o h j k c d
  let ⟨e,b,hej⟩:=(Fy a h j).1 c
  refine(Fy a h k).2 ⟨e,b,.inr ?_⟩;obtain rfl|hej:=hej
  exact d;have f:=BX a h e b
  grind
theorem nU(b:v7 ops 0=W){a:Nat->Prop}(k:∀i o,ops[i]?=Z o->a i->∀e∈yY o,a e):∀{i:Nat}{o:Oper},ops[i]?=Z o->(∀e∈yY o,a e)->∀j,Pre ops i j->a j:=by
 intro i
 induction i using Nat.strongRecOn with
 |_ i l=>
  intro o h d j f
  let ⟨e,c,hej⟩:=(Fy b h j).1 f
  obtain rfl|hej:=hej
  exact d _ c;have g:=BX b h e c
  grind
theorem AQ{a b:Nat}:V6 a b=W↔∀j,a.testBit j=W->b.testBit j=W:=by
 unfold V6;constructor;intro h j c;have h:a&&& b=a:=wA h
 grind
 intro h;have:a&&& b=a:=Nat.eq_of_testBit_eq λj=>by
  simp_all
 rw[this];simp
def sS(ops:L Oper):X0:=ops.zipIdx.map λp=>(p.2,p.1)
theorem jH{i:Nat}{o:Oper}:(i,o)∈sS ops↔ops[i]?=Z o:=by
 unfold sS;rw[wP];constructor
 grind
 intro h;exact⟨(o,i),OB.2 h,rfl⟩
theorem vC(h:aiD ops (xF ops)=W){i:Nat}{o:Oper}(hi:ops[i]?=Z o){d:Nat}(f:o.dst=Z d) :
  d<bO/\d∉tmpsOf o.op/\∀{j:Nat}{p:Oper},ops[j]?=Z p->i≠j->p.dst≠Z d/\(d∈tmpsOf p.op->Pre ops j i\/Pre ops i j):=by
 have h1:=kU.1 h (o,i) (OB.2 hi);simp only[f,eX]at h1;have c:∀{p:Oper},d∈tmpsOf p.op->NW p d=W:=by
  intro p a
  let ⟨x,g,b⟩:=A6.1 a
  refine Uv.2 ⟨x,g,?_⟩;cases x with
  |tmp k=>
   simp_all
  |_=>cases b
 refine⟨gY h1.1,λa=>?_,λ{j p}l m=>?_⟩;have h2:=kU.1 h1.2 (o,i) (OB.2 hi)
 simp_all
 have h2:=kU.1 h1.2 (p,j) (OB.2 l);have e:Nq i j=J:=by
  grind[Nat.eq_of_beq_eq_true]
 simp only[e,jP,eX,o8]at h2;refine⟨λn=>?_,λa=>?_⟩
 simp_all
 obtain h3|h3:=h2.2
 simp_all
 exact h3
def antiP(ops:L Oper)(i:Nat):Prop:=∃o,ops[i]?=Z o/\∃d,o.dst=Z d/\∃j p,ops[j]?=Z p/\d∈tmpsOf p.op/\Pre ops i j
def abq(hi:ops[i]?=Z o)(h:VD ops (xF ops) i o=J):¬antiP ops i:=by
 rintro⟨e,b,d,f,j,p,g,l,m⟩
 have:o=e:=ko (hi.symm.trans b);subst this;unfold VD at h;rw[f]at h;have h1:=List.any_eq_false.1 h (p,j) (OB.2 g);have a:NW p d=W:=by
  let ⟨x,n,c⟩:=A6.1 l
  refine Uv.2 ⟨x,n,?_⟩;cases x with
  |tmp k=>
   simp_all
  |_=>cases c
 refine h1 ?_;simp only[a,rf];exact m
def aaE(h:SW ops (xF ops)=W)(hi:ops[i]?=Z o){d:Nat}(a:oR ops o=Z d):∃j p,ops[j]?=Z p/\p.dst=Z d/\Pre ops i j:=by
 have h1:=kU.1 h (o,i) (OB.2 hi);unfold oR at a;cases e:o.guard with
 |none=>simp_all|some q=>
  let ⟨j,c⟩:=q
  simp only[e]at a h1;rw[kD,wz]at a
  let ⟨p,f,b⟩:=a
  exact⟨j,p,f,b,h1⟩
def FX(h:agJ ops=W)(hi:ops[i]?=Z o):∀k∈tmpsOf o.op,k<bO:=by
 intro k b
 let ⟨x,c,a⟩:=A6.1 b
 have h1:=kU.1 h o (iG hi);have h2:=kU.1 h1 x c;cases x with
 |tmp j=>
  simp_all
 |_=>cases a
def abt{E:gC}{n:Nat}(h:Tu E n ops=W)(hi:ops[i]?=Z o)(a:fC o=W):o.guard=Y/\(∃t c,o.op=.alloc t/\E.E.ti t=Z c)/\∀d,o.dst=Z d->d<n:=by
 have h1:=kU.1 h o (iG hi);simp[a,cond_true,eX]at h1;unfold fC at a;split at a;rename_i t b;rw[b]at h1;refine⟨by simpa using a,⟨t,?_⟩,λd f=>?_⟩
 .cases e:E.E.ti t with|none=>simp_all|some c=>simp_all
 simp_all
 cases a
theorem Ki(done:Nat):∀(l:X0)(z j:Nat),(l.foldl (λb(i,o)=>bif fC o&&!(done.testBit i)then b||| 1 <<< i else b) z).testBit j=(z.testBit j||l.any λ(i,o)=>fC o&&!(done.testBit i)&&decide (i=j))
 |[],z,j=>by simp
 |(i,o)::l,z,j=>by rw[OJ,Ki done l,List.any_cons];cases h:(fC o&&!(done.testBit i))with|false=>grind|true=>simp only[h,iq,Ou,M8,rf,Bool.or_assoc]
def wR(done j:Nat):(ze (sS ops) done).testBit j=W↔∃o,ops[j]?=Z o/\fC o=W/\done.testBit j=J:=by
 unfold ze;rw[Ki,Nat.zero_testBit,Bool.false_or,Uv];constructor
 rintro⟨⟨i,o⟩,a,h⟩
 simp at h;obtain⟨⟨h1,h2⟩,rfl⟩:=h;exact⟨o,jH.1 a,h1,h2⟩
 rintro⟨o,b,h1,h2⟩
 exact⟨(j,o),jH.2 b,by simp[h1,h2]⟩
end
structure JU(g:Gh)(w0 w:az)(b:Nat)(z:Array aD):Prop where
 new:w0.heap.size<=b
 lt:b<w.heap.size
 bF:¬g.bF b
 own:∀o,¬bL g o b
 mem:∃ty,w.heap[b]?=Z (.cells z ty (0,0))
section
variable {g g':Gh}{w0 w w':az}{b:Nat}{z:Array aD}
theorem JU.Cr(h:JU g w0 w b z){ow:L Nat}{s s':bx S}(c:cU ow s g w s' g' w')(f:s.fl=0):JU g' w0 w' b z:=by
 let ⟨ty,i⟩:=h.mem
 refine⟨h.new,iW h.lt c.ext.size,λa=>?_,λo d=>?_,ty,?_⟩;obtain a|a|⟨o,_,d⟩:=c.ext.oN b a
 exact h.bF a
 grind
 exact h.own o d;obtain⟨j,_,e⟩|a:=c.ext.own o b (by omega) d
 exact h.own j e
 simp_all
 rw[c.ext.heap b h.lt λo _=>h.own o];exact i
def bg.abu{s:St}(hs:bg g s w)(hn:s.aH<bO)(hf:JU g w0 w b z){cs:L T}(hl:cs.length=z.size)
  (y:∀(j:Nat)(t:T)(v:aD),cs[j]?=Z t->z[j]?=Z v->aL g w t v) :
  bg (g.dN s.aH b) (ew s (.box cs)).2 w/\nD g (g.dN s.aH b)/\(∀k c,bL (g.dN s.aH b) k c->bL g k c\/(k=s.aH/\c=b)):=by
 have a:=hs.aj s.aH (eP _);have n:∀o c,g.bX o=Z c->(g.dN s.aH b).bX o=Z c:=λo c h=>by
  have:o≠s.aH:=λe=>by rw[e,a.1]at h;cases h
  simp[Gh.dN,this,h]
 have i:nD g (g.dN s.aH b):=⟨n,λ_ _ _ h=>h,λ_ h=>h⟩;have d:∀k c,bL (g.dN s.aH b) k c->bL g k c\/(k=s.aH/\c=b):=by
  rintro o c ⟨h1,h2|h2⟩
  by_cases f:o=s.aH;subst f;simp[Gh.dN]at h2;exact .inr ⟨rfl,h2.symm⟩;simp[Gh.dN,f]at h2;exact .inl ⟨h1,.inl h2⟩;exact .inl ⟨h1,.inr h2⟩
 let ⟨ty,A⟩:=hf.mem
 refine⟨⟨by simp only[ew];omega,λo f=>?_,λo c p=>?_,λo e x B=>?_,hs.bF,λo q c h C=>?_⟩,i,d⟩;simp only[ew]at f;have h1:o≠s.aH:=by omega
 simp[Gh.dN,h1,jY];exact hs.aj o (by omega);by_cases f:o=s.aH;subst f;have r:c=b:=by simp[Gh.dN]at p;exact p.symm
 subst r;refine⟨hf.bF,hf.lt,λob l=>⟨_,A,?_⟩⟩;simp[ew]at l;rw[Tr.aX _ _ _ _ hn,bH rfl]at l;obtain rfl:=ko l;exact .box cs z ty hl λj t v E F=>(y j t v E F).le i;have u:g.bX o=Z c:=by simpa[Gh.dN,f]using p
 exact(hs.box o c u).le i rfl (by simp[ew];rw[Tr.aX _ _ _ _ hn,bS f]);have m:g.arr o e=Z x:=B;have f:o≠s.aH:=λh=>by rw[h,a.2 e]at m;cases m
 exact(hs.arr o e x m).le rfl (by simp[ew];rw[Tr.aX _ _ _ _ hn,bS f]) (λ_ _ _ h=>h) (λ_=>rfl);obtain h1|⟨h1,h3⟩:=d o c h<;>obtain h2|⟨h2,h4⟩:=d q c C
 exact hs.kj o q c h1 h2;subst h4;exact absurd h1 (hf.own o);subst h3;exact absurd h2 (hf.own q);rw[h1,h2]
def JU.keep{o c:Nat}{f:Array aD}(h:JU g w0 w b z)(j:JU g w0 w c f)(i:b≠c)(a:∀k e,bL (g.dN o c) k e->bL g k e\/(k=o/\e=c)):JU (g.dN o c) w0 w b z:=
 ⟨h.new,h.lt,h.bF,λk d=>by
  obtain d|⟨_,rfl⟩:=a k b d
  exact h.own k d;omega,h.mem⟩
end
def aci(E:gC)(g:Gh)(w0 w:az)(a:Act)(o:Oper)(b:Nat):Prop:=
 ∀t c d,o.op=.alloc t->E.E.ti t=Z c->o.dst=Z d->∃z,a.tmps[d]?=Z (.pointer (Z ⟨b,0,Y⟩))/\JU g w0 w b z/\ZOk c.zero z
structure Adp(E:gC)(which:Nat)(l:X0)(fr:cr S)(s:bx S)(g:Gh)(w:az)(a:Act)(fr':cr S)(s':bx S)(g':Gh):Prop where
 rel:bg g' (aF s') w
 le:nD g g'
 bF:g'.bF=g.bF
 fl:s'.fl=s.fl
 lo:s'.lo=s.lo
 wr:s'.wr=s.wr
 dr:s'.dr=s.dr
 aH:s.aH<=s'.aH
 ob:∀o,o<s.aH->s'.ob.get o=s.ob.get o
 n:fr'.n=fr.n
 Qj:fr'.df=fr.df
 old:∀k,(∀p∈l,which.testBit p.1=W->p.2.dst≠Z k)->fr'.get k=fr.get k
 new:∀k,(∃p∈l,which.testBit p.1=W/\p.2.dst=Z k)->∀t,fr'.get k=Z t->∃v,a.tmps[k]?=Z v/\aL g' w (low t) v
 own:∀k b,bL g' k b->bL g k b\/∃p∈l,which.testBit p.1=W/\∃d,p.2.dst=Z d/\a.tmps[d]?=Z (.pointer (Z ⟨b,0,Y⟩))
 aeL:∀p∈l,which.testBit p.1=W->∃t ti d,p.2.op=.alloc t/\E.E.ti t=Z ti/\p.2.dst=Z d/\d<fr.n
theorem QL{E:gC}{f:Nat}{w0 w:az}{a:Act}{bl:Nat->Nat}:∀{l:X0}{fr fr':cr S}{s s':bx S}{g:Gh},zu E f l fr s=Z (fr',s')->fr.n<=bO->bg g (aF s) w->
  (∀p∈l,f.testBit p.1=W->aci E g w0 w a p.2 (bl p.1))->(l.map (·.1)).Nodup->(∀p∈l,∀q∈l,f.testBit p.1=W->f.testBit q.1=W->p.1≠q.1->bl p.1≠bl q.1)->
  (∀p∈l,∀q∈l,p.1≠q.1->∀d,p.2.dst=Z d->q.2.dst≠Z d)->∃g',Adp E f l fr s g w a fr' s' g':=by
 intro l
 induction l with
 |nil=>intro fr fr' s s' g h _ hs _ _ _ _;obtain⟨rfl,rfl⟩:=h;exact⟨g,hs,nD.refl _,rfl,rfl,rfl,rfl,rfl,eP _,λ_ _=>rfl,rfl,rfl,λ_ _=>rfl,λk⟨p,hp,_⟩=>by(cases hp),λ_ _ h=>.inl h,λp hp=>by(cases hp)⟩
 |cons p l ih=>
  intro fr fr' s s' g h hn hs he x B C
  let ⟨i,o⟩:=p
  rw[o7,Ov]at x;have A:∀q∈l,i≠q.1:=λq b e=>x.1 (wP.2 ⟨q,b,e.symm⟩);obtain⟨hw,h1⟩|⟨hw,h1⟩:=ah h
  .clear h;split at h1
   .rename_i t d hop n;split at h1
    .rename_i ti Xa;obtain⟨hb,h⟩|⟨_,h⟩:=ah h1
     rotate_left;cases h;rw[eX]at hb;have P:s.aH<bO:=gY hb.1;have R:d<fr.n:=gY hb.2
     let ⟨z,htm,u,hz⟩:=he (i,o) eN hw t ti d hop Xa n
     let ⟨z1,z2⟩:=tK (g:=g) (w:=w) hz
     let ⟨AE,asI,v⟩:=hs.abu P u z1 z2
     have ahK:bg (g.dN s.aH (bl i)) (aF (dy s (.box (ti.zero.map zeroV)))) w:=by rw[hU];simp[dj,nP];exact AE
     have hE:∀q∈l,f.testBit q.1=W->aci E (g.dN s.aH (bl i)) w0 w a q.2 (bl q.1):=by
      intro q b hw' t' ti' d' q1 q2 q3
      let ⟨z',r1,r2,r3⟩:=he q (ie _ b) hw' t' ti' d' q1 q2 q3
      exact⟨z',r1,r2.keep u (B q (ie _ b) (i,o) eN hw' hw (λe=>A q b e.symm)) v,r3⟩
     let ⟨g',k⟩:=ih h (by exact hn) ahK hE x.2 (λq b r F=>B q (ie _ b) r (ie _ F)) (λq b r F=>C q (ie _ b) r (ie _ F))
     have hdl:∀q∈l,f.testBit q.1=W->q.2.dst≠Z d:=λq b _=>C (i,o) eN q (ie _ b) (A q b) d n;refine⟨g',k.rel,asI.trans k.le,k.bF,k.fl,k.lo,k.wr,k.dr,gE (Ed _) k.aH,λj hj=>?_,k.n,k.Qj,λj hj=>?_,λj⟨q,b,m,y⟩t' I=>?_,λj c K=>?_,λq b m=>?_⟩;rw[k.ob j (Nat.lt_succ_of_lt hj)];simp[dy];rw[Tr.aX _ _ _ _ P,bS (by omega)];rw[k.old j (λq b=>hj q (ie _ b)),cr.ke _ _ _ _ (iW R hn),bS]
     grind[List.mem_cons_self]
     obtain rfl|b:=gn.1 b
     have hjd:j=d:=by
      grind
     subst hjd;rw[k.old j hdl,cr.ke _ _ _ _ (iW R hn),bH rfl]at I;cases I;refine⟨_,htm,?_⟩;exact .ptr _ _ _ (k.le.bX _ _ (by simp[Gh.dN]));exact k.new j ⟨q,b,m,y⟩ t' I;obtain K|⟨q,b,m,y⟩:=k.own j c K
     obtain K|⟨_,rfl⟩:=v j c K
     exact .inl K;exact .inr ⟨(i,o),eN,hw,d,n,htm⟩
     grind
     obtain rfl|b:=gn.1 b
     grind
     exact k.aeL q b m
    cases h1
   cases h1
  let ⟨g',k⟩:=ih h1 hn hs (λq b=>he q (ie _ b)) x.2 (λq b r F=>B q (ie _ b) r (ie _ F)) (λq b r F=>C q (ie _ b) r (ie _ F))
  have hnw:∀q∈(i,o)::l,f.testBit q.1=W->q∈l:=λq b m=>by
   grind
  refine⟨g',k.rel,k.le,k.bF,k.fl,k.lo,k.wr,k.dr,k.aH,k.ob,k.n,k.Qj,λj hj=>k.old j λq b=>hj q (ie _ b),λj⟨q,b,m,y⟩=>k.new j ⟨q,hnw q b m,m,y⟩,λj c K=>(k.own j c K).imp id λ⟨q,b,h⟩=>⟨q,ie _ b,h⟩,λq b m=>k.aeL q (hnw q b m) m⟩
def nM(listed:Array aa)(i:Nat):Prop:=listed.getD i J=W
def FQ(E:eI S)(ops:L Oper)(fr:cr S)(s:bx S)(o:Oper):Prop:=
 gU fr o.dst=W/\((vX ops fr o=W/\∀d,o.dst=Z d->∀a,fr.get d=Z a->a=eA)\/(iT ops fr o=Z Y/\∃t,fR E Y fr s o Z=Z t/\∀d,o.dst=Z d->∀a,fr.get d=Z a->abR t a)\/
  ∃c,iT ops fr o=Z (Z c)/\PA c fr o.op=W/\∃t,fR E (Z c) (sB fr o.op) s o Z=Z t/\∀d,o.dst=Z d->∀a,fr.get d=Z a->a=.gd c t)
theorem Hf{p:Nat->aa}{fr:cr S}{s s':bx S}{o:Op}(h:j6 p fr o=J)(hs:∀x,p x=J->s'.ob.get x=s.ob.get x):∀x∈o.operands.toList,∀v,cI fr x=Z v->Sm s s' v:=by
 intro x a v b j c
 grind[j6,eD,Nat.eq_of_beq_eq_true]
theorem BA(E:eI S)(g:O aa){fr:cr S}(o:Oper)(s s':bx S){ω:Type}(k:V S->O ω)(c:OT o.op=W):fR E g fr s o k=fR E g fr s' o k:=by
 unfold fR;cases d:o.op with
 |move x=>simp[l7,Bb,Cp,cP];cases cI fr x<;>simp[uG]
 |assign x=>simp[l7,Bb,Cp,cP];cases cI fr x<;>simp[uG]
 |nilCheck x=>
  simp[l7,Bb,Cp,cP];cases h:cI fr x with
  |none=>simp[uG,h]|some v=>
   cases v with
   |ty t y=>cases t<;>simp[uG,h]
   |fn f a b=>cases f<;>simp[uG,h]
   |_=>simp[uG,h]
 |fieldAddr t x n=>
  simp[l7,Bb,Cp,cP];cases E.T.E.ti t with
  |none=>simp[uG]|some e=>
   cases cI fr x with
   |none=>simp[uG]|some v=>
    grind[rN,uG]
 |_=>simp[d,OT]at c
theorem FQ.move{E:eI S}{ops:L Oper}{fr fr':cr S}{s s':bx S}{o:Oper}(h:FQ E ops fr s o)(hn:fr'.n=fr.n)(j:∀k∈tmpsOf o.op,k<bO)(f:∀k∈tmpsOf o.op,fr'.get k=fr.get k)(l:∀k,oR ops o=Z k->fr'.get k=fr.get k)
  (g:∀d,o.dst=Z d->∀t,fr'.get d=Z t->fr.get d=Z t) {p:Nat->aa}
  (hs:s'=s\/(j6 p fr o.op=J/\j6 p (sB fr o.op) o.op=J/\∀x,p x=J->s'.ob.get x=s.ob.get x)\/OT o.op=W):FQ E ops fr' s' o:=by
 let ⟨q,h⟩:=h
 have i:iT ops fr' o=iT ops fr o:=qu l;refine⟨by simp_all[gU],?_⟩;obtain⟨h1,h3⟩|⟨h1,t,h2,h3⟩|⟨c,h1,h4,t,h2,h3⟩:=h
 grind[sk]
 refine .inr (.inl ⟨i.trans h1,t,?_,λd a e b=>h3 d a e (g d a e b)⟩);rw[iV E Y o s' Z (jA f)];obtain rfl|⟨m,_,hs⟩|n:=hs
 exact h2
 grind[H7,Hf]
 grind[BA]
 refine .inr (.inr ⟨c,i.trans h1,by rw[vk c f];exact h4,t,?_,λd a e b=>h3 d a e (g d a e b)⟩);rw[iV E (Z c) o s' Z (jA (sA j f))];obtain rfl|⟨_,m,hs⟩|n:=hs
 exact h2
 grind[H7,Hf]
 grind[BA]
structure zF(E:eI S)(ops:Array Oper)(n:Nat):Prop where
 bk:v7 ops.toList 0=W
 ds:aiD ops.toList (xF ops.toList)=W
 gd:SW ops.toList (xF ops.toList)=W
 us:agJ ops.toList=W
 al:Tu E.T n ops.toList=W
def At(ops:Array Oper)(i:Nat)(o:Oper):Prop:=ops.toList[i]?=Z o
structure tH(E:eI S)(ops:Array Oper)(kf:cr S)(s0:bx S)(g0:Gh)(w0:az)(done:Nat)(fr:cr S)(s:bx S)(bl:Nat->Nat)(listed:Array aa)(g:Gh)(a:Act)(w:az):Prop where
 Mz:listed.size=ops.size
 n:fr.n=kf.n
 nb:fr.n<=bO
 XG:a.tmps.size=fr.n
 df:eW g w (bM fr).df a.defers
 tm:∀k t,fr.get k=Z t->(∀i o,At ops i o->o.dst=Z k->(nM listed i↔done.testBit i=W))->∃v,a.tmps[k]?=Z v/\aL g w (low t) v
 WX:∀i o,At ops i o->nM listed i->∀e∈yY o,nM listed e
 dcl:∀i o,At ops i o->done.testBit i=W->∀j,Pre ops.toList i j->done.testBit j=W
 ld:∀i o,At ops i o->nM listed i->done.testBit i=W\/fC o=W
 fo:∀i o,At ops i o->done.testBit i=W->¬nM listed i->fC o=J/\FQ E ops.toList fr s o
 ea:∀i o,At ops i o->nM listed i->done.testBit i=J->aci E.T g w0 w a o (bl i)/\bl i<w.heap.size
 eb:∀i j,nM listed i->nM listed j->done.testBit i=J->done.testBit j=J->i≠j->i<ops.size->j<ops.size->bl i≠bl j
 Cr:eO s0 g0 w0 s g w
 fk:dB (ops.toList.filterMap (·.dst)) kf fr s.dr s0.aH
 fl:s.fl=0
 an:∀j,antiP ops.toList j->done.testBit j=W->nM listed j
structure VS(E:eI S)(ops:Array Oper)(kf:cr S)(s0:bx S)(g0:Gh)(w0:az)(done:Nat)(fr:cr S)(s:bx S)(listed:Array aa)(g:Gh)(a:Act)(w:az):Prop where
 n:fr.n=kf.n
 nb:fr.n<=bO
 XG:a.tmps.size=fr.n
 df:eW g w (bM fr).df a.defers
 tm:∀k t,fr.get k=Z t->(∀i o,At ops i o->o.dst=Z k->(nM listed i↔done.testBit i=W))->∃v,a.tmps[k]?=Z v/\aL g w (low t) v
 dcl:∀i o,At ops i o->done.testBit i=W->∀j,Pre ops.toList i j->done.testBit j=W
 Cr:eO s0 g0 w0 s g w
section
variable {E:eI S}{ops:Array Oper}{kf:cr S}{s0:bx S}{g0:Gh}{w0:az}{done:Nat}{fr:cr S}{s:bx S}{bl:Nat->Nat}{listed:Array aa}{g:Gh}{a:Act}{w:az}
def Fv(fr:cr S)(d:O Nat)(t:V S):(fr.jb d t).df=fr.df:=by cases d<;>rfl
theorem Ht(fr:cr S):(bM fr).df=fr.df.map mP:=rfl
theorem vD(done i j:Nat):(done||| 1 <<< i).testBit j=W↔done.testBit j=W\/i=j:=by rw[Ou,M8,o8,ri]
theorem KI{d:O Nat}{t:V S}{k:Nat}(h:gU fr d=W)(hn:fr.n<=bO):(fr.jb d t).get k=if d=Z k then Z t else fr.get k:=by
 cases d with
 |none=>rfl|some d=>
  have h:d<fr.n:=gY h;simp only[cr.jb];rw[cr.ke _ _ _ _ (by omega)]
  grind
theorem LJ(c:zF E ops kf.n){i:Nat}{o:Oper}(f:At ops i o){k:Nat}(d:k∈tmpsOf o.op\/oR ops.toList o=Z k){j:Nat}{p:Oper}(g:At ops j p)(q:p.dst=Z k):i≠j/\(Pre ops.toList i j\/(Pre ops.toList j i/\antiP ops.toList j)):=by
 let ⟨_,h2,h3⟩:=vC c.ds g q
 obtain d|d:=d
 have a:i≠j:=by
  rintro rfl
  have:o=p:=ko (f.symm.trans g)
  simp_all
 exact⟨a,((h3 f (Ne.symm a)).2 d).imp id λh=>⟨h,p,g,k,q,i,o,f,d,h⟩⟩
 let ⟨r,s,l,m,b⟩:=aaE c.gd f d
 have n:j=r:=YJ λa=>(h3 l a).1 m;subst n;refine⟨λe=>?_,.inl b⟩;subst e;exact absurd (Zh c.bk f _ b) (Nat.lt_irrefl _)
theorem tH.float(x:zF E ops kf.n)(h:tH E ops kf s0 g0 w0 done fr s bl listed g a w){i:Nat}{o:Oper}(u:At ops i o)(hnd:done.testBit i=J)(P:fC o=J)(han:¬antiP ops.toList i)(hpre:∀j,Pre ops.toList i j->done.testBit j=W)
  (hd:gU fr o.dst=W) {t:V S} (hf:(vX ops.toList fr o=W/\t=eA)\/(iT ops.toList fr o=Z Y/\∃t0,fR E Y fr s o Z=Z t0/\abR t0 t)\/∃c t1,iT ops.toList fr o=Z (Z c)/\PA c fr o.op=W/\fR E (Z c) (sB fr o.op) s o Z=Z t1/\t=.gd c t1) :
  tH E ops kf s0 g0 w0 (done||| 1 <<< i) (fr.jb o.dst t) s bl listed g a w:=by
 have eu:∀k,(fr.jb o.dst t).get k=if o.dst=Z k then Z t else fr.get k:=λk=>KI hd h.nb
 have R:¬nM listed i:=λz=>by
  obtain h1|h1:=h.ld i o u z
  simp_all
  simp_all
 have y:(fr.jb o.dst t).n=fr.n:=by cases o.dst<;>rfl
 have b:∀{j:Nat}{p:Oper},At ops j p->(j=i\/¬Pre ops.toList j i)->∀k,k∈tmpsOf p.op\/oR ops.toList p=Z k->(fr.jb o.dst t).get k=fr.get k:=by
  intro j p n f k l;rw[eu,bS];intro A
  let ⟨h1,h2⟩:=LJ x n l u A
  simp_all
 refine⟨h.Mz,y.trans h.n,by rw[y];exact h.nb,by rw[y];exact h.XG,by rw[Ht,Fv];exact h.df,λk B l hc=>?_,h.WX,λj p n f m hm=>?_,λj p n z=>?_,λj p n f z=>?_,λj p n z f=>?_,λj m f hm h1 h2=>?_,h.Cr,?_,h.fl,λj ha f=>?_⟩
 .have A:o.dst≠Z k:=λe=>R ((hc i o u e).2 ((vD done i i).2 (.inr rfl)));rw[eu,bS A]at l;refine h.tm k B l λj p n C=>?_
  grind[vD]
 rw[vD]at f ⊢;obtain f|rfl:=f
 exact .inl (h.dcl j p n f m hm)
 simp_all
 rw[vD];exact(h.ld j p n z).imp .inl id;rw[vD]at f;obtain f|rfl:=f
 let ⟨h1,h2⟩:=h.fo j p n f z
 have F:¬Pre ops.toList j i:=λhpr=>by
  have:=h.dcl j p n f i hpr
  simp_all
 refine⟨h1,h2.move y (FX x.us n) (λk l=>b n (.inr F) k (.inl l)) (λk l=>b n (.inr F) k (.inr l)) (λd C B r=>?_) (p:=λ_=>J) (.inl rfl)⟩;rw[eu,bS]at r;exact r;intro q;have hij:i≠j:=λe=>by simp_all
 exact((vC x.ds u q).2.2 n hij).1 C;have:o=p:=ko (u.symm.trans n);subst this;have hu:=FX x.us u;have ht:∀k∈tmpsOf o.op,(fr.jb o.dst t).get k=fr.get k:=λk l=>b u (.inl rfl) k (.inl l);have I:iT ops.toList (fr.jb o.dst t) o=iT ops.toList fr o:=qu λk l=>b u (.inl rfl) k (.inr l);refine⟨P,by simp_all[gU],?_⟩;obtain⟨f1,rfl⟩|⟨f1,t0,f2,f3⟩|⟨c,t1,f1,f2,f3,rfl⟩:=hf
 refine .inl ⟨(sk λk l=>b u (.inl rfl) k (.inr l)).trans f1,λd q B r=>?_⟩
 simp_all
 refine .inr (.inl ⟨I.trans f1,t0,by grind[iV,jA],λd q B r=>?_⟩)
 simp_all
 refine .inr (.inr ⟨c,I.trans f1,by rw[vk c ht];exact f2,t1,by grind[iV,jA,sA],λd q B r=>?_⟩)
 simp_all
 .have hj':done.testBit j=J:=by
   simp_all
  exact h.ea j p n z hj'
 .have K:∀j,(done||| 1 <<< i).testBit j=J->done.testBit j=J:=λj f=>by
   simp_all
  exact h.eb j m f hm (K j h1) (K m h2)
 refine⟨λk v l hv=>?_,by rw[Fv];exact h.fk.df⟩;obtain h1|h1:=h.fk.tm k v l hv
 left
 rw[eu,bS];exact h1;intro q;exact l (A6.2 ⟨o,iG u,q⟩)
 grind
 .obtain f|rfl:=(vD done i j).1 f
  exact h.an j ha f
  simp_all
end
section
variable {i:Nat}{o:Oper}{v:aD}
def fP{listed:Array aa}{j:Nat}(hi:i<listed.size):nM (listed.setIfInBounds i W) j↔nM listed j\/i=j:=by
 unfold nM;by_cases h:i=j
 simp_all
 simp_all
section
variable {E:eI S}{ops:Array Oper}{kf:cr S}{s0:bx S}{g0:Gh}{w0:az}{done:Nat}{fr:cr S}{s:bx S}{bl:Nat->Nat}{listed:Array aa}{g:Gh}{a:Act}{w:az}
def v8(h:At ops i o):i<ops.size:=by have:=(Wt.1 h).1;omega
theorem IC{i:Nat}{o:Oper}(h:At ops i o):ops[i]?=Z o:=by unfold At at h;simpa using h
def uY:∀t:T,dF [] t=J:=by
 intro t
 induction t using T.rec (motive_2:=λl=>iR [] l=J)with|fn f a b d g=>simp[dF,d,g]|dn t v e=>simp[dF,e]|agg i e=>simp[dF,e]|gX i e=>simp[dF,e]|gd c v e=>simp[dF,e]|nil=>rfl|cons a l d h=>simp[iR,d,h]|_=>simp[dF]
def dead(ops:L Oper)(done:Nat)(listed:Array aa):L Nat:=ops.zipIdx.filterMap λ(o,i)=>if listed.getD i J=done.testBit i then Y else o.dst
theorem Hp{k:Nat}:k∈dead ops.toList done listed↔∃i o,At ops i o/\o.dst=Z k/\¬(nM listed i↔done.testBit i=W):=by
 have b:∀i,(listed.getD i J=done.testBit i)↔(nM listed i↔done.testBit i=W):=λi=>by unfold nM;cases listed.getD i J<;>cases done.testBit i<;>simp
 unfold dead;rw[A6];constructor
 rintro⟨⟨o,i⟩,c,h⟩
 dsimp only at h;split at h;cases h;rename_i a;exact⟨i,o,OB.1 c,h,λd=>a ((b i).2 d)⟩
 rintro⟨i,o,e,f,a⟩
 refine⟨(o,i),OB.2 e,?_⟩
 simp_all
def rfr(a:L Nat)(fr:cr S):cr S:={fr with tm:=a.foldl (λt k=>t.del aP k) fr.tm}
def tH.core(h:tH E ops kf s0 g0 w0 done fr s bl listed g a w):VS E ops kf s0 g0 w0 done fr s listed g a w:=⟨h.n,h.nb,h.XG,h.df,h.tm,h.dcl,h.Cr⟩
theorem VS.amP(d:zF E ops kf.n)(h:VS E ops kf s0 g0 w0 done fr s listed g a w):cZ g (bM (rfr (dead ops.toList done listed) fr)) a w/\(rfr (dead ops.toList done listed) fr).n=fr.n/\
  ∀{i:Nat}{o:Oper},At ops i o->(∀j,Pre ops.toList i j->nM listed j/\done.testBit j=W)->(∀j,antiP ops.toList j->Pre ops.toList j i->¬nM listed j/\done.testBit j=J)->∀k,k∈tmpsOf o.op\/oR ops.toList o=Z k->fr.get k=(rfr (dead ops.toList done listed) fr).get k:=by
 have eu:∀k,(rfr (dead ops.toList done listed) fr).get k=if k∈dead ops.toList done listed then Y else fr.get k:=λk=>Tr.oQ _ _ _ λb n=>by
  let ⟨i,o,e,f,_⟩:=Hp.1 n
  exact(vC d.ds e f).1
 refine⟨⟨h.XG,h.df,λk t l=>?_⟩,rfl,λ{i o}q r u k l=>?_⟩;rw[cq,gi]at l;obtain⟨v,c,rfl⟩:=l;rw[eu]at c;split at c;cases c;rename_i m;exact h.tm k v c λi o e f=>YJ λp=>m (Hp.2 ⟨i,o,e,f,p⟩)
 grind[Hp,LJ]
theorem yM{a:Act}{dst:O Tmp}{v:aD}{k:Nat}(h:dst≠Z k):(a.put dst v).tmps[k]?=a.tmps[k]?:=by
 cases dst with
 |none=>rfl|some d=>
  grind[Act.put]
def tU{a:Act}{d:Nat}(h:d<a.tmps.size):(a.put (Z d) v).tmps[d]?=Z v:=by simp[Act.put,h]
def tT{a:Act}{dst:O Tmp}:(a.put dst v).tmps.size=a.tmps.size/\(a.put dst v).defers=a.defers:=by cases dst<;>simp[Act.put]
def cU.Qj{s s':bx S}{g g':Gh}{w w':az}(h:cU [] s g w s' g' w'){l:L Df}{m:L Deferred}(c:eW g w l m):eW g' w' l m:=
 c.imp (λt v d=>h.tr t v d (uY t)) λo b e=>by have:=h.tr _ _ (.ptr o 0 b e) (uY _);cases this with|ptr _ _ _ a=>exact a
theorem tH.meet(C:zF E ops kf.n)(h:tH E ops kf s0 g0 w0 done fr s bl listed g a w){i:Nat}{o:Oper}(A:At ops i o)(hd:done.testBit i=W)(hl:∀e∈yY o,nM listed e)(x:gU fr o.dst=W){v:aD}{g':Gh}{w':az}
  (l:cU [] s g w s g' w') (R:∀d,o.dst=Z d->∀t,fr.get d=Z t->aL g' w' (low t) v):tH E ops kf s0 g0 w0 done fr s bl (listed.setIfInBounds i W) g' (a.put o.dst v) w':=by
 have n:i<listed.size:=by rw[h.Mz];exact v8 A
 have q:∀{j:Nat}{p:Oper}{k:Nat},At ops j p->j≠i->p.dst=Z k->o.dst≠Z k:=λc q r f=>((vC C.ds A f).2.2 c (Ne.symm q)).1 r;refine⟨by simpa using h.Mz,h.n,h.nb,tT.1.trans h.XG,by rw[tT.2];exact l.Qj h.df,λk t K S=>?_,λj p c b e he=>?_,h.dcl,λj p c b=>?_,λj p c b F=>?_,λj p c b F=>?_,λj m b B h1 h2=>?_,h.Cr.trans l.toW,h.fk,h.fl,λj l b=>(fP n).2 (.inl (h.an j l b))⟩;by_cases f:o.dst=Z k;have I:k<fr.n:=by rw[f]at x;exact gY x
 exact⟨v,by rw[f];exact tU (by rw[h.XG];exact I),R k f t K⟩
 let ⟨u,hu,ht⟩:=h.tm k t K λj p c r=>by
  have h1:=S j p c r;rw[fP n]at h1;refine Iff.trans ⟨.inl,λh=>h.elim id λe=>?_⟩ h1;subst e;have:o=p:=ko (A.symm.trans c)
  simp_all
 exact⟨u,by rw[yM f];exact hu,l.tr _ _ ht (uY _)⟩;rw[fP n]at b ⊢;obtain b|rfl:=b
 exact .inl (h.WX j p c b e he);have:o=p:=ko (A.symm.trans c)
 simp_all
 rw[fP n]at b;obtain b|rfl:=b
 exact h.ld j p c b
 grind
 exact h.fo j p c b λhl=>F ((fP n).2 (.inl hl));rw[fP n]at b;have y:j≠i:=λe=>by simp_all
 have b:nM listed j:=b.elim id λe=>absurd e.symm y
 let ⟨h1,h2⟩:=h.ea j p c b F
 refine⟨λt ti d q1 q2 P=>?_,iW h2 l.ext.size⟩
 let ⟨z,r1,r2,r3⟩:=h1 t ti d q1 q2 P
 exact⟨z,by rw[yM (q c y P)];exact r1,r2.Cr l h.fl,r3⟩;rw[fP n]at b B;have b:nM listed j:=b.elim id λe=>by simp_all
 have B:nM listed m:=B.elim id λe=>by simp_all
 exact h.eb j m b B h1 h2
theorem at_mem{ops:Array Oper}{i:Nat}{o:Oper}(h:At ops i o):o∈ops.toList:=iG (show ops.toList[i]?=Z o from by grind[IC])
def tH.afL(hE:fF E)(b:zF E ops kf.n)(h:tH E ops kf s0 g0 w0 done fr s bl listed g a w)(m:At ops i o)(B:done.testBit i=W)(C:¬nM listed i)(hl:∀e∈yY o,nM listed e)
  {K:Act->az->Prop} {Q:Exit->Act->az->Prop} (P:∀g' a' w',tH E ops kf s0 g0 w0 done fr s bl (listed.setIfInBounds i W) g' a' w'->K a' w') {rr:O Nat} (R:rr≠Y->∀o∈ops.toList,∀c,o.op≠.defer c):DE rr E.T.E.P ops Q i K a w:=by
 have z:rr≠Y->∀c,o.op≠.defer c:=λhr=>R hr o (at_mem m)
 let ⟨hna,u,hf⟩:=h.fo i o m B C
 let ⟨n,S,hag⟩:=h.core.amP b
 have Po:∀j,Pre ops.toList i j->nM listed j/\done.testBit j=W:=λj hj=>⟨nU b.bk (λi o hi hl=>h.WX i o hi hl) m hl j hj,h.dcl i o m B j hj⟩;have p:=hag m Po λj ha hji=>by
  have F:¬nM listed j:=λhlj=>by
   let ⟨q,hq,_⟩:=ha
   exact C (nU b.bk (λi o hi hl=>h.WX i o hi hl) hq (h.WX j q hq hlj) i hji)
  refine⟨F,?_⟩;cases NS:done.testBit j with|false=>rfl|true=>exact absurd (h.an j ha NS) F
 have I:iT ops.toList fr o=iT ops.toList (rfr (dead ops.toList done listed) fr) o:=qu λk x=>p k (.inr x);have A:∀k∈tmpsOf o.op,fr.get k=(rfr (dead ops.toList done listed) fr).get k:=λk x=>p k (.inl x);unfold DE;simp[IC m];obtain⟨f1,f3⟩|⟨f1,t,f2,f3⟩|⟨c,f1,f4,t,f2,f3⟩:=hf
 .rw[sk (fr':=rfr (dead ops.toList done listed) fr) λk x=>p k (.inr x)]at f1;rw[bS (by rw[DU n f1];simp_all)];exact P _ _ _ (h.meet b m B hl u (cU.refl h.Cr.rel) λd f y l=>by rw[f3 d f y l];exact NX)
 rw[I]at f1;have hw:=qt n f1;rw[bH hw];refine .of_wp z (.inl ?_);rw[iV E Y o s Z (jA A)]at f2;refine s4 hE n h.Cr.rel (.inl rfl) f2 (λy g' v w' x r ht=>?_);cases x;exact P _ _ _ (h.meet b m B hl u r λd f y l=>(f3 d f y l).rel ht);rw[I]at f1;have hw:=qt n f1;rw[iV E (Z c) o s Z (jA (sA (FX b.us m) A))]at f2;cases c with
 |true=>
  rw[bH hw];refine .of_wp z (.inl ?_);rw[vk W A]at f4
  let ⟨hff,hfn'⟩:=xh n (by rw[S];exact h.nb) f4
  refine s4 hE hff h.Cr.rel (.inr rfl) f2 (λy g' v w' x r ht=>?_);cases x;exact P _ _ _ (h.meet b m B hl u r λd f y l=>by rw[f3 d f y l];exact .gd _ _ _ λ_=>ht)
 |false=>rw[bS (by simp_all)];exact P _ _ _ (h.meet b m B hl u (cU.refl h.Cr.rel) λd f y l=>by rw[f3 d f y l];exact .gd _ _ _ λh=>by cases h)
theorem tH.afM(hE:fF E)(C:zF E ops kf.n)(h:tH E ops kf s0 g0 w0 done fr s bl listed g a w){i:Nat}{o:Oper}(n:At ops i o)(hd:done.testBit i=J)(hna:fC o=W)(hnl:¬nM listed i)(hl:∀e∈yY o,nM listed e)
  {K:Act->az->Prop} {Q:Exit->Act->az->Prop} (hK:∀Cq a' w',tH E ops kf s0 g0 w0 done fr s Cq (listed.setIfInBounds i W) g a' w'->K a' w') {rr:O Nat} (hrr:rr≠Y->∀o∈ops.toList,∀c,o.op≠.defer c):DE rr E.T.E.P ops Q i K a w:=by
 have F:rr≠Y->∀c,o.op≠.defer c:=λhr=>hrr hr o (at_mem n)
 let ⟨hg,⟨t,ti,hop,P⟩,hdn⟩:=abt C.al n hna
 let ⟨xi,dd,z,Pn,_,_,_,hz,R,_⟩:=(hE.V5.ti _ _ P).all
 unfold DE;simp[IC n];rw[bH (by simp[Region.wanted,hg])];refine .of_wp F (.inl ?_);unfold Oper.wp;have S:(execOp a.eval o).run E.T.E.P w=.ok (.value (.pointer (Z ⟨w.heap.size,0,Y⟩))) (w.alloc (.cells z.cells t)):=by
  simp_all[execOp,Instr.alloc,eB,newVar,newRow]
 rw[S];have r:i<listed.size:=by rw[h.Mz];exact v8 n
 have B:=h.Cr.rel;have hsz:(w.alloc (.cells z.cells t)).heap.size=w.heap.size+1:=by simp
 let ⟨hs',he⟩:=B.grow (fl:=s.fl) (I:=g.bF) (w':=w.alloc (.cells z.cells t)) (λ_ h=>h) (λ_ h=>.inl h) (λb hb=>by have:=B.bF b hb;omega) (by omega) (λb hb=>qN w _ b hb) rfl rfl
 have x:∀{j:Nat}{p:Oper}{k:Nat},At ops j p->j≠i->p.dst=Z k->o.dst≠Z k:=λl x y A=>((vC C.ds n A).2.2 l (Ne.symm x)).1 y;refine hK (λj=>if j=i then w.heap.size else bl j) _ _ ⟨by simpa using h.Mz,h.n,h.nb,tT.1.trans h.XG,by rw[tT.2];exact h.df.imp (λt v ht=>ht.ext he B.bF) (λ_ _ h=>h),λk t' hk hc=>?_,λj p l f e he=>?_,h.dcl,λj p l f=>?_,λj p l f hn=>?_,λj p l f hn=>?_,λj m f hm h1 h2 hjm yX hms=>?_,?_,h.fk,h.fl,λj ha f=>(fP r).2 (.inl (h.an j ha f))⟩;have A:o.dst≠Z k:=λe=>by
  have:=(hc i o n e).1 ((fP r).2 (.inr rfl))
  simp_all
 let ⟨u,hu,ht⟩:=h.tm k t' hk λj p l y=>by
  have h1:=hc j p l y;rw[fP r]at h1
  grind
 exact⟨u,by rw[yM A];exact hu,ht.ext he B.bF⟩;rw[fP r]at f ⊢;obtain f|rfl:=f
 exact .inl (h.WX j p l f e he);have:o=p:=ko (n.symm.trans l)
 simp_all
 rw[fP r]at f;obtain f|rfl:=f
 exact h.ld j p l f;have:o=p:=ko (n.symm.trans l)
 simp_all
 exact h.fo j p l f λhl=>hn ((fP r).2 (.inl hl));by_cases q:j=i;subst q;have:o=p:=ko (n.symm.trans l);subst this;simp only[kz];refine⟨λt' ti' d q1 q2 q3=>?_,by omega⟩;rw[hop]at q1;cases q1;rw[P]at q2;cases q2;have hdl:d<a.tmps.size:=by rw[h.XG,h.n];exact hdn d q3
 refine⟨z.cells,by rw[q3];exact tU hdl,⟨h.Cr.ext.size,by omega,λVa=>?_,λk hO=>?_,t,yJ w _⟩,R⟩;have:=B.bF _ Va;omega;have:=(B.sq hO).1;omega;rw[fP r]at f;have f:nM listed j:=f.elim id λe=>absurd e.symm q
 let ⟨h1,h2⟩:=h.ea j p l f hn
 simp only[bS q];refine⟨λt ti d q1 q2 q3=>?_,by omega⟩
 let ⟨z',r1,r2,r3⟩:=h1 t ti d q1 q2 q3
 let ⟨ty,r4⟩:=r2.mem
 exact⟨z',by rw[yM (x l q q3)];exact r1,⟨r2.new,by omega,r2.bF,r2.own,ty,by rw[qN w _ _ r2.lt];exact r4⟩,r3⟩
 .have hlt:∀j,nM listed j->done.testBit j=J->j<ops.size->bl j<w.heap.size:=λj f NS yX=>by
   have z8:At ops j ops[j]:=by simp[At]
   exact(h.ea j _ z8 f NS).2
  rw[fP r]at f hm;by_cases hji:j=i<;>by_cases hmi:m=i;omega
  grind
  grind
  rw[bS hji,bS hmi];exact h.eb j m (f.elim id λe=>absurd e.symm hji) (hm.elim id λe=>absurd e.symm hmi) h1 h2 hjm yX hms
 have hx:o4 s.lo s.fl g w g (w.alloc (.cells z.cells t)):=Ext.Jn s.lo he;exact⟨hs',h.Cr.ext.trans (h.Cr.fl▸h.Cr.lo▸hx),h.Cr.fl,h.Cr.lo,h.Cr.aH,h.Cr.uF,h.Cr.same,h.Cr.Ik⟩
end
end
section
variable {E:eI S}{ops:Array Oper}{kf:cr S}{s0:bx S}{g0:Gh}{w0:az}{done:Nat}{fr:cr S}{s:bx S}{bl:Nat->Nat}{listed:Array aa}{g:Gh}{a:Act}{w:az}
theorem WL(l:L Oper):((sS l).map (·.1)).Nodup:=by
 have:(sS l).map (·.1)=List.range l.length:=by
  unfold sS;have:((λx:Nat×Oper=>x.1)∘λp:Oper×Nat=>(p.2,p.1))=Prod.snd:=rfl
  grind[List.zipIdx_map_snd,List.range_eq_range']
 grind
theorem tH.zu(R:zF E ops kf.n)(h:tH E ops kf s0 g0 w0 done fr s bl listed g a w){c:Nat}{uh:cr S}{s1:bx S}(had:zu E.T c (sS ops.toList) fr s=Z (uh,s1))
  (hwh:∀j,c.testBit j=W->nM listed j/\(ze (sS ops.toList) done).testBit j=W) (hcl:∀j,c.testBit j=W->∀m,Pre ops.toList j m->done.testBit m=W\/c.testBit m=W) :
  ∃I,Adp E.T c (sS ops.toList) fr s g w a uh s1 I/\VS E ops kf s0 g0 w0 (done||| c) uh s1 listed I a w:=by
 have l:∀{j:Nat}{o:Oper},At ops j o->c.testBit j=W->nM listed j/\fC o=W/\done.testBit j=J:=λ{j o}u B=>by
  let ⟨h1,h2⟩:=hwh j B
  let ⟨o',ho',h3,h4⟩:=(wR done j).1 h2
  have:o=o':=ko (u.symm.trans ho')
  simp_all
 have f:∀{p:Nat×Oper},p∈sS ops.toList->At ops p.1 p.2:=λ{p}n=>jH.1 n;obtain⟨I,hA⟩:=QL (w0:=w0) (bl:=bl) had h.nb h.Cr.rel (λp n y=>by
   let ⟨h1,_,h3⟩:=l (f n) y
   exact(h.ea p.1 p.2 (f n) h1 h3).1) (WL _) (λp n q K pE hqw C=>by
   let ⟨h1,_,h3⟩:=l (f n) pE
   let ⟨h4,_,h6⟩:=l (f K) hqw
   exact h.eb p.1 q.1 h1 h4 h3 h6 C (v8 (f n)) (v8 (f K))) (λp n q K C d A=>((vC R.ds (f n) A).2.2 (f K) C).1)
 refine⟨I,hA,⟨hA.n.trans h.n,by rw[hA.n];exact h.nb,by rw[hA.n];exact h.XG,by rw[Ht,hA.Qj];exact h.df.imp (λ_ _ ht=>ht.le hA.le) hA.le.bX,λk t hk hc=>?_,λj p n B m hm=>?_,?_⟩⟩;by_cases F:∃p∈sS ops.toList,c.testBit p.1=W/\p.2.dst=Z k;exact hA.new k F t hk;rw[hA.old k λp n y A=>F ⟨p,n,y,A⟩]at hk
 let ⟨v,hv,ht⟩:=h.tm k t hk λi o hi A=>by have h1:=hc i o hi A;rw[Ou,o8]at h1;exact h1.trans ⟨λh=>h.elim id λy=>absurd ⟨(i,o),jH.2 hi,y,A⟩ F,.inl⟩
 exact⟨v,hv,ht.le hA.le⟩;rw[Ou,o8]at B ⊢;obtain B|B:=B
 exact .inl (h.dcl j p n B m hm)
 grind
 have r:=h.Cr;refine⟨hA.rel,⟨λo b e=>hA.le.bX o b (r.ext.bX o b e),λo e x hl k=>hA.le.arr o e x (r.ext.arr o e x hl k),λb P=>hA.le.bF b (r.ext.bF b P),r.ext.size,r.ext.heap,λo b hl hO=>?_,λb P=>r.ext.oN b (by rw[hA.bF]at P;exact P),r.ext.os,r.ext.output⟩,hA.fl.trans r.fl,hA.lo.trans r.lo,gE r.aH hA.aH,λo u=>by rw[hA.wr];exact r.uF o u,λo u hn=>?_,λo u=>by rw[hA.dr];exact r.Ik o u⟩;obtain hO|⟨p,n,y,d,A,htm⟩:=hA.own o b hO
 exact r.ext.own o b hl hO
 let ⟨h1,_,h3⟩:=l (f n) y
 let ⟨t,ti,d',e1,e2,e3,_⟩:=hA.aeL p n y
 let ⟨z,r1,r2,_⟩:=(h.ea p.1 p.2 (f n) h1 h3).1 t ti d' e1 e2 e3
 have:d=d':=ko (A.symm.trans e3);subst this;rw[htm]at r1;cases r1;exact .inr r2.new;rw[hA.ob o (iW u r.aH)];exact r.same o u (by rw[hA.wr]at hn;exact hn)
theorem xk{ow:L Nat}{k:Nat}{v:V S}(h:(dH ow fr).get k=Z v):fr.get k=Z v/\dF ow (low v)=J:=by
 cases ow with
 |nil=>exact⟨h,uY _⟩|cons o ow=>
  grind[dH,cr.get,Tr.oP,Option.filter_eq_some_iff,kZ]
theorem By{ow:L Nat}{k:Nat}{v:V S}(h:fr.get k=Z v)(a:iX ow v=J):(dH ow fr).get k=Z v:=by
 cases ow with
 |nil=>exact h|cons o ow=>
  grind[dH,cr.get,Tr.oP]
theorem PR{call:gD S}{l:L Oper}{o:Oper}{ω:Type}{kp:V S->bx S->O ω}{k:V S->bx S->L Nat->O ω}{r:ω}(h:qv E call l o fr s kp k=Z r):gU fr o.dst=W:=by
 unfold qv at h
 grind
theorem Ys{done i:Nat}{aH:Nat}{wr ow:L Nat}:∀{l:X0},Gf ops.toList (xF ops.toList) done i fr aH wr ow l=W->∀{j:Nat}{p:Oper},(j,p)∈l->done.testBit j=W->fC p=J->¬Pre ops.toList i j->
  (j6 (dU wr aH) fr p.op=J/\j6 (dU wr aH) (sB fr p.op) p.op=J)\/(OT p.op=W/\j6 (λx=>ow.contains x) fr p.op=J/\j6 (λx=>ow.contains x) (sB fr p.op) p.op=J):=by
 intro l
 induction l with
 |nil=>simp_all|cons q l f=>
  intro h j p c d a b
  let ⟨g,k⟩:=q
  simp only[Gf,eX]at h;obtain e|c:=gn.1 c
  cases e;have h1:=h.1;simp only[d,a,Jt,Bool.false_or]at h1;rw[o8]at h1;obtain h1|h1:=h1
  exact absurd h1 b
  grind
  grind
end
section
variable {E:eI S}{ops:Array Oper}{kf:cr S}{s0:bx S}{g0:Gh}{w0:az}{done:Nat}{fr:cr S}{s:bx S}{bl:Nat->Nat}{listed:Array aa}{g:Gh}{a:Act}{w:az}
theorem O0{p:Nat->aa}{o:Op}(h:j6 p fr o=J){k:Nat}(a:k∈tmpsOf o){v:V S}(c:fr.get k=Z v):cQ p v=J:=by
 let ⟨x,d,b⟩:=A6.1 a
 grind[j6,cI]
theorem WQ{ow wr:L Nat}{aH:Nat}(a:∀o∈ow,o∈wr){v:V S}(h:cQ (dU wr aH) v=J):iX ow v=J:=by
 grind[qj,eD,dU]
theorem Oe{ops:L Oper}{fr:cr S}{o:Oper}{k:Nat}{v:V S}(h:vX ops fr o=W)(a:oR ops o=Z k)(c:fr.get k=Z v):(∃b,v=.kb b)\/∃l,v=.dat (.lit (.tuple l)):=by
 unfold vX at h;unfold oR at a
 grind
theorem tH.step(hE:fF E){call:gD S}(xe:gT E.T.E.P call)(A:zF E ops kf.n)(h:tH E ops kf s0 g0 w0 done fr s bl listed g a w){i:Nat}{o:Oper}(I:At ops i o)(hd:done.testBit i=J)(hnl:¬nM listed i)(hl:∀e∈yY o,nM listed e)
  (hsub:∀j,Pre ops.toList i j->done.testBit j=W\/(ze (sS ops.toList) done).testBit j=W) {uh:cr S} {s1:bx S} (had:TL.zu E.T (ze (sS ops.toList) done&&& (xF ops.toList).getD i 0) (sS ops.toList) fr s=Z (uh,s1))
  {ω:Type} {kp:cr S->V S->bx S->O ω} {k:Nat->cr S->bx S->O ω} {r:ω}
  (hev:qv E call ops.toList o uh {s1 with wr:=[]} (λt s'=>kp (aiF ops.toList uh) t {s' with wr:=s'.wr++s1.wr}) (λt s' ow=>bif Gf ops.toList (xF ops.toList) done i fr s.aH s'.wr ow (sS ops.toList)then
   k (done||| (ze (sS ops.toList) done&&& (xF ops.toList).getD i 0)||| 1 <<< i) ((dH ow uh).jb o.dst t) {s' with wr:=s'.wr++s1.wr}else Y)=Z r)
  {K:Act->az->Prop} {Q:Exit->Act->az->Prop}
  (hK:∀done' fr' s' g' a' w',k done' fr' s'=Z r->tH E ops kf s0 g0 w0 done' fr' s' bl (listed.setIfInBounds i W) g' a' w'->K a' w')
  (hP:∀fr' t s' g' a' v w',kp fr' t s'=Z r->fr'.n=kf.n->cZ g' (bM fr') a' w'->eO s0 g0 w0 s' g' w'->dB (ops.toList.filterMap (·.dst)) kf fr' s'.dr s0.aH->aL g' w' (low t) v->Q (.panic [{v,recovered:=J}]) a' w') {rr:O Nat} (hrr:rr≠Y->∀o∈ops.toList,∀c,o.op≠.defer c):DE rr E.T.E.P ops Q i K a w:=by
 have ar2:rr≠Y->∀c,o.op≠.defer c:=λhr=>hrr hr o (at_mem I);have hi:i<listed.size:=by rw[h.Mz];exact v8 I
 have Po:∀j,Pre ops.toList i j->nM listed j:=nU A.bk (λi o hi hl=>h.WX i o hi hl) I hl;generalize hwe:ze (sS ops.toList) done&&& (xF ops.toList).getD i 0=which at had hev;have hwb:∀j,which.testBit j=W↔(ze (sS ops.toList) done).testBit j=W/\Pre ops.toList i j:=λj=>by rw[<-hwe,Nat.testBit_and,eX];rfl
 let ⟨g1,hA,hC⟩:=h.zu A had (λj hj=>⟨Po j ((hwb j).1 hj).2,((hwb j).1 hj).1⟩) (λj hj m hm=>by
  have hpm:=Wy A.bk I ((hwb j).1 hj).2 hm
  simp_all)
 have hpd:∀j,Pre ops.toList i j->(done||| which).testBit j=W:=λj hj=>by
  simp_all
 have hwd:∀{j:Nat}{q:Oper},At ops j q->which.testBit j=W->nM listed j/\fC q=W/\done.testBit j=J:=λ{j q}B hj=>by
  let ⟨o',ho',h3,h4⟩:=(wR done j).1 ((hwb j).1 hj).1
  have:q=o':=ko (B.symm.trans ho')
  simp_all
 have hwi:which.testBit i=J:=by
  grind
 have P:gU uh o.dst=W:=PR hev;have hdst:gU (dH (S:=S) [] uh) o.dst=W:=P
 let ⟨hfr,hfn,hag⟩:=hC.amP A
 have aii:=hag I (λj hj=>⟨Po j hj,hpd j hj⟩) λj ha hji=>by
  let ⟨q,B,_⟩:=ha
  have hnj:¬nM listed j:=λhlj=>hnl (nU A.bk (λi o hi hl=>h.WX i o hi hl) B (h.WX j q B hlj) i hji);refine⟨hnj,?_⟩;cases NS:(done||| which).testBit j with
  |false=>rfl|true=>
   rw[Ou,o8]at NS;obtain NS|NS:=NS
   have:=h.dcl j q B NS i hji
   simp_all
   simp_all
 rw[JC E call _ _ _ hfn.symm (FX A.us I) (λk n=>aii k (.inl n)) (λk n=>aii k (.inr n))]at hev;have AE:bg g1 (aF {s1 with wr:=[]}) w:=hC.Cr.rel;unfold DE;simp[IC I];refine(sZ hE xe (by rw[hfn];exact hC.nb) hfr AE hev (λt s' ow g' v w' n ht f=>?_) (λt s' g' v w' n f ht=>?_) ar2).2
 .obtain ⟨alN,n⟩|⟨_,n⟩:=ah n
  rotate_left;cases n;refine hK _ _ _ g' _ w' n ?_;have SP:s1.fl=0:=hA.fl.trans h.fl;have hnf:∀ow':L Nat,(dH ow' uh).n=uh.n:=λow'=>uj ow' uh;have asj:gU (dH ow uh) o.dst=W:=Bc P;have eu:∀k,((dH ow uh).jb o.dst t).get k=if o.dst=Z k then Z t else(dH ow uh).get k:=λk=>KI asj (by rw[hnf];exact hC.nb)
  have hnn:((dH ow uh).jb o.dst t).n=uh.n:=by
   have:((dH ow uh).jb o.dst t).n=(dH ow uh).n:=by cases o.dst<;>rfl
   rw[this,hnf]
  have amG:eO s1 g1 w {s' with wr:=s'.wr++s1.wr} g' w':=
   ⟨f.rel,f.ext,f.fl,f.lo,f.aH,λo I=>e9 _ I,λo I hn=>f.same o I (λhm=>hn (gf _ hm)),f.Ik⟩
  have hne:∀{j:Nat}{p:Oper}{k:Nat},At ops j p->j≠i->p.dst=Z k->o.dst≠Z k:=λF hne hpd R=>((vC A.ds I R).2.2 F (Ne.symm hne)).1 hpd;have hd':∀j,(done||| which||| 1 <<< i).testBit j=W↔(done.testBit j=W\/which.testBit j=W)\/i=j:=λj=>by rw[vD,Ou,o8]
  refine⟨by simpa using h.Mz,hnn.trans hC.n,by rw[hnn];exact hC.nb,by rw[tT.1,hnn];exact hC.XG,?_,λk t' C hc=>?_,λj p F hj e he=>?_,λj p F hj m hm=>?_,λj p F hj=>?_,λj p F hj hn=>?_,λj p F hj hn=>?_,λj m hj hm h1 h2 hjm yX hms=>?_,hC.Cr.trans amG,?_,f.fl.trans SP,λj ha hj=>?_⟩
  .rw[tT.2,Ht,Fv];cases ow with|nil=>exact f.Qj hC.df|cons x ow=>exact(g7 (λv=>kZ _ v) (λ_ _=>rfl) uh.df).rel f.tr hC.df
  rw[eu]at C;by_cases R:o.dst=Z k;rw[bH R]at C;cases C;have hk2:k<uh.n:=by rw[R]at P;exact gY P
  exact⟨v,by rw[R];exact tU (by rw[hC.XG];exact hk2),ht⟩;rw[bS R]at C
  let ⟨h1,h2⟩:=xk C
  let ⟨u,hu,htu⟩:=hC.tm k t' h1 λj p F hpd=>by
   have c1:=hc j p F hpd;rw[fP hi,hd']at c1
   grind
  exact⟨u,by rw[yM R];exact hu,f.tr _ _ htu h2⟩;rw[fP hi]at hj ⊢;obtain hj|rfl:=hj
  exact .inl (h.WX j p F hj e he);have:o=p:=ko (I.symm.trans F)
  simp_all
  rw[hd']at hj ⊢;obtain hj|rfl:=hj
  left
  have:=hC.dcl j p F (by simp_all) m hm;rwa [Ou,o8]at this
  simp_all
  rw[fP hi]at hj;rw[hd'];obtain hj|rfl:=hj
  exact(h.ld j p F hj).imp (λh=>.inl (.inl h)) id;omega
  ·
   have hji:j≠i:=λe=>hn ((fP hi).2 (.inr e.symm));have hnl:¬nM listed j:=λhl=>hn ((fP hi).2 (.inl hl));have NS:done.testBit j=W:=by
    grind
   let ⟨hna,hfo⟩:=h.fo j p F NS hnl
   have hnp:¬Pre ops.toList i j:=λhpr=>hnl (Po j hpr);have hmm:=Ys alN (jH.2 F) NS hna hnp;have hpi:∀{m:Nat}{q:Oper}{k:Nat},At ops m q->(m=i\/which.testBit m=W)->(k∈tmpsOf p.op\/oR ops.toList p=Z k)->q.dst≠Z k:=by
    intro m q k B hm n hqd;have hpre:Pre ops.toList j m:=by
     obtain h1|⟨h1,_⟩:=(LJ A F n B hqd).2
     exact h1;exfalso;obtain rfl|hm:=hm
     exact hnp h1;exact hnl (nU A.bk (λi o hi hl=>h.WX i o hi hl) B (h.WX m q B (hwd B hm).1) j h1)
    have:=h.dcl j p F NS m hpre
    grind
   have hold:∀k,(k∈tmpsOf p.op\/oR ops.toList p=Z k)->uh.get k=fr.get k:=λk n=>hA.old k λq B hw=>hpi (jH.1 B) (.inr hw) n;have hput:∀k,(k∈tmpsOf p.op\/oR ops.toList p=Z k)->((dH ow uh).jb o.dst t).get k=(dH ow uh).get k:=λk n=>by rw[eu,bS (hpi I (.inl rfl) n)]
   have hsubw:∀o∈ow,o∈s'.wr:=f.oww;have hkeep:∀k,fr.get k=uh.get k->(∀v,fr.get k=Z v->iX ow v=J)->(dH ow uh).get k=fr.get k:=λk he hm=>by
    cases hfk:fr.get k with
    |some v=>grind[By]|none=>
     cases asT:(dH ow uh).get k with
     |none=>rfl|some v=>
      have:=(xk asT).1
      simp_all
   have hno:∀k v,k∈tmpsOf p.op->fr.get k=Z v->iX ow v=J:=λk v n hv=>by
    grind[WQ,O0,qj]
   have hsame:∀x,dU s'.wr s.aH x=J->({s' with wr:=s'.wr++s1.wr}:bx S).ob.get x=s.ob.get x:=λx hx=>by
    simp only[dU,zS]at hx;have hx1:x∉s'.wr:=by grind
    have hx2:x<s.aH:=by
     grind[Nat.ble_eq_true_of_le]
    have:=f.same x (iW hx2 hA.aH) hx1;exact this.trans (hA.ob x hx2)
   refine⟨hna,hfo.move (hnn.trans hA.n) (FX A.us F) (λk n=>?_) (λk n=>?_) (λd alR t' ht'=>?_) (p:=dU s'.wr s.aH) (.inr (hmm.imp (λh=>⟨h.1,h.2,hsame⟩) (λh=>h.1)))⟩
   grind
   .rw[hput k (.inr n)];refine hkeep k (hold k (.inr n)).symm λv hv=>?_;obtain⟨f1,_⟩|U6:=hfo.2
    obtain⟨b,rfl⟩|⟨l,rfl⟩:=Oe f1 n hv<;>rfl
    have hgv:∃b,iI v=Z b:=by
     have y:∃c,iT ops.toList fr p=Z (Z c)\/iT ops.toList fr p=Z Y:=by
      obtain⟨f1,_⟩|⟨c,f1,_⟩:=U6
      simp_all
      simp_all
     let ⟨c,y⟩:=y
     unfold oR at n;unfold iT at y;cases hpg:p.guard with
     |none=>simp_all|some q=>
      let ⟨m,want⟩:=q
      simp[hpg]at n y;rw[n,Ux,hv]at y;cases hb:iI v with
      |some b=>grind|none=>
       exfalso;cases v<;>first|(cases hb;done)|(simp only[hb]at y;obtain h|h:=y<;>cases h)
    let ⟨b,hb⟩:=hgv
    cases v<;>first|rfl|simp[iI]at hb
   rw[eu,bS (hne F hji alR)]at ht';have h1:=(xk ht').1;rw[hA.old d λq B hw hqd=>?_]at h1;exact h1;have hq':At ops q.1 q.2:=jH.1 B;have hjq:j≠q.1:=λe=>by
    simp_all
   exact((vC A.ds F alR).2.2 hq' hjq).1 hqd
  .have hji:j≠i:=λe=>by
    simp_all
   have NS:done.testBit j=J:=by
    simp_all
   have hwj:which.testBit j=J:=by
    simp_all
   rw[fP hi]at hj;have hlj:nM listed j:=hj.elim id λe=>absurd e.symm hji
   let ⟨h1,h2⟩:=h.ea j p F hlj NS
   refine⟨λt2 ti d q1 q2 q3=>?_,iW h2 f.ext.size⟩
   let ⟨z,r1,r2,r3⟩:=h1 t2 ti d q1 q2 q3
   have ah1:JU g1 w0 w (bl j) z:=⟨r2.new,r2.lt,by rw[hA.bF];exact r2.bF,λx hO=>by
    obtain hO|⟨q,B,hw,d2,hd2,htm⟩:=hA.own x (bl j) hO
    exact r2.own x hO;have hq':At ops q.1 q.2:=jH.1 B
    let ⟨l1,_,l3⟩:=hwd hq' hw
    let ⟨t3,ti3,d3,e1,e2,e3,_⟩:=hA.aeL q B hw
    let ⟨z3,u1,_,_⟩:=(h.ea q.1 q.2 hq' l1 l3).1 t3 ti3 d3 e1 e2 e3
    have:d2=d3:=ko (hd2.symm.trans e3);subst this;have hbb:bl j=bl q.1:=by
     simp_all
    have hjq:j≠q.1:=λe=>by simp_all
    exact h.eb j q.1 hlj l1 NS l3 hjq (v8 F) (v8 hq') hbb,r2.mem⟩
   exact⟨z,by rw[yM (hne F hji q3)];exact r1,ah1.Cr f SP,r3⟩
  .have hx:∀j,(done||| which||| 1 <<< i).testBit j=J->done.testBit j=J/\i≠j:=λj hj=>by
    grind
   rw[fP hi]at hj hm;exact h.eb j m (hj.elim id λe=>absurd e (hx j h1).2) (hm.elim id λe=>absurd e (hx m h2).2) (hx j h1).1 (hx m h2).1 hjm yX hms
  .refine ⟨λk v n hv=>?_,?_⟩;rotate_left
   .rw[Fv];have h0:y4 (dU s'.dr s0.aH) kf.df uh.df:=by rw[hA.Qj];exact h.fk.df.mono (jf (λx hx=>f.Ik x (by rw[hA.dr];exact hx)) (eP _))
    cases ow with|nil=>exact h0|cons x ow=>refine h0.trans (vG (p:=(x::ow).contains) (λo' ho'=>?_) (λv=>qj _ v) _).ok;have:=f.owd o' (by grind);simp[dU,this]
   have wG:∀{m:Nat}{q:Oper},At ops m q->q.dst≠Z k:=λB hqd=>n (A6.2 ⟨_,iG B,hqd⟩);obtain h1|h1:=h.fk.tm k v n hv
   .rw[eu,bS (wG I)];rw[<-hA.old k λq B _=>wG (jH.1 B)]at h1;cases hm:iX ow v with
    |false=>exact .inl (By h1 hm)|true=>
     rw[qj]at hm;refine .inr (eD (λx hx=>?_) v hm);have:x∈ow:=by simpa using hx
     have:=f.owd x this;simp[dU,this]
   exact .inr (eD (jf (λx hx=>f.Ik x (by rw[hA.dr];exact hx)) (eP _)) v h1)
  rw[fP hi];obtain(hj|hj)|hj:=(hd' j).1 hj
  exact .inl (h.an j ha hj)
  simp_all
  omega
 have hds:∀d∈ops.toList.filterMap (·.dst),d<bO:=λd hd=>by
  let ⟨q,B,hqd⟩:=A6.1 hd
  let ⟨m,hm⟩:=ON B
  exact(vC A.ds hm hqd).1
 have hgd:∀k,(aiF ops.toList uh).get k=if k∈ops.toList.filterMap (·.dst)then Y else uh.get k:=λk=>Tr.oQ _ _ _ hds
 have hdr:∀x,dU s.dr s0.aH x=W->dU s'.dr s0.aH x=W:=jf (λx hx=>f.Ik x (by rw[hA.dr];exact hx)) (eP _);refine hP _ t _ g' _ v w' n hC.n ⟨hC.XG,f.Qj hC.df,λk t' C=>?_⟩ (hC.Cr.trans ⟨f.rel,f.ext,f.fl,f.lo,f.aH,λo I=>e9 _ I,λo I hn=>f.same o I (λhm=>hn (gf _ hm)),f.Ik⟩) ⟨λk v n hv=>?_,?_⟩ ht;rw[cq,hgd]at C;split at C;cases C;rename_i hnk;rw[gi]at C;obtain⟨u,hu,rfl⟩:=C
 let ⟨v',hv',ht'⟩:=hC.tm k u hu λi o hi R=>absurd (A6.2 ⟨o,iG hi,R⟩) hnk
 exact⟨v',hv',f.tr _ _ ht' (mL _)⟩;obtain h1|h1:=h.fk.tm k v n hv
 left
 rw[hgd,bS n,hA.old k λq B _ hqd=>n (A6.2 ⟨_,iG (jH.1 B),hqd⟩)];exact h1;exact .inr (eD hdr v h1);show y4 _ kf.df uh.df;rw[hA.Qj];exact h.fk.df.mono hdr
end
def Ea{E:eI S}{ops:L Oper}{bef:L Nat}{done:Nat}{fr:cr S}{i:Nat}{o:Oper}:∀{l:X0},RS E ops bef done fr l=Z (i,o)->(i,o)∈l/\done.testBit i=J/\fC o=J/\VD ops bef i o=J/\V6 (bef.getD i 0) done=W
 |[],h=>by cases h
 |(j,p)::l,h=>by
  obtain⟨a,h⟩|⟨_,h⟩:=ah h
  simp_all
  let ⟨h1,h2⟩:=Ea h
  simp_all
def Eb{bef:L Nat}{done wC:Nat}{i:Nat}{o:Oper}:∀{l:X0},RU bef done wC l=Z (i,o)->(i,o)∈l/\done.testBit i=J/\fC o=J/\V6 (bef.getD i 0) (done||| wC)=W
 |[],h=>by cases h
 |(j,p)::l,h=>by
  obtain⟨a,h⟩|⟨_,h⟩:=ah h
  simp_all
  let ⟨h1,h2⟩:=Eb h
  simp_all
section
variable {ops:Array Oper}{listed:Array aa}
theorem GC{j:Nat}(b:listed.size=ops.size)(h:j∈Region.ready .any ops listed):∃o,At ops j o/\¬nM listed j/\∀e∈yY o,nM listed e:=by
 let ⟨h1,o,c,h2⟩:=mem_ready.1 h
 have g:j<listed.size:=by grind
 refine⟨o,by unfold At;simpa using c,λi=>?_,λe f=>?_⟩
 simp_all[nM]
 obtain⟨d,a,rfl⟩:=wP.1 f;rw[List.mem_filter]at a;exact h2 d (by grind) a.2
variable {bef:List Nat}{done i j:Nat}{o:Oper}
def YF(a:listed.size=ops.size)(b:At ops j o)(hn:¬nM listed j)(c:∀e∈yY o,nM listed e):j∈Region.ready .any ops listed:=by
 have g:j<listed.size:=by rw[a];exact v8 b
 refine mem_ready.2 ⟨?_,o,IC b,λe d f=>c e.on (wP.2 ⟨e,List.mem_filter.2 ⟨by simpa using d,f⟩,rfl⟩)⟩
 simp_all[nM]
theorem J8(c:v7 ops.toList 0=W)(a:listed.size=ops.size)(h:Region.ready .any ops listed=[]):∀j o,At ops j o->nM listed j:=by
 intro j
 induction j using Nat.strongRecOn with
 |_ j k=>
  intro o b;refine YJ λd=>?_;have:j∈Region.ready .any ops listed:=YF a b d λe f=>by
   have g:=BX c b e f;have l:=v8 b;have i:At ops e (ops[e]'(by omega)):=by
    grind[At]
   grind
  simp_all
theorem Io(a:listed.size=ops.size)(h:listed.toList.count J<=0){j:Nat}{o:Oper}(b:At ops j o):nM listed j:=by
 have c:j<listed.size:=by rw[a];exact v8 b
 have d:listed.toList.count J=0:=by omega
 rw[List.count_eq_zero]at d;unfold nM;simp only[Array.getD,c,dite_true];cases e:listed[j]with
 |true=>exact e|false=>
  grind
def count_set(a:listed.size=ops.size){m j:Nat}{o:Oper}(b:At ops j o)(hn:¬nM listed j)(h:listed.toList.count J<=m+1):(listed.setIfInBounds j W).toList.count J<=m:=by
 have c:j<listed.size:=by rw[a];exact v8 b
 simp_all[nM,List.count_set]
end
section
variable {E:eI S}{ops:Array Oper}{kf:cr S}{s0:bx S}{g0:Gh}{w0:az}
theorem S7(hE:fF E){call:gD S}(xe:gT E.T.E.P call)(e:zF E ops kf.n){ω:Type}{kp:cr S->V S->bx S->O ω}{kk:cr S->bx S->O ω}{r:ω}{Q:Exit->Act->az->Prop}
  (hN:∀fr' s' g' a' w',kk fr' s'=Z r->fr'.n=kf.n->cZ g' (bM fr') a' w'->eO s0 g0 w0 s' g' w'->dB (ops.toList.filterMap (·.dst)) kf fr' s'.dr s0.aH->Q .normal a' w')
  (hP:∀fr' t s' g' a' v w',kp fr' t s'=Z r->fr'.n=kf.n->cZ g' (bM fr') a' w'->eO s0 g0 w0 s' g' w'->dB (ops.toList.filterMap (·.dst)) kf fr' s'.dr s0.aH->aL g' w' (low t) v->Q (.panic [{v,recovered:=J}]) a' w') {rr:O Nat} (I:rr≠Y->∀o∈ops.toList,∀c,o.op≠.defer c) :
  ∀(n done:Nat)(fr:cr S)(s:bx S),vw E call ops.toList (xF ops.toList) (sS ops.toList) kp kk n done fr s=Z r->∀(m:Nat)(listed:Array aa)(bl:Nat->Nat)(g:Gh)(a:Act)(w:az),
   tH E ops kf s0 g0 w0 done fr s bl listed g a w->listed.toList.count J<=m->afs rr E.T.E.P ops Q m listed a w:=by
 intro n
 induction n with
 |zero=>intro done fr s h;cases h
 |succ n ih=>
  intro done fr s h;simp only[vw]at h;split at h
  ·
   rename_i i o hq
   let ⟨hm,K,hna,P,z⟩:=Ea hq
   have C:At ops i o:=jH.1 hm
   replace P:¬antiP ops.toList i:=abq C P
   obtain⟨hd,h2⟩|⟨_,h2⟩:=ah h
   rotate_left;cases h2;clear h;intro m listed bl g a w b F;obtain⟨hsk,h3⟩|⟨_,h2⟩:=ah h2
   exact ih _ _ _ h3 m listed bl g a w (b.float e C K hna P (AQ.1 z) hd (.inl ⟨hsk,rfl⟩)) F;split at h2;cases h2;rename_i hg;rw[BB]at h2
   let ⟨t,e1,h3⟩:=wz.1 h2
   let ⟨t',hkb,h3⟩:=V7 h3
   exact ih _ _ _ h3 m listed bl g a w (b.float e C K hna P (AQ.1 z) hd (.inr (.inl ⟨hg,t,e1,hkb⟩))) F;rename_i c hg
   let ⟨hok,h2⟩:=oW h2
   rw[BB]at h2
   let ⟨t,e1,h3⟩:=wz.1 h2
   exact ih _ _ _ h3 m listed bl g a w (b.float e C K hna P (AQ.1 z) hd (.inr (.inr ⟨c,t,hg,hok,e1,rfl⟩))) F
  .split at h
   ·
    rename_i i o hq
    let ⟨hm,K,hna,z⟩:=Eb hq
    have C:At ops i o:=jH.1 hm;obtain⟨R,h2⟩|⟨_,h2⟩:=ah h
    rotate_left;cases h2;clear h;split at h2;cases h2;rename_i uh s1 had;intro m
    induction m with
    |zero=>
     intro listed bl g a w b F;exfalso;obtain h1|h1:=b.ld i o C (Io b.Mz F C)
     simp_all
     simp_all
    |succ m ihm=>
     intro listed bl g a w b F;have hnl:¬nM listed i:=λhl=>by
      obtain h1|h1:=b.ld i o C hl
      simp_all
      simp_all
     refine⟨λhr=>absurd (J8 e.bk b.Mz hr i o C) hnl,λj hj=>?_⟩
     let ⟨p,y,f,B⟩:=GC b.Mz hj
     cases A:done.testBit j with
     |true=>exact b.afL hE e y A f B (λg' a' w' d=>ihm _ bl g' a' w' d (count_set b.Mz y f F)) I|false=>
      cases haj:fC p with
      |true=>exact b.afM hE e y A haj f B (λCq a' w' d=>ihm _ Cq g a' w' d (count_set b.Mz y f F)) I|false=>
       have hji:i=j:=by
        have:=kU.1 R (j,p) (jH.2 y);simp only[A,haj,Bool.false_or,o8]at this;obtain h1|h1:=this
        simp_all
        exact absurd (nU e.bk (λi o hi hl=>b.WX i o hi hl) y B i h1) hnl
       subst hji;have:o=p:=ko (C.symm.trans y);subst this;refine b.step hE xe e C K f B (λj hj=>?_) had (kp:=kp) (k:=λdone fr s=>vw E call ops.toList (xF ops.toList) (sS ops.toList) kp kk n done fr s) h2 (λdone' fr' s' g' a' w' hk d=>ih _ _ _ hk m _ bl g' a' w' d (count_set b.Mz C f F)) hP I;have:=AQ.1 z j hj;rwa [Ou,o8]at this
   ·
    split at h;cases h;rename_i uh s1 had;obtain⟨R,h2⟩|⟨_,h2⟩:=ah h
    rotate_left;cases h2;have hda:∀{j:Nat}{p:Oper},At ops j p->done.testBit j=W\/fC p=W:=λ{j p}y=>by
     have:=kU.1 R (j,p) (jH.2 y)
     grind
    have hend:∀(listed:Array aa)(bl:Nat->Nat)(g:Gh)(a:Act)(w:az),tH E ops kf s0 g0 w0 done fr s bl listed g a w->(∀j o,At ops j o->nM listed j)->Q .normal a w:=by
     intro listed bl g a w b hl;have hdp:∀{j:Nat}{p:Oper},At ops j p->done.testBit j=W\/(ze (sS ops.toList) done).testBit j=W:=λ{j p}y=>by cases A:done.testBit j with|true=>exact .inl rfl|false=>exact .inr ((wR done j).2 ⟨p,y,(hda y).resolve_left (by simp_all),A⟩)
     let ⟨g1,hA,hC⟩:=b.zu e had (λj hj=>by
       let ⟨p,y,_⟩:=(wR done j).1 hj
       exact⟨hl j p y,hj⟩) (λj hj x hx=>by
       let ⟨p,y,_⟩:=(wR done j).1 hj
       have hlt:=Zh e.bk y x hx;have yX:=v8 (ops:=ops) y;have z8:At ops x (ops[x]'(by omega)):=by
        grind[At]
       exact hdp z8)
     refine hN uh s1 g1 a w h2 hC.n ⟨hC.XG,hC.df,λk t hk=>?_⟩ hC.Cr ⟨λk v hk hv=>?_,by rw[hA.Qj,hA.dr];exact b.fk.df⟩;rw[cq,gi]at hk;obtain⟨u,hu,rfl⟩:=hk;exact hC.tm k u hu λi o hi _=>⟨λ_=>by grind,λ_=>hl i o hi⟩;obtain h1|h1:=b.fk.tm k v hk hv
     left
     rw[hA.old k λq hq _ hqd=>hk (A6.2 ⟨_,iG (jH.1 hq),hqd⟩)];exact h1;rw[hA.dr];exact .inr h1
    intro m
    induction m with
    |zero=>
     intro listed bl g a w b F;have hl:∀j o,At ops j o->nM listed j:=λj o C=>Io b.Mz F C;refine⟨?_,hend listed bl g a w b hl⟩;cases hr:Region.ready .any ops listed with
     |nil=>rfl|cons j l=>
      let ⟨p,y,f,_⟩:=GC b.Mz (j:=j) (by simp_all)
      grind
    |succ m ihm=>
     intro listed bl g a w b F;refine⟨λhr=>hend listed bl g a w b (J8 e.bk b.Mz hr),λj hj=>?_⟩
     let ⟨p,y,f,B⟩:=GC b.Mz hj
     cases A:done.testBit j with|true=>exact b.afL hE e y A f B (λg' a' w' d=>ihm _ bl g' a' w' d (count_set b.Mz y f F)) I|false=>exact b.afM hE e y A ((hda y).resolve_left (by simp_all)) f B (λCq a' w' d=>ihm _ Cq g a' w' d (count_set b.Mz y f F)) I
def aiE(hE:fF E)(hm:E.T.E.P.follows .mixedOrders=W){call:gD S}(e:gT E.T.E.P call):tF E call:=by
 intro id ops ω kp k r fr s u h hn g a w x p Q hN hP rr m;have y:rr≠Y->∀o∈ops.toList,∀c,o.op≠.defer c:=λhr=>Ut (m hr);unfold aa0 at u;simp only[eX]at u
 let ⟨b1,b2,b3,b4,b5,b6⟩:=u
 have z:zF E ops fr.n:=⟨b1,b2,b3,b4,b5⟩;have A:s.fl=0:=wA b6;refine Oo hm ?_
 let ⟨B,C⟩:=p.grow (fl:=s.fl) (I:=g.bF) (w':={w with drawn:=w.drawn+1}) (λ_ h=>h) (λ_ h=>.inl h) p.bF (eP _) (λ_ _=>rfl) rfl rfl
 have n:eO s g w s g {w with drawn:=w.drawn+1}:=
  ⟨B,⟨λ_ _ h=>h,λ_ _ _ _ h=>h,λ_ h=>h,eP _,λ_ _ _=>rfl,λo b d hO=>.inl ⟨o,d,hO⟩,λ_ h=>.inl h,rfl,rfl⟩,rfl,rfl,eP _,λ_ h=>h,λ_ _ _=>rfl,λ_ h=>h⟩
 have q:∀i,¬nM (Array.replicate ops.size J) i:=λi d=>by
  simp_all[nM,Array.getD]
 refine S7 hE e z (s0:=s) (g0:=g) (w0:=w) (kp:=kp) (kk:=k) (r:=r) (λl F K P w' h1 h2 h3 h4 h5=>hN l F K P w' h1 h2 h3 h4 ?_) (λl t F K P v w' h1 h2 h3 h4 h5 h6=>hP l t F K P v w' h1 h2 h3 h4 h5 h6) y _ 0 fr s h ops.size _ (λ_=>0) g a _
  ⟨by simp,rfl,hn,x.size,x.df.imp (λ_ _ R=>R.ext C p.bF) C.bX,λk t hk _=>?_,λi _ _ d=>absurd d (q i),λi _ _ hd=>by simp at hd,λi _ _ d=>absurd d (q i),λi _ _ hd=>by simp at hd,λi _ _ d=>absurd d (q i),λi _ d=>absurd d (q i),n,dB.refl _ _ _ _,A,λj _ hj=>by simp at hj⟩ (by simp)
 exact h5
 let ⟨v,hv,R⟩:=x.tm k (low t) (by rw[cq,hk];rfl)
 exact⟨v,hv,R.ext C p.bF⟩
def agb{E:eI S}(e:fF E)(g:E.T.E.P.follows .mixedOrders=W){f:FuncId}{fn:Func}{c:Code}(a:E.T.E.Ve f=Z fn)(h:fn.body=Z c)(n d:Nat)(ps:L Pk)(b:L Ck) :
  bN E.T.E.P f ⟨ps,b,E.pn,vZ E n d f ps b⟩:=Ip e (λ_=>aiE e g) a h n d ps b
end
section
def zD:aD->D
 |.slice Y 0 0=>.sl []|v=>.lit v
def X5(z:aD):L D:=z.cells.toList.map zD
theorem aj3(v:aD):aiT (zD v) v:=by unfold zD;split;exact .inl ⟨rfl,rfl⟩;exact .inr rfl
theorem Yh(z:aD):ZOk (X5 z) z.cells:=by
 refine⟨by simp[X5],λj d v h1 h2=>?_⟩;simp only[X5,lK,gi]at h1;obtain⟨u,a,rfl⟩:=h1
 grind[aj3]
def aiK:D->Nat
 |.lit (.string _)=>16|.sl _=>24|_=>8
def pQ:L D->Nat
 |[]=>0|d::l=>Na (aiK d) (pQ l)
def Ii(agg:aa)(a:L D):Nat:=bif agg then pQ a else match a with
 |[.lit (.int .i8 _)]|[.lit (.int .u8 _)]|[.lit (.bool _)]=>1|[.lit (.int .i16 _)]|[.lit (.int .u16 _)]=>2|[.lit (.int .i32 _)]|[.lit (.int .u32 _)]=>4|a=>pQ a
def Vf(P:cV)(f:Field):O (Nat×Nat×aa):=match P.info? f.type,P.underlying f.type with
 |some j,Z d=>Z (f.offset,j.size,eg d)|_,_=>Y
def fieldsOf(P:cV):L Field->O (L (Nat×Nat×aa))
 |[]=>Z []|f::l=>match Vf P f,fieldsOf P l with
  |some x,Z r=>Z (x::r)|_,_=>Y
def Ez{P:cV}:∀{l:L Field}{fs:L (Nat×Nat×aa)},fieldsOf P l=Z fs->l.length=fs.length/\∀(k:Nat)off size ag,fs[k]?=Z (off,size,ag)->
  ∃f j b,l[k]?=Z f/\f.offset=off/\P.info? f.type=Z j/\j.size=size/\P.underlying f.type=Z b/\ag=eg b
 |[],fs,h=>by simp only[fieldsOf,gV]at h;subst h;exact⟨rfl,λk _ _ _ h=>by simp at h⟩
 |f::l,fs,h=>by
  simp[fieldsOf]at h;split at h
  .rename_i h1 h2;simp at h;subst h
   let ⟨c,e⟩:=Ez h2
   refine⟨by simp[c],λk off size ag a=>?_⟩;cases k with
   |zero=>simp at a;subst a;unfold Vf at h1;split at h1;rename_i j d g i;obtain⟨rfl,rfl,rfl⟩:=h1;exact⟨f,j,d,rfl,rfl,g,rfl,i,rfl⟩;cases h1
   |succ k=>exact e k off size ag (by simpa using a)
  cases h
def ZW(P:cV):TypeDesc->Kd
 |.int k=>.leaf (.int k)|.bool=>.leaf .bool|.string=>.leaf .str|.pointer _=>.ptr|.interface _=>.iface|.slice e=>match P.info? e,P.underlying e with
  |some j,Z d=>match j.zero with
   |some z=>bif Nl j.bytes 4096&&(Nt 0 j.size&&(Nl j.bytes (Ii (eg d) (X5 z))&&(Nl (Ii (eg d) (X5 z)) (Nat.mul 2 j.bytes)&&(Nt 0 j.bytes&&Nq (cM (X5 z)) j.size))))then
     .slice j.size (eg d) (Ii (eg d) (X5 z)) (X5 z)else .other
   |none=>.other
  |_,_=>.other
 |.struct fields=>match fieldsOf P fields.toList with
  |some a=>.struct a|none=>.other
 |.array len e=>match P.info? e,P.underlying e with
  |some j,Z d=>.array len j.size (eg d)|_,_=>.other
 |_=>.other
theorem adR(P:cV)(d:TypeDesc):aoh P (ZW P d) d:=by
 cases d with
 |slice e=>
  simp only[ZW];split;rename_i j d h1 h2;split
  .rename_i z b;cases a:(Nl j.bytes 4096&&(Nt 0 j.size&&(Nl j.bytes (Ii (eg d) (X5 z))&&(Nl (Ii (eg d) (X5 z)) (Nat.mul 2 j.bytes)&&(Nt 0 j.bytes&&Nq (cM (X5 z)) j.size)))))with
   |false=>trivial|true=>
    simp only[eX]at a
    let ⟨c,f,g,i,l,o⟩:=a
    exact⟨e,j,d,z,rfl,h1,rfl,h2,rfl,b,Yh z,gY c,gY f,gY g,gY i,gY l,by grind[bZ,Nat.eq_of_beq_eq_true]⟩
  trivial;trivial
 |struct fields=>
  simp[ZW];split;rename_i h
  let ⟨m,p⟩:=Ez h
  exact⟨fields,rfl,by simpa using m,λk off size q r=>by
   grind⟩
  trivial
 |array len e=>simp[ZW];split;rename_i j d h1 h2;exact⟨e,j,d,rfl,h1,rfl,h2,rfl⟩;trivial
 |int k=>exact rfl|bool=>exact rfl|string=>exact rfl|pointer e=>exact⟨e,rfl⟩|interface n=>exact⟨n,rfl⟩|_=>trivial
def Z7:aD->aa
 |.agg _=>W|_=>J
def acV(P:cV)(a:TypeId->L Lk)(t:TypeId):O TI:=match P.info? t,P.underlying t with
 |some x,Z d=>match x.zero with
  |some z=>bif (bif eg d then Z7 z else !(Z7 z))then Z ⟨x.size,eg d,X5 z,bif eg d then a t else[],ZW P d⟩else Y|none=>Y
 |_,_=>Y
variable {P:cV}
def acU{a:TypeId->L Lk}(n:∀t,a t≠[]->ajf P t (a t)){t:TypeId}{i:TI}(h:acV P a t=Z i):nH P t i:=by
 unfold acV at h;split at h;rename_i x d j k;split at h;rename_i z l;obtain⟨g,h⟩|⟨_,h⟩:=ah h
 simp at h;subst h;refine⟨λb m=>?_,λo c=>?_,λp q e f=>?_,x,d,z,j,k,rfl,rfl,l,Yh z,adR P d⟩
 simp_all
 rw[k]at c;cases c;rfl;rw[j]at e;cases e;rw[l]at f;cases f;refine⟨λb=>?_,λb=>?_⟩;dsimp only at b;rw[b,iq]at g;cases z<;>first|exact⟨_,rfl⟩|cases g
 dsimp only at b;rw[b,jP]at g;cases z<;>first|rfl|cases g
 iterate 3 cases h
end
def HV(P:cV)(b:TypeId->O (L Lk)):L Field->Nat->O (L Lk)
 |[],_=>Z []|f::l,off=>match b f.type,P.info? f.type with
  |some a,Z j=>bif (f.name != "_")&&(Nq f.offset off&&Nq j.size (cM a))then(HV P b l (Na off (cM a))).map λr=>a++r else Y|_,_=>Y
def Ey(P:cV):Nat->TypeId->O (L Lk)
 |0,_=>Y|d+1,t=>match P.underlying t with
  |some (.int k)=>Z [.int k]|some .bool=>Z [.bool]|some .string=>Z [.str]|some (.struct a)=>bif P.stoodInHeld t then Y else HV P (Ey P d) a.toList 0|_=>Y
def zj:∀{a b c d:L aD},a.length=b.length->n7 (a++c) (b++d)=(n7 a b&&n7 c d)
 |[],[],c,d,_=>by rfl
 |x::a,y::b,c,d,h=>by simp[List.cons_append,n7,zj (a:=a) (b:=b) (by simpa using h),Bool.and_assoc]
 |[],_::_,_,_,h=>by simp at h
 |_::_,[],_,_,h=>by simp at h
def vP(a:L Lk)(l:L aD):Prop:=l.length=a.length/\∀(j:Nat)(k:Lk)(v:aD),a[j]?=Z k->l[j]?=Z v->Cg k v
theorem vP.split{a b:L Lk}{l:L aD}(h:vP (a++b) l):vP a (l.take a.length)/\vP b (l.drop a.length):=by have c:=h.1;refine⟨⟨by simp_all,λj k v h1 h2=>?_⟩,⟨by simp_all,λj k v h1 h2=>?_⟩⟩;exact h.2 j k v (by grind) (by grind);exact h.2 (a.length+j) k v (by grind) (by simp_all)
section
variable {P:cV}
def Mk(P:cV)(t:TypeId)(l:L aD)(v:aD):Prop:=∃u,P.underlying t=Z u/\((eg u=W/\v=.agg l.toArray)\/(eg u=J/\l=[v]))
theorem aeC{d:Nat}{t:TypeId}{a:L Lk}(h:Ey P d t=Z a):∃u,P.underlying t=Z u/\(eg u=W\/(eg u=J/\a.length=1)):=by
 cases d with
 |zero=>cases h
 |succ d=>
  simp[Ey]at h;split at h
  grind
  grind
  grind
  rename_i b;exact⟨_,b,.inl rfl⟩;cases h
theorem aeB:∀(d:Nat)(t:TypeId)(z:L Lk),Ey P d t=Z z->∀(D:Nat),d<=D->∀(w:az)(e ys:L aD)(x y:aD),vP z e->vP z ys->Mk P t e x->Mk P t ys y->
  (Op.equalIn D t x y).run P w=.ok (n7 e ys) w:=by
 intro d
 induction d with
 |zero=>intro t z h;cases h
 |succ d ih=>
  intro t z h D hD w e ys x y hx hy K R;obtain⟨D,rfl⟩:∃D',D=D'+1:=⟨D-1,by omega⟩;simp[Ey]at h
  let ⟨u,hu,K⟩:=K
  let ⟨u',g,R⟩:=R
  rw[hu]at g;cases g;rw[hu]at h;have one:∀{k:Lk},z=[k]->eg u=J->e=[x]/\ys=[y]/\Cg k x/\Cg k y:=by
   rintro k rfl ha
   obtain⟨h1,_⟩|⟨_,rfl⟩:=K
   simp_all
   obtain⟨h1,_⟩|⟨_,rfl⟩:=R
   simp_all
   exact⟨rfl,rfl,hx.2 0 _ _ rfl rfl,hy.2 0 _ _ rfl rfl⟩
  split at h;rename_i p;cases p;simp at h;obtain⟨rfl,rfl,⟨a,rfl⟩,⟨b,rfl⟩⟩:=one h.symm rfl
  grind[run_equalIn_int,n7,Ia]
  rename_i p;cases p;simp at h;obtain⟨rfl,rfl,⟨a,rfl⟩,⟨b,rfl⟩⟩:=one h.symm rfl
  grind[run_equalIn_bool',n7,Ia]
  rename_i p;cases p;simp at h;obtain⟨rfl,rfl,⟨a,rfl⟩,⟨b,rfl⟩⟩:=one h.symm rfl
  grind[run_equalIn_string,beq_toListBytes,n7,Ia]
  .rename_i fs p;cases p;obtain⟨_,h⟩|⟨hst,h⟩:=ah h
   cases h;obtain⟨_,rfl⟩|⟨h1,_⟩:=K
   rotate_left;cases h1;obtain⟨_,rfl⟩|⟨h1,_⟩:=R
   rotate_left;cases h1;have hfo:P.fieldsOf t=fs:=by simp[Program.fieldsOf,hu]
   rw[run_equalIn_struct w D t _ _ (by grind) hst,hfo];have key:∀(l:L Field)(off:Nat)(i:L Lk),HV P (Ey P d) l off=Z i->vP i (e.drop off)->vP i (ys.drop off)->off<=e.length->off<=ys.length->
     (Op.eqFields D e.toArray ys.toArray l).run P w=.ok (n7 (e.drop off) (ys.drop off)) w:=by
    intro l
    induction l with
    |nil=>intro off i h S ky _ _;simp only[HV,gV]at h;subst h;have e1:=EZ S.1;rw[e1];rfl
    |cons f l ihl=>
     intro off i h S ky ox oy;simp only[HV]at h;split at h
     .rename_i c j h1 h2;obtain⟨hb,h⟩|⟨_,h⟩:=ah h
      rotate_left;cases h;simp only[eX]at hb
      let ⟨hnm,o,hsz⟩:=hb
      have o:=wA o;rw[bZ]at hsz h;simp only[gi]at h;obtain⟨r,hr,rfl⟩:=h
      let ⟨q,B⟩:=S.split
      let ⟨s,C⟩:=ky.split
      rw[afD]at B C;have hlx:=S.1;have hly:=ky.1;rw[jR,Uy]at hlx hly;have m:∀(A:L aD),vP c ((A.drop off).take c.length)->∃v,(part f.type A.toArray f.offset).run P w=.ok v w/\Mk P f.type ((A.drop off).take c.length) v:=by
       intro A hz
       let ⟨u,g,n⟩:=aeC h1
       obtain n|⟨n,h1l⟩:=n
       refine⟨.agg ((A.drop off).take c.length).toArray,?_,u,g,.inl ⟨n,rfl⟩⟩
       simp_all[part,uN,dD]
       have E:=hz.1;rw[h1l]at E
       let ⟨v,hv⟩:=YN.1 E
       refine⟨v,?_,u,g,.inr ⟨n,by grind⟩⟩;have hvv:A[off]?=Z v:=by
        have:=eC (λl=>l[0]?) hv
        grind
       simp_all[part,uN]
      let ⟨v1,e1,m1⟩:=m e q
      let ⟨v2,e2,m2⟩:=m ys s
      have F:=ih f.type c h1 D (by omega) w _ _ v1 v2 q s m1 m2;have U6:=ihl (off+c.length) r hr B C (by omega) (by omega);have I:f.name≠ "_":=by grind
      have hsx:e.drop off=(e.drop off).take c.length++e.drop (off+c.length):=by
       grind[List.drop_drop,List.take_append_drop]
      have hsy:ys.drop off=(ys.drop off).take c.length++ys.drop (off+c.length):=by
       grind[List.drop_drop,List.take_append_drop]
      rw[hsx,hsy,zj (by rw[q.1,s.1])];simp only[Op.eqFields,I,ne_eq,not_false_eq_true,kz,run_bind,e1,e2,F,andThen_ok];cases hq:n7 ((e.drop off).take c.length) ((ys.drop off).take c.length)with|true=>grind|false=>simp
     cases h
   grind
  cases h
def PG(P:cV)(t:TypeId):L Lk:=bif P.eqGuardType P.depth t then[]else match Ey P 100 t with
 |some a=>match P.underlying t with
  |some u=>bif eg u then a else[]|none=>[]
 |none=>[]
def aaJ(t:TypeId)(h:PG P t≠[]):ajf P t (PG P t):=by
 unfold PG at h ⊢;cases e:P.eqGuardType P.depth t with
 |true=>simp_all|false=>
  cases f:Ey P 100 t with
  |none=>simp_all|some g=>
   cases c:P.underlying t with
   |none=>simp_all|some u=>
    dsimp only at h ⊢;cases d:eg u with
    |false=>simp_all|true=>
     intro w op x y a b i l m n;refine⟨run_eqGuard_agg w op t x y a b e,?_⟩;have:=aeB 100 t g f Op.maxDepth (by decide) w a.toList b.toList (.agg a) (.agg b) ⟨by simpa using i,λj k v h1 h2=>m j k v h1 (by simpa using h2)⟩ ⟨by simpa using l,λj k v h1 h2=>n j k v h1 (by simpa using h2)⟩
      ⟨u,c,.inl ⟨d,rfl⟩⟩ ⟨u,c,.inl ⟨d,rfl⟩⟩
     exact this
end
def ZV{l:L Ty}(h:l.all (λt=>!(lf t))=W):∀t∈l,lf t=J:=by
 simp_all
namespace Tr
variable {α β:Type}
def mapKey(f:Nat->α->β):Tr α->Tr β
 |.nil=>.nil|.node v l r=>.node (match v with|some x=>Z (f 0 x)|none=>Y) (mapKey (λj=>f (Ns (Nat.mul 2 j))) l) (mapKey (λj=>f (Ns (Ns (Nat.mul 2 j)))) r)
theorem Aa:∀(t:Tr α)(f:Nat->α->β)(k:Nat),(t.mapKey f).get k=(t.get k).map (f k)
 |.nil,f,k=>by rfl
 |.node v l r,f,0=>by simp[mapKey,Tr.jk];cases v<;>rfl
 |.node v l r,f,k+1=>by
  simp only[mapKey,Tr.dL];by_cases a:k%2=0;rw[bH a,bH a,Aa l];have:Ns (Nat.mul 2 (k/2))=k+1:=by grind
  rw[this];rw[bS a,bS a,Aa r];have:Ns (Ns (Nat.mul 2 (k/2)))=k+1:=by grind
  rw[this]
theorem qH{t:Tr α}{f g:Nat->α->β}(h:t.mapKey f=t.mapKey g){k:Nat}{v:α}(a:t.get k=Z v):f k v=g k v:=by
 have:=eC (λt=>t.get k) h
 grind[Aa]
end Tr
def UW:L (String×FuncId)->String->O FuncId
 |[],_=>Y|p::l,m=>bif p.1==m then Z p.2 else UW l m
def mkE(P:cV)(RA:Tr TI)(V0:Tr Ty)(mtT:Tr MT)(wX:Tr (L (String×FuncId)))(pG:Tr Func)(a:Nat->O Nat):gC:=
 ⟨⟨P,λk=>RA.get k,λk=>pG.get k,λ_=>Y⟩,λk=>V0.get k,λk=>mtT.get k,λt m=>match wX.get t with|some l=>UW l m|none=>Y,a⟩
section
variable (S:Sg)(P:cV)
def mq(τ:Ty):L D:=bif lf τ then(match enc S τ (S.zero τ)with|.agg l=>l|_=>[])else[enc S τ (S.zero τ)]
def Gw(τ:Ty)(i:TI):Kd×aa×Nat×aa×L D:=match τ with
 |.int k=>(.leaf (.int k),J,1,W,mq S τ)|.bool=>(.leaf .bool,J,1,W,mq S τ)|.str=>(.leaf .str,J,1,W,mq S τ)|.sl e=>(.slice (S.width e) (lf e) (An S e) (mq S e),J,1,W,mq S τ)|.st n=>(i.kd,W,cM (S.fs n),W,mq S τ)|.dn _=>(.iface,J,1,W,mq S τ)|.opt _=>(.ptr,J,1,W,mq S τ)|.mp _ _=>(i.kd,J,1,W,mq S τ)
def Gv(τ:Ty)(i:TI):Kd×aa×Nat×aa×L D:=(i.kd,i.agg,i.size,(match τ with|.sl e=>Nt 0 (S.width e)|_=>W),i.zero)
theorem FU(τ:Ty):bif lf τ then D.agg (mq S τ)=enc S τ (S.zero τ)else mq S τ=[enc S τ (S.zero τ)]:=by cases τ<;>rfl
theorem agU{τ:Ty}{i:TI}(h:Gw S τ i=Gv S τ i):zw S i τ/\Tv S i τ:=by
 have a:i.zero=mq S τ->Tv S i τ:=by
  grind[Tv,FU]
 cases τ with
 |int k=>
  simp only[Gw,Gv,fH]at h
  let ⟨h1,h2,h3,_,h5⟩:=h
  exact⟨⟨h1.symm,h2.symm,h3.symm⟩,a h5.symm⟩
 |bool=>
  simp only[Gw,Gv,fH]at h
  let ⟨h1,h2,h3,_,h5⟩:=h
  exact⟨⟨h1.symm,h2.symm,h3.symm⟩,a h5.symm⟩
 |str=>
  simp only[Gw,Gv,fH]at h
  let ⟨h1,h2,h3,_,h5⟩:=h
  exact⟨⟨h1.symm,h2.symm,h3.symm⟩,a h5.symm⟩
 |sl e=>
  simp only[Gw,Gv,fH]at h
  let ⟨h1,h2,h3,h4,h5⟩:=h
  exact⟨⟨⟨_,h1.symm,FU S e⟩,h2.symm,h3.symm,gY h4.symm⟩,a h5.symm⟩
 |st n=>
  simp only[Gw,Gv,fH]at h
  let ⟨_,h2,h3,_,h5⟩:=h
  exact⟨⟨h2.symm,by rw[<-h3,bZ]⟩,a h5.symm⟩
 |dn n=>
  simp only[Gw,Gv,fH]at h
  let ⟨h1,h2,h3,_,h5⟩:=h
  exact⟨⟨h1.symm,h2.symm,h3.symm⟩,a h5.symm⟩
 |opt n=>
  simp only[Gw,Gv,fH]at h
  let ⟨h1,h2,h3,_,h5⟩:=h
  exact⟨⟨h1.symm,h2.symm,h3.symm⟩,a h5.symm⟩
 |mp k v=>
  simp only[Gw,Gv,fH]at h
  let ⟨_,h2,h3,_,h5⟩:=h
  exact⟨⟨trivial,h2.symm,h3.symm⟩,a h5.symm⟩
def akJ:Ty->TypeDesc->aa
 |.int k,.int j=>pz j k|.bool,.bool=>W|.str,.string=>W|_,_=>J
def adP{t:Ty}{d:TypeDesc}(h:akJ t d=W):iH t d:=by
 cases t<;>cases d<;>first|exact rfl|(cases h;done)|skip
 rename_i k j;have:j=k:=by cases j<;>cases k<;>first|rfl|cases h
 rw[this];exact rfl
def mtB(E:gC)(t:Nat)(m:MT):aa:=match E.E.P.underlying t with
 |some (.map a el)=>Nq el m.el&&((match E.E.P.underlying a with|some d=>akJ m.kt d|none=>J)&&((match E.E.P.info? m.el with|some x=>x.zero.isSome|none=>J)&&
   (match m.vt with|some b=>(match E.ty m.el with|some c=>sN c b|none=>J)&&(E.E.ti m.el).isSome|none=>W)))
 |_=>J
theorem ahg{E:gC}{t:Nat}{m:MT}(h:mtB E t m=W):∃a d,E.E.P.underlying t=Z (.map a m.el)/\E.E.P.underlying a=Z d/\iH m.kt d/\(∃x z,E.E.P.info? m.el=Z x/\x.zero=Z z)/\
  ∀b,m.vt=Z b->E.ty m.el=Z b/\∃i,E.E.ti m.el=Z i:=by
 unfold mtB at h;split at h
 .rename_i a el f;simp only[eX]at h
  let ⟨h1,h2,h3,h4⟩:=h
  have:=wA h1;subst this;cases e:E.E.P.underlying a with
  |none=>simp_all|some d=>
   rw[e]at h2;cases g:E.E.P.info? m.el with
   |none=>simp_all|some x=>
    rw[g]at h3
    let ⟨z,j⟩:=afE.1 h3
    refine⟨a,d,f,e,adP h2,⟨x,z,rfl,j⟩,λb c=>?_⟩;rw[c]at h4
    grind[j4,Option.isSome_iff_exists]
 cases h
def Z4:TypeDesc->aa
 |.pointer _=>W|_=>J
def US(P:cV)(t:Nat)(p:String×FuncId):aa:=match P.info? t,P.underlying t with
 |some x,Z d=>match x.methods.find? (·.name==p.1)with
  |some a=>match a.path.toList,a.func with
   |[],Z (f,b)=>Nq f p.2&&(bif b then Z4 d else !(Z4 d))|_,_=>J
  |none=>J
 |_,_=>J
def ZJ{P:cV}{t:Nat}{p:String×FuncId}(h:US P t p=W):∃x a d,P.info? t=Z x/\x.methods.find? (·.name==p.1)=Z a/\a.path=#[]/\P.underlying t=Z d/\
  ((a.func=Z (p.2,J)/\∀e,d≠.pointer e)\/(a.func=Z (p.2,W)/\∃e,d=.pointer e)):=by
 unfold US at h;split at h;rename_i x d c f;split at h;rename_i a g;split at h
 .rename_i b h1 h2;rw[eX]at h;have:=wA h.1;subst this;refine⟨x,a,d,c,g,by simpa using h1,f,?_⟩;cases b with
  |false=>refine .inl ⟨h2,λe i=>?_⟩;subst i;exact Bool.noConfusion h.2|true=>
   refine .inr ⟨h2,?_⟩;cases d<;>first|exact⟨_,rfl⟩|exact Bool.noConfusion h.2
 iterate 3 cases h
theorem Ku:∀{l:L (String×FuncId)}{m:String}{f:FuncId},UW l m=Z f->(m,f)∈l
 |[],_,_,h=>by cases h
 |p::l,m,f,h=>by
  obtain⟨a,h⟩|⟨_,h⟩:=ah h
  grind
  exact ie _ (Ku h)
end
theorem aaW{S:Sg}(o:fE S){P:cV}{RA:Tr TI}{V0:Tr Ty}{mtT:Tr MT}{wX:Tr (L (String×FuncId))}{pG:Tr Func}{d:Nat->O Nat}
  (h1:RA.mapKey (λk _=>acV P (PG P) k)=RA.mapKey λ_ i=>Z i)
  (h2:pG.mapKey (λk _=>P.funcs[k]?)=pG.mapKey λ_ f=>Z f)
  (h3:V0.mapKey (λk τ=>(RA.get k).map (Gw S τ))=V0.mapKey λk τ=>(RA.get k).map (Gv S τ))
  (h4:pG.mapKey (λ_ f=>f.name== "runtime.NumGoroutine")=pG.mapKey λ_ _=>J)
  (h5:mtT.mapKey (λk m=>mtB (mkE P RA V0 mtT wX pG d) k m)=mtT.mapKey λ_ _=>W)
  (h6:wX.mapKey (λk l=>l.all (US P k))=wX.mapKey λ_ _=>W) (JA:FuncId->O (lT S)) (sh:FuncId->Nat->O X1) (p:∀f c,JA f=Z c->bN P f c) (q:aa) (r:FuncId->L (V S)->O JSh) :
  fF (⟨mkE P RA V0 mtT wX pG d,JA,sh,q,r⟩:eI S):=by
 have a:∀k i τ,RA.get k=Z i->V0.get k=Z τ->zw S i τ/\Tv S i τ:=by
  grind[Tr.qH,agU]
 refine⟨o,⟨λk i e=>?_,λf fn g=>?_⟩,⟨λk i τ e j=>(a k i τ e j).1⟩,λf fn g=>Tr.qH h4 g,λ_=>rfl,⟨λk i τ e j=>(a k i τ e j).2,λt m s=>?_,λt u f g=>?_⟩,p⟩;exact acU (λt h=>aaJ t h) (Tr.qH h1 e);exact Tr.qH h2 g;exact ahg (Tr.qH h5 s);have b:(match wX.get t with|some l=>UW l u|none=>Y)=Z f:=g;split at b;rename_i v;have n:=Tr.qH h6 v;rw[kU]at n;exact ZJ (n _ (Ku b));cases b
section
def cD{R P α:Type}(x:Rx R P)(f:R->O α)(g:P->O α):O α:=match x with
 |.ok r=>f r|.iN p=>g p
def bU{X R B P α:Type}(o:LO X R B P)(f:Nat->X->O α)(g:B->R->O α)(h:B->P->O α):O α:=match o with
 |.next _=>Y|.out j x=>f j x|.ret b r=>g b r|.iN b p=>h b p
def cJ{X R B P α:Type}(o:LO X R B P)(e:X->O α)(f:Nat->X->O α)(g:B->R->O α)(h:B->P->O α):O α:=match o with
 |.next x=>e x|.out j x=>f j x|.ret b r=>g b r|.iN b p=>h b p
def agY{α:Type}(n:Nat)(a:α):L α:=List.replicate n a
def oe(a b:aa):aa:=a&&b
def ae5(a b:Nat):Nat:=Na a b
def trL{α:Type}:L (Nat×α)->Tr α
 |[]=>.nil|p::l=>(trL l).set aP p.1 p.2
def Wl:Code->L (Code×Code)
 |.seq a b=>Wl a++Wl b|.cond _ a b=>Wl a++Wl b|.block _ b=>Wl b|.loop b=>Wl b|.rangeFunc _ _ a b=>(a,b)::(Wl a++Wl b)|.scope b=>Wl b|_=>[]
def rgN(l:L (Code×Code))(i:Nat):Code×Code:=match l with
 |[]=>(.skip,.skip)|a::l=>match i with
  |0=>a|i+1=>rgN l i
def lpR(a n:Nat)(ps:L Nat)(c:Code×Code)(l:L (Nat×V S)):vO S:=.lp ⟨.ready,Y,a,PD (vV c.1++vV c.2) {n:=n,tm:=trL l},ps,c.1,c.2⟩
def N9(l:L (FuncId×lT S))(f:FuncId):O (lT S):=match l with
 |[]=>Y|p::l=>bif Nq p.1 f then Z p.2 else N9 l f
def OkL(P:cV):L (FuncId×lT S)->Prop
 |[]=>True|p::l=>bN P p.1 p.2/\OkL P l
def Ul{P:cV}:∀{l:L (FuncId×lT S)},OkL P l->∀f c,N9 l f=Z c->bN P f c
 |[],_,_,_,h=>by cases h
 |p::l,⟨d,a⟩,f,c,h=>by
  unfold N9 at h;cases b:Nq p.1 f with
  |true=>
   simp_all
  |false=>rw[b]at h;exact Ul a f c h
variable {P:cV}
def cG{f:FuncId}{ps:L Pk}{a:L Ck}{b:aa}(h:mF P f):bN P f (⟨ps,a,b,λ_=>Y⟩:lT S):=
 ⟨h,λ_ _ h=>by cases h⟩
def uA{α:Type}(b:L α×U):JM (isE b.1) (Z (([],()),())) (Z (b,()))=Z (b,()):=by
 let ⟨l,u⟩:=b
 cases l with|nil=>simp[JM]|cons a l=>rfl
end
end TL
end
