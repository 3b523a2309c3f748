import Derived.Scope
import Derived.Recover
import Derived.Laws.StructEq
import Derived.Room.BridgeHanded
import Derived.DataElems
import Derived.Test.YtdddliieplcejaaGreatW2
set_option linter.all false
set_option maxRecDepth 100000
set_option maxHeartbeats 0
noncomputable section
open Option renaming some->Z,none->Y
open Bool renaming true->W,false->J
open Nat renaming beq->Nq,ble->Nl,blt->Nt,succ->Ns,add->Na
open Go.Result(andThen_ok)
open Go.Sem(run_bind run_pure)
open TL.LO renaming next->N,ret->X,out->H
open TL.Rx renaming ok->G,hU->M
section
namespace TL
open Go
variable {S:Sg}
section
def Ko(s:bu S)(g:Gh)(w:World){ω:Type}(k kp:V S->bu S->O ω)(r:ω):Ending->World->Prop
 |.returned v,b=>∃t c d,k t c=Z r∧aP d b (low t) v∧fJ s g w c d b|.panicked chain,b=>∃v t c d,chain=[{v,recovered:=J}]∧kp t c=Z r∧aP d b (low t) v∧fJ s g w c d b|.outgrown,_=>False
def al8(P:Program)(call:fU S):Prop:=∀(f:FuncId)(args:L (V S))(s:bu S){ω:Type}(k kp:V S->bu S->O ω)(r:ω),call (.jn f) args s k kp=Z r->∀(g:Gh)(w:World)(vs:Array Value),bq g (aI s) w->PW (aP g w) (bz args) vs.toList->
  lN P f∧Calls P f vs w (Ko s g w k kp r)
theorem xp:∀{l:L Nat}{o:Nat},o∈l->o<=IC l
 |[],_,h=>by cases h
 |a::l,o,h=>by
  simp[IC];obtain rfl|h:=fy.1 h
  .cases b:Nl (IC l) o with
   |true=>grind|false=>
    grind[Nat.ble_eq_true_of_le]
  .have:=xp h;cases b:Nl (IC l) a with|true=>exact gk this (g9 b)|false=>exact this
theorem js{l:L Nat}{o:Nat}:BG l o=J↔o∈l:=by simp[BG]
def tU{t:Tr (ux S)}:∀{l:L Nat},(∀o∈l,o<bC)->∀{o:Nat},(Dj t l).get o=if o∈l then t.get o else Y
 |[],_,o=>by rfl
 |a::l,h,o=>by
  have f:=tU (t:=t) (l:=l) (λo b=>h o (iB _ b)) (o:=o);have c:=h a fA;simp only[Dj];by_cases e:o=a
  .subst e;rw[cn fA];cases d:t.get o with
   |none=>
    simp_all
   |some x=>simp only;rw[Tr.bn _ _ _ _ c,cn rfl]
  .cases d:t.get a with
   |none=>simp_all|some x=>
    simp_all[Tr.bn]
def aci(os:L Nat)(t:T):dP os.contains t=dw os t:=by
 induction t using T.rec (motive_2:=λl=>ju os.contains l=iF os l)with|fn f a b d g=>simp[dw,dP,d,g]|cT t v e=>simpa only[dw,dP]using e|agg i e=>simpa only[dw,dP]using e|gM i e=>simpa only[dw,dP]using e|gd c t e=>simpa only[dw,dP]using e|nil=>rfl|cons a l d h=>simp[iF,ju,d,h]|_=>rfl
def De{p q:Nat->Bool}(h:∀o,p o=W->q o=W){α:Type}:∀l:L (α×V S),y9 p l=W->y9 q l=W
 |[],a=>by cases a
 |v::l,a=>by simp[y9,m7]at a ⊢;exact a.imp (eB h v.2) (De h l)
theorem tN{p q:V S->Bool}(h:∀v,p v=W->q v=W):∀t:Tr (V S),mD p t=W->mD q t=W
 |.nil,a=>by cases a
 |.node v l r,a=>by
  simp[mD,m7]at a ⊢;refine a.imp (λa=>?_) (Or.imp (tN h l) (tN h r))
  grind
variable {p q:Nat->Bool}
def KS(h:∀o,p o=W->q o=W){ob:ux S}(d:gz q ob=J):gz p ob=J:=by
 cases a:gz p ob with
 |false=>rfl|true=>
  have:gz q ob=W:=by cases ob with|box c=>exact lV h c a|Im e l=>exact De h l a|lp l=>exact tN (eB h) _ a|kX n j l era m b hole=>exact h m a|_=>cases a
  simp_all
theorem Fc{g:Gh}{w:World}{s:bu S}{b:L Ck}{v:V S}{val:Value}(i:aP g w (low v) val){x:gr S.A b}{fz ow:L Nat}(h:fY s b (Xh b v)=Z (x,fz,ow)):∃vals,val=valOf vals∧PW (aP g w) (bz (Xh b v)) vals:=by
 have one:∀{l:L (V S)},l=[v]->b.length=1->∃vals,val=valOf vals∧PW (aP g w) (bz l) vals:=by
  rintro l rfl _
  refine⟨[val],rfl,rfl,λj t u h1 h2=>?_⟩
  grind[bz]
 have d:∀{a:L Ck}{l:L (V S)}{x:gr S.A a}{fz ow:L Nat},fY s a l=Z (x,fz,ow)->a.length=l.length:=by
  intro a
  induction a with
  |nil=>grind[fY]|cons c a o=>intro l x fz ow h;cases l with
   |nil=>simp[fY]at h|cons v l=>
    grind[fY]
 have e:=d h;unfold Xh at e h ⊢;split at h
 .grind
 .cases i with
  |gM _ f k m=>
   refine⟨f.toList,?_,by simpa using k,λj t v h1 h2=>m j t v h1 (by simpa using h2)⟩;have n:f.toList.length≠1:=by
    grind[eR,List.length_eq_one_iff]
   unfold valOf;split
   .simp_all
   .rfl
 simp_all
def GD{fr:bU S}:∀{n j:Nat}{l:L (V S)},getAll fr j n=Z l->l.length=n∧∀(i:Nat)(v:V S),l[i]?=Z v->fr.get (j+i)=Z v
 |0,j,l,h=>by simp only[getAll,gV]at h;subst h;exact⟨rfl,λi v h=>by simp at h⟩
 |n+1,j,l,h=>by
  simp only[getAll]at h;split at h
  .rename_i h1 h2;simp at h;subst h
   let ⟨b,c⟩:=GD h2
   refine⟨by simp[b],λi u a=>?_⟩;cases i with|zero=>simp at a;subst a;exact h1|succ i=>have:=c i u (by simpa using a);rw[show j+(i+1)=Ns j+i by omega];exact this
  .cases h
theorem S7{g:Gh}{w:World}{fr:bU S}{s:bu S}{a:Act}(hf:cL g (bB fr) a w)(hs:bq g (aI s) w):∀{ps:L Pt}{f:L Nat},XR fr s ps=Z f->∀o∈f,∃b,g.bV o=Z b
 |[],f,h=>by
  grind[XR]
 |p::l,f,h=>by
  simp[XR]at h;split at h
  .rename_i h1 h2;simp at h;subst h;intro j c;obtain rfl|c:=fy.1 c
   .unfold ptO at h1;split at h1
    .rename_i k d;cases h1
     let ⟨u,e⟩:=jV hf hs d
     cases e with|ptr _ _ b i=>grind
    .rename_i k d;cases h1
     let ⟨u,e⟩:=jV hf hs d
     cases e with|mp _ b i=>grind
    .rename_i d;cases h1
     let ⟨u,e⟩:=jV hf hs d
     cases e with|rB _ b i=>grind
    .cases h1
   .exact S7 hf hs h2 j c
  .cases h
theorem SU{s:bu S}:∀{cs:L Ck}{l:L (V S)}{x:gr S.A cs}{fz ow:L Nat},kM cs=W->fY s cs l=Z (x,fz,ow)->fz=[]∧ow=[]
 |[],[],_,fz,ow,_,h=>by
  grind[fY]
 |.dat t::cs,v::l,x,fz,ow,a,h=>by
  simp[kM,eK]at a;simp[fY]at h;split at h
  .rename_i c d;obtain⟨_,rfl,rfl⟩:=h;obtain⟨rfl,rfl⟩:=SU a.2 d;simp[oF]at c;split at c
   .rename_i b;obtain⟨_,rfl,rfl⟩:=c;refine⟨?_,rfl⟩;cases t with
    |sl e=>simp[E5]at a|st n=>simp[E5]at a|cT n=>simp[E5]at a|int k=>
     cases v<;>simp only[bW]at b<;>try(cases b;done)
     .grind
     grind
    |bool=>
     cases v<;>simp only[bW]at b<;>try(cases b;done)
     .grind
     simp_all
    |str=>
     cases v<;>simp only[bW]at b<;>try(cases b;done)
     grind
   .cases c
  .cases h
 |.own _::_,_,_,_,_,a,_=>by simp[kM]at a
 |.j0 ..::_,_,_,_,_,a,_=>by simp[kM]at a
 |.nil _::_,_,_,_,_,a,_=>by simp[kM]at a
 |.ptr _::_,_,_,_,_,a,_=>by simp[kM]at a
 |[],_::_,_,_,_,_,h=>by simp[fY]at h
 |.dat _::_,[],_,_,_,_,h=>by simp[fY]at h
section
variable {g:Gh}{w:World}
theorem VU{P:Program}(hS:fO S){call:fU S}(AG:al8 P call){s:bu S}(hs:bq g (aI s) w){c:JSh}{f:FuncId}{args:L (V S)}{ω:Type}{k:V S->bu S->L Nat->O ω}{r:ω}
  (h:evJ call c s f args k=Z r) {vs:Array Value} (hall:PW (aP g w) (bz args) vs.toList):lN P f∧Calls P f vs w λ
   |.returned v,w'=>∃t s' g' ow,k t s' ow=Z r∧aP g' w' (low t) v∧cR ow s g w s' g' w'|.panicked _,_=>False|.outgrown,_=>False:=by
 unfold evJ at h;split at h;rotate_left
 .cases h
 rename_i C z hbs hks;split at h
 .cases h
 rename_i F ow hpk;obtain⟨m,h1⟩|⟨_,h1⟩:=ah h
 rotate_left
 .cases h1
 clear h;simp only[eK]at m
 let ⟨⟨hlen,YQ⟩,aeu,agD,hmax⟩:=m
 have hlen:cB args<bC:=g9 hlen;have YQ:∀k∈yS c.sh,k<bC:=λk hk=>by
  simp_all
 have hmax:IC (C++z)+1<=F.aL:=g9 hmax
 let ⟨y,hrun,h2⟩:=qx h1
 clear h1;split at h2
 .cases h2
 rename_i s3 hout;have hvl:args.length=vs.size:=by have:=hall.1;rw[eR]at this;omega
 have VA:cL g (bB (Zu args)) {tmps:=vs++Array.replicate (cB args-vs.size) undef,defers:=[]} w:=sO hlen (by rw[bR];omega) hall;have agi:vs++Array.replicate (cB args-vs.size) undef=vs:=by
  simp_all[bR]
 rw[agi]at VA;generalize ha0:({tmps:=vs,defers:=[]}:Act)=a0 at VA;have ha0t:a0.tmps=vs:=by rw[<-ha0]
 let ⟨bl0,Re⟩:=sI VA hs hbs
 let ⟨A,vals,al,bl,d⟩:=kA hS VA hs Re hpk
 have hkb:=S7 VA hs hks;have VD:∀o∈C,∃b,A.bV o=Z b:=λo ho=>by
  obtain⟨j,hj,rfl⟩:=qI ho;have hj':j<bl.length:=by have:=d.Ip.1;omega
  exact⟨bl[j],d.Ip.2 j _ _ (iZ hj) (iZ hj')⟩
 have hKb:∀o∈C++z,∃b,A.bV o=Z b:=λo ho=>by
  obtain ho|ho:=dW.1 ho
  .exact VD o ho
  .let ⟨b,m⟩:=hkb o ho
   exact⟨b,d.ext.bV _ _ m⟩
 have agP:∀o∈C++z,o<F.aL:=λo ho=>by
  let ⟨b,m⟩:=hKb o ho
  exact d.rel.lt m
 have hn1:F.aL<=bC:=d.rel.aL;have aqY:∀o∈C++z,o∉ow:=λo ho hm=>by
  obtain ho|ho:=dW.1 ho
  .exact (d.TX o ho).2.2.1 hm
  .let ⟨b,m⟩:=hkb o ho
   rw[d.owb o hm]at m;cases m
 have hkp:∀o∈z,∃ob,F.ob.get o=Z ob∧oO ob=W∧gz (BG (C++z)) ob=J:=λo ho=>by
  unfold TV at agD;rw[gY]at agD;have:=agD o ho;split at this
  .simp_all
  .cases this
 have hKarr:∀o∈C++z,∀e,A.arr o e=Y:=λo ho e=>by
  obtain ho|ho:=dW.1 ho
  .exact (d.TX o ho).2.2.2 e
  .let ⟨ob,i,MG,_⟩:=hkp o ho
   cases hx:A.arr o e with
   |none=>rfl|some x=>
    exfalso
    let ⟨_,h2⟩:=d.rel.arr o e x hx
    exact FA MG (h2 _ (by rw[aS,i];rfl))
 have acY:∀o∈z,o<bC:=λo ho=>iP (agP o (eO _ ho)) hn1;have DX:=d.alr.owned d.pr.iE;have apV:bq (A.base (BG (C++z))) (aI (stJ C z F)) w:=by
  refine d.rel.base (aL:=IC (C++z)+1) (λo ho=>?_) rfl hmax (λo ob R i=>?_)
  .cases hn:BG (C++z) o with|true=>rfl|false=>have:=xp (js.1 hn);omega
  .rw[aS,show(stJ C z F).ob.get o=(Dj F.ob z).get o from rfl,tU acY]at i;split at i
   .rename_i hok
    let ⟨ob1,BR,_,hm⟩:=hkp o hok
    rw[BR]at i;simp at i;subst i;refine⟨cU ob1,by rw[aS,BR];rfl,?_⟩;have:=nK (BG (C++z)) ob1;rwa [nY hm]at this
   .cases i
 have hf1:cL (A.base (BG (C++z))) (bB (adh (C++z) c.sh (Zu args))) a0 w:=by
  refine⟨VA.size,by rw[<-ha0];exact .nil,λk t hk=>?_⟩;rw[bT,fV]at hk;obtain⟨v,hv,rfl⟩:=hk;have hv:(((yS c.sh).foldl (λt k=>t.del aR k) (Zu args).tm).keep λv=>!(cE (BG (C++z)) v)).get k=Z v:=hv;rw[Tr.nT,aiI]at hv
  let ⟨h3,h4⟩:=hv
  have h5:(Zu args).get k=Z v:=by
   rw[Tr.nU _ _ _ YQ]at h3;split at h3
   .cases h3
   .exact h3
  let ⟨u,hu,hr⟩:=VA.tm k (low v) (by rw[bT,h5];rfl)
  exact⟨u,hu,(hr.ext d.ext hs.bx).on (A.gP _) (λ_ _=>rfl) (by rw[jc];simpa using h4)⟩
 unfold abH at hrun;split at hrun
 .cases hrun
 rename_i BT w9 Oh;split at hrun
 .cases hrun
 rename_i args' dm
 let ⟨gh,hh⟩:=vW (gb:=A.base (BG (C++z))) Oh (Jl hlen) d.pr d.at_ ⟨d.Ip.1,λj o b h1 h2=>(A.gP _).bV o b (js.2 (fh _ (hJ h1))) (d.Ip.2 j o b h1 h2)⟩
  (λo ho e=>by
   simp_all[Gh.base])
  (λa ha b m o E=>by
   let ⟨h3,h4⟩:=Gh.gC E
   let ⟨o',ho',K⟩:=DX a ha b m
   have:=d.rel.kJ o o' b h4 K
   grind[js]) d.ap hf1 apV
 have hfn:BT.n=vs.size:=by have h3:BT.n=(Zu args).n:=hh.n;rw[h3];show cB args=_;rw[bR,hvl]
 have oe:PW (aP gh w) (bz args') vs.toList:=by
  let ⟨k1,k2⟩:=GD dm
  refine⟨by rw[eR,k1,hfn];simp,λj t v h3 h4=>?_⟩;rw[gH,kN,fV]at h3;obtain⟨u,hu,rfl⟩:=h3;have h5:=k2 j u hu;rw[qG]at h5
  let ⟨v',h6,h7⟩:=hh.fr.tm j (low u) (by rw[bT,h5];rfl)
  simp_all
 let ⟨Oi,hc⟩:=AG f args' w9 _ _ y hrun gh w vs hh.rel oe
 refine⟨Oi,hc.mono λe w' he=>?_⟩;cases e with
 |outgrown=>exact he.elim|panicked ch=>
  let ⟨_,_,_,_,_,h3,_⟩:=he
  cases h3
 |returned v=>
 let ⟨t,s',g',h3,ht,n⟩:=he
 unfold aem at h3;split at h3;rotate_left
 .cases h3
 rename_i yr fz ow' y2 s2 ME hr hy;obtain⟨hkw,h4⟩|⟨_,h4⟩:=ah h3
 rotate_left
 .cases h4
 simp at h4;subst h4;clear h3;have hkw:∀o∈z,o∉s2.wr:=λo ho=>by
  simp_all
 have hfE:∀(g:Gh)(w:World),cL g (bB (frE:bU S)) {tmps:=#[],defers:=[]} w:=λg w=>⟨rfl,.nil,λk t hk=>by simp_all[bT,frE,bU.get,Tr.get_nil]⟩;have agG:∀o∈C++z,∀b,A.bV o=Z b->gh.bV o=Z b:=λo ho b m=>by rw[hh.bV];exact(A.gP _).bV o b (js.2 ho) m
 have aqU:PW (λo b=>g'.bV o=Z b) C bl:=⟨d.Ip.1,λj o b h1 h2=>n.ext.bV o b (agG o (fh _ (hJ h1)) b (d.Ip.2 j o b h1 h2))⟩
 let ⟨g3,vals2,Bc,bl2,l⟩:=kA hS (hfE g' w') n.rel aqU hy
 have hfl:w9.fl=s.fl:=hh.fl.trans (show(stJ C z F).fl=s.fl from d.fl);have p:n5 w9.lo w9.fl gh w g3 w':=n.ext.trans (n.fl▸l.ext.I8 w9.lo);have hgi:gh.bx=A.bx:=hh.bx;have agx:∀{o b:Nat},bG gh o b->(o∈C++z∧A.bV o=Z b∧bG A o b)∨∃a∈al,a.at b:=λ{o b}E=>by
  obtain E|⟨_,hx⟩:=hh.own o b E
  .let ⟨h3,h4⟩:=Gh.gC E
   have h3:=js.1 h3;refine .inl ⟨h3,?_,h4⟩;obtain h5|⟨e,x,_,h5,_⟩:=h4.2
   .exact h5
   simp_all
  .exact .inr hx
 let X:Nat->Prop:=λb=>(∃o∈C++z,A.bV o=Z b)∨∃a∈al,a.at b
 have ac1:∀{o b:Nat},bG gh o b->X b:=λ{o b}E=>(agx E).imp (λ⟨h1,h2,_⟩=>⟨o,h1,h2⟩) id;have hK3:∀o∈C++z,∀b,A.bV o=Z b->g3.bV o=Z b:=λo ho b m=>p.bV o b (agG o ho b m);have Zk:∀b,A.bx b->g3.bx b:=λb m=>p.bx b (by grind);have hXi:∀b,X b->¬A.bx b:=λb hX=>by
  obtain⟨o,_,ho⟩|⟨a,ha,I⟩:=hX
  .exact (d.rel.box o b ho).1
  .exact d.pr.iE a ha b I
 have hXO:∀b,X b->∃o,(o∈C++z∨o∈ow)∧bG A o b:=λb hX=>by
  obtain⟨o,h1,ho⟩|⟨a,ha,I⟩:=hX
  .exact ⟨o,.inl h1,(d.rel.box o b ho).1,.inl ho⟩
  .let ⟨o,ho,E⟩:=DX a ha b I
   grind
 generalize hB:(cG [] ow C (frE:bU S) F).2=B at hout;have hBg:∀o,B.ob.get o=if o∈C then Y else(F.ob.get o).map (gJ (dN ow F.aL)):=λo=>by rw[<-hB];exact sY (ds:=[]) (fr:=frE) (λb m=>iP (agP b (fh _ m)) hn1) o
 have hBn:B.aL=F.aL:=by rw[<-hB];rfl
 have aq3:B.fl=F.fl:=by rw[<-hB];rfl
 have aq1:B.lo=F.lo:=by rw[<-hB];rfl
 have hA:bq (A.base (dN ow F.aL)) (aI B) w:=by
  refine d.rel.base (aL:=F.aL) (λo ho=>?_) hBn (cu _) (λo ob R i=>?_)
  .simp_all[dN]
  .rw[aS,hBg]at i;split at i
   .cases i
   .rw[Ft,fV]at i;obtain⟨vob,hv,rfl⟩:=i;exact⟨cU vob,by rw[aS,hv];rfl,nK _ vob⟩
 have aq4:∀o,(yw z B).ob.get o=if o∈z then Y else B.ob.get o:=λo=>Tr.nU z _ o acY
 have hA':bq (A.base (dN ow F.aL)) (aI (yw z B)) w:=by
  have hsub:∀o ob,(aI (yw z B)).ob.get o=Z ob->(aI B).ob.get o=Z ob:=by
   simp_all[aS]
  refine⟨hA.aL,hA.ai,λo b h=>?_,λo e x h=>?_,hA.bx,hA.kJ⟩
  .let ⟨k1,k2,k3⟩:=hA.box o b h
   exact⟨k1,k2,λob i=>k3 ob (hsub o ob i)⟩
  .let ⟨k1,k2⟩:=hA.arr o e x h
   exact⟨k1,λob i=>k2 ob (hsub o ob i)⟩
 have hC:bq {A.base (dN ow F.aL)with bx:=g3.bx} (aI (yw z B)) w':=by
  refine hA'.step (X:=X) Zk (λb m=>?_) l.rel.bx p.size (λb m hX=>n.ext.heap b m λo _ E=>hX (ac1 E)) (λo b hX E=>?_) hXi
  .obtain h|h|⟨o,_,E⟩:=p.rO b m
   .rw[hgi]at h;exact .inl h
   .omega
   .exact .inr (.inr (ac1 E))
  .let ⟨R,E⟩:=Gh.gC E
   let ⟨o',ho',K⟩:=hXO b hX
   have:=d.rel.kJ o o' b E K;subst this;obtain hK|hw:=ho'
   .refine ⟨?_,?_⟩
    .rw[aS,aq4];obtain h|h:=dW.1 hK
     .simp_all
     simp_all
    .let ⟨b',hb'⟩:=hKb o hK
     obtain h5|⟨e,x,_,h5,_⟩:=E.2
     .exact (l.rel.box o b (hK3 o hK b h5)).1
     simp_all
   .exact absurd hw (lC R).1
 have akC:∀o∈C++z,dN ow F.aL o=J:=λo ho=>oR (aqY o ho) (agP o ho);have hgB:ad0 (BG (C++z)) g3 {A.base (dN ow F.aL)with bx:=g3.bx}:=by
  refine⟨λo b R m=>?_,λo e x R hx=>?_,λ_ h=>h⟩
  .have hK:=js.1 R
   let ⟨b',hb'⟩:=hKb o hK
   rw[hK3 o hK b' hb']at m;have hbb:b'=b:=jU m;rw[<-hbb];exact(A.gP _).bV o b' (akC o hK) hb'
  .exfalso;have hK:=js.1 R;obtain h|h:=dW.1 hK
   .rw[(l.TX o h).2.2.2 e]at hx;cases hx
   .let ⟨ob1,BR,MG,_⟩:=hkp o h
    let ⟨b',hb'⟩:=hKb o hK
    let ⟨_,k2⟩:=l.rel.arr o e x hx
    cases hoc:(aI s2).ob.get o with
    |none=>
     exfalso;have:s2.ob.get o=Z ob1∨o∈C:=by
      by_cases i:o∈C
      .exact .inr i
      .left
       rw[l.same o (hkw o h),n.same o (iP (S0 (xp hK)) hh.aL) (λhm=>hkw o h (l.uE o hm)),hh.ob o (S0 (xp hK)) i];show(Dj F.ob z).get o=_;rw[tU acY,cn h,BR]
     obtain h6|h6:=this
     .grind[aS]
     .rw[(l.TX o h6).2.2.2 e]at hx;cases hx
    |some obx=>
     have h7:=(k2 obx hoc).oH;have h8:=(l.rel.box o b' (hK3 o hK b' hb')).2.2 obx hoc
     let ⟨_,_,h9⟩:=h8
     rw[h9.BH]at h7;cases h7
 have hD:bq {A.base (dN ow F.aL)with bx:=g3.bx} (aI B) w':=by
  refine⟨hC.aL,hC.ai,λo b h=>?_,λo e x h=>?_,hC.bx,hC.kJ⟩
  .let ⟨k1,k2,k3⟩:=hC.box o b h
   refine⟨k1,k2,λob i=>?_⟩;by_cases hok:o∈z
   .have hK:o∈C++z:=eO _ hok
    let ⟨ob1,BR,MG,hm⟩:=hkp o hok
    have Q8:=i;rw[aS,hBg]at Q8;split at Q8
    .cases Q8
    rename_i hnb;rw[BR]at Q8;simp at Q8;have hm2:gz (dN ow F.aL) ob1=J:=KS (λo ho=>by
     grind[js]) hm
    rw[nY hm2]at Q8;subst Q8;have h6:s2.ob.get o=Z ob1:=by rw[l.same o (hkw o hok),n.same o (iP (S0 (xp hK)) hh.aL) (λhm=>hkw o hok (l.uE o hm)),hh.ob o (S0 (xp hK)) hnb];show(Dj F.ob z).get o=_;rw[tU acY,cn hok,BR]
    let ⟨R,pF⟩:=Gh.A8 (show(A.base (dN ow F.aL)).bV o=Z b from h)
    let ⟨x,h7,h8⟩:=(l.rel.box o b (hK3 o hK b pF)).2.2 (cU ob1) (by rw[aS,h6];rfl)
    have hl:=nK (BG (C++z)) ob1;rw[nY hm]at hl;exact⟨x,h7,h8.left (λt v ht hmt=>ht.on hgB (λ_ _=>rfl) hmt) hl⟩
   .exact k3 ob (by simp_all[aS])
  .let ⟨k1,k2⟩:=hC.arr o e x h
   refine⟨k1,λob i=>?_⟩;by_cases hok:o∈z
   .have h3:=(Gh.A9 (show(A.base (dN ow F.aL)).arr o e=Z x from h)).2
    simp_all
   .exact k2 ob (by simp_all[aS])
 have Zh:=l.alr.owned l.pr.iE;have Zi:∀a∈Bc,∀b,a.at b->X b∨w.heap.size<=b:=λa ha b I=>by
  let ⟨o2,WC,VH⟩:=Zh a ha b I
  obtain⟨o',_,K⟩|h:=p.own o2 b (n.fl▸(l.XY o2 WC).1) VH
  .exact .inl (ac1 K)
  omega
 obtain⟨gF,YX⟩:=vW (a:={tmps:=#[],defers:=[]}) (gb:={A.base (dN ow F.aL)with bx:=g3.bx}) (w:=w') hout (Ag _) l.pr l.at_
  ⟨l.Ip.1,λj o b h1 h2=>hgB.bV o b (js.2 (fh _ (hJ h1))) (l.Ip.2 j o b h1 h2)⟩
  (λo ho e=>by
   simp_all[Gh.base])
  (λa ha b I o E=>by
   have hO0:bG (A.base (dN ow F.aL)) o b:=⟨λhi=>E.1 (Zk b hi),E.2⟩
   let ⟨R,VH⟩:=Gh.gC hO0
   let ⟨o2,WC,hO3⟩:=Zh a ha b I
   by_cases hK:o∈C++z
   .have WE:g3.bV o=Z b:=by
     obtain h5|⟨e,x,_,h5,_⟩:=VH.2
     .grind
     simp_all
    have:=l.rel.kJ o o2 b ⟨(l.rel.box o b WE).1,.inl WE⟩ hO3;subst this
    let ⟨b',hb'⟩:=hKb o hK
    have h6:g'.bV o=Z b':=n.ext.bV o b' (agG o hK b' hb');rw[l.owb o WC]at h6;cases h6
   .obtain hX|h:=Zi a ha b I
    .let ⟨o',ho',K⟩:=hXO b hX
     have:=d.rel.kJ o o' b VH K
     grind[lC]
    .have:=(d.rel.qR VH).1;omega) l.ap (hfE _ _) hD
 have hflX:∀b,b<w.heap.size->(∀o,s.fl<=o->¬bG g o b)->∀o,s.fl<=o->¬bG gh o b:=λb m hn o ho E=>by
  obtain⟨_,_,VH⟩|⟨a,ha,I⟩:=agx E
  .obtain h|h:=d.ext.own o b VH
   .grind
   .omega
  .let ⟨o',ho',K⟩:=DX a ha b I
   obtain h|h:=d.ext.own o' b K
   .exact hn o' (d.XY o' ho').1 h
   .omega
 have akc:∀{o b:Nat},s.fl<=o->bG gh o b->(∃o',s.fl<=o'∧bG g o' b)∨w.heap.size<=b:=λ{o b}ho E=>by
  obtain⟨_,_,VH⟩|⟨a,ha,I⟩:=agx E
  .exact (d.ext.own o b VH).imp (λh=>⟨o,ho,h⟩) id
  .let ⟨o',ho',K⟩:=DX a ha b I
   exact(d.ext.own o' b K).imp (λh=>⟨o',(d.XY o' ho').1,h⟩) id
 have ajF:aP gF w' (low (DM (sV c.rs yr))) v:=by
  obtain⟨vals',rfl,ap6⟩:=Fc ht hr
  let ⟨_,_,q⟩:=gl hS n.rel hr ap6
  obtain⟨rfl,rfl⟩:=SU aeu hr
  let ⟨alr,hH,_⟩:=q g' (aI s') [] n.rel (Ext.refl _ _ _) ⟨rfl,rfl,λo ho=>(by cases ho),λ_ _ _ _ h=>h,λo ho=>(by cases ho)⟩ (λ_ h=>h) (λo ho=>(by cases ho))
  exact zS (xz aeu hH)
 refine⟨_,_,gF,ow,h2,ajF,YX.rel,⟨λo b m=>?_,λo e x hl hx=>?_,λb m=>?_,p.size,λb m hn=>?_,λo b ho E=>?_,λb m=>?_,p.os,p.output⟩,YX.fl.trans (aq3.trans d.fl),YX.lo.trans (aq1.trans d.lo),?_,λo ho=>?_,λo hl ho=>?_,λt v ht hm=>?_,λo ho=>?_,λo ho=>?_,λo ho=>?_⟩
 .rw[YX.bV];exact(A.gP _).bV o b (oR (λhm=>by rw[d.owb o hm]at m;cases m) (by have:=hs.lt m;rw[d.aL];exact this)) (d.ext.bV o b m)
 .have hlt:o<F.aL:=by have:=hs.lt' hx;rw[d.aL];exact this
  rw[YX.arr o (by omega)];exact(A.gP _).arr o e x (oR (λhm=>by have:=(d.XY o hm).2.1;omega) hlt) (d.ext.arr o e x hx)
 .rw[YX.bx];exact Zk b (d.ext.bx b m)
 .exact n.ext.heap b m (by simp_all)
 .obtain E|⟨_,a,ha,I⟩:=YX.own o b E
  .have hO0:bG (A.base (dN ow F.aL)) o b:=⟨λhi=>E.1 (Zk b hi),E.2⟩;exact(d.ext.own o b (Gh.gC hO0).2).imp (λh=>⟨o,ho,h⟩) id
  .let ⟨o2,WC,VH⟩:=Zh a ha b I
   obtain⟨o',ho',K⟩|h:=p.own o2 b (n.fl▸(l.XY o2 WC).1) VH
   .exact akc (hfl▸ho') K
   omega
 .rw[YX.bx]at m;obtain h|h|⟨o,ho,E⟩:=p.rO b m
  .rw[hgi]at h;exact d.ext.rO b h
  .omega
  .obtain h|h:=akc (hfl▸ho) E
   .exact .inr (.inr h)
   omega
 .have h3:B.aL<=s3.aL:=YX.aL;rw[hBn,d.aL]at h3;exact h3
 .exact eO _ (eO _ (eO _ (d.uE o ho)))
 .simp at ho;rw[YX.ob o (by rw[hBn,d.aL];exact hl) ho.2.1,hBg,bJ ho.2.1,<-d.same o ho.2.2.2];cases hg:F.ob.get o with
  |none=>rfl|some ob=>
   grind[nY,Tr.qe]
 .have h3:aP A w t v:=ht.ext d.ext hs.bx;have hon:ad0 ow.contains A {A.base (dN ow F.aL)with bx:=g3.bx}:=by
   refine⟨λo b R m=>?_,λo e x R hx=>?_,Zk⟩
   .exact (A.gP _).bV o b (oR (by grind) (d.rel.lt m)) m
   .exact (A.gP _).arr o e x (oR (by grind) (d.rel.lt' hx)) hx
  exact(h3.on hon (λb m=>n.ext.heap b (d.rel.bx b m) λo _ E=>hXi b (ac1 E) m) (by rw[aci];exact hm)).le YX.le
 .simp_all
 .exact eO _ (by rw[d.dr];exact ho)
 simp_all
end
end
section
structure fq(E:eT S):Prop where
 sg:fO S
 Uw:Bg E.T.E
 ty:RQ S E.T
 name:∀f fn,E.T.E.TC f=Z fn->(fn.name== "runtime.NumGoroutine")=J
 ng:∀f,E.T.E.IK f=Y
 x:XOk S E.T
 IK:∀f c,E.IK f=Z c->bH E.T.E.P f c
variable {E:eT S}{args:List (V S)}
def fq.env(h:fq E):PF E.T.E:={h.Uw with
 name:=h.name
 IK:=λf c a=>by rw[h.ng]at a;cases a}
def xG(s:bu S)(g:Gh)(w:World){ω:Type}(k kp:V S->bu S->O ω)(r:ω):Ending->World->Prop
 |.returned v,b=>∃t c d,k t c=Z r∧aP d b (low t) v∧cR [] s g w c d b|.panicked chain,b=>∃v t c d,chain=[{v,recovered:=J}]∧kp t c=Z r∧aP d b (low t) v∧cR [] s g w c d b|.outgrown,_=>False
structure gA(P:Program)(call:fU S):Prop where
 fn:∀(f:FuncId)(args:List (V S))(s:bu S){ω:Type}(k kp:V S->bu S->Option ω)(r:ω),call (.fn f) args s k kp=Z r->∀(g:Gh)(w:World)(vs:Array Value),bq g (aI s) w->PW (aP g w) (bz args) vs.toList->
  lN P f∧Calls P f vs w (xG s g w k kp r)
 jn:al8 P call
 yl:∀(o:Nat)(args:List (V S))(s:bu S){ω:Type}(k kp:V S->bu S->Option ω)(r:ω),call (.yl o) args s k kp=Z r->∀(g:Gh)(w:World)(vs:Array Value)(b:Nat),bq g (aI s) w->PW (aP g w) (bz args) vs.toList->g.bV o=Z b->
  ∃l:Loop,w.heap[b]?=Z (.loop l)∧vs.size=l.params.size∧∀rr n,RoundIn (WR rr) n P b l.fn ((l.params.zip vs).foldl (λtmps(t,a)=>tmps.setIfInBounds t a) l.tmps) l.assign l.body w (xG s g w k kp r)
theorem nZ{α:Type}{c:Bool}{x:O α}{r:α}(h:aK c x=Z r):c=W∧x=Z r:=by
 unfold aK at h
 grind
theorem sv{α:Type}{c:Bool}{x y:O α}{r:α}(h:au c x y=Z r):(c=W∧x=Z r)∨(c=J∧y=Z r):=ah h
def rf{f:V S}{as:L (V S)}{id:FuncId}(h:oZ f args=Z (id,as)):xA (low f) (bz args)=Z (id,bz as):=by
 unfold oZ at h;split at h
 .obtain ⟨rfl,rfl⟩:=h;simp[low,xA,j3]
 .cases h
section
variable {g:Gh}{w:World}
theorem gN{p:V S->Bool}{q:T->Bool}(a:∀v,q (low v)=p v)(b:∀o e,p (.sh o e)=p (.sh o 0)):∀l:L (r7 S),iz q (l.map lY) ((l.map (eJ p)).map lY)
 |[]=>.nil|.marks o::l=>by have d:=gN a b l;simp only[kW,eJ];cases c:p (.sh o 0)with|true=>exact .afK o d|false=>exact .marks o (λe=>((a (.sh o e)).trans (b o e)).trans c) d
 |.kg::l=>.kg (gN a b l)|.call f args::l=>.cons (by
   simp[eJ];cases c:p f||args.any p with
   |true=>exact .inl ⟨rfl,rfl⟩|false=>
    simp only[Ad,List.any_eq_false]at c;refine .inr ⟨rfl,by simp_all,λt g=>?_⟩;rw[gH,nO]at g
    grind) (gN a b l)
 |.mark o::l=>.cons (by
   simp[eJ];cases c:p (.ptr o 0)with
   |true=>exact .inl ⟨rfl,rfl⟩|false=>exact .inr ⟨rfl,(a (.ptr o 0)).trans c⟩) (gN a b l)
 |.bad::l=>.cons (.inr ⟨rfl,trivial⟩) (gN a b l)
theorem nH{ow:L Nat}{fr:bU S}{a:Act}{g':Gh}{w':World}{s s':bu S}(hf:cL g (bB fr) a w)(h:cR ow s g w s' g' w'):cL g' (bB (dy ow fr)) a w':=by
 refine⟨?_,?_,λk t r=>?_⟩
 .cases ow<;>exact hf.size
 .cases ow with
  |nil=>
   have i:∀t:T,dw [] t=J:=by
    intro t
    induction t using T.rec (motive_2:=λl=>iF [] l=J)with|fn f a b d j=>simp[dw,d,j]|cT t v e=>simp[dw,e]|agg p e=>simp[dw,e]|gM p e=>simp[dw,e]|gd c v e=>simp[dw,e]|nil=>rfl|cons a l d m=>simp[iF,d,m]|_=>simp[dw]
   refine hf.df.imp (λt v x=>h.tr t v x (i t)) λo b y=>?_;have:=h.tr _ _ (.ptr o 0 b y) (i _);cases this with|ptr _ _ _ q=>exact q
  |cons o ow=>exact(gN (λv=>kE _ v) (λ_ _=>rfl) fr.df).rel h.tr hf.df
 .rw[bT,fV]at r;obtain⟨v,z,rfl⟩:=r;have n:fr.get k=Z v∧dw ow (low v)=J:=by
   cases ow with
   |nil=>
    refine⟨z,?_⟩;have:∀t:T,dw [] t=J:=by
     intro t;have key:(∀t:T,dw [] t=J):=by
      intro t
      induction t using T.rec (motive_2:=λl=>iF [] l=J)with|fn f a b d j=>simp[dw,d,j]|cT t v e=>simp[dw,e]|agg p e=>simp[dw,e]|gM p e=>simp[dw,e]|gd c v e=>simp[dw,e]|nil=>rfl|cons a l d m=>simp[iF,d,m]|_=>simp[dw]
     exact key t
    exact this _
   |cons o ow=>
    grind[dy,bU.get,Tr.nT,Option.filter_eq_some_iff,kE]
  let ⟨u,A,B⟩:=hf.tm k (low v) (by rw[bT,n.1];rfl)
  exact⟨u,A,h.tr _ _ B n.2⟩
theorem Tc{E:eT S}(b:fq E){fr:bU S}{s s':bu S}{a:Act}(hf:cL g (bB fr) a w)(hs:bq g (aI s) w)(o:Oper){c:Bool}{t:V S}(h:Al E.T fr s o.op=Z (c,t,s'))(e:c=W) :
  ∃v w' g',((execOp a.eval o).run E.T.E.P w=.ok (.value v) w'∨((execOp a.eval o).run E.T.E.P w=.ok .skip w'∧v=undef))∧aP g' w' (low t) v∧cR [] s g w s' g' w':=by
 unfold Al at h;split at h
 .rename_i r d;cases h;exact ab5 b.sg b.Uw b.ty hf hs o d e
 .split at h
  .rename_i d;cases h
   let ⟨p,f,j⟩:=NL b.sg b.ty d e
   let ⟨⟨v,w',g',k,i,l,m⟩,h1,h2,h3⟩:=nc b.Uw hf hs o f j
   exact⟨v,w',g',k,m,cR.lT hs i l h1 h2 h3 (X2 d)⟩
  .exact ab3 b.sg b.Uw b.ty b.x hf hs o h e
def Wz(s:bu S)(g:Gh)(w:World){ω:Type}(k:V S->bu S->L Nat->O ω)(kp:V S->bu S->O ω)(r:ω):Ending->World->Prop
 |.returned v,b=>∃t c d e,k t c e=Z r∧aP d b (low t) v∧cR e s g w c d b|.panicked chain,b=>∃v t c d,chain=[{v,recovered:=J}]∧kp t c=Z r∧aP d b (low t) v∧cR [] s g w c d b|.outgrown,_=>False
def AT(l:fq E){call:fU S}(b:gA E.T.E.P call){s:bu S}(hs:bq g (aI s) w){f:FuncId}{ω:Type}{kp:V S->bu S->O ω}{k:V S->bu S->L Nat->O ω}{r:ω}
  (h:uc E call s f args kp k=Z r) {vs:Array Value} (c:PW (aP g w) (bz args) vs.toList):lN E.T.E.P f∧Calls E.T.E.P f vs w (Wz s g w k kp r):=by
 unfold uc at h;split at h
 .rename_i i
  let ⟨a,j⟩:=Ds l.sg (l.IK _ _ i) hs c h
  refine⟨a,j.mono λe m d=>?_⟩;cases e with|returned v=>exact d|panicked n=>exact d|outgrown=>exact d.elim
 split at h
 .let ⟨a,j⟩:=VU l.sg b.jn hs h c
  refine⟨a,j.mono λe m d=>?_⟩;cases e with|returned v=>exact d|panicked n=>exact d.elim|outgrown=>exact d.elim
 .let ⟨a,j⟩:=b.fn _ _ _ _ _ _ h g w _ hs c
  refine⟨a,j.mono λe m d=>?_⟩;cases e with
  |returned v=>
   let ⟨t,o,p,h1,h2,h3⟩:=d
   exact⟨t,o,p,[],h1,h2,h3⟩
  |panicked n=>exact d|outgrown=>exact d.elim
theorem Dr{E:eT S}{call:fU S}{s:bu S}{m:String}{args:L (V S)}{n:Nat}{x:den S.A (.cT n)}{ω:Type}{kp:V S->bu S->O ω}{k:V S->bu S->L Nat->O ω}{r:ω}:∀{l:L (TypeId×Ty)}{j:Nat},
  ZA E call s m args n x kp k l j=Z r->∃i t f,jD (S.alts n) i (S.tV n x)=W∧((nth (S.alts n) i).elim 0 (·.1))=t∧E.T.KX t m=Z f∧uc E call s f (.ty (mU (S.alts n) i) (j8 S.zero (S.alts n) i (S.tV n x))::args) kp k=Z r
 |[],j,h=>by cases h
 |p::l,j,h=>by
  obtain⟨a,h⟩|⟨_,h⟩:=sv h
  .split at h
   .obtain ⟨b,h⟩|⟨_,h⟩:=ah h
    .grind[Nat.eq_of_beq_eq_true]
    .cases h
   .cases h
  .exact Dr h
def GU:∀(l:L (TypeId×Ty))(i:Nat)(x:xN S.A l),jD l i x=W->ud S l x=Z ((nth l i).elim 0 (·.1),enc S (mU l i) (j8 S.zero l i x))
 |[],_,_,h=>by cases h
 |p::l,0,.inl y,_=>rfl|p::l,0,.inr y,h=>by cases h
 |p::l,i+1,.inl y,h=>by cases h
 |p::l,i+1,.inr y,h=>GU l i y h
theorem Ix{P:Program}{o:Oper}{c:Call}(e:o.op=.call c){d:Operand}(f:c.callee=.value d){a:Act}{b:Nat}(g:a.eval d=.func (.yield b) #[] #[]){w:World}{l:Loop}(hl:w.heap[b]?=Z (.loop l))(hs:(c.args.map a.eval).size=l.params.size) :
  (execOp a.eval o).run P w=.ok (.round b l.fn ((l.params.zip (c.args.map a.eval)).foldl (λtmps(t,a)=>tmps.setIfInBounds t a) l.tmps) l.assign l.body) w:=by
 grind[execOp,resolve,Deferred.ofValue,invoke,run_yield]
theorem IM{E:eT S}(I:fq E){call:fU S}(AG:gA E.T.E.P call){fr:bU S}{s:bu S}{a:Act}(hf:cL g (bB fr) a w)(hs:bq g (aI s) w){o:Oper}{ω:Type}{kp:V S->bu S->O ω}{k:V S->bu S->L Nat->O ω}{r:ω}
  (h:tZ E call o fr s kp k=Z r) {K:Act->World->Prop} {Q:Exit->Act->World->Prop} (hK:∀t s' g' ow v w',k t s' ow=Z r->cR ow s g w s' g' w'->aP g' w' (low t) v->K (a.put o.dst v) w')
  (hP:∀t s' g' v w',kp t s'=Z r->cR [] s g w s' g' w'->aP g' w' (low t) v->Q (.panic [{v,recovered:=J}]) a w') (hny:∀c fv oo,o.op=.call c->c.callee=.value fv->cA fr fv≠Z (.rB oo)) :
  o.wp E.T.E.P a w K Q∨(o.asks E.T.E.P a w∧LetsOut Q):=by
 have fin:∀{t:V S}{s':bu S}{v:Value}{w':World}{g':Gh},k t s' []=Z r->((execOp a.eval o).run E.T.E.P w=.ok (.value v) w'∨((execOp a.eval o).run E.T.E.P w=.ok .skip w'∧v=undef))->aP g' w' (low t) v->cR [] s g w s' g' w'->o.wp E.T.E.P a w K Q:=by
  intro t s' v w' g' hk R ht b;unfold Oper.wp;obtain R|⟨R,rfl⟩:=R
  .rw[R];exact hK t s' g' [] v w' hk b ht
  .rw[R];exact hK t s' g' [] undef w' hk b ht
 have plain:(match iS E.T fr s o.op with
   |some (Wh,p,d,s')=>yA (λv s=>k v s []) (aK p (k d s' [])) Wh|none=>match Al E.T fr s o.op with
    |none=>Y|some (p,t,s')=>aK p (k t s' []))=Z r->o.wp E.T.E.P a w K Q:=by
  intro h;split at h
  .rename_i p d s' A
   let ⟨t,s1,v,w',g',h1,h2,h3,h4,_⟩:=Td I.Uw I.x hf hs o A (X:=λv s=>k v s []) h
   grind
  grind[nZ,Tc]
 have called:∀{f:FuncId}{args:L (V S)}{vs:Array Value},uc E call s f args kp k=Z r->PW (aP g w) (bz args) vs.toList->(lN E.T.E.P f->(execOp a.eval o).run E.T.E.P w=.ok (.enter f vs) w)->o.wp E.T.E.P a w K Q:=by
  intro f args vs h C hrun
  let ⟨Oi,hc⟩:=AT I AG hs h C
  unfold Oper.wp;rw[hrun Oi];refine hc.mono λe w' he=>?_;cases e with
  |returned v=>
   let ⟨t,s',g',ow,h1,h2,h3⟩:=he
   grind
  |panicked ch=>
   obtain⟨v,t,s',g',rfl,h1,h2,h3⟩:=he
   grind
  |outgrown=>exact he.elim
 unfold tZ at h;split at h
 .rename_i c A;split at h
  .cases h
  .rename_i args B;have F:=ia B;have oe:=fQ hf F;split at h
   .rename_i hb;split at h
    .cases h
    .rename_i t s' P
     let ⟨hp,hk⟩:=nZ h
     unfold kZ at P;split at P
     .rename_i r0 h0;cases P;exact Hz I.sg I.Uw I.env I.ty hf hs A hb B h0 hp (λg' v w' b ht=>hK t s' g' [] v w' hk b ht)
     split at P
     .rename_i h0;cases P
      let ⟨q,hq,hqp⟩:=yz I.sg I.ty h0 hp
      refine yx I.env hf hs A hb F hq hqp (k:=λt' st'=>t'=low t∧st'=aI s') ⟨rfl,rfl⟩ (λt' st' g' v w' he b ht=>?_);obtain⟨rfl,rfl⟩:=he;exact hK t s' g' [] v w' hk (cR.lT hs b.rel b.ext b.fl b.lo b.aL (IU h0)) ht
     .obtain ⟨rfl,v,R,ht⟩:=A5 I.x hs hf A hb B P
      grind[cR.refl]
   .rename_i fv hfv;split at h
    .simp_all[aiy]
    split at h
    .cases h
    .rename_i f args' hfa
     left
     simp[vF]at hfa
     let ⟨tf,htf,Lt⟩:=hfa
     have YS:=bQ hf (cr htf);have z:=rf Lt;unfold xA at z;split at z
     .rename_i Od
      simp only[gV,fP]at z;obtain⟨rfl,agM⟩:=z;rw[Od]at YS;generalize hvf:a.eval fv=vf at YS;cases YS with
      |fn _ _ _ va vc l1 l2 r1 r2=>
      have C:PW (aP g w) (bz args') (va++c.args.map a.eval++vc).toList:=by rw[<-agM];simp only[US,Array.toList_map];exact PW.append (PW.append ⟨by simpa using l1,λj x y h1 h2=>r1 j x y h1 (by simpa using h2)⟩ oe) ⟨by simpa using l2,λj x y h1 h2=>r2 j x y h1 (by simpa using h2)⟩
      grind[z8]
     .cases z
   .rename_i x m hxm;have inv:∀{tt:TypeId}{f:FuncId}{tv:V S}{u:Value},a.eval x=.iface tt u->aP g w (low tv) u->E.T.KX tt m=Z f->uc E call s f (tv::args) kp k=Z r->o.wp E.T.E.P a w K Q:=by
     intro tt f tv u hv hu hm h;have C:PW (aP g w) (bz (tv::args)) (#[u]++c.args.map a.eval).toList:=by
      simp only[US,Array.toList_map];exact PW.append (l:=[low tv]) (m:=[u]) ⟨rfl,λj x y h1 h2=>by
       grind⟩ oe
     exact called h C (λOi=>M6 I.x A hxm hv hm Oi)
    split at h
    .rename_i tt tv hx;split at h
     .rename_i f hm;have R:=bQ hf (cr hx);generalize hv:a.eval x=v at R;cases R with|cT _ _ u hu=>grind
     .cases h
    .rename_i n y hx
     let ⟨i,t,f,h1,h2,h3,h4⟩:=Dr h
     have he:=GU _ _ _ h1;obtain⟨he',_⟩|⟨t',d,u,he',hv,hd⟩:=Ey I.sg (show aP g w (e9 S (.cT n) y) (a.eval x)from dg hf hx)
     .simp_all
     .rw[he']at he;simp at he;obtain⟨ht,rfl⟩:=he;rw[h2]at ht;subst ht;exact .inl (inv (tv:=.ty (mU (S.alts n) i) (j8 S.zero (S.alts n) i (S.tV n y))) hv (yR hd) h3 h4)
    .cases h
 .rename_i x A;split at h
  .rename_i tt tv hx
   left
   have R:=bQ hf (cr hx);unfold Oper.wp;generalize hv:a.eval x=v at R;cases R with
   |cT _ _ u hu=>
   have:(execOp a.eval o).run E.T.E.P w=.halt (.panic (.iface tt u)) w:=by
    simp_all[execOp,Instr.panic]
   rw[this];exact hP _ _ g _ w h (cR.refl hs) (by exact .cT _ _ _ hu)
  .cases h
 grind
theorem AQ{E:eT S}(F:fq E){call:fU S}(d:gA E.T.E.P call){fr:bU S}{s:bu S}{a:Act}(hf:cL g (bB fr) a w)(hs:bq g (aI s) w){o:Oper}{ω:Type}{kp:V S->bu S->O ω}{k:V S->bu S->L Nat->O ω}{r:ω}
  (h:tZ E call o fr s kp k=Z r) {K:Act->World->Prop} {Q:Exit->Act->World->Prop} (I:∀t s' g' ow v w',k t s' ow=Z r->cR ow s g w s' g' w'->aP g' w' (low t) v->K (a.put o.dst v) w')
  (P:∀t s' g' v w',kp t s'=Z r->cR [] s g w s' g' w'->aP g' w' (low t) v->Q (.panic [{v,recovered:=J}]) a w') {rr:O Nat} (x:rr≠Y->∀c,o.op≠.defer c) :
  OpR rr E.T.E.P o a w K Q:=by
 by_cases C:∃c j u,o.op=.call c∧c.callee=.value j∧cA fr j=Z (.rB u);rotate_left
 .exact .of_wp x (IM F d hf hs h I P λc j u h1 h2 h3=>C ⟨c,j,u,h1,h2,h3⟩)
 let ⟨c,j,u,m,n,p⟩:=C
 unfold tZ at h;rw[m]at h;dsimp only at h;split at h
 .cases h
 rename_i args i;rw[n]at h;dsimp only at h;rw[p]at h;have y:=fQ hf (ia i);have q:=bQ hf (cr p);generalize z:a.eval j=vf at q;cases q with
 |rB _ b R=>
 let ⟨l,hl,A,f⟩:=d.yl _ _ _ _ _ _ h g w (c.args.map a.eval) b hs (by simpa using y) R
 left
 rw[Oper.semAt_eq _ _ _ (by simp_all),Ix m n z hl A];refine⟨λh=>by simp[Fence.wide]at h,(f rr _).mono λe w' B=>?_⟩;cases e with
 |returned v=>
  let ⟨t,s',g',h1,h2,h3⟩:=B
  grind
 |panicked ch=>
  obtain⟨v,t,s',g',rfl,h1,h2,h3⟩:=B
  grind
 |outgrown=>exact B.elim
mutual
theorem sL:∀(s:bu S)(t:Ty)(v:V S){x:den S.A t}{os:L Nat},xK v=W->bW s t v=Z (x,os)->os=[]
 |s,t,.ty u y,x,os,_,h=>by
  grind[bW]
 |s,t,.agg c,x,os,a,h=>by
  cases t with
  |st n=>
   simp[bW]at h;split at h
   .rename_i e f;obtain⟨_,rfl⟩:=h;exact Jy s _ c a f
   .cases h
  |int=>simp[bW]at h|bool=>simp[bW]at h|str=>simp[bW]at h|sl=>simp[bW]at h|cT=>simp[bW]at h
 |s,t,.kb b,x,os,_,h=>by
  cases t<;>simp[bW]at h
  simp_all
 |s,t,.kn k n,x,os,_,h=>by
  cases t<;>simp only[bW]at h<;>try(cases h;done)
  grind
 |s,t,.emp,x,os,_,h=>by
  cases t<;>simp[bW]at h
  simp_all
 |s,t,.kq n u l,x,os,_,h=>by
  cases t<;>simp only[bW]at h<;>try(cases h;done)
  grind
 |s,t,.oY n u y,x,os,_,h=>by
  cases t<;>simp only[bW]at h<;>try(cases h;done)
  grind
 |s,t,.rM _ _ _ _,x,os,a,_=>by simp[xK]at a
 |s,t,.sh _ _,x,os,a,_=>by simp[xK]at a
 |s,t,.dat d,x,os,_,h=>by
  cases t with
  |cT n=>
   cases d with
   |lit v=>cases v<;>simp[bW]at h;simp_all
   |_=>simp[bW]at h
  |_=>simp[bW]at h
 |s,t,.mp _,_,_,_,h=>by cases t<;>simp[bW]at h
 |s,t,.rB _,_,_,_,h=>by cases t<;>simp[bW]at h
 |s,t,.s7 _,_,_,_,h=>by cases t<;>simp[bW]at h
 |s,t,.ub _,_,_,_,h=>by cases t<;>simp[bW]at h
 |s,t,.ptr _ _,_,_,_,h=>by cases t<;>simp[bW]at h
 |s,t,.nJ _ _ _,_,_,_,h=>by cases t<;>simp[bW]at h
 |s,t,.lG _ _ _ _,_,_,_,h=>by cases t<;>simp[bW]at h
 |s,t,.fn _ _ _,_,_,_,h=>by cases t<;>simp[bW]at h
 |s,t,.cT u v,x,os,a,h=>by
  cases t<;>simp only[bW]at h<;>try(cases h;done)
  split at h
  .split at h
   .rename_i g;obtain⟨_,rfl⟩:=h;exact sL s _ v a g
   .cases h
  .cases h
 |s,t,.gM _,_,_,_,h=>by cases t<;>simp[bW]at h
 |s,t,.gd _ _,_,_,_,h=>by cases t<;>simp[bW]at h
theorem Jy:∀(s:bu S)(ts:L Ty)(l:L (V S)){h:mG S.A ts}{os:L Nat},jP l=W->oC s ts l=Z (h,os)->os=[]
 |s,[],[],x,os,_,h=>by grind[oC]
 |s,t::ts,v::l,x,os,a,h=>by
  simp[oC]at h;split at h
  .rename_i b c;obtain⟨_,rfl⟩:=h;simp[jP,eK]at a;rw[sL s t v a.1 b,Jy s ts l a.2 c];rfl
  .cases h
 |s,[],_::_,_,_,_,h=>by simp[oC]at h
 |s,_::_,[],_,_,_,h=>by simp[oC]at h
end
end
end
section
def p7:Op->Bool
 |.alloc _|.box ..|.store ..|.buildSlice ..|.slice ..|.makeMap ..|.mapUpdate ..|.insert ..|.makeSlice ..|.range ..|.next ..|.defer ..=>W|_=>J
theorem QF{E:gi}{fr:bU S}{s s':bu S}{o:Op}{c:Bool}{v:V S}(h:cD E fr s o=Z (c,v,s'))(d:p7 o=J):s'=s:=by
 cases o with
 |alloc=>cases d
 |box=>cases d
 |store=>cases d
 |buildSlice=>cases d
 |slice=>cases d
 |move x=>simp only[cD,fV,fP]at h;grind|assign x=>simp only[cD,fV,fP]at h;grind|pick x y z=>
  simp[cD]at h;split at h
  .simp only[fV,fP]at h;grind
  .cases h
 |build t e=>
  simp[cD]at h;split at h
  .split at h
   .simp only[fV,fP]at h;grind
   .cases h
  .cases h
 |load t x=>
  simp[cD]at h;split at h
  .unfold yj at h;split at h
   .split at h
    .obtain ⟨_,h⟩|⟨_,h⟩:=ah h
     .simp only[fV,fP]at h;grind
     .cases h
    .cases h
   .simp only[fV,fP]at h;grind
   .split at h
    .simp at h;grind
    .cases h
   .cases h
  .cases h
 |nilCheck x=>
  simp[cD]at h
  grind
 |binOp op t x y u=>
  simp[cD]at h;split at h
  .simp only[fV,fP]at h;grind
  .cases h
 |unOp op t x=>
  simp[cD]at h;split at h
  .simp only[fV,fP]at h;grind
  .cases h
 |convert t u x=>
  grind[cD,Cj]
 |makeInterface t x=>
  simp[cD]at h
  grind
 |makeFunc f a b=>
  simp[cD]at h
  grind
 |extract x k=>
  grind[cD,tY]
 |fieldAddr t x k=>
  grind[cD,ql]
 |field t x k=>
  simp[cD]at h;split at h
  .unfold BZ at h;split at h
   .split at h
    .obtain ⟨_,h⟩|⟨_,h⟩:=ah h
     .simp only[fV,fP]at h;grind
     .cases h
    .cases h
   .cases h
  .cases h
 |indexAddr t x y=>
  simp[cD]at h;split at h
  .unfold j5 at h
   grind
  .cases h
 |index t x y=>
  simp[cD]at h;split at h
  .unfold BO at h
   grind
  .cases h
 |typeAssert x t u ok=>
  grind[cD,wD]
 |_=>simp[cD]at h
theorem U6{E:gi}{fr:bU S}{s s':bu S}{o:Op}{c:Bool}{v:V S}(h:uM E fr s o=Z (c,v,s'))(a:p7 o=J):s'=s:=by
 unfold uM at h;split at h
 .cases a
 .grind
 .cases a
 .cases a
 .cases a
 .cases a
 .grind
 .grind
 .grind
 .grind
 .grind
 .split at h;rotate_left
  .cases h
  split at h;rotate_left
  .cases h
  simp only[fV,fP]at h
  grind
 .cases h
theorem U9{E:gi}{fr:bU S}{s s':bu S}{o:Op}{c:Bool}{v:V S}(h:DP E fr s o=Z (c,v,s'))(a:p7 o=J):s'=s:=by
 unfold DP at h;split at h
 .grind
 .split at h
  .split at h
   .split at h
    .obtain ⟨_,h⟩|⟨_,h⟩:=ah h
     .obtain ⟨_,h⟩|⟨_,h⟩:=ah h
      .grind
      .obtain ⟨_,h⟩|⟨_,h⟩:=ah h
       .simp at h;grind
       .cases h
     .cases h
    .cases h
   .cases h
  .cases h
 .cases a
 .cases a
 .cases h
theorem U8{E:gi}{fr:bU S}{s s':bu S}{o:Op}{c:Bool}{v:V S}(h:Al E fr s o=Z (c,v,s'))(a:p7 o=J):s'=s:=by
 grind[Al,U9,QF,U6]
theorem Ep{E:gi}{fr:bU S}{s:bu S}{o:Op}(h:uM E fr s o=Y)(hn:DP E fr s o=Y):Al E fr s o=cD E fr s o:=by
 grind[Al]
def T3{ω:Type}(k:V S->O ω)(d:O ω):∀l:L (Bool×V S×bu S),wE k d l=yA (λv _=>k v) d l
 |[]=>rfl|p::l=>by simp[wE,yA,T3 k d l]
theorem FM{l:L (Nat×V S)}(h:jP (l.map (·.2))=W):∀p∈l,xK p.2=W:=by
 induction l with
 |nil=>simp_all|cons a l b=>
  simp[kW,jP,eK]at h
  grind
theorem Cf{s:bu S}{e:Ty}:∀{ps:L (Nat×V S)}{es r:L (den S.A e)}{os:L Nat},(∀p∈ps,xK p.2=W)->oh s e es ps=Z (r,os)->os=[]
 |[],es,r,os,_,h=>by grind[oh]
 |(k,v)::ps,es,r,os,a,h=>by
  simp[oh]at h;split at h
  .cases h
  .rename_i b;obtain⟨_,h⟩|⟨_,h⟩:=ah h
   .split at h
    .rename_i c;obtain⟨_,rfl⟩:=h;rw[sL s e v (a _ fA) b,Cf (λp d=>a p (iB _ d)) c];rfl
    .cases h
   .cases h
theorem Co{E:gi}{fr:bU S}{s s':bu S}{t:TypeId}{n:Nat}{ps:Array (Nat×Operand)}{l:L (Nat×V S)}{c:Bool}{v:V S}(hl:ja fr ps.toList=Z l)(hn:jP (l.map (·.2))=W)
  (h:Al E fr s (.buildSlice t n ps)=Z (c,v,s')):s'=s:=by
 cases a:DP E fr s (.buildSlice t n ps)with
 |some r=>
  simp[Al,a,gV]at h;simp[DP]at a;split at a
  .rename_i b;split at a
   .rename_i i j f _ _ g;split at a
    .split at a
     .obtain ⟨_,a⟩|⟨_,a⟩:=ah a
      .split at a
       .rename_i os k;have d:l=[(0,.agg f)]:=by
         grind[ja,cA]
        subst d;simp[kW,Fs,jP,Ab]at hn
        grind[sL,dX]
       .cases a
      .cases a
     .cases a
    .cases a
   .cases a
  .grind
  .cases a
 |none=>
 rw[Ep rfl a]at h;simp only[cD]at h;split at h
 .rename_i _ _ b;rw[hl]at b;cases b;split at h
  .obtain ⟨_,h⟩|⟨_,h⟩:=ah h
   .split at h
    .rename_i e;have:=Cf (FM hn) e
     grind[dX]
    .cases h
   .cases h
  .cases h
 .cases h
theorem MW{E:gi}{fr:bU S}{s s':bu S}{t:TypeId}{x:Operand}{lo b d:O Operand}{u:V S}{c:Bool}{v:V S}(hl:cA fr x=Z u)(hn:xK u=W)
  (h:Al E fr s (.slice t x lo b d)=Z (c,v,s')):s'=s:=by
 rw[Ep rfl rfl]at h;simp[cD]at h;split at h
 .rename_i a _ _ _;rw[hl]at a;cases a;obtain rfl|h:=EX h
  .rfl
  .have:NG u=[]:=by cases u<;>first|rfl|simp[xK]at hn
   grind[dX]
 .cases h
theorem CZ{s:bu S}:∀{ps:L Pk}{l:L (V S)}{x:fX S.A ps}{fz ow bs:L Nat},cm ps=W->jP l=W->eL s ps l Y=Z (x,fz,ow,bs)->fz=[]∧ow=[]∧bs=[]
 |[],[],x,fz,ow,bs,_,_,h=>by
  grind[eL]
 |.one (.dat t)::ps,v::l,x,fz,ow,bs,a,c,h=>by
  simp[eL]at h;simp[jP,eK]at c;split at h
  .rename_i b d;obtain⟨_,rfl,rfl,rfl⟩:=h;obtain⟨rfl,rfl,rfl⟩:=CZ (by simpa[cm]using a) c.2 d;simp[oF]at b;split at b
   .rename_i e;obtain⟨_,rfl,rfl⟩:=b;rw[sL s t v c.1 e]
    simp_all
   .cases b
  .cases h
 |.one (.own _)::_,_,_,_,_,_,a,_,_=>by simp[cm]at a
 |.one (.j0 ..)::_,_,_,_,_,_,a,_,_=>by simp[cm]at a
 |.one (.nil _)::_,_,_,_,_,_,a,_,_=>by simp[cm]at a
 |.one (.ptr _)::_,_,_,_,_,_,a,_,_=>by simp[cm]at a
 |.box _::_,_,_,_,_,_,a,_,_=>by simp[cm]at a
 |.hid _::_,_,_,_,_,_,a,_,_=>by simp[cm]at a
 |[],_::_,_,_,_,_,_,_,h=>by simp[eL]at h
 |.one _::_,[],_,_,_,_,_,_,h=>by simp[eL]at h
def Fx{s:bu S}:∀{ps:L Pk}(r:iw S.A ps),cm ps=W->lQ s ps [] r=Z s
 |[],_,_=>rfl|.one (.dat t)::ps,r,h=>by exact Fx (ps:=ps) r (by simpa[cm]using h)
 |.one (.own _)::_,_,a=>by simp[cm]at a
 |.one (.j0 ..)::_,_,a=>by simp[cm]at a
 |.one (.nil _)::_,_,a=>by simp[cm]at a
 |.one (.ptr _)::_,_,a=>by simp[cm]at a
 |.box _::_,_,a=>by simp[cm]at a
 |.hid _::_,_,a=>by simp[cm]at a
def MM{s:bu S}:∀{cs:L Ck}(x:gr S.A cs),jK cs=W->ig s cs x=(sV cs x,s)
 |[],_,_=>rfl|.dat t::cs,x,h=>by simp only[ig,vw,sV];rw[MM (cs:=cs) x.2 (by simpa[jK]using h)]
 |.own _::_,_,h=>by simp[jK]at h
 |.j0 ..::_,_,h=>by simp[jK]at h
 |.nil _::_,_,h=>by simp[jK]at h
 |.ptr _::_,_,h=>by simp[jK]at h
def GA:∀{ps:L Pk},cm ps=W->Ze ps=J
 |[],_=>rfl|.one (.dat t)::ps,h=>GA (ps:=ps) (by simpa[cm]using h)
 |.one (.own _)::_,a=>by simp[cm]at a
 |.one (.j0 ..)::_,a=>by simp[cm]at a
 |.one (.nil _)::_,a=>by simp[cm]at a
 |.one (.ptr _)::_,a=>by simp[cm]at a
 |.box _::_,a=>by simp[cm]at a
 |.hid _::_,a=>by simp[cm]at a
variable {s:bu S}{args:List (V S)}
def OB(hn:s.aL<=bC){c:me S}(h1:cm c.ps=W)(h2:jK c.rs=W)(h3:jP args=W){x:fX S.A c.ps}{fz ow bs:L Nat}(b:eL s c.ps args Y=Z (x,fz,ow,bs))
  {d:RT c.pn (gr S.A c.rs×iw S.A c.ps) (den S.A S.pt×iw S.A c.ps)} {r:gr S.A c.rs×iw S.A c.ps} (f:c.F x=Z d) (g:RT.res c.pn d=.ok r):OD s c args (λ_ _=>Y) (λt s' ow=>Z (t,s',ow))=Z (DM (sV c.rs r.1),s,[]):=by
 obtain⟨rfl,rfl,rfl⟩:=CZ h1 h3 b;have a:Nl s.aL bC=W:=Xv hn;unfold OD;rw[GA h1];simp only[ez];rw[b];simp only[dX];cases Yt c with
 |true=>simp[eP,f,ai,g]|false=>
 simp[ez,rL,Cr,List.all_nil,Nj,eP,f,ai,KM,g];have e:yw [] (forget [] s)=s:=rfl;rw[e,Fx _ h1];simp[MM _ h2,a,eP]
def Zp(g:O Bool):Prop:=g=Y∨g=Z W
def JM{α:Type}{g:O Bool}{p:Bool}{x:O α}{r:α}(a:Zp g)(h:zi g p x=Z r):p=W∧x=Z r:=by
 obtain rfl|rfl:=a
 .exact nZ h
 .exact nZ h
def ac8{α:Type}{g:O Bool}{x:O α}{z:α}(a:Zp g):akH g x z=x:=by obtain rfl|rfl:=a<;>rfl
section
variable {g:Gh}{w:World}
def LM{E:gi}(A:PF E.E){fr:bU S}{s':bu S}{a:Act}(hf:cL g (bB fr) a w)(hs:bq g (aI s) w){o:Oper}{f:Call}(B:o.op=.call f)(hb:f.callee=.builtin .len)(b:kK fr f.args.toList=Z args){c:Bool}{t:V S}
  (h:mM E s .len f.argTypes args=Z (c,t,s')):∃v,(execOp a.eval o).run E.E.P w=.ok (.value v) w∧aP g w (low t) v:=by
 have k:=fQ hf (ia b);unfold mM at h;split at h
 .rename_i d r _;split at h;rotate_left
  .cases h
  rename_i n j l era m gW hole C;split at h;rotate_left
  .cases h
  rename_i i n' hi Oc;split at h;rotate_left
  .cases h
  rename_i F;obtain⟨q,I⟩|⟨_,I⟩:=ah h
  rotate_left
  .cases I
  simp only[eK]at q;have K:=beq_iff'.1 q.1;subst K;obtain⟨_,rfl,rfl⟩:=I;have P:aP g w (.sh d r) ((f.args.toList.map a.eval)[0]'(by have:=k.1;simp[bz]at this;simp;omega)):=k.2 0 _ _ rfl (iZ _)
  let ⟨xs,u,_⟩:=KA P
  have R:d<bC:=iP (hs.lt' u) hs.aL
  let ⟨z,h1,h2,h3,h4⟩:=I5 hs C u
  have x:(lits j (l.map (enc S (.st n))) z).length=l.length:=by rw[mE (by simpa using h1)];simp
  let ⟨_,v,y,ht⟩:=Yu A hf h4 B hb (ia b) (p:=True) (t:=.sym (.lit (.int .i64 (eN (lits j (l.map (enc S (.st n))) z))))) (s':=lO s d (.arr (S.width (.st n)) (lits j (l.map (enc S (.st n))) z) r)) (by
   have hi':(nth f.argTypes.toList 0).bind E.E.ti=Z i:=hi;simp only[bz,low,fH,zW,hi',F,Bv];rw[gx R,cn rfl];simp) trivial
  refine⟨v,y,?_⟩;have e:eN (lits j (l.map (enc S (.st n))) z)=ax l:=by simp[eN,x,ax]
  rw[e]at ht;exact ht
 .rename_i h0;exact Builtin.noConfusion h0
 .rename_i h0;exact Builtin.noConfusion h0
 .cases h
theorem rR{E:eT S}(I:fq E){fr:bU S}{s:bu S}{a:Act}(hf:cL g (bB fr) a w)(hs:bq g (aI s) w){o:Oper}{gd:O Bool}(hg:Zp gd){ω:Type}{k:V S->O ω}{r:ω}
  (h:fE E gd fr s o k=Z r) {K:Act->World->Prop} {Q:Exit->Act->World->Prop} (hK:∀t g' v w',k t=Z r->cR [] s g w s g' w'->aP g' w' (low t) v->K (a.put o.dst v) w') :
  o.wp E.T.E.P a w K Q:=by
 have plain:∀{c:Bool}{t:V S}{s':bu S},Al E.T fr s o.op=Z (c,t,s')->s'=s->zi gd c (k t)=Z r->o.wp E.T.E.P a w K Q:=by
  intro c t s' f hss h9;subst hss
  let ⟨hp,P⟩:=JM hg h9
  let ⟨v,w',g',C,ht,xO⟩:=Tc I hf hs o f hp
  unfold Oper.wp;obtain C|⟨C,rfl⟩:=C
  .rw[C];exact hK t g' v w' P xO ht
  .rw[C];exact hK t g' undef w' P xO ht
 unfold fE at h;split at h
 .rename_i c f;split at h
  .cases h
  .rename_i args m;have A:=ia m;split at h
   .rename_i b hb;obtain⟨hqb,h⟩|⟨_,h⟩:=ah h
    rotate_left
    .cases h
    split at h
    .rename_i p t s' B
     let ⟨hp,P⟩:=JM hg h
     unfold kZ at B;split at B
     .rename_i r0 h0;cases B;cases b with
      |len=>
       let ⟨v,F,ht⟩:=LM I.env hf hs f hb m h0
       unfold Oper.wp;rw[F];exact hK t g v w P (cR.refl hs) ht
      |append=>cases hqb
      |_=>simp[mM]at h0
     split at B
     .rename_i h0;cases B
      let ⟨q,hq,hqp⟩:=yz I.sg I.ty h0 hp
      cases b with
      |len=>
       let ⟨hss,v,F,ht⟩:=Yu I.env hf hs f hb A hq hqp
       unfold Oper.wp;rw[F];exact hK t g v w P (cR.refl hs) ht
      |max=>simp[ie]at h0|min=>simp[ie]at h0|_=>cases hqb
     .obtain ⟨rfl,v,C,ht⟩:=A5 I.x hs hf f hb m B;unfold Oper.wp;rw[C];exact hK t g v w P (cR.refl hs) ht
    .cases h
   .rename_i fv hfv;split at h
    .cases h
    .rename_i args' hfa;split at h
     .cases h
     .rename_i aqG;obtain⟨l,h⟩|⟨_,h⟩:=ah h
      .simp only[eK]at l;split at h
       .rename_i x _ _ _ b hpk hnb
        let ⟨rr,hF,P⟩:=qx h
        rw[ac8 hg]at hF;split at P;rotate_left
        .cases P
        rename_i r1 hr1;have hq:=OB hs.aL l.1 l.2.1 l.2.2.1 hpk hF hr1;simp[vF]at hfa
        let ⟨tf,htf,Lt⟩:=hfa
        have YS:=bQ hf (cr htf);have oe:=fQ hf A;have i:=rf Lt;unfold xA at i;split at i
        .rename_i Od
         simp only[gV,fP]at i;obtain⟨rfl,R⟩:=i;rw[Od]at YS;generalize hvf:a.eval fv=vf at YS;cases YS with
         |fn _ _ _ va vc l1 l2 r1 r2=>
         have hall:PW (aP g w) (bz args') (va++c.args.map a.eval++vc).toList:=by rw[<-R];simp only[US,Array.toList_map];exact PW.append (PW.append ⟨by simpa using l1,λj x y h1 h2=>r1 j x y h1 (by simpa using h2)⟩ oe) ⟨by simpa using l2,λj x y h1 h2=>r2 j x y h1 (by simpa using h2)⟩
         let ⟨Oi,hc⟩:=Ds I.sg (I.IK _ _ aqG) hs hall hq
         unfold Oper.wp;rw[z8 f hfv hvf Oi];refine hc.mono λe w' he=>?_
         grind
        .cases i
       .cases h
      .cases h
   .cases h
 iterate 11
  .cases h
 .rename_i t n ps f;split at h
  .obtain ⟨hn,h⟩|⟨_,h⟩:=ah h
   .grind[Co]
   .cases h
  .cases h
 .rename_i t x lo hi mx f;split at h
  .rename_i v hv;obtain⟨hn,h⟩|⟨_,h⟩:=ah h
   .grind[MW]
   .cases h
  .cases h
 all_goals try(cases h;done)
 rename_i op h1 h2 h3 h4 h5 h6 h7 h8 h9 h10 h11 h12 h13 h14;have hmv:p7 o.op=J:=by cases f:o.op with|store x y z=>simp_all|alloc x=>simp_all|box x y=>simp_all|makeMap x y=>simp_all|mapUpdate x y z u=>grind|insert x y z u=>grind|makeSlice x y z=>simp_all|range x y=>simp_all|next x y=>simp_all|defer x=>simp_all|buildSlice x y z=>simp_all|slice x y z u v=>grind|_=>rfl
 split at h
 .rename_i Wh p d s' f;have hx:yA (λv _=>k v) (aK p (k d)) Wh=Z r:=by
   rw[<-T3];obtain rfl|rfl:=hg
   .exact h
   .simpa[zi,imp]using h
  let ⟨t,s1,v,w',g',k1,k2,k3,k4,k5⟩:=Td I.Uw I.x hf hs o f (X:=λv _=>k v) hx
  have:s1=s:=k5 λit b hh=>by simp_all
  subst this;unfold Oper.wp;obtain C|⟨C,rfl⟩:=k2
  .rw[C];exact hK t g' v w' k1 k4 k3
  .rw[C];exact hK t g' undef w' k1 k4 k3
 grind[U8]
theorem HE{ω:Type}{k:V S->O ω}{d:O ω}{r:ω}:∀{l:L (Bool×V S×bu S)},wE k d l=Z r->(∃t,k t=Z r)∨d=Z r
 |[],h=>.inr h|p::l,h=>by
  obtain⟨_,h⟩|⟨_,h⟩:=sv h
  .grind
  .exact HE h
theorem LA{E:eT S}{fr:bU S}{s:bu S}{o:Oper}{ω:Type}{k:V S->O ω}{r:ω}(h:fE E (Z J) fr s o k=Z r):∃t,k t=Z r:=by
 have a:∀{p:Bool}{x:O ω},zi (Z J) p x=Z r->x=Z r:=λh=>(nZ h).2;unfold fE at h;split at h
 .split at h
  .cases h
  .split at h
   .grind
   .split at h
    .cases h
    .split at h
     .cases h
     .obtain ⟨_,h⟩|⟨_,h⟩:=ah h
      .split at h
       .let ⟨b,_,c⟩:=qx h
        grind
       .cases h
      .cases h
   .cases h
 iterate 11
  .cases h
 .grind
 .grind
 .split at h
  .obtain h|h:=HE h
   .exact h
   grind
  grind
end
end
section
def rT(p:Nat->Bool):r7 S->Bool
 |.call f args=>cE p f||args.any (cE p)|.mark o=>cE (S:=S) p (.ptr o 0)|.marks o=>cE (S:=S) p (.sh o 0)|.kg=>W|.bad=>W
theorem nX{p q:Nat->Bool}(h:∀o,p o=W->q o=W):∀d:r7 S,rT p d=W->rT q d=W
 |.call f args,a=>by
  simp[rT,m7,Jn]at a ⊢
  grind[eB]
 |.mark o,a=>h o a|.marks o,a=>h o a|.kg,_=>rfl|.bad,_=>rfl
inductive o4(p:Nat->Bool):List (r7 S)->List (r7 S)->Prop where
 |nil:o4 p [] []|cons {d e:r7 S} {l m:List (r7 S)} (h:e=d∨(((e=.bad∧d.one=W)∨(e=.kg∧d.one=J))∧rT p d=W)) (t:o4 p l m):o4 p (d::l) (e::m)
theorem o4.refl(p:Nat->Bool):∀l:L (r7 S),o4 p l l
 |[]=>.nil|_::l=>.cons (.inl rfl) (o4.refl p l)
theorem o4.mono{p q:Nat->Bool}(h:∀o,p o=W->q o=W){l m:L (r7 S)}(k:o4 p l m):o4 q l m:=by
 induction k with|nil=>exact .nil|cons c _ d=>exact .cons (c.imp id λ⟨a,b⟩=>⟨a,nX h _ b⟩) d
def o4.trans{p:Nat->Bool}:∀{l m n:L (r7 S)},o4 p l m->o4 p m n->o4 p l n
 |_,_,_,.nil,.nil=>.nil|_,_,_,.cons h t,.cons a b=>by
  refine .cons ?_ (t.trans b);obtain rfl|⟨⟨rfl,h1⟩|⟨rfl,h1⟩,h⟩:=h
  .exact a
  .obtain rfl|⟨⟨rfl,_⟩|⟨rfl,h2⟩,_⟩:=a
   .simp_all
   .simp_all
   .cases h2
  .obtain rfl|⟨⟨rfl,h2⟩|⟨rfl,_⟩,_⟩:=a
   .simp_all
   .cases h2
   simp_all
theorem o4.split{p:Nat->Bool}:∀{a b m:L (r7 S)},o4 p (a++b) m->∃c d,m=c++d∧o4 p b d
 |[],_,m,h=>⟨[],m,rfl,h⟩|_::_,_,_,.cons _ t=>by
  let ⟨c,d,h1,h2⟩:=t.split
  grind
theorem o4.len{p:Nat->Bool}{l m:L (r7 S)}(h:o4 p l m):m.length=l.length:=by
 induction h with|nil=>rfl|cons _ _ a=>simp[a]
def xU(p:Nat->Bool)(l m:L (r7 S)):Prop:=∃c d,m=c++d∧o4 p l d
theorem xU.refl(p:Nat->Bool)(l:L (r7 S)):xU p l l:=⟨[],l,rfl,.refl p l⟩
theorem o4.ok{p:Nat->Bool}{l m:L (r7 S)}(h:o4 p l m):xU p l m:=⟨[],m,rfl,h⟩
theorem xU.mono{p q:Nat->Bool}(h:∀o,p o=W->q o=W){l m:L (r7 S)}(k:xU p l m):xU q l m:=by
 let ⟨c,d,h1,h2⟩:=k
 exact⟨c,d,h1,h2.mono h⟩
def xU.trans{p:Nat->Bool}{l m n:L (r7 S)}(h:xU p l m)(k:xU p m n):xU p l n:=by obtain⟨c,d,rfl,h2⟩:=h;obtain⟨a,b,rfl,h4⟩:=k;obtain⟨x,y,rfl,h5⟩:=h4.split;exact⟨a++x,y,by rw[KO],h2.trans h5⟩
structure eG(ds:List Nat)(fr fr':bU S)(dr:List Nat)(aL:Nat):Prop where
 tm:∀k v,k∉ds->fr.get k=Z v->fr'.get k=Z v∨cE (dN dr aL) v=W
 df:xU (dN dr aL) fr.df fr'.df
theorem eG.refl(ds:L Nat)(fr:bU S)(dr:L Nat)(aL:Nat):eG ds fr fr dr aL:=⟨λ_ _ _ h=>.inl h,xU.refl _ _⟩
def eG.trans{ds d:L Nat}{fr fr' a:bU S}{dr c:L Nat}{aL b:Nat}(h:eG ds fr fr' dr aL)(k:eG d fr' a c b)(f:∀o∈dr,o∈c)(hn:aL<=b):eG (ds++d) fr a c aL:=by
 refine⟨λj v e g=>?_,(h.df.mono (jb f (cu _))).trans (k.df.mono (jb (λ_ h=>h) hn))⟩;simp at e;obtain h1|h1:=h.tm j v e.1 g
 .exact (k.tm j v e.2 h1).imp id (eB (jb (λ_ h=>h) hn) v)
 .exact .inr (eB (jb f (cu _)) v h1)
theorem eG.mono{ds a:L Nat}{fr fr':bU S}{dr b:L Nat}{aL:Nat}(h:eG ds fr fr' dr aL)(d:∀k∈ds,k∈a)(c:∀o∈dr,o∈b):eG a fr fr' b aL:=by refine⟨λj v e f=>?_,h.df.mono (jb c (cu _))⟩;exact(h.tm j v (λg=>e (d j g)) f).imp id (eB (jb c (cu _)) v)
def uk{p q:Nat->Bool}(a:∀o,p o=W->q o=W){f:V S->Bool}(hf:∀v,f v=cE p v):∀l:L (r7 S),o4 q l (l.map (eJ f))
 |[]=>.nil|d::l=>by
  refine .cons ?_ (uk a hf l);cases d with
  |call g args=>
   simp[eJ];cases b:f g||args.any f with
   |true=>
    refine .inr ⟨.inl ⟨rfl,rfl⟩,nX a _ ?_⟩;simp only[rT,<-hf]
    simp_all
   |false=>exact .inl rfl
  |mark o=>
   simp[eJ];cases b:f (.ptr o 0)with|true=>exact .inr ⟨.inl ⟨rfl,rfl⟩,nX a _ (by simp[rT,<-hf];exact b)⟩|false=>exact .inl rfl
  |marks o=>
   simp[eJ];cases b:f (.sh o 0)with|true=>exact .inr ⟨.inr ⟨rfl,rfl⟩,nX a _ (by simp[rT,<-hf];exact b)⟩|false=>exact .inl rfl
  |kg=>exact .inl rfl|bad=>exact .inl rfl
section
variable {g:Gh}{w:World}
theorem oV{ops:Array Oper}{fr:bU S}{a:Act}(hf:cL g (bB fr) a w){o:Oper}{r:O Bool}(h:iH ops.toList fr o=Z r) :
  match r with
  |none=>Region.wanted o (yielded ops a.tmps)=W|some c=>Region.wanted o (yielded ops a.tmps)=c:=by
 unfold iH at h;split at h
 .grind[Region.wanted]
 .rename_i j f z;split at h
  .rename_i b l;simp only[vF,kO]at l
   let ⟨d,⟨m,n,q⟩,i⟩:=l
   obtain⟨v,s,u⟩:=hf.tm d (low (.kb b)) (by rw[bT,i];rfl);cases u;have k:ops[j]?=Z m:=by grind
   have x:yielded ops a.tmps j=Z b:=by simp[yielded,k,q,s]
   cases b<;>cases f<;>simp only[eP,ez,DN,KL,gV]at h<;>subst h<;>simp[Region.wanted,z,x]
  .rename_i t _ l;split at h
   .rename_i b A;simp at h;subst h
    let ⟨p,e,B⟩:=l7 A
    simp only[vF,kO]at l
    let ⟨d,⟨m,n,q⟩,i⟩:=l
    let ⟨v,s,u⟩:=hf.tm d (low t) (by rw[bT,i];rfl)
    have y:=jq e B u;subst y;have k:ops[j]?=Z m:=by grind
    have x:yielded ops a.tmps j=Z b:=by simp[yielded,k,q,s]
    simp only[Region.wanted,z,x,Kn];cases b<;>cases f<;>rfl
   .cases h
  .cases h
theorem CL{ops:Array Oper}{fr:bU S}{a:Act}(hf:cL g (bB fr) a w){o:Oper}(h:uH ops.toList fr o=W):Region.wanted o (yielded ops a.tmps)=J:=by
 unfold uH at h;split at h
 .cases h
 .rename_i j e s;split at h
  .rename_i b f;simp only[vF,kO]at f
   let ⟨d,⟨p,i,q⟩,c⟩:=f
   obtain⟨v,r,k⟩:=hf.tm d (low (.kb b)) (by rw[bT,c];rfl);cases k;have m:ops[j]?=Z p:=by grind
   have t:yielded ops a.tmps j=Z b:=by simp[yielded,m,q,r]
   cases b<;>cases e<;>first|(cases h;done)|simp[Region.wanted,s,t]
  .rename_i l f;simp only[vF,kO]at f
   let ⟨d,⟨p,i,q⟩,c⟩:=f
   obtain⟨v,r,k⟩:=hf.tm d (low (.dat (.lit (.tuple l)))) (by rw[bT,c];rfl);cases k with
   |sym _ _ n=>
   cases n
   grind[yielded,Region.wanted]
  .cases h
def ML:aP g w (low (S:=S) ej) undef:=.sym _ _ (.lit _)
def aaB(t a:V S):Prop:=a=t∨∃b,t=.ty .bool b∧a=.kb b
variable {p:Nat->Bool}{fr:bU S}{t:V S}{v:Value}{a:Act}
def aaB.rel{a:V S}(h:aaB t a)(c:aP g w (low t) v):aP g w (low a) v:=by
 obtain rfl|⟨b,rfl,rfl⟩:=h
 .exact c
 .cases c with|sym _ _ d=>cases d;exact .kb b
def Uy{b:Bool}{ω:Type}{k:V S->O ω}{r:ω}(h:Kw b t k=Z r):∃c,aaB t c∧k c=Z r:=by
 obtain⟨_,a⟩|⟨_,a⟩:=ah h
 .clear h;split at a
  .obtain ⟨rfl,h⟩|⟨rfl,h⟩:=sv a
   .exact ⟨_,.inr ⟨W,rfl,rfl⟩,h⟩
   .exact ⟨_,.inr ⟨J,rfl,rfl⟩,h⟩
  .exact ⟨_,.inl rfl,a⟩
 .exact ⟨t,.inl rfl,a⟩
theorem Kv{b:Bool}{t:V S}{ω:Type}{k:V S->O ω}{r:ω}(h:Kw b t k=Z r){v:Value}(d:aP g w (low t) v):∃a,k a=Z r∧aP g w (low a) v:=by
 obtain⟨_,c⟩|⟨_,h⟩:=ah h
 .clear h;split at c
  .rename_i x;have e:v=.bool x:=by cases d with|sym _ _ f=>cases f;rfl
   subst e;obtain⟨rfl,h⟩|⟨rfl,h⟩:=sv c
   .exact ⟨_,h,.kb W⟩
   .exact ⟨_,h,.kb J⟩
  grind
 grind
theorem vZ{fr:bU S}{a:Act}(hf:cL g (bB fr) a w)(hn:fr.n<=bC){o:Op}(h:Om W fr o=W):cL g (bB (qW fr o)) a w∧(qW fr o).n=fr.n:=by
 have key:∀(l:L Operand)(q:Bool)(f0:bU S),f0.n=fr.n->(q=W->cL g (bB f0) a w)->
   l.foldl (λp x=>match x with
    |.tmp k=>match fr.get k with
     |some (.gd g _)=>p&&imp W g|_=>p
    |_=>p) q=W->
   cL g (bB (l.foldl (λf x=>match x with
    |.tmp k=>match fr.get k with
     |some (.gd _ v)=>f.put k v|_=>f
    |_=>f) f0)) a w∧(l.foldl (λf x=>match x with
    |.tmp k=>match fr.get k with
     |some (.gd _ v)=>f.put k v|_=>f
    |_=>f) f0).n=fr.n:=by
  intro l
  induction l with
  |nil=>simp_all|cons x l s=>
   intro q f0 j t h;simp at h ⊢;cases x with
   |tmp k=>
    simp only at h ⊢;split at h
    .rename_i y v dm;refine s _ _ (by simpa[bU.put]using j) (λc=>?_) h;simp at c;have d:=t c.1;have m:y=W:=c.2;subst m
     let ⟨u,z,A⟩:=hf.tm k (low (.gd W v)) (by rw[bT,dm];rfl)
     have e:k<fr.n:=by have:=(Xu.1 z).1;rw[hf.size]at this;exact this
     refine⟨d.size,d.df,λn B b=>?_⟩;rw[bT,bU.jS _ _ _ _ (iP e hn)]at b;by_cases i:n=k
     .subst i;rw[cn rfl]at b;simp at b;cases A with|gd _ _ _ r=>simp_all
     .rw[bJ i]at b;exact d.tm n B (by rw[bT];exact b)
    grind
   |const v=>grind|global v=>grind|func v=>grind
 exact key o.operands.toList W fr rfl (λ_=>hf) h
def tI(hf:cL g (bB fr) a w){dst:O Nat}(b:gB fr dst=W)(hn:fr.n<=bC)(c:aP g w (low t) v) :
  cL g (bB (fr.iQ dst t)) (a.put dst v) w∧(fr.iQ dst t).n=fr.n:=by
 refine⟨?_,by cases dst<;>rfl⟩;rw[QN];exact VS hf (by cases dst<;>exact b) hn c
theorem BB{fr:bU S}(hn:fr.n<=bC){dst:O Nat}(g:gB fr dst=W){ow dr:L Nat}(i:∀o∈ow,o∈dr)(aL:Nat)(t:V S):eG dst.toList fr ((dy ow fr).iQ dst t) dr aL:=by
 refine⟨λk v h c=>?_,?_⟩;rotate_left
 .have e:((dy ow fr).iQ dst t).df=(dy ow fr).df:=by cases dst<;>rfl
  rw[e];cases ow with
  |nil=>exact xU.refl _ _|cons o ow=>
   refine(uk (p:=(o::ow).contains) (λj a=>?_) (λv=>oS _ v) _).ok;simp only[dN,m7,Fp,nP]at a ⊢
   grind
 have h1:(dy ow fr).get k=Z v∨cE (dN dr aL) v=W:=by
  cases ow with
  |nil=>exact .inl c|cons o ow=>
   cases f:iM (o::ow) v with
   |true=>
    rw[oS]at f;refine .inr (eB (λo a=>?_) v f);simp only[dN,m7,Fp,nP]at a ⊢
    grind
   |false=>
    left
    show(fr.tm.keep _).get k=Z v;rw[Tr.nT,show fr.tm.get k=Z v from c]
    simp_all
 refine h1.imp (λh1=>?_) id;cases dst with|none=>exact h1|some d=>have b:d<fr.n:=g9 g;show((dy ow fr).put d t).get k=Z v;rw[bU.jS _ _ _ _ (iP b hn),bJ (by simpa using h)];exact h1
def AH(v:Value):aP g w (low (S:=S) (.gd J ej)) v:=by exact .gd _ _ _ λh=>by cases h
def sR(ow:L Nat)(fr:bU S):(dy ow fr).n=fr.n:=by cases ow<;>rfl
def Am{ow:L Nat}{d:O Nat}(h:gB fr d=W):gB (dy ow fr) d=W:=by
 simp_all[gB,sR]
theorem rQ{E:eT S}(u:fq E){call:fU S}(i:gA E.T.E.P call){ops:Array Oper}{fr:bU S}{s:bu S}{a:Act}(hn:fr.n<=bC)(hf:cL g (bB fr) a w)(hs:bq g (aI s) w){o:Oper}{ω:Type}
  {kp:V S->bu S->O ω} {k:V S->bu S->L Nat->O ω} {r:ω} (h:oX E call ops.toList o fr s kp k=Z r) {K:Act->World->Prop} {Q:Exit->Act->World->Prop}
  (f:∀t s' ow g' v w',k t s' ow=Z r->aP g' w' (low t) v->cR ow s g w s' g' w'->K (a.put o.dst v) w')
  (z:∀t s' g' v w',kp t s'=Z r->cR [] s g w s' g' w'->aP g' w' (low t) v->Q (.panic [{v,recovered:=J}]) a w') {rr:O Nat} (j:rr≠Y->∀c,o.op≠.defer c) :
  gB fr o.dst=W∧if Region.wanted o (yielded ops a.tmps)then OpR rr E.T.E.P o a w K Q else K (a.put o.dst undef) w:=by
 obtain⟨x,h⟩|⟨_,h⟩:=ah h
 rotate_left
 .cases h
 refine⟨x,?_⟩;obtain⟨l,h⟩|⟨_,h⟩:=ah h
 .rw[bJ (by rw[CL hf l];simp_all)];exact f _ s [] g undef w h ML (cR.refl hs)
 split at h
 .cases h
 .rename_i m;have q:=oV hf m
  grind[AQ]
 .rename_i c m;have q:=oV hf m;obtain⟨_,h⟩|⟨_,h⟩:=ah h
  .let ⟨b,h⟩:=nZ h
   cases c with
   |true=>
    rw[cn q]
    let ⟨d,n⟩:=vZ hf hn b
    exact .of_wp j (.inl (rR u d hs (.inr rfl) h (λt g' v w' p e y=>f _ s [] g' v w' p (by exact .gd _ _ _ λ_=>y) e)))
   |false=>
    rw[bJ (by simp_all)]
    let ⟨t,p⟩:=LA h
    exact f _ s [] g undef w p (by exact .gd _ _ _ λh=>by cases h) (cR.refl hs)
  .obtain ⟨rfl,h⟩|⟨rfl,h⟩:=sv h
   .let ⟨b,h⟩:=nZ h
    let ⟨d,n⟩:=vZ hf hn b
    grind[AQ]
   .rw[bJ (by simp_all)];exact f _ s [] g undef w h (AH _) (cR.refl hs)
theorem LG{P:Program}{fr:bU S}{a:Act}(hf:cL g (bB fr) a w){o:Oper}{d:r7 S}(h:Rr fr o=Z d) :
  o.guard=Y∧∃e,(execOp a.eval o).run P w=.ok (.defer e) w∧wT g w (lY d) e:=by
 unfold Rr at h;split at h;rotate_left
 .cases h
 rename_i c r s;refine⟨r,?_⟩;split at h;rotate_left
 .cases h
 rename_i f p;split at h;rotate_left
 .cases h
 rename_i k u x args l b;simp at h;subst h;have q:=bQ hf (cr l);have i:=fQ hf (ia b);generalize y:a.eval f=E at q;cases q with
 |fn _ _ _ m n z A B C=>
  refine⟨{target:=.fn k n,args:=m++c.args.map a.eval},?_,?_⟩
  .grind[execOp,resolve,Deferred.ofValue,run_pure]
  .exact .call (.fn k (bz u) (bz x)) (bz args) k m n (c.args.map a.eval) (.fn k _ _ m n z A B C) (by simpa using i.1) (λj t v h1 h2=>i.2 j t v h1 (by simpa using h2))
def Lz{E:eT S}(A:fq E){call:fU S}(f:gA E.T.E.P call){ops:Array Oper}{s:bu S}(hn:fr.n<=bC)(hf:cL g (bB fr) a w)(hs:bq g (aI s) w){o:Oper}{ω:Type}
  {kp:V S->bu S->O ω} {k:bU S->bu S->O ω} {r:ω} (h:Rm E call ops.toList o fr s kp k=Z r) {K:Act->World->Prop} {Q:Exit->Act->World->Prop}
  (B:∀fr' s' g' a' w',k fr' s'=Z r->fr'.n=fr.n->cL g' (bB fr') a' w'->fJ s g w s' g' w'->eG o.dst.toList fr fr' s'.dr s.aL->K a' w')
  (C:∀t s' g' v w',kp t s'=Z r->cL g' (bB fr) a w'->fJ s g w s' g' w'->aP g' w' (low t) v->Q (.panic [{v,recovered:=J}]) a w') {rr:O Nat} (l:rr≠Y->∀c,o.op≠.defer c) :
  if Region.wanted o (yielded ops a.tmps)then OpR rr E.T.E.P o a w K Q else K (a.put o.dst undef) w:=by
 unfold Rm at h;split at h
 .rename_i d x;obtain⟨m,h2⟩|⟨_,h2⟩:=ah h
  rotate_left
  .cases h2
  let ⟨F,e,n,i⟩:=LG (P:=E.T.E.P) hf x
  have I:Region.wanted o (yielded ops a.tmps)=W:=by simp[Region.wanted,F]
  rw[cn I];refine .of_wp l (.inl ?_);unfold Oper.wp;rw[n]
  let ⟨h1,h3⟩:=tI hf m hn (t:=yP) (v:=undef) (AH _)
  have key:∀dst:O Nat,cL g (bB (fr.iQ dst yP)) (a.put dst undef) w->cL g (bB {(fr.iQ dst yP)with df:=d::fr.df}) (({a with defers:=e::a.defers}:Act).put dst undef) w:=by intro dst h1;cases dst with|none=>exact⟨h1.size,.cons i hf.df,h1.tm⟩|some j=>exact⟨h1.size,.cons i hf.df,h1.tm⟩
  let ⟨h4,h5⟩:=BB (ow:=[]) (dr:=s.dr) hn m (λo R=>by cases R) s.aL yP
  exact B _ s g _ w h2 h3 (key _ h1) (fJ.refl hs) ⟨h4,[d],fr.df,rfl,.refl _ _⟩
 have m:gB fr o.dst=W:=(rQ A f hn hf hs h (K:=λ_ _=>True) (Q:=λ_ _ _=>True) (λ_ _ _ _ _ _ _ _ _=>trivial) (λ_ _ _ _ _ _ _ _=>trivial) l).1;refine(rQ A f hn hf hs h (λt s' ow g' v w' p q b=>?_) (λt s' g' v w' p b q=>C t s' g' v w' p (nH (ow:=[]) hf b) b.toW q) l).2;have y:=b.owd;have z:=nH hf b
 let ⟨t,p,q⟩:=Kv p q
 let ⟨h1,h2⟩:=tI (fr:=dy ow fr) z (Am m) (by rw[sR];exact hn) q
 exact B _ s' g' _ w' p (h2.trans (sR ow fr)) h1 b.toW (BB hn m y _ t)
theorem Dq{E:eT S}(K:fq E){call:fU S}(e:gA E.T.E.P call){ops:Array Oper}{ω:Type}{kp:bU S->V S->bu S->O ω}{kk:bU S->bu S->O ω}{r:ω}{Q:Exit->Act->World->Prop}{rr:O Nat}(q:rr≠Y->∀o∈ops.toList,∀c,o.op≠.defer c) :
  ∀(l:L Oper)(k:Nat),ops.toList.drop k=l->∀{fr:bU S}{s:bu S}{a:Act}{g:Gh}{w:World},fr.n<=bC->TF E call ops.toList kp kk l fr s=Z r->cL g (bB fr) a w->bq g (aI s) w->
   (∀fr' s' g' a' w',kk fr' s'=Z r->fr'.n=fr.n->cL g' (bB fr') a' w'->fJ s g w s' g' w'->eG (l.filterMap (·.dst)) fr fr' s'.dr s.aL->Q .normal a' w')->
   (∀fr' t s' g' a' v w',kp fr' t s'=Z r->fr'.n=fr.n->cL g' (bB fr') a' w'->fJ s g w s' g' w'->eG (l.filterMap (·.dst)) fr fr' s'.dr s.aL->aP g' w' (low t) v->Q (.panic [{v,recovered:=J}]) a' w')->
   wK rr E.T.E.P ops Q (List.range' k l.length) a w:=by
 intro l
 induction l with
 |nil=>intro k _ fr s a g w _ h u x y _;exact y fr s g a w h rfl u (fJ.refl x) (eG.refl _ _ _ _)
 |cons o l P=>
  intro k F fr s a g w R h u x y I;have hk:ops[k]?=Z o:=by
   have:=pU (λm=>m[0]?) F
   grind
  have z:ops.toList.drop (k+1)=l:=by
   have:=pU (List.drop 1) F
   grind[List.drop_drop]
  rw[qH,List.range'_succ];unfold wK;simp[hk];have tail:∀{fr' b:bU S}{s' d:bu S}{g':Gh}{w':World},fJ s g w s' g' w'->eG o.dst.toList fr fr' s'.dr s.aL->(∀o∈s'.dr,o∈d.dr)->eG (l.filterMap (·.dst)) fr' b d.dr s'.aL->eG ((o::l).filterMap (·.dst)) fr b d.dr s.aL:=by
   intro fr' b s' d g' w' h4 h5 h6 n;have:=h5.trans n h6 h4.aL
   grind
  refine Lz K e R u x h (λfr' s' g' a' w' h1 h2 h3 h4 h5=>?_) (λt s' g' v w' h1 h2 h3 h4=>I fr t s' g' a v w' h1 rfl h2 h3 (eG.refl _ _ _ _) h4) λhr=>q hr o (by grind);exact P (k+1) z (by omega) h1 h3 h4.rel (λb d f i j A B C p n=>y b d f i j A (B.trans h2) C (h4.trans p) (tail h4 h5 p.IS n)) (λb t d f i v' j A B C p n k6=>I b t d f i v' j A (B.trans h2) C (h4.trans p) (tail h4 h5 p.IS n) k6)
end
end
section
def W6(a:Act)(w:World)(c:Nat):O Value:=bif Nt c 1000000 then a.tmps[c]? else match a.tmps[Nat.div (Nat.sub c 1000000) 1000]? with
 |some (.pointer (Z b))=>match w.heap[b.block]? with
  |some (.cells d _ _)=>d[Nat.mod (Nat.sub c 1000000) 1000]?|_=>Y
 |_=>Y
theorem EW{g:Gh}{w:World}{fr:bU S}{s:bu S}{a:Act}(hf:cL g (bB fr) a w)(hs:bq g (aI s) w){c:Nat}{v:V S}(h:W5 fr s c=Z v):∃u,W6 a w c=Z u∧aP g w (low v) u:=by
 unfold W5 at h;unfold W6;cases i:Nt c 1000000 with
 |true=>
  rw[i,eP]at h
  let ⟨u,e,f⟩:=hf.tm c (low v) (by rw[bT,h];rfl)
  exact⟨u,e,f⟩
 |false=>
  rw[i,ez]at h;split at h
  .rename_i o k;split at h
   .rename_i cs l;obtain⟨u,e,f⟩:=hf.tm _ (low (.ptr o 0)) (by rw[bT,k];rfl);cases f with
    |ptr _ _ b m=>
    let ⟨n,ty,p,q,d⟩:=(hs.box o b m).box (cs:=bz cs) (by rw[aS,l];rfl)
    have h1:=KT h;have h2:∃x,n[Nat.mod (Nat.sub c 1000000) 1000]?=Z x:=by have:=(XN.1 h1).1;exact⟨_,vG (by omega)⟩
    let ⟨x,j⟩:=h2
    exact⟨x,by simp only[ez,e,p,j],d _ _ _ h1 j⟩
   .cases h
  .cases h
def abf(a:Act)(w:World)(al:L (Nat×Nat)):Prop:=∀p∈al,a.tmps[p.1]?=W6 a w p.2
theorem lR{g:Gh}{w:World}{a:Act}{s:bu S}(hs:bq g (aI s) w):∀{al:L (Nat×Nat)}{fr:bU S},(∀p∈al,p.1<bC)->abf a w al->cL g (bB fr) a w->
  cL g (bB (mA s al fr)) a w∧(mA s al fr).n=fr.n∧(mA s al fr).df=fr.df∧∀k,k∉al.map (·.1)->(mA s al fr).get k=fr.get k
 |[],fr,_,_,c=>⟨c,rfl,rfl,λ_ _=>rfl⟩|p::al,fr,e,f,c=>by
  have d:=e p fA;have n:=f p fA;simp only[mA];cases o:W5 fr s p.2 with
  |none=>
   let ⟨h1,h2,h3,h4⟩:=lR hs (fr:=fr) (λq b=>e q (iB _ b)) (λq b=>f q (iB _ b)) c
   simp_all
  |some v=>
   have h:cL g (bB (fr.put p.1 v)) a w:=by
    refine⟨c.size,c.df,λj t i=>?_⟩;rw[bT,bU.jS _ _ _ _ d]at i;by_cases l:j=p.1
    .grind[EW]
    .rw[bJ l]at i;exact c.tm j t (by rw[bT];exact i)
   let ⟨h1,h2,h3,h4⟩:=lR hs (fr:=fr.put p.1 v) (λq b=>e q (iB _ b)) (λq b=>f q (iB _ b)) h
   refine⟨h1,h2,h3,λk m=>?_⟩;simp only[kW,fy,not_or]at m;rw[h4 k m.2,bU.jS _ _ _ _ d,bJ m.1]
def Bi.mA{sh:Sh}{bs:L Nat}{a:Act}{gb:Gh}{jT c:bU S}{s0 b:bu S}{w:World}{d:L ff}{e:Gh}(h:Bi [] sh bs a gb jT s0 w d e c b){al:L (Nat×Nat)}(f:∀p∈al,p.1<bC)(g:abf a w al) :
  Bi (al.map (·.1)) sh bs a gb jT s0 w d e (TL.mA b al c) b:=by
 let ⟨h1,h2,h3,h4⟩:=lR h.rel f g h.fr
 exact⟨h.rel,h1,h.le,h.bx,h.own,h.fl,h.lo,h.aL,h.wr,h.dr,h.ob,h.bV,h.arr,h2.trans h.n,h3.trans h.OO,λk i j=>(h4 k i).trans (h.get k (by simp) j)⟩
variable {a:Act}{w:World}{al:List (Nat×Nat)}
def xC{g:Gh}{fr:bU S}{s:bu S}(hf:cL g (bB fr) a w)(hs:bq g (aI s) w)(h:Wj fr s al=W):abf a w al:=by
 intro p k;unfold Wj at h;rw[gY]at h;have h1:=h p k;split at h1
 .rename_i o r t u l m;rw[eK]at h1;obtain rfl:=beq_iff'.1 h1.1;obtain rfl:=beq_iff'.1 h1.2;obtain⟨v,c,d⟩:=hf.tm p.1 (low (.sh o r)) (by rw[bT,l];rfl)
  let ⟨y,e,f⟩:=EW hf hs m
  cases d with
  |sh _ _ len cap sz x n=>
  cases f with|sh _ _ i j q z b=>rw[n]at b;cases b;rw[c,e]
 .cases h1
theorem Pd{fr:bU S}{ow:L Nat}{al:L (Nat×Nat)}(h:adH fr ow al=W){p:Nat×Nat}(a:p∈al){v:V S}(b:fr.get p.1=Z v):∃o r,v=.sh o r∧o∈ow:=by
 unfold adH at h
 grind
end
section
inductive Sp(g:Gh)(w:World):xE S->Exit->Prop where
 |qJ:Sp g w .qJ .normal|ext (i:Nat):Sp g w (.ext i) (.exit i)|ret:Sp g w .ret .ret|hU (t:V S) (v:Value) (h:aP g w (low t) v):Sp g w (.hU t) (.panic [{v,recovered:=J}])
def Kg(ds:L Nat)(fr:bU S)(s:bu S)(g:Gh)(w:World){ω:Type}(Q:xE S->bU S->bu S->O ω)(r:ω)(e:Exit)(a:Act)(w':World):Prop:=
 False∨∃ex fr' s' g',Sp g' w' ex e∧Q ex fr' s'=Z r∧fr'.n=fr.n∧cL g' (bB fr') a w'∧fJ s g w s' g' w'∧eG ds fr fr' s'.dr s.aL
theorem Kg.mono{ds c:L Nat}{fr sQ:bU S}{s s1:bu S}{g f:Gh}{w w1:World}{ω:Type}{Q:xE S->bU S->bu S->O ω}{r:ω}{e:Exit}{a:Act}{w':World}(hn:sQ.n=fr.n)(b:fJ s g w s1 f w1)(hf:eG ds fr sQ s1.dr s.aL)
  (h:Kg c sQ s1 f w1 Q r e a w'):Kg (ds++c) fr s g w Q r e a w':=by
 obtain h|⟨i,d,j,k,h1,h2,h3,h4,h5,h6⟩:=h
 .exact .inl h
 .exact .inr ⟨i,d,j,k,h1,h2,h3.trans hn,h4,b.trans h5,hf.trans h6 h5.IS b.aL⟩
def Kg.ds{ds b:L Nat}{fr:bU S}{s:bu S}{g:Gh}{w:World}{ω:Type}{Q:xE S->bU S->bu S->O ω}{r:ω}{e:Exit}{a:Act}{w':World}(d:∀k∈ds,k∈b)(h:Kg ds fr s g w Q r e a w'):Kg b fr s g w Q r e a w':=by
 obtain h|⟨f,c,i,j,h1,h2,h3,h4,h5,h6⟩:=h
 .exact .inl h
 .exact .inr ⟨f,c,i,j,h1,h2,h3,h4,h5,h6.mono d (λ_ h=>h)⟩
theorem Vm(p:Nat->Prop)(h:∃n,p n):∃n,p n∧∀m,p m->n<=m:=by
 let ⟨n,a⟩:=h
 induction n using Nat.strongRecOn with
 |_ n b=>
  grind
theorem Vu{X R B P:Type}{F:X->O (LO X R B P)}:∀{n:Nat}{x:X}{o:LO X R B P},iter F n x=Z o->∃m,n=m+1∧∃a,F x=Z a∧((∃y,a=.next y∧iter F m y=Z o)∨(a=o∧∀y,o≠.next y))
 |0,_,_,h=>by cases h
 |_+1,x,o,h=>by
  simp[iter]at h
  grind
structure wW(sh:Sh)(bs:List Nat)(jT:bU S)(s0 s:bu S)(g:Gh)(w:World)(x:fX S.A (kU sh))(a:Act)(gb:Gh)(w':World)(vals:List Value)(al:List ff)(bl:List Nat):Prop where
 rel:bq gb (aI s0) w'
 fr:cL gb (bB jT) a w'
 pr:qy S gb.bx w' (kU sh) x vals al bl
 at_:iV a sh vals
 Ip:PW (λo b=>gb.bV o=Z b) bs bl
 X6:∀o∈bs,∀e,gb.arr o e=Y
 fresh:∀a∈al,∀b,a.at b->∀o,¬bG gb o b
 ap:wY al
 ext:n5 s.lo s.fl g w gb w'
 alo:∀a∈al,∀b,a.at b->(∃o,s.fl<=o∧bG g o b)∨w.heap.size<=b
variable {w':World}
def wW.head{sh:Sh}{bs:L Nat}{jT f:bU S}{s0 s i:bu S}{g:Gh}{w:World}{x:fX S.A (kU sh)}{a:Act}{gb:Gh}{vals:L Value}{al:L ff}{bl:L Nat}
  (c:wW sh bs jT s0 s g w x a gb w' vals al bl) (hn:jT.n<=bC) (h:mS sh bs x jT s0=Z (f,i)) :
  ∃j,Bi [] sh bs a gb jT s0 w' al j f i∧n5 s.lo s.fl g w j w':=by
 let ⟨j,d⟩:=vW h hn c.pr c.at_ c.Ip c.X6 c.fresh c.ap c.fr c.rel
 refine⟨j,d,λo b e=>?_,λo e y q k=>?_,λb e=>?_,c.ext.size,c.ext.heap,λo b r l=>?_,λb p=>?_,c.ext.os,c.ext.output⟩
 .exact d.le.bV o b (c.ext.bV o b e)
 .exact d.le.arr o e y (c.ext.arr o e y q k)
 .exact d.le.bx b (c.ext.bx b e)
 .obtain l|⟨_,t,m,n⟩:=d.own o b l
  .exact c.ext.own o b r l
  .exact c.alo t m b n
 .rw[d.bx]at p;exact c.ext.rO b p
theorem ZV(P:Nat->Bool)(d:r7 S):eJ (cE P) (eJ (cE P) d)=eJ (cE P) d:=by
 cases d with
 |call f args=>
  simp[eJ]
  grind
 |mark o=>
  simp[eJ]
  grind
 |marks o=>
  simp[eJ]
  grind
 |_=>rfl
def adw{P Q:Nat->Bool}(c:∀o,Q o=W->P o=W):∀{l m:L (r7 S)},o4 Q (l.map (eJ (cE P))) m->m=l.map (eJ (cE P)):=by
 intro l
 induction l with
 |nil=>intro m h;cases h;rfl
 |cons d l g=>
  intro m h;cases h with
  | @cons _ e _ _ i j=>
  rw[kW,g j]
  congr 1
  obtain rfl|⟨h1,k⟩:=i
  .rfl
  .have a:=nX c _ k;cases d with
   |call f args=>
    simp[eJ]at a h1 ⊢;cases b:cE P f||args.any (cE P)with
    |true=>
     rw[b]at h1;obtain⟨h1,_⟩|⟨_,h1⟩:=h1
     .exact h1
     .cases h1
    |false=>
     simp_all[rT]
   |mark o=>
    simp[eJ]at a h1 ⊢;cases b:cE (S:=S) P (.ptr o 0)with
    |true=>
     rw[b]at h1;obtain⟨h1,_⟩|⟨_,h1⟩:=h1
     .exact h1
     .cases h1
    |false=>
     simp_all[rT]
   |marks o=>
    simp[eJ]at a h1 ⊢;cases b:cE (S:=S) P (.sh o 0)with
    |true=>
     rw[b]at h1;obtain⟨_,h1⟩|⟨h1,_⟩:=h1
     .cases h1
     .exact h1
    |false=>
     simp_all[rT]
   |kg=>
    obtain⟨_,h1⟩|⟨h1,_⟩:=h1
    .cases h1
    .exact h1
   |bad=>
    obtain⟨h1,_⟩|⟨_,h1⟩:=h1
    .exact h1
    .cases h1
theorem adx{g g':Gh}{w w':World}{P:Nat->Bool}(b:∀t v,aP g w t v->dP P t=J->aP g' w' t v){l:L (r7 S)}{a:L Deferred}(c:eU g w ((l.map (eJ (cE P))).map lY) a) :
  eU g' w' ((l.map (eJ (cE P))).map lY) a:=by
 have h:=gN (S:=S) (p:=cE P) (q:=dP P) (λv=>jc P v) (λ_ _=>rfl) (l.map (eJ (cE P)));have e:(l.map (eJ (cE P))).map (eJ (cE P))=l.map (eJ (cE P)):=by
  grind[List.map_congr_left,ZV]
 rw[e]at h;exact iz.rel b h c
section
variable {sh:Sh}{bs ow ds:List Nat}{fr:bU S}{s s1:bu S}{g:Gh}{w:World}{a:Act}
theorem TZ(a:∀d∈ds,d<bC)(k:Nat):(cG ds ow bs fr s1).1.get k=if k∈ds then Y else(fr.get k).filter (λv=>!(cE (dN ow s1.aL) v)):=by
 show((ds.foldl (λt k=>t.del aR k) fr.tm).keep _).get k=_;rw[Tr.nT,Tr.nU ds _ k a];split
 .rfl
 .rfl
theorem A7(a:∀d∈ds,d<bC){k:Nat}{v:V S}(h:(cG ds ow bs fr s1).1.get k=Z v):k∉ds∧fr.get k=Z v∧cE (dN ow s1.aL) v=J:=by
 grind[TZ,Option.filter_eq_some_iff]
theorem HC(hf:cL g (bB fr) a w)(hs:bq g (aI s) w)(C:∀d∈ds,d<bC){x:fX S.A (kU sh)}{m:Gh}{vals:L Value}{al:L ff}{bl:L Nat}
  (c:HL sh bs a g s w x s1 ow m vals al bl):wW sh bs (cG ds ow bs fr s1).1 (cG ds ow bs fr s1).2 s g w x a (m.base (dN ow s1.aL)) w vals al bl:=by
 have r:∀b∈bs,b<bC:=λb i=>by exact iP (c.TX b i).2.1 hs.aL
 have n:∀o,o∉ow->o<s.aL->dN ow s1.aL o=J:=λo h1 h2=>oR h1 (c.aL▸h2);have l:=c.alr.owned c.pr.iE;refine⟨c.rel.base (λo q=>?_) rfl (cu _) (λo ob hpo f=>?_),⟨hf.size,(gN (λv=>jc (dN ow s1.aL) v) (λ_ _=>rfl) fr.df).rel (λt v ht z=>(ht.ext c.ext hs.bx).on (m.gP _) (λ_ _=>rfl) z) hf.df,λk t R=>?_⟩,c.pr,c.at_,⟨c.Ip.1,λj o b h1 h2=>?_⟩,λo q e=>?_,λE F b i o A=>?_,c.ap,⟨λo b i=>?_,λo e y hl hy=>?_,c.ext.bx,cu _,λ_ _ _=>rfl,λo b q A=>?_,c.ext.rO,rfl,rfl⟩,λE F b i=>?_⟩
 .simp only[dN,m7];exact .inr (Xv q)
 .rw[aS,sY r]at f;split at f
  .cases f
  .rw[Ft,fV]at f;obtain⟨B,I,rfl⟩:=f;exact⟨cU B,by rw[aS,I];rfl,nK _ B⟩
 .rw[bT,fV]at R;obtain⟨v,I,rfl⟩:=R
  let ⟨_,h2,h3⟩:=A7 C I
  let ⟨u,hu,hr⟩:=hf.tm k (low v) (by rw[bT,h2];rfl)
  exact⟨u,hu,(hr.ext c.ext hs.bx).on (m.gP _) (λ_ _=>rfl) (by rw[jc];exact h3)⟩
 .have f:=hJ h1;have:=c.TX o f;exact(m.gP _).bV o b (n o this.2.2.1 this.2.1) (c.Ip.2 j o b h1 h2)
 .simp only[Gh.base];split
  .exact (c.TX o q).2.2.2 e
  .rfl
 .let ⟨h1,h2⟩:=Gh.gC A
  let ⟨o',K,P⟩:=l E F b i
  have:=c.rel.kJ o o' b h2 P;subst this;exact(lC h1).1 K
 .have p:=hs.lt i;exact(m.gP _).bV o b (n o (λz=>by rw[c.owb o z]at i;cases i) p) (c.ext.bV o b i)
 .have p:=hs.lt' hy;exact(m.gP _).arr o e y (n o (λz=>by have:=(c.XY o z).2.1;omega) p) (c.ext.arr o e y hy)
 .obtain h|h:=c.ext.own o b (Gh.gC A).2
  .grind
  omega
 .let ⟨o,q,A⟩:=l E F b i
  obtain h|h:=c.ext.own o b A
  .exact .inl ⟨o,(c.XY o q).1,h⟩
  omega
theorem RG{ex:L Nat}{v:Sh}{jT:bU S}(hds:∀d∈ds,d<bC)(i:∀b∈bs,b<s1.aL∧b∉ow)(E:s1.aL<=bC)(hlo:s.lo<=s1.aL)(how:∀o∈ow,s.lo<=o)(F:∀o b,g.bV o=Z b->o<s1.aL∧o∉ow)(I:s1.lo=s.lo)(K:s1.fl=s.fl)
  {a':Act} {w':World} {al:L ff} {gb gh:Gh} {BT:bU S} {k:bu S}
  (P:n5 s.lo s.fl g w gh w') (hh:Bi ex sh bs a' gb (cG ds ow bs fr s1).1 (cG ds ow bs fr s1).2 w' al gh BT k)
  {s2 n:bu S} {g2 z:Gh} {a2:Act} {C:World} (h:fJ k gh w' s2 g2 C)
  {x:fX S.A (kU v)} {A:L Nat} {vals:L Value} {R:L ff} {bl2:L Nat} (f:HL v bs a2 g2 s2 C x n A z vals R bl2)
  (hwr:Up s1.aL bs n.wr=W) (ajW:A.all (λo=>Nl s1.aL o)=W) (hdr:n.dr.all (λo=>Nl s1.aL o)=W) (hfr:cL (z.base (dN ow s1.aL)) (bB jT) a2 C) :
  wW v bs jT (cG ds ow bs fr s1).2 s g w x a2 (z.base (dN ow s1.aL)) C vals R bl2:=by
 have l:∀b∈bs,b<bC:=λb m=>iP (i b m).1 E;have p:(cG ds ow bs fr s1).2.aL=s1.aL:=rfl;have hlen:s1.aL<=k.aL:=p▸hh.aL;have how2':∀o∈A,s1.aL<=o:=λo q=>by
  simp_all
 have hwr':∀o∈n.wr,s1.aL<=o∨o∈bs:=λo q=>by
  simp_all[Up]
 have r:=f.alr.owned f.pr.iE;have t:k.fl=s.fl:=hh.fl.trans (show(cG ds ow bs fr s1).2.fl=s.fl from K);have agt:k.lo=s.lo:=hh.lo.trans (show(cG ds ow bs fr s1).2.lo=s.lo from I);have B:n5 s.lo s.fl g w g2 C:=P.trans (t▸agt▸h.ext);have YY:s2.fl=s.fl:=h.fl.trans t;have a:n5 s.lo s.fl g w z C:=B.trans (YY▸f.ext.I8 s.lo);refine⟨f.rel.base (aL:=s1.aL) (λo q=>?_) rfl ?_ (λo ob hpo c=>?_),hfr,f.pr,f.at_,⟨f.Ip.1,λj o b h1 h2=>?_⟩,λo q e=>?_,λa' ha b m o hO=>?_,f.ap,⟨λo b m=>?_,λo e y hl hy=>?_,a.bx,a.size,a.heap,λo b q hO=>?_,a.rO,a.os,a.output⟩,λa' ha b m=>?_⟩
 .simp_all[dN]
 .have e1:(aI n).aL=n.aL:=rfl;have:=h.aL;have:=f.aL;omega
 .rw[aS,sY l]at c;split at c
  .cases c
  .rename_i hnb;rw[Ft,fV]at c;obtain⟨vob,hv,rfl⟩:=c;have u:=(lC hpo).2;have hnw:o∉n.wr:=λhm=>by
    grind
   have aqi:o∉s2.wr:=λhm=>hnw (f.uE o hm);have e1:n.ob.get o=Z (gJ (dN ow s1.aL) vob):=by rw[f.same o hnw,h.same o (iP u hlen) aqi,hh.ob o (p▸u) hnb,sY l,bJ hnb,hv];rfl
   grind[aS,Hs]
 .have c:=hJ h1;exact(z.gP _).bV o b (oR (i o c).2 (i o c).1) (f.Ip.2 j o b h1 h2)
 .simp only[Gh.base];split
  .exact (f.TX o q).2.2.2 e
  .rfl
 .let ⟨h1,h2⟩:=Gh.gC hO
  let ⟨o',ho',VI⟩:=r a' ha b m
  have:=f.rel.kJ o o' b h2 VI
  grind[lC]
 .exact (z.gP _).bV o b (oR (F o b m).2 (F o b m).1) (a.bV o b m)
 .exact (z.gP _).arr o e y (oR (λhm=>by grind) (by omega)) (a.arr o e y hl hy)
 .exact a.own o b q (Gh.gC hO).2
 .let ⟨o,q,hO⟩:=r a' ha b m
  exact a.own o b (by have:=(f.XY o q).1;omega) hO
def iV.tmps{a a':Act}(h:a'.tmps=a.tmps):∀{sh:Sh}{vs:L Value},iV a sh vs->iV a' sh vs
 |[],[],_=>trivial|(_,.one _)::_,_::_,k=>⟨by rw[h];exact k.1,iV.tmps h k.2⟩
 |(_,.box _)::l,_::_,k=>iV.tmps (sh:=l) h k|(_,.hid _)::l,_,k=>iV.tmps (sh:=l) h k|[],_::_,k=>k.elim|(_,.one _)::_,[],k=>k.elim|(_,.box _)::_,[],k=>k.elim
theorem eU.split{g:Gh}{w:World}:∀{l1 l2:L Df}{m:L Deferred},eU g w (l1++l2) m->∃a b,m=a++b∧eU g w l1 a∧eU g w l2 b
 |[],_,m,h=>⟨[],m,rfl,.nil,h⟩|_::l1,l2,_,.cons h t=>by obtain⟨a,b,rfl,h1,h2⟩:=eU.split (l1:=l1) (l2:=l2) t;exact⟨_::a,b,rfl,.cons h h1,h2⟩
 |_::l1,l2,_,.marks o bs c h t=>by obtain⟨a,b,rfl,h1,h2⟩:=eU.split (l1:=l1) (l2:=l2) t;exact⟨_++a,b,(KO _ _ _).symm,.marks o bs c h h1,h2⟩
 |_::l1,l2,_,.kg d t=>by obtain⟨a,b,rfl,h1,h2⟩:=eU.split (l1:=l1) (l2:=l2) t;exact⟨_++a,b,(KO _ _ _).symm,.kg d h1,h2⟩
def eU.one{g:Gh}{w:World}:∀{os:L Nat}{m:L Deferred},eU g w (os.map Df.mark) m->∃bl,PW (λo b=>g.bV o=Z b) os bl∧m=bl.map λb=>{target:=.collected b,args:=#[]}
 |[],_,.nil=>⟨[],⟨rfl,λj o b h=>by simp at h⟩,rfl⟩
 |o::os,_,.cons h t=>by
  obtain⟨bl,h1,rfl⟩:=eU.one t;cases h with
  |mark _ b f=>
  refine⟨b::bl,⟨by simp[h1.1],λj a c d e=>?_⟩,rfl⟩;cases j with|zero=>simp_all|succ j=>exact h1.2 j a c (by simpa using d) (by simpa using e)
theorem bq.Pf{s:St}{w:World}{o:Nat}(m:s.ob.get o=Z .FQ)(u:o<s.aL):∀(bl:L Nat){g:Gh},bq g s w->bl.Nodup->(∀b∈bl,b<w.heap.size∧¬g.bx b∧(∀k,¬bG g k b)∧w.heap[b]?=Z (.deferred (Z [])))->
  ∃g',bq g' s w∧nA g g'∧g'.bV=g.bV∧g'.bx=g.bx∧(∀k,k≠o->g'.arr k=g.arr k)∧(∀k b,bG g' k b->bG g k b∨(k=o∧b∈bl))∧∀b∈bl,g'.arr o b=Z ⟨Z ⟨b,0,Y⟩,0,1,0⟩
 |[],g,f,_,_=>⟨g,f,nA.refl _,rfl,rfl,λ_ _=>rfl,λ_ _ h=>.inl h,λb v=>by cases v⟩
 |b::bl,g,f,hn,v=>by
  let ⟨b1,b2,b3,b4⟩:=v b fA
  have z:g.arr o b=Y:=by
   cases i:g.arr o b with
   |none=>rfl|some x=>
    exfalso;obtain⟨A,_,_,h,_⟩|⟨_,_,_,_,_,_,h,_⟩|⟨_,_,_,h,_⟩|h|⟨_,h1,h2,h3,_⟩:=(f.arr o b x i).2 _ m
    .cases A<;>cases h
    .cases h
    .cases h
    .cases h
    .exact b3 o ⟨h3,.inr ⟨b,x,_,i,h1,rfl,h2⟩⟩
  let r:Gh:={g with arr:=λk e=>if k=o∧e=b then Z ⟨Z ⟨b,0,Y⟩,0,1,0⟩else g.arr k e}
  have j:∀k e y,g.arr k e=Z y->r.arr k e=Z y:=λk e y h=>by
   grind
  have n:nA g r:=⟨λ_ _ h=>h,j,λ_ h=>h⟩;have l:∀k c,bG r k c->bG g k c∨(k=o∧c=b):=by
   rintro k c ⟨h1,h2|⟨e,x,F,h2,h3,h4,h5⟩⟩
   .exact .inl ⟨h1,.inl h2⟩
   .by_cases d:k=o∧e=b
    .grind
    .have h2:(if k=o∧e=b then Z ⟨Z ⟨b,0,Y⟩,0,1,0⟩else g.arr k e)=Z x:=h2;rw[bJ d]at h2;exact .inl ⟨h1,.inr ⟨e,x,F,h2,h3,h4,h5⟩⟩
  have B:bq r s w:=by
   refine⟨f.aL,λk d=>⟨(f.ai k d).1,λe=>?_⟩,λk c p=>?_,λk e x i=>?_,f.bx,λk I c h h'=>?_⟩
   .show (if k=o∧e=b then _ else g.arr k e)=_;rw[bJ (λh=>by omega)];exact(f.ai k d).2 e
   .let ⟨C,t,k3⟩:=f.box k c p
    exact⟨C,t,λob a=>let ⟨x,h1,h2⟩:=k3 ob a;⟨x,h1,h2.imp λ_ _ ht=>ht.le n⟩⟩
   .by_cases d:k=o∧e=b
    .have i:(if k=o∧e=b then Z ⟨Z ⟨b,0,Y⟩,0,1,0⟩else g.arr k e)=Z x:=i;rw[cn d]at i;cases i;obtain⟨rfl,rfl⟩:=d;refine⟨λF ha _=>by grind,λob a=>?_⟩;rw[m]at a;cases a;exact .inr (.inr (.inr (.inr ⟨rfl,rfl,by simp,b2,b4⟩)))
    .have E:g.arr k e=Z x:=by have i:(if k=o∧e=b then Z ⟨Z ⟨b,0,Y⟩,0,1,0⟩else g.arr k e)=Z x:=i;rwa [bJ d]at i
     let ⟨C,t⟩:=f.arr k e x E
     refine⟨C,λob a=>?_⟩;by_cases q:k=o
     .subst q;rw[m]at a;cases a;obtain⟨A,_,_,h,_⟩|⟨_,_,_,_,_,_,h,_⟩|⟨_,_,_,h,_⟩|h|h:=t _ m
      .cases A<;>cases h
      .cases h
      .cases h
      .cases h
      .exact .inr (.inr (.inr (.inr h)))
     .exact (t ob a).tr (λh=>h.j6 rfl) j (funext λK=>by show(if k=o∧K=b then _ else g.arr k K)=_;rw[bJ (λh=>q h.1)]) (λ_ _ _=>⟨rfl,uZ⟩)
   .obtain P|⟨P,e2⟩:=l k c h
    .obtain R|⟨R,e4⟩:=l I c h'
     .exact f.kJ k I c P R
     simp_all
    grind
  let ⟨g',q1,S,q3,q4,q5,q6,q7⟩:=B.Pf m u bl (Nf.1 hn).2 (λc p=>by
   grind)
  refine⟨g',q1,n.trans S,q3,q4,λk d=>(q5 k d).trans (funext λe=>by show(if k=o∧e=b then _ else g.arr k e)=_;rw[bJ (λh=>d h.1)]),λk c hO=>?_,λc p=>?_⟩
  .grind
  .obtain rfl|p:=fy.1 p
   .exact S.arr o c _ (by show(if o=o∧c=c then _ else g.arr o c)=_;rw[cn ⟨rfl,rfl⟩])
   grind
def Marks(aL fl:Nat)(base:bU S×bu S)(c:bU S)(g:Gh)(w:World):Prop:=
 ∃os d,c.df=os.map r7.mark++d∧d.length=base.1.df.length∧os.Nodup∧(∀o∈os,aL<=o∧∀b,g.bV o=Z b->w.heap[b]?=Z (.deferred (Z [])))∧
  (os=[]∨∃a rest,base.1.df=.marks a::rest∧base.2.ob.get a=Z .FQ∧a<aL∧fl<=a)
theorem Marks.mono{aL fl:Nat}{base:bU S×bu S}{c:bU S}{g g':Gh}{w:World}{a:Act}(h:Marks aL fl base c g w)(hf:cL g (bB c) a w)(v:∀o b,g.bV o=Z b->g'.bV o=Z b):Marks aL fl base c g' w:=by
 let ⟨os,d,l,n,p,q,r⟩:=h
 refine⟨os,d,l,n,p,λo m=>⟨(q o m).1,λb x=>?_⟩,r⟩;have e:=hf.df;rw[show(bB c).df=(os.map r7.mark).map lY++d.map lY from by show c.df.map lY=_;rw[l,u0]]at e
 let ⟨y,z,_,f,_⟩:=e.split
 rw[List.map_map,show(lY∘r7.mark:Nat->Df)=Df.mark from rfl]at f
 let ⟨s,j,_⟩:=f.one
 obtain⟨i,t,rfl⟩:=qI m;have k:i<s.length:=by have:=j.1;omega
 have u:=j.2 i _ _ (iZ t) (iZ k)
 grind
def Dh{aL:Nat}{s:bu S}{g:Gh}{w:World}(hs:bq g (aI s) w):∀{l:L (r7 S)}{os:L Nat},tP aL s l=Z os->l=os.map r7.mark∧∀o∈os,aL<=o∧∀b,g.bV o=Z b->w.heap[b]?=Z (.deferred (Z []))
 |[],os,h=>by simp only[tP,gV]at h;subst h;exact⟨rfl,λo f=>by cases f⟩
 |.mark o::l,os,h=>by
  simp[tP]at h;split at h
  .rename_i i;obtain⟨j,h⟩|⟨_,h⟩:=ah h
   .split at h
    .rename_i c;simp at h;subst h
     let ⟨h1,h2⟩:=Dh hs c
     refine⟨by rw[h1];rfl,λe a=>?_⟩;obtain rfl|a:=fy.1 a
     .refine ⟨g9 j,λb d=>?_⟩
      let ⟨x,k,c⟩:=(hs.box e b d).2.2 .zP (by rw[aS,i];rfl)
      cases c;exact k
     .exact h2 e a
    .cases h
   .cases h
  .cases h
 |.call _ _::_,_,h=>by simp[tP]at h
 |.marks _::_,_,h=>by simp[tP]at h
 |.kg::_,_,h=>by simp[tP]at h
 |.bad::_,_,h=>by simp[tP]at h
theorem z4{aL:Nat}{base:bU S×bu S}{fr':bU S}{s':bu S}{g:Gh}{w:World}(hs:bq g (aI s') w)(h:Qg aL base fr' s'=W):Marks aL s'.fl base fr' g w:=by
 unfold Qg at h;split at h;rotate_left
 .cases h
 rename_i os a;simp only[eK,m7]at h
 let ⟨h1,h2,h3⟩:=h
 let ⟨b,c⟩:=Dh hs a
 have h2:=beq_iff'.1 h2;rw[bR,bR,bR]at h2;refine⟨os,fr'.df.drop (Nat.sub (cB fr'.df) (cB base.1.df)),by rw[<-b,abN],?_,lD h1,c,?_⟩
 .grind[bR]
 .obtain h3|h3:=h3
  .simp_all
  .right
   unfold aiS at h3;split at h3
   .split at h3
    .simp_all
    .cases h3
   .cases h3
def J8{ex:L Nat}(aqN:∀k∈ex,k∈ds){Qe:Sh}(hds:∀d∈ds,d<bC)(VD:∀b∈bs,b<s1.aL∧b∉ow)(acT:s1.aL<=bC)(hlo:s.lo<=s1.aL)(how:∀o∈ow,s.lo<=o)(hgb:∀o b,g.bV o=Z b->o<s1.aL∧o∉ow)(hsh:EZ ds sh=W)(akF:s1.lo=s.lo)(akG:s1.fl=s.fl)
  {a':Act} {w':World} {al:L ff} {gb gh:Gh} {BT:bU S} {r:bu S}
  (VB:n5 s.lo s.fl g w gh w') (hh:Bi ex sh bs a' gb (cG ds ow bs fr s1).1 (cG ds ow bs fr s1).2 w' al gh BT r)
  {B:bU S} {s2 s3:bu S} {g2 F:Gh} {a2:Act} {C:World} (p:fJ r gh w' s2 g2 C) (hf2:cL g2 (bB B) a2 C) (hfo:eG ds BT B s2.dr r.aL) (hn2:B.n=BT.n) (hmk:Marks s1.aL s.fl (cG ds ow bs fr s1) B g2 C)
  {x:fX S.A (kU Qe)} {ME:L Nat} {vals:L Value} {Bc:L ff} {bl2:L Nat} (f:HL Qe bs a2 g2 s2 C x s3 ME F vals Bc bl2)
  (hwr:Up s1.aL bs s3.wr=W) (ajW:ME.all (λo=>Nl s1.aL o)=W) (hdr:s3.dr.all (λo=>Nl s1.aL o)=W) :
  ∃I,wW Qe bs (cG ds ow bs fr s1).1 (cG ds ow bs fr s1).2 s g w x a2 I C vals Bc bl2∧I.bx=F.bx:=by
 have aku:∀b∈bs,b<bC:=λb hb=>iP (VD b hb).1 acT;have apW:(cG ds ow bs fr s1).2.aL=s1.aL:=rfl;have hlen:s1.aL<=r.aL:=apW▸hh.aL;have akp:∀o∈s2.dr,s1.aL<=o:=λo ho=>by rw[gY]at hdr;exact g9 (hdr o (f.dr▸ho))
 have DX:=f.alr.owned f.pr.iE;have akh:r.fl=s.fl:=hh.fl.trans (show(cG ds ow bs fr s1).2.fl=s.fl from akG);have agt:r.lo=s.lo:=hh.lo.trans (show(cG ds ow bs fr s1).2.lo=s.lo from akF);have akk:n5 s.lo s.fl g w g2 C:=VB.trans (akh▸agt▸p.ext);have YY:s2.fl=s.fl:=p.fl.trans akh;have akj:n5 s.lo s.fl g w F C:=akk.trans (YY▸f.ext.I8 s.lo);have hQ:∀o,dN s2.dr r.aL o=W->dN ow s1.aL o=W:=λo ho=>by
  simp only[dN,m7,Fp,nP]at ho ⊢;obtain ho|ho:=ho
  .exact .inr (Xv (akp o ho))
  .have:=g9 ho;exact .inr (Xv (by omega))
 have hT:∀t v,aP g2 C t v->dP (dN ow s1.aL) t=J->aP (F.base (dN ow s1.aL)) C t v:=λt v ht hm=>(ht.ext f.ext p.rel.bx).on (F.gP _) (λ_ _=>rfl) hm
 let ⟨os,d,e1,e2,aqa,K,Dm⟩:=hmk
 have aqQ:o4 (dN s2.dr r.aL) (cG ds ow bs fr s1).1.df d:=by
  let ⟨c,d',k1,k2⟩:=hfo.df
  have hl:=k2.len;rw[hh.OO]at hl k2;have hdd:d'=d:=by have h1:c++d'=os.map r7.mark++d:=k1.symm.trans e1;exact(List.append_inj' h1 (by omega)).2
  rw[<-hdd];exact k2
 have hdb:=adw hQ (l:=fr.df) aqQ;have akq:=hf2.df;rw[show(bB B).df=(os.map r7.mark).map lY++d.map lY from by show B.df.map lY=_;rw[e1,u0]]at akq
 let ⟨m1,m2,aj3,hd1,hd2⟩:=akq.split
 rw[List.map_map,show(lY∘r7.mark:Nat->Df)=Df.mark from rfl]at hd1
 let ⟨bl,E,hm1⟩:=hd1.one
 rw[hdb]at hd2;have hd3:=adx hT (l:=fr.df) hd2;have htm:∀k t,(bB (cG ds ow bs fr s1).1).get k=Z t->∃v,a2.tmps[k]?=Z v∧aP (F.base (dN ow s1.aL)) C t v:=by
  intro k t hk;rw[bT,fV]at hk;obtain⟨v,hv,rfl⟩:=hk
  let ⟨h1,h2,h3⟩:=A7 hds hv
  have hgh:BT.get k=Z v:=by
   rw[hh.get k (λhm=>h1 (aqN k hm)) (λq hq hqk=>?_)]
   .exact hv
   .let ⟨qk,qp⟩:=q
    cases qp with|box cs=>rfl|hid cs=>rfl|one c=>unfold EZ at hsh;rw[gY]at hsh;have:=hsh _ hq;subst hqk;exact absurd (by simpa using this) h1
  obtain h4|h4:=hfo.tm k v h1 hgh
  .let ⟨u,hu,hr⟩:=hf2.tm k (low v) (by rw[bT,h4];rfl)
   exact⟨u,hu,(hr.ext f.ext p.rel.bx).on (F.gP _) (λ_ _=>rfl) (by rw[jc];exact h3)⟩
  .exfalso
   let ⟨o,Tw,WC⟩:=Vi h4 h3
   have:=(lC WC).2;simp only[dN,m7,Fp,nP]at Tw;obtain Tw|Tw:=Tw
   .have:=akp o Tw;omega
   .have:=g9 Tw;omega
 have hp':HL Qe bs {a2 with defers:=[]} g2 s2 C x s3 ME F vals Bc bl2:=⟨f.rel,f.ext,f.pr,iV.tmps (a:=a2) (a':={a2 with defers:=[]}) rfl f.at_,f.alr,f.Ip,f.now,f.XY,f.nbs,f.TX,f.fl,f.lo,f.aL,f.uE,f.same,f.dr,f.ap,f.owb⟩;have hsz:a2.tmps.size=(cG ds ow bs fr s1).1.n:=hf2.size.trans (hn2.trans hh.n);have m:=RG (fr:=fr) hds VD acT hlo how hgb akF akG VB hh p hp' hwr ajW hdr (jT:={(cG ds ow bs fr s1).1 with df:=[]}) ⟨hsz,.nil,htm⟩;obtain rfl|⟨oB,rest,akr,aj2,aqu,hflB⟩:=Dm
 .have Re:bl=[]:=xJ (by have:=E.1;simpa using this.symm);subst Re;subst hm1;exact⟨_,⟨m.rel,⟨hsz,by rw[aj3];exact hd3,htm⟩,m.pr,f.at_,m.Ip,m.X6,m.fresh,m.ap,m.ext,m.alo⟩,rfl⟩
 have hmb:(aI (cG ds ow bs fr s1).2).ob.get oB=Z .FQ:=by rw[aS,aj2];rfl
 have A:∀b∈bl,∃o∈os,g2.bV o=Z b:=λb hb=>by
  obtain⟨i,hi,rfl⟩:=qI hb;have P:i<os.length:=by have:=E.1;omega
  exact⟨os[i],IA P,E.2 i _ _ (iZ P) (iZ hi)⟩
 have R:∀{o b:Nat},g2.bV o=Z b->bG F o b:=λ{o b}hb=>⟨(f.rel.box o b (f.ext.bV o b hb)).1,.inl (f.ext.bV o b hb)⟩;have ac5:bl.Nodup:=by
  refine Ni.2 λi j hi hj hij heq=>?_;have hlen:=E.1;have P:i<os.length:=by omega
  have hj':j<os.length:=by omega
  have e1:=E.2 i _ _ (iZ P) (iZ hi);have e2:=E.2 j _ _ (iZ hj') (iZ hj);rw[<-heq]at e2;exact(Ni.1 aqa i j P hj' hij) (f.rel.kJ _ _ _ (R e1) (R e2))
 have aj0:∀b∈bl,∀k,¬bG (F.base (dN ow s1.aL)) k b:=λb hb k hO=>by
  let ⟨o,ho,z⟩:=A b hb
  let ⟨h1,h2⟩:=Gh.gC hO
  have:=f.rel.kJ k o b h2 (R z);subst this;have:=(lC h1).2;have:=(K k ho).1;omega
 let ⟨I,q1,q2,q3,q4,q5,q6,q7⟩:=m.rel.Pf hmb aqu bl ac5 (λb hb=>by
  let ⟨o,ho,z⟩:=A b hb
  exact⟨(p.rel.box o b z).2.1,(f.rel.box o b (f.ext.bV o b z)).1,aj0 b hb,(K o ho).2 b z⟩)
 have hd4:eU (F.base (dN ow s1.aL)) C ((r7.marks oB::rest).map lY) m2:=akr▸hd3;have hdf:eU I C ((cG ds ow bs fr s1).1.df.map lY) a2.defers:=by
  rw[akr,aj3,hm1];cases hd4 with
  |cons k _=>cases k
  |marks _ ms hnm hms ht=>
  rw[<-KO,<-u0];refine .marks oB (bl++ms) (Qr.2 ⟨ac5,hnm,λb hb c hc hbc=>?_⟩) (λb hb=>?_) (ht.imp (λt v ht=>ht.le q2) q2.bV)
  .subst hbc
   let ⟨n,c',hr⟩:=hms b hc
   cases hr with
   |sh _ _ _ _ sz _ hx=>
   obtain⟨fz,_,_,h,_⟩|⟨_,_,_,_,_,_,h,_⟩|⟨_,_,_,h,_⟩|h|⟨_,h1,h2,h3,_⟩:=(m.rel.arr oB b _ hx).2 _ hmb
   .cases fz<;>cases h
   .cases h
   .cases h
   .cases h
   .exact aj0 b hb oB ⟨h3,.inr ⟨b,_,_,hx,h1,rfl,h2⟩⟩
  .obtain hb|hb:=dW.1 hb
   .exact ⟨0,1,.sh _ _ _ _ 0 _ (q7 b hb)⟩
   .let ⟨n,c,hr⟩:=hms b hb
    exact⟨n,c,hr.le q2⟩
 have hfresh:∀b∈bl,(∃o,s.fl<=o∧bG g o b)∨w.heap.size<=b:=λb hb=>by
  let ⟨o,ho,z⟩:=A b hb
  exact akj.own o b (by have:=(K o ho).1;omega) (R z)
 refine⟨I,⟨q1,⟨hsz,hdf,λk t hk=>let ⟨v,hv,ht⟩:=htm k t hk;⟨v,hv,ht.le q2⟩⟩,q4▸m.pr,f.at_,⟨m.Ip.1,λj o b h1 h2=>by rw[q3];exact m.Ip.2 j o b h1 h2⟩,λo ho e=>?_,λa' ha b hb o hO=>?_,m.ap,⟨λo b hb=>?_,λo e y hl hy=>?_,λb hb=>?_,m.ext.size,m.ext.heap,λo b ho hO=>?_,λb hb=>?_,m.ext.os,m.ext.output⟩,m.alo⟩,q4⟩
 .rw[q5 o (λh=>by
   subst h;have:=sY (ow:=ow) (ds:=ds) (fr:=fr) (s1:=s1) aku o;rw[cn ho,aj2]at this;cases this)]
  exact m.X6 o ho e
 .obtain hO|⟨_,agI⟩:=q6 o b hO
  .exact m.fresh a' ha b hb o hO
  .let ⟨o1,Tw,BR⟩:=A b agI
   let ⟨o2,WC,VH⟩:=DX a' ha b hb
   have:=f.rel.kJ o1 o2 b (R BR) VH;subst this;rw[f.owb o1 WC]at BR;cases BR
 .rw[q3];exact m.ext.bV o b hb
 .exact q2.arr o e y (m.ext.arr o e y hl hy)
 .exact q2.bx b (m.ext.bx b hb)
 .obtain hO|⟨_,agI⟩:=q6 o b hO
  .exact m.ext.own o b ho hO
  .exact hfresh b agI
 .rw[q4]at hb;exact m.ext.rO b hb
theorem Wd{ex:L Nat}{k:Sh}{jT:bU S}(hs:bq g (aI s) w){q:Gh}{e:L Value}{l:L ff}{m:L Nat}{r:fX S.A (kU sh)}(c:HL sh bs a g s w r s1 ow q e l m)
  {a':Act} {w':World} {al:L ff} {gb n:Gh} {p:bU S} {f:bu S} (h:n5 s.lo s.fl g w n w') (i:Bi ex k bs a' gb jT (cG ds ow bs fr s1).2 w' al n p f) :
  fJ s g w {f with wr:=s1.ob.jI (gz (dN ow s1.aL))++(bs++s1.wr),dr:=ow++s1.dr} n w':=by
 have j:∀b∈bs,b<bC:=λb t=>iP (c.TX b t).2.1 hs.aL;refine⟨i.rel,h,i.fl.trans c.fl,i.lo.trans c.lo,?_,λo d=>?_,λo u d=>?_,λo d=>?_⟩
 .have:=i.aL;have v:(cG ds ow bs fr s1).2.aL=s1.aL:=rfl;have:=c.aL
  simp_all
 .exact eO _ (eO _ (c.uE o d))
 .simp at d;have h1:f.ob.get o=(cG ds ow bs fr s1).2.ob.get o:=i.ob o (by show o<s1.aL;have:=c.aL;omega) d.2.1;rw[h1,sY j,bJ d.2.1,<-c.same o d.2.2];cases x:s1.ob.get o with
  |none=>rfl|some ob=>
   grind[nY,Tr.qe]
 .exact eO _ (by rw[c.dr];exact d)
theorem O7{ex:L Nat}(f:∀k∈ex,k∈ds){h:Sh}(hs:bq g (aI s) w)(m:∀d∈ds,d<bC){z:Gh}{b:L Value}{n:L ff}{p:L Nat}{A:fX S.A (kU sh)}(r:HL sh bs a g s w A s1 ow z b n p)(B:EZ ds h=W)
  {a':Act} {w':World} {al:L ff} {gb t:Gh} {e:bU S} {i:bu S} (j:n5 s.lo s.fl g w t w') (l:Bi ex h bs a' gb (cG ds ow bs fr s1).1 (cG ds ow bs fr s1).2 w' al t e i) :
  fJ s g w {i with wr:=s1.ob.jI (gz (dN ow s1.aL))++(bs++s1.wr),dr:=ow++s1.dr} t w'∧eG ds fr e (ow++s1.dr) s.aL∧e.n=fr.n:=by
 refine⟨Wd (fr:=fr) hs r j l,⟨λk v y C=>?_,?_⟩,l.n⟩
 .cases u:cE (dN ow s1.aL) v with
  |true=>exact .inr (eB (jb (λo x=>fh _ x) (by rw[r.aL];omega)) v u)
  |false=>
   left
   rw[l.get k (λu=>y (f k u)) (λq K E=>?_),TZ m,bJ y,C]
   .simp_all
   .let ⟨P,F⟩:=q
    cases F with
    |box I=>rfl|hid I=>rfl|one c=>
     grind[EZ]
 .rw[l.OO];exact(uk (jb (λo x=>fh _ x) (by rw[r.aL];omega)) (λv=>rfl) fr.df).ok
end
theorem KF{g:Gh}{w:World}{fr:bU S}{a:Act}(hf:cL g (bB fr) a w):∀{rv:Rv}{vs:L (V S)},Xb fr rv=Z vs->∃vals,iV a (rv.map λp=>(p.1,Pk.one (.dat p.2))) vals∧PW (aP g w) (bz vs) vals
 |[],vs,h=>by simp only[Xb,gV]at h;subst h;exact⟨[],trivial,rfl,λj t v h=>by grind⟩
 |(k,c)::l,vs,h=>by
  simp[Xb]at h;split at h
  .rename_i v r h1 h2;simp at h;subst h
   let ⟨vals,h3,h4⟩:=KF hf h2
   let ⟨u,b,i⟩:=hf.tm k (low v) (by rw[bT,h1];rfl)
   refine⟨u::vals,⟨b,h3⟩,by simp[bz,qH,h4.1],λj t d e f=>?_⟩;cases j with|zero=>grind[bz]|succ j=>exact h4.2 j t d (by simpa[bz]using e) (by simpa using f)
  .cases h
def vE{g:Gh}{w:World}{a:Act}:∀{rv:Rv}{r:gr S.A (Iw rv)}{vals:L Value}{al:L ff}{I:Nat->Prop}{fr:bU S},jL S I w (Iw rv) r vals al->(∀b,I b->g.bx b)->iV a (rv.map λp=>(p.1,Pk.one (.dat p.2))) vals->
  fr.n<=bC->cL g (bB fr) a w->cL g (bB (xY rv r fr)) a w∧(xY rv r fr).n=fr.n∧∀k,k∉rv.map (·.1)->(xY rv r fr).get k=fr.get k
 |[],r,vals,al,I,fr,_,_,_,_,f=>⟨f,rfl,λ_ _=>rfl⟩|(k,t)::rv,r,vals,al,I,fr,q,n,e,l,f=>by
  cases q with
  | @dat _ _ x h v z al s u=>
  let ⟨o,e⟩:=e
  have d:k<fr.n:=by have:=(Xu.1 o).1;rw[f.size]at this;exact this
  have m:cL g (bB (fr.put k (.ty t x))) a w:=by
   refine⟨f.size,f.df,λj y c=>?_⟩;rw[bT,bU.jS _ _ _ _ (iP d l)]at c;by_cases i:j=k
   .subst i;rw[cn rfl]at c;simp at c;subst c;exact⟨v,o,pM (s.le n)⟩
   .rw[bJ i]at c;exact f.tm j y (by rw[bT];exact c)
  let ⟨h1,h2,h3⟩:=vE (rv:=rv) (fr:=fr.put k (.ty t x)) u n e l m
  refine⟨h1,h2,λj c=>?_⟩;simp only[kW,fy,not_or]at c;rw[show xY ((k,t)::rv) (x,h) fr=xY rv h (fr.put k (.ty t x))from rfl,h3 j c.2,bU.jS _ _ _ _ (iP d l),bJ c.1]
theorem y5{ω:Type}{Q:xE S->bU S->bu S->O ω}{fr:bU S}{s:bu S}{r:ω}:∀{l:L Nat}{i:Nat},i∈l->ab1 Q fr s l (acN l i)=Z r->Q (.ext i) fr s=Z r
 |[],i,a,_=>by cases a
 |[j],i,a,h=>by simp at a;subst a;exact h
 |j::c::l,i,a,h=>by
  simp only[acN]at h;cases b:Nq j i with
  |true=>rw[b]at h;have:=beq_iff'.1 b;subst this;exact h|false=>
   rw[b]at h;have d:j≠i:=λe=>by simp_all
   refine y5 (l:=c::l) ?_ h
   grind
end
theorem yX{st:LoopState}{a:O Code}(h:Fi st a=W):st=.ready∧a=Y:=by
 unfold Fi at h
 grind
theorem Rk{g:Gh}{w:World}{fr:bU S}{a:Act}(hf:cL g (bB fr) a w)(hn:fr.n<=bC)(l:L Nat):∀k t,(bB (Oo l fr)).get k=Z t->∃v,a.tmps[k]?=Z v∧aP g w t v:=by
 have key:∀(l:L Nat)(t0:Tr (V S)),(∀k v,t0.get k=Z v->fr.get k=Z v)->∀k v,(l.foldl (λt k=>match fr.get k with|some v=>t.set aR k v|none=>t) t0).get k=Z v->fr.get k=Z v:=by
  intro l
  induction l with
  |nil=>grind|cons j l d=>
   intro t0 h;rw[Np];refine d _ λk v b=>?_;split at b
   .rename_i u e;have f:j<bC:=by
     have:(bB fr).get j=Z (low u):=by rw[bT,e];rfl
     let ⟨x,i,_⟩:=hf.tm j _ this
     have:=hf.size;have h2:=(Xu.1 i).1;have h3:(bB fr).n=fr.n:=rfl;omega
    rw[Tr.bn _ _ _ _ f]at b
    grind
   grind
 intro k t b;rw[bT]at b;cases c:(Oo l fr).get k with|none=>simp_all|some v=>rw[c]at b;have h1:=key l .nil (λk v h=>by simp[Tr.get_nil]at h) k v c;exact hf.tm k t (by rw[bT,h1];exact b)
theorem Nb{E:eT S}(hE:fq E){call:fU S}(R:gA E.T.E.P call)(n:Nat)(fid:FuncId)(rv:Rv){gv:Operand}{ps:Array Tmp}{p body:Code}{i:Nat}{ω:Type}{Q:xE S->bU S->bu S->O ω}{r:ω}{fr:bU S}{s:bu S}
  (h:zk E call n fid rv (.rangeFunc gv ps p body) i Q fr s=Z r) (hn:fr.n<=bC) {g:Gh} {a:Act} {w:World} (hf:cL g (bB fr) a w) (hs:bq g (aI s) w) :
  (Code.rangeFunc gv ps p body).wpIn (WR Y) 0 E.T.E.P (Kg (eX (.rangeFunc gv ps p body)++rv.map (·.1)) fr s g w Q r) a w:=by
 simp only[zk]at h;split at h
 .cases h
 rename_i args hfa;obtain⟨hb,h1⟩|⟨_,h1⟩:=ah h
 rotate_left
 .cases h1
 clear h;simp only[eK]at hb
 let ⟨_,_,aki,z⟩:=hb
 have z:s.aL+1<bC:=g9 z;simp only[vF]at hfa
 let ⟨tf,htf,Lt⟩:=hfa
 have YS:=bQ hf (cr htf);have m:=rf Lt;unfold xA at m;split at m;rotate_left
 .cases m
 rename_i f' first cap C
 simp only[gV,fP]at m;obtain⟨rfl,I⟩:=m;rw[C]at YS;generalize hvf:a.eval gv=vf at YS;cases YS with
 |fn _ _ _ va vc l1 l2 r1 r2=>
 let ⟨II,he1⟩:=hs.newObj (ob0:=.zP) (x0:=.deferred (Z [])) (by show s.aL<bC;omega) .zP
 have agb:(ey (aI s) Ob.zP).2=aI (dc s .zP):=(gS s .zP).symm;rw[agb]at II;refine wpIn_rangeFunc λfn _=>?_
 let b:Loop:={state:=.ready,pending:=Y,fn,tmps:=a.tmps,params:=ps,assign:=p,body,defers:=w.heap.size}
 let lv:LpV S:=⟨.ready,Y,fid,Oo (uF p++uF body) fr,ps.toList,p,body⟩
 have hf1:cL (g.dJ (aI s).aL w.heap.size) (bB fr) a (w.alloc (.deferred (Z []))):=hf.ext he1 hs.bx
 let ⟨K,YZ⟩:=II.newObj (ob0:=.lp (yh lv)) (x0:=.loop b) (by exact z)
  (.lp _ b rfl rfl rfl rfl rfl hf1.size (Rk hf1 hn _))
 have apQ:(ey (aI (dc s .zP)) (Ob.lp (yh lv))).2=aI (dc (dc s .zP) (.lp lv)):=(gS _ (.lp lv)).symm;rw[apQ]at K;have A:(Instr.enterLoop fn a.tmps ps p body Y).run E.T.E.P w=.ok (w.heap.size+1,[{target:=.collected w.heap.size,args:=#[]}]) ((w.alloc (.deferred (Z []))).alloc (.loop b)):=run_enterLoop_outer _ _ _ _ _;generalize hW2:(w.alloc (.deferred (Z []))).alloc (.loop b)=W2 at K YZ A;generalize hg2:(g.dJ (aI s).aL w.heap.size).dJ (aI (dc s .zP)).aL (w.alloc (.deferred (Z []))).heap.size=g2 at K YZ;have akv:g2.bV s.aL=Z w.heap.size:=by rw[<-hg2];simp[Gh.dJ,aI,dc]
 have F:g2.bV (s.aL+1)=Z (w.heap.size+1):=by rw[<-hg2];simp[Gh.dJ,aI,dc]
 have he:Ext s.fl g w g2 W2:=he1.trans YZ;have hall:PW (aP g2 W2) (bz args) (va++#[Value.func (.yield (w.heap.size+1)) #[] #[]]++vc).toList:=by rw[<-I];simp only[US];refine PW.append (PW.append ⟨by simpa using l1,λj x y h1 h2=>(r1 j x y h1 (by simpa using h2)).ext he hs.bx⟩ ⟨rfl,λj x y h1 h2=>?_⟩) ⟨by simpa using l2,λj x y h1 h2=>(r2 j x y h1 (by simpa using h2)).ext he hs.bx⟩;cases j with|zero=>simp only[bz,Ng,gV]at h1 h2;subst h1;subst h2;exact .rB _ _ F|succ j=>grind
 let ⟨Oi,hc⟩:=AT hE R K h1 hall
 refine⟨w.heap.size+1,[{target:=.collected w.heap.size,args:=#[]}],W2,{target:=.fn (.func f') vc,args:=va++#[Value.func (.yield (w.heap.size+1)) #[] #[]]},W2,f',va++#[Value.func (.yield (w.heap.size+1)) #[] #[]]++vc,W2,A,?_,λ_ _=>trivial,?_,λh=>by simp[Fence.wide]at h,Rz.2 (hc.mono λe w' he'=>?_)⟩
 .simp_all[resolve,Deferred.ofValue,Act.eval]
 .grind[invoke,xd]
 cases e with
 |panicked ch=>
  let ⟨v,t,B,g',_,h1,_⟩:=he'
  cases h1
 |outgrown=>exact he'.elim|returned v=>
 let ⟨t,B,g',ow,h1,_,f⟩:=he'
 dsimp only at h1;split at h1;rotate_left
 .cases h1
 rename_i l ho;obtain⟨hrd,h2⟩|⟨_,h2⟩:=ah h1
 rotate_left
 .cases h2
 let ⟨hst,hpe⟩:=yX hrd
 have u:=f.ext.bV _ _ F;have ho':(aI B).ob.get (s.aL+1)=Z (.lp (yh l)):=by rw[aS,show B.ob.get (s.aL+1)=Z (.lp l)from ho];rfl
 let ⟨x,hx,hr⟩:=(f.rel.box _ _ u).2.2 _ ho'
 cases hr with
 |lp _ L' q1 q2 q4 q5 q6 q8 q9=>
 have hfl:B.fl<=s.aL+1:=by
  have h0:B.fl=s.fl:=f.fl
  simp_all
 let ⟨Q5,Ez⟩:=f.rel.setObj (w':=w'.putObj (w.heap.size+1) (.loop {L' with state:=.exhausted})) u ho' rfl hfl (x':=.loop {L' with state:=.exhausted}) (ob':=.lp (yh {l with st:=.exhausted})) (.lp _ _ rfl q2 q4 q5 q6 q8 q9)
  World.putObj_size (λb' hb'=>World.putObj_heap_other hb') (World.putObj_heap_same (f.rel.box _ _ u).2.1) rfl rfl
 refine⟨Y,w'.putObj (w.heap.size+1) (.loop {L' with state:=.exhausted}),?_,?_⟩
 .have:=run_endLoop (P:=E.T.E.P) hx (by rw[q1];show l.st≠.busy;rw[hst];simp);rw[this];rw[q2];show Result.ok l.u5 _=_;rw[hpe]
 have hfo:eG [] fr (dy ow fr) B.dr s.aL:=BB hn (dst:=Y) rfl f.owd s.aL ej;refine .inr ⟨.qJ,_,_,g',.qJ,h2,sR ow fr,?_,?_,⟨λk v _ hk=>hfo.tm k v (λh=>by cases h) hk,?_⟩⟩;rotate_left;rotate_left
 .let ⟨c,d,q1,q2⟩:=hfo.df
  exact⟨_::c,d,by show _::(dy ow fr).df=_;rw[show(dy ow fr).df=c++d from q1];rfl,q2⟩
 .have hf2:cL g2 (bB fr) a W2:=hf.ext he hs.bx;have hf3:cL g' (bB (dy ow fr)) a w':=nH hf2 f;have hf4:=hf3.ext Ez f.rel.bx;exact⟨hf4.size,.cons (.mark _ _ (f.ext.bV _ _ akv)) hf4.df,hf4.tm⟩
 .have hn1:s.aL<bC:=by omega
  have hl1:=jt s (.zP:ux S) hn1;have hl2:=jt (dc s (.zP:ux S)) (.lp lv) z;have C:aI {B with ob:=B.ob.set aR (Ns s.aL) (.lp {l with st:=.exhausted})}={aI B with ob:=(aI B).ob.set aR (s.aL+1) (cU (.lp {l with st:=.exhausted}))}:=fL B _ _ B.wr;refine⟨by rw[C];exact Q5,(he.I8 s.lo).trans ((show n5 s.lo s.fl g2 _ g' w' from f.ext).trans ?_),f.fl,f.lo,gk (by show s.aL<=s.aL+1+1;omega) f.aL,λo ho=>f.uE o ho,λo ho hno=>?_,λo ho=>f.IS o ho⟩
  .have:=Ez.I8 s.lo;rw[show(aI B).fl=s.fl from f.fl]at this;exact this
  .have e1:o≠Ns s.aL:=by omega
   show(B.ob.set aR (Ns s.aL) _).get o=_;rw[Tr.dA _ _ _ _ _ e1,f.same o (by show o<s.aL+1+1;omega) hno,hl2.same o (by show o<s.aL+1;omega) (λhm=>hno (f.uE o hm)),hl1.same o ho (λhm=>hno (f.uE o hm))]
section
def r6(E:eT S)(call:fU S):Prop:=
 ∀(id:Nat)(ops:Array Oper){ω:Type}(kp:bU S->V S->bu S->O ω)(k:bU S->bu S->O ω)(r:ω)(fr:bU S)(s:bu S),
  ZQ E fr s ops.toList (wB ops.toList)=W->
  ua E call ops.toList (wB ops.toList) (ops.toList.zipIdx.map λp=>(p.2,p.1)) kp k (Ns (Nat.mul 2 (cB ops.toList))) 0 fr s=Z r->fr.n<=bC->
  ∀{g:Gh}{a:Act}{w:World},cL g (bB fr) a w->bq g (aI s) w->∀{Q:Exit->Act->World->Prop},
  (∀fr' s' g' a' w',k fr' s'=Z r->fr'.n=fr.n->cL g' (bB fr') a' w'->fJ s g w s' g' w'->eG (ops.toList.filterMap (·.dst)) fr fr' s'.dr s.aL->Q .normal a' w')->
  (∀fr' t s' g' a' v w',kp fr' t s'=Z r->fr'.n=fr.n->cL g' (bB fr') a' w'->fJ s g w s' g' w'->eG (ops.toList.filterMap (·.dst)) fr fr' s'.dr s.aL->aP g' w' (low t) v->Q (.panic [{v,recovered:=J}]) a' w')->
  ∀rr:O Nat,(rr≠Y->PL (.region id ops W)=W)->(Code.region id ops W).wpIn (WR rr) 0 E.T.E.P Q a w
theorem pY{s:bu S}:∀{cs:L Ck}{l:L (V S)}{x:gr S.A cs}{fz ow:L Nat},jK cs=W->fY s cs l=Z (x,fz,ow)->ow=[]
 |[],[],x,fz,ow,_,h=>by
  grind[fY]
 |.dat t::cs,v::l,x,fz,ow,a,h=>by
  simp[fY]at h;split at h
  .rename_i b;obtain⟨_,_,rfl⟩:=h;have:=pY (cs:=cs) (by simpa[jK]using a) b
   grind[oF]
  .cases h
 |.own _::_,_,_,_,_,a,_=>by simp[jK]at a
 |.j0 ..::_,_,_,_,_,a,_=>by simp[jK]at a
 |.nil _::_,_,_,_,_,a,_=>by simp[jK]at a
 |.ptr _::_,_,_,_,_,a,_=>by simp[jK]at a
 |[],_::_,_,_,_,_,h=>by simp[fY]at h
 |.dat _::_,[],_,_,_,_,h=>by simp[fY]at h
def Cs:∀rv:Rv,jK (Iw rv)=W
 |[]=>rfl|_::rv=>Cs rv
def Lf(fr:bU S)(c:Operand)(b:Bool):(fr.tS c b).n=fr.n:=by
 unfold bU.tS;split
 .rename_i k;cases Nt k fr.n<;>rfl
 .rfl
variable {w:World}{fr:bU S}{a:Act}{c:Code}{b:Bool}{k:Nat}{rr:Option Nat}{P:Program}{Q:Exit->Act->World->Prop}
def Gj{g:Gh}{c:Operand}(hn:fr.n<=bC)(hf:cL g (bB fr) a w)(i:a.eval c=.bool b):cL g (bB (fr.tS c b)) a w:=by
 unfold bU.tS;split
 .rename_i k;cases l:Nt k fr.n with
  |false=>exact hf|true=>
   have e:k<fr.n:=g9 l;refine⟨hf.size,hf.df,λj t d=>?_⟩;simp at d;rw[bT,bU.jS _ _ _ _ (iP e hn)]at d;by_cases f:j=k
   .subst f;rw[cn rfl]at d;simp at d;subst d;have h:j<a.tmps.size:=by rw[hf.size];exact e
    have:a.tmps[j]?=Z (.bool b):=by have:=i;simp[Act.eval,Array.getD_eq_getD_getElem?,vG h,Jo]at this;rw[vG h,this]
    exact⟨_,this,.kb b⟩
   .rw[bJ f]at d;exact hf.tm j t (by rw[bT];exact d)
 .exact hf
def Tm(hn:fr.n<=bC)(c:Operand)(b:Bool)(dr:L Nat)(aL:Nat):eG (TU c) fr (fr.tS c b) dr aL:=by
 unfold bU.tS;split
 .rename_i k;cases d:Nt k fr.n with|false=>exact eG.refl _ _ _ _|true=>have a:k<fr.n:=g9 d;refine⟨λj v e f=>.inl ?_,xU.refl _ _⟩;simp;rw[bU.jS _ _ _ _ (iP a hn),bJ (by simpa[TU]using e)];exact f
 .exact eG.refl _ _ _ _
theorem Wi{ω:Type}{e:Bool}{x y:O ω}{r:ω}(h:IZ e x y=Z r):y=Z r∧(e=W->x=Z r):=by
 unfold IZ at h
 grind
def pP(ds:L Nat):∀sh:Sh,EZ ds (PK sh)=W
 |[]=>rfl|(_,.one _)::l=>pP ds l|(_,.box _)::l=>by
  have:=pP ds l
  simp_all[PK,EZ]
 |(_,.hid _)::l=>by
  have:=pP ds l
  simp_all[PK,EZ]
theorem jY{s:bu S}{fr:bU S}{k o r:Nat}(i:fr.get k=Z (.sh o r)):∀{sh:Sh}{ps:L Pk}{bs:L Nat}{vs:L (V S)}{m:O Nat}{x:fX S.A ps}{fz ow f:L Nat},kU sh=ps->uY fr sh bs=Z vs->eL s ps vs m=Z (x,fz,ow,f)->k∈QC sh->o∈ow
 |[],_,_,_,_,_,_,_,_,_,_,_,d=>by simp[QC]at d
 |(j,.one c)::sh,ps,bs,vs,m,x,fz,ow,f,a,h1,h2,d=>by
  simp[uY]at h1;split at h1;rotate_left
  .cases h1
  rename_i q p g;simp at h1;subst h1
  replace a:Pk.one c::kU sh=ps:=a
  subst a;simp[eL]at h2;split at h2;rotate_left
  .cases h2
  rename_i u h;obtain⟨_,_,rfl,_⟩:=h2;cases c with
  |dat t=>exact eO _ (jY i rfl g h d)|j0 n j t=>exact eO _ (jY i rfl g h d)|nil e=>exact eO _ (jY i rfl g h d)|ptr t=>exact eO _ (jY i rfl g h d)|own e=>
   obtain rfl|d:=fy.1 d
   .rw[i]at p;cases p;simp[oF]at u
    grind
   .exact eO _ (jY i rfl g h d)
 |(j,.box l)::sh,ps,[],vs,m,x,fz,ow,f,a,h1,h2,d=>by simp[uY]at h1
 |(j,.box l)::sh,ps,b::bs,vs,m,x,fz,ow,f,a,h1,h2,d=>by
  simp[uY]at h1;split at h1;rotate_left
  .cases h1
  rename_i g;simp at h1;subst h1
  replace a:Pk.box l::kU sh=ps:=a
  subst a;simp[eL]at h2;split at h2;rotate_left
  .cases h2
  obtain⟨_,h2⟩|⟨_,h2⟩:=ah h2
  rotate_left
  .cases h2
  split at h2;rotate_left
  .cases h2
  split at h2;rotate_left
  .cases h2
  rename_i h;obtain⟨_,_,rfl,_⟩:=h2;exact eO _ (jY i rfl g h d)
 |(j,.hid l)::sh,ps,[],vs,m,x,fz,ow,f,a,h1,h2,d=>by simp[uY]at h1
 |(j,.hid l)::sh,ps,b::bs,vs,Y,x,fz,ow,f,a,h1,h2,d=>by
  replace a:Pk.hid l::kU sh=ps:=a
  subst a;cases vs<;>simp[eL]at h2
 |(j,.hid l)::sh,ps,b::bs,vs,Z v,x,fz,ow,f,a,h1,h2,d=>by
  simp[uY]at h1
  replace a:Pk.hid l::kU sh=ps:=a
  subst a;obtain⟨_,h2⟩|⟨_,h2⟩:=ah h2
  rotate_left
  .cases h2
  split at h2;rotate_left
  .cases h2
  split at h2;rotate_left
  .cases h2
  rename_i h;obtain⟨_,_,rfl,_⟩:=h2;exact eO _ (jY i rfl h1 h d)
def nI{ds:L Nat}{k:Nat}:∀{sh:Sh},k∈Zx ds sh->k∈QC sh
 |[],h=>h|(j,.one (.own e))::sh,h=>by
  simp only[Zx]at h;simp[QC,fy];obtain a|a:=Bool.eq_false_or_eq_true (ds.contains j)
  .rw[a]at h;exact .inr (nI h)
  .rw[a]at h;obtain rfl|h:=fy.1 h
   .exact .inl rfl
   .exact .inr (nI h)
 |(j,.one (.dat t))::sh,h=>nI (sh:=sh) h|(j,.one (.j0 ..))::sh,h=>nI (sh:=sh) h|(j,.one (.nil _))::sh,h=>nI (sh:=sh) h|(j,.one (.ptr _))::sh,h=>nI (sh:=sh) h|(j,.box b)::sh,h=>nI (sh:=sh) h|(j,.hid b)::sh,h=>nI (sh:=sh) h
def XZ{s c:bu S}{sh:Sh}{bs ow:L Nat}{x:fX S.A (kU sh)}{o r:Nat}(h:pX sh bs fr s=Z (x,c,ow))(d:k∈QC sh)(e:fr.get k=Z (.sh o r)):o∈ow:=by
 unfold pX at h;split at h
 .cases h
 rename_i a;split at h
 .cases h
 rename_i b;split at h
 .cases h
 obtain⟨_,h2⟩|⟨_,h2⟩:=ah h
 .obtain ⟨_,_,rfl⟩:=h2;exact jY e rfl a b d
 .cases h2
def HM(rr:O Nat)(P:Program)(c:Code)(Q:Exit->Act->World->Prop)(a:Act)(w:World):Prop:=
 ∀(b:Frame)(k:L Item)(cs:L Frame),b.roundOf=rr->∃e a' w',Q e a' w'∧ad5 rr P (lone (b.atR a (.code c::.inLoop c::k)) cs w) b k cs e a' w'
def Kp(h:HM rr P c Q a w):(Code.loop c).wpIn (WR rr) 0 P Q a w:=λb k g f _ _=>
 let ⟨e,i,j,l,d⟩:=h b k g f
 ⟨e,i,j,l,.of_steps (iX.2 (.one stepR_loop)) d⟩
def tQ(h:c.wpIn (WR rr) 0 P (Exit.then (HM rr P c Q) Q) a w):HM rr P c Q a w:=by
 intro b k o i
 let ⟨e,j,m,g,d⟩:=h b (.inLoop c::k) o i trivial (M7 _)
 cases e with
 |normal=>
  let ⟨p,q,r,n,f⟩:=g b k o i
  exact⟨p,q,r,n,.of_steps (iX.2 ((iX.1 d).trans (.one stepR_inLoop))) f⟩
 |exit id=>exact⟨_,j,m,g,.pass (x:=.inLoop c) rfl (λ_ _=>.inl (by simp)) d⟩
 |goto l=>exact⟨_,j,m,g,.pass (x:=.inLoop c) rfl (λ_ _=>.inl (by simp)) d⟩
 |ret=>exact⟨_,j,m,g,.pass (x:=.inLoop c) rfl (λ_ _=>.inl (by simp)) d⟩
 |panic s=>exact⟨_,j,m,g,.pass (x:=.inLoop c) rfl (λ_ _=>.inl (by simp)) d⟩
 |outgrown=>exact⟨_,j,m,g,.pass (x:=.inLoop c) rfl (λ_ _=>.inl (by simp)) d⟩
def QO(I:Act->World->Prop)(μ:Act->World->Nat)(round:∀a w,I a w->c.wpIn (WR rr) 0 P (Exit.then (λa' w'=>I a' w'∧μ a' w'<μ a w) Q) a w) :
  ∀(m:Nat)(a:Act)(w:World),μ a w<=m->I a w->HM rr P c Q a w:=by
 intro m
 induction m with
 |zero=>
  intro a w f d;refine tQ (wpIn_mono (round a w d) λe a' w' b=>?_);cases e with|normal=>have:=b.2;omega|_=>exact b
 |succ m g=>
  intro a w f d;refine tQ (wpIn_mono (round a w d) λe a' w' b=>?_);cases e with|normal=>exact g a' w' (by have:=b.2;omega) b.1|_=>exact b
def xh{a:Bool}(h:(a&&b)=W):a=W∧b=W:=Bz.1 h
theorem SW{id:Nat}{ops:Array Oper}{d:Bool}(h:PL (.region id ops d)=W):∀o∈ops.toList,∀c,o.op≠.defer c:=by
 grind[PL]
theorem Q1{E:eT S}(hE:fq E)(rv:Rv){rr:O Nat}{b:Code}{ev:{ω:Type}->(xE S->bU S->bu S->O ω)->bU S->bu S->O ω}
  (hev:∀{ω:Type}{Q:xE S->bU S->bu S->O ω}{r:ω}{fr:bU S}{s:bu S},ev Q fr s=Z r->fr.n<=bC->s.lo<=s.aL->∀{g:Gh}{a:Act}{w:World},cL g (bB fr) a w->bq g (aI s) w->b.wpIn (WR rr) 0 E.T.E.P (Kg (eX b++rv.map (·.1)) fr s g w Q r) a w)
  {ω:Type} {sh:Sh} {pts:L Pt} {al:L (Nat×Nat)} {Q:xE S->bU S->bu S->O ω} {r:ω} {fr:bU S} {s:bu S} (h:YD E rv ev sh pts al (eX b++rv.map (·.1)) (wj (kP b)) Q fr s=Z r) (hn:fr.n<=bC) (hlo:s.lo<=s.aL) {g:Gh} {a:Act} {w:World} (hf:cL g (bB fr) a w) (hs:bq g (aI s) w) :
  b.wpIn (WR rr) 0 E.T.E.P (Kg (eX b++rv.map (·.1)) fr s g w Q r) a w:=by
 unfold YD at h;split at h
 .cases h
 rename_i bs agp;split at h
 .cases h
 rename_i x0 A ow hpk;obtain⟨hb,h2⟩|⟨_,h2⟩:=ah h
 rotate_left
 .cases h2
 clear h;rw[eK,eK]at hb
 let ⟨⟨JH,u⟩,Za⟩:=hb
 rw[eK,eK]at u
 let ⟨u,Zf,agN⟩:=u
 let ⟨o,n,c⟩:=qx h2
 clear h2;generalize hds:(eX b++rv.map (·.1))++(Zx (eX b++rv.map (·.1)) sh++al.map (·.1))=ds at *
 let ⟨bl0,Re⟩:=sI hf hs agp
 have Ls:∀d∈ds,d<bC:=λd hd=>by rw[gY]at Za;exact iP (g9 (Za d hd)) hn
 have VF:∀p∈al,p.1<bC:=λp hp=>Ls _ (by grind);have VE:∀k∈al.map (·.1),k∈ds:=λk hk=>by grind
 let ⟨g1,WS,DC,bl1,l⟩:=kA hE.sg hf hs Re hpk
 have Rc:=HC (fr:=fr) hf hs Ls l;have age:A.aL<=bC:=l.rel.aL;have Zd:(cG ds ow bs fr A).1.n<=bC:=hn;have fix:∀{i:bU S},eG ds fr i (ow++A.dr) s.aL->eG (eX b++rv.map (·.1)) fr i (ow++A.dr) s.aL:=by
  intro i hfo;refine⟨λk v hk hv=>?_,hfo.df⟩;by_cases B:k∈ds
  .right
   rw[<-hds]at B;obtain B|B:=dW.1 B
   .grind
   .obtain B|B:=dW.1 B
    .unfold adm at u;rw[gY]at u;have h1:=u k B;split at h1
     .rename_i r' ho';rw[hv]at ho';cases ho';have:=XZ hpk (nI B) hv;simp[cE,dN,this]
     .cases h1
    .obtain ⟨p,hp,rfl⟩:=nO.1 B;obtain⟨o1,r1,rfl,this⟩:=Pd agN hp hv;simp[cE,dN,this]
  .exact hfo.tm k v B hv
 have Zg:abf a w al:=xC hf hs Zf;have hbase:wW sh bs (cG ds ow bs fr A).1 (cG ds ow bs fr A).2 s g w x0 a _ w WS DC bl1:=Rc;unfold Fb at n;split at n
 .cases n
 rename_i agR w9 Oh
 let ⟨gh,hh0,VB⟩:=hbase.head Zd Oh
 have hh:=hh0.mA VF Zg;generalize mA w9 al agR=BT at hh n;have aqH:BT.n=fr.n:=hh.n;have acV:w9.lo<=w9.aL:=by have h1:w9.lo=s.lo:=hh.lo.trans l.lo;have h2:=hh.aL;have h3:(cG ds ow bs fr A).2.aL=A.aL:=rfl;have:=l.aL;omega
 refine wpIn_mono (hev n (by omega) acV hh.fr hh.rel) λe Pg m hq=>?_;obtain hF|⟨ex,PS,s2,g2,h1,h2,h3,h4,h5,h6⟩:=hq
 .exact hF.elim
 replace h6:eG ds BT PS s2.dr w9.aL:=h6.mono (λk hk=>by grind) (λ_ h=>h)
 obtain⟨agB,h2⟩|⟨_,h2⟩:=ah h2
 rotate_left
 .cases h2
 have Rb:s2.fl=s.fl:=h5.fl.trans (hh.fl.trans l.fl);have hmk:∀{Lv:Gh},(∀o b,g2.bV o=Z b->Lv.bV o=Z b)->Marks A.aL s.fl (cG ds ow bs fr A) PS Lv m:=λ{Lv}hq=>by have:=z4 h5.rel agB;rw[Rb]at this;exact this.mono h4 hq
 have next:∀{I:Sh}{y:fX S.A (kU I)}{K s3:bu S}{Lv:Gh}{ME:L Nat},fJ w9 gh w K Lv m->(∀o b,g2.bV o=Z b->Lv.bV o=Z b)->cL Lv (bB PS) Pg m->eG ds BT PS K.dr w9.aL->pX I bs PS K=Z (y,s3,ME)->
   Up A.aL bs s3.wr=W->ME.all (λo=>Nl A.aL o)=W->s3.dr.all (λo=>Nl A.aL o)=W->
   ∃z f P R,wW I bs (cG ds ow bs fr A).1 (cG ds ow bs fr A).2 s g w y Pg z m f P R∧∀b,Lv.bx b->z.bx b:=by
  intro I y K s3 Lv ME k1 k0 k2 k3 k4 k5 k6 k7
  let ⟨g3,f,P,R,hp2⟩:=kA hE.sg (bl0:=bl1) k2 k1.rel ⟨hbase.Ip.1,λj o b q1 q2=>k1.ext.bV o b (hh.le.bV o b (hbase.Ip.2 j o b q1 q2))⟩ k4
  let ⟨z,DV,pF⟩:=J8 VE Ls (λb hb=>⟨by have:=(l.TX b hb).2.1;rw[l.aL];exact this,(l.TX b hb).2.2.1⟩) age (by rw[l.aL];exact hlo) (λo ho=>(l.XY o ho).2.1) (λo b hb=>⟨by rw[l.aL];exact hs.lt hb,λhm=>by rw[l.owb o hm]at hb;cases hb⟩) JH l.lo l.fl VB hh k1 k2 k3 h3 (hmk k0) hp2 k5 k6 k7
  exact⟨z,f,P,R,DV,λb hb=>by rw[pF];exact hp2.ext.bx b hb⟩
 have leave:∀{I:Sh}{y:fX S.A (kU I)}{z:Gh}{f:L Value}{P:L ff}{R:L Nat}{i:bU S}{C:bu S},EZ ds I=W->wW I bs (cG ds ow bs fr A).1 (cG ds ow bs fr A).2 s g w y Pg z m f P R->mS I bs y (cG ds ow bs fr A).1 (cG ds ow bs fr A).2=Z (i,C)->
   ∃gy,cL gy (bB i) Pg m∧(∀b,z.bx b->gy.bx b)∧fJ s g w {C with wr:=A.ob.jI (gz (dN ow A.aL))++(bs++A.wr),dr:=ow++A.dr} gy m∧eG ds fr i (ow++A.dr) s.aL∧i.n=fr.n:=by
  intro I y z f P R i C agc k1 k2
  let ⟨gy,k3,k4⟩:=k1.head Zd k2
  let ⟨k5,k6,k7⟩:=O7 (ex:=[]) (λ_ h=>by cases h) hs Ls l agc k4 k3
  exact⟨gy,k3.fr,k3.le.bx,k5,k6,k7⟩
 cases h1 with
 |qJ=>
  obtain⟨Zi,h2⟩|⟨_,h2⟩:=ah h2
  rotate_left
  .cases h2
  simp[uN]at h2;split at h2
  .rename_i y s3 ME F;obtain⟨hc,h2⟩|⟨_,h2⟩:=ah h2
   rotate_left
   .cases h2
   simp only[eK]at hc
   let ⟨z,f,P,R,k1,_⟩:=next h5 (λ_ _ h=>h) h4 h6 F hc.1 hc.2.1 hc.2.2
   cases h2;simp only at c;split at c
   .cases c
   .rename_i i C Vz
    let ⟨gy,l1,_,l2,l3,l4⟩:=leave JH k1 Vz
    let ⟨m1,m2,m3,m4⟩:=lR (s:=C) l2.rel VF (xC h4 h5.rel Zi) l1
    exact .inr ⟨.qJ,mA C al i,_,gy,.qJ,c,m2.trans l4,m1,l2,fix ⟨λk v hk hv=>by rw[m4 k λhm=>hk (VE k hm)];exact l3.tm k v hk hv,by rw[m3];exact l3.df⟩⟩
  .cases h2
 |ext j=>
  obtain⟨hj,h2⟩|⟨_,h2⟩:=ah h2
  rotate_left
  .cases h2
  simp[uN]at h2;split at h2
  .rename_i y s3 ME F;obtain⟨hc,h2⟩|⟨_,h2⟩:=ah h2
   rotate_left
   .cases h2
   simp only[eK]at hc
   let ⟨z,f,P,R,k1,_⟩:=next h5 (λ_ _ h=>h) h4 h6 F hc.1 hc.2.1 hc.2.2
   cases h2;simp only at c;split at c
   .cases c
   .rename_i i C Vz
    let ⟨gy,l1,_,l2,l3,l4⟩:=leave JH k1 Vz
    rw[eK]at hj;have hjm:j∈wj (kP b):=by grind
    let ⟨m1,m2,m3,m4⟩:=lR (s:=C) l2.rel VF (xC h4 h5.rel hj.2) l1
    exact .inr ⟨.ext j,mA C al i,_,gy,.ext j,y5 hjm c,m2.trans l4,m1,l2,fix ⟨λk v hk hv=>by rw[m4 k λhm=>hk (VE k hm)];exact l3.tm k v hk hv,by rw[m3];exact l3.df⟩⟩
  .cases h2
 |ret=>
  simp only at h2;split at h2
  .cases h2
  rename_i vs hvs;split at h2;rotate_left
  .cases h2
  rename_i r' fz owr Vx;split at h2;rotate_left
  .cases h2
  rename_i K hfz;simp[uN]at h2;split at h2
  .rename_i y s3 ME F;obtain⟨hc,h2⟩|⟨_,h2⟩:=ah h2
   rotate_left
   .cases h2
   simp only[eK]at hc
   let ⟨aiA,Gz,oe⟩:=KF h4 hvs
   let ⟨p1,p2,p3⟩:=gl hE.sg h5.rel Vx oe
   let ⟨g3,Q5,Ez,Ra⟩:=eI fz h5.rel (dx hE.sg _ hfz) p1
   have agm:owr=[]:=pY (Cs rv) Vx
   let ⟨alr,ze,_⟩:=p3 g3 (aI K) fz Q5 Ez Ra (λo ho=>ho) (λo ho=>by simp_all)
   let ⟨f1,f2,f3,f4,f5,f6,f7⟩:=eM hfz
   have xO:fJ s2 g2 m K g3 m:=⟨Q5,Ez.I8 _,f1,f2,CW f3.symm,f4,λo _ ho=>f5 o ho,λo ho=>by grind⟩;have hf3:cL g3 (bB PS) Pg m:=h4.ext Ez h5.rel.bx
   let ⟨z,f,P,R,k1,k2⟩:=next (h5.trans xO) Ez.bV hf3 (by grind) F hc.1 hc.2.1 hc.2.2
   cases h2;simp only at c;split at c
   .cases c
   .rename_i i C Vz
    let ⟨gy,l1,l0,l2,l3,l4⟩:=leave (pP ds sh) k1 Vz
    let ⟨m1,m2,m3⟩:=vE (g:=gy) (w:=m) (a:=Pg) (fr:=i) ze (λb hb=>l0 b (k2 b hb)) Gz (by omega) l1
    have hdf:∀(rv:Rv)(r:gr S.A (Iw rv))(fr:bU S),(xY rv r fr).df=fr.df:=by
     intro rv
     induction rv with|nil=>intro _ _;rfl|cons q rv ih=>intro r fr;let ⟨k,t⟩:=q;exact ih _ _
    refine .inr ⟨.ret,_,_,gy,.ret,c,m2.trans l4,m1,l2,⟨λk v hk hv=>?_,by rw[hdf];exact l3.df⟩⟩;rw[m3 k (λhm=>hk (eO _ hm))];exact(fix l3).tm k v hk hv
  .cases h2
 |hU t v hv=>
  obtain⟨hpn,h2⟩|⟨_,h2⟩:=ah h2
  rotate_left
  .cases h2
  split at h2;rotate_left
  .cases h2
  rename_i r' fz owr Vx;split at h2;rotate_left
  .cases h2
  rename_i K hfz;simp[uN]at h2;split at h2;rotate_left
  .cases h2
  rename_i F;obtain⟨hc,h2⟩|⟨_,h2⟩:=ah h2
  rotate_left
  .cases h2
  simp only[eK]at hc;have oe:PW (aP g2 m) (bz [t]) [v]:=⟨rfl,λj t' v' q1 q2=>by
   grind[bz]⟩
  let ⟨p1,p2,p3⟩:=gl hE.sg h5.rel Vx oe
  let ⟨g3,Q5,Ez,Ra⟩:=eI fz h5.rel (dx hE.sg _ hfz) p1
  have agm:owr=[]:=pY (cs:=[.dat S.pt]) rfl Vx
  let ⟨alr,ze,_⟩:=p3 g3 (aI K) fz Q5 Ez Ra (λo ho=>ho) (λo ho=>by grind)
  let ⟨f1,f2,f3,f4,f5,f6,f7⟩:=eM hfz
  have xO:fJ s2 g2 m K g3 m:=⟨Q5,Ez.I8 _,f1,f2,CW f3.symm,f4,λo _ ho=>f5 o ho,λo ho=>by grind⟩;have hf3:cL g3 (bB PS) Pg m:=h4.ext Ez h5.rel.bx
  let ⟨z,f,P,R,k1,k2⟩:=next (h5.trans xO) Ez.bV hf3 (by grind) F hc.1 hc.2.1 hc.2.2
  cases h2;simp only at c;obtain⟨_,c⟩|⟨_,c⟩:=ah c
  rotate_left
  .cases c
  split at c
  .cases c
  .rename_i i C Vz
   let ⟨gy,l1,l0,l2,l3,l4⟩:=leave (pP ds sh) k1 Vz
   refine .inr ⟨.hU (.ty S.pt r'.1),i,_,gy,.hU _ v ?_,c,l4,l1,l2,fix l3⟩;cases ze with|@dat _ _ x h v vs al hd hr=>exact pM (hd.le λb hb=>l0 b (k2 b hb))
theorem pH{E:eT S}(hE:fq E){call:fU S}(AG:gA E.T.E.P call)(Zb:r6 E call)(n:Nat)(fid:FuncId)(rv:Rv){rr:O Nat}:∀(c:Code)(i:Nat){ω:Type}{Q:xE S->bU S->bu S->O ω}{r:ω}{fr:bU S}{s:bu S},
  zk E call n fid rv c i Q fr s=Z r->(rr≠Y->PL c=W)->fr.n<=bC->s.lo<=s.aL->∀{g:Gh}{a:Act}{w:World},cL g (bB fr) a w->bq g (aI s) w->c.wpIn (WR rr) 0 E.T.E.P (Kg (eX c++rv.map (·.1)) fr s g w Q r) a w:=by
 intro c
 induction c with
 |region id ops draw=>
  intro i ω Q r fr s h A hn hlo g a w hf hs;cases draw with
  |true=>
   obtain⟨hb,h⟩|⟨_,h⟩:=ah h
   rotate_left
   .cases h
   refine Zb id ops _ _ r fr s hb h hn hf hs (λl s' g' I F h1 h2 h3 h4 h5=>.inr ⟨.qJ,l,s',g',.qJ,h1,h2,h3,h4,h5.mono (λk B=>fh _ B) (λ_ h=>h)⟩)
    (λl t s' g' I v F h1 h2 h3 h4 h6 h5=>.inr ⟨.hU t,l,s',g',.hU t v h5,h1,h2,h3,h4,h6.mono (λk B=>fh _ B) (λ_ h=>h)⟩) rr A
  |false=>
   refine Xi ?_;have:=Dq hE AG (Q:=Kg (eX (.region id ops J)++rv.map (·.1)) fr s g w Q r) (rr:=rr) (λhr=>SW (A hr)) ops.toList 0 rfl hn h hf hs
    (λl s' g' I F h1 h2 h3 h4 h5=>.inr ⟨.qJ,l,s',g',.qJ,h1,h2,h3,h4,h5.mono (λk B=>fh _ B) (λ_ h=>h)⟩)
    (λl t s' g' I v F h1 h2 h3 h4 h6 h5=>.inr ⟨.hU t,l,s',g',.hU t v h5,h1,h2,h3,h4,h6.mono (λk B=>fh _ B) (λ_ h=>h)⟩)
   grind[List.range_eq_range']
 |seq x y ihx ihy=>
  intro i ω Q r fr s h A hn hlo g a w hf hs;have hds:∀k∈(eX x++rv.map (·.1))++(eX y++rv.map (·.1)),k∈eX (.seq x y)++rv.map (·.1):=by
   grind[eX]
  refine wpIn_seq (wpIn_mono (ihx i h (λhr=>(xh (A hr)).1) hn hlo hf hs) λe I F hq=>?_);obtain hF|⟨ex,l,s',g',h1,h2,h3,h4,h5,h6⟩:=hq
  .exact hF.elim
  .cases h1 with
   |qJ=>have:=ihy i h2 (λhr=>(xh (A hr)).2) (by omega) (by rw[h5.lo];exact gk hlo h5.aL) h4 h5.rel;exact wpIn_mono this λe a w hq=>(Kg.mono h3 h5 h6 hq).ds hds
   |ext j=>exact .inr ⟨_,l,s',g',.ext j,h2,h3,h4,h5,h6.mono (λk B=>hds k (fh _ B)) (λ_ h=>h)⟩|ret=>exact .inr ⟨_,l,s',g',.ret,h2,h3,h4,h5,h6.mono (λk B=>hds k (fh _ B)) (λ_ h=>h)⟩|hU t v hv=>exact .inr ⟨_,l,s',g',.hU t v hv,h2,h3,h4,h5,h6.mono (λk B=>hds k (fh _ B)) (λ_ h=>h)⟩
 |cond c x y ihx ihy=>
  intro i ω Q r fr s h A hn hlo g a w hf hs;have cnd:∀{ω:Type}{Q:xE S->bU S->bu S->O ω}{r:ω}{fr:bU S}{s:bu S},TT c (zk E call n fid rv x i) (zk E call n fid rv y i) Q fr s=Z r->fr.n<=bC->s.lo<=s.aL->∀{g:Gh}{a:Act}{w:World},cL g (bB fr) a w->bq g (aI s) w->
    (Code.cond c x y).wpIn (WR rr) 0 E.T.E.P (Kg (eX (.cond c x y)++rv.map (·.1)) fr s g w Q r) a w:=by
   clear h hn hlo hf hs;intro ω Q r fr s h hn hlo g a w hf hs;have hx:∀k∈eX x++rv.map (·.1),k∈eX (.cond c x y)++rv.map (·.1):=by
    grind[eX]
   have hy:∀k∈eX y++rv.map (·.1),k∈eX (.cond c x y)++rv.map (·.1):=by
    grind[eX]
   have R:∀k∈TU c,k∈eX (.cond c x y)++rv.map (·.1):=by
    grind[eX]
   have tru:a.eval c=.bool W->zk E call n fid rv x i Q (fr.tS c W) s=Z r->x.wpIn (WR rr) 0 E.T.E.P (Kg (eX (.cond c x y)++rv.map (·.1)) fr s g w Q r) a w:=λhv h=>
    wpIn_mono (ihx i h (λhr=>(xh (A hr)).1) (by rw[Lf];exact hn) hlo (Gj hn hf hv) hs) λe a w hq=>(Kg.mono (Lf _ _ _) (fJ.refl hs) (Tm hn c W _ _) hq).ds λk B=>(dW.1 B).elim (R k) (hx k)
   have fls:a.eval c=.bool J->zk E call n fid rv y i Q (fr.tS c J) s=Z r->y.wpIn (WR rr) 0 E.T.E.P (Kg (eX (.cond c x y)++rv.map (·.1)) fr s g w Q r) a w:=λhv h=>
    wpIn_mono (ihy i h (λhr=>(xh (A hr)).2) (by rw[Lf];exact hn) hlo (Gj hn hf hv) hs) λe a w hq=>(Kg.mono (Lf _ _ _) (fJ.refl hs) (Tm hn c J _ _) hq).ds λk B=>(dW.1 B).elim (R k) (hy k)
   unfold TT at h;split at h
   .rename_i R;have:=bQ hf (cr R);generalize hv:a.eval c=v at this;cases this;exact wpIn_cond_true hv (wpIn_mono (ihx i h (λhr=>(xh (A hr)).1) hn hlo hf hs) λe a w hq=>hq.ds hx)
   .rename_i R;have:=bQ hf (cr R);generalize hv:a.eval c=v at this;cases this;exact wpIn_cond_false hv (wpIn_mono (ihy i h (λhr=>(xh (A hr)).2) hn hlo hf hs) λe a w hq=>hq.ds hy)
   .rename_i e R;have:=bQ hf (cr R);generalize hv:a.eval c=v at this
    let ⟨h2,h1⟩:=Wi h
    cases this with
    |ub _ b hb=>
     simp_all[wpIn_cond_split]
   .rename_i t _ _ _ R;split at h
    .rename_i b hb
     let ⟨p,e,hp⟩:=l7 hb
     have hv:=jq e hp (bQ hf (cr R))
     grind[wpIn_cond_split,sv]
    .cases h
   .cases h
  grind[zk,Q1]
 |block j b ih=>
  intro i ω Q r fr s h A hn hlo g a w hf hs;refine wpIn_block (wpIn_mono (ih j h A hn hlo hf hs) λe I F hq=>?_);obtain hF|⟨ex,l,s',g',h1,h2,h3,h4,h5,h6⟩:=hq
  .exact hF.elim
  .cases h1 with
   |qJ=>exact .inr ⟨_,l,s',g',.qJ,h2,h3,h4,h5,h6⟩|ext k=>
    simp[Ow]at h2;simp[Exit.inBlock];split at h2
    .rename_i hji;rw[cn (beq_iff'.1 hji)];exact .inr ⟨_,l,s',g',.qJ,h2,h3,h4,h5,h6⟩
    .rw[bJ (λe=>by simp_all)];exact .inr ⟨_,l,s',g',.ext k,h2,h3,h4,h5,h6⟩
   |ret=>exact .inr ⟨_,l,s',g',.ret,h2,h3,h4,h5,h6⟩|hU t v hv=>exact .inr ⟨_,l,s',g',.hU t v hv,h2,h3,h4,h5,h6⟩
 |loop b ih=>
  intro i ω Q r fr s h A hn hlo g a w hf hs;simp[zk]at h;split at h
  .cases h
  rename_i sh pts al pl hsh;refine Kp ?_;clear hsh
  induction pl generalizing fr s g a w with
  |succ pl ihp=>
   refine tQ (wpIn_mono (ih i h A hn hlo hf hs) λe I F hq=>?_);obtain hF|⟨ex,l,s',g',h1,h2,h3,h4,h5,h6⟩:=hq
   .exact hF.elim
   have hds:∀k∈eX b++rv.map (·.1),k∈eX (.loop b)++rv.map (·.1):=λk B=>B;cases h1 with
   |qJ=>
    intro b1 k1 cs1 agh;have ihq:=ihp (fr:=l) (s:=s') (g:=g') (a:=I) (w:=F) (h:=h2) (hn:=by omega) (hlo:=by rw[h5.lo];exact gk hlo h5.aL) (hf:=h4) (hs:=h5.rel)
    let ⟨e,a2,w2,hq,Lu⟩:=ihq b1 k1 cs1 agh
    refine⟨e,a2,w2,?_,Lu⟩;exact(Kg.mono h3 h5 h6 hq).ds λk B=>(dW.1 B).elim (hds k) id
   |ext j=>exact .inr ⟨_,l,s',g',.ext j,h2,h3,h4,h5,h6⟩|ret=>exact .inr ⟨_,l,s',g',.ret,h2,h3,h4,h5,h6⟩|hU t v hv=>exact .inr ⟨_,l,s',g',.hU t v hv,h2,h3,h4,h5,h6⟩
  |zero=>
  simp[XV]at h
  suffices main:∀{fr:bU S}{s:bu S}{g:Gh}{a:Act}{w:World},Yo E n rv (zk E call n fid rv b i) sh pts al (eX b++rv.map (·.1)) (wj (kP b)) Q fr s=Z r->fr.n<=bC->s.lo<=s.aL->cL g (bB fr) a w->bq g (aI s) w->HM rr E.T.E.P b (Kg (eX (.loop b)++rv.map (·.1)) fr s g w Q r) a w by
   obtain⟨_,h⟩|⟨_,h⟩:=ah h
   rotate_left
   .simp_all
   obtain⟨hnb,h⟩|⟨_,h⟩:=ah h
   rotate_left
   .cases h
   have hnb:s.aL<bC:=g9 hnb;have hg:∀k,(dc s .FQ).ob.get k=if k=s.aL then Z .FQ else s.ob.get k:=λk=>Tr.bn _ _ _ _ hnb
   have II:bq g (aI (dc s .FQ)) w:=by
    refine⟨hnb,λo ho=>hs.ai o (Nat.le_of_succ_le ho),λo b hb=>?_,λo e x hx=>?_,hs.bx,hs.kJ⟩
    .let ⟨k1,k2,k3⟩:=hs.box o b hb
     refine⟨k1,k2,λob mR=>k3 ob ?_⟩;have:=hs.lt hb;rw[aS,hg,bJ (by have h:o<s.aL:=this;omega)]at mR;rw[aS];exact mR
    .let ⟨k1,k2⟩:=hs.arr o e x hx
     refine⟨k1,λob mR=>k2 ob ?_⟩;have:=hs.lt' hx;rw[aS,hg,bJ (by have h:o<s.aL:=this;omega)]at mR;rw[aS];exact mR
   have xO:fJ s g w (dc s .FQ) g w:=by refine⟨II,n5.refl _ _ _ _,rfl,rfl,CV _,λ_ h=>h,λo ho _=>?_,λ_ h=>h⟩;rw[hg,bJ (by omega)]
   intro b1 k1 cs1 agh
   let ⟨e,a2,w2,hq,Lu⟩:=main (fr:={fr with df:=.marks s.aL::fr.df}) (s:=dc s .FQ) h hn (Nat.le_succ_of_le hlo) ⟨hf.size,.marks s.aL [] .nil (λb hb=>by cases hb) hf.df,hf.tm⟩ II b1 k1 cs1 agh
   refine⟨e,a2,w2,?_,Lu⟩;exact(Kg.mono (ds:=[]) (fr:=fr) (sQ:={fr with df:=.marks s.aL::fr.df}) rfl xO ⟨λk v _ B=>.inl B,[.marks s.aL],fr.df,rfl,.refl _ _⟩ hq).ds λk B=>B
  clear h hn hlo hf hs;intro fr s g a w h hn hlo hf hs;unfold Yo at h;split at h
  .cases h
  rename_i bs agp;split at h
  .cases h
  rename_i x0 s1 ow hpk;obtain⟨hb,h2⟩|⟨_,h2⟩:=ah h
  rotate_left
  .cases h2
  clear h;rw[eK,eK]at hb
  let ⟨⟨JH,JJ⟩,Za⟩:=hb
  rw[eK,eK]at JJ
  let ⟨JJ,Zf,agN⟩:=JJ
  let ⟨o,akb,u⟩:=qx h2
  clear h2;generalize hds:(eX b++rv.map (·.1))++(Zx (eX b++rv.map (·.1)) sh++al.map (·.1))=ds at *
  let ⟨bl0,Re⟩:=sI hf hs agp
  have Ls:∀d∈ds,d<bC:=λd hd=>by rw[gY]at Za;exact iP (g9 (Za d hd)) hn
  have VF:∀p∈al,p.1<bC:=λp hp=>Ls _ (by grind);have VE:∀k∈al.map (·.1),k∈ds:=λk B=>by grind
  let ⟨g1,WS,DC,bl1,K⟩:=kA hE.sg hf hs Re hpk
  have Rc:=HC (fr:=fr) hf hs Ls K;have age:s1.aL<=bC:=K.rel.aL;have Zd:(cG ds ow bs fr s1).1.n<=bC:=hn;have fix:∀{P:bU S},eG ds fr P (ow++s1.dr) s.aL->eG (eX (.loop b)++rv.map (·.1)) fr P (ow++s1.dr) s.aL:=by
   intro P hfo;refine⟨λk v B hv=>?_,hfo.df⟩;by_cases vg:k∈ds
   .right
    rw[<-hds]at vg;obtain vg|vg:=dW.1 vg
    .exact absurd vg B
    .obtain vg|vg:=dW.1 vg
     .unfold adm at JJ;rw[gY]at JJ;have h1:=JJ k vg;split at h1
      .rename_i o' r' ho';rw[hv]at ho';cases ho';have:=XZ hpk (nI vg) hv;simp[cE,dN,this]
      .cases h1
     .obtain ⟨p,hp,rfl⟩:=nO.1 vg;obtain⟨o1,r1,rfl,this⟩:=Pd agN hp hv;simp[cE,dN,this]
   .exact hfo.tm k v vg hv
  let Inv (I:Act) (F:World) (m:Nat):Prop:=abf I F al∧∃x gb vals als bl,iter (Fb rv (zk E call n fid rv b i) sh bs s1.aL (wj (kP b)) (cG ds ow bs fr s1) E.pn al) m x=Z o∧wW sh bs (cG ds ow bs fr s1).1 (cG ds ow bs fr s1).2 s g w x I gb F vals als bl
  have YW:∀(I:Act)(F:World),∃m,(∃k,Inv I F k)->Inv I F m∧∀k,Inv I F k->m<=k:=by
   intro I F;by_cases hex:∃k,Inv I F k
   .obtain ⟨m,hm,hmin⟩:=Vm (λk=>Inv I F k) hex;exact⟨m,λ_=>⟨hm,hmin⟩⟩
   .exact ⟨0,λh=>absurd h hex⟩
  obtain⟨f,hM⟩:∃f:Act->World->Nat,∀I F,(∃k,Inv I F k)->Inv I F (f I F)∧∀k,Inv I F k->f I F<=k:=
   ⟨λI F=>Classical.choose (YW I F),λI F=>Classical.choose_spec (YW I F)⟩
  refine QO (λI F=>∃k,Inv I F k) f ?_ _ a w (cu _) ⟨n,xC hf hs Zf,x0,_,WS,DC,bl1,akb,Rc⟩;intro I F hI
  let ⟨⟨Zg,x,gb,vals,als,bl,hit,hbase⟩,hmin⟩:=hM I F hI
  let ⟨m,hm,o',Gx,Dm⟩:=Vu hit
  unfold Fb at Gx;split at Gx
  .cases Gx
  rename_i agR w9 Oh
  let ⟨gh,hh0,VB⟩:=hbase.head Zd Oh
  have hh:=hh0.mA VF Zg;generalize mA w9 al agR=BT at hh Gx;have aqH:BT.n=fr.n:=hh.n;have acV:w9.lo<=w9.aL:=by have h1:w9.lo=s.lo:=hh.lo.trans K.lo;have h2:=hh.aL;have h3:(cG ds ow bs fr s1).2.aL=s1.aL:=rfl;have:=K.aL;omega
  refine wpIn_mono (ih i Gx A (by omega) acV hh.fr hh.rel) λe Pg C hq=>?_;obtain hF|⟨ex,PS,s2,g2,h1,h2,h3,h4,h5,h6⟩:=hq
  .exact hF.elim
  replace h6:eG ds BT PS s2.dr w9.aL:=h6.mono (λk B=>by grind) (λ_ h=>h)
  obtain⟨agB,h2⟩|⟨_,h2⟩:=ah h2
  rotate_left
  .cases h2
  have Rb:s2.fl=s.fl:=h5.fl.trans (hh.fl.trans K.fl);have hmk:∀{Lv:Gh},(∀o b,g2.bV o=Z b->Lv.bV o=Z b)->Marks s1.aL s.fl (cG ds ow bs fr s1) PS Lv C:=λ{Lv}hq=>by have:=z4 h5.rel agB;rw[Rb]at this;exact this.mono h4 hq
  have next:∀{Qe:Sh}{y:fX S.A (kU Qe)}{s2' s3:bu S}{Lv:Gh}{ME:L Nat},fJ w9 gh F s2' Lv C->(∀o b,g2.bV o=Z b->Lv.bV o=Z b)->cL Lv (bB PS) Pg C->eG ds BT PS s2'.dr w9.aL->pX Qe bs PS s2'=Z (y,s3,ME)->
    Up s1.aL bs s3.wr=W->ME.all (λo=>Nl s1.aL o)=W->s3.dr.all (λo=>Nl s1.aL o)=W->
    ∃VM z uQ O3,wW Qe bs (cG ds ow bs fr s1).1 (cG ds ow bs fr s1).2 s g w y Pg VM C z uQ O3∧∀b,Lv.bx b->VM.bx b:=by
   intro Qe y s2' s3 Lv ME k1 k0 k2 k3 k4 k5 k6 k7
   let ⟨g3,z,uQ,O3,hp2⟩:=kA hE.sg (bl0:=bl) k2 k1.rel ⟨hbase.Ip.1,λj o b q1 q2=>k1.ext.bV o b (hh.le.bV o b (hbase.Ip.2 j o b q1 q2))⟩ k4
   let ⟨VM,DV,pF⟩:=J8 VE Ls (λb hb=>⟨by have:=(K.TX b hb).2.1;rw[K.aL];exact this,(K.TX b hb).2.2.1⟩) age (by rw[K.aL];exact hlo) (λo ho=>(K.XY o ho).2.1) (λo b hb=>⟨by rw[K.aL];exact hs.lt hb,λhm=>by rw[K.owb o hm]at hb;cases hb⟩) JH K.lo K.fl VB hh k1 k2 k3 h3 (hmk k0) hp2 k5 k6 k7
   exact⟨VM,z,uQ,O3,DV,λb hb=>by rw[pF];exact hp2.ext.bx b hb⟩
  have leave:∀{Qe:Sh}{y:fX S.A (kU Qe)}{VM:Gh}{z:L Value}{uQ:L ff}{O3:L Nat}{P:bU S}{sty:bu S},EZ ds Qe=W->wW Qe bs (cG ds ow bs fr s1).1 (cG ds ow bs fr s1).2 s g w y Pg VM C z uQ O3->mS Qe bs y (cG ds ow bs fr s1).1 (cG ds ow bs fr s1).2=Z (P,sty)->
    ∃gy,cL gy (bB P) Pg C∧(∀b,VM.bx b->gy.bx b)∧fJ s g w {sty with wr:=s1.ob.jI (gz (dN ow s1.aL))++(bs++s1.wr),dr:=ow++s1.dr} gy C∧eG ds fr P (ow++s1.dr) s.aL∧P.n=fr.n:=by
   intro Qe y VM z uQ O3 P sty agc k1 k2
   let ⟨gy,k3,k4⟩:=k1.head Zd k2
   let ⟨k5,k6,k7⟩:=O7 (ex:=[]) (λ_ h=>by cases h) hs Ls K agc k4 k3
   exact⟨gy,k3.fr,k3.le.bx,k5,k6,k7⟩
  cases h1 with
  |qJ=>
   obtain⟨Zi,h2⟩|⟨_,h2⟩:=ah h2
   rotate_left
   .cases h2
   simp[uN]at h2;split at h2
   .rename_i y s3 ME Q6;obtain⟨R,h2⟩|⟨_,h2⟩:=ah h2
    rotate_left
    .cases h2
    simp only[eK]at R
    let ⟨VM,z,uQ,O3,k1,_⟩:=next h5 (λ_ _ h=>h) h4 h6 Q6 R.1 R.2.1 R.2.2
    cases h2;obtain⟨y',hy',ac0⟩|⟨rfl,hno⟩:=Dm
    .cases hy';have hIy:Inv Pg C m:=⟨xC h4 h5.rel Zi,y,VM,z,uQ,O3,ac0,k1⟩;refine⟨⟨m,hIy⟩,?_⟩;have:=(hM Pg C ⟨m,hIy⟩).2 m hIy;omega
    grind
   .cases h2
  |ext j=>
   obtain⟨hj,h2⟩|⟨_,h2⟩:=ah h2
   rotate_left
   .cases h2
   simp[uN]at h2;split at h2
   .rename_i y s3 ME Q6;obtain⟨R,h2⟩|⟨_,h2⟩:=ah h2
    rotate_left
    .cases h2
    simp only[eK]at R
    let ⟨VM,z,uQ,O3,k1,_⟩:=next h5 (λ_ _ h=>h) h4 h6 Q6 R.1 R.2.1 R.2.2
    cases h2;obtain⟨y',hy',ac0⟩|⟨rfl,hno⟩:=Dm
    .cases hy'
    .simp only at u;split at u
     .cases u
     .rename_i P sty Vz
      let ⟨gy,l1,_,l2,l3,l4⟩:=leave JH k1 Vz
      rw[eK]at hj;have hjm:j∈wj (kP b):=by grind
      let ⟨m1,m2,m3,m4⟩:=lR (s:=sty) l2.rel VF (xC h4 h5.rel hj.2) l1
      exact .inr ⟨.ext j,mA sty al P,_,gy,.ext j,y5 hjm u,m2.trans l4,m1,l2,fix ⟨λk v B hv=>by rw[m4 k λhm=>B (VE k hm)];exact l3.tm k v B hv,by rw[m3];exact l3.df⟩⟩
   .cases h2
  |ret=>
   simp only at h2;split at h2
   .cases h2
   rename_i vs hvs;split at h2;rotate_left
   .cases h2
   rename_i r' fz owr Vx;split at h2;rotate_left
   .cases h2
   rename_i s2' hfz;simp[uN]at h2;split at h2
   .rename_i y s3 ME Q6;obtain⟨R,h2⟩|⟨_,h2⟩:=ah h2
    rotate_left
    .cases h2
    simp only[eK]at R
    let ⟨aiA,Gz,oe⟩:=KF h4 hvs
    let ⟨p1,p2,p3⟩:=gl hE.sg h5.rel Vx oe
    let ⟨g3,Q5,Ez,Ra⟩:=eI fz h5.rel (dx hE.sg _ hfz) p1
    have agm:owr=[]:=pY (Cs rv) Vx
    let ⟨alr,ze,_⟩:=p3 g3 (aI s2') fz Q5 Ez Ra (λo ho=>ho) (λo ho=>by grind)
    let ⟨f1,f2,f3,f4,f5,f6,f7⟩:=eM hfz
    have xO:fJ s2 g2 C s2' g3 C:=⟨Q5,Ez.I8 _,f1,f2,CW f3.symm,f4,λo _ ho=>f5 o ho,λo ho=>by grind⟩;have hf3:cL g3 (bB PS) Pg C:=h4.ext Ez h5.rel.bx
    let ⟨VM,z,uQ,O3,k1,k2⟩:=next (h5.trans xO) Ez.bV hf3 (by grind) Q6 R.1 R.2.1 R.2.2
    cases h2;obtain⟨y',hy',ac0⟩|⟨rfl,hno⟩:=Dm
    .cases hy'
    .simp only at u;split at u
     .cases u
     .rename_i P sty Vz
      let ⟨gy,l1,l0,l2,l3,l4⟩:=leave (pP ds sh) k1 Vz
      let ⟨m1,m2,m3⟩:=vE (g:=gy) (w:=C) (a:=Pg) (fr:=P) ze (λb hb=>l0 b (k2 b hb)) Gz (by omega) l1
      have hdf:∀(rv:Rv)(r:gr S.A (Iw rv))(fr:bU S),(xY rv r fr).df=fr.df:=by
       intro rv
       induction rv with|nil=>intro _ _;rfl|cons q rv ih=>intro r fr;let ⟨k,t⟩:=q;exact ih _ _
      refine .inr ⟨.ret,_,_,gy,.ret,u,m2.trans l4,m1,l2,⟨λk v B hv=>?_,by rw[hdf];exact l3.df⟩⟩;rw[m3 k (λhm=>B (eO _ hm))];exact(fix l3).tm k v B hv
   .cases h2
  |hU t v hv=>
   obtain⟨hpn,h2⟩|⟨_,h2⟩:=ah h2
   rotate_left
   .cases h2
   split at h2;rotate_left
   .cases h2
   rename_i r' fz owr Vx;split at h2;rotate_left
   .cases h2
   rename_i s2' hfz;simp[uN]at h2;split at h2;rotate_left
   .cases h2
   rename_i Q6;obtain⟨R,h2⟩|⟨_,h2⟩:=ah h2
   rotate_left
   .cases h2
   simp only[eK]at R;have oe:PW (aP g2 C) (bz [t]) [v]:=⟨rfl,λj t' v' q1 q2=>by
    grind[bz]⟩
   let ⟨p1,p2,p3⟩:=gl hE.sg h5.rel Vx oe
   let ⟨g3,Q5,Ez,Ra⟩:=eI fz h5.rel (dx hE.sg _ hfz) p1
   have agm:owr=[]:=pY (cs:=[.dat S.pt]) rfl Vx
   let ⟨alr,ze,_⟩:=p3 g3 (aI s2') fz Q5 Ez Ra (λo ho=>ho) (λo ho=>by grind)
   let ⟨f1,f2,f3,f4,f5,f6,f7⟩:=eM hfz
   have xO:fJ s2 g2 C s2' g3 C:=⟨Q5,Ez.I8 _,f1,f2,CW f3.symm,f4,λo _ ho=>f5 o ho,λo ho=>by grind⟩;have hf3:cL g3 (bB PS) Pg C:=h4.ext Ez h5.rel.bx
   let ⟨VM,z,uQ,O3,k1,k2⟩:=next (h5.trans xO) Ez.bV hf3 (by grind) Q6 R.1 R.2.1 R.2.2
   cases h2;obtain⟨y',hy',ac0⟩|⟨rfl,hno⟩:=Dm
   .cases hy'
   .obtain ⟨_,u⟩|⟨_,u⟩:=ah u
    rotate_left
    .cases u
    split at u
    .cases u
    .rename_i P sty Vz
     let ⟨gy,l1,l0,l2,l3,l4⟩:=leave (pP ds sh) k1 Vz
     refine .inr ⟨.hU (.ty S.pt r'.1),P,_,gy,.hU _ v ?_,u,l4,l1,l2,fix l3⟩;cases ze with|@dat _ _ x h v vs al hd hr=>exact pM (hd.le λb hb=>l0 b (k2 b hb))
 |exit j=>intro i ω Q r fr s h A hn hlo g a w hf hs;exact wpIn_exit (.inr ⟨_,fr,s,g,.ext j,h,rfl,hf,fJ.refl hs,eG.refl _ _ _ _⟩)
 |ret=>intro i ω Q r fr s h A hn hlo g a w hf hs;exact wpIn_ret (.inr ⟨_,fr,s,g,.ret,h,rfl,hf,fJ.refl hs,eG.refl _ _ _ _⟩)
 |skip=>intro i ω Q r fr s h A hn hlo g a w hf hs;exact wpIn_skip (.inr ⟨_,fr,s,g,.qJ,h,rfl,hf,fJ.refl hs,eG.refl _ _ _ _⟩)
 |label j=>intro i ω Q r fr s h A hn hlo g a w hf hs;exact wpIn_label (.inr ⟨_,fr,s,g,.qJ,h,rfl,hf,fJ.refl hs,eG.refl _ _ _ _⟩)
 |scope b ih=>
  intro i ω Q r fr s h A hn hlo g a w hf hs;have hr0:rr=Y:=by
   grind[PL]
  subst hr0;refine wpIn_wide.2 (wp_scope_straight (wp_mono (wpIn_wide.1 (ih i h (λh=>absurd rfl h) hn hlo hf hs)) λe I F hq=>?_));obtain hF|⟨ex,l,s',g',h1,h2⟩:=hq
  .exact hF.elim
  .cases h1 with|qJ=>exact .inr ⟨_,l,s',g',.qJ,h2⟩|ext j=>exact .inr ⟨_,l,s',g',.ext j,h2⟩|ret=>exact .inr ⟨_,l,s',g',.ret,h2⟩|hU t v hv=>exact .inr ⟨_,l,s',g',.hU t v hv,h2⟩
 |rangeFunc gv ps asg body _ _=>
  grind[PL,Nb]
 |_=>intro i ω Q r fr s h;simp[zk]at h
end
section
def NS:∀t:T,dP (λ_=>J) t=J:=by
 intro t
 induction t using T.rec (motive_2:=λl=>ju (λ_=>J) l=J)with|fn f a b d g=>simp[dP,d,g]|cT t v e=>simp[dP,e]|agg i e=>simp[dP,e]|gM i e=>simp[dP,e]|gd c v e=>simp[dP,e]|nil=>rfl|cons a l d h=>simp[ju,d,h]|_=>simp[dP]
theorem tD(b:fO S){E:gi}(c:RQ S E){s:bu S}{fr:bU S}:∀{l:L ResultVar}{vs:L (V S)},kV E s fr l=Z vs->∃p,mu E.E (aI s) (bB fr) l=Z (p,bz vs)∧p
 |[],vs,h=>by simp only[kV,gV]at h;subst h;exact⟨True,rfl,trivial⟩
 |.tmp t::l,vs,h=>by
  simp[kV]at h;split at h
  .rename_i x r h1 h2;simp at h
   let ⟨p,e,d⟩:=tD b c h2
   exact⟨p,by grind[mu,bT,bz],d⟩
  .cases h
 |.cell a t::l,vs,h=>by
  simp[kV]at h;split at h
  .rename_i f m;split at h
   .rename_i g h2;obtain⟨i,h⟩|⟨_,h⟩:=ah h
    .simp at h;obtain⟨rfl,q,n,j⟩:=JB b (λu k=>c.row _ _ _ f k) g i
     let ⟨p,e,d⟩:=tD b c h2
     exact⟨q∧p,by grind[mu,bT,bz],j,d⟩
    .cases h
   .cases h
  .cases h
theorem Yn:∀l:L (V S),low (DM l)=afk (bz l)
 |[]=>rfl|[_]=>rfl|_::_::_=>rfl
variable {s s' s0:bu S}{g g' g0:Gh}{w w' w0:World}{E:eT S}{call:fU S}{m:Nat}{st:Bool->List Frame}
def fJ.I8(hs:bq g (aI s) w)(h:fJ {s with lo:=s.aL} g w s' g' w'):cR [] s g w {s' with lo:=s.lo} g' w':=by have d:uT g.bx w w':=λb c=>h.ext.heap b (hs.bx b c) (λo _ f=>f.1 c);refine⟨⟨h.rel.aL,h.rel.ai,h.rel.box,h.rel.arr,h.rel.bx,h.rel.kJ⟩,⟨λo b e=>h.ext.bV o b e,λo e x _ k=>h.ext.arr o e x (hs.lt' k) k,h.ext.bx,h.ext.size,h.ext.heap,h.ext.own,h.ext.rO,h.ext.os,h.ext.output⟩,h.fl,rfl,h.aL,h.uE,h.same,λt v i _=>?_,λo a=>(by cases a),h.IS,λo a=>(by cases a)⟩;exact i.on (p:=λ_=>J) ⟨λo b _ e=>h.ext.bV o b e,λo e x _ k=>h.ext.arr o e x (hs.lt' k) k,h.ext.bx⟩ d (NS t)
theorem yc{E:eT S}(b:fq E){g:Gh}{w:World}{fr:bU S}{s:bu S}{a:Act}(hf:cL g (bB fr) a w)(hs:bq g (aI s) w){fn:Func}{l:L (V S)}(h:kV E.T s fr fn.results.toList=Z l) :
  ∃v,(results fn a.tmps).run E.T.E.P w=.ok v w∧aP g w (low (DM l)) v:=by
 let ⟨p,e,c⟩:=tD b.sg b.ty h
 let ⟨v,d,f⟩:=M3 b.Uw hf hs e c
 grind[Yn]
def cR.trans{s s' b:bu S}{g g' c:Gh}{w w' d:World}(h:cR [] s g w s' g' w')(k:cR [] s' g' w' b c d):cR [] s g w b c d where
 rel:=k.rel
 ext:=h.ext.trans (h.fl▸h.lo▸k.ext)
 fl:=k.fl.trans h.fl
 lo:=k.lo.trans h.lo
 aL:=gk h.aL k.aL
 uE:=λo a=>k.uE o (h.uE o a)
 same:=λo f a=>(k.same o (iP f h.aL) a).trans (h.same o f λe=>a (k.uE o e))
 tr:=λt v i e=>k.tr t v (h.tr t v i e) e
 oww:=λo a=>by cases a
 IS:=λo a=>k.IS o (h.IS o a)
 owd:=λo a=>by cases a
def UR(g:Gh)(w:World):O (V S)->FrameMode->Prop
 |none,u=>u=.returning|some t,u=>∃v,u=.panicking [{v,recovered:=J}]∧aP g w (low t) v
structure aeP(g:Gh)(s:bu S)(w:World)(pv:Option (V S))(st:Bool->List Frame)(vp:Value):Prop where
 rel:∀g' s' w',fJ s g w s' g' w'->aP g' w' (low (aiC pv)) vp
 rcv:(pv=Y∧recoverD (st J)=Y∧vp=.nilIface)∨(pv.isSome=W∧recoverD (st J)=Z (vp,st W))
def QRV(s:bu S)(g:Gh)(w:World)(m:Nat)(st:Bool->L Frame){ω:Type}(Q:Bool->xE S->bU S->bu S->O ω)(r:ω)(e:Exit)(a:Act)(cs:L Frame)(w':World):Prop:=
 False∨∃b ex fr' s' g',cs=st b∧Sp g' w' ex e∧Q b ex fr' s'=Z r∧fr'.n=m∧cL g' (bB fr') a w'∧fJ s g w s' g' w'
theorem YF{o:Oper}(h:isRec o=W):o.guard=Y∧∃c,o.op=.call c∧c.callee=.builtin .recover:=by
 grind[isRec]
def s9(l:fq E)(b:gA E.T.E.P call)(d:r6 E call)(n:Nat)(j:FuncId)(rv:Rv)(hlo:s0.lo<=s0.aL)(t:m<=bC)(f:Bool)
  (c:Code) (i:Nat) {ω:Type} {Q:Bool->xE S->bU S->bu S->O ω} {r:ω} {fr:bU S} {s:bu S} (h:zk E call n j rv c i (Q f) fr s=Z r) (hn:fr.n=m) {g:Gh} {a:Act} {w:World} (hs:fJ s0 g0 w0 s g w) (hf:cL g (bB fr) a w) :
  c.wpS E.T.E.P (QRV s0 g0 w0 m st Q r) a (st f) w:=by
 refine wpS_of_wp (wp_mono (wpIn_wide.1 (pH (rr:=Y) l b d n j rv c i h (λh=>absurd rfl h) (by omega) ?_ hf hs.rel)) λe u w' o=>?_)
 .have:=hs.aL;rw[hs.lo];omega
 obtain p|⟨q,k,s',g',h1,h2,h3,h4,h5,h6⟩:=o
 .exact p.elim
 .exact .inr ⟨f,q,k,s',g',rfl,h1,h2,h3.trans hn,h4,hs.trans h5⟩
def VT(hE:fq E)(f:gA E.T.E.P call)(p:r6 E call)(n:Nat)(pv:O (V S))(A:FuncId)(rv:Rv)(hlo:s0.lo<=s0.aL)(hm:m<=bC){vp:Value}
  (K:aeP g0 s0 w0 pv st vp):∀(c:Code)(i:Nat){ω:Type}{Q:Bool->xE S->bU S->bu S->O ω}{r:ω}{fr:bU S}{s:bu S},evR E call n pv A rv c i Q fr s=Z r->fr.n=m->
  ∀{g:Gh}{a:Act}{w:World},fJ s0 g0 w0 s g w->cL g (bB fr) a w->c.wpS E.T.E.P (QRV s0 g0 w0 m st Q r) a (st J) w:=by
 intro c
 induction c with
 |seq x y ihx ihy=>
  intro i ω Q r fr s h hn g a w B hf;refine wpS_seq λb k hb hr=>?_
  let ⟨e,a',cs',w',hq,z⟩:=ihx i h hn B hf b k hb hr
  refine⟨e,a',cs',w',?_,z⟩;obtain hF|⟨d,ex,u,s',g',h0,h1,h2,h3,h4,h5⟩:=hq
  .exact hF.elim
  .cases h1 with|qJ=>subst h0;exact s9 hE f p n A rv hlo hm d y i h2 h3 h5 h4|ext j=>exact .inr ⟨d,_,u,s',g',h0,.ext j,h2,h3,h4,h5⟩|ret=>exact .inr ⟨d,_,u,s',g',h0,.ret,h2,h3,h4,h5⟩|hU t v hv=>exact .inr ⟨d,_,u,s',g',h0,.hU t v hv,h2,h3,h4,h5⟩
 |region id q draw=>
  intro i ω Q r fr s h hn g a w B hf;cases draw with
  |true=>exact s9 hE f p n A rv hlo hm J _ i h hn B hf|false=>
   simp[evR]at h;split at h;rotate_left
   .cases h
   rename_i o l C;obtain⟨hr,h2⟩|⟨_,h2⟩:=ah h
   rotate_left
   .exact s9 hE f p n A rv hlo hm J _ i h2 hn B hf
   obtain⟨hd,h3⟩|⟨_,h3⟩:=ah h2
   rotate_left
   .cases h3
   let ⟨hg,c,hop,Lt⟩:=YF hr
   rw[<-C]at h3;have ho:q[0]?=Z o:=by have:=pU (λl=>l[0]?) C;simpa using this
   have hsz:q.size=l.length+1:=by have:=pU List.length C;simpa using this
   have hw:Region.wanted o (yielded q a.tmps)=W:=by simp[Region.wanted,hg]
   have R:(execOp a.eval o).run E.T.E.P w=.ok .recover w:=by simp[execOp,hop,resolve,Lt,run_bind,run_pure,andThen_ok,invoke];simp[builtin]
   have ze:=K.rel _ _ _ B
   let ⟨k1,k2⟩:=tI hf hd (by omega) ze
   have key:∃d,d=pv.isSome∧recoverD (st J)=(if d then Z (vp,st W)else Y)∧(d=J->vp=.nilIface):=by
    obtain⟨e1,e2,e3⟩|⟨e1,e2⟩:=K.rcv
    .exact ⟨J,by rw[e1];rfl,by simpa using e2,λ_=>e3⟩
    .exact ⟨W,e1.symm,by simpa using e2,λh=>by cases h⟩
   let ⟨d,ap0,hrd,Q9⟩:=key
   rw[<-ap0]at h3;have hwp:wK Y E.T.E.P q (λe a' w'=>QRV s0 g0 w0 m st Q r e a' (st d) w') (List.range' 1 l.length) (a.put o.dst vp) w:=by
    refine Dq hE f (rr:=Y) (λh=>absurd rfl h) l 1 (by rw[C];rfl) (by rw[k2];omega) h3 k1 B.rel (λu s' g' a' w' q1 q2 q3 q4 _=>.inr ⟨d,.qJ,u,s',g',rfl,.qJ,q1,by omega,q3,B.trans q4⟩)
     (λu t s' g' a' v w' q1 q2 q3 q4 _ q5=>.inr ⟨d,.hU t,u,s',g',rfl,.hU t v q5,q1,by omega,q3,B.trans q4⟩)
   intro b k hb hro;have F:List.range q.size=0::List.range' 1 l.length:=by rw[List.range_eq_range',hsz,List.range'_succ]
   have hgo:=stepG_op (P:=E.T.E.P) (b:=b) (k:=k) (cs:=st J) (w:=w) (rest:=List.range' 1 l.length) ho hw;have aqL:∀v,(b.at a (.inRegion q (0::List.range' 1 l.length)::k)).finish v=b.at (a.put o.dst v) (.inRegion q (List.range' 1 l.length)::k):=by intro v;rw[Frame.finish_at,ho];rfl
   have hk:(b.at a (.inRegion q (0::List.range' 1 l.length)::k)).kind=.deferred:=hb;have I:=tryRecover_deferred hk (st J)
   let ⟨e,a',w',hq,akx⟩:=m9 _ _ _ hwp b k (st d) hro
   have z:=(arrivesIn_iff (λ_ _=>stepsIn_wide) hro).1 akx;rw[Frame.atR_of_none hro]at z;refine⟨e,a',st d,w',hq,.of_steps (.one step_region) ?_⟩;rw[F];refine .of_steps (.one (step_lone_go ?_)) z;rw[hgo,<-aqL];simp[Frame.at]at I ⊢;rw[hrd]at I;cases d with|true=>simp[stepG.apply,R,I]|false=>have:=Q9 rfl;subst this;simp[stepG.apply,R,I]
 |_=>intro i ω Q r fr s h hn g a w B hf;exact s9 hE f p n A rv hlo hm J _ i h hn B hf
def WO:FrameMode->Value
 |.panicking (p::_)=>p.v|_=>.nilIface
def afj:FrameMode->FrameMode
 |.panicking (p::_)=>.panicking [{v:=p.v,recovered:=W}]|m=>m
theorem OA{E:eT S}(hE:fq E){call:fU S}(R:gA E.T.E.P call)(Zb:r6 E call)(n:Nat){q:O (V S)}{d:r7 S}{s:bu S}{ω:Type}{k:Bool->bu S->O ω}{r:ω}(h:TH E call n q d s k=Z r)
  {g:Gh} {w:World} (hs:bq g (aI s) w) {e:Deferred} (hd:wT g w (lY d) e) {u:FrameMode} (l:UR g w q u) :
  u≠.run∧((∃b w',e.target=.collected b∧(Instr.takeDeferred b).run E.T.E.P w=.ok [] w'∧∃s',k J s'=Z r∧UR g w' q u∧cR [] s g w s' g w')∨∃fv cap f args,e.target=.fn fv cap∧(invoke e.target e.args).run E.T.E.P w=.ok (.enter f args) w∧CallsD E.T.E.P f args u w λ
   |.returned _,I,w'=>∃a s' g',k a s'=Z r∧UR g' w' (bif a then Y else q) (settle I)∧cR [] s g w s' g' w'|.panicked _,_,_=>False|.outgrown,_,_=>False):=by
 have hrun:u≠.run:=by cases q with|none=>rw[show u=.returning from l];simp|some t=>obtain⟨v,rfl,_⟩:=l;simp
 refine⟨hrun,?_⟩;unfold TH at h;split at h;rotate_left
 .rename_i o
  left
  cases hd with
  |mark _ b hb=>
  split at h;rotate_left
  .cases h
  rename_i ho;obtain⟨hfl,h2⟩|⟨_,h2⟩:=ah h
  rotate_left
  .cases h2
  rw[eK]at hfl;have ho':(aI s).ob.get o=Z .zP:=by rw[aS,ho];rfl
  let ⟨x,hx,hr⟩:=(hs.box o b hb).2.2 _ ho'
  cases hr with
  |zP=>
  let ⟨h3,he⟩:=hs.anf (w':=w.putObj b (.deferred Y)) hb ho' rfl (g9 hfl.1) World.putObj_size (λb' hb'=>World.putObj_heap_other hb') rfl rfl
  have hlt:o<bC:=g9 hfl.2;have K:o+1<2 ^ aR:=by grind[aR,bC]
  have p:cR [] s g w {s with ob:=s.ob.del aR o,wr:=o::s.wr} g (w.putObj b (.deferred Y)):=by
   refine cR.lT hs (h3.Zo rfl λk=>?_) he rfl rfl (cu _) ⟨λ_ h=>iB _ h,λk _ hk=>?_,rfl⟩
   .show (Tr.map cU (s.ob.del aR o)).get k=((aI s).ob.del aR o).get k;rw[Tr.get_map,Tr.qU _ _ _ _ K,Tr.qU _ _ _ _ K,aS];split<;>rfl
   simp_all[Tr.qU]
  refine⟨b,_,rfl,run_takeDeferred hx,_,h2,?_,p⟩;cases q with
  |none=>exact l|some t=>
   let ⟨v,l,ht⟩:=l
   exact⟨v,l,p.tr _ _ ht (lU _)⟩
 .cases hd
 .cases h
 rename_i args
 right
 split at h
 .cases h
 rename_i z Lt;split at h
 .cases h
 rename_i fn hfn;split at h
 .cases h
 rename_i c hc;obtain⟨hb,h2⟩|⟨_,h2⟩:=ah h
 rotate_left
 .cases h2
 clear h;rw[Bz]at hb;have i:=rf Lt;unfold xA at i;split at i;rotate_left
 .cases i
 rename_i f' first cap Od
 simp only[gV,fP]at i;obtain⟨rfl,F⟩:=i;cases hd with
 |call _ _ fvn xa xc A h3 h4 h5=>
 rw[Od]at h3;cases h3 with
 |fn _ _ _ _ _ l1 l2 r1 r2=>
 have hfs:=hE.Uw.TC _ _ hfn;have Oi:lN E.T.E.P f':=⟨fn,hfs,by rw[hc];rfl,hE.name _ _ hfn⟩;refine⟨_,_,f',xa++A++xc,rfl,?_,?_⟩
 .grind[invoke,xd]
 have oe:PW (aP g w) (bz z) (xa++A++xc).toList:=by rw[<-F];simp only[US];exact PW.append (PW.append ⟨by simpa using l1,λj x y h1 h2=>r1 j x y h1 (by simpa using h2)⟩ ⟨by simpa using h4,λj x y h1 h2=>h5 j x y h1 (by simpa using h2)⟩) ⟨by simpa using l2,λj x y h1 h2=>r2 j x y h1 (by simpa using h2)⟩
 have DV:z.length<=fn.ntmps:=by have:=g9 hb.1;rwa [bR]at this
 have pF:fn.ntmps<bC:=g9 hb.2;have VA:=sO (n:=fn.ntmps) pF DV oe;have hs0:bq g (aI {s with lo:=s.aL}) w:=⟨hs.aL,hs.ai,hs.box,hs.arr,hs.bx,hs.kJ⟩;refine callsD_of_wpS hfs hc λc₀ cs hcu=>?_
 let st:Bool->L Frame:=λa=>(if a then{c₀ with mode:=afj u}else{c₀ with mode:=u})::cs
 have apR:st J=c₀::cs:=by show{c₀ with mode:=u}::cs=c₀::cs;rw[<-hcu]
 have ap1:aeP g {s with lo:=s.aL} w q st (WO u):=by
  cases q with
  |none=>
   have l:u=.returning:=l;refine⟨λg' s' w' _=>?_,.inl ⟨rfl,?_,?_⟩⟩
   .simp[WO,l];exact .sym _ _ (.lit _)
   .grind[recoverD]
   .simp[WO,l]
  |some t=>
   let ⟨v,l,ht⟩:=l
   refine⟨λg' s' w' p=>?_,.inr ⟨rfl,?_⟩⟩
   .simp[WO,l];exact(fJ.I8 hs p).tr _ _ ht (lU _)
   grind[recoverD,WO,afj]
 have hw:=VT hE R Zb n q f' _ (s0:={s with lo:=s.aL}) (g0:=g) (w0:=w) (cu _) (m:=fn.ntmps) (Jl pF) (st:=st) ap1 c 0 h2 rfl (fJ.refl hs0) VA;rw[apR]at hw;intro b kk hb' hro
 let ⟨e,a',cs',w',hq,Lu⟩:=hw b kk hb' hro
 refine⟨e,a',cs',w',?_,Lu⟩;obtain hF|⟨a,ex,fr',s',g',k0,k1,C,k3,k4,k5⟩:=hq
 .exact hF.elim
 have p:=fJ.I8 hs k5;dsimp only at C;split at C;rotate_left
 .cases C
 rename_i hdf;have P:a'.defers=[]:=by have:=k4.df;rw[show(bB fr').df=[]from by simp[bB,hdf,Fs]]at this;generalize a'.defers=m at this;cases this;rfl
 have u9:∃I,cs'={c₀ with mode:=I}::cs∧UR g' w' (bif a then Y else q) (settle I):=by
  cases a with
  |false=>
   refine⟨u,k0,?_⟩;cases q with
   |none=>rw[l];rfl|some t=>
    let ⟨v,l,ht⟩:=l
    rw[l];exact⟨v,rfl,p.tr _ _ ht (lU _)⟩
  |true=>
   refine⟨afj u,k0,?_⟩;cases q with
   |none=>rw[l];rfl|some t=>
    let ⟨v,l,ht⟩:=l
    rw[l];rfl
 let ⟨I,hcs,hur⟩:=u9
 have fin:(match kV E.T s' fr' fn.results.toList with|some _=>k a {s' with lo:=s.lo}|none=>Y)=Z r->∃v,(results fn a'.tmps).run E.T.E.P w'=.ok v w'∧
   ∃a s' g',k a s'=Z r∧UR g' w' (bif a then Y else q) (settle I)∧cR [] s g w s' g' w':=by
  intro C;split at C;rotate_left
  .cases C
  rename_i hr
  let ⟨v,hv,_⟩:=yc hE k4 k5.rel hr
  grind
 cases k1 with
 |qJ=>
  let ⟨v,hv,h⟩:=fin C
  exact⟨P,I,hcs,v,hv,h⟩
 |ret=>
  let ⟨v,hv,h⟩:=fin C
  exact⟨P,I,hcs,v,hv,h⟩
 |ext j=>cases C
 |hU t v hv=>cases C
theorem Dg{P:Program}{fn:Func}{tmps:Array Value}{R:Ending->World->Prop}{ds:L Deferred}{u:FrameMode}(q:u≠.run){s:bu S}{g:Gh}{o:Nat}(f:s.fl<=o)(i:s.ob.get o=Y) :
  ∀(bs:L Nat)(w:World),bq g (aI s) w->bs.Nodup->(∀b∈bs,bG g o b∧w.heap[b]?=Z (.deferred (Z [])))->(∀w',cR [] s g w s g w'->mO P fn tmps R ds u w')->
   mO P fn tmps R (bs.map (λb=>{target:=.collected b,args:=#[]})++ds) u w
 |[],w,d,_,_,m=>m w (cR.refl d)|b::bs,w,d,n,r,m=>by
  let ⟨l,t⟩:=r b fA
  have j:bq g (aI s) (w.putObj b (.deferred Y)):=by
   have:=d.step (I:=g.bx) (X:=λc=>c=b) (w':=w.putObj b (.deferred Y)) (λ_ h=>h) (λ_ h=>.inl h) (λc a=>by rw[World.putObj_size];exact d.bx c a) (by simp_all)
    (λc _ a=>World.putObj_heap_other a) (λv c a p=>by
     subst a;have:=d.kJ v o c p l;subst this;exact⟨by rw[aS,i];rfl,l.1⟩) (λc a=>by subst a;exact l.1)
   exact this
  have x:Ext s.fl g w g (w.putObj b (.deferred Y)):=
   ⟨λ_ _ h=>h,λ_ _ _ h=>h,λ_ h=>h,by simp_all,λc _ n=>World.putObj_heap_other (λe=>n o f (e▸l)),λ_ _ h=>.inl h,λ_ h=>.inl h,rfl,rfl⟩
  have k:cR [] s g w s g (w.putObj b (.deferred Y)):=cR.lT d j x rfl rfl (cu _) ⟨λ_ h=>h,λ_ _ _=>rfl,rfl⟩;refine⟨q,.inl ⟨b,_,rfl,run_takeDeferred t,Dg q f i bs _ j (Nf.1 n).2 (λc a=>⟨(r c (iB _ a)).1,?_⟩) λw' h=>m w' (k.trans h)⟩⟩
  grind[World.putObj_heap_other]
theorem Oz{E:eT S}(hE:fq E){call:fU S}(z:gA E.T.E.P call)(A:r6 E call)(n:Nat){fn:Func}{tmps:Array Value}{R:Ending->World->Prop}{ω:Type}{k:O (V S)->bu S->O ω}{r:ω}{s0:bu S}{g0:Gh}{w0:World}
  (hk:∀m s' g' w' u,k m s'=Z r->UR g' w' m u->cR [] s0 g0 w0 s' g' w'->mO E.T.E.P fn tmps R [] u w'):∀(l:L (r7 S))(m:O (V S))(s:bu S),GP E call n l m s k=Z r->
  ∀(g:Gh)(w:World)(ds:L Deferred)(u:FrameMode),eU g w (l.map lY) ds->UR g w m u->cR [] s0 g0 w0 s g w->mO E.T.E.P fn tmps R ds u w:=by
 intro l
 induction l with
 |nil=>intro m s h g w ds u B p a;cases B;exact hk m s g w u h p a
 |cons d l ih=>
  intro m s h g w ds u B p a;simp at B;generalize C:lY d=x at B;cases B with
  |kg xs i=>
   cases d with
   |kg=>cases h
   |_=>cases C
  |marks o bs hn hbs i=>
   cases d with
   |marks o'=>
    cases C;simp only[GP,TH]at h;split at h;rotate_left
    .cases h
    rename_i ho;obtain⟨F,h2⟩|⟨_,h2⟩:=ah h
    rotate_left
    .cases h2
    rw[eK]at F;have hlt:o<bC:=g9 F.2;have hlt':o+1<2 ^ aR:=by grind[aR,bC]
    have q:=a.rel;have ho':(aI s).ob.get o=Z .FQ:=by rw[aS,ho];rfl
    have hown:∀b∈bs,bG g o b∧w.heap[b]?=Z (.deferred (Z [])):=λb I=>by
     let ⟨n,c,hr⟩:=hbs b I
     cases hr with
     |sh _ _ _ _ sz _ C=>
     obtain⟨fz,_,_,h,_⟩|⟨_,_,_,_,_,_,h,_⟩|⟨_,_,_,h,_⟩|h|⟨_,h1,h2,h3,h4⟩:=(q.arr o b _ C).2 _ ho'
     .cases fz<;>cases h
     .cases h
     .cases h
     .cases h
     .exact ⟨⟨h3,.inr ⟨b,_,_,C,h1,rfl,h2⟩⟩,h4⟩
    have hgD:∀k,(s.ob.del aR o).get k=if k=o then Y else s.ob.get k:=λk=>Tr.qU _ _ _ _ hlt'
    have hsD:bq g (aI {s with ob:=s.ob.del aR o,wr:=o::s.wr}) w:=by
     have y:∀k ob,(aI {s with ob:=s.ob.del aR o,wr:=o::s.wr}).ob.get k=Z ob->(aI s).ob.get k=Z ob:=by
      grind[aS]
     refine⟨q.aL,q.ai,λk b h=>?_,λk e x h=>?_,q.bx,q.kJ⟩
     .let ⟨K,P,j⟩:=q.box k b h
      exact⟨K,P,λob mR=>j ob (y k ob mR)⟩
     .let ⟨K,P⟩:=q.arr k e x h
      exact⟨K,λob mR=>P ob (y k ob mR)⟩
    have haD:cR [] s g w {s with ob:=s.ob.del aR o,wr:=o::s.wr} g w:=
     cR.lT q hsD (Ext.refl _ _ _) rfl rfl (cu _) ⟨λ_ h=>iB _ h,λk _ hk=>(hgD k).trans (bJ λe=>hk (by simp_all)),rfl⟩
    have hrun:u≠.run:=by cases m with|none=>rw[show u=.returning from p];simp|some t=>obtain⟨v,rfl,_⟩:=p;simp
    refine Dg hrun (s:={s with ob:=s.ob.del aR o,wr:=o::s.wr}) (g:=g) (o:=o) (g9 F.1) ((hgD o).trans (cn rfl)) bs w hsD hn hown λw' j=>?_;have k4:=haD.trans j;refine ih _ _ h2 g w' _ u (i.imp (λt v i=>k4.tr t v i (lU _)) λo b I=>k4.ext.bV o b I) ?_ (a.trans k4);cases m with
    |none=>exact p|some t=>
     let ⟨v,p,i⟩:=p
     exact⟨v,p,k4.tr _ _ i (lU _)⟩
   |_=>cases C
  | @cons _ e _ ds B i=>
  subst C
  let ⟨h1,h⟩:=OA hE z A n h a.rel B p
  obtain⟨b,w',h2,h3,s',K,P,j⟩|⟨fv,cap,f,args,h2,h3,h4⟩:=h
  .exact ⟨h1,.inl ⟨b,w',h2,h3,ih _ s' K g w' ds u (i.imp (λt v i=>j.tr t v i (lU _)) λo b I=>j.ext.bV o b I) P (a.trans j)⟩⟩
  refine⟨h1,.inr ⟨fv,cap,f,args,h2,h3,h4.mono λe u' w' he=>?_⟩⟩;cases e with
  |returned v=>
   let ⟨rec,s',g',K,P,j⟩:=he
   refine ih _ s' K g' w' ds (settle u') (i.imp (λt v i=>j.tr t v i (lU _)) λo b I=>j.ext.bV o b I) P (a.trans j)
  |panicked ch=>exact he.elim|outgrown=>exact he.elim
def we(x:fq E)(c:gA E.T.E.P call)(d:r6 E call)(n:Nat){fn:Func}{R:Ending->World->Prop}{ω:Type}{k kp:V S->bu S->O ω}{r:ω}{ex:xE S}{fr:bU S}
  (h:TG E call n fn.results.toList k kp ex fr s=Z r) {g:Gh} {w:World} {e:Exit} {a:Act} (y:Sp g w ex e) (hf:cL g (bB fr) a w) (hs:bq g (aI s) w)
  (z:∀t s' g' v w',k t s'=Z r->aP g' w' (low t) v->cR [] s g w s' g' w'->R (.returned v) w')
  (m:∀t s' g' v w',kp t s'=Z r->aP g' w' (low t) v->cR [] s g w s' g' w'->R (.panicked [{v,recovered:=J}]) w'):aeI E.T.E.P fn R e a w:=by
 have f:∀(j:O (V S))(u:FrameMode),GP E call n fr.df j s (Oy E.T fn.results.toList fr k kp)=Z r->UR g w j u->mO E.T.E.P fn a.tmps R a.defers u w:=by
  intro j u h l;refine Oz x c d n (s0:=s) (g0:=g) (w0:=w) (λj s' g' w' u h l b=>?_) fr.df j s h g w a.defers u hf.df l (cR.refl hs);have o:cL g' (bB fr) a w':=nH (ow:=[]) hf b;cases j with
  |none=>
   subst l;simp[Oy]at h;split at h;rotate_left
   .cases h
   rename_i A
   let ⟨v,p,q⟩:=yc x o b.rel A
   exact⟨v,p,z _ _ g' v w' h q b⟩
  |some t=>
   let ⟨v,l,q⟩:=l
   subst l;exact m t s' g' v w' h q b
 cases y with
 |qJ=>exact f Y .returning h rfl|ret=>exact f Y .returning h rfl|ext i=>cases h
 |hU t v p=>exact f (Z t) _ h ⟨v,rfl,p⟩
end
def CO{g:Gh}{w:World}{n:Nat}(hn:n<=bC):∀(ps:L Nat)(args:L (V S))(vs:L Value)(tm:Tr (V S))(tmps:Array Value),(∀k∈ps,k<n)->PW (aP g w) (bz args) vs->cL g (bB {n:=n,tm:=tm}) {tmps:=tmps,defers:=[]} w->
  cL g (bB {n:=n,tm:=Qf ps args tm}) {tmps:=(ps.zip vs).foldl (λt p=>t.setIfInBounds p.1 p.2) tmps,defers:=[]} w
 |[],_,_,_,_,_,_,h=>h|_::_,[],[],_,_,_,_,h=>h|_::_,[],_::_,_,_,_,b,_=>by have:=b.1;simp[bz]at this
 |_::_,_::_,[],_,_,_,b,_=>by have:=b.1;simp[bz]at this
 |k::ps,a::args,v::vs,tm,tmps,d,b,h=>by have e:aP g w (low a) v:=b.2 0 _ _ rfl rfl;have c:PW (aP g w) (bz args) vs:=⟨by have:=b.1;simpa[bz]using this,λj t u h1 h2=>b.2 (j+1) t u (by simpa[bz]using h1) (by simpa using h2)⟩;have f:=tI (dst:=Z k) (fr:={n:=n,tm:=tm}) h (by simp_all[gB]) hn e;exact CO hn ps args vs _ _ (λj i=>d j (iB _ i)) c f.1
def Un(ps:Array Tmp)(vs:Array Value)(tmps:Array Value):(ps.zip vs).foldl (λtmps(t,a)=>tmps.setIfInBounds t a) tmps=(ps.toList.zip vs.toList).foldl (λt p=>t.setIfInBounds p.1 p.2) tmps:=by rw[<-Array.foldl_toList,Array.toList_zip]
theorem KI{E:eT S}(hE:fq E){call:fU S}(q:gA E.T.E.P call)(u:r6 E call)(n:Nat){o:Nat}{args:L (V S)}{s:bu S}{ω:Type}{k kp:V S->bu S->O ω}{r:ω}
  (h:Qj E call n o args s k=Z r) {g:Gh} {w:World} {vs:Array Value} {b:Nat} (hs:bq g (aI s) w) (oe:PW (aP g w) (bz args) vs.toList) (hb:g.bV o=Z b) :
  ∃l:Loop,w.heap[b]?=Z (.loop l)∧vs.size=l.params.size∧∀rr n,RoundIn (WR rr) n E.T.E.P b l.fn ((l.params.zip vs).foldl (λtmps(t,a)=>tmps.setIfInBounds t a) l.tmps) l.assign l.body w (xG s g w k kp r):=by
 unfold Qj at h;split at h;rotate_left
 .cases h
 rename_i l ho;obtain⟨hc,h1⟩|⟨_,h1⟩:=ah h
 rotate_left
 .cases h1
 clear h;simp only[eK,gY]at hc;obtain⟨hrd,hlen,hpar,A,hra,hrb,hfl⟩:=hc;obtain⟨hst,hpe⟩:=yX hrd;have hfl:s.fl<=o:=g9 hfl;have A:l.fr.n<=bC:=g9 A;have ho0:(aI s).ob.get o=Z (.lp (yh l)):=by rw[aS,ho];rfl
 obtain⟨x,hx,hr⟩:=(hs.box o b hb).2.2 _ ho0;cases hr with
 |lp _ c q1 q2 q4 q5 q6 q8 q9=>
 have hsz:vs.size=c.params.size:=by
  have h1:=beq_iff'.1 hlen;rw[bR,bR]at h1;have h2:=oe.1;rw[eR]at h2;have h3:c.params.toList.length=l.params.length:=by rw[q4];rfl
  grind
 refine⟨c,hx,hsz,λrr n'=>?_⟩;have VA:cL g (bB {n:=l.fr.n,tm:=l.fr.tm}) {tmps:=c.tmps,defers:=[]} w:=⟨q8,.nil,q9⟩;have hf1:=CO A l.params args vs.toList l.fr.tm c.tmps (λk hk=>g9 (hpar k hk)) oe VA;rw[Un,q4];have hs0:bq g (aI {s with lo:=s.aL}) w:=⟨hs.aL,hs.ai,hs.box,hs.arr,hs.bx,hs.kJ⟩;have q5:c.assign=l.assign:=q5;have q6:c.body=l.body:=q6;rw[q5,q6];refine afq ?_;refine wpIn_mono (pH (rr:=Z b) hE q u n l.fid [] l.assign 0 h1 (λ_=>hra) A (cu _) hf1 hs0) λe a' w1 hq=>?_;obtain hF|⟨ex,sQ,i,g1,p1,C,p3,p4,f,_⟩:=hq
 .exact hF.elim
 cases p1 with
 |ext j=>cases C
 |ret=>cases C
 |hU t v hv=>cases C
 |qJ=>
 simp only[aed]at C;split at C;rotate_left
 .cases C
 rename_i F Tw;obtain⟨ap2,p2'⟩|⟨_,p2'⟩:=ah C
 rotate_left
 .cases p2'
 clear C;obtain⟨agb,hpe1⟩:=yX ap2;have B:=f.ext.bV _ _ hb;have I:(aI i).ob.get o=Z (.lp (yh F)):=by rw[aS,Tw];rfl
 obtain⟨x1,hx1,hr1⟩:=(f.rel.box o b B).2.2 _ I;cases hr1 with
 |lp _ L1 a1 a2 a4 a5 a6 a8 a9=>
 have K:i.fl<=o:=by rw[f.fl];exact hfl
 obtain⟨hs2,YZ⟩:=f.rel.setObj (w':=w1.putObj b (.loop {L1 with state:=.busy})) B I rfl K (x':=.loop {L1 with state:=.busy}) (ob':=.lp (yh {F with st:=.busy})) (.lp _ _ rfl a2 a4 a5 a6 a8 a9)
  World.putObj_size (λb' hb'=>World.putObj_heap_other hb') (World.putObj_heap_same (f.rel.box o b B).2.1) rfl rfl
 have aj6:aI {i with ob:=i.ob.set aR o (.lp {F with st:=.busy})}={aI i with ob:=(aI i).ob.set aR o (cU (.lp {F with st:=.busy}))}:=fL i _ _ i.wr;have apT:bq g1 (aI {i with ob:=i.ob.set aR o (.lp {F with st:=.busy})}) (w1.putObj b (.loop {L1 with state:=.busy})):=by rw[aj6];exact hs2
 refine⟨_,run_beginRound hx1 (by rw[a1];exact agb),?_⟩;have aqx:i.lo<=i.aL:=by rw[f.lo];exact f.aL
 refine wpIn_mono (pH (rr:=Z b) hE q u n l.fid [] l.body 0 p2' (λ_=>hrb) (by grind) aqx (p4.ext YZ f.rel.bx) apT) λe a2 w2 hq=>?_;obtain hF|⟨ex,PS,p,g2,c1,c2,c3,c4,m,_⟩:=hq
 .exact hF.elim
 cases c1 with
 |ext j=>cases c2
 |ret=>cases c2
 |hU t v hv=>cases c2
 |qJ=>
 simp only[aee]at c2;split at c2;rotate_left
 .cases c2
 rename_i l2 WC;have pF:=m.ext.bV _ _ B;have P:(aI p).ob.get o=Z (.lp (yh l2)):=by rw[aS,WC];rfl
 obtain⟨x2,hx2,hr2⟩:=(m.rel.box o b pF).2.2 _ P;cases hr2 with
 |lp _ L2 d1 d2 d4 d5 d6 d8 d9=>
 have YY:p.fl<=o:=by rw[m.fl];exact K
 obtain⟨Q5,Ez⟩:=m.rel.setObj (w':=w2.putObj b (.loop {L2 with state:=.ready,pending:=Y})) pF P rfl YY (x':=.loop {L2 with state:=.ready,pending:=Y}) (ob':=.lp (yh {l2 with st:=.ready,u5:=Y})) (.lp _ _ rfl rfl d4 d5 d6 d8 d9)
  World.putObj_size (λb' hb'=>World.putObj_heap_other hb') (World.putObj_heap_same (m.rel.box o b pF).2.1) rfl rfl
 have aj5:aI {p with ob:=p.ob.set aR o (.lp {l2 with st:=.ready,u5:=Y})}={aI p with ob:=(aI p).ob.set aR o (cU (.lp {l2 with st:=.ready,u5:=Y}))}:=fL p _ _ p.wr;have hall:fJ {s with lo:=s.aL} g w {p with ob:=p.ob.set aR o (.lp {l2 with st:=.ready,u5:=Y})} g2 (w2.putObj b (.loop {L2 with state:=.ready,pending:=Y})):=by
  have e1:n5 s.aL s.fl g1 w1 g1 (w1.putObj b (.loop {L1 with state:=.busy})):=by have:=YZ.I8 s.aL;rw[show(aI i).fl=s.fl from f.fl]at this;exact this
  have e2:n5 s.aL s.fl g1 (w1.putObj b (.loop {L1 with state:=.busy})) g2 w2:=by have:=m.ext;rw[show i.lo=s.aL from f.lo,show i.fl=s.fl from f.fl]at this;exact this
  have e3:n5 s.aL s.fl g2 w2 g2 (w2.putObj b (.loop {L2 with state:=.ready,pending:=Y})):=by have:=Ez.I8 s.aL;rw[show(aI p).fl=s.fl from m.fl.trans f.fl]at this;exact this
  refine⟨by rw[aj5];exact Q5,((f.ext.trans e1).trans e2).trans e3,m.fl.trans f.fl,m.lo.trans f.lo,gk f.aL m.aL,λj hj=>m.uE j (f.uE j hj),λj hj hno=>?_,λj hj=>m.IS j (f.IS j hj)⟩;have aqm:j∉i.wr:=λhm=>hno (m.uE j hm);have k1:=f.same j hj aqm;have k2:=m.same j (iP hj f.aL) hno;have R:o<bC:=iP (hs.lt hb) hs.aL;show(p.ob.set aR o _).get j=s.ob.get j;rw[Tr.bn _ _ _ _ R];have z:p.ob.get j=(i.ob.set aR o (.lp {F with st:=.busy})).get j:=k2;rw[Tr.bn _ _ _ _ R]at z;by_cases e:j=o
  .subst e;rw[cn rfl]at z ⊢;rw[WC]at z;rw[Tw]at k1;have k1:Z (ux.lp F)=s.ob.get j:=k1;rw[ho]at k1;simp only[gV,ux.lp.injEq]at k1 z;subst k1;subst z;rw[ho];obtain⟨st,pe,fid,fr,par,asg,bd⟩:=F
   grind
  simp_all
 exact⟨.bool W,_,run_endRound Y hx2,.kb W,_,g2,c2,.kb W,fJ.I8 hs hall⟩
def OY{E:eT S}(A:fq E)(a:∀call:fU S,gA E.T.E.P call->r6 E call)(n:Nat):∀d,gA E.T.E.P (DA E n d):=by
 intro d
 induction d with
 |zero=>exact⟨λf args s ω k B r h=>(by cases h),λf args s ω k B r h=>(by cases h),λo args s ω k B r h=>(by cases h)⟩
 |succ d y=>
  refine⟨λf args s ω k B r h g w vs m p=>?_,λf args s ω k B r h g w vs m p=>?_,λo args s ω k B r h g w vs b m p z=>KI A y (a _ y) n h m p z⟩;rotate_left
  .simp[DA,Z4]at h;split at h
   .cases h
   rename_i fn q;split at h
   .cases h
   rename_i c hc;have u:=A.Uw.TC _ _ q;refine⟨⟨fn,u,by rw[hc];rfl,A.name _ _ q⟩,?_⟩;obtain⟨z,h⟩|⟨_,h⟩:=ah h
   rotate_left
   .cases h
   simp only[eK]at z;have C:args.length<=fn.ntmps:=by have:=g9 z.1;rwa [bR]at this
   have x:fn.ntmps<bC:=g9 z.2.1;have hlo:s.lo=0:=beq_iff'.1 z.2.2;have F:=sO (n:=fn.ntmps) x C p;refine rV u hc (wpIn_mono (pH A y (a _ y) n f _ c 0 h (λh=>absurd rfl h) (Jl x) (by omega) F m) λe a' w' hq=>?_);obtain hF|⟨ex,fr',s',g',h1,h2,h3,h4,h5,h6⟩:=hq
   .exact hF.elim
   .exact we A y (a _ y) n (R:=Ko s g w k B r) h2 h1 h4 h5.rel (λt j i v l I K P=>⟨t,_,i,I,K,h5.trans P.toW⟩) (λt j i v l I K P=>⟨v,t,_,i,rfl,I,K,h5.trans P.toW⟩)
  simp[DA,Z4]at h;split at h
  .cases h
  .rename_i fn q;split at h
   .cases h
   .rename_i c hc;have u:=A.Uw.TC _ _ q;refine⟨⟨fn,u,by rw[hc];rfl,A.name _ _ q⟩,?_⟩;obtain⟨z,h⟩|⟨_,h⟩:=ah h
    .rw[Bz]at z;have C:args.length<=fn.ntmps:=by have:=g9 z.1;rwa [bR]at this
     have x:fn.ntmps<bC:=g9 z.2;have F:=sO (n:=fn.ntmps) x C p;have hs0:bq g (aI {s with lo:=s.aL}) w:=⟨m.aL,m.ai,m.box,m.arr,m.bx,m.kJ⟩;refine rV u hc (wpIn_mono (pH A y (a _ y) n f _ c 0 h (λh=>absurd rfl h) (Jl x) (cu _) F hs0) λe a' w' hq=>?_);obtain hF|⟨ex,fr',s',g',h1,h2,h3,h4,h5,h6⟩:=hq
     .exact hF.elim
     .have lo:∀{j:bu S}{i:Gh}{l:World},cR [] s' g' w' j i l->cR [] s g w {j with lo:=s.lo} i l:=λ{j i l}k=>
       fJ.I8 m (h5.trans k.toW)
      exact we A y (a _ y) n (R:=xG s g w k B r) h2 h1 h4 h5.rel (λt j i v l I K P=>⟨t,_,i,I,K,lo P⟩) (λt j i v l I K P=>⟨v,t,_,i,rfl,I,K,lo P⟩)
    .cases h
def qh:∀(ps:L Pk)(b:Nat)(s:bu S)(x:fX S.A ps),s.aL<=(u7 b s ps x).2.aL
 |[],_,_,_=>cu _|.one c::ps,b,s,x=>gk (SI s c x.1) (qh ps b _ x.2)|.box k::ps,b,s,x=>gk (Ek k s (Z (Ns b)) x.1) (qh ps (Ns b) {(kR s (Z (Ns b)) k x.1).2 with ob:=(kR s (Z (Ns b)) k x.1).2.ob.set aR b (kR s (Z (Ns b)) k x.1).1} x.2)
 |.hid k::ps,b,s,x=>gk (Ek k s (Z (Ns b)) x.1) (qh ps (Ns b) {(kR s (Z (Ns b)) k x.1).2 with ob:=(kR s (Z (Ns b)) k x.1).2.ob.set aR b (kR s (Z (Ns b)) k x.1).1} x.2)
structure InR(g:Gh)(s:bu S)(w:World)(al:List ff)(g':Gh)(s':bu S):Prop where
 rel:bq g' (aI s') w
 le:nA g g'
 bx:g'.bx=g.bx
 own:∀k b,bG g' k b->bG g k b∨∃a∈al,a.at b
 fl:s'.fl=s.fl
 lo:s'.lo=s.lo
 aL:s.aL<=s'.aL
 bV:g'.bV=g.bV
 arr:∀o,o<s.aL->∀e,g'.arr o e=g.arr o e
theorem Q3{w:World}:∀{ps:L Pk}{x:fX S.A ps}{vals:L Value}{al:L ff}{bl:L Nat}{b:Nat}{g:Gh}{s:bu S},qy S g.bx w ps x vals al bl->bq g (aI s) w->(∀j bV,bl[j]?=Z bV->g.bV (b+j)=Z bV)->
  (∀j,j<bl.length->b+j<s.aL∧∀e,g.arr (b+j) e=Y)->(∀a∈al,∀b,a.at b->∀o,¬bG g o b)->wY al->(u7 b s ps x).2.aL<=bC->
  ∃g',InR g s w al g' (u7 b s ps x).2∧PW (aP g' w) (bz (u7 b s ps x).1) vals:=by
 intro ps
 induction ps with
 |nil=>intro x vals al bl b g s hp hs _ _ _ _ _;cases hp;exact⟨g,⟨hs,nA.refl _,rfl,λ_ _ h=>.inl h,rfl,rfl,cu _,rfl,λ_ _ _=>rfl⟩,⟨rfl,λj t v h=>by simp_all⟩⟩
 |cons p ps ih=>
  intro x vals al bl b g s hp hs q r K P hn;cases hp with
  | @one c _ f xr v vs DC Bc bl h1 h2=>
   have m:=tG.1 P;have y:(vw s c f).2.aL<=bC:=gk (qh ps b _ xr) hn
   let ⟨E,d,oe⟩:=m6 (cs:=[c]) (x:=(f,())) h1 hs (λa F=>K a (fh _ F)) m.1 (by simpa[ig]using y)
   have e1:(ig s [c] (f,())).1=[(vw s c f).1]:=rfl;have e2:(ig s [c] (f,())).2=(vw s c f).2:=rfl;have hv1:aP E w (low (vw s c f).1) v:=oe.2 0 _ _ rfl rfl
   let ⟨g2,i,R⟩:=ih (b:=b) (g:=E) (s:=(vw s c f).2) (d.bx▸h2) d.rel (λj bV h=>by rw[d.bV];grind) (λj hj=>⟨iP (r j hj).1 d.aL,λe=>by rw[d.arr _ (r j hj).1];simp_all⟩)
    (λa F b hb o n=>by
     obtain n|⟨_,a2,ha2,pF⟩:=d.own o b n
     .grind
     grind) m.2.1 hn
   refine⟨g2,⟨i.rel,d.le.trans i.le,i.bx.trans d.bx,λk B n=>?_,i.fl.trans d.fl,i.lo.trans d.lo,gk d.aL i.aL,i.bV.trans d.bV,λo I e=>(i.arr o (iP I d.aL) e).trans (d.arr o I e)⟩,⟨by simp only[u7,bz,qH];rw[R.1],λj t v' q1 u=>?_⟩⟩
   .obtain n|⟨a',u,q3⟩:=i.own k B n
    .obtain n|⟨_,a',u,q3⟩:=d.own k B n
     .exact .inl n
     grind
    grind
   .cases j with|zero=>simp[u7,bz]at q1 u;subst q1;subst u;exact hv1.le i.le|succ j=>exact R.2 j t v' (by simpa[u7,bz]using q1) (by simpa using u)
  | @box l _ f xr b0 hx vs DC Bc bl hh h1 h2=>
   have m:=tG.1 P;have y:(kR s (Z (Ns b)) l f).2.aL<=bC:=gk (qh ps (Ns b) {(kR s (Z (Ns b)) l f).2 with ob:=(kR s (Z (Ns b)) l f).2.ob.set aR b (kR s (Z (Ns b)) l f).1} xr) hn
   let ⟨E,d,z⟩:=o5 h1 (λB A=>⟨_,rfl,by cases bl with|nil=>cases A|cons c' O3=>(cases A;grind)⟩) hs (λa F=>K a (fh _ F)) m.1 y
   have hb0:=r 0 (by simp);have C:g.bV b=Z b0:=q 0 b0 rfl;have hk:=d.rel.tS (o:=b) (b:=b0) (by rw[d.bV];exact C) hh z (λe=>by rw[d.arr b (by omega)];exact hb0.2 e);have hk2:bq E (aI {(kR s (Z (Ns b)) l f).2 with ob:=(kR s (Z (Ns b)) l f).2.ob.set aR b (kR s (Z (Ns b)) l f).1}) w:=by
    have:=fL (kR s (Z (Ns b)) l f).2 b (kR s (Z (Ns b)) l f).1 (kR s (Z (Ns b)) l f).2.wr
    simp_all
   let ⟨g2,i,R⟩:=ih (b:=Ns b) (g:=E) (s:={(kR s (Z (Ns b)) l f).2 with ob:=(kR s (Z (Ns b)) l f).2.ob.set aR b (kR s (Z (Ns b)) l f).1}) (d.bx▸h2) hk2
    (λj bV h=>by rw[d.bV];have:=q (j+1) bV (by simpa using h);rwa [show b+(j+1)=Ns b+j by omega]at this)
    (λj hj=>by
     have:=r (j+1) (by simp;omega);rw[show b+(j+1)=Ns b+j by omega]at this;exact⟨iP this.1 d.aL,λe=>by rw[d.arr _ this.1];exact this.2 e⟩)
    (λa F b hb o n=>by
     obtain n|⟨_,a2,ha2,pF⟩:=d.own o b n
     .grind
     grind) m.2.1 hn
   refine⟨g2,⟨i.rel,d.le.trans i.le,i.bx.trans d.bx,λk B n=>?_,i.fl.trans d.fl,i.lo.trans d.lo,gk d.aL i.aL,i.bV.trans d.bV,λo I e=>(i.arr o (iP I d.aL) e).trans (d.arr o I e)⟩,⟨by simp only[u7,bz,qH];rw[R.1],λj t v' q1 u=>?_⟩⟩
   .obtain n|⟨a',u,q3⟩:=i.own k B n
    .obtain n|⟨_,a',u,q3⟩:=d.own k B n
     .exact .inl n
     grind
    grind
   .cases j with|zero=>simp[u7,bz,Ng,gV]at q1 u;subst q1;subst u;exact NZ (by rw[i.bV,d.bV];exact C)|succ j=>exact R.2 j t v' (by simpa[u7,bz]using q1) (by simpa using u)
  | @hid l _ f xr b0 hx vs DC Bc bl hh h1 h2=>
   have m:=tG.1 P;have y:(kR s (Z (Ns b)) l f).2.aL<=bC:=gk (qh ps (Ns b) {(kR s (Z (Ns b)) l f).2 with ob:=(kR s (Z (Ns b)) l f).2.ob.set aR b (kR s (Z (Ns b)) l f).1} xr) hn
   let ⟨E,d,z⟩:=o5 h1 (λB A=>⟨_,rfl,by cases bl with|nil=>cases A|cons c' O3=>(cases A;grind)⟩) hs (λa F=>K a (fh _ F)) m.1 y
   have hb0:=r 0 (by simp);have C:g.bV b=Z b0:=q 0 b0 rfl;have hk:=d.rel.tS (o:=b) (b:=b0) (by rw[d.bV];exact C) hh z (λe=>by rw[d.arr b (by omega)];exact hb0.2 e);have hk2:bq E (aI {(kR s (Z (Ns b)) l f).2 with ob:=(kR s (Z (Ns b)) l f).2.ob.set aR b (kR s (Z (Ns b)) l f).1}) w:=by
    have:=fL (kR s (Z (Ns b)) l f).2 b (kR s (Z (Ns b)) l f).1 (kR s (Z (Ns b)) l f).2.wr
    simp_all
   let ⟨g2,i,R⟩:=ih (b:=Ns b) (g:=E) (s:={(kR s (Z (Ns b)) l f).2 with ob:=(kR s (Z (Ns b)) l f).2.ob.set aR b (kR s (Z (Ns b)) l f).1}) (d.bx▸h2) hk2
    (λj bV h=>by rw[d.bV];have:=q (j+1) bV (by simpa using h);rwa [show b+(j+1)=Ns b+j by omega]at this)
    (λj hj=>by
     have:=r (j+1) (by simp;omega);rw[show b+(j+1)=Ns b+j by omega]at this;exact⟨iP this.1 d.aL,λe=>by rw[d.arr _ this.1];exact this.2 e⟩)
    (λa F b hb o n=>by
     obtain n|⟨_,a2,ha2,pF⟩:=d.own o b n
     .grind
     grind) m.2.1 hn
   refine⟨g2,⟨i.rel,d.le.trans i.le,i.bx.trans d.bx,λk B n=>?_,i.fl.trans d.fl,i.lo.trans d.lo,gk d.aL i.aL,i.bV.trans d.bV,λo I e=>(i.arr o (iP I d.aL) e).trans (d.arr o I e)⟩,R⟩
   .obtain n|⟨a',u,q3⟩:=i.own k B n
    .obtain n|⟨_,a',u,q3⟩:=d.own k B n
     .exact .inl n
     grind
    grind
def oQ(C:fO S){g:Gh}{w:World}{s:bu S}(hs:bq g (aI s) w):∀{ps:L Pk}{b:Nat}{x:iw S.A ps}{fz ow bl:L Nat},tL s b ps=Z (x,fz,ow)->(∀j bV,bl[j]?=Z bV->g.bV (b+j)=Z bV)->bl.length=eD ps->
  (∀o∈fz,Live g (aI s) o)∧(∀o∈ow,s.fl<=o∧s.lo<=o∧o<s.aL∧∃ob,s.ob.get o=Z ob∧RJ ob=W)∧∀(u:Gh)(s1:St)(q:L Nat),bq u s1 w->Ext s.fl g w u w->ko (aI s) s1 q->(∀o∈fz,o∈q)->(∀o∈ow,s1.ob.get o=(aI s).ob.get o)->
   ∃al,Ei S u.bx w ps x bl al∧AL u al ow
 |[],b,x,fz,ow,bl,h,_,i=>by
  simp only[tL,gV,fP]at h;obtain⟨_,rfl,rfl⟩:=h
  match bl,i with
  |[],_=>exact⟨λo l=>(by cases l),λo l=>(by cases l),λ_ _ _ _ _ _ _ _=>⟨[],.nil,.nil⟩⟩
  |_::_,i=>exact absurd i (by simp[eD])
 |.one c::ps,b,x,fz,ow,bl,h,m,i=>by
  simp[tL]at h
  let ⟨E,F,I⟩:=oQ C hs h m (by simpa[eD]using i)
  refine⟨E,F,λu s1 q a b c d e=>?_⟩
  let ⟨al,K,P⟩:=I u s1 q a b c d e
  exact⟨al,.one K,P⟩
 |.box k::ps,b,x,fz,ow,bl,h,m,i=>by
  match bl,i with
  |[],i=>exact absurd i (by simp[eD])
  |b0::bl,i=>
  simp only[tL]at h;split at h;rotate_left
  .cases h
  rename_i x1 a1 b1 nx h1 a2 b2 R e2;obtain⟨z,h⟩|⟨_,h⟩:=ah h
  rotate_left
  .cases h
  rw[Bz]at z;obtain⟨rfl,rfl,rfl⟩:=h;have v:g.bV b=Z b0:=m 0 b0 rfl;have n:∀j bV,bl[j]?=Z bV->g.bV (Ns b+j)=Z bV:=λj bV h=>by have:=m (j+1) bV (by simpa using h);rwa [show b+(j+1)=Ns b+j by omega]at this
  have f:bl.length=eD ps:=by simpa[eD]using i
  let ⟨_,hx,hh,E,F,I⟩:=qQ C hs v R
  let ⟨_,A⟩:=Ak hs v R
  let ⟨q1,q2,q3⟩:=oQ C hs e2 n f
  refine⟨λo l=>(dW.1 l).elim (E o) (q1 o),λo l=>(dW.1 l).elim (F o) (q2 o),λu s1 q y B hf r p=>?_⟩
  let ⟨DC,K,P⟩:=I u s1 q y B hf (λo l=>r o (fh _ l)) (λo l=>p o (fh _ l)) (fD bl) (λo' t=>by
   subst t;obtain⟨pre,post,rfl⟩:=A o' rfl;have t:o'=Ns b:=xI z.1;subst t
   match ps,z.2,f with
   |.hid k'::ps,_,f=>
    match bl,f with
    |c::bl,_=>exact⟨c,rfl,B.bV _ _ (n 0 c rfl)⟩|[],f=>exact absurd f (by simp[eD]))
  let ⟨Bc,k3,k4⟩:=q3 u s1 q y B hf (λo l=>r o (eO _ l)) (λo l=>p o (eO _ l))
  exact⟨_,.box hh K k3,P.append k4⟩
 |.hid k::ps,b,x,fz,ow,bl,h,m,i=>by
  match bl,i with
  |[],i=>exact absurd i (by simp[eD])
  |b0::bl,i=>
  simp only[tL]at h;split at h;rotate_left
  .cases h
  rename_i R e2;obtain⟨z,h⟩|⟨_,h⟩:=ah h
  rotate_left
  .cases h
  rw[Bz]at z;obtain⟨rfl,rfl,rfl⟩:=h;have v:g.bV b=Z b0:=m 0 b0 rfl;have n:∀j bV,bl[j]?=Z bV->g.bV (Ns b+j)=Z bV:=λj bV h=>by have:=m (j+1) bV (by simpa using h);rwa [show b+(j+1)=Ns b+j by omega]at this
  have f:bl.length=eD ps:=by simpa[eD]using i
  let ⟨_,hx,hh,E,F,I⟩:=qQ C hs v R
  let ⟨_,A⟩:=Ak hs v R
  let ⟨q1,q2,q3⟩:=oQ C hs e2 n f
  refine⟨λo l=>(dW.1 l).elim (E o) (q1 o),λo l=>(dW.1 l).elim (F o) (q2 o),λu s1 q y B hf r p=>?_⟩
  let ⟨DC,K,P⟩:=I u s1 q y B hf (λo l=>r o (fh _ l)) (λo l=>p o (fh _ l)) (fD bl) (λo' t=>by
   subst t;obtain⟨pre,post,rfl⟩:=A o' rfl;have t:o'=Ns b:=xI z.1;subst t
   match ps,z.2,f with
   |.hid k'::ps,_,f=>
    match bl,f with
    |c::bl,_=>exact⟨c,rfl,B.bV _ _ (n 0 c rfl)⟩|[],f=>exact absurd f (by simp[eD]))
  let ⟨Bc,k3,k4⟩:=q3 u s1 q y B hf (λo l=>r o (eO _ l)) (λo l=>p o (eO _ l))
  exact⟨_,.hid hh K k3,P.append k4⟩
theorem Ei.iE{I:Nat->Prop}{w:World}{ps:L Pk}{x:iw S.A ps}{al:L ff}{bl:L Nat}(h:Ei S I w ps x bl al):∀a∈al,∀b,a.at b->¬I b:=by
 induction h with
 |nil=>simp_all|one _ d=>exact d|box f h1 h2 d=>
  intro a c b e;obtain c|c:=dW.1 c
  .exact h1.iE a c b e
  grind
 |hid f h1 h2 d=>
  intro a c b e;obtain c|c:=dW.1 c
  .exact h1.iE a c b e
  grind
theorem RD{I:Nat->Prop}{w:World}{ps:L Pk}{x:fX S.A ps}{vs:L Value}{al:L ff}{bl:L Nat}(h:qy S I w ps x vs al bl):eD ps=bl.length:=by
 induction h with|nil=>rfl|one _ _ a=>exact a|box _ _ _ a=>grind[eD]|hid _ _ _ a=>grind[eD]
def gh0(I:Nat->Prop)(bl:L Nat):Gh:=⟨λo=>bl[o]?,λ_ _=>Y,I⟩
def xw{I:Nat->Prop}{bl:L Nat}{o b:Nat}(h:bG (gh0 I bl) o b):bl[o]?=Z b:=by
 obtain⟨_,h|⟨e,x,a,h,_⟩⟩:=h
 .exact h
 .cases h
theorem ada{I:Nat->Prop}{bl:L Nat}{w:World}(d:∀b,I b->b<w.heap.size)(f:bl.Nodup)(a:∀b∈bl,b<w.heap.size∧¬I b)(hn:bl.length<=bC) :
  bq (gh0 I bl) (aI (⟨.nil,bl.length,0,bl.length,[],[]⟩:bu S)) w:=by
 refine⟨hn,λo g=>⟨?_,λe=>rfl⟩,λo b h=>?_,λo e x h=>?_,d,λo k b h i=>?_⟩
 .exact List.getElem?_eq_none g
 .have c:=hJ h;refine⟨(a b c).2,(a b c).1,λob j=>?_⟩
  grind[aS,Tr.get_nil]
 .cases h
 .have h1:=xw h;have h2:=xw i
  grind[List.getElem?_inj]
def VV{E:eT S}{n d:Nat}{f:FuncId}{ps:L Pk}{a:L Ck}{x:fX S.A ps}{r:RT E.pn (gr S.A a×iw S.A ps) (den S.A S.pt×iw S.A ps)}(h:AS E n d f ps a x=Z r) :
  (u7 0 ⟨.nil,eD ps,0,eD ps,[],[]⟩ ps x).2.aL<=bC∧Z8 E n d f (u7 0 ⟨.nil,eD ps,0,eD ps,[],[]⟩ ps x).1 (u7 0 ⟨.nil,eD ps,0,eD ps,[],[]⟩ ps x).2 (agU E.pn a ps) (agT E.pn a ps)=Z r:=by
 unfold AS at h;obtain⟨_,h⟩|⟨b,h⟩:=ah h
 .cases h
 simp_all
def RT.ab0{R P:Type}:∀{a:Bool}{p:P}{r:RT a R P},RT.hU a p=Z r->RT.res a r=.hU p
 |false,_,_,h=>by cases h
 |true,_,_,h=>by cases h;rfl
theorem Ho{E:eT S}(hE:fq E)(y:∀call:fU S,gA E.T.E.P call->r6 E call){f:FuncId}{fn:Func}{c:Code}(hfn:E.T.E.TC f=Z fn)(hc:fn.body=Z c)(n d:Nat)(ps:L Pk)(rs:L Ck) :
  bH E.T.E.P f ⟨ps,rs,E.pn,AS E n d f ps rs⟩:=by
 have hfs:=hE.Uw.TC _ _ hfn;refine⟨⟨fn,hfs,by rw[hc];rfl,hE.name _ _ hfn⟩,λx r h I w vs al bl hp hI hap hnd WD=>?_⟩;dsimp only at x r h hp
 let ⟨A,h⟩:=VV h
 have hlen:=RD hp;have z:=qh ps 0 (⟨.nil,eD ps,0,eD ps,[],[]⟩:bu S) x;have hn0:eD ps<=bC:=gk z A;have apX:bq (gh0 I bl) (aI (⟨.nil,eD ps,0,eD ps,[],[]⟩:bu S)) w:=by have:=ada (S:=S) (w:=w) hI hnd (λb i=>⟨(WD b i).1,(WD b i).2.1⟩) (by omega);rwa [hlen]
 let ⟨g0,hr,oe⟩:=Q3 (b:=0) (g:=gh0 I bl) hp apX (λj bV h=>by rw[qG];exact h) (λj hj=>⟨by simp;omega,λe=>rfl⟩)
  (λa B b i o k=>(WD b (hJ (xw k))).2.2 a B i) hap A
 generalize u7 0 ⟨.nil,eD ps,0,eD ps,[],[]⟩ ps x=q at h A hr oe z
 let ⟨args,s0⟩:=q
 dsimp only at h A hr oe z;have aki:s0.fl=0:=hr.fl;have aqy:s0.lo=eD ps:=hr.lo;simp[Z8,hfn,hc]at h;obtain⟨i,h⟩|⟨_,h⟩:=ah h
 rotate_left
 .cases h
 rw[Bz]at i;have DV:args.length<=fn.ntmps:=by have:=g9 i.1;rwa [bR]at this
 have pF:fn.ntmps<bC:=g9 i.2;have VA:=sO (n:=fn.ntmps) pF DV oe;have m:=OY hE y n d;have core:∀(s':bu S)(g':Gh)(w':World),fJ s0 g0 w s' g' w'->∀(rs:L Ck)(t:V S)(v:Value)(r1:gr S.A rs×iw S.A ps),adl rs ps t s'=Z r1->aP g' w' (low t) v->EH S I w ps rs r1 al bl v w':=by
  intro s' g' w' h5 rs t v r h2 ht;unfold adl at h2;split at h2;rotate_left
  .cases h2
  rename_i r1 fz ow b1 fz' ow' e1 e2;split at h2;rotate_left
  .cases h2
  rename_i s1 e3;obtain⟨i,h2⟩|⟨_,h2⟩:=ah h2
  rotate_left
  .cases h2
  simp at h2;subst h2;rw[Bz]at i;have agq:=lD i.1;have aqW:=zx i.2;obtain⟨vals,rfl,ajH⟩:=Fc ht e1;have akw:∀j bV,bl[j]?=Z bV->g'.bV (0+j)=Z bV:=λj bV h=>h5.ext.bV _ _ (by rw[hr.bV,qG];exact h)
  let ⟨p1,p2,p3⟩:=gl hE.sg h5.rel e1 ajH
  let ⟨q1,q2,q3⟩:=oQ hE.sg h5.rel e2 akw hlen.symm
  have hfr:=dx hE.sg _ e3
  let ⟨g1,l,C,hfz⟩:=eI (fz++fz') h5.rel hfr (λo F=>(dW.1 F).elim (p1 o) (q1 o))
  let ⟨f1,f2,f3,f4,f5,f6,f7⟩:=eM e3
  have hsame:∀o∈ow++ow',(aI s1).ob.get o=(aI s').ob.get o:=λo F=>by rw[aS,aS,f6 o (aqW o F)]
  let ⟨Bc,K,k2⟩:=p3 g1 (aI s1) (fz++fz') l C hfz (λo F=>fh _ F) (λo F=>hsame o (fh _ F))
  let ⟨DC,k3,k4⟩:=q3 g1 (aI s1) (fz++fz') l C hfz (λo F=>eO _ F) (λo F=>hsame o (eO _ F))
  have aqn:=K.iE;have aqo:=k3.iE;have hmem:∀a∈DC++Bc,a∈Bc++DC:=λa B=>dW.2 ((dW.1 B).symm);have hni:∀a∈Bc++DC,∀b,a.at b->¬g1.bx b:=λa B=>(dW.1 B).elim (aqn a) (aqo a);have hAL:=k2.append k4;have hown:=hAL.owned hni;have p:=hAL.apart l agq hni;have hfl':s'.fl=0:=h5.fl.trans aki;have acV:s'.lo=eD ps:=h5.lo.trans aqy;have ajX:∀o b,bG g1 o b->(b∈bl∨∃a∈al,a.at b)∨w.heap.size<=b:=by
   intro o b k;obtain k|hge:=C.own o b k
   .obtain ⟨P,_,VI⟩|hge:=h5.ext.own o b (by omega) k
    .obtain VI|⟨a,B,hab⟩:=hr.own P b VI
     .exact .inl (.inl (hJ (xw VI)))
     grind
    omega
   .have:=h5.ext.size;omega
  have s:∀b∈bl,∃o,o<eD ps∧g1.bV o=Z b:=by intro b i;obtain⟨j,hj,rfl⟩:=qI i;exact⟨0+j,by omega,C.bV _ _ (akw j _ (iZ hj))⟩
  refine⟨g1.bx,vals,DC,Bc,λb i=>C.bx b (h5.ext.bx b (hr.bx▸i)),λb i=>?_,l.bx,h5.ext.size,λb i A hna=>?_,h5.ext.os,h5.ext.output,rfl,k3,K,?_,λa B b hab=>?_,λb i=>⟨?_,λa B hab=>?_⟩⟩
  .have h0:∀o,bG g0 o b->I b∨w.heap.size<=b∨∃a∈al,a.at b:=λo k=>by
    obtain k|h:=hr.own o b k
    .let ⟨P,_,u⟩:=s b (hJ (xw k))
     exact absurd i (l.box P b u).1
    simp_all
   obtain i|i|⟨o,_,k⟩:=C.rO b i
   .obtain i|i|⟨o,_,k⟩:=h5.ext.rO b i
    .exact .inl (by rw[hr.bx]at i;exact i)
    .omega
    grind
   .have:=h5.ext.size;omega
   .obtain ⟨P,_,VI⟩|hge:=h5.ext.own o b (by omega) k
    .grind
    omega
  .refine h5.ext.heap b i λo _ k=>?_;obtain k|⟨a,B,hab⟩:=hr.own o b k
   .exact A (hJ (xw k))
   simp_all
  .refine tG.2 ⟨(tG.1 p).2.1,(tG.1 p).1,λa B a' ha' b h1 h2=>(tG.1 p).2.2 a' ha' a B b h2 h1⟩
  .let ⟨o,F,k⟩:=hown a (hmem a B) b hab
   obtain(h|h)|h:=ajX o b k
   .let ⟨P,ho',u⟩:=s b h
    have:=l.kJ o P b k ⟨(l.box P b u).1,.inl u⟩
    grind
   .exact .inl h
   omega
  .let ⟨P,ho',u⟩:=s b i
   exact(l.box P b u).1
  .let ⟨o,F,k⟩:=hown a (hmem a B) b hab
   let ⟨P,ho',u⟩:=s b i
   have:=l.kJ o P b k ⟨(l.box P b u).1,.inl u⟩
   grind
 refine rV hfs hc (wpIn_mono (pH hE m (y _ m) n f _ c 0 h (λh=>absurd rfl h) (Jl pF) (by omega) VA hr.rel) λe a' w' hq=>?_);obtain hF|⟨ex,fr',s',g',h1,h2,h3,h4,h5,h6⟩:=hq
 .exact hF.elim
 refine we hE m (y _ m) n (R:=xF S I w ps rs (RT.res E.pn r) al bl) h2 h1 h4 h5.rel (λt s'' g'' v w'' K k2 k3=>?_) (λt s'' g'' v w'' K k2 k3=>?_)
 .unfold agU at K;split at K;rotate_left
  .cases K
  rename_i r1 e1;simp at K;have e2:RT.res E.pn r=.ok r1:=by rw[<-K];cases E.pn<;>rfl
  simp[xF,e2];exact core _ _ _ (h5.trans k3.toW) rs _ v r1 e1 k2
 .simp[agT]at K;split at K;rotate_left
  .cases K
  rename_i r1 e1;have e2:RT.res E.pn r=.hU (r1.1.1,r1.2):=RT.ab0 K;simp only[xF,e2];exact⟨v,rfl,core _ _ _ (h5.trans k3.toW) [.dat S.pt] t v r1 e1 k2⟩
section
section
variable {fr fr':bU S}{s s':bu S}
theorem vJ:∀{l:L Operand},(∀x∈l,cA fr x=cA fr' x)->kK fr l=kK fr' l
 |[],_=>rfl|x::l,h=>by simp[kK,h x fA,vJ λy a=>h y (iB _ a)]
theorem kz:∀{l:L (Nat×Operand)},(∀x∈l.map (·.2),cA fr x=cA fr' x)->ja fr l=ja fr' l
 |[],_=>rfl|(k,x)::l,h=>by simp[ja,h x (by simp),kz λy a=>h y (by simp at a ⊢;exact .inr a)]
theorem QE:∀{x:O Operand},(∀y∈x.toList,cA fr y=cA fr' y)->KQ fr x=KQ fr' x
 |none,_=>rfl|some x,h=>by simp[KQ,h x (by simp)]
theorem QG(E:gi)(s:bu S)(o:Op)(h:∀x∈o.operands.toList,cA fr x=cA fr' x):cD E fr s o=cD E fr' s o:=by
 cases o with
 |buildSlice t n c=>
  grind[Op.operands,cD,kz]
 |build t c=>
  grind[Op.operands,cD,kz]
 |makeFunc f a b=>
  grind[Op.operands,cD,vJ]
 |slice t x l d m=>
  grind[Op.operands,cD,QE]
 |alloc=>rfl|box t x=>grind[Op.operands,cD]|move x=>grind[Op.operands,cD]|assign x=>grind[Op.operands,cD]|pick x y z=>grind[Op.operands,cD]|load t x=>grind[Op.operands,cD]|store t x y=>grind[Op.operands,cD]|nilCheck x=>grind[Op.operands,cD]|binOp op t x y u=>grind[Op.operands,cD]|unOp op t x=>grind[Op.operands,cD]|convert t u x=>grind[Op.operands,cD]|makeInterface t x=>grind[Op.operands,cD]|extract x k=>grind[Op.operands,cD]|fieldAddr t x k=>grind[Op.operands,cD]|field t x k=>grind[Op.operands,cD]|indexAddr t x k=>grind[Op.operands,cD]|index t x k=>grind[Op.operands,cD]|typeAssert x t u ok=>grind[Op.operands,cD]|_=>rfl
theorem Of:∀{x:O Operand},(∀y∈x.toList,cA fr y=cA fr' y)->Og fr x=Og fr' x
 |none,_=>rfl|some x,h=>by simp[Og,h x (by simp)]
theorem U7(E:gi)(s:bu S)(o:Op)(h:∀x∈o.operands.toList,cA fr x=cA fr' x):uM E fr s o=uM E fr' s o:=by
 cases o with
 |makeMap t r=>
  grind[uM,Of,Op.operands]
 |lookup t x b ok=>grind[Op.operands,uM]|mapUpdate t x b y=>grind[Op.operands,uM]|insert t x b y=>grind[Op.operands,uM]|makeSlice t n c=>grind[Op.operands,uM]|range t x=>grind[Op.operands,uM]|nilCheck x=>grind[Op.operands,uM]|typeAssert x t u ok=>grind[Op.operands,uM]|build t e=>
  grind[Op.operands,uM,kz]
 |binOp op t x y u=>
  have d:cA fr x=cA fr' x:=h x (by simp[Op.operands]);cases op<;>first
   |rfl|(
     cases y with
     |const v=>
      cases v with
      |nilIface=>simp only[uM,d]|slice a n m=>cases a<;>cases n<;>cases m<;>first|rfl|simp[uM,d]
      |_=>rfl
     |_=>rfl)
 |_=>rfl
theorem Va(E:gi)(s:bu S)(o:Op)(h:∀x∈o.operands.toList,cA fr x=cA fr' x):DP E fr s o=DP E fr' s o:=by
 cases o with
 |indexAddr t x d=>grind[Op.operands,DP]|load t a=>grind[Op.operands,DP]|store t a x=>
  simp[Op.operands]at h;cases x with|tmp k=>have h2:fr.get k=fr'.get k:=h.2;simp[DP,h.1,h2]|_=>rfl
 |buildSlice t n e=>
  simp[DP];split
  .rename_i b c;have h2:fr.get b=fr'.get b:=h (.tmp b) (by
    grind[Op.operands])
   simp[h2]
  .rfl
  .rfl
 |_=>rfl
def Ju(E:gi)(s:bu S)(o:Op)(h:∀x∈o.operands.toList,cA fr x=cA fr' x):Al E fr s o=Al E fr' s o:=by unfold Al;rw[Va E s o h,QG E s o h,U7 E s o h]
theorem Jv(E:gi)(s:bu S)(o:Op)(h:∀x∈o.operands.toList,cA fr x=cA fr' x):iS E fr s o=iS E fr' s o:=by
 cases o with
 |next c b=>simp[Op.operands]at h;cases b<;>first|rfl|simp[iS,h]
 |lookup t x a ok=>grind[Op.operands,iS]|index t x a=>grind[Op.operands,iS]|_=>rfl
theorem Cm{c:Call}(h:∀x∈c.operands.toList,cA fr x=cA fr' x):kK fr c.args.toList=kK fr' c.args.toList∧(∀f,c.callee=.value f->cA fr f=cA fr' f)∧∀x m,c.callee=.invoke x m->cA fr x=cA fr' x:=by
 grind[Call.operands,vJ]
theorem AR(E:eT S)(call:fU S)(o:Oper)(s:bu S){ω:Type}(kp:V S->bu S->O ω)(k:V S->bu S->L Nat->O ω)(h:∀x∈o.op.operands.toList,cA fr x=cA fr' x) :
  tZ E call o fr s kp k=tZ E call o fr' s kp k:=by
 unfold tZ;have a:=Ju E.T s o.op h;have d:=Jv E.T s o.op h;cases e:o.op with
 |call c=>
  rw[e]at h
  let ⟨h1,h2,h3⟩:=Cm h
  dsimp only;rw[h1];cases g:c.callee with|value f=>simp_all|builtin b=>rfl|invoke x m=>simp_all
 |panic x=>
  grind[Op.operands]
 |_=>rw[e]at a d;simp only[a,d]
theorem iI(E:eT S)(g:O Bool)(o:Oper)(s:bu S){ω:Type}(k:V S->O ω)(h:∀x∈o.op.operands.toList,cA fr x=cA fr' x) :
  fE E g fr s o k=fE E g fr' s o k:=by
 unfold fE;have a:=Ju E.T s o.op h;have b:=Jv E.T s o.op h;cases d:o.op with
 |call c=>
  grind[Op.operands,Cm]
 |buildSlice t n e=>
  grind[Op.operands,kz]
 |slice t x l f m=>
  grind[Op.operands]
 |_=>first|rfl|(rw[d]at a b;simp only[a,b])
theorem KK(E:eT S)(o:Oper)(h:∀x∈o.op.operands.toList,cA fr x=cA fr' x):By E fr o=By E fr' o:=by
 unfold By;cases a:o.op with
 |call c=>
  grind[Op.operands,Cm]
 |buildSlice t n b=>
  grind[Op.operands,kz]
 |slice t x l d m=>
  grind[Op.operands]
 |_=>rfl
def tmpsOf(o:Op):L Nat:=o.operands.toList.filterMap λx=>match x with|.tmp k=>Z k|_=>Y
theorem jm{o:Op}(h:∀k∈tmpsOf o,fr.get k=fr'.get k):∀x∈o.operands.toList,cA fr x=cA fr' x:=by intro x a;cases x with|tmp k=>exact h k (Ac.2 ⟨.tmp k,a,rfl⟩)|_=>rfl
theorem qV{o:Op}(c:∀k∈tmpsOf o,k<bC)(h:∀k∈tmpsOf o,fr.get k=fr'.get k):∀k∈tmpsOf o,(qW fr o).get k=(qW fr' o).get k:=by
 have key:∀(l:L Operand)(f a:bU S),(∀k,.tmp k∈l->k∈tmpsOf o)->(∀k∈tmpsOf o,f.get k=a.get k)->∀k∈tmpsOf o,
   (l.foldl (λf x=>match x with
    |.tmp k=>match fr.get k with
     |some (.gd _ v)=>f.put k v|_=>f
    |_=>f) f).get k=(l.foldl (λf x=>match x with
    |.tmp k=>match fr'.get k with
     |some (.gd _ v)=>f.put k v|_=>f
    |_=>f) a).get k:=by
  intro l
  induction l with
  |nil=>simp_all|cons x l d=>
   intro f a e g k b;simp
   grind[bU.jS]
 exact key _ _ _ (λk b=>Ac.2 ⟨.tmp k,b,rfl⟩) h
theorem tW{o:Op}(c:Bool)(h:∀k∈tmpsOf o,fr.get k=fr'.get k):Om c fr o=Om c fr' o:=by
 have key:∀(l:L Operand)(q:Bool),(∀k,.tmp k∈l->k∈tmpsOf o)->
   l.foldl (λp x=>match x with
    |.tmp k=>match fr.get k with
     |some (.gd g _)=>p&&imp c g|_=>p
    |_=>p) q=l.foldl (λp x=>match x with
    |.tmp k=>match fr'.get k with
     |some (.gd g _)=>p&&imp c g|_=>p
    |_=>p) q:=by
  intro l
  induction l with
  |nil=>intro q _;rfl
  |cons x l b=>
   grind
 exact key _ _ (λk a=>Ac.2 ⟨.tmp k,a,rfl⟩)
def nV(ops:L Oper)(o:Oper):O Nat:=match o.guard with
 |none=>Y|some (j,_)=>(nth ops j).bind (·.dst)
def oW{ops:L Oper}{o:Oper}(h:∀k,nV ops o=Z k->fr.get k=fr'.get k):iH ops fr o=iH ops fr' o:=by
 unfold iH;cases b:o.guard with
 |none=>rfl|some p=>
  let ⟨j,a⟩:=p
  dsimp only;cases c:(nth ops j).bind (·.dst)with|none=>rfl|some k=>simp;rw[h k (by simp[nV,b,c])]
theorem qO{ops:L Oper}{o:Oper}(h:∀k,nV ops o=Z k->fr.get k=fr'.get k):uH ops fr o=uH ops fr' o:=by
 unfold uH;cases b:o.guard with
 |none=>rfl|some p=>
  let ⟨j,a⟩:=p
  dsimp only;cases c:(nth ops j).bind (·.dst)with|none=>rfl|some k=>simp;rw[h k (by simp[nV,b,c])]
theorem IL(E:eT S)(call:fU S){ops:L Oper}{o:Oper}(s:bu S){ω:Type}(kp:V S->bu S->O ω)(k:V S->bu S->L Nat->O ω)(hn:fr.n=fr'.n)(b:∀k∈tmpsOf o.op,k<bC)
  (h:∀k∈tmpsOf o.op,fr.get k=fr'.get k) (a:∀k,nV ops o=Z k->fr.get k=fr'.get k):oX E call ops o fr s kp k=oX E call ops o fr' s kp k:=by
 unfold oX;have h1:gB fr o.dst=gB fr' o.dst:=by cases o.dst<;>simp only[gB,hn]
 have h2:=jm h;have h3:=jm (qV b h);rw[h1,oW a,qO a];simp[AR E call o s kp k h2,AR E call o s kp k h3,KK E o h3,tW (o:=o.op) _ h]
 grind[iI]
end
theorem HF{ω:Type}(k:V S->O ω){D:O ω}{a:O (V S)}(h:D=a.bind k):∀l:L (Bool×V S×bu S),wE k D l=(wE Z a l).bind k
 |[]=>h|p::l=>by simp[wE,HF k h l];cases p.1<;>rfl
theorem AP(E:eT S)(g:O Bool)(fr:bU S)(s:bu S)(o:Oper){ω:Type}(k:V S->O ω):fE E g fr s o k=(fE E g fr s o Z).bind k:=by
 have a:∀(p:Bool)(t:V S),zi g p (k t)=(zi g p (Z t)).bind k:=by
  intro p t;cases g with
  |none=>cases p<;>rfl
  |some c=>cases c<;>cases p<;>rfl
 unfold fE;split
 .split
  .rfl
  .split
   .grind
   .split
    .rfl
    .split
     .rfl
     .rename_i c _;cases(cm c.ps&&(jK c.rs&&(jP _&&!c.pn)))with
      |false=>rfl|true=>
       split
       .unfold ai
        grind
       .rfl
   .rfl
 iterate 11
  .rfl
 .grind
 .grind
 grind[HF]
def Sm(s s':bu S)(v:V S):Prop:=∀o,cE (Nq o) v=W->s'.ob.get o=s.ob.get o
def Sms(s s':bu S)(l:L (V S)):Prop:=∀o,iG (Nq o) l=W->s'.ob.get o=s.ob.get o
variable {v:V S}
def Sms.cons{s s':bu S}{l:L (V S)}(h:Sms s s' (v::l)):Sm s s' v∧Sms s s' l:=
 ⟨λo a=>h o (by simp[iG,a]),λo a=>h o (by simp[iG,a])⟩
theorem Bu{s s':bu S}{v:V S}(h:Sm s s' v)(e:Ty):Ky s' e v=Ky s e v:=by
 cases v with
 |sh o r=>simp[Ky,h o (by simp[cE])]
 |ty t x=>cases t<;>rfl
 |_=>rfl
def T2{s s':bu S}{o:Nat}(h:s'.ob.get o=s.ob.get o)(e:Nat):LU s' o e=LU s o e:=by simp[LU,h]
mutual
def zT{s s':bu S}:∀(t:Ty)(v:V S),Sm s s' v->xK v=W->bW s' t v=bW s t v
 |t,.agg b,h,a=>by cases t with|st n=>simp[bW,MR (S.fs n) b h a]|_=>simp only[bW]
 |t,.cT u v,h,a=>by
  cases t with
  |cT n=>
   simp[bW];cases wG (S.alts n) u with|none=>rfl|some i=>simp[zT (mU (S.alts n) i) v h a]
  |_=>simp only[bW]
 |t,.sh o r,_,a=>by simp[xK]at a
 |t,.rM _ _ _ _,_,a=>by rfl
 |t,.oY _ _ _,_,_=>by cases t<;>simp only[bW]
 |t,.ty _ _,_,_=>by rfl
 |t,.kb _,_,_=>by cases t<;>simp only[bW]
 |t,.kn _ _,_,_=>by cases t<;>simp only[bW]
 |t,.dat d,_,_=>by
  cases t with
  |cT n=>
   cases d with
   |lit v=>cases v<;>simp only[bW]
   |_=>simp only[bW]
  |_=>simp only[bW]
 |t,.ptr _ _,_,_=>by cases t<;>simp only[bW]
 |t,.nJ _ _ _,_,_=>by cases t<;>simp only[bW]
 |t,.lG _ _ _ _,_,_=>by cases t<;>simp only[bW]
 |t,.emp,_,_=>by cases t<;>simp only[bW]
 |t,.kq _ _ _,_,_=>by cases t<;>simp only[bW]
 |t,.fn _ _ _,_,_=>by cases t<;>simp only[bW]
 |t,.gM _,_,_=>by cases t<;>simp only[bW]
 |t,.gd _ _,_,_=>by cases t<;>simp only[bW]
 |t,.mp _,_,_=>by cases t<;>simp only[bW]
 |t,.rB _,_,_=>by cases t<;>simp only[bW]
 |t,.s7 _,_,_=>by cases t<;>simp only[bW]
 |t,.ub _,_,_=>by cases t<;>simp only[bW]
def MR{s s':bu S}:∀(ts:L Ty)(l:L (V S)),Sms s s' l->jP l=W->oC s' ts l=oC s ts l
 |[],[],_,_=>rfl|t::ts,v::l,h,a=>by simp[jP,eK]at a;simp[oC,zT t v h.cons.1 a.1,MR ts l h.cons.2 a.2]
 |[],_::_,_,_=>rfl|_::_,[],_,_=>rfl
end
def gq(r:ov S):O (Bool×V S):=match r with
 |some (c,t,_)=>Z (c,t)|none=>Y
theorem pI{b:Bool}{x y:ov S}(h:b=W->gq x=gq y):gq (bif b then x else Y)=gq (bif b then y else Y):=by
 grind
theorem Rs{b:Bool}{x y x' a:ov S}(h:gq x=gq x')(c:gq y=gq a):gq (bif b then x else y)=gq (bif b then x' else a):=by
 grind
theorem gp{α:Type}(x:O α)(f g:α->Bool×V S×bu S)(h:∀a,(f a).1=(g a).1∧(f a).2.1=(g a).2.1):gq (x.map f)=gq (x.map g):=by cases x with|none=>rfl|some a=>grind[gq]
section
variable {fr:bU S}{s s':bu S}
theorem Yp(i:TI)(τ:O Ty){a:V S}(h:Sm s s' a):gq (yj i τ s' a)=gq (yj i τ s a):=by
 cases a with
 |ptr o off=>
  simp[yj,h o (by simp[cE])];cases s.ob.get o with
  |none=>rfl|some ob=>
   cases ob with
   |box b=>
    dsimp only;cases Nq (cB ((b.drop off).take i.size)) i.size with|false=>rfl|true=>exact gp _ _ _ λ_=>⟨rfl,rfl⟩
   |_=>rfl
 |nJ t x off=>exact gp _ _ _ λ_=>⟨rfl,rfl⟩|lG o e k off=>
  simp[yj,T2 (h o (by simp[cE]))];cases LU s o e with|none=>rfl|some x=>exact gp _ _ _ λ_=>⟨rfl,rfl⟩
 |_=>rfl
theorem IF(i:TI)(τ:O Ty){a b:V S}(h:Sm s s' a):gq (j5 i τ s' a b)=gq (j5 i τ s a b):=by
 unfold j5;split
 .rename_i e n c _;cases a with
  |sh o r=>
   simp[T2 (h o (by simp[cE]))];cases LU s o r with|none=>rfl|some x=>dsimp only;cases tc x.1 e<;>rfl
  |ty t x=>dsimp only;rw[Bu h];cases Ky s e (.ty t x)<;>rfl
  |emp=>rfl|kq n t l=>dsimp only;rw[Bu h];cases Ky s e (.kq n t l)<;>rfl
  |oY n t l=>dsimp only;rw[Bu h];cases Ky s e (.oY n t l)<;>rfl
  |_=>rfl
 .rfl
theorem ab4(E:gi)(o:Op)(c:p7 o=J)(h:∀x∈o.operands.toList,∀v,cA fr x=Z v->Sm s s' v):gq (cD E fr s' o)=gq (cD E fr s o):=by
 cases o with
 |alloc=>cases c
 |box=>cases c
 |store=>cases c
 |buildSlice=>cases c
 |slice=>cases c
 |move x=>exact gp _ _ _ λ_=>⟨rfl,rfl⟩|assign x=>exact gp _ _ _ λ_=>⟨rfl,rfl⟩|pick x y z=>
  simp[cD];split
  .exact gp _ _ _ λ_=>⟨rfl,rfl⟩
  .rfl
 |build t i=>
  simp[cD];split
  .split
   .exact gp _ _ _ λ_=>⟨rfl,rfl⟩
   .rfl
  .rfl
 |load t x=>
  grind[cD,Yp,Op.operands]
 |nilCheck x=>
  simp[cD];split<;>first|rfl|(split<;>rfl)
 |binOp op t x y u=>
  simp[cD];split
  .exact gp _ _ _ λ_=>⟨rfl,rfl⟩
  .rfl
 |unOp op t x=>
  simp[cD];split
  .exact gp _ _ _ λ_=>⟨rfl,rfl⟩
  .rfl
 |convert t u x=>
  simp[cD];split
  .unfold TS;split
   .exact gp _ _ _ λ_=>⟨rfl,rfl⟩
   .exact gp _ _ _ λ_=>⟨rfl,rfl⟩
   .rfl
  .rfl
 |makeInterface t x=>
  simp[cD];split
  .split<;>rfl
  .rfl
 |makeFunc f a b=>simp[cD];split<;>rfl
 |extract x k=>
  simp[cD];split
  .unfold AN;split
   .exact gp _ _ _ λ_=>⟨rfl,rfl⟩
   .rfl
  .rfl
 |fieldAddr t x k=>
  simp[cD];split
  .unfold qm;split
   .split
    .rename_i off size d _;cases Nq size 0 with
     |true=>rfl|false=>
      first|rfl|(simp only[ez];split<;>rfl)
    .rfl
   .rfl
  .rfl
 |field t x k=>
  simp[cD];split
  .unfold BZ;split
   .split
    .rename_i off size d e _ _;dsimp only;cases(Nq (cB ((e.drop off).take size)) size&&!(Nq size 0))with|false=>rfl|true=>exact gp _ _ _ λ_=>⟨rfl,rfl⟩
    .rfl
   .rfl
  .rfl
 |indexAddr t x g=>
  grind[cD,IF,Op.operands]
 |index t x g=>
  simp[cD];split
  .unfold BO;split<;>rfl
  .rfl
 |typeAssert x a t ok=>
  simp[cD];split
  .rename_i v h1 h2;unfold EE;split
   .rfl
   .rename_i u v _;cases Nq u t with|true=>rfl|false=>exact gp _ _ _ λ_=>⟨rfl,rfl⟩
   .rename_i u v _;cases Nq u t<;>rfl
   .rfl
  .rfl
 |_=>rfl
end
section
variable {fr:bU S}{s s':bu S}
theorem JZ{r a:ov S}(h:gq r=gq a):r=Y↔a=Y:=by cases r<;>cases a<;>simp_all [gq]
def acj{s s':bu S}{a b:Ty}(h:Sm s s' v):Yk s' a b v=Yk s a b v:=by
 unfold Yk;split
 .rename_i o;rw[h o (by simp[cE])]
 .rfl
 .rfl
theorem afz(E:gi)(o:Op)(b:p7 o=J)(c:∀x∈o.operands.toList,∀v,cA fr x=Z v->Sm s s' v):gq (uM E fr s' o)=gq (uM E fr s o):=by
 cases o with
 |makeMap=>cases b
 |mapUpdate=>cases b
 |insert=>cases b
 |makeSlice=>cases b
 |range=>cases b
 |lookup t x d ok=>
  simp[uM];split
  .rename_i m e f h1 h2 h3;have:=c x (by simp[Op.operands]) _ h2;simp[acj this];split
   .split<;>rfl
   .rfl
  .rfl
 |nilCheck x=>simp[uM];split<;>rfl
 |typeAssert x t u ok=>
  simp[uM];split
  .rename_i τ n y _ _ _;split
   .rfl
   .rename_i j _ _;cases tc (mU (S.alts n) j) τ<;>cases ok<;>rfl
   .cases ok<;>rfl
  .rfl
 |build t g=>
  simp only[uM];split
  .split
   .exact gp _ _ _ λ_=>⟨rfl,rfl⟩
   .rfl
  .rfl
 |binOp op t x y u=>
  cases op<;>first
   |rfl|(
     cases y with
     |const v=>
      cases v with
      |nilIface=>simp only[uM];split<;>first|rfl|(split<;>rfl)
      |slice a n m=>
       cases a<;>cases n<;>cases m<;>first
        |rfl|(
         simp[uM];split
         .rename_i h2;have:=c x (by simp[Op.operands]) _ h2;simp[Bu this];split<;>rfl
         .rfl)
      |_=>rfl
     |_=>rfl)
 |_=>rfl
theorem afD(E:gi)(o:Op)(b:p7 o=J)(c:∀x∈o.operands.toList,∀v,cA fr x=Z v->Sm s s' v):gq (DP E fr s' o)=gq (DP E fr s o):=by
 cases o with
 |store=>cases b
 |buildSlice=>cases b
 |indexAddr t x d=>
  simp[DP];split
  .rename_i o r h1;rw[c x (by simp[Op.operands]) _ h1 o (by simp[cE])];split
   .split
    .split
     .exact pI λ_=>rfl
     .rfl
    .rfl
   .rfl
  .rfl
 |load t a=>
  simp only[DP];split
  .rename_i o e k off h1;rw[c a (by simp[Op.operands]) _ h1 o (by simp[cE])];split
   .split
    .exact pI λ_=>Rs (pI λ_=>rfl) (pI λ_=>gp _ _ _ λ_=>⟨rfl,rfl⟩)
    .rfl
   .rfl
  .rfl
 |_=>rfl
theorem Tb(E:gi){o:Op}(a:gq (DP E fr s' o)=gq (DP E fr s o))(h1:gq (cD E fr s' o)=gq (cD E fr s o))(h2:gq (uM E fr s' o)=gq (uM E fr s o)):gq (Al E fr s' o)=gq (Al E fr s o):=by
 grind[Al,JZ]
theorem afA(E:gi)(o:Op)(a:p7 o=J)(b:∀x∈o.operands.toList,∀v,cA fr x=Z v->Sm s s' v):gq (Al E fr s' o)=gq (Al E fr s o):=by
 grind[ab4,afz,afD,Tb]
def IT(a:L (Bool×V S×bu S)):L (Bool×V S):=a.map λp=>(p.1,p.2.1)
def Ka{ω:Type}(k:V S->O ω)(d:O ω):∀{l m:L (Bool×V S×bu S)},IT l=IT m->wE k d l=wE k d m
 |[],[],_=>rfl|p::l,q::m,h=>by simp[IT,kW,List.cons.injEq,fP]at h;simp[wE,h.1.1,h.1.2,Ka k d (l:=l) (m:=m) h.2]
 |[],_::_,h=>by simp[IT]at h
 |_::_,[],h=>by simp[IT]at h
def ZY(r:O (L (Bool×V S×bu S)×Bool×V S×bu S)):O (L (Bool×V S)×Bool×V S):=match r with
 |none=>Y|some (l,p,d,_)=>Z (IT l,p,d)
def HG(n:Int)(ag:Bool)(sz:Nat)(cs:L (V S))(s s':bu S):∀l:L Nat,IT (zw n ag sz cs s' l)=IT (zw n ag sz cs s l)
 |[]=>rfl|j::l=>by
  simp only[zw];split
  .simp[IT,kW,List.cons.injEq,true_and];exact HG n ag sz cs s s' l
  .rfl
def afB(E:gi)(o:Op)(b:p7 o=J)(c:∀x∈o.operands.toList,∀v,cA fr x=Z v->Sm s s' v):ZY (iS E fr s' o)=ZY (iS E fr s o):=by
 cases o with
 |next=>cases b
 |lookup t x d ok=>
  simp[iS];split
  .rename_i a e h1 h2 h3;have:=c x (by simp[Op.operands]) _ h2 a (by simp[cE]);rw[this];split
   .split
    .simp_all[ZY,IT]
    .rfl
   .rfl
  .rfl
 |index t x d=>
  simp[iS];split
  .rename_i i f e _ _ _;split
   .cases Nq (cB f) i.size with|false=>rfl|true=>simp[eP,ZY,HG _ _ _ _ s s']
   .rfl
  .rfl
 |_=>rfl
end
def JV{s s':bu S}{e:Ty}:∀{ps:L (Nat×V S)}{es:L (den S.A e)},(∀p∈ps,Sm s s' p.2)->(∀p∈ps,xK p.2=W)->oh s' e es ps=oh s e es ps
 |[],es,_,_=>rfl|(k,v)::ps,es,h,b=>by simp[oh,zT e v (h _ fA) (b _ fA)];cases bW s e v with|none=>rfl|some x=>dsimp only;rw[JV (λp a=>h p (iB _ a)) (λp a=>b p (iB _ a))]
theorem FD{fr:bU S}:∀{ps:L (Nat×Operand)}{l:L (Nat×V S)},ja fr ps=Z l->∀p∈l,∃x∈ps.map (·.2),cA fr x=Z p.2
 |[],l,h,p,a=>by grind[ja]
 |(k,x)::ps,l,h,p,a=>by
  simp[ja]at h;split at h
  .rename_i h2;simp at h;subst h;obtain rfl|a:=fy.1 a
   .simp_all
   .let ⟨y,b,h⟩:=FD h2 p a
    grind
  .cases h
theorem Jt{fr:bU S}:∀{ps:L Operand}{l:L (V S)},kK fr ps=Z l->∀v∈l,∃x∈ps,cA fr x=Z v
 |[],l,h,p,a=>by grind[kK]
 |x::ps,l,h,p,a=>by
  simp[kK]at h;split at h
  .rename_i h2;simp at h;subst h;obtain rfl|a:=fy.1 a
   .simp_all
   .let ⟨y,b,h⟩:=Jt h2 p a
    grind
  .cases h
theorem Uz(i:TI)(τ:O Ty){s s':bu S}{v:V S}(hs:∀e,Ky s' e v=Ky s e v)(f:NG v=[])(l h m:O (V S)):gq (vC i τ s' v l h m)=gq (vC i τ s v l h m):=by
 unfold vC;rw[f];simp[dX,hs];split
 .split
  .split<;>rfl
  .rfl
 .rename_i e lo _;cases i.kd with
  |slice a b c d=>
   cases Ky s e v with
   |none=>rfl|some g=>
    dsimp only;cases Cq (ax g) h with
    |none=>rfl|some j=>
     cases m with
     |none=>rfl|some y=>
      cases h with
      |none=>rfl|some z=>
       cases y with
       |kn k n=>
        cases k with
        |i64=>cases n with
         |ofNat n=>cases n<;>rfl
         |negSucc n=>rfl
        |_=>rfl
       |ty t x=>dsimp only;cases gf .i64 (V.ty (S:=S) t x)<;>rfl
       |_=>rfl
  |_=>rfl
 .rfl
def Js{s s':bu S}:∀{ps:L Pk}{l:L (V S)},cm ps=W->(∀v∈l,Sm s s' v)->jP l=W->eL s' ps l=eL s ps l
 |[],[],_,_,_=>rfl|.one (.dat t)::ps,v::l,a,h,b=>by simp[jP,eK]at b;simp[eL,oF,zT t v (h v fA) b.1,Js (ps:=ps) (by simpa[cm]using a) (λv c=>h v (iB _ c)) b.2]
 |.one (.own _)::_,_,a,_,_=>by simp[cm]at a
 |.one (.j0 ..)::_,_,a,_,_=>by simp[cm]at a
 |.one (.nil _)::_,_,a,_,_=>by simp[cm]at a
 |.one (.ptr _)::_,_,a,_,_=>by simp[cm]at a
 |.box _::_,_,a,_,_=>by simp[cm]at a
 |[],_::_,_,_,_=>rfl|.one _::_,[],_,_,_=>rfl
def y8{p:Nat->Bool}:∀{l:L (V S)}{v:V S},v∈l->cE p v=W->iG p l=W
 |a::l,v,h,b=>by
  obtain rfl|h:=fy.1 h
  .simp[iG,b]
  .simp[iG,y8 h b]
def Ea(E:gi){s s':bu S}{ts:Array TypeId}{args:L (V S)}(h:∀v∈args,Sm s s' v):gq (ie E s' .len ts args)=gq (ie E s .len ts args):=by
 unfold ie;split
 .rename_i _;split
  .split<;>rfl
  .split
   .rw[Bu (h _ (by simp))];exact gp _ _ _ λ_=>⟨rfl,rfl⟩
   .rfl
  .rfl
 .simp_all
 .rfl
theorem Cn(E:gi){s s':bu S}{b:Builtin}(a:Em b=W){ts:Array TypeId}{args:L (V S)}(h:∀v∈args,Sm s s' v):gq (kZ E s' b ts args)=gq (kZ E s b ts args):=by
 have h1:gq (ie E s' b ts args)=gq (ie E s b ts args):=by cases b with|len=>exact Ea E h|max=>rfl|min=>rfl|_=>cases a
 have h2:gq (sX E s' b ts args)=gq (sX E s b ts args):=by
  unfold sX;split
  .rename_i o;rw[h (.mp o) (by simp) o (by simp[cE])];split<;>rfl
  .split<;>rfl
  .split<;>rfl
  .rfl
 have c:gq (mM E s' b ts args)=gq (mM E s b ts args):=by
  unfold mM;split
  .rename_i o r;rw[h (.sh o r) (by simp) o (by simp[cE])];split
   .split
    .split
     .exact pI λ_=>rfl
     .rfl
    .rfl
   .rfl
  .cases a
  .cases a
  .rfl
 grind[kZ,JZ]
def afi{α:Type}(f:Bool->V S->O α)(r:ov S):O α:=match r with
 |none=>Y|some (p,t,_)=>f p t
def AY{α:Type}{r a:ov S}(h:gq r=gq a)(f:Bool->V S->O α):afi f r=afi f a:=by
 cases r with
 |none=>cases a with|none=>rfl|some x=>cases h
 |some x=>cases a with
  |none=>cases h
  |some y=>simp[gq,gV,fP]at h;simp[afi];rw[h.1,h.2]
theorem GO(E:eT S)(g:O Bool){fr:bU S}{s s':bu S}(o:Oper){ω:Type}(k:V S->O ω)(i:∀x∈o.op.operands.toList,∀v,cA fr x=Z v->Sm s s' v) :
  fE E g fr s' o k=fE E g fr s o k:=by
 unfold fE;have z:p7 o.op=J->gq (Al E.T fr s' o.op)=gq (Al E.T fr s o.op):=λhq=>afA E.T o.op hq i;cases A:o.op with
 |call c=>
  rw[A]at i;simp only[Op.operands,Call.operands,US,dW]at i;dsimp only;cases ha:kK fr c.args.toList with
  |none=>rfl|some args=>
   have r:∀v∈args,Sm s s' v:=λv B=>by
    grind[Jt]
   cases K:c.callee with
   |value f=>
    dsimp only;cases hf:cA fr f with
    |none=>rfl|some v=>
     simp;have B:=i f (.inl (by rw[K];simp)) v hf;cases d:oZ v args with
     |none=>rfl|some q=>
      let ⟨f',j⟩:=q
      dsimp only;cases hg:E.IK f' with
      |none=>rfl|some c'=>
       dsimp only;have m:∀v∈j,Sm s s' v:=by
        unfold oZ at d;split at d
        .obtain ⟨_,rfl⟩:=d;intro u hu;simp only[dW]at hu;obtain(hu|hu)|hu:=hu
         .exact λo P=>B o (by simp[cE,y8 hu P])
         .grind
         .exact λo P=>B o (by simp[cE,y8 hu P])
        .cases d
       cases R:cm c'.ps with
       |false=>rfl|true=>
        cases hns:jP j with|false=>simp|true=>rw[Js R m hns]
   |builtin b=>
    dsimp only;cases hb:Em b with
    |false=>rfl|true=>
     have:=AY (Cn E.T hb (ts:=c.argTypes) r) (λp t=>zi g p (k t));cases h1:kZ E.T s' b c.argTypes args with
     |none=>cases h2:kZ E.T s b c.argTypes args with|none=>rfl|some y=>rw[h1,h2]at this;exact this
     |some x=>cases h2:kZ E.T s b c.argTypes args with|none=>rw[h1,h2]at this;exact this|some y=>rw[h1,h2]at this;exact this
   |invoke=>rfl
 |buildSlice t n ps=>
  rw[A]at i;simp only[Op.operands]at i;dsimp only;cases C:ja fr ps.toList with
  |none=>rfl|some l=>
   dsimp only;cases w:jP (l.map (·.2))with
   |false=>rfl|true=>
    refine AY ?_ (λp t=>zi g p (k t));refine Tb E.T ?_ ?_ rfl
    .simp[DP];split
     .rename_i kx F;split
      .split
       .split
        .refine pI λ_=>?_;have hmm:=i (.tmp kx) (by rw[F];simp);rename_i I _ _ _ _ _ _ _ _ _ _ _ _;rw[F]at C;simp[ja,cA,I,gV]at C;subst C;simp[kW,Fs,jP,Ab]at w;rw[zT _ _ (hmm _ I) w];split
         .rename_i Oc;have:=sL _ _ _ w Oc;subst this;rfl
         .rfl
        .rfl
       .rfl
      .rfl
     .split
      .split
       .cases Nq n 0<;>rfl
       .rfl
      .rfl
     .rfl
    simp only[cD,C];split
    .rename_i e ps' h1 h2 h3;cases h3;split
     .rename_i sz _ _ _ _;cases Nl (Nat.mul n sz) 16777216 with
      |false=>rfl|true=>
       rw[JV (λp hp=>by
        let ⟨x,I,h⟩:=FD C p hp
        exact i x (by simpa using I) _ h) (FM w)]
       cases hel:oh s e (List.replicate n (S.zero e)) l with
       |none=>rfl|some q=>
        let ⟨es,os⟩:=q
        have:=Cf (FM w) hel;subst this;rfl
     .rfl
    .rfl
 |slice t x lo hi mx=>
  rw[A]at i;dsimp only;cases B:cA fr x with
  |none=>rfl|some v=>
   dsimp only;cases w:xK v with
   |false=>rfl|true=>
    refine AY ?_ (λp t=>zi g p (k t));have hsm:=i x (by simp[Op.operands]) v B;have hown:NG v=[]:=by cases v<;>first|rfl|simp[xK]at w
    rw[Ep rfl rfl,Ep rfl rfl]
    grind[cD,Uz,Bu]
 |store=>rfl|alloc=>rfl|box=>rfl|panic=>rfl|makeMap=>rfl|mapUpdate=>rfl|insert=>rfl|makeSlice=>rfl|range=>rfl|next=>rfl|defer=>rfl|_=>
  have a:=afB E.T o.op (by rw[A];rfl) i;rw[A]at z a;dsimp only;have h2:=AY (z rfl) (λp t=>zi g p (k t));generalize I:iS E.T fr s' _=x at a;generalize hy:iS E.T fr s _=y at a;cases x with
  |none=>cases y with|none=>exact h2|some y=>cases a
  |some x=>cases y with
   |none=>cases a
   |some y=>simp only[ZY,gV,fP]at a;obtain⟨q1,q2,q3⟩:=a;dsimp only;rw[q2,q3];exact Ka k _ q1
end
section
theorem LN(e j:Nat):(1 <<< e).testBit j=decide (e=j):=by rw[Nat.shiftLeft_eq,Jk,Nat.testBit_two_pow]
theorem JO(f:Nat->Nat)(j:Nat):∀(l:L Nat)(z:Nat),(l.foldl (λb e=>b||| (1 <<< e||| f e)) z).testBit j=(z.testBit j||l.any λe=>decide (e=j)||(f e).testBit j)
 |[],z=>by simp
 |e::l,z=>by
  rw[Np,JO f j l]
  grind[LN]
theorem wC:∀(l:L Oper)(a:L Nat)(i:Nat),i<a.length->(O6 l a).getD i 0=a.getD i 0
 |[],_,_,_=>rfl|o::l,a,i,h=>by
  rw[O6,wC l _ i (by grind)]
  grind
def any_eq{α:Type}{f g:α->Bool}:∀{l:L α},(∀e∈l,f e=g e)->l.any f=l.any g
 |[],_=>rfl|a::l,h=>by rw[List.any_cons,List.any_cons,h a fA,any_eq λe b=>h e (iB _ b)]
theorem TY:∀(l:L Oper)(acc:L Nat)(k:Nat)(o:Oper),l[k]?=Z o->uO l acc.length=W->∀j,
  ((O6 l acc).getD (acc.length+k) 0).testBit j=(xR o).any λe=>decide (e=j)||((O6 l acc).getD e 0).testBit j
 |[],acc,k,o,h,_,j=>by simp at h
 |p::l,acc,k,o,h,c,j=>by
  simp only[uO,eK]at c;cases k with
  |zero=>simp at h;subst h;rw[O6,wC _ _ _ (by simp_all)];simp;rw[JO];simp;refine any_eq λe d=>?_;have a:e<acc.length:=g9 (gY.1 c.1 e d);have:=wC l (acc++[(xR p).foldl (λb e=>b||| (1 <<< e||| acc.getD e 0)) 0]) e (by grind);simp[tH,Xr a]at this ⊢;rw[this]
  |succ k=>
   rw[O6];have:=TY l (acc++[(xR p).foldl (λb e=>b||| (1 <<< e||| acc.getD e 0)) 0]) k o (by simpa using h) (by grind) j
   grind
section
variable {ops:List Oper}
def Pre(ops:L Oper)(i j:Nat):Prop:=((wB ops).getD i 0).testBit j=W
variable {i:Nat}{o:Oper}
def Eo(a:uO ops 0=W)(h:ops[i]?=Z o)(j:Nat):Pre ops i j↔∃e∈xR o,e=j∨Pre ops e j:=by
 have:=TY ops [] i o h a j
 simp_all[Pre,wB]
def Ba:∀{l:L Oper}{n:Nat},uO l n=W->∀{k:Nat}{o:Oper},l[k]?=Z o->∀e∈xR o,e<n+k
 |[],_,_,k,o,h,_,_=>by simp at h
 |p::l,n,a,k,o,h,e,b=>by
  simp only[uO,eK]at a;cases k with
  |zero=>
   simp_all
  |succ k=>have:=Ba a.2 (k:=k) (by simpa using h) e b;omega
theorem XT(a:uO ops 0=W):∀{i:Nat}{o:Oper},ops[i]?=Z o->∀j,Pre ops i j->j<i:=by
 intro i
 induction i using Nat.strongRecOn with
 |_ i g=>
  intro o h j b
  let ⟨e,c,d⟩:=(Eo a h j).1 b
  have f:=Ba a h e c
  grind
theorem UY(a:uO ops 0=W):∀{i:Nat}{o:Oper},ops[i]?=Z o->∀{j k:Nat},Pre ops i j->Pre ops j k->Pre ops i k:=by
 intro i
 induction i using Nat.strongRecOn with
 |_ i g=>
  intro o h j k c d
  let ⟨e,b,hej⟩:=(Eo a h j).1 c
  refine(Eo a h k).2 ⟨e,b,.inr ?_⟩;obtain rfl|hej:=hej
  .exact d
  .have f:=Ba a h e b
   grind
theorem m8(b:uO ops 0=W){a:Nat->Prop}(k:∀i o,ops[i]?=Z o->a i->∀e∈xR o,a e):∀{i:Nat}{o:Oper},ops[i]?=Z o->(∀e∈xR o,a e)->∀j,Pre ops i j->a j:=by
 intro i
 induction i using Nat.strongRecOn with
 |_ i l=>
  intro o h d j f
  let ⟨e,c,hej⟩:=(Eo b h j).1 f
  obtain rfl|hej:=hej
  .exact d _ c
  .have g:=Ba b h e c
   grind
theorem zV{a b:Nat}:Ux a b=W↔∀j,a.testBit j=W->b.testBit j=W:=by
 unfold Ux;constructor
 .intro h j c;have h:a&&& b=a:=xI h
  grind
 .intro h;have:a&&& b=a:=Nat.eq_of_testBit_eq λj=>by
   simp_all
  rw[this];simp
def rK(ops:L Oper):Wy:=ops.zipIdx.map λp=>(p.2,p.1)
theorem jv{i:Nat}{o:Oper}:(i,o)∈rK ops↔ops[i]?=Z o:=by
 unfold rK;rw[nO];constructor
 .grind
 .intro h;exact⟨(o,i),Nh.2 h,rfl⟩
theorem ue(h:ag8 ops (wB ops)=W){i:Nat}{o:Oper}(c:ops[i]?=Z o){d:Nat}(g:o.dst=Z d) :
  d<bC∧d∉tmpsOf o.op∧∀{j:Nat}{p:Oper},ops[j]?=Z p->i≠j->p.dst≠Z d∧(d∈tmpsOf p.op->Pre ops j i∨Pre ops i j):=by
 have h1:=gY.1 h (o,i) (Nh.2 c);simp only[g,eK]at h1;have f:∀{p:Oper},d∈tmpsOf p.op->MK p d=W:=by
  intro p a
  let ⟨x,l,b⟩:=Ac.1 a
  refine Jn.2 ⟨x,l,?_⟩;cases x with
  |tmp k=>
   simp_all
  |_=>cases b
 refine⟨g9 h1.1,λa=>?_,λ{j p}m n=>?_⟩
 .have h2:=gY.1 h1.2 (o,i) (Nh.2 c)
  simp_all
 .have h2:=gY.1 h1.2 (p,j) (Nh.2 m);have e:Nq i j=J:=by
   grind[Nat.eq_of_beq_eq_true]
  simp only[e,ez,eK,m7]at h2;refine⟨λq=>?_,λa=>?_⟩
  .simp_all
  .obtain h3|h3:=h2.2
   .simp_all
   .exact h3
def antiP(ops:L Oper)(i:Nat):Prop:=∃o,ops[i]?=Z o∧∃d,o.dst=Z d∧∃j p,ops[j]?=Z p∧d∈tmpsOf p.op∧Pre ops i j
def aae(e:ops[i]?=Z o)(h:T6 ops (wB ops) i o=J):¬antiP ops i:=by
 rintro⟨f,b,d,g,j,p,l,m,n⟩
 have:o=f:=jU (e.symm.trans b);subst this;unfold T6 at h;rw[g]at h;have h1:=List.any_eq_false.1 h (p,j) (Nh.2 l);have a:MK p d=W:=by
  let ⟨x,q,c⟩:=Ac.1 m
  refine Jn.2 ⟨x,q,?_⟩;cases x with
  |tmp k=>
   simp_all
  |_=>cases c
 refine h1 ?_;simp only[a,eY];exact n
def Zl(h:Rg ops (wB ops)=W)(e:ops[i]?=Z o){d:Nat}(a:nV ops o=Z d):∃j p,ops[j]?=Z p∧p.dst=Z d∧Pre ops i j:=by
 have h1:=gY.1 h (o,i) (Nh.2 e);unfold nV at a;cases f:o.guard with
 |none=>simp_all|some q=>
  let ⟨j,c⟩:=q
  simp only[f]at a h1;rw[kO,vF]at a
  let ⟨p,g,b⟩:=a
  exact⟨j,p,g,b,h1⟩
def EM(h:afh ops=W)(b:ops[i]?=Z o):∀k∈tmpsOf o.op,k<bC:=by
 intro k c
 let ⟨x,d,a⟩:=Ac.1 c
 have h1:=gY.1 h o (hJ b);have h2:=gY.1 h1 x d;cases x with
 |tmp j=>
  simp_all
 |_=>cases a
def aag{E:gi}{n:Nat}(h:RL E n ops=W)(e:ops[i]?=Z o)(a:fe o=W):o.guard=Y∧(∃t c,o.op=.alloc t∧E.E.ti t=Z c)∧∀d,o.dst=Z d->d<n:=by
 have h1:=gY.1 h o (hJ e);simp[a,eP,eK]at h1;unfold fe at a;split at a
 .rename_i t b;rw[b]at h1;refine⟨by simpa using a,⟨t,?_⟩,λd g=>?_⟩
  .cases f:E.E.ti t with|none=>simp_all|some c=>simp_all
  simp_all
 .cases a
theorem Jr(done:Nat):∀(l:Wy)(z j:Nat),(l.foldl (λb(i,o)=>bif fe o&&!(done.testBit i)then b||| 1 <<< i else b) z).testBit j=(z.testBit j||l.any λ(i,o)=>fe o&&!(done.testBit i)&&decide (i=j))
 |[],z,j=>by simp
 |(i,o)::l,z,j=>by rw[Np,Jr done l,List.any_cons];cases h:(fe o&&!(done.testBit i))with|false=>grind|true=>simp only[h,eP,Nc,LN,eY,Bool.or_assoc]
def vH(done j:Nat):(yd (rK ops) done).testBit j=W↔∃o,ops[j]?=Z o∧fe o=W∧done.testBit j=J:=by
 unfold yd;rw[Jr,Nat.zero_testBit,Bool.false_or,Jn];constructor
 .rintro ⟨⟨i,o⟩,a,h⟩
  simp at h;obtain⟨⟨h1,h2⟩,rfl⟩:=h;exact⟨o,jv.1 a,h1,h2⟩
 .rintro ⟨o,b,h1,h2⟩
  exact⟨(j,o),jv.2 b,by simp[h1,h2]⟩
end
end
section
structure I2(g:Gh)(w0 w:World)(b:Nat)(z:Array Value):Prop where
 new:w0.heap.size<=b
 lt:b<w.heap.size
 bx:¬g.bx b
 own:∀o,¬bG g o b
 mem:∃ty,w.heap[b]?=Z (.cells z ty (0,0))
section
variable {g g':Gh}{w0 w w':World}{b:Nat}{z:Array Value}
theorem I2.Bq(h:I2 g w0 w b z){ow:L Nat}{s s':bu S}(c:cR ow s g w s' g' w')(f:s.fl=0):I2 g' w0 w' b z:=by
 let ⟨ty,i⟩:=h.mem
 refine⟨h.new,iP h.lt c.ext.size,λa=>?_,λo d=>?_,ty,?_⟩
 .obtain a|a|⟨o,_,d⟩:=c.ext.rO b a
  .exact h.bx a
  .grind
  .exact h.own o d
 .obtain ⟨j,_,e⟩|a:=c.ext.own o b (by omega) d
  .exact h.own j e
  simp_all
 .rw[c.ext.heap b h.lt λo _=>h.own o];exact i
def bq.aah{s:St}(hs:bq g s w)(hn:s.aL<bC)(hf:I2 g w0 w b z){cs:L T}(hl:cs.length=z.size)
  (y:∀(j:Nat)(t:T)(v:Value),cs[j]?=Z t->z[j]?=Z v->aP g w t v) :
  bq (g.dJ s.aL b) (ey s (.box cs)).2 w∧nA g (g.dJ s.aL b)∧(∀k c,bG (g.dJ s.aL b) k c->bG g k c∨(k=s.aL∧c=b)):=by
 have a:=hs.ai s.aL (cu _);have n:∀o c,g.bV o=Z c->(g.dJ s.aL b).bV o=Z c:=λo c h=>by
  have:o≠s.aL:=λe=>by rw[e,a.1]at h;cases h
  simp[Gh.dJ,this,h]
 have i:nA g (g.dJ s.aL b):=⟨n,λ_ _ _ h=>h,λ_ h=>h⟩;have d:∀k c,bG (g.dJ s.aL b) k c->bG g k c∨(k=s.aL∧c=b):=by
  rintro o c ⟨h1,h2|h2⟩
  .by_cases f:o=s.aL
   .subst f;simp[Gh.dJ]at h2;exact .inr ⟨rfl,h2.symm⟩
   .simp[Gh.dJ,f]at h2;exact .inl ⟨h1,.inl h2⟩
  .exact .inl ⟨h1,.inr h2⟩
 let ⟨ty,A⟩:=hf.mem
 refine⟨⟨by simp only[ey];omega,λo f=>?_,λo c p=>?_,λo e x B=>?_,hs.bx,λo q c h C=>?_⟩,i,d⟩
 .simp only[ey]at f;have h1:o≠s.aL:=by omega
  simp[Gh.dJ,h1,ij];exact hs.ai o (by omega)
 .by_cases f:o=s.aL
  .subst f;have r:c=b:=by simp[Gh.dJ]at p;exact p.symm
   subst r;refine⟨hf.bx,hf.lt,λob l=>⟨_,A,?_⟩⟩;simp[ey]at l;rw[Tr.bn _ _ _ _ hn,cn rfl]at l;obtain rfl:=jU l;exact .box cs z ty hl λj t v E F=>(y j t v E F).le i
  .have u:g.bV o=Z c:=by simpa[Gh.dJ,f]using p
   exact(hs.box o c u).le i rfl (by simp[ey];rw[Tr.bn _ _ _ _ hn,bJ f])
 .have m:g.arr o e=Z x:=B;have f:o≠s.aL:=λh=>by rw[h,a.2 e]at m;cases m
  exact(hs.arr o e x m).le rfl (by simp[ey];rw[Tr.bn _ _ _ _ hn,bJ f]) (λ_ _ _ h=>h) (λ_=>rfl)
 .obtain h1|⟨h1,h3⟩:=d o c h<;>obtain h2|⟨h2,h4⟩:=d q c C
  .exact hs.kJ o q c h1 h2
  .subst h4;exact absurd h1 (hf.own o)
  .subst h3;exact absurd h2 (hf.own q)
  .rw[h1,h2]
def I2.keep{o c:Nat}{f:Array Value}(h:I2 g w0 w b z)(j:I2 g w0 w c f)(i:b≠c)(a:∀k e,bG (g.dJ o c) k e->bG g k e∨(k=o∧e=c)):I2 (g.dJ o c) w0 w b z:=
 ⟨h.new,h.lt,h.bx,λk d=>by
  obtain d|⟨_,rfl⟩:=a k b d
  .exact h.own k d
  omega,h.mem⟩
end
def aa0(E:gi)(g:Gh)(w0 w:World)(a:Act)(o:Oper)(b:Nat):Prop:=
 ∀t c d,o.op=.alloc t->E.E.ti t=Z c->o.dst=Z d->∃z,a.tmps[d]?=Z (.pointer (Z ⟨b,0,Y⟩))∧I2 g w0 w b z∧ZOk c.zero z
structure Adp(E:gi)(which:Nat)(l:Wy)(fr:bU S)(s:bu S)(g:Gh)(w:World)(a:Act)(fr':bU S)(s':bu S)(g':Gh):Prop where
 rel:bq g' (aI s') w
 le:nA g g'
 bx:g'.bx=g.bx
 fl:s'.fl=s.fl
 lo:s'.lo=s.lo
 wr:s'.wr=s.wr
 dr:s'.dr=s.dr
 aL:s.aL<=s'.aL
 ob:∀o,o<s.aL->s'.ob.get o=s.ob.get o
 n:fr'.n=fr.n
 OO:fr'.df=fr.df
 old:∀k,(∀p∈l,which.testBit p.1=W->p.2.dst≠Z k)->fr'.get k=fr.get k
 new:∀k,(∃p∈l,which.testBit p.1=W∧p.2.dst=Z k)->∀t,fr'.get k=Z t->∃v,a.tmps[k]?=Z v∧aP g' w (low t) v
 own:∀k b,bG g' k b->bG g k b∨∃p∈l,which.testBit p.1=W∧∃d,p.2.dst=Z d∧a.tmps[d]?=Z (.pointer (Z ⟨b,0,Y⟩))
 adu:∀p∈l,which.testBit p.1=W->∃t ti d,p.2.op=.alloc t∧E.E.ti t=Z ti∧p.2.dst=Z d∧d<fr.n
theorem Pe{E:gi}{f:Nat}{w0 w:World}{a:Act}{bl:Nat->Nat}:∀{l:Wy}{fr fr':bU S}{s s':bu S}{g:Gh},yC E f l fr s=Z (fr',s')->fr.n<=bC->bq g (aI s) w->
  (∀p∈l,f.testBit p.1=W->aa0 E g w0 w a p.2 (bl p.1))->(l.map (·.1)).Nodup->(∀p∈l,∀q∈l,f.testBit p.1=W->f.testBit q.1=W->p.1≠q.1->bl p.1≠bl q.1)->
  (∀p∈l,∀q∈l,p.1≠q.1->∀d,p.2.dst=Z d->q.2.dst≠Z d)->∃g',Adp E f l fr s g w a fr' s' g':=by
 intro l
 induction l with
 |nil=>intro fr fr' s s' g h _ hs _ _ _ _;obtain⟨rfl,rfl⟩:=h;exact⟨g,hs,nA.refl _,rfl,rfl,rfl,rfl,rfl,cu _,λ_ _=>rfl,rfl,rfl,λ_ _=>rfl,λk⟨p,hp,_⟩=>by(cases hp),λ_ _ h=>.inl h,λp hp=>by(cases hp)⟩
 |cons p l ih=>
  intro fr fr' s s' g h hn hs he x B C
  let ⟨i,o⟩:=p
  rw[kW,Nf]at x;have A:∀q∈l,i≠q.1:=λq b e=>x.1 (nO.2 ⟨q,b,e.symm⟩);obtain⟨hw,h1⟩|⟨hw,h1⟩:=ah h
  .clear h;split at h1
   .rename_i t d hop n;split at h1
    .rename_i ti YO;obtain⟨hb,h⟩|⟨_,h⟩:=ah h1
     rotate_left
     .cases h
     rw[eK]at hb;have P:s.aL<bC:=g9 hb.1;have R:d<fr.n:=g9 hb.2
     let ⟨z,htm,u,hz⟩:=he (i,o) fA hw t ti d hop YO n
     let ⟨z1,z2⟩:=sk (g:=g) (w:=w) hz
     let ⟨II,aqA,v⟩:=hs.aah P u z1 z2
     have agf:bq (g.dJ s.aL (bl i)) (aI (dc s (.box (ti.zero.map zeroV)))) w:=by rw[gS];simp[cU,mZ];exact II
     have hE:∀q∈l,f.testBit q.1=W->aa0 E (g.dJ s.aL (bl i)) w0 w a q.2 (bl q.1):=by
      intro q b hw' t' ti' d' q1 q2 q3
      let ⟨z',r1,r2,r3⟩:=he q (iB _ b) hw' t' ti' d' q1 q2 q3
      exact⟨z',r1,r2.keep u (B q (iB _ b) (i,o) fA hw' hw (λe=>A q b e.symm)) v,r3⟩
     let ⟨g',k⟩:=ih h (by exact hn) agf hE x.2 (λq b r F=>B q (iB _ b) r (iB _ F)) (λq b r F=>C q (iB _ b) r (iB _ F))
     .have hdl:∀q∈l,f.testBit q.1=W->q.2.dst≠Z d:=λq b _=>C (i,o) fA q (iB _ b) (A q b) d n;refine⟨g',k.rel,aqA.trans k.le,k.bx,k.fl,k.lo,k.wr,k.dr,gk (CV _) k.aL,λj hj=>?_,k.n,k.OO,λj hj=>?_,λj⟨q,b,m,y⟩t' I=>?_,λj c K=>?_,λq b m=>?_⟩
      .rw[k.ob j (Nat.lt_succ_of_lt hj)];simp[dc];rw[Tr.bn _ _ _ _ P,bJ (by omega)]
      .rw[k.old j (λq b=>hj q (iB _ b)),bU.jS _ _ _ _ (iP R hn),bJ]
       grind[List.mem_cons_self]
      .obtain rfl|b:=fy.1 b
       .have hjd:j=d:=by
         grind
        subst hjd;rw[k.old j hdl,bU.jS _ _ _ _ (iP R hn),cn rfl]at I;cases I;refine⟨_,htm,?_⟩;exact .ptr _ _ _ (k.le.bV _ _ (by simp[Gh.dJ]))
       .exact k.new j ⟨q,b,m,y⟩ t' I
      .obtain K|⟨q,b,m,y⟩:=k.own j c K
       .obtain K|⟨_,rfl⟩:=v j c K
        .exact .inl K
        .exact .inr ⟨(i,o),fA,hw,d,n,htm⟩
       grind
      .obtain rfl|b:=fy.1 b
       .grind
       .exact k.adu q b m
    .cases h1
   .cases h1
  .let ⟨g',k⟩:=ih h1 hn hs (λq b=>he q (iB _ b)) x.2 (λq b r F=>B q (iB _ b) r (iB _ F)) (λq b r F=>C q (iB _ b) r (iB _ F))
   have hnw:∀q∈(i,o)::l,f.testBit q.1=W->q∈l:=λq b m=>by
    grind
   refine⟨g',k.rel,k.le,k.bx,k.fl,k.lo,k.wr,k.dr,k.aL,k.ob,k.n,k.OO,λj hj=>k.old j λq b=>hj q (iB _ b),λj⟨q,b,m,y⟩=>k.new j ⟨q,hnw q b m,m,y⟩,λj c K=>(k.own j c K).imp id λ⟨q,b,h⟩=>⟨q,iB _ b,h⟩,λq b m=>k.adu q (hnw q b m) m⟩
end
section
def mW(listed:Array Bool)(i:Nat):Prop:=listed.getD i J=W
def EG(E:eT S)(ops:L Oper)(fr:bU S)(s:bu S)(o:Oper):Prop:=
 gB fr o.dst=W∧((uH ops fr o=W∧∀d,o.dst=Z d->∀a,fr.get d=Z a->a=ej)∨(iH ops fr o=Z Y∧∃t,fE E Y fr s o Z=Z t∧∀d,o.dst=Z d->∀a,fr.get d=Z a->aaB t a)∨
  ∃c,iH ops fr o=Z (Z c)∧Om c fr o.op=W∧∃t,fE E (Z c) (qW fr o.op) s o Z=Z t∧∀d,o.dst=Z d->∀a,fr.get d=Z a->a=.gd c t)
theorem FK{p:Nat->Bool}{fr:bU S}{s s':bu S}{o:Op}(h:jO p fr o=J)(hs:∀x,p x=J->s'.ob.get x=s.ob.get x):∀x∈o.operands.toList,∀v,cA fr x=Z v->Sm s s' v:=by
 intro x a v b j c
 grind[jO,eB,Nat.eq_of_beq_eq_true]
theorem AO(E:eT S)(g:O Bool){fr:bU S}(o:Oper)(s s':bu S){ω:Type}(k:V S->O ω)(c:Nx o.op=W):fE E g fr s o k=fE E g fr s' o k:=by
 unfold fE;cases d:o.op with
 |move x=>simp[iS,Al,DP,cD];cases cA fr x<;>simp[uM]
 |assign x=>simp[iS,Al,DP,cD];cases cA fr x<;>simp[uM]
 |nilCheck x=>
  simp[iS,Al,DP,cD];cases h:cA fr x with
  |none=>simp[uM,h]|some v=>
   cases v with
   |ty t y=>cases t<;>simp[uM,h]
   |fn f a b=>cases f<;>simp[uM,h]
   |_=>simp[uM,h]
 |fieldAddr t x n=>
  simp[iS,Al,DP,cD];cases E.T.E.ti t with
  |none=>simp[uM]|some e=>
   cases cA fr x with
   |none=>simp[uM]|some v=>
    grind[qm,uM]
 |_=>simp[d,Nx]at c
theorem EG.move{E:eT S}{ops:L Oper}{fr fr':bU S}{s s':bu S}{o:Oper}(h:EG E ops fr s o)(hn:fr'.n=fr.n)(j:∀k∈tmpsOf o.op,k<bC)(f:∀k∈tmpsOf o.op,fr'.get k=fr.get k)(l:∀k,nV ops o=Z k->fr'.get k=fr.get k)
  (g:∀d,o.dst=Z d->∀t,fr'.get d=Z t->fr.get d=Z t) {p:Nat->Bool}
  (hs:s'=s∨(jO p fr o.op=J∧jO p (qW fr o.op) o.op=J∧∀x,p x=J->s'.ob.get x=s.ob.get x)∨Nx o.op=W):EG E ops fr' s' o:=by
 let ⟨q,h⟩:=h
 have i:iH ops fr' o=iH ops fr o:=oW l;refine⟨by simp_all[gB],?_⟩;obtain⟨h1,h3⟩|⟨h1,t,h2,h3⟩|⟨c,h1,h4,t,h2,h3⟩:=h
 .grind[qO]
 .refine .inr (.inl ⟨i.trans h1,t,?_,λd a e b=>h3 d a e (g d a e b)⟩);rw[iI E Y o s' Z (jm f)];obtain rfl|⟨m,_,hs⟩|n:=hs
  .exact h2
  .grind[GO,FK]
  grind[AO]
 .refine .inr (.inr ⟨c,i.trans h1,by rw[tW c f];exact h4,t,?_,λd a e b=>h3 d a e (g d a e b)⟩);rw[iI E (Z c) o s' Z (jm (qV j f))];obtain rfl|⟨_,m,hs⟩|n:=hs
  .exact h2
  .grind[GO,FK]
  grind[AO]
structure yO(E:eT S)(ops:Array Oper)(n:Nat):Prop where
 bk:uO ops.toList 0=W
 ds:ag8 ops.toList (wB ops.toList)=W
 gd:Rg ops.toList (wB ops.toList)=W
 us:afh ops.toList=W
 al:RL E.T n ops.toList=W
def At(ops:Array Oper)(i:Nat)(o:Oper):Prop:=ops.toList[i]?=Z o
structure r8(E:eT S)(ops:Array Oper)(jT:bU S)(s0:bu S)(g0:Gh)(w0:World)(done:Nat)(fr:bU S)(s:bu S)(bl:Nat->Nat)(listed:Array Bool)(g:Gh)(a:Act)(w:World):Prop where
 La:listed.size=ops.size
 n:fr.n=jT.n
 nb:fr.n<=bC
 Wf:a.tmps.size=fr.n
 df:eU g w (bB fr).df a.defers
 tm:∀k t,fr.get k=Z t->(∀i o,At ops i o->o.dst=Z k->(mW listed i↔done.testBit i=W))->∃v,a.tmps[k]?=Z v∧aP g w (low t) v
 Vo:∀i o,At ops i o->mW listed i->∀e∈xR o,mW listed e
 ZW:∀i o,At ops i o->done.testBit i=W->∀j,Pre ops.toList i j->done.testBit j=W
 ld:∀i o,At ops i o->mW listed i->done.testBit i=W∨fe o=W
 fo:∀i o,At ops i o->done.testBit i=W->¬mW listed i->fe o=J∧EG E ops.toList fr s o
 ea:∀i o,At ops i o->mW listed i->done.testBit i=J->aa0 E.T g w0 w a o (bl i)∧bl i<w.heap.size
 eb:∀i j,mW listed i->mW listed j->done.testBit i=J->done.testBit j=J->i≠j->i<ops.size->j<ops.size->bl i≠bl j
 Bq:fJ s0 g0 w0 s g w
 fk:eG (ops.toList.filterMap (·.dst)) jT fr s.dr s0.aL
 fl:s.fl=0
 an:∀j,antiP ops.toList j->done.testBit j=W->mW listed j
structure Uk(E:eT S)(ops:Array Oper)(jT:bU S)(s0:bu S)(g0:Gh)(w0:World)(done:Nat)(fr:bU S)(s:bu S)(listed:Array Bool)(g:Gh)(a:Act)(w:World):Prop where
 n:fr.n=jT.n
 nb:fr.n<=bC
 Wf:a.tmps.size=fr.n
 df:eU g w (bB fr).df a.defers
 tm:∀k t,fr.get k=Z t->(∀i o,At ops i o->o.dst=Z k->(mW listed i↔done.testBit i=W))->∃v,a.tmps[k]?=Z v∧aP g w (low t) v
 ZW:∀i o,At ops i o->done.testBit i=W->∀j,Pre ops.toList i j->done.testBit j=W
 Bq:fJ s0 g0 w0 s g w
section
variable {E:eT S}{ops:Array Oper}{jT:bU S}{s0:bu S}{g0:Gh}{w0:World}{done:Nat}{fr:bU S}{s:bu S}{bl:Nat->Nat}{listed:Array Bool}{g:Gh}{a:Act}{w:World}
def En(fr:bU S)(d:O Nat)(t:V S):(fr.iQ d t).df=fr.df:=by cases d<;>rfl
theorem Gc(fr:bU S):(bB fr).df=fr.df.map lY:=rfl
theorem uf(done i j:Nat):(done||| 1 <<< i).testBit j=W↔done.testBit j=W∨i=j:=by rw[Nc,LN,m7,nP]
theorem JL{d:O Nat}{t:V S}{k:Nat}(h:gB fr d=W)(hn:fr.n<=bC):(fr.iQ d t).get k=if d=Z k then Z t else fr.get k:=by
 cases d with
 |none=>rfl|some d=>
  have h:d<fr.n:=g9 h;simp only[bU.iQ];rw[bU.jS _ _ _ _ (by omega)]
  grind
theorem Kr(c:yO E ops jT.n){i:Nat}{o:Oper}(f:At ops i o){k:Nat}(d:k∈tmpsOf o.op∨nV ops.toList o=Z k){j:Nat}{p:Oper}(g:At ops j p)(q:p.dst=Z k):i≠j∧(Pre ops.toList i j∨(Pre ops.toList j i∧antiP ops.toList j)):=by
 let ⟨_,h2,h3⟩:=ue c.ds g q
 obtain d|d:=d
 .have a:i≠j:=by
   rintro rfl
   have:o=p:=jU (f.symm.trans g)
   simp_all
  exact⟨a,((h3 f (Ne.symm a)).2 d).imp id λh=>⟨h,p,g,k,q,i,o,f,d,h⟩⟩
 .let ⟨r,s,l,m,b⟩:=Zl c.gd f d
  have n:j=r:=S6 λa=>(h3 l a).1 m;subst n;refine⟨λe=>?_,.inl b⟩;subst e;exact absurd (XT c.bk f _ b) (Nat.lt_irrefl _)
theorem r8.float(x:yO E ops jT.n)(h:r8 E ops jT s0 g0 w0 done fr s bl listed g a w){i:Nat}{o:Oper}(u:At ops i o)(hnd:done.testBit i=J)(P:fe o=J)(han:¬antiP ops.toList i)(hpre:∀j,Pre ops.toList i j->done.testBit j=W)
  (hd:gB fr o.dst=W) {t:V S} (hf:(uH ops.toList fr o=W∧t=ej)∨(iH ops.toList fr o=Z Y∧∃t0,fE E Y fr s o Z=Z t0∧aaB t0 t)∨∃c t1,iH ops.toList fr o=Z (Z c)∧Om c fr o.op=W∧fE E (Z c) (qW fr o.op) s o Z=Z t1∧t=.gd c t1) :
  r8 E ops jT s0 g0 w0 (done||| 1 <<< i) (fr.iQ o.dst t) s bl listed g a w:=by
 have dm:∀k,(fr.iQ o.dst t).get k=if o.dst=Z k then Z t else fr.get k:=λk=>JL hd h.nb
 have R:¬mW listed i:=λz=>by
  obtain h1|h1:=h.ld i o u z
  .simp_all
  simp_all
 have y:(fr.iQ o.dst t).n=fr.n:=by cases o.dst<;>rfl
 have b:∀{j:Nat}{p:Oper},At ops j p->(j=i∨¬Pre ops.toList j i)->∀k,k∈tmpsOf p.op∨nV ops.toList p=Z k->(fr.iQ o.dst t).get k=fr.get k:=by
  intro j p n f k l;rw[dm,bJ];intro A
  let ⟨h1,h2⟩:=Kr x n l u A
  simp_all
 refine⟨h.La,y.trans h.n,by rw[y];exact h.nb,by rw[y];exact h.Wf,by rw[Gc,En];exact h.df,λk B l hc=>?_,h.Vo,λj p n f m hm=>?_,λj p n z=>?_,λj p n f z=>?_,λj p n z f=>?_,λj m f hm h1 h2=>?_,h.Bq,?_,h.fl,λj ha f=>?_⟩
 .have A:o.dst≠Z k:=λe=>R ((hc i o u e).2 ((uf done i i).2 (.inr rfl)));rw[dm,bJ A]at l;refine h.tm k B l λj p n C=>?_
  grind[uf]
 .rw[uf]at f ⊢;obtain f|rfl:=f
  .exact .inl (h.ZW j p n f m hm)
  simp_all
 .rw[uf];exact(h.ld j p n z).imp .inl id
 .rw[uf]at f;obtain f|rfl:=f
  .let ⟨h1,h2⟩:=h.fo j p n f z
   have F:¬Pre ops.toList j i:=λhpr=>by
    have:=h.ZW j p n f i hpr
    simp_all
   refine⟨h1,h2.move y (EM x.us n) (λk l=>b n (.inr F) k (.inl l)) (λk l=>b n (.inr F) k (.inr l)) (λd C B r=>?_) (p:=λ_=>J) (.inl rfl)⟩;rw[dm,bJ]at r
   .exact r
   .intro q;have hij:i≠j:=λe=>by simp_all
    exact((ue x.ds u q).2.2 n hij).1 C
  .have:o=p:=jU (u.symm.trans n);subst this;have hu:=EM x.us u;have ht:∀k∈tmpsOf o.op,(fr.iQ o.dst t).get k=fr.get k:=λk l=>b u (.inl rfl) k (.inl l);have I:iH ops.toList (fr.iQ o.dst t) o=iH ops.toList fr o:=oW λk l=>b u (.inl rfl) k (.inr l);refine⟨P,by simp_all[gB],?_⟩;obtain⟨f1,rfl⟩|⟨f1,t0,f2,f3⟩|⟨c,t1,f1,f2,f3,rfl⟩:=hf
   .refine .inl ⟨(qO λk l=>b u (.inl rfl) k (.inr l)).trans f1,λd q B r=>?_⟩
    simp_all
   .refine .inr (.inl ⟨I.trans f1,t0,by grind[iI,jm],λd q B r=>?_⟩)
    simp_all
   .refine .inr (.inr ⟨c,I.trans f1,by rw[tW c ht];exact f2,t1,by grind[iI,jm,qV],λd q B r=>?_⟩)
    simp_all
 .have hj':done.testBit j=J:=by
   simp_all
  exact h.ea j p n z hj'
 .have K:∀j,(done||| 1 <<< i).testBit j=J->done.testBit j=J:=λj f=>by
   simp_all
  exact h.eb j m f hm (K j h1) (K m h2)
 .refine ⟨λk v l hv=>?_,by rw[En];exact h.fk.df⟩;obtain h1|h1:=h.fk.tm k v l hv
  .left
   rw[dm,bJ]
   .exact h1
   .intro q;exact l (Ac.2 ⟨o,hJ u,q⟩)
  grind
 .obtain f|rfl:=(uf done i j).1 f
  .exact h.an j ha f
  simp_all
end
end
section
variable {i:Nat}{o:Oper}{v:Value}
def fC{listed:Array Bool}{j:Nat}(a:i<listed.size):mW (listed.setIfInBounds i W) j↔mW listed j∨i=j:=by
 unfold mW;by_cases h:i=j
 .simp_all
 simp_all
section
variable {E:eT S}{ops:Array Oper}{jT:bU S}{s0:bu S}{g0:Gh}{w0:World}{done:Nat}{fr:bU S}{s:bu S}{bl:Nat->Nat}{listed:Array Bool}{g:Gh}{a:Act}{w:World}
def uP(h:At ops i o):i<ops.size:=by have:=(XN.1 h).1;omega
theorem HD{i:Nat}{o:Oper}(h:At ops i o):ops[i]?=Z o:=by unfold At at h;simpa using h
def tO:∀t:T,dw [] t=J:=by
 intro t
 induction t using T.rec (motive_2:=λl=>iF [] l=J)with|fn f a b d g=>simp[dw,d,g]|cT t v e=>simp[dw,e]|agg i e=>simp[dw,e]|gM i e=>simp[dw,e]|gd c v e=>simp[dw,e]|nil=>rfl|cons a l d h=>simp[iF,d,h]|_=>simp[dw]
def dead(ops:L Oper)(done:Nat)(listed:Array Bool):L Nat:=ops.zipIdx.filterMap λ(o,i)=>if listed.getD i J=done.testBit i then Y else o.dst
theorem FU{k:Nat}:k∈dead ops.toList done listed↔∃i o,At ops i o∧o.dst=Z k∧¬(mW listed i↔done.testBit i=W):=by
 have b:∀i,(listed.getD i J=done.testBit i)↔(mW listed i↔done.testBit i=W):=λi=>by unfold mW;cases listed.getD i J<;>cases done.testBit i<;>simp
 unfold dead;rw[Ac];constructor
 .rintro ⟨⟨o,i⟩,c,h⟩
  dsimp only at h;split at h
  .cases h
  .rename_i a;exact⟨i,o,Nh.1 c,h,λd=>a ((b i).2 d)⟩
 .rintro ⟨i,o,e,f,a⟩
  refine⟨(o,i),Nh.2 e,?_⟩
  simp_all
def rfr(a:L Nat)(fr:bU S):bU S:={fr with tm:=a.foldl (λt k=>t.del aR k) fr.tm}
def r8.core(h:r8 E ops jT s0 g0 w0 done fr s bl listed g a w):Uk E ops jT s0 g0 w0 done fr s listed g a w:=⟨h.n,h.nb,h.Wf,h.df,h.tm,h.ZW,h.Bq⟩
theorem Uk.akI(d:yO E ops jT.n)(h:Uk E ops jT s0 g0 w0 done fr s listed g a w):cL g (bB (rfr (dead ops.toList done listed) fr)) a w∧(rfr (dead ops.toList done listed) fr).n=fr.n∧
  ∀{i:Nat}{o:Oper},At ops i o->(∀j,Pre ops.toList i j->mW listed j∧done.testBit j=W)->(∀j,antiP ops.toList j->Pre ops.toList j i->¬mW listed j∧done.testBit j=J)->∀k,k∈tmpsOf o.op∨nV ops.toList o=Z k->fr.get k=(rfr (dead ops.toList done listed) fr).get k:=by
 have dm:∀k,(rfr (dead ops.toList done listed) fr).get k=if k∈dead ops.toList done listed then Y else fr.get k:=λk=>Tr.nU _ _ _ λb n=>by
  let ⟨i,o,e,f,_⟩:=FU.1 n
  exact(ue d.ds e f).1
 refine⟨⟨h.Wf,h.df,λk t l=>?_⟩,rfl,λ{i o}q r u k l=>?_⟩
 .rw[bT,fV]at l;obtain⟨v,c,rfl⟩:=l;rw[dm]at c;split at c
  .cases c
  .rename_i m;exact h.tm k v c λi o e f=>S6 λp=>m (FU.2 ⟨i,o,e,f,p⟩)
 .grind[FU,Kr]
theorem xD{a:Act}{dst:O Tmp}{v:Value}{k:Nat}(h:dst≠Z k):(a.put dst v).tmps[k]?=a.tmps[k]?:=by
 cases dst with
 |none=>rfl|some d=>
  grind[Act.put]
def Fw{a:Act}{d:Nat}(h:d<a.tmps.size):(a.put (Z d) v).tmps[d]?=Z v:=by simp[Act.put,h]
def sE{a:Act}{dst:O Tmp}:(a.put dst v).tmps.size=a.tmps.size∧(a.put dst v).defers=a.defers:=by cases dst<;>simp[Act.put]
def cR.OO{s s':bu S}{g g':Gh}{w w':World}(h:cR [] s g w s' g' w'){l:L Df}{m:L Deferred}(c:eU g w l m):eU g' w' l m:=
 c.imp (λt v d=>h.tr t v d (tO t)) λo b e=>by have:=h.tr _ _ (.ptr o 0 b e) (tO _);cases this with|ptr _ _ _ a=>exact a
theorem r8.meet(C:yO E ops jT.n)(h:r8 E ops jT s0 g0 w0 done fr s bl listed g a w){i:Nat}{o:Oper}(A:At ops i o)(hd:done.testBit i=W)(hl:∀e∈xR o,mW listed e)(x:gB fr o.dst=W){v:Value}{g':Gh}{w':World}
  (l:cR [] s g w s g' w') (R:∀d,o.dst=Z d->∀t,fr.get d=Z t->aP g' w' (low t) v):r8 E ops jT s0 g0 w0 done fr s bl (listed.setIfInBounds i W) g' (a.put o.dst v) w':=by
 have n:i<listed.size:=by rw[h.La];exact uP A
 have q:∀{j:Nat}{p:Oper}{k:Nat},At ops j p->j≠i->p.dst=Z k->o.dst≠Z k:=λc q r f=>((ue C.ds A f).2.2 c (Ne.symm q)).1 r;refine⟨by simpa using h.La,h.n,h.nb,sE.1.trans h.Wf,by rw[sE.2];exact l.OO h.df,λk t K S=>?_,λj p c b e he=>?_,h.ZW,λj p c b=>?_,λj p c b F=>?_,λj p c b F=>?_,λj m b B h1 h2=>?_,h.Bq.trans l.toW,h.fk,h.fl,λj l b=>(fC n).2 (.inl (h.an j l b))⟩
 .by_cases f:o.dst=Z k
  .have I:k<fr.n:=by rw[f]at x;exact g9 x
   exact⟨v,by rw[f];exact Fw (by rw[h.Wf];exact I),R k f t K⟩
  .let ⟨u,hu,ht⟩:=h.tm k t K λj p c r=>by
    have h1:=S j p c r;rw[fC n]at h1;refine Iff.trans ⟨.inl,λh=>h.elim id λe=>?_⟩ h1;subst e;have:o=p:=jU (A.symm.trans c)
    simp_all
   exact⟨u,by rw[xD f];exact hu,l.tr _ _ ht (tO _)⟩
 .rw[fC n]at b ⊢;obtain b|rfl:=b
  .exact .inl (h.Vo j p c b e he)
  .have:o=p:=jU (A.symm.trans c)
   simp_all
 .rw[fC n]at b;obtain b|rfl:=b
  .exact h.ld j p c b
  grind
 .exact h.fo j p c b λhl=>F ((fC n).2 (.inl hl))
 .rw[fC n]at b;have y:j≠i:=λe=>by simp_all
  have b:mW listed j:=b.elim id λe=>absurd e.symm y
  let ⟨h1,h2⟩:=h.ea j p c b F
  refine⟨λt ti d q1 q2 P=>?_,iP h2 l.ext.size⟩
  let ⟨z,r1,r2,r3⟩:=h1 t ti d q1 q2 P
  exact⟨z,by rw[xD (q c y P)];exact r1,r2.Bq l h.fl,r3⟩
 .rw[fC n]at b B;have b:mW listed j:=b.elim id λe=>by simp_all
  have B:mW listed m:=B.elim id λe=>by simp_all
  exact h.eb j m b B h1 h2
theorem at_mem{ops:Array Oper}{i:Nat}{o:Oper}(h:At ops i o):o∈ops.toList:=hJ (show ops.toList[i]?=Z o from by grind[HD])
def r8.aeo(hE:fq E)(b:yO E ops jT.n)(h:r8 E ops jT s0 g0 w0 done fr s bl listed g a w)(m:At ops i o)(B:done.testBit i=W)(C:¬mW listed i)(hl:∀e∈xR o,mW listed e)
  {K:Act->World->Prop} {Q:Exit->Act->World->Prop} (P:∀g' a' w',r8 E ops jT s0 g0 w0 done fr s bl (listed.setIfInBounds i W) g' a' w'->K a' w') {rr:O Nat} (R:rr≠Y->∀o∈ops.toList,∀c,o.op≠.defer c):Ct rr E.T.E.P ops Q i K a w:=by
 have z:rr≠Y->∀c,o.op≠.defer c:=λhr=>R hr o (at_mem m)
 let ⟨hna,u,hf⟩:=h.fo i o m B C
 let ⟨n,S,Zj⟩:=h.core.akI b
 have MG:∀j,Pre ops.toList i j->mW listed j∧done.testBit j=W:=λj hj=>⟨m8 b.bk (λi o hi hl=>h.Vo i o hi hl) m hl j hj,h.ZW i o m B j hj⟩;have p:=Zj m MG λj ha hji=>by
  have F:¬mW listed j:=λhlj=>by
   let ⟨q,hq,_⟩:=ha
   exact C (m8 b.bk (λi o hi hl=>h.Vo i o hi hl) hq (h.Vo j q hq hlj) i hji)
  refine⟨F,?_⟩;cases MH:done.testBit j with|false=>rfl|true=>exact absurd (h.an j ha MH) F
 have I:iH ops.toList fr o=iH ops.toList (rfr (dead ops.toList done listed) fr) o:=oW λk x=>p k (.inr x);have A:∀k∈tmpsOf o.op,fr.get k=(rfr (dead ops.toList done listed) fr).get k:=λk x=>p k (.inl x);unfold Ct;simp[HD m];obtain⟨f1,f3⟩|⟨f1,t,f2,f3⟩|⟨c,f1,f4,t,f2,f3⟩:=hf
 .rw[qO (fr':=rfr (dead ops.toList done listed) fr) λk x=>p k (.inr x)]at f1;rw[bJ (by rw[CL n f1];simp_all)];exact P _ _ _ (h.meet b m B hl u (cR.refl h.Bq.rel) λd f y l=>by rw[f3 d f y l];exact ML)
 .rw[I]at f1;have hw:=oV n f1;rw[cn hw];refine .of_wp z (.inl ?_);rw[iI E Y o s Z (jm A)]at f2;refine rR hE n h.Bq.rel (.inl rfl) f2 (λy g' v w' x r ht=>?_);cases x;exact P _ _ _ (h.meet b m B hl u r λd f y l=>(f3 d f y l).rel ht)
 .rw[I]at f1;have hw:=oV n f1;rw[iI E (Z c) o s Z (jm (qV (EM b.us m) A))]at f2;cases c with
  |true=>
   rw[cn hw];refine .of_wp z (.inl ?_);rw[tW W A]at f4
   let ⟨hff,hfn'⟩:=vZ n (by rw[S];exact h.nb) f4
   refine rR hE hff h.Bq.rel (.inr rfl) f2 (λy g' v w' x r ht=>?_);cases x;exact P _ _ _ (h.meet b m B hl u r λd f y l=>by rw[f3 d f y l];exact .gd _ _ _ λ_=>ht)
  |false=>rw[bJ (by simp_all)];exact P _ _ _ (h.meet b m B hl u (cR.refl h.Bq.rel) λd f y l=>by rw[f3 d f y l];exact .gd _ _ _ λh=>by cases h)
theorem r8.aep(hE:fq E)(C:yO E ops jT.n)(h:r8 E ops jT s0 g0 w0 done fr s bl listed g a w){i:Nat}{o:Oper}(n:At ops i o)(hd:done.testBit i=J)(hna:fe o=W)(hnl:¬mW listed i)(hl:∀e∈xR o,mW listed e)
  {K:Act->World->Prop} {Q:Exit->Act->World->Prop} (hK:∀O3 a' w',r8 E ops jT s0 g0 w0 done fr s O3 (listed.setIfInBounds i W) g a' w'->K a' w') {rr:O Nat} (hrr:rr≠Y->∀o∈ops.toList,∀c,o.op≠.defer c):Ct rr E.T.E.P ops Q i K a w:=by
 have F:rr≠Y->∀c,o.op≠.defer c:=λhr=>hrr hr o (at_mem n)
 let ⟨hg,⟨t,ti,hop,P⟩,hdn⟩:=aag C.al n hna
 let ⟨xi,dd,z,PN,_,_,_,hz,R,_⟩:=(hE.Uw.ti _ _ P).all
 unfold Ct;simp[HD n];rw[cn (by simp[Region.wanted,hg])];refine .of_wp F (.inl ?_);unfold Oper.wp;have S:(execOp a.eval o).run E.T.E.P w=.ok (.value (.pointer (Z ⟨w.heap.size,0,Y⟩))) (w.alloc (.cells z.cells t)):=by
  simp_all[execOp,Instr.alloc,eA,newVar,newRow]
 rw[S];have r:i<listed.size:=by rw[h.La];exact uP n
 have B:=h.Bq.rel;have hsz:(w.alloc (.cells z.cells t)).heap.size=w.heap.size+1:=by simp
 let ⟨hs',he⟩:=B.grow (fl:=s.fl) (I:=g.bx) (w':=w.alloc (.cells z.cells t)) (λ_ h=>h) (λ_ h=>.inl h) (λb hb=>by have:=B.bx b hb;omega) (by omega) (λb hb=>pL w _ b hb) rfl rfl
 have x:∀{j:Nat}{p:Oper}{k:Nat},At ops j p->j≠i->p.dst=Z k->o.dst≠Z k:=λl x y A=>((ue C.ds n A).2.2 l (Ne.symm x)).1 y;refine hK (λj=>if j=i then w.heap.size else bl j) _ _ ⟨by simpa using h.La,h.n,h.nb,sE.1.trans h.Wf,by rw[sE.2];exact h.df.imp (λt v ht=>ht.ext he B.bx) (λ_ _ h=>h),λk t' hk hc=>?_,λj p l f e he=>?_,h.ZW,λj p l f=>?_,λj p l f hn=>?_,λj p l f hn=>?_,λj m f hm h1 h2 hjm zf hms=>?_,?_,h.fk,h.fl,λj ha f=>(fC r).2 (.inl (h.an j ha f))⟩
 .have A:o.dst≠Z k:=λe=>by
   have:=(hc i o n e).1 ((fC r).2 (.inr rfl))
   simp_all
  let ⟨u,hu,ht⟩:=h.tm k t' hk λj p l y=>by
   have h1:=hc j p l y;rw[fC r]at h1
   grind
  exact⟨u,by rw[xD A];exact hu,ht.ext he B.bx⟩
 .rw[fC r]at f ⊢;obtain f|rfl:=f
  .exact .inl (h.Vo j p l f e he)
  .have:o=p:=jU (n.symm.trans l)
   simp_all
 .rw[fC r]at f;obtain f|rfl:=f
  .exact h.ld j p l f
  .have:o=p:=jU (n.symm.trans l)
   simp_all
 .exact h.fo j p l f λhl=>hn ((fC r).2 (.inl hl))
 .by_cases q:j=i
  .subst q;have:o=p:=jU (n.symm.trans l);subst this;simp only[ku];refine⟨λt' ti' d q1 q2 q3=>?_,by omega⟩;rw[hop]at q1;cases q1;rw[P]at q2;cases q2;have hdl:d<a.tmps.size:=by rw[h.Wf,h.n];exact hdn d q3
   refine⟨z.cells,by rw[q3];exact Fw hdl,⟨h.Bq.ext.size,by omega,λTx=>?_,λk hO=>?_,t,xB w _⟩,R⟩
   .have:=B.bx _ Tx;omega
   .have:=(B.qR hO).1;omega
  .rw[fC r]at f;have f:mW listed j:=f.elim id λe=>absurd e.symm q
   let ⟨h1,h2⟩:=h.ea j p l f hn
   simp only[bJ q];refine⟨λt ti d q1 q2 q3=>?_,by omega⟩
   let ⟨z',r1,r2,r3⟩:=h1 t ti d q1 q2 q3
   let ⟨ty,r4⟩:=r2.mem
   exact⟨z',by rw[xD (x l q q3)];exact r1,⟨r2.new,by omega,r2.bx,r2.own,ty,by rw[pL w _ _ r2.lt];exact r4⟩,r3⟩
 .have hlt:∀j,mW listed j->done.testBit j=J->j<ops.size->bl j<w.heap.size:=λj f MH zf=>by
   have Gz:At ops j ops[j]:=by simp[At]
   exact(h.ea j _ Gz f MH).2
  rw[fC r]at f hm;by_cases hji:j=i<;>by_cases hmi:m=i
  .omega
  .grind
  .grind
  .rw[bJ hji,bJ hmi];exact h.eb j m (f.elim id λe=>absurd e.symm hji) (hm.elim id λe=>absurd e.symm hmi) h1 h2 hjm zf hms
 .have hx:n5 s.lo s.fl g w g (w.alloc (.cells z.cells t)):=Ext.I8 s.lo he;exact⟨hs',h.Bq.ext.trans (h.Bq.fl▸h.Bq.lo▸hx),h.Bq.fl,h.Bq.lo,h.Bq.aL,h.Bq.uE,h.Bq.same,h.Bq.IS⟩
end
end
section
section
variable {E:eT S}{ops:Array Oper}{jT:bU S}{s0:bu S}{g0:Gh}{w0:World}{done:Nat}{fr:bU S}{s:bu S}{bl:Nat->Nat}{listed:Array Bool}{g:Gh}{a:Act}{w:World}
theorem Vd(l:L Oper):((rK l).map (·.1)).Nodup:=by
 have:(rK l).map (·.1)=List.range l.length:=by
  unfold rK;have:((λx:Nat×Oper=>x.1)∘λp:Oper×Nat=>(p.2,p.1))=Prod.snd:=rfl
  grind[List.zipIdx_map_snd,List.range_eq_range']
 grind
theorem r8.yC(hst:yO E ops jT.n)(h:r8 E ops jT s0 g0 w0 done fr s bl listed g a w){c:Nat}{sQ:bU S}{s1:bu S}(had:yC E.T c (rK ops.toList) fr s=Z (sQ,s1))
  (hwh:∀j,c.testBit j=W->mW listed j∧(yd (rK ops.toList) done).testBit j=W) (hcl:∀j,c.testBit j=W->∀m,Pre ops.toList j m->done.testBit m=W∨c.testBit m=W) :
  ∃K,Adp E.T c (rK ops.toList) fr s g w a sQ s1 K∧Uk E ops jT s0 g0 w0 (done||| c) sQ s1 listed K a w:=by
 have n:∀{j:Nat}{o:Oper},At ops j o->c.testBit j=W->mW listed j∧fe o=W∧done.testBit j=J:=λ{j o}y C=>by
  let ⟨h1,h2⟩:=hwh j C
  let ⟨o',ho',h3,h4⟩:=(vH done j).1 h2
  have:o=o':=jU (y.symm.trans ho')
  simp_all
 have f:∀{p:Nat×Oper},p∈rK ops.toList->At ops p.1 p.2:=λ{p}r=>jv.1 r;obtain⟨K,l⟩:=Pe (w0:=w0) (bl:=bl) had h.nb h.Bq.rel (λp r A=>by
   let ⟨h1,_,h3⟩:=n (f r) A
   exact(h.ea p.1 p.2 (f r) h1 h3).1) (Vd _) (λp r q P oe hqw F=>by
   let ⟨h1,_,h3⟩:=n (f r) oe
   let ⟨h4,_,h6⟩:=n (f P) hqw
   exact h.eb p.1 q.1 h1 h4 h3 h6 F (uP (f r)) (uP (f P))) (λp r q P F d B=>((ue hst.ds (f r) B).2.2 (f P) F).1)
 refine⟨K,l,⟨l.n.trans h.n,by rw[l.n];exact h.nb,by rw[l.n];exact h.Wf,by rw[Gc,l.OO];exact h.df.imp (λ_ _ ht=>ht.le l.le) l.le.bV,λk t hk hc=>?_,λj p r C m hm=>?_,?_⟩⟩
 .by_cases I:∃p∈rK ops.toList,c.testBit p.1=W∧p.2.dst=Z k
  .exact l.new k I t hk
  .rw[l.old k λp r A B=>I ⟨p,r,A,B⟩]at hk
   let ⟨v,hv,ht⟩:=h.tm k t hk λi o hi B=>by have h1:=hc i o hi B;rw[Nc,m7]at h1;exact h1.trans ⟨λh=>h.elim id λA=>absurd ⟨(i,o),jv.2 hi,A,B⟩ I,.inl⟩
   exact⟨v,hv,ht.le l.le⟩
 .rw[Nc,m7]at C ⊢;obtain C|C:=C
  .exact .inl (h.ZW j p r C m hm)
  grind
 .have u:=h.Bq;refine⟨l.rel,⟨λo b e=>l.le.bV o b (u.ext.bV o b e),λo e x hl k=>l.le.arr o e x (u.ext.arr o e x hl k),λb R=>l.le.bx b (u.ext.bx b R),u.ext.size,u.ext.heap,λo b hl hO=>?_,λb R=>u.ext.rO b (by rw[l.bx]at R;exact R),u.ext.os,u.ext.output⟩,l.fl.trans u.fl,l.lo.trans u.lo,gk u.aL l.aL,λo y=>by rw[l.wr];exact u.uE o y,λo y hn=>?_,λo y=>by rw[l.dr];exact u.IS o y⟩
  .obtain hO|⟨p,r,A,d,B,htm⟩:=l.own o b hO
   .exact u.ext.own o b hl hO
   .let ⟨h1,_,h3⟩:=n (f r) A
    let ⟨t,ti,d',e1,e2,e3,_⟩:=l.adu p r A
    let ⟨z,r1,r2,_⟩:=(h.ea p.1 p.2 (f r) h1 h3).1 t ti d' e1 e2 e3
    have:d=d':=jU (B.symm.trans e3);subst this;rw[htm]at r1;cases r1;exact .inr r2.new
  .rw[l.ob o (iP y u.aL)];exact u.same o y (by rw[l.wr]at hn;exact hn)
theorem v7{ow:L Nat}{k:Nat}{v:V S}(h:(dy ow fr).get k=Z v):fr.get k=Z v∧dw ow (low v)=J:=by
 cases ow with
 |nil=>exact⟨h,tO _⟩|cons o ow=>
  grind[dy,bU.get,Tr.nT,Option.filter_eq_some_iff,kE]
theorem AM{ow:L Nat}{k:Nat}{v:V S}(h:fr.get k=Z v)(a:iM ow v=J):(dy ow fr).get k=Z v:=by
 cases ow with
 |nil=>exact h|cons o ow=>
  grind[dy,bU.get,Tr.nT]
theorem Ox{call:fU S}{l:L Oper}{o:Oper}{ω:Type}{kp:V S->bu S->O ω}{k:V S->bu S->L Nat->O ω}{r:ω}(h:oX E call l o fr s kp k=Z r):gB fr o.dst=W:=by
 unfold oX at h
 grind
theorem W3{done i:Nat}{aL:Nat}{wr ow:L Nat}:∀{l:Wy},EV ops.toList (wB ops.toList) done i fr aL wr ow l=W->∀{j:Nat}{p:Oper},(j,p)∈l->done.testBit j=W->fe p=J->¬Pre ops.toList i j->
  (jO (dN wr aL) fr p.op=J∧jO (dN wr aL) (qW fr p.op) p.op=J)∨(Nx p.op=W∧jO (λx=>ow.contains x) fr p.op=J∧jO (λx=>ow.contains x) (qW fr p.op) p.op=J):=by
 intro l
 induction l with
 |nil=>simp_all|cons q l f=>
  intro h j p c d a b
  let ⟨g,k⟩:=q
  simp only[EV,eK]at h;obtain e|c:=fy.1 c
  .cases e;have h1:=h.1;simp only[d,a,DN,Bool.false_or]at h1;rw[m7]at h1;obtain h1|h1:=h1
   .exact absurd h1 b
   grind
  grind
end
end
section
section
variable {E:eT S}{ops:Array Oper}{jT:bU S}{s0:bu S}{g0:Gh}{w0:World}{done:Nat}{fr:bU S}{s:bu S}{bl:Nat->Nat}{listed:Array Bool}{g:Gh}{a:Act}{w:World}
theorem NM{p:Nat->Bool}{o:Op}(h:jO p fr o=J){k:Nat}(a:k∈tmpsOf o){v:V S}(c:fr.get k=Z v):cE p v=J:=by
 let ⟨x,d,b⟩:=Ac.1 a
 grind[jO,cA]
theorem Vh{ow wr:L Nat}{aL:Nat}(a:∀o∈ow,o∈wr){v:V S}(h:cE (dN wr aL) v=J):iM ow v=J:=by
 grind[oS,eB,dN]
theorem MY{ops:L Oper}{fr:bU S}{o:Oper}{k:Nat}{v:V S}(h:uH ops fr o=W)(a:nV ops o=Z k)(c:fr.get k=Z v):(∃b,v=.kb b)∨∃l,v=.dat (.lit (.tuple l)):=by
 unfold uH at h;unfold nV at a
 grind
theorem r8.step(hE:fq E){call:fU S}(AG:gA E.T.E.P call)(A:yO E ops jT.n)(h:r8 E ops jT s0 g0 w0 done fr s bl listed g a w){i:Nat}{o:Oper}(I:At ops i o)(hd:done.testBit i=J)(hnl:¬mW listed i)(hl:∀e∈xR o,mW listed e)
  (hsub:∀j,Pre ops.toList i j->done.testBit j=W∨(yd (rK ops.toList) done).testBit j=W) {sQ:bU S} {s1:bu S} (had:TL.yC E.T (yd (rK ops.toList) done&&& (wB ops.toList).getD i 0) (rK ops.toList) fr s=Z (sQ,s1))
  {ω:Type} {kp:bU S->V S->bu S->O ω} {k:Nat->bU S->bu S->O ω} {r:ω}
  (hev:oX E call ops.toList o sQ {s1 with wr:=[]} (λt s'=>kp (aha ops.toList sQ) t {s' with wr:=s'.wr++s1.wr}) (λt s' ow=>bif EV ops.toList (wB ops.toList) done i fr s.aL s'.wr ow (rK ops.toList)then
   k (done||| (yd (rK ops.toList) done&&& (wB ops.toList).getD i 0)||| 1 <<< i) ((dy ow sQ).iQ o.dst t) {s' with wr:=s'.wr++s1.wr}else Y)=Z r)
  {K:Act->World->Prop} {Q:Exit->Act->World->Prop}
  (hK:∀done' fr' s' g' a' w',k done' fr' s'=Z r->r8 E ops jT s0 g0 w0 done' fr' s' bl (listed.setIfInBounds i W) g' a' w'->K a' w')
  (hP:∀fr' t s' g' a' v w',kp fr' t s'=Z r->fr'.n=jT.n->cL g' (bB fr') a' w'->fJ s0 g0 w0 s' g' w'->eG (ops.toList.filterMap (·.dst)) jT fr' s'.dr s0.aL->aP g' w' (low t) v->Q (.panic [{v,recovered:=J}]) a' w') {rr:O Nat} (hrr:rr≠Y->∀o∈ops.toList,∀c,o.op≠.defer c):Ct rr E.T.E.P ops Q i K a w:=by
 have apY:rr≠Y->∀c,o.op≠.defer c:=λhr=>hrr hr o (at_mem I);have hi:i<listed.size:=by rw[h.La];exact uP I
 have MG:∀j,Pre ops.toList i j->mW listed j:=m8 A.bk (λi o hi hl=>h.Vo i o hi hl) I hl;generalize hwe:yd (rK ops.toList) done&&& (wB ops.toList).getD i 0=which at had hev;have hwb:∀j,which.testBit j=W↔(yd (rK ops.toList) done).testBit j=W∧Pre ops.toList i j:=λj=>by rw[<-hwe,Nat.testBit_and,eK];rfl
 let ⟨g1,hA,hC⟩:=h.yC A had (λj hj=>⟨MG j ((hwb j).1 hj).2,((hwb j).1 hj).1⟩) (λj hj m hm=>by
  have hpm:=UY A.bk I ((hwb j).1 hj).2 hm
  simp_all)
 have hpd:∀j,Pre ops.toList i j->(done||| which).testBit j=W:=λj hj=>by
  simp_all
 have hwd:∀{j:Nat}{q:Oper},At ops j q->which.testBit j=W->mW listed j∧fe q=W∧done.testBit j=J:=λ{j q}B hj=>by
  let ⟨o',ho',h3,h4⟩:=(vH done j).1 ((hwb j).1 hj).1
  have:q=o':=jU (B.symm.trans ho')
  simp_all
 have hwi:which.testBit i=J:=by
  grind
 have P:gB sQ o.dst=W:=Ox hev;have hdst:gB (dy (S:=S) [] sQ) o.dst=W:=P
 let ⟨hfr,hfn,Zj⟩:=hC.akI A
 have agO:=Zj I (λj hj=>⟨MG j hj,hpd j hj⟩) λj ha hji=>by
  let ⟨q,B,_⟩:=ha
  have hnj:¬mW listed j:=λhlj=>hnl (m8 A.bk (λi o hi hl=>h.Vo i o hi hl) B (h.Vo j q B hlj) i hji);refine⟨hnj,?_⟩;cases MH:(done||| which).testBit j with
  |false=>rfl|true=>
   rw[Nc,m7]at MH;obtain MH|MH:=MH
   .have:=h.ZW j q B MH i hji
    simp_all
   simp_all
 rw[IL E call _ _ _ hfn.symm (EM A.us I) (λk n=>agO k (.inl n)) (λk n=>agO k (.inr n))]at hev;have II:bq g1 (aI {s1 with wr:=[]}) w:=hC.Bq.rel;unfold Ct;simp[HD I];refine(rQ hE AG (by rw[hfn];exact hC.nb) hfr II hev (λt s' ow g' v w' n ht f=>?_) (λt s' g' v w' n f ht=>?_) apY).2
 .obtain ⟨ajP,n⟩|⟨_,n⟩:=ah n
  rotate_left
  .cases n
  refine hK _ _ _ g' _ w' n ?_;have ac2:s1.fl=0:=hA.fl.trans h.fl;have hnf:∀ow':L Nat,(dy ow' sQ).n=sQ.n:=λow'=>sR ow' sQ;have aqd:gB (dy ow sQ) o.dst=W:=Am P;have dm:∀k,((dy ow sQ).iQ o.dst t).get k=if o.dst=Z k then Z t else(dy ow sQ).get k:=λk=>JL aqd (by rw[hnf];exact hC.nb)
  have hnn:((dy ow sQ).iQ o.dst t).n=sQ.n:=by
   have:((dy ow sQ).iQ o.dst t).n=(dy ow sQ).n:=by cases o.dst<;>rfl
   rw[this,hnf]
  have akA:fJ s1 g1 w {s' with wr:=s'.wr++s1.wr} g' w':=
   ⟨f.rel,f.ext,f.fl,f.lo,f.aL,λo I=>eO _ I,λo I hn=>f.same o I (λhm=>hn (fh _ hm)),f.IS⟩
  have hne:∀{j:Nat}{p:Oper}{k:Nat},At ops j p->j≠i->p.dst=Z k->o.dst≠Z k:=λF hne hpd R=>((ue A.ds I R).2.2 F (Ne.symm hne)).1 hpd;have hd':∀j,(done||| which||| 1 <<< i).testBit j=W↔(done.testBit j=W∨which.testBit j=W)∨i=j:=λj=>by rw[uf,Nc,m7]
  refine⟨by simpa using h.La,hnn.trans hC.n,by rw[hnn];exact hC.nb,by rw[sE.1,hnn];exact hC.Wf,?_,λk t' C hc=>?_,λj p F hj e he=>?_,λj p F hj m hm=>?_,λj p F hj=>?_,λj p F hj hn=>?_,λj p F hj hn=>?_,λj m hj hm h1 h2 hjm zf hms=>?_,hC.Bq.trans akA,?_,f.fl.trans ac2,λj ha hj=>?_⟩
  .rw[sE.2,Gc,En];cases ow with|nil=>exact f.OO hC.df|cons x ow=>exact(gN (λv=>kE _ v) (λ_ _=>rfl) sQ.df).rel f.tr hC.df
  .rw[dm]at C;by_cases R:o.dst=Z k
   .rw[cn R]at C;cases C;have hk2:k<sQ.n:=by rw[R]at P;exact g9 P
    exact⟨v,by rw[R];exact Fw (by rw[hC.Wf];exact hk2),ht⟩
   .rw[bJ R]at C
    let ⟨h1,h2⟩:=v7 C
    let ⟨u,hu,htu⟩:=hC.tm k t' h1 λj p F hpd=>by
     have c1:=hc j p F hpd;rw[fC hi,hd']at c1
     grind
    exact⟨u,by rw[xD R];exact hu,f.tr _ _ htu h2⟩
  .rw[fC hi]at hj ⊢;obtain hj|rfl:=hj
   .exact .inl (h.Vo j p F hj e he)
   .have:o=p:=jU (I.symm.trans F)
    simp_all
  .rw[hd']at hj ⊢;obtain hj|rfl:=hj
   .left
    have:=hC.ZW j p F (by simp_all) m hm;rwa [Nc,m7]at this
   simp_all
  .rw[fC hi]at hj;rw[hd'];obtain hj|rfl:=hj
   .exact (h.ld j p F hj).imp (λh=>.inl (.inl h)) id
   omega
  ·
   have hji:j≠i:=λe=>hn ((fC hi).2 (.inr e.symm));have hnl:¬mW listed j:=λhl=>hn ((fC hi).2 (.inl hl));have MH:done.testBit j=W:=by
    grind
   let ⟨hna,hfo⟩:=h.fo j p F MH hnl
   have hnp:¬Pre ops.toList i j:=λhpr=>hnl (MG j hpr);have hmm:=W3 ajP (jv.2 F) MH hna hnp;have hpi:∀{m:Nat}{q:Oper}{k:Nat},At ops m q->(m=i∨which.testBit m=W)->(k∈tmpsOf p.op∨nV ops.toList p=Z k)->q.dst≠Z k:=by
    intro m q k B hm n YT;have hpre:Pre ops.toList j m:=by
     obtain h1|⟨h1,_⟩:=(Kr A F n B YT).2
     .exact h1
     .exfalso;obtain rfl|hm:=hm
      .exact hnp h1
      .exact hnl (m8 A.bk (λi o hi hl=>h.Vo i o hi hl) B (h.Vo m q B (hwd B hm).1) j h1)
    have:=h.ZW j p F MH m hpre
    grind
   have hold:∀k,(k∈tmpsOf p.op∨nV ops.toList p=Z k)->sQ.get k=fr.get k:=λk n=>hA.old k λq B hw=>hpi (jv.1 B) (.inr hw) n;have hput:∀k,(k∈tmpsOf p.op∨nV ops.toList p=Z k)->((dy ow sQ).iQ o.dst t).get k=(dy ow sQ).get k:=λk n=>by rw[dm,bJ (hpi I (.inl rfl) n)]
   have hsubw:∀o∈ow,o∈s'.wr:=f.oww;have hkeep:∀k,fr.get k=sQ.get k->(∀v,fr.get k=Z v->iM ow v=J)->(dy ow sQ).get k=fr.get k:=λk he hm=>by
    cases hfk:fr.get k with
    |some v=>grind[AM]|none=>
     cases aqK:(dy ow sQ).get k with
     |none=>rfl|some v=>
      have:=(v7 aqK).1
      simp_all
   have hno:∀k v,k∈tmpsOf p.op->fr.get k=Z v->iM ow v=J:=λk v n hv=>by
    grind[Vh,NM,oS]
   have hsame:∀x,dN s'.wr s.aL x=J->({s' with wr:=s'.wr++s1.wr}:bu S).ob.get x=s.ob.get x:=λx hx=>by
    simp only[dN,Ad]at hx;have hx1:x∉s'.wr:=by grind
    have hx2:x<s.aL:=by
     grind[Nat.ble_eq_true_of_le]
    have:=f.same x (iP hx2 hA.aL) hx1;exact this.trans (hA.ob x hx2)
   refine⟨hna,hfo.move (hnn.trans hA.n) (EM A.us F) (λk n=>?_) (λk n=>?_) (λd ajT t' ht'=>?_) (p:=dN s'.wr s.aL) (.inr (hmm.imp (λh=>⟨h.1,h.2,hsame⟩) (λh=>h.1)))⟩
   .grind
   .rw[hput k (.inr n)];refine hkeep k (hold k (.inr n)).symm λv hv=>?_;obtain⟨f1,_⟩|Tv:=hfo.2
    .obtain ⟨b,rfl⟩|⟨l,rfl⟩:=MY f1 n hv<;>rfl
    have hgv:∃b,gK v=Z b:=by
     have y:∃c,iH ops.toList fr p=Z (Z c)∨iH ops.toList fr p=Z Y:=by
      obtain⟨f1,_⟩|⟨c,f1,_⟩:=Tv
      .simp_all
      simp_all
     let ⟨c,y⟩:=y
     unfold nV at n;unfold iH at y;cases hpg:p.guard with
     |none=>simp_all|some q=>
      let ⟨m,want⟩:=q
      simp[hpg]at n y;rw[n,SX,hv]at y;cases hb:gK v with
      |some b=>grind|none=>
       exfalso;cases v<;>first|(cases hb;done)|(simp only[hb]at y;obtain h|h:=y<;>cases h)
    let ⟨b,hb⟩:=hgv
    cases v<;>first|rfl|simp[gK]at hb
   .rw[dm,bJ (hne F hji ajT)]at ht';have h1:=(v7 ht').1;rw[hA.old d λq B hw YT=>?_]at h1
    .exact h1
    .have hq':At ops q.1 q.2:=jv.1 B;have hjq:j≠q.1:=λe=>by
      simp_all
     exact((ue A.ds F ajT).2.2 hq' hjq).1 YT
  .have hji:j≠i:=λe=>by
    simp_all
   have MH:done.testBit j=J:=by
    simp_all
   have hwj:which.testBit j=J:=by
    simp_all
   rw[fC hi]at hj;have hlj:mW listed j:=hj.elim id λe=>absurd e.symm hji
   let ⟨h1,h2⟩:=h.ea j p F hlj MH
   refine⟨λt2 ti d q1 q2 q3=>?_,iP h2 f.ext.size⟩
   let ⟨z,r1,r2,r3⟩:=h1 t2 ti d q1 q2 q3
   have agz:I2 g1 w0 w (bl j) z:=⟨r2.new,r2.lt,by rw[hA.bx];exact r2.bx,λx hO=>by
    obtain hO|⟨q,B,hw,d2,hd2,htm⟩:=hA.own x (bl j) hO
    .exact r2.own x hO
    .have hq':At ops q.1 q.2:=jv.1 B
     let ⟨l1,_,l3⟩:=hwd hq' hw
     let ⟨t3,ti3,d3,e1,e2,e3,_⟩:=hA.adu q B hw
     let ⟨z3,u1,_,_⟩:=(h.ea q.1 q.2 hq' l1 l3).1 t3 ti3 d3 e1 e2 e3
     have:d2=d3:=jU (hd2.symm.trans e3);subst this;have hbb:bl j=bl q.1:=by
      simp_all
     have hjq:j≠q.1:=λe=>by simp_all
     exact h.eb j q.1 hlj l1 MH l3 hjq (uP F) (uP hq') hbb,r2.mem⟩
   exact⟨z,by rw[xD (hne F hji q3)];exact r1,agz.Bq f ac2,r3⟩
  .have hx:∀j,(done||| which||| 1 <<< i).testBit j=J->done.testBit j=J∧i≠j:=λj hj=>by
    grind
   rw[fC hi]at hj hm;exact h.eb j m (hj.elim id λe=>absurd e (hx j h1).2) (hm.elim id λe=>absurd e (hx m h2).2) (hx j h1).1 (hx m h2).1 hjm zf hms
  .refine ⟨λk v n hv=>?_,?_⟩;rotate_left
   .rw[En];have h0:xU (dN s'.dr s0.aL) jT.df sQ.df:=by rw[hA.OO];exact h.fk.df.mono (jb (λx hx=>f.IS x (by rw[hA.dr];exact hx)) (cu _))
    cases ow with|nil=>exact h0|cons x ow=>refine h0.trans (uk (p:=(x::ow).contains) (λo' ho'=>?_) (λv=>oS _ v) _).ok;have:=f.owd o' (by grind);simp[dN,this]
   have vg:∀{m:Nat}{q:Oper},At ops m q->q.dst≠Z k:=λB YT=>n (Ac.2 ⟨_,hJ B,YT⟩);obtain h1|h1:=h.fk.tm k v n hv
   .rw[dm,bJ (vg I)];rw[<-hA.old k λq B _=>vg (jv.1 B)]at h1;cases hm:iM ow v with
    |false=>exact .inl (AM h1 hm)|true=>
     rw[oS]at hm;refine .inr (eB (λx hx=>?_) v hm);have:x∈ow:=by simpa using hx
     have:=f.owd x this;simp[dN,this]
   .exact .inr (eB (jb (λx hx=>f.IS x (by rw[hA.dr];exact hx)) (cu _)) v h1)
  .rw[fC hi];obtain(hj|hj)|hj:=(hd' j).1 hj
   .exact .inl (h.an j ha hj)
   .simp_all
   omega
 .have hds:∀d∈ops.toList.filterMap (·.dst),d<bC:=λd hd=>by
   let ⟨q,B,YT⟩:=Ac.1 hd
   let ⟨m,hm⟩:=Xn B
   exact(ue A.ds hm YT).1
  have hgd:∀k,(aha ops.toList sQ).get k=if k∈ops.toList.filterMap (·.dst)then Y else sQ.get k:=λk=>Tr.nU _ _ _ hds
  have hdr:∀x,dN s.dr s0.aL x=W->dN s'.dr s0.aL x=W:=jb (λx hx=>f.IS x (by rw[hA.dr];exact hx)) (cu _);refine hP _ t _ g' _ v w' n hC.n ⟨hC.Wf,f.OO hC.df,λk t' C=>?_⟩ (hC.Bq.trans ⟨f.rel,f.ext,f.fl,f.lo,f.aL,λo I=>eO _ I,λo I hn=>f.same o I (λhm=>hn (fh _ hm)),f.IS⟩) ⟨λk v n hv=>?_,?_⟩ ht
  .rw[bT,hgd]at C;split at C
   .cases C
   .rename_i hnk;rw[fV]at C;obtain⟨u,hu,rfl⟩:=C
    let ⟨v',hv',ht'⟩:=hC.tm k u hu λi o hi R=>absurd (Ac.2 ⟨o,hJ hi,R⟩) hnk
    exact⟨v',hv',f.tr _ _ ht' (lU _)⟩
  .obtain h1|h1:=h.fk.tm k v n hv
   .left
    rw[hgd,bJ n,hA.old k λq B _ YT=>n (Ac.2 ⟨_,hJ (jv.1 B),YT⟩)];exact h1
   .exact .inr (eB hdr v h1)
  .show xU _ jT.df sQ.df;rw[hA.OO];exact h.fk.df.mono hdr
end
end
section
def CS{E:eT S}{ops:L Oper}{bef:L Nat}{done:Nat}{fr:bU S}{i:Nat}{o:Oper}:∀{l:Wy},Qo E ops bef done fr l=Z (i,o)->(i,o)∈l∧done.testBit i=J∧fe o=J∧T6 ops bef i o=J∧Ux (bef.getD i 0) done=W
 |[],h=>by cases h
 |(j,p)::l,h=>by
  obtain⟨a,h⟩|⟨_,h⟩:=ah h
  .simp_all
  .let ⟨h1,h2⟩:=CS h
   simp_all
def CT{bef:L Nat}{done u5:Nat}{i:Nat}{o:Oper}:∀{l:Wy},Qp bef done u5 l=Z (i,o)->(i,o)∈l∧done.testBit i=J∧fe o=J∧Ux (bef.getD i 0) (done||| u5)=W
 |[],h=>by cases h
 |(j,p)::l,h=>by
  obtain⟨a,h⟩|⟨_,h⟩:=ah h
  .simp_all
  .let ⟨h1,h2⟩:=CT h
   simp_all
section
variable {ops:Array Oper}{listed:Array Bool}
theorem Fg{j:Nat}(b:listed.size=ops.size)(h:j∈Region.ready .any ops listed):∃o,At ops j o∧¬mW listed j∧∀e∈xR o,mW listed e:=by
 let ⟨h1,o,c,h2⟩:=mem_ready.1 h
 have g:j<listed.size:=by grind
 refine⟨o,by unfold At;simpa using c,λi=>?_,λe f=>?_⟩
 .simp_all[mW]
 .obtain ⟨d,a,rfl⟩:=nO.1 f;rw[List.mem_filter]at a;exact h2 d (by grind) a.2
variable {bef:List Nat}{done i j:Nat}{o:Oper}
def Xk(a:listed.size=ops.size)(b:At ops j o)(hn:¬mW listed j)(c:∀e∈xR o,mW listed e):j∈Region.ready .any ops listed:=by
 have g:j<listed.size:=by rw[a];exact uP b
 refine mem_ready.2 ⟨?_,o,HD b,λe d f=>c e.on (nO.2 ⟨e,List.mem_filter.2 ⟨by simpa using d,f⟩,rfl⟩)⟩
 simp_all[mW]
theorem Jf(c:uO ops.toList 0=W)(a:listed.size=ops.size)(h:Region.ready .any ops listed=[]):∀j o,At ops j o->mW listed j:=by
 intro j
 induction j using Nat.strongRecOn with
 |_ j k=>
  intro o b;refine S6 λd=>?_;have:j∈Region.ready .any ops listed:=Xk a b d λe f=>by
   have g:=Ba c b e f;have l:=uP b;have i:At ops e (ops[e]'(by omega)):=by
    grind[At]
   grind
  simp_all
theorem Hl(a:listed.size=ops.size)(h:listed.toList.count J<=0){j:Nat}{o:Oper}(b:At ops j o):mW listed j:=by
 have c:j<listed.size:=by rw[a];exact uP b
 have d:listed.toList.count J=0:=by omega
 rw[List.count_eq_zero]at d;unfold mW;simp only[Array.getD,c,dite_true];cases e:listed[j]with
 |true=>exact e|false=>
  grind
def count_set(a:listed.size=ops.size){m j:Nat}{o:Oper}(b:At ops j o)(hn:¬mW listed j)(h:listed.toList.count J<=m+1):(listed.setIfInBounds j W).toList.count J<=m:=by
 have c:j<listed.size:=by rw[a];exact uP b
 simp_all[mW,List.count_set]
end
section
variable {E:eT S}{ops:Array Oper}{jT:bU S}{s0:bu S}{g0:Gh}{w0:World}
theorem Rq(hE:fq E){call:fU S}(AG:gA E.T.E.P call)(e:yO E ops jT.n){ω:Type}{kp:bU S->V S->bu S->O ω}{kk:bU S->bu S->O ω}{r:ω}{Q:Exit->Act->World->Prop}
  (hN:∀fr' s' g' a' w',kk fr' s'=Z r->fr'.n=jT.n->cL g' (bB fr') a' w'->fJ s0 g0 w0 s' g' w'->eG (ops.toList.filterMap (·.dst)) jT fr' s'.dr s0.aL->Q .normal a' w')
  (hP:∀fr' t s' g' a' v w',kp fr' t s'=Z r->fr'.n=jT.n->cL g' (bB fr') a' w'->fJ s0 g0 w0 s' g' w'->eG (ops.toList.filterMap (·.dst)) jT fr' s'.dr s0.aL->aP g' w' (low t) v->Q (.panic [{v,recovered:=J}]) a' w') {rr:O Nat} (I:rr≠Y->∀o∈ops.toList,∀c,o.op≠.defer c) :
  ∀(n done:Nat)(fr:bU S)(s:bu S),ua E call ops.toList (wB ops.toList) (rK ops.toList) kp kk n done fr s=Z r->∀(m:Nat)(listed:Array Bool)(bl:Nat->Nat)(g:Gh)(a:Act)(w:World),
   r8 E ops jT s0 g0 w0 done fr s bl listed g a w->listed.toList.count J<=m->ad6 rr E.T.E.P ops Q m listed a w:=by
 intro n
 induction n with
 |zero=>intro done fr s h;cases h
 |succ n ih=>
  intro done fr s h;simp only[ua]at h;split at h
  ·
   rename_i i o hq
   let ⟨hm,K,hna,P,z⟩:=CS hq
   have C:At ops i o:=jv.1 hm
   replace P:¬antiP ops.toList i:=aae C P
   obtain⟨hd,h2⟩|⟨_,h2⟩:=ah h
   rotate_left
   .cases h2
   clear h;intro m listed bl g a w b F;obtain⟨hsk,h3⟩|⟨_,h2⟩:=ah h2
   .exact ih _ _ _ h3 m listed bl g a w (b.float e C K hna P (zV.1 z) hd (.inl ⟨hsk,rfl⟩)) F
   split at h2
   .cases h2
   .rename_i hg;rw[AP]at h2
    let ⟨t,e1,h3⟩:=vF.1 h2
    let ⟨t',hkb,h3⟩:=Uy h3
    exact ih _ _ _ h3 m listed bl g a w (b.float e C K hna P (zV.1 z) hd (.inr (.inl ⟨hg,t,e1,hkb⟩))) F
   .rename_i c hg
    let ⟨hok,h2⟩:=nZ h2
    rw[AP]at h2
    let ⟨t,e1,h3⟩:=vF.1 h2
    exact ih _ _ _ h3 m listed bl g a w (b.float e C K hna P (zV.1 z) hd (.inr (.inr ⟨c,t,hg,hok,e1,rfl⟩))) F
  .split at h
   ·
    rename_i i o hq
    let ⟨hm,K,hna,z⟩:=CT hq
    have C:At ops i o:=jv.1 hm;obtain⟨R,h2⟩|⟨_,h2⟩:=ah h
    rotate_left
    .cases h2
    clear h;split at h2
    .cases h2
    rename_i sQ s1 had;intro m
    induction m with
    |zero=>
     intro listed bl g a w b F;exfalso;obtain h1|h1:=b.ld i o C (Hl b.La F C)
     .simp_all
     simp_all
    |succ m ihm=>
     intro listed bl g a w b F;have hnl:¬mW listed i:=λhl=>by
      obtain h1|h1:=b.ld i o C hl
      .simp_all
      simp_all
     refine⟨λhr=>absurd (Jf e.bk b.La hr i o C) hnl,λj hj=>?_⟩
     let ⟨p,y,f,B⟩:=Fg b.La hj
     cases A:done.testBit j with
     |true=>exact b.aeo hE e y A f B (λg' a' w' d=>ihm _ bl g' a' w' d (count_set b.La y f F)) I|false=>
      cases haj:fe p with
      |true=>exact b.aep hE e y A haj f B (λO3 a' w' d=>ihm _ O3 g a' w' d (count_set b.La y f F)) I|false=>
       have hji:i=j:=by
        have:=gY.1 R (j,p) (jv.2 y);simp only[A,haj,Bool.false_or,m7]at this;obtain h1|h1:=this
        .simp_all
        .exact absurd (m8 e.bk (λi o hi hl=>b.Vo i o hi hl) y B i h1) hnl
       subst hji;have:o=p:=jU (C.symm.trans y);subst this;refine b.step hE AG e C K f B (λj hj=>?_) had (kp:=kp) (k:=λdone fr s=>ua E call ops.toList (wB ops.toList) (rK ops.toList) kp kk n done fr s) h2 (λdone' fr' s' g' a' w' hk d=>ih _ _ _ hk m _ bl g' a' w' d (count_set b.La C f F)) hP I;have:=zV.1 z j hj;rwa [Nc,m7]at this
   ·
    split at h
    .cases h
    rename_i sQ s1 had;obtain⟨R,h2⟩|⟨_,h2⟩:=ah h
    rotate_left
    .cases h2
    have hda:∀{j:Nat}{p:Oper},At ops j p->done.testBit j=W∨fe p=W:=λ{j p}y=>by
     have:=gY.1 R (j,p) (jv.2 y)
     grind
    have hend:∀(listed:Array Bool)(bl:Nat->Nat)(g:Gh)(a:Act)(w:World),r8 E ops jT s0 g0 w0 done fr s bl listed g a w->(∀j o,At ops j o->mW listed j)->Q .normal a w:=by
     intro listed bl g a w b hl;have hdp:∀{j:Nat}{p:Oper},At ops j p->done.testBit j=W∨(yd (rK ops.toList) done).testBit j=W:=λ{j p}y=>by cases A:done.testBit j with|true=>exact .inl rfl|false=>exact .inr ((vH done j).2 ⟨p,y,(hda y).resolve_left (by simp_all),A⟩)
     let ⟨g1,hA,hC⟩:=b.yC e had (λj hj=>by
       let ⟨p,y,_⟩:=(vH done j).1 hj
       exact⟨hl j p y,hj⟩) (λj hj x hx=>by
       let ⟨p,y,_⟩:=(vH done j).1 hj
       have hlt:=XT e.bk y x hx;have zf:=uP (ops:=ops) y;have Gz:At ops x (ops[x]'(by omega)):=by
        grind[At]
       exact hdp Gz)
     refine hN sQ s1 g1 a w h2 hC.n ⟨hC.Wf,hC.df,λk t hk=>?_⟩ hC.Bq ⟨λk v hk hv=>?_,by rw[hA.OO,hA.dr];exact b.fk.df⟩
     .rw[bT,fV]at hk;obtain⟨u,hu,rfl⟩:=hk;exact hC.tm k u hu λi o hi _=>⟨λ_=>by grind,λ_=>hl i o hi⟩
     .obtain h1|h1:=b.fk.tm k v hk hv
      .left
       rw[hA.old k λq hq _ YT=>hk (Ac.2 ⟨_,hJ (jv.1 hq),YT⟩)];exact h1
      .rw[hA.dr];exact .inr h1
    intro m
    induction m with
    |zero=>
     intro listed bl g a w b F;have hl:∀j o,At ops j o->mW listed j:=λj o C=>Hl b.La F C;refine⟨?_,hend listed bl g a w b hl⟩;cases hr:Region.ready .any ops listed with
     |nil=>rfl|cons j l=>
      let ⟨p,y,f,_⟩:=Fg b.La (j:=j) (by simp_all)
      grind
    |succ m ihm=>
     intro listed bl g a w b F;refine⟨λhr=>hend listed bl g a w b (Jf e.bk b.La hr),λj hj=>?_⟩
     let ⟨p,y,f,B⟩:=Fg b.La hj
     cases A:done.testBit j with|true=>exact b.aeo hE e y A f B (λg' a' w' d=>ihm _ bl g' a' w' d (count_set b.La y f F)) I|false=>exact b.aep hE e y A ((hda y).resolve_left (by simp_all)) f B (λO3 a' w' d=>ihm _ O3 g a' w' d (count_set b.La y f F)) I
def ag9(hE:fq E)(hm:E.T.E.P.follows .mixedOrders=W){call:fU S}(e:gA E.T.E.P call):r6 E call:=by
 intro id ops ω kp k r fr s u h hn g a w x p Q hN hP rr m;have y:rr≠Y->∀o∈ops.toList,∀c,o.op≠.defer c:=λhr=>SW (m hr);unfold ZQ at u;simp only[eK]at u
 let ⟨b1,b2,b3,b4,b5,b6⟩:=u
 have z:yO E ops fr.n:=⟨b1,b2,b3,b4,b5⟩;have A:s.fl=0:=xI b6;refine M8 hm ?_
 let ⟨B,C⟩:=p.grow (fl:=s.fl) (I:=g.bx) (w':={w with drawn:=w.drawn+1}) (λ_ h=>h) (λ_ h=>.inl h) p.bx (cu _) (λ_ _=>rfl) rfl rfl
 have n:fJ s g w s g {w with drawn:=w.drawn+1}:=
  ⟨B,⟨λ_ _ h=>h,λ_ _ _ _ h=>h,λ_ h=>h,cu _,λ_ _ _=>rfl,λo b d hO=>.inl ⟨o,d,hO⟩,λ_ h=>.inl h,rfl,rfl⟩,rfl,rfl,cu _,λ_ h=>h,λ_ _ _=>rfl,λ_ h=>h⟩
 have q:∀i,¬mW (Array.replicate ops.size J) i:=λi d=>by
  simp_all[mW,Array.getD]
 refine Rq hE e z (s0:=s) (g0:=g) (w0:=w) (kp:=kp) (kk:=k) (r:=r) (λl F K P w' h1 h2 h3 h4 h5=>hN l F K P w' h1 h2 h3 h4 ?_) (λl t F K P v w' h1 h2 h3 h4 h5 h6=>hP l t F K P v w' h1 h2 h3 h4 h5 h6) y _ 0 fr s h ops.size _ (λ_=>0) g a _
  ⟨by simp,rfl,hn,x.size,x.df.imp (λ_ _ R=>R.ext C p.bx) C.bV,λk t hk _=>?_,λi _ _ d=>absurd d (q i),λi _ _ hd=>by simp at hd,λi _ _ d=>absurd d (q i),λi _ _ hd=>by simp at hd,λi _ _ d=>absurd d (q i),λi _ d=>absurd d (q i),n,eG.refl _ _ _ _,A,λj _ hj=>by simp at hj⟩ (by simp)
 .exact h5
 .let ⟨v,hv,R⟩:=x.tm k (low t) (by rw[bT,hk];rfl)
  exact⟨v,hv,R.ext C p.bx⟩
def aeH{E:eT S}(e:fq E)(g:E.T.E.P.follows .mixedOrders=W){f:FuncId}{fn:Func}{c:Code}(a:E.T.E.TC f=Z fn)(h:fn.body=Z c)(n d:Nat)(ps:L Pk)(b:L Ck) :
  bH E.T.E.P f ⟨ps,b,E.pn,AS E n d f ps b⟩:=Ho e (λ_=>ag9 e g) a h n d ps b
end
end
section
def zD:Value->D
 |.slice Y 0 0=>.sl []|v=>.lit v
def WB(z:Value):L D:=z.cells.toList.map zD
theorem aix(v:Value):ahk (zD v) v:=by
 unfold zD;split
 .exact .inl ⟨rfl,rfl⟩
 .exact .inr rfl
theorem WL(z:Value):ZOk (WB z) z.cells:=by
 refine⟨by simp[WB],λj d v h1 h2=>?_⟩;simp only[WB,kN,fV]at h1;obtain⟨u,a,rfl⟩:=h1
 grind[aix]
def ahd:D->Nat
 |.lit (.string _)=>16|.sl _=>24|_=>8
def oD:L D->Nat
 |[]=>0|d::l=>Na (ahd d) (oD l)
def GX(agg:Bool)(a:L D):Nat:=bif agg then oD a else match a with
 |[.lit (.int .i8 _)]|[.lit (.int .u8 _)]|[.lit (.bool _)]=>1|[.lit (.int .i16 _)]|[.lit (.int .u16 _)]=>2|[.lit (.int .i32 _)]|[.lit (.int .u32 _)]=>4|a=>oD a
def TD(P:Program)(f:Field):O (Nat×Nat×Bool):=match P.info? f.type,P.underlying f.type with
 |some j,Z d=>Z (f.offset,j.size,ee d)|_,_=>Y
def fieldsOf(P:Program):L Field->O (L (Nat×Nat×Bool))
 |[]=>Z []|f::l=>match TD P f,fieldsOf P l with
  |some x,Z r=>Z (x::r)|_,_=>Y
def Dp{P:Program}:∀{l:L Field}{fs:L (Nat×Nat×Bool)},fieldsOf P l=Z fs->l.length=fs.length∧∀(k:Nat)off size ag,fs[k]?=Z (off,size,ag)->
  ∃f j b,l[k]?=Z f∧f.offset=off∧P.info? f.type=Z j∧j.size=size∧P.underlying f.type=Z b∧ag=ee b
 |[],fs,h=>by simp only[fieldsOf,gV]at h;subst h;exact⟨rfl,λk _ _ _ h=>by simp at h⟩
 |f::l,fs,h=>by
  simp[fieldsOf]at h;split at h
  .rename_i h1 h2;simp at h;subst h
   let ⟨c,e⟩:=Dp h2
   refine⟨by simp[c],λk off size ag a=>?_⟩;cases k with
   |zero=>
    simp at a;subst a;unfold TD at h1;split at h1
    .rename_i j d g i;obtain⟨rfl,rfl,rfl⟩:=h1;exact⟨f,j,d,rfl,rfl,g,rfl,i,rfl⟩
    .cases h1
   |succ k=>exact e k off size ag (by simpa using a)
  .cases h
def Yz(P:Program):TypeDesc->Kd
 |.int k=>.leaf (.int k)|.bool=>.leaf .bool|.string=>.leaf .str|.pointer _=>.ptr|.interface _=>.iface|.slice e=>match P.info? e,P.underlying e with
  |some j,Z d=>match j.zero with
   |some z=>bif Nl j.bytes 4096&&(Nt 0 j.size&&(Nl j.bytes (GX (ee d) (WB z))&&(Nl (GX (ee d) (WB z)) (Nat.mul 2 j.bytes)&&(Nt 0 j.bytes&&Nq (cB (WB z)) j.size))))then
     .slice j.size (ee d) (GX (ee d) (WB z)) (WB z)else .other
   |none=>.other
  |_,_=>.other
 |.struct fields=>match fieldsOf P fields.toList with
  |some a=>.struct a|none=>.other
 |.array len e=>match P.info? e,P.underlying e with
  |some j,Z d=>.array len j.size (ee d)|_,_=>.other
 |_=>.other
theorem acy(P:Program)(d:TypeDesc):al7 P (Yz P d) d:=by
 cases d with
 |slice e=>
  simp only[Yz];split
  .rename_i j d h1 h2;split
   .rename_i z b;cases a:(Nl j.bytes 4096&&(Nt 0 j.size&&(Nl j.bytes (GX (ee d) (WB z))&&(Nl (GX (ee d) (WB z)) (Nat.mul 2 j.bytes)&&(Nt 0 j.bytes&&Nq (cB (WB z)) j.size)))))with
    |false=>trivial|true=>
     simp only[eK]at a
     let ⟨c,f,g,i,l,o⟩:=a
     exact⟨e,j,d,z,rfl,h1,rfl,h2,rfl,b,WL z,g9 c,g9 f,g9 g,g9 i,g9 l,by grind[bR,Nat.eq_of_beq_eq_true]⟩
   .trivial
  .trivial
 |struct fields=>
  simp[Yz];split
  .rename_i h
   let ⟨m,p⟩:=Dp h
   exact⟨fields,rfl,by simpa using m,λk off size q r=>by
    grind⟩
  .trivial
 |array len e=>
  simp[Yz];split
  .rename_i j d h1 h2;exact⟨e,j,d,rfl,h1,rfl,h2,rfl⟩
  .trivial
 |int k=>exact rfl|bool=>exact rfl|string=>exact rfl|pointer e=>exact⟨e,rfl⟩|interface n=>exact⟨n,rfl⟩|_=>trivial
def YH:Value->Bool
 |.agg _=>W|_=>J
def abB(P:Program)(a:TypeId->L Lk)(t:TypeId):O TI:=match P.info? t,P.underlying t with
 |some x,Z d=>match x.zero with
  |some z=>bif (bif ee d then YH z else !(YH z))then Z ⟨x.size,ee d,WB z,bif ee d then a t else[],Yz P d⟩else Y|none=>Y
 |_,_=>Y
variable {P:Program}
def abA{a:TypeId->L Lk}(n:∀t,a t≠[]->ahO P t (a t)){t:TypeId}{i:TI}(h:abB P a t=Z i):n4 P t i:=by
 unfold abB at h;split at h
 .rename_i x d j k;split at h
  .rename_i z l;obtain⟨g,h⟩|⟨_,h⟩:=ah h
   .simp at h;subst h;refine⟨λb m=>?_,λo c=>?_,λp q e f=>?_,x,d,z,j,k,rfl,rfl,l,WL z,acy P d⟩
    .simp_all
    .rw[k]at c;cases c;rfl
    .rw[j]at e;cases e;rw[l]at f;cases f;refine⟨λb=>?_,λb=>?_⟩
     .dsimp only at b;rw[b,eP]at g;cases z<;>first|exact⟨_,rfl⟩|cases g
     .dsimp only at b;rw[b,ez]at g;cases z<;>first|rfl|cases g
   .cases h
  .cases h
 .cases h
end
section
def GI(P:Program)(b:TypeId->O (L Lk)):L Field->Nat->O (L Lk)
 |[],_=>Z []|f::l,off=>match b f.type,P.info? f.type with
  |some a,Z j=>bif (f.name != "_")&&(Nq f.offset off&&Nq j.size (cB a))then(GI P b l (Na off (cB a))).map λr=>a++r else Y|_,_=>Y
def Dn(P:Program):Nat->TypeId->O (L Lk)
 |0,_=>Y|d+1,t=>match P.underlying t with
  |some (.int k)=>Z [.int k]|some .bool=>Z [.bool]|some .string=>Z [.str]|some (.struct a)=>bif P.stoodInHeld t then Y else GI P (Dn P d) a.toList 0|_=>Y
def yq:∀{a b c d:L Value},a.length=b.length->nq (a++c) (b++d)=(nq a b&&nq c d)
 |[],[],c,d,_=>by rfl
 |x::a,y::b,c,d,h=>by simp[List.cons_append,nq,yq (a:=a) (b:=b) (by simpa using h),Bool.and_assoc]
 |[],_::_,_,_,h=>by simp at h
 |_::_,[],_,_,h=>by simp at h
def uy(a:L Lk)(l:L Value):Prop:=l.length=a.length∧∀(j:Nat)(k:Lk)(v:Value),a[j]?=Z k->l[j]?=Z v->Bh k v
theorem uy.split{a b:L Lk}{l:L Value}(h:uy (a++b) l):uy a (l.take a.length)∧uy b (l.drop a.length):=by
 have c:=h.1;refine⟨⟨by simp_all,λj k v h1 h2=>?_⟩,⟨by simp_all,λj k v h1 h2=>?_⟩⟩
 .exact h.2 j k v (by grind) (by grind)
 .exact h.2 (a.length+j) k v (by grind) (by simp_all)
section
variable {P:Program}
def Mk(P:Program)(t:TypeId)(l:L Value)(v:Value):Prop:=∃u,P.underlying t=Z u∧((ee u=W∧v=.agg l.toArray)∨(ee u=J∧l=[v]))
theorem adj{d:Nat}{t:TypeId}{a:L Lk}(h:Dn P d t=Z a):∃u,P.underlying t=Z u∧(ee u=W∨(ee u=J∧a.length=1)):=by
 cases d with
 |zero=>cases h
 |succ d=>
  simp[Dn]at h;split at h
  .grind
  .grind
  .grind
  .rename_i b;exact⟨_,b,.inl rfl⟩
  .cases h
theorem adi:∀(d:Nat)(t:TypeId)(z:L Lk),Dn P d t=Z z->∀(D:Nat),d<=D->∀(w:World)(e ys:L Value)(x y:Value),uy z e->uy z ys->Mk P t e x->Mk P t ys y->
  (Op.equalIn D t x y).run P w=.ok (nq e ys) w:=by
 intro d
 induction d with
 |zero=>intro t z h;cases h
 |succ d ih=>
  intro t z h D hD w e ys x y hx hy K R;obtain⟨D,rfl⟩:∃D',D=D'+1:=⟨D-1,by omega⟩;simp[Dn]at h
  let ⟨u,hu,K⟩:=K
  let ⟨u',g,R⟩:=R
  rw[hu]at g;cases g;rw[hu]at h;have one:∀{k:Lk},z=[k]->ee u=J->e=[x]∧ys=[y]∧Bh k x∧Bh k y:=by
   rintro k rfl ha
   obtain⟨h1,_⟩|⟨_,rfl⟩:=K
   .simp_all
   obtain⟨h1,_⟩|⟨_,rfl⟩:=R
   .simp_all
   exact⟨rfl,rfl,hx.2 0 _ _ rfl rfl,hy.2 0 _ _ rfl rfl⟩
  split at h
  .rename_i p;cases p;simp at h;obtain⟨rfl,rfl,⟨a,rfl⟩,⟨b,rfl⟩⟩:=one h.symm rfl
   grind[run_equalIn_int,nq,GR]
  .rename_i p;cases p;simp at h;obtain⟨rfl,rfl,⟨a,rfl⟩,⟨b,rfl⟩⟩:=one h.symm rfl
   grind[run_equalIn_bool',nq,GR]
  .rename_i p;cases p;simp at h;obtain⟨rfl,rfl,⟨a,rfl⟩,⟨b,rfl⟩⟩:=one h.symm rfl
   grind[run_equalIn_string,beq_toListBytes,nq,GR]
  .rename_i fs p;cases p;obtain⟨_,h⟩|⟨hst,h⟩:=ah h
   .cases h
   obtain⟨_,rfl⟩|⟨h1,_⟩:=K
   rotate_left
   .cases h1
   obtain⟨_,rfl⟩|⟨h1,_⟩:=R
   rotate_left
   .cases h1
   have hfo:P.fieldsOf t=fs:=by simp[Program.fieldsOf,hu]
   rw[run_equalIn_struct w D t _ _ (by grind) hst,hfo];have key:∀(l:L Field)(off:Nat)(i:L Lk),GI P (Dn P d) l off=Z i->uy i (e.drop off)->uy i (ys.drop off)->off<=e.length->off<=ys.length->
     (Op.eqFields D e.toArray ys.toArray l).run P w=.ok (nq (e.drop off) (ys.drop off)) w:=by
    intro l
    induction l with
    |nil=>intro off i h S ky _ _;simp only[GI,gV]at h;subst h;have e1:=xJ S.1;rw[e1];rfl
    |cons f l ihl=>
     intro off i h S ky ox oy;simp only[GI]at h;split at h
     .rename_i c j h1 h2;obtain⟨hb,h⟩|⟨_,h⟩:=ah h
      rotate_left
      .cases h
      simp only[eK]at hb
      let ⟨hnm,o,hsz⟩:=hb
      have o:=xI o;rw[bR]at hsz h;simp only[fV]at h;obtain⟨r,hr,rfl⟩:=h
      let ⟨q,B⟩:=S.split
      let ⟨s,C⟩:=ky.split
      rw[aeh]at B C;have hlx:=S.1;have hly:=ky.1;rw[Fm,List.length_drop]at hlx hly;have m:∀(A:L Value),uy c ((A.drop off).take c.length)->∃v,(part f.type A.toArray f.offset).run P w=.ok v w∧Mk P f.type ((A.drop off).take c.length) v:=by
       intro A hz
       let ⟨u,g,n⟩:=adj h1
       obtain n|⟨n,h1l⟩:=n
       .refine ⟨.agg ((A.drop off).take c.length).toArray,?_,u,g,.inl ⟨n,rfl⟩⟩
        simp_all[part,tw,dQ]
       .have E:=hz.1;rw[h1l]at E
        let ⟨v,hv⟩:=abM.1 E
        refine⟨v,?_,u,g,.inr ⟨n,by grind⟩⟩;have hvv:A[off]?=Z v:=by
         have:=pU (λl=>l[0]?) hv
         grind
        simp_all[part,tw]
      let ⟨v1,e1,m1⟩:=m e q
      let ⟨v2,e2,m2⟩:=m ys s
      have F:=ih f.type c h1 D (by omega) w _ _ v1 v2 q s m1 m2;have Tv:=ihl (off+c.length) r hr B C (by omega) (by omega);have I:f.name≠ "_":=by grind
      have hsx:e.drop off=(e.drop off).take c.length++e.drop (off+c.length):=by
       grind[List.drop_drop,List.take_append_drop]
      have hsy:ys.drop off=(ys.drop off).take c.length++ys.drop (off+c.length):=by
       grind[List.drop_drop,List.take_append_drop]
      rw[hsx,hsy,yq (by rw[q.1,s.1])];simp only[Op.eqFields,I,ne_eq,not_false_eq_true,ku,run_bind,e1,e2,F,andThen_ok];cases hq:nq ((e.drop off).take c.length) ((ys.drop off).take c.length)with|true=>grind|false=>simp
     .cases h
   grind
  .cases h
def Ou(P:Program)(t:TypeId):L Lk:=bif P.eqGuardType P.depth t then[]else match Dn P 100 t with
 |some a=>match P.underlying t with
  |some u=>bif ee u then a else[]|none=>[]
 |none=>[]
def Zv(t:TypeId)(h:Ou P t≠[]):ahO P t (Ou P t):=by
 unfold Ou at h ⊢;cases e:P.eqGuardType P.depth t with
 |true=>simp_all|false=>
  cases f:Dn P 100 t with
  |none=>simp_all|some g=>
   cases c:P.underlying t with
   |none=>simp_all|some u=>
    dsimp only at h ⊢;cases d:ee u with
    |false=>simp_all|true=>
     intro w op x y a b i l m n;refine⟨run_eqGuard_agg w op t x y a b e,?_⟩;have:=adi 100 t g f Op.maxDepth (by decide) w a.toList b.toList (.agg a) (.agg b) ⟨by simpa using i,λj k v h1 h2=>m j k v h1 (by simpa using h2)⟩ ⟨by simpa using l,λj k v h1 h2=>n j k v h1 (by simpa using h2)⟩
      ⟨u,c,.inl ⟨d,rfl⟩⟩ ⟨u,c,.inl ⟨d,rfl⟩⟩
     exact this
end
end
section
def cV{l:L Ty}(h:l.all (λt=>!(j4 t))=W):∀t∈l,j4 t=J:=by
 simp_all
namespace Tr
variable {α β:Type}
def mapKey(f:Nat->α->β):Tr α->Tr β
 |.nil=>.nil|.node v l r=>.node (match v with|some x=>Z (f 0 x)|none=>Y) (mapKey (λj=>f (Ns (Nat.mul 2 j))) l) (mapKey (λj=>f (Ns (Ns (Nat.mul 2 j)))) r)
theorem zh:∀(t:Tr α)(f:Nat->α->β)(k:Nat),(t.mapKey f).get k=(t.get k).map (f k)
 |.nil,f,k=>by rfl
 |.node v l r,f,0=>by simp[mapKey,Tr.jd];cases v<;>rfl
 |.node v l r,f,k+1=>by
  simp only[mapKey,Tr.dI];by_cases a:k%2=0
  .rw[cn a,cn a,zh l];have:Ns (Nat.mul 2 (k/2))=k+1:=by grind
   rw[this]
  .rw[bJ a,bJ a,zh r];have:Ns (Ns (Nat.mul 2 (k/2)))=k+1:=by grind
   rw[this]
theorem pg{t:Tr α}{f g:Nat->α->β}(h:t.mapKey f=t.mapKey g){k:Nat}{v:α}(a:t.get k=Z v):f k v=g k v:=by
 have:=pU (λt=>t.get k) h
 grind[zh]
end Tr
end
section
def Tk:L (String×FuncId)->String->O FuncId
 |[],_=>Y|p::l,m=>bif p.1==m then Z p.2 else Tk l m
def mkE(P:Program)(PX:Tr TI)(Ur:Tr Ty)(mtT:Tr MT)(vM:Tr (L (String×FuncId)))(qj:Tr Func)(a:Nat->O Nat):gi:=
 ⟨⟨P,λk=>PX.get k,λk=>qj.get k,λ_=>Y⟩,λk=>Ur.get k,λk=>mtT.get k,λt m=>match vM.get t with|some l=>Tk l m|none=>Y,a⟩
section
variable (S:Sg)(P:Program)
def nB(τ:Ty):L D:=bif j4 τ then(match enc S τ (S.zero τ)with|.agg l=>l|_=>[])else[enc S τ (S.zero τ)]
def KH(τ:Ty)(i:TI):Kd×Bool×Nat×Bool×L D:=match τ with
 |.int k=>(.leaf (.int k),J,1,W,nB S τ)|.bool=>(.leaf .bool,J,1,W,nB S τ)|.str=>(.leaf .str,J,1,W,nB S τ)|.sl e=>(.slice (S.width e) (j4 e) (zu S e) (nB S e),J,1,W,nB S τ)|.st n=>(i.kd,W,cB (S.fs n),W,nB S τ)|.cT _=>(.iface,J,1,W,nB S τ)
def KG(τ:Ty)(i:TI):Kd×Bool×Nat×Bool×L D:=(i.kd,i.agg,i.size,(match τ with|.sl e=>Nt 0 (S.width e)|_=>W),i.zero)
theorem EJ(τ:Ty):bif j4 τ then D.agg (nB S τ)=enc S τ (S.zero τ)else nB S τ=[enc S τ (S.zero τ)]:=by cases τ<;>rfl
theorem afp{τ:Ty}{i:TI}(h:KH S τ i=KG S τ i):yE S i τ∧RM S i τ:=by
 have a:i.zero=nB S τ->RM S i τ:=by
  grind[RM,EJ]
 cases τ with
 |int k=>
  simp only[KH,KG,fP]at h
  let ⟨h1,h2,h3,_,h5⟩:=h
  exact⟨⟨h1.symm,h2.symm,h3.symm⟩,a h5.symm⟩
 |bool=>
  simp only[KH,KG,fP]at h
  let ⟨h1,h2,h3,_,h5⟩:=h
  exact⟨⟨h1.symm,h2.symm,h3.symm⟩,a h5.symm⟩
 |str=>
  simp only[KH,KG,fP]at h
  let ⟨h1,h2,h3,_,h5⟩:=h
  exact⟨⟨h1.symm,h2.symm,h3.symm⟩,a h5.symm⟩
 |sl e=>
  simp only[KH,KG,fP]at h
  let ⟨h1,h2,h3,h4,h5⟩:=h
  exact⟨⟨⟨_,h1.symm,EJ S e⟩,h2.symm,h3.symm,g9 h4.symm⟩,a h5.symm⟩
 |st n=>
  simp only[KH,KG,fP]at h
  let ⟨_,h2,h3,_,h5⟩:=h
  exact⟨⟨h2.symm,by rw[<-h3,bR]⟩,a h5.symm⟩
 |cT n=>
  simp only[KH,KG,fP]at h
  let ⟨h1,h2,h3,_,h5⟩:=h
  exact⟨⟨h1.symm,h2.symm,h3.symm⟩,a h5.symm⟩
def ai1:Ty->TypeDesc->Bool
 |.int k,.int j=>od j k|.bool,.bool=>W|.str,.string=>W|_,_=>J
def acw{t:Ty}{d:TypeDesc}(h:ai1 t d=W):iU t d:=by
 cases t<;>cases d<;>first|exact rfl|(cases h;done)|skip
 rename_i k j;have:j=k:=by cases j<;>cases k<;>first|rfl|cases h
 rw[this];exact rfl
def mtB(E:gi)(t:Nat)(m:MT):Bool:=match E.E.P.underlying t with
 |some (.map a el)=>Nq el m.el&&((match E.E.P.underlying a with|some d=>ai1 m.kt d|none=>J)&&((match E.E.P.info? m.el with|some x=>x.zero.isSome|none=>J)&&
   (match m.vt with|some b=>(match E.ty m.el with|some c=>tc c b|none=>J)&&(E.E.ti m.el).isSome|none=>W)))
 |_=>J
theorem afJ{E:gi}{t:Nat}{m:MT}(h:mtB E t m=W):∃a d,E.E.P.underlying t=Z (.map a m.el)∧E.E.P.underlying a=Z d∧iU m.kt d∧(∃x z,E.E.P.info? m.el=Z x∧x.zero=Z z)∧
  ∀b,m.vt=Z b->E.ty m.el=Z b∧∃i,E.E.ti m.el=Z i:=by
 unfold mtB at h;split at h
 .rename_i a el f;simp only[eK]at h
  let ⟨h1,h2,h3,h4⟩:=h
  have:=xI h1;subst this;cases e:E.E.P.underlying a with
  |none=>simp_all|some d=>
   rw[e]at h2;cases g:E.E.P.info? m.el with
   |none=>simp_all|some x=>
    rw[g]at h3
    let ⟨z,j⟩:=aei.1 h3
    refine⟨a,d,f,e,acw h2,⟨x,z,rfl,j⟩,λb c=>?_⟩;rw[c]at h4
    grind[jN,Option.isSome_iff_exists]
 .cases h
def YG:TypeDesc->Bool
 |.pointer _=>W|_=>J
def Tj(P:Program)(t:Nat)(p:String×FuncId):Bool:=match P.info? t,P.underlying t with
 |some x,Z d=>match x.methods.find? (·.name==p.1)with
  |some a=>match a.path.toList,a.func with
   |[],Z (f,b)=>Nq f p.2&&(bif b then YG d else !(YG d))|_,_=>J
  |none=>J
 |_,_=>J
def Yi{P:Program}{t:Nat}{p:String×FuncId}(h:Tj P t p=W):∃x a d,P.info? t=Z x∧x.methods.find? (·.name==p.1)=Z a∧a.path=#[]∧P.underlying t=Z d∧
  ((a.func=Z (p.2,J)∧∀e,d≠.pointer e)∨(a.func=Z (p.2,W)∧∃e,d=.pointer e)):=by
 unfold Tj at h;split at h
 .rename_i x d c f;split at h
  .rename_i a g;split at h
   .rename_i b h1 h2;rw[eK]at h;have:=xI h.1;subst this;refine⟨x,a,d,c,g,by simpa using h1,f,?_⟩;cases b with
    |false=>refine .inl ⟨h2,λe i=>?_⟩;subst i;exact Bool.noConfusion h.2|true=>
     refine .inr ⟨h2,?_⟩;cases d<;>first|exact⟨_,rfl⟩|exact Bool.noConfusion h.2
   .cases h
  .cases h
 .cases h
theorem JA:∀{l:L (String×FuncId)}{m:String}{f:FuncId},Tk l m=Z f->(m,f)∈l
 |[],_,_,h=>by cases h
 |p::l,m,f,h=>by
  obtain⟨a,h⟩|⟨_,h⟩:=ah h
  .grind
  .exact iB _ (JA h)
end
theorem ZE{S:Sg}(o:fO S){P:Program}{PX:Tr TI}{Ur:Tr Ty}{mtT:Tr MT}{vM:Tr (L (String×FuncId))}{qj:Tr Func}{d:Nat->O Nat}
  (h1:PX.mapKey (λk _=>abB P (Ou P) k)=PX.mapKey λ_ i=>Z i)
  (h2:qj.mapKey (λk _=>P.funcs[k]?)=qj.mapKey λ_ f=>Z f)
  (h3:Ur.mapKey (λk τ=>(PX.get k).map (KH S τ))=Ur.mapKey λk τ=>(PX.get k).map (KG S τ))
  (h4:qj.mapKey (λ_ f=>f.name== "runtime.NumGoroutine")=qj.mapKey λ_ _=>J)
  (h5:mtT.mapKey (λk m=>mtB (mkE P PX Ur mtT vM qj d) k m)=mtT.mapKey λ_ _=>W)
  (h6:vM.mapKey (λk l=>l.all (Tj P k))=vM.mapKey λ_ _=>W) (IK:FuncId->O (me S)) (sh:FuncId->Nat->O LSh) (p:∀f c,IK f=Z c->bH P f c) (q:Bool) (r:FuncId->O JSh) :
  fq (⟨mkE P PX Ur mtT vM qj d,IK,sh,q,r⟩:eT S):=by
 have a:∀k i τ,PX.get k=Z i->Ur.get k=Z τ->yE S i τ∧RM S i τ:=by
  grind[Tr.pg,afp]
 refine⟨o,⟨λk i e=>?_,λf fn g=>?_⟩,⟨λk i τ e j=>(a k i τ e j).1⟩,λf fn g=>Tr.pg h4 g,λ_=>rfl,⟨λk i τ e j=>(a k i τ e j).2,λt m s=>?_,λt u f g=>?_⟩,p⟩
 .exact abA (λt h=>Zv t h) (Tr.pg h1 e)
 .exact Tr.pg h2 g
 .exact afJ (Tr.pg h5 s)
 .have b:(match vM.get t with|some l=>Tk l u|none=>Y)=Z f:=g;split at b
  .rename_i v;have n:=Tr.pg h6 v;rw[gY]at n;exact Yi (n _ (JA b))
  .cases b
end
section
def cC{R P α:Type}(x:Rx R P)(f:R->O α)(g:P->O α):O α:=match x with
 |.ok r=>f r|.hU p=>g p
def bp{X R B P α:Type}(o:LO X R B P)(f:Nat->X->O α)(g:B->R->O α)(h:B->P->O α):O α:=match o with
 |.next _=>Y|.out j x=>f j x|.ret b r=>g b r|.hU b p=>h b p
def ck{X R B P α:Type}(o:LO X R B P)(e:X->O α)(f:Nat->X->O α)(g:B->R->O α)(h:B->P->O α):O α:=match o with
 |.next x=>e x|.out j x=>f j x|.ret b r=>g b r|.hU b p=>h b p
def KJ{α:Type}(n:Nat)(a:α):L α:=List.replicate n a
def Ec(a b:Bool):Bool:=a&&b
def adI(a b:Nat):Nat:=Na a b
def trL{α:Type}:L (Nat×α)->Tr α
 |[]=>.nil|p::l=>(trL l).set aR p.1 p.2
def Xg:Code->L (Code×Code)
 |.seq a b=>Xg a++Xg b|.cond _ a b=>Xg a++Xg b|.block _ b=>Xg b|.loop b=>Xg b|.rangeFunc _ _ a b=>(a,b)::(Xg a++Xg b)|.scope b=>Xg b|_=>[]
def rgN(l:L (Code×Code))(i:Nat):Code×Code:=match l with
 |[]=>(.skip,.skip)|a::l=>match i with
  |0=>a|i+1=>rgN l i
def lpR(a n:Nat)(ps:L Nat)(c:Code×Code)(l:L (Nat×V S)):ux S:=.lp ⟨.ready,Y,a,Oo (uF c.1++uF c.2) {n:=n,tm:=trL l},ps,c.1,c.2⟩
def PZ(l:L (FuncId×me S))(f:FuncId):O (me S):=match l with
 |[]=>Y|p::l=>bif Nq p.1 f then Z p.2 else PZ l f
def OkL(P:Program):L (FuncId×me S)->Prop
 |[]=>True|p::l=>bH P p.1 p.2∧OkL P l
def SP{P:Program}:∀{l:L (FuncId×me S)},OkL P l->∀f c,PZ l f=Z c->bH P f c
 |[],_,_,_,h=>by cases h
 |p::l,⟨d,a⟩,f,c,h=>by
  unfold PZ at h;cases b:Nq p.1 f with
  |true=>
   simp_all
  |false=>rw[b]at h;exact SP a f c h
variable {P:Program}
def cw{f:FuncId}{ps:L Pk}{a:L Ck}{b:Bool}(h:lN P f):bH P f (⟨ps,a,b,λ_=>Y⟩:me S):=
 ⟨h,λ_ _ h=>by cases h⟩
def sZ{α:Type}(b:L α×U):IZ (isE b.1) (Z (([],()),())) (Z (b,()))=Z (b,()):=by
 let ⟨l,u⟩:=b
 cases l with|nil=>simp[IZ]|cons a l=>rfl
end
section
def mT(S:Sg):Ty->L Ty
 |.st m=>S.fs m| τ=>[τ]
def SJ:L Ty->L Ty->Bool
 |[],[]=>W|a::l,b::m=>tc a b&&SJ l m|_,_=>J
def MN:∀{l m:L Ty},SJ l m=W->l=m
 |[],[],_=>rfl|a::l,b::m,h=>by simp[SJ,eK]at h;rw[jN h.1,MN h.2]
 |[],_::_,h=>by cases h
 |_::_,[],h=>by cases h
def EA(S:Sg)(P:Program)(ty:TypeId->O Ty):L Field->Nat->L Ty->Bool
 |[],_,[]=>W|f::l,off,a=>match ty f.type with
  |some τ=>Nq f.offset off&&(Nq (P.cellsOf f.type) (cB (mT S τ))&&(SJ (a.take (cB (mT S τ))) (mT S τ)&&EA S P ty l (off+cB (mT S τ)) (a.drop (cB (mT S τ)))))|none=>J
 |_,_,_=>J
def rdT(S:Sg)(P:Program)(ty:TypeId->O Ty)(t:TypeId)(τ:Ty):Bool:=match P.underlying t,τ with
 |some .bool,.bool=>W|some (.int k),.int c=>od k c|some .string,.str=>W|some (.slice e),.sl a=>match ty e with
  |some b=>tc b a&&(Nq (P.cellsOf e) (S.width a)&&(Nl (zu S a) (Nat.mul 2 (P.bytesOf e))&&Nt 0 (S.width a)))|none=>J
 |some (.struct d),.st n=>Nq (P.cellsOf t) (cB (S.fs n))&&EA S P ty d.toList 0 (S.fs n)|_,_=>J
section
variable {P:Program}{w:World}{I:Nat->Prop}
def WA(I:Nat->Prop)(w:World)(ds:L D)(vs:L Value):Prop:=PW (ew I w) ds vs
theorem mapM_some{α β:Type}{f:α->O β}:∀{l:L α}{r:L β},l.mapM f=Z r->r.length=l.length∧∀(i:Nat)(a:α),l[i]?=Z a->∃b,r[i]?=Z b∧f a=Z b
 |[],r,h=>by
  simp_all
 |x::l,r,h=>by
  simp[List.mapM_cons,Option.bind_eq_bind,vF,Option.pure_def,gV]at h;obtain⟨b,d,e,c,rfl⟩:=h
  let ⟨h1,h2⟩:=mapM_some c
  grind
def Rw{a:Addr}{n:Nat}{vs:L Value}(h:w.cells? 0 a n=Z vs):vs.length=n∧∀j,j<n->∃v,vs[j]?=Z v∧w.cell? (a.add j)=Z v:=by
 unfold World.cells? at h
 let ⟨h1,h2⟩:=mapM_some h
 rw[List.length_range]at h1;refine⟨h1,λj b=>?_⟩;exact h2 j j (by rw[List.getElem?_range b])
theorem adB{a:Addr}{v:Value}(h:w.cell? a=Z v):a.block<w.heap.size:=by
 grind[World.cell?]
theorem Dy{α:Type}(p:Nat->α->Prop):∀n,(∀i,i<n->∃x,p i x)->∃l:L α,l.length=n∧∀i x,l[i]?=Z x->p i x
 |0,_=>⟨[],rfl,λi x h=>by simp at h⟩
 |n+1,h=>by
  let ⟨l,h1,h2⟩:=Dy p n (λi a=>h i (by omega))
  let ⟨x,b⟩:=h n (by omega)
  refine⟨l++[x],by simp[h1],λi y a=>?_⟩
  grind
theorem Fu{d:D}{v:Value}(h:ew I w d v):WA I w [d] [v]:=⟨rfl,λj a b h1 h2=>by
 grind⟩
variable {H:Type}{OI:TypeId×Value->H}{held:Bool}
theorem trod_bool{fuel:Nat}{t:TypeId}{cs:L Value}{d:DataW H}{ps:L MemPlace}(a:P.underlying t=Z .bool)(h:DataW.trod OI P w 0 (λ_=>W) held fuel t cs=Z (d,ps)):∃b,cs=[.bool b]:=by
 cases fuel with
 |zero=>simp[DataW.trod]at h|succ n=>
  obtain _|⟨c,_|⟨e,cs⟩⟩:=cs
  .simp[DataW.trod,a]at h
  .cases c<;>simp[DataW.trod,a]at h
   grind
  .simp[DataW.trod,a]at h
def trod_int{fuel:Nat}{t:TypeId}{k:IntKind}{cs:L Value}{d:DataW H}{ps:L MemPlace}(a:P.underlying t=Z (.int k))(h:DataW.trod OI P w 0 (λ_=>W) held fuel t cs=Z (d,ps)):∃n,cs=[.int k n]:=by
 cases fuel with
 |zero=>simp[DataW.trod]at h|succ n=>
  obtain _|⟨c,_|⟨b,cs⟩⟩:=cs
  .simp[DataW.trod,a]at h
  .cases c<;>simp[DataW.trod,a]at h
   simp_all
  .simp[DataW.trod,a]at h
theorem WY{fuel:Nat}{t:TypeId}{cs:L Value}{d:DataW H}{ps:L MemPlace}(a:P.underlying t=Z .string)(h:DataW.trod OI P w 0 (λ_=>W) held fuel t cs=Z (d,ps)):∃b,cs=[.string b]:=by
 cases fuel with
 |zero=>simp[DataW.trod]at h|succ n=>
  obtain _|⟨c,_|⟨e,cs⟩⟩:=cs
  .simp[DataW.trod,a]at h
  .cases c<;>simp[DataW.trod,a]at h
   grind
  .simp[DataW.trod,a]at h
theorem trod_slice{fuel:Nat}{t e:TypeId}{cs:L Value}{d:DataW H}{ps:L MemPlace}(g:P.underlying t=Z (.slice e))(h:DataW.trod OI P w 0 (λ_=>W) held (fuel+1) t cs=Z (d,ps)) :
  cs=[.slice Y 0 0]∨∃(a:Addr)(len cap:Nat)(f rest:L (DataW H)),cs=[.slice (Z a) len cap]∧len<=cap∧d=.slice f rest∧f.length=len∧
   ∀i,i<len->∃vs j k,w.cells? 0 (a.add (i*P.cellsOf e)) (P.cellsOf e)=Z vs∧DataW.trod OI P w 0 (λ_=>W) held fuel e vs=Z (j,k)∧f[i]?=Z j:=by
 obtain _|⟨c,_|⟨o,cs⟩⟩:=cs
 .simp[DataW.trod,g]at h
 .cases c with
  |slice a len cap=>
   cases a with
   |none=>
    obtain _|len:=len
    .obtain _|cap:=cap
     .exact .inl rfl
     .simp[DataW.trod,g]at h
    .simp[DataW.trod,g]at h
   |some a=>
    right
    simp only[DataW.trod,g]at h;split at h
    .rename_i l;rw[vF]at h
     let ⟨m,h1,h2⟩:=h
     rw[fV]at h2
     let ⟨rest,_,h3⟩:=h2
     obtain⟨rfl,_⟩:=h3
     let ⟨h4,h5⟩:=mapM_some h1
     refine⟨a,len,cap,_,_,rfl,l.2.1,rfl,by simpa using h4,λi n=>?_⟩
     let ⟨b,p,q⟩:=h5 i i (by rw[List.getElem?_range n])
     grind[Option.bind_eq_some_iff]
    .cases h
  |_=>simp[DataW.trod,g]at h
 .simp[DataW.trod,g]at h
theorem trod_struct{fuel:Nat}{t:TypeId}{fs:Array Field}{cs:L Value}{d:DataW H}{ps:L MemPlace}(b:P.underlying t=Z (.struct fs))(h:DataW.trod OI P w 0 (λ_=>W) held (fuel+1) t cs=Z (d,ps)) :
  cs.length=P.cellsOf t∧∃parts:L (DataW H),d=.agg parts∧parts.length=fs.toList.length∧
   ∀(i:Nat)(f:Field),fs.toList[i]?=Z f->∃a c,DataW.trod OI P w 0 (λ_=>W) held fuel f.type ((cs.drop f.offset).take (P.cellsOf f.type))=Z (a,c)∧parts[i]?=Z a:=by
 simp only[DataW.trod,b]at h;split at h
 .rw[fV]at h
  let ⟨e,h1,h2⟩:=h
  obtain⟨rfl,_⟩:=h2
  let ⟨h4,h5⟩:=mapM_some h1
  grind
 .cases h
def VY(a:fO S):∀(τ:Ty)(x:den S.A τ),∃h:mG S.A (mT S τ),gU S (mT S τ) h=(enc S τ x).cells
 |.st n,x=>⟨S.get n x,by exact(a.cells n x).symm⟩
 |.int k,x=>⟨(x,()),rfl⟩|.bool,x=>⟨(x,()),rfl⟩|.str,x=>⟨(x,()),rfl⟩|.sl e,x=>⟨(x,()),rfl⟩|.cT n,x=>⟨(x,()),(nk _).symm⟩
def Du:∀(l m:L Ty)(h:mG S.A l)(k:mG S.A m),∃r:mG S.A (l++m),gU S (l++m) r=gU S l h++gU S m k
 |[],m,_,k=>⟨k,rfl⟩|t::l,m,h,k=>by
  let ⟨r,a⟩:=Du l m h.2 k
  exact⟨(h.1,r),by simp[List.cons_append,gU,a]⟩
theorem Is{ts:L TypeId}{ds:L (DataW H)}(h:(DataW.weightsEach P ts ds).all (·<=reachBytes)=W):∀(i:Nat)(t:TypeId)(d:DataW H),ts[i]?=Z t->ds[i]?=Z d->(d.weights P t).all (·<=reachBytes)=W:=by
 induction ts generalizing ds with
 |nil=>simp_all|cons a ts c=>
  intro i t d h1 h2;cases ds with
  |nil=>simp at h2|cons b ds=>
   simp only[DataW.weightsEach,No,eK]at h
   grind
theorem Kq{e:TypeId}{ds:L (DataW H)}(h:(DataW.weightsAll P e ds).all (·<=reachBytes)=W):∀d∈ds,(d.weights P e).all (·<=reachBytes)=W:=by
 induction ds with
 |nil=>simp_all|cons a ds b=>
  simp only[DataW.weightsAll,No,eK]at h
  grind
theorem MQ(y:fO S){ty:TypeId->O Ty}{fuel:Nat}{cs:L Value}
  (z:∀(t:TypeId)(τ:Ty)(cs:L Value)(d:DataW H)(ps:L MemPlace),ty t=Z τ->DataW.trod OI P w 0 (λ_=>W) held fuel t cs=Z (d,ps)->(d.weights P t).all (·<=reachBytes)=W->∃x:den S.A τ,WA I w (enc S τ x).cells cs) :
  ∀(fs:L Field)(off:Nat)(ts:L Ty)(parts:L (DataW H)),EA S P ty fs off ts=W->off+ts.length=cs.length->(DataW.weightsEach P (fs.map (·.type)) parts).all (·<=reachBytes)=W->parts.length=fs.length->
   (∀(i:Nat)(f:Field),fs[i]?=Z f->∃c e,DataW.trod OI P w 0 (λ_=>W) held fuel f.type ((cs.drop f.offset).take (P.cellsOf f.type))=Z (c,e)∧parts[i]?=Z c)->
   ∃h:mG S.A ts,WA I w (gU S ts h) (cs.drop off):=by
 intro fs
 induction fs with
 |nil=>
  intro off ts parts h1 h2 _ _ _;cases ts with|nil=>exact⟨(),by simp[gU];rw[List.drop_eq_nil_of_le (by grind)];exact⟨rfl,λj a b h=>by simp at h⟩⟩|cons t ts=>cases h1
 |cons f fs g=>
  intro off ts parts h1 h2 h3 h4 h5;simp[EA]at h1;split at h1;rotate_left
  .cases h1
  rename_i τ A;simp only[eK,bR]at h1
  let ⟨l,n,o,h1⟩:=h1
  have l:=xI l;have n:=xI n;have o:=MN o
  let ⟨d,e,B,q⟩:=h5 0 f rfl
  cases parts with
  |nil=>simp at q|cons p parts=>
  simp at q;subst q;have C:=Is h3 0 f.type p rfl rfl
  let ⟨x,s⟩:=z _ _ _ _ _ A B C
  let ⟨k,E⟩:=VY y τ x
  simp only[kW,DataW.weightsEach,No,eK]at h3
  let ⟨r,F⟩:=g (off+(mT S τ).length) (ts.drop (mT S τ).length) parts h1 (by grind) h3.2 (by simpa using h4) (λi f K=>by
   let ⟨c,e,q1,q2⟩:=h5 (i+1) f (by simpa using K)
   simp_all)
  let ⟨m,R⟩:=Du (mT S τ) (ts.drop (mT S τ).length) k r
  have hts:mT S τ++ts.drop (mT S τ).length=ts:=by
   conv=>rhs;rw[<-abN (mT S τ).length ts]
   rw[o]
  rw[l,n]at s;rw[<-E]at s;have u:cs.drop off=(cs.drop off).take (mT S τ).length++cs.drop (off+(mT S τ).length):=by rw[<-aeh,abN]
  have v:∃m:mG S.A (mT S τ++ts.drop (mT S τ).length),WA I w (gU S _ m) (cs.drop off):=⟨m,by
   rw[R,u];exact PW.append s F⟩
  grind
theorem aby(u:fO S){ty:TypeId->O Ty}(hR:∀t τ,ty t=Z τ->rdT S P ty t τ=W)(hI:∀b,b<w.heap.size->I b) :
  ∀(fuel:Nat)(t:TypeId)(τ:Ty)(cs:L Value)(d:DataW H)(ps:L MemPlace),ty t=Z τ->DataW.trod OI P w 0 (λ_=>W) held fuel t cs=Z (d,ps)->(d.weights P t).all (·<=reachBytes)=W->
   ∃x:den S.A τ,WA I w (enc S τ x).cells cs:=by
 intro fuel
 induction fuel with
 |zero=>simp_all[DataW.trod]|succ fuel ih=>
  intro t τ cs d ps hτ h g;have m:=hR t τ hτ;unfold rdT at m;split at m
  .rename_i l;obtain⟨b,rfl⟩:=trod_bool l h;exact⟨b,Fu (.lit _)⟩
  .rename_i k k' l;obtain⟨n,rfl⟩:=trod_int l h;obtain rfl:k=k':=by cases k<;>cases k'<;>first|rfl|cases m
   exact⟨n,Fu (.lit _)⟩
  .rename_i l;obtain⟨b,rfl⟩:=WY l h;refine⟨ofBytes b,Fu ?_⟩;have:enc S .str (ofBytes b)=.lit (.string b):=by rfl
   exact .lit _
  .rename_i e τ' l;split at m;rotate_left
   .cases m
   rename_i f hτe;simp only[eK]at m
   let ⟨h1,h2,h3,h4⟩:=m
   obtain rfl:=jN h1;have h2:=xI h2;have h3:=g9 h3;have h4:0<S.width f:=g9 h4;obtain rfl|⟨a,len,cap,B,rest,rfl,hlc,rfl,C,q⟩:=trod_slice l h
   .refine ⟨[],Fu ?_⟩;exact .sl [] Y 0 0 (λ_ _=>undef) (cu _) (λd o=>by cases o) (λd o=>by cases o) (λh=>absurd rfl h) (λi j d c o=>by simp at o)
   .simp only[DataW.weights,l,List.all_cons,No,eK,nP]at g;have hev:=Kq g.2.1
    let ⟨p,E,F⟩:=Dy (λi(x:den S.A f)=>∃K,w.cells? 0 (a.add (i*P.cellsOf e)) (P.cellsOf e)=Z K∧WA I w (enc S f x).cells K) len (λi hi=>by
     grind)
    have s:∀(i j:Nat)(x:den S.A f)(c:D),p[i]?=Z x->(enc S f x).cells[j]?=Z c->∃v,w.cell? (a.add (i*S.width f+j))=Z v∧ew I w c v:=by
     intro i j x c R y
     let ⟨K,q1,q2⟩:=F i x R
     let ⟨q3,q4⟩:=Rw q1
     have hj:j<P.cellsOf e:=by
      grind[kG]
     let ⟨v,hv,z⟩:=q4 j hj
     rw[Addr.add_add,h2]at z;exact⟨v,z,q2.2 j c v y hv⟩
    refine⟨p,Fu ?_⟩;have MF:enc S (.sl f) p=.sl (p.map (enc S f)):=rfl;rw[MF];have r:(p.map (enc S f)).length=len:=by simp[E]
    rw[show(Value.slice (Z a) len cap)=.slice (Z a) (p.map (enc S f)).length cap by rw[r]];refine .sl _ (Z a) cap (S.width f) (λi j=>(w.cell? (a.add (i*S.width f+j))).getD undef) (by omega) (sB u p) (λd o=>?_) (λhne=>?_) (λi j d c o y=>?_)
    .obtain ⟨x,_,rfl⟩:=nO.1 o;rw[Cc u,r];have hw1:=g.1;rw[C]at hw1;have hb:len*zu S f<=2*(len*P.bytesOf e):=by
      simp_all[Nat.mul_le_mul_left,Nat.mul_left_comm]
     grind[reachBytes]
    .have A:0<p.length:=by
      grind
     obtain⟨x,R⟩:∃x,p[0]?=Z x:=⟨_,iZ A⟩;obtain⟨c,y⟩:∃c,(enc S f x).cells[0]?=Z c:=⟨_,iZ (by rw[kG u];exact h4)⟩
     let ⟨v,hv,_⟩:=s 0 0 x c R y
     refine⟨a,rfl,hI _ ?_,λi j d c o y=>?_⟩
     .have:=adB hv;rwa [l8]at this
     grind
    grind
  .rename_i fs n l;simp only[eK]at m
   let ⟨h1,h2⟩:=m
   have h1:=xI h1;rw[bR]at h1;obtain⟨hl,parts,rfl,MG,q⟩:=trod_struct l h;simp only[DataW.weights,l]at g
   let ⟨k,hk⟩:=MQ u ih fs.toList 0 (S.fs n) parts h2 (by omega) g MG q
   refine⟨S.Yh n k,?_⟩;simp[enc,D.cells];rw[show S.cells n (S.Yh n k)=_ from u.cells n _,u.vY];simpa using hk
  .cases m
end
end
end TL
end
end
