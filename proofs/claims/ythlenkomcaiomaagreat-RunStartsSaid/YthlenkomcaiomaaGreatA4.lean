import Derived.Laws.StructEq
import Derived.Room.BridgeHanded
import Derived.DataElems
import Derived.WideKeyArgs
import Derived.SizedLaws
import Derived.RowKit3
import Derived.Test.YthlenkomcaiomaaGreatProg
import Derived.KernelRfl
import Derived.Test.YthlenkomcaiomaaGreatA3
set_option linter.all false
set_option maxRecDepth 100000
set_option maxHeartbeats 0
noncomputable section
open Option renaming some->Z,none->Y
open Bool renaming true->W,false->J
open Nat renaming beq->Nq,ble->Nl,blt->Nt,succ->Ns,add->Na
open Go.Result(andThen_ok)
open Go.Sem(run_bind run_pure)
open TL.LO renaming next->N,ret->X,out->H
open TL.Rx renaming ok->G,iJ->M
section
namespace TL
open Go
variable {S:Sg}
section
def CP{E:eO S}{ops:L Oper}{bef:L Nat}{done:Nat}{fr:bU S}{i:Nat}{o:Oper}:∀{l:VM},Pr E ops bef done fr l=Z (i,o)->(i,o)∈l∧done.testBit i=J∧fj o=J∧Tj ops bef i o=J∧TK (bef.getD i 0) done=W
 |[],h=>by cases h
 |(j,p)::l,h=>by
  obtain⟨a,h⟩|⟨_,h⟩:=af h
  .simp_all
  .let ⟨h1,h2⟩:=CP h
   simp_all
def CQ{bef:L Nat}{done vN:Nat}{i:Nat}{o:Oper}:∀{l:VM},Pu bef done vN l=Z (i,o)->(i,o)∈l∧done.testBit i=J∧fj o=J∧TK (bef.getD i 0) (done||| vN)=W
 |[],h=>by cases h
 |(j,p)::l,h=>by
  obtain⟨a,h⟩|⟨_,h⟩:=af h
  .simp_all
  .let ⟨h1,h2⟩:=CQ h
   simp_all
section
variable {ops:Array Oper}{listed:Array Bool}
theorem Fi{j:Nat}(b:listed.size=ops.size)(h:j∈Region.ready .any ops listed):∃o,At ops j o∧¬nA listed j∧∀e∈yj o,nA listed e:=by
 let ⟨h1,o,c,h2⟩:=mem_ready.1 h
 have g:j<listed.size:=by grind
 refine⟨o,by unfold At;simpa using c,λi=>?_,λe f=>?_⟩
 .simp_all[nA]
 .obtain ⟨d,a,rfl⟩:=zc.1 f;rw[List.mem_filter]at a;exact h2 d (by grind) a.2
variable {bef:List Nat}{done i j:Nat}{o:Oper}
def Wm(a:listed.size=ops.size)(b:At ops j o)(hn:¬nA listed j)(c:∀e∈yj o,nA listed e):j∈Region.ready .any ops listed:=by
 have g:j<listed.size:=by rw[a];exact vB b
 refine mem_ready.2 ⟨?_,o,GZ b,λe d f=>c e.on (zc.2 ⟨e,List.mem_filter.2 ⟨by simpa using d,f⟩,rfl⟩)⟩
 simp_all[nA]
theorem IY(c:vA ops.toList 0=W)(a:listed.size=ops.size)(h:Region.ready .any ops listed=[]):∀j o,At ops j o->nA listed j:=by
 intro j
 induction j using Nat.strongRecOn with
 |_ j k=>
  intro o b;refine WU λd=>?_;have:j∈Region.ready .any ops listed:=Wm a b d λe f=>by
   have g:=A8 c b e f;have l:=vB b;have i:At ops e (ops[e]'(by omega)):=by
    grind[At]
   grind
  simp_all
theorem GL(a:listed.size=ops.size)(h:listed.toList.count J<=0){j:Nat}{o:Oper}(b:At ops j o):nA listed j:=by
 have c:j<listed.size:=by rw[a];exact vB b
 have d:listed.toList.count J=0:=by omega
 rw[List.count_eq_zero]at d;unfold nA;simp only[Array.getD,c,dite_true];cases e:listed[j]with
 |true=>exact e|false=>
  grind
def count_set(a:listed.size=ops.size){m j:Nat}{o:Oper}(b:At ops j o)(hn:¬nA listed j)(h:listed.toList.count J<=m+1):(listed.setIfInBounds j W).toList.count J<=m:=by
 have c:j<listed.size:=by rw[a];exact vB b
 simp_all[nA,List.count_set]
end
section
variable {E:eO S}{ops:Array Oper}{j5:bU S}{s0:bg S}{g0:Gh}{w0:World}
theorem QC(hE:fC E){call:gn S}(wD:gO E.T.E.P call)(e:yX E ops j5.n){ω:Type}{kp:bU S->V S->bg S->O ω}{kk:bU S->bg S->O ω}{r:ω}{Q:Exit->Act->World->Prop}
  (hN:∀fr' s' g' a' w',kk fr' s'=Z r->fr'.n=j5.n->cQ g' (bH fr') a' w'->eL s0 g0 w0 s' g' w'->dW (ops.toList.filterMap (·.dst)) j5 fr' s'.dr s0.aD->Q .normal a' w')
  (hP:∀fr' t s' g' a' v w',kp fr' t s'=Z r->fr'.n=j5.n->cQ g' (bH fr') a' w'->eL s0 g0 w0 s' g' w'->dW (ops.toList.filterMap (·.dst)) j5 fr' s'.dr s0.aD->aH g' w' (low t) v->Q (.panic [{v,recovered:=J}]) a' w') {rr:O Nat} (I:rr≠Y->∀o∈ops.toList,∀c,o.op≠.defer c) :
  ∀(n done:Nat)(fr:bU S)(s:bg S),uL E call ops.toList (wX ops.toList) (sv ops.toList) kp kk n done fr s=Z r->∀(m:Nat)(listed:Array Bool)(bl:Nat->Nat)(g:Gh)(a:Act)(w:World),
   sV E ops j5 s0 g0 w0 done fr s bl listed g a w->listed.toList.count J<=m->ac2 rr E.T.E.P ops Q m listed a w:=by
 intro n
 induction n with
 |zero=>intro done fr s h;cases h
 |succ n ih=>
  intro done fr s h;simp only[uL]at h;split at h
  ·
   rename_i i o hq
   let ⟨hm,K,hna,P,z⟩:=CP hq
   have C:At ops i o:=jz.1 hm
   replace P:¬antiP ops.toList i:=YS C P
   obtain⟨hd,h2⟩|⟨_,h2⟩:=af h
   rotate_left
   .cases h2
   clear h;intro m listed bl g a w b F;obtain⟨hsk,h3⟩|⟨_,h2⟩:=af h2
   .exact ih _ _ _ h3 m listed bl g a w (b.float e C K hna P (z8.1 z) hd (.inl ⟨hsk,rfl⟩)) F
   split at h2
   .cases h2
   .rename_i hg;rw[AK]at h2
    let ⟨t,e1,h3⟩:=vL.1 h2
    let ⟨t',hkb,h3⟩:=TM h3
    exact ih _ _ _ h3 m listed bl g a w (b.float e C K hna P (z8.1 z) hd (.inr (.inl ⟨hg,t,e1,hkb⟩))) F
   .rename_i c hg
    let ⟨hok,h2⟩:=oI h2
    rw[AK]at h2
    let ⟨t,e1,h3⟩:=vL.1 h2
    exact ih _ _ _ h3 m listed bl g a w (b.float e C K hna P (z8.1 z) hd (.inr (.inr ⟨c,t,hg,hok,e1,rfl⟩))) F
  .split at h
   ·
    rename_i i o hq
    let ⟨hm,K,hna,z⟩:=CQ hq
    have C:At ops i o:=jz.1 hm;obtain⟨R,h2⟩|⟨_,h2⟩:=af h
    rotate_left
    .cases h2
    clear h;split at h2
    .cases h2
    rename_i tJ s1 had;intro m
    induction m with
    |zero=>
     intro listed bl g a w b F;exfalso;obtain h1|h1:=b.ld i o C (GL b.KH F C)
     .simp_all
     simp_all
    |succ m ihm=>
     intro listed bl g a w b F;have hnl:¬nA listed i:=λhl=>by
      obtain h1|h1:=b.ld i o C hl
      .simp_all
      simp_all
     refine⟨λhr=>absurd (IY e.bk b.KH hr i o C) hnl,λj hj=>?_⟩
     let ⟨p,y,f,B⟩:=Fi b.KH hj
     cases A:done.testBit j with
     |true=>exact b.adj hE e y A f B (λg' a' w' d=>ihm _ bl g' a' w' d (count_set b.KH y f F)) I|false=>
      cases haj:fj p with
      |true=>exact b.adk hE e y A haj f B (λBq a' w' d=>ihm _ Bq g a' w' d (count_set b.KH y f F)) I|false=>
       have hji:i=j:=by
        have:=lB.1 R (j,p) (jz.2 y);simp only[A,haj,Bool.false_or,pE]at this;obtain h1|h1:=this
        .simp_all
        .exact absurd (nI e.bk (λi o hi hl=>b.UB i o hi hl) y B i h1) hnl
       subst hji;have:o=p:=ke (C.symm.trans y);subst this;refine b.step hE wD e C K f B (λj hj=>?_) had (kp:=kp) (k:=λdone fr s=>uL E call ops.toList (wX ops.toList) (sv ops.toList) kp kk n done fr s) h2 (λdone' fr' s' g' a' w' hk d=>ih _ _ _ hk m _ bl g' a' w' d (count_set b.KH C f F)) hP I;have:=z8.1 z j hj;rwa [MH,pE]at this
   ·
    split at h
    .cases h
    rename_i tJ s1 had;obtain⟨R,h2⟩|⟨_,h2⟩:=af h
    rotate_left
    .cases h2
    have hda:∀{j:Nat}{p:Oper},At ops j p->done.testBit j=W∨fj p=W:=λ{j p}y=>by
     have:=lB.1 R (j,p) (jz.2 y)
     grind
    have hend:∀(listed:Array Bool)(bl:Nat->Nat)(g:Gh)(a:Act)(w:World),sV E ops j5 s0 g0 w0 done fr s bl listed g a w->(∀j o,At ops j o->nA listed j)->Q .normal a w:=by
     intro listed bl g a w b hl;have hdp:∀{j:Nat}{p:Oper},At ops j p->done.testBit j=W∨(yC (sv ops.toList) done).testBit j=W:=λ{j p}y=>by cases A:done.testBit j with|true=>exact .inl rfl|false=>exact .inr ((v7 done j).2 ⟨p,y,(hda y).resolve_left (by simp_all),A⟩)
     let ⟨g1,hA,hC⟩:=b.yP e had (λj hj=>by
       let ⟨p,y,_⟩:=(v7 done j).1 hj
       exact⟨hl j p y,hj⟩) (λj hj x hx=>by
       let ⟨p,y,_⟩:=(v7 done j).1 hj
       have hlt:=WX e.bk y x hx;have yg:=vB (ops:=ops) y;have zo:At ops x (ops[x]'(by omega)):=by
        grind[At]
       exact hdp zo)
     refine hN tJ s1 g1 a w h2 hC.n ⟨hC.Vp,hC.df,λk t hk=>?_⟩ hC.Bs ⟨λk v hk hv=>?_,by rw[hA.N7,hA.dr];exact b.fk.df⟩
     .rw[bT,fV]at hk;obtain⟨u,hu,rfl⟩:=hk;exact hC.tm k u hu λi o hi _=>⟨λ_=>by grind,λ_=>hl i o hi⟩
     .obtain h1|h1:=b.fk.tm k v hk hv
      .left
       rw[hA.old k λq hq _ XS=>hk (Al.2 ⟨_,iz (jz.1 hq),XS⟩)];exact h1
      .rw[hA.dr];exact .inr h1
    intro m
    induction m with
    |zero=>
     intro listed bl g a w b F;have hl:∀j o,At ops j o->nA listed j:=λj o C=>GL b.KH F C;refine⟨?_,hend listed bl g a w b hl⟩;cases hr:Region.ready .any ops listed with
     |nil=>rfl|cons j l=>
      let ⟨p,y,f,_⟩:=Fi b.KH (j:=j) (by simp_all)
      grind
    |succ m ihm=>
     intro listed bl g a w b F;refine⟨λhr=>hend listed bl g a w b (IY e.bk b.KH hr),λj hj=>?_⟩
     let ⟨p,y,f,B⟩:=Fi b.KH hj
     cases A:done.testBit j with|true=>exact b.adj hE e y A f B (λg' a' w' d=>ihm _ bl g' a' w' d (count_set b.KH y f F)) I|false=>exact b.adk hE e y A ((hda y).resolve_left (by simp_all)) f B (λBq a' w' d=>ihm _ Bq g a' w' d (count_set b.KH y f F)) I
def af5(hE:fC E)(hm:E.T.E.P.follows .mixedOrders=W){call:gn S}(e:gO E.T.E.P call):sS E call:=by
 intro id ops ω kp k r fr s u h hn g a w x p Q hN hP rr m;have y:rr≠Y->∀o∈ops.toList,∀c,o.op≠.defer c:=λhr=>Sc (m hr);unfold Yv at u;simp only[fF]at u
 let ⟨b1,b2,b3,b4,b5,b6⟩:=u
 have z:yX E ops fr.n:=⟨b1,b2,b3,b4,b5⟩;have A:s.fl=0:=vM b6;refine MD hm ?_
 let ⟨B,C⟩:=p.grow (fl:=s.fl) (I:=g.bp) (w':={w with drawn:=w.drawn+1}) (λ_ h=>h) (λ_ h=>.inl h) p.bp (eR _) (λ_ _=>rfl) rfl rfl
 have n:eL s g w s g {w with drawn:=w.drawn+1}:=
  ⟨B,⟨λ_ _ h=>h,λ_ _ _ _ h=>h,λ_ h=>h,eR _,λ_ _ _=>rfl,λo b d hO=>.inl ⟨o,d,hO⟩,λ_ h=>.inl h,rfl,rfl⟩,rfl,rfl,eR _,λ_ h=>h,λ_ _ _=>rfl,λ_ h=>h⟩
 have q:∀i,¬nA (Array.replicate ops.size J) i:=λi d=>by
  simp_all[nA,Array.getD]
 refine QC hE e z (s0:=s) (g0:=g) (w0:=w) (kp:=kp) (kk:=k) (r:=r) (λl F K P w' h1 h2 h3 h4 h5=>hN l F K P w' h1 h2 h3 h4 ?_) (λl t F K P v w' h1 h2 h3 h4 h5 h6=>hP l t F K P v w' h1 h2 h3 h4 h5 h6) y _ 0 fr s h ops.size _ (λ_=>0) g a _
  ⟨by simp,rfl,hn,x.size,x.df.imp (λ_ _ R=>R.ext C p.bp) C.bP,λk t hk _=>?_,λi _ _ d=>absurd d (q i),λi _ _ hd=>by simp at hd,λi _ _ d=>absurd d (q i),λi _ _ hd=>by simp at hd,λi _ _ d=>absurd d (q i),λi _ d=>absurd d (q i),n,dW.refl _ _ _ _,A,λj _ hj=>by simp at hj⟩ (by simp)
 .exact h5
 .let ⟨v,hv,R⟩:=x.tm k (low t) (by rw[bT,hk];rfl)
  exact⟨v,hv,R.ext C p.bp⟩
def adI{E:eO S}(e:fC E)(g:E.T.E.P.follows .mixedOrders=W){f:FuncId}{fn:Func}{c:Code}(a:E.T.E.SV f=Z fn)(h:fn.body=Z c)(n d:Nat)(ps:L Pk)(b:L Ck) :
  bC E.T.E.P f ⟨ps,b,E.pn,AO E n d f ps b⟩:=GM e (λ_=>af5 e g) a h n d ps b
end
end
section
def zD:Value->D
 |.slice Y 0 0=>.sl []|v=>.lit v
def VP(z:Value):L D:=z.cells.toList.map zD
theorem ahr(v:Value):agj (zD v) v:=by
 unfold zD;split
 .exact .inl ⟨rfl,rfl⟩
 .exact .inr rfl
theorem V0(z:Value):ZOk (VP z) z.cells:=by
 refine⟨by simp[VP],λj d v h1 h2=>?_⟩;simp only[VP,lC,fV]at h1;obtain⟨u,a,rfl⟩:=h1
 grind[ahr]
def aga:D->Nat
 |.lit (.string _)=>16|.sl _=>24|_=>8
def oY:L D->Nat
 |[]=>0|d::l=>Na (aga d) (oY l)
def GH(agg:Bool)(a:L D):Nat:=bif agg then oY a else match a with
 |[.lit (.int .i8 _)]|[.lit (.int .u8 _)]|[.lit (.bool _)]=>1|[.lit (.int .i16 _)]|[.lit (.int .u16 _)]=>2|[.lit (.int .i32 _)]|[.lit (.int .u32 _)]=>4|a=>oY a
def SW(P:Program)(f:Field):O (Nat×Nat×Bool):=match P.info? f.type,P.underlying f.type with
 |some j,Z d=>Z (f.offset,j.size,dZ d)|_,_=>Y
def fieldsOf(P:Program):L Field->O (L (Nat×Nat×Bool))
 |[]=>Z []|f::l=>match SW P f,fieldsOf P l with
  |some x,Z r=>Z (x::r)|_,_=>Y
def Dk{P:Program}:∀{l:L Field}{fs:L (Nat×Nat×Bool)},fieldsOf P l=Z fs->l.length=fs.length∧∀(k:Nat)off size ag,fs[k]?=Z (off,size,ag)->
  ∃f j b,l[k]?=Z f∧f.offset=off∧P.info? f.type=Z j∧j.size=size∧P.underlying f.type=Z b∧ag=dZ b
 |[],fs,h=>by simp only[fieldsOf,gR]at h;subst h;exact⟨rfl,λk _ _ _ h=>by simp at h⟩
 |f::l,fs,h=>by
  simp[fieldsOf]at h;split at h
  .rename_i h1 h2;simp at h;subst h
   let ⟨c,e⟩:=Dk h2
   refine⟨by simp[c],λk off size ag a=>?_⟩;cases k with
   |zero=>
    simp at a;subst a;unfold SW at h1;split at h1
    .rename_i j d g i;obtain⟨rfl,rfl,rfl⟩:=h1;exact⟨f,j,d,rfl,rfl,g,rfl,i,rfl⟩
    .cases h1
   |succ k=>exact e k off size ag (by simpa using a)
  .cases h
def Xx(P:Program):TypeDesc->Kd
 |.int k=>.leaf (.int k)|.bool=>.leaf .bool|.string=>.leaf .str|.pointer _=>.ptr|.interface _=>.iface|.slice e=>match P.info? e,P.underlying e with
  |some j,Z d=>match j.zero with
   |some z=>bif Nl j.bytes 4096&&(Nt 0 j.size&&(Nl j.bytes (GH (dZ d) (VP z))&&(Nl (GH (dZ d) (VP z)) (Nat.mul 2 j.bytes)&&(Nt 0 j.bytes&&Nq (cE (VP z)) j.size))))then
     .slice j.size (dZ d) (GH (dZ d) (VP z)) (VP z)else .other
   |none=>.other
  |_,_=>.other
 |.struct fields=>match fieldsOf P fields.toList with
  |some a=>.struct a|none=>.other
 |.array len e=>match P.info? e,P.underlying e with
  |some j,Z d=>.array len j.size (dZ d)|_,_=>.other
 |_=>.other
theorem abj(P:Program)(d:TypeDesc):alu P (Xx P d) d:=by
 cases d with
 |slice e=>
  simp only[Xx];split
  .rename_i j d h1 h2;split
   .rename_i z b;cases a:(Nl j.bytes 4096&&(Nt 0 j.size&&(Nl j.bytes (GH (dZ d) (VP z))&&(Nl (GH (dZ d) (VP z)) (Nat.mul 2 j.bytes)&&(Nt 0 j.bytes&&Nq (cE (VP z)) j.size)))))with
    |false=>trivial|true=>
     simp only[fF]at a
     let ⟨c,f,g,i,l,o⟩:=a
     exact⟨e,j,d,z,rfl,h1,rfl,h2,rfl,b,V0 z,gU c,gU f,gU g,gU i,gU l,by grind[bR,Nat.eq_of_beq_eq_true]⟩
   .trivial
  .trivial
 |struct fields=>
  simp[Xx];split
  .rename_i h
   let ⟨m,p⟩:=Dk h
   exact⟨fields,rfl,by simpa using m,λk off size q r=>by
    grind⟩
  .trivial
 |array len e=>
  simp[Xx];split
  .rename_i j d h1 h2;exact⟨e,j,d,rfl,h1,rfl,h2,rfl⟩
  .trivial
 |int k=>exact rfl|bool=>exact rfl|string=>exact rfl|pointer e=>exact⟨e,rfl⟩|interface n=>exact⟨n,rfl⟩|_=>trivial
def XG:Value->Bool
 |.agg _=>W|_=>J
def aay(P:Program)(a:TypeId->L Lk)(t:TypeId):O TI:=match P.info? t,P.underlying t with
 |some x,Z d=>match x.zero with
  |some z=>bif (bif dZ d then XG z else !(XG z))then Z ⟨x.size,dZ d,VP z,bif dZ d then a t else[],Xx P d⟩else Y|none=>Y
 |_,_=>Y
variable {P:Program}
def aax{a:TypeId->L Lk}(n:∀t,a t≠[]->agF P t (a t)){t:TypeId}{i:TI}(h:aay P a t=Z i):nr P t i:=by
 unfold aay at h;split at h
 .rename_i x d j k;split at h
  .rename_i z l;obtain⟨g,h⟩|⟨_,h⟩:=af h
   .simp at h;subst h;refine⟨λb m=>?_,λo c=>?_,λp q e f=>?_,x,d,z,j,k,rfl,rfl,l,V0 z,abj P d⟩
    .simp_all
    .rw[k]at c;cases c;rfl
    .rw[j]at e;cases e;rw[l]at f;cases f;refine⟨λb=>?_,λb=>?_⟩
     .dsimp only at b;rw[b,iq]at g;cases z<;>first|exact⟨_,rfl⟩|cases g
     .dsimp only at b;rw[b,j9]at g;cases z<;>first|rfl|cases g
   .cases h
  .cases h
 .cases h
end
section
def Gq(P:Program)(b:TypeId->O (L Lk)):L Field->Nat->O (L Lk)
 |[],_=>Z []|f::l,off=>match b f.type,P.info? f.type with
  |some a,Z j=>bif (f.name != "_")&&(Nq f.offset off&&Nq j.size (cE a))then(Gq P b l (Na off (cE a))).map λr=>a++r else Y|_,_=>Y
def Dj(P:Program):Nat->TypeId->O (L Lk)
 |0,_=>Y|d+1,t=>match P.underlying t with
  |some (.int k)=>Z [.int k]|some .bool=>Z [.bool]|some .string=>Z [.str]|some (.struct a)=>bif P.stoodInHeld t then Y else Gq P (Dj P d) a.toList 0|_=>Y
def yH:∀{a b c d:L Value},a.length=b.length->nM (a++c) (b++d)=(nM a b&&nM c d)
 |[],[],c,d,_=>by rfl
 |x::a,y::b,c,d,h=>by simp[List.cons_append,nM,yH (a:=a) (b:=b) (by simpa using h),Bool.and_assoc]
 |[],_::_,_,_,h=>by simp at h
 |_::_,[],_,_,h=>by simp at h
def u5(a:L Lk)(l:L Value):Prop:=l.length=a.length∧∀(j:Nat)(k:Lk)(v:Value),a[j]?=Z k->l[j]?=Z v->Bg k v
theorem u5.split{a b:L Lk}{l:L Value}(h:u5 (a++b) l):u5 a (l.take a.length)∧u5 b (l.drop a.length):=by
 have c:=h.1;refine⟨⟨by simp_all,λj k v h1 h2=>?_⟩,⟨by simp_all,λj k v h1 h2=>?_⟩⟩
 .exact h.2 j k v (by grind) (by grind)
 .exact h.2 (a.length+j) k v (by grind) (by simp_all)
section
variable {P:Program}
def Mk(P:Program)(t:TypeId)(l:L Value)(v:Value):Prop:=∃u,P.underlying t=Z u∧((dZ u=W∧v=.agg l.toArray)∨(dZ u=J∧l=[v]))
theorem ab6{d:Nat}{t:TypeId}{a:L Lk}(h:Dj P d t=Z a):∃u,P.underlying t=Z u∧(dZ u=W∨(dZ u=J∧a.length=1)):=by
 cases d with
 |zero=>cases h
 |succ d=>
  simp[Dj]at h;split at h
  .grind
  .grind
  .grind
  .rename_i b;exact⟨_,b,.inl rfl⟩
  .cases h
theorem ab5:∀(d:Nat)(t:TypeId)(z:L Lk),Dj P d t=Z z->∀(D:Nat),d<=D->∀(w:World)(e ys:L Value)(x y:Value),u5 z e->u5 z ys->Mk P t e x->Mk P t ys y->
  (Op.equalIn D t x y).run P w=.ok (nM e ys) w:=by
 intro d
 induction d with
 |zero=>intro t z h;cases h
 |succ d ih=>
  intro t z h D hD w e ys x y hx hy K Q;obtain⟨D,rfl⟩:∃D',D=D'+1:=⟨D-1,by omega⟩;simp[Dj]at h
  let ⟨u,S,K⟩:=K
  let ⟨u',g,Q⟩:=Q
  rw[S]at g;cases g;rw[S]at h;have one:∀{k:Lk},z=[k]->dZ u=J->e=[x]∧ys=[y]∧Bg k x∧Bg k y:=by
   rintro k rfl ha
   obtain⟨h1,_⟩|⟨_,rfl⟩:=K
   .simp_all
   obtain⟨h1,_⟩|⟨_,rfl⟩:=Q
   .simp_all
   exact⟨rfl,rfl,hx.2 0 _ _ rfl rfl,hy.2 0 _ _ rfl rfl⟩
  split at h
  .rename_i p;cases p;simp at h;obtain⟨rfl,rfl,⟨a,rfl⟩,⟨b,rfl⟩⟩:=one h.symm rfl
   grind[run_equalIn_int,nM,GA]
  .rename_i p;cases p;simp at h;obtain⟨rfl,rfl,⟨a,rfl⟩,⟨b,rfl⟩⟩:=one h.symm rfl
   grind[run_equalIn_bool',nM,GA]
  .rename_i p;cases p;simp at h;obtain⟨rfl,rfl,⟨a,rfl⟩,⟨b,rfl⟩⟩:=one h.symm rfl
   grind[run_equalIn_string,beq_toListBytes,nM,GA]
  .rename_i fs p;cases p;obtain⟨_,h⟩|⟨hst,h⟩:=af h
   .cases h
   obtain⟨_,rfl⟩|⟨h1,_⟩:=K
   rotate_left
   .cases h1
   obtain⟨_,rfl⟩|⟨h1,_⟩:=Q
   rotate_left
   .cases h1
   have hfo:P.fieldsOf t=fs:=by simp[Program.fieldsOf,S]
   rw[run_equalIn_struct w D t _ _ (by grind) hst,hfo];have key:∀(l:L Field)(off:Nat)(i:L Lk),Gq P (Dj P d) l off=Z i->u5 i (e.drop off)->u5 i (ys.drop off)->off<=e.length->off<=ys.length->
     (Op.eqFields D e.toArray ys.toArray l).run P w=.ok (nM (e.drop off) (ys.drop off)) w:=by
    intro l
    induction l with
    |nil=>intro off i h R ky _ _;simp only[Gq,gR]at h;subst h;have e1:=Fm R.1;rw[e1];rfl
    |cons f l ihl=>
     intro off i h R ky ox oy;simp only[Gq]at h;split at h
     .rename_i c j h1 h2;obtain⟨hb,h⟩|⟨_,h⟩:=af h
      rotate_left
      .cases h
      simp only[fF]at hb
      let ⟨hnm,o,hsz⟩:=hb
      have o:=vM o;rw[bR]at hsz h;simp only[fV]at h;obtain⟨r,hr,rfl⟩:=h
      let ⟨q,B⟩:=R.split
      let ⟨s,C⟩:=ky.split
      rw[ade]at B C;have hlx:=R.1;have hly:=ky.1;rw[lD,Sj]at hlx hly;have m:∀(A:L Value),u5 c ((A.drop off).take c.length)->∃v,(part f.type A.toArray f.offset).run P w=.ok v w∧Mk P f.type ((A.drop off).take c.length) v:=by
       intro A hz
       let ⟨u,g,n⟩:=ab6 h1
       obtain n|⟨n,h1l⟩:=n
       .refine ⟨.agg ((A.drop off).take c.length).toArray,?_,u,g,.inl ⟨n,rfl⟩⟩
        simp_all[part,uj,dm]
       .have E:=hz.1;rw[h1l]at E
        let ⟨v,hv⟩:=Wu.1 E
        refine⟨v,?_,u,g,.inr ⟨n,by grind⟩⟩;have hvv:A[off]?=Z v:=by
         have:=cU (λl=>l[0]?) hv
         grind
        simp_all[part,uj]
      let ⟨v1,e1,m1⟩:=m e q
      let ⟨v2,e2,m2⟩:=m ys s
      have F:=ih f.type c h1 D (by omega) w _ _ v1 v2 q s m1 m2;have SO:=ihl (off+c.length) r hr B C (by omega) (by omega);have I:f.name≠ "_":=by grind
      have hsx:e.drop off=(e.drop off).take c.length++e.drop (off+c.length):=by
       grind[List.drop_drop,List.take_append_drop]
      have hsy:ys.drop off=(ys.drop off).take c.length++ys.drop (off+c.length):=by
       grind[List.drop_drop,List.take_append_drop]
      rw[hsx,hsy,yH (by rw[q.1,s.1])];simp only[Op.eqFields,I,ne_eq,not_false_eq_true,ki,run_bind,e1,e2,F,andThen_ok];cases hq:nM ((e.drop off).take c.length) ((ys.drop off).take c.length)with|true=>grind|false=>simp
     .cases h
   grind
  .cases h
def NO(P:Program)(t:TypeId):L Lk:=bif P.eqGuardType P.depth t then[]else match Dj P 100 t with
 |some a=>match P.underlying t with
  |some u=>bif dZ u then a else[]|none=>[]
 |none=>[]
def Yg(t:TypeId)(h:NO P t≠[]):agF P t (NO P t):=by
 unfold NO at h ⊢;cases e:P.eqGuardType P.depth t with
 |true=>simp_all|false=>
  cases f:Dj P 100 t with
  |none=>simp_all|some g=>
   cases c:P.underlying t with
   |none=>simp_all|some u=>
    dsimp only at h ⊢;cases d:dZ u with
    |false=>simp_all|true=>
     intro w op x y a b i l m n;refine⟨run_eqGuard_agg w op t x y a b e,?_⟩;have:=ab5 100 t g f Op.maxDepth (by decide) w a.toList b.toList (.agg a) (.agg b) ⟨by simpa using i,λj k v h1 h2=>m j k v h1 (by simpa using h2)⟩ ⟨by simpa using l,λj k v h1 h2=>n j k v h1 (by simpa using h2)⟩
      ⟨u,c,.inl ⟨d,rfl⟩⟩ ⟨u,c,.inl ⟨d,rfl⟩⟩
     exact this
end
end
section
def cJ{l:L Ty}(h:l.all (λt=>!(kU t))=W):∀t∈l,kU t=J:=by
 simp_all
namespace Tr
variable {α β:Type}
def mapKey(f:Nat->α->β):Tr α->Tr β
 |.nil=>.nil|.node v l r=>.node (match v with|some x=>Z (f 0 x)|none=>Y) (mapKey (λj=>f (Ns (Nat.mul 2 j))) l) (mapKey (λj=>f (Ns (Ns (Nat.mul 2 j)))) r)
theorem zq:∀(t:Tr α)(f:Nat->α->β)(k:Nat),(t.mapKey f).get k=(t.get k).map (f k)
 |.nil,f,k=>by rfl
 |.node v l r,f,0=>by simp[mapKey,Tr.jd];cases v<;>rfl
 |.node v l r,f,k+1=>by
  simp only[mapKey,Tr.dA];by_cases a:k%2=0
  .rw[bB a,bB a,zq l];have:Ns (Nat.mul 2 (k/2))=k+1:=by grind
   rw[this]
  .rw[bO a,bO a,zq r];have:Ns (Ns (Nat.mul 2 (k/2)))=k+1:=by grind
   rw[this]
theorem qe{t:Tr α}{f g:Nat->α->β}(h:t.mapKey f=t.mapKey g){k:Nat}{v:α}(a:t.get k=Z v):f k v=g k v:=by
 have:=cU (λt=>t.get k) h
 grind[zq]
end Tr
end
section
def SE:L (String×FuncId)->String->O FuncId
 |[],_=>Y|p::l,m=>bif p.1==m then Z p.2 else SE l m
def mkE(P:Program)(O7:Tr TI)(TF:Tr Ty)(mtT:Tr MT)(wh:Tr (L (String×FuncId)))(qW:Tr Func)(a:Nat->O Nat):gm:=
 ⟨⟨P,λk=>O7.get k,λk=>qW.get k,λ_=>Y⟩,λk=>TF.get k,λk=>mtT.get k,λt m=>match wh.get t with|some l=>SE l m|none=>Y,a⟩
section
variable (S:Sg)(P:Program)
def lX(τ:Ty):L D:=bif kU τ then(match enc S τ (S.zero τ)with|.agg l=>l|_=>[])else[enc S τ (S.zero τ)]
def Fb(τ:Ty)(i:TI):Kd×Bool×Nat×Bool×L D:=match τ with
 |.int k=>(.leaf (.int k),J,1,W,lX S τ)|.bool=>(.leaf .bool,J,1,W,lX S τ)|.str=>(.leaf .str,J,1,W,lX S τ)|.sl e=>(.slice (S.width e) (kU e) (zI S e) (lX S e),J,1,W,lX S τ)|.st n=>(i.kd,W,cE (S.fs n),W,lX S τ)|.di _=>(.iface,J,1,W,lX S τ)|.opt _=>(.ptr,J,1,W,lX S τ)|.mp _ _=>(i.kd,J,1,W,lX S τ)
def Fa(τ:Ty)(i:TI):Kd×Bool×Nat×Bool×L D:=(i.kd,i.agg,i.size,(match τ with|.sl e=>Nt 0 (S.width e)|_=>W),i.zero)
theorem EN(τ:Ty):bif kU τ then D.agg (lX S τ)=enc S τ (S.zero τ)else lX S τ=[enc S τ (S.zero τ)]:=by cases τ<;>rfl
theorem aer{τ:Ty}{i:TI}(h:Fb S τ i=Fa S τ i):yQ S i τ∧Q5 S i τ:=by
 have a:i.zero=lX S τ->Q5 S i τ:=by
  grind[Q5,EN]
 cases τ with
 |int k=>
  simp only[Fb,Fa,fE]at h
  let ⟨h1,h2,h3,_,h5⟩:=h
  exact⟨⟨h1.symm,h2.symm,h3.symm⟩,a h5.symm⟩
 |bool=>
  simp only[Fb,Fa,fE]at h
  let ⟨h1,h2,h3,_,h5⟩:=h
  exact⟨⟨h1.symm,h2.symm,h3.symm⟩,a h5.symm⟩
 |str=>
  simp only[Fb,Fa,fE]at h
  let ⟨h1,h2,h3,_,h5⟩:=h
  exact⟨⟨h1.symm,h2.symm,h3.symm⟩,a h5.symm⟩
 |sl e=>
  simp only[Fb,Fa,fE]at h
  let ⟨h1,h2,h3,h4,h5⟩:=h
  exact⟨⟨⟨_,h1.symm,EN S e⟩,h2.symm,h3.symm,gU h4.symm⟩,a h5.symm⟩
 |st n=>
  simp only[Fb,Fa,fE]at h
  let ⟨_,h2,h3,_,h5⟩:=h
  exact⟨⟨h2.symm,by rw[<-h3,bR]⟩,a h5.symm⟩
 |di n=>
  simp only[Fb,Fa,fE]at h
  let ⟨h1,h2,h3,_,h5⟩:=h
  exact⟨⟨h1.symm,h2.symm,h3.symm⟩,a h5.symm⟩
 |opt n=>
  simp only[Fb,Fa,fE]at h
  let ⟨h1,h2,h3,_,h5⟩:=h
  exact⟨⟨h1.symm,h2.symm,h3.symm⟩,a h5.symm⟩
 |mp k v=>
  simp only[Fb,Fa,fE]at h
  let ⟨_,h2,h3,_,h5⟩:=h
  exact⟨⟨trivial,h2.symm,h3.symm⟩,a h5.symm⟩
def ah3:Ty->TypeDesc->Bool
 |.int k,.int j=>oP j k|.bool,.bool=>W|.str,.string=>W|_,_=>J
def abh{t:Ty}{d:TypeDesc}(h:ah3 t d=W):iA t d:=by
 cases t<;>cases d<;>first|exact rfl|(cases h;done)|skip
 rename_i k j;have:j=k:=by cases j<;>cases k<;>first|rfl|cases h
 rw[this];exact rfl
def mtB(E:gm)(t:Nat)(m:MT):Bool:=match E.E.P.underlying t with
 |some (.map a el)=>Nq el m.el&&((match E.E.P.underlying a with|some d=>ah3 m.kt d|none=>J)&&((match E.E.P.info? m.el with|some x=>x.zero.isSome|none=>J)&&
   (match m.vt with|some b=>(match E.ty m.el with|some c=>sk c b|none=>J)&&(E.E.ti m.el).isSome|none=>W)))
 |_=>J
theorem aeK{E:gm}{t:Nat}{m:MT}(h:mtB E t m=W):∃a d,E.E.P.underlying t=Z (.map a m.el)∧E.E.P.underlying a=Z d∧iA m.kt d∧(∃x z,E.E.P.info? m.el=Z x∧x.zero=Z z)∧
  ∀b,m.vt=Z b->E.ty m.el=Z b∧∃i,E.E.ti m.el=Z i:=by
 unfold mtB at h;split at h
 .rename_i a el f;simp only[fF]at h
  let ⟨h1,h2,h3,h4⟩:=h
  have:=vM h1;subst this;cases e:E.E.P.underlying a with
  |none=>simp_all|some d=>
   rw[e]at h2;cases g:E.E.P.info? m.el with
   |none=>simp_all|some x=>
    rw[g]at h3
    let ⟨z,j⟩:=Option.isSome_iff_exists.1 h3
    refine⟨a,d,f,e,abh h2,⟨x,z,rfl,j⟩,λb c=>?_⟩;rw[c]at h4
    grind[jX,Option.isSome_iff_exists]
 .cases h
def XF:TypeDesc->Bool
 |.pointer _=>W|_=>J
def SC(P:Program)(t:Nat)(p:String×FuncId):Bool:=match P.info? t,P.underlying t with
 |some x,Z d=>match x.methods.find? (·.name==p.1)with
  |some a=>match a.path.toList,a.func with
   |[],Z (f,b)=>Nq f p.2&&(bif b then XF d else !(XF d))|_,_=>J
  |none=>J
 |_,_=>J
def Xl{P:Program}{t:Nat}{p:String×FuncId}(h:SC P t p=W):∃x a d,P.info? t=Z x∧x.methods.find? (·.name==p.1)=Z a∧a.path=#[]∧P.underlying t=Z d∧
  ((a.func=Z (p.2,J)∧∀e,d≠.pointer e)∨(a.func=Z (p.2,W)∧∃e,d=.pointer e)):=by
 unfold SC at h;split at h
 .rename_i x d c f;split at h
  .rename_i a g;split at h
   .rename_i b h1 h2;rw[fF]at h;have:=vM h.1;subst this;refine⟨x,a,d,c,g,by simpa using h1,f,?_⟩;cases b with
    |false=>refine .inl ⟨h2,λe i=>?_⟩;subst i;exact Bool.noConfusion h.2|true=>
     refine .inr ⟨h2,?_⟩;cases d<;>first|exact⟨_,rfl⟩|exact Bool.noConfusion h.2
   .cases h
  .cases h
 .cases h
theorem Jg:∀{l:L (String×FuncId)}{m:String}{f:FuncId},SE l m=Z f->(m,f)∈l
 |[],_,_,h=>by cases h
 |p::l,m,f,h=>by
  obtain⟨a,h⟩|⟨_,h⟩:=af h
  .grind
  .exact ic _ (Jg h)
end
theorem Yr{S:Sg}(o:fy S){P:Program}{O7:Tr TI}{TF:Tr Ty}{mtT:Tr MT}{wh:Tr (L (String×FuncId))}{qW:Tr Func}{d:Nat->O Nat}
  (h1:O7.mapKey (λk _=>aay P (NO P) k)=O7.mapKey λ_ i=>Z i)
  (h2:qW.mapKey (λk _=>P.funcs[k]?)=qW.mapKey λ_ f=>Z f)
  (h3:TF.mapKey (λk τ=>(O7.get k).map (Fb S τ))=TF.mapKey λk τ=>(O7.get k).map (Fa S τ))
  (h4:qW.mapKey (λ_ f=>f.name== "runtime.NumGoroutine")=qW.mapKey λ_ _=>J)
  (h5:mtT.mapKey (λk m=>mtB (mkE P O7 TF mtT wh qW d) k m)=mtT.mapKey λ_ _=>W)
  (h6:wh.mapKey (λk l=>l.all (SC P k))=wh.mapKey λ_ _=>W) (Iq:FuncId->O (lI S)) (sh:FuncId->Nat->O LSh) (p:∀f c,Iq f=Z c->bC P f c) (q:Bool) (r:FuncId->L (V S)->O JSh) :
  fC (⟨mkE P O7 TF mtT wh qW d,Iq,sh,q,r⟩:eO S):=by
 have a:∀k i τ,O7.get k=Z i->TF.get k=Z τ->yQ S i τ∧Q5 S i τ:=by
  grind[Tr.qe,aer]
 refine⟨o,⟨λk i e=>?_,λf fn g=>?_⟩,⟨λk i τ e j=>(a k i τ e j).1⟩,λf fn g=>Tr.qe h4 g,λ_=>rfl,⟨λk i τ e j=>(a k i τ e j).2,λt m s=>?_,λt u f g=>?_⟩,p⟩
 .exact aax (λt h=>Yg t h) (Tr.qe h1 e)
 .exact Tr.qe h2 g
 .exact aeK (Tr.qe h5 s)
 .have b:(match wh.get t with|some l=>SE l u|none=>Y)=Z f:=g;split at b
  .rename_i v;have n:=Tr.qe h6 v;rw[lB]at n;exact Xl (n _ (Jg b))
  .cases b
end
section
def cz{R P α:Type}(x:Rx R P)(f:R->O α)(g:P->O α):O α:=match x with
 |.ok r=>f r|.iJ p=>g p
def bK{X R B P α:Type}(o:LO X R B P)(f:Nat->X->O α)(g:B->R->O α)(h:B->P->O α):O α:=match o with
 |.next _=>Y|.out j x=>f j x|.ret b r=>g b r|.iJ b p=>h b p
def ck{X R B P α:Type}(o:LO X R B P)(e:X->O α)(f:Nat->X->O α)(g:B->R->O α)(h:B->P->O α):O α:=match o with
 |.next x=>e x|.out j x=>f j x|.ret b r=>g b r|.iJ b p=>h b p
def aev{α:Type}(n:Nat)(a:α):L α:=List.replicate n a
def nR(a b:Bool):Bool:=a&&b
def acE(a b:Nat):Nat:=Na a b
def trL{α:Type}:L (Nat×α)->Tr α
 |[]=>.nil|p::l=>(trL l).set aM p.1 p.2
def TZ:Code->L (Code×Code)
 |.seq a b=>TZ a++TZ b|.cond _ a b=>TZ a++TZ b|.block _ b=>TZ b|.loop b=>TZ b|.rangeFunc _ _ a b=>(a,b)::(TZ a++TZ b)|.scope b=>TZ b|_=>[]
def rgN(l:L (Code×Code))(i:Nat):Code×Code:=match l with
 |[]=>(.skip,.skip)|a::l=>match i with
  |0=>a|i+1=>rgN l i
def lpR(a n:Nat)(ps:L Nat)(c:Code×Code)(l:L (Nat×V S)):u0 S:=.lp ⟨.ready,Y,a,NL (vn c.1++vn c.2) {n:=n,tm:=trL l},ps,c.1,c.2⟩
def O8(l:L (FuncId×lI S))(f:FuncId):O (lI S):=match l with
 |[]=>Y|p::l=>bif Nq p.1 f then Z p.2 else O8 l f
def OkL(P:Program):L (FuncId×lI S)->Prop
 |[]=>True|p::l=>bC P p.1 p.2∧OkL P l
def RR{P:Program}:∀{l:L (FuncId×lI S)},OkL P l->∀f c,O8 l f=Z c->bC P f c
 |[],_,_,_,h=>by cases h
 |p::l,⟨d,a⟩,f,c,h=>by
  unfold O8 at h;cases b:Nq p.1 f with
  |true=>
   simp_all
  |false=>rw[b]at h;exact RR a f c h
variable {P:Program}
def cm{f:FuncId}{ps:L Pk}{a:L Ck}{b:Bool}(h:mo P f):bC P f (⟨ps,a,b,λ_=>Y⟩:lI S):=
 ⟨h,λ_ _ h=>by cases h⟩
def tW{α:Type}(b:L α×U):IB (isE b.1) (Z (([],()),())) (Z (b,()))=Z (b,()):=by
 let ⟨l,u⟩:=b
 cases l with|nil=>simp[IB]|cons a l=>rfl
end
section
def nw(S:Sg):Ty->L Ty
 |.st m=>S.fs m| τ=>[τ]
def RM:L Ty->L Ty->Bool
 |[],[]=>W|a::l,b::m=>sk a b&&RM l m|_,_=>J
def Mf:∀{l m:L Ty},RM l m=W->l=m
 |[],[],_=>rfl|a::l,b::m,h=>by simp[RM,fF]at h;rw[jX h.1,Mf h.2]
 |[],_::_,h=>by cases h
 |_::_,[],h=>by cases h
def EC(S:Sg)(P:Program)(ty:TypeId->O Ty):L Field->Nat->L Ty->Bool
 |[],_,[]=>W|f::l,off,a=>match ty f.type with
  |some τ=>Nq f.offset off&&(Nq (P.cellsOf f.type) (cE (nw S τ))&&(RM (a.take (cE (nw S τ))) (nw S τ)&&EC S P ty l (off+cE (nw S τ)) (a.drop (cE (nw S τ)))))|none=>J
 |_,_,_=>J
def rdT(S:Sg)(P:Program)(ty:TypeId->O Ty)(t:TypeId)(τ:Ty):Bool:=match P.underlying t,τ with
 |some .bool,.bool=>W|some (.int k),.int c=>oP k c|some .string,.str=>W|some (.slice e),.sl a=>match ty e with
  |some b=>sk b a&&(Nq (P.cellsOf e) (S.width a)&&(Nl (zI S a) (Nat.mul 2 (P.bytesOf e))&&Nt 0 (S.width a)))|none=>J
 |some (.struct d),.st n=>Nq (P.cellsOf t) (cE (S.fs n))&&EC S P ty d.toList 0 (S.fs n)|_,_=>J
section
variable {P:Program}{w:World}{I:Nat->Prop}
def VO(I:Nat->Prop)(w:World)(ds:L D)(vs:L Value):Prop:=PW (dD I w) ds vs
theorem mapM_some{α β:Type}{f:α->O β}:∀{l:L α}{r:L β},l.mapM f=Z r->r.length=l.length∧∀(i:Nat)(a:α),l[i]?=Z a->∃b,r[i]?=Z b∧f a=Z b
 |[],r,h=>by
  simp_all
 |x::l,r,h=>by
  simp[List.mapM_cons,Option.bind_eq_bind,vL,Option.pure_def,gR]at h;obtain⟨b,d,e,c,rfl⟩:=h
  let ⟨h1,h2⟩:=mapM_some c
  grind
def QJ{a:Addr}{n:Nat}{vs:L Value}(h:w.cells? 0 a n=Z vs):vs.length=n∧∀j,j<n->∃v,vs[j]?=Z v∧w.cell? (a.add j)=Z v:=by
 unfold World.cells? at h
 let ⟨h1,h2⟩:=mapM_some h
 rw[List.length_range]at h1;refine⟨h1,λj b=>?_⟩;exact h2 j j (by rw[List.getElem?_range b])
theorem acs{a:Addr}{v:Value}(h:w.cell? a=Z v):a.block<w.heap.size:=by
 grind[World.cell?]
theorem Dw{α:Type}(p:Nat->α->Prop):∀n,(∀i,i<n->∃x,p i x)->∃l:L α,l.length=n∧∀i x,l[i]?=Z x->p i x
 |0,_=>⟨[],rfl,λi x h=>by simp at h⟩
 |n+1,h=>by
  let ⟨l,h1,h2⟩:=Dw p n (λi a=>h i (by omega))
  let ⟨x,b⟩:=h n (by omega)
  refine⟨l++[x],by simp[h1],λi y a=>?_⟩
  grind
theorem Fq{d:D}{v:Value}(h:dD I w d v):VO I w [d] [v]:=⟨rfl,λj a b h1 h2=>by
 grind⟩
variable {H:Type}{N3:TypeId×Value->H}{held:Bool}
theorem trod_bool{fuel:Nat}{t:TypeId}{cs:L Value}{d:DataW H}{ps:L MemPlace}(a:P.underlying t=Z .bool)(h:DataW.trod N3 P w 0 (λ_=>W) held fuel t cs=Z (d,ps)):∃b,cs=[.bool b]:=by
 cases fuel with
 |zero=>simp[DataW.trod]at h|succ n=>
  obtain _|⟨c,_|⟨e,cs⟩⟩:=cs
  .simp[DataW.trod,a]at h
  .cases c<;>simp[DataW.trod,a]at h
   grind
  .simp[DataW.trod,a]at h
def trod_int{fuel:Nat}{t:TypeId}{k:IntKind}{cs:L Value}{d:DataW H}{ps:L MemPlace}(a:P.underlying t=Z (.int k))(h:DataW.trod N3 P w 0 (λ_=>W) held fuel t cs=Z (d,ps)):∃n,cs=[.int k n]:=by
 cases fuel with
 |zero=>simp[DataW.trod]at h|succ n=>
  obtain _|⟨c,_|⟨b,cs⟩⟩:=cs
  .simp[DataW.trod,a]at h
  .cases c<;>simp[DataW.trod,a]at h
   simp_all
  .simp[DataW.trod,a]at h
theorem V8{fuel:Nat}{t:TypeId}{cs:L Value}{d:DataW H}{ps:L MemPlace}(a:P.underlying t=Z .string)(h:DataW.trod N3 P w 0 (λ_=>W) held fuel t cs=Z (d,ps)):∃b,cs=[.string b]:=by
 cases fuel with
 |zero=>simp[DataW.trod]at h|succ n=>
  obtain _|⟨c,_|⟨e,cs⟩⟩:=cs
  .simp[DataW.trod,a]at h
  .cases c<;>simp[DataW.trod,a]at h
   grind
  .simp[DataW.trod,a]at h
theorem trod_slice{fuel:Nat}{t e:TypeId}{cs:L Value}{d:DataW H}{ps:L MemPlace}(g:P.underlying t=Z (.slice e))(h:DataW.trod N3 P w 0 (λ_=>W) held (fuel+1) t cs=Z (d,ps)) :
  cs=[.slice Y 0 0]∨∃(a:Addr)(len cap:Nat)(f rest:L (DataW H)),cs=[.slice (Z a) len cap]∧len<=cap∧d=.slice f rest∧f.length=len∧
   ∀i,i<len->∃vs j k,w.cells? 0 (a.add (i*P.cellsOf e)) (P.cellsOf e)=Z vs∧DataW.trod N3 P w 0 (λ_=>W) held fuel e vs=Z (j,k)∧f[i]?=Z j:=by
 obtain _|⟨c,_|⟨o,cs⟩⟩:=cs
 .simp[DataW.trod,g]at h
 .cases c with
  |slice a len cap=>
   cases a with
   |none=>
    obtain _|len:=len
    .obtain _|cap:=cap
     .exact .inl rfl
     .simp[DataW.trod,g]at h
    .simp[DataW.trod,g]at h
   |some a=>
    right
    simp only[DataW.trod,g]at h;split at h
    .rename_i l;rw[vL]at h
     let ⟨m,h1,h2⟩:=h
     rw[fV]at h2
     let ⟨rest,_,h3⟩:=h2
     obtain⟨rfl,_⟩:=h3
     let ⟨h4,h5⟩:=mapM_some h1
     refine⟨a,len,cap,_,_,rfl,l.2.1,rfl,by simpa using h4,λi n=>?_⟩
     let ⟨b,p,q⟩:=h5 i i (by rw[List.getElem?_range n])
     grind[Option.bind_eq_some_iff]
    .cases h
  |_=>simp[DataW.trod,g]at h
 .simp[DataW.trod,g]at h
theorem trod_struct{fuel:Nat}{t:TypeId}{fs:Array Field}{cs:L Value}{d:DataW H}{ps:L MemPlace}(b:P.underlying t=Z (.struct fs))(h:DataW.trod N3 P w 0 (λ_=>W) held (fuel+1) t cs=Z (d,ps)) :
  cs.length=P.cellsOf t∧∃parts:L (DataW H),d=.agg parts∧parts.length=fs.toList.length∧
   ∀(i:Nat)(f:Field),fs.toList[i]?=Z f->∃a c,DataW.trod N3 P w 0 (λ_=>W) held fuel f.type ((cs.drop f.offset).take (P.cellsOf f.type))=Z (a,c)∧parts[i]?=Z a:=by
 simp only[DataW.trod,b]at h;split at h
 .rw[fV]at h
  let ⟨e,h1,h2⟩:=h
  obtain⟨rfl,_⟩:=h2
  let ⟨h4,h5⟩:=mapM_some h1
  grind
 .cases h
def Vc(a:fy S):∀(τ:Ty)(x:den S.A τ),∃h:l7 S.A (nw S τ),fe S (nw S τ) h=(enc S τ x).cells
 |.st n,x=>⟨S.get n x,by exact(a.cells n x).symm⟩
 |.int k,x=>⟨(x,()),rfl⟩|.bool,x=>⟨(x,()),rfl⟩|.str,x=>⟨(x,()),rfl⟩|.sl e,x=>⟨(x,()),rfl⟩|.di n,x=>⟨(x,()),(nL _).symm⟩|.opt n,Y=>⟨(Y,()),rfl⟩|.opt n,Z y=>⟨(Z y,()),rfl⟩|.mp k v,x=>⟨(x,()),rfl⟩
def Dr:∀(l m:L Ty)(h:l7 S.A l)(k:l7 S.A m),∃r:l7 S.A (l++m),fe S (l++m) r=fe S l h++fe S m k
 |[],m,_,k=>⟨k,rfl⟩|t::l,m,h,k=>by
  let ⟨r,a⟩:=Dr l m h.2 k
  exact⟨(h.1,r),by simp[List.cons_append,fe,a]⟩
theorem HZ{ts:L TypeId}{ds:L (DataW H)}(h:(DataW.weightsEach P ts ds).all (·<=reachBytes)=W):∀(i:Nat)(t:TypeId)(d:DataW H),ts[i]?=Z t->ds[i]?=Z d->(d.weights P t).all (·<=reachBytes)=W:=by
 induction ts generalizing ds with
 |nil=>simp_all|cons a ts c=>
  intro i t d h1 h2;cases ds with
  |nil=>simp at h2|cons b ds=>
   simp only[DataW.weightsEach,MV,fF]at h
   grind
theorem J6{e:TypeId}{ds:L (DataW H)}(h:(DataW.weightsAll P e ds).all (·<=reachBytes)=W):∀d∈ds,(d.weights P e).all (·<=reachBytes)=W:=by
 induction ds with
 |nil=>simp_all|cons a ds b=>
  simp only[DataW.weightsAll,MV,fF]at h
  grind
theorem Mi(y:fy S){ty:TypeId->O Ty}{fuel:Nat}{cs:L Value}
  (z:∀(t:TypeId)(τ:Ty)(cs:L Value)(d:DataW H)(ps:L MemPlace),ty t=Z τ->DataW.trod N3 P w 0 (λ_=>W) held fuel t cs=Z (d,ps)->(d.weights P t).all (·<=reachBytes)=W->∃x:den S.A τ,VO I w (enc S τ x).cells cs) :
  ∀(fs:L Field)(off:Nat)(ts:L Ty)(parts:L (DataW H)),EC S P ty fs off ts=W->off+ts.length=cs.length->(DataW.weightsEach P (fs.map (·.type)) parts).all (·<=reachBytes)=W->parts.length=fs.length->
   (∀(i:Nat)(f:Field),fs[i]?=Z f->∃c e,DataW.trod N3 P w 0 (λ_=>W) held fuel f.type ((cs.drop f.offset).take (P.cellsOf f.type))=Z (c,e)∧parts[i]?=Z c)->
   ∃h:l7 S.A ts,VO I w (fe S ts h) (cs.drop off):=by
 intro fs
 induction fs with
 |nil=>
  intro off ts parts h1 h2 _ _ _;cases ts with|nil=>exact⟨(),by simp[fe];rw[List.drop_eq_nil_of_le (by grind)];exact⟨rfl,λj a b h=>by simp at h⟩⟩|cons t ts=>cases h1
 |cons f fs g=>
  intro off ts parts h1 h2 h3 h4 h5;simp[EC]at h1;split at h1;rotate_left
  .cases h1
  rename_i τ A;simp only[fF,bR]at h1
  let ⟨l,n,o,h1⟩:=h1
  have l:=vM l;have n:=vM n;have o:=Mf o
  let ⟨d,e,B,q⟩:=h5 0 f rfl
  cases parts with
  |nil=>simp at q|cons p parts=>
  simp at q;subst q;have C:=HZ h3 0 f.type p rfl rfl
  let ⟨x,s⟩:=z _ _ _ _ _ A B C
  let ⟨k,E⟩:=Vc y τ x
  simp only[pz,DataW.weightsEach,MV,fF]at h3
  let ⟨r,F⟩:=g (off+(nw S τ).length) (ts.drop (nw S τ).length) parts h1 (by grind) h3.2 (by simpa using h4) (λi f K=>by
   let ⟨c,e,q1,q2⟩:=h5 (i+1) f (by simpa using K)
   simp_all)
  let ⟨m,Q⟩:=Dr (nw S τ) (ts.drop (nw S τ).length) k r
  have R:nw S τ++ts.drop (nw S τ).length=ts:=by
   conv=>rhs;rw[<-Wv (nw S τ).length ts]
   rw[o]
  rw[l,n]at s;rw[<-E]at s;have u:cs.drop off=(cs.drop off).take (nw S τ).length++cs.drop (off+(nw S τ).length):=by rw[<-ade,Wv]
  have v:∃m:l7 S.A (nw S τ++ts.drop (nw S τ).length),VO I w (fe S _ m) (cs.drop off):=⟨m,by
   rw[Q,u];exact PW.append s F⟩
  grind
theorem aav(u:fy S){ty:TypeId->O Ty}(hR:∀t τ,ty t=Z τ->rdT S P ty t τ=W)(hI:∀b,b<w.heap.size->I b) :
  ∀(fuel:Nat)(t:TypeId)(τ:Ty)(cs:L Value)(d:DataW H)(ps:L MemPlace),ty t=Z τ->DataW.trod N3 P w 0 (λ_=>W) held fuel t cs=Z (d,ps)->(d.weights P t).all (·<=reachBytes)=W->
   ∃x:den S.A τ,VO I w (enc S τ x).cells cs:=by
 intro fuel
 induction fuel with
 |zero=>simp_all[DataW.trod]|succ fuel ih=>
  intro t τ cs d ps hτ h g;have m:=hR t τ hτ;unfold rdT at m;split at m
  .rename_i l;obtain⟨b,rfl⟩:=trod_bool l h;exact⟨b,Fq (.lit _)⟩
  .rename_i k k' l;obtain⟨n,rfl⟩:=trod_int l h;obtain rfl:k=k':=by cases k<;>cases k'<;>first|rfl|cases m
   exact⟨n,Fq (.lit _)⟩
  .rename_i l;obtain⟨b,rfl⟩:=V8 l h;refine⟨ofBytes b,Fq ?_⟩;have:enc S .str (ofBytes b)=.lit (.string b):=by rfl
   exact .lit _
  .rename_i e τ' l;split at m;rotate_left
   .cases m
   rename_i f hτe;simp only[fF]at m
   let ⟨h1,h2,h3,h4⟩:=m
   obtain rfl:=jX h1;have h2:=vM h2;have h3:=gU h3;have h4:0<S.width f:=gU h4;obtain rfl|⟨a,len,cap,B,rest,rfl,hlc,rfl,C,q⟩:=trod_slice l h
   .refine ⟨[],Fq ?_⟩;exact .sl [] Y 0 0 (λ_ _=>undef) (eR _) (λd o=>by cases o) (λd o=>by cases o) (λh=>absurd rfl h) (λi j d c o=>by simp at o)
   .simp only[DataW.weights,l,List.all_cons,MV,fF,qE]at g;have hev:=J6 g.2.1
    let ⟨p,E,F⟩:=Dw (λi(x:den S.A f)=>∃K,w.cells? 0 (a.add (i*P.cellsOf e)) (P.cellsOf e)=Z K∧VO I w (enc S f x).cells K) len (λi hi=>by
     grind)
    have s:∀(i j:Nat)(x:den S.A f)(c:D),p[i]?=Z x->(enc S f x).cells[j]?=Z c->∃v,w.cell? (a.add (i*S.width f+j))=Z v∧dD I w c v:=by
     intro i j x c Q y
     let ⟨K,q1,q2⟩:=F i x Q
     let ⟨q3,q4⟩:=QJ q1
     have hj:j<P.cellsOf e:=by
      grind[kW]
     let ⟨v,R,z⟩:=q4 j hj
     rw[Addr.add_add,h2]at z;exact⟨v,z,q2.2 j c v y R⟩
    refine⟨p,Fq ?_⟩;have O3:enc S (.sl f) p=.sl (p.map (enc S f)):=rfl;rw[O3];have r:(p.map (enc S f)).length=len:=by simp[E]
    rw[show(Value.slice (Z a) len cap)=.slice (Z a) (p.map (enc S f)).length cap by rw[r]];refine .sl _ (Z a) cap (S.width f) (λi j=>(w.cell? (a.add (i*S.width f+j))).getD undef) (by omega) (s9 u p) (λd o=>?_) (λhne=>?_) (λi j d c o y=>?_)
    .obtain ⟨x,_,rfl⟩:=zc.1 o;rw[Ca u,r];have hw1:=g.1;rw[C]at hw1;have hb:len*zI S f<=2*(len*P.bytesOf e):=by
      simp_all[Nat.mul_le_mul_left,Nat.mul_left_comm]
     grind[reachBytes]
    .have A:0<p.length:=by
      grind
     obtain⟨x,Q⟩:∃x,p[0]?=Z x:=⟨_,jr A⟩;obtain⟨c,y⟩:∃c,(enc S f x).cells[0]?=Z c:=⟨_,jr (by rw[kW u];exact h4)⟩
     let ⟨v,R,_⟩:=s 0 0 x c Q y
     refine⟨a,rfl,hI _ ?_,λi j d c o y=>?_⟩
     .have:=acs R;rwa [kZ]at this
     grind
    grind
  .rename_i fs n l;simp only[fF]at m
   let ⟨h1,h2⟩:=m
   have h1:=vM h1;rw[bR]at h1;obtain⟨hl,parts,rfl,NB,q⟩:=trod_struct l h;simp only[DataW.weights,l]at g
   let ⟨k,hk⟩:=Mi u ih fs.toList 0 (S.fs n) parts h2 (by omega) g NB q
   refine⟨S.Eu n k,?_⟩;simp[enc,D.cells];rw[show S.cells n (S.Eu n k)=_ from u.cells n _,u.sC];simpa using hk
  .cases m
end
end
section
section
variable {P:Program}{w:World}{H:Type}{N3:TypeId×Value->H}
theorem V7(p:fy S){ty:TypeId->O Ty}(l:∀t τ,ty t=Z τ->rdT S P ty t τ=W){t:TypeId}{τ:Ty}(o:ty t=Z τ){v:Value}{d:DataW H}{ps:L MemPlace}{base:Nat}(g:Value.okWide P w .any base t v)
  (h:DataW.Trod N3 P w 0 (λ_=>W) W t v d ps) (i:(d.weights P t).all (·<=reachBytes)=W):∃x:den S.A τ,dD (λb=>b<w.heap.size) w (enc S τ x) v:=by
 let ⟨fuel,h⟩:=h
 let ⟨x,f⟩:=aav (I:=λb=>b<w.heap.size) p l (λ_ h=>h) fuel t τ _ d ps o h i
 refine⟨x,?_⟩;have k:=l t τ o;unfold rdT at k;split at k
 .rename_i e;obtain⟨b,rfl⟩:=WideShapes.okWide_bool e g;exact f.2 0 _ _ rfl rfl
 .rename_i e;obtain⟨n,rfl⟩:=WideShapes.okWide_int e g;exact f.2 0 _ _ rfl rfl
 .rename_i e;obtain⟨b,rfl⟩:=WideShapes.okWide_string e g;exact f.2 0 _ _ rfl rfl
 .rename_i e;obtain⟨a,n,m,rfl⟩:=WideShapes.okWide_slice e g;exact f.2 0 _ _ rfl rfl
 .rename_i e;obtain⟨q,rfl,_⟩:=WideShapes.okWide_struct e g;refine .agg _ _ (by have:=f.1;grind[enc,D.cells,Value.cells]) ?_ (λj c u h1 h2=>f.2 j c u h1 (by simpa[Value.cells]using h2))
  grind[NZ,enc,D.flat,D.cells]
 .cases k
def IM(i:fy S){ty:TypeId->O Ty}(l:∀t τ,ty t=Z τ->rdT S P ty t τ=W){base:Nat}:∀(ts:L TypeId)(τs:L Ty)(vs:L Value)(ds:L (DataW H))(ps:L MemPlace),
  PW (λt τ=>ty t=Z τ) ts τs->(∀(j:Nat)t v,ts[j]?=Z t->vs[j]?=Z v->Value.okWide P w .any base t v)->DataW.TrodAll N3 P w 0 (λ_=>W) W ts vs ds ps->
  (DataW.weightsEach P ts ds).all (·<=reachBytes)=W->∃x:gp S.A (τs.map λτ=>.one (.dat τ)),rE S (λb=>b<w.heap.size) w (τs.map λτ=>.one (.dat τ)) x vs [] []
 |[],[],vs,ds,ps,_,_,h,_=>by cases vs with|nil=>exact⟨(),.nil⟩|cons v vs=>cases ds<;>simp[DataW.TrodAll]at h
 |t::ts,τ::τs,vs,ds,ps,c,m,h,e=>by
  cases vs with
  |nil=>cases ds<;>simp[DataW.TrodAll]at h
  |cons v vs=>
  cases ds with
  |nil=>simp[DataW.TrodAll]at h|cons d ds=>
  let ⟨p,q,h1,h2,_⟩:=h
  simp only[DataW.weightsEach,MV,fF]at e
  let ⟨x,n⟩:=V7 i l (c.2 0 t τ rfl rfl) (m 0 t v rfl rfl) h1 e.1
  let ⟨k,o⟩:=IM i l ts τs vs ds q ⟨by simpa using c.1,λj a b f g=>c.2 (j+1) a b (by simpa using f) (by simpa using g)⟩ (λj t v f g=>m (j+1) t v (by simpa using f) (by simpa using g)) h2 e.2
  exact⟨(x,k),.one (.dat n .nil) o⟩
 |[],τ::τs,_,_,_,c,_,_,_=>by have:=c.1;simp at this
 |t::ts,[],_,_,_,c,_,_,_=>by have:=c.1;simp at this
theorem ET{w':World}(hl:laidOutB P=W)(e:∀b,b<w.heap.size->w'.heap[b]?=w.heap[b]?):∀(ts:L TypeId)(vs:L Value)(ds:L (DataW H))(ps:L MemPlace),(∀t∈ts,P.readableRec t=W∧t<P.types.size)->
  DataW.TrodAll N3 P w 0 (λ_=>W) W ts vs ds ps->(∀p∈ps,p.block<w.heap.size)->DataW.TrodAll N3 P w' 0 (λb=>decide (b<w.heap.size)) W ts vs ds ps
 |[],[],[],ps,_,h,_=>h|t::ts,v::vs,d::ds,ps,c,h,f=>by obtain⟨p,q,h1,h2,rfl⟩:=h;refine⟨p,q,WideElems.Trod_stays hl (c t eJ).1 (c t eJ).2 h1 (λx a=>?_) (λx a=>by simp_all),ET hl e ts vs ds q (λt g=>c t (ic _ g)) h2 λx a=>f x (eY _ a),rfl⟩;have:=e x.block (f x (fU _ a));cases x with|cell b off=>show w'.cell? _=w.cell? _;unfold World.cell?;rw[show w'.heap[b]?=w.heap[b]? from this]|map b=>exact this
 |[],[],_::_,_,_,h,_=>by simp[DataW.TrodAll]at h
 |[],_::_,_,_,_,h,_=>by simp[DataW.TrodAll]at h
 |_::_,[],_,_,_,h,_=>by simp[DataW.TrodAll]at h
 |_::_,_::_,[],_,_,h,_=>by simp[DataW.TrodAll]at h
theorem KM{w':World}(c:w'.os=w.os)(a:w'.output=w.output)(e:∀b,b<w.heap.size->w'.heap[b]?=w.heap[b]?)(d:MemPlace->Prop):w.keptBut w' d:=by
 refine⟨c,a,λi f=>?_⟩
 grind
theorem UC(hS:fy S){ty:TypeId->O Ty}(hR:∀t τ,ty t=Z τ->rdT S P ty t τ=W)(hl:laidOutB P=W){f:FuncId}{fn:Func}{s:ChangeSpec}{apart fresh i:Bool}{τs:L Ty}{tb:TypeId}
  (hτ:PW (λt τ=>ty t=Z τ) fn.params.toList τs) (hrd:∀t∈fn.params.toList,P.readableRec t=W∧t<P.types.size) (C:fn.resultTypes=#[tb]) (hb:P.underlying tb=Z .bool) (k:s.vars=[])
  (w:∀ds:L (DataW H),ds.length=τs.length->(s.fn H ds).results=[.lit (.bool W)]∧(s.fn H ds).args=ds∧(s.fn H ds).vars=[])
  (hF:∀x:gp S.A (τs.map λτ=>Pk.one (.dat τ)),∃F r,bC P f (⟨τs.map λτ=>.one (.dat τ),[.dat .bool],J,F⟩:lI S)∧F x=Z r∧r.1.1=W)
  {a:World} {base:Nat} {args:Array Value} {ds E:L (DataW H)} {l:L MemPlace}
  (o:∀(j:Nat)t v,fn.params[j]?=Z t->args[j]?=Z v->Value.okWide P a .any base t v) (hW:DataW.Whole N3 P fn.params.toList s.vars apart a args.toList ds E l)
  (z:(DataW.weightsEach P (fn.params.toList++s.plain.varTypes P) (ds++E)).all (·<=reachBytes)=W) :
  Calls P f args a λe W'=>∃v,e=.returned v∧s.post N3 P fn apart fresh i J a args v W':=by
 rw[k]at hW;have m:=hW;obtain⟨p,q,I,hV,rfl,hfz,hnd⟩:=hW;have hgs:E=[]∧q=[]:=by cases E with|nil=>exact⟨rfl,hV⟩|cons g E=>simp[DataW.TrodVars]at hV
 obtain⟨rfl,rfl⟩:=hgs;have hvt:s.plain.varTypes P=[]:=by grind[ChangeSpec.plain,DataSpec.varTypes]
 rw[hvt,kj,kj]at z
 let ⟨x,hx⟩:=IM hS hR fn.params.toList τs args.toList ds p hτ (λj t v h1 h2=>o j t v (by simpa using h1) (by simpa using h2)) I z
 let ⟨F,r,K,hr,c⟩:=hF x
 have Q:ds.length=τs.length:=by
  rw[<-hτ.1];clear o m z hfz hnd hV hx hτ hrd;generalize fn.params.toList=ts at I;generalize args.toList=B at I
  induction ts generalizing B ds p with
  |nil=>cases B<;>cases ds<;>simp_all [DataW.TrodAll]
  |cons t ts ih=>
   cases B with
   |nil=>cases ds<;>simp[DataW.TrodAll]at I
   |cons v B=>
    cases ds with
    |nil=>simp[DataW.TrodAll]at I|cons d ds=>
     grind[DataW.TrodAll]
 refine(K.2 x r hr _ a args [] [] hx (λ_ h=>h) .nil (by simp) (by simp)).mono λe W' he=>?_;cases e with
 |panicked ch=>exact he.elim|outgrown=>exact he.elim|returned v=>
 obtain⟨I',B,DA,Br,_,_,_,hsz,A,hos,R,rfl,_,hH,_⟩:=he;have hv:valOf B=.bool W:=by
  generalize r.1=y at hH c
  let ⟨b,u⟩:=y
  cases hH with
  |dat hd hr=>
  cases hr;cases hd;simp only at c;rw[c];rfl
 rw[hv];refine⟨_,rfl,?_⟩
 let ⟨s1,s2,s3⟩:=w ds Q
 have n:∀b,b<a.heap.size->W'.heap[b]?=a.heap[b]?:=λb hb=>A b hb (by simp) (by simp);have hlt:∀x∈p,x.block<a.heap.size:=λx hx=>m.lt x (by simpa using hx);rw[kj]at m;unfold ChangeSpec.post;rw[k];refine⟨ds,[],p,[],p,[],m,?_,?_,?_,KM hos R n _,λh=>by cases h⟩
 .rw[kj,s1,C];refine⟨[],[],⟨1,?_⟩,rfl,rfl⟩;simp[DataW.trod,hb,Value.cells]
 .grind[ET]
 .rw[kj,s3];rfl
end
end
end TL
end
section
namespace Mn
open Go TL
section
open Proofs.Tryz
def z0:TI:=⟨1,J,[.lit .nilFunc],[],.other⟩
abbrev n1{α:Type}(x:α)(l r:Tr α):Tr α:=.node (Z x) l r
abbrev n0{α:Type}(l r:Tr α):Tr α:=.node Y l r
abbrev e0{α:Type}:Tr α:=.nil
abbrev bE{α:Type}(x:α):Tr α:=.node (Z x) .nil .nil
abbrev cM(l r:Tr TI):Tr TI:=.node (Z z0) l r
abbrev bX:Tr TI:=.node (Z z0) .nil .nil
abbrev aF:D:=.lit (.int .i64 0)
abbrev dG:D:=.lit (.string ⟨#[]⟩)
abbrev jc:D:=.lit (.pointer Y)
abbrev eA:D:=.lit .nilFunc
abbrev IQ:Kd:=.struct [(0,1,J)]
abbrev vo:Kd:=.struct [(0,1,J),(1,1,J)]
abbrev rN:Kd:=.struct [(0,1,J),(1,1,J),(2,1,J)]
abbrev oZ:Kd:=.struct [(0,1,J),(1,1,J),(2,1,J),(3,1,J)]
abbrev IP:Kd:=.struct [(0,1,J),(1,1,J),(2,1,J),(3,1,J),(4,1,J)]
structure bN where
 Op:Int
 A:Int
 B:Int
structure aB where
 Form:Int
 N:Int
 Text:List UInt8
 Bf:List aB
structure cw where
 Name:List UInt8
 lg:Int
structure aA where
 dL:List bN
 eC:List aB
 cX:List Int
 Main:Int
 Cons:List cw
structure ax where
 Kind:Int
 N:Int
structure ai where
 At:Int
 Env:List ax
 Stack:List ax
 dI:Bool
structure bx where
 Form:Int
 N:Int
 gu:List ax
 Frames:List ai
structure ei where
 Port:Int
 N:Int
structure ak where
 aS:List bx
 cq:List Int
 nV:List ei
 dL:List Int
 Used:Int
structure av where
 Reached:Bool
 Stack:Int
 Env:Int
structure bD where
 C:aA
 D:List av
structure aP where
 Task:Int
 Do:Int
 N:Int
 V:ax
structure aZ where
 W:ak
 agz:Int
 E:aP
structure cW where
 ak:ak
 code:aA
 YA:List av
 Pc:List (Int×Bool)
structure se where
structure iI where
 aP:aP
structure rD where
inductive fS where
 |a0 (x:se)|a1 (x:iI)|a2 (x:rD)|none
structure cF where
 OG:Int
 N:Int
 Text:List UInt8
 Bf:List cF
structure iR where
 Name:List UInt8
 lg:List cF
structure kL where
 Name:List UInt8
 Cons:List iR
structure Term where
 Op:Int
 N:Int
 Text:List UInt8
 Kids:List Term
 eC:List aB
structure cV where
 Name:List UInt8
 Param:List UInt8
 OK:cF
 To:cF
 Body:Term
structure ec where
 Name:List UInt8
 adS:List kL
 cX:List cV
structure gI where
 Op:Int
 N:Int
 Kids:List Int
 eC:List aB
structure gS where
 adO:List gI
 cX:List Int
 Main:Int
 Cons:List cw
structure bh where
 At:Int
 jP:av
structure iH where
 waits:Bool
 state:Int
structure dK where
 qV:List (List UInt8)
 cons:List cw
 nodes:List gI
structure oc where
 a0:Int
 a1:Int
structure bJ where
 dL:List bN
 eC:List aB
 Want:List oc
structure m8 where
 env:Int
structure jR where
 stack:Int
structure nc where
 stack:Int
inductive eD where
 |a0 (x:m8)|a1 (x:jR)|a2 (x:nc)|none
structure fT where
 Kind:Int
 Text:List UInt8
 N:Int
 At:Int
structure bM where
 l_:List fT
 at_:Int
 bad:Bool
structure eI where
 low:Int
 high:Int
 asked:Bool
inductive Any where
 |a0 (x:iH)|none
def bY:bN:=⟨0,0,0⟩
def aK:aB:=⟨0,0,[],[]⟩
def aY:cw:=⟨[],0⟩
def qi:aA:=⟨[],[],[],0,[]⟩
def bq:ax:=⟨0,0⟩
def bz:ai:=⟨0,[],[],J⟩
def bL:bx:=⟨0,0,[],[]⟩
def ru:ei:=⟨0,0⟩
def cY:ak:=⟨[],[],[],[],0⟩
def aU:av:=⟨J,0,0⟩
def lG:bD:=⟨qi,[]⟩
def cN:aP:=⟨0,0,0,bq⟩
def jN:aZ:=⟨cY,0,cN⟩
def Du:cW:=⟨cY,qi,[],[]⟩
def N8:se:=⟨⟩
def JC:iI:=⟨cN⟩
def JA:rD:=⟨⟩
def acm:fS:=.none
def nO:cF:=⟨0,0,[],[]⟩
def iC:iR:=⟨[],[]⟩
def mI:kL:=⟨[],[]⟩
def r6:Term:=⟨0,0,[],[],[]⟩
def dN:cV:=⟨[],[],nO,nO,r6⟩
def kI:ec:=⟨[],[],[]⟩
def tO:gI:=⟨0,0,[],[]⟩
def qj:gS:=⟨[],[],0,[]⟩
def aW:bh:=⟨0,aU⟩
def AS:iH:=⟨J,0⟩
def ry:dK:=⟨[],[],[]⟩
def AT:oc:=⟨0,0⟩
def g8:bJ:=⟨[],[],[]⟩
def Jz:m8:=⟨0⟩
def zA:jR:=⟨0⟩
def JB:nc:=⟨0⟩
def Vg:eD:=.none
def dH:fT:=⟨0,[],0,0⟩
def rq:bM:=⟨[],0,J⟩
def fN:eI:=⟨0,0,J⟩
def aqU:Any:=.none
def wV(x:bN):L D:=[.lit (.int .i64 x.Op),.lit (.int .i64 x.A),.lit (.int .i64 x.B)]
mutual
def wT:aB->L D
 |.mk x0 x1 x2 x3=>[.lit (.int .i64 x0),.lit (.int .i64 x1),.lit (.string (cg x2)),.sl (jf x3)]
def jf:L aB->L D
 |[]=>[]|y::l=>.agg (wT y)::jf l
end
def gx:∀l:L aB,jf l=l.map (λy=>.agg (wT y))
 |[]=>rfl|y::l=>by simp only[jf,pz,gx l]
def tR(x:cw):L D:=[.lit (.string (cg x.Name)),.lit (.int .i64 x.lg)]
def Cl(x:aA):L D:=[.sl (List.map (λy=>.agg (wV y)) x.dL),.sl (jf x.eC),.sl (List.map (λy=>.lit (.int .i64 y)) x.cX),.lit (.int .i64 x.Main),.sl (List.map (λy=>.agg (tR y)) x.Cons)]
def A0(x:ax):L D:=[.lit (.int .i64 x.Kind),.lit (.int .i64 x.N)]
def JJ(x:ai):L D:=[.lit (.int .i64 x.At),.sl (List.map (λy=>.agg (A0 y)) x.Env),.sl (List.map (λy=>.agg (A0 y)) x.Stack),.lit (.bool x.dI)]
def EG(x:bx):L D:=[.lit (.int .i64 x.Form),.lit (.int .i64 x.N),.sl (List.map (λy=>.agg (A0 y)) x.gu),.sl (List.map (λy=>.agg (JJ y)) x.Frames)]
def A1(x:ei):L D:=[.lit (.int .i64 x.Port),.lit (.int .i64 x.N)]
def Vj(x:ak):L D:=[.sl (List.map (λy=>.agg (EG y)) x.aS),.sl (List.map (λy=>.lit (.int .i64 y)) x.cq),.sl (List.map (λy=>.agg (A1 y)) x.nV),.sl (List.map (λy=>.lit (.int .i64 y)) x.dL),.lit (.int .i64 x.Used)]
def zG(x:av):L D:=[.lit (.bool x.Reached),.lit (.int .i64 x.Stack),.lit (.int .i64 x.Env)]
def lH(x:bD):L D:=[.sl (List.map (λy=>.agg (wV y)) x.C.dL),.sl (jf x.C.eC),.sl (List.map (λy=>.lit (.int .i64 y)) x.C.cX),.lit (.int .i64 x.C.Main),.sl (List.map (λy=>.agg (tR y)) x.C.Cons),.sl (List.map (λy=>.agg (zG y)) x.D)]
def QM(x:aP):L D:=[.lit (.int .i64 x.Task),.lit (.int .i64 x.Do),.lit (.int .i64 x.N),.lit (.int .i64 x.V.Kind),.lit (.int .i64 x.V.N)]
def DW(x:aZ):L D:=[.sl (List.map (λy=>.agg (EG y)) x.W.aS),.sl (List.map (λy=>.lit (.int .i64 y)) x.W.cq),.sl (List.map (λy=>.agg (A1 y)) x.W.nV),.sl (List.map (λy=>.lit (.int .i64 y)) x.W.dL),.lit (.int .i64 x.W.Used),.lit (.int .i64 x.agz),.lit (.int .i64 x.E.Task),.lit (.int .i64 x.E.Do),.lit (.int .i64 x.E.N),.lit (.int .i64 x.E.V.Kind),.lit (.int .i64 x.E.V.N)]
def wU(x:cW):L D:=[.sl (List.map (λy=>.agg (EG y)) x.ak.aS),.sl (List.map (λy=>.lit (.int .i64 y)) x.ak.cq),.sl (List.map (λy=>.agg (A1 y)) x.ak.nV),.sl (List.map (λy=>.lit (.int .i64 y)) x.ak.dL),.lit (.int .i64 x.ak.Used),.sl (List.map (λy=>.agg (wV y)) x.code.dL),.sl (jf x.code.eC),.sl (List.map (λy=>.lit (.int .i64 y)) x.code.cX),.lit (.int .i64 x.code.Main),.sl (List.map (λy=>.agg (tR y)) x.code.Cons),.sl (List.map (λy=>.agg (zG y)) x.YA),.mp (List.map (λy=>.lit (.int .i64 y.1)) x.Pc) (List.map (λy=>.lit (.bool y.2)) x.Pc)]
def Of(x:se):L D:=[]
def JM(x:iI):L D:=[.lit (.int .i64 x.aP.Task),.lit (.int .i64 x.aP.Do),.lit (.int .i64 x.aP.N),.lit (.int .i64 x.aP.V.Kind),.lit (.int .i64 x.aP.V.N)]
def JK(x:rD):L D:=[]
def SM:fS->O (TypeId×D)
 |.a0 x=>Z (197,.agg (Of x))|.a1 x=>Z (203,.agg (JM x))|.a2 x=>Z (213,.agg (JK x))|.none=>Y
def acv(x:fS):L D:=[O2 (SM x)]
mutual
def tP:cF->L D
 |.mk x0 x1 x2 x3=>[.lit (.int .i64 x0),.lit (.int .i64 x1),.lit (.string (cg x2)),.sl (me x3)]
def me:L cF->L D
 |[]=>[]|y::l=>.agg (tP y)::me l
end
def mZ:∀l:L cF,me l=l.map (λy=>.agg (tP y))
 |[]=>rfl|y::l=>by simp only[me,pz,mZ l]
def r9(x:iR):L D:=[.lit (.string (cg x.Name)),.sl (me x.lg)]
def JI(x:kL):L D:=[.lit (.string (cg x.Name)),.sl (List.map (λy=>.agg (r9 y)) x.Cons)]
mutual
def Oh:Term->L D
 |.mk x0 x1 x2 x3 x4=>[.lit (.int .i64 x0),.lit (.int .i64 x1),.lit (.string (cg x2)),.sl (GK x3),.sl (jf x4)]
def GK:L Term->L D
 |[]=>[]|y::l=>.agg (Oh y)::GK l
end
def zB:∀l:L Term,GK l=l.map (λy=>.agg (Oh y))
 |[]=>rfl|y::l=>by simp only[GK,pz,zB l]
def r8(x:cV):L D:=[.lit (.string (cg x.Name)),.lit (.string (cg x.Param)),.lit (.int .i64 x.OK.OG),.lit (.int .i64 x.OK.N),.lit (.string (cg x.OK.Text)),.sl (me x.OK.Bf),.lit (.int .i64 x.To.OG),.lit (.int .i64 x.To.N),.lit (.string (cg x.To.Text)),.sl (me x.To.Bf),.lit (.int .i64 x.Body.Op),.lit (.int .i64 x.Body.N),.lit (.string (cg x.Body.Text)),.sl (GK x.Body.Kids),.sl (jf x.Body.eC)]
def Og(x:ec):L D:=[.lit (.string (cg x.Name)),.sl (List.map (λy=>.agg (JI y)) x.adS),.sl (List.map (λy=>.agg (r8 y)) x.cX)]
def tQ(x:gI):L D:=[.lit (.int .i64 x.Op),.lit (.int .i64 x.N),.sl (List.map (λy=>.lit (.int .i64 y)) x.Kids),.sl (jf x.eC)]
def Vk(x:gS):L D:=[.sl (List.map (λy=>.agg (tQ y)) x.adO),.sl (List.map (λy=>.lit (.int .i64 y)) x.cX),.lit (.int .i64 x.Main),.sl (List.map (λy=>.agg (tR y)) x.Cons)]
def AZ(x:bh):L D:=[.lit (.int .i64 x.At),.lit (.bool x.jP.Reached),.lit (.int .i64 x.jP.Stack),.lit (.int .i64 x.jP.Env)]
def A2(x:iH):L D:=[.lit (.bool x.waits),.lit (.int .i64 x.state)]
def zH(x:dK):L D:=[.sl (List.map (λy=>.lit (.string (cg y))) x.qV),.sl (List.map (λy=>.agg (tR y)) x.cons),.sl (List.map (λy=>.agg (tQ y)) x.nodes)]
def Oi(x:oc):L D:=[.lit (.int .i64 x.a0),.lit (.int .i64 x.a1)]
def nP(x:bJ):L D:=[.sl (List.map (λy=>.agg (wV y)) x.dL),.sl (jf x.eC),.sl (List.map (λy=>.agg (Oi y)) x.Want)]
def JH(x:m8):L D:=[.lit (.int .i64 x.env)]
def GV(x:jR):L D:=[.lit (.int .i64 x.stack)]
def JL(x:nc):L D:=[.lit (.int .i64 x.stack)]
def Jm:eD->O (TypeId×D)
 |.a0 x=>Z (315,.agg (JH x))|.a1 x=>Z (317,.agg (GV x))|.a2 x=>Z (318,.agg (JL x))|.none=>Y
def Vl(x:eD):L D:=[O2 (Jm x)]
def GU(x:fT):L D:=[.lit (.int .i64 x.Kind),.lit (.string (cg x.Text)),.lit (.int .i64 x.N),.lit (.int .i64 x.At)]
def zF(x:bM):L D:=[.sl (List.map (λy=>.agg (GU y)) x.l_),.lit (.int .i64 x.at_),.lit (.bool x.bad)]
def QN(x:eI):L D:=[.lit (.int .i64 x.low),.lit (.int .i64 x.high),.lit (.bool x.asked)]
def aiQ:Any->O (TypeId×D)
 |.a0 x=>Z (199,.agg (A2 x))|.none=>Y
def aq3(x:Any):L D:=[O2 (aiQ x)]
def Od:Nat->Type
 |0=>bN|1=>aB|2=>cw|3=>aA|4=>ax|5=>ai|6=>bx|7=>ei|8=>ak|9=>av|10=>bD|11=>aP|12=>aZ|13=>cW|14=>se|15=>iI|16=>rD|17=>fS|18=>cF|19=>iR|20=>kL|21=>Term|22=>cV|23=>ec|24=>gI|25=>gS|26=>bh|27=>iH|28=>dK|29=>oc|30=>bJ|31=>m8|32=>jR|33=>nc|34=>eD|35=>fT|36=>bM|37=>eI|38=>Any|_+39=>U
def fields:Nat->L Ty
 |0=>[.int .i64,.int .i64,.int .i64]|1=>[.int .i64,.int .i64,.str,.sl (.st 1)]|2=>[.str,.int .i64]|3=>[.sl (.st 0),.sl (.st 1),.sl (.int .i64),.int .i64,.sl (.st 2)]|4=>[.int .i64,.int .i64]|5=>[.int .i64,.sl (.st 4),.sl (.st 4),.bool]|6=>[.int .i64,.int .i64,.sl (.st 4),.sl (.st 5)]|7=>[.int .i64,.int .i64]|8=>[.sl (.st 6),.sl (.int .i64),.sl (.st 7),.sl (.int .i64),.int .i64]|9=>[.bool,.int .i64,.int .i64]|10=>[.sl (.st 0),.sl (.st 1),.sl (.int .i64),.int .i64,.sl (.st 2),.sl (.st 9)]|11=>[.int .i64,.int .i64,.int .i64,.int .i64,.int .i64]|12=>[.sl (.st 6),.sl (.int .i64),.sl (.st 7),.sl (.int .i64),.int .i64,.int .i64,.int .i64,.int .i64,.int .i64,.int .i64,.int .i64]|13=>[.sl (.st 6),.sl (.int .i64),.sl (.st 7),.sl (.int .i64),.int .i64,.sl (.st 0),.sl (.st 1),.sl (.int .i64),.int .i64,.sl (.st 2),.sl (.st 9),.mp (.int .i64) (.bool)]|14=>[]|15=>[.int .i64,.int .i64,.int .i64,.int .i64,.int .i64]|16=>[]|17=>[.di 17]|18=>[.int .i64,.int .i64,.str,.sl (.st 18)]|19=>[.str,.sl (.st 18)]|20=>[.str,.sl (.st 19)]|21=>[.int .i64,.int .i64,.str,.sl (.st 21),.sl (.st 1)]|22=>[.str,.str,.int .i64,.int .i64,.str,.sl (.st 18),.int .i64,.int .i64,.str,.sl (.st 18),.int .i64,.int .i64,.str,.sl (.st 21),.sl (.st 1)]|23=>[.str,.sl (.st 20),.sl (.st 22)]|24=>[.int .i64,.int .i64,.sl (.int .i64),.sl (.st 1)]|25=>[.sl (.st 24),.sl (.int .i64),.int .i64,.sl (.st 2)]|26=>[.int .i64,.bool,.int .i64,.int .i64]|27=>[.bool,.int .i64]|28=>[.sl (.str),.sl (.st 2),.sl (.st 24)]|29=>[.int .i64,.int .i64]|30=>[.sl (.st 0),.sl (.st 1),.sl (.st 29)]|31=>[.int .i64]|32=>[.int .i64]|33=>[.int .i64]|34=>[.di 34]|35=>[.int .i64,.str,.int .i64,.int .i64]|36=>[.sl (.st 35),.int .i64,.bool]|37=>[.int .i64,.int .i64,.bool]|38=>[.di 38]|_+39=>[]
def dflt:(n:Nat)->Od n
 |0=>bY|1=>aK|2=>aY|3=>qi|4=>bq|5=>bz|6=>bL|7=>ru|8=>cY|9=>aU|10=>lG|11=>cN|12=>jN|13=>Du|14=>N8|15=>JC|16=>JA|17=>acm|18=>nO|19=>iC|20=>mI|21=>r6|22=>dN|23=>kI|24=>tO|25=>qj|26=>aW|27=>AS|28=>ry|29=>AT|30=>g8|31=>Jz|32=>zA|33=>JB|34=>Vg|35=>dH|36=>rq|37=>fN|38=>aqU|_+39=>()
def ab1:(n:Nat)->Od n->l7 Od (fields n)
 |0,x=>(bN.Op x,bN.A x,bN.B x,())|1,x=>(aB.Form x,aB.N x,aB.Text x,aB.Bf x,())|2,x=>(cw.Name x,cw.lg x,())|3,x=>(aA.dL x,aA.eC x,aA.cX x,aA.Main x,aA.Cons x,())|4,x=>(ax.Kind x,ax.N x,())|5,x=>(ai.At x,ai.Env x,ai.Stack x,ai.dI x,())|6,x=>(bx.Form x,bx.N x,bx.gu x,bx.Frames x,())|7,x=>(ei.Port x,ei.N x,())|8,x=>(ak.aS x,ak.cq x,ak.nV x,ak.dL x,ak.Used x,())|9,x=>(av.Reached x,av.Stack x,av.Env x,())|10,x=>((bD.C x).dL,(bD.C x).eC,(bD.C x).cX,(bD.C x).Main,(bD.C x).Cons,bD.D x,())|11,x=>(aP.Task x,aP.Do x,aP.N x,(aP.V x).Kind,(aP.V x).N,())|12,x=>((aZ.W x).aS,(aZ.W x).cq,(aZ.W x).nV,(aZ.W x).dL,(aZ.W x).Used,aZ.agz x,(aZ.E x).Task,(aZ.E x).Do,(aZ.E x).N,(aZ.E x).V.Kind,(aZ.E x).V.N,())|13,x=>((cW.ak x).aS,(cW.ak x).cq,(cW.ak x).nV,(cW.ak x).dL,(cW.ak x).Used,(cW.code x).dL,(cW.code x).eC,(cW.code x).cX,(cW.code x).Main,(cW.code x).Cons,cW.YA x,cW.Pc x,())|14,_=>()|15,x=>((iI.aP x).Task,(iI.aP x).Do,(iI.aP x).N,(iI.aP x).V.Kind,(iI.aP x).V.N,())|16,_=>()|17,x=>(x,())|18,x=>(cF.OG x,cF.N x,cF.Text x,cF.Bf x,())|19,x=>(iR.Name x,iR.lg x,())|20,x=>(kL.Name x,kL.Cons x,())|21,x=>(Term.Op x,Term.N x,Term.Text x,Term.Kids x,Term.eC x,())|22,x=>(cV.Name x,cV.Param x,(cV.OK x).OG,(cV.OK x).N,(cV.OK x).Text,(cV.OK x).Bf,(cV.To x).OG,(cV.To x).N,(cV.To x).Text,(cV.To x).Bf,(cV.Body x).Op,(cV.Body x).N,(cV.Body x).Text,(cV.Body x).Kids,(cV.Body x).eC,())|23,x=>(ec.Name x,ec.adS x,ec.cX x,())|24,x=>(gI.Op x,gI.N x,gI.Kids x,gI.eC x,())|25,x=>(gS.adO x,gS.cX x,gS.Main x,gS.Cons x,())|26,x=>(bh.At x,(bh.jP x).Reached,(bh.jP x).Stack,(bh.jP x).Env,())|27,x=>(iH.waits x,iH.state x,())|28,x=>(dK.qV x,dK.cons x,dK.nodes x,())|29,x=>(oc.a0 x,oc.a1 x,())|30,x=>(bJ.dL x,bJ.eC x,bJ.Want x,())|31,x=>(m8.env x,())|32,x=>(jR.stack x,())|33,x=>(nc.stack x,())|34,x=>(x,())|35,x=>(fT.Kind x,fT.Text x,fT.N x,fT.At x,())|36,x=>(bM.l_ x,bM.at_ x,bM.bad x,())|37,x=>(eI.low x,eI.high x,eI.asked x,())|38,x=>(x,())|_+39,_=>()
def Xn:(n:Nat)->l7 Od (fields n)->Od n
 |0,(x0,x1,x2,())=>(⟨x0,x1,x2⟩:bN)|1,(x0,x1,x2,x3,())=>(⟨x0,x1,x2,x3⟩:aB)|2,(x0,x1,())=>(⟨x0,x1⟩:cw)|3,(x0,x1,x2,x3,x4,())=>(⟨x0,x1,x2,x3,x4⟩:aA)|4,(x0,x1,())=>(⟨x0,x1⟩:ax)|5,(x0,x1,x2,x3,())=>(⟨x0,x1,x2,x3⟩:ai)|6,(x0,x1,x2,x3,())=>(⟨x0,x1,x2,x3⟩:bx)|7,(x0,x1,())=>(⟨x0,x1⟩:ei)|8,(x0,x1,x2,x3,x4,())=>(⟨x0,x1,x2,x3,x4⟩:ak)|9,(x0,x1,x2,())=>(⟨x0,x1,x2⟩:av)|10,(x0,x1,x2,x3,x4,x5,())=>(⟨⟨x0,x1,x2,x3,x4⟩,x5⟩:bD)|11,(x0,x1,x2,x3,x4,())=>(⟨x0,x1,x2,⟨x3,x4⟩⟩:aP)|12,(x0,x1,x2,x3,x4,x5,x6,x7,x8,x9,V1,())=>(⟨⟨x0,x1,x2,x3,x4⟩,x5,⟨x6,x7,x8,⟨x9,V1⟩⟩⟩:aZ)|13,(x0,x1,x2,x3,x4,x5,x6,x7,x8,x9,V1,x11,())=>(⟨⟨x0,x1,x2,x3,x4⟩,⟨x5,x6,x7,x8,x9⟩,V1,x11⟩:cW)|14,_=>(⟨⟩:se)|15,(x0,x1,x2,x3,x4,())=>(⟨⟨x0,x1,x2,⟨x3,x4⟩⟩⟩:iI)|16,_=>(⟨⟩:rD)|17,(x,())=>x|18,(x0,x1,x2,x3,())=>(⟨x0,x1,x2,x3⟩:cF)|19,(x0,x1,())=>(⟨x0,x1⟩:iR)|20,(x0,x1,())=>(⟨x0,x1⟩:kL)|21,(x0,x1,x2,x3,x4,())=>(⟨x0,x1,x2,x3,x4⟩:Term)|22,(x0,x1,x2,x3,x4,x5,x6,x7,x8,x9,V1,x11,x12,x13,x14,())=>(⟨x0,x1,⟨x2,x3,x4,x5⟩,⟨x6,x7,x8,x9⟩,⟨V1,x11,x12,x13,x14⟩⟩:cV)|23,(x0,x1,x2,())=>(⟨x0,x1,x2⟩:ec)|24,(x0,x1,x2,x3,())=>(⟨x0,x1,x2,x3⟩:gI)|25,(x0,x1,x2,x3,())=>(⟨x0,x1,x2,x3⟩:gS)|26,(x0,x1,x2,x3,())=>(⟨x0,⟨x1,x2,x3⟩⟩:bh)|27,(x0,x1,())=>(⟨x0,x1⟩:iH)|28,(x0,x1,x2,())=>(⟨x0,x1,x2⟩:dK)|29,(x0,x1,())=>(⟨x0,x1⟩:oc)|30,(x0,x1,x2,())=>(⟨x0,x1,x2⟩:bJ)|31,(x0,())=>(⟨x0⟩:m8)|32,(x0,())=>(⟨x0⟩:jR)|33,(x0,())=>(⟨x0⟩:nc)|34,(x,())=>x|35,(x0,x1,x2,x3,())=>(⟨x0,x1,x2,x3⟩:fT)|36,(x0,x1,x2,())=>(⟨x0,x1,x2⟩:bM)|37,(x0,x1,x2,())=>(⟨x0,x1,x2⟩:eI)|38,(x,())=>x|_+39,_=>()
def YK:(n:Nat)->Od n->L D
 |0,x=>wV x|1,x=>wT x|2,x=>tR x|3,x=>Cl x|4,x=>A0 x|5,x=>JJ x|6,x=>EG x|7,x=>A1 x|8,x=>Vj x|9,x=>zG x|10,x=>lH x|11,x=>QM x|12,x=>DW x|13,x=>wU x|14,x=>Of x|15,x=>JM x|16,x=>JK x|17,x=>acv x|18,x=>tP x|19,x=>r9 x|20,x=>JI x|21,x=>Oh x|22,x=>r8 x|23,x=>Og x|24,x=>tQ x|25,x=>Vk x|26,x=>AZ x|27,x=>A2 x|28,x=>zH x|29,x=>Oi x|30,x=>nP x|31,x=>JH x|32,x=>GV x|33,x=>JL x|34,x=>Vl x|35,x=>GU x|36,x=>zF x|37,x=>QN x|38,x=>aq3 x|_+39,_=>[]
def JS:Nat->L (TypeId×Ty)
 |17=>[(197,.st 14),(203,.st 15),(213,.st 16)]|34=>[(315,.st 31),(317,.st 32),(318,.st 33)]|38=>[(199,.st 27)]|_=>[]
def jt:(n:Nat)->Od n->ye Od (JS n)
 |0,_=>()|1,_=>()|2,_=>()|3,_=>()|4,_=>()|5,_=>()|6,_=>()|7,_=>()|8,_=>()|9,_=>()|10,_=>()|11,_=>()|12,_=>()|13,_=>()|14,_=>()|15,_=>()|16,_=>()|17,.a0 x=>.inl x|17,.a1 x=>.inr (.inl x)|17,.a2 x=>.inr (.inr (.inl x))|17,.none=>.inr (.inr (.inr (())))|18,_=>()|19,_=>()|20,_=>()|21,_=>()|22,_=>()|23,_=>()|24,_=>()|25,_=>()|26,_=>()|27,_=>()|28,_=>()|29,_=>()|30,_=>()|31,_=>()|32,_=>()|33,_=>()|34,.a0 x=>.inl x|34,.a1 x=>.inr (.inl x)|34,.a2 x=>.inr (.inr (.inl x))|34,.none=>.inr (.inr (.inr (())))|35,_=>()|36,_=>()|37,_=>()|38,.a0 x=>.inl x|38,.none=>.inr (())|_+39,_=>()
def aiN:(n:Nat)->ye Od (JS n)->Od n
 |0,_=>bY|1,_=>aK|2,_=>aY|3,_=>qi|4,_=>bq|5,_=>bz|6,_=>bL|7,_=>ru|8,_=>cY|9,_=>aU|10,_=>lG|11,_=>cN|12,_=>jN|13,_=>Du|14,_=>N8|15,_=>JC|16,_=>JA|17,.inl x=>(fS.a0 x)|17,.inr (.inl x)=>(fS.a1 x)|17,.inr (.inr (.inl x))=>(fS.a2 x)|17,.inr (.inr (.inr (_)))=>fS.none|18,_=>nO|19,_=>iC|20,_=>mI|21,_=>r6|22,_=>dN|23,_=>kI|24,_=>tO|25,_=>qj|26,_=>aW|27,_=>AS|28,_=>ry|29,_=>AT|30,_=>g8|31,_=>Jz|32,_=>zA|33,_=>JB|34,.inl x=>(eD.a0 x)|34,.inr (.inl x)=>(eD.a1 x)|34,.inr (.inr (.inl x))=>(eD.a2 x)|34,.inr (.inr (.inr (_)))=>eD.none|35,_=>dH|36,_=>rq|37,_=>fN|38,.inl x=>(Any.a0 x)|38,.inr (_)=>Any.none|_+39,_=>()
def XL:(n:Nat)->Od n->O (TypeId×D)
 |17,x=>SM x|34,x=>Jm x|38,x=>aiQ x|_,_=>Y
def sg:Sg:=⟨Od,fields,dflt,ab1,Xn,YK,JS,jt,aiN,XL,.di 38⟩
def sC:(n:Nat)->(h:l7 Od (fields n))->ab1 n (Xn n h)=h
 |0,(x0,x1,x2,())=>rfl|1,(x0,x1,x2,x3,())=>rfl|2,(x0,x1,())=>rfl|3,(x0,x1,x2,x3,x4,())=>rfl|4,(x0,x1,())=>rfl|5,(x0,x1,x2,x3,())=>rfl|6,(x0,x1,x2,x3,())=>rfl|7,(x0,x1,())=>rfl|8,(x0,x1,x2,x3,x4,())=>rfl|9,(x0,x1,x2,())=>rfl|10,(x0,x1,x2,x3,x4,x5,())=>rfl|11,(x0,x1,x2,x3,x4,())=>rfl|12,(x0,x1,x2,x3,x4,x5,x6,x7,x8,x9,V1,())=>rfl|13,(x0,x1,x2,x3,x4,x5,x6,x7,x8,x9,V1,x11,())=>rfl|14,()=>rfl|15,(x0,x1,x2,x3,x4,())=>rfl|16,()=>rfl|17,(x0,())=>rfl|18,(x0,x1,x2,x3,())=>rfl|19,(x0,x1,())=>rfl|20,(x0,x1,())=>rfl|21,(x0,x1,x2,x3,x4,())=>rfl|22,(x0,x1,x2,x3,x4,x5,x6,x7,x8,x9,V1,x11,x12,x13,x14,())=>rfl|23,(x0,x1,x2,())=>rfl|24,(x0,x1,x2,x3,())=>rfl|25,(x0,x1,x2,x3,())=>rfl|26,(x0,x1,x2,x3,())=>rfl|27,(x0,x1,())=>rfl|28,(x0,x1,x2,())=>rfl|29,(x0,x1,())=>rfl|30,(x0,x1,x2,())=>rfl|31,(x0,())=>rfl|32,(x0,())=>rfl|33,(x0,())=>rfl|34,(x0,())=>rfl|35,(x0,x1,x2,x3,())=>rfl|36,(x0,x1,x2,())=>rfl|37,(x0,x1,x2,())=>rfl|38,(x0,())=>rfl|_+39,()=>rfl
def Xk:(n:Nat)->(x:Od n)->Xn n (ab1 n x)=x
 |0,⟨x0,x1,x2⟩=>rfl|1,⟨x0,x1,x2,x3⟩=>rfl|2,⟨x0,x1⟩=>rfl|3,⟨x0,x1,x2,x3,x4⟩=>rfl|4,⟨x0,x1⟩=>rfl|5,⟨x0,x1,x2,x3⟩=>rfl|6,⟨x0,x1,x2,x3⟩=>rfl|7,⟨x0,x1⟩=>rfl|8,⟨x0,x1,x2,x3,x4⟩=>rfl|9,⟨x0,x1,x2⟩=>rfl|10,⟨⟨x0,x1,x2,x3,x4⟩,x5⟩=>rfl|11,⟨x0,x1,x2,⟨x3,x4⟩⟩=>rfl|12,⟨⟨x0,x1,x2,x3,x4⟩,x5,⟨x6,x7,x8,⟨x9,V1⟩⟩⟩=>rfl|13,⟨⟨x0,x1,x2,x3,x4⟩,⟨x5,x6,x7,x8,x9⟩,V1,x11⟩=>rfl|14,.mk=>rfl|15,⟨⟨x0,x1,x2,⟨x3,x4⟩⟩⟩=>rfl|16,.mk=>rfl|17,_=>rfl|18,⟨x0,x1,x2,x3⟩=>rfl|19,⟨x0,x1⟩=>rfl|20,⟨x0,x1⟩=>rfl|21,⟨x0,x1,x2,x3,x4⟩=>rfl|22,⟨x0,x1,⟨x2,x3,x4,x5⟩,⟨x6,x7,x8,x9⟩,⟨V1,x11,x12,x13,x14⟩⟩=>rfl|23,⟨x0,x1,x2⟩=>rfl|24,⟨x0,x1,x2,x3⟩=>rfl|25,⟨x0,x1,x2,x3⟩=>rfl|26,⟨x0,⟨x1,x2,x3⟩⟩=>rfl|27,⟨x0,x1⟩=>rfl|28,⟨x0,x1,x2⟩=>rfl|29,⟨x0,x1⟩=>rfl|30,⟨x0,x1,x2⟩=>rfl|31,⟨x0⟩=>rfl|32,⟨x0⟩=>rfl|33,⟨x0⟩=>rfl|34,_=>rfl|35,⟨x0,x1,x2,x3⟩=>rfl|36,⟨x0,x1,x2⟩=>rfl|37,⟨x0,x1,x2⟩=>rfl|38,_=>rfl|_+39,()=>rfl
def YJ:(n:Nat)->(x:Od n)->YK n x=fe sg (fields n) (ab1 n x)
 |0,_=>rfl|1,.mk x0 x1 x2 x3=>by show wT _=_;simp only[wT,gx];rfl
 |2,_=>rfl|3,x=>by show Cl x=_;simp only[Cl,gx];rfl
 |4,_=>rfl|5,_=>rfl|6,_=>rfl|7,_=>rfl|8,_=>rfl|9,_=>rfl|10,x=>by show lH x=_;simp only[lH,gx];rfl
 |11,_=>rfl|12,_=>rfl|13,x=>by show wU x=_;simp only[wU,gx];rfl
 |14,_=>rfl|15,_=>rfl|16,_=>rfl|17,_=>rfl|18,.mk x0 x1 x2 x3=>by show tP _=_;simp only[tP,mZ];rfl
 |19,x=>by show r9 x=_;simp only[r9,mZ];rfl
 |20,_=>rfl|21,.mk x0 x1 x2 x3 x4=>by show Oh _=_;simp only[Oh,zB,gx];rfl
 |22,x=>by show r8 x=_;simp only[r8,zB,gx,mZ];rfl
 |23,_=>rfl|24,x=>by show tQ x=_;simp only[tQ,gx];rfl
 |25,_=>rfl|26,_=>rfl|27,_=>rfl|28,_=>rfl|29,_=>rfl|30,x=>by show nP x=_;simp only[nP,gx];rfl
 |31,_=>rfl|32,_=>rfl|33,_=>rfl|34,_=>rfl|35,_=>rfl|36,_=>rfl|37,_=>rfl|38,_=>rfl|_+39,()=>rfl
def abf:(n:Nat)->∀t∈fields n,kU t=J
 |0=>λt h=>cJ (l:=fields 0) rfl t h|1=>λt h=>cJ (l:=fields 1) rfl t h|2=>λt h=>cJ (l:=fields 2) rfl t h|3=>λt h=>cJ (l:=fields 3) rfl t h|4=>λt h=>cJ (l:=fields 4) rfl t h|5=>λt h=>cJ (l:=fields 5) rfl t h|6=>λt h=>cJ (l:=fields 6) rfl t h|7=>λt h=>cJ (l:=fields 7) rfl t h|8=>λt h=>cJ (l:=fields 8) rfl t h|9=>λt h=>cJ (l:=fields 9) rfl t h|10=>λt h=>cJ (l:=fields 10) rfl t h|11=>λt h=>cJ (l:=fields 11) rfl t h|12=>λt h=>cJ (l:=fields 12) rfl t h|13=>λt h=>cJ (l:=fields 13) rfl t h|14=>λt h=>cJ (l:=fields 14) rfl t h|15=>λt h=>cJ (l:=fields 15) rfl t h|16=>λt h=>cJ (l:=fields 16) rfl t h|17=>λt h=>cJ (l:=fields 17) rfl t h|18=>λt h=>cJ (l:=fields 18) rfl t h|19=>λt h=>cJ (l:=fields 19) rfl t h|20=>λt h=>cJ (l:=fields 20) rfl t h|21=>λt h=>cJ (l:=fields 21) rfl t h|22=>λt h=>cJ (l:=fields 22) rfl t h|23=>λt h=>cJ (l:=fields 23) rfl t h|24=>λt h=>cJ (l:=fields 24) rfl t h|25=>λt h=>cJ (l:=fields 25) rfl t h|26=>λt h=>cJ (l:=fields 26) rfl t h|27=>λt h=>cJ (l:=fields 27) rfl t h|28=>λt h=>cJ (l:=fields 28) rfl t h|29=>λt h=>cJ (l:=fields 29) rfl t h|30=>λt h=>cJ (l:=fields 30) rfl t h|31=>λt h=>cJ (l:=fields 31) rfl t h|32=>λt h=>cJ (l:=fields 32) rfl t h|33=>λt h=>cJ (l:=fields 33) rfl t h|34=>λt h=>cJ (l:=fields 34) rfl t h|35=>λt h=>cJ (l:=fields 35) rfl t h|36=>λt h=>cJ (l:=fields 36) rfl t h|37=>λt h=>cJ (l:=fields 37) rfl t h|38=>λt h=>cJ (l:=fields 38) rfl t h|_+39=>λ_ h=>by cases h
def Ez:(n:Nat)->(h:ye Od (JS n))->jt n (aiN n h)=h
 |0,()=>rfl|1,()=>rfl|2,()=>rfl|3,()=>rfl|4,()=>rfl|5,()=>rfl|6,()=>rfl|7,()=>rfl|8,()=>rfl|9,()=>rfl|10,()=>rfl|11,()=>rfl|12,()=>rfl|13,()=>rfl|14,()=>rfl|15,()=>rfl|16,()=>rfl|17,.inl x=>rfl|17,.inr (.inl x)=>rfl|17,.inr (.inr (.inl x))=>rfl|17,.inr (.inr (.inr (())))=>rfl|18,()=>rfl|19,()=>rfl|20,()=>rfl|21,()=>rfl|22,()=>rfl|23,()=>rfl|24,()=>rfl|25,()=>rfl|26,()=>rfl|27,()=>rfl|28,()=>rfl|29,()=>rfl|30,()=>rfl|31,()=>rfl|32,()=>rfl|33,()=>rfl|34,.inl x=>rfl|34,.inr (.inl x)=>rfl|34,.inr (.inr (.inl x))=>rfl|34,.inr (.inr (.inr (())))=>rfl|35,()=>rfl|36,()=>rfl|37,()=>rfl|38,.inl x=>rfl|38,.inr (())=>rfl|_+39,()=>rfl
def XK:(n:Nat)->(x:Od n)->XL n x=uN sg (JS n) (jt n x)
 |0,_=>rfl|1,_=>rfl|2,_=>rfl|3,_=>rfl|4,_=>rfl|5,_=>rfl|6,_=>rfl|7,_=>rfl|8,_=>rfl|9,_=>rfl|10,_=>rfl|11,_=>rfl|12,_=>rfl|13,_=>rfl|14,_=>rfl|15,_=>rfl|16,_=>rfl|17,x=>by cases x<;>rfl
 |18,_=>rfl|19,_=>rfl|20,_=>rfl|21,_=>rfl|22,_=>rfl|23,_=>rfl|24,_=>rfl|25,_=>rfl|26,_=>rfl|27,_=>rfl|28,_=>rfl|29,_=>rfl|30,_=>rfl|31,_=>rfl|32,_=>rfl|33,_=>rfl|34,x=>by cases x<;>rfl
 |35,_=>rfl|36,_=>rfl|37,_=>rfl|38,x=>by cases x<;>rfl
 |_+39,()=>rfl
def acC:(n:Nat)->Ot (JS n)=W
 |0=>rfl|1=>rfl|2=>rfl|3=>rfl|4=>rfl|5=>rfl|6=>rfl|7=>rfl|8=>rfl|9=>rfl|10=>rfl|11=>rfl|12=>rfl|13=>rfl|14=>rfl|15=>rfl|16=>rfl|17=>rfl|18=>rfl|19=>rfl|20=>rfl|21=>rfl|22=>rfl|23=>rfl|24=>rfl|25=>rfl|26=>rfl|27=>rfl|28=>rfl|29=>rfl|30=>rfl|31=>rfl|32=>rfl|33=>rfl|34=>rfl|35=>rfl|36=>rfl|37=>rfl|38=>rfl|_+39=>rfl
def ac6:fy sg:=⟨sC,Xk,YJ,abf,Ez,XK,acC⟩
noncomputable def O7:Tr (TI):=(n0 (cM (n1 ⟨1,J,[aF],[],.leaf (.int .i64)⟩ (n1 ⟨4,W,[aF,aF,.lit (.bool J),.lit (.int .u8 0)],[.int .i64,.int .i64,.bool,.int .u8],oZ⟩ (n1 ⟨1,J,[jc],[],.ptr⟩ (n1 ⟨1,J,[.sl []],[],.slice 2 W 16 [aF,aF]⟩ (n1 ⟨2,W,[aF,aF],[.int .i64,.int .i64],vo⟩ (n1 ⟨2,W,[aF,aF],[.int .i64,.int .i64],vo⟩ bX e0) (bE ⟨1,J,[jc],[],.ptr⟩)) (n1 ⟨1,J,[jc],[],.ptr⟩ (n1 ⟨3,W,[dG,.sl [],.sl []],[],rN⟩ bX e0) (n1 ⟨1,J,[jc],[],.ptr⟩ bX e0))) (cM (cM (cM bX e0) (n1 ⟨11,W,[jc,aF,.sl [],aF,.sl [],.sl [],.lit (.bool J),aF,aF,aF,jc],[],.struct [(0,1,J),(1,1,J),(2,1,J),(3,4,W),(7,3,W),(10,1,J)]⟩ bX e0)) (n0 (cM bX e0) (n1 ⟨1,J,[.sl []],[],.slice 4 W 56 [aF,aF,dG,.sl []]⟩ bX e0)))) (n1 ⟨1,J,[.sl []],[],.slice 4 W 56 [aF,aF,dG,.sl []]⟩ (n1 ⟨6,W,[.sl [],.sl [],.sl [],aF,.sl [],.sl []],[],.struct [(0,5,W),(5,1,J)]⟩ (cM (n1 ⟨1,J,[aF],[],.leaf (.int .i64)⟩ bX e0) (n1 ⟨2,W,[.lit (.bool J),aF],[.bool,.int .i64],vo⟩ bX e0)) (n1 ⟨4,W,[aF,.sl [],.sl [],.lit (.bool J)],[],oZ⟩ (cM bX e0) (cM bX e0))) (cM (cM bX (n0 bX e0)) (cM e0 bX)))) (n0 (n0 (n0 (n0 (n1 ⟨1,J,[.lit .nilIface],[],.iface⟩ (bE ⟨1,J,[.lit .nilIface],[],.iface⟩) e0) (cM bX e0)) (n1 ⟨1,J,[aF],[],.leaf (.int .i64)⟩ (n1 ⟨4,W,[.sl [],.sl [],aF,.sl []],[],oZ⟩ (bE ⟨2,W,[dG,.sl []],[],vo⟩) e0) (cM bX e0))) (cM (n0 (cM bX e0) (cM bX e0)) (cM (n1 ⟨1,J,[.sl []],[],.slice 4 W 32 [aF,.lit (.bool J),aF,aF]⟩ bX e0) (n1 ⟨5,W,[aF,aF,dG,.sl [],.sl []],[],IP⟩ bX e0)))) (n1 ⟨5,W,[.sl [],.sl [],.sl [],aF,.sl []],[],IP⟩ (cM (cM (cM bX e0) (n1 ⟨5,W,[aF,aF,aF,aF,aF],[.int .i64,.int .i64,.int .i64,.int .i64,.int .i64],.struct [(0,5,W)]⟩ bX e0)) (cM (n1 ⟨3,W,[.lit (.bool J),aF,aF],[.bool,.int .i64,.int .i64],rN⟩ bX e0) (cM bX e0))) (n0 (n1 ⟨2,W,[dG,aF],[.str,.int .i64],vo⟩ (cM bX e0) (n0 bX e0)) (cM (cM (bE ⟨1,W,[aF],[.int .i64],IQ⟩) e0) (n1 ⟨1,J,[.sl []],[],.slice 2 W 16 [aF,aF]⟩ (bE ⟨4,W,[jc,jc,jc,dG],[],oZ⟩) e0)))))) (n1 ⟨1,J,[.lit (.int .u8 0)],[],.leaf (.int .u8)⟩ (n1 ⟨1,J,[dG],[],.leaf .str⟩ (n1 ⟨1,J,[jc],[],.ptr⟩ (n1 ⟨5,W,[.sl [],.sl [],.sl [],.sl [],aF],[],IP⟩ (n1 ⟨5,W,[aF,aF,aF,aF,aF],[.int .i64,.int .i64,.int .i64,.int .i64,.int .i64],.struct [(0,1,J),(1,1,J),(2,1,J),(3,2,W)]⟩ (cM bX (bE ⟨1,J,[.lit (.int .u32 0)],[],.leaf (.int .u32)⟩)) (cM bX e0)) (cM (cM (bE ⟨1,J,[.sl []],[],.slice 2 W 40 [dG,.sl []]⟩) e0) (cM bX e0))) (n1 ⟨1,J,[.sl []],[],.slice 5 W 40 [aF,aF,aF,aF,aF]⟩ (n1 ⟨11,W,[.sl [],.sl [],.sl [],.sl [],aF,aF,aF,aF,aF,aF,aF],[],.struct [(0,5,W),(5,1,J),(6,5,W)]⟩ (cM bX e0) (cM bX e0)) (cM (cM bX e0) (n1 ⟨4,W,[aF,aF,dG,.sl []],[],oZ⟩ bX e0)))) (n1 ⟨1,J,[.sl []],[],.slice 2 W 24 [dG,aF]⟩ (cM (cM (n1 ⟨3,W,[aF,aF,aF],[.int .i64,.int .i64,.int .i64],rN⟩ bX e0) (cM bX e0)) (n1 ⟨4,W,[aF,aF,.sl [],.sl []],[],oZ⟩ (cM (bE ⟨2,W,[dG,.sl []],[],vo⟩) e0) (n1 ⟨3,W,[.sl [],.sl [],.sl []],[],rN⟩ bX e0))) (cM (n1 ⟨4,W,[aF,aF,dG,.sl []],[],oZ⟩ (cM (bE ⟨3,W,[.sl [],aF,.lit (.bool J)],[],rN⟩) e0) (n0 bX e0)) (n0 (cM bX e0) (n1 ⟨4,W,[aF,aF,.sl [],.sl []],[],oZ⟩ bX e0))))) (n0 (n1 ⟨1,J,[.lit (.int .i32 0)],[],.leaf (.int .i32)⟩ (n1 ⟨1,J,[.sl []],[],.slice 3 W 24 [.lit (.bool J),aF,aF]⟩ (n0 (cM bX (bE ⟨1,J,[jc],[],.ptr⟩)) (n1 ⟨0,W,[],[],.struct []⟩ bX e0)) (n1 ⟨1,J,[.sl []],[],.slice 2 W 16 [aF,aF]⟩ (n0 bX e0) (n1 ⟨1,J,[.sl []],[],.slice 1 J 16 [dG]⟩ (bE ⟨1,J,[jc],[],.ptr⟩) e0))) (cM (cM (cM bX e0) (bE ⟨0,W,[],[],.struct []⟩)) (cM (n1 ⟨4,W,[aF,.lit (.bool J),aF,aF],[.int .i64,.bool,.int .i64,.int .i64],.struct [(0,1,J),(1,3,W)]⟩ (bE ⟨3,W,[aF,aF,.lit (.bool J)],[.int .i64,.int .i64,.bool],rN⟩) e0) (n1 ⟨15,W,[dG,dG,aF,aF,dG,.sl [],aF,aF,dG,.sl [],aF,aF,dG,.sl [],.sl []],[],.struct [(0,1,J),(1,1,J),(2,4,W),(6,4,W),(10,5,W)]⟩ bX e0)))) (cM (cM (cM (cM bX e0) (n1 ⟨1,J,[jc],[],.ptr⟩ bX e0)) (n1 ⟨12,W,[.sl [],.sl [],.sl [],.sl [],aF,.sl [],.sl [],.sl [],aF,.sl [],.sl [],.lit (.map Y)],[],.struct [(0,5,W),(5,5,W),(10,1,J),(11,1,J)]⟩ (cM bX e0) (cM bX e0))) (n1 ⟨1,J,[aF],[],.leaf (.int .i64)⟩ (cM (n1 ⟨1,J,[.sl []],[],.slice 15 W 224 [dG,dG,aF,aF,dG,.sl [],aF,aF,dG,.sl [],aF,aF,dG,.sl [],.sl []]⟩ (bE ⟨4,W,[aF,dG,aF,aF],[.int .i64,.str,.int .i64,.int .i64],oZ⟩) e0) (cM bX e0)) (cM (cM (bE ⟨1,W,[aF],[.int .i64],IQ⟩) e0) (n1 ⟨3,W,[.sl [],.sl [],.sl []],[],rN⟩ (bE ⟨0,W,[],[],.array 0 1 J⟩) e0))))))) (n1 ⟨1,J,[aF],[],.leaf (.int .i64)⟩ (n1 ⟨1,J,[.lit (.bool J)],[],.leaf .bool⟩ (n0 (n1 ⟨1,J,[jc],[],.ptr⟩ (n1 ⟨5,W,[.sl [],.sl [],.sl [],.sl [],aF],[],IP⟩ (n1 ⟨2,W,[aF,aF],[.int .i64,.int .i64],vo⟩ (n1 ⟨2,W,[aF,aF],[.int .i64,.int .i64],vo⟩ (bE ⟨2,W,[aF,aF],[],.array 2 1 J⟩) bX) (n1 ⟨1,J,[jc],[],.ptr⟩ bX e0)) (n0 (n0 bX e0) (n0 bX e0))) (cM (n1 ⟨11,W,[.sl [],.sl [],.sl [],.sl [],aF,aF,aF,aF,aF,aF,aF],[],.struct [(0,5,W),(5,1,J),(6,5,W)]⟩ (cM bX e0) (cM bX e0)) (cM (cM bX e0) (n1 ⟨4,W,[aF,aF,dG,.sl []],[],oZ⟩ bX e0)))) (n1 ⟨1,J,[.sl []],[],.slice 1 J 8 [aF]⟩ (n0 (cM (n1 ⟨3,W,[aF,aF,aF],[.int .i64,.int .i64,.int .i64],rN⟩ bX e0) (n0 bX e0)) (n1 ⟨1,J,[.sl []],[],.slice 4 W 64 [aF,.sl [],.sl [],.lit (.bool J)]⟩ (n0 bX e0) (n1 ⟨3,W,[.sl [],.sl [],.sl []],[],rN⟩ bX e0))) (cM (n1 ⟨1,J,[aF],[],.leaf (.int .i64)⟩ (cM bX e0) (cM bX e0)) (cM (cM bX e0) (cM bX e0))))) (n1 ⟨1,J,[.lit (.int .u64 0)],[],.leaf (.int .u64)⟩ (n1 ⟨1,J,[.lit .nilIface],[],.iface⟩ (cM (cM (cM bX bX) (n1 ⟨0,W,[],[],.struct []⟩ bX e0)) (cM (n1 ⟨4,W,[.sl [],.sl [],aF,.sl []],[],oZ⟩ bX e0) (n1 ⟨1,J,[jc],[],.ptr⟩ bX e0))) (cM (cM (cM bX e0) (cM bX e0)) (cM (cM bX e0) (n1 ⟨5,W,[aF,aF,dG,.sl [],.sl []],[],IP⟩ bX e0)))) (cM (n0 (n0 (cM bX e0) (n1 ⟨1,J,[jc],[],.ptr⟩ bX e0)) (n1 ⟨1,J,[.lit (.map Y)],[],.other⟩ (cM bX e0) (cM bX e0))) (cM (n1 ⟨2,W,[dG,aF],[.str,.int .i64],vo⟩ (n1 ⟨1,J,[.sl []],[],.slice 2 W 40 [dG,.sl []]⟩ (bE ⟨1,J,[aF],[],.leaf (.int .i64)⟩) e0) (cM bX e0)) (cM (cM (bE ⟨1,W,[aF],[.int .i64],IQ⟩) e0) (bE ⟨3,W,[.sl [],.sl [],.sl []],[],rN⟩)))))) (n0 (n0 (n1 ⟨1,W,[jc],[],IQ⟩ (n1 ⟨1,J,[aF],[],.leaf (.int .i64)⟩ (n1 ⟨5,W,[aF,aF,aF,aF,aF],[.int .i64,.int .i64,.int .i64,.int .i64,.int .i64],.struct [(0,1,J),(1,1,J),(2,1,J),(3,2,W)]⟩ (n1 ⟨1,J,[.lit .nilIface],[],.iface⟩ (bE ⟨1,J,[.lit .nilIface],[],.iface⟩) e0) (cM bX e0)) (cM (n1 ⟨1,J,[.sl []],[],.slice 4 W 64 [aF,aF,.sl [],.sl []]⟩ (bE ⟨2,W,[dG,.sl []],[],vo⟩) e0) (cM bX e0))) (n0 (cM (cM bX e0) (n1 ⟨35,W,[eA,eA,eA,eA,eA,eA,eA,eA,eA,eA,eA,eA,eA,eA,eA,eA,eA,eA,eA,eA,eA,eA,eA,eA,eA,eA,eA,eA,eA,eA,eA,eA,eA,eA,eA],[],.array 35 1 J⟩ bX e0)) (n0 (cM bX e0) (n1 ⟨1,J,[.sl []],[],.slice 5 W 80 [aF,aF,dG,.sl [],.sl []]⟩ bX e0)))) (n1 ⟨5,W,[.sl [],.sl [],.sl [],aF,.sl []],[],IP⟩ (cM (n0 (cM bX e0) (bE ⟨5,W,[aF,aF,aF,aF,aF],[.int .i64,.int .i64,.int .i64,.int .i64,.int .i64],.struct [(0,5,W)]⟩)) (n1 ⟨4,W,[aF,aF,.sl [],.sl []],[],oZ⟩ (n1 ⟨3,W,[.lit (.bool J),aF,aF],[.bool,.int .i64,.int .i64],rN⟩ (bE ⟨2,W,[dG,.sl []],[],vo⟩) e0) (cM bX e0))) (cM (n1 ⟨4,W,[aF,aF,dG,.sl []],[],oZ⟩ (cM (bE ⟨3,W,[.sl [],aF,.lit (.bool J)],[],rN⟩) e0) (cM bX e0)) (cM (n1 ⟨1,J,[.lit (.map Y)],[],.other⟩ (bE ⟨1,W,[aF],[.int .i64],IQ⟩) e0) (n1 ⟨4,W,[aF,aF,.sl [],.sl []],[],oZ⟩ bX e0))))) (n0 (n1 ⟨1,J,[.sl []],[],.slice 3 W 24 [aF,aF,aF]⟩ (n1 ⟨6,W,[.sl [],.sl [],.sl [],aF,.sl [],.sl []],[],.struct [(0,5,W),(5,1,J)]⟩ (cM (cM bX e0) (n1 ⟨2,W,[.lit (.bool J),aF],[.bool,.int .i64],vo⟩ bX e0)) (n1 ⟨4,W,[aF,.sl [],.sl [],.lit (.bool J)],[],oZ⟩ (cM bX e0) (cM bX e0))) (cM (cM (cM (bE ⟨1,J,[.sl []],[],.slice 4 W 40 [aF,dG,aF,aF]⟩) e0) (cM bX e0)) (cM (n1 ⟨4,W,[aF,.lit (.bool J),aF,aF],[.int .i64,.bool,.int .i64,.int .i64],.struct [(0,1,J),(1,3,W)]⟩ (bE ⟨3,W,[aF,aF,.lit (.bool J)],[.int .i64,.int .i64,.bool],rN⟩) e0) (n1 ⟨15,W,[dG,dG,aF,aF,dG,.sl [],aF,aF,dG,.sl [],aF,aF,dG,.sl [],.sl []],[],.struct [(0,1,J),(1,1,J),(2,4,W),(6,4,W),(10,5,W)]⟩ bX e0)))) (n1 ⟨1,J,[.sl []],[],.slice 4 W 64 [aF,aF,.sl [],.sl []]⟩ (cM (cM (cM bX e0) (n1 ⟨11,W,[jc,aF,.sl [],aF,.sl [],.sl [],.lit (.bool J),aF,aF,aF,jc],[],.struct [(0,1,J),(1,1,J),(2,1,J),(3,4,W),(7,3,W),(10,1,J)]⟩ bX e0)) (n1 ⟨12,W,[.sl [],.sl [],.sl [],.sl [],aF,.sl [],.sl [],.sl [],aF,.sl [],.sl [],.lit (.map Y)],[],.struct [(0,5,W),(5,5,W),(10,1,J),(11,1,J)]⟩ (cM bX e0) (n1 ⟨1,J,[aF],[],.leaf (.int .i64)⟩ bX e0))) (n1 ⟨1,J,[aF],[],.leaf (.int .i64)⟩ (cM (n1 ⟨3,W,[dG,.sl [],.sl []],[],rN⟩ (bE ⟨4,W,[aF,dG,aF,aF],[.int .i64,.str,.int .i64,.int .i64],oZ⟩) e0) (cM (bE ⟨1,J,[.lit (.map Y)],[],.other⟩) e0)) (cM (cM (bE ⟨1,W,[aF],[.int .i64],IQ⟩) e0) (cM (bE ⟨0,W,[],[],.struct [(0,0,W)]⟩) e0))))))))
noncomputable def TF:Tr (Ty):=(n0 (n0 (n1 (.int .i64) (n0 (n0 (n1 (.sl (.st 7)) e0 (n0 (bE (.st 23)) e0)) (n0 e0 (n0 e0 (bE (.sl (.st 18)))))) (n1 (.sl (.st 1)) (n1 (.st 10) (n0 (bE (.int .i64)) (bE (.st 27))) (bE (.st 5))) e0)) (n0 (n0 (n0 (n0 (n1 (.di 17) (bE (.di 34)) e0) e0) (n1 (.int .i64) (n0 (bE (.st 20)) e0) e0)) (n0 e0 (n0 (bE (.sl (.st 26))) e0))) (n1 (.st 3) (n0 (n0 e0 (bE (.st 15))) (n0 (bE (.st 9)) e0)) (n0 e0 (n0 (n0 (bE (.st 31)) e0) (bE (.sl (.st 29)))))))) (n1 (.int .u8) (n1 (.str) (n0 (n1 (.st 8) (n0 (n0 e0 (bE (.int .u32))) e0) (n0 (n0 (bE (.sl (.st 19))) e0) e0)) (n1 (.sl (.st 11)) (bE (.st 12)) (n0 e0 (bE (.st 18))))) (n1 (.sl (.st 2)) (n0 (n0 (bE (.st 0)) e0) (n0 e0 (bE (.st 28)))) e0)) (n0 (n1 (.int .i32) (n1 (.sl (.st 9)) (n0 e0 (bE (.st 14))) (n1 (.sl (.st 4)) e0 (bE (.sl (.str))))) (n0 (n0 e0 (bE (.st 16))) e0)) (n0 (n0 (n0 e0 (bE (.opt 11))) e0) (n1 (.int .i64) (n0 (bE (.sl (.st 22))) e0) (n0 (n0 (bE (.st 32)) e0) (bE (.st 30)))))))) (n1 (.int .i64) (n1 (.bool) (n0 (n0 (n0 (n1 (.st 4) (n1 (.st 7) (bE (.st 29)) e0) e0) e0) e0) (n1 (.sl (.int .i64)) (n0 e0 (bE (.sl (.st 5)))) (n0 (bE (.int .i64)) e0))) (n1 (.int .u64) (n1 (.di 38) (n0 e0 (n0 (bE (.st 25)) e0)) (n0 e0 (n0 e0 (bE (.st 21))))) (n0 e0 (n0 (n1 (.st 2) (n1 (.sl (.st 20)) (bE (.int .i64)) e0) e0) e0)))) (n0 (n0 (n0 (n1 (.int .i64) (bE (.st 11)) (n0 (bE (.sl (.st 24))) e0)) (n0 e0 (n0 e0 (bE (.sl (.st 21)))))) (n0 (n0 e0 (n1 (.st 6) (n0 (bE (.st 19)) e0) e0)) (n0 (n1 (.st 1) (n0 (bE (.st 36)) e0) e0) (n0 e0 (bE (.st 24)))))) (n0 (n1 (.sl (.st 0)) e0 (n0 (n0 (n0 (bE (.sl (.st 35))) e0) e0) (n0 (n1 (.st 26) (bE (.st 37)) e0) (bE (.st 22))))) (n1 (.sl (.st 6)) (n0 e0 (n0 e0 (bE (.int .i64)))) (n1 (.int .i64) (n0 (n0 (bE (.st 35)) e0) e0) (n0 (n0 (bE (.st 33)) e0) e0)))))))
noncomputable def mtT:Tr (MT):=(n0 e0 (n0 (n0 e0 (n0 e0 (n0 (n0 e0 (bE ⟨.int .i64,Z (.bool),4⟩)) e0))) (n0 (n0 e0 (n0 e0 (n0 e0 (n0 (bE ⟨.int .i64,Z (.int .i64),3⟩) e0)))) (n0 e0 (n0 e0 (n0 (n0 e0 (n0 (bE ⟨.str,Z (.bool),4⟩) e0)) e0))))))
noncomputable def wh:Tr (L (String×FuncId)):=(n0 (n0 (n0 (n0 (n1 [("Error",346),("RuntimeError",347)] (n0 e0 (n1 [("hearth/run.copied",49),("hearth/run.finish",121),("hearth/run.frame",296),("hearth/run.object",166),("hearth/run.ordered",58),("hearth/run.ready",66),("hearth/run.renew",102),("hearth/run.runs",297),("hearth/run.settle",48),("hearth/run.step",67),("hearth/run.task",248),("hearth/run.tasks",167),("hearth/run.turn",57),("hearth/run.value",245),("hearth/run.waits",247),("hearth/run.world",111)] e0 (n1 [("hearth/hearthref02.applied",330),("hearth/hearthref02.atom",331),("hearth/hearthref02.begins",332),("hearth/hearthref02.call",335),("hearth/hearthref02.cases",334),("hearth/hearthref02.data",206),("hearth/hearthref02.function",207),("hearth/hearthref02.has",205),("hearth/hearthref02.is",271),("hearth/hearthref02.kind",273),("hearth/hearthref02.module",134),("hearth/hearthref02.of",324),("hearth/hearthref02.pat",337),("hearth/hearthref02.product",325),("hearth/hearthref02.sees",272),("hearth/hearthref02.simple",304),("hearth/hearthref02.sum",306),("hearth/hearthref02.take",204),("hearth/hearthref02.term",274),("hearth/hearthref02.terms",333),("hearth/hearthref02.under",305),("hearth/hearthref02.want",203),("hearth/hearthref02.whole",135)] e0 e0))) e0) (n0 (n1 [("First",53),("Limited",40),("Near",93),("Play",22),("Ready",36),("Settle",29),("Start",17),("Step",37),("Turn",30),("World",32),("hearth/hearthref11.applied",76),("hearth/hearthref11.begun",128),("hearth/hearthref11.closed",119),("hearth/hearthref11.flow",77),("hearth/hearthref11.frames",117),("hearth/hearthref11.object",65),("hearth/hearthref11.spawned",81),("hearth/hearthref11.takes",69),("hearth/hearthref11.value",171),("hearth/hearthref11.values",118)] e0 e0) e0)) (n1 [("Error",342),("RuntimeError",343)] (n1 [("Error",351),("RuntimeError",352)] (n0 (n0 (n0 e0 (n1 [("String",359)] e0 e0)) e0) e0) e0) (n0 (n0 (n0 e0 (n1 [("hearth/run.event",354)] e0 e0)) e0) (n0 e0 (n0 (n0 (n1 [("hearth/code.met",356)] e0 e0) e0) e0))))) (n0 (n0 (n1 [("Align",350)] e0 e0) e0) (n0 (n0 (n0 (n0 e0 (n1 [("hearth/run.event",353)] e0 e0)) e0) (n0 (n0 e0 (n1 [("hearth/run.event",355)] e0 e0)) e0)) (n0 e0 (n0 e0 (n0 (n0 (n1 [("hearth/code.met",357)] e0 e0) e0) (n1 [("hearth/hearthref10.add",218),("hearth/hearthref10.end",219),("hearth/hearthref10.match",221),("hearth/hearthref10.node",145),("hearth/hearthref10.to",146),("hearth/hearthref10.wanted",220)] e0 e0))))))) (n0 (n0 (n1 [("Error",338),("RuntimeError",339)] (n1 [("Error",348),("RuntimeError",349)] e0 e0) e0) (n0 (n0 (n0 e0 (n0 e0 (n1 [("hearth/hearthref05.known",142),("hearth/hearthref05.knownPat",214),("hearth/hearthref05.pattern",217),("hearth/hearthref05.put",144)] e0 e0))) e0) (n0 (n0 (n0 e0 (n1 [("hearth/run.write",190)] e0 e0)) e0) e0))) (n0 (n1 [("Error",340),("RuntimeError",341)] e0 e0) (n1 [("Error",344),("RuntimeError",345)] e0 (n0 e0 (n0 e0 (n0 (n0 (n1 [("hearth/code.met",358)] e0 e0) e0) e0)))))))
noncomputable def qW:Tr (Func):=(n1 f0 (n1 f1 (n1 f3 (n1 f7 (n1 f15 (n1 f31 (n1 f63 (n1 f127 (bE f255) e0) (n1 f191 (bE f319) e0)) (n1 f95 (n1 f159 (bE f287) e0) (n1 f223 (bE f351) e0))) (n1 f47 (n1 f79 (n1 f143 (bE f271) e0) (n1 f207 (bE f335) e0)) (n1 f111 (n1 f175 (bE f303) e0) (bE f239)))) (n1 f23 (n1 f39 (n1 f71 (n1 f135 (bE f263) e0) (n1 f199 (bE f327) e0)) (n1 f103 (n1 f167 (bE f295) e0) (n1 f231 (bE f359) e0))) (n1 f55 (n1 f87 (n1 f151 (bE f279) e0) (n1 f215 (bE f343) e0)) (n1 f119 (n1 f183 (bE f311) e0) (bE f247))))) (n1 f11 (n1 f19 (n1 f35 (n1 f67 (n1 f131 (bE f259) e0) (n1 f195 (bE f323) e0)) (n1 f99 (n1 f163 (bE f291) e0) (n1 f227 (bE f355) e0))) (n1 f51 (n1 f83 (n1 f147 (bE f275) e0) (n1 f211 (bE f339) e0)) (n1 f115 (n1 f179 (bE f307) e0) (bE f243)))) (n1 f27 (n1 f43 (n1 f75 (n1 f139 (bE f267) e0) (n1 f203 (bE f331) e0)) (n1 f107 (n1 f171 (bE f299) e0) (bE f235))) (n1 f59 (n1 f91 (n1 f155 (bE f283) e0) (n1 f219 (bE f347) e0)) (n1 f123 (n1 f187 (bE f315) e0) (bE f251)))))) (n1 f5 (n1 f9 (n1 f17 (n1 f33 (n1 f65 (n1 f129 (bE f257) e0) (n1 f193 (bE f321) e0)) (n1 f97 (n1 f161 (bE f289) e0) (n1 f225 (bE f353) e0))) (n1 f49 (n1 f81 (n1 f145 (bE f273) e0) (n1 f209 (bE f337) e0)) (n1 f113 (n1 f177 (bE f305) e0) (bE f241)))) (n1 f25 (n1 f41 (n1 f73 (n1 f137 (bE f265) e0) (n1 f201 (bE f329) e0)) (n1 f105 (n1 f169 (bE f297) e0) (bE f233))) (n1 f57 (n1 f89 (n1 f153 (bE f281) e0) (n1 f217 (bE f345) e0)) (n1 f121 (n1 f185 (bE f313) e0) (bE f249))))) (n1 f13 (n1 f21 (n1 f37 (n1 f69 (n1 f133 (bE f261) e0) (n1 f197 (bE f325) e0)) (n1 f101 (n1 f165 (bE f293) e0) (n1 f229 (bE f357) e0))) (n1 f53 (n1 f85 (n1 f149 (bE f277) e0) (n1 f213 (bE f341) e0)) (n1 f117 (n1 f181 (bE f309) e0) (bE f245)))) (n1 f29 (n1 f45 (n1 f77 (n1 f141 (bE f269) e0) (n1 f205 (bE f333) e0)) (n1 f109 (n1 f173 (bE f301) e0) (bE f237))) (n1 f61 (n1 f93 (n1 f157 (bE f285) e0) (n1 f221 (bE f349) e0)) (n1 f125 (n1 f189 (bE f317) e0) (bE f253))))))) (n1 f2 (n1 f4 (n1 f8 (n1 f16 (n1 f32 (n1 f64 (n1 f128 (bE f256) e0) (n1 f192 (bE f320) e0)) (n1 f96 (n1 f160 (bE f288) e0) (n1 f224 (bE f352) e0))) (n1 f48 (n1 f80 (n1 f144 (bE f272) e0) (n1 f208 (bE f336) e0)) (n1 f112 (n1 f176 (bE f304) e0) (bE f240)))) (n1 f24 (n1 f40 (n1 f72 (n1 f136 (bE f264) e0) (n1 f200 (bE f328) e0)) (n1 f104 (n1 f168 (bE f296) e0) (bE f232))) (n1 f56 (n1 f88 (n1 f152 (bE f280) e0) (n1 f216 (bE f344) e0)) (n1 f120 (n1 f184 (bE f312) e0) (bE f248))))) (n1 f12 (n1 f20 (n1 f36 (n1 f68 (n1 f132 (bE f260) e0) (n1 f196 (bE f324) e0)) (n1 f100 (n1 f164 (bE f292) e0) (n1 f228 (bE f356) e0))) (n1 f52 (n1 f84 (n1 f148 (bE f276) e0) (n1 f212 (bE f340) e0)) (n1 f116 (n1 f180 (bE f308) e0) (bE f244)))) (n1 f28 (n1 f44 (n1 f76 (n1 f140 (bE f268) e0) (n1 f204 (bE f332) e0)) (n1 f108 (n1 f172 (bE f300) e0) (bE f236))) (n1 f60 (n1 f92 (n1 f156 (bE f284) e0) (n1 f220 (bE f348) e0)) (n1 f124 (n1 f188 (bE f316) e0) (bE f252)))))) (n1 f6 (n1 f10 (n1 f18 (n1 f34 (n1 f66 (n1 f130 (bE f258) e0) (n1 f194 (bE f322) e0)) (n1 f98 (n1 f162 (bE f290) e0) (n1 f226 (bE f354) e0))) (n1 f50 (n1 f82 (n1 f146 (bE f274) e0) (n1 f210 (bE f338) e0)) (n1 f114 (n1 f178 (bE f306) e0) (bE f242)))) (n1 f26 (n1 f42 (n1 f74 (n1 f138 (bE f266) e0) (n1 f202 (bE f330) e0)) (n1 f106 (n1 f170 (bE f298) e0) (bE f234))) (n1 f58 (n1 f90 (n1 f154 (bE f282) e0) (n1 f218 (bE f346) e0)) (n1 f122 (n1 f186 (bE f314) e0) (bE f250))))) (n1 f14 (n1 f22 (n1 f38 (n1 f70 (n1 f134 (bE f262) e0) (n1 f198 (bE f326) e0)) (n1 f102 (n1 f166 (bE f294) e0) (n1 f230 (bE f358) e0))) (n1 f54 (n1 f86 (n1 f150 (bE f278) e0) (n1 f214 (bE f342) e0)) (n1 f118 (n1 f182 (bE f310) e0) (bE f246)))) (n1 f30 (n1 f46 (n1 f78 (n1 f142 (bE f270) e0) (n1 f206 (bE f334) e0)) (n1 f110 (n1 f174 (bE f302) e0) (bE f238))) (n1 f62 (n1 f94 (n1 f158 (bE f286) e0) (n1 f222 (bE f350) e0)) (n1 f126 (n1 f190 (bE f318) e0) (bE f254))))))))
noncomputable def prog:Program:=Go.Proofs.Tryz.prog
noncomputable def DS:gm:=mkE prog O7 TF mtT wh qW λn=>bif Nq n 24 then Z 2 else Y
end
theorem h1:O7.mapKey (λk _=>aay prog (NO prog) k)=O7.mapKey λ_ i=>Z i:=by kernel_rfl
theorem h2:qW.mapKey (λk _=>prog.funcs[k]?)=qW.mapKey λ_ f=>Z f:=by kernel_rfl
theorem h3:TF.mapKey (λk τ=>(O7.get k).map (Fb sg τ))=TF.mapKey λk τ=>(O7.get k).map (Fa sg τ):=by kernel_rfl
theorem h4:qW.mapKey (λ_ f=>f.name== "runtime.NumGoroutine")=qW.mapKey λ_ _=>J:=by kernel_rfl
def h5:mtT.mapKey (λk m=>mtB DS k m)=mtT.mapKey λ_ _=>W:=by kernel_rfl
def h6:wh.mapKey (λk l=>l.all (SC prog k))=wh.mapKey λ_ _=>W:=by kernel_rfl
def adG(Iq:FuncId->O (lI sg))(sh:FuncId->Nat->O LSh)(d:∀f c,Iq f=Z c->bC prog f c)(a:Bool)(b:FuncId->L (V sg)->O JSh):fC (⟨DS,Iq,sh,a,b⟩:eO sg):=
 Yr ac6 h1 h2 h3 h4 h5 h6 Iq sh d a b
section
def Wd(l:L (Nat×Nat×LSh))(f b:Nat):O LSh:=match l with
 |[]=>Y|p::l=>bif Nq p.1 f&&Nq p.2.1 b then Z p.2.2 else Wd l f b
def mixed:prog.follows .mixedOrders=W:=by kernel_rfl
def ahS(l:L (FuncId×lI sg))(hl:OkL prog l)(sh:FuncId->Nat->O LSh)(pn:Bool)(a:FuncId->L (V sg)->O JSh)(n d:Nat)(f:FuncId)(ps:L Pk)(rs:L Ck)(b:((qW.get f).bind (·.body)).isSome=W)
  {F:gp sg.A ps->O (RT pn (gH sg.A rs×iE sg.A ps) (den sg.A sg.pt×iE sg.A ps))} (h:(λx=>AO (⟨DS,O8 l,sh,pn,a⟩:eO sg) n d f ps rs x)=F):bC prog f (⟨ps,rs,pn,F⟩:lI sg):=by
 cases h1:qW.get f with
 |none=>simp_all|some fn=>
  cases h2:fn.body with|none=>simp_all|some c=>have:=adI (E:=(⟨DS,O8 l,sh,pn,a⟩:eO sg)) (adG (O8 l) sh (RR hl) pn a) mixed (f:=f) (fn:=fn) (c:=c) h1 h2 n d ps rs;rw[<-h];exact this
def Ut(l:L (FuncId×lI sg))(hl:OkL prog l)(sh:FuncId->Nat->O LSh)(pn:Bool)(n d:Nat)(f:FuncId)(ps:L Pk)(rs:L Ck)(a:((qW.get f).bind (·.body)).isSome=W)
  {F:gp sg.A ps->O (RT pn (gH sg.A rs×iE sg.A ps) (den sg.A sg.pt×iE sg.A ps))} (h:(λx=>AO (⟨DS,O8 l,sh,pn,λ_ _=>Y⟩:eO sg) n d f ps rs x)=F):bC prog f (⟨ps,rs,pn,F⟩:lI sg):=
 ahS l hl sh pn _ n d f ps rs a h
noncomputable def Tc(f:Nat):Code:=match(qW.get f).bind (·.body)with
 |some c=>c|none=>.skip
def ahK(m:Nat)(l:L (V sg)):Bool:=Nq m 0||l.any λv=>match v with
 |.ptr o 0=>Nq o m|_=>J
def cjL(l:L (Nat×Nat×JSh))(f:Nat)(args:L (V sg)):O JSh:=match l with
 |[]=>Y|p::l=>bif Nq p.1 f&&ahK p.2.1 args then Z p.2.2 else cjL l f args
structure OC where
 f:FuncId
 c:lI sg
 h:bC prog f c
def EV(l:L OC)(f:FuncId):O (lI sg):=match l with
 |[]=>Y|k::l=>bif Nq k.f f then Z k.c else EV l f
def RP:∀{l:L OC}(f:FuncId)(c:lI sg),EV l f=Z c->bC prog f c
 |[],_,_,h=>by cases h
 |k::l,f,c,h=>by
  unfold EV at h;cases a:Nq k.f f with
  |true=>
   rw[a]at h;have e:k.f=f:=vM a;injection h with h
   rw[<-h,<-e];exact k.h
  |false=>rw[a]at h;exact RP f c h
variable {pn:Bool}{ps:List Pk}{rs:List Ck}
def aa2(l:L OC)(sh:FuncId->Nat->O LSh)(b:FuncId->L (V sg)->O JSh)(n d:Nat)(f:FuncId)
  {F:gp sg.A ps->O (RT pn (gH sg.A rs×iE sg.A ps) (den sg.A sg.pt×iE sg.A ps))} (h:(((qW.get f).bind (·.body)).isSome,λx=>AO (⟨DS,EV l,sh,pn,b⟩:eO sg) n d f ps rs x)=(W,F):=by kernel_rfl):bC prog f (⟨ps,rs,pn,F⟩:lI sg):=by
 have a:((qW.get f).bind (·.body)).isSome=W:=cU Prod.fst h;have h:(λx=>AO (⟨DS,EV l,sh,pn,b⟩:eO sg) n d f ps rs x)=F:=cU Prod.snd h;cases h1:qW.get f with
 |none=>rw[h1]at a;cases a
 |some fn=>
  rw[h1]at a;cases h2:fn.body with
  |none=>rw[show(Z fn:O Func).bind (·.body)=fn.body from rfl,h2]at a;cases a
  |some c=>have:=adI (E:=(⟨DS,EV l,sh,pn,b⟩:eO sg)) (adG (EV l) sh RP pn b) mixed (f:=f) (fn:=fn) (c:=c) h1 h2 n d ps rs;rw[<-h];exact this
def cS(l:L OC)(sh:L (Nat×Nat×LSh))(n d:Nat)(f:FuncId)
  {F:gp sg.A ps->O (RT pn (gH sg.A rs×iE sg.A ps) (den sg.A sg.pt×iE sg.A ps))} (h:(((qW.get f).bind (·.body)).isSome,λx=>AO (⟨DS,EV l,Wd sh,pn,λ_ _=>Y⟩:eO sg) n d f ps rs x)=(W,F):=by kernel_rfl):bC prog f (⟨ps,rs,pn,F⟩:lI sg):=aa2 l (Wd sh) (λ_ _=>Y) n d f h
def enters(f:FuncId)(a:((qW.get f).bind (·.body)).isSome=W):mo prog f:=
 (Ut [] trivial (λ_ _=>Y) J 0 0 f [] [] a rfl).1
end
abbrev b31y:Ck:=.dat (.sl (.st 25))
abbrev Ln:Ck:=.dat (.sl (.st 7))
abbrev YQ:Ck:=.dat (.sl (.st 6))
abbrev uT:Ck:=.dat (.sl (.st 5))
abbrev w4:Ck:=.dat (.sl (.st 4))
abbrev b8y:Ck:=.dat (.sl (.st 2))
abbrev b7y:Ck:=.dat (.sl (.st 1))
abbrev b6y:Ck:=.dat (.sl (.st 0))
abbrev DZ:Ck:=.dat (.sl (.int .i64))
abbrev O5:Ck:=.dat (.bool)
abbrev mg:Ck:=.dat (.int .i64)
abbrev dg:Pk:=.one (O5)
abbrev dy:Pk:=.one (mg)
abbrev YP:Pk:=.box (.cells [.own (.st 9)])
abbrev Vn:Pk:=.box (.map (.int .i64) (.bool))
abbrev wZ:Pk:=.hid (.map (.int .i64) (.bool))
abbrev Ea:Pk:=.box (.cells [.own (.int .i64)])
abbrev Eb:Pk:=.box (.map (.int .i64) (.int .i64))
abbrev ako:Pk:=.box (.cells [.dat (.str),.own (.st 18)])
abbrev akp:Pk:=.box (.cells [.dat (.str),.own (.st 20),.own (.st 22)])
abbrev ym:Pk:=.box (.cells [.dat (.sl (.st 35)),mg,O5])
abbrev QY:Pk:=.box (.cells [b6y,b7y,.dat (.sl (.st 29))])
abbrev agd:Pk:=.box (.cells [mg,mg,.dat (.str),.own (.st 1)])
abbrev Vo:Pk:=.box (.cells [.dat (.sl (.str)),b8y,.kz 24 2 (.int .i64)])
abbrev akq:Pk:=.box (.cells [.nil (.st 24),.nil (.int .i64),mg,.nil (.st 2)])
abbrev acz:Pk:=.box (.cells [mg,.dat (.str),mg,mg])
abbrev acA:Pk:=.box (.cells [mg,mg,.nil (.int .i64),.own (.st 1)])
abbrev Ix:Pk:=.box (.cells [mg,mg,w4,.own (.st 5)])
abbrev akr:Pk:=.box (.cells [mg,mg,.nil (.st 4),uT])
abbrev acB:Pk:=.box (.cells [mg,mg,w4,uT])
abbrev b7z:Pk:=.box (.cells [mg,mg,.dat (.str),.dat (.sl (.st 21)),b7y])
abbrev b6z:Pk:=.box (.cells [.own (.st 6),.own (.int .i64),Ln,DZ,mg])
abbrev b5z:Pk:=.box (.cells [b6y,b7y,DZ,mg,b8y])
abbrev b4z:Pk:=.box (.cells [YQ,DZ,Ln,DZ,mg])
abbrev b3z:Pk:=.box (.link J [] [mg,uT,mg,w4,w4,O5,mg,mg,mg,.dat (.opt 11)])
abbrev b2z:Pk:=.box (.cells [YQ,DZ,Ln,DZ,mg,mg,mg,mg,mg,mg,mg])
abbrev b1z:Pk:=.hid (.link W [YQ,DZ,Ln,DZ,mg,b6y,b7y,DZ,mg,b8y,.dat (.sl (.st 9))] [])
abbrev b0z:Pk:=.box (.link W [YQ,DZ,Ln,DZ,mg,b6y,b7y,DZ,mg,b8y,.dat (.sl (.st 9))] [])
abbrev P1:L Pk:=[.one (.dat (.st 1)),dy]
abbrev K2:L Ck:=[mg]
abbrev P3:L Pk:=[.one (.dat (.st 1))]
abbrev K4:L Ck:=[O5]
abbrev P5:L Pk:=[.one (.dat (.st 3))]
abbrev P6:L Pk:=[dy,dy,dy]
abbrev P7:L Pk:=[.one (.dat (.str))]
abbrev P8:L Pk:=[.one (b8y)]
abbrev P9:L Pk:=[.one (.dat (.st 1)),.one (b8y)]
abbrev P10:L Pk:=[.one (.dat (.st 3)),dy]
abbrev K11:L Ck:=[.dat (.st 37),.dat (.st 37),O5]
abbrev P12:L Pk:=[.one (.dat (.st 3)),.one (.dat (.st 0))]
abbrev K13:L Ck:=[.dat (.di 34)]
abbrev P14:L Pk:=[dy,dy]
abbrev K15:L Ck:=[.dat (.st 9)]
abbrev K16:L Ck:=[mg,mg]
abbrev P17:L Pk:=[.one (.dat (.st 0)),.one (.dat (.di 34))]
abbrev K18:L Ck:=[.dat (.sl (.st 9)),mg]
abbrev P19:L Pk:=[.one (DZ)]
abbrev K20:L Ck:=[.dat (.st 4)]
abbrev K21:L Ck:=[DZ]
abbrev P22:L Pk:=[.one (YQ)]
abbrev K23:L Ck:=[.own (.st 6)]
abbrev P24:L Pk:=[b0z,wZ,dy,.one (.dat (.st 6))]
abbrev P25:L Pk:=[b3z,b1z,wZ,.one (w4)]
abbrev P26:L Pk:=[dy]
abbrev P27:L Pk:=[dg]
abbrev yR:L Pk:=[b3z,b1z,wZ]
abbrev P29:L Pk:=[dg,dy]
abbrev P30:L Pk:=[b3z,b1z,wZ,.one (.dat (.st 6))]
abbrev K31:L Ck:=[.dat (.st 4),.dat (.st 4)]
abbrev P32:L Pk:=[b3z,b1z,wZ,.one (.dat (.st 4)),dy]
abbrev K33:L Ck:=[.dat (.st 6),O5]
abbrev P34:L Pk:=[b3z,b1z,wZ,.one (.dat (.st 4)),.one (.dat (.st 4))]
abbrev K35:L Ck:=[.dat (.st 5),O5]
abbrev P36:L Pk:=[b3z,b1z,wZ,.one (uT)]
abbrev P37:L Pk:=[.one (uT)]
abbrev K38:L Ck:=[.own (.st 5)]
abbrev K39:L Ck:=[.dat (.st 6)]
abbrev K40:L Ck:=[uT]
abbrev P41:L Pk:=[.one (w4)]
abbrev K42:L Ck:=[.own (.st 4)]
abbrev P43:L Pk:=[b3z,b1z,wZ,.one (.dat (.st 1)),.one (.dat (.st 4))]
abbrev K44:L Ck:=[w4,O5]
abbrev P45:L Pk:=[.one (.dat (.st 4))]
abbrev P46:L Pk:=[b3z,b1z,wZ,dy,.one (.dat (.st 6))]
abbrev P47:L Pk:=[b0z,wZ,dy]
abbrev K48:L Ck:=[.dat (.di 17)]
abbrev P49:L Pk:=[.one (.dat (.di 17))]
abbrev K50:L Ck:=[mg,O5]
abbrev P51:L Pk:=[.one (Ln)]
abbrev K52:L Ck:=[Ln]
abbrev P53:L Pk:=[b0z,wZ]
abbrev K54:L Ck:=[.dat (.st 8)]
abbrev P55:L Pk:=[.one (.dat (.st 3)),.one (DZ)]
abbrev K56:L Ck:=[.dat (.st 8),mg]
abbrev P57:L Pk:=[.one (.dat (.st 7))]
abbrev P58:L Pk:=[.one (.ptr (.st 13)),.one (.dat (.st 4))]
abbrev P59:L Pk:=[.one (.ptr (.st 13)),.one (.dat (.st 5)),dy]
abbrev P60:L Pk:=[.one (.ptr (.st 13)),.one (.dat (.st 5))]
abbrev P61:L Pk:=[.one (.ptr (.st 13)),.one (.dat (.st 6))]
abbrev P62:L Pk:=[.one (.ptr (.st 13))]
abbrev K63:L Ck:=[.dat (.st 11),mg,mg]
abbrev P64:L Pk:=[.one (.dat (.st 3)),.one (.dat (.st 8)),.one (DZ)]
abbrev K65:L Ck:=[.dat (.st 8),.dat (.sl (.st 11)),mg]
abbrev P66:L Pk:=[.one (.dat (.st 3)),.one (.dat (.st 8))]
abbrev P67:L Pk:=[.one (.dat (.st 3)),.one (.dat (.st 8)),dy]
abbrev K68:L Ck:=[.dat (.st 8),.dat (.st 11),mg,mg]
abbrev P69:L Pk:=[.one (.dat (.str)),dy]
abbrev P70:L Pk:=[.one (.dat (.sl (.str))),.one (.dat (.str))]
abbrev K71:L Ck:=[.dat (.sl (.str))]
abbrev P72:L Pk:=[.one (.dat (.int .u8))]
abbrev P73:L Pk:=[.one (.dat (.str)),dy,dg]
abbrev K74:L Ck:=[.dat (.str)]
abbrev K75:L Ck:=[.dat (.st 35)]
abbrev K76:L Ck:=[.dat (.sl (.st 35)),mg]
abbrev P77:L Pk:=[.one (.ptr (.st 36)),.one (.dat (.str))]
abbrev P78:L Pk:=[ym,.one (.dat (.str))]
abbrev P79:L Pk:=[.one (.ptr (.st 36)),dy]
abbrev OI:L Pk:=[ym,dy]
abbrev mh:L Pk:=[ym]
abbrev K82:L Ck:=[.dat (.st 18)]
abbrev K83:L Ck:=[.dat (.st 20)]
abbrev P84:L Pk:=[dy,.one (.dat (.st 21)),.one (.dat (.st 21))]
abbrev K85:L Ck:=[.dat (.st 21)]
abbrev K86:L Ck:=[.dat (.st 1)]
abbrev P87:L Pk:=[.one (.ptr (.st 36))]
abbrev K88:L Ck:=[.dat (.sl (.st 21))]
abbrev K89:L Ck:=[.dat (.st 22)]
abbrev K90:L Ck:=[.dat (.st 23)]
abbrev P91:L Pk:=[.one (.dat (.st 18)),dy]
abbrev P92:L Pk:=[.one (.dat (.st 18)),dg]
abbrev P93:L Pk:=[.one (.dat (.st 18))]
abbrev P94:L Pk:=[.one (.dat (.st 20))]
abbrev P95:L Pk:=[.one (.dat (.st 21)),dy,dy]
abbrev P96:L Pk:=[.one (.dat (.st 21)),dg,dg,dg]
abbrev P97:L Pk:=[.one (.dat (.st 21))]
abbrev P98:L Pk:=[.one (.dat (.sl (.str)))]
abbrev P99:L Pk:=[.one (.dat (.st 23))]
abbrev K100:L Ck:=[.dat (.st 23),mg]
abbrev K101:L Ck:=[b8y]
abbrev asl:L Pk:=[.one (b8y),.one (.dat (.str))]
abbrev VL:L Pk:=[.one (.ptr (.st 28)),.one (.dat (.st 1))]
abbrev asj:L Pk:=[.one (.dat (.sl (.str))),.one (.dat (.sl (.str)))]
abbrev asi:L Pk:=[.one (.dat (.st 21)),dy]
abbrev VK:L Pk:=[.one (.ptr (.st 28)),.one (.dat (.st 21)),.one (.dat (.sl (.str)))]
abbrev VJ:L Pk:=[Vo,.one (.dat (.st 1))]
abbrev VI:L Pk:=[Vo,.one (.dat (.st 21)),.one (.dat (.sl (.str)))]
abbrev K109:L Ck:=[.dat (.st 25),mg]
abbrev ash:L Pk:=[.one (.dat (.st 30)),dy]
abbrev K111:L Ck:=[.dat (.st 30)]
abbrev alk:L Pk:=[.one (.dat (.st 30)),dy,dy]
abbrev asf:L Pk:=[.one (.dat (.st 30)),dg]
abbrev Rc:L Pk:=[.one (.dat (.st 30)),.one (.dat (.st 25)),dy,dg]
abbrev Zn:L Pk:=[.one (.dat (.st 30)),.one (.dat (.st 25)),.one (.dat (.st 24)),dg]
abbrev ase:L Pk:=[.one (.dat (.st 25))]
abbrev K117:L Ck:=[.dat (.st 3)]
abbrev asd:L Pk:=[.one (.dat (.st 3)),dy,.one (.dat (.st 9))]
abbrev K119:L Ck:=[.dat (.sl (.st 26)),O5]
abbrev K120:L Ck:=[.dat (.sl (.st 9)),O5]
abbrev K121:L Ck:=[.dat (.st 10),O5]
abbrev asc:L Pk:=[.one (DZ),dy]
abbrev asb:L Pk:=[.one (DZ),.one (DZ)]
abbrev asa:L Pk:=[.one (Ln),.one (Ln)]
abbrev ar9:L Pk:=[.one (w4),.one (w4)]
abbrev ar8:L Pk:=[.one (.dat (.st 6)),.one (.dat (.st 6))]
abbrev ar7:L Pk:=[.one (.dat (.st 8)),.one (.dat (.st 8))]
abbrev ar6:L Pk:=[.one (.dat (.st 8))]
abbrev ar5:L Pk:=[.one (.dat (.st 10)),.one (.dat (.st 0))]
abbrev ar4:L Pk:=[.one (uT),.one (.dat (.st 5))]
abbrev ar3:L Pk:=[.one (.dat (.st 8)),dy,dy]
abbrev K132:L Ck:=[.dat (.st 12)]
abbrev ar2:L Pk:=[.one (.dat (.st 8)),dy,.one (uT)]
abbrev ar1:L Pk:=[.one (w4),.one (.dat (.st 4))]
abbrev K135:L Ck:=[w4]
abbrev ar0:L Pk:=[.one (uT),.one (.dat (.st 4))]
abbrev arZ:L Pk:=[.one (.dat (.st 8)),dy,.one (uT),.one (.dat (.st 6))]
abbrev arY:L Pk:=[.one (.dat (.st 8)),.one (.dat (.st 4)),dy]
abbrev arX:L Pk:=[.one (.dat (.st 10)),.one (.dat (.st 8)),.one (.dat (.st 4)),.one (.dat (.st 4))]
abbrev arW:L Pk:=[.one (.dat (.st 10)),.one (.dat (.st 8)),dy,.one (uT),.one (.dat (.st 4)),.one (.dat (.st 4)),dg]
abbrev VH:L Pk:=[.one (.dat (.st 8)),.one (.dat (.st 1)),.one (.dat (.st 4))]
abbrev arV:L Pk:=[.one (.dat (.st 10)),.one (.dat (.st 8)),dy,.one (uT),.one (.dat (.st 0)),.one (w4)]
abbrev arU:L Pk:=[.one (.dat (.st 8)),dy,.one (uT),dy,.one (.dat (.st 4)),.one (.dat (.st 4))]
abbrev arT:L Pk:=[.one (.dat (.st 12)),dy,dy,dy,.one (.dat (.st 4))]
abbrev alj:L Pk:=[.one (.dat (.st 8)),dy,.one (uT),dy,.one (w4)]
abbrev arS:L Pk:=[.one (.dat (.st 10)),.one (.dat (.st 8)),dy,.one (uT),.one (.dat (.st 4))]
abbrev arR:L Pk:=[.one (.dat (.st 8)),dy,.one (uT),.one (.dat (.st 4))]
abbrev arQ:L Pk:=[.one (.dat (.st 8)),dy,.one (uT),.one (.dat (.st 0)),.one (w4)]
abbrev arP:L Pk:=[.one (.dat (.st 8)),dy,.one (uT),dy]
abbrev ali:L Pk:=[.one (.dat (.st 10)),.one (.dat (.st 8)),dy]
abbrev K151:L Ck:=[.dat (.st 8),mg,O5]
abbrev alh:L Pk:=[.one (.dat (.st 10)),.one (DZ)]
abbrev K153:L Ck:=[.dat (.st 8),O5]
abbrev P154:L Pk:=[.one (.dat (.st 10)),.one (.dat (.st 8)),.one (.dat (.st 4))]
abbrev P155:L Pk:=[.one (.dat (.st 10)),.one (.dat (.st 8)),.one (w4),dy]
abbrev P156:L Pk:=[.one (.dat (.st 10)),.one (.dat (.st 8)),.one (uT),dg]
abbrev P157:L Pk:=[.one (.dat (.st 10)),dy]
abbrev P158:L Pk:=[.one (.dat (.st 10)),.one (.dat (.st 8)),.one (.dat (.st 6))]
abbrev P159:L Pk:=[.one (.dat (.st 10)),.one (.dat (.st 8))]
abbrev P160:L Pk:=[.one (.dat (.st 10)),.one (.dat (.st 8)),.one (DZ)]
abbrev P161:L Pk:=[.one (.dat (.sl (.st 11))),.one (.dat (.sl (.st 11)))]
abbrev P162:L Pk:=[.one (.own (.int .i64)),.one (w4)]
abbrev K163:L Ck:=[.own (.int .i64)]
abbrev P164:L Pk:=[.one (w4),.one (DZ)]
abbrev K165:L Ck:=[.dat (.st 8),mg,mg]
abbrev P166:L Pk:=[.one (.dat (.st 3)),.one (.dat (.st 8)),.one (DZ),.one (DZ)]
abbrev K167:L Ck:=[DZ,mg]
abbrev K168:L Ck:=[.dat (.st 8),.dat (.st 11),mg]
abbrev P169:L Pk:=[.one (.dat (.st 5)),.one (.dat (.st 5))]
abbrev P170:L Pk:=[.one (.dat (.st 3)),.one (.dat (.st 8)),.one (.dat (.st 8))]
abbrev K171:L Ck:=[O5,mg]
abbrev arO:L Pk:=[.one (.dat (.st 14))]
abbrev K173:L Ck:=[.dat (.st 11)]
abbrev arN:L Pk:=[.one (.dat (.st 15))]
abbrev arM:L Pk:=[.one (.dat (.st 16))]
abbrev arL:L Pk:=[.one (.dat (.st 31)),.one (.dat (.st 9))]
abbrev arK:L Pk:=[.one (.dat (.st 32)),.one (.dat (.st 9))]
abbrev arJ:L Pk:=[.one (.dat (.st 33)),.one (.dat (.st 9))]
abbrev Fn(ps:L Pk)(rs:L Ck)(pn:Bool):Type:=gp sg.A ps->O (RT pn (gH sg.A rs×iE sg.A ps) (den sg.A sg.pt×iE sg.A ps))
abbrev Y1:=ak×Int×L ai×Int×L ax×U
abbrev Y2:=(aZ×U)×U
abbrev Y3:=Nat->Y1->O Y2
abbrev Y4:=(Bool×U)×U
abbrev Y5:=Nat->Int×U->O Y4
abbrev Y6:=U×Int×L ai×Int×L ax×L ax×Bool×Int×Int×Int×O aP×U
abbrev Y7:=(L bx×L Int×L ei×L Int×Int×L bN×L aB×L Int×Int×L cw×L av×U)×U
abbrev Y8:=(ax×U)×Y6×Y7×L (Int×Bool)×U
abbrev Y9:=Y6×Y7×L (Int×Bool)×U
abbrev Y10:=U×Y6×Y7×L (Int×Bool)×U
abbrev Y11:=Any×Y6×Y7×L (Int×Bool)×U
abbrev IE:=Nat->Y9->O (Rx Y10 Y11)
abbrev JU:=Int×Int×L ax×L ai×U
abbrev lM:=L fT×Int×Bool×U
abbrev ID:=Int×Int×L UInt8×L Term×L aB×U
abbrev Y16:=(Term×U)×U
abbrev Ma:=(Term×U)×lM×U
abbrev LZ:=lM×U->O Ma
abbrev Y19:=Nat->LZ->lM×U->O Ma
abbrev Y20:=(aB×U)×lM×U
abbrev Y21:=Bool×lM×ID×U
abbrev VX:=L ai×U
abbrev Y23:=Y6×Y7×L (Int×Bool)×ax×ax×U
abbrev Y24:=VX×Y6×Y7×L (Int×Bool)×U
abbrev Y25:=Nat->ak×ak×U->O Y4
abbrev HX:=(bJ×U)×U
abbrev VW:=LO (Bool×U) (Int×U) U Any
abbrev Y28:=aA×bN×U
abbrev Hq:=O ((Int×U)×U)
abbrev Oz:=L bN×L aB×L oc×U
abbrev Vv:=bJ×gS×Int×Bool×U
abbrev Y32:=bJ×gS×gI×Bool×U
abbrev Y33:=L Int×Int×Oz×U
abbrev Y34:=LO (Bool×Oz×U) U (Oz×U) Any
abbrev Y35:=O ((bD×Bool×U)×U)
abbrev Hp:=L bx×L Int×L ei×L Int×Int×U
abbrev Y37:=Bool×Int×Hp×U
abbrev Y38:=(ak×aP×Int×Int×U)×U
abbrev Y39:=(ak×Int×Bool×U)×U
abbrev Y40:=bD×ak×L Int×U
abbrev Y41:=Nat->Int×Int×Int×U->O Y4
abbrev Tk:=(av×U)×U
abbrev Y43:=Nat->Int×Int×U->O Tk
abbrev Vu:=bD×ak×Int×U
abbrev Y45:=VX×U->O Y2
abbrev Y46:=(ax×U)×U
abbrev YX:=LO (Bool×U) U U Any
abbrev Y48:=ak×Int×L ai×bN×L ax×U
abbrev Y49:=aA×ak×U
abbrev Y50:=(ak×Int×U)×U
abbrev Y51:=Int×L (Int×Bool)×U
abbrev Y52:=L (Int×Bool)×U
abbrev Y53:=ak×Int×L ai×Int×ax×ax×U
abbrev Y54:=LO (Int×Bool×U) U U Any
abbrev Y55:=O ((L Term×U)×lM×U)
abbrev Y56:=lM×Int×U->Y55
abbrev Y57:=(L ax×U)×U
abbrev Y58:=L ax×Int×U
abbrev Y59:=(Int×Int×U)×U
abbrev Y60:=Nat->(aB×U->O Y4)->aB×U->O Y4
abbrev Y61:=L cw×Int×U
abbrev Y62:=Nat->L UInt8×U->O Y4
abbrev Y63:=(ax×ax×U)×Y6×Y7×L (Int×Bool)×U
abbrev Y64:=Rx (U×U) (Any×U)
abbrev Y65:=(Int×Int×U)×Y6×Y7×L (Int×Bool)×U
abbrev Y66:=Nat->Bool×U->O Y46
abbrev VV:=aB×L cw×U
abbrev Y68:=L gI×L Int×Int×L cw×U
abbrev Y69:=Term×L (L UInt8)×U
abbrev Bc:=L (L UInt8)×L cw×L gI×U
abbrev Y71:=Int×Y68×Bc×U
abbrev Y72:=Term×Bool×Bool×Bool×U
abbrev Y73:=Nat->Y9->O Y10
abbrev Y74:=ai×Bool×U
abbrev VU:=Y7×L (Int×Bool)×Int×U
abbrev Y76:=O ((fS×U)×Y7×L (Int×Bool)×U)
abbrev Y77:=Y7×L (Int×Bool)×U
abbrev Y78:=(L Int×U)×U
abbrev Y79:=Nat->L cw×U->O Y4
abbrev Y80:=L (L UInt8)×Int×U
abbrev Y81:=bD×ak×bx×U
abbrev Y82:=(cV×U)×lM×U
abbrev Y83:=lM×(L UInt8×L kL×L cV×U)×U
abbrev Y84:=Nat->cW×ai×U->O Y4
abbrev Y85:=O (LO (Int×U) (Int×U) U Any)
abbrev Y86:=cW×ai×Int×U
abbrev Y87:=Int×Int×L UInt8×L aB×U
abbrev Y88:=Int×Bc×Y87×U
abbrev Y89:=(aB×U)×Bc×U
abbrev Y90:=Bc×aB×U
abbrev Y91:=L Int×Int×U
abbrev Y92:=Nat->Int×U->O Y46
abbrev Y93:=Nat->Y49->O Y4
abbrev Y94:=Y6×Y7×L (Int×Bool)×L ai×U
abbrev Y95:=O ((aA×U)×U)
abbrev Y96:=(ak×L aP×Int×U)×U
abbrev Y97:=Nat->(aB×U->Hq)->aB×U->Hq
abbrev Y98:=LO (Int×Bool×U) (Int×U) U Any
abbrev Y99:=aA×ak×Int×U
abbrev ald:=dK×aB×U
abbrev yo:=LO (Bool×Bool×U) (Bool×U) U Any
abbrev ary:=Nat->ak×U->O Y4
abbrev alc:=Y6×Y7×L (Int×Bool)×ax×Int×U
abbrev arx:=bD×ak×U
abbrev alb:=Nat->(VV->O Y4)->VV->O Y4
abbrev nT:=LO (Bool×U) (Bool×U) U Any
abbrev ala:=Nat->aB×U->O Y4
abbrev agy:=L fT×Int×U
abbrev ak9:=Nat->L UInt8×U->O (agy×U)
abbrev ak8:=Nat->aA×U->O Y4
abbrev Zj:=cW×bx×U
abbrev ak7:=Nat->Zj->O Y4
abbrev ak6:=lM×L UInt8×U
abbrev acR:=O (U×lM×U)
abbrev ak5:=Nat->ax×U->O Y46
abbrev ak4:=cF×Bool×U
abbrev ak3:=aA×ak×L Int×U
abbrev Y118:=Nat->ak3->O Y4
abbrev ak2:=bD×L Int×U
abbrev ak1:=Nat->bJ×Int×Int×U->O HX
abbrev ak0:=Nat->Int×U->Hq
abbrev akZ:=cF×Int×U
abbrev akY:=Nat->U->O Y46
abbrev akX:=Term×Int×Int×U
abbrev Q8:=L UInt8×Int×U
abbrev agx:=bx×bx×U
abbrev arw:=Nat->agx->O Y4
abbrev Zi:=(L UInt8×Nat)×U
abbrev akW:=Nat->bM×U->O Y4
abbrev akV:=Y64->O (Rx Y10 Y11)
abbrev VA:=L (L UInt8)×U
abbrev OF:=O (VA×U)
abbrev Q7:=aA×Int×av×U
abbrev Zh:=L bh
abbrev Zg:=O ((Zh×Bool×U)×U)
abbrev OE:=(cF×U)×lM×U
abbrev Zf:=lM×U->O OE
abbrev Y138:=Nat->arx->O Y4
abbrev acQ:=(aP×U)×U
abbrev akU:=LO (Bool×Int×U) (Bool×U) U Any
abbrev akT:=L ai×ax×U
abbrev OD:=Int×Int×L Int×L aB×U
abbrev agw:=Int×Bc×OD×U
abbrev OB:=Bc×Term×L (L UInt8)×U
abbrev Q6:=(Int×U)×Bc×U
abbrev agv:=Int×U->O Q6
abbrev agu:=LO (Bool×OD×U) (Int×U) (OD×U) Any
abbrev akS:=L (L UInt8)×L UInt8×U
abbrev Y149:=(ak×aP×Int×U)×U
abbrev Y150:=Nat->Y99->O Y4
abbrev akR:=dK×Term×L (L UInt8)×U
abbrev arv:=O (LO Y58 U U Any)
abbrev aru:=(ak×U)×Y7×L (Int×Bool)×U
abbrev akQ:=Nat->Nat->Y77->O aru
abbrev agt:=(Int×Bool×U)×Y7×L (Int×Bool)×U
abbrev ags:=O (LO (Int×U) (Bool×U) U Any)
abbrev acP:=bD×ak×L ai×Bool×U
abbrev akP:=L UInt8×L iR×U
abbrev agr:=L UInt8×L cF×U
abbrev akN:=Bool×lM×agr×U
abbrev akM:=L UInt8×Int×Bool×U
abbrev Y162:=L aP×Int×Hp×Hp×U
abbrev art:=L aP×Int×U
abbrev akL:=ak×Int×Int×U
abbrev Y165:=O (akL×U)
abbrev agq:=(Bool×U)×lM×U
abbrev Ze:=LO (Bool×lM×U) (L Term×U) (lM×U) Any
abbrev Zd:=L Term×lM×U
abbrev akK:=Nat->cW×U->O Y4
abbrev akJ:=lM×Int×U->O OE
abbrev akI:=bx×Bool×U
abbrev Y172:=L aP×L aP×U
abbrev Zc:=L av×Zh×Int×U
abbrev acO:=L av×Bool×U
abbrev akH:=O (LO Zc acO U Any)
abbrev acN:=ak×aB×ax×U
abbrev acM:=L ax×Bool×U
abbrev acL:=O (acM×U)
abbrev ars:=Nat->Y91->O Y4
abbrev Zb:=Int×L (Int×Int)×(L Int×U)×U
abbrev akG:=L (Int×Int)×(L Int×U)×U
abbrev Y182:=Int×JU×L (Int×Int)×U
abbrev akF:=Int×Hp×L (Int×Int)×U
abbrev Y184:=ai×ai×U
abbrev agp:=O ((aP×Int×Int×U)×Y7×L (Int×Bool)×U)
abbrev Za:=L (L UInt8×Bool)
abbrev arq:=O ((ak×U)×U)
abbrev akE:=aA×L Int×U
abbrev akD:=Nat->Term×U->O Y4
abbrev akC:=aA×Int×U
abbrev YZ:=L av×U
abbrev YY:=L bN×L aB×L Int×Int×L cw×U
abbrev Lu:=Int×av×YZ×YY×(L Int×U)×U
abbrev Lt:=(Bool×U)×YZ×YY×(L Int×U)×U
abbrev sO:=YZ×YY×(L Int×U)×(Bool×U)×U
abbrev acK:=YZ×YY×(L Int×U)×U
abbrev acJ:=L av×Int×U
abbrev Ls:=LO sO acJ sO Any
abbrev akB:=(eD×U)×U
abbrev ago:=Int×YZ×YY×(L Int×U)×U
abbrev akA:=O (acJ×U)
abbrev agn:=aB×Int×U
abbrev akz:=Nat->(agn->Hq)->agn->Hq
abbrev Y204:=(Bool×Int×U)×U
abbrev Y205:=aA×ak×ak×U
abbrev IC:=bD×ak×Int×L ai×bN×L ax×U
abbrev Vz:=L bx×L Int×L ei×L Int×Int×Int×Int×Int×Int×Int×Int×U
abbrev OA:=bD×ak×Int×L ai×ax×U
abbrev acI:=Bool×Vz×JU×U
abbrev Vy:=LO (Bool×U) (eD×U) U Any
abbrev aky:=Y6×Y7×L (Int×Bool)×L ax×U
abbrev Vx:=LO (Bool×U) (Int×Int×U) U Any
abbrev Vw:=Y6×Y7×L (Int×Bool)×aB×ax×U
abbrev acH:=O (acM×Y6×Y7×L (Int×Bool)×U)
abbrev akx:=L ax×Int×Y6×Y7×L (Int×Bool)×U
abbrev agm:=Int×L UInt8×Int×Int×U
abbrev agl:=O ((fT×U)×U)
abbrev acG:=LO (Bool×agm×U) U (agm×U) Any
abbrev akw:=Int×Int×Hp×Hp×U
abbrev aQ(A B C:Type):=@iter A B C Any
abbrev q94(F:Fn P1 K2 J):lI sg:=⟨P1,K2,J,F⟩
def B94:akz:=
 λn f94 c=>aj (aE c.2.1 1) (Z (((-1),()),())) (ah (aQ (Int×Int×U) (Int×U) (U) (λd=>aj (aE d.2.1 (aq
 c.1.4)) (aj (br 0 d.1) (aO (aI d.2.1 c.1.4) (ah (f94 (bn c.1.4 (az d.2.1) aK,d.1,())) λe=>Z (N (e.1.1,aG .i64
 d.2.1 1,())))) (Z (H 0 d))) (Z (H 0 d))) n (bf .i64 c.2.1 1,0,())) λd=>bK d (λ_ g=>Z ((g.1,()),())) (λ_ g
 =>Z (g,())) λ_ _=>Y)
def D94(n:Nat)(f94:Fn P1 K2 J)(a:bC prog 94 (q94 f94)):bC prog 94 (q94 (B94 n f94)):=cS [⟨94,q94 f94,a⟩] [(94,0,⟨[(1,dy),(5,dy)],[],[],0⟩)] n 10 94
def R94(n k:Nat):(Fn P1 K2 J):=Nat.rec (motive:=λ_=>(Fn P1 K2 J)) (λ_=>Y) (λ_ r=>B94 n r) k
def F94(n:Nat):Fn P1 K2 J:=(R94 n n)
def alA(n:Nat):∀k,bC prog 94 (q94 (R94 n k))
 |0=>cm (enters 94 (by kernel_rfl))
 |k+1=>have a:=alA n k
  D94 n _ a
def k94(n:Nat):OC:=⟨94,q94 (F94 n),(alA n n)⟩
abbrev q95(F:Fn P3 K4 J):lI sg:=⟨P3,K4,J,F⟩
def B95:Y60:=
 λn f95 c=>ah (aQ (Int×U) (Bool×U) (U) (λd=>aj (aE d.1 (aq c.1.4)) (aO (aI d.1 c.1.4) (ah (f95 (bn c.1.4
 (az d.1) aK,())) λe=>aj (au e.1.1) (Z (X () (J,()))) (Z (N (aG .i64 d.1 1,()))))) (Z (H 0 d))) n
 (0,())) λd=>bK d (λ_ _=>Z ((br (aq c.1.3) 30,()),())) (λ_ g=>Z (g,())) λ_ _=>Y
def D95(n:Nat)(f95:Fn P3 K4 J)(a:bC prog 95 (q95 f95)):bC prog 95 (q95 (B95 n f95)):=cS [⟨95,q95 f95,a⟩] [(95,0,⟨[(3,dy)],[],[],0⟩)] n 10 95
def R95(n k:Nat):(Fn P3 K4 J):=Nat.rec (motive:=λ_=>(Fn P3 K4 J)) (λ_=>Y) (λ_ r=>B95 n r) k
def F95(n:Nat):Fn P3 K4 J:=(R95 n n)
def alz(n:Nat):∀k,bC prog 95 (q95 (R95 n k))
 |0=>cm (enters 95 (by kernel_rfl))
 |k+1=>have a:=alz n k
  D95 n _ a
def k95(n:Nat):OC:=⟨95,q95 (F95 n),(alz n n)⟩
def F41:ala:=
 λn b=>ah (F94 n (aB.mk b.1.1 b.1.2 b.1.3 b.1.4,16,())) λc=>aj (br 0 c.1.1) (ah (F95 n (aB.mk b.1.1 b.1.2 b.1.3 b.1.4,()))
 λd=>Z d) (Z ((J,()),()))
def k41(n:Nat):OC:=⟨41,⟨P3,K4,J,F41 n⟩,cS [k94 n,k95 n] [] n 10 41⟩
def F11:ak8:=
 λn b=>aj (aE 1600 (aq b.1.1)) (Z ((J,()),())) (aj (aE 120 (aq b.1.2)) (Z ((J,()),())) (aj (aE 320 (aq b.1.3))
 (Z ((J,()),())) (aj (aE 30 (aq b.1.5)) (Z ((J,()),())) (ah (aQ (Int×U) (Bool×U) (U) (λc=>aj (aE
 c.1 (aq b.1.2)) (aO (aI c.1 b.1.2) (ah (F41 n (bn b.1.2 (az c.1) aK,())) λd=>aj (au d.1.1) (Z (X () (J,())))
 (Z (N (aG .i64 c.1 1,()))))) (Z (H 0 c))) n (0,())) λc=>bK c (λ_ _=>ah (aQ (Int×U) (Bool×U) (U) (λg=>aj (aE g.1 (aq b.1.5)) (aO (aI g.1 b.1.5) (aj (aE 30 (aq (bn b.1.5 (az g.1) aY).1)) (Z (X () (J,
 ()))) (Z (N (aG .i64 g.1 1,()))))) (Z (H 0 g))) n (0,())) λg=>bK g (λ_ _=>Z ((W,()),())) (λ_ i=>Z
 (i,())) λ_ _=>Y) (λ_ e=>Z (e,())) λ_ _=>Y))))
def k11(n:Nat):OC:=⟨11,⟨P5,K4,J,F11 n⟩,cS [k41 n] [(11,0,⟨[(3,dy)],[],[],0⟩),(11,2,⟨[(4,dy)],[],[],0⟩)] n 10 11⟩
def F223:Y41:=
 λn b=>aj (br b.2.1 b.1) (Z ((br b.1 b.2.2.1,()),())) (Z ((J,()),()))
def abr(n:Nat):OC:=⟨223,⟨P6,K4,J,F223 n⟩,cS [] [] n 10 223⟩
def LB(n:Nat)(c:Zi):O (LO Zi (Bool×U) Zi Any):=
 Z (X ((c.1.1,acE c.1.2 (HY c.1.1 c.1.2)),()) (J,()))
def F284:Y62:=
 λn b=>aj (gC b.1 []) (Z ((J,()),())) (aj (aE 8 (aq b.1)) (Z ((J,()),())) (aO (aI 0 b.1) (aj (aE (mO b.1 0) 65)
 (Z ((J,()),())) (aO (aI 0 b.1) (aj (aE 90 (mO b.1 0)) (Z ((J,()),())) (aO (eK 1 (aq b.1) (aq b.1)) (ah (aQ (Zi) (Bool×U) (Zi) (λc=>aj (PB c.1.2 c.1.1) (aj (aE (vw c.1.1 c.1.2) 97) (LB n c) (aj (aE 122 (vw c.1.1 c.1.2))
 (LB n c) (Z (N ((c.1.1,acE c.1.2 (HY c.1.1 c.1.2)),()))))) (Z (H 0 c))) n ((cG b.1 1 (aq b.1),0),())) λc=>bK c
 (λ_ _=>Z ((W,()),())) (λ_ e=>Z (e,())) λ_ _=>Y)))))))
def anN(n:Nat):OC:=⟨284,⟨P7,K4,J,F284 n⟩,cS [] [(284,0,⟨[(0,.box (.rI))],[.slot 24],[],0⟩)] n 10 284⟩
def LD(n:Nat)(b:L cw×U)(c:Int×Za×U):O (LO (Int×Za×U) (Int×U) (Za×U) Any):=
 Z (X (jL (A:=sg.A) Ty.str (bn b.1 (az c.1) aY).1 W c.2.1,()) (c.1,()))
def F224:Y79:=
 λn b=>aj (br (aq b.1) 20) (ah (aQ (Int×Za×U) (Int×U) (Za×U) (λc=>aj (aE c.1 (aq b.1)) (aO (aI
 c.1 b.1) (ah (F284 n ((bn b.1 (az c.1) aY).1,())) λd=>aj d.1.1 (ah (F223 n ((bn b.1 (az c.1) aY).2,0,3,())) λe=>aj
 e.1.1 (aj (au (au (HV (A:=sg.A) Ty.str J (bn b.1 (az c.1) aY).1 c.2.1))) (LD n b c) (Z (N (aG .i64 c.1 1,jL
 (A:=sg.A) Ty.str (bn b.1 (az c.1) aY).1 W c.2.1,())))) (LD n b c)) (LD n b c))) (Z (H 0 c))) n (0,[],())) λc=>
 bK c (λ_ _=>Z ((au J,()),())) (λ_ e=>Z ((au (br 0 e.1),()),())) λ_ _=>Y) (Z ((J,()),()))
def anZ(n:Nat):OC:=⟨224,⟨P8,K4,J,F224 n⟩,cS [abr n,anN n] [(328,0,⟨[(8,dy),(0,.box (.map (.str) (.bool)))],[.cell (.cap (.cell (.cap (.slot 1) 0) 0) 0) 0],[],0⟩)] n 10 224⟩
abbrev WJ(F:Fn P1 K2 J):lI sg:=⟨P1,K2,J,F⟩
def HP(c:agn)(d:Int×Int×U):aB:=
 bn c.1.4 (az d.2.1) aK
def B228:akz:=
 λn f228 c=>ah (aQ (Int×Int×U) (Int×U) (U) (λd=>aj (aE d.2.1 (aq c.1.4)) (aO (aI d.2.1 c.1.4) (aj (aE
 d.1 0) (Z (H 0 d)) (ah (f228 (aB.mk (HP c d).1 (HP c d).2 (HP c d).3 (HP c d).4,d.1,())) λe=>Z (N (e.1.1,
 aG .i64 d.2.1 1,()))))) (Z (H 0 d))) n (bf .i64 c.2.1 1,0,())) λd=>bK d (λ_ g=>Z ((g.1,()),())) (λ_ g=>Z
 (g,())) λ_ _=>Y
def D228(n:Nat)(f228:Fn P1 K2 J)(a:bC prog 228 (WJ f228)):bC prog 228 (WJ (B228 n f228)):=cS [⟨228,WJ f228,a⟩] [(228,0,⟨[(1,dy),(12,dy)],[],[],0⟩)] n 10 228
def R228(n k:Nat):(Fn P1 K2 J):=Nat.rec (motive:=λ_=>(Fn P1 K2 J)) (λ_=>Y) (λ_ r=>B228 n r) k
def F228(n:Nat):Fn P1 K2 J:=(R228 n n)
def ad6(n:Nat):∀k,bC prog 228 (WJ (R228 n k))
 |0=>cm (enters 228 (by kernel_rfl))
 |k+1=>have a:=ad6 n k
  D228 n _ a
def anY(n:Nat):OC:=⟨228,WJ (F228 n),(ad6 n n)⟩
abbrev WI(F:Fn P9 K4 J):lI sg:=⟨P9,K4,J,F⟩
def sW(n:Nat)(f229:VV->O Y4):O Y4:=
 Z ((J,()),())
def LP(c:VV)(g:Int×U):aB:=
 bn c.1.4 (az g.1) aK
def RB(n:Nat)(f229:VV->O Y4)(c:VV):O Y4:=
 ah (aQ (Int×U) (Int×U) (U) (λg=>aj (aE g.1 (aq c.1.4)) (aO (aI g.1 c.1.4) (ah (f229 (aB.mk (LP c g).1
 (LP c g).2 (LP c g).3 (LP c g).4,c.2)) λh=>aj (au h.1.1) (Z (X () g)) (Z (N (aG .i64 g.1 1,()))))) (Z
 (H 0 g))) n (0,())) λg=>bK g (λ_ _=>Z ((au J,()),())) (λ_ i=>Z ((au (br 0 i.1),()),())) λ_ _=>
 Y
def HO(n:Nat)(f229:VV->O Y4)(c:VV):O Y4:=
 aj (gC c.1.3 []) (aj (aa (aq c.1.4) 0) (RB n f229 c) (sW n f229)) (sW n f229)
def B229:alb:=
 λn f229 c=>ah (aj (aa c.1.1 1) (Z (N (W,()))) (ah (aj (aa c.1.1 2) (Z (N (W,()))) (Z (N (aa c.1.1
 5,())))) λ(d:nT)=>ck d (λe=>Z (N e)) (λ_ _=>Y) (λ_ g=>Z (X () g)) λ_ _=>Y)) λ(d:nT)=>
 ck d (λe=>aj e.1 (aj (au (aa c.1.2 0)) (sW n f229) (HO n f229 c)) (aj (aa c.1.1 3) (ah (F223 n (c.1.2,(-1000000000),
 1000000000,())) λg=>aj (au g.1.1) (sW n f229) (HO n f229 c)) (aj (aa c.1.1 4) (ah (F223 n (c.1.2,0,1,())) λg=>aj
 (au g.1.1) (sW n f229) (HO n f229 c)) (aj (aa c.1.1 6) (ah (F223 n (c.1.2,0,bf .i64 (aq c.2.1) 1,())) λg=>aj (au
 g.1.1) (sW n f229) (aO (aI c.1.2 c.2.1) (aj (gC c.1.3 []) (aj (aa (aq c.1.4) (bn c.2.1 (az c.1.2) aY).2) (RB n f229 c)
 (sW n f229)) (sW n f229)))) (sW n f229))))) (λ_ _=>Y) (λ_ g=>Z (g,())) λ_ _=>Y
def D229(n:Nat)(f229:Fn P9 K4 J)(a:bC prog 229 (WI f229)):bC prog 229 (WI (B229 n f229)):=cS [abr n,⟨229,WI f229,a⟩] [(229,1000005,⟨[(8,dg)],[],[],0⟩),(229,1000006,⟨[(8,dg)],[],[],0⟩),(313,0,⟨[(8,dy)],[],[],0⟩)] n 10 229
def R229(n k:Nat):(Fn P9 K4 J):=Nat.rec (motive:=λ_=>(Fn P9 K4 J)) (λ_=>Y) (λ_ r=>B229 n r) k
def F229(n:Nat):Fn P9 K4 J:=(R229 n n)
def ad5(n:Nat):∀k,bC prog 229 (WI (R229 n k))
 |0=>cm (enters 229 (by kernel_rfl))
 |k+1=>have a:=ad5 n k
  D229 n _ a
def anX(n:Nat):OC:=⟨229,WI (F229 n),(ad5 n n)⟩
def jh(n:Nat)(b:akC):O Y4:=
 F223 n (b.2.1,1,34,())
def nW(n:Nat):nT->O nT:=
 λc=>ck c (λd=>Z (N d)) (λ_ _=>Y) (λ_ e=>Z (X () e)) λ_ _=>Y
def F232:Nat->akC->O ((eI×eI×Bool×U)×U):=
 λn b=>aj (aa b.2.1 1) (ah (jh n b) λc=>Z ((eI.mk (-1000000000) 1000000000 W,fN,c.1),())) (aj (aa b.2.1
 2) (ah (jh n b) λc=>Z ((eI.mk 0 1 W,fN,c.1),())) (aj (aa b.2.1 4) (ah (jh n b) λc=>Z ((eI.mk
 0 29 W,fN,c.1),())) (aj (aa b.2.1 5) (ah (jh n b) λc=>Z ((eI.mk 0 (bf .i64 (aq b.1.3) 1) W,fN,
 c.1),())) (ah (aj (aa b.2.1 6) (Z (N (W,()))) (ah (aj (aa b.2.1 11) (Z (N (W,()))) (ah (aj (aa b.2.1 12)
 (Z (N (W,()))) (ah (aj (aa b.2.1 31) (Z (N (W,()))) (Z (N (aa b.2.1 32,())))) (nW n))) (nW n)))
 (nW n))) λ(c:nT)=>ck c (λd=>aj d.1 (ah (jh n b) λe=>Z ((eI.mk 0 (bf .i64 (aq b.1.1) 1) W,
 fN,e.1),())) (aj (aa b.2.1 10) (ah (jh n b) λe=>Z ((eI.mk 1 30 W,fN,e.1),())) (aj (aa b.2.1 18)
 (ah (jh n b) λe=>Z ((eI.mk 0 (bf .i64 (aq b.1.5) 1) W,fN,e.1),())) (aj (aa b.2.1 19) (ah (jh n b) λ
 e=>Z ((eI.mk 0 (bf .i64 (aq b.1.2) 1) W,eI.mk 0 (bf .i64 (aq b.1.1) 1) W,e.1),())) (aj (aa b.2.1 29) (ah
 (jh n b) λe=>Z ((eI.mk 0 3 W,fN,e.1),())) (ah (jh n b) λe=>Z ((fN,fN,e.1),())))))))
 (λ_ _=>Y) (λ_ e=>Z ((fN,fN,e),())) λ_ _=>Y))))
def anW(n:Nat):OC:=⟨232,⟨P10,K11,J,F232 n⟩,cS [abr n] [(232,1000012,⟨[(30,dg)],[],[],0⟩),(232,1000013,⟨[(30,dg)],[],[],0⟩),(232,1000014,⟨[(30,dg)],[],[],0⟩),(232,1000015,⟨[(30,dg)],[],[],0⟩)] n 10 232⟩
def nX(n:Nat):Hq:=
 Z ((2,()),())
def u6(b:aA×U)(k:Int×U):aB:=
 bn b.1.2 (az k.1) aK
def LH(n:Nat)(b:aA×U):Hq:=
 ah (aQ (Int×U) (Int×U) (U) (λo=>aj (aE o.1 (aq b.1.1)) (aO (aI o.1 b.1.1) (ah (F232 n (b.1,(bn b.1.1 (az o.1)
 bY).1,())) λp=>aj p.1.2.2.1 (ah (F223 n ((bn b.1.1 (az o.1) bY).2,p.1.1.1,p.1.1.2,())) λq=>aj q.1.1 (ah (F223 n ((bn
 b.1.1 (az o.1) bY).3,p.1.2.1.1,p.1.2.1.2,())) λr=>aj (au r.1.1) (Z (X () o)) (Z (N (aG .i64 o.1 1,()))))
 (Z (X () o))) (Z (X () o)))) (Z (H 0 o))) n (0,())) λo=>bK o (λ_ _=>aj (au (au J)) (nX n) (Z
 ((0,()),()))) (λ_ q=>aj (au (au (br 0 q.1))) (nX n) (Z ((0,()),()))) λ_ _=>Y
def LG(n:Nat)(b:aA×U):Hq:=
 ah (aQ (Int×U) (Int×U) (U) (λk=>aj (aE k.1 (aq b.1.2)) (aO (aI k.1 b.1.2) (ah (F228 n (aB.mk (u6 b k).1
 (u6 b k).2 (u6 b k).3 (u6 b k).4,12,())) λl=>aj (br 0 l.1.1) (ah (F229 n (aB.mk (u6 b k).1 (u6 b k).2 (u6 b
 k).3 (u6 b k).4,b.1.5,())) λm=>aj (au m.1.1) (Z (X () k)) (Z (N (aG .i64 k.1 1,())))) (Z (X () k)))) (Z
 (H 0 k))) n (0,())) λk=>bK k (λ_ _=>aj (au (au J)) (nX n) (LH n b)) (λ_ m=>aj (au (au (br 0
 m.1))) (nX n) (LH n b)) λ_ _=>Y
def F147:Nat->aA×U->Hq:=
 λn b=>ah (F223 n (aq b.1.1,1,1500,())) λc=>aj (au c.1.1) (nX n) (aj (aE 100 (aq b.1.2)) (nX n) (ah (F224 n (b.1.5,
 ())) λd=>aj (au d.1.1) (nX n) (ah (F223 n (aq b.1.3,1,300,())) λe=>aj (au e.1.1) (nX n) (ah (F223 n (b.1.4,0,
 bf .i64 (aq b.1.3) 1,())) λg=>aj (au g.1.1) (nX n) (ah (aQ (Int×U) (Int×U) (U) (λh=>aj (aE h.1
 (aq b.1.3)) (aO (aI h.1 b.1.3) (ah (F223 n (bn b.1.3 (az h.1) 0,0,bf .i64 (aq b.1.1) 1,())) λi=>aj (au i.1.1) (Z (X
 () h)) (Z (N (aG .i64 h.1 1,()))))) (Z (H 0 h))) n (0,())) λh=>bK h (λ_ _=>aj (au (au J)) (nX n)
 (LG n b)) (λ_ j=>aj (au (au (br 0 j.1))) (nX n) (LG n b)) λ_ _=>Y)))))
def aix(n:Nat):OC:=⟨147,⟨P5,K2,J,F147 n⟩,cS [abr n,anZ n,anY n,anX n,anW n] [(237,0,⟨[(8,dy)],[],[],0⟩),(313,0,⟨[(8,dy)],[],[],0⟩),(314,0,⟨[(8,dy)],[],[],0⟩)] n 10 147⟩
def zV(n:Nat):Vy->O Vy:=
 λc=>ck c (λd=>Z (N d)) (λ_ _=>Y) (λ_ e=>Z (X () e)) λ_ _=>Y
def xm(n:Nat):Vy->O Vy:=
 λe=>ck e (λg=>Z (N g)) (λ_ _=>Y) (λ_ h=>Z (X () h)) λ_ _=>Y
def F149:Nat->Y28->O akB:=
 λn b=>aj (aa b.2.1.1 4) (Z ((eD.a0 (m8.mk (aG .i64 b.2.1.2 1)),()),())) (aj (aa b.2.1.1 10) (Z ((eD.a0
 (m8.mk b.2.1.2),()),())) (ah (aj (aa b.2.1.1 7) (Z (N (W,()))) (ah (aj (aa b.2.1.1 13) (Z (N (W,()))) (ah
 (aj (aa b.2.1.1 14) (Z (N (W,()))) (ah (aj (aa b.2.1.1 15) (Z (N (W,()))) (ah (aj (aa b.2.1.1 16) (Z
 (N (W,()))) (ah (aj (aa b.2.1.1 17) (Z (N (W,()))) (ah (aj (aa b.2.1.1 23) (Z (N (W,()))) (Z (N
 (aa b.2.1.1 27,())))) (zV n))) (zV n))) (zV n))) (zV n))) (zV n))) (zV n))) λ(c:Vy)=>ck c (λd=>aj d.1
 (Z ((eD.a1 (jR.mk 2),()),())) (aj (aa b.2.1.1 8) (Z ((eD.a2 (nc.mk 2),()),())) (aj (aa b.2.1.1 34) (Z
 ((eD.a2 (nc.mk 1),()),())) (ah (aj (aa b.2.1.1 9) (Z (N (W,()))) (ah (aj (aa b.2.1.1 12) (Z (N (W,
 ()))) (ah (aj (aa b.2.1.1 19) (Z (N (W,()))) (ah (aj (aa b.2.1.1 21) (Z (N (W,()))) (ah (aj (aa b.2.1.1 22)
 (Z (N (W,()))) (ah (aj (aa b.2.1.1 24) (Z (N (W,()))) (ah (aj (aa b.2.1.1 25) (Z (N (W,()))) (ah (aj
 (aa b.2.1.1 28) (Z (N (W,()))) (Z (N (aa b.2.1.1 29,())))) (xm n))) (xm n))) (xm n))) (xm n))) (xm
 n))) (xm n))) (xm n))) λ(e:Vy)=>ck e (λg=>aj g.1 (Z ((eD.a1 (jR.mk 1),()),())) (aj (aa b.2.1.1 18) (aO
 (aI b.2.1.2 b.1.5) (Z ((eD.a1 (jR.mk (bn b.1.5 (az b.2.1.2) aY).2),()),()))) (Z ((eD.a1 zA,()),()))))
 (λ_ _=>Y) (λ_ h=>Z (h,())) λ_ _=>Y)))) (λ_ _=>Y) (λ_ e=>Z (e,())) λ_ _=>Y))
def aiw(n:Nat):OC:=⟨149,⟨P12,K13,J,F149 n⟩,cS [] [(149,1000007,⟨[(20,dg)],[],[],0⟩),(149,1000008,⟨[(20,dg)],[],[],0⟩),(149,1000009,⟨[(20,dg)],[],[],0⟩),(149,1000010,⟨[(20,dg)],[],[],0⟩),(149,1000011,⟨[(20,dg)],[],[],0⟩),(149,1000012,⟨[(20,dg)],[],[],0⟩),(149,1000013,⟨[(20,dg)],[],[],0⟩),(149,1000020,⟨[(39,dg)],[],[],0⟩),(149,1000021,⟨[(39,dg)],[],[],0⟩),(149,1000022,⟨[(39,dg)],[],[],0⟩),(149,1000023,⟨[(39,dg)],[],[],0⟩),(149,1000024,⟨[(39,dg)],[],[],0⟩),(149,1000025,⟨[(39,dg)],[],[],0⟩),(149,1000026,⟨[(39,dg)],[],[],0⟩),(149,1000027,⟨[(39,dg)],[],[],0⟩)] n 10 149⟩
def F152:Y43:=
 λn b=>Z ((av.mk W b.1 b.2.1,()),())
def aiv(n:Nat):OC:=⟨152,⟨P14,K15,J,F152 n⟩,cS [] [] n 10 152⟩
abbrev WA(F:Fn P3 K2 J):lI sg:=⟨P3,K2,J,F⟩
def HM(c:aB×U)(g:Int×Int×U):aB:=
 bn c.1.4 (az g.2.1) aK
def B290:Y97:=
 λn f290 c=>ah (aj (aa c.1.1 2) (Z (N (1,W,()))) (Z (N (0,J,())))) λ(d:Y98)=>ck d (λe=>ah (@iter
 (Int×Int×U) (Int×U) (U) (Any) (λg=>aj (aE g.2.1 (aq c.1.4)) (aO (aI g.2.1 c.1.4) (ah (f290 (aB.mk (HM c g).1
 (HM c g).2 (HM c g).3 (HM c g).4,())) λh=>Z (N (aG .i64 g.1 h.1.1,aG .i64 g.2.1 1,())))) (Z (H 0 g))) n
 (e.1,0,())) λg=>bK g (λ_ i=>Z ((i.1,()),())) (λ_ i=>Z (i,())) λ_ _=>Y) (λ_ _=>Y) (λ_ g=>Z (g,()))
 λ_ _=>Y
def D290(n:Nat)(f290:Fn P3 K2 J)(a:bC prog 290 (WA f290)):bC prog 290 (WA (B290 n f290)):=cS [⟨290,WA f290,a⟩] [(290,0,⟨[(3,dy),(12,dy)],[],[],0⟩),(290,1000003,⟨[(3,dy),(8,dg)],[],[],0⟩)] n 10 290
def R290(n k:Nat):(Fn P3 K2 J):=Nat.rec (motive:=λ_=>(Fn P3 K2 J)) (λ_=>Y) (λ_ r=>B290 n r) k
def F290(n:Nat):Fn P3 K2 J:=(R290 n n)
def adW(n:Nat):∀k,bC prog 290 (WA (R290 n k))
 |0=>cm (enters 290 (by kernel_rfl))
 |k+1=>have a:=adW n k
  D290 n _ a
def anM(n:Nat):OC:=⟨290,WA (F290 n),(adW n n)⟩
def oT(n:Nat):Vx->O Vx:=
 λc=>ck c (λd=>Z (N d)) (λ_ _=>Y) (λ_ e=>Z (X () e)) λ_ _=>Y
def sR(n:Nat):Vx->O Vx:=
 λe=>ck e (λg=>Z (N g)) (λ_ _=>Y) (λ_ h=>Z (X () h)) λ_ _=>Y
def F235:Nat->Y28->O Y59:=
 λn b=>ah (aj (aa b.2.1.1 1) (Z (N (W,()))) (ah (aj (aa b.2.1.1 2) (Z (N (W,()))) (ah (aj (aa b.2.1.1 3)
 (Z (N (W,()))) (ah (aj (aa b.2.1.1 4) (Z (N (W,()))) (ah (aj (aa b.2.1.1 5) (Z (N (W,()))) (ah (aj
 (aa b.2.1.1 6) (Z (N (W,()))) (ah (aj (aa b.2.1.1 26) (Z (N (W,()))) (ah (aj (aa b.2.1.1 30) (Z (N
 (W,()))) (ah (aj (aa b.2.1.1 33) (Z (N (W,()))) (ah (aj (aa b.2.1.1 31) (Z (N (W,()))) (Z (N (aa
 b.2.1.1 32,())))) (oT n))) (oT n))) (oT n))) (oT n))) (oT n))) (oT n))) (oT n))) (oT n))) (oT n))) λ(c:Vx)
 =>ck c (λd=>aj d.1 (Z ((1,0,()),())) (ah (aj (aa b.2.1.1 7) (Z (N (W,()))) (ah (aj (aa b.2.1.1 12) (Z
 (N (W,()))) (ah (aj (aa b.2.1.1 13) (Z (N (W,()))) (ah (aj (aa b.2.1.1 14) (Z (N (W,()))) (ah (aj
 (aa b.2.1.1 15) (Z (N (W,()))) (ah (aj (aa b.2.1.1 16) (Z (N (W,()))) (ah (aj (aa b.2.1.1 17) (Z (N
 (W,()))) (ah (aj (aa b.2.1.1 23) (Z (N (W,()))) (Z (N (aa b.2.1.1 27,())))) (sR n))) (sR n))) (sR n)))
 (sR n))) (sR n))) (sR n))) (sR n))) λ(e:Vx)=>ck e (λg=>aj g.1 (Z (((-1),0,()),())) (aj (aa b.2.1.1 9) (Z
 (((-1),1,()),())) (aj (aa b.2.1.1 10) (Z ((0,OY .i64 b.2.1.2,()),())) (aj (aa b.2.1.1 18) (aO (aI b.2.1.2 b.1.5) (Z ((bf .i64
 1 (bn b.1.5 (az b.2.1.2) aY).2,0,()),()))) (aj (aa b.2.1.1 19) (aO (aI b.2.1.2 b.1.2) (ah (F290 n (bn b.1.2 (az b.2.1.2)
 aK,())) λh=>Z (((-1),h.1),()))) (Z ((0,0,()),()))))))) (λ_ _=>Y) (λ_ h=>Z (h,())) λ_ _=>Y)) (λ_ _=>
 Y) (λ_ e=>Z (e,())) λ_ _=>Y
def aip(n:Nat):OC:=⟨235,⟨P12,K16,J,F235 n⟩,cS [anM n] [(235,1000003,⟨[(8,dg)],[],[],0⟩),(235,1000004,⟨[(8,dg)],[],[],0⟩),(235,1000005,⟨[(8,dg)],[],[],0⟩),(235,1000006,⟨[(8,dg)],[],[],0⟩),(235,1000007,⟨[(8,dg)],[],[],0⟩),(235,1000008,⟨[(8,dg)],[],[],0⟩),(235,1000009,⟨[(8,dg)],[],[],0⟩),(235,1000010,⟨[(8,dg)],[],[],0⟩),(235,1000011,⟨[(8,dg)],[],[],0⟩),(235,1000012,⟨[(8,dg)],[],[],0⟩),(235,1000015,⟨[(20,dg)],[],[],0⟩),(235,1000016,⟨[(20,dg)],[],[],0⟩),(235,1000017,⟨[(20,dg)],[],[],0⟩),(235,1000018,⟨[(20,dg)],[],[],0⟩),(235,1000019,⟨[(20,dg)],[],[],0⟩),(235,1000020,⟨[(20,dg)],[],[],0⟩),(235,1000021,⟨[(20,dg)],[],[],0⟩),(235,1000022,⟨[(20,dg)],[],[],0⟩)] n 10 235⟩
def F236:Nat->bN×eD×U->O Y4:=
 λn b=>aj (mG [(315,Ty.st 31),(317,Ty.st 32),(318,Ty.st 33)] 2 (jt 34 b.2.1)) (Z ((W,()),())) (Z ((aa b.1.1 20,()),()))
def aio(n:Nat):OC:=⟨236,⟨P17,K4,J,F236 n⟩,cS [] [] n 10 236⟩
def F356:Nat->m8×av×U->O Y4:=
 λn b=>Z ((br b.1.1 b.2.1.3,()),())
def ah8(n:Nat):OC:=⟨356,⟨arL,K4,J,F356 n⟩,cS [] [] n 10 356⟩
def F357:Nat->jR×av×U->O Y4:=
 λn b=>Z ((br b.1.1 b.2.1.2,()),())
def ah7(n:Nat):OC:=⟨357,⟨arK,K4,J,F357 n⟩,cS [] [] n 10 357⟩
def F358:Nat->nc×av×U->O Y4:=
 λn b=>Z ((aa b.2.1.2 b.1.1,()),())
def ah6(n:Nat):OC:=⟨358,⟨arJ,K4,J,F358 n⟩,cS [] [] n 10 358⟩
abbrev E99(n:Nat):eO sg:=⟨DS,EV [aix n,aiw n,aiv n,aip n,aio n,ah8 n,ah7 n,ah6 n],Wd [(99,0,⟨[(0,YP),(0,b5z),(0,Ea),(0,.box (.cells [O5]))],[.slot 4,.slot 1,.slot 5,.slot 7],[],0⟩),(237,0,⟨[(8,dy),(0,YP),(0,b5z),(0,Ea)],[.cap (.cell (.cap (.cell (.cap (.slot 1) 0) 0) 0) 0) 0,.cap (.cell (.cap (.cell (.cap (.slot 1) 0) 0) 0) 0) 1,.cap (.cell (.cap (.cell (.cap (.slot 1) 0) 0) 0) 0) 2],[],0⟩)],J,cjL [(148,0,⟨[(0,dy),(1,.one (.dat (.st 9))),(0,YP),(0,b5z),(0,Ea)],[.slot 2,.slot 3,.slot 4],[],[.dat .bool]⟩),(1000151,0,⟨[],[],[],[]⟩),(1000155,0,⟨[],[],[],[]⟩),(1000238,0,⟨[],[],[],[]⟩),(1000234,0,⟨[],[],[],[]⟩),(1000152,0,⟨[],[],[],[]⟩),(1000235,0,⟨[],[],[],[]⟩),(1000000,0,⟨[],[],[],[]⟩)]⟩
def ej:Nat->Nat->Lu->O Lt:=λn a x=>Pp (wS (E99 n) n a) 148 [(0,dy),(1,.one (.dat (.st 9))),(0,YP),(0,b5z),(0,Ea)] [.dat .bool] [2,0,3] [] (Qx ([2,0,3]++[]) [(0,dy),(1,.one (.dat (.st 9))),(0,YP),(0,b5z),(0,Ea)] (SU [.emp,.emp,.ptr 2 0,.ptr 0 0,.ptr 3 0])) (stJ [2,0,3] [] ⟨trL [],0,0,0,[],[]⟩) x
def lf(c:Lu):O Lt:=
 Z ((J,()),c.2.2)
def jk(c:Lu):Bool:=
 dV (az c.1) c.2.2.1.1
def qu:L (Nat×Ty):=
 [(315,Ty.st 31),(317,Ty.st 32),(318,Ty.st 33)]
def qt(c:Lu):Y4->O Lt:=
 λe=>aj (au e.1.1) (lf c) (aO (aI c.1 c.2.2.1.1) (aO (jk c) (aj (au (bn c.2.2.1.1 (az c.1) aU).1) (aO (aI c.1
 c.2.2.1.1) (aO (jk c) (aO (de c.2.2.2.2.1.1 [c.1]) (Z ((W,()),(lE c.2.2.1.1 (az c.1) c.2.1,()),c.2.2.2.1,(cZ c.2.2.2.2.1.1
 [c.1],()),()))))) (Z ((W,()),c.2.2)))))
def xX(n:Nat)(c:Lu):O Lt:=
 aO (aI c.1 c.2.2.2.1.1) (ah (F149 n (aA.mk c.2.2.2.1.1 c.2.2.2.1.2.1 c.2.2.2.1.2.2.1 c.2.2.2.1.2.2.2.1 c.2.2.2.1.2.2.2.2.1,bn c.2.2.2.1.1
 (az c.1) bY,())) λd=>aj (mG qu 0 (jt 34 d.1.1)) (ah (F356 n (kF (Sg.zero sg) qu 0 (jt 34 d.1.1),c.2.1,()))
 (qt c)) (aj (mG qu 1 (jt 34 d.1.1)) (ah (F357 n (kF (Sg.zero sg) qu 1 (jt 34 d.1.1),c.2.1,())) (qt c)) (aj (mG
 qu 2 (jt 34 d.1.1)) (ah (F358 n (kF (Sg.zero sg) qu 2 (jt 34 d.1.1),c.2.1,())) (qt c)) Y)))
def xY:Nat->Nat->Lu->O Lt:=
 λn a c=>aj (br (aq c.2.2.1.1) c.1) (lf c) (aj (aE 60 c.2.1.2) (lf c) (aj (aE 30 c.2.1.3) (lf c) (aO (aI c.1
 c.2.2.1.1) (aO (jk c) (aj (bn c.2.2.1.1 (az c.1) aU).1 (aO (aI c.1 c.2.2.1.1) (aO (jk c) (aj (au (bZ (o7 (bn
 c.2.2.1.1 (az c.1) aU).1 c.2.1.1) (bZ (aa (bn c.2.2.1.1 (az c.1) aU).2 c.2.1.2) (bZ (aa (bn c.2.2.1.1 (az c.1)
 aU).3 c.2.1.3) W)))) (lf c) (xX n c)))) (xX n c))))))
def zL(n a:Nat):ej n (a+1)=xY n a:=by kernel_rfl
def sj(i:sO):Int:=
 bf .i64 (aq i.2.2.1.1) 1
def ij(i:sO):Int:=
 bn i.2.2.1.1 (az (sj i)) 0
def jg(i:sO):bN:=
 bn i.2.1.1 (az (ij i)) bY
def nB(i:sO):Y28:=
 (aA.mk i.2.1.1 i.2.1.2.1 i.2.1.2.2.1 i.2.1.2.2.2.1 i.2.1.2.2.2.2.1,jg i,())
def JW(n:Nat)(i:sO)(j:Y59):O Tk:=
 F152 n (aG .i64 (bn i.1.1 (az (ij i)) aU).2 j.1.1,aG .i64 (bn i.1.1 (az (ij i)) aU).3 j.1.2.1,())
def Hv(i:sO):acK:=
 (i.1,i.2.1,(cG i.2.2.1.1 0 (sj i),()),())
def tY(i:sO)(k:Tk):Lu:=
 ((jg i).2,k.1.1,Hv i)
def DC(n:Nat)(l:Lt):O Ls:=
 Z (H 0 (l.2.1,l.2.2.1,l.2.2.2.1,l.1,()))
def DB(n:Nat)(l:Lt):O Ls:=
 Z (N (l.2.1,l.2.2.1,l.2.2.2.1,l.1,()))
def oR(n:Nat):Lt->O Ls:=
 λl=>aj (au l.1.1) (DC n l) (DB n l)
def ni(n:Nat)(i:sO)(m:akB):O Y4:=
 F236 n (jg i,m.1)
def sQ(i:sO)(k:Tk)(l:Lt):Lu:=
 (aG .i64 (ij i) 1,k.1.1,l.2)
def Hx(i:sO):Lu:=
 ((jg i).3,bn i.1.1 (az (ij i)) aU,Hv i)
def Zw(n:Nat)(a:Nat)(c:aA×U)(d:(Int×U)×U)(h:ago)(i:sO)(k:Tk):Tk->O Ls:=
 λl=>ah (ej n (a+8) (tY i l)) λm=>aj (au m.1.1) (DC n m) (ah (F149 n (nB i)) λo=>ah (ni n i o) λp=>aj
 (au p.1.1) (ah (ej n (a+8) (sQ i k m)) (oR n)) (DB n m))
def Zv(n:Nat)(a:Nat)(c:aA×U)(d:(Int×U)×U)(h:ago)(i:sO)(k:Tk):O Ls:=
 ah (F152 n (0,aG .i64 (bn i.1.1 (az (ij i)) aU).3 1,())) (Zw n a c d h i k)
def Hw(n:Nat)(i:sO):O Ls:=
 Z (N (i.1,i.2.1,(cG i.2.2.1.1 0 (sj i),()),i.2.2.2))
def Zu(n:Nat):Ls->akA:=
 λi=>bK i (λ_ k=>aj (au k.2.2.2.1.1) (Z (([],7,()),())) (Z ((k.1.1,0,()),()))) (λ_ k=>Z (k,())) λ_ _=>Y
def Zt(n:Nat)(a:Nat)(c:aA×U)(d:(Int×U)×U)(g:acK)(h:Int×U)(i:sO)(k:Tk):Tk->O Ls:=
 λl=>ah (ej n (a+8) (tY i l)) λm=>aj (au m.1.1) (DC n m) (ah (F149 n (nB i)) λo=>ah (ni n i o) λp=>aj
 (au p.1.1) (ah (ej n (a+8) (sQ i k m)) (oR n)) (DB n m))
def Zs(n:Nat)(a:Nat)(c:aA×U)(d:(Int×U)×U)(g:acK)(h:Int×U)(i:sO)(k:Tk):O Ls:=
 ah (F152 n (0,aG .i64 (bn i.1.1 (az (ij i)) aU).3 1,())) (Zt n a c d g h i k)
def G99:Nat->Nat->aA×U->akA:=
 λn a c=>ah (F147 n c) λd=>aj (au (aa d.1.1 0)) (Z (([],2,()),())) (aO (nR (PR (aq c.1.1)) (gi (aq c.1.1) (aq
 c.1.1))) (ah (aQ (ago) (Int×U) (acK) (λe=>aj (aE e.1 (aq c.1.3)) (aO (aI e.1 c.1.3) (ah (F152 n (0,1,())) λg=>
 ah (ej n (a+5) (bn c.1.3 (az e.1) 0,g.1.1,e.2)) λh=>aj (au h.1.1) (Z (X h.2 (e.1,()))) (Z (N (aG .i64 e.1 1,
 h.2))))) (Z (H 0 e))) n (0,(aev (az (aq c.1.1)) aU,()),(c.1.1,c.1.2,c.1.3,c.1.4,c.1.5,()),([],()),())) λe=>bK e
 (λ_ h=>aj (au (au J)) (Z (([],7,()),())) (ah (aQ (sO) (acJ) (sO) (λi=>aj (aE 0 (aq i.2.2.1.1)) (aO
 (aI (sj i) i.2.2.1.1) (aO (dV (az (sj i)) i.2.2.1.1) (aO (eK 0 (sj i) (aq i.2.2.1.1)) (aO (aI (ij i) i.1.1) (aO (dV (az
 (ij i)) i.1.1) (aO (aI (ij i) i.2.1.1) (ah (F235 n (nB i)) λj=>ah (JW n i j) λk=>aj (aa (jg i).1 11) (ah (ej n (a+8) (tY i k)) (oR n)) (aj (aa (jg i).1 12) (ah (ej n (a+8) (tY i k)) λl=>aj (au l.1.1) (DC n l) (ah (F149 n (nB
 i)) λm=>ah (ni n i m) λo=>aj (au o.1.1) (ah (ej n (a+8) (sQ i k l)) (oR n)) (DB n l))) (aj (aa (jg i).1 19)
 (ah (ej n (a+8) (Hx i)) λl=>aj (au l.1.1) (DC n l) (ah (F149 n (nB i)) λm=>ah (ni n i m) λo=>aj (au o.1.1)
 (ah (ej n (a+8) (sQ i k l)) (oR n)) (DB n l))) (aj (aa (jg i).1 6) (Zv n a c d h i k) (aj (aa (jg i).1 32) (Zv n
 a c d h i k) (aj (aa (jg i).1 31) (ah (F152 n (0,(bn i.1.1 (az (ij i)) aU).3,())) (Zw n a c d h i k)) (ah (F149 n (nB
 i)) λl=>ah (ni n i l) λm=>aj (au m.1.1) (ah (ej n (a+8) (aG .i64 (ij i) 1,k.1.1,Hv i)) (oR n)) (Hw n
 i)))))))))))))) (Z (H 0 i))) n (h.2.1,h.2.2.1,h.2.2.2.1,(W,()),())) (Zu n))) (λg h=>aj (au (au (br 0 h.1))) (Z
 (([],7,()),())) (ah (aQ (sO) (acJ) (sO) (λi=>aj (aE 0 (aq i.2.2.1.1)) (aO (aI (sj i) i.2.2.1.1) (aO (dV (az
 (sj i)) i.2.2.1.1) (aO (eK 0 (sj i) (aq i.2.2.1.1)) (aO (aI (ij i) i.1.1) (aO (dV (az (ij i)) i.1.1) (aO (aI (ij i)
 i.2.1.1) (ah (F235 n (nB i)) λj=>ah (JW n i j) λk=>aj (aa (jg i).1 11) (ah (ej n (a+8) (tY i k)) (oR n)) (aj (aa
 (jg i).1 12) (ah (ej n (a+8) (tY i k)) λl=>aj (au l.1.1) (DC n l) (ah (F149 n (nB i)) λm=>ah (ni n i m) λo=>
 aj (au o.1.1) (ah (ej n (a+8) (sQ i k l)) (oR n)) (DB n l))) (aj (aa (jg i).1 19) (ah (ej n (a+8) (Hx i)) λl=>aj
 (au l.1.1) (DC n l) (ah (F149 n (nB i)) λm=>ah (ni n i m) λo=>aj (au o.1.1) (ah (ej n (a+8) (sQ i k l)) (oR
 n)) (DB n l))) (aj (aa (jg i).1 6) (Zs n a c d g h i k) (aj (aa (jg i).1 32) (Zs n a c d g h i k) (aj (aa (jg i).1
 31) (ah (F152 n (0,(bn i.1.1 (az (ij i)) aU).3,())) (Zt n a c d g h i k)) (ah (F149 n (nB i)) λl=>ah (ni n i l) λ
 m=>aj (au m.1.1) (ah (ej n (a+8) (aG .i64 (ij i) 1,k.1.1,Hv i)) (oR n)) (Hw n i)))))))))))))) (Z (H 0 i))) n (g.1,
 g.2.1,g.2.2.1,(W,()),())) (Zu n))) λ_ _=>Y))
def F99(n:Nat):Fn P5 K18 J:=G99 n n
def k99(n:Nat):OC:=⟨99,⟨P5,K18,J,F99 n⟩,aa2 [aix n,aiw n,aiv n,aip n,aio n,ah8 n,ah7 n,ah6 n] (E99 n).sh (E99 n).cj n (n+10) 99⟩
def F45:Nat->L Int×U->O Y4:=
 λn b=>aj (br (aq b.1) 50) (ah (aQ (Int×U) (Int×U) (U) (λc=>aj (aE c.1 (aq b.1)) (aO (aI c.1 b.1) (aj
 (br (-1000000000) (bn b.1 (az c.1) 0)) (aj (au (br (bn b.1 (az c.1) 0) 1000000000)) (Z (X () c)) (Z (N (aG .i64
 c.1 1,())))) (Z (X () c)))) (Z (H 0 c))) n (0,())) λc=>bK c (λ_ _=>Z ((au J,()),())) (λ_ e=>Z
 ((au (br 0 e.1),()),())) λ_ _=>Y) (Z ((J,()),()))
def k45(n:Nat):OC:=⟨45,⟨P19,K4,J,F45 n⟩,cS [] [(237,0,⟨[(8,dy)],[],[],0⟩)] n 10 45⟩
def F46:akY:=
 λn _=>Z ((ax.mk 3 0,()),())
def k46(n:Nat):OC:=⟨46,⟨[],K20,J,F46 n⟩,cS [] [] n 10 46⟩
def F47:Nat->L Int×U->O Y78:=λn b=>Z (b,())
def C47(n:Nat):bC prog 47 (⟨P19,K21,J,F47 n⟩:lI sg):=Ut [] trivial (Wd []) J n 10 47 P19 K21 (by kernel_rfl) (Eq.trans (by kernel_rfl:_=λb:L Int×U=>IB (isE b.1) (Z (([],()),())) (Z (b,()))) (funext tW))
def k47(n:Nat):OC:=⟨47,⟨P19,K21,J,F47 n⟩,C47 n⟩
def F172:Nat->L bx×U->O ((L bx×U)×U):=λn b=>Z (b,())
def C172(n:Nat):bC prog 172 (⟨P22,K23,J,F172 n⟩:lI sg):=Ut [] trivial (Wd []) J n 10 172 P22 K23 (by kernel_rfl) (Eq.trans (by kernel_rfl:_=λb:L bx×U=>IB (isE b.1) (Z (([],()),())) (Z (b,()))) (funext tW))
def ait(n:Nat):OC:=⟨172,⟨P22,K23,J,F172 n⟩,C172 n⟩
def F121:Nat->Y7×L (Int×Bool)×Int×bx×U->O (U×Y7×L (Int×Bool)×U):=
 λn b=>ah (F172 n (b.1.1.1,())) λc=>aO (aI b.2.2.1 b.1.1.2.1) (aO (aI (bn b.1.1.2.1 (az b.2.2.1) 0) c.1.1) (aO (dV (az (bn
 b.1.1.2.1 (az b.2.2.1) 0)) c.1.1) (Z ((),((lE c.1.1 (az (bn b.1.1.2.1 (az b.2.2.1) 0)) b.2.2.2.1,b.1.1.2),()),b.2.1,()))))
def aiB(n:Nat):OC:=⟨121,⟨P24,[],J,F121 n⟩,cS [ait n] [] n 10 121⟩
def zP(b:aky):Int:=
 aq b.1.2.2.2.2.2.1
def F251:Nat->aky->O Y10:=
 λn b=>aO (nR (eK 0 (zP b) (zP b)) (gi (zP b) (zP b))) (aO (de (cG b.1.2.2.2.2.2.1 0 (zP b)) b.2.2.2.1) (Z ((),
 ((),b.1.2.1,b.1.2.2.1,b.1.2.2.2.1,b.1.2.2.2.2.1,cZ (cG b.1.2.2.2.2.2.1 0 (zP b)) b.2.2.2.1,b.1.2.2.2.2.2.2),b.2.1,b.2.2.1,())))
def uF(n:Nat):OC:=⟨251,⟨P25,[],J,F251 n⟩,cS [] [] n 10 251⟩
def F252:Y92:=
 λn b=>Z ((ax.mk 1 b.1,()),())
def abq(n:Nat):OC:=⟨252,⟨P26,K20,J,F252 n⟩,cS [] [] n 10 252⟩
def F253:Y66:=
 λn b=>aj b.1 (Z ((ax.mk 2 1,()),())) (Z ((ax.mk 2 0,()),()))
def abp(n:Nat):OC:=⟨253,⟨P27,K20,J,F253 n⟩,cS [] [] n 10 253⟩
def LF(n:Nat)(b:Y9):Y46->O Y10:=
 λc=>ah (F251 n (b.1,b.2.1,b.2.2.1,[c.1.1],())) λd=>Z d
def F173:Y73:=
 λn b=>aj (aa b.1.2.2.2.2.2.2.2.1 1) (ah (F252 n (b.1.2.2.2.2.2.2.2.2.1,())) (LF n b)) (aj (aa b.1.2.2.2.2.2.2.2.1 2) (ah (F253 n
 (aa b.1.2.2.2.2.2.2.2.2.1 1,())) (LF n b)) (aj (aa b.1.2.2.2.2.2.2.2.1 3) (ah (F46 n ()) (LF n b)) (ah (F251 n (b.1,b.2.1,b.2.2.1,
 [ax.mk 4 b.1.2.2.2.2.2.2.2.2.1],())) λc=>Z c)))
def aoD(n:Nat):OC:=⟨173,⟨yR,[],J,F173 n⟩,cS [k46 n,uF n,abq n,abp n] [] n 10 173⟩
def F174:Y73:=
 λn b=>aO (aI b.1.2.2.2.2.2.2.2.2.1 b.1.2.2.2.2.1) (ah (F251 n (b.1,b.2.1,b.2.2.1,[bn b.1.2.2.2.2.1 (az b.1.2.2.2.2.2.2.2.2.1) bq],
 ())) λc=>Z c)
def aoC(n:Nat):OC:=⟨174,⟨yR,[],J,F174 n⟩,cS [uF n] [] n 10 174⟩
def F259:Nat->Bool×Int×U->O Y64:=
 λn b=>aj (au b.1) (Z (M (Any.a0 (iH.mk J b.2.1),()))) (Z (G ((),())))
def BP(n:Nat):OC:=⟨259,⟨P29,[],W,F259 n⟩,cS [] [] n 10 259⟩
def F254:Nat->Y6×Y7×L (Int×Bool)×bx×U->O (Rx Y8 Y11):=
 λn b=>ah (F259 n (aE (aq b.2.1.1.1) 120,4,())) λc=>cz c (λ_=>aO (nR (eK 0 (aq b.2.1.1.1) (aq b.2.1.1.1)) (gi (aq
 b.2.1.1.1) (aq b.2.1.1.1))) (aO (de (cG b.2.1.1.1 0 (aq b.2.1.1.1)) [b.2.2.2.1]) (Z (G ((ax.mk 5 (bf .i64 (aq (cZ (cG
 b.2.1.1.1 0 (aq b.2.1.1.1)) [b.2.2.2.1])) 1),()),b.1,((cZ (cG b.2.1.1.1 0 (aq b.2.1.1.1)) [b.2.2.2.1],b.2.1.1.2),()),b.2.2.1,()))))) λ
 d=>Z (M (d.1,b.1,b.2.1,b.2.2.1,()))
def UI(n:Nat):OC:=⟨254,⟨P30,K20,W,F254 n⟩,cS [BP n] [] n 10 254⟩
def F175:IE:=
 λn b=>ah (F254 n (b.1,b.2.1,b.2.2.1,bx.mk 2 b.1.2.2.2.2.2.2.2.2.1 b.1.2.2.2.2.1 [],())) λc=>cz c (λd=>ah (F251 n (d.2.1,
 d.2.2.1,d.2.2.2.1,[d.1.1],())) λe=>Z (G e)) λd=>Z (M d)
def aoB(n:Nat):OC:=⟨175,⟨yR,[],W,F175 n⟩,cS [uF n,UI n] [] n 10 175⟩
def HB(b:Y9):Int:=
 bf .i64 (aq b.1.2.2.2.2.2.1) 1
def F260:Nat->Y9->O Y8:=
 λn b=>aO (aI (HB b) b.1.2.2.2.2.2.1) (aO (eK 0 (HB b) (aq b.1.2.2.2.2.2.1)) (Z ((bn b.1.2.2.2.2.2.1 (az (HB b))
 bq,()),((),b.1.2.1,b.1.2.2.1,b.1.2.2.2.1,b.1.2.2.2.2.1,cG b.1.2.2.2.2.2.1 0 (HB b),b.1.2.2.2.2.2.2),b.2)))
def FX(n:Nat):OC:=⟨260,⟨yR,K20,J,F260 n⟩,cS [] [] n 10 260⟩
def F255:Nat->Y9->O Y63:=
 λn b=>ah (F260 n b) λc=>ah (F260 n c.2) λd=>Z ((d.1.1,c.1),d.2)
def UH(n:Nat):OC:=⟨255,⟨yR,K31,J,F255 n⟩,cS [FX n] [] n 10 255⟩
def F300:Nat->alc->O (akI×Y6×Y7×L (Int×Bool)×U):=
 λn b=>aj (au (aa b.2.2.2.1.1 5)) (Z ((bL,J,()),b.1,b.2.1,b.2.2.1,())) (aO (aI b.2.2.2.1.2 b.2.1.1.1) (aj (au
 (aa (bn b.2.1.1.1 (az b.2.2.2.1.2) bL).1 b.2.2.2.2.1)) (Z ((bL,J,()),b.1,b.2.1,b.2.2.1,())) (aO (aI b.2.2.2.1.2
 b.2.1.1.1) (Z ((bn b.2.1.1.1 (az b.2.2.2.1.2) bL,W,()),b.1,b.2.1,b.2.2.1,())))))
def aeQ(n:Nat):OC:=⟨300,⟨P32,K33,J,F300 n⟩,cS [] [] n 10 300⟩
def F256:Nat->Y23->O (Y74×Y6×Y7×L (Int×Bool)×U):=
 λn b=>aj (aa b.2.2.2.1.1 4) (aO (aI b.2.2.2.1.2 b.2.1.1.2.2.2.2.2.2.2.1) (Z ((ai.mk (bn b.2.1.1.2.2.2.2.2.2.2.1 (az
 b.2.2.2.1.2) 0) [b.2.2.2.2.1] [] J,W,()),b.1,b.2.1,b.2.2.1,()))) (ah (F300 n (b.1,b.2.1,b.2.2.1,b.2.2.2.1,2,())) λc=>aj
 (au c.1.2.1) (Z ((bz,J,()),c.2)) (aO (nR (eK 0 (aq c.1.1.3) (aq c.1.1.3)) (gi (aq c.1.1.3) (aq c.1.1.3))) (aO (de
 (cG c.1.1.3 0 (aq c.1.1.3)) [b.2.2.2.2.1]) (Z ((ai.mk c.1.1.2 (cZ (cG c.1.1.3 0 (aq c.1.1.3)) [b.2.2.2.2.1]) [] J,W,()),
 c.2)))))
def aeV(n:Nat):OC:=⟨256,⟨P34,K35,J,F256 n⟩,cS [aeQ n] [] n 10 256⟩
def zO(b:Y94):Int:=
 bf .i64 (aq b.2.2.2.1) 1
def LC(b:Y94):L ai:=
 [ai.mk b.1.2.2.2.1 b.1.2.2.2.2.1 b.1.2.2.2.2.2.1 b.1.2.2.2.2.2.2.1]
def HC(b:Y94):ai:=
 bn b.2.2.2.1 (az (zO b)) bz
def F257:Nat->Y94->O (Rx Y10 Y11):=
 λn b=>ah (F259 n (br (aG .i64 (aG .i64 (aq b.1.2.2.1) 1) (aq b.2.2.2.1)) 40,4,())) λc=>cz c (λ_=>aO (eK 0 (zO
 b) (aq b.2.2.2.1)) (aO (nR (eK 0 (aq b.1.2.2.1) (aq b.1.2.2.1)) (gi (aq b.1.2.2.1) (aq b.1.2.2.1))) (aO (de (cG b.1.2.2.1 0 (aq
 b.1.2.2.1)) (LC b)) (aO (de (cZ (cG b.1.2.2.1 0 (aq b.1.2.2.1)) (LC b)) (cG b.2.2.2.1 0 (zO b))) (aO (aI (zO b)
 b.2.2.2.1) (Z (G ((),((),b.1.2.1,cZ (cZ (cG b.1.2.2.1 0 (aq b.1.2.2.1)) (LC b)) (cG b.2.2.2.1 0 (zO b)),(HC b).1,
 (HC b).2,(HC b).3,(HC b).4,b.1.2.2.2.2.2.2.2),b.2.1,b.2.2.1,())))))))) λd=>Z (M (d.1,b.1,b.2.1,b.2.2.1,()))
def aik(n:Nat):OC:=⟨257,⟨P36,[],W,F257 n⟩,cS [BP n] [] n 10 257⟩
def F238:Nat->VX->O (VX×U):=λn b=>Z (b,())
def C238(n:Nat):bC prog 238 (⟨P37,K38,J,F238 n⟩:lI sg):=Ut [] trivial (Wd []) J n 10 238 P37 K38 (by kernel_rfl) (Eq.trans (by kernel_rfl:_=λb:VX=>IB (isE b.1) (Z (([],()),())) (Z (b,()))) (funext tW))
def UJ(n:Nat):OC:=⟨238,⟨P37,K38,J,F238 n⟩,C238 n⟩
def F265:Nat->alc->O (Rx ((bx×U)×Y6×Y7×L (Int×Bool)×U) Y11):=
 λn b=>ah (F300 n b) λc=>ah (F259 n (c.1.2.1,2,())) λd=>cz d (λ_=>Z (G ((c.1.1,()),c.2))) λe=>Z (M
 (e.1,c.2))
def UG(n:Nat):OC:=⟨265,⟨P32,K39,W,F265 n⟩,cS [BP n,aeQ n] [] n 10 265⟩
def oS(e:VX×U):ai:=
 bn e.1.1 (az (bf .i64 (aq e.1.1) 1)) bz
def F258:Nat->Y23->O (Rx Y24 Y11):=
 λn b=>ah (F265 n (b.1,b.2.1,b.2.2.1,b.2.2.2.1,5,())) λc=>cz c (λd=>ah (F238 n (d.1.1.4,())) λe=>aO (aI (bf .i64
 (aq e.1.1) 1) e.1.1) (aO (dV (az (bf .i64 (aq e.1.1) 1)) e.1.1) (aO (nR (eK 0 (aq (oS e).3) (aq (oS e).3)) (gi (aq
 (oS e).3) (aq (oS e).3))) (aO (de (cG (oS e).3 0 (aq (oS e).3)) [b.2.2.2.2.1]) (aO (dV (az (bf .i64 (aq e.1.1) 1))
 e.1.1) (Z (G ((lE e.1.1 (az (bf .i64 (aq e.1.1) 1)) (ai.mk (oS e).1 (oS e).2 (cZ (cG (oS e).3 0 (aq (oS
 e).3)) [b.2.2.2.2.1]) (oS e).4),()),d.2)))))))) λd=>Z (M d)
def aeU(n:Nat):OC:=⟨258,⟨P34,K40,W,F258 n⟩,cS [UJ n,UG n] [] n 10 258⟩
def F176:IE:=
 λn b=>ah (F255 n b) λc=>ah (F256 n (c.2.1,c.2.2.1,c.2.2.2.1,c.1)) λd=>aj d.1.2.1 (ah (F257 n (d.2.1,d.2.2.1,d.2.2.2.1,[d.1.1],
 ())) λe=>cz e (λg=>Z (G g)) λg=>Z (M g)) (ah (F258 n (d.2.1,d.2.2.1,d.2.2.2.1,c.1)) λe=>cz e (λg=>ah
 (F257 n (g.2.1,g.2.2.1,g.2.2.2.1,g.1)) λh=>cz h (λi=>Z (G i)) λi=>Z (M i)) λg=>Z (M g))
def aoA(n:Nat):OC:=⟨176,⟨yR,[],W,F176 n⟩,cS [UH n,aeV n,aik n,aeU n] [] n 10 176⟩
def HH(g:Y24):ai:=
 bn g.1.1 (az (bf .i64 (aq g.1.1) 1)) bz
def F177:IE:=
 λn b=>ah (F255 n b) λc=>ah (F256 n (c.2.1,c.2.2.1,c.2.2.2.1,c.1)) λd=>aj d.1.2.1 (Z (G ((),((),d.2.1.2.1,d.2.1.2.2.1,
 d.1.1.1,d.1.1.2,d.1.1.3,d.2.1.2.2.2.2.2.2),d.2.2))) (ah (F258 n (d.2.1,d.2.2.1,d.2.2.2.1,c.1)) λe=>cz e (λg=>ah (F259 n (br
 (aG .i64 (aq g.2.1.2.2.1) (aq g.1.1)) 40,4,())) λh=>cz h (λ_=>aO (eK 0 (bf .i64 (aq g.1.1) 1) (aq g.1.1)) (aO (nR
 (eK 0 (aq g.2.1.2.2.1) (aq g.2.1.2.2.1)) (gi (aq g.2.1.2.2.1) (aq g.2.1.2.2.1))) (aO (de (cG g.2.1.2.2.1 0 (aq g.2.1.2.2.1)) (cG
 g.1.1 0 (bf .i64 (aq g.1.1) 1))) (aO (aI (bf .i64 (aq g.1.1) 1) g.1.1) (Z (G ((),((),g.2.1.2.1,cZ (cG g.2.1.2.2.1 0 (aq
 g.2.1.2.2.1)) (cG g.1.1 0 (bf .i64 (aq g.1.1) 1)),(HH g).1,(HH g).2,(HH g).3,(HH g).4,g.2.1.2.2.2.2.2.2.2),g.2.2)))))))
 λi=>Z (M (i.1,g.2))) λg=>Z (M g))
def aoz(n:Nat):OC:=⟨177,⟨yR,[],W,F177 n⟩,cS [UH n,aeV n,aeU n,BP n] [] n 10 177⟩
def zT(c:Y8):Int:=
 aq c.2.1.2.2.2.2.1
def F178:Y73:=
 λn b=>ah (F260 n b) λc=>aO (nR (eK 0 (zT c) (zT c)) (gi (zT c) (zT c))) (aO (de (cG c.2.1.2.2.2.2.1 0 (zT c))
 [c.1.1]) (Z ((),((),c.2.1.2.1,c.2.1.2.2.1,c.2.1.2.2.2.1,cZ (cG c.2.1.2.2.2.2.1 0 (zT c)) [c.1.1],c.2.1.2.2.2.2.2),c.2.2)))
def aoy(n:Nat):OC:=⟨178,⟨yR,[],J,F178 n⟩,cS [FX n] [] n 10 178⟩
def F179:Y73:=
 λn b=>aO (eK 0 (bf .i64 (aq b.1.2.2.2.2.1) b.1.2.2.2.2.2.2.2.2.1) (aq b.1.2.2.2.2.1)) (Z ((),((),b.1.2.1,b.1.2.2.1,b.1.2.2.2.1,
 cG b.1.2.2.2.2.1 0 (bf .i64 (aq b.1.2.2.2.2.1) b.1.2.2.2.2.2.2.2.2.1),b.1.2.2.2.2.2),b.2))
def aox(n:Nat):OC:=⟨179,⟨yR,[],J,F179 n⟩,cS [] [] n 10 179⟩
def F180:Y73:=
 λn b=>Z ((),((),b.1.2.1,b.1.2.2.1,b.1.2.2.2.2.2.2.2.2.1,b.1.2.2.2.2),b.2)
def aow(n:Nat):OC:=⟨180,⟨yR,[],J,F180 n⟩,cS [] [] n 10 180⟩
def F181:IE:=
 λn b=>ah (F260 n b) λc=>ah (F259 n (aa c.1.1.1 2,2,())) λd=>cz d (λ_=>aj (aa c.1.1.2 0) (Z (G ((),((),
 c.2.1.2.1,c.2.1.2.2.1,c.2.1.2.2.2.2.2.2.2.2.1,c.2.1.2.2.2.2),c.2.2))) (Z (G ((),c.2)))) λe=>Z (M (e.1,c.2))
def aov(n:Nat):OC:=⟨181,⟨yR,[],W,F181 n⟩,cS [BP n,FX n] [] n 10 181⟩
def Rn(n:Nat)(c:Y63):Y64->O (Rx Y65 Y11):=
 λd=>cz d (λ_=>Z (G ((c.1.1.2,c.1.2.1.2,()),c.2))) λe=>Z (M (e.1,c.2))
def F262:Nat->Y9->O (Rx Y65 Y11):=
 λn b=>ah (F255 n b) λc=>aj (aa c.1.1.1 1) (ah (F259 n (aa c.1.2.1.1 1,2,())) (Rn n c)) (ah (F259 n (J,2,())) (Rn n
 c))
def aij(n:Nat):OC:=⟨262,⟨yR,K16,W,F262 n⟩,cS [UH n,BP n] [] n 10 262⟩
def rG(n:Nat)(d:Y65)(g:Int×Bool×U):akV:=
 λh=>cz h (λ_=>ah (F252 n (g.1,())) λj=>ah (F251 n (d.2.1,d.2.2.1,d.2.2.2.1,[j.1.1],())) λk=>Z (G k)) λi=>Z
 (M (i.1,d.2))
def F182:IE:=
 λn b=>ah (F262 n b) λc=>cz c (λd=>ah (aj (aa d.2.1.2.2.2.2.2.2.2.1 13) (Z (N (aG .i64 d.1.1 d.1.2.1,W,())))
 (ah (aj (aa d.2.1.2.2.2.2.2.2.2.1 14) (Z (N (bf .i64 d.1.1 d.1.2.1,W,()))) (Z (N (HL .i64 d.1.1 d.1.2.1,J,
 ())))) λ(e:Y54)=>ck e (λg=>Z (N (g.1,J,()))) (λ_ _=>Y) (λ_ _=>Z (X () ())) λ_ h=>Z (LO.iJ
 () h))) λ(e:Y54)=>ck e (λg=>aj (br (-1000000000) g.1) (ah (F259 n (br g.1 1000000000,4,())) (rG n d g)) (ah (F259 n
 (J,4,())) (rG n d g))) (λ_ _=>Y) (λ_ _=>Z (G ((),d.2))) λ_ h=>Z (M (h,d.2))) λd=>Z (M d)
def aou(n:Nat):OC:=⟨182,⟨yR,[],W,F182 n⟩,cS [uF n,abq n,BP n,aij n] [(182,1000005,⟨[(4,dy),(18,dg)],[],[],0⟩),(182,1000007,⟨[(4,dy),(23,dg)],[],[],0⟩)] n 10 182⟩
def F183:IE:=
 λn b=>ah (F262 n b) λc=>cz c (λd=>ah (F253 n (aE d.1.1 d.1.2.1,())) λe=>ah (F251 n (d.2.1,d.2.2.1,d.2.2.2.1,[e.1.1],
 ())) λg=>Z (G g)) λd=>Z (M d)
def aot(n:Nat):OC:=⟨183,⟨yR,[],W,F183 n⟩,cS [uF n,abp n,aij n] [] n 10 183⟩
def HG(n:Nat)(c:Y63):akV:=
 λd=>cz d (λ_=>ah (F253 n (aa c.1.1.2 c.1.2.1.2,())) λg=>ah (F251 n (c.2.1,c.2.2.1,c.2.2.2.1,[g.1.1],())) λh=>Z
 (G h)) λe=>Z (M (e.1,c.2))
def F184:IE:=
 λn b=>ah (F255 n b) λc=>aj (aa c.1.1.1 c.1.2.1.1) (aj (aa c.1.1.1 1) (ah (F259 n (W,2,())) (HG n c)) (aj (aa c.1.1.1
 2) (ah (F259 n (W,2,())) (HG n c)) (ah (F259 n (aa c.1.1.1 3,2,())) (HG n c)))) (ah (F259 n (J,2,())) (HG n c))
def aos(n:Nat):OC:=⟨184,⟨yR,[],W,F184 n⟩,cS [uF n,abp n,UH n,BP n] [] n 10 184⟩
def F239:Nat->L ax×U->O Y57:=λn b=>Z (b,())
def C239(n:Nat):bC prog 239 (⟨P41,K42,J,F239 n⟩:lI sg):=Ut [] trivial (Wd []) J n 10 239 P41 K42 (by kernel_rfl) (Eq.trans (by kernel_rfl:_=λb:L ax×U=>IB (isE b.1) (Z (([],()),())) (Z (b,()))) (funext tW))
def XA(n:Nat):OC:=⟨239,⟨P41,K42,J,F239 n⟩,C239 n⟩
def Cy(b:Y9):Int:=
 aq b.1.2.2.2.2.2.1
def HF(b:Y9):Int:=
 bf .i64 (Cy b) (bn b.2.1.1.2.2.2.2.2.2.2.2.2.1 (az b.1.2.2.2.2.2.2.2.2.1) aY).2
def F185:IE:=
 λn b=>aO (aI b.1.2.2.2.2.2.2.2.2.1 b.2.1.1.2.2.2.2.2.2.2.2.2.1) (aO (eK (HF b) (Cy b) (Cy b)) (ah (F239 n (cG b.1.2.2.2.2.2.1
 (HF b) (Cy b),())) λc=>aO (eK 0 (HF b) (Cy b)) (ah (F254 n (((),b.1.2.1,b.1.2.2.1,b.1.2.2.2.1,b.1.2.2.2.2.1,cG
 b.1.2.2.2.2.2.1 0 (HF b),b.1.2.2.2.2.2.2),b.2.1,b.2.2.1,bx.mk 1 b.1.2.2.2.2.2.2.2.2.1 c.1.1 [],())) λd=>cz d (λe=>ah (F251 n
 (e.2.1,e.2.2.1,e.2.2.2.1,[e.1.1],())) λg=>Z (G g)) λe=>Z (M e))))
def aor(n:Nat):OC:=⟨185,⟨yR,[],W,F185 n⟩,cS [XA n,uF n,UI n] [] n 10 185⟩
abbrev WH(F:Fn P43 K44 J):lI sg:=⟨P43,K44,J,F⟩
def xu(c:Vw):Y9:=
 (c.1,c.2.1,c.2.2.1,())
def CG(n:Nat)(f263:Vw->acH)(c:Vw):Y46->acH:=
 λd=>Z (([],bZ (aa c.2.2.2.2.1.1 d.1.1.1) (bZ (aa c.2.2.2.2.1.2 d.1.1.2) W),()),xu c)
def HN(c:Vw)(e:akx):aB:=
 bn c.2.2.2.1.4 (az e.2.1) aK
def B263:Nat->(Vw->acH)->Vw->acH:=
 λn f263 c=>aj (aa c.2.2.2.1.1 1) (Z (([],W,()),xu c)) (aj (aa c.2.2.2.1.1 2) (Z (([c.2.2.2.2.1],W,()),xu c))
 (aj (aa c.2.2.2.1.1 3) (ah (F252 n (c.2.2.2.1.2,())) (CG n f263 c)) (aj (aa c.2.2.2.1.1 4) (ah (F253 n (aa c.2.2.2.1.2 1,()))
 (CG n f263 c)) (aj (aa c.2.2.2.1.1 5) (ah (F46 n ()) (CG n f263 c)) (ah (F300 n (c.1,c.2.1,c.2.2.1,c.2.2.2.2.1,1,())) λd=>aj
 (au d.1.2.1) (Z (([],J,()),d.2)) (aj (au (aa d.1.1.2 c.2.2.2.1.2)) (Z (([],J,()),d.2)) (ah (aQ (akx) (acM) (Y9) (λe=>aj (aE e.2.1 (aq c.2.2.2.1.4)) (aO (aI e.2.1 c.2.2.2.1.4) (aO (aI e.2.1 d.1.1.3) (ah (f263 (e.2.2.1,e.2.2.2.1,
 e.2.2.2.2.1,aB.mk (HN c e).1 (HN c e).2 (HN c e).3 (HN c e).4,bn d.1.1.3 (az e.2.1) bq,())) λg=>aj (au
 g.1.2.1) (Z (X g.2 ([],J,()))) (aO (de e.1 g.1.1) (Z (N (cZ e.1 g.1.1,aG .i64 e.2.1 1,g.2))))))) (Z (H 0 e)))
 n ([],0,d.2)) λe=>bK e (λ_ h=>Z ((h.1,W,()),h.2.2)) (λg h=>Z (h,g)) λ_ _=>Y)))))))
def D263(n:Nat)(f263:Fn P43 K44 J)(a:bC prog 263 (WH f263)):bC prog 263 (WH (B263 n f263)):=cS [k46 n,abq n,abp n,⟨263,WH f263,a⟩,aeQ n] [(263,1,⟨[(10,.one (.own (.st 4))),(61,dy),(0,b3z),(0,b1z),(0,wZ)],[.slot 0,.cell (.slot 0) 0,.cell (.cell (.slot 0) 0) 11],[],0⟩)] n 10 263
def R263(n k:Nat):(Fn P43 K44 J):=Nat.rec (motive:=λ_=>(Fn P43 K44 J)) (λ_=>Y) (λ_ r=>B263 n r) k
def F263(n:Nat):Fn P43 K44 J:=(R263 n n)
def ad4(n:Nat):∀k,bC prog 263 (WH (R263 n k))
 |0=>cm (enters 263 (by kernel_rfl))
 |k+1=>have a:=ad4 n k
  D263 n _ a
def anU(n:Nat):OC:=⟨263,WH (F263 n),(ad4 n n)⟩
def Cw(d:Y8):Int:=
 aq d.2.1.2.2.2.2.1
def F186:Y73:=
 λn b=>aO (aI (bf .i64 (aq b.1.2.2.2.2.2.1) 1) b.1.2.2.2.2.2.1) (aO (aI b.1.2.2.2.2.2.2.2.2.1 b.2.1.1.2.2.2.2.2.2.1) (ah (F263 n (b.1,
 b.2.1,b.2.2.1,bn b.2.1.1.2.2.2.2.2.2.1 (az b.1.2.2.2.2.2.2.2.2.1) aK,bn b.1.2.2.2.2.2.1 (az (bf .i64 (aq b.1.2.2.2.2.2.1) 1))
 bq,())) λc=>aj (au c.1.2.1) (Z ((),((),c.2.1.2.1,c.2.1.2.2.1,c.2.1.2.2.2.2.2.2.2.2.2.1,c.2.1.2.2.2.2),c.2.2)) (ah (F260 n
 c.2) λd=>aO (nR (eK 0 (Cw d) (Cw d)) (gi (Cw d) (Cw d))) (aO (de (cG d.2.1.2.2.2.2.1 0 (Cw d)) c.1.1) (Z ((),
 ((),d.2.1.2.1,d.2.1.2.2.1,d.2.1.2.2.2.1,cZ (cG d.2.1.2.2.2.2.1 0 (Cw d)) c.1.1,d.2.1.2.2.2.2.2),d.2.2))))))
def aoq(n:Nat):OC:=⟨186,⟨yR,[],J,F186 n⟩,cS [FX n,anU n] [] n 10 186⟩
def F187:IE:=
 λn b=>ah (F259 n (J,3,())) λc=>cz c (λ_=>Z (G ((),b))) λd=>Z (M (d.1,b))
def aop(n:Nat):OC:=⟨187,⟨yR,[],W,F187 n⟩,cS [BP n] [] n 10 187⟩
def F301:ak5:=
 λn b=>aj (aa b.1.1 4) (Z ((ax.mk 5 0,()),())) (aj (aa b.1.1 5) (Z ((ax.mk 5 0,()),())) (Z (b,())))
def DO(n:Nat):OC:=⟨301,⟨P45,K20,J,F301 n⟩,cS [] [] n 10 301⟩
def F188:IE:=
 λn b=>ah (F260 n b) λc=>ah (F254 n (c.2.1,c.2.2.1,c.2.2.2.1,bx.mk 3 0 [c.1.1] [],())) λd=>cz d (λe=>ah (F251 n
 (e.2.1,e.2.2.1,e.2.2.2.1,[e.1.1],())) λg=>ah (F301 n c.1) λh=>Z (G ((),((),g.2.1.2.1,g.2.1.2.2.1,g.2.1.2.2.2.1,
 g.2.1.2.2.2.2.1,g.2.1.2.2.2.2.2.1,g.2.1.2.2.2.2.2.2.1,g.2.1.2.2.2.2.2.2.2.1,g.2.1.2.2.2.2.2.2.2.2.1,g.2.1.2.2.2.2.2.2.2.2.2.1,Z (aP.mk
 g.2.1.2.1 16 0 h.1.1),()),g.2.2))) λe=>Z (M e)
def aoo(n:Nat):OC:=⟨188,⟨yR,[],W,F188 n⟩,cS [uF n,UI n,FX n,DO n] [] n 10 188⟩
def F189:IE:=
 λn b=>ah (F260 n b) λc=>ah (F265 n (c.2.1,c.2.2.1,c.2.2.2.1,c.1.1,3,())) λd=>cz d (λe=>aO (aI 0 e.1.1.3) (ah (F251 n
 (e.2.1,e.2.2.1,e.2.2.2.1,[bn e.1.1.3 (az 0) bq],())) λg=>ah (F301 n (bn e.1.1.3 (az 0) bq,())) λh=>Z (G ((),
 ((),g.2.1.2.1,g.2.1.2.2.1,g.2.1.2.2.2.1,g.2.1.2.2.2.2.1,g.2.1.2.2.2.2.2.1,g.2.1.2.2.2.2.2.2.1,g.2.1.2.2.2.2.2.2.2.1,g.2.1.2.2.2.2.2.2.2.2.1,
 g.2.1.2.2.2.2.2.2.2.2.2.1,Z (aP.mk g.2.1.2.1 17 0 h.1.1),()),g.2.2)))) λe=>Z (M e)
def aon(n:Nat):OC:=⟨189,⟨yR,[],W,F189 n⟩,cS [uF n,FX n,UG n,DO n] [] n 10 189⟩
def F266:Nat->Y6×Y7×L (Int×Bool)×Int×bx×U->O Y10:=
 λn b=>ah (F172 n (b.2.1.1.1,())) λc=>aO (aI b.2.2.2.1 c.1.1) (aO (dV (az b.2.2.2.1) c.1.1) (Z ((),b.1,((lE c.1.1 (az
 b.2.2.2.1) b.2.2.2.2.1,b.2.1.1.2),()),b.2.2.1,())))
def aeT(n:Nat):OC:=⟨266,⟨P46,[],J,F266 n⟩,cS [ait n] [] n 10 266⟩
def F190:IE:=
 λn b=>ah (F255 n b) λc=>ah (F265 n (c.2.1,c.2.2.1,c.2.2.2.1,c.1.1,3,())) λd=>cz d (λe=>ah (F266 n (e.2.1,e.2.2.1,
 e.2.2.2.1,c.1.1.2,bx.mk 3 0 [c.1.2.1] [],())) λg=>ah (F46 n ()) λh=>ah (F251 n (g.2.1,g.2.2.1,g.2.2.2.1,[h.1.1],())) λi=>
 ah (F301 n c.1.2) λj=>Z (G ((),((),i.2.1.2.1,i.2.1.2.2.1,i.2.1.2.2.2.1,i.2.1.2.2.2.2.1,i.2.1.2.2.2.2.2.1,i.2.1.2.2.2.2.2.2.1,
 i.2.1.2.2.2.2.2.2.2.1,i.2.1.2.2.2.2.2.2.2.2.1,i.2.1.2.2.2.2.2.2.2.2.2.1,Z (aP.mk i.2.1.2.1 18 0 j.1.1),()),i.2.2))) λe=>Z
 (M e)
def aom(n:Nat):OC:=⟨190,⟨yR,[],W,F190 n⟩,cS [k46 n,uF n,UH n,UG n,aeT n,DO n] [] n 10 190⟩
def zS(j:Y8):Int:=
 aq j.2.2.1.1.2.1
def F191:IE:=
 λn b=>ah (F260 n b) λc=>ah (F46 n ()) λd=>ah (F256 n (c.2.1,c.2.2.1,c.2.2.2.1,c.1.1,d.1)) λe=>ah (aj e.1.2.1 (Z
 (N (W,e.2.1,e.2.2.1,e.2.2.2.1,(6,0,[],[e.1.1],()),()))) (ah (F46 n ()) λg=>ah (F258 n (e.2.1,e.2.2.1,e.2.2.2.1,c.1.1,g.1))
 λh=>cz h (λi=>Z (N (J,i.2.1,i.2.2.1,i.2.2.2.1,(6,0,[],i.1),()))) λi=>Z (LO.iJ (i.2.1,i.2.2.1,i.2.2.2.1,
 (6,0,[],[],()),()) i.1))) λ(g:LO (Bool×Y6×Y7×L (Int×Bool)×JU×U) U (Y6×Y7×L (Int×Bool)×JU×U) Any)=>
 ck g (λh=>ah (F254 n (h.2.1,h.2.2.1,h.2.2.2.1,bx.mk h.2.2.2.2.1.1 h.2.2.2.2.1.2.1 [] h.2.2.2.2.1.2.2.2.1,())) λi=>cz i (λj
 =>aO (nR (eK 0 (zS j) (zS j)) (gi (zS j) (zS j))) (aO (de (cG j.2.2.1.1.2.1 0 (zS j)) [j.1.1.2]) (ah (F251 n (j.2.1,
 ((j.2.2.1.1.1,cZ (cG j.2.2.1.1.2.1 0 (zS j)) [j.1.1.2],j.2.2.1.1.2.2),()),j.2.2.2.1,[j.1.1],())) λk=>ah (F46 n ()) λl=>ah
 (F301 n l.1) λm=>Z (G ((),((),k.2.1.2.1,k.2.1.2.2.1,k.2.1.2.2.2.1,k.2.1.2.2.2.2.1,k.2.1.2.2.2.2.2.1,k.2.1.2.2.2.2.2.2.1,
 k.2.1.2.2.2.2.2.2.2.1,k.2.1.2.2.2.2.2.2.2.2.1,k.2.1.2.2.2.2.2.2.2.2.2.1,Z (aP.mk k.2.1.2.1 19 0 m.1.1),()),k.2.2))))) λj=>Z
 (M j)) (λ_ _=>Y) (λh _=>Z (G ((),h.1,h.2.1,h.2.2.1,()))) λh i=>Z (M (i,h.1,h.2.1,h.2.2.1,()))
def aol(n:Nat):OC:=⟨191,⟨yR,[],W,F191 n⟩,cS [k46 n,uF n,UI n,aeV n,aeU n,FX n,DO n] [(191,1000004,⟨[(17,dg),(0,b3z),(0,b1z),(0,wZ),(0,akr)],[.slot 0,.cell (.slot 0) 0,.cell (.cell (.slot 0) 0) 11,.slot 3],[],0⟩)] n 10 191⟩
def F268:Nat->Bool×U->O Y64:=
 λn b=>aj (au b.1) (Z (M (Any.a0 (iH.mk W 0),()))) (Z (G ((),())))
def abo(n:Nat):OC:=⟨268,⟨P27,[],W,F268 n⟩,cS [] [] n 10 268⟩
def F192:IE:=
 λn b=>ah (F260 n b) λc=>ah (F265 n (c.2.1,c.2.2.1,c.2.2.2.1,c.1.1,6,())) λd=>cz d (λe=>ah (F268 n (au (aa e.1.1.2
 0),())) λg=>cz g (λ_=>ah (F259 n (aa e.1.1.2 1,e.1.1.2,())) λi=>cz i (λ_=>aO (aI 0 e.1.1.3) (ah (F251 n (e.2.1,
 e.2.2.1,e.2.2.2.1,[bn e.1.1.3 (az 0) bq],())) λk=>aO (aI 0 e.1.1.3) (ah (F301 n (bn e.1.1.3 (az 0) bq,())) λl=>Z
 (G ((),((),k.2.1.2.1,k.2.1.2.2.1,k.2.1.2.2.2.1,k.2.1.2.2.2.2.1,k.2.1.2.2.2.2.2.1,k.2.1.2.2.2.2.2.2.1,k.2.1.2.2.2.2.2.2.2.1,
 k.2.1.2.2.2.2.2.2.2.2.1,k.2.1.2.2.2.2.2.2.2.2.2.1,Z (aP.mk k.2.1.2.1 20 0 l.1.1),()),k.2.2))))) λj=>Z (M (j.1,e.2))) λh
 =>Z (M (h.1,e.2))) λe=>Z (M e)
def aok(n:Nat):OC:=⟨192,⟨yR,[],W,F192 n⟩,cS [uF n,BP n,FX n,UG n,abo n,DO n] [] n 10 192⟩
def F193:IE:=
 λn b=>ah (F254 n (b.1,b.2.1,b.2.2.1,bx.mk 4 0 [] [],())) λc=>cz c (λd=>ah (F251 n (d.2.1,d.2.2.1,d.2.2.2.1,[d.1.1],()))
 λe=>ah (F46 n ()) λg=>ah (F301 n g.1) λh=>Z (G ((),((),e.2.1.2.1,e.2.1.2.2.1,e.2.1.2.2.2.1,e.2.1.2.2.2.2.1,
 e.2.1.2.2.2.2.2.1,e.2.1.2.2.2.2.2.2.1,e.2.1.2.2.2.2.2.2.2.1,e.2.1.2.2.2.2.2.2.2.2.1,e.2.1.2.2.2.2.2.2.2.2.2.1,Z (aP.mk e.2.1.2.1 21 0
 h.1.1),()),e.2.2))) λd=>Z (M d)
def aoj(n:Nat):OC:=⟨193,⟨yR,[],W,F193 n⟩,cS [k46 n,uF n,UI n,DO n] [] n 10 193⟩
def F194:IE:=
 λn b=>ah (F255 n b) λc=>ah (F265 n (c.2.1,c.2.2.1,c.2.2.2.1,c.1.1,4,())) λd=>cz d (λe=>ah (F268 n (aE (aq e.1.1.3)
 4,())) λg=>cz g (λ_=>aO (nR (eK 0 (aq e.1.1.3) (aq e.1.1.3)) (gi (aq e.1.1.3) (aq e.1.1.3))) (aO (de (cG e.1.1.3 0
 (aq e.1.1.3)) [c.1.2.1]) (ah (F266 n (e.2.1,e.2.2.1,e.2.2.2.1,c.1.1.2,bx.mk e.1.1.1 e.1.1.2 (cZ (cG e.1.1.3 0 (aq e.1.1.3)) [c.1.2.1])
 e.1.1.4,())) λi=>ah (F46 n ()) λj=>ah (F251 n (i.2.1,i.2.2.1,i.2.2.2.1,[j.1.1],())) λk=>ah (F301 n c.1.2) λl=>Z (G
 ((),((),k.2.1.2.1,k.2.1.2.2.1,k.2.1.2.2.2.1,k.2.1.2.2.2.2.1,k.2.1.2.2.2.2.2.1,k.2.1.2.2.2.2.2.2.1,k.2.1.2.2.2.2.2.2.2.1,
 k.2.1.2.2.2.2.2.2.2.2.1,k.2.1.2.2.2.2.2.2.2.2.2.1,Z (aP.mk k.2.1.2.1 22 0 l.1.1),()),k.2.2))))) λh=>Z (M (h.1,e.2))) λe
 =>Z (M e)
def aoi(n:Nat):OC:=⟨194,⟨yR,[],W,F194 n⟩,cS [k46 n,uF n,UH n,UG n,aeT n,abo n,DO n] [] n 10 194⟩
def F195:IE:=
 λn b=>ah (F260 n b) λc=>ah (F265 n (c.2.1,c.2.2.1,c.2.2.2.1,c.1.1,4,())) λd=>cz d (λe=>ah (F268 n (aE 0 (aq
 e.1.1.3),())) λg=>cz g (λ_=>aO (aI 0 e.1.1.3) (aO (eK 1 (aq e.1.1.3) (aq e.1.1.3)) (ah (F266 n (e.2.1,e.2.2.1,e.2.2.2.1,
 c.1.1.2,bx.mk e.1.1.1 e.1.1.2 (cG e.1.1.3 1 (aq e.1.1.3)) e.1.1.4,())) λi=>ah (F251 n (i.2.1,i.2.2.1,i.2.2.2.1,[bn e.1.1.3 (az 0)
 bq],())) λj=>ah (F301 n (bn e.1.1.3 (az 0) bq,())) λk=>Z (G ((),((),j.2.1.2.1,j.2.1.2.2.1,j.2.1.2.2.2.1,
 j.2.1.2.2.2.2.1,j.2.1.2.2.2.2.2.1,j.2.1.2.2.2.2.2.2.1,j.2.1.2.2.2.2.2.2.2.1,j.2.1.2.2.2.2.2.2.2.2.1,j.2.1.2.2.2.2.2.2.2.2.2.1,Z (aP.mk
 j.2.1.2.1 23 0 k.1.1),()),j.2.2))))) λh=>Z (M (h.1,e.2))) λe=>Z (M e)
def aoh(n:Nat):OC:=⟨195,⟨yR,[],W,F195 n⟩,cS [uF n,FX n,UG n,aeT n,abo n,DO n] [] n 10 195⟩
def xk(c:Y8):Int:=
 aq c.2.2.1.1.2.2.1
def F196:IE:=
 λn b=>ah (F260 n b) λc=>ah (F259 n (aa c.1.1.1 1,2,())) λd=>cz d (λ_=>ah (F259 n (aE (xk c) 100,4,())) λg=>
 cz g (λ_=>aO (nR (eK 0 (xk c) (xk c)) (gi (xk c) (xk c))) (aO (de (cG c.2.2.1.1.2.2.1 0 (xk c)) [ei.mk
 c.2.1.2.2.2.2.2.2.2.2.1 c.1.1.2]) (ah (F46 n ()) λi=>ah (F251 n (c.2.1,((c.2.2.1.1.1,c.2.2.1.1.2.1,cZ (cG c.2.2.1.1.2.2.1 0 (xk c))
 [ei.mk c.2.1.2.2.2.2.2.2.2.2.1 c.1.1.2],c.2.2.1.1.2.2.2),()),c.2.2.2.1,[i.1.1],())) λj=>ah (F301 n c.1) λk=>Z (G ((),((),
 j.2.1.2.1,j.2.1.2.2.1,j.2.1.2.2.2.1,j.2.1.2.2.2.2.1,j.2.1.2.2.2.2.2.1,j.2.1.2.2.2.2.2.2.1,j.2.1.2.2.2.2.2.2.2.1,j.2.1.2.2.2.2.2.2.2.2.1,
 j.2.1.2.2.2.2.2.2.2.2.2.1,Z (aP.mk j.2.1.2.1 24 j.2.1.2.2.2.2.2.2.2.2.1 k.1.1),()),j.2.2))))) λh=>Z (M (h.1,c.2))) λe=>
 Z (M (e.1,c.2))
def aog(n:Nat):OC:=⟨196,⟨yR,[],W,F196 n⟩,cS [k46 n,uF n,BP n,FX n,DO n] [] n 10 196⟩
def HE(b:Y9):Int:=
 aq b.2.1.1.2.2.2.1
def F197:IE:=
 λn b=>ah (F268 n (aE 0 (HE b),())) λc=>cz c (λ_=>ah (F259 n (aE b.2.1.1.2.2.2.2.1 1000000000,4,())) λe=>cz e
 (λ_=>aO (aI 0 b.2.1.1.2.2.2.1) (ah (F252 n (bn b.2.1.1.2.2.2.1 (az 0) 0,())) λh=>aO (eK 1 (HE b) (HE b)) (ah (F251 n
 (b.1,((b.2.1.1.1,b.2.1.1.2.1,b.2.1.1.2.2.1,cG b.2.1.1.2.2.2.1 1 (HE b),aG .i64 b.2.1.1.2.2.2.2.1 1,b.2.1.1.2.2.2.2.2),()),b.2.2.1,
 [h.1.1],())) λi=>ah (F301 n h.1) λj=>Z (G ((),((),i.2.1.2.1,i.2.1.2.2.1,i.2.1.2.2.2.1,i.2.1.2.2.2.2.1,i.2.1.2.2.2.2.2.1,
 i.2.1.2.2.2.2.2.2.1,i.2.1.2.2.2.2.2.2.2.1,i.2.1.2.2.2.2.2.2.2.2.1,i.2.1.2.2.2.2.2.2.2.2.2.1,Z (aP.mk i.2.1.2.1 25 0 j.1.1),()),
 i.2.2))))) λg=>Z (M (g.1,b))) λd=>Z (M (d.1,b))
def aof(n:Nat):OC:=⟨197,⟨yR,[],W,F197 n⟩,cS [uF n,abq n,BP n,abo n,DO n] [] n 10 197⟩
def F198:IE:=
 λn b=>ah (F257 n (b.1,b.2.1,b.2.2.1,[ai.mk b.1.2.2.2.2.2.2.2.2.1 b.1.2.2.2.2.1 [] W],())) λc=>cz c (λd=>Z (G d))
 λd=>Z (M d)
def aoe(n:Nat):OC:=⟨198,⟨yR,[],W,F198 n⟩,cS [aik n] [] n 10 198⟩
def Cv(b:Y9):L ai:=
 [ai.mk b.1.2.2.2.1 b.1.2.2.2.2.1 b.1.2.2.2.2.2.1 b.1.2.2.2.2.2.2.1]
def oU(b:Y9):L ai:=
 cZ (cG b.1.2.2.1 0 (aq b.1.2.2.1)) (Cv b)
def zR(k:Y8):Int:=
 aq k.2.1.2.2.2.2.1
def F199:IE:=
 λn b=>aO (nR (eK 0 (aq b.1.2.2.1) (aq b.1.2.2.1)) (gi (aq b.1.2.2.1) (aq b.1.2.2.1))) (aO (de (cG b.1.2.2.1 0 (aq b.1.2.2.1))
 (Cv b)) (ah (aQ (Int×Int×U) (U) (U) (λc=>aj (br 0 c.2.1) (aO (aI c.2.1 (oU b)) (aO (dV (az c.2.1)
 (oU b)) (aj (bn (oU b) (az c.2.1) bz).4 (Z (H 0 (c.2.1,c.2))) (Z (N (c.1,bf .i64 c.2.1 1,())))))) (Z
 (H 0 c))) n ((-1),bf .i64 (aq (oU b)) 1,())) λc=>bK c (λ_ e=>ah (F259 n (br 0 e.1,3,())) λg=>cz g (λ_=>
 aO (eK e.1 (aq (oU b)) (aq (oU b))) (ah (F238 n (cG (oU b) e.1 (aq (oU b)),())) λi=>ah (F254 n (b.1,b.2.1,b.2.2.1,
 bx.mk 5 0 [] i.1.1,())) λj=>cz j (λk=>aO (eK 0 e.1 (aq (oU b))) (aO (nR (eK 0 (zR k) (zR k)) (gi (zR k)
 (zR k))) (aO (de (cG k.2.1.2.2.2.2.1 0 (zR k)) [k.1.1]) (Z (G ((),((),k.2.1.2.1,cG (oU b) 0 e.1,k.2.1.2.2.2.2.2.2.2.2.1,
 cZ (cG k.2.1.2.2.2.2.1 0 (zR k)) [k.1.1],[],W,k.2.1.2.2.2.2.2.2.2),k.2.2)))))) λk=>Z (M k))) λh=>Z (M (h.1,
 b))) (λ_ _=>Z (G ((),b))) λ_ e=>Z (M (e,b))))
def aod(n:Nat):OC:=⟨199,⟨yR,[],W,F199 n⟩,cS [UJ n,UI n,BP n] [(199,0,⟨[(3,dy),(4,dy)],[],[],0⟩)] n 10 199⟩
def F200:Y73:=
 λn b=>ah (F46 n ()) λc=>ah (F251 n (b.1,b.2.1,b.2.2.1,[c.1.1],())) λd=>ah (F46 n ()) λe=>ah (F301 n e.1) λg=>Z ((),
 ((),d.2.1.2.1,d.2.1.2.2.1,d.2.1.2.2.2.1,d.2.1.2.2.2.2.1,d.2.1.2.2.2.2.2.1,d.2.1.2.2.2.2.2.2.1,d.2.1.2.2.2.2.2.2.2.1,d.2.1.2.2.2.2.2.2.2.2.1,
 d.2.1.2.2.2.2.2.2.2.2.2.1,Z (aP.mk d.2.1.2.1 28 0 g.1.1),()),d.2.2)
def aob(n:Nat):OC:=⟨200,⟨yR,[],J,F200 n⟩,cS [k46 n,uF n,DO n] [] n 10 200⟩
def zQ(c:Y8):Int:=
 bf .i64 (aq c.2.1.2.2.1) 1
def HD(c:Y8):ai:=
 bn c.2.1.2.2.1 (az (zQ c)) bz
def F201:Y73:=
 λn b=>ah (F260 n b) λc=>aj (aE (zQ c) 0) (ah (F301 n c.1) λd=>ah (F121 n (c.2.2.1,c.2.2.2.1,c.2.1.2.1,bx.mk 6 1
 [c.1.1] [],())) λe=>Z ((),((),c.2.1.2.1,c.2.1.2.2.1,c.2.1.2.2.2.1,c.2.1.2.2.2.2.1,c.2.1.2.2.2.2.2.1,c.2.1.2.2.2.2.2.2.1,
 c.2.1.2.2.2.2.2.2.2.1,c.2.1.2.2.2.2.2.2.2.2.1,c.2.1.2.2.2.2.2.2.2.2.2.1,Z (aP.mk c.2.1.2.1 0 1 d.1.1),()),e.2)) (aO (aI (zQ c)
 c.2.1.2.2.1) (aO (eK 0 (zQ c) (aq c.2.1.2.2.1)) (ah (F251 n (((),c.2.1.2.1,cG c.2.1.2.2.1 0 (zQ c),(HD c).1,(HD c).2,
 (HD c).3,(HD c).4,c.2.1.2.2.2.2.2.2.2),c.2.2.1,c.2.2.2.1,[c.1.1],())) λd=>Z d)))
def aoa(n:Nat):OC:=⟨201,⟨yR,[],J,F201 n⟩,cS [aiB n,uF n,FX n,DO n] [] n 10 201⟩
def OT(b:VU):Int:=
 bf .i64 (aq (bn b.1.1.1 (az (bn b.1.1.2.1 (az b.2.2.1) 0)) bL).4) 1
def DJ(b:VU):ai:=
 bn (bn b.1.1.1 (az (bn b.1.1.2.1 (az b.2.2.1) 0)) bL).4 (az (OT b)) bz
def fH(b:VU):bN:=
 bn b.1.1.2.2.2.2.2.1 (az (DJ b).1) bY
def gY(b:VU):Y9:=
 (((),b.2.2.1,cG (bn b.1.1.1 (az (bn b.1.1.2.1 (az b.2.2.1) 0)) bL).4 0 (OT b),aG .i64 (DJ b).1 1,(DJ b).2,(DJ b).3,
 (DJ b).4,(fH b).1,(fH b).2,(fH b).3,Y,()),b.1,b.2.1,())
def Zz(c:Y10):L ai:=
 [ai.mk c.2.1.2.2.2.1 c.2.1.2.2.2.2.1 c.2.1.2.2.2.2.2.1 c.2.1.2.2.2.2.2.2.1]
def gN(n:Nat)(b:VU):Y10->Y76:=
 λc=>aO (aI b.2.2.1 c.2.2.1.1.2.1) (aO (aI (bn c.2.2.1.1.2.1 (az b.2.2.1) 0) c.2.2.1.1.1) (ah (aj (aa (bn c.2.2.1.1.1 (az (bn
 c.2.2.1.1.2.1 (az b.2.2.1) 0)) bL).2 0) (aO (nR (eK 0 (aq c.2.1.2.2.1) (aq c.2.1.2.2.1)) (gi (aq c.2.1.2.2.1) (aq c.2.1.2.2.1)))
 (aO (de (cG c.2.1.2.2.1 0 (aq c.2.1.2.2.1)) (Zz c)) (ah (F121 n (c.2.2.1,c.2.2.2.1,b.2.2.1,bx.mk 6 0 [] (cZ (cG c.2.1.2.2.1 0
 (aq c.2.1.2.2.1)) (Zz c)),())) λd=>Z (N (W,d.2))))) (Z (N (J,c.2.2)))) λ(d:LO (Bool×Y7×L (Int×Bool)
 ×U) U Y77 Any)=>ck d (λe=>aj (Aa c.2.1.2.2.2.2.2.2.2.2.2.2.1) (aO (Aa c.2.1.2.2.2.2.2.2.2.2.2.2.1) (Z ((fS.a1
 (iI.mk (Gl cN c.2.1.2.2.2.2.2.2.2.2.2.2.1)),()),e.2))) (Z ((fS.a2 rD.mk,()),e.2))) (λ_ _=>Y) (λe _=>Z
 ((fS.none,()),e)) λ_ _=>Y))
def OS(n:Nat)(b:VU):Y76:=
 ah (F173 n (gY b)) (gN n b)
def adQ(b:VU)(d:Y11):Y7:=
 ((b.1.1.1,b.1.1.2.1,b.1.1.2.2.1,b.1.1.2.2.2.1,b.1.1.2.2.2.2.1,d.2.2.1.1.2.2.2.2.2),())
def j7(n:Nat)(b:VU):Y11->Y76:=
 λd=>aj (au (isNil [(199,Ty.st 27)] (jt 38 d.1))) (ah (aj (au (mG [(199,Ty.st 27)] 0 (jt 38 d.1))) Y (Z (N
 (J,())))) λ(e:YX)=>ck e (λ_=>aj (au (kF (Sg.zero sg) [(199,Ty.st 27)] 0 (jt 38 d.1)).1) (ah (F121 n (adQ b d,
 d.2.2.2.1,b.2.2.1,bx.mk 6 (kF (Sg.zero sg) [(199,Ty.st 27)] 0 (jt 38 d.1)).2 [] [],())) λh=>Z ((fS.a1 (iI.mk
 (aP.mk b.2.2.1 0 (kF (Sg.zero sg) [(199,Ty.st 27)] 0 (jt 38 d.1)).2 bq)),()),h.2)) (Z ((fS.a0 se.mk,()),adQ b d,
 d.2.2.2))) (λ_ _=>Y) (λ_ _=>Z ((fS.none,()),d.2.2)) λ_ _=>Y) (Z ((fS.none,()),d.2.2))
def Lw(n:Nat)(b:VU):Y76:=
 ah (F182 n (gY b)) λc=>cz c (gN n b) (j7 n b)
def F67:Nat->VU->Y76:=
 λn b=>aO (aI b.2.2.1 b.1.1.2.1) (aO (aI (bn b.1.1.2.1 (az b.2.2.1) 0) b.1.1.1) (aj (au (aa (bn b.1.1.1 (az (bn b.1.1.2.1
 (az b.2.2.1) 0)) bL).2 0)) (Z ((fS.a0 se.mk,()),b.1,b.2.1,())) (aO (eK 0 (OT b) (aq (bn b.1.1.1 (az (bn b.1.1.2.1
 (az b.2.2.1) 0)) bL).4)) (aO (aI (OT b) (bn b.1.1.1 (az (bn b.1.1.2.1 (az b.2.2.1) 0)) bL).4) (aO (aI (DJ b).1
 b.1.1.2.2.2.2.2.1) (aj (gi (fH b).1 0) Y (aj (gi (fH b).1 1) (OS n b) (aj (gi (fH b).1 2) (OS n b) (aj (gi (fH b).1 3)
 (OS n b) (aj (gi (fH b).1 4) (ah (F174 n (gY b)) (gN n b)) (aj (gi (fH b).1 5) (OS n b) (aj (gi (fH b).1 6) (ah (F175 n
 (gY b)) λc=>cz c (gN n b) (j7 n b)) (aj (gi (fH b).1 7) (ah (F176 n (gY b)) λc=>cz c (gN n b) (j7 n b)) (aj
 (gi (fH b).1 8) (ah (F177 n (gY b)) λc=>cz c (gN n b) (j7 n b)) (aj (gi (fH b).1 9) (ah (F178 n (gY b)) (gN n b))
 (aj (gi (fH b).1 10) (ah (F179 n (gY b)) (gN n b)) (aj (gi (fH b).1 11) (ah (F180 n (gY b)) (gN n b)) (aj (gi (fH b).1 12)
 (ah (F181 n (gY b)) λc=>cz c (gN n b) (j7 n b)) (aj (gi (fH b).1 13) (Lw n b) (aj (gi (fH b).1 14) (Lw n b) (aj
 (gi (fH b).1 15) (Lw n b) (aj (gi (fH b).1 16) (ah (F183 n (gY b)) λc=>cz c (gN n b) (j7 n b)) (aj (gi (fH b).1 17)
 (ah (F184 n (gY b)) λc=>cz c (gN n b) (j7 n b)) (aj (gi (fH b).1 18) (ah (F185 n (gY b)) λc=>cz c (gN n b) (j7
 n b)) (aj (gi (fH b).1 19) (ah (F186 n (gY b)) (gN n b)) (aj (gi (fH b).1 20) (ah (F187 n (gY b)) λc=>cz c (gN n b)
 (j7 n b)) (aj (gi (fH b).1 21) (ah (F188 n (gY b)) λc=>cz c (gN n b) (j7 n b)) (aj (gi (fH b).1 22) (ah (F189 n (gY
 b)) λc=>cz c (gN n b) (j7 n b)) (aj (gi (fH b).1 23) (ah (F190 n (gY b)) λc=>cz c (gN n b) (j7 n b)) (aj (gi
 (fH b).1 24) (ah (F191 n (gY b)) λc=>cz c (gN n b) (j7 n b)) (aj (gi (fH b).1 25) (ah (F192 n (gY b)) λc=>cz c
 (gN n b) (j7 n b)) (aj (gi (fH b).1 26) (ah (F193 n (gY b)) λc=>cz c (gN n b) (j7 n b)) (aj (gi (fH b).1 27) (ah
 (F194 n (gY b)) λc=>cz c (gN n b) (j7 n b)) (aj (gi (fH b).1 28) (ah (F195 n (gY b)) λc=>cz c (gN n b) (j7 n
 b)) (aj (gi (fH b).1 29) (ah (F196 n (gY b)) λc=>cz c (gN n b) (j7 n b)) (aj (gi (fH b).1 30) (ah (F197 n (gY b)) λc
 =>cz c (gN n b) (j7 n b)) (aj (gi (fH b).1 31) (ah (F198 n (gY b)) λc=>cz c (gN n b) (j7 n b)) (aj (gi (fH b).1
 32) (ah (F199 n (gY b)) λc=>cz c (gN n b) (j7 n b)) (aj (gi (fH b).1 33) (ah (F200 n (gY b)) (gN n b)) (aj (gi (fH
 b).1 34) (ah (F201 n (gY b)) (gN n b)) (aO J Y)))))))))))))))))))))))))))))))))))))))))
def k67(n:Nat):OC:=⟨67,⟨P47,K48,J,F67 n⟩,cS [aiB n,aoD n,aoC n,aoB n,aoA n,aoz n,aoy n,aox n,aow n,aov n,aou n,aot n,aos n,aor n,aoq n,aop n,aoo n,aon n,aom n,aol n,aok n,aoj n,aoi n,aoh n,aog n,aof n,aoe n,aod n,aob n,aoa n] [(67,1000012,⟨[(100,dg),(0,b0z),(0,wZ)],[.cell (.slot 2) 0,.cell (.cell (.slot 2) 0) 11],[],0⟩),(120,1000004,⟨[(16,dg)],[],[],0⟩)] n 10 67⟩
def F68:Nat->fS×U->Hq:=
 λn b=>aj (mG [(197,Ty.st 14),(203,Ty.st 15),(213,Ty.st 16)] 2 (jt 17 b.1)) (Z ((0,()),())) (aj (mG [(197,Ty.st 14),(203,
 Ty.st 15),(213,Ty.st 16)] 1 (jt 17 b.1)) (Z ((1,()),())) (Z ((2,()),())))
def k68(n:Nat):OC:=⟨68,⟨P49,K2,J,F68 n⟩,cS [] [] n 10 68⟩
def F48:Nat->VU->O agt:=
 λn b=>ah (aQ (Int×Int×Y7×L (Int×Bool)×U) (Int×Bool×U) (Y77) (λc=>aj (aE c.2.1 (aq c.2.2.1.1.2.1)) (ah
 (F67 n (c.2.2.1,c.2.2.2.1,c.2.1,())) λd=>ah (F68 n d.1) λe=>aj (au (aa e.1.1 0)) (Z (N (c.1,aG .i64 c.2.1 1,
 c.2.2.1,d.2.2))) (aj (aE 5000 (aG .i64 c.1 1)) (Z (X (c.2.2.1,d.2.2) (0,J,()))) (Z (N (aG .i64 c.1 1,c.2.1,
 d.2))))) (Z (H 0 c))) n (b.2.2.1,0,b.1,b.2.1,())) λc=>bK c (λ_ e=>Z ((e.1,W,()),e.2.2)) (λd e=>Z (e,d)) λ
 _ _=>Y
def k48(n:Nat):OC:=⟨48,⟨P47,K50,J,F48 n⟩,cS [k67 n,k68 n] [(48,0,⟨[(1,dy),(6,dy),(0,b0z),(0,wZ)],[.slot 0,.cell (.slot 0) 11],[],0⟩)] n 10 48⟩
def F156:Nat->L ei×U->O ((L ei×U)×U):=λn b=>Z (b,())
def C156(n:Nat):bC prog 156 (⟨P51,K52,J,F156 n⟩:lI sg):=Ut [] trivial (Wd []) J n 10 156 P51 K52 (by kernel_rfl) (Eq.trans (by kernel_rfl:_=λb:L ei×U=>IB (isE b.1) (Z (([],()),())) (Z (b,()))) (funext tW))
def abv(n:Nat):OC:=⟨156,⟨P51,K52,J,F156 n⟩,C156 n⟩
def F103:ak0:=
 λn b=>Z (b,())
def aiE(n:Nat):OC:=⟨103,⟨P26,K2,J,F103 n⟩,cS [] [] n 10 103⟩
abbrev E49(n:Nat):eO sg:=⟨DS,EV [k47 n,aiE n,abv n,UJ n,XA n],Wd [(49,0,⟨[(3,.one (.own (.int .i64))),(11,dy)],[],[],0⟩),(102,0,⟨[(32,dy),(0,b6z)],[.slot 7],[],0⟩),(102,2,⟨[(58,dy),(0,b6z)],[.slot 7],[],0⟩),(157,2,⟨[(6,.one (.own (.st 4))),(21,dy)],[],[(19,6)],0⟩)],J,cjL [(169,0,⟨[(0,Ix)],[.cell (.slot 1) 0],[.slot 1,.slot 0,.LS (.slot 0) 3],[]⟩),(170,0,⟨[(0,dy),(0,Ix)],[.cell (.slot 1) 0],[.slot 1,.slot 2,.slot 3,.cell (.slot 2) 0,.LS (.cell (.slot 2) 0) 3],[.dat .bool]⟩)]⟩
def EJ:Nat->Nat->JU×U->O (U×JU×U):=λn a x=>Pp (wS (E49 n) n a) 169 [(0,Ix)] [] [8] [12,14,9] (Qx ([8]++[12,14,9]) [(0,Ix)] (SU [.rJ 14,.ptr 12 0])) (stJ [8] [12,14,9] ⟨trL [(14,lpR 157 42 [14] (rgN (TZ (Tc 157)) 0) [(3,.ptr 9 0)]),(12,.box [.ptr 8 0]),(9,.box [.fn (.func 103) [] []])],0,0,0,[],[]⟩) x
def Bh:Nat->Nat->Int×JU×U->O ((Bool×U)×JU×U):=λn a x=>Pp (wS (E49 n) n a) 170 [(0,dy),(0,Ix)] [.dat .bool] [8] [12,16,17,14,9] (Qx ([8]++[12,16,17,14,9]) [(0,dy),(0,Ix)] (SU [.emp,.ptr 12 0,.ptr 16 0,.ptr 17 0])) (stJ [8] [12,16,17,14,9] ⟨trL [(14,lpR 157 42 [14] (rgN (TZ (Tc 157)) 0) [(3,.ptr 9 0)]),(12,.box [.ptr 8 0]),(9,.box [.fn (.func 103) [] []]),(16,.box [.rJ 14]),(17,.box [.fn (.func 170) [] [.ptr 12 0,.ptr 16 0,.ptr 17 0]])],0,0,0,[],[]⟩) x
def Tx:Nat->Nat->JU×U->O (U×JU×U):=
 λn a c=>ah (F239 n (c.1.2.2.1,())) λd=>ah (aQ (Y58) (U) (U) (λe=>aj (aE e.2.1 (aq d.1.1)) (aO (aI e.2.1 e.1)
 (aO (dV (az e.2.1) e.1) (aj (aa (bn e.1 (az e.2.1) bq).1 5) (ah (F103 n ((bn e.1 (az e.2.1) bq).2,())) λg=>aO (aI
 e.2.1 e.1) (aO (dV (az e.2.1) e.1) (Z (N (lE e.1 (az e.2.1) (ax.mk (bn e.1 (az e.2.1) bq).1 g.1.1),aG .i64 e.2.1 1,
 ()))))) (Z (N (e.1,aG .i64 e.2.1 1,())))))) (Z (H 0 e))) n (d.1.1,0,())) λe=>bK e (λ_ h=>ah (Bh n
 (a+3) (0,(c.1.1,c.1.2.1,h.1,c.1.2.2.2),())) λi=>Z ((),i.2)) (λ_ _=>Y) λ_ _=>Y
def Rg(n a:Nat):EJ n (a+4)=Tx n a:=by kernel_rfl
def tZ(c:Int×JU×U):ai:=
 bn c.2.1.2.2.2.1 (az c.1) bz
def mN(n:Nat)(d:Y57):arv:=
 aQ (Y58) (U) (U) (λe=>aj (aE e.2.1 (aq d.1.1)) (aO (aI e.2.1 e.1) (aO (dV (az e.2.1) e.1) (aj (aa (bn e.1 (az
 e.2.1) bq).1 5) (ah (F103 n ((bn e.1 (az e.2.1) bq).2,())) λg=>aO (aI e.2.1 e.1) (aO (dV (az e.2.1) e.1) (Z (N
 (lE e.1 (az e.2.1) (ax.mk (bn e.1 (az e.2.1) bq).1 g.1.1),aG .i64 e.2.1 1,()))))) (Z (N (e.1,aG .i64 e.2.1 1,
 ())))))) (Z (H 0 e))) n (d.1.1,0,())
def qq(c:Int×JU×U)(h:Y58):L ai:=
 lE c.2.1.2.2.2.1 (az c.1) (ai.mk (tZ c).1 h.1 (tZ c).3 (tZ c).4)
def qo(c:Int×JU×U)(h:Y58):ai:=
 bn (qq c h) (az c.1) bz
def LQ:Nat->Nat->Int×JU×U->O ((Bool×U)×JU×U):=
 λn a c=>aj (aa c.1 (aq c.2.1.2.2.2.1)) (Z ((W,()),c.2)) (aO (aI c.1 c.2.1.2.2.2.1) (aO (dV (az c.1) c.2.1.2.2.2.1) (ah
 (F239 n ((tZ c).2,())) λd=>ah (mN n d) λe=>bK e (λ_ h=>aO (dV (az c.1) c.2.1.2.2.2.1) (aO (aI c.1 (qq c h))
 (aO (dV (az c.1) (qq c h)) (ah (F239 n ((qo c h).3,())) λi=>ah (mN n i) λj=>bK j (λ_ l=>aO (dV (az c.1)
 (qq c h)) (ah (Bh n (a+3) (aG .i64 c.1 1,(c.2.1.1,c.2.1.2.1,c.2.1.2.2.1,lE (qq c h) (az c.1) (ai.mk (qo c
 h).1 (qo c h).2 l.1 (qo c h).4),()),())) λm=>Z m)) (λ_ _=>Y) λ_ _=>Y)))) (λ_ _=>Y) λ_ _=>Y)))
def Hu(n a:Nat):Bh n (a+4)=LQ n a:=by kernel_rfl
def yS(c:Y77)(g:Y91)(j:Int×Hp×U):bx:=
 bn c.1.1.1 (az (bn g.1 (az j.1) 0)) bL
def G49:akQ:=
 λn a c=>ah (aQ (Y91) (U) (U) (λd=>aj (aE d.2.1 (aq c.1.1.1)) (aO (de d.1 [d.2.1]) (Z (N (cZ d.1 [d.2.1],
 aG .i64 d.2.1 1,())))) (Z (H 0 d))) n ([],0,())) λd=>bK d (λ_ g=>ah (F156 n (c.1.1.2.2.1,())) λh=>ah (F47 n
 (c.1.1.2.2.2.1,())) λi=>ah (aQ (Int×Hp×U) (U) (Hp×U) (λj=>aj (aE j.1 (aq g.1)) (aO (aI j.1 g.1) (aO
 (dV (az j.1) g.1) (aO (aI (bn g.1 (az j.1) 0) c.1.1.1) (ah (F238 n ((yS c g j).4,())) λk=>ah (EJ n (a+8) (((yS c g
 j).1,(yS c g j).2,(yS c g j).3,k.1),())) λl=>aO (de j.2.1.1 [bx.mk l.2.1.1 l.2.1.2.1 l.2.1.2.2.1 l.2.1.2.2.2.1]) (Z (N
 (aG .i64 j.1 1,(cZ j.2.1.1 [bx.mk l.2.1.1 l.2.1.2.1 l.2.1.2.2.1 l.2.1.2.2.2.1],j.2.1.2),()))))))) (Z (H 0 j))) n (0,([],[],
 h.1.1,i.1.1,c.1.1.2.2.2.2.1,()),())) λj=>bK j (λ_ l=>ah (aQ (Int×Hp×U) (U) (Hp×U) (λm=>aj (aE m.1
 (aq c.1.1.2.1)) (aO (aI m.1 c.1.1.2.1) (ah (F103 n (bn c.1.1.2.1 (az m.1) 0,())) λo=>aO (de m.2.1.2.1 [o.1.1]) (Z (N (aG .i64
 m.1 1,(m.2.1.1,cZ m.2.1.2.1 [o.1.1],m.2.1.2.2),()))))) (Z (H 0 m))) n (0,l.2)) λm=>bK m (λ_ p=>Z ((ak.mk p.2.1.1
 p.2.1.2.1 p.2.1.2.2.1 p.2.1.2.2.2.1 p.2.1.2.2.2.2.1,()),c)) (λ_ _=>Z ((cY,()),c)) λ_ _=>Y) (λ_ _=>Z ((cY,
 ()),c)) λ_ _=>Y) (λ_ _=>Z ((cY,()),c)) λ_ _=>Y
def F49(n:Nat):Fn P53 K54 J:=G49 n n
def k49(n:Nat):OC:=⟨49,⟨P53,K54,J,F49 n⟩,aa2 [k47 n,aiE n,abv n,UJ n,XA n] (E49 n).sh (E49 n).cj n (n+10) 49⟩
def Tu(n:Nat):O Y50:=
 Z ((cY,2,()),())
def F13:Nat->akE->O Y50:=
 λn b=>ah (F99 n (b.1,())) λc=>aj (au (aa c.1.2.1 0)) (Tu n) (ah (aQ (Y51) (Bool×U) (Y52) (λd=>aj (aE d.1
 (aq b.1.1)) (aO (aI d.1 c.1.1) (aj (bn c.1.1 (az d.1) aU).1 (aO (aI d.1 b.1.1) (aj (aa (bn b.1.1 (az d.1) bY).1 6)
 (aO (aI d.1 b.1.1) (Z (N (aG .i64 d.1 1,jL (A:=sg.A) (Ty.int .i64) (bn b.1.1 (az d.1) bY).2 W d.2.1,())))) (Z
 (N (aG .i64 d.1 1,d.2))))) (Z (N (aG .i64 d.1 1,d.2))))) (Z (H 0 d))) n (0,[],())) λd=>bK d (λ_ g=>ah
 (F45 n b.2) λh=>aj (au h.1.1) (Tu n) (aO (aI b.1.4 b.1.3) (ah (F46 n ()) λi=>ah (F47 n b.2) λj=>ah (F48 n ((([bx.mk 6
 0 [] [ai.mk (bn b.1.3 (az b.1.4) 0) [i.1.1] [] J]],[0],[],j.1.1,0,b.1.1,b.1.2,b.1.3,b.1.4,b.1.5,c.1.1,()),()),g.2.1,0,()))
 λk=>aj (au k.1.2.1) (Z ((cY,8,()),())) (ah (F49 n k.2) λl=>Z ((l.1.1,0,()),()))))) (λ_ g=>aj (au g.1)
 (Tu n) (ah (F45 n b.2) λh=>aj (au h.1.1) (Tu n) (aO (aI b.1.4 b.1.3) (ah (F46 n ()) λ_=>ah (F47 n b.2) λ_=>Y)))) λ
 _ _=>Y)
def k13(n:Nat):OC:=⟨13,⟨P55,K56,J,F13 n⟩,cS [k45 n,k46 n,k47 n,k48 n,k49 n,k99 n] [(44,0,⟨[(23,dy),(0,Vn)],[.cell (.slot 19) 11],[],0⟩)] n 10 13⟩
def F164:Nat->ei×U->O Y4:=
 λn b=>aj (br 0 b.1.1) (aj (aE b.1.1 4) (aj (br (-1000000000) b.1.2) (Z ((br b.1.2 1000000000,()),())) (Z ((J,()),
 ()))) (Z ((J,()),()))) (Z ((J,()),()))
def aoG(n:Nat):OC:=⟨164,⟨P57,K4,J,F164 n⟩,cS [] [] n 10 164⟩
def F245:Nat->cW×ax×U->O Y4:=
 λn b=>aj (aa b.2.1.1 1) (aj (br (-1000000000) b.2.1.2) (Z ((br b.2.1.2 1000000000,()),())) (Z ((J,()),()))) (aj (aa
 b.2.1.1 2) (aj (aa b.2.1.2 0) (Z ((W,()),())) (Z ((aa b.2.1.2 1,()),()))) (aj (aa b.2.1.1 3) (Z ((aa b.2.1.2 0,()),()))
 (aj (aa b.2.1.1 4) (aj (br 0 b.2.1.2) (Z ((aE b.2.1.2 (aq b.1.2.3),()),())) (Z ((J,()),()))) (aj (aa b.2.1.1 5) (aj
 (br 0 b.2.1.2) (Z ((aE b.2.1.2 (aq b.1.1.1),()),())) (Z ((J,()),()))) (Z ((J,()),()))))))
def aim(n:Nat):OC:=⟨245,⟨P58,K4,J,F245 n⟩,cS [] [] n 10 245⟩
def zN(n:Nat):O Y4:=
 Z ((J,()),())
def ZJ(n:Nat)(c:Int×U):Y4->Y85:=
 λd=>aj (au d.1.1) (Z (X () c)) (Z (N (aG .i64 c.1 1,())))
def ZI(n:Nat)(b:Y86):O Y4:=
 ah (aQ (Int×U) (Int×U) (U) (λg=>aj (aE g.1 (aq b.2.1.3)) (aO (aI g.1 b.2.1.3) (ah (F245 n (b.1,bn b.2.1.3 (az
 g.1) bq,())) (ZJ n g))) (Z (H 0 g))) n (0,())) λg=>bK g (λ_ _=>Z ((au J,()),())) (λ_ i=>Z
 ((au (br 0 i.1),()),())) λ_ _=>Y
def F296:Nat->Y86->O Y4:=
 λn b=>aj (aE b.2.1.1 0) (zN n) (aj (br (aq b.1.3) b.2.1.1) (zN n) (aO (aI b.2.1.1 b.1.3) (aj (au (bn b.1.3 (az
 b.2.1.1) aU).1) (zN n) (aO (aI b.2.1.1 b.1.3) (aj (aa (aq b.2.1.2) (bn b.1.3 (az b.2.1.1) aU).3) (aj (aa (aq
 b.2.1.3) (bf .i64 (bn b.1.3 (az b.2.1.1) aU).2 b.2.2.1)) (ah (aQ (Int×U) (Int×U) (U) (λc=>aj (aE c.1
 (aq b.2.1.2)) (aO (aI c.1 b.2.1.2) (ah (F245 n (b.1,bn b.2.1.2 (az c.1) bq,())) (ZJ n c))) (Z (H 0 c))) n (0,())) λc
 =>bK c (λ_ _=>aj (au J) (ZI n b) (zN n)) (λ_ e=>aj (au (br 0 e.1)) (ZI n b) (zN n)) λ_ _=>Y)
 (zN n)) (zN n))))))
def aid(n:Nat):OC:=⟨296,⟨P59,K4,J,F296 n⟩,cS [aim n] [(315,0,⟨[(8,dy)],[],[],0⟩)] n 10 296⟩
def F247:Y84:=
 λn b=>ah (F296 n (b.1,b.2.1,1,())) λc=>Z c
def ail(n:Nat):OC:=⟨247,⟨P60,K4,J,F247 n⟩,cS [aid n] [] n 10 247⟩
def F297:Y84:=
 λn b=>ah (F296 n (b.1,b.2.1,0,())) λc=>Z c
def anL(n:Nat):OC:=⟨297,⟨P60,K4,J,F297 n⟩,cS [aid n] [] n 10 297⟩
def Cu(b:Zj):Int:=
 bf .i64 (aq b.2.1.4) 1
def ZL(n:Nat)(b:Zj):O Y4:=
 aO (aI (Cu b) b.2.1.4) (ah (F297 n (b.1,bn b.2.1.4 (az (Cu b)) bz,())) λg=>Z g)
def xj(n:Nat):O Y4:=
 Z ((J,()),())
def F248:ak7:=
 λn b=>aj (aa b.2.1.2 0) (aj (aa (aq b.2.1.3) 0) (aj (br 1 (aq b.2.1.4)) (aj (br (aq b.2.1.4) 40) (aO (eK 0 (Cu b)
 (aq b.2.1.4)) (ah (aQ (Int×U) (Int×U) (U) (λc=>aj (aE c.1 (aq (cG b.2.1.4 0 (Cu b)))) (aO (aI c.1 (cG
 b.2.1.4 0 (Cu b))) (ah (F247 n (b.1,bn (cG b.2.1.4 0 (Cu b)) (az c.1) bz,())) λd=>aj (au d.1.1) (Z (X () c))
 (Z (N (aG .i64 c.1 1,()))))) (Z (H 0 c))) n (0,())) λc=>bK c (λ_ _=>aj (au J) (ZL n b) (xj n)) (λ
 _ e=>aj (au (br 0 e.1)) (ZL n b) (xj n)) λ_ _=>Y)) (xj n)) (xj n)) (xj n)) (aj (aa b.2.1.2 1) (aj (aa
 (aq b.2.1.3) 1) (Z ((aa (aq b.2.1.4) 0,()),())) (xj n)) (ah (aj (aa b.2.1.2 2) (Z (N (W,()))) (ah (aj (aa
 b.2.1.2 3) (Z (N (W,()))) (Z (N (aa b.2.1.2 4,())))) λ(c:nT)=>ck c (λd=>Z (N d)) (λ_ _=>Y)
 (λ_ e=>Z (X () e)) λ_ _=>Y)) λ(c:nT)=>ck c (λd=>aj d.1 (aj (aa (aq b.2.1.3) 0) (Z ((aa (aq
 b.2.1.4) 0,()),())) (xj n)) (xj n)) (λ_ _=>Y) (λ_ e=>Z (e,())) λ_ _=>Y))
def anV(n:Nat):OC:=⟨248,⟨P61,K4,J,F248 n⟩,cS [ail n,anL n] [(248,1000008,⟨[(55,dg)],[],[],0⟩),(248,1000009,⟨[(55,dg)],[],[],0⟩),(316,0,⟨[(8,dy)],[],[],0⟩)] n 10 248⟩
def jW(n:Nat):O Y4:=
 Z ((J,()),())
def ZN(n:Nat)(b:Zj):O Y4:=
 aO (aI 0 b.2.1.4) (Z (((bn b.2.1.4 (az 0) bz).4,()),()))
def ZM(n:Nat)(b:Zj):O Y4:=
 aj (aa b.2.1.1 1) (aj (aa (aq b.2.1.4) 0) (aj (br 0 b.2.1.2) (aj (aE b.2.1.2 (aq b.1.2.5)) (aO (aI b.2.1.2 b.1.2.5) (Z
 ((aa (aq b.2.1.3) (bn b.1.2.5 (az b.2.1.2) aY).2,()),()))) (jW n)) (jW n)) (jW n)) (aj (aa b.2.1.1 2) (aj (aa (aq
 b.2.1.4) 0) (aj (HV (A:=sg.A) (Ty.int .i64) J b.2.1.2 b.1.4) (aO (aI b.2.1.2 b.1.3) (Z ((aa (aq b.2.1.3) (bf .i64 (bn b.1.3
 (az b.2.1.2) aU).3 1),()),()))) (jW n)) (jW n)) (aj (aa b.2.1.1 3) (aj (aa (aq b.2.1.4) 0) (aj (aa b.2.1.2 0) (Z
 ((aa (aq b.2.1.3) 1,()),())) (jW n)) (jW n)) (aj (aa b.2.1.1 4) (aj (aa (aq b.2.1.4) 0) (aj (aa b.2.1.2 0) (Z ((br
 (aq b.2.1.3) 4,()),())) (jW n)) (jW n)) (aj (aa b.2.1.1 5) (aj (br 1 (aq b.2.1.4)) (aj (br (aq b.2.1.4) 40) (aj (aa
 b.2.1.2 0) (aj (aa (aq b.2.1.3) 0) (ah (aQ (Int×U) (Int×U) (U) (λg=>aj (aE g.1 (aq b.2.1.4)) (aO (aI g.1
 b.2.1.4) (ah (F247 n (b.1,bn b.2.1.4 (az g.1) bz,())) λh=>aj (au h.1.1) (Z (X () g)) (Z (N (aG .i64 g.1 1,
 ()))))) (Z (H 0 g))) n (0,())) λg=>bK g (λ_ _=>aj (au J) (ZN n b) (jW n)) (λ_ i=>aj (au (br 0 i.1))
 (ZN n b) (jW n)) λ_ _=>Y) (jW n)) (jW n)) (jW n)) (jW n)) (aj (aa b.2.1.1 6) (ah (F248 n b) λg=>Z g)
 (jW n))))))
def F166:ak7:=
 λn b=>ah (aQ (Int×U) (Int×U) (U) (λc=>aj (aE c.1 (aq b.2.1.3)) (aO (aI c.1 b.2.1.3) (ah (F245 n (b.1,bn
 b.2.1.3 (az c.1) bq,())) λd=>aj (au d.1.1) (Z (X () c)) (Z (N (aG .i64 c.1 1,()))))) (Z (H 0 c))) n (0,
 ())) λc=>bK c (λ_ _=>aj (au (au J)) (jW n) (ZM n b)) (λ_ e=>aj (au (au (br 0 e.1))) (jW n)
 (ZM n b)) λ_ _=>Y
def aoF(n:Nat):OC:=⟨166,⟨P61,K4,J,F166 n⟩,cS [aim n,ail n,anV n] [(315,0,⟨[(8,dy)],[],[],0⟩),(316,0,⟨[(8,dy)],[],[],0⟩)] n 10 166⟩
def F167:akK:=
 λn b=>ah (aQ (Y51) (Bool×U) (Y52) (λc=>aj (aE c.1 (aq b.1.1.1)) (aO (aI c.1 b.1.1.1) (aj (aa (bn b.1.1.1 (az
 c.1) bL).1 6) (Z (N (aG .i64 c.1 1,jL (A:=sg.A) (Ty.int .i64) c.1 W c.2.1,()))) (Z (N (aG .i64 c.1 1,c.2)))))
 (Z (H 0 c))) n (0,[],())) λc=>bK c (λ_ e=>ah (aQ (Y51) (Bool×U) (Y52) (λg=>aj (aE g.1 (aq b.1.1.2))
 (aO (aI g.1 b.1.1.2) (aj (au (HV (A:=sg.A) (Ty.int .i64) J (bn b.1.1.2 (az g.1) 0) g.2.1)) (Z (X g.2 (J,()))) (Z
 (N (aG .i64 g.1 1,QD (A:=sg.A) (Ty.int .i64) (bn b.1.1.2 (az g.1) 0) g.2.1,()))))) (Z (H 0 g))) n (0,e.2)) λg=>bK g
 (λ_ i=>Z ((aa (aq i.2.1) 0,()),())) (λ_ i=>Z (i,())) λ_ _=>Y) (λ_ e=>Z (e,())) λ_ _=>Y
def aoE(n:Nat):OC:=⟨167,⟨P62,K4,J,F167 n⟩,cS [] [(167,0,⟨[(14,dy),(0,Vn)],[.slot 7],[],0⟩),(167,2,⟨[(36,dy),(0,Vn)],[.slot 7],[],0⟩)] n 10 167⟩
def u7(n:Nat):O Y4:=
 Z ((J,()),())
def ZS(n:Nat)(b:cW×U):O Y4:=
 ah (F45 n (b.1.1.4,())) λk=>aj k.1.1 (aj (br 0 b.1.1.5) (Z ((br b.1.1.5 1000000000,()),())) (u7 n)) (u7 n)
def ZR(n:Nat)(b:cW×U):O Y4:=
 ah (F167 n b) λg=>aj g.1.1 (aj (br (aq b.1.1.3) 100) (ah (aQ (Int×U) (Int×U) (U) (λh=>aj (aE h.1 (aq
 b.1.1.3)) (aO (aI h.1 b.1.1.3) (ah (F164 n (bn b.1.1.3 (az h.1) ru,())) λi=>aj (au i.1.1) (Z (X () h)) (Z (N
 (aG .i64 h.1 1,()))))) (Z (H 0 h))) n (0,())) λh=>bK h (λ_ _=>aj (au J) (ZS n b) (u7 n)) (λ_ j=>aj
 (au (br 0 j.1)) (ZS n b) (u7 n)) λ_ _=>Y) (u7 n)) (u7 n)
def F111:akK:=
 λn b=>aj (br (aq b.1.1.1) 120) (ah (aQ (Int×U) (Int×U) (U) (λc=>aj (aE c.1 (aq b.1.1.1)) (aO (aI c.1
 b.1.1.1) (ah (F166 n (b.1,bn b.1.1.1 (az c.1) bL,())) λd=>aj (au d.1.1) (Z (X () c)) (Z (N (aG .i64 c.1 1,
 ()))))) (Z (H 0 c))) n (0,())) λc=>bK c (λ_ _=>aj (au J) (ZR n b) (u7 n)) (λ_ e=>aj (au (br 0 e.1))
 (ZR n b) (u7 n)) λ_ _=>Y) (u7 n)
def ae0(n:Nat):OC:=⟨111,⟨P62,K4,J,F111 n⟩,cS [k45 n,aoG n,aoF n,aoE n] [(291,0,⟨[(8,dy)],[],[],0⟩),(298,0,⟨[(8,dy)],[],[],0⟩)] n 10 111⟩
def F66:Nat->Y77->O ((L Int×U)×Y7×L (Int×Bool)×U):=
 λn b=>ah (aQ (L Int×Int×Y7×L (Int×Bool)×U) (L Int×U) (Y77) (λc=>aj (aE c.2.1 (aq b.1.1.2.1)) (ah
 (F67 n (c.2.2.1,c.2.2.2.1,c.2.1,())) λd=>ah (F68 n d.1) λe=>aj (au (aa e.1.1 2)) (aO (de c.1 [c.2.1]) (Z (N (cZ c.1
 [c.2.1],aG .i64 c.2.1 1,c.2.2.1,d.2.2)))) (Z (N (c.1,aG .i64 c.2.1 1,c.2.2.1,d.2.2)))) (Z (H 0 c))) n ([],0,b)) λc=>
 bK c (λ_ e=>Z ((e.1,()),e.2.2)) (λd e=>Z (e,d)) λ_ _=>Y
def k66(n:Nat):OC:=⟨66,⟨P53,K21,J,F66 n⟩,cS [k67 n,k68 n] [(66,0,⟨[(3,.one (.own (.int .i64))),(12,dy),(0,b0z),(0,wZ)],[.slot 0,.cell (.slot 0) 11],[],0⟩)] n 10 66⟩
def F353:Nat->se×U->O acQ:=
 λn _=>Z ((cN,()),())
def anv(n:Nat):OC:=⟨353,⟨arO,K173,J,F353 n⟩,cS [] [] n 10 353⟩
def F354:Nat->iI×U->O acQ:=
 λn b=>Z ((b.1.1,()),())
def anu(n:Nat):OC:=⟨354,⟨arN,K173,J,F354 n⟩,cS [] [] n 10 354⟩
def F355:Nat->rD×U->O acQ:=
 λn _=>Z ((cN,()),())
def ant(n:Nat):OC:=⟨355,⟨arM,K173,J,F355 n⟩,cS [] [] n 10 355⟩
def ZB(n:Nat)(c:agt):agp:=
 Z ((cN,0,8,()),c.2)
def J0:L (Nat×Ty):=
 [(197,Ty.st 14),(203,Ty.st 15),(213,Ty.st 16)]
def ZA(n:Nat)(g:agt):acQ->agp:=
 λh=>Z ((h.1.1,g.1.1,0,()),g.2)
def F57:Nat->VU->agp:=
 λn b=>ah (F48 n (b.1,b.2.1,0,())) λc=>aj (au c.1.2.1) (ZB n c) (ah (F66 n c.2) λd=>aj (aa (aq d.1.1) 0) (Z
 ((cN,0,5,()),d.2)) (aO (nzI (aq d.1.1)) (aO (nzI (aq d.1.1)) (aO (aI (HK (aG .i64 (HK b.2.2.1 (aq d.1.1)) (aq d.1.1))
 (aq d.1.1)) d.1.1) (ah (F67 n (d.2.1,d.2.2.1,bn d.1.1 (az (HK (aG .i64 (HK b.2.2.1 (aq d.1.1)) (aq d.1.1)) (aq d.1.1))) 0,()))
 λe=>ah (F48 n (e.2.1,e.2.2.1,aG .i64 c.1.1 1,())) λg=>aj (au g.1.2.1) (ZB n g) (aj (aE 5000 g.1.1) (ZB n g) (aj (mG
 J0 0 (jt 17 e.1.1)) (ah (F353 n (kF (Sg.zero sg) J0 0 (jt 17 e.1.1),())) (ZA n g)) (aj (mG J0 1 (jt 17 e.1.1)) (ah
 (F354 n (kF (Sg.zero sg) J0 1 (jt 17 e.1.1),())) (ZA n g)) (aj (mG J0 2 (jt 17 e.1.1)) (ah (F355 n (kF (Sg.zero sg) J0
 2 (jt 17 e.1.1),())) (ZA n g)) Y)))))))))
def k57(n:Nat):OC:=⟨57,⟨P47,K63,J,F57 n⟩,cS [k48 n,k66 n,k67 n,anv n,anu n,ant n] [] n 10 57⟩
def Tt(n:Nat):O Y96:=
 Z ((cY,[],2,()),())
def F20:Nat->ak3->O Y96:=
 λn b=>ah (F99 n (b.1,())) λc=>aj (au (aa c.1.2.1 0)) (Tt n) (ah (aQ (Y51) (Bool×U) (Y52) (λd=>aj (aE d.1
 (aq b.1.1)) (aO (aI d.1 c.1.1) (aj (bn c.1.1 (az d.1) aU).1 (aO (aI d.1 b.1.1) (aj (aa (bn b.1.1 (az d.1) bY).1 6)
 (aO (aI d.1 b.1.1) (Z (N (aG .i64 d.1 1,jL (A:=sg.A) (Ty.int .i64) (bn b.1.1 (az d.1) bY).2 W d.2.1,())))) (Z
 (N (aG .i64 d.1 1,d.2))))) (Z (N (aG .i64 d.1 1,d.2))))) (Z (H 0 d))) n (0,[],())) λd=>bK d (λ_ g=>ah
 (F111 n (cW.mk b.2.1 b.1 c.1.1 g.2.1,())) λh=>aj (au h.1.1) (Tt n) (aj (aE 200 (aq b.2.2.1)) (Tt n) (ah (F48 n
 (((b.2.1.1,b.2.1.2,b.2.1.3,b.2.1.4,b.2.1.5,b.1.1,b.1.2,b.1.3,b.1.4,b.1.5,c.1.1,()),()),g.2.1,0,())) λi=>aj (au i.1.2.1) (Z
 ((cY,[],8,()),())) (ah (aQ (L aP×Int×Hp×Y7×L (Int×Bool)×U) (art) (Hp×Y7×L (Int×Bool)×U) (λj=>aj (aE j.2.1 (aq b.2.2.1)) (aO (aI j.2.1 b.2.2.1) (ah (F57 n (j.2.2.2.1,j.2.2.2.2.1,bn b.2.2.1 (az j.2.1) 0,())) λk
 =>aj (aa k.1.2.2.1 5) (Z (H 0 (j.1,j.2.1,([],[],[],[],j.2.2.1.2.2.2.2),k.2))) (aj (au (aa k.1.2.2.1 0)) (Z (X (([],
 [],[],[],0,()),k.2) ([],k.1.2.2))) (aO (de j.1 [k.1.1]) (Z (N (cZ j.1 [k.1.1],aG .i64 j.2.1 1,([],[],[],[],
 j.2.2.1.2.2.2.2),k.2))))))) (Z (H 0 (j.1,j.2.1,([],[],[],[],j.2.2.1.2.2.2.2),j.2.2.2)))) n ([],0,([],[],[],[],0,()),i.2)) λj
 =>bK j (λ_ l=>ah (F49 n l.2.2.2) λm=>Z ((m.1.1,l.1,0,()),())) (λk l=>Z ((ak.mk [] [] [] [] k.1.2.2.2.2.1,l),()))
 λ_ _=>Y)))) (λ_ g=>aj (au g.1) (Tt n) Y) λ_ _=>Y)
def k20(n:Nat):OC:=⟨20,⟨P64,K65,J,F20 n⟩,cS [k48 n,k49 n,k57 n,k99 n,ae0 n] [(20,0,⟨[(13,.one (.own (.st 11))),(43,dy),(0,.box (.cells [.nil (.st 6),.nil (.int .i64),.nil (.st 7),.nil (.int .i64),mg])),(0,b0z),(0,wZ)],[.slot 6,.slot 23,.cell (.slot 23) 11],[],0⟩),(44,0,⟨[(23,dy),(0,Vn)],[.cell (.slot 19) 11],[],0⟩)] n 10 20⟩
abbrev E58(n:Nat):eO sg:=⟨DS,EV [k47 n,abv n,UJ n,XA n],Wd [(58,0,⟨[(21,dy),(0,Eb),(0,Ea)],[.cell (.slot 4) 0,.slot 3],[],0⟩),(58,2,⟨[(8,dy),(0,Eb),(0,Ea)],[.cell (.slot 4) 0,.slot 3],[],0⟩),(58,6,⟨[(52,dy),(0,Eb),(0,Ea)],[.cell (.cap (.cell (.slot 5) 0) 0) 0,.cap (.cell (.slot 5) 0) 1],[],0⟩),(102,0,⟨[(32,dy),(0,b6z),(0,Eb)],[.slot 7,.cell (.cap (.slot 2) 0) 0],[],0⟩),(102,2,⟨[(58,dy),(0,b6z)],[.slot 7],[],0⟩),(157,2,⟨[(6,.one (.own (.st 4))),(21,dy)],[],[(19,6)],0⟩)],J,cjL [(169,11,⟨[(0,acB),(0,Eb),(0,Ea)],[.cell (.slot 1) 0,.cell (.cap (.cell (.LS (.slot 0) 5) 0) 0) 0,.cap (.cell (.LS (.slot 0) 5) 0) 1],[.slot 1,.slot 0,.LS (.slot 0) 5,.cap (.cell (.LS (.slot 0) 5) 0) 0],[]⟩),(170,11,⟨[(0,dy),(0,acB),(0,Eb),(0,Ea)],[.cell (.slot 1) 0,.cell (.cap (.cell (.LS (.cell (.slot 2) 0) 5) 0) 0) 0,.cap (.cell (.LS (.cell (.slot 2) 0) 5) 0) 1],[.slot 1,.slot 2,.slot 3,.cell (.slot 2) 0,.LS (.cell (.slot 2) 0) 5,.cap (.cell (.LS (.cell (.slot 2) 0) 5) 0) 0],[.dat .bool]⟩),(169,0,⟨[(0,Ix),(0,Eb)],[.cell (.slot 1) 0,.cell (.cap (.cell (.LS (.slot 0) 3) 0) 0) 0],[.slot 1,.slot 0,.LS (.slot 0) 3,.cap (.cell (.LS (.slot 0) 3) 0) 0],[]⟩),(170,0,⟨[(0,dy),(0,Ix),(0,Eb)],[.cell (.slot 1) 0,.cell (.cap (.cell (.LS (.cell (.slot 2) 0) 3) 0) 0) 0],[.slot 1,.slot 2,.slot 3,.cell (.slot 2) 0,.LS (.cell (.slot 2) 0) 3,.cap (.cell (.LS (.cell (.slot 2) 0) 3) 0) 0],[.dat .bool]⟩),(1000000,0,⟨[],[],[],[]⟩)]⟩
def Rh:Nat->Nat->JU×L (Int×Int)×(L Int×U)×U->O (U×JU×L (Int×Int)×(L Int×U)×U):=λn a x=>Pp (wS (E58 n) n a) 169 [(0,acB),(0,Eb),(0,Ea)] [] [10,4,3] [11,13,6,5] (Qx ([10,4,3]++[11,13,6,5]) [(0,acB),(0,Eb),(0,Ea)] (SU [.rJ 13,.ptr 11 0])) (stJ [10,4,3] [11,13,6,5] ⟨trL [(13,lpR 58 68 [47] (rgN (TZ (Tc 58)) 0) [(5,.ptr 6 0)]),(11,.box [.ptr 10 0]),(6,.box [.fn (.func 112) [] [.ptr 5 0,.ptr 3 0]]),(5,.box [.mp 4])],0,0,0,[],[]⟩) x
def acV:Nat->Nat->JU×L (Int×Int)×U->O (U×JU×L (Int×Int)×U):=λn a x=>Pp (wS (E58 n) n a) 169 [(0,Ix),(0,Eb)] [] [14,4] [18,20,15,5] (Qx ([14,4]++[18,20,15,5]) [(0,Ix),(0,Eb)] (SU [.rJ 20,.ptr 18 0])) (stJ [14,4] [18,20,15,5] ⟨trL [(20,lpR 157 42 [14] (rgN (TZ (Tc 157)) 0) [(3,.ptr 15 0)]),(18,.box [.ptr 14 0]),(15,.box [.fn (.func 114) [] [.ptr 5 0]]),(5,.box [.mp 4])],0,0,0,[],[]⟩) x
def Ts(c:Y77)(d:Zb):Int:=
 bn c.1.1.2.1 (az d.1) 0
def Tq(c:Y77)(h:Zb):bx:=
 bn c.1.1.1 (az (bn h.2.2.1.1 (az h.1) 0)) bL
def Tp(c:Y77)(j:Zb)(m:akF):bx:=
 bn c.1.1.1 (az (bn j.2.2.1.1 (az m.1) 0)) bL
def adR(c:Y77)(q:Int×Hp×U):Int:=
 bn c.1.1.2.1 (az q.1) 0
def G58:akQ:=
 λn a c=>ah (aQ (Zb) (U) (akG) (λd=>aj (aE d.1 (aq c.1.1.2.1)) (aO (aI d.1 c.1.1.2.1) (aj (au (Gj (A:=sg.A)
 (Ty.int .i64) (Ts c d) d.2.1)) (aO (de d.2.2.1.1 [Ts c d]) (Z (N (aG .i64 d.1 1,jL (A:=sg.A) (Ty.int .i64) (Ts c d) (aq
 d.2.2.1.1) d.2.1,(cZ d.2.2.1.1 [Ts c d],()),())))) (Z (N (aG .i64 d.1 1,d.2))))) (Z (H 0 d))) n (0,[],([],()),())) λ
 d=>bK d (λ_ g=>ah (aQ (Zb) (U) (akG) (λh=>aj (aE h.1 (aq h.2.2.1.1)) (aO (aI h.1 h.2.2.1.1) (aO (dV (az
 h.1) h.2.2.1.1) (aO (aI (bn h.2.2.1.1 (az h.1) 0) c.1.1.1) (ah (Rh n (a+10) (((Tq c h).1,(Tq c h).2,(Tq c h).3,(Tq c
 h).4,()),h.2)) λi=>Z (N (aG .i64 h.1 1,i.2.2)))))) (Z (H 0 h))) n (0,g.2)) λh=>bK h (λ_ j=>ah (F156 n
 (c.1.1.2.2.1,())) λk=>ah (F47 n (c.1.1.2.2.2.1,())) λl=>ah (aQ (akF) (U) (Hp×L (Int×Int)×U) (λm=>aj
 (aE m.1 (aq j.2.2.1.1)) (aO (aI m.1 j.2.2.1.1) (aO (dV (az m.1) j.2.2.1.1) (aO (aI (bn j.2.2.1.1 (az m.1) 0) c.1.1.1) (ah (F238 n
 ((Tp c j m).4,())) λo=>ah (acV n (a+8) (((Tp c j m).1,(Tp c j m).2,(Tp c j m).3,o.1),m.2.2)) λp=>aO (de
 m.2.1.1 [bx.mk p.2.1.1 p.2.1.2.1 p.2.1.2.2.1 p.2.1.2.2.2.1]) (Z (N (aG .i64 m.1 1,(cZ m.2.1.1 [bx.mk p.2.1.1 p.2.1.2.1
 p.2.1.2.2.1 p.2.1.2.2.2.1],m.2.1.2),p.2.2))))))) (Z (H 0 m))) n (0,([],[],k.1.1,l.1.1,c.1.1.2.2.2.2.1,()),j.2.1,())) λm=>bK m
 (λ_ p=>ah (aQ (Int×Hp×U) (U) (Hp×U) (λq=>aj (aE q.1 (aq c.1.1.2.1)) (aO (aI q.1 c.1.1.2.1) (aO (de
 q.2.1.2.1 [HV (A:=sg.A) (Ty.int .i64) 0 (adR c q) p.2.2.1]) (Z (N (aG .i64 q.1 1,(q.2.1.1,cZ q.2.1.2.1 [HV (A:=sg.A) (Ty.int .i64)
 0 (adR c q) p.2.2.1],q.2.1.2.2),()))))) (Z (H 0 q))) n (0,p.2.1,())) λq=>bK q (λ_ s=>Z ((ak.mk s.2.1.1 s.2.1.2.1
 s.2.1.2.2.1 s.2.1.2.2.2.1 s.2.1.2.2.2.2.1,()),c)) (λ_ _=>Z ((cY,()),c)) λ_ _=>Y) (λ_ _=>Z ((cY,()),c)) λ
 _ _=>Y) (λ_ _=>Z ((cY,()),c)) λ_ _=>Y) (λ_ _=>Z ((cY,()),c)) λ_ _=>Y
def F58(n:Nat):Fn P53 K54 J:=G58 n n
def k58(n:Nat):OC:=⟨58,⟨P53,K54,J,F58 n⟩,aa2 [k47 n,abv n,UJ n,XA n] (E58 n).sh (E58 n).cj n (n+10) 58⟩
def F24:Nat->Y49->O Y50:=
 λn b=>ah (F99 n (b.1,())) λc=>aj (au (aa c.1.2.1 0)) (Z ((cY,2,()),())) (ah (aQ (Y51) (Bool×U) (Y52)
 (λd=>aj (aE d.1 (aq b.1.1)) (aO (aI d.1 c.1.1) (aj (bn c.1.1 (az d.1) aU).1 (aO (aI d.1 b.1.1) (aj (aa (bn b.1.1
 (az d.1) bY).1 6) (aO (aI d.1 b.1.1) (Z (N (aG .i64 d.1 1,jL (A:=sg.A) (Ty.int .i64) (bn b.1.1 (az d.1) bY).2 W
 d.2.1,())))) (Z (N (aG .i64 d.1 1,d.2))))) (Z (N (aG .i64 d.1 1,d.2))))) (Z (H 0 d))) n (0,[],())) λd=>bK
 d (λ_ g=>ah (F111 n (cW.mk b.2.1 b.1 c.1.1 g.2.1,())) λh=>aj (au h.1.1) (Z ((cY,2,()),())) (ah (F58 n
 (((b.2.1.1,b.2.1.2,b.2.1.3,b.2.1.4,b.2.1.5,b.1.1,b.1.2,b.1.3,b.1.4,b.1.5,c.1.1,()),()),g.2)) λi=>Z ((i.1.1,0,()),()))) (λ_ g
 =>aj (au g.1) (Z ((cY,2,()),())) Y) λ_ _=>Y)
def k24(n:Nat):OC:=⟨24,⟨P66,K56,J,F24 n⟩,cS [k58 n,k99 n,ae0 n] [(44,0,⟨[(23,dy),(0,Vn)],[.cell (.slot 19) 11],[],0⟩)] n 10 24⟩
def ZK(n:Nat):O Y38:=
 Z ((cY,cN,0,2,()),())
def F28:Nat->Y99->O Y38:=
 λn b=>ah (F99 n (b.1,())) λc=>aj (au (aa c.1.2.1 0)) (ZK n) (ah (aQ (Y51) (Bool×U) (Y52) (λd=>aj (aE d.1
 (aq b.1.1)) (aO (aI d.1 c.1.1) (aj (bn c.1.1 (az d.1) aU).1 (aO (aI d.1 b.1.1) (aj (aa (bn b.1.1 (az d.1) bY).1 6)
 (aO (aI d.1 b.1.1) (Z (N (aG .i64 d.1 1,jL (A:=sg.A) (Ty.int .i64) (bn b.1.1 (az d.1) bY).2 W d.2.1,())))) (Z
 (N (aG .i64 d.1 1,d.2))))) (Z (N (aG .i64 d.1 1,d.2))))) (Z (H 0 d))) n (0,[],())) λd=>bK d (λ_ g=>ah
 (F111 n (cW.mk b.2.1 b.1 c.1.1 g.2.1,())) λh=>aj (au h.1.1) (ZK n) (ah (F57 n (((b.2.1.1,b.2.1.2,b.2.1.3,b.2.1.4,b.2.1.5,
 b.1.1,b.1.2,b.1.3,b.1.4,b.1.5,c.1.1,()),()),g.2.1,b.2.2)) λi=>aj (au (aa i.1.2.2.1 0)) (Z ((cY,cN,0,
 i.1.2.2),())) (ah (F49 n i.2) λj=>Z ((j.1.1,i.1.1,i.1.2.1,0,()),())))) (λ_ g=>aj (au g.1) (ZK n) Y) λ_ _=>Y)
def k28(n:Nat):OC:=⟨28,⟨P67,K68,J,F28 n⟩,cS [k49 n,k57 n,k99 n,ae0 n] [(44,0,⟨[(23,dy),(0,Vn)],[.cell (.slot 19) 11],[],0⟩)] n 10 28⟩
def LA(n:Nat)(c:Int×U):Y85:=
 Z (N (aG .i64 c.1 1,()))
def F302:Nat->Q8->Hq:=
 λn b=>ah (aQ (Int×U) (Int×U) (U) (λc=>aj (aE c.1 (aq b.1)) (aO (aI c.1 b.1) (aj (aa (mO b.1 c.1) 32)
 (LA n c) (aO (aI c.1 b.1) (aj (aa (mO b.1 c.1) 9) (LA n c) (aO (aI c.1 b.1) (aj (aa (mO b.1 c.1) 10) (LA n c) (aj (br
 2 (bf .i64 (aq b.1) c.1)) (aO (eK c.1 (aG .i64 c.1 2) (aq b.1)) (aj (gC (cG b.1 c.1 (aG .i64 c.1 2)) [47,47]) (ah (aQ (Int×
 U) (Int×U) (U) (λd=>aj (aE d.1 (aq b.1)) (aO (aI d.1 b.1) (aj (au (aa (mO b.1 d.1) 10)) (LA n d) (Z
 (H 0 d)))) (Z (H 0 d))) n c) λd=>bK d (λ_ g=>Z (N g)) (λ_ g=>Z (X () g)) λ_ _=>Y) (Z (X
 () c)))) (Z (X () c))))))))) (Z (H 0 c))) n b.2) λc=>bK c (λ_ e=>Z (e,())) (λ_ e=>Z (e,())) λ_ _=>Y
def anK(n:Nat):OC:=⟨302,⟨P69,K2,J,F302 n⟩,cS [] [(302,0,⟨[(1,dy)],[],[],0⟩),(302,2,⟨[(1,dy)],[],[],0⟩)] n 10 302⟩
def F141:Nat->akS->O Y4:=
 λn b=>ah (aQ (Int×U) (Bool×U) (U) (λc=>aj (aE c.1 (aq b.1)) (aO (aI c.1 b.1) (aj (gC (bn b.1 (az c.1)
 []) b.2.1) (Z (X () (W,()))) (Z (N (aG .i64 c.1 1,()))))) (Z (H 0 c))) n (0,())) λc=>bK c (λ_ _=>Z
 ((J,()),())) (λ_ e=>Z (e,())) λ_ _=>Y
def abw(n:Nat):OC:=⟨141,⟨P70,K4,J,F141 n⟩,cS [] [(141,0,⟨[(5,dy)],[],[],0⟩)] n 10 141⟩
def F308:Nat->U->OF:=
 λn _=>Z (([[98,111,111,108],[99,101,108,108],[99,104,97,110],[101,108,115,101],[102,97,108,115,101],[102,117,110],[103,
 101,116],[105,102],[105,110],[105,110,112,117,116],[105,110,116],[106,111,105,110],[108,101,116],[109,97,116,99,104],[109,
 111,100,117,108,101],[111,117,116],[112,97,117,115,101],[112,117,116],[114,101,115,101,116],[115,101,110,100],[115,104,105,
 102,116],[115,112,97,119,110],[116,97,107,101],[116,97,115,107],[116,104,101,110],[116,114,117,101],[116,121,112,101],[117,
 110,105,116]],()),())
def anI(n:Nat):OC:=⟨308,⟨[],K71,J,F308 n⟩,cS [] [] n 10 308⟩
def F276:Y62:=
 λn b=>ah (F308 n ()) λc=>ah (F141 n (c.1.1,b)) λd=>Z d
def aif(n:Nat):OC:=⟨276,⟨P7,K4,J,F276 n⟩,cS [abw n,anI n] [] n 10 276⟩
def F317:Y5:=
 λn b=>aj (br 97 b.1) (Z ((br b.1 122,()),())) (Z ((J,()),()))
def aic(n:Nat):OC:=⟨317,⟨P72,K4,J,F317 n⟩,cS [] [] n 10 317⟩
def F320:Y5:=
 λn b=>aj (br 48 b.1) (Z ((br b.1 57,()),())) (Z ((J,()),()))
def aia(n:Nat):OC:=⟨320,⟨P72,K4,J,F320 n⟩,cS [] [] n 10 320⟩
def ZE(n:Nat)(b:akM)(c:Int×U):Y85:=
 aj (au b.2.2.1) (aO (aI c.1 b.1) (ah (F317 n (mO b.1 c.1,())) λe=>aj e.1.1 (Z (N (aG .i64 c.1 1,()))) (Z (H 0
 c)))) (Z (H 0 c))
def F318:Nat->akM->Hq:=
 λn b=>ah (aQ (Int×U) (Int×U) (U) (λc=>aj (aE c.1 (aq b.1)) (aj b.2.2.1 (aO (aI c.1 b.1) (ah (F320 n (mO
 b.1 c.1,())) λd=>aj d.1.1 (Z (N (aG .i64 c.1 1,()))) (ZE n b c))) (ZE n b c)) (Z (H 0 c))) n (b.2.1,())) λc=>
 bK c (λ_ e=>Z ((bf .i64 e.1 b.2.1,()),())) (λ_ e=>Z (e,())) λ_ _=>Y
def aib(n:Nat):OC:=⟨318,⟨P73,K2,J,F318 n⟩,cS [aic n,aia n] [(318,0,⟨[(7,dy)],[],[],0⟩)] n 10 318⟩
def F319:Y5:=
 λn b=>aj (br 65 b.1) (Z ((br b.1 90,()),())) (Z ((J,()),()))
def anF(n:Nat):OC:=⟨319,⟨P72,K4,J,F319 n⟩,cS [] [] n 10 319⟩
def F321:Nat->Q8->Hq:=
 λn b=>aO (aI b.2.1 b.1) (ah (aj (aa (mO b.1 b.2.1) 126) (Z (N (aG .i64 b.2.1 1,W,()))) (Z (N (b.2.1,J,
 ())))) λ(c:Y98)=>ck c (λd=>ah (F318 n (b.1,d.1,W,())) λe=>aj (aa e.1.1 0) (Z ((0,()),())) (aj (aE 10 e.1.1)
 (Z ((0,()),())) (aO (aI d.1 b.1) (aj (aa (mO b.1 d.1) 48) (aj (aE 1 e.1.1) (Z ((0,()),())) (aj (aE b.2.1 d.1) (Z ((0,
 ()),())) (Z ((aG .i64 (bf .i64 d.1 b.2.1) e.1.1,()),())))) (Z ((aG .i64 (bf .i64 d.1 b.2.1) e.1.1,()),())))))) (λ_ _=>
 Y) (λ_ e=>Z (e,())) λ_ _=>Y)
def anE(n:Nat):OC:=⟨321,⟨P69,K2,J,F321 n⟩,cS [aib n] [(321,1000003,⟨[(5,dy),(11,dg)],[],[],0⟩)] n 10 321⟩
abbrev Wz(F:Fn P7 K2 J):lI sg:=⟨P7,K2,J,F⟩
def B322:Nat->(L UInt8×U->Hq)->L UInt8×U->Hq:=
 λn f322 c=>aO (aI 0 c.1) (aj (aa (mO c.1 0) 126) (aO (eK 1 (aq c.1) (aq c.1)) (ah (f322 (cG c.1 1 (aq c.1),())) λd=>
 Z ((OY .i64 d.1.1,()),()))) (ah (aQ (Int×Int×U) (Int×U) (U) (λd=>aj (aE d.2.1 (aq c.1)) (aO (aI d.2.1
 c.1) (Z (N (aG .i64 (HL .i64 10 d.1) (Rq .i64 (bf .u8 (mO c.1 d.2.1) 48)),aG .i64 d.2.1 1,())))) (Z (H 0 d))) n
 (0,0,())) λd=>bK d (λ_ g=>Z ((g.1,()),())) (λ_ g=>Z (g,())) λ_ _=>Y))
def D322(n:Nat)(f322:Fn P7 K2 J)(a:bC prog 322 (Wz f322)):bC prog 322 (Wz (B322 n f322)):=cS [⟨322,Wz f322,a⟩] [(322,0,⟨[(3,dy),(4,dy)],[],[],0⟩)] n 10 322
def R322(n k:Nat):(Fn P7 K2 J):=Nat.rec (motive:=λ_=>(Fn P7 K2 J)) (λ_=>Y) (λ_ r=>B322 n r) k
def F322(n:Nat):Fn P7 K2 J:=(R322 n n)
def adV(n:Nat):∀k,bC prog 322 (Wz (R322 n k))
 |0=>cm (enters 322 (by kernel_rfl))
 |k+1=>have a:=adV n k
  D322 n _ a
def anD(n:Nat):OC:=⟨322,Wz (F322 n),(adV n n)⟩
def F329:Nat->U->OF:=
 λn _=>Z (([[61,62],[61,61],[45,62],[61],[60],[43],[45],[42],[40],[41],[123],[125],[124],[44],[59],[58],[95],[63]],()),())
def anz(n:Nat):OC:=⟨329,⟨[],K71,J,F329 n⟩,cS [] [] n 10 329⟩
def F323:Nat->Q8->O ((L UInt8×U)×U):=
 λn b=>ah (F329 n ()) λc=>ah (aQ (Int×U) (L UInt8×U) (U) (λd=>aj (aE d.1 (aq c.1.1)) (aO (aI d.1
 c.1.1) (aj (br (aq (bn c.1.1 (az d.1) [])) (bf .i64 (aq b.1) b.2.1)) (aO (aI d.1 c.1.1) (aO (eK b.2.1 (aG .i64 b.2.1 (aq (bn
 c.1.1 (az d.1) []))) (aq b.1)) (aO (aI d.1 c.1.1) (aj (gC (cG b.1 b.2.1 (aG .i64 b.2.1 (aq (bn c.1.1 (az d.1) [])))) (bn c.1.1
 (az d.1) [])) (aO (aI d.1 c.1.1) (Z (X () (bn c.1.1 (az d.1) [],())))) (Z (N (aG .i64 d.1 1,()))))))) (Z (N
 (aG .i64 d.1 1,()))))) (Z (H 0 d))) n (0,())) λd=>bK d (λ_ _=>Z (([],()),())) (λ_ g=>Z (g,())) λ_ _=>Y
def anC(n:Nat):OC:=⟨323,⟨P69,K74,J,F323 n⟩,cS [anz n] [(323,0,⟨[(6,dy)],[],[],0⟩)] n 10 323⟩
def Rm(b:Q8)(d:(Int×U)×U):Bool:=
 eK b.2.1 (aG .i64 b.2.1 d.1.1) (aq b.1)
def zM(b:Q8)(d:(Int×U)×U):L UInt8:=
 cG b.1 b.2.1 (aG .i64 b.2.1 d.1.1)
def Rl(n:Nat):Bool×agm×U->agl:=
 λh=>Z ((fT.mk h.2.1.1 h.2.1.2.1 h.2.1.2.2.1 h.2.1.2.2.2.1,()),())
def ZG(n:Nat)(b:Q8):agl:=
 ah (F321 n b) λg=>ah (aj (aE 0 g.1.1) (aO (Rm b g) (aO (Rm b g) (ah (F322 n (zM b g,())) λh=>Z (N (W,(4,
 zM b g,h.1.1,b.2),()))))) (Z (N (J,(0,[],0,b.2),())))) λ(h:acG)=>ck h (Rl n) (λ_ _=>Y) (λ_ _=>Z
 ((dH,()),())) λ_ _=>Y
def F303:Nat->Q8->agl:=
 λn b=>aO (aI b.2.1 b.1) (ah (F317 n (mO b.1 b.2.1,())) λc=>aj c.1.1 (ah (F318 n (b.1,b.2.1,J,())) λd=>aO (Rm b d)
 (ah (F276 n (zM b d,())) λe=>ah (aj e.1.1 (Z (N (W,(3,zM b d,0,b.2),()))) (ah (aj (br (aq (zM b d)) 8)
 (Z (N (W,(1,zM b d,0,b.2),()))) (Z (N (J,(0,zM b d,0,b.2),())))) λ(g:acG)=>ck g (λh=>Z
 (N (J,h.2))) (λ_ _=>Y) (λh _=>Z (X h ())) λ_ _=>Y)) λ(g:acG)=>ck g (Rl n) (λ_ _=>Y) (λ
 _ _=>Z ((dH,()),())) λ_ _=>Y)) (aO (aI b.2.1 b.1) (ah (F319 n (mO b.1 b.2.1,())) λd=>aj d.1.1 (ah (F318 n (b.1,
 aG .i64 b.2.1 1,J,())) λe=>aO (eK b.2.1 (aG .i64 (aG .i64 b.2.1 1) e.1.1) (aq b.1)) (ah (aj (br (aq (cG b.1 b.2.1
 (aG .i64 (aG .i64 b.2.1 1) e.1.1))) 8) (Z (N (W,(2,cG b.1 b.2.1 (aG .i64 (aG .i64 b.2.1 1) e.1.1),0,b.2),()))) (Z
 (N (J,(0,cG b.1 b.2.1 (aG .i64 (aG .i64 b.2.1 1) e.1.1),0,b.2),())))) λ(g:acG)=>ck g (Rl n) (λ_ _=>Y)
 (λ_ _=>Z ((dH,()),())) λ_ _=>Y)) (aO (aI b.2.1 b.1) (ah (F320 n (mO b.1 b.2.1,())) λe=>aj e.1.1 (ZG n b)
 (aO (aI b.2.1 b.1) (aj (aa (mO b.1 b.2.1) 126) (ZG n b) (ah (F323 n b) λg=>aj (au (gC g.1.1 [])) (Z ((fT.mk 5 g.1.1
 0 b.2.1,()),())) (Z ((fT.mk 0 g.1.1 0 b.2.1,()),()))))))))))
def anJ(n:Nat):OC:=⟨303,⟨P69,K75,J,F303 n⟩,cS [aif n,aic n,aib n,anF n,aia n,anE n,anD n,anC n] [(303,1000005,⟨[(24,dg),(0,acz)],[.slot 5],[],0⟩),(303,1000007,⟨[(29,dg),(0,acz)],[.slot 5],[],0⟩),(303,1000012,⟨[(50,dg),(0,acz)],[.slot 5],[],0⟩),(303,1000017,⟨[(67,dg),(0,acz)],[.slot 5],[],0⟩)] n 10 303⟩
def F270:ak9:=
 λn b=>ah (F302 n (b.1,0,())) λc=>ah (aQ (agy) (agy) (U) (λd=>aj (aE d.2.1 (aq b.1)) (ah (F303 n (b.1,d.2)) λ
 e=>aj (aa e.1.1.1 0) (Z (X () d)) (aO (de d.1 [e.1.1]) (ah (F302 n (b.1,aG .i64 d.2.1 (aq e.1.1.2),())) λg=>Z (N
 (cZ d.1 [e.1.1],g.1))))) (Z (H 0 d))) n ([],c.1)) λd=>bK d (λ_ g=>Z ((g.1,aq b.1,()),())) (λ_ g=>Z (g,()))
 λ_ _=>Y
def anT(n:Nat):OC:=⟨270,⟨P7,K76,J,F270 n⟩,cS [anK n,anJ n] [(270,0,⟨[(4,.one (.own (.st 35))),(5,dy)],[],[],0⟩)] n 10 270⟩
def F202:ak9:=
 λn b=>aj (aE 8000 (aq b.1)) (Z (([],3,()),())) (ah (F270 n b) λc=>aj (aE c.1.2.1 (aq b.1)) (Z (([],4,()),())) (Z
 ((c.1.1,0,()),())))
def an9(n:Nat):OC:=⟨202,⟨P7,K76,J,F202 n⟩,cS [anT n] [] n 10 202⟩
def F272:Nat->bM×L UInt8×U->O Y4:=
 λn b=>aj b.1.3 (Z ((J,()),())) (aj (br (aq b.1.1) b.1.2) (Z ((J,()),())) (aO (aI b.1.2 b.1.1) (aj (aa (bn b.1.1
 (az b.1.2) dH).1 5) (Z ((gC (bn b.1.1 (az b.1.2) dH).2 b.2.1,()),())) (aj (aa (bn b.1.1 (az b.1.2) dH).1 3)
 (Z ((gC (bn b.1.1 (az b.1.2) dH).2 b.2.1,()),())) (Z ((J,()),()))))))
def aeR(n:Nat):OC:=⟨272,⟨P77,K4,J,F272 n⟩,cS [] [] n 10 272⟩
def F205:Nat->ak6->O agq:=
 λn b=>ah (F272 n (bM.mk b.1.1 b.1.2.1 b.1.2.2.1,b.2)) λc=>aj c.1.1 (Z (c.1,(b.1.1,aG .i64 b.1.2.1 1,b.1.2.2),()))
 (Z (c.1,b.1,()))
def FY(n:Nat):OC:=⟨205,⟨P78,K4,J,F205 n⟩,cS [aeR n] [] n 10 205⟩
def F203:Nat->ak6->acR:=
 λn b=>ah (F205 n b) λc=>aj (au c.1.1) (Z ((),(c.2.1.1,c.2.1.2.1,W,()),())) (Z ((),c.2))
def FZ(n:Nat):OC:=⟨203,⟨P78,[],J,F203 n⟩,cS [FY n] [] n 10 203⟩
def F271:Nat->bM×Int×U->O Y4:=
 λn b=>aj (au b.1.3) (aj (aE b.1.2 (aq b.1.1)) (aO (aI b.1.2 b.1.1) (Z ((aa (bn b.1.1 (az b.1.2) dH).1 b.2.1,()),
 ()))) (Z ((J,()),()))) (Z ((J,()),()))
def aeS(n:Nat):OC:=⟨271,⟨P79,K4,J,F271 n⟩,cS [] [] n 10 271⟩
def F204:Nat->lM×Int×U->O ((fT×U)×lM×U):=
 λn b=>ah (F271 n (bM.mk b.1.1 b.1.2.1 b.1.2.2.1,b.2)) λc=>aj (au c.1.1) (Z ((dH,()),(b.1.1,b.1.2.1,W,
 ()),())) (aO (aI b.1.2.1 b.1.1) (Z ((bn b.1.1 (az b.1.2.1) dH,()),(b.1.1,aG .i64 b.1.2.1 1,b.1.2.2),())))
def KN(n:Nat):OC:=⟨204,⟨OI,K75,J,F204 n⟩,cS [aeS n] [] n 10 204⟩
abbrev Pz(F:Fn mh K82 J):lI sg:=⟨mh,K82,J,F⟩
def RA(e:OE):cF:=
 cF.mk e.1.1.1 e.1.1.2 e.1.1.3 e.1.1.4
def B273:Nat->Zf->Zf->lM×U->O OE:=
 λn f273 f304 d=>ah (f304 d) λe=>ah (F205 n (e.2.1,[45,62],())) λg=>aj g.1.1 (ah (f273 g.2) λh=>Z ((cF.mk 4 0 []
 [RA e,RA h],()),h.2)) (Z ((RA e,()),g.2))
abbrev Ub(F:Fn mh K82 J):lI sg:=⟨mh,K82,J,F⟩
def Rz(n:Nat)(f273:Zf)(f324:akJ):OE->O OE:=
 λj=>Z ((cF.mk j.1.1.1 j.1.1.2 j.1.1.3 j.1.1.4,()),j.2)
def B304:Nat->Zf->akJ->lM×U->O OE:=
 λn f273 f324 d=>ah (F205 n (d.1,[105,110,116],())) λe=>aj e.1.1 (Z ((cF.mk 1 0 [] [],()),e.2)) (ah (F205 n (e.2.1,[98,
 111,111,108],())) λg=>aj g.1.1 (Z ((cF.mk 2 0 [] [],()),g.2)) (ah (F205 n (g.2.1,[117,110,105,116],())) λh=>aj h.1.1
 (Z ((cF.mk 3 0 [] [],()),h.2)) (ah (F205 n (h.2.1,[99,101,108,108],())) λi=>aj i.1.1 (ah (f324 (i.2.1,5,())) (Rz n f273
 f324)) (ah (F205 n (i.2.1,[99,104,97,110],())) λj=>aj j.1.1 (ah (f324 (j.2.1,6,())) (Rz n f273 f324)) (ah (F205 n (j.2.1,[116,97,
 115,107],())) λk=>aj k.1.1 (ah (f324 (k.2.1,7,())) (Rz n f273 f324)) (ah (F205 n (k.2.1,[63],())) λl=>aj l.1.1 (ah (F204 n
 (l.2.1,4,())) λm=>Z ((cF.mk 9 m.1.1.3 [] [],()),m.2)) (ah (F205 n (l.2.1,[40],())) λm=>aj m.1.1 (ah (f273 m.2) λo=>ah
 (F203 n (o.2.1,[41],())) λp=>Z ((cF.mk o.1.1.1 o.1.1.2 o.1.1.3 o.1.1.4,()),p.2)) (ah (F204 n (m.2.1,2,())) λo=>Z
 ((cF.mk 8 0 o.1.1.2 [],()),o.2)))))))))
abbrev aaN(F:Fn OI K82 J):lI sg:=⟨OI,K82,J,F⟩
def B324:Nat->Zf->lM×Int×U->O OE:=
 λn f304 c=>ah (f304 (c.1,())) λd=>Z ((cF.mk c.2.1 0 [] [cF.mk d.1.1.1 d.1.1.2 d.1.1.3 d.1.1.4],()),d.2)
def D273(n:Nat)(f273:Fn mh K82 J)(f304:Fn mh K82 J)(a:bC prog 273 (Pz f273))(b:bC prog 304 (Ub f304)):bC prog 273 (Pz (B273 n f273 f304)):=cS [FY n,⟨273,Pz f273,a⟩,⟨304,Ub f304,b⟩] [] n 10 273
def D304(n:Nat)(f273:Fn mh K82 J)(f324:Fn OI K82 J)(a:bC prog 273 (Pz f273))(b:bC prog 324 (aaN f324)):bC prog 304 (Ub (B304 n f273 f324)):=cS [FZ n,KN n,FY n,⟨273,Pz f273,a⟩,⟨324,aaN f324,b⟩] [] n 10 304
def D324(n:Nat)(f304:Fn mh K82 J)(a:bC prog 304 (Ub f304)):bC prog 324 (aaN (B324 n f304)):=cS [⟨304,Ub f304,a⟩] [] n 10 324
def R273(n k:Nat):(Fn mh K82 J)×(Fn mh K82 J)×(Fn OI K82 J):=Nat.rec (motive:=λ_=>(Fn mh K82 J)×(Fn mh K82 J)×(Fn OI K82 J)) ((λ_=>Y,λ_=>Y,λ_=>Y)) (λ_ r=>(B273 n r.1 r.2.1,B304 n r.1 r.2.2,B324 n r.2.1)) k
def F273(n:Nat):Fn mh K82 J:=(R273 n n).1
def ad3(n:Nat):∀k,bC prog 273 (Pz (R273 n k).1)∧bC prog 304 (Ub (R273 n k).2.1)∧bC prog 324 (aaN (R273 n k).2.2)
 |0=>⟨cm (enters 273 (by kernel_rfl)),cm (enters 304 (by kernel_rfl)),cm (enters 324 (by kernel_rfl))⟩
 |k+1=>have a:=ad3 n k
  ⟨D273 n _ _ a.1 a.2.1,D304 n _ _ a.1 a.2.2,D324 n _ a.2.1⟩
def aii(n:Nat):OC:=⟨273,Pz (F273 n),(ad3 n n).1⟩
def F206:Nat->lM×U->O ((kL×U)×lM×U):=
 λn b=>ah (F204 n (b.1,2,())) λc=>ah (F203 n (c.2.1,[61],())) λd=>ah (aQ (Bool×lM×akP×U) (U) (lM×akP×U) (λe=>aj e.1 (aj (au e.2.1.2.2.1) (ah (F204 n (e.2.1,2,())) λg=>ah (F205 n (g.2.1,[40],())) λh=>ah (aj h.1.1 (ah
 (aQ (akN) (U) (lM×agr×U) (λi=>aj i.1 (aj (au i.2.1.2.2.1) (ah (F273 n (i.2.1,())) λj=>aO (de i.2.2.1.2.1
 [cF.mk j.1.1.1 j.1.1.2 j.1.1.3 j.1.1.4]) (ah (F205 n (j.2.1,[44],())) λk=>Z (N (k.1.1,k.2.1,(i.2.2.1.1,cZ i.2.2.1.2.1
 [cF.mk j.1.1.1 j.1.1.2 j.1.1.3 j.1.1.4],()),())))) (Z (H 0 i))) (Z (H 0 i))) n (W,h.2.1,(g.1.1.2,[],()),())) λi=>
 bK i (λ_ k=>ah (F203 n (k.2.1,[41],())) λl=>Z (N (W,l.2.1,k.2.2))) (λj _=>Z (X j ())) λ_ _=>Y) (Z
 (N (J,h.2.1,(g.1.1.2,[],()),())))) λ(i:LO akN U (lM×agr×U) Any)=>ck i (λj=>aO (de e.2.2.1.2.1
 [iR.mk j.2.2.1.1 j.2.2.1.2.1]) (ah (F205 n (j.2.1,[124],())) λk=>Z (N (k.1.1,k.2.1,(e.2.2.1.1,cZ e.2.2.1.2.1
 [iR.mk j.2.2.1.1 j.2.2.1.2.1],()),())))) (λ_ _=>Y) (λj _=>Z (X (j.1,e.2.2) ())) λ_ _=>Y) (Z (H 0 e)))
 (Z (H 0 e))) n (W,d.2.1,(c.1.1.2,[],()),())) λe=>bK e (λ_ h=>ah (F203 n (h.2.1,[59],())) λi=>Z ((kL.mk
 h.2.2.1.1 h.2.2.1.2.1,()),i.2)) (λg _=>Z ((mI,()),g.1,())) λ_ _=>Y
def an8(n:Nat):OC:=⟨206,⟨mh,K83,J,F206 n⟩,cS [FZ n,KN n,FY n,aii n] [(206,0,⟨[(4,dg),(0,ym),(0,.box (.cells [.dat (.str),.own (.st 19)]))],[.slot 0,.slot 3],[],0⟩),(206,2,⟨[(6,dg),(0,ym),(0,ako)],[.slot 0,.slot 5],[],0⟩),(206,1000007,⟨[(27,dg),(0,ym),(0,ako)],[.slot 0,.slot 5],[],0⟩)] n 10 206⟩
def F307:Nat->Int×Term×Term×U->O Y16:=
 λn b=>Z ((Term.mk b.1 0 [] [Term.mk b.2.1.1 b.2.1.2 b.2.1.3 b.2.1.4 b.2.1.5,Term.mk b.2.2.1.1 b.2.2.1.2 b.2.2.1.3 b.2.2.1.4 b.2.2.1.5] [],
 ()),())
def abm(n:Nat):OC:=⟨307,⟨P84,K85,J,F307 n⟩,cS [] [] n 10 307⟩
abbrev Wx(F:Fn mh K86 J):lI sg:=⟨mh,K86,J,F⟩
def B337:Nat->(lM×U->O Y20)->lM×U->O Y20:=
 λn f337 c=>ah (F205 n (c.1,[95],())) λd=>aj d.1.1 (Z ((aB.mk 1 0 [] [],()),d.2)) (ah (F271 n (bM.mk d.2.1.1
 d.2.1.2.1 d.2.1.2.2.1,1,())) λe=>aj e.1.1 (ah (F204 n (d.2.1,1,())) λg=>Z ((aB.mk 2 0 g.1.1.2 [],()),g.2)) (ah (F271 n
 (bM.mk d.2.1.1 d.2.1.2.1 d.2.1.2.2.1,4,())) λg=>aj g.1.1 (ah (F204 n (d.2.1,4,())) λh=>Z ((aB.mk 3 h.1.1.3 []
 [],()),h.2)) (ah (F205 n (d.2.1,[116,114,117,101],())) λh=>aj h.1.1 (Z ((aB.mk 4 1 [] [],()),h.2)) (ah (F205 n (h.2.1,[102,
 97,108,115,101],())) λi=>aj i.1.1 (Z ((aB.mk 4 0 [] [],()),i.2)) (ah (F205 n (i.2.1,[40],())) λj=>aj j.1.1 (ah (F203 n
 (j.2.1,[41],())) λk=>Z ((aB.mk 5 0 [] [],()),k.2)) (ah (F204 n (j.2.1,2,())) λk=>ah (F205 n (k.2.1,[40],())) λl=>aj
 l.1.1 (ah (aQ (Bool×lM×Y87×U) (U) (lM×Y87×U) (λm=>aj m.1 (aj (au m.2.1.2.2.1) (ah (f337 (m.2.1,())) λo
 =>aO (de m.2.2.1.2.2.2.1 [aB.mk o.1.1.1 o.1.1.2 o.1.1.3 o.1.1.4]) (ah (F205 n (o.2.1,[44],())) λp=>Z (N (p.1.1,p.2.1,
 (m.2.2.1.1,m.2.2.1.2.1,m.2.2.1.2.2.1,cZ m.2.2.1.2.2.2.1 [aB.mk o.1.1.1 o.1.1.2 o.1.1.3 o.1.1.4],()),())))) (Z (H 0 m))) (Z
 (H 0 m))) n (W,l.2.1,(6,0,k.1.1.2,[],()),())) λm=>bK m (λ_ p=>ah (F203 n (p.2.1,[41],())) λq=>Z ((aB.mk
 p.2.2.1.1 p.2.2.1.2.1 p.2.2.1.2.2.1 p.2.2.1.2.2.2.1,()),q.2)) (λo _=>Z ((aK,()),o.1,())) λ_ _=>Y) (Z ((aB.mk 6 0
 k.1.1.2 [],()),l.2))))))))
def D337(n:Nat)(f337:Fn mh K86 J)(a:bC prog 337 (Wx f337)):bC prog 337 (Wx (B337 n f337)):=cS [FZ n,KN n,FY n,aeS n,⟨337,Wx f337,a⟩] [(337,1,⟨[(4,dg),(0,ym),(0,agd)],[.slot 0,.slot 3],[],0⟩)] n 10 337
def R337(n k:Nat):(Fn mh K86 J):=Nat.rec (motive:=λ_=>(Fn mh K86 J)) (λ_=>Y) (λ_ r=>B337 n r) k
def F337(n:Nat):Fn mh K86 J:=(R337 n n)
def adT(n:Nat):∀k,bC prog 337 (Wx (R337 n k))
 |0=>cm (enters 337 (by kernel_rfl))
 |k+1=>have a:=adT n k
  D337 n _ a
def anw(n:Nat):OC:=⟨337,Wx (F337 n),(adT n n)⟩
def F336:Nat->L UInt8×U->O Y59:=
 λn b=>aj (gC b.1 [99,101,108,108]) (Z ((16,1,()),())) (aj (gC b.1 [103,101,116]) (Z ((17,1,()),())) (aj (gC b.1 [112,
 117,116]) (Z ((18,2,()),())) (aj (gC b.1 [115,112,97,119,110]) (Z ((19,1,()),())) (aj (gC b.1 [106,111,105,110]) (Z ((20,
 1,()),())) (aj (gC b.1 [99,104,97,110]) (Z ((21,0,()),())) (aj (gC b.1 [115,101,110,100]) (Z ((22,2,()),())) (aj (gC b.1
 [116,97,107,101]) (Z ((23,1,()),())) (aj (gC b.1 [111,117,116]) (Z ((24,(-1),()),())) (aj (gC b.1 [105,110,112,117,116])
 (Z ((25,0,()),())) (aj (gC b.1 [114,101,115,101,116]) (Z ((26,1,()),())) (aj (gC b.1 [112,97,117,115,101]) (Z ((28,0,
 ()),())) (Z ((0,0,()),())))))))))))))
def ah9(n:Nat):OC:=⟨336,⟨P7,K16,J,F336 n⟩,cS [] [] n 10 336⟩
def F332:akW:=
 λn b=>aj b.1.3 (Z ((J,()),())) (aj (br (aq b.1.1) b.1.2) (Z ((J,()),())) (aO (aI b.1.2 b.1.1) (aj (aa (bn b.1.1
 (az b.1.2) dH).1 3) (ah (F336 n ((bn b.1.1 (az b.1.2) dH).2,())) λc=>aj (au (aa c.1.1 0)) (Z ((W,()),()))
 (aj (gC (bn b.1.1 (az b.1.2) dH).2 [116,114,117,101]) (Z ((W,()),())) (aj (gC (bn b.1.1 (az b.1.2) dH).2 [102,
 97,108,115,101]) (Z ((W,()),())) (Z ((gC (bn b.1.1 (az b.1.2) dH).2 [109,97,116,99,104],()),()))))) (aj (au
 (aa (bn b.1.1 (az b.1.2) dH).1 5)) (Z ((W,()),())) (Z ((gC (bn b.1.1 (az b.1.2) dH).2 [40],()),()))))))
def anx(n:Nat):OC:=⟨332,⟨P87,K4,J,F332 n⟩,cS [ah9 n] [] n 10 332⟩
abbrev zg(F:Fn mh K85 J):lI sg:=⟨mh,K85,J,F⟩
def oX(h:Ma):Term:=
 Term.mk h.1.1.1 h.1.1.2 h.1.1.3 h.1.1.4 h.1.1.5
def Z4(o:Y16):Term:=
 Term.mk o.1.1.1 o.1.1.2 o.1.1.3 o.1.1.4 o.1.1.5
def B274:Nat->LZ->(lM×Int×U->O Ma)->LZ->lM×U->O Ma:=
 λn f274 f305 f306 e=>ah (F205 n (e.1,[102,117,110],())) λg=>aj g.1.1 (ah (f305 (g.2.1,5,())) λh=>Z ((oX h,()),h.2))
 (ah (F205 n (g.2.1,[115,104,105,102,116],())) λh=>aj h.1.1 (ah (f305 (h.2.1,27,())) λi=>Z ((oX i,()),i.2)) (ah (F205 n
 (h.2.1,[108,101,116],())) λi=>aj i.1.1 (ah (F204 n (i.2.1,1,())) λj=>ah (F203 n (j.2.1,[61],())) λk=>ah (f274 k.2) λl=>
 ah (F203 n (l.2.1,[105,110],())) λm=>ah (f274 m.2) λo=>Z ((Term.mk 7 0 j.1.1.2 [oX l,oX o] [],()),o.2)) (ah (F205 n
 (i.2.1,[105,102],())) λj=>aj j.1.1 (ah (f274 j.2) λk=>ah (F203 n (k.2.1,[116,104,101,110],())) λl=>ah (f274 l.2) λm=>
 ah (F203 n (m.2.1,[101,108,115,101],())) λo=>ah (f274 o.2) λp=>Z ((Term.mk 8 0 [] [oX k,oX m,oX p] [],()),p.2))
 (ah (f306 j.2) λk=>ah (F205 n (k.2.1,[60],())) λl=>aj l.1.1 (ah (f306 l.2) λm=>ah (F307 n (12,oX k,oX m,())) λo=>
 Z ((Z4 o,()),m.2)) (ah (F205 n (l.2.1,[61,61],())) λm=>aj m.1.1 (ah (f306 m.2) λo=>ah (F307 n (13,oX k,oX o,()))
 λp=>Z ((Z4 p,()),o.2)) (Z ((oX k,()),m.2)))))))
abbrev aaP(F:Fn OI K85 J):lI sg:=⟨OI,K85,J,F⟩
def B305:Nat->LZ->lM×Int×U->O Ma:=
 λn f274 c=>ah (F204 n (c.1,1,())) λd=>ah (F203 n (d.2.1,[61,62],())) λe=>ah (f274 e.2) λg=>Z ((Term.mk c.2.1 0 d.1.1.2
 [Term.mk g.1.1.1 g.1.1.2 g.1.1.3 g.1.1.4 g.1.1.5] [],()),g.2)
abbrev aaO(F:Fn mh K85 J):lI sg:=⟨mh,K85,J,F⟩
def Z3(e:lM×ID×U):Term:=
 Term.mk e.2.1.1 e.2.1.2.1 e.2.1.2.2.1 e.2.1.2.2.2.1 e.2.1.2.2.2.2.1
def agP(l:Y16):ID×U:=
 ((l.1.1.1,l.1.1.2,l.1.1.3,l.1.1.4,l.1.1.5,()),())
def Z2(n:Nat)(f325:LZ)(e:lM×ID×U):O (LO (lM×ID×U) U (lM×ID×U) Any):=
 ah (F272 n (bM.mk e.1.1 e.1.2.1 e.1.2.2.1,[43],())) λh=>ah (aj h.1.1 (Z (N (9,W,()))) (Z (N (10,J,
 ())))) λ(i:Y54)=>ck i (λj=>ah (f325 ((e.1.1,aG .i64 e.1.2.1 1,e.1.2.2),())) λk=>ah (F307 n (j.1,Z3 e,Term.mk k.1.1.1
 k.1.1.2 k.1.1.3 k.1.1.4 k.1.1.5,())) λl=>Z (N (k.2.1,agP l))) (λ_ _=>Y) (λ_ _=>Z (X e ())) λ_ _=>Y
def agO(d:Ma):ID×U:=
 ((d.1.1.1,d.1.1.2,d.1.1.3,d.1.1.4,d.1.1.5,()),())
def B306:Y19:=
 λn f325 c=>ah (f325 c) λd=>ah (aQ (lM×ID×U) (U) (lM×ID×U) (λe=>aj (au e.1.2.2.1) (ah (F272 n
 (bM.mk e.1.1 e.1.2.1 e.1.2.2.1,[43],())) λg=>aj g.1.1 (Z2 n f325 e) (ah (F272 n (bM.mk e.1.1 e.1.2.1
 e.1.2.2.1,[45],())) λh=>aj h.1.1 (Z2 n f325 e) (Z (H 0 e)))) (Z (H 0 e))) n (d.2.1,agO d)) λe=>bK e (λ_ h=>
 Z ((Z3 h,()),h.1,())) (λg _=>Z ((r6,()),g.1,())) λ_ _=>Y
abbrev aaM(F:Fn mh K85 J):lI sg:=⟨mh,K85,J,F⟩
def Z1(e:lM×ID×U):Term:=
 Term.mk e.2.1.1 e.2.1.2.1 e.2.1.2.2.1 e.2.1.2.2.2.1 e.2.1.2.2.2.2.1
def agN(i:Y16):ID×U:=
 ((i.1.1.1,i.1.1.2,i.1.1.3,i.1.1.4,i.1.1.5,()),())
def agM(d:Ma):ID×U:=
 ((d.1.1.1,d.1.1.2,d.1.1.3,d.1.1.4,d.1.1.5,()),())
def B325:Y19:=
 λn f330 c=>ah (f330 c) λd=>ah (aQ (lM×ID×U) (U) (lM×ID×U) (λe=>ah (F205 n (e.1,[42],())) λg=>aj
 g.1.1 (ah (f330 g.2) λh=>ah (F307 n (11,Z1 e,Term.mk h.1.1.1 h.1.1.2 h.1.1.3 h.1.1.4 h.1.1.5,())) λi=>Z (N (h.2.1,agN
 i))) (Z (H 0 (g.2.1,e.2)))) n (d.2.1,agM d)) λe=>bK e (λ_ h=>Z ((Z1 h,()),h.1,())) (λg _=>Z ((r6,()),
 g.1,())) λ_ _=>Y
abbrev aaL(F:Fn mh K85 J):lI sg:=⟨mh,K85,J,F⟩
def Z0(e:lM×ID×U):Term:=
 Term.mk e.2.1.1 e.2.1.2.1 e.2.1.2.2.1 e.2.1.2.2.2.1 e.2.1.2.2.2.2.1
def agL(i:Y16):ID×U:=
 ((i.1.1.1,i.1.1.2,i.1.1.3,i.1.1.4,i.1.1.5,()),())
def agK(d:Ma):ID×U:=
 ((d.1.1.1,d.1.1.2,d.1.1.3,d.1.1.4,d.1.1.5,()),())
def B330:Y19:=
 λn f331 c=>ah (f331 c) λd=>ah (aQ (lM×ID×U) (U) (lM×ID×U) (λe=>ah (F332 n (bM.mk e.1.1
 e.1.2.1 e.1.2.2.1,())) λg=>aj g.1.1 (ah (f331 (e.1,())) λh=>ah (F307 n (6,Z0 e,Term.mk h.1.1.1 h.1.1.2 h.1.1.3 h.1.1.4 h.1.1.5,
 ())) λi=>Z (N (h.2.1,agL i))) (Z (H 0 e))) n (d.2.1,agK d)) λe=>bK e (λ_ h=>Z ((Z0 h,()),h.1,()))
 (λg _=>Z ((r6,()),g.1,())) λ_ _=>Y
abbrev aaK(F:Fn mh K85 J):lI sg:=⟨mh,K85,J,F⟩
def Ry(g:lM×U):bM:=
 bM.mk g.1.1 g.1.2.1 g.1.2.2.1
def ZZ(n:Nat)(f274:LZ)(f333:Y56)(f334:LZ)(f335:LZ):Ma->O Ma:=
 λo=>Z ((Term.mk o.1.1.1 o.1.1.2 o.1.1.3 o.1.1.4 o.1.1.5,()),o.2)
def B331:Nat->LZ->Y56->LZ->LZ->lM×U->O Ma:=
 λn f274 f333 f334 f335 g=>ah (F271 n (Ry g,4,())) λh=>aj h.1.1 (ah (F204 n (g.1,4,())) λi=>Z ((Term.mk 1 i.1.1.3 [] [] [],
 ()),i.2)) (ah (F271 n (Ry g,1,())) λi=>aj i.1.1 (ah (F204 n (g.1,1,())) λj=>Z ((Term.mk 4 0 j.1.1.2 [] [],()),j.2)) (ah
 (F271 n (Ry g,2,())) λj=>aj j.1.1 (ah (F204 n (g.1,2,())) λk=>ah (F272 n (bM.mk k.2.1.1 k.2.1.2.1 k.2.1.2.2.1,
 [40],())) λl=>ah (aj l.1.1 (ah (f333 (k.2.1,(-1),())) λm=>Z (N (W,m.2.1,(14,0,k.1.1.2,m.1.1,[],()),()))) (Z
 (N (J,k.2.1,(14,0,k.1.1.2,[],[],()),())))) λ(m:LO Y21 U (lM×ID×U) Any)=>ck m (λo=>Z ((Term.mk o.2.2.1.1
 o.2.2.1.2.1 o.2.2.1.2.2.1 o.2.2.1.2.2.2.1 [],()),o.2.1,())) (λ_ _=>Y) (λo _=>Z ((r6,()),o.1,())) λ_ _=>Y) (ah (F205 n
 (g.1,[116,114,117,101],())) λk=>aj k.1.1 (Z ((Term.mk 2 1 [] [] [],()),k.2)) (ah (F205 n (k.2.1,[102,97,108,115,101],())) λl
 =>aj l.1.1 (Z ((Term.mk 2 0 [] [] [],()),l.2)) (ah (F205 n (l.2.1,[109,97,116,99,104],())) λm=>aj m.1.1 (ah (f334 m.2) (ZZ n
 f274 f333 f334 f335)) (ah (F205 n (m.2.1,[40],())) λo=>aj o.1.1 (ah (F205 n (o.2.1,[41],())) λp=>aj p.1.1 (Z ((Term.mk 3 0 [] []
 [],()),p.2)) (ah (f274 p.2) λq=>ah (F203 n (q.2.1,[41],())) λr=>Z ((Term.mk q.1.1.1 q.1.1.2 q.1.1.3 q.1.1.4 q.1.1.5,()),r.2)))
 (ah (F271 n (bM.mk o.2.1.1 o.2.1.2.1 o.2.1.2.2.1,3,())) λp=>aj p.1.1 (ah (f335 o.2) (ZZ n f274 f333 f334 f335)) (Z
 ((r6,()),(o.2.1.1,o.2.1.2.1,W,()),())))))))))
abbrev Ua(F:Fn OI K88 J):lI sg:=⟨OI,K88,J,F⟩
def LN(n:Nat)(f274:LZ)(c:lM×Int×U)(g:agq):O Ze:=
 aj (aE 0 c.2.1) (ah (F203 n (g.2.1,[44],())) λh=>Z (N (W,h.2))) (Z (N (J,g.2)))
def oW(e:Ma):L Term:=
 [Term.mk e.1.1.1 e.1.1.2 e.1.1.3 e.1.1.4 e.1.1.5]
def Rw(n:Nat)(f274:LZ)(k:Zd):Ze->O (LO Zd (L Term×U) (lM×U) Any):=
 λm=>ck m (λo=>ah (f274 o.2) λp=>aO (de k.1 (oW p)) (Z (N (cZ k.1 (oW p),p.2)))) (λ_ _=>Y) (λo p=>
 Z (X o p)) λ_ _=>Y
def agJ(n:Nat)(f274:LZ)(c:lM×Int×U)(k:Zd):O Ze:=
 aj (aE 0 c.2.1) (ah (F203 n (k.2.1,[44],())) λl=>Z (N (W,l.2))) (Z (N (J,k.2)))
def agI(n:Nat)(m:Zd):acR:=
 F203 n (m.2.1,[41],())
def Ru(n:Nat)(f274:LZ)(c:lM×Int×U)(e:Ma):Ze->Y55:=
 λh=>ck h (λi=>ah (f274 i.2) λj=>aO (de (oW e) (oW j)) (ah (aQ (Zd) (L Term×U) (lM×U) (λk=>
 aj (aE c.2.1 0) (ah (F205 n (k.2.1,[44],())) λl=>aj l.1.1 (ah (LN n f274 c l) (Rw n f274 k)) (aj (aE (aq k.1) c.2.1) (aj
 (au l.2.1.2.2.1) (ah (LN n f274 c l) (Rw n f274 k)) (Z (H 0 (k.1,l.2)))) (Z (H 0 (k.1,l.2))))) (aj (aE (aq k.1)
 c.2.1) (aj (au k.2.1.2.2.1) (ah (agJ n f274 c k) (Rw n f274 k)) (Z (H 0 k))) (Z (H 0 k)))) n (cZ (oW e) (oW j),
 j.2)) λk=>bK k (λ_ m=>ah (agI n m) λo=>Z ((m.1,()),o.2)) (λl m=>Z (m,l)) λ_ _=>Y)) (λ_ _=>Y) (λi
 j=>Z (j,i)) λ_ _=>Y
def ZY(n:Nat)(g:agq):acR:=
 F203 n (g.2.1,[41],())
def agH(n:Nat)(f274:LZ)(c:lM×Int×U)(e:Ma):O Ze:=
 aj (aE 0 c.2.1) (ah (F203 n (e.2.1,[44],())) λg=>Z (N (W,g.2))) (Z (N (J,e.2)))
def ZX(n:Nat)(e:Ma):acR:=
 F203 n (e.2.1,[41],())
def B333:Nat->LZ->lM×Int×U->Y55:=
 λn f274 c=>ah (F203 n (c.1,[40],())) λd=>ah (f274 d.2) λe=>aj (aE c.2.1 0) (ah (F205 n (e.2.1,[44],())) λg=>aj g.1.1
 (ah (LN n f274 c g) (Ru n f274 c e)) (aj (aE (aq (oW e)) c.2.1) (aj (au g.2.1.2.2.1) (ah (LN n f274 c g) (Ru n f274 c
 e)) (ah (ZY n g) λh=>Z ((oW e,()),h.2))) (ah (ZY n g) λh=>Z ((oW e,()),h.2)))) (aj (aE (aq (oW e))
 c.2.1) (aj (au e.2.1.2.2.1) (ah (agH n f274 c e) (Ru n f274 c e)) (ah (ZX n e) λg=>Z ((oW e,()),g.2))) (ah (ZX n
 e) λg=>Z ((oW e,()),g.2)))
abbrev aaJ(F:Fn mh K85 J):lI sg:=⟨mh,K85,J,F⟩
def zX(d:Ma):L Term:=
 [Term.mk d.1.1.1 d.1.1.2 d.1.1.3 d.1.1.4 d.1.1.5]
def Rs(l:Y20):L aB:=
 [aB.mk l.1.1.1 l.1.1.2 l.1.1.3 l.1.1.4]
def B334:Y19:=
 λn f274 c=>ah (f274 c) λd=>ah (F203 n (d.2.1,[123],())) λe=>aj (au e.2.1.2.2.1) (ah (F337 n e.2) λg=>ah (F203 n (g.2.1,
 [45,62],())) λh=>ah (f274 h.2) λi=>aO (de (zX d) (zX i)) (ah (F205 n (i.2.1,[124],())) λj=>ah (aQ (Y21) (U) (lM
 ×ID×U) (λk=>aj k.1 (aj (au k.2.1.2.2.1) (ah (F337 n (k.2.1,())) λl=>ah (F203 n (l.2.1,[45,62],())) λm=>ah
 (f274 m.2) λo=>aO (de k.2.2.1.2.2.2.2.1 (Rs l)) (aO (de k.2.2.1.2.2.2.1 (zX o)) (ah (F205 n (o.2.1,[124],())) λp=>Z
 (N (p.1.1,p.2.1,(k.2.2.1.1,k.2.2.1.2.1,k.2.2.1.2.2.1,cZ k.2.2.1.2.2.2.1 (zX o),cZ k.2.2.1.2.2.2.2.1 (Rs l),()),()))))) (Z
 (H 0 k))) (Z (H 0 k))) n (j.1.1,j.2.1,(15,0,[],cZ (zX d) (zX i),Rs g,()),())) λk=>bK k (λ_ m=>ah (F203
 n (m.2.1,[125],())) λo=>Z ((Term.mk m.2.2.1.1 m.2.2.1.2.1 m.2.2.1.2.2.1 m.2.2.1.2.2.2.1 m.2.2.1.2.2.2.2.1,()),o.2)) (λl _=>Z
 ((r6,()),l.1,())) λ_ _=>Y)) (ah (F203 n (e.2.1,[125],())) λg=>Z ((Term.mk 15 0 [] (zX d) [],()),g.2))
abbrev aaI(F:Fn mh K85 J):lI sg:=⟨mh,K85,J,F⟩
def Rr(d:lM×U):lM:=
 (d.1.1,aG .i64 d.1.2.1 1,d.1.2.2)
def B335:Nat->LZ->Y56->lM×U->O Ma:=
 λn f274 f333 d=>aO (aI d.1.2.1 d.1.1) (ah (F336 n ((bn d.1.1 (az d.1.2.1) dH).2,())) λe=>aj (aa e.1.1 0) (Z ((r6,
 ()),(d.1.1,d.1.2.1,W,()),())) (aj (aE 0 e.1.2.1) (ah (f333 (Rr d,e.1.2)) λg=>Z ((Term.mk e.1.1 0 [] g.1.1 [],()),g.2)) (aj
 (aE e.1.2.1 0) (ah (F203 n (Rr d,[40],())) λg=>ah (F204 n (g.2.1,4,())) λh=>ah (F203 n (h.2.1,[44],())) λi=>ah (f274
 i.2) λj=>ah (F203 n (j.2.1,[41],())) λk=>Z ((Term.mk e.1.1 h.1.1.3 [] [Term.mk j.1.1.1 j.1.1.2 j.1.1.3 j.1.1.4 j.1.1.5] [],()),k.2))
 (Z ((Term.mk e.1.1 0 [] [] [],()),Rr d,())))))
def D274(n:Nat)(f274:Fn mh K85 J)(f305:Fn OI K85 J)(f306:Fn mh K85 J)(a:bC prog 274 (zg f274))(b:bC prog 305 (aaP f305))(c:bC prog 306 (aaO f306)):bC prog 274 (zg (B274 n f274 f305 f306)):=cS [FZ n,KN n,FY n,⟨274,zg f274,a⟩,⟨305,aaP f305,b⟩,⟨306,aaO f306,c⟩,abm n] [] n 10 274
def D305(n:Nat)(f274:Fn mh K85 J)(a:bC prog 274 (zg f274)):bC prog 305 (aaP (B305 n f274)):=cS [FZ n,KN n,⟨274,zg f274,a⟩] [] n 10 305
def D306(n:Nat)(f325:Fn mh K85 J)(a:bC prog 325 (aaM f325)):bC prog 306 (aaO (B306 n f325)):=cS [aeR n,abm n,⟨325,aaM f325,a⟩] [(306,0,⟨[(0,ym),(0,b7z)],[.slot 0,.slot 3],[],0⟩),(306,1000005,⟨[(4,dy),(22,dg)],[],[],0⟩)] n 10 306
def D325(n:Nat)(f330:Fn mh K85 J)(a:bC prog 330 (aaL f330)):bC prog 325 (aaM (B325 n f330)):=cS [FY n,abm n,⟨330,aaL f330,a⟩] [(325,0,⟨[(0,ym),(0,b7z)],[.slot 0,.slot 3],[],0⟩)] n 10 325
def D330(n:Nat)(f331:Fn mh K85 J)(a:bC prog 331 (aaK f331)):bC prog 330 (aaL (B330 n f331)):=cS [abm n,⟨331,aaK f331,a⟩,anx n] [(330,0,⟨[(0,ym),(0,b7z)],[.slot 0,.slot 3],[],0⟩)] n 10 330
def D331(n:Nat)(f274:Fn mh K85 J)(f333:Fn OI K88 J)(f334:Fn mh K85 J)(f335:Fn mh K85 J)(a:bC prog 274 (zg f274))(b:bC prog 333 (Ua f333))(c:bC prog 334 (aaJ f334))(d:bC prog 335 (aaI f335)):bC prog 331 (aaK (B331 n f274 f333 f334 f335)):=cS [FZ n,KN n,FY n,aeS n,aeR n,⟨274,zg f274,a⟩,⟨333,Ua f333,b⟩,⟨334,aaJ f334,c⟩,⟨335,aaI f335,d⟩] [(331,1000008,⟨[(27,dg),(0,ym),(0,.box (.cells [mg,mg,.dat (.str),.dat (.sl (.st 21)),.nil (.st 1)]))],[.slot 0,.slot 3],[],0⟩)] n 10 331
def D333(n:Nat)(f274:Fn mh K85 J)(a:bC prog 274 (zg f274)):bC prog 333 (Ua (B333 n f274)):=cS [FZ n,FY n,⟨274,zg f274,a⟩] [(333,0,⟨[(6,.one (.own (.st 21))),(0,ym)],[.slot 0],[],1⟩),(333,1000006,⟨[(34,dg),(0,ym)],[.slot 0],[],0⟩)] n 10 333
def D334(n:Nat)(f274:Fn mh K85 J)(a:bC prog 274 (zg f274)):bC prog 334 (aaJ (B334 n f274)):=cS [FZ n,FY n,⟨274,zg f274,a⟩,anw n] [(334,0,⟨[(5,dg),(0,ym),(0,.box (.cells [mg,mg,.dat (.str),.own (.st 21),.own (.st 1)]))],[.slot 0,.slot 4],[],1⟩)] n 10 334
def D335(n:Nat)(f274:Fn mh K85 J)(f333:Fn OI K88 J)(a:bC prog 274 (zg f274))(b:bC prog 333 (Ua f333)):bC prog 335 (aaI (B335 n f274 f333)):=cS [FZ n,KN n,⟨274,zg f274,a⟩,⟨333,Ua f333,b⟩,ah9 n] [] n 10 335
def R274(n k:Nat):(Fn mh K85 J)×(Fn OI K85 J)×(Fn mh K85 J)×(Fn mh K85 J)×(Fn mh K85 J)×(Fn mh K85 J)×(Fn OI K88 J)×(Fn mh K85 J)×(Fn mh K85 J):=Nat.rec (motive:=λ_=>(Fn mh K85 J)×(Fn OI K85 J)×(Fn mh K85 J)×(Fn mh K85 J)×(Fn mh K85 J)×(Fn mh K85 J)×(Fn OI K88 J)×(Fn mh K85 J)×(Fn mh K85 J)) ((λ_=>Y,λ_=>Y,λ_=>Y,λ_=>Y,λ_=>Y,λ_=>Y,λ_=>Y,λ_=>Y,λ_=>Y)) (λ_ r=>(B274 n r.1 r.2.1 r.2.2.1,B305 n r.1,B306 n r.2.2.2.1,B325 n r.2.2.2.2.1,B330 n r.2.2.2.2.2.1,B331 n r.1 r.2.2.2.2.2.2.1 r.2.2.2.2.2.2.2.1 r.2.2.2.2.2.2.2.2,B333 n r.1,B334 n r.1,B335 n r.1 r.2.2.2.2.2.2.1)) k
def F274(n:Nat):Fn mh K85 J:=(R274 n n).1
def ad2(n:Nat):∀k,bC prog 274 (zg (R274 n k).1)∧bC prog 305 (aaP (R274 n k).2.1)∧bC prog 306 (aaO (R274 n k).2.2.1)∧bC prog 325 (aaM (R274 n k).2.2.2.1)∧bC prog 330 (aaL (R274 n k).2.2.2.2.1)∧bC prog 331 (aaK (R274 n k).2.2.2.2.2.1)∧bC prog 333 (Ua (R274 n k).2.2.2.2.2.2.1)∧bC prog 334 (aaJ (R274 n k).2.2.2.2.2.2.2.1)∧bC prog 335 (aaI (R274 n k).2.2.2.2.2.2.2.2)
 |0=>⟨cm (enters 274 (by kernel_rfl)),cm (enters 305 (by kernel_rfl)),cm (enters 306 (by kernel_rfl)),cm (enters 325 (by kernel_rfl)),cm (enters 330 (by kernel_rfl)),cm (enters 331 (by kernel_rfl)),cm (enters 333 (by kernel_rfl)),cm (enters 334 (by kernel_rfl)),cm (enters 335 (by kernel_rfl))⟩
 |k+1=>have a:=ad2 n k
  ⟨D274 n _ _ _ a.1 a.2.1 a.2.2.1,D305 n _ a.1,D306 n _ a.2.2.2.1,D325 n _ a.2.2.2.2.1,D330 n _ a.2.2.2.2.2.1,D331 n _ _ _ _ a.1 a.2.2.2.2.2.2.1 a.2.2.2.2.2.2.2.1 a.2.2.2.2.2.2.2.2,D333 n _ a.1,D334 n _ a.1,D335 n _ _ a.1 a.2.2.2.2.2.2.1⟩
def anS(n:Nat):OC:=⟨274,zg (F274 n),(ad2 n n).1⟩
def F207:Nat->lM×U->O Y82:=
 λn b=>ah (F204 n (b.1,1,())) λc=>ah (F203 n (c.2.1,[40],())) λd=>ah (F204 n (d.2.1,1,())) λe=>ah (F203 n (e.2.1,[58],
 ())) λg=>ah (F273 n g.2) λh=>ah (F203 n (h.2.1,[41],())) λi=>ah (F203 n (i.2.1,[58],())) λj=>ah (F273 n j.2) λk=>ah
 (F203 n (k.2.1,[61],())) λl=>ah (F274 n l.2) λm=>ah (F203 n (m.2.1,[59],())) λo=>Z ((cV.mk c.1.1.2 e.1.1.2 (cF.mk
 h.1.1.1 h.1.1.2 h.1.1.3 h.1.1.4) (cF.mk k.1.1.1 k.1.1.2 k.1.1.3 k.1.1.4) (Term.mk m.1.1.1 m.1.1.2 m.1.1.3 m.1.1.4 m.1.1.5),()),o.2)
def an7(n:Nat):OC:=⟨207,⟨mh,K89,J,F207 n⟩,cS [FZ n,KN n,aii n,anS n] [] n 10 207⟩
def ZP(l:Y82):L cV:=
 [cV.mk l.1.1.1 l.1.1.2 (cF.mk l.1.1.3.1 l.1.1.3.2 l.1.1.3.3 l.1.1.3.4) (cF.mk l.1.1.4.1 l.1.1.4.2 l.1.1.4.3 l.1.1.4.4) (Term.mk
 l.1.1.5.1 l.1.1.5.2 l.1.1.5.3 l.1.1.5.4 l.1.1.5.5)]
def F134:Nat->lM×U->O ((ec×U)×lM×U):=
 λn b=>ah (F203 n (b.1,[109,111,100,117,108,101],())) λc=>ah (F204 n (c.2.1,1,())) λd=>ah (F203 n (d.2.1,[123],())) λe
 =>ah (aQ (Y83) (U) (Y83) (λg=>ah (F205 n (g.1,[116,121,112,101],())) λh=>aj h.1.1 (ah (F206 n h.2) λi=>aO (de
 g.2.1.2.1 [i.1.1]) (Z (N (i.2.1,(g.2.1.1,cZ g.2.1.2.1 [i.1.1],g.2.1.2.2),())))) (Z (H 0 (h.2.1,g.2)))) n (e.2.1,(d.1.1.2,[],
 [],()),())) λg=>bK g (λ_ i=>ah (aQ (Y83) (U) (Y83) (λj=>ah (F205 n (j.1,[102,117,110],())) λk=>aj k.1.1
 (ah (F207 n k.2) λl=>aO (de j.2.1.2.2.1 (ZP l)) (Z (N (l.2.1,(j.2.1.1,j.2.1.2.1,cZ j.2.1.2.2.1 (ZP l),()),())))) (Z
 (H 0 (k.2.1,j.2)))) n i) λj=>bK j (λ_ l=>ah (F203 n (l.1,[125],())) λm=>Z ((ec.mk l.2.1.1 l.2.1.2.1 l.2.1.2.2.1,
 ()),m.2)) (λk _=>Z ((kI,()),k.1,())) λ_ _=>Y) (λh _=>Z ((kI,()),h.1,())) λ_ _=>Y
def aoT(n:Nat):OC:=⟨134,⟨mh,K90,J,F134 n⟩,cS [FZ n,KN n,FY n,an8 n,an7 n] [(134,0,⟨[(0,ym),(0,akp)],[.slot 0,.slot 3],[],0⟩),(134,2,⟨[(0,ym),(0,akp)],[.slot 0,.slot 3],[],0⟩)] n 10 134⟩
def F135:akW:=
 λn b=>aj (au b.1.3) (Z ((aa b.1.2 (aq b.1.1),()),())) (Z ((J,()),()))
def aoS(n:Nat):OC:=⟨135,⟨P87,K4,J,F135 n⟩,cS [] [] n 10 135⟩
def F275:Y62:=
 λn b=>ah (aQ (Int×U) (Bool×U) (U) (λc=>aj (aE c.1 (aq b.1)) (aO (aI c.1 b.1) (aj (aE (mO b.1 c.1) 97)
 (Z (X () (J,()))) (aO (aI c.1 b.1) (aj (aE 122 (mO b.1 c.1)) (Z (X () (J,()))) (Z (N (aG .i64 c.1 1,
 ()))))))) (Z (H 0 c))) n (0,())) λc=>bK c (λ_ _=>Z ((W,()),())) (λ_ e=>Z (e,())) λ_ _=>Y
def aih(n:Nat):OC:=⟨275,⟨P7,K4,J,F275 n⟩,cS [] [(275,0,⟨[(3,dy)],[],[],0⟩)] n 10 275⟩
def F208:Y62:=
 λn b=>aj (br 1 (aq b.1)) (aj (br (aq b.1) 8) (ah (F275 n b) λc=>aj c.1.1 (ah (F276 n b) λd=>Z ((au d.1.1,()),
 ())) (Z ((J,()),()))) (Z ((J,()),()))) (Z ((J,()),()))
def aeW(n:Nat):OC:=⟨208,⟨P7,K4,J,F208 n⟩,cS [aih n,aif n] [] n 10 208⟩
def F209:Y41:=
 λn b=>aj (br b.2.1 b.1) (Z ((br b.1 b.2.2.1,()),())) (Z ((J,()),()))
def XB(n:Nat):OC:=⟨209,⟨P6,K4,J,F209 n⟩,cS [] [] n 10 209⟩
abbrev WG(F:Fn P91 K2 J):lI sg:=⟨P91,K2,J,F⟩
def B277:Nat->(akZ->Hq)->akZ->Hq:=
 λn f277 c=>aj (aE c.2.1 1) (Z (((-1),()),())) (ah (aQ (Int×Int×U) (Int×U) (U) (λd=>aj (aE d.2.1 (aq
 c.1.4)) (aj (br 0 d.1) (aO (aI d.2.1 c.1.4) (ah (f277 (bn c.1.4 (az d.2.1) nO,d.1,())) λe=>Z (N (e.1.1,aG .i64
 d.2.1 1,())))) (Z (H 0 d))) (Z (H 0 d))) n (bf .i64 c.2.1 1,0,())) λd=>bK d (λ_ g=>Z ((g.1,()),())) (λ_ g
 =>Z (g,())) λ_ _=>Y)
def D277(n:Nat)(f277:Fn P91 K2 J)(a:bC prog 277 (WG f277)):bC prog 277 (WG (B277 n f277)):=cS [⟨277,WG f277,a⟩] [(277,0,⟨[(1,dy),(5,dy)],[],[],0⟩)] n 10 277
def R277(n k:Nat):(Fn P91 K2 J):=Nat.rec (motive:=λ_=>(Fn P91 K2 J)) (λ_=>Y) (λ_ r=>B277 n r) k
def F277(n:Nat):Fn P91 K2 J:=(R277 n n)
def ad1(n:Nat):∀k,bC prog 277 (WG (R277 n k))
 |0=>cm (enters 277 (by kernel_rfl))
 |k+1=>have a:=ad1 n k
  D277 n _ a
def anR(n:Nat):OC:=⟨277,WG (F277 n),(ad1 n n)⟩
def F240:Y62:=
 λn b=>aj (br 1 (aq b.1)) (aj (br (aq b.1) 8) (aO (aI 0 b.1) (aj (br 65 (mO b.1 0)) (aO (aI 0 b.1) (aj (br (mO b.1 0)
 90) (aO (eK 1 (aq b.1) (aq b.1)) (ah (F275 n (cG b.1 1 (aq b.1),())) λc=>Z c)) (Z ((J,()),())))) (Z ((J,()),
 ())))) (Z ((J,()),()))) (Z ((J,()),()))
def Xz(n:Nat):OC:=⟨240,⟨P7,K4,J,F240 n⟩,cS [aih n] [] n 10 240⟩
abbrev WE(F:Fn P92 K4 J):lI sg:=⟨P92,K4,J,F⟩
def B278:Nat->(ak4->O Y4)->ak4->O Y4:=
 λn f278 c=>ah (aj (aa c.1.1 1) (Z (N (W,()))) (ah (aj (aa c.1.1 2) (Z (N (W,()))) (Z (N (aa c.1.1
 3,())))) λ(d:nT)=>ck d (λe=>Z (N e)) (λ_ _=>Y) (λ_ g=>Z (X () g)) λ_ _=>Y)) λ(d:nT)=>
 ck d (λe=>ah (aj e.1 (aj (aa (aq c.1.4) 0) (aj (aa c.1.2 0) (Z (N (gC c.1.3 [],W,()))) (Z (N (J,W,
 ())))) (Z (N (J,W,())))) (ah (aj (aa c.1.1 4) (aj (aa (aq c.1.4) 2) (aj (aa c.1.2 0) (Z (N (gC c.1.3 [],
 W,()))) (Z (N (J,W,())))) (Z (N (J,W,())))) (ah (aj (aa c.1.1 5) (Z (N (W,()))) (ah (aj
 (aa c.1.1 6) (Z (N (W,()))) (Z (N (aa c.1.1 7,())))) λ(g:nT)=>ck g (λh=>Z (N h)) (λ_ _=>
 Y) (λ_ i=>Z (X () i)) λ_ _=>Y)) λ(g:nT)=>ck g (λh=>ah (aj h.1 (aj (aa (aq c.1.4) 1) (aj (aa c.1.2
 0) (Z (N (gC c.1.3 [],W,()))) (Z (N (J,W,())))) (Z (N (J,W,())))) (ah (aj (aa c.1.1 8) (aj
 (aa (aq c.1.4) 0) (aj (aa c.1.2 0) (ah (F240 n (c.1.3,())) λi=>Z (N (i.1.1,W,()))) (Z (N (J,W,()))))
 (Z (N (J,W,())))) (ah (aj (aa c.1.1 9) (aj c.2.1 (aj (aa (aq c.1.4) 0) (aj (gC c.1.3 []) (ah (F209 n (c.1.2,0,99,
 ())) λi=>Z (N (i.1.1,W,()))) (Z (N (J,W,())))) (Z (N (J,W,())))) (Z (N (J,W,
 ())))) (Z (N (J,J,())))) λ(i:yo)=>ck i (λj=>Z (N (j.1,J,()))) (λ_ _=>Y) (λ_ k=>Z
 (X () k)) λ_ _=>Y)) λ(i:yo)=>ck i (λj=>Z (N (j.1,J,()))) (λ_ _=>Y) (λ_ k=>Z (X () k))
 λ_ _=>Y)) λ(i:yo)=>ck i (λj=>Z (N (j.1,J,()))) (λ_ _=>Y) (λ_ k=>Z (X () k)) λ_ _=>
 Y) (λ_ _=>Y) (λ_ i=>Z (X () i)) λ_ _=>Y)) λ(g:yo)=>ck g (λh=>Z (N (h.1,J,()))) (λ_ _
 =>Y) (λ_ i=>Z (X () i)) λ_ _=>Y)) λ(g:yo)=>ck g (λh=>ah (aQ (Bool×Int×U) (Bool×U) (U) (λi=>aj (aE i.2.1 (aq c.1.4)) (aj i.1 (aO (aI i.2.1 c.1.4) (ah (f278 (bn c.1.4 (az i.2.1) nO,c.2)) λj=>Z
 (N (j.1.1,aG .i64 i.2.1 1,())))) (Z (H 0 i))) (Z (H 0 i))) n (h.1,0,())) λi=>bK i (λ_ k=>Z ((k.1,()),
 ())) (λ_ k=>Z (k,())) λ_ _=>Y) (λ_ _=>Y) (λ_ i=>Z (i,())) λ_ _=>Y) (λ_ _=>Y) (λ_ g=>Z (g,
 ())) λ_ _=>Y
def D278(n:Nat)(f278:Fn P92 K4 J)(a:bC prog 278 (WE f278)):bC prog 278 (WE (B278 n f278)):=cS [XB n,Xz n,⟨278,WE f278,a⟩] [(278,1,⟨[(6,dg),(7,dy)],[],[],0⟩),(278,1000005,⟨[(13,dg)],[],[],0⟩),(278,1000006,⟨[(13,dg)],[],[],0⟩),(278,1000007,⟨[(6,dg),(13,dg)],[],[],0⟩),(278,1000009,⟨[(6,dg),(29,dg)],[],[],0⟩),(278,1000011,⟨[(43,dg)],[],[],0⟩),(278,1000012,⟨[(43,dg)],[],[],0⟩),(278,1000013,⟨[(6,dg),(43,dg)],[],[],0⟩),(278,1000015,⟨[(6,dg),(59,dg)],[],[],0⟩),(278,1000017,⟨[(6,dg),(73,dg)],[],[],0⟩)] n 10 278
def R278(n k:Nat):(Fn P92 K4 J):=Nat.rec (motive:=λ_=>(Fn P92 K4 J)) (λ_=>Y) (λ_ r=>B278 n r) k
def F278(n:Nat):Fn P92 K4 J:=(R278 n n)
def ad0(n:Nat):∀k,bC prog 278 (WE (R278 n k))
 |0=>cm (enters 278 (by kernel_rfl))
 |k+1=>have a:=ad0 n k
  D278 n _ a
def anQ(n:Nat):OC:=⟨278,WE (F278 n),(ad0 n n)⟩
def F211:Nat->cF×U->O Y4:=
 λn b=>ah (F277 n (cF.mk b.1.1 b.1.2 b.1.3 b.1.4,12,())) λc=>aj (br 0 c.1.1) (ah (F278 n (cF.mk b.1.1 b.1.2 b.1.3 b.1.4,
 J,())) λd=>Z d) (Z ((J,()),()))
def ais(n:Nat):OC:=⟨211,⟨P93,K4,J,F211 n⟩,cS [anR n,anQ n] [] n 10 211⟩
def F210:Nat->kL×U->O Y4:=
 λn b=>ah (F240 n (b.1.1,())) λc=>aj (au c.1.1) (Z ((J,()),())) (ah (F209 n (aq b.1.2,1,5,())) λd=>aj (au
 d.1.1) (Z ((J,()),())) (ah (aQ (Int×U) (Bool×U) (U) (λe=>aj (aE e.1 (aq b.1.2)) (aO (aI e.1 b.1.2) (ah
 (F240 n ((bn b.1.2 (az e.1) iC).1,())) λg=>aj (au g.1.1) (Z (X () (J,()))) (aj (aE 3 (aq (bn b.1.2 (az
 e.1) iC).2)) (Z (X () (J,()))) (ah (aQ (Int×U) (Bool×U) (U) (λh=>aj (aE h.1 (aq (bn b.1.2
 (az e.1) iC).2)) (aO (aI h.1 (bn b.1.2 (az e.1) iC).2) (ah (F211 n (bn (bn b.1.2 (az e.1) iC).2 (az h.1)
 nO,())) λi=>aj (au i.1.1) (Z (X () (J,()))) (Z (N (aG .i64 h.1 1,()))))) (Z (H 0 h))) n (0,()))
 λh=>bK h (λ_ _=>Z (N (aG .i64 e.1 1,()))) (λ_ j=>Z (X () j)) λ_ _=>Y)))) (Z (H 0 e))) n (0,()))
 λe=>bK e (λ_ _=>Z ((W,()),())) (λ_ h=>Z (h,())) λ_ _=>Y))
def an6(n:Nat):OC:=⟨210,⟨P94,K4,J,F210 n⟩,cS [XB n,ais n,Xz n] [(210,0,⟨[(3,dy)],[],[],0⟩),(210,2,⟨[(5,dy)],[],[],0⟩)] n 10 210⟩
abbrev WD(F:Fn P95 K2 J):lI sg:=⟨P95,K2,J,F⟩
def B279:Nat->(akX->Hq)->akX->Hq:=
 λn f279 c=>aj (aE c.2.1 1) (Z (((-1),()),())) (aj (aE c.2.2.1 1) (Z (((-1),()),())) (ah (aQ (Int×Int×U) (Int×U) (U) (λd=>aj (aE d.2.1 (aq c.1.4)) (aj (br 0 d.1) (aO (aI d.2.1 c.1.4) (ah (f279 (bn c.1.4 (az d.2.1) r6,d.1,bf .i64
 c.2.2.1 1,())) λe=>Z (N (e.1.1,aG .i64 d.2.1 1,())))) (Z (H 0 d))) (Z (H 0 d))) n (bf .i64 c.2.1 1,0,())) λ
 d=>bK d (λ_ g=>Z ((g.1,()),())) (λ_ g=>Z (g,())) λ_ _=>Y))
def D279(n:Nat)(f279:Fn P95 K2 J)(a:bC prog 279 (WD f279)):bC prog 279 (WD (B279 n f279)):=cS [⟨279,WD f279,a⟩] [(279,0,⟨[(1,dy),(7,dy)],[],[],0⟩)] n 10 279
def R279(n k:Nat):(Fn P95 K2 J):=Nat.rec (motive:=λ_=>(Fn P95 K2 J)) (λ_=>Y) (λ_ r=>B279 n r) k
def F279(n:Nat):Fn P95 K2 J:=(R279 n n)
def adZ(n:Nat):∀k,bC prog 279 (WD (R279 n k))
 |0=>cm (enters 279 (by kernel_rfl))
 |k+1=>have a:=adZ n k
  D279 n _ a
def anP(n:Nat):OC:=⟨279,WD (F279 n),(adZ n n)⟩
def ZD(n:Nat)(b:Y72):O Y4:=
 aj b.2.2.2.1 (Z ((W,()),())) (Z ((aa (aq b.1.5) 0,()),()))
def ZC(n:Nat)(b:Y72):O Y4:=
 aj b.2.2.1 (ZD n b) (aj (gC b.1.3 []) (ZD n b) (Z ((J,()),())))
def F326:Nat->Y72->O Y4:=
 λn b=>aj b.2.1 (ZC n b) (aj (aa b.1.2 0) (ZC n b) (Z ((J,()),())))
def anB(n:Nat):OC:=⟨326,⟨P96,K4,J,F326 n⟩,cS [] [] n 10 326⟩
def HA(b:Term×U):Term:=
 Term.mk b.1.1 b.1.2 b.1.3 b.1.4 b.1.5
def Rk(n:Nat)(b:Term×U):O Y4:=
 F326 n (HA b,W,J,J,())
def jH(n:Nat):O Y4:=
 Z ((J,()),())
def ZF(n:Nat):nT->O nT:=
 λc=>ck c (λd=>Z (N d)) (λ_ _=>Y) (λ_ e=>Z (X () e)) λ_ _=>Y
def Lz(n:Nat)(b:Term×U):O Y4:=
 ah (F326 n (HA b,J,J,J,())) λe=>Z e
def Rj(n:Nat)(b:Term×U):O Y4:=
 ah (F326 n (HA b,J,W,J,())) λe=>aj e.1.1 (ah (F208 n (b.1.3,())) λg=>Z g) (jH n)
def Ly(n:Nat):nT->O nT:=
 λh=>ck h (λi=>Z (N i)) (λ_ _=>Y) (λ_ j=>Z (X () j)) λ_ _=>Y
def Ct(n:Nat):nT->O nT:=
 λj=>ck j (λk=>Z (N k)) (λ_ _=>Y) (λ_ l=>Z (X () l)) λ_ _=>Y
def Lx(n:Nat):U->Bool×U->O Y4:=
 λ_ l=>Z (l,())
def F309:akD:=
 λn b=>aj (aa b.1.1 1) (aj (aa (aq b.1.4) 0) (ah (Rk n b) λc=>aj c.1.1 (ah (F209 n (b.1.2,(-1000000000),1000000000,()))
 λd=>Z d) (jH n)) (jH n)) (aj (aa b.1.1 2) (aj (aa (aq b.1.4) 0) (ah (Rk n b) λc=>aj c.1.1 (ah (F209 n (b.1.2,0,
 1,())) λd=>Z d) (jH n)) (jH n)) (ah (aj (aa b.1.1 3) (Z (N (W,()))) (ah (aj (aa b.1.1 21) (Z (N (W,
 ()))) (ah (aj (aa b.1.1 25) (Z (N (W,()))) (Z (N (aa b.1.1 28,())))) (ZF n))) (ZF n))) λ(c:nT)=>ck c
 (λd=>aj d.1 (aj (aa (aq b.1.4) 0) (Lz n b) (jH n)) (aj (aa b.1.1 4) (aj (aa (aq b.1.4) 0) (Rj n b) (jH n)) (ah
 (aj (aa b.1.1 5) (Z (N (W,()))) (Z (N (aa b.1.1 27,())))) λ(e:nT)=>ck e (λg=>aj g.1 (aj (aa (aq
 b.1.4) 1) (Rj n b) (jH n)) (aj (aa b.1.1 7) (aj (aa (aq b.1.4) 2) (Rj n b) (jH n)) (aj (aa b.1.1 8) (aj (aa (aq
 b.1.4) 3) (Lz n b) (jH n)) (aj (aa b.1.1 14) (aj (br (aq b.1.4) 3) (ah (F326 n (HA b,J,W,J,())) λh=>aj
 h.1.1 (ah (F240 n (b.1.3,())) λi=>Z i) (jH n)) (jH n)) (aj (aa b.1.1 15) (ah (F209 n (aq b.1.5,1,5,())) λh=>aj h.1.1
 (aj (aa (aq b.1.4) (aG .i64 1 (aq b.1.5))) (ah (F326 n (HA b,J,J,W,())) λi=>Z i) (jH n)) (jH n)) (ah
 (aj (aa b.1.1 16) (Z (N (W,()))) (ah (aj (aa b.1.1 17) (Z (N (W,()))) (ah (aj (aa b.1.1 19) (Z (N
 (W,()))) (ah (aj (aa b.1.1 20) (Z (N (W,()))) (ah (aj (aa b.1.1 23) (Z (N (W,()))) (Z (N (aa b.1.1
 26,())))) (Ly n))) (Ly n))) (Ly n))) (Ly n))) λ(h:nT)=>ck h (λi=>aj i.1 (aj (aa (aq b.1.4) 1) (Lz n b)
 (jH n)) (aj (aa b.1.1 24) (aj (aa (aq b.1.4) 1) (ah (Rk n b) λj=>aj j.1.1 (ah (F209 n (b.1.2,0,3,())) λk=>Z k)
 (jH n)) (jH n)) (ah (aj (aa b.1.1 6) (Z (N (W,()))) (ah (aj (aa b.1.1 9) (Z (N (W,()))) (ah (aj (aa
 b.1.1 10) (Z (N (W,()))) (ah (aj (aa b.1.1 11) (Z (N (W,()))) (ah (aj (aa b.1.1 12) (Z (N (W,())))
 (ah (aj (aa b.1.1 13) (Z (N (W,()))) (ah (aj (aa b.1.1 18) (Z (N (W,()))) (Z (N (aa b.1.1 22,()))))
 (Ct n))) (Ct n))) (Ct n))) (Ct n))) (Ct n))) (Ct n))) λ(j:nT)=>ck j (λk=>aj k.1 (aj (aa (aq b.1.4) 2)
 (Lz n b) (jH n)) (jH n)) (λ_ _=>Y) (Lx n) λ_ _=>Y))) (λ_ _=>Y) (Lx n) λ_ _=>Y)))))) (λ_ _=>
 Y) (Lx n) λ_ _=>Y))) (λ_ _=>Y) (Lx n) λ_ _=>Y))
def anH(n:Nat):OC:=⟨309,⟨P97,K4,J,F309 n⟩,cS [aeW n,XB n,Xz n,anB n] [(309,1000008,⟨[(35,dg)],[],[],0⟩),(309,1000009,⟨[(35,dg)],[],[],0⟩),(309,1000010,⟨[(35,dg)],[],[],0⟩),(309,1000015,⟨[(59,dg)],[],[],0⟩),(309,1000026,⟨[(125,dg)],[],[],0⟩),(309,1000027,⟨[(125,dg)],[],[],0⟩),(309,1000028,⟨[(125,dg)],[],[],0⟩),(309,1000029,⟨[(125,dg)],[],[],0⟩),(309,1000030,⟨[(125,dg)],[],[],0⟩),(309,1000035,⟨[(151,dg)],[],[],0⟩),(309,1000036,⟨[(151,dg)],[],[],0⟩),(309,1000037,⟨[(151,dg)],[],[],0⟩),(309,1000038,⟨[(151,dg)],[],[],0⟩),(309,1000039,⟨[(151,dg)],[],[],0⟩),(309,1000040,⟨[(151,dg)],[],[],0⟩),(309,1000041,⟨[(151,dg)],[],[],0⟩)] n 10 309⟩
def F139:Nat->VA->O Y4:=
 λn b=>ah (aQ (Int×U) (Bool×U) (U) (λc=>aj (aE c.1 (aq b.1)) (aO (eK 0 c.1 (aq b.1)) (aO (aI c.1 b.1)
 (ah (F141 n (cG b.1 0 c.1,bn b.1 (az c.1) [],())) λd=>aj d.1.1 (Z (X () (J,()))) (Z (N (aG .i64 c.1 1,()))))))
 (Z (H 0 c))) n (0,())) λc=>bK c (λ_ _=>Z ((W,()),())) (λ_ e=>Z (e,())) λ_ _=>Y
def aeY(n:Nat):OC:=⟨139,⟨P98,K4,J,F139 n⟩,cS [abw n] [(139,0,⟨[(3,dy)],[],[],0⟩)] n 10 139⟩
abbrev WB(F:Fn P3 K71 J):lI sg:=⟨P3,K71,J,F⟩
def B281:Nat->(aB×U->OF)->aB×U->OF:=
 λn f281 c=>aj (aa c.1.1 2) (Z (([c.1.3],()),())) (ah (aQ (Y80) (VA) (U) (λd=>aj (aE d.2.1 (aq c.1.4)) (aO
 (aI d.2.1 c.1.4) (ah (f281 (bn c.1.4 (az d.2.1) aK,())) λe=>aO (de d.1 e.1.1) (Z (N (cZ d.1 e.1.1,aG .i64 d.2.1 1,
 ()))))) (Z (H 0 d))) n ([],0,())) λd=>bK d (λ_ g=>Z ((g.1,()),())) (λ_ g=>Z (g,())) λ_ _=>Y)
def D281(n:Nat)(f281:Fn P3 K71 J)(a:bC prog 281 (WB f281)):bC prog 281 (WB (B281 n f281)):=cS [⟨281,WB f281,a⟩] [(281,0,⟨[(3,.one (.own (.str))),(4,dy)],[],[],0⟩)] n 10 281
def R281(n k:Nat):(Fn P3 K71 J):=Nat.rec (motive:=λ_=>(Fn P3 K71 J)) (λ_=>Y) (λ_ r=>B281 n r) k
def F281(n:Nat):Fn P3 K71 J:=(R281 n n)
def adX(n:Nat):∀k,bC prog 281 (WB (R281 n k))
 |0=>cm (enters 281 (by kernel_rfl))
 |k+1=>have a:=adX n k
  D281 n _ a
def aie(n:Nat):OC:=⟨281,WB (F281 n),(adX n n)⟩
abbrev Wy(F:Fn P3 K4 J):lI sg:=⟨P3,K4,J,F⟩
def B327:Y60:=
 λn f327 c=>ah (aj (aa c.1.1 1) (Z (N (W,()))) (Z (N (aa c.1.1 5,())))) λ(d:nT)=>ck d (λe=>ah (aj
 e.1 (aj (aa (aq c.1.4) 0) (aj (aa c.1.2 0) (Z (N (gC c.1.3 [],W,()))) (Z (N (J,W,())))) (Z (N
 (J,W,())))) (ah (aj (aa c.1.1 2) (aj (aa (aq c.1.4) 0) (aj (aa c.1.2 0) (ah (F208 n (c.1.3,())) λg=>Z (N
 (g.1.1,W,()))) (Z (N (J,W,())))) (Z (N (J,W,())))) (ah (aj (aa c.1.1 3) (aj (aa (aq c.1.4) 0) (aj
 (gC c.1.3 []) (ah (F209 n (c.1.2,(-1000000000),1000000000,())) λg=>Z (N (g.1.1,W,()))) (Z (N (J,W,()))))
 (Z (N (J,W,())))) (ah (aj (aa c.1.1 4) (aj (aa (aq c.1.4) 0) (aj (gC c.1.3 []) (ah (F209 n (c.1.2,0,1,())) λg=>
 Z (N (g.1.1,W,()))) (Z (N (J,W,())))) (Z (N (J,W,())))) (ah (aj (aa c.1.1 6) (aj (br (aq
 c.1.4) 3) (aj (aa c.1.2 0) (ah (F240 n (c.1.3,())) λg=>Z (N (g.1.1,W,()))) (Z (N (J,W,())))) (Z (N
 (J,W,())))) (Z (N (J,J,())))) λ(g:yo)=>ck g (λh=>Z (N (h.1,J,()))) (λ_ _=>Y) (λ_
 i=>Z (X () i)) λ_ _=>Y)) λ(g:yo)=>ck g (λh=>Z (N (h.1,J,()))) (λ_ _=>Y) (λ_ i=>Z
 (X () i)) λ_ _=>Y)) λ(g:yo)=>ck g (λh=>Z (N (h.1,J,()))) (λ_ _=>Y) (λ_ i=>Z (X () i))
 λ_ _=>Y)) λ(g:yo)=>ck g (λh=>Z (N (h.1,J,()))) (λ_ _=>Y) (λ_ i=>Z (X () i)) λ_ _=>
 Y)) λ(g:yo)=>ck g (λh=>ah (aQ (Bool×Int×U) (Bool×U) (U) (λi=>aj (aE i.2.1 (aq c.1.4)) (aj i.1
 (aO (aI i.2.1 c.1.4) (ah (f327 (bn c.1.4 (az i.2.1) aK,())) λj=>Z (N (j.1.1,aG .i64 i.2.1 1,())))) (Z (H 0
 i))) (Z (H 0 i))) n (h.1,0,())) λi=>bK i (λ_ k=>Z ((k.1,()),())) (λ_ k=>Z (k,())) λ_ _=>Y) (λ_ _=>
 Y) (λ_ i=>Z (i,())) λ_ _=>Y) (λ_ _=>Y) (λ_ g=>Z (g,())) λ_ _=>Y
def D327(n:Nat)(f327:Fn P3 K4 J)(a:bC prog 327 (Wy f327)):bC prog 327 (Wy (B327 n f327)):=cS [aeW n,XB n,Xz n,⟨327,Wy f327,a⟩] [(327,1,⟨[(4,dg),(5,dy)],[],[],0⟩),(327,1000005,⟨[(11,dg)],[],[],0⟩),(327,1000006,⟨[(4,dg),(11,dg)],[],[],0⟩),(327,1000008,⟨[(4,dg),(26,dg)],[],[],0⟩),(327,1000010,⟨[(4,dg),(40,dg)],[],[],0⟩),(327,1000012,⟨[(4,dg),(54,dg)],[],[],0⟩),(327,1000014,⟨[(4,dg),(68,dg)],[],[],0⟩)] n 10 327
def R327(n k:Nat):(Fn P3 K4 J):=Nat.rec (motive:=λ_=>(Fn P3 K4 J)) (λ_=>Y) (λ_ r=>B327 n r) k
def F327(n:Nat):Fn P3 K4 J:=(R327 n n)
def adU(n:Nat):∀k,bC prog 327 (Wy (R327 n k))
 |0=>cm (enters 327 (by kernel_rfl))
 |k+1=>have a:=adU n k
  D327 n _ a
def anA(n:Nat):OC:=⟨327,Wy (F327 n),(adU n n)⟩
def F310:ala:=
 λn b=>ah (F94 n (aB.mk b.1.1 b.1.2 b.1.3 b.1.4,12,())) λc=>aj (br 0 c.1.1) (ah (F327 n (aB.mk b.1.1 b.1.2 b.1.3 b.1.4,()))
 λd=>aj d.1.1 (ah (F281 n (aB.mk b.1.1 b.1.2 b.1.3 b.1.4,())) λe=>ah (F139 n e.1) λg=>Z g) (Z ((J,()),()))) (Z
 ((J,()),()))
def anG(n:Nat):OC:=⟨310,⟨P3,K4,J,F310 n⟩,cS [k94 n,aeY n,aie n,anA n] [] n 10 310⟩
abbrev WC(F:Fn P97 K4 J):lI sg:=⟨P97,K4,J,F⟩
def B280:Nat->(Term×U->O Y4)->Term×U->O Y4:=
 λn f280 c=>ah (F309 n (Term.mk c.1.1 c.1.2 c.1.3 c.1.4 c.1.5,())) λd=>aj (au d.1.1) (Z ((J,()),())) (ah (aQ (Int×U) (Bool×U) (U) (λe=>aj (aE e.1 (aq c.1.5)) (aO (aI e.1 c.1.5) (ah (F310 n (bn c.1.5 (az e.1) aK,())) λg=>aj
 (au g.1.1) (Z (X () (J,()))) (Z (N (aG .i64 e.1 1,()))))) (Z (H 0 e))) n (0,())) λe=>bK e (λ_ _=>
 ah (aQ (Int×U) (Bool×U) (U) (λi=>aj (aE i.1 (aq c.1.4)) (aO (aI i.1 c.1.4) (ah (f280 (bn c.1.4 (az i.1) r6,
 ())) λj=>aj (au j.1.1) (Z (X () (J,()))) (Z (N (aG .i64 i.1 1,()))))) (Z (H 0 i))) n (0,())) λi=>
 bK i (λ_ _=>Z ((W,()),())) (λ_ k=>Z (k,())) λ_ _=>Y) (λ_ h=>Z (h,())) λ_ _=>Y)
def D280(n:Nat)(f280:Fn P97 K4 J)(a:bC prog 280 (WC f280)):bC prog 280 (WC (B280 n f280)):=cS [⟨280,WC f280,a⟩,anH n,anG n] [(280,0,⟨[(3,dy)],[],[],0⟩),(280,2,⟨[(4,dy)],[],[],0⟩)] n 10 280
def R280(n k:Nat):(Fn P97 K4 J):=Nat.rec (motive:=λ_=>(Fn P97 K4 J)) (λ_=>Y) (λ_ r=>B280 n r) k
def F280(n:Nat):Fn P97 K4 J:=(R280 n n)
def adY(n:Nat):∀k,bC prog 280 (WC (R280 n k))
 |0=>cm (enters 280 (by kernel_rfl))
 |k+1=>have a:=adY n k
  D280 n _ a
def anO(n:Nat):OC:=⟨280,WC (F280 n),(adY n n)⟩
def F212:akD:=
 λn b=>ah (F279 n (Term.mk b.1.1 b.1.2 b.1.3 b.1.4 b.1.5,60,14,())) λc=>aj (br 0 c.1.1) (ah (F280 n (Term.mk b.1.1 b.1.2 b.1.3 b.1.4
 b.1.5,())) λd=>Z d) (Z ((J,()),()))
def an5(n:Nat):OC:=⟨212,⟨P97,K4,J,F212 n⟩,cS [anP n,anO n] [] n 10 212⟩
def mj(b:ec×U)(i:Int×U):cV:=
 bn b.1.3 (az i.1) dN
def HI(n:Nat):ags:=
 Z (X () (J,()))
def F136:Nat->ec×U->O Y4:=
 λn b=>ah (F208 n (b.1.1,())) λc=>aj (au c.1.1) (Z ((J,()),())) (aj (aE 4 (aq b.1.2)) (Z ((J,()),())) (ah
 (F209 n (aq b.1.3,1,5,())) λd=>aj (au d.1.1) (Z ((J,()),())) (ah (aQ (Int×U) (Bool×U) (U) (λe=>aj
 (aE e.1 (aq b.1.2)) (aO (aI e.1 b.1.2) (ah (F210 n (bn b.1.2 (az e.1) mI,())) λg=>aj (au g.1.1) (Z (X () (J,
 ()))) (Z (N (aG .i64 e.1 1,()))))) (Z (H 0 e))) n (0,())) λe=>bK e (λ_ _=>ah (aQ (Int×U) (Bool×U) (U) (λi=>aj (aE i.1 (aq b.1.3)) (aO (aI i.1 b.1.3) (ah (F208 n ((mj b i).1,())) λj=>aj (au j.1.1) (HI n)
 (ah (F208 n ((mj b i).2,())) λk=>aj (au k.1.1) (HI n) (ah (F211 n (cF.mk (mj b i).3.1 (mj b i).3.2 (mj b i).3.3
 (mj b i).3.4,())) λl=>aj (au l.1.1) (HI n) (ah (F211 n (cF.mk (mj b i).4.1 (mj b i).4.2 (mj b i).4.3 (mj b
 i).4.4,())) λm=>aj (au m.1.1) (HI n) (ah (F212 n (Term.mk (mj b i).5.1 (mj b i).5.2 (mj b i).5.3 (mj b i).5.4 (mj b
 i).5.5,())) λo=>aj (au o.1.1) (HI n) (Z (N (aG .i64 i.1 1,()))))))))) (Z (H 0 i))) n (0,())) λi=>bK i (λ
 _ _=>Z ((W,()),())) (λ_ k=>Z (k,())) λ_ _=>Y) (λ_ h=>Z (h,())) λ_ _=>Y)))
def aiz(n:Nat):OC:=⟨136,⟨P99,K4,J,F136 n⟩,cS [aeW n,XB n,an6 n,ais n,an5 n] [(136,0,⟨[(3,dy)],[],[],0⟩),(136,2,⟨[(4,dy)],[],[],0⟩)] n 10 136⟩
def F96:Nat->L UInt8×U->O ((ec×Int×U)×U):=
 λn b=>ah (F202 n b) λc=>aj (au (aa c.1.2.1 0)) (Z ((kI,c.1.2),())) (ah (F134 n ((c.1.1,0,J,()),())) λd=>
 ah (F135 n (bM.mk d.2.1.1 d.2.1.2.1 d.2.1.2.2.1,())) λe=>aj (au e.1.1) (Z ((kI,4,()),())) (ah (F136 n d.1)
 λg=>aj (au g.1.1) (Z ((kI,2,()),())) (Z ((d.1.1,0,()),()))))
def k96(n:Nat):OC:=⟨96,⟨P7,K100,J,F96 n⟩,cS [aoT n,aoS n,aiz n,an9 n] [] n 10 96⟩
def F137:Nat->ec×U->OF:=
 λn b=>ah (aQ (Y80) (VA) (U) (λc=>aj (aE c.2.1 (aq b.1.3)) (aO (aI c.2.1 b.1.3) (aO (de c.1 [(bn b.1.3 (az
 c.2.1) dN).1]) (Z (N (cZ c.1 [(bn b.1.3 (az c.2.1) dN).1],aG .i64 c.2.1 1,()))))) (Z (H 0 c))) n ([],0,
 ())) λc=>bK c (λ_ e=>Z ((e.1,()),())) (λ_ e=>Z (e,())) λ_ _=>Y
def aoR(n:Nat):OC:=⟨137,⟨P99,K71,J,F137 n⟩,cS [] [(137,0,⟨[(3,.one (.own (.str))),(4,dy)],[],[],0⟩)] n 10 137⟩
def ZO(b:ec×U)(c:Y61)(d:Y61):L cw:=
 [cw.mk (bn (bn b.1.2 (az c.2.1) mI).2 (az d.2.1) iC).1 (aq (bn (bn b.1.2 (az c.2.1) mI).2 (az d.2.1)
 iC).2)]
def F138:Nat->ec×U->O ((L cw×U)×U):=
 λn b=>ah (aQ (Y61) (L cw×U) (U) (λc=>aj (aE c.2.1 (aq b.1.2)) (ah (aQ (Y61) (L cw×U) (U) (λd=>aO (aI c.2.1 b.1.2) (aj (aE d.2.1 (aq (bn b.1.2 (az c.2.1) mI).2)) (aO (aI c.2.1 b.1.2) (aO (aI d.2.1 (bn
 b.1.2 (az c.2.1) mI).2) (aO (de d.1 (ZO b c d)) (Z (N (cZ d.1 (ZO b c d),aG .i64 d.2.1 1,())))))) (Z (H 0
 d)))) n (c.1,0,())) λd=>bK d (λ_ g=>Z (N (g.1,aG .i64 c.2.1 1,()))) (λ_ g=>Z (X () g)) λ_ _=>Y) (Z
 (H 0 c))) n ([],0,())) λc=>bK c (λ_ e=>Z ((e.1,()),())) (λ_ e=>Z (e,())) λ_ _=>Y
def aoQ(n:Nat):OC:=⟨138,⟨P99,K101,J,F138 n⟩,cS [] [(138,0,⟨[(3,.one (.own (.st 2))),(4,dy)],[],[],0⟩),(138,2,⟨[(3,.one (.own (.st 2))),(5,dy)],[],[],0⟩)] n 10 138⟩
def F140:Nat->L cw×U->OF:=
 λn b=>ah (aQ (Y80) (VA) (U) (λc=>aj (aE c.2.1 (aq b.1)) (aO (aI c.2.1 b.1) (aO (de c.1 [(bn b.1 (az c.2.1)
 aY).1]) (Z (N (cZ c.1 [(bn b.1 (az c.2.1) aY).1],aG .i64 c.2.1 1,()))))) (Z (H 0 c))) n ([],0,())) λc=>
 bK c (λ_ e=>Z ((e.1,()),())) (λ_ e=>Z (e,())) λ_ _=>Y
def aoP(n:Nat):OC:=⟨140,⟨P8,K71,J,F140 n⟩,cS [] [(140,0,⟨[(3,.one (.own (.str))),(4,dy)],[],[],0⟩)] n 10 140⟩
def F213:Nat->L cw×L UInt8×U->Hq:=
 λn b=>ah (aQ (Int×U) (Int×U) (U) (λc=>aj (aE c.1 (aq b.1)) (aO (aI c.1 b.1) (aj (gC (bn b.1 (az c.1)
 aY).1 b.2.1) (Z (X () c)) (Z (N (aG .i64 c.1 1,()))))) (Z (H 0 c))) n (0,())) λc=>bK c (λ_ _=>Z
 (((-1),()),())) (λ_ e=>Z (e,())) λ_ _=>Y
def abu(n:Nat):OC:=⟨213,⟨asl,K2,J,F213 n⟩,cS [] [(213,0,⟨[(5,dy)],[],[],0⟩)] n 10 213⟩
abbrev WL(F:Fn VL K4 J):lI sg:=⟨VL,K4,J,F⟩
def B214:Nat->(ald->O Y4)->ald->O Y4:=
 λn f214 c=>ah (aj (aa c.2.1.1 6) (ah (F213 n (c.1.2,c.2.1.3,())) λd=>aj (aE d.1.1 0) (Z (X () (J,()))) (aO (aI
 d.1.1 c.1.2) (aj (au (aa (bn c.1.2 (az d.1.1) aY).2 (aq c.2.1.4))) (Z (X () (J,()))) (Z (N (J,W,
 ())))))) (Z (N (J,J,())))) λ(d:yo)=>ck d (λ_=>ah (aQ (Int×U) (Bool×U) (U) (λg=>aj
 (aE g.1 (aq c.2.1.4)) (aO (aI g.1 c.2.1.4) (ah (f214 (c.1,bn c.2.1.4 (az g.1) aK,())) λh=>aj (au h.1.1) (Z (X ()
 (J,()))) (Z (N (aG .i64 g.1 1,()))))) (Z (H 0 g))) n (0,())) λg=>bK g (λ_ _=>Z ((W,()),())) (λ_ i=>
 Z (i,())) λ_ _=>Y) (λ_ _=>Y) (λ_ g=>Z (g,())) λ_ _=>Y
def D214(n:Nat)(f214:Fn VL K4 J)(a:bC prog 214 (WL f214)):bC prog 214 (WL (B214 n f214)):=cS [abu n,⟨214,WL f214,a⟩] [(214,0,⟨[(6,dy)],[],[],0⟩),(214,1000002,⟨[(4,dg),(9,dg)],[],[],0⟩)] n 10 214
def R214(n k:Nat):(Fn VL K4 J):=Nat.rec (motive:=λ_=>(Fn VL K4 J)) (λ_=>Y) (λ_ r=>B214 n r) k
def F214(n:Nat):Fn VL K4 J:=(R214 n n)
def ad8(n:Nat):∀k,bC prog 214 (WL (R214 n k))
 |0=>cm (enters 214 (by kernel_rfl))
 |k+1=>have a:=ad8 n k
  D214 n _ a
def an4(n:Nat):OC:=⟨214,WL (F214 n),(ad8 n n)⟩
def F215:Nat->L (L UInt8)×L (L UInt8)×U->OF:=
 λn b=>aO (de b.1 b.2.1) (Z ((cZ b.1 b.2.1,()),()))
def air(n:Nat):OC:=⟨215,⟨asj,K71,J,F215 n⟩,cS [] [] n 10 215⟩
def F216:Nat->Term×Int×U->OF:=
 λn b=>ah (aj (aa b.1.1 5) (Z (N (W,()))) (Z (N (aa b.1.1 27,())))) λ(c:LO (Bool×U) VA U Any)=>
 ck c (λd=>aj d.1 (Z (([b.1.3],()),())) (aj (aa b.1.1 7) (aj (aa b.2.1 1) (Z (([b.1.3],()),())) (Z (([],()),()))) (aj
 (aa b.1.1 15) (aj (aE 0 b.2.1) (aO (aI (bf .i64 b.2.1 1) b.1.5) (ah (F281 n (bn b.1.5 (az (bf .i64 b.2.1 1)) aK,())) λe
 =>Z e)) (Z (([],()),()))) (Z (([],()),()))))) (λ_ _=>Y) (λ_ e=>Z (e,())) λ_ _=>Y
def aiq(n:Nat):OC:=⟨216,⟨asi,K71,J,F216 n⟩,cS [aie n] [(216,1000003,⟨[(7,dg)],[],[],0⟩)] n 10 216⟩
abbrev WQ(F:Fn VK K4 J):lI sg:=⟨VK,K4,J,F⟩
def B142:Nat->(akR->O Y4)->akR->O Y4:=
 λn f142 c=>aj (aa c.2.1.1 4) (ah (F141 n (c.2.2.1,c.2.1.3,())) λd=>aj d.1.1 (Z ((W,()),())) (ah (F141 n (c.1.1,c.2.1.3,
 ())) λe=>Z e)) (ah (aj (aa c.2.1.1 14) (ah (F213 n (c.1.2,c.2.1.3,())) λd=>aj (aE d.1.1 0) (Z (X () (J,()))) (aO
 (aI d.1.1 c.1.2) (aj (au (aa (bn c.1.2 (az d.1.1) aY).2 (aq c.2.1.4))) (Z (X () (J,()))) (Z (N (J,W,
 ())))))) (Z (N (J,J,())))) λ(d:yo)=>ck d (λ_=>ah (aQ (Int×U) (Bool×U) (U) (λg=>aj
 (aE g.1 (aq c.2.1.5)) (aO (aI g.1 c.2.1.5) (ah (F214 n (c.1,bn c.2.1.5 (az g.1) aK,())) λh=>aj (au h.1.1) (Z (X
 () (J,()))) (Z (N (aG .i64 g.1 1,()))))) (Z (H 0 g))) n (0,())) λg=>bK g (λ_ _=>ah (aQ (Int×U) (Bool×
 U) (U) (λj=>aj (aE j.1 (aq c.2.1.4)) (aO (aI j.1 c.2.1.4) (ah (F216 n (Term.mk c.2.1.1 c.2.1.2 c.2.1.3 c.2.1.4 c.2.1.5,j))
 λk=>ah (F215 n (c.2.2.1,k.1)) λl=>ah (f142 (c.1,bn c.2.1.4 (az j.1) r6,l.1)) λm=>aj (au m.1.1) (Z (X () (J,
 ()))) (Z (N (aG .i64 j.1 1,()))))) (Z (H 0 j))) n (0,())) λj=>bK j (λ_ _=>Z ((W,()),())) (λ_ l=>Z
 (l,())) λ_ _=>Y) (λ_ i=>Z (i,())) λ_ _=>Y) (λ_ _=>Y) (λ_ g=>Z (g,())) λ_ _=>Y)
def D142(n:Nat)(f142:Fn VK K4 J)(a:bC prog 142 (WQ f142)):bC prog 142 (WQ (B142 n f142)):=cS [abw n,⟨142,WQ f142,a⟩,abu n,an4 n,air n,aiq n] [(142,0,⟨[(8,dy)],[],[],0⟩),(142,2,⟨[(9,dy)],[],[],0⟩),(142,1000004,⟨[(6,dg),(28,dg)],[],[],0⟩)] n 10 142
def R142(n k:Nat):(Fn VK K4 J):=Nat.rec (motive:=λ_=>(Fn VK K4 J)) (λ_=>Y) (λ_ r=>B142 n r) k
def F142(n:Nat):Fn VK K4 J:=(R142 n n)
def aed(n:Nat):∀k,bC prog 142 (WQ (R142 n k))
 |0=>cm (enters 142 (by kernel_rfl))
 |k+1=>have a:=aed n k
  D142 n _ a
def aoO(n:Nat):OC:=⟨142,WQ (F142 n),(aed n n)⟩
def F143:Nat->akS->Hq:=
 λn b=>ah (aQ (Int×U) (Int×U) (U) (λc=>aj (br 0 c.1) (aO (aI c.1 b.1) (aj (gC (bn b.1 (az c.1) []) b.2.1)
 (Z (X () c)) (Z (N (bf .i64 c.1 1,()))))) (Z (H 0 c))) n (bf .i64 (aq b.1) 1,())) λc=>bK c (λ_ _=>
 Z (((-1),()),())) (λ_ e=>Z (e,())) λ_ _=>Y
def aiy(n:Nat):OC:=⟨143,⟨P70,K2,J,F143 n⟩,cS [] [(143,0,⟨[(5,dy)],[],[],0⟩)] n 10 143⟩
abbrev WK(F:Fn VJ K86 J):lI sg:=⟨VJ,K86,J,F⟩
def RC(g:Y88):Bc:=
 (g.2.1.1,g.2.1.2.1,lz (S:=sg) 24 2 (Ty.int .i64) g.2.1.2.2.1 (zC (S:=sg) 24 2 (Ty.int .i64) g.2.1.2.2.1),())
def agS(h:Y89):Bc:=
 (h.2.1.1,h.2.1.2.1,lz (S:=sg) 24 2 (Ty.int .i64) h.2.1.2.2.1 (zC (S:=sg) 24 2 (Ty.int .i64) h.2.1.2.2.1),())
def Z7(c:Y90):Bc:=
 (c.1.1,c.1.2.1,lz (S:=sg) 24 2 (Ty.int .i64) c.1.2.2.1 (zC (S:=sg) 24 2 (Ty.int .i64) c.1.2.2.1),())
def agR(h:Bc×Y87×U):Bc:=
 (h.1.1,h.1.2.1,lz (S:=sg) 24 2 (Ty.int .i64) h.1.2.2.1 (zC (S:=sg) 24 2 (Ty.int .i64) h.1.2.2.1),())
def B217:Nat->(Y90->O Y89)->Y90->O Y89:=
 λn f217 c=>ah (aj (aa c.2.1.1 6) (ah (F213 n (c.1.2.1,c.2.1.3,())) λd=>Z (N (W,(c.2.1.1,d.1.1,[],[],()),()))) (Z
 (N (J,(c.2.1.1,c.2.1.2,[],[],()),())))) λ(d:LO (Bool×Y87×U) U (Y87×U) Any)=>ck d (λe=>ah (aQ (Y88) (U) (Bc×Y87×U) (λg=>aj (aE g.1 (aq c.2.1.4)) (aO (aI g.1 c.2.1.4) (ah (f217 (RC g,bn c.2.1.4 (az g.1) aK,
 ())) λh=>aO (de g.2.2.1.2.2.2.1 [h.1.1]) (Z (N (aG .i64 g.1 1,agS h,(g.2.2.1.1,g.2.2.1.2.1,g.2.2.1.2.2.1,cZ
 g.2.2.1.2.2.2.1 [h.1.1],()),()))))) (Z (H 0 (g.1,RC g,g.2.2)))) n (0,Z7 c,e.2)) λg=>bK g (λ_ i=>Z ((aB.mk
 i.2.2.1.1 i.2.2.1.2.1 i.2.2.1.2.2.1 i.2.2.1.2.2.2.1,()),RC i,())) (λh _=>Z ((aK,()),agR h,())) λ_ _=>Y) (λ_ _=>
 Y) (λ_ _=>Z ((aK,()),Z7 c,())) λ_ _=>Y
def D217(n:Nat)(f217:Fn VJ K86 J)(a:bC prog 217 (WK f217)):bC prog 217 (WK (B217 n f217)):=cS [abu n,⟨217,WK f217,a⟩] [(217,0,⟨[(6,dy),(0,Vo),(0,agd)],[.slot 0,.slot 5],[],0⟩),(217,1000003,⟨[(14,dg),(0,agd)],[.slot 5],[],0⟩)] n 10 217
def R217(n k:Nat):(Fn VJ K86 J):=Nat.rec (motive:=λ_=>(Fn VJ K86 J)) (λ_=>Y) (λ_ r=>B217 n r) k
def F217(n:Nat):Fn VJ K86 J:=(R217 n n)
def ad7(n:Nat):∀k,bC prog 217 (WK (R217 n k))
 |0=>cm (enters 217 (by kernel_rfl))
 |k+1=>have a:=ad7 n k
  D217 n _ a
def an3(n:Nat):OC:=⟨217,WK (F217 n),(ad7 n n)⟩
abbrev WO(F:Fn VI K2 J):lI sg:=⟨VI,K2,J,F⟩
def RI(g:Bool×OD×U):OD×U:=
 ((g.2.1.1,g.2.1.2.1,[],g.2.1.2.2.2),())
def RH(i:agw):L (L Int):=
 zC (S:=sg) 24 2 (Ty.int .i64) i.2.1.2.2.1
def aaa(i:agw):Bc:=
 (i.2.1.1,i.2.1.2.1,lz (S:=sg) 24 2 (Ty.int .i64) i.2.1.2.2.1 (RH i),())
def agW(j:Y89):L (L Int):=
 zC (S:=sg) 24 2 (Ty.int .i64) j.2.1.2.2.1
def agV(j:Y89):Bc:=
 (j.2.1.1,j.2.1.2.1,lz (S:=sg) 24 2 (Ty.int .i64) j.2.1.2.2.1 (agW j),())
def Z9(c:OB):Bc:=
 (c.1.1,c.1.2.1,lz (S:=sg) 24 2 (Ty.int .i64) c.1.2.2.1 (zC (S:=sg) 24 2 (Ty.int .i64) c.1.2.2.1),())
def agU(l:Int×Bc×U):L (L Int):=
 zC (S:=sg) 24 2 (Ty.int .i64) l.2.1.2.2.1
def RG(l:Int×Bc×U):Bc:=
 (l.2.1.1,l.2.1.2.1,lz (S:=sg) 24 2 (Ty.int .i64) l.2.1.2.2.1 (agU l),())
def xw(c:OB):Nat:=
 az (aq c.1.2.2.1)
def EM(p:Q6):L (L Int):=
 zC (S:=sg) 24 2 (Ty.int .i64) p.2.1.2.2.1
def ac0(m:Bc×U):Bc:=
 (m.1.1,m.1.2.1,lz (S:=sg) 24 2 (Ty.int .i64) m.1.2.2.1 (zC (S:=sg) 24 2 (Ty.int .i64) m.1.2.2.1),())
def acZ(n:Nat)(f144:OB->O Q6)(m:Bc×U):agv:=
 λo=>Z (o,ac0 m,())
def acY(j:Bc×OD×U):Bc:=
 (j.1.1,j.1.2.1,lz (S:=sg) 24 2 (Ty.int .i64) j.1.2.2.1 (zC (S:=sg) 24 2 (Ty.int .i64) j.1.2.2.1),())
def acX(n:Nat)(f144:OB->O Q6)(j:Bc×OD×U):agv:=
 λk=>Z (k,acY j,())
def Tz(n:Nat)(f144:OB->O Q6)(c:OB):agv:=
 λi=>Z (i,Z9 c,())
def B144:Nat->(OB->O Q6)->OB->O Q6:=
 λn f144 c=>ah (aj (aa c.2.1.1 4) (ah (F143 n (c.2.2.1,c.2.1.3,())) λd=>ah (aj (aE d.1.1 0) (ah (F143 n (c.1.1,c.2.1.3,()))
 λe=>Z (N (W,(c.2.1.1,bf .i64 (-1) e.1.1,[],[],()),()))) (Z (N (J,(c.2.1.1,d.1.1,[],[],()),())))) λ(e :
 agu)=>ck e (λg=>Z (N (W,RI g))) (λ_ _=>Y) (λg h=>Z (X ((g.1.1,g.1.2.1,[],g.1.2.2.2),()) h)) λ_
 _=>Y) (Z (N (J,(c.2.1.1,c.2.1.2,[],[],()),())))) λ(d:agu)=>ck d (λe=>ah (aj (aa c.2.1.1 14) (ah (F213 n
 (c.1.2.1,c.2.1.3,())) λg=>Z (N (W,(e.2.1.1,g.1.1,[],e.2.1.2.2.2),()))) (Z (N (J,RI e)))) λ(g:agu)=>
 ck g (λh=>ah (aQ (agw) (Int×U) (Bc×OD×U) (λi=>aj (aE i.1 (aq c.2.1.5)) (aO (aI i.1 c.2.1.5) (ah (F217
 n (aaa i,bn c.2.1.5 (az i.1) aK,())) λj=>aO (de i.2.2.1.2.2.2.1 [j.1.1]) (Z (N (aG .i64 i.1 1,agV j,(i.2.2.1.1,
 i.2.2.1.2.1,[],cZ i.2.2.1.2.2.2.1 [j.1.1],()),()))))) (Z (H 0 (i.1,aaa i,(i.2.2.1.1,i.2.2.1.2.1,[],i.2.2.1.2.2.2),())))) n (0,
 Z9 c,RI h)) λi=>bK i (λ_ k=>aO (bZ (abe k.2.1.2.2.1 (RH k)) (de k.2.1.2.2.1 [gI.mk k.2.2.1.1 k.2.2.1.2.1 []
 k.2.2.1.2.2.2.1])) (ah (aQ (Int×Bc×U) (Int×U) (Bc×U) (λl=>aj (aE l.1 (aq c.2.1.4)) (aO (aI l.1 c.2.1.4) (ah
 (F216 n (Term.mk c.2.1.1 c.2.1.2 c.2.1.3 c.2.1.4 c.2.1.5,l.1,())) λm=>ah (F215 n (c.2.2.1,m.1)) λo=>ah (f144 (RG l,bn c.2.1.4
 (az l.1) r6,o.1)) λp=>aO (aI (aq c.1.2.2.1) p.2.1.2.2.1) (aO (dV (xw c) p.2.1.2.2.1) (aO (bZ (dV (xw c) (EM p))
 (de (bn (EM p) (xw c) []) [p.1.1])) (aO (aI (aq c.1.2.2.1) p.2.1.2.2.1) (aO (XU (xw c) p.2.1.2.2.1 (xw c) (xw c))
 (Z (N (aG .i64 l.1 1,(p.2.1.1,p.2.1.2.1,lz (S:=sg) 24 2 (Ty.int .i64) p.2.1.2.2.1 (lE (EM p) (xw c) (cZ (bn (EM
 p) (xw c) []) [p.1.1])),()),()))))))))) (Z (H 0 (l.1,RG l,())))) n (0,(k.2.1.1,k.2.1.2.1,lz (S:=sg) 24 2 (Ty.int .i64)
 (cZ k.2.1.2.2.1 [gI.mk k.2.2.1.1 k.2.2.1.2.1 [] k.2.2.1.2.2.2.1]) (cZ (RH k) [[]]),()),())) λl=>bK l (λ_ o=>Z ((aq
 c.1.2.2.1,()),RG o,())) (λm=>acZ n f144 m) λ_ _=>Y)) (λj=>acX n f144 j) λ_ _=>Y) (λ_ _=>Y) (λ_=>
 Tz n f144 c) λ_ _=>Y) (λ_ _=>Y) (λ_=>Tz n f144 c) λ_ _=>Y
def D144(n:Nat)(f144:Fn VI K2 J)(a:bC prog 144 (WO f144)):bC prog 144 (WO (B144 n f144)):=cS [aiy n,⟨144,WO f144,a⟩,abu n,air n,aiq n,an3 n] [(144,0,⟨[(9,dy),(0,Vo),(0,acA)],[.slot 0,.slot 8],[],0⟩),(144,2,⟨[(10,dy),(0,Vo)],[.slot 0],[],0⟩),(144,1000004,⟨[(24,dg),(0,acA)],[.slot 8],[],0⟩),(144,1000006,⟨[(32,dg),(0,acA)],[.slot 8],[],0⟩),(144,1000008,⟨[(44,dg),(0,acA)],[.slot 8],[],0⟩)] n 10 144
def R144(n k:Nat):(Fn VI K2 J):=Nat.rec (motive:=λ_=>(Fn VI K2 J)) (λ_=>Y) (λ_ r=>B144 n r) k
def F144(n:Nat):Fn VI K2 J:=(R144 n n)
def aec(n:Nat):∀k,bC prog 144 (WO (R144 n k))
 |0=>cm (enters 144 (by kernel_rfl))
 |k+1=>have a:=aec n k
  D144 n _ a
def aoN(n:Nat):OC:=⟨144,WO (F144 n),(aec n n)⟩
def alx(b:ec×U)(k:Int×Y68×U):Y69:=
 (Term.mk (bn b.1.3 (az k.1) dN).5.1 (bn b.1.3 (az k.1) dN).5.2 (bn b.1.3 (az k.1) dN).5.3 (bn b.1.3 (az k.1)
 dN).5.4 (bn b.1.3 (az k.1) dN).5.5,[(bn b.1.3 (az k.1) dN).2],())
def JX(k:Int×Y68×U):Y68×U:=
 (([],[],k.2.1.2.2.1,[],()),())
def Zx(p:Y71):L gI:=
 lz (S:=sg) 24 2 (Ty.int .i64) p.2.2.1.2.2.1 (zC (S:=sg) 24 2 (Ty.int .i64) p.2.2.1.2.2.1)
def alw(b:ec×U)(p:Y71):Y69:=
 (Term.mk (bn b.1.3 (az p.1) dN).5.1 (bn b.1.3 (az p.1) dN).5.2 (bn b.1.3 (az p.1) dN).5.3 (bn b.1.3 (az p.1)
 dN).5.4 (bn b.1.3 (az p.1) dN).5.5,[(bn b.1.3 (az p.1) dN).2],())
def F97:Nat->ec×U->O ((gS×Int×U)×U):=
 λn b=>ah (F136 n b) λc=>aj (au c.1.1) (Z ((qj,2,()),())) (ah (F137 n b) λd=>ah (F138 n b) λe=>ah (F139 n d.1)
 λg=>aj (au g.1.1) (Z ((qj,7,()),())) (ah (F140 n e.1) λh=>ah (F139 n h.1) λi=>aj (au i.1.1) (Z ((qj,
 7,()),())) (ah (F141 n (d.1.1,[109,97,105,110],())) λj=>aj (au j.1.1) (Z ((qj,7,()),())) (ah (aQ (Int×Y68×U) (Int×U) (Y68×U) (λk=>aj (aE k.1 (aq b.1.3)) (aO (aI k.1 b.1.3) (aO (aI k.1 b.1.3) (ah (F142 n (dK.mk
 d.1.1 e.1.1 [],alx b k)) λl=>aj (au l.1.1) (Z (X (([],[],0,[],()),()) (7,()))) (Z (N (aG .i64 k.1 1,JX
 k)))))) (Z (H 0 (k.1,JX k)))) n (0,([],[],0,[],()),())) λk=>bK k (λ_ m=>ah (F143 n (d.1.1,[109,97,105,110],()))
 λo=>ah (aQ (Y71) (Int×U) (Y68×Bc×U) (λp=>aj (aE p.1 (aq b.1.3)) (aO (de p.2.1.2.1 [aq p.2.2.1.2.2.1]) (aO
 (aI p.1 b.1.3) (aO (aI p.1 b.1.3) (ah (F144 n ((p.2.2.1.1,p.2.2.1.2.1,Zx p,()),alw b p)) λq=>Z (N (aG .i64 p.1 1,([],
 cZ p.2.1.2.1 [aq p.2.2.1.2.2.1],p.2.1.2.2),(q.2.1.1,q.2.1.2.1,lz (S:=sg) 24 2 (Ty.int .i64) q.2.1.2.2.1 (zC (S:=sg) 24 2 (Ty.int .i64)
 q.2.1.2.2.1),()),())))))) (Z (H 0 (p.1,([],p.2.1.2),(p.2.2.1.1,p.2.2.1.2.1,Zx p,()),())))) n (0,([],[],o.1.1,e.1),(d.1.1,
 e.1.1,[],()),())) λp=>bK p (λ_ r=>ah (aQ (Int×Y68×U) (Int×U) (Y68×U) (λs=>aj (aE s.1 (aq
 r.2.2.1.2.2.1)) (aO (aI s.1 r.2.2.1.2.2.1) (aO (dV (az s.1) r.2.2.1.2.2.1) (aj (aa (bn r.2.2.1.2.2.1 (az s.1) tO).1 4) (aO (aI
 s.1 r.2.2.1.2.2.1) (aO (dV (az s.1) r.2.2.1.2.2.1) (aj (br 30 (bn r.2.2.1.2.2.1 (az s.1) tO).2) (Z (X (([],[],0,[],()),
 ()) (3,()))) (Z (N (aG .i64 s.1 1,JX s)))))) (Z (N (aG .i64 s.1 1,JX s)))))) (Z (H 0 (s.1,JX s)))) n (0,
 JX m)) λs=>bK s (λ_ _=>Z ((gS.mk (Zx r) r.2.1.2.1 r.2.1.2.2.1 r.2.1.2.2.2.1,0,()),())) (λt u=>Z ((gS.mk []
 [] t.1.2.2.1 [],u),())) λ_ _=>Y) (λ_ r=>Z ((gS.mk [] [] m.2.1.2.2.1 [],r),())) λ_ _=>Y) (λl m=>Z
 ((gS.mk [] [] l.1.2.2.1 [],m),())) λ_ _=>Y))))
def k97(n:Nat):OC:=⟨97,⟨P99,K109,J,F97 n⟩,cS [aiz n,aoR n,aoQ n,aeY n,aoP n,abw n,aoO n,aiy n,aoN n] [(97,0,⟨[(5,dy),(0,akq)],[.slot 2],[],0⟩),(97,2,⟨[(7,dy),(0,.box (.cells [.nil (.st 24),.own (.int .i64),mg,b8y])),(0,Vo)],[.slot 6,.slot 18],[],0⟩),(97,4,⟨[(8,dy),(0,akq)],[.slot 2],[],0⟩)] n 10 97⟩
def F146:Nat->bJ×Int×U->O HX:=
 λn b=>aO (aI b.2.1 b.1.1) (aO (dV (az b.2.1) b.1.1) (aj (aa (bn b.1.1 (az b.2.1) bY).1 19) (aO (aI b.2.1 b.1.1) (aO (dV
 (az b.2.1) b.1.1) (Z ((bJ.mk (lE b.1.1 (az b.2.1) (bN.mk (bn b.1.1 (az b.2.1) bY).1 (bn b.1.1 (az b.2.1)
 bY).2 (aq b.1.1))) b.1.2 b.1.3,()),())))) (aO (aI b.2.1 b.1.1) (aO (dV (az b.2.1) b.1.1) (Z ((bJ.mk (lE b.1.1 (az
 b.2.1) (bN.mk (bn b.1.1 (az b.2.1) bY).1 (aq b.1.1) (bn b.1.1 (az b.2.1) bY).3)) b.1.2 b.1.3,()),()))))))
def aeX(n:Nat):OC:=⟨146,⟨ash,K111,J,F146 n⟩,cS [] [] n 10 146⟩
def F218:ak1:=
 λn b=>aO (de b.1.1 [bN.mk b.2.1 b.2.2.1 0]) (Z ((bJ.mk (cZ b.1.1 [bN.mk b.2.1 b.2.2.1 0]) b.1.2 b.1.3,()),()))
def abt(n:Nat):OC:=⟨218,⟨alk,K111,J,F218 n⟩,cS [] [] n 10 218⟩
def F219:Nat->bJ×Bool×U->O HX:=
 λn b=>aj b.2.1 (ah (F218 n (b.1,34,0,())) λc=>Z c) (Z ((b.1,()),()))
def an2(n:Nat):OC:=⟨219,⟨asf,K111,J,F219 n⟩,cS [abt n] [] n 10 219⟩
def F220:ak1:=
 λn b=>aO (de b.1.3 [oc.mk b.2.2.1 (aq b.1.1)]) (ah (F218 n (bJ.mk b.1.1 b.1.2 (cZ b.1.3 [oc.mk b.2.2.1 (aq
 b.1.1)]),b.2.1,0,())) λc=>Z c)
def an1(n:Nat):OC:=⟨220,⟨alk,K111,J,F220 n⟩,cS [abt n] [] n 10 220⟩
abbrev WM(F:Fn P3 K2 J):lI sg:=⟨P3,K2,J,F⟩
def B163:Y97:=
 λn f163 c=>ah (aj (aa c.1.1 2) (Z (N (1,W,()))) (Z (N (0,J,())))) λ(d:Y98)=>ck d (λe=>ah (@iter
 (Int×Int×U) (Int×U) (U) (Any) (λg=>aj (aE g.2.1 (aq c.1.4)) (aO (aI g.2.1 c.1.4) (ah (f163 (bn c.1.4 (az g.2.1)
 aK,())) λh=>Z (N (aG .i64 g.1 h.1.1,aG .i64 g.2.1 1,())))) (Z (H 0 g))) n (e.1,0,())) λg=>bK g (λ_ i
 =>Z ((i.1,()),())) (λ_ i=>Z (i,())) λ_ _=>Y) (λ_ _=>Y) (λ_ g=>Z (g,())) λ_ _=>Y
def D163(n:Nat)(f163:Fn P3 K2 J)(a:bC prog 163 (WM f163)):bC prog 163 (WM (B163 n f163)):=cS [⟨163,WM f163,a⟩] [(163,0,⟨[(3,dy),(4,dy)],[],[],0⟩),(163,1000003,⟨[(3,dy),(7,dg)],[],[],0⟩)] n 10 163
def R163(n k:Nat):(Fn P3 K2 J):=Nat.rec (motive:=λ_=>(Fn P3 K2 J)) (λ_=>Y) (λ_ r=>B163 n r) k
def F163(n:Nat):Fn P3 K2 J:=(R163 n n)
def ad9(n:Nat):∀k,bC prog 163 (WM (R163 n k))
 |0=>cm (enters 163 (by kernel_rfl))
 |k+1=>have a:=ad9 n k
  D163 n _ a
def aiu(n:Nat):OC:=⟨163,WM (F163 n),(ad9 n n)⟩
def F222:ak0:=
 λn b=>aj (aa b.1 3) (Z ((3,()),())) (aj (aa b.1 9) (Z ((13,()),())) (aj (aa b.1 10) (Z ((14,()),())) (aj (aa b.1
 11) (Z ((15,()),())) (aj (aa b.1 12) (Z ((16,()),())) (aj (aa b.1 13) (Z ((17,()),())) (aj (aa b.1 16) (Z ((21,()),()))
 (aj (aa b.1 17) (Z ((22,()),())) (aj (aa b.1 18) (Z ((23,()),())) (aj (aa b.1 19) (Z ((24,()),())) (aj (aa b.1 20) (Z
 ((25,()),())) (aj (aa b.1 21) (Z ((26,()),())) (aj (aa b.1 22) (Z ((27,()),())) (aj (aa b.1 23) (Z ((28,()),())) (aj
 (aa b.1 25) (Z ((30,()),())) (Z ((33,()),()))))))))))))))))
def an0(n:Nat):OC:=⟨222,⟨P26,K2,J,F222 n⟩,cS [] [] n 10 222⟩
abbrev PA(F:Fn Rc K111 J):lI sg:=⟨Rc,K111,J,F⟩
def fD(d:Vv):gI:=
 bn d.2.1.1 (az d.2.2.1) tO
def HS(d:Vv):Int×U:=
 ((fD d).2,())
def sX(n:Nat)(f145:Vv->O HX)(f221:Y32->O HX)(d:Vv):HX->O HX:=
 λe=>ah (F219 n (e.1.1,d.2.2.2)) λg=>Z g
def CI(d:Vv):Bool:=
 aI 0 (fD d).3
def RF(d:Vv):Int×U:=
 (bn (fD d).3 (az 0) 0,())
def RE(f145:Vv->O HX)(d:Vv):O HX:=
 f145 (d.1,d.2.1,bn (fD d).3 (az 0) 0,J,())
def Z8(f145:Vv->O HX)(d:Vv)(g:HX):O HX:=
 f145 (g.1.1,d.2.1,bn (fD d).3 (az 1) 0,d.2.2.2)
def RD(i:HX):Oz×U:=
 ((i.1.1.1,i.1.1.2,i.1.1.3,()),())
def agT(j:Bool×Oz×U):bJ:=
 bJ.mk j.2.1.1 j.2.1.2.1 j.2.1.2.2.1
def LR(n:Nat)(e:HX)(h:HX):O HX:=
 F146 n (h.1.1,aq e.1.1.1,())
def xZ(e:Int×Oz×U):bJ:=
 bJ.mk e.2.1.1 e.2.1.2.1 e.2.1.2.2.1
def B145:Nat->(Vv->O HX)->(Y32->O HX)->Vv->O HX:=
 λn f145 f221 d=>aO (aI d.2.2.1 d.2.1.1) (aj (aa (fD d).1 1) (ah (F218 n (d.1,1,HS d)) (sX n f145 f221 d)) (aj (aa
 (fD d).1 2) (ah (F218 n (d.1,2,HS d)) (sX n f145 f221 d)) (aj (aa (fD d).1 4) (aj (aE (fD d).2 0) (ah (F218 n (d.1,5,
 bf .i64 (-1) (fD d).2,())) (sX n f145 f221 d)) (ah (F218 n (d.1,4,HS d)) (sX n f145 f221 d))) (aj (aa (fD d).1 5) (aO
 (CI d) (ah (F220 n (d.1,6,RF d)) (sX n f145 f221 d))) (aj (aa (fD d).1 26) (aO (CI d) (ah (F220 n (d.1,31,RF d))
 (sX n f145 f221 d))) (aj (aa (fD d).1 27) (aO (CI d) (ah (F220 n (d.1,32,RF d)) (sX n f145 f221 d))) (aj (aa (fD
 d).1 7) (aO (CI d) (ah (RE f145 d) λe=>ah (F218 n (e.1.1,9,0,())) λg=>aO (aI 1 (fD d).3) (ah (Z8 f145 d g) λh=>
 ah (aj (au d.2.2.2.1) (ah (F218 n (h.1.1,10,1,())) λi=>Z (N (W,RD i))) (Z (N (J,RD h)))) λ(i :
 Y34)=>ck i (λj=>Z ((agT j,()),())) (λ_ _=>Y) (λ_ _=>Z ((g8,()),())) λ_ _=>Y))) (aj (aa
 (fD d).1 8) (aO (CI d) (ah (RE f145 d) λe=>ah (F218 n (e.1.1,12,0,())) λg=>aO (aI 1 (fD d).3) (ah (Z8 f145 d g)
 λh=>aj d.2.2.2.1 (ah (LR n e h) λi=>aO (aI 2 (fD d).3) (ah (f145 (i.1.1,d.2.1,bn (fD d).3 (az 2) 0,W,())) λj
 =>Z j)) (ah (F218 n (h.1.1,11,0,())) λi=>ah (LR n e i) λj=>aO (aI 2 (fD d).3) (ah (f145 (j.1.1,d.2.1,bn (fD d).3
 (az 2) 0,J,())) λk=>ah (LR n h k) λl=>Z l))))) (aj (aa (fD d).1 15) (aO (CI d) (ah (RE f145 d) λe=>
 ah (f221 (e.1.1,d.2.1,fD d,d.2.2.2)) λg=>Z g)) (ah (aQ (Int×Oz×U) (U) (Oz×U) (λe=>aj (aE e.1 (aq
 (fD d).3)) (aO (aI e.1 (fD d).3) (ah (f145 (xZ e,d.2.1,bn (fD d).3 (az e.1) 0,J,())) λg=>Z (N (aG .i64
 e.1 1,RD g)))) (Z (H 0 e))) n (0,(d.1.1,d.1.2,d.1.3,()),())) λe=>bK e (λ_ h=>aj (aa (fD d).1 6) (aj d.2.2.2.1
 (ah (F218 n (xZ h,8,0,())) λi=>Z i) (ah (F218 n (xZ h,7,0,())) λi=>Z i)) (aj (aa (fD d).1 14) (ah (F218 n
 (xZ h,18,HS d)) (sX n f145 f221 d)) (aj (aa (fD d).1 24) (ah (F218 n (xZ h,29,HS d)) (sX n f145 f221 d)) (ah
 (F222 n ((fD d).1,())) λi=>ah (F218 n (xZ h,i.1.1,0,())) (sX n f145 f221 d))))) (λ_ _=>Z ((g8,()),()))
 λ_ _=>Y))))))))))
abbrev aaQ(F:Fn Zn K111 J):lI sg:=⟨Zn,K111,J,F⟩
def CH(i:HX):Oz×U:=
 ((i.1.1.1,i.1.1.2,i.1.1.3,()),())
def agQ(j:Bool×Oz×U):bJ:=
 bJ.mk j.2.1.1 j.2.1.2.1 j.2.1.2.2.1
def Z6(i:Int×Oz×U):bJ:=
 bJ.mk i.2.1.1 i.2.1.2.1 i.2.1.2.2.1
def B221:Nat->(Vv->O HX)->Y32->O HX:=
 λn f145 c=>ah (aQ (Y33) (U) (Oz×U) (λd=>aj (aE d.2.1 (aq c.2.2.1.4)) (aO (aI d.2.1 c.2.2.1.4) (aO (de
 d.2.2.1.2.1 [bn c.2.2.1.4 (az d.2.1) aK]) (aO (aI (aG .i64 1 d.2.1) c.2.2.1.3) (ah (F218 n (bJ.mk d.2.2.1.1 (cZ
 d.2.2.1.2.1 [bn c.2.2.1.4 (az d.2.1) aK]) d.2.2.1.2.2.1,19,bf .i64 (aq (cZ d.2.2.1.2.1 [bn c.2.2.1.4 (az d.2.1) aK])) 1,
 ())) λe=>ah (f145 (e.1.1,c.2.1,bn c.2.2.1.3 (az (aG .i64 1 d.2.1)) 0,c.2.2.2)) λg=>aj (au c.2.2.2.1) (aO (aI d.2.1
 c.2.2.1.4) (ah (F163 n (bn c.2.2.1.4 (az d.2.1) aK,())) λh=>ah (aj (aE 0 h.1.1) (ah (F218 n (g.1.1,10,h.1)) λi=>Z
 (N (W,CH i))) (Z (N (J,CH g)))) λ(i:Y34)=>ck i (λj=>aO (de d.1 [aq j.2.1.1]) (ah (F218 n (agQ
 j,11,0,())) λk=>ah (F146 n (k.1.1,aq d.2.2.1.1,())) λl=>Z (N (cZ d.1 [aq j.2.1.1],aG .i64 d.2.1 1,CH l)))) (λ
 _ _=>Y) (λj _=>Z (X j ())) λ_ _=>Y)) (ah (F146 n (g.1.1,aq d.2.2.1.1,())) λh=>Z (N (d.1,aG .i64 d.2.1
 1,CH h))))))) (Z (H 0 d))) n ([],0,(c.1.1,c.1.2,c.1.3,()),())) λd=>bK d (λ_ g=>ah (F218 n (bJ.mk
 g.2.2.1.1 g.2.2.1.2.1 g.2.2.1.2.2.1,20,0,())) λh=>ah (aQ (Int×Oz×U) (U) (Oz×U) (λi=>aj (aE i.1 (aq g.1))
 (aO (aI i.1 g.1) (aO (dV (az i.1) g.1) (ah (F146 n (Z6 i,bn g.1 (az i.1) 0,())) λj=>Z (N (aG .i64 i.1 1,CH
 j))))) (Z (H 0 i))) n (0,CH h)) λi=>bK i (λ_ k=>Z ((Z6 k,()),())) (λ_ _=>Z ((g8,()),())) λ
 _ _=>Y) (λ_ _=>Z ((g8,()),())) λ_ _=>Y
def D145(n:Nat)(f145:Fn Rc K111 J)(f221:Fn Zn K111 J)(a:bC prog 145 (PA f145))(b:bC prog 221 (aaQ f221)):bC prog 145 (PA (B145 n f145 f221)):=cS [⟨145,PA f145,a⟩,aeX n,abt n,an2 n,an1 n,⟨221,aaQ f221,b⟩,an0 n] [(145,1,⟨[(12,dy),(0,QY)],[.slot 4],[],0⟩),(145,1000020,⟨[(102,dg),(0,QY)],[.slot 4],[],0⟩)] n 10 145
def D221(n:Nat)(f145:Fn Rc K111 J)(a:bC prog 145 (PA f145)):bC prog 221 (aaQ (B221 n f145)):=cS [⟨145,PA f145,a⟩,aeX n,aiu n,abt n] [(221,0,⟨[(9,.one (.own (.int .i64))),(10,dy),(0,QY)],[.slot 4],[],0⟩),(221,2,⟨[(13,dy),(0,QY)],[.slot 4],[],0⟩),(221,1000011,⟨[(59,dg),(0,QY)],[.slot 4],[],0⟩)] n 10 221
def R145(n k:Nat):(Fn Rc K111 J)×(Fn Zn K111 J):=Nat.rec (motive:=λ_=>(Fn Rc K111 J)×(Fn Zn K111 J)) ((λ_=>Y,λ_=>Y)) (λ_ r=>(B145 n r.1 r.2,B221 n r.1)) k
def F145(n:Nat):Fn Rc K111 J:=(R145 n n).1
def aeb(n:Nat):∀k,bC prog 145 (PA (R145 n k).1)∧bC prog 221 (aaQ (R145 n k).2)
 |0=>⟨cm (enters 145 (by kernel_rfl)),cm (enters 221 (by kernel_rfl))⟩
 |k+1=>have a:=aeb n k
  ⟨D145 n _ _ a.1 a.2,D221 n _ a.1⟩
def aoM(n:Nat):OC:=⟨145,PA (F145 n),(aeb n n).1⟩
def F98:Nat->gS×U->Y95:=
 λn b=>ah (aQ (Y33) (U) (Oz×U) (λc=>aj (aE c.2.1 (aq b.1.2)) (aO (de c.1 [aq c.2.2.1.1]) (aO (aI c.2.1 b.1.2)
 (ah (F145 n (bJ.mk c.2.2.1.1 c.2.2.1.2.1 c.2.2.1.2.2.1,b.1,bn b.1.2 (az c.2.1) 0,W,())) λd=>Z (N (cZ c.1 [aq
 c.2.2.1.1],aG .i64 c.2.1 1,(d.1.1.1,d.1.1.2,d.1.1.3,()),()))))) (Z (H 0 c))) n ([],0,([],[],[],()),())) λc=>bK c (λ_
 e=>ah (aQ (Int×Oz×U) (U) (Oz×U) (λg=>aj (aE g.1 (aq g.2.1.2.2.1)) (aO (aI g.1 g.2.1.2.2.1) (ah (F146 n
 (bJ.mk g.2.1.1 g.2.1.2.1 g.2.1.2.2.1,(bn g.2.1.2.2.1 (az g.1) AT).2,())) λh=>aO (aI g.1 g.2.1.2.2.1) (ah (F145 n
 (h.1.1,b.1,(bn g.2.1.2.2.1 (az g.1) AT).1,W,())) λi=>Z (N (aG .i64 g.1 1,(i.1.1.1,i.1.1.2,i.1.1.3,()),())))))
 (Z (H 0 g))) n (0,e.2.2)) λg=>bK g (λ_ i=>Z ((aA.mk i.2.1.1 i.2.1.2.1 e.1 b.1.3 b.1.4,()),())) (λ_ _=>Z
 ((qi,()),())) λ_ _=>Y) (λ_ _=>Z ((qi,()),())) λ_ _=>Y
def k98(n:Nat):OC:=⟨98,⟨ase,K117,J,F98 n⟩,cS [aoM n,aeX n] [(98,0,⟨[(4,.one (.own (.int .i64))),(5,dy),(0,QY)],[.slot 3],[],0⟩),(98,2,⟨[(6,dy),(0,QY)],[.slot 3],[],0⟩)] n 10 98⟩
def F42:Nat->L UInt8×U->Y95:=
 λn b=>ah (F96 n b) λc=>ah (F97 n (c.1.1,())) λd=>ah (F98 n (d.1.1,())) λe=>Z e
def k42(n:Nat):OC:=⟨42,⟨P7,K117,J,F42 n⟩,cS [k96 n,k97 n,k98 n] [] n 10 42⟩
def F43:Y92:=
 λn b=>Z ((ax.mk 1 b.1,()),())
def k43(n:Nat):OC:=⟨43,⟨P26,K20,J,F43 n⟩,cS [] [] n 10 43⟩
def ZQ(n:Nat):Y95:=
 F42 n ([109,111,100,117,108,101,32,97,32,123,32,102,117,110,32,109,97,105,110,40,117,32,58,32,117,110,105,116,41,32,58,
 32,105,110,116,32,61,32,108,101,116,32,99,32,61,32,99,101,108,108,40,49,41,32,105,110,32,108,101,116,32,120,32,61,32,
 111,117,116,40,48,44,32,103,101,116,40,99,41,41,32,105,110,32,108,101,116,32,121,32,61,32,112,117,116,40,99,44,32,105,
 110,112,117,116,41,32,105,110,32,103,101,116,40,99,41,32,43,32,49,59,32,125],())
def yU(n:Nat):O Y4:=
 Z ((J,()),())
def J4(e:Y96):aP:=
 bn e.1.2.1 (az 2) cN
def J3(e:Y96):aP:=
 bn e.1.2.1 (az 5) cN
def F12:Nat->U->O Y4:=
 λn _=>ah (F42 n ([109,111,100,117,108,101,32,98,32,123,32,102,117,110,32,119,111,114,107,40,99,32,58,32,99,104,97,110,
 32,105,110,116,41,32,58,32,117,110,105,116,32,61,32,108,101,116,32,120,32,61,32,115,101,110,100,40,99,44,32,53,41,32,
 105,110,32,115,101,110,100,40,99,44,32,54,41,59,32,102,117,110,32,109,97,105,110,40,117,32,58,32,117,110,105,116,41,
 32,58,32,105,110,116,32,61,32,108,101,116,32,99,32,61,32,99,104,97,110,32,105,110,32,108,101,116,32,116,32,61,32,115,
 112,97,119,110,40,102,117,110,32,117,32,61,62,32,119,111,114,107,32,99,41,32,105,110,32,116,97,107,101,40,99,41,32,43,
 32,114,101,115,101,116,40,49,32,43,32,40,115,104,105,102,116,32,107,32,61,62,32,107,32,40,107,32,49,48,41,41,41,59,
 32,125],())) λc=>ah (F13 n (c.1.1,[],())) λd=>ah (F20 n (c.1.1,d.1.1,[0,0,1,1,0,0,1],())) λe=>ah (F24 n (c.1.1,e.1.1,
 ())) λg=>ah (ZQ n) λh=>ah (F13 n (h.1.1,[],())) λi=>ah (ZQ n) λj=>ah (F28 n (j.1.1,i.1.1,0,())) λk=>aj (au
 (aa d.1.2.1 0)) (yU n) (aj (au (aa e.1.2.2.1 0)) (yU n) (aj (au (aa g.1.2.1 0)) (yU n) (aj (au (aa i.1.2.1 0))
 (yU n) (aj (au (aa k.1.2.2.2.1 0)) (yU n) (aj (au (aa (aq e.1.2.1) 7)) (yU n) (aO (aI 2 e.1.2.1) (ah (F43 n (5,())) λ
 l=>aj (bZ (aa (J4 e).1 1) (bZ (aa (J4 e).2 22) (bZ (aa (J4 e).3 0) (bZ (aa (J4 e).4.1 l.1.1.1) (bZ
 (aa (J4 e).4.2 l.1.1.2) W))))) (aO (aI 5 e.1.2.1) (ah (F43 n (17,())) λm=>aj (bZ (aa (J3 e).1 0) (bZ (aa (J3
 e).2 0) (bZ (aa (J3 e).3 1) (bZ (aa (J3 e).4.1 m.1.1.1) (bZ (aa (J3 e).4.2 m.1.1.2) W))))) (aj (aa (aq g.1.1.1)
 2) (ah (F43 n (1,())) λo=>aj (bZ (aa k.1.2.1.1 0) (bZ (aa k.1.2.1.2 16) (bZ (aa k.1.2.1.3 0) (bZ (aa k.1.2.1.4.1
 o.1.1.1) (bZ (aa k.1.2.1.4.2 o.1.1.2) W))))) (Z ((aa k.1.2.2.1 3,()),())) (yU n)) (yU n)) (yU n))) (yU n))))))))
def k12(n:Nat):OC:=⟨12,⟨[],K4,J,F12 n⟩,cS [k13 n,k20 n,k24 n,k28 n,k42 n,k43 n] [] n 10 12⟩
def F104:Y41:=
 λn b=>aj (br b.2.1 b.1) (Z ((br b.1 b.2.2.1,()),())) (Z ((J,()),()))
def aiD(n:Nat):OC:=⟨104,⟨P6,K4,J,F104 n⟩,cS [] [] n 10 104⟩
def F241:Y41:=
 λn b=>aj (br b.2.1 b.1) (Z ((br b.1 b.2.2.1,()),())) (Z ((J,()),()))
def ain(n:Nat):OC:=⟨241,⟨P6,K4,J,F241 n⟩,cS [] [] n 10 241⟩
def F158:Y79:=
 λn b=>ah (aQ (Y80) (Bool×U) (U) (λc=>aj (aE c.2.1 (aq b.1)) (aO (aI c.2.1 b.1) (ah (F240 n ((bn b.1 (az c.2.1)
 aY).1,())) λd=>aj (au d.1.1) (Z (X () (J,()))) (aO (aI c.2.1 b.1) (ah (F241 n ((bn b.1 (az c.2.1) aY).2,0,
 3,())) λe=>aj (au e.1.1) (Z (X () (J,()))) (aO (aI c.2.1 b.1) (aO (de c.1 [(bn b.1 (az c.2.1) aY).1]) (Z
 (N (cZ c.1 [(bn b.1 (az c.2.1) aY).1],aG .i64 c.2.1 1,()))))))))) (Z (H 0 c))) n ([],0,())) λc=>bK c (λ_ e
 =>aj (br (aq b.1) 20) (ah (F139 n (e.1,())) λg=>Z g) (Z ((J,()),()))) (λ_ e=>Z (e,())) λ_ _=>Y
def aoL(n:Nat):OC:=⟨158,⟨P8,K4,J,F158 n⟩,cS [aeY n,Xz n,ain n] [(158,0,⟨[(3,.one (.own (.str))),(4,dy)],[],[],0⟩)] n 10 158⟩
def F105:Y79:=
 λn b=>ah (F158 n b) λc=>Z c
def aoZ(n:Nat):OC:=⟨105,⟨P8,K4,J,F105 n⟩,cS [aoL n] [] n 10 105⟩
abbrev WN(F:Fn P9 K4 J):lI sg:=⟨P9,K4,J,F⟩
def HR(n:Nat)(f159:VV->O Y4)(c:VV):Bool×Int×U->O akU:=
 λi=>aj (aE i.2.1 (aq c.1.4)) (aj i.1 (aO (aI i.2.1 c.1.4) (ah (f159 (bn c.1.4 (az i.2.1) aK,c.2)) λj=>Z (N
 (j.1.1,aG .i64 i.2.1 1,())))) (Z (H 0 i))) (Z (H 0 i))
def HQ(n:Nat)(f159:VV->O Y4):akU->O Y4:=
 λi=>bK i (λ_ k=>Z ((k.1,()),())) (λ_ k=>Z (k,())) λ_ _=>Y
def B159:alb:=
 λn f159 c=>ah (aj (aa c.1.1 1) (Z (N (W,()))) (ah (aj (aa c.1.1 2) (Z (N (W,()))) (Z (N (aa c.1.1
 5,())))) λ(d:nT)=>ck d (λe=>Z (N e)) (λ_ _=>Y) (λ_ g=>Z (X () g)) λ_ _=>Y)) λ(d:nT)=>
 ck d (λe=>ah (aj e.1 (aj (aa (aq c.1.4) 0) (Z (N (aa c.1.2 0,W,()))) (Z (N (J,W,())))) (ah (aj
 (aa c.1.1 3) (aj (aa (aq c.1.4) 0) (ah (F241 n (c.1.2,(-1000000000),1000000000,())) λg=>Z (N (g.1.1,W,()))) (Z
 (N (J,W,())))) (ah (aj (aa c.1.1 4) (aj (aa (aq c.1.4) 0) (ah (F241 n (c.1.2,0,1,())) λg=>Z (N (g.1.1,
 W,()))) (Z (N (J,W,())))) (ah (aj (aa c.1.1 6) (ah (F241 n (c.1.2,0,bf .i64 (aq c.2.1) 1,())) λg=>aj g.1.1
 (aO (aI c.1.2 c.2.1) (Z (N (aa (aq c.1.4) (bn c.2.1 (az c.1.2) aY).2,W,())))) (Z (N (J,W,())))) (Z
 (N (J,J,())))) λ(g:yo)=>ck g (λh=>Z (N (h.1,J,()))) (λ_ _=>Y) (λ_ i=>Z (X () i))
 λ_ _=>Y)) λ(g:yo)=>ck g (λh=>Z (N (h.1,J,()))) (λ_ _=>Y) (λ_ i=>Z (X () i)) λ_ _=>
 Y)) λ(g:yo)=>ck g (λh=>Z (N (h.1,J,()))) (λ_ _=>Y) (λ_ i=>Z (X () i)) λ_ _=>Y)) λ(g
 :yo)=>ck g (λh=>aj h.1 (ah (aQ (Bool×Int×U) (Bool×U) (U) (HR n f159 c) n (gC c.1.3 [],0,())) (HQ n
 f159)) (ah (aQ (Bool×Int×U) (Bool×U) (U) (HR n f159 c) n (J,0,())) (HQ n f159))) (λ_ _=>Y) (λ_ i=>
 Z (i,())) λ_ _=>Y) (λ_ _=>Y) (λ_ g=>Z (g,())) λ_ _=>Y
def D159(n:Nat)(f159:Fn P9 K4 J)(a:bC prog 159 (WN f159)):bC prog 159 (WN (B159 n f159)):=cS [⟨159,WN f159,a⟩,ain n] [(159,1,⟨[(5,dg),(7,dy)],[],[],0⟩),(159,1000005,⟨[(13,dg)],[],[],0⟩),(159,1000006,⟨[(13,dg)],[],[],0⟩),(159,1000007,⟨[(5,dg),(13,dg)],[],[],0⟩),(159,1000009,⟨[(5,dg),(24,dg)],[],[],0⟩),(159,1000011,⟨[(5,dg),(33,dg)],[],[],0⟩),(159,1000013,⟨[(5,dg),(42,dg)],[],[],0⟩)] n 10 159
def R159(n k:Nat):(Fn P9 K4 J):=Nat.rec (motive:=λ_=>(Fn P9 K4 J)) (λ_=>Y) (λ_ r=>B159 n r) k
def F159(n:Nat):Fn P9 K4 J:=(R159 n n)
def aea(n:Nat):∀k,bC prog 159 (WN (R159 n k))
 |0=>cm (enters 159 (by kernel_rfl))
 |k+1=>have a:=aea n k
  D159 n _ a
def aoK(n:Nat):OC:=⟨159,WN (F159 n),(aea n n)⟩
def F106:Nat->VV->O Y4:=
 λn b=>ah (F159 n (aB.mk b.1.1 b.1.2 b.1.3 b.1.4,b.2)) λc=>Z c
def aoY(n:Nat):OC:=⟨106,⟨P9,K4,J,F106 n⟩,cS [aoK n] [] n 10 106⟩
def HJ(n:Nat):nT->O nT:=
 λc=>ck c (λd=>Z (N d)) (λ_ _=>Y) (λ_ e=>Z (X () e)) λ_ _=>Y
def LJ(n:Nat)(b:Y28):O Y4:=
 aj (aa b.2.1.1 1) (ah (F104 n (b.2.1.2,(-1000000000),1000000000,())) λc=>Z c) (aj (aa b.2.1.1 2) (ah (F104 n (b.2.1.2,0,1,()))
 λc=>Z c) (aj (aa b.2.1.1 4) (ah (F104 n (b.2.1.2,0,29,())) λc=>Z c) (aj (aa b.2.1.1 5) (ah (F104 n (b.2.1.2,0,bf .i64
 (aq b.1.3) 1,())) λc=>Z c) (ah (aj (aa b.2.1.1 6) (Z (N (W,()))) (ah (aj (aa b.2.1.1 11) (Z (N (W,())))
 (ah (aj (aa b.2.1.1 12) (Z (N (W,()))) (ah (aj (aa b.2.1.1 31) (Z (N (W,()))) (Z (N (aa b.2.1.1 32,
 ())))) (HJ n))) (HJ n))) (HJ n))) λ(c:nT)=>ck c (λd=>aj d.1 (ah (F104 n (b.2.1.2,0,bf .i64 (aq b.1.1) 1,()))
 λe=>Z e) (aj (aa b.2.1.1 10) (ah (F104 n (b.2.1.2,1,30,())) λe=>Z e) (aj (aa b.2.1.1 18) (ah (F104 n (b.2.1.2,0,bf .i64
 (aq b.1.5) 1,())) λe=>Z e) (aj (aa b.2.1.1 19) (ah (F104 n (b.2.1.2,0,bf .i64 (aq b.1.2) 1,())) λe=>aj e.1.1 (ah (F104
 n (b.2.1.3,0,bf .i64 (aq b.1.1) 1,())) λg=>Z g) (Z ((J,()),()))) (aj (aa b.2.1.1 29) (ah (F104 n (b.2.1.2,0,3,()))
 λe=>Z e) (ah (F104 n (b.2.1.1,1,34,())) λe=>aj e.1.1 (Z ((aa b.2.1.2 0,()),())) (Z ((J,()),())))))))) (λ_ _=>
 Y) (λ_ e=>Z (e,())) λ_ _=>Y))))
def F107:Nat->Y28->O Y4:=
 λn b=>aj (au (aa b.2.1.1 19)) (aj (au (aa b.2.1.3 0)) (Z ((J,()),())) (LJ n b)) (LJ n b)
def aoX(n:Nat):OC:=⟨107,⟨P12,K4,J,F107 n⟩,cS [aiD n] [(107,1000014,⟨[(43,dg)],[],[],0⟩),(107,1000015,⟨[(43,dg)],[],[],0⟩),(107,1000016,⟨[(43,dg)],[],[],0⟩),(107,1000017,⟨[(43,dg)],[],[],0⟩)] n 10 107⟩
def J1(n:Nat):O Y4:=
 Z ((J,()),())
def F50:ak8:=
 λn b=>ah (F104 n (aq b.1.1,1,1500,())) λc=>aj (au c.1.1) (J1 n) (aj (aE 100 (aq b.1.2)) (J1 n) (ah (F105 n (b.1.5,
 ())) λd=>aj (au d.1.1) (J1 n) (ah (F104 n (aq b.1.3,1,300,())) λe=>aj (au e.1.1) (J1 n) (ah (F104 n (b.1.4,0,bf .i64
 (aq b.1.3) 1,())) λg=>aj (au g.1.1) (J1 n) (ah (aQ (Int×U) (Bool×U) (U) (λh=>aj (aE h.1 (aq b.1.2))
 (aO (aI h.1 b.1.2) (ah (F94 n (bn b.1.2 (az h.1) aK,12,())) λi=>aj (aE i.1.1 0) (Z (X () (J,()))) (aO (aI h.1
 b.1.2) (ah (F106 n (bn b.1.2 (az h.1) aK,b.1.5,())) λj=>aj (au j.1.1) (Z (X () (J,()))) (Z (N (aG .i64
 h.1 1,()))))))) (Z (H 0 h))) n (0,())) λh=>bK h (λ_ _=>ah (aQ (Int×U) (Bool×U) (U) (λk=>aj (aE
 k.1 (aq b.1.3)) (aO (aI k.1 b.1.3) (ah (F104 n (bn b.1.3 (az k.1) 0,0,bf .i64 (aq b.1.1) 1,())) λl=>aj (au l.1.1) (Z
 (X () (J,()))) (Z (N (aG .i64 k.1 1,()))))) (Z (H 0 k))) n (0,())) λk=>bK k (λ_ _=>ah (aQ (Int×U) (Bool×U) (U) (λo=>aj (aE o.1 (aq b.1.1)) (aO (aI o.1 b.1.1) (ah (F107 n (b.1,bn b.1.1 (az o.1) bY,())) λp=>
 aj (au p.1.1) (Z (X () (J,()))) (Z (N (aG .i64 o.1 1,()))))) (Z (H 0 o))) n (0,())) λo=>bK o (λ_ _
 =>Z ((W,()),())) (λ_ q=>Z (q,())) λ_ _=>Y) (λ_ m=>Z (m,())) λ_ _=>Y) (λ_ j=>Z (j,())) λ_ _=>
 Y)))))
def k50(n:Nat):OC:=⟨50,⟨P5,K4,J,F50 n⟩,cS [k94 n,aiD n,aoZ n,aoY n,aoX n] [(50,0,⟨[(3,dy)],[],[],0⟩),(50,2,⟨[(4,dy)],[],[],0⟩),(50,4,⟨[(5,dy)],[],[],0⟩)] n 10 50⟩
def F108:Y43:=
 λn b=>Z ((av.mk W b.1 b.2.1,()),())
def aiC(n:Nat):OC:=⟨108,⟨P14,K15,J,F108 n⟩,cS [] [] n 10 108⟩
def zU(n:Nat):VW->O VW:=
 λc=>ck c (λd=>Z (N d)) (λ_ _=>Y) (λ_ e=>Z (X () e)) λ_ _=>Y
def xl(n:Nat):VW->O VW:=
 λe=>ck e (λg=>Z (N g)) (λ_ _=>Y) (λ_ h=>Z (X () h)) λ_ _=>Y
def F160:Nat->Y28->Hq:=
 λn b=>ah (aj (aa b.2.1.1 7) (Z (N (W,()))) (ah (aj (aa b.2.1.1 13) (Z (N (W,()))) (ah (aj (aa b.2.1.1 14)
 (Z (N (W,()))) (ah (aj (aa b.2.1.1 15) (Z (N (W,()))) (ah (aj (aa b.2.1.1 16) (Z (N (W,()))) (ah (aj
 (aa b.2.1.1 17) (Z (N (W,()))) (ah (aj (aa b.2.1.1 23) (Z (N (W,()))) (Z (N (aa b.2.1.1 27,()))))
 (zU n))) (zU n))) (zU n))) (zU n))) (zU n))) (zU n))) λ(c:VW)=>ck c (λd=>aj d.1 (Z ((2,()),())) (ah (aj
 (aa b.2.1.1 9) (Z (N (W,()))) (ah (aj (aa b.2.1.1 12) (Z (N (W,()))) (ah (aj (aa b.2.1.1 19) (Z (N
 (W,()))) (ah (aj (aa b.2.1.1 21) (Z (N (W,()))) (ah (aj (aa b.2.1.1 22) (Z (N (W,()))) (ah (aj (aa b.2.1.1
 24) (Z (N (W,()))) (ah (aj (aa b.2.1.1 25) (Z (N (W,()))) (ah (aj (aa b.2.1.1 28) (Z (N (W,()))) (Z
 (N (aa b.2.1.1 29,())))) (xl n))) (xl n))) (xl n))) (xl n))) (xl n))) (xl n))) (xl n))) λ(e:VW)=>ck e
 (λg=>aj g.1 (Z ((1,()),())) (aj (aa b.2.1.1 18) (aO (aI b.2.1.2 b.1.5) (Z (((bn b.1.5 (az b.2.1.2) aY).2,()),()))) (aj
 (aa b.2.1.1 8) (Z (((-3),()),())) (aj (aa b.2.1.1 34) (Z (((-2),()),())) (Z ((0,()),())))))) (λ_ _=>Y) (λ_ h=>Z
 (h,())) λ_ _=>Y)) (λ_ _=>Y) (λ_ e=>Z (e,())) λ_ _=>Y
def aoJ(n:Nat):OC:=⟨160,⟨P12,K2,J,F160 n⟩,cS [] [(160,1000003,⟨[(7,dg)],[],[],0⟩),(160,1000004,⟨[(7,dg)],[],[],0⟩),(160,1000005,⟨[(7,dg)],[],[],0⟩),(160,1000006,⟨[(7,dg)],[],[],0⟩),(160,1000007,⟨[(7,dg)],[],[],0⟩),(160,1000008,⟨[(7,dg)],[],[],0⟩),(160,1000009,⟨[(7,dg)],[],[],0⟩),(160,1000012,⟨[(16,dg)],[],[],0⟩),(160,1000013,⟨[(16,dg)],[],[],0⟩),(160,1000014,⟨[(16,dg)],[],[],0⟩),(160,1000015,⟨[(16,dg)],[],[],0⟩),(160,1000016,⟨[(16,dg)],[],[],0⟩),(160,1000017,⟨[(16,dg)],[],[],0⟩),(160,1000018,⟨[(16,dg)],[],[],0⟩),(160,1000019,⟨[(16,dg)],[],[],0⟩)] n 10 160⟩
def F161:Y5:=
 λn b=>aj (aa b.1 8) (Z ((W,()),())) (aj (aa b.1 20) (Z ((W,()),())) (Z ((aa b.1 34,()),())))
def aoI(n:Nat):OC:=⟨161,⟨P26,K4,J,F161 n⟩,cS [] [] n 10 161⟩
def Cz(n:Nat):O Y4:=
 Z ((J,()),())
def F162:Y5:=
 λn b=>aj (aa b.1 9) (Cz n) (aj (aa b.1 10) (Cz n) (aj (aa b.1 11) (Cz n) (aj (aa b.1 12) (Cz n) (aj (aa b.1
 19) (Cz n) (Z ((W,()),()))))))
def aoH(n:Nat):OC:=⟨162,⟨P26,K4,J,F162 n⟩,cS [] [] n 10 162⟩
def ia(b:Q7):bN:=
 bn b.1.1 (az b.2.1) bY
def oV(n:Nat)(b:Q7):Tk->Zg:=
 λi=>Z (([bh.mk (aG .i64 b.2.1 1) i.1.1],W,()),())
def rH(n:Nat)(b:Q7)(h:Int×Bool×U):O Tk:=
 F108 n (h.1,b.2.2.1.3,())
def u9(n:Nat)(b:Q7)(i:Tk):Tk->Zg:=
 λj=>Z (([bh.mk (aG .i64 b.2.1 1) i.1.1,bh.mk (ia b).2 j.1.1],W,()),())
def nk(n:Nat)(b:Q7)(c:(Int×U)×U):Zg:=
 ah (F161 n ((ia b).1,())) λd=>aj d.1.1 (Z (([],W,()),())) (ah (F162 n ((ia b).1,())) λe=>ah (aj e.1.1 (Z (N
 (aG .i64 (bf .i64 b.2.2.1.2 c.1.1) 1,W,()))) (Z (N (bf .i64 b.2.2.1.2 c.1.1,J,())))) λ(g:LO (Int×Bool×U)
 (Zh×Bool×U) U Any)=>ck g (λh=>aj (aa (ia b).1 9) (ah (F108 n (h.1,aG .i64 b.2.2.1.3 1,())) (oV n b)) (aj
 (aa (ia b).1 10) (ah (F108 n (h.1,bf .i64 b.2.2.1.3 (ia b).2,())) (oV n b)) (aj (aa (ia b).1 11) (Z
 (([bh.mk (ia b).2 b.2.2.1],W,()),())) (aj (aa (ia b).1 12) (ah (rH n b h) λi=>ah (rH n b h) (u9 n b
 i)) (aj (aa (ia b).1 19) (aO (aI (ia b).2 b.1.2) (ah (F163 n (bn b.1.2 (az (ia b).2) aK,())) λi=>ah (F108 n (h.1,
 aG .i64 b.2.2.1.3 i.1.1,())) λj=>Z (([bh.mk (aG .i64 b.2.1 1) j.1.1,bh.mk (ia b).3 b.2.2.1],W,()),
 ()))) (ah (aj (aa (ia b).1 6) (Z (N (W,()))) (Z (N (aa (ia b).1 32,())))) λ(i:LO (Bool×U) (Zh×Bool
 ×U) U Any)=>ck i (λj=>aj j.1 (ah (rH n b h) λk=>ah (F108 n (0,aG .i64 b.2.2.1.3 1,())) (u9 n b k)) (aj (aa
 (ia b).1 31) (ah (rH n b h) λk=>ah (F108 n (0,b.2.2.1.3,())) (u9 n b k)) (ah (rH n b h) (oV n b)))) (λ_ _=>Y)
 (λ_ k=>Z (k,())) λ_ _=>Y)))))) (λ_ _=>Y) (λ_ i=>Z (i,())) λ_ _=>Y)
def CD(n:Nat)(b:Q7)(c:(Int×U)×U):Zg:=
 aj (aa (ia b).1 10) (aj (aE b.2.2.1.3 (ia b).2) (Z (([],J,()),())) (nk n b c)) (nk n b c)
def F109:Nat->Q7->Zg:=
 λn b=>aO (aI b.2.1 b.1.1) (ah (F160 n (b.1,ia b,())) λc=>aj (aE c.1.1 0) (Z (([],aa b.2.2.1.2 (bf .i64 (-1) c.1.1),
 ()),())) (aj (aE b.2.2.1.2 c.1.1) (Z (([],J,()),())) (aj (aa (ia b).1 4) (aj (br b.2.2.1.3 (ia b).2) (Z (([],J,
 ()),())) (CD n b c)) (CD n b c))))
def aoW(n:Nat):OC:=⟨109,⟨asd,K119,J,F109 n⟩,cS [aiC n,aoJ n,aoI n,aoH n,aiu n] [(109,1000011,⟨[(10,dy),(63,dg)],[],[],0⟩),(109,1000024,⟨[(138,dg)],[],[],0⟩)] n 10 109⟩
def nC(n:Nat):akH:=
 Z (X () ([],J,()))
def vE(g:Zc):Bool:=
 aI (bn g.2.1 (az g.2.2.1) aW).1 g.1
def jv(g:Zc):Nat:=
 az (bn g.2.1 (az g.2.2.1) aW).1
def Bn(n:Nat)(b:aA×U)(g:Zc):akH:=
 aO (vE g) (aO (dV (jv g) g.1) (aj (bn g.1 (jv g) aU).1 (Z (N (g.1,g.2.1,aG .i64 g.2.2.1 1,()))) (aO (vE g)
 (aO (dV (jv g) g.1) (ah (F109 n (b.1,(bn g.2.1 (az g.2.2.1) aW).1,(bn g.2.1 (az g.2.2.1) aW).2,())) λh
 =>aj (au h.1.2.1) (nC n) (aO (de g.2.1 h.1.1) (Z (N (lE g.1 (jv g) (bn g.2.1 (az g.2.2.1) aW).2,cZ g.2.1
 h.1.1,aG .i64 g.2.2.1 1,())))))))))
def F51:Nat->aA×U->O (acO×U):=
 λn b=>aO (nR (PR (aq b.1.1)) (gi (aq b.1.1) (aq b.1.1))) (ah (aQ (Zh×Int×U) (acO) (U) (λc=>aj (aE c.2.1
 (aq b.1.3)) (aO (aI c.2.1 b.1.3) (ah (F108 n (0,1,())) λd=>aO (de c.1 [bh.mk (bn b.1.3 (az c.2.1) 0) d.1.1]) (Z
 (N (cZ c.1 [bh.mk (bn b.1.3 (az c.2.1) 0) d.1.1],aG .i64 c.2.1 1,()))))) (Z (H 0 c))) n ([],0,())) λc=>
 bK c (λ_ e=>ah (aQ (Zc) (acO) (U) (λg=>aj (aE g.2.2.1 (aq g.2.1)) (aO (aI g.2.2.1 g.2.1) (aO (dV (az
 g.2.2.1) g.2.1) (aO (aI g.2.2.1 g.2.1) (aO (dV (az g.2.2.1) g.2.1) (aj (br (aq b.1.1) (bn g.2.1 (az g.2.2.1) aW).1)
 (nC n) (aj (aE 60 (bn g.2.1 (az g.2.2.1) aW).2.2) (nC n) (aj (aE 30 (bn g.2.1 (az g.2.2.1) aW).2.3)
 (nC n) (aO (vE g) (aO (dV (jv g) g.1) (aj (bn g.1 (jv g) aU).1 (aO (vE g) (aO (dV (jv g) g.1) (aj (au (bZ
 (o7 (bn g.1 (jv g) aU).1 (bn g.2.1 (az g.2.2.1) aW).2.1) (bZ (aa (bn g.1 (jv g) aU).2 (bn g.2.1
 (az g.2.2.1) aW).2.2) (bZ (aa (bn g.1 (jv g) aU).3 (bn g.2.1 (az g.2.2.1) aW).2.3) W))))
 (nC n) (Bn n b g)))) (Bn n b g))))))))))) (Z (H 0 g))) n (aev (az (aq b.1.1)) aU,e.1,0,())) λg=>bK g (λ_ i
 =>Z ((i.1,W,()),())) (λ_ i=>Z (i,())) λ_ _=>Y) (λ_ e=>Z (e,())) λ_ _=>Y)
def k51(n:Nat):OC:=⟨51,⟨P5,K120,J,F51 n⟩,cS [aiC n,aoW n] [(51,0,⟨[(5,.one (.own (.st 26))),(6,dy)],[],[],0⟩),(51,2,⟨[(4,.one (.own (.st 9))),(5,.one (.own (.st 26))),(7,dy)],[],[],0⟩)] n 10 51⟩
def F14:Nat->aA×U->Y35:=
 λn b=>ah (F50 n b) λc=>aj (au c.1.1) (Z ((lG,J,()),())) (ah (F51 n b) λd=>Z ((bD.mk
 b.1 d.1.1,d.1.2),()))
def k14(n:Nat):OC:=⟨14,⟨P5,K121,J,F14 n⟩,cS [k50 n,k51 n] [] n 10 14⟩
def F52:Y41:=
 λn b=>aj (br b.2.1 b.1) (Z ((br b.1 b.2.2.1,()),())) (Z ((J,()),()))
def k52(n:Nat):OC:=⟨52,⟨P6,K4,J,F52 n⟩,cS [] [] n 10 52⟩
def F15:ars:=
 λn b=>ah (aQ (Int×U) (Bool×U) (U) (λc=>aj (aE c.1 (aq b.1)) (aj (br c.1 b.2.1) (aO (aI c.1 b.1) (ah (F52
 n (bn b.1 (az c.1) 0,(-1000000000),1000000000,())) λd=>aj (au d.1.1) (Z (X () (J,()))) (Z (N (aG .i64 c.1 1,
 ()))))) (Z (H 0 c))) (Z (H 0 c))) n (0,())) λc=>bK c (λ_ _=>Z ((br (aq b.1) b.2.1,()),())) (λ_ e=>Z (e,
 ())) λ_ _=>Y
def k15(n:Nat):OC:=⟨15,⟨asc,K4,J,F15 n⟩,cS [k52 n] [(15,0,⟨[(5,dy)],[],[],0⟩)] n 10 15⟩
def F35:Nat->L Int×L Int×U->O Y4:=
 λn b=>aj (au (aa (aq b.1) (aq b.2.1))) (Z ((J,()),())) (ah (aQ (Int×U) (Bool×U) (U) (λc=>aj
 (aE c.1 (aq b.1)) (aO (aI c.1 b.1) (aO (aI c.1 b.2.1) (aj (au (aa (bn b.1 (az c.1) 0) (bn b.2.1 (az c.1) 0))) (Z (X ()
 (J,()))) (Z (N (aG .i64 c.1 1,())))))) (Z (H 0 c))) n (0,())) λc=>bK c (λ_ _=>Z ((W,()),())) (λ_ e
 =>Z (e,())) λ_ _=>Y)
def k35(n:Nat):OC:=⟨35,⟨asb,K4,J,F35 n⟩,cS [] [(35,0,⟨[(5,dy)],[],[],0⟩)] n 10 35⟩
def F54:Nat->L ei×L ei×U->O Y4:=
 λn b=>aj (au (aa (aq b.1) (aq b.2.1))) (Z ((J,()),())) (ah (aQ (Int×U) (Bool×U) (U) (λc=>aj
 (aE c.1 (aq b.1)) (aO (aI c.1 b.1) (aO (aI c.1 b.2.1) (aj (au (bZ (aa (bn b.1 (az c.1) ru).1 (bn b.2.1 (az c.1)
 ru).1) (bZ (aa (bn b.1 (az c.1) ru).2 (bn b.2.1 (az c.1) ru).2) W))) (Z (X () (J,()))) (Z (N
 (aG .i64 c.1 1,())))))) (Z (H 0 c))) n (0,())) λc=>bK c (λ_ _=>Z ((W,()),())) (λ_ e=>Z (e,())) λ_ _=>
 Y)
def k54(n:Nat):OC:=⟨54,⟨asa,K4,J,F54 n⟩,cS [] [(54,0,⟨[(5,dy)],[],[],0⟩)] n 10 54⟩
def F110:Nat->L ax×L ax×U->O Y4:=
 λn b=>aj (au (aa (aq b.1) (aq b.2.1))) (Z ((J,()),())) (ah (aQ (Int×U) (Bool×U) (U) (λc=>aj
 (aE c.1 (aq b.1)) (aO (aI c.1 b.1) (aO (aI c.1 b.2.1) (aj (au (bZ (aa (bn b.1 (az c.1) bq).1 (bn b.2.1 (az c.1)
 bq).1) (bZ (aa (bn b.1 (az c.1) bq).2 (bn b.2.1 (az c.1) bq).2) W))) (Z (X () (J,()))) (Z (N
 (aG .i64 c.1 1,())))))) (Z (H 0 c))) n (0,())) λc=>bK c (λ_ _=>Z ((W,()),())) (λ_ e=>Z (e,())) λ_ _=>
 Y)
def aoV(n:Nat):OC:=⟨110,⟨ar9,K4,J,F110 n⟩,cS [] [(110,0,⟨[(5,dy)],[],[],0⟩)] n 10 110⟩
end Mn
end
end
