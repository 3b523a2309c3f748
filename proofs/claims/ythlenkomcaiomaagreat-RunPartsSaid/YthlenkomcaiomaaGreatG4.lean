import Derived.Laws.StructEq
import Derived.Room.BridgeHanded
import Derived.DataElems
import Derived.WideKeyArgs
import Derived.SizedLaws
import Derived.RowKit3
import Derived.Test.YthlenkomcaiomaaGreatProg
import Derived.KernelRfl
import Derived.Test.YthlenkomcaiomaaGreatG3
set_option linter.all false
set_option maxRecDepth 100000
set_option maxHeartbeats 0
noncomputable section
open Option renaming some->Z,none->Y
open Bool renaming true->W,false->J
open Nat renaming beq->Nq,ble->Nl,blt->Nt,succ->Ns,add->Na
open Go.Result(andThen_ok)
open Go.Sem(run_bind run_pure)
open TL.LO renaming next->N,ret->X,out->H
open TL.Rx renaming ok->G,iE->M
section
namespace TL
open Go
variable {S:Sg}
section
def Dn{E:eF S}{ops:L Oper}{bef:L Nat}{done:Nat}{fr:bX S}{i:Nat}{o:Oper}:∀{l:Wv},Qs E ops bef done fr l=Z (i,o)->(i,o)∈l∧done.testBit i=J∧e8 o=J∧Uc ops bef i o=J∧UA (bef.getD i 0) done=W
 |[],h=>by cases h
 |(j,p)::l,h=>by
  obtain⟨a,h⟩|⟨_,h⟩:=af h
  .simp_all
  .let ⟨h1,h2⟩:=Dn h
   simp_all
def Dp{bef:L Nat}{done vS:Nat}{i:Nat}{o:Oper}:∀{l:Wv},Qt bef done vS l=Z (i,o)->(i,o)∈l∧done.testBit i=J∧e8 o=J∧UA (bef.getD i 0) (done||| vS)=W
 |[],h=>by cases h
 |(j,p)::l,h=>by
  obtain⟨a,h⟩|⟨_,h⟩:=af h
  .simp_all
  .let ⟨h1,h2⟩:=Dp h
   simp_all
section
variable {ops:Array Oper}{listed:Array Bool}
theorem FG{j:Nat}(b:listed.size=ops.size)(h:j∈Region.ready .any ops listed):∃o,At ops j o∧¬ni listed j∧∀e∈yx o,ni listed e:=by
 let ⟨h1,o,c,h2⟩:=mem_ready.1 h
 have g:j<listed.size:=by grind
 refine⟨o,by unfold At;simpa using c,λi=>?_,λe f=>?_⟩
 .simp_all[ni]
 .obtain ⟨d,a,rfl⟩:=v9.1 f;rw[List.mem_filter]at a;exact h2 d (by grind) a.2
variable {bef:List Nat}{done i j:Nat}{o:Oper}
def Xa(a:listed.size=ops.size)(b:At ops j o)(hn:¬ni listed j)(c:∀e∈yx o,ni listed e):j∈Region.ready .any ops listed:=by
 have g:j<listed.size:=by rw[a];exact vH b
 refine mem_ready.2 ⟨?_,o,HF b,λe d f=>c e.on (v9.2 ⟨e,List.mem_filter.2 ⟨by simpa using d,f⟩,rfl⟩)⟩
 simp_all[ni]
theorem Je(c:vG ops.toList 0=W)(a:listed.size=ops.size)(h:Region.ready .any ops listed=[]):∀j o,At ops j o->ni listed j:=by
 intro j
 induction j using Nat.strongRecOn with
 |_ j k=>
  intro o b;refine Xg λd=>?_;have:j∈Region.ready .any ops listed:=Xa a b d λe f=>by
   have g:=Bw c b e f;have l:=vH b;have i:At ops e (ops[e]'(by omega)):=by
    grind[At]
   grind
  simp_all
theorem Hq(a:listed.size=ops.size)(h:listed.toList.count J<=0){j:Nat}{o:Oper}(b:At ops j o):ni listed j:=by
 have c:j<listed.size:=by rw[a];exact vH b
 have d:listed.toList.count J=0:=by omega
 rw[List.count_eq_zero]at d;unfold ni;simp only[Array.getD,c,dite_true];cases e:listed[j]with
 |true=>exact e|false=>
  grind
def count_set(a:listed.size=ops.size){m j:Nat}{o:Oper}(b:At ops j o)(hn:¬ni listed j)(h:listed.toList.count J<=m+1):(listed.setIfInBounds j W).toList.count J<=m:=by
 have c:j<listed.size:=by rw[a];exact vH b
 simp_all[ni,List.count_set]
end
section
variable {E:eF S}{ops:Array Oper}{jP:bX S}{s0:aY S}{g0:Gh}{w0:World}
theorem Rs(hE:fe E){call:fY S}(wK:gH E.T.E.P call)(e:za E ops jP.n){ω:Type}{kp:bX S->V S->aY S->O ω}{kk:bX S->aY S->O ω}{r:ω}{Q:Exit->Act->World->Prop}
  (hN:∀fr' s' g' a' w',kk fr' s'=Z r->fr'.n=jP.n->cR g' (bB fr') a' w'->eC s0 g0 w0 s' g' w'->dm (ops.toList.filterMap (·.dst)) jP fr' s'.dr s0.aE->Q .normal a' w')
  (hP:∀fr' t s' g' a' v w',kp fr' t s'=Z r->fr'.n=jP.n->cR g' (bB fr') a' w'->eC s0 g0 w0 s' g' w'->dm (ops.toList.filterMap (·.dst)) jP fr' s'.dr s0.aE->aH g' w' (low t) v->Q (.panic [{v,recovered:=J}]) a' w') {rr:O Nat} (I:rr≠Y->∀o∈ops.toList,∀c,o.op≠.defer c) :
  ∀(n done:Nat)(fr:bX S)(s:aY S),uP E call ops.toList (w7 ops.toList) (sv ops.toList) kp kk n done fr s=Z r->∀(m:Nat)(listed:Array Bool)(bl:Nat->Nat)(g:Gh)(a:Act)(w:World),
   sV E ops jP s0 g0 w0 done fr s bl listed g a w->listed.toList.count J<=m->adR rr E.T.E.P ops Q m listed a w:=by
 intro n
 induction n with
 |zero=>intro done fr s h;cases h
 |succ n ih=>
  intro done fr s h;simp only[uP]at h;split at h
  ·
   rename_i i o hq
   let ⟨hm,K,hna,P,z⟩:=Dn hq
   have C:At ops i o:=ju.1 hm
   replace P:¬antiP ops.toList i:=ZV C P
   obtain⟨hd,h2⟩|⟨_,h2⟩:=af h
   rotate_left
   .cases h2
   clear h;intro m listed bl g a w b F;obtain⟨hsk,h3⟩|⟨_,h2⟩:=af h2
   .exact ih _ _ _ h3 m listed bl g a w (b.float e C K hna P (Ap.1 z) hd (.inl ⟨hsk,rfl⟩)) F
   split at h2
   .cases h2
   .rename_i hg;rw[A8]at h2
    let ⟨t,e1,h3⟩:=vP.1 h2
    let ⟨t',hkb,h3⟩:=UC h3
    exact ih _ _ _ h3 m listed bl g a w (b.float e C K hna P (Ap.1 z) hd (.inr (.inl ⟨hg,t,e1,hkb⟩))) F
   .rename_i c hg
    let ⟨hok,h2⟩:=oA h2
    rw[A8]at h2
    let ⟨t,e1,h3⟩:=vP.1 h2
    exact ih _ _ _ h3 m listed bl g a w (b.float e C K hna P (Ap.1 z) hd (.inr (.inr ⟨c,t,hg,hok,e1,rfl⟩))) F
  .split at h
   ·
    rename_i i o hq
    let ⟨hm,K,hna,z⟩:=Dp hq
    have C:At ops i o:=ju.1 hm;obtain⟨R,h2⟩|⟨_,h2⟩:=af h
    rotate_left
    .cases h2
    clear h;split at h2
    .cases h2
    rename_i tO s1 had;intro m
    induction m with
    |zero=>
     intro listed bl g a w b F;exfalso;obtain h1|h1:=b.ld i o C (Hq b.KY F C)
     .simp_all
     simp_all
    |succ m ihm=>
     intro listed bl g a w b F;have hnl:¬ni listed i:=λhl=>by
      obtain h1|h1:=b.ld i o C hl
      .simp_all
      simp_all
     refine⟨λhr=>absurd (Je e.bk b.KY hr i o C) hnl,λj hj=>?_⟩
     let ⟨p,y,f,B⟩:=FG b.KY hj
     cases A:done.testBit j with
     |true=>exact b.ad9 hE e y A f B (λg' a' w' d=>ihm _ bl g' a' w' d (count_set b.KY y f F)) I|false=>
      cases haj:e8 p with
      |true=>exact b.aea hE e y A haj f B (λBM a' w' d=>ihm _ BM g a' w' d (count_set b.KY y f F)) I|false=>
       have hji:i=j:=by
        have:=kA.1 R (j,p) (ju.2 y);simp only[A,haj,Bool.false_or,oG]at this;obtain h1|h1:=this
        .simp_all
        .exact absurd (nA e.bk (λi o hi hl=>b.Vr i o hi hl) y B i h1) hnl
       subst hji;have:o=p:=jT (C.symm.trans y);subst this;refine b.step hE wK e C K f B (λj hj=>?_) had (kp:=kp) (k:=λdone fr s=>uP E call ops.toList (w7 ops.toList) (sv ops.toList) kp kk n done fr s) h2 (λdone' fr' s' g' a' w' hk d=>ih _ _ _ hk m _ bl g' a' w' d (count_set b.KY C f F)) hP I;have:=Ap.1 z j hj;rwa [Nb,oG]at this
   ·
    split at h
    .cases h
    rename_i tO s1 had;obtain⟨R,h2⟩|⟨_,h2⟩:=af h
    rotate_left
    .cases h2
    have hda:∀{j:Nat}{p:Oper},At ops j p->done.testBit j=W∨e8 p=W:=λ{j p}y=>by
     have:=kA.1 R (j,p) (ju.2 y)
     grind
    have hend:∀(listed:Array Bool)(bl:Nat->Nat)(g:Gh)(a:Act)(w:World),sV E ops jP s0 g0 w0 done fr s bl listed g a w->(∀j o,At ops j o->ni listed j)->Q .normal a w:=by
     intro listed bl g a w b hl;have hdp:∀{j:Nat}{p:Oper},At ops j p->done.testBit j=W∨(yL (sv ops.toList) done).testBit j=W:=λ{j p}y=>by cases A:done.testBit j with|true=>exact .inl rfl|false=>exact .inr ((wh done j).2 ⟨p,y,(hda y).resolve_left (by simp_all),A⟩)
     let ⟨g1,hA,hC⟩:=b.yY e had (λj hj=>by
       let ⟨p,y,_⟩:=(wh done j).1 hj
       exact⟨hl j p y,hj⟩) (λj hj x hx=>by
       let ⟨p,y,_⟩:=(wh done j).1 hj
       have hlt:=XH e.bk y x hx;have yw:=vH (ops:=ops) y;have zG:At ops x (ops[x]'(by omega)):=by
        grind[At]
       exact hdp zG)
     refine hN tO s1 g1 a w h2 hC.n ⟨hC.Wb,hC.df,λk t hk=>?_⟩ hC.BN ⟨λk v hk hv=>?_,by rw[hA.OL,hA.dr];exact b.fk.df⟩
     .rw[bW,fM]at hk;obtain⟨u,hu,rfl⟩:=hk;exact hC.tm k u hu λi o hi _=>⟨λ_=>by grind,λ_=>hl i o hi⟩
     .obtain h1|h1:=b.fk.tm k v hk hv
      .left
       rw[hA.old k λq hq _ YG=>hk (AG.2 ⟨_,iq (ju.1 hq),YG⟩)];exact h1
      .rw[hA.dr];exact .inr h1
    intro m
    induction m with
    |zero=>
     intro listed bl g a w b F;have hl:∀j o,At ops j o->ni listed j:=λj o C=>Hq b.KY F C;refine⟨?_,hend listed bl g a w b hl⟩;cases hr:Region.ready .any ops listed with
     |nil=>rfl|cons j l=>
      let ⟨p,y,f,_⟩:=FG b.KY (j:=j) (by simp_all)
      grind
    |succ m ihm=>
     intro listed bl g a w b F;refine⟨λhr=>hend listed bl g a w b (Je e.bk b.KY hr),λj hj=>?_⟩
     let ⟨p,y,f,B⟩:=FG b.KY hj
     cases A:done.testBit j with|true=>exact b.ad9 hE e y A f B (λg' a' w' d=>ihm _ bl g' a' w' d (count_set b.KY y f F)) I|false=>exact b.aea hE e y A ((hda y).resolve_left (by simp_all)) f B (λBM a' w' d=>ihm _ BM g a' w' d (count_set b.KY y f F)) I
def agV(hE:fe E)(hm:E.T.E.P.follows .mixedOrders=W){call:fY S}(e:gH E.T.E.P call):sS E call:=by
 intro id ops ω kp k r fr s u h hn g a w x p Q hN hP rr m;have y:rr≠Y->∀o∈ops.toList,∀c,o.op≠.defer c:=λhr=>S5 (m hr);unfold Zv at u;simp only[eZ]at u
 let ⟨b1,b2,b3,b4,b5,b6⟩:=u
 have z:za E ops fr.n:=⟨b1,b2,b3,b4,b5⟩;have A:s.fl=0:=vQ b6;refine M7 hm ?_
 let ⟨B,C⟩:=p.grow (fl:=s.fl) (I:=g.bh) (w':={w with drawn:=w.drawn+1}) (λ_ h=>h) (λ_ h=>.inl h) p.bh (eM _) (λ_ _=>rfl) rfl rfl
 have n:eC s g w s g {w with drawn:=w.drawn+1}:=
  ⟨B,⟨λ_ _ h=>h,λ_ _ _ _ h=>h,λ_ h=>h,eM _,λ_ _ _=>rfl,λo b d hO=>.inl ⟨o,d,hO⟩,λ_ h=>.inl h,rfl,rfl⟩,rfl,rfl,eM _,λ_ h=>h,λ_ _ _=>rfl,λ_ h=>h⟩
 have q:∀i,¬ni (Array.replicate ops.size J) i:=λi d=>by
  simp_all[ni,Array.getD]
 refine Rs hE e z (s0:=s) (g0:=g) (w0:=w) (kp:=kp) (kk:=k) (r:=r) (λl F K P w' h1 h2 h3 h4 h5=>hN l F K P w' h1 h2 h3 h4 ?_) (λl t F K P v w' h1 h2 h3 h4 h5 h6=>hP l t F K P v w' h1 h2 h3 h4 h5 h6) y _ 0 fr s h ops.size _ (λ_=>0) g a _
  ⟨by simp,rfl,hn,x.size,x.df.imp (λ_ _ R=>R.ext C p.bh) C.bP,λk t hk _=>?_,λi _ _ d=>absurd d (q i),λi _ _ hd=>by simp at hd,λi _ _ d=>absurd d (q i),λi _ _ hd=>by simp at hd,λi _ _ d=>absurd d (q i),λi _ d=>absurd d (q i),n,dm.refl _ _ _ _,A,λj _ hj=>by simp at hj⟩ (by simp)
 .exact h5
 .let ⟨v,hv,R⟩:=x.tm k (low t) (by rw[bW,hk];rfl)
  exact⟨v,hv,R.ext C p.bh⟩
def aey{E:eF S}(e:fe E)(g:E.T.E.P.follows .mixedOrders=W){f:FuncId}{fn:Func}{c:Code}(a:E.T.E.TO f=Z fn)(h:fn.body=Z c)(n d:Nat)(ps:L Pk)(b:L Ck) :
  bA E.T.E.P f ⟨ps,b,E.pn,Bb E n d f ps b⟩:=Hr e (λ_=>agV e g) a h n d ps b
end
end
section
def zD:Value->D
 |.slice Y 0 0=>.sl []|v=>.lit v
def Wy(z:Value):L D:=z.cells.toList.map zD
theorem aih(v:Value):ag9 (zD v) v:=by
 unfold zD;split
 .exact .inl ⟨rfl,rfl⟩
 .exact .inr rfl
theorem WI(z:Value):ZOk (Wy z) z.cells:=by
 refine⟨by simp[Wy],λj d v h1 h2=>?_⟩;simp only[Wy,kV,fM]at h1;obtain⟨u,a,rfl⟩:=h1
 grind[aih]
def ag0:D->Nat
 |.lit (.string _)=>16|.sl _=>24|_=>8
def oY:L D->Nat
 |[]=>0|d::l=>Na (ag0 d) (oY l)
def Hj(agg:Bool)(a:L D):Nat:=bif agg then oY a else match a with
 |[.lit (.int .i8 _)]|[.lit (.int .u8 _)]|[.lit (.bool _)]=>1|[.lit (.int .i16 _)]|[.lit (.int .u16 _)]=>2|[.lit (.int .i32 _)]|[.lit (.int .u32 _)]=>4|a=>oY a
def TP(P:Program)(f:Field):O (Nat×Nat×Bool):=match P.info? f.type,P.underlying f.type with
 |some j,Z d=>Z (f.offset,j.size,dY d)|_,_=>Y
def fieldsOf(P:Program):L Field->O (L (Nat×Nat×Bool))
 |[]=>Z []|f::l=>match TP P f,fieldsOf P l with
  |some x,Z r=>Z (x::r)|_,_=>Y
def DM{P:Program}:∀{l:L Field}{fs:L (Nat×Nat×Bool)},fieldsOf P l=Z fs->l.length=fs.length∧∀(k:Nat)off size ag,fs[k]?=Z (off,size,ag)->
  ∃f j b,l[k]?=Z f∧f.offset=off∧P.info? f.type=Z j∧j.size=size∧P.underlying f.type=Z b∧ag=dY b
 |[],fs,h=>by simp only[fieldsOf,gK]at h;subst h;exact⟨rfl,λk _ _ _ h=>by simp at h⟩
 |f::l,fs,h=>by
  simp[fieldsOf]at h;split at h
  .rename_i h1 h2;simp at h;subst h
   let ⟨c,e⟩:=DM h2
   refine⟨by simp[c],λk off size ag a=>?_⟩;cases k with
   |zero=>
    simp at a;subst a;unfold TP at h1;split at h1
    .rename_i j d g i;obtain⟨rfl,rfl,rfl⟩:=h1;exact⟨f,j,d,rfl,rfl,g,rfl,i,rfl⟩
    .cases h1
   |succ k=>exact e k off size ag (by simpa using a)
  .cases h
def Yl(P:Program):TypeDesc->Kd
 |.int k=>.leaf (.int k)|.bool=>.leaf .bool|.string=>.leaf .str|.pointer _=>.ptr|.interface _=>.iface|.slice e=>match P.info? e,P.underlying e with
  |some j,Z d=>match j.zero with
   |some z=>bif Nl j.bytes 4096&&(Nt 0 j.size&&(Nl j.bytes (Hj (dY d) (Wy z))&&(Nl (Hj (dY d) (Wy z)) (Nat.mul 2 j.bytes)&&(Nt 0 j.bytes&&Nq (cD (Wy z)) j.size))))then
     .slice j.size (dY d) (Hj (dY d) (Wy z)) (Wy z)else .other
   |none=>.other
  |_,_=>.other
 |.struct fields=>match fieldsOf P fields.toList with
  |some a=>.struct a|none=>.other
 |.array len e=>match P.info? e,P.underlying e with
  |some j,Z d=>.array len j.size (dY d)|_,_=>.other
 |_=>.other
theorem ab8(P:Program)(d:TypeDesc):amd P (Yl P d) d:=by
 cases d with
 |slice e=>
  simp only[Yl];split
  .rename_i j d h1 h2;split
   .rename_i z b;cases a:(Nl j.bytes 4096&&(Nt 0 j.size&&(Nl j.bytes (Hj (dY d) (Wy z))&&(Nl (Hj (dY d) (Wy z)) (Nat.mul 2 j.bytes)&&(Nt 0 j.bytes&&Nq (cD (Wy z)) j.size)))))with
    |false=>trivial|true=>
     simp only[eZ]at a
     let ⟨c,f,g,i,l,o⟩:=a
     exact⟨e,j,d,z,rfl,h1,rfl,h2,rfl,b,WI z,gN c,gN f,gN g,gN i,gN l,by grind[bS,Nat.eq_of_beq_eq_true]⟩
   .trivial
  .trivial
 |struct fields=>
  simp[Yl];split
  .rename_i h
   let ⟨m,p⟩:=DM h
   exact⟨fields,rfl,by simpa using m,λk off size q r=>by
    grind⟩
  .trivial
 |array len e=>
  simp[Yl];split
  .rename_i j d h1 h2;exact⟨e,j,d,rfl,h1,rfl,h2,rfl⟩
  .trivial
 |int k=>exact rfl|bool=>exact rfl|string=>exact rfl|pointer e=>exact⟨e,rfl⟩|interface n=>exact⟨n,rfl⟩|_=>trivial
def Ys:Value->Bool
 |.agg _=>W|_=>J
def abh(P:Program)(a:TypeId->L Lk)(t:TypeId):O TI:=match P.info? t,P.underlying t with
 |some x,Z d=>match x.zero with
  |some z=>bif (bif dY d then Ys z else !(Ys z))then Z ⟨x.size,dY d,Wy z,bif dY d then a t else[],Yl P d⟩else Y|none=>Y
 |_,_=>Y
variable {P:Program}
def abg{a:TypeId->L Lk}(n:∀t,a t≠[]->ahv P t (a t)){t:TypeId}{i:TI}(h:abh P a t=Z i):m7 P t i:=by
 unfold abh at h;split at h
 .rename_i x d j k;split at h
  .rename_i z l;obtain⟨g,h⟩|⟨_,h⟩:=af h
   .simp at h;subst h;refine⟨λb m=>?_,λo c=>?_,λp q e f=>?_,x,d,z,j,k,rfl,rfl,l,WI z,ab8 P d⟩
    .simp_all
    .rw[k]at c;cases c;rfl
    .rw[j]at e;cases e;rw[l]at f;cases f;refine⟨λb=>?_,λb=>?_⟩
     .dsimp only at b;rw[b,gY]at g;cases z<;>first|exact⟨_,rfl⟩|cases g
     .dsimp only at b;rw[b,jo]at g;cases z<;>first|rfl|cases g
   .cases h
  .cases h
 .cases h
end
section
def GP(P:Program)(b:TypeId->O (L Lk)):L Field->Nat->O (L Lk)
 |[],_=>Z []|f::l,off=>match b f.type,P.info? f.type with
  |some a,Z j=>bif (f.name != "_")&&(Nq f.offset off&&Nq j.size (cD a))then(GP P b l (Na off (cD a))).map λr=>a++r else Y|_,_=>Y
def DL(P:Program):Nat->TypeId->O (L Lk)
 |0,_=>Y|d+1,t=>match P.underlying t with
  |some (.int k)=>Z [.int k]|some .bool=>Z [.bool]|some .string=>Z [.str]|some (.struct a)=>bif P.stoodInHeld t then Y else GP P (DL P d) a.toList 0|_=>Y
def yQ:∀{a b c d:L Value},a.length=b.length->nF (a++c) (b++d)=(nF a b&&nF c d)
 |[],[],c,d,_=>by rfl
 |x::a,y::b,c,d,h=>by simp[List.cons_append,nF,yQ (a:=a) (b:=b) (by simpa using h),Bool.and_assoc]
 |[],_::_,_,_,h=>by simp at h
 |_::_,[],_,_,h=>by simp at h
def vg(ks:L Lk)(l:L Value):Prop:=l.length=ks.length∧∀(j:Nat)(k:Lk)(v:Value),ks[j]?=Z k->l[j]?=Z v->BF k v
theorem vg.split{ks a:L Lk}{l:L Value}(h:vg (ks++a) l):vg ks (l.take ks.length)∧vg a (l.drop ks.length):=by
 have b:=h.1;refine⟨⟨by simp_all,λj k v h1 h2=>?_⟩,⟨by simp_all,λj k v h1 h2=>?_⟩⟩
 .exact h.2 j k v (by grind) (by grind)
 .exact h.2 (ks.length+j) k v (by grind) (by simp_all)
section
variable {P:Program}
def Mk(P:Program)(t:TypeId)(l:L Value)(v:Value):Prop:=∃u,P.underlying t=Z u∧((dY u=W∧v=.agg l.toArray)∨(dY u=J∧l=[v]))
theorem ac0{d:Nat}{t:TypeId}{ks:L Lk}(h:DL P d t=Z ks):∃u,P.underlying t=Z u∧(dY u=W∨(dY u=J∧ks.length=1)):=by
 cases d with
 |zero=>cases h
 |succ d=>
  simp[DL]at h;split at h
  .grind
  .grind
  .grind
  .rename_i a;exact⟨_,a,.inl rfl⟩
  .cases h
theorem acZ:∀(d:Nat)(t:TypeId)(ks:L Lk),DL P d t=Z ks->∀(D:Nat),d<=D->∀(w:World)(e ys:L Value)(x y:Value),vg ks e->vg ks ys->Mk P t e x->Mk P t ys y->
  (Op.equalIn D t x y).run P w=.ok (nF e ys) w:=by
 intro d
 induction d with
 |zero=>intro t ks h;cases h
 |succ d ih=>
  intro t ks h D hD w e ys x y hx hy I K;obtain⟨D,rfl⟩:∃D',D=D'+1:=⟨D-1,by omega⟩;simp[DL]at h
  let ⟨u,S,I⟩:=I
  let ⟨u',g,K⟩:=K
  rw[S]at g;cases g;rw[S]at h;have one:∀{k:Lk},ks=[k]->dY u=J->e=[x]∧ys=[y]∧BF k x∧BF k y:=by
   rintro k rfl ha
   obtain⟨h1,_⟩|⟨_,rfl⟩:=I
   .simp_all
   obtain⟨h1,_⟩|⟨_,rfl⟩:=K
   .simp_all
   exact⟨rfl,rfl,hx.2 0 _ _ rfl rfl,hy.2 0 _ _ rfl rfl⟩
  split at h
  .rename_i p;cases p;simp at h;obtain⟨rfl,rfl,⟨a,rfl⟩,⟨b,rfl⟩⟩:=one h.symm rfl
   grind[run_equalIn_int,nF,GZ]
  .rename_i p;cases p;simp at h;obtain⟨rfl,rfl,⟨a,rfl⟩,⟨b,rfl⟩⟩:=one h.symm rfl
   grind[run_equalIn_bool',nF,GZ]
  .rename_i p;cases p;simp at h;obtain⟨rfl,rfl,⟨a,rfl⟩,⟨b,rfl⟩⟩:=one h.symm rfl
   grind[run_equalIn_string,beq_toListBytes,nF,GZ]
  .rename_i fs p;cases p;obtain⟨_,h⟩|⟨hst,h⟩:=af h
   .cases h
   obtain⟨_,rfl⟩|⟨h1,_⟩:=I
   rotate_left
   .cases h1
   obtain⟨_,rfl⟩|⟨h1,_⟩:=K
   rotate_left
   .cases h1
   have hfo:P.fieldsOf t=fs:=by simp[Program.fieldsOf,S]
   rw[run_equalIn_struct w D t _ _ (by grind) hst,hfo];have key:∀(l:L Field)(off:Nat)(i:L Lk),GP P (DL P d) l off=Z i->vg i (e.drop off)->vg i (ys.drop off)->off<=e.length->off<=ys.length->
     (Op.eqFields D e.toArray ys.toArray l).run P w=.ok (nF (e.drop off) (ys.drop off)) w:=by
    intro l
    induction l with
    |nil=>intro off i h R ky _ _;simp only[GP,gK]at h;subst h;have e1:=Eg R.1;rw[e1];rfl
    |cons f l ihl=>
     intro off i h R ky ox oy;simp only[GP]at h;split at h
     .rename_i c j h1 h2;obtain⟨hb,h⟩|⟨_,h⟩:=af h
      rotate_left
      .cases h
      simp only[eZ]at hb
      let ⟨hnm,o,hsz⟩:=hb
      have o:=vQ o;rw[bS]at hsz h;simp only[fM]at h;obtain⟨r,hr,rfl⟩:=h
      let ⟨q,A⟩:=R.split
      let ⟨s,B⟩:=ky.split
      rw[ad1]at A B;have hlx:=R.1;have hly:=ky.1;rw[mG,Ta]at hlx hly;have m:∀(z:L Value),vg c ((z.drop off).take c.length)->∃v,(part f.type z.toArray f.offset).run P w=.ok v w∧Mk P f.type ((z.drop off).take c.length) v:=by
       intro z hz
       let ⟨u,g,n⟩:=ac0 h1
       obtain n|⟨n,h1l⟩:=n
       .refine ⟨.agg ((z.drop off).take c.length).toArray,?_,u,g,.inl ⟨n,rfl⟩⟩
        simp_all[part,uu,dn]
       .have C:=hz.1;rw[h1l]at C
        let ⟨v,hv⟩:=Xk.1 C
        refine⟨v,?_,u,g,.inr ⟨n,by grind⟩⟩;have hvv:z[off]?=Z v:=by
         have:=fq (λl=>l[0]?) hv
         grind
        simp_all[part,uu]
      let ⟨v1,e1,m1⟩:=m e q
      let ⟨v2,e2,m2⟩:=m ys s
      have E:=ih f.type c h1 D (by omega) w _ _ v1 v2 q s m1 m2;have TF:=ihl (off+c.length) r hr A B (by omega) (by omega);have F:f.name≠ "_":=by grind
      have hsx:e.drop off=(e.drop off).take c.length++e.drop (off+c.length):=by
       grind[List.drop_drop,List.take_append_drop]
      have hsy:ys.drop off=(ys.drop off).take c.length++ys.drop (off+c.length):=by
       grind[List.drop_drop,List.take_append_drop]
      rw[hsx,hsy,yQ (by rw[q.1,s.1])];simp only[Op.eqFields,F,ne_eq,not_false_eq_true,sr,run_bind,e1,e2,E,andThen_ok];cases hq:nF ((e.drop off).take c.length) ((ys.drop off).take c.length)with|true=>grind|false=>simp
     .cases h
   grind
  .cases h
def Oq(P:Program)(t:TypeId):L Lk:=bif P.eqGuardType P.depth t then[]else match DL P 100 t with
 |some a=>match P.underlying t with
  |some u=>bif dY u then a else[]|none=>[]
 |none=>[]
def Zf(t:TypeId)(h:Oq P t≠[]):ahv P t (Oq P t):=by
 unfold Oq at h ⊢;cases e:P.eqGuardType P.depth t with
 |true=>simp_all|false=>
  cases f:DL P 100 t with
  |none=>simp_all|some g=>
   cases c:P.underlying t with
   |none=>simp_all|some u=>
    dsimp only at h ⊢;cases d:dY u with
    |false=>simp_all|true=>
     intro w op x y a b i l m n;refine⟨run_eqGuard_agg w op t x y a b e,?_⟩;have:=acZ 100 t g f Op.maxDepth (by decide) w a.toList b.toList (.agg a) (.agg b) ⟨by simpa using i,λj k v h1 h2=>m j k v h1 (by simpa using h2)⟩ ⟨by simpa using l,λj k v h1 h2=>n j k v h1 (by simpa using h2)⟩
      ⟨u,c,.inl ⟨d,rfl⟩⟩ ⟨u,c,.inl ⟨d,rfl⟩⟩
     exact this
end
end
section
def cI{l:L Ty}(h:l.all (λt=>!(kF t))=W):∀t∈l,kF t=J:=by
 simp_all
namespace Tr
variable {α β:Type}
def mapKey(f:Nat->α->β):Tr α->Tr β
 |.nil=>.nil|.node v l r=>.node (match v with|some x=>Z (f 0 x)|none=>Y) (mapKey (λj=>f (Ns (Nat.mul 2 j))) l) (mapKey (λj=>f (Ns (Ns (Nat.mul 2 j)))) r)
theorem zI:∀(t:Tr α)(f:Nat->α->β)(k:Nat),(t.mapKey f).get k=(t.get k).map (f k)
 |.nil,f,k=>by rfl
 |.node v l r,f,0=>by simp[mapKey,Tr.iY];cases v<;>rfl
 |.node v l r,f,k+1=>by
  simp only[mapKey,Tr.dB];by_cases a:k%2=0
  .rw[bw a,bw a,zI l];have:Ns (Nat.mul 2 (k/2))=k+1:=by grind
   rw[this]
  .rw[bL a,bL a,zI r];have:Ns (Ns (Nat.mul 2 (k/2)))=k+1:=by grind
   rw[this]
theorem qe{t:Tr α}{f g:Nat->α->β}(h:t.mapKey f=t.mapKey g){k:Nat}{v:α}(a:t.get k=Z v):f k v=g k v:=by
 have:=fq (λt=>t.get k) h
 grind[zI]
end Tr
end
section
def Tu:L (String×FuncId)->String->O FuncId
 |[],_=>Y|p::l,m=>bif p.1==m then Z p.2 else Tu l m
def mkE(P:Program)(PV:Tr TI)(Uv:Tr Ty)(mtT:Tr MT)(wz:Tr (L (String×FuncId)))(qT:Tr Func)(a:Nat->O Nat):fX:=
 ⟨⟨P,λk=>PV.get k,λk=>qT.get k,λ_=>Y⟩,λk=>Uv.get k,λk=>mtT.get k,λt m=>match wz.get t with|some l=>Tu l m|none=>Y,a⟩
section
variable (S:Sg)(P:Program)
def lI(τ:Ty):L D:=bif kF τ then(match enc S τ (S.zero τ)with|.agg l=>l|_=>[])else[enc S τ (S.zero τ)]
def FD(τ:Ty)(i:TI):Kd×Bool×Nat×Bool×L D:=match τ with
 |.int k=>(.leaf (.int k),J,1,W,lI S τ)|.bool=>(.leaf .bool,J,1,W,lI S τ)|.str=>(.leaf .str,J,1,W,lI S τ)|.sl e=>(.slice (S.width e) (kF e) (zU S e) (lI S e),J,1,W,lI S τ)|.st n=>(i.kd,W,cD (S.fs n),W,lI S τ)|.de _=>(.iface,J,1,W,lI S τ)|.opt _=>(.ptr,J,1,W,lI S τ)|.mp _ _=>(i.kd,J,1,W,lI S τ)
def FC(τ:Ty)(i:TI):Kd×Bool×Nat×Bool×L D:=(i.kd,i.agg,i.size,(match τ with|.sl e=>Nt 0 (S.width e)|_=>W),i.zero)
theorem E8(τ:Ty):bif kF τ then D.agg (lI S τ)=enc S τ (S.zero τ)else lI S τ=[enc S τ (S.zero τ)]:=by cases τ<;>rfl
theorem aff{τ:Ty}{i:TI}(h:FD S τ i=FC S τ i):yZ S i τ∧RU S i τ:=by
 have a:i.zero=lI S τ->RU S i τ:=by
  grind[RU,E8]
 cases τ with
 |int k=>
  simp only[FD,FC,fh]at h
  let ⟨h1,h2,h3,_,h5⟩:=h
  exact⟨⟨h1.symm,h2.symm,h3.symm⟩,a h5.symm⟩
 |bool=>
  simp only[FD,FC,fh]at h
  let ⟨h1,h2,h3,_,h5⟩:=h
  exact⟨⟨h1.symm,h2.symm,h3.symm⟩,a h5.symm⟩
 |str=>
  simp only[FD,FC,fh]at h
  let ⟨h1,h2,h3,_,h5⟩:=h
  exact⟨⟨h1.symm,h2.symm,h3.symm⟩,a h5.symm⟩
 |sl e=>
  simp only[FD,FC,fh]at h
  let ⟨h1,h2,h3,h4,h5⟩:=h
  exact⟨⟨⟨_,h1.symm,E8 S e⟩,h2.symm,h3.symm,gN h4.symm⟩,a h5.symm⟩
 |st n=>
  simp only[FD,FC,fh]at h
  let ⟨_,h2,h3,_,h5⟩:=h
  exact⟨⟨h2.symm,by rw[<-h3,bS]⟩,a h5.symm⟩
 |de n=>
  simp only[FD,FC,fh]at h
  let ⟨h1,h2,h3,_,h5⟩:=h
  exact⟨⟨h1.symm,h2.symm,h3.symm⟩,a h5.symm⟩
 |opt n=>
  simp only[FD,FC,fh]at h
  let ⟨h1,h2,h3,_,h5⟩:=h
  exact⟨⟨h1.symm,h2.symm,h3.symm⟩,a h5.symm⟩
 |mp k v=>
  simp only[FD,FC,fh]at h
  let ⟨_,h2,h3,_,h5⟩:=h
  exact⟨⟨trivial,h2.symm,h3.symm⟩,a h5.symm⟩
def aiV:Ty->TypeDesc->Bool
 |.int k,.int j=>oK j k|.bool,.bool=>W|.str,.string=>W|_,_=>J
def ab6{t:Ty}{d:TypeDesc}(h:aiV t d=W):ir t d:=by
 cases t<;>cases d<;>first|exact rfl|(cases h;done)|skip
 rename_i k j;have:j=k:=by cases j<;>cases k<;>first|rfl|cases h
 rw[this];exact rfl
def mtB(E:fX)(t:Nat)(m:MT):Bool:=match E.E.P.underlying t with
 |some (.map a el)=>Nq el m.el&&((match E.E.P.underlying a with|some d=>aiV m.kt d|none=>J)&&((match E.E.P.info? m.el with|some x=>x.zero.isSome|none=>J)&&
   (match m.vt with|some b=>(match E.ty m.el with|some c=>sk c b|none=>J)&&(E.E.ti m.el).isSome|none=>W)))
 |_=>J
theorem afB{E:fX}{t:Nat}{m:MT}(h:mtB E t m=W):∃a d,E.E.P.underlying t=Z (.map a m.el)∧E.E.P.underlying a=Z d∧ir m.kt d∧(∃x z,E.E.P.info? m.el=Z x∧x.zero=Z z)∧
  ∀b,m.vt=Z b->E.ty m.el=Z b∧∃i,E.E.ti m.el=Z i:=by
 unfold mtB at h;split at h
 .rename_i a el f;simp only[eZ]at h
  let ⟨h1,h2,h3,h4⟩:=h
  have:=vQ h1;subst this;cases e:E.E.P.underlying a with
  |none=>simp_all|some d=>
   rw[e]at h2;cases g:E.E.P.info? m.el with
   |none=>simp_all|some x=>
    rw[g]at h3
    let ⟨z,j⟩:=ad2.1 h3
    refine⟨a,d,f,e,ab6 h2,⟨x,z,rfl,j⟩,λb c=>?_⟩;rw[c]at h4
    grind[jK,Option.isSome_iff_exists]
 .cases h
def Yr:TypeDesc->Bool
 |.pointer _=>W|_=>J
def Ts(P:Program)(t:Nat)(p:String×FuncId):Bool:=match P.info? t,P.underlying t with
 |some x,Z d=>match x.methods.find? (·.name==p.1)with
  |some a=>match a.path.toList,a.func with
   |[],Z (f,b)=>Nq f p.2&&(bif b then Yr d else !(Yr d))|_,_=>J
  |none=>J
 |_,_=>J
def X8{P:Program}{t:Nat}{p:String×FuncId}(h:Ts P t p=W):∃x a d,P.info? t=Z x∧x.methods.find? (·.name==p.1)=Z a∧a.path=#[]∧P.underlying t=Z d∧
  ((a.func=Z (p.2,J)∧∀e,d≠.pointer e)∨(a.func=Z (p.2,W)∧∃e,d=.pointer e)):=by
 unfold Ts at h;split at h
 .rename_i x d c f;split at h
  .rename_i a g;split at h
   .rename_i b h1 h2;rw[eZ]at h;have:=vQ h.1;subst this;refine⟨x,a,d,c,g,by simpa using h1,f,?_⟩;cases b with
    |false=>refine .inl ⟨h2,λe i=>?_⟩;subst i;exact Bool.noConfusion h.2|true=>
     refine .inr ⟨h2,?_⟩;cases d<;>first|exact⟨_,rfl⟩|exact Bool.noConfusion h.2
   .cases h
  .cases h
 .cases h
theorem Ju:∀{l:L (String×FuncId)}{m:String}{f:FuncId},Tu l m=Z f->(m,f)∈l
 |[],_,_,h=>by cases h
 |p::l,m,f,h=>by
  obtain⟨a,h⟩|⟨_,h⟩:=af h
  .grind
  .exact g7 _ (Ju h)
end
theorem Zr{S:Sg}(o:fc S){P:Program}{PV:Tr TI}{Uv:Tr Ty}{mtT:Tr MT}{wz:Tr (L (String×FuncId))}{qT:Tr Func}{d:Nat->O Nat}
  (h1:PV.mapKey (λk _=>abh P (Oq P) k)=PV.mapKey λ_ i=>Z i)
  (h2:qT.mapKey (λk _=>P.funcs[k]?)=qT.mapKey λ_ f=>Z f)
  (h3:Uv.mapKey (λk τ=>(PV.get k).map (FD S τ))=Uv.mapKey λk τ=>(PV.get k).map (FC S τ))
  (h4:qT.mapKey (λ_ f=>f.name== "runtime.NumGoroutine")=qT.mapKey λ_ _=>J)
  (h5:mtT.mapKey (λk m=>mtB (mkE P PV Uv mtT wz qT d) k m)=mtT.mapKey λ_ _=>W)
  (h6:wz.mapKey (λk l=>l.all (Ts P k))=wz.mapKey λ_ _=>W) (II:FuncId->O (lz S)) (sh:FuncId->Nat->O LSh) (p:∀f c,II f=Z c->bA P f c) (q:Bool) (r:FuncId->L (V S)->O JSh) :
  fe (⟨mkE P PV Uv mtT wz qT d,II,sh,q,r⟩:eF S):=by
 have a:∀k i τ,PV.get k=Z i->Uv.get k=Z τ->yZ S i τ∧RU S i τ:=by
  grind[Tr.qe,aff]
 refine⟨o,⟨λk i e=>?_,λf fn g=>?_⟩,⟨λk i τ e j=>(a k i τ e j).1⟩,λf fn g=>Tr.qe h4 g,λ_=>rfl,⟨λk i τ e j=>(a k i τ e j).2,λt m s=>?_,λt u f g=>?_⟩,p⟩
 .exact abg (λt h=>Zf t h) (Tr.qe h1 e)
 .exact Tr.qe h2 g
 .exact afB (Tr.qe h5 s)
 .have b:(match wz.get t with|some l=>Tu l u|none=>Y)=Z f:=g;split at b
  .rename_i v;have n:=Tr.qe h6 v;rw[kA]at n;exact X8 (n _ (Ju b))
  .cases b
end
section
def cr{R P α:Type}(x:Rx R P)(f:R->O α)(g:P->O α):O α:=match x with
 |.ok r=>f r|.iE p=>g p
def bD{X R B P α:Type}(o:LO X R B P)(f:Nat->X->O α)(g:B->R->O α)(h:B->P->O α):O α:=match o with
 |.next _=>Y|.out j x=>f j x|.ret b r=>g b r|.iE b p=>h b p
def cM{X R B P α:Type}(o:LO X R B P)(e:X->O α)(f:Nat->X->O α)(g:B->R->O α)(h:B->P->O α):O α:=match o with
 |.next x=>e x|.out j x=>f j x|.ret b r=>g b r|.iE b p=>h b p
def afi{α:Type}(n:Nat)(a:α):L α:=List.replicate n a
def nK(a b:Bool):Bool:=a&&b
def adw(a b:Nat):Nat:=Na a b
def trL{α:Type}:L (Nat×α)->Tr α
 |[]=>.nil|p::l=>(trL l).set aK p.1 p.2
def UP:Code->L (Code×Code)
 |.seq a b=>UP a++UP b|.cond _ a b=>UP a++UP b|.block _ b=>UP b|.loop b=>UP b|.rangeFunc _ _ a b=>(a,b)::(UP a++UP b)|.scope b=>UP b|_=>[]
def rgN(l:L (Code×Code))(i:Nat):Code×Code:=match l with
 |[]=>(.skip,.skip)|a::l=>match i with
  |0=>a|i+1=>rgN l i
def lpR(a n:Nat)(ps:L Nat)(c:Code×Code)(l:L (Nat×V S)):u9 S:=.lp ⟨.ready,Y,a,Om (vw c.1++vw c.2) {n:=n,tm:=trL l},ps,c.1,c.2⟩
def PY(l:L (FuncId×lz S))(f:FuncId):O (lz S):=match l with
 |[]=>Y|p::l=>bif Nq p.1 f then Z p.2 else PY l f
def OkL(P:Program):L (FuncId×lz S)->Prop
 |[]=>True|p::l=>bA P p.1 p.2∧OkL P l
def SY{P:Program}:∀{l:L (FuncId×lz S)},OkL P l->∀f c,PY l f=Z c->bA P f c
 |[],_,_,_,h=>by cases h
 |p::l,⟨d,a⟩,f,c,h=>by
  unfold PY at h;cases b:Nq p.1 f with
  |true=>
   simp_all
  |false=>rw[b]at h;exact SY a f c h
variable {P:Program}
def ck{f:FuncId}{ps:L Pk}{a:L Ck}{b:Bool}(h:lX P f):bA P f (⟨ps,a,b,λ_=>Y⟩:lz S):=
 ⟨h,λ_ _ h=>by cases h⟩
def uc{α:Type}(b:L α×U):IV (isE b.1) (Z (([],()),())) (Z (b,()))=Z (b,()):=by
 let ⟨l,u⟩:=b
 cases l with|nil=>simp[IV]|cons a l=>rfl
end
section
def nc(S:Sg):Ty->L Ty
 |.st m=>S.fs m| τ=>[τ]
def SS:L Ty->L Ty->Bool
 |[],[]=>W|a::l,b::m=>sk a b&&SS l m|_,_=>J
def MF:∀{l m:L Ty},SS l m=W->l=m
 |[],[],_=>rfl|a::l,b::m,h=>by simp[SS,eZ]at h;rw[jK h.1,MF h.2]
 |[],_::_,h=>by cases h
 |_::_,[],h=>by cases h
def EX(S:Sg)(P:Program)(ty:TypeId->O Ty):L Field->Nat->L Ty->Bool
 |[],_,[]=>W|f::l,off,a=>match ty f.type with
  |some τ=>Nq f.offset off&&(Nq (P.cellsOf f.type) (cD (nc S τ))&&(SS (a.take (cD (nc S τ))) (nc S τ)&&EX S P ty l (off+cD (nc S τ)) (a.drop (cD (nc S τ)))))|none=>J
 |_,_,_=>J
def rdT(S:Sg)(P:Program)(ty:TypeId->O Ty)(t:TypeId)(τ:Ty):Bool:=match P.underlying t,τ with
 |some .bool,.bool=>W|some (.int k),.int c=>oK k c|some .string,.str=>W|some (.slice e),.sl a=>match ty e with
  |some b=>sk b a&&(Nq (P.cellsOf e) (S.width a)&&(Nl (zU S a) (Nat.mul 2 (P.bytesOf e))&&Nt 0 (S.width a)))|none=>J
 |some (.struct d),.st n=>Nq (P.cellsOf t) (cD (S.fs n))&&EX S P ty d.toList 0 (S.fs n)|_,_=>J
section
variable {P:Program}{w:World}{I:Nat->Prop}
def Wx(I:Nat->Prop)(w:World)(ds:L D)(vs:L Value):Prop:=PW (dH I w) ds vs
theorem mapM_some{α β:Type}{f:α->O β}:∀{l:L α}{r:L β},l.mapM f=Z r->r.length=l.length∧∀(i:Nat)(a:α),l[i]?=Z a->∃b,r[i]?=Z b∧f a=Z b
 |[],r,h=>by
  simp_all
 |x::l,r,h=>by
  simp[List.mapM_cons,Option.bind_eq_bind,vP,Option.pure_def,gK]at h;obtain⟨b,d,e,c,rfl⟩:=h
  let ⟨h1,h2⟩:=mapM_some c
  grind
def RB{a:Addr}{n:Nat}{vs:L Value}(h:w.cells? 0 a n=Z vs):vs.length=n∧∀j,j<n->∃v,vs[j]?=Z v∧w.cell? (a.add j)=Z v:=by
 unfold World.cells? at h
 let ⟨h1,h2⟩:=mapM_some h
 rw[List.length_range]at h1;refine⟨h1,λj b=>?_⟩;exact h2 j j (by rw[List.getElem?_range b])
theorem adl{a:Addr}{v:Value}(h:w.cell? a=Z v):a.block<w.heap.size:=by
 grind[World.cell?]
theorem DW{α:Type}(p:Nat->α->Prop):∀n,(∀i,i<n->∃x,p i x)->∃l:L α,l.length=n∧∀i x,l[i]?=Z x->p i x
 |0,_=>⟨[],rfl,λi x h=>by simp at h⟩
 |n+1,h=>by
  let ⟨l,h1,h2⟩:=DW p n (λi a=>h i (by omega))
  let ⟨x,b⟩:=h n (by omega)
  refine⟨l++[x],by simp[h1],λi y a=>?_⟩
  grind
theorem FO{d:D}{v:Value}(h:dH I w d v):Wx I w [d] [v]:=⟨rfl,λj a b h1 h2=>by
 grind⟩
variable {H:Type}{OH:TypeId×Value->H}{held:Bool}
theorem trod_bool{fuel:Nat}{t:TypeId}{cs:L Value}{d:DataW H}{ps:L MemPlace}(a:P.underlying t=Z .bool)(h:DataW.trod OH P w 0 (λ_=>W) held fuel t cs=Z (d,ps)):∃b,cs=[.bool b]:=by
 cases fuel with
 |zero=>simp[DataW.trod]at h|succ n=>
  obtain _|⟨c,_|⟨e,cs⟩⟩:=cs
  .simp[DataW.trod,a]at h
  .cases c<;>simp[DataW.trod,a]at h
   grind
  .simp[DataW.trod,a]at h
def trod_int{fuel:Nat}{t:TypeId}{k:IntKind}{cs:L Value}{d:DataW H}{ps:L MemPlace}(a:P.underlying t=Z (.int k))(h:DataW.trod OH P w 0 (λ_=>W) held fuel t cs=Z (d,ps)):∃n,cs=[.int k n]:=by
 cases fuel with
 |zero=>simp[DataW.trod]at h|succ n=>
  obtain _|⟨c,_|⟨b,cs⟩⟩:=cs
  .simp[DataW.trod,a]at h
  .cases c<;>simp[DataW.trod,a]at h
   simp_all
  .simp[DataW.trod,a]at h
theorem WT{fuel:Nat}{t:TypeId}{cs:L Value}{d:DataW H}{ps:L MemPlace}(a:P.underlying t=Z .string)(h:DataW.trod OH P w 0 (λ_=>W) held fuel t cs=Z (d,ps)):∃b,cs=[.string b]:=by
 cases fuel with
 |zero=>simp[DataW.trod]at h|succ n=>
  obtain _|⟨c,_|⟨e,cs⟩⟩:=cs
  .simp[DataW.trod,a]at h
  .cases c<;>simp[DataW.trod,a]at h
   grind
  .simp[DataW.trod,a]at h
theorem trod_slice{fuel:Nat}{t e:TypeId}{cs:L Value}{d:DataW H}{ps:L MemPlace}(g:P.underlying t=Z (.slice e))(h:DataW.trod OH P w 0 (λ_=>W) held (fuel+1) t cs=Z (d,ps)) :
  cs=[.slice Y 0 0]∨∃(a:Addr)(len cap:Nat)(f rest:L (DataW H)),cs=[.slice (Z a) len cap]∧len<=cap∧d=.slice f rest∧f.length=len∧
   ∀i,i<len->∃vs j k,w.cells? 0 (a.add (i*P.cellsOf e)) (P.cellsOf e)=Z vs∧DataW.trod OH P w 0 (λ_=>W) held fuel e vs=Z (j,k)∧f[i]?=Z j:=by
 obtain _|⟨c,_|⟨o,cs⟩⟩:=cs
 .simp[DataW.trod,g]at h
 .cases c with
  |slice a len cap=>
   cases a with
   |none=>
    obtain _|len:=len
    .obtain _|cap:=cap
     .exact .inl rfl
     .simp[DataW.trod,g]at h
    .simp[DataW.trod,g]at h
   |some a=>
    right
    simp only[DataW.trod,g]at h;split at h
    .rename_i l;rw[vP]at h
     let ⟨m,h1,h2⟩:=h
     rw[fM]at h2
     let ⟨rest,_,h3⟩:=h2
     obtain⟨rfl,_⟩:=h3
     let ⟨h4,h5⟩:=mapM_some h1
     refine⟨a,len,cap,_,_,rfl,l.2.1,rfl,by simpa using h4,λi n=>?_⟩
     let ⟨b,p,q⟩:=h5 i i (by rw[List.getElem?_range n])
     grind[Option.bind_eq_some_iff]
    .cases h
  |_=>simp[DataW.trod,g]at h
 .simp[DataW.trod,g]at h
theorem trod_struct{fuel:Nat}{t:TypeId}{fs:Array Field}{cs:L Value}{d:DataW H}{ps:L MemPlace}(b:P.underlying t=Z (.struct fs))(h:DataW.trod OH P w 0 (λ_=>W) held (fuel+1) t cs=Z (d,ps)) :
  cs.length=P.cellsOf t∧∃parts:L (DataW H),d=.agg parts∧parts.length=fs.toList.length∧
   ∀(i:Nat)(f:Field),fs.toList[i]?=Z f->∃a c,DataW.trod OH P w 0 (λ_=>W) held fuel f.type ((cs.drop f.offset).take (P.cellsOf f.type))=Z (a,c)∧parts[i]?=Z a:=by
 simp only[DataW.trod,b]at h;split at h
 .rw[fM]at h
  let ⟨e,h1,h2⟩:=h
  obtain⟨rfl,_⟩:=h2
  let ⟨h4,h5⟩:=mapM_some h1
  grind
 .cases h
def VZ(a:fc S):∀(τ:Ty)(x:den S.A τ),∃h:lP S.A (nc S τ),eW S (nc S τ) h=(enc S τ x).cells
 |.st n,x=>⟨S.get n x,by exact(a.cells n x).symm⟩
 |.int k,x=>⟨(x,()),rfl⟩|.bool,x=>⟨(x,()),rfl⟩|.str,x=>⟨(x,()),rfl⟩|.sl e,x=>⟨(x,()),rfl⟩|.de n,x=>⟨(x,()),(nE _).symm⟩|.opt n,Y=>⟨(Y,()),rfl⟩|.opt n,Z y=>⟨(Z y,()),rfl⟩|.mp k v,x=>⟨(x,()),rfl⟩
def DS:∀(l m:L Ty)(h:lP S.A l)(k:lP S.A m),∃r:lP S.A (l++m),eW S (l++m) r=eW S l h++eW S m k
 |[],m,_,k=>⟨k,rfl⟩|t::l,m,h,k=>by
  let ⟨r,a⟩:=DS l m h.2 k
  exact⟨(h.1,r),by simp[List.cons_append,eW,a]⟩
theorem Is{ts:L TypeId}{ds:L (DataW H)}(h:(DataW.weightsEach P ts ds).all (·<=reachBytes)=W):∀(i:Nat)(t:TypeId)(d:DataW H),ts[i]?=Z t->ds[i]?=Z d->(d.weights P t).all (·<=reachBytes)=W:=by
 induction ts generalizing ds with
 |nil=>simp_all|cons a ts c=>
  intro i t d h1 h2;cases ds with
  |nil=>simp at h2|cons b ds=>
   simp only[DataW.weightsEach,Nu,eZ]at h
   grind
theorem Kn{e:TypeId}{ds:L (DataW H)}(h:(DataW.weightsAll P e ds).all (·<=reachBytes)=W):∀d∈ds,(d.weights P e).all (·<=reachBytes)=W:=by
 induction ds with
 |nil=>simp_all|cons a ds b=>
  simp only[DataW.weightsAll,Nu,eZ]at h
  grind
theorem MK(y:fc S){ty:TypeId->O Ty}{fuel:Nat}{cs:L Value}
  (z:∀(t:TypeId)(τ:Ty)(cs:L Value)(d:DataW H)(ps:L MemPlace),ty t=Z τ->DataW.trod OH P w 0 (λ_=>W) held fuel t cs=Z (d,ps)->(d.weights P t).all (·<=reachBytes)=W->∃x:den S.A τ,Wx I w (enc S τ x).cells cs) :
  ∀(fs:L Field)(off:Nat)(ts:L Ty)(parts:L (DataW H)),EX S P ty fs off ts=W->off+ts.length=cs.length->(DataW.weightsEach P (fs.map (·.type)) parts).all (·<=reachBytes)=W->parts.length=fs.length->
   (∀(i:Nat)(f:Field),fs[i]?=Z f->∃c e,DataW.trod OH P w 0 (λ_=>W) held fuel f.type ((cs.drop f.offset).take (P.cellsOf f.type))=Z (c,e)∧parts[i]?=Z c)->
   ∃h:lP S.A ts,Wx I w (eW S ts h) (cs.drop off):=by
 intro fs
 induction fs with
 |nil=>
  intro off ts parts h1 h2 _ _ _;cases ts with|nil=>exact⟨(),by simp[eW];rw[List.drop_eq_nil_of_le (by grind)];exact⟨rfl,λj a b h=>by simp at h⟩⟩|cons t ts=>cases h1
 |cons f fs g=>
  intro off ts parts h1 h2 h3 h4 h5;simp[EX]at h1;split at h1;rotate_left
  .cases h1
  rename_i τ A;simp only[eZ,bS]at h1
  let ⟨l,n,o,h1⟩:=h1
  have l:=vQ l;have n:=vQ n;have o:=MF o
  let ⟨d,e,B,q⟩:=h5 0 f rfl
  cases parts with
  |nil=>simp at q|cons p parts=>
  simp at q;subst q;have C:=Is h3 0 f.type p rfl rfl
  let ⟨x,s⟩:=z _ _ _ _ _ A B C
  let ⟨k,E⟩:=VZ y τ x
  simp only[pG,DataW.weightsEach,Nu,eZ]at h3
  let ⟨r,F⟩:=g (off+(nc S τ).length) (ts.drop (nc S τ).length) parts h1 (by grind) h3.2 (by simpa using h4) (λi f K=>by
   let ⟨c,e,q1,q2⟩:=h5 (i+1) f (by simpa using K)
   simp_all)
  let ⟨m,R⟩:=DS (nc S τ) (ts.drop (nc S τ).length) k r
  have hts:nc S τ++ts.drop (nc S τ).length=ts:=by
   conv=>rhs;rw[<-Xl (nc S τ).length ts]
   rw[o]
  rw[l,n]at s;rw[<-E]at s;have u:cs.drop off=(cs.drop off).take (nc S τ).length++cs.drop (off+(nc S τ).length):=by rw[<-ad1,Xl]
  have v:∃m:lP S.A (nc S τ++ts.drop (nc S τ).length),Wx I w (eW S _ m) (cs.drop off):=⟨m,by
   rw[R,u];exact PW.append s F⟩
  grind
theorem abe(u:fc S){ty:TypeId->O Ty}(hR:∀t τ,ty t=Z τ->rdT S P ty t τ=W)(hI:∀b,b<w.heap.size->I b) :
  ∀(fuel:Nat)(t:TypeId)(τ:Ty)(cs:L Value)(d:DataW H)(ps:L MemPlace),ty t=Z τ->DataW.trod OH P w 0 (λ_=>W) held fuel t cs=Z (d,ps)->(d.weights P t).all (·<=reachBytes)=W->
   ∃x:den S.A τ,Wx I w (enc S τ x).cells cs:=by
 intro fuel
 induction fuel with
 |zero=>simp_all[DataW.trod]|succ fuel ih=>
  intro t τ cs d ps hτ h g;have m:=hR t τ hτ;unfold rdT at m;split at m
  .rename_i l;obtain⟨b,rfl⟩:=trod_bool l h;exact⟨b,FO (.lit _)⟩
  .rename_i k k' l;obtain⟨n,rfl⟩:=trod_int l h;obtain rfl:k=k':=by cases k<;>cases k'<;>first|rfl|cases m
   exact⟨n,FO (.lit _)⟩
  .rename_i l;obtain⟨b,rfl⟩:=WT l h;refine⟨ofBytes b,FO ?_⟩;have:enc S .str (ofBytes b)=.lit (.string b):=by rfl
   exact .lit _
  .rename_i e τ' l;split at m;rotate_left
   .cases m
   rename_i f hτe;simp only[eZ]at m
   let ⟨h1,h2,h3,h4⟩:=m
   obtain rfl:=jK h1;have h2:=vQ h2;have h3:=gN h3;have h4:0<S.width f:=gN h4;obtain rfl|⟨a,len,cap,B,rest,rfl,hlc,rfl,C,q⟩:=trod_slice l h
   .refine ⟨[],FO ?_⟩;exact .sl [] Y 0 0 (λ_ _=>undef) (eM _) (λd o=>by cases o) (λd o=>by cases o) (λh=>absurd rfl h) (λi j d c o=>by simp at o)
   .simp only[DataW.weights,l,List.all_cons,Nu,eZ,rF]at g;have hev:=Kn g.2.1
    let ⟨p,E,F⟩:=DW (λi(x:den S.A f)=>∃K,w.cells? 0 (a.add (i*P.cellsOf e)) (P.cellsOf e)=Z K∧Wx I w (enc S f x).cells K) len (λi hi=>by
     grind)
    have s:∀(i j:Nat)(x:den S.A f)(c:D),p[i]?=Z x->(enc S f x).cells[j]?=Z c->∃v,w.cell? (a.add (i*S.width f+j))=Z v∧dH I w c v:=by
     intro i j x c R y
     let ⟨K,q1,q2⟩:=F i x R
     let ⟨q3,q4⟩:=RB q1
     have hj:j<P.cellsOf e:=by
      grind[kH]
     let ⟨v,hv,z⟩:=q4 j hj
     rw[Addr.add_add,h2]at z;exact⟨v,z,q2.2 j c v y hv⟩
    refine⟨p,FO ?_⟩;have GG:enc S (.sl f) p=.sl (p.map (enc S f)):=rfl;rw[GG];have r:(p.map (enc S f)).length=len:=by simp[E]
    rw[show(Value.slice (Z a) len cap)=.slice (Z a) (p.map (enc S f)).length cap by rw[r]];refine .sl _ (Z a) cap (S.width f) (λi j=>(w.cell? (a.add (i*S.width f+j))).getD undef) (by omega) (tc u p) (λd o=>?_) (λhne=>?_) (λi j d c o y=>?_)
    .obtain ⟨x,_,rfl⟩:=v9.1 o;rw[Cz u,r];have hw1:=g.1;rw[C]at hw1;have hb:len*zU S f<=2*(len*P.bytesOf e):=by
      simp_all[Nat.mul_le_mul_left,Nat.mul_left_comm]
     grind[reachBytes]
    .have A:0<p.length:=by
      grind
     obtain⟨x,R⟩:∃x,p[0]?=Z x:=⟨_,iR A⟩;obtain⟨c,y⟩:∃c,(enc S f x).cells[0]?=Z c:=⟨_,iR (by rw[kH u];exact h4)⟩
     let ⟨v,hv,_⟩:=s 0 0 x c R y
     refine⟨a,rfl,hI _ ?_,λi j d c o y=>?_⟩
     .have:=adl hv;rwa [kK]at this
     grind
    grind
  .rename_i fs n l;simp only[eZ]at m
   let ⟨h1,h2⟩:=m
   have h1:=vQ h1;rw[bS]at h1;obtain⟨hl,parts,rfl,N8,q⟩:=trod_struct l h;simp only[DataW.weights,l]at g
   let ⟨k,hk⟩:=MK u ih fs.toList 0 (S.fs n) parts h2 (by omega) g N8 q
   refine⟨S.ER n k,?_⟩;simp[enc,D.cells];rw[show S.cells n (S.ER n k)=_ from u.cells n _,u.sC];simpa using hk
  .cases m
end
end
section
section
variable {P:Program}{w:World}{H:Type}{OH:TypeId×Value->H}
theorem WS(p:fc S){ty:TypeId->O Ty}(l:∀t τ,ty t=Z τ->rdT S P ty t τ=W){t:TypeId}{τ:Ty}(o:ty t=Z τ){v:Value}{d:DataW H}{ps:L MemPlace}{base:Nat}(g:Value.okWide P w .any base t v)
  (h:DataW.Trod OH P w 0 (λ_=>W) W t v d ps) (i:(d.weights P t).all (·<=reachBytes)=W):∃x:den S.A τ,dH (λb=>b<w.heap.size) w (enc S τ x) v:=by
 let ⟨fuel,h⟩:=h
 let ⟨x,f⟩:=abe (I:=λb=>b<w.heap.size) p l (λ_ h=>h) fuel t τ _ d ps o h i
 refine⟨x,?_⟩;have k:=l t τ o;unfold rdT at k;split at k
 .rename_i e;obtain⟨b,rfl⟩:=WideShapes.okWide_bool e g;exact f.2 0 _ _ rfl rfl
 .rename_i e;obtain⟨n,rfl⟩:=WideShapes.okWide_int e g;exact f.2 0 _ _ rfl rfl
 .rename_i e;obtain⟨b,rfl⟩:=WideShapes.okWide_string e g;exact f.2 0 _ _ rfl rfl
 .rename_i e;obtain⟨a,n,m,rfl⟩:=WideShapes.okWide_slice e g;exact f.2 0 _ _ rfl rfl
 .rename_i e;obtain⟨q,rfl,_⟩:=WideShapes.okWide_struct e g;refine .agg _ _ (by have:=f.1;grind[enc,D.cells,Value.cells]) ?_ (λj c u h1 h2=>f.2 j c u h1 (by simpa[Value.cells]using h2))
  grind[OE,enc,D.flat,D.cells]
 .cases k
def I4(i:fc S){ty:TypeId->O Ty}(l:∀t τ,ty t=Z τ->rdT S P ty t τ=W){base:Nat}:∀(ts:L TypeId)(τs:L Ty)(vs:L Value)(ds:L (DataW H))(ps:L MemPlace),
  PW (λt τ=>ty t=Z τ) ts τs->(∀(j:Nat)t v,ts[j]?=Z t->vs[j]?=Z v->Value.okWide P w .any base t v)->DataW.TrodAll OH P w 0 (λ_=>W) W ts vs ds ps->
  (DataW.weightsEach P ts ds).all (·<=reachBytes)=W->∃x:ga S.A (τs.map λτ=>.one (.dat τ)),ry S (λb=>b<w.heap.size) w (τs.map λτ=>.one (.dat τ)) x vs [] []
 |[],[],vs,ds,ps,_,_,h,_=>by cases vs with|nil=>exact⟨(),.nil⟩|cons v vs=>cases ds<;>simp[DataW.TrodAll]at h
 |t::ts,τ::τs,vs,ds,ps,c,m,h,e=>by
  cases vs with
  |nil=>cases ds<;>simp[DataW.TrodAll]at h
  |cons v vs=>
  cases ds with
  |nil=>simp[DataW.TrodAll]at h|cons d ds=>
  let ⟨p,q,h1,h2,_⟩:=h
  simp only[DataW.weightsEach,Nu,eZ]at e
  let ⟨x,n⟩:=WS i l (c.2 0 t τ rfl rfl) (m 0 t v rfl rfl) h1 e.1
  let ⟨k,o⟩:=I4 i l ts τs vs ds q ⟨by simpa using c.1,λj a b f g=>c.2 (j+1) a b (by simpa using f) (by simpa using g)⟩ (λj t v f g=>m (j+1) t v (by simpa using f) (by simpa using g)) h2 e.2
  exact⟨(x,k),.one (.dat n .nil) o⟩
 |[],τ::τs,_,_,_,c,_,_,_=>by have:=c.1;simp at this
 |t::ts,[],_,_,_,c,_,_,_=>by have:=c.1;simp at this
theorem Fc{w':World}(hl:laidOutB P=W)(e:∀b,b<w.heap.size->w'.heap[b]?=w.heap[b]?):∀(ts:L TypeId)(vs:L Value)(ds:L (DataW H))(ps:L MemPlace),(∀t∈ts,P.readableRec t=W∧t<P.types.size)->
  DataW.TrodAll OH P w 0 (λ_=>W) W ts vs ds ps->(∀p∈ps,p.block<w.heap.size)->DataW.TrodAll OH P w' 0 (λb=>decide (b<w.heap.size)) W ts vs ds ps
 |[],[],[],ps,_,h,_=>h|t::ts,v::vs,d::ds,ps,c,h,f=>by obtain⟨p,q,h1,h2,rfl⟩:=h;refine⟨p,q,WideElems.Trod_stays hl (c t eI).1 (c t eI).2 h1 (λx a=>?_) (λx a=>by simp_all),Fc hl e ts vs ds q (λt g=>c t (g7 _ g)) h2 λx a=>f x (eP _ a),rfl⟩;have:=e x.block (f x (fL _ a));cases x with|cell b off=>show w'.cell? _=w.cell? _;unfold World.cell?;rw[show w'.heap[b]?=w.heap[b]? from this]|map b=>exact this
 |[],[],_::_,_,_,h,_=>by simp[DataW.TrodAll]at h
 |[],_::_,_,_,_,h,_=>by simp[DataW.TrodAll]at h
 |_::_,[],_,_,_,h,_=>by simp[DataW.TrodAll]at h
 |_::_,_::_,[],_,_,h,_=>by simp[DataW.TrodAll]at h
theorem Ld{w':World}(c:w'.os=w.os)(a:w'.output=w.output)(e:∀b,b<w.heap.size->w'.heap[b]?=w.heap[b]?)(d:MemPlace->Prop):w.keptBut w' d:=by
 refine⟨c,a,λi f=>?_⟩
 grind
theorem Vs(hS:fc S){ty:TypeId->O Ty}(hR:∀t τ,ty t=Z τ->rdT S P ty t τ=W)(hl:laidOutB P=W){f:FuncId}{fn:Func}{s:ChangeSpec}{apart fresh i:Bool}{τs:L Ty}{tb:TypeId}
  (hτ:PW (λt τ=>ty t=Z τ) fn.params.toList τs) (hrd:∀t∈fn.params.toList,P.readableRec t=W∧t<P.types.size) (C:fn.resultTypes=#[tb]) (hb:P.underlying tb=Z .bool) (k:s.vars=[])
  (w:∀ds:L (DataW H),ds.length=τs.length->(s.fn H ds).results=[.lit (.bool W)]∧(s.fn H ds).args=ds∧(s.fn H ds).vars=[])
  (hF:∀x:ga S.A (τs.map λτ=>Pk.one (.dat τ)),∃F r,bA P f (⟨τs.map λτ=>.one (.dat τ),[.dat .bool],J,F⟩:lz S)∧F x=Z r∧r.1.1=W)
  {a:World} {base:Nat} {args:Array Value} {ds E:L (DataW H)} {l:L MemPlace}
  (o:∀(j:Nat)t v,fn.params[j]?=Z t->args[j]?=Z v->Value.okWide P a .any base t v) (hW:DataW.Whole OH P fn.params.toList s.vars apart a args.toList ds E l)
  (z:(DataW.weightsEach P (fn.params.toList++s.plain.varTypes P) (ds++E)).all (·<=reachBytes)=W) :
  Calls P f args a λe W'=>∃v,e=.returned v∧s.post OH P fn apart fresh i J a args v W':=by
 rw[k]at hW;have m:=hW;obtain⟨p,q,I,hV,rfl,hfz,hnd⟩:=hW;have hgs:E=[]∧q=[]:=by cases E with|nil=>exact⟨rfl,hV⟩|cons g E=>simp[DataW.TrodVars]at hV
 obtain⟨rfl,rfl⟩:=hgs;have hvt:s.plain.varTypes P=[]:=by grind[ChangeSpec.plain,DataSpec.varTypes]
 rw[hvt,jB,jB]at z
 let ⟨x,hx⟩:=I4 hS hR fn.params.toList τs args.toList ds p hτ (λj t v h1 h2=>o j t v (by simpa using h1) (by simpa using h2)) I z
 let ⟨F,r,K,hr,c⟩:=hF x
 have R:ds.length=τs.length:=by
  rw[<-hτ.1];clear o m z hfz hnd hV hx hτ hrd;generalize fn.params.toList=ts at I;generalize args.toList=B at I
  induction ts generalizing B ds p with
  |nil=>cases B<;>cases ds<;>simp_all [DataW.TrodAll]
  |cons t ts ih=>
   cases B with
   |nil=>cases ds<;>simp[DataW.TrodAll]at I
   |cons v B=>
    cases ds with
    |nil=>simp[DataW.TrodAll]at I|cons d ds=>
     grind[DataW.TrodAll]
 refine(K.2 x r hr _ a args [] [] hx (λ_ h=>h) .nil (by simp) (by simp)).mono λe W' he=>?_;cases e with
 |panicked ch=>exact he.elim|outgrown=>exact he.elim|returned v=>
 obtain⟨I',B,Ea,BA,_,_,_,hsz,A,hos,hout,rfl,_,hH,_⟩:=he;have hv:valOf B=.bool W:=by
  generalize r.1=y at hH c
  let ⟨b,u⟩:=y
  cases hH with
  |dat hd hr=>
  cases hr;cases hd;simp only at c;rw[c];rfl
 rw[hv];refine⟨_,rfl,?_⟩
 let ⟨s1,s2,s3⟩:=w ds R
 have n:∀b,b<a.heap.size->W'.heap[b]?=a.heap[b]?:=λb hb=>A b hb (by simp) (by simp);have hlt:∀x∈p,x.block<a.heap.size:=λx hx=>m.lt x (by simpa using hx);rw[jB]at m;unfold ChangeSpec.post;rw[k];refine⟨ds,[],p,[],p,[],m,?_,?_,?_,Ld hos hout n _,λh=>by cases h⟩
 .rw[jB,s1,C];refine⟨[],[],⟨1,?_⟩,rfl,rfl⟩;simp[DataW.trod,hb,Value.cells]
 .grind[Fc]
 .rw[jB,s3];rfl
end
end
end TL
end
section
namespace Mn
open Go TL
section
open Proofs.Tryz
def z0:TI:=⟨1,J,[.lit .nilFunc],[],.other⟩
abbrev n1{α:Type}(x:α)(l r:Tr α):Tr α:=.node (Z x) l r
abbrev n0{α:Type}(l r:Tr α):Tr α:=.node Y l r
abbrev e0{α:Type}:Tr α:=.nil
abbrev bx{α:Type}(x:α):Tr α:=.node (Z x) .nil .nil
abbrev cN(l r:Tr TI):Tr TI:=.node (Z z0) l r
abbrev bY:Tr TI:=.node (Z z0) .nil .nil
abbrev aG:D:=.lit (.int .i64 0)
abbrev dJ:D:=.lit (.string ⟨#[]⟩)
abbrev iW:D:=.lit (.pointer Y)
abbrev eo:D:=.lit .nilFunc
abbrev I7:Kd:=.struct [(0,1,J)]
abbrev vz:Kd:=.struct [(0,1,J),(1,1,J)]
abbrev rJ:Kd:=.struct [(0,1,J),(1,1,J),(2,1,J)]
abbrev oZ:Kd:=.struct [(0,1,J),(1,1,J),(2,1,J),(3,1,J)]
abbrev I6:Kd:=.struct [(0,1,J),(1,1,J),(2,1,J),(3,1,J),(4,1,J)]
structure bO where
 Op:Int
 A:Int
 B:Int
structure aD where
 Form:Int
 N:Int
 Text:List UInt8
 BE:List aD
structure cq where
 Name:List UInt8
 lY:Int
structure ax where
 dG:List bO
 ew:List aD
 cU:List Int
 Main:Int
 Cons:List cq
structure aA where
 Kind:Int
 N:Int
structure au where
 At:Int
 Env:List aA
 Stack:List aA
 ep:Bool
structure bI where
 Form:Int
 N:Int
 g9:List aA
 Frames:List au
structure ei where
 Port:Int
 N:Int
structure aj where
 aP:List bI
 bg:List Int
 mU:List ei
 dG:List Int
 Used:Int
structure aq where
 Reached:Bool
 Stack:Int
 Env:Int
structure bH where
 C:ax
 D:List aq
structure aM where
 Task:Int
 Do:Int
 N:Int
 V:aA
structure cX where
 W:aj
 al0:Int
 E:aM
structure cL where
 aj:aj
 code:ax
 Zz:List aq
 Qc:List (Int×Bool)
structure sd where
structure iD where
 aM:aM
structure ru where
inductive fJ where
 |a0 (x:sd)|a1 (x:iD)|a2 (x:ru)|none
structure cE where
 Pn:Int
 N:Int
 Text:List UInt8
 BE:List cE
structure iN where
 Name:List UInt8
 lY:List cE
structure kq where
 Name:List UInt8
 Cons:List iN
structure Term where
 Op:Int
 N:Int
 Text:List UInt8
 Kids:List Term
 ew:List aD
structure cT where
 Name:List UInt8
 Param:List UInt8
 Pr:cE
 To:cE
 Body:Term
structure dZ where
 Name:List UInt8
 aeJ:List kq
 cU:List cT
structure gz where
 Op:Int
 N:Int
 Kids:List Int
 ew:List aD
structure gL where
 aeG:List gz
 cU:List Int
 Main:Int
 Cons:List cq
structure aZ where
 At:Int
 jE:aq
structure iC where
 waits:Bool
 state:Int
structure dN where
 oM:List (List UInt8)
 cons:List cq
 nodes:List gz
structure nW where
 a0:Int
 a1:Int
structure bE where
 dG:List bO
 ew:List aD
 Want:List nW
structure mT where
 env:Int
structure jG where
 stack:Int
structure mW where
 stack:Int
inductive er where
 |a0 (x:mT)|a1 (x:jG)|a2 (x:mW)|none
structure fK where
 Kind:Int
 Text:List UInt8
 N:Int
 At:Int
structure bJ where
 l_:List fK
 at_:Int
 bad:Bool
structure eB where
 low:Int
 high:Int
 asked:Bool
inductive Any where
 |a0 (x:iC)|none
def bM:bO:=⟨0,0,0⟩
def aL:aD:=⟨0,0,[],[]⟩
def bf:cq:=⟨[],0⟩
def qh:ax:=⟨[],[],[],0,[]⟩
def cB:aA:=⟨0,0⟩
def aS:au:=⟨0,[],[],J⟩
def bG:bI:=⟨0,0,[],[]⟩
def ki:ei:=⟨0,0⟩
def dg:aj:=⟨[],[],[],[],0⟩
def aQ:aq:=⟨J,0,0⟩
def kY:bH:=⟨qh,[]⟩
def cZ:aM:=⟨0,0,0,cB⟩
def vE:cX:=⟨dg,0,cZ⟩
def DU:cL:=⟨dg,qh,[],[]⟩
def OO:sd:=⟨⟩
def JS:iD:=⟨cZ⟩
def JQ:ru:=⟨⟩
def adh:fJ:=.none
def nH:cE:=⟨0,0,[],[]⟩
def iw:iN:=⟨[],[]⟩
def mq:kq:=⟨[],[]⟩
def rZ:Term:=⟨0,0,[],[],[]⟩
def dO:cT:=⟨[],[],nH,nH,rZ⟩
def kg:dZ:=⟨[],[],[]⟩
def tT:gz:=⟨0,0,[],[]⟩
def qi:gL:=⟨[],[],0,[]⟩
def aX:aZ:=⟨0,aQ⟩
def Bg:iC:=⟨J,0⟩
def rf:dN:=⟨[],[],[]⟩
def Bh:nW:=⟨0,0⟩
def gW:bE:=⟨[],[],[]⟩
def JP:mT:=⟨0⟩
def zN:jG:=⟨0⟩
def JR:mW:=⟨0⟩
def V3:er:=.none
def dK:fK:=⟨0,[],0,0⟩
def qZ:bJ:=⟨[],0,J⟩
def fF:eB:=⟨0,0,J⟩
def arL:Any:=.none
def w5(x:bO):L D:=[.lit (.int .i64 x.Op),.lit (.int .i64 x.A),.lit (.int .i64 x.B)]
mutual
def wZ:aD->L D
 |.mk x0 x1 x2 x3=>[.lit (.int .i64 x0),.lit (.int .i64 x1),.lit (.string (bZ x2)),.sl (iZ x3)]
def iZ:L aD->L D
 |[]=>[]|y::l=>.agg (wZ y)::iZ l
end
def gm:∀l:L aD,iZ l=l.map (λy=>.agg (wZ y))
 |[]=>rfl|y::l=>by simp only[iZ,pG,gm l]
def tW(x:cq):L D:=[.lit (.string (bZ x.Name)),.lit (.int .i64 x.lY)]
def CM(x:ax):L D:=[.sl (List.map (λy=>.agg (w5 y)) x.dG),.sl (iZ x.ew),.sl (List.map (λy=>.lit (.int .i64 y)) x.cU),.lit (.int .i64 x.Main),.sl (List.map (λy=>.agg (tW y)) x.Cons)]
def Bo(x:aA):L D:=[.lit (.int .i64 x.Kind),.lit (.int .i64 x.N)]
def J1(x:au):L D:=[.lit (.int .i64 x.At),.sl (List.map (λy=>.agg (Bo y)) x.Env),.sl (List.map (λy=>.agg (Bo y)) x.Stack),.lit (.bool x.ep)]
def E1(x:bI):L D:=[.lit (.int .i64 x.Form),.lit (.int .i64 x.N),.sl (List.map (λy=>.agg (Bo y)) x.g9),.sl (List.map (λy=>.agg (J1 y)) x.Frames)]
def Bp(x:ei):L D:=[.lit (.int .i64 x.Port),.lit (.int .i64 x.N)]
def V6(x:aj):L D:=[.sl (List.map (λy=>.agg (E1 y)) x.aP),.sl (List.map (λy=>.lit (.int .i64 y)) x.bg),.sl (List.map (λy=>.agg (Bp y)) x.mU),.sl (List.map (λy=>.lit (.int .i64 y)) x.dG),.lit (.int .i64 x.Used)]
def zS(x:aq):L D:=[.lit (.bool x.Reached),.lit (.int .i64 x.Stack),.lit (.int .i64 x.Env)]
def kZ(x:bH):L D:=[.sl (List.map (λy=>.agg (w5 y)) x.C.dG),.sl (iZ x.C.ew),.sl (List.map (λy=>.lit (.int .i64 y)) x.C.cU),.lit (.int .i64 x.C.Main),.sl (List.map (λy=>.agg (tW y)) x.C.Cons),.sl (List.map (λy=>.agg (zS y)) x.D)]
def RD(x:aM):L D:=[.lit (.int .i64 x.Task),.lit (.int .i64 x.Do),.lit (.int .i64 x.N),.lit (.int .i64 x.V.Kind),.lit (.int .i64 x.V.N)]
def Ep(x:cX):L D:=[.sl (List.map (λy=>.agg (E1 y)) x.W.aP),.sl (List.map (λy=>.lit (.int .i64 y)) x.W.bg),.sl (List.map (λy=>.agg (Bp y)) x.W.mU),.sl (List.map (λy=>.lit (.int .i64 y)) x.W.dG),.lit (.int .i64 x.W.Used),.lit (.int .i64 x.al0),.lit (.int .i64 x.E.Task),.lit (.int .i64 x.E.Do),.lit (.int .i64 x.E.N),.lit (.int .i64 x.E.V.Kind),.lit (.int .i64 x.E.V.N)]
def w4(x:cL):L D:=[.sl (List.map (λy=>.agg (E1 y)) x.aj.aP),.sl (List.map (λy=>.lit (.int .i64 y)) x.aj.bg),.sl (List.map (λy=>.agg (Bp y)) x.aj.mU),.sl (List.map (λy=>.lit (.int .i64 y)) x.aj.dG),.lit (.int .i64 x.aj.Used),.sl (List.map (λy=>.agg (w5 y)) x.code.dG),.sl (iZ x.code.ew),.sl (List.map (λy=>.lit (.int .i64 y)) x.code.cU),.lit (.int .i64 x.code.Main),.sl (List.map (λy=>.agg (tW y)) x.code.Cons),.sl (List.map (λy=>.agg (zS y)) x.Zz),.mp (List.map (λy=>.lit (.int .i64 y.1)) x.Qc) (List.map (λy=>.lit (.bool y.2)) x.Qc)]
def OW(x:sd):L D:=[]
def J4(x:iD):L D:=[.lit (.int .i64 x.aM.Task),.lit (.int .i64 x.aM.Do),.lit (.int .i64 x.aM.N),.lit (.int .i64 x.aM.V.Kind),.lit (.int .i64 x.aM.V.N)]
def J2(x:ru):L D:=[]
def TD:fJ->O (TypeId×D)
 |.a0 x=>Z (197,.agg (OW x))|.a1 x=>Z (203,.agg (J4 x))|.a2 x=>Z (213,.agg (J2 x))|.none=>Y
def adn(x:fJ):L D:=[PL (TD x)]
mutual
def tU:cE->L D
 |.mk x0 x1 x2 x3=>[.lit (.int .i64 x0),.lit (.int .i64 x1),.lit (.string (bZ x2)),.sl (lT x3)]
def lT:L cE->L D
 |[]=>[]|y::l=>.agg (tU y)::lT l
end
def mP:∀l:L cE,lT l=l.map (λy=>.agg (tU y))
 |[]=>rfl|y::l=>by simp only[lT,pG,mP l]
def r8(x:iN):L D:=[.lit (.string (bZ x.Name)),.sl (lT x.lY)]
def J0(x:kq):L D:=[.lit (.string (bZ x.Name)),.sl (List.map (λy=>.agg (r8 y)) x.Cons)]
mutual
def OY:Term->L D
 |.mk x0 x1 x2 x3 x4=>[.lit (.int .i64 x0),.lit (.int .i64 x1),.lit (.string (bZ x2)),.sl (Hp x3),.sl (iZ x4)]
def Hp:L Term->L D
 |[]=>[]|y::l=>.agg (OY y)::Hp l
end
def zO:∀l:L Term,Hp l=l.map (λy=>.agg (OY y))
 |[]=>rfl|y::l=>by simp only[Hp,pG,zO l]
def r7(x:cT):L D:=[.lit (.string (bZ x.Name)),.lit (.string (bZ x.Param)),.lit (.int .i64 x.Pr.Pn),.lit (.int .i64 x.Pr.N),.lit (.string (bZ x.Pr.Text)),.sl (lT x.Pr.BE),.lit (.int .i64 x.To.Pn),.lit (.int .i64 x.To.N),.lit (.string (bZ x.To.Text)),.sl (lT x.To.BE),.lit (.int .i64 x.Body.Op),.lit (.int .i64 x.Body.N),.lit (.string (bZ x.Body.Text)),.sl (Hp x.Body.Kids),.sl (iZ x.Body.ew)]
def OX(x:dZ):L D:=[.lit (.string (bZ x.Name)),.sl (List.map (λy=>.agg (J0 y)) x.aeJ),.sl (List.map (λy=>.agg (r7 y)) x.cU)]
def tV(x:gz):L D:=[.lit (.int .i64 x.Op),.lit (.int .i64 x.N),.sl (List.map (λy=>.lit (.int .i64 y)) x.Kids),.sl (iZ x.ew)]
def V7(x:gL):L D:=[.sl (List.map (λy=>.agg (tV y)) x.aeG),.sl (List.map (λy=>.lit (.int .i64 y)) x.cU),.lit (.int .i64 x.Main),.sl (List.map (λy=>.agg (tW y)) x.Cons)]
def Bn(x:aZ):L D:=[.lit (.int .i64 x.At),.lit (.bool x.jE.Reached),.lit (.int .i64 x.jE.Stack),.lit (.int .i64 x.jE.Env)]
def Bq(x:iC):L D:=[.lit (.bool x.waits),.lit (.int .i64 x.state)]
def zT(x:dN):L D:=[.sl (List.map (λy=>.lit (.string (bZ y))) x.oM),.sl (List.map (λy=>.agg (tW y)) x.cons),.sl (List.map (λy=>.agg (tV y)) x.nodes)]
def OZ(x:nW):L D:=[.lit (.int .i64 x.a0),.lit (.int .i64 x.a1)]
def nI(x:bE):L D:=[.sl (List.map (λy=>.agg (w5 y)) x.dG),.sl (iZ x.ew),.sl (List.map (λy=>.agg (OZ y)) x.Want)]
def JZ(x:mT):L D:=[.lit (.int .i64 x.env)]
def HB(x:jG):L D:=[.lit (.int .i64 x.stack)]
def J3(x:mW):L D:=[.lit (.int .i64 x.stack)]
def JC:er->O (TypeId×D)
 |.a0 x=>Z (315,.agg (JZ x))|.a1 x=>Z (317,.agg (HB x))|.a2 x=>Z (318,.agg (J3 x))|.none=>Y
def V8(x:er):L D:=[PL (JC x)]
def HA(x:fK):L D:=[.lit (.int .i64 x.Kind),.lit (.string (bZ x.Text)),.lit (.int .i64 x.N),.lit (.int .i64 x.At)]
def zR(x:bJ):L D:=[.sl (List.map (λy=>.agg (HA y)) x.l_),.lit (.int .i64 x.at_),.lit (.bool x.bad)]
def RE(x:eB):L D:=[.lit (.int .i64 x.low),.lit (.int .i64 x.high),.lit (.bool x.asked)]
def ajF:Any->O (TypeId×D)
 |.a0 x=>Z (199,.agg (Bq x))|.none=>Y
def arN(x:Any):L D:=[PL (ajF x)]
def OU:Nat->Type
 |0=>bO|1=>aD|2=>cq|3=>ax|4=>aA|5=>au|6=>bI|7=>ei|8=>aj|9=>aq|10=>bH|11=>aM|12=>cX|13=>cL|14=>sd|15=>iD|16=>ru|17=>fJ|18=>cE|19=>iN|20=>kq|21=>Term|22=>cT|23=>dZ|24=>gz|25=>gL|26=>aZ|27=>iC|28=>dN|29=>nW|30=>bE|31=>mT|32=>jG|33=>mW|34=>er|35=>fK|36=>bJ|37=>eB|38=>Any|_+39=>U
def fields:Nat->L Ty
 |0=>[.int .i64,.int .i64,.int .i64]|1=>[.int .i64,.int .i64,.str,.sl (.st 1)]|2=>[.str,.int .i64]|3=>[.sl (.st 0),.sl (.st 1),.sl (.int .i64),.int .i64,.sl (.st 2)]|4=>[.int .i64,.int .i64]|5=>[.int .i64,.sl (.st 4),.sl (.st 4),.bool]|6=>[.int .i64,.int .i64,.sl (.st 4),.sl (.st 5)]|7=>[.int .i64,.int .i64]|8=>[.sl (.st 6),.sl (.int .i64),.sl (.st 7),.sl (.int .i64),.int .i64]|9=>[.bool,.int .i64,.int .i64]|10=>[.sl (.st 0),.sl (.st 1),.sl (.int .i64),.int .i64,.sl (.st 2),.sl (.st 9)]|11=>[.int .i64,.int .i64,.int .i64,.int .i64,.int .i64]|12=>[.sl (.st 6),.sl (.int .i64),.sl (.st 7),.sl (.int .i64),.int .i64,.int .i64,.int .i64,.int .i64,.int .i64,.int .i64,.int .i64]|13=>[.sl (.st 6),.sl (.int .i64),.sl (.st 7),.sl (.int .i64),.int .i64,.sl (.st 0),.sl (.st 1),.sl (.int .i64),.int .i64,.sl (.st 2),.sl (.st 9),.mp (.int .i64) (.bool)]|14=>[]|15=>[.int .i64,.int .i64,.int .i64,.int .i64,.int .i64]|16=>[]|17=>[.de 17]|18=>[.int .i64,.int .i64,.str,.sl (.st 18)]|19=>[.str,.sl (.st 18)]|20=>[.str,.sl (.st 19)]|21=>[.int .i64,.int .i64,.str,.sl (.st 21),.sl (.st 1)]|22=>[.str,.str,.int .i64,.int .i64,.str,.sl (.st 18),.int .i64,.int .i64,.str,.sl (.st 18),.int .i64,.int .i64,.str,.sl (.st 21),.sl (.st 1)]|23=>[.str,.sl (.st 20),.sl (.st 22)]|24=>[.int .i64,.int .i64,.sl (.int .i64),.sl (.st 1)]|25=>[.sl (.st 24),.sl (.int .i64),.int .i64,.sl (.st 2)]|26=>[.int .i64,.bool,.int .i64,.int .i64]|27=>[.bool,.int .i64]|28=>[.sl (.str),.sl (.st 2),.sl (.st 24)]|29=>[.int .i64,.int .i64]|30=>[.sl (.st 0),.sl (.st 1),.sl (.st 29)]|31=>[.int .i64]|32=>[.int .i64]|33=>[.int .i64]|34=>[.de 34]|35=>[.int .i64,.str,.int .i64,.int .i64]|36=>[.sl (.st 35),.int .i64,.bool]|37=>[.int .i64,.int .i64,.bool]|38=>[.de 38]|_+39=>[]
def dflt:(n:Nat)->OU n
 |0=>bM|1=>aL|2=>bf|3=>qh|4=>cB|5=>aS|6=>bG|7=>ki|8=>dg|9=>aQ|10=>kY|11=>cZ|12=>vE|13=>DU|14=>OO|15=>JS|16=>JQ|17=>adh|18=>nH|19=>iw|20=>mq|21=>rZ|22=>dO|23=>kg|24=>tT|25=>qi|26=>aX|27=>Bg|28=>rf|29=>Bh|30=>gW|31=>JP|32=>zN|33=>JR|34=>V3|35=>dK|36=>qZ|37=>fF|38=>arL|_+39=>()
def acU:(n:Nat)->OU n->lP OU (fields n)
 |0,x=>(bO.Op x,bO.A x,bO.B x,())|1,x=>(aD.Form x,aD.N x,aD.Text x,aD.BE x,())|2,x=>(cq.Name x,cq.lY x,())|3,x=>(ax.dG x,ax.ew x,ax.cU x,ax.Main x,ax.Cons x,())|4,x=>(aA.Kind x,aA.N x,())|5,x=>(au.At x,au.Env x,au.Stack x,au.ep x,())|6,x=>(bI.Form x,bI.N x,bI.g9 x,bI.Frames x,())|7,x=>(ei.Port x,ei.N x,())|8,x=>(aj.aP x,aj.bg x,aj.mU x,aj.dG x,aj.Used x,())|9,x=>(aq.Reached x,aq.Stack x,aq.Env x,())|10,x=>((bH.C x).dG,(bH.C x).ew,(bH.C x).cU,(bH.C x).Main,(bH.C x).Cons,bH.D x,())|11,x=>(aM.Task x,aM.Do x,aM.N x,(aM.V x).Kind,(aM.V x).N,())|12,x=>((cX.W x).aP,(cX.W x).bg,(cX.W x).mU,(cX.W x).dG,(cX.W x).Used,cX.al0 x,(cX.E x).Task,(cX.E x).Do,(cX.E x).N,(cX.E x).V.Kind,(cX.E x).V.N,())|13,x=>((cL.aj x).aP,(cL.aj x).bg,(cL.aj x).mU,(cL.aj x).dG,(cL.aj x).Used,(cL.code x).dG,(cL.code x).ew,(cL.code x).cU,(cL.code x).Main,(cL.code x).Cons,cL.Zz x,cL.Qc x,())|14,_=>()|15,x=>((iD.aM x).Task,(iD.aM x).Do,(iD.aM x).N,(iD.aM x).V.Kind,(iD.aM x).V.N,())|16,_=>()|17,x=>(x,())|18,x=>(cE.Pn x,cE.N x,cE.Text x,cE.BE x,())|19,x=>(iN.Name x,iN.lY x,())|20,x=>(kq.Name x,kq.Cons x,())|21,x=>(Term.Op x,Term.N x,Term.Text x,Term.Kids x,Term.ew x,())|22,x=>(cT.Name x,cT.Param x,(cT.Pr x).Pn,(cT.Pr x).N,(cT.Pr x).Text,(cT.Pr x).BE,(cT.To x).Pn,(cT.To x).N,(cT.To x).Text,(cT.To x).BE,(cT.Body x).Op,(cT.Body x).N,(cT.Body x).Text,(cT.Body x).Kids,(cT.Body x).ew,())|23,x=>(dZ.Name x,dZ.aeJ x,dZ.cU x,())|24,x=>(gz.Op x,gz.N x,gz.Kids x,gz.ew x,())|25,x=>(gL.aeG x,gL.cU x,gL.Main x,gL.Cons x,())|26,x=>(aZ.At x,(aZ.jE x).Reached,(aZ.jE x).Stack,(aZ.jE x).Env,())|27,x=>(iC.waits x,iC.state x,())|28,x=>(dN.oM x,dN.cons x,dN.nodes x,())|29,x=>(nW.a0 x,nW.a1 x,())|30,x=>(bE.dG x,bE.ew x,bE.Want x,())|31,x=>(mT.env x,())|32,x=>(jG.stack x,())|33,x=>(mW.stack x,())|34,x=>(x,())|35,x=>(fK.Kind x,fK.Text x,fK.N x,fK.At x,())|36,x=>(bJ.l_ x,bJ.at_ x,bJ.bad x,())|37,x=>(eB.low x,eB.high x,eB.asked x,())|38,x=>(x,())|_+39,_=>()
def Ya:(n:Nat)->lP OU (fields n)->OU n
 |0,(x0,x1,x2,())=>(⟨x0,x1,x2⟩:bO)|1,(x0,x1,x2,x3,())=>(⟨x0,x1,x2,x3⟩:aD)|2,(x0,x1,())=>(⟨x0,x1⟩:cq)|3,(x0,x1,x2,x3,x4,())=>(⟨x0,x1,x2,x3,x4⟩:ax)|4,(x0,x1,())=>(⟨x0,x1⟩:aA)|5,(x0,x1,x2,x3,())=>(⟨x0,x1,x2,x3⟩:au)|6,(x0,x1,x2,x3,())=>(⟨x0,x1,x2,x3⟩:bI)|7,(x0,x1,())=>(⟨x0,x1⟩:ei)|8,(x0,x1,x2,x3,x4,())=>(⟨x0,x1,x2,x3,x4⟩:aj)|9,(x0,x1,x2,())=>(⟨x0,x1,x2⟩:aq)|10,(x0,x1,x2,x3,x4,x5,())=>(⟨⟨x0,x1,x2,x3,x4⟩,x5⟩:bH)|11,(x0,x1,x2,x3,x4,())=>(⟨x0,x1,x2,⟨x3,x4⟩⟩:aM)|12,(x0,x1,x2,x3,x4,x5,x6,x7,x8,x9,WJ,())=>(⟨⟨x0,x1,x2,x3,x4⟩,x5,⟨x6,x7,x8,⟨x9,WJ⟩⟩⟩:cX)|13,(x0,x1,x2,x3,x4,x5,x6,x7,x8,x9,WJ,x11,())=>(⟨⟨x0,x1,x2,x3,x4⟩,⟨x5,x6,x7,x8,x9⟩,WJ,x11⟩:cL)|14,_=>(⟨⟩:sd)|15,(x0,x1,x2,x3,x4,())=>(⟨⟨x0,x1,x2,⟨x3,x4⟩⟩⟩:iD)|16,_=>(⟨⟩:ru)|17,(x,())=>x|18,(x0,x1,x2,x3,())=>(⟨x0,x1,x2,x3⟩:cE)|19,(x0,x1,())=>(⟨x0,x1⟩:iN)|20,(x0,x1,())=>(⟨x0,x1⟩:kq)|21,(x0,x1,x2,x3,x4,())=>(⟨x0,x1,x2,x3,x4⟩:Term)|22,(x0,x1,x2,x3,x4,x5,x6,x7,x8,x9,WJ,x11,x12,x13,x14,())=>(⟨x0,x1,⟨x2,x3,x4,x5⟩,⟨x6,x7,x8,x9⟩,⟨WJ,x11,x12,x13,x14⟩⟩:cT)|23,(x0,x1,x2,())=>(⟨x0,x1,x2⟩:dZ)|24,(x0,x1,x2,x3,())=>(⟨x0,x1,x2,x3⟩:gz)|25,(x0,x1,x2,x3,())=>(⟨x0,x1,x2,x3⟩:gL)|26,(x0,x1,x2,x3,())=>(⟨x0,⟨x1,x2,x3⟩⟩:aZ)|27,(x0,x1,())=>(⟨x0,x1⟩:iC)|28,(x0,x1,x2,())=>(⟨x0,x1,x2⟩:dN)|29,(x0,x1,())=>(⟨x0,x1⟩:nW)|30,(x0,x1,x2,())=>(⟨x0,x1,x2⟩:bE)|31,(x0,())=>(⟨x0⟩:mT)|32,(x0,())=>(⟨x0⟩:jG)|33,(x0,())=>(⟨x0⟩:mW)|34,(x,())=>x|35,(x0,x1,x2,x3,())=>(⟨x0,x1,x2,x3⟩:fK)|36,(x0,x1,x2,())=>(⟨x0,x1,x2⟩:bJ)|37,(x0,x1,x2,())=>(⟨x0,x1,x2⟩:eB)|38,(x,())=>x|_+39,_=>()
def ZL:(n:Nat)->OU n->L D
 |0,x=>w5 x|1,x=>wZ x|2,x=>tW x|3,x=>CM x|4,x=>Bo x|5,x=>J1 x|6,x=>E1 x|7,x=>Bp x|8,x=>V6 x|9,x=>zS x|10,x=>kZ x|11,x=>RD x|12,x=>Ep x|13,x=>w4 x|14,x=>OW x|15,x=>J4 x|16,x=>J2 x|17,x=>adn x|18,x=>tU x|19,x=>r8 x|20,x=>J0 x|21,x=>OY x|22,x=>r7 x|23,x=>OX x|24,x=>tV x|25,x=>V7 x|26,x=>Bn x|27,x=>Bq x|28,x=>zT x|29,x=>OZ x|30,x=>nI x|31,x=>JZ x|32,x=>HB x|33,x=>J3 x|34,x=>V8 x|35,x=>HA x|36,x=>zR x|37,x=>RE x|38,x=>arN x|_+39,_=>[]
def Ka:Nat->L (TypeId×Ty)
 |17=>[(197,.st 14),(203,.st 15),(213,.st 16)]|34=>[(315,.st 31),(317,.st 32),(318,.st 33)]|38=>[(199,.st 27)]|_=>[]
def jh:(n:Nat)->OU n->yu OU (Ka n)
 |0,_=>()|1,_=>()|2,_=>()|3,_=>()|4,_=>()|5,_=>()|6,_=>()|7,_=>()|8,_=>()|9,_=>()|10,_=>()|11,_=>()|12,_=>()|13,_=>()|14,_=>()|15,_=>()|16,_=>()|17,.a0 x=>.inl x|17,.a1 x=>.inr (.inl x)|17,.a2 x=>.inr (.inr (.inl x))|17,.none=>.inr (.inr (.inr (())))|18,_=>()|19,_=>()|20,_=>()|21,_=>()|22,_=>()|23,_=>()|24,_=>()|25,_=>()|26,_=>()|27,_=>()|28,_=>()|29,_=>()|30,_=>()|31,_=>()|32,_=>()|33,_=>()|34,.a0 x=>.inl x|34,.a1 x=>.inr (.inl x)|34,.a2 x=>.inr (.inr (.inl x))|34,.none=>.inr (.inr (.inr (())))|35,_=>()|36,_=>()|37,_=>()|38,.a0 x=>.inl x|38,.none=>.inr (())|_+39,_=>()
def ajC:(n:Nat)->yu OU (Ka n)->OU n
 |0,_=>bM|1,_=>aL|2,_=>bf|3,_=>qh|4,_=>cB|5,_=>aS|6,_=>bG|7,_=>ki|8,_=>dg|9,_=>aQ|10,_=>kY|11,_=>cZ|12,_=>vE|13,_=>DU|14,_=>OO|15,_=>JS|16,_=>JQ|17,.inl x=>(fJ.a0 x)|17,.inr (.inl x)=>(fJ.a1 x)|17,.inr (.inr (.inl x))=>(fJ.a2 x)|17,.inr (.inr (.inr (_)))=>fJ.none|18,_=>nH|19,_=>iw|20,_=>mq|21,_=>rZ|22,_=>dO|23,_=>kg|24,_=>tT|25,_=>qi|26,_=>aX|27,_=>Bg|28,_=>rf|29,_=>Bh|30,_=>gW|31,_=>JP|32,_=>zN|33,_=>JR|34,.inl x=>(er.a0 x)|34,.inr (.inl x)=>(er.a1 x)|34,.inr (.inr (.inl x))=>(er.a2 x)|34,.inr (.inr (.inr (_)))=>er.none|35,_=>dK|36,_=>qZ|37,_=>fF|38,.inl x=>(Any.a0 x)|38,.inr (_)=>Any.none|_+39,_=>()
def Yz:(n:Nat)->OU n->O (TypeId×D)
 |17,x=>TD x|34,x=>JC x|38,x=>ajF x|_,_=>Y
def sg:Sg:=⟨OU,fields,dflt,acU,Ya,ZL,Ka,jh,ajC,Yz,.de 38⟩
def sC:(n:Nat)->(h:lP OU (fields n))->acU n (Ya n h)=h
 |0,(x0,x1,x2,())=>rfl|1,(x0,x1,x2,x3,())=>rfl|2,(x0,x1,())=>rfl|3,(x0,x1,x2,x3,x4,())=>rfl|4,(x0,x1,())=>rfl|5,(x0,x1,x2,x3,())=>rfl|6,(x0,x1,x2,x3,())=>rfl|7,(x0,x1,())=>rfl|8,(x0,x1,x2,x3,x4,())=>rfl|9,(x0,x1,x2,())=>rfl|10,(x0,x1,x2,x3,x4,x5,())=>rfl|11,(x0,x1,x2,x3,x4,())=>rfl|12,(x0,x1,x2,x3,x4,x5,x6,x7,x8,x9,WJ,())=>rfl|13,(x0,x1,x2,x3,x4,x5,x6,x7,x8,x9,WJ,x11,())=>rfl|14,()=>rfl|15,(x0,x1,x2,x3,x4,())=>rfl|16,()=>rfl|17,(x0,())=>rfl|18,(x0,x1,x2,x3,())=>rfl|19,(x0,x1,())=>rfl|20,(x0,x1,())=>rfl|21,(x0,x1,x2,x3,x4,())=>rfl|22,(x0,x1,x2,x3,x4,x5,x6,x7,x8,x9,WJ,x11,x12,x13,x14,())=>rfl|23,(x0,x1,x2,())=>rfl|24,(x0,x1,x2,x3,())=>rfl|25,(x0,x1,x2,x3,())=>rfl|26,(x0,x1,x2,x3,())=>rfl|27,(x0,x1,())=>rfl|28,(x0,x1,x2,())=>rfl|29,(x0,x1,())=>rfl|30,(x0,x1,x2,())=>rfl|31,(x0,())=>rfl|32,(x0,())=>rfl|33,(x0,())=>rfl|34,(x0,())=>rfl|35,(x0,x1,x2,x3,())=>rfl|36,(x0,x1,x2,())=>rfl|37,(x0,x1,x2,())=>rfl|38,(x0,())=>rfl|_+39,()=>rfl
def X7:(n:Nat)->(x:OU n)->Ya n (acU n x)=x
 |0,⟨x0,x1,x2⟩=>rfl|1,⟨x0,x1,x2,x3⟩=>rfl|2,⟨x0,x1⟩=>rfl|3,⟨x0,x1,x2,x3,x4⟩=>rfl|4,⟨x0,x1⟩=>rfl|5,⟨x0,x1,x2,x3⟩=>rfl|6,⟨x0,x1,x2,x3⟩=>rfl|7,⟨x0,x1⟩=>rfl|8,⟨x0,x1,x2,x3,x4⟩=>rfl|9,⟨x0,x1,x2⟩=>rfl|10,⟨⟨x0,x1,x2,x3,x4⟩,x5⟩=>rfl|11,⟨x0,x1,x2,⟨x3,x4⟩⟩=>rfl|12,⟨⟨x0,x1,x2,x3,x4⟩,x5,⟨x6,x7,x8,⟨x9,WJ⟩⟩⟩=>rfl|13,⟨⟨x0,x1,x2,x3,x4⟩,⟨x5,x6,x7,x8,x9⟩,WJ,x11⟩=>rfl|14,.mk=>rfl|15,⟨⟨x0,x1,x2,⟨x3,x4⟩⟩⟩=>rfl|16,.mk=>rfl|17,_=>rfl|18,⟨x0,x1,x2,x3⟩=>rfl|19,⟨x0,x1⟩=>rfl|20,⟨x0,x1⟩=>rfl|21,⟨x0,x1,x2,x3,x4⟩=>rfl|22,⟨x0,x1,⟨x2,x3,x4,x5⟩,⟨x6,x7,x8,x9⟩,⟨WJ,x11,x12,x13,x14⟩⟩=>rfl|23,⟨x0,x1,x2⟩=>rfl|24,⟨x0,x1,x2,x3⟩=>rfl|25,⟨x0,x1,x2,x3⟩=>rfl|26,⟨x0,⟨x1,x2,x3⟩⟩=>rfl|27,⟨x0,x1⟩=>rfl|28,⟨x0,x1,x2⟩=>rfl|29,⟨x0,x1⟩=>rfl|30,⟨x0,x1,x2⟩=>rfl|31,⟨x0⟩=>rfl|32,⟨x0⟩=>rfl|33,⟨x0⟩=>rfl|34,_=>rfl|35,⟨x0,x1,x2,x3⟩=>rfl|36,⟨x0,x1,x2⟩=>rfl|37,⟨x0,x1,x2⟩=>rfl|38,_=>rfl|_+39,()=>rfl
def ZK:(n:Nat)->(x:OU n)->ZL n x=eW sg (fields n) (acU n x)
 |0,_=>rfl|1,.mk x0 x1 x2 x3=>by show wZ _=_;simp only[wZ,gm];rfl
 |2,_=>rfl|3,x=>by show CM x=_;simp only[CM,gm];rfl
 |4,_=>rfl|5,_=>rfl|6,_=>rfl|7,_=>rfl|8,_=>rfl|9,_=>rfl|10,x=>by show kZ x=_;simp only[kZ,gm];rfl
 |11,_=>rfl|12,_=>rfl|13,x=>by show w4 x=_;simp only[w4,gm];rfl
 |14,_=>rfl|15,_=>rfl|16,_=>rfl|17,_=>rfl|18,.mk x0 x1 x2 x3=>by show tU _=_;simp only[tU,mP];rfl
 |19,x=>by show r8 x=_;simp only[r8,mP];rfl
 |20,_=>rfl|21,.mk x0 x1 x2 x3 x4=>by show OY _=_;simp only[OY,zO,gm];rfl
 |22,x=>by show r7 x=_;simp only[r7,zO,gm,mP];rfl
 |23,_=>rfl|24,x=>by show tV x=_;simp only[tV,gm];rfl
 |25,_=>rfl|26,_=>rfl|27,_=>rfl|28,_=>rfl|29,_=>rfl|30,x=>by show nI x=_;simp only[nI,gm];rfl
 |31,_=>rfl|32,_=>rfl|33,_=>rfl|34,_=>rfl|35,_=>rfl|36,_=>rfl|37,_=>rfl|38,_=>rfl|_+39,()=>rfl
def ab4:(n:Nat)->∀t∈fields n,kF t=J
 |0=>λt h=>cI (l:=fields 0) rfl t h|1=>λt h=>cI (l:=fields 1) rfl t h|2=>λt h=>cI (l:=fields 2) rfl t h|3=>λt h=>cI (l:=fields 3) rfl t h|4=>λt h=>cI (l:=fields 4) rfl t h|5=>λt h=>cI (l:=fields 5) rfl t h|6=>λt h=>cI (l:=fields 6) rfl t h|7=>λt h=>cI (l:=fields 7) rfl t h|8=>λt h=>cI (l:=fields 8) rfl t h|9=>λt h=>cI (l:=fields 9) rfl t h|10=>λt h=>cI (l:=fields 10) rfl t h|11=>λt h=>cI (l:=fields 11) rfl t h|12=>λt h=>cI (l:=fields 12) rfl t h|13=>λt h=>cI (l:=fields 13) rfl t h|14=>λt h=>cI (l:=fields 14) rfl t h|15=>λt h=>cI (l:=fields 15) rfl t h|16=>λt h=>cI (l:=fields 16) rfl t h|17=>λt h=>cI (l:=fields 17) rfl t h|18=>λt h=>cI (l:=fields 18) rfl t h|19=>λt h=>cI (l:=fields 19) rfl t h|20=>λt h=>cI (l:=fields 20) rfl t h|21=>λt h=>cI (l:=fields 21) rfl t h|22=>λt h=>cI (l:=fields 22) rfl t h|23=>λt h=>cI (l:=fields 23) rfl t h|24=>λt h=>cI (l:=fields 24) rfl t h|25=>λt h=>cI (l:=fields 25) rfl t h|26=>λt h=>cI (l:=fields 26) rfl t h|27=>λt h=>cI (l:=fields 27) rfl t h|28=>λt h=>cI (l:=fields 28) rfl t h|29=>λt h=>cI (l:=fields 29) rfl t h|30=>λt h=>cI (l:=fields 30) rfl t h|31=>λt h=>cI (l:=fields 31) rfl t h|32=>λt h=>cI (l:=fields 32) rfl t h|33=>λt h=>cI (l:=fields 33) rfl t h|34=>λt h=>cI (l:=fields 34) rfl t h|35=>λt h=>cI (l:=fields 35) rfl t h|36=>λt h=>cI (l:=fields 36) rfl t h|37=>λt h=>cI (l:=fields 37) rfl t h|38=>λt h=>cI (l:=fields 38) rfl t h|_+39=>λ_ h=>by cases h
def EU:(n:Nat)->(h:yu OU (Ka n))->jh n (ajC n h)=h
 |0,()=>rfl|1,()=>rfl|2,()=>rfl|3,()=>rfl|4,()=>rfl|5,()=>rfl|6,()=>rfl|7,()=>rfl|8,()=>rfl|9,()=>rfl|10,()=>rfl|11,()=>rfl|12,()=>rfl|13,()=>rfl|14,()=>rfl|15,()=>rfl|16,()=>rfl|17,.inl x=>rfl|17,.inr (.inl x)=>rfl|17,.inr (.inr (.inl x))=>rfl|17,.inr (.inr (.inr (())))=>rfl|18,()=>rfl|19,()=>rfl|20,()=>rfl|21,()=>rfl|22,()=>rfl|23,()=>rfl|24,()=>rfl|25,()=>rfl|26,()=>rfl|27,()=>rfl|28,()=>rfl|29,()=>rfl|30,()=>rfl|31,()=>rfl|32,()=>rfl|33,()=>rfl|34,.inl x=>rfl|34,.inr (.inl x)=>rfl|34,.inr (.inr (.inl x))=>rfl|34,.inr (.inr (.inr (())))=>rfl|35,()=>rfl|36,()=>rfl|37,()=>rfl|38,.inl x=>rfl|38,.inr (())=>rfl|_+39,()=>rfl
def Yy:(n:Nat)->(x:OU n)->Yz n x=uR sg (Ka n) (jh n x)
 |0,_=>rfl|1,_=>rfl|2,_=>rfl|3,_=>rfl|4,_=>rfl|5,_=>rfl|6,_=>rfl|7,_=>rfl|8,_=>rfl|9,_=>rfl|10,_=>rfl|11,_=>rfl|12,_=>rfl|13,_=>rfl|14,_=>rfl|15,_=>rfl|16,_=>rfl|17,x=>by cases x<;>rfl
 |18,_=>rfl|19,_=>rfl|20,_=>rfl|21,_=>rfl|22,_=>rfl|23,_=>rfl|24,_=>rfl|25,_=>rfl|26,_=>rfl|27,_=>rfl|28,_=>rfl|29,_=>rfl|30,_=>rfl|31,_=>rfl|32,_=>rfl|33,_=>rfl|34,x=>by cases x<;>rfl
 |35,_=>rfl|36,_=>rfl|37,_=>rfl|38,x=>by cases x<;>rfl
 |_+39,()=>rfl
def adu:(n:Nat)->O7 (Ka n)=W
 |0=>rfl|1=>rfl|2=>rfl|3=>rfl|4=>rfl|5=>rfl|6=>rfl|7=>rfl|8=>rfl|9=>rfl|10=>rfl|11=>rfl|12=>rfl|13=>rfl|14=>rfl|15=>rfl|16=>rfl|17=>rfl|18=>rfl|19=>rfl|20=>rfl|21=>rfl|22=>rfl|23=>rfl|24=>rfl|25=>rfl|26=>rfl|27=>rfl|28=>rfl|29=>rfl|30=>rfl|31=>rfl|32=>rfl|33=>rfl|34=>rfl|35=>rfl|36=>rfl|37=>rfl|38=>rfl|_+39=>rfl
def adW:fc sg:=⟨sC,X7,ZK,ab4,EU,Yy,adu⟩
noncomputable def PV:Tr (TI):=(n0 (cN (n1 ⟨1,J,[aG],[],.leaf (.int .i64)⟩ (n1 ⟨4,W,[aG,aG,.lit (.bool J),.lit (.int .u8 0)],[.int .i64,.int .i64,.bool,.int .u8],oZ⟩ (n1 ⟨1,J,[iW],[],.ptr⟩ (n1 ⟨1,J,[.sl []],[],.slice 2 W 16 [aG,aG]⟩ (n1 ⟨2,W,[aG,aG],[.int .i64,.int .i64],vz⟩ (n1 ⟨2,W,[aG,aG],[.int .i64,.int .i64],vz⟩ bY e0) (bx ⟨1,J,[iW],[],.ptr⟩)) (n1 ⟨1,J,[iW],[],.ptr⟩ (n1 ⟨3,W,[dJ,.sl [],.sl []],[],rJ⟩ bY e0) (n1 ⟨1,J,[iW],[],.ptr⟩ bY e0))) (cN (cN (cN bY e0) (n1 ⟨11,W,[iW,aG,.sl [],aG,.sl [],.sl [],.lit (.bool J),aG,aG,aG,iW],[],.struct [(0,1,J),(1,1,J),(2,1,J),(3,4,W),(7,3,W),(10,1,J)]⟩ bY e0)) (n0 (cN bY e0) (n1 ⟨1,J,[.sl []],[],.slice 4 W 56 [aG,aG,dJ,.sl []]⟩ bY e0)))) (n1 ⟨1,J,[.sl []],[],.slice 4 W 56 [aG,aG,dJ,.sl []]⟩ (n1 ⟨6,W,[.sl [],.sl [],.sl [],aG,.sl [],.sl []],[],.struct [(0,5,W),(5,1,J)]⟩ (cN (n1 ⟨1,J,[aG],[],.leaf (.int .i64)⟩ bY e0) (n1 ⟨2,W,[.lit (.bool J),aG],[.bool,.int .i64],vz⟩ bY e0)) (n1 ⟨4,W,[aG,.sl [],.sl [],.lit (.bool J)],[],oZ⟩ (cN bY e0) (cN bY e0))) (cN (cN bY (n0 bY e0)) (cN e0 bY)))) (n0 (n0 (n0 (n0 (n1 ⟨1,J,[.lit .nilIface],[],.iface⟩ (bx ⟨1,J,[.lit .nilIface],[],.iface⟩) e0) (cN bY e0)) (n1 ⟨1,J,[aG],[],.leaf (.int .i64)⟩ (n1 ⟨4,W,[.sl [],.sl [],aG,.sl []],[],oZ⟩ (bx ⟨2,W,[dJ,.sl []],[],vz⟩) e0) (cN bY e0))) (cN (n0 (cN bY e0) (cN bY e0)) (cN (n1 ⟨1,J,[.sl []],[],.slice 4 W 32 [aG,.lit (.bool J),aG,aG]⟩ bY e0) (n1 ⟨5,W,[aG,aG,dJ,.sl [],.sl []],[],I6⟩ bY e0)))) (n1 ⟨5,W,[.sl [],.sl [],.sl [],aG,.sl []],[],I6⟩ (cN (cN (cN bY e0) (n1 ⟨5,W,[aG,aG,aG,aG,aG],[.int .i64,.int .i64,.int .i64,.int .i64,.int .i64],.struct [(0,5,W)]⟩ bY e0)) (cN (n1 ⟨3,W,[.lit (.bool J),aG,aG],[.bool,.int .i64,.int .i64],rJ⟩ bY e0) (cN bY e0))) (n0 (n1 ⟨2,W,[dJ,aG],[.str,.int .i64],vz⟩ (cN bY e0) (n0 bY e0)) (cN (cN (bx ⟨1,W,[aG],[.int .i64],I7⟩) e0) (n1 ⟨1,J,[.sl []],[],.slice 2 W 16 [aG,aG]⟩ (bx ⟨4,W,[iW,iW,iW,dJ],[],oZ⟩) e0)))))) (n1 ⟨1,J,[.lit (.int .u8 0)],[],.leaf (.int .u8)⟩ (n1 ⟨1,J,[dJ],[],.leaf .str⟩ (n1 ⟨1,J,[iW],[],.ptr⟩ (n1 ⟨5,W,[.sl [],.sl [],.sl [],.sl [],aG],[],I6⟩ (n1 ⟨5,W,[aG,aG,aG,aG,aG],[.int .i64,.int .i64,.int .i64,.int .i64,.int .i64],.struct [(0,1,J),(1,1,J),(2,1,J),(3,2,W)]⟩ (cN bY (bx ⟨1,J,[.lit (.int .u32 0)],[],.leaf (.int .u32)⟩)) (cN bY e0)) (cN (cN (bx ⟨1,J,[.sl []],[],.slice 2 W 40 [dJ,.sl []]⟩) e0) (cN bY e0))) (n1 ⟨1,J,[.sl []],[],.slice 5 W 40 [aG,aG,aG,aG,aG]⟩ (n1 ⟨11,W,[.sl [],.sl [],.sl [],.sl [],aG,aG,aG,aG,aG,aG,aG],[],.struct [(0,5,W),(5,1,J),(6,5,W)]⟩ (cN bY e0) (cN bY e0)) (cN (cN bY e0) (n1 ⟨4,W,[aG,aG,dJ,.sl []],[],oZ⟩ bY e0)))) (n1 ⟨1,J,[.sl []],[],.slice 2 W 24 [dJ,aG]⟩ (cN (cN (n1 ⟨3,W,[aG,aG,aG],[.int .i64,.int .i64,.int .i64],rJ⟩ bY e0) (cN bY e0)) (n1 ⟨4,W,[aG,aG,.sl [],.sl []],[],oZ⟩ (cN (bx ⟨2,W,[dJ,.sl []],[],vz⟩) e0) (n1 ⟨3,W,[.sl [],.sl [],.sl []],[],rJ⟩ bY e0))) (cN (n1 ⟨4,W,[aG,aG,dJ,.sl []],[],oZ⟩ (cN (bx ⟨3,W,[.sl [],aG,.lit (.bool J)],[],rJ⟩) e0) (n0 bY e0)) (n0 (cN bY e0) (n1 ⟨4,W,[aG,aG,.sl [],.sl []],[],oZ⟩ bY e0))))) (n0 (n1 ⟨1,J,[.lit (.int .i32 0)],[],.leaf (.int .i32)⟩ (n1 ⟨1,J,[.sl []],[],.slice 3 W 24 [.lit (.bool J),aG,aG]⟩ (n0 (cN bY (bx ⟨1,J,[iW],[],.ptr⟩)) (n1 ⟨0,W,[],[],.struct []⟩ bY e0)) (n1 ⟨1,J,[.sl []],[],.slice 2 W 16 [aG,aG]⟩ (n0 bY e0) (n1 ⟨1,J,[.sl []],[],.slice 1 J 16 [dJ]⟩ (bx ⟨1,J,[iW],[],.ptr⟩) e0))) (cN (cN (cN bY e0) (bx ⟨0,W,[],[],.struct []⟩)) (cN (n1 ⟨4,W,[aG,.lit (.bool J),aG,aG],[.int .i64,.bool,.int .i64,.int .i64],.struct [(0,1,J),(1,3,W)]⟩ (bx ⟨3,W,[aG,aG,.lit (.bool J)],[.int .i64,.int .i64,.bool],rJ⟩) e0) (n1 ⟨15,W,[dJ,dJ,aG,aG,dJ,.sl [],aG,aG,dJ,.sl [],aG,aG,dJ,.sl [],.sl []],[],.struct [(0,1,J),(1,1,J),(2,4,W),(6,4,W),(10,5,W)]⟩ bY e0)))) (cN (cN (cN (cN bY e0) (n1 ⟨1,J,[iW],[],.ptr⟩ bY e0)) (n1 ⟨12,W,[.sl [],.sl [],.sl [],.sl [],aG,.sl [],.sl [],.sl [],aG,.sl [],.sl [],.lit (.map Y)],[],.struct [(0,5,W),(5,5,W),(10,1,J),(11,1,J)]⟩ (cN bY e0) (cN bY e0))) (n1 ⟨1,J,[aG],[],.leaf (.int .i64)⟩ (cN (n1 ⟨1,J,[.sl []],[],.slice 15 W 224 [dJ,dJ,aG,aG,dJ,.sl [],aG,aG,dJ,.sl [],aG,aG,dJ,.sl [],.sl []]⟩ (bx ⟨4,W,[aG,dJ,aG,aG],[.int .i64,.str,.int .i64,.int .i64],oZ⟩) e0) (cN bY e0)) (cN (cN (bx ⟨1,W,[aG],[.int .i64],I7⟩) e0) (n1 ⟨3,W,[.sl [],.sl [],.sl []],[],rJ⟩ (bx ⟨0,W,[],[],.array 0 1 J⟩) e0))))))) (n1 ⟨1,J,[aG],[],.leaf (.int .i64)⟩ (n1 ⟨1,J,[.lit (.bool J)],[],.leaf .bool⟩ (n0 (n1 ⟨1,J,[iW],[],.ptr⟩ (n1 ⟨5,W,[.sl [],.sl [],.sl [],.sl [],aG],[],I6⟩ (n1 ⟨2,W,[aG,aG],[.int .i64,.int .i64],vz⟩ (n1 ⟨2,W,[aG,aG],[.int .i64,.int .i64],vz⟩ (bx ⟨2,W,[aG,aG],[],.array 2 1 J⟩) bY) (n1 ⟨1,J,[iW],[],.ptr⟩ bY e0)) (n0 (n0 bY e0) (n0 bY e0))) (cN (n1 ⟨11,W,[.sl [],.sl [],.sl [],.sl [],aG,aG,aG,aG,aG,aG,aG],[],.struct [(0,5,W),(5,1,J),(6,5,W)]⟩ (cN bY e0) (cN bY e0)) (cN (cN bY e0) (n1 ⟨4,W,[aG,aG,dJ,.sl []],[],oZ⟩ bY e0)))) (n1 ⟨1,J,[.sl []],[],.slice 1 J 8 [aG]⟩ (n0 (cN (n1 ⟨3,W,[aG,aG,aG],[.int .i64,.int .i64,.int .i64],rJ⟩ bY e0) (n0 bY e0)) (n1 ⟨1,J,[.sl []],[],.slice 4 W 64 [aG,.sl [],.sl [],.lit (.bool J)]⟩ (n0 bY e0) (n1 ⟨3,W,[.sl [],.sl [],.sl []],[],rJ⟩ bY e0))) (cN (n1 ⟨1,J,[aG],[],.leaf (.int .i64)⟩ (cN bY e0) (cN bY e0)) (cN (cN bY e0) (cN bY e0))))) (n1 ⟨1,J,[.lit (.int .u64 0)],[],.leaf (.int .u64)⟩ (n1 ⟨1,J,[.lit .nilIface],[],.iface⟩ (cN (cN (cN bY bY) (n1 ⟨0,W,[],[],.struct []⟩ bY e0)) (cN (n1 ⟨4,W,[.sl [],.sl [],aG,.sl []],[],oZ⟩ bY e0) (n1 ⟨1,J,[iW],[],.ptr⟩ bY e0))) (cN (cN (cN bY e0) (cN bY e0)) (cN (cN bY e0) (n1 ⟨5,W,[aG,aG,dJ,.sl [],.sl []],[],I6⟩ bY e0)))) (cN (n0 (n0 (cN bY e0) (n1 ⟨1,J,[iW],[],.ptr⟩ bY e0)) (n1 ⟨1,J,[.lit (.map Y)],[],.other⟩ (cN bY e0) (cN bY e0))) (cN (n1 ⟨2,W,[dJ,aG],[.str,.int .i64],vz⟩ (n1 ⟨1,J,[.sl []],[],.slice 2 W 40 [dJ,.sl []]⟩ (bx ⟨1,J,[aG],[],.leaf (.int .i64)⟩) e0) (cN bY e0)) (cN (cN (bx ⟨1,W,[aG],[.int .i64],I7⟩) e0) (bx ⟨3,W,[.sl [],.sl [],.sl []],[],rJ⟩)))))) (n0 (n0 (n1 ⟨1,W,[iW],[],I7⟩ (n1 ⟨1,J,[aG],[],.leaf (.int .i64)⟩ (n1 ⟨5,W,[aG,aG,aG,aG,aG],[.int .i64,.int .i64,.int .i64,.int .i64,.int .i64],.struct [(0,1,J),(1,1,J),(2,1,J),(3,2,W)]⟩ (n1 ⟨1,J,[.lit .nilIface],[],.iface⟩ (bx ⟨1,J,[.lit .nilIface],[],.iface⟩) e0) (cN bY e0)) (cN (n1 ⟨1,J,[.sl []],[],.slice 4 W 64 [aG,aG,.sl [],.sl []]⟩ (bx ⟨2,W,[dJ,.sl []],[],vz⟩) e0) (cN bY e0))) (n0 (cN (cN bY e0) (n1 ⟨35,W,[eo,eo,eo,eo,eo,eo,eo,eo,eo,eo,eo,eo,eo,eo,eo,eo,eo,eo,eo,eo,eo,eo,eo,eo,eo,eo,eo,eo,eo,eo,eo,eo,eo,eo,eo],[],.array 35 1 J⟩ bY e0)) (n0 (cN bY e0) (n1 ⟨1,J,[.sl []],[],.slice 5 W 80 [aG,aG,dJ,.sl [],.sl []]⟩ bY e0)))) (n1 ⟨5,W,[.sl [],.sl [],.sl [],aG,.sl []],[],I6⟩ (cN (n0 (cN bY e0) (bx ⟨5,W,[aG,aG,aG,aG,aG],[.int .i64,.int .i64,.int .i64,.int .i64,.int .i64],.struct [(0,5,W)]⟩)) (n1 ⟨4,W,[aG,aG,.sl [],.sl []],[],oZ⟩ (n1 ⟨3,W,[.lit (.bool J),aG,aG],[.bool,.int .i64,.int .i64],rJ⟩ (bx ⟨2,W,[dJ,.sl []],[],vz⟩) e0) (cN bY e0))) (cN (n1 ⟨4,W,[aG,aG,dJ,.sl []],[],oZ⟩ (cN (bx ⟨3,W,[.sl [],aG,.lit (.bool J)],[],rJ⟩) e0) (cN bY e0)) (cN (n1 ⟨1,J,[.lit (.map Y)],[],.other⟩ (bx ⟨1,W,[aG],[.int .i64],I7⟩) e0) (n1 ⟨4,W,[aG,aG,.sl [],.sl []],[],oZ⟩ bY e0))))) (n0 (n1 ⟨1,J,[.sl []],[],.slice 3 W 24 [aG,aG,aG]⟩ (n1 ⟨6,W,[.sl [],.sl [],.sl [],aG,.sl [],.sl []],[],.struct [(0,5,W),(5,1,J)]⟩ (cN (cN bY e0) (n1 ⟨2,W,[.lit (.bool J),aG],[.bool,.int .i64],vz⟩ bY e0)) (n1 ⟨4,W,[aG,.sl [],.sl [],.lit (.bool J)],[],oZ⟩ (cN bY e0) (cN bY e0))) (cN (cN (cN (bx ⟨1,J,[.sl []],[],.slice 4 W 40 [aG,dJ,aG,aG]⟩) e0) (cN bY e0)) (cN (n1 ⟨4,W,[aG,.lit (.bool J),aG,aG],[.int .i64,.bool,.int .i64,.int .i64],.struct [(0,1,J),(1,3,W)]⟩ (bx ⟨3,W,[aG,aG,.lit (.bool J)],[.int .i64,.int .i64,.bool],rJ⟩) e0) (n1 ⟨15,W,[dJ,dJ,aG,aG,dJ,.sl [],aG,aG,dJ,.sl [],aG,aG,dJ,.sl [],.sl []],[],.struct [(0,1,J),(1,1,J),(2,4,W),(6,4,W),(10,5,W)]⟩ bY e0)))) (n1 ⟨1,J,[.sl []],[],.slice 4 W 64 [aG,aG,.sl [],.sl []]⟩ (cN (cN (cN bY e0) (n1 ⟨11,W,[iW,aG,.sl [],aG,.sl [],.sl [],.lit (.bool J),aG,aG,aG,iW],[],.struct [(0,1,J),(1,1,J),(2,1,J),(3,4,W),(7,3,W),(10,1,J)]⟩ bY e0)) (n1 ⟨12,W,[.sl [],.sl [],.sl [],.sl [],aG,.sl [],.sl [],.sl [],aG,.sl [],.sl [],.lit (.map Y)],[],.struct [(0,5,W),(5,5,W),(10,1,J),(11,1,J)]⟩ (cN bY e0) (n1 ⟨1,J,[aG],[],.leaf (.int .i64)⟩ bY e0))) (n1 ⟨1,J,[aG],[],.leaf (.int .i64)⟩ (cN (n1 ⟨3,W,[dJ,.sl [],.sl []],[],rJ⟩ (bx ⟨4,W,[aG,dJ,aG,aG],[.int .i64,.str,.int .i64,.int .i64],oZ⟩) e0) (cN (bx ⟨1,J,[.lit (.map Y)],[],.other⟩) e0)) (cN (cN (bx ⟨1,W,[aG],[.int .i64],I7⟩) e0) (cN (bx ⟨0,W,[],[],.struct [(0,0,W)]⟩) e0))))))))
noncomputable def Uv:Tr (Ty):=(n0 (n0 (n1 (.int .i64) (n0 (n0 (n1 (.sl (.st 7)) e0 (n0 (bx (.st 23)) e0)) (n0 e0 (n0 e0 (bx (.sl (.st 18)))))) (n1 (.sl (.st 1)) (n1 (.st 10) (n0 (bx (.int .i64)) (bx (.st 27))) (bx (.st 5))) e0)) (n0 (n0 (n0 (n0 (n1 (.de 17) (bx (.de 34)) e0) e0) (n1 (.int .i64) (n0 (bx (.st 20)) e0) e0)) (n0 e0 (n0 (bx (.sl (.st 26))) e0))) (n1 (.st 3) (n0 (n0 e0 (bx (.st 15))) (n0 (bx (.st 9)) e0)) (n0 e0 (n0 (n0 (bx (.st 31)) e0) (bx (.sl (.st 29)))))))) (n1 (.int .u8) (n1 (.str) (n0 (n1 (.st 8) (n0 (n0 e0 (bx (.int .u32))) e0) (n0 (n0 (bx (.sl (.st 19))) e0) e0)) (n1 (.sl (.st 11)) (bx (.st 12)) (n0 e0 (bx (.st 18))))) (n1 (.sl (.st 2)) (n0 (n0 (bx (.st 0)) e0) (n0 e0 (bx (.st 28)))) e0)) (n0 (n1 (.int .i32) (n1 (.sl (.st 9)) (n0 e0 (bx (.st 14))) (n1 (.sl (.st 4)) e0 (bx (.sl (.str))))) (n0 (n0 e0 (bx (.st 16))) e0)) (n0 (n0 (n0 e0 (bx (.opt 11))) e0) (n1 (.int .i64) (n0 (bx (.sl (.st 22))) e0) (n0 (n0 (bx (.st 32)) e0) (bx (.st 30)))))))) (n1 (.int .i64) (n1 (.bool) (n0 (n0 (n0 (n1 (.st 4) (n1 (.st 7) (bx (.st 29)) e0) e0) e0) e0) (n1 (.sl (.int .i64)) (n0 e0 (bx (.sl (.st 5)))) (n0 (bx (.int .i64)) e0))) (n1 (.int .u64) (n1 (.de 38) (n0 e0 (n0 (bx (.st 25)) e0)) (n0 e0 (n0 e0 (bx (.st 21))))) (n0 e0 (n0 (n1 (.st 2) (n1 (.sl (.st 20)) (bx (.int .i64)) e0) e0) e0)))) (n0 (n0 (n0 (n1 (.int .i64) (bx (.st 11)) (n0 (bx (.sl (.st 24))) e0)) (n0 e0 (n0 e0 (bx (.sl (.st 21)))))) (n0 (n0 e0 (n1 (.st 6) (n0 (bx (.st 19)) e0) e0)) (n0 (n1 (.st 1) (n0 (bx (.st 36)) e0) e0) (n0 e0 (bx (.st 24)))))) (n0 (n1 (.sl (.st 0)) e0 (n0 (n0 (n0 (bx (.sl (.st 35))) e0) e0) (n0 (n1 (.st 26) (bx (.st 37)) e0) (bx (.st 22))))) (n1 (.sl (.st 6)) (n0 e0 (n0 e0 (bx (.int .i64)))) (n1 (.int .i64) (n0 (n0 (bx (.st 35)) e0) e0) (n0 (n0 (bx (.st 33)) e0) e0)))))))
noncomputable def mtT:Tr (MT):=(n0 e0 (n0 (n0 e0 (n0 e0 (n0 (n0 e0 (bx ⟨.int .i64,Z (.bool),4⟩)) e0))) (n0 (n0 e0 (n0 e0 (n0 e0 (n0 (bx ⟨.int .i64,Z (.int .i64),3⟩) e0)))) (n0 e0 (n0 e0 (n0 (n0 e0 (n0 (bx ⟨.str,Z (.bool),4⟩) e0)) e0))))))
noncomputable def wz:Tr (L (String×FuncId)):=(n0 (n0 (n0 (n0 (n1 [("Error",346),("RuntimeError",347)] (n0 e0 (n1 [("hearth/run.copied",49),("hearth/run.finish",121),("hearth/run.frame",296),("hearth/run.object",166),("hearth/run.ordered",58),("hearth/run.ready",66),("hearth/run.renew",102),("hearth/run.runs",297),("hearth/run.settle",48),("hearth/run.step",67),("hearth/run.task",248),("hearth/run.tasks",167),("hearth/run.turn",57),("hearth/run.value",245),("hearth/run.waits",247),("hearth/run.world",111)] e0 (n1 [("hearth/hearthref02.applied",330),("hearth/hearthref02.atom",331),("hearth/hearthref02.begins",332),("hearth/hearthref02.call",335),("hearth/hearthref02.cases",334),("hearth/hearthref02.data",206),("hearth/hearthref02.function",207),("hearth/hearthref02.has",205),("hearth/hearthref02.is",271),("hearth/hearthref02.kind",273),("hearth/hearthref02.module",134),("hearth/hearthref02.of",324),("hearth/hearthref02.pat",337),("hearth/hearthref02.product",325),("hearth/hearthref02.sees",272),("hearth/hearthref02.simple",304),("hearth/hearthref02.sum",306),("hearth/hearthref02.take",204),("hearth/hearthref02.term",274),("hearth/hearthref02.terms",333),("hearth/hearthref02.under",305),("hearth/hearthref02.want",203),("hearth/hearthref02.whole",135)] e0 e0))) e0) (n0 (n1 [("First",53),("Limited",40),("Near",93),("Play",22),("Ready",36),("Settle",29),("Start",17),("Step",37),("Turn",30),("World",32),("hearth/hearthref11.applied",76),("hearth/hearthref11.begun",128),("hearth/hearthref11.closed",119),("hearth/hearthref11.flow",77),("hearth/hearthref11.frames",117),("hearth/hearthref11.object",65),("hearth/hearthref11.spawned",81),("hearth/hearthref11.takes",69),("hearth/hearthref11.value",171),("hearth/hearthref11.values",118)] e0 e0) e0)) (n1 [("Error",342),("RuntimeError",343)] (n1 [("Error",351),("RuntimeError",352)] (n0 (n0 (n0 e0 (n1 [("String",359)] e0 e0)) e0) e0) e0) (n0 (n0 (n0 e0 (n1 [("hearth/run.event",354)] e0 e0)) e0) (n0 e0 (n0 (n0 (n1 [("hearth/code.met",356)] e0 e0) e0) e0))))) (n0 (n0 (n1 [("Align",350)] e0 e0) e0) (n0 (n0 (n0 (n0 e0 (n1 [("hearth/run.event",353)] e0 e0)) e0) (n0 (n0 e0 (n1 [("hearth/run.event",355)] e0 e0)) e0)) (n0 e0 (n0 e0 (n0 (n0 (n1 [("hearth/code.met",357)] e0 e0) e0) (n1 [("hearth/hearthref10.add",218),("hearth/hearthref10.end",219),("hearth/hearthref10.match",221),("hearth/hearthref10.node",145),("hearth/hearthref10.to",146),("hearth/hearthref10.wanted",220)] e0 e0))))))) (n0 (n0 (n1 [("Error",338),("RuntimeError",339)] (n1 [("Error",348),("RuntimeError",349)] e0 e0) e0) (n0 (n0 (n0 e0 (n0 e0 (n1 [("hearth/hearthref05.known",142),("hearth/hearthref05.knownPat",214),("hearth/hearthref05.pattern",217),("hearth/hearthref05.put",144)] e0 e0))) e0) (n0 (n0 (n0 e0 (n1 [("hearth/run.write",190)] e0 e0)) e0) e0))) (n0 (n1 [("Error",340),("RuntimeError",341)] e0 e0) (n1 [("Error",344),("RuntimeError",345)] e0 (n0 e0 (n0 e0 (n0 (n0 (n1 [("hearth/code.met",358)] e0 e0) e0) e0)))))))
noncomputable def qT:Tr (Func):=(n1 f0 (n1 f1 (n1 f3 (n1 f7 (n1 f15 (n1 f31 (n1 f63 (n1 f127 (bx f255) e0) (n1 f191 (bx f319) e0)) (n1 f95 (n1 f159 (bx f287) e0) (n1 f223 (bx f351) e0))) (n1 f47 (n1 f79 (n1 f143 (bx f271) e0) (n1 f207 (bx f335) e0)) (n1 f111 (n1 f175 (bx f303) e0) (bx f239)))) (n1 f23 (n1 f39 (n1 f71 (n1 f135 (bx f263) e0) (n1 f199 (bx f327) e0)) (n1 f103 (n1 f167 (bx f295) e0) (n1 f231 (bx f359) e0))) (n1 f55 (n1 f87 (n1 f151 (bx f279) e0) (n1 f215 (bx f343) e0)) (n1 f119 (n1 f183 (bx f311) e0) (bx f247))))) (n1 f11 (n1 f19 (n1 f35 (n1 f67 (n1 f131 (bx f259) e0) (n1 f195 (bx f323) e0)) (n1 f99 (n1 f163 (bx f291) e0) (n1 f227 (bx f355) e0))) (n1 f51 (n1 f83 (n1 f147 (bx f275) e0) (n1 f211 (bx f339) e0)) (n1 f115 (n1 f179 (bx f307) e0) (bx f243)))) (n1 f27 (n1 f43 (n1 f75 (n1 f139 (bx f267) e0) (n1 f203 (bx f331) e0)) (n1 f107 (n1 f171 (bx f299) e0) (bx f235))) (n1 f59 (n1 f91 (n1 f155 (bx f283) e0) (n1 f219 (bx f347) e0)) (n1 f123 (n1 f187 (bx f315) e0) (bx f251)))))) (n1 f5 (n1 f9 (n1 f17 (n1 f33 (n1 f65 (n1 f129 (bx f257) e0) (n1 f193 (bx f321) e0)) (n1 f97 (n1 f161 (bx f289) e0) (n1 f225 (bx f353) e0))) (n1 f49 (n1 f81 (n1 f145 (bx f273) e0) (n1 f209 (bx f337) e0)) (n1 f113 (n1 f177 (bx f305) e0) (bx f241)))) (n1 f25 (n1 f41 (n1 f73 (n1 f137 (bx f265) e0) (n1 f201 (bx f329) e0)) (n1 f105 (n1 f169 (bx f297) e0) (bx f233))) (n1 f57 (n1 f89 (n1 f153 (bx f281) e0) (n1 f217 (bx f345) e0)) (n1 f121 (n1 f185 (bx f313) e0) (bx f249))))) (n1 f13 (n1 f21 (n1 f37 (n1 f69 (n1 f133 (bx f261) e0) (n1 f197 (bx f325) e0)) (n1 f101 (n1 f165 (bx f293) e0) (n1 f229 (bx f357) e0))) (n1 f53 (n1 f85 (n1 f149 (bx f277) e0) (n1 f213 (bx f341) e0)) (n1 f117 (n1 f181 (bx f309) e0) (bx f245)))) (n1 f29 (n1 f45 (n1 f77 (n1 f141 (bx f269) e0) (n1 f205 (bx f333) e0)) (n1 f109 (n1 f173 (bx f301) e0) (bx f237))) (n1 f61 (n1 f93 (n1 f157 (bx f285) e0) (n1 f221 (bx f349) e0)) (n1 f125 (n1 f189 (bx f317) e0) (bx f253))))))) (n1 f2 (n1 f4 (n1 f8 (n1 f16 (n1 f32 (n1 f64 (n1 f128 (bx f256) e0) (n1 f192 (bx f320) e0)) (n1 f96 (n1 f160 (bx f288) e0) (n1 f224 (bx f352) e0))) (n1 f48 (n1 f80 (n1 f144 (bx f272) e0) (n1 f208 (bx f336) e0)) (n1 f112 (n1 f176 (bx f304) e0) (bx f240)))) (n1 f24 (n1 f40 (n1 f72 (n1 f136 (bx f264) e0) (n1 f200 (bx f328) e0)) (n1 f104 (n1 f168 (bx f296) e0) (bx f232))) (n1 f56 (n1 f88 (n1 f152 (bx f280) e0) (n1 f216 (bx f344) e0)) (n1 f120 (n1 f184 (bx f312) e0) (bx f248))))) (n1 f12 (n1 f20 (n1 f36 (n1 f68 (n1 f132 (bx f260) e0) (n1 f196 (bx f324) e0)) (n1 f100 (n1 f164 (bx f292) e0) (n1 f228 (bx f356) e0))) (n1 f52 (n1 f84 (n1 f148 (bx f276) e0) (n1 f212 (bx f340) e0)) (n1 f116 (n1 f180 (bx f308) e0) (bx f244)))) (n1 f28 (n1 f44 (n1 f76 (n1 f140 (bx f268) e0) (n1 f204 (bx f332) e0)) (n1 f108 (n1 f172 (bx f300) e0) (bx f236))) (n1 f60 (n1 f92 (n1 f156 (bx f284) e0) (n1 f220 (bx f348) e0)) (n1 f124 (n1 f188 (bx f316) e0) (bx f252)))))) (n1 f6 (n1 f10 (n1 f18 (n1 f34 (n1 f66 (n1 f130 (bx f258) e0) (n1 f194 (bx f322) e0)) (n1 f98 (n1 f162 (bx f290) e0) (n1 f226 (bx f354) e0))) (n1 f50 (n1 f82 (n1 f146 (bx f274) e0) (n1 f210 (bx f338) e0)) (n1 f114 (n1 f178 (bx f306) e0) (bx f242)))) (n1 f26 (n1 f42 (n1 f74 (n1 f138 (bx f266) e0) (n1 f202 (bx f330) e0)) (n1 f106 (n1 f170 (bx f298) e0) (bx f234))) (n1 f58 (n1 f90 (n1 f154 (bx f282) e0) (n1 f218 (bx f346) e0)) (n1 f122 (n1 f186 (bx f314) e0) (bx f250))))) (n1 f14 (n1 f22 (n1 f38 (n1 f70 (n1 f134 (bx f262) e0) (n1 f198 (bx f326) e0)) (n1 f102 (n1 f166 (bx f294) e0) (n1 f230 (bx f358) e0))) (n1 f54 (n1 f86 (n1 f150 (bx f278) e0) (n1 f214 (bx f342) e0)) (n1 f118 (n1 f182 (bx f310) e0) (bx f246)))) (n1 f30 (n1 f46 (n1 f78 (n1 f142 (bx f270) e0) (n1 f206 (bx f334) e0)) (n1 f110 (n1 f174 (bx f302) e0) (bx f238))) (n1 f62 (n1 f94 (n1 f158 (bx f286) e0) (n1 f222 (bx f350) e0)) (n1 f126 (n1 f190 (bx f318) e0) (bx f254))))))))
noncomputable def prog:Program:=Go.Proofs.Tryz.prog
noncomputable def El:fX:=mkE prog PV Uv mtT wz qT λn=>bif Nq n 24 then Z 2 else Y
end
theorem h1:PV.mapKey (λk _=>abh prog (Oq prog) k)=PV.mapKey λ_ i=>Z i:=by kernel_rfl
theorem h2:qT.mapKey (λk _=>prog.funcs[k]?)=qT.mapKey λ_ f=>Z f:=by kernel_rfl
theorem h3:Uv.mapKey (λk τ=>(PV.get k).map (FD sg τ))=Uv.mapKey λk τ=>(PV.get k).map (FC sg τ):=by kernel_rfl
theorem h4:qT.mapKey (λ_ f=>f.name== "runtime.NumGoroutine")=qT.mapKey λ_ _=>J:=by kernel_rfl
def h5:mtT.mapKey (λk m=>mtB El k m)=mtT.mapKey λ_ _=>W:=by kernel_rfl
def h6:wz.mapKey (λk l=>l.all (Ts prog k))=wz.mapKey λ_ _=>W:=by kernel_rfl
def aew(II:FuncId->O (lz sg))(sh:FuncId->Nat->O LSh)(d:∀f c,II f=Z c->bA prog f c)(a:Bool)(b:FuncId->L (V sg)->O JSh):fe (⟨El,II,sh,a,b⟩:eF sg):=
 Zr adW h1 h2 h3 h4 h5 h6 II sh d a b
section
def WZ(l:L (Nat×Nat×LSh))(f b:Nat):O LSh:=match l with
 |[]=>Y|p::l=>bif Nq p.1 f&&Nq p.2.1 b then Z p.2.2 else WZ l f b
def mixed:prog.follows .mixedOrders=W:=by kernel_rfl
def aiL(l:L (FuncId×lz sg))(hl:OkL prog l)(sh:FuncId->Nat->O LSh)(pn:Bool)(a:FuncId->L (V sg)->O JSh)(n d:Nat)(f:FuncId)(ps:L Pk)(rs:L Ck)(b:((qT.get f).bind (·.body)).isSome=W)
  {F:ga sg.A ps->O (RT pn (gx sg.A rs×iz sg.A ps) (den sg.A sg.pt×iz sg.A ps))} (h:(λx=>Bb (⟨El,PY l,sh,pn,a⟩:eF sg) n d f ps rs x)=F):bA prog f (⟨ps,rs,pn,F⟩:lz sg):=by
 cases h1:qT.get f with
 |none=>simp_all|some fn=>
  cases h2:fn.body with|none=>simp_all|some c=>have:=aey (E:=(⟨El,PY l,sh,pn,a⟩:eF sg)) (aew (PY l) sh (SY hl) pn a) mixed (f:=f) (fn:=fn) (c:=c) h1 h2 n d ps rs;rw[<-h];exact this
def Vj(l:L (FuncId×lz sg))(hl:OkL prog l)(sh:FuncId->Nat->O LSh)(pn:Bool)(n d:Nat)(f:FuncId)(ps:L Pk)(rs:L Ck)(a:((qT.get f).bind (·.body)).isSome=W)
  {F:ga sg.A ps->O (RT pn (gx sg.A rs×iz sg.A ps) (den sg.A sg.pt×iz sg.A ps))} (h:(λx=>Bb (⟨El,PY l,sh,pn,λ_ _=>Y⟩:eF sg) n d f ps rs x)=F):bA prog f (⟨ps,rs,pn,F⟩:lz sg):=
 aiL l hl sh pn _ n d f ps rs a h
noncomputable def T5(f:Nat):Code:=match(qT.get f).bind (·.body)with
 |some c=>c|none=>.skip
def aiC(m:Nat)(l:L (V sg)):Bool:=Nq m 0||l.any λv=>match v with
 |.ptr o 0=>Nq o m|_=>J
def cjL(l:L (Nat×Nat×JSh))(f:Nat)(args:L (V sg)):O JSh:=match l with
 |[]=>Y|p::l=>bif Nq p.1 f&&aiC p.2.1 args then Z p.2.2 else cjL l f args
structure OC where
 f:FuncId
 c:lz sg
 h:bA prog f c
def Fg(l:L OC)(f:FuncId):O (lz sg):=match l with
 |[]=>Y|k::l=>bif Nq k.f f then Z k.c else Fg l f
def SW:∀{l:L OC}(f:FuncId)(c:lz sg),Fg l f=Z c->bA prog f c
 |[],_,_,h=>by cases h
 |k::l,f,c,h=>by
  unfold Fg at h;cases a:Nq k.f f with
  |true=>
   rw[a]at h;have e:k.f=f:=vQ a;injection h with h
   rw[<-h,<-e];exact k.h
  |false=>rw[a]at h;exact SW f c h
variable {pn:Bool}{ps:List Pk}{rs:List Ck}
def abQ(l:L OC)(sh:FuncId->Nat->O LSh)(b:FuncId->L (V sg)->O JSh)(n d:Nat)(f:FuncId)
  {F:ga sg.A ps->O (RT pn (gx sg.A rs×iz sg.A ps) (den sg.A sg.pt×iz sg.A ps))} (h:(((qT.get f).bind (·.body)).isSome,λx=>Bb (⟨El,Fg l,sh,pn,b⟩:eF sg) n d f ps rs x)=(W,F):=by kernel_rfl):bA prog f (⟨ps,rs,pn,F⟩:lz sg):=by
 have a:((qT.get f).bind (·.body)).isSome=W:=fq Prod.fst h;have h:(λx=>Bb (⟨El,Fg l,sh,pn,b⟩:eF sg) n d f ps rs x)=F:=fq Prod.snd h;cases h1:qT.get f with
 |none=>rw[h1]at a;cases a
 |some fn=>
  rw[h1]at a;cases h2:fn.body with
  |none=>rw[show(Z fn:O Func).bind (·.body)=fn.body from rfl,h2]at a;cases a
  |some c=>have:=aey (E:=(⟨El,Fg l,sh,pn,b⟩:eF sg)) (aew (Fg l) sh SW pn b) mixed (f:=f) (fn:=fn) (c:=c) h1 h2 n d ps rs;rw[<-h];exact this
def cV(l:L OC)(sh:L (Nat×Nat×LSh))(n d:Nat)(f:FuncId)
  {F:ga sg.A ps->O (RT pn (gx sg.A rs×iz sg.A ps) (den sg.A sg.pt×iz sg.A ps))} (h:(((qT.get f).bind (·.body)).isSome,λx=>Bb (⟨El,Fg l,WZ sh,pn,λ_ _=>Y⟩:eF sg) n d f ps rs x)=(W,F):=by kernel_rfl):bA prog f (⟨ps,rs,pn,F⟩:lz sg):=abQ l (WZ sh) (λ_ _=>Y) n d f h
def enters(f:FuncId)(a:((qT.get f).bind (·.body)).isSome=W):lX prog f:=
 (Vj [] trivial (λ_ _=>Y) J 0 0 f [] [] a rfl).1
end
abbrev b31y:Ck:=.dat (.sl (.st 25))
abbrev LL:Ck:=.dat (.sl (.st 7))
abbrev ZT:Ck:=.dat (.sl (.st 6))
abbrev uX:Ck:=.dat (.sl (.st 5))
abbrev xb:Ck:=.dat (.sl (.st 4))
abbrev b8y:Ck:=.dat (.sl (.st 2))
abbrev b7y:Ck:=.dat (.sl (.st 1))
abbrev b6y:Ck:=.dat (.sl (.st 0))
abbrev Es:Ck:=.dat (.sl (.int .i64))
abbrev PN:Ck:=.dat (.bool)
abbrev lU:Ck:=.dat (.int .i64)
abbrev dQ:Pk:=.one (PN)
abbrev dj:Pk:=.one (lU)
abbrev ZS:Pk:=.box (.cells [.own (.st 9)])
abbrev RK:Pk:=.box (.map (.int .i64) (.bool))
abbrev w9:Pk:=.hid (.map (.int .i64) (.bool))
abbrev Et:Pk:=.box (.cells [.own (.int .i64)])
abbrev Eu:Pk:=.box (.map (.int .i64) (.int .i64))
abbrev ala:Pk:=.box (.cells [.dat (.str),.own (.st 18)])
abbrev alb:Pk:=.box (.cells [.dat (.str),.own (.st 20),.own (.st 22)])
abbrev yz:Pk:=.box (.cells [.dat (.sl (.st 35)),lU,PN])
abbrev RL:Pk:=.box (.cells [b6y,b7y,.dat (.sl (.st 29))])
abbrev ag4:Pk:=.box (.cells [lU,lU,.dat (.str),.own (.st 1)])
abbrev Wa:Pk:=.box (.cells [.dat (.sl (.str)),b8y,.j3 24 2 (.int .i64)])
abbrev alc:Pk:=.box (.cells [.nil (.st 24),.nil (.int .i64),lU,.nil (.st 2)])
abbrev adq:Pk:=.box (.cells [lU,.dat (.str),lU,lU])
abbrev adr:Pk:=.box (.cells [lU,lU,.nil (.int .i64),.own (.st 1)])
abbrev IQ:Pk:=.box (.cells [lU,lU,xb,.own (.st 5)])
abbrev arQ:Pk:=.box (.cells [lU,lU,.nil (.st 4),uX])
abbrev ads:Pk:=.box (.cells [lU,lU,xb,uX])
abbrev b7z:Pk:=.box (.cells [lU,lU,.dat (.str),.dat (.sl (.st 21)),b7y])
abbrev b6z:Pk:=.box (.cells [.own (.st 6),.own (.int .i64),LL,Es,lU])
abbrev b5z:Pk:=.box (.cells [b6y,b7y,Es,lU,b8y])
abbrev b4z:Pk:=.box (.cells [ZT,Es,LL,Es,lU])
abbrev b3z:Pk:=.box (.link J [] [lU,uX,lU,xb,xb,PN,lU,lU,lU,.dat (.opt 11)])
abbrev b2z:Pk:=.box (.cells [ZT,Es,LL,Es,lU,lU,lU,lU,lU,lU,lU])
abbrev b1z:Pk:=.hid (.link W [ZT,Es,LL,Es,lU,b6y,b7y,Es,lU,b8y,.dat (.sl (.st 9))] [])
abbrev b0z:Pk:=.box (.link W [ZT,Es,LL,Es,lU,b6y,b7y,Es,lU,b8y,.dat (.sl (.st 9))] [])
abbrev P1:L Pk:=[.one (.dat (.st 1)),dj]
abbrev K2:L Ck:=[lU]
abbrev P3:L Pk:=[.one (.dat (.st 1))]
abbrev K4:L Ck:=[PN]
abbrev P5:L Pk:=[.one (.dat (.st 3))]
abbrev P6:L Pk:=[dj,dj,dj]
abbrev P7:L Pk:=[.one (.dat (.str))]
abbrev P8:L Pk:=[.one (b8y)]
abbrev P9:L Pk:=[.one (.dat (.st 1)),.one (b8y)]
abbrev P10:L Pk:=[.one (.dat (.st 3)),dj]
abbrev K11:L Ck:=[.dat (.st 37),.dat (.st 37),PN]
abbrev P12:L Pk:=[.one (.dat (.st 3)),.one (.dat (.st 0))]
abbrev K13:L Ck:=[.dat (.de 34)]
abbrev P14:L Pk:=[dj,dj]
abbrev K15:L Ck:=[.dat (.st 9)]
abbrev K16:L Ck:=[lU,lU]
abbrev P17:L Pk:=[.one (.dat (.st 0)),.one (.dat (.de 34))]
abbrev K18:L Ck:=[.dat (.sl (.st 9)),lU]
abbrev P19:L Pk:=[.one (Es)]
abbrev K20:L Ck:=[.dat (.st 4)]
abbrev K21:L Ck:=[Es]
abbrev P22:L Pk:=[.one (ZT)]
abbrev K23:L Ck:=[.own (.st 6)]
abbrev P24:L Pk:=[b0z,w9,dj,.one (.dat (.st 6))]
abbrev P25:L Pk:=[b3z,b1z,w9,.one (xb)]
abbrev P26:L Pk:=[dj]
abbrev P27:L Pk:=[dQ]
abbrev y5:L Pk:=[b3z,b1z,w9]
abbrev P29:L Pk:=[dQ,dj]
abbrev P30:L Pk:=[b3z,b1z,w9,.one (.dat (.st 6))]
abbrev K31:L Ck:=[.dat (.st 4),.dat (.st 4)]
abbrev P32:L Pk:=[b3z,b1z,w9,.one (.dat (.st 4)),dj]
abbrev K33:L Ck:=[.dat (.st 6),PN]
abbrev P34:L Pk:=[b3z,b1z,w9,.one (.dat (.st 4)),.one (.dat (.st 4))]
abbrev K35:L Ck:=[.dat (.st 5),PN]
abbrev P36:L Pk:=[b3z,b1z,w9,.one (uX)]
abbrev P37:L Pk:=[.one (uX)]
abbrev K38:L Ck:=[.own (.st 5)]
abbrev K39:L Ck:=[.dat (.st 6)]
abbrev K40:L Ck:=[uX]
abbrev P41:L Pk:=[.one (xb)]
abbrev K42:L Ck:=[.own (.st 4)]
abbrev P43:L Pk:=[b3z,b1z,w9,.one (.dat (.st 1)),.one (.dat (.st 4))]
abbrev K44:L Ck:=[xb,PN]
abbrev P45:L Pk:=[.one (.dat (.st 4))]
abbrev P46:L Pk:=[b3z,b1z,w9,dj,.one (.dat (.st 6))]
abbrev P47:L Pk:=[b0z,w9,dj]
abbrev K48:L Ck:=[.dat (.de 17)]
abbrev P49:L Pk:=[.one (.dat (.de 17))]
abbrev K50:L Ck:=[lU,PN]
abbrev P51:L Pk:=[.one (LL)]
abbrev K52:L Ck:=[LL]
abbrev P53:L Pk:=[b0z,w9]
abbrev K54:L Ck:=[.dat (.st 8)]
abbrev P55:L Pk:=[.one (.dat (.st 3)),.one (Es)]
abbrev K56:L Ck:=[.dat (.st 8),lU]
abbrev P57:L Pk:=[.one (.dat (.st 7))]
abbrev P58:L Pk:=[.one (.ptr (.st 13)),.one (.dat (.st 4))]
abbrev P59:L Pk:=[.one (.ptr (.st 13)),.one (.dat (.st 5)),dj]
abbrev P60:L Pk:=[.one (.ptr (.st 13)),.one (.dat (.st 5))]
abbrev P61:L Pk:=[.one (.ptr (.st 13)),.one (.dat (.st 6))]
abbrev P62:L Pk:=[.one (.ptr (.st 13))]
abbrev K63:L Ck:=[.dat (.st 11),lU,lU]
abbrev P64:L Pk:=[.one (.dat (.st 3)),.one (.dat (.st 8)),.one (Es)]
abbrev K65:L Ck:=[.dat (.st 8),.dat (.sl (.st 11)),lU]
abbrev P66:L Pk:=[.one (.dat (.st 3)),.one (.dat (.st 8))]
abbrev P67:L Pk:=[.one (.dat (.st 3)),.one (.dat (.st 8)),dj]
abbrev K68:L Ck:=[.dat (.st 8),.dat (.st 11),lU,lU]
abbrev P69:L Pk:=[.one (.dat (.str)),dj]
abbrev P70:L Pk:=[.one (.dat (.sl (.str))),.one (.dat (.str))]
abbrev K71:L Ck:=[.dat (.sl (.str))]
abbrev P72:L Pk:=[.one (.dat (.int .u8))]
abbrev P73:L Pk:=[.one (.dat (.str)),dj,dQ]
abbrev K74:L Ck:=[.dat (.str)]
abbrev K75:L Ck:=[.dat (.st 35)]
abbrev K76:L Ck:=[.dat (.sl (.st 35)),lU]
abbrev P77:L Pk:=[.one (.ptr (.st 36)),.one (.dat (.str))]
abbrev P78:L Pk:=[yz,.one (.dat (.str))]
abbrev P79:L Pk:=[.one (.ptr (.st 36)),dj]
abbrev Po:L Pk:=[yz,dj]
abbrev lV:L Pk:=[yz]
abbrev K82:L Ck:=[.dat (.st 18)]
abbrev K83:L Ck:=[.dat (.st 20)]
abbrev P84:L Pk:=[dj,.one (.dat (.st 21)),.one (.dat (.st 21))]
abbrev K85:L Ck:=[.dat (.st 21)]
abbrev K86:L Ck:=[.dat (.st 1)]
abbrev P87:L Pk:=[.one (.ptr (.st 36))]
abbrev K88:L Ck:=[.dat (.sl (.st 21))]
abbrev K89:L Ck:=[.dat (.st 22)]
abbrev K90:L Ck:=[.dat (.st 23)]
abbrev P91:L Pk:=[.one (.dat (.st 18)),dj]
abbrev P92:L Pk:=[.one (.dat (.st 18)),dQ]
abbrev P93:L Pk:=[.one (.dat (.st 18))]
abbrev P94:L Pk:=[.one (.dat (.st 20))]
abbrev P95:L Pk:=[.one (.dat (.st 21)),dj,dj]
abbrev P96:L Pk:=[.one (.dat (.st 21)),dQ,dQ,dQ]
abbrev P97:L Pk:=[.one (.dat (.st 21))]
abbrev P98:L Pk:=[.one (.dat (.sl (.str)))]
abbrev P99:L Pk:=[.one (.dat (.st 23))]
abbrev K100:L Ck:=[.dat (.st 23),lU]
abbrev K101:L Ck:=[b8y]
abbrev asY:L Pk:=[.one (b8y),.one (.dat (.str))]
abbrev Wu:L Pk:=[.one (.ptr (.st 28)),.one (.dat (.st 1))]
abbrev asX:L Pk:=[.one (.dat (.sl (.str))),.one (.dat (.sl (.str)))]
abbrev asW:L Pk:=[.one (.dat (.st 21)),dj]
abbrev Wt:L Pk:=[.one (.ptr (.st 28)),.one (.dat (.st 21)),.one (.dat (.sl (.str)))]
abbrev Ws:L Pk:=[Wa,.one (.dat (.st 1))]
abbrev Wr:L Pk:=[Wa,.one (.dat (.st 21)),.one (.dat (.sl (.str)))]
abbrev K109:L Ck:=[.dat (.st 25),lU]
abbrev asV:L Pk:=[.one (.dat (.st 30)),dj]
abbrev K111:L Ck:=[.dat (.st 30)]
abbrev al8:L Pk:=[.one (.dat (.st 30)),dj,dj]
abbrev asU:L Pk:=[.one (.dat (.st 30)),dQ]
abbrev Sc:L Pk:=[.one (.dat (.st 30)),.one (.dat (.st 25)),dj,dQ]
abbrev aag:L Pk:=[.one (.dat (.st 30)),.one (.dat (.st 25)),.one (.dat (.st 24)),dQ]
abbrev asT:L Pk:=[.one (.dat (.st 25))]
abbrev K117:L Ck:=[.dat (.st 3)]
abbrev asS:L Pk:=[.one (.dat (.st 3)),dj,.one (.dat (.st 9))]
abbrev K119:L Ck:=[.dat (.sl (.st 26)),PN]
abbrev K120:L Ck:=[.dat (.sl (.st 9)),PN]
abbrev K121:L Ck:=[.dat (.st 10),PN]
abbrev al7:L Pk:=[.one (Es),dj]
abbrev asR:L Pk:=[.one (Es),.one (Es)]
abbrev asQ:L Pk:=[.one (LL),.one (LL)]
abbrev asP:L Pk:=[.one (xb),.one (xb)]
abbrev asO:L Pk:=[.one (.dat (.st 6)),.one (.dat (.st 6))]
abbrev asN:L Pk:=[.one (.dat (.st 8)),.one (.dat (.st 8))]
abbrev al6:L Pk:=[.one (.dat (.st 8))]
abbrev P129:L Pk:=[.one (.dat (.st 10)),.one (.dat (.st 0))]
abbrev P130:L Pk:=[.one (uX),.one (.dat (.st 5))]
abbrev P131:L Pk:=[.one (.dat (.st 8)),dj,dj]
abbrev K132:L Ck:=[.dat (.st 12)]
abbrev P133:L Pk:=[.one (.dat (.st 8)),dj,.one (uX)]
abbrev P134:L Pk:=[.one (xb),.one (.dat (.st 4))]
abbrev K135:L Ck:=[xb]
abbrev P136:L Pk:=[.one (uX),.one (.dat (.st 4))]
abbrev P137:L Pk:=[.one (.dat (.st 8)),dj,.one (uX),.one (.dat (.st 6))]
abbrev P138:L Pk:=[.one (.dat (.st 8)),.one (.dat (.st 4)),dj]
abbrev P139:L Pk:=[.one (.dat (.st 10)),.one (.dat (.st 8)),.one (.dat (.st 4)),.one (.dat (.st 4))]
abbrev P140:L Pk:=[.one (.dat (.st 10)),.one (.dat (.st 8)),dj,.one (uX),.one (.dat (.st 4)),.one (.dat (.st 4)),dQ]
abbrev P141:L Pk:=[.one (.dat (.st 8)),.one (.dat (.st 1)),.one (.dat (.st 4))]
abbrev P142:L Pk:=[.one (.dat (.st 10)),.one (.dat (.st 8)),dj,.one (uX),.one (.dat (.st 0)),.one (xb)]
abbrev P143:L Pk:=[.one (.dat (.st 8)),dj,.one (uX),dj,.one (.dat (.st 4)),.one (.dat (.st 4))]
abbrev P144:L Pk:=[.one (.dat (.st 12)),dj,dj,dj,.one (.dat (.st 4))]
abbrev P145:L Pk:=[.one (.dat (.st 8)),dj,.one (uX),dj,.one (xb)]
abbrev P146:L Pk:=[.one (.dat (.st 10)),.one (.dat (.st 8)),dj,.one (uX),.one (.dat (.st 4))]
abbrev P147:L Pk:=[.one (.dat (.st 8)),dj,.one (uX),.one (.dat (.st 4))]
abbrev P148:L Pk:=[.one (.dat (.st 8)),dj,.one (uX),.one (.dat (.st 0)),.one (xb)]
abbrev P149:L Pk:=[.one (.dat (.st 8)),dj,.one (uX),dj]
abbrev P150:L Pk:=[.one (.dat (.st 10)),.one (.dat (.st 8)),dj]
abbrev K151:L Ck:=[.dat (.st 8),lU,PN]
abbrev P152:L Pk:=[.one (.dat (.st 10)),.one (Es)]
abbrev K153:L Ck:=[.dat (.st 8),PN]
abbrev asM:L Pk:=[.one (.dat (.st 10)),.one (.dat (.st 8)),.one (.dat (.st 4))]
abbrev asL:L Pk:=[.one (.dat (.st 10)),.one (.dat (.st 8)),.one (xb),dj]
abbrev asK:L Pk:=[.one (.dat (.st 10)),.one (.dat (.st 8)),.one (uX),dQ]
abbrev asJ:L Pk:=[.one (.dat (.st 10)),dj]
abbrev asI:L Pk:=[.one (.dat (.st 10)),.one (.dat (.st 8)),.one (.dat (.st 6))]
abbrev asH:L Pk:=[.one (.dat (.st 10)),.one (.dat (.st 8))]
abbrev P160:L Pk:=[.one (.dat (.st 10)),.one (.dat (.st 8)),.one (Es)]
abbrev asG:L Pk:=[.one (.dat (.sl (.st 11))),.one (.dat (.sl (.st 11)))]
abbrev P162:L Pk:=[.one (.own (.int .i64)),.one (xb)]
abbrev K163:L Ck:=[.own (.int .i64)]
abbrev P164:L Pk:=[.one (xb),.one (Es)]
abbrev K165:L Ck:=[.dat (.st 8),lU,lU]
abbrev asF:L Pk:=[.one (.dat (.st 3)),.one (.dat (.st 8)),.one (Es),.one (Es)]
abbrev K167:L Ck:=[Es,lU]
abbrev K168:L Ck:=[.dat (.st 8),.dat (.st 11),lU]
abbrev P169:L Pk:=[.one (.dat (.st 5)),.one (.dat (.st 5))]
abbrev P170:L Pk:=[.one (.dat (.st 3)),.one (.dat (.st 8)),.one (.dat (.st 8))]
abbrev K171:L Ck:=[PN,lU]
abbrev asE:L Pk:=[.one (.dat (.st 14))]
abbrev K173:L Ck:=[.dat (.st 11)]
abbrev asD:L Pk:=[.one (.dat (.st 15))]
abbrev asC:L Pk:=[.one (.dat (.st 16))]
abbrev asB:L Pk:=[.one (.dat (.st 31)),.one (.dat (.st 9))]
abbrev asA:L Pk:=[.one (.dat (.st 32)),.one (.dat (.st 9))]
abbrev asy:L Pk:=[.one (.dat (.st 33)),.one (.dat (.st 9))]
abbrev Fn(ps:L Pk)(rs:L Ck)(pn:Bool):Type:=ga sg.A ps->O (RT pn (gx sg.A rs×iz sg.A ps) (den sg.A sg.pt×iz sg.A ps))
abbrev Y1:=aj×Int×L au×Int×L aA×U
abbrev Y2:=(cX×U)×U
abbrev Y3:=Nat->Y1->O Y2
abbrev Y4:=(Bool×U)×U
abbrev Y5:=Nat->Int×U->O Y4
abbrev Y6:=U×Int×L au×Int×L aA×L aA×Bool×Int×Int×Int×O aM×U
abbrev Y7:=(L bI×L Int×L ei×L Int×Int×L bO×L aD×L Int×Int×L cq×L aq×U)×U
abbrev Y8:=(aA×U)×Y6×Y7×L (Int×Bool)×U
abbrev Y9:=Y6×Y7×L (Int×Bool)×U
abbrev Y10:=U×Y6×Y7×L (Int×Bool)×U
abbrev Y11:=Any×Y6×Y7×L (Int×Bool)×U
abbrev IX:=Nat->Y9->O (Rx Y10 Y11)
abbrev LS:=Int×Int×L aA×L au×U
abbrev lu:=L fK×Int×Bool×U
abbrev IW:=Int×Int×L UInt8×L Term×L aD×U
abbrev Y16:=(Term×U)×U
abbrev Mz:=(Term×U)×lu×U
abbrev My:=lu×U->O Mz
abbrev Y19:=Nat->My->lu×U->O Mz
abbrev Y20:=(aD×U)×lu×U
abbrev Y21:=Bool×lu×IW×U
abbrev Y22:=L au×U
abbrev Y23:=Y6×Y7×L (Int×Bool)×aA×aA×U
abbrev Y24:=Y22×Y6×Y7×L (Int×Bool)×U
abbrev Y25:=Nat->aj×aj×U->O Y4
abbrev Iq:=(bE×U)×U
abbrev Y27:=LO (Bool×U) (Int×U) U Any
abbrev Y28:=ax×bO×U
abbrev Ip:=O ((Int×U)×U)
abbrev Pf:=L bO×L aD×L nW×U
abbrev Wg:=bE×gL×Int×Bool×U
abbrev Y32:=bE×gL×gz×Bool×U
abbrev Y33:=L Int×Int×Pf×U
abbrev Y34:=LO (Bool×Pf×U) U (Pf×U) Any
abbrev Y35:=O ((bH×Bool×U)×U)
abbrev Pe:=L bI×L Int×L ei×L Int×Int×U
abbrev Y37:=Bool×Int×Pe×U
abbrev Y38:=(aj×aM×Int×Int×U)×U
abbrev Y39:=(aj×Int×Bool×U)×U
abbrev Y40:=bH×aj×L Int×U
abbrev Y41:=Nat->Int×Int×Int×U->O Y4
abbrev Ud:=(aq×U)×U
abbrev Y43:=Nat->Int×Int×U->O Ud
abbrev Y44:=bH×aj×Int×U
abbrev Y45:=Y22×U->O Y2
abbrev Y46:=(aA×U)×U
abbrev Y47:=LO (Bool×U) U U Any
abbrev Y48:=aj×Int×L au×bO×L aA×U
abbrev Y49:=ax×aj×U
abbrev Y50:=(aj×Int×U)×U
abbrev Y51:=Int×L (Int×Bool)×U
abbrev Y52:=L (Int×Bool)×U
abbrev Y53:=aj×Int×L au×Int×aA×aA×U
abbrev Y54:=LO (Int×Bool×U) U U Any
abbrev Y55:=O ((L Term×U)×lu×U)
abbrev Y56:=lu×Int×U->Y55
abbrev Y57:=(L aA×U)×U
abbrev Y58:=L aA×Int×U
abbrev Y59:=(Int×Int×U)×U
abbrev Y60:=Nat->(aD×U->O Y4)->aD×U->O Y4
abbrev Y61:=L cq×Int×U
abbrev Y62:=Nat->L UInt8×U->O Y4
abbrev Y63:=(aA×aA×U)×Y6×Y7×L (Int×Bool)×U
abbrev Y64:=Rx (U×U) (Any×U)
abbrev Y65:=(Int×Int×U)×Y6×Y7×L (Int×Bool)×U
abbrev Y66:=Nat->Bool×U->O Y46
abbrev WG:=aD×L cq×U
abbrev Y68:=L gz×L Int×Int×L cq×U
abbrev Y69:=Term×L (L UInt8)×U
abbrev BB:=L (L UInt8)×L cq×L gz×U
abbrev Y71:=Int×Y68×BB×U
abbrev Y72:=Term×Bool×Bool×Bool×U
abbrev Y73:=Nat->Y9->O Y10
abbrev Y74:=au×Bool×U
abbrev WE:=Y7×L (Int×Bool)×Int×U
abbrev Y76:=O ((fJ×U)×Y7×L (Int×Bool)×U)
abbrev Y77:=Y7×L (Int×Bool)×U
abbrev Y78:=(L Int×U)×U
abbrev Y79:=Nat->L cq×U->O Y4
abbrev Y80:=L (L UInt8)×Int×U
abbrev Y81:=bH×aj×bI×U
abbrev Y82:=(cT×U)×lu×U
abbrev Y83:=lu×(L UInt8×L kq×L cT×U)×U
abbrev Y84:=Nat->cL×au×U->O Y4
abbrev Y85:=O (LO (Int×U) (Int×U) U Any)
abbrev Y86:=cL×au×Int×U
abbrev Y87:=Int×Int×L UInt8×L aD×U
abbrev Y88:=Int×BB×Y87×U
abbrev Y89:=(aD×U)×BB×U
abbrev Y90:=BB×aD×U
abbrev Y91:=L Int×Int×U
abbrev Y92:=Nat->Int×U->O Y46
abbrev Y93:=Nat->Y49->O Y4
abbrev Y94:=Y6×Y7×L (Int×Bool)×L au×U
abbrev Y95:=O ((ax×U)×U)
abbrev Y96:=(aj×L aM×Int×U)×U
abbrev Y97:=Nat->(aD×U->Ip)->aD×U->Ip
abbrev Y98:=LO (Int×Bool×U) (Int×U) U Any
abbrev Y99:=ax×aj×Int×U
abbrev alZ:=dN×aD×U
abbrev yA:=LO (Bool×Bool×U) (Bool×U) U Any
abbrev alY:=Nat->aj×U->O Y4
abbrev alX:=Y6×Y7×L (Int×Bool)×aA×Int×U
abbrev asm:=bH×aj×U
abbrev alW:=Nat->(WG->O Y4)->WG->O Y4
abbrev nM:=LO (Bool×U) (Bool×U) U Any
abbrev alV:=Nat->aD×U->O Y4
abbrev ahr:=L fK×Int×U
abbrev alU:=Nat->L UInt8×U->O (ahr×U)
abbrev alT:=Nat->ax×U->O Y4
abbrev aac:=cL×bI×U
abbrev alS:=Nat->aac->O Y4
abbrev alR:=lu×L UInt8×U
abbrev adG:=O (U×lu×U)
abbrev asl:=Nat->aA×U->O Y46
abbrev alQ:=cE×Bool×U
abbrev alP:=ax×aj×L Int×U
abbrev Y118:=Nat->alP->O Y4
abbrev Y119:=bH×L Int×U
abbrev alO:=Nat->bE×Int×Int×U->O Iq
abbrev alN:=Nat->Int×U->Ip
abbrev alM:=cE×Int×U
abbrev asj:=Nat->U->O Y46
abbrev alL:=Term×Int×Int×U
abbrev RY:=L UInt8×Int×U
abbrev ahq:=bI×bI×U
abbrev asi:=Nat->ahq->O Y4
abbrev aab:=(L UInt8×Nat)×U
abbrev alK:=Nat->bJ×U->O Y4
abbrev alJ:=Y64->O (Rx Y10 Y11)
abbrev Wk:=L (L UInt8)×U
abbrev Pm:=O (Wk×U)
abbrev RW:=ax×Int×aq×U
abbrev aaa:=L aZ
abbrev Z9:=O ((aaa×Bool×U)×U)
abbrev Pj:=(cE×U)×lu×U
abbrev Z8:=lu×U->O Pj
abbrev ash:=Nat->asm->O Y4
abbrev adF:=(aM×U)×U
abbrev alI:=LO (Bool×Int×U) (Bool×U) U Any
abbrev Y141:=L au×aA×U
abbrev Ph:=Int×Int×L Int×L aD×U
abbrev ahp:=Int×BB×Ph×U
abbrev Pg:=BB×Term×L (L UInt8)×U
abbrev RV:=(Int×U)×BB×U
abbrev aho:=Int×U->O RV
abbrev ahn:=LO (Bool×Ph×U) (Int×U) (Ph×U) Any
abbrev alH:=L (L UInt8)×L UInt8×U
abbrev Y149:=(aj×aM×Int×U)×U
abbrev Y150:=Nat->Y99->O Y4
abbrev alG:=dN×Term×L (L UInt8)×U
abbrev asf:=O (LO Y58 U U Any)
abbrev ase:=(aj×U)×Y7×L (Int×Bool)×U
abbrev alF:=Nat->Nat->Y77->O ase
abbrev ahm:=(Int×Bool×U)×Y7×L (Int×Bool)×U
abbrev ahl:=O (LO (Int×U) (Bool×U) U Any)
abbrev adE:=bH×aj×L au×Bool×U
abbrev alE:=L UInt8×L iN×U
abbrev ahk:=L UInt8×L cE×U
abbrev alC:=Bool×lu×ahk×U
abbrev alB:=L UInt8×Int×Bool×U
abbrev Y162:=L aM×Int×Pe×Pe×U
abbrev asd:=L aM×Int×U
abbrev asc:=aj×Int×Int×U
abbrev alA:=O (asc×U)
abbrev ahj:=(Bool×U)×lu×U
abbrev Z7:=LO (Bool×lu×U) (L Term×U) (lu×U) Any
abbrev Z6:=L Term×lu×U
abbrev alz:=Nat->cL×U->O Y4
abbrev aly:=lu×Int×U->O Pj
abbrev asb:=bI×Bool×U
abbrev alx:=L aM×L aM×U
abbrev Z4:=L aq×aaa×Int×U
abbrev adD:=L aq×Bool×U
abbrev alw:=O (LO Z4 adD U Any)
abbrev Y176:=aj×aD×aA×U
abbrev ahi:=L aA×Bool×U
abbrev Y178:=O (ahi×U)
abbrev alv:=Nat->Y91->O Y4
abbrev Z3:=Int×L (Int×Int)×(L Int×U)×U
abbrev alu:=L (Int×Int)×(L Int×U)×U
abbrev Y182:=Int×LS×L (Int×Int)×U
abbrev alq:=Int×Pe×L (Int×Int)×U
abbrev Y184:=au×au×U
abbrev ahh:=O ((aM×Int×Int×U)×Y7×L (Int×Bool)×U)
abbrev Z2:=L (L UInt8×Bool)
abbrev Y187:=O ((aj×U)×U)
abbrev asa:=ax×L Int×U
abbrev alp:=Nat->Term×U->O Y4
abbrev aln:=ax×Int×U
abbrev Z1:=L aq×U
abbrev Z0:=L bO×L aD×L Int×Int×L cq×U
abbrev LR:=Int×aq×Z1×Z0×(L Int×U)×U
abbrev LQ:=(Bool×U)×Z1×Z0×(L Int×U)×U
abbrev sM:=Z1×Z0×(L Int×U)×(Bool×U)×U
abbrev adC:=Z1×Z0×(L Int×U)×U
abbrev adB:=L aq×Int×U
abbrev LP:=LO sM adB sM Any
abbrev alm:=(er×U)×U
abbrev ahg:=Int×Z1×Z0×(L Int×U)×U
abbrev alk:=O (adB×U)
abbrev ahf:=aD×Int×U
abbrev alj:=Nat->(ahf->Ip)->ahf->Ip
abbrev Y204:=(Bool×Int×U)×U
abbrev Y205:=ax×aj×aj×U
abbrev Y206:=bH×aj×Int×L au×bO×L aA×U
abbrev ar8:=L bI×L Int×L ei×L Int×Int×Int×Int×Int×Int×Int×Int×U
abbrev Y208:=bH×aj×Int×L au×aA×U
abbrev Y209:=Bool×ar8×LS×U
abbrev Wj:=LO (Bool×U) (er×U) U Any
abbrev ali:=Y6×Y7×L (Int×Bool)×L aA×U
abbrev Wi:=LO (Bool×U) (Int×Int×U) U Any
abbrev Wh:=Y6×Y7×L (Int×Bool)×aD×aA×U
abbrev adA:=O (ahi×Y6×Y7×L (Int×Bool)×U)
abbrev alh:=L aA×Int×Y6×Y7×L (Int×Bool)×U
abbrev ahe:=Int×L UInt8×Int×Int×U
abbrev ahd:=O ((fK×U)×U)
abbrev adz:=LO (Bool×ahe×U) U (ahe×U) Any
abbrev Y219:=Int×Int×Pe×Pe×U
abbrev aO(A B C:Type):=@iter A B C Any
abbrev q94(F:Fn P1 K2 J):lz sg:=⟨P1,K2,J,F⟩
def B94:alj:=
 λn f94 c=>ai (aC c.2.1 1) (Z (((-1),()),())) (ah (aO (Int×Int×U) (Int×U) (U) (λd=>ai (aC d.2.1 (av
 c.1.4)) (ai (bn 0 d.1) (aT (aN d.2.1 c.1.4) (ah (f94 (bp c.1.4 (az d.2.1) aL,d.1,())) λe=>Z (N (e.1.1,aF .i64
 d.2.1 1,())))) (Z (H 0 d))) (Z (H 0 d))) n (bF .i64 c.2.1 1,0,())) λd=>bD d (λ_ g=>Z ((g.1,()),())) (λ_ g
 =>Z (g,())) λ_ _=>Y)
def D94(n:Nat)(f94:Fn P1 K2 J)(a:bA prog 94 (q94 f94)):bA prog 94 (q94 (B94 n f94)):=cV [⟨94,q94 f94,a⟩] [(94,0,⟨[(1,dj),(5,dj)],[],[],0⟩)] n 10 94
def R94(n k:Nat):(Fn P1 K2 J):=Nat.rec (motive:=λ_=>(Fn P1 K2 J)) (λ_=>Y) (λ_ r=>B94 n r) k
def F94(n:Nat):Fn P1 K2 J:=(R94 n n)
def amj(n:Nat):∀k,bA prog 94 (q94 (R94 n k))
 |0=>ck (enters 94 (by kernel_rfl))
 |k+1=>have a:=amj n k
  D94 n _ a
def k94(n:Nat):OC:=⟨94,q94 (F94 n),(amj n n)⟩
abbrev q95(F:Fn P3 K4 J):lz sg:=⟨P3,K4,J,F⟩
def B95:Y60:=
 λn f95 c=>ah (aO (Int×U) (Bool×U) (U) (λd=>ai (aC d.1 (av c.1.4)) (aT (aN d.1 c.1.4) (ah (f95 (bp c.1.4
 (az d.1) aL,())) λe=>ai (ak e.1.1) (Z (X () (J,()))) (Z (N (aF .i64 d.1 1,()))))) (Z (H 0 d))) n
 (0,())) λd=>bD d (λ_ _=>Z ((bn (av c.1.3) 30,()),())) (λ_ g=>Z (g,())) λ_ _=>Y
def D95(n:Nat)(f95:Fn P3 K4 J)(a:bA prog 95 (q95 f95)):bA prog 95 (q95 (B95 n f95)):=cV [⟨95,q95 f95,a⟩] [(95,0,⟨[(3,dj)],[],[],0⟩)] n 10 95
def R95(n k:Nat):(Fn P3 K4 J):=Nat.rec (motive:=λ_=>(Fn P3 K4 J)) (λ_=>Y) (λ_ r=>B95 n r) k
def F95(n:Nat):Fn P3 K4 J:=(R95 n n)
def ami(n:Nat):∀k,bA prog 95 (q95 (R95 n k))
 |0=>ck (enters 95 (by kernel_rfl))
 |k+1=>have a:=ami n k
  D95 n _ a
def k95(n:Nat):OC:=⟨95,q95 (F95 n),(ami n n)⟩
def F41:alV:=
 λn b=>ah (F94 n (aD.mk b.1.1 b.1.2 b.1.3 b.1.4,16,())) λc=>ai (bn 0 c.1.1) (ah (F95 n (aD.mk b.1.1 b.1.2 b.1.3 b.1.4,()))
 λd=>Z d) (Z ((J,()),()))
def k41(n:Nat):OC:=⟨41,⟨P3,K4,J,F41 n⟩,cV [k94 n,k95 n] [] n 10 41⟩
def F11:alT:=
 λn b=>ai (aC 1600 (av b.1.1)) (Z ((J,()),())) (ai (aC 120 (av b.1.2)) (Z ((J,()),())) (ai (aC 320 (av b.1.3))
 (Z ((J,()),())) (ai (aC 30 (av b.1.5)) (Z ((J,()),())) (ah (aO (Int×U) (Bool×U) (U) (λc=>ai (aC
 c.1 (av b.1.2)) (aT (aN c.1 b.1.2) (ah (F41 n (bp b.1.2 (az c.1) aL,())) λd=>ai (ak d.1.1) (Z (X () (J,())))
 (Z (N (aF .i64 c.1 1,()))))) (Z (H 0 c))) n (0,())) λc=>bD c (λ_ _=>ah (aO (Int×U) (Bool×U) (U) (λg=>ai (aC g.1 (av b.1.5)) (aT (aN g.1 b.1.5) (ai (aC 30 (av (bp b.1.5 (az g.1) bf).1)) (Z (X () (J,
 ()))) (Z (N (aF .i64 g.1 1,()))))) (Z (H 0 g))) n (0,())) λg=>bD g (λ_ _=>Z ((W,()),())) (λ_ i=>Z
 (i,())) λ_ _=>Y) (λ_ e=>Z (e,())) λ_ _=>Y))))
def k11(n:Nat):OC:=⟨11,⟨P5,K4,J,F11 n⟩,cV [k41 n] [(11,0,⟨[(3,dj)],[],[],0⟩),(11,2,⟨[(4,dj)],[],[],0⟩)] n 10 11⟩
def F223:Y41:=
 λn b=>ai (bn b.2.1 b.1) (Z ((bn b.1 b.2.2.1,()),())) (Z ((J,()),()))
def ach(n:Nat):OC:=⟨223,⟨P6,K4,J,F223 n⟩,cV [] [] n 10 223⟩
def Mb(n:Nat)(c:aab):O (LO aab (Bool×U) aab Any):=
 Z (X ((c.1.1,adw c.1.2 (Ir c.1.1 c.1.2)),()) (J,()))
def F284:Y62:=
 λn b=>ai (gp b.1 []) (Z ((J,()),())) (ai (aC 8 (av b.1)) (Z ((J,()),())) (aT (aN 0 b.1) (ai (aC (mA b.1 0) 65)
 (Z ((J,()),())) (aT (aN 0 b.1) (ai (aC 90 (mA b.1 0)) (Z ((J,()),())) (aT (fV 1 (av b.1) (av b.1)) (ah (aO (aab) (Bool×U) (aab) (λc=>ai (QE c.1.2 c.1.1) (ai (aC (vC c.1.1 c.1.2) 97) (Mb n c) (ai (aC 122 (vC c.1.1 c.1.2))
 (Mb n c) (Z (N ((c.1.1,adw c.1.2 (Ir c.1.1 c.1.2)),()))))) (Z (H 0 c))) n ((cY b.1 1 (av b.1),0),())) λc=>bD c
 (λ_ _=>Z ((W,()),())) (λ_ e=>Z (e,())) λ_ _=>Y)))))))
def aop(n:Nat):OC:=⟨284,⟨P7,K4,J,F284 n⟩,cV [] [(284,0,⟨[(0,.box (.rD))],[.slot 24],[],0⟩)] n 10 284⟩
def Md(n:Nat)(b:L cq×U)(c:Int×Z2×U):O (LO (Int×Z2×U) (Int×U) (Z2×U) Any):=
 Z (X (iX (A:=sg.A) Ty.str (bp b.1 (az c.1) bf).1 W c.2.1,()) (c.1,()))
def F224:Y79:=
 λn b=>ai (bn (av b.1) 20) (ah (aO (Int×Z2×U) (Int×U) (Z2×U) (λc=>ai (aC c.1 (av b.1)) (aT (aN
 c.1 b.1) (ah (F284 n ((bp b.1 (az c.1) bf).1,())) λd=>ai d.1.1 (ah (F223 n ((bp b.1 (az c.1) bf).2,0,3,())) λe=>ai
 e.1.1 (ai (ak (ak (ET (A:=sg.A) Ty.str J (bp b.1 (az c.1) bf).1 c.2.1))) (Md n b c) (Z (N (aF .i64 c.1 1,iX
 (A:=sg.A) Ty.str (bp b.1 (az c.1) bf).1 W c.2.1,())))) (Md n b c)) (Md n b c))) (Z (H 0 c))) n (0,[],())) λc=>
 bD c (λ_ _=>Z ((ak J,()),())) (λ_ e=>Z ((ak (bn 0 e.1),()),())) λ_ _=>Y) (Z ((J,()),()))
def aoB(n:Nat):OC:=⟨224,⟨P8,K4,J,F224 n⟩,cV [ach n,aop n] [(328,0,⟨[(8,dj),(0,.box (.map (.str) (.bool)))],[.cell (.cap (.cell (.cap (.slot 1) 0) 0) 0) 0],[],0⟩)] n 10 224⟩
abbrev Xx(F:Fn P1 K2 J):lz sg:=⟨P1,K2,J,F⟩
def Ig(c:ahf)(d:Int×Int×U):aD:=
 bp c.1.4 (az d.2.1) aL
def B228:alj:=
 λn f228 c=>ah (aO (Int×Int×U) (Int×U) (U) (λd=>ai (aC d.2.1 (av c.1.4)) (aT (aN d.2.1 c.1.4) (ai (aC
 d.1 0) (Z (H 0 d)) (ah (f228 (aD.mk (Ig c d).1 (Ig c d).2 (Ig c d).3 (Ig c d).4,d.1,())) λe=>Z (N (e.1.1,
 aF .i64 d.2.1 1,()))))) (Z (H 0 d))) n (bF .i64 c.2.1 1,0,())) λd=>bD d (λ_ g=>Z ((g.1,()),())) (λ_ g=>Z
 (g,())) λ_ _=>Y
def D228(n:Nat)(f228:Fn P1 K2 J)(a:bA prog 228 (Xx f228)):bA prog 228 (Xx (B228 n f228)):=cV [⟨228,Xx f228,a⟩] [(228,0,⟨[(1,dj),(12,dj)],[],[],0⟩)] n 10 228
def R228(n k:Nat):(Fn P1 K2 J):=Nat.rec (motive:=λ_=>(Fn P1 K2 J)) (λ_=>Y) (λ_ r=>B228 n r) k
def F228(n:Nat):Fn P1 K2 J:=(R228 n n)
def aeX(n:Nat):∀k,bA prog 228 (Xx (R228 n k))
 |0=>ck (enters 228 (by kernel_rfl))
 |k+1=>have a:=aeX n k
  D228 n _ a
def aoA(n:Nat):OC:=⟨228,Xx (F228 n),(aeX n n)⟩
abbrev Xw(F:Fn P9 K4 J):lz sg:=⟨P9,K4,J,F⟩
def sW(n:Nat)(f229:WG->O Y4):O Y4:=
 Z ((J,()),())
def Mp(c:WG)(g:Int×U):aD:=
 bp c.1.4 (az g.1) aL
def SH(n:Nat)(f229:WG->O Y4)(c:WG):O Y4:=
 ah (aO (Int×U) (Int×U) (U) (λg=>ai (aC g.1 (av c.1.4)) (aT (aN g.1 c.1.4) (ah (f229 (aD.mk (Mp c g).1
 (Mp c g).2 (Mp c g).3 (Mp c g).4,c.2)) λh=>ai (ak h.1.1) (Z (X () g)) (Z (N (aF .i64 g.1 1,()))))) (Z
 (H 0 g))) n (0,())) λg=>bD g (λ_ _=>Z ((ak J,()),())) (λ_ i=>Z ((ak (bn 0 i.1),()),())) λ_ _=>
 Y
def Ie(n:Nat)(f229:WG->O Y4)(c:WG):O Y4:=
 ai (gp c.1.3 []) (ai (aa (av c.1.4) 0) (SH n f229 c) (sW n f229)) (sW n f229)
def B229:alW:=
 λn f229 c=>ah (ai (aa c.1.1 1) (Z (N (W,()))) (ah (ai (aa c.1.1 2) (Z (N (W,()))) (Z (N (aa c.1.1
 5,())))) λ(d:nM)=>cM d (λe=>Z (N e)) (λ_ _=>Y) (λ_ g=>Z (X () g)) λ_ _=>Y)) λ(d:nM)=>
 cM d (λe=>ai e.1 (ai (ak (aa c.1.2 0)) (sW n f229) (Ie n f229 c)) (ai (aa c.1.1 3) (ah (F223 n (c.1.2,(-1000000000),
 1000000000,())) λg=>ai (ak g.1.1) (sW n f229) (Ie n f229 c)) (ai (aa c.1.1 4) (ah (F223 n (c.1.2,0,1,())) λg=>ai
 (ak g.1.1) (sW n f229) (Ie n f229 c)) (ai (aa c.1.1 6) (ah (F223 n (c.1.2,0,bF .i64 (av c.2.1) 1,())) λg=>ai (ak
 g.1.1) (sW n f229) (aT (aN c.1.2 c.2.1) (ai (gp c.1.3 []) (ai (aa (av c.1.4) (bp c.2.1 (az c.1.2) bf).2) (SH n f229 c)
 (sW n f229)) (sW n f229)))) (sW n f229))))) (λ_ _=>Y) (λ_ g=>Z (g,())) λ_ _=>Y
def D229(n:Nat)(f229:Fn P9 K4 J)(a:bA prog 229 (Xw f229)):bA prog 229 (Xw (B229 n f229)):=cV [ach n,⟨229,Xw f229,a⟩] [(229,1000005,⟨[(8,dQ)],[],[],0⟩),(229,1000006,⟨[(8,dQ)],[],[],0⟩),(313,0,⟨[(8,dj)],[],[],0⟩)] n 10 229
def R229(n k:Nat):(Fn P9 K4 J):=Nat.rec (motive:=λ_=>(Fn P9 K4 J)) (λ_=>Y) (λ_ r=>B229 n r) k
def F229(n:Nat):Fn P9 K4 J:=(R229 n n)
def aeW(n:Nat):∀k,bA prog 229 (Xw (R229 n k))
 |0=>ck (enters 229 (by kernel_rfl))
 |k+1=>have a:=aeW n k
  D229 n _ a
def aoz(n:Nat):OC:=⟨229,Xw (F229 n),(aeW n n)⟩
def jb(n:Nat)(b:aln):O Y4:=
 F223 n (b.2.1,1,34,())
def nO(n:Nat):nM->O nM:=
 λc=>cM c (λd=>Z (N d)) (λ_ _=>Y) (λ_ e=>Z (X () e)) λ_ _=>Y
def F232:Nat->aln->O ((eB×eB×Bool×U)×U):=
 λn b=>ai (aa b.2.1 1) (ah (jb n b) λc=>Z ((eB.mk (-1000000000) 1000000000 W,fF,c.1),())) (ai (aa b.2.1
 2) (ah (jb n b) λc=>Z ((eB.mk 0 1 W,fF,c.1),())) (ai (aa b.2.1 4) (ah (jb n b) λc=>Z ((eB.mk
 0 29 W,fF,c.1),())) (ai (aa b.2.1 5) (ah (jb n b) λc=>Z ((eB.mk 0 (bF .i64 (av b.1.3) 1) W,fF,
 c.1),())) (ah (ai (aa b.2.1 6) (Z (N (W,()))) (ah (ai (aa b.2.1 11) (Z (N (W,()))) (ah (ai (aa b.2.1 12)
 (Z (N (W,()))) (ah (ai (aa b.2.1 31) (Z (N (W,()))) (Z (N (aa b.2.1 32,())))) (nO n))) (nO n)))
 (nO n))) λ(c:nM)=>cM c (λd=>ai d.1 (ah (jb n b) λe=>Z ((eB.mk 0 (bF .i64 (av b.1.1) 1) W,
 fF,e.1),())) (ai (aa b.2.1 10) (ah (jb n b) λe=>Z ((eB.mk 1 30 W,fF,e.1),())) (ai (aa b.2.1 18)
 (ah (jb n b) λe=>Z ((eB.mk 0 (bF .i64 (av b.1.5) 1) W,fF,e.1),())) (ai (aa b.2.1 19) (ah (jb n b) λ
 e=>Z ((eB.mk 0 (bF .i64 (av b.1.2) 1) W,eB.mk 0 (bF .i64 (av b.1.1) 1) W,e.1),())) (ai (aa b.2.1 29) (ah
 (jb n b) λe=>Z ((eB.mk 0 3 W,fF,e.1),())) (ah (jb n b) λe=>Z ((fF,fF,e.1),())))))))
 (λ_ _=>Y) (λ_ e=>Z ((fF,fF,e),())) λ_ _=>Y))))
def aoy(n:Nat):OC:=⟨232,⟨P10,K11,J,F232 n⟩,cV [ach n] [(232,1000012,⟨[(30,dQ)],[],[],0⟩),(232,1000013,⟨[(30,dQ)],[],[],0⟩),(232,1000014,⟨[(30,dQ)],[],[],0⟩),(232,1000015,⟨[(30,dQ)],[],[],0⟩)] n 10 232⟩
def nP(n:Nat):Ip:=
 Z ((2,()),())
def vk(b:ax×U)(k:Int×U):aD:=
 bp b.1.2 (az k.1) aL
def Mh(n:Nat)(b:ax×U):Ip:=
 ah (aO (Int×U) (Int×U) (U) (λo=>ai (aC o.1 (av b.1.1)) (aT (aN o.1 b.1.1) (ah (F232 n (b.1,(bp b.1.1 (az o.1)
 bM).1,())) λp=>ai p.1.2.2.1 (ah (F223 n ((bp b.1.1 (az o.1) bM).2,p.1.1.1,p.1.1.2,())) λq=>ai q.1.1 (ah (F223 n ((bp
 b.1.1 (az o.1) bM).3,p.1.2.1.1,p.1.2.1.2,())) λr=>ai (ak r.1.1) (Z (X () o)) (Z (N (aF .i64 o.1 1,()))))
 (Z (X () o))) (Z (X () o)))) (Z (H 0 o))) n (0,())) λo=>bD o (λ_ _=>ai (ak (ak J)) (nP n) (Z
 ((0,()),()))) (λ_ q=>ai (ak (ak (bn 0 q.1))) (nP n) (Z ((0,()),()))) λ_ _=>Y
def Mg(n:Nat)(b:ax×U):Ip:=
 ah (aO (Int×U) (Int×U) (U) (λk=>ai (aC k.1 (av b.1.2)) (aT (aN k.1 b.1.2) (ah (F228 n (aD.mk (vk b k).1
 (vk b k).2 (vk b k).3 (vk b k).4,12,())) λl=>ai (bn 0 l.1.1) (ah (F229 n (aD.mk (vk b k).1 (vk b k).2 (vk b
 k).3 (vk b k).4,b.1.5,())) λm=>ai (ak m.1.1) (Z (X () k)) (Z (N (aF .i64 k.1 1,())))) (Z (X () k)))) (Z
 (H 0 k))) n (0,())) λk=>bD k (λ_ _=>ai (ak (ak J)) (nP n) (Mh n b)) (λ_ m=>ai (ak (ak (bn 0
 m.1))) (nP n) (Mh n b)) λ_ _=>Y
def F147:Nat->ax×U->Ip:=
 λn b=>ah (F223 n (av b.1.1,1,1500,())) λc=>ai (ak c.1.1) (nP n) (ai (aC 100 (av b.1.2)) (nP n) (ah (F224 n (b.1.5,
 ())) λd=>ai (ak d.1.1) (nP n) (ah (F223 n (av b.1.3,1,300,())) λe=>ai (ak e.1.1) (nP n) (ah (F223 n (b.1.4,0,
 bF .i64 (av b.1.3) 1,())) λg=>ai (ak g.1.1) (nP n) (ah (aO (Int×U) (Int×U) (U) (λh=>ai (aC h.1
 (av b.1.3)) (aT (aN h.1 b.1.3) (ah (F223 n (bp b.1.3 (az h.1) 0,0,bF .i64 (av b.1.1) 1,())) λi=>ai (ak i.1.1) (Z (X
 () h)) (Z (N (aF .i64 h.1 1,()))))) (Z (H 0 h))) n (0,())) λh=>bD h (λ_ _=>ai (ak (ak J)) (nP n)
 (Mg n b)) (λ_ j=>ai (ak (ak (bn 0 j.1))) (nP n) (Mg n b)) λ_ _=>Y)))))
def ajp(n:Nat):OC:=⟨147,⟨P5,K2,J,F147 n⟩,cV [ach n,aoB n,aoA n,aoz n,aoy n] [(237,0,⟨[(8,dj)],[],[],0⟩),(313,0,⟨[(8,dj)],[],[],0⟩),(314,0,⟨[(8,dj)],[],[],0⟩)] n 10 147⟩
def Ac(n:Nat):Wj->O Wj:=
 λc=>cM c (λd=>Z (N d)) (λ_ _=>Y) (λ_ e=>Z (X () e)) λ_ _=>Y
def xq(n:Nat):Wj->O Wj:=
 λe=>cM e (λg=>Z (N g)) (λ_ _=>Y) (λ_ h=>Z (X () h)) λ_ _=>Y
def F149:Nat->Y28->O alm:=
 λn b=>ai (aa b.2.1.1 4) (Z ((er.a0 (mT.mk (aF .i64 b.2.1.2 1)),()),())) (ai (aa b.2.1.1 10) (Z ((er.a0
 (mT.mk b.2.1.2),()),())) (ah (ai (aa b.2.1.1 7) (Z (N (W,()))) (ah (ai (aa b.2.1.1 13) (Z (N (W,()))) (ah
 (ai (aa b.2.1.1 14) (Z (N (W,()))) (ah (ai (aa b.2.1.1 15) (Z (N (W,()))) (ah (ai (aa b.2.1.1 16) (Z
 (N (W,()))) (ah (ai (aa b.2.1.1 17) (Z (N (W,()))) (ah (ai (aa b.2.1.1 23) (Z (N (W,()))) (Z (N
 (aa b.2.1.1 27,())))) (Ac n))) (Ac n))) (Ac n))) (Ac n))) (Ac n))) (Ac n))) λ(c:Wj)=>cM c (λd=>ai d.1
 (Z ((er.a1 (jG.mk 2),()),())) (ai (aa b.2.1.1 8) (Z ((er.a2 (mW.mk 2),()),())) (ai (aa b.2.1.1 34) (Z
 ((er.a2 (mW.mk 1),()),())) (ah (ai (aa b.2.1.1 9) (Z (N (W,()))) (ah (ai (aa b.2.1.1 12) (Z (N (W,
 ()))) (ah (ai (aa b.2.1.1 19) (Z (N (W,()))) (ah (ai (aa b.2.1.1 21) (Z (N (W,()))) (ah (ai (aa b.2.1.1 22)
 (Z (N (W,()))) (ah (ai (aa b.2.1.1 24) (Z (N (W,()))) (ah (ai (aa b.2.1.1 25) (Z (N (W,()))) (ah (ai
 (aa b.2.1.1 28) (Z (N (W,()))) (Z (N (aa b.2.1.1 29,())))) (xq n))) (xq n))) (xq n))) (xq n))) (xq
 n))) (xq n))) (xq n))) λ(e:Wj)=>cM e (λg=>ai g.1 (Z ((er.a1 (jG.mk 1),()),())) (ai (aa b.2.1.1 18) (aT
 (aN b.2.1.2 b.1.5) (Z ((er.a1 (jG.mk (bp b.1.5 (az b.2.1.2) bf).2),()),()))) (Z ((er.a1 zN,()),()))))
 (λ_ _=>Y) (λ_ h=>Z (h,())) λ_ _=>Y)))) (λ_ _=>Y) (λ_ e=>Z (e,())) λ_ _=>Y))
def ajo(n:Nat):OC:=⟨149,⟨P12,K13,J,F149 n⟩,cV [] [(149,1000007,⟨[(20,dQ)],[],[],0⟩),(149,1000008,⟨[(20,dQ)],[],[],0⟩),(149,1000009,⟨[(20,dQ)],[],[],0⟩),(149,1000010,⟨[(20,dQ)],[],[],0⟩),(149,1000011,⟨[(20,dQ)],[],[],0⟩),(149,1000012,⟨[(20,dQ)],[],[],0⟩),(149,1000013,⟨[(20,dQ)],[],[],0⟩),(149,1000020,⟨[(39,dQ)],[],[],0⟩),(149,1000021,⟨[(39,dQ)],[],[],0⟩),(149,1000022,⟨[(39,dQ)],[],[],0⟩),(149,1000023,⟨[(39,dQ)],[],[],0⟩),(149,1000024,⟨[(39,dQ)],[],[],0⟩),(149,1000025,⟨[(39,dQ)],[],[],0⟩),(149,1000026,⟨[(39,dQ)],[],[],0⟩),(149,1000027,⟨[(39,dQ)],[],[],0⟩)] n 10 149⟩
def F152:Y43:=
 λn b=>Z ((aq.mk W b.1 b.2.1,()),())
def ajn(n:Nat):OC:=⟨152,⟨P14,K15,J,F152 n⟩,cV [] [] n 10 152⟩
abbrev Xp(F:Fn P3 K2 J):lz sg:=⟨P3,K2,J,F⟩
def Ib(c:aD×U)(g:Int×Int×U):aD:=
 bp c.1.4 (az g.2.1) aL
def B290:Y97:=
 λn f290 c=>ah (ai (aa c.1.1 2) (Z (N (1,W,()))) (Z (N (0,J,())))) λ(d:Y98)=>cM d (λe=>ah (@iter
 (Int×Int×U) (Int×U) (U) (Any) (λg=>ai (aC g.2.1 (av c.1.4)) (aT (aN g.2.1 c.1.4) (ah (f290 (aD.mk (Ib c g).1
 (Ib c g).2 (Ib c g).3 (Ib c g).4,())) λh=>Z (N (aF .i64 g.1 h.1.1,aF .i64 g.2.1 1,())))) (Z (H 0 g))) n
 (e.1,0,())) λg=>bD g (λ_ i=>Z ((i.1,()),())) (λ_ i=>Z (i,())) λ_ _=>Y) (λ_ _=>Y) (λ_ g=>Z (g,()))
 λ_ _=>Y
def D290(n:Nat)(f290:Fn P3 K2 J)(a:bA prog 290 (Xp f290)):bA prog 290 (Xp (B290 n f290)):=cV [⟨290,Xp f290,a⟩] [(290,0,⟨[(3,dj),(12,dj)],[],[],0⟩),(290,1000003,⟨[(3,dj),(8,dQ)],[],[],0⟩)] n 10 290
def R290(n k:Nat):(Fn P3 K2 J):=Nat.rec (motive:=λ_=>(Fn P3 K2 J)) (λ_=>Y) (λ_ r=>B290 n r) k
def F290(n:Nat):Fn P3 K2 J:=(R290 n n)
def aeN(n:Nat):∀k,bA prog 290 (Xp (R290 n k))
 |0=>ck (enters 290 (by kernel_rfl))
 |k+1=>have a:=aeN n k
  D290 n _ a
def aoo(n:Nat):OC:=⟨290,Xp (F290 n),(aeN n n)⟩
def oT(n:Nat):Wi->O Wi:=
 λc=>cM c (λd=>Z (N d)) (λ_ _=>Y) (λ_ e=>Z (X () e)) λ_ _=>Y
def sQ(n:Nat):Wi->O Wi:=
 λe=>cM e (λg=>Z (N g)) (λ_ _=>Y) (λ_ h=>Z (X () h)) λ_ _=>Y
def F235:Nat->Y28->O Y59:=
 λn b=>ah (ai (aa b.2.1.1 1) (Z (N (W,()))) (ah (ai (aa b.2.1.1 2) (Z (N (W,()))) (ah (ai (aa b.2.1.1 3)
 (Z (N (W,()))) (ah (ai (aa b.2.1.1 4) (Z (N (W,()))) (ah (ai (aa b.2.1.1 5) (Z (N (W,()))) (ah (ai
 (aa b.2.1.1 6) (Z (N (W,()))) (ah (ai (aa b.2.1.1 26) (Z (N (W,()))) (ah (ai (aa b.2.1.1 30) (Z (N
 (W,()))) (ah (ai (aa b.2.1.1 33) (Z (N (W,()))) (ah (ai (aa b.2.1.1 31) (Z (N (W,()))) (Z (N (aa
 b.2.1.1 32,())))) (oT n))) (oT n))) (oT n))) (oT n))) (oT n))) (oT n))) (oT n))) (oT n))) (oT n))) λ(c:Wi)
 =>cM c (λd=>ai d.1 (Z ((1,0,()),())) (ah (ai (aa b.2.1.1 7) (Z (N (W,()))) (ah (ai (aa b.2.1.1 12) (Z
 (N (W,()))) (ah (ai (aa b.2.1.1 13) (Z (N (W,()))) (ah (ai (aa b.2.1.1 14) (Z (N (W,()))) (ah (ai
 (aa b.2.1.1 15) (Z (N (W,()))) (ah (ai (aa b.2.1.1 16) (Z (N (W,()))) (ah (ai (aa b.2.1.1 17) (Z (N
 (W,()))) (ah (ai (aa b.2.1.1 23) (Z (N (W,()))) (Z (N (aa b.2.1.1 27,())))) (sQ n))) (sQ n))) (sQ n)))
 (sQ n))) (sQ n))) (sQ n))) (sQ n))) λ(e:Wi)=>cM e (λg=>ai g.1 (Z (((-1),0,()),())) (ai (aa b.2.1.1 9) (Z
 (((-1),1,()),())) (ai (aa b.2.1.1 10) (Z ((0,PC .i64 b.2.1.2,()),())) (ai (aa b.2.1.1 18) (aT (aN b.2.1.2 b.1.5) (Z ((bF .i64
 1 (bp b.1.5 (az b.2.1.2) bf).2,0,()),()))) (ai (aa b.2.1.1 19) (aT (aN b.2.1.2 b.1.2) (ah (F290 n (bp b.1.2 (az b.2.1.2)
 aL,())) λh=>Z (((-1),h.1),()))) (Z ((0,0,()),()))))))) (λ_ _=>Y) (λ_ h=>Z (h,())) λ_ _=>Y)) (λ_ _=>
 Y) (λ_ e=>Z (e,())) λ_ _=>Y
def ajh(n:Nat):OC:=⟨235,⟨P12,K16,J,F235 n⟩,cV [aoo n] [(235,1000003,⟨[(8,dQ)],[],[],0⟩),(235,1000004,⟨[(8,dQ)],[],[],0⟩),(235,1000005,⟨[(8,dQ)],[],[],0⟩),(235,1000006,⟨[(8,dQ)],[],[],0⟩),(235,1000007,⟨[(8,dQ)],[],[],0⟩),(235,1000008,⟨[(8,dQ)],[],[],0⟩),(235,1000009,⟨[(8,dQ)],[],[],0⟩),(235,1000010,⟨[(8,dQ)],[],[],0⟩),(235,1000011,⟨[(8,dQ)],[],[],0⟩),(235,1000012,⟨[(8,dQ)],[],[],0⟩),(235,1000015,⟨[(20,dQ)],[],[],0⟩),(235,1000016,⟨[(20,dQ)],[],[],0⟩),(235,1000017,⟨[(20,dQ)],[],[],0⟩),(235,1000018,⟨[(20,dQ)],[],[],0⟩),(235,1000019,⟨[(20,dQ)],[],[],0⟩),(235,1000020,⟨[(20,dQ)],[],[],0⟩),(235,1000021,⟨[(20,dQ)],[],[],0⟩),(235,1000022,⟨[(20,dQ)],[],[],0⟩)] n 10 235⟩
def F236:Nat->bO×er×U->O Y4:=
 λn b=>ai (mj [(315,Ty.st 31),(317,Ty.st 32),(318,Ty.st 33)] 2 (jh 34 b.2.1)) (Z ((W,()),())) (Z ((aa b.1.1 20,()),()))
def ajg(n:Nat):OC:=⟨236,⟨P17,K4,J,F236 n⟩,cV [] [] n 10 236⟩
def F356:Nat->mT×aq×U->O Y4:=
 λn b=>Z ((bn b.1.1 b.2.1.3,()),())
def ai1(n:Nat):OC:=⟨356,⟨asB,K4,J,F356 n⟩,cV [] [] n 10 356⟩
def F357:Nat->jG×aq×U->O Y4:=
 λn b=>Z ((bn b.1.1 b.2.1.2,()),())
def ai0(n:Nat):OC:=⟨357,⟨asA,K4,J,F357 n⟩,cV [] [] n 10 357⟩
def F358:Nat->mW×aq×U->O Y4:=
 λn b=>Z ((aa b.2.1.2 b.1.1,()),())
def aiZ(n:Nat):OC:=⟨358,⟨asy,K4,J,F358 n⟩,cV [] [] n 10 358⟩
abbrev E99(n:Nat):eF sg:=⟨El,Fg [ajp n,ajo n,ajn n,ajh n,ajg n,ai1 n,ai0 n,aiZ n],WZ [(99,0,⟨[(0,ZS),(0,b5z),(0,Et),(0,.box (.cells [PN]))],[.slot 4,.slot 1,.slot 5,.slot 7],[],0⟩),(237,0,⟨[(8,dj),(0,ZS),(0,b5z),(0,Et)],[.cap (.cell (.cap (.cell (.cap (.slot 1) 0) 0) 0) 0) 0,.cap (.cell (.cap (.cell (.cap (.slot 1) 0) 0) 0) 0) 1,.cap (.cell (.cap (.cell (.cap (.slot 1) 0) 0) 0) 0) 2],[],0⟩)],J,cjL [(148,0,⟨[(0,dj),(1,.one (.dat (.st 9))),(0,ZS),(0,b5z),(0,Et)],[.slot 2,.slot 3,.slot 4],[],[.dat .bool]⟩),(1000151,0,⟨[],[],[],[]⟩),(1000155,0,⟨[],[],[],[]⟩),(1000238,0,⟨[],[],[],[]⟩),(1000234,0,⟨[],[],[],[]⟩),(1000152,0,⟨[],[],[],[]⟩),(1000235,0,⟨[],[],[],[]⟩),(1000000,0,⟨[],[],[],[]⟩)]⟩
def ee:Nat->Nat->LR->O LQ:=λn a x=>Qm (wY (E99 n) n a) 148 [(0,dj),(1,.one (.dat (.st 9))),(0,ZS),(0,b5z),(0,Et)] [.dat .bool] [2,0,3] [] (Rm ([2,0,3]++[]) [(0,dj),(1,.one (.dat (.st 9))),(0,ZS),(0,b5z),(0,Et)] (TN [.emp,.emp,.ptr 2 0,.ptr 0 0,.ptr 3 0])) (stJ [2,0,3] [] ⟨trL [],0,0,0,[],[]⟩) x
def kL(c:LR):O LQ:=
 Z ((J,()),c.2.2)
def jd(c:LR):Bool:=
 eR (az c.1) c.2.2.1.1
def qt:L (Nat×Ty):=
 [(315,Ty.st 31),(317,Ty.st 32),(318,Ty.st 33)]
def qq(c:LR):Y4->O LQ:=
 λe=>ai (ak e.1.1) (kL c) (aT (aN c.1 c.2.2.1.1) (aT (jd c) (ai (ak (bp c.2.2.1.1 (az c.1) aQ).1) (aT (aN c.1
 c.2.2.1.1) (aT (jd c) (aT (dF c.2.2.2.2.1.1 [c.1]) (Z ((W,()),(rI c.2.2.1.1 (az c.1) c.2.1,()),c.2.2.2.1,(di c.2.2.2.2.1.1
 [c.1],()),()))))) (Z ((W,()),c.2.2)))))
def yg(n:Nat)(c:LR):O LQ:=
 aT (aN c.1 c.2.2.2.1.1) (ah (F149 n (ax.mk c.2.2.2.1.1 c.2.2.2.1.2.1 c.2.2.2.1.2.2.1 c.2.2.2.1.2.2.2.1 c.2.2.2.1.2.2.2.2.1,bp c.2.2.2.1.1
 (az c.1) bM,())) λd=>ai (mj qt 0 (jh 34 d.1.1)) (ah (F356 n (ke (Sg.zero sg) qt 0 (jh 34 d.1.1),c.2.1,()))
 (qq c)) (ai (mj qt 1 (jh 34 d.1.1)) (ah (F357 n (ke (Sg.zero sg) qt 1 (jh 34 d.1.1),c.2.1,())) (qq c)) (ai (mj
 qt 2 (jh 34 d.1.1)) (ah (F358 n (ke (Sg.zero sg) qt 2 (jh 34 d.1.1),c.2.1,())) (qq c)) Y)))
def yj:Nat->Nat->LR->O LQ:=
 λn a c=>ai (bn (av c.2.2.1.1) c.1) (kL c) (ai (aC 60 c.2.1.2) (kL c) (ai (aC 30 c.2.1.3) (kL c) (aT (aN c.1
 c.2.2.1.1) (aT (jd c) (ai (bp c.2.2.1.1 (az c.1) aQ).1 (aT (aN c.1 c.2.2.1.1) (aT (jd c) (ai (ak (cm (o8 (bp
 c.2.2.1.1 (az c.1) aQ).1 c.2.1.1) (cm (aa (bp c.2.2.1.1 (az c.1) aQ).2 c.2.1.2) (cm (aa (bp c.2.2.1.1 (az c.1)
 aQ).3 c.2.1.3) W)))) (kL c) (yg n c)))) (yg n c))))))
def zX(n a:Nat):ee n (a+1)=yj n a:=by kernel_rfl
def sj(i:sM):Int:=
 bF .i64 (av i.2.2.1.1) 1
def hU(i:sM):Int:=
 bp i.2.2.1.1 (az (sj i)) 0
def ja(i:sM):bO:=
 bp i.2.1.1 (az (hU i)) bM
def nk(i:sM):Y28:=
 (ax.mk i.2.1.1 i.2.1.2.1 i.2.1.2.2.1 i.2.1.2.2.2.1 i.2.1.2.2.2.2.1,ja i,())
def Kb(n:Nat)(i:sM)(j:Y59):O Ud:=
 F152 n (aF .i64 (bp i.1.1 (az (hU i)) aQ).2 j.1.1,aF .i64 (bp i.1.1 (az (hU i)) aQ).3 j.1.2.1,())
def HS(i:sM):adC:=
 (i.1,i.2.1,(cY i.2.2.1.1 0 (sj i),()),())
def ue(i:sM)(k:Ud):LR:=
 ((ja i).2,k.1.1,HS i)
def Ec(n:Nat)(l:LQ):O LP:=
 Z (H 0 (l.2.1,l.2.2.1,l.2.2.2.1,l.1,()))
def Eb(n:Nat)(l:LQ):O LP:=
 Z (N (l.2.1,l.2.2.1,l.2.2.2.1,l.1,()))
def oR(n:Nat):LQ->O LP:=
 λl=>ai (ak l.1.1) (Ec n l) (Eb n l)
def mY(n:Nat)(i:sM)(m:alm):O Y4:=
 F236 n (ja i,m.1)
def sO(i:sM)(k:Ud)(l:LQ):LR:=
 (aF .i64 (hU i) 1,k.1.1,l.2)
def HU(i:sM):LR:=
 ((ja i).3,bp i.1.1 (az (hU i)) aQ,HS i)
def aap(n:Nat)(a:Nat)(c:ax×U)(d:(Int×U)×U)(h:ahg)(i:sM)(k:Ud):Ud->O LP:=
 λl=>ah (ee n (a+8) (ue i l)) λm=>ai (ak m.1.1) (Ec n m) (ah (F149 n (nk i)) λo=>ah (mY n i o) λp=>ai
 (ak p.1.1) (ah (ee n (a+8) (sO i k m)) (oR n)) (Eb n m))
def aao(n:Nat)(a:Nat)(c:ax×U)(d:(Int×U)×U)(h:ahg)(i:sM)(k:Ud):O LP:=
 ah (F152 n (0,aF .i64 (bp i.1.1 (az (hU i)) aQ).3 1,())) (aap n a c d h i k)
def HT(n:Nat)(i:sM):O LP:=
 Z (N (i.1,i.2.1,(cY i.2.2.1.1 0 (sj i),()),i.2.2.2))
def aan(n:Nat):LP->alk:=
 λi=>bD i (λ_ k=>ai (ak k.2.2.2.1.1) (Z (([],7,()),())) (Z ((k.1.1,0,()),()))) (λ_ k=>Z (k,())) λ_ _=>Y
def aam(n:Nat)(a:Nat)(c:ax×U)(d:(Int×U)×U)(g:adC)(h:Int×U)(i:sM)(k:Ud):Ud->O LP:=
 λl=>ah (ee n (a+8) (ue i l)) λm=>ai (ak m.1.1) (Ec n m) (ah (F149 n (nk i)) λo=>ah (mY n i o) λp=>ai
 (ak p.1.1) (ah (ee n (a+8) (sO i k m)) (oR n)) (Eb n m))
def aal(n:Nat)(a:Nat)(c:ax×U)(d:(Int×U)×U)(g:adC)(h:Int×U)(i:sM)(k:Ud):O LP:=
 ah (F152 n (0,aF .i64 (bp i.1.1 (az (hU i)) aQ).3 1,())) (aam n a c d g h i k)
def G99:Nat->Nat->ax×U->alk:=
 λn a c=>ah (F147 n c) λd=>ai (ak (aa d.1.1 0)) (Z (([],2,()),())) (aT (nK (QT (av c.1.1)) (fU (av c.1.1) (av
 c.1.1))) (ah (aO (ahg) (Int×U) (adC) (λe=>ai (aC e.1 (av c.1.3)) (aT (aN e.1 c.1.3) (ah (F152 n (0,1,())) λg=>
 ah (ee n (a+5) (bp c.1.3 (az e.1) 0,g.1.1,e.2)) λh=>ai (ak h.1.1) (Z (X h.2 (e.1,()))) (Z (N (aF .i64 e.1 1,
 h.2))))) (Z (H 0 e))) n (0,(afi (az (av c.1.1)) aQ,()),(c.1.1,c.1.2,c.1.3,c.1.4,c.1.5,()),([],()),())) λe=>bD e
 (λ_ h=>ai (ak (ak J)) (Z (([],7,()),())) (ah (aO (sM) (adB) (sM) (λi=>ai (aC 0 (av i.2.2.1.1)) (aT
 (aN (sj i) i.2.2.1.1) (aT (eR (az (sj i)) i.2.2.1.1) (aT (fV 0 (sj i) (av i.2.2.1.1)) (aT (aN (hU i) i.1.1) (aT (eR (az
 (hU i)) i.1.1) (aT (aN (hU i) i.2.1.1) (ah (F235 n (nk i)) λj=>ah (Kb n i j) λk=>ai (aa (ja i).1 11) (ah (ee n (a+8) (ue i k)) (oR n)) (ai (aa (ja i).1 12) (ah (ee n (a+8) (ue i k)) λl=>ai (ak l.1.1) (Ec n l) (ah (F149 n (nk
 i)) λm=>ah (mY n i m) λo=>ai (ak o.1.1) (ah (ee n (a+8) (sO i k l)) (oR n)) (Eb n l))) (ai (aa (ja i).1 19)
 (ah (ee n (a+8) (HU i)) λl=>ai (ak l.1.1) (Ec n l) (ah (F149 n (nk i)) λm=>ah (mY n i m) λo=>ai (ak o.1.1)
 (ah (ee n (a+8) (sO i k l)) (oR n)) (Eb n l))) (ai (aa (ja i).1 6) (aao n a c d h i k) (ai (aa (ja i).1 32) (aao n
 a c d h i k) (ai (aa (ja i).1 31) (ah (F152 n (0,(bp i.1.1 (az (hU i)) aQ).3,())) (aap n a c d h i k)) (ah (F149 n (nk
 i)) λl=>ah (mY n i l) λm=>ai (ak m.1.1) (ah (ee n (a+8) (aF .i64 (hU i) 1,k.1.1,HS i)) (oR n)) (HT n
 i)))))))))))))) (Z (H 0 i))) n (h.2.1,h.2.2.1,h.2.2.2.1,(W,()),())) (aan n))) (λg h=>ai (ak (ak (bn 0 h.1))) (Z
 (([],7,()),())) (ah (aO (sM) (adB) (sM) (λi=>ai (aC 0 (av i.2.2.1.1)) (aT (aN (sj i) i.2.2.1.1) (aT (eR (az
 (sj i)) i.2.2.1.1) (aT (fV 0 (sj i) (av i.2.2.1.1)) (aT (aN (hU i) i.1.1) (aT (eR (az (hU i)) i.1.1) (aT (aN (hU i)
 i.2.1.1) (ah (F235 n (nk i)) λj=>ah (Kb n i j) λk=>ai (aa (ja i).1 11) (ah (ee n (a+8) (ue i k)) (oR n)) (ai (aa
 (ja i).1 12) (ah (ee n (a+8) (ue i k)) λl=>ai (ak l.1.1) (Ec n l) (ah (F149 n (nk i)) λm=>ah (mY n i m) λo=>
 ai (ak o.1.1) (ah (ee n (a+8) (sO i k l)) (oR n)) (Eb n l))) (ai (aa (ja i).1 19) (ah (ee n (a+8) (HU i)) λl=>ai
 (ak l.1.1) (Ec n l) (ah (F149 n (nk i)) λm=>ah (mY n i m) λo=>ai (ak o.1.1) (ah (ee n (a+8) (sO i k l)) (oR
 n)) (Eb n l))) (ai (aa (ja i).1 6) (aal n a c d g h i k) (ai (aa (ja i).1 32) (aal n a c d g h i k) (ai (aa (ja i).1
 31) (ah (F152 n (0,(bp i.1.1 (az (hU i)) aQ).3,())) (aam n a c d g h i k)) (ah (F149 n (nk i)) λl=>ah (mY n i l) λ
 m=>ai (ak m.1.1) (ah (ee n (a+8) (aF .i64 (hU i) 1,k.1.1,HS i)) (oR n)) (HT n i)))))))))))))) (Z (H 0 i))) n (g.1,
 g.2.1,g.2.2.1,(W,()),())) (aan n))) λ_ _=>Y))
def F99(n:Nat):Fn P5 K18 J:=G99 n n
def k99(n:Nat):OC:=⟨99,⟨P5,K18,J,F99 n⟩,abQ [ajp n,ajo n,ajn n,ajh n,ajg n,ai1 n,ai0 n,aiZ n] (E99 n).sh (E99 n).cj n (n+10) 99⟩
def F45:Nat->L Int×U->O Y4:=
 λn b=>ai (bn (av b.1) 50) (ah (aO (Int×U) (Int×U) (U) (λc=>ai (aC c.1 (av b.1)) (aT (aN c.1 b.1) (ai
 (bn (-1000000000) (bp b.1 (az c.1) 0)) (ai (ak (bn (bp b.1 (az c.1) 0) 1000000000)) (Z (X () c)) (Z (N (aF .i64
 c.1 1,())))) (Z (X () c)))) (Z (H 0 c))) n (0,())) λc=>bD c (λ_ _=>Z ((ak J,()),())) (λ_ e=>Z
 ((ak (bn 0 e.1),()),())) λ_ _=>Y) (Z ((J,()),()))
def k45(n:Nat):OC:=⟨45,⟨P19,K4,J,F45 n⟩,cV [] [(237,0,⟨[(8,dj)],[],[],0⟩)] n 10 45⟩
def F46:asj:=
 λn _=>Z ((aA.mk 3 0,()),())
def k46(n:Nat):OC:=⟨46,⟨[],K20,J,F46 n⟩,cV [] [] n 10 46⟩
def F47:Nat->L Int×U->O Y78:=λn b=>Z (b,())
def C47(n:Nat):bA prog 47 (⟨P19,K21,J,F47 n⟩:lz sg):=Vj [] trivial (WZ []) J n 10 47 P19 K21 (by kernel_rfl) (Eq.trans (by kernel_rfl:_=λb:L Int×U=>IV (isE b.1) (Z (([],()),())) (Z (b,()))) (funext uc))
def k47(n:Nat):OC:=⟨47,⟨P19,K21,J,F47 n⟩,C47 n⟩
def F172:Nat->L bI×U->O ((L bI×U)×U):=λn b=>Z (b,())
def C172(n:Nat):bA prog 172 (⟨P22,K23,J,F172 n⟩:lz sg):=Vj [] trivial (WZ []) J n 10 172 P22 K23 (by kernel_rfl) (Eq.trans (by kernel_rfl:_=λb:L bI×U=>IV (isE b.1) (Z (([],()),())) (Z (b,()))) (funext uc))
def ajl(n:Nat):OC:=⟨172,⟨P22,K23,J,F172 n⟩,C172 n⟩
def F121:Nat->Y7×L (Int×Bool)×Int×bI×U->O (U×Y7×L (Int×Bool)×U):=
 λn b=>ah (F172 n (b.1.1.1,())) λc=>aT (aN b.2.2.1 b.1.1.2.1) (aT (aN (bp b.1.1.2.1 (az b.2.2.1) 0) c.1.1) (aT (eR (az (bp
 b.1.1.2.1 (az b.2.2.1) 0)) c.1.1) (Z ((),((rI c.1.1 (az (bp b.1.1.2.1 (az b.2.2.1) 0)) b.2.2.2.1,b.1.1.2),()),b.2.1,()))))
def ajs(n:Nat):OC:=⟨121,⟨P24,[],J,F121 n⟩,cV [ajl n] [] n 10 121⟩
def z4(b:ali):Int:=
 av b.1.2.2.2.2.2.1
def F251:Nat->ali->O Y10:=
 λn b=>aT (nK (fV 0 (z4 b) (z4 b)) (fU (z4 b) (z4 b))) (aT (dF (cY b.1.2.2.2.2.2.1 0 (z4 b)) b.2.2.2.1) (Z ((),
 ((),b.1.2.1,b.1.2.2.1,b.1.2.2.2.1,b.1.2.2.2.2.1,di (cY b.1.2.2.2.2.2.1 0 (z4 b)) b.2.2.2.1,b.1.2.2.2.2.2.2),b.2.1,b.2.2.1,())))
def uJ(n:Nat):OC:=⟨251,⟨P25,[],J,F251 n⟩,cV [] [] n 10 251⟩
def F252:Y92:=
 λn b=>Z ((aA.mk 1 b.1,()),())
def acg(n:Nat):OC:=⟨252,⟨P26,K20,J,F252 n⟩,cV [] [] n 10 252⟩
def F253:Y66:=
 λn b=>ai b.1 (Z ((aA.mk 2 1,()),())) (Z ((aA.mk 2 0,()),()))
def acf(n:Nat):OC:=⟨253,⟨P27,K20,J,F253 n⟩,cV [] [] n 10 253⟩
def Me(n:Nat)(b:Y9):Y46->O Y10:=
 λc=>ah (F251 n (b.1,b.2.1,b.2.2.1,[c.1.1],())) λd=>Z d
def F173:Y73:=
 λn b=>ai (aa b.1.2.2.2.2.2.2.2.1 1) (ah (F252 n (b.1.2.2.2.2.2.2.2.2.1,())) (Me n b)) (ai (aa b.1.2.2.2.2.2.2.2.1 2) (ah (F253 n
 (aa b.1.2.2.2.2.2.2.2.2.1 1,())) (Me n b)) (ai (aa b.1.2.2.2.2.2.2.2.1 3) (ah (F46 n ()) (Me n b)) (ah (F251 n (b.1,b.2.1,b.2.2.1,
 [aA.mk 4 b.1.2.2.2.2.2.2.2.2.1],())) λc=>Z c)))
def ape(n:Nat):OC:=⟨173,⟨y5,[],J,F173 n⟩,cV [k46 n,uJ n,acg n,acf n] [] n 10 173⟩
def F174:Y73:=
 λn b=>aT (aN b.1.2.2.2.2.2.2.2.2.1 b.1.2.2.2.2.1) (ah (F251 n (b.1,b.2.1,b.2.2.1,[bp b.1.2.2.2.2.1 (az b.1.2.2.2.2.2.2.2.2.1) cB],
 ())) λc=>Z c)
def apd(n:Nat):OC:=⟨174,⟨y5,[],J,F174 n⟩,cV [uJ n] [] n 10 174⟩
def F259:Nat->Bool×Int×U->O Y64:=
 λn b=>ai (ak b.1) (Z (M (Any.a0 (iC.mk J b.2.1),()))) (Z (G ((),())))
def Cl(n:Nat):OC:=⟨259,⟨P29,[],W,F259 n⟩,cV [] [] n 10 259⟩
def F254:Nat->Y6×Y7×L (Int×Bool)×bI×U->O (Rx Y8 Y11):=
 λn b=>ah (F259 n (aC (av b.2.1.1.1) 120,4,())) λc=>cr c (λ_=>aT (nK (fV 0 (av b.2.1.1.1) (av b.2.1.1.1)) (fU (av
 b.2.1.1.1) (av b.2.1.1.1))) (aT (dF (cY b.2.1.1.1 0 (av b.2.1.1.1)) [b.2.2.2.1]) (Z (G ((aA.mk 5 (bF .i64 (av (di (cY
 b.2.1.1.1 0 (av b.2.1.1.1)) [b.2.2.2.1])) 1),()),b.1,((di (cY b.2.1.1.1 0 (av b.2.1.1.1)) [b.2.2.2.1],b.2.1.1.2),()),b.2.2.1,()))))) λ
 d=>Z (M (d.1,b.1,b.2.1,b.2.2.1,()))
def Vy(n:Nat):OC:=⟨254,⟨P30,K20,W,F254 n⟩,cV [Cl n] [] n 10 254⟩
def F175:IX:=
 λn b=>ah (F254 n (b.1,b.2.1,b.2.2.1,bI.mk 2 b.1.2.2.2.2.2.2.2.2.1 b.1.2.2.2.2.1 [],())) λc=>cr c (λd=>ah (F251 n (d.2.1,
 d.2.2.1,d.2.2.2.1,[d.1.1],())) λe=>Z (G e)) λd=>Z (M d)
def apc(n:Nat):OC:=⟨175,⟨y5,[],W,F175 n⟩,cV [uJ n,Vy n] [] n 10 175⟩
def HW(b:Y9):Int:=
 bF .i64 (av b.1.2.2.2.2.2.1) 1
def F260:Nat->Y9->O Y8:=
 λn b=>aT (aN (HW b) b.1.2.2.2.2.2.1) (aT (fV 0 (HW b) (av b.1.2.2.2.2.2.1)) (Z ((bp b.1.2.2.2.2.2.1 (az (HW b))
 cB,()),((),b.1.2.1,b.1.2.2.1,b.1.2.2.2.1,b.1.2.2.2.2.1,cY b.1.2.2.2.2.2.1 0 (HW b),b.1.2.2.2.2.2.2),b.2)))
def Gw(n:Nat):OC:=⟨260,⟨y5,K20,J,F260 n⟩,cV [] [] n 10 260⟩
def F255:Nat->Y9->O Y63:=
 λn b=>ah (F260 n b) λc=>ah (F260 n c.2) λd=>Z ((d.1.1,c.1),d.2)
def Vx(n:Nat):OC:=⟨255,⟨y5,K31,J,F255 n⟩,cV [Gw n] [] n 10 255⟩
def F300:Nat->alX->O (asb×Y6×Y7×L (Int×Bool)×U):=
 λn b=>ai (ak (aa b.2.2.2.1.1 5)) (Z ((bG,J,()),b.1,b.2.1,b.2.2.1,())) (aT (aN b.2.2.2.1.2 b.2.1.1.1) (ai (ak
 (aa (bp b.2.1.1.1 (az b.2.2.2.1.2) bG).1 b.2.2.2.2.1)) (Z ((bG,J,()),b.1,b.2.1,b.2.2.1,())) (aT (aN b.2.2.2.1.2
 b.2.1.1.1) (Z ((bp b.2.1.1.1 (az b.2.2.2.1.2) bG,W,()),b.1,b.2.1,b.2.2.1,())))))
def afH(n:Nat):OC:=⟨300,⟨P32,K33,J,F300 n⟩,cV [] [] n 10 300⟩
def F256:Nat->Y23->O (Y74×Y6×Y7×L (Int×Bool)×U):=
 λn b=>ai (aa b.2.2.2.1.1 4) (aT (aN b.2.2.2.1.2 b.2.1.1.2.2.2.2.2.2.2.1) (Z ((au.mk (bp b.2.1.1.2.2.2.2.2.2.2.1 (az
 b.2.2.2.1.2) 0) [b.2.2.2.2.1] [] J,W,()),b.1,b.2.1,b.2.2.1,()))) (ah (F300 n (b.1,b.2.1,b.2.2.1,b.2.2.2.1,2,())) λc=>ai
 (ak c.1.2.1) (Z ((aS,J,()),c.2)) (aT (nK (fV 0 (av c.1.1.3) (av c.1.1.3)) (fU (av c.1.1.3) (av c.1.1.3))) (aT (dF
 (cY c.1.1.3 0 (av c.1.1.3)) [b.2.2.2.2.1]) (Z ((au.mk c.1.1.2 (di (cY c.1.1.3 0 (av c.1.1.3)) [b.2.2.2.2.1]) [] J,W,()),
 c.2)))))
def afM(n:Nat):OC:=⟨256,⟨P34,K35,J,F256 n⟩,cV [afH n] [] n 10 256⟩
def zZ(b:Y94):Int:=
 bF .i64 (av b.2.2.2.1) 1
def Mc(b:Y94):L au:=
 [au.mk b.1.2.2.2.1 b.1.2.2.2.2.1 b.1.2.2.2.2.2.1 b.1.2.2.2.2.2.2.1]
def HX(b:Y94):au:=
 bp b.2.2.2.1 (az (zZ b)) aS
def F257:Nat->Y94->O (Rx Y10 Y11):=
 λn b=>ah (F259 n (bn (aF .i64 (aF .i64 (av b.1.2.2.1) 1) (av b.2.2.2.1)) 40,4,())) λc=>cr c (λ_=>aT (fV 0 (zZ
 b) (av b.2.2.2.1)) (aT (nK (fV 0 (av b.1.2.2.1) (av b.1.2.2.1)) (fU (av b.1.2.2.1) (av b.1.2.2.1))) (aT (dF (cY b.1.2.2.1 0 (av
 b.1.2.2.1)) (Mc b)) (aT (dF (di (cY b.1.2.2.1 0 (av b.1.2.2.1)) (Mc b)) (cY b.2.2.2.1 0 (zZ b))) (aT (aN (zZ b)
 b.2.2.2.1) (Z (G ((),((),b.1.2.1,di (di (cY b.1.2.2.1 0 (av b.1.2.2.1)) (Mc b)) (cY b.2.2.2.1 0 (zZ b)),(HX b).1,
 (HX b).2,(HX b).3,(HX b).4,b.1.2.2.2.2.2.2.2),b.2.1,b.2.2.1,())))))))) λd=>Z (M (d.1,b.1,b.2.1,b.2.2.1,()))
def ajc(n:Nat):OC:=⟨257,⟨P36,[],W,F257 n⟩,cV [Cl n] [] n 10 257⟩
def F238:Nat->Y22->O (Y22×U):=λn b=>Z (b,())
def C238(n:Nat):bA prog 238 (⟨P37,K38,J,F238 n⟩:lz sg):=Vj [] trivial (WZ []) J n 10 238 P37 K38 (by kernel_rfl) (Eq.trans (by kernel_rfl:_=λb:Y22=>IV (isE b.1) (Z (([],()),())) (Z (b,()))) (funext uc))
def Vz(n:Nat):OC:=⟨238,⟨P37,K38,J,F238 n⟩,C238 n⟩
def F265:Nat->alX->O (Rx ((bI×U)×Y6×Y7×L (Int×Bool)×U) Y11):=
 λn b=>ah (F300 n b) λc=>ah (F259 n (c.1.2.1,2,())) λd=>cr d (λ_=>Z (G ((c.1.1,()),c.2))) λe=>Z (M
 (e.1,c.2))
def Vw(n:Nat):OC:=⟨265,⟨P32,K39,W,F265 n⟩,cV [Cl n,afH n] [] n 10 265⟩
def oS(e:Y22×U):au:=
 bp e.1.1 (az (bF .i64 (av e.1.1) 1)) aS
def F258:Nat->Y23->O (Rx Y24 Y11):=
 λn b=>ah (F265 n (b.1,b.2.1,b.2.2.1,b.2.2.2.1,5,())) λc=>cr c (λd=>ah (F238 n (d.1.1.4,())) λe=>aT (aN (bF .i64
 (av e.1.1) 1) e.1.1) (aT (eR (az (bF .i64 (av e.1.1) 1)) e.1.1) (aT (nK (fV 0 (av (oS e).3) (av (oS e).3)) (fU (av
 (oS e).3) (av (oS e).3))) (aT (dF (cY (oS e).3 0 (av (oS e).3)) [b.2.2.2.2.1]) (aT (eR (az (bF .i64 (av e.1.1) 1))
 e.1.1) (Z (G ((rI e.1.1 (az (bF .i64 (av e.1.1) 1)) (au.mk (oS e).1 (oS e).2 (di (cY (oS e).3 0 (av (oS
 e).3)) [b.2.2.2.2.1]) (oS e).4),()),d.2)))))))) λd=>Z (M d)
def afL(n:Nat):OC:=⟨258,⟨P34,K40,W,F258 n⟩,cV [Vz n,Vw n] [] n 10 258⟩
def F176:IX:=
 λn b=>ah (F255 n b) λc=>ah (F256 n (c.2.1,c.2.2.1,c.2.2.2.1,c.1)) λd=>ai d.1.2.1 (ah (F257 n (d.2.1,d.2.2.1,d.2.2.2.1,[d.1.1],
 ())) λe=>cr e (λg=>Z (G g)) λg=>Z (M g)) (ah (F258 n (d.2.1,d.2.2.1,d.2.2.2.1,c.1)) λe=>cr e (λg=>ah
 (F257 n (g.2.1,g.2.2.1,g.2.2.2.1,g.1)) λh=>cr h (λi=>Z (G i)) λi=>Z (M i)) λg=>Z (M g))
def apb(n:Nat):OC:=⟨176,⟨y5,[],W,F176 n⟩,cV [Vx n,afM n,ajc n,afL n] [] n 10 176⟩
def H8(g:Y24):au:=
 bp g.1.1 (az (bF .i64 (av g.1.1) 1)) aS
def F177:IX:=
 λn b=>ah (F255 n b) λc=>ah (F256 n (c.2.1,c.2.2.1,c.2.2.2.1,c.1)) λd=>ai d.1.2.1 (Z (G ((),((),d.2.1.2.1,d.2.1.2.2.1,
 d.1.1.1,d.1.1.2,d.1.1.3,d.2.1.2.2.2.2.2.2),d.2.2))) (ah (F258 n (d.2.1,d.2.2.1,d.2.2.2.1,c.1)) λe=>cr e (λg=>ah (F259 n (bn
 (aF .i64 (av g.2.1.2.2.1) (av g.1.1)) 40,4,())) λh=>cr h (λ_=>aT (fV 0 (bF .i64 (av g.1.1) 1) (av g.1.1)) (aT (nK
 (fV 0 (av g.2.1.2.2.1) (av g.2.1.2.2.1)) (fU (av g.2.1.2.2.1) (av g.2.1.2.2.1))) (aT (dF (cY g.2.1.2.2.1 0 (av g.2.1.2.2.1)) (cY
 g.1.1 0 (bF .i64 (av g.1.1) 1))) (aT (aN (bF .i64 (av g.1.1) 1) g.1.1) (Z (G ((),((),g.2.1.2.1,di (cY g.2.1.2.2.1 0 (av
 g.2.1.2.2.1)) (cY g.1.1 0 (bF .i64 (av g.1.1) 1)),(H8 g).1,(H8 g).2,(H8 g).3,(H8 g).4,g.2.1.2.2.2.2.2.2.2),g.2.2)))))))
 λi=>Z (M (i.1,g.2))) λg=>Z (M g))
def apa(n:Nat):OC:=⟨177,⟨y5,[],W,F177 n⟩,cV [Vx n,afM n,afL n,Cl n] [] n 10 177⟩
def Aa(c:Y8):Int:=
 av c.2.1.2.2.2.2.1
def F178:Y73:=
 λn b=>ah (F260 n b) λc=>aT (nK (fV 0 (Aa c) (Aa c)) (fU (Aa c) (Aa c))) (aT (dF (cY c.2.1.2.2.2.2.1 0 (Aa c))
 [c.1.1]) (Z ((),((),c.2.1.2.1,c.2.1.2.2.1,c.2.1.2.2.2.1,di (cY c.2.1.2.2.2.2.1 0 (Aa c)) [c.1.1],c.2.1.2.2.2.2.2),c.2.2)))
def ao9(n:Nat):OC:=⟨178,⟨y5,[],J,F178 n⟩,cV [Gw n] [] n 10 178⟩
def F179:Y73:=
 λn b=>aT (fV 0 (bF .i64 (av b.1.2.2.2.2.1) b.1.2.2.2.2.2.2.2.2.1) (av b.1.2.2.2.2.1)) (Z ((),((),b.1.2.1,b.1.2.2.1,b.1.2.2.2.1,
 cY b.1.2.2.2.2.1 0 (bF .i64 (av b.1.2.2.2.2.1) b.1.2.2.2.2.2.2.2.2.1),b.1.2.2.2.2.2),b.2))
def ao8(n:Nat):OC:=⟨179,⟨y5,[],J,F179 n⟩,cV [] [] n 10 179⟩
def F180:Y73:=
 λn b=>Z ((),((),b.1.2.1,b.1.2.2.1,b.1.2.2.2.2.2.2.2.2.1,b.1.2.2.2.2),b.2)
def ao7(n:Nat):OC:=⟨180,⟨y5,[],J,F180 n⟩,cV [] [] n 10 180⟩
def F181:IX:=
 λn b=>ah (F260 n b) λc=>ah (F259 n (aa c.1.1.1 2,2,())) λd=>cr d (λ_=>ai (aa c.1.1.2 0) (Z (G ((),((),
 c.2.1.2.1,c.2.1.2.2.1,c.2.1.2.2.2.2.2.2.2.2.1,c.2.1.2.2.2.2),c.2.2))) (Z (G ((),c.2)))) λe=>Z (M (e.1,c.2))
def ao6(n:Nat):OC:=⟨181,⟨y5,[],W,F181 n⟩,cV [Cl n,Gw n] [] n 10 181⟩
def Sr(n:Nat)(c:Y63):Y64->O (Rx Y65 Y11):=
 λd=>cr d (λ_=>Z (G ((c.1.1.2,c.1.2.1.2,()),c.2))) λe=>Z (M (e.1,c.2))
def F262:Nat->Y9->O (Rx Y65 Y11):=
 λn b=>ah (F255 n b) λc=>ai (aa c.1.1.1 1) (ah (F259 n (aa c.1.2.1.1 1,2,())) (Sr n c)) (ah (F259 n (J,2,())) (Sr n
 c))
def ajb(n:Nat):OC:=⟨262,⟨y5,K16,W,F262 n⟩,cV [Vx n,Cl n] [] n 10 262⟩
def rB(n:Nat)(d:Y65)(g:Int×Bool×U):alJ:=
 λh=>cr h (λ_=>ah (F252 n (g.1,())) λj=>ah (F251 n (d.2.1,d.2.2.1,d.2.2.2.1,[j.1.1],())) λk=>Z (G k)) λi=>Z
 (M (i.1,d.2))
def F182:IX:=
 λn b=>ah (F262 n b) λc=>cr c (λd=>ah (ai (aa d.2.1.2.2.2.2.2.2.2.1 13) (Z (N (aF .i64 d.1.1 d.1.2.1,W,())))
 (ah (ai (aa d.2.1.2.2.2.2.2.2.2.1 14) (Z (N (bF .i64 d.1.1 d.1.2.1,W,()))) (Z (N (Kl .i64 d.1.1 d.1.2.1,J,
 ())))) λ(e:Y54)=>cM e (λg=>Z (N (g.1,J,()))) (λ_ _=>Y) (λ_ _=>Z (X () ())) λ_ h=>Z (LO.iE
 () h))) λ(e:Y54)=>cM e (λg=>ai (bn (-1000000000) g.1) (ah (F259 n (bn g.1 1000000000,4,())) (rB n d g)) (ah (F259 n
 (J,4,())) (rB n d g))) (λ_ _=>Y) (λ_ _=>Z (G ((),d.2))) λ_ h=>Z (M (h,d.2))) λd=>Z (M d)
def ao5(n:Nat):OC:=⟨182,⟨y5,[],W,F182 n⟩,cV [uJ n,acg n,Cl n,ajb n] [(182,1000005,⟨[(4,dj),(18,dQ)],[],[],0⟩),(182,1000007,⟨[(4,dj),(23,dQ)],[],[],0⟩)] n 10 182⟩
def F183:IX:=
 λn b=>ah (F262 n b) λc=>cr c (λd=>ah (F253 n (aC d.1.1 d.1.2.1,())) λe=>ah (F251 n (d.2.1,d.2.2.1,d.2.2.2.1,[e.1.1],
 ())) λg=>Z (G g)) λd=>Z (M d)
def ao4(n:Nat):OC:=⟨183,⟨y5,[],W,F183 n⟩,cV [uJ n,acf n,ajb n] [] n 10 183⟩
def H7(n:Nat)(c:Y63):alJ:=
 λd=>cr d (λ_=>ah (F253 n (aa c.1.1.2 c.1.2.1.2,())) λg=>ah (F251 n (c.2.1,c.2.2.1,c.2.2.2.1,[g.1.1],())) λh=>Z
 (G h)) λe=>Z (M (e.1,c.2))
def F184:IX:=
 λn b=>ah (F255 n b) λc=>ai (aa c.1.1.1 c.1.2.1.1) (ai (aa c.1.1.1 1) (ah (F259 n (W,2,())) (H7 n c)) (ai (aa c.1.1.1
 2) (ah (F259 n (W,2,())) (H7 n c)) (ah (F259 n (aa c.1.1.1 3,2,())) (H7 n c)))) (ah (F259 n (J,2,())) (H7 n c))
def ao3(n:Nat):OC:=⟨184,⟨y5,[],W,F184 n⟩,cV [uJ n,acf n,Vx n,Cl n] [] n 10 184⟩
def F239:Nat->L aA×U->O Y57:=λn b=>Z (b,())
def C239(n:Nat):bA prog 239 (⟨P41,K42,J,F239 n⟩:lz sg):=Vj [] trivial (WZ []) J n 10 239 P41 K42 (by kernel_rfl) (Eq.trans (by kernel_rfl:_=λb:L aA×U=>IV (isE b.1) (Z (([],()),())) (Z (b,()))) (funext uc))
def Yn(n:Nat):OC:=⟨239,⟨P41,K42,J,F239 n⟩,C239 n⟩
def CX(b:Y9):Int:=
 av b.1.2.2.2.2.2.1
def H6(b:Y9):Int:=
 bF .i64 (CX b) (bp b.2.1.1.2.2.2.2.2.2.2.2.2.1 (az b.1.2.2.2.2.2.2.2.2.1) bf).2
def F185:IX:=
 λn b=>aT (aN b.1.2.2.2.2.2.2.2.2.1 b.2.1.1.2.2.2.2.2.2.2.2.2.1) (aT (fV (H6 b) (CX b) (CX b)) (ah (F239 n (cY b.1.2.2.2.2.2.1
 (H6 b) (CX b),())) λc=>aT (fV 0 (H6 b) (CX b)) (ah (F254 n (((),b.1.2.1,b.1.2.2.1,b.1.2.2.2.1,b.1.2.2.2.2.1,cY
 b.1.2.2.2.2.2.1 0 (H6 b),b.1.2.2.2.2.2.2),b.2.1,b.2.2.1,bI.mk 1 b.1.2.2.2.2.2.2.2.2.1 c.1.1 [],())) λd=>cr d (λe=>ah (F251 n
 (e.2.1,e.2.2.1,e.2.2.2.1,[e.1.1],())) λg=>Z (G g)) λe=>Z (M e))))
def ao2(n:Nat):OC:=⟨185,⟨y5,[],W,F185 n⟩,cV [Yn n,uJ n,Vy n] [] n 10 185⟩
abbrev Xv(F:Fn P43 K44 J):lz sg:=⟨P43,K44,J,F⟩
def xz(c:Wh):Y9:=
 (c.1,c.2.1,c.2.2.1,())
def De(n:Nat)(f263:Wh->adA)(c:Wh):Y46->adA:=
 λd=>Z (([],cm (aa c.2.2.2.2.1.1 d.1.1.1) (cm (aa c.2.2.2.2.1.2 d.1.1.2) W),()),xz c)
def Ic(c:Wh)(e:alh):aD:=
 bp c.2.2.2.1.4 (az e.2.1) aL
def B263:Nat->(Wh->adA)->Wh->adA:=
 λn f263 c=>ai (aa c.2.2.2.1.1 1) (Z (([],W,()),xz c)) (ai (aa c.2.2.2.1.1 2) (Z (([c.2.2.2.2.1],W,()),xz c))
 (ai (aa c.2.2.2.1.1 3) (ah (F252 n (c.2.2.2.1.2,())) (De n f263 c)) (ai (aa c.2.2.2.1.1 4) (ah (F253 n (aa c.2.2.2.1.2 1,()))
 (De n f263 c)) (ai (aa c.2.2.2.1.1 5) (ah (F46 n ()) (De n f263 c)) (ah (F300 n (c.1,c.2.1,c.2.2.1,c.2.2.2.2.1,1,())) λd=>ai
 (ak d.1.2.1) (Z (([],J,()),d.2)) (ai (ak (aa d.1.1.2 c.2.2.2.1.2)) (Z (([],J,()),d.2)) (ah (aO (alh) (ahi) (Y9) (λe=>ai (aC e.2.1 (av c.2.2.2.1.4)) (aT (aN e.2.1 c.2.2.2.1.4) (aT (aN e.2.1 d.1.1.3) (ah (f263 (e.2.2.1,e.2.2.2.1,
 e.2.2.2.2.1,aD.mk (Ic c e).1 (Ic c e).2 (Ic c e).3 (Ic c e).4,bp d.1.1.3 (az e.2.1) cB,())) λg=>ai (ak
 g.1.2.1) (Z (X g.2 ([],J,()))) (aT (dF e.1 g.1.1) (Z (N (di e.1 g.1.1,aF .i64 e.2.1 1,g.2))))))) (Z (H 0 e)))
 n ([],0,d.2)) λe=>bD e (λ_ h=>Z ((h.1,W,()),h.2.2)) (λg h=>Z (h,g)) λ_ _=>Y)))))))
def D263(n:Nat)(f263:Fn P43 K44 J)(a:bA prog 263 (Xv f263)):bA prog 263 (Xv (B263 n f263)):=cV [k46 n,acg n,acf n,⟨263,Xv f263,a⟩,afH n] [(263,1,⟨[(10,.one (.own (.st 4))),(61,dj),(0,b3z),(0,b1z),(0,w9)],[.slot 0,.cell (.slot 0) 0,.cell (.cell (.slot 0) 0) 11],[],0⟩)] n 10 263
def R263(n k:Nat):(Fn P43 K44 J):=Nat.rec (motive:=λ_=>(Fn P43 K44 J)) (λ_=>Y) (λ_ r=>B263 n r) k
def F263(n:Nat):Fn P43 K44 J:=(R263 n n)
def aeV(n:Nat):∀k,bA prog 263 (Xv (R263 n k))
 |0=>ck (enters 263 (by kernel_rfl))
 |k+1=>have a:=aeV n k
  D263 n _ a
def aow(n:Nat):OC:=⟨263,Xv (F263 n),(aeV n n)⟩
def CW(d:Y8):Int:=
 av d.2.1.2.2.2.2.1
def F186:Y73:=
 λn b=>aT (aN (bF .i64 (av b.1.2.2.2.2.2.1) 1) b.1.2.2.2.2.2.1) (aT (aN b.1.2.2.2.2.2.2.2.2.1 b.2.1.1.2.2.2.2.2.2.1) (ah (F263 n (b.1,
 b.2.1,b.2.2.1,bp b.2.1.1.2.2.2.2.2.2.1 (az b.1.2.2.2.2.2.2.2.2.1) aL,bp b.1.2.2.2.2.2.1 (az (bF .i64 (av b.1.2.2.2.2.2.1) 1))
 cB,())) λc=>ai (ak c.1.2.1) (Z ((),((),c.2.1.2.1,c.2.1.2.2.1,c.2.1.2.2.2.2.2.2.2.2.2.1,c.2.1.2.2.2.2),c.2.2)) (ah (F260 n
 c.2) λd=>aT (nK (fV 0 (CW d) (CW d)) (fU (CW d) (CW d))) (aT (dF (cY d.2.1.2.2.2.2.1 0 (CW d)) c.1.1) (Z ((),
 ((),d.2.1.2.1,d.2.1.2.2.1,d.2.1.2.2.2.1,di (cY d.2.1.2.2.2.2.1 0 (CW d)) c.1.1,d.2.1.2.2.2.2.2),d.2.2))))))
def ao1(n:Nat):OC:=⟨186,⟨y5,[],J,F186 n⟩,cV [Gw n,aow n] [] n 10 186⟩
def F187:IX:=
 λn b=>ah (F259 n (J,3,())) λc=>cr c (λ_=>Z (G ((),b))) λd=>Z (M (d.1,b))
def ao0(n:Nat):OC:=⟨187,⟨y5,[],W,F187 n⟩,cV [Cl n] [] n 10 187⟩
def F301:asl:=
 λn b=>ai (aa b.1.1 4) (Z ((aA.mk 5 0,()),())) (ai (aa b.1.1 5) (Z ((aA.mk 5 0,()),())) (Z (b,())))
def Ej(n:Nat):OC:=⟨301,⟨P45,K20,J,F301 n⟩,cV [] [] n 10 301⟩
def F188:IX:=
 λn b=>ah (F260 n b) λc=>ah (F254 n (c.2.1,c.2.2.1,c.2.2.2.1,bI.mk 3 0 [c.1.1] [],())) λd=>cr d (λe=>ah (F251 n
 (e.2.1,e.2.2.1,e.2.2.2.1,[e.1.1],())) λg=>ah (F301 n c.1) λh=>Z (G ((),((),g.2.1.2.1,g.2.1.2.2.1,g.2.1.2.2.2.1,
 g.2.1.2.2.2.2.1,g.2.1.2.2.2.2.2.1,g.2.1.2.2.2.2.2.2.1,g.2.1.2.2.2.2.2.2.2.1,g.2.1.2.2.2.2.2.2.2.2.1,g.2.1.2.2.2.2.2.2.2.2.2.1,Z (aM.mk
 g.2.1.2.1 16 0 h.1.1),()),g.2.2))) λe=>Z (M e)
def aoZ(n:Nat):OC:=⟨188,⟨y5,[],W,F188 n⟩,cV [uJ n,Vy n,Gw n,Ej n] [] n 10 188⟩
def F189:IX:=
 λn b=>ah (F260 n b) λc=>ah (F265 n (c.2.1,c.2.2.1,c.2.2.2.1,c.1.1,3,())) λd=>cr d (λe=>aT (aN 0 e.1.1.3) (ah (F251 n
 (e.2.1,e.2.2.1,e.2.2.2.1,[bp e.1.1.3 (az 0) cB],())) λg=>ah (F301 n (bp e.1.1.3 (az 0) cB,())) λh=>Z (G ((),
 ((),g.2.1.2.1,g.2.1.2.2.1,g.2.1.2.2.2.1,g.2.1.2.2.2.2.1,g.2.1.2.2.2.2.2.1,g.2.1.2.2.2.2.2.2.1,g.2.1.2.2.2.2.2.2.2.1,g.2.1.2.2.2.2.2.2.2.2.1,
 g.2.1.2.2.2.2.2.2.2.2.2.1,Z (aM.mk g.2.1.2.1 17 0 h.1.1),()),g.2.2)))) λe=>Z (M e)
def aoY(n:Nat):OC:=⟨189,⟨y5,[],W,F189 n⟩,cV [uJ n,Gw n,Vw n,Ej n] [] n 10 189⟩
def F266:Nat->Y6×Y7×L (Int×Bool)×Int×bI×U->O Y10:=
 λn b=>ah (F172 n (b.2.1.1.1,())) λc=>aT (aN b.2.2.2.1 c.1.1) (aT (eR (az b.2.2.2.1) c.1.1) (Z ((),b.1,((rI c.1.1 (az
 b.2.2.2.1) b.2.2.2.2.1,b.2.1.1.2),()),b.2.2.1,())))
def afK(n:Nat):OC:=⟨266,⟨P46,[],J,F266 n⟩,cV [ajl n] [] n 10 266⟩
def F190:IX:=
 λn b=>ah (F255 n b) λc=>ah (F265 n (c.2.1,c.2.2.1,c.2.2.2.1,c.1.1,3,())) λd=>cr d (λe=>ah (F266 n (e.2.1,e.2.2.1,
 e.2.2.2.1,c.1.1.2,bI.mk 3 0 [c.1.2.1] [],())) λg=>ah (F46 n ()) λh=>ah (F251 n (g.2.1,g.2.2.1,g.2.2.2.1,[h.1.1],())) λi=>
 ah (F301 n c.1.2) λj=>Z (G ((),((),i.2.1.2.1,i.2.1.2.2.1,i.2.1.2.2.2.1,i.2.1.2.2.2.2.1,i.2.1.2.2.2.2.2.1,i.2.1.2.2.2.2.2.2.1,
 i.2.1.2.2.2.2.2.2.2.1,i.2.1.2.2.2.2.2.2.2.2.1,i.2.1.2.2.2.2.2.2.2.2.2.1,Z (aM.mk i.2.1.2.1 18 0 j.1.1),()),i.2.2))) λe=>Z
 (M e)
def aoX(n:Nat):OC:=⟨190,⟨y5,[],W,F190 n⟩,cV [k46 n,uJ n,Vx n,Vw n,afK n,Ej n] [] n 10 190⟩
def z9(j:Y8):Int:=
 av j.2.2.1.1.2.1
def F191:IX:=
 λn b=>ah (F260 n b) λc=>ah (F46 n ()) λd=>ah (F256 n (c.2.1,c.2.2.1,c.2.2.2.1,c.1.1,d.1)) λe=>ah (ai e.1.2.1 (Z
 (N (W,e.2.1,e.2.2.1,e.2.2.2.1,(6,0,[],[e.1.1],()),()))) (ah (F46 n ()) λg=>ah (F258 n (e.2.1,e.2.2.1,e.2.2.2.1,c.1.1,g.1))
 λh=>cr h (λi=>Z (N (J,i.2.1,i.2.2.1,i.2.2.2.1,(6,0,[],i.1),()))) λi=>Z (LO.iE (i.2.1,i.2.2.1,i.2.2.2.1,
 (6,0,[],[],()),()) i.1))) λ(g:LO (Bool×Y6×Y7×L (Int×Bool)×LS×U) U (Y6×Y7×L (Int×Bool)×LS×U) Any)=>
 cM g (λh=>ah (F254 n (h.2.1,h.2.2.1,h.2.2.2.1,bI.mk h.2.2.2.2.1.1 h.2.2.2.2.1.2.1 [] h.2.2.2.2.1.2.2.2.1,())) λi=>cr i (λj
 =>aT (nK (fV 0 (z9 j) (z9 j)) (fU (z9 j) (z9 j))) (aT (dF (cY j.2.2.1.1.2.1 0 (z9 j)) [j.1.1.2]) (ah (F251 n (j.2.1,
 ((j.2.2.1.1.1,di (cY j.2.2.1.1.2.1 0 (z9 j)) [j.1.1.2],j.2.2.1.1.2.2),()),j.2.2.2.1,[j.1.1],())) λk=>ah (F46 n ()) λl=>ah
 (F301 n l.1) λm=>Z (G ((),((),k.2.1.2.1,k.2.1.2.2.1,k.2.1.2.2.2.1,k.2.1.2.2.2.2.1,k.2.1.2.2.2.2.2.1,k.2.1.2.2.2.2.2.2.1,
 k.2.1.2.2.2.2.2.2.2.1,k.2.1.2.2.2.2.2.2.2.2.1,k.2.1.2.2.2.2.2.2.2.2.2.1,Z (aM.mk k.2.1.2.1 19 0 m.1.1),()),k.2.2))))) λj=>Z
 (M j)) (λ_ _=>Y) (λh _=>Z (G ((),h.1,h.2.1,h.2.2.1,()))) λh i=>Z (M (i,h.1,h.2.1,h.2.2.1,()))
def aoW(n:Nat):OC:=⟨191,⟨y5,[],W,F191 n⟩,cV [k46 n,uJ n,Vy n,afM n,afL n,Gw n,Ej n] [(191,1000004,⟨[(17,dQ),(0,b3z),(0,b1z),(0,w9),(0,arQ)],[.slot 0,.cell (.slot 0) 0,.cell (.cell (.slot 0) 0) 11,.slot 3],[],0⟩)] n 10 191⟩
def F268:Nat->Bool×U->O Y64:=
 λn b=>ai (ak b.1) (Z (M (Any.a0 (iC.mk W 0),()))) (Z (G ((),())))
def ace(n:Nat):OC:=⟨268,⟨P27,[],W,F268 n⟩,cV [] [] n 10 268⟩
def F192:IX:=
 λn b=>ah (F260 n b) λc=>ah (F265 n (c.2.1,c.2.2.1,c.2.2.2.1,c.1.1,6,())) λd=>cr d (λe=>ah (F268 n (ak (aa e.1.1.2
 0),())) λg=>cr g (λ_=>ah (F259 n (aa e.1.1.2 1,e.1.1.2,())) λi=>cr i (λ_=>aT (aN 0 e.1.1.3) (ah (F251 n (e.2.1,
 e.2.2.1,e.2.2.2.1,[bp e.1.1.3 (az 0) cB],())) λk=>aT (aN 0 e.1.1.3) (ah (F301 n (bp e.1.1.3 (az 0) cB,())) λl=>Z
 (G ((),((),k.2.1.2.1,k.2.1.2.2.1,k.2.1.2.2.2.1,k.2.1.2.2.2.2.1,k.2.1.2.2.2.2.2.1,k.2.1.2.2.2.2.2.2.1,k.2.1.2.2.2.2.2.2.2.1,
 k.2.1.2.2.2.2.2.2.2.2.1,k.2.1.2.2.2.2.2.2.2.2.2.1,Z (aM.mk k.2.1.2.1 20 0 l.1.1),()),k.2.2))))) λj=>Z (M (j.1,e.2))) λh
 =>Z (M (h.1,e.2))) λe=>Z (M e)
def aoV(n:Nat):OC:=⟨192,⟨y5,[],W,F192 n⟩,cV [uJ n,Cl n,Gw n,Vw n,ace n,Ej n] [] n 10 192⟩
def F193:IX:=
 λn b=>ah (F254 n (b.1,b.2.1,b.2.2.1,bI.mk 4 0 [] [],())) λc=>cr c (λd=>ah (F251 n (d.2.1,d.2.2.1,d.2.2.2.1,[d.1.1],()))
 λe=>ah (F46 n ()) λg=>ah (F301 n g.1) λh=>Z (G ((),((),e.2.1.2.1,e.2.1.2.2.1,e.2.1.2.2.2.1,e.2.1.2.2.2.2.1,
 e.2.1.2.2.2.2.2.1,e.2.1.2.2.2.2.2.2.1,e.2.1.2.2.2.2.2.2.2.1,e.2.1.2.2.2.2.2.2.2.2.1,e.2.1.2.2.2.2.2.2.2.2.2.1,Z (aM.mk e.2.1.2.1 21 0
 h.1.1),()),e.2.2))) λd=>Z (M d)
def aoU(n:Nat):OC:=⟨193,⟨y5,[],W,F193 n⟩,cV [k46 n,uJ n,Vy n,Ej n] [] n 10 193⟩
def F194:IX:=
 λn b=>ah (F255 n b) λc=>ah (F265 n (c.2.1,c.2.2.1,c.2.2.2.1,c.1.1,4,())) λd=>cr d (λe=>ah (F268 n (aC (av e.1.1.3)
 4,())) λg=>cr g (λ_=>aT (nK (fV 0 (av e.1.1.3) (av e.1.1.3)) (fU (av e.1.1.3) (av e.1.1.3))) (aT (dF (cY e.1.1.3 0
 (av e.1.1.3)) [c.1.2.1]) (ah (F266 n (e.2.1,e.2.2.1,e.2.2.2.1,c.1.1.2,bI.mk e.1.1.1 e.1.1.2 (di (cY e.1.1.3 0 (av e.1.1.3)) [c.1.2.1])
 e.1.1.4,())) λi=>ah (F46 n ()) λj=>ah (F251 n (i.2.1,i.2.2.1,i.2.2.2.1,[j.1.1],())) λk=>ah (F301 n c.1.2) λl=>Z (G
 ((),((),k.2.1.2.1,k.2.1.2.2.1,k.2.1.2.2.2.1,k.2.1.2.2.2.2.1,k.2.1.2.2.2.2.2.1,k.2.1.2.2.2.2.2.2.1,k.2.1.2.2.2.2.2.2.2.1,
 k.2.1.2.2.2.2.2.2.2.2.1,k.2.1.2.2.2.2.2.2.2.2.2.1,Z (aM.mk k.2.1.2.1 22 0 l.1.1),()),k.2.2))))) λh=>Z (M (h.1,e.2))) λe
 =>Z (M e)
def aoT(n:Nat):OC:=⟨194,⟨y5,[],W,F194 n⟩,cV [k46 n,uJ n,Vx n,Vw n,afK n,ace n,Ej n] [] n 10 194⟩
def F195:IX:=
 λn b=>ah (F260 n b) λc=>ah (F265 n (c.2.1,c.2.2.1,c.2.2.2.1,c.1.1,4,())) λd=>cr d (λe=>ah (F268 n (aC 0 (av
 e.1.1.3),())) λg=>cr g (λ_=>aT (aN 0 e.1.1.3) (aT (fV 1 (av e.1.1.3) (av e.1.1.3)) (ah (F266 n (e.2.1,e.2.2.1,e.2.2.2.1,
 c.1.1.2,bI.mk e.1.1.1 e.1.1.2 (cY e.1.1.3 1 (av e.1.1.3)) e.1.1.4,())) λi=>ah (F251 n (i.2.1,i.2.2.1,i.2.2.2.1,[bp e.1.1.3 (az 0)
 cB],())) λj=>ah (F301 n (bp e.1.1.3 (az 0) cB,())) λk=>Z (G ((),((),j.2.1.2.1,j.2.1.2.2.1,j.2.1.2.2.2.1,
 j.2.1.2.2.2.2.1,j.2.1.2.2.2.2.2.1,j.2.1.2.2.2.2.2.2.1,j.2.1.2.2.2.2.2.2.2.1,j.2.1.2.2.2.2.2.2.2.2.1,j.2.1.2.2.2.2.2.2.2.2.2.1,Z (aM.mk
 j.2.1.2.1 23 0 k.1.1),()),j.2.2))))) λh=>Z (M (h.1,e.2))) λe=>Z (M e)
def aoS(n:Nat):OC:=⟨195,⟨y5,[],W,F195 n⟩,cV [uJ n,Gw n,Vw n,afK n,ace n,Ej n] [] n 10 195⟩
def xo(c:Y8):Int:=
 av c.2.2.1.1.2.2.1
def F196:IX:=
 λn b=>ah (F260 n b) λc=>ah (F259 n (aa c.1.1.1 1,2,())) λd=>cr d (λ_=>ah (F259 n (aC (xo c) 100,4,())) λg=>
 cr g (λ_=>aT (nK (fV 0 (xo c) (xo c)) (fU (xo c) (xo c))) (aT (dF (cY c.2.2.1.1.2.2.1 0 (xo c)) [ei.mk
 c.2.1.2.2.2.2.2.2.2.2.1 c.1.1.2]) (ah (F46 n ()) λi=>ah (F251 n (c.2.1,((c.2.2.1.1.1,c.2.2.1.1.2.1,di (cY c.2.2.1.1.2.2.1 0 (xo c))
 [ei.mk c.2.1.2.2.2.2.2.2.2.2.1 c.1.1.2],c.2.2.1.1.2.2.2),()),c.2.2.2.1,[i.1.1],())) λj=>ah (F301 n c.1) λk=>Z (G ((),((),
 j.2.1.2.1,j.2.1.2.2.1,j.2.1.2.2.2.1,j.2.1.2.2.2.2.1,j.2.1.2.2.2.2.2.1,j.2.1.2.2.2.2.2.2.1,j.2.1.2.2.2.2.2.2.2.1,j.2.1.2.2.2.2.2.2.2.2.1,
 j.2.1.2.2.2.2.2.2.2.2.2.1,Z (aM.mk j.2.1.2.1 24 j.2.1.2.2.2.2.2.2.2.2.1 k.1.1),()),j.2.2))))) λh=>Z (M (h.1,c.2))) λe=>
 Z (M (e.1,c.2))
def aoR(n:Nat):OC:=⟨196,⟨y5,[],W,F196 n⟩,cV [k46 n,uJ n,Cl n,Gw n,Ej n] [] n 10 196⟩
def HZ(b:Y9):Int:=
 av b.2.1.1.2.2.2.1
def F197:IX:=
 λn b=>ah (F268 n (aC 0 (HZ b),())) λc=>cr c (λ_=>ah (F259 n (aC b.2.1.1.2.2.2.2.1 1000000000,4,())) λe=>cr e
 (λ_=>aT (aN 0 b.2.1.1.2.2.2.1) (ah (F252 n (bp b.2.1.1.2.2.2.1 (az 0) 0,())) λh=>aT (fV 1 (HZ b) (HZ b)) (ah (F251 n
 (b.1,((b.2.1.1.1,b.2.1.1.2.1,b.2.1.1.2.2.1,cY b.2.1.1.2.2.2.1 1 (HZ b),aF .i64 b.2.1.1.2.2.2.2.1 1,b.2.1.1.2.2.2.2.2),()),b.2.2.1,
 [h.1.1],())) λi=>ah (F301 n h.1) λj=>Z (G ((),((),i.2.1.2.1,i.2.1.2.2.1,i.2.1.2.2.2.1,i.2.1.2.2.2.2.1,i.2.1.2.2.2.2.2.1,
 i.2.1.2.2.2.2.2.2.1,i.2.1.2.2.2.2.2.2.2.1,i.2.1.2.2.2.2.2.2.2.2.1,i.2.1.2.2.2.2.2.2.2.2.2.1,Z (aM.mk i.2.1.2.1 25 0 j.1.1),()),
 i.2.2))))) λg=>Z (M (g.1,b))) λd=>Z (M (d.1,b))
def aoQ(n:Nat):OC:=⟨197,⟨y5,[],W,F197 n⟩,cV [uJ n,acg n,Cl n,ace n,Ej n] [] n 10 197⟩
def F198:IX:=
 λn b=>ah (F257 n (b.1,b.2.1,b.2.2.1,[au.mk b.1.2.2.2.2.2.2.2.2.1 b.1.2.2.2.2.1 [] W],())) λc=>cr c (λd=>Z (G d))
 λd=>Z (M d)
def aoP(n:Nat):OC:=⟨198,⟨y5,[],W,F198 n⟩,cV [ajc n] [] n 10 198⟩
def CV(b:Y9):L au:=
 [au.mk b.1.2.2.2.1 b.1.2.2.2.2.1 b.1.2.2.2.2.2.1 b.1.2.2.2.2.2.2.1]
def oU(b:Y9):L au:=
 di (cY b.1.2.2.1 0 (av b.1.2.2.1)) (CV b)
def z8(k:Y8):Int:=
 av k.2.1.2.2.2.2.1
def F199:IX:=
 λn b=>aT (nK (fV 0 (av b.1.2.2.1) (av b.1.2.2.1)) (fU (av b.1.2.2.1) (av b.1.2.2.1))) (aT (dF (cY b.1.2.2.1 0 (av b.1.2.2.1))
 (CV b)) (ah (aO (Int×Int×U) (U) (U) (λc=>ai (bn 0 c.2.1) (aT (aN c.2.1 (oU b)) (aT (eR (az c.2.1)
 (oU b)) (ai (bp (oU b) (az c.2.1) aS).4 (Z (H 0 (c.2.1,c.2))) (Z (N (c.1,bF .i64 c.2.1 1,())))))) (Z
 (H 0 c))) n ((-1),bF .i64 (av (oU b)) 1,())) λc=>bD c (λ_ e=>ah (F259 n (bn 0 e.1,3,())) λg=>cr g (λ_=>
 aT (fV e.1 (av (oU b)) (av (oU b))) (ah (F238 n (cY (oU b) e.1 (av (oU b)),())) λi=>ah (F254 n (b.1,b.2.1,b.2.2.1,
 bI.mk 5 0 [] i.1.1,())) λj=>cr j (λk=>aT (fV 0 e.1 (av (oU b))) (aT (nK (fV 0 (z8 k) (z8 k)) (fU (z8 k)
 (z8 k))) (aT (dF (cY k.2.1.2.2.2.2.1 0 (z8 k)) [k.1.1]) (Z (G ((),((),k.2.1.2.1,cY (oU b) 0 e.1,k.2.1.2.2.2.2.2.2.2.2.1,
 di (cY k.2.1.2.2.2.2.1 0 (z8 k)) [k.1.1],[],W,k.2.1.2.2.2.2.2.2.2),k.2.2)))))) λk=>Z (M k))) λh=>Z (M (h.1,
 b))) (λ_ _=>Z (G ((),b))) λ_ e=>Z (M (e,b))))
def aoO(n:Nat):OC:=⟨199,⟨y5,[],W,F199 n⟩,cV [Vz n,Vy n,Cl n] [(199,0,⟨[(3,dj),(4,dj)],[],[],0⟩)] n 10 199⟩
def F200:Y73:=
 λn b=>ah (F46 n ()) λc=>ah (F251 n (b.1,b.2.1,b.2.2.1,[c.1.1],())) λd=>ah (F46 n ()) λe=>ah (F301 n e.1) λg=>Z ((),
 ((),d.2.1.2.1,d.2.1.2.2.1,d.2.1.2.2.2.1,d.2.1.2.2.2.2.1,d.2.1.2.2.2.2.2.1,d.2.1.2.2.2.2.2.2.1,d.2.1.2.2.2.2.2.2.2.1,d.2.1.2.2.2.2.2.2.2.2.1,
 d.2.1.2.2.2.2.2.2.2.2.2.1,Z (aM.mk d.2.1.2.1 28 0 g.1.1),()),d.2.2)
def aoN(n:Nat):OC:=⟨200,⟨y5,[],J,F200 n⟩,cV [k46 n,uJ n,Ej n] [] n 10 200⟩
def z7(c:Y8):Int:=
 bF .i64 (av c.2.1.2.2.1) 1
def HY(c:Y8):au:=
 bp c.2.1.2.2.1 (az (z7 c)) aS
def F201:Y73:=
 λn b=>ah (F260 n b) λc=>ai (aC (z7 c) 0) (ah (F301 n c.1) λd=>ah (F121 n (c.2.2.1,c.2.2.2.1,c.2.1.2.1,bI.mk 6 1
 [c.1.1] [],())) λe=>Z ((),((),c.2.1.2.1,c.2.1.2.2.1,c.2.1.2.2.2.1,c.2.1.2.2.2.2.1,c.2.1.2.2.2.2.2.1,c.2.1.2.2.2.2.2.2.1,
 c.2.1.2.2.2.2.2.2.2.1,c.2.1.2.2.2.2.2.2.2.2.1,c.2.1.2.2.2.2.2.2.2.2.2.1,Z (aM.mk c.2.1.2.1 0 1 d.1.1),()),e.2)) (aT (aN (z7 c)
 c.2.1.2.2.1) (aT (fV 0 (z7 c) (av c.2.1.2.2.1)) (ah (F251 n (((),c.2.1.2.1,cY c.2.1.2.2.1 0 (z7 c),(HY c).1,(HY c).2,
 (HY c).3,(HY c).4,c.2.1.2.2.2.2.2.2.2),c.2.2.1,c.2.2.2.1,[c.1.1],())) λd=>Z d)))
def aoM(n:Nat):OC:=⟨201,⟨y5,[],J,F201 n⟩,cV [ajs n,uJ n,Gw n,Ej n] [] n 10 201⟩
def Pv(b:WE):Int:=
 bF .i64 (av (bp b.1.1.1 (az (bp b.1.1.2.1 (az b.2.2.1) 0)) bG).4) 1
def Ed(b:WE):au:=
 bp (bp b.1.1.1 (az (bp b.1.1.2.1 (az b.2.2.1) 0)) bG).4 (az (Pv b)) aS
def fj(b:WE):bO:=
 bp b.1.1.2.2.2.2.2.1 (az (Ed b).1) bM
def gT(b:WE):Y9:=
 (((),b.2.2.1,cY (bp b.1.1.1 (az (bp b.1.1.2.1 (az b.2.2.1) 0)) bG).4 0 (Pv b),aF .i64 (Ed b).1 1,(Ed b).2,(Ed b).3,
 (Ed b).4,(fj b).1,(fj b).2,(fj b).3,Y,()),b.1,b.2.1,())
def aar(c:Y10):L au:=
 [au.mk c.2.1.2.2.2.1 c.2.1.2.2.2.2.1 c.2.1.2.2.2.2.2.1 c.2.1.2.2.2.2.2.2.1]
def gG(n:Nat)(b:WE):Y10->Y76:=
 λc=>aT (aN b.2.2.1 c.2.2.1.1.2.1) (aT (aN (bp c.2.2.1.1.2.1 (az b.2.2.1) 0) c.2.2.1.1.1) (ah (ai (aa (bp c.2.2.1.1.1 (az (bp
 c.2.2.1.1.2.1 (az b.2.2.1) 0)) bG).2 0) (aT (nK (fV 0 (av c.2.1.2.2.1) (av c.2.1.2.2.1)) (fU (av c.2.1.2.2.1) (av c.2.1.2.2.1)))
 (aT (dF (cY c.2.1.2.2.1 0 (av c.2.1.2.2.1)) (aar c)) (ah (F121 n (c.2.2.1,c.2.2.2.1,b.2.2.1,bI.mk 6 0 [] (di (cY c.2.1.2.2.1 0
 (av c.2.1.2.2.1)) (aar c)),())) λd=>Z (N (W,d.2))))) (Z (N (J,c.2.2)))) λ(d:LO (Bool×Y7×L (Int×Bool)
 ×U) U Y77 Any)=>cM d (λe=>ai (Ar c.2.1.2.2.2.2.2.2.2.2.2.2.1) (aT (Ar c.2.1.2.2.2.2.2.2.2.2.2.2.1) (Z ((fJ.a1
 (iD.mk (IF cZ c.2.1.2.2.2.2.2.2.2.2.2.2.1)),()),e.2))) (Z ((fJ.a2 ru.mk,()),e.2))) (λ_ _=>Y) (λe _=>Z
 ((fJ.none,()),e)) λ_ _=>Y))
def Pu(n:Nat)(b:WE):Y76:=
 ah (F173 n (gT b)) (gG n b)
def aeH(b:WE)(d:Y11):Y7:=
 ((b.1.1.1,b.1.1.2.1,b.1.1.2.2.1,b.1.1.2.2.2.1,b.1.1.2.2.2.2.1,d.2.2.1.1.2.2.2.2.2),())
def jR(n:Nat)(b:WE):Y11->Y76:=
 λd=>ai (ak (isNil [(199,Ty.st 27)] (jh 38 d.1))) (ah (ai (ak (mj [(199,Ty.st 27)] 0 (jh 38 d.1))) Y (Z (N
 (J,())))) λ(e:Y47)=>cM e (λ_=>ai (ak (ke (Sg.zero sg) [(199,Ty.st 27)] 0 (jh 38 d.1)).1) (ah (F121 n (aeH b d,
 d.2.2.2.1,b.2.2.1,bI.mk 6 (ke (Sg.zero sg) [(199,Ty.st 27)] 0 (jh 38 d.1)).2 [] [],())) λh=>Z ((fJ.a1 (iD.mk
 (aM.mk b.2.2.1 0 (ke (Sg.zero sg) [(199,Ty.st 27)] 0 (jh 38 d.1)).2 cB)),()),h.2)) (Z ((fJ.a0 sd.mk,()),aeH b d,
 d.2.2.2))) (λ_ _=>Y) (λ_ _=>Z ((fJ.none,()),d.2.2)) λ_ _=>Y) (Z ((fJ.none,()),d.2.2))
def LV(n:Nat)(b:WE):Y76:=
 ah (F182 n (gT b)) λc=>cr c (gG n b) (jR n b)
def F67:Nat->WE->Y76:=
 λn b=>aT (aN b.2.2.1 b.1.1.2.1) (aT (aN (bp b.1.1.2.1 (az b.2.2.1) 0) b.1.1.1) (ai (ak (aa (bp b.1.1.1 (az (bp b.1.1.2.1
 (az b.2.2.1) 0)) bG).2 0)) (Z ((fJ.a0 sd.mk,()),b.1,b.2.1,())) (aT (fV 0 (Pv b) (av (bp b.1.1.1 (az (bp b.1.1.2.1
 (az b.2.2.1) 0)) bG).4)) (aT (aN (Pv b) (bp b.1.1.1 (az (bp b.1.1.2.1 (az b.2.2.1) 0)) bG).4) (aT (aN (Ed b).1
 b.1.1.2.2.2.2.2.1) (ai (fU (fj b).1 0) Y (ai (fU (fj b).1 1) (Pu n b) (ai (fU (fj b).1 2) (Pu n b) (ai (fU (fj b).1 3)
 (Pu n b) (ai (fU (fj b).1 4) (ah (F174 n (gT b)) (gG n b)) (ai (fU (fj b).1 5) (Pu n b) (ai (fU (fj b).1 6) (ah (F175 n
 (gT b)) λc=>cr c (gG n b) (jR n b)) (ai (fU (fj b).1 7) (ah (F176 n (gT b)) λc=>cr c (gG n b) (jR n b)) (ai
 (fU (fj b).1 8) (ah (F177 n (gT b)) λc=>cr c (gG n b) (jR n b)) (ai (fU (fj b).1 9) (ah (F178 n (gT b)) (gG n b))
 (ai (fU (fj b).1 10) (ah (F179 n (gT b)) (gG n b)) (ai (fU (fj b).1 11) (ah (F180 n (gT b)) (gG n b)) (ai (fU (fj b).1 12)
 (ah (F181 n (gT b)) λc=>cr c (gG n b) (jR n b)) (ai (fU (fj b).1 13) (LV n b) (ai (fU (fj b).1 14) (LV n b) (ai
 (fU (fj b).1 15) (LV n b) (ai (fU (fj b).1 16) (ah (F183 n (gT b)) λc=>cr c (gG n b) (jR n b)) (ai (fU (fj b).1 17)
 (ah (F184 n (gT b)) λc=>cr c (gG n b) (jR n b)) (ai (fU (fj b).1 18) (ah (F185 n (gT b)) λc=>cr c (gG n b) (jR
 n b)) (ai (fU (fj b).1 19) (ah (F186 n (gT b)) (gG n b)) (ai (fU (fj b).1 20) (ah (F187 n (gT b)) λc=>cr c (gG n b)
 (jR n b)) (ai (fU (fj b).1 21) (ah (F188 n (gT b)) λc=>cr c (gG n b) (jR n b)) (ai (fU (fj b).1 22) (ah (F189 n (gT
 b)) λc=>cr c (gG n b) (jR n b)) (ai (fU (fj b).1 23) (ah (F190 n (gT b)) λc=>cr c (gG n b) (jR n b)) (ai (fU
 (fj b).1 24) (ah (F191 n (gT b)) λc=>cr c (gG n b) (jR n b)) (ai (fU (fj b).1 25) (ah (F192 n (gT b)) λc=>cr c
 (gG n b) (jR n b)) (ai (fU (fj b).1 26) (ah (F193 n (gT b)) λc=>cr c (gG n b) (jR n b)) (ai (fU (fj b).1 27) (ah
 (F194 n (gT b)) λc=>cr c (gG n b) (jR n b)) (ai (fU (fj b).1 28) (ah (F195 n (gT b)) λc=>cr c (gG n b) (jR n
 b)) (ai (fU (fj b).1 29) (ah (F196 n (gT b)) λc=>cr c (gG n b) (jR n b)) (ai (fU (fj b).1 30) (ah (F197 n (gT b)) λc
 =>cr c (gG n b) (jR n b)) (ai (fU (fj b).1 31) (ah (F198 n (gT b)) λc=>cr c (gG n b) (jR n b)) (ai (fU (fj b).1
 32) (ah (F199 n (gT b)) λc=>cr c (gG n b) (jR n b)) (ai (fU (fj b).1 33) (ah (F200 n (gT b)) (gG n b)) (ai (fU (fj
 b).1 34) (ah (F201 n (gT b)) (gG n b)) (aT J Y)))))))))))))))))))))))))))))))))))))))))
def k67(n:Nat):OC:=⟨67,⟨P47,K48,J,F67 n⟩,cV [ajs n,ape n,apd n,apc n,apb n,apa n,ao9 n,ao8 n,ao7 n,ao6 n,ao5 n,ao4 n,ao3 n,ao2 n,ao1 n,ao0 n,aoZ n,aoY n,aoX n,aoW n,aoV n,aoU n,aoT n,aoS n,aoR n,aoQ n,aoP n,aoO n,aoN n,aoM n] [(67,1000012,⟨[(100,dQ),(0,b0z),(0,w9)],[.cell (.slot 2) 0,.cell (.cell (.slot 2) 0) 11],[],0⟩),(120,1000004,⟨[(16,dQ)],[],[],0⟩)] n 10 67⟩
def F68:Nat->fJ×U->Ip:=
 λn b=>ai (mj [(197,Ty.st 14),(203,Ty.st 15),(213,Ty.st 16)] 2 (jh 17 b.1)) (Z ((0,()),())) (ai (mj [(197,Ty.st 14),(203,
 Ty.st 15),(213,Ty.st 16)] 1 (jh 17 b.1)) (Z ((1,()),())) (Z ((2,()),())))
def k68(n:Nat):OC:=⟨68,⟨P49,K2,J,F68 n⟩,cV [] [] n 10 68⟩
def F48:Nat->WE->O ahm:=
 λn b=>ah (aO (Int×Int×Y7×L (Int×Bool)×U) (Int×Bool×U) (Y77) (λc=>ai (aC c.2.1 (av c.2.2.1.1.2.1)) (ah
 (F67 n (c.2.2.1,c.2.2.2.1,c.2.1,())) λd=>ah (F68 n d.1) λe=>ai (ak (aa e.1.1 0)) (Z (N (c.1,aF .i64 c.2.1 1,
 c.2.2.1,d.2.2))) (ai (aC 5000 (aF .i64 c.1 1)) (Z (X (c.2.2.1,d.2.2) (0,J,()))) (Z (N (aF .i64 c.1 1,c.2.1,
 d.2))))) (Z (H 0 c))) n (b.2.2.1,0,b.1,b.2.1,())) λc=>bD c (λ_ e=>Z ((e.1,W,()),e.2.2)) (λd e=>Z (e,d)) λ
 _ _=>Y
def k48(n:Nat):OC:=⟨48,⟨P47,K50,J,F48 n⟩,cV [k67 n,k68 n] [(48,0,⟨[(1,dj),(6,dj),(0,b0z),(0,w9)],[.slot 0,.cell (.slot 0) 11],[],0⟩)] n 10 48⟩
def F156:Nat->L ei×U->O ((L ei×U)×U):=λn b=>Z (b,())
def C156(n:Nat):bA prog 156 (⟨P51,K52,J,F156 n⟩:lz sg):=Vj [] trivial (WZ []) J n 10 156 P51 K52 (by kernel_rfl) (Eq.trans (by kernel_rfl:_=λb:L ei×U=>IV (isE b.1) (Z (([],()),())) (Z (b,()))) (funext uc))
def acm(n:Nat):OC:=⟨156,⟨P51,K52,J,F156 n⟩,C156 n⟩
def F103:alN:=
 λn b=>Z (b,())
def ajw(n:Nat):OC:=⟨103,⟨P26,K2,J,F103 n⟩,cV [] [] n 10 103⟩
abbrev E49(n:Nat):eF sg:=⟨El,Fg [k47 n,ajw n,acm n,Vz n,Yn n],WZ [(49,0,⟨[(3,.one (.own (.int .i64))),(11,dj)],[],[],0⟩),(102,0,⟨[(32,dj),(0,b6z)],[.slot 7],[],0⟩),(102,2,⟨[(58,dj),(0,b6z)],[.slot 7],[],0⟩),(157,2,⟨[(6,.one (.own (.st 4))),(21,dj)],[],[(19,6)],0⟩)],J,cjL [(169,0,⟨[(0,IQ)],[.cell (.slot 1) 0],[.slot 1,.slot 0,.Ms (.slot 0) 3],[]⟩),(170,0,⟨[(0,dj),(0,IQ)],[.cell (.slot 1) 0],[.slot 1,.slot 2,.slot 3,.cell (.slot 2) 0,.Ms (.cell (.slot 2) 0) 3],[.dat .bool]⟩)]⟩
def E4:Nat->Nat->LS×U->O (U×LS×U):=λn a x=>Qm (wY (E49 n) n a) 169 [(0,IQ)] [] [8] [12,14,9] (Rm ([8]++[12,14,9]) [(0,IQ)] (TN [.rE 14,.ptr 12 0])) (stJ [8] [12,14,9] ⟨trL [(14,lpR 157 42 [14] (rgN (UP (T5 157)) 0) [(3,.ptr 9 0)]),(12,.box [.ptr 8 0]),(9,.box [.fn (.func 103) [] []])],0,0,0,[],[]⟩) x
def BG:Nat->Nat->Int×LS×U->O ((Bool×U)×LS×U):=λn a x=>Qm (wY (E49 n) n a) 170 [(0,dj),(0,IQ)] [.dat .bool] [8] [12,16,17,14,9] (Rm ([8]++[12,16,17,14,9]) [(0,dj),(0,IQ)] (TN [.emp,.ptr 12 0,.ptr 16 0,.ptr 17 0])) (stJ [8] [12,16,17,14,9] ⟨trL [(14,lpR 157 42 [14] (rgN (UP (T5 157)) 0) [(3,.ptr 9 0)]),(12,.box [.ptr 8 0]),(9,.box [.fn (.func 103) [] []]),(16,.box [.rE 14]),(17,.box [.fn (.func 170) [] [.ptr 12 0,.ptr 16 0,.ptr 17 0]])],0,0,0,[],[]⟩) x
def Uo:Nat->Nat->LS×U->O (U×LS×U):=
 λn a c=>ah (F239 n (c.1.2.2.1,())) λd=>ah (aO (Y58) (U) (U) (λe=>ai (aC e.2.1 (av d.1.1)) (aT (aN e.2.1 e.1)
 (aT (eR (az e.2.1) e.1) (ai (aa (bp e.1 (az e.2.1) cB).1 5) (ah (F103 n ((bp e.1 (az e.2.1) cB).2,())) λg=>aT (aN
 e.2.1 e.1) (aT (eR (az e.2.1) e.1) (Z (N (rI e.1 (az e.2.1) (aA.mk (bp e.1 (az e.2.1) cB).1 g.1.1),aF .i64 e.2.1 1,
 ()))))) (Z (N (e.1,aF .i64 e.2.1 1,())))))) (Z (H 0 e))) n (d.1.1,0,())) λe=>bD e (λ_ h=>ah (BG n
 (a+3) (0,(c.1.1,c.1.2.1,h.1,c.1.2.2.2),())) λi=>Z ((),i.2)) (λ_ _=>Y) λ_ _=>Y
def Si(n a:Nat):E4 n (a+4)=Uo n a:=by kernel_rfl
def uf(c:Int×LS×U):au:=
 bp c.2.1.2.2.2.1 (az c.1) aS
def mz(n:Nat)(d:Y57):asf:=
 aO (Y58) (U) (U) (λe=>ai (aC e.2.1 (av d.1.1)) (aT (aN e.2.1 e.1) (aT (eR (az e.2.1) e.1) (ai (aa (bp e.1 (az
 e.2.1) cB).1 5) (ah (F103 n ((bp e.1 (az e.2.1) cB).2,())) λg=>aT (aN e.2.1 e.1) (aT (eR (az e.2.1) e.1) (Z (N
 (rI e.1 (az e.2.1) (aA.mk (bp e.1 (az e.2.1) cB).1 g.1.1),aF .i64 e.2.1 1,()))))) (Z (N (e.1,aF .i64 e.2.1 1,
 ())))))) (Z (H 0 e))) n (d.1.1,0,())
def qo(c:Int×LS×U)(h:Y58):L au:=
 rI c.2.1.2.2.2.1 (az c.1) (au.mk (uf c).1 h.1 (uf c).3 (uf c).4)
def qn(c:Int×LS×U)(h:Y58):au:=
 bp (qo c h) (az c.1) aS
def Mq:Nat->Nat->Int×LS×U->O ((Bool×U)×LS×U):=
 λn a c=>ai (aa c.1 (av c.2.1.2.2.2.1)) (Z ((W,()),c.2)) (aT (aN c.1 c.2.1.2.2.2.1) (aT (eR (az c.1) c.2.1.2.2.2.1) (ah
 (F239 n ((uf c).2,())) λd=>ah (mz n d) λe=>bD e (λ_ h=>aT (eR (az c.1) c.2.1.2.2.2.1) (aT (aN c.1 (qo c h))
 (aT (eR (az c.1) (qo c h)) (ah (F239 n ((qn c h).3,())) λi=>ah (mz n i) λj=>bD j (λ_ l=>aT (eR (az c.1)
 (qo c h)) (ah (BG n (a+3) (aF .i64 c.1 1,(c.2.1.1,c.2.1.2.1,c.2.1.2.2.1,rI (qo c h) (az c.1) (au.mk (qn c
 h).1 (qn c h).2 l.1 (qn c h).4),()),())) λm=>Z m)) (λ_ _=>Y) λ_ _=>Y)))) (λ_ _=>Y) λ_ _=>Y)))
def HR(n a:Nat):BG n (a+4)=Mq n a:=by kernel_rfl
def y6(c:Y77)(g:Y91)(j:Int×Pe×U):bI:=
 bp c.1.1.1 (az (bp g.1 (az j.1) 0)) bG
def G49:alF:=
 λn a c=>ah (aO (Y91) (U) (U) (λd=>ai (aC d.2.1 (av c.1.1.1)) (aT (dF d.1 [d.2.1]) (Z (N (di d.1 [d.2.1],
 aF .i64 d.2.1 1,())))) (Z (H 0 d))) n ([],0,())) λd=>bD d (λ_ g=>ah (F156 n (c.1.1.2.2.1,())) λh=>ah (F47 n
 (c.1.1.2.2.2.1,())) λi=>ah (aO (Int×Pe×U) (U) (Pe×U) (λj=>ai (aC j.1 (av g.1)) (aT (aN j.1 g.1) (aT
 (eR (az j.1) g.1) (aT (aN (bp g.1 (az j.1) 0) c.1.1.1) (ah (F238 n ((y6 c g j).4,())) λk=>ah (E4 n (a+8) (((y6 c g
 j).1,(y6 c g j).2,(y6 c g j).3,k.1),())) λl=>aT (dF j.2.1.1 [bI.mk l.2.1.1 l.2.1.2.1 l.2.1.2.2.1 l.2.1.2.2.2.1]) (Z (N
 (aF .i64 j.1 1,(di j.2.1.1 [bI.mk l.2.1.1 l.2.1.2.1 l.2.1.2.2.1 l.2.1.2.2.2.1],j.2.1.2),()))))))) (Z (H 0 j))) n (0,([],[],
 h.1.1,i.1.1,c.1.1.2.2.2.2.1,()),())) λj=>bD j (λ_ l=>ah (aO (Int×Pe×U) (U) (Pe×U) (λm=>ai (aC m.1
 (av c.1.1.2.1)) (aT (aN m.1 c.1.1.2.1) (ah (F103 n (bp c.1.1.2.1 (az m.1) 0,())) λo=>aT (dF m.2.1.2.1 [o.1.1]) (Z (N (aF .i64
 m.1 1,(m.2.1.1,di m.2.1.2.1 [o.1.1],m.2.1.2.2),()))))) (Z (H 0 m))) n (0,l.2)) λm=>bD m (λ_ p=>Z ((aj.mk p.2.1.1
 p.2.1.2.1 p.2.1.2.2.1 p.2.1.2.2.2.1 p.2.1.2.2.2.2.1,()),c)) (λ_ _=>Z ((dg,()),c)) λ_ _=>Y) (λ_ _=>Z ((dg,
 ()),c)) λ_ _=>Y) (λ_ _=>Z ((dg,()),c)) λ_ _=>Y
def F49(n:Nat):Fn P53 K54 J:=G49 n n
def k49(n:Nat):OC:=⟨49,⟨P53,K54,J,F49 n⟩,abQ [k47 n,ajw n,acm n,Vz n,Yn n] (E49 n).sh (E49 n).cj n (n+10) 49⟩
def Ul(n:Nat):O Y50:=
 Z ((dg,2,()),())
def F13:Nat->asa->O Y50:=
 λn b=>ah (F99 n (b.1,())) λc=>ai (ak (aa c.1.2.1 0)) (Ul n) (ah (aO (Y51) (Bool×U) (Y52) (λd=>ai (aC d.1
 (av b.1.1)) (aT (aN d.1 c.1.1) (ai (bp c.1.1 (az d.1) aQ).1 (aT (aN d.1 b.1.1) (ai (aa (bp b.1.1 (az d.1) bM).1 6)
 (aT (aN d.1 b.1.1) (Z (N (aF .i64 d.1 1,iX (A:=sg.A) (Ty.int .i64) (bp b.1.1 (az d.1) bM).2 W d.2.1,())))) (Z
 (N (aF .i64 d.1 1,d.2))))) (Z (N (aF .i64 d.1 1,d.2))))) (Z (H 0 d))) n (0,[],())) λd=>bD d (λ_ g=>ah
 (F45 n b.2) λh=>ai (ak h.1.1) (Ul n) (aT (aN b.1.4 b.1.3) (ah (F46 n ()) λi=>ah (F47 n b.2) λj=>ah (F48 n ((([bI.mk 6
 0 [] [au.mk (bp b.1.3 (az b.1.4) 0) [i.1.1] [] J]],[0],[],j.1.1,0,b.1.1,b.1.2,b.1.3,b.1.4,b.1.5,c.1.1,()),()),g.2.1,0,()))
 λk=>ai (ak k.1.2.1) (Z ((dg,8,()),())) (ah (F49 n k.2) λl=>Z ((l.1.1,0,()),()))))) (λ_ g=>ai (ak g.1)
 (Ul n) (ah (F45 n b.2) λh=>ai (ak h.1.1) (Ul n) (aT (aN b.1.4 b.1.3) (ah (F46 n ()) λ_=>ah (F47 n b.2) λ_=>Y)))) λ
 _ _=>Y)
def k13(n:Nat):OC:=⟨13,⟨P55,K56,J,F13 n⟩,cV [k45 n,k46 n,k47 n,k48 n,k49 n,k99 n] [(44,0,⟨[(23,dj),(0,RK)],[.cell (.slot 19) 11],[],0⟩)] n 10 13⟩
def F164:Nat->ei×U->O Y4:=
 λn b=>ai (bn 0 b.1.1) (ai (aC b.1.1 4) (ai (bn (-1000000000) b.1.2) (Z ((bn b.1.2 1000000000,()),())) (Z ((J,()),
 ()))) (Z ((J,()),()))) (Z ((J,()),()))
def api(n:Nat):OC:=⟨164,⟨P57,K4,J,F164 n⟩,cV [] [] n 10 164⟩
def F245:Nat->cL×aA×U->O Y4:=
 λn b=>ai (aa b.2.1.1 1) (ai (bn (-1000000000) b.2.1.2) (Z ((bn b.2.1.2 1000000000,()),())) (Z ((J,()),()))) (ai (aa
 b.2.1.1 2) (ai (aa b.2.1.2 0) (Z ((W,()),())) (Z ((aa b.2.1.2 1,()),()))) (ai (aa b.2.1.1 3) (Z ((aa b.2.1.2 0,()),()))
 (ai (aa b.2.1.1 4) (ai (bn 0 b.2.1.2) (Z ((aC b.2.1.2 (av b.1.2.3),()),())) (Z ((J,()),()))) (ai (aa b.2.1.1 5) (ai
 (bn 0 b.2.1.2) (Z ((aC b.2.1.2 (av b.1.1.1),()),())) (Z ((J,()),()))) (Z ((J,()),()))))))
def aje(n:Nat):OC:=⟨245,⟨P58,K4,J,F245 n⟩,cV [] [] n 10 245⟩
def xm(n:Nat):O Y4:=
 Z ((J,()),())
def aaz(n:Nat)(c:Int×U):Y4->Y85:=
 λd=>ai (ak d.1.1) (Z (X () c)) (Z (N (aF .i64 c.1 1,())))
def Ma(n:Nat)(b:Y86):O Y4:=
 ah (aO (Int×U) (Int×U) (U) (λg=>ai (aC g.1 (av b.2.1.3)) (aT (aN g.1 b.2.1.3) (ah (F245 n (b.1,bp b.2.1.3 (az
 g.1) cB,())) (aaz n g))) (Z (H 0 g))) n (0,())) λg=>bD g (λ_ _=>Z ((ak J,()),())) (λ_ i=>Z
 ((ak (bn 0 i.1),()),())) λ_ _=>Y
def F296:Nat->Y86->O Y4:=
 λn b=>ai (aC b.2.1.1 0) (xm n) (ai (bn (av b.1.3) b.2.1.1) (xm n) (aT (aN b.2.1.1 b.1.3) (ai (ak (bp b.1.3 (az
 b.2.1.1) aQ).1) (xm n) (aT (aN b.2.1.1 b.1.3) (ai (aa (av b.2.1.2) (bp b.1.3 (az b.2.1.1) aQ).3) (ai (aa (av
 b.2.1.3) (bF .i64 (bp b.1.3 (az b.2.1.1) aQ).2 b.2.2.1)) (ah (aO (Int×U) (Int×U) (U) (λc=>ai (aC c.1
 (av b.2.1.2)) (aT (aN c.1 b.2.1.2) (ah (F245 n (b.1,bp b.2.1.2 (az c.1) cB,())) (aaz n c))) (Z (H 0 c))) n (0,())) λc
 =>bD c (λ_ _=>ai (ak J) (Ma n b) (xm n)) (λ_ e=>ai (ak (bn 0 e.1)) (Ma n b) (xm n)) λ_ _=>Y)
 (xm n)) (xm n))))))
def ai6(n:Nat):OC:=⟨296,⟨P59,K4,J,F296 n⟩,cV [aje n] [(315,0,⟨[(8,dj)],[],[],0⟩)] n 10 296⟩
def F247:Y84:=
 λn b=>ah (F296 n (b.1,b.2.1,1,())) λc=>Z c
def ajd(n:Nat):OC:=⟨247,⟨P60,K4,J,F247 n⟩,cV [ai6 n] [] n 10 247⟩
def F297:Y84:=
 λn b=>ah (F296 n (b.1,b.2.1,0,())) λc=>Z c
def aon(n:Nat):OC:=⟨297,⟨P60,K4,J,F297 n⟩,cV [ai6 n] [] n 10 297⟩
def z6(b:aac):Int:=
 bF .i64 (av b.2.1.4) 1
def Ss(n:Nat)(b:aac):O Y4:=
 aT (aN (z6 b) b.2.1.4) (ah (F297 n (b.1,bp b.2.1.4 (az (z6 b)) aS,())) λg=>Z g)
def sP(n:Nat):O Y4:=
 Z ((J,()),())
def F248:alS:=
 λn b=>ai (aa b.2.1.2 0) (ai (aa (av b.2.1.3) 0) (ai (bn 1 (av b.2.1.4)) (ai (bn (av b.2.1.4) 40) (aT (fV 0 (z6 b)
 (av b.2.1.4)) (ah (aO (Int×U) (Int×U) (U) (λc=>ai (aC c.1 (av (cY b.2.1.4 0 (z6 b)))) (aT (aN c.1 (cY
 b.2.1.4 0 (z6 b))) (ah (F247 n (b.1,bp (cY b.2.1.4 0 (z6 b)) (az c.1) aS,())) λd=>ai (ak d.1.1) (Z (X () c))
 (Z (N (aF .i64 c.1 1,()))))) (Z (H 0 c))) n (0,())) λc=>bD c (λ_ _=>ai (ak J) (Ss n b) (sP n)) (λ
 _ e=>ai (ak (bn 0 e.1)) (Ss n b) (sP n)) λ_ _=>Y)) (sP n)) (sP n)) (sP n)) (ai (aa b.2.1.2 1) (ai (aa
 (av b.2.1.3) 1) (Z ((aa (av b.2.1.4) 0,()),())) (sP n)) (ah (ai (aa b.2.1.2 2) (Z (N (W,()))) (ah (ai (aa
 b.2.1.2 3) (Z (N (W,()))) (Z (N (aa b.2.1.2 4,())))) λ(c:nM)=>cM c (λd=>Z (N d)) (λ_ _=>Y)
 (λ_ e=>Z (X () e)) λ_ _=>Y)) λ(c:nM)=>cM c (λd=>ai d.1 (ai (aa (av b.2.1.3) 0) (Z ((aa (av
 b.2.1.4) 0,()),())) (sP n)) (sP n)) (λ_ _=>Y) (λ_ e=>Z (e,())) λ_ _=>Y))
def aox(n:Nat):OC:=⟨248,⟨P61,K4,J,F248 n⟩,cV [ajd n,aon n] [(248,1000008,⟨[(55,dQ)],[],[],0⟩),(248,1000009,⟨[(55,dQ)],[],[],0⟩),(316,0,⟨[(8,dj)],[],[],0⟩)] n 10 248⟩
def jc(n:Nat):O Y4:=
 Z ((J,()),())
def Su(n:Nat)(b:aac):O Y4:=
 aT (aN 0 b.2.1.4) (Z (((bp b.2.1.4 (az 0) aS).4,()),()))
def Mf(n:Nat)(b:aac):O Y4:=
 ai (aa b.2.1.1 1) (ai (aa (av b.2.1.4) 0) (ai (bn 0 b.2.1.2) (ai (aC b.2.1.2 (av b.1.2.5)) (aT (aN b.2.1.2 b.1.2.5) (Z
 ((aa (av b.2.1.3) (bp b.1.2.5 (az b.2.1.2) bf).2,()),()))) (jc n)) (jc n)) (jc n)) (ai (aa b.2.1.1 2) (ai (aa (av
 b.2.1.4) 0) (ai (ET (A:=sg.A) (Ty.int .i64) J b.2.1.2 b.1.4) (aT (aN b.2.1.2 b.1.3) (Z ((aa (av b.2.1.3) (bF .i64 (bp b.1.3
 (az b.2.1.2) aQ).3 1),()),()))) (jc n)) (jc n)) (ai (aa b.2.1.1 3) (ai (aa (av b.2.1.4) 0) (ai (aa b.2.1.2 0) (Z
 ((aa (av b.2.1.3) 1,()),())) (jc n)) (jc n)) (ai (aa b.2.1.1 4) (ai (aa (av b.2.1.4) 0) (ai (aa b.2.1.2 0) (Z ((bn
 (av b.2.1.3) 4,()),())) (jc n)) (jc n)) (ai (aa b.2.1.1 5) (ai (bn 1 (av b.2.1.4)) (ai (bn (av b.2.1.4) 40) (ai (aa
 b.2.1.2 0) (ai (aa (av b.2.1.3) 0) (ah (aO (Int×U) (Int×U) (U) (λg=>ai (aC g.1 (av b.2.1.4)) (aT (aN g.1
 b.2.1.4) (ah (F247 n (b.1,bp b.2.1.4 (az g.1) aS,())) λh=>ai (ak h.1.1) (Z (X () g)) (Z (N (aF .i64 g.1 1,
 ()))))) (Z (H 0 g))) n (0,())) λg=>bD g (λ_ _=>ai (ak J) (Su n b) (jc n)) (λ_ i=>ai (ak (bn 0 i.1))
 (Su n b) (jc n)) λ_ _=>Y) (jc n)) (jc n)) (jc n)) (jc n)) (ai (aa b.2.1.1 6) (ah (F248 n b) λg=>Z g)
 (jc n))))))
def F166:alS:=
 λn b=>ah (aO (Int×U) (Int×U) (U) (λc=>ai (aC c.1 (av b.2.1.3)) (aT (aN c.1 b.2.1.3) (ah (F245 n (b.1,bp
 b.2.1.3 (az c.1) cB,())) λd=>ai (ak d.1.1) (Z (X () c)) (Z (N (aF .i64 c.1 1,()))))) (Z (H 0 c))) n (0,
 ())) λc=>bD c (λ_ _=>ai (ak (ak J)) (jc n) (Mf n b)) (λ_ e=>ai (ak (ak (bn 0 e.1))) (jc n)
 (Mf n b)) λ_ _=>Y
def aph(n:Nat):OC:=⟨166,⟨P61,K4,J,F166 n⟩,cV [aje n,ajd n,aox n] [(315,0,⟨[(8,dj)],[],[],0⟩),(316,0,⟨[(8,dj)],[],[],0⟩)] n 10 166⟩
def F167:alz:=
 λn b=>ah (aO (Y51) (Bool×U) (Y52) (λc=>ai (aC c.1 (av b.1.1.1)) (aT (aN c.1 b.1.1.1) (ai (aa (bp b.1.1.1 (az
 c.1) bG).1 6) (Z (N (aF .i64 c.1 1,iX (A:=sg.A) (Ty.int .i64) c.1 W c.2.1,()))) (Z (N (aF .i64 c.1 1,c.2)))))
 (Z (H 0 c))) n (0,[],())) λc=>bD c (λ_ e=>ah (aO (Y51) (Bool×U) (Y52) (λg=>ai (aC g.1 (av b.1.1.2))
 (aT (aN g.1 b.1.1.2) (ai (ak (ET (A:=sg.A) (Ty.int .i64) J (bp b.1.1.2 (az g.1) 0) g.2.1)) (Z (X g.2 (J,()))) (Z
 (N (aF .i64 g.1 1,LA (A:=sg.A) (Ty.int .i64) (bp b.1.1.2 (az g.1) 0) g.2.1,()))))) (Z (H 0 g))) n (0,e.2)) λg=>bD g
 (λ_ i=>Z ((aa (av i.2.1) 0,()),())) (λ_ i=>Z (i,())) λ_ _=>Y) (λ_ e=>Z (e,())) λ_ _=>Y
def apg(n:Nat):OC:=⟨167,⟨P62,K4,J,F167 n⟩,cV [] [(167,0,⟨[(14,dj),(0,RK)],[.slot 7],[],0⟩),(167,2,⟨[(36,dj),(0,RK)],[.slot 7],[],0⟩)] n 10 167⟩
def sR(n:Nat):O Y4:=
 Z ((J,()),())
def aaG(n:Nat)(b:cL×U):O Y4:=
 ah (F45 n (b.1.1.4,())) λk=>ai k.1.1 (ai (bn 0 b.1.1.5) (Z ((bn b.1.1.5 1000000000,()),())) (sR n)) (sR n)
def aaF(n:Nat)(b:cL×U):O Y4:=
 ah (F167 n b) λg=>ai g.1.1 (ai (bn (av b.1.1.3) 100) (ah (aO (Int×U) (Int×U) (U) (λh=>ai (aC h.1 (av
 b.1.1.3)) (aT (aN h.1 b.1.1.3) (ah (F164 n (bp b.1.1.3 (az h.1) ki,())) λi=>ai (ak i.1.1) (Z (X () h)) (Z (N
 (aF .i64 h.1 1,()))))) (Z (H 0 h))) n (0,())) λh=>bD h (λ_ _=>ai (ak J) (aaG n b) (sR n)) (λ_ j=>ai
 (ak (bn 0 j.1)) (aaG n b) (sR n)) λ_ _=>Y) (sR n)) (sR n)
def F111:alz:=
 λn b=>ai (bn (av b.1.1.1) 120) (ah (aO (Int×U) (Int×U) (U) (λc=>ai (aC c.1 (av b.1.1.1)) (aT (aN c.1
 b.1.1.1) (ah (F166 n (b.1,bp b.1.1.1 (az c.1) bG,())) λd=>ai (ak d.1.1) (Z (X () c)) (Z (N (aF .i64 c.1 1,
 ()))))) (Z (H 0 c))) n (0,())) λc=>bD c (λ_ _=>ai (ak J) (aaF n b) (sR n)) (λ_ e=>ai (ak (bn 0 e.1))
 (aaF n b) (sR n)) λ_ _=>Y) (sR n)
def aco(n:Nat):OC:=⟨111,⟨P62,K4,J,F111 n⟩,cV [k45 n,api n,aph n,apg n] [(291,0,⟨[(8,dj)],[],[],0⟩),(298,0,⟨[(8,dj)],[],[],0⟩)] n 10 111⟩
def F66:Nat->Y77->O ((L Int×U)×Y7×L (Int×Bool)×U):=
 λn b=>ah (aO (L Int×Int×Y7×L (Int×Bool)×U) (L Int×U) (Y77) (λc=>ai (aC c.2.1 (av b.1.1.2.1)) (ah
 (F67 n (c.2.2.1,c.2.2.2.1,c.2.1,())) λd=>ah (F68 n d.1) λe=>ai (ak (aa e.1.1 2)) (aT (dF c.1 [c.2.1]) (Z (N (di c.1
 [c.2.1],aF .i64 c.2.1 1,c.2.2.1,d.2.2)))) (Z (N (c.1,aF .i64 c.2.1 1,c.2.2.1,d.2.2)))) (Z (H 0 c))) n ([],0,b)) λc=>
 bD c (λ_ e=>Z ((e.1,()),e.2.2)) (λd e=>Z (e,d)) λ_ _=>Y
def k66(n:Nat):OC:=⟨66,⟨P53,K21,J,F66 n⟩,cV [k67 n,k68 n] [(66,0,⟨[(3,.one (.own (.int .i64))),(12,dj),(0,b0z),(0,w9)],[.slot 0,.cell (.slot 0) 11],[],0⟩)] n 10 66⟩
def F353:Nat->sd×U->O adF:=
 λn _=>Z ((cZ,()),())
def an8(n:Nat):OC:=⟨353,⟨asE,K173,J,F353 n⟩,cV [] [] n 10 353⟩
def F354:Nat->iD×U->O adF:=
 λn b=>Z ((b.1.1,()),())
def an7(n:Nat):OC:=⟨354,⟨asD,K173,J,F354 n⟩,cV [] [] n 10 354⟩
def F355:Nat->ru×U->O adF:=
 λn _=>Z ((cZ,()),())
def an6(n:Nat):OC:=⟨355,⟨asC,K173,J,F355 n⟩,cV [] [] n 10 355⟩
def Px(n:Nat)(c:ahm):ahh:=
 Z ((cZ,0,8,()),c.2)
def Ke:L (Nat×Ty):=
 [(197,Ty.st 14),(203,Ty.st 15),(213,Ty.st 16)]
def aat(n:Nat)(g:ahm):adF->ahh:=
 λh=>Z ((h.1.1,g.1.1,0,()),g.2)
def F57:Nat->WE->ahh:=
 λn b=>ah (F48 n (b.1,b.2.1,0,())) λc=>ai (ak c.1.2.1) (Px n c) (ah (F66 n c.2) λd=>ai (aa (av d.1.1) 0) (Z
 ((cZ,0,5,()),d.2)) (aT (nzI (av d.1.1)) (aT (nzI (av d.1.1)) (aT (aN (BJ (aF .i64 (BJ b.2.2.1 (av d.1.1)) (av d.1.1))
 (av d.1.1)) d.1.1) (ah (F67 n (d.2.1,d.2.2.1,bp d.1.1 (az (BJ (aF .i64 (BJ b.2.2.1 (av d.1.1)) (av d.1.1)) (av d.1.1))) 0,()))
 λe=>ah (F48 n (e.2.1,e.2.2.1,aF .i64 c.1.1 1,())) λg=>ai (ak g.1.2.1) (Px n g) (ai (aC 5000 g.1.1) (Px n g) (ai (mj
 Ke 0 (jh 17 e.1.1)) (ah (F353 n (ke (Sg.zero sg) Ke 0 (jh 17 e.1.1),())) (aat n g)) (ai (mj Ke 1 (jh 17 e.1.1)) (ah
 (F354 n (ke (Sg.zero sg) Ke 1 (jh 17 e.1.1),())) (aat n g)) (ai (mj Ke 2 (jh 17 e.1.1)) (ah (F355 n (ke (Sg.zero sg) Ke
 2 (jh 17 e.1.1),())) (aat n g)) Y)))))))))
def k57(n:Nat):OC:=⟨57,⟨P47,K63,J,F57 n⟩,cV [k48 n,k66 n,k67 n,an8 n,an7 n,an6 n] [] n 10 57⟩
def Uk(n:Nat):O Y96:=
 Z ((dg,[],2,()),())
def F20:Nat->alP->O Y96:=
 λn b=>ah (F99 n (b.1,())) λc=>ai (ak (aa c.1.2.1 0)) (Uk n) (ah (aO (Y51) (Bool×U) (Y52) (λd=>ai (aC d.1
 (av b.1.1)) (aT (aN d.1 c.1.1) (ai (bp c.1.1 (az d.1) aQ).1 (aT (aN d.1 b.1.1) (ai (aa (bp b.1.1 (az d.1) bM).1 6)
 (aT (aN d.1 b.1.1) (Z (N (aF .i64 d.1 1,iX (A:=sg.A) (Ty.int .i64) (bp b.1.1 (az d.1) bM).2 W d.2.1,())))) (Z
 (N (aF .i64 d.1 1,d.2))))) (Z (N (aF .i64 d.1 1,d.2))))) (Z (H 0 d))) n (0,[],())) λd=>bD d (λ_ g=>ah
 (F111 n (cL.mk b.2.1 b.1 c.1.1 g.2.1,())) λh=>ai (ak h.1.1) (Uk n) (ai (aC 200 (av b.2.2.1)) (Uk n) (ah (F48 n
 (((b.2.1.1,b.2.1.2,b.2.1.3,b.2.1.4,b.2.1.5,b.1.1,b.1.2,b.1.3,b.1.4,b.1.5,c.1.1,()),()),g.2.1,0,())) λi=>ai (ak i.1.2.1) (Z
 ((dg,[],8,()),())) (ah (aO (L aM×Int×Pe×Y7×L (Int×Bool)×U) (asd) (Pe×Y7×L (Int×Bool)×U) (λj=>ai (aC j.2.1 (av b.2.2.1)) (aT (aN j.2.1 b.2.2.1) (ah (F57 n (j.2.2.2.1,j.2.2.2.2.1,bp b.2.2.1 (az j.2.1) 0,())) λk
 =>ai (aa k.1.2.2.1 5) (Z (H 0 (j.1,j.2.1,([],[],[],[],j.2.2.1.2.2.2.2),k.2))) (ai (ak (aa k.1.2.2.1 0)) (Z (X (([],
 [],[],[],0,()),k.2) ([],k.1.2.2))) (aT (dF j.1 [k.1.1]) (Z (N (di j.1 [k.1.1],aF .i64 j.2.1 1,([],[],[],[],
 j.2.2.1.2.2.2.2),k.2))))))) (Z (H 0 (j.1,j.2.1,([],[],[],[],j.2.2.1.2.2.2.2),j.2.2.2)))) n ([],0,([],[],[],[],0,()),i.2)) λj
 =>bD j (λ_ l=>ah (F49 n l.2.2.2) λm=>Z ((m.1.1,l.1,0,()),())) (λk l=>Z ((aj.mk [] [] [] [] k.1.2.2.2.2.1,l),()))
 λ_ _=>Y)))) (λ_ g=>ai (ak g.1) (Uk n) Y) λ_ _=>Y)
def k20(n:Nat):OC:=⟨20,⟨P64,K65,J,F20 n⟩,cV [k48 n,k49 n,k57 n,k99 n,aco n] [(20,0,⟨[(13,.one (.own (.st 11))),(43,dj),(0,.box (.cells [.nil (.st 6),.nil (.int .i64),.nil (.st 7),.nil (.int .i64),lU])),(0,b0z),(0,w9)],[.slot 6,.slot 23,.cell (.slot 23) 11],[],0⟩),(44,0,⟨[(23,dj),(0,RK)],[.cell (.slot 19) 11],[],0⟩)] n 10 20⟩
abbrev E58(n:Nat):eF sg:=⟨El,Fg [k47 n,acm n,Vz n,Yn n],WZ [(58,0,⟨[(21,dj),(0,Eu),(0,Et)],[.cell (.slot 4) 0,.slot 3],[],0⟩),(58,2,⟨[(8,dj),(0,Eu),(0,Et)],[.cell (.slot 4) 0,.slot 3],[],0⟩),(58,6,⟨[(52,dj),(0,Eu),(0,Et)],[.cell (.cap (.cell (.slot 5) 0) 0) 0,.cap (.cell (.slot 5) 0) 1],[],0⟩),(102,0,⟨[(32,dj),(0,b6z),(0,Eu)],[.slot 7,.cell (.cap (.slot 2) 0) 0],[],0⟩),(102,2,⟨[(58,dj),(0,b6z)],[.slot 7],[],0⟩),(157,2,⟨[(6,.one (.own (.st 4))),(21,dj)],[],[(19,6)],0⟩)],J,cjL [(169,11,⟨[(0,ads),(0,Eu),(0,Et)],[.cell (.slot 1) 0,.cell (.cap (.cell (.Ms (.slot 0) 5) 0) 0) 0,.cap (.cell (.Ms (.slot 0) 5) 0) 1],[.slot 1,.slot 0,.Ms (.slot 0) 5,.cap (.cell (.Ms (.slot 0) 5) 0) 0],[]⟩),(170,11,⟨[(0,dj),(0,ads),(0,Eu),(0,Et)],[.cell (.slot 1) 0,.cell (.cap (.cell (.Ms (.cell (.slot 2) 0) 5) 0) 0) 0,.cap (.cell (.Ms (.cell (.slot 2) 0) 5) 0) 1],[.slot 1,.slot 2,.slot 3,.cell (.slot 2) 0,.Ms (.cell (.slot 2) 0) 5,.cap (.cell (.Ms (.cell (.slot 2) 0) 5) 0) 0],[.dat .bool]⟩),(169,0,⟨[(0,IQ),(0,Eu)],[.cell (.slot 1) 0,.cell (.cap (.cell (.Ms (.slot 0) 3) 0) 0) 0],[.slot 1,.slot 0,.Ms (.slot 0) 3,.cap (.cell (.Ms (.slot 0) 3) 0) 0],[]⟩),(170,0,⟨[(0,dj),(0,IQ),(0,Eu)],[.cell (.slot 1) 0,.cell (.cap (.cell (.Ms (.cell (.slot 2) 0) 3) 0) 0) 0],[.slot 1,.slot 2,.slot 3,.cell (.slot 2) 0,.Ms (.cell (.slot 2) 0) 3,.cap (.cell (.Ms (.cell (.slot 2) 0) 3) 0) 0],[.dat .bool]⟩),(1000000,0,⟨[],[],[],[]⟩)]⟩
def Sj:Nat->Nat->LS×L (Int×Int)×(L Int×U)×U->O (U×LS×L (Int×Int)×(L Int×U)×U):=λn a x=>Qm (wY (E58 n) n a) 169 [(0,ads),(0,Eu),(0,Et)] [] [10,4,3] [11,13,6,5] (Rm ([10,4,3]++[11,13,6,5]) [(0,ads),(0,Eu),(0,Et)] (TN [.rE 13,.ptr 11 0])) (stJ [10,4,3] [11,13,6,5] ⟨trL [(13,lpR 58 68 [47] (rgN (UP (T5 58)) 0) [(5,.ptr 6 0)]),(11,.box [.ptr 10 0]),(6,.box [.fn (.func 112) [] [.ptr 5 0,.ptr 3 0]]),(5,.box [.mp 4])],0,0,0,[],[]⟩) x
def adK:Nat->Nat->LS×L (Int×Int)×U->O (U×LS×L (Int×Int)×U):=λn a x=>Qm (wY (E58 n) n a) 169 [(0,IQ),(0,Eu)] [] [14,4] [18,20,15,5] (Rm ([14,4]++[18,20,15,5]) [(0,IQ),(0,Eu)] (TN [.rE 20,.ptr 18 0])) (stJ [14,4] [18,20,15,5] ⟨trL [(20,lpR 157 42 [14] (rgN (UP (T5 157)) 0) [(3,.ptr 15 0)]),(18,.box [.ptr 14 0]),(15,.box [.fn (.func 114) [] [.ptr 5 0]]),(5,.box [.mp 4])],0,0,0,[],[]⟩) x
def Uj(c:Y77)(d:Z3):Int:=
 bp c.1.1.2.1 (az d.1) 0
def Ui(c:Y77)(h:Z3):bI:=
 bp c.1.1.1 (az (bp h.2.2.1.1 (az h.1) 0)) bG
def Uh(c:Y77)(j:Z3)(m:alq):bI:=
 bp c.1.1.1 (az (bp j.2.2.1.1 (az m.1) 0)) bG
def aeI(c:Y77)(q:Int×Pe×U):Int:=
 bp c.1.1.2.1 (az q.1) 0
def G58:alF:=
 λn a c=>ah (aO (Z3) (U) (alu) (λd=>ai (aC d.1 (av c.1.1.2.1)) (aT (aN d.1 c.1.1.2.1) (ai (ak (GK (A:=sg.A)
 (Ty.int .i64) (Uj c d) d.2.1)) (aT (dF d.2.2.1.1 [Uj c d]) (Z (N (aF .i64 d.1 1,iX (A:=sg.A) (Ty.int .i64) (Uj c d) (av
 d.2.2.1.1) d.2.1,(di d.2.2.1.1 [Uj c d],()),())))) (Z (N (aF .i64 d.1 1,d.2))))) (Z (H 0 d))) n (0,[],([],()),())) λ
 d=>bD d (λ_ g=>ah (aO (Z3) (U) (alu) (λh=>ai (aC h.1 (av h.2.2.1.1)) (aT (aN h.1 h.2.2.1.1) (aT (eR (az
 h.1) h.2.2.1.1) (aT (aN (bp h.2.2.1.1 (az h.1) 0) c.1.1.1) (ah (Sj n (a+10) (((Ui c h).1,(Ui c h).2,(Ui c h).3,(Ui c
 h).4,()),h.2)) λi=>Z (N (aF .i64 h.1 1,i.2.2)))))) (Z (H 0 h))) n (0,g.2)) λh=>bD h (λ_ j=>ah (F156 n
 (c.1.1.2.2.1,())) λk=>ah (F47 n (c.1.1.2.2.2.1,())) λl=>ah (aO (alq) (U) (Pe×L (Int×Int)×U) (λm=>ai
 (aC m.1 (av j.2.2.1.1)) (aT (aN m.1 j.2.2.1.1) (aT (eR (az m.1) j.2.2.1.1) (aT (aN (bp j.2.2.1.1 (az m.1) 0) c.1.1.1) (ah (F238 n
 ((Uh c j m).4,())) λo=>ah (adK n (a+8) (((Uh c j m).1,(Uh c j m).2,(Uh c j m).3,o.1),m.2.2)) λp=>aT (dF
 m.2.1.1 [bI.mk p.2.1.1 p.2.1.2.1 p.2.1.2.2.1 p.2.1.2.2.2.1]) (Z (N (aF .i64 m.1 1,(di m.2.1.1 [bI.mk p.2.1.1 p.2.1.2.1
 p.2.1.2.2.1 p.2.1.2.2.2.1],m.2.1.2),p.2.2))))))) (Z (H 0 m))) n (0,([],[],k.1.1,l.1.1,c.1.1.2.2.2.2.1,()),j.2.1,())) λm=>bD m
 (λ_ p=>ah (aO (Int×Pe×U) (U) (Pe×U) (λq=>ai (aC q.1 (av c.1.1.2.1)) (aT (aN q.1 c.1.1.2.1) (aT (dF
 q.2.1.2.1 [ET (A:=sg.A) (Ty.int .i64) 0 (aeI c q) p.2.2.1]) (Z (N (aF .i64 q.1 1,(q.2.1.1,di q.2.1.2.1 [ET (A:=sg.A) (Ty.int .i64)
 0 (aeI c q) p.2.2.1],q.2.1.2.2),()))))) (Z (H 0 q))) n (0,p.2.1,())) λq=>bD q (λ_ s=>Z ((aj.mk s.2.1.1 s.2.1.2.1
 s.2.1.2.2.1 s.2.1.2.2.2.1 s.2.1.2.2.2.2.1,()),c)) (λ_ _=>Z ((dg,()),c)) λ_ _=>Y) (λ_ _=>Z ((dg,()),c)) λ
 _ _=>Y) (λ_ _=>Z ((dg,()),c)) λ_ _=>Y) (λ_ _=>Z ((dg,()),c)) λ_ _=>Y
def F58(n:Nat):Fn P53 K54 J:=G58 n n
def k58(n:Nat):OC:=⟨58,⟨P53,K54,J,F58 n⟩,abQ [k47 n,acm n,Vz n,Yn n] (E58 n).sh (E58 n).cj n (n+10) 58⟩
def F24:Nat->Y49->O Y50:=
 λn b=>ah (F99 n (b.1,())) λc=>ai (ak (aa c.1.2.1 0)) (Z ((dg,2,()),())) (ah (aO (Y51) (Bool×U) (Y52)
 (λd=>ai (aC d.1 (av b.1.1)) (aT (aN d.1 c.1.1) (ai (bp c.1.1 (az d.1) aQ).1 (aT (aN d.1 b.1.1) (ai (aa (bp b.1.1
 (az d.1) bM).1 6) (aT (aN d.1 b.1.1) (Z (N (aF .i64 d.1 1,iX (A:=sg.A) (Ty.int .i64) (bp b.1.1 (az d.1) bM).2 W
 d.2.1,())))) (Z (N (aF .i64 d.1 1,d.2))))) (Z (N (aF .i64 d.1 1,d.2))))) (Z (H 0 d))) n (0,[],())) λd=>bD
 d (λ_ g=>ah (F111 n (cL.mk b.2.1 b.1 c.1.1 g.2.1,())) λh=>ai (ak h.1.1) (Z ((dg,2,()),())) (ah (F58 n
 (((b.2.1.1,b.2.1.2,b.2.1.3,b.2.1.4,b.2.1.5,b.1.1,b.1.2,b.1.3,b.1.4,b.1.5,c.1.1,()),()),g.2)) λi=>Z ((i.1.1,0,()),()))) (λ_ g
 =>ai (ak g.1) (Z ((dg,2,()),())) Y) λ_ _=>Y)
def k24(n:Nat):OC:=⟨24,⟨P66,K56,J,F24 n⟩,cV [k58 n,k99 n,aco n] [(44,0,⟨[(23,dj),(0,RK)],[.cell (.slot 19) 11],[],0⟩)] n 10 24⟩
def aaA(n:Nat):O Y38:=
 Z ((dg,cZ,0,2,()),())
def F28:Nat->Y99->O Y38:=
 λn b=>ah (F99 n (b.1,())) λc=>ai (ak (aa c.1.2.1 0)) (aaA n) (ah (aO (Y51) (Bool×U) (Y52) (λd=>ai (aC d.1
 (av b.1.1)) (aT (aN d.1 c.1.1) (ai (bp c.1.1 (az d.1) aQ).1 (aT (aN d.1 b.1.1) (ai (aa (bp b.1.1 (az d.1) bM).1 6)
 (aT (aN d.1 b.1.1) (Z (N (aF .i64 d.1 1,iX (A:=sg.A) (Ty.int .i64) (bp b.1.1 (az d.1) bM).2 W d.2.1,())))) (Z
 (N (aF .i64 d.1 1,d.2))))) (Z (N (aF .i64 d.1 1,d.2))))) (Z (H 0 d))) n (0,[],())) λd=>bD d (λ_ g=>ah
 (F111 n (cL.mk b.2.1 b.1 c.1.1 g.2.1,())) λh=>ai (ak h.1.1) (aaA n) (ah (F57 n (((b.2.1.1,b.2.1.2,b.2.1.3,b.2.1.4,b.2.1.5,
 b.1.1,b.1.2,b.1.3,b.1.4,b.1.5,c.1.1,()),()),g.2.1,b.2.2)) λi=>ai (ak (aa i.1.2.2.1 0)) (Z ((dg,cZ,0,
 i.1.2.2),())) (ah (F49 n i.2) λj=>Z ((j.1.1,i.1.1,i.1.2.1,0,()),())))) (λ_ g=>ai (ak g.1) (aaA n) Y) λ_ _=>Y)
def k28(n:Nat):OC:=⟨28,⟨P67,K68,J,F28 n⟩,cV [k49 n,k57 n,k99 n,aco n] [(44,0,⟨[(23,dj),(0,RK)],[.cell (.slot 19) 11],[],0⟩)] n 10 28⟩
def LZ(n:Nat)(c:Int×U):Y85:=
 Z (N (aF .i64 c.1 1,()))
def F302:Nat->RY->Ip:=
 λn b=>ah (aO (Int×U) (Int×U) (U) (λc=>ai (aC c.1 (av b.1)) (aT (aN c.1 b.1) (ai (aa (mA b.1 c.1) 32)
 (LZ n c) (aT (aN c.1 b.1) (ai (aa (mA b.1 c.1) 9) (LZ n c) (aT (aN c.1 b.1) (ai (aa (mA b.1 c.1) 10) (LZ n c) (ai (bn
 2 (bF .i64 (av b.1) c.1)) (aT (fV c.1 (aF .i64 c.1 2) (av b.1)) (ai (gp (cY b.1 c.1 (aF .i64 c.1 2)) [47,47]) (ah (aO (Int×
 U) (Int×U) (U) (λd=>ai (aC d.1 (av b.1)) (aT (aN d.1 b.1) (ai (ak (aa (mA b.1 d.1) 10)) (LZ n d) (Z
 (H 0 d)))) (Z (H 0 d))) n c) λd=>bD d (λ_ g=>Z (N g)) (λ_ g=>Z (X () g)) λ_ _=>Y) (Z (X
 () c)))) (Z (X () c))))))))) (Z (H 0 c))) n b.2) λc=>bD c (λ_ e=>Z (e,())) (λ_ e=>Z (e,())) λ_ _=>Y
def aom(n:Nat):OC:=⟨302,⟨P69,K2,J,F302 n⟩,cV [] [(302,0,⟨[(1,dj)],[],[],0⟩),(302,2,⟨[(1,dj)],[],[],0⟩)] n 10 302⟩
def F141:Nat->alH->O Y4:=
 λn b=>ah (aO (Int×U) (Bool×U) (U) (λc=>ai (aC c.1 (av b.1)) (aT (aN c.1 b.1) (ai (gp (bp b.1 (az c.1)
 []) b.2.1) (Z (X () (W,()))) (Z (N (aF .i64 c.1 1,()))))) (Z (H 0 c))) n (0,())) λc=>bD c (λ_ _=>Z
 ((J,()),())) (λ_ e=>Z (e,())) λ_ _=>Y
def acn(n:Nat):OC:=⟨141,⟨P70,K4,J,F141 n⟩,cV [] [(141,0,⟨[(5,dj)],[],[],0⟩)] n 10 141⟩
def F308:Nat->U->Pm:=
 λn _=>Z (([[98,111,111,108],[99,101,108,108],[99,104,97,110],[101,108,115,101],[102,97,108,115,101],[102,117,110],[103,
 101,116],[105,102],[105,110],[105,110,112,117,116],[105,110,116],[106,111,105,110],[108,101,116],[109,97,116,99,104],[109,
 111,100,117,108,101],[111,117,116],[112,97,117,115,101],[112,117,116],[114,101,115,101,116],[115,101,110,100],[115,104,105,
 102,116],[115,112,97,119,110],[116,97,107,101],[116,97,115,107],[116,104,101,110],[116,114,117,101],[116,121,112,101],[117,
 110,105,116]],()),())
def aok(n:Nat):OC:=⟨308,⟨[],K71,J,F308 n⟩,cV [] [] n 10 308⟩
def F276:Y62:=
 λn b=>ah (F308 n ()) λc=>ah (F141 n (c.1.1,b)) λd=>Z d
def ai8(n:Nat):OC:=⟨276,⟨P7,K4,J,F276 n⟩,cV [acn n,aok n] [] n 10 276⟩
def F317:Y5:=
 λn b=>ai (bn 97 b.1) (Z ((bn b.1 122,()),())) (Z ((J,()),()))
def ai5(n:Nat):OC:=⟨317,⟨P72,K4,J,F317 n⟩,cV [] [] n 10 317⟩
def F320:Y5:=
 λn b=>ai (bn 48 b.1) (Z ((bn b.1 57,()),())) (Z ((J,()),()))
def ai3(n:Nat):OC:=⟨320,⟨P72,K4,J,F320 n⟩,cV [] [] n 10 320⟩
def aaw(n:Nat)(b:alB)(c:Int×U):Y85:=
 ai (ak b.2.2.1) (aT (aN c.1 b.1) (ah (F317 n (mA b.1 c.1,())) λe=>ai e.1.1 (Z (N (aF .i64 c.1 1,()))) (Z (H 0
 c)))) (Z (H 0 c))
def F318:Nat->alB->Ip:=
 λn b=>ah (aO (Int×U) (Int×U) (U) (λc=>ai (aC c.1 (av b.1)) (ai b.2.2.1 (aT (aN c.1 b.1) (ah (F320 n (mA
 b.1 c.1,())) λd=>ai d.1.1 (Z (N (aF .i64 c.1 1,()))) (aaw n b c))) (aaw n b c)) (Z (H 0 c))) n (b.2.1,())) λc=>
 bD c (λ_ e=>Z ((bF .i64 e.1 b.2.1,()),())) (λ_ e=>Z (e,())) λ_ _=>Y
def ai4(n:Nat):OC:=⟨318,⟨P73,K2,J,F318 n⟩,cV [ai5 n,ai3 n] [(318,0,⟨[(7,dj)],[],[],0⟩)] n 10 318⟩
def F319:Y5:=
 λn b=>ai (bn 65 b.1) (Z ((bn b.1 90,()),())) (Z ((J,()),()))
def aoh(n:Nat):OC:=⟨319,⟨P72,K4,J,F319 n⟩,cV [] [] n 10 319⟩
def F321:Nat->RY->Ip:=
 λn b=>aT (aN b.2.1 b.1) (ah (ai (aa (mA b.1 b.2.1) 126) (Z (N (aF .i64 b.2.1 1,W,()))) (Z (N (b.2.1,J,
 ())))) λ(c:Y98)=>cM c (λd=>ah (F318 n (b.1,d.1,W,())) λe=>ai (aa e.1.1 0) (Z ((0,()),())) (ai (aC 10 e.1.1)
 (Z ((0,()),())) (aT (aN d.1 b.1) (ai (aa (mA b.1 d.1) 48) (ai (aC 1 e.1.1) (Z ((0,()),())) (ai (aC b.2.1 d.1) (Z ((0,
 ()),())) (Z ((aF .i64 (bF .i64 d.1 b.2.1) e.1.1,()),())))) (Z ((aF .i64 (bF .i64 d.1 b.2.1) e.1.1,()),())))))) (λ_ _=>
 Y) (λ_ e=>Z (e,())) λ_ _=>Y)
def aog(n:Nat):OC:=⟨321,⟨P69,K2,J,F321 n⟩,cV [ai4 n] [(321,1000003,⟨[(5,dj),(11,dQ)],[],[],0⟩)] n 10 321⟩
abbrev Xo(F:Fn P7 K2 J):lz sg:=⟨P7,K2,J,F⟩
def B322:Nat->(L UInt8×U->Ip)->L UInt8×U->Ip:=
 λn f322 c=>aT (aN 0 c.1) (ai (aa (mA c.1 0) 126) (aT (fV 1 (av c.1) (av c.1)) (ah (f322 (cY c.1 1 (av c.1),())) λd=>
 Z ((PC .i64 d.1.1,()),()))) (ah (aO (Int×Int×U) (Int×U) (U) (λd=>ai (aC d.2.1 (av c.1)) (aT (aN d.2.1
 c.1) (Z (N (aF .i64 (Kl .i64 10 d.1) (Sy .i64 (bF .u8 (mA c.1 d.2.1) 48)),aF .i64 d.2.1 1,())))) (Z (H 0 d))) n
 (0,0,())) λd=>bD d (λ_ g=>Z ((g.1,()),())) (λ_ g=>Z (g,())) λ_ _=>Y))
def D322(n:Nat)(f322:Fn P7 K2 J)(a:bA prog 322 (Xo f322)):bA prog 322 (Xo (B322 n f322)):=cV [⟨322,Xo f322,a⟩] [(322,0,⟨[(3,dj),(4,dj)],[],[],0⟩)] n 10 322
def R322(n k:Nat):(Fn P7 K2 J):=Nat.rec (motive:=λ_=>(Fn P7 K2 J)) (λ_=>Y) (λ_ r=>B322 n r) k
def F322(n:Nat):Fn P7 K2 J:=(R322 n n)
def aeM(n:Nat):∀k,bA prog 322 (Xo (R322 n k))
 |0=>ck (enters 322 (by kernel_rfl))
 |k+1=>have a:=aeM n k
  D322 n _ a
def aof(n:Nat):OC:=⟨322,Xo (F322 n),(aeM n n)⟩
def F329:Nat->U->Pm:=
 λn _=>Z (([[61,62],[61,61],[45,62],[61],[60],[43],[45],[42],[40],[41],[123],[125],[124],[44],[59],[58],[95],[63]],()),())
def aob(n:Nat):OC:=⟨329,⟨[],K71,J,F329 n⟩,cV [] [] n 10 329⟩
def F323:Nat->RY->O ((L UInt8×U)×U):=
 λn b=>ah (F329 n ()) λc=>ah (aO (Int×U) (L UInt8×U) (U) (λd=>ai (aC d.1 (av c.1.1)) (aT (aN d.1
 c.1.1) (ai (bn (av (bp c.1.1 (az d.1) [])) (bF .i64 (av b.1) b.2.1)) (aT (aN d.1 c.1.1) (aT (fV b.2.1 (aF .i64 b.2.1 (av (bp
 c.1.1 (az d.1) []))) (av b.1)) (aT (aN d.1 c.1.1) (ai (gp (cY b.1 b.2.1 (aF .i64 b.2.1 (av (bp c.1.1 (az d.1) [])))) (bp c.1.1
 (az d.1) [])) (aT (aN d.1 c.1.1) (Z (X () (bp c.1.1 (az d.1) [],())))) (Z (N (aF .i64 d.1 1,()))))))) (Z (N
 (aF .i64 d.1 1,()))))) (Z (H 0 d))) n (0,())) λd=>bD d (λ_ _=>Z (([],()),())) (λ_ g=>Z (g,())) λ_ _=>Y
def aoe(n:Nat):OC:=⟨323,⟨P69,K74,J,F323 n⟩,cV [aob n] [(323,0,⟨[(6,dj)],[],[],0⟩)] n 10 323⟩
def Sq(b:RY)(d:(Int×U)×U):Bool:=
 fV b.2.1 (aF .i64 b.2.1 d.1.1) (av b.1)
def zY(b:RY)(d:(Int×U)×U):L UInt8:=
 cY b.1 b.2.1 (aF .i64 b.2.1 d.1.1)
def Sp(n:Nat):Bool×ahe×U->ahd:=
 λh=>Z ((fK.mk h.2.1.1 h.2.1.2.1 h.2.1.2.2.1 h.2.1.2.2.2.1,()),())
def aay(n:Nat)(b:RY):ahd:=
 ah (F321 n b) λg=>ah (ai (aC 0 g.1.1) (aT (Sq b g) (aT (Sq b g) (ah (F322 n (zY b g,())) λh=>Z (N (W,(4,
 zY b g,h.1.1,b.2),()))))) (Z (N (J,(0,[],0,b.2),())))) λ(h:adz)=>cM h (Sp n) (λ_ _=>Y) (λ_ _=>Z
 ((dK,()),())) λ_ _=>Y
def F303:Nat->RY->ahd:=
 λn b=>aT (aN b.2.1 b.1) (ah (F317 n (mA b.1 b.2.1,())) λc=>ai c.1.1 (ah (F318 n (b.1,b.2.1,J,())) λd=>aT (Sq b d)
 (ah (F276 n (zY b d,())) λe=>ah (ai e.1.1 (Z (N (W,(3,zY b d,0,b.2),()))) (ah (ai (bn (av (zY b d)) 8)
 (Z (N (W,(1,zY b d,0,b.2),()))) (Z (N (J,(0,zY b d,0,b.2),())))) λ(g:adz)=>cM g (λh=>Z
 (N (J,h.2))) (λ_ _=>Y) (λh _=>Z (X h ())) λ_ _=>Y)) λ(g:adz)=>cM g (Sp n) (λ_ _=>Y) (λ
 _ _=>Z ((dK,()),())) λ_ _=>Y)) (aT (aN b.2.1 b.1) (ah (F319 n (mA b.1 b.2.1,())) λd=>ai d.1.1 (ah (F318 n (b.1,
 aF .i64 b.2.1 1,J,())) λe=>aT (fV b.2.1 (aF .i64 (aF .i64 b.2.1 1) e.1.1) (av b.1)) (ah (ai (bn (av (cY b.1 b.2.1
 (aF .i64 (aF .i64 b.2.1 1) e.1.1))) 8) (Z (N (W,(2,cY b.1 b.2.1 (aF .i64 (aF .i64 b.2.1 1) e.1.1),0,b.2),()))) (Z
 (N (J,(0,cY b.1 b.2.1 (aF .i64 (aF .i64 b.2.1 1) e.1.1),0,b.2),())))) λ(g:adz)=>cM g (Sp n) (λ_ _=>Y)
 (λ_ _=>Z ((dK,()),())) λ_ _=>Y)) (aT (aN b.2.1 b.1) (ah (F320 n (mA b.1 b.2.1,())) λe=>ai e.1.1 (aay n b)
 (aT (aN b.2.1 b.1) (ai (aa (mA b.1 b.2.1) 126) (aay n b) (ah (F323 n b) λg=>ai (ak (gp g.1.1 [])) (Z ((fK.mk 5 g.1.1
 0 b.2.1,()),())) (Z ((fK.mk 0 g.1.1 0 b.2.1,()),()))))))))))
def aol(n:Nat):OC:=⟨303,⟨P69,K75,J,F303 n⟩,cV [ai8 n,ai5 n,ai4 n,aoh n,ai3 n,aog n,aof n,aoe n] [(303,1000005,⟨[(24,dQ),(0,adq)],[.slot 5],[],0⟩),(303,1000007,⟨[(29,dQ),(0,adq)],[.slot 5],[],0⟩),(303,1000012,⟨[(50,dQ),(0,adq)],[.slot 5],[],0⟩),(303,1000017,⟨[(67,dQ),(0,adq)],[.slot 5],[],0⟩)] n 10 303⟩
def F270:alU:=
 λn b=>ah (F302 n (b.1,0,())) λc=>ah (aO (ahr) (ahr) (U) (λd=>ai (aC d.2.1 (av b.1)) (ah (F303 n (b.1,d.2)) λ
 e=>ai (aa e.1.1.1 0) (Z (X () d)) (aT (dF d.1 [e.1.1]) (ah (F302 n (b.1,aF .i64 d.2.1 (av e.1.1.2),())) λg=>Z (N
 (di d.1 [e.1.1],g.1))))) (Z (H 0 d))) n ([],c.1)) λd=>bD d (λ_ g=>Z ((g.1,av b.1,()),())) (λ_ g=>Z (g,()))
 λ_ _=>Y
def aov(n:Nat):OC:=⟨270,⟨P7,K76,J,F270 n⟩,cV [aom n,aol n] [(270,0,⟨[(4,.one (.own (.st 35))),(5,dj)],[],[],0⟩)] n 10 270⟩
def F202:alU:=
 λn b=>ai (aC 8000 (av b.1)) (Z (([],3,()),())) (ah (F270 n b) λc=>ai (aC c.1.2.1 (av b.1)) (Z (([],4,()),())) (Z
 ((c.1.1,0,()),())))
def aoL(n:Nat):OC:=⟨202,⟨P7,K76,J,F202 n⟩,cV [aov n] [] n 10 202⟩
def F272:Nat->bJ×L UInt8×U->O Y4:=
 λn b=>ai b.1.3 (Z ((J,()),())) (ai (bn (av b.1.1) b.1.2) (Z ((J,()),())) (aT (aN b.1.2 b.1.1) (ai (aa (bp b.1.1
 (az b.1.2) dK).1 5) (Z ((gp (bp b.1.1 (az b.1.2) dK).2 b.2.1,()),())) (ai (aa (bp b.1.1 (az b.1.2) dK).1 3)
 (Z ((gp (bp b.1.1 (az b.1.2) dK).2 b.2.1,()),())) (Z ((J,()),()))))))
def afI(n:Nat):OC:=⟨272,⟨P77,K4,J,F272 n⟩,cV [] [] n 10 272⟩
def F205:Nat->alR->O ahj:=
 λn b=>ah (F272 n (bJ.mk b.1.1 b.1.2.1 b.1.2.2.1,b.2)) λc=>ai c.1.1 (Z (c.1,(b.1.1,aF .i64 b.1.2.1 1,b.1.2.2),()))
 (Z (c.1,b.1,()))
def Gx(n:Nat):OC:=⟨205,⟨P78,K4,J,F205 n⟩,cV [afI n] [] n 10 205⟩
def F203:Nat->alR->adG:=
 λn b=>ah (F205 n b) λc=>ai (ak c.1.1) (Z ((),(c.2.1.1,c.2.1.2.1,W,()),())) (Z ((),c.2))
def Gy(n:Nat):OC:=⟨203,⟨P78,[],J,F203 n⟩,cV [Gx n] [] n 10 203⟩
def F271:Nat->bJ×Int×U->O Y4:=
 λn b=>ai (ak b.1.3) (ai (aC b.1.2 (av b.1.1)) (aT (aN b.1.2 b.1.1) (Z ((aa (bp b.1.1 (az b.1.2) dK).1 b.2.1,()),
 ()))) (Z ((J,()),()))) (Z ((J,()),()))
def afJ(n:Nat):OC:=⟨271,⟨P79,K4,J,F271 n⟩,cV [] [] n 10 271⟩
def F204:Nat->lu×Int×U->O ((fK×U)×lu×U):=
 λn b=>ah (F271 n (bJ.mk b.1.1 b.1.2.1 b.1.2.2.1,b.2)) λc=>ai (ak c.1.1) (Z ((dK,()),(b.1.1,b.1.2.1,W,
 ()),())) (aT (aN b.1.2.1 b.1.1) (Z ((bp b.1.1 (az b.1.2.1) dK,()),(b.1.1,aF .i64 b.1.2.1 1,b.1.2.2),())))
def Le(n:Nat):OC:=⟨204,⟨Po,K75,J,F204 n⟩,cV [afJ n] [] n 10 204⟩
abbrev QC(F:Fn lV K82 J):lz sg:=⟨lV,K82,J,F⟩
def SG(e:Pj):cE:=
 cE.mk e.1.1.1 e.1.1.2 e.1.1.3 e.1.1.4
def B273:Nat->Z8->Z8->lu×U->O Pj:=
 λn f273 f304 d=>ah (f304 d) λe=>ah (F205 n (e.2.1,[45,62],())) λg=>ai g.1.1 (ah (f273 g.2) λh=>Z ((cE.mk 4 0 []
 [SG e,SG h],()),h.2)) (Z ((SG e,()),g.2))
abbrev U3(F:Fn lV K82 J):lz sg:=⟨lV,K82,J,F⟩
def SF(n:Nat)(f273:Z8)(f324:aly):Pj->O Pj:=
 λj=>Z ((cE.mk j.1.1.1 j.1.1.2 j.1.1.3 j.1.1.4,()),j.2)
def B304:Nat->Z8->aly->lu×U->O Pj:=
 λn f273 f324 d=>ah (F205 n (d.1,[105,110,116],())) λe=>ai e.1.1 (Z ((cE.mk 1 0 [] [],()),e.2)) (ah (F205 n (e.2.1,[98,
 111,111,108],())) λg=>ai g.1.1 (Z ((cE.mk 2 0 [] [],()),g.2)) (ah (F205 n (g.2.1,[117,110,105,116],())) λh=>ai h.1.1
 (Z ((cE.mk 3 0 [] [],()),h.2)) (ah (F205 n (h.2.1,[99,101,108,108],())) λi=>ai i.1.1 (ah (f324 (i.2.1,5,())) (SF n f273
 f324)) (ah (F205 n (i.2.1,[99,104,97,110],())) λj=>ai j.1.1 (ah (f324 (j.2.1,6,())) (SF n f273 f324)) (ah (F205 n (j.2.1,[116,97,
 115,107],())) λk=>ai k.1.1 (ah (f324 (k.2.1,7,())) (SF n f273 f324)) (ah (F205 n (k.2.1,[63],())) λl=>ai l.1.1 (ah (F204 n
 (l.2.1,4,())) λm=>Z ((cE.mk 9 m.1.1.3 [] [],()),m.2)) (ah (F205 n (l.2.1,[40],())) λm=>ai m.1.1 (ah (f273 m.2) λo=>ah
 (F203 n (o.2.1,[41],())) λp=>Z ((cE.mk o.1.1.1 o.1.1.2 o.1.1.3 o.1.1.4,()),p.2)) (ah (F204 n (m.2.1,2,())) λo=>Z
 ((cE.mk 8 0 o.1.1.2 [],()),o.2)))))))))
abbrev abA(F:Fn Po K82 J):lz sg:=⟨Po,K82,J,F⟩
def B324:Nat->Z8->lu×Int×U->O Pj:=
 λn f304 c=>ah (f304 (c.1,())) λd=>Z ((cE.mk c.2.1 0 [] [cE.mk d.1.1.1 d.1.1.2 d.1.1.3 d.1.1.4],()),d.2)
def D273(n:Nat)(f273:Fn lV K82 J)(f304:Fn lV K82 J)(a:bA prog 273 (QC f273))(b:bA prog 304 (U3 f304)):bA prog 273 (QC (B273 n f273 f304)):=cV [Gx n,⟨273,QC f273,a⟩,⟨304,U3 f304,b⟩] [] n 10 273
def D304(n:Nat)(f273:Fn lV K82 J)(f324:Fn Po K82 J)(a:bA prog 273 (QC f273))(b:bA prog 324 (abA f324)):bA prog 304 (U3 (B304 n f273 f324)):=cV [Gy n,Le n,Gx n,⟨273,QC f273,a⟩,⟨324,abA f324,b⟩] [] n 10 304
def D324(n:Nat)(f304:Fn lV K82 J)(a:bA prog 304 (U3 f304)):bA prog 324 (abA (B324 n f304)):=cV [⟨304,U3 f304,a⟩] [] n 10 324
def R273(n k:Nat):(Fn lV K82 J)×(Fn lV K82 J)×(Fn Po K82 J):=Nat.rec (motive:=λ_=>(Fn lV K82 J)×(Fn lV K82 J)×(Fn Po K82 J)) ((λ_=>Y,λ_=>Y,λ_=>Y)) (λ_ r=>(B273 n r.1 r.2.1,B304 n r.1 r.2.2,B324 n r.2.1)) k
def F273(n:Nat):Fn lV K82 J:=(R273 n n).1
def aeU(n:Nat):∀k,bA prog 273 (QC (R273 n k).1)∧bA prog 304 (U3 (R273 n k).2.1)∧bA prog 324 (abA (R273 n k).2.2)
 |0=>⟨ck (enters 273 (by kernel_rfl)),ck (enters 304 (by kernel_rfl)),ck (enters 324 (by kernel_rfl))⟩
 |k+1=>have a:=aeU n k
  ⟨D273 n _ _ a.1 a.2.1,D304 n _ _ a.1 a.2.2,D324 n _ a.2.1⟩
def aja(n:Nat):OC:=⟨273,QC (F273 n),(aeU n n).1⟩
def F206:Nat->lu×U->O ((kq×U)×lu×U):=
 λn b=>ah (F204 n (b.1,2,())) λc=>ah (F203 n (c.2.1,[61],())) λd=>ah (aO (Bool×lu×alE×U) (U) (lu×alE×U) (λe=>ai e.1 (ai (ak e.2.1.2.2.1) (ah (F204 n (e.2.1,2,())) λg=>ah (F205 n (g.2.1,[40],())) λh=>ah (ai h.1.1 (ah
 (aO (alC) (U) (lu×ahk×U) (λi=>ai i.1 (ai (ak i.2.1.2.2.1) (ah (F273 n (i.2.1,())) λj=>aT (dF i.2.2.1.2.1
 [cE.mk j.1.1.1 j.1.1.2 j.1.1.3 j.1.1.4]) (ah (F205 n (j.2.1,[44],())) λk=>Z (N (k.1.1,k.2.1,(i.2.2.1.1,di i.2.2.1.2.1
 [cE.mk j.1.1.1 j.1.1.2 j.1.1.3 j.1.1.4],()),())))) (Z (H 0 i))) (Z (H 0 i))) n (W,h.2.1,(g.1.1.2,[],()),())) λi=>
 bD i (λ_ k=>ah (F203 n (k.2.1,[41],())) λl=>Z (N (W,l.2.1,k.2.2))) (λj _=>Z (X j ())) λ_ _=>Y) (Z
 (N (J,h.2.1,(g.1.1.2,[],()),())))) λ(i:LO alC U (lu×ahk×U) Any)=>cM i (λj=>aT (dF e.2.2.1.2.1
 [iN.mk j.2.2.1.1 j.2.2.1.2.1]) (ah (F205 n (j.2.1,[124],())) λk=>Z (N (k.1.1,k.2.1,(e.2.2.1.1,di e.2.2.1.2.1
 [iN.mk j.2.2.1.1 j.2.2.1.2.1],()),())))) (λ_ _=>Y) (λj _=>Z (X (j.1,e.2.2) ())) λ_ _=>Y) (Z (H 0 e)))
 (Z (H 0 e))) n (W,d.2.1,(c.1.1.2,[],()),())) λe=>bD e (λ_ h=>ah (F203 n (h.2.1,[59],())) λi=>Z ((kq.mk
 h.2.2.1.1 h.2.2.1.2.1,()),i.2)) (λg _=>Z ((mq,()),g.1,())) λ_ _=>Y
def aoK(n:Nat):OC:=⟨206,⟨lV,K83,J,F206 n⟩,cV [Gy n,Le n,Gx n,aja n] [(206,0,⟨[(4,dQ),(0,yz),(0,.box (.cells [.dat (.str),.own (.st 19)]))],[.slot 0,.slot 3],[],0⟩),(206,2,⟨[(6,dQ),(0,yz),(0,ala)],[.slot 0,.slot 5],[],0⟩),(206,1000007,⟨[(27,dQ),(0,yz),(0,ala)],[.slot 0,.slot 5],[],0⟩)] n 10 206⟩
def F307:Nat->Int×Term×Term×U->O Y16:=
 λn b=>Z ((Term.mk b.1 0 [] [Term.mk b.2.1.1 b.2.1.2 b.2.1.3 b.2.1.4 b.2.1.5,Term.mk b.2.2.1.1 b.2.2.1.2 b.2.2.1.3 b.2.2.1.4 b.2.2.1.5] [],
 ()),())
def acd(n:Nat):OC:=⟨307,⟨P84,K85,J,F307 n⟩,cV [] [] n 10 307⟩
abbrev Xm(F:Fn lV K86 J):lz sg:=⟨lV,K86,J,F⟩
def B337:Nat->(lu×U->O Y20)->lu×U->O Y20:=
 λn f337 c=>ah (F205 n (c.1,[95],())) λd=>ai d.1.1 (Z ((aD.mk 1 0 [] [],()),d.2)) (ah (F271 n (bJ.mk d.2.1.1
 d.2.1.2.1 d.2.1.2.2.1,1,())) λe=>ai e.1.1 (ah (F204 n (d.2.1,1,())) λg=>Z ((aD.mk 2 0 g.1.1.2 [],()),g.2)) (ah (F271 n
 (bJ.mk d.2.1.1 d.2.1.2.1 d.2.1.2.2.1,4,())) λg=>ai g.1.1 (ah (F204 n (d.2.1,4,())) λh=>Z ((aD.mk 3 h.1.1.3 []
 [],()),h.2)) (ah (F205 n (d.2.1,[116,114,117,101],())) λh=>ai h.1.1 (Z ((aD.mk 4 1 [] [],()),h.2)) (ah (F205 n (h.2.1,[102,
 97,108,115,101],())) λi=>ai i.1.1 (Z ((aD.mk 4 0 [] [],()),i.2)) (ah (F205 n (i.2.1,[40],())) λj=>ai j.1.1 (ah (F203 n
 (j.2.1,[41],())) λk=>Z ((aD.mk 5 0 [] [],()),k.2)) (ah (F204 n (j.2.1,2,())) λk=>ah (F205 n (k.2.1,[40],())) λl=>ai
 l.1.1 (ah (aO (Bool×lu×Y87×U) (U) (lu×Y87×U) (λm=>ai m.1 (ai (ak m.2.1.2.2.1) (ah (f337 (m.2.1,())) λo
 =>aT (dF m.2.2.1.2.2.2.1 [aD.mk o.1.1.1 o.1.1.2 o.1.1.3 o.1.1.4]) (ah (F205 n (o.2.1,[44],())) λp=>Z (N (p.1.1,p.2.1,
 (m.2.2.1.1,m.2.2.1.2.1,m.2.2.1.2.2.1,di m.2.2.1.2.2.2.1 [aD.mk o.1.1.1 o.1.1.2 o.1.1.3 o.1.1.4],()),())))) (Z (H 0 m))) (Z
 (H 0 m))) n (W,l.2.1,(6,0,k.1.1.2,[],()),())) λm=>bD m (λ_ p=>ah (F203 n (p.2.1,[41],())) λq=>Z ((aD.mk
 p.2.2.1.1 p.2.2.1.2.1 p.2.2.1.2.2.1 p.2.2.1.2.2.2.1,()),q.2)) (λo _=>Z ((aL,()),o.1,())) λ_ _=>Y) (Z ((aD.mk 6 0
 k.1.1.2 [],()),l.2))))))))
def D337(n:Nat)(f337:Fn lV K86 J)(a:bA prog 337 (Xm f337)):bA prog 337 (Xm (B337 n f337)):=cV [Gy n,Le n,Gx n,afJ n,⟨337,Xm f337,a⟩] [(337,1,⟨[(4,dQ),(0,yz),(0,ag4)],[.slot 0,.slot 3],[],0⟩)] n 10 337
def R337(n k:Nat):(Fn lV K86 J):=Nat.rec (motive:=λ_=>(Fn lV K86 J)) (λ_=>Y) (λ_ r=>B337 n r) k
def F337(n:Nat):Fn lV K86 J:=(R337 n n)
def aeK(n:Nat):∀k,bA prog 337 (Xm (R337 n k))
 |0=>ck (enters 337 (by kernel_rfl))
 |k+1=>have a:=aeK n k
  D337 n _ a
def an9(n:Nat):OC:=⟨337,Xm (F337 n),(aeK n n)⟩
def F336:Nat->L UInt8×U->O Y59:=
 λn b=>ai (gp b.1 [99,101,108,108]) (Z ((16,1,()),())) (ai (gp b.1 [103,101,116]) (Z ((17,1,()),())) (ai (gp b.1 [112,
 117,116]) (Z ((18,2,()),())) (ai (gp b.1 [115,112,97,119,110]) (Z ((19,1,()),())) (ai (gp b.1 [106,111,105,110]) (Z ((20,
 1,()),())) (ai (gp b.1 [99,104,97,110]) (Z ((21,0,()),())) (ai (gp b.1 [115,101,110,100]) (Z ((22,2,()),())) (ai (gp b.1
 [116,97,107,101]) (Z ((23,1,()),())) (ai (gp b.1 [111,117,116]) (Z ((24,(-1),()),())) (ai (gp b.1 [105,110,112,117,116])
 (Z ((25,0,()),())) (ai (gp b.1 [114,101,115,101,116]) (Z ((26,1,()),())) (ai (gp b.1 [112,97,117,115,101]) (Z ((28,0,
 ()),())) (Z ((0,0,()),())))))))))))))
def ai2(n:Nat):OC:=⟨336,⟨P7,K16,J,F336 n⟩,cV [] [] n 10 336⟩
def F332:alK:=
 λn b=>ai b.1.3 (Z ((J,()),())) (ai (bn (av b.1.1) b.1.2) (Z ((J,()),())) (aT (aN b.1.2 b.1.1) (ai (aa (bp b.1.1
 (az b.1.2) dK).1 3) (ah (F336 n ((bp b.1.1 (az b.1.2) dK).2,())) λc=>ai (ak (aa c.1.1 0)) (Z ((W,()),()))
 (ai (gp (bp b.1.1 (az b.1.2) dK).2 [116,114,117,101]) (Z ((W,()),())) (ai (gp (bp b.1.1 (az b.1.2) dK).2 [102,
 97,108,115,101]) (Z ((W,()),())) (Z ((gp (bp b.1.1 (az b.1.2) dK).2 [109,97,116,99,104],()),()))))) (ai (ak
 (aa (bp b.1.1 (az b.1.2) dK).1 5)) (Z ((W,()),())) (Z ((gp (bp b.1.1 (az b.1.2) dK).2 [40],()),()))))))
def aoa(n:Nat):OC:=⟨332,⟨P87,K4,J,F332 n⟩,cV [ai2 n] [] n 10 332⟩
abbrev zo(F:Fn lV K85 J):lz sg:=⟨lV,K85,J,F⟩
def oX(h:Mz):Term:=
 Term.mk h.1.1.1 h.1.1.2 h.1.1.3 h.1.1.4 h.1.1.5
def aaS(o:Y16):Term:=
 Term.mk o.1.1.1 o.1.1.2 o.1.1.3 o.1.1.4 o.1.1.5
def B274:Nat->My->(lu×Int×U->O Mz)->My->lu×U->O Mz:=
 λn f274 f305 f306 e=>ah (F205 n (e.1,[102,117,110],())) λg=>ai g.1.1 (ah (f305 (g.2.1,5,())) λh=>Z ((oX h,()),h.2))
 (ah (F205 n (g.2.1,[115,104,105,102,116],())) λh=>ai h.1.1 (ah (f305 (h.2.1,27,())) λi=>Z ((oX i,()),i.2)) (ah (F205 n
 (h.2.1,[108,101,116],())) λi=>ai i.1.1 (ah (F204 n (i.2.1,1,())) λj=>ah (F203 n (j.2.1,[61],())) λk=>ah (f274 k.2) λl=>
 ah (F203 n (l.2.1,[105,110],())) λm=>ah (f274 m.2) λo=>Z ((Term.mk 7 0 j.1.1.2 [oX l,oX o] [],()),o.2)) (ah (F205 n
 (i.2.1,[105,102],())) λj=>ai j.1.1 (ah (f274 j.2) λk=>ah (F203 n (k.2.1,[116,104,101,110],())) λl=>ah (f274 l.2) λm=>
 ah (F203 n (m.2.1,[101,108,115,101],())) λo=>ah (f274 o.2) λp=>Z ((Term.mk 8 0 [] [oX k,oX m,oX p] [],()),p.2))
 (ah (f306 j.2) λk=>ah (F205 n (k.2.1,[60],())) λl=>ai l.1.1 (ah (f306 l.2) λm=>ah (F307 n (12,oX k,oX m,())) λo=>
 Z ((aaS o,()),m.2)) (ah (F205 n (l.2.1,[61,61],())) λm=>ai m.1.1 (ah (f306 m.2) λo=>ah (F307 n (13,oX k,oX o,()))
 λp=>Z ((aaS p,()),o.2)) (Z ((oX k,()),m.2)))))))
abbrev abC(F:Fn Po K85 J):lz sg:=⟨Po,K85,J,F⟩
def B305:Nat->My->lu×Int×U->O Mz:=
 λn f274 c=>ah (F204 n (c.1,1,())) λd=>ah (F203 n (d.2.1,[61,62],())) λe=>ah (f274 e.2) λg=>Z ((Term.mk c.2.1 0 d.1.1.2
 [Term.mk g.1.1.1 g.1.1.2 g.1.1.3 g.1.1.4 g.1.1.5] [],()),g.2)
abbrev abB(F:Fn lV K85 J):lz sg:=⟨lV,K85,J,F⟩
def aaR(e:lu×IW×U):Term:=
 Term.mk e.2.1.1 e.2.1.2.1 e.2.1.2.2.1 e.2.1.2.2.2.1 e.2.1.2.2.2.2.1
def ahF(l:Y16):IW×U:=
 ((l.1.1.1,l.1.1.2,l.1.1.3,l.1.1.4,l.1.1.5,()),())
def aaQ(n:Nat)(f325:My)(e:lu×IW×U):O (LO (lu×IW×U) U (lu×IW×U) Any):=
 ah (F272 n (bJ.mk e.1.1 e.1.2.1 e.1.2.2.1,[43],())) λh=>ah (ai h.1.1 (Z (N (9,W,()))) (Z (N (10,J,
 ())))) λ(i:Y54)=>cM i (λj=>ah (f325 ((e.1.1,aF .i64 e.1.2.1 1,e.1.2.2),())) λk=>ah (F307 n (j.1,aaR e,Term.mk k.1.1.1
 k.1.1.2 k.1.1.3 k.1.1.4 k.1.1.5,())) λl=>Z (N (k.2.1,ahF l))) (λ_ _=>Y) (λ_ _=>Z (X e ())) λ_ _=>Y
def ahE(d:Mz):IW×U:=
 ((d.1.1.1,d.1.1.2,d.1.1.3,d.1.1.4,d.1.1.5,()),())
def B306:Y19:=
 λn f325 c=>ah (f325 c) λd=>ah (aO (lu×IW×U) (U) (lu×IW×U) (λe=>ai (ak e.1.2.2.1) (ah (F272 n
 (bJ.mk e.1.1 e.1.2.1 e.1.2.2.1,[43],())) λg=>ai g.1.1 (aaQ n f325 e) (ah (F272 n (bJ.mk e.1.1 e.1.2.1
 e.1.2.2.1,[45],())) λh=>ai h.1.1 (aaQ n f325 e) (Z (H 0 e)))) (Z (H 0 e))) n (d.2.1,ahE d)) λe=>bD e (λ_ h=>
 Z ((aaR h,()),h.1,())) (λg _=>Z ((rZ,()),g.1,())) λ_ _=>Y
abbrev abz(F:Fn lV K85 J):lz sg:=⟨lV,K85,J,F⟩
def aaP(e:lu×IW×U):Term:=
 Term.mk e.2.1.1 e.2.1.2.1 e.2.1.2.2.1 e.2.1.2.2.2.1 e.2.1.2.2.2.2.1
def ahD(i:Y16):IW×U:=
 ((i.1.1.1,i.1.1.2,i.1.1.3,i.1.1.4,i.1.1.5,()),())
def ahC(d:Mz):IW×U:=
 ((d.1.1.1,d.1.1.2,d.1.1.3,d.1.1.4,d.1.1.5,()),())
def B325:Y19:=
 λn f330 c=>ah (f330 c) λd=>ah (aO (lu×IW×U) (U) (lu×IW×U) (λe=>ah (F205 n (e.1,[42],())) λg=>ai
 g.1.1 (ah (f330 g.2) λh=>ah (F307 n (11,aaP e,Term.mk h.1.1.1 h.1.1.2 h.1.1.3 h.1.1.4 h.1.1.5,())) λi=>Z (N (h.2.1,ahD
 i))) (Z (H 0 (g.2.1,e.2)))) n (d.2.1,ahC d)) λe=>bD e (λ_ h=>Z ((aaP h,()),h.1,())) (λg _=>Z ((rZ,()),
 g.1,())) λ_ _=>Y
abbrev aby(F:Fn lV K85 J):lz sg:=⟨lV,K85,J,F⟩
def aaO(e:lu×IW×U):Term:=
 Term.mk e.2.1.1 e.2.1.2.1 e.2.1.2.2.1 e.2.1.2.2.2.1 e.2.1.2.2.2.2.1
def ahB(i:Y16):IW×U:=
 ((i.1.1.1,i.1.1.2,i.1.1.3,i.1.1.4,i.1.1.5,()),())
def ahA(d:Mz):IW×U:=
 ((d.1.1.1,d.1.1.2,d.1.1.3,d.1.1.4,d.1.1.5,()),())
def B330:Y19:=
 λn f331 c=>ah (f331 c) λd=>ah (aO (lu×IW×U) (U) (lu×IW×U) (λe=>ah (F332 n (bJ.mk e.1.1
 e.1.2.1 e.1.2.2.1,())) λg=>ai g.1.1 (ah (f331 (e.1,())) λh=>ah (F307 n (6,aaO e,Term.mk h.1.1.1 h.1.1.2 h.1.1.3 h.1.1.4 h.1.1.5,
 ())) λi=>Z (N (h.2.1,ahB i))) (Z (H 0 e))) n (d.2.1,ahA d)) λe=>bD e (λ_ h=>Z ((aaO h,()),h.1,()))
 (λg _=>Z ((rZ,()),g.1,())) λ_ _=>Y
abbrev abx(F:Fn lV K85 J):lz sg:=⟨lV,K85,J,F⟩
def SE(g:lu×U):bJ:=
 bJ.mk g.1.1 g.1.2.1 g.1.2.2.1
def aaN(n:Nat)(f274:My)(f333:Y56)(f334:My)(f335:My):Mz->O Mz:=
 λo=>Z ((Term.mk o.1.1.1 o.1.1.2 o.1.1.3 o.1.1.4 o.1.1.5,()),o.2)
def B331:Nat->My->Y56->My->My->lu×U->O Mz:=
 λn f274 f333 f334 f335 g=>ah (F271 n (SE g,4,())) λh=>ai h.1.1 (ah (F204 n (g.1,4,())) λi=>Z ((Term.mk 1 i.1.1.3 [] [] [],
 ()),i.2)) (ah (F271 n (SE g,1,())) λi=>ai i.1.1 (ah (F204 n (g.1,1,())) λj=>Z ((Term.mk 4 0 j.1.1.2 [] [],()),j.2)) (ah
 (F271 n (SE g,2,())) λj=>ai j.1.1 (ah (F204 n (g.1,2,())) λk=>ah (F272 n (bJ.mk k.2.1.1 k.2.1.2.1 k.2.1.2.2.1,
 [40],())) λl=>ah (ai l.1.1 (ah (f333 (k.2.1,(-1),())) λm=>Z (N (W,m.2.1,(14,0,k.1.1.2,m.1.1,[],()),()))) (Z
 (N (J,k.2.1,(14,0,k.1.1.2,[],[],()),())))) λ(m:LO Y21 U (lu×IW×U) Any)=>cM m (λo=>Z ((Term.mk o.2.2.1.1
 o.2.2.1.2.1 o.2.2.1.2.2.1 o.2.2.1.2.2.2.1 [],()),o.2.1,())) (λ_ _=>Y) (λo _=>Z ((rZ,()),o.1,())) λ_ _=>Y) (ah (F205 n
 (g.1,[116,114,117,101],())) λk=>ai k.1.1 (Z ((Term.mk 2 1 [] [] [],()),k.2)) (ah (F205 n (k.2.1,[102,97,108,115,101],())) λl
 =>ai l.1.1 (Z ((Term.mk 2 0 [] [] [],()),l.2)) (ah (F205 n (l.2.1,[109,97,116,99,104],())) λm=>ai m.1.1 (ah (f334 m.2) (aaN n
 f274 f333 f334 f335)) (ah (F205 n (m.2.1,[40],())) λo=>ai o.1.1 (ah (F205 n (o.2.1,[41],())) λp=>ai p.1.1 (Z ((Term.mk 3 0 [] []
 [],()),p.2)) (ah (f274 p.2) λq=>ah (F203 n (q.2.1,[41],())) λr=>Z ((Term.mk q.1.1.1 q.1.1.2 q.1.1.3 q.1.1.4 q.1.1.5,()),r.2)))
 (ah (F271 n (bJ.mk o.2.1.1 o.2.1.2.1 o.2.1.2.2.1,3,())) λp=>ai p.1.1 (ah (f335 o.2) (aaN n f274 f333 f334 f335)) (Z
 ((rZ,()),(o.2.1.1,o.2.1.2.1,W,()),())))))))))
abbrev U2(F:Fn Po K88 J):lz sg:=⟨Po,K88,J,F⟩
def Mo(n:Nat)(f274:My)(c:lu×Int×U)(g:ahj):O Z7:=
 ai (aC 0 c.2.1) (ah (F203 n (g.2.1,[44],())) λh=>Z (N (W,h.2))) (Z (N (J,g.2)))
def oW(e:Mz):L Term:=
 [Term.mk e.1.1.1 e.1.1.2 e.1.1.3 e.1.1.4 e.1.1.5]
def SD(n:Nat)(f274:My)(k:Z6):Z7->O (LO Z6 (L Term×U) (lu×U) Any):=
 λm=>cM m (λo=>ah (f274 o.2) λp=>aT (dF k.1 (oW p)) (Z (N (di k.1 (oW p),p.2)))) (λ_ _=>Y) (λo p=>
 Z (X o p)) λ_ _=>Y
def ahz(n:Nat)(f274:My)(c:lu×Int×U)(k:Z6):O Z7:=
 ai (aC 0 c.2.1) (ah (F203 n (k.2.1,[44],())) λl=>Z (N (W,l.2))) (Z (N (J,k.2)))
def ahy(n:Nat)(m:Z6):adG:=
 F203 n (m.2.1,[41],())
def SC(n:Nat)(f274:My)(c:lu×Int×U)(e:Mz):Z7->Y55:=
 λh=>cM h (λi=>ah (f274 i.2) λj=>aT (dF (oW e) (oW j)) (ah (aO (Z6) (L Term×U) (lu×U) (λk=>
 ai (aC c.2.1 0) (ah (F205 n (k.2.1,[44],())) λl=>ai l.1.1 (ah (Mo n f274 c l) (SD n f274 k)) (ai (aC (av k.1) c.2.1) (ai
 (ak l.2.1.2.2.1) (ah (Mo n f274 c l) (SD n f274 k)) (Z (H 0 (k.1,l.2)))) (Z (H 0 (k.1,l.2))))) (ai (aC (av k.1)
 c.2.1) (ai (ak k.2.1.2.2.1) (ah (ahz n f274 c k) (SD n f274 k)) (Z (H 0 k))) (Z (H 0 k)))) n (di (oW e) (oW j),
 j.2)) λk=>bD k (λ_ m=>ah (ahy n m) λo=>Z ((m.1,()),o.2)) (λl m=>Z (m,l)) λ_ _=>Y)) (λ_ _=>Y) (λi
 j=>Z (j,i)) λ_ _=>Y
def aaM(n:Nat)(g:ahj):adG:=
 F203 n (g.2.1,[41],())
def ahx(n:Nat)(f274:My)(c:lu×Int×U)(e:Mz):O Z7:=
 ai (aC 0 c.2.1) (ah (F203 n (e.2.1,[44],())) λg=>Z (N (W,g.2))) (Z (N (J,e.2)))
def aaL(n:Nat)(e:Mz):adG:=
 F203 n (e.2.1,[41],())
def B333:Nat->My->lu×Int×U->Y55:=
 λn f274 c=>ah (F203 n (c.1,[40],())) λd=>ah (f274 d.2) λe=>ai (aC c.2.1 0) (ah (F205 n (e.2.1,[44],())) λg=>ai g.1.1
 (ah (Mo n f274 c g) (SC n f274 c e)) (ai (aC (av (oW e)) c.2.1) (ai (ak g.2.1.2.2.1) (ah (Mo n f274 c g) (SC n f274 c
 e)) (ah (aaM n g) λh=>Z ((oW e,()),h.2))) (ah (aaM n g) λh=>Z ((oW e,()),h.2)))) (ai (aC (av (oW e))
 c.2.1) (ai (ak e.2.1.2.2.1) (ah (ahx n f274 c e) (SC n f274 c e)) (ah (aaL n e) λg=>Z ((oW e,()),g.2))) (ah (aaL n
 e) λg=>Z ((oW e,()),g.2)))
abbrev abw(F:Fn lV K85 J):lz sg:=⟨lV,K85,J,F⟩
def Ae(d:Mz):L Term:=
 [Term.mk d.1.1.1 d.1.1.2 d.1.1.3 d.1.1.4 d.1.1.5]
def SA(l:Y20):L aD:=
 [aD.mk l.1.1.1 l.1.1.2 l.1.1.3 l.1.1.4]
def B334:Y19:=
 λn f274 c=>ah (f274 c) λd=>ah (F203 n (d.2.1,[123],())) λe=>ai (ak e.2.1.2.2.1) (ah (F337 n e.2) λg=>ah (F203 n (g.2.1,
 [45,62],())) λh=>ah (f274 h.2) λi=>aT (dF (Ae d) (Ae i)) (ah (F205 n (i.2.1,[124],())) λj=>ah (aO (Y21) (U) (lu
 ×IW×U) (λk=>ai k.1 (ai (ak k.2.1.2.2.1) (ah (F337 n (k.2.1,())) λl=>ah (F203 n (l.2.1,[45,62],())) λm=>ah
 (f274 m.2) λo=>aT (dF k.2.2.1.2.2.2.2.1 (SA l)) (aT (dF k.2.2.1.2.2.2.1 (Ae o)) (ah (F205 n (o.2.1,[124],())) λp=>Z
 (N (p.1.1,p.2.1,(k.2.2.1.1,k.2.2.1.2.1,k.2.2.1.2.2.1,di k.2.2.1.2.2.2.1 (Ae o),di k.2.2.1.2.2.2.2.1 (SA l),()),()))))) (Z
 (H 0 k))) (Z (H 0 k))) n (j.1.1,j.2.1,(15,0,[],di (Ae d) (Ae i),SA g,()),())) λk=>bD k (λ_ m=>ah (F203
 n (m.2.1,[125],())) λo=>Z ((Term.mk m.2.2.1.1 m.2.2.1.2.1 m.2.2.1.2.2.1 m.2.2.1.2.2.2.1 m.2.2.1.2.2.2.2.1,()),o.2)) (λl _=>Z
 ((rZ,()),l.1,())) λ_ _=>Y)) (ah (F203 n (e.2.1,[125],())) λg=>Z ((Term.mk 15 0 [] (Ae d) [],()),g.2))
abbrev abv(F:Fn lV K85 J):lz sg:=⟨lV,K85,J,F⟩
def Sz(d:lu×U):lu:=
 (d.1.1,aF .i64 d.1.2.1 1,d.1.2.2)
def B335:Nat->My->Y56->lu×U->O Mz:=
 λn f274 f333 d=>aT (aN d.1.2.1 d.1.1) (ah (F336 n ((bp d.1.1 (az d.1.2.1) dK).2,())) λe=>ai (aa e.1.1 0) (Z ((rZ,
 ()),(d.1.1,d.1.2.1,W,()),())) (ai (aC 0 e.1.2.1) (ah (f333 (Sz d,e.1.2)) λg=>Z ((Term.mk e.1.1 0 [] g.1.1 [],()),g.2)) (ai
 (aC e.1.2.1 0) (ah (F203 n (Sz d,[40],())) λg=>ah (F204 n (g.2.1,4,())) λh=>ah (F203 n (h.2.1,[44],())) λi=>ah (f274
 i.2) λj=>ah (F203 n (j.2.1,[41],())) λk=>Z ((Term.mk e.1.1 h.1.1.3 [] [Term.mk j.1.1.1 j.1.1.2 j.1.1.3 j.1.1.4 j.1.1.5] [],()),k.2))
 (Z ((Term.mk e.1.1 0 [] [] [],()),Sz d,())))))
def D274(n:Nat)(f274:Fn lV K85 J)(f305:Fn Po K85 J)(f306:Fn lV K85 J)(a:bA prog 274 (zo f274))(b:bA prog 305 (abC f305))(c:bA prog 306 (abB f306)):bA prog 274 (zo (B274 n f274 f305 f306)):=cV [Gy n,Le n,Gx n,⟨274,zo f274,a⟩,⟨305,abC f305,b⟩,⟨306,abB f306,c⟩,acd n] [] n 10 274
def D305(n:Nat)(f274:Fn lV K85 J)(a:bA prog 274 (zo f274)):bA prog 305 (abC (B305 n f274)):=cV [Gy n,Le n,⟨274,zo f274,a⟩] [] n 10 305
def D306(n:Nat)(f325:Fn lV K85 J)(a:bA prog 325 (abz f325)):bA prog 306 (abB (B306 n f325)):=cV [afI n,acd n,⟨325,abz f325,a⟩] [(306,0,⟨[(0,yz),(0,b7z)],[.slot 0,.slot 3],[],0⟩),(306,1000005,⟨[(4,dj),(22,dQ)],[],[],0⟩)] n 10 306
def D325(n:Nat)(f330:Fn lV K85 J)(a:bA prog 330 (aby f330)):bA prog 325 (abz (B325 n f330)):=cV [Gx n,acd n,⟨330,aby f330,a⟩] [(325,0,⟨[(0,yz),(0,b7z)],[.slot 0,.slot 3],[],0⟩)] n 10 325
def D330(n:Nat)(f331:Fn lV K85 J)(a:bA prog 331 (abx f331)):bA prog 330 (aby (B330 n f331)):=cV [acd n,⟨331,abx f331,a⟩,aoa n] [(330,0,⟨[(0,yz),(0,b7z)],[.slot 0,.slot 3],[],0⟩)] n 10 330
def D331(n:Nat)(f274:Fn lV K85 J)(f333:Fn Po K88 J)(f334:Fn lV K85 J)(f335:Fn lV K85 J)(a:bA prog 274 (zo f274))(b:bA prog 333 (U2 f333))(c:bA prog 334 (abw f334))(d:bA prog 335 (abv f335)):bA prog 331 (abx (B331 n f274 f333 f334 f335)):=cV [Gy n,Le n,Gx n,afJ n,afI n,⟨274,zo f274,a⟩,⟨333,U2 f333,b⟩,⟨334,abw f334,c⟩,⟨335,abv f335,d⟩] [(331,1000008,⟨[(27,dQ),(0,yz),(0,.box (.cells [lU,lU,.dat (.str),.dat (.sl (.st 21)),.nil (.st 1)]))],[.slot 0,.slot 3],[],0⟩)] n 10 331
def D333(n:Nat)(f274:Fn lV K85 J)(a:bA prog 274 (zo f274)):bA prog 333 (U2 (B333 n f274)):=cV [Gy n,Gx n,⟨274,zo f274,a⟩] [(333,0,⟨[(6,.one (.own (.st 21))),(0,yz)],[.slot 0],[],1⟩),(333,1000006,⟨[(34,dQ),(0,yz)],[.slot 0],[],0⟩)] n 10 333
def D334(n:Nat)(f274:Fn lV K85 J)(a:bA prog 274 (zo f274)):bA prog 334 (abw (B334 n f274)):=cV [Gy n,Gx n,⟨274,zo f274,a⟩,an9 n] [(334,0,⟨[(5,dQ),(0,yz),(0,.box (.cells [lU,lU,.dat (.str),.own (.st 21),.own (.st 1)]))],[.slot 0,.slot 4],[],1⟩)] n 10 334
def D335(n:Nat)(f274:Fn lV K85 J)(f333:Fn Po K88 J)(a:bA prog 274 (zo f274))(b:bA prog 333 (U2 f333)):bA prog 335 (abv (B335 n f274 f333)):=cV [Gy n,Le n,⟨274,zo f274,a⟩,⟨333,U2 f333,b⟩,ai2 n] [] n 10 335
def R274(n k:Nat):(Fn lV K85 J)×(Fn Po K85 J)×(Fn lV K85 J)×(Fn lV K85 J)×(Fn lV K85 J)×(Fn lV K85 J)×(Fn Po K88 J)×(Fn lV K85 J)×(Fn lV K85 J):=Nat.rec (motive:=λ_=>(Fn lV K85 J)×(Fn Po K85 J)×(Fn lV K85 J)×(Fn lV K85 J)×(Fn lV K85 J)×(Fn lV K85 J)×(Fn Po K88 J)×(Fn lV K85 J)×(Fn lV K85 J)) ((λ_=>Y,λ_=>Y,λ_=>Y,λ_=>Y,λ_=>Y,λ_=>Y,λ_=>Y,λ_=>Y,λ_=>Y)) (λ_ r=>(B274 n r.1 r.2.1 r.2.2.1,B305 n r.1,B306 n r.2.2.2.1,B325 n r.2.2.2.2.1,B330 n r.2.2.2.2.2.1,B331 n r.1 r.2.2.2.2.2.2.1 r.2.2.2.2.2.2.2.1 r.2.2.2.2.2.2.2.2,B333 n r.1,B334 n r.1,B335 n r.1 r.2.2.2.2.2.2.1)) k
def F274(n:Nat):Fn lV K85 J:=(R274 n n).1
def aeT(n:Nat):∀k,bA prog 274 (zo (R274 n k).1)∧bA prog 305 (abC (R274 n k).2.1)∧bA prog 306 (abB (R274 n k).2.2.1)∧bA prog 325 (abz (R274 n k).2.2.2.1)∧bA prog 330 (aby (R274 n k).2.2.2.2.1)∧bA prog 331 (abx (R274 n k).2.2.2.2.2.1)∧bA prog 333 (U2 (R274 n k).2.2.2.2.2.2.1)∧bA prog 334 (abw (R274 n k).2.2.2.2.2.2.2.1)∧bA prog 335 (abv (R274 n k).2.2.2.2.2.2.2.2)
 |0=>⟨ck (enters 274 (by kernel_rfl)),ck (enters 305 (by kernel_rfl)),ck (enters 306 (by kernel_rfl)),ck (enters 325 (by kernel_rfl)),ck (enters 330 (by kernel_rfl)),ck (enters 331 (by kernel_rfl)),ck (enters 333 (by kernel_rfl)),ck (enters 334 (by kernel_rfl)),ck (enters 335 (by kernel_rfl))⟩
 |k+1=>have a:=aeT n k
  ⟨D274 n _ _ _ a.1 a.2.1 a.2.2.1,D305 n _ a.1,D306 n _ a.2.2.2.1,D325 n _ a.2.2.2.2.1,D330 n _ a.2.2.2.2.2.1,D331 n _ _ _ _ a.1 a.2.2.2.2.2.2.1 a.2.2.2.2.2.2.2.1 a.2.2.2.2.2.2.2.2,D333 n _ a.1,D334 n _ a.1,D335 n _ _ a.1 a.2.2.2.2.2.2.1⟩
def aou(n:Nat):OC:=⟨274,zo (F274 n),(aeT n n).1⟩
def F207:Nat->lu×U->O Y82:=
 λn b=>ah (F204 n (b.1,1,())) λc=>ah (F203 n (c.2.1,[40],())) λd=>ah (F204 n (d.2.1,1,())) λe=>ah (F203 n (e.2.1,[58],
 ())) λg=>ah (F273 n g.2) λh=>ah (F203 n (h.2.1,[41],())) λi=>ah (F203 n (i.2.1,[58],())) λj=>ah (F273 n j.2) λk=>ah
 (F203 n (k.2.1,[61],())) λl=>ah (F274 n l.2) λm=>ah (F203 n (m.2.1,[59],())) λo=>Z ((cT.mk c.1.1.2 e.1.1.2 (cE.mk
 h.1.1.1 h.1.1.2 h.1.1.3 h.1.1.4) (cE.mk k.1.1.1 k.1.1.2 k.1.1.3 k.1.1.4) (Term.mk m.1.1.1 m.1.1.2 m.1.1.3 m.1.1.4 m.1.1.5),()),o.2)
def aoJ(n:Nat):OC:=⟨207,⟨lV,K89,J,F207 n⟩,cV [Gy n,Le n,aja n,aou n] [] n 10 207⟩
def aaD(l:Y82):L cT:=
 [cT.mk l.1.1.1 l.1.1.2 (cE.mk l.1.1.3.1 l.1.1.3.2 l.1.1.3.3 l.1.1.3.4) (cE.mk l.1.1.4.1 l.1.1.4.2 l.1.1.4.3 l.1.1.4.4) (Term.mk
 l.1.1.5.1 l.1.1.5.2 l.1.1.5.3 l.1.1.5.4 l.1.1.5.5)]
def F134:Nat->lu×U->O ((dZ×U)×lu×U):=
 λn b=>ah (F203 n (b.1,[109,111,100,117,108,101],())) λc=>ah (F204 n (c.2.1,1,())) λd=>ah (F203 n (d.2.1,[123],())) λe
 =>ah (aO (Y83) (U) (Y83) (λg=>ah (F205 n (g.1,[116,121,112,101],())) λh=>ai h.1.1 (ah (F206 n h.2) λi=>aT (dF
 g.2.1.2.1 [i.1.1]) (Z (N (i.2.1,(g.2.1.1,di g.2.1.2.1 [i.1.1],g.2.1.2.2),())))) (Z (H 0 (h.2.1,g.2)))) n (e.2.1,(d.1.1.2,[],
 [],()),())) λg=>bD g (λ_ i=>ah (aO (Y83) (U) (Y83) (λj=>ah (F205 n (j.1,[102,117,110],())) λk=>ai k.1.1
 (ah (F207 n k.2) λl=>aT (dF j.2.1.2.2.1 (aaD l)) (Z (N (l.2.1,(j.2.1.1,j.2.1.2.1,di j.2.1.2.2.1 (aaD l),()),())))) (Z
 (H 0 (k.2.1,j.2)))) n i) λj=>bD j (λ_ l=>ah (F203 n (l.1,[125],())) λm=>Z ((dZ.mk l.2.1.1 l.2.1.2.1 l.2.1.2.2.1,
 ()),m.2)) (λk _=>Z ((kg,()),k.1,())) λ_ _=>Y) (λh _=>Z ((kg,()),h.1,())) λ_ _=>Y
def apw(n:Nat):OC:=⟨134,⟨lV,K90,J,F134 n⟩,cV [Gy n,Le n,Gx n,aoK n,aoJ n] [(134,0,⟨[(0,yz),(0,alb)],[.slot 0,.slot 3],[],0⟩),(134,2,⟨[(0,yz),(0,alb)],[.slot 0,.slot 3],[],0⟩)] n 10 134⟩
def F135:alK:=
 λn b=>ai (ak b.1.3) (Z ((aa b.1.2 (av b.1.1),()),())) (Z ((J,()),()))
def apv(n:Nat):OC:=⟨135,⟨P87,K4,J,F135 n⟩,cV [] [] n 10 135⟩
def F275:Y62:=
 λn b=>ah (aO (Int×U) (Bool×U) (U) (λc=>ai (aC c.1 (av b.1)) (aT (aN c.1 b.1) (ai (aC (mA b.1 c.1) 97)
 (Z (X () (J,()))) (aT (aN c.1 b.1) (ai (aC 122 (mA b.1 c.1)) (Z (X () (J,()))) (Z (N (aF .i64 c.1 1,
 ()))))))) (Z (H 0 c))) n (0,())) λc=>bD c (λ_ _=>Z ((W,()),())) (λ_ e=>Z (e,())) λ_ _=>Y
def ai9(n:Nat):OC:=⟨275,⟨P7,K4,J,F275 n⟩,cV [] [(275,0,⟨[(3,dj)],[],[],0⟩)] n 10 275⟩
def F208:Y62:=
 λn b=>ai (bn 1 (av b.1)) (ai (bn (av b.1) 8) (ah (F275 n b) λc=>ai c.1.1 (ah (F276 n b) λd=>Z ((ak d.1.1,()),
 ())) (Z ((J,()),()))) (Z ((J,()),()))) (Z ((J,()),()))
def afN(n:Nat):OC:=⟨208,⟨P7,K4,J,F208 n⟩,cV [ai9 n,ai8 n] [] n 10 208⟩
def F209:Y41:=
 λn b=>ai (bn b.2.1 b.1) (Z ((bn b.1 b.2.2.1,()),())) (Z ((J,()),()))
def Yo(n:Nat):OC:=⟨209,⟨P6,K4,J,F209 n⟩,cV [] [] n 10 209⟩
abbrev Xu(F:Fn P91 K2 J):lz sg:=⟨P91,K2,J,F⟩
def B277:Nat->(alM->Ip)->alM->Ip:=
 λn f277 c=>ai (aC c.2.1 1) (Z (((-1),()),())) (ah (aO (Int×Int×U) (Int×U) (U) (λd=>ai (aC d.2.1 (av
 c.1.4)) (ai (bn 0 d.1) (aT (aN d.2.1 c.1.4) (ah (f277 (bp c.1.4 (az d.2.1) nH,d.1,())) λe=>Z (N (e.1.1,aF .i64
 d.2.1 1,())))) (Z (H 0 d))) (Z (H 0 d))) n (bF .i64 c.2.1 1,0,())) λd=>bD d (λ_ g=>Z ((g.1,()),())) (λ_ g
 =>Z (g,())) λ_ _=>Y)
def D277(n:Nat)(f277:Fn P91 K2 J)(a:bA prog 277 (Xu f277)):bA prog 277 (Xu (B277 n f277)):=cV [⟨277,Xu f277,a⟩] [(277,0,⟨[(1,dj),(5,dj)],[],[],0⟩)] n 10 277
def R277(n k:Nat):(Fn P91 K2 J):=Nat.rec (motive:=λ_=>(Fn P91 K2 J)) (λ_=>Y) (λ_ r=>B277 n r) k
def F277(n:Nat):Fn P91 K2 J:=(R277 n n)
def aeS(n:Nat):∀k,bA prog 277 (Xu (R277 n k))
 |0=>ck (enters 277 (by kernel_rfl))
 |k+1=>have a:=aeS n k
  D277 n _ a
def aot(n:Nat):OC:=⟨277,Xu (F277 n),(aeS n n)⟩
def F240:Y62:=
 λn b=>ai (bn 1 (av b.1)) (ai (bn (av b.1) 8) (aT (aN 0 b.1) (ai (bn 65 (mA b.1 0)) (aT (aN 0 b.1) (ai (bn (mA b.1 0)
 90) (aT (fV 1 (av b.1) (av b.1)) (ah (F275 n (cY b.1 1 (av b.1),())) λc=>Z c)) (Z ((J,()),())))) (Z ((J,()),
 ())))) (Z ((J,()),()))) (Z ((J,()),()))
def Ym(n:Nat):OC:=⟨240,⟨P7,K4,J,F240 n⟩,cV [ai9 n] [] n 10 240⟩
abbrev Xt(F:Fn P92 K4 J):lz sg:=⟨P92,K4,J,F⟩
def B278:Nat->(alQ->O Y4)->alQ->O Y4:=
 λn f278 c=>ah (ai (aa c.1.1 1) (Z (N (W,()))) (ah (ai (aa c.1.1 2) (Z (N (W,()))) (Z (N (aa c.1.1
 3,())))) λ(d:nM)=>cM d (λe=>Z (N e)) (λ_ _=>Y) (λ_ g=>Z (X () g)) λ_ _=>Y)) λ(d:nM)=>
 cM d (λe=>ah (ai e.1 (ai (aa (av c.1.4) 0) (ai (aa c.1.2 0) (Z (N (gp c.1.3 [],W,()))) (Z (N (J,W,
 ())))) (Z (N (J,W,())))) (ah (ai (aa c.1.1 4) (ai (aa (av c.1.4) 2) (ai (aa c.1.2 0) (Z (N (gp c.1.3 [],
 W,()))) (Z (N (J,W,())))) (Z (N (J,W,())))) (ah (ai (aa c.1.1 5) (Z (N (W,()))) (ah (ai
 (aa c.1.1 6) (Z (N (W,()))) (Z (N (aa c.1.1 7,())))) λ(g:nM)=>cM g (λh=>Z (N h)) (λ_ _=>
 Y) (λ_ i=>Z (X () i)) λ_ _=>Y)) λ(g:nM)=>cM g (λh=>ah (ai h.1 (ai (aa (av c.1.4) 1) (ai (aa c.1.2
 0) (Z (N (gp c.1.3 [],W,()))) (Z (N (J,W,())))) (Z (N (J,W,())))) (ah (ai (aa c.1.1 8) (ai
 (aa (av c.1.4) 0) (ai (aa c.1.2 0) (ah (F240 n (c.1.3,())) λi=>Z (N (i.1.1,W,()))) (Z (N (J,W,()))))
 (Z (N (J,W,())))) (ah (ai (aa c.1.1 9) (ai c.2.1 (ai (aa (av c.1.4) 0) (ai (gp c.1.3 []) (ah (F209 n (c.1.2,0,99,
 ())) λi=>Z (N (i.1.1,W,()))) (Z (N (J,W,())))) (Z (N (J,W,())))) (Z (N (J,W,
 ())))) (Z (N (J,J,())))) λ(i:yA)=>cM i (λj=>Z (N (j.1,J,()))) (λ_ _=>Y) (λ_ k=>Z
 (X () k)) λ_ _=>Y)) λ(i:yA)=>cM i (λj=>Z (N (j.1,J,()))) (λ_ _=>Y) (λ_ k=>Z (X () k))
 λ_ _=>Y)) λ(i:yA)=>cM i (λj=>Z (N (j.1,J,()))) (λ_ _=>Y) (λ_ k=>Z (X () k)) λ_ _=>
 Y) (λ_ _=>Y) (λ_ i=>Z (X () i)) λ_ _=>Y)) λ(g:yA)=>cM g (λh=>Z (N (h.1,J,()))) (λ_ _
 =>Y) (λ_ i=>Z (X () i)) λ_ _=>Y)) λ(g:yA)=>cM g (λh=>ah (aO (Bool×Int×U) (Bool×U) (U) (λi=>ai (aC i.2.1 (av c.1.4)) (ai i.1 (aT (aN i.2.1 c.1.4) (ah (f278 (bp c.1.4 (az i.2.1) nH,c.2)) λj=>Z
 (N (j.1.1,aF .i64 i.2.1 1,())))) (Z (H 0 i))) (Z (H 0 i))) n (h.1,0,())) λi=>bD i (λ_ k=>Z ((k.1,()),
 ())) (λ_ k=>Z (k,())) λ_ _=>Y) (λ_ _=>Y) (λ_ i=>Z (i,())) λ_ _=>Y) (λ_ _=>Y) (λ_ g=>Z (g,
 ())) λ_ _=>Y
def D278(n:Nat)(f278:Fn P92 K4 J)(a:bA prog 278 (Xt f278)):bA prog 278 (Xt (B278 n f278)):=cV [Yo n,Ym n,⟨278,Xt f278,a⟩] [(278,1,⟨[(6,dQ),(7,dj)],[],[],0⟩),(278,1000005,⟨[(13,dQ)],[],[],0⟩),(278,1000006,⟨[(13,dQ)],[],[],0⟩),(278,1000007,⟨[(6,dQ),(13,dQ)],[],[],0⟩),(278,1000009,⟨[(6,dQ),(29,dQ)],[],[],0⟩),(278,1000011,⟨[(43,dQ)],[],[],0⟩),(278,1000012,⟨[(43,dQ)],[],[],0⟩),(278,1000013,⟨[(6,dQ),(43,dQ)],[],[],0⟩),(278,1000015,⟨[(6,dQ),(59,dQ)],[],[],0⟩),(278,1000017,⟨[(6,dQ),(73,dQ)],[],[],0⟩)] n 10 278
def R278(n k:Nat):(Fn P92 K4 J):=Nat.rec (motive:=λ_=>(Fn P92 K4 J)) (λ_=>Y) (λ_ r=>B278 n r) k
def F278(n:Nat):Fn P92 K4 J:=(R278 n n)
def aeR(n:Nat):∀k,bA prog 278 (Xt (R278 n k))
 |0=>ck (enters 278 (by kernel_rfl))
 |k+1=>have a:=aeR n k
  D278 n _ a
def aos(n:Nat):OC:=⟨278,Xt (F278 n),(aeR n n)⟩
def F211:Nat->cE×U->O Y4:=
 λn b=>ah (F277 n (cE.mk b.1.1 b.1.2 b.1.3 b.1.4,12,())) λc=>ai (bn 0 c.1.1) (ah (F278 n (cE.mk b.1.1 b.1.2 b.1.3 b.1.4,
 J,())) λd=>Z d) (Z ((J,()),()))
def ajk(n:Nat):OC:=⟨211,⟨P93,K4,J,F211 n⟩,cV [aot n,aos n] [] n 10 211⟩
def F210:Nat->kq×U->O Y4:=
 λn b=>ah (F240 n (b.1.1,())) λc=>ai (ak c.1.1) (Z ((J,()),())) (ah (F209 n (av b.1.2,1,5,())) λd=>ai (ak
 d.1.1) (Z ((J,()),())) (ah (aO (Int×U) (Bool×U) (U) (λe=>ai (aC e.1 (av b.1.2)) (aT (aN e.1 b.1.2) (ah
 (F240 n ((bp b.1.2 (az e.1) iw).1,())) λg=>ai (ak g.1.1) (Z (X () (J,()))) (ai (aC 3 (av (bp b.1.2 (az
 e.1) iw).2)) (Z (X () (J,()))) (ah (aO (Int×U) (Bool×U) (U) (λh=>ai (aC h.1 (av (bp b.1.2
 (az e.1) iw).2)) (aT (aN h.1 (bp b.1.2 (az e.1) iw).2) (ah (F211 n (bp (bp b.1.2 (az e.1) iw).2 (az h.1)
 nH,())) λi=>ai (ak i.1.1) (Z (X () (J,()))) (Z (N (aF .i64 h.1 1,()))))) (Z (H 0 h))) n (0,()))
 λh=>bD h (λ_ _=>Z (N (aF .i64 e.1 1,()))) (λ_ j=>Z (X () j)) λ_ _=>Y)))) (Z (H 0 e))) n (0,()))
 λe=>bD e (λ_ _=>Z ((W,()),())) (λ_ h=>Z (h,())) λ_ _=>Y))
def aoI(n:Nat):OC:=⟨210,⟨P94,K4,J,F210 n⟩,cV [Yo n,ajk n,Ym n] [(210,0,⟨[(3,dj)],[],[],0⟩),(210,2,⟨[(5,dj)],[],[],0⟩)] n 10 210⟩
abbrev Xs(F:Fn P95 K2 J):lz sg:=⟨P95,K2,J,F⟩
def B279:Nat->(alL->Ip)->alL->Ip:=
 λn f279 c=>ai (aC c.2.1 1) (Z (((-1),()),())) (ai (aC c.2.2.1 1) (Z (((-1),()),())) (ah (aO (Int×Int×U) (Int×U) (U) (λd=>ai (aC d.2.1 (av c.1.4)) (ai (bn 0 d.1) (aT (aN d.2.1 c.1.4) (ah (f279 (bp c.1.4 (az d.2.1) rZ,d.1,bF .i64
 c.2.2.1 1,())) λe=>Z (N (e.1.1,aF .i64 d.2.1 1,())))) (Z (H 0 d))) (Z (H 0 d))) n (bF .i64 c.2.1 1,0,())) λ
 d=>bD d (λ_ g=>Z ((g.1,()),())) (λ_ g=>Z (g,())) λ_ _=>Y))
def D279(n:Nat)(f279:Fn P95 K2 J)(a:bA prog 279 (Xs f279)):bA prog 279 (Xs (B279 n f279)):=cV [⟨279,Xs f279,a⟩] [(279,0,⟨[(1,dj),(7,dj)],[],[],0⟩)] n 10 279
def R279(n k:Nat):(Fn P95 K2 J):=Nat.rec (motive:=λ_=>(Fn P95 K2 J)) (λ_=>Y) (λ_ r=>B279 n r) k
def F279(n:Nat):Fn P95 K2 J:=(R279 n n)
def aeQ(n:Nat):∀k,bA prog 279 (Xs (R279 n k))
 |0=>ck (enters 279 (by kernel_rfl))
 |k+1=>have a:=aeQ n k
  D279 n _ a
def aor(n:Nat):OC:=⟨279,Xs (F279 n),(aeQ n n)⟩
def aav(n:Nat)(b:Y72):O Y4:=
 ai b.2.2.2.1 (Z ((W,()),())) (Z ((aa (av b.1.5) 0,()),()))
def aau(n:Nat)(b:Y72):O Y4:=
 ai b.2.2.1 (aav n b) (ai (gp b.1.3 []) (aav n b) (Z ((J,()),())))
def F326:Nat->Y72->O Y4:=
 λn b=>ai b.2.1 (aau n b) (ai (aa b.1.2 0) (aau n b) (Z ((J,()),())))
def aod(n:Nat):OC:=⟨326,⟨P96,K4,J,F326 n⟩,cV [] [] n 10 326⟩
def HV(b:Term×U):Term:=
 Term.mk b.1.1 b.1.2 b.1.3 b.1.4 b.1.5
def So(n:Nat)(b:Term×U):O Y4:=
 F326 n (HV b,W,J,J,())
def jy(n:Nat):O Y4:=
 Z ((J,()),())
def aax(n:Nat):nM->O nM:=
 λc=>cM c (λd=>Z (N d)) (λ_ _=>Y) (λ_ e=>Z (X () e)) λ_ _=>Y
def LY(n:Nat)(b:Term×U):O Y4:=
 ah (F326 n (HV b,J,J,J,())) λe=>Z e
def Sn(n:Nat)(b:Term×U):O Y4:=
 ah (F326 n (HV b,J,W,J,())) λe=>ai e.1.1 (ah (F208 n (b.1.3,())) λg=>Z g) (jy n)
def LX(n:Nat):nM->O nM:=
 λh=>cM h (λi=>Z (N i)) (λ_ _=>Y) (λ_ j=>Z (X () j)) λ_ _=>Y
def CU(n:Nat):nM->O nM:=
 λj=>cM j (λk=>Z (N k)) (λ_ _=>Y) (λ_ l=>Z (X () l)) λ_ _=>Y
def LW(n:Nat):U->Bool×U->O Y4:=
 λ_ l=>Z (l,())
def F309:alp:=
 λn b=>ai (aa b.1.1 1) (ai (aa (av b.1.4) 0) (ah (So n b) λc=>ai c.1.1 (ah (F209 n (b.1.2,(-1000000000),1000000000,()))
 λd=>Z d) (jy n)) (jy n)) (ai (aa b.1.1 2) (ai (aa (av b.1.4) 0) (ah (So n b) λc=>ai c.1.1 (ah (F209 n (b.1.2,0,
 1,())) λd=>Z d) (jy n)) (jy n)) (ah (ai (aa b.1.1 3) (Z (N (W,()))) (ah (ai (aa b.1.1 21) (Z (N (W,
 ()))) (ah (ai (aa b.1.1 25) (Z (N (W,()))) (Z (N (aa b.1.1 28,())))) (aax n))) (aax n))) λ(c:nM)=>cM c
 (λd=>ai d.1 (ai (aa (av b.1.4) 0) (LY n b) (jy n)) (ai (aa b.1.1 4) (ai (aa (av b.1.4) 0) (Sn n b) (jy n)) (ah
 (ai (aa b.1.1 5) (Z (N (W,()))) (Z (N (aa b.1.1 27,())))) λ(e:nM)=>cM e (λg=>ai g.1 (ai (aa (av
 b.1.4) 1) (Sn n b) (jy n)) (ai (aa b.1.1 7) (ai (aa (av b.1.4) 2) (Sn n b) (jy n)) (ai (aa b.1.1 8) (ai (aa (av
 b.1.4) 3) (LY n b) (jy n)) (ai (aa b.1.1 14) (ai (bn (av b.1.4) 3) (ah (F326 n (HV b,J,W,J,())) λh=>ai
 h.1.1 (ah (F240 n (b.1.3,())) λi=>Z i) (jy n)) (jy n)) (ai (aa b.1.1 15) (ah (F209 n (av b.1.5,1,5,())) λh=>ai h.1.1
 (ai (aa (av b.1.4) (aF .i64 1 (av b.1.5))) (ah (F326 n (HV b,J,J,W,())) λi=>Z i) (jy n)) (jy n)) (ah
 (ai (aa b.1.1 16) (Z (N (W,()))) (ah (ai (aa b.1.1 17) (Z (N (W,()))) (ah (ai (aa b.1.1 19) (Z (N
 (W,()))) (ah (ai (aa b.1.1 20) (Z (N (W,()))) (ah (ai (aa b.1.1 23) (Z (N (W,()))) (Z (N (aa b.1.1
 26,())))) (LX n))) (LX n))) (LX n))) (LX n))) λ(h:nM)=>cM h (λi=>ai i.1 (ai (aa (av b.1.4) 1) (LY n b)
 (jy n)) (ai (aa b.1.1 24) (ai (aa (av b.1.4) 1) (ah (So n b) λj=>ai j.1.1 (ah (F209 n (b.1.2,0,3,())) λk=>Z k)
 (jy n)) (jy n)) (ah (ai (aa b.1.1 6) (Z (N (W,()))) (ah (ai (aa b.1.1 9) (Z (N (W,()))) (ah (ai (aa
 b.1.1 10) (Z (N (W,()))) (ah (ai (aa b.1.1 11) (Z (N (W,()))) (ah (ai (aa b.1.1 12) (Z (N (W,())))
 (ah (ai (aa b.1.1 13) (Z (N (W,()))) (ah (ai (aa b.1.1 18) (Z (N (W,()))) (Z (N (aa b.1.1 22,()))))
 (CU n))) (CU n))) (CU n))) (CU n))) (CU n))) (CU n))) λ(j:nM)=>cM j (λk=>ai k.1 (ai (aa (av b.1.4) 2)
 (LY n b) (jy n)) (jy n)) (λ_ _=>Y) (LW n) λ_ _=>Y))) (λ_ _=>Y) (LW n) λ_ _=>Y)))))) (λ_ _=>
 Y) (LW n) λ_ _=>Y))) (λ_ _=>Y) (LW n) λ_ _=>Y))
def aoj(n:Nat):OC:=⟨309,⟨P97,K4,J,F309 n⟩,cV [afN n,Yo n,Ym n,aod n] [(309,1000008,⟨[(35,dQ)],[],[],0⟩),(309,1000009,⟨[(35,dQ)],[],[],0⟩),(309,1000010,⟨[(35,dQ)],[],[],0⟩),(309,1000015,⟨[(59,dQ)],[],[],0⟩),(309,1000026,⟨[(125,dQ)],[],[],0⟩),(309,1000027,⟨[(125,dQ)],[],[],0⟩),(309,1000028,⟨[(125,dQ)],[],[],0⟩),(309,1000029,⟨[(125,dQ)],[],[],0⟩),(309,1000030,⟨[(125,dQ)],[],[],0⟩),(309,1000035,⟨[(151,dQ)],[],[],0⟩),(309,1000036,⟨[(151,dQ)],[],[],0⟩),(309,1000037,⟨[(151,dQ)],[],[],0⟩),(309,1000038,⟨[(151,dQ)],[],[],0⟩),(309,1000039,⟨[(151,dQ)],[],[],0⟩),(309,1000040,⟨[(151,dQ)],[],[],0⟩),(309,1000041,⟨[(151,dQ)],[],[],0⟩)] n 10 309⟩
def F139:Nat->Wk->O Y4:=
 λn b=>ah (aO (Int×U) (Bool×U) (U) (λc=>ai (aC c.1 (av b.1)) (aT (fV 0 c.1 (av b.1)) (aT (aN c.1 b.1)
 (ah (F141 n (cY b.1 0 c.1,bp b.1 (az c.1) [],())) λd=>ai d.1.1 (Z (X () (J,()))) (Z (N (aF .i64 c.1 1,()))))))
 (Z (H 0 c))) n (0,())) λc=>bD c (λ_ _=>Z ((W,()),())) (λ_ e=>Z (e,())) λ_ _=>Y
def afP(n:Nat):OC:=⟨139,⟨P98,K4,J,F139 n⟩,cV [acn n] [(139,0,⟨[(3,dj)],[],[],0⟩)] n 10 139⟩
abbrev Xq(F:Fn P3 K71 J):lz sg:=⟨P3,K71,J,F⟩
def B281:Nat->(aD×U->Pm)->aD×U->Pm:=
 λn f281 c=>ai (aa c.1.1 2) (Z (([c.1.3],()),())) (ah (aO (Y80) (Wk) (U) (λd=>ai (aC d.2.1 (av c.1.4)) (aT
 (aN d.2.1 c.1.4) (ah (f281 (bp c.1.4 (az d.2.1) aL,())) λe=>aT (dF d.1 e.1.1) (Z (N (di d.1 e.1.1,aF .i64 d.2.1 1,
 ()))))) (Z (H 0 d))) n ([],0,())) λd=>bD d (λ_ g=>Z ((g.1,()),())) (λ_ g=>Z (g,())) λ_ _=>Y)
def D281(n:Nat)(f281:Fn P3 K71 J)(a:bA prog 281 (Xq f281)):bA prog 281 (Xq (B281 n f281)):=cV [⟨281,Xq f281,a⟩] [(281,0,⟨[(3,.one (.own (.str))),(4,dj)],[],[],0⟩)] n 10 281
def R281(n k:Nat):(Fn P3 K71 J):=Nat.rec (motive:=λ_=>(Fn P3 K71 J)) (λ_=>Y) (λ_ r=>B281 n r) k
def F281(n:Nat):Fn P3 K71 J:=(R281 n n)
def aeO(n:Nat):∀k,bA prog 281 (Xq (R281 n k))
 |0=>ck (enters 281 (by kernel_rfl))
 |k+1=>have a:=aeO n k
  D281 n _ a
def ai7(n:Nat):OC:=⟨281,Xq (F281 n),(aeO n n)⟩
abbrev Xn(F:Fn P3 K4 J):lz sg:=⟨P3,K4,J,F⟩
def B327:Y60:=
 λn f327 c=>ah (ai (aa c.1.1 1) (Z (N (W,()))) (Z (N (aa c.1.1 5,())))) λ(d:nM)=>cM d (λe=>ah (ai
 e.1 (ai (aa (av c.1.4) 0) (ai (aa c.1.2 0) (Z (N (gp c.1.3 [],W,()))) (Z (N (J,W,())))) (Z (N
 (J,W,())))) (ah (ai (aa c.1.1 2) (ai (aa (av c.1.4) 0) (ai (aa c.1.2 0) (ah (F208 n (c.1.3,())) λg=>Z (N
 (g.1.1,W,()))) (Z (N (J,W,())))) (Z (N (J,W,())))) (ah (ai (aa c.1.1 3) (ai (aa (av c.1.4) 0) (ai
 (gp c.1.3 []) (ah (F209 n (c.1.2,(-1000000000),1000000000,())) λg=>Z (N (g.1.1,W,()))) (Z (N (J,W,()))))
 (Z (N (J,W,())))) (ah (ai (aa c.1.1 4) (ai (aa (av c.1.4) 0) (ai (gp c.1.3 []) (ah (F209 n (c.1.2,0,1,())) λg=>
 Z (N (g.1.1,W,()))) (Z (N (J,W,())))) (Z (N (J,W,())))) (ah (ai (aa c.1.1 6) (ai (bn (av
 c.1.4) 3) (ai (aa c.1.2 0) (ah (F240 n (c.1.3,())) λg=>Z (N (g.1.1,W,()))) (Z (N (J,W,())))) (Z (N
 (J,W,())))) (Z (N (J,J,())))) λ(g:yA)=>cM g (λh=>Z (N (h.1,J,()))) (λ_ _=>Y) (λ_
 i=>Z (X () i)) λ_ _=>Y)) λ(g:yA)=>cM g (λh=>Z (N (h.1,J,()))) (λ_ _=>Y) (λ_ i=>Z
 (X () i)) λ_ _=>Y)) λ(g:yA)=>cM g (λh=>Z (N (h.1,J,()))) (λ_ _=>Y) (λ_ i=>Z (X () i))
 λ_ _=>Y)) λ(g:yA)=>cM g (λh=>Z (N (h.1,J,()))) (λ_ _=>Y) (λ_ i=>Z (X () i)) λ_ _=>
 Y)) λ(g:yA)=>cM g (λh=>ah (aO (Bool×Int×U) (Bool×U) (U) (λi=>ai (aC i.2.1 (av c.1.4)) (ai i.1
 (aT (aN i.2.1 c.1.4) (ah (f327 (bp c.1.4 (az i.2.1) aL,())) λj=>Z (N (j.1.1,aF .i64 i.2.1 1,())))) (Z (H 0
 i))) (Z (H 0 i))) n (h.1,0,())) λi=>bD i (λ_ k=>Z ((k.1,()),())) (λ_ k=>Z (k,())) λ_ _=>Y) (λ_ _=>
 Y) (λ_ i=>Z (i,())) λ_ _=>Y) (λ_ _=>Y) (λ_ g=>Z (g,())) λ_ _=>Y
def D327(n:Nat)(f327:Fn P3 K4 J)(a:bA prog 327 (Xn f327)):bA prog 327 (Xn (B327 n f327)):=cV [afN n,Yo n,Ym n,⟨327,Xn f327,a⟩] [(327,1,⟨[(4,dQ),(5,dj)],[],[],0⟩),(327,1000005,⟨[(11,dQ)],[],[],0⟩),(327,1000006,⟨[(4,dQ),(11,dQ)],[],[],0⟩),(327,1000008,⟨[(4,dQ),(26,dQ)],[],[],0⟩),(327,1000010,⟨[(4,dQ),(40,dQ)],[],[],0⟩),(327,1000012,⟨[(4,dQ),(54,dQ)],[],[],0⟩),(327,1000014,⟨[(4,dQ),(68,dQ)],[],[],0⟩)] n 10 327
def R327(n k:Nat):(Fn P3 K4 J):=Nat.rec (motive:=λ_=>(Fn P3 K4 J)) (λ_=>Y) (λ_ r=>B327 n r) k
def F327(n:Nat):Fn P3 K4 J:=(R327 n n)
def aeL(n:Nat):∀k,bA prog 327 (Xn (R327 n k))
 |0=>ck (enters 327 (by kernel_rfl))
 |k+1=>have a:=aeL n k
  D327 n _ a
def aoc(n:Nat):OC:=⟨327,Xn (F327 n),(aeL n n)⟩
def F310:alV:=
 λn b=>ah (F94 n (aD.mk b.1.1 b.1.2 b.1.3 b.1.4,12,())) λc=>ai (bn 0 c.1.1) (ah (F327 n (aD.mk b.1.1 b.1.2 b.1.3 b.1.4,()))
 λd=>ai d.1.1 (ah (F281 n (aD.mk b.1.1 b.1.2 b.1.3 b.1.4,())) λe=>ah (F139 n e.1) λg=>Z g) (Z ((J,()),()))) (Z
 ((J,()),()))
def aoi(n:Nat):OC:=⟨310,⟨P3,K4,J,F310 n⟩,cV [k94 n,afP n,ai7 n,aoc n] [] n 10 310⟩
abbrev Xr(F:Fn P97 K4 J):lz sg:=⟨P97,K4,J,F⟩
def B280:Nat->(Term×U->O Y4)->Term×U->O Y4:=
 λn f280 c=>ah (F309 n (Term.mk c.1.1 c.1.2 c.1.3 c.1.4 c.1.5,())) λd=>ai (ak d.1.1) (Z ((J,()),())) (ah (aO (Int×U) (Bool×U) (U) (λe=>ai (aC e.1 (av c.1.5)) (aT (aN e.1 c.1.5) (ah (F310 n (bp c.1.5 (az e.1) aL,())) λg=>ai
 (ak g.1.1) (Z (X () (J,()))) (Z (N (aF .i64 e.1 1,()))))) (Z (H 0 e))) n (0,())) λe=>bD e (λ_ _=>
 ah (aO (Int×U) (Bool×U) (U) (λi=>ai (aC i.1 (av c.1.4)) (aT (aN i.1 c.1.4) (ah (f280 (bp c.1.4 (az i.1) rZ,
 ())) λj=>ai (ak j.1.1) (Z (X () (J,()))) (Z (N (aF .i64 i.1 1,()))))) (Z (H 0 i))) n (0,())) λi=>
 bD i (λ_ _=>Z ((W,()),())) (λ_ k=>Z (k,())) λ_ _=>Y) (λ_ h=>Z (h,())) λ_ _=>Y)
def D280(n:Nat)(f280:Fn P97 K4 J)(a:bA prog 280 (Xr f280)):bA prog 280 (Xr (B280 n f280)):=cV [⟨280,Xr f280,a⟩,aoj n,aoi n] [(280,0,⟨[(3,dj)],[],[],0⟩),(280,2,⟨[(4,dj)],[],[],0⟩)] n 10 280
def R280(n k:Nat):(Fn P97 K4 J):=Nat.rec (motive:=λ_=>(Fn P97 K4 J)) (λ_=>Y) (λ_ r=>B280 n r) k
def F280(n:Nat):Fn P97 K4 J:=(R280 n n)
def aeP(n:Nat):∀k,bA prog 280 (Xr (R280 n k))
 |0=>ck (enters 280 (by kernel_rfl))
 |k+1=>have a:=aeP n k
  D280 n _ a
def aoq(n:Nat):OC:=⟨280,Xr (F280 n),(aeP n n)⟩
def F212:alp:=
 λn b=>ah (F279 n (Term.mk b.1.1 b.1.2 b.1.3 b.1.4 b.1.5,60,14,())) λc=>ai (bn 0 c.1.1) (ah (F280 n (Term.mk b.1.1 b.1.2 b.1.3 b.1.4
 b.1.5,())) λd=>Z d) (Z ((J,()),()))
def aoH(n:Nat):OC:=⟨212,⟨P97,K4,J,F212 n⟩,cV [aor n,aoq n] [] n 10 212⟩
def lW(b:dZ×U)(i:Int×U):cT:=
 bp b.1.3 (az i.1) dO
def H9(n:Nat):ahl:=
 Z (X () (J,()))
def F136:Nat->dZ×U->O Y4:=
 λn b=>ah (F208 n (b.1.1,())) λc=>ai (ak c.1.1) (Z ((J,()),())) (ai (aC 4 (av b.1.2)) (Z ((J,()),())) (ah
 (F209 n (av b.1.3,1,5,())) λd=>ai (ak d.1.1) (Z ((J,()),())) (ah (aO (Int×U) (Bool×U) (U) (λe=>ai
 (aC e.1 (av b.1.2)) (aT (aN e.1 b.1.2) (ah (F210 n (bp b.1.2 (az e.1) mq,())) λg=>ai (ak g.1.1) (Z (X () (J,
 ()))) (Z (N (aF .i64 e.1 1,()))))) (Z (H 0 e))) n (0,())) λe=>bD e (λ_ _=>ah (aO (Int×U) (Bool×U) (U) (λi=>ai (aC i.1 (av b.1.3)) (aT (aN i.1 b.1.3) (ah (F208 n ((lW b i).1,())) λj=>ai (ak j.1.1) (H9 n)
 (ah (F208 n ((lW b i).2,())) λk=>ai (ak k.1.1) (H9 n) (ah (F211 n (cE.mk (lW b i).3.1 (lW b i).3.2 (lW b i).3.3
 (lW b i).3.4,())) λl=>ai (ak l.1.1) (H9 n) (ah (F211 n (cE.mk (lW b i).4.1 (lW b i).4.2 (lW b i).4.3 (lW b
 i).4.4,())) λm=>ai (ak m.1.1) (H9 n) (ah (F212 n (Term.mk (lW b i).5.1 (lW b i).5.2 (lW b i).5.3 (lW b i).5.4 (lW b
 i).5.5,())) λo=>ai (ak o.1.1) (H9 n) (Z (N (aF .i64 i.1 1,()))))))))) (Z (H 0 i))) n (0,())) λi=>bD i (λ
 _ _=>Z ((W,()),())) (λ_ k=>Z (k,())) λ_ _=>Y) (λ_ h=>Z (h,())) λ_ _=>Y)))
def ajr(n:Nat):OC:=⟨136,⟨P99,K4,J,F136 n⟩,cV [afN n,Yo n,aoI n,ajk n,aoH n] [(136,0,⟨[(3,dj)],[],[],0⟩),(136,2,⟨[(4,dj)],[],[],0⟩)] n 10 136⟩
def F96:Nat->L UInt8×U->O ((dZ×Int×U)×U):=
 λn b=>ah (F202 n b) λc=>ai (ak (aa c.1.2.1 0)) (Z ((kg,c.1.2),())) (ah (F134 n ((c.1.1,0,J,()),())) λd=>
 ah (F135 n (bJ.mk d.2.1.1 d.2.1.2.1 d.2.1.2.2.1,())) λe=>ai (ak e.1.1) (Z ((kg,4,()),())) (ah (F136 n d.1)
 λg=>ai (ak g.1.1) (Z ((kg,2,()),())) (Z ((d.1.1,0,()),()))))
def k96(n:Nat):OC:=⟨96,⟨P7,K100,J,F96 n⟩,cV [apw n,apv n,ajr n,aoL n] [] n 10 96⟩
def F137:Nat->dZ×U->Pm:=
 λn b=>ah (aO (Y80) (Wk) (U) (λc=>ai (aC c.2.1 (av b.1.3)) (aT (aN c.2.1 b.1.3) (aT (dF c.1 [(bp b.1.3 (az
 c.2.1) dO).1]) (Z (N (di c.1 [(bp b.1.3 (az c.2.1) dO).1],aF .i64 c.2.1 1,()))))) (Z (H 0 c))) n ([],0,
 ())) λc=>bD c (λ_ e=>Z ((e.1,()),())) (λ_ e=>Z (e,())) λ_ _=>Y
def apu(n:Nat):OC:=⟨137,⟨P99,K71,J,F137 n⟩,cV [] [(137,0,⟨[(3,.one (.own (.str))),(4,dj)],[],[],0⟩)] n 10 137⟩
def aaC(b:dZ×U)(c:Y61)(d:Y61):L cq:=
 [cq.mk (bp (bp b.1.2 (az c.2.1) mq).2 (az d.2.1) iw).1 (av (bp (bp b.1.2 (az c.2.1) mq).2 (az d.2.1)
 iw).2)]
def F138:Nat->dZ×U->O ((L cq×U)×U):=
 λn b=>ah (aO (Y61) (L cq×U) (U) (λc=>ai (aC c.2.1 (av b.1.2)) (ah (aO (Y61) (L cq×U) (U) (λd=>aT (aN c.2.1 b.1.2) (ai (aC d.2.1 (av (bp b.1.2 (az c.2.1) mq).2)) (aT (aN c.2.1 b.1.2) (aT (aN d.2.1 (bp
 b.1.2 (az c.2.1) mq).2) (aT (dF d.1 (aaC b c d)) (Z (N (di d.1 (aaC b c d),aF .i64 d.2.1 1,())))))) (Z (H 0
 d)))) n (c.1,0,())) λd=>bD d (λ_ g=>Z (N (g.1,aF .i64 c.2.1 1,()))) (λ_ g=>Z (X () g)) λ_ _=>Y) (Z
 (H 0 c))) n ([],0,())) λc=>bD c (λ_ e=>Z ((e.1,()),())) (λ_ e=>Z (e,())) λ_ _=>Y
def apt(n:Nat):OC:=⟨138,⟨P99,K101,J,F138 n⟩,cV [] [(138,0,⟨[(3,.one (.own (.st 2))),(4,dj)],[],[],0⟩),(138,2,⟨[(3,.one (.own (.st 2))),(5,dj)],[],[],0⟩)] n 10 138⟩
def F140:Nat->L cq×U->Pm:=
 λn b=>ah (aO (Y80) (Wk) (U) (λc=>ai (aC c.2.1 (av b.1)) (aT (aN c.2.1 b.1) (aT (dF c.1 [(bp b.1 (az c.2.1)
 bf).1]) (Z (N (di c.1 [(bp b.1 (az c.2.1) bf).1],aF .i64 c.2.1 1,()))))) (Z (H 0 c))) n ([],0,())) λc=>
 bD c (λ_ e=>Z ((e.1,()),())) (λ_ e=>Z (e,())) λ_ _=>Y
def aps(n:Nat):OC:=⟨140,⟨P8,K71,J,F140 n⟩,cV [] [(140,0,⟨[(3,.one (.own (.str))),(4,dj)],[],[],0⟩)] n 10 140⟩
def F213:Nat->L cq×L UInt8×U->Ip:=
 λn b=>ah (aO (Int×U) (Int×U) (U) (λc=>ai (aC c.1 (av b.1)) (aT (aN c.1 b.1) (ai (gp (bp b.1 (az c.1)
 bf).1 b.2.1) (Z (X () c)) (Z (N (aF .i64 c.1 1,()))))) (Z (H 0 c))) n (0,())) λc=>bD c (λ_ _=>Z
 (((-1),()),())) (λ_ e=>Z (e,())) λ_ _=>Y
def acj(n:Nat):OC:=⟨213,⟨asY,K2,J,F213 n⟩,cV [] [(213,0,⟨[(5,dj)],[],[],0⟩)] n 10 213⟩
abbrev Xz(F:Fn Wu K4 J):lz sg:=⟨Wu,K4,J,F⟩
def B214:Nat->(alZ->O Y4)->alZ->O Y4:=
 λn f214 c=>ah (ai (aa c.2.1.1 6) (ah (F213 n (c.1.2,c.2.1.3,())) λd=>ai (aC d.1.1 0) (Z (X () (J,()))) (aT (aN
 d.1.1 c.1.2) (ai (ak (aa (bp c.1.2 (az d.1.1) bf).2 (av c.2.1.4))) (Z (X () (J,()))) (Z (N (J,W,
 ())))))) (Z (N (J,J,())))) λ(d:yA)=>cM d (λ_=>ah (aO (Int×U) (Bool×U) (U) (λg=>ai
 (aC g.1 (av c.2.1.4)) (aT (aN g.1 c.2.1.4) (ah (f214 (c.1,bp c.2.1.4 (az g.1) aL,())) λh=>ai (ak h.1.1) (Z (X ()
 (J,()))) (Z (N (aF .i64 g.1 1,()))))) (Z (H 0 g))) n (0,())) λg=>bD g (λ_ _=>Z ((W,()),())) (λ_ i=>
 Z (i,())) λ_ _=>Y) (λ_ _=>Y) (λ_ g=>Z (g,())) λ_ _=>Y
def D214(n:Nat)(f214:Fn Wu K4 J)(a:bA prog 214 (Xz f214)):bA prog 214 (Xz (B214 n f214)):=cV [acj n,⟨214,Xz f214,a⟩] [(214,0,⟨[(6,dj)],[],[],0⟩),(214,1000002,⟨[(4,dQ),(9,dQ)],[],[],0⟩)] n 10 214
def R214(n k:Nat):(Fn Wu K4 J):=Nat.rec (motive:=λ_=>(Fn Wu K4 J)) (λ_=>Y) (λ_ r=>B214 n r) k
def F214(n:Nat):Fn Wu K4 J:=(R214 n n)
def aeZ(n:Nat):∀k,bA prog 214 (Xz (R214 n k))
 |0=>ck (enters 214 (by kernel_rfl))
 |k+1=>have a:=aeZ n k
  D214 n _ a
def aoG(n:Nat):OC:=⟨214,Xz (F214 n),(aeZ n n)⟩
def F215:Nat->L (L UInt8)×L (L UInt8)×U->Pm:=
 λn b=>aT (dF b.1 b.2.1) (Z ((di b.1 b.2.1,()),()))
def ajj(n:Nat):OC:=⟨215,⟨asX,K71,J,F215 n⟩,cV [] [] n 10 215⟩
def F216:Nat->Term×Int×U->Pm:=
 λn b=>ah (ai (aa b.1.1 5) (Z (N (W,()))) (Z (N (aa b.1.1 27,())))) λ(c:LO (Bool×U) Wk U Any)=>
 cM c (λd=>ai d.1 (Z (([b.1.3],()),())) (ai (aa b.1.1 7) (ai (aa b.2.1 1) (Z (([b.1.3],()),())) (Z (([],()),()))) (ai
 (aa b.1.1 15) (ai (aC 0 b.2.1) (aT (aN (bF .i64 b.2.1 1) b.1.5) (ah (F281 n (bp b.1.5 (az (bF .i64 b.2.1 1)) aL,())) λe
 =>Z e)) (Z (([],()),()))) (Z (([],()),()))))) (λ_ _=>Y) (λ_ e=>Z (e,())) λ_ _=>Y
def aji(n:Nat):OC:=⟨216,⟨asW,K71,J,F216 n⟩,cV [ai7 n] [(216,1000003,⟨[(7,dQ)],[],[],0⟩)] n 10 216⟩
abbrev XD(F:Fn Wt K4 J):lz sg:=⟨Wt,K4,J,F⟩
def B142:Nat->(alG->O Y4)->alG->O Y4:=
 λn f142 c=>ai (aa c.2.1.1 4) (ah (F141 n (c.2.2.1,c.2.1.3,())) λd=>ai d.1.1 (Z ((W,()),())) (ah (F141 n (c.1.1,c.2.1.3,
 ())) λe=>Z e)) (ah (ai (aa c.2.1.1 14) (ah (F213 n (c.1.2,c.2.1.3,())) λd=>ai (aC d.1.1 0) (Z (X () (J,()))) (aT
 (aN d.1.1 c.1.2) (ai (ak (aa (bp c.1.2 (az d.1.1) bf).2 (av c.2.1.4))) (Z (X () (J,()))) (Z (N (J,W,
 ())))))) (Z (N (J,J,())))) λ(d:yA)=>cM d (λ_=>ah (aO (Int×U) (Bool×U) (U) (λg=>ai
 (aC g.1 (av c.2.1.5)) (aT (aN g.1 c.2.1.5) (ah (F214 n (c.1,bp c.2.1.5 (az g.1) aL,())) λh=>ai (ak h.1.1) (Z (X
 () (J,()))) (Z (N (aF .i64 g.1 1,()))))) (Z (H 0 g))) n (0,())) λg=>bD g (λ_ _=>ah (aO (Int×U) (Bool×
 U) (U) (λj=>ai (aC j.1 (av c.2.1.4)) (aT (aN j.1 c.2.1.4) (ah (F216 n (Term.mk c.2.1.1 c.2.1.2 c.2.1.3 c.2.1.4 c.2.1.5,j))
 λk=>ah (F215 n (c.2.2.1,k.1)) λl=>ah (f142 (c.1,bp c.2.1.4 (az j.1) rZ,l.1)) λm=>ai (ak m.1.1) (Z (X () (J,
 ()))) (Z (N (aF .i64 j.1 1,()))))) (Z (H 0 j))) n (0,())) λj=>bD j (λ_ _=>Z ((W,()),())) (λ_ l=>Z
 (l,())) λ_ _=>Y) (λ_ i=>Z (i,())) λ_ _=>Y) (λ_ _=>Y) (λ_ g=>Z (g,())) λ_ _=>Y)
def D142(n:Nat)(f142:Fn Wt K4 J)(a:bA prog 142 (XD f142)):bA prog 142 (XD (B142 n f142)):=cV [acn n,⟨142,XD f142,a⟩,acj n,aoG n,ajj n,aji n] [(142,0,⟨[(8,dj)],[],[],0⟩),(142,2,⟨[(9,dj)],[],[],0⟩),(142,1000004,⟨[(6,dQ),(28,dQ)],[],[],0⟩)] n 10 142
def R142(n k:Nat):(Fn Wt K4 J):=Nat.rec (motive:=λ_=>(Fn Wt K4 J)) (λ_=>Y) (λ_ r=>B142 n r) k
def F142(n:Nat):Fn Wt K4 J:=(R142 n n)
def ae4(n:Nat):∀k,bA prog 142 (XD (R142 n k))
 |0=>ck (enters 142 (by kernel_rfl))
 |k+1=>have a:=ae4 n k
  D142 n _ a
def apr(n:Nat):OC:=⟨142,XD (F142 n),(ae4 n n)⟩
def F143:Nat->alH->Ip:=
 λn b=>ah (aO (Int×U) (Int×U) (U) (λc=>ai (bn 0 c.1) (aT (aN c.1 b.1) (ai (gp (bp b.1 (az c.1) []) b.2.1)
 (Z (X () c)) (Z (N (bF .i64 c.1 1,()))))) (Z (H 0 c))) n (bF .i64 (av b.1) 1,())) λc=>bD c (λ_ _=>
 Z (((-1),()),())) (λ_ e=>Z (e,())) λ_ _=>Y
def ajq(n:Nat):OC:=⟨143,⟨P70,K2,J,F143 n⟩,cV [] [(143,0,⟨[(5,dj)],[],[],0⟩)] n 10 143⟩
abbrev Xy(F:Fn Ws K86 J):lz sg:=⟨Ws,K86,J,F⟩
def SI(g:Y88):BB:=
 (g.2.1.1,g.2.1.2.1,kS (S:=sg) 24 2 (Ty.int .i64) g.2.1.2.2.1 (zP (S:=sg) 24 2 (Ty.int .i64) g.2.1.2.2.1),())
def ahI(h:Y89):BB:=
 (h.2.1.1,h.2.1.2.1,kS (S:=sg) 24 2 (Ty.int .i64) h.2.1.2.2.1 (zP (S:=sg) 24 2 (Ty.int .i64) h.2.1.2.2.1),())
def aaU(c:Y90):BB:=
 (c.1.1,c.1.2.1,kS (S:=sg) 24 2 (Ty.int .i64) c.1.2.2.1 (zP (S:=sg) 24 2 (Ty.int .i64) c.1.2.2.1),())
def ahH(h:BB×Y87×U):BB:=
 (h.1.1,h.1.2.1,kS (S:=sg) 24 2 (Ty.int .i64) h.1.2.2.1 (zP (S:=sg) 24 2 (Ty.int .i64) h.1.2.2.1),())
def B217:Nat->(Y90->O Y89)->Y90->O Y89:=
 λn f217 c=>ah (ai (aa c.2.1.1 6) (ah (F213 n (c.1.2.1,c.2.1.3,())) λd=>Z (N (W,(c.2.1.1,d.1.1,[],[],()),()))) (Z
 (N (J,(c.2.1.1,c.2.1.2,[],[],()),())))) λ(d:LO (Bool×Y87×U) U (Y87×U) Any)=>cM d (λe=>ah (aO (Y88) (U) (BB×Y87×U) (λg=>ai (aC g.1 (av c.2.1.4)) (aT (aN g.1 c.2.1.4) (ah (f217 (SI g,bp c.2.1.4 (az g.1) aL,
 ())) λh=>aT (dF g.2.2.1.2.2.2.1 [h.1.1]) (Z (N (aF .i64 g.1 1,ahI h,(g.2.2.1.1,g.2.2.1.2.1,g.2.2.1.2.2.1,di
 g.2.2.1.2.2.2.1 [h.1.1],()),()))))) (Z (H 0 (g.1,SI g,g.2.2)))) n (0,aaU c,e.2)) λg=>bD g (λ_ i=>Z ((aD.mk
 i.2.2.1.1 i.2.2.1.2.1 i.2.2.1.2.2.1 i.2.2.1.2.2.2.1,()),SI i,())) (λh _=>Z ((aL,()),ahH h,())) λ_ _=>Y) (λ_ _=>
 Y) (λ_ _=>Z ((aL,()),aaU c,())) λ_ _=>Y
def D217(n:Nat)(f217:Fn Ws K86 J)(a:bA prog 217 (Xy f217)):bA prog 217 (Xy (B217 n f217)):=cV [acj n,⟨217,Xy f217,a⟩] [(217,0,⟨[(6,dj),(0,Wa),(0,ag4)],[.slot 0,.slot 5],[],0⟩),(217,1000003,⟨[(14,dQ),(0,ag4)],[.slot 5],[],0⟩)] n 10 217
def R217(n k:Nat):(Fn Ws K86 J):=Nat.rec (motive:=λ_=>(Fn Ws K86 J)) (λ_=>Y) (λ_ r=>B217 n r) k
def F217(n:Nat):Fn Ws K86 J:=(R217 n n)
def aeY(n:Nat):∀k,bA prog 217 (Xy (R217 n k))
 |0=>ck (enters 217 (by kernel_rfl))
 |k+1=>have a:=aeY n k
  D217 n _ a
def aoF(n:Nat):OC:=⟨217,Xy (F217 n),(aeY n n)⟩
abbrev XC(F:Fn Wr K2 J):lz sg:=⟨Wr,K2,J,F⟩
def SO(g:Bool×Ph×U):Ph×U:=
 ((g.2.1.1,g.2.1.2.1,[],g.2.1.2.2.2),())
def SN(i:ahp):L (L Int):=
 zP (S:=sg) 24 2 (Ty.int .i64) i.2.1.2.2.1
def aaX(i:ahp):BB:=
 (i.2.1.1,i.2.1.2.1,kS (S:=sg) 24 2 (Ty.int .i64) i.2.1.2.2.1 (SN i),())
def ahM(j:Y89):L (L Int):=
 zP (S:=sg) 24 2 (Ty.int .i64) j.2.1.2.2.1
def ahL(j:Y89):BB:=
 (j.2.1.1,j.2.1.2.1,kS (S:=sg) 24 2 (Ty.int .i64) j.2.1.2.2.1 (ahM j),())
def aaW(c:Pg):BB:=
 (c.1.1,c.1.2.1,kS (S:=sg) 24 2 (Ty.int .i64) c.1.2.2.1 (zP (S:=sg) 24 2 (Ty.int .i64) c.1.2.2.1),())
def ahK(l:Int×BB×U):L (L Int):=
 zP (S:=sg) 24 2 (Ty.int .i64) l.2.1.2.2.1
def SM(l:Int×BB×U):BB:=
 (l.2.1.1,l.2.1.2.1,kS (S:=sg) 24 2 (Ty.int .i64) l.2.1.2.2.1 (ahK l),())
def xA(c:Pg):Nat:=
 az (av c.1.2.2.1)
def E7(p:RV):L (L Int):=
 zP (S:=sg) 24 2 (Ty.int .i64) p.2.1.2.2.1
def adP(m:BB×U):BB:=
 (m.1.1,m.1.2.1,kS (S:=sg) 24 2 (Ty.int .i64) m.1.2.2.1 (zP (S:=sg) 24 2 (Ty.int .i64) m.1.2.2.1),())
def adO(n:Nat)(f144:Pg->O RV)(m:BB×U):aho:=
 λo=>Z (o,adP m,())
def adN(j:BB×Ph×U):BB:=
 (j.1.1,j.1.2.1,kS (S:=sg) 24 2 (Ty.int .i64) j.1.2.2.1 (zP (S:=sg) 24 2 (Ty.int .i64) j.1.2.2.1),())
def adM(n:Nat)(f144:Pg->O RV)(j:BB×Ph×U):aho:=
 λk=>Z (k,adN j,())
def Up(n:Nat)(f144:Pg->O RV)(c:Pg):aho:=
 λi=>Z (i,aaW c,())
def B144:Nat->(Pg->O RV)->Pg->O RV:=
 λn f144 c=>ah (ai (aa c.2.1.1 4) (ah (F143 n (c.2.2.1,c.2.1.3,())) λd=>ah (ai (aC d.1.1 0) (ah (F143 n (c.1.1,c.2.1.3,()))
 λe=>Z (N (W,(c.2.1.1,bF .i64 (-1) e.1.1,[],[],()),()))) (Z (N (J,(c.2.1.1,d.1.1,[],[],()),())))) λ(e :
 ahn)=>cM e (λg=>Z (N (W,SO g))) (λ_ _=>Y) (λg h=>Z (X ((g.1.1,g.1.2.1,[],g.1.2.2.2),()) h)) λ_
 _=>Y) (Z (N (J,(c.2.1.1,c.2.1.2,[],[],()),())))) λ(d:ahn)=>cM d (λe=>ah (ai (aa c.2.1.1 14) (ah (F213 n
 (c.1.2.1,c.2.1.3,())) λg=>Z (N (W,(e.2.1.1,g.1.1,[],e.2.1.2.2.2),()))) (Z (N (J,SO e)))) λ(g:ahn)=>
 cM g (λh=>ah (aO (ahp) (Int×U) (BB×Ph×U) (λi=>ai (aC i.1 (av c.2.1.5)) (aT (aN i.1 c.2.1.5) (ah (F217
 n (aaX i,bp c.2.1.5 (az i.1) aL,())) λj=>aT (dF i.2.2.1.2.2.2.1 [j.1.1]) (Z (N (aF .i64 i.1 1,ahL j,(i.2.2.1.1,
 i.2.2.1.2.1,[],di i.2.2.1.2.2.2.1 [j.1.1],()),()))))) (Z (H 0 (i.1,aaX i,(i.2.2.1.1,i.2.2.1.2.1,[],i.2.2.1.2.2.2),())))) n (0,
 aaW c,SO h)) λi=>bD i (λ_ k=>aT (cm (ab3 k.2.1.2.2.1 (SN k)) (dF k.2.1.2.2.1 [gz.mk k.2.2.1.1 k.2.2.1.2.1 []
 k.2.2.1.2.2.2.1])) (ah (aO (Int×BB×U) (Int×U) (BB×U) (λl=>ai (aC l.1 (av c.2.1.4)) (aT (aN l.1 c.2.1.4) (ah
 (F216 n (Term.mk c.2.1.1 c.2.1.2 c.2.1.3 c.2.1.4 c.2.1.5,l.1,())) λm=>ah (F215 n (c.2.2.1,m.1)) λo=>ah (f144 (SM l,bp c.2.1.4
 (az l.1) rZ,o.1)) λp=>aT (aN (av c.1.2.2.1) p.2.1.2.2.1) (aT (eR (xA c) p.2.1.2.2.1) (aT (cm (eR (xA c) (E7 p))
 (dF (bp (E7 p) (xA c) []) [p.1.1])) (aT (aN (av c.1.2.2.1) p.2.1.2.2.1) (aT (YI (xA c) p.2.1.2.2.1 (xA c) (xA c))
 (Z (N (aF .i64 l.1 1,(p.2.1.1,p.2.1.2.1,kS (S:=sg) 24 2 (Ty.int .i64) p.2.1.2.2.1 (rI (E7 p) (xA c) (di (bp (E7
 p) (xA c) []) [p.1.1])),()),()))))))))) (Z (H 0 (l.1,SM l,())))) n (0,(k.2.1.1,k.2.1.2.1,kS (S:=sg) 24 2 (Ty.int .i64)
 (di k.2.1.2.2.1 [gz.mk k.2.2.1.1 k.2.2.1.2.1 [] k.2.2.1.2.2.2.1]) (di (SN k) [[]]),()),())) λl=>bD l (λ_ o=>Z ((av
 c.1.2.2.1,()),SM o,())) (λm=>adO n f144 m) λ_ _=>Y)) (λj=>adM n f144 j) λ_ _=>Y) (λ_ _=>Y) (λ_=>
 Up n f144 c) λ_ _=>Y) (λ_ _=>Y) (λ_=>Up n f144 c) λ_ _=>Y
def D144(n:Nat)(f144:Fn Wr K2 J)(a:bA prog 144 (XC f144)):bA prog 144 (XC (B144 n f144)):=cV [ajq n,⟨144,XC f144,a⟩,acj n,ajj n,aji n,aoF n] [(144,0,⟨[(9,dj),(0,Wa),(0,adr)],[.slot 0,.slot 8],[],0⟩),(144,2,⟨[(10,dj),(0,Wa)],[.slot 0],[],0⟩),(144,1000004,⟨[(24,dQ),(0,adr)],[.slot 8],[],0⟩),(144,1000006,⟨[(32,dQ),(0,adr)],[.slot 8],[],0⟩),(144,1000008,⟨[(44,dQ),(0,adr)],[.slot 8],[],0⟩)] n 10 144
def R144(n k:Nat):(Fn Wr K2 J):=Nat.rec (motive:=λ_=>(Fn Wr K2 J)) (λ_=>Y) (λ_ r=>B144 n r) k
def F144(n:Nat):Fn Wr K2 J:=(R144 n n)
def ae3(n:Nat):∀k,bA prog 144 (XC (R144 n k))
 |0=>ck (enters 144 (by kernel_rfl))
 |k+1=>have a:=ae3 n k
  D144 n _ a
def apq(n:Nat):OC:=⟨144,XC (F144 n),(ae3 n n)⟩
def amg(b:dZ×U)(k:Int×Y68×U):Y69:=
 (Term.mk (bp b.1.3 (az k.1) dO).5.1 (bp b.1.3 (az k.1) dO).5.2 (bp b.1.3 (az k.1) dO).5.3 (bp b.1.3 (az k.1)
 dO).5.4 (bp b.1.3 (az k.1) dO).5.5,[(bp b.1.3 (az k.1) dO).2],())
def Kc(k:Int×Y68×U):Y68×U:=
 (([],[],k.2.1.2.2.1,[],()),())
def aaq(p:Y71):L gz:=
 kS (S:=sg) 24 2 (Ty.int .i64) p.2.2.1.2.2.1 (zP (S:=sg) 24 2 (Ty.int .i64) p.2.2.1.2.2.1)
def amf(b:dZ×U)(p:Y71):Y69:=
 (Term.mk (bp b.1.3 (az p.1) dO).5.1 (bp b.1.3 (az p.1) dO).5.2 (bp b.1.3 (az p.1) dO).5.3 (bp b.1.3 (az p.1)
 dO).5.4 (bp b.1.3 (az p.1) dO).5.5,[(bp b.1.3 (az p.1) dO).2],())
def F97:Nat->dZ×U->O ((gL×Int×U)×U):=
 λn b=>ah (F136 n b) λc=>ai (ak c.1.1) (Z ((qi,2,()),())) (ah (F137 n b) λd=>ah (F138 n b) λe=>ah (F139 n d.1)
 λg=>ai (ak g.1.1) (Z ((qi,7,()),())) (ah (F140 n e.1) λh=>ah (F139 n h.1) λi=>ai (ak i.1.1) (Z ((qi,
 7,()),())) (ah (F141 n (d.1.1,[109,97,105,110],())) λj=>ai (ak j.1.1) (Z ((qi,7,()),())) (ah (aO (Int×Y68×U) (Int×U) (Y68×U) (λk=>ai (aC k.1 (av b.1.3)) (aT (aN k.1 b.1.3) (aT (aN k.1 b.1.3) (ah (F142 n (dN.mk
 d.1.1 e.1.1 [],amg b k)) λl=>ai (ak l.1.1) (Z (X (([],[],0,[],()),()) (7,()))) (Z (N (aF .i64 k.1 1,Kc
 k)))))) (Z (H 0 (k.1,Kc k)))) n (0,([],[],0,[],()),())) λk=>bD k (λ_ m=>ah (F143 n (d.1.1,[109,97,105,110],()))
 λo=>ah (aO (Y71) (Int×U) (Y68×BB×U) (λp=>ai (aC p.1 (av b.1.3)) (aT (dF p.2.1.2.1 [av p.2.2.1.2.2.1]) (aT
 (aN p.1 b.1.3) (aT (aN p.1 b.1.3) (ah (F144 n ((p.2.2.1.1,p.2.2.1.2.1,aaq p,()),amf b p)) λq=>Z (N (aF .i64 p.1 1,([],
 di p.2.1.2.1 [av p.2.2.1.2.2.1],p.2.1.2.2),(q.2.1.1,q.2.1.2.1,kS (S:=sg) 24 2 (Ty.int .i64) q.2.1.2.2.1 (zP (S:=sg) 24 2 (Ty.int .i64)
 q.2.1.2.2.1),()),())))))) (Z (H 0 (p.1,([],p.2.1.2),(p.2.2.1.1,p.2.2.1.2.1,aaq p,()),())))) n (0,([],[],o.1.1,e.1),(d.1.1,
 e.1.1,[],()),())) λp=>bD p (λ_ r=>ah (aO (Int×Y68×U) (Int×U) (Y68×U) (λs=>ai (aC s.1 (av
 r.2.2.1.2.2.1)) (aT (aN s.1 r.2.2.1.2.2.1) (aT (eR (az s.1) r.2.2.1.2.2.1) (ai (aa (bp r.2.2.1.2.2.1 (az s.1) tT).1 4) (aT (aN
 s.1 r.2.2.1.2.2.1) (aT (eR (az s.1) r.2.2.1.2.2.1) (ai (bn 30 (bp r.2.2.1.2.2.1 (az s.1) tT).2) (Z (X (([],[],0,[],()),
 ()) (3,()))) (Z (N (aF .i64 s.1 1,Kc s)))))) (Z (N (aF .i64 s.1 1,Kc s)))))) (Z (H 0 (s.1,Kc s)))) n (0,
 Kc m)) λs=>bD s (λ_ _=>Z ((gL.mk (aaq r) r.2.1.2.1 r.2.1.2.2.1 r.2.1.2.2.2.1,0,()),())) (λt u=>Z ((gL.mk []
 [] t.1.2.2.1 [],u),())) λ_ _=>Y) (λ_ r=>Z ((gL.mk [] [] m.2.1.2.2.1 [],r),())) λ_ _=>Y) (λl m=>Z
 ((gL.mk [] [] l.1.2.2.1 [],m),())) λ_ _=>Y))))
def k97(n:Nat):OC:=⟨97,⟨P99,K109,J,F97 n⟩,cV [ajr n,apu n,apt n,afP n,aps n,acn n,apr n,ajq n,apq n] [(97,0,⟨[(5,dj),(0,alc)],[.slot 2],[],0⟩),(97,2,⟨[(7,dj),(0,.box (.cells [.nil (.st 24),.own (.int .i64),lU,b8y])),(0,Wa)],[.slot 6,.slot 18],[],0⟩),(97,4,⟨[(8,dj),(0,alc)],[.slot 2],[],0⟩)] n 10 97⟩
def F146:Nat->bE×Int×U->O Iq:=
 λn b=>aT (aN b.2.1 b.1.1) (aT (eR (az b.2.1) b.1.1) (ai (aa (bp b.1.1 (az b.2.1) bM).1 19) (aT (aN b.2.1 b.1.1) (aT (eR
 (az b.2.1) b.1.1) (Z ((bE.mk (rI b.1.1 (az b.2.1) (bO.mk (bp b.1.1 (az b.2.1) bM).1 (bp b.1.1 (az b.2.1)
 bM).2 (av b.1.1))) b.1.2 b.1.3,()),())))) (aT (aN b.2.1 b.1.1) (aT (eR (az b.2.1) b.1.1) (Z ((bE.mk (rI b.1.1 (az
 b.2.1) (bO.mk (bp b.1.1 (az b.2.1) bM).1 (av b.1.1) (bp b.1.1 (az b.2.1) bM).3)) b.1.2 b.1.3,()),()))))))
def afO(n:Nat):OC:=⟨146,⟨asV,K111,J,F146 n⟩,cV [] [] n 10 146⟩
def F218:alO:=
 λn b=>aT (dF b.1.1 [bO.mk b.2.1 b.2.2.1 0]) (Z ((bE.mk (di b.1.1 [bO.mk b.2.1 b.2.2.1 0]) b.1.2 b.1.3,()),()))
def aci(n:Nat):OC:=⟨218,⟨al8,K111,J,F218 n⟩,cV [] [] n 10 218⟩
def F219:Nat->bE×Bool×U->O Iq:=
 λn b=>ai b.2.1 (ah (F218 n (b.1,34,0,())) λc=>Z c) (Z ((b.1,()),()))
def aoE(n:Nat):OC:=⟨219,⟨asU,K111,J,F219 n⟩,cV [aci n] [] n 10 219⟩
def F220:alO:=
 λn b=>aT (dF b.1.3 [nW.mk b.2.2.1 (av b.1.1)]) (ah (F218 n (bE.mk b.1.1 b.1.2 (di b.1.3 [nW.mk b.2.2.1 (av
 b.1.1)]),b.2.1,0,())) λc=>Z c)
def aoD(n:Nat):OC:=⟨220,⟨al8,K111,J,F220 n⟩,cV [aci n] [] n 10 220⟩
abbrev XA(F:Fn P3 K2 J):lz sg:=⟨P3,K2,J,F⟩
def B163:Y97:=
 λn f163 c=>ah (ai (aa c.1.1 2) (Z (N (1,W,()))) (Z (N (0,J,())))) λ(d:Y98)=>cM d (λe=>ah (@iter
 (Int×Int×U) (Int×U) (U) (Any) (λg=>ai (aC g.2.1 (av c.1.4)) (aT (aN g.2.1 c.1.4) (ah (f163 (bp c.1.4 (az g.2.1)
 aL,())) λh=>Z (N (aF .i64 g.1 h.1.1,aF .i64 g.2.1 1,())))) (Z (H 0 g))) n (e.1,0,())) λg=>bD g (λ_ i
 =>Z ((i.1,()),())) (λ_ i=>Z (i,())) λ_ _=>Y) (λ_ _=>Y) (λ_ g=>Z (g,())) λ_ _=>Y
def D163(n:Nat)(f163:Fn P3 K2 J)(a:bA prog 163 (XA f163)):bA prog 163 (XA (B163 n f163)):=cV [⟨163,XA f163,a⟩] [(163,0,⟨[(3,dj),(4,dj)],[],[],0⟩),(163,1000003,⟨[(3,dj),(7,dQ)],[],[],0⟩)] n 10 163
def R163(n k:Nat):(Fn P3 K2 J):=Nat.rec (motive:=λ_=>(Fn P3 K2 J)) (λ_=>Y) (λ_ r=>B163 n r) k
def F163(n:Nat):Fn P3 K2 J:=(R163 n n)
def ae0(n:Nat):∀k,bA prog 163 (XA (R163 n k))
 |0=>ck (enters 163 (by kernel_rfl))
 |k+1=>have a:=ae0 n k
  D163 n _ a
def ajm(n:Nat):OC:=⟨163,XA (F163 n),(ae0 n n)⟩
def F222:alN:=
 λn b=>ai (aa b.1 3) (Z ((3,()),())) (ai (aa b.1 9) (Z ((13,()),())) (ai (aa b.1 10) (Z ((14,()),())) (ai (aa b.1
 11) (Z ((15,()),())) (ai (aa b.1 12) (Z ((16,()),())) (ai (aa b.1 13) (Z ((17,()),())) (ai (aa b.1 16) (Z ((21,()),()))
 (ai (aa b.1 17) (Z ((22,()),())) (ai (aa b.1 18) (Z ((23,()),())) (ai (aa b.1 19) (Z ((24,()),())) (ai (aa b.1 20) (Z
 ((25,()),())) (ai (aa b.1 21) (Z ((26,()),())) (ai (aa b.1 22) (Z ((27,()),())) (ai (aa b.1 23) (Z ((28,()),())) (ai
 (aa b.1 25) (Z ((30,()),())) (Z ((33,()),()))))))))))))))))
def aoC(n:Nat):OC:=⟨222,⟨P26,K2,J,F222 n⟩,cV [] [] n 10 222⟩
abbrev QD(F:Fn Sc K111 J):lz sg:=⟨Sc,K111,J,F⟩
def ff(d:Wg):gz:=
 bp d.2.1.1 (az d.2.2.1) tT
def Ij(d:Wg):Int×U:=
 ((ff d).2,())
def sX(n:Nat)(f145:Wg->O Iq)(f221:Y32->O Iq)(d:Wg):Iq->O Iq:=
 λe=>ah (F219 n (e.1.1,d.2.2.2)) λg=>Z g
def Dh(d:Wg):Bool:=
 aN 0 (ff d).3
def SL(d:Wg):Int×U:=
 (bp (ff d).3 (az 0) 0,())
def SK(f145:Wg->O Iq)(d:Wg):O Iq:=
 f145 (d.1,d.2.1,bp (ff d).3 (az 0) 0,J,())
def aaV(f145:Wg->O Iq)(d:Wg)(g:Iq):O Iq:=
 f145 (g.1.1,d.2.1,bp (ff d).3 (az 1) 0,d.2.2.2)
def SJ(i:Iq):Pf×U:=
 ((i.1.1.1,i.1.1.2,i.1.1.3,()),())
def ahJ(j:Bool×Pf×U):bE:=
 bE.mk j.2.1.1 j.2.1.2.1 j.2.1.2.2.1
def Mr(n:Nat)(e:Iq)(h:Iq):O Iq:=
 F146 n (h.1.1,av e.1.1.1,())
def ym(e:Int×Pf×U):bE:=
 bE.mk e.2.1.1 e.2.1.2.1 e.2.1.2.2.1
def B145:Nat->(Wg->O Iq)->(Y32->O Iq)->Wg->O Iq:=
 λn f145 f221 d=>aT (aN d.2.2.1 d.2.1.1) (ai (aa (ff d).1 1) (ah (F218 n (d.1,1,Ij d)) (sX n f145 f221 d)) (ai (aa
 (ff d).1 2) (ah (F218 n (d.1,2,Ij d)) (sX n f145 f221 d)) (ai (aa (ff d).1 4) (ai (aC (ff d).2 0) (ah (F218 n (d.1,5,
 bF .i64 (-1) (ff d).2,())) (sX n f145 f221 d)) (ah (F218 n (d.1,4,Ij d)) (sX n f145 f221 d))) (ai (aa (ff d).1 5) (aT
 (Dh d) (ah (F220 n (d.1,6,SL d)) (sX n f145 f221 d))) (ai (aa (ff d).1 26) (aT (Dh d) (ah (F220 n (d.1,31,SL d))
 (sX n f145 f221 d))) (ai (aa (ff d).1 27) (aT (Dh d) (ah (F220 n (d.1,32,SL d)) (sX n f145 f221 d))) (ai (aa (ff
 d).1 7) (aT (Dh d) (ah (SK f145 d) λe=>ah (F218 n (e.1.1,9,0,())) λg=>aT (aN 1 (ff d).3) (ah (aaV f145 d g) λh=>
 ah (ai (ak d.2.2.2.1) (ah (F218 n (h.1.1,10,1,())) λi=>Z (N (W,SJ i))) (Z (N (J,SJ h)))) λ(i :
 Y34)=>cM i (λj=>Z ((ahJ j,()),())) (λ_ _=>Y) (λ_ _=>Z ((gW,()),())) λ_ _=>Y))) (ai (aa
 (ff d).1 8) (aT (Dh d) (ah (SK f145 d) λe=>ah (F218 n (e.1.1,12,0,())) λg=>aT (aN 1 (ff d).3) (ah (aaV f145 d g)
 λh=>ai d.2.2.2.1 (ah (Mr n e h) λi=>aT (aN 2 (ff d).3) (ah (f145 (i.1.1,d.2.1,bp (ff d).3 (az 2) 0,W,())) λj
 =>Z j)) (ah (F218 n (h.1.1,11,0,())) λi=>ah (Mr n e i) λj=>aT (aN 2 (ff d).3) (ah (f145 (j.1.1,d.2.1,bp (ff d).3
 (az 2) 0,J,())) λk=>ah (Mr n h k) λl=>Z l))))) (ai (aa (ff d).1 15) (aT (Dh d) (ah (SK f145 d) λe=>
 ah (f221 (e.1.1,d.2.1,ff d,d.2.2.2)) λg=>Z g)) (ah (aO (Int×Pf×U) (U) (Pf×U) (λe=>ai (aC e.1 (av
 (ff d).3)) (aT (aN e.1 (ff d).3) (ah (f145 (ym e,d.2.1,bp (ff d).3 (az e.1) 0,J,())) λg=>Z (N (aF .i64
 e.1 1,SJ g)))) (Z (H 0 e))) n (0,(d.1.1,d.1.2,d.1.3,()),())) λe=>bD e (λ_ h=>ai (aa (ff d).1 6) (ai d.2.2.2.1
 (ah (F218 n (ym h,8,0,())) λi=>Z i) (ah (F218 n (ym h,7,0,())) λi=>Z i)) (ai (aa (ff d).1 14) (ah (F218 n
 (ym h,18,Ij d)) (sX n f145 f221 d)) (ai (aa (ff d).1 24) (ah (F218 n (ym h,29,Ij d)) (sX n f145 f221 d)) (ah
 (F222 n ((ff d).1,())) λi=>ah (F218 n (ym h,i.1.1,0,())) (sX n f145 f221 d))))) (λ_ _=>Z ((gW,()),()))
 λ_ _=>Y))))))))))
abbrev abD(F:Fn aag K111 J):lz sg:=⟨aag,K111,J,F⟩
def Dg(i:Iq):Pf×U:=
 ((i.1.1.1,i.1.1.2,i.1.1.3,()),())
def ahG(j:Bool×Pf×U):bE:=
 bE.mk j.2.1.1 j.2.1.2.1 j.2.1.2.2.1
def aaT(i:Int×Pf×U):bE:=
 bE.mk i.2.1.1 i.2.1.2.1 i.2.1.2.2.1
def B221:Nat->(Wg->O Iq)->Y32->O Iq:=
 λn f145 c=>ah (aO (Y33) (U) (Pf×U) (λd=>ai (aC d.2.1 (av c.2.2.1.4)) (aT (aN d.2.1 c.2.2.1.4) (aT (dF
 d.2.2.1.2.1 [bp c.2.2.1.4 (az d.2.1) aL]) (aT (aN (aF .i64 1 d.2.1) c.2.2.1.3) (ah (F218 n (bE.mk d.2.2.1.1 (di
 d.2.2.1.2.1 [bp c.2.2.1.4 (az d.2.1) aL]) d.2.2.1.2.2.1,19,bF .i64 (av (di d.2.2.1.2.1 [bp c.2.2.1.4 (az d.2.1) aL])) 1,
 ())) λe=>ah (f145 (e.1.1,c.2.1,bp c.2.2.1.3 (az (aF .i64 1 d.2.1)) 0,c.2.2.2)) λg=>ai (ak c.2.2.2.1) (aT (aN d.2.1
 c.2.2.1.4) (ah (F163 n (bp c.2.2.1.4 (az d.2.1) aL,())) λh=>ah (ai (aC 0 h.1.1) (ah (F218 n (g.1.1,10,h.1)) λi=>Z
 (N (W,Dg i))) (Z (N (J,Dg g)))) λ(i:Y34)=>cM i (λj=>aT (dF d.1 [av j.2.1.1]) (ah (F218 n (ahG
 j,11,0,())) λk=>ah (F146 n (k.1.1,av d.2.2.1.1,())) λl=>Z (N (di d.1 [av j.2.1.1],aF .i64 d.2.1 1,Dg l)))) (λ
 _ _=>Y) (λj _=>Z (X j ())) λ_ _=>Y)) (ah (F146 n (g.1.1,av d.2.2.1.1,())) λh=>Z (N (d.1,aF .i64 d.2.1
 1,Dg h))))))) (Z (H 0 d))) n ([],0,(c.1.1,c.1.2,c.1.3,()),())) λd=>bD d (λ_ g=>ah (F218 n (bE.mk
 g.2.2.1.1 g.2.2.1.2.1 g.2.2.1.2.2.1,20,0,())) λh=>ah (aO (Int×Pf×U) (U) (Pf×U) (λi=>ai (aC i.1 (av g.1))
 (aT (aN i.1 g.1) (aT (eR (az i.1) g.1) (ah (F146 n (aaT i,bp g.1 (az i.1) 0,())) λj=>Z (N (aF .i64 i.1 1,Dg
 j))))) (Z (H 0 i))) n (0,Dg h)) λi=>bD i (λ_ k=>Z ((aaT k,()),())) (λ_ _=>Z ((gW,()),())) λ
 _ _=>Y) (λ_ _=>Z ((gW,()),())) λ_ _=>Y
def D145(n:Nat)(f145:Fn Sc K111 J)(f221:Fn aag K111 J)(a:bA prog 145 (QD f145))(b:bA prog 221 (abD f221)):bA prog 145 (QD (B145 n f145 f221)):=cV [⟨145,QD f145,a⟩,afO n,aci n,aoE n,aoD n,⟨221,abD f221,b⟩,aoC n] [(145,1,⟨[(12,dj),(0,RL)],[.slot 4],[],0⟩),(145,1000020,⟨[(102,dQ),(0,RL)],[.slot 4],[],0⟩)] n 10 145
def D221(n:Nat)(f145:Fn Sc K111 J)(a:bA prog 145 (QD f145)):bA prog 221 (abD (B221 n f145)):=cV [⟨145,QD f145,a⟩,afO n,ajm n,aci n] [(221,0,⟨[(9,.one (.own (.int .i64))),(10,dj),(0,RL)],[.slot 4],[],0⟩),(221,2,⟨[(13,dj),(0,RL)],[.slot 4],[],0⟩),(221,1000011,⟨[(59,dQ),(0,RL)],[.slot 4],[],0⟩)] n 10 221
def R145(n k:Nat):(Fn Sc K111 J)×(Fn aag K111 J):=Nat.rec (motive:=λ_=>(Fn Sc K111 J)×(Fn aag K111 J)) ((λ_=>Y,λ_=>Y)) (λ_ r=>(B145 n r.1 r.2,B221 n r.1)) k
def F145(n:Nat):Fn Sc K111 J:=(R145 n n).1
def ae2(n:Nat):∀k,bA prog 145 (QD (R145 n k).1)∧bA prog 221 (abD (R145 n k).2)
 |0=>⟨ck (enters 145 (by kernel_rfl)),ck (enters 221 (by kernel_rfl))⟩
 |k+1=>have a:=ae2 n k
  ⟨D145 n _ _ a.1 a.2,D221 n _ a.1⟩
def apo(n:Nat):OC:=⟨145,QD (F145 n),(ae2 n n).1⟩
def F98:Nat->gL×U->Y95:=
 λn b=>ah (aO (Y33) (U) (Pf×U) (λc=>ai (aC c.2.1 (av b.1.2)) (aT (dF c.1 [av c.2.2.1.1]) (aT (aN c.2.1 b.1.2)
 (ah (F145 n (bE.mk c.2.2.1.1 c.2.2.1.2.1 c.2.2.1.2.2.1,b.1,bp b.1.2 (az c.2.1) 0,W,())) λd=>Z (N (di c.1 [av
 c.2.2.1.1],aF .i64 c.2.1 1,(d.1.1.1,d.1.1.2,d.1.1.3,()),()))))) (Z (H 0 c))) n ([],0,([],[],[],()),())) λc=>bD c (λ_
 e=>ah (aO (Int×Pf×U) (U) (Pf×U) (λg=>ai (aC g.1 (av g.2.1.2.2.1)) (aT (aN g.1 g.2.1.2.2.1) (ah (F146 n
 (bE.mk g.2.1.1 g.2.1.2.1 g.2.1.2.2.1,(bp g.2.1.2.2.1 (az g.1) Bh).2,())) λh=>aT (aN g.1 g.2.1.2.2.1) (ah (F145 n
 (h.1.1,b.1,(bp g.2.1.2.2.1 (az g.1) Bh).1,W,())) λi=>Z (N (aF .i64 g.1 1,(i.1.1.1,i.1.1.2,i.1.1.3,()),())))))
 (Z (H 0 g))) n (0,e.2.2)) λg=>bD g (λ_ i=>Z ((ax.mk i.2.1.1 i.2.1.2.1 e.1 b.1.3 b.1.4,()),())) (λ_ _=>Z
 ((qh,()),())) λ_ _=>Y) (λ_ _=>Z ((qh,()),())) λ_ _=>Y
def k98(n:Nat):OC:=⟨98,⟨asT,K117,J,F98 n⟩,cV [apo n,afO n] [(98,0,⟨[(4,.one (.own (.int .i64))),(5,dj),(0,RL)],[.slot 3],[],0⟩),(98,2,⟨[(6,dj),(0,RL)],[.slot 3],[],0⟩)] n 10 98⟩
def F42:Nat->L UInt8×U->Y95:=
 λn b=>ah (F96 n b) λc=>ah (F97 n (c.1.1,())) λd=>ah (F98 n (d.1.1,())) λe=>Z e
def k42(n:Nat):OC:=⟨42,⟨P7,K117,J,F42 n⟩,cV [k96 n,k97 n,k98 n] [] n 10 42⟩
def F43:Y92:=
 λn b=>Z ((aA.mk 1 b.1,()),())
def k43(n:Nat):OC:=⟨43,⟨P26,K20,J,F43 n⟩,cV [] [] n 10 43⟩
def aaE(n:Nat):Y95:=
 F42 n ([109,111,100,117,108,101,32,97,32,123,32,102,117,110,32,109,97,105,110,40,117,32,58,32,117,110,105,116,41,32,58,
 32,105,110,116,32,61,32,108,101,116,32,99,32,61,32,99,101,108,108,40,49,41,32,105,110,32,108,101,116,32,120,32,61,32,
 111,117,116,40,48,44,32,103,101,116,40,99,41,41,32,105,110,32,108,101,116,32,121,32,61,32,112,117,116,40,99,44,32,105,
 110,112,117,116,41,32,105,110,32,103,101,116,40,99,41,32,43,32,49,59,32,125],())
def y7(n:Nat):O Y4:=
 Z ((J,()),())
def Kj(e:Y96):aM:=
 bp e.1.2.1 (az 2) cZ
def Ki(e:Y96):aM:=
 bp e.1.2.1 (az 5) cZ
def F12:Nat->U->O Y4:=
 λn _=>ah (F42 n ([109,111,100,117,108,101,32,98,32,123,32,102,117,110,32,119,111,114,107,40,99,32,58,32,99,104,97,110,
 32,105,110,116,41,32,58,32,117,110,105,116,32,61,32,108,101,116,32,120,32,61,32,115,101,110,100,40,99,44,32,53,41,32,
 105,110,32,115,101,110,100,40,99,44,32,54,41,59,32,102,117,110,32,109,97,105,110,40,117,32,58,32,117,110,105,116,41,
 32,58,32,105,110,116,32,61,32,108,101,116,32,99,32,61,32,99,104,97,110,32,105,110,32,108,101,116,32,116,32,61,32,115,
 112,97,119,110,40,102,117,110,32,117,32,61,62,32,119,111,114,107,32,99,41,32,105,110,32,116,97,107,101,40,99,41,32,43,
 32,114,101,115,101,116,40,49,32,43,32,40,115,104,105,102,116,32,107,32,61,62,32,107,32,40,107,32,49,48,41,41,41,59,
 32,125],())) λc=>ah (F13 n (c.1.1,[],())) λd=>ah (F20 n (c.1.1,d.1.1,[0,0,1,1,0,0,1],())) λe=>ah (F24 n (c.1.1,e.1.1,
 ())) λg=>ah (aaE n) λh=>ah (F13 n (h.1.1,[],())) λi=>ah (aaE n) λj=>ah (F28 n (j.1.1,i.1.1,0,())) λk=>ai (ak
 (aa d.1.2.1 0)) (y7 n) (ai (ak (aa e.1.2.2.1 0)) (y7 n) (ai (ak (aa g.1.2.1 0)) (y7 n) (ai (ak (aa i.1.2.1 0))
 (y7 n) (ai (ak (aa k.1.2.2.2.1 0)) (y7 n) (ai (ak (aa (av e.1.2.1) 7)) (y7 n) (aT (aN 2 e.1.2.1) (ah (F43 n (5,())) λ
 l=>ai (cm (aa (Kj e).1 1) (cm (aa (Kj e).2 22) (cm (aa (Kj e).3 0) (cm (aa (Kj e).4.1 l.1.1.1) (cm
 (aa (Kj e).4.2 l.1.1.2) W))))) (aT (aN 5 e.1.2.1) (ah (F43 n (17,())) λm=>ai (cm (aa (Ki e).1 0) (cm (aa (Ki
 e).2 0) (cm (aa (Ki e).3 1) (cm (aa (Ki e).4.1 m.1.1.1) (cm (aa (Ki e).4.2 m.1.1.2) W))))) (ai (aa (av g.1.1.1)
 2) (ah (F43 n (1,())) λo=>ai (cm (aa k.1.2.1.1 0) (cm (aa k.1.2.1.2 16) (cm (aa k.1.2.1.3 0) (cm (aa k.1.2.1.4.1
 o.1.1.1) (cm (aa k.1.2.1.4.2 o.1.1.2) W))))) (Z ((aa k.1.2.2.1 3,()),())) (y7 n)) (y7 n)) (y7 n))) (y7 n))))))))
def k12(n:Nat):OC:=⟨12,⟨[],K4,J,F12 n⟩,cV [k13 n,k20 n,k24 n,k28 n,k42 n,k43 n] [] n 10 12⟩
def F104:Y41:=
 λn b=>ai (bn b.2.1 b.1) (Z ((bn b.1 b.2.2.1,()),())) (Z ((J,()),()))
def ajv(n:Nat):OC:=⟨104,⟨P6,K4,J,F104 n⟩,cV [] [] n 10 104⟩
def F241:Y41:=
 λn b=>ai (bn b.2.1 b.1) (Z ((bn b.1 b.2.2.1,()),())) (Z ((J,()),()))
def ajf(n:Nat):OC:=⟨241,⟨P6,K4,J,F241 n⟩,cV [] [] n 10 241⟩
def F158:Y79:=
 λn b=>ah (aO (Y80) (Bool×U) (U) (λc=>ai (aC c.2.1 (av b.1)) (aT (aN c.2.1 b.1) (ah (F240 n ((bp b.1 (az c.2.1)
 bf).1,())) λd=>ai (ak d.1.1) (Z (X () (J,()))) (aT (aN c.2.1 b.1) (ah (F241 n ((bp b.1 (az c.2.1) bf).2,0,
 3,())) λe=>ai (ak e.1.1) (Z (X () (J,()))) (aT (aN c.2.1 b.1) (aT (dF c.1 [(bp b.1 (az c.2.1) bf).1]) (Z
 (N (di c.1 [(bp b.1 (az c.2.1) bf).1],aF .i64 c.2.1 1,()))))))))) (Z (H 0 c))) n ([],0,())) λc=>bD c (λ_ e
 =>ai (bn (av b.1) 20) (ah (F139 n (e.1,())) λg=>Z g) (Z ((J,()),()))) (λ_ e=>Z (e,())) λ_ _=>Y
def apn(n:Nat):OC:=⟨158,⟨P8,K4,J,F158 n⟩,cV [afP n,Ym n,ajf n] [(158,0,⟨[(3,.one (.own (.str))),(4,dj)],[],[],0⟩)] n 10 158⟩
def F105:Y79:=
 λn b=>ah (F158 n b) λc=>Z c
def apE(n:Nat):OC:=⟨105,⟨P8,K4,J,F105 n⟩,cV [apn n] [] n 10 105⟩
abbrev XB(F:Fn P9 K4 J):lz sg:=⟨P9,K4,J,F⟩
def Ii(n:Nat)(f159:WG->O Y4)(c:WG):Bool×Int×U->O alI:=
 λi=>ai (aC i.2.1 (av c.1.4)) (ai i.1 (aT (aN i.2.1 c.1.4) (ah (f159 (bp c.1.4 (az i.2.1) aL,c.2)) λj=>Z (N
 (j.1.1,aF .i64 i.2.1 1,())))) (Z (H 0 i))) (Z (H 0 i))
def Ih(n:Nat)(f159:WG->O Y4):alI->O Y4:=
 λi=>bD i (λ_ k=>Z ((k.1,()),())) (λ_ k=>Z (k,())) λ_ _=>Y
def B159:alW:=
 λn f159 c=>ah (ai (aa c.1.1 1) (Z (N (W,()))) (ah (ai (aa c.1.1 2) (Z (N (W,()))) (Z (N (aa c.1.1
 5,())))) λ(d:nM)=>cM d (λe=>Z (N e)) (λ_ _=>Y) (λ_ g=>Z (X () g)) λ_ _=>Y)) λ(d:nM)=>
 cM d (λe=>ah (ai e.1 (ai (aa (av c.1.4) 0) (Z (N (aa c.1.2 0,W,()))) (Z (N (J,W,())))) (ah (ai
 (aa c.1.1 3) (ai (aa (av c.1.4) 0) (ah (F241 n (c.1.2,(-1000000000),1000000000,())) λg=>Z (N (g.1.1,W,()))) (Z
 (N (J,W,())))) (ah (ai (aa c.1.1 4) (ai (aa (av c.1.4) 0) (ah (F241 n (c.1.2,0,1,())) λg=>Z (N (g.1.1,
 W,()))) (Z (N (J,W,())))) (ah (ai (aa c.1.1 6) (ah (F241 n (c.1.2,0,bF .i64 (av c.2.1) 1,())) λg=>ai g.1.1
 (aT (aN c.1.2 c.2.1) (Z (N (aa (av c.1.4) (bp c.2.1 (az c.1.2) bf).2,W,())))) (Z (N (J,W,())))) (Z
 (N (J,J,())))) λ(g:yA)=>cM g (λh=>Z (N (h.1,J,()))) (λ_ _=>Y) (λ_ i=>Z (X () i))
 λ_ _=>Y)) λ(g:yA)=>cM g (λh=>Z (N (h.1,J,()))) (λ_ _=>Y) (λ_ i=>Z (X () i)) λ_ _=>
 Y)) λ(g:yA)=>cM g (λh=>Z (N (h.1,J,()))) (λ_ _=>Y) (λ_ i=>Z (X () i)) λ_ _=>Y)) λ(g
 :yA)=>cM g (λh=>ai h.1 (ah (aO (Bool×Int×U) (Bool×U) (U) (Ii n f159 c) n (gp c.1.3 [],0,())) (Ih n
 f159)) (ah (aO (Bool×Int×U) (Bool×U) (U) (Ii n f159 c) n (J,0,())) (Ih n f159))) (λ_ _=>Y) (λ_ i=>
 Z (i,())) λ_ _=>Y) (λ_ _=>Y) (λ_ g=>Z (g,())) λ_ _=>Y
def D159(n:Nat)(f159:Fn P9 K4 J)(a:bA prog 159 (XB f159)):bA prog 159 (XB (B159 n f159)):=cV [⟨159,XB f159,a⟩,ajf n] [(159,1,⟨[(5,dQ),(7,dj)],[],[],0⟩),(159,1000005,⟨[(13,dQ)],[],[],0⟩),(159,1000006,⟨[(13,dQ)],[],[],0⟩),(159,1000007,⟨[(5,dQ),(13,dQ)],[],[],0⟩),(159,1000009,⟨[(5,dQ),(24,dQ)],[],[],0⟩),(159,1000011,⟨[(5,dQ),(33,dQ)],[],[],0⟩),(159,1000013,⟨[(5,dQ),(42,dQ)],[],[],0⟩)] n 10 159
def R159(n k:Nat):(Fn P9 K4 J):=Nat.rec (motive:=λ_=>(Fn P9 K4 J)) (λ_=>Y) (λ_ r=>B159 n r) k
def F159(n:Nat):Fn P9 K4 J:=(R159 n n)
def ae1(n:Nat):∀k,bA prog 159 (XB (R159 n k))
 |0=>ck (enters 159 (by kernel_rfl))
 |k+1=>have a:=ae1 n k
  D159 n _ a
def apm(n:Nat):OC:=⟨159,XB (F159 n),(ae1 n n)⟩
def F106:Nat->WG->O Y4:=
 λn b=>ah (F159 n (aD.mk b.1.1 b.1.2 b.1.3 b.1.4,b.2)) λc=>Z c
def apD(n:Nat):OC:=⟨106,⟨P9,K4,J,F106 n⟩,cV [apm n] [] n 10 106⟩
def Ia(n:Nat):nM->O nM:=
 λc=>cM c (λd=>Z (N d)) (λ_ _=>Y) (λ_ e=>Z (X () e)) λ_ _=>Y
def Mj(n:Nat)(b:Y28):O Y4:=
 ai (aa b.2.1.1 1) (ah (F104 n (b.2.1.2,(-1000000000),1000000000,())) λc=>Z c) (ai (aa b.2.1.1 2) (ah (F104 n (b.2.1.2,0,1,()))
 λc=>Z c) (ai (aa b.2.1.1 4) (ah (F104 n (b.2.1.2,0,29,())) λc=>Z c) (ai (aa b.2.1.1 5) (ah (F104 n (b.2.1.2,0,bF .i64
 (av b.1.3) 1,())) λc=>Z c) (ah (ai (aa b.2.1.1 6) (Z (N (W,()))) (ah (ai (aa b.2.1.1 11) (Z (N (W,())))
 (ah (ai (aa b.2.1.1 12) (Z (N (W,()))) (ah (ai (aa b.2.1.1 31) (Z (N (W,()))) (Z (N (aa b.2.1.1 32,
 ())))) (Ia n))) (Ia n))) (Ia n))) λ(c:nM)=>cM c (λd=>ai d.1 (ah (F104 n (b.2.1.2,0,bF .i64 (av b.1.1) 1,()))
 λe=>Z e) (ai (aa b.2.1.1 10) (ah (F104 n (b.2.1.2,1,30,())) λe=>Z e) (ai (aa b.2.1.1 18) (ah (F104 n (b.2.1.2,0,bF .i64
 (av b.1.5) 1,())) λe=>Z e) (ai (aa b.2.1.1 19) (ah (F104 n (b.2.1.2,0,bF .i64 (av b.1.2) 1,())) λe=>ai e.1.1 (ah (F104
 n (b.2.1.3,0,bF .i64 (av b.1.1) 1,())) λg=>Z g) (Z ((J,()),()))) (ai (aa b.2.1.1 29) (ah (F104 n (b.2.1.2,0,3,()))
 λe=>Z e) (ah (F104 n (b.2.1.1,1,34,())) λe=>ai e.1.1 (Z ((aa b.2.1.2 0,()),())) (Z ((J,()),())))))))) (λ_ _=>
 Y) (λ_ e=>Z (e,())) λ_ _=>Y))))
def F107:Nat->Y28->O Y4:=
 λn b=>ai (ak (aa b.2.1.1 19)) (ai (ak (aa b.2.1.3 0)) (Z ((J,()),())) (Mj n b)) (Mj n b)
def apC(n:Nat):OC:=⟨107,⟨P12,K4,J,F107 n⟩,cV [ajv n] [(107,1000014,⟨[(43,dQ)],[],[],0⟩),(107,1000015,⟨[(43,dQ)],[],[],0⟩),(107,1000016,⟨[(43,dQ)],[],[],0⟩),(107,1000017,⟨[(43,dQ)],[],[],0⟩)] n 10 107⟩
def Kf(n:Nat):O Y4:=
 Z ((J,()),())
def F50:alT:=
 λn b=>ah (F104 n (av b.1.1,1,1500,())) λc=>ai (ak c.1.1) (Kf n) (ai (aC 100 (av b.1.2)) (Kf n) (ah (F105 n (b.1.5,
 ())) λd=>ai (ak d.1.1) (Kf n) (ah (F104 n (av b.1.3,1,300,())) λe=>ai (ak e.1.1) (Kf n) (ah (F104 n (b.1.4,0,bF .i64
 (av b.1.3) 1,())) λg=>ai (ak g.1.1) (Kf n) (ah (aO (Int×U) (Bool×U) (U) (λh=>ai (aC h.1 (av b.1.2))
 (aT (aN h.1 b.1.2) (ah (F94 n (bp b.1.2 (az h.1) aL,12,())) λi=>ai (aC i.1.1 0) (Z (X () (J,()))) (aT (aN h.1
 b.1.2) (ah (F106 n (bp b.1.2 (az h.1) aL,b.1.5,())) λj=>ai (ak j.1.1) (Z (X () (J,()))) (Z (N (aF .i64
 h.1 1,()))))))) (Z (H 0 h))) n (0,())) λh=>bD h (λ_ _=>ah (aO (Int×U) (Bool×U) (U) (λk=>ai (aC
 k.1 (av b.1.3)) (aT (aN k.1 b.1.3) (ah (F104 n (bp b.1.3 (az k.1) 0,0,bF .i64 (av b.1.1) 1,())) λl=>ai (ak l.1.1) (Z
 (X () (J,()))) (Z (N (aF .i64 k.1 1,()))))) (Z (H 0 k))) n (0,())) λk=>bD k (λ_ _=>ah (aO (Int×U) (Bool×U) (U) (λo=>ai (aC o.1 (av b.1.1)) (aT (aN o.1 b.1.1) (ah (F107 n (b.1,bp b.1.1 (az o.1) bM,())) λp=>
 ai (ak p.1.1) (Z (X () (J,()))) (Z (N (aF .i64 o.1 1,()))))) (Z (H 0 o))) n (0,())) λo=>bD o (λ_ _
 =>Z ((W,()),())) (λ_ q=>Z (q,())) λ_ _=>Y) (λ_ m=>Z (m,())) λ_ _=>Y) (λ_ j=>Z (j,())) λ_ _=>
 Y)))))
def k50(n:Nat):OC:=⟨50,⟨P5,K4,J,F50 n⟩,cV [k94 n,ajv n,apE n,apD n,apC n] [(50,0,⟨[(3,dj)],[],[],0⟩),(50,2,⟨[(4,dj)],[],[],0⟩),(50,4,⟨[(5,dj)],[],[],0⟩)] n 10 50⟩
def F108:Y43:=
 λn b=>Z ((aq.mk W b.1 b.2.1,()),())
def aju(n:Nat):OC:=⟨108,⟨P14,K15,J,F108 n⟩,cV [] [] n 10 108⟩
def Ab(n:Nat):Y27->O Y27:=
 λc=>cM c (λd=>Z (N d)) (λ_ _=>Y) (λ_ e=>Z (X () e)) λ_ _=>Y
def xp(n:Nat):Y27->O Y27:=
 λe=>cM e (λg=>Z (N g)) (λ_ _=>Y) (λ_ h=>Z (X () h)) λ_ _=>Y
def F160:Nat->Y28->Ip:=
 λn b=>ah (ai (aa b.2.1.1 7) (Z (N (W,()))) (ah (ai (aa b.2.1.1 13) (Z (N (W,()))) (ah (ai (aa b.2.1.1 14)
 (Z (N (W,()))) (ah (ai (aa b.2.1.1 15) (Z (N (W,()))) (ah (ai (aa b.2.1.1 16) (Z (N (W,()))) (ah (ai
 (aa b.2.1.1 17) (Z (N (W,()))) (ah (ai (aa b.2.1.1 23) (Z (N (W,()))) (Z (N (aa b.2.1.1 27,()))))
 (Ab n))) (Ab n))) (Ab n))) (Ab n))) (Ab n))) (Ab n))) λ(c:Y27)=>cM c (λd=>ai d.1 (Z ((2,()),())) (ah (ai
 (aa b.2.1.1 9) (Z (N (W,()))) (ah (ai (aa b.2.1.1 12) (Z (N (W,()))) (ah (ai (aa b.2.1.1 19) (Z (N
 (W,()))) (ah (ai (aa b.2.1.1 21) (Z (N (W,()))) (ah (ai (aa b.2.1.1 22) (Z (N (W,()))) (ah (ai (aa b.2.1.1
 24) (Z (N (W,()))) (ah (ai (aa b.2.1.1 25) (Z (N (W,()))) (ah (ai (aa b.2.1.1 28) (Z (N (W,()))) (Z
 (N (aa b.2.1.1 29,())))) (xp n))) (xp n))) (xp n))) (xp n))) (xp n))) (xp n))) (xp n))) λ(e:Y27)=>cM e
 (λg=>ai g.1 (Z ((1,()),())) (ai (aa b.2.1.1 18) (aT (aN b.2.1.2 b.1.5) (Z (((bp b.1.5 (az b.2.1.2) bf).2,()),()))) (ai
 (aa b.2.1.1 8) (Z (((-3),()),())) (ai (aa b.2.1.1 34) (Z (((-2),()),())) (Z ((0,()),())))))) (λ_ _=>Y) (λ_ h=>Z
 (h,())) λ_ _=>Y)) (λ_ _=>Y) (λ_ e=>Z (e,())) λ_ _=>Y
def apl(n:Nat):OC:=⟨160,⟨P12,K2,J,F160 n⟩,cV [] [(160,1000003,⟨[(7,dQ)],[],[],0⟩),(160,1000004,⟨[(7,dQ)],[],[],0⟩),(160,1000005,⟨[(7,dQ)],[],[],0⟩),(160,1000006,⟨[(7,dQ)],[],[],0⟩),(160,1000007,⟨[(7,dQ)],[],[],0⟩),(160,1000008,⟨[(7,dQ)],[],[],0⟩),(160,1000009,⟨[(7,dQ)],[],[],0⟩),(160,1000012,⟨[(16,dQ)],[],[],0⟩),(160,1000013,⟨[(16,dQ)],[],[],0⟩),(160,1000014,⟨[(16,dQ)],[],[],0⟩),(160,1000015,⟨[(16,dQ)],[],[],0⟩),(160,1000016,⟨[(16,dQ)],[],[],0⟩),(160,1000017,⟨[(16,dQ)],[],[],0⟩),(160,1000018,⟨[(16,dQ)],[],[],0⟩),(160,1000019,⟨[(16,dQ)],[],[],0⟩)] n 10 160⟩
def F161:Y5:=
 λn b=>ai (aa b.1 8) (Z ((W,()),())) (ai (aa b.1 20) (Z ((W,()),())) (Z ((aa b.1 34,()),())))
def apk(n:Nat):OC:=⟨161,⟨P26,K4,J,F161 n⟩,cV [] [] n 10 161⟩
def CY(n:Nat):O Y4:=
 Z ((J,()),())
def F162:Y5:=
 λn b=>ai (aa b.1 9) (CY n) (ai (aa b.1 10) (CY n) (ai (aa b.1 11) (CY n) (ai (aa b.1 12) (CY n) (ai (aa b.1
 19) (CY n) (Z ((W,()),()))))))
def apj(n:Nat):OC:=⟨162,⟨P26,K4,J,F162 n⟩,cV [] [] n 10 162⟩
def g6(b:RW):bO:=
 bp b.1.1 (az b.2.1) bM
def oV(n:Nat)(b:RW):Ud->Z9:=
 λi=>Z (([aZ.mk (aF .i64 b.2.1 1) i.1.1],W,()),())
def rC(n:Nat)(b:RW)(h:Int×Bool×U):O Ud:=
 F108 n (h.1,b.2.2.1.3,())
def vn(n:Nat)(b:RW)(i:Ud):Ud->Z9:=
 λj=>Z (([aZ.mk (aF .i64 b.2.1 1) i.1.1,aZ.mk (g6 b).2 j.1.1],W,()),())
def mZ(n:Nat)(b:RW)(c:(Int×U)×U):Z9:=
 ah (F161 n ((g6 b).1,())) λd=>ai d.1.1 (Z (([],W,()),())) (ah (F162 n ((g6 b).1,())) λe=>ah (ai e.1.1 (Z (N
 (aF .i64 (bF .i64 b.2.2.1.2 c.1.1) 1,W,()))) (Z (N (bF .i64 b.2.2.1.2 c.1.1,J,())))) λ(g:LO (Int×Bool×U)
 (aaa×Bool×U) U Any)=>cM g (λh=>ai (aa (g6 b).1 9) (ah (F108 n (h.1,aF .i64 b.2.2.1.3 1,())) (oV n b)) (ai
 (aa (g6 b).1 10) (ah (F108 n (h.1,bF .i64 b.2.2.1.3 (g6 b).2,())) (oV n b)) (ai (aa (g6 b).1 11) (Z
 (([aZ.mk (g6 b).2 b.2.2.1],W,()),())) (ai (aa (g6 b).1 12) (ah (rC n b h) λi=>ah (rC n b h) (vn n b
 i)) (ai (aa (g6 b).1 19) (aT (aN (g6 b).2 b.1.2) (ah (F163 n (bp b.1.2 (az (g6 b).2) aL,())) λi=>ah (F108 n (h.1,
 aF .i64 b.2.2.1.3 i.1.1,())) λj=>Z (([aZ.mk (aF .i64 b.2.1 1) j.1.1,aZ.mk (g6 b).3 b.2.2.1],W,()),
 ()))) (ah (ai (aa (g6 b).1 6) (Z (N (W,()))) (Z (N (aa (g6 b).1 32,())))) λ(i:LO (Bool×U) (aaa×Bool
 ×U) U Any)=>cM i (λj=>ai j.1 (ah (rC n b h) λk=>ah (F108 n (0,aF .i64 b.2.2.1.3 1,())) (vn n b k)) (ai (aa
 (g6 b).1 31) (ah (rC n b h) λk=>ah (F108 n (0,b.2.2.1.3,())) (vn n b k)) (ah (rC n b h) (oV n b)))) (λ_ _=>Y)
 (λ_ k=>Z (k,())) λ_ _=>Y)))))) (λ_ _=>Y) (λ_ i=>Z (i,())) λ_ _=>Y)
def Db(n:Nat)(b:RW)(c:(Int×U)×U):Z9:=
 ai (aa (g6 b).1 10) (ai (aC b.2.2.1.3 (g6 b).2) (Z (([],J,()),())) (mZ n b c)) (mZ n b c)
def F109:Nat->RW->Z9:=
 λn b=>aT (aN b.2.1 b.1.1) (ah (F160 n (b.1,g6 b,())) λc=>ai (aC c.1.1 0) (Z (([],aa b.2.2.1.2 (bF .i64 (-1) c.1.1),
 ()),())) (ai (aC b.2.2.1.2 c.1.1) (Z (([],J,()),())) (ai (aa (g6 b).1 4) (ai (bn b.2.2.1.3 (g6 b).2) (Z (([],J,
 ()),())) (Db n b c)) (Db n b c))))
def apB(n:Nat):OC:=⟨109,⟨asS,K119,J,F109 n⟩,cV [aju n,apl n,apk n,apj n,ajm n] [(109,1000011,⟨[(10,dj),(63,dQ)],[],[],0⟩),(109,1000024,⟨[(138,dQ)],[],[],0⟩)] n 10 109⟩
def nq(n:Nat):alw:=
 Z (X () ([],J,()))
def vK(g:Z4):Bool:=
 aN (bp g.2.1 (az g.2.2.1) aX).1 g.1
def jm(g:Z4):Nat:=
 az (bp g.2.1 (az g.2.2.1) aX).1
def BI(n:Nat)(b:ax×U)(g:Z4):alw:=
 aT (vK g) (aT (eR (jm g) g.1) (ai (bp g.1 (jm g) aQ).1 (Z (N (g.1,g.2.1,aF .i64 g.2.2.1 1,()))) (aT (vK g)
 (aT (eR (jm g) g.1) (ah (F109 n (b.1,(bp g.2.1 (az g.2.2.1) aX).1,(bp g.2.1 (az g.2.2.1) aX).2,())) λh
 =>ai (ak h.1.2.1) (nq n) (aT (dF g.2.1 h.1.1) (Z (N (rI g.1 (jm g) (bp g.2.1 (az g.2.2.1) aX).2,di g.2.1
 h.1.1,aF .i64 g.2.2.1 1,())))))))))
def F51:Nat->ax×U->O (adD×U):=
 λn b=>aT (nK (QT (av b.1.1)) (fU (av b.1.1) (av b.1.1))) (ah (aO (aaa×Int×U) (adD) (U) (λc=>ai (aC c.2.1
 (av b.1.3)) (aT (aN c.2.1 b.1.3) (ah (F108 n (0,1,())) λd=>aT (dF c.1 [aZ.mk (bp b.1.3 (az c.2.1) 0) d.1.1]) (Z
 (N (di c.1 [aZ.mk (bp b.1.3 (az c.2.1) 0) d.1.1],aF .i64 c.2.1 1,()))))) (Z (H 0 c))) n ([],0,())) λc=>
 bD c (λ_ e=>ah (aO (Z4) (adD) (U) (λg=>ai (aC g.2.2.1 (av g.2.1)) (aT (aN g.2.2.1 g.2.1) (aT (eR (az
 g.2.2.1) g.2.1) (aT (aN g.2.2.1 g.2.1) (aT (eR (az g.2.2.1) g.2.1) (ai (bn (av b.1.1) (bp g.2.1 (az g.2.2.1) aX).1)
 (nq n) (ai (aC 60 (bp g.2.1 (az g.2.2.1) aX).2.2) (nq n) (ai (aC 30 (bp g.2.1 (az g.2.2.1) aX).2.3)
 (nq n) (aT (vK g) (aT (eR (jm g) g.1) (ai (bp g.1 (jm g) aQ).1 (aT (vK g) (aT (eR (jm g) g.1) (ai (ak (cm
 (o8 (bp g.1 (jm g) aQ).1 (bp g.2.1 (az g.2.2.1) aX).2.1) (cm (aa (bp g.1 (jm g) aQ).2 (bp g.2.1
 (az g.2.2.1) aX).2.2) (cm (aa (bp g.1 (jm g) aQ).3 (bp g.2.1 (az g.2.2.1) aX).2.3) W))))
 (nq n) (BI n b g)))) (BI n b g))))))))))) (Z (H 0 g))) n (afi (az (av b.1.1)) aQ,e.1,0,())) λg=>bD g (λ_ i
 =>Z ((i.1,W,()),())) (λ_ i=>Z (i,())) λ_ _=>Y) (λ_ e=>Z (e,())) λ_ _=>Y)
def k51(n:Nat):OC:=⟨51,⟨P5,K120,J,F51 n⟩,cV [aju n,apB n] [(51,0,⟨[(5,.one (.own (.st 26))),(6,dj)],[],[],0⟩),(51,2,⟨[(4,.one (.own (.st 9))),(5,.one (.own (.st 26))),(7,dj)],[],[],0⟩)] n 10 51⟩
def F14:Nat->ax×U->Y35:=
 λn b=>ah (F50 n b) λc=>ai (ak c.1.1) (Z ((kY,J,()),())) (ah (F51 n b) λd=>Z ((bH.mk
 b.1 d.1.1,d.1.2),()))
def k14(n:Nat):OC:=⟨14,⟨P5,K121,J,F14 n⟩,cV [k50 n,k51 n] [] n 10 14⟩
def F52:Y41:=
 λn b=>ai (bn b.2.1 b.1) (Z ((bn b.1 b.2.2.1,()),())) (Z ((J,()),()))
def k52(n:Nat):OC:=⟨52,⟨P6,K4,J,F52 n⟩,cV [] [] n 10 52⟩
def F15:alv:=
 λn b=>ah (aO (Int×U) (Bool×U) (U) (λc=>ai (aC c.1 (av b.1)) (ai (bn c.1 b.2.1) (aT (aN c.1 b.1) (ah (F52
 n (bp b.1 (az c.1) 0,(-1000000000),1000000000,())) λd=>ai (ak d.1.1) (Z (X () (J,()))) (Z (N (aF .i64 c.1 1,
 ()))))) (Z (H 0 c))) (Z (H 0 c))) n (0,())) λc=>bD c (λ_ _=>Z ((bn (av b.1) b.2.1,()),())) (λ_ e=>Z (e,
 ())) λ_ _=>Y
def k15(n:Nat):OC:=⟨15,⟨al7,K4,J,F15 n⟩,cV [k52 n] [(15,0,⟨[(5,dj)],[],[],0⟩)] n 10 15⟩
def F35:Nat->L Int×L Int×U->O Y4:=
 λn b=>ai (ak (aa (av b.1) (av b.2.1))) (Z ((J,()),())) (ah (aO (Int×U) (Bool×U) (U) (λc=>ai
 (aC c.1 (av b.1)) (aT (aN c.1 b.1) (aT (aN c.1 b.2.1) (ai (ak (aa (bp b.1 (az c.1) 0) (bp b.2.1 (az c.1) 0))) (Z (X ()
 (J,()))) (Z (N (aF .i64 c.1 1,())))))) (Z (H 0 c))) n (0,())) λc=>bD c (λ_ _=>Z ((W,()),())) (λ_ e
 =>Z (e,())) λ_ _=>Y)
def k35(n:Nat):OC:=⟨35,⟨asR,K4,J,F35 n⟩,cV [] [(35,0,⟨[(5,dj)],[],[],0⟩)] n 10 35⟩
def F54:Nat->L ei×L ei×U->O Y4:=
 λn b=>ai (ak (aa (av b.1) (av b.2.1))) (Z ((J,()),())) (ah (aO (Int×U) (Bool×U) (U) (λc=>ai
 (aC c.1 (av b.1)) (aT (aN c.1 b.1) (aT (aN c.1 b.2.1) (ai (ak (cm (aa (bp b.1 (az c.1) ki).1 (bp b.2.1 (az c.1)
 ki).1) (cm (aa (bp b.1 (az c.1) ki).2 (bp b.2.1 (az c.1) ki).2) W))) (Z (X () (J,()))) (Z (N
 (aF .i64 c.1 1,())))))) (Z (H 0 c))) n (0,())) λc=>bD c (λ_ _=>Z ((W,()),())) (λ_ e=>Z (e,())) λ_ _=>
 Y)
def k54(n:Nat):OC:=⟨54,⟨asQ,K4,J,F54 n⟩,cV [] [(54,0,⟨[(5,dj)],[],[],0⟩)] n 10 54⟩
def F110:Nat->L aA×L aA×U->O Y4:=
 λn b=>ai (ak (aa (av b.1) (av b.2.1))) (Z ((J,()),())) (ah (aO (Int×U) (Bool×U) (U) (λc=>ai
 (aC c.1 (av b.1)) (aT (aN c.1 b.1) (aT (aN c.1 b.2.1) (ai (ak (cm (aa (bp b.1 (az c.1) cB).1 (bp b.2.1 (az c.1)
 cB).1) (cm (aa (bp b.1 (az c.1) cB).2 (bp b.2.1 (az c.1) cB).2) W))) (Z (X () (J,()))) (Z (N
 (aF .i64 c.1 1,())))))) (Z (H 0 c))) n (0,())) λc=>bD c (λ_ _=>Z ((W,()),())) (λ_ e=>Z (e,())) λ_ _=>
 Y)
def apA(n:Nat):OC:=⟨110,⟨asP,K4,J,F110 n⟩,cV [] [(110,0,⟨[(5,dj)],[],[],0⟩)] n 10 110⟩
def Pz(b:ahq)(d:Int×U):au:=
 bp b.1.4 (az d.1) aS
def Py(b:ahq)(d:Int×U):au:=
 bp b.2.1.4 (az d.1) aS
def F55:asi:=
 λn b=>ai (ak (aa b.1.1 b.2.1.1)) (Z ((J,()),())) (ai (ak (aa b.1.2 b.2.1.2)) (Z ((J,()),())) (ah (F110 n
 (b.1.3,b.2.1.3,())) λc=>ai (ak c.1.1) (Z ((J,()),())) (ai (ak (aa (av b.1.4) (av b.2.1.4))) (Z ((J,()),()))
 (ah (aO (Int×U) (Bool×U) (U) (λd=>ai (aC d.1 (av b.1.4)) (aT (aN d.1 b.1.4) (aT (aN d.1 b.2.1.4) (ai (ak
 (aa (Pz b d).1 (Py b d).1)) (Z (X () (J,()))) (ai (ak (o8 (Pz b d).4 (Py b d).4)) (Z (X () (J,())))
 (ah (F110 n ((Pz b d).2,(Py b d).2,())) λe=>ai (ak e.1.1) (Z (X () (J,()))) (ah (F110 n ((Pz b d).3,(Py b d).3,
 ())) λg=>ai (ak g.1.1) (Z (X () (J,()))) (Z (N (aF .i64 d.1 1,()))))))))) (Z (H 0 d))) n (0,())) λd=>
 bD d (λ_ _=>Z ((W,()),())) (λ_ g=>Z (g,())) λ_ _=>Y))))
def k55(n:Nat):OC:=⟨55,⟨asO,K4,J,F55 n⟩,cV [apA n] [(55,0,⟨[(5,dj)],[],[],0⟩)] n 10 55⟩
def PA(n:Nat):O Y4:=
 Z ((J,()),())
def F18:Y25:=
 λn b=>ai (ak (aa (av b.1.1) (av b.2.1.1))) (PA n) (ah (F35 n (b.1.2,b.2.1.2,())) λc=>ai (ak c.1.1) (PA n) (ah (F54
 n (b.1.3,b.2.1.3,())) λd=>ai (ak d.1.1) (PA n) (ah (F35 n (b.1.4,b.2.1.4,())) λe=>ai (ak e.1.1) (PA n) (ai (ak
 (aa b.1.5 b.2.1.5)) (PA n) (ah (aO (Int×U) (Bool×U) (U) (λg=>ai (aC g.1 (av b.1.1)) (aT (aN g.1 b.1.1) (aT
 (aN g.1 b.2.1.1) (ah (F55 n (bp b.1.1 (az g.1) bG,bp b.2.1.1 (az g.1) bG,())) λh=>ai (ak h.1.1) (Z (X () (J,
 ()))) (Z (N (aF .i64 g.1 1,())))))) (Z (H 0 g))) n (0,())) λg=>bD g (λ_ _=>Z ((W,()),())) (λ_ i=>Z
 (i,())) λ_ _=>Y)))))
def k18(n:Nat):OC:=⟨18,⟨asN,K4,J,F18 n⟩,cV [k35 n,k54 n,k55 n] [(18,0,⟨[(5,dj)],[],[],0⟩)] n 10 18⟩
def F63:Y41:=
 λn b=>ai (bn b.2.1 b.1) (Z ((bn b.1 b.2.2.1,()),())) (Z ((J,()),()))
def k63(n:Nat):OC:=⟨63,⟨P6,K4,J,F63 n⟩,cV [] [] n 10 63⟩

end Mn
end
end
