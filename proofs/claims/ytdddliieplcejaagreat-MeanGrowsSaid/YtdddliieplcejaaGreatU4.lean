import Derived.Laws.StructEq
import Derived.Room.BridgeHanded
import Derived.DataElems
import Derived.WideKeyArgs
import Derived.SizedLaws
import Derived.RowKit3
import Derived.Test.YtdddliieplcejaaGreatProg
import Derived.KernelRfl
import Derived.Test.YtdddliieplcejaaGreatU3
set_option linter.all false
set_option maxRecDepth 100000
set_option maxHeartbeats 0
noncomputable section
open Option renaming some->Z,none->Y
open Bool renaming true->W,false->J
section
namespace TL
open Go
variable {S:Sg}
section
section
variable {E:gl S}{ops:Array Oper}{lU:bY S}{s0:bq S}{g0:Gh}{w0:World}{done:Nat}{fr:bY S}{s:bq S}{bl:Nat->Nat}{listed:Array Bool}{g:Gh}{a:Act}{w:World}
variable {o:Oper}{k:Nat}{v:V S}
def BI{p:Nat->Bool}{o:Op}(h:jl p fr o=J)(b:k∈tmpsOf o)(c:fr.get k=Z v):cE p v=J:=by obtain⟨x,d,a⟩:=vZ.1 b;cases x with|tmp j=>simp only[bg]at a;subst a;unfold jl at h;have:=LF.1 h _ d;have e:cm fr (.tmp j)=Z v:=c;rw[e]at this;simpa using this|_=>cases a
def S3{ow wr:L Nat}{aJ:Nat}(a:∀o∈ow,o∈wr)(h:cE (eI wr aJ) v=J):gX ow v=J:=by
 cases b:gX ow v with
 |false=>rfl
 |true=>
  rw[nS]at b;have:=ez (q:=eI wr aJ) (λo c=>by
   have:o∈ow:=by simpa using c
   simp[eI,a o this]) v b
  rw[h]at this;cases this
def Le{ops:L Oper}{fr:bY S}(h:sX ops fr o=W)(a:m5 ops o=Z k)(e:fr.get k=Z v):(∃b,v=.kb b)∨∃l,v=.dat (.lit (.tuple l)):=by
 unfold sX at h;unfold m5 at a;cases c:o.guard with
 |none=>rw[c]at a;cases a
 |some q=>
  obtain⟨j,d⟩:=q;simp only[c]at h a;rw[a,Jm,e]at h;split at h
  .rename_i b f;cases f;exact .inl ⟨b,rfl⟩
  .rename_i l g;cases g;exact .inr ⟨l,rfl⟩
  .cases h
def qA.step(hE:eP E){call:iH S}(BM:fX E.T.E.P call)(F:xe E ops lU.n)(h:qA E ops lU s0 g0 w0 done fr s bl listed g a w){i:Nat}(I:At ops i o)(hd:done.testBit i=J)(hnl:¬lZ listed i)(hl:∀e∈wo o,lZ listed e)
  (hsub:∀j,Pre ops.toList i j->done.testBit j=W∨(wK (ql ops.toList) done).testBit j=W) {n:bY S} {s1:bq S} (had:TL.tg E.T (wK (ql ops.toList) done&&& (uN ops.toList).getD i 0) (ql ops.toList) fr s=Z (n,s1))
  {ω:Type} {kp:bY S->V S->bq S->O ω} {k:Nat->bY S->bq S->O ω} {r:ω}
  (hev:mN E call ops.toList o n {s1 with wr:=[]} (λt s'=>kp (ad9 ops.toList n) t {s' with wr:=s'.wr++s1.wr}) (λt s' ow=>bif Dt ops.toList (uN ops.toList) done i fr s.aJ s'.wr ow (ql ops.toList)then
   k (done||| (wK (ql ops.toList) done&&& (uN ops.toList).getD i 0)||| 1 <<< i) ((ei ow n).g9 o.dst t) {s' with wr:=s'.wr++s1.wr}else Y)=Z r)
  {K:Act->World->Prop} {Q:Exit->Act->World->Prop}
  (hK:∀done' fr' s' g' a' w',k done' fr' s'=Z r->qA E ops lU s0 g0 w0 done' fr' s' bl (listed.setIfInBounds i W) g' a' w'->K a' w')
  (hP:∀fr' t s' g' a' v w',kp fr' t s'=Z r->fr'.n=lU.n->cG g' (bA fr') a' w'->fC s0 g0 w0 s' g' w'->eF (ops.toList.filterMap (·.dst)) lU fr' s'.dr s0.aJ->aM g' w' (low t) v->Q (.panic [{v,recovered:=J}]) a' w') {rr:O Nat} (hrr:rr≠Y->∀o∈ops.toList,∀c,o.op≠.defer c):A3 rr E.T.E.P ops Q i K a w:=by
 have amA:rr≠Y->∀c,o.op≠.defer c:=λhr=>hrr hr o (at_mem I);have hi:i<listed.size:=by rw[h.JC];exact s8 I
 have NX:∀j,Pre ops.toList i j->lZ listed j:=mc F.bk (λi o hi hl=>h.S9 i o hi hl) I hl;generalize hwe:wK (ql ops.toList) done&&& (uN ops.toList).getD i 0=which at had hev;have hwb:∀j,which.testBit j=W↔(wK (ql ops.toList) done).testBit j=W∧Pre ops.toList i j:=λj=>by rw[<-hwe,Nat.testBit_and,ec];rfl
 obtain⟨g1,hA,X⟩:=h.tg F had (λj hj=>⟨NX j ((hwb j).1 hj).2,((hwb j).1 hj).1⟩) (λj hj m hm=>by
  have hpm:=SN F.bk I ((hwb j).1 hj).2 hm;exact(hsub m hpm).imp id λC=>(hwb m).2 ⟨C,hpm⟩)
 have hpd:∀j,Pre ops.toList i j->(done||| which).testBit j=W:=λj hj=>by rw[yL,j0];exact(hsub j hj).imp id λC=>(hwb j).2 ⟨C,hj⟩
 have hwd:∀{j:Nat}{q:Oper},At ops j q->which.testBit j=W->lZ listed j∧eN q=W∧done.testBit j=J:=λ{j q}B hj=>by obtain⟨o',ho',h3,h4⟩:=(ua done j).1 ((hwb j).1 hj).1;have:q=o':=eO (B.symm.trans ho');subst this;exact⟨NX j ((hwb j).1 hj).2,h3,h4⟩
 have hwi:which.testBit i=J:=by cases hh:which.testBit i with|false=>rfl|true=>exact absurd (On F.bk I i ((hwb i).1 hh).2) (Nat.lt_irrefl _)
 have P:ga n o.dst=W:=MK hev;have hdst:ga (ei (S:=S) [] n) o.dst=W:=P;obtain⟨hfr,hfn,hag⟩:=X.ahB F;have adW:=hag I (λj hj=>⟨NX j hj,hpd j hj⟩) λj ha G=>by
  obtain⟨q,B,_⟩:=ha;have hnj:¬lZ listed j:=λhlj=>hnl (mc F.bk (λi o hi hl=>h.S9 i o hi hl) B (h.S9 j q B hlj) i G);refine⟨hnj,?_⟩;cases Ie:(done||| which).testBit j with
  |false=>rfl
  |true=>
   rw[yL,j0]at Ie;rcases Ie with Ie|Ie
   .have:=h.W7 j q B Ie i G;rw[hd]at this;cases this
   .exact absurd (hwd B Ie).1 hnj
 rw[GK E call _ _ _ hfn.symm (Dk F.us I) (λk y=>adW k (.inl y)) (λk y=>adW k (.inr y))]at hev;have KO:bh g1 (aI {s1 with wr:=[]}) w:=X.Aa.rel;unfold A3;simp only[Fz I];refine(qt hE BM (by rw[hfn];exact X.nb) hfr KO hev (λt s' ow g' v w' y ht f=>?_) (λt s' g' v w' y f ht=>?_) amA).2
 .rcases af y with⟨agY,y⟩|⟨_,y⟩;rotate_left
  .cases y
  refine hK _ _ _ g' _ w' y ?_;have ahl:s1.fl=0:=hA.fl.trans h.fl;have hnf:∀ow':L Nat,(ei ow' n).n=n.n:=λow'=>vN ow' n;have amQ:ga (ei ow n) o.dst=W:=yY P;have cJ:∀k,((ei ow n).g9 o.dst t).get k=if o.dst=Z k then Z t else(ei ow n).get k:=λk=>Ih amQ (by rw[hnf];exact X.nb)
  have hnn:((ei ow n).g9 o.dst t).n=n.n:=by
   have:((ei ow n).g9 o.dst t).n=(ei ow n).n:=by cases o.dst<;>rfl
   rw[this,hnf]
  have ahv:fC s1 g1 w {s' with wr:=s'.wr++s1.wr} g' w':=
   ⟨f.rel,f.ext,f.fl,f.lo,f.aJ,λo I=>iX _ I,λo I hn=>f.same o I (λhm=>hn (eL _ hm)),f.GO⟩
  have hne:∀{j:Nat}{p:Oper}{k:Nat},At ops j p->j≠i->p.dst=Z k->o.dst≠Z k:=λC hne hpd M=>((sC F.ds I M).2.2 C (Ne.symm hne)).1 hpd;have N:∀j,(done||| which||| 1 <<< i).testBit j=W↔(done.testBit j=W∨which.testBit j=W)∨i=j:=λj=>by rw[nY,yL,j0]
  refine⟨by simpa using h.JC,hnn.trans X.n,by rw[hnn];exact X.nb,by rw[qQ.1,hnn];exact X.TZ,?_,λk t' H hc=>?_,λj p C hj e he=>?_,λj p C hj m hm=>?_,λj p C hj=>?_,λj p C hj hn=>?_,λj p C hj hn=>?_,λj m hj hm h1 h2 Z3 Mz hms=>?_,X.Aa.trans ahv,?_,f.fl.trans ahl,λj ha hj=>?_⟩
  .rw[qQ.2,Er,CM];cases ow with|nil=>exact f.J1 X.df|cons x ow=>exact(n3 (λv=>jQ _ v) n.df).rel f.tr X.df
  .rw[cJ]at H;by_cases M:o.dst=Z k
   .rw[bJ M]at H;cases H;have hk2:k<n.n:=by rw[M]at P;exact fU P
    exact⟨v,by rw[M];exact DT (by rw[X.TZ];exact hk2),ht⟩
   .rw[br M]at H;obtain⟨h1,h2⟩:=uz H;obtain⟨u,hu,htu⟩:=X.tm k t' h1 λj p C hpd=>by
     have c1:=hc j p C hpd;have G:j≠i:=λe=>by subst e;have:o=p:=eO (I.symm.trans C);subst this;exact M hpd
     rw[eY hi,N]at c1;rw[yL,j0];exact⟨λh=>(c1.1 (.inl h)).elim id λe=>absurd e.symm G,λh=>(c1.2 (.inl h)).elim id λe=>absurd e.symm G⟩
    exact⟨u,by rw[vS M];exact hu,f.tr _ _ htu h2⟩
  .rw[eY hi]at hj ⊢;rcases hj with hj|rfl
   .exact .inl (h.S9 j p C hj e he)
   .have:o=p:=eO (I.symm.trans C);subst this;exact .inl (hl e he)
  .rw[N]at hj ⊢;rcases hj with hj|rfl
   .left
    have:=X.W7 j p C (by rw[yL,j0];exact hj) m hm;rwa [yL,j0]at this
   .left
    have:=hpd m hm;rwa [yL,j0]at this
  .rw[eY hi]at hj;rw[N];rcases hj with hj|rfl
   .exact (h.ld j p C hj).imp (λh=>.inl (.inl h)) id
   .exact .inl (.inr rfl)
  ·
   have G:j≠i:=λe=>hn ((eY hi).2 (.inr e.symm));have hnl:¬lZ listed j:=λhl=>hn ((eY hi).2 (.inl hl));have Ie:done.testBit j=W:=by
    rcases(N j).1 hj with(hj|hj)|hj
    .exact hj
    .exact absurd (hwd C hj).1 hnl
    .exact absurd hj.symm G
   obtain⟨hna,hfo⟩:=h.fo j p C Ie hnl;have hnp:¬Pre ops.toList i j:=λhpr=>hnl (NX j hpr);have hmm:=UI agY (iR.2 C) Ie hna hnp;have hpi:∀{m:Nat}{q:Oper}{k:Nat},At ops m q->(m=i∨which.testBit m=W)->(k∈tmpsOf p.op∨m5 ops.toList p=Z k)->q.dst≠Z k:=by
    intro m q k B hm y R;have hpre:Pre ops.toList j m:=by
     rcases(IV F C y B R).2 with h1|⟨h1,_⟩
     .exact h1
     .exfalso;rcases hm with rfl|hm
      .exact hnp h1
      .exact hnl (mc F.bk (λi o hi hl=>h.S9 i o hi hl) B (h.S9 m q B (hwd B hm).1) j h1)
    have:=h.W7 j p C Ie m hpre;rcases hm with rfl|hm
    .rw[hd]at this;cases this
    .rw[(hwd B hm).2.2]at this;cases this
   have hold:∀k,(k∈tmpsOf p.op∨m5 ops.toList p=Z k)->n.get k=fr.get k:=λk y=>hA.old k λq B hw=>hpi (iR.1 B) (.inr hw) y;have hput:∀k,(k∈tmpsOf p.op∨m5 ops.toList p=Z k)->((ei ow n).g9 o.dst t).get k=(ei ow n).get k:=λk y=>by rw[cJ,br (hpi I (.inl rfl) y)]
   have agX:∀o∈ow,o∈s'.wr:=f.oww;have hkeep:∀k,fr.get k=n.get k->(∀v,fr.get k=Z v->gX ow v=J)->(ei ow n).get k=fr.get k:=λk he hm=>by
    cases hfk:fr.get k with
    |some v=>exact zn (he▸hfk) (hm v hfk)
    |none=>
     cases ano:(ei ow n).get k with|none=>rfl|some v=>have:=(uz ano).1;rw[<-he,hfk]at this;cases this
   have hno:∀k v,k∈tmpsOf p.op->fr.get k=Z v->gX ow v=J:=λk v y hv=>by
    rcases hmm with⟨hm1,_⟩|⟨_,hm1,_⟩
    .exact S3 agX (BI hm1 y hv)
    .rw[nS];exact BI hm1 y hv
   have hsame:∀x,eI s'.wr s.aJ x=J->({s' with wr:=s'.wr++s1.wr}:bq S).ob.get x=s.ob.get x:=λx hx=>by
    simp only[eI,v7]at hx;have hx1:x∉s'.wr:=by simpa using hx.1
    have hx2:x<s.aJ:=by
     rcases yQ x s.aJ with h|h
     .exact h
     .have:=GA h;rw[hx.2]at this;cases this
    have:=f.same x (dB hx2 hA.aJ) hx1;exact this.trans (hA.ob x hx2)
   refine⟨hna,hfo.move (hnn.trans hA.n) (Dk F.us C) (λk y=>?_) (λk y=>?_) (λd ag2 t' ht'=>?_) (p:=eI s'.wr s.aJ) (.inr (hmm.imp (λh=>⟨h.1,h.2,hsame⟩) (λh=>h.1)))⟩
   .rw[hput k (.inl y)];exact hkeep k (hold k (.inl y)).symm λv hv=>hno k v y hv
   .rw[hput k (.inr y)];refine hkeep k (hold k (.inr y)).symm λv hv=>?_;rcases hfo.2 with⟨f1,_⟩|Wi
    .rcases Le f1 y hv with⟨b,rfl⟩|⟨l,rfl⟩<;>rfl
    have hgv:∃b,iD v=Z b:=by
     have A:∃c,hJ ops.toList fr p=Z (Z c)∨hJ ops.toList fr p=Z Y:=by
      rcases Wi with⟨f1,_⟩|⟨c,f1,_⟩
      .exact ⟨W,.inr f1⟩
      .exact ⟨c,.inl f1⟩
     obtain⟨c,A⟩:=A;unfold m5 at y;unfold hJ at A;cases hpg:p.guard with
     |none=>rw[hpg]at y;cases y
     |some q=>
      obtain⟨m,want⟩:=q;simp only[hpg]at y A;rw[y,Jm,hv]at A;cases hb:iD v with
      |some b=>exact⟨b,rfl⟩
      |none=>
       exfalso;cases v<;>first|(cases hb;done)|(simp only[hb]at A;rcases A with h|h<;>cases h)
    obtain⟨b,hb⟩:=hgv;cases v<;>first|rfl|simp[iD]at hb
   .rw[cJ,br (hne C G ag2)]at ht';have h1:=(uz ht').1;rw[hA.old d λq B hw R=>?_]at h1
    .exact h1
    .have Yy:At ops q.1 q.2:=iR.1 B;have hjq:j≠q.1:=λe=>by have:=(hwd Yy hw).2.2;rw[<-e,Ie]at this;cases this
     exact((sC F.ds C ag2).2.2 Yy hjq).1 R
  .have G:j≠i:=λe=>by have:=(N j).2 (.inr e.symm);rw[hn]at this;cases this
   have Ie:done.testBit j=J:=by cases hh:done.testBit j with|false=>rfl|true=>have:=(N j).2 (.inl (.inl hh));rw[hn]at this;cases this
   have hwj:which.testBit j=J:=by cases hh:which.testBit j with|false=>rfl|true=>have:=(N j).2 (.inl (.inr hh));rw[hn]at this;cases this
   rw[eY hi]at hj;have hlj:lZ listed j:=hj.elim id λe=>absurd e.symm G;obtain⟨h1,h2⟩:=h.ea j p C hlj Ie;refine⟨λt2 ti d q1 q2 q3=>?_,dB h2 f.ext.size⟩;obtain⟨z,r1,r2,r3⟩:=h1 t2 ti d q1 q2 q3;have adG:He g1 w0 w (bl j) z:=⟨r2.new,r2.lt,by rw[hA.bB];exact r2.bB,λx hO=>by
    rcases hA.own x (bl j) hO with hO|⟨q,B,hw,d2,hd2,htm⟩
    .exact r2.own x hO
    .have Yy:At ops q.1 q.2:=iR.1 B;obtain⟨l1,_,l3⟩:=hwd Yy hw;obtain⟨t3,ti3,d3,e1,e2,e3,_⟩:=hA.aay q B hw;obtain⟨z3,u1,_,_⟩:=(h.ea q.1 q.2 Yy l1 l3).1 t3 ti3 d3 e1 e2 e3;have:d2=d3:=eO (hd2.symm.trans e3);subst this;rw[htm]at u1;have hbb:bl j=bl q.1:=by have:=eO u1;simp only[Value.pointer.injEq,bg,Addr.mk.injEq]at this;exact this.1
     have hjq:j≠q.1:=λe=>by rw[<-e,hwj]at hw;cases hw
     exact h.eb j q.1 hlj l1 Ie l3 hjq (s8 C) (s8 Yy) hbb,r2.mem⟩
   exact⟨z,by rw[vS (hne C G q3)];exact r1,adG.Aa f ahl,r3⟩
  .have hx:∀j,(done||| which||| 1 <<< i).testBit j=J->done.testBit j=J∧i≠j:=λj hj=>by
    refine⟨?_,λe=>?_⟩
    .cases hh:done.testBit j with|false=>rfl|true=>have:=(N j).2 (.inl (.inl hh));rw[hj]at this;cases this
    .have:=(N j).2 (.inr e);rw[hj]at this;cases this
   rw[eY hi]at hj hm;exact h.eb j m (hj.elim id λe=>absurd e (hx j h1).2) (hm.elim id λe=>absurd e (hx m h2).2) (hx j h1).1 (hx m h2).1 Z3 Mz hms
  .refine ⟨λk v y hv=>?_,?_⟩;rotate_left
   .rw[CM];have h0:tP (eI s'.dr s0.aJ) lU.df n.df:=by rw[hA.J1];exact h.fk.df.mono (iB (λx hx=>f.GO x (by rw[show({s1 with wr:=[]}:bq S).dr=s1.dr from rfl,hA.dr];exact hx)) (bQ _))
    cases ow with|nil=>exact h0|cons x ow=>refine h0.trans (sH (p:=(x::ow).contains) (λo' ho'=>?_) (λv=>nS _ v) _).ok;have:=f.owd o' (by simpa using ho');simp[eI,this]
   have s4:∀{m:Nat}{q:Oper},At ops m q->q.dst≠Z k:=λB R=>y (vZ.2 ⟨_,g8 B,R⟩);rcases h.fk.tm k v y hv with h1|h1
   .rw[cJ,br (s4 I)];rw[<-hA.old k λq B _=>s4 (iR.1 B)]at h1;cases hm:gX ow v with
    |false=>exact .inl (zn h1 hm)
    |true=>
     rw[nS]at hm;refine .inr (ez (λx hx=>?_) v hm);have:x∈ow:=by simpa using hx
     have:=f.owd x this;simp[eI,this]
   .exact .inr (ez (iB (λx hx=>f.GO x (by rw[show({s1 with wr:=[]}:bq S).dr=s1.dr from rfl,hA.dr];exact hx)) (bQ _)) v h1)
  .rw[eY hi];rcases(N j).1 hj with(hj|hj)|hj
   .exact .inl (h.an j ha hj)
   .obtain ⟨q,B,_⟩:=ha;exact .inl (hwd B hj).1
   .exact .inr hj
 .have hds:∀d∈ops.toList.filterMap (·.dst),d<bC:=λd hd=>by obtain⟨q,B,R⟩:=vZ.1 hd;obtain⟨m,hm⟩:=HI B;exact(sC F.ds hm R).1
  have hgd:∀k,(ad9 ops.toList n).get k=if k∈ops.toList.filterMap (·.dst)then Y else n.get k:=λk=>Tr.rq _ _ _ hds
  have Z7:∀x,eI s.dr s0.aJ x=W->eI s'.dr s0.aJ x=W:=iB (λx hx=>f.GO x (by rw[show({s1 with wr:=[]}:bq S).dr=s1.dr from rfl,hA.dr];exact hx)) (bQ _);refine hP _ t _ g' _ v w' y X.n ⟨X.TZ,f.J1 X.df,λk t' H=>?_⟩ (X.Aa.trans ⟨f.rel,f.ext,f.fl,f.lo,f.aJ,λo I=>iX _ I,λo I hn=>f.same o I (λhm=>hn (eL _ hm)),f.GO⟩) ⟨λk v y hv=>?_,?_⟩ ht
  .rw[bR,hgd]at H;split at H
   .cases H
   .rename_i hnk;rw[eG]at H;obtain⟨u,hu,rfl⟩:=H;obtain⟨v',hv',ht'⟩:=X.tm k u hu λi o hi M=>absurd (vZ.2 ⟨o,g8 hi,M⟩) hnk;exact⟨v',hv',f.tr _ _ ht' (oe _)⟩
  .rcases h.fk.tm k v y hv with h1|h1
   .left
    rw[hgd,br y,hA.old k λq B _ R=>y (vZ.2 ⟨_,g8 (iR.1 B),R⟩)];exact h1
   .exact .inr (ez Z7 v h1)
  .show tP _ lU.df n.df;rw[hA.J1];exact h.fk.df.mono Z7
end
end
section
def By{E:gl S}{ops:L Oper}{bef:L Nat}{done:Nat}{fr:bY S}{i:Nat}{o:Oper}:∀{l:Uj},Jh E ops bef done fr l=Z (i,o)->(i,o)∈l∧done.testBit i=J∧eN o=J∧RJ ops bef i o=J∧Sq (bef.getD i 0) done=W
 |[],h=>by cases h
 |(j,p)::l,h=>by
  simp only[Jh]at h;rcases af h with⟨a,h⟩|⟨_,h⟩
  .cases h;simp only[ec,DK]at a;exact⟨eD,a.1,a.2.2.1.1,a.2.2.1.2,a.2.1⟩
  .obtain ⟨h1,h2⟩:=By h;exact⟨gO _ h1,h2⟩
def Bz{bef:L Nat}{done tI:Nat}{i:Nat}{o:Oper}:∀{l:Uj},Ji bef done tI l=Z (i,o)->(i,o)∈l∧done.testBit i=J∧eN o=J∧Sq (bef.getD i 0) (done||| tI)=W
 |[],h=>by cases h
 |(j,p)::l,h=>by
  simp only[Ji]at h;rcases af h with⟨a,h⟩|⟨_,h⟩
  .cases h;simp only[ec,DK]at a;exact⟨eD,a.1,a.2.1,a.2.2⟩
  .obtain ⟨h1,h2⟩:=Bz h;exact⟨gO _ h1,h2⟩
variable {bef:List Nat}{done i j:Nat}{o:Oper}{call:iH S}
section
variable {ops:Array Oper}{listed:Array Bool}
def DH(b:listed.size=ops.size)(h:j∈Region.ready .any ops listed):∃o,At ops j o∧¬lZ listed j∧∀e∈wo o,lZ listed e:=by
 obtain⟨h1,o,f,h2⟩:=mem_ready.1 h;have g:j<listed.size:=by rw[b];exact(Jo.1 f).1
 refine⟨o,by unfold At;simpa using f,λa=>?_,λe i=>?_⟩
 .unfold lZ at a;simp only[Array.getD,g,dite_true]at h1 a;rw[h1]at a;cases a
 .obtain ⟨d,c,rfl⟩:=tY.1 i;rw[List.mem_filter]at c;exact h2 d (by simpa using c.1) c.2
def U1(a:listed.size=ops.size)(b:At ops j o)(hn:¬lZ listed j)(c:∀e∈wo o,lZ listed e):j∈Region.ready .any ops listed:=by
 have d:j<listed.size:=by rw[a];exact s8 b
 refine mem_ready.2 ⟨?_,o,Fz b,λe f g=>c e.on (tY.2 ⟨e,List.mem_filter.2 ⟨by simpa using f,g⟩,rfl⟩)⟩;unfold lZ at hn;simp only[Array.getD,d,dite_true]at hn ⊢;simpa using hn
def Hw(d:s7 ops.toList 0=W)(a:listed.size=ops.size)(h:Region.ready .any ops listed=[]):∀j o,At ops j o->lZ listed j:=by
 intro j
 induction j using Nat.strongRecOn with
 |_ j f=>
  intro o b;refine QU λg=>?_;have:j∈Region.ready .any ops listed:=U1 a b g λe i=>by
   have k:=zP d b e i;have l:=s8 b;have c:At ops e (ops[e]'(by omega)):=by unfold At;rw[LJ];exact oI (by omega)
   exact f e (by omega) _ c
  rw[h]at this;cases this
def Ff(a:listed.size=ops.size)(h:listed.toList.count J<=0)(d:At ops j o):lZ listed j:=by
 have e:j<listed.size:=by rw[a];exact s8 d
 have b:listed.toList.count J=0:=by omega
 rw[List.count_eq_zero]at b;unfold lZ;simp only[Array.getD,e,dite_true];cases c:listed[j]with|true=>exact c|false=>refine absurd ?_ b;rw[<-c];simp
def count_set(a:listed.size=ops.size){m j:Nat}{o:Oper}(d:At ops j o)(hn:¬lZ listed j)(h:listed.toList.count J<=m+1):(listed.setIfInBounds j W).toList.count J<=m:=by
 have b:j<listed.size:=by rw[a];exact s8 d
 have c:listed[j]=J:=by unfold lZ at hn;simp only[Array.getD,b,dite_true]at hn;simpa using hn
 rw[Array.toList_setIfInBounds,List.count_set (by simpa using b)];simp[c];have:0<listed.toList.count J:=by rw[List.count_pos_iff,<-c];simp
 simp at this h ⊢;omega
end
section
variable {E:gl S}{ops:Array Oper}{lU:bY S}{s0:bq S}{g0:Gh}{w0:World}
def Pf(hE:eP E)(BM:fX E.T.E.P call)(e:xe E ops lU.n){ω:Type}{kp:bY S->V S->bq S->O ω}{kk:bY S->bq S->O ω}{r:ω}{Q:Exit->Act->World->Prop}
  (hN:∀fr' s' g' B w',kk fr' s'=Z r->fr'.n=lU.n->cG g' (bA fr') B w'->fC s0 g0 w0 s' g' w'->eF (ops.toList.filterMap (·.dst)) lU fr' s'.dr s0.aJ->Q .normal B w')
  (hP:∀fr' t s' g' B v w',kp fr' t s'=Z r->fr'.n=lU.n->cG g' (bA fr') B w'->fC s0 g0 w0 s' g' w'->eF (ops.toList.filterMap (·.dst)) lU fr' s'.dr s0.aJ->aM g' w' (low t) v->Q (.panic [{v,recovered:=J}]) B w') {rr:O Nat} (K:rr≠Y->∀o∈ops.toList,∀c,o.op≠.defer c) :
  ∀(n done:Nat)(fr:bY S)(s:bq S),sy E call ops.toList (uN ops.toList) (ql ops.toList) kp kk n done fr s=Z r->∀(m:Nat)(listed:Array Bool)(bl:Nat->Nat)(g:Gh)(a:Act)(w:World),
   qA E ops lU s0 g0 w0 done fr s bl listed g a w->listed.toList.count J<=m->aa6 rr E.T.E.P ops Q m listed a w:=by
 intro n
 induction n with
 |zero=>intro done fr s h;cases h
 |succ n ih=>
  intro done fr s h;simp only[sy]at h;split at h
  ·
   rename_i i o hq;obtain⟨hm,C,I,M,A⟩:=By hq;have G:At ops i o:=iR.1 hm
   replace M:¬antiP ops.toList i:=Xm G M
   rcases af h with⟨hd,h2⟩|⟨_,h2⟩;rotate_left
   .cases h2
   clear h;intro m listed bl g a w b H;rcases af h2 with⟨hsk,h3⟩|⟨_,h2⟩
   .exact ih _ _ _ h3 m listed bl g a w (b.float e G C I M (yB.1 A) hd (.inl ⟨hsk,rfl⟩)) H
   split at h2
   .cases h2
   .rename_i hg;rw[zq]at h2;obtain⟨t,e1,h3⟩:=rW.1 h2;obtain⟨t',hkb,h3⟩:=Sr h3;exact ih _ _ _ h3 m listed bl g a w (b.float e G C I M (yB.1 A) hd (.inr (.inl ⟨hg,t,e1,hkb⟩))) H
   .rename_i c hg;obtain⟨hok,h2⟩:=m8 h2;rw[zq]at h2;obtain⟨t,e1,h3⟩:=rW.1 h2;exact ih _ _ _ h3 m listed bl g a w (b.float e G C I M (yB.1 A) hd (.inr (.inr ⟨c,t,hg,hok,e1,rfl⟩))) H
  .split at h
   ·
    rename_i i o hq;obtain⟨hm,C,I,A⟩:=Bz hq;have G:At ops i o:=iR.1 hm;rcases af h with⟨N,h2⟩|⟨_,h2⟩;rotate_left
    .cases h2
    clear h;split at h2
    .cases h2
    rename_i fr1 s1 had;intro m
    induction m with
    |zero=>
     intro listed bl g a w b H;exfalso;rcases b.ld i o G (Ff b.JC H G)with h1|h1
     .rw[C]at h1;cases h1
     .rw[I]at h1;cases h1
    |succ m P=>
     intro listed bl g a w b H;have hnl:¬lZ listed i:=λX=>by
      rcases b.ld i o G X with h1|h1
      .rw[C]at h1;cases h1
      .rw[I]at h1;cases h1
     refine⟨λhr=>absurd (Hw e.bk b.JC hr i o G) hnl,λj R=>?_⟩;obtain⟨p,y,f,F⟩:=DH b.JC R;cases z:done.testBit j with
     |true=>exact b.abh hE e y z f F (λg' B w' d=>P _ bl g' B w' d (count_set b.JC y f H)) K
     |false=>
      cases haj:eN p with
      |true=>exact b.abi hE e y z haj f F (λNk B w' d=>P _ Nk g B w' d (count_set b.JC y f H)) K
      |false=>
       have hji:i=j:=by
        have:=eC.1 N (j,p) (iR.2 y);simp only[z,haj,HA,j0]at this;rcases this with h1|h1
        .exact nN h1
        .exact absurd (mc e.bk (λi o hi X=>b.S9 i o hi X) y F i h1) hnl
       subst hji;have:o=p:=eO (G.symm.trans y);subst this;refine b.step hE BM e G C f F (λj R=>?_) had (kp:=kp) (k:=λdone fr s=>sy E call ops.toList (uN ops.toList) (ql ops.toList) kp kk n done fr s) h2 (λdone' fr' s' g' B w' hk d=>ih _ _ _ hk m _ bl g' B w' d (count_set b.JC G f H)) hP K;have:=yB.1 A j R;rwa [yL,j0]at this
   ·
    split at h
    .cases h
    rename_i fr1 s1 had;rcases af h with⟨N,h2⟩|⟨_,h2⟩;rotate_left
    .cases h2
    have hda:∀{j:Nat}{p:Oper},At ops j p->done.testBit j=W∨eN p=W:=λ{j p}y=>by have:=eC.1 N (j,p) (iR.2 y);simpa using this
    have hend:∀(listed:Array Bool)(bl:Nat->Nat)(g:Gh)(a:Act)(w:World),qA E ops lU s0 g0 w0 done fr s bl listed g a w->(∀j o,At ops j o->lZ listed j)->Q .normal a w:=by
     intro listed bl g a w b X;have hdp:∀{j:Nat}{p:Oper},At ops j p->done.testBit j=W∨(wK (ql ops.toList) done).testBit j=W:=λ{j p}y=>by cases z:done.testBit j with|true=>exact .inl rfl|false=>exact .inr ((ua done j).2 ⟨p,y,(hda y).resolve_left (by rw[z];exact Bool.noConfusion),z⟩)
     obtain⟨g1,hA,hC⟩:=b.tg e had (λj R=>by
       obtain⟨p,y,_⟩:=(ua done j).1 R;exact⟨X j p y,R⟩) (λj R x hx=>by
       obtain⟨p,y,_⟩:=(ua done j).1 R;have hlt:=On e.bk y x hx;have Mz:=s8 (ops:=ops) y;have CV:At ops x (ops[x]'(by omega)):=by unfold At;rw[LJ];exact oI (by omega)
       exact hdp CV)
     refine hN fr1 s1 g1 a w h2 hC.n ⟨hC.TZ,hC.df,λk t hk=>?_⟩ hC.Aa ⟨λk v hk hv=>?_,by rw[hA.J1,hA.dr];exact b.fk.df⟩
     .rw[bR,eG]at hk;obtain⟨u,hu,rfl⟩:=hk;exact hC.tm k u hu λi o hi _=>⟨λ_=>by rw[yL,j0];exact hdp hi,λ_=>X i o hi⟩
     .rcases b.fk.tm k v hk hv with h1|h1
      .left
       rw[hA.old k λq hq _ hqd=>hk (vZ.2 ⟨_,g8 (iR.1 hq),hqd⟩)];exact h1
      .rw[hA.dr];exact .inr h1
    intro m
    induction m with
    |zero=>
     intro listed bl g a w b H;have X:∀j o,At ops j o->lZ listed j:=λj o G=>Ff b.JC H G;refine⟨?_,hend listed bl g a w b X⟩;cases hr:Region.ready .any ops listed with|nil=>rfl|cons j l=>obtain⟨p,y,f,_⟩:=DH b.JC (j:=j) (by rw[hr];exact eD);exact absurd (X j p y) f
    |succ m P=>
     intro listed bl g a w b H;refine⟨λhr=>hend listed bl g a w b (Hw e.bk b.JC hr),λj R=>?_⟩;obtain⟨p,y,f,F⟩:=DH b.JC R;cases z:done.testBit j with|true=>exact b.abh hE e y z f F (λg' B w' d=>P _ bl g' B w' d (count_set b.JC y f H)) K|false=>exact b.abi hE e y z ((hda y).resolve_left (by rw[z];exact Bool.noConfusion)) f F (λNk B w' d=>P _ Nk g B w' d (count_set b.JC y f H)) K
def ad8(R:eP E)(S:E.T.E.P.follows .mixedOrders=W)(e:fX E.T.E.P call):qz E call:=by
 intro id ops ω kp k r N s u h X g a w x p Q hN hP rr m;have y:rr≠Y->∀o∈ops.toList,∀c,o.op≠.defer c:=λhr=>QJ (m hr);unfold W1 at u;simp only[ec]at u;obtain⟨b1,b2,b3,b4,b5,b6⟩:=u;have z:xe E ops N.n:=⟨b1,b2,b3,b4,b5⟩;have A:s.fl=0:=nN b6;refine Lq S ?_;obtain⟨B,C⟩:=p.grow (fl:=s.fl) (I:=g.bB) (w':={w with drawn:=w.drawn+1}) (λ_ h=>h) (λ_ h=>.inl h) p.bB (bQ _) (λ_ _=>rfl) rfl rfl;have n:fC s g w s g {w with drawn:=w.drawn+1}:=
  ⟨B,⟨λ_ _ h=>h,λ_ _ _ _ h=>h,λ_ h=>h,bQ _,λ_ _ _=>rfl,λo b d hO=>.inl ⟨o,d,hO⟩,λ_ h=>.inl h,rfl,rfl⟩,rfl,rfl,bQ _,λ_ h=>h,λ_ _ _=>rfl,λ_ h=>h⟩
 have q:∀i,¬lZ (Array.replicate ops.size J) i:=λi d=>by
  unfold lZ at d;by_cases P:i<ops.size
  .simp[Array.getD,P]at d
  .simp[Array.getD,P]at d
 refine Pf R e z (s0:=s) (g0:=g) (w0:=w) (kp:=kp) (kk:=k) (r:=r) (λl F G H w' h1 h2 h3 h4 h5=>hN l F G H w' h1 h2 h3 h4 ?_) (λl t F G H v w' h1 h2 h3 h4 h5 h6=>hP l t F G H v w' h1 h2 h3 h4 h5 h6) y _ 0 N s h ops.size _ (λ_=>0) g a _
  ⟨by simp,rfl,X,x.size,x.df.imp (λ_ _ K=>K.ext C p.bB) C.cj,λk t hk _=>?_,λi _ _ d=>absurd d (q i),λi _ _ M=>by simp at M,λi _ _ d=>absurd d (q i),λi _ _ M=>by simp at M,λi _ _ d=>absurd d (q i),λi _ d=>absurd d (q i),n,eF.refl _ _ _ _,A,λj _ hj=>by simp at hj⟩ (by simp)
 .exact h5
 .obtain ⟨v,hv,K⟩:=x.tm k (low t) (by rw[bR,hk];rfl);exact⟨v,hv,K.ext C p.bB⟩
def abM{E:gl S}(e:eP E)(g:E.T.E.P.follows .mixedOrders=W){f:FuncId}{fn:Func}{c:Code}(a:E.T.E.Ur f=Z fn)(h:fn.body=Z c)(n d:Nat)(ps:L Pk)(b:L Ck) :
  bz E.T.E.P f ⟨ps,b,E.pn,EW E n d f ps b⟩:=Fg e (λ_=>ad8 e g) a h n d ps b
end
end
section
def zD:Value->D
 | .slice Y 0 0=>.sl []
 |v=>.lit v
def Un(z:Value):L D:=z.cells.toList.map zD
def afG(v:Value):ael (zD v) v:=by
 unfold zD;split
 .exact .inl ⟨rfl,rfl⟩
 .exact .inr rfl
def Ux(z:Value):ZOk (Un z) z.cells:=by refine⟨by simp[Un],λj d v h1 h2=>?_⟩;simp only[Un,gM,eG]at h1;obtain⟨u,a,rfl⟩:=h1;rw[LJ]at a;have:u=v:=eO (a.symm.trans h2);subst this;exact afG u
def aec:D->Nat
 | .lit (.string _)=>16
 | .sl _=>24
 |_=>8
def mS:L D->Nat
 |[]=>0
 |d::l=>Nat.add (aec d) (mS l)
def E4(agg:Bool)(a:L D):Nat:=bif agg then mS a else match a with
 |[.lit (.int .i8 _)]|[.lit (.int .u8 _)]|[.lit (.bool _)]=>1
 |[.lit (.int .i16 _)]|[.lit (.int .u16 _)]=>2
 |[.lit (.int .i32 _)]|[.lit (.int .u32 _)]=>4
 |a=>mS a
def Ro(P:Program)(f:Field):O (Nat×Nat×Bool):=match P.info? f.type,P.underlying f.type with
 |some j,Z d=>Z (f.offset,j.size,dR d)
 |_,_=>Y
def fieldsOf(P:Program):L Field->O (L (Nat×Nat×Bool))
 |[]=>Z []
 |f::l=>match Ro P f,fieldsOf P l with
  |some x,Z r=>Z (x::r)
  |_,_=>Y
def BP{P:Program}:∀{l:L Field}{fs:L (Nat×Nat×Bool)},fieldsOf P l=Z fs->l.length=fs.length∧∀(k:Nat)off size ag,fs[k]?=Z (off,size,ag)->
  ∃f j b,l[k]?=Z f∧f.offset=off∧P.info? f.type=Z j∧j.size=size∧P.underlying f.type=Z b∧ag=dR b
 |[],fs,h=>by simp only[fieldsOf,bg]at h;subst h;exact⟨rfl,λk _ _ _ h=>by simp at h⟩
 |f::l,fs,h=>by
  simp only[fieldsOf]at h;split at h
  .rename_i x r h1 h2;simp only[bg]at h;subst h;obtain⟨c,e⟩:=BP h2;refine⟨by simp[c],λk off size ag a=>?_⟩;cases k with
   |zero=>
    simp only[qO,bg]at a;subst a;unfold Ro at h1;split at h1
    .rename_i j d g i;simp only[bg,bD]at h1;obtain⟨rfl,rfl,rfl⟩:=h1;exact⟨f,j,d,rfl,rfl,g,rfl,i,rfl⟩
    .cases h1
   |succ k=>exact e k off size ag (by simpa using a)
  .cases h
def V0(P:Program):TypeDesc->Kd
 | .int k=>.leaf (.int k)
 | .bool=>.leaf .bool
 | .string=>.leaf .str
 | .pointer _=>.ptr
 | .interface _=>.iface
 | .slice e=>match P.info? e,P.underlying e with
  |some j,Z d=>match j.zero with
   |some z=>bif Nat.ble j.bytes 4096&&(Nat.blt 0 j.size&&(Nat.ble j.bytes (E4 (dR d) (Un z))&&(Nat.ble (E4 (dR d) (Un z)) (Nat.mul 2 j.bytes)&&(Nat.blt 0 j.bytes&&Nat.beq (cC (Un z)) j.size))))then
     .slice j.size (dR d) (E4 (dR d) (Un z)) (Un z)else .other
   |none=>.other
  |_,_=>.other
 | .struct fields=>match fieldsOf P fields.toList with
  |some a=>.struct a
  |none=>.other
 | .array len e=>match P.info? e,P.underlying e with
  |some j,Z d=>.array len j.size (dR d)
  |_,_=>.other
 |_=>.other
def ZA(P:Program)(d:TypeDesc):NG P (V0 P d) d:=by
 cases d with
 |slice e=>
  simp only[V0];split
  .rename_i j d h1 h2;split
   .rename_i z b;cases a:(Nat.ble j.bytes 4096&&(Nat.blt 0 j.size&&(Nat.ble j.bytes (E4 (dR d) (Un z))&&(Nat.ble (E4 (dR d) (Un z)) (Nat.mul 2 j.bytes)&&(Nat.blt 0 j.bytes&&Nat.beq (cC (Un z)) j.size)))))with|false=>trivial|true=>simp only[ec]at a;obtain⟨c,g,i,l,m,n⟩:=a;exact⟨e,j,d,z,rfl,h1,rfl,h2,rfl,b,Ux z,fU c,fU g,fU i,fU l,fU m,by rw[<-bL];exact nN n⟩
   .trivial
  .trivial
 |struct fields=>
  simp only[V0];split
  .rename_i u h;obtain⟨o,p⟩:=BP h;exact⟨fields,rfl,by simpa using o,λk off size q r=>by
    obtain⟨f,j,s,h1,h2⟩:=p k off size q r;exact⟨f,j,s,by simpa using h1,h2⟩⟩
  .trivial
 |array len e=>
  simp only[V0];split
  .rename_i j d h1 h2;exact⟨e,j,d,rfl,h1,rfl,h2,rfl⟩
  .trivial
 |int k=>exact rfl
 |bool=>exact rfl
 |string=>exact rfl
 |pointer e=>exact⟨e,rfl⟩
 |interface t=>exact⟨t,rfl⟩
 |_=>trivial
def V8:Value->Bool
 | .agg _=>W
 |_=>J
def YL(P:Program)(a:TypeId->L Lk)(t:TypeId):O TI:=match P.info? t,P.underlying t with
 |some x,Z d=>match x.zero with
  |some z=>bif (bif dR d then V8 z else !(V8 z))then Z ⟨x.size,dR d,Un z,bif dR d then a t else[],V0 P d⟩else Y
  |none=>Y
 |_,_=>Y
variable {P:Program}
def YK{b:TypeId->L Lk}(n:∀t,b t≠[]->aeZ P t (b t)){t:TypeId}{i:TI}(h:YL P b t=Z i):nc P t i:=by
 unfold YL at h;split at h
 .rename_i x d k l;split at h
  .rename_i z m;rcases af h with⟨j,h⟩|⟨_,h⟩
   .simp only[bg]at h;subst h;refine⟨λa c=>?_,λo e=>?_,λp q f g=>?_,x,d,z,k,l,rfl,rfl,m,Ux z,ZA P d⟩
    .dsimp only at a c ⊢;rw[a]at c ⊢;exact n t c
    .rw[l]at e;cases e;rfl
    .rw[k]at f;cases f;rw[m]at g;cases g;refine⟨λa=>?_,λa=>?_⟩
     .dsimp only at a;rw[a,cH]at j;cases z<;>first|exact⟨_,rfl⟩|cases j
     .dsimp only at a;rw[a,dS]at j;cases z<;>first|rfl|cases j
   .cases h
  .cases h
 .cases h
end
section
def EP(P:Program)(a:TypeId->O (L Lk)):L Field->Nat->O (L Lk)
 |[],_=>Z []
 |f::l,off=>match a f.type,P.info? f.type with
  |some ks,Z j=>bif (f.name != "_")&&(Nat.beq f.offset off&&Nat.beq j.size (cC ks))then(EP P a l (Nat.add off (cC ks))).map λr=>ks++r else Y
  |_,_=>Y
def BN(P:Program):Nat->TypeId->O (L Lk)
 |0,_=>Y
 |d+1,t=>match P.underlying t with
  |some (.int k)=>Z [.int k]
  |some .bool=>Z [.bool]
  |some .string=>Z [.str]
  |some (.struct a)=>bif P.stoodInHeld t then Y else EP P (BN P d) a.toList 0
  |_=>Y
def wR:∀{a b c d:L Value},a.length=b.length->kG (a++c) (b++d)=(kG a b&&kG c d)
 |[],[],c,d,_=>by simp[kG]
 |x::a,y::b,c,d,h=>by simp only[List.cons_append,kG,wR (a:=a) (b:=b) (by simpa using h),Bool.and_assoc]
 |[],_::_,_,_,h=>by simp at h
 |_::_,[],_,_,h=>by simp at h
def sP(ks:L Lk)(l:L Value):Prop:=l.length=ks.length∧∀(j:Nat)(k:Lk)(v:Value),ks[j]?=Z k->l[j]?=Z v->zV k v
variable {ks:List Lk}
def sP.split{a:L Lk}{l:L Value}(h:sP (ks++a) l):sP ks (l.take ks.length)∧sP a (l.drop ks.length):=by
 have c:=h.1;rw[gw]at c;refine⟨⟨by rw[xz];omega,λj k v h1 h2=>?_⟩,⟨by rw[BC];omega,λj k v h1 h2=>?_⟩⟩
 .have b:j<ks.length:=(tG.1 h1).1;exact h.2 j k v (by rw[SI b];exact h1) (by rw[v5,bJ b]at h2;exact h2)
 .exact h.2 (ks.length+j) k v (by rw[QX (by omega),Nat.add_sub_cancel_left];exact h1) (by rw[DM]at h2;exact h2)
section
variable {P:Program}
def Mk(P:Program)(t:TypeId)(l:L Value)(v:Value):Prop:=∃u,P.underlying t=Z u∧((dR u=W∧v=.agg l.toArray)∨(dR u=J∧l=[v]))
def aak{d:Nat}{t:TypeId}(h:BN P d t=Z ks):∃u,P.underlying t=Z u∧(dR u=W∨(dR u=J∧ks.length=1)):=by
 cases d with
 |zero=>cases h
 |succ d=>
  simp only[BN]at h;split at h
  .rename_i k a;simp only[bg]at h;exact⟨_,a,.inr ⟨rfl,by rw[<-h];rfl⟩⟩
  .rename_i a;simp only[bg]at h;exact⟨_,a,.inr ⟨rfl,by rw[<-h];rfl⟩⟩
  .rename_i a;simp only[bg]at h;exact⟨_,a,.inr ⟨rfl,by rw[<-h];rfl⟩⟩
  .rename_i b a;exact⟨_,a,.inl rfl⟩
  .cases h
def aaj:∀(d:Nat)(t:TypeId)(ks:L Lk),BN P d t=Z ks->∀(D:Nat),d<=D->∀(w:World)(i ys:L Value)(x y:Value),sP ks i->sP ks ys->Mk P t i x->Mk P t ys y->
  (Op.equalIn D t x y).run P w=.ok (kG i ys) w:=by
 intro d
 induction d with
 |zero=>intro t ks h;cases h
 |succ d ih=>
  intro t ks h D hD w i ys x y hx hy N R;obtain⟨D,rfl⟩:∃D',D=D'+1:=⟨D-1,by omega⟩;simp only[BN]at h;obtain⟨u,q,N⟩:=N;obtain⟨u',e,R⟩:=R;rw[q]at e;cases e;rw[q]at h;have one:∀{k:Lk},ks=[k]->dR u=J->i=[x]∧ys=[y]∧zV k x∧zV k y:=by
   rintro k rfl ha
   rcases N with⟨h1,_⟩|⟨_,rfl⟩
   .rw[ha]at h1;cases h1
   rcases R with⟨h1,_⟩|⟨_,rfl⟩
   .rw[ha]at h1;cases h1
   exact⟨rfl,rfl,hx.2 0 _ _ rfl rfl,hy.2 0 _ _ rfl rfl⟩
  split at h
  .rename_i k s;cases s;simp only[bg]at h;obtain⟨rfl,rfl,⟨a,rfl⟩,⟨b,rfl⟩⟩:=one h.symm rfl;rw[run_equalIn_int w D t k k a b q];simp[kG,EZ]
  .rename_i s;cases s;simp only[bg]at h;obtain⟨rfl,rfl,⟨a,rfl⟩,⟨b,rfl⟩⟩:=one h.symm rfl;rw[run_equalIn_bool' w D t a b q];simp[kG,EZ]
  .rename_i s;cases s;simp only[bg]at h;obtain⟨rfl,rfl,⟨a,rfl⟩,⟨b,rfl⟩⟩:=one h.symm rfl;rw[run_equalIn_string w D t a b q,<-beq_toListBytes];simp[kG,EZ]
  .rename_i fs s;cases s;rcases af h with⟨_,h⟩|⟨X,h⟩
   .cases h
   rcases N with⟨_,rfl⟩|⟨h1,_⟩;rotate_left
   .cases h1
   rcases R with⟨_,rfl⟩|⟨h1,_⟩;rotate_left
   .cases h1
   have E:P.fieldsOf t=fs:=by simp[Program.fieldsOf,q]
   rw[run_equalIn_struct w D t _ _ (by rw[E];exact q) X,E];have key:∀(l:L Field)(off:Nat)(n:L Lk),EP P (BN P d) l off=Z n->sP n (i.drop off)->sP n (ys.drop off)->off<=i.length->off<=ys.length->
     (Op.eqFields D i.toArray ys.toArray l).run P w=.ok (kG (i.drop off) (ys.drop off)) w:=by
    intro l
    induction l with
    |nil=>intro off n h S ky _ _;simp only[EP,bg]at h;subst h;have e1:=tH S.1;rw[e1];simp[Op.eqFields,kG]
    |cons f l ihl=>
     intro off n h S ky ox oy;simp only[EP]at h;split at h
     .rename_i c j h1 h2;rcases af h with⟨hb,h⟩|⟨_,h⟩;rotate_left
      .cases h
      simp only[ec]at hb;obtain⟨hnm,m,p⟩:=hb;have m:=nN m;have p:=nN p;rw[bL]at p h;simp only[eG]at h;obtain⟨r,hr,rfl⟩:=h;obtain⟨z,F⟩:=S.split;obtain⟨A,G⟩:=ky.split;rw[Ly]at F G;have hlx:=S.1;have hly:=ky.1;rw[gw,BC]at hlx hly;have o:∀(C:L Value),sP c ((C.drop off).take c.length)->∃v,(part f.type C.toArray f.offset).run P w=.ok v w∧Mk P f.type ((C.drop off).take c.length) v:=by
       intro C hz;obtain⟨u,e,g⟩:=aak h1;rcases g with g|⟨g,H⟩
       .refine ⟨.agg ((C.drop off).take c.length).toArray,?_,u,e,.inl ⟨g,rfl⟩⟩;simp only[part,Sem.run_bind,rR e,g,Result.andThen_ok,fY,dI h2,Sem.run_pure,m,p];simp[Vo]
       .have I:=hz.1;rw[H]at I;obtain⟨v,hv⟩:=LK.1 I;refine⟨v,?_,u,e,.inr ⟨g,by rw[H];exact hv⟩⟩;have hvv:C[off]?=Z v:=by have:=lS (λl=>l[0]?) hv;simpa[v5]using this
        simp only[part,Sem.run_bind,rR e,g,Result.andThen_ok,m];simp[hvv]
      obtain⟨v1,e1,m1⟩:=o i z;obtain⟨v2,e2,m2⟩:=o ys A;have K:=ih f.type c h1 D (by omega) w _ _ v1 v2 z A m1 m2;have B:=ihl (off+c.length) r hr F G (by omega) (by omega);have M:f.name≠ "_":=by simpa using hnm
      have hsx:i.drop off=(i.drop off).take c.length++i.drop (off+c.length):=by rw[<-Ly];exact(HJ _ _).symm
      have hsy:ys.drop off=(ys.drop off).take c.length++ys.drop (off+c.length):=by rw[<-Ly];exact(HJ _ _).symm
      rw[hsx,hsy,wR (by rw[z.1,A.1])];simp only[Op.eqFields,M,ne_eq,not_false_eq_true,fY,Sem.run_bind,e1,e2,K,Result.andThen_ok];cases hq:kG ((i.drop off).take c.length) ((ys.drop off).take c.length)with|true=>simpa using B|false=>simp
     .cases h
   have:=key fs.toList 0 ks h (by simpa using hx) (by simpa using hy) (Cj _) (Cj _);simpa using this
  .cases h
def MH(P:Program)(t:TypeId):L Lk:=bif P.eqGuardType P.depth t then[]else match BN P 100 t with
 |some ks=>match P.underlying t with
  |some u=>bif dR u then ks else[]
  |none=>[]
 |none=>[]
def WG(t:TypeId)(h:MH P t≠[]):aeZ P t (MH P t):=by
 unfold MH at h ⊢;cases b:P.eqGuardType P.depth t with
 |true=>rw[b]at h;exact absurd rfl h
 |false=>
  rw[b]at h;simp only[dS]at h ⊢;cases c:BN P 100 t with
  |none=>rw[c]at h;exact absurd rfl h
  |some ks=>
   rw[c]at h;dsimp only at h ⊢;cases a:P.underlying t with
   |none=>rw[a]at h;exact absurd rfl h
   |some u=>
    rw[a]at h;dsimp only at h ⊢;cases d:dR u with
    |false=>rw[d]at h;exact absurd rfl h
    |true=>
     simp only[cond_true];intro w op x y e f g i l m;refine⟨run_eqGuard_agg w op t x y e f b,?_⟩;have:=aaj 100 t ks c Op.maxDepth (by decide) w e.toList f.toList (.agg e) (.agg f) ⟨by simpa using g,λj k v h1 h2=>l j k v h1 (by simpa using h2)⟩ ⟨by simpa using i,λj k v h1 h2=>m j k v h1 (by simpa using h2)⟩
      ⟨u,a,.inl ⟨d,rfl⟩⟩ ⟨u,a,.inl ⟨d,rfl⟩⟩
     exact this
end
end
section
def cU{l:L Ty}(h:l.all (λt=>!(jr t))=W):∀t∈l,jr t=J:=by intro t a;rw[eC]at h;simpa using h t a
namespace Tr
variable {α β:Type}
def mapKey(f:Nat->α->β):Tr α->Tr β
 | .nil=>.nil
 | .node v l r=>.node (match v with|some x=>Z (f 0 x)|none=>Y) (mapKey (λj=>f (Nat.succ (Nat.mul 2 j))) l) (mapKey (λj=>f (Nat.succ (Nat.succ (Nat.mul 2 j)))) r)
def xM:∀(t:Tr α)(f:Nat->α->β)(k:Nat),(t.mapKey f).get k=(t.get k).map (f k)
 | .nil,f,k=>by have:(Tr.nil:Tr α).mapKey f=.nil:=rfl;rw[this,Tr.get_nil,Tr.get_nil];rfl
 | .node v l r,f,0=>by simp only[mapKey,Tr.fR];cases v<;>rfl
 | .node v l r,f,k+1=>by
  simp only[mapKey,Tr.cP];by_cases a:k%2=0
  .rw[bJ a,bJ a,xM l];have:Nat.succ (Nat.mul 2 (k/2))=k+1:=by show 2*(k/2)+1=k+1;omega
   rw[this]
  .rw[br a,br a,xM r];have:Nat.succ (Nat.succ (Nat.mul 2 (k/2)))=k+1:=by show 2*(k/2)+1+1=k+1;omega
   rw[this]
def od{t:Tr α}{f g:Nat->α->β}(h:t.mapKey f=t.mapKey g){k:Nat}{v:α}(a:t.get k=Z v):f k v=g k v:=by have:=lS (λt=>t.get k) h;simp only[xM,a,ee,bg]at this;exact this
end Tr
end
section
def Mo:L (String×FuncId)->String->O FuncId
 |[],_=>Y
 |p::l,m=>bif p.1==m then Z p.2 else Mo l m
def mkE(P:Program)(N5:Tr TI)(Si:Tr Ty)(Yw:Tr MT)(ug:Tr (L (String×FuncId)))(ru:Tr Func)(a:Nat->O Nat):gH:=
 ⟨⟨P,λk=>N5.get k,λk=>ru.get k,λ_=>Y⟩,λk=>Si.get k,λk=>Yw.get k,λt m=>match ug.get t with|some l=>Mo l m|none=>Y,a⟩
section
variable (S:Sg)(P:Program)
def mE(τ:Ty):L D:=bif jr τ then(match enc S τ (S.zero τ)with|.agg l=>l|_=>[])else[enc S τ (S.zero τ)]
def Jd(τ:Ty)(i:TI):Kd×Bool×Nat×Bool×L D:=match τ with
 | .int k=>(.leaf (.int k),J,1,W,mE S τ)
 | .bool=>(.leaf .bool,J,1,W,mE S τ)
 | .str=>(.leaf .str,J,1,W,mE S τ)
 | .sl e=>(.slice (S.width e) (jr e) (uL S e) (mE S e),J,1,W,mE S τ)
 | .st n=>(i.kd,W,cC (S.fs n),W,mE S τ)
 | .cR _=>(.iface,J,1,W,mE S τ)
def Jc(τ:Ty)(i:TI):Kd×Bool×Nat×Bool×L D:=(i.kd,i.agg,i.size,(match τ with|.sl e=>Nat.blt 0 (S.width e)|_=>W),i.zero)
def Di(τ:Ty):bif jr τ then D.agg (mE S τ)=enc S τ (S.zero τ)else mE S τ=[enc S τ (S.zero τ)]:=by cases τ<;>rfl
def acA{τ:Ty}{i:TI}(h:Jd S τ i=Jc S τ i):wZ S i τ∧PF S i τ:=by
 have a:i.zero=mE S τ->PF S i τ:=by intro e;unfold PF;rw[e];exact Di S τ
 cases τ with
 |int k=>simp only[Jd,Jc,bD]at h;obtain⟨h1,h2,h3,_,h5⟩:=h;exact⟨⟨h1.symm,h2.symm,h3.symm⟩,a h5.symm⟩
 |bool=>simp only[Jd,Jc,bD]at h;obtain⟨h1,h2,h3,_,h5⟩:=h;exact⟨⟨h1.symm,h2.symm,h3.symm⟩,a h5.symm⟩
 |str=>simp only[Jd,Jc,bD]at h;obtain⟨h1,h2,h3,_,h5⟩:=h;exact⟨⟨h1.symm,h2.symm,h3.symm⟩,a h5.symm⟩
 |sl e=>simp only[Jd,Jc,bD]at h;obtain⟨h1,h2,h3,h4,h5⟩:=h;exact⟨⟨⟨_,h1.symm,Di S e⟩,h2.symm,h3.symm,fU h4.symm⟩,a h5.symm⟩
 |st n=>simp only[Jd,Jc,bD]at h;obtain⟨_,h2,h3,_,h5⟩:=h;exact⟨⟨h2.symm,by rw[<-h3,bL]⟩,a h5.symm⟩
 |cR n=>simp only[Jd,Jc,bD]at h;obtain⟨h1,h2,h3,_,h5⟩:=h;exact⟨⟨h1.symm,h2.symm,h3.symm⟩,a h5.symm⟩
def af4:Ty->TypeDesc->Bool
 | .int k,.int j=>nt j k
 | .bool,.bool=>W
 | .str,.string=>W
 |_,_=>J
def Zz{t:Ty}{d:TypeDesc}(h:af4 t d=W):iu t d:=by
 cases t<;>cases d<;>first|exact rfl|(cases h;done)|skip
 rename_i k j;have:j=k:=by cases j<;>cases k<;>first|rfl|cases h
 rw[this];exact rfl
def mtB(E:gH)(t:Nat)(m:MT):Bool:=match E.E.P.underlying t with
 |some (.map a el)=>Nat.beq el m.el&&((match E.E.P.underlying a with|some d=>af4 m.kt d|none=>J)&&((match E.E.P.info? m.el with|some x=>x.zero.isSome|none=>J)&&
   (match m.vt with|some b=>(match E.ty m.el with|some c=>rL c b|none=>J)&&(E.E.ti m.el).isSome|none=>W)))
 |_=>J
variable {t:Nat}
def acO{E:gH}{m:MT}(h:mtB E t m=W):∃a d,E.E.P.underlying t=Z (.map a m.el)∧E.E.P.underlying a=Z d∧iu m.kt d∧(∃x z,E.E.P.info? m.el=Z x∧x.zero=Z z)∧
  ∀b,m.vt=Z b->E.ty m.el=Z b∧∃i,E.E.ti m.el=Z i:=by
 unfold mtB at h;split at h
 .rename_i a el j;simp only[ec]at h;obtain⟨h1,h2,h3,h4⟩:=h;have:=nN h1;subst this;cases c:E.E.P.underlying a with
  |none=>rw[c]at h2;cases h2
  |some d=>
   rw[c]at h2;cases f:E.E.P.info? m.el with
   |none=>rw[f]at h3;cases h3
   |some x=>
    rw[f]at h3;obtain⟨z,k⟩:=Vl.1 h3;refine⟨a,d,j,c,Zz h2,⟨x,z,rfl,k⟩,λb e=>?_⟩;rw[e]at h4;dsimp only at h4;rw[ec]at h4;cases g:E.ty m.el with
    |none=>rw[g]at h4;cases h4.1
    |some l=>rw[g]at h4;exact⟨by rw[fM h4.1],Vl.1 h4.2⟩
 .cases h
def V7:TypeDesc->Bool
 | .pointer _=>W
 |_=>J
def Rc(P:Program)(t:Nat)(p:String×FuncId):Bool:=match P.info? t,P.underlying t with
 |some x,Z d=>match x.methods.find? (·.name==p.1)with
  |some a=>match a.path.toList,a.func with
   |[],Z (f,b)=>Nat.beq f p.2&&(bif b then V7 d else !(V7 d))
   |_,_=>J
  |none=>J
 |_,_=>J
def VJ{P:Program}{p:String×FuncId}(h:Rc P t p=W):∃x a d,P.info? t=Z x∧x.methods.find? (·.name==p.1)=Z a∧a.path=#[]∧P.underlying t=Z d∧
  ((a.func=Z (p.2,J)∧∀e,d≠.pointer e)∨(a.func=Z (p.2,W)∧∃e,d=.pointer e)):=by
 unfold Rc at h;split at h
 .rename_i x d c g;split at h
  .rename_i a i;split at h
   .rename_i f b h1 h2;rw[ec]at h;have:=nN h.1;subst this;refine⟨x,a,d,c,i,by simpa using h1,g,?_⟩;cases b with
    |false=>refine .inl ⟨h2,λe j=>?_⟩;subst j;exact Bool.noConfusion h.2
    |true=>
     refine .inr ⟨h2,?_⟩;cases d<;>first|exact⟨_,rfl⟩|exact Bool.noConfusion h.2
   .cases h
  .cases h
 .cases h
def HX:∀{l:L (String×FuncId)}{m:String}{f:FuncId},Mo l m=Z f->(m,f)∈l
 |[],_,_,h=>by cases h
 |p::l,m,f,h=>by
  simp only[Mo]at h;rcases af h with⟨a,h⟩|⟨_,h⟩
  .have:p.1=m:=by simpa using a
   simp only[bg]at h;subst h;subst this;exact eD
  .exact gO _ (HX h)
end
def WO{S:Sg}(o:fB S){P:Program}{N5:Tr TI}{Si:Tr Ty}{Yw:Tr MT}{ug:Tr (L (String×FuncId))}{ru:Tr Func}{e:Nat->O Nat}
  (h1:N5.mapKey (λk _=>YL P (MH P) k)=N5.mapKey λ_ i=>Z i)
  (h2:ru.mapKey (λk _=>P.funcs[k]?)=ru.mapKey λ_ f=>Z f)
  (h3:Si.mapKey (λk τ=>(N5.get k).map (Jd S τ))=Si.mapKey λk τ=>(N5.get k).map (Jc S τ))
  (h4:ru.mapKey (λ_ f=>f.name== "runtime.NumGoroutine")=ru.mapKey λ_ _=>J)
  (h5:Yw.mapKey (λk m=>mtB (mkE P N5 Si Yw ug ru e) k m)=Yw.mapKey λ_ _=>W)
  (h6:ug.mapKey (λk l=>l.all (Rc P k))=ug.mapKey λ_ _=>W) (GI:FuncId->O (kC S)) (sh:FuncId->Nat->O LSh) (p:∀f c,GI f=Z c->bz P f c) (q:Bool) :
  eP (⟨mkE P N5 Si Yw ug ru e,GI,sh,q⟩:gl S):=by
 have a:∀k i τ,N5.get k=Z i->Si.get k=Z τ->wZ S i τ∧PF S i τ:=by intro k i τ b g;have:=Tr.od h3 g;simp only[b,ee,bg]at this;exact acA S this
 refine⟨o,⟨λk i b=>?_,λf fn j=>?_⟩,⟨λk i τ b g=>(a k i τ b g).1⟩,λf fn j=>Tr.od h4 j,λ_=>rfl,⟨λk i τ b g=>(a k i τ b g).2,λt m r=>?_,λt s f j=>?_⟩,p⟩
 .exact YK (λt h=>WG t h) (Tr.od h1 b)
 .exact Tr.od h2 j
 .exact acO (Tr.od h5 r)
 .have d:(match ug.get t with|some l=>Mo l s|none=>Y)=Z f:=j;split at d
  .rename_i l u;have n:=Tr.od h6 u;rw[eC]at n;exact VJ (n _ (HX d))
  .cases d
end
section
def Rx.el{R P α:Type}(x:Rx R P)(f:R->O α)(g:P->O α):O α:=match x with
 | .ok r=>f r
 | .dm p=>g p
def LO.el{X R B P α:Type}(o:LO X R B P)(f:Nat->X->O α)(g:B->R->O α)(h:B->P->O α):O α:=match o with
 | .next _=>Y
 | .out j x=>f j x
 | .ret b r=>g b r
 | .dm b p=>h b p
def LO.jn{X R B P α:Type}(o:LO X R B P)(e:X->O α)(f:Nat->X->O α)(g:B->R->O α)(h:B->P->O α):O α:=match o with
 | .next x=>e x
 | .out j x=>f j x
 | .ret b r=>g b r
 | .dm b p=>h b p
def Jg{α:Type}(n:Nat)(a:α):L α:=List.replicate n a
def CA(a b:Bool):Bool:=a&&b
def aaM(a b:Nat):Nat:=Nat.add a b
def Sp(l:L (FuncId×kC S))(f:FuncId):O (kC S):=match l with
 |[]=>Y
 |p::l=>bif Nat.beq p.1 f then Z p.2 else Sp l f
def OkL(P:Program):L (FuncId×kC S)->Prop
 |[]=>True
 |p::l=>bz P p.1 p.2∧OkL P l
def QC{P:Program}:∀{l:L (FuncId×kC S)},OkL P l->∀f c,Sp l f=Z c->bz P f c
 |[],_,_,_,h=>by cases h
 |p::l,⟨b,d⟩,f,c,h=>by
  unfold Sp at h;cases a:Nat.beq p.1 f with
  |true=>
   rw[a]at h;have:p.1=f:=nN a;injection h with h
   rw[<-h,<-this];exact b
  |false=>rw[a]at h;exact QC d f c h
variable {P:Program}
def bZ{f:FuncId}{ps:L Pk}{a:L Ck}{b:Bool}(h:mD P f):bz P f (⟨ps,a,b,λ_=>Y⟩:kC S):=
 ⟨h,λ_ _ h=>by cases h⟩
def rE{α:Type}(b:L α×U):GW (Yx b.1) (Z (([],()),())) (Z (b,()))=Z (b,()):=by obtain⟨l,u⟩:=b;cases l with|nil=>simp[GW,Yx]|cons a l=>rfl
end
section
def lJ(S:Sg):Ty->L Ty
 | .st m=>S.fs m
 | τ=>[τ]
def Qw:L Ty->L Ty->Bool
 |[],[]=>W
 |a::l,b::m=>rL a b&&Qw l m
 |_,_=>J
def KW:∀{l m:L Ty},Qw l m=W->l=m
 |[],[],_=>rfl
 |a::l,b::m,h=>by simp only[Qw,ec]at h;rw[fM h.1,KW h.2]
 |[],_::_,h=>by cases h
 |_::_,[],h=>by cases h
def CW(S:Sg)(P:Program)(ty:TypeId->O Ty):L Field->Nat->L Ty->Bool
 |[],_,[]=>W
 |f::l,off,a=>match ty f.type with
  |some τ=>Nat.beq f.offset off&&(Nat.beq (P.cellsOf f.type) (cC (lJ S τ))&&(Qw (a.take (cC (lJ S τ))) (lJ S τ)&&CW S P ty l (off+cC (lJ S τ)) (a.drop (cC (lJ S τ)))))
  |none=>J
 |_,_,_=>J
def rdT(S:Sg)(P:Program)(ty:TypeId->O Ty)(t:TypeId)(τ:Ty):Bool:=match P.underlying t,τ with
 |some .bool,.bool=>W
 |some (.int k),.int c=>nt k c
 |some .string,.str=>W
 |some (.slice e),.sl a=>match ty e with
  |some b=>rL b a&&(Nat.beq (P.cellsOf e) (S.width a)&&(Nat.ble (uL S a) (Nat.mul 2 (P.bytesOf e))&&Nat.blt 0 (S.width a)))
  |none=>J
 |some (.struct d),.st n=>Nat.beq (P.cellsOf t) (cC (S.fs n))&&CW S P ty d.toList 0 (S.fs n)
 |_,_=>J
section
variable {P:Program}{w:World}{I:Nat->Prop}
def Um(I:Nat->Prop)(w:World)(ds:L D)(vs:L Value):Prop:=PW (ek I w) ds vs
def mapM_some{α β:Type}{f:α->O β}:∀{l:L α}{r:L β},l.mapM f=Z r->r.length=l.length∧∀(i:Nat)(a:α),l[i]?=Z a->∃b,r[i]?=Z b∧f a=Z b
 |[],r,h=>by simp only[List.mapM_nil,Option.pure_def,bg]at h;subst h;exact⟨rfl,λi a h=>by simp at h⟩
 |x::l,r,h=>by simp only[List.mapM_cons,Option.bind_eq_bind,rW,Option.pure_def,bg]at h;obtain⟨b,d,g,e,rfl⟩:=h;obtain⟨h1,h2⟩:=mapM_some e;refine⟨by simp[h1],λi a c=>?_⟩;cases i with|zero=>simp only[qO,bg]at c;subst c;exact⟨b,rfl,d⟩|succ i=>simpa using h2 i a (by simpa using c)
variable {a:Addr}{v:Value}{fuel:Nat}{cs:List Value}{ps:List MemPlace}
def Po{n:Nat}{vs:L Value}(h:w.cells? 0 a n=Z vs):vs.length=n∧∀j,j<n->∃v,vs[j]?=Z v∧w.cell? (a.add j)=Z v:=by unfold World.cells? at h;rw[bJ (Cj _)]at h;obtain⟨h1,h2⟩:=mapM_some h;rw[List.length_range]at h1;refine⟨h1,λj b=>?_⟩;exact h2 j j (by rw[Oj b])
def aaF(h:w.cell? a=Z v):a.block<w.heap.size:=by
 unfold World.cell? at h;split at h
 .rename_i b;exact(Jo.1 b).1
 .cases h
def BZ{α:Type}(p:Nat->α->Prop):∀n,(∀i,i<n->∃x,p i x)->∃l:L α,l.length=n∧∀i x,l[i]?=Z x->p i x
 |0,_=>⟨[],rfl,λi x h=>by simp at h⟩
 |n+1,h=>by
  obtain⟨l,h1,h2⟩:=BZ p n (λi a=>h i (by omega));obtain⟨x,b⟩:=h n (by omega);refine⟨l++[x],by simp[h1],λi y a=>?_⟩;rw[lD]at a;split at a
  .exact h2 i y a
  .rename_i c;have:i=n:=by have:=(tG.1 a).1;simp at this;omega
   subst this;simp[h1]at a;subst a;exact b
def DS{d:D}(h:ek I w d v):Um I w [d] [v]:=⟨rfl,λj a b h1 h2=>by
 cases j with
 |zero=>simp at h1 h2;subst h1;subst h2;exact h
 |succ j=>simp at h1⟩
variable {H:Type}{MW:TypeId×Value->H}{held:Bool}
def trod_bool{t:TypeId}{d:DataW H}(a:P.underlying t=Z .bool)(h:DataW.trod MW P w 0 (λ_=>W) held fuel t cs=Z (d,ps)):∃b,cs=[.bool b]:=by
 cases fuel with
 |zero=>simp[DataW.trod]at h
 |succ n=>
  rcases cs with _|⟨c,_|⟨e,cs⟩⟩
  .simp[DataW.trod,a]at h
  .cases c<;>simp[DataW.trod,a]at h;exact⟨_,rfl⟩
  .simp[DataW.trod,a]at h
def trod_int{t:TypeId}{k:IntKind}{d:DataW H}(a:P.underlying t=Z (.int k))(h:DataW.trod MW P w 0 (λ_=>W) held fuel t cs=Z (d,ps)):∃n,cs=[.int k n]:=by
 cases fuel with
 |zero=>simp[DataW.trod]at h
 |succ n=>
  rcases cs with _|⟨c,_|⟨b,cs⟩⟩
  .simp[DataW.trod,a]at h
  .cases c<;>simp[DataW.trod,a]at h;obtain⟨⟨rfl,_⟩,_⟩:=h;exact⟨_,rfl⟩
  .simp[DataW.trod,a]at h
def UF{t:TypeId}{d:DataW H}(a:P.underlying t=Z .string)(h:DataW.trod MW P w 0 (λ_=>W) held fuel t cs=Z (d,ps)):∃b,cs=[.string b]:=by
 cases fuel with
 |zero=>simp[DataW.trod]at h
 |succ n=>
  rcases cs with _|⟨c,_|⟨e,cs⟩⟩
  .simp[DataW.trod,a]at h
  .cases c<;>simp[DataW.trod,a]at h;exact⟨_,rfl⟩
  .simp[DataW.trod,a]at h
def trod_slice{t e:TypeId}{d:DataW H}(g:P.underlying t=Z (.slice e))(h:DataW.trod MW P w 0 (λ_=>W) held (fuel+1) t cs=Z (d,ps)) :
  cs=[.slice Y 0 0]∨∃(a:Addr)(len cap:Nat)(f rest:L (DataW H)),cs=[.slice (Z a) len cap]∧len<=cap∧d=.slice f rest∧f.length=len∧
   ∀i,i<len->∃vs j l,w.cells? 0 (a.add (i*P.cellsOf e)) (P.cellsOf e)=Z vs∧DataW.trod MW P w 0 (λ_=>W) held fuel e vs=Z (j,l)∧f[i]?=Z j:=by
 rcases cs with _|⟨c,_|⟨s,cs⟩⟩
 .simp[DataW.trod,g]at h
 .cases c with
  |slice a len cap=>
   cases a with
   |none=>
    rcases len with _|len
    .rcases cap with _|cap
     .exact .inl rfl
     .simp[DataW.trod,g]at h
    .simp[DataW.trod,g]at h
   |some a=>
    right
    simp only[DataW.trod,g]at h;split at h
    .rename_i m;rw[rW]at h;obtain⟨n,h1,h2⟩:=h;rw[eG]at h2;obtain⟨rest,_,h3⟩:=h2;simp only[bD]at h3;obtain⟨rfl,_⟩:=h3;obtain⟨h4,h5⟩:=mapM_some h1;rw[List.length_range]at h4;refine⟨a,len,cap,_,_,rfl,m.2.1,rfl,by simpa using h4,λi o=>?_⟩;obtain⟨b,p,k⟩:=h5 i i (by rw[Oj o]);rw[rW]at k;obtain⟨vs,q,r⟩:=k;exact⟨vs,b.1,b.2,q,r,by rw[gM,p];rfl⟩
    .cases h
  |_=>simp[DataW.trod,g]at h
 .simp[DataW.trod,g]at h
def trod_struct{t:TypeId}{fs:Array Field}{d:DataW H}(c:P.underlying t=Z (.struct fs))(h:DataW.trod MW P w 0 (λ_=>W) held (fuel+1) t cs=Z (d,ps)) :
  cs.length=P.cellsOf t∧∃parts:L (DataW H),d=.agg parts∧parts.length=fs.toList.length∧
   ∀(i:Nat)(f:Field),fs.toList[i]?=Z f->∃a e,DataW.trod MW P w 0 (λ_=>W) held fuel f.type ((cs.drop f.offset).take (P.cellsOf f.type))=Z (a,e)∧parts[i]?=Z a:=by
 simp only[DataW.trod,c]at h;split at h
 .rename_i g;rw[eG]at h;obtain⟨m,h1,h2⟩:=h;simp only[bD]at h2;obtain⟨rfl,_⟩:=h2;obtain⟨h4,h5⟩:=mapM_some h1;refine⟨g,_,rfl,by simpa using h4,λi f j=>?_⟩;obtain⟨b,k,l⟩:=h5 i f j;exact⟨b.1,b.2,l,by rw[gM,k];rfl⟩
 .cases h
def TJ(a:fB S):∀(τ:Ty)(x:den S.A τ),∃h:lI S.A (lJ S τ),gD S (lJ S τ) h=(enc S τ x).cells
 | .st n,x=>⟨S.get n x,by simp only[enc,D.cells];exact(a.cells n x).symm⟩
 | .int k,x=>⟨(x,()),rfl⟩
 | .bool,x=>⟨(x,()),rfl⟩
 | .str,x=>⟨(x,()),rfl⟩
 | .sl e,x=>⟨(x,()),rfl⟩
 | .cR n,x=>⟨(x,()),(mj _).symm⟩
def BV:∀(l m:L Ty)(h:lI S.A l)(k:lI S.A m),∃r:lI S.A (l++m),gD S (l++m) r=gD S l h++gD S m k
 |[],m,_,k=>⟨k,rfl⟩
 |t::l,m,h,k=>by obtain⟨r,a⟩:=BV l m h.2 k;exact⟨(h.1,r),by simp only[List.cons_append,gD,a]⟩
def Gq{ts:L TypeId}{ds:L (DataW H)}(h:(DataW.weightsEach P ts ds).all (·<=reachBytes)=W):∀(i:Nat)(t:TypeId)(d:DataW H),ts[i]?=Z t->ds[i]?=Z d->(d.weights P t).all (·<=reachBytes)=W:=by
 induction ts generalizing ds with
 |nil=>intro i t d h1;simp at h1
 |cons a ts c=>
  intro i t d h1 h2;cases ds with
  |nil=>simp at h2
  |cons b ds=>
   simp only[DataW.weightsEach,LB,ec]at h;cases i with|zero=>simp at h1 h2;subst h1;subst h2;exact h.1|succ i=>exact c h.2 i t d (by simpa using h1) (by simpa using h2)
def IT{e:TypeId}{ds:L (DataW H)}(h:(DataW.weightsAll P e ds).all (·<=reachBytes)=W):∀d∈ds,(d.weights P e).all (·<=reachBytes)=W:=by
 induction ds with
 |nil=>intro d b;cases b
 |cons a ds c=>
  simp only[DataW.weightsAll,LB,ec]at h;intro d b;rcases eU.1 b with rfl|b
  .exact h.1
  .exact c h.2 d b
def KY(A:fB S){ty:TypeId->O Ty}
  (B:∀(t:TypeId)(τ:Ty)(cs:L Value)(d:DataW H)(ps:L MemPlace),ty t=Z τ->DataW.trod MW P w 0 (λ_=>W) held fuel t cs=Z (d,ps)->(d.weights P t).all (·<=reachBytes)=W->∃x:den S.A τ,Um I w (enc S τ x).cells cs) :
  ∀(fs:L Field)(off:Nat)(ts:L Ty)(parts:L (DataW H)),CW S P ty fs off ts=W->off+ts.length=cs.length->(DataW.weightsEach P (fs.map (·.type)) parts).all (·<=reachBytes)=W->parts.length=fs.length->
   (∀(i:Nat)(f:Field),fs[i]?=Z f->∃e g,DataW.trod MW P w 0 (λ_=>W) held fuel f.type ((cs.drop f.offset).take (P.cellsOf f.type))=Z (e,g)∧parts[i]?=Z e)->
   ∃h:lI S.A ts,Um I w (gD S ts h) (cs.drop off):=by
 intro fs
 induction fs with
 |nil=>
  intro off ts parts h1 h2 _ _ _;cases ts with|nil=>exact⟨(),by simp[gD];rw[List.drop_eq_nil_of_le (by simp at h2;omega)];exact⟨rfl,λj a b h=>by simp at h⟩⟩|cons t ts=>cases h1
 |cons f fs n=>
  intro off ts parts h1 h2 h3 h4 h5;simp only[CW]at h1;split at h1;rotate_left
  .cases h1
  rename_i τ C;simp only[ec,bL]at h1;obtain⟨o,q,l,h1⟩:=h1;have o:=nN o;have q:=nN q;have l:=KW l;obtain⟨d,g,E,s⟩:=h5 0 f rfl;cases parts with
  |nil=>simp at s
  |cons p parts=>
  simp only[qO,bg]at s;subst s;have F:=Gq h3 0 f.type p rfl rfl;obtain⟨x,u⟩:=B _ _ _ _ _ C E F;obtain⟨k,G⟩:=TJ A τ x;simp only[lT,DataW.weightsEach,LB,ec]at h3;have z:(lJ S τ).length<=ts.length:=by have:=lS List.length l;rw[xz]at this;omega
  obtain⟨r,K⟩:=n (off+(lJ S τ).length) (ts.drop (lJ S τ).length) parts h1 (by rw[BC];omega) h3.2 (by simpa using h4) (λi f M=>by
   obtain⟨e,g,N,R⟩:=h5 (i+1) f (by simpa using M);exact⟨e,g,N,by simpa using R⟩)
  obtain⟨m,X⟩:=BV (lJ S τ) (ts.drop (lJ S τ).length) k r;have v:lJ S τ++ts.drop (lJ S τ).length=ts:=by
   conv=>rhs;rw[<-HJ (lJ S τ).length ts]
   rw[l]
  rw[o,q]at u;rw[<-G]at u;have y:cs.drop off=(cs.drop off).take (lJ S τ).length++cs.drop (off+(lJ S τ).length):=by rw[<-Ly,HJ]
  have c:∃m:lI S.A (lJ S τ++ts.drop (lJ S τ).length),Um I w (gD S _ m) (cs.drop off):=⟨m,by
   rw[X,y];exact PW.append u K⟩
  rw[v]at c;exact c
def YJ(z:fB S){ty:TypeId->O Ty}(hR:∀t τ,ty t=Z τ->rdT S P ty t τ=W)(hI:∀b,b<w.heap.size->I b) :
  ∀(fuel:Nat)(t:TypeId)(τ:Ty)(cs:L Value)(d:DataW H)(ps:L MemPlace),ty t=Z τ->DataW.trod MW P w 0 (λ_=>W) held fuel t cs=Z (d,ps)->(d.weights P t).all (·<=reachBytes)=W->
   ∃x:den S.A τ,Um I w (enc S τ x).cells cs:=by
 intro fuel
 induction fuel with
 |zero=>intro t τ cs d ps _ h;simp[DataW.trod]at h
 |succ fuel ih=>
  intro t τ cs d ps hτ h m;have r:=hR t τ hτ;unfold rdT at r;split at r
  .rename_i o;obtain⟨b,rfl⟩:=trod_bool o h;exact⟨b,DS (.lit _)⟩
  .rename_i k k' o;obtain⟨n,rfl⟩:=trod_int o h;obtain rfl:k=k':=by cases k<;>cases k'<;>first|rfl|cases r
   exact⟨n,DS (.lit _)⟩
  .rename_i o;obtain⟨b,rfl⟩:=UF o h;refine⟨ofBytes b,DS ?_⟩;have:enc S .str (ofBytes b)=.lit (.string b):=by simp only[enc,bK,ofBytes]
   rw[this];exact .lit _
  .rename_i e τ' o;split at r;rotate_left
   .cases r
   rename_i f G;simp only[ec]at r;obtain⟨h1,h2,h3,h4⟩:=r;obtain rfl:=fM h1;have h2:=nN h2;have h3:=fU h3;have h4:0<S.width f:=fU h4;rcases trod_slice o h with rfl|⟨a,len,cap,K,rest,rfl,M,rfl,N,p⟩
   .refine ⟨[],DS ?_⟩;exact .sl [] Y 0 0 (λ_ _=>undef) (bQ _) (λd g=>by cases g) (λd g=>by cases g) (λh=>absurd rfl h) (λi j d c g=>by simp at g)
   .simp only[DataW.weights,o,DQ,LB,ec,jL]at m;have R:=IT m.2.1;obtain⟨s,X,hxs⟩:=BZ (λi(x:den S.A f)=>∃B,w.cells? 0 (a.add (i*P.cellsOf e)) (P.cellsOf e)=Z B∧Um I w (enc S f x).cells B) len (λi hi=>by
     obtain⟨B,di,pi,q1,q2,q3⟩:=p i hi;obtain⟨x,u⟩:=ih e f B di pi G q2 (R di (g8 q3));exact⟨x,B,q1,u⟩)
    have l:∀(i j:Nat)(x:den S.A f)(c:D),s[i]?=Z x->(enc S f x).cells[j]?=Z c->∃v,w.cell? (a.add (i*S.width f+j))=Z v∧ek I w c v:=by
     intro i j x c u y;obtain⟨B,q1,q2⟩:=hxs i x u;obtain⟨q3,q4⟩:=Po q1;have hj:j<P.cellsOf e:=by have:=(tG.1 y).1;rw[jU z]at this;omega
     obtain⟨v,A,C⟩:=q4 j hj;rw[Addr.add_add,h2]at C;exact⟨v,C,q2.2 j c v y A⟩
    refine⟨s,DS ?_⟩;have ZU:enc S (.sl f) s=.sl (s.map (enc S f)):=rfl;rw[ZU];have q:(s.map (enc S f)).length=len:=by simp[X]
    rw[show(Value.slice (Z a) len cap)=.slice (Z a) (s.map (enc S f)).length cap by rw[q]];refine .sl _ (Z a) cap (S.width f) (λi j=>(w.cell? (a.add (i*S.width f+j))).getD undef) (by rw[q];exact M) (qN z s) (λd g=>?_) (λhne=>?_) (λi j d c g y=>?_)
    .obtain ⟨x,_,rfl⟩:=tY.1 g;rw[AM z,q];have E:=m.1;rw[N]at E;have:len*P.bytesOf e<=reachBytes:=fJ (v8 _ (Nat.le_add_right _ _)) E;have hb:len*uL S f<=2*(len*P.bytesOf e):=by
      calc len*uL S f<=len*(2*P.bytesOf e):=Nat.mul_le_mul_left _ h3
       _=2*(len*P.bytesOf e):=by rw[Nat.mul_left_comm]
     unfold reachBytes at this;omega
    .have F:0<s.length:=by cases s with|nil=>exact absurd rfl hne|cons=>simp
     obtain⟨x,u⟩:∃x,s[0]?=Z x:=⟨_,fN F⟩;obtain⟨c,y⟩:∃c,(enc S f x).cells[0]?=Z c:=⟨_,fN (by rw[jU z];exact h4)⟩;obtain⟨v,A,_⟩:=l 0 0 x c u y;refine⟨a,rfl,hI _ ?_,λi j d c g y=>?_⟩
     .have:=aaF A;rwa [kW]at this
     .rw[gM,eG]at g;obtain⟨x,u,rfl⟩:=g;obtain⟨v,A,_⟩:=l i j x c u y;rw[A];rfl
    .rw[gM,eG]at g;obtain⟨x,u,rfl⟩:=g;obtain⟨v,A,g⟩:=l i j x c u y;simp only[A,vY];exact g
  .rename_i fs n o;simp only[ec]at r;obtain⟨h1,h2⟩:=r;have h1:=nN h1;rw[bL]at h1;obtain⟨hl,parts,rfl,NX,p⟩:=trod_struct o h;simp only[DataW.weights,o]at m;obtain⟨k,hk⟩:=KY z ih fs.toList 0 (S.fs n) parts h2 (by omega) m NX p;refine⟨S.VI n k,?_⟩;simp only[enc,D.cells];rw[show S.cells n (S.VI n k)=_ from z.cells n _,z.uw];simpa using hk
  .cases r
end
end
section
section
variable {P:Program}{w:World}{H:Type}{MW:TypeId×Value->H}
variable {base:Nat}{w':World}
def UE(p:fB S){ty:TypeId->O Ty}(q:∀t τ,ty t=Z τ->rdT S P ty t τ=W){t:TypeId}{τ:Ty}(r:ty t=Z τ){v:Value}{d:DataW H}{ps:L MemPlace}(i:Value.okWide P w .any base t v)
  (h:DataW.Trod MW P w 0 (λ_=>W) W t v d ps) (l:(d.weights P t).all (·<=reachBytes)=W):∃x:den S.A τ,ek (λb=>b<w.heap.size) w (enc S τ x) v:=by
 obtain⟨fuel,h⟩:=h;obtain⟨x,g⟩:=YJ (I:=λb=>b<w.heap.size) p q (λ_ h=>h) fuel t τ _ d ps r h l;refine⟨x,?_⟩;have o:=q t τ r;unfold rdT at o;split at o
 .rename_i f;obtain⟨b,rfl⟩:=WideShapes.okWide_bool f i;exact g.2 0 _ _ rfl rfl
 .rename_i k y f;obtain⟨n,rfl⟩:=WideShapes.okWide_int f i;exact g.2 0 _ _ rfl rfl
 .rename_i f;obtain⟨b,rfl⟩:=WideShapes.okWide_string f i;exact g.2 0 _ _ rfl rfl
 .rename_i e z f;obtain⟨a,n,m,rfl⟩:=WideShapes.okWide_slice f i;exact g.2 0 _ _ rfl rfl
 .rename_i A n f;obtain⟨B,rfl,_⟩:=WideShapes.okWide_struct f i;refine .agg _ _ (by have:=g.1;simp only[enc,D.cells,Value.cells]at this;simpa using this) ?_ (λj c u h1 h2=>g.2 j c u h1 (by simpa[Value.cells]using h2));intro c s;have:=MS p (t:=.st n) x;simp only[enc,D.flat,D.cells,eC]at this;exact this c s
 .cases o
def Hl(i:fB S){ty:TypeId->O Ty}(l:∀t τ,ty t=Z τ->rdT S P ty t τ=W){base:Nat}:∀(ts:L TypeId)(τs:L Ty)(vs:L Value)(ds:L (DataW H))(ps:L MemPlace),
  PW (λt τ=>ty t=Z τ) ts τs->(∀(j:Nat)t v,ts[j]?=Z t->vs[j]?=Z v->Value.okWide P w .any base t v)->DataW.TrodAll MW P w 0 (λ_=>W) W ts vs ds ps->
  (DataW.weightsEach P ts ds).all (·<=reachBytes)=W->∃x:fZ S.A (τs.map λτ=>.one (.dat τ)),pg S (λb=>b<w.heap.size) w (τs.map λτ=>.one (.dat τ)) x vs [] []
 |[],[],vs,ds,ps,_,_,h,_=>by cases vs with|nil=>exact⟨(),.nil⟩|cons v vs=>cases ds<;>simp[DataW.TrodAll]at h
 |t::ts,τ::τs,vs,ds,ps,c,m,h,e=>by
  cases vs with
  |nil=>cases ds<;>simp[DataW.TrodAll]at h
  |cons v vs=>
  cases ds with
  |nil=>simp[DataW.TrodAll]at h
  |cons d ds=>
  simp only[DataW.TrodAll]at h;obtain⟨p,q,h1,h2,_⟩:=h;simp only[DataW.weightsEach,LB,ec]at e;obtain⟨x,n⟩:=UE i l (c.2 0 t τ rfl rfl) (m 0 t v rfl rfl) h1 e.1;obtain⟨k,o⟩:=Hl i l ts τs vs ds q ⟨by simpa using c.1,λj a b f g=>c.2 (j+1) a b (by simpa using f) (by simpa using g)⟩ (λj t v f g=>m (j+1) t v (by simpa using f) (by simpa using g)) h2 e.2;exact⟨(x,k),.one (.dat n .nil) o⟩
 |[],τ::τs,_,_,_,c,_,_,_=>by have:=c.1;simp at this
 |t::ts,[],_,_,_,c,_,_,_=>by have:=c.1;simp at this
def Dm{w':World}(hl:laidOutB P=W)(f:∀b,b<w.heap.size->w'.heap[b]?=w.heap[b]?):∀(ts:L TypeId)(vs:L Value)(ds:L (DataW H))(ps:L MemPlace),(∀t∈ts,P.readableRec t=W∧t<P.types.size)->
  DataW.TrodAll MW P w 0 (λ_=>W) W ts vs ds ps->(∀p∈ps,p.block<w.heap.size)->DataW.TrodAll MW P w' 0 (λb=>decide (b<w.heap.size)) W ts vs ds ps
 |[],[],[],ps,_,h,_=>h
 |t::ts,v::vs,d::ds,ps,c,h,e=>by simp only[DataW.TrodAll]at h ⊢;obtain⟨p,q,h1,h2,rfl⟩:=h;refine⟨p,q,WideElems.Trod_stays hl (c t eD).1 (c t eD).2 h1 (λx a=>?_) (λx a=>by simpa using e x (eL _ a)),Dm hl f ts vs ds q (λt g=>c t (gO _ g)) h2 λx a=>e x (iX _ a),rfl⟩;have:=f x.block (e x (eL _ a));cases x with|cell b off=>show w'.cell? _=w.cell? _;unfold World.cell?;rw[show w'.heap[b]?=w.heap[b]? from this]|map b=>exact this
 |[],[],_::_,_,_,h,_=>by simp[DataW.TrodAll]at h
 |[],_::_,_,_,_,h,_=>by simp[DataW.TrodAll]at h
 |_::_,[],_,_,_,h,_=>by simp[DataW.TrodAll]at h
 |_::_,_::_,[],_,_,h,_=>by simp[DataW.TrodAll]at h
def JI(c:w'.os=w.os)(a:w'.output=w.output)(e:∀b,b<w.heap.size->w'.heap[b]?=w.heap[b]?)(d:MemPlace->Prop):w.keptBut w' d:=by
 refine⟨c,a,λi f=>?_⟩;rw[e i f];split
 .rename_i h1 h2;rw[h1]at h2;cases h2;exact⟨rfl,rfl,rfl,λ_ _=>rfl⟩
 .rename_i h1 h2;rw[h1]at h2;cases h2;exact .inr ⟨rfl,rfl⟩
 .rfl
def ri(hS:fB S){ty:TypeId->O Ty}(hR:∀t τ,ty t=Z τ->rdT S P ty t τ=W)(hl:laidOutB P=W){f:FuncId}{fn:Func}{s:ChangeSpec}{apart fresh l:Bool}{τs:L Ty}{tb:TypeId}
  (X:PW (λt τ=>ty t=Z τ) fn.params.toList τs) (E:∀t∈fn.params.toList,P.readableRec t=W∧t<P.types.size) (G:fn.resultTypes=#[tb]) (hb:P.underlying tb=Z .bool) (c:s.vars=[])
  (z:∀ds:L (DataW H),ds.length=τs.length->(s.fn H ds).results=[.lit (.bool W)]∧(s.fn H ds).args=ds∧(s.fn H ds).vars=[])
  (hF:∀x:fZ S.A (τs.map λτ=>Pk.one (.dat τ)),∃F r,bz P f (⟨τs.map λτ=>.one (.dat τ),[.dat .bool],J,F⟩:kC S)∧F x=Z r∧r.1.1=W)
  {a:World} {base:Nat} {args:Array Value} {ds I:L (DataW H)} {m:L MemPlace}
  (o:∀(j:Nat)t v,fn.params[j]?=Z t->args[j]?=Z v->Value.okWide P a .any base t v) (hW:DataW.Whole MW P fn.params.toList s.vars apart a args.toList ds I m)
  (A:(DataW.weightsEach P (fn.params.toList++s.plain.varTypes P) (ds++I)).all (·<=reachBytes)=W) :
  Calls P f args a λe W'=>∃v,e=.returned v∧s.post MW P fn apart fresh l J a args v W':=by
 rw[c]at hW;have n:=hW;obtain⟨p,q,w,hV,rfl,hfz,hnd⟩:=hW;have hgs:I=[]∧q=[]:=by cases I with|nil=>exact⟨rfl,hV⟩|cons g I=>simp[DataW.TrodVars]at hV
 obtain⟨rfl,rfl⟩:=hgs;have hvt:s.plain.varTypes P=[]:=by simp[ChangeSpec.plain,DataSpec.varTypes,c]
 rw[hvt,ij,ij]at A;obtain⟨x,R⟩:=Hl hS hR fn.params.toList τs args.toList ds p X (λj t v h1 h2=>o j t v (by simpa using h1) (by simpa using h2)) w A;obtain⟨F,r,K,hr,i⟩:=hF x;have M:ds.length=τs.length:=by
  rw[<-X.1];clear o n A hfz hnd hV R X E;generalize fn.params.toList=ts at w;generalize args.toList=C at w
  induction ts generalizing C ds p with
  |nil=>cases C<;>cases ds<;>simp_all [DataW.TrodAll]
  |cons t ts ih=>
   cases C with
   |nil=>cases ds<;>simp[DataW.TrodAll]at w
   |cons v C=>
    cases ds with|nil=>simp[DataW.TrodAll]at w|cons d ds=>simp only[DataW.TrodAll]at w;obtain⟨_,q,_,h2,_⟩:=w;simp[ih _ _ h2]
 refine(K.2 x r hr _ a args [] [] R (λ_ h=>h) .nil (by simp) (by simp)).mono λe W' he=>?_;cases e with
 |panicked ch=>exact he.elim
 |outgrown=>exact he.elim
 |returned v=>
 obtain⟨I',C,zR,z9,_,_,_,hsz,B,hos,N,rfl,_,hH,_⟩:=he;have hv:valOf C=.bool W:=by
  generalize r.1=y at hH i;obtain⟨b,u⟩:=y;cases hH with
  |dat hd hr=>
  cases hr;cases hd;simp only at i;rw[i];rfl
 rw[hv];refine⟨_,rfl,?_⟩;obtain⟨s1,s2,s3⟩:=z ds M;have k:∀b,b<a.heap.size->W'.heap[b]?=a.heap[b]?:=λb hb=>B b hb (by simp) (by simp);have hlt:∀x∈p,x.block<a.heap.size:=λx R=>n.lt x (by simpa using R);rw[ij]at n;unfold ChangeSpec.post;rw[c];refine⟨ds,[],p,[],p,[],n,?_,?_,?_,JI hos N k _,λh=>by cases h⟩
 .rw[ij,s1,G];simp only[Value.resultList];refine⟨[],[],⟨1,?_⟩,rfl,rfl⟩;simp[DataW.trod,hb,Value.cells]
 .rw[ij,s2];exact Dm hl k _ _ _ _ E w hlt
 .rw[ij,s3];rfl
end
end
end TL
end
section
namespace Mn
open Go TL
section
open Proofs.Tryz
def z0:TI:=⟨1,J,[.lit .nilFunc],[],.other⟩
abbrev n1{α:Type}(x:α)(l r:Tr α):Tr α:=.node (Z x) l r
abbrev n0{α:Type}(l r:Tr α):Tr α:=.node Y l r
abbrev e0{α:Type}:Tr α:=.nil
abbrev bu{α:Type}(x:α):Tr α:=.node (Z x) .nil .nil
abbrev cI(l r:Tr TI):Tr TI:=.node (Z z0) l r
abbrev bS:Tr TI:=.node (Z z0) .nil .nil
abbrev aT:D:=.lit (.int .i64 0)
abbrev dx:D:=.lit (.string ⟨#[]⟩)
abbrev kD:D:=.lit (.pointer Y)
abbrev eX:D:=.lit .nilFunc
abbrev UJ:Kd:=.struct [(0,1,J)]
abbrev wB:Kd:=.struct [(0,1,J),(1,1,J)]
abbrev Bs:Kd:=.struct [(0,1,J),(1,1,J),(2,1,J)]
abbrev pM:Kd:=.struct [(0,1,J),(1,1,J),(2,1,J),(3,1,J)]
abbrev QF:Kd:=.struct [(0,1,J),(1,1,J),(2,1,J),(3,1,J),(4,1,J)]
structure aC where
 Form:Int
 N:Int
 Text:List UInt8
 Cc:List aC
structure bp where
 Op:Int
 N:Int
 Kids:List Int
 cA:List aC
structure cB where
 Name:List UInt8
 pG:Int
structure ax where
 aW:List bp
 dA:List Int
 Main:Int
 Cons:List cB
structure aq where
 Kind:Int
 N:Int
structure au where
 Node:Int
 Env:List aq
 bI:List aq
structure aE where
 Form:Int
 N:Int
 bI:List aq
 Frames:List au
structure cS where
 Port:Int
 N:Int
structure aa where
 aY:List aE
 aX:List Int
 fe:List cS
 kM:List Int
 Used:Int
structure aA where
 Task:Int
 Do:Int
 N:Int
 V:aq
structure aB where
 W:aa
 aaX:Int
 E:aA
structure cq where
 ax:ax
 aa:aa
structure iE where
structure gI where
 aA:aA
structure gj where
 state:Int
structure je where
inductive cg where
 |a0 (x:iE)
 |a1 (x:gI)
 |a2 (x:gj)
 |a3 (x:je)
 |none
structure ck where
 NA:Int
 N:Int
 Text:List UInt8
 Cc:List ck
structure ic where
 Name:List UInt8
 pG:List ck
structure jG where
 Name:List UInt8
 Cons:List ic
structure Term where
 Op:Int
 N:Int
 Text:List UInt8
 Kids:List Term
 cA:List aC
structure cF where
 Name:List UInt8
 Param:List UInt8
 NH:ck
 To:ck
 Body:Term
structure dZ where
 Name:List UInt8
 ab0:List jG
 dA:List cF
structure cW where
 ax:ax
structure dG where
 xO:List (List UInt8)
 cons:List cB
 nodes:List bp
structure fj where
 Kind:Int
 Text:List UInt8
 N:Int
 At:Int
structure bG where
 l_:List fj
 at_:Int
 bad:Bool
structure jI where
structure mC where
inductive cN where
 |a0 (x:jI)
 |a1 (x:Int)
 |a2 (x:mC)
 |none
inductive Any where
 |a0 (x:gj)
 |none
def aN:aC:=⟨0,0,[],[]⟩
def aP:bp:=⟨0,0,[],[]⟩
def bx:cB:=⟨[],0⟩
def kT:ax:=⟨[],[],0,[]⟩
def az:aq:=⟨0,0⟩
def aV:au:=⟨0,[],[]⟩
def aU:aE:=⟨0,0,[],[]⟩
def gF:cS:=⟨0,0⟩
def bF:aa:=⟨[],[],[],[],0⟩
def aH:aA:=⟨0,0,0,az⟩
def jb:aB:=⟨bF,0,aH⟩
def BX:cq:=⟨kT,bF⟩
def E9:iE:=⟨⟩
def It:gI:=⟨aH⟩
def BY:gj:=⟨0⟩
def Fa:je:=⟨⟩
def W8:cg:=.none
def mq:ck:=⟨0,0,[],[]⟩
def gZ:ic:=⟨[],[]⟩
def kS:jG:=⟨[],[]⟩
def pX:Term:=⟨0,0,[],[],[]⟩
def dL:cF:=⟨[],[],mq,mq,pX⟩
def jD:dZ:=⟨[],[],[]⟩
def zC:cW:=⟨kT⟩
def o5:dG:=⟨[],[],[]⟩
def dy:fj:=⟨0,[],0,0⟩
def o4:bG:=⟨[],0,J⟩
def zE:jI:=⟨⟩
def Fb:mC:=⟨⟩
def TT:cN:=.none
def aok:Any:=.none
mutual
def uI:aC->L D
 | .mk x0 x1 x2 x3=>[.lit (.int .i64 x0),.lit (.int .i64 x1),.lit (.string (bK x2)),.sl (mu x3)]
def mu:L aC->L D
 |[]=>[]
 |y::l=>.agg (uI y)::mu l
end
def ku:∀l:L aC,mu l=l.map (λy=>.agg (uI y))
 |[]=>rfl
 |y::l=>by simp only[mu,lT,ku l]
def mA(x:bp):L D:=[.lit (.int .i64 x.Op),.lit (.int .i64 x.N),.sl (List.map (λy=>.lit (.int .i64 y)) x.Kids),.sl (mu x.cA)]
def uK(x:cB):L D:=[.lit (.string (bK x.Name)),.lit (.int .i64 x.pG)]
def TW(x:ax):L D:=[.sl (List.map (λy=>.agg (mA y)) x.aW),.sl (List.map (λy=>.lit (.int .i64 y)) x.dA),.lit (.int .i64 x.Main),.sl (List.map (λy=>.agg (uK y)) x.Cons)]
def zJ(x:aq):L D:=[.lit (.int .i64 x.Kind),.lit (.int .i64 x.N)]
def Fs(x:au):L D:=[.lit (.int .i64 x.Node),.sl (List.map (λy=>.agg (zJ y)) x.Env),.sl (List.map (λy=>.agg (zJ y)) x.bI)]
def zL(x:aE):L D:=[.lit (.int .i64 x.Form),.lit (.int .i64 x.N),.sl (List.map (λy=>.agg (zJ y)) x.bI),.sl (List.map (λy=>.agg (Fs y)) x.Frames)]
def zK(x:cS):L D:=[.lit (.int .i64 x.Port),.lit (.int .i64 x.N)]
def Pr(x:aa):L D:=[.sl (List.map (λy=>.agg (zL y)) x.aY),.sl (List.map (λy=>.lit (.int .i64 y)) x.aX),.sl (List.map (λy=>.agg (zK y)) x.fe),.sl (List.map (λy=>.lit (.int .i64 y)) x.kM),.lit (.int .i64 x.Used)]
def Pu(x:aA):L D:=[.lit (.int .i64 x.Task),.lit (.int .i64 x.Do),.lit (.int .i64 x.N),.lit (.int .i64 x.V.Kind),.lit (.int .i64 x.V.N)]
def Cw(x:aB):L D:=[.sl (List.map (λy=>.agg (zL y)) x.W.aY),.sl (List.map (λy=>.lit (.int .i64 y)) x.W.aX),.sl (List.map (λy=>.agg (zK y)) x.W.fe),.sl (List.map (λy=>.lit (.int .i64 y)) x.W.kM),.lit (.int .i64 x.W.Used),.lit (.int .i64 x.aaX),.lit (.int .i64 x.E.Task),.lit (.int .i64 x.E.Do),.lit (.int .i64 x.E.N),.lit (.int .i64 x.E.V.Kind),.lit (.int .i64 x.E.V.N)]
def Nh(x:cq):L D:=[.sl (List.map (λy=>.agg (mA y)) x.ax.aW),.sl (List.map (λy=>.lit (.int .i64 y)) x.ax.dA),.lit (.int .i64 x.ax.Main),.sl (List.map (λy=>.agg (uK y)) x.ax.Cons),.sl (List.map (λy=>.agg (zL y)) x.aa.aY),.sl (List.map (λy=>.lit (.int .i64 y)) x.aa.aX),.sl (List.map (λy=>.agg (zK y)) x.aa.fe),.sl (List.map (λy=>.lit (.int .i64 y)) x.aa.kM),.lit (.int .i64 x.aa.Used)]
def Fm(x:iE):L D:=[]
def Iy(x:gI):L D:=[.lit (.int .i64 x.aA.Task),.lit (.int .i64 x.aA.Do),.lit (.int .i64 x.aA.N),.lit (.int .i64 x.aA.V.Kind),.lit (.int .i64 x.aA.V.N)]
def uJ(x:gj):L D:=[.lit (.int .i64 x.state)]
def Fp(x:je):L D:=[]
def Mv:cg->O (TypeId×D)
 | .a0 x=>Z (170,.agg (Fm x))
 | .a1 x=>Z (173,.agg (Iy x))
 | .a2 x=>Z (175,.agg (uJ x))
 | .a3 x=>Z (181,.agg (Fp x))
 | .none=>Y
def Xf(x:cg):L D:=[NW (Mv x)]
mutual
def rB:ck->L D
 | .mk x0 x1 x2 x3=>[.lit (.int .i64 x0),.lit (.int .i64 x1),.lit (.string (bK x2)),.sl (kJ x3)]
def kJ:L ck->L D
 |[]=>[]
 |y::l=>.agg (rB y)::kJ l
end
def lN:∀l:L ck,kJ l=l.map (λy=>.agg (rB y))
 |[]=>rfl
 |y::l=>by simp only[kJ,lT,lN l]
def p7(x:ic):L D:=[.lit (.string (bK x.Name)),.sl (kJ x.pG)]
def Ix(x:jG):L D:=[.lit (.string (bK x.Name)),.sl (List.map (λy=>.agg (p7 y)) x.Cons)]
mutual
def Ng:Term->L D
 | .mk x0 x1 x2 x3 x4=>[.lit (.int .i64 x0),.lit (.int .i64 x1),.lit (.string (bK x2)),.sl (Fe x3),.sl (mu x4)]
def Fe:L Term->L D
 |[]=>[]
 |y::l=>.agg (Ng y)::Fe l
end
def xR:∀l:L Term,Fe l=l.map (λy=>.agg (Ng y))
 |[]=>rfl
 |y::l=>by simp only[Fe,lT,xR l]
def pZ(x:cF):L D:=[.lit (.string (bK x.Name)),.lit (.string (bK x.Param)),.lit (.int .i64 x.NH.NA),.lit (.int .i64 x.NH.N),.lit (.string (bK x.NH.Text)),.sl (kJ x.NH.Cc),.lit (.int .i64 x.To.NA),.lit (.int .i64 x.To.N),.lit (.string (bK x.To.Text)),.sl (kJ x.To.Cc),.lit (.int .i64 x.Body.Op),.lit (.int .i64 x.Body.N),.lit (.string (bK x.Body.Text)),.sl (Fe x.Body.Kids),.sl (mu x.Body.cA)]
def Nf(x:dZ):L D:=[.lit (.string (bK x.Name)),.sl (List.map (λy=>.agg (Ix y)) x.ab0),.sl (List.map (λy=>.agg (pZ y)) x.dA)]
def J7(x:cW):L D:=[.sl (List.map (λy=>.agg (mA y)) x.ax.aW),.sl (List.map (λy=>.lit (.int .i64 y)) x.ax.dA),.lit (.int .i64 x.ax.Main),.sl (List.map (λy=>.agg (uK y)) x.ax.Cons)]
def xV(x:dG):L D:=[.sl (List.map (λy=>.lit (.string (bK y))) x.xO),.sl (List.map (λy=>.agg (uK y)) x.cons),.sl (List.map (λy=>.agg (mA y)) x.nodes)]
def Fo(x:fj):L D:=[.lit (.int .i64 x.Kind),.lit (.string (bK x.Text)),.lit (.int .i64 x.N),.lit (.int .i64 x.At)]
def xU(x:bG):L D:=[.sl (List.map (λy=>.agg (Fo y)) x.l_),.lit (.int .i64 x.at_),.lit (.bool x.bad)]
def zI(x:jI):L D:=[]
def Fq(x:mC):L D:=[]
def H9:cN->O (TypeId×D)
 | .a0 x=>Z (274,.agg (zI x))
 | .a1 x=>Z (297,.lit (.int .i64 x))
 | .a2 x=>Z (298,.agg (Fq x))
 | .none=>Y
def TV(x:cN):L D:=[NW (H9 x)]
def agJ:Any->O (TypeId×D)
 | .a0 x=>Z (175,.agg (uJ x))
 | .none=>Y
def aom(x:Any):L D:=[NW (agJ x)]
def Nb:Nat->Type
 |0=>aC
 |1=>bp
 |2=>cB
 |3=>ax
 |4=>aq
 |5=>au
 |6=>aE
 |7=>cS
 |8=>aa
 |9=>aA
 |10=>aB
 |11=>cq
 |12=>iE
 |13=>gI
 |14=>gj
 |15=>je
 |16=>cg
 |17=>ck
 |18=>ic
 |19=>jG
 |20=>Term
 |21=>cF
 |22=>dZ
 |23=>cW
 |24=>dG
 |25=>fj
 |26=>bG
 |27=>jI
 |28=>mC
 |29=>cN
 |30=>Any
 |_+31=>U
def fields:Nat->L Ty
 |0=>[.int .i64,.int .i64,.str,.sl (.st 0)]
 |1=>[.int .i64,.int .i64,.sl (.int .i64),.sl (.st 0)]
 |2=>[.str,.int .i64]
 |3=>[.sl (.st 1),.sl (.int .i64),.int .i64,.sl (.st 2)]
 |4=>[.int .i64,.int .i64]
 |5=>[.int .i64,.sl (.st 4),.sl (.st 4)]
 |6=>[.int .i64,.int .i64,.sl (.st 4),.sl (.st 5)]
 |7=>[.int .i64,.int .i64]
 |8=>[.sl (.st 6),.sl (.int .i64),.sl (.st 7),.sl (.int .i64),.int .i64]
 |9=>[.int .i64,.int .i64,.int .i64,.int .i64,.int .i64]
 |10=>[.sl (.st 6),.sl (.int .i64),.sl (.st 7),.sl (.int .i64),.int .i64,.int .i64,.int .i64,.int .i64,.int .i64,.int .i64,.int .i64]
 |11=>[.sl (.st 1),.sl (.int .i64),.int .i64,.sl (.st 2),.sl (.st 6),.sl (.int .i64),.sl (.st 7),.sl (.int .i64),.int .i64]
 |12=>[]
 |13=>[.int .i64,.int .i64,.int .i64,.int .i64,.int .i64]
 |14=>[.int .i64]
 |15=>[]
 |16=>[.cR 16]
 |17=>[.int .i64,.int .i64,.str,.sl (.st 17)]
 |18=>[.str,.sl (.st 17)]
 |19=>[.str,.sl (.st 18)]
 |20=>[.int .i64,.int .i64,.str,.sl (.st 20),.sl (.st 0)]
 |21=>[.str,.str,.int .i64,.int .i64,.str,.sl (.st 17),.int .i64,.int .i64,.str,.sl (.st 17),.int .i64,.int .i64,.str,.sl (.st 20),.sl (.st 0)]
 |22=>[.str,.sl (.st 19),.sl (.st 21)]
 |23=>[.sl (.st 1),.sl (.int .i64),.int .i64,.sl (.st 2)]
 |24=>[.sl (.str),.sl (.st 2),.sl (.st 1)]
 |25=>[.int .i64,.str,.int .i64,.int .i64]
 |26=>[.sl (.st 25),.int .i64,.bool]
 |27=>[]
 |28=>[]
 |29=>[.cR 29]
 |30=>[.cR 30]
 |_+31=>[]
def dflt:(n:Nat)->Nb n
 |0=>aN
 |1=>aP
 |2=>bx
 |3=>kT
 |4=>az
 |5=>aV
 |6=>aU
 |7=>gF
 |8=>bF
 |9=>aH
 |10=>jb
 |11=>BX
 |12=>E9
 |13=>It
 |14=>BY
 |15=>Fa
 |16=>W8
 |17=>mq
 |18=>gZ
 |19=>kS
 |20=>pX
 |21=>dL
 |22=>jD
 |23=>zC
 |24=>o5
 |25=>dy
 |26=>o4
 |27=>zE
 |28=>Fb
 |29=>TT
 |30=>aok
 |_+31=>()
def aag:(n:Nat)->Nb n->lI Nb (fields n)
 |0,x=>(aC.Form x,aC.N x,aC.Text x,aC.Cc x,())
 |1,x=>(bp.Op x,bp.N x,bp.Kids x,bp.cA x,())
 |2,x=>(cB.Name x,cB.pG x,())
 |3,x=>(ax.aW x,ax.dA x,ax.Main x,ax.Cons x,())
 |4,x=>(aq.Kind x,aq.N x,())
 |5,x=>(au.Node x,au.Env x,au.bI x,())
 |6,x=>(aE.Form x,aE.N x,aE.bI x,aE.Frames x,())
 |7,x=>(cS.Port x,cS.N x,())
 |8,x=>(aa.aY x,aa.aX x,aa.fe x,aa.kM x,aa.Used x,())
 |9,x=>(aA.Task x,aA.Do x,aA.N x,(aA.V x).Kind,(aA.V x).N,())
 |10,x=>((aB.W x).aY,(aB.W x).aX,(aB.W x).fe,(aB.W x).kM,(aB.W x).Used,aB.aaX x,(aB.E x).Task,(aB.E x).Do,(aB.E x).N,(aB.E x).V.Kind,(aB.E x).V.N,())
 |11,x=>((cq.ax x).aW,(cq.ax x).dA,(cq.ax x).Main,(cq.ax x).Cons,(cq.aa x).aY,(cq.aa x).aX,(cq.aa x).fe,(cq.aa x).kM,(cq.aa x).Used,())
 |12,_=>()
 |13,x=>((gI.aA x).Task,(gI.aA x).Do,(gI.aA x).N,(gI.aA x).V.Kind,(gI.aA x).V.N,())
 |14,x=>(gj.state x,())
 |15,_=>()
 |16,x=>(x,())
 |17,x=>(ck.NA x,ck.N x,ck.Text x,ck.Cc x,())
 |18,x=>(ic.Name x,ic.pG x,())
 |19,x=>(jG.Name x,jG.Cons x,())
 |20,x=>(Term.Op x,Term.N x,Term.Text x,Term.Kids x,Term.cA x,())
 |21,x=>(cF.Name x,cF.Param x,(cF.NH x).NA,(cF.NH x).N,(cF.NH x).Text,(cF.NH x).Cc,(cF.To x).NA,(cF.To x).N,(cF.To x).Text,(cF.To x).Cc,(cF.Body x).Op,(cF.Body x).N,(cF.Body x).Text,(cF.Body x).Kids,(cF.Body x).cA,())
 |22,x=>(dZ.Name x,dZ.ab0 x,dZ.dA x,())
 |23,x=>((cW.ax x).aW,(cW.ax x).dA,(cW.ax x).Main,(cW.ax x).Cons,())
 |24,x=>(dG.xO x,dG.cons x,dG.nodes x,())
 |25,x=>(fj.Kind x,fj.Text x,fj.N x,fj.At x,())
 |26,x=>(bG.l_ x,bG.at_ x,bG.bad x,())
 |27,_=>()
 |28,_=>()
 |29,x=>(x,())
 |30,x=>(x,())
 |_+31,_=>()
def VM:(n:Nat)->lI Nb (fields n)->Nb n
 |0,(x0,x1,x2,x3,())=>(⟨x0,x1,x2,x3⟩:aC)
 |1,(x0,x1,x2,x3,())=>(⟨x0,x1,x2,x3⟩:bp)
 |2,(x0,x1,())=>(⟨x0,x1⟩:cB)
 |3,(x0,x1,x2,x3,())=>(⟨x0,x1,x2,x3⟩:ax)
 |4,(x0,x1,())=>(⟨x0,x1⟩:aq)
 |5,(x0,x1,x2,())=>(⟨x0,x1,x2⟩:au)
 |6,(x0,x1,x2,x3,())=>(⟨x0,x1,x2,x3⟩:aE)
 |7,(x0,x1,())=>(⟨x0,x1⟩:cS)
 |8,(x0,x1,x2,x3,x4,())=>(⟨x0,x1,x2,x3,x4⟩:aa)
 |9,(x0,x1,x2,x3,x4,())=>(⟨x0,x1,x2,⟨x3,x4⟩⟩:aA)
 |10,(x0,x1,x2,x3,x4,x5,x6,x7,x8,x9,x10,())=>(⟨⟨x0,x1,x2,x3,x4⟩,x5,⟨x6,x7,x8,⟨x9,x10⟩⟩⟩:aB)
 |11,(x0,x1,x2,x3,x4,x5,x6,x7,x8,())=>(⟨⟨x0,x1,x2,x3⟩,⟨x4,x5,x6,x7,x8⟩⟩:cq)
 |12,_=>(⟨⟩:iE)
 |13,(x0,x1,x2,x3,x4,())=>(⟨⟨x0,x1,x2,⟨x3,x4⟩⟩⟩:gI)
 |14,(x0,())=>(⟨x0⟩:gj)
 |15,_=>(⟨⟩:je)
 |16,(x,())=>x
 |17,(x0,x1,x2,x3,())=>(⟨x0,x1,x2,x3⟩:ck)
 |18,(x0,x1,())=>(⟨x0,x1⟩:ic)
 |19,(x0,x1,())=>(⟨x0,x1⟩:jG)
 |20,(x0,x1,x2,x3,x4,())=>(⟨x0,x1,x2,x3,x4⟩:Term)
 |21,(x0,x1,x2,x3,x4,x5,x6,x7,x8,x9,x10,x11,x12,x13,x14,())=>(⟨x0,x1,⟨x2,x3,x4,x5⟩,⟨x6,x7,x8,x9⟩,⟨x10,x11,x12,x13,x14⟩⟩:cF)
 |22,(x0,x1,x2,())=>(⟨x0,x1,x2⟩:dZ)
 |23,(x0,x1,x2,x3,())=>(⟨⟨x0,x1,x2,x3⟩⟩:cW)
 |24,(x0,x1,x2,())=>(⟨x0,x1,x2⟩:dG)
 |25,(x0,x1,x2,x3,())=>(⟨x0,x1,x2,x3⟩:fj)
 |26,(x0,x1,x2,())=>(⟨x0,x1,x2⟩:bG)
 |27,_=>(⟨⟩:jI)
 |28,_=>(⟨⟩:mC)
 |29,(x,())=>x
 |30,(x,())=>x
 |_+31,_=>()
def Xe:(n:Nat)->Nb n->L D
 |0,x=>uI x
 |1,x=>mA x
 |2,x=>uK x
 |3,x=>TW x
 |4,x=>zJ x
 |5,x=>Fs x
 |6,x=>zL x
 |7,x=>zK x
 |8,x=>Pr x
 |9,x=>Pu x
 |10,x=>Cw x
 |11,x=>Nh x
 |12,x=>Fm x
 |13,x=>Iy x
 |14,x=>uJ x
 |15,x=>Fp x
 |16,x=>Xf x
 |17,x=>rB x
 |18,x=>p7 x
 |19,x=>Ix x
 |20,x=>Ng x
 |21,x=>pZ x
 |22,x=>Nf x
 |23,x=>J7 x
 |24,x=>xV x
 |25,x=>Fo x
 |26,x=>xU x
 |27,x=>zI x
 |28,x=>Fq x
 |29,x=>TV x
 |30,x=>aom x
 |_+31,_=>[]
def IE:Nat->L (TypeId×Ty)
 |16=>[(170,.st 12),(173,.st 13),(175,.st 14),(181,.st 15)]
 |29=>[(274,.st 27),(297,.int .i64),(298,.st 28)]
 |30=>[(175,.st 14)]
 |_=>[]
def dj:(n:Nat)->Nb n->wh Nb (IE n)
 |0,_=>()
 |1,_=>()
 |2,_=>()
 |3,_=>()
 |4,_=>()
 |5,_=>()
 |6,_=>()
 |7,_=>()
 |8,_=>()
 |9,_=>()
 |10,_=>()
 |11,_=>()
 |12,_=>()
 |13,_=>()
 |14,_=>()
 |15,_=>()
 |16,.a0 x=>.inl x
 |16,.a1 x=>.inr (.inl x)
 |16,.a2 x=>.inr (.inr (.inl x))
 |16,.a3 x=>.inr (.inr (.inr (.inl x)))
 |16,.none=>.inr (.inr (.inr (.inr (()))))
 |17,_=>()
 |18,_=>()
 |19,_=>()
 |20,_=>()
 |21,_=>()
 |22,_=>()
 |23,_=>()
 |24,_=>()
 |25,_=>()
 |26,_=>()
 |27,_=>()
 |28,_=>()
 |29,.a0 x=>.inl x
 |29,.a1 x=>.inr (.inl x)
 |29,.a2 x=>.inr (.inr (.inl x))
 |29,.none=>.inr (.inr (.inr (())))
 |30,.a0 x=>.inl x
 |30,.none=>.inr (())
 |_+31,_=>()
def agH:(n:Nat)->wh Nb (IE n)->Nb n
 |0,_=>aN
 |1,_=>aP
 |2,_=>bx
 |3,_=>kT
 |4,_=>az
 |5,_=>aV
 |6,_=>aU
 |7,_=>gF
 |8,_=>bF
 |9,_=>aH
 |10,_=>jb
 |11,_=>BX
 |12,_=>E9
 |13,_=>It
 |14,_=>BY
 |15,_=>Fa
 |16,.inl x=>(cg.a0 x)
 |16,.inr (.inl x)=>(cg.a1 x)
 |16,.inr (.inr (.inl x))=>(cg.a2 x)
 |16,.inr (.inr (.inr (.inl x)))=>(cg.a3 x)
 |16,.inr (.inr (.inr (.inr (_))))=>cg.none
 |17,_=>mq
 |18,_=>gZ
 |19,_=>kS
 |20,_=>pX
 |21,_=>dL
 |22,_=>jD
 |23,_=>zC
 |24,_=>o5
 |25,_=>dy
 |26,_=>o4
 |27,_=>zE
 |28,_=>Fb
 |29,.inl x=>(cN.a0 x)
 |29,.inr (.inl x)=>(cN.a1 x)
 |29,.inr (.inr (.inl x))=>(cN.a2 x)
 |29,.inr (.inr (.inr (_)))=>cN.none
 |30,.inl x=>(Any.a0 x)
 |30,.inr (_)=>Any.none
 |_+31,_=>()
def Wg:(n:Nat)->Nb n->O (TypeId×D)
 |16,x=>Mv x
 |29,x=>H9 x
 |30,x=>agJ x
 |_,_=>Y
def sg:Sg:=⟨Nb,fields,dflt,aag,VM,Xe,IE,dj,agH,Wg,.cR 30⟩
def uw:(n:Nat)->(h:lI Nb (fields n))->aag n (VM n h)=h
 |0,(x0,x1,x2,x3,())=>rfl
 |1,(x0,x1,x2,x3,())=>rfl
 |2,(x0,x1,())=>rfl
 |3,(x0,x1,x2,x3,())=>rfl
 |4,(x0,x1,())=>rfl
 |5,(x0,x1,x2,())=>rfl
 |6,(x0,x1,x2,x3,())=>rfl
 |7,(x0,x1,())=>rfl
 |8,(x0,x1,x2,x3,x4,())=>rfl
 |9,(x0,x1,x2,x3,x4,())=>rfl
 |10,(x0,x1,x2,x3,x4,x5,x6,x7,x8,x9,x10,())=>rfl
 |11,(x0,x1,x2,x3,x4,x5,x6,x7,x8,())=>rfl
 |12,()=>rfl
 |13,(x0,x1,x2,x3,x4,())=>rfl
 |14,(x0,())=>rfl
 |15,()=>rfl
 |16,(x0,())=>rfl
 |17,(x0,x1,x2,x3,())=>rfl
 |18,(x0,x1,())=>rfl
 |19,(x0,x1,())=>rfl
 |20,(x0,x1,x2,x3,x4,())=>rfl
 |21,(x0,x1,x2,x3,x4,x5,x6,x7,x8,x9,x10,x11,x12,x13,x14,())=>rfl
 |22,(x0,x1,x2,())=>rfl
 |23,(x0,x1,x2,x3,())=>rfl
 |24,(x0,x1,x2,())=>rfl
 |25,(x0,x1,x2,x3,())=>rfl
 |26,(x0,x1,x2,())=>rfl
 |27,()=>rfl
 |28,()=>rfl
 |29,(x0,())=>rfl
 |30,(x0,())=>rfl
 |_+31,()=>rfl
def VH:(n:Nat)->(x:Nb n)->VM n (aag n x)=x
 |0,⟨x0,x1,x2,x3⟩=>rfl
 |1,⟨x0,x1,x2,x3⟩=>rfl
 |2,⟨x0,x1⟩=>rfl
 |3,⟨x0,x1,x2,x3⟩=>rfl
 |4,⟨x0,x1⟩=>rfl
 |5,⟨x0,x1,x2⟩=>rfl
 |6,⟨x0,x1,x2,x3⟩=>rfl
 |7,⟨x0,x1⟩=>rfl
 |8,⟨x0,x1,x2,x3,x4⟩=>rfl
 |9,⟨x0,x1,x2,⟨x3,x4⟩⟩=>rfl
 |10,⟨⟨x0,x1,x2,x3,x4⟩,x5,⟨x6,x7,x8,⟨x9,x10⟩⟩⟩=>rfl
 |11,⟨⟨x0,x1,x2,x3⟩,⟨x4,x5,x6,x7,x8⟩⟩=>rfl
 |12,.mk=>rfl
 |13,⟨⟨x0,x1,x2,⟨x3,x4⟩⟩⟩=>rfl
 |14,⟨x0⟩=>rfl
 |15,.mk=>rfl
 |16,_=>rfl
 |17,⟨x0,x1,x2,x3⟩=>rfl
 |18,⟨x0,x1⟩=>rfl
 |19,⟨x0,x1⟩=>rfl
 |20,⟨x0,x1,x2,x3,x4⟩=>rfl
 |21,⟨x0,x1,⟨x2,x3,x4,x5⟩,⟨x6,x7,x8,x9⟩,⟨x10,x11,x12,x13,x14⟩⟩=>rfl
 |22,⟨x0,x1,x2⟩=>rfl
 |23,⟨⟨x0,x1,x2,x3⟩⟩=>rfl
 |24,⟨x0,x1,x2⟩=>rfl
 |25,⟨x0,x1,x2,x3⟩=>rfl
 |26,⟨x0,x1,x2⟩=>rfl
 |27,.mk=>rfl
 |28,.mk=>rfl
 |29,_=>rfl
 |30,_=>rfl
 |_+31,()=>rfl
def Xd:(n:Nat)->(x:Nb n)->Xe n x=gD sg (fields n) (aag n x)
 |0,.mk x0 x1 x2 x3=>by show uI _=_;simp only[uI,ku];rfl
 |1,x=>by show mA x=_;simp only[mA,ku];rfl
 |2,_=>rfl
 |3,_=>rfl
 |4,_=>rfl
 |5,_=>rfl
 |6,_=>rfl
 |7,_=>rfl
 |8,_=>rfl
 |9,_=>rfl
 |10,_=>rfl
 |11,_=>rfl
 |12,_=>rfl
 |13,_=>rfl
 |14,_=>rfl
 |15,_=>rfl
 |16,_=>rfl
 |17,.mk x0 x1 x2 x3=>by show rB _=_;simp only[rB,lN];rfl
 |18,x=>by show p7 x=_;simp only[p7,lN];rfl
 |19,_=>rfl
 |20,.mk x0 x1 x2 x3 x4=>by show Ng _=_;simp only[Ng,xR,ku];rfl
 |21,x=>by show pZ x=_;simp only[pZ,xR,ku,lN];rfl
 |22,_=>rfl
 |23,_=>rfl
 |24,_=>rfl
 |25,_=>rfl
 |26,_=>rfl
 |27,_=>rfl
 |28,_=>rfl
 |29,_=>rfl
 |30,_=>rfl
 |_+31,()=>rfl
def Zv:(n:Nat)->∀t∈fields n,jr t=J
 |0=>λt h=>cU (l:=fields 0) rfl t h
 |1=>λt h=>cU (l:=fields 1) rfl t h
 |2=>λt h=>cU (l:=fields 2) rfl t h
 |3=>λt h=>cU (l:=fields 3) rfl t h
 |4=>λt h=>cU (l:=fields 4) rfl t h
 |5=>λt h=>cU (l:=fields 5) rfl t h
 |6=>λt h=>cU (l:=fields 6) rfl t h
 |7=>λt h=>cU (l:=fields 7) rfl t h
 |8=>λt h=>cU (l:=fields 8) rfl t h
 |9=>λt h=>cU (l:=fields 9) rfl t h
 |10=>λt h=>cU (l:=fields 10) rfl t h
 |11=>λt h=>cU (l:=fields 11) rfl t h
 |12=>λt h=>cU (l:=fields 12) rfl t h
 |13=>λt h=>cU (l:=fields 13) rfl t h
 |14=>λt h=>cU (l:=fields 14) rfl t h
 |15=>λt h=>cU (l:=fields 15) rfl t h
 |16=>λt h=>cU (l:=fields 16) rfl t h
 |17=>λt h=>cU (l:=fields 17) rfl t h
 |18=>λt h=>cU (l:=fields 18) rfl t h
 |19=>λt h=>cU (l:=fields 19) rfl t h
 |20=>λt h=>cU (l:=fields 20) rfl t h
 |21=>λt h=>cU (l:=fields 21) rfl t h
 |22=>λt h=>cU (l:=fields 22) rfl t h
 |23=>λt h=>cU (l:=fields 23) rfl t h
 |24=>λt h=>cU (l:=fields 24) rfl t h
 |25=>λt h=>cU (l:=fields 25) rfl t h
 |26=>λt h=>cU (l:=fields 26) rfl t h
 |27=>λt h=>cU (l:=fields 27) rfl t h
 |28=>λt h=>cU (l:=fields 28) rfl t h
 |29=>λt h=>cU (l:=fields 29) rfl t h
 |30=>λt h=>cU (l:=fields 30) rfl t h
 |_+31=>λ_ h=>by cases h
def CT:(n:Nat)->(h:wh Nb (IE n))->dj n (agH n h)=h
 |0,()=>rfl
 |1,()=>rfl
 |2,()=>rfl
 |3,()=>rfl
 |4,()=>rfl
 |5,()=>rfl
 |6,()=>rfl
 |7,()=>rfl
 |8,()=>rfl
 |9,()=>rfl
 |10,()=>rfl
 |11,()=>rfl
 |12,()=>rfl
 |13,()=>rfl
 |14,()=>rfl
 |15,()=>rfl
 |16,.inl x=>rfl
 |16,.inr (.inl x)=>rfl
 |16,.inr (.inr (.inl x))=>rfl
 |16,.inr (.inr (.inr (.inl x)))=>rfl
 |16,.inr (.inr (.inr (.inr (()))))=>rfl
 |17,()=>rfl
 |18,()=>rfl
 |19,()=>rfl
 |20,()=>rfl
 |21,()=>rfl
 |22,()=>rfl
 |23,()=>rfl
 |24,()=>rfl
 |25,()=>rfl
 |26,()=>rfl
 |27,()=>rfl
 |28,()=>rfl
 |29,.inl x=>rfl
 |29,.inr (.inl x)=>rfl
 |29,.inr (.inr (.inl x))=>rfl
 |29,.inr (.inr (.inr (())))=>rfl
 |30,.inl x=>rfl
 |30,.inr (())=>rfl
 |_+31,()=>rfl
def Wf:(n:Nat)->(x:Nb n)->Wg n x=sB sg (IE n) (dj n x)
 |0,_=>rfl
 |1,_=>rfl
 |2,_=>rfl
 |3,_=>rfl
 |4,_=>rfl
 |5,_=>rfl
 |6,_=>rfl
 |7,_=>rfl
 |8,_=>rfl
 |9,_=>rfl
 |10,_=>rfl
 |11,_=>rfl
 |12,_=>rfl
 |13,_=>rfl
 |14,_=>rfl
 |15,_=>rfl
 |16,x=>by cases x<;>rfl
 |17,_=>rfl
 |18,_=>rfl
 |19,_=>rfl
 |20,_=>rfl
 |21,_=>rfl
 |22,_=>rfl
 |23,_=>rfl
 |24,_=>rfl
 |25,_=>rfl
 |26,_=>rfl
 |27,_=>rfl
 |28,_=>rfl
 |29,x=>by cases x<;>rfl
 |30,x=>by cases x<;>rfl
 |_+31,()=>rfl
def aaK:(n:Nat)->Nq (IE n)=W
 |0=>rfl
 |1=>rfl
 |2=>rfl
 |3=>rfl
 |4=>rfl
 |5=>rfl
 |6=>rfl
 |7=>rfl
 |8=>rfl
 |9=>rfl
 |10=>rfl
 |11=>rfl
 |12=>rfl
 |13=>rfl
 |14=>rfl
 |15=>rfl
 |16=>rfl
 |17=>rfl
 |18=>rfl
 |19=>rfl
 |20=>rfl
 |21=>rfl
 |22=>rfl
 |23=>rfl
 |24=>rfl
 |25=>rfl
 |26=>rfl
 |27=>rfl
 |28=>rfl
 |29=>rfl
 |30=>rfl
 |_+31=>rfl
def Hr:fB sg:=⟨uw,VH,Xd,Zv,CT,Wf,aaK⟩
noncomputable def N5:Tr (TI):=(n0 (cI (n1 ⟨1,J,[aT],[],.leaf (.int .i64)⟩ (n1 ⟨4,W,[aT,aT,.lit (.bool J),.lit (.int .u8 0)],[.int .i64,.int .i64,.bool,.int .u8],pM⟩ (n1 ⟨1,J,[kD],[],.ptr⟩ (n1 ⟨5,W,[.sl [],.sl [],.sl [],.sl [],aT],[],QF⟩ (cI (cI bS e0) (cI bS e0)) (n1 ⟨1,J,[.sl []],[],.slice 2 W 16 [aT,aT]⟩ (n1 ⟨1,J,[.lit (.map Y)],[],.other⟩ bS e0) bS)) (cI (cI (cI (bu ⟨1,J,[.lit .nilIface],[],.iface⟩) e0) bS) (cI (n1 ⟨1,W,[aT],[.int .i64],UJ⟩ bS e0) bS))) (n1 ⟨1,J,[.sl []],[],.slice 1 J 8 [aT]⟩ (cI (cI (cI bS e0) (cI bS e0)) (n1 ⟨9,W,[.sl [],.sl [],aT,.sl [],.sl [],.sl [],.sl [],.sl [],aT],[],.struct [(0,4,W),(4,5,W)]⟩ (cI bS e0) bS)) (n1 ⟨2,W,[aT,aT],[.int .i64,.int .i64],wB⟩ (n1 ⟨1,J,[aT],[],.leaf (.int .i64)⟩ (cI bS e0) (n1 ⟨5,W,[aT,aT,dx,.sl [],.sl []],[],QF⟩ bS e0)) (cI (cI bS e0) e0)))) (n0 (n0 (cI (cI (cI bS e0) (cI bS e0)) (n1 ⟨4,W,[aT,aT,.sl [],.sl []],[],pM⟩ (cI bS e0) bS)) (n1 ⟨2,W,[aT,aT],[.int .i64,.int .i64],wB⟩ (n1 ⟨1,J,[.sl []],[],.slice 4 W 56 [aT,aT,dx,.sl []]⟩ (n1 ⟨4,W,[.sl [],.sl [],aT,.sl []],[],.struct [(0,4,W)]⟩ bS e0) (n1 ⟨4,W,[aT,aT,dx,.sl []],[],pM⟩ bS e0)) (cI (n1 ⟨11,W,[kD,aT,.sl [],aT,.sl [],.sl [],aT,aT,.sl [],.sl [],.sl []],[],.struct [(0,1,J),(1,1,J),(2,1,J),(3,3,W),(6,4,W),(10,1,J)]⟩ bS e0) bS))) (cI (n1 ⟨1,J,[.sl []],[],.slice 5 W 40 [aT,aT,aT,aT,aT]⟩ (n1 ⟨11,W,[.sl [],.sl [],.sl [],.sl [],aT,aT,aT,aT,aT,aT,aT],[],.struct [(0,5,W),(5,1,J),(6,5,W)]⟩ (n1 ⟨1,J,[.sl []],[],.slice 15 W 224 [dx,dx,aT,aT,dx,.sl [],aT,aT,dx,.sl [],aT,aT,dx,.sl [],.sl []]⟩ bS e0) (cI bS e0)) (cI (cI bS e0) bS)) (cI (cI (cI bS e0) bS) (cI (cI bS e0) bS))))) (n1 ⟨1,J,[.lit (.int .u8 0)],[],.leaf (.int .u8)⟩ (n1 ⟨1,J,[dx],[],.leaf .str⟩ (n1 ⟨1,J,[kD],[],.ptr⟩ (n1 ⟨1,J,[aT],[],.leaf (.int .i64)⟩ (cI (cI (bu ⟨2,W,[dx,.sl []],[],wB⟩) e0) (cI bS e0)) (n1 ⟨3,W,[aT,.sl [],.sl []],[],Bs⟩ (cI bS e0) bS)) (n1 ⟨1,J,[aT],[],.leaf (.int .i64)⟩ (n1 ⟨2,W,[dx,aT],[.str,.int .i64],wB⟩ (cI bS e0) (n1 ⟨1,J,[aT],[],.leaf (.int .i64)⟩ (bu ⟨0,W,[],[],.struct [(0,0,W)]⟩) e0)) (cI (n1 ⟨1,J,[kD],[],.ptr⟩ bS e0) bS))) (n1 ⟨4,W,[.sl [],.sl [],aT,.sl []],[],pM⟩ (cI (cI (cI (bu ⟨2,W,[dx,.sl []],[],wB⟩) e0) (n1 ⟨1,J,[kD],[],.ptr⟩ bS e0)) (n0 (n1 ⟨0,W,[],[],.struct []⟩ (bu ⟨1,J,[aT],[],.leaf (.int .i64)⟩) e0) bS)) (cI (n1 ⟨4,W,[aT,aT,dx,.sl []],[],pM⟩ (n1 ⟨1,J,[.sl []],[],.slice 1 J 16 [dx]⟩ (bu ⟨1,J,[.lit (.map Y)],[],.other⟩) e0) (bu ⟨15,W,[dx,dx,aT,aT,dx,.sl [],aT,aT,dx,.sl [],aT,aT,dx,.sl [],.sl []],[],.struct [(0,1,J),(1,1,J),(2,4,W),(6,4,W),(10,5,W)]⟩)) (cI (cI bS e0) (bu ⟨3,W,[.sl [],aT,.lit (.bool J)],[],Bs⟩))))) (n0 (n1 ⟨1,J,[.lit (.int .i32 0)],[],.leaf (.int .i32)⟩ (cI (cI (cI bS e0) (n0 bS e0)) (n1 ⟨1,J,[kD],[],.ptr⟩ (cI bS e0) bS)) (n1 ⟨5,W,[aT,aT,aT,aT,aT],[.int .i64,.int .i64,.int .i64,.int .i64,.int .i64],.struct [(0,1,J),(1,1,J),(2,1,J),(3,2,W)]⟩ (n1 ⟨4,W,[aT,aT,.sl [],.sl []],[],pM⟩ (cI bS e0) (bu ⟨1,J,[.sl []],[],.slice 5 W 80 [aT,aT,dx,.sl [],.sl []]⟩)) (cI (bu ⟨0,W,[],[],.struct []⟩) bS))) (n1 ⟨1,J,[.sl []],[],.slice 4 W 64 [aT,aT,.sl [],.sl []]⟩ (cI (cI (n1 ⟨3,W,[dx,.sl [],.sl []],[],Bs⟩ bS e0) (n1 ⟨3,W,[.sl [],.sl [],.sl []],[],Bs⟩ bS e0)) (cI (n1 ⟨5,W,[aT,aT,aT,aT,aT],[.int .i64,.int .i64,.int .i64,.int .i64,.int .i64],.struct [(0,5,W)]⟩ bS e0) bS)) (cI (n1 ⟨1,J,[aT],[],.leaf (.int .i64)⟩ (cI bS e0) bS) (n1 ⟨1,J,[.lit .nilIface],[],.iface⟩ (cI bS e0) (bu ⟨4,W,[aT,dx,aT,aT],[.int .i64,.str,.int .i64,.int .i64],pM⟩))))))) (n1 ⟨1,J,[aT],[],.leaf (.int .i64)⟩ (n1 ⟨1,J,[.lit (.bool J)],[],.leaf .bool⟩ (n0 (n1 ⟨1,J,[kD],[],.ptr⟩ (n1 ⟨5,W,[.sl [],.sl [],.sl [],.sl [],aT],[],QF⟩ (n0 (cI (bu ⟨1,J,[.sl []],[],.slice 2 W 40 [dx,.sl []]⟩) e0) (cI bS e0)) (n1 ⟨3,W,[aT,.sl [],.sl []],[],Bs⟩ (cI bS e0) bS)) (n1 ⟨1,J,[aT],[],.leaf (.int .i64)⟩ (cI (n0 (bu ⟨1,J,[.lit .nilIface],[],.iface⟩) e0) (cI (bu ⟨0,W,[],[],.array 0 1 J⟩) e0)) (cI (n0 bS e0) e0))) (n1 ⟨1,J,[.sl []],[],.slice 2 W 24 [dx,aT]⟩ (cI (n0 (cI (bu ⟨2,W,[dx,.sl []],[],wB⟩) e0) (cI bS e0)) (n1 ⟨9,W,[.sl [],.sl [],aT,.sl [],.sl [],.sl [],.sl [],.sl [],aT],[],.struct [(0,4,W),(4,5,W)]⟩ (cI bS e0) bS)) (cI (n1 ⟨4,W,[aT,aT,dx,.sl []],[],pM⟩ (cI bS e0) (n1 ⟨15,W,[dx,dx,aT,aT,dx,.sl [],aT,aT,dx,.sl [],aT,aT,dx,.sl [],.sl []],[],.struct [(0,1,J),(1,1,J),(2,4,W),(6,4,W),(10,5,W)]⟩ (bu ⟨1,J,[kD],[],.ptr⟩) e0)) (cI (cI (bu ⟨1,J,[kD],[],.ptr⟩) e0) bS)))) (n1 ⟨1,J,[.lit (.int .u64 0)],[],.leaf (.int .u64)⟩ (n1 ⟨1,J,[.lit .nilIface],[],.iface⟩ (cI (cI (cI bS e0) (n1 ⟨1,J,[kD],[],.ptr⟩ bS e0)) (n1 ⟨4,W,[aT,aT,.sl [],.sl []],[],pM⟩ (cI bS e0) bS)) (n1 ⟨5,W,[aT,aT,aT,aT,aT],[.int .i64,.int .i64,.int .i64,.int .i64,.int .i64],.struct [(0,1,J),(1,1,J),(2,1,J),(3,2,W)]⟩ (n1 ⟨4,W,[aT,aT,.sl [],.sl []],[],pM⟩ (cI bS e0) (n1 ⟨4,W,[aT,aT,dx,.sl []],[],pM⟩ (bu ⟨1,J,[.lit (.int .u32 0)],[],.leaf (.int .u32)⟩) e0)) (n0 (cI bS e0) e0))) (cI (n0 (n1 ⟨11,W,[.sl [],.sl [],.sl [],.sl [],aT,aT,aT,aT,aT,aT,aT],[],.struct [(0,5,W),(5,1,J),(6,5,W)]⟩ (n1 ⟨3,W,[dx,.sl [],.sl []],[],Bs⟩ bS e0) (n1 ⟨3,W,[.sl [],.sl [],.sl []],[],Bs⟩ bS e0)) (cI (n1 ⟨5,W,[aT,aT,aT,aT,aT],[.int .i64,.int .i64,.int .i64,.int .i64,.int .i64],.struct [(0,5,W)]⟩ bS e0) bS)) (cI (cI (cI bS e0) bS) (cI (cI bS e0) (bu ⟨1,J,[aT],[],.leaf (.int .i64)⟩)))))) (n0 (n0 (n1 ⟨1,W,[kD],[],UJ⟩ (n0 (n0 (cI (bu ⟨2,W,[dx,.sl []],[],wB⟩) e0) (cI bS e0)) (n1 ⟨1,J,[.sl []],[],.slice 3 W 56 [aT,.sl [],.sl []]⟩ (cI bS e0) bS)) (n1 ⟨2,W,[aT,aT],[.int .i64,.int .i64],wB⟩ (n1 ⟨2,W,[dx,aT],[.str,.int .i64],wB⟩ (n1 ⟨4,W,[.sl [],.sl [],aT,.sl []],[],.struct [(0,4,W)]⟩ (bu ⟨0,W,[],[],.struct []⟩) e0) (bu ⟨1,J,[.sl []],[],.slice 4 W 56 [aT,aT,dx,.sl []]⟩)) (n0 (n1 ⟨11,W,[kD,aT,.sl [],aT,.sl [],.sl [],aT,aT,.sl [],.sl [],.sl []],[],.struct [(0,1,J),(1,1,J),(2,1,J),(3,3,W),(6,4,W),(10,1,J)]⟩ bS e0) e0))) (n1 ⟨4,W,[.sl [],.sl [],aT,.sl []],[],pM⟩ (cI (cI (n1 ⟨1,J,[.sl []],[],.slice 2 W 40 [dx,.sl []]⟩ bS e0) bS) (cI (n1 ⟨0,W,[],[],.struct []⟩ (bu ⟨0,W,[],[],.struct []⟩) e0) bS)) (cI (cI (cI bS e0) bS) (cI (cI bS e0) (bu ⟨3,W,[.sl [],aT,.lit (.bool J)],[],Bs⟩))))) (n0 (n1 ⟨1,J,[.sl []],[],.slice 4 W 64 [aT,aT,.sl [],.sl []]⟩ (n0 (n0 (cI bS e0) (cI bS e0)) (cI (cI bS e0) bS)) (n1 ⟨2,W,[aT,aT],[.int .i64,.int .i64],wB⟩ (cI (cI bS e0) (bu ⟨5,W,[aT,aT,dx,.sl [],.sl []],[],QF⟩)) (cI (cI bS e0) (bu ⟨1,J,[.sl []],[],.slice 4 W 40 [aT,dx,aT,aT]⟩)))) (n1 ⟨1,J,[.sl []],[],.slice 2 W 16 [aT,aT]⟩ (cI (n0 (n0 (bu ⟨1,J,[.lit (.map Y)],[],.other⟩) e0) (cI (bu ⟨4,W,[kD,kD,kD,dx],[],pM⟩) e0)) (n1 ⟨1,J,[.sl []],[],.slice 1 J 1 [.lit (.bool J)]⟩ (n1 ⟨1,W,[aT],[.int .i64],UJ⟩ bS e0) (bu ⟨29,W,[eX,eX,eX,eX,eX,eX,eX,eX,eX,eX,eX,eX,eX,eX,eX,eX,eX,eX,eX,eX,eX,eX,eX,eX,eX,eX,eX,eX,eX],[],.array 29 1 J⟩))) (n0 (cI bS bS) (n1 ⟨1,J,[.lit .nilIface],[],.iface⟩ (cI bS e0) (bu ⟨4,W,[aT,dx,aT,aT],[.int .i64,.str,.int .i64,.int .i64],pM⟩))))))))
noncomputable def Si:Tr (Ty):=(n0 (n0 (n1 (.int .i64) (n0 (n0 (n0 e0 (bu (.sl (.st 4)))) (n0 e0 (n0 (bu (.st 14)) e0))) (n1 (.sl (.int .i64)) e0 (n1 (.st 7) (n1 (.int .i64) e0 (bu (.st 20))) e0))) (n0 (n0 e0 (n1 (.st 4) (n1 (.sl (.st 0)) (bu (.st 23)) e0) e0)) (n0 (n1 (.sl (.st 9)) (n0 (bu (.sl (.st 21))) e0) e0) e0))) (n1 (.int .u8) (n1 (.str) (n0 (n1 (.int .i64) e0 (bu (.st 5))) (n1 (.int .i64) (n0 e0 (bu (.int .i64))) e0)) (n0 (n0 (n0 (n0 (bu (.st 18)) e0) e0) (n0 (n0 (bu (.int .i64)) e0) e0)) (n0 (n1 (.st 0) (bu (.sl (.str))) (bu (.st 21))) e0))) (n0 (n1 (.int .i32) e0 (n1 (.st 9) (n1 (.st 1) e0 (bu (.sl (.st 20)))) (n0 (bu (.st 15)) e0))) (n1 (.sl (.st 6)) (n0 (n0 (bu (.st 22)) (bu (.st 24))) (n0 (bu (.st 13)) e0)) (n0 (bu (.int .i64)) e0))))) (n1 (.int .i64) (n1 (.bool) (n0 (n0 (n1 (.st 8) (n0 (n0 (bu (.sl (.st 18))) e0) e0) e0) (n1 (.int .i64) (n0 (n0 (bu (.cR 29)) e0) e0) e0)) (n1 (.sl (.st 2)) (n0 e0 (bu (.st 11))) e0)) (n1 (.int .u64) (n1 (.cR 30) (n0 e0 (bu (.st 6))) (n0 (n0 e0 (n1 (.st 17) (bu (.int .u32)) e0)) e0)) (n0 (n0 (bu (.st 10)) e0) (n0 e0 (n0 e0 (bu (.int .i64))))))) (n0 (n0 (n0 (n0 (n0 (n0 (bu (.st 19)) e0) e0) (bu (.sl (.st 5)))) (n0 (n1 (.st 2) (n0 (bu (.st 27)) e0) (bu (.sl (.st 17)))) e0)) (n1 (.st 3) (n0 (n0 (bu (.sl (.st 19))) e0) (n0 (n1 (.st 12) (bu (.st 28)) e0) e0)) (n0 e0 (n0 e0 (bu (.st 26)))))) (n0 (n1 (.sl (.st 1)) e0 (n0 e0 (n0 e0 (bu (.sl (.st 25)))))) (n1 (.sl (.st 7)) (n0 e0 (bu (.sl (.bool)))) (n0 e0 (n1 (.cR 16) e0 (bu (.st 25)))))))))
noncomputable def Yw:Tr (MT):=(n0 (n0 (n0 (n0 (n0 (n0 e0 (n0 (bu ⟨.int .i64,Z (.int .i64),3⟩) e0)) e0) e0) e0) (n0 (n0 e0 (n0 e0 (n0 (n0 (n0 (bu ⟨.int .i64,Z (.bool),4⟩) e0) e0) e0))) e0)) (n0 e0 (n0 e0 (n0 e0 (n0 (n0 (n0 (n0 (bu ⟨.str,Z (.bool),4⟩) e0) e0) e0) e0)))))
noncomputable def ug:Tr (L (String×FuncId)):=(n0 (n0 (n0 (n0 (n1 [("Error",328),("RuntimeError",329)] e0 (n0 e0 (n0 (n1 [("hearth/mean.event",114)] e0 e0) e0))) e0) (n1 [("Error",324),("RuntimeError",325)] (n1 [("Error",333),("RuntimeError",334)] e0 (n0 (n0 (n1 [("hearth/bind.formed",87),("hearth/bind.node",153),("hearth/bind.number",204),("hearth/bind.pat",203)] e0 e0) e0) e0)) e0)) (n0 (n0 (n1 [("Align",332)] e0 e0) (n0 (n0 (n0 e0 (n1 [("hearth/hearthref05.known",143),("hearth/hearthref05.knownPat",191),("hearth/hearthref05.pattern",194),("hearth/hearthref05.put",145)] e0 e0)) (n0 (n0 (n1 [("hearth/bind.fine",339)] e0 e0) e0) e0)) e0)) (n0 (n0 (n0 e0 (n1 [("hearth/mean.copied",51),("hearth/mean.finish",111),("hearth/mean.frame",266),("hearth/mean.frames",212),("hearth/mean.next",110),("hearth/mean.object",163),("hearth/mean.open",267),("hearth/mean.ordered",60),("hearth/mean.ready",68),("hearth/mean.settle",50),("hearth/mean.step",70),("hearth/mean.task",213),("hearth/mean.tasks",164),("hearth/mean.turn",59),("hearth/mean.value",211),("hearth/mean.world",99)] e0 e0)) (n0 e0 (n0 (n1 [("hearth/mean.event",337)] e0 e0) e0))) (n0 (n0 e0 (n0 (n1 [("hearth/mean.event",336)] e0 e0) e0)) e0)))) (n0 (n0 (n1 [("Error",320),("RuntimeError",321)] (n1 [("Error",330),("RuntimeError",331)] e0 e0) e0) (n0 (n0 (n0 (n0 e0 (n1 [("hearth/hearthref02.applied",312),("hearth/hearthref02.atom",313),("hearth/hearthref02.begins",314),("hearth/hearthref02.call",317),("hearth/hearthref02.cases",316),("hearth/hearthref02.data",183),("hearth/hearthref02.function",184),("hearth/hearthref02.has",182),("hearth/hearthref02.is",246),("hearth/hearthref02.kind",248),("hearth/hearthref02.module",136),("hearth/hearthref02.of",306),("hearth/hearthref02.pat",319),("hearth/hearthref02.product",307),("hearth/hearthref02.sees",247),("hearth/hearthref02.simple",286),("hearth/hearthref02.sum",288),("hearth/hearthref02.take",181),("hearth/hearthref02.term",249),("hearth/hearthref02.terms",315),("hearth/hearthref02.under",287),("hearth/hearthref02.want",180),("hearth/hearthref02.whole",137)] e0 e0)) e0) e0) e0)) (n0 (n1 [("Error",322),("RuntimeError",323)] (n0 e0 (n0 (n0 (n0 (n1 [("hearth/bind.fine",338)] e0 e0) e0) e0) e0)) (n0 (n0 e0 (n0 (n1 [("hearth/mean.event",335)] (n1 [("hearth/bind.fine",340)] e0 e0) e0) e0)) e0)) (n1 [("Error",326),("RuntimeError",327)] (n0 e0 (n0 (n0 e0 (n0 (n1 [("String",341)] e0 e0) e0)) e0)) e0))))
noncomputable def ru:Tr (Func):=(n1 f0 (n1 f1 (n1 f3 (n1 f7 (n1 f15 (n1 f31 (n1 f63 (n1 f127 (bu f255) e0) (n1 f191 (bu f319) e0)) (n1 f95 (n1 f159 (bu f287) e0) (bu f223))) (n1 f47 (n1 f79 (n1 f143 (bu f271) e0) (n1 f207 (bu f335) e0)) (n1 f111 (n1 f175 (bu f303) e0) (bu f239)))) (n1 f23 (n1 f39 (n1 f71 (n1 f135 (bu f263) e0) (n1 f199 (bu f327) e0)) (n1 f103 (n1 f167 (bu f295) e0) (bu f231))) (n1 f55 (n1 f87 (n1 f151 (bu f279) e0) (bu f215)) (n1 f119 (n1 f183 (bu f311) e0) (bu f247))))) (n1 f11 (n1 f19 (n1 f35 (n1 f67 (n1 f131 (bu f259) e0) (n1 f195 (bu f323) e0)) (n1 f99 (n1 f163 (bu f291) e0) (bu f227))) (n1 f51 (n1 f83 (n1 f147 (bu f275) e0) (n1 f211 (bu f339) e0)) (n1 f115 (n1 f179 (bu f307) e0) (bu f243)))) (n1 f27 (n1 f43 (n1 f75 (n1 f139 (bu f267) e0) (n1 f203 (bu f331) e0)) (n1 f107 (n1 f171 (bu f299) e0) (bu f235))) (n1 f59 (n1 f91 (n1 f155 (bu f283) e0) (bu f219)) (n1 f123 (n1 f187 (bu f315) e0) (bu f251)))))) (n1 f5 (n1 f9 (n1 f17 (n1 f33 (n1 f65 (n1 f129 (bu f257) e0) (n1 f193 (bu f321) e0)) (n1 f97 (n1 f161 (bu f289) e0) (bu f225))) (n1 f49 (n1 f81 (n1 f145 (bu f273) e0) (n1 f209 (bu f337) e0)) (n1 f113 (n1 f177 (bu f305) e0) (bu f241)))) (n1 f25 (n1 f41 (n1 f73 (n1 f137 (bu f265) e0) (n1 f201 (bu f329) e0)) (n1 f105 (n1 f169 (bu f297) e0) (bu f233))) (n1 f57 (n1 f89 (n1 f153 (bu f281) e0) (bu f217)) (n1 f121 (n1 f185 (bu f313) e0) (bu f249))))) (n1 f13 (n1 f21 (n1 f37 (n1 f69 (n1 f133 (bu f261) e0) (n1 f197 (bu f325) e0)) (n1 f101 (n1 f165 (bu f293) e0) (bu f229))) (n1 f53 (n1 f85 (n1 f149 (bu f277) e0) (n1 f213 (bu f341) e0)) (n1 f117 (n1 f181 (bu f309) e0) (bu f245)))) (n1 f29 (n1 f45 (n1 f77 (n1 f141 (bu f269) e0) (n1 f205 (bu f333) e0)) (n1 f109 (n1 f173 (bu f301) e0) (bu f237))) (n1 f61 (n1 f93 (n1 f157 (bu f285) e0) (bu f221)) (n1 f125 (n1 f189 (bu f317) e0) (bu f253))))))) (n1 f2 (n1 f4 (n1 f8 (n1 f16 (n1 f32 (n1 f64 (n1 f128 (bu f256) e0) (n1 f192 (bu f320) e0)) (n1 f96 (n1 f160 (bu f288) e0) (bu f224))) (n1 f48 (n1 f80 (n1 f144 (bu f272) e0) (n1 f208 (bu f336) e0)) (n1 f112 (n1 f176 (bu f304) e0) (bu f240)))) (n1 f24 (n1 f40 (n1 f72 (n1 f136 (bu f264) e0) (n1 f200 (bu f328) e0)) (n1 f104 (n1 f168 (bu f296) e0) (bu f232))) (n1 f56 (n1 f88 (n1 f152 (bu f280) e0) (bu f216)) (n1 f120 (n1 f184 (bu f312) e0) (bu f248))))) (n1 f12 (n1 f20 (n1 f36 (n1 f68 (n1 f132 (bu f260) e0) (n1 f196 (bu f324) e0)) (n1 f100 (n1 f164 (bu f292) e0) (bu f228))) (n1 f52 (n1 f84 (n1 f148 (bu f276) e0) (n1 f212 (bu f340) e0)) (n1 f116 (n1 f180 (bu f308) e0) (bu f244)))) (n1 f28 (n1 f44 (n1 f76 (n1 f140 (bu f268) e0) (n1 f204 (bu f332) e0)) (n1 f108 (n1 f172 (bu f300) e0) (bu f236))) (n1 f60 (n1 f92 (n1 f156 (bu f284) e0) (bu f220)) (n1 f124 (n1 f188 (bu f316) e0) (bu f252)))))) (n1 f6 (n1 f10 (n1 f18 (n1 f34 (n1 f66 (n1 f130 (bu f258) e0) (n1 f194 (bu f322) e0)) (n1 f98 (n1 f162 (bu f290) e0) (bu f226))) (n1 f50 (n1 f82 (n1 f146 (bu f274) e0) (n1 f210 (bu f338) e0)) (n1 f114 (n1 f178 (bu f306) e0) (bu f242)))) (n1 f26 (n1 f42 (n1 f74 (n1 f138 (bu f266) e0) (n1 f202 (bu f330) e0)) (n1 f106 (n1 f170 (bu f298) e0) (bu f234))) (n1 f58 (n1 f90 (n1 f154 (bu f282) e0) (bu f218)) (n1 f122 (n1 f186 (bu f314) e0) (bu f250))))) (n1 f14 (n1 f22 (n1 f38 (n1 f70 (n1 f134 (bu f262) e0) (n1 f198 (bu f326) e0)) (n1 f102 (n1 f166 (bu f294) e0) (bu f230))) (n1 f54 (n1 f86 (n1 f150 (bu f278) e0) (bu f214)) (n1 f118 (n1 f182 (bu f310) e0) (bu f246)))) (n1 f30 (n1 f46 (n1 f78 (n1 f142 (bu f270) e0) (n1 f206 (bu f334) e0)) (n1 f110 (n1 f174 (bu f302) e0) (bu f238))) (n1 f62 (n1 f94 (n1 f158 (bu f286) e0) (bu f222)) (n1 f126 (n1 f190 (bu f318) e0) (bu f254))))))))
noncomputable def prog:Program:=Go.Proofs.Tryz.prog
noncomputable def Pa:gH:=mkE prog N5 Si Yw ug ru λn=>bif Nat.beq n 1 then Z 2 else Y
end
def h1:N5.mapKey (λk _=>YL prog (MH prog) k)=N5.mapKey λ_ i=>Z i:=by kernel_rfl
def h2:ru.mapKey (λk _=>prog.funcs[k]?)=ru.mapKey λ_ f=>Z f:=by kernel_rfl
def h3:Si.mapKey (λk τ=>(N5.get k).map (Jd sg τ))=Si.mapKey λk τ=>(N5.get k).map (Jc sg τ):=by kernel_rfl
def h4:ru.mapKey (λ_ f=>f.name== "runtime.NumGoroutine")=ru.mapKey λ_ _=>J:=by kernel_rfl
def h5:Yw.mapKey (λk m=>mtB Pa k m)=Yw.mapKey λ_ _=>W:=by kernel_rfl
def h6:ug.mapKey (λk l=>l.all (Rc prog k))=ug.mapKey λ_ _=>W:=by kernel_rfl
def abI(GI:FuncId->O (kC sg))(sh:FuncId->Nat->O LSh)(b:∀f c,GI f=Z c->bz prog f c)(a:Bool):eP (⟨Pa,GI,sh,a⟩:gl sg):=
 WO Hr h1 h2 h3 h4 h5 h6 GI sh b a
def Yt(l:L (Nat×Nat×LSh))(f b:Nat):O LSh:=match l with
 |[]=>Y
 |p::l=>bif Nat.beq p.1 f&&Nat.beq p.2.1 b then Z p.2.2 else Yt l f b
def mixed:prog.follows .mixedOrders=W:=by kernel_rfl
def S2(l:L (FuncId×kC sg))(hl:OkL prog l)(sh:FuncId->Nat->O LSh)(a:Bool)(n d:Nat)(f:FuncId)(ps:L Pk)(e:L Ck)(b:((ru.get f).bind (·.body)).isSome=W)
  {F:fZ sg.A ps->O (RT a (gA sg.A e×iJ sg.A ps) (den sg.A sg.pt×iJ sg.A ps))} (h:(λx=>EW (⟨Pa,Sp l,sh,a⟩:gl sg) n d f ps e x)=F):bz prog f (⟨ps,e,a,F⟩:kC sg):=by
 cases h1:ru.get f with
 |none=>rw[h1]at b;cases b
 |some fn=>
  rw[h1]at b;cases h2:fn.body with
  |none=>rw[show(Z fn:O Func).bind (·.body)=fn.body from rfl,h2]at b;cases b
  |some c=>have:=abM (E:=(⟨Pa,Sp l,sh,a⟩:gl sg)) (abI (Sp l) sh (QC hl) a) mixed (f:=f) (fn:=fn) (c:=c) h1 h2 n d ps e;rw[<-h];exact this
structure OC where
 f:FuncId
 c:kC sg
 h:bz prog f c
def N7(l:L OC)(f:FuncId):O (kC sg):=match l with
 |[]=>Y
 |k::l=>bif Nat.beq k.f f then Z k.c else N7 l f
def QB:∀{l:L OC}(f:FuncId)(c:kC sg),N7 l f=Z c->bz prog f c
 |[],_,_,h=>by cases h
 |k::l,f,c,h=>by
  unfold N7 at h;cases a:Nat.beq k.f f with
  |true=>
   rw[a]at h;have e:k.f=f:=nN a;injection h with h
   rw[<-h,<-e];exact k.h
  |false=>rw[a]at h;exact QB f c h
def ct(l:L OC)(sh:L (Nat×Nat×LSh)){a:Bool}(n d:Nat)(f:FuncId){ps:L Pk}{b:L Ck}
  {F:fZ sg.A ps->O (RT a (gA sg.A b×iJ sg.A ps) (den sg.A sg.pt×iJ sg.A ps))} (h:(((ru.get f).bind (·.body)).isSome,λx=>EW (⟨Pa,N7 l,Yt sh,a⟩:gl sg) n d f ps b x)=(W,F):=by kernel_rfl):bz prog f (⟨ps,b,a,F⟩:kC sg):=by
 have e:((ru.get f).bind (·.body)).isSome=W:=lS Prod.fst h;have h:(λx=>EW (⟨Pa,N7 l,Yt sh,a⟩:gl sg) n d f ps b x)=F:=lS Prod.snd h;cases h1:ru.get f with
 |none=>rw[h1]at e;cases e
 |some fn=>
  rw[h1]at e;cases h2:fn.body with
  |none=>rw[show(Z fn:O Func).bind (·.body)=fn.body from rfl,h2]at e;cases e
  |some c=>have:=abM (E:=(⟨Pa,N7 l,Yt sh,a⟩:gl sg)) (abI (N7 l) (Yt sh) QB a) mixed (f:=f) (fn:=fn) (c:=c) h1 h2 n d ps b;rw[<-h];exact this
def enters(f:FuncId)(a:((ru.get f).bind (·.body)).isSome=W):mD prog f:=
 (S2 [] trivial (λ_ _=>Y) J 0 0 f [] [] a rfl).1
abbrev ahY:Ck:=.dat (.sl (.st 25))
abbrev Kc:Ck:=.dat (.sl (.st 7))
abbrev Xk:Ck:=.dat (.sl (.st 6))
abbrev wu:Ck:=.dat (.sl (.st 5))
abbrev sJ:Ck:=.dat (.sl (.st 4))
abbrev b8y:Ck:=.dat (.sl (.st 2))
abbrev b7y:Ck:=.dat (.sl (.st 1))
abbrev b6y:Ck:=.dat (.sl (.st 0))
abbrev Cz:Ck:=.dat (.sl (.int .i64))
abbrev YE:Ck:=.dat (.bool)
abbrev lQ:Ck:=.dat (.int .i64)
abbrev cZ:Pk:=.one (YE)
abbrev de:Pk:=.one (lQ)
abbrev aef:Pk:=.box (.cells [.own (.int .i64)])
abbrev ah0:Pk:=.box (.cells [.dat (.str),.own (.st 17)])
abbrev ah1:Pk:=.box (.cells [.dat (.str),.own (.st 19),.own (.st 21)])
abbrev wq:Pk:=.box (.cells [ahY,lQ,YE])
abbrev TY:Pk:=.box (.cells [.dat (.sl (.str)),b8y,.jw 1 2 (.int .i64)])
abbrev aeh:Pk:=.box (.cells [lQ,lQ,.dat (.str),.own (.st 0)])
abbrev ah2:Pk:=.box (.cells [.nil (.st 1),.nil (.int .i64),lQ,.nil (.st 2)])
abbrev aaI:Pk:=.box (.cells [lQ,.dat (.str),lQ,lQ])
abbrev aaJ:Pk:=.box (.cells [lQ,lQ,.nil (.int .i64),.own (.st 0)])
abbrev ah3:Pk:=.box (.cells [lQ,lQ,sJ,.own (.st 5)])
abbrev ah4:Pk:=.box (.cells [lQ,lQ,sJ,wu])
abbrev b7z:Pk:=.box (.cells [lQ,lQ,.dat (.str),.dat (.sl (.st 20)),b6y])
abbrev b6z:Pk:=.box (.cells [.own (.st 6),.own (.int .i64),Kc,Cz,lQ])
abbrev b4z:Pk:=.box (.cells [Xk,Cz,Kc,Cz,lQ])
abbrev Ut:Pk:=.hid (.cells [b7y,Cz,lQ,b8y,Xk,Cz,Kc,Cz,lQ])
abbrev b2z:Pk:=.box (.cells [b7y,Cz,lQ,b8y,Xk,Cz,Kc,Cz,lQ])
abbrev Uu:Pk:=.box (.link [] [lQ,wu,lQ,sJ,sJ,lQ,lQ,Cz,b6y,sJ])
abbrev b0z:Pk:=.box (.cells [Xk,Cz,Kc,Cz,lQ,lQ,lQ,lQ,lQ,lQ,lQ])
abbrev P1:L Pk:=[.one (.dat (.st 0)),de]
abbrev K2:L Ck:=[lQ]
abbrev P3:L Pk:=[.one (.dat (.st 0))]
abbrev K4:L Ck:=[YE]
abbrev P5:L Pk:=[.one (.dat (.st 3))]
abbrev P6:L Pk:=[de,de,de]
abbrev P7:L Pk:=[.one (.dat (.str))]
abbrev P8:L Pk:=[.one (.dat (.st 2))]
abbrev P9:L Pk:=[.one (.dat (.sl (.str)))]
abbrev K10:L Ck:=[.dat (.str)]
abbrev P11:L Pk:=[de]
abbrev K12:L Ck:=[.dat (.cR 29)]
abbrev P13:L Pk:=[.one (.dat (.st 23)),.one (.dat (.st 0))]
abbrev P14:L Pk:=[.one (.dat (.st 23)),.one (.dat (.st 1))]
abbrev P15:L Pk:=[.one (.dat (.st 23))]
abbrev P16:L Pk:=[.one (Cz)]
abbrev K17:L Ck:=[.dat (.st 4)]
abbrev K18:L Ck:=[.own (.int .i64)]
abbrev P19:L Pk:=[.one (.dat (.cR 16))]
abbrev P20:L Pk:=[.one (Xk)]
abbrev K21:L Ck:=[.own (.st 6)]
abbrev P22:L Pk:=[.one (.dat (.st 4))]
abbrev P23:L Pk:=[.one (.dat (.st 14))]
abbrev K24:L Ck:=[.dat (.st 9)]
abbrev P25:L Pk:=[cZ,de]
abbrev P26:L Pk:=[Uu,Ut,.one (wu)]
abbrev P27:L Pk:=[.one (.dat (.st 1))]
abbrev P28:L Pk:=[Uu,Ut,de,.one (sJ)]
abbrev K29:L Ck:=[.dat (.cR 16)]
abbrev P30:L Pk:=[Uu,Ut,.one (.dat (.st 4))]
abbrev P31:L Pk:=[cZ]
abbrev CC:L Pk:=[Uu,Ut]
abbrev P33:L Pk:=[Uu,Ut,.one (.dat (.st 6))]
abbrev P34:L Pk:=[.one (sJ),.one (sJ)]
abbrev K35:L Ck:=[sJ]
abbrev P36:L Pk:=[Uu,Ut,.one (.dat (.st 4)),de]
abbrev K37:L Ck:=[.dat (.st 6),YE]
abbrev P38:L Pk:=[Uu,Ut,.one (.dat (.st 4)),.one (.dat (.st 4))]
abbrev K39:L Ck:=[.dat (.st 5),YE]
abbrev K40:L Ck:=[.dat (.st 6)]
abbrev K41:L Ck:=[lQ,lQ]
abbrev P42:L Pk:=[Uu,Ut,.one (.dat (.st 0)),.one (.dat (.st 4)),.box (.cells [.own (.st 4)])]
abbrev P43:L Pk:=[Uu,Ut,de,.one (.dat (.st 6))]
abbrev P44:L Pk:=[.one (wu)]
abbrev K45:L Ck:=[.own (.st 5)]
abbrev P46:L Pk:=[b2z,de]
abbrev K47:L Ck:=[lQ,YE]
abbrev P48:L Pk:=[.one (Kc)]
abbrev K49:L Ck:=[.own (.st 7)]
abbrev P50:L Pk:=[.one (sJ)]
abbrev K51:L Ck:=[.own (.st 4)]
abbrev P52:L Pk:=[b2z]
abbrev K53:L Ck:=[.dat (.st 8)]
abbrev P54:L Pk:=[.one (.dat (.st 3)),.one (Cz)]
abbrev K55:L Ck:=[.dat (.st 8),lQ]
abbrev P56:L Pk:=[.one (.ptr (.st 11)),.one (.dat (.st 4))]
abbrev P57:L Pk:=[.one (.ptr (.st 11)),.one (.dat (.st 5))]
abbrev P58:L Pk:=[.one (.ptr (.st 11)),.one (wu),de]
abbrev P59:L Pk:=[.one (.ptr (.st 11)),.one (.dat (.st 6))]
abbrev P60:L Pk:=[.one (.ptr (.st 11))]
abbrev P61:L Pk:=[.one (.dat (.st 7))]
abbrev P62:L Pk:=[.one (.ptr (.st 11)),de]
abbrev K63:L Ck:=[Cz]
abbrev K64:L Ck:=[.dat (.st 9),lQ,lQ]
abbrev P65:L Pk:=[.one (.dat (.st 3)),.one (.dat (.st 8)),.one (Cz)]
abbrev K66:L Ck:=[.dat (.st 8),.dat (.sl (.st 9)),lQ]
abbrev P67:L Pk:=[.one (.dat (.st 3)),.one (.dat (.st 8))]
abbrev P68:L Pk:=[.one (.dat (.st 3)),.one (.dat (.st 8)),de]
abbrev K69:L Ck:=[.dat (.st 8),.dat (.st 9),lQ,lQ]
abbrev P70:L Pk:=[.one (.dat (.str)),de]
abbrev P71:L Pk:=[.one (.dat (.sl (.str))),.one (.dat (.str))]
abbrev K72:L Ck:=[.dat (.sl (.str))]
abbrev P73:L Pk:=[.one (.dat (.int .u8))]
abbrev P74:L Pk:=[.one (.dat (.str)),de,cZ]
abbrev K75:L Ck:=[.dat (.st 25)]
abbrev K76:L Ck:=[ahY,lQ]
abbrev P77:L Pk:=[.one (.ptr (.st 26)),.one (.dat (.str))]
abbrev P78:L Pk:=[wq,.one (.dat (.str))]
abbrev P79:L Pk:=[.one (.ptr (.st 26)),de]
abbrev NB:L Pk:=[wq,de]
abbrev kL:L Pk:=[wq]
abbrev K82:L Ck:=[.dat (.st 17)]
abbrev K83:L Ck:=[.dat (.st 19)]
abbrev P84:L Pk:=[de,.one (.dat (.st 20)),.one (.dat (.st 20))]
abbrev K85:L Ck:=[.dat (.st 20)]
abbrev K86:L Ck:=[.dat (.st 0)]
abbrev P87:L Pk:=[.one (.ptr (.st 26))]
abbrev K88:L Ck:=[.dat (.sl (.st 20))]
abbrev K89:L Ck:=[.dat (.st 21)]
abbrev K90:L Ck:=[.dat (.st 22)]
abbrev P91:L Pk:=[.one (.dat (.st 17)),de]
abbrev P92:L Pk:=[.one (.dat (.st 17)),cZ]
abbrev P93:L Pk:=[.one (.dat (.st 17))]
abbrev P94:L Pk:=[.one (.dat (.st 19))]
abbrev P95:L Pk:=[.one (.dat (.st 20)),de,de]
abbrev P96:L Pk:=[.one (.dat (.st 20)),cZ,cZ,cZ]
abbrev P97:L Pk:=[.one (.dat (.st 20))]
abbrev P98:L Pk:=[.one (.dat (.st 22))]
abbrev K99:L Ck:=[.dat (.st 22),lQ]
abbrev K100:L Ck:=[b8y]
abbrev aiO:L Pk:=[.one (b8y)]
abbrev apr:L Pk:=[.one (b8y),.one (.dat (.str))]
abbrev Ui:L Pk:=[.one (.ptr (.st 24)),.one (.dat (.st 0))]
abbrev apq:L Pk:=[.one (.dat (.sl (.str))),.one (.dat (.sl (.str)))]
abbrev apo:L Pk:=[.one (.dat (.st 20)),de]
abbrev Uh:L Pk:=[.one (.ptr (.st 24)),.one (.dat (.st 20)),.one (.dat (.sl (.str)))]
abbrev Ug:L Pk:=[TY,.one (.dat (.st 0))]
abbrev Uf:L Pk:=[TY,.one (.dat (.st 20)),.one (.dat (.sl (.str)))]
abbrev K109:L Ck:=[.dat (.st 3),lQ]
abbrev K110:L Ck:=[.dat (.st 3)]
abbrev Ue:L Pk:=[.one (.dat (.st 0)),.one (b8y)]
abbrev apn:L Pk:=[.one (.dat (.st 3)),.one (.dat (.st 1))]
abbrev aiN:L Pk:=[.one (Cz),de]
abbrev apm:L Pk:=[.one (Cz),.one (Cz)]
abbrev apl:L Pk:=[.one (Kc),.one (Kc)]
abbrev apk:L Pk:=[.one (.dat (.st 6)),.one (.dat (.st 6))]
abbrev apj:L Pk:=[.one (.dat (.st 8)),.one (.dat (.st 8))]
abbrev aeM:L Pk:=[.one (.dat (.st 8))]
abbrev api:L Pk:=[.one (sJ),.one (.dat (.st 4))]
abbrev aeL:L Pk:=[.one (.dat (.st 8)),de,.one (wu),de,.one (sJ)]
abbrev K121:L Ck:=[.dat (.st 10)]
abbrev aph:L Pk:=[.one (.dat (.st 8)),.one (.dat (.st 4)),de]
abbrev apg:L Pk:=[.one (.dat (.st 3)),.one (.dat (.st 8)),.one (.dat (.st 4)),.one (.dat (.st 4))]
abbrev apf:L Pk:=[.one (.dat (.st 3)),.one (.dat (.st 8)),de,.one (wu),.one (.dat (.st 4)),.one (.dat (.st 4))]
abbrev ape:L Pk:=[.one (.dat (.st 8)),de,.one (wu),de,.one (.dat (.st 4)),.one (.dat (.st 4))]
abbrev Ud:L Pk:=[.one (.dat (.st 8)),.one (.dat (.st 0)),.one (.dat (.st 4))]
abbrev K127:L Ck:=[sJ,YE]
abbrev apd:L Pk:=[.one (.dat (.st 8)),de,.one (wu),.one (.dat (.st 1)),.one (sJ),.one (.dat (.st 4))]
abbrev apc:L Pk:=[.one (.dat (.st 3)),.one (.dat (.st 8)),de,.one (wu),de,.one (sJ)]
abbrev apb:L Pk:=[.one (.dat (.st 10)),de,de,de,.one (.dat (.st 4))]
abbrev apa:L Pk:=[.one (.dat (.st 3)),.one (.dat (.st 8)),de,.one (wu),.one (.dat (.st 4))]
abbrev ao9:L Pk:=[.one (.dat (.st 8)),de,.one (wu),.one (.dat (.st 4))]
abbrev ao8:L Pk:=[.one (.dat (.st 8)),de,.one (wu),.one (.dat (.st 1)),.one (sJ)]
abbrev ao7:L Pk:=[.one (.dat (.st 3)),.one (.dat (.st 8)),de,.one (wu),.one (.dat (.st 5))]
abbrev K135:L Ck:=[.dat (.st 8),lQ,YE]
abbrev K136:L Ck:=[.dat (.st 8),YE]
abbrev ao6:L Pk:=[.one (.dat (.st 3)),.one (.dat (.st 8)),.one (.dat (.st 4))]
abbrev ao5:L Pk:=[.one (.dat (.st 3)),.one (.dat (.st 8)),.one (sJ),de]
abbrev ao4:L Pk:=[.one (.dat (.st 3)),.one (.dat (.st 8)),.one (wu)]
abbrev ao3:L Pk:=[.one (.dat (.st 3)),.one (wu),de]
abbrev aiM:L Pk:=[.one (.dat (.st 3)),.one (.dat (.st 8)),.one (.dat (.st 6))]
abbrev ao2:L Pk:=[de,de]
abbrev ao1:L Pk:=[.one (.dat (.sl (.st 9))),.one (.dat (.sl (.st 9)))]
abbrev P144:L Pk:=[.one (.own (.int .i64)),de]
abbrev P145:L Pk:=[.one (.own (.int .i64)),.one (sJ)]
abbrev P146:L Pk:=[.one (sJ),.one (Cz)]
abbrev K147:L Ck:=[.dat (.st 8),lQ,lQ]
abbrev ao0:L Pk:=[.one (.dat (.st 3)),.one (.dat (.st 8)),.one (Cz),.one (Cz)]
abbrev K149:L Ck:=[Cz,lQ]
abbrev K150:L Ck:=[.dat (.st 8),.dat (.st 9),lQ]
abbrev P151:L Pk:=[.one (.dat (.st 5)),.one (.dat (.st 5))]
abbrev P152:L Pk:=[.one (.dat (.st 3)),.one (.dat (.st 8)),.one (.dat (.st 8))]
abbrev K153:L Ck:=[YE,lQ]
abbrev aoZ:L Pk:=[.one (.dat (.st 12))]
abbrev aoY:L Pk:=[.one (.dat (.st 13))]
abbrev aoX:L Pk:=[.one (.dat (.st 15))]
abbrev aoW:L Pk:=[.one (.dat (.st 27)),.one (.dat (.st 23)),.one (.dat (.st 1))]
abbrev aoV:L Pk:=[de,.one (.dat (.st 23)),.one (.dat (.st 1))]
abbrev aoU:L Pk:=[.one (.dat (.st 28)),.one (.dat (.st 23)),.one (.dat (.st 1))]
abbrev Fn(ps:L Pk)(rs:L Ck)(pn:Bool):Type:=fZ sg.A ps->O (RT pn (gA sg.A rs×iJ sg.A ps) (den sg.A sg.pt×iJ sg.A ps))
abbrev Y1:=U×Int×L au×Int×L aq×L aq×Int×Int×L Int×L aC×L aq×U
abbrev Y2:=L bp×L Int×Int×L cB×L aE×L Int×L cS×L Int×Int×U
abbrev Y3:=(cg×U)×Y1×Y2×U
abbrev Y4:=Any×Y1×Y2×U
abbrev Y5:=Nat->Y1×Y2×U->O (Rx Y3 Y4)
abbrev Y6:=LO (Int×Bool×U) (cg×U) U Any
abbrev Y7:=L fj×Int×Bool×U
abbrev Y8:=(aC×U)×Y7×U
abbrev Y9:=Int×Int×L UInt8×L aC×U
abbrev fc:=(Bool×U)×U
abbrev Y11:=Nat->aC×U->O fc
abbrev Y12:=dG×aC×U
abbrev KP:=LO (Bool×Bool×U) (Bool×U) U Any
abbrev PI:=LO (Bool×U) (Int×U) U Any
abbrev Gn:=O ((Int×U)×U)
abbrev Y16:=Nat->bp×U->Gn
abbrev Y17:=ax×aa×U
abbrev Y18:=(L Int×U)×U
abbrev Xs:=L Int×Int×U
abbrev Y20:=Rx (U×U) (Any×U)
abbrev Y21:=Nat->Y17->O fc
abbrev Y22:=L au×U
abbrev zT:=L (L UInt8)×L cB×L bp×U
abbrev Y24:=Int×zT×Y9×U
abbrev Y25:=(aC×U)×zT×U
abbrev Y26:=zT×aC×U
abbrev T5:=(aq×U)×U
abbrev Y28:=Nat->Y1×Y2×U->O Y3
abbrev Y29:=ax×L Int×U
abbrev Y30:=(aa×Int×U)×U
abbrev Xr:=ax×aa×Int×U
abbrev IF:=(aB×U)×U
abbrev Y33:=Nat->L UInt8×U->O fc
abbrev Y34:=aE×Bool×U
abbrev Y35:=L aA×L aA×U
abbrev Y36:=Nat->Int×U->O fc
abbrev Y37:=Nat->(aC×U->O fc)->aC×U->O fc
abbrev Y38:=O ((aa×U)×U)
abbrev Y39:=(aA×U)×U
abbrev tS:=Int×L (Int×Int)×(L Int×U)×U
abbrev Y41:=O (LO (Int×U) U U Any)
abbrev Y42:=L (Int×Int)×(L Int×U)×U
abbrev wY:=L aE×L Int×L cS×L Int×Int×U
abbrev Y44:=(L aq×U)×U
abbrev N1:=L aq×Int×U
abbrev Y46:=O (LO N1 (L aq×U) U Any)
abbrev Ab:=Int×Int×L aq×L au×U
abbrev Uv:=O (LO (Int×Ab×U) U (Ab×U) Any)
abbrev Y49:=O (LO (Int×wY×U) U (wY×U) Any)
abbrev Y50:=(aa×U)×Y2×U
abbrev Y51:=Nat->Y2×U->O Y50
abbrev Y52:=aC×L cB×U
abbrev Y53:=LO (Bool×Int×U) (Bool×U) U Any
abbrev FH:=LO (Bool×U) (Bool×U) U Any
abbrev Y55:=Y1×Y2×aq×aq×U
abbrev Y56:=au×Bool×U
abbrev Y57:=Term×Int×Int×U
abbrev Y58:=Nat->ax×aa×aE×U->O fc
abbrev Y59:=Nat->U->O T5
abbrev Y60:=L fj×Int×U
abbrev Y61:=Nat->L UInt8×U->O (Y60×U)
abbrev Y62:=Nat->aq×U->O T5
abbrev Y63:=au×au×U
abbrev Y64:=L UInt8×Int×U
abbrev Y65:=Int×L UInt8×Int×Int×U
abbrev Y66:=O ((fj×U)×U)
abbrev Y67:=LO (Bool×Y65×U) U (Y65×U) Any
abbrev Y68:=Int×Int×Int×U
abbrev Y69:=Nat->Y68->O fc
abbrev Y70:=LO (Int×Bool×Bool×U) (Bool×U) U Any
abbrev Y71:=Int×Int×wY×wY×U
abbrev Y72:=L aE×L Int×L cS×L Int×Int×Int×Int×Int×Int×Int×Int×U
abbrev Y73:=(aa×Int×Bool×U)×U
abbrev Y74:=Bool×Int×wY×U
abbrev Y75:=(aa×aA×Int×Int×U)×U
abbrev Y76:=ax×aa×L Int×U
abbrev Y77:=Nat->Y76->O fc
abbrev Y78:=cq×aE×U
abbrev Y79:=Nat->Y78->O fc
abbrev Y80:=(aa×L aA×Int×U)×U
abbrev Y81:=L cS×Int×Int×U
abbrev Y82:=(L UInt8×Nat)×U
abbrev Y83:=Nat->ax×U->O fc
abbrev T4:=L (L UInt8)×U
abbrev Y85:=Nat->U->O (T4×U)
abbrev Y86:=Nat->Term×U->O fc
abbrev Xq:=aa×Int×L au×Int×L aq×U
abbrev Y88:=Nat->Xq->O IF
abbrev Y89:=Nat->bG×U->O fc
abbrev Y90:=Nat->aa×U->O fc
abbrev Y91:=(Bool×Int×U)×U
abbrev Y92:=ax×aa×aa×U
abbrev Y93:=aC×Int×U
abbrev Y94:=Nat->(Y93->Gn)->Y93->Gn
abbrev Y95:=(ck×U)×Y7×U
abbrev Y96:=Y7×U->O Y95
abbrev Y97:=cW×aC×U
abbrev Y98:=O (Rx ((Int×Int×U)×Y1×Y2×U) Y4)
abbrev Y99:=L aq×L aq×U
abbrev PJ:=Y1×Y2×aC×aq×(L aq×U)×U
abbrev T9:=O ((Bool×U)×Y1×Y2×(L aq×U)×U)
abbrev aiJ:=Y34×Y1×Y2×U
abbrev aiI:=Int×Y1×Y2×(L aq×U)×U
abbrev tO:=(Term×U)×Y7×U
abbrev tN:=Y7×U->O tO
abbrev aeG:=O ((L Term×U)×Y7×U)
abbrev aeF:=Y7×Int×U->aeG
abbrev qw:=Int×Int×L UInt8×L Term×L aC×U
abbrev aiH:=Bool×Y7×qw×U
abbrev aiG:=Nat->Y76->O Y80
abbrev aiF:=L aA×Int×U
abbrev aeE:=(aq×U)×Y1×Y2×U
abbrev T8:=LO (Int×U) (Int×U) U Any
abbrev aiE:=Y7×L UInt8×U
abbrev aeD:=(Bool×U)×Y7×U
abbrev aiD:=L UInt8×L ic×U
abbrev aeC:=L UInt8×L ck×U
abbrev aiC:=Bool×Y7×aeC×U
abbrev aiB:=Nat->Xs->O fc
abbrev aeB:=Term×Bool×Bool×Bool×U
abbrev Kg:=LO (Bool×U) (cN×U) U Any
abbrev T7:=L (L UInt8)×Int×U
abbrev T6:=aa×Int×L au×bp×L aq×U
abbrev aiA:=ck×Bool×U
abbrev aiz:=Nat->Xr->O Y75
abbrev Xz:=(Term×U)×U
abbrev aaW:=LO (Int×Bool×U) U U Any
abbrev aaV:=Nat->tN->Y7×U->O tO
abbrev aaU:=aa×aC×aq×U
abbrev aiy:=L aq×Bool×U
abbrev aaT:=O (aiy×U)
abbrev aix:=Y1×Y2×aq×Int×U
abbrev Kf:=L bp×L Int×Int×L cB×U
abbrev aiw:=Term×L (L UInt8)×U
abbrev aeA:=Int×Kf×zT×U
abbrev aaS:=L cB×Int×U
abbrev aaR:=ax×aa×Int×L au×Int×L aq×U
abbrev aiv:=L (L UInt8)×L UInt8×U
abbrev aez:=(Int×Bool×U)×Y2×U
abbrev aey:=O ((aA×Int×Int×U)×Y2×U)
abbrev aiu:=Nat->Bool×U->O T5
abbrev GX:=Y1×Y2×aE×U
abbrev ait:=Y7×Int×U->O Y95
abbrev aoL:=Nat->aa×aa×U->O fc
abbrev aex:=cW×bp×U
abbrev ais:=Nat->aex->O fc
abbrev Nz:=Int×Int×L Int×L aC×U
abbrev aew:=Int×zT×Nz×U
abbrev Ny:=zT×Term×L (L UInt8)×U
abbrev PG:=(Int×U)×zT×U
abbrev aev:=Int×U->O PG
abbrev aeu:=LO (Bool×Nz×U) (Int×U) (Nz×U) Any
abbrev aaQ:=O (U×Y7×U)
abbrev air:=(cF×U)×Y7×U
abbrev aet:=Nat->Int×U->O T5
abbrev aoK:=(Int×Int×U)×U
abbrev aaP:=Y7×(L UInt8×L jG×L cF×U)×U
abbrev aes:=ax×aa×Int×L au×aq×aq×U
abbrev aiq:=Int×Y1×Y2×U
abbrev aip:=dG×Term×L (L UInt8)×U
abbrev aoJ:=aE×aE×U
abbrev aoI:=Nat->aoJ->O fc
abbrev aio:=cq×au×U
abbrev ain:=Nat->aio->O fc
abbrev aim:=O ((ax×U)×U)
abbrev ail:=O ((L UInt8×U)×U)
abbrev aik:=L UInt8×Int×Bool×U
abbrev aij:=L aA×Int×wY×wY×U
abbrev Xy:=aa×Int×L au×Int×aq×aq×U
abbrev Xx:=U×Y1×Y2×U
abbrev Xw:=L Bool×Int×U
abbrev Nx:=LO (Bool×U) U U Any
abbrev Nw:=ax×aa×Int×L au×aq×U
abbrev aaO:=Bool×Y72×Ab×U
abbrev aii:=Nat->cq×U->O fc
abbrev Xv:=LO (Bool×Y7×U) (L Term×U) (Y7×U) Any
abbrev Xu:=L Term×Y7×U
abbrev aih:=Nat->T4->O fc
abbrev Xt:=(aa×aA×Int×U)×U
abbrev aif:=Nat->Xr->O fc
abbrev tM:=ax×aa×Int×L au×au×U
abbrev aie:=L (L UInt8×Bool)
abbrev aid:=ck×Int×U
abbrev aic:=Int×L (Int×Bool)×U
abbrev aer:=cq×L au×Int×U
abbrev aeq:=aa×Int×L au×aq×U
abbrev q83(F:Fn P1 K2 J):kC sg:=⟨P1,K2,J,F⟩
def B83:Y94:=
 λn f83 c=>aj (D.bO c.2.1 1) (Z (((-1),()),())) (ai (@iter (Int×Int×U) (Int×U) (U) (Any) (λd=>aj (D.bO d.2.1 (ak
 c.1.4)) (aj (D.ep 0 d.1) (aD (av d.2.1 c.1.4) (ai (f83 (aR c.1.4 (ah d.2.1) aN,d.1,())) λe=>Z (LO.next (e.1.1,D.add .i64
 d.2.1 1,())))) (Z (LO.out 0 d))) (Z (LO.out 0 d))) n (D.dH .i64 c.2.1 1,0,())) λd=>LO.el d (λ_ g=>Z ((g.1,()),())) (λ_ g
 =>Z (g,())) λ_ _=>Y)
def D83(n:Nat)(f83:Fn P1 K2 J)(a:bz prog 83 (q83 f83)):bz prog 83 (q83 (B83 n f83)):=ct [⟨83,q83 f83,a⟩] [(83,0,⟨[(1,de),(5,de)],[],[],0⟩)] n 10 83
def R83(n k:Nat):(Fn P1 K2 J):=Nat.rec (motive:=λ_=>(Fn P1 K2 J)) (λ_=>Y) (λ_ r=>B83 n r) k
def F83(n:Nat):Fn P1 K2 J:=(R83 n n)
def ai1(n:Nat):∀k,bz prog 83 (q83 (R83 n k))
 |0=>bZ (enters 83 (by kernel_rfl))
 |k+1=>have a:=ai1 n k
  D83 n _ a
def k83(n:Nat):OC:=⟨83,q83 (F83 n),(ai1 n n)⟩
abbrev q84(F:Fn P3 K4 J):kC sg:=⟨P3,K4,J,F⟩
def B84:Y37:=
 λn f84 c=>ai (@iter (Int×U) (Bool×U) (U) (Any) (λd=>aj (D.bO d.1 (ak c.1.4)) (aD (av d.1 c.1.4) (ai (f84 (aR c.1.4
 (ah d.1) aN,())) λe=>aj (D.aK e.1.1) (Z (LO.ret () (J,()))) (Z (LO.next (D.add .i64 d.1 1,()))))) (Z (LO.out 0 d))) n
 (0,())) λd=>LO.el d (λ_ _=>Z ((D.ep (ak c.1.3) 30,()),())) (λ_ g=>Z (g,())) λ_ _=>Y
def D84(n:Nat)(f84:Fn P3 K4 J)(a:bz prog 84 (q84 f84)):bz prog 84 (q84 (B84 n f84)):=ct [⟨84,q84 f84,a⟩] [(84,0,⟨[(3,de)],[],[],0⟩)] n 10 84
def R84(n k:Nat):(Fn P3 K4 J):=Nat.rec (motive:=λ_=>(Fn P3 K4 J)) (λ_=>Y) (λ_ r=>B84 n r) k
def F84(n:Nat):Fn P3 K4 J:=(R84 n n)
def ai0(n:Nat):∀k,bz prog 84 (q84 (R84 n k))
 |0=>bZ (enters 84 (by kernel_rfl))
 |k+1=>have a:=ai0 n k
  D84 n _ a
def k84(n:Nat):OC:=⟨84,q84 (F84 n),(ai0 n n)⟩
def F44:Y11:=
 λn b=>ai (F83 n (aC.mk b.1.1 b.1.2 b.1.3 b.1.4,16,())) λc=>aj (D.ep 0 c.1.1) (ai (F84 n (aC.mk b.1.1 b.1.2 b.1.3 b.1.4,()))
 λd=>Z d) (Z ((J,()),()))
def k44(n:Nat):OC:=⟨44,⟨P3,K4,J,F44 n⟩,ct [k83 n,k84 n] [] n 10 44⟩
def F12:Y83:=
 λn b=>aj (D.bO 320 (ak b.1.1)) (Z ((J,()),())) (aj (D.bO 320 (ak b.1.2)) (Z ((J,()),())) (aj (D.bO 25 (ak b.1.4))
 (Z ((J,()),())) (ai (@iter (Int×U) (Bool×U) (U) (Any) (λc=>aj (D.bO c.1 (ak b.1.4)) (aD (av c.1 b.1.4) (aj (D.bO
 40 (ak (aR b.1.4 (ah c.1) bx).1)) (Z (LO.ret () (J,()))) (Z (LO.next (D.add .i64 c.1 1,()))))) (Z (LO.out 0 c))) n (0,()))
 λc=>LO.el c (λ_ _=>ai (@iter (Int×U) (Bool×U) (U) (Any) (λg=>aj (D.bO g.1 (ak b.1.1)) (aD (av g.1 b.1.1) (aj
 (D.bO 10 (ak (aR b.1.1 (ah g.1) aP).3)) (Z (LO.ret () (J,()))) (aj (D.bO 10 (ak (aR b.1.1 (ah g.1) aP).4)) (Z
 (LO.ret () (J,()))) (ai (@iter (Int×U) (Bool×U) (U) (Any) (λh=>aj (D.bO h.1 (ak (aR b.1.1 (ah g.1) aP).4)) (aD
 (av h.1 (aR b.1.1 (ah g.1) aP).4) (ai (F44 n (aR (aR b.1.1 (ah g.1) aP).4 (ah h.1) aN,())) λi=>aj (D.aK i.1.1)
 (Z (LO.ret () (J,()))) (Z (LO.next (D.add .i64 h.1 1,()))))) (Z (LO.out 0 h))) n (0,())) λh=>LO.el h (λ_ _=>Z (LO.next
 (D.add .i64 g.1 1,()))) (λ_ j=>Z (LO.ret () j)) λ_ _=>Y)))) (Z (LO.out 0 g))) n (0,())) λg=>LO.el g (λ_ _=>Z ((W,
 ()),())) (λ_ i=>Z (i,())) λ_ _=>Y) (λ_ e=>Z (e,())) λ_ _=>Y)))
def k12(n:Nat):OC:=⟨12,⟨P5,K4,J,F12 n⟩,ct [k44 n] [(12,0,⟨[(3,de)],[],[],0⟩),(12,2,⟨[(4,de)],[],[],0⟩),(12,4,⟨[(6,de)],[],[],0⟩)] n 10 12⟩
def F146:Y69:=
 λn b=>aj (D.ep b.2.1 b.1) (Z ((D.ep b.1 b.2.2.1,()),())) (Z ((J,()),()))
def ON(n:Nat):OC:=⟨146,⟨P6,K4,J,F146 n⟩,ct [] [] n 10 146⟩
def Kv(n:Nat)(c:Y82):O (LO Y82 (Bool×U) Y82 Any):=
 Z (LO.ret ((c.1.1,aaM c.1.2 (Gp c.1.1 c.1.2)),()) (J,()))
def F257:Y33:=
 λn b=>ai (@iter (Y82) (Bool×U) (Y82) (Any) (λc=>aj (Oo c.1.2 c.1.1) (aj (D.bO (sY c.1.1 c.1.2) 97) (Kv n c) (aj (D.bO 122
 (sY c.1.1 c.1.2)) (Kv n c) (Z (LO.next ((c.1.1,aaM c.1.2 (Gp c.1.1 c.1.2)),()))))) (Z (LO.out 0 c))) n ((b.1,0),())) λc=>LO.el
 c (λ_ _=>Z ((W,()),())) (λ_ e=>Z (e,())) λ_ _=>Y
def akZ(n:Nat):OC:=⟨257,⟨P7,K4,J,F257 n⟩,ct [] [(257,0,⟨[(0,.box (.pH))],[.slot 6],[],0⟩)] n 10 257⟩
def F197:Y33:=
 λn b=>aj (D.aK (gn b.1 [])) (aj (D.ep (ak b.1) 8) (aD (av 0 b.1) (aj (D.ep 65 (lC b.1 0)) (aD (av 0 b.1) (aj (D.ep (lC b.1
 0) 90) (aD (eS 1 (ak b.1) (ak b.1)) (ai (F257 n (eo b.1 1 (ak b.1),())) λc=>Z c)) (Z ((J,()),())))) (Z ((J,()),
 ())))) (Z ((J,()),()))) (Z ((J,()),()))
def alE(n:Nat):OC:=⟨197,⟨P7,K4,J,F197 n⟩,ct [akZ n] [] n 10 197⟩
def F148:Nat->cB×U->O fc:=
 λn b=>ai (F197 n (b.1.1,())) λc=>aj c.1.1 (ai (F146 n (b.1.2,0,3,())) λd=>Z d) (Z ((J,()),()))
def alW(n:Nat):OC:=⟨148,⟨P8,K4,J,F148 n⟩,ct [ON n,alE n] [] n 10 148⟩
def F149:aih:=
 λn b=>ai (@iter (Int×aie×U) (Bool×U) (aie×U) (Any) (λc=>aj (D.bO c.1 (ak b.1)) (aD (av c.1 b.1) (Z (LO.next
 (D.add .i64 c.1 1,nu (A:=sg.A) Ty.str (aR b.1 (ah c.1) []) W c.2.1,())))) (Z (LO.out 0 c))) n (0,[],())) λc=>LO.el c (λ_ e=>
 Z ((D.aG (ak e.2.1) (ak b.1),()),())) (λ_ e=>Z (e,())) λ_ _=>Y
def alV(n:Nat):OC:=⟨149,⟨P9,K4,J,F149 n⟩,ct [] [(149,0,⟨[(9,de),(0,.box (.map (.str) (.bool)))],[.slot 6],[],0⟩)] n 10 149⟩
def F151:Nat->cB×U->ail:=
 λn b=>Z ((b.1.1,()),())
def alU(n:Nat):OC:=⟨151,⟨P8,K10,J,F151 n⟩,ct [] [] n 10 151⟩
def Be(n:Nat):Kg->O Kg:=
 λc=>LO.jn c (λd=>Z (LO.next d)) (λ_ _=>Y) (λ_ e=>Z (LO.ret () e)) λ_ _=>Y
def uY(n:Nat):Kg->O Kg:=
 λe=>LO.jn e (λg=>Z (LO.next g)) (λ_ _=>Y) (λ_ h=>Z (LO.ret () h)) λ_ _=>Y
def uX(n:Nat):Kg->O Kg:=
 λh=>LO.jn h (λi=>Z (LO.next i)) (λ_ _=>Y) (λ_ j=>Z (LO.ret () j)) λ_ _=>Y
def F200:Nat->Int×U->O ((cN×U)×U):=
 λn b=>ai (aj (D.aG b.1 1) (Z (LO.next (W,()))) (ai (aj (D.aG b.1 2) (Z (LO.next (W,()))) (ai (aj (D.aG b.1 3) (Z
 (LO.next (W,()))) (ai (aj (D.aG b.1 4) (Z (LO.next (W,()))) (ai (aj (D.aG b.1 21) (Z (LO.next (W,()))) (ai (aj (D.aG b.1 25)
 (Z (LO.next (W,()))) (Z (LO.next (D.aG b.1 28,())))) (Be n))) (Be n))) (Be n))) (Be n))) (Be n))) λ(c:Kg)=>
 LO.jn c (λd=>aj d.1 (Z ((cN.a1 0,()),())) (ai (aj (D.aG b.1 5) (Z (LO.next (W,()))) (ai (aj (D.aG b.1 27) (Z (LO.next
 (W,()))) (ai (aj (D.aG b.1 16) (Z (LO.next (W,()))) (ai (aj (D.aG b.1 17) (Z (LO.next (W,()))) (ai (aj (D.aG b.1 19) (Z
 (LO.next (W,()))) (ai (aj (D.aG b.1 20) (Z (LO.next (W,()))) (ai (aj (D.aG b.1 23) (Z (LO.next (W,()))) (ai (aj (D.aG b.1
 24) (Z (LO.next (W,()))) (Z (LO.next (D.aG b.1 26,())))) (uY n))) (uY n))) (uY n))) (uY n))) (uY n))) (uY n)))
 (uY n))) λ(e:Kg)=>LO.jn e (λg=>aj g.1 (Z ((cN.a1 1,()),())) (ai (aj (D.aG b.1 6) (Z (LO.next (W,()))) (ai (aj
 (D.aG b.1 7) (Z (LO.next (W,()))) (ai (aj (D.aG b.1 9) (Z (LO.next (W,()))) (ai (aj (D.aG b.1 10) (Z (LO.next (W,()))) (ai
 (aj (D.aG b.1 11) (Z (LO.next (W,()))) (ai (aj (D.aG b.1 12) (Z (LO.next (W,()))) (ai (aj (D.aG b.1 13) (Z (LO.next (W,
 ()))) (ai (aj (D.aG b.1 18) (Z (LO.next (W,()))) (Z (LO.next (D.aG b.1 22,())))) (uX n))) (uX n))) (uX n))) (uX n)))
 (uX n))) (uX n))) (uX n))) λ(h:Kg)=>LO.jn h (λi=>aj i.1 (Z ((cN.a1 2,()),())) (aj (D.aG b.1 8) (Z
 ((cN.a1 3,()),())) (aj (D.aG b.1 14) (Z ((cN.a2 mC.mk,()),())) (aj (D.aG b.1 15) (Z ((cN.a0 jI.mk,()),
 ())) (Z ((cN.none,()),())))))) (λ_ _=>Y) (λ_ j=>Z (j,())) λ_ _=>Y)) (λ_ _=>Y) (λ_ h=>Z (h,())) λ
 _ _=>Y)) (λ_ _=>Y) (λ_ e=>Z (e,())) λ_ _=>Y
def alD(n:Nat):OC:=⟨200,⟨P11,K12,J,F200 n⟩,ct [] [(200,1000003,⟨[(4,cZ)],[],[],0⟩),(200,1000004,⟨[(4,cZ)],[],[],0⟩),(200,1000005,⟨[(4,cZ)],[],[],0⟩),(200,1000006,⟨[(4,cZ)],[],[],0⟩),(200,1000007,⟨[(4,cZ)],[],[],0⟩),(200,1000008,⟨[(4,cZ)],[],[],0⟩),(200,1000011,⟨[(13,cZ)],[],[],0⟩),(200,1000012,⟨[(13,cZ)],[],[],0⟩),(200,1000013,⟨[(13,cZ)],[],[],0⟩),(200,1000014,⟨[(13,cZ)],[],[],0⟩),(200,1000015,⟨[(13,cZ)],[],[],0⟩),(200,1000016,⟨[(13,cZ)],[],[],0⟩),(200,1000017,⟨[(13,cZ)],[],[],0⟩),(200,1000018,⟨[(13,cZ)],[],[],0⟩),(200,1000021,⟨[(24,cZ)],[],[],0⟩),(200,1000022,⟨[(24,cZ)],[],[],0⟩),(200,1000023,⟨[(24,cZ)],[],[],0⟩),(200,1000024,⟨[(24,cZ)],[],[],0⟩),(200,1000025,⟨[(24,cZ)],[],[],0⟩),(200,1000026,⟨[(24,cZ)],[],[],0⟩),(200,1000027,⟨[(24,cZ)],[],[],0⟩),(200,1000028,⟨[(24,cZ)],[],[],0⟩)] n 10 200⟩
abbrev Ve(F:Fn P1 K2 J):kC sg:=⟨P1,K2,J,F⟩
def KN(c:Y93)(d:Int×Int×U):aC:=
 aR c.1.4 (ah d.2.1) aN
def B202:Y94:=
 λn f202 c=>ai (@iter (Int×Int×U) (Int×U) (U) (Any) (λd=>aj (D.bO d.2.1 (ak c.1.4)) (aD (av d.2.1 c.1.4) (aj (D.bO
 c.2.1 d.1) (Z (LO.out 0 d)) (ai (f202 (aC.mk (KN c d).1 (KN c d).2 (KN c d).3 (KN c d).4,D.dH .i64 c.2.1 d.1,())) λe=>
 Z (LO.next (D.add .i64 d.1 e.1.1,D.add .i64 d.2.1 1,()))))) (Z (LO.out 0 d))) n (1,0,())) λd=>LO.el d (λ_ g=>Z ((g.1,()),()))
 (λ_ g=>Z (g,())) λ_ _=>Y
def D202(n:Nat)(f202:Fn P1 K2 J)(a:bz prog 202 (Ve f202)):bz prog 202 (Ve (B202 n f202)):=ct [⟨202,Ve f202,a⟩] [(202,0,⟨[(5,de),(11,de)],[],[],0⟩)] n 10 202
def R202(n k:Nat):(Fn P1 K2 J):=Nat.rec (motive:=λ_=>(Fn P1 K2 J)) (λ_=>Y) (λ_ r=>B202 n r) k
def F202(n:Nat):Fn P1 K2 J:=(R202 n n)
def acg(n:Nat):∀k,bz prog 202 (Ve (R202 n k))
 |0=>bZ (enters 202 (by kernel_rfl))
 |k+1=>have a:=acg n k
  D202 n _ a
def alC(n:Nat):OC:=⟨202,Ve (F202 n),(acg n n)⟩
def F259:Y36:=
 λn b=>ai (F146 n (b.1,(-1000000000),1000000000,())) λc=>Z c
def agj(n:Nat):OC:=⟨259,⟨P11,K4,J,F259 n⟩,ct [ON n] [] n 10 259⟩
abbrev Vd(F:Fn P13 K4 J):kC sg:=⟨P13,K4,J,F⟩
def pF(n:Nat)(f203:Y97->O fc):O fc:=
 Z ((J,()),())
def KM(c:Y97)(d:Int×U):aC:=
 aR c.2.1.4 (ah d.1) aN
def Qn(n:Nat)(f203:Y97->O fc)(c:Y97):fc->O fc:=
 λj=>aj j.1.1 (Z ((D.aG (ak c.2.1.4) 0,()),())) (pF n f203)
def Bq(n:Nat)(f203:Y97->O fc)(c:Y97):O fc:=
 ai (aj (D.aG c.2.1.1 1) (Z (LO.next (W,()))) (ai (aj (D.aG c.2.1.1 2) (Z (LO.next (W,()))) (Z (LO.next (D.aG c.2.1.1 5,()))))
 λ(h:FH)=>LO.jn h (λi=>Z (LO.next i)) (λ_ _=>Y) (λ_ j=>Z (LO.ret () j)) λ_ _=>Y)) λ(h:FH)=>LO.jn h (λ
 i=>aj i.1 (aj (D.aG c.2.1.2 0) (Z ((D.aG (ak c.2.1.4) 0,()),())) (pF n f203)) (aj (D.aG c.2.1.1 3) (ai (F259 n (c.2.1.2,()))
 (Qn n f203 c)) (aj (D.aG c.2.1.1 4) (ai (F146 n (c.2.1.2,0,1,())) (Qn n f203 c)) (aj (D.aG c.2.1.1 6) (ai (F146 n (c.2.1.2,0,D.dH .i64
 (ak c.1.1.4) 1,())) λj=>aj j.1.1 (aD (av c.2.1.2 c.1.1.4) (Z ((D.aG (ak c.2.1.4) (aR c.1.1.4 (ah c.2.1.2) bx).2,()),())))
 (pF n f203)) (pF n f203))))) (λ_ _=>Y) (λ_ j=>Z (j,())) λ_ _=>Y
def B203:Nat->(Y97->O fc)->Y97->O fc:=
 λn f203 c=>aj (D.aK (gn c.2.1.3 [])) (pF n f203) (ai (@iter (Int×U) (Int×U) (U) (Any) (λd=>aj (D.bO d.1 (ak
 c.2.1.4)) (aD (av d.1 c.2.1.4) (ai (f203 (c.1,aC.mk (KM c d).1 (KM c d).2 (KM c d).3 (KM c d).4,())) λe=>aj (D.aK
 e.1.1) (Z (LO.ret () d)) (Z (LO.next (D.add .i64 d.1 1,()))))) (Z (LO.out 0 d))) n (0,())) λd=>LO.el d (λ_ _=>aj (D.aK (D.aK
 J)) (pF n f203) (Bq n f203 c)) (λ_ g=>aj (D.aK (D.aK (D.ep 0 g.1))) (pF n f203) (Bq n f203 c)) λ_ _=>Y)
def D203(n:Nat)(f203:Fn P13 K4 J)(a:bz prog 203 (Vd f203)):bz prog 203 (Vd (B203 n f203)):=ct [ON n,⟨203,Vd f203,a⟩,agj n] [(203,1000005,⟨[(18,cZ)],[],[],0⟩),(203,1000006,⟨[(18,cZ)],[],[],0⟩),(293,0,⟨[(8,de)],[],[],0⟩)] n 10 203
def R203(n k:Nat):(Fn P13 K4 J):=Nat.rec (motive:=λ_=>(Fn P13 K4 J)) (λ_=>Y) (λ_ r=>B203 n r) k
def F203(n:Nat):Fn P13 K4 J:=(R203 n n)
def acf(n:Nat):∀k,bz prog 203 (Vd (R203 n k))
 |0=>bZ (enters 203 (by kernel_rfl))
 |k+1=>have a:=acf n k
  D203 n _ a
def alB(n:Nat):OC:=⟨203,Vd (F203 n),(acf n n)⟩
def F204:ais:=
 λn b=>aj (D.aG b.2.1.1 1) (ai (F259 n (b.2.1.2,())) λc=>Z c) (aj (D.aG b.2.1.1 2) (ai (F146 n (b.2.1.2,0,1,())) λc=>Z c)
 (aj (D.aG b.2.1.1 24) (ai (F146 n (b.2.1.2,0,3,())) λc=>Z c) (aj (D.aG b.2.1.1 4) (ai (F146 n (b.2.1.2,D.neg .i64 (ak b.1.1.2),29,
 ())) λc=>Z c) (aj (D.aG b.2.1.1 14) (Z ((W,()),())) (Z ((D.aG b.2.1.2 0,()),()))))))
def alA(n:Nat):OC:=⟨204,⟨P14,K4,J,F204 n⟩,ct [ON n,agj n] [] n 10 204⟩
def F338:Nat->jI×cW×bp×U->O fc:=
 λn b=>ai (F146 n (ak b.2.2.1.4,1,5,())) λc=>aj c.1.1 (Z ((D.aG (ak b.2.2.1.3) (D.add .i64 1 (ak b.2.2.1.4)),()),())) (Z
 ((J,()),()))
def akF(n:Nat):OC:=⟨338,⟨aoW,K4,J,F338 n⟩,ct [ON n] [] n 10 338⟩
def F339:Nat->Int×cW×bp×U->O fc:=
 λn b=>Z ((D.aG (ak b.2.2.1.3) b.1,()),())
def akE(n:Nat):OC:=⟨339,⟨aoV,K4,J,F339 n⟩,ct [] [] n 10 339⟩
def F340:Nat->mC×cW×bp×U->O fc:=
 λn b=>ai (F146 n (b.2.2.1.2,0,D.dH .i64 (ak b.2.1.1.4) 1,())) λc=>aj c.1.1 (aD (av b.2.2.1.2 b.2.1.1.4) (Z ((D.aG (ak
 b.2.2.1.3) (aR b.2.1.1.4 (ah b.2.2.1.2) bx).2,()),()))) (Z ((J,()),()))
def akD(n:Nat):OC:=⟨340,⟨aoU,K4,J,F340 n⟩,ct [ON n] [] n 10 340⟩
def sV:L (Nat×Ty):=
 [(274,Ty.st 27),(297,Ty.int .i64),(298,Ty.st 28)]
def sU(b:aex)(i:Int×U):aC:=
 aR b.2.1.4 (ah i.1) aN
def uZ(n:Nat)(b:aex):fc->O fc:=
 λg=>aj g.1.1 (ai (F204 n b) λh=>aj h.1.1 (ai (@iter (Int×U) (Int×U) (U) (Any) (λi=>aj (D.bO i.1 (ak b.2.1.4)) (aD
 (av i.1 b.2.1.4) (ai (F202 n (aC.mk (sU b i).1 (sU b i).2 (sU b i).3 (sU b i).4,12,())) λj=>aj (D.ep j.1.1 12) (ai
 (F203 n (b.1,aC.mk (sU b i).1 (sU b i).2 (sU b i).3 (sU b i).4,())) λk=>aj (D.aK k.1.1) (Z (LO.ret () i)) (Z
 (LO.next (D.add .i64 i.1 1,())))) (Z (LO.ret () i)))) (Z (LO.out 0 i))) n (0,())) λi=>LO.el i (λ_ _=>Z ((D.aK J,()),()))
 (λ_ k=>Z ((D.aK (D.ep 0 k.1),()),())) λ_ _=>Y) (Z ((J,()),()))) (Z ((J,()),()))
def F153:ais:=
 λn b=>ai (F200 n (b.2.1.1,())) λc=>aj (isNil sV (dj 29 c.1.1)) (Z ((J,()),())) (ai (aj (fW sV 0 (dj 29 c.1.1))
 (Z (LO.next (J,W,()))) (aj (D.bO 0 (ak b.2.1.4)) (Z (LO.ret () (J,()))) (Z (LO.next (J,J,()))))) λ(d:KP)=>
 LO.jn d (λ_=>aj (fW sV 0 (dj 29 c.1.1)) (ai (F338 n (gi (Sg.zero sg) sV 0 (dj 29 c.1.1),b)) (uZ n b)) (aj (fW
 sV 1 (dj 29 c.1.1)) (ai (F339 n (gi (Sg.zero sg) sV 1 (dj 29 c.1.1),b)) (uZ n b)) (aj (fW sV 2 (dj 29 c.1.1)) (ai
 (F340 n (gi (Sg.zero sg) sV 2 (dj 29 c.1.1),b)) (uZ n b)) Y))) (λ_ _=>Y) (λ_ g=>Z (g,())) λ_ _=>Y)
def alT(n:Nat):OC:=⟨153,⟨P14,K4,J,F153 n⟩,ct [alD n,alC n,alB n,alA n,akF n,akE n,akD n] [(153,1000003,⟨[(4,cZ),(17,cZ)],[],[],0⟩),(293,0,⟨[(8,de)],[],[],0⟩)] n 10 153⟩
def F155:Y36:=
 λn b=>Z ((D.aG b.1 1,()),())
def alS(n:Nat):OC:=⟨155,⟨P11,K4,J,F155 n⟩,ct [] [] n 10 155⟩
def l5(n:Nat):O fc:=
 Z ((J,()),())
def abV(h:T7):Int×U:=
 (D.add .i64 h.2.1 1,())
def NK(b:cW×U)(p:Xs):Nat:=
 ah (aR b.1.1.2 (ah p.2.1) 0)
def RP(p:Xs):Int×U:=
 (D.add .i64 p.2.1 1,())
def Ce(b:cW×U)(s:Xs)(t:Xs):Int:=
 aR (aR b.1.1.1 (ah s.2.1) aP).3 (ah t.2.1) 0
def NJ(n:Nat)(b:cW×U):O fc:=
 aD (CA (Zn (ak b.1.1.1)) (iq (ak b.1.1.1) (ak b.1.1.1))) (ai (@iter (Xs) (Bool×U) (U) (Any) (λp=>aj (D.bO p.2.1 (ak
 b.1.1.2)) (aD (av p.2.1 b.1.1.2) (ai (F146 n (aR b.1.1.2 (ah p.2.1) 0,0,D.dH .i64 (ak b.1.1.1) 1,())) λq=>aj (D.aK q.1.1) (Z
 (LO.ret () (J,()))) (aD (av (aR b.1.1.2 (ah p.2.1) 0) p.1) (aD (cz (NK b p) p.1) (aD (av (aR b.1.1.2 (ah p.2.1) 0) p.1) (aD
 (cz (NK b p) p.1) (Z (LO.next (dV p.1 (NK b p) (D.add .i64 (aR p.1 (NK b p) 0) 1),RP p))))))))) (Z (LO.out 0 p))) n (Jg (ah
 (ak b.1.1.1)) 0,0,())) λp=>LO.el p (λ_ r=>ai (@iter (Xs) (Bool×U) (U) (Any) (λs=>aj (D.bO s.2.1 (ak b.1.1.1)) (aD
 (av s.2.1 b.1.1.1) (ai (@iter (Xs) (Bool×U) (U) (Any) (λt=>aj (D.bO t.2.1 (ak (aR b.1.1.1 (ah s.2.1) aP).3)) (aD (av
 t.2.1 (aR b.1.1.1 (ah s.2.1) aP).3) (ai (F146 n (Ce b s t,D.add .i64 s.2.1 1,D.dH .i64 (ak b.1.1.1) 1,())) λu=>aj (D.aK
 u.1.1) (Z (LO.ret () (J,()))) (aD (av (Ce b s t) t.1) (aD (cz (ah (Ce b s t)) t.1) (aD (av (Ce b s t) t.1) (aD (cz (ah
 (Ce b s t)) t.1) (Z (LO.next (dV t.1 (ah (Ce b s t)) (D.add .i64 (aR t.1 (ah (Ce b s t)) 0) 1),RP t))))))))) (Z (LO.out 0
 t))) n (s.1,0,())) λt=>LO.el t (λ_ v=>Z (LO.next (v.1,RP s))) (λ_ v=>Z (LO.ret () v)) λ_ _=>Y)) (Z (LO.out 0 s)))
 n (r.1,0,())) λs=>LO.el s (λ_ u=>ai (@iter (Int×U) (Int×U) (U) (Any) (λv=>aj (D.bO v.1 (ak u.1)) (aD (av v.1 u.1)
 (aD (cz (ah v.1) u.1) (ai (F155 n (aR u.1 (ah v.1) 0,())) λw=>aj (D.aK w.1.1) (Z (LO.ret () v)) (Z (LO.next (D.add .i64 v.1 1,
 ())))))) (Z (LO.out 0 v))) n (0,())) λv=>LO.el v (λ_ _=>Z ((D.aK J,()),())) (λ_ x=>Z ((D.aK (D.ep 0 x.1),()),()))
 λ_ _=>Y) (λ_ u=>Z (u,())) λ_ _=>Y) (λ_ r=>Z (r,())) λ_ _=>Y)
def RO(n:Nat)(b:cW×U):fc->O fc:=
 λk=>aj (D.aK k.1.1) (l5 n) (ai (@iter (Int×U) (Int×U) (U) (Any) (λl=>aj (D.bO l.1 (ak b.1.1.1)) (aD (av l.1
 b.1.1.1) (ai (F153 n (b.1,aR b.1.1.1 (ah l.1) aP,())) λm=>aj (D.aK m.1.1) (Z (LO.ret () l)) (Z (LO.next (D.add .i64 l.1 1,
 ()))))) (Z (LO.out 0 l))) n (0,())) λl=>LO.el l (λ_ _=>aj (D.aK (D.aK J)) (l5 n) (NJ n b)) (λ_ o=>aj (D.aK (D.aK
 (D.ep 0 o.1))) (l5 n) (NJ n b)) λ_ _=>Y)
def RN(n:Nat)(b:cW×U):O fc:=
 ai (@iter (T7) (T4) (U) (Any) (λh=>aj (D.bO h.2.1 (ak b.1.1.4)) (aD (av h.2.1 b.1.1.4) (ai (F151 n (aR b.1.1.4 (ah h.2.1)
 bx,())) λi=>aD (cX h.1 [i.1.1]) (Z (LO.next (cM h.1 [i.1.1],abV h))))) (Z (LO.out 0 h))) n ([],0,())) λh=>LO.el h (λ
 _ j=>ai (F149 n (j.1,())) (RO n b)) (λ_ j=>ai (F149 n j) (RO n b)) λ_ _=>Y
def F87:Nat->cW×U->O fc:=
 λn b=>aj (D.bO 300 (ak b.1.1.1)) (l5 n) (aj (D.bO (ak b.1.1.2) 1) (l5 n) (aj (D.bO (ak b.1.1.1) (ak b.1.1.2)) (l5 n) (aj
 (D.bO 20 (ak b.1.1.4)) (l5 n) (ai (F146 n (b.1.1.3,0,D.dH .i64 (ak b.1.1.2) 1,())) λc=>aj (D.aK c.1.1) (l5 n) (ai (@iter (Int
 ×U) (Int×U) (U) (Any) (λd=>aj (D.bO d.1 (ak b.1.1.4)) (aD (av d.1 b.1.1.4) (ai (F148 n (aR b.1.1.4 (ah d.1) bx,()))
 λe=>aj (D.aK e.1.1) (Z (LO.ret () d)) (Z (LO.next (D.add .i64 d.1 1,()))))) (Z (LO.out 0 d))) n (0,())) λd=>LO.el d (λ_ _=>
 aj (D.aK (D.aK J)) (l5 n) (RN n b)) (λ_ g=>aj (D.aK (D.aK (D.ep 0 g.1))) (l5 n) (RN n b)) λ_ _=>Y)))))
def k87(n:Nat):OC:=⟨87,⟨P15,K4,J,F87 n⟩,ct [ON n,alW n,alV n,alU n,alT n,alS n] [(87,0,⟨[(4,.one (.own (.int .i64))),(79,de)],[],[],0⟩),(87,2,⟨[(4,.one (.own (.int .i64))),(99,de)],[],[],0⟩),(87,4,⟨[(4,.one (.own (.int .i64))),(107,de)],[],[],0⟩),(150,0,⟨[(5,.one (.own (.str))),(10,de)],[],[],0⟩),(207,0,⟨[(8,de)],[],[],0⟩),(256,0,⟨[(8,de)],[],[],0⟩),(258,0,⟨[(8,de)],[],[],0⟩)] n 10 87⟩
def F46:Nat->ax×U->Gn:=
 λn b=>ai (F87 n (cW.mk b.1,())) λc=>aj (D.aK c.1.1) (Z ((2,()),())) (Z ((0,()),()))
def k46(n:Nat):OC:=⟨46,⟨P5,K2,J,F46 n⟩,ct [k87 n] [] n 10 46⟩
def F69:Y69:=
 λn b=>aj (D.ep b.2.1 b.1) (Z ((D.ep b.1 b.2.2.1,()),())) (Z ((J,()),()))
def ZB(n:Nat):OC:=⟨69,⟨P6,K4,J,F69 n⟩,ct [] [] n 10 69⟩
def F47:Nat->L Int×U->O fc:=
 λn b=>aj (D.ep (ak b.1) 50) (ai (@iter (Int×U) (Int×U) (U) (Any) (λc=>aj (D.bO c.1 (ak b.1)) (aD (av c.1 b.1) (ai
 (F69 n (aR b.1 (ah c.1) 0,(-1000000000),1000000000,())) λd=>aj (D.aK d.1.1) (Z (LO.ret () c)) (Z (LO.next (D.add .i64 c.1 1,
 ()))))) (Z (LO.out 0 c))) n (0,())) λc=>LO.el c (λ_ _=>Z ((D.aK J,()),())) (λ_ e=>Z ((D.aK (D.ep 0 e.1),()),()))
 λ_ _=>Y) (Z ((J,()),()))
def k47(n:Nat):OC:=⟨47,⟨P16,K4,J,F47 n⟩,ct [ZB n] [(207,0,⟨[(8,de)],[],[],0⟩)] n 10 47⟩
def F48:Y59:=
 λn _=>Z ((aq.mk 3 0,()),())
def ZC(n:Nat):OC:=⟨48,⟨[],K17,J,F48 n⟩,ct [] [] n 10 48⟩
def F49:Nat->L Int×U->O Y18:=λn b=>Z (b,())
def C49(n:Nat):bz prog 49 (⟨P16,K18,J,F49 n⟩:kC sg):=S2 [] trivial (Yt []) J n 10 49 P16 K18 (by kernel_rfl) (Eq.trans (by kernel_rfl:_=λb:L Int×U=>GW (Yx b.1) (Z (([],()),())) (Z (b,()))) (funext rE))
def k49(n:Nat):OC:=⟨49,⟨P16,K18,J,F49 n⟩,C49 n⟩
def abW:L (Nat×Ty):=
 [(170,Ty.st 12),(173,Ty.st 13),(175,Ty.st 14),(181,Ty.st 15)]
def F71:Nat->cg×U->Gn:=
 λn b=>aj (fW abW 3 (dj 16 b.1)) (Z ((0,()),())) (aj (fW abW 0 (dj 16 b.1)) (Z ((2,()),())) (Z ((1,()),())))
def k71(n:Nat):OC:=⟨71,⟨P19,K2,J,F71 n⟩,ct [] [] n 10 71⟩
def F170:Nat->L aE×U->O ((L aE×U)×U):=λn b=>Z (b,())
def C170(n:Nat):bz prog 170 (⟨P20,K21,J,F170 n⟩:kC sg):=S2 [] trivial (Yt []) J n 10 170 P20 K21 (by kernel_rfl) (Eq.trans (by kernel_rfl:_=λb:L aE×U=>GW (Yx b.1) (Z (([],()),())) (Z (b,()))) (funext rE))
def agw(n:Nat):OC:=⟨170,⟨P20,K21,J,F170 n⟩,C170 n⟩
def F112:Y62:=
 λn b=>aj (D.aG b.1.1 4) (Z ((aq.mk 5 0,()),())) (aj (D.aG b.1.1 5) (Z ((aq.mk 5 0,()),())) (Z (b,())))
def agB(n:Nat):OC:=⟨112,⟨P22,K17,J,F112 n⟩,ct [] [] n 10 112⟩
def F114:Nat->gj×U->O Y39:=
 λn b=>Z ((aA.mk 0 0 b.1.1 az,()),())
def ac7(n:Nat):OC:=⟨114,⟨P23,K24,J,F114 n⟩,ct [] [] n 10 114⟩
def F219:Nat->Bool×Int×U->O Y20:=
 λn b=>aj (D.aK b.1) (Z (Rx.dm (Any.a0 (gj.mk b.2.1),()))) (Z (Rx.ok ((),())))
def Ct(n:Nat):OC:=⟨219,⟨P25,[],W,F219 n⟩,ct [] [] n 10 219⟩
def F171:Nat->Y1×Y2×L au×U->O (Rx Xx Y4):=
 λn b=>ai (F219 n (D.ep (D.add .i64 (ak b.1.2.2.1) (ak b.2.2.1)) 40,4,())) λc=>Rx.el c (λ_=>aD (CA (eS 0 (ak b.1.2.2.1)
 (ak b.1.2.2.1)) (iq (ak b.1.2.2.1) (ak b.1.2.2.1))) (aD (cX (eo b.1.2.2.1 0 (ak b.1.2.2.1)) b.2.2.1) (Z (Rx.ok ((),((),b.1.2.1,cM
 (eo b.1.2.2.1 0 (ak b.1.2.2.1)) b.2.2.1,b.1.2.2.2),b.2.1,()))))) λd=>Z (Rx.dm (d.1,b.1,b.2.1,()))
def ac4(n:Nat):OC:=⟨171,⟨P26,[],W,F171 n⟩,ct [Ct n] [] n 10 171⟩
def Bf(n:Nat):PI->O PI:=
 λc=>LO.jn c (λd=>Z (LO.next d)) (λ_ _=>Y) (λ_ e=>Z (LO.ret () e)) λ_ _=>Y
def qy(n:Nat):Gn:=
 Z ((1,()),())
def F173:Y16:=
 λn b=>ai (aj (D.aG b.1.1 6) (Z (LO.next (W,()))) (ai (aj (D.aG b.1.1 9) (Z (LO.next (W,()))) (ai (aj (D.aG b.1.1 10) (Z
 (LO.next (W,()))) (ai (aj (D.aG b.1.1 11) (Z (LO.next (W,()))) (ai (aj (D.aG b.1.1 12) (Z (LO.next (W,()))) (ai (aj (D.aG
 b.1.1 13) (Z (LO.next (W,()))) (ai (aj (D.aG b.1.1 18) (Z (LO.next (W,()))) (Z (LO.next (D.aG b.1.1 22,())))) (Bf n)))
 (Bf n))) (Bf n))) (Bf n))) (Bf n))) (Bf n))) λ(c:PI)=>LO.jn c (λd=>aj d.1 (Z ((2,()),())) (aj (D.aG b.1.1 14)
 (Z ((ak b.1.3,()),())) (aj (D.aG b.1.1 7) (qy n) (aj (D.aG b.1.1 8) (qy n) (aj (D.aG b.1.1 15) (qy n) (aj (D.aG b.1.1 16)
 (qy n) (aj (D.aG b.1.1 17) (qy n) (aj (D.aG b.1.1 19) (qy n) (aj (D.aG b.1.1 20) (qy n) (aj (D.aG b.1.1 23) (qy n) (aj
 (D.aG b.1.1 24) (qy n) (aj (D.aG b.1.1 26) (qy n) (Z ((0,()),())))))))))))))) (λ_ _=>Y) (λ_ e=>Z (e,())) λ_ _=>
 Y
def ac3(n:Nat):OC:=⟨173,⟨P27,K2,J,F173 n⟩,ct [] [(173,1000003,⟨[(5,cZ)],[],[],0⟩),(173,1000004,⟨[(5,cZ)],[],[],0⟩),(173,1000005,⟨[(5,cZ)],[],[],0⟩),(173,1000006,⟨[(5,cZ)],[],[],0⟩),(173,1000007,⟨[(5,cZ)],[],[],0⟩),(173,1000008,⟨[(5,cZ)],[],[],0⟩),(173,1000009,⟨[(5,cZ)],[],[],0⟩)] n 10 173⟩
def F174:Nat->Y1×Y2×Int×L aq×U->O (Rx Y3 Y4):=
 λn b=>aD (av b.2.2.1 b.1.2.2.2.2.2.2.2.2.1) (ai (F171 n (b.1,b.2.1,[au.mk (aR b.1.2.2.2.2.2.2.2.2.1 (ah b.2.2.1) 0) b.2.2.2.1 []],
 ())) λc=>Rx.el c (λd=>Z (Rx.ok ((cg.a3 je.mk,()),d.2))) λd=>Z (Rx.dm d))
def V2(n:Nat):OC:=⟨174,⟨P28,K29,W,F174 n⟩,ct [ac4 n] [] n 10 174⟩
def F271:Nat->Y1×Y2×aq×U->O Y3:=
 λn b=>Z ((cg.a3 je.mk,()),((),b.1.2.1,b.1.2.2.1,b.1.2.2.2.1,b.1.2.2.2.2.1,b.1.2.2.2.2.2.1,b.1.2.2.2.2.2.2.1,
 b.1.2.2.2.2.2.2.2.1,b.1.2.2.2.2.2.2.2.2.1,b.1.2.2.2.2.2.2.2.2.2.1,[b.2.2.1],()),b.2.1,())
def JJ(n:Nat):OC:=⟨271,⟨P30,K29,J,F271 n⟩,ct [] [] n 10 271⟩
def F272:aet:=
 λn b=>Z ((aq.mk 1 b.1,()),())
def ZG(n:Nat):OC:=⟨272,⟨P11,K17,J,F272 n⟩,ct [] [] n 10 272⟩
def F273:aiu:=
 λn b=>aj b.1 (Z ((aq.mk 2 1,()),())) (Z ((aq.mk 2 0,()),()))
def ZF(n:Nat):OC:=⟨273,⟨P31,K17,J,F273 n⟩,ct [] [] n 10 273⟩
def Kw(n:Nat)(b:Y1×Y2×U):T5->O Y3:=
 λc=>ai (F271 n (b.1,b.2.1,c.1)) λd=>Z d
def F221:Y28:=
 λn b=>aj (D.aG b.1.2.2.2.2.2.2.1 1) (ai (F272 n (b.1.2.2.2.2.2.2.2.1,())) (Kw n b)) (aj (D.aG b.1.2.2.2.2.2.2.1 2) (ai (F273 n (D.aG
 b.1.2.2.2.2.2.2.2.1 1,())) (Kw n b)) (ai (F48 n ()) (Kw n b)))
def aly(n:Nat):OC:=⟨221,⟨CC,K29,J,F221 n⟩,ct [ZC n,JJ n,ZG n,ZF n] [] n 10 221⟩
def F222:Y5:=
 λn b=>aj (D.bO b.1.2.2.2.2.2.2.2.1 0) (ai (F271 n (b.1,b.2.1,aq.mk 4 (D.dH .i64 (-1) b.1.2.2.2.2.2.2.2.1),())) λc=>Z (Rx.ok
 c)) (ai (F219 n (D.bO b.1.2.2.2.2.2.2.2.1 (ak b.1.2.2.2.2.1),2,())) λc=>Rx.el c (λ_=>aD (av b.1.2.2.2.2.2.2.2.1 b.1.2.2.2.2.1) (ai
 (F271 n (b.1,b.2.1,aR b.1.2.2.2.2.1 (ah b.1.2.2.2.2.2.2.2.1) az,())) λe=>Z (Rx.ok e))) λd=>Z (Rx.dm (d.1,b)))
def alx(n:Nat):OC:=⟨222,⟨CC,K29,W,F222 n⟩,ct [Ct n,JJ n] [] n 10 222⟩
def sS(b:GX):Int:=
 ak b.2.1.2.2.2.2.1
def F274:Nat->GX->O (Rx aeE Y4):=
 λn b=>ai (F219 n (D.bO (sS b) 120,4,())) λc=>Rx.el c (λ_=>aD (CA (eS 0 (sS b) (sS b)) (iq (sS b) (sS b)))
 (aD (cX (eo b.2.1.2.2.2.2.1 0 (sS b)) [b.2.2.1]) (Z (Rx.ok ((aq.mk 5 (D.dH .i64 (ak (cM (eo b.2.1.2.2.2.2.1 0 (sS b))
 [b.2.2.1])) 1),()),b.1,(b.2.1.1,b.2.1.2.1,b.2.1.2.2.1,b.2.1.2.2.2.1,cM (eo b.2.1.2.2.2.2.1 0 (sS b)) [b.2.2.1],b.2.1.2.2.2.2.2),
 ()))))) λd=>Z (Rx.dm (d.1,b.1,b.2.1,()))
def Td(n:Nat):OC:=⟨274,⟨P33,K17,W,F274 n⟩,ct [Ct n] [] n 10 274⟩
def F223:Y5:=
 λn b=>ai (F274 n (b.1,b.2.1,aE.mk 2 b.1.2.2.2.1 b.1.2.2.2.2.1 [],())) λc=>Rx.el c (λd=>ai (F271 n (d.2.1,d.2.2.1,d.1)) λe
 =>Z (Rx.ok e)) λd=>Z (Rx.dm d)
def alw(n:Nat):OC:=⟨223,⟨CC,K29,W,F223 n⟩,ct [JJ n,Td n] [] n 10 223⟩
def F277:Nat->Y99->O (Rx Y44 (Any×U)):=
 λn b=>ai (F219 n (D.ep (D.add .i64 (ak b.1) (ak b.2.1)) 30,4,())) λc=>Rx.el c (λ_=>aD (CA (eS 0 (ak b.1) (ak b.1)) (iq
 (ak b.1) (ak b.1))) (aD (cX (eo b.1 0 (ak b.1)) b.2.1) (Z (Rx.ok ((cM (eo b.1 0 (ak b.1)) b.2.1,()),()))))) λd=>Z (Rx.dm
 d)
def ZE(n:Nat):OC:=⟨277,⟨P34,K35,W,F277 n⟩,ct [Ct n] [] n 10 277⟩
def F298:Nat->aix->O aiJ:=
 λn b=>aj (D.aK (D.aG b.2.2.1.1 5)) (Z ((aU,J,()),b.1,b.2.1,())) (aD (av b.2.2.1.2 b.2.1.2.2.2.2.1) (aj (D.aK (D.aG
 (aR b.2.1.2.2.2.2.1 (ah b.2.2.1.2) aU).1 b.2.2.2.1)) (Z ((aU,J,()),b.1,b.2.1,())) (aD (av b.2.2.1.2 b.2.1.2.2.2.2.1)
 (Z ((aR b.2.1.2.2.2.2.1 (ah b.2.2.1.2) aU,W,()),b.1,b.2.1,())))))
def acY(n:Nat):OC:=⟨298,⟨P36,K37,J,F298 n⟩,ct [] [] n 10 298⟩
def F275:Nat->Y55->O (Rx (Y56×Y1×Y2×U) Y4):=
 λn b=>aj (D.aG b.2.2.1.1 4) (aD (av b.2.2.1.2 b.2.1.2.1) (Z (Rx.ok ((au.mk (aR b.2.1.2.1 (ah b.2.2.1.2) 0) [b.2.2.2.1] [],W,
 ()),b.1,b.2.1,())))) (ai (F298 n (b.1,b.2.1,b.2.2.1,2,())) λc=>aj (D.aK c.1.2.1) (Z (Rx.ok ((aV,J,()),c.2))) (aD
 (av c.1.1.2 c.2.2.1.1) (aD (av 0 (aR c.2.2.1.1 (ah c.1.1.2) aP).3) (ai (F277 n (c.1.1.3,[b.2.2.2.1],())) λd=>Rx.el d (λe=>
 Z (Rx.ok ((au.mk (aR (aR c.2.2.1.1 (ah c.1.1.2) aP).3 (ah 0) 0) e.1.1 [],W,()),c.2))) λe=>Z (Rx.dm (e.1,
 c.2))))))
def agi(n:Nat):OC:=⟨275,⟨P38,K39,W,F275 n⟩,ct [ZE n,acY n] [] n 10 275⟩
def F276:Nat->aix->O (Rx ((aE×U)×Y1×Y2×U) Y4):=
 λn b=>ai (F298 n b) λc=>ai (F219 n (c.1.2.1,2,())) λd=>Rx.el d (λ_=>Z (Rx.ok ((c.1.1,()),c.2))) λe=>Z (Rx.dm
 (e.1,c.2))
def OL(n:Nat):OC:=⟨276,⟨P36,K40,W,F276 n⟩,ct [Ct n,acY n] [] n 10 276⟩
def F224:Y5:=
 λn b=>aD (av 0 b.1.2.2.2.2.2.1) (aD (av 1 b.1.2.2.2.2.2.1) (ai (F275 n (b.1,b.2.1,aR b.1.2.2.2.2.2.1 (ah 0) az,aR
 b.1.2.2.2.2.2.1 (ah 1) az,())) λc=>Rx.el c (λd=>aj d.1.2.1 (ai (F171 n (d.2.1,d.2.2.1,[d.1.1],())) λe=>Rx.el e (λg=>
 Z (Rx.ok ((cg.a3 je.mk,()),g.2))) λg=>Z (Rx.dm g)) (aD (av 0 d.2.1.2.2.2.2.2.1) (ai (F276 n (d.2.1,d.2.2.1,aR
 d.2.1.2.2.2.2.2.1 (ah 0) az,5,())) λe=>Rx.el e (λg=>ai (F171 n (g.2.1,g.2.2.1,g.1.1.4,())) λh=>Rx.el h (λi=>aD (av
 1 i.2.1.2.2.2.2.2.1) (ai (F271 n (i.2.1,i.2.2.1,aR i.2.1.2.2.2.2.2.1 (ah 1) az,())) λj=>Z (Rx.ok j))) λi=>Z (Rx.dm i))
 λg=>Z (Rx.dm g)))) λd=>Z (Rx.dm d)))
def alv(n:Nat):OC:=⟨224,⟨CC,K29,W,F224 n⟩,ct [ac4 n,JJ n,agi n,OL n] [] n 10 224⟩
def F225:Y5:=
 λn b=>aD (av 0 b.1.2.2.2.2.2.1) (ai (F277 n (b.1.2.2.2.2.1,[aR b.1.2.2.2.2.2.1 (ah 0) az],())) λc=>Rx.el c (λd=>ai (F174
 n (b.1,b.2.1,1,d.1)) λe=>Rx.el e (λg=>Z (Rx.ok g)) λg=>Z (Rx.dm g)) λd=>Z (Rx.dm (d.1,b)))
def alu(n:Nat):OC:=⟨225,⟨CC,K29,W,F225 n⟩,ct [V2 n,ZE n] [] n 10 225⟩
def F226:Y5:=
 λn b=>aD (av 0 b.1.2.2.2.2.2.1) (ai (F219 n (D.aG (aR b.1.2.2.2.2.2.1 (ah 0) az).1 2,2,())) λc=>Rx.el c (λ_=>aD (av 0
 b.1.2.2.2.2.2.1) (ai (F174 n (b.1,b.2.1,D.dH .i64 2 (aR b.1.2.2.2.2.2.1 (ah 0) az).2,b.1.2.2.2.2.1,())) λe=>Rx.el e (λg=>Z
 (Rx.ok g)) λg=>Z (Rx.dm g))) λd=>Z (Rx.dm (d.1,b)))
def alq(n:Nat):OC:=⟨226,⟨CC,K29,W,F226 n⟩,ct [V2 n,Ct n] [] n 10 226⟩
def PY(n:Nat)(b:Y1×Y2×U):Y20->Y98:=
 λc=>Rx.el c (λ_=>aD (av 0 b.1.2.2.2.2.2.1) (aD (av 1 b.1.2.2.2.2.2.1) (Z (Rx.ok (((aR b.1.2.2.2.2.2.1 (ah 0) az).2,(aR
 b.1.2.2.2.2.2.1 (ah 1) az).2,()),b))))) λd=>Z (Rx.dm (d.1,b))
def F278:Nat->Y1×Y2×U->Y98:=
 λn b=>aD (av 0 b.1.2.2.2.2.2.1) (aj (D.aG (aR b.1.2.2.2.2.2.1 (ah 0) az).1 1) (aD (av 1 b.1.2.2.2.2.2.1) (ai (F219 n (D.aG (aR
 b.1.2.2.2.2.2.1 (ah 1) az).1 1,2,())) (PY n b))) (ai (F219 n (J,2,())) (PY n b)))
def agh(n:Nat):OC:=⟨278,⟨CC,K41,W,F278 n⟩,ct [Ct n] [] n 10 278⟩
def F227:Y5:=
 λn b=>ai (F278 n b) λc=>Rx.el c (λd=>ai (aj (D.aG d.2.1.2.2.2.2.2.2.1 10) (Z (LO.next (D.dH .i64 d.1.1 d.1.2.1,W,())))
 (ai (aj (D.aG d.2.1.2.2.2.2.2.2.1 11) (Z (LO.next (D.mul .i64 d.1.1 d.1.2.1,W,()))) (Z (LO.next (D.add .i64 d.1.1 d.1.2.1,J,()))))
 λ(e:Y6)=>LO.jn e (λg=>Z (LO.next (g.1,J,()))) (λ_ _=>Y) (λ_ h=>Z (LO.ret () h)) λ_ h=>Z (LO.dm () h)))
 λ(e:Y6)=>LO.jn e (λg=>ai (F69 n (g.1,(-1000000000),1000000000,())) λh=>ai (F219 n (h.1.1,4,())) λi=>Rx.el i (λ_=>ai
 (F272 n (g.1,())) λk=>ai (F271 n (d.2.1,d.2.2.1,k.1)) λl=>Z (Rx.ok l)) λj=>Z (Rx.dm (j.1,d.2))) (λ_ _=>Y) (λ_ h
 =>Z (Rx.ok (h,d.2))) λ_ h=>Z (Rx.dm (h,d.2))) λd=>Z (Rx.dm d)
def alp(n:Nat):OC:=⟨227,⟨CC,K29,W,F227 n⟩,ct [ZB n,Ct n,JJ n,ZG n,agh n] [(227,1000005,⟨[(5,de),(19,cZ)],[],[],0⟩),(227,1000007,⟨[(5,de),(24,cZ)],[],[],0⟩)] n 10 227⟩
def F228:Y5:=
 λn b=>ai (F278 n b) λc=>Rx.el c (λd=>ai (F273 n (D.bO d.1.1 d.1.2.1,())) λe=>ai (F271 n (d.2.1,d.2.2.1,e.1)) λg=>Z
 (Rx.ok g)) λd=>Z (Rx.dm d)
def aln(n:Nat):OC:=⟨228,⟨CC,K29,W,F228 n⟩,ct [JJ n,ZF n,agh n] [] n 10 228⟩
def Qb(b:Y1×Y2×U):Bool:=
 D.aG (aR b.1.2.2.2.2.2.1 (ah 0) az).1 (aR b.1.2.2.2.2.2.1 (ah 1) az).1
def Qa(n:Nat)(b:Y1×Y2×U):Y20->O (Rx Y3 Y4):=
 λc=>Rx.el c (λ_=>ai (F273 n (D.dz (Qb b) (D.dz (D.aG (aR b.1.2.2.2.2.2.1 (ah 0) az).2 (aR b.1.2.2.2.2.2.1 (ah 1)
 az).2) W),())) λe=>ai (F271 n (b.1,b.2.1,e.1)) λg=>Z (Rx.ok g)) λd=>Z (Rx.dm (d.1,b))
def F229:Y5:=
 λn b=>aD (av 0 b.1.2.2.2.2.2.1) (aD (av 1 b.1.2.2.2.2.2.1) (aj (Qb b) (ai (F219 n (D.ep (aR b.1.2.2.2.2.2.1 (ah 0) az).1 3,
 2,())) (Qa n b)) (ai (F219 n (J,2,())) (Qa n b))))
def alm(n:Nat):OC:=⟨229,⟨CC,K29,W,F229 n⟩,ct [Ct n,JJ n,ZF n] [] n 10 229⟩
def F230:Y5:=
 λn b=>ai (F274 n (b.1,b.2.1,aE.mk 1 b.1.2.2.2.2.2.2.2.1 b.1.2.2.2.2.2.1 [],())) λc=>Rx.el c (λd=>ai (F271 n (d.2.1,d.2.2.1,
 d.1)) λe=>Z (Rx.ok e)) λd=>Z (Rx.dm d)
def alk(n:Nat):OC:=⟨230,⟨CC,K29,W,F230 n⟩,ct [JJ n,Td n] [] n 10 230⟩
abbrev U7(F:Fn P42 K4 J):kC sg:=⟨P42,K4,J,F⟩
def Bp(n:Nat)(f279:PJ->T9)(c:PJ):T5->T9:=
 λd=>Z ((D.dz (D.aG c.2.2.2.1.1 d.1.1.1) (D.dz (D.aG c.2.2.2.1.2 d.1.1.2) W),()),c.1,c.2.1,c.2.2.2.2)
def Gi(n:Nat)(f279:PJ->T9)(c:PJ)(d:aiJ):T9:=
 Z ((J,()),d.2.1,d.2.2.1,c.2.2.2.2)
def KL(c:PJ)(e:aiI):aC:=
 aR c.2.2.1.4 (ah e.1) aN
def B279:Nat->(PJ->T9)->PJ->T9:=
 λn f279 c=>aj (D.aG c.2.2.1.1 2) (aD (cX c.2.2.2.2.1.1 [c.2.2.2.1]) (Z ((W,()),c.1,c.2.1,(cM c.2.2.2.2.1.1 [c.2.2.2.1],()),
 ()))) (aj (D.aG c.2.2.1.1 3) (ai (F272 n (c.2.2.1.2,())) (Bp n f279 c)) (aj (D.aG c.2.2.1.1 4) (ai (F273 n (D.aG c.2.2.1.2 1,())) (Bp
 n f279 c)) (aj (D.aG c.2.2.1.1 5) (ai (F48 n ()) (Bp n f279 c)) (aj (D.aG c.2.2.1.1 6) (ai (F298 n (c.1,c.2.1,c.2.2.2.1,1,())) λd=>
 aj (D.aK d.1.2.1) (Gi n f279 c d) (aj (D.aK (D.aG d.1.1.2 c.2.2.1.2)) (Gi n f279 c d) (aj (D.aK (D.aG (ak d.1.1.3) (ak
 c.2.2.1.4))) (Gi n f279 c d) (ai (@iter (aiI) (Bool×U) (Y1×Y2×(L aq×U)×U) (Any) (λe=>aj (D.bO e.1 (ak
 c.2.2.1.4)) (aD (av e.1 c.2.2.1.4) (aD (av e.1 d.1.1.3) (ai (f279 (e.2.1,e.2.2.1,aC.mk (KL c e).1 (KL c e).2 (KL c e).3
 (KL c e).4,aR d.1.1.3 (ah e.1) az,e.2.2.2)) λg=>aj (D.aK g.1.1) (Z (LO.ret g.2 (J,()))) (Z (LO.next (D.add .i64 e.1
 1,g.2)))))) (Z (LO.out 0 e))) n (0,d.2.1,d.2.2.1,c.2.2.2.2)) λe=>LO.el e (λ_ h=>Z ((W,()),h.2)) (λg h=>Z (h,g)) λ_
 _=>Y)))) (Z ((W,()),c.1,c.2.1,c.2.2.2.2))))))
def D279(n:Nat)(f279:Fn P42 K4 J)(a:bz prog 279 (U7 f279)):bz prog 279 (U7 (B279 n f279)):=ct [ZC n,ZG n,ZF n,⟨279,U7 f279,a⟩,acY n] [(279,1,⟨[(74,de),(0,Uu),(0,Ut),(0,.box (.cells [.own (.st 4)]))],[.slot 0,.cell (.slot 0) 0,.slot 3],[],0⟩)] n 10 279
def R279(n k:Nat):(Fn P42 K4 J):=Nat.rec (motive:=λ_=>(Fn P42 K4 J)) (λ_=>Y) (λ_ r=>B279 n r) k
def F279(n:Nat):Fn P42 K4 J:=(R279 n n)
def ab4(n:Nat):∀k,bz prog 279 (U7 (R279 n k))
 |0=>bZ (enters 279 (by kernel_rfl))
 |k+1=>have a:=ab4 n k
  D279 n _ a
def akV(n:Nat):OC:=⟨279,U7 (F279 n),(ab4 n n)⟩
def FV(b:Y1×Y2×U)(c:aiq):aC:=
 aR b.1.2.2.2.2.2.2.2.2.2.1 (ah c.1) aN
def F231:Y5:=
 λn b=>ai (@iter (aiq) (cg×U) (Y1×Y2×U) (Any) (λc=>aj (D.bO c.1 (ak b.1.2.2.2.2.2.2.2.2.2.1)) (aD (av c.1
 b.1.2.2.2.2.2.2.2.2.2.1) (aD (av 0 c.2.1.2.2.2.2.2.1) (ai (F279 n (c.2.1,c.2.2.1,aC.mk (FV b c).1 (FV b c).2 (FV b c).3 (FV
 b c).4,aR c.2.1.2.2.2.2.2.1 (ah 0) az,([],()),())) λd=>aj d.1.1 (ai (F277 n (d.2.1.2.2.2.2.1,d.2.2.2.1)) λe=>Rx.el e (λg
 =>ai (F174 n (d.2.1,d.2.2.1,D.add .i64 c.1 1,g.1)) λh=>Rx.el h (λi=>Z (LO.ret i.2 i.1)) λi=>Z (LO.dm i.2 i.1)) λg=>Z
 (LO.dm (d.2.1,d.2.2.1,()) g.1)) (Z (LO.next (D.add .i64 c.1 1,d.2.1,d.2.2.1,())))))) (Z (LO.out 0 c))) n (0,b)) λc=>LO.el c (λ_ e
 =>Z (Rx.dm (Any.a0 (gj.mk 3),e.2))) (λd e=>Z (Rx.ok (e,d))) λd e=>Z (Rx.dm (e,d))
def alj(n:Nat):OC:=⟨231,⟨CC,K29,W,F231 n⟩,ct [V2 n,ZE n,akV n] [(231,0,⟨[(12,de),(0,Uu),(0,Ut)],[.slot 0,.cell (.slot 0) 0],[],0⟩)] n 10 231⟩
def Ku(b:Y55):Y1×Y2×U:=
 (((),b.1.2.1,b.1.2.2.1,b.1.2.2.2.1,b.1.2.2.2.2.1,b.1.2.2.2.2.2.1,b.1.2.2.2.2.2.2.1,b.1.2.2.2.2.2.2.2.1,b.1.2.2.2.2.2.2.2.2.1,
 b.1.2.2.2.2.2.2.2.2.2.1,[b.2.2.1],()),b.2.1,())
def F280:Nat->Y55->O Y3:=
 λn b=>ai (F112 n b.2.2.2) λc=>aj (D.aG b.1.2.2.2.2.2.2.1 24) (Z ((cg.a1 (gI.mk (aA.mk b.1.2.1 b.1.2.2.2.2.2.2.1
 b.1.2.2.2.2.2.2.2.1 c.1.1)),()),Ku b)) (Z ((cg.a1 (gI.mk (aA.mk b.1.2.1 b.1.2.2.2.2.2.2.1 0 c.1.1)),()),Ku b))
def EA(n:Nat):OC:=⟨280,⟨P38,K29,J,F280 n⟩,ct [agB n] [] n 10 280⟩
def F232:Y5:=
 λn b=>aD (av 0 b.1.2.2.2.2.2.1) (ai (F274 n (b.1,b.2.1,aE.mk 3 0 [aR b.1.2.2.2.2.2.1 (ah 0) az] [],())) λc=>Rx.el c (λ
 d=>ai (F280 n (d.2.1,d.2.2.1,d.1.1,aR b.1.2.2.2.2.2.1 (ah 0) az,())) λe=>Z (Rx.ok e)) λd=>Z (Rx.dm d))
def ali(n:Nat):OC:=⟨232,⟨CC,K29,W,F232 n⟩,ct [Td n,EA n] [] n 10 232⟩
def F233:Y5:=
 λn b=>aD (av 0 b.1.2.2.2.2.2.1) (ai (F276 n (b.1,b.2.1,aR b.1.2.2.2.2.2.1 (ah 0) az,3,())) λc=>Rx.el c (λd=>aD (av 0
 d.1.1.3) (ai (F280 n (d.2.1,d.2.2.1,aR d.1.1.3 (ah 0) az,aR d.1.1.3 (ah 0) az,())) λe=>Z (Rx.ok e))) λd=>Z
 (Rx.dm d))
def alh(n:Nat):OC:=⟨233,⟨CC,K29,W,F233 n⟩,ct [OL n,EA n] [] n 10 233⟩
def F281:Nat->Y1×Y2×Int×aE×U->O Xx:=
 λn b=>ai (F170 n (b.2.1.2.2.2.2.1,())) λc=>aD (av b.2.2.1 c.1.1) (aD (cz (ah b.2.2.1) c.1.1) (Z ((),b.1,(b.2.1.1,b.2.1.2.1,
 b.2.1.2.2.1,b.2.1.2.2.2.1,dV c.1.1 (ah b.2.2.1) b.2.2.2.1,b.2.1.2.2.2.2.2),())))
def acZ(n:Nat):OC:=⟨281,⟨P43,[],J,F281 n⟩,ct [agw n] [] n 10 281⟩
def F234:Y5:=
 λn b=>aD (av 0 b.1.2.2.2.2.2.1) (ai (F276 n (b.1,b.2.1,aR b.1.2.2.2.2.2.1 (ah 0) az,3,())) λc=>Rx.el c (λd=>aD (av 0
 d.2.1.2.2.2.2.2.1) (aD (av 1 d.2.1.2.2.2.2.2.1) (ai (F281 n (d.2.1,d.2.2.1,(aR d.2.1.2.2.2.2.2.1 (ah 0) az).2,aE.mk 3 0 [aR
 d.2.1.2.2.2.2.2.1 (ah 1) az] [],())) λe=>ai (F48 n ()) λg=>aD (av 1 e.2.1.2.2.2.2.2.1) (ai (F280 n (e.2.1,e.2.2.1,g.1.1,aR
 e.2.1.2.2.2.2.2.1 (ah 1) az,())) λh=>Z (Rx.ok h))))) λd=>Z (Rx.dm d))
def alg(n:Nat):OC:=⟨234,⟨CC,K29,W,F234 n⟩,ct [ZC n,OL n,EA n,acZ n] [] n 10 234⟩
def yc(j:aeE):Int:=
 ak j.2.2.1.2.2.2.2.2.1
def F235:Y5:=
 λn b=>aD (av 0 b.1.2.2.2.2.2.1) (ai (F48 n ()) λc=>ai (F275 n (b.1,b.2.1,aR b.1.2.2.2.2.2.1 (ah 0) az,c.1)) λd=>Rx.el d
 (λe=>ai (aj e.1.2.1 (Z (LO.next (W,e.2.1,e.2.2.1,(6,0,[],[e.1.1],()),()))) (aD (av 0 e.2.1.2.2.2.2.2.1) (ai (F276 n (e.2.1,
 e.2.2.1,aR e.2.1.2.2.2.2.2.1 (ah 0) az,5,())) λg=>Rx.el g (λh=>ai (F48 n ()) λi=>Z (LO.next (J,h.2.1,h.2.2.1,(6,
 0,[i.1.1],h.1.1.4,()),()))) λh=>Z (LO.dm (h.2.1,h.2.2.1,(6,0,[],[],()),()) h.1)))) λ(g:LO (Bool×Y1×Y2×Ab×U)
 (cg×U) (Y1×Y2×Ab×U) Any)=>LO.jn g (λh=>ai (F274 n (h.2.1,h.2.2.1,aE.mk h.2.2.2.1.1 h.2.2.2.1.2.1 h.2.2.2.1.2.2.1
 h.2.2.2.1.2.2.2.1,())) λi=>Rx.el i (λj=>aD (CA (eS 0 (yc j) (yc j)) (iq (yc j) (yc j))) (aD (cX (eo
 j.2.2.1.2.2.2.2.2.1 0 (yc j)) [j.1.1.2]) (ai (F48 n ()) λk=>ai (F280 n (j.2.1,(j.2.2.1.1,j.2.2.1.2.1,j.2.2.1.2.2.1,j.2.2.1.2.2.2.1,
 j.2.2.1.2.2.2.2.1,cM (eo j.2.2.1.2.2.2.2.2.1 0 (yc j)) [j.1.1.2],j.2.2.1.2.2.2.2.2.2),j.1.1,k.1)) λl=>Z (Rx.ok l)))) λj=>Z
 (Rx.dm j)) (λ_ _=>Y) (λh i=>Z (Rx.ok (i,h.1,h.2.1,()))) λh i=>Z (Rx.dm (i,h.1,h.2.1,()))) λe=>Z (Rx.dm e))
def alf(n:Nat):OC:=⟨235,⟨CC,K29,W,F235 n⟩,ct [ZC n,Td n,agi n,OL n,EA n] [(235,1000004,⟨[(21,cZ),(0,Uu),(0,Ut),(0,ah4)],[.slot 0,.cell (.slot 0) 0,.slot 3],[],0⟩)] n 10 235⟩
def F236:Y5:=
 λn b=>aD (av 0 b.1.2.2.2.2.2.1) (ai (F276 n (b.1,b.2.1,aR b.1.2.2.2.2.2.1 (ah 0) az,6,())) λc=>Rx.el c (λd=>aj (D.aG
 d.1.1.2 0) (Z (Rx.ok ((cg.a0 iE.mk,()),d.2))) (aj (D.aG d.1.1.2 1) (aD (av 0 d.1.1.3) (aD (av 0 d.1.1.3) (ai (F280 n (d.2.1,
 d.2.2.1,aR d.1.1.3 (ah 0) az,aR d.1.1.3 (ah 0) az,())) λe=>Z (Rx.ok e)))) (Z (Rx.dm (Any.a0 (gj.mk d.1.1.2),
 d.2))))) λd=>Z (Rx.dm d))
def ale(n:Nat):OC:=⟨236,⟨CC,K29,W,F236 n⟩,ct [OL n,EA n] [] n 10 236⟩
def F237:Y5:=
 λn b=>ai (F274 n (b.1,b.2.1,aE.mk 4 0 [] [],())) λc=>Rx.el c (λd=>ai (F48 n ()) λe=>ai (F280 n (d.2.1,d.2.2.1,d.1.1,
 e.1)) λg=>Z (Rx.ok g)) λd=>Z (Rx.dm d)
def ald(n:Nat):OC:=⟨237,⟨CC,K29,W,F237 n⟩,ct [ZC n,Td n,EA n] [] n 10 237⟩
def F238:Y5:=
 λn b=>aD (av 0 b.1.2.2.2.2.2.1) (ai (F276 n (b.1,b.2.1,aR b.1.2.2.2.2.2.1 (ah 0) az,4,())) λc=>Rx.el c (λd=>aj (D.aG
 (ak d.1.1.3) 4) (Z (Rx.ok ((cg.a0 iE.mk,()),d.2))) (aD (av 1 d.2.1.2.2.2.2.2.1) (aD (CA (eS 0 (ak d.1.1.3) (ak d.1.1.3))
 (iq (ak d.1.1.3) (ak d.1.1.3))) (aD (cX (eo d.1.1.3 0 (ak d.1.1.3)) [aR d.2.1.2.2.2.2.2.1 (ah 1) az]) (aD (av 0
 d.2.1.2.2.2.2.2.1) (ai (F281 n (d.2.1,d.2.2.1,(aR d.2.1.2.2.2.2.2.1 (ah 0) az).2,aE.mk d.1.1.1 d.1.1.2 (cM (eo d.1.1.3 0 (ak
 d.1.1.3)) [aR d.2.1.2.2.2.2.2.1 (ah 1) az]) d.1.1.4,())) λe=>ai (F48 n ()) λg=>aD (av 1 e.2.1.2.2.2.2.2.1) (ai (F280 n (e.2.1,
 e.2.2.1,g.1.1,aR e.2.1.2.2.2.2.2.1 (ah 1) az,())) λh=>Z (Rx.ok h)))))))) λd=>Z (Rx.dm d))
def alc(n:Nat):OC:=⟨238,⟨CC,K29,W,F238 n⟩,ct [ZC n,OL n,EA n,acZ n] [] n 10 238⟩
def F239:Y5:=
 λn b=>aD (av 0 b.1.2.2.2.2.2.1) (ai (F276 n (b.1,b.2.1,aR b.1.2.2.2.2.2.1 (ah 0) az,4,())) λc=>Rx.el c (λd=>aj (D.aG
 (ak d.1.1.3) 0) (Z (Rx.ok ((cg.a0 iE.mk,()),d.2))) (aD (av 0 d.1.1.3) (aD (eS 1 (ak d.1.1.3) (ak d.1.1.3)) (aD (av 0
 d.2.1.2.2.2.2.2.1) (ai (F281 n (d.2.1,d.2.2.1,(aR d.2.1.2.2.2.2.2.1 (ah 0) az).2,aE.mk d.1.1.1 d.1.1.2 (eo d.1.1.3 1 (ak
 d.1.1.3)) d.1.1.4,())) λe=>ai (F280 n (e.2.1,e.2.2.1,aR d.1.1.3 (ah 0) az,aR d.1.1.3 (ah 0) az,())) λg=>Z (Rx.ok
 g)))))) λd=>Z (Rx.dm d))
def alb(n:Nat):OC:=⟨239,⟨CC,K29,W,F239 n⟩,ct [OL n,EA n,acZ n] [] n 10 239⟩
def FU(b:Y1×Y2×U):aq:=
 aR b.1.2.2.2.2.2.1 (ah 0) az
def uW(b:Y1×Y2×U):Int:=
 ak b.2.1.2.2.2.2.2.2.1
def F240:Y5:=
 λn b=>aD (av 0 b.1.2.2.2.2.2.1) (ai (F219 n (D.aG (FU b).1 1,2,())) λc=>Rx.el c (λ_=>ai (F219 n (D.bO (uW b) 100,4,
 ())) λe=>Rx.el e (λ_=>aD (CA (eS 0 (uW b) (uW b)) (iq (uW b) (uW b))) (aD (cX (eo b.2.1.2.2.2.2.2.2.1 0 (uW
 b)) [cS.mk b.1.2.2.2.2.2.2.2.1 (FU b).2]) (ai (F48 n ()) λh=>ai (F280 n (b.1,(b.2.1.1,b.2.1.2.1,b.2.1.2.2.1,b.2.1.2.2.2.1,
 b.2.1.2.2.2.2.1,b.2.1.2.2.2.2.2.1,cM (eo b.2.1.2.2.2.2.2.2.1 0 (uW b)) [cS.mk b.1.2.2.2.2.2.2.2.1 (FU b).2],b.2.1.2.2.2.2.2.2.2),
 h.1.1,FU b,())) λi=>Z (Rx.ok i)))) λg=>Z (Rx.dm (g.1,b))) λd=>Z (Rx.dm (d.1,b)))
def ala(n:Nat):OC:=⟨240,⟨CC,K29,W,F240 n⟩,ct [ZC n,Ct n,EA n] [] n 10 240⟩
def FT(b:Y1×Y2×U):Int:=
 ak b.2.1.2.2.2.2.2.2.2.1
def F241:Y5:=
 λn b=>aj (D.aG (FT b) 0) (Z (Rx.ok ((cg.a0 iE.mk,()),b))) (ai (F219 n (D.bO b.2.1.2.2.2.2.2.2.2.2.1 1000000000,4,()))
 λc=>Rx.el c (λ_=>aD (av 0 b.2.1.2.2.2.2.2.2.2.1) (ai (F272 n (aR b.2.1.2.2.2.2.2.2.2.1 (ah 0) 0,())) λe=>aD (eS 1 (FT b)
 (FT b)) (ai (F280 n (b.1,(b.2.1.1,b.2.1.2.1,b.2.1.2.2.1,b.2.1.2.2.2.1,b.2.1.2.2.2.2.1,b.2.1.2.2.2.2.2.1,b.2.1.2.2.2.2.2.2.1,eo
 b.2.1.2.2.2.2.2.2.2.1 1 (FT b),D.add .i64 b.2.1.2.2.2.2.2.2.2.2.1 1,()),e.1.1,e.1)) λg=>Z (Rx.ok g)))) λd=>Z (Rx.dm (d.1,b)))
def ak9(n:Nat):OC:=⟨241,⟨CC,K29,W,F241 n⟩,ct [Ct n,ZG n,EA n] [] n 10 241⟩
def F242:Y28:=
 λn b=>aD (av 0 b.1.2.2.2.2.2.1) (ai (F271 n (b.1,b.2.1,aR b.1.2.2.2.2.2.1 (ah 0) az,())) λc=>Z c)
def ak8(n:Nat):OC:=⟨242,⟨CC,K29,J,F242 n⟩,ct [JJ n] [] n 10 242⟩
def F160:Nat->Y22->O (Y22×U):=λn b=>Z (b,())
def C160(n:Nat):bz prog 160 (⟨P44,K45,J,F160 n⟩:kC sg):=S2 [] trivial (Yt []) J n 10 160 P44 K45 (by kernel_rfl) (Eq.trans (by kernel_rfl:_=λb:Y22=>GW (Yx b.1) (Z (([],()),())) (Z (b,()))) (funext rE))
def ac5(n:Nat):OC:=⟨160,⟨P44,K45,J,F160 n⟩,C160 n⟩
def PZ(e:Int×U)(k:aeE):Y1:=
 ((),k.2.1.2.1,eo k.2.1.2.2.1 0 (D.add .i64 e.1 1),k.2.1.2.2.2)
def F243:Y5:=
 λn b=>ai (@iter (Int×U) (cg×U) (U) (Any) (λc=>aj (D.ep 0 c.1) (aD (av c.1 b.1.2.2.1) (aD (av (aR b.1.2.2.1 (ah
 c.1) aV).1 b.2.1.1) (aj (D.aK (D.aG (aR b.2.1.1 (ah (aR b.1.2.2.1 (ah c.1) aV).1) aP).1 26)) (Z (LO.next (D.dH .i64
 c.1 1,()))) (Z (LO.out 0 c))))) (Z (LO.out 0 c))) n (D.dH .i64 (ak b.1.2.2.1) 1,())) λc=>LO.el c (λ_ e=>ai (F219 n (D.ep 0 e.1,
 3,())) λg=>Rx.el g (λ_=>aD (eS e.1 (ak b.1.2.2.1) (ak b.1.2.2.1)) (ai (F160 n (eo b.1.2.2.1 e.1 (ak b.1.2.2.1),())) λi=>
 ai (F274 n (b.1,b.2.1,aE.mk 5 0 [] i.1.1,())) λj=>Rx.el j (λk=>aD (eS 0 (D.add .i64 e.1 1) (ak k.2.1.2.2.1)) (ai (F277 n
 (k.2.1.2.2.2.2.1,[k.1.1],())) λl=>Rx.el l (λm=>ai (F174 n (PZ e k,k.2.2.1,0,m.1)) λo=>Rx.el o (λp=>Z (Rx.ok p)) λp
 =>Z (Rx.dm p)) λm=>Z (Rx.dm (m.1,PZ e k,k.2.2)))) λk=>Z (Rx.dm k))) λh=>Z (Rx.dm (h.1,b))) (λ_ e=>Z
 (Rx.ok (e,b))) λ_ e=>Z (Rx.dm (e,b))
def ak7(n:Nat):OC:=⟨243,⟨CC,K29,W,F243 n⟩,ct [ac5 n,V2 n,Ct n,Td n,ZE n] [(243,0,⟨[(3,de)],[],[],0⟩)] n 10 243⟩
def F244:Y28:=
 λn b=>ai (F48 n ()) λc=>ai (F48 n ()) λd=>ai (F280 n (b.1,b.2.1,c.1.1,d.1)) λe=>Z e
def ak6(n:Nat):OC:=⟨244,⟨CC,K29,J,F244 n⟩,ct [ZC n,EA n] [] n 10 244⟩
def sW(b:GX):Int:=
 D.dH .i64 (ak b.2.2.1.4) 1
def iG(b:GX):au:=
 aR b.2.2.1.4 (ah (sW b)) aV
def ym(b:GX):bp:=
 aR b.2.1.1 (ah (iG b).1) aP
def KJ(b:GX):Y1:=
 ((),b.1.2.1,b.1.2.2.1,b.1.2.2.2.1,b.1.2.2.2.2.1,b.1.2.2.2.2.2.1,(ym b).1,(ym b).2,(ym b).3,(ym b).4,b.1.2.2.2.2.2.2.2.2.2.2)
def gk(b:GX)(e:Xx):Y1×Y2×U:=
 (((),e.2.1.2.1,e.2.1.2.2.1,(iG b).1,(iG b).2,(iG b).3,e.2.1.2.2.2.2.2.2),e.2.2)
def KI(n:Nat)(b:GX)(e:Xx):O (Rx Y3 Y4):=
 ai (F221 n (gk b e)) λg=>Z (Rx.ok g)
def KH(n:Nat)(b:GX)(e:Xx):O (Rx Y3 Y4):=
 ai (F227 n (gk b e)) λg=>Rx.el g (λh=>Z (Rx.ok h)) λh=>Z (Rx.dm h)
def F115:Nat->GX->O (Rx Y3 Y4):=
 λn b=>aj (D.bO 0 (ak b.2.2.1.3)) (aD (av (sW b) b.2.2.1.4) (aD (eS 0 (sW b) (ak b.2.2.1.4)) (ai (F171 n (b.1,b.2.1,eo
 b.2.2.1.4 0 (sW b),())) λc=>Rx.el c (λd=>aD (av 0 b.2.2.1.3) (aD (CA (eS 0 (ak (iG b).3) (ak (iG b).3)) (iq (ak
 (iG b).3) (ak (iG b).3))) (aD (cX (eo (iG b).3 0 (ak (iG b).3)) [aR b.2.2.1.3 (ah 0) az]) (ai (F171 n (d.2.1,
 d.2.2.1,[au.mk (iG b).1 (iG b).2 (cM (eo (iG b).3 0 (ak (iG b).3)) [aR b.2.2.1.3 (ah 0) az])],())) λe=>
 Rx.el e (λg=>Z (Rx.ok ((cg.a3 je.mk,()),g.2))) λg=>Z (Rx.dm g))))) λd=>Z (Rx.dm d)))) (aD (av (sW b)
 b.2.2.1.4) (aD (av (iG b).1 b.2.1.1) (ai (F173 n (ym b,())) λc=>aj (D.bO (ak (iG b).3) c.1.1) (ai (F171 n (KJ b,b.2.1,
 b.2.2.1.4,())) λd=>Rx.el d (λe=>ai (F174 n (e.2.1,e.2.2.1,ak (iG b).3,(iG b).2,())) λg=>Rx.el g (λh=>Z (Rx.ok
 h)) λh=>Z (Rx.dm h)) λe=>Z (Rx.dm e)) (aD (eS 0 (sW b) (ak b.2.2.1.4)) (ai (F171 n (KJ b,b.2.1,eo b.2.2.1.4 0
 (sW b),())) λd=>Rx.el d (λe=>aj (iq e.2.1.2.2.2.2.2.2.1 0) Y (aj (iq e.2.1.2.2.2.2.2.2.1 1) (KI n b e) (aj (iq
 e.2.1.2.2.2.2.2.2.1 2) (KI n b e) (aj (iq e.2.1.2.2.2.2.2.2.1 3) (KI n b e) (aj (iq e.2.1.2.2.2.2.2.2.1 4) (ai (F222 n (gk b e)) λg
 =>Rx.el g (λh=>Z (Rx.ok h)) λh=>Z (Rx.dm h)) (aj (iq e.2.1.2.2.2.2.2.2.1 5) (ai (F223 n (gk b e)) λg=>Rx.el g (λh=>
 Z (Rx.ok h)) λh=>Z (Rx.dm h)) (aj (iq e.2.1.2.2.2.2.2.2.1 6) (ai (F224 n (gk b e)) λg=>Rx.el g (λh=>Z (Rx.ok h)) λh
 =>Z (Rx.dm h)) (aj (iq e.2.1.2.2.2.2.2.2.1 7) (ai (F225 n (gk b e)) λg=>Rx.el g (λh=>Z (Rx.ok h)) λh=>Z (Rx.dm h))
 (aj (iq e.2.1.2.2.2.2.2.2.1 8) (ai (F226 n (gk b e)) λg=>Rx.el g (λh=>Z (Rx.ok h)) λh=>Z (Rx.dm h)) (aj (iq
 e.2.1.2.2.2.2.2.2.1 9) (KH n b e) (aj (iq e.2.1.2.2.2.2.2.2.1 10) (KH n b e) (aj (iq e.2.1.2.2.2.2.2.2.1 11) (KH n b e) (aj (iq
 e.2.1.2.2.2.2.2.2.1 12) (ai (F228 n (gk b e)) λg=>Rx.el g (λh=>Z (Rx.ok h)) λh=>Z (Rx.dm h)) (aj (iq e.2.1.2.2.2.2.2.2.1
 13) (ai (F229 n (gk b e)) λg=>Rx.el g (λh=>Z (Rx.ok h)) λh=>Z (Rx.dm h)) (aj (iq e.2.1.2.2.2.2.2.2.1 14) (ai (F230 n
 (gk b e)) λg=>Rx.el g (λh=>Z (Rx.ok h)) λh=>Z (Rx.dm h)) (aj (iq e.2.1.2.2.2.2.2.2.1 15) (ai (F231 n (gk b e)) λg
 =>Rx.el g (λh=>Z (Rx.ok h)) λh=>Z (Rx.dm h)) (aj (iq e.2.1.2.2.2.2.2.2.1 16) (ai (F232 n (gk b e)) λg=>Rx.el g (λh=>
 Z (Rx.ok h)) λh=>Z (Rx.dm h)) (aj (iq e.2.1.2.2.2.2.2.2.1 17) (ai (F233 n (gk b e)) λg=>Rx.el g (λh=>Z (Rx.ok h)) λh
 =>Z (Rx.dm h)) (aj (iq e.2.1.2.2.2.2.2.2.1 18) (ai (F234 n (gk b e)) λg=>Rx.el g (λh=>Z (Rx.ok h)) λh=>Z (Rx.dm h))
 (aj (iq e.2.1.2.2.2.2.2.2.1 19) (ai (F235 n (gk b e)) λg=>Rx.el g (λh=>Z (Rx.ok h)) λh=>Z (Rx.dm h)) (aj (iq
 e.2.1.2.2.2.2.2.2.1 20) (ai (F236 n (gk b e)) λg=>Rx.el g (λh=>Z (Rx.ok h)) λh=>Z (Rx.dm h)) (aj (iq e.2.1.2.2.2.2.2.2.1
 21) (ai (F237 n (gk b e)) λg=>Rx.el g (λh=>Z (Rx.ok h)) λh=>Z (Rx.dm h)) (aj (iq e.2.1.2.2.2.2.2.2.1 22) (ai (F238 n
 (gk b e)) λg=>Rx.el g (λh=>Z (Rx.ok h)) λh=>Z (Rx.dm h)) (aj (iq e.2.1.2.2.2.2.2.2.1 23) (ai (F239 n (gk b e)) λg
 =>Rx.el g (λh=>Z (Rx.ok h)) λh=>Z (Rx.dm h)) (aj (iq e.2.1.2.2.2.2.2.2.1 24) (ai (F240 n (gk b e)) λg=>Rx.el g (λh=>
 Z (Rx.ok h)) λh=>Z (Rx.dm h)) (aj (iq e.2.1.2.2.2.2.2.2.1 25) (ai (F241 n (gk b e)) λg=>Rx.el g (λh=>Z (Rx.ok h)) λh
 =>Z (Rx.dm h)) (aj (iq e.2.1.2.2.2.2.2.2.1 26) (ai (F242 n (gk b e)) λg=>Z (Rx.ok g)) (aj (iq e.2.1.2.2.2.2.2.2.1 27) (ai (F243
 n (gk b e)) λg=>Rx.el g (λh=>Z (Rx.ok h)) λh=>Z (Rx.dm h)) (aj (iq e.2.1.2.2.2.2.2.2.1 28) (ai (F244 n (gk b e)) λg
 =>Z (Rx.ok g)) (aD J Y)))))))))))))))))))))))))))))) λe=>Z (Rx.dm e))))))
def amf(n:Nat):OC:=⟨115,⟨P33,K29,W,F115 n⟩,ct [ac4 n,ac3 n,V2 n,aly n,alx n,alw n,alv n,alu n,alq n,alp n,aln n,alm n,alk n,alj n,ali n,alh n,alg n,alf n,ale n,ald n,alc n,alb n,ala n,ak9 n,ak8 n,ak7 n,ak6 n] [] n 10 115⟩
def zZ(b:Y2×Int×U):Int:=
 aR b.1.2.2.2.2.2.1 (ah b.2.1) 0
def FN(b:Y2×Int×U):aE:=
 aR b.1.2.2.2.2.1 (ah (zZ b)) aU
def F70:Nat->Y2×Int×U->O ((cg×U)×Y2×U):=
 λn b=>aD (av b.2.1 b.1.2.2.2.2.2.1) (aD (av (zZ b) b.1.2.2.2.2.1) (aj (D.aK (D.aG (FN b).2 0)) (Z ((cg.a0 iE.mk,
 ()),b.1,())) (aj (D.aG (ak (FN b).4) 0) (ai (F170 n (b.1.2.2.2.2.1,())) λc=>aD (av b.2.1 b.1.2.2.2.2.2.1) (aD (av (zZ b)
 c.1.1) (aD (cz (ah (zZ b)) c.1.1) (aD (av 0 (FN b).3) (ai (F112 n (aR (FN b).3 (ah 0) az,())) λd=>Z ((cg.a1
 (gI.mk (aA.mk b.2.1 0 1 d.1.1)),()),(b.1.1,b.1.2.1,b.1.2.2.1,b.1.2.2.2.1,dV c.1.1 (ah (zZ b)) (aE.mk 6 1 (FN b).3
 []),b.1.2.2.2.2.2),())))))) (ai (F115 n (((),b.2.1,[],0,[],[],0,0,[],[],[],()),b.1,FN b,())) λc=>Rx.el c (λd=>ai (F71 n
 d.1) λe=>aj (D.aK (D.aG e.1.1 2)) (ai (F170 n (d.2.2.1.2.2.2.2.1,())) λg=>aD (av b.2.1 d.2.2.1.2.2.2.2.2.1) (aD (av (aR
 d.2.2.1.2.2.2.2.2.1 (ah b.2.1) 0) g.1.1) (aD (cz (ah (aR d.2.2.1.2.2.2.2.2.1 (ah b.2.1) 0)) g.1.1) (Z (d.1,(d.2.2.1.1,d.2.2.1.2.1,
 d.2.2.1.2.2.1,d.2.2.1.2.2.2.1,dV g.1.1 (ah (aR d.2.2.1.2.2.2.2.2.1 (ah b.2.1) 0)) (aE.mk 6 0 d.2.1.2.2.2.2.2.2.2.2.2.2.1 d.2.1.2.2.1),
 d.2.2.1.2.2.2.2.2),()))))) (Z (d.1,d.2.2))) λd=>aj (D.aK (isNil [(175,Ty.st 14)] (dj 30 d.1))) (ai (aj (D.aK (fW [(175,Ty.st
 14)] 0 (dj 30 d.1))) Y (Z (LO.next (J,())))) λ(e:Nx)=>LO.jn e (λ_=>ai (F170 n (b.1.2.2.2.2.1,())) λh=>aD (av
 b.2.1 b.1.2.2.2.2.2.1) (aD (av (zZ b) h.1.1) (aD (cz (ah (zZ b)) h.1.1) (ai (F114 n (gi (Sg.zero sg) [(175,Ty.st 14)] 0 (dj 30
 d.1),())) λi=>Z ((cg.a1 (gI.mk (aA.mk b.2.1 i.1.1.2 i.1.1.3 i.1.1.4)),()),(d.2.2.1.1,d.2.2.1.2.1,d.2.2.1.2.2.1,
 d.2.2.1.2.2.2.1,dV h.1.1 (ah (zZ b)) (aE.mk 6 (gi (Sg.zero sg) [(175,Ty.st 14)] 0 (dj 30 d.1)).1 [] []),b.1.2.2.2.2.2),())))))
 (λ_ _=>Y) (λ_ _=>Z ((cg.none,()),d.2.2)) λ_ _=>Y) (Z ((cg.none,()),d.2.2))))))
def k70(n:Nat):OC:=⟨70,⟨P46,K29,J,F70 n⟩,ct [k71 n,agB n,ac7 n,amf n,agw n] [(113,1000004,⟨[(17,cZ)],[],[],0⟩)] n 10 70⟩
def F50:Nat->Y2×Int×U->O aez:=
 λn b=>ai (@iter (Int×Int×Y2×U) (Int×Bool×U) (Y2×U) (Any) (λc=>aj (D.bO c.2.1 (ak b.1.2.2.2.2.2.1)) (ai (@iter (Int
 ×Y2×U) (Int×Bool×U) (Y2×U) (Any) (λd=>ai (F70 n (d.2.1,c.2.1,())) λe=>ai (F71 n e.1) λg=>aj (D.aK (D.aG g.1.1
 0)) (Z (LO.out 0 d)) (aj (D.bO 5000 (D.add .i64 d.1 1)) (Z (LO.ret d.2 (0,J,()))) (Z (LO.next (D.add .i64 d.1 1,e.2))))) n (c.1,
 c.2.2)) λd=>LO.el d (λ_ g=>Z (LO.next (g.1,D.add .i64 c.2.1 1,g.2))) (λe g=>Z (LO.ret e g)) λ_ _=>Y) (Z (LO.out 0
 c))) n (b.2.1,0,b.1,())) λc=>LO.el c (λ_ e=>Z ((e.1,W,()),e.2.2)) (λd e=>Z (e,d)) λ_ _=>Y
def k50(n:Nat):OC:=⟨50,⟨P46,K47,J,F50 n⟩,ct [k70 n,k71 n] [(50,0,⟨[(1,de),(14,de),(0,b2z)],[.slot 0],[],0⟩),(50,2,⟨[(1,de),(0,b2z)],[.slot 0],[],0⟩)] n 10 50⟩
def F90:Nat->L cS×U->O ((L cS×U)×U):=λn b=>Z (b,())
def C90(n:Nat):bz prog 90 (⟨P48,K49,J,F90 n⟩:kC sg):=S2 [] trivial (Yt []) J n 10 90 P48 K49 (by kernel_rfl) (Eq.trans (by kernel_rfl:_=λb:L cS×U=>GW (Yx b.1) (Z (([],()),())) (Z (b,()))) (funext rE))
def k90(n:Nat):OC:=⟨90,⟨P48,K49,J,F90 n⟩,C90 n⟩
def F159:Nat->L aq×U->O Y44:=λn b=>Z (b,())
def C159(n:Nat):bz prog 159 (⟨P50,K51,J,F159 n⟩:kC sg):=S2 [] trivial (Yt []) J n 10 159 P50 K51 (by kernel_rfl) (Eq.trans (by kernel_rfl:_=λb:L aq×U=>GW (Yx b.1) (Z (([],()),())) (Z (b,()))) (funext rE))
def agy(n:Nat):OC:=⟨159,⟨P50,K51,J,F159 n⟩,C159 n⟩
def F92:Nat->Int×U->Gn:=
 λn b=>Z (b,())
def k92(n:Nat):OC:=⟨92,⟨P11,K2,J,F92 n⟩,ct [] [] n 10 92⟩
def z4(b:Y2×U)(g:Int×wY×U):aE:=
 aR b.1.2.2.2.2.1 (ah g.1) aU
def tA(n:Nat)(h:Y44):Y46:=
 @iter (N1) (L aq×U) (U) (Any) (λi=>aj (D.bO i.2.1 (ak h.1.1)) (aD (av i.2.1 i.1) (aD (cz (ah i.2.1) i.1) (aj (D.aG
 (aR i.1 (ah i.2.1) az).1 5) (ai (F92 n ((aR i.1 (ah i.2.1) az).2,())) λj=>aD (av i.2.1 i.1) (aD (cz (ah i.2.1) i.1)
 (Z (LO.next (dV i.1 (ah i.2.1) (aq.mk (aR i.1 (ah i.2.1) az).1 j.1.1),D.add .i64 i.2.1 1,()))))) (Z (LO.next (i.1,D.add .i64
 i.2.1 1,())))))) (Z (LO.out 0 i))) n (h.1.1,0,())
def w7(m:Int×Ab×U):au:=
 aR m.2.1.2.2.2.1 (ah m.1) aV
def X0(n:Nat)(m:Int×Ab×U)(r:N1)(v:N1):Uv:=
 aD (av m.1 m.2.1.2.2.2.1) (aD (cz (ah m.1) m.2.1.2.2.2.1) (Z (LO.next (D.add .i64 m.1 1,(m.2.1.1,m.2.1.2.1,m.2.1.2.2.1,dV
 m.2.1.2.2.2.1 (ah m.1) (au.mk (w7 m).1 r.1 v.1),()),()))))
def abY(n:Nat)(m:Int×Ab×U)(r:N1)(v:L aq×U):Uv:=
 aD (av m.1 m.2.1.2.2.2.1) (aD (cz (ah m.1) m.2.1.2.2.2.1) (Z (LO.next (D.add .i64 m.1 1,(m.2.1.1,m.2.1.2.1,m.2.1.2.2.1,dV
 m.2.1.2.2.2.1 (ah m.1) (au.mk (w7 m).1 r.1 v.1),()),()))))
def RW(n:Nat)(m:Int×Ab×U)(r:N1):Uv:=
 ai (F159 n ((w7 m).3,())) λs=>ai (tA n s) λt=>LO.el t (λ_ v=>X0 n m r v) (λ_ v=>abY n m r v) λ_ _=>Y
def aiW(n:Nat)(m:Int×Ab×U)(r:L aq×U)(v:N1):Uv:=
 aD (av m.1 m.2.1.2.2.2.1) (aD (cz (ah m.1) m.2.1.2.2.2.1) (Z (LO.next (D.add .i64 m.1 1,(m.2.1.1,m.2.1.2.1,m.2.1.2.2.1,dV
 m.2.1.2.2.2.1 (ah m.1) (au.mk (w7 m).1 r.1 v.1),()),()))))
def aiV(n:Nat)(m:Int×Ab×U)(r:L aq×U)(v:L aq×U):Uv:=
 aD (av m.1 m.2.1.2.2.2.1) (aD (cz (ah m.1) m.2.1.2.2.2.1) (Z (LO.next (D.add .i64 m.1 1,(m.2.1.1,m.2.1.2.1,m.2.1.2.2.1,dV
 m.2.1.2.2.2.1 (ah m.1) (au.mk (w7 m).1 r.1 v.1),()),()))))
def RV(n:Nat)(m:Int×Ab×U)(r:L aq×U):Uv:=
 ai (F159 n ((w7 m).3,())) λs=>ai (tA n s) λt=>LO.el t (λ_ v=>aiW n m r v) (λ_ v=>aiV n m r v) λ_ _=>Y
def Kp(n:Nat)(b:Y2×U)(g:Int×wY×U)(k:N1):Y49:=
 ai (F160 n ((z4 b g).4,())) λl=>ai (@iter (Int×Ab×U) (U) (Ab×U) (Any) (λm=>aj (D.bO m.1 (ak l.1.1)) (aD (av m.1
 m.2.1.2.2.2.1) (aD (cz (ah m.1) m.2.1.2.2.2.1) (ai (F159 n ((w7 m).2,())) λo=>ai (tA n o) λp=>LO.el p (λ_ r=>RW n m r)
 (λ_ r=>RV n m r) λ_ _=>Y))) (Z (LO.out 0 m))) n (0,((z4 b g).1,(z4 b g).2,k.1,l.1),())) λm=>LO.el m (λ_ p=>aD
 (cX g.2.1.1 [aE.mk p.2.1.1 p.2.1.2.1 p.2.1.2.2.1 p.2.1.2.2.2.1]) (Z (LO.next (D.add .i64 g.1 1,(cM g.2.1.1 [aE.mk p.2.1.1 p.2.1.2.1
 p.2.1.2.2.1 p.2.1.2.2.2.1],g.2.1.2),())))) (λ_ _=>aD (cX g.2.1.1 [aU]) (Z (LO.next (D.add .i64 g.1 1,(cM g.2.1.1 [aU],
 g.2.1.2),())))) λ_ _=>Y
def PS(n:Nat)(b:Y2×U)(g:Int×wY×U)(k:L aq×U):Y49:=
 ai (F160 n ((z4 b g).4,())) λl=>ai (@iter (Int×Ab×U) (U) (Ab×U) (Any) (λm=>aj (D.bO m.1 (ak l.1.1)) (aD (av m.1
 m.2.1.2.2.2.1) (aD (cz (ah m.1) m.2.1.2.2.2.1) (ai (F159 n ((w7 m).2,())) λo=>ai (tA n o) λp=>LO.el p (λ_ r=>RW n m r)
 (λ_ r=>RV n m r) λ_ _=>Y))) (Z (LO.out 0 m))) n (0,((z4 b g).1,(z4 b g).2,k.1,l.1),())) λm=>LO.el m (λ_ p=>aD
 (cX g.2.1.1 [aE.mk p.2.1.1 p.2.1.2.1 p.2.1.2.2.1 p.2.1.2.2.2.1]) (Z (LO.next (D.add .i64 g.1 1,(cM g.2.1.1 [aE.mk p.2.1.1 p.2.1.2.1
 p.2.1.2.2.1 p.2.1.2.2.2.1],g.2.1.2),())))) (λ_ _=>aD (cX g.2.1.1 [aU]) (Z (LO.next (D.add .i64 g.1 1,(cM g.2.1.1 [aU],
 g.2.1.2),())))) λ_ _=>Y
def F51:Y51:=
 λn b=>ai (F49 n (b.1.2.2.2.2.2.1,())) λc=>ai (F90 n (b.1.2.2.2.2.2.2.1,())) λd=>ai (F49 n (b.1.2.2.2.2.2.2.2.1,())) λe=>ai
 (@iter (Int×wY×U) (U) (wY×U) (Any) (λg=>aj (D.bO g.1 (ak b.1.2.2.2.2.1)) (aD (av g.1 b.1.2.2.2.2.1) (ai (F159 n ((z4 b
 g).3,())) λh=>ai (tA n h) λi=>LO.el i (λ_ k=>Kp n b g k) (λ_ k=>PS n b g k) λ_ _=>Y)) (Z (LO.out 0 g))) n
 (0,([],c.1.1,d.1.1,e.1.1,b.1.2.2.2.2.2.2.2.2),())) λg=>LO.el g (λ_ i=>Z ((aa.mk i.2.1.1 i.2.1.2.1 i.2.1.2.2.1 i.2.1.2.2.2.1
 i.2.1.2.2.2.2.1,()),b)) (λ_ _=>Z ((bF,()),b)) λ_ _=>Y
def k51(n:Nat):OC:=⟨51,⟨P52,K53,J,F51 n⟩,ct [k49 n,k90 n,k92 n,agy n,ac5 n] [(51,0,⟨[(36,de),(0,.box (.cells [.own (.st 6),Cz,Kc,Cz,lQ]))],[.slot 3],[],0⟩),(91,0,⟨[(21,de),(0,ah3)],[.slot 2],[(19,1002003)],0⟩),(158,0,⟨[(0,.one (.own (.st 4))),(10,de)],[],[(8,0)],0⟩)] n 10 51⟩
def F14:Nat->Y29->O Y30:=
 λn b=>ai (F46 n (b.1,())) λc=>aj (D.aK (D.aG c.1.1 0)) (Z ((bF,2,()),())) (ai (F47 n b.2) λd=>aj (D.aK d.1.1)
 (Z ((bF,2,()),())) (aD (av b.1.3 b.1.2) (ai (F48 n ()) λe=>ai (F49 n b.2) λg=>ai (F50 n ((b.1.1,b.1.2,b.1.3,b.1.4,
 [aE.mk 6 0 [] [au.mk (aR b.1.2 (ah b.1.3) 0) [e.1.1] []]],[0],[],g.1.1,0,()),0,())) λh=>aj (D.aK h.1.2.1) (Z
 ((bF,8,()),())) (ai (F51 n h.2) λi=>Z ((i.1.1,0,()),())))))
def k14(n:Nat):OC:=⟨14,⟨P54,K55,J,F14 n⟩,ct [k46 n,k47 n,ZC n,k49 n,k50 n,k51 n] [] n 10 14⟩
def F211:Nat->cq×aq×U->O fc:=
 λn b=>aj (D.aG b.2.1.1 1) (ai (F69 n (b.2.1.2,(-1000000000),1000000000,())) λc=>Z c) (aj (D.aG b.2.1.1 2) (ai (F69 n (b.2.1.2,0,
 1,())) λc=>Z c) (aj (D.aG b.2.1.1 3) (Z ((D.aG b.2.1.2 0,()),())) (aj (D.aG b.2.1.1 4) (ai (F69 n (b.2.1.2,0,D.dH .i64 (ak
 b.1.1.2) 1,())) λc=>Z c) (aj (D.aG b.2.1.1 5) (ai (F69 n (b.2.1.2,0,D.dH .i64 (ak b.1.2.1) 1,())) λc=>Z c) (Z ((J,
 ()),()))))))
def agp(n:Nat):OC:=⟨211,⟨P56,K4,J,F211 n⟩,ct [ZB n] [] n 10 211⟩
def X8(n:Nat)(e:Int×U):fc->O T8:=
 λg=>aj (D.aK g.1.1) (Z (LO.ret () e)) (Z (LO.next (D.add .i64 e.1 1,())))
def X7(n:Nat)(b:aio):O fc:=
 ai (@iter (Int×U) (Int×U) (U) (Any) (λi=>aj (D.bO i.1 (ak b.2.1.3)) (aD (av i.1 b.2.1.3) (ai (F211 n (b.1,aR b.2.1.3 (ah
 i.1) az,())) (X8 n i))) (Z (LO.out 0 i))) n (0,())) λi=>LO.el i (λ_ _=>Z ((D.aK J,()),())) (λ_ k=>Z
 ((D.aK (D.ep 0 k.1),()),())) λ_ _=>Y
def FR(n:Nat):O fc:=
 Z ((J,()),())
def F266:ain:=
 λn b=>ai (F69 n (b.2.1.1,0,D.dH .i64 (ak b.1.1.1) 1,())) λc=>aj c.1.1 (aj (D.ep (ak b.2.1.2) 30) (aD (av b.2.1.1 b.1.1.1)
 (ai (F173 n (aR b.1.1.1 (ah b.2.1.1) aP,())) λd=>aj (D.ep (ak b.2.1.3) d.1.1) (ai (@iter (Int×U) (Int×U) (U) (Any)
 (λe=>aj (D.bO e.1 (ak b.2.1.2)) (aD (av e.1 b.2.1.2) (ai (F211 n (b.1,aR b.2.1.2 (ah e.1) az,())) (X8 n e))) (Z (LO.out
 0 e))) n (0,())) λe=>LO.el e (λ_ _=>aj (D.aK J) (X7 n b) (FR n)) (λ_ h=>aj (D.aK (D.ep 0 h.1)) (X7 n b) (FR
 n)) λ_ _=>Y) (FR n))) (FR n)) (FR n)
def akX(n:Nat):OC:=⟨266,⟨P57,K4,J,F266 n⟩,ct [ZB n,ac3 n,agp n] [(294,0,⟨[(8,de)],[],[],0⟩)] n 10 266⟩
def F267:ain:=
 λn b=>aD (av b.2.1.1 b.1.1.1) (ai (F173 n (aR b.1.1.1 (ah b.2.1.1) aP,())) λc=>Z ((D.bO (ak b.2.1.3) c.1.1,()),()))
def akW(n:Nat):OC:=⟨267,⟨P57,K4,J,F267 n⟩,ct [ac3 n] [] n 10 267⟩
def Yb(n:Nat)(c:Int×U):fc->O T8:=
 λd=>aj (D.aK d.1.1) (Z (LO.ret () c)) (Z (LO.next (D.add .i64 c.1 1,())))
def FX(b:aer):L au:=
 eo b.2.1 0 (El 0 (D.dH .i64 (ak b.2.1) b.2.2.1))
def Ky(n:Nat)(b:aer):O fc:=
 aD (eS 0 (El 0 (D.dH .i64 (ak b.2.1) b.2.2.1)) (ak b.2.1)) (ai (@iter (Int×U) (Int×U) (U) (Any) (λg=>aj (D.bO g.1 (ak
 (FX b))) (aD (av g.1 (FX b)) (ai (F267 n (b.1,aR (FX b) (ah g.1) aV,())) (Yb n g))) (Z (LO.out 0 g))) n (0,()))
 λg=>LO.el g (λ_ _=>Z ((D.aK J,()),())) (λ_ i=>Z ((D.aK (D.ep 0 i.1),()),())) λ_ _=>Y)
def F212:Nat->aer->O fc:=
 λn b=>aj (D.ep (ak b.2.1) 40) (ai (@iter (Int×U) (Int×U) (U) (Any) (λc=>aj (D.bO c.1 (ak b.2.1)) (aD (av c.1 b.2.1)
 (ai (F266 n (b.1,aR b.2.1 (ah c.1) aV,())) (Yb n c))) (Z (LO.out 0 c))) n (0,())) λc=>LO.el c (λ_ _=>aj (D.aK J)
 (Ky n b) (Z ((J,()),()))) (λ_ e=>aj (D.aK (D.ep 0 e.1)) (Ky n b) (Z ((J,()),()))) λ_ _=>Y) (Z ((J,
 ()),()))
def ago(n:Nat):OC:=⟨212,⟨P58,K4,J,F212 n⟩,ct [akX n,akW n] [(310,0,⟨[(8,de)],[],[],0⟩)] n 10 212⟩
def FW(n:Nat):O fc:=
 Z ((J,()),())
def Kx(n:Nat)(b:Y78):O fc:=
 ai (F212 n (b.1,b.2.1.4,D.dH .i64 1 (ak b.2.1.3),())) λc=>Z c
def F213:Y79:=
 λn b=>aj (D.aG b.2.1.2 0) (aj (D.bO 1 (ak b.2.1.3)) (FW n) (aj (D.aG (ak b.2.1.4) 0) (aj (D.aG (ak b.2.1.3) 0) (FW n)
 (Kx n b)) (Kx n b))) (aj (D.aG b.2.1.2 1) (aj (D.aG (ak b.2.1.3) 1) (Z ((D.aG (ak b.2.1.4) 0,()),())) (FW n)) (ai (aj
 (D.aG b.2.1.2 2) (Z (LO.next (W,()))) (ai (aj (D.aG b.2.1.2 3) (Z (LO.next (W,()))) (Z (LO.next (D.aG b.2.1.2 4,())))) λ(c :
 FH)=>LO.jn c (λd=>Z (LO.next d)) (λ_ _=>Y) (λ_ e=>Z (LO.ret () e)) λ_ _=>Y)) λ(c:FH)=>LO.jn c (λd=>aj
 d.1 (aj (D.aG (ak b.2.1.3) 0) (Z ((D.aG (ak b.2.1.4) 0,()),())) (FW n)) (FW n)) (λ_ _=>Y) (λ_ e=>Z (e,())) λ_ _
 =>Y))
def alz(n:Nat):OC:=⟨213,⟨P59,K4,J,F213 n⟩,ct [ago n] [(213,1000009,⟨[(45,cZ)],[],[],0⟩),(213,1000010,⟨[(45,cZ)],[],[],0⟩)] n 10 213⟩
def j6(n:Nat):O fc:=
 Z ((J,()),())
def Kz(n:Nat)(b:Y78):O fc:=
 aj (D.aG b.2.1.1 1) (aj (D.aG (ak b.2.1.4) 0) (ai (F69 n (b.2.1.2,0,D.dH .i64 (ak b.1.1.4) 1,())) λg=>aj g.1.1 (aD (av b.2.1.2
 b.1.1.4) (Z ((D.aG (ak b.2.1.3) (aR b.1.1.4 (ah b.2.1.2) bx).2,()),()))) (j6 n)) (j6 n)) (aj (D.aG b.2.1.1 2) (aj (D.aG
 (ak b.2.1.4) 0) (ai (F69 n (b.2.1.2,0,D.dH .i64 (ak b.1.1.1) 1,())) λg=>aj g.1.1 (aD (av b.2.1.2 b.1.1.1) (aj (D.aG (aR b.1.1.1
 (ah b.2.1.2) aP).1 5) (Z ((D.ep (ak b.2.1.3) 30,()),())) (j6 n))) (j6 n)) (j6 n)) (aj (D.aG b.2.1.1 3) (aj (D.aG (ak
 b.2.1.4) 0) (aj (D.aG b.2.1.2 0) (Z ((D.aG (ak b.2.1.3) 1,()),())) (j6 n)) (j6 n)) (aj (D.aG b.2.1.1 4) (aj (D.aG (ak b.2.1.4)
 0) (aj (D.aG b.2.1.2 0) (Z ((D.ep (ak b.2.1.3) 4,()),())) (j6 n)) (j6 n)) (aj (D.aG b.2.1.1 5) (aj (D.aG b.2.1.2 0) (aj (D.aG
 (ak b.2.1.3) 0) (aj (D.bO 0 (ak b.2.1.4)) (ai (F212 n (b.1,b.2.1.4,0,())) λg=>aj g.1.1 (aD (av 0 b.2.1.4) (aD (av (aR b.2.1.4
 (ah 0) aV).1 b.1.1.1) (Z ((D.aG (aR b.1.1.1 (ah (aR b.2.1.4 (ah 0) aV).1) aP).1 26,()),())))) (j6 n)) (j6
 n)) (j6 n)) (j6 n)) (aj (D.aG b.2.1.1 6) (ai (F213 n b) λg=>Z g) (j6 n))))))
def F163:Y79:=
 λn b=>ai (@iter (Int×U) (Int×U) (U) (Any) (λc=>aj (D.bO c.1 (ak b.2.1.3)) (aD (av c.1 b.2.1.3) (ai (F211 n (b.1,aR
 b.2.1.3 (ah c.1) az,())) λd=>aj (D.aK d.1.1) (Z (LO.ret () c)) (Z (LO.next (D.add .i64 c.1 1,()))))) (Z (LO.out 0 c))) n (0,
 ())) λc=>LO.el c (λ_ _=>aj (D.aK (D.aK J)) (j6 n) (Kz n b)) (λ_ e=>aj (D.aK (D.aK (D.ep 0 e.1))) (j6 n)
 (Kz n b)) λ_ _=>Y
def alR(n:Nat):OC:=⟨163,⟨P59,K4,J,F163 n⟩,ct [ZB n,agp n,ago n,alz n] [(294,0,⟨[(8,de)],[],[],0⟩)] n 10 163⟩
def Bg(b:cq×U)(c:aic):Int:=
 aR b.1.2.2 (ah c.1) 0
def FY(n:Nat)(j:Int×U):O T8:=
 Z (LO.next (D.add .i64 j.1 1,()))
def Yc(n:Nat):T8->O fc:=
 λj=>LO.el j (λ_ _=>Z ((D.aK J,()),())) (λ_ l=>Z ((D.aK (D.ep 0 l.1),()),())) λ_ _=>Y
def F164:aii:=
 λn b=>ai (@iter (aic) (Bool×U) (L (Int×Bool)×U) (Any) (λc=>aj (D.bO c.1 (ak b.1.2.2)) (aD (av c.1 b.1.2.2) (ai (F69
 n (Bg b c,0,D.dH .i64 (ak b.1.2.1) 1,())) λd=>aj (D.aK d.1.1) (Z (LO.ret c.2 (J,()))) (aD (av (Bg b c) b.1.2.1) (aj
 (D.aK (D.aG (aR b.1.2.1 (ah (Bg b c)) aU).1 6)) (Z (LO.ret c.2 (J,()))) (aj (Gl (A:=sg.A) (Ty.int .i64) J (Bg b c)
 c.2.1) (Z (LO.ret c.2 (J,()))) (Z (LO.next (D.add .i64 c.1 1,nu (A:=sg.A) (Ty.int .i64) (Bg b c) W c.2.1,())))))))) (Z
 (LO.out 0 c))) n (0,[],())) λc=>LO.el c (λ_ e=>ai (@iter (Int×(L Int×U)×U) (U) (Y18) (Any) (λg=>aj (D.bO g.1
 (ak b.1.2.1)) (aD (cX g.2.1.1 [g.1]) (Z (LO.next (D.add .i64 g.1 1,(cM g.2.1.1 [g.1],()),())))) (Z (LO.out 0 g))) n (0,([],()),()))
 λg=>LO.el g (λ_ i=>ai (@iter (Int×U) (Int×U) (U) (Any) (λj=>aj (D.bO j.1 (ak i.2.1.1)) (aD (av j.1 i.2.1.1) (aD
 (cz (ah j.1) i.2.1.1) (aj (Gl (A:=sg.A) (Ty.int .i64) J (aR i.2.1.1 (ah j.1) 0) e.2.1) (FY n j) (aD (av (aR i.2.1.1 (ah j.1)
 0) b.1.2.1) (aj (D.aK (D.aK (D.aG (aR b.1.2.1 (ah (aR i.2.1.1 (ah j.1) 0)) aU).1 6))) (Z (LO.ret () j)) (FY n j)))))) (Z
 (LO.out 0 j))) n (0,())) (Yc n)) (λh _=>ai (@iter (Int×U) (Int×U) (U) (Any) (λj=>aj (D.bO j.1 (ak h.1.1)) (aD (av
 j.1 h.1.1) (aD (cz (ah j.1) h.1.1) (aj (Gl (A:=sg.A) (Ty.int .i64) J (aR h.1.1 (ah j.1) 0) e.2.1) (FY n j) (aD (av (aR h.1.1
 (ah j.1) 0) b.1.2.1) (aj (D.aK (D.aK (D.aG (aR b.1.2.1 (ah (aR h.1.1 (ah j.1) 0)) aU).1 6))) (Z (LO.ret () j)) (FY n j))))))
 (Z (LO.out 0 j))) n (0,())) (Yc n)) λ_ _=>Y) (λ_ e=>Z (e,())) λ_ _=>Y
def alQ(n:Nat):OC:=⟨164,⟨P60,K4,J,F164 n⟩,ct [ZB n] [(164,0,⟨[(13,de),(0,.box (.map (.int .i64) (.bool)))],[.cell (.slot 3) 0],[],0⟩),(207,0,⟨[(8,de)],[],[],0⟩),(269,0,⟨[(5,de),(0,aef)],[.rnd (.slot 0) 2],[],0⟩)] n 10 164⟩
def F166:Nat->cS×U->O fc:=
 λn b=>ai (F69 n (b.1.1,0,3,())) λc=>aj c.1.1 (ai (F69 n (b.1.2,(-1000000000),1000000000,())) λd=>Z d) (Z ((J,()),
 ()))
def alP(n:Nat):OC:=⟨166,⟨P61,K4,J,F166 n⟩,ct [ZB n] [] n 10 166⟩
def w4(n:Nat):O fc:=
 Z ((J,()),())
def NI(n:Nat)(b:cq×U):O fc:=
 ai (F47 n (b.1.2.4,())) λk=>aj k.1.1 (ai (F69 n (b.1.2.5,0,1000000000,())) λl=>Z l) (w4 n)
def Cd(n:Nat)(b:cq×U):O fc:=
 ai (F164 n b) λg=>aj g.1.1 (aj (D.ep (ak b.1.2.3) 100) (ai (@iter (Int×U) (Int×U) (U) (Any) (λh=>aj (D.bO h.1 (ak
 b.1.2.3)) (aD (av h.1 b.1.2.3) (ai (F166 n (aR b.1.2.3 (ah h.1) gF,())) λi=>aj (D.aK i.1.1) (Z (LO.ret () h)) (Z (LO.next
 (D.add .i64 h.1 1,()))))) (Z (LO.out 0 h))) n (0,())) λh=>LO.el h (λ_ _=>aj (D.aK J) (NI n b) (w4 n)) (λ_ j=>aj
 (D.aK (D.ep 0 j.1)) (NI n b) (w4 n)) λ_ _=>Y) (w4 n)) (w4 n)
def F99:aii:=
 λn b=>aj (D.ep (ak b.1.2.1) 120) (ai (@iter (Int×U) (Int×U) (U) (Any) (λc=>aj (D.bO c.1 (ak b.1.2.1)) (aD (av c.1
 b.1.2.1) (ai (F163 n (b.1,aR b.1.2.1 (ah c.1) aU,())) λd=>aj (D.aK d.1.1) (Z (LO.ret () c)) (Z (LO.next (D.add .i64 c.1 1,
 ()))))) (Z (LO.out 0 c))) n (0,())) λc=>LO.el c (λ_ _=>aj (D.aK J) (Cd n b) (w4 n)) (λ_ e=>aj (D.aK (D.ep 0 e.1))
 (Cd n b) (w4 n)) λ_ _=>Y) (w4 n)
def k99(n:Nat):OC:=⟨99,⟨P60,K4,J,F99 n⟩,ct [k47 n,ZB n,alR n,alQ n,alP n] [(262,0,⟨[(8,de)],[],[],0⟩),(270,0,⟨[(8,de)],[],[],0⟩)] n 10 99⟩
def F110:Nat->cq×Int×U->Gn:=
 λn b=>ai (F70 n ((b.1.1.1,b.1.1.2,b.1.1.3,b.1.1.4,b.1.2.1,b.1.2.2,b.1.2.3,b.1.2.4,b.1.2.5,()),b.2)) λc=>ai (F71 n c.1) λd=>
 Z d
def amg(n:Nat):OC:=⟨110,⟨P62,K2,J,F110 n⟩,ct [k70 n,k71 n] [] n 10 110⟩
def F68:Nat->Y2×U->O ((L Int×U)×Y2×U):=
 λn b=>ai (@iter (Xs) (L Int×U) (U) (Any) (λc=>aj (D.bO c.2.1 (ak b.1.2.2.2.2.2.1)) (ai (F110 n (cq.mk (ax.mk
 b.1.1 b.1.2.1 b.1.2.2.1 b.1.2.2.2.1) (aa.mk b.1.2.2.2.2.1 b.1.2.2.2.2.2.1 b.1.2.2.2.2.2.2.1 b.1.2.2.2.2.2.2.2.1 b.1.2.2.2.2.2.2.2.2.1),c.2))
 λd=>aj (D.aK (D.aG d.1.1 2)) (aD (cX c.1 [c.2.1]) (Z (LO.next (cM c.1 [c.2.1],D.add .i64 c.2.1 1,())))) (Z (LO.next (c.1,D.add .i64
 c.2.1 1,())))) (Z (LO.out 0 c))) n ([],0,())) λc=>LO.el c (λ_ e=>Z ((e.1,()),b)) (λ_ e=>Z (e,b)) λ_ _=>Y
def k68(n:Nat):OC:=⟨68,⟨P52,K63,J,F68 n⟩,ct [amg n] [(68,0,⟨[(3,.one (.own (.int .i64))),(11,de)],[],[],0⟩)] n 10 68⟩
def F335:Nat->iE×U->O Y39:=
 λn _=>Z ((aH,()),())
def agb(n:Nat):OC:=⟨335,⟨aoZ,K24,J,F335 n⟩,ct [] [] n 10 335⟩
def F336:Nat->gI×U->O Y39:=
 λn b=>Z ((b.1.1,()),())
def aga(n:Nat):OC:=⟨336,⟨aoY,K24,J,F336 n⟩,ct [] [] n 10 336⟩
def F337:Nat->je×U->O Y39:=
 λn _=>Z ((aH,()),())
def af9(n:Nat):OC:=⟨337,⟨aoX,K24,J,F337 n⟩,ct [] [] n 10 337⟩
def NM(n:Nat)(c:aez):aey:=
 Z ((aH,0,8,()),c.2)
def Cg:L (Nat×Ty):=
 [(170,Ty.st 12),(173,Ty.st 13),(175,Ty.st 14),(181,Ty.st 15)]
def RU(n:Nat)(i:aez):Y39->aey:=
 λj=>Z ((j.1.1,i.1.1,0,()),i.2)
def F59:Nat->Y2×Int×U->aey:=
 λn b=>ai (F50 n (b.1,0,())) λc=>aj (D.aK c.1.2.1) (NM n c) (ai (F68 n c.2) λd=>aj (D.aG (ak d.1.1) 0) (Z ((aH,
 0,5,()),d.2)) (aD (nzI (ak d.1.1)) (ai (aj (D.bO (D.rem b.2.1 (ak d.1.1)) 0) (Z (LO.next (D.add .i64 (D.rem b.2.1 (ak d.1.1)) (ak
 d.1.1),W,()))) (Z (LO.next (D.rem b.2.1 (ak d.1.1),J,())))) λ(e:LO (Int×Bool×U) (Int×Int×U) U Any)=>LO.jn e
 (λg=>aD (av g.1 d.1.1) (ai (F70 n (d.2.1,aR d.1.1 (ah g.1) 0,())) λh=>ai (F50 n (h.2.1,D.add .i64 c.1.1 1,())) λi=>aj
 (D.aK i.1.2.1) (NM n i) (aj (D.bO 5000 i.1.1) (NM n i) (aj (fW Cg 0 (dj 16 h.1.1)) (ai (F335 n (gi (Sg.zero sg) Cg 0 (dj
 16 h.1.1),())) (RU n i)) (aj (fW Cg 1 (dj 16 h.1.1)) (ai (F336 n (gi (Sg.zero sg) Cg 1 (dj 16 h.1.1),())) (RU n i)) (aj
 (fW Cg 2 (dj 16 h.1.1)) (ai (F114 n (gi (Sg.zero sg) Cg 2 (dj 16 h.1.1),())) (RU n i)) (aj (fW Cg 3 (dj 16 h.1.1))
 (ai (F337 n (gi (Sg.zero sg) Cg 3 (dj 16 h.1.1),())) (RU n i)) Y))))))) (λ_ _=>Y) (λ_ h=>Z ((aH,h),d.2))
 λ_ _=>Y)))
def k59(n:Nat):OC:=⟨59,⟨P46,K64,J,F59 n⟩,ct [k50 n,k68 n,k70 n,ac7 n,agb n,aga n,af9 n] [(59,1000009,⟨[(10,de),(31,cZ)],[],[],0⟩)] n 10 59⟩
def Ya(n:Nat):O Y80:=
 Z ((bF,[],2,()),())
def F21:aiG:=
 λn b=>ai (F46 n (b.1,())) λc=>aj (D.aK (D.aG c.1.1 0)) (Ya n) (ai (F99 n (cq.mk b.1 b.2.1,())) λd=>aj (D.aK d.1.1)
 (Ya n) (aj (D.bO 200 (ak b.2.2.1)) (Ya n) (ai (F50 n ((b.1.1,b.1.2,b.1.3,b.1.4,b.2.1.1,b.2.1.2,b.2.1.3,b.2.1.4,b.2.1.5,()),0,()))
 λe=>aj (D.aK e.1.2.1) (Z ((bF,[],8,()),())) (ai (@iter (L aA×Int×wY×Y2×U) (aiF) (wY×Y2×U) (Any)
 (λg=>aj (D.bO g.2.1 (ak b.2.2.1)) (aD (av g.2.1 b.2.2.1) (ai (F59 n (g.2.2.2.1,aR b.2.2.1 (ah g.2.1) 0,())) λh=>aj (D.aG
 h.1.2.2.1 5) (Z (LO.out 0 (g.1,g.2.1,([],[],[],[],g.2.2.1.2.2.2.2),h.2))) (aj (D.aK (D.aG h.1.2.2.1 0)) (Z (LO.ret (([],[],[],[],
 0,()),h.2) ([],h.1.2.2))) (aD (cX g.1 [h.1.1]) (Z (LO.next (cM g.1 [h.1.1],D.add .i64 g.2.1 1,([],[],[],[],g.2.2.1.2.2.2.2),
 h.2))))))) (Z (LO.out 0 (g.1,g.2.1,([],[],[],[],g.2.2.1.2.2.2.2),g.2.2.2)))) n ([],0,([],[],[],[],0,()),e.2)) λg=>LO.el g (λ_
 i=>ai (F51 n i.2.2.2) λj=>Z ((j.1.1,i.1,0,()),())) (λh i=>Z ((aa.mk [] [] [] [] h.1.2.2.2.2.1,i),())) λ_ _=>
 Y))))
def k21(n:Nat):OC:=⟨21,⟨P65,K66,J,F21 n⟩,ct [k46 n,k50 n,k51 n,k59 n,k99 n] [(21,0,⟨[(13,.one (.own (.st 9))),(43,de),(0,.box (.cells [.nil (.st 6),.nil (.int .i64),.nil (.st 7),.nil (.int .i64),lQ])),(0,b2z)],[.slot 6,.slot 23],[],0⟩)] n 10 21⟩
def F25:aet:=
 λn b=>Z ((aq.mk 1 b.1,()),())
def k25(n:Nat):OC:=⟨25,⟨P11,K17,J,F25 n⟩,ct [] [] n 10 25⟩
def RS(b:Y2×U)(c:tS):Int:=
 aR b.1.2.2.2.2.2.1 (ah c.1) 0
def RR(b:Y2×U)(e:tS):Int:=
 ak (aR b.1.2.2.2.2.1 (ah (aR e.2.2.1.1 (ah 0) 0)) aU).3
def nI(b:Y2×U)(e:tS)(g:Int×U):au:=
 aR (aR b.1.2.2.2.2.1 (ah (aR e.2.2.1.1 (ah 0) 0)) aU).4 (ah g.1) aV
def IM(n:Nat)(g:Int×U):Y41:=
 Z (LO.next (D.add .i64 g.1 1,()))
def IL(b:Y2×U)(e:tS)(g:Int×U):L aq:=
 eo (nI b e g).3 1 (ak (nI b e g).3)
def abX(n:Nat)(b:Y2×U)(e:tS)(g:Int×U):Y41:=
 aj (D.aG (ak (nI b e g).3) 0) (IM n g) (aD (av 0 (nI b e g).3) (aj (D.aK (D.aG (aR (nI b e g).3 (ah 0) az).1 5)) (aD
 (eS 1 (ak (nI b e g).3) (ak (nI b e g).3)) (aj (D.aG (ak (IL b e g)) 0) (IM n g) (aD (av 0 (IL b e g)) (aj (D.aK (D.aG
 (aR (IL b e g) (ah 0) az).1 5)) (aD (eS 1 (ak (IL b e g)) (ak (IL b e g))) Y) (aD (av 0 (IL b e g)) Y))))) (aD
 (av 0 (nI b e g).3) Y)))
def IK(b:Y2×U)(e:tS)(g:Int×U):L aq:=
 eo (nI b e g).2 1 (ak (nI b e g).2)
def RQ(b:Y2×U)(e:tS):Int:=
 ak (aR b.1.2.2.2.2.1 (ah (aR e.2.2.1.1 (ah (D.add .i64 0 1)) 0)) aU).3
def nH(b:Y2×U)(e:tS)(j:Int×U):au:=
 aR (aR b.1.2.2.2.2.1 (ah (aR e.2.2.1.1 (ah (D.add .i64 0 1)) 0)) aU).4 (ah j.1) aV
def Bb(b:Y2×U)(e:tS)(j:Int×U):L aq:=
 eo (nH b e j).3 1 (ak (nH b e j).3)
def XZ(n:Nat)(b:Y2×U)(e:tS)(j:Int×U):Y41:=
 aj (D.aG (ak (nH b e j).3) 0) (IM n j) (aD (av 0 (nH b e j).3) (aj (D.aK (D.aG (aR (nH b e j).3 (ah 0) az).1 5)) (aD
 (eS 1 (ak (nH b e j).3) (ak (nH b e j).3)) (aj (D.aG (ak (Bb b e j)) 0) (IM n j) (aD (av 0 (Bb b e j)) (aj (D.aK
 (D.aG (aR (Bb b e j) (ah 0) az).1 5)) (aD (eS 1 (ak (Bb b e j)) (ak (Bb b e j))) Y) (aD (av 0 (Bb b e j))
 Y))))) (aD (av 0 (nH b e j).3) Y)))
def Ba(b:Y2×U)(e:tS)(j:Int×U):L aq:=
 eo (nH b e j).2 1 (ak (nH b e j).2)
def Ko(b:Y2×U)(m:tS):Int:=
 ak (aR b.1.2.2.2.2.1 (ah (aR m.2.2.1.1 (ah m.1) 0)) aU).3
def j5(b:Y2×U)(m:tS)(o:Int×U):au:=
 aR (aR b.1.2.2.2.2.1 (ah (aR m.2.2.1.1 (ah m.1) 0)) aU).4 (ah o.1) aV
def A9(b:Y2×U)(m:tS)(o:Int×U):L aq:=
 eo (j5 b m o).3 1 (ak (j5 b m o).3)
def XY(n:Nat)(b:Y2×U)(m:tS)(o:Int×U):Y41:=
 aj (D.aG (ak (j5 b m o).3) 0) (IM n o) (aD (av 0 (j5 b m o).3) (aj (D.aK (D.aG (aR (j5 b m o).3 (ah 0) az).1 5))
 (aD (eS 1 (ak (j5 b m o).3) (ak (j5 b m o).3)) (aj (D.aG (ak (A9 b m o)) 0) (IM n o) (aD (av 0 (A9 b m o)) (aj
 (D.aK (D.aG (aR (A9 b m o) (ah 0) az).1 5)) (aD (eS 1 (ak (A9 b m o)) (ak (A9 b m o))) Y) (aD (av 0 (A9 b m
 o)) Y))))) (aD (av 0 (j5 b m o).3) Y)))
def A8(b:Y2×U)(m:tS)(o:Int×U):L aq:=
 eo (j5 b m o).2 1 (ak (j5 b m o).2)
def XX(n:Nat)(b:Y2×U)(m:tS):O (LO tS U Y42 Any):=
 ai (@iter (Int×U) (U) (U) (Any) (λo=>aj (D.bO o.1 (ak (aR b.1.2.2.2.2.1 (ah (aR m.2.2.1.1 (ah m.1) 0)) aU).4)) (aD
 (av o.1 (aR b.1.2.2.2.2.1 (ah (aR m.2.2.1.1 (ah m.1) 0)) aU).4) (aj (D.aG (ak (j5 b m o).2) 0) (XY n b m o) (aD (av 0
 (j5 b m o).2) (aj (D.aK (D.aG (aR (j5 b m o).2 (ah 0) az).1 5)) (aD (eS 1 (ak (j5 b m o).2) (ak (j5 b m o).2)) (aj
 (D.aG (ak (A8 b m o)) 0) (XY n b m o) (aD (av 0 (A8 b m o)) (aj (D.aK (D.aG (aR (A8 b m o) (ah 0) az).1 5)) (aD
 (eS 1 (ak (A8 b m o)) (ak (A8 b m o))) Y) (aD (av 0 (A8 b m o)) Y))))) (aD (av 0 (j5 b m o).2) Y))))) (Z
 (LO.out 0 o))) n (0,())) λo=>LO.el o (λ_ _=>Y) (λ_ _=>Y) λ_ _=>Y
def XW(b:Y2×U)(m:tS):Bool:=
 av 0 (aR b.1.2.2.2.2.1 (ah (aR m.2.2.1.1 (ah m.1) 0)) aU).3
def A7(b:Y2×U)(m:tS):L aq:=
 eo (aR b.1.2.2.2.2.1 (ah (aR m.2.2.1.1 (ah m.1) 0)) aU).3 1 (Ko b m)
def ya(b:Y2×U)(p:tS)(s:Int×wY×U):aE:=
 aR b.1.2.2.2.2.1 (ah (aR p.2.2.1.1 (ah s.1) 0)) aU
def FO(n:Nat)(p:tS)(t:Y44):Y46:=
 @iter (N1) (L aq×U) (U) (Any) (λu=>aj (D.bO u.2.1 (ak t.1.1)) (aD (av u.2.1 u.1) (aD (cz (ah u.2.1) u.1) (aj (D.aG
 (aR u.1 (ah u.2.1) az).1 5) (aD (av u.2.1 u.1) (aD (cz (ah u.2.1) u.1) (Z (LO.next (dV u.1 (ah u.2.1) (aq.mk (aR u.1
 (ah u.2.1) az).1 (Gl (A:=sg.A) (Ty.int .i64) 0 (aR u.1 (ah u.2.1) az).2 p.2.1)),D.add .i64 u.2.1 1,()))))) (Z (LO.next (u.1,
 D.add .i64 u.2.1 1,())))))) (Z (LO.out 0 u))) n (t.1.1,0,())
def uV(y:Int×Ab×U):au:=
 aR y.2.1.2.2.2.1 (ah y.1) aV
def aeY(n:Nat)(y:Int×Ab×U)(a:N1)(h1:N1):Uv:=
 aD (av y.1 y.2.1.2.2.2.1) (aD (cz (ah y.1) y.2.1.2.2.2.1) (Z (LO.next (D.add .i64 y.1 1,(y.2.1.1,y.2.1.2.1,y.2.1.2.2.1,dV
 y.2.1.2.2.2.1 (ah y.1) (au.mk (uV y).1 a.1 h1.1),()),()))))
def aeX(n:Nat)(y:Int×Ab×U)(a:N1)(h1:L aq×U):Uv:=
 aD (av y.1 y.2.1.2.2.2.1) (aD (cz (ah y.1) y.2.1.2.2.2.1) (Z (LO.next (D.add .i64 y.1 1,(y.2.1.1,y.2.1.2.1,y.2.1.2.2.1,dV
 y.2.1.2.2.2.1 (ah y.1) (au.mk (uV y).1 a.1 h1.1),()),()))))
def XV(n:Nat)(p:tS)(y:Int×Ab×U)(a:N1):Uv:=
 ai (F159 n ((uV y).3,())) λd1=>ai (FO n p d1) λb=>LO.el b (λ_ h1=>aeY n y a h1) (λ_ h1=>aeX n y a h1) λ_ _
 =>Y
def aeW(n:Nat)(y:Int×Ab×U)(a:L aq×U)(h1:N1):Uv:=
 aD (av y.1 y.2.1.2.2.2.1) (aD (cz (ah y.1) y.2.1.2.2.2.1) (Z (LO.next (D.add .i64 y.1 1,(y.2.1.1,y.2.1.2.1,y.2.1.2.2.1,dV
 y.2.1.2.2.2.1 (ah y.1) (au.mk (uV y).1 a.1 h1.1),()),()))))
def aeV(n:Nat)(y:Int×Ab×U)(a:L aq×U)(h1:L aq×U):Uv:=
 aD (av y.1 y.2.1.2.2.2.1) (aD (cz (ah y.1) y.2.1.2.2.2.1) (Z (LO.next (D.add .i64 y.1 1,(y.2.1.1,y.2.1.2.1,y.2.1.2.2.1,dV
 y.2.1.2.2.2.1 (ah y.1) (au.mk (uV y).1 a.1 h1.1),()),()))))
def XU(n:Nat)(p:tS)(y:Int×Ab×U)(a:L aq×U):Uv:=
 ai (F159 n ((uV y).3,())) λd1=>ai (FO n p d1) λb=>LO.el b (λ_ h1=>aeW n y a h1) (λ_ h1=>aeV n y a h1) λ_ _
 =>Y
def aeU(n:Nat)(b:Y2×U)(p:tS)(s:Int×wY×U)(w:N1):Y49:=
 ai (F160 n ((ya b p s).4,())) λx=>ai (@iter (Int×Ab×U) (U) (Ab×U) (Any) (λy=>aj (D.bO y.1 (ak x.1.1)) (aD (av
 y.1 y.2.1.2.2.2.1) (aD (cz (ah y.1) y.2.1.2.2.2.1) (ai (F159 n ((uV y).2,())) λz=>ai (FO n p z) λa1=>LO.el a1 (λ_ a=>
 XV n p y a) (λ_ a=>XU n p y a) λ_ _=>Y))) (Z (LO.out 0 y))) n (0,((ya b p s).1,(ya b p s).2,w.1,x.1),())) λy
 =>LO.el y (λ_ a1=>aD (cX s.2.1.1 [aE.mk a1.2.1.1 a1.2.1.2.1 a1.2.1.2.2.1 a1.2.1.2.2.2.1]) (Z (LO.next (D.add .i64 s.1 1,(cM s.2.1.1
 [aE.mk a1.2.1.1 a1.2.1.2.1 a1.2.1.2.2.1 a1.2.1.2.2.2.1],s.2.1.2),())))) (λ_ _=>aD (cX s.2.1.1 [aU]) (Z (LO.next (D.add .i64 s.1
 1,(cM s.2.1.1 [aU],s.2.1.2),())))) λ_ _=>Y
def aeT(n:Nat)(b:Y2×U)(p:tS)(s:Int×wY×U)(w:L aq×U):Y49:=
 ai (F160 n ((ya b p s).4,())) λx=>ai (@iter (Int×Ab×U) (U) (Ab×U) (Any) (λy=>aj (D.bO y.1 (ak x.1.1)) (aD (av
 y.1 y.2.1.2.2.2.1) (aD (cz (ah y.1) y.2.1.2.2.2.1) (ai (F159 n ((uV y).2,())) λz=>ai (FO n p z) λa1=>LO.el a1 (λ_ a=>
 XV n p y a) (λ_ a=>XU n p y a) λ_ _=>Y))) (Z (LO.out 0 y))) n (0,((ya b p s).1,(ya b p s).2,w.1,x.1),())) λy
 =>LO.el y (λ_ a1=>aD (cX s.2.1.1 [aE.mk a1.2.1.1 a1.2.1.2.1 a1.2.1.2.2.1 a1.2.1.2.2.2.1]) (Z (LO.next (D.add .i64 s.1 1,(cM s.2.1.1
 [aE.mk a1.2.1.1 a1.2.1.2.1 a1.2.1.2.2.1 a1.2.1.2.2.2.1],s.2.1.2),())))) (λ_ _=>aD (cX s.2.1.1 [aU]) (Z (LO.next (D.add .i64 s.1
 1,(cM s.2.1.1 [aU],s.2.1.2),())))) λ_ _=>Y
def XT(b:Y2×U)(v:Int×wY×U):Int:=
 aR b.1.2.2.2.2.2.1 (ah v.1) 0
def PR(n:Nat)(b:Y2×U)(p:tS):O Y50:=
 ai (F90 n (b.1.2.2.2.2.2.2.1,())) λq=>ai (F49 n (b.1.2.2.2.2.2.2.2.1,())) λr=>ai (@iter (Int×wY×U) (U) (wY×U) (Any)
 (λs=>aj (D.bO s.1 (ak p.2.2.1.1)) (aD (av s.1 p.2.2.1.1) (aD (cz (ah s.1) p.2.2.1.1) (aD (av (aR p.2.2.1.1 (ah s.1) 0)
 b.1.2.2.2.2.1) (ai (F159 n ((ya b p s).3,())) λt=>ai (FO n p t) λu=>LO.el u (λ_ w=>aeU n b p s w) (λ_ w=>aeT n b p
 s w) λ_ _=>Y)))) (Z (LO.out 0 s))) n (0,([],[],q.1.1,r.1.1,b.1.2.2.2.2.2.2.2.2),())) λs=>LO.el s (λ_ u=>ai (@iter (Int×
 wY×U) (U) (wY×U) (Any) (λv=>aj (D.bO v.1 (ak b.1.2.2.2.2.2.1)) (aD (av v.1 b.1.2.2.2.2.2.1) (aD (cX v.2.1.2.1 [Gl (A:=
 sg.A) (Ty.int .i64) 0 (XT b v) p.2.1]) (Z (LO.next (D.add .i64 v.1 1,(v.2.1.1,cM v.2.1.2.1 [Gl (A:=sg.A) (Ty.int .i64) 0 (XT b v)
 p.2.1],v.2.1.2.2),()))))) (Z (LO.out 0 v))) n (0,u.2)) λv=>LO.el v (λ_ x=>Z ((aa.mk x.2.1.1 x.2.1.2.1 x.2.1.2.2.1
 x.2.1.2.2.2.1 x.2.1.2.2.2.2.1,()),b)) (λ_ _=>Z ((bF,()),b)) λ_ _=>Y) (λ_ _=>Z ((bF,()),b)) λ_ _=>
 Y
def XS(n:Nat)(b:Y2×U)(e:tS):O Y50:=
 ai (@iter (tS) (U) (Y42) (Any) (λm=>aj (D.bO m.1 (ak m.2.2.1.1)) (aD (av m.1 m.2.2.1.1) (aD (cz (ah m.1) m.2.2.1.1) (aD (av
 (aR m.2.2.1.1 (ah m.1) 0) b.1.2.2.2.2.1) (aj (D.aG (Ko b m) 0) (XX n b m) (aD (XW b m) (aj (D.aK (D.aG (aR (aR b.1.2.2.2.2.1
 (ah (aR m.2.2.1.1 (ah m.1) 0)) aU).3 (ah 0) az).1 5)) (aD (eS 1 (Ko b m) (Ko b m)) (aj (D.aG (ak (A7 b m)) 0)
 (XX n b m) (aD (av 0 (A7 b m)) (aj (D.aK (D.aG (aR (A7 b m) (ah 0) az).1 5)) (aD (eS 1 (ak (A7 b m)) (ak (A7
 b m))) Y) (aD (av 0 (A7 b m)) Y))))) (aD (XW b m) Y))))))) (Z (LO.out 0 m))) n (D.add .i64 (D.add .i64 0 1) 1,e.2)) λm=>
 LO.el m (λ_ p=>PR n b p) (λ_ _=>Z ((bF,()),b)) λ_ _=>Y
def XR(n:Nat)(b:Y2×U)(e:tS):O Y50:=
 ai (@iter (Int×U) (U) (U) (Any) (λj=>aj (D.bO j.1 (ak (aR b.1.2.2.2.2.1 (ah (aR e.2.2.1.1 (ah (D.add .i64 0 1)) 0))
 aU).4)) (aD (av j.1 (aR b.1.2.2.2.2.1 (ah (aR e.2.2.1.1 (ah (D.add .i64 0 1)) 0)) aU).4) (aj (D.aG (ak (nH b e j).2) 0)
 (XZ n b e j) (aD (av 0 (nH b e j).2) (aj (D.aK (D.aG (aR (nH b e j).2 (ah 0) az).1 5)) (aD (eS 1 (ak (nH b e j).2)
 (ak (nH b e j).2)) (aj (D.aG (ak (Ba b e j)) 0) (XZ n b e j) (aD (av 0 (Ba b e j)) (aj (D.aK (D.aG (aR (Ba b e j)
 (ah 0) az).1 5)) (aD (eS 1 (ak (Ba b e j)) (ak (Ba b e j))) Y) (aD (av 0 (Ba b e j)) Y))))) (aD (av 0 (nH b e
 j).2) Y))))) (Z (LO.out 0 j))) n (0,())) λj=>LO.el j (λ_ _=>XS n b e) (λ_ _=>XS n b e) λ_ _=>Y
def XQ(b:Y2×U)(e:tS):Bool:=
 av 0 (aR b.1.2.2.2.2.1 (ah (aR e.2.2.1.1 (ah (D.add .i64 0 1)) 0)) aU).3
def A6(b:Y2×U)(e:tS):L aq:=
 eo (aR b.1.2.2.2.2.1 (ah (aR e.2.2.1.1 (ah (D.add .i64 0 1)) 0)) aU).3 1 (RQ b e)
def XP(n:Nat)(b:Y2×U)(e:tS):O Y50:=
 aj (D.bO (D.add .i64 0 1) (ak e.2.2.1.1)) (aD (av (D.add .i64 0 1) e.2.2.1.1) (aD (cz (ah (D.add .i64 0 1)) e.2.2.1.1) (aD (av (aR
 e.2.2.1.1 (ah (D.add .i64 0 1)) 0) b.1.2.2.2.2.1) (aj (D.aG (RQ b e) 0) (XR n b e) (aD (XQ b e) (aj (D.aK (D.aG (aR (aR
 b.1.2.2.2.2.1 (ah (aR e.2.2.1.1 (ah (D.add .i64 0 1)) 0)) aU).3 (ah 0) az).1 5)) (aD (eS 1 (RQ b e) (RQ b e)) (aj (D.aG
 (ak (A6 b e)) 0) (XR n b e) (aD (av 0 (A6 b e)) (aj (D.aK (D.aG (aR (A6 b e) (ah 0) az).1 5)) (aD (eS 1 (ak
 (A6 b e)) (ak (A6 b e))) Y) (aD (av 0 (A6 b e)) Y))))) (aD (XQ b e) Y))))))) (PR n b e)
def XO(n:Nat)(b:Y2×U)(e:tS):O Y50:=
 ai (@iter (Int×U) (U) (U) (Any) (λg=>aj (D.bO g.1 (ak (aR b.1.2.2.2.2.1 (ah (aR e.2.2.1.1 (ah 0) 0)) aU).4)) (aD
 (av g.1 (aR b.1.2.2.2.2.1 (ah (aR e.2.2.1.1 (ah 0) 0)) aU).4) (aj (D.aG (ak (nI b e g).2) 0) (abX n b e g) (aD (av 0 (nI b
 e g).2) (aj (D.aK (D.aG (aR (nI b e g).2 (ah 0) az).1 5)) (aD (eS 1 (ak (nI b e g).2) (ak (nI b e g).2)) (aj (D.aG (ak
 (IK b e g)) 0) (abX n b e g) (aD (av 0 (IK b e g)) (aj (D.aK (D.aG (aR (IK b e g) (ah 0) az).1 5)) (aD (eS 1 (ak (IK
 b e g)) (ak (IK b e g))) Y) (aD (av 0 (IK b e g)) Y))))) (aD (av 0 (nI b e g).2) Y))))) (Z (LO.out 0 g))) n (0,())) λg
 =>LO.el g (λ_ _=>XP n b e) (λ_ _=>XP n b e) λ_ _=>Y
def A5(b:Y2×U)(e:tS):L aq:=
 eo (aR b.1.2.2.2.2.1 (ah (aR e.2.2.1.1 (ah 0) 0)) aU).3 1 (RR b e)
def F60:Y51:=
 λn b=>ai (@iter (tS) (U) (Y42) (Any) (λc=>aj (D.bO c.1 (ak b.1.2.2.2.2.2.1)) (aD (av c.1 b.1.2.2.2.2.2.1) (aj (D.aK (EM (A
 :=sg.A) (Ty.int .i64) (RS b c) c.2.1)) (aD (cX c.2.2.1.1 [RS b c]) (Z (LO.next (D.add .i64 c.1 1,nu (A:=sg.A) (Ty.int .i64) (RS b
 c) (ak c.2.2.1.1) c.2.1,(cM c.2.2.1.1 [RS b c],()),())))) (Z (LO.next (D.add .i64 c.1 1,c.2))))) (Z (LO.out 0 c))) n (0,[],([],()),
 ())) λc=>LO.el c (λ_ e=>aj (D.bO 0 (ak e.2.2.1.1)) (aD (av 0 e.2.2.1.1) (aD (cz (ah 0) e.2.2.1.1) (aD (av (aR e.2.2.1.1 (ah
 0) 0) b.1.2.2.2.2.1) (aj (D.aG (RR b e) 0) (XO n b e) (aD (av 0 (aR b.1.2.2.2.2.1 (ah (aR e.2.2.1.1 (ah 0) 0)) aU).3) (aj
 (D.aK (D.aG (aR (aR b.1.2.2.2.2.1 (ah (aR e.2.2.1.1 (ah 0) 0)) aU).3 (ah 0) az).1 5)) (aD (eS 1 (RR b e) (RR b e))
 (aj (D.aG (ak (A5 b e)) 0) (XO n b e) (aD (av 0 (A5 b e)) (aj (D.aK (D.aG (aR (A5 b e) (ah 0) az).1 5)) (aD (eS
 1 (ak (A5 b e)) (ak (A5 b e))) Y) (aD (av 0 (A5 b e)) Y))))) (aD (av 0 (aR b.1.2.2.2.2.1 (ah (aR e.2.2.1.1 (ah 0) 0))
 aU).3) Y))))))) (PR n b e)) (λ_ _=>Z ((bF,()),b)) λ_ _=>Y
def k60(n:Nat):OC:=⟨60,⟨P52,K53,J,F60 n⟩,ct [k49 n,k90 n,agy n,ac5 n] [(60,0,⟨[(24,de),(0,.box (.map (.int .i64) (.int .i64))),(0,aef)],[.cell (.slot 3) 0,.slot 4],[],0⟩),(60,2,⟨[(8,de),(0,.box (.map (.int .i64) (.int .i64))),(0,aef)],[.cell (.slot 3) 0,.slot 4],[],2⟩),(60,6,⟨[(75,de),(0,b6z)],[.slot 11],[],0⟩),(60,8,⟨[(101,de),(0,b6z)],[.slot 11],[],0⟩),(91,0,⟨[(21,de),(0,ah3)],[.slot 2],[(19,1002003)],0⟩),(158,0,⟨[(0,.one (.own (.st 4))),(10,de)],[],[(8,0)],0⟩),(167,0,⟨[(15,de)],[],[],0⟩)] n 3 60⟩
def F28:Nat->Y17->O Y30:=
 λn b=>ai (F46 n (b.1,())) λc=>aj (D.aK (D.aG c.1.1 0)) (Z ((bF,2,()),())) (ai (F99 n (cq.mk b.1 b.2.1,())) λ
 d=>aj (D.aK d.1.1) (Z ((bF,2,()),())) (ai (F60 n ((b.1.1,b.1.2,b.1.3,b.1.4,b.2.1.1,b.2.1.2,b.2.1.3,b.2.1.4,b.2.1.5,()),
 ())) λe=>Z ((e.1.1,0,()),())))
def k28(n:Nat):OC:=⟨28,⟨P67,K55,J,F28 n⟩,ct [k46 n,k60 n,k99 n] [] n 10 28⟩
def F32:aiz:=
 λn b=>ai (F46 n (b.1,())) λc=>aj (D.aK (D.aG c.1.1 0)) (Z ((bF,aH,0,2,()),())) (ai (F99 n (cq.mk b.1
 b.2.1,())) λd=>aj (D.aK d.1.1) (Z ((bF,aH,0,2,()),())) (ai (F59 n ((b.1.1,b.1.2,b.1.3,b.1.4,b.2.1.1,b.2.1.2,
 b.2.1.3,b.2.1.4,b.2.1.5,()),b.2.2)) λe=>aj (D.aK (D.aG e.1.2.2.1 0)) (Z ((bF,aH,0,e.1.2.2),())) (ai (F51 n e.2)
 λg=>Z ((g.1.1,e.1.1,e.1.2.1,0,()),()))))
def k32(n:Nat):OC:=⟨32,⟨P68,K69,J,F32 n⟩,ct [k46 n,k51 n,k59 n,k99 n] [] n 10 32⟩
def Kt(n:Nat)(c:Int×U):O T8:=
 Z (LO.next (D.add .i64 c.1 1,()))
def F284:Nat->Y64->Gn:=
 λn b=>ai (@iter (Int×U) (Int×U) (U) (Any) (λc=>aj (D.bO c.1 (ak b.1)) (aD (av c.1 b.1) (aj (D.aG (lC b.1 c.1) 32)
 (Kt n c) (aD (av c.1 b.1) (aj (D.aG (lC b.1 c.1) 9) (Kt n c) (aD (av c.1 b.1) (aj (D.aG (lC b.1 c.1) 10) (Kt n c) (aj (D.ep
 2 (D.dH .i64 (ak b.1) c.1)) (aD (eS c.1 (D.add .i64 c.1 2) (ak b.1)) (aj (gn (eo b.1 c.1 (D.add .i64 c.1 2)) [47,47]) (ai (@iter (Int×
 U) (Int×U) (U) (Any) (λd=>aj (D.bO d.1 (ak b.1)) (aD (av d.1 b.1) (aj (D.aK (D.aG (lC b.1 d.1) 10)) (Kt n d) (Z
 (LO.out 0 d)))) (Z (LO.out 0 d))) n c) λd=>LO.el d (λ_ g=>Z (LO.next g)) (λ_ g=>Z (LO.ret () g)) λ_ _=>Y) (Z (LO.ret
 () c)))) (Z (LO.ret () c))))))))) (Z (LO.out 0 c))) n b.2) λc=>LO.el c (λ_ e=>Z (e,())) (λ_ e=>Z (e,())) λ_ _=>Y
def akU(n:Nat):OC:=⟨284,⟨P70,K2,J,F284 n⟩,ct [] [(284,0,⟨[(1,de)],[],[],0⟩),(284,2,⟨[(1,de)],[],[],0⟩)] n 10 284⟩
def F142:Nat->aiv->O fc:=
 λn b=>ai (@iter (Int×U) (Bool×U) (U) (Any) (λc=>aj (D.bO c.1 (ak b.1)) (aD (av c.1 b.1) (aj (gn (aR b.1 (ah c.1)
 []) b.2.1) (Z (LO.ret () (W,()))) (Z (LO.next (D.add .i64 c.1 1,()))))) (Z (LO.out 0 c))) n (0,())) λc=>LO.el c (λ_ _=>Z
 ((J,()),())) (λ_ e=>Z (e,())) λ_ _=>Y
def ZI(n:Nat):OC:=⟨142,⟨P71,K4,J,F142 n⟩,ct [] [(142,0,⟨[(5,de)],[],[],0⟩)] n 10 142⟩
def F290:Y85:=
 λn _=>Z (([[98,111,111,108],[99,101,108,108],[99,104,97,110],[101,108,115,101],[102,97,108,115,101],[102,117,110],[103,
 101,116],[105,102],[105,110],[105,110,112,117,116],[105,110,116],[106,111,105,110],[108,101,116],[109,97,116,99,104],[109,
 111,100,117,108,101],[111,117,116],[112,97,117,115,101],[112,117,116],[114,101,115,101,116],[115,101,110,100],[115,104,105,
 102,116],[115,112,97,119,110],[116,97,107,101],[116,97,115,107],[116,104,101,110],[116,114,117,101],[116,121,112,101],[117,
 110,105,116]],()),())
def akS(n:Nat):OC:=⟨290,⟨[],K72,J,F290 n⟩,ct [] [] n 10 290⟩
def F250:Y33:=
 λn b=>ai (F290 n ()) λc=>ai (F142 n (c.1.1,b)) λd=>Z d
def agl(n:Nat):OC:=⟨250,⟨P7,K4,J,F250 n⟩,ct [ZI n,akS n] [] n 10 250⟩
def F299:Y36:=
 λn b=>aj (D.ep 97 b.1) (Z ((D.ep b.1 122,()),())) (Z ((J,()),()))
def agf(n:Nat):OC:=⟨299,⟨P73,K4,J,F299 n⟩,ct [] [] n 10 299⟩
def F302:Y36:=
 λn b=>aj (D.ep 48 b.1) (Z ((D.ep b.1 57,()),())) (Z ((J,()),()))
def agd(n:Nat):OC:=⟨302,⟨P73,K4,J,F302 n⟩,ct [] [] n 10 302⟩
def X4(n:Nat)(b:aik)(c:Int×U):O T8:=
 aj (D.aK b.2.2.1) (aD (av c.1 b.1) (ai (F299 n (lC b.1 c.1,())) λe=>aj e.1.1 (Z (LO.next (D.add .i64 c.1 1,()))) (Z (LO.out 0
 c)))) (Z (LO.out 0 c))
def F300:Nat->aik->Gn:=
 λn b=>ai (@iter (Int×U) (Int×U) (U) (Any) (λc=>aj (D.bO c.1 (ak b.1)) (aj b.2.2.1 (aD (av c.1 b.1) (ai (F302 n (lC
 b.1 c.1,())) λd=>aj d.1.1 (Z (LO.next (D.add .i64 c.1 1,()))) (X4 n b c))) (X4 n b c)) (Z (LO.out 0 c))) n (b.2.1,())) λc=>
 LO.el c (λ_ e=>Z ((D.dH .i64 e.1 b.2.1,()),())) (λ_ e=>Z (e,())) λ_ _=>Y
def age(n:Nat):OC:=⟨300,⟨P74,K2,J,F300 n⟩,ct [agf n,agd n] [(300,0,⟨[(7,de)],[],[],0⟩)] n 10 300⟩
def F301:Y36:=
 λn b=>aj (D.ep 65 b.1) (Z ((D.ep b.1 90,()),())) (Z ((J,()),()))
def akP(n:Nat):OC:=⟨301,⟨P73,K4,J,F301 n⟩,ct [] [] n 10 301⟩
def F303:Nat->Y64->Gn:=
 λn b=>aD (av b.2.1 b.1) (ai (aj (D.aG (lC b.1 b.2.1) 126) (Z (LO.next (D.add .i64 b.2.1 1,W,()))) (Z (LO.next (b.2.1,J,
 ())))) λ(c:LO (Int×Bool×U) (Int×U) U Any)=>LO.jn c (λd=>ai (F300 n (b.1,d.1,W,())) λe=>aj (D.aG e.1.1 0) (Z
 ((0,()),())) (aj (D.bO 10 e.1.1) (Z ((0,()),())) (aD (av d.1 b.1) (aj (D.aG (lC b.1 d.1) 48) (aj (D.bO 1 e.1.1) (Z ((0,()),()))
 (aj (D.bO b.2.1 d.1) (Z ((0,()),())) (Z ((D.add .i64 (D.dH .i64 d.1 b.2.1) e.1.1,()),())))) (Z ((D.add .i64 (D.dH .i64 d.1 b.2.1)
 e.1.1,()),())))))) (λ_ _=>Y) (λ_ e=>Z (e,())) λ_ _=>Y)
def akO(n:Nat):OC:=⟨303,⟨P70,K2,J,F303 n⟩,ct [age n] [(303,1000003,⟨[(5,de),(11,cZ)],[],[],0⟩)] n 10 303⟩
abbrev U6(F:Fn P7 K2 J):kC sg:=⟨P7,K2,J,F⟩
def B304:Nat->(L UInt8×U->Gn)->L UInt8×U->Gn:=
 λn f304 c=>aD (av 0 c.1) (aj (D.aG (lC c.1 0) 126) (aD (eS 1 (ak c.1) (ak c.1)) (ai (f304 (eo c.1 1 (ak c.1),())) λd=>
 Z ((D.neg .i64 d.1.1,()),()))) (ai (@iter (Int×Int×U) (Int×U) (U) (Any) (λd=>aj (D.bO d.2.1 (ak c.1)) (aD (av d.2.1
 c.1) (Z (LO.next (D.add .i64 (D.mul .i64 10 d.1) (D.conv .i64 (D.dH .u8 (lC c.1 d.2.1) 48)),D.add .i64 d.2.1 1,())))) (Z (LO.out 0 d))) n
 (0,0,())) λd=>LO.el d (λ_ g=>Z ((g.1,()),())) (λ_ g=>Z (g,())) λ_ _=>Y))
def D304(n:Nat)(f304:Fn P7 K2 J)(a:bz prog 304 (U6 f304)):bz prog 304 (U6 (B304 n f304)):=ct [⟨304,U6 f304,a⟩] [(304,0,⟨[(3,de),(4,de)],[],[],0⟩)] n 10 304
def R304(n k:Nat):(Fn P7 K2 J):=Nat.rec (motive:=λ_=>(Fn P7 K2 J)) (λ_=>Y) (λ_ r=>B304 n r) k
def F304(n:Nat):Fn P7 K2 J:=(R304 n n)
def ab3(n:Nat):∀k,bz prog 304 (U6 (R304 n k))
 |0=>bZ (enters 304 (by kernel_rfl))
 |k+1=>have a:=ab3 n k
  D304 n _ a
def akN(n:Nat):OC:=⟨304,U6 (F304 n),(ab3 n n)⟩
def F311:Y85:=
 λn _=>Z (([[61,62],[61,61],[45,62],[61],[60],[43],[45],[42],[40],[41],[123],[125],[124],[44],[59],[58],[95],[63]],()),())
def akJ(n:Nat):OC:=⟨311,⟨[],K72,J,F311 n⟩,ct [] [] n 10 311⟩
def F305:Nat->Y64->ail:=
 λn b=>ai (F311 n ()) λc=>ai (@iter (Int×U) (L UInt8×U) (U) (Any) (λd=>aj (D.bO d.1 (ak c.1.1)) (aD (av d.1
 c.1.1) (aj (D.ep (ak (aR c.1.1 (ah d.1) [])) (D.dH .i64 (ak b.1) b.2.1)) (aD (av d.1 c.1.1) (aD (eS b.2.1 (D.add .i64 b.2.1 (ak (aR
 c.1.1 (ah d.1) []))) (ak b.1)) (aD (av d.1 c.1.1) (aj (gn (eo b.1 b.2.1 (D.add .i64 b.2.1 (ak (aR c.1.1 (ah d.1) [])))) (aR c.1.1
 (ah d.1) [])) (aD (av d.1 c.1.1) (Z (LO.ret () (aR c.1.1 (ah d.1) [],())))) (Z (LO.next (D.add .i64 d.1 1,()))))))) (Z (LO.next
 (D.add .i64 d.1 1,()))))) (Z (LO.out 0 d))) n (0,())) λd=>LO.el d (λ_ _=>Z (([],()),())) (λ_ g=>Z (g,())) λ_ _=>Y
def akM(n:Nat):OC:=⟨305,⟨P70,K10,J,F305 n⟩,ct [akJ n] [(305,0,⟨[(6,de)],[],[],0⟩)] n 10 305⟩
def PX(b:Y64)(d:(Int×U)×U):Bool:=
 eS b.2.1 (D.add .i64 b.2.1 d.1.1) (ak b.1)
def yb(b:Y64)(d:(Int×U)×U):L UInt8:=
 eo b.1 b.2.1 (D.add .i64 b.2.1 d.1.1)
def PV(n:Nat):Bool×Y65×U->Y66:=
 λh=>Z ((fj.mk h.2.1.1 h.2.1.2.1 h.2.1.2.2.1 h.2.1.2.2.2.1,()),())
def X6(n:Nat)(b:Y64):Y66:=
 ai (F303 n b) λg=>ai (aj (D.bO 0 g.1.1) (aD (PX b g) (aD (PX b g) (ai (F304 n (yb b g,())) λh=>Z (LO.next (W,(4,
 yb b g,h.1.1,b.2),()))))) (Z (LO.next (J,(0,[],0,b.2),())))) λ(h:Y67)=>LO.jn h (PV n) (λ_ _=>Y) (λ_ _=>Z
 ((dy,()),())) λ_ _=>Y
def F285:Nat->Y64->Y66:=
 λn b=>aD (av b.2.1 b.1) (ai (F299 n (lC b.1 b.2.1,())) λc=>aj c.1.1 (ai (F300 n (b.1,b.2.1,J,())) λd=>aD (PX b d)
 (ai (F250 n (yb b d,())) λe=>ai (aj e.1.1 (Z (LO.next (W,(3,yb b d,0,b.2),()))) (ai (aj (D.ep (ak (yb b d)) 8)
 (Z (LO.next (W,(1,yb b d,0,b.2),()))) (Z (LO.next (J,(0,yb b d,0,b.2),())))) λ(g:Y67)=>LO.jn g (λh=>Z
 (LO.next (J,h.2))) (λ_ _=>Y) (λh _=>Z (LO.ret h ())) λ_ _=>Y)) λ(g:Y67)=>LO.jn g (PV n) (λ_ _=>Y) (λ
 _ _=>Z ((dy,()),())) λ_ _=>Y)) (aD (av b.2.1 b.1) (ai (F301 n (lC b.1 b.2.1,())) λd=>aj d.1.1 (ai (F300 n (b.1,
 D.add .i64 b.2.1 1,J,())) λe=>aD (eS b.2.1 (D.add .i64 (D.add .i64 b.2.1 1) e.1.1) (ak b.1)) (ai (aj (D.ep (ak (eo b.1 b.2.1
 (D.add .i64 (D.add .i64 b.2.1 1) e.1.1))) 8) (Z (LO.next (W,(2,eo b.1 b.2.1 (D.add .i64 (D.add .i64 b.2.1 1) e.1.1),0,b.2),()))) (Z
 (LO.next (J,(0,eo b.1 b.2.1 (D.add .i64 (D.add .i64 b.2.1 1) e.1.1),0,b.2),())))) λ(g:Y67)=>LO.jn g (PV n) (λ_ _=>Y) (λ
 _ _=>Z ((dy,()),())) λ_ _=>Y)) (aD (av b.2.1 b.1) (ai (F302 n (lC b.1 b.2.1,())) λe=>aj e.1.1 (X6 n b) (aD
 (av b.2.1 b.1) (aj (D.aG (lC b.1 b.2.1) 126) (X6 n b) (ai (F305 n b) λg=>aj (D.aK (gn g.1.1 [])) (Z ((fj.mk 5 g.1.1 0
 b.2.1,()),())) (Z ((fj.mk 0 g.1.1 0 b.2.1,()),()))))))))))
def akT(n:Nat):OC:=⟨285,⟨P70,K75,J,F285 n⟩,ct [agl n,agf n,age n,akP n,agd n,akO n,akN n,akM n] [(285,1000005,⟨[(24,cZ),(0,aaI)],[.slot 5],[],0⟩),(285,1000007,⟨[(29,cZ),(0,aaI)],[.slot 5],[],0⟩),(285,1000012,⟨[(50,cZ),(0,aaI)],[.slot 5],[],0⟩),(285,1000017,⟨[(67,cZ),(0,aaI)],[.slot 5],[],0⟩)] n 10 285⟩
def F245:Y61:=
 λn b=>ai (F284 n (b.1,0,())) λc=>ai (@iter (Y60) (Y60) (U) (Any) (λd=>aj (D.bO d.2.1 (ak b.1)) (ai (F285 n (b.1,d.2)) λe
 =>aj (D.aG e.1.1.1 0) (Z (LO.ret () d)) (aD (cX d.1 [e.1.1]) (ai (F284 n (b.1,D.add .i64 d.2.1 (ak e.1.1.2),())) λg=>Z (LO.next
 (cM d.1 [e.1.1],g.1))))) (Z (LO.out 0 d))) n ([],c.1)) λd=>LO.el d (λ_ g=>Z ((g.1,ak b.1,()),())) (λ_ g=>Z (g,()))
 λ_ _=>Y
def ak5(n:Nat):OC:=⟨245,⟨P7,K76,J,F245 n⟩,ct [akU n,akT n] [(245,0,⟨[(4,.one (.own (.st 25))),(5,de)],[],[],0⟩)] n 10 245⟩
def F179:Y61:=
 λn b=>aj (D.bO 8000 (ak b.1)) (Z (([],3,()),())) (ai (F245 n b) λc=>aj (D.bO c.1.2.1 (ak b.1)) (Z (([],4,()),())) (Z
 ((c.1.1,0,()),())))
def alL(n:Nat):OC:=⟨179,⟨P7,K76,J,F179 n⟩,ct [ak5 n] [] n 10 179⟩
def F247:Nat->bG×L UInt8×U->O fc:=
 λn b=>aj b.1.3 (Z ((J,()),())) (aj (D.ep (ak b.1.1) b.1.2) (Z ((J,()),())) (aD (av b.1.2 b.1.1) (aj (D.aG (aR b.1.1
 (ah b.1.2) dy).1 5) (Z ((gn (aR b.1.1 (ah b.1.2) dy).2 b.2.1,()),())) (aj (D.aG (aR b.1.1 (ah b.1.2) dy).1 3)
 (Z ((gn (aR b.1.1 (ah b.1.2) dy).2 b.2.1,()),())) (Z ((J,()),()))))))
def ac0(n:Nat):OC:=⟨247,⟨P77,K4,J,F247 n⟩,ct [] [] n 10 247⟩
def F182:Nat->aiE->O aeD:=
 λn b=>ai (F247 n (bG.mk b.1.1 b.1.2.1 b.1.2.2.1,b.2)) λc=>aj c.1.1 (Z (c.1,(b.1.1,D.add .i64 b.1.2.1 1,b.1.2.2),()))
 (Z (c.1,b.1,()))
def EB(n:Nat):OC:=⟨182,⟨P78,K4,J,F182 n⟩,ct [ac0 n] [] n 10 182⟩
def F180:Nat->aiE->aaQ:=
 λn b=>ai (F182 n b) λc=>aj (D.aK c.1.1) (Z ((),(c.2.1.1,c.2.1.2.1,W,()),())) (Z ((),c.2))
def EC(n:Nat):OC:=⟨180,⟨P78,[],J,F180 n⟩,ct [EB n] [] n 10 180⟩
def F246:Nat->bG×Int×U->O fc:=
 λn b=>aj (D.aK b.1.3) (aj (D.bO b.1.2 (ak b.1.1)) (aD (av b.1.2 b.1.1) (Z ((D.aG (aR b.1.1 (ah b.1.2) dy).1 b.2.1,()),
 ()))) (Z ((J,()),()))) (Z ((J,()),()))
def ac1(n:Nat):OC:=⟨246,⟨P79,K4,J,F246 n⟩,ct [] [] n 10 246⟩
def F181:Nat->Y7×Int×U->O ((fj×U)×Y7×U):=
 λn b=>ai (F246 n (bG.mk b.1.1 b.1.2.1 b.1.2.2.1,b.2)) λc=>aj (D.aK c.1.1) (Z ((dy,()),(b.1.1,b.1.2.1,W,
 ()),())) (aD (av b.1.2.1 b.1.1) (Z ((aR b.1.1 (ah b.1.2.1) dy,()),(b.1.1,D.add .i64 b.1.2.1 1,b.1.2.2),())))
def JK(n:Nat):OC:=⟨181,⟨NB,K75,J,F181 n⟩,ct [ac1 n] [] n 10 181⟩
abbrev Om(F:Fn kL K82 J):kC sg:=⟨kL,K82,J,F⟩
def Qm(e:Y95):ck:=
 ck.mk e.1.1.1 e.1.1.2 e.1.1.3 e.1.1.4
def B248:Nat->Y96->Y96->Y7×U->O Y95:=
 λn f248 f286 d=>ai (f286 d) λe=>ai (F182 n (e.2.1,[45,62],())) λg=>aj g.1.1 (ai (f248 g.2) λh=>Z ((ck.mk 4 0 []
 [Qm e,Qm h],()),h.2)) (Z ((Qm e,()),g.2))
abbrev SL(F:Fn kL K82 J):kC sg:=⟨kL,K82,J,F⟩
def Ql(n:Nat)(f248:Y96)(f306:ait):Y95->O Y95:=
 λj=>Z ((ck.mk j.1.1.1 j.1.1.2 j.1.1.3 j.1.1.4,()),j.2)
def B286:Nat->Y96->ait->Y7×U->O Y95:=
 λn f248 f306 d=>ai (F182 n (d.1,[105,110,116],())) λe=>aj e.1.1 (Z ((ck.mk 1 0 [] [],()),e.2)) (ai (F182 n (e.2.1,[98,
 111,111,108],())) λg=>aj g.1.1 (Z ((ck.mk 2 0 [] [],()),g.2)) (ai (F182 n (g.2.1,[117,110,105,116],())) λh=>aj h.1.1
 (Z ((ck.mk 3 0 [] [],()),h.2)) (ai (F182 n (h.2.1,[99,101,108,108],())) λi=>aj i.1.1 (ai (f306 (i.2.1,5,())) (Ql n f248
 f306)) (ai (F182 n (i.2.1,[99,104,97,110],())) λj=>aj j.1.1 (ai (f306 (j.2.1,6,())) (Ql n f248 f306)) (ai (F182 n (j.2.1,[116,97,
 115,107],())) λk=>aj k.1.1 (ai (f306 (k.2.1,7,())) (Ql n f248 f306)) (ai (F182 n (k.2.1,[63],())) λl=>aj l.1.1 (ai (F181 n
 (l.2.1,4,())) λm=>Z ((ck.mk 9 m.1.1.3 [] [],()),m.2)) (ai (F182 n (l.2.1,[40],())) λm=>aj m.1.1 (ai (f248 m.2) λo=>ai
 (F180 n (o.2.1,[41],())) λp=>Z ((ck.mk o.1.1.1 o.1.1.2 o.1.1.3 o.1.1.4,()),p.2)) (ai (F181 n (m.2.1,2,())) λo=>Z
 ((ck.mk 8 0 o.1.1.2 [],()),o.2)))))))))
abbrev YY(F:Fn NB K82 J):kC sg:=⟨NB,K82,J,F⟩
def B306:Nat->Y96->Y7×Int×U->O Y95:=
 λn f286 c=>ai (f286 (c.1,())) λd=>Z ((ck.mk c.2.1 0 [] [ck.mk d.1.1.1 d.1.1.2 d.1.1.3 d.1.1.4],()),d.2)
def D248(n:Nat)(f248:Fn kL K82 J)(f286:Fn kL K82 J)(a:bz prog 248 (Om f248))(b:bz prog 286 (SL f286)):bz prog 248 (Om (B248 n f248 f286)):=ct [EB n,⟨248,Om f248,a⟩,⟨286,SL f286,b⟩] [] n 10 248
def D286(n:Nat)(f248:Fn kL K82 J)(f306:Fn NB K82 J)(a:bz prog 248 (Om f248))(b:bz prog 306 (YY f306)):bz prog 286 (SL (B286 n f248 f306)):=ct [EC n,JK n,EB n,⟨248,Om f248,a⟩,⟨306,YY f306,b⟩] [] n 10 286
def D306(n:Nat)(f286:Fn kL K82 J)(a:bz prog 286 (SL f286)):bz prog 306 (YY (B306 n f286)):=ct [⟨286,SL f286,a⟩] [] n 10 306
def R248(n k:Nat):(Fn kL K82 J)×(Fn kL K82 J)×(Fn NB K82 J):=Nat.rec (motive:=λ_=>(Fn kL K82 J)×(Fn kL K82 J)×(Fn NB K82 J)) ((λ_=>Y,λ_=>Y,λ_=>Y)) (λ_ r=>(B248 n r.1 r.2.1,B286 n r.1 r.2.2,B306 n r.2.1)) k
def F248(n:Nat):Fn kL K82 J:=(R248 n n).1
def ace(n:Nat):∀k,bz prog 248 (Om (R248 n k).1)∧bz prog 286 (SL (R248 n k).2.1)∧bz prog 306 (YY (R248 n k).2.2)
 |0=>⟨bZ (enters 248 (by kernel_rfl)),bZ (enters 286 (by kernel_rfl)),bZ (enters 306 (by kernel_rfl))⟩
 |k+1=>have a:=ace n k
  ⟨D248 n _ _ a.1 a.2.1,D286 n _ _ a.1 a.2.2,D306 n _ a.2.1⟩
def agm(n:Nat):OC:=⟨248,Om (F248 n),(ace n n).1⟩
def F183:Nat->Y7×U->O ((jG×U)×Y7×U):=
 λn b=>ai (F181 n (b.1,2,())) λc=>ai (F180 n (c.2.1,[61],())) λd=>ai (@iter (Bool×Y7×aiD×U) (U) (Y7×aiD×U)
 (Any) (λe=>aj e.1 (aj (D.aK e.2.1.2.2.1) (ai (F181 n (e.2.1,2,())) λg=>ai (F182 n (g.2.1,[40],())) λh=>ai (aj h.1.1 (ai
 (@iter (aiC) (U) (Y7×aeC×U) (Any) (λi=>aj i.1 (aj (D.aK i.2.1.2.2.1) (ai (F248 n (i.2.1,())) λj=>aD (cX i.2.2.1.2.1
 [ck.mk j.1.1.1 j.1.1.2 j.1.1.3 j.1.1.4]) (ai (F182 n (j.2.1,[44],())) λk=>Z (LO.next (k.1.1,k.2.1,(i.2.2.1.1,cM i.2.2.1.2.1
 [ck.mk j.1.1.1 j.1.1.2 j.1.1.3 j.1.1.4],()),())))) (Z (LO.out 0 i))) (Z (LO.out 0 i))) n (W,h.2.1,(g.1.1.2,[],()),())) λi=>
 LO.el i (λ_ k=>ai (F180 n (k.2.1,[41],())) λl=>Z (LO.next (W,l.2.1,k.2.2))) (λj _=>Z (LO.ret j ())) λ_ _=>Y) (Z
 (LO.next (J,h.2.1,(g.1.1.2,[],()),())))) λ(i:LO aiC U (Y7×aeC×U) Any)=>LO.jn i (λj=>aD (cX e.2.2.1.2.1
 [ic.mk j.2.2.1.1 j.2.2.1.2.1]) (ai (F182 n (j.2.1,[124],())) λk=>Z (LO.next (k.1.1,k.2.1,(e.2.2.1.1,cM e.2.2.1.2.1
 [ic.mk j.2.2.1.1 j.2.2.1.2.1],()),())))) (λ_ _=>Y) (λj _=>Z (LO.ret (j.1,e.2.2) ())) λ_ _=>Y) (Z (LO.out 0 e)))
 (Z (LO.out 0 e))) n (W,d.2.1,(c.1.1.2,[],()),())) λe=>LO.el e (λ_ h=>ai (F180 n (h.2.1,[59],())) λi=>Z ((jG.mk
 h.2.2.1.1 h.2.2.1.2.1,()),i.2)) (λg _=>Z ((kS,()),g.1,())) λ_ _=>Y
def alK(n:Nat):OC:=⟨183,⟨kL,K83,J,F183 n⟩,ct [EC n,JK n,EB n,agm n] [(183,0,⟨[(4,cZ),(0,wq),(0,.box (.cells [.dat (.str),.own (.st 18)]))],[.slot 0,.slot 3],[],0⟩),(183,2,⟨[(6,cZ),(0,wq),(0,ah0)],[.slot 0,.slot 5],[],0⟩),(183,1000007,⟨[(27,cZ),(0,wq),(0,ah0)],[.slot 0,.slot 5],[],0⟩)] n 10 183⟩
def F289:Nat->Int×Term×Term×U->O Xz:=
 λn b=>Z ((Term.mk b.1 0 [] [Term.mk b.2.1.1 b.2.1.2 b.2.1.3 b.2.1.4 b.2.1.5,Term.mk b.2.2.1.1 b.2.2.1.2 b.2.2.1.3 b.2.2.1.4 b.2.2.1.5] [],
 ()),())
def ZD(n:Nat):OC:=⟨289,⟨P84,K85,J,F289 n⟩,ct [] [] n 10 289⟩
abbrev U4(F:Fn kL K86 J):kC sg:=⟨kL,K86,J,F⟩
def B319:Nat->(Y7×U->O Y8)->Y7×U->O Y8:=
 λn f319 c=>ai (F182 n (c.1,[95],())) λd=>aj d.1.1 (Z ((aC.mk 1 0 [] [],()),d.2)) (ai (F246 n (bG.mk d.2.1.1
 d.2.1.2.1 d.2.1.2.2.1,1,())) λe=>aj e.1.1 (ai (F181 n (d.2.1,1,())) λg=>Z ((aC.mk 2 0 g.1.1.2 [],()),g.2)) (ai (F246 n
 (bG.mk d.2.1.1 d.2.1.2.1 d.2.1.2.2.1,4,())) λg=>aj g.1.1 (ai (F181 n (d.2.1,4,())) λh=>Z ((aC.mk 3 h.1.1.3 []
 [],()),h.2)) (ai (F182 n (d.2.1,[116,114,117,101],())) λh=>aj h.1.1 (Z ((aC.mk 4 1 [] [],()),h.2)) (ai (F182 n (h.2.1,[102,
 97,108,115,101],())) λi=>aj i.1.1 (Z ((aC.mk 4 0 [] [],()),i.2)) (ai (F182 n (i.2.1,[40],())) λj=>aj j.1.1 (ai (F180 n
 (j.2.1,[41],())) λk=>Z ((aC.mk 5 0 [] [],()),k.2)) (ai (F181 n (j.2.1,2,())) λk=>ai (F182 n (k.2.1,[40],())) λl=>aj
 l.1.1 (ai (@iter (Bool×Y7×Y9×U) (U) (Y7×Y9×U) (Any) (λm=>aj m.1 (aj (D.aK m.2.1.2.2.1) (ai (f319 (m.2.1,())) λo=>
 aD (cX m.2.2.1.2.2.2.1 [aC.mk o.1.1.1 o.1.1.2 o.1.1.3 o.1.1.4]) (ai (F182 n (o.2.1,[44],())) λp=>Z (LO.next (p.1.1,p.2.1,
 (m.2.2.1.1,m.2.2.1.2.1,m.2.2.1.2.2.1,cM m.2.2.1.2.2.2.1 [aC.mk o.1.1.1 o.1.1.2 o.1.1.3 o.1.1.4],()),())))) (Z (LO.out 0 m))) (Z
 (LO.out 0 m))) n (W,l.2.1,(6,0,k.1.1.2,[],()),())) λm=>LO.el m (λ_ p=>ai (F180 n (p.2.1,[41],())) λq=>Z ((aC.mk
 p.2.2.1.1 p.2.2.1.2.1 p.2.2.1.2.2.1 p.2.2.1.2.2.2.1,()),q.2)) (λo _=>Z ((aN,()),o.1,())) λ_ _=>Y) (Z ((aC.mk 6 0
 k.1.1.2 [],()),l.2))))))))
def D319(n:Nat)(f319:Fn kL K86 J)(a:bz prog 319 (U4 f319)):bz prog 319 (U4 (B319 n f319)):=ct [EC n,JK n,EB n,ac1 n,⟨319,U4 f319,a⟩] [(319,1,⟨[(4,cZ),(0,wq),(0,aeh)],[.slot 0,.slot 3],[],0⟩)] n 10 319
def R319(n k:Nat):(Fn kL K86 J):=Nat.rec (motive:=λ_=>(Fn kL K86 J)) (λ_=>Y) (λ_ r=>B319 n r) k
def F319(n:Nat):Fn kL K86 J:=(R319 n n)
def ab1(n:Nat):∀k,bz prog 319 (U4 (R319 n k))
 |0=>bZ (enters 319 (by kernel_rfl))
 |k+1=>have a:=ab1 n k
  D319 n _ a
def akH(n:Nat):OC:=⟨319,U4 (F319 n),(ab1 n n)⟩
def F318:Nat->L UInt8×U->O aoK:=
 λn b=>aj (gn b.1 [99,101,108,108]) (Z ((16,1,()),())) (aj (gn b.1 [103,101,116]) (Z ((17,1,()),())) (aj (gn b.1 [112,
 117,116]) (Z ((18,2,()),())) (aj (gn b.1 [115,112,97,119,110]) (Z ((19,1,()),())) (aj (gn b.1 [106,111,105,110]) (Z ((20,
 1,()),())) (aj (gn b.1 [99,104,97,110]) (Z ((21,0,()),())) (aj (gn b.1 [115,101,110,100]) (Z ((22,2,()),())) (aj (gn b.1
 [116,97,107,101]) (Z ((23,1,()),())) (aj (gn b.1 [111,117,116]) (Z ((24,(-1),()),())) (aj (gn b.1 [105,110,112,117,116])
 (Z ((25,0,()),())) (aj (gn b.1 [114,101,115,101,116]) (Z ((26,1,()),())) (aj (gn b.1 [112,97,117,115,101]) (Z ((28,0,
 ()),())) (Z ((0,0,()),())))))))))))))
def agc(n:Nat):OC:=⟨318,⟨P7,K41,J,F318 n⟩,ct [] [] n 10 318⟩
def F314:Y89:=
 λn b=>aj b.1.3 (Z ((J,()),())) (aj (D.ep (ak b.1.1) b.1.2) (Z ((J,()),())) (aD (av b.1.2 b.1.1) (aj (D.aG (aR b.1.1
 (ah b.1.2) dy).1 3) (ai (F318 n ((aR b.1.1 (ah b.1.2) dy).2,())) λc=>aj (D.aK (D.aG c.1.1 0)) (Z ((W,()),()))
 (aj (gn (aR b.1.1 (ah b.1.2) dy).2 [116,114,117,101]) (Z ((W,()),())) (aj (gn (aR b.1.1 (ah b.1.2) dy).2 [102,
 97,108,115,101]) (Z ((W,()),())) (Z ((gn (aR b.1.1 (ah b.1.2) dy).2 [109,97,116,99,104],()),()))))) (aj (D.aK
 (D.aG (aR b.1.1 (ah b.1.2) dy).1 5)) (Z ((W,()),())) (Z ((gn (aR b.1.1 (ah b.1.2) dy).2 [40],()),()))))))
def akI(n:Nat):OC:=⟨314,⟨P87,K4,J,F314 n⟩,ct [agc n] [] n 10 314⟩
abbrev xA(F:Fn kL K85 J):kC sg:=⟨kL,K85,J,F⟩
def nE(h:tO):Term:=
 Term.mk h.1.1.1 h.1.1.2 h.1.1.3 h.1.1.4 h.1.1.5
def Yn(o:Xz):Term:=
 Term.mk o.1.1.1 o.1.1.2 o.1.1.3 o.1.1.4 o.1.1.5
def B249:Nat->tN->(Y7×Int×U->O tO)->tN->Y7×U->O tO:=
 λn f249 f287 f288 e=>ai (F182 n (e.1,[102,117,110],())) λg=>aj g.1.1 (ai (f287 (g.2.1,5,())) λh=>Z ((nE h,()),h.2))
 (ai (F182 n (g.2.1,[115,104,105,102,116],())) λh=>aj h.1.1 (ai (f287 (h.2.1,27,())) λi=>Z ((nE i,()),i.2)) (ai (F182 n
 (h.2.1,[108,101,116],())) λi=>aj i.1.1 (ai (F181 n (i.2.1,1,())) λj=>ai (F180 n (j.2.1,[61],())) λk=>ai (f249 k.2) λl=>
 ai (F180 n (l.2.1,[105,110],())) λm=>ai (f249 m.2) λo=>Z ((Term.mk 7 0 j.1.1.2 [nE l,nE o] [],()),o.2)) (ai (F182 n
 (i.2.1,[105,102],())) λj=>aj j.1.1 (ai (f249 j.2) λk=>ai (F180 n (k.2.1,[116,104,101,110],())) λl=>ai (f249 l.2) λm=>
 ai (F180 n (m.2.1,[101,108,115,101],())) λo=>ai (f249 o.2) λp=>Z ((Term.mk 8 0 [] [nE k,nE m,nE p] [],()),p.2))
 (ai (f288 j.2) λk=>ai (F182 n (k.2.1,[60],())) λl=>aj l.1.1 (ai (f288 l.2) λm=>ai (F289 n (12,nE k,nE m,())) λo=>
 Z ((Yn o,()),m.2)) (ai (F182 n (l.2.1,[61,61],())) λm=>aj m.1.1 (ai (f288 m.2) λo=>ai (F289 n (13,nE k,nE o,()))
 λp=>Z ((Yn p,()),o.2)) (Z ((nE k,()),m.2)))))))
abbrev Za(F:Fn NB K85 J):kC sg:=⟨NB,K85,J,F⟩
def B287:Nat->tN->Y7×Int×U->O tO:=
 λn f249 c=>ai (F181 n (c.1,1,())) λd=>ai (F180 n (d.2.1,[61,62],())) λe=>ai (f249 e.2) λg=>Z ((Term.mk c.2.1 0 d.1.1.2
 [Term.mk g.1.1.1 g.1.1.2 g.1.1.3 g.1.1.4 g.1.1.5] [],()),g.2)
abbrev YZ(F:Fn kL K85 J):kC sg:=⟨kL,K85,J,F⟩
def Ym(e:Y7×qw×U):Term:=
 Term.mk e.2.1.1 e.2.1.2.1 e.2.1.2.2.1 e.2.1.2.2.2.1 e.2.1.2.2.2.2.1
def ae8(l:Xz):qw×U:=
 ((l.1.1.1,l.1.1.2,l.1.1.3,l.1.1.4,l.1.1.5,()),())
def Yl(n:Nat)(f307:tN)(e:Y7×qw×U):O (LO (Y7×qw×U) U (Y7×qw×U) Any):=
 ai (F247 n (bG.mk e.1.1 e.1.2.1 e.1.2.2.1,[43],())) λh=>ai (aj h.1.1 (Z (LO.next (9,W,()))) (Z (LO.next (10,J,
 ())))) λ(i:aaW)=>LO.jn i (λj=>ai (f307 ((e.1.1,D.add .i64 e.1.2.1 1,e.1.2.2),())) λk=>ai (F289 n (j.1,Ym e,Term.mk k.1.1.1
 k.1.1.2 k.1.1.3 k.1.1.4 k.1.1.5,())) λl=>Z (LO.next (k.2.1,ae8 l))) (λ_ _=>Y) (λ_ _=>Z (LO.ret e ())) λ_ _=>Y
def ae7(d:tO):qw×U:=
 ((d.1.1.1,d.1.1.2,d.1.1.3,d.1.1.4,d.1.1.5,()),())
def B288:aaV:=
 λn f307 c=>ai (f307 c) λd=>ai (@iter (Y7×qw×U) (U) (Y7×qw×U) (Any) (λe=>aj (D.aK e.1.2.2.1) (ai (F247 n
 (bG.mk e.1.1 e.1.2.1 e.1.2.2.1,[43],())) λg=>aj g.1.1 (Yl n f307 e) (ai (F247 n (bG.mk e.1.1 e.1.2.1
 e.1.2.2.1,[45],())) λh=>aj h.1.1 (Yl n f307 e) (Z (LO.out 0 e)))) (Z (LO.out 0 e))) n (d.2.1,ae7 d)) λe=>LO.el e (λ_ h=>
 Z ((Ym h,()),h.1,())) (λg _=>Z ((pX,()),g.1,())) λ_ _=>Y
abbrev YX(F:Fn kL K85 J):kC sg:=⟨kL,K85,J,F⟩
def Yk(e:Y7×qw×U):Term:=
 Term.mk e.2.1.1 e.2.1.2.1 e.2.1.2.2.1 e.2.1.2.2.2.1 e.2.1.2.2.2.2.1
def ae6(i:Xz):qw×U:=
 ((i.1.1.1,i.1.1.2,i.1.1.3,i.1.1.4,i.1.1.5,()),())
def ae5(d:tO):qw×U:=
 ((d.1.1.1,d.1.1.2,d.1.1.3,d.1.1.4,d.1.1.5,()),())
def B307:aaV:=
 λn f312 c=>ai (f312 c) λd=>ai (@iter (Y7×qw×U) (U) (Y7×qw×U) (Any) (λe=>ai (F182 n (e.1,[42],())) λg=>aj
 g.1.1 (ai (f312 g.2) λh=>ai (F289 n (11,Yk e,Term.mk h.1.1.1 h.1.1.2 h.1.1.3 h.1.1.4 h.1.1.5,())) λi=>Z (LO.next (h.2.1,ae6
 i))) (Z (LO.out 0 (g.2.1,e.2)))) n (d.2.1,ae5 d)) λe=>LO.el e (λ_ h=>Z ((Yk h,()),h.1,())) (λg _=>Z ((pX,()),
 g.1,())) λ_ _=>Y
abbrev YW(F:Fn kL K85 J):kC sg:=⟨kL,K85,J,F⟩
def Yj(e:Y7×qw×U):Term:=
 Term.mk e.2.1.1 e.2.1.2.1 e.2.1.2.2.1 e.2.1.2.2.2.1 e.2.1.2.2.2.2.1
def ae4(i:Xz):qw×U:=
 ((i.1.1.1,i.1.1.2,i.1.1.3,i.1.1.4,i.1.1.5,()),())
def ae3(d:tO):qw×U:=
 ((d.1.1.1,d.1.1.2,d.1.1.3,d.1.1.4,d.1.1.5,()),())
def B312:aaV:=
 λn f313 c=>ai (f313 c) λd=>ai (@iter (Y7×qw×U) (U) (Y7×qw×U) (Any) (λe=>ai (F314 n (bG.mk e.1.1
 e.1.2.1 e.1.2.2.1,())) λg=>aj g.1.1 (ai (f313 (e.1,())) λh=>ai (F289 n (6,Yj e,Term.mk h.1.1.1 h.1.1.2 h.1.1.3 h.1.1.4 h.1.1.5,
 ())) λi=>Z (LO.next (h.2.1,ae4 i))) (Z (LO.out 0 e))) n (d.2.1,ae3 d)) λe=>LO.el e (λ_ h=>Z ((Yj h,()),h.1,()))
 (λg _=>Z ((pX,()),g.1,())) λ_ _=>Y
abbrev YV(F:Fn kL K85 J):kC sg:=⟨kL,K85,J,F⟩
def Qk(g:Y7×U):bG:=
 bG.mk g.1.1 g.1.2.1 g.1.2.2.1
def Yi(n:Nat)(f249:tN)(f315:aeF)(f316:tN)(f317:tN):tO->O tO:=
 λo=>Z ((Term.mk o.1.1.1 o.1.1.2 o.1.1.3 o.1.1.4 o.1.1.5,()),o.2)
def B313:Nat->tN->aeF->tN->tN->Y7×U->O tO:=
 λn f249 f315 f316 f317 g=>ai (F246 n (Qk g,4,())) λh=>aj h.1.1 (ai (F181 n (g.1,4,())) λi=>Z ((Term.mk 1 i.1.1.3 [] [] [],
 ()),i.2)) (ai (F246 n (Qk g,1,())) λi=>aj i.1.1 (ai (F181 n (g.1,1,())) λj=>Z ((Term.mk 4 0 j.1.1.2 [] [],()),j.2)) (ai
 (F246 n (Qk g,2,())) λj=>aj j.1.1 (ai (F181 n (g.1,2,())) λk=>ai (F247 n (bG.mk k.2.1.1 k.2.1.2.1 k.2.1.2.2.1,
 [40],())) λl=>ai (aj l.1.1 (ai (f315 (k.2.1,(-1),())) λm=>Z (LO.next (W,m.2.1,(14,0,k.1.1.2,m.1.1,[],()),()))) (Z
 (LO.next (J,k.2.1,(14,0,k.1.1.2,[],[],()),())))) λ(m:LO aiH U (Y7×qw×U) Any)=>LO.jn m (λo=>Z ((Term.mk
 o.2.2.1.1 o.2.2.1.2.1 o.2.2.1.2.2.1 o.2.2.1.2.2.2.1 [],()),o.2.1,())) (λ_ _=>Y) (λo _=>Z ((pX,()),o.1,())) λ_ _=>Y)
 (ai (F182 n (g.1,[116,114,117,101],())) λk=>aj k.1.1 (Z ((Term.mk 2 1 [] [] [],()),k.2)) (ai (F182 n (k.2.1,[102,97,108,115,
 101],())) λl=>aj l.1.1 (Z ((Term.mk 2 0 [] [] [],()),l.2)) (ai (F182 n (l.2.1,[109,97,116,99,104],())) λm=>aj m.1.1 (ai (f316
 m.2) (Yi n f249 f315 f316 f317)) (ai (F182 n (m.2.1,[40],())) λo=>aj o.1.1 (ai (F182 n (o.2.1,[41],())) λp=>aj p.1.1 (Z
 ((Term.mk 3 0 [] [] [],()),p.2)) (ai (f249 p.2) λq=>ai (F180 n (q.2.1,[41],())) λr=>Z ((Term.mk q.1.1.1 q.1.1.2 q.1.1.3 q.1.1.4
 q.1.1.5,()),r.2))) (ai (F246 n (bG.mk o.2.1.1 o.2.1.2.1 o.2.1.2.2.1,3,())) λp=>aj p.1.1 (ai (f317 o.2) (Yi n f249 f315
 f316 f317)) (Z ((pX,()),(o.2.1.1,o.2.1.2.1,W,()),())))))))))
abbrev SK(F:Fn NB K88 J):kC sg:=⟨NB,K88,J,F⟩
def KK(n:Nat)(f249:tN)(c:Y7×Int×U)(g:aeD):O Xv:=
 aj (D.bO 0 c.2.1) (ai (F180 n (g.2.1,[44],())) λh=>Z (LO.next (W,h.2))) (Z (LO.next (J,g.2)))
def nD(e:tO):L Term:=
 [Term.mk e.1.1.1 e.1.1.2 e.1.1.3 e.1.1.4 e.1.1.5]
def Qj(n:Nat)(f249:tN)(k:Xu):Xv->O (LO Xu (L Term×U) (Y7×U) Any):=
 λm=>LO.jn m (λo=>ai (f249 o.2) λp=>aD (cX k.1 (nD p)) (Z (LO.next (cM k.1 (nD p),p.2)))) (λ_ _=>Y) (λo p=>
 Z (LO.ret o p)) λ_ _=>Y
def ae2(n:Nat)(f249:tN)(c:Y7×Int×U)(k:Xu):O Xv:=
 aj (D.bO 0 c.2.1) (ai (F180 n (k.2.1,[44],())) λl=>Z (LO.next (W,l.2))) (Z (LO.next (J,k.2)))
def ae1(n:Nat)(m:Xu):aaQ:=
 F180 n (m.2.1,[41],())
def Qi(n:Nat)(f249:tN)(c:Y7×Int×U)(e:tO):Xv->aeG:=
 λh=>LO.jn h (λi=>ai (f249 i.2) λj=>aD (cX (nD e) (nD j)) (ai (@iter (Xu) (L Term×U) (Y7×U) (Any) (λk=>
 aj (D.bO c.2.1 0) (ai (F182 n (k.2.1,[44],())) λl=>aj l.1.1 (ai (KK n f249 c l) (Qj n f249 k)) (aj (D.bO (ak k.1) c.2.1) (aj
 (D.aK l.2.1.2.2.1) (ai (KK n f249 c l) (Qj n f249 k)) (Z (LO.out 0 (k.1,l.2)))) (Z (LO.out 0 (k.1,l.2))))) (aj (D.bO (ak k.1)
 c.2.1) (aj (D.aK k.2.1.2.2.1) (ai (ae2 n f249 c k) (Qj n f249 k)) (Z (LO.out 0 k))) (Z (LO.out 0 k)))) n (cM (nD e) (nD j),
 j.2)) λk=>LO.el k (λ_ m=>ai (ae1 n m) λo=>Z ((m.1,()),o.2)) (λl m=>Z (m,l)) λ_ _=>Y)) (λ_ _=>Y) (λi
 j=>Z (j,i)) λ_ _=>Y
def Yh(n:Nat)(g:aeD):aaQ:=
 F180 n (g.2.1,[41],())
def ae0(n:Nat)(f249:tN)(c:Y7×Int×U)(e:tO):O Xv:=
 aj (D.bO 0 c.2.1) (ai (F180 n (e.2.1,[44],())) λg=>Z (LO.next (W,g.2))) (Z (LO.next (J,e.2)))
def Yg(n:Nat)(e:tO):aaQ:=
 F180 n (e.2.1,[41],())
def B315:Nat->tN->Y7×Int×U->aeG:=
 λn f249 c=>ai (F180 n (c.1,[40],())) λd=>ai (f249 d.2) λe=>aj (D.bO c.2.1 0) (ai (F182 n (e.2.1,[44],())) λg=>aj g.1.1
 (ai (KK n f249 c g) (Qi n f249 c e)) (aj (D.bO (ak (nD e)) c.2.1) (aj (D.aK g.2.1.2.2.1) (ai (KK n f249 c g) (Qi n f249 c
 e)) (ai (Yh n g) λh=>Z ((nD e,()),h.2))) (ai (Yh n g) λh=>Z ((nD e,()),h.2)))) (aj (D.bO (ak (nD e))
 c.2.1) (aj (D.aK e.2.1.2.2.1) (ai (ae0 n f249 c e) (Qi n f249 c e)) (ai (Yg n e) λg=>Z ((nD e,()),g.2))) (ai (Yg n
 e) λg=>Z ((nD e,()),g.2)))
abbrev YU(F:Fn kL K85 J):kC sg:=⟨kL,K85,J,F⟩
def yo(d:tO):L Term:=
 [Term.mk d.1.1.1 d.1.1.2 d.1.1.3 d.1.1.4 d.1.1.5]
def Qh(l:Y8):L aC:=
 [aC.mk l.1.1.1 l.1.1.2 l.1.1.3 l.1.1.4]
def B316:aaV:=
 λn f249 c=>ai (f249 c) λd=>ai (F180 n (d.2.1,[123],())) λe=>aj (D.aK e.2.1.2.2.1) (ai (F319 n e.2) λg=>ai (F180 n (g.2.1,
 [45,62],())) λh=>ai (f249 h.2) λi=>aD (cX (yo d) (yo i)) (ai (F182 n (i.2.1,[124],())) λj=>ai (@iter (aiH) (U) (Y7
 ×qw×U) (Any) (λk=>aj k.1 (aj (D.aK k.2.1.2.2.1) (ai (F319 n (k.2.1,())) λl=>ai (F180 n (l.2.1,[45,62],())) λm=>ai
 (f249 m.2) λo=>aD (cX k.2.2.1.2.2.2.2.1 (Qh l)) (aD (cX k.2.2.1.2.2.2.1 (yo o)) (ai (F182 n (o.2.1,[124],())) λp=>Z
 (LO.next (p.1.1,p.2.1,(k.2.2.1.1,k.2.2.1.2.1,k.2.2.1.2.2.1,cM k.2.2.1.2.2.2.1 (yo o),cM k.2.2.1.2.2.2.2.1 (Qh l),()),()))))) (Z
 (LO.out 0 k))) (Z (LO.out 0 k))) n (j.1.1,j.2.1,(15,0,[],cM (yo d) (yo i),Qh g,()),())) λk=>LO.el k (λ_ m=>ai (F180
 n (m.2.1,[125],())) λo=>Z ((Term.mk m.2.2.1.1 m.2.2.1.2.1 m.2.2.1.2.2.1 m.2.2.1.2.2.2.1 m.2.2.1.2.2.2.2.1,()),o.2)) (λl _=>Z
 ((pX,()),l.1,())) λ_ _=>Y)) (ai (F180 n (e.2.1,[125],())) λg=>Z ((Term.mk 15 0 [] (yo d) [],()),g.2))
abbrev YT(F:Fn kL K85 J):kC sg:=⟨kL,K85,J,F⟩
def Qg(d:Y7×U):Y7:=
 (d.1.1,D.add .i64 d.1.2.1 1,d.1.2.2)
def B317:Nat->tN->aeF->Y7×U->O tO:=
 λn f249 f315 d=>aD (av d.1.2.1 d.1.1) (ai (F318 n ((aR d.1.1 (ah d.1.2.1) dy).2,())) λe=>aj (D.aG e.1.1 0) (Z ((pX,
 ()),(d.1.1,d.1.2.1,W,()),())) (aj (D.bO 0 e.1.2.1) (ai (f315 (Qg d,e.1.2)) λg=>Z ((Term.mk e.1.1 0 [] g.1.1 [],()),g.2)) (aj
 (D.bO e.1.2.1 0) (ai (F180 n (Qg d,[40],())) λg=>ai (F181 n (g.2.1,4,())) λh=>ai (F180 n (h.2.1,[44],())) λi=>ai (f249
 i.2) λj=>ai (F180 n (j.2.1,[41],())) λk=>Z ((Term.mk e.1.1 h.1.1.3 [] [Term.mk j.1.1.1 j.1.1.2 j.1.1.3 j.1.1.4 j.1.1.5] [],()),k.2))
 (Z ((Term.mk e.1.1 0 [] [] [],()),Qg d,())))))
def D249(n:Nat)(f249:Fn kL K85 J)(f287:Fn NB K85 J)(f288:Fn kL K85 J)(a:bz prog 249 (xA f249))(b:bz prog 287 (Za f287))(c:bz prog 288 (YZ f288)):bz prog 249 (xA (B249 n f249 f287 f288)):=ct [EC n,JK n,EB n,⟨249,xA f249,a⟩,⟨287,Za f287,b⟩,⟨288,YZ f288,c⟩,ZD n] [] n 10 249
def D287(n:Nat)(f249:Fn kL K85 J)(a:bz prog 249 (xA f249)):bz prog 287 (Za (B287 n f249)):=ct [EC n,JK n,⟨249,xA f249,a⟩] [] n 10 287
def D288(n:Nat)(f307:Fn kL K85 J)(a:bz prog 307 (YX f307)):bz prog 288 (YZ (B288 n f307)):=ct [ac0 n,ZD n,⟨307,YX f307,a⟩] [(288,0,⟨[(0,wq),(0,b7z)],[.slot 0,.slot 3],[],0⟩),(288,1000005,⟨[(4,de),(22,cZ)],[],[],0⟩)] n 10 288
def D307(n:Nat)(f312:Fn kL K85 J)(a:bz prog 312 (YW f312)):bz prog 307 (YX (B307 n f312)):=ct [EB n,ZD n,⟨312,YW f312,a⟩] [(307,0,⟨[(0,wq),(0,b7z)],[.slot 0,.slot 3],[],0⟩)] n 10 307
def D312(n:Nat)(f313:Fn kL K85 J)(a:bz prog 313 (YV f313)):bz prog 312 (YW (B312 n f313)):=ct [ZD n,⟨313,YV f313,a⟩,akI n] [(312,0,⟨[(0,wq),(0,b7z)],[.slot 0,.slot 3],[],0⟩)] n 10 312
def D313(n:Nat)(f249:Fn kL K85 J)(f315:Fn NB K88 J)(f316:Fn kL K85 J)(f317:Fn kL K85 J)(a:bz prog 249 (xA f249))(b:bz prog 315 (SK f315))(c:bz prog 316 (YU f316))(d:bz prog 317 (YT f317)):bz prog 313 (YV (B313 n f249 f315 f316 f317)):=ct [EC n,JK n,EB n,ac1 n,ac0 n,⟨249,xA f249,a⟩,⟨315,SK f315,b⟩,⟨316,YU f316,c⟩,⟨317,YT f317,d⟩] [(313,1000008,⟨[(27,cZ),(0,wq),(0,.box (.cells [lQ,lQ,.dat (.str),.dat (.sl (.st 20)),.nil (.st 0)]))],[.slot 0,.slot 3],[],0⟩)] n 10 313
def D315(n:Nat)(f249:Fn kL K85 J)(a:bz prog 249 (xA f249)):bz prog 315 (SK (B315 n f249)):=ct [EC n,EB n,⟨249,xA f249,a⟩] [(315,0,⟨[(6,.one (.own (.st 20))),(0,wq)],[.slot 0],[],1⟩),(315,1000006,⟨[(34,cZ),(0,wq)],[.slot 0],[],0⟩)] n 10 315
def D316(n:Nat)(f249:Fn kL K85 J)(a:bz prog 249 (xA f249)):bz prog 316 (YU (B316 n f249)):=ct [EC n,EB n,⟨249,xA f249,a⟩,akH n] [(316,0,⟨[(5,cZ),(0,wq),(0,.box (.cells [lQ,lQ,.dat (.str),.own (.st 20),.own (.st 0)]))],[.slot 0,.slot 4],[],1⟩)] n 10 316
def D317(n:Nat)(f249:Fn kL K85 J)(f315:Fn NB K88 J)(a:bz prog 249 (xA f249))(b:bz prog 315 (SK f315)):bz prog 317 (YT (B317 n f249 f315)):=ct [EC n,JK n,⟨249,xA f249,a⟩,⟨315,SK f315,b⟩,agc n] [] n 10 317
def R249(n k:Nat):(Fn kL K85 J)×(Fn NB K85 J)×(Fn kL K85 J)×(Fn kL K85 J)×(Fn kL K85 J)×(Fn kL K85 J)×(Fn NB K88 J)×(Fn kL K85 J)×(Fn kL K85 J):=Nat.rec (motive:=λ_=>(Fn kL K85 J)×(Fn NB K85 J)×(Fn kL K85 J)×(Fn kL K85 J)×(Fn kL K85 J)×(Fn kL K85 J)×(Fn NB K88 J)×(Fn kL K85 J)×(Fn kL K85 J)) ((λ_=>Y,λ_=>Y,λ_=>Y,λ_=>Y,λ_=>Y,λ_=>Y,λ_=>Y,λ_=>Y,λ_=>Y)) (λ_ r=>(B249 n r.1 r.2.1 r.2.2.1,B287 n r.1,B288 n r.2.2.2.1,B307 n r.2.2.2.2.1,B312 n r.2.2.2.2.2.1,B313 n r.1 r.2.2.2.2.2.2.1 r.2.2.2.2.2.2.2.1 r.2.2.2.2.2.2.2.2,B315 n r.1,B316 n r.1,B317 n r.1 r.2.2.2.2.2.2.1)) k
def F249(n:Nat):Fn kL K85 J:=(R249 n n).1
def acd(n:Nat):∀k,bz prog 249 (xA (R249 n k).1)∧bz prog 287 (Za (R249 n k).2.1)∧bz prog 288 (YZ (R249 n k).2.2.1)∧bz prog 307 (YX (R249 n k).2.2.2.1)∧bz prog 312 (YW (R249 n k).2.2.2.2.1)∧bz prog 313 (YV (R249 n k).2.2.2.2.2.1)∧bz prog 315 (SK (R249 n k).2.2.2.2.2.2.1)∧bz prog 316 (YU (R249 n k).2.2.2.2.2.2.2.1)∧bz prog 317 (YT (R249 n k).2.2.2.2.2.2.2.2)
 |0=>⟨bZ (enters 249 (by kernel_rfl)),bZ (enters 287 (by kernel_rfl)),bZ (enters 288 (by kernel_rfl)),bZ (enters 307 (by kernel_rfl)),bZ (enters 312 (by kernel_rfl)),bZ (enters 313 (by kernel_rfl)),bZ (enters 315 (by kernel_rfl)),bZ (enters 316 (by kernel_rfl)),bZ (enters 317 (by kernel_rfl))⟩
 |k+1=>have a:=acd n k
  ⟨D249 n _ _ _ a.1 a.2.1 a.2.2.1,D287 n _ a.1,D288 n _ a.2.2.2.1,D307 n _ a.2.2.2.2.1,D312 n _ a.2.2.2.2.2.1,D313 n _ _ _ _ a.1 a.2.2.2.2.2.2.1 a.2.2.2.2.2.2.2.1 a.2.2.2.2.2.2.2.2,D315 n _ a.1,D316 n _ a.1,D317 n _ _ a.1 a.2.2.2.2.2.2.1⟩
def ak4(n:Nat):OC:=⟨249,xA (F249 n),(acd n n).1⟩
def F184:Nat->Y7×U->O air:=
 λn b=>ai (F181 n (b.1,1,())) λc=>ai (F180 n (c.2.1,[40],())) λd=>ai (F181 n (d.2.1,1,())) λe=>ai (F180 n (e.2.1,[58],
 ())) λg=>ai (F248 n g.2) λh=>ai (F180 n (h.2.1,[41],())) λi=>ai (F180 n (i.2.1,[58],())) λj=>ai (F248 n j.2) λk=>ai
 (F180 n (k.2.1,[61],())) λl=>ai (F249 n l.2) λm=>ai (F180 n (m.2.1,[59],())) λo=>Z ((cF.mk c.1.1.2 e.1.1.2 (ck.mk
 h.1.1.1 h.1.1.2 h.1.1.3 h.1.1.4) (ck.mk k.1.1.1 k.1.1.2 k.1.1.3 k.1.1.4) (Term.mk m.1.1.1 m.1.1.2 m.1.1.3 m.1.1.4 m.1.1.5),()),o.2)
def alJ(n:Nat):OC:=⟨184,⟨kL,K89,J,F184 n⟩,ct [EC n,JK n,agm n,ak4 n] [] n 10 184⟩
def Ye(l:air):L cF:=
 [cF.mk l.1.1.1 l.1.1.2 (ck.mk l.1.1.3.1 l.1.1.3.2 l.1.1.3.3 l.1.1.3.4) (ck.mk l.1.1.4.1 l.1.1.4.2 l.1.1.4.3 l.1.1.4.4) (Term.mk
 l.1.1.5.1 l.1.1.5.2 l.1.1.5.3 l.1.1.5.4 l.1.1.5.5)]
def F136:Nat->Y7×U->O ((dZ×U)×Y7×U):=
 λn b=>ai (F180 n (b.1,[109,111,100,117,108,101],())) λc=>ai (F181 n (c.2.1,1,())) λd=>ai (F180 n (d.2.1,[123],())) λe
 =>ai (@iter (aaP) (U) (aaP) (Any) (λg=>ai (F182 n (g.1,[116,121,112,101],())) λh=>aj h.1.1 (ai (F183 n h.2) λi=>aD (cX
 g.2.1.2.1 [i.1.1]) (Z (LO.next (i.2.1,(g.2.1.1,cM g.2.1.2.1 [i.1.1],g.2.1.2.2),())))) (Z (LO.out 0 (h.2.1,g.2)))) n (e.2.1,(d.1.1.2,[],
 [],()),())) λg=>LO.el g (λ_ i=>ai (@iter (aaP) (U) (aaP) (Any) (λj=>ai (F182 n (j.1,[102,117,110],())) λk=>aj k.1.1
 (ai (F184 n k.2) λl=>aD (cX j.2.1.2.2.1 (Ye l)) (Z (LO.next (l.2.1,(j.2.1.1,j.2.1.2.1,cM j.2.1.2.2.1 (Ye l),()),())))) (Z
 (LO.out 0 (k.2.1,j.2)))) n i) λj=>LO.el j (λ_ l=>ai (F180 n (l.1,[125],())) λm=>Z ((dZ.mk l.2.1.1 l.2.1.2.1 l.2.1.2.2.1,
 ()),m.2)) (λk _=>Z ((jD,()),k.1,())) λ_ _=>Y) (λh _=>Z ((jD,()),h.1,())) λ_ _=>Y
def al5(n:Nat):OC:=⟨136,⟨kL,K90,J,F136 n⟩,ct [EC n,JK n,EB n,alK n,alJ n] [(136,0,⟨[(0,wq),(0,ah1)],[.slot 0,.slot 3],[],0⟩),(136,2,⟨[(0,wq),(0,ah1)],[.slot 0,.slot 3],[],0⟩)] n 10 136⟩
def F137:Y89:=
 λn b=>aj (D.aK b.1.3) (Z ((D.aG b.1.2 (ak b.1.1),()),())) (Z ((J,()),()))
def al4(n:Nat):OC:=⟨137,⟨P87,K4,J,F137 n⟩,ct [] [] n 10 137⟩
def F161:Y33:=
 λn b=>ai (@iter (Int×U) (Bool×U) (U) (Any) (λc=>aj (D.bO c.1 (ak b.1)) (aD (av c.1 b.1) (aj (D.bO (lC b.1 c.1) 97)
 (Z (LO.ret () (J,()))) (aD (av c.1 b.1) (aj (D.bO 122 (lC b.1 c.1)) (Z (LO.ret () (J,()))) (Z (LO.next (D.add .i64 c.1 1,
 ()))))))) (Z (LO.out 0 c))) n (0,())) λc=>LO.el c (λ_ _=>Z ((W,()),())) (λ_ e=>Z (e,())) λ_ _=>Y
def agx(n:Nat):OC:=⟨161,⟨P7,K4,J,F161 n⟩,ct [] [(161,0,⟨[(3,de)],[],[],0⟩)] n 10 161⟩
def F185:Y33:=
 λn b=>aj (D.ep 1 (ak b.1)) (aj (D.ep (ak b.1) 8) (ai (F161 n b) λc=>aj c.1.1 (ai (F250 n b) λd=>Z ((D.aK d.1.1,()),
 ())) (Z ((J,()),()))) (Z ((J,()),()))) (Z ((J,()),()))
def ac2(n:Nat):OC:=⟨185,⟨P7,K4,J,F185 n⟩,ct [agx n,agl n] [] n 10 185⟩
def F186:Y69:=
 λn b=>aj (D.ep b.2.1 b.1) (Z ((D.ep b.1 b.2.2.1,()),())) (Z ((J,()),()))
def V1(n:Nat):OC:=⟨186,⟨P6,K4,J,F186 n⟩,ct [] [] n 10 186⟩
def F93:Y33:=
 λn b=>aj (D.ep 1 (ak b.1)) (aj (D.ep (ak b.1) 8) (aD (av 0 b.1) (aj (D.ep 65 (lC b.1 0)) (aD (av 0 b.1) (aj (D.ep (lC b.1 0)
 90) (aD (eS 1 (ak b.1) (ak b.1)) (ai (F161 n (eo b.1 1 (ak b.1),())) λc=>Z c)) (Z ((J,()),())))) (Z ((J,()),
 ())))) (Z ((J,()),()))) (Z ((J,()),()))
def k93(n:Nat):OC:=⟨93,⟨P7,K4,J,F93 n⟩,ct [agx n] [] n 10 93⟩
abbrev Vc(F:Fn P91 K2 J):kC sg:=⟨P91,K2,J,F⟩
def B251:Nat->(aid->Gn)->aid->Gn:=
 λn f251 c=>aj (D.bO c.2.1 1) (Z (((-1),()),())) (ai (@iter (Int×Int×U) (Int×U) (U) (Any) (λd=>aj (D.bO d.2.1 (ak
 c.1.4)) (aj (D.ep 0 d.1) (aD (av d.2.1 c.1.4) (ai (f251 (aR c.1.4 (ah d.2.1) mq,d.1,())) λe=>Z (LO.next (e.1.1,D.add .i64
 d.2.1 1,())))) (Z (LO.out 0 d))) (Z (LO.out 0 d))) n (D.dH .i64 c.2.1 1,0,())) λd=>LO.el d (λ_ g=>Z ((g.1,()),())) (λ_ g
 =>Z (g,())) λ_ _=>Y)
def D251(n:Nat)(f251:Fn P91 K2 J)(a:bz prog 251 (Vc f251)):bz prog 251 (Vc (B251 n f251)):=ct [⟨251,Vc f251,a⟩] [(251,0,⟨[(1,de),(5,de)],[],[],0⟩)] n 10 251
def R251(n k:Nat):(Fn P91 K2 J):=Nat.rec (motive:=λ_=>(Fn P91 K2 J)) (λ_=>Y) (λ_ r=>B251 n r) k
def F251(n:Nat):Fn P91 K2 J:=(R251 n n)
def ab9(n:Nat):∀k,bz prog 251 (Vc (R251 n k))
 |0=>bZ (enters 251 (by kernel_rfl))
 |k+1=>have a:=ab9 n k
  D251 n _ a
def ak3(n:Nat):OC:=⟨251,Vc (F251 n),(ab9 n n)⟩
abbrev Vb(F:Fn P92 K4 J):kC sg:=⟨P92,K4,J,F⟩
def B252:Nat->(aiA->O fc)->aiA->O fc:=
 λn f252 c=>ai (aj (D.aG c.1.1 1) (Z (LO.next (W,()))) (ai (aj (D.aG c.1.1 2) (Z (LO.next (W,()))) (Z (LO.next (D.aG c.1.1
 3,())))) λ(d:FH)=>LO.jn d (λe=>Z (LO.next e)) (λ_ _=>Y) (λ_ g=>Z (LO.ret () g)) λ_ _=>Y)) λ(d:FH)=>
 LO.jn d (λe=>ai (aj e.1 (aj (D.aG (ak c.1.4) 0) (aj (D.aG c.1.2 0) (Z (LO.next (gn c.1.3 [],W,()))) (Z (LO.next (J,W,
 ())))) (Z (LO.next (J,W,())))) (ai (aj (D.aG c.1.1 4) (aj (D.aG (ak c.1.4) 2) (aj (D.aG c.1.2 0) (Z (LO.next (gn c.1.3 [],
 W,()))) (Z (LO.next (J,W,())))) (Z (LO.next (J,W,())))) (ai (aj (D.aG c.1.1 5) (Z (LO.next (W,()))) (ai (aj
 (D.aG c.1.1 6) (Z (LO.next (W,()))) (Z (LO.next (D.aG c.1.1 7,())))) λ(g:FH)=>LO.jn g (λh=>Z (LO.next h)) (λ_ _=>
 Y) (λ_ i=>Z (LO.ret () i)) λ_ _=>Y)) λ(g:FH)=>LO.jn g (λh=>ai (aj h.1 (aj (D.aG (ak c.1.4) 1) (aj (D.aG c.1.2
 0) (Z (LO.next (gn c.1.3 [],W,()))) (Z (LO.next (J,W,())))) (Z (LO.next (J,W,())))) (ai (aj (D.aG c.1.1 8) (aj
 (D.aG (ak c.1.4) 0) (aj (D.aG c.1.2 0) (ai (F93 n (c.1.3,())) λi=>Z (LO.next (i.1.1,W,()))) (Z (LO.next (J,W,()))))
 (Z (LO.next (J,W,())))) (ai (aj (D.aG c.1.1 9) (aj c.2.1 (aj (D.aG (ak c.1.4) 0) (aj (gn c.1.3 []) (ai (F186 n (c.1.2,0,99,
 ())) λi=>Z (LO.next (i.1.1,W,()))) (Z (LO.next (J,W,())))) (Z (LO.next (J,W,())))) (Z (LO.next (J,W,
 ())))) (Z (LO.next (J,J,())))) λ(i:KP)=>LO.jn i (λj=>Z (LO.next (j.1,J,()))) (λ_ _=>Y) (λ_ k=>Z
 (LO.ret () k)) λ_ _=>Y)) λ(i:KP)=>LO.jn i (λj=>Z (LO.next (j.1,J,()))) (λ_ _=>Y) (λ_ k=>Z (LO.ret () k))
 λ_ _=>Y)) λ(i:KP)=>LO.jn i (λj=>Z (LO.next (j.1,J,()))) (λ_ _=>Y) (λ_ k=>Z (LO.ret () k)) λ_ _=>
 Y) (λ_ _=>Y) (λ_ i=>Z (LO.ret () i)) λ_ _=>Y)) λ(g:KP)=>LO.jn g (λh=>Z (LO.next (h.1,J,()))) (λ_ _
 =>Y) (λ_ i=>Z (LO.ret () i)) λ_ _=>Y)) λ(g:KP)=>LO.jn g (λh=>ai (@iter (Bool×Int×U) (Bool×U) (U) (Any)
 (λi=>aj (D.bO i.2.1 (ak c.1.4)) (aj i.1 (aD (av i.2.1 c.1.4) (ai (f252 (aR c.1.4 (ah i.2.1) mq,c.2)) λj=>Z (LO.next
 (j.1.1,D.add .i64 i.2.1 1,())))) (Z (LO.out 0 i))) (Z (LO.out 0 i))) n (h.1,0,())) λi=>LO.el i (λ_ k=>Z ((k.1,()),())) (λ_
 k=>Z (k,())) λ_ _=>Y) (λ_ _=>Y) (λ_ i=>Z (i,())) λ_ _=>Y) (λ_ _=>Y) (λ_ g=>Z (g,())) λ_ _=>
 Y
def D252(n:Nat)(f252:Fn P92 K4 J)(a:bz prog 252 (Vb f252)):bz prog 252 (Vb (B252 n f252)):=ct [k93 n,V1 n,⟨252,Vb f252,a⟩] [(252,1,⟨[(6,cZ),(7,de)],[],[],0⟩),(252,1000005,⟨[(13,cZ)],[],[],0⟩),(252,1000006,⟨[(13,cZ)],[],[],0⟩),(252,1000007,⟨[(6,cZ),(13,cZ)],[],[],0⟩),(252,1000009,⟨[(6,cZ),(29,cZ)],[],[],0⟩),(252,1000011,⟨[(43,cZ)],[],[],0⟩),(252,1000012,⟨[(43,cZ)],[],[],0⟩),(252,1000013,⟨[(6,cZ),(43,cZ)],[],[],0⟩),(252,1000015,⟨[(6,cZ),(59,cZ)],[],[],0⟩),(252,1000017,⟨[(6,cZ),(73,cZ)],[],[],0⟩)] n 10 252
def R252(n k:Nat):(Fn P92 K4 J):=Nat.rec (motive:=λ_=>(Fn P92 K4 J)) (λ_=>Y) (λ_ r=>B252 n r) k
def F252(n:Nat):Fn P92 K4 J:=(R252 n n)
def ab8(n:Nat):∀k,bz prog 252 (Vb (R252 n k))
 |0=>bZ (enters 252 (by kernel_rfl))
 |k+1=>have a:=ab8 n k
  D252 n _ a
def ak2(n:Nat):OC:=⟨252,Vb (F252 n),(ab8 n n)⟩
def F188:Nat->ck×U->O fc:=
 λn b=>ai (F251 n (ck.mk b.1.1 b.1.2 b.1.3 b.1.4,12,())) λc=>aj (D.ep 0 c.1.1) (ai (F252 n (ck.mk b.1.1 b.1.2 b.1.3 b.1.4,
 J,())) λd=>Z d) (Z ((J,()),()))
def agu(n:Nat):OC:=⟨188,⟨P93,K4,J,F188 n⟩,ct [ak3 n,ak2 n] [] n 10 188⟩
def F187:Nat->jG×U->O fc:=
 λn b=>ai (F93 n (b.1.1,())) λc=>aj (D.aK c.1.1) (Z ((J,()),())) (ai (F186 n (ak b.1.2,1,5,())) λd=>aj (D.aK
 d.1.1) (Z ((J,()),())) (ai (@iter (Int×U) (Bool×U) (U) (Any) (λe=>aj (D.bO e.1 (ak b.1.2)) (aD (av e.1 b.1.2) (ai
 (F93 n ((aR b.1.2 (ah e.1) gZ).1,())) λg=>aj (D.aK g.1.1) (Z (LO.ret () (J,()))) (aj (D.bO 3 (ak (aR b.1.2 (ah e.1)
 gZ).2)) (Z (LO.ret () (J,()))) (ai (@iter (Int×U) (Bool×U) (U) (Any) (λh=>aj (D.bO h.1 (ak (aR b.1.2 (ah
 e.1) gZ).2)) (aD (av h.1 (aR b.1.2 (ah e.1) gZ).2) (ai (F188 n (aR (aR b.1.2 (ah e.1) gZ).2 (ah h.1) mq,
 ())) λi=>aj (D.aK i.1.1) (Z (LO.ret () (J,()))) (Z (LO.next (D.add .i64 h.1 1,()))))) (Z (LO.out 0 h))) n (0,())) λh=>
 LO.el h (λ_ _=>Z (LO.next (D.add .i64 e.1 1,()))) (λ_ j=>Z (LO.ret () j)) λ_ _=>Y)))) (Z (LO.out 0 e))) n (0,())) λe=>
 LO.el e (λ_ _=>Z ((W,()),())) (λ_ h=>Z (h,())) λ_ _=>Y))
def alI(n:Nat):OC:=⟨187,⟨P94,K4,J,F187 n⟩,ct [k93 n,V1 n,agu n] [(187,0,⟨[(3,de)],[],[],0⟩),(187,2,⟨[(5,de)],[],[],0⟩)] n 10 187⟩
abbrev Va(F:Fn P95 K2 J):kC sg:=⟨P95,K2,J,F⟩
def B253:Nat->(Y57->Gn)->Y57->Gn:=
 λn f253 c=>aj (D.bO c.2.1 1) (Z (((-1),()),())) (aj (D.bO c.2.2.1 1) (Z (((-1),()),())) (ai (@iter (Int×Int×U) (Int×U)
 (U) (Any) (λd=>aj (D.bO d.2.1 (ak c.1.4)) (aj (D.ep 0 d.1) (aD (av d.2.1 c.1.4) (ai (f253 (aR c.1.4 (ah d.2.1) pX,d.1,D.dH .i64
 c.2.2.1 1,())) λe=>Z (LO.next (e.1.1,D.add .i64 d.2.1 1,())))) (Z (LO.out 0 d))) (Z (LO.out 0 d))) n (D.dH .i64 c.2.1 1,0,())) λ
 d=>LO.el d (λ_ g=>Z ((g.1,()),())) (λ_ g=>Z (g,())) λ_ _=>Y))
def D253(n:Nat)(f253:Fn P95 K2 J)(a:bz prog 253 (Va f253)):bz prog 253 (Va (B253 n f253)):=ct [⟨253,Va f253,a⟩] [(253,0,⟨[(1,de),(7,de)],[],[],0⟩)] n 10 253
def R253(n k:Nat):(Fn P95 K2 J):=Nat.rec (motive:=λ_=>(Fn P95 K2 J)) (λ_=>Y) (λ_ r=>B253 n r) k
def F253(n:Nat):Fn P95 K2 J:=(R253 n n)
def ab7(n:Nat):∀k,bz prog 253 (Va (R253 n k))
 |0=>bZ (enters 253 (by kernel_rfl))
 |k+1=>have a:=ab7 n k
  D253 n _ a
def ak1(n:Nat):OC:=⟨253,Va (F253 n),(ab7 n n)⟩
def X3(n:Nat)(b:aeB):O fc:=
 aj b.2.2.2.1 (Z ((W,()),())) (Z ((D.aG (ak b.1.5) 0,()),()))
def X2(n:Nat)(b:aeB):O fc:=
 aj b.2.2.1 (X3 n b) (aj (gn b.1.3 []) (X3 n b) (Z ((J,()),())))
def F308:Nat->aeB->O fc:=
 λn b=>aj b.2.1 (X2 n b) (aj (D.aG b.1.2 0) (X2 n b) (Z ((J,()),())))
def akL(n:Nat):OC:=⟨308,⟨P96,K4,J,F308 n⟩,ct [] [] n 10 308⟩
def FQ(b:Term×U):Term:=
 Term.mk b.1.1 b.1.2 b.1.3 b.1.4 b.1.5
def PU(n:Nat)(b:Term×U):O fc:=
 F308 n (FQ b,W,J,J,())
def iW(n:Nat):O fc:=
 Z ((J,()),())
def X5(n:Nat):FH->O FH:=
 λc=>LO.jn c (λd=>Z (LO.next d)) (λ_ _=>Y) (λ_ e=>Z (LO.ret () e)) λ_ _=>Y
def Ks(n:Nat)(b:Term×U):O fc:=
 ai (F308 n (FQ b,J,J,J,())) λe=>Z e
def PT(n:Nat)(b:Term×U):O fc:=
 ai (F308 n (FQ b,J,W,J,())) λe=>aj e.1.1 (ai (F185 n (b.1.3,())) λg=>Z g) (iW n)
def Kr(n:Nat):FH->O FH:=
 λh=>LO.jn h (λi=>Z (LO.next i)) (λ_ _=>Y) (λ_ j=>Z (LO.ret () j)) λ_ _=>Y
def Bc(n:Nat):FH->O FH:=
 λj=>LO.jn j (λk=>Z (LO.next k)) (λ_ _=>Y) (λ_ l=>Z (LO.ret () l)) λ_ _=>Y
def Kq(n:Nat):U->Bool×U->O fc:=
 λ_ l=>Z (l,())
def F291:Y86:=
 λn b=>aj (D.aG b.1.1 1) (aj (D.aG (ak b.1.4) 0) (ai (PU n b) λc=>aj c.1.1 (ai (F186 n (b.1.2,(-1000000000),1000000000,()))
 λd=>Z d) (iW n)) (iW n)) (aj (D.aG b.1.1 2) (aj (D.aG (ak b.1.4) 0) (ai (PU n b) λc=>aj c.1.1 (ai (F186 n (b.1.2,0,
 1,())) λd=>Z d) (iW n)) (iW n)) (ai (aj (D.aG b.1.1 3) (Z (LO.next (W,()))) (ai (aj (D.aG b.1.1 21) (Z (LO.next (W,
 ()))) (ai (aj (D.aG b.1.1 25) (Z (LO.next (W,()))) (Z (LO.next (D.aG b.1.1 28,())))) (X5 n))) (X5 n))) λ(c:FH)=>LO.jn c
 (λd=>aj d.1 (aj (D.aG (ak b.1.4) 0) (Ks n b) (iW n)) (aj (D.aG b.1.1 4) (aj (D.aG (ak b.1.4) 0) (PT n b) (iW n)) (ai
 (aj (D.aG b.1.1 5) (Z (LO.next (W,()))) (Z (LO.next (D.aG b.1.1 27,())))) λ(e:FH)=>LO.jn e (λg=>aj g.1 (aj (D.aG (ak
 b.1.4) 1) (PT n b) (iW n)) (aj (D.aG b.1.1 7) (aj (D.aG (ak b.1.4) 2) (PT n b) (iW n)) (aj (D.aG b.1.1 8) (aj (D.aG (ak
 b.1.4) 3) (Ks n b) (iW n)) (aj (D.aG b.1.1 14) (aj (D.ep (ak b.1.4) 3) (ai (F308 n (FQ b,J,W,J,())) λh=>aj
 h.1.1 (ai (F93 n (b.1.3,())) λi=>Z i) (iW n)) (iW n)) (aj (D.aG b.1.1 15) (ai (F186 n (ak b.1.5,1,5,())) λh=>aj h.1.1
 (aj (D.aG (ak b.1.4) (D.add .i64 1 (ak b.1.5))) (ai (F308 n (FQ b,J,J,W,())) λi=>Z i) (iW n)) (iW n)) (ai
 (aj (D.aG b.1.1 16) (Z (LO.next (W,()))) (ai (aj (D.aG b.1.1 17) (Z (LO.next (W,()))) (ai (aj (D.aG b.1.1 19) (Z (LO.next
 (W,()))) (ai (aj (D.aG b.1.1 20) (Z (LO.next (W,()))) (ai (aj (D.aG b.1.1 23) (Z (LO.next (W,()))) (Z (LO.next (D.aG b.1.1
 26,())))) (Kr n))) (Kr n))) (Kr n))) (Kr n))) λ(h:FH)=>LO.jn h (λi=>aj i.1 (aj (D.aG (ak b.1.4) 1) (Ks n b)
 (iW n)) (aj (D.aG b.1.1 24) (aj (D.aG (ak b.1.4) 1) (ai (PU n b) λj=>aj j.1.1 (ai (F186 n (b.1.2,0,3,())) λk=>Z k)
 (iW n)) (iW n)) (ai (aj (D.aG b.1.1 6) (Z (LO.next (W,()))) (ai (aj (D.aG b.1.1 9) (Z (LO.next (W,()))) (ai (aj (D.aG
 b.1.1 10) (Z (LO.next (W,()))) (ai (aj (D.aG b.1.1 11) (Z (LO.next (W,()))) (ai (aj (D.aG b.1.1 12) (Z (LO.next (W,())))
 (ai (aj (D.aG b.1.1 13) (Z (LO.next (W,()))) (ai (aj (D.aG b.1.1 18) (Z (LO.next (W,()))) (Z (LO.next (D.aG b.1.1 22,()))))
 (Bc n))) (Bc n))) (Bc n))) (Bc n))) (Bc n))) (Bc n))) λ(j:FH)=>LO.jn j (λk=>aj k.1 (aj (D.aG (ak b.1.4) 2)
 (Ks n b) (iW n)) (iW n)) (λ_ _=>Y) (Kq n) λ_ _=>Y))) (λ_ _=>Y) (Kq n) λ_ _=>Y)))))) (λ_ _=>
 Y) (Kq n) λ_ _=>Y))) (λ_ _=>Y) (Kq n) λ_ _=>Y))
def akR(n:Nat):OC:=⟨291,⟨P97,K4,J,F291 n⟩,ct [k93 n,ac2 n,V1 n,akL n] [(291,1000008,⟨[(35,cZ)],[],[],0⟩),(291,1000009,⟨[(35,cZ)],[],[],0⟩),(291,1000010,⟨[(35,cZ)],[],[],0⟩),(291,1000015,⟨[(59,cZ)],[],[],0⟩),(291,1000026,⟨[(125,cZ)],[],[],0⟩),(291,1000027,⟨[(125,cZ)],[],[],0⟩),(291,1000028,⟨[(125,cZ)],[],[],0⟩),(291,1000029,⟨[(125,cZ)],[],[],0⟩),(291,1000030,⟨[(125,cZ)],[],[],0⟩),(291,1000035,⟨[(151,cZ)],[],[],0⟩),(291,1000036,⟨[(151,cZ)],[],[],0⟩),(291,1000037,⟨[(151,cZ)],[],[],0⟩),(291,1000038,⟨[(151,cZ)],[],[],0⟩),(291,1000039,⟨[(151,cZ)],[],[],0⟩),(291,1000040,⟨[(151,cZ)],[],[],0⟩),(291,1000041,⟨[(151,cZ)],[],[],0⟩)] n 10 291⟩
def F94:aih:=
 λn b=>ai (@iter (Int×U) (Bool×U) (U) (Any) (λc=>aj (D.bO c.1 (ak b.1)) (aD (eS 0 c.1 (ak b.1)) (aD (av c.1 b.1)
 (ai (F142 n (eo b.1 0 c.1,aR b.1 (ah c.1) [],())) λd=>aj d.1.1 (Z (LO.ret () (J,()))) (Z (LO.next (D.add .i64 c.1 1,()))))))
 (Z (LO.out 0 c))) n (0,())) λc=>LO.el c (λ_ _=>Z ((W,()),())) (λ_ e=>Z (e,())) λ_ _=>Y
def k94(n:Nat):OC:=⟨94,⟨P9,K4,J,F94 n⟩,ct [ZI n] [(94,0,⟨[(3,de)],[],[],0⟩)] n 10 94⟩
abbrev U8(F:Fn P3 K72 J):kC sg:=⟨P3,K72,J,F⟩
def B255:Nat->(aC×U->O (T4×U))->aC×U->O (T4×U):=
 λn f255 c=>aj (D.aG c.1.1 2) (Z (([c.1.3],()),())) (ai (@iter (T7) (T4) (U) (Any) (λd=>aj (D.bO d.2.1 (ak c.1.4)) (aD
 (av d.2.1 c.1.4) (ai (f255 (aR c.1.4 (ah d.2.1) aN,())) λe=>aD (cX d.1 e.1.1) (Z (LO.next (cM d.1 e.1.1,D.add .i64 d.2.1 1,
 ()))))) (Z (LO.out 0 d))) n ([],0,())) λd=>LO.el d (λ_ g=>Z ((g.1,()),())) (λ_ g=>Z (g,())) λ_ _=>Y)
def D255(n:Nat)(f255:Fn P3 K72 J)(a:bz prog 255 (U8 f255)):bz prog 255 (U8 (B255 n f255)):=ct [⟨255,U8 f255,a⟩] [(255,0,⟨[(3,.one (.own (.str))),(4,de)],[],[],0⟩)] n 10 255
def R255(n k:Nat):(Fn P3 K72 J):=Nat.rec (motive:=λ_=>(Fn P3 K72 J)) (λ_=>Y) (λ_ r=>B255 n r) k
def F255(n:Nat):Fn P3 K72 J:=(R255 n n)
def ab5(n:Nat):∀k,bz prog 255 (U8 (R255 n k))
 |0=>bZ (enters 255 (by kernel_rfl))
 |k+1=>have a:=ab5 n k
  D255 n _ a
def agk(n:Nat):OC:=⟨255,U8 (F255 n),(ab5 n n)⟩
abbrev U5(F:Fn P3 K4 J):kC sg:=⟨P3,K4,J,F⟩
def B309:Y37:=
 λn f309 c=>ai (aj (D.aG c.1.1 1) (Z (LO.next (W,()))) (Z (LO.next (D.aG c.1.1 5,())))) λ(d:FH)=>LO.jn d (λe=>ai (aj
 e.1 (aj (D.aG (ak c.1.4) 0) (aj (D.aG c.1.2 0) (Z (LO.next (gn c.1.3 [],W,()))) (Z (LO.next (J,W,())))) (Z (LO.next
 (J,W,())))) (ai (aj (D.aG c.1.1 2) (aj (D.aG (ak c.1.4) 0) (aj (D.aG c.1.2 0) (ai (F185 n (c.1.3,())) λg=>Z (LO.next
 (g.1.1,W,()))) (Z (LO.next (J,W,())))) (Z (LO.next (J,W,())))) (ai (aj (D.aG c.1.1 3) (aj (D.aG (ak c.1.4) 0) (aj
 (gn c.1.3 []) (ai (F186 n (c.1.2,(-1000000000),1000000000,())) λg=>Z (LO.next (g.1.1,W,()))) (Z (LO.next (J,W,()))))
 (Z (LO.next (J,W,())))) (ai (aj (D.aG c.1.1 4) (aj (D.aG (ak c.1.4) 0) (aj (gn c.1.3 []) (ai (F186 n (c.1.2,0,1,())) λg=>
 Z (LO.next (g.1.1,W,()))) (Z (LO.next (J,W,())))) (Z (LO.next (J,W,())))) (ai (aj (D.aG c.1.1 6) (aj (D.ep (ak
 c.1.4) 3) (aj (D.aG c.1.2 0) (ai (F93 n (c.1.3,())) λg=>Z (LO.next (g.1.1,W,()))) (Z (LO.next (J,W,())))) (Z (LO.next
 (J,W,())))) (Z (LO.next (J,J,())))) λ(g:KP)=>LO.jn g (λh=>Z (LO.next (h.1,J,()))) (λ_ _=>Y) (λ_
 i=>Z (LO.ret () i)) λ_ _=>Y)) λ(g:KP)=>LO.jn g (λh=>Z (LO.next (h.1,J,()))) (λ_ _=>Y) (λ_ i=>Z
 (LO.ret () i)) λ_ _=>Y)) λ(g:KP)=>LO.jn g (λh=>Z (LO.next (h.1,J,()))) (λ_ _=>Y) (λ_ i=>Z (LO.ret () i))
 λ_ _=>Y)) λ(g:KP)=>LO.jn g (λh=>Z (LO.next (h.1,J,()))) (λ_ _=>Y) (λ_ i=>Z (LO.ret () i)) λ_ _=>
 Y)) λ(g:KP)=>LO.jn g (λh=>ai (@iter (Bool×Int×U) (Bool×U) (U) (Any) (λi=>aj (D.bO i.2.1 (ak c.1.4)) (aj i.1
 (aD (av i.2.1 c.1.4) (ai (f309 (aR c.1.4 (ah i.2.1) aN,())) λj=>Z (LO.next (j.1.1,D.add .i64 i.2.1 1,())))) (Z (LO.out 0
 i))) (Z (LO.out 0 i))) n (h.1,0,())) λi=>LO.el i (λ_ k=>Z ((k.1,()),())) (λ_ k=>Z (k,())) λ_ _=>Y) (λ_ _=>
 Y) (λ_ i=>Z (i,())) λ_ _=>Y) (λ_ _=>Y) (λ_ g=>Z (g,())) λ_ _=>Y
def D309(n:Nat)(f309:Fn P3 K4 J)(a:bz prog 309 (U5 f309)):bz prog 309 (U5 (B309 n f309)):=ct [k93 n,ac2 n,V1 n,⟨309,U5 f309,a⟩] [(309,1,⟨[(4,cZ),(5,de)],[],[],0⟩),(309,1000005,⟨[(11,cZ)],[],[],0⟩),(309,1000006,⟨[(4,cZ),(11,cZ)],[],[],0⟩),(309,1000008,⟨[(4,cZ),(26,cZ)],[],[],0⟩),(309,1000010,⟨[(4,cZ),(40,cZ)],[],[],0⟩),(309,1000012,⟨[(4,cZ),(54,cZ)],[],[],0⟩),(309,1000014,⟨[(4,cZ),(68,cZ)],[],[],0⟩)] n 10 309
def R309(n k:Nat):(Fn P3 K4 J):=Nat.rec (motive:=λ_=>(Fn P3 K4 J)) (λ_=>Y) (λ_ r=>B309 n r) k
def F309(n:Nat):Fn P3 K4 J:=(R309 n n)
def ab2(n:Nat):∀k,bz prog 309 (U5 (R309 n k))
 |0=>bZ (enters 309 (by kernel_rfl))
 |k+1=>have a:=ab2 n k
  D309 n _ a
def akK(n:Nat):OC:=⟨309,U5 (F309 n),(ab2 n n)⟩
def F292:Y11:=
 λn b=>ai (F83 n (aC.mk b.1.1 b.1.2 b.1.3 b.1.4,12,())) λc=>aj (D.ep 0 c.1.1) (ai (F309 n (aC.mk b.1.1 b.1.2 b.1.3 b.1.4,()))
 λd=>aj d.1.1 (ai (F255 n (aC.mk b.1.1 b.1.2 b.1.3 b.1.4,())) λe=>ai (F94 n e.1) λg=>Z g) (Z ((J,()),()))) (Z
 ((J,()),()))
def akQ(n:Nat):OC:=⟨292,⟨P3,K4,J,F292 n⟩,ct [k83 n,k94 n,agk n,akK n] [] n 10 292⟩
abbrev U9(F:Fn P97 K4 J):kC sg:=⟨P97,K4,J,F⟩
def B254:Nat->(Term×U->O fc)->Term×U->O fc:=
 λn f254 c=>ai (F291 n (Term.mk c.1.1 c.1.2 c.1.3 c.1.4 c.1.5,())) λd=>aj (D.aK d.1.1) (Z ((J,()),())) (ai (@iter (Int×U)
 (Bool×U) (U) (Any) (λe=>aj (D.bO e.1 (ak c.1.5)) (aD (av e.1 c.1.5) (ai (F292 n (aR c.1.5 (ah e.1) aN,())) λg=>aj
 (D.aK g.1.1) (Z (LO.ret () (J,()))) (Z (LO.next (D.add .i64 e.1 1,()))))) (Z (LO.out 0 e))) n (0,())) λe=>LO.el e (λ_ _=>
 ai (@iter (Int×U) (Bool×U) (U) (Any) (λi=>aj (D.bO i.1 (ak c.1.4)) (aD (av i.1 c.1.4) (ai (f254 (aR c.1.4 (ah i.1) pX,
 ())) λj=>aj (D.aK j.1.1) (Z (LO.ret () (J,()))) (Z (LO.next (D.add .i64 i.1 1,()))))) (Z (LO.out 0 i))) n (0,())) λi=>
 LO.el i (λ_ _=>Z ((W,()),())) (λ_ k=>Z (k,())) λ_ _=>Y) (λ_ h=>Z (h,())) λ_ _=>Y)
def D254(n:Nat)(f254:Fn P97 K4 J)(a:bz prog 254 (U9 f254)):bz prog 254 (U9 (B254 n f254)):=ct [⟨254,U9 f254,a⟩,akR n,akQ n] [(254,0,⟨[(3,de)],[],[],0⟩),(254,2,⟨[(4,de)],[],[],0⟩)] n 10 254
def R254(n k:Nat):(Fn P97 K4 J):=Nat.rec (motive:=λ_=>(Fn P97 K4 J)) (λ_=>Y) (λ_ r=>B254 n r) k
def F254(n:Nat):Fn P97 K4 J:=(R254 n n)
def ab6(n:Nat):∀k,bz prog 254 (U9 (R254 n k))
 |0=>bZ (enters 254 (by kernel_rfl))
 |k+1=>have a:=ab6 n k
  D254 n _ a
def ak0(n:Nat):OC:=⟨254,U9 (F254 n),(ab6 n n)⟩
def F189:Y86:=
 λn b=>ai (F253 n (Term.mk b.1.1 b.1.2 b.1.3 b.1.4 b.1.5,60,14,())) λc=>aj (D.ep 0 c.1.1) (ai (F254 n (Term.mk b.1.1 b.1.2 b.1.3 b.1.4
 b.1.5,())) λd=>Z d) (Z ((J,()),()))
def alH(n:Nat):OC:=⟨189,⟨P97,K4,J,F189 n⟩,ct [ak1 n,ak0 n] [] n 10 189⟩
def kN(b:dZ×U)(i:Int×U):cF:=
 aR b.1.3 (ah i.1) dL
def FZ(n:Nat):O (LO (Int×U) (Bool×U) U Any):=
 Z (LO.ret () (J,()))
def F138:Nat->dZ×U->O fc:=
 λn b=>ai (F185 n (b.1.1,())) λc=>aj (D.aK c.1.1) (Z ((J,()),())) (aj (D.bO 4 (ak b.1.2)) (Z ((J,()),())) (ai
 (F186 n (ak b.1.3,1,5,())) λd=>aj (D.aK d.1.1) (Z ((J,()),())) (ai (@iter (Int×U) (Bool×U) (U) (Any) (λe=>aj
 (D.bO e.1 (ak b.1.2)) (aD (av e.1 b.1.2) (ai (F187 n (aR b.1.2 (ah e.1) kS,())) λg=>aj (D.aK g.1.1) (Z (LO.ret () (J,
 ()))) (Z (LO.next (D.add .i64 e.1 1,()))))) (Z (LO.out 0 e))) n (0,())) λe=>LO.el e (λ_ _=>ai (@iter (Int×U) (Bool×U)
 (U) (Any) (λi=>aj (D.bO i.1 (ak b.1.3)) (aD (av i.1 b.1.3) (ai (F185 n ((kN b i).1,())) λj=>aj (D.aK j.1.1) (FZ n)
 (ai (F185 n ((kN b i).2,())) λk=>aj (D.aK k.1.1) (FZ n) (ai (F188 n (ck.mk (kN b i).3.1 (kN b i).3.2 (kN b i).3.3
 (kN b i).3.4,())) λl=>aj (D.aK l.1.1) (FZ n) (ai (F188 n (ck.mk (kN b i).4.1 (kN b i).4.2 (kN b i).4.3 (kN b
 i).4.4,())) λm=>aj (D.aK m.1.1) (FZ n) (ai (F189 n (Term.mk (kN b i).5.1 (kN b i).5.2 (kN b i).5.3 (kN b i).5.4 (kN b
 i).5.5,())) λo=>aj (D.aK o.1.1) (FZ n) (Z (LO.next (D.add .i64 i.1 1,()))))))))) (Z (LO.out 0 i))) n (0,())) λi=>LO.el i (λ
 _ _=>Z ((W,()),())) (λ_ k=>Z (k,())) λ_ _=>Y) (λ_ h=>Z (h,())) λ_ _=>Y)))
def agA(n:Nat):OC:=⟨138,⟨P98,K4,J,F138 n⟩,ct [ac2 n,V1 n,alI n,agu n,alH n] [(138,0,⟨[(3,de)],[],[],0⟩),(138,2,⟨[(4,de)],[],[],0⟩)] n 10 138⟩
def F85:Nat->L UInt8×U->O ((dZ×Int×U)×U):=
 λn b=>ai (F179 n b) λc=>aj (D.aK (D.aG c.1.2.1 0)) (Z ((jD,c.1.2),())) (ai (F136 n ((c.1.1,0,J,()),())) λd=>
 ai (F137 n (bG.mk d.2.1.1 d.2.1.2.1 d.2.1.2.2.1,())) λe=>aj (D.aK e.1.1) (Z ((jD,4,()),())) (ai (F138 n d.1)
 λg=>aj (D.aK g.1.1) (Z ((jD,2,()),())) (Z ((d.1.1,0,()),()))))
def k85(n:Nat):OC:=⟨85,⟨P7,K99,J,F85 n⟩,ct [al5 n,al4 n,agA n,alL n] [] n 10 85⟩
def F139:Nat->dZ×U->O (T4×U):=
 λn b=>ai (@iter (T7) (T4) (U) (Any) (λc=>aj (D.bO c.2.1 (ak b.1.3)) (aD (av c.2.1 b.1.3) (aD (cX c.1 [(aR b.1.3 (ah
 c.2.1) dL).1]) (Z (LO.next (cM c.1 [(aR b.1.3 (ah c.2.1) dL).1],D.add .i64 c.2.1 1,()))))) (Z (LO.out 0 c))) n ([],0,
 ())) λc=>LO.el c (λ_ e=>Z ((e.1,()),())) (λ_ e=>Z (e,())) λ_ _=>Y
def al3(n:Nat):OC:=⟨139,⟨P98,K72,J,F139 n⟩,ct [] [(139,0,⟨[(3,.one (.own (.str))),(4,de)],[],[],0⟩)] n 10 139⟩
def Yd(b:dZ×U)(c:aaS)(d:aaS):L cB:=
 [cB.mk (aR (aR b.1.2 (ah c.2.1) kS).2 (ah d.2.1) gZ).1 (ak (aR (aR b.1.2 (ah c.2.1) kS).2 (ah d.2.1)
 gZ).2)]
def F140:Nat->dZ×U->O ((L cB×U)×U):=
 λn b=>ai (@iter (aaS) (L cB×U) (U) (Any) (λc=>aj (D.bO c.2.1 (ak b.1.2)) (ai (@iter (aaS) (L cB×U)
 (U) (Any) (λd=>aD (av c.2.1 b.1.2) (aj (D.bO d.2.1 (ak (aR b.1.2 (ah c.2.1) kS).2)) (aD (av c.2.1 b.1.2) (aD (av d.2.1
 (aR b.1.2 (ah c.2.1) kS).2) (aD (cX d.1 (Yd b c d)) (Z (LO.next (cM d.1 (Yd b c d),D.add .i64 d.2.1 1,())))))) (Z
 (LO.out 0 d)))) n (c.1,0,())) λd=>LO.el d (λ_ g=>Z (LO.next (g.1,D.add .i64 c.2.1 1,()))) (λ_ g=>Z (LO.ret () g)) λ_ _=>
 Y) (Z (LO.out 0 c))) n ([],0,())) λc=>LO.el c (λ_ e=>Z ((e.1,()),())) (λ_ e=>Z (e,())) λ_ _=>Y
def al0(n:Nat):OC:=⟨140,⟨P98,K100,J,F140 n⟩,ct [] [(140,0,⟨[(3,.one (.own (.st 2))),(4,de)],[],[],0⟩),(140,2,⟨[(3,.one (.own (.st 2))),(5,de)],[],[],0⟩)] n 10 140⟩
def F141:Nat->L cB×U->O (T4×U):=
 λn b=>ai (@iter (T7) (T4) (U) (Any) (λc=>aj (D.bO c.2.1 (ak b.1)) (aD (av c.2.1 b.1) (aD (cX c.1 [(aR b.1 (ah c.2.1)
 bx).1]) (Z (LO.next (cM c.1 [(aR b.1 (ah c.2.1) bx).1],D.add .i64 c.2.1 1,()))))) (Z (LO.out 0 c))) n ([],0,())) λc=>
 LO.el c (λ_ e=>Z ((e.1,()),())) (λ_ e=>Z (e,())) λ_ _=>Y
def alZ(n:Nat):OC:=⟨141,⟨aiO,K72,J,F141 n⟩,ct [] [(141,0,⟨[(3,.one (.own (.str))),(4,de)],[],[],0⟩)] n 10 141⟩
def F190:Nat->L cB×L UInt8×U->Gn:=
 λn b=>ai (@iter (Int×U) (Int×U) (U) (Any) (λc=>aj (D.bO c.1 (ak b.1)) (aD (av c.1 b.1) (aj (gn (aR b.1 (ah c.1)
 bx).1 b.2.1) (Z (LO.ret () c)) (Z (LO.next (D.add .i64 c.1 1,()))))) (Z (LO.out 0 c))) n (0,())) λc=>LO.el c (λ_ _=>Z
 (((-1),()),())) (λ_ e=>Z (e,())) λ_ _=>Y
def ZH(n:Nat):OC:=⟨190,⟨apr,K2,J,F190 n⟩,ct [] [(190,0,⟨[(5,de)],[],[],0⟩)] n 10 190⟩
abbrev Vg(F:Fn Ui K4 J):kC sg:=⟨Ui,K4,J,F⟩
def B191:Nat->(Y12->O fc)->Y12->O fc:=
 λn f191 c=>ai (aj (D.aG c.2.1.1 6) (ai (F190 n (c.1.2,c.2.1.3,())) λd=>aj (D.bO d.1.1 0) (Z (LO.ret () (J,()))) (aD (av
 d.1.1 c.1.2) (aj (D.aK (D.aG (aR c.1.2 (ah d.1.1) bx).2 (ak c.2.1.4))) (Z (LO.ret () (J,()))) (Z (LO.next (J,W,
 ())))))) (Z (LO.next (J,J,())))) λ(d:KP)=>LO.jn d (λ_=>ai (@iter (Int×U) (Bool×U) (U) (Any) (λg=>aj
 (D.bO g.1 (ak c.2.1.4)) (aD (av g.1 c.2.1.4) (ai (f191 (c.1,aR c.2.1.4 (ah g.1) aN,())) λh=>aj (D.aK h.1.1) (Z (LO.ret ()
 (J,()))) (Z (LO.next (D.add .i64 g.1 1,()))))) (Z (LO.out 0 g))) n (0,())) λg=>LO.el g (λ_ _=>Z ((W,()),())) (λ_ i=>
 Z (i,())) λ_ _=>Y) (λ_ _=>Y) (λ_ g=>Z (g,())) λ_ _=>Y
def D191(n:Nat)(f191:Fn Ui K4 J)(a:bz prog 191 (Vg f191)):bz prog 191 (Vg (B191 n f191)):=ct [ZH n,⟨191,Vg f191,a⟩] [(191,0,⟨[(6,de)],[],[],0⟩),(191,1000002,⟨[(4,cZ),(9,cZ)],[],[],0⟩)] n 10 191
def R191(n k:Nat):(Fn Ui K4 J):=Nat.rec (motive:=λ_=>(Fn Ui K4 J)) (λ_=>Y) (λ_ r=>B191 n r) k
def F191(n:Nat):Fn Ui K4 J:=(R191 n n)
def aci(n:Nat):∀k,bz prog 191 (Vg (R191 n k))
 |0=>bZ (enters 191 (by kernel_rfl))
 |k+1=>have a:=aci n k
  D191 n _ a
def alG(n:Nat):OC:=⟨191,Vg (F191 n),(aci n n)⟩
def F192:Nat->L (L UInt8)×L (L UInt8)×U->O (T4×U):=
 λn b=>aD (cX b.1 b.2.1) (Z ((cM b.1 b.2.1,()),()))
def ags(n:Nat):OC:=⟨192,⟨apq,K72,J,F192 n⟩,ct [] [] n 10 192⟩
def F193:Nat->Term×Int×U->O (T4×U):=
 λn b=>ai (aj (D.aG b.1.1 5) (Z (LO.next (W,()))) (Z (LO.next (D.aG b.1.1 27,())))) λ(c:LO (Bool×U) T4 U Any)=>LO.jn
 c (λd=>aj d.1 (Z (([b.1.3],()),())) (aj (D.aG b.1.1 7) (aj (D.aG b.2.1 1) (Z (([b.1.3],()),())) (Z (([],()),()))) (aj (D.aG
 b.1.1 15) (aj (D.bO 0 b.2.1) (aD (av (D.dH .i64 b.2.1 1) b.1.5) (ai (F255 n (aR b.1.5 (ah (D.dH .i64 b.2.1 1)) aN,())) λe=>
 Z e)) (Z (([],()),()))) (Z (([],()),()))))) (λ_ _=>Y) (λ_ e=>Z (e,())) λ_ _=>Y
def agr(n:Nat):OC:=⟨193,⟨apo,K72,J,F193 n⟩,ct [agk n] [(193,1000003,⟨[(7,cZ)],[],[],0⟩)] n 10 193⟩
abbrev Vp(F:Fn Uh K4 J):kC sg:=⟨Uh,K4,J,F⟩
def B143:Nat->(aip->O fc)->aip->O fc:=
 λn f143 c=>aj (D.aG c.2.1.1 4) (ai (F142 n (c.2.2.1,c.2.1.3,())) λd=>aj d.1.1 (Z ((W,()),())) (ai (F142 n (c.1.1,c.2.1.3,
 ())) λe=>Z e)) (ai (aj (D.aG c.2.1.1 14) (ai (F190 n (c.1.2,c.2.1.3,())) λd=>aj (D.bO d.1.1 0) (Z (LO.ret () (J,()))) (aD
 (av d.1.1 c.1.2) (aj (D.aK (D.aG (aR c.1.2 (ah d.1.1) bx).2 (ak c.2.1.4))) (Z (LO.ret () (J,()))) (Z (LO.next (J,W,
 ())))))) (Z (LO.next (J,J,())))) λ(d:KP)=>LO.jn d (λ_=>ai (@iter (Int×U) (Bool×U) (U) (Any) (λg=>aj
 (D.bO g.1 (ak c.2.1.5)) (aD (av g.1 c.2.1.5) (ai (F191 n (c.1,aR c.2.1.5 (ah g.1) aN,())) λh=>aj (D.aK h.1.1) (Z (LO.ret
 () (J,()))) (Z (LO.next (D.add .i64 g.1 1,()))))) (Z (LO.out 0 g))) n (0,())) λg=>LO.el g (λ_ _=>ai (@iter (Int×U) (Bool×
 U) (U) (Any) (λj=>aj (D.bO j.1 (ak c.2.1.4)) (aD (av j.1 c.2.1.4) (ai (F193 n (Term.mk c.2.1.1 c.2.1.2 c.2.1.3 c.2.1.4 c.2.1.5,j))
 λk=>ai (F192 n (c.2.2.1,k.1)) λl=>ai (f143 (c.1,aR c.2.1.4 (ah j.1) pX,l.1)) λm=>aj (D.aK m.1.1) (Z (LO.ret () (J,
 ()))) (Z (LO.next (D.add .i64 j.1 1,()))))) (Z (LO.out 0 j))) n (0,())) λj=>LO.el j (λ_ _=>Z ((W,()),())) (λ_ l=>Z
 (l,())) λ_ _=>Y) (λ_ i=>Z (i,())) λ_ _=>Y) (λ_ _=>Y) (λ_ g=>Z (g,())) λ_ _=>Y)
def D143(n:Nat)(f143:Fn Uh K4 J)(a:bz prog 143 (Vp f143)):bz prog 143 (Vp (B143 n f143)):=ct [ZI n,⟨143,Vp f143,a⟩,ZH n,alG n,ags n,agr n] [(143,0,⟨[(8,de)],[],[],0⟩),(143,2,⟨[(9,de)],[],[],0⟩),(143,1000004,⟨[(6,cZ),(28,cZ)],[],[],0⟩)] n 10 143
def R143(n k:Nat):(Fn Uh K4 J):=Nat.rec (motive:=λ_=>(Fn Uh K4 J)) (λ_=>Y) (λ_ r=>B143 n r) k
def F143(n:Nat):Fn Uh K4 J:=(R143 n n)
def acm(n:Nat):∀k,bz prog 143 (Vp (R143 n k))
 |0=>bZ (enters 143 (by kernel_rfl))
 |k+1=>have a:=acm n k
  D143 n _ a
def alY(n:Nat):OC:=⟨143,Vp (F143 n),(acm n n)⟩
def F144:Nat->aiv->Gn:=
 λn b=>ai (@iter (Int×U) (Int×U) (U) (Any) (λc=>aj (D.ep 0 c.1) (aD (av c.1 b.1) (aj (gn (aR b.1 (ah c.1) []) b.2.1)
 (Z (LO.ret () c)) (Z (LO.next (D.dH .i64 c.1 1,()))))) (Z (LO.out 0 c))) n (D.dH .i64 (ak b.1) 1,())) λc=>LO.el c (λ_ _=>
 Z (((-1),()),())) (λ_ e=>Z (e,())) λ_ _=>Y
def agz(n:Nat):OC:=⟨144,⟨P71,K2,J,F144 n⟩,ct [] [(144,0,⟨[(5,de)],[],[],0⟩)] n 10 144⟩
abbrev Vf(F:Fn Ug K86 J):kC sg:=⟨Ug,K86,J,F⟩
def Qo(g:Y24):zT:=
 (g.2.1.1,g.2.1.2.1,ja (S:=sg) 1 2 (Ty.int .i64) g.2.1.2.2.1 (xS (S:=sg) 1 2 (Ty.int .i64) g.2.1.2.2.1),())
def afa(h:Y25):zT:=
 (h.2.1.1,h.2.1.2.1,ja (S:=sg) 1 2 (Ty.int .i64) h.2.1.2.2.1 (xS (S:=sg) 1 2 (Ty.int .i64) h.2.1.2.2.1),())
def Yo(c:Y26):zT:=
 (c.1.1,c.1.2.1,ja (S:=sg) 1 2 (Ty.int .i64) c.1.2.2.1 (xS (S:=sg) 1 2 (Ty.int .i64) c.1.2.2.1),())
def ae9(h:zT×Y9×U):zT:=
 (h.1.1,h.1.2.1,ja (S:=sg) 1 2 (Ty.int .i64) h.1.2.2.1 (xS (S:=sg) 1 2 (Ty.int .i64) h.1.2.2.1),())
def B194:Nat->(Y26->O Y25)->Y26->O Y25:=
 λn f194 c=>ai (aj (D.aG c.2.1.1 6) (ai (F190 n (c.1.2.1,c.2.1.3,())) λd=>Z (LO.next (W,(c.2.1.1,d.1.1,[],[],()),()))) (Z
 (LO.next (J,(c.2.1.1,c.2.1.2,[],[],()),())))) λ(d:LO (Bool×Y9×U) U (Y9×U) Any)=>LO.jn d (λe=>ai (@iter (Y24)
 (U) (zT×Y9×U) (Any) (λg=>aj (D.bO g.1 (ak c.2.1.4)) (aD (av g.1 c.2.1.4) (ai (f194 (Qo g,aR c.2.1.4 (ah g.1) aN,
 ())) λh=>aD (cX g.2.2.1.2.2.2.1 [h.1.1]) (Z (LO.next (D.add .i64 g.1 1,afa h,(g.2.2.1.1,g.2.2.1.2.1,g.2.2.1.2.2.1,cM
 g.2.2.1.2.2.2.1 [h.1.1],()),()))))) (Z (LO.out 0 (g.1,Qo g,g.2.2)))) n (0,Yo c,e.2)) λg=>LO.el g (λ_ i=>Z ((aC.mk
 i.2.2.1.1 i.2.2.1.2.1 i.2.2.1.2.2.1 i.2.2.1.2.2.2.1,()),Qo i,())) (λh _=>Z ((aN,()),ae9 h,())) λ_ _=>Y) (λ_ _=>
 Y) (λ_ _=>Z ((aN,()),Yo c,())) λ_ _=>Y
def D194(n:Nat)(f194:Fn Ug K86 J)(a:bz prog 194 (Vf f194)):bz prog 194 (Vf (B194 n f194)):=ct [ZH n,⟨194,Vf f194,a⟩] [(194,0,⟨[(6,de),(0,TY),(0,aeh)],[.slot 0,.slot 5],[],0⟩),(194,1000003,⟨[(14,cZ),(0,aeh)],[.slot 5],[],0⟩)] n 10 194
def R194(n k:Nat):(Fn Ug K86 J):=Nat.rec (motive:=λ_=>(Fn Ug K86 J)) (λ_=>Y) (λ_ r=>B194 n r) k
def F194(n:Nat):Fn Ug K86 J:=(R194 n n)
def ach(n:Nat):∀k,bz prog 194 (Vf (R194 n k))
 |0=>bZ (enters 194 (by kernel_rfl))
 |k+1=>have a:=ach n k
  D194 n _ a
def alF(n:Nat):OC:=⟨194,Vf (F194 n),(ach n n)⟩
abbrev Vn(F:Fn Uf K2 J):kC sg:=⟨Uf,K2,J,F⟩
def Qr(g:Bool×Nz×U):Nz×U:=
 ((g.2.1.1,g.2.1.2.1,[],g.2.1.2.2.2),())
def Qq(i:aew):L (L Int):=
 xS (S:=sg) 1 2 (Ty.int .i64) i.2.1.2.2.1
def Yq(i:aew):zT:=
 (i.2.1.1,i.2.1.2.1,ja (S:=sg) 1 2 (Ty.int .i64) i.2.1.2.2.1 (Qq i),())
def afd(j:Y25):L (L Int):=
 xS (S:=sg) 1 2 (Ty.int .i64) j.2.1.2.2.1
def afc(j:Y25):zT:=
 (j.2.1.1,j.2.1.2.1,ja (S:=sg) 1 2 (Ty.int .i64) j.2.1.2.2.1 (afd j),())
def Yp(c:Ny):zT:=
 (c.1.1,c.1.2.1,ja (S:=sg) 1 2 (Ty.int .i64) c.1.2.2.1 (xS (S:=sg) 1 2 (Ty.int .i64) c.1.2.2.1),())
def afb(l:Int×zT×U):L (L Int):=
 xS (S:=sg) 1 2 (Ty.int .i64) l.2.1.2.2.1
def Qp(l:Int×zT×U):zT:=
 (l.2.1.1,l.2.1.2.1,ja (S:=sg) 1 2 (Ty.int .i64) l.2.1.2.2.1 (afb l),())
def vg(c:Ny):Nat:=
 ah (ak c.1.2.2.1)
def Dh(p:PG):L (L Int):=
 xS (S:=sg) 1 2 (Ty.int .i64) p.2.1.2.2.1
def aa4(m:zT×U):zT:=
 (m.1.1,m.1.2.1,ja (S:=sg) 1 2 (Ty.int .i64) m.1.2.2.1 (xS (S:=sg) 1 2 (Ty.int .i64) m.1.2.2.1),())
def aa3(n:Nat)(f145:Ny->O PG)(m:zT×U):aev:=
 λo=>Z (o,aa4 m,())
def aa2(j:zT×Nz×U):zT:=
 (j.1.1,j.1.2.1,ja (S:=sg) 1 2 (Ty.int .i64) j.1.2.2.1 (xS (S:=sg) 1 2 (Ty.int .i64) j.1.2.2.1),())
def aa1(n:Nat)(f145:Ny->O PG)(j:zT×Nz×U):aev:=
 λk=>Z (k,aa2 j,())
def Sb(n:Nat)(f145:Ny->O PG)(c:Ny):aev:=
 λi=>Z (i,Yp c,())
def B145:Nat->(Ny->O PG)->Ny->O PG:=
 λn f145 c=>ai (aj (D.aG c.2.1.1 4) (ai (F144 n (c.2.2.1,c.2.1.3,())) λd=>ai (aj (D.bO d.1.1 0) (ai (F144 n (c.1.1,c.2.1.3,()))
 λe=>Z (LO.next (W,(c.2.1.1,D.dH .i64 (-1) e.1.1,[],[],()),()))) (Z (LO.next (J,(c.2.1.1,d.1.1,[],[],()),())))) λ(e :
 aeu)=>LO.jn e (λg=>Z (LO.next (W,Qr g))) (λ_ _=>Y) (λg h=>Z (LO.ret ((g.1.1,g.1.2.1,[],g.1.2.2.2),()) h)) λ_
 _=>Y) (Z (LO.next (J,(c.2.1.1,c.2.1.2,[],[],()),())))) λ(d:aeu)=>LO.jn d (λe=>ai (aj (D.aG c.2.1.1 14) (ai (F190 n
 (c.1.2.1,c.2.1.3,())) λg=>Z (LO.next (W,(e.2.1.1,g.1.1,[],e.2.1.2.2.2),()))) (Z (LO.next (J,Qr e)))) λ(g:aeu)=>
 LO.jn g (λh=>ai (@iter (aew) (Int×U) (zT×Nz×U) (Any) (λi=>aj (D.bO i.1 (ak c.2.1.5)) (aD (av i.1 c.2.1.5) (ai (F194
 n (Yq i,aR c.2.1.5 (ah i.1) aN,())) λj=>aD (cX i.2.2.1.2.2.2.1 [j.1.1]) (Z (LO.next (D.add .i64 i.1 1,afc j,(i.2.2.1.1,
 i.2.2.1.2.1,[],cM i.2.2.1.2.2.2.1 [j.1.1],()),()))))) (Z (LO.out 0 (i.1,Yq i,(i.2.2.1.1,i.2.2.1.2.1,[],i.2.2.1.2.2.2),())))) n (0,
 Yp c,Qr h)) λi=>LO.el i (λ_ k=>aD (D.dz (Zu k.2.1.2.2.1 (Qq k)) (cX k.2.1.2.2.1 [bp.mk k.2.2.1.1 k.2.2.1.2.1 []
 k.2.2.1.2.2.2.1])) (ai (@iter (Int×zT×U) (Int×U) (zT×U) (Any) (λl=>aj (D.bO l.1 (ak c.2.1.4)) (aD (av l.1 c.2.1.4) (ai
 (F193 n (Term.mk c.2.1.1 c.2.1.2 c.2.1.3 c.2.1.4 c.2.1.5,l.1,())) λm=>ai (F192 n (c.2.2.1,m.1)) λo=>ai (f145 (Qp l,aR c.2.1.4
 (ah l.1) pX,o.1)) λp=>aD (av (ak c.1.2.2.1) p.2.1.2.2.1) (aD (cz (vg c) p.2.1.2.2.1) (aD (D.dz (cz (vg c) (Dh p))
 (cX (aR (Dh p) (vg c) []) [p.1.1])) (aD (av (ak c.1.2.2.1) p.2.1.2.2.1) (aD (Wj (vg c) p.2.1.2.2.1 (vg c) (vg c))
 (Z (LO.next (D.add .i64 l.1 1,(p.2.1.1,p.2.1.2.1,ja (S:=sg) 1 2 (Ty.int .i64) p.2.1.2.2.1 (dV (Dh p) (vg c) (cM (aR (Dh
 p) (vg c) []) [p.1.1])),()),()))))))))) (Z (LO.out 0 (l.1,Qp l,())))) n (0,(k.2.1.1,k.2.1.2.1,ja (S:=sg) 1 2 (Ty.int .i64) (cM
 k.2.1.2.2.1 [bp.mk k.2.2.1.1 k.2.2.1.2.1 [] k.2.2.1.2.2.2.1]) (cM (Qq k) [[]]),()),())) λl=>LO.el l (λ_ o=>Z ((ak
 c.1.2.2.1,()),Qp o,())) (λm=>aa3 n f145 m) λ_ _=>Y)) (λj=>aa1 n f145 j) λ_ _=>Y) (λ_ _=>Y) (λ_=>
 Sb n f145 c) λ_ _=>Y) (λ_ _=>Y) (λ_=>Sb n f145 c) λ_ _=>Y
def D145(n:Nat)(f145:Fn Uf K2 J)(a:bz prog 145 (Vn f145)):bz prog 145 (Vn (B145 n f145)):=ct [agz n,⟨145,Vn f145,a⟩,ZH n,ags n,agr n,alF n] [(145,0,⟨[(9,de),(0,TY),(0,aaJ)],[.slot 0,.slot 8],[],0⟩),(145,2,⟨[(10,de),(0,TY)],[.slot 0],[],0⟩),(145,1000004,⟨[(24,cZ),(0,aaJ)],[.slot 8],[],0⟩),(145,1000006,⟨[(32,cZ),(0,aaJ)],[.slot 8],[],0⟩),(145,1000008,⟨[(44,cZ),(0,aaJ)],[.slot 8],[],0⟩)] n 10 145
def R145(n k:Nat):(Fn Uf K2 J):=Nat.rec (motive:=λ_=>(Fn Uf K2 J)) (λ_=>Y) (λ_ r=>B145 n r) k
def F145(n:Nat):Fn Uf K2 J:=(R145 n n)
def ack(n:Nat):∀k,bz prog 145 (Vn (R145 n k))
 |0=>bZ (enters 145 (by kernel_rfl))
 |k+1=>have a:=ack n k
  D145 n _ a
def alX(n:Nat):OC:=⟨145,Vn (F145 n),(ack n n)⟩
end Mn
end
end
