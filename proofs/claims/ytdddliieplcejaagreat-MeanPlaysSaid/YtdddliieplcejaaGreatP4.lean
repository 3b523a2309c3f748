import Derived.Laws.StructEq
import Derived.Room.BridgeHanded
import Derived.DataElems
import Derived.WideKeyArgs
import Derived.SizedLaws
import Derived.RowKit3
import Derived.Test.YtdddliieplcejaaGreatProg
import Derived.KernelRfl
import Derived.Test.YtdddliieplcejaaGreatP3
set_option linter.all false
set_option maxRecDepth 100000
set_option maxHeartbeats 0
noncomputable section
open Option renaming some->Z,none->Y
open Bool renaming true->W,false->J
section
namespace TL
open Go
variable {S:Sg}
section
variable {i k:Nat}{o:Oper}{dst:Option Tmp}{v:Value}{g':Gh}{w':World}
def eU{listed:Array Bool}{j:Nat}(hi:i<listed.size):lQ (listed.setIfInBounds i W) j↔lQ listed j∨i=j:=by
 unfold lQ;by_cases h:i=j
 .subst h;simp[hi]
 .rw[getD_set_ne J h];simp[h]
section
variable {E:fY S}{ops:Array Oper}{lJ:bW S}{s0:bq S}{g0:Gh}{w0:World}{done:Nat}{fr:bW S}{s:bq S}{bl:Nat->Nat}{listed:Array Bool}{g:Gh}{a:Act}{w:World}
def sR(h:At ops i o):i<ops.size:=by have:=(tc.1 h).1;simpa using this
def E9(h:At ops i o):ops[i]?=Z o:=by unfold At at h;simpa using h
def rV:∀t:T,dD [] t=J:=by
 intro t
 induction t using T.rec (motive_2:=λl=>iL [] l=J)with|fn f a b d g=>simp[dD,d,g]|cR t v e=>simp[dD,e]|agg j e=>simp[dD,e]|gm j e=>simp[dD,e]|gd c v e=>simp[dD,e]|nil=>rfl|cons a l d i=>simp[iL,d,i]|_=>simp[dD]
def dead(ops:List Oper)(done:Nat)(listed:Array Bool):List Nat:=ops.zipIdx.filterMap λ(o,i)=>if listed.getD i J=done.testBit i then Y else o.dst
def DQ:k∈dead ops.toList done listed↔∃i o,At ops i o∧o.dst=Z k∧¬(lQ listed i↔done.testBit i=W):=by
 have e:∀i,(listed.getD i J=done.testBit i)↔(lQ listed i↔done.testBit i=W):=λi=>by unfold lQ;cases listed.getD i J<;>cases done.testBit i<;>simp
 unfold dead;rw[vJ];constructor
 .rintro ⟨⟨o,i⟩,g,h⟩
  dsimp only at h;split at h
  .cases h
  .rename_i b;exact⟨i,o,IV.1 g,h,λd=>b ((e i).2 d)⟩
 .rintro ⟨i,o,hi,j,b⟩
  refine⟨(o,i),IV.2 hi,?_⟩;dsimp only;rw[br λd=>b ((e i).1 d)];exact j
def rfr(b:List Nat)(fr:bW S):bW S:={fr with tm:=b.foldl (λt k=>t.del aJ k) fr.tm}
def qq.core(h:qq E ops lJ s0 g0 w0 done fr s bl listed g a w):Rf E ops lJ s0 g0 w0 done fr s listed g a w:=⟨h.n,h.nb,h.Te,h.df,h.tm,h.Wv,h.zJ⟩
def Rf.agH(d:wQ E ops lJ.n)(h:Rf E ops lJ s0 g0 w0 done fr s listed g a w):cF g (bz (rfr (dead ops.toList done listed) fr)) a w∧(rfr (dead ops.toList done listed) fr).n=fr.n∧
  ∀{i:Nat}{o:Oper},At ops i o->(∀j,Pre ops.toList i j->lQ listed j∧done.testBit j=W)->(∀j,antiP ops.toList j->Pre ops.toList j i->¬lQ listed j∧done.testBit j=J)->∀k,k∈tmpsOf o.op∨mP ops.toList o=Z k->fr.get k=(rfr (dead ops.toList done listed) fr).get k:=by
 have cL:∀k,(rfr (dead ops.toList done listed) fr).get k=if k∈dead ops.toList done listed then Y else fr.get k:=λk=>Tr.qT _ _ _ λb u=>by obtain⟨i,o,hi,e,_⟩:=DQ.1 u;exact(so d.ds hi e).1
 refine⟨⟨h.Te,h.df,λk t l=>?_⟩,rfl,λ{i o}y hp z k l=>?_⟩
 .rw[bQ,eC]at l;obtain⟨v,m,rfl⟩:=l;rw[cL]at m;split at m
  .cases m
  .rename_i r;exact h.tm k v m λi o hi e=>Qh λq=>r (DQ.2 ⟨i,o,hi,e,q⟩)
 .rw[cL,br];intro B;obtain⟨j,p,C,e,q⟩:=DQ.1 B;rcases(It d y l C e).2 with h1|⟨h1,h2⟩
  .exact q ⟨λ_=>(hp j h1).2,λ_=>(hp j h1).1⟩
  .obtain ⟨h3,h4⟩:=z j h2 h1;exact q ⟨λh=>absurd h h3,λh=>by rw[h4]at h;cases h⟩
def vE{a:Act}(h:dst≠Z k):(a.put dst v).tmps[k]?=a.tmps[k]?:=by cases dst with|none=>rfl|some d=>have:d≠k:=λe=>h (by rw[e]);simp[Act.put,UK this]
def Dy{a:Act}{d:Nat}(h:d<a.tmps.size):(a.put (Z d) v).tmps[d]?=Z v:=by simp[Act.put,h]
def qG{a:Act}:(a.put dst v).tmps.size=a.tmps.size∧(a.put dst v).defers=a.defers:=by cases dst<;>simp[Act.put]
def cM.Jy{s s':bq S}{g:Gh}{w:World}(h:cM [] s g w s' g' w'){l:List Df}{m:List Deferred}(e:jW g w l m):jW g' w' l m:=
 e.imp (λt v i=>h.tr t v i (rV t)) λo b j=>by have:=h.tr _ _ (.ptr o 0 b j) (rV _);cases this with|ptr _ _ _ d=>exact d
def qq.meet(L:wQ E ops lJ.n)(h:qq E ops lJ s0 g0 w0 done fr s bl listed g a w)(H:At ops i o)(I:done.testBit i=W)(hl:∀e∈vU o,lQ listed e)(B:fV fr o.dst=W)
  (r:cM [] s g w s g' w') (U:∀d,o.dst=Z d->∀t,fr.get d=Z t->aK g' w' (low t) v):qq E ops lJ s0 g0 w0 done fr s bl (listed.setIfInBounds i W) g' (a.put o.dst v) w':=by
 have hi:i<listed.size:=by rw[h.I7];exact sR H
 have y:∀{j:Nat}{p:Oper}{k:Nat},At ops j p->j≠i->p.dst=Z k->o.dst≠Z k:=λhp y q l=>((so L.ds H l).2.2 hp (Ne.symm y)).1 q;refine⟨by simpa using h.I7,h.n,h.nb,qG.1.trans h.Te,by rw[qG.2];exact r.Jy h.df,λk t O X=>?_,λj p hp b e R=>?_,h.Wv,λj p hp b=>?_,λj p hp b C=>?_,λj p hp b C=>?_,λj m b K h1 h2=>?_,h.zJ.trans r.toW,h.fk,h.fl,λj r b=>(eU hi).2 (.inl (h.an j r b))⟩
 .by_cases l:o.dst=Z k
  .have M:k<fr.n:=by rw[l]at B;exact fQ B
   exact⟨v,by rw[l];exact Dy (by rw[h.Te];exact M),U k l t O⟩
  .obtain ⟨u,hu,ht⟩:=h.tm k t O λj p hp q=>by have h1:=X j p hp q;rw[eU hi]at h1;refine Iff.trans ⟨.inl,λh=>h.elim id λe=>?_⟩ h1;subst e;have:o=p:=eK (H.symm.trans hp);subst this;exact absurd q l
   exact⟨u,by rw[vE l];exact hu,r.tr _ _ ht (rV _)⟩
 .rw[eU hi]at b ⊢;rcases b with b|rfl
  .exact .inl (h.So j p hp b e R)
  .have:o=p:=eK (H.symm.trans hp);subst this;exact .inl (hl e R)
 .rw[eU hi]at b;rcases b with b|rfl
  .exact h.ld j p hp b
  .exact .inl I
 .exact h.fo j p hp b λhl=>C ((eU hi).2 (.inl hl))
 .rw[eU hi]at b;have G:j≠i:=λe=>by subst e;rw[I]at C;cases C
  have b:lQ listed j:=b.elim id λe=>absurd e.symm G;obtain⟨h1,h2⟩:=h.ea j p hp b C;refine⟨λt ti d q1 q2 S=>?_,dy h2 r.ext.size⟩;obtain⟨z,r1,r2,r3⟩:=h1 t ti d q1 q2 S;exact⟨z,by rw[vE (y hp G S)];exact r1,r2.zJ r h.fl,r3⟩
 .rw[eU hi]at b K;have b:lQ listed j:=b.elim id λe=>by subst e;rw[I]at h1;cases h1
  have K:lQ listed m:=K.elim id λe=>by subst e;rw[I]at h2;cases h2
  exact h.eb j m b K h1 h2
def at_mem{ops:Array Oper}(h:At ops i o):o∈ops.toList:=gY (show ops.toList[i]?=Z o from by rw[Lg];exact E9 h)
def qq.aaD(hE:eM E)(b:wQ E ops lJ.n)(h:qq E ops lJ s0 g0 w0 done fr s bl listed g a w)(p:At ops i o)(I:done.testBit i=W)(L:¬lQ listed i)(hl:∀e∈vU o,lQ listed e)
  {K:Act->World->Prop} {Q:Exit->Act->World->Prop} (R:∀g' a' w',qq E ops lJ s0 g0 w0 done fr s bl (listed.setIfInBounds i W) g' a' w'->K a' w') {rr:Option Nat} (S:rr≠Y->∀o∈ops.toList,∀c,o.op≠.defer c):AJ rr E.T.E.P ops Q i K a w:=by
 have G:rr≠Y->∀c,o.op≠.defer c:=λhr=>S hr o (at_mem p);obtain⟨hna,z,hf⟩:=h.fo i o p I L;obtain⟨r,U,X⟩:=h.core.agH b;have Km:∀j,Pre ops.toList i j->lQ listed j∧done.testBit j=W:=λj hj=>⟨lX b.bk (λi o hi hl=>h.So i o hi hl) p hl j hj,h.Wv i o p I j hj⟩;have u:=X p Km λj ha hji=>by
  have M:¬lQ listed j:=λhlj=>by obtain⟨q,hq,_⟩:=ha;exact L (lX b.bk (λi o hi hl=>h.So i o hi hl) hq (h.So j q hq hlj) i hji)
  refine⟨M,?_⟩;cases HH:done.testBit j with|false=>rfl|true=>exact absurd (h.an j ha HH) M
 have O:g6 ops.toList fr o=g6 ops.toList (rfr (dead ops.toList done listed) fr) o:=nO λk B=>u k (.inr B);have H:∀k∈tmpsOf o.op,fr.get k=(rfr (dead ops.toList done listed) fr).get k:=λk B=>u k (.inl B);unfold AJ;simp only[E9 p];rcases hf with⟨f1,f3⟩|⟨f1,t,f2,f3⟩|⟨c,f1,f4,t,f2,f3⟩
 .rw[pF (fr':=rfr (dead ops.toList done listed) fr) λk B=>u k (.inr B)]at f1;rw[br (by rw[A7 r f1];exact Bool.noConfusion)];exact R _ _ _ (h.meet b p I hl z (cM.refl h.zJ.rel) λd l C m=>by rw[f3 d l C m];exact Ks)
 .rw[O]at f1;have hw:=nN r f1;simp only at hw;rw[bJ hw];refine .of_wp G (.inl ?_);rw[g7 E Y o s Z (iF H)]at f2;refine qi hE r h.zJ.rel (.inl rfl) f2 (λC g' v w' B y ht=>?_);cases B;exact R _ _ _ (h.meet b p I hl z y λd l C m=>(f3 d l C m).rel ht)
 .rw[O]at f1;have hw:=nN r f1;simp only at hw;rw[g7 E (Z c) o s Z (iF (pM (CP b.us p) H))]at f2;cases c with
  |true=>rw[bJ hw];refine .of_wp G (.inl ?_);rw[r9 W H]at f4;obtain⟨hff,hfn'⟩:=ue r (by rw[U];exact h.nb) f4;refine qi hE hff h.zJ.rel (.inr rfl) f2 (λC g' v w' B y ht=>?_);cases B;exact R _ _ _ (h.meet b p I hl z y λd l C m=>by rw[f3 d l C m];simp only[low];exact .gd _ _ _ λ_=>ht)
  |false=>rw[br (by rw[hw];exact Bool.noConfusion)];exact R _ _ _ (h.meet b p I hl z (cM.refl h.zJ.rel) λd l C m=>by rw[f3 d l C m];simp only[low];exact .gd _ _ _ λh=>by cases h)
def qq.aaE(hE:eM E)(S:wQ E ops lJ.n)(h:qq E ops lJ s0 g0 w0 done fr s bl listed g a w)(y:At ops i o)(hd:done.testBit i=J)(U:eJ o=W)(hnl:¬lQ listed i)(hl:∀e∈vU o,lQ listed e)
  {K:Act->World->Prop} {Q:Exit->Act->World->Prop} (hK:∀MR a' w',qq E ops lJ s0 g0 w0 done fr s MR (listed.setIfInBounds i W) g a' w'->K a' w') {rr:Option Nat} (hrr:rr≠Y->∀o∈ops.toList,∀c,o.op≠.defer c):AJ rr E.T.E.P ops Q i K a w:=by
 have X:rr≠Y->∀c,o.op≠.defer c:=λhr=>hrr hr o (at_mem y);obtain⟨hg,⟨t,ti,hop,Ol⟩,hdn⟩:=WM S.al y U;obtain⟨xi,dd,z,LS,_,_,_,hz,xl,_⟩:=(hE.TG.ti _ _ Ol).all;unfold AJ;simp only[E9 y];rw[bJ (by simp[Region.wanted,hg])];refine .of_wp X (.inl ?_);unfold Oper.wp;have hrun:(execOp a.eval o).run E.T.E.P w=.ok (.value (.pointer (Z ⟨w.heap.size,0,Y⟩))) (w.alloc (.cells z.cells t)):=by simp[execOp,hop,Instr.alloc,ei LS hz,newVar,newRow]
 rw[hrun];simp only[Oper.upon];have hi:i<listed.size:=by rw[h.I7];exact sR y
 have M:=h.zJ.rel;have hsz:(w.alloc (.cells z.cells t)).heap.size=w.heap.size+1:=by simp
 obtain⟨hs',O⟩:=M.grow (fl:=s.fl) (I:=g.bA) (w':=w.alloc (.cells z.cells t)) (λ_ h=>h) (λ_ h=>.inl h) (λb hb=>by have:=M.bA b hb;omega) (by omega) (λb hb=>n9 w _ b hb) rfl rfl;have L:∀{j:Nat}{p:Oper}{k:Nat},At ops j p->j≠i->p.dst=Z k->o.dst≠Z k:=λhp L B C=>((so S.ds y C).2.2 hp (Ne.symm L)).1 B;refine hK (λj=>if j=i then w.heap.size else bl j) _ _ ⟨by simpa using h.I7,h.n,h.nb,qG.1.trans h.Te,by rw[qG.2];exact h.df.imp (λt v ht=>ht.ext O M.bA) (λ_ _ h=>h),λk t' hk hc=>?_,λj p hp l e O=>?_,h.Wv,λj p hp l=>?_,λj p hp l hn=>?_,λj p hp l hn=>?_,λj m l hm h1 h2 Zp G hms=>?_,?_,h.fk,h.fl,λj ha l=>(eU hi).2 (.inl (h.an j ha l))⟩
 .have C:o.dst≠Z k:=λe=>by have:=(hc i o y e).1 ((eU hi).2 (.inr rfl));rw[hd]at this;cases this
  obtain⟨u,hu,ht⟩:=h.tm k t' hk λj p hp B=>by have h1:=hc j p hp B;rw[eU hi]at h1;refine Iff.trans ⟨.inl,λh=>h.elim id λe=>?_⟩ h1;subst e;have:o=p:=eK (y.symm.trans hp);subst this;exact absurd B C
  exact⟨u,by rw[vE C];exact hu,ht.ext O M.bA⟩
 .rw[eU hi]at l ⊢;rcases l with l|rfl
  .exact .inl (h.So j p hp l e O)
  .have:o=p:=eK (y.symm.trans hp);subst this;exact .inl (hl e O)
 .rw[eU hi]at l;rcases l with l|rfl
  .exact h.ld j p hp l
  .have:o=p:=eK (y.symm.trans hp);subst this;exact .inr U
 .exact h.fo j p hp l λhl=>hn ((eU hi).2 (.inl hl))
 .by_cases H:j=i
  .subst H;have:o=p:=eK (y.symm.trans hp);subst this;simp only[fR];refine⟨λt' ti' d q1 q2 q3=>?_,by omega⟩;rw[hop]at q1;cases q1;rw[Ol]at q2;cases q2;have Zt:d<a.tmps.size:=by rw[h.Te,h.n];exact hdn d q3
   refine⟨z.cells,by rw[q3];exact Dy Zt,⟨h.zJ.ext.size,by omega,λSC=>?_,λk hO=>?_,t,vC w _⟩,xl⟩
   .have:=M.bA _ SC;omega
   .have:=(M.qJ hO).1;omega
  .rw[eU hi]at l;have l:lQ listed j:=l.elim id λe=>absurd e.symm H;obtain⟨h1,h2⟩:=h.ea j p hp l hn;simp only[br H];refine⟨λt ti d q1 q2 q3=>?_,by omega⟩;obtain⟨z',r1,R,r3⟩:=h1 t ti d q1 q2 q3;obtain⟨ty,r4⟩:=R.mem;exact⟨z',by rw[vE (L hp H q3)];exact r1,⟨R.new,by have:=R.lt;omega,R.bA,R.own,ty,by rw[n9 w _ _ R.lt];exact r4⟩,r3⟩
 .have hlt:∀j,lQ listed j->done.testBit j=J->j<ops.size->bl j<w.heap.size:=λj l HH G=>by
   have CB:At ops j ops[j]:=by simp[At,G]
   exact(h.ea j _ CB l HH).2
  rw[eU hi]at l hm;by_cases q:j=i<;>by_cases r:m=i
  .omega
  .rw[bJ q,br r];have:=hlt m (hm.elim id λe=>absurd e.symm r) h2 hms;omega
  .rw[br q,bJ r];have:=hlt j (l.elim id λe=>absurd e.symm q) h1 G;omega
  .rw[br q,br r];exact h.eb j m (l.elim id λe=>absurd e.symm q) (hm.elim id λe=>absurd e.symm r) h1 h2 Zp G hms
 .have hx:pz s.lo s.fl g w g (w.alloc (.cells z.cells t)):=Ext.GH s.lo O;exact⟨hs',h.zJ.ext.trans (h.zJ.fl▸h.zJ.lo▸hx),h.zJ.fl,h.zJ.lo,h.zJ.aH,h.zJ.uW,h.zJ.same,h.zJ.Gq⟩
end
end
section
section
variable {E:fY S}{ops:Array Oper}{lJ:bW S}{s0:bq S}{g0:Gh}{w0:World}{done:Nat}{fr:bW S}{s:bq S}{bl:Nat->Nat}{listed:Array Bool}{g:Gh}{a:Act}{w:World}
def Sc(l:List Oper):((qc l).map (·.1)).Nodup:=by
 have:(qc l).map (·.1)=List.range l.length:=by unfold qc;rw[List.map_map];have:((λx:Nat×Oper=>x.1)∘λp:Oper×Nat=>(p.2,p.1))=Prod.snd:=rfl;rw[this,List.zipIdx_map_snd];simp[List.range_eq_range']
 rw[this];exact List.nodup_range
def qq.sW(U:wQ E ops lJ.n)(h:qq E ops lJ s0 g0 w0 done fr s bl listed g a w){l:Nat}{I:bW S}{X:bq S}(had:sW E.T l (qc ops.toList) fr s=Z (I,X))
  (hwh:∀j,l.testBit j=W->lQ listed j∧(wk (qc ops.toList) done).testBit j=W) (hcl:∀j,l.testBit j=W->∀m,Pre ops.toList j m->done.testBit m=W∨l.testBit m=W) :
  ∃M,Adp E.T l (qc ops.toList) fr s g w a I X M∧Rf E ops lJ s0 g0 w0 (done||| l) I X listed M a w:=by
 have y:∀{j:Nat}{o:Oper},At ops j o->l.testBit j=W->lQ listed j∧eJ o=W∧done.testBit j=J:=λ{j o}C G=>by obtain⟨h1,h2⟩:=hwh j G;obtain⟨o',ho',h3,h4⟩:=(tN done j).1 h2;have:o=o':=eK (C.symm.trans ho');subst this;exact⟨h1,h3,h4⟩
 have r:∀{p:Nat×Oper},p∈qc ops.toList->At ops p.1 p.2:=λ{p}hp=>iM.1 hp;obtain⟨M,u⟩:=M3 (w0:=w0) (bl:=bl) had h.nb h.zJ.rel (λp hp hw=>by
   obtain⟨h1,_,h3⟩:=y (r hp) hw;exact(h.ea p.1 p.2 (r hp) h1 h3).1) (Sc _) (λp hp q O lO hqw K=>by
   obtain⟨h1,_,h3⟩:=y (r hp) lO;obtain⟨h4,_,h6⟩:=y (r O) hqw;exact h.eb p.1 q.1 h1 h4 h3 h6 K (sR (r hp)) (sR (r O))) (λp hp q O K d H=>((so U.ds (r hp) H).2.2 (r O) K).1)
 refine⟨M,u,⟨u.n.trans h.n,by rw[u.n];exact h.nb,by rw[u.n];exact h.Te,by rw[DV,u.Jy];exact h.df.imp (λ_ _ ht=>ht.le u.le) u.le.cg,λk t hk hc=>?_,λj p hp G m hm=>?_,?_⟩⟩
 .by_cases L:∃p∈qc ops.toList,l.testBit p.1=W∧p.2.dst=Z k
  .exact u.new k L t hk
  .rw[u.old k λp hp hw H=>L ⟨p,hp,hw,H⟩]at hk;obtain⟨v,hv,ht⟩:=h.tm k t hk λi o hi H=>by have h1:=hc i o hi H;rw[yo,jQ]at h1;exact h1.trans ⟨λh=>h.elim id λhw=>absurd ⟨(i,o),iM.2 hi,hw,H⟩ L,.inl⟩
   exact⟨v,hv,ht.le u.le⟩
 .rw[yo,jQ]at G ⊢;rcases G with G|G
  .exact .inl (h.Wv j p hp G m hm)
  .exact hcl j G m hm
 .have B:=h.zJ;refine⟨u.rel,⟨λo b e=>u.le.cg o b (B.ext.cg o b e),λo e x hl k=>u.le.arr o e x (B.ext.arr o e x hl k),λb R=>u.le.bA b (B.ext.bA b R),B.ext.size,B.ext.heap,λo b hl hO=>?_,λb R=>B.ext.tZ b (by rw[u.bA]at R;exact R),B.ext.os,B.ext.output⟩,u.fl.trans B.fl,u.lo.trans B.lo,fC B.aH u.aH,λo C=>by rw[u.wr];exact B.uW o C,λo C hn=>?_,λo C=>by rw[u.dr];exact B.Gq o C⟩
  .rcases u.own o b hO with hO|⟨p,hp,hw,d,H,htm⟩
   .exact B.ext.own o b hl hO
   .obtain ⟨h1,_,h3⟩:=y (r hp) hw;obtain⟨t,ti,d',e1,e2,e3,_⟩:=u.ZT p hp hw;obtain⟨z,r1,r2,_⟩:=(h.ea p.1 p.2 (r hp) h1 h3).1 t ti d' e1 e2 e3;have:d=d':=eK (H.symm.trans e3);subst this;rw[htm]at r1;cases r1;exact .inr r2.new
  .rw[u.ob o (dy C B.aH)];exact B.same o C (by rw[u.wr]at hn;exact hn)
variable {ow:List Nat}{k:Nat}{v:V S}
def ug(h:(dU ow fr).get k=Z v):fr.get k=Z v∧dD ow (low v)=J:=by cases ow with|nil=>exact⟨h,rV _⟩|cons o ow=>simp only[dU,bW.get,Tr.oM]at h;rw[Qi]at h;refine⟨h.1,?_⟩;have:=h.2;rw[jI];simpa using this
def yX(h:fr.get k=Z v)(b:gS ow v=J):(dU ow fr).get k=Z v:=by cases ow with|nil=>exact h|cons o ow=>simp only[dU,bW.get,Tr.oM];rw[Qi];exact⟨h,by simp[b]⟩
def Mi{call:iC S}{l:List Oper}{o:Oper}{ω:Type}{kp:V S->bq S->Option ω}{k:V S->bq S->List Nat->Option ω}{r:ω}(h:mC E call l o fr s kp k=Z r):fV fr o.dst=W:=by
 unfold mC at h;rcases af h with⟨b,_⟩|⟨_,h⟩
 .exact b
 .cases h
def T3{done i:Nat}{aH:Nat}{wr:List Nat}:∀{l:TA},CW ops.toList (uA ops.toList) done i fr aH wr ow l=W->∀{j:Nat}{p:Oper},(j,p)∈l->done.testBit j=W->eJ p=J->¬Pre ops.toList i j->
  (je (eE wr aH) fr p.op=J∧je (eE wr aH) (mQ fr p.op) p.op=J)∨(Lq p.op=W∧je (λx=>ow.contains x) fr p.op=J∧je (λx=>ow.contains x) (mQ fr p.op) p.op=J):=by
 intro l
 induction l with
 |nil=>intro _ j p hm;cases hm
 |cons q l g=>
  intro h j p hm e b d;obtain⟨m,r⟩:=q;simp only[CW,dR]at h;rcases eR.1 hm with k|hm
  .cases k;have h1:=h.1;simp only[e,b,BR,GV]at h1;rw[jQ]at h1;rcases h1 with h1|h1
   .exact absurd h1 d
   .simpa using h1
  .exact g h.2 hm e b d
end
end
section
section
variable {E:fY S}{ops:Array Oper}{lJ:bW S}{s0:bq S}{g0:Gh}{w0:World}{done:Nat}{fr:bW S}{s:bq S}{bl:Nat->Nat}{listed:Array Bool}{g:Gh}{a:Act}{w:World}
variable {o:Oper}{k:Nat}{v:V S}
def Bp{p:Nat->Bool}{o:Op}(h:je p fr o=J)(d:k∈tmpsOf o)(g:fr.get k=Z v):cD p v=J:=by obtain⟨x,i,b⟩:=vJ.1 d;cases x with|tmp j=>simp only[bg]at b;subst b;unfold je at h;have:=Lc.1 h _ i;have e:ck fr (.tmp j)=Z v:=g;rw[e]at this;simpa using this|_=>cases b
def Sf{ow wr:List Nat}{aH:Nat}(b:∀o∈ow,o∈wr)(h:cD (eE wr aH) v=J):gS ow v=J:=by
 cases d:gS ow v with
 |false=>rfl
 |true=>
  rw[nK]at d;have:=er (q:=eE wr aH) (λo e=>by
   have:o∈ow:=by simpa using e
   simp[eE,b o this]) v d
  rw[h]at this;cases this
def KD{ops:List Oper}{fr:bW S}(h:sL ops fr o=W)(d:mP ops o=Z k)(i:fr.get k=Z v):(∃b,v=.kb b)∨∃l,v=.dat (.lit (.tuple l)):=by
 unfold sL at h;unfold mP at d;cases e:o.guard with
 |none=>rw[e]at d;cases d
 |some q=>
  obtain⟨j,g⟩:=q;simp only[e]at h d;rw[d,IS,i]at h;split at h
  .rename_i b m;cases m;exact .inl ⟨b,rfl⟩
  .rename_i l p;cases p;exact .inr ⟨l,rfl⟩
  .cases h
def qq.step(hE:eM E){call:iC S}(Bt:fT E.T.E.P call)(I:wQ E ops lJ.n)(h:qq E ops lJ s0 g0 w0 done fr s bl listed g a w){i:Nat}(O:At ops i o)(hd:done.testBit i=J)(hnl:¬lQ listed i)(hl:∀e∈vU o,lQ listed e)
  (hsub:∀j,Pre ops.toList i j->done.testBit j=W∨(wk (qc ops.toList) done).testBit j=W) {B:bW S} {s1:bq S} (had:TL.sW E.T (wk (qc ops.toList) done&&& (uA ops.toList).getD i 0) (qc ops.toList) fr s=Z (B,s1))
  {ω:Type} {kp:bW S->V S->bq S->Option ω} {k:Nat->bW S->bq S->Option ω} {r:ω}
  (hev:mC E call ops.toList o B {s1 with wr:=[]} (λt s'=>kp (adj ops.toList B) t {s' with wr:=s'.wr++s1.wr}) (λt s' ow=>bif CW ops.toList (uA ops.toList) done i fr s.aH s'.wr ow (qc ops.toList)then
   k (done||| (wk (qc ops.toList) done&&& (uA ops.toList).getD i 0)||| 1 <<< i) ((dU ow B).hY o.dst t) {s' with wr:=s'.wr++s1.wr}else Y)=Z r)
  {K:Act->World->Prop} {Q:Exit->Act->World->Prop}
  (hK:∀done' fr' s' g' a' w',k done' fr' s'=Z r->qq E ops lJ s0 g0 w0 done' fr' s' bl (listed.setIfInBounds i W) g' a' w'->K a' w')
  (hP:∀fr' t s' g' a' v w',kp fr' t s'=Z r->fr'.n=lJ.n->cF g' (bz fr') a' w'->fj s0 g0 w0 s' g' w'->eG (ops.toList.filterMap (·.dst)) lJ fr' s'.dr s0.aH->aK g' w' (low t) v->Q (.panic [{v,recovered:=J}]) a' w') {rr:Option Nat} (hrr:rr≠Y->∀o∈ops.toList,∀c,o.op≠.defer c):AJ rr E.T.E.P ops Q i K a w:=by
 have alF:rr≠Y->∀c,o.op≠.defer c:=λhr=>hrr hr o (at_mem O);have hi:i<listed.size:=by rw[h.I7];exact sR O
 have Km:∀j,Pre ops.toList i j->lQ listed j:=lX I.bk (λi o hi hl=>h.So i o hi hl) O hl;generalize hwe:wk (qc ops.toList) done&&& (uA ops.toList).getD i 0=which at had hev;have hwb:∀j,which.testBit j=W↔(wk (qc ops.toList) done).testBit j=W∧Pre ops.toList i j:=λj=>by rw[<-hwe,Nat.testBit_and,dR];rfl
 obtain⟨g1,hA,hC⟩:=h.sW I had (λj hj=>⟨Km j ((hwb j).1 hj).2,((hwb j).1 hj).1⟩) (λj hj m hm=>by
  have hpm:=RO I.bk O ((hwb j).1 hj).2 hm;exact(hsub m hpm).imp id λhp=>(hwb m).2 ⟨hp,hpm⟩)
 have hpd:∀j,Pre ops.toList i j->(done||| which).testBit j=W:=λj hj=>by rw[yo,jQ];exact(hsub j hj).imp id λhp=>(hwb j).2 ⟨hp,hj⟩
 have hwd:∀{j:Nat}{q:Oper},At ops j q->which.testBit j=W->lQ listed j∧eJ q=W∧done.testBit j=J:=λ{j q}H hj=>by obtain⟨o',ho',h3,h4⟩:=(tN done j).1 ((hwb j).1 hj).1;have:q=o':=eK (H.symm.trans ho');subst this;exact⟨Km j ((hwb j).1 hj).2,h3,h4⟩
 have hwi:which.testBit i=J:=by cases hh:which.testBit i with|false=>rfl|true=>exact absurd (NT I.bk O i ((hwb i).1 hh).2) (Nat.lt_irrefl _)
 have X:fV B o.dst=W:=Mi hev;have hdst:fV (dU (S:=S) [] B) o.dst=W:=X;obtain⟨hfr,hfn,Zw⟩:=hC.agH I;have ac3:=Zw O (λj hj=>⟨Km j hj,hpd j hj⟩) λj ha L=>by
  obtain⟨q,H,_⟩:=ha;have hnj:¬lQ listed j:=λhlj=>hnl (lX I.bk (λi o hi hl=>h.So i o hi hl) H (h.So j q H hlj) i L);refine⟨hnj,?_⟩;cases HH:(done||| which).testBit j with
  |false=>rfl
  |true=>
   rw[yo,jQ]at HH;rcases HH with HH|HH
   .have:=h.Wv j q H HH i L;rw[hd]at this;cases this
   .exact absurd (hwd H HH).1 hnj
 rw[Gl E call _ _ _ hfn.symm (CP I.us O) (λk C=>ac3 k (.inl C)) (λk C=>ac3 k (.inr C))]at hev;have Kl:bh g1 (aG {s1 with wr:=[]}) w:=hC.zJ.rel;unfold AJ;simp only[E9 O];refine(qh hE Bt (by rw[hfn];exact hC.nb) hfr Kl hev (λt s' ow g' v w' C ht y=>?_) (λt s' g' v w' C y ht=>?_) alF).2
 .rcases af C with⟨afZ,C⟩|⟨_,C⟩;rotate_left
  .cases C
  refine hK _ _ _ g' _ w' C ?_;have agq:s1.fl=0:=hA.fl.trans h.fl;have hnf:∀ow':List Nat,(dU ow' B).n=B.n:=λow'=>vw ow' B;have alT:fV (dU ow B) o.dst=W:=yE X;have cL:∀k,((dU ow B).hY o.dst t).get k=if o.dst=Z k then Z t else(dU ow B).get k:=λk=>HJ alT (by rw[hnf];exact hC.nb)
  have hnn:((dU ow B).hY o.dst t).n=B.n:=by
   have:((dU ow B).hY o.dst t).n=(dU ow B).n:=by cases o.dst<;>rfl
   rw[this,hnf]
  have agC:fj s1 g1 w {s' with wr:=s'.wr++s1.wr} g' w':=
   ⟨y.rel,y.ext,y.fl,y.lo,y.aH,λo O=>iS _ O,λo O hn=>y.same o O (λhm=>hn (eH _ hm)),y.Gq⟩
  have hne:∀{j:Nat}{p:Oper}{k:Nat},At ops j p->j≠i->p.dst=Z k->o.dst≠Z k:=λhp hne hpd R=>((so I.ds O R).2.2 hp (Ne.symm hne)).1 hpd;have U:∀j,(done||| which||| 1 <<< i).testBit j=W↔(done.testBit j=W∨which.testBit j=W)∨i=j:=λj=>by rw[nP,yo,jQ]
  refine⟨by simpa using h.I7,hnn.trans hC.n,by rw[hnn];exact hC.nb,by rw[qG.1,hnn];exact hC.Te,?_,λk t' M hc=>?_,λj p hp hj e he=>?_,λj p hp hj m hm=>?_,λj p hp hj=>?_,λj p hp hj hn=>?_,λj p hp hj hn=>?_,λj m hj hm h1 h2 Zp LX hms=>?_,hC.zJ.trans agC,?_,y.fl.trans agq,λj ha hj=>?_⟩
  .rw[qG.2,DV,Cq];cases ow with|nil=>exact y.Jy hC.df|cons x ow=>exact(nR (λv=>jI _ v) B.df).rel y.tr hC.df
  .rw[cL]at M;by_cases R:o.dst=Z k
   .rw[bJ R]at M;cases M;have hk2:k<B.n:=by rw[R]at X;exact fQ X
    exact⟨v,by rw[R];exact Dy (by rw[hC.Te];exact hk2),ht⟩
   .rw[br R]at M;obtain⟨h1,h2⟩:=ug M;obtain⟨u,hu,htu⟩:=hC.tm k t' h1 λj p hp hpd=>by
     have c1:=hc j p hp hpd;have L:j≠i:=λe=>by subst e;have:o=p:=eK (O.symm.trans hp);subst this;exact R hpd
     rw[eU hi,U]at c1;rw[yo,jQ];exact⟨λh=>(c1.1 (.inl h)).elim id λe=>absurd e.symm L,λh=>(c1.2 (.inl h)).elim id λe=>absurd e.symm L⟩
    exact⟨u,by rw[vE R];exact hu,y.tr _ _ htu h2⟩
  .rw[eU hi]at hj ⊢;rcases hj with hj|rfl
   .exact .inl (h.So j p hp hj e he)
   .have:o=p:=eK (O.symm.trans hp);subst this;exact .inl (hl e he)
  .rw[U]at hj ⊢;rcases hj with hj|rfl
   .left
    have:=hC.Wv j p hp (by rw[yo,jQ];exact hj) m hm;rwa [yo,jQ]at this
   .left
    have:=hpd m hm;rwa [yo,jQ]at this
  .rw[eU hi]at hj;rw[U];rcases hj with hj|rfl
   .exact (h.ld j p hp hj).imp (λh=>.inl (.inl h)) id
   .exact .inl (.inr rfl)
  ·
   have L:j≠i:=λe=>hn ((eU hi).2 (.inr e.symm));have hnl:¬lQ listed j:=λhl=>hn ((eU hi).2 (.inl hl));have HH:done.testBit j=W:=by
    rcases(U j).1 hj with(hj|hj)|hj
    .exact hj
    .exact absurd (hwd hp hj).1 hnl
    .exact absurd hj.symm L
   obtain⟨hna,hfo⟩:=h.fo j p hp HH hnl;have hnp:¬Pre ops.toList i j:=λhpr=>hnl (Km j hpr);have hmm:=T3 afZ (iM.2 hp) HH hna hnp;have hpi:∀{m:Nat}{q:Oper}{k:Nat},At ops m q->(m=i∨which.testBit m=W)->(k∈tmpsOf p.op∨mP ops.toList p=Z k)->q.dst≠Z k:=by
    intro m q k H hm C VG;have hpre:Pre ops.toList j m:=by
     rcases(It I hp C H VG).2 with h1|⟨h1,_⟩
     .exact h1
     .exfalso;rcases hm with rfl|hm
      .exact hnp h1
      .exact hnl (lX I.bk (λi o hi hl=>h.So i o hi hl) H (h.So m q H (hwd H hm).1) j h1)
    have:=h.Wv j p hp HH m hpre;rcases hm with rfl|hm
    .rw[hd]at this;cases this
    .rw[(hwd H hm).2.2]at this;cases this
   have hold:∀k,(k∈tmpsOf p.op∨mP ops.toList p=Z k)->B.get k=fr.get k:=λk C=>hA.old k λq H hw=>hpi (iM.1 H) (.inr hw) C;have hput:∀k,(k∈tmpsOf p.op∨mP ops.toList p=Z k)->((dU ow B).hY o.dst t).get k=(dU ow B).get k:=λk C=>by rw[cL,br (hpi O (.inl rfl) C)]
   have afY:∀o∈ow,o∈s'.wr:=y.oww;have hkeep:∀k,fr.get k=B.get k->(∀v,fr.get k=Z v->gS ow v=J)->(dU ow B).get k=fr.get k:=λk he hm=>by
    cases hfk:fr.get k with
    |some v=>exact yX (he▸hfk) (hm v hfk)
    |none=>
     cases amu:(dU ow B).get k with|none=>rfl|some v=>have:=(ug amu).1;rw[<-he,hfk]at this;cases this
   have hno:∀k v,k∈tmpsOf p.op->fr.get k=Z v->gS ow v=J:=λk v C hv=>by
    rcases hmm with⟨hm1,_⟩|⟨_,hm1,_⟩
    .exact Sf afY (Bp hm1 C hv)
    .rw[nK];exact Bp hm1 C hv
   have hsame:∀x,eE s'.wr s.aH x=J->({s' with wr:=s'.wr++s1.wr}:bq S).ob.get x=s.ob.get x:=λx hx=>by
    simp only[eE,vL]at hx;have hx1:x∉s'.wr:=by simpa using hx.1
    have hx2:x<s.aH:=by
     rcases yx x s.aH with h|h
     .exact h
     .have:=Ga h;rw[hx.2]at this;cases this
    have:=y.same x (dy hx2 hA.aH) hx1;exact this.trans (hA.ob x hx2)
   refine⟨hna,hfo.move (hnn.trans hA.n) (CP I.us hp) (λk C=>?_) (λk C=>?_) (λd af5 t' ht'=>?_) (p:=eE s'.wr s.aH) (.inr (hmm.imp (λh=>⟨h.1,h.2,hsame⟩) (λh=>h.1)))⟩
   .rw[hput k (.inl C)];exact hkeep k (hold k (.inl C)).symm λv hv=>hno k v C hv
   .rw[hput k (.inr C)];refine hkeep k (hold k (.inr C)).symm λv hv=>?_;rcases hfo.2 with⟨f1,_⟩|VF
    .rcases KD f1 C hv with⟨b,rfl⟩|⟨l,rfl⟩<;>rfl
    have hgv:∃b,iy v=Z b:=by
     have G:∃c,g6 ops.toList fr p=Z (Z c)∨g6 ops.toList fr p=Z Y:=by
      rcases VF with⟨f1,_⟩|⟨c,f1,_⟩
      .exact ⟨W,.inr f1⟩
      .exact ⟨c,.inl f1⟩
     obtain⟨c,G⟩:=G;unfold mP at C;unfold g6 at G;cases hpg:p.guard with
     |none=>rw[hpg]at C;cases C
     |some q=>
      obtain⟨m,want⟩:=q;simp only[hpg]at C G;rw[C,IS,hv]at G;cases hb:iy v with
      |some b=>exact⟨b,rfl⟩
      |none=>
       exfalso;cases v<;>first|(cases hb;done)|(simp only[hb]at G;rcases G with h|h<;>cases h)
    obtain⟨b,hb⟩:=hgv;cases v<;>first|rfl|simp[iy]at hb
   .rw[cL,br (hne hp L af5)]at ht';have h1:=(ug ht').1;rw[hA.old d λq H hw VG=>?_]at h1
    .exact h1
    .have XW:At ops q.1 q.2:=iM.1 H;have hjq:j≠q.1:=λe=>by have:=(hwd XW hw).2.2;rw[<-e,HH]at this;cases this
     exact((so I.ds hp af5).2.2 XW hjq).1 VG
  .have L:j≠i:=λe=>by have:=(U j).2 (.inr e.symm);rw[hn]at this;cases this
   have HH:done.testBit j=J:=by cases hh:done.testBit j with|false=>rfl|true=>have:=(U j).2 (.inl (.inl hh));rw[hn]at this;cases this
   have hwj:which.testBit j=J:=by cases hh:which.testBit j with|false=>rfl|true=>have:=(U j).2 (.inl (.inr hh));rw[hn]at this;cases this
   rw[eU hi]at hj;have hlj:lQ listed j:=hj.elim id λe=>absurd e.symm L;obtain⟨h1,h2⟩:=h.ea j p hp hlj HH;refine⟨λt2 ti d q1 q2 q3=>?_,dy h2 y.ext.size⟩;obtain⟨z,r1,r2,r3⟩:=h1 t2 ti d q1 q2 q3;have acP:Gz g1 w0 w (bl j) z:=⟨r2.new,r2.lt,by rw[hA.bA];exact r2.bA,λx hO=>by
    rcases hA.own x (bl j) hO with hO|⟨q,H,hw,d2,hd2,htm⟩
    .exact r2.own x hO
    .have XW:At ops q.1 q.2:=iM.1 H;obtain⟨l1,_,l3⟩:=hwd XW hw;obtain⟨t3,ti3,d3,e1,e2,e3,_⟩:=hA.ZT q H hw;obtain⟨z3,u1,_,_⟩:=(h.ea q.1 q.2 XW l1 l3).1 t3 ti3 d3 e1 e2 e3;have:d2=d3:=eK (hd2.symm.trans e3);subst this;rw[htm]at u1;have hbb:bl j=bl q.1:=by have:=eK u1;simp only[Value.pointer.injEq,bg,Addr.mk.injEq]at this;exact this.1
     have hjq:j≠q.1:=λe=>by rw[<-e,hwj]at hw;cases hw
     exact h.eb j q.1 hlj l1 HH l3 hjq (sR hp) (sR XW) hbb,r2.mem⟩
   exact⟨z,by rw[vE (hne hp L q3)];exact r1,acP.zJ y agq,r3⟩
  .have hx:∀j,(done||| which||| 1 <<< i).testBit j=J->done.testBit j=J∧i≠j:=λj hj=>by
    refine⟨?_,λe=>?_⟩
    .cases hh:done.testBit j with|false=>rfl|true=>have:=(U j).2 (.inl (.inl hh));rw[hj]at this;cases this
    .have:=(U j).2 (.inr e);rw[hj]at this;cases this
   rw[eU hi]at hj hm;exact h.eb j m (hj.elim id λe=>absurd e (hx j h1).2) (hm.elim id λe=>absurd e (hx m h2).2) (hx j h1).1 (hx m h2).1 Zp LX hms
  .refine ⟨λk v C hv=>?_,?_⟩;rotate_left
   .rw[Cq];have h0:tA (eE s'.dr s0.aH) lJ.df B.df:=by rw[hA.Jy];exact h.fk.df.mono (iu (λx hx=>y.Gq x (by rw[show({s1 with wr:=[]}:bq S).dr=s1.dr from rfl,hA.dr];exact hx)) (bP _))
    cases ow with|nil=>exact h0|cons x ow=>refine h0.trans (su (p:=(x::ow).contains) (λo' ho'=>?_) (λv=>nK _ v) _).ok;have:=y.owd o' (by simpa using ho');simp[eE,this]
   have nt:∀{m:Nat}{q:Oper},At ops m q->q.dst≠Z k:=λH VG=>C (vJ.2 ⟨_,gY H,VG⟩);rcases h.fk.tm k v C hv with h1|h1
   .rw[cL,br (nt O)];rw[<-hA.old k λq H _=>nt (iM.1 H)]at h1;cases hm:gS ow v with
    |false=>exact .inl (yX h1 hm)
    |true=>
     rw[nK]at hm;refine .inr (er (λx hx=>?_) v hm);have:x∈ow:=by simpa using hx
     have:=y.owd x this;simp[eE,this]
   .exact .inr (er (iu (λx hx=>y.Gq x (by rw[show({s1 with wr:=[]}:bq S).dr=s1.dr from rfl,hA.dr];exact hx)) (bP _)) v h1)
  .rw[eU hi];rcases(U j).1 hj with(hj|hj)|hj
   .exact .inl (h.an j ha hj)
   .obtain ⟨q,H,_⟩:=ha;exact .inl (hwd H hj).1
   .exact .inr hj
 .have hds:∀d∈ops.toList.filterMap (·.dst),d<bB:=λd hd=>by obtain⟨q,H,VG⟩:=vJ.1 hd;obtain⟨m,hm⟩:=Hf H;exact(so I.ds hm VG).1
  have hgd:∀k,(adj ops.toList B).get k=if k∈ops.toList.filterMap (·.dst)then Y else B.get k:=λk=>Tr.qT _ _ _ hds
  have Zs:∀x,eE s.dr s0.aH x=W->eE s'.dr s0.aH x=W:=iu (λx hx=>y.Gq x (by rw[show({s1 with wr:=[]}:bq S).dr=s1.dr from rfl,hA.dr];exact hx)) (bP _);refine hP _ t _ g' _ v w' C hC.n ⟨hC.Te,y.Jy hC.df,λk t' M=>?_⟩ (hC.zJ.trans ⟨y.rel,y.ext,y.fl,y.lo,y.aH,λo O=>iS _ O,λo O hn=>y.same o O (λhm=>hn (eH _ hm)),y.Gq⟩) ⟨λk v C hv=>?_,?_⟩ ht
  .rw[bQ,hgd]at M;split at M
   .cases M
   .rename_i hnk;rw[eC]at M;obtain⟨u,hu,rfl⟩:=M;obtain⟨v',hv',ht'⟩:=hC.tm k u hu λi o hi R=>absurd (vJ.2 ⟨o,gY hi,R⟩) hnk;exact⟨v',hv',y.tr _ _ ht' (n4 _)⟩
  .rcases h.fk.tm k v C hv with h1|h1
   .left
    rw[hgd,br C,hA.old k λq H _ VG=>C (vJ.2 ⟨_,gY (iM.1 H),VG⟩)];exact h1
   .exact .inr (er Zs v h1)
  .show tA _ lJ.df B.df;rw[hA.Jy];exact h.fk.df.mono Zs
end
end
section
def Bc{E:fY S}{ops:List Oper}{bef:List Nat}{done:Nat}{fr:bW S}{i:Nat}{o:Oper}:∀{l:TA},IN E ops bef done fr l=Z (i,o)->(i,o)∈l∧done.testBit i=J∧eJ o=J∧Q1 ops bef i o=J∧Rr (bef.getD i 0) done=W
 |[],h=>by cases h
 |(j,p)::l,h=>by
  simp only[IN]at h;rcases af h with⟨b,h⟩|⟨_,h⟩
  .cases h;simp only[dR,Dp]at b;exact⟨ez,b.1,b.2.2.1.1,b.2.2.1.2,b.2.1⟩
  .obtain ⟨h1,h2⟩:=Bc h;exact⟨gJ _ h1,h2⟩
def Be{bef:List Nat}{done oA:Nat}{i:Nat}{o:Oper}:∀{l:TA},IP bef done oA l=Z (i,o)->(i,o)∈l∧done.testBit i=J∧eJ o=J∧Rr (bef.getD i 0) (done||| oA)=W
 |[],h=>by cases h
 |(j,p)::l,h=>by
  simp only[IP]at h;rcases af h with⟨b,h⟩|⟨_,h⟩
  .cases h;simp only[dR,Dp]at b;exact⟨ez,b.1,b.2.1,b.2.2⟩
  .obtain ⟨h1,h2⟩:=Be h;exact⟨gJ _ h1,h2⟩
variable {bef:List Nat}{done i j:Nat}{o:Oper}{call:iC S}
section
variable {ops:Array Oper}{listed:Array Bool}
def Dj(g:listed.size=ops.size)(h:j∈Region.ready .any ops listed):∃o,At ops j o∧¬lQ listed j∧∀e∈vU o,lQ listed e:=by
 obtain⟨h1,o,k,h2⟩:=mem_ready.1 h;have l:j<listed.size:=by rw[g];exact(IU.1 k).1
 refine⟨o,by unfold At;simpa using k,λb=>?_,λe m=>?_⟩
 .unfold lQ at b;simp only[Array.getD,l,dite_true]at h1 b;rw[h1]at b;cases b
 .obtain ⟨d,i,rfl⟩:=tK.1 m;rw[List.mem_filter]at i;exact h2 d (by simpa using i.1) i.2
def Uk(b:listed.size=ops.size)(d:At ops j o)(hn:¬lQ listed j)(g:∀e∈vU o,lQ listed e):j∈Region.ready .any ops listed:=by
 have i:j<listed.size:=by rw[b];exact sR d
 refine mem_ready.2 ⟨?_,o,E9 d,λe k l=>g e.on (tK.2 ⟨e,List.mem_filter.2 ⟨by simpa using k,l⟩,rfl⟩)⟩;unfold lQ at hn;simp only[Array.getD,i,dite_true]at hn ⊢;simpa using hn
def GQ(i:sQ ops.toList 0=W)(b:listed.size=ops.size)(h:Region.ready .any ops listed=[]):∀j o,At ops j o->lQ listed j:=by
 intro j
 induction j using Nat.strongRecOn with
 |_ j k=>
  intro o d;refine Qh λl=>?_;have:j∈Region.ready .any ops listed:=Uk b d l λe m=>by
   have p:=zm i d e m;have q:=sR d;have g:At ops e (ops[e]'(by omega)):=by unfold At;rw[Lg];exact ov (by omega)
   exact k e (by omega) _ g
  rw[h]at this;cases this
def ES(b:listed.size=ops.size)(h:listed.toList.count J<=0)(g:At ops j o):lQ listed j:=by
 have i:j<listed.size:=by rw[b];exact sR g
 have d:listed.toList.count J=0:=by omega
 rw[List.count_eq_zero]at d;unfold lQ;simp only[Array.getD,i,dite_true];cases e:listed[j]with|true=>exact e|false=>refine absurd ?_ d;rw[<-e];simp
def count_set(b:listed.size=ops.size){m j:Nat}{o:Oper}(e:At ops j o)(hn:¬lQ listed j)(h:listed.toList.count J<=m+1):(listed.setIfInBounds j W).toList.count J<=m:=by
 have d:j<listed.size:=by rw[b];exact sR e
 have hf:listed[j]=J:=by unfold lQ at hn;simp only[Array.getD,d,dite_true]at hn;simpa using hn
 rw[Array.toList_setIfInBounds,List.count_set (by simpa using d)];simp[hf];have:0<listed.toList.count J:=by rw[List.count_pos_iff,<-hf];simp
 simp at this h ⊢;omega
end
section
variable {E:fY S}{ops:Array Oper}{lJ:bW S}{s0:bq S}{g0:Gh}{w0:World}
def OI(hE:eM E)(Bt:fT E.T.E.P call)(e:wQ E ops lJ.n){ω:Type}{kp:bW S->V S->bq S->Option ω}{kk:bW S->bq S->Option ω}{r:ω}{Q:Exit->Act->World->Prop}
  (hN:∀fr' s' g' C w',kk fr' s'=Z r->fr'.n=lJ.n->cF g' (bz fr') C w'->fj s0 g0 w0 s' g' w'->eG (ops.toList.filterMap (·.dst)) lJ fr' s'.dr s0.aH->Q .normal C w')
  (hP:∀fr' t s' g' C v w',kp fr' t s'=Z r->fr'.n=lJ.n->cF g' (bz fr') C w'->fj s0 g0 w0 s' g' w'->eG (ops.toList.filterMap (·.dst)) lJ fr' s'.dr s0.aH->aK g' w' (low t) v->Q (.panic [{v,recovered:=J}]) C w') {rr:Option Nat} (M:rr≠Y->∀o∈ops.toList,∀c,o.op≠.defer c) :
  ∀(n done:Nat)(fr:bW S)(s:bq S),sj E call ops.toList (uA ops.toList) (qc ops.toList) kp kk n done fr s=Z r->∀(m:Nat)(listed:Array Bool)(bl:Nat->Nat)(g:Gh)(a:Act)(w:World),
   qq E ops lJ s0 g0 w0 done fr s bl listed g a w->listed.toList.count J<=m->aas rr E.T.E.P ops Q m listed a w:=by
 intro n
 induction n with
 |zero=>intro done fr s h;cases h
 |succ n ih=>
  intro done fr s h;simp only[sj]at h;split at h
  ·
   rename_i i o hq;obtain⟨hm,G,L,O,B⟩:=Bc hq;have I:At ops i o:=iM.1 hm
   replace O:¬antiP ops.toList i:=WL I O
   rcases af h with⟨hd,h2⟩|⟨_,h2⟩;rotate_left
   .cases h2
   clear h;intro m listed bl g a w b K;rcases af h2 with⟨hsk,h3⟩|⟨_,h2⟩
   .exact ih _ _ _ h3 m listed bl g a w (b.float e I G L O (xY.1 B) hd (.inl ⟨hsk,rfl⟩)) K
   split at h2
   .cases h2
   .rename_i hg;rw[y4]at h2;obtain⟨t,e1,h3⟩:=rL.1 h2;obtain⟨t',hkb,h3⟩:=Rs h3;exact ih _ _ _ h3 m listed bl g a w (b.float e I G L O (xY.1 B) hd (.inr (.inl ⟨hg,t,e1,hkb⟩))) K
   .rename_i c hg;obtain⟨hok,h2⟩:=mS h2;rw[y4]at h2;obtain⟨t,e1,h3⟩:=rL.1 h2;exact ih _ _ _ h3 m listed bl g a w (b.float e I G L O (xY.1 B) hd (.inr (.inr ⟨c,t,hg,hok,e1,rfl⟩))) K
  .split at h
   ·
    rename_i i o hq;obtain⟨hm,G,L,B⟩:=Be hq;have I:At ops i o:=iM.1 hm;rcases af h with⟨R,h2⟩|⟨_,h2⟩;rotate_left
    .cases h2
    clear h;split at h2
    .cases h2
    rename_i fr1 s1 had;intro m
    induction m with
    |zero=>
     intro listed bl g a w b K;exfalso;rcases b.ld i o I (ES b.I7 K I)with h1|h1
     .rw[G]at h1;cases h1
     .rw[L]at h1;cases h1
    |succ m U=>
     intro listed bl g a w b K;have hnl:¬lQ listed i:=λhl=>by
      rcases b.ld i o I hl with h1|h1
      .rw[G]at h1;cases h1
      .rw[L]at h1;cases h1
     refine⟨λhr=>absurd (GQ e.bk b.I7 hr i o I) hnl,λj X=>?_⟩;obtain⟨p,hp,y,H⟩:=Dj b.I7 X;cases z:done.testBit j with
     |true=>exact b.aaD hE e hp z y H (λg' C w' d=>U _ bl g' C w' d (count_set b.I7 hp y K)) M
     |false=>
      cases haj:eJ p with
      |true=>exact b.aaE hE e hp z haj y H (λMR C w' d=>U _ MR g C w' d (count_set b.I7 hp y K)) M
      |false=>
       have hji:i=j:=by
        have:=eA.1 R (j,p) (iM.2 hp);simp only[z,haj,GV,jQ]at this;rcases this with h1|h1
        .exact nF h1
        .exact absurd (lX e.bk (λi o hi hl=>b.So i o hi hl) hp H i h1) hnl
       subst hji;have:o=p:=eK (I.symm.trans hp);subst this;refine b.step hE Bt e I G y H (λj X=>?_) had (kp:=kp) (k:=λdone fr s=>sj E call ops.toList (uA ops.toList) (qc ops.toList) kp kk n done fr s) h2 (λdone' fr' s' g' C w' hk d=>ih _ _ _ hk m _ bl g' C w' d (count_set b.I7 I y K)) hP M;have:=xY.1 B j X;rwa [yo,jQ]at this
   ·
    split at h
    .cases h
    rename_i fr1 s1 had;rcases af h with⟨R,h2⟩|⟨_,h2⟩;rotate_left
    .cases h2
    have hda:∀{j:Nat}{p:Oper},At ops j p->done.testBit j=W∨eJ p=W:=λ{j p}hp=>by have:=eA.1 R (j,p) (iM.2 hp);simpa using this
    have hend:∀(listed:Array Bool)(bl:Nat->Nat)(g:Gh)(a:Act)(w:World),qq E ops lJ s0 g0 w0 done fr s bl listed g a w->(∀j o,At ops j o->lQ listed j)->Q .normal a w:=by
     intro listed bl g a w b hl;have hdp:∀{j:Nat}{p:Oper},At ops j p->done.testBit j=W∨(wk (qc ops.toList) done).testBit j=W:=λ{j p}hp=>by cases z:done.testBit j with|true=>exact .inl rfl|false=>exact .inr ((tN done j).2 ⟨p,hp,(hda hp).resolve_left (by rw[z];exact Bool.noConfusion),z⟩)
     obtain⟨g1,hA,hC⟩:=b.sW e had (λj X=>by
       obtain⟨p,hp,_⟩:=(tN done j).1 X;exact⟨hl j p hp,X⟩) (λj X x hx=>by
       obtain⟨p,hp,_⟩:=(tN done j).1 X;have hlt:=NT e.bk hp x hx;have LX:=sR (ops:=ops) hp;have CB:At ops x (ops[x]'(by omega)):=by unfold At;rw[Lg];exact ov (by omega)
       exact hdp CB)
     refine hN fr1 s1 g1 a w h2 hC.n ⟨hC.Te,hC.df,λk t hk=>?_⟩ hC.zJ ⟨λk v hk hv=>?_,by rw[hA.Jy,hA.dr];exact b.fk.df⟩
     .rw[bQ,eC]at hk;obtain⟨u,hu,rfl⟩:=hk;exact hC.tm k u hu λi o hi _=>⟨λ_=>by rw[yo,jQ];exact hdp hi,λ_=>hl i o hi⟩
     .rcases b.fk.tm k v hk hv with h1|h1
      .left
       rw[hA.old k λq hq _ VG=>hk (vJ.2 ⟨_,gY (iM.1 hq),VG⟩)];exact h1
      .rw[hA.dr];exact .inr h1
    intro m
    induction m with
    |zero=>
     intro listed bl g a w b K;have hl:∀j o,At ops j o->lQ listed j:=λj o I=>ES b.I7 K I;refine⟨?_,hend listed bl g a w b hl⟩;cases hr:Region.ready .any ops listed with|nil=>rfl|cons j l=>obtain⟨p,hp,y,_⟩:=Dj b.I7 (j:=j) (by rw[hr];exact ez);exact absurd (hl j p hp) y
    |succ m U=>
     intro listed bl g a w b K;refine⟨λhr=>hend listed bl g a w b (GQ e.bk b.I7 hr),λj X=>?_⟩;obtain⟨p,hp,y,H⟩:=Dj b.I7 X;cases z:done.testBit j with|true=>exact b.aaD hE e hp z y H (λg' C w' d=>U _ bl g' C w' d (count_set b.I7 hp y K)) M|false=>exact b.aaE hE e hp z ((hda hp).resolve_left (by rw[z];exact Bool.noConfusion)) y H (λMR C w' d=>U _ MR g C w' d (count_set b.I7 hp y K)) M
def adi(U:eM E)(X:E.T.E.P.follows .mixedOrders=W)(e:fT E.T.E.P call):qo E call:=by
 intro id ops ω kp k r fr s z h hn g a w hf u Q hN hP rr p;have B:rr≠Y->∀o∈ops.toList,∀c,o.op≠.defer c:=λhr=>PZ (p hr);unfold Wq at z;simp only[dR]at z;obtain⟨b1,b2,b3,b4,b5,b6⟩:=z;have C:wQ E ops fr.n:=⟨b1,b2,b3,b4,b5⟩;have G:s.fl=0:=nF b6;refine KN X ?_;obtain⟨H,K⟩:=u.grow (fl:=s.fl) (I:=g.bA) (w':={w with drawn:=w.drawn+1}) (λ_ h=>h) (λ_ h=>.inl h) u.bA (bP _) (λ_ _=>rfl) rfl rfl;have q:fj s g w s g {w with drawn:=w.drawn+1}:=
  ⟨H,⟨λ_ _ h=>h,λ_ _ _ _ h=>h,λ_ h=>h,bP _,λ_ _ _=>rfl,λo b d hO=>.inl ⟨o,d,hO⟩,λ_ h=>.inl h,rfl,rfl⟩,rfl,rfl,bP _,λ_ h=>h,λ_ _ _=>rfl,λ_ h=>h⟩
 have y:∀i,¬lQ (Array.replicate ops.size J) i:=λi d=>by
  unfold lQ at d;by_cases hi:i<ops.size
  .simp[Array.getD,hi]at d
  .simp[Array.getD,hi]at d
 refine OI U e C (s0:=s) (g0:=g) (w0:=w) (kp:=kp) (kk:=k) (r:=r) (λm L M O w' h1 h2 h3 h4 h5=>hN m L M O w' h1 h2 h3 h4 ?_) (λm t L M O v w' h1 h2 h3 h4 h5 h6=>hP m t L M O v w' h1 h2 h3 h4 h5 h6) B _ 0 fr s h ops.size _ (λ_=>0) g a _
  ⟨by simp,rfl,hn,hf.size,hf.df.imp (λ_ _ R=>R.ext K u.bA) K.cg,λk t hk _=>?_,λi _ _ d=>absurd d (y i),λi _ _ S=>by simp at S,λi _ _ d=>absurd d (y i),λi _ _ S=>by simp at S,λi _ _ d=>absurd d (y i),λi _ d=>absurd d (y i),q,eG.refl _ _ _ _,G,λj _ hj=>by simp at hj⟩ (by simp)
 .exact h5
 .obtain ⟨v,hv,R⟩:=hf.tm k (low t) (by rw[bQ,hk];rfl);exact⟨v,hv,R.ext K u.bA⟩
def aa2{E:fY S}(e:eM E)(g:E.T.E.P.follows .mixedOrders=W){f:FuncId}{fn:Func}{c:Code}(b:E.T.E.TJ f=Z fn)(i:fn.body=Z c)(n d:Nat)(ps:List Pk)(rs:List Ck) :
  bD E.T.E.P f ⟨ps,rs,E.pn,Ez E n d f ps rs⟩:=ET e (λ_=>adi e g) b i n d ps rs
end
end
section
def zD:Value->D
 | .slice Y 0 0=>.sl []
 |v=>.lit v
def TF(z:Value):List D:=z.cells.toList.map zD
def aeM(v:Value):adv (zD v) v:=by
 unfold zD;split
 .exact .inl ⟨rfl,rfl⟩
 .exact .inr rfl
def TQ(z:Value):ZOk (TF z) z.cells:=by refine⟨by simp[TF],λj d v h1 h2=>?_⟩;simp only[TF,gK,eC]at h1;obtain⟨u,b,rfl⟩:=h1;rw[Lg]at b;have:u=v:=eK (b.symm.trans h2);subst this;exact aeM u
def adm:D->Nat
 | .lit (.string _)=>16
 | .sl _=>24
 |_=>8
def mH:List D->Nat
 |[]=>0
 |d::l=>Nat.add (adm d) (mH l)
def EH(agg:Bool)(b:List D):Nat:=bif agg then mH b else match b with
 |[.lit (.int .i8 _)]|[.lit (.int .u8 _)]|[.lit (.bool _)]=>1
 |[.lit (.int .i16 _)]|[.lit (.int .u16 _)]=>2
 |[.lit (.int .i32 _)]|[.lit (.int .u32 _)]=>4
 |b=>mH b
def QH(P:Program)(f:Field):Option (Nat×Nat×Bool):=match P.info? f.type,P.underlying f.type with
 |some j,Z d=>Z (f.offset,j.size,dN d)
 |_,_=>Y
def fieldsOf(P:Program):List Field->Option (List (Nat×Nat×Bool))
 |[]=>Z []
 |f::l=>match QH P f,fieldsOf P l with
  |some x,Z r=>Z (x::r)
  |_,_=>Y
def Bw{P:Program}:∀{l:List Field}{fs:List (Nat×Nat×Bool)},fieldsOf P l=Z fs->l.length=fs.length∧∀(k:Nat)off size ag,fs[k]?=Z (off,size,ag)->
  ∃f j e,l[k]?=Z f∧f.offset=off∧P.info? f.type=Z j∧j.size=size∧P.underlying f.type=Z e∧ag=dN e
 |[],fs,h=>by simp only[fieldsOf,bg]at h;subst h;exact⟨rfl,λk _ _ _ h=>by simp at h⟩
 |f::l,fs,h=>by
  simp only[fieldsOf]at h;split at h
  .rename_i x r h1 h2;simp only[bg]at h;subst h;obtain⟨g,i⟩:=Bw h2;refine⟨by simp[g],λk off size ag b=>?_⟩;cases k with
   |zero=>
    simp only[rM,bg]at b;subst b;unfold QH at h1;split at h1
    .rename_i j d m p;simp only[bg,bC]at h1;obtain⟨rfl,rfl,rfl⟩:=h1;exact⟨f,j,d,rfl,rfl,m,rfl,p,rfl⟩
    .cases h1
   |succ k=>exact i k off size ag (by simpa using b)
  .cases h
def Vn(P:Program):TypeDesc->Kd
 | .int k=>.leaf (.int k)
 | .bool=>.leaf .bool
 | .string=>.leaf .str
 | .pointer _=>.ptr
 | .interface _=>.iface
 | .slice e=>match P.info? e,P.underlying e with
  |some j,Z d=>match j.zero with
   |some z=>bif Nat.ble j.bytes 4096&&(Nat.blt 0 j.size&&(Nat.ble j.bytes (EH (dN d) (TF z))&&(Nat.ble (EH (dN d) (TF z)) (Nat.mul 2 j.bytes)&&(Nat.blt 0 j.bytes&&Nat.beq (cz (TF z)) j.size))))then
     .slice j.size (dN d) (EH (dN d) (TF z)) (TF z)else .other
   |none=>.other
  |_,_=>.other
 | .struct fields=>match fieldsOf P fields.toList with
  |some fs=>.struct fs
  |none=>.other
 | .array len e=>match P.info? e,P.underlying e with
  |some j,Z d=>.array len j.size (dN d)
  |_,_=>.other
 |_=>.other
def YQ(P:Program)(d:TypeDesc):Nd P (Vn P d) d:=by
 cases d with
 |slice e=>
  simp only[Vn];split
  .rename_i j d h1 h2;split
   .rename_i z g;cases b:(Nat.ble j.bytes 4096&&(Nat.blt 0 j.size&&(Nat.ble j.bytes (EH (dN d) (TF z))&&(Nat.ble (EH (dN d) (TF z)) (Nat.mul 2 j.bytes)&&(Nat.blt 0 j.bytes&&Nat.beq (cz (TF z)) j.size)))))with|false=>trivial|true=>simp only[dR]at b;obtain⟨i,l,m,p,q,r⟩:=b;exact⟨e,j,d,z,rfl,h1,rfl,h2,rfl,g,TQ z,fQ i,fQ l,fQ m,fQ p,fQ q,by rw[<-bK];exact nF r⟩
   .trivial
  .trivial
 |struct fields=>
  simp only[Vn];split
  .rename_i fs h;obtain⟨s,t⟩:=Bw h;exact⟨fields,rfl,by simpa using s,λk off size u v=>by
    obtain⟨f,j,w,h1,h2⟩:=t k off size u v;exact⟨f,j,w,by simpa using h1,h2⟩⟩
  .trivial
 |array len e=>
  simp only[Vn];split
  .rename_i j d h1 h2;exact⟨e,j,d,rfl,h1,rfl,h2,rfl⟩
  .trivial
 |int k=>exact rfl
 |bool=>exact rfl
 |string=>exact rfl
 |pointer e=>exact⟨e,rfl⟩
 |interface y=>exact⟨y,rfl⟩
 |_=>trivial
def Vv:Value->Bool
 | .agg _=>W
 |_=>J
def Yb(P:Program)(b:TypeId->List Lk)(t:TypeId):Option TI:=match P.info? t,P.underlying t with
 |some x,Z d=>match x.zero with
  |some z=>bif (bif dN d then Vv z else !(Vv z))then Z ⟨x.size,dN d,TF z,bif dN d then b t else[],Vn P d⟩else Y
  |none=>Y
 |_,_=>Y
variable {P:Program}
def Ya{e:TypeId->List Lk}(s:∀t,e t≠[]->ad6 P t (e t)){t:TypeId}{i:TI}(h:Yb P e t=Z i):mU P t i:=by
 unfold Yb at h;split at h
 .rename_i x d p q;split at h
  .rename_i z r;rcases af h with⟨m,h⟩|⟨_,h⟩
   .simp only[bg]at h;subst h;refine⟨λb g=>?_,λu j=>?_,λv w k l=>?_,x,d,z,p,q,rfl,rfl,r,TQ z,YQ P d⟩
    .dsimp only at b g ⊢;rw[b]at g ⊢;exact s t g
    .rw[q]at j;cases j;rfl
    .rw[p]at k;cases k;rw[r]at l;cases l;refine⟨λb=>?_,λb=>?_⟩
     .dsimp only at b;rw[b,cG]at m;cases z<;>first|exact⟨_,rfl⟩|cases m
     .dsimp only at b;rw[b,dP]at m;cases z<;>first|rfl|cases m
   .cases h
  .cases h
 .cases h
end
section
def Er(P:Program)(fk:TypeId->Option (List Lk)):List Field->Nat->Option (List Lk)
 |[],_=>Z []
 |f::l,off=>match fk f.type,P.info? f.type with
  |some ks,Z j=>bif (f.name != "_")&&(Nat.beq f.offset off&&Nat.beq j.size (cz ks))then(Er P fk l (Nat.add off (cz ks))).map λr=>ks++r else Y
  |_,_=>Y
def Bu(P:Program):Nat->TypeId->Option (List Lk)
 |0,_=>Y
 |d+1,t=>match P.underlying t with
  |some (.int k)=>Z [.int k]
  |some .bool=>Z [.bool]
  |some .string=>Z [.str]
  |some (.struct fs)=>bif P.stoodInHeld t then Y else Er P (Bu P d) fs.toList 0
  |_=>Y
def wA:∀{a b c d:List Value},a.length=b.length->kz (a++c) (b++d)=(kz a b&&kz c d)
 |[],[],c,d,_=>by simp[kz]
 |x::a,y::b,c,d,h=>by simp only[List.cons_append,kz,wA (a:=a) (b:=b) (by simpa using h),Bool.and_assoc]
 |[],_::_,_,_,h=>by simp at h
 |_::_,[],_,_,h=>by simp at h
def sE(ks:List Lk)(l:List Value):Prop:=l.length=ks.length∧∀(j:Nat)(k:Lk)(v:Value),ks[j]?=Z k->l[j]?=Z v->zx k v
variable {ks:List Lk}
def sE.split{b:List Lk}{l:List Value}(h:sE (ks++b) l):sE ks (l.take ks.length)∧sE b (l.drop ks.length):=by
 have e:=h.1;rw[iq]at e;refine⟨⟨by rw[zV];omega,λj k v h1 h2=>?_⟩,⟨by rw[KP];omega,λj k v h1 h2=>?_⟩⟩
 .have d:j<ks.length:=(tc.1 h1).1;exact h.2 j k v (by rw[Lj d];exact h1) (by rw[vK,bJ d]at h2;exact h2)
 .exact h.2 (ks.length+j) k v (by rw[UJ (by omega),Nat.add_sub_cancel_left];exact h1) (by rw[Dr]at h2;exact h2)
section
variable {P:Program}
def Mk(P:Program)(t:TypeId)(l:List Value)(v:Value):Prop:=∃u,P.underlying t=Z u∧((dN u=W∧v=.agg l.toArray)∨(dN u=J∧l=[v]))
def ZG{d:Nat}{t:TypeId}(h:Bu P d t=Z ks):∃u,P.underlying t=Z u∧(dN u=W∨(dN u=J∧ks.length=1)):=by
 cases d with
 |zero=>cases h
 |succ d=>
  simp only[Bu]at h;split at h
  .rename_i k b;simp only[bg]at h;exact⟨_,b,.inr ⟨rfl,by rw[<-h];rfl⟩⟩
  .rename_i b;simp only[bg]at h;exact⟨_,b,.inr ⟨rfl,by rw[<-h];rfl⟩⟩
  .rename_i b;simp only[bg]at h;exact⟨_,b,.inr ⟨rfl,by rw[<-h];rfl⟩⟩
  .rename_i fs b;exact⟨_,b,.inl rfl⟩
  .cases h
def ZF:∀(d:Nat)(t:TypeId)(ks:List Lk),Bu P d t=Z ks->∀(D:Nat),d<=D->∀(w:World)(m ys:List Value)(x y:Value),sE ks m->sE ks ys->Mk P t m x->Mk P t ys y->
  (Op.equalIn D t x y).run P w=.ok (kz m ys) w:=by
 intro d
 induction d with
 |zero=>intro t ks h;cases h
 |succ d ih=>
  intro t ks h D hD w m ys x y hx hy mx my;obtain⟨D,rfl⟩:∃D',D=D'+1:=⟨D-1,by omega⟩;simp only[Bu]at h;obtain⟨u,B,mx⟩:=mx;obtain⟨u',g,my⟩:=my;rw[B]at g;cases g;rw[B]at h;have one:∀{k:Lk},ks=[k]->dN u=J->m=[x]∧ys=[y]∧zx k x∧zx k y:=by
   rintro k rfl ha
   rcases mx with⟨h1,_⟩|⟨_,rfl⟩
   .rw[ha]at h1;cases h1
   rcases my with⟨h1,_⟩|⟨_,rfl⟩
   .rw[ha]at h1;cases h1
   exact⟨rfl,rfl,hx.2 0 _ _ rfl rfl,hy.2 0 _ _ rfl rfl⟩
  split at h
  .rename_i k C;cases C;simp only[bg]at h;obtain⟨rfl,rfl,⟨a,rfl⟩,⟨b,rfl⟩⟩:=one h.symm rfl;rw[run_equalIn_int w D t k k a b B];simp[kz,EC]
  .rename_i C;cases C;simp only[bg]at h;obtain⟨rfl,rfl,⟨a,rfl⟩,⟨b,rfl⟩⟩:=one h.symm rfl;rw[run_equalIn_bool' w D t a b B];simp[kz,EC]
  .rename_i C;cases C;simp only[bg]at h;obtain⟨rfl,rfl,⟨a,rfl⟩,⟨b,rfl⟩⟩:=one h.symm rfl;rw[run_equalIn_string w D t a b B,<-beq_toListBytes];simp[kz,EC]
  .rename_i fs C;cases C;rcases af h with⟨_,h⟩|⟨hst,h⟩
   .cases h
   rcases mx with⟨_,rfl⟩|⟨h1,_⟩;rotate_left
   .cases h1
   rcases my with⟨_,rfl⟩|⟨h1,_⟩;rotate_left
   .cases h1
   have L:P.fieldsOf t=fs:=by simp[Program.fieldsOf,B]
   rw[run_equalIn_struct w D t _ _ (by rw[L];exact B) hst,L];have key:∀(l:List Field)(off:Nat)(q:List Lk),Er P (Bu P d) l off=Z q->sE q (m.drop off)->sE q (ys.drop off)->off<=m.length->off<=ys.length->
     (Op.eqFields D m.toArray ys.toArray l).run P w=.ok (kz (m.drop off) (ys.drop off)) w:=by
    intro l
    induction l with
    |nil=>intro off q h kx ky _ _;simp only[Er,bg]at h;subst h;have e1:=td kx.1;rw[e1];simp[Op.eqFields,kz]
    |cons f l ihl=>
     intro off q h kx ky ox oy;simp only[Er]at h;split at h
     .rename_i e j h1 h2;rcases af h with⟨hb,h⟩|⟨_,h⟩;rotate_left
      .cases h
      simp only[dR]at hb;obtain⟨hnm,p,z⟩:=hb;have p:=nF p;have z:=nF z;rw[bK]at z h;simp only[eC]at h;obtain⟨r,hr,rfl⟩:=h;obtain⟨G,M⟩:=kx.split;obtain⟨H,O⟩:=ky.split;rw[KV]at M O;have hlx:=kx.1;have hly:=ky.1;rw[iq,KP]at hlx hly;have s:∀(K:List Value),sE e ((K.drop off).take e.length)->∃v,(part f.type K.toArray f.offset).run P w=.ok v w∧Mk P f.type ((K.drop off).take e.length) v:=by
       intro K hz;obtain⟨u,g,i⟩:=ZG h1;rcases i with i|⟨i,R⟩
       .refine ⟨.agg ((K.drop off).take e.length).toArray,?_,u,g,.inl ⟨i,rfl⟩⟩;simp only[part,Sem.run_bind,rH g,i,Result.andThen_ok,fR,dB h2,Sem.run_pure,p,z];simp[UH]
       .have S:=hz.1;rw[R]at S;obtain⟨v,hv⟩:=Li.1 S;refine⟨v,?_,u,g,.inr ⟨i,by rw[R];exact hv⟩⟩;have hvv:K[off]?=Z v:=by have:=mJ (λl=>l[0]?) hv;simpa[vK]using this
        simp only[part,Sem.run_bind,rH g,i,Result.andThen_ok,p];simp[hvv]
      obtain⟨v1,e1,m1⟩:=s m G;obtain⟨v2,e2,m2⟩:=s ys H;have U:=ih f.type e h1 D (by omega) w _ _ v1 v2 G H m1 m2;have I:=ihl (off+e.length) r hr M O (by omega) (by omega);have X:f.name≠ "_":=by simpa using hnm
      have hsx:m.drop off=(m.drop off).take e.length++m.drop (off+e.length):=by rw[<-KV];exact(Lh _ _).symm
      have hsy:ys.drop off=(ys.drop off).take e.length++ys.drop (off+e.length):=by rw[<-KV];exact(Lh _ _).symm
      rw[hsx,hsy,wA (by rw[G.1,H.1])];simp only[Op.eqFields,X,ne_eq,not_false_eq_true,fR,Sem.run_bind,e1,e2,U,Result.andThen_ok];cases hq:kz ((m.drop off).take e.length) ((ys.drop off).take e.length)with|true=>simpa using I|false=>simp
     .cases h
   have:=key fs.toList 0 ks h (by simpa using hx) (by simpa using hy) (BP _) (BP _);simpa using this
  .cases h
def Mf(P:Program)(t:TypeId):List Lk:=bif P.eqGuardType P.depth t then[]else match Bu P 100 t with
 |some ks=>match P.underlying t with
  |some u=>bif dN u then ks else[]
  |none=>[]
 |none=>[]
def V7(t:TypeId)(h:Mf P t≠[]):ad6 P t (Mf P t):=by
 unfold Mf at h ⊢;cases d:P.eqGuardType P.depth t with
 |true=>rw[d]at h;exact absurd rfl h
 |false=>
  rw[d]at h;simp only[dP]at h ⊢;cases e:Bu P 100 t with
  |none=>rw[e]at h;exact absurd rfl h
  |some ks=>
   rw[e]at h;dsimp only at h ⊢;cases b:P.underlying t with
   |none=>rw[b]at h;exact absurd rfl h
   |some u=>
    rw[b]at h;dsimp only at h ⊢;cases g:dN u with
    |false=>rw[g]at h;exact absurd rfl h
    |true=>
     simp only[cond_true];intro w op x y i l m p q r;refine⟨run_eqGuard_agg w op t x y i l d,?_⟩;have:=ZF 100 t ks e Op.maxDepth (by decide) w i.toList l.toList (.agg i) (.agg l) ⟨by simpa using m,λj k v h1 h2=>q j k v h1 (by simpa using h2)⟩ ⟨by simpa using p,λj k v h1 h2=>r j k v h1 (by simpa using h2)⟩
      ⟨u,b,.inl ⟨g,rfl⟩⟩ ⟨u,b,.inl ⟨g,rfl⟩⟩
     exact this
end
end
section
def cS{l:List Ty}(h:l.all (λt=>!(jk t))=W):∀t∈l,jk t=J:=by intro t b;rw[eA]at h;simpa using h t b
namespace Tr
variable {α β:Type}
def mapKey(f:Nat->α->β):Tr α->Tr β
 | .nil=>.nil
 | .node v l r=>.node (match v with|some x=>Z (f 0 x)|none=>Y) (mapKey (λj=>f (Nat.succ (Nat.mul 2 j))) l) (mapKey (λj=>f (Nat.succ (Nat.succ (Nat.mul 2 j)))) r)
def xp:∀(t:Tr α)(f:Nat->α->β)(k:Nat),(t.mapKey f).get k=(t.get k).map (f k)
 | .nil,f,k=>by have:(Tr.nil:Tr α).mapKey f=.nil:=rfl;rw[this,Tr.get_nil,Tr.get_nil];rfl
 | .node v l r,f,0=>by simp only[mapKey,Tr.fL];cases v<;>rfl
 | .node v l r,f,k+1=>by
  simp only[mapKey,Tr.cO];by_cases b:k%2=0
  .rw[bJ b,bJ b,xp l];have:Nat.succ (Nat.mul 2 (k/2))=k+1:=by show 2*(k/2)+1=k+1;omega
   rw[this]
  .rw[br b,br b,xp r];have:Nat.succ (Nat.succ (Nat.mul 2 (k/2)))=k+1:=by show 2*(k/2)+1+1=k+1;omega
   rw[this]
def n3{t:Tr α}{f g:Nat->α->β}(h:t.mapKey f=t.mapKey g){k:Nat}{v:α}(b:t.get k=Z v):f k v=g k v:=by have:=mJ (λt=>t.get k) h;simp only[xp,b,dX,bg]at this;exact this
end Tr
end
section
def LJ:List (String×FuncId)->String->Option FuncId
 |[],_=>Y
 |p::l,m=>bif p.1==m then Z p.2 else LJ l m
def mkE(P:Program)(NB:Tr TI)(Rl:Tr Ty)(XT:Tr MT)(tS:Tr (List (String×FuncId)))(qU:Tr Func)(nst:Nat->Option Nat):gA:=
 ⟨⟨P,λk=>NB.get k,λk=>qU.get k,λ_=>Y⟩,λk=>Rl.get k,λk=>XT.get k,λt m=>match tS.get t with|some l=>LJ l m|none=>Y,nst⟩
section
variable (S:Sg)(P:Program)
def mo(τ:Ty):List D:=bif jk τ then(match enc S τ (S.zero τ)with|.agg l=>l|_=>[])else[enc S τ (S.zero τ)]
def IK(τ:Ty)(i:TI):Kd×Bool×Nat×Bool×List D:=match τ with
 | .int k=>(.leaf (.int k),J,1,W,mo S τ)
 | .bool=>(.leaf .bool,J,1,W,mo S τ)
 | .str=>(.leaf .str,J,1,W,mo S τ)
 | .sl e=>(.slice (S.width e) (jk e) (uy S e) (mo S e),J,1,W,mo S τ)
 | .st n=>(i.kd,W,cz (S.fs n),W,mo S τ)
 | .cR _=>(.iface,J,1,W,mo S τ)
def IJ(τ:Ty)(i:TI):Kd×Bool×Nat×Bool×List D:=(i.kd,i.agg,i.size,(match τ with|.sl e=>Nat.blt 0 (S.width e)|_=>W),i.zero)
def CN(τ:Ty):bif jk τ then D.agg (mo S τ)=enc S τ (S.zero τ)else mo S τ=[enc S τ (S.zero τ)]:=by cases τ<;>rfl
def abL{τ:Ty}{i:TI}(h:IK S τ i=IJ S τ i):wI S i τ∧O3 S i τ:=by
 have b:i.zero=mo S τ->O3 S i τ:=by intro e;unfold O3;rw[e];exact CN S τ
 cases τ with
 |int k=>simp only[IK,IJ,bC]at h;obtain⟨h1,h2,h3,_,h5⟩:=h;exact⟨⟨h1.symm,h2.symm,h3.symm⟩,b h5.symm⟩
 |bool=>simp only[IK,IJ,bC]at h;obtain⟨h1,h2,h3,_,h5⟩:=h;exact⟨⟨h1.symm,h2.symm,h3.symm⟩,b h5.symm⟩
 |str=>simp only[IK,IJ,bC]at h;obtain⟨h1,h2,h3,_,h5⟩:=h;exact⟨⟨h1.symm,h2.symm,h3.symm⟩,b h5.symm⟩
 |sl e=>simp only[IK,IJ,bC]at h;obtain⟨h1,h2,h3,h4,h5⟩:=h;exact⟨⟨⟨_,h1.symm,CN S e⟩,h2.symm,h3.symm,fQ h4.symm⟩,b h5.symm⟩
 |st n=>simp only[IK,IJ,bC]at h;obtain⟨_,h2,h3,_,h5⟩:=h;exact⟨⟨h2.symm,by rw[<-h3,bK]⟩,b h5.symm⟩
 |cR n=>simp only[IK,IJ,bC]at h;obtain⟨h1,h2,h3,_,h5⟩:=h;exact⟨⟨h1.symm,h2.symm,h3.symm⟩,b h5.symm⟩
def afa:Ty->TypeDesc->Bool
 | .int k,.int j=>m6 j k
 | .bool,.bool=>W
 | .str,.string=>W
 |_,_=>J
def YP{t:Ty}{d:TypeDesc}(h:afa t d=W):ie t d:=by
 cases t<;>cases d<;>first|exact rfl|(cases h;done)|skip
 rename_i k j;have:j=k:=by cases j<;>cases k<;>first|rfl|cases h
 rw[this];exact rfl
def mtB(E:gA)(t:Nat)(m:MT):Bool:=match E.E.P.underlying t with
 |some (.map b el)=>Nat.beq el m.el&&((match E.E.P.underlying b with|some d=>afa m.kt d|none=>J)&&((match E.E.P.info? m.el with|some x=>x.zero.isSome|none=>J)&&
   (match m.vt with|some vt=>(match E.ty m.el with|some e=>rA e vt|none=>J)&&(E.E.ti m.el).isSome|none=>W)))
 |_=>J
variable {t:Nat}
def abY{E:gA}{m:MT}(h:mtB E t m=W):∃b d,E.E.P.underlying t=Z (.map b m.el)∧E.E.P.underlying b=Z d∧ie m.kt d∧(∃x z,E.E.P.info? m.el=Z x∧x.zero=Z z)∧
  ∀vt,m.vt=Z vt->E.ty m.el=Z vt∧∃i,E.E.ti m.el=Z i:=by
 unfold mtB at h;split at h
 .rename_i b el l;simp only[dR]at h;obtain⟨h1,h2,h3,h4⟩:=h;have:=nF h1;subst this;cases e:E.E.P.underlying b with
  |none=>rw[e]at h2;cases h2
  |some d=>
   rw[e]at h2;cases j:E.E.P.info? m.el with
   |none=>rw[j]at h3;cases h3
   |some x=>
    rw[j]at h3;obtain⟨z,p⟩:=UE.1 h3;refine⟨b,d,l,e,YP h2,⟨x,z,rfl,p⟩,λvt g=>?_⟩;rw[g]at h4;dsimp only at h4;rw[dR]at h4;cases k:E.ty m.el with
    |none=>rw[k]at h4;cases h4.1
    |some q=>rw[k]at h4;exact⟨by rw[fE h4.1],UE.1 h4.2⟩
 .cases h
def Vu:TypeDesc->Bool
 | .pointer _=>W
 |_=>J
def Qw(P:Program)(t:Nat)(p:String×FuncId):Bool:=match P.info? t,P.underlying t with
 |some x,Z d=>match x.methods.find? (·.name==p.1)with
  |some e=>match e.path.toList,e.func with
   |[],Z (f,b)=>Nat.beq f p.2&&(bif b then Vu d else !(Vu d))
   |_,_=>J
  |none=>J
 |_,_=>J
def U6{P:Program}{p:String×FuncId}(h:Qw P t p=W):∃x g d,P.info? t=Z x∧x.methods.find? (·.name==p.1)=Z g∧g.path=#[]∧P.underlying t=Z d∧
  ((g.func=Z (p.2,J)∧∀e,d≠.pointer e)∨(g.func=Z (p.2,W)∧∃e,d=.pointer e)):=by
 unfold Qw at h;split at h
 .rename_i x d i j;split at h
  .rename_i g k;split at h
   .rename_i f b h1 h2;rw[dR]at h;have:=nF h.1;subst this;refine⟨x,g,d,i,k,by simpa using h1,j,?_⟩;cases b with
    |false=>refine .inl ⟨h2,λe l=>?_⟩;subst l;exact Bool.noConfusion h.2
    |true=>
     refine .inr ⟨h2,?_⟩;cases d<;>first|exact⟨_,rfl⟩|exact Bool.noConfusion h.2
   .cases h
  .cases h
 .cases h
def Hv:∀{l:List (String×FuncId)}{m:String}{f:FuncId},LJ l m=Z f->(m,f)∈l
 |[],_,_,h=>by cases h
 |p::l,m,f,h=>by
  simp only[LJ]at h;rcases af h with⟨b,h⟩|⟨_,h⟩
  .have:p.1=m:=by simpa using b
   simp only[bg]at h;subst h;subst this;exact ez
  .exact gJ _ (Hv h)
end
def Wf{S:Sg}(j:fh S){P:Program}{NB:Tr TI}{Rl:Tr Ty}{XT:Tr MT}{tS:Tr (List (String×FuncId))}{qU:Tr Func}{nst:Nat->Option Nat}
  (h1:NB.mapKey (λk _=>Yb P (Mf P) k)=NB.mapKey λ_ i=>Z i)
  (h2:qU.mapKey (λk _=>P.funcs[k]?)=qU.mapKey λ_ f=>Z f)
  (h3:Rl.mapKey (λk τ=>(NB.get k).map (IK S τ))=Rl.mapKey λk τ=>(NB.get k).map (IJ S τ))
  (h4:qU.mapKey (λ_ f=>f.name== "runtime.NumGoroutine")=qU.mapKey λ_ _=>J)
  (h5:XT.mapKey (λk m=>mtB (mkE P NB Rl XT tS qU nst) k m)=XT.mapKey λ_ _=>W)
  (h6:tS.mapKey (λk l=>l.all (Qw P k))=tS.mapKey λ_ _=>W) (Gj:FuncId->Option (kT S)) (sh:FuncId->Nat->Option LSh) (p:∀f c,Gj f=Z c->bD P f c) (pn:Bool) :
  eM (⟨mkE P NB Rl XT tS qU nst,Gj,sh,pn⟩:fY S):=by
 have b:∀k i τ,NB.get k=Z i->Rl.get k=Z τ->wI S i τ∧O3 S i τ:=by intro k i τ hi e;have:=Tr.n3 h3 e;simp only[hi,dX,bg]at this;exact abL S this
 refine⟨j,⟨λk i hi=>?_,λf fn hf=>?_⟩,⟨λk i τ hi e=>(b k i τ hi e).1⟩,λf fn hf=>Tr.n3 h4 hf,λ_=>rfl,⟨λk i τ hi e=>(b k i τ hi e).2,λt m q=>?_,λt r f hf=>?_⟩,p⟩
 .exact Ya (λt h=>V7 t h) (Tr.n3 h1 hi)
 .exact Tr.n3 h2 hf
 .exact abY (Tr.n3 h5 q)
 .have d:(match tS.get t with|some l=>LJ l r|none=>Y)=Z f:=hf;split at d
  .rename_i l s;have g:=Tr.n3 h6 s;rw[eA]at g;exact U6 (g _ (Hv d))
  .cases d
end
section
def Rx.el{R P α:Type}(x:Rx R P)(f:R->Option α)(g:P->Option α):Option α:=match x with
 | .ok r=>f r
 | .dh p=>g p
def LO.el{X R B P α:Type}(o:LO X R B P)(f:Nat->X->Option α)(g:B->R->Option α)(h:B->P->Option α):Option α:=match o with
 | .next _=>Y
 | .out j x=>f j x
 | .ret b r=>g b r
 | .dh b p=>h b p
def LO.jn{X R B P α:Type}(o:LO X R B P)(e:X->Option α)(f:Nat->X->Option α)(g:B->R->Option α)(h:B->P->Option α):Option α:=match o with
 | .next x=>e x
 | .out j x=>f j x
 | .ret b r=>g b r
 | .dh b p=>h b p
def IM{α:Type}(n:Nat)(a:α):List α:=List.replicate n a
def Ch(a b:Bool):Bool:=a&&b
def aaa(a b:Nat):Nat:=Nat.add a b
def Rq(l:List (FuncId×kT S))(f:FuncId):Option (kT S):=match l with
 |[]=>Y
 |p::l=>bif Nat.beq p.1 f then Z p.2 else Rq l f
def OkL(P:Program):List (FuncId×kT S)->Prop
 |[]=>True
 |p::l=>bD P p.1 p.2∧OkL P l
def PS{P:Program}:∀{l:List (FuncId×kT S)},OkL P l->∀f c,Rq l f=Z c->bD P f c
 |[],_,_,_,h=>by cases h
 |p::l,⟨hp,d⟩,f,c,h=>by
  unfold Rq at h;cases b:Nat.beq p.1 f with
  |true=>
   rw[b]at h;have:p.1=f:=nF b;injection h with h
   rw[<-h,<-this];exact hp
  |false=>rw[b]at h;exact PS d f c h
variable {P:Program}
def bY{f:FuncId}{ps:List Pk}{rs:List Ck}{pn:Bool}(h:mj P f):bD P f (⟨ps,rs,pn,λ_=>Y⟩:kT S):=
 ⟨h,λ_ _ h=>by cases h⟩
def ri{α:Type}(b:List α×Unit):Gw (XV b.1) (Z (([],()),())) (Z (b,()))=Z (b,()):=by obtain⟨l,u⟩:=b;cases l with|nil=>simp[Gw,XV]|cons a l=>rfl
end
section
def lz(S:Sg):Ty->List Ty
 | .st m=>S.fs m
 | τ=>[τ]
def PL:List Ty->List Ty->Bool
 |[],[]=>W
 |a::l,b::m=>rA a b&&PL l m
 |_,_=>J
def Ku:∀{l m:List Ty},PL l m=W->l=m
 |[],[],_=>rfl
 |a::l,b::m,h=>by simp only[PL,dR]at h;rw[fE h.1,Ku h.2]
 |[],_::_,h=>by cases h
 |_::_,[],h=>by cases h
def CC(S:Sg)(P:Program)(ty:TypeId->Option Ty):List Field->Nat->List Ty->Bool
 |[],_,[]=>W
 |f::l,off,b=>match ty f.type with
  |some τ=>Nat.beq f.offset off&&(Nat.beq (P.cellsOf f.type) (cz (lz S τ))&&(PL (b.take (cz (lz S τ))) (lz S τ)&&CC S P ty l (off+cz (lz S τ)) (b.drop (cz (lz S τ)))))
  |none=>J
 |_,_,_=>J
def rdT(S:Sg)(P:Program)(ty:TypeId->Option Ty)(t:TypeId)(τ:Ty):Bool:=match P.underlying t,τ with
 |some .bool,.bool=>W
 |some (.int k),.int g=>m6 k g
 |some .string,.str=>W
 |some (.slice e),.sl b=>match ty e with
  |some d=>rA d b&&(Nat.beq (P.cellsOf e) (S.width b)&&(Nat.ble (uy S b) (Nat.mul 2 (P.bytesOf e))&&Nat.blt 0 (S.width b)))
  |none=>J
 |some (.struct fs),.st n=>Nat.beq (P.cellsOf t) (cz (S.fs n))&&CC S P ty fs.toList 0 (S.fs n)
 |_,_=>J
section
variable {P:Program}{w:World}{I:Nat->Prop}
def TE(I:Nat->Prop)(w:World)(ds:List D)(vs:List Value):Prop:=PW (ee I w) ds vs
def mapM_some{α β:Type}{f:α->Option β}:∀{l:List α}{r:List β},l.mapM f=Z r->r.length=l.length∧∀(i:Nat)(a:α),l[i]?=Z a->∃b,r[i]?=Z b∧f a=Z b
 |[],r,h=>by simp only[List.mapM_nil,Option.pure_def,bg]at h;subst h;exact⟨rfl,λi a h=>by simp at h⟩
 |x::l,r,h=>by simp only[List.mapM_cons,Option.bind_eq_bind,rL,Option.pure_def,bg]at h;obtain⟨b,d,g,e,rfl⟩:=h;obtain⟨h1,h2⟩:=mapM_some e;refine⟨by simp[h1],λi a hi=>?_⟩;cases i with|zero=>simp only[rM,bg]at hi;subst hi;exact⟨b,rfl,d⟩|succ i=>simpa using h2 i a (by simpa using hi)
variable {a:Addr}{v:Value}{fuel:Nat}{cs:List Value}{ps:List MemPlace}
def OO{n:Nat}{vs:List Value}(h:w.cells? 0 a n=Z vs):vs.length=n∧∀j,j<n->∃v,vs[j]?=Z v∧w.cell? (a.add j)=Z v:=by unfold World.cells? at h;rw[bJ (BP _)]at h;obtain⟨h1,h2⟩:=mapM_some h;rw[List.length_range]at h1;refine⟨h1,λj b=>?_⟩;exact h2 j j (by rw[NP b])
def Z1(h:w.cell? a=Z v):a.block<w.heap.size:=by
 unfold World.cell? at h;split at h
 .rename_i b;exact(IU.1 b).1
 .cases h
def BG{α:Type}(p:Nat->α->Prop):∀n,(∀i,i<n->∃x,p i x)->∃l:List α,l.length=n∧∀i x,l[i]?=Z x->p i x
 |0,_=>⟨[],rfl,λi x h=>by simp at h⟩
 |n+1,h=>by
  obtain⟨l,h1,h2⟩:=BG p n (λi hi=>h i (by omega));obtain⟨x,b⟩:=h n (by omega);refine⟨l++[x],by simp[h1],λi y hi=>?_⟩;rw[kY]at hi;split at hi
  .exact h2 i y hi
  .rename_i d;have:i=n:=by have:=(tc.1 hi).1;simp at this;omega
   subst this;simp[h1]at hi;subst hi;exact b
def Dx{d:D}(h:ee I w d v):TE I w [d] [v]:=⟨rfl,λj a b h1 h2=>by
 cases j with
 |zero=>simp at h1 h2;subst h1;subst h2;exact h
 |succ j=>simp at h1⟩
variable {H:Type}{Mv:TypeId×Value->H}{held:Bool}
def trod_bool{t:TypeId}{d:DataW H}(e:P.underlying t=Z .bool)(h:DataW.trod Mv P w 0 (λ_=>W) held fuel t cs=Z (d,ps)):∃b,cs=[.bool b]:=by
 cases fuel with
 |zero=>simp[DataW.trod]at h
 |succ n=>
  rcases cs with _|⟨c,_|⟨g,cs⟩⟩
  .simp[DataW.trod,e]at h
  .cases c<;>simp[DataW.trod,e]at h;exact⟨_,rfl⟩
  .simp[DataW.trod,e]at h
def trod_int{t:TypeId}{k:IntKind}{d:DataW H}(b:P.underlying t=Z (.int k))(h:DataW.trod Mv P w 0 (λ_=>W) held fuel t cs=Z (d,ps)):∃n,cs=[.int k n]:=by
 cases fuel with
 |zero=>simp[DataW.trod]at h
 |succ n=>
  rcases cs with _|⟨c,_|⟨e,cs⟩⟩
  .simp[DataW.trod,b]at h
  .cases c<;>simp[DataW.trod,b]at h;obtain⟨⟨rfl,_⟩,_⟩:=h;exact⟨_,rfl⟩
  .simp[DataW.trod,b]at h
def TZ{t:TypeId}{d:DataW H}(e:P.underlying t=Z .string)(h:DataW.trod Mv P w 0 (λ_=>W) held fuel t cs=Z (d,ps)):∃b,cs=[.string b]:=by
 cases fuel with
 |zero=>simp[DataW.trod]at h
 |succ n=>
  rcases cs with _|⟨c,_|⟨g,cs⟩⟩
  .simp[DataW.trod,e]at h
  .cases c<;>simp[DataW.trod,e]at h;exact⟨_,rfl⟩
  .simp[DataW.trod,e]at h
def trod_slice{t e:TypeId}{d:DataW H}(j:P.underlying t=Z (.slice e))(h:DataW.trod Mv P w 0 (λ_=>W) held (fuel+1) t cs=Z (d,ps)) :
  cs=[.slice Y 0 0]∨∃(a:Addr)(len cap:Nat)(g rest:List (DataW H)),cs=[.slice (Z a) len cap]∧len<=cap∧d=.slice g rest∧g.length=len∧
   ∀i,i<len->∃vs k l,w.cells? 0 (a.add (i*P.cellsOf e)) (P.cellsOf e)=Z vs∧DataW.trod Mv P w 0 (λ_=>W) held fuel e vs=Z (k,l)∧g[i]?=Z k:=by
 rcases cs with _|⟨c,_|⟨u,cs⟩⟩
 .simp[DataW.trod,j]at h
 .cases c with
  |slice a len cap=>
   cases a with
   |none=>
    rcases len with _|len
    .rcases cap with _|cap
     .exact .inl rfl
     .simp[DataW.trod,j]at h
    .simp[DataW.trod,j]at h
   |some a=>
    right
    simp only[DataW.trod,j]at h;split at h
    .rename_i m;rw[rL]at h;obtain⟨p,h1,h2⟩:=h;rw[eC]at h2;obtain⟨rest,_,h3⟩:=h2;simp only[bC]at h3;obtain⟨rfl,_⟩:=h3;obtain⟨h4,h5⟩:=mapM_some h1;rw[List.length_range]at h4;refine⟨a,len,cap,_,_,rfl,m.2.1,rfl,by simpa using h4,λi hi=>?_⟩;obtain⟨b,q,hf⟩:=h5 i i (by rw[NP hi]);rw[rL]at hf;obtain⟨vs,r,s⟩:=hf;exact⟨vs,b.1,b.2,r,s,by rw[gK,q];rfl⟩
    .cases h
  |_=>simp[DataW.trod,j]at h
 .simp[DataW.trod,j]at h
def trod_struct{t:TypeId}{fs:Array Field}{d:DataW H}(g:P.underlying t=Z (.struct fs))(h:DataW.trod Mv P w 0 (λ_=>W) held (fuel+1) t cs=Z (d,ps)) :
  cs.length=P.cellsOf t∧∃parts:List (DataW H),d=.agg parts∧parts.length=fs.toList.length∧
   ∀(i:Nat)(f:Field),fs.toList[i]?=Z f->∃e j,DataW.trod Mv P w 0 (λ_=>W) held fuel f.type ((cs.drop f.offset).take (P.cellsOf f.type))=Z (e,j)∧parts[i]?=Z e:=by
 simp only[DataW.trod,g]at h;split at h
 .rename_i k;rw[eC]at h;obtain⟨p,h1,h2⟩:=h;simp only[bC]at h2;obtain⟨rfl,_⟩:=h2;obtain⟨h4,h5⟩:=mapM_some h1;refine⟨k,_,rfl,by simpa using h4,λi f hf=>?_⟩;obtain⟨b,l,m⟩:=h5 i f hf;exact⟨b.1,b.2,m,by rw[gK,l];rfl⟩
 .cases h
def SY(b:fh S):∀(τ:Ty)(x:den S.A τ),∃h:lu S.A (lz S τ),gq S (lz S τ) h=(enc S τ x).cells
 | .st n,x=>⟨S.get n x,by simp only[enc,D.cells];exact(b.cells n x).symm⟩
 | .int k,x=>⟨(x,()),rfl⟩
 | .bool,x=>⟨(x,()),rfl⟩
 | .str,x=>⟨(x,()),rfl⟩
 | .sl e,x=>⟨(x,()),rfl⟩
 | .cR n,x=>⟨(x,()),(l6 _).symm⟩
def BC:∀(l m:List Ty)(h:lu S.A l)(k:lu S.A m),∃r:lu S.A (l++m),gq S (l++m) r=gq S l h++gq S m k
 |[],m,_,k=>⟨k,rfl⟩
 |t::l,m,h,k=>by obtain⟨r,b⟩:=BC l m h.2 k;exact⟨(h.1,r),by simp only[List.cons_append,gq,b]⟩
def FQ{ts:List TypeId}{ds:List (DataW H)}(h:(DataW.weightsEach P ts ds).all (·<=reachBytes)=W):∀(i:Nat)(t:TypeId)(d:DataW H),ts[i]?=Z t->ds[i]?=Z d->(d.weights P t).all (·<=reachBytes)=W:=by
 induction ts generalizing ds with
 |nil=>intro i t d h1;simp at h1
 |cons a ts e=>
  intro i t d h1 h2;cases ds with
  |nil=>simp at h2
  |cons b ds=>
   simp only[DataW.weightsEach,KY,dR]at h;cases i with|zero=>simp at h1 h2;subst h1;subst h2;exact h.1|succ i=>exact e h.2 i t d (by simpa using h1) (by simpa using h2)
def Ir{e:TypeId}{ds:List (DataW H)}(h:(DataW.weightsAll P e ds).all (·<=reachBytes)=W):∀d∈ds,(d.weights P e).all (·<=reachBytes)=W:=by
 induction ds with
 |nil=>intro d b;cases b
 |cons a ds g=>
  simp only[DataW.weightsAll,KY,dR]at h;intro d b;rcases eR.1 b with rfl|b
  .exact h.1
  .exact g h.2 d b
def Kx(G:fh S){ty:TypeId->Option Ty}
  (K:∀(t:TypeId)(τ:Ty)(cs:List Value)(d:DataW H)(ps:List MemPlace),ty t=Z τ->DataW.trod Mv P w 0 (λ_=>W) held fuel t cs=Z (d,ps)->(d.weights P t).all (·<=reachBytes)=W->∃x:den S.A τ,TE I w (enc S τ x).cells cs) :
  ∀(fs:List Field)(off:Nat)(ts:List Ty)(parts:List (DataW H)),CC S P ty fs off ts=W->off+ts.length=cs.length->(DataW.weightsEach P (fs.map (·.type)) parts).all (·<=reachBytes)=W->parts.length=fs.length->
   (∀(i:Nat)(f:Field),fs[i]?=Z f->∃g l,DataW.trod Mv P w 0 (λ_=>W) held fuel f.type ((cs.drop f.offset).take (P.cellsOf f.type))=Z (g,l)∧parts[i]?=Z g)->
   ∃h:lu S.A ts,TE I w (gq S ts h) (cs.drop off):=by
 intro fs
 induction fs with
 |nil=>
  intro off ts parts h1 h2 _ _ _;cases ts with|nil=>exact⟨(),by simp[gq];rw[List.drop_eq_nil_of_le (by simp at h2;omega)];exact⟨rfl,λj a b h=>by simp at h⟩⟩|cons t ts=>cases h1
 |cons f fs s=>
  intro off ts parts h1 h2 h3 h4 h5;simp only[CC]at h1;split at h1;rotate_left
  .cases h1
  rename_i τ L;simp only[dR,bK]at h1;obtain⟨u,v,q,h1⟩:=h1;have u:=nF u;have v:=nF v;have q:=Ku q;obtain⟨d,l,M,hp⟩:=h5 0 f rfl;cases parts with
  |nil=>simp at hp
  |cons p parts=>
  simp only[rM,bg]at hp;subst hp;have hw:=FQ h3 0 f.type p rfl rfl;obtain⟨x,y⟩:=K _ _ _ _ _ L M hw;obtain⟨k,O⟩:=SY G τ x;simp only[lI,DataW.weightsEach,KY,dR]at h3;have C:(lz S τ).length<=ts.length:=by have:=mJ List.length q;rw[zV]at this;omega
  obtain⟨r,R⟩:=s (off+(lz S τ).length) (ts.drop (lz S τ).length) parts h1 (by rw[KP];omega) h3.2 (by simpa using h4) (λi f hf=>by
   obtain⟨g,l,U,X⟩:=h5 (i+1) f (by simpa using hf);exact⟨g,l,U,by simpa using X⟩)
  obtain⟨m,hm⟩:=BC (lz S τ) (ts.drop (lz S τ).length) k r;have z:lz S τ++ts.drop (lz S τ).length=ts:=by
   conv=>rhs;rw[<-Lh (lz S τ).length ts]
   rw[q]
  rw[u,v]at y;rw[<-O]at y;have B:cs.drop off=(cs.drop off).take (lz S τ).length++cs.drop (off+(lz S τ).length):=by rw[<-KV,Lh]
  have e:∃m:lu S.A (lz S τ++ts.drop (lz S τ).length),TE I w (gq S _ m) (cs.drop off):=⟨m,by
   rw[hm,B];exact PW.append y R⟩
  rw[z]at e;exact e
def X9(C:fh S){ty:TypeId->Option Ty}(hR:∀t τ,ty t=Z τ->rdT S P ty t τ=W)(hI:∀b,b<w.heap.size->I b) :
  ∀(fuel:Nat)(t:TypeId)(τ:Ty)(cs:List Value)(d:DataW H)(ps:List MemPlace),ty t=Z τ->DataW.trod Mv P w 0 (λ_=>W) held fuel t cs=Z (d,ps)->(d.weights P t).all (·<=reachBytes)=W->
   ∃x:den S.A τ,TE I w (enc S τ x).cells cs:=by
 intro fuel
 induction fuel with
 |zero=>intro t τ cs d ps _ h;simp[DataW.trod]at h
 |succ fuel ih=>
  intro t τ cs d ps hτ h p;have u:=hR t τ hτ;unfold rdT at u;split at u
  .rename_i q;obtain⟨b,rfl⟩:=trod_bool q h;exact⟨b,Dx (.lit _)⟩
  .rename_i k k' q;obtain⟨n,rfl⟩:=trod_int q h;obtain rfl:k=k':=by cases k<;>cases k'<;>first|rfl|cases u
   exact⟨n,Dx (.lit _)⟩
  .rename_i q;obtain⟨b,rfl⟩:=TZ q h;refine⟨ofBytes b,Dx ?_⟩;have:enc S .str (ofBytes b)=.lit (.string b):=by simp only[enc,bI,ofBytes]
   rw[this];exact .lit _
  .rename_i e τ' q;split at u;rotate_left
   .cases u
   rename_i g R;simp only[dR]at u;obtain⟨h1,h2,h3,h4⟩:=u;obtain rfl:=fE h1;have h2:=nF h2;have h3:=fQ h3;have h4:0<S.width g:=fQ h4;rcases trod_slice q h with rfl|⟨a,len,cap,U,rest,rfl,X,rfl,hel,r⟩
   .refine ⟨[],Dx ?_⟩;exact .sl [] Y 0 0 (λ_ _=>undef) (bP _) (λd l=>by cases l) (λd l=>by cases l) (λh=>absurd rfl h) (λi j d c l=>by simp at l)
   .simp only[DataW.weights,q,Dv,KY,dR,jR]at p;have hev:=Ir p.2.1;obtain⟨y,hxl,hxs⟩:=BG (λi(x:den S.A g)=>∃K,w.cells? 0 (a.add (i*P.cellsOf e)) (P.cellsOf e)=Z K∧TE I w (enc S g x).cells K) len (λi hi=>by
     obtain⟨K,di,pi,q1,q2,q3⟩:=r i hi;obtain⟨x,z⟩:=ih e g K di pi R q2 (hev di (gY q3));exact⟨x,K,q1,z⟩)
    have m:∀(i j:Nat)(x:den S.A g)(c:D),y[i]?=Z x->(enc S g x).cells[j]?=Z c->∃v,w.cell? (a.add (i*S.width g+j))=Z v∧ee I w c v:=by
     intro i j x c z B;obtain⟨K,q1,q2⟩:=hxs i x z;obtain⟨q3,q4⟩:=OO q1;have hj:j<P.cellsOf e:=by have:=(tc.1 B).1;rw[jM C]at this;omega
     obtain⟨v,G,L⟩:=q4 j hj;rw[Addr.add_add,h2]at L;exact⟨v,L,q2.2 j c v B G⟩
    refine⟨y,Dx ?_⟩;have VD:enc S (.sl g) y=.sl (y.map (enc S g)):=rfl;rw[VD];have s:(y.map (enc S g)).length=len:=by simp[hxl]
    rw[show(Value.slice (Z a) len cap)=.slice (Z a) (y.map (enc S g)).length cap by rw[s]];refine .sl _ (Z a) cap (S.width g) (λi j=>(w.cell? (a.add (i*S.width g+j))).getD undef) (by rw[s];exact X) (qE C y) (λd l=>?_) (λhne=>?_) (λi j d c l B=>?_)
    .obtain ⟨x,_,rfl⟩:=tK.1 l;rw[Ao C,s];have M:=p.1;rw[hel]at M;have:len*P.bytesOf e<=reachBytes:=fC (vM _ (Nat.le_add_right _ _)) M;have hb:len*uy S g<=2*(len*P.bytesOf e):=by
      calc len*uy S g<=len*(2*P.bytesOf e):=Nat.mul_le_mul_left _ h3
       _=2*(len*P.bytesOf e):=by rw[Nat.mul_left_comm]
     unfold reachBytes at this;omega
    .have O:0<y.length:=by cases y with|nil=>exact absurd rfl hne|cons=>simp
     obtain⟨x,z⟩:∃x,y[0]?=Z x:=⟨_,fP O⟩;obtain⟨c,B⟩:∃c,(enc S g x).cells[0]?=Z c:=⟨_,fP (by rw[jM C];exact h4)⟩;obtain⟨v,G,_⟩:=m 0 0 x c z B;refine⟨a,rfl,hI _ ?_,λi j d c l B=>?_⟩
     .have:=Z1 G;rwa [kN]at this
     .rw[gK,eC]at l;obtain⟨x,z,rfl⟩:=l;obtain⟨v,G,_⟩:=m i j x c z B;rw[G];rfl
    .rw[gK,eC]at l;obtain⟨x,z,rfl⟩:=l;obtain⟨v,G,l⟩:=m i j x c z B;simp only[G,zU];exact l
  .rename_i fs n q;simp only[dR]at u;obtain⟨h1,h2⟩:=u;have h1:=nF h1;rw[bK]at h1;obtain⟨hl,parts,rfl,Km,r⟩:=trod_struct q h;simp only[DataW.weights,q]at p;obtain⟨k,hk⟩:=Kx C ih fs.toList 0 (S.fs n) parts h2 (by omega) p Km r;refine⟨S.U5 n k,?_⟩;simp only[enc,D.cells];rw[show S.cells n (S.U5 n k)=_ from C.cells n _,C.ud];simpa using hk
  .cases u
end
end
section
section
variable {P:Program}{w:World}{H:Type}{Mv:TypeId×Value->H}
variable {base:Nat}{w':World}
def TY(r:fh S){ty:TypeId->Option Ty}(s:∀t τ,ty t=Z τ->rdT S P ty t τ=W){t:TypeId}{τ:Ty}(y:ty t=Z τ){v:Value}{d:DataW H}{ps:List MemPlace}(l:Value.okWide P w .any base t v)
  (h:DataW.Trod Mv P w 0 (λ_=>W) W t v d ps) (p:(d.weights P t).all (·<=reachBytes)=W):∃x:den S.A τ,ee (λb=>b<w.heap.size) w (enc S τ x) v:=by
 obtain⟨fuel,h⟩:=h;obtain⟨x,i⟩:=X9 (I:=λb=>b<w.heap.size) r s (λ_ h=>h) fuel t τ _ d ps y h p;refine⟨x,?_⟩;have q:=s t τ y;unfold rdT at q;split at q
 .rename_i g;obtain⟨b,rfl⟩:=WideShapes.okWide_bool g l;exact i.2 0 _ _ rfl rfl
 .rename_i k B g;obtain⟨n,rfl⟩:=WideShapes.okWide_int g l;exact i.2 0 _ _ rfl rfl
 .rename_i g;obtain⟨b,rfl⟩:=WideShapes.okWide_string g l;exact i.2 0 _ _ rfl rfl
 .rename_i e C g;obtain⟨a,n,m,rfl⟩:=WideShapes.okWide_slice g l;exact i.2 0 _ _ rfl rfl
 .rename_i fs n g;obtain⟨G,rfl,_⟩:=WideShapes.okWide_struct g l;refine .agg _ _ (by have:=i.1;simp only[enc,D.cells,Value.cells]at this;simpa using this) ?_ (λj c u h1 h2=>i.2 j c u h1 (by simpa[Value.cells]using h2));intro c z;have:=Ms r (t:=.st n) x;simp only[enc,D.flat,D.cells,eA]at this;exact this c z
 .cases q
def GG(i:fh S){ty:TypeId->Option Ty}(l:∀t τ,ty t=Z τ->rdT S P ty t τ=W){base:Nat}:∀(ts:List TypeId)(τs:List Ty)(vs:List Value)(ds:List (DataW H))(ps:List MemPlace),
  PW (λt τ=>ty t=Z τ) ts τs->(∀(j:Nat)t v,ts[j]?=Z t->vs[j]?=Z v->Value.okWide P w .any base t v)->DataW.TrodAll Mv P w 0 (λ_=>W) W ts vs ds ps->
  (DataW.weightsEach P ts ds).all (·<=reachBytes)=W->∃x:fU S.A (τs.map λτ=>.one (.dat τ)),oZ S (λb=>b<w.heap.size) w (τs.map λτ=>.one (.dat τ)) x vs [] []
 |[],[],vs,ds,ps,_,_,h,_=>by cases vs with|nil=>exact⟨(),.nil⟩|cons v vs=>cases ds<;>simp[DataW.TrodAll]at h
 |t::ts,τ::τs,vs,ds,ps,hp,m,h,hw=>by
  cases vs with
  |nil=>cases ds<;>simp[DataW.TrodAll]at h
  |cons v vs=>
  cases ds with
  |nil=>simp[DataW.TrodAll]at h
  |cons d ds=>
  simp only[DataW.TrodAll]at h;obtain⟨p,q,h1,h2,_⟩:=h;simp only[DataW.weightsEach,KY,dR]at hw;obtain⟨x,r⟩:=TY i l (hp.2 0 t τ rfl rfl) (m 0 t v rfl rfl) h1 hw.1;obtain⟨k,s⟩:=GG i l ts τs vs ds q ⟨by simpa using hp.1,λj a b e g=>hp.2 (j+1) a b (by simpa using e) (by simpa using g)⟩ (λj t v e g=>m (j+1) t v (by simpa using e) (by simpa using g)) h2 hw.2;exact⟨(x,k),.one (.dat r .nil) s⟩
 |[],τ::τs,_,_,_,hp,_,_,_=>by have:=hp.1;simp at this
 |t::ts,[],_,_,_,hp,_,_,_=>by have:=hp.1;simp at this
def CR{w':World}(hl:laidOutB P=W)(j:∀b,b<w.heap.size->w'.heap[b]?=w.heap[b]?):∀(ts:List TypeId)(vs:List Value)(ds:List (DataW H))(ps:List MemPlace),(∀t∈ts,P.readableRec t=W∧t<P.types.size)->
  DataW.TrodAll Mv P w 0 (λ_=>W) W ts vs ds ps->(∀p∈ps,p.block<w.heap.size)->DataW.TrodAll Mv P w' 0 (λb=>decide (b<w.heap.size)) W ts vs ds ps
 |[],[],[],ps,_,h,_=>h
 |t::ts,v::vs,d::ds,ps,g,h,i=>by simp only[DataW.TrodAll]at h ⊢;obtain⟨p,q,h1,h2,rfl⟩:=h;refine⟨p,q,WideElems.Trod_stays hl (g t ez).1 (g t ez).2 h1 (λx e=>?_) (λx e=>by simpa using i x (eH _ e)),CR hl j ts vs ds q (λt k=>g t (gJ _ k)) h2 λx e=>i x (iS _ e),rfl⟩;have:=j x.block (i x (eH _ e));cases x with|cell b off=>show w'.cell? _=w.cell? _;unfold World.cell?;rw[show w'.heap[b]?=w.heap[b]? from this]|map b=>exact this
 |[],[],_::_,_,_,h,_=>by simp[DataW.TrodAll]at h
 |[],_::_,_,_,_,h,_=>by simp[DataW.TrodAll]at h
 |_::_,[],_,_,_,h,_=>by simp[DataW.TrodAll]at h
 |_::_,_::_,[],_,_,h,_=>by simp[DataW.TrodAll]at h
def Jd(e:w'.os=w.os)(d:w'.output=w.output)(j:∀b,b<w.heap.size->w'.heap[b]?=w.heap[b]?)(g:MemPlace->Prop):w.keptBut w' g:=by
 refine⟨e,d,λi hi=>?_⟩;rw[j i hi];split
 .rename_i h1 h2;rw[h1]at h2;cases h2;exact⟨rfl,rfl,rfl,λ_ _=>rfl⟩
 .rename_i h1 h2;rw[h1]at h2;cases h2;exact .inr ⟨rfl,rfl⟩
 .rfl
def Sp(hS:fh S){ty:TypeId->Option Ty}(hR:∀t τ,ty t=Z τ->rdT S P ty t τ=W)(hl:laidOutB P=W){f:FuncId}{fn:Func}{s:ChangeSpec}{apart fresh m:Bool}{τs:List Ty}{tb:TypeId}
  (hτ:PW (λt τ=>ty t=Z τ) fn.params.toList τs) (M:∀t∈fn.params.toList,P.readableRec t=W∧t<P.types.size) (O:fn.resultTypes=#[tb]) (hb:P.underlying tb=Z .bool) (i:s.vars=[])
  (G:∀ds:List (DataW H),ds.length=τs.length->(s.fn H ds).results=[.lit (.bool W)]∧(s.fn H ds).args=ds∧(s.fn H ds).vars=[])
  (hF:∀x:fU S.A (τs.map λτ=>Pk.one (.dat τ)),∃F r,bD P f (⟨τs.map λτ=>.one (.dat τ),[.dat .bool],J,F⟩:kT S)∧F x=Z r∧r.1.1=W)
  {Q:World} {base:Nat} {args:Array Value} {ds R:List (DataW H)} {w:List MemPlace}
  (B:∀(j:Nat)t v,fn.params[j]?=Z t->args[j]?=Z v->Value.okWide P Q .any base t v) (hW:DataW.Whole Mv P fn.params.toList s.vars apart Q args.toList ds R w)
  (I:(DataW.weightsEach P (fn.params.toList++s.plain.varTypes P) (ds++R)).all (·<=reachBytes)=W) :
  Calls P f args Q λe W'=>∃v,e=.returned v∧s.post Mv P fn apart fresh m J Q args v W':=by
 rw[i]at hW;have z:=hW;obtain⟨p,q,C,hV,rfl,hfz,hnd⟩:=hW;have hgs:R=[]∧q=[]:=by cases R with|nil=>exact⟨rfl,hV⟩|cons g R=>simp[DataW.TrodVars]at hV
 obtain⟨rfl,rfl⟩:=hgs;have hvt:s.plain.varTypes P=[]:=by simp[ChangeSpec.plain,DataSpec.varTypes,i]
 rw[hvt,iT,iT]at I;obtain⟨x,hx⟩:=GG hS hR fn.params.toList τs args.toList ds p hτ (λj t v h1 h2=>B j t v (by simpa using h1) (by simpa using h2)) C I;obtain⟨F,r,U,hr,k⟩:=hF x;have X:ds.length=τs.length:=by
  rw[<-hτ.1];clear B z I hfz hnd hV hx hτ M;generalize fn.params.toList=ts at C;generalize args.toList=L at C
  induction ts generalizing L ds p with
  |nil=>cases L<;>cases ds<;>simp_all [DataW.TrodAll]
  |cons t ts ih=>
   cases L with
   |nil=>cases ds<;>simp[DataW.TrodAll]at C
   |cons v L=>
    cases ds with|nil=>simp[DataW.TrodAll]at C|cons d ds=>simp only[DataW.TrodAll]at C;obtain⟨_,q,_,h2,_⟩:=C;simp[ih _ _ h2]
 refine(U.2 x r hr _ Q args [] [] hx (λ_ h=>h) .nil (by simp) (by simp)).mono λe W' he=>?_;cases e with
 |panicked ch=>exact he.elim
 |outgrown=>exact he.elim
 |returned v=>
 obtain⟨I',L,zo,zI,_,_,_,hsz,K,hos,hout,rfl,_,hH,_⟩:=he;have hv:valOf L=.bool W:=by
  generalize r.1=y at hH k;obtain⟨b,u⟩:=y;cases hH with
  |dat hd hr=>
  cases hr;cases hd;simp only at k;rw[k];rfl
 rw[hv];refine⟨_,rfl,?_⟩;obtain⟨s1,s2,s3⟩:=G ds X;have l:∀b,b<Q.heap.size->W'.heap[b]?=Q.heap[b]?:=λb hb=>K b hb (by simp) (by simp);have hlt:∀x∈p,x.block<Q.heap.size:=λx hx=>z.lt x (by simpa using hx);rw[iT]at z;unfold ChangeSpec.post;rw[i];refine⟨ds,[],p,[],p,[],z,?_,?_,?_,Jd hos hout l _,λh=>by cases h⟩
 .rw[iT,s1,O];simp only[Value.resultList];refine⟨[],[],⟨1,?_⟩,rfl,rfl⟩;simp[DataW.trod,hb,Value.cells]
 .rw[iT,s2];exact CR hl l _ _ _ _ M C hlt
 .rw[iT,s3];rfl
end
end
end TL
end
section
namespace Mn
open Go TL
section
open Proofs.Tryz
def z0:TI:=⟨1,J,[.lit .nilFunc],[],.other⟩
abbrev n1{α:Type}(x:α)(l r:Tr α):Tr α:=.node (Z x) l r
abbrev n0{α:Type}(l r:Tr α):Tr α:=.node Y l r
abbrev e0{α:Type}:Tr α:=.nil
abbrev bu{α:Type}(x:α):Tr α:=.node (Z x) .nil .nil
abbrev cH(l r:Tr TI):Tr TI:=.node (Z z0) l r
abbrev bR:Tr TI:=.node (Z z0) .nil .nil
abbrev aS:D:=.lit (.int .i64 0)
abbrev dn:D:=.lit (.string ⟨#[]⟩)
abbrev ko:D:=.lit (.pointer Y)
abbrev eT:D:=.lit .nilFunc
abbrev T4:Kd:=.struct [(0,1,J)]
abbrev v5:Kd:=.struct [(0,1,J),(1,1,J)]
abbrev A6:Kd:=.struct [(0,1,J),(1,1,J),(2,1,J)]
abbrev pE:Kd:=.struct [(0,1,J),(1,1,J),(2,1,J),(3,1,J)]
abbrev PU:Kd:=.struct [(0,1,J),(1,1,J),(2,1,J),(3,1,J),(4,1,J)]
structure aB where
 Form:Int
 N:Int
 Text:List UInt8
 BJ:List aB
structure bp where
 Op:Int
 N:Int
 Kids:List Int
 cu:List aB
structure cw where
 Name:List UInt8
 o6:Int
structure aA where
 aV:List bp
 dx:List Int
 Main:Int
 Cons:List cw
structure aq where
 Kind:Int
 N:Int
structure au where
 Node:Int
 Env:List aq
 bH:List aq
structure aD where
 Form:Int
 N:Int
 bH:List aq
 Frames:List au
structure dV where
 Port:Int
 N:Int
structure aa where
 aW:List aD
 bf:List Int
 gH:List dV
 uI:List Int
 Used:Int
structure aE where
 Task:Int
 Do:Int
 N:Int
 V:aq
structure az where
 W:aa
 aam:Int
 E:aE
structure cB where
 aA:aA
 aa:aa
structure iz where
structure gB where
 aE:aE
structure fW where
 state:Int
structure ja where
inductive bZ where
 |a0 (x:iz)
 |a1 (x:gB)
 |a2 (x:fW)
 |a3 (x:ja)
 |none
structure cj where
 M9:Int
 N:Int
 Text:List UInt8
 BJ:List cj
structure hG where
 Name:List UInt8
 o6:List cj
structure jA where
 Name:List UInt8
 Cons:List hG
structure Term where
 Op:Int
 N:Int
 Text:List UInt8
 Kids:List Term
 cu:List aB
structure cE where
 Name:List UInt8
 Param:List UInt8
 Nf:cj
 To:cj
 Body:Term
structure dQ where
 Name:List UInt8
 abg:List jA
 dx:List cE
structure cU where
 aA:aA
structure dA where
 xu:List (List UInt8)
 cons:List cw
 nodes:List bp
structure e8 where
 Kind:Int
 Text:List UInt8
 N:Int
 At:Int
structure bE where
 l_:List e8
 at_:Int
 bad:Bool
structure jB where
structure mh where
inductive cJ where
 |a0 (x:jB)
 |a1 (x:Int)
 |a2 (x:mh)
 |none
inductive Any where
 |a0 (x:fW)
 |none
def aL:aB:=⟨0,0,[],[]⟩
def aN:bp:=⟨0,0,[],[]⟩
def bx:cw:=⟨[],0⟩
def kK:aA:=⟨[],[],0,[]⟩
def ax:aq:=⟨0,0⟩
def aU:au:=⟨0,[],[]⟩
def aT:aD:=⟨0,0,[],[]⟩
def gx:dV:=⟨0,0⟩
def cA:aa:=⟨[],[],[],[],0⟩
def aZ:aE:=⟨0,0,0,ax⟩
def iX:az:=⟨cA,0,aZ⟩
def BE:cB:=⟨kK,cA⟩
def EM:iz:=⟨⟩
def HU:gB:=⟨aZ⟩
def BF:fW:=⟨0⟩
def EN:ja:=⟨⟩
def Ww:bZ:=.none
def l8:cj:=⟨0,0,[],[]⟩
def gV:hG:=⟨[],[]⟩
def kJ:jA:=⟨[],[]⟩
def pP:Term:=⟨0,0,[],[],[]⟩
def dG:cE:=⟨[],[],l8,l8,pP⟩
def jx:dQ:=⟨[],[],[]⟩
def za:cU:=⟨kK⟩
def oU:dA:=⟨[],[],[]⟩
def dw:e8:=⟨0,[],0,0⟩
def oT:bE:=⟨[],0,J⟩
def zb:jB:=⟨⟩
def EO:mh:=⟨⟩
def S8:cJ:=.none
def anl:Any:=.none
mutual
def uv:aB->List D
 | .mk x0 x1 x2 x3=>[.lit (.int .i64 x0),.lit (.int .i64 x1),.lit (.string (bI x2)),.sl (l9 x3)]
def l9:List aB->List D
 |[]=>[]
 |y::l=>.agg (uv y)::l9 l
end
def kf:∀l:List aB,l9 l=l.map (λy=>.agg (uv y))
 |[]=>rfl
 |y::l=>by simp only[l9,lI,kf l]
def me(x:bp):List D:=[.lit (.int .i64 x.Op),.lit (.int .i64 x.N),.sl (List.map (λy=>.lit (.int .i64 y)) x.Kids),.sl (l9 x.cu)]
def ux(x:cw):List D:=[.lit (.string (bI x.Name)),.lit (.int .i64 x.o6)]
def Tb(x:aA):List D:=[.sl (List.map (λy=>.agg (me y)) x.aV),.sl (List.map (λy=>.lit (.int .i64 y)) x.dx),.lit (.int .i64 x.Main),.sl (List.map (λy=>.agg (ux y)) x.Cons)]
def zg(x:aq):List D:=[.lit (.int .i64 x.Kind),.lit (.int .i64 x.N)]
def E3(x:au):List D:=[.lit (.int .i64 x.Node),.sl (List.map (λy=>.agg (zg y)) x.Env),.sl (List.map (λy=>.agg (zg y)) x.bH)]
def zi(x:aD):List D:=[.lit (.int .i64 x.Form),.lit (.int .i64 x.N),.sl (List.map (λy=>.agg (zg y)) x.bH),.sl (List.map (λy=>.agg (E3 y)) x.Frames)]
def zh(x:dV):List D:=[.lit (.int .i64 x.Port),.lit (.int .i64 x.N)]
def OR(x:aa):List D:=[.sl (List.map (λy=>.agg (zi y)) x.aW),.sl (List.map (λy=>.lit (.int .i64 y)) x.bf),.sl (List.map (λy=>.agg (zh y)) x.gH),.sl (List.map (λy=>.lit (.int .i64 y)) x.uI),.lit (.int .i64 x.Used)]
def OS(x:aE):List D:=[.lit (.int .i64 x.Task),.lit (.int .i64 x.Do),.lit (.int .i64 x.N),.lit (.int .i64 x.V.Kind),.lit (.int .i64 x.V.N)]
def Ce(x:az):List D:=[.sl (List.map (λy=>.agg (zi y)) x.W.aW),.sl (List.map (λy=>.lit (.int .i64 y)) x.W.bf),.sl (List.map (λy=>.agg (zh y)) x.W.gH),.sl (List.map (λy=>.lit (.int .i64 y)) x.W.uI),.lit (.int .i64 x.W.Used),.lit (.int .i64 x.aam),.lit (.int .i64 x.E.Task),.lit (.int .i64 x.E.Do),.lit (.int .i64 x.E.N),.lit (.int .i64 x.E.V.Kind),.lit (.int .i64 x.E.V.N)]
def MO(x:cB):List D:=[.sl (List.map (λy=>.agg (me y)) x.aA.aV),.sl (List.map (λy=>.lit (.int .i64 y)) x.aA.dx),.lit (.int .i64 x.aA.Main),.sl (List.map (λy=>.agg (ux y)) x.aA.Cons),.sl (List.map (λy=>.agg (zi y)) x.aa.aW),.sl (List.map (λy=>.lit (.int .i64 y)) x.aa.bf),.sl (List.map (λy=>.agg (zh y)) x.aa.gH),.sl (List.map (λy=>.lit (.int .i64 y)) x.aa.uI),.lit (.int .i64 x.aa.Used)]
def EZ(x:iz):List D:=[]
def HZ(x:gB):List D:=[.lit (.int .i64 x.aE.Task),.lit (.int .i64 x.aE.Do),.lit (.int .i64 x.aE.N),.lit (.int .i64 x.aE.V.Kind),.lit (.int .i64 x.aE.V.N)]
def uw(x:fW):List D:=[.lit (.int .i64 x.state)]
def E1(x:ja):List D:=[]
def LR:bZ->Option (TypeId×D)
 | .a0 x=>Z (170,.agg (EZ x))
 | .a1 x=>Z (173,.agg (HZ x))
 | .a2 x=>Z (175,.agg (uw x))
 | .a3 x=>Z (181,.agg (E1 x))
 | .none=>Y
def WD(x:bZ):List D:=[Nu (LR x)]
mutual
def qY:cj->List D
 | .mk x0 x1 x2 x3=>[.lit (.int .i64 x0),.lit (.int .i64 x1),.lit (.string (bI x2)),.sl (kC x3)]
def kC:List cj->List D
 |[]=>[]
 |y::l=>.agg (qY y)::kC l
end
def lC:∀l:List cj,kC l=l.map (λy=>.agg (qY y))
 |[]=>rfl
 |y::l=>by simp only[kC,lI,lC l]
def pS(x:hG):List D:=[.lit (.string (bI x.Name)),.sl (kC x.o6)]
def HY(x:jA):List D:=[.lit (.string (bI x.Name)),.sl (List.map (λy=>.agg (pS y)) x.Cons)]
mutual
def MN:Term->List D
 | .mk x0 x1 x2 x3 x4=>[.lit (.int .i64 x0),.lit (.int .i64 x1),.lit (.string (bI x2)),.sl (ER x3),.sl (l9 x4)]
def ER:List Term->List D
 |[]=>[]
 |y::l=>.agg (MN y)::ER l
end
def xz:∀l:List Term,ER l=l.map (λy=>.agg (MN y))
 |[]=>rfl
 |y::l=>by simp only[ER,lI,xz l]
def pR(x:cE):List D:=[.lit (.string (bI x.Name)),.lit (.string (bI x.Param)),.lit (.int .i64 x.Nf.M9),.lit (.int .i64 x.Nf.N),.lit (.string (bI x.Nf.Text)),.sl (kC x.Nf.BJ),.lit (.int .i64 x.To.M9),.lit (.int .i64 x.To.N),.lit (.string (bI x.To.Text)),.sl (kC x.To.BJ),.lit (.int .i64 x.Body.Op),.lit (.int .i64 x.Body.N),.lit (.string (bI x.Body.Text)),.sl (ER x.Body.Kids),.sl (l9 x.Body.cu)]
def MM(x:dQ):List D:=[.lit (.string (bI x.Name)),.sl (List.map (λy=>.agg (HY y)) x.abg),.sl (List.map (λy=>.agg (pR y)) x.dx)]
def JD(x:cU):List D:=[.sl (List.map (λy=>.agg (me y)) x.aA.aV),.sl (List.map (λy=>.lit (.int .i64 y)) x.aA.dx),.lit (.int .i64 x.aA.Main),.sl (List.map (λy=>.agg (ux y)) x.aA.Cons)]
def xD(x:dA):List D:=[.sl (List.map (λy=>.lit (.string (bI y))) x.xu),.sl (List.map (λy=>.agg (ux y)) x.cons),.sl (List.map (λy=>.agg (me y)) x.nodes)]
def E0(x:e8):List D:=[.lit (.int .i64 x.Kind),.lit (.string (bI x.Text)),.lit (.int .i64 x.N),.lit (.int .i64 x.At)]
def xC(x:bE):List D:=[.sl (List.map (λy=>.agg (E0 y)) x.l_),.lit (.int .i64 x.at_),.lit (.bool x.bad)]
def zf(x:jB):List D:=[]
def E2(x:mh):List D:=[]
def HC:cJ->Option (TypeId×D)
 | .a0 x=>Z (274,.agg (zf x))
 | .a1 x=>Z (297,.lit (.int .i64 x))
 | .a2 x=>Z (298,.agg (E2 x))
 | .none=>Y
def Ta(x:cJ):List D:=[Nu (HC x)]
def afK:Any->Option (TypeId×D)
 | .a0 x=>Z (175,.agg (uw x))
 | .none=>Y
def ann(x:Any):List D:=[Nu (afK x)]
def MJ:Nat->Type
 |0=>aB
 |1=>bp
 |2=>cw
 |3=>aA
 |4=>aq
 |5=>au
 |6=>aD
 |7=>dV
 |8=>aa
 |9=>aE
 |10=>az
 |11=>cB
 |12=>iz
 |13=>gB
 |14=>fW
 |15=>ja
 |16=>bZ
 |17=>cj
 |18=>hG
 |19=>jA
 |20=>Term
 |21=>cE
 |22=>dQ
 |23=>cU
 |24=>dA
 |25=>e8
 |26=>bE
 |27=>jB
 |28=>mh
 |29=>cJ
 |30=>Any
 |_+31=>Unit
def fields:Nat->List Ty
 |0=>[.int .i64,.int .i64,.str,.sl (.st 0)]
 |1=>[.int .i64,.int .i64,.sl (.int .i64),.sl (.st 0)]
 |2=>[.str,.int .i64]
 |3=>[.sl (.st 1),.sl (.int .i64),.int .i64,.sl (.st 2)]
 |4=>[.int .i64,.int .i64]
 |5=>[.int .i64,.sl (.st 4),.sl (.st 4)]
 |6=>[.int .i64,.int .i64,.sl (.st 4),.sl (.st 5)]
 |7=>[.int .i64,.int .i64]
 |8=>[.sl (.st 6),.sl (.int .i64),.sl (.st 7),.sl (.int .i64),.int .i64]
 |9=>[.int .i64,.int .i64,.int .i64,.int .i64,.int .i64]
 |10=>[.sl (.st 6),.sl (.int .i64),.sl (.st 7),.sl (.int .i64),.int .i64,.int .i64,.int .i64,.int .i64,.int .i64,.int .i64,.int .i64]
 |11=>[.sl (.st 1),.sl (.int .i64),.int .i64,.sl (.st 2),.sl (.st 6),.sl (.int .i64),.sl (.st 7),.sl (.int .i64),.int .i64]
 |12=>[]
 |13=>[.int .i64,.int .i64,.int .i64,.int .i64,.int .i64]
 |14=>[.int .i64]
 |15=>[]
 |16=>[.cR 16]
 |17=>[.int .i64,.int .i64,.str,.sl (.st 17)]
 |18=>[.str,.sl (.st 17)]
 |19=>[.str,.sl (.st 18)]
 |20=>[.int .i64,.int .i64,.str,.sl (.st 20),.sl (.st 0)]
 |21=>[.str,.str,.int .i64,.int .i64,.str,.sl (.st 17),.int .i64,.int .i64,.str,.sl (.st 17),.int .i64,.int .i64,.str,.sl (.st 20),.sl (.st 0)]
 |22=>[.str,.sl (.st 19),.sl (.st 21)]
 |23=>[.sl (.st 1),.sl (.int .i64),.int .i64,.sl (.st 2)]
 |24=>[.sl (.str),.sl (.st 2),.sl (.st 1)]
 |25=>[.int .i64,.str,.int .i64,.int .i64]
 |26=>[.sl (.st 25),.int .i64,.bool]
 |27=>[]
 |28=>[]
 |29=>[.cR 29]
 |30=>[.cR 30]
 |_+31=>[]
def dflt:(n:Nat)->MJ n
 |0=>aL
 |1=>aN
 |2=>bx
 |3=>kK
 |4=>ax
 |5=>aU
 |6=>aT
 |7=>gx
 |8=>cA
 |9=>aZ
 |10=>iX
 |11=>BE
 |12=>EM
 |13=>HU
 |14=>BF
 |15=>EN
 |16=>Ww
 |17=>l8
 |18=>gV
 |19=>kJ
 |20=>pP
 |21=>dG
 |22=>jx
 |23=>za
 |24=>oU
 |25=>dw
 |26=>oT
 |27=>zb
 |28=>EO
 |29=>S8
 |30=>anl
 |_+31=>()
def ZB:(n:Nat)->MJ n->lu MJ (fields n)
 |0,x=>(aB.Form x,aB.N x,aB.Text x,aB.BJ x,())
 |1,x=>(bp.Op x,bp.N x,bp.Kids x,bp.cu x,())
 |2,x=>(cw.Name x,cw.o6 x,())
 |3,x=>(aA.aV x,aA.dx x,aA.Main x,aA.Cons x,())
 |4,x=>(aq.Kind x,aq.N x,())
 |5,x=>(au.Node x,au.Env x,au.bH x,())
 |6,x=>(aD.Form x,aD.N x,aD.bH x,aD.Frames x,())
 |7,x=>(dV.Port x,dV.N x,())
 |8,x=>(aa.aW x,aa.bf x,aa.gH x,aa.uI x,aa.Used x,())
 |9,x=>(aE.Task x,aE.Do x,aE.N x,(aE.V x).Kind,(aE.V x).N,())
 |10,x=>((az.W x).aW,(az.W x).bf,(az.W x).gH,(az.W x).uI,(az.W x).Used,az.aam x,(az.E x).Task,(az.E x).Do,(az.E x).N,(az.E x).V.Kind,(az.E x).V.N,())
 |11,x=>((cB.aA x).aV,(cB.aA x).dx,(cB.aA x).Main,(cB.aA x).Cons,(cB.aa x).aW,(cB.aa x).bf,(cB.aa x).gH,(cB.aa x).uI,(cB.aa x).Used,())
 |12,_=>()
 |13,x=>((gB.aE x).Task,(gB.aE x).Do,(gB.aE x).N,(gB.aE x).V.Kind,(gB.aE x).V.N,())
 |14,x=>(fW.state x,())
 |15,_=>()
 |16,x=>(x,())
 |17,x=>(cj.M9 x,cj.N x,cj.Text x,cj.BJ x,())
 |18,x=>(hG.Name x,hG.o6 x,())
 |19,x=>(jA.Name x,jA.Cons x,())
 |20,x=>(Term.Op x,Term.N x,Term.Text x,Term.Kids x,Term.cu x,())
 |21,x=>(cE.Name x,cE.Param x,(cE.Nf x).M9,(cE.Nf x).N,(cE.Nf x).Text,(cE.Nf x).BJ,(cE.To x).M9,(cE.To x).N,(cE.To x).Text,(cE.To x).BJ,(cE.Body x).Op,(cE.Body x).N,(cE.Body x).Text,(cE.Body x).Kids,(cE.Body x).cu,())
 |22,x=>(dQ.Name x,dQ.abg x,dQ.dx x,())
 |23,x=>((cU.aA x).aV,(cU.aA x).dx,(cU.aA x).Main,(cU.aA x).Cons,())
 |24,x=>(dA.xu x,dA.cons x,dA.nodes x,())
 |25,x=>(e8.Kind x,e8.Text x,e8.N x,e8.At x,())
 |26,x=>(bE.l_ x,bE.at_ x,bE.bad x,())
 |27,_=>()
 |28,_=>()
 |29,x=>(x,())
 |30,x=>(x,())
 |_+31,_=>()
def U9:(n:Nat)->lu MJ (fields n)->MJ n
 |0,(x0,x1,x2,x3,())=>(⟨x0,x1,x2,x3⟩:aB)
 |1,(x0,x1,x2,x3,())=>(⟨x0,x1,x2,x3⟩:bp)
 |2,(x0,x1,())=>(⟨x0,x1⟩:cw)
 |3,(x0,x1,x2,x3,())=>(⟨x0,x1,x2,x3⟩:aA)
 |4,(x0,x1,())=>(⟨x0,x1⟩:aq)
 |5,(x0,x1,x2,())=>(⟨x0,x1,x2⟩:au)
 |6,(x0,x1,x2,x3,())=>(⟨x0,x1,x2,x3⟩:aD)
 |7,(x0,x1,())=>(⟨x0,x1⟩:dV)
 |8,(x0,x1,x2,x3,x4,())=>(⟨x0,x1,x2,x3,x4⟩:aa)
 |9,(x0,x1,x2,x3,x4,())=>(⟨x0,x1,x2,⟨x3,x4⟩⟩:aE)
 |10,(x0,x1,x2,x3,x4,x5,x6,x7,x8,x9,x10,())=>(⟨⟨x0,x1,x2,x3,x4⟩,x5,⟨x6,x7,x8,⟨x9,x10⟩⟩⟩:az)
 |11,(x0,x1,x2,x3,x4,x5,x6,x7,x8,())=>(⟨⟨x0,x1,x2,x3⟩,⟨x4,x5,x6,x7,x8⟩⟩:cB)
 |12,_=>(⟨⟩:iz)
 |13,(x0,x1,x2,x3,x4,())=>(⟨⟨x0,x1,x2,⟨x3,x4⟩⟩⟩:gB)
 |14,(x0,())=>(⟨x0⟩:fW)
 |15,_=>(⟨⟩:ja)
 |16,(x,())=>x
 |17,(x0,x1,x2,x3,())=>(⟨x0,x1,x2,x3⟩:cj)
 |18,(x0,x1,())=>(⟨x0,x1⟩:hG)
 |19,(x0,x1,())=>(⟨x0,x1⟩:jA)
 |20,(x0,x1,x2,x3,x4,())=>(⟨x0,x1,x2,x3,x4⟩:Term)
 |21,(x0,x1,x2,x3,x4,x5,x6,x7,x8,x9,x10,x11,x12,x13,x14,())=>(⟨x0,x1,⟨x2,x3,x4,x5⟩,⟨x6,x7,x8,x9⟩,⟨x10,x11,x12,x13,x14⟩⟩:cE)
 |22,(x0,x1,x2,())=>(⟨x0,x1,x2⟩:dQ)
 |23,(x0,x1,x2,x3,())=>(⟨⟨x0,x1,x2,x3⟩⟩:cU)
 |24,(x0,x1,x2,())=>(⟨x0,x1,x2⟩:dA)
 |25,(x0,x1,x2,x3,())=>(⟨x0,x1,x2,x3⟩:e8)
 |26,(x0,x1,x2,())=>(⟨x0,x1,x2⟩:bE)
 |27,_=>(⟨⟩:jB)
 |28,_=>(⟨⟩:mh)
 |29,(x,())=>x
 |30,(x,())=>x
 |_+31,_=>()
def WC:(n:Nat)->MJ n->List D
 |0,x=>uv x
 |1,x=>me x
 |2,x=>ux x
 |3,x=>Tb x
 |4,x=>zg x
 |5,x=>E3 x
 |6,x=>zi x
 |7,x=>zh x
 |8,x=>OR x
 |9,x=>OS x
 |10,x=>Ce x
 |11,x=>MO x
 |12,x=>EZ x
 |13,x=>HZ x
 |14,x=>uw x
 |15,x=>E1 x
 |16,x=>WD x
 |17,x=>qY x
 |18,x=>pS x
 |19,x=>HY x
 |20,x=>MN x
 |21,x=>pR x
 |22,x=>MM x
 |23,x=>JD x
 |24,x=>xD x
 |25,x=>E0 x
 |26,x=>xC x
 |27,x=>zf x
 |28,x=>E2 x
 |29,x=>Ta x
 |30,x=>ann x
 |_+31,_=>[]
def Ic:Nat->List (TypeId×Ty)
 |16=>[(170,.st 12),(173,.st 13),(175,.st 14),(181,.st 15)]
 |29=>[(274,.st 27),(297,.int .i64),(298,.st 28)]
 |30=>[(175,.st 14)]
 |_=>[]
def eN:(n:Nat)->MJ n->vP MJ (Ic n)
 |0,_=>()
 |1,_=>()
 |2,_=>()
 |3,_=>()
 |4,_=>()
 |5,_=>()
 |6,_=>()
 |7,_=>()
 |8,_=>()
 |9,_=>()
 |10,_=>()
 |11,_=>()
 |12,_=>()
 |13,_=>()
 |14,_=>()
 |15,_=>()
 |16,.a0 x=>.inl x
 |16,.a1 x=>.inr (.inl x)
 |16,.a2 x=>.inr (.inr (.inl x))
 |16,.a3 x=>.inr (.inr (.inr (.inl x)))
 |16,.none=>.inr (.inr (.inr (.inr (()))))
 |17,_=>()
 |18,_=>()
 |19,_=>()
 |20,_=>()
 |21,_=>()
 |22,_=>()
 |23,_=>()
 |24,_=>()
 |25,_=>()
 |26,_=>()
 |27,_=>()
 |28,_=>()
 |29,.a0 x=>.inl x
 |29,.a1 x=>.inr (.inl x)
 |29,.a2 x=>.inr (.inr (.inl x))
 |29,.none=>.inr (.inr (.inr (())))
 |30,.a0 x=>.inl x
 |30,.none=>.inr (())
 |_+31,_=>()
def afI:(n:Nat)->vP MJ (Ic n)->MJ n
 |0,_=>aL
 |1,_=>aN
 |2,_=>bx
 |3,_=>kK
 |4,_=>ax
 |5,_=>aU
 |6,_=>aT
 |7,_=>gx
 |8,_=>cA
 |9,_=>aZ
 |10,_=>iX
 |11,_=>BE
 |12,_=>EM
 |13,_=>HU
 |14,_=>BF
 |15,_=>EN
 |16,.inl x=>(bZ.a0 x)
 |16,.inr (.inl x)=>(bZ.a1 x)
 |16,.inr (.inr (.inl x))=>(bZ.a2 x)
 |16,.inr (.inr (.inr (.inl x)))=>(bZ.a3 x)
 |16,.inr (.inr (.inr (.inr (_))))=>bZ.none
 |17,_=>l8
 |18,_=>gV
 |19,_=>kJ
 |20,_=>pP
 |21,_=>dG
 |22,_=>jx
 |23,_=>za
 |24,_=>oU
 |25,_=>dw
 |26,_=>oT
 |27,_=>zb
 |28,_=>EO
 |29,.inl x=>(cJ.a0 x)
 |29,.inr (.inl x)=>(cJ.a1 x)
 |29,.inr (.inr (.inl x))=>(cJ.a2 x)
 |29,.inr (.inr (.inr (_)))=>cJ.none
 |30,.inl x=>(Any.a0 x)
 |30,.inr (_)=>Any.none
 |_+31,_=>()
def VB:(n:Nat)->MJ n->Option (TypeId×D)
 |16,x=>LR x
 |29,x=>HC x
 |30,x=>afK x
 |_,_=>Y
def sg:Sg:=⟨MJ,fields,dflt,ZB,U9,WC,Ic,eN,afI,VB,.cR 30⟩
def ud:(n:Nat)->(h:lu MJ (fields n))->ZB n (U9 n h)=h
 |0,(x0,x1,x2,x3,())=>rfl
 |1,(x0,x1,x2,x3,())=>rfl
 |2,(x0,x1,())=>rfl
 |3,(x0,x1,x2,x3,())=>rfl
 |4,(x0,x1,())=>rfl
 |5,(x0,x1,x2,())=>rfl
 |6,(x0,x1,x2,x3,())=>rfl
 |7,(x0,x1,())=>rfl
 |8,(x0,x1,x2,x3,x4,())=>rfl
 |9,(x0,x1,x2,x3,x4,())=>rfl
 |10,(x0,x1,x2,x3,x4,x5,x6,x7,x8,x9,x10,())=>rfl
 |11,(x0,x1,x2,x3,x4,x5,x6,x7,x8,())=>rfl
 |12,()=>rfl
 |13,(x0,x1,x2,x3,x4,())=>rfl
 |14,(x0,())=>rfl
 |15,()=>rfl
 |16,(x0,())=>rfl
 |17,(x0,x1,x2,x3,())=>rfl
 |18,(x0,x1,())=>rfl
 |19,(x0,x1,())=>rfl
 |20,(x0,x1,x2,x3,x4,())=>rfl
 |21,(x0,x1,x2,x3,x4,x5,x6,x7,x8,x9,x10,x11,x12,x13,x14,())=>rfl
 |22,(x0,x1,x2,())=>rfl
 |23,(x0,x1,x2,x3,())=>rfl
 |24,(x0,x1,x2,())=>rfl
 |25,(x0,x1,x2,x3,())=>rfl
 |26,(x0,x1,x2,())=>rfl
 |27,()=>rfl
 |28,()=>rfl
 |29,(x0,())=>rfl
 |30,(x0,())=>rfl
 |_+31,()=>rfl
def U4:(n:Nat)->(x:MJ n)->U9 n (ZB n x)=x
 |0,⟨x0,x1,x2,x3⟩=>rfl
 |1,⟨x0,x1,x2,x3⟩=>rfl
 |2,⟨x0,x1⟩=>rfl
 |3,⟨x0,x1,x2,x3⟩=>rfl
 |4,⟨x0,x1⟩=>rfl
 |5,⟨x0,x1,x2⟩=>rfl
 |6,⟨x0,x1,x2,x3⟩=>rfl
 |7,⟨x0,x1⟩=>rfl
 |8,⟨x0,x1,x2,x3,x4⟩=>rfl
 |9,⟨x0,x1,x2,⟨x3,x4⟩⟩=>rfl
 |10,⟨⟨x0,x1,x2,x3,x4⟩,x5,⟨x6,x7,x8,⟨x9,x10⟩⟩⟩=>rfl
 |11,⟨⟨x0,x1,x2,x3⟩,⟨x4,x5,x6,x7,x8⟩⟩=>rfl
 |12,.mk=>rfl
 |13,⟨⟨x0,x1,x2,⟨x3,x4⟩⟩⟩=>rfl
 |14,⟨x0⟩=>rfl
 |15,.mk=>rfl
 |16,_=>rfl
 |17,⟨x0,x1,x2,x3⟩=>rfl
 |18,⟨x0,x1⟩=>rfl
 |19,⟨x0,x1⟩=>rfl
 |20,⟨x0,x1,x2,x3,x4⟩=>rfl
 |21,⟨x0,x1,⟨x2,x3,x4,x5⟩,⟨x6,x7,x8,x9⟩,⟨x10,x11,x12,x13,x14⟩⟩=>rfl
 |22,⟨x0,x1,x2⟩=>rfl
 |23,⟨⟨x0,x1,x2,x3⟩⟩=>rfl
 |24,⟨x0,x1,x2⟩=>rfl
 |25,⟨x0,x1,x2,x3⟩=>rfl
 |26,⟨x0,x1,x2⟩=>rfl
 |27,.mk=>rfl
 |28,.mk=>rfl
 |29,_=>rfl
 |30,_=>rfl
 |_+31,()=>rfl
def WB:(n:Nat)->(x:MJ n)->WC n x=gq sg (fields n) (ZB n x)
 |0,.mk x0 x1 x2 x3=>by show uv _=_;simp only[uv,kf];rfl
 |1,x=>by show me x=_;simp only[me,kf];rfl
 |2,_=>rfl
 |3,_=>rfl
 |4,_=>rfl
 |5,_=>rfl
 |6,_=>rfl
 |7,_=>rfl
 |8,_=>rfl
 |9,_=>rfl
 |10,_=>rfl
 |11,_=>rfl
 |12,_=>rfl
 |13,_=>rfl
 |14,_=>rfl
 |15,_=>rfl
 |16,_=>rfl
 |17,.mk x0 x1 x2 x3=>by show qY _=_;simp only[qY,lC];rfl
 |18,x=>by show pS x=_;simp only[pS,lC];rfl
 |19,_=>rfl
 |20,.mk x0 x1 x2 x3 x4=>by show MN _=_;simp only[MN,xz,kf];rfl
 |21,x=>by show pR x=_;simp only[pR,xz,kf,lC];rfl
 |22,_=>rfl
 |23,_=>rfl
 |24,_=>rfl
 |25,_=>rfl
 |26,_=>rfl
 |27,_=>rfl
 |28,_=>rfl
 |29,_=>rfl
 |30,_=>rfl
 |_+31,()=>rfl
def YL:(n:Nat)->∀t∈fields n,jk t=J
 |0=>λt h=>cS (l:=fields 0) rfl t h
 |1=>λt h=>cS (l:=fields 1) rfl t h
 |2=>λt h=>cS (l:=fields 2) rfl t h
 |3=>λt h=>cS (l:=fields 3) rfl t h
 |4=>λt h=>cS (l:=fields 4) rfl t h
 |5=>λt h=>cS (l:=fields 5) rfl t h
 |6=>λt h=>cS (l:=fields 6) rfl t h
 |7=>λt h=>cS (l:=fields 7) rfl t h
 |8=>λt h=>cS (l:=fields 8) rfl t h
 |9=>λt h=>cS (l:=fields 9) rfl t h
 |10=>λt h=>cS (l:=fields 10) rfl t h
 |11=>λt h=>cS (l:=fields 11) rfl t h
 |12=>λt h=>cS (l:=fields 12) rfl t h
 |13=>λt h=>cS (l:=fields 13) rfl t h
 |14=>λt h=>cS (l:=fields 14) rfl t h
 |15=>λt h=>cS (l:=fields 15) rfl t h
 |16=>λt h=>cS (l:=fields 16) rfl t h
 |17=>λt h=>cS (l:=fields 17) rfl t h
 |18=>λt h=>cS (l:=fields 18) rfl t h
 |19=>λt h=>cS (l:=fields 19) rfl t h
 |20=>λt h=>cS (l:=fields 20) rfl t h
 |21=>λt h=>cS (l:=fields 21) rfl t h
 |22=>λt h=>cS (l:=fields 22) rfl t h
 |23=>λt h=>cS (l:=fields 23) rfl t h
 |24=>λt h=>cS (l:=fields 24) rfl t h
 |25=>λt h=>cS (l:=fields 25) rfl t h
 |26=>λt h=>cS (l:=fields 26) rfl t h
 |27=>λt h=>cS (l:=fields 27) rfl t h
 |28=>λt h=>cS (l:=fields 28) rfl t h
 |29=>λt h=>cS (l:=fields 29) rfl t h
 |30=>λt h=>cS (l:=fields 30) rfl t h
 |_+31=>λ_ h=>by cases h
def Cz:(n:Nat)->(h:vP MJ (Ic n))->eN n (afI n h)=h
 |0,()=>rfl
 |1,()=>rfl
 |2,()=>rfl
 |3,()=>rfl
 |4,()=>rfl
 |5,()=>rfl
 |6,()=>rfl
 |7,()=>rfl
 |8,()=>rfl
 |9,()=>rfl
 |10,()=>rfl
 |11,()=>rfl
 |12,()=>rfl
 |13,()=>rfl
 |14,()=>rfl
 |15,()=>rfl
 |16,.inl x=>rfl
 |16,.inr (.inl x)=>rfl
 |16,.inr (.inr (.inl x))=>rfl
 |16,.inr (.inr (.inr (.inl x)))=>rfl
 |16,.inr (.inr (.inr (.inr (()))))=>rfl
 |17,()=>rfl
 |18,()=>rfl
 |19,()=>rfl
 |20,()=>rfl
 |21,()=>rfl
 |22,()=>rfl
 |23,()=>rfl
 |24,()=>rfl
 |25,()=>rfl
 |26,()=>rfl
 |27,()=>rfl
 |28,()=>rfl
 |29,.inl x=>rfl
 |29,.inr (.inl x)=>rfl
 |29,.inr (.inr (.inl x))=>rfl
 |29,.inr (.inr (.inr (())))=>rfl
 |30,.inl x=>rfl
 |30,.inr (())=>rfl
 |_+31,()=>rfl
def VA:(n:Nat)->(x:MJ n)->VB n x=sn sg (Ic n) (eN n x)
 |0,_=>rfl
 |1,_=>rfl
 |2,_=>rfl
 |3,_=>rfl
 |4,_=>rfl
 |5,_=>rfl
 |6,_=>rfl
 |7,_=>rfl
 |8,_=>rfl
 |9,_=>rfl
 |10,_=>rfl
 |11,_=>rfl
 |12,_=>rfl
 |13,_=>rfl
 |14,_=>rfl
 |15,_=>rfl
 |16,x=>by cases x<;>rfl
 |17,_=>rfl
 |18,_=>rfl
 |19,_=>rfl
 |20,_=>rfl
 |21,_=>rfl
 |22,_=>rfl
 |23,_=>rfl
 |24,_=>rfl
 |25,_=>rfl
 |26,_=>rfl
 |27,_=>rfl
 |28,_=>rfl
 |29,x=>by cases x<;>rfl
 |30,x=>by cases x<;>rfl
 |_+31,()=>rfl
def Z8:(n:Nat)->MY (Ic n)=W
 |0=>rfl
 |1=>rfl
 |2=>rfl
 |3=>rfl
 |4=>rfl
 |5=>rfl
 |6=>rfl
 |7=>rfl
 |8=>rfl
 |9=>rfl
 |10=>rfl
 |11=>rfl
 |12=>rfl
 |13=>rfl
 |14=>rfl
 |15=>rfl
 |16=>rfl
 |17=>rfl
 |18=>rfl
 |19=>rfl
 |20=>rfl
 |21=>rfl
 |22=>rfl
 |23=>rfl
 |24=>rfl
 |25=>rfl
 |26=>rfl
 |27=>rfl
 |28=>rfl
 |29=>rfl
 |30=>rfl
 |_+31=>rfl
def aav:fh sg:=⟨ud,U4,WB,YL,Cz,VA,Z8⟩
noncomputable def NB:Tr (TI):=(n0 (cH (n1 ⟨1,J,[aS],[],.leaf (.int .i64)⟩ (n1 ⟨4,W,[aS,aS,.lit (.bool J),.lit (.int .u8 0)],[.int .i64,.int .i64,.bool,.int .u8],pE⟩ (n1 ⟨1,J,[ko],[],.ptr⟩ (n1 ⟨5,W,[.sl [],.sl [],.sl [],.sl [],aS],[],PU⟩ (cH (cH bR e0) (cH bR e0)) (n1 ⟨1,J,[.sl []],[],.slice 2 W 16 [aS,aS]⟩ (n1 ⟨1,J,[.lit (.map Y)],[],.other⟩ bR e0) bR)) (cH (cH (cH (bu ⟨1,J,[.lit .nilIface],[],.iface⟩) e0) bR) (cH (n1 ⟨1,W,[aS],[.int .i64],T4⟩ bR e0) bR))) (n1 ⟨1,J,[.sl []],[],.slice 1 J 8 [aS]⟩ (cH (cH (cH bR e0) (cH bR e0)) (n1 ⟨9,W,[.sl [],.sl [],aS,.sl [],.sl [],.sl [],.sl [],.sl [],aS],[],.struct [(0,4,W),(4,5,W)]⟩ (cH bR e0) bR)) (n1 ⟨2,W,[aS,aS],[.int .i64,.int .i64],v5⟩ (n1 ⟨1,J,[aS],[],.leaf (.int .i64)⟩ (cH bR e0) (n1 ⟨5,W,[aS,aS,dn,.sl [],.sl []],[],PU⟩ bR e0)) (cH (cH bR e0) e0)))) (n0 (n0 (cH (cH (cH bR e0) (cH bR e0)) (n1 ⟨4,W,[aS,aS,.sl [],.sl []],[],pE⟩ (cH bR e0) bR)) (n1 ⟨2,W,[aS,aS],[.int .i64,.int .i64],v5⟩ (n1 ⟨1,J,[.sl []],[],.slice 4 W 56 [aS,aS,dn,.sl []]⟩ (n1 ⟨4,W,[.sl [],.sl [],aS,.sl []],[],.struct [(0,4,W)]⟩ bR e0) (n1 ⟨4,W,[aS,aS,dn,.sl []],[],pE⟩ bR e0)) (cH (n1 ⟨11,W,[ko,aS,.sl [],aS,.sl [],.sl [],aS,aS,.sl [],.sl [],.sl []],[],.struct [(0,1,J),(1,1,J),(2,1,J),(3,3,W),(6,4,W),(10,1,J)]⟩ bR e0) bR))) (cH (n1 ⟨1,J,[.sl []],[],.slice 5 W 40 [aS,aS,aS,aS,aS]⟩ (n1 ⟨11,W,[.sl [],.sl [],.sl [],.sl [],aS,aS,aS,aS,aS,aS,aS],[],.struct [(0,5,W),(5,1,J),(6,5,W)]⟩ (n1 ⟨1,J,[.sl []],[],.slice 15 W 224 [dn,dn,aS,aS,dn,.sl [],aS,aS,dn,.sl [],aS,aS,dn,.sl [],.sl []]⟩ bR e0) (cH bR e0)) (cH (cH bR e0) bR)) (cH (cH (cH bR e0) bR) (cH (cH bR e0) bR))))) (n1 ⟨1,J,[.lit (.int .u8 0)],[],.leaf (.int .u8)⟩ (n1 ⟨1,J,[dn],[],.leaf .str⟩ (n1 ⟨1,J,[ko],[],.ptr⟩ (n1 ⟨1,J,[aS],[],.leaf (.int .i64)⟩ (cH (cH (bu ⟨2,W,[dn,.sl []],[],v5⟩) e0) (cH bR e0)) (n1 ⟨3,W,[aS,.sl [],.sl []],[],A6⟩ (cH bR e0) bR)) (n1 ⟨1,J,[aS],[],.leaf (.int .i64)⟩ (n1 ⟨2,W,[dn,aS],[.str,.int .i64],v5⟩ (cH bR e0) (n1 ⟨1,J,[aS],[],.leaf (.int .i64)⟩ (bu ⟨0,W,[],[],.struct [(0,0,W)]⟩) e0)) (cH (n1 ⟨1,J,[ko],[],.ptr⟩ bR e0) bR))) (n1 ⟨4,W,[.sl [],.sl [],aS,.sl []],[],pE⟩ (cH (cH (cH (bu ⟨2,W,[dn,.sl []],[],v5⟩) e0) (n1 ⟨1,J,[ko],[],.ptr⟩ bR e0)) (n0 (n1 ⟨0,W,[],[],.struct []⟩ (bu ⟨1,J,[aS],[],.leaf (.int .i64)⟩) e0) bR)) (cH (n1 ⟨4,W,[aS,aS,dn,.sl []],[],pE⟩ (n1 ⟨1,J,[.sl []],[],.slice 1 J 16 [dn]⟩ (bu ⟨1,J,[.lit (.map Y)],[],.other⟩) e0) (bu ⟨15,W,[dn,dn,aS,aS,dn,.sl [],aS,aS,dn,.sl [],aS,aS,dn,.sl [],.sl []],[],.struct [(0,1,J),(1,1,J),(2,4,W),(6,4,W),(10,5,W)]⟩)) (cH (cH bR e0) (bu ⟨3,W,[.sl [],aS,.lit (.bool J)],[],A6⟩))))) (n0 (n1 ⟨1,J,[.lit (.int .i32 0)],[],.leaf (.int .i32)⟩ (cH (cH (cH bR e0) (n0 bR e0)) (n1 ⟨1,J,[ko],[],.ptr⟩ (cH bR e0) bR)) (n1 ⟨5,W,[aS,aS,aS,aS,aS],[.int .i64,.int .i64,.int .i64,.int .i64,.int .i64],.struct [(0,1,J),(1,1,J),(2,1,J),(3,2,W)]⟩ (n1 ⟨4,W,[aS,aS,.sl [],.sl []],[],pE⟩ (cH bR e0) (bu ⟨1,J,[.sl []],[],.slice 5 W 80 [aS,aS,dn,.sl [],.sl []]⟩)) (cH (bu ⟨0,W,[],[],.struct []⟩) bR))) (n1 ⟨1,J,[.sl []],[],.slice 4 W 64 [aS,aS,.sl [],.sl []]⟩ (cH (cH (n1 ⟨3,W,[dn,.sl [],.sl []],[],A6⟩ bR e0) (n1 ⟨3,W,[.sl [],.sl [],.sl []],[],A6⟩ bR e0)) (cH (n1 ⟨5,W,[aS,aS,aS,aS,aS],[.int .i64,.int .i64,.int .i64,.int .i64,.int .i64],.struct [(0,5,W)]⟩ bR e0) bR)) (cH (n1 ⟨1,J,[aS],[],.leaf (.int .i64)⟩ (cH bR e0) bR) (n1 ⟨1,J,[.lit .nilIface],[],.iface⟩ (cH bR e0) (bu ⟨4,W,[aS,dn,aS,aS],[.int .i64,.str,.int .i64,.int .i64],pE⟩))))))) (n1 ⟨1,J,[aS],[],.leaf (.int .i64)⟩ (n1 ⟨1,J,[.lit (.bool J)],[],.leaf .bool⟩ (n0 (n1 ⟨1,J,[ko],[],.ptr⟩ (n1 ⟨5,W,[.sl [],.sl [],.sl [],.sl [],aS],[],PU⟩ (n0 (cH (bu ⟨1,J,[.sl []],[],.slice 2 W 40 [dn,.sl []]⟩) e0) (cH bR e0)) (n1 ⟨3,W,[aS,.sl [],.sl []],[],A6⟩ (cH bR e0) bR)) (n1 ⟨1,J,[aS],[],.leaf (.int .i64)⟩ (cH (n0 (bu ⟨1,J,[.lit .nilIface],[],.iface⟩) e0) (cH (bu ⟨0,W,[],[],.array 0 1 J⟩) e0)) (cH (n0 bR e0) e0))) (n1 ⟨1,J,[.sl []],[],.slice 2 W 24 [dn,aS]⟩ (cH (n0 (cH (bu ⟨2,W,[dn,.sl []],[],v5⟩) e0) (cH bR e0)) (n1 ⟨9,W,[.sl [],.sl [],aS,.sl [],.sl [],.sl [],.sl [],.sl [],aS],[],.struct [(0,4,W),(4,5,W)]⟩ (cH bR e0) bR)) (cH (n1 ⟨4,W,[aS,aS,dn,.sl []],[],pE⟩ (cH bR e0) (n1 ⟨15,W,[dn,dn,aS,aS,dn,.sl [],aS,aS,dn,.sl [],aS,aS,dn,.sl [],.sl []],[],.struct [(0,1,J),(1,1,J),(2,4,W),(6,4,W),(10,5,W)]⟩ (bu ⟨1,J,[ko],[],.ptr⟩) e0)) (cH (cH (bu ⟨1,J,[ko],[],.ptr⟩) e0) bR)))) (n1 ⟨1,J,[.lit (.int .u64 0)],[],.leaf (.int .u64)⟩ (n1 ⟨1,J,[.lit .nilIface],[],.iface⟩ (cH (cH (cH bR e0) (n1 ⟨1,J,[ko],[],.ptr⟩ bR e0)) (n1 ⟨4,W,[aS,aS,.sl [],.sl []],[],pE⟩ (cH bR e0) bR)) (n1 ⟨5,W,[aS,aS,aS,aS,aS],[.int .i64,.int .i64,.int .i64,.int .i64,.int .i64],.struct [(0,1,J),(1,1,J),(2,1,J),(3,2,W)]⟩ (n1 ⟨4,W,[aS,aS,.sl [],.sl []],[],pE⟩ (cH bR e0) (n1 ⟨4,W,[aS,aS,dn,.sl []],[],pE⟩ (bu ⟨1,J,[.lit (.int .u32 0)],[],.leaf (.int .u32)⟩) e0)) (n0 (cH bR e0) e0))) (cH (n0 (n1 ⟨11,W,[.sl [],.sl [],.sl [],.sl [],aS,aS,aS,aS,aS,aS,aS],[],.struct [(0,5,W),(5,1,J),(6,5,W)]⟩ (n1 ⟨3,W,[dn,.sl [],.sl []],[],A6⟩ bR e0) (n1 ⟨3,W,[.sl [],.sl [],.sl []],[],A6⟩ bR e0)) (cH (n1 ⟨5,W,[aS,aS,aS,aS,aS],[.int .i64,.int .i64,.int .i64,.int .i64,.int .i64],.struct [(0,5,W)]⟩ bR e0) bR)) (cH (cH (cH bR e0) bR) (cH (cH bR e0) (bu ⟨1,J,[aS],[],.leaf (.int .i64)⟩)))))) (n0 (n0 (n1 ⟨1,W,[ko],[],T4⟩ (n0 (n0 (cH (bu ⟨2,W,[dn,.sl []],[],v5⟩) e0) (cH bR e0)) (n1 ⟨1,J,[.sl []],[],.slice 3 W 56 [aS,.sl [],.sl []]⟩ (cH bR e0) bR)) (n1 ⟨2,W,[aS,aS],[.int .i64,.int .i64],v5⟩ (n1 ⟨2,W,[dn,aS],[.str,.int .i64],v5⟩ (n1 ⟨4,W,[.sl [],.sl [],aS,.sl []],[],.struct [(0,4,W)]⟩ (bu ⟨0,W,[],[],.struct []⟩) e0) (bu ⟨1,J,[.sl []],[],.slice 4 W 56 [aS,aS,dn,.sl []]⟩)) (n0 (n1 ⟨11,W,[ko,aS,.sl [],aS,.sl [],.sl [],aS,aS,.sl [],.sl [],.sl []],[],.struct [(0,1,J),(1,1,J),(2,1,J),(3,3,W),(6,4,W),(10,1,J)]⟩ bR e0) e0))) (n1 ⟨4,W,[.sl [],.sl [],aS,.sl []],[],pE⟩ (cH (cH (n1 ⟨1,J,[.sl []],[],.slice 2 W 40 [dn,.sl []]⟩ bR e0) bR) (cH (n1 ⟨0,W,[],[],.struct []⟩ (bu ⟨0,W,[],[],.struct []⟩) e0) bR)) (cH (cH (cH bR e0) bR) (cH (cH bR e0) (bu ⟨3,W,[.sl [],aS,.lit (.bool J)],[],A6⟩))))) (n0 (n1 ⟨1,J,[.sl []],[],.slice 4 W 64 [aS,aS,.sl [],.sl []]⟩ (n0 (n0 (cH bR e0) (cH bR e0)) (cH (cH bR e0) bR)) (n1 ⟨2,W,[aS,aS],[.int .i64,.int .i64],v5⟩ (cH (cH bR e0) (bu ⟨5,W,[aS,aS,dn,.sl [],.sl []],[],PU⟩)) (cH (cH bR e0) (bu ⟨1,J,[.sl []],[],.slice 4 W 40 [aS,dn,aS,aS]⟩)))) (n1 ⟨1,J,[.sl []],[],.slice 2 W 16 [aS,aS]⟩ (cH (n0 (n0 (bu ⟨1,J,[.lit (.map Y)],[],.other⟩) e0) (cH (bu ⟨4,W,[ko,ko,ko,dn],[],pE⟩) e0)) (n1 ⟨1,J,[.sl []],[],.slice 1 J 1 [.lit (.bool J)]⟩ (n1 ⟨1,W,[aS],[.int .i64],T4⟩ bR e0) (bu ⟨29,W,[eT,eT,eT,eT,eT,eT,eT,eT,eT,eT,eT,eT,eT,eT,eT,eT,eT,eT,eT,eT,eT,eT,eT,eT,eT,eT,eT,eT,eT],[],.array 29 1 J⟩))) (n0 (cH bR bR) (n1 ⟨1,J,[.lit .nilIface],[],.iface⟩ (cH bR e0) (bu ⟨4,W,[aS,dn,aS,aS],[.int .i64,.str,.int .i64,.int .i64],pE⟩))))))))
noncomputable def Rl:Tr (Ty):=(n0 (n0 (n1 (.int .i64) (n0 (n0 (n0 e0 (bu (.sl (.st 4)))) (n0 e0 (n0 (bu (.st 14)) e0))) (n1 (.sl (.int .i64)) e0 (n1 (.st 7) (n1 (.int .i64) e0 (bu (.st 20))) e0))) (n0 (n0 e0 (n1 (.st 4) (n1 (.sl (.st 0)) (bu (.st 23)) e0) e0)) (n0 (n1 (.sl (.st 9)) (n0 (bu (.sl (.st 21))) e0) e0) e0))) (n1 (.int .u8) (n1 (.str) (n0 (n1 (.int .i64) e0 (bu (.st 5))) (n1 (.int .i64) (n0 e0 (bu (.int .i64))) e0)) (n0 (n0 (n0 (n0 (bu (.st 18)) e0) e0) (n0 (n0 (bu (.int .i64)) e0) e0)) (n0 (n1 (.st 0) (bu (.sl (.str))) (bu (.st 21))) e0))) (n0 (n1 (.int .i32) e0 (n1 (.st 9) (n1 (.st 1) e0 (bu (.sl (.st 20)))) (n0 (bu (.st 15)) e0))) (n1 (.sl (.st 6)) (n0 (n0 (bu (.st 22)) (bu (.st 24))) (n0 (bu (.st 13)) e0)) (n0 (bu (.int .i64)) e0))))) (n1 (.int .i64) (n1 (.bool) (n0 (n0 (n1 (.st 8) (n0 (n0 (bu (.sl (.st 18))) e0) e0) e0) (n1 (.int .i64) (n0 (n0 (bu (.cR 29)) e0) e0) e0)) (n1 (.sl (.st 2)) (n0 e0 (bu (.st 11))) e0)) (n1 (.int .u64) (n1 (.cR 30) (n0 e0 (bu (.st 6))) (n0 (n0 e0 (n1 (.st 17) (bu (.int .u32)) e0)) e0)) (n0 (n0 (bu (.st 10)) e0) (n0 e0 (n0 e0 (bu (.int .i64))))))) (n0 (n0 (n0 (n0 (n0 (n0 (bu (.st 19)) e0) e0) (bu (.sl (.st 5)))) (n0 (n1 (.st 2) (n0 (bu (.st 27)) e0) (bu (.sl (.st 17)))) e0)) (n1 (.st 3) (n0 (n0 (bu (.sl (.st 19))) e0) (n0 (n1 (.st 12) (bu (.st 28)) e0) e0)) (n0 e0 (n0 e0 (bu (.st 26)))))) (n0 (n1 (.sl (.st 1)) e0 (n0 e0 (n0 e0 (bu (.sl (.st 25)))))) (n1 (.sl (.st 7)) (n0 e0 (bu (.sl (.bool)))) (n0 e0 (n1 (.cR 16) e0 (bu (.st 25)))))))))
noncomputable def XT:Tr (MT):=(n0 (n0 (n0 (n0 (n0 (n0 e0 (n0 (bu ⟨.int .i64,Z (.int .i64),3⟩) e0)) e0) e0) e0) (n0 (n0 e0 (n0 e0 (n0 (n0 (n0 (bu ⟨.int .i64,Z (.bool),4⟩) e0) e0) e0))) e0)) (n0 e0 (n0 e0 (n0 e0 (n0 (n0 (n0 (n0 (bu ⟨.str,Z (.bool),4⟩) e0) e0) e0) e0)))))
noncomputable def tS:Tr (List (String×FuncId)):=(n0 (n0 (n0 (n0 (n1 [("Error",328),("RuntimeError",329)] e0 (n0 e0 (n0 (n1 [("hearth/mean.event",114)] e0 e0) e0))) e0) (n1 [("Error",324),("RuntimeError",325)] (n1 [("Error",333),("RuntimeError",334)] e0 (n0 (n0 (n1 [("hearth/bind.formed",87),("hearth/bind.node",153),("hearth/bind.number",204),("hearth/bind.pat",203)] e0 e0) e0) e0)) e0)) (n0 (n0 (n1 [("Align",332)] e0 e0) (n0 (n0 (n0 e0 (n1 [("hearth/hearthref05.known",143),("hearth/hearthref05.knownPat",191),("hearth/hearthref05.pattern",194),("hearth/hearthref05.put",145)] e0 e0)) (n0 (n0 (n1 [("hearth/bind.fine",339)] e0 e0) e0) e0)) e0)) (n0 (n0 (n0 e0 (n1 [("hearth/mean.copied",51),("hearth/mean.finish",111),("hearth/mean.frame",266),("hearth/mean.frames",212),("hearth/mean.next",110),("hearth/mean.object",163),("hearth/mean.open",267),("hearth/mean.ordered",60),("hearth/mean.ready",68),("hearth/mean.settle",50),("hearth/mean.step",70),("hearth/mean.task",213),("hearth/mean.tasks",164),("hearth/mean.turn",59),("hearth/mean.value",211),("hearth/mean.world",99)] e0 e0)) (n0 e0 (n0 (n1 [("hearth/mean.event",337)] e0 e0) e0))) (n0 (n0 e0 (n0 (n1 [("hearth/mean.event",336)] e0 e0) e0)) e0)))) (n0 (n0 (n1 [("Error",320),("RuntimeError",321)] (n1 [("Error",330),("RuntimeError",331)] e0 e0) e0) (n0 (n0 (n0 (n0 e0 (n1 [("hearth/hearthref02.applied",312),("hearth/hearthref02.atom",313),("hearth/hearthref02.begins",314),("hearth/hearthref02.call",317),("hearth/hearthref02.cases",316),("hearth/hearthref02.data",183),("hearth/hearthref02.function",184),("hearth/hearthref02.has",182),("hearth/hearthref02.is",246),("hearth/hearthref02.kind",248),("hearth/hearthref02.module",136),("hearth/hearthref02.of",306),("hearth/hearthref02.pat",319),("hearth/hearthref02.product",307),("hearth/hearthref02.sees",247),("hearth/hearthref02.simple",286),("hearth/hearthref02.sum",288),("hearth/hearthref02.take",181),("hearth/hearthref02.term",249),("hearth/hearthref02.terms",315),("hearth/hearthref02.under",287),("hearth/hearthref02.want",180),("hearth/hearthref02.whole",137)] e0 e0)) e0) e0) e0)) (n0 (n1 [("Error",322),("RuntimeError",323)] (n0 e0 (n0 (n0 (n0 (n1 [("hearth/bind.fine",338)] e0 e0) e0) e0) e0)) (n0 (n0 e0 (n0 (n1 [("hearth/mean.event",335)] (n1 [("hearth/bind.fine",340)] e0 e0) e0) e0)) e0)) (n1 [("Error",326),("RuntimeError",327)] (n0 e0 (n0 (n0 e0 (n0 (n1 [("String",341)] e0 e0) e0)) e0)) e0))))
noncomputable def qU:Tr (Func):=(n1 f0 (n1 f1 (n1 f3 (n1 f7 (n1 f15 (n1 f31 (n1 f63 (n1 f127 (bu f255) e0) (n1 f191 (bu f319) e0)) (n1 f95 (n1 f159 (bu f287) e0) (bu f223))) (n1 f47 (n1 f79 (n1 f143 (bu f271) e0) (n1 f207 (bu f335) e0)) (n1 f111 (n1 f175 (bu f303) e0) (bu f239)))) (n1 f23 (n1 f39 (n1 f71 (n1 f135 (bu f263) e0) (n1 f199 (bu f327) e0)) (n1 f103 (n1 f167 (bu f295) e0) (bu f231))) (n1 f55 (n1 f87 (n1 f151 (bu f279) e0) (bu f215)) (n1 f119 (n1 f183 (bu f311) e0) (bu f247))))) (n1 f11 (n1 f19 (n1 f35 (n1 f67 (n1 f131 (bu f259) e0) (n1 f195 (bu f323) e0)) (n1 f99 (n1 f163 (bu f291) e0) (bu f227))) (n1 f51 (n1 f83 (n1 f147 (bu f275) e0) (n1 f211 (bu f339) e0)) (n1 f115 (n1 f179 (bu f307) e0) (bu f243)))) (n1 f27 (n1 f43 (n1 f75 (n1 f139 (bu f267) e0) (n1 f203 (bu f331) e0)) (n1 f107 (n1 f171 (bu f299) e0) (bu f235))) (n1 f59 (n1 f91 (n1 f155 (bu f283) e0) (bu f219)) (n1 f123 (n1 f187 (bu f315) e0) (bu f251)))))) (n1 f5 (n1 f9 (n1 f17 (n1 f33 (n1 f65 (n1 f129 (bu f257) e0) (n1 f193 (bu f321) e0)) (n1 f97 (n1 f161 (bu f289) e0) (bu f225))) (n1 f49 (n1 f81 (n1 f145 (bu f273) e0) (n1 f209 (bu f337) e0)) (n1 f113 (n1 f177 (bu f305) e0) (bu f241)))) (n1 f25 (n1 f41 (n1 f73 (n1 f137 (bu f265) e0) (n1 f201 (bu f329) e0)) (n1 f105 (n1 f169 (bu f297) e0) (bu f233))) (n1 f57 (n1 f89 (n1 f153 (bu f281) e0) (bu f217)) (n1 f121 (n1 f185 (bu f313) e0) (bu f249))))) (n1 f13 (n1 f21 (n1 f37 (n1 f69 (n1 f133 (bu f261) e0) (n1 f197 (bu f325) e0)) (n1 f101 (n1 f165 (bu f293) e0) (bu f229))) (n1 f53 (n1 f85 (n1 f149 (bu f277) e0) (n1 f213 (bu f341) e0)) (n1 f117 (n1 f181 (bu f309) e0) (bu f245)))) (n1 f29 (n1 f45 (n1 f77 (n1 f141 (bu f269) e0) (n1 f205 (bu f333) e0)) (n1 f109 (n1 f173 (bu f301) e0) (bu f237))) (n1 f61 (n1 f93 (n1 f157 (bu f285) e0) (bu f221)) (n1 f125 (n1 f189 (bu f317) e0) (bu f253))))))) (n1 f2 (n1 f4 (n1 f8 (n1 f16 (n1 f32 (n1 f64 (n1 f128 (bu f256) e0) (n1 f192 (bu f320) e0)) (n1 f96 (n1 f160 (bu f288) e0) (bu f224))) (n1 f48 (n1 f80 (n1 f144 (bu f272) e0) (n1 f208 (bu f336) e0)) (n1 f112 (n1 f176 (bu f304) e0) (bu f240)))) (n1 f24 (n1 f40 (n1 f72 (n1 f136 (bu f264) e0) (n1 f200 (bu f328) e0)) (n1 f104 (n1 f168 (bu f296) e0) (bu f232))) (n1 f56 (n1 f88 (n1 f152 (bu f280) e0) (bu f216)) (n1 f120 (n1 f184 (bu f312) e0) (bu f248))))) (n1 f12 (n1 f20 (n1 f36 (n1 f68 (n1 f132 (bu f260) e0) (n1 f196 (bu f324) e0)) (n1 f100 (n1 f164 (bu f292) e0) (bu f228))) (n1 f52 (n1 f84 (n1 f148 (bu f276) e0) (n1 f212 (bu f340) e0)) (n1 f116 (n1 f180 (bu f308) e0) (bu f244)))) (n1 f28 (n1 f44 (n1 f76 (n1 f140 (bu f268) e0) (n1 f204 (bu f332) e0)) (n1 f108 (n1 f172 (bu f300) e0) (bu f236))) (n1 f60 (n1 f92 (n1 f156 (bu f284) e0) (bu f220)) (n1 f124 (n1 f188 (bu f316) e0) (bu f252)))))) (n1 f6 (n1 f10 (n1 f18 (n1 f34 (n1 f66 (n1 f130 (bu f258) e0) (n1 f194 (bu f322) e0)) (n1 f98 (n1 f162 (bu f290) e0) (bu f226))) (n1 f50 (n1 f82 (n1 f146 (bu f274) e0) (n1 f210 (bu f338) e0)) (n1 f114 (n1 f178 (bu f306) e0) (bu f242)))) (n1 f26 (n1 f42 (n1 f74 (n1 f138 (bu f266) e0) (n1 f202 (bu f330) e0)) (n1 f106 (n1 f170 (bu f298) e0) (bu f234))) (n1 f58 (n1 f90 (n1 f154 (bu f282) e0) (bu f218)) (n1 f122 (n1 f186 (bu f314) e0) (bu f250))))) (n1 f14 (n1 f22 (n1 f38 (n1 f70 (n1 f134 (bu f262) e0) (n1 f198 (bu f326) e0)) (n1 f102 (n1 f166 (bu f294) e0) (bu f230))) (n1 f54 (n1 f86 (n1 f150 (bu f278) e0) (bu f214)) (n1 f118 (n1 f182 (bu f310) e0) (bu f246)))) (n1 f30 (n1 f46 (n1 f78 (n1 f142 (bu f270) e0) (n1 f206 (bu f334) e0)) (n1 f110 (n1 f174 (bu f302) e0) (bu f238))) (n1 f62 (n1 f94 (n1 f158 (bu f286) e0) (bu f222)) (n1 f126 (n1 f190 (bu f318) e0) (bu f254))))))))
noncomputable def prog:Program:=Go.Proofs.Tryz.prog
noncomputable def OE:gA:=mkE prog NB Rl XT tS qU λn=>bif Nat.beq n 1 then Z 2 else Y
end
def h1:NB.mapKey (λk _=>Yb prog (Mf prog) k)=NB.mapKey λ_ i=>Z i:=by kernel_rfl
def h2:qU.mapKey (λk _=>prog.funcs[k]?)=qU.mapKey λ_ f=>Z f:=by kernel_rfl
def h3:Rl.mapKey (λk τ=>(NB.get k).map (IK sg τ))=Rl.mapKey λk τ=>(NB.get k).map (IJ sg τ):=by kernel_rfl
def h4:qU.mapKey (λ_ f=>f.name== "runtime.NumGoroutine")=qU.mapKey λ_ _=>J:=by kernel_rfl
def h5:XT.mapKey (λk m=>mtB OE k m)=XT.mapKey λ_ _=>W:=by kernel_rfl
def h6:tS.mapKey (λk l=>l.all (Qw prog k))=tS.mapKey λ_ _=>W:=by kernel_rfl
def aa0(Gj:FuncId->Option (kT sg))(sh:FuncId->Nat->Option LSh)(b:∀f c,Gj f=Z c->bD prog f c)(pn:Bool):eM (⟨OE,Gj,sh,pn⟩:fY sg):=
 Wf aav h1 h2 h3 h4 h5 h6 Gj sh b pn
def XR(l:List (Nat×Nat×LSh))(f b:Nat):Option LSh:=match l with
 |[]=>Y
 |p::l=>bif Nat.beq p.1 f&&Nat.beq p.2.1 b then Z p.2.2 else XR l f b
def mixed:prog.follows .mixedOrders=W:=by kernel_rfl
def Se(l:List (FuncId×kT sg))(hl:OkL prog l)(sh:FuncId->Nat->Option LSh)(pn:Bool)(n d:Nat)(f:FuncId)(ps:List Pk)(rs:List Ck)(b:((qU.get f).bind (·.body)).isSome=W)
  {F:fU sg.A ps->Option (RT pn (gl sg.A rs×iD sg.A ps) (den sg.A sg.pt×iD sg.A ps))} (h:(λx=>Ez (⟨OE,Rq l,sh,pn⟩:fY sg) n d f ps rs x)=F):bD prog f (⟨ps,rs,pn,F⟩:kT sg):=by
 cases h1:qU.get f with
 |none=>rw[h1]at b;cases b
 |some fn=>
  rw[h1]at b;cases h2:fn.body with
  |none=>rw[show(Z fn:Option Func).bind (·.body)=fn.body from rfl,h2]at b;cases b
  |some c=>have:=aa2 (E:=(⟨OE,Rq l,sh,pn⟩:fY sg)) (aa0 (Rq l) sh (PS hl) pn) mixed (f:=f) (fn:=fn) (c:=c) h1 h2 n d ps rs;rw[<-h];exact this
structure OC where
 f:FuncId
 c:kT sg
 h:bD prog f c
def ND(l:List OC)(f:FuncId):Option (kT sg):=match l with
 |[]=>Y
 |k::l=>bif Nat.beq k.f f then Z k.c else ND l f
def PR:∀{l:List OC}(f:FuncId)(c:kT sg),ND l f=Z c->bD prog f c
 |[],_,_,h=>by cases h
 |k::l,f,c,h=>by
  unfold ND at h;cases b:Nat.beq k.f f with
  |true=>
   rw[b]at h;have e:k.f=f:=nF b;injection h with h
   rw[<-h,<-e];exact k.h
  |false=>rw[b]at h;exact PR f c h
def cx(l:List OC)(sh:List (Nat×Nat×LSh)){pn:Bool}(n d:Nat)(f:FuncId){ps:List Pk}{rs:List Ck}
  {F:fU sg.A ps->Option (RT pn (gl sg.A rs×iD sg.A ps) (den sg.A sg.pt×iD sg.A ps))} (h:(((qU.get f).bind (·.body)).isSome,λx=>Ez (⟨OE,ND l,XR sh,pn⟩:fY sg) n d f ps rs x)=(W,F):=by kernel_rfl):bD prog f (⟨ps,rs,pn,F⟩:kT sg):=by
 have b:((qU.get f).bind (·.body)).isSome=W:=mJ Prod.fst h;have h:(λx=>Ez (⟨OE,ND l,XR sh,pn⟩:fY sg) n d f ps rs x)=F:=mJ Prod.snd h;cases h1:qU.get f with
 |none=>rw[h1]at b;cases b
 |some fn=>
  rw[h1]at b;cases h2:fn.body with
  |none=>rw[show(Z fn:Option Func).bind (·.body)=fn.body from rfl,h2]at b;cases b
  |some c=>have:=aa2 (E:=(⟨OE,ND l,XR sh,pn⟩:fY sg)) (aa0 (ND l) (XR sh) PR pn) mixed (f:=f) (fn:=fn) (c:=c) h1 h2 n d ps rs;rw[<-h];exact this
def enters(f:FuncId)(b:((qU.get f).bind (·.body)).isSome=W):mj prog f:=
 (Se [] trivial (λ_ _=>Y) J 0 0 f [] [] b rfl).1
abbrev ag1:Ck:=.dat (.sl (.st 25))
abbrev JI:Ck:=.dat (.sl (.st 7))
abbrev WJ:Ck:=.dat (.sl (.st 6))
abbrev vW:Ck:=.dat (.sl (.st 5))
abbrev sw:Ck:=.dat (.sl (.st 4))
abbrev b8y:Ck:=.dat (.sl (.st 2))
abbrev b7y:Ck:=.dat (.sl (.st 1))
abbrev b6y:Ck:=.dat (.sl (.st 0))
abbrev Cg:Ck:=.dat (.sl (.int .i64))
abbrev X4:Ck:=.dat (.bool)
abbrev lF:Ck:=.dat (.int .i64)
abbrev cX:Pk:=.one (X4)
abbrev de:Pk:=.one (lF)
abbrev adp:Pk:=.box (.cells [.own (.int .i64)])
abbrev ag3:Pk:=.box (.cells [.dat (.str),.own (.st 17)])
abbrev ag4:Pk:=.box (.cells [.dat (.str),.own (.st 19),.own (.st 21)])
abbrev vV:Pk:=.box (.cells [ag1,lF,X4])
abbrev Td:Pk:=.box (.cells [.dat (.sl (.str)),b8y,.jr 1 2 (.int .i64)])
abbrev adr:Pk:=.box (.cells [lF,lF,.dat (.str),.own (.st 0)])
abbrev ag5:Pk:=.box (.cells [.nil (.st 1),.nil (.int .i64),lF,.nil (.st 2)])
abbrev Z4:Pk:=.box (.cells [lF,.dat (.str),lF,lF])
abbrev Z6:Pk:=.box (.cells [lF,lF,.nil (.int .i64),.own (.st 0)])
abbrev ag6:Pk:=.box (.cells [lF,lF,sw,.own (.st 5)])
abbrev ag7:Pk:=.box (.cells [lF,lF,sw,vW])
abbrev b7z:Pk:=.box (.cells [lF,lF,.dat (.str),.dat (.sl (.st 20)),b6y])
abbrev b6z:Pk:=.box (.cells [.own (.st 6),.own (.int .i64),JI,Cg,lF])
abbrev b4z:Pk:=.box (.cells [WJ,Cg,JI,Cg,lF])
abbrev TM:Pk:=.hid (.cells [b7y,Cg,lF,b8y,WJ,Cg,JI,Cg,lF])
abbrev b2z:Pk:=.box (.cells [b7y,Cg,lF,b8y,WJ,Cg,JI,Cg,lF])
abbrev TN:Pk:=.box (.link [] [lF,vW,lF,sw,sw,lF,lF,Cg,b6y,sw])
abbrev b0z:Pk:=.box (.cells [WJ,Cg,JI,Cg,lF,lF,lF,lF,lF,lF,lF])
abbrev P1:List Pk:=[.one (.dat (.st 0)),de]
abbrev K2:List Ck:=[lF]
abbrev P3:List Pk:=[.one (.dat (.st 0))]
abbrev K4:List Ck:=[X4]
abbrev P5:List Pk:=[.one (.dat (.st 3))]
abbrev P6:List Pk:=[de,de,de]
abbrev P7:List Pk:=[.one (.dat (.str))]
abbrev P8:List Pk:=[.one (.dat (.st 2))]
abbrev P9:List Pk:=[.one (.dat (.sl (.str)))]
abbrev K10:List Ck:=[.dat (.str)]
abbrev P11:List Pk:=[de]
abbrev K12:List Ck:=[.dat (.cR 29)]
abbrev P13:List Pk:=[.one (.dat (.st 23)),.one (.dat (.st 0))]
abbrev P14:List Pk:=[.one (.dat (.st 23)),.one (.dat (.st 1))]
abbrev P15:List Pk:=[.one (.dat (.st 23))]
abbrev P16:List Pk:=[.one (Cg)]
abbrev K17:List Ck:=[.dat (.st 4)]
abbrev K18:List Ck:=[.own (.int .i64)]
abbrev P19:List Pk:=[.one (.dat (.cR 16))]
abbrev P20:List Pk:=[.one (WJ)]
abbrev K21:List Ck:=[.own (.st 6)]
abbrev P22:List Pk:=[.one (.dat (.st 4))]
abbrev P23:List Pk:=[.one (.dat (.st 14))]
abbrev K24:List Ck:=[.dat (.st 9)]
abbrev P25:List Pk:=[cX,de]
abbrev P26:List Pk:=[TN,TM,.one (vW)]
abbrev P27:List Pk:=[.one (.dat (.st 1))]
abbrev P28:List Pk:=[TN,TM,de,.one (sw)]
abbrev K29:List Ck:=[.dat (.cR 16)]
abbrev P30:List Pk:=[TN,TM,.one (.dat (.st 4))]
abbrev P31:List Pk:=[cX]
abbrev Cj:List Pk:=[TN,TM]
abbrev P33:List Pk:=[TN,TM,.one (.dat (.st 6))]
abbrev P34:List Pk:=[.one (sw),.one (sw)]
abbrev K35:List Ck:=[sw]
abbrev P36:List Pk:=[TN,TM,.one (.dat (.st 4)),de]
abbrev K37:List Ck:=[.dat (.st 6),X4]
abbrev P38:List Pk:=[TN,TM,.one (.dat (.st 4)),.one (.dat (.st 4))]
abbrev K39:List Ck:=[.dat (.st 5),X4]
abbrev K40:List Ck:=[.dat (.st 6)]
abbrev K41:List Ck:=[lF,lF]
abbrev P42:List Pk:=[TN,TM,.one (.dat (.st 0)),.one (.dat (.st 4)),.box (.cells [.own (.st 4)])]
abbrev P43:List Pk:=[TN,TM,de,.one (.dat (.st 6))]
abbrev P44:List Pk:=[.one (vW)]
abbrev K45:List Ck:=[.own (.st 5)]
abbrev P46:List Pk:=[b2z,de]
abbrev K47:List Ck:=[lF,X4]
abbrev P48:List Pk:=[.one (JI)]
abbrev K49:List Ck:=[.own (.st 7)]
abbrev P50:List Pk:=[.one (sw)]
abbrev K51:List Ck:=[.own (.st 4)]
abbrev P52:List Pk:=[b2z]
abbrev K53:List Ck:=[.dat (.st 8)]
abbrev P54:List Pk:=[.one (.dat (.st 3)),.one (Cg)]
abbrev K55:List Ck:=[.dat (.st 8),lF]
abbrev P56:List Pk:=[.one (.ptr (.st 11)),.one (.dat (.st 4))]
abbrev P57:List Pk:=[.one (.ptr (.st 11)),.one (.dat (.st 5))]
abbrev P58:List Pk:=[.one (.ptr (.st 11)),.one (vW),de]
abbrev P59:List Pk:=[.one (.ptr (.st 11)),.one (.dat (.st 6))]
abbrev P60:List Pk:=[.one (.ptr (.st 11))]
abbrev P61:List Pk:=[.one (.dat (.st 7))]
abbrev P62:List Pk:=[.one (.ptr (.st 11)),de]
abbrev K63:List Ck:=[Cg]
abbrev K64:List Ck:=[.dat (.st 9),lF,lF]
abbrev P65:List Pk:=[.one (.dat (.st 3)),.one (.dat (.st 8)),.one (Cg)]
abbrev K66:List Ck:=[.dat (.st 8),.dat (.sl (.st 9)),lF]
abbrev P67:List Pk:=[.one (.dat (.st 3)),.one (.dat (.st 8))]
abbrev P68:List Pk:=[.one (.dat (.st 3)),.one (.dat (.st 8)),de]
abbrev K69:List Ck:=[.dat (.st 8),.dat (.st 9),lF,lF]
abbrev P70:List Pk:=[.one (.dat (.str)),de]
abbrev P71:List Pk:=[.one (.dat (.sl (.str))),.one (.dat (.str))]
abbrev K72:List Ck:=[.dat (.sl (.str))]
abbrev P73:List Pk:=[.one (.dat (.int .u8))]
abbrev P74:List Pk:=[.one (.dat (.str)),de,cX]
abbrev K75:List Ck:=[.dat (.st 25)]
abbrev K76:List Ck:=[ag1,lF]
abbrev P77:List Pk:=[.one (.ptr (.st 26)),.one (.dat (.str))]
abbrev P78:List Pk:=[vV,.one (.dat (.str))]
abbrev P79:List Pk:=[.one (.ptr (.st 26)),de]
abbrev Na:List Pk:=[vV,de]
abbrev kD:List Pk:=[vV]
abbrev K82:List Ck:=[.dat (.st 17)]
abbrev K83:List Ck:=[.dat (.st 19)]
abbrev P84:List Pk:=[de,.one (.dat (.st 20)),.one (.dat (.st 20))]
abbrev K85:List Ck:=[.dat (.st 20)]
abbrev K86:List Ck:=[.dat (.st 0)]
abbrev P87:List Pk:=[.one (.ptr (.st 26))]
abbrev K88:List Ck:=[.dat (.sl (.st 20))]
abbrev K89:List Ck:=[.dat (.st 21)]
abbrev K90:List Ck:=[.dat (.st 22)]
abbrev P91:List Pk:=[.one (.dat (.st 17)),de]
abbrev P92:List Pk:=[.one (.dat (.st 17)),cX]
abbrev P93:List Pk:=[.one (.dat (.st 17))]
abbrev P94:List Pk:=[.one (.dat (.st 19))]
abbrev P95:List Pk:=[.one (.dat (.st 20)),de,de]
abbrev P96:List Pk:=[.one (.dat (.st 20)),cX,cX,cX]
abbrev P97:List Pk:=[.one (.dat (.st 20))]
abbrev P98:List Pk:=[.one (.dat (.st 22))]
abbrev K99:List Ck:=[.dat (.st 22),lF]
abbrev K100:List Ck:=[b8y]
abbrev ahS:List Pk:=[.one (b8y)]
abbrev aot:List Pk:=[.one (b8y),.one (.dat (.str))]
abbrev Tz:List Pk:=[.one (.ptr (.st 24)),.one (.dat (.st 0))]
abbrev aos:List Pk:=[.one (.dat (.sl (.str))),.one (.dat (.sl (.str)))]
abbrev aor:List Pk:=[.one (.dat (.st 20)),de]
abbrev Tx:List Pk:=[.one (.ptr (.st 24)),.one (.dat (.st 20)),.one (.dat (.sl (.str)))]
abbrev Tw:List Pk:=[Td,.one (.dat (.st 0))]
abbrev Tv:List Pk:=[Td,.one (.dat (.st 20)),.one (.dat (.sl (.str)))]
abbrev K109:List Ck:=[.dat (.st 3),lF]
abbrev K110:List Ck:=[.dat (.st 3)]
abbrev Tu:List Pk:=[.one (.dat (.st 0)),.one (b8y)]
abbrev aoq:List Pk:=[.one (.dat (.st 3)),.one (.dat (.st 1))]
abbrev ahR:List Pk:=[.one (Cg),de]
abbrev aop:List Pk:=[.one (Cg),.one (Cg)]
abbrev aoo:List Pk:=[.one (JI),.one (JI)]
abbrev aon:List Pk:=[.one (.dat (.st 6)),.one (.dat (.st 6))]
abbrev aom:List Pk:=[.one (.dat (.st 8)),.one (.dat (.st 8))]
abbrev adT:List Pk:=[.one (.dat (.st 8))]
abbrev aol:List Pk:=[.one (sw),.one (.dat (.st 4))]
abbrev adS:List Pk:=[.one (.dat (.st 8)),de,.one (vW),de,.one (sw)]
abbrev K121:List Ck:=[.dat (.st 10)]
abbrev aok:List Pk:=[.one (.dat (.st 8)),.one (.dat (.st 4)),de]
abbrev aoj:List Pk:=[.one (.dat (.st 3)),.one (.dat (.st 8)),.one (.dat (.st 4)),.one (.dat (.st 4))]
abbrev aoi:List Pk:=[.one (.dat (.st 3)),.one (.dat (.st 8)),de,.one (vW),.one (.dat (.st 4)),.one (.dat (.st 4))]
abbrev aoh:List Pk:=[.one (.dat (.st 8)),de,.one (vW),de,.one (.dat (.st 4)),.one (.dat (.st 4))]
abbrev Tt:List Pk:=[.one (.dat (.st 8)),.one (.dat (.st 0)),.one (.dat (.st 4))]
abbrev K127:List Ck:=[sw,X4]
abbrev aog:List Pk:=[.one (.dat (.st 8)),de,.one (vW),.one (.dat (.st 1)),.one (sw),.one (.dat (.st 4))]
abbrev aof:List Pk:=[.one (.dat (.st 3)),.one (.dat (.st 8)),de,.one (vW),de,.one (sw)]
abbrev aoe:List Pk:=[.one (.dat (.st 10)),de,de,de,.one (.dat (.st 4))]
abbrev aod:List Pk:=[.one (.dat (.st 3)),.one (.dat (.st 8)),de,.one (vW),.one (.dat (.st 4))]
abbrev aoc:List Pk:=[.one (.dat (.st 8)),de,.one (vW),.one (.dat (.st 4))]
abbrev aob:List Pk:=[.one (.dat (.st 8)),de,.one (vW),.one (.dat (.st 1)),.one (sw)]
abbrev aoa:List Pk:=[.one (.dat (.st 3)),.one (.dat (.st 8)),de,.one (vW),.one (.dat (.st 5))]
abbrev K135:List Ck:=[.dat (.st 8),lF,X4]
abbrev K136:List Ck:=[.dat (.st 8),X4]
abbrev an9:List Pk:=[.one (.dat (.st 3)),.one (.dat (.st 8)),.one (.dat (.st 4))]
abbrev an8:List Pk:=[.one (.dat (.st 3)),.one (.dat (.st 8)),.one (sw),de]
abbrev an7:List Pk:=[.one (.dat (.st 3)),.one (.dat (.st 8)),.one (vW)]
abbrev an6:List Pk:=[.one (.dat (.st 3)),.one (vW),de]
abbrev ahQ:List Pk:=[.one (.dat (.st 3)),.one (.dat (.st 8)),.one (.dat (.st 6))]
abbrev an5:List Pk:=[de,de]
abbrev an4:List Pk:=[.one (.dat (.sl (.st 9))),.one (.dat (.sl (.st 9)))]
abbrev P144:List Pk:=[.one (.own (.int .i64)),de]
abbrev P145:List Pk:=[.one (.own (.int .i64)),.one (sw)]
abbrev P146:List Pk:=[.one (sw),.one (Cg)]
abbrev K147:List Ck:=[.dat (.st 8),lF,lF]
abbrev P148:List Pk:=[.one (.dat (.st 3)),.one (.dat (.st 8)),.one (Cg),.one (Cg)]
abbrev K149:List Ck:=[Cg,lF]
abbrev K150:List Ck:=[.dat (.st 8),.dat (.st 9),lF]
abbrev P151:List Pk:=[.one (.dat (.st 5)),.one (.dat (.st 5))]
abbrev P152:List Pk:=[.one (.dat (.st 3)),.one (.dat (.st 8)),.one (.dat (.st 8))]
abbrev K153:List Ck:=[X4,lF]
abbrev an3:List Pk:=[.one (.dat (.st 12))]
abbrev an2:List Pk:=[.one (.dat (.st 13))]
abbrev an1:List Pk:=[.one (.dat (.st 15))]
abbrev an0:List Pk:=[.one (.dat (.st 27)),.one (.dat (.st 23)),.one (.dat (.st 1))]
abbrev anZ:List Pk:=[de,.one (.dat (.st 23)),.one (.dat (.st 1))]
abbrev anY:List Pk:=[.one (.dat (.st 28)),.one (.dat (.st 23)),.one (.dat (.st 1))]
abbrev Fn(ps:List Pk)(rs:List Ck)(pn:Bool):Type:=fU sg.A ps->Option (RT pn (gl sg.A rs×iD sg.A ps) (den sg.A sg.pt×iD sg.A ps))
abbrev Y1:=Unit×Int×List au×Int×List aq×List aq×Int×Int×List Int×List aB×List aq×Unit
abbrev Y2:=List bp×List Int×Int×List cw×List aD×List Int×List dV×List Int×Int×Unit
abbrev Y3:=(bZ×Unit)×Y1×Y2×Unit
abbrev Y4:=Any×Y1×Y2×Unit
abbrev Y5:=Nat->Y1×Y2×Unit->Option (Rx Y3 Y4)
abbrev Y6:=LO (Int×Bool×Unit) (bZ×Unit) Unit Any
abbrev Y7:=List e8×Int×Bool×Unit
abbrev Y8:=(aB×Unit)×Y7×Unit
abbrev Y9:=Int×Int×List UInt8×List aB×Unit
abbrev fH:=(Bool×Unit)×Unit
abbrev Y11:=Nat->aB×Unit->Option fH
abbrev Y12:=dA×aB×Unit
abbrev Kn:=LO (Bool×Bool×Unit) (Bool×Unit) Unit Any
abbrev O5:=LO (Bool×Unit) (Int×Unit) Unit Any
abbrev FN:=Option ((Int×Unit)×Unit)
abbrev Y16:=Nat->bp×Unit->FN
abbrev Y17:=aA×aa×Unit
abbrev Y18:=(List Int×Unit)×Unit
abbrev X5:=List Int×Int×Unit
abbrev Y20:=Rx (Unit×Unit) (Any×Unit)
abbrev Y21:=Nat->Y17->Option fH
abbrev Y22:=List au×Unit
abbrev zq:=List (List UInt8)×List cw×List bp×Unit
abbrev Y24:=Int×zq×Y9×Unit
abbrev Y25:=(aB×Unit)×zq×Unit
abbrev Y26:=zq×aB×Unit
abbrev Tj:=(aq×Unit)×Unit
abbrev Y28:=Nat->Y1×Y2×Unit->Option Y3
abbrev Y29:=aA×List Int×Unit
abbrev Y30:=(aa×Int×Unit)×Unit
abbrev Y31:=aA×aa×Int×Unit
abbrev Ie:=(az×Unit)×Unit
abbrev Y33:=Nat->List UInt8×Unit->Option fH
abbrev Y34:=aD×Bool×Unit
abbrev Y35:=List aE×List aE×Unit
abbrev Y36:=Nat->Int×Unit->Option fH
abbrev Y37:=Nat->(aB×Unit->Option fH)->aB×Unit->Option fH
abbrev Y38:=Option ((aa×Unit)×Unit)
abbrev Y39:=(aE×Unit)×Unit
abbrev tD:=Int×List (Int×Int)×(List Int×Unit)×Unit
abbrev Y41:=Option (LO (Int×Unit) Unit Unit Any)
abbrev Y42:=List (Int×Int)×(List Int×Unit)×Unit
abbrev wH:=List aD×List Int×List dV×List Int×Int×Unit
abbrev Y44:=(List aq×Unit)×Unit
abbrev Nx:=List aq×Int×Unit
abbrev Y46:=Option (LO Nx (List aq×Unit) Unit Any)
abbrev zK:=Int×Int×List aq×List au×Unit
abbrev TO:=Option (LO (Int×zK×Unit) Unit (zK×Unit) Any)
abbrev Y49:=Option (LO (Int×wH×Unit) Unit (wH×Unit) Any)
abbrev Y50:=(aa×Unit)×Y2×Unit
abbrev Y51:=Nat->Y2×Unit->Option Y50
abbrev Y52:=aB×List cw×Unit
abbrev Y53:=LO (Bool×Int×Unit) (Bool×Unit) Unit Any
abbrev Fi:=LO (Bool×Unit) (Bool×Unit) Unit Any
abbrev Y55:=Y1×Y2×aq×aq×Unit
abbrev Y56:=au×Bool×Unit
abbrev Y57:=Term×Int×Int×Unit
abbrev Y58:=Nat->aA×aa×aD×Unit->Option fH
abbrev Y59:=Nat->Unit->Option Tj
abbrev Y60:=List e8×Int×Unit
abbrev Y61:=Nat->List UInt8×Unit->Option (Y60×Unit)
abbrev Y62:=Nat->aq×Unit->Option Tj
abbrev Y63:=au×au×Unit
abbrev Y64:=List UInt8×Int×Unit
abbrev Y65:=Int×List UInt8×Int×Int×Unit
abbrev Y66:=Option ((e8×Unit)×Unit)
abbrev Y67:=LO (Bool×Y65×Unit) Unit (Y65×Unit) Any
abbrev Y68:=Int×Int×Int×Unit
abbrev Y69:=Nat->Y68->Option fH
abbrev Y70:=LO (Int×Bool×Bool×Unit) (Bool×Unit) Unit Any
abbrev Y71:=Int×Int×wH×wH×Unit
abbrev Y72:=List aD×List Int×List dV×List Int×Int×Int×Int×Int×Int×Int×Int×Unit
abbrev Y73:=(aa×Int×Bool×Unit)×Unit
abbrev Y74:=Bool×Int×wH×Unit
abbrev Y75:=(aa×aE×Int×Int×Unit)×Unit
abbrev Y76:=aA×aa×List Int×Unit
abbrev Y77:=Nat->Y76->Option fH
abbrev Y78:=cB×aD×Unit
abbrev Y79:=Nat->Y78->Option fH
abbrev Y80:=(aa×List aE×Int×Unit)×Unit
abbrev Y81:=List dV×Int×Int×Unit
abbrev Y82:=(List UInt8×Nat)×Unit
abbrev Y83:=Nat->aA×Unit->Option fH
abbrev Ti:=List (List UInt8)×Unit
abbrev Y85:=Nat->Unit->Option (Ti×Unit)
abbrev Y86:=Nat->Term×Unit->Option fH
abbrev WQ:=aa×Int×List au×Int×List aq×Unit
abbrev Y88:=Nat->WQ->Option Ie
abbrev Y89:=Nat->bE×Unit->Option fH
abbrev Y90:=Nat->aa×Unit->Option fH
abbrev Y91:=(Bool×Int×Unit)×Unit
abbrev Y92:=aA×aa×aa×Unit
abbrev Y93:=aB×Int×Unit
abbrev Y94:=Nat->(Y93->FN)->Y93->FN
abbrev Y95:=(cj×Unit)×Y7×Unit
abbrev Y96:=Y7×Unit->Option Y95
abbrev Y97:=cU×aB×Unit
abbrev Y98:=Option (Rx ((Int×Int×Unit)×Y1×Y2×Unit) Y4)
abbrev Y99:=List aq×List aq×Unit
abbrev O6:=Y1×Y2×aB×aq×(List aq×Unit)×Unit
abbrev Tn:=Option ((Bool×Unit)×Y1×Y2×(List aq×Unit)×Unit)
abbrev ahM:=Y34×Y1×Y2×Unit
abbrev ahL:=Int×Y1×Y2×(List aq×Unit)×Unit
abbrev tw:=(Term×Unit)×Y7×Unit
abbrev tu:=Y7×Unit->Option tw
abbrev adP:=Option ((List Term×Unit)×Y7×Unit)
abbrev adO:=Y7×Int×Unit->adP
abbrev ql:=Int×Int×List UInt8×List Term×List aB×Unit
abbrev ahK:=Bool×Y7×ql×Unit
abbrev ahJ:=Nat->Y76->Option Y80
abbrev ahI:=List aE×Int×Unit
abbrev adN:=(aq×Unit)×Y1×Y2×Unit
abbrev Tm:=LO (Int×Unit) (Int×Unit) Unit Any
abbrev ahH:=Y7×List UInt8×Unit
abbrev adM:=(Bool×Unit)×Y7×Unit
abbrev ahG:=List UInt8×List hG×Unit
abbrev adL:=List UInt8×List cj×Unit
abbrev ahF:=Bool×Y7×adL×Unit
abbrev ahE:=Nat->X5->Option fH
abbrev adK:=Term×Bool×Bool×Bool×Unit
abbrev JL:=LO (Bool×Unit) (cJ×Unit) Unit Any
abbrev Tl:=List (List UInt8)×Int×Unit
abbrev Tk:=aa×Int×List au×bp×List aq×Unit
abbrev ahD:=cj×Bool×Unit
abbrev ahC:=Nat->Y31->Option Y75
abbrev WX:=(Term×Unit)×Unit
abbrev aal:=LO (Int×Bool×Unit) Unit Unit Any
abbrev aak:=Nat->tu->Y7×Unit->Option tw
abbrev aaj:=aa×aB×aq×Unit
abbrev ahB:=List aq×Bool×Unit
abbrev aai:=Option (ahB×Unit)
abbrev ahA:=Y1×Y2×aq×Int×Unit
abbrev JK:=List bp×List Int×Int×List cw×Unit
abbrev ahz:=Term×List (List UInt8)×Unit
abbrev adJ:=Int×JK×zq×Unit
abbrev aah:=List cw×Int×Unit
abbrev aag:=aA×aa×Int×List au×Int×List aq×Unit
abbrev ahy:=List (List UInt8)×List UInt8×Unit
abbrev adI:=(Int×Bool×Unit)×Y2×Unit
abbrev adH:=Option ((aE×Int×Int×Unit)×Y2×Unit)
abbrev ahx:=Nat->Bool×Unit->Option Tj
abbrev Gx:=Y1×Y2×aD×Unit
abbrev ahw:=Y7×Int×Unit->Option Y95
abbrev anO:=Nat->aa×aa×Unit->Option fH
abbrev adG:=cU×bp×Unit
abbrev ahv:=Nat->adG->Option fH
abbrev M8:=Int×Int×List Int×List aB×Unit
abbrev adF:=Int×zq×M8×Unit
abbrev M7:=zq×Term×List (List UInt8)×Unit
abbrev O4:=(Int×Unit)×zq×Unit
abbrev adE:=Int×Unit->Option O4
abbrev adD:=LO (Bool×M8×Unit) (Int×Unit) (M8×Unit) Any
abbrev aaf:=Option (Unit×Y7×Unit)
abbrev ahu:=(cE×Unit)×Y7×Unit
abbrev adC:=Nat->Int×Unit->Option Tj
abbrev anN:=(Int×Int×Unit)×Unit
abbrev aae:=Y7×(List UInt8×List jA×List cE×Unit)×Unit
abbrev adB:=aA×aa×Int×List au×aq×aq×Unit
abbrev aht:=Int×Y1×Y2×Unit
abbrev ahs:=dA×Term×List (List UInt8)×Unit
abbrev anM:=aD×aD×Unit
abbrev anL:=Nat->anM->Option fH
abbrev ahr:=cB×au×Unit
abbrev ahq:=Nat->ahr->Option fH
abbrev ahp:=Option ((aA×Unit)×Unit)
abbrev aho:=Option ((List UInt8×Unit)×Unit)
abbrev ahn:=List UInt8×Int×Bool×Unit
abbrev ahm:=List aE×Int×wH×wH×Unit
abbrev WW:=aa×Int×List au×Int×aq×aq×Unit
abbrev WV:=Unit×Y1×Y2×Unit
abbrev WU:=List Bool×Int×Unit
abbrev M6:=LO (Bool×Unit) Unit Unit Any
abbrev M5:=aA×aa×Int×List au×aq×Unit
abbrev aad:=Bool×Y72×zK×Unit
abbrev ahl:=Nat->cB×Unit->Option fH
abbrev WT:=LO (Bool×Y7×Unit) (List Term×Unit) (Y7×Unit) Any
abbrev WS:=List Term×Y7×Unit
abbrev ahk:=Nat->Ti->Option fH
abbrev Y179:=(aa×aE×Int×Unit)×Unit
abbrev Y180:=Nat->Y31->Option fH
abbrev tq:=aA×aa×Int×List au×au×Unit
abbrev ahj:=List (List UInt8×Bool)
abbrev ahi:=cj×Int×Unit
abbrev ahh:=Int×List (Int×Bool)×Unit
abbrev adA:=cB×List au×Int×Unit
abbrev adz:=aa×Int×List au×aq×Unit
abbrev q83(F:Fn P1 K2 J):kT sg:=⟨P1,K2,J,F⟩
def B83:Y94:=
 λn f83 c=>aj (D.bN c.2.1 1) (Z (((-1),()),())) (ai (@iter (Int×Int×Unit) (Int×Unit) (Unit) (Any) (λd=>aj (D.bN d.2.1 (ak
 c.1.4)) (aj (D.ek 0 d.1) (aC (av d.2.1 c.1.4) (ai (f83 (aR c.1.4 (ah d.2.1) aL,d.1,())) λe=>Z (LO.next (e.1.1,D.add .i64
 d.2.1 1,())))) (Z (LO.out 0 d))) (Z (LO.out 0 d))) n (D.dI .i64 c.2.1 1,0,())) λd=>LO.el d (λ_ g=>Z ((g.1,()),())) (λ_ g
 =>Z (g,())) λ_ _=>Y)
def D83(n:Nat)(f83:Fn P1 K2 J)(b:bD prog 83 (q83 f83)):bD prog 83 (q83 (B83 n f83)):=cx [⟨83,q83 f83,b⟩] [(83,0,⟨[(1,de),(5,de)],[],[],0⟩)] n 10 83
def R83(n k:Nat):(Fn P1 K2 J):=Nat.rec (motive:=λ_=>(Fn P1 K2 J)) (λ_=>Y) (λ_ r=>B83 n r) k
def F83(n:Nat):Fn P1 K2 J:=(R83 n n)
def ah4(n:Nat):∀k,bD prog 83 (q83 (R83 n k))
 |0=>bY (enters 83 (by kernel_rfl))
 |k+1=>have b:=ah4 n k
  D83 n _ b
def k83(n:Nat):OC:=⟨83,q83 (F83 n),(ah4 n n)⟩
abbrev q84(F:Fn P3 K4 J):kT sg:=⟨P3,K4,J,F⟩
def B84:Y37:=
 λn f84 c=>ai (@iter (Int×Unit) (Bool×Unit) (Unit) (Any) (λd=>aj (D.bN d.1 (ak c.1.4)) (aC (av d.1 c.1.4) (ai (f84 (aR c.1.4
 (ah d.1) aL,())) λe=>aj (D.aO e.1.1) (Z (LO.ret () (J,()))) (Z (LO.next (D.add .i64 d.1 1,()))))) (Z (LO.out 0 d))) n
 (0,())) λd=>LO.el d (λ_ _=>Z ((D.ek (ak c.1.3) 30,()),())) (λ_ g=>Z (g,())) λ_ _=>Y
def D84(n:Nat)(f84:Fn P3 K4 J)(b:bD prog 84 (q84 f84)):bD prog 84 (q84 (B84 n f84)):=cx [⟨84,q84 f84,b⟩] [(84,0,⟨[(3,de)],[],[],0⟩)] n 10 84
def R84(n k:Nat):(Fn P3 K4 J):=Nat.rec (motive:=λ_=>(Fn P3 K4 J)) (λ_=>Y) (λ_ r=>B84 n r) k
def F84(n:Nat):Fn P3 K4 J:=(R84 n n)
def ah3(n:Nat):∀k,bD prog 84 (q84 (R84 n k))
 |0=>bY (enters 84 (by kernel_rfl))
 |k+1=>have b:=ah3 n k
  D84 n _ b
def k84(n:Nat):OC:=⟨84,q84 (F84 n),(ah3 n n)⟩
def F44:Y11:=
 λn b=>ai (F83 n (aB.mk b.1.1 b.1.2 b.1.3 b.1.4,16,())) λc=>aj (D.ek 0 c.1.1) (ai (F84 n (aB.mk b.1.1 b.1.2 b.1.3 b.1.4,()))
 λd=>Z d) (Z ((J,()),()))
def k44(n:Nat):OC:=⟨44,⟨P3,K4,J,F44 n⟩,cx [k83 n,k84 n] [] n 10 44⟩
def F12:Y83:=
 λn b=>aj (D.bN 320 (ak b.1.1)) (Z ((J,()),())) (aj (D.bN 320 (ak b.1.2)) (Z ((J,()),())) (aj (D.bN 25 (ak b.1.4))
 (Z ((J,()),())) (ai (@iter (Int×Unit) (Bool×Unit) (Unit) (Any) (λc=>aj (D.bN c.1 (ak b.1.4)) (aC (av c.1 b.1.4) (aj (D.bN
 40 (ak (aR b.1.4 (ah c.1) bx).1)) (Z (LO.ret () (J,()))) (Z (LO.next (D.add .i64 c.1 1,()))))) (Z (LO.out 0 c))) n (0,()))
 λc=>LO.el c (λ_ _=>ai (@iter (Int×Unit) (Bool×Unit) (Unit) (Any) (λg=>aj (D.bN g.1 (ak b.1.1)) (aC (av g.1 b.1.1) (aj
 (D.bN 10 (ak (aR b.1.1 (ah g.1) aN).3)) (Z (LO.ret () (J,()))) (aj (D.bN 10 (ak (aR b.1.1 (ah g.1) aN).4)) (Z
 (LO.ret () (J,()))) (ai (@iter (Int×Unit) (Bool×Unit) (Unit) (Any) (λh=>aj (D.bN h.1 (ak (aR b.1.1 (ah g.1) aN).4)) (aC
 (av h.1 (aR b.1.1 (ah g.1) aN).4) (ai (F44 n (aR (aR b.1.1 (ah g.1) aN).4 (ah h.1) aL,())) λi=>aj (D.aO i.1.1)
 (Z (LO.ret () (J,()))) (Z (LO.next (D.add .i64 h.1 1,()))))) (Z (LO.out 0 h))) n (0,())) λh=>LO.el h (λ_ _=>Z (LO.next
 (D.add .i64 g.1 1,()))) (λ_ j=>Z (LO.ret () j)) λ_ _=>Y)))) (Z (LO.out 0 g))) n (0,())) λg=>LO.el g (λ_ _=>Z ((W,
 ()),())) (λ_ i=>Z (i,())) λ_ _=>Y) (λ_ e=>Z (e,())) λ_ _=>Y)))
def k12(n:Nat):OC:=⟨12,⟨P5,K4,J,F12 n⟩,cx [k44 n] [(12,0,⟨[(3,de)],[],[],0⟩),(12,2,⟨[(4,de)],[],[],0⟩),(12,4,⟨[(6,de)],[],[],0⟩)] n 10 12⟩
def F146:Y69:=
 λn b=>aj (D.ek b.2.1 b.1) (Z ((D.ek b.1 b.2.2.1,()),())) (Z ((J,()),()))
def Og(n:Nat):OC:=⟨146,⟨P6,K4,J,F146 n⟩,cx [] [] n 10 146⟩
def J0(n:Nat)(c:Y82):Option (LO Y82 (Bool×Unit) Y82 Any):=
 Z (LO.ret ((c.1.1,aaa c.1.2 (FO c.1.1 c.1.2)),()) (J,()))
def F257:Y33:=
 λn b=>ai (@iter (Y82) (Bool×Unit) (Y82) (Any) (λc=>aj (NU c.1.2 c.1.1) (aj (D.bN (sM c.1.1 c.1.2) 97) (J0 n c) (aj (D.bN 122
 (sM c.1.1 c.1.2)) (J0 n c) (Z (LO.next ((c.1.1,aaa c.1.2 (FO c.1.1 c.1.2)),()))))) (Z (LO.out 0 c))) n ((b.1,0),())) λc=>LO.el
 c (λ_ _=>Z ((W,()),())) (λ_ e=>Z (e,())) λ_ _=>Y
def aj7(n:Nat):OC:=⟨257,⟨P7,K4,J,F257 n⟩,cx [] [(257,0,⟨[(0,.box (.o7))],[.slot 6],[],0⟩)] n 10 257⟩
def F197:Y33:=
 λn b=>aj (D.aO (fZ b.1 [])) (aj (D.ek (ak b.1) 8) (aC (av 0 b.1) (aj (D.ek 65 (kW b.1 0)) (aC (av 0 b.1) (aj (D.ek (kW b.1
 0) 90) (aC (ff 1 (ak b.1) (ak b.1)) (ai (F257 n (ey b.1 1 (ak b.1),())) λc=>Z c)) (Z ((J,()),())))) (Z ((J,()),
 ())))) (Z ((J,()),()))) (Z ((J,()),()))
def akH(n:Nat):OC:=⟨197,⟨P7,K4,J,F197 n⟩,cx [aj7 n] [] n 10 197⟩
def F148:Nat->cw×Unit->Option fH:=
 λn b=>ai (F197 n (b.1.1,())) λc=>aj c.1.1 (ai (F146 n (b.1.2,0,3,())) λd=>Z d) (Z ((J,()),()))
def akY(n:Nat):OC:=⟨148,⟨P8,K4,J,F148 n⟩,cx [Og n,akH n] [] n 10 148⟩
def F149:ahk:=
 λn b=>ai (@iter (Int×ahj×Unit) (Bool×Unit) (ahj×Unit) (Any) (λc=>aj (D.bN c.1 (ak b.1)) (aC (av c.1 b.1) (Z (LO.next
 (D.add .i64 c.1 1,m7 (A:=sg.A) Ty.str (aR b.1 (ah c.1) []) W c.2.1,())))) (Z (LO.out 0 c))) n (0,[],())) λc=>LO.el c (λ_ e=>
 Z ((D.aI (ak e.2.1) (ak b.1),()),())) (λ_ e=>Z (e,())) λ_ _=>Y
def akX(n:Nat):OC:=⟨149,⟨P9,K4,J,F149 n⟩,cx [] [(149,0,⟨[(9,de),(0,.box (.map (.str) (.bool)))],[.slot 6],[],0⟩)] n 10 149⟩
def F151:Nat->cw×Unit->aho:=
 λn b=>Z ((b.1.1,()),())
def akW(n:Nat):OC:=⟨151,⟨P8,K10,J,F151 n⟩,cx [] [] n 10 151⟩
def AT(n:Nat):JL->Option JL:=
 λc=>LO.jn c (λd=>Z (LO.next d)) (λ_ _=>Y) (λ_ e=>Z (LO.ret () e)) λ_ _=>Y
def uM(n:Nat):JL->Option JL:=
 λe=>LO.jn e (λg=>Z (LO.next g)) (λ_ _=>Y) (λ_ h=>Z (LO.ret () h)) λ_ _=>Y
def uL(n:Nat):JL->Option JL:=
 λh=>LO.jn h (λi=>Z (LO.next i)) (λ_ _=>Y) (λ_ j=>Z (LO.ret () j)) λ_ _=>Y
def F200:Nat->Int×Unit->Option ((cJ×Unit)×Unit):=
 λn b=>ai (aj (D.aI b.1 1) (Z (LO.next (W,()))) (ai (aj (D.aI b.1 2) (Z (LO.next (W,()))) (ai (aj (D.aI b.1 3) (Z
 (LO.next (W,()))) (ai (aj (D.aI b.1 4) (Z (LO.next (W,()))) (ai (aj (D.aI b.1 21) (Z (LO.next (W,()))) (ai (aj (D.aI b.1 25)
 (Z (LO.next (W,()))) (Z (LO.next (D.aI b.1 28,())))) (AT n))) (AT n))) (AT n))) (AT n))) (AT n))) λ(c:JL)=>
 LO.jn c (λd=>aj d.1 (Z ((cJ.a1 0,()),())) (ai (aj (D.aI b.1 5) (Z (LO.next (W,()))) (ai (aj (D.aI b.1 27) (Z (LO.next
 (W,()))) (ai (aj (D.aI b.1 16) (Z (LO.next (W,()))) (ai (aj (D.aI b.1 17) (Z (LO.next (W,()))) (ai (aj (D.aI b.1 19) (Z
 (LO.next (W,()))) (ai (aj (D.aI b.1 20) (Z (LO.next (W,()))) (ai (aj (D.aI b.1 23) (Z (LO.next (W,()))) (ai (aj (D.aI b.1
 24) (Z (LO.next (W,()))) (Z (LO.next (D.aI b.1 26,())))) (uM n))) (uM n))) (uM n))) (uM n))) (uM n))) (uM n)))
 (uM n))) λ(e:JL)=>LO.jn e (λg=>aj g.1 (Z ((cJ.a1 1,()),())) (ai (aj (D.aI b.1 6) (Z (LO.next (W,()))) (ai (aj
 (D.aI b.1 7) (Z (LO.next (W,()))) (ai (aj (D.aI b.1 9) (Z (LO.next (W,()))) (ai (aj (D.aI b.1 10) (Z (LO.next (W,()))) (ai
 (aj (D.aI b.1 11) (Z (LO.next (W,()))) (ai (aj (D.aI b.1 12) (Z (LO.next (W,()))) (ai (aj (D.aI b.1 13) (Z (LO.next (W,
 ()))) (ai (aj (D.aI b.1 18) (Z (LO.next (W,()))) (Z (LO.next (D.aI b.1 22,())))) (uL n))) (uL n))) (uL n))) (uL n)))
 (uL n))) (uL n))) (uL n))) λ(h:JL)=>LO.jn h (λi=>aj i.1 (Z ((cJ.a1 2,()),())) (aj (D.aI b.1 8) (Z
 ((cJ.a1 3,()),())) (aj (D.aI b.1 14) (Z ((cJ.a2 mh.mk,()),())) (aj (D.aI b.1 15) (Z ((cJ.a0 jB.mk,()),
 ())) (Z ((cJ.none,()),())))))) (λ_ _=>Y) (λ_ j=>Z (j,())) λ_ _=>Y)) (λ_ _=>Y) (λ_ h=>Z (h,())) λ
 _ _=>Y)) (λ_ _=>Y) (λ_ e=>Z (e,())) λ_ _=>Y
def akG(n:Nat):OC:=⟨200,⟨P11,K12,J,F200 n⟩,cx [] [(200,1000003,⟨[(4,cX)],[],[],0⟩),(200,1000004,⟨[(4,cX)],[],[],0⟩),(200,1000005,⟨[(4,cX)],[],[],0⟩),(200,1000006,⟨[(4,cX)],[],[],0⟩),(200,1000007,⟨[(4,cX)],[],[],0⟩),(200,1000008,⟨[(4,cX)],[],[],0⟩),(200,1000011,⟨[(13,cX)],[],[],0⟩),(200,1000012,⟨[(13,cX)],[],[],0⟩),(200,1000013,⟨[(13,cX)],[],[],0⟩),(200,1000014,⟨[(13,cX)],[],[],0⟩),(200,1000015,⟨[(13,cX)],[],[],0⟩),(200,1000016,⟨[(13,cX)],[],[],0⟩),(200,1000017,⟨[(13,cX)],[],[],0⟩),(200,1000018,⟨[(13,cX)],[],[],0⟩),(200,1000021,⟨[(24,cX)],[],[],0⟩),(200,1000022,⟨[(24,cX)],[],[],0⟩),(200,1000023,⟨[(24,cX)],[],[],0⟩),(200,1000024,⟨[(24,cX)],[],[],0⟩),(200,1000025,⟨[(24,cX)],[],[],0⟩),(200,1000026,⟨[(24,cX)],[],[],0⟩),(200,1000027,⟨[(24,cX)],[],[],0⟩),(200,1000028,⟨[(24,cX)],[],[],0⟩)] n 10 200⟩
abbrev Ux(F:Fn P1 K2 J):kT sg:=⟨P1,K2,J,F⟩
def Kj(c:Y93)(d:Int×Int×Unit):aB:=
 aR c.1.4 (ah d.2.1) aL
def B202:Y94:=
 λn f202 c=>ai (@iter (Int×Int×Unit) (Int×Unit) (Unit) (Any) (λd=>aj (D.bN d.2.1 (ak c.1.4)) (aC (av d.2.1 c.1.4) (aj (D.bN
 c.2.1 d.1) (Z (LO.out 0 d)) (ai (f202 (aB.mk (Kj c d).1 (Kj c d).2 (Kj c d).3 (Kj c d).4,D.dI .i64 c.2.1 d.1,())) λe=>
 Z (LO.next (D.add .i64 d.1 e.1.1,D.add .i64 d.2.1 1,()))))) (Z (LO.out 0 d))) n (1,0,())) λd=>LO.el d (λ_ g=>Z ((g.1,()),()))
 (λ_ g=>Z (g,())) λ_ _=>Y
def D202(n:Nat)(f202:Fn P1 K2 J)(b:bD prog 202 (Ux f202)):bD prog 202 (Ux (B202 n f202)):=cx [⟨202,Ux f202,b⟩] [(202,0,⟨[(5,de),(11,de)],[],[],0⟩)] n 10 202
def R202(n k:Nat):(Fn P1 K2 J):=Nat.rec (motive:=λ_=>(Fn P1 K2 J)) (λ_=>Y) (λ_ r=>B202 n r) k
def F202(n:Nat):Fn P1 K2 J:=(R202 n n)
def abu(n:Nat):∀k,bD prog 202 (Ux (R202 n k))
 |0=>bY (enters 202 (by kernel_rfl))
 |k+1=>have b:=abu n k
  D202 n _ b
def akF(n:Nat):OC:=⟨202,Ux (F202 n),(abu n n)⟩
def F259:Y36:=
 λn b=>ai (F146 n (b.1,(-1000000000),1000000000,())) λc=>Z c
def afk(n:Nat):OC:=⟨259,⟨P11,K4,J,F259 n⟩,cx [Og n] [] n 10 259⟩
abbrev Uw(F:Fn P13 K4 J):kT sg:=⟨P13,K4,J,F⟩
def o5(n:Nat)(f203:Y97->Option fH):Option fH:=
 Z ((J,()),())
def Ki(c:Y97)(d:Int×Unit):aB:=
 aR c.2.1.4 (ah d.1) aL
def PB(n:Nat)(f203:Y97->Option fH)(c:Y97):fH->Option fH:=
 λj=>aj j.1.1 (Z ((D.aI (ak c.2.1.4) 0,()),())) (o5 n f203)
def A4(n:Nat)(f203:Y97->Option fH)(c:Y97):Option fH:=
 ai (aj (D.aI c.2.1.1 1) (Z (LO.next (W,()))) (ai (aj (D.aI c.2.1.1 2) (Z (LO.next (W,()))) (Z (LO.next (D.aI c.2.1.1 5,()))))
 λ(h:Fi)=>LO.jn h (λi=>Z (LO.next i)) (λ_ _=>Y) (λ_ j=>Z (LO.ret () j)) λ_ _=>Y)) λ(h:Fi)=>LO.jn h (λ
 i=>aj i.1 (aj (D.aI c.2.1.2 0) (Z ((D.aI (ak c.2.1.4) 0,()),())) (o5 n f203)) (aj (D.aI c.2.1.1 3) (ai (F259 n (c.2.1.2,()))
 (PB n f203 c)) (aj (D.aI c.2.1.1 4) (ai (F146 n (c.2.1.2,0,1,())) (PB n f203 c)) (aj (D.aI c.2.1.1 6) (ai (F146 n (c.2.1.2,0,D.dI .i64
 (ak c.1.1.4) 1,())) λj=>aj j.1.1 (aC (av c.2.1.2 c.1.1.4) (Z ((D.aI (ak c.2.1.4) (aR c.1.1.4 (ah c.2.1.2) bx).2,()),())))
 (o5 n f203)) (o5 n f203))))) (λ_ _=>Y) (λ_ j=>Z (j,())) λ_ _=>Y
def B203:Nat->(Y97->Option fH)->Y97->Option fH:=
 λn f203 c=>aj (D.aO (fZ c.2.1.3 [])) (o5 n f203) (ai (@iter (Int×Unit) (Int×Unit) (Unit) (Any) (λd=>aj (D.bN d.1 (ak
 c.2.1.4)) (aC (av d.1 c.2.1.4) (ai (f203 (c.1,aB.mk (Ki c d).1 (Ki c d).2 (Ki c d).3 (Ki c d).4,())) λe=>aj (D.aO
 e.1.1) (Z (LO.ret () d)) (Z (LO.next (D.add .i64 d.1 1,()))))) (Z (LO.out 0 d))) n (0,())) λd=>LO.el d (λ_ _=>aj (D.aO (D.aO
 J)) (o5 n f203) (A4 n f203 c)) (λ_ g=>aj (D.aO (D.aO (D.ek 0 g.1))) (o5 n f203) (A4 n f203 c)) λ_ _=>Y)
def D203(n:Nat)(f203:Fn P13 K4 J)(b:bD prog 203 (Uw f203)):bD prog 203 (Uw (B203 n f203)):=cx [Og n,⟨203,Uw f203,b⟩,afk n] [(203,1000005,⟨[(18,cX)],[],[],0⟩),(203,1000006,⟨[(18,cX)],[],[],0⟩),(293,0,⟨[(8,de)],[],[],0⟩)] n 10 203
def R203(n k:Nat):(Fn P13 K4 J):=Nat.rec (motive:=λ_=>(Fn P13 K4 J)) (λ_=>Y) (λ_ r=>B203 n r) k
def F203(n:Nat):Fn P13 K4 J:=(R203 n n)
def abt(n:Nat):∀k,bD prog 203 (Uw (R203 n k))
 |0=>bY (enters 203 (by kernel_rfl))
 |k+1=>have b:=abt n k
  D203 n _ b
def akE(n:Nat):OC:=⟨203,Uw (F203 n),(abt n n)⟩
def F204:ahv:=
 λn b=>aj (D.aI b.2.1.1 1) (ai (F259 n (b.2.1.2,())) λc=>Z c) (aj (D.aI b.2.1.1 2) (ai (F146 n (b.2.1.2,0,1,())) λc=>Z c)
 (aj (D.aI b.2.1.1 24) (ai (F146 n (b.2.1.2,0,3,())) λc=>Z c) (aj (D.aI b.2.1.1 4) (ai (F146 n (b.2.1.2,D.neg .i64 (ak b.1.1.2),29,
 ())) λc=>Z c) (aj (D.aI b.2.1.1 14) (Z ((W,()),())) (Z ((D.aI b.2.1.2 0,()),()))))))
def akD(n:Nat):OC:=⟨204,⟨P14,K4,J,F204 n⟩,cx [Og n,afk n] [] n 10 204⟩
def F338:Nat->jB×cU×bp×Unit->Option fH:=
 λn b=>ai (F146 n (ak b.2.2.1.4,1,5,())) λc=>aj c.1.1 (Z ((D.aI (ak b.2.2.1.3) (D.add .i64 1 (ak b.2.2.1.4)),()),())) (Z
 ((J,()),()))
def ajM(n:Nat):OC:=⟨338,⟨an0,K4,J,F338 n⟩,cx [Og n] [] n 10 338⟩
def F339:Nat->Int×cU×bp×Unit->Option fH:=
 λn b=>Z ((D.aI (ak b.2.2.1.3) b.1,()),())
def ajL(n:Nat):OC:=⟨339,⟨anZ,K4,J,F339 n⟩,cx [] [] n 10 339⟩
def F340:Nat->mh×cU×bp×Unit->Option fH:=
 λn b=>ai (F146 n (b.2.2.1.2,0,D.dI .i64 (ak b.2.1.1.4) 1,())) λc=>aj c.1.1 (aC (av b.2.2.1.2 b.2.1.1.4) (Z ((D.aI (ak
 b.2.2.1.3) (aR b.2.1.1.4 (ah b.2.2.1.2) bx).2,()),()))) (Z ((J,()),()))
def ajK(n:Nat):OC:=⟨340,⟨anY,K4,J,F340 n⟩,cx [Og n] [] n 10 340⟩
def sJ:List (Nat×Ty):=
 [(274,Ty.st 27),(297,Ty.int .i64),(298,Ty.st 28)]
def sI(b:adG)(i:Int×Unit):aB:=
 aR b.2.1.4 (ah i.1) aL
def uN(n:Nat)(b:adG):fH->Option fH:=
 λg=>aj g.1.1 (ai (F204 n b) λh=>aj h.1.1 (ai (@iter (Int×Unit) (Int×Unit) (Unit) (Any) (λi=>aj (D.bN i.1 (ak b.2.1.4)) (aC
 (av i.1 b.2.1.4) (ai (F202 n (aB.mk (sI b i).1 (sI b i).2 (sI b i).3 (sI b i).4,12,())) λj=>aj (D.ek j.1.1 12) (ai
 (F203 n (b.1,aB.mk (sI b i).1 (sI b i).2 (sI b i).3 (sI b i).4,())) λk=>aj (D.aO k.1.1) (Z (LO.ret () i)) (Z
 (LO.next (D.add .i64 i.1 1,())))) (Z (LO.ret () i)))) (Z (LO.out 0 i))) n (0,())) λi=>LO.el i (λ_ _=>Z ((D.aO J,()),()))
 (λ_ k=>Z ((D.aO (D.ek 0 k.1),()),())) λ_ _=>Y) (Z ((J,()),()))) (Z ((J,()),()))
def F153:ahv:=
 λn b=>ai (F200 n (b.2.1.1,())) λc=>aj (isNil sJ (eN 29 c.1.1)) (Z ((J,()),())) (ai (aj (iG sJ 0 (eN 29 c.1.1))
 (Z (LO.next (J,W,()))) (aj (D.bN 0 (ak b.2.1.4)) (Z (LO.ret () (J,()))) (Z (LO.next (J,J,()))))) λ(d:Kn)=>
 LO.jn d (λ_=>aj (iG sJ 0 (eN 29 c.1.1)) (ai (F338 n (jv (Sg.zero sg) sJ 0 (eN 29 c.1.1),b)) (uN n b)) (aj (iG
 sJ 1 (eN 29 c.1.1)) (ai (F339 n (jv (Sg.zero sg) sJ 1 (eN 29 c.1.1),b)) (uN n b)) (aj (iG sJ 2 (eN 29 c.1.1)) (ai
 (F340 n (jv (Sg.zero sg) sJ 2 (eN 29 c.1.1),b)) (uN n b)) Y))) (λ_ _=>Y) (λ_ g=>Z (g,())) λ_ _=>Y)
def akV(n:Nat):OC:=⟨153,⟨P14,K4,J,F153 n⟩,cx [akG n,akF n,akE n,akD n,ajM n,ajL n,ajK n] [(153,1000003,⟨[(4,cX),(17,cX)],[],[],0⟩),(293,0,⟨[(8,de)],[],[],0⟩)] n 10 153⟩
def F155:Y36:=
 λn b=>Z ((D.aI b.1 1,()),())
def akU(n:Nat):OC:=⟨155,⟨P11,K4,J,F155 n⟩,cx [] [] n 10 155⟩
def lR(n:Nat):Option fH:=
 Z ((J,()),())
def abb(h:Tl):Int×Unit:=
 (D.add .i64 h.2.1 1,())
def Ni(b:cU×Unit)(p:X5):Nat:=
 ah (aR b.1.1.2 (ah p.2.1) 0)
def Q6(p:X5):Int×Unit:=
 (D.add .i64 p.2.1 1,())
def BL(b:cU×Unit)(s:X5)(t:X5):Int:=
 aR (aR b.1.1.1 (ah s.2.1) aN).3 (ah t.2.1) 0
def Nh(n:Nat)(b:cU×Unit):Option fH:=
 aC (Ch (YD (ak b.1.1.1)) (ia (ak b.1.1.1) (ak b.1.1.1))) (ai (@iter (X5) (Bool×Unit) (Unit) (Any) (λp=>aj (D.bN p.2.1 (ak
 b.1.1.2)) (aC (av p.2.1 b.1.1.2) (ai (F146 n (aR b.1.1.2 (ah p.2.1) 0,0,D.dI .i64 (ak b.1.1.1) 1,())) λq=>aj (D.aO q.1.1) (Z
 (LO.ret () (J,()))) (aC (av (aR b.1.1.2 (ah p.2.1) 0) p.1) (aC (ct (Ni b p) p.1) (aC (av (aR b.1.1.2 (ah p.2.1) 0) p.1) (aC
 (ct (Ni b p) p.1) (Z (LO.next (dO p.1 (Ni b p) (D.add .i64 (aR p.1 (Ni b p) 0) 1),Q6 p))))))))) (Z (LO.out 0 p))) n (IM (ah
 (ak b.1.1.1)) 0,0,())) λp=>LO.el p (λ_ r=>ai (@iter (X5) (Bool×Unit) (Unit) (Any) (λs=>aj (D.bN s.2.1 (ak b.1.1.1)) (aC
 (av s.2.1 b.1.1.1) (ai (@iter (X5) (Bool×Unit) (Unit) (Any) (λt=>aj (D.bN t.2.1 (ak (aR b.1.1.1 (ah s.2.1) aN).3)) (aC (av
 t.2.1 (aR b.1.1.1 (ah s.2.1) aN).3) (ai (F146 n (BL b s t,D.add .i64 s.2.1 1,D.dI .i64 (ak b.1.1.1) 1,())) λu=>aj (D.aO
 u.1.1) (Z (LO.ret () (J,()))) (aC (av (BL b s t) t.1) (aC (ct (ah (BL b s t)) t.1) (aC (av (BL b s t) t.1) (aC (ct (ah
 (BL b s t)) t.1) (Z (LO.next (dO t.1 (ah (BL b s t)) (D.add .i64 (aR t.1 (ah (BL b s t)) 0) 1),Q6 t))))))))) (Z (LO.out 0
 t))) n (s.1,0,())) λt=>LO.el t (λ_ v=>Z (LO.next (v.1,Q6 s))) (λ_ v=>Z (LO.ret () v)) λ_ _=>Y)) (Z (LO.out 0 s)))
 n (r.1,0,())) λs=>LO.el s (λ_ u=>ai (@iter (Int×Unit) (Int×Unit) (Unit) (Any) (λv=>aj (D.bN v.1 (ak u.1)) (aC (av v.1 u.1)
 (aC (ct (ah v.1) u.1) (ai (F155 n (aR u.1 (ah v.1) 0,())) λw=>aj (D.aO w.1.1) (Z (LO.ret () v)) (Z (LO.next (D.add .i64 v.1 1,
 ())))))) (Z (LO.out 0 v))) n (0,())) λv=>LO.el v (λ_ _=>Z ((D.aO J,()),())) (λ_ x=>Z ((D.aO (D.ek 0 x.1),()),()))
 λ_ _=>Y) (λ_ u=>Z (u,())) λ_ _=>Y) (λ_ r=>Z (r,())) λ_ _=>Y)
def Q5(n:Nat)(b:cU×Unit):fH->Option fH:=
 λk=>aj (D.aO k.1.1) (lR n) (ai (@iter (Int×Unit) (Int×Unit) (Unit) (Any) (λl=>aj (D.bN l.1 (ak b.1.1.1)) (aC (av l.1
 b.1.1.1) (ai (F153 n (b.1,aR b.1.1.1 (ah l.1) aN,())) λm=>aj (D.aO m.1.1) (Z (LO.ret () l)) (Z (LO.next (D.add .i64 l.1 1,
 ()))))) (Z (LO.out 0 l))) n (0,())) λl=>LO.el l (λ_ _=>aj (D.aO (D.aO J)) (lR n) (Nh n b)) (λ_ o=>aj (D.aO (D.aO
 (D.ek 0 o.1))) (lR n) (Nh n b)) λ_ _=>Y)
def Q4(n:Nat)(b:cU×Unit):Option fH:=
 ai (@iter (Tl) (Ti) (Unit) (Any) (λh=>aj (D.bN h.2.1 (ak b.1.1.4)) (aC (av h.2.1 b.1.1.4) (ai (F151 n (aR b.1.1.4 (ah h.2.1)
 bx,())) λi=>aC (cZ h.1 [i.1.1]) (Z (LO.next (cP h.1 [i.1.1],abb h))))) (Z (LO.out 0 h))) n ([],0,())) λh=>LO.el h (λ
 _ j=>ai (F149 n (j.1,())) (Q5 n b)) (λ_ j=>ai (F149 n j) (Q5 n b)) λ_ _=>Y
def F87:Nat->cU×Unit->Option fH:=
 λn b=>aj (D.bN 300 (ak b.1.1.1)) (lR n) (aj (D.bN (ak b.1.1.2) 1) (lR n) (aj (D.bN (ak b.1.1.1) (ak b.1.1.2)) (lR n) (aj
 (D.bN 20 (ak b.1.1.4)) (lR n) (ai (F146 n (b.1.1.3,0,D.dI .i64 (ak b.1.1.2) 1,())) λc=>aj (D.aO c.1.1) (lR n) (ai (@iter (Int
 ×Unit) (Int×Unit) (Unit) (Any) (λd=>aj (D.bN d.1 (ak b.1.1.4)) (aC (av d.1 b.1.1.4) (ai (F148 n (aR b.1.1.4 (ah d.1) bx,()))
 λe=>aj (D.aO e.1.1) (Z (LO.ret () d)) (Z (LO.next (D.add .i64 d.1 1,()))))) (Z (LO.out 0 d))) n (0,())) λd=>LO.el d (λ_ _=>
 aj (D.aO (D.aO J)) (lR n) (Q4 n b)) (λ_ g=>aj (D.aO (D.aO (D.ek 0 g.1))) (lR n) (Q4 n b)) λ_ _=>Y)))))
def k87(n:Nat):OC:=⟨87,⟨P15,K4,J,F87 n⟩,cx [Og n,akY n,akX n,akW n,akV n,akU n] [(87,0,⟨[(4,.one (.own (.int .i64))),(79,de)],[],[],0⟩),(87,2,⟨[(4,.one (.own (.int .i64))),(99,de)],[],[],0⟩),(87,4,⟨[(4,.one (.own (.int .i64))),(107,de)],[],[],0⟩),(150,0,⟨[(5,.one (.own (.str))),(10,de)],[],[],0⟩),(207,0,⟨[(8,de)],[],[],0⟩),(256,0,⟨[(8,de)],[],[],0⟩),(258,0,⟨[(8,de)],[],[],0⟩)] n 10 87⟩
def F46:Nat->aA×Unit->FN:=
 λn b=>ai (F87 n (cU.mk b.1,())) λc=>aj (D.aO c.1.1) (Z ((2,()),())) (Z ((0,()),()))
def k46(n:Nat):OC:=⟨46,⟨P5,K2,J,F46 n⟩,cx [k87 n] [] n 10 46⟩
def F69:Y69:=
 λn b=>aj (D.ek b.2.1 b.1) (Z ((D.ek b.1 b.2.2.1,()),())) (Z ((J,()),()))
def k69(n:Nat):OC:=⟨69,⟨P6,K4,J,F69 n⟩,cx [] [] n 10 69⟩
def F47:Nat->List Int×Unit->Option fH:=
 λn b=>aj (D.ek (ak b.1) 50) (ai (@iter (Int×Unit) (Int×Unit) (Unit) (Any) (λc=>aj (D.bN c.1 (ak b.1)) (aC (av c.1 b.1) (ai
 (F69 n (aR b.1 (ah c.1) 0,(-1000000000),1000000000,())) λd=>aj (D.aO d.1.1) (Z (LO.ret () c)) (Z (LO.next (D.add .i64 c.1 1,
 ()))))) (Z (LO.out 0 c))) n (0,())) λc=>LO.el c (λ_ _=>Z ((D.aO J,()),())) (λ_ e=>Z ((D.aO (D.ek 0 e.1),()),()))
 λ_ _=>Y) (Z ((J,()),()))
def k47(n:Nat):OC:=⟨47,⟨P16,K4,J,F47 n⟩,cx [k69 n] [(207,0,⟨[(8,de)],[],[],0⟩)] n 10 47⟩
def F48:Y59:=
 λn _=>Z ((aq.mk 3 0,()),())
def YR(n:Nat):OC:=⟨48,⟨[],K17,J,F48 n⟩,cx [] [] n 10 48⟩
def F49:Nat->List Int×Unit->Option Y18:=λn b=>Z (b,())
def C49(n:Nat):bD prog 49 (⟨P16,K18,J,F49 n⟩:kT sg):=Se [] trivial (XR []) J n 10 49 P16 K18 (by kernel_rfl) (Eq.trans (by kernel_rfl:_=λb:List Int×Unit=>Gw (XV b.1) (Z (([],()),())) (Z (b,()))) (funext ri))
def k49(n:Nat):OC:=⟨49,⟨P16,K18,J,F49 n⟩,C49 n⟩
def abc:List (Nat×Ty):=
 [(170,Ty.st 12),(173,Ty.st 13),(175,Ty.st 14),(181,Ty.st 15)]
def F71:Nat->bZ×Unit->FN:=
 λn b=>aj (iG abc 3 (eN 16 b.1)) (Z ((0,()),())) (aj (iG abc 0 (eN 16 b.1)) (Z ((2,()),())) (Z ((1,()),())))
def k71(n:Nat):OC:=⟨71,⟨P19,K2,J,F71 n⟩,cx [] [] n 10 71⟩
def F170:Nat->List aD×Unit->Option ((List aD×Unit)×Unit):=λn b=>Z (b,())
def C170(n:Nat):bD prog 170 (⟨P20,K21,J,F170 n⟩:kT sg):=Se [] trivial (XR []) J n 10 170 P20 K21 (by kernel_rfl) (Eq.trans (by kernel_rfl:_=λb:List aD×Unit=>Gw (XV b.1) (Z (([],()),())) (Z (b,()))) (funext ri))
def afw(n:Nat):OC:=⟨170,⟨P20,K21,J,F170 n⟩,C170 n⟩
def F112:Y62:=
 λn b=>aj (D.aI b.1.1 4) (Z ((aq.mk 5 0,()),())) (aj (D.aI b.1.1 5) (Z ((aq.mk 5 0,()),())) (Z (b,())))
def afC(n:Nat):OC:=⟨112,⟨P22,K17,J,F112 n⟩,cx [] [] n 10 112⟩
def F114:Nat->fW×Unit->Option Y39:=
 λn b=>Z ((aE.mk 0 0 b.1.1 ax,()),())
def afB(n:Nat):OC:=⟨114,⟨P23,K24,J,F114 n⟩,cx [] [] n 10 114⟩
def F219:Nat->Bool×Int×Unit->Option Y20:=
 λn b=>aj (D.aO b.1) (Z (Rx.dh (Any.a0 (fW.mk b.2.1),()))) (Z (Rx.ok ((),())))
def Ca(n:Nat):OC:=⟨219,⟨P25,[],W,F219 n⟩,cx [] [] n 10 219⟩
def F171:Nat->Y1×Y2×List au×Unit->Option (Rx WV Y4):=
 λn b=>ai (F219 n (D.ek (D.add .i64 (ak b.1.2.2.1) (ak b.2.2.1)) 40,4,())) λc=>Rx.el c (λ_=>aC (Ch (ff 0 (ak b.1.2.2.1)
 (ak b.1.2.2.1)) (ia (ak b.1.2.2.1) (ak b.1.2.2.1))) (aC (cZ (ey b.1.2.2.1 0 (ak b.1.2.2.1)) b.2.2.1) (Z (Rx.ok ((),((),b.1.2.1,cP
 (ey b.1.2.2.1 0 (ak b.1.2.2.1)) b.2.2.1,b.1.2.2.2),b.2.1,()))))) λd=>Z (Rx.dh (d.1,b.1,b.2.1,()))
def acg(n:Nat):OC:=⟨171,⟨P26,[],W,F171 n⟩,cx [Ca n] [] n 10 171⟩
def AU(n:Nat):O5->Option O5:=
 λc=>LO.jn c (λd=>Z (LO.next d)) (λ_ _=>Y) (λ_ e=>Z (LO.ret () e)) λ_ _=>Y
def qn(n:Nat):FN:=
 Z ((1,()),())
def F173:Y16:=
 λn b=>ai (aj (D.aI b.1.1 6) (Z (LO.next (W,()))) (ai (aj (D.aI b.1.1 9) (Z (LO.next (W,()))) (ai (aj (D.aI b.1.1 10) (Z
 (LO.next (W,()))) (ai (aj (D.aI b.1.1 11) (Z (LO.next (W,()))) (ai (aj (D.aI b.1.1 12) (Z (LO.next (W,()))) (ai (aj (D.aI
 b.1.1 13) (Z (LO.next (W,()))) (ai (aj (D.aI b.1.1 18) (Z (LO.next (W,()))) (Z (LO.next (D.aI b.1.1 22,())))) (AU n)))
 (AU n))) (AU n))) (AU n))) (AU n))) (AU n))) λ(c:O5)=>LO.jn c (λd=>aj d.1 (Z ((2,()),())) (aj (D.aI b.1.1 14)
 (Z ((ak b.1.3,()),())) (aj (D.aI b.1.1 7) (qn n) (aj (D.aI b.1.1 8) (qn n) (aj (D.aI b.1.1 15) (qn n) (aj (D.aI b.1.1 16)
 (qn n) (aj (D.aI b.1.1 17) (qn n) (aj (D.aI b.1.1 19) (qn n) (aj (D.aI b.1.1 20) (qn n) (aj (D.aI b.1.1 23) (qn n) (aj
 (D.aI b.1.1 24) (qn n) (aj (D.aI b.1.1 26) (qn n) (Z ((0,()),())))))))))))))) (λ_ _=>Y) (λ_ e=>Z (e,())) λ_ _=>
 Y
def acf(n:Nat):OC:=⟨173,⟨P27,K2,J,F173 n⟩,cx [] [(173,1000003,⟨[(5,cX)],[],[],0⟩),(173,1000004,⟨[(5,cX)],[],[],0⟩),(173,1000005,⟨[(5,cX)],[],[],0⟩),(173,1000006,⟨[(5,cX)],[],[],0⟩),(173,1000007,⟨[(5,cX)],[],[],0⟩),(173,1000008,⟨[(5,cX)],[],[],0⟩),(173,1000009,⟨[(5,cX)],[],[],0⟩)] n 10 173⟩
def F174:Nat->Y1×Y2×Int×List aq×Unit->Option (Rx Y3 Y4):=
 λn b=>aC (av b.2.2.1 b.1.2.2.2.2.2.2.2.2.1) (ai (F171 n (b.1,b.2.1,[au.mk (aR b.1.2.2.2.2.2.2.2.2.1 (ah b.2.2.1) 0) b.2.2.2.1 []],
 ())) λc=>Rx.el c (λd=>Z (Rx.ok ((bZ.a3 ja.mk,()),d.2))) λd=>Z (Rx.dh d))
def Vp(n:Nat):OC:=⟨174,⟨P28,K29,W,F174 n⟩,cx [acg n] [] n 10 174⟩
def F271:Nat->Y1×Y2×aq×Unit->Option Y3:=
 λn b=>Z ((bZ.a3 ja.mk,()),((),b.1.2.1,b.1.2.2.1,b.1.2.2.2.1,b.1.2.2.2.2.1,b.1.2.2.2.2.2.1,b.1.2.2.2.2.2.2.1,
 b.1.2.2.2.2.2.2.2.1,b.1.2.2.2.2.2.2.2.2.1,b.1.2.2.2.2.2.2.2.2.2.1,[b.2.2.1],()),b.2.1,())
def Je(n:Nat):OC:=⟨271,⟨P30,K29,J,F271 n⟩,cx [] [] n 10 271⟩
def F272:adC:=
 λn b=>Z ((aq.mk 1 b.1,()),())
def YV(n:Nat):OC:=⟨272,⟨P11,K17,J,F272 n⟩,cx [] [] n 10 272⟩
def F273:ahx:=
 λn b=>aj b.1 (Z ((aq.mk 2 1,()),())) (Z ((aq.mk 2 0,()),()))
def YU(n:Nat):OC:=⟨273,⟨P31,K17,J,F273 n⟩,cx [] [] n 10 273⟩
def J1(n:Nat)(b:Y1×Y2×Unit):Tj->Option Y3:=
 λc=>ai (F271 n (b.1,b.2.1,c.1)) λd=>Z d
def F221:Y28:=
 λn b=>aj (D.aI b.1.2.2.2.2.2.2.1 1) (ai (F272 n (b.1.2.2.2.2.2.2.2.1,())) (J1 n b)) (aj (D.aI b.1.2.2.2.2.2.2.1 2) (ai (F273 n (D.aI
 b.1.2.2.2.2.2.2.2.1 1,())) (J1 n b)) (ai (F48 n ()) (J1 n b)))
def akB(n:Nat):OC:=⟨221,⟨Cj,K29,J,F221 n⟩,cx [YR n,Je n,YV n,YU n] [] n 10 221⟩
def F222:Y5:=
 λn b=>aj (D.bN b.1.2.2.2.2.2.2.2.1 0) (ai (F271 n (b.1,b.2.1,aq.mk 4 (D.dI .i64 (-1) b.1.2.2.2.2.2.2.2.1),())) λc=>Z (Rx.ok
 c)) (ai (F219 n (D.bN b.1.2.2.2.2.2.2.2.1 (ak b.1.2.2.2.2.1),2,())) λc=>Rx.el c (λ_=>aC (av b.1.2.2.2.2.2.2.2.1 b.1.2.2.2.2.1) (ai
 (F271 n (b.1,b.2.1,aR b.1.2.2.2.2.1 (ah b.1.2.2.2.2.2.2.2.1) ax,())) λe=>Z (Rx.ok e))) λd=>Z (Rx.dh (d.1,b)))
def akA(n:Nat):OC:=⟨222,⟨Cj,K29,W,F222 n⟩,cx [Ca n,Je n] [] n 10 222⟩
def sH(b:Gx):Int:=
 ak b.2.1.2.2.2.2.1
def F274:Nat->Gx->Option (Rx adN Y4):=
 λn b=>ai (F219 n (D.bN (sH b) 120,4,())) λc=>Rx.el c (λ_=>aC (Ch (ff 0 (sH b) (sH b)) (ia (sH b) (sH b)))
 (aC (cZ (ey b.2.1.2.2.2.2.1 0 (sH b)) [b.2.2.1]) (Z (Rx.ok ((aq.mk 5 (D.dI .i64 (ak (cP (ey b.2.1.2.2.2.2.1 0 (sH b))
 [b.2.2.1])) 1),()),b.1,(b.2.1.1,b.2.1.2.1,b.2.1.2.2.1,b.2.1.2.2.2.1,cP (ey b.2.1.2.2.2.2.1 0 (sH b)) [b.2.2.1],b.2.1.2.2.2.2.2),
 ()))))) λd=>Z (Rx.dh (d.1,b.1,b.2.1,()))
def Ss(n:Nat):OC:=⟨274,⟨P33,K17,W,F274 n⟩,cx [Ca n] [] n 10 274⟩
def F223:Y5:=
 λn b=>ai (F274 n (b.1,b.2.1,aD.mk 2 b.1.2.2.2.1 b.1.2.2.2.2.1 [],())) λc=>Rx.el c (λd=>ai (F271 n (d.2.1,d.2.2.1,d.1)) λe
 =>Z (Rx.ok e)) λd=>Z (Rx.dh d)
def akz(n:Nat):OC:=⟨223,⟨Cj,K29,W,F223 n⟩,cx [Je n,Ss n] [] n 10 223⟩
def F277:Nat->Y99->Option (Rx Y44 (Any×Unit)):=
 λn b=>ai (F219 n (D.ek (D.add .i64 (ak b.1) (ak b.2.1)) 30,4,())) λc=>Rx.el c (λ_=>aC (Ch (ff 0 (ak b.1) (ak b.1)) (ia
 (ak b.1) (ak b.1))) (aC (cZ (ey b.1 0 (ak b.1)) b.2.1) (Z (Rx.ok ((cP (ey b.1 0 (ak b.1)) b.2.1,()),()))))) λd=>Z (Rx.dh
 d)
def YT(n:Nat):OC:=⟨277,⟨P34,K35,W,F277 n⟩,cx [Ca n] [] n 10 277⟩
def F298:Nat->ahA->Option ahM:=
 λn b=>aj (D.aO (D.aI b.2.2.1.1 5)) (Z ((aT,J,()),b.1,b.2.1,())) (aC (av b.2.2.1.2 b.2.1.2.2.2.2.1) (aj (D.aO (D.aI
 (aR b.2.1.2.2.2.2.1 (ah b.2.2.1.2) aT).1 b.2.2.2.1)) (Z ((aT,J,()),b.1,b.2.1,())) (aC (av b.2.2.1.2 b.2.1.2.2.2.2.1)
 (Z ((aR b.2.1.2.2.2.2.1 (ah b.2.2.1.2) aT,W,()),b.1,b.2.1,())))))
def ab7(n:Nat):OC:=⟨298,⟨P36,K37,J,F298 n⟩,cx [] [] n 10 298⟩
def F275:Nat->Y55->Option (Rx (Y56×Y1×Y2×Unit) Y4):=
 λn b=>aj (D.aI b.2.2.1.1 4) (aC (av b.2.2.1.2 b.2.1.2.1) (Z (Rx.ok ((au.mk (aR b.2.1.2.1 (ah b.2.2.1.2) 0) [b.2.2.2.1] [],W,
 ()),b.1,b.2.1,())))) (ai (F298 n (b.1,b.2.1,b.2.2.1,2,())) λc=>aj (D.aO c.1.2.1) (Z (Rx.ok ((aU,J,()),c.2))) (aC
 (av c.1.1.2 c.2.2.1.1) (aC (av 0 (aR c.2.2.1.1 (ah c.1.1.2) aN).3) (ai (F277 n (c.1.1.3,[b.2.2.2.1],())) λd=>Rx.el d (λe=>
 Z (Rx.ok ((au.mk (aR (aR c.2.2.1.1 (ah c.1.1.2) aN).3 (ah 0) 0) e.1.1 [],W,()),c.2))) λe=>Z (Rx.dh (e.1,
 c.2))))))
def afj(n:Nat):OC:=⟨275,⟨P38,K39,W,F275 n⟩,cx [YT n,ab7 n] [] n 10 275⟩
def F276:Nat->ahA->Option (Rx ((aD×Unit)×Y1×Y2×Unit) Y4):=
 λn b=>ai (F298 n b) λc=>ai (F219 n (c.1.2.1,2,())) λd=>Rx.el d (λ_=>Z (Rx.ok ((c.1.1,()),c.2))) λe=>Z (Rx.dh
 (e.1,c.2))
def Oe(n:Nat):OC:=⟨276,⟨P36,K40,W,F276 n⟩,cx [Ca n,ab7 n] [] n 10 276⟩
def F224:Y5:=
 λn b=>aC (av 0 b.1.2.2.2.2.2.1) (aC (av 1 b.1.2.2.2.2.2.1) (ai (F275 n (b.1,b.2.1,aR b.1.2.2.2.2.2.1 (ah 0) ax,aR
 b.1.2.2.2.2.2.1 (ah 1) ax,())) λc=>Rx.el c (λd=>aj d.1.2.1 (ai (F171 n (d.2.1,d.2.2.1,[d.1.1],())) λe=>Rx.el e (λg=>
 Z (Rx.ok ((bZ.a3 ja.mk,()),g.2))) λg=>Z (Rx.dh g)) (aC (av 0 d.2.1.2.2.2.2.2.1) (ai (F276 n (d.2.1,d.2.2.1,aR
 d.2.1.2.2.2.2.2.1 (ah 0) ax,5,())) λe=>Rx.el e (λg=>ai (F171 n (g.2.1,g.2.2.1,g.1.1.4,())) λh=>Rx.el h (λi=>aC (av
 1 i.2.1.2.2.2.2.2.1) (ai (F271 n (i.2.1,i.2.2.1,aR i.2.1.2.2.2.2.2.1 (ah 1) ax,())) λj=>Z (Rx.ok j))) λi=>Z (Rx.dh i))
 λg=>Z (Rx.dh g)))) λd=>Z (Rx.dh d)))
def aky(n:Nat):OC:=⟨224,⟨Cj,K29,W,F224 n⟩,cx [acg n,Je n,afj n,Oe n] [] n 10 224⟩
def F225:Y5:=
 λn b=>aC (av 0 b.1.2.2.2.2.2.1) (ai (F277 n (b.1.2.2.2.2.1,[aR b.1.2.2.2.2.2.1 (ah 0) ax],())) λc=>Rx.el c (λd=>ai (F174
 n (b.1,b.2.1,1,d.1)) λe=>Rx.el e (λg=>Z (Rx.ok g)) λg=>Z (Rx.dh g)) λd=>Z (Rx.dh (d.1,b)))
def akx(n:Nat):OC:=⟨225,⟨Cj,K29,W,F225 n⟩,cx [Vp n,YT n] [] n 10 225⟩
def F226:Y5:=
 λn b=>aC (av 0 b.1.2.2.2.2.2.1) (ai (F219 n (D.aI (aR b.1.2.2.2.2.2.1 (ah 0) ax).1 2,2,())) λc=>Rx.el c (λ_=>aC (av 0
 b.1.2.2.2.2.2.1) (ai (F174 n (b.1,b.2.1,D.dI .i64 2 (aR b.1.2.2.2.2.2.1 (ah 0) ax).2,b.1.2.2.2.2.1,())) λe=>Rx.el e (λg=>Z
 (Rx.ok g)) λg=>Z (Rx.dh g))) λd=>Z (Rx.dh (d.1,b)))
def akw(n:Nat):OC:=⟨226,⟨Cj,K29,W,F226 n⟩,cx [Vp n,Ca n] [] n 10 226⟩
def Ph(n:Nat)(b:Y1×Y2×Unit):Y20->Y98:=
 λc=>Rx.el c (λ_=>aC (av 0 b.1.2.2.2.2.2.1) (aC (av 1 b.1.2.2.2.2.2.1) (Z (Rx.ok (((aR b.1.2.2.2.2.2.1 (ah 0) ax).2,(aR
 b.1.2.2.2.2.2.1 (ah 1) ax).2,()),b))))) λd=>Z (Rx.dh (d.1,b))
def F278:Nat->Y1×Y2×Unit->Y98:=
 λn b=>aC (av 0 b.1.2.2.2.2.2.1) (aj (D.aI (aR b.1.2.2.2.2.2.1 (ah 0) ax).1 1) (aC (av 1 b.1.2.2.2.2.2.1) (ai (F219 n (D.aI (aR
 b.1.2.2.2.2.2.1 (ah 1) ax).1 1,2,())) (Ph n b))) (ai (F219 n (J,2,())) (Ph n b)))
def afi(n:Nat):OC:=⟨278,⟨Cj,K41,W,F278 n⟩,cx [Ca n] [] n 10 278⟩
def F227:Y5:=
 λn b=>ai (F278 n b) λc=>Rx.el c (λd=>ai (aj (D.aI d.2.1.2.2.2.2.2.2.1 10) (Z (LO.next (D.dI .i64 d.1.1 d.1.2.1,W,())))
 (ai (aj (D.aI d.2.1.2.2.2.2.2.2.1 11) (Z (LO.next (D.mul .i64 d.1.1 d.1.2.1,W,()))) (Z (LO.next (D.add .i64 d.1.1 d.1.2.1,J,()))))
 λ(e:Y6)=>LO.jn e (λg=>Z (LO.next (g.1,J,()))) (λ_ _=>Y) (λ_ h=>Z (LO.ret () h)) λ_ h=>Z (LO.dh () h)))
 λ(e:Y6)=>LO.jn e (λg=>ai (F69 n (g.1,(-1000000000),1000000000,())) λh=>ai (F219 n (h.1.1,4,())) λi=>Rx.el i (λ_=>ai
 (F272 n (g.1,())) λk=>ai (F271 n (d.2.1,d.2.2.1,k.1)) λl=>Z (Rx.ok l)) λj=>Z (Rx.dh (j.1,d.2))) (λ_ _=>Y) (λ_ h
 =>Z (Rx.ok (h,d.2))) λ_ h=>Z (Rx.dh (h,d.2))) λd=>Z (Rx.dh d)
def akv(n:Nat):OC:=⟨227,⟨Cj,K29,W,F227 n⟩,cx [k69 n,Ca n,Je n,YV n,afi n] [(227,1000005,⟨[(5,de),(19,cX)],[],[],0⟩),(227,1000007,⟨[(5,de),(24,cX)],[],[],0⟩)] n 10 227⟩
def F228:Y5:=
 λn b=>ai (F278 n b) λc=>Rx.el c (λd=>ai (F273 n (D.bN d.1.1 d.1.2.1,())) λe=>ai (F271 n (d.2.1,d.2.2.1,e.1)) λg=>Z
 (Rx.ok g)) λd=>Z (Rx.dh d)
def aku(n:Nat):OC:=⟨228,⟨Cj,K29,W,F228 n⟩,cx [Je n,YU n,afi n] [] n 10 228⟩
def Pn(b:Y1×Y2×Unit):Bool:=
 D.aI (aR b.1.2.2.2.2.2.1 (ah 0) ax).1 (aR b.1.2.2.2.2.2.1 (ah 1) ax).1
def Pm(n:Nat)(b:Y1×Y2×Unit):Y20->Option (Rx Y3 Y4):=
 λc=>Rx.el c (λ_=>ai (F273 n (D.fA (Pn b) (D.fA (D.aI (aR b.1.2.2.2.2.2.1 (ah 0) ax).2 (aR b.1.2.2.2.2.2.1 (ah 1)
 ax).2) W),())) λe=>ai (F271 n (b.1,b.2.1,e.1)) λg=>Z (Rx.ok g)) λd=>Z (Rx.dh (d.1,b))
def F229:Y5:=
 λn b=>aC (av 0 b.1.2.2.2.2.2.1) (aC (av 1 b.1.2.2.2.2.2.1) (aj (Pn b) (ai (F219 n (D.ek (aR b.1.2.2.2.2.2.1 (ah 0) ax).1 3,
 2,())) (Pm n b)) (ai (F219 n (J,2,())) (Pm n b))))
def akt(n:Nat):OC:=⟨229,⟨Cj,K29,W,F229 n⟩,cx [Ca n,Je n,YU n] [] n 10 229⟩
def F230:Y5:=
 λn b=>ai (F274 n (b.1,b.2.1,aD.mk 1 b.1.2.2.2.2.2.2.2.1 b.1.2.2.2.2.2.1 [],())) λc=>Rx.el c (λd=>ai (F271 n (d.2.1,d.2.2.1,
 d.1)) λe=>Z (Rx.ok e)) λd=>Z (Rx.dh d)
def aks(n:Nat):OC:=⟨230,⟨Cj,K29,W,F230 n⟩,cx [Je n,Ss n] [] n 10 230⟩
abbrev Uq(F:Fn P42 K4 J):kT sg:=⟨P42,K4,J,F⟩
def A3(n:Nat)(f279:O6->Tn)(c:O6):Tj->Tn:=
 λd=>Z ((D.fA (D.aI c.2.2.2.1.1 d.1.1.1) (D.fA (D.aI c.2.2.2.1.2 d.1.1.2) W),()),c.1,c.2.1,c.2.2.2.2)
def FI(n:Nat)(f279:O6->Tn)(c:O6)(d:ahM):Tn:=
 Z ((J,()),d.2.1,d.2.2.1,c.2.2.2.2)
def Kh(c:O6)(e:ahL):aB:=
 aR c.2.2.1.4 (ah e.1) aL
def B279:Nat->(O6->Tn)->O6->Tn:=
 λn f279 c=>aj (D.aI c.2.2.1.1 2) (aC (cZ c.2.2.2.2.1.1 [c.2.2.2.1]) (Z ((W,()),c.1,c.2.1,(cP c.2.2.2.2.1.1 [c.2.2.2.1],()),
 ()))) (aj (D.aI c.2.2.1.1 3) (ai (F272 n (c.2.2.1.2,())) (A3 n f279 c)) (aj (D.aI c.2.2.1.1 4) (ai (F273 n (D.aI c.2.2.1.2 1,())) (A3
 n f279 c)) (aj (D.aI c.2.2.1.1 5) (ai (F48 n ()) (A3 n f279 c)) (aj (D.aI c.2.2.1.1 6) (ai (F298 n (c.1,c.2.1,c.2.2.2.1,1,())) λd=>
 aj (D.aO d.1.2.1) (FI n f279 c d) (aj (D.aO (D.aI d.1.1.2 c.2.2.1.2)) (FI n f279 c d) (aj (D.aO (D.aI (ak d.1.1.3) (ak
 c.2.2.1.4))) (FI n f279 c d) (ai (@iter (ahL) (Bool×Unit) (Y1×Y2×(List aq×Unit)×Unit) (Any) (λe=>aj (D.bN e.1 (ak
 c.2.2.1.4)) (aC (av e.1 c.2.2.1.4) (aC (av e.1 d.1.1.3) (ai (f279 (e.2.1,e.2.2.1,aB.mk (Kh c e).1 (Kh c e).2 (Kh c e).3
 (Kh c e).4,aR d.1.1.3 (ah e.1) ax,e.2.2.2)) λg=>aj (D.aO g.1.1) (Z (LO.ret g.2 (J,()))) (Z (LO.next (D.add .i64 e.1
 1,g.2)))))) (Z (LO.out 0 e))) n (0,d.2.1,d.2.2.1,c.2.2.2.2)) λe=>LO.el e (λ_ h=>Z ((W,()),h.2)) (λg h=>Z (h,g)) λ_
 _=>Y)))) (Z ((W,()),c.1,c.2.1,c.2.2.2.2))))))
def D279(n:Nat)(f279:Fn P42 K4 J)(b:bD prog 279 (Uq f279)):bD prog 279 (Uq (B279 n f279)):=cx [YR n,YV n,YU n,⟨279,Uq f279,b⟩,ab7 n] [(279,1,⟨[(74,de),(0,TN),(0,TM),(0,.box (.cells [.own (.st 4)]))],[.slot 0,.cell (.slot 0) 0,.slot 3],[],0⟩)] n 10 279
def R279(n k:Nat):(Fn P42 K4 J):=Nat.rec (motive:=λ_=>(Fn P42 K4 J)) (λ_=>Y) (λ_ r=>B279 n r) k
def F279(n:Nat):Fn P42 K4 J:=(R279 n n)
def abk(n:Nat):∀k,bD prog 279 (Uq (R279 n k))
 |0=>bY (enters 279 (by kernel_rfl))
 |k+1=>have b:=abk n k
  D279 n _ b
def aj4(n:Nat):OC:=⟨279,Uq (F279 n),(abk n n)⟩
def Fw(b:Y1×Y2×Unit)(c:aht):aB:=
 aR b.1.2.2.2.2.2.2.2.2.2.1 (ah c.1) aL
def F231:Y5:=
 λn b=>ai (@iter (aht) (bZ×Unit) (Y1×Y2×Unit) (Any) (λc=>aj (D.bN c.1 (ak b.1.2.2.2.2.2.2.2.2.2.1)) (aC (av c.1
 b.1.2.2.2.2.2.2.2.2.2.1) (aC (av 0 c.2.1.2.2.2.2.2.1) (ai (F279 n (c.2.1,c.2.2.1,aB.mk (Fw b c).1 (Fw b c).2 (Fw b c).3 (Fw
 b c).4,aR c.2.1.2.2.2.2.2.1 (ah 0) ax,([],()),())) λd=>aj d.1.1 (ai (F277 n (d.2.1.2.2.2.2.1,d.2.2.2.1)) λe=>Rx.el e (λg
 =>ai (F174 n (d.2.1,d.2.2.1,D.add .i64 c.1 1,g.1)) λh=>Rx.el h (λi=>Z (LO.ret i.2 i.1)) λi=>Z (LO.dh i.2 i.1)) λg=>Z
 (LO.dh (d.2.1,d.2.2.1,()) g.1)) (Z (LO.next (D.add .i64 c.1 1,d.2.1,d.2.2.1,())))))) (Z (LO.out 0 c))) n (0,b)) λc=>LO.el c (λ_ e
 =>Z (Rx.dh (Any.a0 (fW.mk 3),e.2))) (λd e=>Z (Rx.ok (e,d))) λd e=>Z (Rx.dh (e,d))
def akr(n:Nat):OC:=⟨231,⟨Cj,K29,W,F231 n⟩,cx [Vp n,YT n,aj4 n] [(231,0,⟨[(12,de),(0,TN),(0,TM)],[.slot 0,.cell (.slot 0) 0],[],0⟩)] n 10 231⟩
def JZ(b:Y55):Y1×Y2×Unit:=
 (((),b.1.2.1,b.1.2.2.1,b.1.2.2.2.1,b.1.2.2.2.2.1,b.1.2.2.2.2.2.1,b.1.2.2.2.2.2.2.1,b.1.2.2.2.2.2.2.2.1,b.1.2.2.2.2.2.2.2.2.1,
 b.1.2.2.2.2.2.2.2.2.2.1,[b.2.2.1],()),b.2.1,())
def F280:Nat->Y55->Option Y3:=
 λn b=>ai (F112 n b.2.2.2) λc=>aj (D.aI b.1.2.2.2.2.2.2.1 24) (Z ((bZ.a1 (gB.mk (aE.mk b.1.2.1 b.1.2.2.2.2.2.2.1
 b.1.2.2.2.2.2.2.2.1 c.1.1)),()),JZ b)) (Z ((bZ.a1 (gB.mk (aE.mk b.1.2.1 b.1.2.2.2.2.2.2.1 0 c.1.1)),()),JZ b))
def Ec(n:Nat):OC:=⟨280,⟨P38,K29,J,F280 n⟩,cx [afC n] [] n 10 280⟩
def F232:Y5:=
 λn b=>aC (av 0 b.1.2.2.2.2.2.1) (ai (F274 n (b.1,b.2.1,aD.mk 3 0 [aR b.1.2.2.2.2.2.1 (ah 0) ax] [],())) λc=>Rx.el c (λ
 d=>ai (F280 n (d.2.1,d.2.2.1,d.1.1,aR b.1.2.2.2.2.2.1 (ah 0) ax,())) λe=>Z (Rx.ok e)) λd=>Z (Rx.dh d))
def akq(n:Nat):OC:=⟨232,⟨Cj,K29,W,F232 n⟩,cx [Ss n,Ec n] [] n 10 232⟩
def F233:Y5:=
 λn b=>aC (av 0 b.1.2.2.2.2.2.1) (ai (F276 n (b.1,b.2.1,aR b.1.2.2.2.2.2.1 (ah 0) ax,3,())) λc=>Rx.el c (λd=>aC (av 0
 d.1.1.3) (ai (F280 n (d.2.1,d.2.2.1,aR d.1.1.3 (ah 0) ax,aR d.1.1.3 (ah 0) ax,())) λe=>Z (Rx.ok e))) λd=>Z
 (Rx.dh d))
def akp(n:Nat):OC:=⟨233,⟨Cj,K29,W,F233 n⟩,cx [Oe n,Ec n] [] n 10 233⟩
def F281:Nat->Y1×Y2×Int×aD×Unit->Option WV:=
 λn b=>ai (F170 n (b.2.1.2.2.2.2.1,())) λc=>aC (av b.2.2.1 c.1.1) (aC (ct (ah b.2.2.1) c.1.1) (Z ((),b.1,(b.2.1.1,b.2.1.2.1,
 b.2.1.2.2.1,b.2.1.2.2.2.1,dO c.1.1 (ah b.2.2.1) b.2.2.2.1,b.2.1.2.2.2.2.2),())))
def ab8(n:Nat):OC:=⟨281,⟨P43,[],J,F281 n⟩,cx [afw n] [] n 10 281⟩
def F234:Y5:=
 λn b=>aC (av 0 b.1.2.2.2.2.2.1) (ai (F276 n (b.1,b.2.1,aR b.1.2.2.2.2.2.1 (ah 0) ax,3,())) λc=>Rx.el c (λd=>aC (av 0
 d.2.1.2.2.2.2.2.1) (aC (av 1 d.2.1.2.2.2.2.2.1) (ai (F281 n (d.2.1,d.2.2.1,(aR d.2.1.2.2.2.2.2.1 (ah 0) ax).2,aD.mk 3 0 [aR
 d.2.1.2.2.2.2.2.1 (ah 1) ax] [],())) λe=>ai (F48 n ()) λg=>aC (av 1 e.2.1.2.2.2.2.2.1) (ai (F280 n (e.2.1,e.2.2.1,g.1.1,aR
 e.2.1.2.2.2.2.2.1 (ah 1) ax,())) λh=>Z (Rx.ok h))))) λd=>Z (Rx.dh d))
def ako(n:Nat):OC:=⟨234,⟨Cj,K29,W,F234 n⟩,cx [YR n,Oe n,Ec n,ab8 n] [] n 10 234⟩
def xJ(j:adN):Int:=
 ak j.2.2.1.2.2.2.2.2.1
def F235:Y5:=
 λn b=>aC (av 0 b.1.2.2.2.2.2.1) (ai (F48 n ()) λc=>ai (F275 n (b.1,b.2.1,aR b.1.2.2.2.2.2.1 (ah 0) ax,c.1)) λd=>Rx.el d
 (λe=>ai (aj e.1.2.1 (Z (LO.next (W,e.2.1,e.2.2.1,(6,0,[],[e.1.1],()),()))) (aC (av 0 e.2.1.2.2.2.2.2.1) (ai (F276 n (e.2.1,
 e.2.2.1,aR e.2.1.2.2.2.2.2.1 (ah 0) ax,5,())) λg=>Rx.el g (λh=>ai (F48 n ()) λi=>Z (LO.next (J,h.2.1,h.2.2.1,(6,
 0,[i.1.1],h.1.1.4,()),()))) λh=>Z (LO.dh (h.2.1,h.2.2.1,(6,0,[],[],()),()) h.1)))) λ(g:LO (Bool×Y1×Y2×zK×Unit)
 (bZ×Unit) (Y1×Y2×zK×Unit) Any)=>LO.jn g (λh=>ai (F274 n (h.2.1,h.2.2.1,aD.mk h.2.2.2.1.1 h.2.2.2.1.2.1 h.2.2.2.1.2.2.1
 h.2.2.2.1.2.2.2.1,())) λi=>Rx.el i (λj=>aC (Ch (ff 0 (xJ j) (xJ j)) (ia (xJ j) (xJ j))) (aC (cZ (ey
 j.2.2.1.2.2.2.2.2.1 0 (xJ j)) [j.1.1.2]) (ai (F48 n ()) λk=>ai (F280 n (j.2.1,(j.2.2.1.1,j.2.2.1.2.1,j.2.2.1.2.2.1,j.2.2.1.2.2.2.1,
 j.2.2.1.2.2.2.2.1,cP (ey j.2.2.1.2.2.2.2.2.1 0 (xJ j)) [j.1.1.2],j.2.2.1.2.2.2.2.2.2),j.1.1,k.1)) λl=>Z (Rx.ok l)))) λj=>Z
 (Rx.dh j)) (λ_ _=>Y) (λh i=>Z (Rx.ok (i,h.1,h.2.1,()))) λh i=>Z (Rx.dh (i,h.1,h.2.1,()))) λe=>Z (Rx.dh e))
def akn(n:Nat):OC:=⟨235,⟨Cj,K29,W,F235 n⟩,cx [YR n,Ss n,afj n,Oe n,Ec n] [(235,1000004,⟨[(21,cX),(0,TN),(0,TM),(0,ag7)],[.slot 0,.cell (.slot 0) 0,.slot 3],[],0⟩)] n 10 235⟩
def F236:Y5:=
 λn b=>aC (av 0 b.1.2.2.2.2.2.1) (ai (F276 n (b.1,b.2.1,aR b.1.2.2.2.2.2.1 (ah 0) ax,6,())) λc=>Rx.el c (λd=>aj (D.aI
 d.1.1.2 0) (Z (Rx.ok ((bZ.a0 iz.mk,()),d.2))) (aj (D.aI d.1.1.2 1) (aC (av 0 d.1.1.3) (aC (av 0 d.1.1.3) (ai (F280 n (d.2.1,
 d.2.2.1,aR d.1.1.3 (ah 0) ax,aR d.1.1.3 (ah 0) ax,())) λe=>Z (Rx.ok e)))) (Z (Rx.dh (Any.a0 (fW.mk d.1.1.2),
 d.2))))) λd=>Z (Rx.dh d))
def akm(n:Nat):OC:=⟨236,⟨Cj,K29,W,F236 n⟩,cx [Oe n,Ec n] [] n 10 236⟩
def F237:Y5:=
 λn b=>ai (F274 n (b.1,b.2.1,aD.mk 4 0 [] [],())) λc=>Rx.el c (λd=>ai (F48 n ()) λe=>ai (F280 n (d.2.1,d.2.2.1,d.1.1,
 e.1)) λg=>Z (Rx.ok g)) λd=>Z (Rx.dh d)
def akl(n:Nat):OC:=⟨237,⟨Cj,K29,W,F237 n⟩,cx [YR n,Ss n,Ec n] [] n 10 237⟩
def F238:Y5:=
 λn b=>aC (av 0 b.1.2.2.2.2.2.1) (ai (F276 n (b.1,b.2.1,aR b.1.2.2.2.2.2.1 (ah 0) ax,4,())) λc=>Rx.el c (λd=>aj (D.aI
 (ak d.1.1.3) 4) (Z (Rx.ok ((bZ.a0 iz.mk,()),d.2))) (aC (av 1 d.2.1.2.2.2.2.2.1) (aC (Ch (ff 0 (ak d.1.1.3) (ak d.1.1.3))
 (ia (ak d.1.1.3) (ak d.1.1.3))) (aC (cZ (ey d.1.1.3 0 (ak d.1.1.3)) [aR d.2.1.2.2.2.2.2.1 (ah 1) ax]) (aC (av 0
 d.2.1.2.2.2.2.2.1) (ai (F281 n (d.2.1,d.2.2.1,(aR d.2.1.2.2.2.2.2.1 (ah 0) ax).2,aD.mk d.1.1.1 d.1.1.2 (cP (ey d.1.1.3 0 (ak
 d.1.1.3)) [aR d.2.1.2.2.2.2.2.1 (ah 1) ax]) d.1.1.4,())) λe=>ai (F48 n ()) λg=>aC (av 1 e.2.1.2.2.2.2.2.1) (ai (F280 n (e.2.1,
 e.2.2.1,g.1.1,aR e.2.1.2.2.2.2.2.1 (ah 1) ax,())) λh=>Z (Rx.ok h)))))))) λd=>Z (Rx.dh d))
def akk(n:Nat):OC:=⟨238,⟨Cj,K29,W,F238 n⟩,cx [YR n,Oe n,Ec n,ab8 n] [] n 10 238⟩
def F239:Y5:=
 λn b=>aC (av 0 b.1.2.2.2.2.2.1) (ai (F276 n (b.1,b.2.1,aR b.1.2.2.2.2.2.1 (ah 0) ax,4,())) λc=>Rx.el c (λd=>aj (D.aI
 (ak d.1.1.3) 0) (Z (Rx.ok ((bZ.a0 iz.mk,()),d.2))) (aC (av 0 d.1.1.3) (aC (ff 1 (ak d.1.1.3) (ak d.1.1.3)) (aC (av 0
 d.2.1.2.2.2.2.2.1) (ai (F281 n (d.2.1,d.2.2.1,(aR d.2.1.2.2.2.2.2.1 (ah 0) ax).2,aD.mk d.1.1.1 d.1.1.2 (ey d.1.1.3 1 (ak
 d.1.1.3)) d.1.1.4,())) λe=>ai (F280 n (e.2.1,e.2.2.1,aR d.1.1.3 (ah 0) ax,aR d.1.1.3 (ah 0) ax,())) λg=>Z (Rx.ok
 g)))))) λd=>Z (Rx.dh d))
def akj(n:Nat):OC:=⟨239,⟨Cj,K29,W,F239 n⟩,cx [Oe n,Ec n,ab8 n] [] n 10 239⟩
def Fv(b:Y1×Y2×Unit):aq:=
 aR b.1.2.2.2.2.2.1 (ah 0) ax
def uK(b:Y1×Y2×Unit):Int:=
 ak b.2.1.2.2.2.2.2.2.1
def F240:Y5:=
 λn b=>aC (av 0 b.1.2.2.2.2.2.1) (ai (F219 n (D.aI (Fv b).1 1,2,())) λc=>Rx.el c (λ_=>ai (F219 n (D.bN (uK b) 100,4,
 ())) λe=>Rx.el e (λ_=>aC (Ch (ff 0 (uK b) (uK b)) (ia (uK b) (uK b))) (aC (cZ (ey b.2.1.2.2.2.2.2.2.1 0 (uK
 b)) [dV.mk b.1.2.2.2.2.2.2.2.1 (Fv b).2]) (ai (F48 n ()) λh=>ai (F280 n (b.1,(b.2.1.1,b.2.1.2.1,b.2.1.2.2.1,b.2.1.2.2.2.1,
 b.2.1.2.2.2.2.1,b.2.1.2.2.2.2.2.1,cP (ey b.2.1.2.2.2.2.2.2.1 0 (uK b)) [dV.mk b.1.2.2.2.2.2.2.2.1 (Fv b).2],b.2.1.2.2.2.2.2.2.2),
 h.1.1,Fv b,())) λi=>Z (Rx.ok i)))) λg=>Z (Rx.dh (g.1,b))) λd=>Z (Rx.dh (d.1,b)))
def aki(n:Nat):OC:=⟨240,⟨Cj,K29,W,F240 n⟩,cx [YR n,Ca n,Ec n] [] n 10 240⟩
def Fu(b:Y1×Y2×Unit):Int:=
 ak b.2.1.2.2.2.2.2.2.2.1
def F241:Y5:=
 λn b=>aj (D.aI (Fu b) 0) (Z (Rx.ok ((bZ.a0 iz.mk,()),b))) (ai (F219 n (D.bN b.2.1.2.2.2.2.2.2.2.2.1 1000000000,4,()))
 λc=>Rx.el c (λ_=>aC (av 0 b.2.1.2.2.2.2.2.2.2.1) (ai (F272 n (aR b.2.1.2.2.2.2.2.2.2.1 (ah 0) 0,())) λe=>aC (ff 1 (Fu b)
 (Fu b)) (ai (F280 n (b.1,(b.2.1.1,b.2.1.2.1,b.2.1.2.2.1,b.2.1.2.2.2.1,b.2.1.2.2.2.2.1,b.2.1.2.2.2.2.2.1,b.2.1.2.2.2.2.2.2.1,ey
 b.2.1.2.2.2.2.2.2.2.1 1 (Fu b),D.add .i64 b.2.1.2.2.2.2.2.2.2.2.1 1,()),e.1.1,e.1)) λg=>Z (Rx.ok g)))) λd=>Z (Rx.dh (d.1,b)))
def akh(n:Nat):OC:=⟨241,⟨Cj,K29,W,F241 n⟩,cx [Ca n,YV n,Ec n] [] n 10 241⟩
def F242:Y28:=
 λn b=>aC (av 0 b.1.2.2.2.2.2.1) (ai (F271 n (b.1,b.2.1,aR b.1.2.2.2.2.2.1 (ah 0) ax,())) λc=>Z c)
def akg(n:Nat):OC:=⟨242,⟨Cj,K29,J,F242 n⟩,cx [Je n] [] n 10 242⟩
def F160:Nat->Y22->Option (Y22×Unit):=λn b=>Z (b,())
def C160(n:Nat):bD prog 160 (⟨P44,K45,J,F160 n⟩:kT sg):=Se [] trivial (XR []) J n 10 160 P44 K45 (by kernel_rfl) (Eq.trans (by kernel_rfl:_=λb:Y22=>Gw (XV b.1) (Z (([],()),())) (Z (b,()))) (funext ri))
def ach(n:Nat):OC:=⟨160,⟨P44,K45,J,F160 n⟩,C160 n⟩
def Pj(e:Int×Unit)(k:adN):Y1:=
 ((),k.2.1.2.1,ey k.2.1.2.2.1 0 (D.add .i64 e.1 1),k.2.1.2.2.2)
def F243:Y5:=
 λn b=>ai (@iter (Int×Unit) (bZ×Unit) (Unit) (Any) (λc=>aj (D.ek 0 c.1) (aC (av c.1 b.1.2.2.1) (aC (av (aR b.1.2.2.1 (ah
 c.1) aU).1 b.2.1.1) (aj (D.aO (D.aI (aR b.2.1.1 (ah (aR b.1.2.2.1 (ah c.1) aU).1) aN).1 26)) (Z (LO.next (D.dI .i64
 c.1 1,()))) (Z (LO.out 0 c))))) (Z (LO.out 0 c))) n (D.dI .i64 (ak b.1.2.2.1) 1,())) λc=>LO.el c (λ_ e=>ai (F219 n (D.ek 0 e.1,
 3,())) λg=>Rx.el g (λ_=>aC (ff e.1 (ak b.1.2.2.1) (ak b.1.2.2.1)) (ai (F160 n (ey b.1.2.2.1 e.1 (ak b.1.2.2.1),())) λi=>
 ai (F274 n (b.1,b.2.1,aD.mk 5 0 [] i.1.1,())) λj=>Rx.el j (λk=>aC (ff 0 (D.add .i64 e.1 1) (ak k.2.1.2.2.1)) (ai (F277 n
 (k.2.1.2.2.2.2.1,[k.1.1],())) λl=>Rx.el l (λm=>ai (F174 n (Pj e k,k.2.2.1,0,m.1)) λo=>Rx.el o (λp=>Z (Rx.ok p)) λp
 =>Z (Rx.dh p)) λm=>Z (Rx.dh (m.1,Pj e k,k.2.2)))) λk=>Z (Rx.dh k))) λh=>Z (Rx.dh (h.1,b))) (λ_ e=>Z
 (Rx.ok (e,b))) λ_ e=>Z (Rx.dh (e,b))
def akf(n:Nat):OC:=⟨243,⟨Cj,K29,W,F243 n⟩,cx [ach n,Vp n,Ca n,Ss n,YT n] [(243,0,⟨[(3,de)],[],[],0⟩)] n 10 243⟩
def F244:Y28:=
 λn b=>ai (F48 n ()) λc=>ai (F48 n ()) λd=>ai (F280 n (b.1,b.2.1,c.1.1,d.1)) λe=>Z e
def ake(n:Nat):OC:=⟨244,⟨Cj,K29,J,F244 n⟩,cx [YR n,Ec n] [] n 10 244⟩
def sK(b:Gx):Int:=
 D.dI .i64 (ak b.2.2.1.4) 1
def iB(b:Gx):au:=
 aR b.2.2.1.4 (ah (sK b)) aU
def xQ(b:Gx):bp:=
 aR b.2.1.1 (ah (iB b).1) aN
def Kf(b:Gx):Y1:=
 ((),b.1.2.1,b.1.2.2.1,b.1.2.2.2.1,b.1.2.2.2.2.1,b.1.2.2.2.2.2.1,(xQ b).1,(xQ b).2,(xQ b).3,(xQ b).4,b.1.2.2.2.2.2.2.2.2.2.2)
def fX(b:Gx)(e:WV):Y1×Y2×Unit:=
 (((),e.2.1.2.1,e.2.1.2.2.1,(iB b).1,(iB b).2,(iB b).3,e.2.1.2.2.2.2.2.2),e.2.2)
def Ke(n:Nat)(b:Gx)(e:WV):Option (Rx Y3 Y4):=
 ai (F221 n (fX b e)) λg=>Z (Rx.ok g)
def Kc(n:Nat)(b:Gx)(e:WV):Option (Rx Y3 Y4):=
 ai (F227 n (fX b e)) λg=>Rx.el g (λh=>Z (Rx.ok h)) λh=>Z (Rx.dh h)
def F115:Nat->Gx->Option (Rx Y3 Y4):=
 λn b=>aj (D.bN 0 (ak b.2.2.1.3)) (aC (av (sK b) b.2.2.1.4) (aC (ff 0 (sK b) (ak b.2.2.1.4)) (ai (F171 n (b.1,b.2.1,ey
 b.2.2.1.4 0 (sK b),())) λc=>Rx.el c (λd=>aC (av 0 b.2.2.1.3) (aC (Ch (ff 0 (ak (iB b).3) (ak (iB b).3)) (ia (ak
 (iB b).3) (ak (iB b).3))) (aC (cZ (ey (iB b).3 0 (ak (iB b).3)) [aR b.2.2.1.3 (ah 0) ax]) (ai (F171 n (d.2.1,
 d.2.2.1,[au.mk (iB b).1 (iB b).2 (cP (ey (iB b).3 0 (ak (iB b).3)) [aR b.2.2.1.3 (ah 0) ax])],())) λe=>
 Rx.el e (λg=>Z (Rx.ok ((bZ.a3 ja.mk,()),g.2))) λg=>Z (Rx.dh g))))) λd=>Z (Rx.dh d)))) (aC (av (sK b)
 b.2.2.1.4) (aC (av (iB b).1 b.2.1.1) (ai (F173 n (xQ b,())) λc=>aj (D.bN (ak (iB b).3) c.1.1) (ai (F171 n (Kf b,b.2.1,
 b.2.2.1.4,())) λd=>Rx.el d (λe=>ai (F174 n (e.2.1,e.2.2.1,ak (iB b).3,(iB b).2,())) λg=>Rx.el g (λh=>Z (Rx.ok
 h)) λh=>Z (Rx.dh h)) λe=>Z (Rx.dh e)) (aC (ff 0 (sK b) (ak b.2.2.1.4)) (ai (F171 n (Kf b,b.2.1,ey b.2.2.1.4 0
 (sK b),())) λd=>Rx.el d (λe=>aj (ia e.2.1.2.2.2.2.2.2.1 0) Y (aj (ia e.2.1.2.2.2.2.2.2.1 1) (Ke n b e) (aj (ia
 e.2.1.2.2.2.2.2.2.1 2) (Ke n b e) (aj (ia e.2.1.2.2.2.2.2.2.1 3) (Ke n b e) (aj (ia e.2.1.2.2.2.2.2.2.1 4) (ai (F222 n (fX b e)) λg
 =>Rx.el g (λh=>Z (Rx.ok h)) λh=>Z (Rx.dh h)) (aj (ia e.2.1.2.2.2.2.2.2.1 5) (ai (F223 n (fX b e)) λg=>Rx.el g (λh=>
 Z (Rx.ok h)) λh=>Z (Rx.dh h)) (aj (ia e.2.1.2.2.2.2.2.2.1 6) (ai (F224 n (fX b e)) λg=>Rx.el g (λh=>Z (Rx.ok h)) λh
 =>Z (Rx.dh h)) (aj (ia e.2.1.2.2.2.2.2.2.1 7) (ai (F225 n (fX b e)) λg=>Rx.el g (λh=>Z (Rx.ok h)) λh=>Z (Rx.dh h))
 (aj (ia e.2.1.2.2.2.2.2.2.1 8) (ai (F226 n (fX b e)) λg=>Rx.el g (λh=>Z (Rx.ok h)) λh=>Z (Rx.dh h)) (aj (ia
 e.2.1.2.2.2.2.2.2.1 9) (Kc n b e) (aj (ia e.2.1.2.2.2.2.2.2.1 10) (Kc n b e) (aj (ia e.2.1.2.2.2.2.2.2.1 11) (Kc n b e) (aj (ia
 e.2.1.2.2.2.2.2.2.1 12) (ai (F228 n (fX b e)) λg=>Rx.el g (λh=>Z (Rx.ok h)) λh=>Z (Rx.dh h)) (aj (ia e.2.1.2.2.2.2.2.2.1
 13) (ai (F229 n (fX b e)) λg=>Rx.el g (λh=>Z (Rx.ok h)) λh=>Z (Rx.dh h)) (aj (ia e.2.1.2.2.2.2.2.2.1 14) (ai (F230 n
 (fX b e)) λg=>Rx.el g (λh=>Z (Rx.ok h)) λh=>Z (Rx.dh h)) (aj (ia e.2.1.2.2.2.2.2.2.1 15) (ai (F231 n (fX b e)) λg
 =>Rx.el g (λh=>Z (Rx.ok h)) λh=>Z (Rx.dh h)) (aj (ia e.2.1.2.2.2.2.2.2.1 16) (ai (F232 n (fX b e)) λg=>Rx.el g (λh=>
 Z (Rx.ok h)) λh=>Z (Rx.dh h)) (aj (ia e.2.1.2.2.2.2.2.2.1 17) (ai (F233 n (fX b e)) λg=>Rx.el g (λh=>Z (Rx.ok h)) λh
 =>Z (Rx.dh h)) (aj (ia e.2.1.2.2.2.2.2.2.1 18) (ai (F234 n (fX b e)) λg=>Rx.el g (λh=>Z (Rx.ok h)) λh=>Z (Rx.dh h))
 (aj (ia e.2.1.2.2.2.2.2.2.1 19) (ai (F235 n (fX b e)) λg=>Rx.el g (λh=>Z (Rx.ok h)) λh=>Z (Rx.dh h)) (aj (ia
 e.2.1.2.2.2.2.2.2.1 20) (ai (F236 n (fX b e)) λg=>Rx.el g (λh=>Z (Rx.ok h)) λh=>Z (Rx.dh h)) (aj (ia e.2.1.2.2.2.2.2.2.1
 21) (ai (F237 n (fX b e)) λg=>Rx.el g (λh=>Z (Rx.ok h)) λh=>Z (Rx.dh h)) (aj (ia e.2.1.2.2.2.2.2.2.1 22) (ai (F238 n
 (fX b e)) λg=>Rx.el g (λh=>Z (Rx.ok h)) λh=>Z (Rx.dh h)) (aj (ia e.2.1.2.2.2.2.2.2.1 23) (ai (F239 n (fX b e)) λg
 =>Rx.el g (λh=>Z (Rx.ok h)) λh=>Z (Rx.dh h)) (aj (ia e.2.1.2.2.2.2.2.2.1 24) (ai (F240 n (fX b e)) λg=>Rx.el g (λh=>
 Z (Rx.ok h)) λh=>Z (Rx.dh h)) (aj (ia e.2.1.2.2.2.2.2.2.1 25) (ai (F241 n (fX b e)) λg=>Rx.el g (λh=>Z (Rx.ok h)) λh
 =>Z (Rx.dh h)) (aj (ia e.2.1.2.2.2.2.2.2.1 26) (ai (F242 n (fX b e)) λg=>Z (Rx.ok g)) (aj (ia e.2.1.2.2.2.2.2.2.1 27) (ai (F243
 n (fX b e)) λg=>Rx.el g (λh=>Z (Rx.ok h)) λh=>Z (Rx.dh h)) (aj (ia e.2.1.2.2.2.2.2.2.1 28) (ai (F244 n (fX b e)) λg
 =>Z (Rx.ok g)) (aC J Y)))))))))))))))))))))))))))))) λe=>Z (Rx.dh e))))))
def alf(n:Nat):OC:=⟨115,⟨P33,K29,W,F115 n⟩,cx [acg n,acf n,Vp n,akB n,akA n,akz n,aky n,akx n,akw n,akv n,aku n,akt n,aks n,akr n,akq n,akp n,ako n,akn n,akm n,akl n,akk n,akj n,aki n,akh n,akg n,akf n,ake n] [] n 10 115⟩
def zC(b:Y2×Int×Unit):Int:=
 aR b.1.2.2.2.2.2.1 (ah b.2.1) 0
def Fp(b:Y2×Int×Unit):aD:=
 aR b.1.2.2.2.2.1 (ah (zC b)) aT
def F70:Nat->Y2×Int×Unit->Option ((bZ×Unit)×Y2×Unit):=
 λn b=>aC (av b.2.1 b.1.2.2.2.2.2.1) (aC (av (zC b) b.1.2.2.2.2.1) (aj (D.aO (D.aI (Fp b).2 0)) (Z ((bZ.a0 iz.mk,
 ()),b.1,())) (aj (D.aI (ak (Fp b).4) 0) (ai (F170 n (b.1.2.2.2.2.1,())) λc=>aC (av b.2.1 b.1.2.2.2.2.2.1) (aC (av (zC b)
 c.1.1) (aC (ct (ah (zC b)) c.1.1) (aC (av 0 (Fp b).3) (ai (F112 n (aR (Fp b).3 (ah 0) ax,())) λd=>Z ((bZ.a1
 (gB.mk (aE.mk b.2.1 0 1 d.1.1)),()),(b.1.1,b.1.2.1,b.1.2.2.1,b.1.2.2.2.1,dO c.1.1 (ah (zC b)) (aD.mk 6 1 (Fp b).3
 []),b.1.2.2.2.2.2),())))))) (ai (F115 n (((),b.2.1,[],0,[],[],0,0,[],[],[],()),b.1,Fp b,())) λc=>Rx.el c (λd=>ai (F71 n
 d.1) λe=>aj (D.aO (D.aI e.1.1 2)) (ai (F170 n (d.2.2.1.2.2.2.2.1,())) λg=>aC (av b.2.1 d.2.2.1.2.2.2.2.2.1) (aC (av (aR
 d.2.2.1.2.2.2.2.2.1 (ah b.2.1) 0) g.1.1) (aC (ct (ah (aR d.2.2.1.2.2.2.2.2.1 (ah b.2.1) 0)) g.1.1) (Z (d.1,(d.2.2.1.1,d.2.2.1.2.1,
 d.2.2.1.2.2.1,d.2.2.1.2.2.2.1,dO g.1.1 (ah (aR d.2.2.1.2.2.2.2.2.1 (ah b.2.1) 0)) (aD.mk 6 0 d.2.1.2.2.2.2.2.2.2.2.2.2.1 d.2.1.2.2.1),
 d.2.2.1.2.2.2.2.2),()))))) (Z (d.1,d.2.2))) λd=>aj (D.aO (isNil [(175,Ty.st 14)] (eN 30 d.1))) (ai (aj (D.aO (iG [(175,Ty.st
 14)] 0 (eN 30 d.1))) Y (Z (LO.next (J,())))) λ(e:M6)=>LO.jn e (λ_=>ai (F170 n (b.1.2.2.2.2.1,())) λh=>aC (av
 b.2.1 b.1.2.2.2.2.2.1) (aC (av (zC b) h.1.1) (aC (ct (ah (zC b)) h.1.1) (ai (F114 n (jv (Sg.zero sg) [(175,Ty.st 14)] 0 (eN 30
 d.1),())) λi=>Z ((bZ.a1 (gB.mk (aE.mk b.2.1 i.1.1.2 i.1.1.3 i.1.1.4)),()),(d.2.2.1.1,d.2.2.1.2.1,d.2.2.1.2.2.1,
 d.2.2.1.2.2.2.1,dO h.1.1 (ah (zC b)) (aD.mk 6 (jv (Sg.zero sg) [(175,Ty.st 14)] 0 (eN 30 d.1)).1 [] []),b.1.2.2.2.2.2),())))))
 (λ_ _=>Y) (λ_ _=>Z ((bZ.none,()),d.2.2)) λ_ _=>Y) (Z ((bZ.none,()),d.2.2))))))
def k70(n:Nat):OC:=⟨70,⟨P46,K29,J,F70 n⟩,cx [k71 n,afC n,afB n,alf n,afw n] [(113,1000004,⟨[(17,cX)],[],[],0⟩)] n 10 70⟩
def F50:Nat->Y2×Int×Unit->Option adI:=
 λn b=>ai (@iter (Int×Int×Y2×Unit) (Int×Bool×Unit) (Y2×Unit) (Any) (λc=>aj (D.bN c.2.1 (ak b.1.2.2.2.2.2.1)) (ai (@iter (Int
 ×Y2×Unit) (Int×Bool×Unit) (Y2×Unit) (Any) (λd=>ai (F70 n (d.2.1,c.2.1,())) λe=>ai (F71 n e.1) λg=>aj (D.aO (D.aI g.1.1
 0)) (Z (LO.out 0 d)) (aj (D.bN 5000 (D.add .i64 d.1 1)) (Z (LO.ret d.2 (0,J,()))) (Z (LO.next (D.add .i64 d.1 1,e.2))))) n (c.1,
 c.2.2)) λd=>LO.el d (λ_ g=>Z (LO.next (g.1,D.add .i64 c.2.1 1,g.2))) (λe g=>Z (LO.ret e g)) λ_ _=>Y) (Z (LO.out 0
 c))) n (b.2.1,0,b.1,())) λc=>LO.el c (λ_ e=>Z ((e.1,W,()),e.2.2)) (λd e=>Z (e,d)) λ_ _=>Y
def k50(n:Nat):OC:=⟨50,⟨P46,K47,J,F50 n⟩,cx [k70 n,k71 n] [(50,0,⟨[(1,de),(14,de),(0,b2z)],[.slot 0],[],0⟩),(50,2,⟨[(1,de),(0,b2z)],[.slot 0],[],0⟩)] n 10 50⟩
def F90:Nat->List dV×Unit->Option ((List dV×Unit)×Unit):=λn b=>Z (b,())
def C90(n:Nat):bD prog 90 (⟨P48,K49,J,F90 n⟩:kT sg):=Se [] trivial (XR []) J n 10 90 P48 K49 (by kernel_rfl) (Eq.trans (by kernel_rfl:_=λb:List dV×Unit=>Gw (XV b.1) (Z (([],()),())) (Z (b,()))) (funext ri))
def k90(n:Nat):OC:=⟨90,⟨P48,K49,J,F90 n⟩,C90 n⟩
def F159:Nat->List aq×Unit->Option Y44:=λn b=>Z (b,())
def C159(n:Nat):bD prog 159 (⟨P50,K51,J,F159 n⟩:kT sg):=Se [] trivial (XR []) J n 10 159 P50 K51 (by kernel_rfl) (Eq.trans (by kernel_rfl:_=λb:List aq×Unit=>Gw (XV b.1) (Z (([],()),())) (Z (b,()))) (funext ri))
def afy(n:Nat):OC:=⟨159,⟨P50,K51,J,F159 n⟩,C159 n⟩
def F92:Nat->Int×Unit->FN:=
 λn b=>Z (b,())
def k92(n:Nat):OC:=⟨92,⟨P11,K2,J,F92 n⟩,cx [] [] n 10 92⟩
def zE(b:Y2×Unit)(g:Int×wH×Unit):aD:=
 aR b.1.2.2.2.2.1 (ah g.1) aT
def s5(n:Nat)(h:Y44):Y46:=
 @iter (Nx) (List aq×Unit) (Unit) (Any) (λi=>aj (D.bN i.2.1 (ak h.1.1)) (aC (av i.2.1 i.1) (aC (ct (ah i.2.1) i.1) (aj (D.aI
 (aR i.1 (ah i.2.1) ax).1 5) (ai (F92 n ((aR i.1 (ah i.2.1) ax).2,())) λj=>aC (av i.2.1 i.1) (aC (ct (ah i.2.1) i.1)
 (Z (LO.next (dO i.1 (ah i.2.1) (aq.mk (aR i.1 (ah i.2.1) ax).1 j.1.1),D.add .i64 i.2.1 1,()))))) (Z (LO.next (i.1,D.add .i64
 i.2.1 1,())))))) (Z (LO.out 0 i))) n (h.1.1,0,())
def wL(m:Int×zK×Unit):au:=
 aR m.2.1.2.2.2.1 (ah m.1) aU
def Xo(n:Nat)(m:Int×zK×Unit)(r:Nx)(v:Nx):TO:=
 aC (av m.1 m.2.1.2.2.2.1) (aC (ct (ah m.1) m.2.1.2.2.2.1) (Z (LO.next (D.add .i64 m.1 1,(m.2.1.1,m.2.1.2.1,m.2.1.2.2.1,dO
 m.2.1.2.2.2.1 (ah m.1) (au.mk (wL m).1 r.1 v.1),()),()))))
def abe(n:Nat)(m:Int×zK×Unit)(r:Nx)(v:List aq×Unit):TO:=
 aC (av m.1 m.2.1.2.2.2.1) (aC (ct (ah m.1) m.2.1.2.2.2.1) (Z (LO.next (D.add .i64 m.1 1,(m.2.1.1,m.2.1.2.1,m.2.1.2.2.1,dO
 m.2.1.2.2.2.1 (ah m.1) (au.mk (wL m).1 r.1 v.1),()),()))))
def Rc(n:Nat)(m:Int×zK×Unit)(r:Nx):TO:=
 ai (F159 n ((wL m).3,())) λs=>ai (s5 n s) λt=>LO.el t (λ_ v=>Xo n m r v) (λ_ v=>abe n m r v) λ_ _=>Y
def ahZ(n:Nat)(m:Int×zK×Unit)(r:List aq×Unit)(v:Nx):TO:=
 aC (av m.1 m.2.1.2.2.2.1) (aC (ct (ah m.1) m.2.1.2.2.2.1) (Z (LO.next (D.add .i64 m.1 1,(m.2.1.1,m.2.1.2.1,m.2.1.2.2.1,dO
 m.2.1.2.2.2.1 (ah m.1) (au.mk (wL m).1 r.1 v.1),()),()))))
def ahY(n:Nat)(m:Int×zK×Unit)(r:List aq×Unit)(v:List aq×Unit):TO:=
 aC (av m.1 m.2.1.2.2.2.1) (aC (ct (ah m.1) m.2.1.2.2.2.1) (Z (LO.next (D.add .i64 m.1 1,(m.2.1.1,m.2.1.2.1,m.2.1.2.2.1,dO
 m.2.1.2.2.2.1 (ah m.1) (au.mk (wL m).1 r.1 v.1),()),()))))
def Rb(n:Nat)(m:Int×zK×Unit)(r:List aq×Unit):TO:=
 ai (F159 n ((wL m).3,())) λs=>ai (s5 n s) λt=>LO.el t (λ_ v=>ahZ n m r v) (λ_ v=>ahY n m r v) λ_ _=>Y
def JU(n:Nat)(b:Y2×Unit)(g:Int×wH×Unit)(k:Nx):Y49:=
 ai (F160 n ((zE b g).4,())) λl=>ai (@iter (Int×zK×Unit) (Unit) (zK×Unit) (Any) (λm=>aj (D.bN m.1 (ak l.1.1)) (aC (av m.1
 m.2.1.2.2.2.1) (aC (ct (ah m.1) m.2.1.2.2.2.1) (ai (F159 n ((wL m).2,())) λo=>ai (s5 n o) λp=>LO.el p (λ_ r=>Rc n m r)
 (λ_ r=>Rb n m r) λ_ _=>Y))) (Z (LO.out 0 m))) n (0,((zE b g).1,(zE b g).2,k.1,l.1),())) λm=>LO.el m (λ_ p=>aC
 (cZ g.2.1.1 [aD.mk p.2.1.1 p.2.1.2.1 p.2.1.2.2.1 p.2.1.2.2.2.1]) (Z (LO.next (D.add .i64 g.1 1,(cP g.2.1.1 [aD.mk p.2.1.1 p.2.1.2.1
 p.2.1.2.2.1 p.2.1.2.2.2.1],g.2.1.2),())))) (λ_ _=>aC (cZ g.2.1.1 [aT]) (Z (LO.next (D.add .i64 g.1 1,(cP g.2.1.1 [aT],
 g.2.1.2),())))) λ_ _=>Y
def Pc(n:Nat)(b:Y2×Unit)(g:Int×wH×Unit)(k:List aq×Unit):Y49:=
 ai (F160 n ((zE b g).4,())) λl=>ai (@iter (Int×zK×Unit) (Unit) (zK×Unit) (Any) (λm=>aj (D.bN m.1 (ak l.1.1)) (aC (av m.1
 m.2.1.2.2.2.1) (aC (ct (ah m.1) m.2.1.2.2.2.1) (ai (F159 n ((wL m).2,())) λo=>ai (s5 n o) λp=>LO.el p (λ_ r=>Rc n m r)
 (λ_ r=>Rb n m r) λ_ _=>Y))) (Z (LO.out 0 m))) n (0,((zE b g).1,(zE b g).2,k.1,l.1),())) λm=>LO.el m (λ_ p=>aC
 (cZ g.2.1.1 [aD.mk p.2.1.1 p.2.1.2.1 p.2.1.2.2.1 p.2.1.2.2.2.1]) (Z (LO.next (D.add .i64 g.1 1,(cP g.2.1.1 [aD.mk p.2.1.1 p.2.1.2.1
 p.2.1.2.2.1 p.2.1.2.2.2.1],g.2.1.2),())))) (λ_ _=>aC (cZ g.2.1.1 [aT]) (Z (LO.next (D.add .i64 g.1 1,(cP g.2.1.1 [aT],
 g.2.1.2),())))) λ_ _=>Y
def F51:Y51:=
 λn b=>ai (F49 n (b.1.2.2.2.2.2.1,())) λc=>ai (F90 n (b.1.2.2.2.2.2.2.1,())) λd=>ai (F49 n (b.1.2.2.2.2.2.2.2.1,())) λe=>ai
 (@iter (Int×wH×Unit) (Unit) (wH×Unit) (Any) (λg=>aj (D.bN g.1 (ak b.1.2.2.2.2.1)) (aC (av g.1 b.1.2.2.2.2.1) (ai (F159 n ((zE b
 g).3,())) λh=>ai (s5 n h) λi=>LO.el i (λ_ k=>JU n b g k) (λ_ k=>Pc n b g k) λ_ _=>Y)) (Z (LO.out 0 g))) n
 (0,([],c.1.1,d.1.1,e.1.1,b.1.2.2.2.2.2.2.2.2),())) λg=>LO.el g (λ_ i=>Z ((aa.mk i.2.1.1 i.2.1.2.1 i.2.1.2.2.1 i.2.1.2.2.2.1
 i.2.1.2.2.2.2.1,()),b)) (λ_ _=>Z ((cA,()),b)) λ_ _=>Y
def k51(n:Nat):OC:=⟨51,⟨P52,K53,J,F51 n⟩,cx [k49 n,k90 n,k92 n,afy n,ach n] [(51,0,⟨[(36,de),(0,.box (.cells [.own (.st 6),Cg,JI,Cg,lF]))],[.slot 3],[],0⟩),(91,0,⟨[(21,de),(0,ag6)],[.slot 2],[(19,1002003)],0⟩),(158,0,⟨[(0,.one (.own (.st 4))),(10,de)],[],[(8,0)],0⟩)] n 10 51⟩
def F14:Nat->Y29->Option Y30:=
 λn b=>ai (F46 n (b.1,())) λc=>aj (D.aO (D.aI c.1.1 0)) (Z ((cA,2,()),())) (ai (F47 n b.2) λd=>aj (D.aO d.1.1)
 (Z ((cA,2,()),())) (aC (av b.1.3 b.1.2) (ai (F48 n ()) λe=>ai (F49 n b.2) λg=>ai (F50 n ((b.1.1,b.1.2,b.1.3,b.1.4,
 [aD.mk 6 0 [] [au.mk (aR b.1.2 (ah b.1.3) 0) [e.1.1] []]],[0],[],g.1.1,0,()),0,())) λh=>aj (D.aO h.1.2.1) (Z
 ((cA,8,()),())) (ai (F51 n h.2) λi=>Z ((i.1.1,0,()),())))))
def k14(n:Nat):OC:=⟨14,⟨P54,K55,J,F14 n⟩,cx [k46 n,k47 n,YR n,k49 n,k50 n,k51 n] [] n 10 14⟩
def F211:Nat->cB×aq×Unit->Option fH:=
 λn b=>aj (D.aI b.2.1.1 1) (ai (F69 n (b.2.1.2,(-1000000000),1000000000,())) λc=>Z c) (aj (D.aI b.2.1.1 2) (ai (F69 n (b.2.1.2,0,
 1,())) λc=>Z c) (aj (D.aI b.2.1.1 3) (Z ((D.aI b.2.1.2 0,()),())) (aj (D.aI b.2.1.1 4) (ai (F69 n (b.2.1.2,0,D.dI .i64 (ak
 b.1.1.2) 1,())) λc=>Z c) (aj (D.aI b.2.1.1 5) (ai (F69 n (b.2.1.2,0,D.dI .i64 (ak b.1.2.1) 1,())) λc=>Z c) (Z ((J,
 ()),()))))))
def afq(n:Nat):OC:=⟨211,⟨P56,K4,J,F211 n⟩,cx [k69 n] [] n 10 211⟩
def Xw(n:Nat)(e:Int×Unit):fH->Option Tm:=
 λg=>aj (D.aO g.1.1) (Z (LO.ret () e)) (Z (LO.next (D.add .i64 e.1 1,())))
def Xv(n:Nat)(b:ahr):Option fH:=
 ai (@iter (Int×Unit) (Int×Unit) (Unit) (Any) (λi=>aj (D.bN i.1 (ak b.2.1.3)) (aC (av i.1 b.2.1.3) (ai (F211 n (b.1,aR b.2.1.3 (ah
 i.1) ax,())) (Xw n i))) (Z (LO.out 0 i))) n (0,())) λi=>LO.el i (λ_ _=>Z ((D.aO J,()),())) (λ_ k=>Z
 ((D.aO (D.ek 0 k.1),()),())) λ_ _=>Y
def Ft(n:Nat):Option fH:=
 Z ((J,()),())
def F266:ahq:=
 λn b=>ai (F69 n (b.2.1.1,0,D.dI .i64 (ak b.1.1.1) 1,())) λc=>aj c.1.1 (aj (D.ek (ak b.2.1.2) 30) (aC (av b.2.1.1 b.1.1.1)
 (ai (F173 n (aR b.1.1.1 (ah b.2.1.1) aN,())) λd=>aj (D.ek (ak b.2.1.3) d.1.1) (ai (@iter (Int×Unit) (Int×Unit) (Unit) (Any)
 (λe=>aj (D.bN e.1 (ak b.2.1.2)) (aC (av e.1 b.2.1.2) (ai (F211 n (b.1,aR b.2.1.2 (ah e.1) ax,())) (Xw n e))) (Z (LO.out
 0 e))) n (0,())) λe=>LO.el e (λ_ _=>aj (D.aO J) (Xv n b) (Ft n)) (λ_ h=>aj (D.aO (D.ek 0 h.1)) (Xv n b) (Ft
 n)) λ_ _=>Y) (Ft n))) (Ft n)) (Ft n)
def aj6(n:Nat):OC:=⟨266,⟨P57,K4,J,F266 n⟩,cx [k69 n,acf n,afq n] [(294,0,⟨[(8,de)],[],[],0⟩)] n 10 266⟩
def F267:ahq:=
 λn b=>aC (av b.2.1.1 b.1.1.1) (ai (F173 n (aR b.1.1.1 (ah b.2.1.1) aN,())) λc=>Z ((D.bN (ak b.2.1.3) c.1.1,()),()))
def aj5(n:Nat):OC:=⟨267,⟨P57,K4,J,F267 n⟩,cx [acf n] [] n 10 267⟩
def Xz(n:Nat)(c:Int×Unit):fH->Option Tm:=
 λd=>aj (D.aO d.1.1) (Z (LO.ret () c)) (Z (LO.next (D.add .i64 c.1 1,())))
def Fy(b:adA):List au:=
 ey b.2.1 0 (DR 0 (D.dI .i64 (ak b.2.1) b.2.2.1))
def J3(n:Nat)(b:adA):Option fH:=
 aC (ff 0 (DR 0 (D.dI .i64 (ak b.2.1) b.2.2.1)) (ak b.2.1)) (ai (@iter (Int×Unit) (Int×Unit) (Unit) (Any) (λg=>aj (D.bN g.1 (ak
 (Fy b))) (aC (av g.1 (Fy b)) (ai (F267 n (b.1,aR (Fy b) (ah g.1) aU,())) (Xz n g))) (Z (LO.out 0 g))) n (0,()))
 λg=>LO.el g (λ_ _=>Z ((D.aO J,()),())) (λ_ i=>Z ((D.aO (D.ek 0 i.1),()),())) λ_ _=>Y)
def F212:Nat->adA->Option fH:=
 λn b=>aj (D.ek (ak b.2.1) 40) (ai (@iter (Int×Unit) (Int×Unit) (Unit) (Any) (λc=>aj (D.bN c.1 (ak b.2.1)) (aC (av c.1 b.2.1)
 (ai (F266 n (b.1,aR b.2.1 (ah c.1) aU,())) (Xz n c))) (Z (LO.out 0 c))) n (0,())) λc=>LO.el c (λ_ _=>aj (D.aO J)
 (J3 n b) (Z ((J,()),()))) (λ_ e=>aj (D.aO (D.ek 0 e.1)) (J3 n b) (Z ((J,()),()))) λ_ _=>Y) (Z ((J,
 ()),()))
def afp(n:Nat):OC:=⟨212,⟨P58,K4,J,F212 n⟩,cx [aj6 n,aj5 n] [(310,0,⟨[(8,de)],[],[],0⟩)] n 10 212⟩
def Fx(n:Nat):Option fH:=
 Z ((J,()),())
def J2(n:Nat)(b:Y78):Option fH:=
 ai (F212 n (b.1,b.2.1.4,D.dI .i64 1 (ak b.2.1.3),())) λc=>Z c
def F213:Y79:=
 λn b=>aj (D.aI b.2.1.2 0) (aj (D.bN 1 (ak b.2.1.3)) (Fx n) (aj (D.aI (ak b.2.1.4) 0) (aj (D.aI (ak b.2.1.3) 0) (Fx n)
 (J2 n b)) (J2 n b))) (aj (D.aI b.2.1.2 1) (aj (D.aI (ak b.2.1.3) 1) (Z ((D.aI (ak b.2.1.4) 0,()),())) (Fx n)) (ai (aj
 (D.aI b.2.1.2 2) (Z (LO.next (W,()))) (ai (aj (D.aI b.2.1.2 3) (Z (LO.next (W,()))) (Z (LO.next (D.aI b.2.1.2 4,())))) λ(c :
 Fi)=>LO.jn c (λd=>Z (LO.next d)) (λ_ _=>Y) (λ_ e=>Z (LO.ret () e)) λ_ _=>Y)) λ(c:Fi)=>LO.jn c (λd=>aj
 d.1 (aj (D.aI (ak b.2.1.3) 0) (Z ((D.aI (ak b.2.1.4) 0,()),())) (Fx n)) (Fx n)) (λ_ _=>Y) (λ_ e=>Z (e,())) λ_ _
 =>Y))
def akC(n:Nat):OC:=⟨213,⟨P59,K4,J,F213 n⟩,cx [afp n] [(213,1000009,⟨[(45,cX)],[],[],0⟩),(213,1000010,⟨[(45,cX)],[],[],0⟩)] n 10 213⟩
def jV(n:Nat):Option fH:=
 Z ((J,()),())
def J4(n:Nat)(b:Y78):Option fH:=
 aj (D.aI b.2.1.1 1) (aj (D.aI (ak b.2.1.4) 0) (ai (F69 n (b.2.1.2,0,D.dI .i64 (ak b.1.1.4) 1,())) λg=>aj g.1.1 (aC (av b.2.1.2
 b.1.1.4) (Z ((D.aI (ak b.2.1.3) (aR b.1.1.4 (ah b.2.1.2) bx).2,()),()))) (jV n)) (jV n)) (aj (D.aI b.2.1.1 2) (aj (D.aI
 (ak b.2.1.4) 0) (ai (F69 n (b.2.1.2,0,D.dI .i64 (ak b.1.1.1) 1,())) λg=>aj g.1.1 (aC (av b.2.1.2 b.1.1.1) (aj (D.aI (aR b.1.1.1
 (ah b.2.1.2) aN).1 5) (Z ((D.ek (ak b.2.1.3) 30,()),())) (jV n))) (jV n)) (jV n)) (aj (D.aI b.2.1.1 3) (aj (D.aI (ak
 b.2.1.4) 0) (aj (D.aI b.2.1.2 0) (Z ((D.aI (ak b.2.1.3) 1,()),())) (jV n)) (jV n)) (aj (D.aI b.2.1.1 4) (aj (D.aI (ak b.2.1.4)
 0) (aj (D.aI b.2.1.2 0) (Z ((D.ek (ak b.2.1.3) 4,()),())) (jV n)) (jV n)) (aj (D.aI b.2.1.1 5) (aj (D.aI b.2.1.2 0) (aj (D.aI
 (ak b.2.1.3) 0) (aj (D.bN 0 (ak b.2.1.4)) (ai (F212 n (b.1,b.2.1.4,0,())) λg=>aj g.1.1 (aC (av 0 b.2.1.4) (aC (av (aR b.2.1.4
 (ah 0) aU).1 b.1.1.1) (Z ((D.aI (aR b.1.1.1 (ah (aR b.2.1.4 (ah 0) aU).1) aN).1 26,()),())))) (jV n)) (jV
 n)) (jV n)) (jV n)) (aj (D.aI b.2.1.1 6) (ai (F213 n b) λg=>Z g) (jV n))))))
def F163:Y79:=
 λn b=>ai (@iter (Int×Unit) (Int×Unit) (Unit) (Any) (λc=>aj (D.bN c.1 (ak b.2.1.3)) (aC (av c.1 b.2.1.3) (ai (F211 n (b.1,aR
 b.2.1.3 (ah c.1) ax,())) λd=>aj (D.aO d.1.1) (Z (LO.ret () c)) (Z (LO.next (D.add .i64 c.1 1,()))))) (Z (LO.out 0 c))) n (0,
 ())) λc=>LO.el c (λ_ _=>aj (D.aO (D.aO J)) (jV n) (J4 n b)) (λ_ e=>aj (D.aO (D.aO (D.ek 0 e.1))) (jV n)
 (J4 n b)) λ_ _=>Y
def akT(n:Nat):OC:=⟨163,⟨P59,K4,J,F163 n⟩,cx [k69 n,afq n,afp n,akC n] [(294,0,⟨[(8,de)],[],[],0⟩)] n 10 163⟩
def AV(b:cB×Unit)(c:ahh):Int:=
 aR b.1.2.2 (ah c.1) 0
def Fz(n:Nat)(j:Int×Unit):Option Tm:=
 Z (LO.next (D.add .i64 j.1 1,()))
def XA(n:Nat):Tm->Option fH:=
 λj=>LO.el j (λ_ _=>Z ((D.aO J,()),())) (λ_ l=>Z ((D.aO (D.ek 0 l.1),()),())) λ_ _=>Y
def F164:ahl:=
 λn b=>ai (@iter (ahh) (Bool×Unit) (List (Int×Bool)×Unit) (Any) (λc=>aj (D.bN c.1 (ak b.1.2.2)) (aC (av c.1 b.1.2.2) (ai (F69
 n (AV b c,0,D.dI .i64 (ak b.1.2.1) 1,())) λd=>aj (D.aO d.1.1) (Z (LO.ret c.2 (J,()))) (aC (av (AV b c) b.1.2.1) (aj
 (D.aO (D.aI (aR b.1.2.1 (ah (AV b c)) aT).1 6)) (Z (LO.ret c.2 (J,()))) (aj (FL (A:=sg.A) (Ty.int .i64) J (AV b c)
 c.2.1) (Z (LO.ret c.2 (J,()))) (Z (LO.next (D.add .i64 c.1 1,m7 (A:=sg.A) (Ty.int .i64) (AV b c) W c.2.1,())))))))) (Z
 (LO.out 0 c))) n (0,[],())) λc=>LO.el c (λ_ e=>ai (@iter (Int×(List Int×Unit)×Unit) (Unit) (Y18) (Any) (λg=>aj (D.bN g.1
 (ak b.1.2.1)) (aC (cZ g.2.1.1 [g.1]) (Z (LO.next (D.add .i64 g.1 1,(cP g.2.1.1 [g.1],()),())))) (Z (LO.out 0 g))) n (0,([],()),()))
 λg=>LO.el g (λ_ i=>ai (@iter (Int×Unit) (Int×Unit) (Unit) (Any) (λj=>aj (D.bN j.1 (ak i.2.1.1)) (aC (av j.1 i.2.1.1) (aC
 (ct (ah j.1) i.2.1.1) (aj (FL (A:=sg.A) (Ty.int .i64) J (aR i.2.1.1 (ah j.1) 0) e.2.1) (Fz n j) (aC (av (aR i.2.1.1 (ah j.1)
 0) b.1.2.1) (aj (D.aO (D.aO (D.aI (aR b.1.2.1 (ah (aR i.2.1.1 (ah j.1) 0)) aT).1 6))) (Z (LO.ret () j)) (Fz n j)))))) (Z
 (LO.out 0 j))) n (0,())) (XA n)) (λh _=>ai (@iter (Int×Unit) (Int×Unit) (Unit) (Any) (λj=>aj (D.bN j.1 (ak h.1.1)) (aC (av
 j.1 h.1.1) (aC (ct (ah j.1) h.1.1) (aj (FL (A:=sg.A) (Ty.int .i64) J (aR h.1.1 (ah j.1) 0) e.2.1) (Fz n j) (aC (av (aR h.1.1
 (ah j.1) 0) b.1.2.1) (aj (D.aO (D.aO (D.aI (aR b.1.2.1 (ah (aR h.1.1 (ah j.1) 0)) aT).1 6))) (Z (LO.ret () j)) (Fz n j))))))
 (Z (LO.out 0 j))) n (0,())) (XA n)) λ_ _=>Y) (λ_ e=>Z (e,())) λ_ _=>Y
def akS(n:Nat):OC:=⟨164,⟨P60,K4,J,F164 n⟩,cx [k69 n] [(164,0,⟨[(13,de),(0,.box (.map (.int .i64) (.bool)))],[.cell (.slot 3) 0],[],0⟩),(207,0,⟨[(8,de)],[],[],0⟩),(269,0,⟨[(5,de),(0,adp)],[.rnd (.slot 0) 2],[],0⟩)] n 10 164⟩
def F166:Nat->dV×Unit->Option fH:=
 λn b=>ai (F69 n (b.1.1,0,3,())) λc=>aj c.1.1 (ai (F69 n (b.1.2,(-1000000000),1000000000,())) λd=>Z d) (Z ((J,()),
 ()))
def akR(n:Nat):OC:=⟨166,⟨P61,K4,J,F166 n⟩,cx [k69 n] [] n 10 166⟩
def wJ(n:Nat):Option fH:=
 Z ((J,()),())
def Ng(n:Nat)(b:cB×Unit):Option fH:=
 ai (F47 n (b.1.2.4,())) λk=>aj k.1.1 (ai (F69 n (b.1.2.5,0,1000000000,())) λl=>Z l) (wJ n)
def BK(n:Nat)(b:cB×Unit):Option fH:=
 ai (F164 n b) λg=>aj g.1.1 (aj (D.ek (ak b.1.2.3) 100) (ai (@iter (Int×Unit) (Int×Unit) (Unit) (Any) (λh=>aj (D.bN h.1 (ak
 b.1.2.3)) (aC (av h.1 b.1.2.3) (ai (F166 n (aR b.1.2.3 (ah h.1) gx,())) λi=>aj (D.aO i.1.1) (Z (LO.ret () h)) (Z (LO.next
 (D.add .i64 h.1 1,()))))) (Z (LO.out 0 h))) n (0,())) λh=>LO.el h (λ_ _=>aj (D.aO J) (Ng n b) (wJ n)) (λ_ j=>aj
 (D.aO (D.ek 0 j.1)) (Ng n b) (wJ n)) λ_ _=>Y) (wJ n)) (wJ n)
def F99:ahl:=
 λn b=>aj (D.ek (ak b.1.2.1) 120) (ai (@iter (Int×Unit) (Int×Unit) (Unit) (Any) (λc=>aj (D.bN c.1 (ak b.1.2.1)) (aC (av c.1
 b.1.2.1) (ai (F163 n (b.1,aR b.1.2.1 (ah c.1) aT,())) λd=>aj (D.aO d.1.1) (Z (LO.ret () c)) (Z (LO.next (D.add .i64 c.1 1,
 ()))))) (Z (LO.out 0 c))) n (0,())) λc=>LO.el c (λ_ _=>aj (D.aO J) (BK n b) (wJ n)) (λ_ e=>aj (D.aO (D.ek 0 e.1))
 (BK n b) (wJ n)) λ_ _=>Y) (wJ n)
def k99(n:Nat):OC:=⟨99,⟨P60,K4,J,F99 n⟩,cx [k47 n,k69 n,akT n,akS n,akR n] [(262,0,⟨[(8,de)],[],[],0⟩),(270,0,⟨[(8,de)],[],[],0⟩)] n 10 99⟩
def F110:Nat->cB×Int×Unit->FN:=
 λn b=>ai (F70 n ((b.1.1.1,b.1.1.2,b.1.1.3,b.1.1.4,b.1.2.1,b.1.2.2,b.1.2.3,b.1.2.4,b.1.2.5,()),b.2)) λc=>ai (F71 n c.1) λd=>
 Z d
def alg(n:Nat):OC:=⟨110,⟨P62,K2,J,F110 n⟩,cx [k70 n,k71 n] [] n 10 110⟩
def F68:Nat->Y2×Unit->Option ((List Int×Unit)×Y2×Unit):=
 λn b=>ai (@iter (X5) (List Int×Unit) (Unit) (Any) (λc=>aj (D.bN c.2.1 (ak b.1.2.2.2.2.2.1)) (ai (F110 n (cB.mk (aA.mk
 b.1.1 b.1.2.1 b.1.2.2.1 b.1.2.2.2.1) (aa.mk b.1.2.2.2.2.1 b.1.2.2.2.2.2.1 b.1.2.2.2.2.2.2.1 b.1.2.2.2.2.2.2.2.1 b.1.2.2.2.2.2.2.2.2.1),c.2))
 λd=>aj (D.aO (D.aI d.1.1 2)) (aC (cZ c.1 [c.2.1]) (Z (LO.next (cP c.1 [c.2.1],D.add .i64 c.2.1 1,())))) (Z (LO.next (c.1,D.add .i64
 c.2.1 1,())))) (Z (LO.out 0 c))) n ([],0,())) λc=>LO.el c (λ_ e=>Z ((e.1,()),b)) (λ_ e=>Z (e,b)) λ_ _=>Y
def k68(n:Nat):OC:=⟨68,⟨P52,K63,J,F68 n⟩,cx [alg n] [(68,0,⟨[(3,.one (.own (.int .i64))),(11,de)],[],[],0⟩)] n 10 68⟩
def F335:Nat->iz×Unit->Option Y39:=
 λn _=>Z ((aZ,()),())
def ajP(n:Nat):OC:=⟨335,⟨an3,K24,J,F335 n⟩,cx [] [] n 10 335⟩
def F336:Nat->gB×Unit->Option Y39:=
 λn b=>Z ((b.1.1,()),())
def ajO(n:Nat):OC:=⟨336,⟨an2,K24,J,F336 n⟩,cx [] [] n 10 336⟩
def F337:Nat->ja×Unit->Option Y39:=
 λn _=>Z ((aZ,()),())
def ajN(n:Nat):OC:=⟨337,⟨an1,K24,J,F337 n⟩,cx [] [] n 10 337⟩
def Nk(n:Nat)(c:adI):adH:=
 Z ((aZ,0,8,()),c.2)
def BN:List (Nat×Ty):=
 [(170,Ty.st 12),(173,Ty.st 13),(175,Ty.st 14),(181,Ty.st 15)]
def Ra(n:Nat)(i:adI):Y39->adH:=
 λj=>Z ((j.1.1,i.1.1,0,()),i.2)
def F59:Nat->Y2×Int×Unit->adH:=
 λn b=>ai (F50 n (b.1,0,())) λc=>aj (D.aO c.1.2.1) (Nk n c) (ai (F68 n c.2) λd=>aj (D.aI (ak d.1.1) 0) (Z ((aZ,
 0,5,()),d.2)) (aC (nzI (ak d.1.1)) (ai (aj (D.bN (D.rem b.2.1 (ak d.1.1)) 0) (Z (LO.next (D.add .i64 (D.rem b.2.1 (ak d.1.1)) (ak
 d.1.1),W,()))) (Z (LO.next (D.rem b.2.1 (ak d.1.1),J,())))) λ(e:LO (Int×Bool×Unit) (Int×Int×Unit) Unit Any)=>LO.jn e
 (λg=>aC (av g.1 d.1.1) (ai (F70 n (d.2.1,aR d.1.1 (ah g.1) 0,())) λh=>ai (F50 n (h.2.1,D.add .i64 c.1.1 1,())) λi=>aj
 (D.aO i.1.2.1) (Nk n i) (aj (D.bN 5000 i.1.1) (Nk n i) (aj (iG BN 0 (eN 16 h.1.1)) (ai (F335 n (jv (Sg.zero sg) BN 0 (eN
 16 h.1.1),())) (Ra n i)) (aj (iG BN 1 (eN 16 h.1.1)) (ai (F336 n (jv (Sg.zero sg) BN 1 (eN 16 h.1.1),())) (Ra n i)) (aj
 (iG BN 2 (eN 16 h.1.1)) (ai (F114 n (jv (Sg.zero sg) BN 2 (eN 16 h.1.1),())) (Ra n i)) (aj (iG BN 3 (eN 16 h.1.1))
 (ai (F337 n (jv (Sg.zero sg) BN 3 (eN 16 h.1.1),())) (Ra n i)) Y))))))) (λ_ _=>Y) (λ_ h=>Z ((aZ,h),d.2))
 λ_ _=>Y)))
def k59(n:Nat):OC:=⟨59,⟨P46,K64,J,F59 n⟩,cx [k50 n,k68 n,k70 n,afB n,ajP n,ajO n,ajN n] [(59,1000009,⟨[(10,de),(31,cX)],[],[],0⟩)] n 10 59⟩
def Xy(n:Nat):Option Y80:=
 Z ((cA,[],2,()),())
def F21:ahJ:=
 λn b=>ai (F46 n (b.1,())) λc=>aj (D.aO (D.aI c.1.1 0)) (Xy n) (ai (F99 n (cB.mk b.1 b.2.1,())) λd=>aj (D.aO d.1.1)
 (Xy n) (aj (D.bN 200 (ak b.2.2.1)) (Xy n) (ai (F50 n ((b.1.1,b.1.2,b.1.3,b.1.4,b.2.1.1,b.2.1.2,b.2.1.3,b.2.1.4,b.2.1.5,()),0,()))
 λe=>aj (D.aO e.1.2.1) (Z ((cA,[],8,()),())) (ai (@iter (List aE×Int×wH×Y2×Unit) (ahI) (wH×Y2×Unit) (Any)
 (λg=>aj (D.bN g.2.1 (ak b.2.2.1)) (aC (av g.2.1 b.2.2.1) (ai (F59 n (g.2.2.2.1,aR b.2.2.1 (ah g.2.1) 0,())) λh=>aj (D.aI
 h.1.2.2.1 5) (Z (LO.out 0 (g.1,g.2.1,([],[],[],[],g.2.2.1.2.2.2.2),h.2))) (aj (D.aO (D.aI h.1.2.2.1 0)) (Z (LO.ret (([],[],[],[],
 0,()),h.2) ([],h.1.2.2))) (aC (cZ g.1 [h.1.1]) (Z (LO.next (cP g.1 [h.1.1],D.add .i64 g.2.1 1,([],[],[],[],g.2.2.1.2.2.2.2),
 h.2))))))) (Z (LO.out 0 (g.1,g.2.1,([],[],[],[],g.2.2.1.2.2.2.2),g.2.2.2)))) n ([],0,([],[],[],[],0,()),e.2)) λg=>LO.el g (λ_
 i=>ai (F51 n i.2.2.2) λj=>Z ((j.1.1,i.1,0,()),())) (λh i=>Z ((aa.mk [] [] [] [] h.1.2.2.2.2.1,i),())) λ_ _=>
 Y))))
def k21(n:Nat):OC:=⟨21,⟨P65,K66,J,F21 n⟩,cx [k46 n,k50 n,k51 n,k59 n,k99 n] [(21,0,⟨[(13,.one (.own (.st 9))),(43,de),(0,.box (.cells [.nil (.st 6),.nil (.int .i64),.nil (.st 7),.nil (.int .i64),lF])),(0,b2z)],[.slot 6,.slot 23],[],0⟩)] n 10 21⟩
def F25:adC:=
 λn b=>Z ((aq.mk 1 b.1,()),())
def k25(n:Nat):OC:=⟨25,⟨P11,K17,J,F25 n⟩,cx [] [] n 10 25⟩
def Q9(b:Y2×Unit)(c:tD):Int:=
 aR b.1.2.2.2.2.2.1 (ah c.1) 0
def Q8(b:Y2×Unit)(e:tD):Int:=
 ak (aR b.1.2.2.2.2.1 (ah (aR e.2.2.1.1 (ah 0) 0)) aT).3
def ny(b:Y2×Unit)(e:tD)(g:Int×Unit):au:=
 aR (aR b.1.2.2.2.2.1 (ah (aR e.2.2.1.1 (ah 0) 0)) aT).4 (ah g.1) aU
def Il(n:Nat)(g:Int×Unit):Y41:=
 Z (LO.next (D.add .i64 g.1 1,()))
def Ik(b:Y2×Unit)(e:tD)(g:Int×Unit):List aq:=
 ey (ny b e g).3 1 (ak (ny b e g).3)
def abd(n:Nat)(b:Y2×Unit)(e:tD)(g:Int×Unit):Y41:=
 aj (D.aI (ak (ny b e g).3) 0) (Il n g) (aC (av 0 (ny b e g).3) (aj (D.aO (D.aI (aR (ny b e g).3 (ah 0) ax).1 5)) (aC
 (ff 1 (ak (ny b e g).3) (ak (ny b e g).3)) (aj (D.aI (ak (Ik b e g)) 0) (Il n g) (aC (av 0 (Ik b e g)) (aj (D.aO (D.aI
 (aR (Ik b e g) (ah 0) ax).1 5)) (aC (ff 1 (ak (Ik b e g)) (ak (Ik b e g))) Y) (aC (av 0 (Ik b e g)) Y))))) (aC
 (av 0 (ny b e g).3) Y)))
def Ij(b:Y2×Unit)(e:tD)(g:Int×Unit):List aq:=
 ey (ny b e g).2 1 (ak (ny b e g).2)
def Q7(b:Y2×Unit)(e:tD):Int:=
 ak (aR b.1.2.2.2.2.1 (ah (aR e.2.2.1.1 (ah (D.add .i64 0 1)) 0)) aT).3
def nw(b:Y2×Unit)(e:tD)(j:Int×Unit):au:=
 aR (aR b.1.2.2.2.2.1 (ah (aR e.2.2.1.1 (ah (D.add .i64 0 1)) 0)) aT).4 (ah j.1) aU
def AR(b:Y2×Unit)(e:tD)(j:Int×Unit):List aq:=
 ey (nw b e j).3 1 (ak (nw b e j).3)
def Xn(n:Nat)(b:Y2×Unit)(e:tD)(j:Int×Unit):Y41:=
 aj (D.aI (ak (nw b e j).3) 0) (Il n j) (aC (av 0 (nw b e j).3) (aj (D.aO (D.aI (aR (nw b e j).3 (ah 0) ax).1 5)) (aC
 (ff 1 (ak (nw b e j).3) (ak (nw b e j).3)) (aj (D.aI (ak (AR b e j)) 0) (Il n j) (aC (av 0 (AR b e j)) (aj (D.aO
 (D.aI (aR (AR b e j) (ah 0) ax).1 5)) (aC (ff 1 (ak (AR b e j)) (ak (AR b e j))) Y) (aC (av 0 (AR b e j))
 Y))))) (aC (av 0 (nw b e j).3) Y)))
def AQ(b:Y2×Unit)(e:tD)(j:Int×Unit):List aq:=
 ey (nw b e j).2 1 (ak (nw b e j).2)
def JT(b:Y2×Unit)(m:tD):Int:=
 ak (aR b.1.2.2.2.2.1 (ah (aR m.2.2.1.1 (ah m.1) 0)) aT).3
def jU(b:Y2×Unit)(m:tD)(o:Int×Unit):au:=
 aR (aR b.1.2.2.2.2.1 (ah (aR m.2.2.1.1 (ah m.1) 0)) aT).4 (ah o.1) aU
def AP(b:Y2×Unit)(m:tD)(o:Int×Unit):List aq:=
 ey (jU b m o).3 1 (ak (jU b m o).3)
def Xm(n:Nat)(b:Y2×Unit)(m:tD)(o:Int×Unit):Y41:=
 aj (D.aI (ak (jU b m o).3) 0) (Il n o) (aC (av 0 (jU b m o).3) (aj (D.aO (D.aI (aR (jU b m o).3 (ah 0) ax).1 5))
 (aC (ff 1 (ak (jU b m o).3) (ak (jU b m o).3)) (aj (D.aI (ak (AP b m o)) 0) (Il n o) (aC (av 0 (AP b m o)) (aj
 (D.aO (D.aI (aR (AP b m o) (ah 0) ax).1 5)) (aC (ff 1 (ak (AP b m o)) (ak (AP b m o))) Y) (aC (av 0 (AP b m
 o)) Y))))) (aC (av 0 (jU b m o).3) Y)))
def AO(b:Y2×Unit)(m:tD)(o:Int×Unit):List aq:=
 ey (jU b m o).2 1 (ak (jU b m o).2)
def Xl(n:Nat)(b:Y2×Unit)(m:tD):Option (LO tD Unit Y42 Any):=
 ai (@iter (Int×Unit) (Unit) (Unit) (Any) (λo=>aj (D.bN o.1 (ak (aR b.1.2.2.2.2.1 (ah (aR m.2.2.1.1 (ah m.1) 0)) aT).4)) (aC
 (av o.1 (aR b.1.2.2.2.2.1 (ah (aR m.2.2.1.1 (ah m.1) 0)) aT).4) (aj (D.aI (ak (jU b m o).2) 0) (Xm n b m o) (aC (av 0
 (jU b m o).2) (aj (D.aO (D.aI (aR (jU b m o).2 (ah 0) ax).1 5)) (aC (ff 1 (ak (jU b m o).2) (ak (jU b m o).2)) (aj
 (D.aI (ak (AO b m o)) 0) (Xm n b m o) (aC (av 0 (AO b m o)) (aj (D.aO (D.aI (aR (AO b m o) (ah 0) ax).1 5)) (aC
 (ff 1 (ak (AO b m o)) (ak (AO b m o))) Y) (aC (av 0 (AO b m o)) Y))))) (aC (av 0 (jU b m o).2) Y))))) (Z
 (LO.out 0 o))) n (0,())) λo=>LO.el o (λ_ _=>Y) (λ_ _=>Y) λ_ _=>Y
def Xk(b:Y2×Unit)(m:tD):Bool:=
 av 0 (aR b.1.2.2.2.2.1 (ah (aR m.2.2.1.1 (ah m.1) 0)) aT).3
def AN(b:Y2×Unit)(m:tD):List aq:=
 ey (aR b.1.2.2.2.2.1 (ah (aR m.2.2.1.1 (ah m.1) 0)) aT).3 1 (JT b m)
def xH(b:Y2×Unit)(p:tD)(s:Int×wH×Unit):aD:=
 aR b.1.2.2.2.2.1 (ah (aR p.2.2.1.1 (ah s.1) 0)) aT
def Fq(n:Nat)(p:tD)(t:Y44):Y46:=
 @iter (Nx) (List aq×Unit) (Unit) (Any) (λu=>aj (D.bN u.2.1 (ak t.1.1)) (aC (av u.2.1 u.1) (aC (ct (ah u.2.1) u.1) (aj (D.aI
 (aR u.1 (ah u.2.1) ax).1 5) (aC (av u.2.1 u.1) (aC (ct (ah u.2.1) u.1) (Z (LO.next (dO u.1 (ah u.2.1) (aq.mk (aR u.1
 (ah u.2.1) ax).1 (FL (A:=sg.A) (Ty.int .i64) 0 (aR u.1 (ah u.2.1) ax).2 p.2.1)),D.add .i64 u.2.1 1,()))))) (Z (LO.next (u.1,
 D.add .i64 u.2.1 1,())))))) (Z (LO.out 0 u))) n (t.1.1,0,())
def uJ(y:Int×zK×Unit):au:=
 aR y.2.1.2.2.2.1 (ah y.1) aU
def ad5(n:Nat)(y:Int×zK×Unit)(b:Nx)(h1:Nx):TO:=
 aC (av y.1 y.2.1.2.2.2.1) (aC (ct (ah y.1) y.2.1.2.2.2.1) (Z (LO.next (D.add .i64 y.1 1,(y.2.1.1,y.2.1.2.1,y.2.1.2.2.1,dO
 y.2.1.2.2.2.1 (ah y.1) (au.mk (uJ y).1 b.1 h1.1),()),()))))
def ad4(n:Nat)(y:Int×zK×Unit)(b:Nx)(h1:List aq×Unit):TO:=
 aC (av y.1 y.2.1.2.2.2.1) (aC (ct (ah y.1) y.2.1.2.2.2.1) (Z (LO.next (D.add .i64 y.1 1,(y.2.1.1,y.2.1.2.1,y.2.1.2.2.1,dO
 y.2.1.2.2.2.1 (ah y.1) (au.mk (uJ y).1 b.1 h1.1),()),()))))
def Xj(n:Nat)(p:tD)(y:Int×zK×Unit)(b:Nx):TO:=
 ai (F159 n ((uJ y).3,())) λd1=>ai (Fq n p d1) λd=>LO.el d (λ_ h1=>ad5 n y b h1) (λ_ h1=>ad4 n y b h1) λ_ _
 =>Y
def ad3(n:Nat)(y:Int×zK×Unit)(b:List aq×Unit)(h1:Nx):TO:=
 aC (av y.1 y.2.1.2.2.2.1) (aC (ct (ah y.1) y.2.1.2.2.2.1) (Z (LO.next (D.add .i64 y.1 1,(y.2.1.1,y.2.1.2.1,y.2.1.2.2.1,dO
 y.2.1.2.2.2.1 (ah y.1) (au.mk (uJ y).1 b.1 h1.1),()),()))))
def ad2(n:Nat)(y:Int×zK×Unit)(b:List aq×Unit)(h1:List aq×Unit):TO:=
 aC (av y.1 y.2.1.2.2.2.1) (aC (ct (ah y.1) y.2.1.2.2.2.1) (Z (LO.next (D.add .i64 y.1 1,(y.2.1.1,y.2.1.2.1,y.2.1.2.2.1,dO
 y.2.1.2.2.2.1 (ah y.1) (au.mk (uJ y).1 b.1 h1.1),()),()))))
def Xi(n:Nat)(p:tD)(y:Int×zK×Unit)(b:List aq×Unit):TO:=
 ai (F159 n ((uJ y).3,())) λd1=>ai (Fq n p d1) λd=>LO.el d (λ_ h1=>ad3 n y b h1) (λ_ h1=>ad2 n y b h1) λ_ _
 =>Y
def ad1(n:Nat)(b:Y2×Unit)(p:tD)(s:Int×wH×Unit)(w:Nx):Y49:=
 ai (F160 n ((xH b p s).4,())) λx=>ai (@iter (Int×zK×Unit) (Unit) (zK×Unit) (Any) (λy=>aj (D.bN y.1 (ak x.1.1)) (aC (av
 y.1 y.2.1.2.2.2.1) (aC (ct (ah y.1) y.2.1.2.2.2.1) (ai (F159 n ((uJ y).2,())) λz=>ai (Fq n p z) λa1=>LO.el a1 (λ_ d=>
 Xj n p y d) (λ_ d=>Xi n p y d) λ_ _=>Y))) (Z (LO.out 0 y))) n (0,((xH b p s).1,(xH b p s).2,w.1,x.1),())) λy
 =>LO.el y (λ_ a1=>aC (cZ s.2.1.1 [aD.mk a1.2.1.1 a1.2.1.2.1 a1.2.1.2.2.1 a1.2.1.2.2.2.1]) (Z (LO.next (D.add .i64 s.1 1,(cP s.2.1.1
 [aD.mk a1.2.1.1 a1.2.1.2.1 a1.2.1.2.2.1 a1.2.1.2.2.2.1],s.2.1.2),())))) (λ_ _=>aC (cZ s.2.1.1 [aT]) (Z (LO.next (D.add .i64 s.1
 1,(cP s.2.1.1 [aT],s.2.1.2),())))) λ_ _=>Y
def ad0(n:Nat)(b:Y2×Unit)(p:tD)(s:Int×wH×Unit)(w:List aq×Unit):Y49:=
 ai (F160 n ((xH b p s).4,())) λx=>ai (@iter (Int×zK×Unit) (Unit) (zK×Unit) (Any) (λy=>aj (D.bN y.1 (ak x.1.1)) (aC (av
 y.1 y.2.1.2.2.2.1) (aC (ct (ah y.1) y.2.1.2.2.2.1) (ai (F159 n ((uJ y).2,())) λz=>ai (Fq n p z) λa1=>LO.el a1 (λ_ d=>
 Xj n p y d) (λ_ d=>Xi n p y d) λ_ _=>Y))) (Z (LO.out 0 y))) n (0,((xH b p s).1,(xH b p s).2,w.1,x.1),())) λy
 =>LO.el y (λ_ a1=>aC (cZ s.2.1.1 [aD.mk a1.2.1.1 a1.2.1.2.1 a1.2.1.2.2.1 a1.2.1.2.2.2.1]) (Z (LO.next (D.add .i64 s.1 1,(cP s.2.1.1
 [aD.mk a1.2.1.1 a1.2.1.2.1 a1.2.1.2.2.1 a1.2.1.2.2.2.1],s.2.1.2),())))) (λ_ _=>aC (cZ s.2.1.1 [aT]) (Z (LO.next (D.add .i64 s.1
 1,(cP s.2.1.1 [aT],s.2.1.2),())))) λ_ _=>Y
def Xh(b:Y2×Unit)(v:Int×wH×Unit):Int:=
 aR b.1.2.2.2.2.2.1 (ah v.1) 0
def Pb(n:Nat)(b:Y2×Unit)(p:tD):Option Y50:=
 ai (F90 n (b.1.2.2.2.2.2.2.1,())) λq=>ai (F49 n (b.1.2.2.2.2.2.2.2.1,())) λr=>ai (@iter (Int×wH×Unit) (Unit) (wH×Unit) (Any)
 (λs=>aj (D.bN s.1 (ak p.2.2.1.1)) (aC (av s.1 p.2.2.1.1) (aC (ct (ah s.1) p.2.2.1.1) (aC (av (aR p.2.2.1.1 (ah s.1) 0)
 b.1.2.2.2.2.1) (ai (F159 n ((xH b p s).3,())) λt=>ai (Fq n p t) λu=>LO.el u (λ_ w=>ad1 n b p s w) (λ_ w=>ad0 n b p
 s w) λ_ _=>Y)))) (Z (LO.out 0 s))) n (0,([],[],q.1.1,r.1.1,b.1.2.2.2.2.2.2.2.2),())) λs=>LO.el s (λ_ u=>ai (@iter (Int×
 wH×Unit) (Unit) (wH×Unit) (Any) (λv=>aj (D.bN v.1 (ak b.1.2.2.2.2.2.1)) (aC (av v.1 b.1.2.2.2.2.2.1) (aC (cZ v.2.1.2.1 [FL (A:=
 sg.A) (Ty.int .i64) 0 (Xh b v) p.2.1]) (Z (LO.next (D.add .i64 v.1 1,(v.2.1.1,cP v.2.1.2.1 [FL (A:=sg.A) (Ty.int .i64) 0 (Xh b v)
 p.2.1],v.2.1.2.2),()))))) (Z (LO.out 0 v))) n (0,u.2)) λv=>LO.el v (λ_ x=>Z ((aa.mk x.2.1.1 x.2.1.2.1 x.2.1.2.2.1
 x.2.1.2.2.2.1 x.2.1.2.2.2.2.1,()),b)) (λ_ _=>Z ((cA,()),b)) λ_ _=>Y) (λ_ _=>Z ((cA,()),b)) λ_ _=>
 Y
def Xg(n:Nat)(b:Y2×Unit)(e:tD):Option Y50:=
 ai (@iter (tD) (Unit) (Y42) (Any) (λm=>aj (D.bN m.1 (ak m.2.2.1.1)) (aC (av m.1 m.2.2.1.1) (aC (ct (ah m.1) m.2.2.1.1) (aC (av
 (aR m.2.2.1.1 (ah m.1) 0) b.1.2.2.2.2.1) (aj (D.aI (JT b m) 0) (Xl n b m) (aC (Xk b m) (aj (D.aO (D.aI (aR (aR b.1.2.2.2.2.1
 (ah (aR m.2.2.1.1 (ah m.1) 0)) aT).3 (ah 0) ax).1 5)) (aC (ff 1 (JT b m) (JT b m)) (aj (D.aI (ak (AN b m)) 0)
 (Xl n b m) (aC (av 0 (AN b m)) (aj (D.aO (D.aI (aR (AN b m) (ah 0) ax).1 5)) (aC (ff 1 (ak (AN b m)) (ak (AN
 b m))) Y) (aC (av 0 (AN b m)) Y))))) (aC (Xk b m) Y))))))) (Z (LO.out 0 m))) n (D.add .i64 (D.add .i64 0 1) 1,e.2)) λm=>
 LO.el m (λ_ p=>Pb n b p) (λ_ _=>Z ((cA,()),b)) λ_ _=>Y
def Xf(n:Nat)(b:Y2×Unit)(e:tD):Option Y50:=
 ai (@iter (Int×Unit) (Unit) (Unit) (Any) (λj=>aj (D.bN j.1 (ak (aR b.1.2.2.2.2.1 (ah (aR e.2.2.1.1 (ah (D.add .i64 0 1)) 0))
 aT).4)) (aC (av j.1 (aR b.1.2.2.2.2.1 (ah (aR e.2.2.1.1 (ah (D.add .i64 0 1)) 0)) aT).4) (aj (D.aI (ak (nw b e j).2) 0)
 (Xn n b e j) (aC (av 0 (nw b e j).2) (aj (D.aO (D.aI (aR (nw b e j).2 (ah 0) ax).1 5)) (aC (ff 1 (ak (nw b e j).2)
 (ak (nw b e j).2)) (aj (D.aI (ak (AQ b e j)) 0) (Xn n b e j) (aC (av 0 (AQ b e j)) (aj (D.aO (D.aI (aR (AQ b e j)
 (ah 0) ax).1 5)) (aC (ff 1 (ak (AQ b e j)) (ak (AQ b e j))) Y) (aC (av 0 (AQ b e j)) Y))))) (aC (av 0 (nw b e
 j).2) Y))))) (Z (LO.out 0 j))) n (0,())) λj=>LO.el j (λ_ _=>Xg n b e) (λ_ _=>Xg n b e) λ_ _=>Y
def Xe(b:Y2×Unit)(e:tD):Bool:=
 av 0 (aR b.1.2.2.2.2.1 (ah (aR e.2.2.1.1 (ah (D.add .i64 0 1)) 0)) aT).3
def AM(b:Y2×Unit)(e:tD):List aq:=
 ey (aR b.1.2.2.2.2.1 (ah (aR e.2.2.1.1 (ah (D.add .i64 0 1)) 0)) aT).3 1 (Q7 b e)
def Xd(n:Nat)(b:Y2×Unit)(e:tD):Option Y50:=
 aj (D.bN (D.add .i64 0 1) (ak e.2.2.1.1)) (aC (av (D.add .i64 0 1) e.2.2.1.1) (aC (ct (ah (D.add .i64 0 1)) e.2.2.1.1) (aC (av (aR
 e.2.2.1.1 (ah (D.add .i64 0 1)) 0) b.1.2.2.2.2.1) (aj (D.aI (Q7 b e) 0) (Xf n b e) (aC (Xe b e) (aj (D.aO (D.aI (aR (aR
 b.1.2.2.2.2.1 (ah (aR e.2.2.1.1 (ah (D.add .i64 0 1)) 0)) aT).3 (ah 0) ax).1 5)) (aC (ff 1 (Q7 b e) (Q7 b e)) (aj (D.aI
 (ak (AM b e)) 0) (Xf n b e) (aC (av 0 (AM b e)) (aj (D.aO (D.aI (aR (AM b e) (ah 0) ax).1 5)) (aC (ff 1 (ak
 (AM b e)) (ak (AM b e))) Y) (aC (av 0 (AM b e)) Y))))) (aC (Xe b e) Y))))))) (Pb n b e)
def Xc(n:Nat)(b:Y2×Unit)(e:tD):Option Y50:=
 ai (@iter (Int×Unit) (Unit) (Unit) (Any) (λg=>aj (D.bN g.1 (ak (aR b.1.2.2.2.2.1 (ah (aR e.2.2.1.1 (ah 0) 0)) aT).4)) (aC
 (av g.1 (aR b.1.2.2.2.2.1 (ah (aR e.2.2.1.1 (ah 0) 0)) aT).4) (aj (D.aI (ak (ny b e g).2) 0) (abd n b e g) (aC (av 0 (ny b
 e g).2) (aj (D.aO (D.aI (aR (ny b e g).2 (ah 0) ax).1 5)) (aC (ff 1 (ak (ny b e g).2) (ak (ny b e g).2)) (aj (D.aI (ak
 (Ij b e g)) 0) (abd n b e g) (aC (av 0 (Ij b e g)) (aj (D.aO (D.aI (aR (Ij b e g) (ah 0) ax).1 5)) (aC (ff 1 (ak (Ij
 b e g)) (ak (Ij b e g))) Y) (aC (av 0 (Ij b e g)) Y))))) (aC (av 0 (ny b e g).2) Y))))) (Z (LO.out 0 g))) n (0,())) λg
 =>LO.el g (λ_ _=>Xd n b e) (λ_ _=>Xd n b e) λ_ _=>Y
def AK(b:Y2×Unit)(e:tD):List aq:=
 ey (aR b.1.2.2.2.2.1 (ah (aR e.2.2.1.1 (ah 0) 0)) aT).3 1 (Q8 b e)
def F60:Y51:=
 λn b=>ai (@iter (tD) (Unit) (Y42) (Any) (λc=>aj (D.bN c.1 (ak b.1.2.2.2.2.2.1)) (aC (av c.1 b.1.2.2.2.2.2.1) (aj (D.aO (En (A
 :=sg.A) (Ty.int .i64) (Q9 b c) c.2.1)) (aC (cZ c.2.2.1.1 [Q9 b c]) (Z (LO.next (D.add .i64 c.1 1,m7 (A:=sg.A) (Ty.int .i64) (Q9 b
 c) (ak c.2.2.1.1) c.2.1,(cP c.2.2.1.1 [Q9 b c],()),())))) (Z (LO.next (D.add .i64 c.1 1,c.2))))) (Z (LO.out 0 c))) n (0,[],([],()),
 ())) λc=>LO.el c (λ_ e=>aj (D.bN 0 (ak e.2.2.1.1)) (aC (av 0 e.2.2.1.1) (aC (ct (ah 0) e.2.2.1.1) (aC (av (aR e.2.2.1.1 (ah
 0) 0) b.1.2.2.2.2.1) (aj (D.aI (Q8 b e) 0) (Xc n b e) (aC (av 0 (aR b.1.2.2.2.2.1 (ah (aR e.2.2.1.1 (ah 0) 0)) aT).3) (aj
 (D.aO (D.aI (aR (aR b.1.2.2.2.2.1 (ah (aR e.2.2.1.1 (ah 0) 0)) aT).3 (ah 0) ax).1 5)) (aC (ff 1 (Q8 b e) (Q8 b e))
 (aj (D.aI (ak (AK b e)) 0) (Xc n b e) (aC (av 0 (AK b e)) (aj (D.aO (D.aI (aR (AK b e) (ah 0) ax).1 5)) (aC (ff
 1 (ak (AK b e)) (ak (AK b e))) Y) (aC (av 0 (AK b e)) Y))))) (aC (av 0 (aR b.1.2.2.2.2.1 (ah (aR e.2.2.1.1 (ah 0) 0))
 aT).3) Y))))))) (Pb n b e)) (λ_ _=>Z ((cA,()),b)) λ_ _=>Y
def k60(n:Nat):OC:=⟨60,⟨P52,K53,J,F60 n⟩,cx [k49 n,k90 n,afy n,ach n] [(60,0,⟨[(24,de),(0,.box (.map (.int .i64) (.int .i64))),(0,adp)],[.cell (.slot 3) 0,.slot 4],[],0⟩),(60,2,⟨[(8,de),(0,.box (.map (.int .i64) (.int .i64))),(0,adp)],[.cell (.slot 3) 0,.slot 4],[],2⟩),(60,6,⟨[(75,de),(0,b6z)],[.slot 11],[],0⟩),(60,8,⟨[(101,de),(0,b6z)],[.slot 11],[],0⟩),(91,0,⟨[(21,de),(0,ag6)],[.slot 2],[(19,1002003)],0⟩),(158,0,⟨[(0,.one (.own (.st 4))),(10,de)],[],[(8,0)],0⟩),(167,0,⟨[(15,de)],[],[],0⟩)] n 3 60⟩
def F28:Nat->Y17->Option Y30:=
 λn b=>ai (F46 n (b.1,())) λc=>aj (D.aO (D.aI c.1.1 0)) (Z ((cA,2,()),())) (ai (F99 n (cB.mk b.1 b.2.1,())) λ
 d=>aj (D.aO d.1.1) (Z ((cA,2,()),())) (ai (F60 n ((b.1.1,b.1.2,b.1.3,b.1.4,b.2.1.1,b.2.1.2,b.2.1.3,b.2.1.4,b.2.1.5,()),
 ())) λe=>Z ((e.1.1,0,()),())))
def k28(n:Nat):OC:=⟨28,⟨P67,K55,J,F28 n⟩,cx [k46 n,k60 n,k99 n] [] n 10 28⟩
def F32:ahC:=
 λn b=>ai (F46 n (b.1,())) λc=>aj (D.aO (D.aI c.1.1 0)) (Z ((cA,aZ,0,2,()),())) (ai (F99 n (cB.mk b.1
 b.2.1,())) λd=>aj (D.aO d.1.1) (Z ((cA,aZ,0,2,()),())) (ai (F59 n ((b.1.1,b.1.2,b.1.3,b.1.4,b.2.1.1,b.2.1.2,
 b.2.1.3,b.2.1.4,b.2.1.5,()),b.2.2)) λe=>aj (D.aO (D.aI e.1.2.2.1 0)) (Z ((cA,aZ,0,e.1.2.2),())) (ai (F51 n e.2)
 λg=>Z ((g.1.1,e.1.1,e.1.2.1,0,()),()))))
def k32(n:Nat):OC:=⟨32,⟨P68,K69,J,F32 n⟩,cx [k46 n,k51 n,k59 n,k99 n] [] n 10 32⟩
def JY(n:Nat)(c:Int×Unit):Option Tm:=
 Z (LO.next (D.add .i64 c.1 1,()))
def F284:Nat->Y64->FN:=
 λn b=>ai (@iter (Int×Unit) (Int×Unit) (Unit) (Any) (λc=>aj (D.bN c.1 (ak b.1)) (aC (av c.1 b.1) (aj (D.aI (kW b.1 c.1) 32)
 (JY n c) (aC (av c.1 b.1) (aj (D.aI (kW b.1 c.1) 9) (JY n c) (aC (av c.1 b.1) (aj (D.aI (kW b.1 c.1) 10) (JY n c) (aj (D.ek
 2 (D.dI .i64 (ak b.1) c.1)) (aC (ff c.1 (D.add .i64 c.1 2) (ak b.1)) (aj (fZ (ey b.1 c.1 (D.add .i64 c.1 2)) [47,47]) (ai (@iter (Int×
 Unit) (Int×Unit) (Unit) (Any) (λd=>aj (D.bN d.1 (ak b.1)) (aC (av d.1 b.1) (aj (D.aO (D.aI (kW b.1 d.1) 10)) (JY n d) (Z
 (LO.out 0 d)))) (Z (LO.out 0 d))) n c) λd=>LO.el d (λ_ g=>Z (LO.next g)) (λ_ g=>Z (LO.ret () g)) λ_ _=>Y) (Z (LO.ret
 () c)))) (Z (LO.ret () c))))))))) (Z (LO.out 0 c))) n b.2) λc=>LO.el c (λ_ e=>Z (e,())) (λ_ e=>Z (e,())) λ_ _=>Y
def aj3(n:Nat):OC:=⟨284,⟨P70,K2,J,F284 n⟩,cx [] [(284,0,⟨[(1,de)],[],[],0⟩),(284,2,⟨[(1,de)],[],[],0⟩)] n 10 284⟩
def F142:Nat->ahy->Option fH:=
 λn b=>ai (@iter (Int×Unit) (Bool×Unit) (Unit) (Any) (λc=>aj (D.bN c.1 (ak b.1)) (aC (av c.1 b.1) (aj (fZ (aR b.1 (ah c.1)
 []) b.2.1) (Z (LO.ret () (W,()))) (Z (LO.next (D.add .i64 c.1 1,()))))) (Z (LO.out 0 c))) n (0,())) λc=>LO.el c (λ_ _=>Z
 ((J,()),())) (λ_ e=>Z (e,())) λ_ _=>Y
def YX(n:Nat):OC:=⟨142,⟨P71,K4,J,F142 n⟩,cx [] [(142,0,⟨[(5,de)],[],[],0⟩)] n 10 142⟩
def F290:Y85:=
 λn _=>Z (([[98,111,111,108],[99,101,108,108],[99,104,97,110],[101,108,115,101],[102,97,108,115,101],[102,117,110],[103,
 101,116],[105,102],[105,110],[105,110,112,117,116],[105,110,116],[106,111,105,110],[108,101,116],[109,97,116,99,104],[109,
 111,100,117,108,101],[111,117,116],[112,97,117,115,101],[112,117,116],[114,101,115,101,116],[115,101,110,100],[115,104,105,
 102,116],[115,112,97,119,110],[116,97,107,101],[116,97,115,107],[116,104,101,110],[116,114,117,101],[116,121,112,101],[117,
 110,105,116]],()),())
def aj1(n:Nat):OC:=⟨290,⟨[],K72,J,F290 n⟩,cx [] [] n 10 290⟩
def F250:Y33:=
 λn b=>ai (F290 n ()) λc=>ai (F142 n (c.1.1,b)) λd=>Z d
def afm(n:Nat):OC:=⟨250,⟨P7,K4,J,F250 n⟩,cx [YX n,aj1 n] [] n 10 250⟩
def F299:Y36:=
 λn b=>aj (D.ek 97 b.1) (Z ((D.ek b.1 122,()),())) (Z ((J,()),()))
def afh(n:Nat):OC:=⟨299,⟨P73,K4,J,F299 n⟩,cx [] [] n 10 299⟩
def F302:Y36:=
 λn b=>aj (D.ek 48 b.1) (Z ((D.ek b.1 57,()),())) (Z ((J,()),()))
def aff(n:Nat):OC:=⟨302,⟨P73,K4,J,F302 n⟩,cx [] [] n 10 302⟩
def Xs(n:Nat)(b:ahn)(c:Int×Unit):Option Tm:=
 aj (D.aO b.2.2.1) (aC (av c.1 b.1) (ai (F299 n (kW b.1 c.1,())) λe=>aj e.1.1 (Z (LO.next (D.add .i64 c.1 1,()))) (Z (LO.out 0
 c)))) (Z (LO.out 0 c))
def F300:Nat->ahn->FN:=
 λn b=>ai (@iter (Int×Unit) (Int×Unit) (Unit) (Any) (λc=>aj (D.bN c.1 (ak b.1)) (aj b.2.2.1 (aC (av c.1 b.1) (ai (F302 n (kW
 b.1 c.1,())) λd=>aj d.1.1 (Z (LO.next (D.add .i64 c.1 1,()))) (Xs n b c))) (Xs n b c)) (Z (LO.out 0 c))) n (b.2.1,())) λc=>
 LO.el c (λ_ e=>Z ((D.dI .i64 e.1 b.2.1,()),())) (λ_ e=>Z (e,())) λ_ _=>Y
def afg(n:Nat):OC:=⟨300,⟨P74,K2,J,F300 n⟩,cx [afh n,aff n] [(300,0,⟨[(7,de)],[],[],0⟩)] n 10 300⟩
def F301:Y36:=
 λn b=>aj (D.ek 65 b.1) (Z ((D.ek b.1 90,()),())) (Z ((J,()),()))
def ajY(n:Nat):OC:=⟨301,⟨P73,K4,J,F301 n⟩,cx [] [] n 10 301⟩
def F303:Nat->Y64->FN:=
 λn b=>aC (av b.2.1 b.1) (ai (aj (D.aI (kW b.1 b.2.1) 126) (Z (LO.next (D.add .i64 b.2.1 1,W,()))) (Z (LO.next (b.2.1,J,
 ())))) λ(c:LO (Int×Bool×Unit) (Int×Unit) Unit Any)=>LO.jn c (λd=>ai (F300 n (b.1,d.1,W,())) λe=>aj (D.aI e.1.1 0) (Z
 ((0,()),())) (aj (D.bN 10 e.1.1) (Z ((0,()),())) (aC (av d.1 b.1) (aj (D.aI (kW b.1 d.1) 48) (aj (D.bN 1 e.1.1) (Z ((0,()),()))
 (aj (D.bN b.2.1 d.1) (Z ((0,()),())) (Z ((D.add .i64 (D.dI .i64 d.1 b.2.1) e.1.1,()),())))) (Z ((D.add .i64 (D.dI .i64 d.1 b.2.1)
 e.1.1,()),())))))) (λ_ _=>Y) (λ_ e=>Z (e,())) λ_ _=>Y)
def ajX(n:Nat):OC:=⟨303,⟨P70,K2,J,F303 n⟩,cx [afg n] [(303,1000003,⟨[(5,de),(11,cX)],[],[],0⟩)] n 10 303⟩
abbrev Up(F:Fn P7 K2 J):kT sg:=⟨P7,K2,J,F⟩
def B304:Nat->(List UInt8×Unit->FN)->List UInt8×Unit->FN:=
 λn f304 c=>aC (av 0 c.1) (aj (D.aI (kW c.1 0) 126) (aC (ff 1 (ak c.1) (ak c.1)) (ai (f304 (ey c.1 1 (ak c.1),())) λd=>
 Z ((D.neg .i64 d.1.1,()),()))) (ai (@iter (Int×Int×Unit) (Int×Unit) (Unit) (Any) (λd=>aj (D.bN d.2.1 (ak c.1)) (aC (av d.2.1
 c.1) (Z (LO.next (D.add .i64 (D.mul .i64 10 d.1) (D.conv .i64 (D.dI .u8 (kW c.1 d.2.1) 48)),D.add .i64 d.2.1 1,())))) (Z (LO.out 0 d))) n
 (0,0,())) λd=>LO.el d (λ_ g=>Z ((g.1,()),())) (λ_ g=>Z (g,())) λ_ _=>Y))
def D304(n:Nat)(f304:Fn P7 K2 J)(b:bD prog 304 (Up f304)):bD prog 304 (Up (B304 n f304)):=cx [⟨304,Up f304,b⟩] [(304,0,⟨[(3,de),(4,de)],[],[],0⟩)] n 10 304
def R304(n k:Nat):(Fn P7 K2 J):=Nat.rec (motive:=λ_=>(Fn P7 K2 J)) (λ_=>Y) (λ_ r=>B304 n r) k
def F304(n:Nat):Fn P7 K2 J:=(R304 n n)
def abj(n:Nat):∀k,bD prog 304 (Up (R304 n k))
 |0=>bY (enters 304 (by kernel_rfl))
 |k+1=>have b:=abj n k
  D304 n _ b
def ajW(n:Nat):OC:=⟨304,Up (F304 n),(abj n n)⟩
def F311:Y85:=
 λn _=>Z (([[61,62],[61,61],[45,62],[61],[60],[43],[45],[42],[40],[41],[123],[125],[124],[44],[59],[58],[95],[63]],()),())
def ajS(n:Nat):OC:=⟨311,⟨[],K72,J,F311 n⟩,cx [] [] n 10 311⟩
def F305:Nat->Y64->aho:=
 λn b=>ai (F311 n ()) λc=>ai (@iter (Int×Unit) (List UInt8×Unit) (Unit) (Any) (λd=>aj (D.bN d.1 (ak c.1.1)) (aC (av d.1
 c.1.1) (aj (D.ek (ak (aR c.1.1 (ah d.1) [])) (D.dI .i64 (ak b.1) b.2.1)) (aC (av d.1 c.1.1) (aC (ff b.2.1 (D.add .i64 b.2.1 (ak (aR
 c.1.1 (ah d.1) []))) (ak b.1)) (aC (av d.1 c.1.1) (aj (fZ (ey b.1 b.2.1 (D.add .i64 b.2.1 (ak (aR c.1.1 (ah d.1) [])))) (aR c.1.1
 (ah d.1) [])) (aC (av d.1 c.1.1) (Z (LO.ret () (aR c.1.1 (ah d.1) [],())))) (Z (LO.next (D.add .i64 d.1 1,()))))))) (Z (LO.next
 (D.add .i64 d.1 1,()))))) (Z (LO.out 0 d))) n (0,())) λd=>LO.el d (λ_ _=>Z (([],()),())) (λ_ g=>Z (g,())) λ_ _=>Y
def ajV(n:Nat):OC:=⟨305,⟨P70,K10,J,F305 n⟩,cx [ajS n] [(305,0,⟨[(6,de)],[],[],0⟩)] n 10 305⟩
def Pg(b:Y64)(d:(Int×Unit)×Unit):Bool:=
 ff b.2.1 (D.add .i64 b.2.1 d.1.1) (ak b.1)
def xI(b:Y64)(d:(Int×Unit)×Unit):List UInt8:=
 ey b.1 b.2.1 (D.add .i64 b.2.1 d.1.1)
def Pf(n:Nat):Bool×Y65×Unit->Y66:=
 λh=>Z ((e8.mk h.2.1.1 h.2.1.2.1 h.2.1.2.2.1 h.2.1.2.2.2.1,()),())
def Xu(n:Nat)(b:Y64):Y66:=
 ai (F303 n b) λg=>ai (aj (D.bN 0 g.1.1) (aC (Pg b g) (aC (Pg b g) (ai (F304 n (xI b g,())) λh=>Z (LO.next (W,(4,
 xI b g,h.1.1,b.2),()))))) (Z (LO.next (J,(0,[],0,b.2),())))) λ(h:Y67)=>LO.jn h (Pf n) (λ_ _=>Y) (λ_ _=>Z
 ((dw,()),())) λ_ _=>Y
def F285:Nat->Y64->Y66:=
 λn b=>aC (av b.2.1 b.1) (ai (F299 n (kW b.1 b.2.1,())) λc=>aj c.1.1 (ai (F300 n (b.1,b.2.1,J,())) λd=>aC (Pg b d)
 (ai (F250 n (xI b d,())) λe=>ai (aj e.1.1 (Z (LO.next (W,(3,xI b d,0,b.2),()))) (ai (aj (D.ek (ak (xI b d)) 8)
 (Z (LO.next (W,(1,xI b d,0,b.2),()))) (Z (LO.next (J,(0,xI b d,0,b.2),())))) λ(g:Y67)=>LO.jn g (λh=>Z
 (LO.next (J,h.2))) (λ_ _=>Y) (λh _=>Z (LO.ret h ())) λ_ _=>Y)) λ(g:Y67)=>LO.jn g (Pf n) (λ_ _=>Y) (λ
 _ _=>Z ((dw,()),())) λ_ _=>Y)) (aC (av b.2.1 b.1) (ai (F301 n (kW b.1 b.2.1,())) λd=>aj d.1.1 (ai (F300 n (b.1,
 D.add .i64 b.2.1 1,J,())) λe=>aC (ff b.2.1 (D.add .i64 (D.add .i64 b.2.1 1) e.1.1) (ak b.1)) (ai (aj (D.ek (ak (ey b.1 b.2.1
 (D.add .i64 (D.add .i64 b.2.1 1) e.1.1))) 8) (Z (LO.next (W,(2,ey b.1 b.2.1 (D.add .i64 (D.add .i64 b.2.1 1) e.1.1),0,b.2),()))) (Z
 (LO.next (J,(0,ey b.1 b.2.1 (D.add .i64 (D.add .i64 b.2.1 1) e.1.1),0,b.2),())))) λ(g:Y67)=>LO.jn g (Pf n) (λ_ _=>Y) (λ
 _ _=>Z ((dw,()),())) λ_ _=>Y)) (aC (av b.2.1 b.1) (ai (F302 n (kW b.1 b.2.1,())) λe=>aj e.1.1 (Xu n b) (aC
 (av b.2.1 b.1) (aj (D.aI (kW b.1 b.2.1) 126) (Xu n b) (ai (F305 n b) λg=>aj (D.aO (fZ g.1.1 [])) (Z ((e8.mk 5 g.1.1 0
 b.2.1,()),())) (Z ((e8.mk 0 g.1.1 0 b.2.1,()),()))))))))))
def aj2(n:Nat):OC:=⟨285,⟨P70,K75,J,F285 n⟩,cx [afm n,afh n,afg n,ajY n,aff n,ajX n,ajW n,ajV n] [(285,1000005,⟨[(24,cX),(0,Z4)],[.slot 5],[],0⟩),(285,1000007,⟨[(29,cX),(0,Z4)],[.slot 5],[],0⟩),(285,1000012,⟨[(50,cX),(0,Z4)],[.slot 5],[],0⟩),(285,1000017,⟨[(67,cX),(0,Z4)],[.slot 5],[],0⟩)] n 10 285⟩
def F245:Y61:=
 λn b=>ai (F284 n (b.1,0,())) λc=>ai (@iter (Y60) (Y60) (Unit) (Any) (λd=>aj (D.bN d.2.1 (ak b.1)) (ai (F285 n (b.1,d.2)) λe
 =>aj (D.aI e.1.1.1 0) (Z (LO.ret () d)) (aC (cZ d.1 [e.1.1]) (ai (F284 n (b.1,D.add .i64 d.2.1 (ak e.1.1.2),())) λg=>Z (LO.next
 (cP d.1 [e.1.1],g.1))))) (Z (LO.out 0 d))) n ([],c.1)) λd=>LO.el d (λ_ g=>Z ((g.1,ak b.1,()),())) (λ_ g=>Z (g,()))
 λ_ _=>Y
def akd(n:Nat):OC:=⟨245,⟨P7,K76,J,F245 n⟩,cx [aj3 n,aj2 n] [(245,0,⟨[(4,.one (.own (.st 25))),(5,de)],[],[],0⟩)] n 10 245⟩
def F179:Y61:=
 λn b=>aj (D.bN 8000 (ak b.1)) (Z (([],3,()),())) (ai (F245 n b) λc=>aj (D.bN c.1.2.1 (ak b.1)) (Z (([],4,()),())) (Z
 ((c.1.1,0,()),())))
def akO(n:Nat):OC:=⟨179,⟨P7,K76,J,F179 n⟩,cx [akd n] [] n 10 179⟩
def F247:Nat->bE×List UInt8×Unit->Option fH:=
 λn b=>aj b.1.3 (Z ((J,()),())) (aj (D.ek (ak b.1.1) b.1.2) (Z ((J,()),())) (aC (av b.1.2 b.1.1) (aj (D.aI (aR b.1.1
 (ah b.1.2) dw).1 5) (Z ((fZ (aR b.1.1 (ah b.1.2) dw).2 b.2.1,()),())) (aj (D.aI (aR b.1.1 (ah b.1.2) dw).1 3)
 (Z ((fZ (aR b.1.1 (ah b.1.2) dw).2 b.2.1,()),())) (Z ((J,()),()))))))
def ab9(n:Nat):OC:=⟨247,⟨P77,K4,J,F247 n⟩,cx [] [] n 10 247⟩
def F182:Nat->ahH->Option adM:=
 λn b=>ai (F247 n (bE.mk b.1.1 b.1.2.1 b.1.2.2.1,b.2)) λc=>aj c.1.1 (Z (c.1,(b.1.1,D.add .i64 b.1.2.1 1,b.1.2.2),()))
 (Z (c.1,b.1,()))
def Ed(n:Nat):OC:=⟨182,⟨P78,K4,J,F182 n⟩,cx [ab9 n] [] n 10 182⟩
def F180:Nat->ahH->aaf:=
 λn b=>ai (F182 n b) λc=>aj (D.aO c.1.1) (Z ((),(c.2.1.1,c.2.1.2.1,W,()),())) (Z ((),c.2))
def Ee(n:Nat):OC:=⟨180,⟨P78,[],J,F180 n⟩,cx [Ed n] [] n 10 180⟩
def F246:Nat->bE×Int×Unit->Option fH:=
 λn b=>aj (D.aO b.1.3) (aj (D.bN b.1.2 (ak b.1.1)) (aC (av b.1.2 b.1.1) (Z ((D.aI (aR b.1.1 (ah b.1.2) dw).1 b.2.1,()),
 ()))) (Z ((J,()),()))) (Z ((J,()),()))
def acd(n:Nat):OC:=⟨246,⟨P79,K4,J,F246 n⟩,cx [] [] n 10 246⟩
def F181:Nat->Y7×Int×Unit->Option ((e8×Unit)×Y7×Unit):=
 λn b=>ai (F246 n (bE.mk b.1.1 b.1.2.1 b.1.2.2.1,b.2)) λc=>aj (D.aO c.1.1) (Z ((dw,()),(b.1.1,b.1.2.1,W,
 ()),())) (aC (av b.1.2.1 b.1.1) (Z ((aR b.1.1 (ah b.1.2.1) dw,()),(b.1.1,D.add .i64 b.1.2.1 1,b.1.2.2),())))
def Jf(n:Nat):OC:=⟨181,⟨Na,K75,J,F181 n⟩,cx [acd n] [] n 10 181⟩
abbrev NS(F:Fn kD K82 J):kT sg:=⟨kD,K82,J,F⟩
def PA(e:Y95):cj:=
 cj.mk e.1.1.1 e.1.1.2 e.1.1.3 e.1.1.4
def B248:Nat->Y96->Y96->Y7×Unit->Option Y95:=
 λn f248 f286 d=>ai (f286 d) λe=>ai (F182 n (e.2.1,[45,62],())) λg=>aj g.1.1 (ai (f248 g.2) λh=>Z ((cj.mk 4 0 []
 [PA e,PA h],()),h.2)) (Z ((PA e,()),g.2))
abbrev RM(F:Fn kD K82 J):kT sg:=⟨kD,K82,J,F⟩
def Pz(n:Nat)(f248:Y96)(f306:ahw):Y95->Option Y95:=
 λj=>Z ((cj.mk j.1.1.1 j.1.1.2 j.1.1.3 j.1.1.4,()),j.2)
def B286:Nat->Y96->ahw->Y7×Unit->Option Y95:=
 λn f248 f306 d=>ai (F182 n (d.1,[105,110,116],())) λe=>aj e.1.1 (Z ((cj.mk 1 0 [] [],()),e.2)) (ai (F182 n (e.2.1,[98,
 111,111,108],())) λg=>aj g.1.1 (Z ((cj.mk 2 0 [] [],()),g.2)) (ai (F182 n (g.2.1,[117,110,105,116],())) λh=>aj h.1.1
 (Z ((cj.mk 3 0 [] [],()),h.2)) (ai (F182 n (h.2.1,[99,101,108,108],())) λi=>aj i.1.1 (ai (f306 (i.2.1,5,())) (Pz n f248
 f306)) (ai (F182 n (i.2.1,[99,104,97,110],())) λj=>aj j.1.1 (ai (f306 (j.2.1,6,())) (Pz n f248 f306)) (ai (F182 n (j.2.1,[116,97,
 115,107],())) λk=>aj k.1.1 (ai (f306 (k.2.1,7,())) (Pz n f248 f306)) (ai (F182 n (k.2.1,[63],())) λl=>aj l.1.1 (ai (F181 n
 (l.2.1,4,())) λm=>Z ((cj.mk 9 m.1.1.3 [] [],()),m.2)) (ai (F182 n (l.2.1,[40],())) λm=>aj m.1.1 (ai (f248 m.2) λo=>ai
 (F180 n (o.2.1,[41],())) λp=>Z ((cj.mk o.1.1.1 o.1.1.2 o.1.1.3 o.1.1.4,()),p.2)) (ai (F181 n (m.2.1,2,())) λo=>Z
 ((cj.mk 8 0 o.1.1.2 [],()),o.2)))))))))
abbrev Yo(F:Fn Na K82 J):kT sg:=⟨Na,K82,J,F⟩
def B306:Nat->Y96->Y7×Int×Unit->Option Y95:=
 λn f286 c=>ai (f286 (c.1,())) λd=>Z ((cj.mk c.2.1 0 [] [cj.mk d.1.1.1 d.1.1.2 d.1.1.3 d.1.1.4],()),d.2)
def D248(n:Nat)(f248:Fn kD K82 J)(f286:Fn kD K82 J)(b:bD prog 248 (NS f248))(d:bD prog 286 (RM f286)):bD prog 248 (NS (B248 n f248 f286)):=cx [Ed n,⟨248,NS f248,b⟩,⟨286,RM f286,d⟩] [] n 10 248
def D286(n:Nat)(f248:Fn kD K82 J)(f306:Fn Na K82 J)(b:bD prog 248 (NS f248))(d:bD prog 306 (Yo f306)):bD prog 286 (RM (B286 n f248 f306)):=cx [Ee n,Jf n,Ed n,⟨248,NS f248,b⟩,⟨306,Yo f306,d⟩] [] n 10 286
def D306(n:Nat)(f286:Fn kD K82 J)(b:bD prog 286 (RM f286)):bD prog 306 (Yo (B306 n f286)):=cx [⟨286,RM f286,b⟩] [] n 10 306
def R248(n k:Nat):(Fn kD K82 J)×(Fn kD K82 J)×(Fn Na K82 J):=Nat.rec (motive:=λ_=>(Fn kD K82 J)×(Fn kD K82 J)×(Fn Na K82 J)) ((λ_=>Y,λ_=>Y,λ_=>Y)) (λ_ r=>(B248 n r.1 r.2.1,B286 n r.1 r.2.2,B306 n r.2.1)) k
def F248(n:Nat):Fn kD K82 J:=(R248 n n).1
def abr(n:Nat):∀k,bD prog 248 (NS (R248 n k).1)∧bD prog 286 (RM (R248 n k).2.1)∧bD prog 306 (Yo (R248 n k).2.2)
 |0=>⟨bY (enters 248 (by kernel_rfl)),bY (enters 286 (by kernel_rfl)),bY (enters 306 (by kernel_rfl))⟩
 |k+1=>have b:=abr n k
  ⟨D248 n _ _ b.1 b.2.1,D286 n _ _ b.1 b.2.2,D306 n _ b.2.1⟩
def afo(n:Nat):OC:=⟨248,NS (F248 n),(abr n n).1⟩
def F183:Nat->Y7×Unit->Option ((jA×Unit)×Y7×Unit):=
 λn b=>ai (F181 n (b.1,2,())) λc=>ai (F180 n (c.2.1,[61],())) λd=>ai (@iter (Bool×Y7×ahG×Unit) (Unit) (Y7×ahG×Unit)
 (Any) (λe=>aj e.1 (aj (D.aO e.2.1.2.2.1) (ai (F181 n (e.2.1,2,())) λg=>ai (F182 n (g.2.1,[40],())) λh=>ai (aj h.1.1 (ai
 (@iter (ahF) (Unit) (Y7×adL×Unit) (Any) (λi=>aj i.1 (aj (D.aO i.2.1.2.2.1) (ai (F248 n (i.2.1,())) λj=>aC (cZ i.2.2.1.2.1
 [cj.mk j.1.1.1 j.1.1.2 j.1.1.3 j.1.1.4]) (ai (F182 n (j.2.1,[44],())) λk=>Z (LO.next (k.1.1,k.2.1,(i.2.2.1.1,cP i.2.2.1.2.1
 [cj.mk j.1.1.1 j.1.1.2 j.1.1.3 j.1.1.4],()),())))) (Z (LO.out 0 i))) (Z (LO.out 0 i))) n (W,h.2.1,(g.1.1.2,[],()),())) λi=>
 LO.el i (λ_ k=>ai (F180 n (k.2.1,[41],())) λl=>Z (LO.next (W,l.2.1,k.2.2))) (λj _=>Z (LO.ret j ())) λ_ _=>Y) (Z
 (LO.next (J,h.2.1,(g.1.1.2,[],()),())))) λ(i:LO ahF Unit (Y7×adL×Unit) Any)=>LO.jn i (λj=>aC (cZ e.2.2.1.2.1
 [hG.mk j.2.2.1.1 j.2.2.1.2.1]) (ai (F182 n (j.2.1,[124],())) λk=>Z (LO.next (k.1.1,k.2.1,(e.2.2.1.1,cP e.2.2.1.2.1
 [hG.mk j.2.2.1.1 j.2.2.1.2.1],()),())))) (λ_ _=>Y) (λj _=>Z (LO.ret (j.1,e.2.2) ())) λ_ _=>Y) (Z (LO.out 0 e)))
 (Z (LO.out 0 e))) n (W,d.2.1,(c.1.1.2,[],()),())) λe=>LO.el e (λ_ h=>ai (F180 n (h.2.1,[59],())) λi=>Z ((jA.mk
 h.2.2.1.1 h.2.2.1.2.1,()),i.2)) (λg _=>Z ((kJ,()),g.1,())) λ_ _=>Y
def akN(n:Nat):OC:=⟨183,⟨kD,K83,J,F183 n⟩,cx [Ee n,Jf n,Ed n,afo n] [(183,0,⟨[(4,cX),(0,vV),(0,.box (.cells [.dat (.str),.own (.st 18)]))],[.slot 0,.slot 3],[],0⟩),(183,2,⟨[(6,cX),(0,vV),(0,ag3)],[.slot 0,.slot 5],[],0⟩),(183,1000007,⟨[(27,cX),(0,vV),(0,ag3)],[.slot 0,.slot 5],[],0⟩)] n 10 183⟩
def F289:Nat->Int×Term×Term×Unit->Option WX:=
 λn b=>Z ((Term.mk b.1 0 [] [Term.mk b.2.1.1 b.2.1.2 b.2.1.3 b.2.1.4 b.2.1.5,Term.mk b.2.2.1.1 b.2.2.1.2 b.2.2.1.3 b.2.2.1.4 b.2.2.1.5] [],
 ()),())
def YS(n:Nat):OC:=⟨289,⟨P84,K85,J,F289 n⟩,cx [] [] n 10 289⟩
abbrev Un(F:Fn kD K86 J):kT sg:=⟨kD,K86,J,F⟩
def B319:Nat->(Y7×Unit->Option Y8)->Y7×Unit->Option Y8:=
 λn f319 c=>ai (F182 n (c.1,[95],())) λd=>aj d.1.1 (Z ((aB.mk 1 0 [] [],()),d.2)) (ai (F246 n (bE.mk d.2.1.1
 d.2.1.2.1 d.2.1.2.2.1,1,())) λe=>aj e.1.1 (ai (F181 n (d.2.1,1,())) λg=>Z ((aB.mk 2 0 g.1.1.2 [],()),g.2)) (ai (F246 n
 (bE.mk d.2.1.1 d.2.1.2.1 d.2.1.2.2.1,4,())) λg=>aj g.1.1 (ai (F181 n (d.2.1,4,())) λh=>Z ((aB.mk 3 h.1.1.3 []
 [],()),h.2)) (ai (F182 n (d.2.1,[116,114,117,101],())) λh=>aj h.1.1 (Z ((aB.mk 4 1 [] [],()),h.2)) (ai (F182 n (h.2.1,[102,
 97,108,115,101],())) λi=>aj i.1.1 (Z ((aB.mk 4 0 [] [],()),i.2)) (ai (F182 n (i.2.1,[40],())) λj=>aj j.1.1 (ai (F180 n
 (j.2.1,[41],())) λk=>Z ((aB.mk 5 0 [] [],()),k.2)) (ai (F181 n (j.2.1,2,())) λk=>ai (F182 n (k.2.1,[40],())) λl=>aj
 l.1.1 (ai (@iter (Bool×Y7×Y9×Unit) (Unit) (Y7×Y9×Unit) (Any) (λm=>aj m.1 (aj (D.aO m.2.1.2.2.1) (ai (f319 (m.2.1,())) λo=>
 aC (cZ m.2.2.1.2.2.2.1 [aB.mk o.1.1.1 o.1.1.2 o.1.1.3 o.1.1.4]) (ai (F182 n (o.2.1,[44],())) λp=>Z (LO.next (p.1.1,p.2.1,
 (m.2.2.1.1,m.2.2.1.2.1,m.2.2.1.2.2.1,cP m.2.2.1.2.2.2.1 [aB.mk o.1.1.1 o.1.1.2 o.1.1.3 o.1.1.4],()),())))) (Z (LO.out 0 m))) (Z
 (LO.out 0 m))) n (W,l.2.1,(6,0,k.1.1.2,[],()),())) λm=>LO.el m (λ_ p=>ai (F180 n (p.2.1,[41],())) λq=>Z ((aB.mk
 p.2.2.1.1 p.2.2.1.2.1 p.2.2.1.2.2.1 p.2.2.1.2.2.2.1,()),q.2)) (λo _=>Z ((aL,()),o.1,())) λ_ _=>Y) (Z ((aB.mk 6 0
 k.1.1.2 [],()),l.2))))))))
def D319(n:Nat)(f319:Fn kD K86 J)(b:bD prog 319 (Un f319)):bD prog 319 (Un (B319 n f319)):=cx [Ee n,Jf n,Ed n,acd n,⟨319,Un f319,b⟩] [(319,1,⟨[(4,cX),(0,vV),(0,adr)],[.slot 0,.slot 3],[],0⟩)] n 10 319
def R319(n k:Nat):(Fn kD K86 J):=Nat.rec (motive:=λ_=>(Fn kD K86 J)) (λ_=>Y) (λ_ r=>B319 n r) k
def F319(n:Nat):Fn kD K86 J:=(R319 n n)
def abh(n:Nat):∀k,bD prog 319 (Un (R319 n k))
 |0=>bY (enters 319 (by kernel_rfl))
 |k+1=>have b:=abh n k
  D319 n _ b
def ajQ(n:Nat):OC:=⟨319,Un (F319 n),(abh n n)⟩
def F318:Nat->List UInt8×Unit->Option anN:=
 λn b=>aj (fZ b.1 [99,101,108,108]) (Z ((16,1,()),())) (aj (fZ b.1 [103,101,116]) (Z ((17,1,()),())) (aj (fZ b.1 [112,
 117,116]) (Z ((18,2,()),())) (aj (fZ b.1 [115,112,97,119,110]) (Z ((19,1,()),())) (aj (fZ b.1 [106,111,105,110]) (Z ((20,
 1,()),())) (aj (fZ b.1 [99,104,97,110]) (Z ((21,0,()),())) (aj (fZ b.1 [115,101,110,100]) (Z ((22,2,()),())) (aj (fZ b.1
 [116,97,107,101]) (Z ((23,1,()),())) (aj (fZ b.1 [111,117,116]) (Z ((24,(-1),()),())) (aj (fZ b.1 [105,110,112,117,116])
 (Z ((25,0,()),())) (aj (fZ b.1 [114,101,115,101,116]) (Z ((26,1,()),())) (aj (fZ b.1 [112,97,117,115,101]) (Z ((28,0,
 ()),())) (Z ((0,0,()),())))))))))))))
def afe(n:Nat):OC:=⟨318,⟨P7,K41,J,F318 n⟩,cx [] [] n 10 318⟩
def F314:Y89:=
 λn b=>aj b.1.3 (Z ((J,()),())) (aj (D.ek (ak b.1.1) b.1.2) (Z ((J,()),())) (aC (av b.1.2 b.1.1) (aj (D.aI (aR b.1.1
 (ah b.1.2) dw).1 3) (ai (F318 n ((aR b.1.1 (ah b.1.2) dw).2,())) λc=>aj (D.aO (D.aI c.1.1 0)) (Z ((W,()),()))
 (aj (fZ (aR b.1.1 (ah b.1.2) dw).2 [116,114,117,101]) (Z ((W,()),())) (aj (fZ (aR b.1.1 (ah b.1.2) dw).2 [102,
 97,108,115,101]) (Z ((W,()),())) (Z ((fZ (aR b.1.1 (ah b.1.2) dw).2 [109,97,116,99,104],()),()))))) (aj (D.aO
 (D.aI (aR b.1.1 (ah b.1.2) dw).1 5)) (Z ((W,()),())) (Z ((fZ (aR b.1.1 (ah b.1.2) dw).2 [40],()),()))))))
def ajR(n:Nat):OC:=⟨314,⟨P87,K4,J,F314 n⟩,cx [afe n] [] n 10 314⟩
abbrev w7(F:Fn kD K85 J):kT sg:=⟨kD,K85,J,F⟩
def nq(h:tw):Term:=
 Term.mk h.1.1.1 h.1.1.2 h.1.1.3 h.1.1.4 h.1.1.5
def XL(o:WX):Term:=
 Term.mk o.1.1.1 o.1.1.2 o.1.1.3 o.1.1.4 o.1.1.5
def B249:Nat->tu->(Y7×Int×Unit->Option tw)->tu->Y7×Unit->Option tw:=
 λn f249 f287 f288 e=>ai (F182 n (e.1,[102,117,110],())) λg=>aj g.1.1 (ai (f287 (g.2.1,5,())) λh=>Z ((nq h,()),h.2))
 (ai (F182 n (g.2.1,[115,104,105,102,116],())) λh=>aj h.1.1 (ai (f287 (h.2.1,27,())) λi=>Z ((nq i,()),i.2)) (ai (F182 n
 (h.2.1,[108,101,116],())) λi=>aj i.1.1 (ai (F181 n (i.2.1,1,())) λj=>ai (F180 n (j.2.1,[61],())) λk=>ai (f249 k.2) λl=>
 ai (F180 n (l.2.1,[105,110],())) λm=>ai (f249 m.2) λo=>Z ((Term.mk 7 0 j.1.1.2 [nq l,nq o] [],()),o.2)) (ai (F182 n
 (i.2.1,[105,102],())) λj=>aj j.1.1 (ai (f249 j.2) λk=>ai (F180 n (k.2.1,[116,104,101,110],())) λl=>ai (f249 l.2) λm=>
 ai (F180 n (m.2.1,[101,108,115,101],())) λo=>ai (f249 o.2) λp=>Z ((Term.mk 8 0 [] [nq k,nq m,nq p] [],()),p.2))
 (ai (f288 j.2) λk=>ai (F182 n (k.2.1,[60],())) λl=>aj l.1.1 (ai (f288 l.2) λm=>ai (F289 n (12,nq k,nq m,())) λo=>
 Z ((XL o,()),m.2)) (ai (F182 n (l.2.1,[61,61],())) λm=>aj m.1.1 (ai (f288 m.2) λo=>ai (F289 n (13,nq k,nq o,()))
 λp=>Z ((XL p,()),o.2)) (Z ((nq k,()),m.2)))))))
abbrev Yq(F:Fn Na K85 J):kT sg:=⟨Na,K85,J,F⟩
def B287:Nat->tu->Y7×Int×Unit->Option tw:=
 λn f249 c=>ai (F181 n (c.1,1,())) λd=>ai (F180 n (d.2.1,[61,62],())) λe=>ai (f249 e.2) λg=>Z ((Term.mk c.2.1 0 d.1.1.2
 [Term.mk g.1.1.1 g.1.1.2 g.1.1.3 g.1.1.4 g.1.1.5] [],()),g.2)
abbrev Yp(F:Fn kD K85 J):kT sg:=⟨kD,K85,J,F⟩
def XK(e:Y7×ql×Unit):Term:=
 Term.mk e.2.1.1 e.2.1.2.1 e.2.1.2.2.1 e.2.1.2.2.2.1 e.2.1.2.2.2.2.1
def aef(l:WX):ql×Unit:=
 ((l.1.1.1,l.1.1.2,l.1.1.3,l.1.1.4,l.1.1.5,()),())
def XJ(n:Nat)(f307:tu)(e:Y7×ql×Unit):Option (LO (Y7×ql×Unit) Unit (Y7×ql×Unit) Any):=
 ai (F247 n (bE.mk e.1.1 e.1.2.1 e.1.2.2.1,[43],())) λh=>ai (aj h.1.1 (Z (LO.next (9,W,()))) (Z (LO.next (10,J,
 ())))) λ(i:aal)=>LO.jn i (λj=>ai (f307 ((e.1.1,D.add .i64 e.1.2.1 1,e.1.2.2),())) λk=>ai (F289 n (j.1,XK e,Term.mk k.1.1.1
 k.1.1.2 k.1.1.3 k.1.1.4 k.1.1.5,())) λl=>Z (LO.next (k.2.1,aef l))) (λ_ _=>Y) (λ_ _=>Z (LO.ret e ())) λ_ _=>Y
def aee(d:tw):ql×Unit:=
 ((d.1.1.1,d.1.1.2,d.1.1.3,d.1.1.4,d.1.1.5,()),())
def B288:aak:=
 λn f307 c=>ai (f307 c) λd=>ai (@iter (Y7×ql×Unit) (Unit) (Y7×ql×Unit) (Any) (λe=>aj (D.aO e.1.2.2.1) (ai (F247 n
 (bE.mk e.1.1 e.1.2.1 e.1.2.2.1,[43],())) λg=>aj g.1.1 (XJ n f307 e) (ai (F247 n (bE.mk e.1.1 e.1.2.1
 e.1.2.2.1,[45],())) λh=>aj h.1.1 (XJ n f307 e) (Z (LO.out 0 e)))) (Z (LO.out 0 e))) n (d.2.1,aee d)) λe=>LO.el e (λ_ h=>
 Z ((XK h,()),h.1,())) (λg _=>Z ((pP,()),g.1,())) λ_ _=>Y
abbrev Yn(F:Fn kD K85 J):kT sg:=⟨kD,K85,J,F⟩
def XI(e:Y7×ql×Unit):Term:=
 Term.mk e.2.1.1 e.2.1.2.1 e.2.1.2.2.1 e.2.1.2.2.2.1 e.2.1.2.2.2.2.1
def aed(i:WX):ql×Unit:=
 ((i.1.1.1,i.1.1.2,i.1.1.3,i.1.1.4,i.1.1.5,()),())
def aec(d:tw):ql×Unit:=
 ((d.1.1.1,d.1.1.2,d.1.1.3,d.1.1.4,d.1.1.5,()),())
def B307:aak:=
 λn f312 c=>ai (f312 c) λd=>ai (@iter (Y7×ql×Unit) (Unit) (Y7×ql×Unit) (Any) (λe=>ai (F182 n (e.1,[42],())) λg=>aj
 g.1.1 (ai (f312 g.2) λh=>ai (F289 n (11,XI e,Term.mk h.1.1.1 h.1.1.2 h.1.1.3 h.1.1.4 h.1.1.5,())) λi=>Z (LO.next (h.2.1,aed
 i))) (Z (LO.out 0 (g.2.1,e.2)))) n (d.2.1,aec d)) λe=>LO.el e (λ_ h=>Z ((XI h,()),h.1,())) (λg _=>Z ((pP,()),
 g.1,())) λ_ _=>Y
abbrev Ym(F:Fn kD K85 J):kT sg:=⟨kD,K85,J,F⟩
def XH(e:Y7×ql×Unit):Term:=
 Term.mk e.2.1.1 e.2.1.2.1 e.2.1.2.2.1 e.2.1.2.2.2.1 e.2.1.2.2.2.2.1
def aeb(i:WX):ql×Unit:=
 ((i.1.1.1,i.1.1.2,i.1.1.3,i.1.1.4,i.1.1.5,()),())
def aea(d:tw):ql×Unit:=
 ((d.1.1.1,d.1.1.2,d.1.1.3,d.1.1.4,d.1.1.5,()),())
def B312:aak:=
 λn f313 c=>ai (f313 c) λd=>ai (@iter (Y7×ql×Unit) (Unit) (Y7×ql×Unit) (Any) (λe=>ai (F314 n (bE.mk e.1.1
 e.1.2.1 e.1.2.2.1,())) λg=>aj g.1.1 (ai (f313 (e.1,())) λh=>ai (F289 n (6,XH e,Term.mk h.1.1.1 h.1.1.2 h.1.1.3 h.1.1.4 h.1.1.5,
 ())) λi=>Z (LO.next (h.2.1,aeb i))) (Z (LO.out 0 e))) n (d.2.1,aea d)) λe=>LO.el e (λ_ h=>Z ((XH h,()),h.1,()))
 (λg _=>Z ((pP,()),g.1,())) λ_ _=>Y
abbrev Yl(F:Fn kD K85 J):kT sg:=⟨kD,K85,J,F⟩
def Py(g:Y7×Unit):bE:=
 bE.mk g.1.1 g.1.2.1 g.1.2.2.1
def XG(n:Nat)(f249:tu)(f315:adO)(f316:tu)(f317:tu):tw->Option tw:=
 λo=>Z ((Term.mk o.1.1.1 o.1.1.2 o.1.1.3 o.1.1.4 o.1.1.5,()),o.2)
def B313:Nat->tu->adO->tu->tu->Y7×Unit->Option tw:=
 λn f249 f315 f316 f317 g=>ai (F246 n (Py g,4,())) λh=>aj h.1.1 (ai (F181 n (g.1,4,())) λi=>Z ((Term.mk 1 i.1.1.3 [] [] [],
 ()),i.2)) (ai (F246 n (Py g,1,())) λi=>aj i.1.1 (ai (F181 n (g.1,1,())) λj=>Z ((Term.mk 4 0 j.1.1.2 [] [],()),j.2)) (ai
 (F246 n (Py g,2,())) λj=>aj j.1.1 (ai (F181 n (g.1,2,())) λk=>ai (F247 n (bE.mk k.2.1.1 k.2.1.2.1 k.2.1.2.2.1,
 [40],())) λl=>ai (aj l.1.1 (ai (f315 (k.2.1,(-1),())) λm=>Z (LO.next (W,m.2.1,(14,0,k.1.1.2,m.1.1,[],()),()))) (Z
 (LO.next (J,k.2.1,(14,0,k.1.1.2,[],[],()),())))) λ(m:LO ahK Unit (Y7×ql×Unit) Any)=>LO.jn m (λo=>Z ((Term.mk
 o.2.2.1.1 o.2.2.1.2.1 o.2.2.1.2.2.1 o.2.2.1.2.2.2.1 [],()),o.2.1,())) (λ_ _=>Y) (λo _=>Z ((pP,()),o.1,())) λ_ _=>Y)
 (ai (F182 n (g.1,[116,114,117,101],())) λk=>aj k.1.1 (Z ((Term.mk 2 1 [] [] [],()),k.2)) (ai (F182 n (k.2.1,[102,97,108,115,
 101],())) λl=>aj l.1.1 (Z ((Term.mk 2 0 [] [] [],()),l.2)) (ai (F182 n (l.2.1,[109,97,116,99,104],())) λm=>aj m.1.1 (ai (f316
 m.2) (XG n f249 f315 f316 f317)) (ai (F182 n (m.2.1,[40],())) λo=>aj o.1.1 (ai (F182 n (o.2.1,[41],())) λp=>aj p.1.1 (Z
 ((Term.mk 3 0 [] [] [],()),p.2)) (ai (f249 p.2) λq=>ai (F180 n (q.2.1,[41],())) λr=>Z ((Term.mk q.1.1.1 q.1.1.2 q.1.1.3 q.1.1.4
 q.1.1.5,()),r.2))) (ai (F246 n (bE.mk o.2.1.1 o.2.1.2.1 o.2.1.2.2.1,3,())) λp=>aj p.1.1 (ai (f317 o.2) (XG n f249 f315
 f316 f317)) (Z ((pP,()),(o.2.1.1,o.2.1.2.1,W,()),())))))))))
abbrev RL(F:Fn Na K88 J):kT sg:=⟨Na,K88,J,F⟩
def Kg(n:Nat)(f249:tu)(c:Y7×Int×Unit)(g:adM):Option WT:=
 aj (D.bN 0 c.2.1) (ai (F180 n (g.2.1,[44],())) λh=>Z (LO.next (W,h.2))) (Z (LO.next (J,g.2)))
def nk(e:tw):List Term:=
 [Term.mk e.1.1.1 e.1.1.2 e.1.1.3 e.1.1.4 e.1.1.5]
def Px(n:Nat)(f249:tu)(k:WS):WT->Option (LO WS (List Term×Unit) (Y7×Unit) Any):=
 λm=>LO.jn m (λo=>ai (f249 o.2) λp=>aC (cZ k.1 (nk p)) (Z (LO.next (cP k.1 (nk p),p.2)))) (λ_ _=>Y) (λo p=>
 Z (LO.ret o p)) λ_ _=>Y
def ad9(n:Nat)(f249:tu)(c:Y7×Int×Unit)(k:WS):Option WT:=
 aj (D.bN 0 c.2.1) (ai (F180 n (k.2.1,[44],())) λl=>Z (LO.next (W,l.2))) (Z (LO.next (J,k.2)))
def ad8(n:Nat)(m:WS):aaf:=
 F180 n (m.2.1,[41],())
def Pw(n:Nat)(f249:tu)(c:Y7×Int×Unit)(e:tw):WT->adP:=
 λh=>LO.jn h (λi=>ai (f249 i.2) λj=>aC (cZ (nk e) (nk j)) (ai (@iter (WS) (List Term×Unit) (Y7×Unit) (Any) (λk=>
 aj (D.bN c.2.1 0) (ai (F182 n (k.2.1,[44],())) λl=>aj l.1.1 (ai (Kg n f249 c l) (Px n f249 k)) (aj (D.bN (ak k.1) c.2.1) (aj
 (D.aO l.2.1.2.2.1) (ai (Kg n f249 c l) (Px n f249 k)) (Z (LO.out 0 (k.1,l.2)))) (Z (LO.out 0 (k.1,l.2))))) (aj (D.bN (ak k.1)
 c.2.1) (aj (D.aO k.2.1.2.2.1) (ai (ad9 n f249 c k) (Px n f249 k)) (Z (LO.out 0 k))) (Z (LO.out 0 k)))) n (cP (nk e) (nk j),
 j.2)) λk=>LO.el k (λ_ m=>ai (ad8 n m) λo=>Z ((m.1,()),o.2)) (λl m=>Z (m,l)) λ_ _=>Y)) (λ_ _=>Y) (λi
 j=>Z (j,i)) λ_ _=>Y
def XF(n:Nat)(g:adM):aaf:=
 F180 n (g.2.1,[41],())
def ad7(n:Nat)(f249:tu)(c:Y7×Int×Unit)(e:tw):Option WT:=
 aj (D.bN 0 c.2.1) (ai (F180 n (e.2.1,[44],())) λg=>Z (LO.next (W,g.2))) (Z (LO.next (J,e.2)))
def XE(n:Nat)(e:tw):aaf:=
 F180 n (e.2.1,[41],())
def B315:Nat->tu->Y7×Int×Unit->adP:=
 λn f249 c=>ai (F180 n (c.1,[40],())) λd=>ai (f249 d.2) λe=>aj (D.bN c.2.1 0) (ai (F182 n (e.2.1,[44],())) λg=>aj g.1.1
 (ai (Kg n f249 c g) (Pw n f249 c e)) (aj (D.bN (ak (nk e)) c.2.1) (aj (D.aO g.2.1.2.2.1) (ai (Kg n f249 c g) (Pw n f249 c
 e)) (ai (XF n g) λh=>Z ((nk e,()),h.2))) (ai (XF n g) λh=>Z ((nk e,()),h.2)))) (aj (D.bN (ak (nk e))
 c.2.1) (aj (D.aO e.2.1.2.2.1) (ai (ad7 n f249 c e) (Pw n f249 c e)) (ai (XE n e) λg=>Z ((nk e,()),g.2))) (ai (XE n
 e) λg=>Z ((nk e,()),g.2)))
abbrev Yk(F:Fn kD K85 J):kT sg:=⟨kD,K85,J,F⟩
def xR(d:tw):List Term:=
 [Term.mk d.1.1.1 d.1.1.2 d.1.1.3 d.1.1.4 d.1.1.5]
def Pv(l:Y8):List aB:=
 [aB.mk l.1.1.1 l.1.1.2 l.1.1.3 l.1.1.4]
def B316:aak:=
 λn f249 c=>ai (f249 c) λd=>ai (F180 n (d.2.1,[123],())) λe=>aj (D.aO e.2.1.2.2.1) (ai (F319 n e.2) λg=>ai (F180 n (g.2.1,
 [45,62],())) λh=>ai (f249 h.2) λi=>aC (cZ (xR d) (xR i)) (ai (F182 n (i.2.1,[124],())) λj=>ai (@iter (ahK) (Unit) (Y7
 ×ql×Unit) (Any) (λk=>aj k.1 (aj (D.aO k.2.1.2.2.1) (ai (F319 n (k.2.1,())) λl=>ai (F180 n (l.2.1,[45,62],())) λm=>ai
 (f249 m.2) λo=>aC (cZ k.2.2.1.2.2.2.2.1 (Pv l)) (aC (cZ k.2.2.1.2.2.2.1 (xR o)) (ai (F182 n (o.2.1,[124],())) λp=>Z
 (LO.next (p.1.1,p.2.1,(k.2.2.1.1,k.2.2.1.2.1,k.2.2.1.2.2.1,cP k.2.2.1.2.2.2.1 (xR o),cP k.2.2.1.2.2.2.2.1 (Pv l),()),()))))) (Z
 (LO.out 0 k))) (Z (LO.out 0 k))) n (j.1.1,j.2.1,(15,0,[],cP (xR d) (xR i),Pv g,()),())) λk=>LO.el k (λ_ m=>ai (F180
 n (m.2.1,[125],())) λo=>Z ((Term.mk m.2.2.1.1 m.2.2.1.2.1 m.2.2.1.2.2.1 m.2.2.1.2.2.2.1 m.2.2.1.2.2.2.2.1,()),o.2)) (λl _=>Z
 ((pP,()),l.1,())) λ_ _=>Y)) (ai (F180 n (e.2.1,[125],())) λg=>Z ((Term.mk 15 0 [] (xR d) [],()),g.2))
abbrev Yj(F:Fn kD K85 J):kT sg:=⟨kD,K85,J,F⟩
def Pu(d:Y7×Unit):Y7:=
 (d.1.1,D.add .i64 d.1.2.1 1,d.1.2.2)
def B317:Nat->tu->adO->Y7×Unit->Option tw:=
 λn f249 f315 d=>aC (av d.1.2.1 d.1.1) (ai (F318 n ((aR d.1.1 (ah d.1.2.1) dw).2,())) λe=>aj (D.aI e.1.1 0) (Z ((pP,
 ()),(d.1.1,d.1.2.1,W,()),())) (aj (D.bN 0 e.1.2.1) (ai (f315 (Pu d,e.1.2)) λg=>Z ((Term.mk e.1.1 0 [] g.1.1 [],()),g.2)) (aj
 (D.bN e.1.2.1 0) (ai (F180 n (Pu d,[40],())) λg=>ai (F181 n (g.2.1,4,())) λh=>ai (F180 n (h.2.1,[44],())) λi=>ai (f249
 i.2) λj=>ai (F180 n (j.2.1,[41],())) λk=>Z ((Term.mk e.1.1 h.1.1.3 [] [Term.mk j.1.1.1 j.1.1.2 j.1.1.3 j.1.1.4 j.1.1.5] [],()),k.2))
 (Z ((Term.mk e.1.1 0 [] [] [],()),Pu d,())))))
def D249(n:Nat)(f249:Fn kD K85 J)(f287:Fn Na K85 J)(f288:Fn kD K85 J)(b:bD prog 249 (w7 f249))(d:bD prog 287 (Yq f287))(e:bD prog 288 (Yp f288)):bD prog 249 (w7 (B249 n f249 f287 f288)):=cx [Ee n,Jf n,Ed n,⟨249,w7 f249,b⟩,⟨287,Yq f287,d⟩,⟨288,Yp f288,e⟩,YS n] [] n 10 249
def D287(n:Nat)(f249:Fn kD K85 J)(b:bD prog 249 (w7 f249)):bD prog 287 (Yq (B287 n f249)):=cx [Ee n,Jf n,⟨249,w7 f249,b⟩] [] n 10 287
def D288(n:Nat)(f307:Fn kD K85 J)(b:bD prog 307 (Yn f307)):bD prog 288 (Yp (B288 n f307)):=cx [ab9 n,YS n,⟨307,Yn f307,b⟩] [(288,0,⟨[(0,vV),(0,b7z)],[.slot 0,.slot 3],[],0⟩),(288,1000005,⟨[(4,de),(22,cX)],[],[],0⟩)] n 10 288
def D307(n:Nat)(f312:Fn kD K85 J)(b:bD prog 312 (Ym f312)):bD prog 307 (Yn (B307 n f312)):=cx [Ed n,YS n,⟨312,Ym f312,b⟩] [(307,0,⟨[(0,vV),(0,b7z)],[.slot 0,.slot 3],[],0⟩)] n 10 307
def D312(n:Nat)(f313:Fn kD K85 J)(b:bD prog 313 (Yl f313)):bD prog 312 (Ym (B312 n f313)):=cx [YS n,⟨313,Yl f313,b⟩,ajR n] [(312,0,⟨[(0,vV),(0,b7z)],[.slot 0,.slot 3],[],0⟩)] n 10 312
def D313(n:Nat)(f249:Fn kD K85 J)(f315:Fn Na K88 J)(f316:Fn kD K85 J)(f317:Fn kD K85 J)(b:bD prog 249 (w7 f249))(d:bD prog 315 (RL f315))(e:bD prog 316 (Yk f316))(g:bD prog 317 (Yj f317)):bD prog 313 (Yl (B313 n f249 f315 f316 f317)):=cx [Ee n,Jf n,Ed n,acd n,ab9 n,⟨249,w7 f249,b⟩,⟨315,RL f315,d⟩,⟨316,Yk f316,e⟩,⟨317,Yj f317,g⟩] [(313,1000008,⟨[(27,cX),(0,vV),(0,.box (.cells [lF,lF,.dat (.str),.dat (.sl (.st 20)),.nil (.st 0)]))],[.slot 0,.slot 3],[],0⟩)] n 10 313
def D315(n:Nat)(f249:Fn kD K85 J)(b:bD prog 249 (w7 f249)):bD prog 315 (RL (B315 n f249)):=cx [Ee n,Ed n,⟨249,w7 f249,b⟩] [(315,0,⟨[(6,.one (.own (.st 20))),(0,vV)],[.slot 0],[],1⟩),(315,1000006,⟨[(34,cX),(0,vV)],[.slot 0],[],0⟩)] n 10 315
def D316(n:Nat)(f249:Fn kD K85 J)(b:bD prog 249 (w7 f249)):bD prog 316 (Yk (B316 n f249)):=cx [Ee n,Ed n,⟨249,w7 f249,b⟩,ajQ n] [(316,0,⟨[(5,cX),(0,vV),(0,.box (.cells [lF,lF,.dat (.str),.own (.st 20),.own (.st 0)]))],[.slot 0,.slot 4],[],1⟩)] n 10 316
def D317(n:Nat)(f249:Fn kD K85 J)(f315:Fn Na K88 J)(b:bD prog 249 (w7 f249))(d:bD prog 315 (RL f315)):bD prog 317 (Yj (B317 n f249 f315)):=cx [Ee n,Jf n,⟨249,w7 f249,b⟩,⟨315,RL f315,d⟩,afe n] [] n 10 317
def R249(n k:Nat):(Fn kD K85 J)×(Fn Na K85 J)×(Fn kD K85 J)×(Fn kD K85 J)×(Fn kD K85 J)×(Fn kD K85 J)×(Fn Na K88 J)×(Fn kD K85 J)×(Fn kD K85 J):=Nat.rec (motive:=λ_=>(Fn kD K85 J)×(Fn Na K85 J)×(Fn kD K85 J)×(Fn kD K85 J)×(Fn kD K85 J)×(Fn kD K85 J)×(Fn Na K88 J)×(Fn kD K85 J)×(Fn kD K85 J)) ((λ_=>Y,λ_=>Y,λ_=>Y,λ_=>Y,λ_=>Y,λ_=>Y,λ_=>Y,λ_=>Y,λ_=>Y)) (λ_ r=>(B249 n r.1 r.2.1 r.2.2.1,B287 n r.1,B288 n r.2.2.2.1,B307 n r.2.2.2.2.1,B312 n r.2.2.2.2.2.1,B313 n r.1 r.2.2.2.2.2.2.1 r.2.2.2.2.2.2.2.1 r.2.2.2.2.2.2.2.2,B315 n r.1,B316 n r.1,B317 n r.1 r.2.2.2.2.2.2.1)) k
def F249(n:Nat):Fn kD K85 J:=(R249 n n).1
def abq(n:Nat):∀k,bD prog 249 (w7 (R249 n k).1)∧bD prog 287 (Yq (R249 n k).2.1)∧bD prog 288 (Yp (R249 n k).2.2.1)∧bD prog 307 (Yn (R249 n k).2.2.2.1)∧bD prog 312 (Ym (R249 n k).2.2.2.2.1)∧bD prog 313 (Yl (R249 n k).2.2.2.2.2.1)∧bD prog 315 (RL (R249 n k).2.2.2.2.2.2.1)∧bD prog 316 (Yk (R249 n k).2.2.2.2.2.2.2.1)∧bD prog 317 (Yj (R249 n k).2.2.2.2.2.2.2.2)
 |0=>⟨bY (enters 249 (by kernel_rfl)),bY (enters 287 (by kernel_rfl)),bY (enters 288 (by kernel_rfl)),bY (enters 307 (by kernel_rfl)),bY (enters 312 (by kernel_rfl)),bY (enters 313 (by kernel_rfl)),bY (enters 315 (by kernel_rfl)),bY (enters 316 (by kernel_rfl)),bY (enters 317 (by kernel_rfl))⟩
 |k+1=>have b:=abq n k
  ⟨D249 n _ _ _ b.1 b.2.1 b.2.2.1,D287 n _ b.1,D288 n _ b.2.2.2.1,D307 n _ b.2.2.2.2.1,D312 n _ b.2.2.2.2.2.1,D313 n _ _ _ _ b.1 b.2.2.2.2.2.2.1 b.2.2.2.2.2.2.2.1 b.2.2.2.2.2.2.2.2,D315 n _ b.1,D316 n _ b.1,D317 n _ _ b.1 b.2.2.2.2.2.2.1⟩
def akc(n:Nat):OC:=⟨249,w7 (F249 n),(abq n n).1⟩
def F184:Nat->Y7×Unit->Option ahu:=
 λn b=>ai (F181 n (b.1,1,())) λc=>ai (F180 n (c.2.1,[40],())) λd=>ai (F181 n (d.2.1,1,())) λe=>ai (F180 n (e.2.1,[58],
 ())) λg=>ai (F248 n g.2) λh=>ai (F180 n (h.2.1,[41],())) λi=>ai (F180 n (i.2.1,[58],())) λj=>ai (F248 n j.2) λk=>ai
 (F180 n (k.2.1,[61],())) λl=>ai (F249 n l.2) λm=>ai (F180 n (m.2.1,[59],())) λo=>Z ((cE.mk c.1.1.2 e.1.1.2 (cj.mk
 h.1.1.1 h.1.1.2 h.1.1.3 h.1.1.4) (cj.mk k.1.1.1 k.1.1.2 k.1.1.3 k.1.1.4) (Term.mk m.1.1.1 m.1.1.2 m.1.1.3 m.1.1.4 m.1.1.5),()),o.2)
def akM(n:Nat):OC:=⟨184,⟨kD,K89,J,F184 n⟩,cx [Ee n,Jf n,afo n,akc n] [] n 10 184⟩
def XC(l:ahu):List cE:=
 [cE.mk l.1.1.1 l.1.1.2 (cj.mk l.1.1.3.1 l.1.1.3.2 l.1.1.3.3 l.1.1.3.4) (cj.mk l.1.1.4.1 l.1.1.4.2 l.1.1.4.3 l.1.1.4.4) (Term.mk
 l.1.1.5.1 l.1.1.5.2 l.1.1.5.3 l.1.1.5.4 l.1.1.5.5)]
def F136:Nat->Y7×Unit->Option ((dQ×Unit)×Y7×Unit):=
 λn b=>ai (F180 n (b.1,[109,111,100,117,108,101],())) λc=>ai (F181 n (c.2.1,1,())) λd=>ai (F180 n (d.2.1,[123],())) λe
 =>ai (@iter (aae) (Unit) (aae) (Any) (λg=>ai (F182 n (g.1,[116,121,112,101],())) λh=>aj h.1.1 (ai (F183 n h.2) λi=>aC (cZ
 g.2.1.2.1 [i.1.1]) (Z (LO.next (i.2.1,(g.2.1.1,cP g.2.1.2.1 [i.1.1],g.2.1.2.2),())))) (Z (LO.out 0 (h.2.1,g.2)))) n (e.2.1,(d.1.1.2,[],
 [],()),())) λg=>LO.el g (λ_ i=>ai (@iter (aae) (Unit) (aae) (Any) (λj=>ai (F182 n (j.1,[102,117,110],())) λk=>aj k.1.1
 (ai (F184 n k.2) λl=>aC (cZ j.2.1.2.2.1 (XC l)) (Z (LO.next (l.2.1,(j.2.1.1,j.2.1.2.1,cP j.2.1.2.2.1 (XC l),()),())))) (Z
 (LO.out 0 (k.2.1,j.2)))) n i) λj=>LO.el j (λ_ l=>ai (F180 n (l.1,[125],())) λm=>Z ((dQ.mk l.2.1.1 l.2.1.2.1 l.2.1.2.2.1,
 ()),m.2)) (λk _=>Z ((jx,()),k.1,())) λ_ _=>Y) (λh _=>Z ((jx,()),h.1,())) λ_ _=>Y
def ak5(n:Nat):OC:=⟨136,⟨kD,K90,J,F136 n⟩,cx [Ee n,Jf n,Ed n,akN n,akM n] [(136,0,⟨[(0,vV),(0,ag4)],[.slot 0,.slot 3],[],0⟩),(136,2,⟨[(0,vV),(0,ag4)],[.slot 0,.slot 3],[],0⟩)] n 10 136⟩
def F137:Y89:=
 λn b=>aj (D.aO b.1.3) (Z ((D.aI b.1.2 (ak b.1.1),()),())) (Z ((J,()),()))
def ak4(n:Nat):OC:=⟨137,⟨P87,K4,J,F137 n⟩,cx [] [] n 10 137⟩
def F161:Y33:=
 λn b=>ai (@iter (Int×Unit) (Bool×Unit) (Unit) (Any) (λc=>aj (D.bN c.1 (ak b.1)) (aC (av c.1 b.1) (aj (D.bN (kW b.1 c.1) 97)
 (Z (LO.ret () (J,()))) (aC (av c.1 b.1) (aj (D.bN 122 (kW b.1 c.1)) (Z (LO.ret () (J,()))) (Z (LO.next (D.add .i64 c.1 1,
 ()))))))) (Z (LO.out 0 c))) n (0,())) λc=>LO.el c (λ_ _=>Z ((W,()),())) (λ_ e=>Z (e,())) λ_ _=>Y
def afx(n:Nat):OC:=⟨161,⟨P7,K4,J,F161 n⟩,cx [] [(161,0,⟨[(3,de)],[],[],0⟩)] n 10 161⟩
def F185:Y33:=
 λn b=>aj (D.ek 1 (ak b.1)) (aj (D.ek (ak b.1) 8) (ai (F161 n b) λc=>aj c.1.1 (ai (F250 n b) λd=>Z ((D.aO d.1.1,()),
 ())) (Z ((J,()),()))) (Z ((J,()),()))) (Z ((J,()),()))
def ace(n:Nat):OC:=⟨185,⟨P7,K4,J,F185 n⟩,cx [afx n,afm n] [] n 10 185⟩
def F186:Y69:=
 λn b=>aj (D.ek b.2.1 b.1) (Z ((D.ek b.1 b.2.2.1,()),())) (Z ((J,()),()))
def Vo(n:Nat):OC:=⟨186,⟨P6,K4,J,F186 n⟩,cx [] [] n 10 186⟩
def F93:Y33:=
 λn b=>aj (D.ek 1 (ak b.1)) (aj (D.ek (ak b.1) 8) (aC (av 0 b.1) (aj (D.ek 65 (kW b.1 0)) (aC (av 0 b.1) (aj (D.ek (kW b.1 0)
 90) (aC (ff 1 (ak b.1) (ak b.1)) (ai (F161 n (ey b.1 1 (ak b.1),())) λc=>Z c)) (Z ((J,()),())))) (Z ((J,()),
 ())))) (Z ((J,()),()))) (Z ((J,()),()))
def k93(n:Nat):OC:=⟨93,⟨P7,K4,J,F93 n⟩,cx [afx n] [] n 10 93⟩
abbrev Uv(F:Fn P91 K2 J):kT sg:=⟨P91,K2,J,F⟩
def B251:Nat->(ahi->FN)->ahi->FN:=
 λn f251 c=>aj (D.bN c.2.1 1) (Z (((-1),()),())) (ai (@iter (Int×Int×Unit) (Int×Unit) (Unit) (Any) (λd=>aj (D.bN d.2.1 (ak
 c.1.4)) (aj (D.ek 0 d.1) (aC (av d.2.1 c.1.4) (ai (f251 (aR c.1.4 (ah d.2.1) l8,d.1,())) λe=>Z (LO.next (e.1.1,D.add .i64
 d.2.1 1,())))) (Z (LO.out 0 d))) (Z (LO.out 0 d))) n (D.dI .i64 c.2.1 1,0,())) λd=>LO.el d (λ_ g=>Z ((g.1,()),())) (λ_ g
 =>Z (g,())) λ_ _=>Y)
def D251(n:Nat)(f251:Fn P91 K2 J)(b:bD prog 251 (Uv f251)):bD prog 251 (Uv (B251 n f251)):=cx [⟨251,Uv f251,b⟩] [(251,0,⟨[(1,de),(5,de)],[],[],0⟩)] n 10 251
def R251(n k:Nat):(Fn P91 K2 J):=Nat.rec (motive:=λ_=>(Fn P91 K2 J)) (λ_=>Y) (λ_ r=>B251 n r) k
def F251(n:Nat):Fn P91 K2 J:=(R251 n n)
def abp(n:Nat):∀k,bD prog 251 (Uv (R251 n k))
 |0=>bY (enters 251 (by kernel_rfl))
 |k+1=>have b:=abp n k
  D251 n _ b
def akb(n:Nat):OC:=⟨251,Uv (F251 n),(abp n n)⟩
abbrev Uu(F:Fn P92 K4 J):kT sg:=⟨P92,K4,J,F⟩
def B252:Nat->(ahD->Option fH)->ahD->Option fH:=
 λn f252 c=>ai (aj (D.aI c.1.1 1) (Z (LO.next (W,()))) (ai (aj (D.aI c.1.1 2) (Z (LO.next (W,()))) (Z (LO.next (D.aI c.1.1
 3,())))) λ(d:Fi)=>LO.jn d (λe=>Z (LO.next e)) (λ_ _=>Y) (λ_ g=>Z (LO.ret () g)) λ_ _=>Y)) λ(d:Fi)=>
 LO.jn d (λe=>ai (aj e.1 (aj (D.aI (ak c.1.4) 0) (aj (D.aI c.1.2 0) (Z (LO.next (fZ c.1.3 [],W,()))) (Z (LO.next (J,W,
 ())))) (Z (LO.next (J,W,())))) (ai (aj (D.aI c.1.1 4) (aj (D.aI (ak c.1.4) 2) (aj (D.aI c.1.2 0) (Z (LO.next (fZ c.1.3 [],
 W,()))) (Z (LO.next (J,W,())))) (Z (LO.next (J,W,())))) (ai (aj (D.aI c.1.1 5) (Z (LO.next (W,()))) (ai (aj
 (D.aI c.1.1 6) (Z (LO.next (W,()))) (Z (LO.next (D.aI c.1.1 7,())))) λ(g:Fi)=>LO.jn g (λh=>Z (LO.next h)) (λ_ _=>
 Y) (λ_ i=>Z (LO.ret () i)) λ_ _=>Y)) λ(g:Fi)=>LO.jn g (λh=>ai (aj h.1 (aj (D.aI (ak c.1.4) 1) (aj (D.aI c.1.2
 0) (Z (LO.next (fZ c.1.3 [],W,()))) (Z (LO.next (J,W,())))) (Z (LO.next (J,W,())))) (ai (aj (D.aI c.1.1 8) (aj
 (D.aI (ak c.1.4) 0) (aj (D.aI c.1.2 0) (ai (F93 n (c.1.3,())) λi=>Z (LO.next (i.1.1,W,()))) (Z (LO.next (J,W,()))))
 (Z (LO.next (J,W,())))) (ai (aj (D.aI c.1.1 9) (aj c.2.1 (aj (D.aI (ak c.1.4) 0) (aj (fZ c.1.3 []) (ai (F186 n (c.1.2,0,99,
 ())) λi=>Z (LO.next (i.1.1,W,()))) (Z (LO.next (J,W,())))) (Z (LO.next (J,W,())))) (Z (LO.next (J,W,
 ())))) (Z (LO.next (J,J,())))) λ(i:Kn)=>LO.jn i (λj=>Z (LO.next (j.1,J,()))) (λ_ _=>Y) (λ_ k=>Z
 (LO.ret () k)) λ_ _=>Y)) λ(i:Kn)=>LO.jn i (λj=>Z (LO.next (j.1,J,()))) (λ_ _=>Y) (λ_ k=>Z (LO.ret () k))
 λ_ _=>Y)) λ(i:Kn)=>LO.jn i (λj=>Z (LO.next (j.1,J,()))) (λ_ _=>Y) (λ_ k=>Z (LO.ret () k)) λ_ _=>
 Y) (λ_ _=>Y) (λ_ i=>Z (LO.ret () i)) λ_ _=>Y)) λ(g:Kn)=>LO.jn g (λh=>Z (LO.next (h.1,J,()))) (λ_ _
 =>Y) (λ_ i=>Z (LO.ret () i)) λ_ _=>Y)) λ(g:Kn)=>LO.jn g (λh=>ai (@iter (Bool×Int×Unit) (Bool×Unit) (Unit) (Any)
 (λi=>aj (D.bN i.2.1 (ak c.1.4)) (aj i.1 (aC (av i.2.1 c.1.4) (ai (f252 (aR c.1.4 (ah i.2.1) l8,c.2)) λj=>Z (LO.next
 (j.1.1,D.add .i64 i.2.1 1,())))) (Z (LO.out 0 i))) (Z (LO.out 0 i))) n (h.1,0,())) λi=>LO.el i (λ_ k=>Z ((k.1,()),())) (λ_
 k=>Z (k,())) λ_ _=>Y) (λ_ _=>Y) (λ_ i=>Z (i,())) λ_ _=>Y) (λ_ _=>Y) (λ_ g=>Z (g,())) λ_ _=>
 Y
def D252(n:Nat)(f252:Fn P92 K4 J)(b:bD prog 252 (Uu f252)):bD prog 252 (Uu (B252 n f252)):=cx [k93 n,Vo n,⟨252,Uu f252,b⟩] [(252,1,⟨[(6,cX),(7,de)],[],[],0⟩),(252,1000005,⟨[(13,cX)],[],[],0⟩),(252,1000006,⟨[(13,cX)],[],[],0⟩),(252,1000007,⟨[(6,cX),(13,cX)],[],[],0⟩),(252,1000009,⟨[(6,cX),(29,cX)],[],[],0⟩),(252,1000011,⟨[(43,cX)],[],[],0⟩),(252,1000012,⟨[(43,cX)],[],[],0⟩),(252,1000013,⟨[(6,cX),(43,cX)],[],[],0⟩),(252,1000015,⟨[(6,cX),(59,cX)],[],[],0⟩),(252,1000017,⟨[(6,cX),(73,cX)],[],[],0⟩)] n 10 252
def R252(n k:Nat):(Fn P92 K4 J):=Nat.rec (motive:=λ_=>(Fn P92 K4 J)) (λ_=>Y) (λ_ r=>B252 n r) k
def F252(n:Nat):Fn P92 K4 J:=(R252 n n)
def abo(n:Nat):∀k,bD prog 252 (Uu (R252 n k))
 |0=>bY (enters 252 (by kernel_rfl))
 |k+1=>have b:=abo n k
  D252 n _ b
def aka(n:Nat):OC:=⟨252,Uu (F252 n),(abo n n)⟩
def F188:Nat->cj×Unit->Option fH:=
 λn b=>ai (F251 n (cj.mk b.1.1 b.1.2 b.1.3 b.1.4,12,())) λc=>aj (D.ek 0 c.1.1) (ai (F252 n (cj.mk b.1.1 b.1.2 b.1.3 b.1.4,
 J,())) λd=>Z d) (Z ((J,()),()))
def afu(n:Nat):OC:=⟨188,⟨P93,K4,J,F188 n⟩,cx [akb n,aka n] [] n 10 188⟩
def F187:Nat->jA×Unit->Option fH:=
 λn b=>ai (F93 n (b.1.1,())) λc=>aj (D.aO c.1.1) (Z ((J,()),())) (ai (F186 n (ak b.1.2,1,5,())) λd=>aj (D.aO
 d.1.1) (Z ((J,()),())) (ai (@iter (Int×Unit) (Bool×Unit) (Unit) (Any) (λe=>aj (D.bN e.1 (ak b.1.2)) (aC (av e.1 b.1.2) (ai
 (F93 n ((aR b.1.2 (ah e.1) gV).1,())) λg=>aj (D.aO g.1.1) (Z (LO.ret () (J,()))) (aj (D.bN 3 (ak (aR b.1.2 (ah e.1)
 gV).2)) (Z (LO.ret () (J,()))) (ai (@iter (Int×Unit) (Bool×Unit) (Unit) (Any) (λh=>aj (D.bN h.1 (ak (aR b.1.2 (ah
 e.1) gV).2)) (aC (av h.1 (aR b.1.2 (ah e.1) gV).2) (ai (F188 n (aR (aR b.1.2 (ah e.1) gV).2 (ah h.1) l8,
 ())) λi=>aj (D.aO i.1.1) (Z (LO.ret () (J,()))) (Z (LO.next (D.add .i64 h.1 1,()))))) (Z (LO.out 0 h))) n (0,())) λh=>
 LO.el h (λ_ _=>Z (LO.next (D.add .i64 e.1 1,()))) (λ_ j=>Z (LO.ret () j)) λ_ _=>Y)))) (Z (LO.out 0 e))) n (0,())) λe=>
 LO.el e (λ_ _=>Z ((W,()),())) (λ_ h=>Z (h,())) λ_ _=>Y))
def akL(n:Nat):OC:=⟨187,⟨P94,K4,J,F187 n⟩,cx [k93 n,Vo n,afu n] [(187,0,⟨[(3,de)],[],[],0⟩),(187,2,⟨[(5,de)],[],[],0⟩)] n 10 187⟩
abbrev Ut(F:Fn P95 K2 J):kT sg:=⟨P95,K2,J,F⟩
def B253:Nat->(Y57->FN)->Y57->FN:=
 λn f253 c=>aj (D.bN c.2.1 1) (Z (((-1),()),())) (aj (D.bN c.2.2.1 1) (Z (((-1),()),())) (ai (@iter (Int×Int×Unit) (Int×Unit)
 (Unit) (Any) (λd=>aj (D.bN d.2.1 (ak c.1.4)) (aj (D.ek 0 d.1) (aC (av d.2.1 c.1.4) (ai (f253 (aR c.1.4 (ah d.2.1) pP,d.1,D.dI .i64
 c.2.2.1 1,())) λe=>Z (LO.next (e.1.1,D.add .i64 d.2.1 1,())))) (Z (LO.out 0 d))) (Z (LO.out 0 d))) n (D.dI .i64 c.2.1 1,0,())) λ
 d=>LO.el d (λ_ g=>Z ((g.1,()),())) (λ_ g=>Z (g,())) λ_ _=>Y))
def D253(n:Nat)(f253:Fn P95 K2 J)(b:bD prog 253 (Ut f253)):bD prog 253 (Ut (B253 n f253)):=cx [⟨253,Ut f253,b⟩] [(253,0,⟨[(1,de),(7,de)],[],[],0⟩)] n 10 253
def R253(n k:Nat):(Fn P95 K2 J):=Nat.rec (motive:=λ_=>(Fn P95 K2 J)) (λ_=>Y) (λ_ r=>B253 n r) k
def F253(n:Nat):Fn P95 K2 J:=(R253 n n)
def abn(n:Nat):∀k,bD prog 253 (Ut (R253 n k))
 |0=>bY (enters 253 (by kernel_rfl))
 |k+1=>have b:=abn n k
  D253 n _ b
def aj9(n:Nat):OC:=⟨253,Ut (F253 n),(abn n n)⟩
def Xr(n:Nat)(b:adK):Option fH:=
 aj b.2.2.2.1 (Z ((W,()),())) (Z ((D.aI (ak b.1.5) 0,()),()))
def Xq(n:Nat)(b:adK):Option fH:=
 aj b.2.2.1 (Xr n b) (aj (fZ b.1.3 []) (Xr n b) (Z ((J,()),())))
def F308:Nat->adK->Option fH:=
 λn b=>aj b.2.1 (Xq n b) (aj (D.aI b.1.2 0) (Xq n b) (Z ((J,()),())))
def ajU(n:Nat):OC:=⟨308,⟨P96,K4,J,F308 n⟩,cx [] [] n 10 308⟩
def Fs(b:Term×Unit):Term:=
 Term.mk b.1.1 b.1.2 b.1.3 b.1.4 b.1.5
def Pe(n:Nat)(b:Term×Unit):Option fH:=
 F308 n (Fs b,W,J,J,())
def iR(n:Nat):Option fH:=
 Z ((J,()),())
def Xt(n:Nat):Fi->Option Fi:=
 λc=>LO.jn c (λd=>Z (LO.next d)) (λ_ _=>Y) (λ_ e=>Z (LO.ret () e)) λ_ _=>Y
def JX(n:Nat)(b:Term×Unit):Option fH:=
 ai (F308 n (Fs b,J,J,J,())) λe=>Z e
def Pd(n:Nat)(b:Term×Unit):Option fH:=
 ai (F308 n (Fs b,J,W,J,())) λe=>aj e.1.1 (ai (F185 n (b.1.3,())) λg=>Z g) (iR n)
def JW(n:Nat):Fi->Option Fi:=
 λh=>LO.jn h (λi=>Z (LO.next i)) (λ_ _=>Y) (λ_ j=>Z (LO.ret () j)) λ_ _=>Y
def AS(n:Nat):Fi->Option Fi:=
 λj=>LO.jn j (λk=>Z (LO.next k)) (λ_ _=>Y) (λ_ l=>Z (LO.ret () l)) λ_ _=>Y
def JV(n:Nat):Unit->Bool×Unit->Option fH:=
 λ_ l=>Z (l,())
def F291:Y86:=
 λn b=>aj (D.aI b.1.1 1) (aj (D.aI (ak b.1.4) 0) (ai (Pe n b) λc=>aj c.1.1 (ai (F186 n (b.1.2,(-1000000000),1000000000,()))
 λd=>Z d) (iR n)) (iR n)) (aj (D.aI b.1.1 2) (aj (D.aI (ak b.1.4) 0) (ai (Pe n b) λc=>aj c.1.1 (ai (F186 n (b.1.2,0,
 1,())) λd=>Z d) (iR n)) (iR n)) (ai (aj (D.aI b.1.1 3) (Z (LO.next (W,()))) (ai (aj (D.aI b.1.1 21) (Z (LO.next (W,
 ()))) (ai (aj (D.aI b.1.1 25) (Z (LO.next (W,()))) (Z (LO.next (D.aI b.1.1 28,())))) (Xt n))) (Xt n))) λ(c:Fi)=>LO.jn c
 (λd=>aj d.1 (aj (D.aI (ak b.1.4) 0) (JX n b) (iR n)) (aj (D.aI b.1.1 4) (aj (D.aI (ak b.1.4) 0) (Pd n b) (iR n)) (ai
 (aj (D.aI b.1.1 5) (Z (LO.next (W,()))) (Z (LO.next (D.aI b.1.1 27,())))) λ(e:Fi)=>LO.jn e (λg=>aj g.1 (aj (D.aI (ak
 b.1.4) 1) (Pd n b) (iR n)) (aj (D.aI b.1.1 7) (aj (D.aI (ak b.1.4) 2) (Pd n b) (iR n)) (aj (D.aI b.1.1 8) (aj (D.aI (ak
 b.1.4) 3) (JX n b) (iR n)) (aj (D.aI b.1.1 14) (aj (D.ek (ak b.1.4) 3) (ai (F308 n (Fs b,J,W,J,())) λh=>aj
 h.1.1 (ai (F93 n (b.1.3,())) λi=>Z i) (iR n)) (iR n)) (aj (D.aI b.1.1 15) (ai (F186 n (ak b.1.5,1,5,())) λh=>aj h.1.1
 (aj (D.aI (ak b.1.4) (D.add .i64 1 (ak b.1.5))) (ai (F308 n (Fs b,J,J,W,())) λi=>Z i) (iR n)) (iR n)) (ai
 (aj (D.aI b.1.1 16) (Z (LO.next (W,()))) (ai (aj (D.aI b.1.1 17) (Z (LO.next (W,()))) (ai (aj (D.aI b.1.1 19) (Z (LO.next
 (W,()))) (ai (aj (D.aI b.1.1 20) (Z (LO.next (W,()))) (ai (aj (D.aI b.1.1 23) (Z (LO.next (W,()))) (Z (LO.next (D.aI b.1.1
 26,())))) (JW n))) (JW n))) (JW n))) (JW n))) λ(h:Fi)=>LO.jn h (λi=>aj i.1 (aj (D.aI (ak b.1.4) 1) (JX n b)
 (iR n)) (aj (D.aI b.1.1 24) (aj (D.aI (ak b.1.4) 1) (ai (Pe n b) λj=>aj j.1.1 (ai (F186 n (b.1.2,0,3,())) λk=>Z k)
 (iR n)) (iR n)) (ai (aj (D.aI b.1.1 6) (Z (LO.next (W,()))) (ai (aj (D.aI b.1.1 9) (Z (LO.next (W,()))) (ai (aj (D.aI
 b.1.1 10) (Z (LO.next (W,()))) (ai (aj (D.aI b.1.1 11) (Z (LO.next (W,()))) (ai (aj (D.aI b.1.1 12) (Z (LO.next (W,())))
 (ai (aj (D.aI b.1.1 13) (Z (LO.next (W,()))) (ai (aj (D.aI b.1.1 18) (Z (LO.next (W,()))) (Z (LO.next (D.aI b.1.1 22,()))))
 (AS n))) (AS n))) (AS n))) (AS n))) (AS n))) (AS n))) λ(j:Fi)=>LO.jn j (λk=>aj k.1 (aj (D.aI (ak b.1.4) 2)
 (JX n b) (iR n)) (iR n)) (λ_ _=>Y) (JV n) λ_ _=>Y))) (λ_ _=>Y) (JV n) λ_ _=>Y)))))) (λ_ _=>
 Y) (JV n) λ_ _=>Y))) (λ_ _=>Y) (JV n) λ_ _=>Y))
def aj0(n:Nat):OC:=⟨291,⟨P97,K4,J,F291 n⟩,cx [k93 n,ace n,Vo n,ajU n] [(291,1000008,⟨[(35,cX)],[],[],0⟩),(291,1000009,⟨[(35,cX)],[],[],0⟩),(291,1000010,⟨[(35,cX)],[],[],0⟩),(291,1000015,⟨[(59,cX)],[],[],0⟩),(291,1000026,⟨[(125,cX)],[],[],0⟩),(291,1000027,⟨[(125,cX)],[],[],0⟩),(291,1000028,⟨[(125,cX)],[],[],0⟩),(291,1000029,⟨[(125,cX)],[],[],0⟩),(291,1000030,⟨[(125,cX)],[],[],0⟩),(291,1000035,⟨[(151,cX)],[],[],0⟩),(291,1000036,⟨[(151,cX)],[],[],0⟩),(291,1000037,⟨[(151,cX)],[],[],0⟩),(291,1000038,⟨[(151,cX)],[],[],0⟩),(291,1000039,⟨[(151,cX)],[],[],0⟩),(291,1000040,⟨[(151,cX)],[],[],0⟩),(291,1000041,⟨[(151,cX)],[],[],0⟩)] n 10 291⟩
def F94:ahk:=
 λn b=>ai (@iter (Int×Unit) (Bool×Unit) (Unit) (Any) (λc=>aj (D.bN c.1 (ak b.1)) (aC (ff 0 c.1 (ak b.1)) (aC (av c.1 b.1)
 (ai (F142 n (ey b.1 0 c.1,aR b.1 (ah c.1) [],())) λd=>aj d.1.1 (Z (LO.ret () (J,()))) (Z (LO.next (D.add .i64 c.1 1,()))))))
 (Z (LO.out 0 c))) n (0,())) λc=>LO.el c (λ_ _=>Z ((W,()),())) (λ_ e=>Z (e,())) λ_ _=>Y
def k94(n:Nat):OC:=⟨94,⟨P9,K4,J,F94 n⟩,cx [YX n] [(94,0,⟨[(3,de)],[],[],0⟩)] n 10 94⟩
abbrev Ur(F:Fn P3 K72 J):kT sg:=⟨P3,K72,J,F⟩
def B255:Nat->(aB×Unit->Option (Ti×Unit))->aB×Unit->Option (Ti×Unit):=
 λn f255 c=>aj (D.aI c.1.1 2) (Z (([c.1.3],()),())) (ai (@iter (Tl) (Ti) (Unit) (Any) (λd=>aj (D.bN d.2.1 (ak c.1.4)) (aC
 (av d.2.1 c.1.4) (ai (f255 (aR c.1.4 (ah d.2.1) aL,())) λe=>aC (cZ d.1 e.1.1) (Z (LO.next (cP d.1 e.1.1,D.add .i64 d.2.1 1,
 ()))))) (Z (LO.out 0 d))) n ([],0,())) λd=>LO.el d (λ_ g=>Z ((g.1,()),())) (λ_ g=>Z (g,())) λ_ _=>Y)
def D255(n:Nat)(f255:Fn P3 K72 J)(b:bD prog 255 (Ur f255)):bD prog 255 (Ur (B255 n f255)):=cx [⟨255,Ur f255,b⟩] [(255,0,⟨[(3,.one (.own (.str))),(4,de)],[],[],0⟩)] n 10 255
def R255(n k:Nat):(Fn P3 K72 J):=Nat.rec (motive:=λ_=>(Fn P3 K72 J)) (λ_=>Y) (λ_ r=>B255 n r) k
def F255(n:Nat):Fn P3 K72 J:=(R255 n n)
def abl(n:Nat):∀k,bD prog 255 (Ur (R255 n k))
 |0=>bY (enters 255 (by kernel_rfl))
 |k+1=>have b:=abl n k
  D255 n _ b
def afl(n:Nat):OC:=⟨255,Ur (F255 n),(abl n n)⟩
abbrev Uo(F:Fn P3 K4 J):kT sg:=⟨P3,K4,J,F⟩
def B309:Y37:=
 λn f309 c=>ai (aj (D.aI c.1.1 1) (Z (LO.next (W,()))) (Z (LO.next (D.aI c.1.1 5,())))) λ(d:Fi)=>LO.jn d (λe=>ai (aj
 e.1 (aj (D.aI (ak c.1.4) 0) (aj (D.aI c.1.2 0) (Z (LO.next (fZ c.1.3 [],W,()))) (Z (LO.next (J,W,())))) (Z (LO.next
 (J,W,())))) (ai (aj (D.aI c.1.1 2) (aj (D.aI (ak c.1.4) 0) (aj (D.aI c.1.2 0) (ai (F185 n (c.1.3,())) λg=>Z (LO.next
 (g.1.1,W,()))) (Z (LO.next (J,W,())))) (Z (LO.next (J,W,())))) (ai (aj (D.aI c.1.1 3) (aj (D.aI (ak c.1.4) 0) (aj
 (fZ c.1.3 []) (ai (F186 n (c.1.2,(-1000000000),1000000000,())) λg=>Z (LO.next (g.1.1,W,()))) (Z (LO.next (J,W,()))))
 (Z (LO.next (J,W,())))) (ai (aj (D.aI c.1.1 4) (aj (D.aI (ak c.1.4) 0) (aj (fZ c.1.3 []) (ai (F186 n (c.1.2,0,1,())) λg=>
 Z (LO.next (g.1.1,W,()))) (Z (LO.next (J,W,())))) (Z (LO.next (J,W,())))) (ai (aj (D.aI c.1.1 6) (aj (D.ek (ak
 c.1.4) 3) (aj (D.aI c.1.2 0) (ai (F93 n (c.1.3,())) λg=>Z (LO.next (g.1.1,W,()))) (Z (LO.next (J,W,())))) (Z (LO.next
 (J,W,())))) (Z (LO.next (J,J,())))) λ(g:Kn)=>LO.jn g (λh=>Z (LO.next (h.1,J,()))) (λ_ _=>Y) (λ_
 i=>Z (LO.ret () i)) λ_ _=>Y)) λ(g:Kn)=>LO.jn g (λh=>Z (LO.next (h.1,J,()))) (λ_ _=>Y) (λ_ i=>Z
 (LO.ret () i)) λ_ _=>Y)) λ(g:Kn)=>LO.jn g (λh=>Z (LO.next (h.1,J,()))) (λ_ _=>Y) (λ_ i=>Z (LO.ret () i))
 λ_ _=>Y)) λ(g:Kn)=>LO.jn g (λh=>Z (LO.next (h.1,J,()))) (λ_ _=>Y) (λ_ i=>Z (LO.ret () i)) λ_ _=>
 Y)) λ(g:Kn)=>LO.jn g (λh=>ai (@iter (Bool×Int×Unit) (Bool×Unit) (Unit) (Any) (λi=>aj (D.bN i.2.1 (ak c.1.4)) (aj i.1
 (aC (av i.2.1 c.1.4) (ai (f309 (aR c.1.4 (ah i.2.1) aL,())) λj=>Z (LO.next (j.1.1,D.add .i64 i.2.1 1,())))) (Z (LO.out 0
 i))) (Z (LO.out 0 i))) n (h.1,0,())) λi=>LO.el i (λ_ k=>Z ((k.1,()),())) (λ_ k=>Z (k,())) λ_ _=>Y) (λ_ _=>
 Y) (λ_ i=>Z (i,())) λ_ _=>Y) (λ_ _=>Y) (λ_ g=>Z (g,())) λ_ _=>Y
def D309(n:Nat)(f309:Fn P3 K4 J)(b:bD prog 309 (Uo f309)):bD prog 309 (Uo (B309 n f309)):=cx [k93 n,ace n,Vo n,⟨309,Uo f309,b⟩] [(309,1,⟨[(4,cX),(5,de)],[],[],0⟩),(309,1000005,⟨[(11,cX)],[],[],0⟩),(309,1000006,⟨[(4,cX),(11,cX)],[],[],0⟩),(309,1000008,⟨[(4,cX),(26,cX)],[],[],0⟩),(309,1000010,⟨[(4,cX),(40,cX)],[],[],0⟩),(309,1000012,⟨[(4,cX),(54,cX)],[],[],0⟩),(309,1000014,⟨[(4,cX),(68,cX)],[],[],0⟩)] n 10 309
def R309(n k:Nat):(Fn P3 K4 J):=Nat.rec (motive:=λ_=>(Fn P3 K4 J)) (λ_=>Y) (λ_ r=>B309 n r) k
def F309(n:Nat):Fn P3 K4 J:=(R309 n n)
def abi(n:Nat):∀k,bD prog 309 (Uo (R309 n k))
 |0=>bY (enters 309 (by kernel_rfl))
 |k+1=>have b:=abi n k
  D309 n _ b
def ajT(n:Nat):OC:=⟨309,Uo (F309 n),(abi n n)⟩
def F292:Y11:=
 λn b=>ai (F83 n (aB.mk b.1.1 b.1.2 b.1.3 b.1.4,12,())) λc=>aj (D.ek 0 c.1.1) (ai (F309 n (aB.mk b.1.1 b.1.2 b.1.3 b.1.4,()))
 λd=>aj d.1.1 (ai (F255 n (aB.mk b.1.1 b.1.2 b.1.3 b.1.4,())) λe=>ai (F94 n e.1) λg=>Z g) (Z ((J,()),()))) (Z
 ((J,()),()))
def ajZ(n:Nat):OC:=⟨292,⟨P3,K4,J,F292 n⟩,cx [k83 n,k94 n,afl n,ajT n] [] n 10 292⟩
end Mn
end
end
