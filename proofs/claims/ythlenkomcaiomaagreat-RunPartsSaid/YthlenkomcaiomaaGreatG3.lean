import Derived.Scope
import Derived.Recover
import Derived.Test.YthlenkomcaiomaaGreatG2
set_option linter.all false
set_option maxRecDepth 100000
set_option maxHeartbeats 0
noncomputable section
open Option renaming some->Z,none->Y
open Bool renaming true->W,false->J
open Nat renaming beq->Nq,ble->Nl,blt->Nt,succ->Ns,add->Na
open Go.Result(andThen_ok)
open Go.Sem(run_bind run_pure)
open TL.LO renaming next->N,ret->X,out->H
open TL.Rx renaming ok->G,iE->M
section
namespace TL
open Go
variable {S:Sg}
section
theorem bX.jO(fr:bX S)(k j:Nat)(v:V S)(h:k<bC):(fr.put k v).get j=if j=k then Z v else fr.get j:=Tr.aR _ _ _ _ h
structure eC(s:aY S)(g:Gh)(w:World)(s':aY S)(g':Gh)(w':World):Prop where
 rel:aV g' (aB s') w'
 ext:oD s.lo s.fl g w g' w'
 fl:s'.fl=s.fl
 lo:s'.lo=s.lo
 aE:s.aE<=s'.aE
 ug:∀o∈s.wr,o∈s'.wr
 same:∀o,o<s.aE->o∉s'.wr->s'.ob.get o=s.ob.get o
 Ho:∀o∈s.dr,o∈s'.dr
variable {s s':aY S}{g g':Gh}{w w':World}{p:Nat->Bool}{v:V S}{a:Act}
def cP.toW{ow:L Nat}(h:cP ow s g w s' g' w'):eC s g w s' g' w':=⟨h.rel,h.ext,h.fl,h.lo,h.aE,h.ug,h.same,h.Ho⟩
def eC.lower{m:Nat}(h:eC {s with lo:=m} g w s' g' w')(a:s.lo<=m):eC s g w {s' with lo:=s.lo} g' w':=
 ⟨⟨h.rel.aE,h.rel.ah,h.rel.box,h.rel.arr,h.rel.bh,h.rel.jS⟩,⟨h.ext.bP,λo e x b k=>h.ext.arr o e x (iO b a) k,h.ext.bh,h.ext.size,h.ext.heap,h.ext.own,h.ext.og,h.ext.os,h.ext.output⟩,h.fl,rfl,h.aE,h.ug,h.same,h.Ho⟩
theorem eC.refl{s:aY S}{g:Gh}{w:World}(h:aV g (aB s) w):eC s g w s g w:=(cP.refl h).toW
def eC.trans{s s' b:aY S}{g g' c:Gh}{w w' d:World}(h:eC s g w s' g' w')(k:eC s' g' w' b c d):eC s g w b c d:=
 ⟨k.rel,h.ext.trans (h.fl▸h.lo▸k.ext),k.fl.trans h.fl,k.lo.trans h.lo,fZ h.aE k.aE,λo a=>k.ug o (h.ug o a),
  λo a e=>(k.same o (iO a h.aE) e).trans (h.same o a (λf=>e (k.ug o f))),λo a=>k.Ho o (h.Ho o a)⟩
mutual
theorem ek{p q:Nat->Bool}(h:∀o,p o=W->q o=W):∀v:V S,cG p v=W->cG q v=W
 |.ptr o _,c=>h o c|.lQ o _ _ _,c=>h o c|.sh o _,c=>h o c|.mp o,c=>h o c|.rE o,c=>h o c|.uj o,c=>h o c|.ub _,c=>by cases c
 |.pW _ _ _,c=>by cases c
 |.sx o m _ _,c=>by
  simp[cG,oG]at c ⊢
  grind
 |.fn _ a b,c=>by simp[cG,oG]at c ⊢;exact c.imp (mc h a) (mc h b)
 |.de _ v,c=>ek h v c|.agg d,c=>mc h d c|.gM d,c=>mc h d c|.gd _ v,c=>ek h v c|.ty _ _,c=>by cases c
 |.kb _,c=>by cases c
 |.kn _ _,c=>by cases c
 |.dat _,c=>by cases c
 |.lR _ _ _,c=>by cases c
 |.emp,c=>by cases c
 |.kr _ _ _,c=>by cases c
theorem mc{p q:Nat->Bool}(h:∀o,p o=W->q o=W):∀l:L (V S),iJ p l=W->iJ q l=W
 |[],a=>by cases a
 |v::l,a=>by simp[iJ,oG]at a ⊢;exact a.imp (ek h v) (mc h l)
end
mutual
theorem pN(os:L Nat):∀v:V S,iP os v=cG os.contains v
 |.ptr o _=>rfl|.lQ o _ _ _=>rfl|.sh o _=>rfl|.mp o=>rfl|.rE o=>rfl|.uj o=>rfl|.ub _=>rfl|.sx _ _ _ _=>rfl|.pW _ _ _=>rfl|.fn _ a b=>by simp[iP,cG,wA os a,wA os b]
 |.de _ v=>pN os v|.agg c=>wA os c|.gM c=>wA os c|.gd _ v=>pN os v|.ty _ _=>rfl|.kb _=>rfl|.kn _ _=>rfl|.dat _=>rfl|.lR _ _ _=>rfl|.emp=>rfl|.kr _ _ _=>rfl
theorem wA(os:L Nat):∀l:L (V S),oJ os l=iJ os.contains l
 |[]=>rfl|v::l=>by simp[oJ,iJ,pN os v,wA os l]
end
theorem iV{dr b:L Nat}{aE a:Nat}(h:∀o∈dr,o∈b)(hn:a<=aE)(o:Nat)(c:dL dr aE o=W):dL b a o=W:=by
 simp only[dL,oG,FJ,rF]at c ⊢
 grind[Nat.le_of_ble_eq_true,Nat.ble_eq_true_of_le]
mutual
def dI(p:Nat->Bool):T->Bool
 |.ptr o _=>p o|.lQ o _ _ _=>p o|.sh o _=>p o|.mp o=>p o|.rE o=>p o|.uj o=>p o|.sx o m _ _=>p o||p m|.fn _ a b=>jt p a||jt p b|.de _ v=>dI p v|.agg c=>jt p c|.gM c=>jt p c|.gd _ v=>dI p v|_=>J
def jt(p:Nat->Bool):L T->Bool
 |[]=>J|v::l=>dI p v||jt p l
end
mutual
def ia(p:Nat->Bool):∀v:V S,dI p (low v)=cG p v
 |.ty t x=>by
  have:∀l:L D,jt p (l.map .sym)=J:=by
   intro l
   induction l with|nil=>rfl|cons d l e=>simp[jt,dI,e]
  cases t<;>simp[low,ec,cG,dI,this]
 |.kb _=>rfl|.kn _ _=>rfl|.dat _=>rfl|.ptr _ _=>rfl|.lR _ _ _=>rfl|.lQ _ _ _ _=>rfl|.sh _ _=>rfl|.emp=>rfl|.kr _ _ _=>rfl|.fn _ a b=>by simp[low,cG,dI,qL p a,qL p b]
 |.de _ v=>by simp[low,cG,dI,ia p v]
 |.agg c=>by simp[low,cG,dI,qL p c]
 |.gM c=>by simp[low,cG,dI,qL p c]
 |.gd _ v=>by simp[low,cG,dI,ia p v]
 |.mp _=>rfl|.rE _=>rfl|.uj _=>rfl|.ub _=>rfl|.sx _ _ _ _=>rfl|.pW _ _ _=>rfl
def qL(p:Nat->Bool):∀l:L (V S),jt p (bq l)=iJ p l
 |[]=>rfl|v::l=>by simp[bq,jt,iJ,ia p v,qL p l]
end
def n9{p:Nat->Bool}:∀{l:L T},jt p l=J->∀t∈l,dI p t=J
 |[],_,t,b=>by cases b
 |a::l,h,t,b=>by
  simp[jt,zl]at h;obtain rfl|b:=fS.1 b
  .exact h.1
  .exact n9 h.2 t b
structure adL(p:Nat->Bool)(g g':Gh):Prop where
 bP:∀o b,p o=J->g.bP o=Z b->g'.bP o=Z b
 arr:∀o e x,p o=J->g.arr o e=Z x->g'.arr o e=Z x
 bh:∀b,g.bh b->g'.bh b
theorem aH.on{p:Nat->Bool}{g g':Gh}{w w':World}(q:adL p g g')(y:jQ g.bh w w'){t:T}{v:Value}(h:aH g w t v)(l:dI p t=J):aH g' w' t v:=by
 induction h with
 |sym d v u=>exact .sym d v (u.mono y q.bh)|kb b=>exact .kb b|kn k n=>exact .kn k n|ptr o off b h=>exact .ptr o off b (q.bP _ _ l h)|lR d off C val K P u=>exact .lR d off C val (q.bh _ K) (λj c B=>by rw[y.cell (by rw[kK];exact K)];grind) (λj c B=>(u j c B).mono y q.bh)
 |lQ o e i off len cap sz C h=>exact .lQ o e i off len cap sz C (q.arr _ _ _ l h)|sh o e len cap sz a h=>exact .sh o e len cap sz a (q.arr _ _ _ l h)|emp a=>exact .emp a|kr k R a S u=>exact .kr k R a S (u.mono y q.bh)|fn f fs z va vc A E _ _ s F=>simp[dI,zl]at l;exact .fn f fs z va vc A E (λj t v h1 h2=>s j t v h1 h2 (n9 l.1 t (iq h1))) (λj t v h1 h2=>F j t v h1 h2 (n9 l.2 t (iq h1)))|de t x v _ s=>exact .de t x v (s l)|agg z I A _ s=>exact .agg z I A (λj t v h1 h2=>s j t v h1 h2 (n9 l t (iq h1)))|gM z I A _ s=>exact .gM z I A (λj t v h1 h2=>s j t v h1 h2 (n9 l t (iq h1)))|gd c t v _ s=>exact .gd c t v (λP=>s P l)|mp o b h=>exact .mp o b (q.bP _ _ l h)|rE o b h=>exact .rE o b (q.bP _ _ l h)|uj o b h=>exact .uj o b (q.bP _ _ l h)|ub e b h=>exact .ub e b h|sx o m r i len cap sz a h=>simp[dI,zl]at l;exact .sx o m r i len cap sz a (q.arr _ _ _ l.2 h)|pW j d c a B u=>exact .pW j d c a B (u.mono y q.bh)
def Gh.base(g:Gh)(p:Nat->Bool):Gh:={g with bP:=λo=>if p o=J then g.bP o else Y,arr:=λo e=>if p o=J then g.arr o e else Y}
def Gh.gE(g:Gh)(p:Nat->Bool):adL p g (g.base p):=
 ⟨λo b h e=>by simp[Gh.base,h,e],λo e x h k=>by simp[Gh.base,h,k],λ_ h=>h⟩
theorem Gh.Bu{g:Gh}{p:Nat->Bool}{o b:Nat}(h:(g.base p).bP o=Z b):p o=J∧g.bP o=Z b:=by
 grind[Gh.base]
theorem Gh.Bv{g:Gh}{p:Nat->Bool}{o e:Nat}{x:eY}(h:(g.base p).arr o e=Z x):p o=J∧g.arr o e=Z x:=by
 grind[Gh.base]
def Gh.fI{k b:Nat}(h:bz (g.base p) k b):p k=J∧bz g k b:=by
 obtain⟨h1,h2|⟨e,x,a,h2,h3⟩⟩:=h
 .exact ⟨(Gh.Bu h2).1,h1,.inl (Gh.Bu h2).2⟩
 .exact ⟨(Gh.Bv h2).1,h1,.inr ⟨e,x,a,(Gh.Bv h2).2,h3⟩⟩
theorem aV.base{g:Gh}{w:World}{s s0:St}(hs:aV g s w){p:Nat->Bool}{aE:Nat}(E:∀o,aE<=o->p o=W)(r:s0.aE=aE)(hn:aE<=s.aE)
  (f:∀o ob,p o=J->s0.ob.get o=Z ob->∃a,s.ob.get o=Z a∧si (dI p) a ob):aV (g.base p) s0 w:=by
 refine⟨r▸fZ hn hs.aE,λo F=>?_,λo b u=>?_,λo e x z=>?_,hs.bh,λo A b h B=>hs.jS o A b (Gh.fI h).2 (Gh.fI B).2⟩
 .simp_all[Gh.base]
 .let ⟨d,k⟩:=Gh.Bu u
  let ⟨h1,h2,h3⟩:=hs.box o b k
  refine⟨h1,h2,λob c=>?_⟩
  let ⟨a,l,n⟩:=f o ob d c
  let ⟨x,h4,h5⟩:=h3 a l
  exact⟨x,h4,h5.left (λt v C i=>C.on (g.gE p) (λ_ _=>rfl) i) n⟩
 .let ⟨d,q⟩:=Gh.Bv z
  let ⟨h1,h2⟩:=hs.arr o e x q
  refine⟨h1,λob c=>?_⟩
  let ⟨a,l,n⟩:=f o ob d c
  refine(h2 a l).left n (λh=>h.j8 rfl) (λm j y i h=>?_) (funext λI=>by simp[Gh.base,bw d]) (λ_ _ _=>⟨rfl,vO⟩);have i:p m=J:=i
  simp_all[Gh.base]
def iS(a:Act):Sh->L Value->Prop
 |[],[]=>True|(k,.one _)::l,v::b=>a.tmps[k]?=Z v∧iS a l b|(_,.box _)::l,_::b=>iS a l b|(_,.hid _)::l,b=>iS a l b|_,_=>False
def EP{l:L (V S)}{i:Nat}(h:nth l i=Z v):(bq l)[i]?=Z (low v):=by rw[j0]at h;simp[eU,h]
theorem jV{g:Gh}{w:World}{fr:bX S}{s:aY S}{a:Act}(hf:cR g (bB fr) a w)(hs:aV g (aB s) w):∀{p:Pt}{v:V S},It fr s p=Z v->∃u,aH g w (low v) u
 |.slot k,v,h=>by
  let ⟨u,_,e⟩:=hf.tm k (low v) (by rw[bW,show fr.get k=Z v from h];rfl)
  grind
 |.cell p i,v,h=>by
  simp[It]at h;split at h
  .rename_i o d
   let ⟨u,c⟩:=jV hf hs d
   split at h
   .rename_i B f;cases c with
    |ptr _ _ b j=>
     obtain⟨m,ty,q,t,e⟩:=(hs.box o b j).box (by rw[aI,f];rfl);have h1:=EP h;have h2:i<m.size:=by grind
     exact⟨m[i],e i _ _ h1 (uy h2)⟩
   .cases h
  .cases h
 |.cap p i,v,h=>by
  simp[It]at h;split at h
  .rename_i d
   let ⟨u,c⟩:=jV hf hs d
   cases c with
   |fn _ _ _ C n t E h1 h2=>
    have y:=EP h;have z:i<n.size:=by grind
    exact⟨n[i],h2 i _ _ y (uy z)⟩
  .cases h
 |.Ms p k,v,h=>by
  simp[It]at h;split at h
  .rename_i o d
   let ⟨u,c⟩:=jV hf hs d
   split at h
   .rename_i l f;cases c with
    |rE _ b j=>
     obtain⟨x,q,e⟩:=(hs.box o b j).2.2 _ (by rw[aI,f];rfl);cases e with
     |lp _ r h1 h2 h4 h5 h6 F A=>
      let ⟨u,_,c⟩:=A k (low v) (by
       show(bB l.fr).get k=_;rw[bW,h];rfl)
      grind
   .cases h
  .cases h
def tG{g:Gh}{w:World}{fr:bX S}{s:aY S}{a:Act}(hf:cR g (bB fr) a w)(hs:aV g (aB s) w):∀{sh:Sh}{ps:L Pt}{bs:L Nat},rQ fr s sh ps=Z bs->∃bl,PW (λo b=>g.bP o=Z b) bs bl
 |[],[],bs,h=>by simp only[rQ,gK]at h;subst h;exact⟨[],rfl,λj t v h=>by simp at h⟩
 |(k,.one c)::l,ps,bs,h=>tG hf hs (sh:=l) (ps:=ps) (by simpa only[rQ]using h)
 |(_,.box k)::l,p::ps,bs,h=>by
  simp[rQ]at h;split at h
  .rename_i v d;split at h
   .rename_i o r h1 h2;simp at h;subst h;obtain rfl:=Lb h1
    let ⟨u,e⟩:=jV hf hs d
    let ⟨b,q,_⟩:=Gs e
    let ⟨bl,h3⟩:=tG hf hs h2
    refine⟨b::bl,by simp[h3.1],λj f i m n=>?_⟩;cases j with|zero=>simp_all|succ j=>exact h3.2 j f i (by simpa using m) (by simpa using n)
   .cases h
  .cases h
 |(_,.hid k)::l,p::ps,bs,h=>by
  simp[rQ]at h;split at h
  .rename_i d;split at h
   .rename_i h1 h2;simp at h;subst h;obtain rfl:=Lb h1
    let ⟨u,e⟩:=jV hf hs d
    let ⟨b,q,_⟩:=Gs e
    let ⟨bl,h3⟩:=tG hf hs h2
    refine⟨b::bl,by simp[h3.1],λj f i m n=>?_⟩;cases j with|zero=>simp_all|succ j=>exact h3.2 j f i (by simpa using m) (by simpa using n)
   .cases h
  .cases h
 |[],_::_,_,h=>by simp[rQ]at h
 |(_,.box _)::_,[],_,h=>by simp[rQ]at h
 |(_,.hid _)::_,[],_,h=>by simp[rQ]at h
theorem EH{g:Gh}{w:World}{fr:bX S}{a:Act}(hf:cR g (bB fr) a w):∀{sh:Sh}{bs bl:L Nat}{vs:L (V S)},vN fr sh bs=Z vs->PW (λo b=>g.bP o=Z b) bs bl->∃vals,iS a sh vals∧PW (aH g w) (bq vs) vals
 |[],[],bl,vs,h,_=>by simp only[vN,gK]at h;subst h;exact⟨[],trivial,rfl,λj t v h=>by grind⟩
 |(k,.one c)::l,bs,bl,vs,h,d=>by
  simp[vN]at h;split at h
  .rename_i v r h1 h2;simp at h;subst h
   let ⟨vals,h3,h4⟩:=EH hf h2 d
   let ⟨u,p,s⟩:=hf.tm k (low v) (by rw[bW,h1];rfl)
   refine⟨u::vals,⟨p,h3⟩,by simp[bq,ny,h4.1],λj t i e f=>?_⟩;cases j with|zero=>grind[bq]|succ j=>exact h4.2 j t i (by simpa[bq]using e) (by simpa using f)
  .cases h
 |(_,.box k)::l,o::bs,b::bl,vs,h,d=>by
  simp[vN]at h;split at h
  .rename_i h2;simp at h;subst h;have q:g.bP o=Z b:=d.2 0 _ _ rfl rfl
   let ⟨vals,h3,h4⟩:=EH hf h2 (bl:=bl) ⟨by simpa using d.1,λj m n e f=>d.2 (j+1) m n (by simpa using e) (by simpa using f)⟩
   refine⟨La k b::vals,h3,by simp[bq,ny,h4.1],λj t i e f=>?_⟩;cases j with|zero=>grind[bq,N1]|succ j=>exact h4.2 j t i (by simpa[bq]using e) (by simpa using f)
  .cases h
 |(_,.box k)::l,o::bs,[],vs,h,d=>absurd d.1 (by simp)
 |(_,.hid k)::l,o::bs,b::bl,vs,h,d=>by
  simp[vN]at h
  let ⟨vals,h3,h4⟩:=EH hf h (bl:=bl) ⟨by simpa using d.1,λj m n e f=>d.2 (j+1) m n (by simpa using e) (by simpa using f)⟩
  exact⟨vals,h3,h4⟩
 |(_,.hid k)::l,o::bs,[],vs,h,d=>absurd d.1 (by simp)
 |[],_::_,_,_,h,_=>by simp[vN]at h
 |(_,.box _)::_,[],_,_,h,_=>by simp[vN]at h
 |(_,.hid _)::_,[],_,_,h,_=>by simp[vN]at h
structure HO(sh:Sh)(bs:List Nat)(a:Act)(g:Gh)(s:aY S)(w:World)(x:ga S.A (lB sh))(s2:aY S)(ow:List Nat)(g2:Gh)(vals:List Value)(al:List eY)(bl:List Nat):Prop where
 rel:aV g2 (aB s2) w
 ext:Ext s.fl g w g2 w
 pr:ry S g2.bh w (lB sh) x vals al bl
 at_:iS a sh vals
 ZW:AL g2 al ow
 Io:PW (λo b=>g2.bP o=Z b) bs bl
 now:ow.Nodup
 XQ:∀o∈ow,s.fl<=o∧s.lo<=o∧o<s.aE
 nbs:bs.Nodup
 T4:∀o∈bs,s.fl<=o∧o<s.aE∧o∉ow∧∀e,g2.arr o e=Y
 fl:s2.fl=s.fl
 lo:s2.lo=s.lo
 aE:s2.aE=s.aE
 ug:∀o∈s.wr,o∈s2.wr
 same:∀o,o∉s2.wr->s2.ob.get o=s.ob.get o
 dr:s2.dr=s.dr
 ap:xB al
 owb:∀o∈ow,g.bP o=Y
def kC(hS:fc S){s2:aY S}{fr:bX S}(hf:cR g (bB fr) a w)(hs:aV g (aB s) w){sh:Sh}{bs ow:L Nat}{x:ga S.A (lB sh)}{bl0:L Nat}(q:PW (λo b=>g.bP o=Z b) bs bl0)(h:qE sh bs fr s=Z (x,s2,ow)) :
  ∃g2 vals al bl,HO sh bs a g s w x s2 ow g2 vals al bl:=by
 unfold qE at h;split at h
 .cases h
 rename_i i;split at h
 .cases h
 rename_i x' P ow' k z;split at h
 .cases h
 rename_i s1 A;obtain⟨p,h2⟩|⟨_,h2⟩:=af h
 rotate_left
 .cases h2
 clear h;simp only[eZ]at p;simp at h2;obtain⟨rfl,rfl,rfl⟩:=h2
 let ⟨vals,R,oL⟩:=EH hf i q
 have r:=lO p.1;have hap:=zW p.2.1;have t:=lO p.2.2.1;have hbb:k=bs:=by
  have h1:k.length=bs.length:=by have:=beq_iff'.1 p.2.2.2.1;rwa [bS,bS]at this
  have h2:=p.2.2.2.2;clear p z t i q
  induction k generalizing bs with
  |nil=>cases bs with|nil=>rfl|cons=>simp at h1
  |cons c cs ih=>cases bs with|nil=>simp at h1|cons d ds=>simp only[List.zip_cons_cons,List.all_cons,eZ]at h2;rw[beq_iff'.1 h2.1,ih (by simpa using h1) h2.2]
 subst hbb
 let ⟨p1,B,p4,p3⟩:=kD hS hs z oL (λo f=>by cases f)
 have hfl:=dx hS _ A
 let ⟨K,l,C,hfr⟩:=ez P hs hfl p1
 let ⟨f1,f2,f3,f4,f5,f6,f7⟩:=eE A
 let ⟨al,bl,m,E,u⟩:=p3 K (aB s1) P l C hfr (λo f=>f) (λo f=>by rw[aI,aI,f6 o (hap o f)])
 have v:∀o∈k,∃ob,s1.ob.get o=Z ob∧s.ob.get o=Z ob∧jL ob=W:=by
  intro o f
  let ⟨_,F,i,n⟩:=p4 o f
  have hnf:o∉P:=λhm=>by have:=(p1 o hm).oe (by rw[aI,i];rfl);rw[n8 n]at this;cases this
  exact⟨F,by rw[f6 o hnf];exact i,i,n⟩
 have I:∀o∈k,∃b,K.bP o=Z b:=by
  intro o f;obtain⟨j,hj,rfl⟩:=rG f;have hj':j<bl.length:=by have:=u.1;omega
  exact⟨bl[j],u.2 j _ _ (iR hj) (iR hj')⟩
 refine⟨K,vals,al,bl,l,C,m,R,E,u,r,λo f=>⟨(B o f).1,(B o f).2.1,(B o f).2.2.1⟩,t,λo f=>?_,f1,f2,f3,f4,f5,f7,E.apart l r m.iH,λo f=>?_⟩;rotate_left
 .let ⟨_,_,_,oba,y,hB⟩:=B o f
  exact hs.AR ((aI s o).trans (by rw[y];rfl)) (uY hB)
 let ⟨F,hv1,hv2,n⟩:=v o f
 refine⟨(p4 o f).1,?_,λhm=>?_,λe=>?_⟩
 .let ⟨b,p⟩:=I o f
  have:=l.lt p;have e1:(aB s1).aE=s1.aE:=rfl;omega
 .let ⟨_,_,_,oba,y,hB⟩:=B o hm
  rw[hv2]at y;cases y;have:=uY hB;rw[n8 n]at this;cases this
 .cases y:K.arr o e with
  |none=>rfl|some x'=>
   exfalso
   let ⟨_,h2⟩:=l.arr o e x' y
   exact AJ n (h2 _ (by rw[aI,hv1];rfl))
def apF:Pk->Bool|.one _=>J|_=>W
structure BH(ex:List Nat)(sh:Sh)(bs:List Nat)(a:Act)(gb:Gh)(jP:bX S)(s0:aY S)(w:World)(al:List eY)(gh:Gh)(Cs:bX S)(ze:aY S):Prop where
 rel:aV gh (aB ze) w
 fr:cR gh (bB Cs) a w
 le:mX gb gh
 bh:gh.bh=gb.bh
 own:∀k b,bz gh k b->bz gb k b∨(s0.aE<=k∧∃a∈al,a.at b)
 fl:ze.fl=s0.fl
 lo:ze.lo=s0.lo
 aE:s0.aE<=ze.aE
 wr:ze.wr=s0.wr
 dr:ze.dr=s0.dr
 ob:∀o,o<s0.aE->o∉bs->ze.ob.get o=s0.ob.get o
 bP:gh.bP=gb.bP
 arr:∀o,o<s0.aE->∀e,gh.arr o e=gb.arr o e
 n:Cs.n=jP.n
 OL:Cs.df=jP.df
 get:∀k,k∉ex->(∀p∈sh,p.1=k->apF p.2=W)->Cs.get k=jP.get k
theorem wJ{a:Act}{w:World}:∀{sh:Sh}{bs:L Nat}{x:ga S.A (lB sh)}{vals:L Value}{al:L eY}{bl:L Nat}{gb:Gh}{jP Cs:bX S}{s0 ze:aY S},m9 sh bs x jP s0=Z (Cs,ze)->jP.n<=bC->
  ry S gb.bh w (lB sh) x vals al bl->iS a sh vals->PW (λo b=>gb.bP o=Z b) bs bl->(∀o∈bs,∀e,gb.arr o e=Y)->(∀a∈al,∀b,a.at b->∀o,¬bz gb o b)->xB al->cR gb (bB jP) a w->aV gb (aB s0) w->
  ∃gh,BH [] sh bs a gb jP s0 w al gh Cs ze:=by
 intro sh
 induction sh with
 |nil=>
  intro bs x vals al bl gb jP Cs s0 ze h hn hp C g hna hfr hap F hs;cases bs with
  |nil=>obtain⟨rfl,rfl⟩:=h;exact⟨gb,hs,F,mX.refl _,rfl,λ_ _ h=>.inl h,rfl,rfl,eM _,rfl,rfl,λ_ _ _=>rfl,rfl,λ_ _ _=>rfl,rfl,rfl,λ_ _ _=>rfl⟩
  |cons o bs=>simp[m9]at h
 |cons q sh ih=>
  intro bs x vals al bl gb jP Cs s0 ze h hn hp C g hna hfr hap F hs
  let ⟨k,pk⟩:=q
  cases pk with
  |one c=>
   cases hp with
   | @one _ _ n xr v vs Ea BA bl h1 h2=>
   let ⟨hv,C⟩:=C
   obtain⟨hb,h⟩|⟨_,h⟩:=af h
   rotate_left
   .cases h
   simp only[eZ]at hb;have hk:k<jP.n:=gN hb.1;have I:(vX s0 c n).2.aE<=bC:=gN hb.2;have l:=uw.1 hap
   let ⟨K,d,oL⟩:=nt (cs:=[c]) (x:=(n,())) h1 hs (λa ha=>hfr a (fL _ ha)) l.1 (by simpa[ig]using I)
   have e1:(ig s0 [c] (n,())).1=[(vX s0 c n).1]:=rfl;have e2:(ig s0 [c] (n,())).2=(vX s0 c n).2:=rfl;have hv1:aH K w (low (vX s0 c n).1) v:=oL.2 0 _ _ rfl rfl;have P:cR K (bB (jP.put k (vX s0 c n).1)) a w:=by
    refine⟨F.size,F.df.imp (λ_ _ ht=>ht.le d.le) d.le.bP,λj t s=>?_⟩;rw[bW,bX.jO _ _ _ _ (iO hk hn)]at s;by_cases hjk:j=k
    .simp_all
    .rw[bL hjk]at s
     let ⟨u,R,hr⟩:=F.tm j t (by rw[bW];exact s)
     exact⟨u,R,hr.le d.le⟩
   let ⟨gh,f⟩:=ih (gb:=K) h (by simpa[bX.put]using hn) (d.bh▸h2) C (by rw[d.bP];exact g) (λo ho e=>by
     have hol:o<s0.aE:=by
      obtain⟨j,s,rfl⟩:=rG ho;have hj':j<bl.length:=by have:=g.1;omega
      exact hs.lt (g.2 j _ _ (iR s) (iR hj'))
     rw[d.arr o hol]
     grind) (λa ha b hb o m=>by
     obtain m|⟨_,a2,ha2,pR⟩:=d.own o b m
     .grind
     grind) l.2.1 P d.rel
   refine⟨gh,f.rel,f.fr,d.le.trans f.le,f.bh.trans d.bh,λk' b m=>?_,f.fl.trans d.fl,f.lo.trans d.lo,fZ d.aE f.aE,f.wr.trans d.wr,f.dr.trans d.dr,λo ho A=>?_,f.bP.trans d.bP,λo ho e=>?_,f.n,f.OL,λj hex s=>?_⟩
   .obtain m|⟨y,E,z,k3⟩:=f.own k' b m
    .obtain m|⟨y,E,z,k3⟩:=d.own k' b m
     .exact .inl m
     grind
    .exact .inr ⟨fZ d.aE y,E,eP _ z,k3⟩
   .rw[f.ob o (iO ho d.aE) A];exact d.ob o ho
   .rw[f.arr o (iO ho d.aE)];exact d.arr o ho e
   .rw[f.get j hex (λp hp=>s p (g7 _ hp)),bX.jO _ _ _ _ (iO hk hn),bL];intro hjk;cases s (k,.one c) eI hjk.symm
  |box B=>
   cases hp with
   | @box _ _ n xr b hx vs Ea BA bl hhp h1 h2=>
   cases bs with
   |nil=>exact absurd g.1 (by simp)
   |cons o bs=>
   obtain⟨hb,h⟩|⟨_,h⟩:=af h
   rotate_left
   .cases h
   have I:(lf s0 (fC bs) B n).2.aE<=bC:=gN hb;have l:=uw.1 hap;have lg:gb.bP o=Z b:=g.2 0 _ _ rfl rfl
   let ⟨K,d,af5⟩:=p8 h1 (A1 (bs:=bs) (bl:=bl) ⟨by simpa using g.1,λj a c y z=>g.2 (j+1) a c (by simpa using y) (by simpa using z)⟩) hs (λa ha=>hfr a (fL _ ha)) l.1 I
   have hol:o<s0.aE:=hs.lt lg;have hk:=d.rel.tK (o:=o) (b:=b) (by rw[d.bP];exact lg) hhp af5 (λe=>by rw[d.arr o hol];simp_all);have hk2:aV K (aB {(lf s0 (fC bs) B n).2 with ob:=(lf s0 (fC bs) B n).2.ob.set aK o (lf s0 (fC bs) B n).1}) w:=by
    have:=ey (lf s0 (fC bs) B n).2 o (lf s0 (fC bs) B n).1 (lf s0 (fC bs) B n).2.wr
    simp_all
   have P:cR K (bB jP) a w:=⟨F.size,F.df.imp (λ_ _ ht=>ht.le d.le) d.le.bP,λj t s=>by
    let ⟨u,R,hr⟩:=F.tm j t s
    exact⟨u,R,hr.le d.le⟩⟩
   let ⟨gh,f⟩:=ih (bs:=bs) (bl:=bl) (gb:=K) h hn (d.bh▸h2) C ⟨by simpa using g.1,λj E c y z=>by rw[d.bP];exact g.2 (j+1) E c (by simpa using y) (by simpa using z)⟩
    (λr i e=>by
     have af9:r<s0.aE:=by
      obtain⟨j,s,rfl⟩:=rG i;have hj':j<bl.length:=by have:=g.1;grind
      exact hs.lt (g.2 (j+1) bs[j] bl[j] (by simp) (by simp))
     rw[d.arr r af9]
     simp_all) (λa ha b hb o m=>by
     obtain m|⟨_,a2,ha2,pR⟩:=d.own o b m
     .grind
     grind) l.2.1 P hk2
   refine⟨gh,f.rel,f.fr,d.le.trans f.le,f.bh.trans d.bh,λk' b m=>?_,f.fl.trans d.fl,f.lo.trans d.lo,fZ d.aE f.aE,f.wr.trans d.wr,f.dr.trans d.dr,λr i A=>?_,f.bP.trans d.bP,λr i e=>?_,f.n,f.OL,λj hex s=>?_⟩
   .obtain m|⟨y,E,z,k3⟩:=f.own k' b m
    .obtain m|⟨y,E,z,k3⟩:=d.own k' b m
     .exact .inl m
     grind
    .exact .inr ⟨fZ d.aE y,E,eP _ z,k3⟩
   .have hne:r≠o:=λe=>A (by simp_all);rw[f.ob r (iO i d.aE) (λhm=>A (g7 _ hm))];rw[Tr.dA _ _ _ _ _ hne];exact d.ob r i
   .rw[f.arr r (iO i d.aE)];exact d.arr r i e
   .exact f.get j hex (λp hp=>s p (g7 _ hp))
  |hid B=>
   cases hp with
   | @hid _ _ n xr b hx vs Ea BA bl hhp h1 h2=>
   cases bs with
   |nil=>exact absurd g.1 (by simp)
   |cons o bs=>
   obtain⟨hb,h⟩|⟨_,h⟩:=af h
   rotate_left
   .cases h
   have I:(lf s0 (fC bs) B n).2.aE<=bC:=gN hb;have l:=uw.1 hap;have lg:gb.bP o=Z b:=g.2 0 _ _ rfl rfl
   let ⟨K,d,af5⟩:=p8 h1 (A1 (bs:=bs) (bl:=bl) ⟨by simpa using g.1,λj a c y z=>g.2 (j+1) a c (by simpa using y) (by simpa using z)⟩) hs (λa ha=>hfr a (fL _ ha)) l.1 I
   have hol:o<s0.aE:=hs.lt lg;have hk:=d.rel.tK (o:=o) (b:=b) (by rw[d.bP];exact lg) hhp af5 (λe=>by rw[d.arr o hol];simp_all);have hk2:aV K (aB {(lf s0 (fC bs) B n).2 with ob:=(lf s0 (fC bs) B n).2.ob.set aK o (lf s0 (fC bs) B n).1}) w:=by
    have:=ey (lf s0 (fC bs) B n).2 o (lf s0 (fC bs) B n).1 (lf s0 (fC bs) B n).2.wr
    simp_all
   have P:cR K (bB jP) a w:=⟨F.size,F.df.imp (λ_ _ ht=>ht.le d.le) d.le.bP,λj t s=>by
    let ⟨u,R,hr⟩:=F.tm j t s
    exact⟨u,R,hr.le d.le⟩⟩
   let ⟨gh,f⟩:=ih (bs:=bs) (bl:=bl) (gb:=K) h hn (d.bh▸h2) C ⟨by simpa using g.1,λj E c y z=>by rw[d.bP];exact g.2 (j+1) E c (by simpa using y) (by simpa using z)⟩
    (λr i e=>by
     have af9:r<s0.aE:=by
      obtain⟨j,s,rfl⟩:=rG i;have hj':j<bl.length:=by have:=g.1;grind
      exact hs.lt (g.2 (j+1) bs[j] bl[j] (by simp) (by simp))
     rw[d.arr r af9]
     simp_all) (λa ha b hb o m=>by
     obtain m|⟨_,a2,ha2,pR⟩:=d.own o b m
     .grind
     grind) l.2.1 P hk2
   refine⟨gh,f.rel,f.fr,d.le.trans f.le,f.bh.trans d.bh,λk' b m=>?_,f.fl.trans d.fl,f.lo.trans d.lo,fZ d.aE f.aE,f.wr.trans d.wr,f.dr.trans d.dr,λr i A=>?_,f.bP.trans d.bP,λr i e=>?_,f.n,f.OL,λj hex s=>?_⟩
   .obtain m|⟨y,E,z,k3⟩:=f.own k' b m
    .obtain m|⟨y,E,z,k3⟩:=d.own k' b m
     .exact .inl m
     grind
    .exact .inr ⟨fZ d.aE y,E,eP _ z,k3⟩
   .have hne:r≠o:=λe=>A (by simp_all);rw[f.ob r (iO i d.aE) (λhm=>A (g7 _ hm))];rw[Tr.dA _ _ _ _ _ hne];exact d.ob r i
   .rw[f.arr r (iO i d.aE)];exact d.arr r i e
   .exact f.get j hex (λp hp=>s p (g7 _ hp))
theorem lN{ow:L Nat}{aE o:Nat}(h:dL ow aE o=J):o∉ow∧o<aE:=by
 grind[dL,Nat.ble_eq_true_of_le]
def pL{ow:L Nat}{aE o:Nat}(h1:o∉ow)(h2:o<aE):dL ow aE o=J:=by simp[dL,zl,FJ,Xf];refine⟨h1,?_⟩;cases h:Nl aE o with|false=>rfl|true=>have:=gN h;omega
theorem Vm{p q:Nat->Bool}{v:V S}(h:cG p v=W)(a:cG q v=J):∃o,p o=W∧q o=J:=by
 obtain h1|h1:=Classical.em (∃o,p o=W∧q o=J)
 .exact h1
 grind[ek]
theorem pX(p:Nat->Bool)(v:V S):vJ (dI p) (low v) (low (fQ p v)):=by cases a:cG p v with|true=>exact .inr ⟨_,by simp[fQ,a,gY];rfl⟩|false=>exact .inl ⟨by simp[fQ,a,jo],by rw[ia];exact a⟩
theorem sJ(p:Nat->Bool)(v:V S):vJ (dI p) (low (fQ p v)) (low (fQ p v)):=by cases a:cG p v with|true=>exact .inr ⟨_,by simp[fQ,a,gY];rfl⟩|false=>exact .inl ⟨rfl,by simp_all[fQ,ia]⟩
theorem Fb(p:Nat->Bool)(t:Ty)(x:den S.A t):vJ (dI p) (ec S t x) (ec S t x):=.inl ⟨rfl,ia (S:=S) p (.ty t x)⟩
theorem NW(p:Nat->Bool)(a b:Ty)(l:L (den S.A a×den S.A b)):si (dI p) (cW (.map a b l:u9 S)) (cW (.map a b l)):=by
 refine⟨rfl,λj t u h1 h2=>?_⟩;rw[h1]at h2;cases h2;simp only[kV,fM]at h1;obtain⟨q,_,rfl⟩:=h1
 grind[Fb]
def abX{f:V S->V S}(l:LpV S)(t0:Tr (V S))(hf:∀v,t0.get=t0.get->vJ (dI p) (low v) (low (f v))) :
  si (dI p) (cW (.lp {l with fr:={l.fr with tm:=t0}})) (cW (.lp {l with fr:={l.fr with tm:=t0.mapA f}})):=by
 refine⟨rfl,rfl,λk u b=>?_⟩;have a:((t0.mapA f).map low).get k=Z u:=b;rw[Tr.get_map,Tr.oh,FM,fM]at a;obtain⟨v,c,rfl⟩:=a;exact⟨low v,by show(t0.map low).get k=_;rw[Tr.get_map,c];rfl,hf v rfl⟩
theorem lF(p:Nat->Bool)(ob:u9 S):si (dI p) (cW ob) (cW (eX p ob)):=by
 cases ob with
 |box i=>
  refine⟨by simp[eJ],λj t u h1 h2=>?_⟩;simp only[eU,kV,fM]at h1 h2;obtain⟨v,f,rfl⟩:=h1;obtain⟨g,⟨b,a,rfl⟩,rfl⟩:=h2
  grind[pX]
 |map d h l=>exact NW p d h l|Il d l=>
  refine⟨by simp,λj t u h1 h2=>?_⟩;simp only[kV,fM]at h1 h2;obtain⟨v,f,rfl⟩:=h1;obtain⟨g,⟨b,a,rfl⟩,rfl⟩:=h2
  grind[Fb,pX]
 |lp l=>exact abX l l.fr.tm λv _=>pX p v|arr=>rfl|lq=>rfl|rD=>rfl|Ah=>rfl|rws=>rfl|gone=>rfl|Gd=>rfl|lD n j l era m e hole=>
  cases c:p m with|true=>exact .inr (by simp[eX,c,gY];rfl)|false=>exact .inl ⟨by simp[eX,c,jo];rfl,c⟩
theorem Hu(p:Nat->Bool)(ob:u9 S):si (dI p) (cW (eX p ob)) (cW (eX p ob)):=by
 cases ob with
 |box i=>refine⟨rfl,λj t u h1 h2=>?_⟩;rw[h1]at h2;cases h2;simp only[eU,kV,fM]at h1;obtain⟨g,⟨v,c,rfl⟩,rfl⟩:=h1;exact sJ p v
 |map d h l=>exact NW p d h l|Il d l=>
  refine⟨rfl,λj t u h1 h2=>?_⟩;rw[h1]at h2;cases h2;simp only[kV,fM]at h1;obtain⟨g,⟨v,c,rfl⟩,rfl⟩:=h1
  grind[Fb,sJ]
 |lp l=>refine⟨rfl,rfl,λk u e=>?_⟩;refine⟨u,e,?_⟩;have a:((l.fr.tm.mapA (fQ p)).map low).get k=Z u:=e;rw[Tr.get_map,Tr.oh,FM,fM]at a;obtain⟨v,c,rfl⟩:=a;exact sJ p v
 |arr=>rfl|lq=>rfl|rD=>rfl|Ah=>rfl|rws=>rfl|gone=>rfl|Gd=>rfl|lD n j l era m f hole=>
  cases b:p m with|true=>simp[eX,b,gY];rfl|false=>simp[eX,b,jo];exact .inl ⟨rfl,b⟩
def zQ(h:cG p v=J):fQ p v=v:=by simp[fQ,h,jo]
theorem oz{p:Nat->Bool}{ob:u9 S}(h:gD p ob=J):eX p ob=ob:=by
 cases ob with
 |box g=>
  simp[eX,u9.box.injEq];have c:∀{l:L (V S)},iJ p l=J->∀v∈l,cG p v=J:=by
   intro l
   induction l with
   |nil=>intro _ v b;cases b
   |cons a l d=>
    intro h v b;simp[iJ,zl]at h;obtain rfl|b:=fS.1 b
    .exact h.1
    .exact d h.2 v b
  have:∀v∈g,fQ p v=v:=λv b=>zQ (c h v b);exact(Xe this).trans (List.map_id _)
 |Il e l=>
  simp only[eX];have c:∀{l:L (den S.A e×V S)},zx p l=J->∀v∈l,cG p v.2=J:=by
   intro l
   induction l with
   |nil=>intro _ v b;cases b
   |cons a l d=>
    intro h v b;simp[zx,zl]at h;obtain rfl|b:=fS.1 b
    .exact h.1
    .exact d h.2 v b
  have:∀q∈l,((q.1,fQ p q.2):den S.A e×V S)=q:=λq i=>by rw[zQ (c h q i)]
  rw[(Xe this).trans (List.map_id _)]
 |lp l=>simp[eX,ES (λv=>zQ) (show mJ (cG p) l.fr.tm=J from h)]|lD n j l era m f hole=>have h:p m=J:=h;simp[eX,h,jo]|_=>rfl
section
variable {bs ow ds:List Nat}{fr:bX S}{s1:aY S}
def ua(a:∀b∈bs,b<bC)(o:Nat):(cJ ds ow bs fr s1).2.ob.get o=if o∈bs then Y else(s1.ob.get o).map (eX (dL ow s1.aE)):=by show(bs.foldl (λt o=>t.del aK o) (s1.ob.mapA _)).get o=_;rw[Tr.oq bs _ o a,Tr.oh]
end
def DH:∀(l:L (V S))(k:Nat)(t:Tr (V S)),(mM l k t).map low=Cm (bq l) k (t.map low)
 |[],_,_=>rfl|a::l,k,t=>by simp only[mM,bq,Cm];rw[DH l,Tr.mC]
theorem tL{g:Gh}{w:World}{n:Nat}(hn:n<bC){args:L (V S)}{vs:Array Value}(hl:args.length<=n)(a:PW (aH g w) (bq args) vs.toList) :
  cR g (bB {n:=n,tm:=mM args 0 .nil}) {tmps:=vs++Array.replicate (n-vs.size) undef,defers:=[]} w:=by
 have c:(bq args).length=vs.size:=by simpa using a.1
 have d:args.length=vs.size:=by rw[<-c,eJ]
 refine⟨by simp[bB];omega,.nil,λj t b=>?_⟩;have e:(bB {n:=n,tm:=mM args 0 .nil}).get j=(Cm (bq args) 0 .nil).get j:=by show((mM args 0 .nil).map low).get j=_;rw[DH];rfl
 rw[e,GC _ _ _ (by omega)]at b;split at b
 .refine ⟨vs[j],?_,a.2 j t _ b (by simp)⟩
  grind
 .cases b
end
section
def yf(s:aY S)(g:Gh)(w:World){ω:Type}(k kp:V S->aY S->O ω)(r:ω):Ending->World->Prop
 |.returned v,b=>∃t c d,k t c=Z r∧aH d b (low t) v∧eC s g w c d b|.panicked chain,b=>∃v t c d,chain=[{v,recovered:=J}]∧kp t c=Z r∧aH d b (low t) v∧eC s g w c d b|.outgrown,_=>False
def ame(P:Program)(call:fY S):Prop:=∀(f:FuncId)(args:L (V S))(s:aY S){ω:Type}(k kp:V S->aY S->O ω)(r:ω),call (.jn f) args s k kp=Z r->∀(g:Gh)(w:World)(vs:Array Value),aV g (aB s) w->PW (aH g w) (bq args) vs.toList->
  lX P f∧Calls P f vs w (yf s g w k kp r)
theorem xQ:∀{l:L Nat}{o:Nat},o∈l->o<=IB l
 |[],_,h=>by cases h
 |a::l,o,h=>by
  simp[IB];obtain rfl|h:=fS.1 h
  .cases b:Nl (IB l) o with
   |true=>grind|false=>
    grind[Nat.ble_eq_true_of_le]
  .have:=xQ h;cases b:Nl (IB l) a with|true=>exact fZ this (gN b)|false=>exact this
theorem jr{l:L Nat}{o:Nat}:Cd l o=J↔o∈l:=by simp[Cd]
def uI{t:Tr (u9 S)}:∀{l:L Nat},(∀o∈l,o<bC)->∀{o:Nat},(DF t l).get o=if o∈l then t.get o else Y
 |[],_,o=>by rfl
 |a::l,h,o=>by
  have f:=uI (t:=t) (l:=l) (λo b=>h o (g7 _ b)) (o:=o);have c:=h a eI;simp only[DF];by_cases e:o=a
  .subst e;rw[bw eI];cases d:t.get o with
   |none=>
    simp_all
   |some x=>simp only;rw[Tr.aR _ _ _ _ c,bw rfl]
  .cases d:t.get a with
   |none=>simp_all|some x=>
    simp_all[Tr.aR]
def Tt(os:L Nat)(t:T):dI os.contains t=dw os t:=by
 induction t using T.rec (motive_2:=λl=>jt os.contains l=iI os l)with|fn f a b d g=>simp[dw,dI,d,g]|de t v e=>simpa only[dw,dI]using e|agg i e=>simpa only[dw,dI]using e|gM i e=>simpa only[dw,dI]using e|gd c t e=>simpa only[dw,dI]using e|nil=>rfl|cons a l d h=>simp[iI,jt,d,h]|_=>rfl
def DB{p q:Nat->Bool}(h:∀o,p o=W->q o=W){α:Type}:∀l:L (α×V S),zx p l=W->zx q l=W
 |[],a=>by cases a
 |v::l,a=>by simp[zx,oG]at a ⊢;exact a.imp (ek h v.2) (DB h l)
theorem uD{p q:V S->Bool}(h:∀v,p v=W->q v=W):∀t:Tr (V S),mJ p t=W->mJ q t=W
 |.nil,a=>by cases a
 |.node v l r,a=>by
  simp[mJ,oG]at a ⊢;refine a.imp (λa=>?_) (Or.imp (uD h l) (uD h r))
  grind
variable {p q:Nat->Bool}
def KR(h:∀o,p o=W->q o=W){ob:u9 S}(d:gD q ob=J):gD p ob=J:=by
 cases a:gD p ob with
 |false=>rfl|true=>
  have:gD q ob=W:=by cases ob with|box c=>exact mc h c a|Il e l=>exact DB h l a|lp l=>exact uD (ek h) _ a|lD n j l era m b hole=>exact h m a|_=>cases a
  simp_all
theorem FF{g:Gh}{w:World}{s:aY S}{b:L Ck}{v:V S}{val:Value}(i:aH g w (low v) val){x:gx S.A b}{fz ow:L Nat}(h:gf s b (W7 b v)=Z (x,fz,ow)):∃vals,val=valOf vals∧PW (aH g w) (bq (W7 b v)) vals:=by
 have one:∀{l:L (V S)},l=[v]->b.length=1->∃vals,val=valOf vals∧PW (aH g w) (bq l) vals:=by
  rintro l rfl _
  refine⟨[val],rfl,rfl,λj t u h1 h2=>?_⟩
  grind[bq]
 have d:∀{a:L Ck}{l:L (V S)}{x:gx S.A a}{fz ow:L Nat},gf s a l=Z (x,fz,ow)->a.length=l.length:=by
  intro a
  induction a with
  |nil=>grind[gf]|cons c a o=>intro l x fz ow h;cases l with
   |nil=>simp[gf]at h|cons v l=>
    grind[gf]
 have e:=d h;unfold W7 at e h ⊢;split at h
 .grind
 .cases i with
  |gM _ f k m=>
   refine⟨f.toList,?_,by simpa using k,λj t v h1 h2=>m j t v h1 (by simpa using h2)⟩;have n:f.toList.length≠1:=by
    grind[eJ,List.length_eq_one_iff]
   unfold valOf;split
   .simp_all
   .rfl
 simp_all
def GM{fr:bX S}:∀{n j:Nat}{l:L (V S)},getAll fr j n=Z l->l.length=n∧∀(i:Nat)(v:V S),l[i]?=Z v->fr.get (j+i)=Z v
 |0,j,l,h=>by simp only[getAll,gK]at h;subst h;exact⟨rfl,λi v h=>by simp at h⟩
 |n+1,j,l,h=>by
  simp only[getAll]at h;split at h
  .rename_i h1 h2;simp at h;subst h
   let ⟨b,c⟩:=GM h2
   refine⟨by simp[b],λi u a=>?_⟩;cases i with|zero=>simp at a;subst a;exact h1|succ i=>have:=c i u (by simpa using a);rw[show j+(i+1)=Ns j+i by omega];exact this
  .cases h
theorem Th{g:Gh}{w:World}{fr:bX S}{s:aY S}{a:Act}(hf:cR g (bB fr) a w)(hs:aV g (aB s) w):∀{ps:L Pt}{ks:L Nat},XF fr s ps=Z ks->∀o∈ks,∃b,g.bP o=Z b
 |[],ks,h=>by
  grind[XF]
 |p::l,ks,h=>by
  simp[XF]at h;split at h
  .rename_i h1 h2;simp at h;subst h;intro i c;obtain rfl|c:=fS.1 c
   .unfold ptO at h1;split at h1
    .rename_i j d;cases h1
     let ⟨u,e⟩:=jV hf hs d
     cases e with|ptr _ _ b f=>grind
    .rename_i j d;cases h1
     let ⟨u,e⟩:=jV hf hs d
     cases e with|mp _ b f=>grind
    .rename_i d;cases h1
     let ⟨u,e⟩:=jV hf hs d
     cases e with|rE _ b f=>grind
    .cases h1
   .exact Th hf hs h2 i c
  .cases h
theorem S2{s:aY S}:∀{cs:L Ck}{l:L (V S)}{x:gx S.A cs}{fz ow:L Nat},kU cs=W->gf s cs l=Z (x,fz,ow)->fz=[]∧ow=[]
 |[],[],_,fz,ow,_,h=>by
  grind[gf]
 |.dat t::cs,v::l,x,fz,ow,a,h=>by
  simp[kU,eZ]at a;simp[gf]at h;split at h
  .rename_i c d;obtain⟨_,rfl,rfl⟩:=h;obtain⟨rfl,rfl⟩:=S2 a.2 d;simp[o4]at c;split at c
   .rename_i b;obtain⟨_,rfl,rfl⟩:=c;refine⟨?_,rfl⟩;cases t with
    |int k=>
     cases v<;>simp only[bU]at b<;>try(cases b;done)
     .grind
     grind
    |bool=>
     cases v<;>simp only[bU]at b<;>try(cases b;done)
     .grind
     simp_all
    |str=>
     cases v<;>simp only[bU]at b<;>try(cases b;done)
     grind
    |_=>simp[W3]at a
   .cases c
  .cases h
 |.own _::_,_,_,_,_,a,_=>by simp[kU]at a
 |.j3 ..::_,_,_,_,_,a,_=>by simp[kU]at a
 |.nil _::_,_,_,_,_,a,_=>by simp[kU]at a
 |.ptr _::_,_,_,_,_,a,_=>by simp[kU]at a
 |[],_::_,_,_,_,_,h=>by simp[gf]at h
 |.dat _::_,[],_,_,_,_,h=>by simp[gf]at h
section
variable {g:Gh}{w:World}
theorem VX{P:Program}(hS:fc S){call:fY S}(wK:ame P call){s:aY S}(hs:aV g (aB s) w){c:JSh}{f:FuncId}{args:L (V S)}{ω:Type}{k:V S->aY S->L Nat->O ω}{r:ω}
  (h:evJ call c s f args k=Z r) {vs:Array Value} (hall:PW (aH g w) (bq args) vs.toList):lX P f∧Calls P f vs w λ
   |.returned v,w'=>∃t s' g' ow,k t s' ow=Z r∧aH g' w' (low t) v∧cP ow s g w s' g' w'|.panicked _,_=>False|.outgrown,_=>False:=by
 unfold evJ at h;split at h;rotate_left
 .cases h
 rename_i C z hbs hks;split at h
 .cases h
 rename_i F ow hpk;obtain⟨m,h1⟩|⟨_,h1⟩:=af h
 rotate_left
 .cases h1
 clear h;simp only[eZ]at m
 let ⟨⟨hlen,YC⟩,aeh,agp,hmax⟩:=m
 have hlen:cD args<bC:=gN hlen;have YC:∀k∈zf c.sh,k<bC:=λk hk=>by
  simp_all
 have hmax:IB (C++z)+1<=F.aE:=gN hmax
 let ⟨y,hrun,h2⟩:=iy h1
 clear h1;split at h2
 .cases h2
 rename_i s3 hout;have hvl:args.length=vs.size:=by have:=hall.1;rw[eJ]at this;omega
 have Og:cR g (bB (TN args)) {tmps:=vs++Array.replicate (cD args-vs.size) undef,defers:=[]} w:=tL hlen (by rw[bS];omega) hall;have af4:vs++Array.replicate (cD args-vs.size) undef=vs:=by
  simp_all[bS]
 rw[af4]at Og;generalize ha0:({tmps:=vs,defers:=[]}:Act)=a0 at Og;have ha0t:a0.tmps=vs:=by rw[<-ha0]
 let ⟨bl0,Rf⟩:=tG Og hs hbs
 let ⟨A,vals,al,bl,d⟩:=kC hS Og hs Rf hpk
 have hkb:=Th Og hs hks;have VJ:∀o∈C,∃b,A.bP o=Z b:=λo ho=>by
  obtain⟨j,hj,rfl⟩:=rG ho;have hj':j<bl.length:=by have:=d.Io.1;omega
  exact⟨bl[j],d.Io.2 j _ _ (iR hj) (iR hj')⟩
 have hKb:∀o∈C++z,∃b,A.bP o=Z b:=λo ho=>by
  obtain ho|ho:=eS.1 ho
  .exact VJ o ho
  .let ⟨b,m⟩:=hkb o ho
   exact⟨b,d.ext.bP _ _ m⟩
 have agD:∀o∈C++z,o<F.aE:=λo ho=>by
  let ⟨b,m⟩:=hKb o ho
  exact d.rel.lt m
 have hn1:F.aE<=bC:=d.rel.aE;have aq2:∀o∈C++z,o∉ow:=λo ho hm=>by
  obtain ho|ho:=eS.1 ho
  .exact (d.T4 o ho).2.2.1 hm
  .let ⟨b,m⟩:=hkb o ho
   rw[d.owb o hm]at m;cases m
 have hkp:∀o∈z,∃ob,F.ob.get o=Z ob∧jL ob=W∧gD (Cd (C++z)) ob=J:=λo ho=>by
  unfold T1 at agp;rw[kA]at agp;have:=agp o ho;split at this
  .simp_all
  .cases this
 have hKarr:∀o∈C++z,∀e,A.arr o e=Y:=λo ho e=>by
  obtain ho|ho:=eS.1 ho
  .exact (d.T4 o ho).2.2.2 e
  .let ⟨ob,i,N8,_⟩:=hkp o ho
   cases hx:A.arr o e with
   |none=>rfl|some x=>
    exfalso
    let ⟨_,h2⟩:=d.rel.arr o e x hx
    exact AJ N8 (h2 _ (by rw[aI,i];rfl))
 have acG:∀o∈z,o<bC:=λo ho=>iO (agD o (eP _ ho)) hn1;have Ek:=d.ZW.owned d.pr.iH;have apV:aV (A.base (Cd (C++z))) (aB (stJ C z F)) w:=by
  refine d.rel.base (aE:=IB (C++z)+1) (λo ho=>?_) rfl hmax (λo ob R i=>?_)
  .cases hn:Cd (C++z) o with|true=>rfl|false=>have:=xQ (jr.1 hn);omega
  .rw[aI,show(stJ C z F).ob.get o=(DF F.ob z).get o from rfl,uI acG]at i;split at i
   .rename_i hok
    let ⟨Wz,Cr,_,hm⟩:=hkp o hok
    rw[Cr]at i;simp at i;subst i;refine⟨cW Wz,by rw[aI,Cr];rfl,?_⟩;have:=lF (Cd (C++z)) Wz;rwa [oz hm]at this
   .cases i
 have hf1:cR (A.base (Cd (C++z))) (bB (Rm (C++z) c.sh (TN args))) a0 w:=by
  refine⟨Og.size,by rw[<-ha0];exact .nil,λk t hk=>?_⟩;rw[bW,fM]at hk;obtain⟨v,hv,rfl⟩:=hk;have hv:(((zf c.sh).foldl (λt k=>t.del aK k) (TN args).tm).keep λv=>!(cG (Cd (C++z)) v)).get k=Z v:=hv;rw[Tr.om,aiB]at hv
  let ⟨h3,h4⟩:=hv
  have h5:(TN args).get k=Z v:=by
   rw[Tr.oq _ _ _ YC]at h3;split at h3
   .cases h3
   .exact h3
  let ⟨u,hu,hr⟩:=Og.tm k (low v) (by rw[bW,h5];rfl)
  exact⟨u,hu,(hr.ext d.ext hs.bh).on (A.gE _) (λ_ _=>rfl) (by rw[ia];simpa using h4)⟩
 unfold Qm at hrun;split at hrun
 .cases hrun
 rename_i Cs ze Of;split at hrun
 .cases hrun
 rename_i args' ef
 let ⟨gh,hh⟩:=wJ (gb:=A.base (Cd (C++z))) Of (Jg hlen) d.pr d.at_ ⟨d.Io.1,λj o b h1 h2=>(A.gE _).bP o b (jr.2 (fL _ (iq h1))) (d.Io.2 j o b h1 h2)⟩
  (λo ho e=>by
   simp_all[Gh.base])
  (λa ha b m o E=>by
   let ⟨h3,h4⟩:=Gh.fI E
   let ⟨o',ho',K⟩:=Ek a ha b m
   have:=d.rel.jS o o' b h4 K
   grind[jr]) d.ap hf1 apV
 have hfn:Cs.n=vs.size:=by have h3:Cs.n=(TN args).n:=hh.n;rw[h3];show cD args=_;rw[bS,hvl]
 have oL:PW (aH gh w) (bq args') vs.toList:=by
  let ⟨k1,k2⟩:=GM ef
  refine⟨by rw[eJ,k1,hfn];simp,λj t v h3 h4=>?_⟩;rw[eU,kV,fM]at h3;obtain⟨u,hu,rfl⟩:=h3;have h5:=k2 j u hu;rw[BW]at h5
  let ⟨v',h6,h7⟩:=hh.fr.tm j (low u) (by rw[bW,h5];rfl)
  simp_all
 let ⟨Oh,hc⟩:=wK f args' ze _ _ y hrun gh w vs hh.rel oL
 refine⟨Oh,hc.mono λe w' he=>?_⟩;cases e with
 |outgrown=>exact he.elim|panicked ch=>
  let ⟨_,_,_,_,_,h3,_⟩:=he
  cases h3
 |returned v=>
 let ⟨t,s',g',h3,ht,n⟩:=he
 unfold ad6 at h3;split at h3;rotate_left
 .cases h3
 rename_i yr fz ow' y2 s2 Mu hr hy;obtain⟨hkw,h4⟩|⟨_,h4⟩:=af h3
 rotate_left
 .cases h4
 simp at h4;subst h4;clear h3;have hkw:∀o∈z,o∉s2.wr:=λo ho=>by
  simp_all
 have hfE:∀(g:Gh)(w:World),cR g (bB (frE:bX S)) {tmps:=#[],defers:=[]} w:=λg w=>⟨rfl,.nil,λk t hk=>by simp_all[bW,frE,bX.get,Tr.get_nil]⟩;have agt:∀o∈C++z,∀b,A.bP o=Z b->gh.bP o=Z b:=λo ho b m=>by rw[hh.bP];exact(A.gE _).bP o b (jr.2 ho) m
 have aqY:PW (λo b=>g'.bP o=Z b) C bl:=⟨d.Io.1,λj o b h1 h2=>n.ext.bP o b (agt o (fL _ (iq h1)) b (d.Io.2 j o b h1 h2))⟩
 let ⟨g3,vals2,BA,bl2,l⟩:=kC hS (hfE g' w') n.rel aqY hy
 have hfl:ze.fl=s.fl:=hh.fl.trans (show(stJ C z F).fl=s.fl from d.fl);have p:oD ze.lo ze.fl gh w g3 w':=n.ext.trans (n.fl▸l.ext.Iu ze.lo);have hgi:gh.bh=A.bh:=hh.bh;have agi:∀{o b:Nat},bz gh o b->(o∈C++z∧A.bP o=Z b∧bz A o b)∨∃a∈al,a.at b:=λ{o b}E=>by
  obtain E|⟨_,hx⟩:=hh.own o b E
  .let ⟨h3,h4⟩:=Gh.fI E
   have h3:=jr.1 h3;refine .inl ⟨h3,?_,h4⟩;obtain h5|⟨e,x,_,h5,_⟩:=h4.2
   .exact h5
   simp_all
  .exact .inr hx
 let X:Nat->Prop:=λb=>(∃o∈C++z,A.bP o=Z b)∨∃a∈al,a.at b
 have acK:∀{o b:Nat},bz gh o b->X b:=λ{o b}E=>(agi E).imp (λ⟨h1,h2,_⟩=>⟨o,h1,h2⟩) id;have hK3:∀o∈C++z,∀b,A.bP o=Z b->g3.bP o=Z b:=λo ho b m=>p.bP o b (agt o ho b m);have YZ:∀b,A.bh b->g3.bh b:=λb m=>p.bh b (by grind);have hXi:∀b,X b->¬A.bh b:=λb hX=>by
  obtain⟨o,_,ho⟩|⟨a,ha,I⟩:=hX
  .exact (d.rel.box o b ho).1
  .exact d.pr.iH a ha b I
 have hXO:∀b,X b->∃o,(o∈C++z∨o∈ow)∧bz A o b:=λb hX=>by
  obtain⟨o,h1,ho⟩|⟨a,ha,I⟩:=hX
  .exact ⟨o,.inl h1,(d.rel.box o b ho).1,.inl ho⟩
  .let ⟨o,ho,E⟩:=Ek a ha b I
   grind
 generalize hB:(cJ [] ow C (frE:bX S) F).2=B at hout;have hBg:∀o,B.ob.get o=if o∈C then Y else(F.ob.get o).map (eX (dL ow F.aE)):=λo=>by rw[<-hB];exact ua (ds:=[]) (fr:=frE) (λb m=>iO (agD b (fL _ m)) hn1) o
 have hBn:B.aE=F.aE:=by rw[<-hB];rfl
 have aq7:B.fl=F.fl:=by rw[<-hB];rfl
 have aq5:B.lo=F.lo:=by rw[<-hB];rfl
 have hA:aV (A.base (dL ow F.aE)) (aB B) w:=by
  refine d.rel.base (aE:=F.aE) (λo ho=>?_) hBn (eM _) (λo ob R i=>?_)
  .simp_all[dL]
  .rw[aI,hBg]at i;split at i
   .cases i
   .rw[FM,fM]at i;obtain⟨vob,hv,rfl⟩:=i;exact⟨cW vob,by rw[aI,hv];rfl,lF _ vob⟩
 have aq8:∀o,(yS z B).ob.get o=if o∈z then Y else B.ob.get o:=λo=>Tr.oq z _ o acG
 have hA':aV (A.base (dL ow F.aE)) (aB (yS z B)) w:=by
  have hsub:∀o ob,(aB (yS z B)).ob.get o=Z ob->(aB B).ob.get o=Z ob:=by
   simp_all[aI]
  refine⟨hA.aE,hA.ah,λo b h=>?_,λo e x h=>?_,hA.bh,hA.jS⟩
  .let ⟨k1,k2,k3⟩:=hA.box o b h
   exact⟨k1,k2,λob i=>k3 ob (hsub o ob i)⟩
  .let ⟨k1,k2⟩:=hA.arr o e x h
   exact⟨k1,λob i=>k2 ob (hsub o ob i)⟩
 have hC:aV {A.base (dL ow F.aE)with bh:=g3.bh} (aB (yS z B)) w':=by
  refine hA'.step (X:=X) YZ (λb m=>?_) l.rel.bh p.size (λb m hX=>n.ext.heap b m λo _ E=>hX (acK E)) (λo b hX E=>?_) hXi
  .obtain h|h|⟨o,_,E⟩:=p.og b m
   .rw[hgi]at h;exact .inl h
   .omega
   .exact .inr (.inr (acK E))
  .let ⟨R,E⟩:=Gh.fI E
   let ⟨o',ho',K⟩:=hXO b hX
   have:=d.rel.jS o o' b E K;subst this;obtain hK|hw:=ho'
   .refine ⟨?_,?_⟩
    .rw[aI,aq8];obtain h|h:=eS.1 hK
     .simp_all
     simp_all
    .let ⟨b',hb'⟩:=hKb o hK
     obtain h5|⟨e,x,_,h5,_⟩:=E.2
     .exact (l.rel.box o b (hK3 o hK b h5)).1
     simp_all
   .exact absurd hw (lN R).1
 have akL:∀o∈C++z,dL ow F.aE o=J:=λo ho=>pL (aq2 o ho) (agD o ho);have hgB:adL (Cd (C++z)) g3 {A.base (dL ow F.aE)with bh:=g3.bh}:=by
  refine⟨λo b R m=>?_,λo e x R hx=>?_,λ_ h=>h⟩
  .have hK:=jr.1 R
   let ⟨b',hb'⟩:=hKb o hK
   rw[hK3 o hK b' hb']at m;have hbb:b'=b:=jT m;rw[<-hbb];exact(A.gE _).bP o b' (akL o hK) hb'
  .exfalso;have hK:=jr.1 R;obtain h|h:=eS.1 hK
   .rw[(l.T4 o h).2.2.2 e]at hx;cases hx
   .let ⟨Wz,Cr,N8,_⟩:=hkp o h
    let ⟨b',hb'⟩:=hKb o hK
    let ⟨_,k2⟩:=l.rel.arr o e x hx
    cases hoc:(aB s2).ob.get o with
    |none=>
     exfalso;have:s2.ob.get o=Z Wz∨o∈C:=by
      by_cases i:o∈C
      .exact .inr i
      .left
       rw[l.same o (hkw o h),n.same o (iO (Tb (xQ hK)) hh.aE) (λhm=>hkw o h (l.ug o hm)),hh.ob o (Tb (xQ hK)) i];show(DF F.ob z).get o=_;rw[uI acG,bw h,Cr]
     obtain h6|h6:=this
     .grind[aI]
     .rw[(l.T4 o h6).2.2.2 e]at hx;cases hx
    |some obx=>
     have h7:=(k2 obx hoc).oe;have h8:=(l.rel.box o b' (hK3 o hK b' hb')).2.2 obx hoc
     let ⟨_,_,h9⟩:=h8
     rw[h9.Ce]at h7;cases h7
 have hD:aV {A.base (dL ow F.aE)with bh:=g3.bh} (aB B) w':=by
  refine⟨hC.aE,hC.ah,λo b h=>?_,λo e x h=>?_,hC.bh,hC.jS⟩
  .let ⟨k1,k2,k3⟩:=hC.box o b h
   refine⟨k1,k2,λob i=>?_⟩;by_cases hok:o∈z
   .have hK:o∈C++z:=eP _ hok
    let ⟨Wz,Cr,N8,hm⟩:=hkp o hok
    have Q8:=i;rw[aI,hBg]at Q8;split at Q8
    .cases Q8
    rename_i hnb;rw[Cr]at Q8;simp at Q8;have hm2:gD (dL ow F.aE) Wz=J:=KR (λo ho=>by
     grind[jr]) hm
    rw[oz hm2]at Q8;subst Q8;have h6:s2.ob.get o=Z Wz:=by rw[l.same o (hkw o hok),n.same o (iO (Tb (xQ hK)) hh.aE) (λhm=>hkw o hok (l.ug o hm)),hh.ob o (Tb (xQ hK)) hnb];show(DF F.ob z).get o=_;rw[uI acG,bw hok,Cr]
    let ⟨R,pR⟩:=Gh.Bu (show(A.base (dL ow F.aE)).bP o=Z b from h)
    let ⟨x,h7,h8⟩:=(l.rel.box o b (hK3 o hK b pR)).2.2 (cW Wz) (by rw[aI,h6];rfl)
    have hl:=lF (Cd (C++z)) Wz;rw[oz hm]at hl;exact⟨x,h7,h8.left (λt v ht hmt=>ht.on hgB (λ_ _=>rfl) hmt) hl⟩
   .exact k3 ob (by simp_all[aI])
  .let ⟨k1,k2⟩:=hC.arr o e x h
   refine⟨k1,λob i=>?_⟩;by_cases hok:o∈z
   .have h3:=(Gh.Bv (show(A.base (dL ow F.aE)).arr o e=Z x from h)).2
    simp_all
   .exact k2 ob (by simp_all[aI])
 have YW:=l.ZW.owned l.pr.iH;have YX:∀a∈BA,∀b,a.at b->X b∨w.heap.size<=b:=λa ha b I=>by
  let ⟨o2,ho2,VM⟩:=YW a ha b I
  obtain⟨o',_,K⟩|h:=p.own o2 b (n.fl▸(l.XQ o2 ho2).1) VM
  .exact .inl (acK K)
  omega
 obtain⟨gF,YN⟩:=wJ (a:={tmps:=#[],defers:=[]}) (gb:={A.base (dL ow F.aE)with bh:=g3.bh}) (w:=w') hout (AH _) l.pr l.at_
  ⟨l.Io.1,λj o b h1 h2=>hgB.bP o b (jr.2 (fL _ (iq h1))) (l.Io.2 j o b h1 h2)⟩
  (λo ho e=>by
   simp_all[Gh.base])
  (λa ha b I o E=>by
   have hO0:bz (A.base (dL ow F.aE)) o b:=⟨λhi=>E.1 (YZ b hi),E.2⟩
   let ⟨R,VM⟩:=Gh.fI hO0
   let ⟨o2,ho2,hO3⟩:=YW a ha b I
   by_cases hK:o∈C++z
   .have Rh:g3.bP o=Z b:=by
     obtain h5|⟨e,x,_,h5,_⟩:=VM.2
     .grind
     simp_all
    have:=l.rel.jS o o2 b ⟨(l.rel.box o b Rh).1,.inl Rh⟩ hO3;subst this
    let ⟨b',hb'⟩:=hKb o hK
    have h6:g'.bP o=Z b':=n.ext.bP o b' (agt o hK b' hb');rw[l.owb o ho2]at h6;cases h6
   .obtain hX|h:=YX a ha b I
    .let ⟨o',ho',K⟩:=hXO b hX
     have:=d.rel.jS o o' b VM K
     grind[lN]
    .have:=(d.rel.rP VM).1;omega) l.ap (hfE _ _) hD
 have hflX:∀b,b<w.heap.size->(∀o,s.fl<=o->¬bz g o b)->∀o,s.fl<=o->¬bz gh o b:=λb m hn o ho E=>by
  obtain⟨_,_,VM⟩|⟨a,ha,I⟩:=agi E
  .obtain h|h:=d.ext.own o b VM
   .grind
   .omega
  .let ⟨o',ho',K⟩:=Ek a ha b I
   obtain h|h:=d.ext.own o' b K
   .exact hn o' (d.XQ o' ho').1 h
   .omega
 have akm:∀{o b:Nat},s.fl<=o->bz gh o b->(∃o',s.fl<=o'∧bz g o' b)∨w.heap.size<=b:=λ{o b}ho E=>by
  obtain⟨_,_,VM⟩|⟨a,ha,I⟩:=agi E
  .exact (d.ext.own o b VM).imp (λh=>⟨o,ho,h⟩) id
  .let ⟨o',ho',K⟩:=Ek a ha b I
   exact(d.ext.own o' b K).imp (λh=>⟨o',(d.XQ o' ho').1,h⟩) id
 have ajI:aH gF w' (low (Ef (tS c.rs yr))) v:=by
  obtain⟨vals',rfl,ap8⟩:=FF ht hr
  let ⟨_,_,q⟩:=gk hS n.rel hr ap8
  obtain⟨rfl,rfl⟩:=S2 aeh hr
  let ⟨ZW,hH,_⟩:=q g' (aB s') [] n.rel (Ext.refl _ _ _) ⟨rfl,rfl,λo ho=>(by cases ho),λ_ _ _ _ h=>h,λo ho=>(by cases ho)⟩ (λ_ h=>h) (λo ho=>(by cases ho))
  exact Ak (xX aeh hH)
 refine⟨_,_,gF,ow,h2,ajI,YN.rel,⟨λo b m=>?_,λo e x hl hx=>?_,λb m=>?_,p.size,λb m hn=>?_,λo b ho E=>?_,λb m=>?_,p.os,p.output⟩,YN.fl.trans (aq7.trans d.fl),YN.lo.trans (aq5.trans d.lo),?_,λo ho=>?_,λo hl ho=>?_,λt v ht hm=>?_,λo ho=>?_,λo ho=>?_,λo ho=>?_⟩
 .rw[YN.bP];exact(A.gE _).bP o b (pL (λhm=>by rw[d.owb o hm]at m;cases m) (by have:=hs.lt m;rw[d.aE];exact this)) (d.ext.bP o b m)
 .have hlt:o<F.aE:=by have:=hs.lt' hx;rw[d.aE];exact this
  rw[YN.arr o (by omega)];exact(A.gE _).arr o e x (pL (λhm=>by have:=(d.XQ o hm).2.1;omega) hlt) (d.ext.arr o e x hx)
 .rw[YN.bh];exact YZ b (d.ext.bh b m)
 .exact n.ext.heap b m (by simp_all)
 .obtain E|⟨_,a,ha,I⟩:=YN.own o b E
  .have hO0:bz (A.base (dL ow F.aE)) o b:=⟨λhi=>E.1 (YZ b hi),E.2⟩;exact(d.ext.own o b (Gh.fI hO0).2).imp (λh=>⟨o,ho,h⟩) id
  .let ⟨o2,ho2,VM⟩:=YW a ha b I
   obtain⟨o',ho',K⟩|h:=p.own o2 b (n.fl▸(l.XQ o2 ho2).1) VM
   .exact akm (hfl▸ho') K
   omega
 .rw[YN.bh]at m;obtain h|h|⟨o,ho,E⟩:=p.og b m
  .rw[hgi]at h;exact d.ext.og b h
  .omega
  .obtain h|h:=akm (hfl▸ho) E
   .exact .inr (.inr h)
   omega
 .have h3:B.aE<=s3.aE:=YN.aE;rw[hBn,d.aE]at h3;exact h3
 .exact eP _ (eP _ (eP _ (d.ug o ho)))
 .simp at ho;rw[YN.ob o (by rw[hBn,d.aE];exact hl) ho.2.1,hBg,bL ho.2.1,<-d.same o ho.2.2.2];cases hg:F.ob.get o with
  |none=>rfl|some ob=>
   grind[oz,Tr.qN]
 .have h3:aH A w t v:=ht.ext d.ext hs.bh;have hon:adL ow.contains A {A.base (dL ow F.aE)with bh:=g3.bh}:=by
   refine⟨λo b R m=>?_,λo e x R hx=>?_,YZ⟩
   .exact (A.gE _).bP o b (pL (by grind) (d.rel.lt m)) m
   .exact (A.gE _).arr o e x (pL (by grind) (d.rel.lt' hx)) hx
  exact(h3.on hon (λb m=>n.ext.heap b (d.rel.bh b m) λo _ E=>hXi b (acK E) m) (by rw[Tt];exact hm)).le YN.le
 .simp_all
 .exact eP _ (by rw[d.dr];exact ho)
 simp_all
end
end
section
structure fe(E:eF S):Prop where
 sg:fc S
 Uz:BC E.T.E
 ty:Sa S E.T
 name:∀f fn,E.T.E.TO f=Z fn->(fn.name== "runtime.NumGoroutine")=J
 ng:∀f,E.T.E.II f=Y
 x:XOk S E.T
 II:∀f c,E.II f=Z c->bA E.T.E.P f c
variable {E:eF S}{args:List (V S)}{s:aY S}
def fe.env(h:fe E):PB E.T.E:={h.Uz with
 name:=h.name
 II:=λf c a=>by rw[h.ng]at a;cases a}
def Dd(s:aY S)(g:Gh)(w:World){ω:Type}(k kp:V S->aY S->O ω)(r:ω):Ending->World->Prop
 |.returned v,b=>∃t c d,k t c=Z r∧aH d b (low t) v∧cP [] s g w c d b|.panicked chain,b=>∃v t c d,chain=[{v,recovered:=J}]∧kp t c=Z r∧aH d b (low t) v∧cP [] s g w c d b|.outgrown,_=>False
structure gH(P:Program)(call:fY S):Prop where
 fn:∀(f:FuncId)(args:List (V S))(s:aY S){ω:Type}(k kp:V S->aY S->Option ω)(r:ω),call (.fn f) args s k kp=Z r->∀(g:Gh)(w:World)(vs:Array Value),aV g (aB s) w->PW (aH g w) (bq args) vs.toList->
  lX P f∧Calls P f vs w (Dd s g w k kp r)
 jn:ame P call
 yl:∀(o:Nat)(args:List (V S))(s:aY S){ω:Type}(k kp:V S->aY S->Option ω)(r:ω),call (.yl o) args s k kp=Z r->∀(g:Gh)(w:World)(vs:Array Value)(b:Nat),aV g (aB s) w->PW (aH g w) (bq args) vs.toList->g.bP o=Z b->
  ∃l:Loop,w.heap[b]?=Z (.loop l)∧vs.size=l.params.size∧∀rr n,RoundIn (WR rr) n P b l.fn ((l.params.zip vs).foldl (λtmps(t,a)=>tmps.setIfInBounds t a) l.tmps) l.assign l.body w (Dd s g w k kp r)
 yd:∀(o:Nat)(args:List (V S))(s:aY S){ω:Type}(k kp:V S->aY S->Option ω)(r:ω),call (.yd o) args s k kp=Z r->∀(g:Gh)(w:World)(vs:Array Value)(b:Nat),aV g (aB s) w->PW (aH g w) (bq args) vs.toList->g.bP o=Z b->
  ∃l:Loop,w.heap[b]?=Z (.loop l)∧vs.size=l.params.size∧∀rr n,RoundIn (WR rr) n P b l.fn ((l.params.zip vs).foldl (λtmps(t,a)=>tmps.setIfInBounds t a) l.tmps) l.assign l.body w (yf s g w k kp r)
theorem oA{α:Type}{c:Bool}{x:O α}{r:α}(h:aT c x=Z r):c=W∧x=Z r:=by
 unfold aT at h
 grind
theorem s8{α:Type}{c:Bool}{x y:O α}{r:α}(h:ai c x y=Z r):(c=W∧x=Z r)∨(c=J∧y=Z r):=af h
def r6{f:V S}{as:L (V S)}{id:FuncId}(h:pY f args=Z (id,as)):xY (low f) (bq args)=Z (id,bq as):=by
 unfold pY at h;split at h
 .obtain ⟨rfl,rfl⟩:=h;simp[low,xY,j4]
 .cases h
section
variable {g:Gh}{w:World}
theorem gQ{p:V S->Bool}{q:T->Bool}(a:∀v,q (low v)=p v)(b:∀o e,p (.sh o e)=p (.sh o 0)):∀l:L (sU S),iA q (l.map mh) ((l.map (eA p)).map mh)
 |[]=>.nil|.marks o::l=>by have d:=gQ a b l;simp only[pG,eA];cases c:p (.sh o 0)with|true=>exact .afC o d|false=>exact .marks o (λe=>((a (.sh o e)).trans (b o e)).trans c) d
 |.ko::l=>.ko (gQ a b l)|.call f args::l=>.cons (by
   simp[eA];cases c:p f||args.any p with
   |true=>exact .inl ⟨rfl,rfl⟩|false=>
    simp only[zl,List.any_eq_false]at c;refine .inr ⟨rfl,by simp_all,λt g=>?_⟩;rw[eU,v9]at g
    grind) (gQ a b l)
 |.mark o::l=>.cons (by
   simp[eA];cases c:p (.ptr o 0)with
   |true=>exact .inl ⟨rfl,rfl⟩|false=>exact .inr ⟨rfl,(a (.ptr o 0)).trans c⟩) (gQ a b l)
 |.bad::l=>.cons (.inr ⟨rfl,trivial⟩) (gQ a b l)
theorem nT{ow:L Nat}{fr:bX S}{a:Act}{g':Gh}{w':World}{s s':aY S}(hf:cR g (bB fr) a w)(h:cP ow s g w s' g' w'):cR g' (bB (dy ow fr)) a w':=by
 refine⟨?_,?_,λk t r=>?_⟩
 .cases ow<;>exact hf.size
 .cases ow with
  |nil=>
   have i:∀t:T,dw [] t=J:=by
    intro t
    induction t using T.rec (motive_2:=λl=>iI [] l=J)with|fn f a b d j=>simp[dw,d,j]|de t v e=>simp[dw,e]|agg p e=>simp[dw,e]|gM p e=>simp[dw,e]|gd c v e=>simp[dw,e]|nil=>rfl|cons a l d m=>simp[iI,d,m]|_=>simp[dw]
   refine hf.df.imp (λt v x=>h.tr t v x (i t)) λo b y=>?_;have:=h.tr _ _ (.ptr o 0 b y) (i _);cases this with|ptr _ _ _ q=>exact q
  |cons o ow=>exact(gQ (λv=>kE _ v) (λ_ _=>rfl) fr.df).rel h.tr hf.df
 .rw[bW,fM]at r;obtain⟨v,z,rfl⟩:=r;have n:fr.get k=Z v∧dw ow (low v)=J:=by
   cases ow with
   |nil=>
    refine⟨z,?_⟩;have:∀t:T,dw [] t=J:=by
     intro t;have key:(∀t:T,dw [] t=J):=by
      intro t
      induction t using T.rec (motive_2:=λl=>iI [] l=J)with|fn f a b d j=>simp[dw,d,j]|de t v e=>simp[dw,e]|agg p e=>simp[dw,e]|gM p e=>simp[dw,e]|gd c v e=>simp[dw,e]|nil=>rfl|cons a l d m=>simp[iI,d,m]|_=>simp[dw]
     exact key t
    exact this _
   |cons o ow=>
    grind[dy,bX.get,Tr.om,Option.filter_eq_some_iff,kE]
  let ⟨u,A,B⟩:=hf.tm k (low v) (by rw[bW,n.1];rfl)
  exact⟨u,A,h.tr _ _ B n.2⟩
theorem Tl{E:eF S}(b:fe E){fr:bX S}{s s':aY S}{a:Act}(hf:cR g (bB fr) a w)(hs:aV g (aB s) w)(o:Oper){c:Bool}{t:V S}(h:AN E.T fr s o.op=Z (c,t,s'))(e:c=W) :
  ∃v w' g',((execOp a.eval o).run E.T.E.P w=.ok (.value v) w'∨((execOp a.eval o).run E.T.E.P w=.ok .skip w'∧v=undef))∧aH g' w' (low t) v∧cP [] s g w s' g' w':=by
 unfold AN at h;split at h
 .rename_i r d;cases h;exact abL b.sg b.Uz b.ty hf hs o d e
 .split at h
  .rename_i d;cases h
   let ⟨p,f,j⟩:=NO b.sg b.ty d e
   let ⟨⟨v,w',g',k,i,l,m⟩,h1,h2,h3⟩:=nC b.Uz hf hs o f j
   exact⟨v,w',g',k,m,cP.kQ hs i l h1 h2 h3 (XU d)⟩
  .exact abJ b.sg b.Uz b.ty b.x hf hs o h e
def Ww(s:aY S)(g:Gh)(w:World){ω:Type}(k:V S->aY S->L Nat->O ω)(kp:V S->aY S->O ω)(r:ω):Ending->World->Prop
 |.returned v,b=>∃t c d e,k t c e=Z r∧aH d b (low t) v∧cP e s g w c d b|.panicked chain,b=>∃v t c d,chain=[{v,recovered:=J}]∧kp t c=Z r∧aH d b (low t) v∧cP [] s g w c d b|.outgrown,_=>False
def NT{s:aY S}{o:Nat}:∀{n:Nat},o<n->s.lo<=o->(s.ob.get o).any jL=J->o∈AT s n
 |n+1,c,a,b=>by
  unfold AT;by_cases h:o=n
  .subst h;rw[b,Nn a];exact eI
  .have:=NT (n:=n) (by omega) a b;cases Nl s.lo n&&!((s.ob.get n).any jL)
   .exact this
   .exact g7 _ this
def eC.adT{s':aY S}{g':Gh}{w':World}(hs:aV g (aB s) w)(h:eC s g w s' g' w'):cP (AT s s.aE) s g w {s' with wr:=AT s s.aE++s'.wr,dr:=AT s s.aE++s'.dr} g' w':=by
 have l:jQ g.bh w w':=λb i=>h.ext.heap b (hs.bh b i) (λo _ m=>m.1 i);refine⟨h.rel,h.ext,h.fl,h.lo,h.aE,λo a=>eP _ (h.ug o a),λo a d=>h.same o a λf=>d (eP _ f),λt v q f=>?_,λo a=>fL _ a,λo a=>eP _ (h.Ho o a),λo a=>fL _ a⟩;refine q.on (p:=(AT s s.aE).contains) ⟨λo b _ e=>h.ext.bP o b e,λo e x j k=>h.ext.arr o e x ?_ k,h.ext.bh⟩ l (by rw[Tt];exact f);refine Nat.lt_of_not_le λr=>?_;have c:(s.ob.get o).any jL=J:=by
  cases a:s.ob.get o with
  |none=>rfl|some ob=>
   cases c:jL ob with|false=>exact c|true=>exact(AJ c ((hs.arr o e x k).2 _ (by rw[aI,a];rfl))).elim
 have:=NT (n:=s.aE) (hs.lt' k) r c;rw[abu.2 this]at j;cases j
def Bc(m:fe E){call:fY S}(b:gH E.T.E.P call)(hs:aV g (aB s) w){f:FuncId}{ω:Type}{kp:V S->aY S->O ω}{k:V S->aY S->L Nat->O ω}{r:ω}
  (h:uQ E call s f args kp k=Z r) {vs:Array Value} (d:PW (aH g w) (bq args) vs.toList):lX E.T.E.P f∧Calls E.T.E.P f vs w (Ww s g w k kp r):=by
 unfold uQ at h;split at h
 .rename_i j
  let ⟨a,i⟩:=DP m.sg (m.II _ _ j) hs d h
  refine⟨a,i.mono λe n c=>?_⟩;cases e with|returned v=>exact c|panicked o=>exact c|outgrown=>exact c.elim
 split at h
 .let ⟨a,i⟩:=VX m.sg b.jn hs h d
  refine⟨a,i.mono λe n c=>?_⟩;cases e with|returned v=>exact c|panicked o=>exact c.elim|outgrown=>exact c.elim
 obtain⟨_,h⟩|⟨_,h⟩:=af h
 .let ⟨a,i⟩:=b.jn _ _ _ _ _ _ h g w _ hs d
  refine⟨a,i.mono λe n c=>?_⟩;cases e with
  |returned v=>
   let ⟨t,p,l,h1,h2,h3⟩:=c
   exact⟨t,_,l,_,h1,h2,h3.adT hs⟩
  |panicked o=>obtain⟨v,t,p,l,_,h1,_⟩:=c;cases h1
  |outgrown=>exact c.elim
 .let ⟨a,i⟩:=b.fn _ _ _ _ _ _ h g w _ hs d
  refine⟨a,i.mono λe n c=>?_⟩;cases e with
  |returned v=>
   let ⟨t,p,l,h1,h2,h3⟩:=c
   exact⟨t,p,l,[],h1,h2,h3⟩
  |panicked o=>exact c|outgrown=>exact c.elim
theorem DO{E:eF S}{call:fY S}{s:aY S}{m:String}{args:L (V S)}{n:Nat}{x:den S.A (.de n)}{ω:Type}{kp:V S->aY S->O ω}{k:V S->aY S->L Nat->O ω}{r:ω}:∀{l:L (TypeId×Ty)}{j:Nat},
  Zm E call s m args n x kp k l j=Z r->∃i t f,mj (S.alts n) i (S.uK n x)=W∧((nth (S.alts n) i).elim 0 (·.1))=t∧E.T.KT t m=Z f∧uQ E call s f (.ty (nh (S.alts n) i) (ke S.zero (S.alts n) i (S.uK n x))::args) kp k=Z r
 |[],j,h=>by cases h
 |p::l,j,h=>by
  obtain⟨a,h⟩|⟨_,h⟩:=s8 h
  .split at h
   .obtain ⟨b,h⟩|⟨_,h⟩:=af h
    .grind[Nat.eq_of_beq_eq_true]
    .cases h
   .cases h
  .exact DO h
def Hg:∀(l:L (TypeId×Ty))(i:Nat)(x:yu S.A l),mj l i x=W->uR S l x=Z ((nth l i).elim 0 (·.1),enc S (nh l i) (ke S.zero l i x))
 |[],_,_,h=>by cases h
 |p::l,0,.inl y,_=>rfl|p::l,0,.inr y,h=>by cases h
 |p::l,i+1,.inl y,h=>by cases h
 |p::l,i+1,.inr y,h=>Hg l i y h
theorem yJ{P:Program}{o:Oper}{c:Call}(e:o.op=.call c){d:Operand}(f:c.callee=.value d){a:Act}{b:Nat}(g:a.eval d=.func (.yield b) #[] #[]){w:World}{l:Loop}(hl:w.heap[b]?=Z (.loop l))(hs:(c.args.map a.eval).size=l.params.size) :
  (execOp a.eval o).run P w=.ok (.round b l.fn ((l.params.zip (c.args.map a.eval)).foldl (λtmps(t,a)=>tmps.setIfInBounds t a) l.tmps) l.assign l.body) w:=by
 grind[execOp,resolve,Deferred.ofValue,invoke,run_yield]
theorem IL{E:eF S}(F:fe E){call:fY S}(wK:gH E.T.E.P call){fr:bX S}{s:aY S}{a:Act}(hf:cR g (bB fr) a w)(hs:aV g (aB s) w){o:Oper}{ω:Type}{kp:V S->aY S->O ω}{k:V S->aY S->L Nat->O ω}{r:ω}
  (h:uO E call o fr s kp k=Z r) {K:Act->World->Prop} {Q:Exit->Act->World->Prop} (hK:∀t s' g' ow v w',k t s' ow=Z r->cP ow s g w s' g' w'->aH g' w' (low t) v->K (a.put o.dst v) w')
  (hP:∀t s' g' v w',kp t s'=Z r->cP [] s g w s' g' w'->aH g' w' (low t) v->Q (.panic [{v,recovered:=J}]) a w') (hny:∀c fv oo,o.op=.call c->c.callee=.value fv->cA fr fv≠Z (.rE oo)) :
  o.wp E.T.E.P a w K Q∨(o.asks E.T.E.P a w∧LetsOut Q):=by
 have fin:∀{t:V S}{s':aY S}{v:Value}{w':World}{g':Gh},k t s' []=Z r->((execOp a.eval o).run E.T.E.P w=.ok (.value v) w'∨((execOp a.eval o).run E.T.E.P w=.ok .skip w'∧v=undef))->aH g' w' (low t) v->cP [] s g w s' g' w'->o.wp E.T.E.P a w K Q:=by
  intro t s' v w' g' hk R ht b;unfold Oper.wp;obtain R|⟨R,rfl⟩:=R
  .rw[R];exact hK t s' g' [] v w' hk b ht
  .rw[R];exact hK t s' g' [] undef w' hk b ht
 have plain:(match iF E.T fr s o.op with
   |some (Wd,p,d,s')=>yW (λv s=>k v s []) (aT p (k d s' [])) Wd|none=>match AN E.T fr s o.op with
    |none=>Y|some (p,t,s')=>aT p (k t s' []))=Z r->o.wp E.T.E.P a w K Q:=by
  intro h;split at h
  .rename_i p d s' B
   let ⟨t,s1,v,w',g',h1,h2,h3,h4,_⟩:=Tm F.Uz F.x hf hs o B (X:=λv s=>k v s []) h
   grind
  grind[oA,Tl]
 have called:∀{f:FuncId}{args:L (V S)}{vs:Array Value},uQ E call s f args kp k=Z r->PW (aH g w) (bq args) vs.toList->(lX E.T.E.P f->(execOp a.eval o).run E.T.E.P w=.ok (.enter f vs) w)->o.wp E.T.E.P a w K Q:=by
  intro f args vs h I hrun
  let ⟨Oh,hc⟩:=Bc F wK hs h I
  unfold Oper.wp;rw[hrun Oh];refine hc.mono λe w' he=>?_;cases e with
  |returned v=>
   let ⟨t,s',g',ow,h1,h2,h3⟩:=he
   grind
  |panicked ch=>
   obtain⟨v,t,s',g',rfl,h1,h2,h3⟩:=he
   grind
  |outgrown=>exact he.elim
 unfold uO at h;split at h
 .rename_i c B;split at h
  .cases h
  .rename_i args A;have P:=gU A;have oL:=eT hf P;split at h
   .rename_i hb;split at h
    .cases h
    .rename_i t s' C
     let ⟨hp,hk⟩:=oA h
     unfold lG at C;split at C
     .rename_i r0 h0;cases C;exact HC F.sg F.Uz F.env F.ty hf hs B hb A h0 hp (λg' v w' b ht=>hK t s' g' [] v w' hk b ht)
     split at C
     .rename_i r0 h0;cases C
      let ⟨q,hq,hqp⟩:=yV F.sg F.ty h0 hp
      refine yU F.env hf hs B hb P hq hqp (k:=λt' st'=>t'=low t∧st'=aB s') ⟨rfl,rfl⟩ (λt' st' g' v w' he b ht=>?_);obtain⟨rfl,rfl⟩:=he;exact hK t s' g' [] v w' hk (cP.kQ hs b.rel b.ext b.fl b.lo b.aE (IP h0)) ht
     .split at C
      .rename_i h0;cases C;obtain⟨rfl,v,R,ht⟩:=Br F.x hs hf B hb A h0
       grind[cP.refl]
      .let ⟨v,w',g',R,ht,b⟩:=LI F.x hs hf B hb A C
       grind
   .rename_i fv hfv;split at h
    .simp_all[aii]
    split at h
    .cases h
    .rename_i f args' hfa
     left
     simp[vP]at hfa
     let ⟨tf,htf,Ll⟩:=hfa
     have YE:=bR hf (cz htf);have z:=r6 Ll;unfold xY at z;split at z
     .rename_i N9
      simp only[gK,fh]at z;obtain⟨rfl,agz⟩:=z;rw[N9]at YE;generalize hvf:a.eval fv=vf at YE;cases YE with
      |fn _ _ _ va vc l1 l2 r1 r2=>
      have I:PW (aH g w) (bq args') (va++c.args.map a.eval++vc).toList:=by rw[<-agz];simp only[UY,S8];exact PW.append (PW.append ⟨by simpa using l1,λj x y h1 h2=>r1 j x y h1 (by simpa using h2)⟩ oL) ⟨by simpa using l2,λj x y h1 h2=>r2 j x y h1 (by simpa using h2)⟩
      grind[Az]
     .cases z
   .rename_i x m hxm;have inv:∀{tt:TypeId}{f:FuncId}{tv:V S}{u:Value},a.eval x=.iface tt u->aH g w (low tv) u->E.T.KT tt m=Z f->uQ E call s f (tv::args) kp k=Z r->o.wp E.T.E.P a w K Q:=by
     intro tt f tv u hv hu hm h;have I:PW (aH g w) (bq (tv::args)) (#[u]++c.args.map a.eval).toList:=by
      simp only[UY,S8];exact PW.append (l:=[low tv]) (m:=[u]) ⟨rfl,λj x y h1 h2=>by
       grind⟩ oL
     exact called h I (λOh=>M3 F.x B hxm hv hm Oh)
    split at h
    .rename_i tt tv hx;split at h
     .rename_i f hm;have R:=bR hf (cz hx);generalize hv:a.eval x=v at R;cases R with|de _ _ u hu=>grind
     .cases h
    .rename_i n y hx
     let ⟨i,t,f,h1,h2,h3,h4⟩:=DO h
     have he:=Hg _ _ _ h1;obtain⟨he',_⟩|⟨t',d,u,he',hv,hd⟩:=EV F.sg (show aH g w (ec S (.de n) y) (a.eval x)from cS hf hx)
     .simp_all
     .rw[he']at he;simp at he;obtain⟨ht,rfl⟩:=he;rw[h2]at ht;subst ht;exact .inl (inv (tv:=.ty (nh (S.alts n) i) (ke S.zero (S.alts n) i (S.uK n y))) hv (uo hd) h3 h4)
    .cases h
 .rename_i x B;split at h
  .rename_i tt tv hx
   left
   have R:=bR hf (cz hx);unfold Oper.wp;generalize hv:a.eval x=v at R;cases R with
   |de _ _ u hu=>
   have:(execOp a.eval o).run E.T.E.P w=.halt (.panic (.iface tt u)) w:=by
    simp_all[execOp,Instr.panic]
   rw[this];exact hP _ _ g _ w h (cP.refl hs) (by exact .de _ _ _ hu)
  .cases h
 grind
theorem A9{E:eF S}(R:fe E){call:fY S}(f:gH E.T.E.P call){fr:bX S}{s:aY S}{a:Act}(hf:cR g (bB fr) a w)(hs:aV g (aB s) w){o:Oper}{ω:Type}{kp:V S->aY S->O ω}{k:V S->aY S->L Nat->O ω}{r:ω}
  (h:uO E call o fr s kp k=Z r) {K:Act->World->Prop} {Q:Exit->Act->World->Prop} (F:∀t s' g' ow v w',k t s' ow=Z r->cP ow s g w s' g' w'->aH g' w' (low t) v->K (a.put o.dst v) w')
  (hP:∀t s' g' v w',kp t s'=Z r->cP [] s g w s' g' w'->aH g' w' (low t) v->Q (.panic [{v,recovered:=J}]) a w') {rr:O Nat} (B:rr≠Y->∀c,o.op≠.defer c) :
  OpR rr E.T.E.P o a w K Q:=by
 by_cases I:∃c q A,o.op=.call c∧c.callee=.value q∧cA fr q=Z (.rE A);rotate_left
 .exact .of_wp B (IL R f hf hs h F hP λc q A h1 h2 h3=>I ⟨c,q,A,h1,h2,h3⟩)
 let ⟨c,q,A,i,j,u⟩:=I
 unfold uO at h;rw[i]at h;dsimp only at h;split at h
 .cases h
 rename_i args m;rw[j]at h;dsimp only at h;rw[u]at h;have x:=eT hf (gU m);have y:=bR hf (cz u);generalize z:a.eval q=vf at y;cases y with
 |rE _ b P=>
 obtain⟨_,h⟩|⟨_,h⟩:=af h
 .let ⟨l,C,n,d⟩:=f.yd _ _ _ _ _ _ h g w (c.args.map a.eval) b hs (by simpa using x) P
  left
  rw[Oper.semAt_eq _ _ _ (by simp_all),yJ i j z C n];refine⟨λh=>by simp[Fence.wide]at h,(d rr _).mono λe w' p=>?_⟩;cases e with
  |returned v=>
   let ⟨t,s',g',h1,h2,h3⟩:=p
   exact F _ _ _ _ _ _ h1 (h3.adT hs) h2
  |panicked ch=>obtain⟨v,t,s',g',rfl,h1,h2,h3⟩:=p;cases h1
  |outgrown=>exact p.elim
 let ⟨l,C,n,d⟩:=f.yl _ _ _ _ _ _ h g w (c.args.map a.eval) b hs (by simpa using x) P
 left
 rw[Oper.semAt_eq _ _ _ (by simp_all),yJ i j z C n];refine⟨λh=>by simp[Fence.wide]at h,(d rr _).mono λe w' p=>?_⟩;cases e with
 |returned v=>
  let ⟨t,s',g',h1,h2,h3⟩:=p
  grind
 |panicked ch=>
  obtain⟨v,t,s',g',rfl,h1,h2,h3⟩:=p
  grind
 |outgrown=>exact p.elim
mutual
theorem tH:∀(s:aY S)(t:Ty)(v:V S){x:den S.A t}{os:L Nat},vT v=W->bU s t v=Z (x,os)->os=[]
 |s,t,.ty u y,x,os,_,h=>by
  grind[bU]
 |s,t,.agg e,x,os,c,h=>by
  cases t with
  |st n=>
   simp[bU]at h;split at h
   .rename_i f g;obtain⟨_,rfl⟩:=h;exact Jq s _ e c g
   .cases h
  |_=>simp[bU]at h
 |s,t,.kb b,x,os,_,h=>by
  cases t<;>simp[bU]at h
  simp_all
 |s,t,.kn k n,x,os,_,h=>by
  cases t<;>simp only[bU]at h<;>try(cases h;done)
  grind
 |s,t,.emp,x,os,_,h=>by
  cases t<;>simp[bU]at h
  simp_all
 |s,t,.kr n u l,x,os,_,h=>by
  cases t<;>simp only[bU]at h<;>try(cases h;done)
  grind
 |s,t,.pW n u y,x,os,_,h=>by
  cases t<;>simp only[bU]at h<;>try(cases h;done)
  grind
 |s,t,.sx _ _ _ _,x,os,c,_=>by simp[vT]at c
 |s,t,.sh _ _,x,os,c,_=>by simp[vT]at c
 |s,t,.dat d,x,os,_,h=>by
  cases t with
  |de n=>
   cases d with
   |lit v=>cases v<;>simp[bU]at h;simp_all
   |_=>simp[bU]at h
  |opt n=>
   cases d with
   |lit v=>cases v with
    |pointer a=>cases a<;>simp[bU]at h;simp_all
    |_=>simp[bU]at h
   |_=>simp[bU]at h
  |_=>simp[bU]at h
 |s,t,.mp _,_,_,_,h=>by cases t<;>simp[bU]at h
 |s,t,.rE _,_,_,_,h=>by cases t<;>simp[bU]at h
 |s,t,.uj _,_,_,_,h=>by cases t<;>simp[bU]at h
 |s,t,.ub _,_,_,_,h=>by cases t<;>simp[bU]at h
 |s,t,.ptr _ _,_,_,_,h=>by cases t<;>simp[bU]at h
 |s,t,.lR _ _ _,_,_,_,h=>by cases t<;>simp[bU]at h
 |s,t,.lQ _ _ _ _,_,_,_,h=>by cases t<;>simp[bU]at h
 |s,t,.fn _ _ _,_,_,_,h=>by cases t<;>simp[bU]at h
 |s,t,.de u v,x,os,c,h=>by
  cases t<;>simp only[bU]at h<;>try(cases h;done)
  split at h
  .split at h
   .rename_i i;obtain⟨_,rfl⟩:=h;exact tH s _ v c i
   .cases h
  .cases h
 |s,t,.gM _,_,_,_,h=>by cases t<;>simp[bU]at h
 |s,t,.gd _ _,_,_,_,h=>by cases t<;>simp[bU]at h
theorem Jq:∀(s:aY S)(ts:L Ty)(l:L (V S)){h:lP S.A ts}{os:L Nat},jN l=W->nY s ts l=Z (h,os)->os=[]
 |s,[],[],x,os,_,h=>by grind[nY]
 |s,t::ts,v::l,x,os,a,h=>by
  simp[nY]at h;split at h
  .rename_i b c;obtain⟨_,rfl⟩:=h;simp[jN,eZ]at a;rw[tH s t v a.1 b,Jq s ts l a.2 c];rfl
  .cases h
 |s,[],_::_,_,_,_,h=>by simp[nY]at h
 |s,_::_,[],_,_,_,h=>by simp[nY]at h
end
end
end
section
def qI:Op->Bool
 |.alloc _|.box ..|.store ..|.buildSlice ..|.slice ..|.makeMap ..|.mapUpdate ..|.insert ..|.makeSlice ..|.range ..|.next ..|.defer ..=>W|_=>J
theorem QI{E:fX}{fr:bX S}{s s':aY S}{o:Op}{c:Bool}{v:V S}(h:cF E fr s o=Z (c,v,s'))(d:qI o=J):s'=s:=by
 cases o with
 |alloc=>cases d
 |box=>cases d
 |store=>cases d
 |buildSlice=>cases d
 |slice=>cases d
 |move x=>simp only[cF,fM,fh]at h;grind|assign x=>simp only[cF,fM,fh]at h;grind|pick x y z=>
  simp[cF]at h;split at h
  .simp only[fM,fh]at h;grind
  .cases h
 |build t e=>
  simp[cF]at h;split at h
  .split at h
   .simp only[fM,fh]at h;grind
   .cases h
  .cases h
 |load t x=>
  simp[cF]at h;split at h
  .unfold yO at h;split at h
   .split at h
    .obtain ⟨_,h⟩|⟨_,h⟩:=af h
     .simp only[fM,fh]at h;grind
     .cases h
    .cases h
   .simp only[fM,fh]at h;grind
   .split at h
    .simp at h;grind
    .cases h
   .cases h
  .cases h
 |nilCheck x=>
  simp[cF]at h
  grind
 |binOp op t x y u=>
  simp[cF]at h;split at h
  .simp only[fM,fh]at h;grind
  .cases h
 |unOp op t x=>
  simp[cF]at h;split at h
  .simp only[fM,fh]at h;grind
  .cases h
 |convert t u x=>
  grind[cF,CI]
 |makeInterface t x=>
  simp[cF]at h
  grind
 |makeFunc f a b=>
  simp[cF]at h
  grind
 |extract x k=>
  grind[cF,uN]
 |fieldAddr t x k=>
  grind[cF,qU]
 |field t x k=>
  simp[cF]at h;split at h
  .unfold Cw at h;split at h
   .split at h
    .obtain ⟨_,h⟩|⟨_,h⟩:=af h
     .simp only[fM,fh]at h;grind
     .cases h
    .cases h
   .cases h
  .cases h
 |indexAddr t x y=>
  simp[cF]at h;split at h
  .unfold j6 at h;split at h
   .grind
   .have:=DY h
    grind
   .cases h
  .cases h
 |index t x y=>
  simp[cF]at h;split at h
  .unfold Cn at h
   grind
  .cases h
 |typeAssert x t u ok=>
  grind[cF,xd]
 |_=>simp[cF]at h
theorem Va{E:fX}{fr:bX S}{s s':aY S}{o:Op}{c:Bool}{v:V S}(h:uh E fr s o=Z (c,v,s'))(a:qI o=J):s'=s:=by
 unfold uh at h;split at h
 .cases a
 .grind
 .cases a
 .cases a
 .cases a
 .cases a
 .grind
 .grind
 .grind
 .grind
 .grind
 .grind
 .grind
 .split at h;rotate_left
  .cases h
  split at h;rotate_left
  .cases h
  simp only[fM,fh]at h
  grind
 .cases h
theorem Vd{E:fX}{fr:bX S}{s s':aY S}{o:Op}{c:Bool}{v:V S}(h:BL E fr s o=Z (c,v,s'))(a:qI o=J):s'=s:=by
 unfold BL at h;split at h
 .grind
 .split at h
  .split at h
   .split at h
    .obtain ⟨_,h⟩|⟨_,h⟩:=af h
     .obtain ⟨_,h⟩|⟨_,h⟩:=af h
      .grind
      .obtain ⟨_,h⟩|⟨_,h⟩:=af h
       .simp at h;grind
       .cases h
     .cases h
    .cases h
   .cases h
  .cases h
 .cases a
 .cases a
 .cases a
 .cases h
theorem Vc{E:fX}{fr:bX S}{s s':aY S}{o:Op}{c:Bool}{v:V S}(h:AN E fr s o=Z (c,v,s'))(a:qI o=J):s'=s:=by
 grind[AN,Vd,QI,Va]
theorem EO{E:fX}{fr:bX S}{s:aY S}{o:Op}(h:uh E fr s o=Y)(hn:BL E fr s o=Y):AN E fr s o=cF E fr s o:=by
 grind[AN]
def T9{ω:Type}(k:V S->O ω)(d:O ω):∀l:L (Bool×V S×aY S),xg k d l=yW (λv _=>k v) d l
 |[]=>rfl|p::l=>by simp[xg,yW,T9 k d l]
theorem Gb{l:L (Nat×V S)}(h:jN (l.map (·.2))=W):∀p∈l,vT p.2=W:=by
 induction l with
 |nil=>simp_all|cons a l b=>
  simp[pG,jN,eZ]at h
  grind
theorem CD{s:aY S}{e:Ty}:∀{ps:L (Nat×V S)}{es r:L (den S.A e)}{os:L Nat},(∀p∈ps,vT p.2=W)->oP s e es ps=Z (r,os)->os=[]
 |[],es,r,os,_,h=>by grind[oP]
 |(k,v)::ps,es,r,os,a,h=>by
  simp[oP]at h;split at h
  .cases h
  .rename_i b;obtain⟨_,h⟩|⟨_,h⟩:=af h
   .split at h
    .rename_i c;obtain⟨_,rfl⟩:=h;rw[tH s e v (a _ eI) b,CD (λp d=>a p (g7 _ d)) c];rfl
    .cases h
   .cases h
theorem CO{E:fX}{fr:bX S}{s s':aY S}{t:TypeId}{n:Nat}{ps:Array (Nat×Operand)}{l:L (Nat×V S)}{c:Bool}{v:V S}(hl:iU fr ps.toList=Z l)(hn:jN (l.map (·.2))=W)
  (h:AN E fr s (.buildSlice t n ps)=Z (c,v,s')):s'=s:=by
 cases a:BL E fr s (.buildSlice t n ps)with
 |some r=>
  simp[AN,a,gK]at h;simp[BL]at a;split at a
  .rename_i b;split at a
   .rename_i i j f _ _ g;split at a
    .split at a
     .obtain ⟨_,a⟩|⟨_,a⟩:=af a
      .split at a
       .rename_i os k;have d:l=[(0,.agg f)]:=by
         grind[iU,cA]
        subst d;simp[pG,List.map_nil,jN,Dt]at hn
        grind[tH,dU]
       .cases a
      .cases a
     .cases a
    .cases a
   .cases a
  .grind
  .cases a
 |none=>
 rw[EO rfl a]at h;simp only[cF]at h;split at h
 .rename_i _ _ b;rw[hl]at b;cases b;split at h
  .obtain ⟨_,h⟩|⟨_,h⟩:=af h
   .split at h
    .rename_i e;have:=CD (Gb hn) e
     grind[dU]
    .cases h
   .cases h
  .cases h
 .cases h
variable {E:fX}{fr:bX S}{s:aY S}{args:List (V S)}
def Cb{t:TypeId}{x:Operand}{lo hi a:O Operand}{u:V S}(hl:cA fr x=Z u)(hn:vT u=W):BL E fr s (.slice t x lo hi a)=Y:=by
 cases lo<;>cases hi<;>cases a<;>first
  |rfl|(
    simp only[BL,hl];split
    .rename_i h2 _;cases h2;simp[vT]at hn
    .rfl)
theorem MS{E:fX}{fr:bX S}{s s':aY S}{t:TypeId}{x:Operand}{lo hi b:O Operand}{u:V S}{c:Bool}{v:V S}(hl:cA fr x=Z u)(hn:vT u=W)
  (h:AN E fr s (.slice t x lo hi b)=Z (c,v,s')):s'=s:=by
 rw[EO rfl (Cb hl hn)]at h;simp[cF]at h;split at h
 .rename_i a _ _ _;rw[hl]at a;cases a;obtain rfl|h:=Fo h
  .rfl
  .have:NL u=[]:=by cases u<;>first|rfl|simp[vT]at hn
   grind[dU]
 .cases h
theorem Dw{s:aY S}:∀{ps:L Pk}{l:L (V S)}{x:ga S.A ps}{fz ow bs:L Nat},ct ps=W->jN l=W->eD s ps l Y=Z (x,fz,ow,bs)->fz=[]∧ow=[]∧bs=[]
 |[],[],x,fz,ow,bs,_,_,h=>by
  grind[eD]
 |.one (.dat t)::ps,v::l,x,fz,ow,bs,a,c,h=>by
  simp[eD]at h;simp[jN,eZ]at c;split at h
  .rename_i b d;obtain⟨_,rfl,rfl,rfl⟩:=h;obtain⟨rfl,rfl,rfl⟩:=Dw (by simpa[ct]using a) c.2 d;simp[o4]at b;split at b
   .rename_i e;obtain⟨_,rfl,rfl⟩:=b;rw[tH s t v c.1 e]
    simp_all
   .cases b
  .cases h
 |.one (.own _)::_,_,_,_,_,_,a,_,_=>by simp[ct]at a
 |.one (.j3 ..)::_,_,_,_,_,_,a,_,_=>by simp[ct]at a
 |.one (.nil _)::_,_,_,_,_,_,a,_,_=>by simp[ct]at a
 |.one (.ptr _)::_,_,_,_,_,_,a,_,_=>by simp[ct]at a
 |.box _::_,_,_,_,_,_,a,_,_=>by simp[ct]at a
 |.hid _::_,_,_,_,_,_,a,_,_=>by simp[ct]at a
 |[],_::_,_,_,_,_,_,_,h=>by simp[eD]at h
 |.one _::_,[],_,_,_,_,_,_,h=>by simp[eD]at h
def FP{s:aY S}:∀{ps:L Pk}(r:iz S.A ps),ct ps=W->l6 s ps [] r=Z s
 |[],_,_=>rfl|.one (.dat t)::ps,r,h=>by exact FP (ps:=ps) r (by simpa[ct]using h)
 |.one (.own _)::_,_,a=>by simp[ct]at a
 |.one (.j3 ..)::_,_,a=>by simp[ct]at a
 |.one (.nil _)::_,_,a=>by simp[ct]at a
 |.one (.ptr _)::_,_,a=>by simp[ct]at a
 |.box _::_,_,a=>by simp[ct]at a
 |.hid _::_,_,a=>by simp[ct]at a
def ME{s:aY S}:∀{cs:L Ck}(x:gx S.A cs),jI cs=W->ig s cs x=(tS cs x,s)
 |[],_,_=>rfl|.dat t::cs,x,h=>by simp only[ig,vX,tS];rw[ME (cs:=cs) x.2 (by simpa[jI]using h)]
 |.own _::_,_,h=>by simp[jI]at h
 |.j3 ..::_,_,h=>by simp[jI]at h
 |.nil _::_,_,h=>by simp[jI]at h
 |.ptr _::_,_,h=>by simp[jI]at h
def GJ:∀{ps:L Pk},ct ps=W->YT ps=J
 |[],_=>rfl|.one (.dat t)::ps,h=>GJ (ps:=ps) (by simpa[ct]using h)
 |.one (.own _)::_,a=>by simp[ct]at a
 |.one (.j3 ..)::_,a=>by simp[ct]at a
 |.one (.nil _)::_,a=>by simp[ct]at a
 |.one (.ptr _)::_,a=>by simp[ct]at a
 |.box _::_,a=>by simp[ct]at a
 |.hid _::_,a=>by simp[ct]at a
def Oz(hn:s.aE<=bC){c:lz S}(h1:ct c.ps=W)(h2:jI c.rs=W)(h3:jN args=W){x:ga S.A c.ps}{fz ow bs:L Nat}(b:eD s c.ps args Y=Z (x,fz,ow,bs))
  {d:RT c.pn (gx S.A c.rs×iz S.A c.ps) (den S.A S.pt×iz S.A c.ps)} {r:gx S.A c.rs×iz S.A c.ps} (f:c.F x=Z d) (g:RT.res c.pn d=.ok r):OA s c args (λ_ _=>Y) (λt s' ow=>Z (t,s',ow))=Z (Ef (tS c.rs r.1),s,[]):=by
 obtain⟨rfl,rfl,rfl⟩:=Dw h1 h3 b;have a:Nl s.aE bC=W:=Nn hn;unfold OA;rw[GJ h1];simp only[jo];rw[b];simp only[dU];cases Yh c with
 |true=>simp[gY,f,ah,g]|false=>
 simp[jo,sw,CR,List.all_nil,No,gY,f,ah,Nw,g];have e:yS [] (forget [] s)=s:=rfl;rw[e,FP _ h1];simp[ME _ h2,a,gY]
def Ze(g:O Bool):Prop:=g=Y∨g=Z W
def JJ{α:Type}{g:O Bool}{p:Bool}{x:O α}{r:α}(a:Ze g)(h:zJ g p x=Z r):p=W∧x=Z r:=by
 obtain rfl|rfl:=a
 .exact oA h
 .exact oA h
def acR{α:Type}{g:O Bool}{x:O α}{z:α}(a:Ze g):akR g x z=x:=by obtain rfl|rfl:=a<;>rfl
section
variable {g:Gh}{w:World}
def LH(A:PB E.E){s':aY S}{a:Act}(hf:cR g (bB fr) a w)(hs:aV g (aB s) w){o:Oper}{f:Call}(B:o.op=.call f)(hb:f.callee=.builtin .len)(b:jY fr f.args.toList=Z args){c:Bool}{t:V S}
  (h:mR E s .len f.argTypes args=Z (c,t,s')):∃v,(execOp a.eval o).run E.E.P w=.ok (.value v) w∧aH g w (low t) v:=by
 have k:=eT hf (gU b);unfold mR at h;split at h
 .rename_i d r _;split at h;rotate_left
  .cases h
  rename_i n j l era m gX hole C;split at h;rotate_left
  .cases h
  rename_i i n' hi Li;split at h;rotate_left
  .cases h
  rename_i F;obtain⟨q,I⟩|⟨_,I⟩:=af h
  rotate_left
  .cases I
  simp only[eZ]at q;have K:=beq_iff'.1 q.1;subst K;obtain⟨_,rfl,rfl⟩:=I;have P:aH g w (.sh d r) ((f.args.toList.map a.eval)[0]'(by have:=k.1;simp[bq]at this;simp;omega)):=k.2 0 _ _ rfl (iR _)
  let ⟨xs,u,_⟩:=Fs P
  have R:d<bC:=iO (hs.lt' u) hs.aE
  let ⟨z,h1,h2,h3,h4⟩:=I3 hs C u
  have x:(lits j (l.map (enc S (.st n))) z).length=l.length:=by rw[oa (by simpa using h1)];simp
  let ⟨_,v,y,ht⟩:=Yi A hf h4 B hb (gU b) (p:=True) (t:=.sym (.lit (.int .i64 (eH (lits j (l.map (enc S (.st n))) z))))) (s':=lZ s d (.arr (S.width (.st n)) (lits j (l.map (enc S (.st n))) z) r)) (by
   have hi':(nth f.argTypes.toList 0).bind E.E.ti=Z i:=hi;simp only[bq,low,fH,Aq,hi',F,BS];rw[gC R,bw rfl];simp) trivial
  refine⟨v,y,?_⟩;have e:eH (lits j (l.map (enc S (.st n))) z)=av l:=by simp[eH,x,av]
  rw[e]at ht;exact ht
 .rename_i h0;exact Builtin.noConfusion h0
 .rename_i h0;exact Builtin.noConfusion h0
 .cases h
theorem sG{E:eF S}(I:fe E){fr:bX S}{s:aY S}{a:Act}(hf:cR g (bB fr) a w)(hs:aV g (aB s) w){o:Oper}{gd:O Bool}(hg:Ze gd){ω:Type}{k:V S->O ω}{r:ω}
  (h:fD E gd fr s o k=Z r) {K:Act->World->Prop} {Q:Exit->Act->World->Prop} (hK:∀t g' v w',k t=Z r->cP [] s g w s g' w'->aH g' w' (low t) v->K (a.put o.dst v) w') :
  o.wp E.T.E.P a w K Q:=by
 have plain:∀{c:Bool}{t:V S}{s':aY S},AN E.T fr s o.op=Z (c,t,s')->s'=s->zJ gd c (k t)=Z r->o.wp E.T.E.P a w K Q:=by
  intro c t s' f hss h9;subst hss
  let ⟨hp,P⟩:=JJ hg h9
  let ⟨v,w',g',C,ht,wL⟩:=Tl I hf hs o f hp
  unfold Oper.wp;obtain C|⟨C,rfl⟩:=C
  .rw[C];exact hK t g' v w' P wL ht
  .rw[C];exact hK t g' undef w' P wL ht
 unfold fD at h;split at h
 .rename_i c f;split at h
  .cases h
  .rename_i args A;have B:=gU A;split at h
   .rename_i b hb;obtain⟨hqb,h⟩|⟨_,h⟩:=af h
    rotate_left
    .cases h
    split at h
    .rename_i p t s' m
     let ⟨hp,P⟩:=JJ hg h
     unfold lG at m;split at m
     .rename_i r0 h0;cases m;cases b with
      |len=>
       let ⟨v,F,ht⟩:=LH I.env hf hs f hb A h0
       unfold Oper.wp;rw[F];exact hK t g v w P (cP.refl hs) ht
      |append=>cases hqb
      |_=>simp[mR]at h0
     split at m
     .rename_i r0 h0;cases m
      let ⟨q,hq,hqp⟩:=yV I.sg I.ty h0 hp
      cases b with
      |len=>
       let ⟨hss,v,F,ht⟩:=Yi I.env hf hs f hb B hq hqp
       unfold Oper.wp;rw[F];exact hK t g v w P (cP.refl hs) ht
      |max=>simp[ie]at h0|min=>simp[ie]at h0|_=>cases hqb
     split at m
     .rename_i h0;cases m;obtain⟨rfl,v,C,ht⟩:=Br I.x hs hf f hb A h0;unfold Oper.wp;rw[C];exact hK t g v w P (cP.refl hs) ht
     .cases b<;>first|(cases hqb;done)|(simp[tY]at m)
    .cases h
   .rename_i fv hfv;split at h
    .cases h
    .rename_i args' hfa;split at h
     .cases h
     .rename_i aqI;obtain⟨l,h⟩|⟨_,h⟩:=af h
      .simp only[eZ]at l;split at h
       .rename_i x _ _ _ b hpk hnb
        let ⟨rr,hF,P⟩:=iy h
        rw[acR hg]at hF;split at P;rotate_left
        .cases P
        rename_i r1 hr1;have hq:=Oz hs.aE l.1 l.2.1 l.2.2.1 hpk hF hr1;simp[vP]at hfa
        let ⟨tf,htf,Ll⟩:=hfa
        have YE:=bR hf (cz htf);have oL:=eT hf B;have i:=r6 Ll;unfold xY at i;split at i
        .rename_i N9
         simp only[gK,fh]at i;obtain⟨rfl,R⟩:=i;rw[N9]at YE;generalize hvf:a.eval fv=vf at YE;cases YE with
         |fn _ _ _ va vc l1 l2 r1 r2=>
         have hall:PW (aH g w) (bq args') (va++c.args.map a.eval++vc).toList:=by rw[<-R];simp only[UY,S8];exact PW.append (PW.append ⟨by simpa using l1,λj x y h1 h2=>r1 j x y h1 (by simpa using h2)⟩ oL) ⟨by simpa using l2,λj x y h1 h2=>r2 j x y h1 (by simpa using h2)⟩
         let ⟨Oh,hc⟩:=DP I.sg (I.II _ _ aqI) hs hall hq
         unfold Oper.wp;rw[Az f hfv hvf Oh];refine hc.mono λe w' he=>?_
         grind
        .cases i
       .cases h
      .cases h
   .cases h
 iterate 11
  .cases h
 .rename_i t n ps f;split at h
  .obtain ⟨hn,h⟩|⟨_,h⟩:=af h
   .grind[CO]
   .cases h
  .cases h
 .rename_i t x lo hi mx f;split at h
  .rename_i v hv;obtain⟨hn,h⟩|⟨_,h⟩:=af h
   .grind[MS]
   .cases h
  .cases h
 all_goals try(cases h;done)
 rename_i op h1 h2 h3 h4 h5 h6 h7 h8 h9 h10 h11 h12 h13 h14;have hmv:qI o.op=J:=by cases f:o.op with|store x y z=>simp_all|alloc x=>simp_all|box x y=>simp_all|makeMap x y=>simp_all|mapUpdate x y z u=>grind|insert x y z u=>grind|makeSlice x y z=>simp_all|range x y=>simp_all|next x y=>simp_all|defer x=>simp_all|buildSlice x y z=>simp_all|slice x y z u v=>grind|_=>rfl
 split at h
 .rename_i Wd p d s' f;have hx:yW (λv _=>k v) (aT p (k d)) Wd=Z r:=by
   rw[<-T9];obtain rfl|rfl:=hg
   .exact h
   .simpa[zJ,imp]using h
  let ⟨t,s1,v,w',g',k1,k2,k3,k4,k5⟩:=Tm I.Uz I.x hf hs o f (X:=λv _=>k v) hx
  have:s1=s:=k5 λit b hh=>by simp_all
  subst this;unfold Oper.wp;obtain C|⟨C,rfl⟩:=k2
  .rw[C];exact hK t g' v w' k1 k4 k3
  .rw[C];exact hK t g' undef w' k1 k4 k3
 grind[Vc]
theorem HI{ω:Type}{k:V S->O ω}{d:O ω}{r:ω}:∀{l:L (Bool×V S×aY S)},xg k d l=Z r->(∃t,k t=Z r)∨d=Z r
 |[],h=>.inr h|p::l,h=>by
  obtain⟨_,h⟩|⟨_,h⟩:=s8 h
  .grind
  .exact HI h
theorem Lv{E:eF S}{fr:bX S}{s:aY S}{o:Oper}{ω:Type}{k:V S->O ω}{r:ω}(h:fD E (Z J) fr s o k=Z r):∃t,k t=Z r:=by
 have a:∀{p:Bool}{x:O ω},zJ (Z J) p x=Z r->x=Z r:=λh=>(oA h).2;unfold fD at h;split at h
 .split at h
  .cases h
  .split at h
   .grind
   .split at h
    .cases h
    .split at h
     .cases h
     .obtain ⟨_,h⟩|⟨_,h⟩:=af h
      .split at h
       .let ⟨b,_,c⟩:=iy h
        grind
       .cases h
      .cases h
   .cases h
 iterate 11
  .cases h
 .grind
 .grind
 .split at h
  .obtain h|h:=HI h
   .exact h
   grind
  grind
end
end
section
def sI(p:Nat->Bool):sU S->Bool
 |.call f args=>cG p f||args.any (cG p)|.mark o=>cG (S:=S) p (.ptr o 0)|.marks o=>cG (S:=S) p (.sh o 0)|.ko=>W|.bad=>W
theorem ov{p q:Nat->Bool}(h:∀o,p o=W->q o=W):∀d:sU S,sI p d=W->sI q d=W
 |.call f args,a=>by
  simp[sI,oG,S7]at a ⊢
  grind[ek]
 |.mark o,a=>h o a|.marks o,a=>h o a|.ko,_=>rfl|.bad,_=>rfl
inductive p7(p:Nat->Bool):List (sU S)->List (sU S)->Prop where
 |nil:p7 p [] []|cons {d e:sU S} {l m:List (sU S)} (h:e=d∨(((e=.bad∧d.one=W)∨(e=.ko∧d.one=J))∧sI p d=W)) (t:p7 p l m):p7 p (d::l) (e::m)
theorem p7.refl(p:Nat->Bool):∀l:L (sU S),p7 p l l
 |[]=>.nil|_::l=>.cons (.inl rfl) (p7.refl p l)
theorem p7.mono{p q:Nat->Bool}(h:∀o,p o=W->q o=W){l m:L (sU S)}(k:p7 p l m):p7 q l m:=by
 induction k with|nil=>exact .nil|cons c _ d=>exact .cons (c.imp id λ⟨a,b⟩=>⟨a,ov h _ b⟩) d
def p7.trans{p:Nat->Bool}:∀{l m n:L (sU S)},p7 p l m->p7 p m n->p7 p l n
 |_,_,_,.nil,.nil=>.nil|_,_,_,.cons h t,.cons a b=>by
  refine .cons ?_ (t.trans b);obtain rfl|⟨⟨rfl,h1⟩|⟨rfl,h1⟩,h⟩:=h
  .exact a
  .obtain rfl|⟨⟨rfl,_⟩|⟨rfl,h2⟩,_⟩:=a
   .simp_all
   .simp_all
   .cases h2
  .obtain rfl|⟨⟨rfl,h2⟩|⟨rfl,_⟩,_⟩:=a
   .simp_all
   .cases h2
   simp_all
theorem p7.split{p:Nat->Bool}:∀{a b m:L (sU S)},p7 p (a++b) m->∃c d,m=c++d∧p7 p b d
 |[],_,m,h=>⟨[],m,rfl,h⟩|_::_,_,_,.cons _ t=>by
  let ⟨c,d,h1,h2⟩:=t.split
  grind
theorem p7.len{p:Nat->Bool}{l m:L (sU S)}(h:p7 p l m):m.length=l.length:=by
 induction h with|nil=>rfl|cons _ _ a=>simp[a]
def yC(p:Nat->Bool)(l m:L (sU S)):Prop:=∃c d,m=c++d∧p7 p l d
theorem yC.refl(p:Nat->Bool)(l:L (sU S)):yC p l l:=⟨[],l,rfl,.refl p l⟩
theorem p7.ok{p:Nat->Bool}{l m:L (sU S)}(h:p7 p l m):yC p l m:=⟨[],m,rfl,h⟩
theorem yC.mono{p q:Nat->Bool}(h:∀o,p o=W->q o=W){l m:L (sU S)}(k:yC p l m):yC q l m:=by
 let ⟨c,d,h1,h2⟩:=k
 exact⟨c,d,h1,h2.mono h⟩
def yC.trans{p:Nat->Bool}{l m n:L (sU S)}(h:yC p l m)(k:yC p m n):yC p l n:=by obtain⟨c,d,rfl,h2⟩:=h;obtain⟨a,b,rfl,h4⟩:=k;obtain⟨x,y,rfl,h5⟩:=h4.split;exact⟨a++x,y,by rw[AF],h2.trans h5⟩
structure dm(ds:List Nat)(fr fr':bX S)(dr:List Nat)(aE:Nat):Prop where
 tm:∀k v,k∉ds->fr.get k=Z v->fr'.get k=Z v∨cG (dL dr aE) v=W
 df:yC (dL dr aE) fr.df fr'.df
theorem dm.refl(ds:L Nat)(fr:bX S)(dr:L Nat)(aE:Nat):dm ds fr fr dr aE:=⟨λ_ _ _ h=>.inl h,yC.refl _ _⟩
def dm.trans{ds d:L Nat}{fr fr' a:bX S}{dr c:L Nat}{aE b:Nat}(h:dm ds fr fr' dr aE)(k:dm d fr' a c b)(f:∀o∈dr,o∈c)(hn:aE<=b):dm (ds++d) fr a c aE:=by
 refine⟨λj v e g=>?_,(h.df.mono (iV f (eM _))).trans (k.df.mono (iV (λ_ h=>h) hn))⟩;simp at e;obtain h1|h1:=h.tm j v e.1 g
 .exact (k.tm j v e.2 h1).imp id (ek (iV (λ_ h=>h) hn) v)
 .exact .inr (ek (iV f (eM _)) v h1)
theorem dm.mono{ds a:L Nat}{fr fr':bX S}{dr b:L Nat}{aE:Nat}(h:dm ds fr fr' dr aE)(d:∀k∈ds,k∈a)(c:∀o∈dr,o∈b):dm a fr fr' b aE:=by refine⟨λj v e f=>?_,h.df.mono (iV c (eM _))⟩;exact(h.tm j v (λg=>e (d j g)) f).imp id (ek (iV c (eM _)) v)
def uW{p q:Nat->Bool}(a:∀o,p o=W->q o=W){f:V S->Bool}(hf:∀v,f v=cG p v):∀l:L (sU S),p7 q l (l.map (eA f))
 |[]=>.nil|d::l=>by
  refine .cons ?_ (uW a hf l);cases d with
  |call g args=>
   simp[eA];cases b:f g||args.any f with
   |true=>
    refine .inr ⟨.inl ⟨rfl,rfl⟩,ov a _ ?_⟩;simp only[sI,<-hf]
    simp_all
   |false=>exact .inl rfl
  |mark o=>
   simp[eA];cases b:f (.ptr o 0)with|true=>exact .inr ⟨.inl ⟨rfl,rfl⟩,ov a _ (by simp[sI,<-hf];exact b)⟩|false=>exact .inl rfl
  |marks o=>
   simp[eA];cases b:f (.sh o 0)with|true=>exact .inr ⟨.inr ⟨rfl,rfl⟩,ov a _ (by simp[sI,<-hf];exact b)⟩|false=>exact .inl rfl
  |ko=>exact .inl rfl|bad=>exact .inl rfl
section
variable {g:Gh}{w:World}
theorem pS{ops:Array Oper}{fr:bX S}{a:Act}(hf:cR g (bB fr) a w){o:Oper}{r:O Bool}(h:iK ops.toList fr o=Z r) :
  match r with
  |none=>Region.wanted o (yielded ops a.tmps)=W|some c=>Region.wanted o (yielded ops a.tmps)=c:=by
 unfold iK at h;split at h
 .grind[Region.wanted]
 .rename_i j f z;split at h
  .rename_i b l;simp only[vP,j0]at l
   let ⟨d,⟨m,n,q⟩,i⟩:=l
   obtain⟨v,s,u⟩:=hf.tm d (low (.kb b)) (by rw[bW,i];rfl);cases u;have k:ops[j]?=Z m:=by grind
   have x:yielded ops a.tmps j=Z b:=by simp[yielded,k,q,s]
   cases b<;>cases f<;>simp only[gY,jo,KH,Nc,gK]at h<;>subst h<;>simp[Region.wanted,z,x]
  .rename_i t _ l;split at h
   .rename_i b A;simp at h;subst h
    let ⟨p,e,B⟩:=mu A
    simp only[vP,j0]at l
    let ⟨d,⟨m,n,q⟩,i⟩:=l
    let ⟨v,s,u⟩:=hf.tm d (low t) (by rw[bW,i];rfl)
    have y:=jl e B u;subst y;have k:ops[j]?=Z m:=by grind
    have x:yielded ops a.tmps j=Z b:=by simp[yielded,k,q,s]
    simp only[Region.wanted,z,x,o8];cases b<;>cases f<;>rfl
   .cases h
  .cases h
theorem Di{ops:Array Oper}{fr:bX S}{a:Act}(hf:cR g (bB fr) a w){o:Oper}(h:vA ops.toList fr o=W):Region.wanted o (yielded ops a.tmps)=J:=by
 unfold vA at h;split at h
 .cases h
 .rename_i j e s;split at h
  .rename_i b f;simp only[vP,j0]at f
   let ⟨d,⟨p,i,q⟩,c⟩:=f
   obtain⟨v,r,k⟩:=hf.tm d (low (.kb b)) (by rw[bW,c];rfl);cases k;have m:ops[j]?=Z p:=by grind
   have t:yielded ops a.tmps j=Z b:=by simp[yielded,m,q,r]
   cases b<;>cases e<;>first|(cases h;done)|simp[Region.wanted,s,t]
  .rename_i l f;simp only[vP,j0]at f
   let ⟨d,⟨p,i,q⟩,c⟩:=f
   obtain⟨v,r,k⟩:=hf.tm d (low (.dat (.lit (.tuple l)))) (by rw[bW,c];rfl);cases k with
   |sym _ _ n=>
   cases n
   grind[yielded,Region.wanted]
  .cases h
def MD:aH g w (low (S:=S) fR) undef:=.sym _ _ (.lit _)
def aaj(t a:V S):Prop:=a=t∨∃b,t=.ty .bool b∧a=.kb b
variable {p:Nat->Bool}{fr:bX S}{t:V S}{v:Value}{a:Act}
def aaj.rel{a:V S}(h:aaj t a)(c:aH g w (low t) v):aH g w (low a) v:=by
 obtain rfl|⟨b,rfl,rfl⟩:=h
 .exact c
 .cases c with|sym _ _ d=>cases d;exact .kb b
def UC{b:Bool}{ω:Type}{k:V S->O ω}{r:ω}(h:Kt b t k=Z r):∃c,aaj t c∧k c=Z r:=by
 obtain⟨_,a⟩|⟨_,a⟩:=af h
 .clear h;split at a
  .obtain ⟨rfl,h⟩|⟨rfl,h⟩:=s8 a
   .exact ⟨_,.inr ⟨W,rfl,rfl⟩,h⟩
   .exact ⟨_,.inr ⟨J,rfl,rfl⟩,h⟩
  .exact ⟨_,.inl rfl,a⟩
 .exact ⟨t,.inl rfl,a⟩
theorem Ks{b:Bool}{t:V S}{ω:Type}{k:V S->O ω}{r:ω}(h:Kt b t k=Z r){v:Value}(d:aH g w (low t) v):∃a,k a=Z r∧aH g w (low a) v:=by
 obtain⟨_,c⟩|⟨_,h⟩:=af h
 .clear h;split at c
  .rename_i x;have e:v=.bool x:=by cases d with|sym _ _ f=>cases f;rfl
   subst e;obtain⟨rfl,h⟩|⟨rfl,h⟩:=s8 c
   .exact ⟨_,h,.kb W⟩
   .exact ⟨_,h,.kb J⟩
  grind
 grind
theorem wM{fr:bX S}{a:Act}(hf:cR g (bB fr) a w)(hn:fr.n<=bC){o:Op}(h:Oj W fr o=W):cR g (bB (rX fr o)) a w∧(rX fr o).n=fr.n:=by
 have key:∀(l:L Operand)(q:Bool)(f0:bX S),f0.n=fr.n->(q=W->cR g (bB f0) a w)->
   l.foldl (λp x=>match x with
    |.tmp k=>match fr.get k with
     |some (.gd g _)=>p&&imp W g|_=>p
    |_=>p) q=W->
   cR g (bB (l.foldl (λf x=>match x with
    |.tmp k=>match fr.get k with
     |some (.gd _ v)=>f.put k v|_=>f
    |_=>f) f0)) a w∧(l.foldl (λf x=>match x with
    |.tmp k=>match fr.get k with
     |some (.gd _ v)=>f.put k v|_=>f
    |_=>f) f0).n=fr.n:=by
  intro l
  induction l with
  |nil=>simp_all|cons x l s=>
   intro q f0 j t h;simp at h ⊢;cases x with
   |tmp k=>
    simp only at h ⊢;split at h
    .rename_i y v ef;refine s _ _ (by simpa[bX.put]using j) (λc=>?_) h;simp at c;have d:=t c.1;have m:y=W:=c.2;subst m
     let ⟨u,z,A⟩:=hf.tm k (low (.gd W v)) (by rw[bW,ef];rfl)
     have e:k<fr.n:=by have:=(Xj.1 z).1;rw[hf.size]at this;exact this
     refine⟨d.size,d.df,λn B b=>?_⟩;rw[bW,bX.jO _ _ _ _ (iO e hn)]at b;by_cases i:n=k
     .subst i;rw[bw rfl]at b;simp at b;cases A with|gd _ _ _ r=>simp_all
     .rw[bL i]at b;exact d.tm n B (by rw[bW];exact b)
    grind
   |const v=>grind|global v=>grind|func v=>grind
 exact key o.operands.toList W fr rfl (λ_=>hf) h
def uz(hf:cR g (bB fr) a w){dst:O Nat}(b:gI fr dst=W)(hn:fr.n<=bC)(c:aH g w (low t) v) :
  cR g (bB (fr.jq dst t)) (a.put dst v) w∧(fr.jq dst t).n=fr.n:=by
 refine⟨?_,by cases dst<;>rfl⟩;rw[QU];exact VV hf (by cases dst<;>exact b) hn c
theorem BY{fr:bX S}(hn:fr.n<=bC){dst:O Nat}(g:gI fr dst=W){ow dr:L Nat}(i:∀o∈ow,o∈dr)(aE:Nat)(t:V S):dm dst.toList fr ((dy ow fr).jq dst t) dr aE:=by
 refine⟨λk v h c=>?_,?_⟩;rotate_left
 .have e:((dy ow fr).jq dst t).df=(dy ow fr).df:=by cases dst<;>rfl
  rw[e];cases ow with
  |nil=>exact yC.refl _ _|cons o ow=>
   refine(uW (p:=(o::ow).contains) (λj a=>?_) (λv=>pN _ v) _).ok;simp only[dL,oG,FJ,rF]at a ⊢
   grind
 have h1:(dy ow fr).get k=Z v∨cG (dL dr aE) v=W:=by
  cases ow with
  |nil=>exact .inl c|cons o ow=>
   cases f:iP (o::ow) v with
   |true=>
    rw[pN]at f;refine .inr (ek (λo a=>?_) v f);simp only[dL,oG,FJ,rF]at a ⊢
    grind
   |false=>
    left
    show(fr.tm.keep _).get k=Z v;rw[Tr.om,show fr.tm.get k=Z v from c]
    simp_all
 refine h1.imp (λh1=>?_) id;cases dst with|none=>exact h1|some d=>have b:d<fr.n:=gN g;show((dy ow fr).put d t).get k=Z v;rw[bX.jO _ _ _ _ (iO b hn),bL (by simpa using h)];exact h1
def A2(v:Value):aH g w (low (S:=S) (.gd J fR)) v:=by exact .gd _ _ _ λh=>by cases h
def tP(ow:L Nat)(fr:bX S):(dy ow fr).n=fr.n:=by cases ow<;>rfl
def AO{ow:L Nat}{d:O Nat}(h:gI fr d=W):gI (dy ow fr) d=W:=by
 simp_all[gI,tP]
theorem sE{E:eF S}(u:fe E){call:fY S}(i:gH E.T.E.P call){ops:Array Oper}{fr:bX S}{s:aY S}{a:Act}(hn:fr.n<=bC)(hf:cR g (bB fr) a w)(hs:aV g (aB s) w){o:Oper}{ω:Type}
  {kp:V S->aY S->O ω} {k:V S->aY S->L Nat->O ω} {r:ω} (h:pU E call ops.toList o fr s kp k=Z r) {K:Act->World->Prop} {Q:Exit->Act->World->Prop}
  (f:∀t s' ow g' v w',k t s' ow=Z r->aH g' w' (low t) v->cP ow s g w s' g' w'->K (a.put o.dst v) w')
  (z:∀t s' g' v w',kp t s'=Z r->cP [] s g w s' g' w'->aH g' w' (low t) v->Q (.panic [{v,recovered:=J}]) a w') {rr:O Nat} (j:rr≠Y->∀c,o.op≠.defer c) :
  gI fr o.dst=W∧if Region.wanted o (yielded ops a.tmps)then OpR rr E.T.E.P o a w K Q else K (a.put o.dst undef) w:=by
 obtain⟨x,h⟩|⟨_,h⟩:=af h
 rotate_left
 .cases h
 refine⟨x,?_⟩;obtain⟨l,h⟩|⟨_,h⟩:=af h
 .rw[bL (by rw[Di hf l];simp_all)];exact f _ s [] g undef w h MD (cP.refl hs)
 split at h
 .cases h
 .rename_i m;have q:=pS hf m
  grind[A9]
 .rename_i c m;have q:=pS hf m;obtain⟨_,h⟩|⟨_,h⟩:=af h
  .let ⟨b,h⟩:=oA h
   cases c with
   |true=>
    rw[bw q]
    let ⟨d,n⟩:=wM hf hn b
    exact .of_wp j (.inl (sG u d hs (.inr rfl) h (λt g' v w' p e y=>f _ s [] g' v w' p (by exact .gd _ _ _ λ_=>y) e)))
   |false=>
    rw[bL (by simp_all)]
    let ⟨t,p⟩:=Lv h
    exact f _ s [] g undef w p (by exact .gd _ _ _ λh=>by cases h) (cP.refl hs)
  .obtain ⟨rfl,h⟩|⟨rfl,h⟩:=s8 h
   .let ⟨b,h⟩:=oA h
    let ⟨d,n⟩:=wM hf hn b
    grind[A9]
   .rw[bL (by simp_all)];exact f _ s [] g undef w h (A2 _) (cP.refl hs)
theorem LB{P:Program}{fr:bX S}{a:Act}(hf:cR g (bB fr) a w){o:Oper}{d:sU S}(h:Ru fr o=Z d) :
  o.guard=Y∧∃e,(execOp a.eval o).run P w=.ok (.defer e) w∧xu g w (mh d) e:=by
 unfold Ru at h;split at h;rotate_left
 .cases h
 rename_i c r s;refine⟨r,?_⟩;split at h;rotate_left
 .cases h
 rename_i f p;split at h;rotate_left
 .cases h
 rename_i k u x args l b;simp at h;subst h;have q:=bR hf (cz l);have i:=eT hf (gU b);generalize y:a.eval f=E at q;cases q with
 |fn _ _ _ m n z A B C=>
  refine⟨{target:=.fn k n,args:=m++c.args.map a.eval},?_,?_⟩
  .grind[execOp,resolve,Deferred.ofValue,run_pure]
  .exact .call (.fn k (bq u) (bq x)) (bq args) k m n (c.args.map a.eval) (.fn k _ _ m n z A B C) (by simpa using i.1) (λj t v h1 h2=>i.2 j t v h1 (by simpa using h2))
def Lu{E:eF S}(A:fe E){call:fY S}(f:gH E.T.E.P call){ops:Array Oper}{s:aY S}(hn:fr.n<=bC)(hf:cR g (bB fr) a w)(hs:aV g (aB s) w){o:Oper}{ω:Type}
  {kp:V S->aY S->O ω} {k:bX S->aY S->O ω} {r:ω} (h:Ro E call ops.toList o fr s kp k=Z r) {K:Act->World->Prop} {Q:Exit->Act->World->Prop}
  (B:∀fr' s' g' a' w',k fr' s'=Z r->fr'.n=fr.n->cR g' (bB fr') a' w'->eC s g w s' g' w'->dm o.dst.toList fr fr' s'.dr s.aE->K a' w')
  (C:∀t s' g' v w',kp t s'=Z r->cR g' (bB fr) a w'->eC s g w s' g' w'->aH g' w' (low t) v->Q (.panic [{v,recovered:=J}]) a w') {rr:O Nat} (l:rr≠Y->∀c,o.op≠.defer c) :
  if Region.wanted o (yielded ops a.tmps)then OpR rr E.T.E.P o a w K Q else K (a.put o.dst undef) w:=by
 unfold Ro at h;split at h
 .rename_i d x;obtain⟨m,h2⟩|⟨_,h2⟩:=af h
  rotate_left
  .cases h2
  let ⟨F,e,n,i⟩:=LB (P:=E.T.E.P) hf x
  have I:Region.wanted o (yielded ops a.tmps)=W:=by simp[Region.wanted,F]
  rw[bw I];refine .of_wp l (.inl ?_);unfold Oper.wp;rw[n]
  let ⟨h1,h3⟩:=uz hf m hn (t:=zb) (v:=undef) (A2 _)
  have key:∀dst:O Nat,cR g (bB (fr.jq dst zb)) (a.put dst undef) w->cR g (bB {(fr.jq dst zb)with df:=d::fr.df}) (({a with defers:=e::a.defers}:Act).put dst undef) w:=by intro dst h1;cases dst with|none=>exact⟨h1.size,.cons i hf.df,h1.tm⟩|some j=>exact⟨h1.size,.cons i hf.df,h1.tm⟩
  let ⟨h4,h5⟩:=BY (ow:=[]) (dr:=s.dr) hn m (λo R=>by cases R) s.aE zb
  exact B _ s g _ w h2 h3 (key _ h1) (eC.refl hs) ⟨h4,[d],fr.df,rfl,.refl _ _⟩
 have m:gI fr o.dst=W:=(sE A f hn hf hs h (K:=λ_ _=>True) (Q:=λ_ _ _=>True) (λ_ _ _ _ _ _ _ _ _=>trivial) (λ_ _ _ _ _ _ _ _=>trivial) l).1;refine(sE A f hn hf hs h (λt s' ow g' v w' p q b=>?_) (λt s' g' v w' p b q=>C t s' g' v w' p (nT (ow:=[]) hf b) b.toW q) l).2;have y:=b.owd;have z:=nT hf b
 let ⟨t,p,q⟩:=Ks p q
 let ⟨h1,h2⟩:=uz (fr:=dy ow fr) z (AO m) (by rw[tP];exact hn) q
 exact B _ s' g' _ w' p (h2.trans (tP ow fr)) h1 b.toW (BY hn m y _ t)
theorem DN{E:eF S}(K:fe E){call:fY S}(e:gH E.T.E.P call){ops:Array Oper}{ω:Type}{kp:bX S->V S->aY S->O ω}{kk:bX S->aY S->O ω}{r:ω}{Q:Exit->Act->World->Prop}{rr:O Nat}(q:rr≠Y->∀o∈ops.toList,∀c,o.op≠.defer c) :
  ∀(l:L Oper)(k:Nat),ops.toList.drop k=l->∀{fr:bX S}{s:aY S}{a:Act}{g:Gh}{w:World},fr.n<=bC->TR E call ops.toList kp kk l fr s=Z r->cR g (bB fr) a w->aV g (aB s) w->
   (∀fr' s' g' a' w',kk fr' s'=Z r->fr'.n=fr.n->cR g' (bB fr') a' w'->eC s g w s' g' w'->dm (l.filterMap (·.dst)) fr fr' s'.dr s.aE->Q .normal a' w')->
   (∀fr' t s' g' a' v w',kp fr' t s'=Z r->fr'.n=fr.n->cR g' (bB fr') a' w'->eC s g w s' g' w'->dm (l.filterMap (·.dst)) fr fr' s'.dr s.aE->aH g' w' (low t) v->Q (.panic [{v,recovered:=J}]) a' w')->
   xl rr E.T.E.P ops Q (List.range' k l.length) a w:=by
 intro l
 induction l with
 |nil=>intro k _ fr s a g w _ h u x y _;exact y fr s g a w h rfl u (eC.refl x) (dm.refl _ _ _ _)
 |cons o l P=>
  intro k F fr s a g w R h u x y I;have hk:ops[k]?=Z o:=by
   have:=fq (λm=>m[0]?) F
   grind
  have z:ops.toList.drop (k+1)=l:=by
   have:=fq (List.drop 1) F
   grind[List.drop_drop]
  rw[ny,List.range'_succ];unfold xl;simp[hk];have tail:∀{fr' b:bX S}{s' d:aY S}{g':Gh}{w':World},eC s g w s' g' w'->dm o.dst.toList fr fr' s'.dr s.aE->(∀o∈s'.dr,o∈d.dr)->dm (l.filterMap (·.dst)) fr' b d.dr s'.aE->dm ((o::l).filterMap (·.dst)) fr b d.dr s.aE:=by
   intro fr' b s' d g' w' h4 h5 h6 n;have:=h5.trans n h6 h4.aE
   grind
  refine Lu K e R u x h (λfr' s' g' a' w' h1 h2 h3 h4 h5=>?_) (λt s' g' v w' h1 h2 h3 h4=>I fr t s' g' a v w' h1 rfl h2 h3 (dm.refl _ _ _ _) h4) λhr=>q hr o (by grind);exact P (k+1) z (by omega) h1 h3 h4.rel (λb d f i j A B C p n=>y b d f i j A (B.trans h2) C (h4.trans p) (tail h4 h5 p.Ho n)) (λb t d f i v' j A B C p n k6=>I b t d f i v' j A (B.trans h2) C (h4.trans p) (tail h4 h5 p.Ho n) k6)
end
end
section
def WX(a:Act)(w:World)(c:Nat):O Value:=bif Nt c 1000000 then a.tmps[c]? else match a.tmps[Nat.div (Nat.sub c 1000000) 1000]? with
 |some (.pointer (Z b))=>match w.heap[b.block]? with
  |some (.cells d _ _)=>d[Nat.mod (Nat.sub c 1000000) 1000]?|_=>Y
 |_=>Y
theorem Fk{g:Gh}{w:World}{fr:bX S}{s:aY S}{a:Act}(hf:cR g (bB fr) a w)(hs:aV g (aB s) w){c:Nat}{v:V S}(h:WW fr s c=Z v):∃u,WX a w c=Z u∧aH g w (low v) u:=by
 unfold WW at h;unfold WX;cases i:Nt c 1000000 with
 |true=>
  rw[i,gY]at h
  let ⟨u,e,f⟩:=hf.tm c (low v) (by rw[bW,h];rfl)
  exact⟨u,e,f⟩
 |false=>
  rw[i,jo]at h;split at h
  .rename_i o k;split at h
   .rename_i cs l;obtain⟨u,e,f⟩:=hf.tm _ (low (.ptr o 0)) (by rw[bW,k];rfl);cases f with
    |ptr _ _ b m=>
    let ⟨n,ty,p,q,d⟩:=(hs.box o b m).box (cs:=bq cs) (by rw[aI,l];rfl)
    have h1:=EP h;have h2:∃x,n[Nat.mod (Nat.sub c 1000000) 1000]?=Z x:=by have:=(U1.1 h1).1;exact⟨_,uy (by omega)⟩
    let ⟨x,j⟩:=h2
    exact⟨x,by simp only[jo,e,p,j],d _ _ _ h1 j⟩
   .cases h
  .cases h
def aaY(a:Act)(w:World)(al:L (Nat×Nat)):Prop:=∀p∈al,a.tmps[p.1]?=WX a w p.2
theorem l7{g:Gh}{w:World}{a:Act}{s:aY S}(hs:aV g (aB s) w):∀{al:L (Nat×Nat)}{fr:bX S},(∀p∈al,p.1<bC)->aaY a w al->cR g (bB fr) a w->
  cR g (bB (mH s al fr)) a w∧(mH s al fr).n=fr.n∧(mH s al fr).df=fr.df∧∀k,k∉al.map (·.1)->(mH s al fr).get k=fr.get k
 |[],fr,_,_,c=>⟨c,rfl,rfl,λ_ _=>rfl⟩|p::al,fr,e,f,c=>by
  have d:=e p eI;have n:=f p eI;simp only[mH];cases o:WW fr s p.2 with
  |none=>
   let ⟨h1,h2,h3,h4⟩:=l7 hs (fr:=fr) (λq b=>e q (g7 _ b)) (λq b=>f q (g7 _ b)) c
   simp_all
  |some v=>
   have h:cR g (bB (fr.put p.1 v)) a w:=by
    refine⟨c.size,c.df,λj t i=>?_⟩;rw[bW,bX.jO _ _ _ _ d]at i;by_cases l:j=p.1
    .grind[Fk]
    .rw[bL l]at i;exact c.tm j t (by rw[bW];exact i)
   let ⟨h1,h2,h3,h4⟩:=l7 hs (fr:=fr.put p.1 v) (λq b=>e q (g7 _ b)) (λq b=>f q (g7 _ b)) h
   refine⟨h1,h2,h3,λk m=>?_⟩;simp only[pG,fS,not_or]at m;rw[h4 k m.2,bX.jO _ _ _ _ d,bL m.1]
def BH.mH{sh:Sh}{bs:L Nat}{a:Act}{gb:Gh}{jP c:bX S}{s0 b:aY S}{w:World}{d:L eY}{e:Gh}(h:BH [] sh bs a gb jP s0 w d e c b){al:L (Nat×Nat)}(f:∀p∈al,p.1<bC)(g:aaY a w al) :
  BH (al.map (·.1)) sh bs a gb jP s0 w d e (TL.mH b al c) b:=by
 let ⟨h1,h2,h3,h4⟩:=l7 h.rel f g h.fr
 exact⟨h.rel,h1,h.le,h.bh,h.own,h.fl,h.lo,h.aE,h.wr,h.dr,h.ob,h.bP,h.arr,h2.trans h.n,h3.trans h.OL,λk i j=>(h4 k i).trans (h.get k (by simp) j)⟩
variable {a:Act}{w:World}{al:List (Nat×Nat)}
def ya{g:Gh}{fr:bX S}{s:aY S}(hf:cR g (bB fr) a w)(hs:aV g (aB s) w)(h:Wf fr s al=W):aaY a w al:=by
 intro p k;unfold Wf at h;rw[kA]at h;have h1:=h p k;split at h1
 .rename_i o r t u l m;rw[eZ]at h1;obtain rfl:=beq_iff'.1 h1.1;obtain rfl:=beq_iff'.1 h1.2;obtain⟨v,c,d⟩:=hf.tm p.1 (low (.sh o r)) (by rw[bW,l];rfl)
  let ⟨y,e,f⟩:=Fk hf hs m
  cases d with
  |sh _ _ len cap sz x n=>
  cases f with|sh _ _ i j q z b=>rw[n]at b;cases b;rw[c,e]
 .cases h1
theorem O9{fr:bX S}{ow:L Nat}{al:L (Nat×Nat)}(h:adv fr ow al=W){p:Nat×Nat}(a:p∈al){v:V S}(b:fr.get p.1=Z v):∃o r,v=.sh o r∧o∈ow:=by
 unfold adv at h
 grind
end
section
inductive I1(g:Gh)(w:World):vo S->Exit->Prop where
 |rR:I1 g w .rR .normal|ext (i:Nat):I1 g w (.ext i) (.exit i)|ret:I1 g w .ret .ret|iE (t:V S) (v:Value) (h:aH g w (low t) v):I1 g w (.iE t) (.panic [{v,recovered:=J}])
def IY(ds:L Nat)(fr:bX S)(s:aY S)(g:Gh)(w:World){ω:Type}(Q:vo S->bX S->aY S->O ω)(r:ω)(e:Exit)(a:Act)(w':World):Prop:=
 False∨∃ex fr' s' g',I1 g' w' ex e∧Q ex fr' s'=Z r∧fr'.n=fr.n∧cR g' (bB fr') a w'∧eC s g w s' g' w'∧dm ds fr fr' s'.dr s.aE
theorem IY.mono{ds c:L Nat}{fr tO:bX S}{s s1:aY S}{g f:Gh}{w w1:World}{ω:Type}{Q:vo S->bX S->aY S->O ω}{r:ω}{e:Exit}{a:Act}{w':World}(hn:tO.n=fr.n)(b:eC s g w s1 f w1)(hf:dm ds fr tO s1.dr s.aE)
  (h:IY c tO s1 f w1 Q r e a w'):IY (ds++c) fr s g w Q r e a w':=by
 obtain h|⟨i,d,j,k,h1,h2,h3,h4,h5,h6⟩:=h
 .exact .inl h
 .exact .inr ⟨i,d,j,k,h1,h2,h3.trans hn,h4,b.trans h5,hf.trans h6 h5.Ho b.aE⟩
def IY.ds{ds b:L Nat}{fr:bX S}{s:aY S}{g:Gh}{w:World}{ω:Type}{Q:vo S->bX S->aY S->O ω}{r:ω}{e:Exit}{a:Act}{w':World}(d:∀k∈ds,k∈b)(h:IY ds fr s g w Q r e a w'):IY b fr s g w Q r e a w':=by
 obtain h|⟨f,c,i,j,h1,h2,h3,h4,h5,h6⟩:=h
 .exact .inl h
 .exact .inr ⟨f,c,i,j,h1,h2,h3,h4,h5,h6.mono d (λ_ h=>h)⟩
theorem Vp(p:Nat->Prop)(h:∃n,p n):∃n,p n∧∀m,p m->n<=m:=by
 let ⟨n,a⟩:=h
 induction n using Nat.strongRecOn with
 |_ n b=>
  grind
theorem VA{X R B P:Type}{F:X->O (LO X R B P)}:∀{n:Nat}{x:X}{o:LO X R B P},iter F n x=Z o->∃m,n=m+1∧∃a,F x=Z a∧((∃y,a=.next y∧iter F m y=Z o)∨(a=o∧∀y,o≠.next y))
 |0,_,_,h=>by cases h
 |_+1,x,o,h=>by
  simp[iter]at h
  grind
structure xy(sh:Sh)(bs:List Nat)(jP:bX S)(s0 s:aY S)(g:Gh)(w:World)(x:ga S.A (lB sh))(a:Act)(gb:Gh)(w':World)(vals:List Value)(al:List eY)(bl:List Nat):Prop where
 rel:aV gb (aB s0) w'
 fr:cR gb (bB jP) a w'
 pr:ry S gb.bh w' (lB sh) x vals al bl
 at_:iS a sh vals
 Io:PW (λo b=>gb.bP o=Z b) bs bl
 XZ:∀o∈bs,∀e,gb.arr o e=Y
 fresh:∀a∈al,∀b,a.at b->∀o,¬bz gb o b
 ap:xB al
 ext:oD s.lo s.fl g w gb w'
 alo:∀a∈al,∀b,a.at b->(∃o,s.fl<=o∧bz g o b)∨w.heap.size<=b
variable {w':World}
def xy.head{sh:Sh}{bs:L Nat}{jP f:bX S}{s0 s i:aY S}{g:Gh}{w:World}{x:ga S.A (lB sh)}{a:Act}{gb:Gh}{vals:L Value}{al:L eY}{bl:L Nat}
  (c:xy sh bs jP s0 s g w x a gb w' vals al bl) (hn:jP.n<=bC) (h:m9 sh bs x jP s0=Z (f,i)) :
  ∃j,BH [] sh bs a gb jP s0 w' al j f i∧oD s.lo s.fl g w j w':=by
 let ⟨j,d⟩:=wJ h hn c.pr c.at_ c.Io c.XZ c.fresh c.ap c.fr c.rel
 refine⟨j,d,λo b e=>?_,λo e y q k=>?_,λb e=>?_,c.ext.size,c.ext.heap,λo b r l=>?_,λb p=>?_,c.ext.os,c.ext.output⟩
 .exact d.le.bP o b (c.ext.bP o b e)
 .exact d.le.arr o e y (c.ext.arr o e y q k)
 .exact d.le.bh b (c.ext.bh b e)
 .obtain l|⟨_,t,m,n⟩:=d.own o b l
  .exact c.ext.own o b r l
  .exact c.alo t m b n
 .rw[d.bh]at p;exact c.ext.og b p
theorem Zy(P:Nat->Bool)(d:sU S):eA (cG P) (eA (cG P) d)=eA (cG P) d:=by
 cases d with
 |call f args=>
  simp[eA]
  grind
 |mark o=>
  simp[eA]
  grind
 |marks o=>
  simp[eA]
  grind
 |_=>rfl
def adf{P Q:Nat->Bool}(c:∀o,Q o=W->P o=W):∀{l m:L (sU S)},p7 Q (l.map (eA (cG P))) m->m=l.map (eA (cG P)):=by
 intro l
 induction l with
 |nil=>intro m h;cases h;rfl
 |cons d l g=>
  intro m h;cases h with
  | @cons _ e _ _ i j=>
  rw[pG,g j]
  congr 1
  obtain rfl|⟨h1,k⟩:=i
  .rfl
  .have a:=ov c _ k;cases d with
   |call f args=>
    simp[eA]at a h1 ⊢;cases b:cG P f||args.any (cG P)with
    |true=>
     rw[b]at h1;obtain⟨h1,_⟩|⟨_,h1⟩:=h1
     .exact h1
     .cases h1
    |false=>
     simp_all[sI]
   |mark o=>
    simp[eA]at a h1 ⊢;cases b:cG (S:=S) P (.ptr o 0)with
    |true=>
     rw[b]at h1;obtain⟨h1,_⟩|⟨_,h1⟩:=h1
     .exact h1
     .cases h1
    |false=>
     simp_all[sI]
   |marks o=>
    simp[eA]at a h1 ⊢;cases b:cG (S:=S) P (.sh o 0)with
    |true=>
     rw[b]at h1;obtain⟨_,h1⟩|⟨h1,_⟩:=h1
     .cases h1
     .exact h1
    |false=>
     simp_all[sI]
   |ko=>
    obtain⟨_,h1⟩|⟨h1,_⟩:=h1
    .cases h1
    .exact h1
   |bad=>
    obtain⟨h1,_⟩|⟨_,h1⟩:=h1
    .exact h1
    .cases h1
theorem adg{g g':Gh}{w w':World}{P:Nat->Bool}(b:∀t v,aH g w t v->dI P t=J->aH g' w' t v){l:L (sU S)}{a:L Deferred}(c:eL g w ((l.map (eA (cG P))).map mh) a) :
  eL g' w' ((l.map (eA (cG P))).map mh) a:=by
 have h:=gQ (S:=S) (p:=cG P) (q:=dI P) (λv=>ia P v) (λ_ _=>rfl) (l.map (eA (cG P)));have e:(l.map (eA (cG P))).map (eA (cG P))=l.map (eA (cG P)):=by
  grind[List.map_congr_left,Zy]
 rw[e]at h;exact iA.rel b h c
section
variable {sh:Sh}{bs ow ds:List Nat}{fr:bX S}{s s1:aY S}{g:Gh}{w:World}{a:Act}
theorem T7(a:∀d∈ds,d<bC)(k:Nat):(cJ ds ow bs fr s1).1.get k=if k∈ds then Y else(fr.get k).filter (λv=>!(cG (dL ow s1.aE) v)):=by
 show((ds.foldl (λt k=>t.del aK k) fr.tm).keep _).get k=_;rw[Tr.om,Tr.oq ds _ k a];split
 .rfl
 .rfl
theorem Bt(a:∀d∈ds,d<bC){k:Nat}{v:V S}(h:(cJ ds ow bs fr s1).1.get k=Z v):k∉ds∧fr.get k=Z v∧cG (dL ow s1.aE) v=J:=by
 grind[T7,Option.filter_eq_some_iff]
theorem HE(hf:cR g (bB fr) a w)(hs:aV g (aB s) w)(C:∀d∈ds,d<bC){x:ga S.A (lB sh)}{m:Gh}{vals:L Value}{al:L eY}{bl:L Nat}
  (c:HO sh bs a g s w x s1 ow m vals al bl):xy sh bs (cJ ds ow bs fr s1).1 (cJ ds ow bs fr s1).2 s g w x a (m.base (dL ow s1.aE)) w vals al bl:=by
 have r:∀b∈bs,b<bC:=λb i=>by exact iO (c.T4 b i).2.1 hs.aE
 have n:∀o,o∉ow->o<s.aE->dL ow s1.aE o=J:=λo h1 h2=>pL h1 (c.aE▸h2);have l:=c.ZW.owned c.pr.iH;refine⟨c.rel.base (λo q=>?_) rfl (eM _) (λo ob hpo f=>?_),⟨hf.size,(gQ (λv=>ia (dL ow s1.aE) v) (λ_ _=>rfl) fr.df).rel (λt v ht z=>(ht.ext c.ext hs.bh).on (m.gE _) (λ_ _=>rfl) z) hf.df,λk t R=>?_⟩,c.pr,c.at_,⟨c.Io.1,λj o b h1 h2=>?_⟩,λo q e=>?_,λE F b i o A=>?_,c.ap,⟨λo b i=>?_,λo e y hl hy=>?_,c.ext.bh,eM _,λ_ _ _=>rfl,λo b q A=>?_,c.ext.og,rfl,rfl⟩,λE F b i=>?_⟩
 .simp only[dL,oG];exact .inr (Nn q)
 .rw[aI,ua r]at f;split at f
  .cases f
  .rw[FM,fM]at f;obtain⟨B,I,rfl⟩:=f;exact⟨cW B,by rw[aI,I];rfl,lF _ B⟩
 .rw[bW,fM]at R;obtain⟨v,I,rfl⟩:=R
  let ⟨_,h2,h3⟩:=Bt C I
  let ⟨u,hu,hr⟩:=hf.tm k (low v) (by rw[bW,h2];rfl)
  exact⟨u,hu,(hr.ext c.ext hs.bh).on (m.gE _) (λ_ _=>rfl) (by rw[ia];exact h3)⟩
 .have f:=iq h1;have:=c.T4 o f;exact(m.gE _).bP o b (n o this.2.2.1 this.2.1) (c.Io.2 j o b h1 h2)
 .simp only[Gh.base];split
  .exact (c.T4 o q).2.2.2 e
  .rfl
 .let ⟨h1,h2⟩:=Gh.fI A
  let ⟨o',K,P⟩:=l E F b i
  have:=c.rel.jS o o' b h2 P;subst this;exact(lN h1).1 K
 .have p:=hs.lt i;exact(m.gE _).bP o b (n o (λz=>by rw[c.owb o z]at i;cases i) p) (c.ext.bP o b i)
 .have p:=hs.lt' hy;exact(m.gE _).arr o e y (n o (λz=>by have:=(c.XQ o z).2.1;omega) p) (c.ext.arr o e y hy)
 .obtain h|h:=c.ext.own o b (Gh.fI A).2
  .grind
  omega
 .let ⟨o,q,A⟩:=l E F b i
  obtain h|h:=c.ext.own o b A
  .exact .inl ⟨o,(c.XQ o q).1,h⟩
  omega
theorem RJ{ex:L Nat}{v:Sh}{jP:bX S}(hds:∀d∈ds,d<bC)(i:∀b∈bs,b<s1.aE∧b∉ow)(E:s1.aE<=bC)(hlo:s.lo<=s1.aE)(how:∀o∈ow,s.lo<=o)(F:∀o b,g.bP o=Z b->o<s1.aE∧o∉ow)(I:s1.lo=s.lo)(K:s1.fl=s.fl)
  {a':Act} {w':World} {al:L eY} {gb gh:Gh} {Cs:bX S} {k:aY S}
  (P:oD s.lo s.fl g w gh w') (hh:BH ex sh bs a' gb (cJ ds ow bs fr s1).1 (cJ ds ow bs fr s1).2 w' al gh Cs k)
  {s2 n:aY S} {g2 z:Gh} {a2:Act} {C:World} (h:eC k gh w' s2 g2 C)
  {x:ga S.A (lB v)} {A:L Nat} {vals:L Value} {R:L eY} {bl2:L Nat} (f:HO v bs a2 g2 s2 C x n A z vals R bl2)
  (hwr:Ut s1.aE bs n.wr=W) (aj0:A.all (λo=>Nl s1.aE o)=W) (hdr:n.dr.all (λo=>Nl s1.aE o)=W) (hfr:cR (z.base (dL ow s1.aE)) (bB jP) a2 C) :
  xy v bs jP (cJ ds ow bs fr s1).2 s g w x a2 (z.base (dL ow s1.aE)) C vals R bl2:=by
 have l:∀b∈bs,b<bC:=λb m=>iO (i b m).1 E;have p:(cJ ds ow bs fr s1).2.aE=s1.aE:=rfl;have hlen:s1.aE<=k.aE:=p▸hh.aE;have how2':∀o∈A,s1.aE<=o:=λo q=>by
  simp_all
 have hwr':∀o∈n.wr,s1.aE<=o∨o∈bs:=λo q=>by
  simp_all[Ut]
 have r:=f.ZW.owned f.pr.iH;have t:k.fl=s.fl:=hh.fl.trans (show(cJ ds ow bs fr s1).2.fl=s.fl from K);have agf:k.lo=s.lo:=hh.lo.trans (show(cJ ds ow bs fr s1).2.lo=s.lo from I);have B:oD s.lo s.fl g w g2 C:=P.trans (t▸agf▸h.ext);have YO:s2.fl=s.fl:=h.fl.trans t;have a:oD s.lo s.fl g w z C:=B.trans (YO▸f.ext.Iu s.lo);refine⟨f.rel.base (aE:=s1.aE) (λo q=>?_) rfl ?_ (λo ob hpo c=>?_),hfr,f.pr,f.at_,⟨f.Io.1,λj o b h1 h2=>?_⟩,λo q e=>?_,λa' ha b m o hO=>?_,f.ap,⟨λo b m=>?_,λo e y hl hy=>?_,a.bh,a.size,a.heap,λo b q hO=>?_,a.og,a.os,a.output⟩,λa' ha b m=>?_⟩
 .simp_all[dL]
 .have e1:(aB n).aE=n.aE:=rfl;have:=h.aE;have:=f.aE;omega
 .rw[aI,ua l]at c;split at c
  .cases c
  .rename_i hnb;rw[FM,fM]at c;obtain⟨vob,hv,rfl⟩:=c;have u:=(lN hpo).2;have hnw:o∉n.wr:=λhm=>by
    grind
   have aqj:o∉s2.wr:=λhm=>hnw (f.ug o hm);have e1:n.ob.get o=Z (eX (dL ow s1.aE) vob):=by rw[f.same o hnw,h.same o (iO u hlen) aqj,hh.ob o (p▸u) hnb,ua l,bL hnb,hv];rfl
   grind[aI,Hu]
 .have c:=iq h1;exact(z.gE _).bP o b (pL (i o c).2 (i o c).1) (f.Io.2 j o b h1 h2)
 .simp only[Gh.base];split
  .exact (f.T4 o q).2.2.2 e
  .rfl
 .let ⟨h1,h2⟩:=Gh.fI hO
  let ⟨o',ho',VN⟩:=r a' ha b m
  have:=f.rel.jS o o' b h2 VN
  grind[lN]
 .exact (z.gE _).bP o b (pL (F o b m).2 (F o b m).1) (a.bP o b m)
 .exact (z.gE _).arr o e y (pL (λhm=>by grind) (by omega)) (a.arr o e y hl hy)
 .exact a.own o b q (Gh.fI hO).2
 .let ⟨o,q,hO⟩:=r a' ha b m
  exact a.own o b (by have:=(f.XQ o q).1;omega) hO
def iS.tmps{a a':Act}(h:a'.tmps=a.tmps):∀{sh:Sh}{vs:L Value},iS a sh vs->iS a' sh vs
 |[],[],_=>trivial|(_,.one _)::_,_::_,k=>⟨by rw[h];exact k.1,iS.tmps h k.2⟩
 |(_,.box _)::l,_::_,k=>iS.tmps (sh:=l) h k|(_,.hid _)::l,_,k=>iS.tmps (sh:=l) h k|[],_::_,k=>k.elim|(_,.one _)::_,[],k=>k.elim|(_,.box _)::_,[],k=>k.elim
theorem eL.split{g:Gh}{w:World}:∀{l1 l2:L Df}{m:L Deferred},eL g w (l1++l2) m->∃a b,m=a++b∧eL g w l1 a∧eL g w l2 b
 |[],_,m,h=>⟨[],m,rfl,.nil,h⟩|_::l1,l2,_,.cons h t=>by obtain⟨a,b,rfl,h1,h2⟩:=eL.split (l1:=l1) (l2:=l2) t;exact⟨_::a,b,rfl,.cons h h1,h2⟩
 |_::l1,l2,_,.marks o bs c h t=>by obtain⟨a,b,rfl,h1,h2⟩:=eL.split (l1:=l1) (l2:=l2) t;exact⟨_++a,b,(AF _ _ _).symm,.marks o bs c h h1,h2⟩
 |_::l1,l2,_,.ko d t=>by obtain⟨a,b,rfl,h1,h2⟩:=eL.split (l1:=l1) (l2:=l2) t;exact⟨_++a,b,(AF _ _ _).symm,.ko d h1,h2⟩
def eL.one{g:Gh}{w:World}:∀{os:L Nat}{m:L Deferred},eL g w (os.map Df.mark) m->∃bl,PW (λo b=>g.bP o=Z b) os bl∧m=bl.map λb=>{target:=.collected b,args:=#[]}
 |[],_,.nil=>⟨[],⟨rfl,λj o b h=>by simp at h⟩,rfl⟩
 |o::os,_,.cons h t=>by
  obtain⟨bl,h1,rfl⟩:=eL.one t;cases h with
  |mark _ b f=>
  refine⟨b::bl,⟨by simp[h1.1],λj a c d e=>?_⟩,rfl⟩;cases j with|zero=>simp_all|succ j=>exact h1.2 j a c (by simpa using d) (by simpa using e)
theorem aV.Pc{s:St}{w:World}{o:Nat}(m:s.ob.get o=Z .Gd)(u:o<s.aE):∀(bl:L Nat){g:Gh},aV g s w->bl.Nodup->(∀b∈bl,b<w.heap.size∧¬g.bh b∧(∀k,¬bz g k b)∧w.heap[b]?=Z (.deferred (Z [])))->
  ∃g',aV g' s w∧mX g g'∧g'.bP=g.bP∧g'.bh=g.bh∧(∀k,k≠o->g'.arr k=g.arr k)∧(∀k b,bz g' k b->bz g k b∨(k=o∧b∈bl))∧∀b∈bl,g'.arr o b=Z ⟨Z ⟨b,0,Y⟩,0,1,0⟩
 |[],g,f,_,_=>⟨g,f,mX.refl _,rfl,rfl,λ_ _=>rfl,λ_ _ h=>.inl h,λb v=>by cases v⟩
 |b::bl,g,f,hn,v=>by
  let ⟨b1,b2,b3,b4⟩:=v b eI
  have z:g.arr o b=Y:=by
   cases i:g.arr o b with
   |none=>rfl|some x=>
    exfalso;obtain⟨A,_,_,h,_⟩|⟨_,_,_,_,_,_,h,_⟩|⟨_,_,_,h,_⟩|h|⟨_,h1,h2,h3,_⟩:=(f.arr o b x i).2 _ m
    .cases A<;>cases h
    .cases h
    .cases h
    .cases h
    .exact b3 o ⟨h3,.inr ⟨b,x,_,i,h1,rfl,h2⟩⟩
  let r:Gh:={g with arr:=λk e=>if k=o∧e=b then Z ⟨Z ⟨b,0,Y⟩,0,1,0⟩else g.arr k e}
  have j:∀k e y,g.arr k e=Z y->r.arr k e=Z y:=λk e y h=>by
   grind
  have n:mX g r:=⟨λ_ _ h=>h,j,λ_ h=>h⟩;have l:∀k c,bz r k c->bz g k c∨(k=o∧c=b):=by
   rintro k c ⟨h1,h2|⟨e,x,F,h2,h3,h4,h5⟩⟩
   .exact .inl ⟨h1,.inl h2⟩
   .by_cases d:k=o∧e=b
    .grind
    .have h2:(if k=o∧e=b then Z ⟨Z ⟨b,0,Y⟩,0,1,0⟩else g.arr k e)=Z x:=h2;rw[bL d]at h2;exact .inl ⟨h1,.inr ⟨e,x,F,h2,h3,h4,h5⟩⟩
  have B:aV r s w:=by
   refine⟨f.aE,λk d=>⟨(f.ah k d).1,λe=>?_⟩,λk c p=>?_,λk e x i=>?_,f.bh,λk I c h h'=>?_⟩
   .show (if k=o∧e=b then _ else g.arr k e)=_;rw[bL (λh=>by omega)];exact(f.ah k d).2 e
   .let ⟨C,t,k3⟩:=f.box k c p
    exact⟨C,t,λob a=>let ⟨x,h1,h2⟩:=k3 ob a;⟨x,h1,h2.imp λ_ _ ht=>ht.le n⟩⟩
   .by_cases d:k=o∧e=b
    .have i:(if k=o∧e=b then Z ⟨Z ⟨b,0,Y⟩,0,1,0⟩else g.arr k e)=Z x:=i;rw[bw d]at i;cases i;obtain⟨rfl,rfl⟩:=d;refine⟨λF ha _=>by grind,λob a=>?_⟩;rw[m]at a;cases a;exact .inr (.inr (.inr (.inr ⟨rfl,rfl,by simp,b2,b4⟩)))
    .have E:g.arr k e=Z x:=by have i:(if k=o∧e=b then Z ⟨Z ⟨b,0,Y⟩,0,1,0⟩else g.arr k e)=Z x:=i;rwa [bL d]at i
     let ⟨C,t⟩:=f.arr k e x E
     refine⟨C,λob a=>?_⟩;by_cases q:k=o
     .subst q;rw[m]at a;cases a;obtain⟨A,_,_,h,_⟩|⟨_,_,_,_,_,_,h,_⟩|⟨_,_,_,h,_⟩|h|h:=t _ m
      .cases A<;>cases h
      .cases h
      .cases h
      .cases h
      .exact .inr (.inr (.inr (.inr h)))
     .exact (t ob a).tr (λh=>h.j8 rfl) j (funext λK=>by show(if k=o∧K=b then _ else g.arr k K)=_;rw[bL (λh=>q h.1)]) (λ_ _ _=>⟨rfl,vO⟩)
   .obtain P|⟨P,e2⟩:=l k c h
    .obtain R|⟨R,e4⟩:=l I c h'
     .exact f.jS k I c P R
     simp_all
    grind
  let ⟨g',q1,S,q3,q4,q5,q6,q7⟩:=B.Pc m u bl (Nd.1 hn).2 (λc p=>by
   grind)
  refine⟨g',q1,n.trans S,q3,q4,λk d=>(q5 k d).trans (funext λe=>by show(if k=o∧e=b then _ else g.arr k e)=_;rw[bL (λh=>d h.1)]),λk c hO=>?_,λc p=>?_⟩
  .grind
  .obtain rfl|p:=fS.1 p
   .exact S.arr o c _ (by show(if o=o∧c=c then _ else g.arr o c)=_;rw[bw ⟨rfl,rfl⟩])
   grind
def Marks(aE fl:Nat)(base:bX S×aY S)(c:bX S)(g:Gh)(w:World):Prop:=
 ∃os d,c.df=os.map sU.mark++d∧d.length=base.1.df.length∧os.Nodup∧(∀o∈os,aE<=o∧∀b,g.bP o=Z b->w.heap[b]?=Z (.deferred (Z [])))∧
  (os=[]∨∃a rest,base.1.df=.marks a::rest∧base.2.ob.get a=Z .Gd∧a<aE∧fl<=a)
theorem Marks.mono{aE fl:Nat}{base:bX S×aY S}{c:bX S}{g g':Gh}{w:World}{a:Act}(h:Marks aE fl base c g w)(hf:cR g (bB c) a w)(v:∀o b,g.bP o=Z b->g'.bP o=Z b):Marks aE fl base c g' w:=by
 let ⟨os,d,l,n,p,q,r⟩:=h
 refine⟨os,d,l,n,p,λo m=>⟨(q o m).1,λb x=>?_⟩,r⟩;have e:=hf.df;rw[show(bB c).df=(os.map sU.mark).map mh++d.map mh from by show c.df.map mh=_;rw[l,UW]]at e
 let ⟨y,z,_,f,_⟩:=e.split
 rw[List.map_map,show(mh∘sU.mark:Nat->Df)=Df.mark from rfl]at f
 let ⟨s,j,_⟩:=f.one
 obtain⟨i,t,rfl⟩:=rG m;have k:i<s.length:=by have:=j.1;omega
 have u:=j.2 i _ _ (iR t) (iR k)
 grind
def DD{aE:Nat}{s:aY S}{g:Gh}{w:World}(hs:aV g (aB s) w):∀{l:L (sU S)}{os:L Nat},uF aE s l=Z os->l=os.map sU.mark∧∀o∈os,aE<=o∧∀b,g.bP o=Z b->w.heap[b]?=Z (.deferred (Z []))
 |[],os,h=>by simp only[uF,gK]at h;subst h;exact⟨rfl,λo f=>by cases f⟩
 |.mark o::l,os,h=>by
  simp[uF]at h;split at h
  .rename_i i;obtain⟨j,h⟩|⟨_,h⟩:=af h
   .split at h
    .rename_i c;simp at h;subst h
     let ⟨h1,h2⟩:=DD hs c
     refine⟨by rw[h1];rfl,λe a=>?_⟩;obtain rfl|a:=fS.1 a
     .refine ⟨gN j,λb d=>?_⟩
      let ⟨x,k,c⟩:=(hs.box e b d).2.2 .Ah (by rw[aI,i];rfl)
      cases c;exact k
     .exact h2 e a
    .cases h
   .cases h
  .cases h
 |.call _ _::_,_,h=>by simp[uF]at h
 |.marks _::_,_,h=>by simp[uF]at h
 |.ko::_,_,h=>by simp[uF]at h
 |.bad::_,_,h=>by simp[uF]at h
theorem Aw{aE:Nat}{base:bX S×aY S}{fr':bX S}{s':aY S}{g:Gh}{w:World}(hs:aV g (aB s') w)(h:Qi aE base fr' s'=W):Marks aE s'.fl base fr' g w:=by
 unfold Qi at h;split at h;rotate_left
 .cases h
 rename_i os a;simp only[eZ,oG]at h
 let ⟨h1,h2,h3⟩:=h
 let ⟨b,c⟩:=DD hs a
 have h2:=beq_iff'.1 h2;rw[bS,bS,bS]at h2;refine⟨os,fr'.df.drop (Nat.sub (cD fr'.df) (cD base.1.df)),by rw[<-b,Xl],?_,lO h1,c,?_⟩
 .grind[bS]
 .obtain h3|h3:=h3
  .simp_all
  .right
   unfold aiK at h3;split at h3
   .split at h3
    .simp_all
    .cases h3
   .cases h3
def J5{ex:L Nat}(aqP:∀k∈ex,k∈ds){Qf:Sh}(hds:∀d∈ds,d<bC)(VJ:∀b∈bs,b<s1.aE∧b∉ow)(acD:s1.aE<=bC)(hlo:s.lo<=s1.aE)(how:∀o∈ow,s.lo<=o)(hgb:∀o b,g.bP o=Z b->o<s1.aE∧o∉ow)(hsh:Ft ds sh=W)(akP:s1.lo=s.lo)(akQ:s1.fl=s.fl)
  {a':Act} {w':World} {al:L eY} {gb gh:Gh} {Cs:bX S} {r:aY S}
  (VG:oD s.lo s.fl g w gh w') (hh:BH ex sh bs a' gb (cJ ds ow bs fr s1).1 (cJ ds ow bs fr s1).2 w' al gh Cs r)
  {B:bX S} {s2 s3:aY S} {g2 F:Gh} {a2:Act} {C:World} (p:eC r gh w' s2 g2 C) (hf2:cR g2 (bB B) a2 C) (hfo:dm ds Cs B s2.dr r.aE) (hn2:B.n=Cs.n) (hmk:Marks s1.aE s.fl (cJ ds ow bs fr s1) B g2 C)
  {x:ga S.A (lB Qf)} {Mu:L Nat} {vals:L Value} {BA:L eY} {bl2:L Nat} (f:HO Qf bs a2 g2 s2 C x s3 Mu F vals BA bl2)
  (hwr:Ut s1.aE bs s3.wr=W) (aj0:Mu.all (λo=>Nl s1.aE o)=W) (hdr:s3.dr.all (λo=>Nl s1.aE o)=W) :
  ∃I,xy Qf bs (cJ ds ow bs fr s1).1 (cJ ds ow bs fr s1).2 s g w x a2 I C vals BA bl2∧I.bh=F.bh:=by
 have akD:∀b∈bs,b<bC:=λb hb=>iO (VJ b hb).1 acD;have apW:(cJ ds ow bs fr s1).2.aE=s1.aE:=rfl;have hlen:s1.aE<=r.aE:=apW▸hh.aE;have aky:∀o∈s2.dr,s1.aE<=o:=λo ho=>by rw[kA]at hdr;exact gN (hdr o (f.dr▸ho))
 have Ek:=f.ZW.owned f.pr.iH;have akr:r.fl=s.fl:=hh.fl.trans (show(cJ ds ow bs fr s1).2.fl=s.fl from akQ);have agf:r.lo=s.lo:=hh.lo.trans (show(cJ ds ow bs fr s1).2.lo=s.lo from akP);have akt:oD s.lo s.fl g w g2 C:=VG.trans (akr▸agf▸p.ext);have YO:s2.fl=s.fl:=p.fl.trans akr;have aks:oD s.lo s.fl g w F C:=akt.trans (YO▸f.ext.Iu s.lo);have hQ:∀o,dL s2.dr r.aE o=W->dL ow s1.aE o=W:=λo ho=>by
  simp only[dL,oG,FJ,rF]at ho ⊢;obtain ho|ho:=ho
  .exact .inr (Nn (aky o ho))
  .have:=gN ho;exact .inr (Nn (by omega))
 have hT:∀t v,aH g2 C t v->dI (dL ow s1.aE) t=J->aH (F.base (dL ow s1.aE)) C t v:=λt v ht hm=>(ht.ext f.ext p.rel.bh).on (F.gE _) (λ_ _=>rfl) hm
 let ⟨os,d,e1,e2,aqb,K,DK⟩:=hmk
 have aqS:p7 (dL s2.dr r.aE) (cJ ds ow bs fr s1).1.df d:=by
  let ⟨c,d',k1,k2⟩:=hfo.df
  have hl:=k2.len;rw[hh.OL]at hl k2;have hdd:d'=d:=by have h1:c++d'=os.map sU.mark++d:=k1.symm.trans e1;exact(List.append_inj' h1 (by omega)).2
  rw[<-hdd];exact k2
 have hdb:=adf hQ (l:=fr.df) aqS;have akz:=hf2.df;rw[show(bB B).df=(os.map sU.mark).map mh++d.map mh from by show B.df.map mh=_;rw[e1,UW]]at akz
 let ⟨m1,m2,aj9,hd1,hd2⟩:=akz.split
 rw[List.map_map,show(mh∘sU.mark:Nat->Df)=Df.mark from rfl]at hd1
 let ⟨bl,E,hm1⟩:=hd1.one
 rw[hdb]at hd2;have hd3:=adg hT (l:=fr.df) hd2;have htm:∀k t,(bB (cJ ds ow bs fr s1).1).get k=Z t->∃v,a2.tmps[k]?=Z v∧aH (F.base (dL ow s1.aE)) C t v:=by
  intro k t hk;rw[bW,fM]at hk;obtain⟨v,hv,rfl⟩:=hk
  let ⟨h1,h2,h3⟩:=Bt hds hv
  have hgh:Cs.get k=Z v:=by
   rw[hh.get k (λhm=>h1 (aqP k hm)) (λq hq hqk=>?_)]
   .exact hv
   .let ⟨qk,qp⟩:=q
    cases qp with|box cs=>rfl|hid cs=>rfl|one c=>unfold Ft at hsh;rw[kA]at hsh;have:=hsh _ hq;subst hqk;exact absurd (by simpa using this) h1
  obtain h4|h4:=hfo.tm k v h1 hgh
  .let ⟨u,hu,hr⟩:=hf2.tm k (low v) (by rw[bW,h4];rfl)
   exact⟨u,hu,(hr.ext f.ext p.rel.bh).on (F.gE _) (λ_ _=>rfl) (by rw[ia];exact h3)⟩
  .exfalso
   let ⟨o,TH,ho2⟩:=Vm h4 h3
   have:=(lN ho2).2;simp only[dL,oG,FJ,rF]at TH;obtain TH|TH:=TH
   .have:=aky o TH;omega
   .have:=gN TH;omega
 have hp':HO Qf bs {a2 with defers:=[]} g2 s2 C x s3 Mu F vals BA bl2:=⟨f.rel,f.ext,f.pr,iS.tmps (a:=a2) (a':={a2 with defers:=[]}) rfl f.at_,f.ZW,f.Io,f.now,f.XQ,f.nbs,f.T4,f.fl,f.lo,f.aE,f.ug,f.same,f.dr,f.ap,f.owb⟩;have hsz:a2.tmps.size=(cJ ds ow bs fr s1).1.n:=hf2.size.trans (hn2.trans hh.n);have m:=RJ (fr:=fr) hds VJ acD hlo how hgb akP akQ VG hh p hp' hwr aj0 hdr (jP:={(cJ ds ow bs fr s1).1 with df:=[]}) ⟨hsz,.nil,htm⟩;obtain rfl|⟨oB,rest,akA,aj8,aqv,hflB⟩:=DK
 .have Rf:bl=[]:=Eg (by have:=E.1;simpa using this.symm);subst Rf;subst hm1;exact⟨_,⟨m.rel,⟨hsz,by rw[aj9];exact hd3,htm⟩,m.pr,f.at_,m.Io,m.XZ,m.fresh,m.ap,m.ext,m.alo⟩,rfl⟩
 have hmb:(aB (cJ ds ow bs fr s1).2).ob.get oB=Z .Gd:=by rw[aI,aj8];rfl
 have A:∀b∈bl,∃o∈os,g2.bP o=Z b:=λb hb=>by
  obtain⟨i,hi,rfl⟩:=rG hb;have P:i<os.length:=by have:=E.1;omega
  exact⟨os[i],Nh P,E.2 i _ _ (iR P) (iR hi)⟩
 have R:∀{o b:Nat},g2.bP o=Z b->bz F o b:=λ{o b}hb=>⟨(f.rel.box o b (f.ext.bP o b hb)).1,.inl (f.ext.bP o b hb)⟩;have acN:bl.Nodup:=by
  refine QB.2 λi j hi hj hij heq=>?_;have hlen:=E.1;have P:i<os.length:=by omega
  have hj':j<os.length:=by omega
  have e1:=E.2 i _ _ (iR P) (iR hi);have e2:=E.2 j _ _ (iR hj') (iR hj);rw[<-heq]at e2;exact(QB.1 aqb i j P hj' hij) (f.rel.jS _ _ _ (R e1) (R e2))
 have aj6:∀b∈bl,∀k,¬bz (F.base (dL ow s1.aE)) k b:=λb hb k hO=>by
  let ⟨o,ho,z⟩:=A b hb
  let ⟨h1,h2⟩:=Gh.fI hO
  have:=f.rel.jS k o b h2 (R z);subst this;have:=(lN h1).2;have:=(K k ho).1;omega
 let ⟨I,q1,q2,q3,q4,q5,q6,q7⟩:=m.rel.Pc hmb aqv bl acN (λb hb=>by
  let ⟨o,ho,z⟩:=A b hb
  exact⟨(p.rel.box o b z).2.1,(f.rel.box o b (f.ext.bP o b z)).1,aj6 b hb,(K o ho).2 b z⟩)
 have hd4:eL (F.base (dL ow s1.aE)) C ((sU.marks oB::rest).map mh) m2:=akA▸hd3;have hdf:eL I C ((cJ ds ow bs fr s1).1.df.map mh) a2.defers:=by
  rw[akA,aj9,hm1];cases hd4 with
  |cons k _=>cases k
  |marks _ ms hnm hms ht=>
  rw[<-AF,<-UW];refine .marks oB (bl++ms) (List.nodup_append.2 ⟨acN,hnm,λb hb c hc hbc=>?_⟩) (λb hb=>?_) (ht.imp (λt v ht=>ht.le q2) q2.bP)
  .subst hbc
   let ⟨n,c',hr⟩:=hms b hc
   cases hr with
   |sh _ _ _ _ sz _ hx=>
   obtain⟨fz,_,_,h,_⟩|⟨_,_,_,_,_,_,h,_⟩|⟨_,_,_,h,_⟩|h|⟨_,h1,h2,h3,_⟩:=(m.rel.arr oB b _ hx).2 _ hmb
   .cases fz<;>cases h
   .cases h
   .cases h
   .cases h
   .exact aj6 b hb oB ⟨h3,.inr ⟨b,_,_,hx,h1,rfl,h2⟩⟩
  .obtain hb|hb:=eS.1 hb
   .exact ⟨0,1,.sh _ _ _ _ 0 _ (q7 b hb)⟩
   .let ⟨n,c,hr⟩:=hms b hb
    exact⟨n,c,hr.le q2⟩
 have hfresh:∀b∈bl,(∃o,s.fl<=o∧bz g o b)∨w.heap.size<=b:=λb hb=>by
  let ⟨o,ho,z⟩:=A b hb
  exact aks.own o b (by have:=(K o ho).1;omega) (R z)
 refine⟨I,⟨q1,⟨hsz,hdf,λk t hk=>let ⟨v,hv,ht⟩:=htm k t hk;⟨v,hv,ht.le q2⟩⟩,q4▸m.pr,f.at_,⟨m.Io.1,λj o b h1 h2=>by rw[q3];exact m.Io.2 j o b h1 h2⟩,λo ho e=>?_,λa' ha b hb o hO=>?_,m.ap,⟨λo b hb=>?_,λo e y hl hy=>?_,λb hb=>?_,m.ext.size,m.ext.heap,λo b ho hO=>?_,λb hb=>?_,m.ext.os,m.ext.output⟩,m.alo⟩,q4⟩
 .rw[q5 o (λh=>by
   subst h;have:=ua (ow:=ow) (ds:=ds) (fr:=fr) (s1:=s1) akD o;rw[bw ho,aj8]at this;cases this)]
  exact m.XZ o ho e
 .obtain hO|⟨_,agv⟩:=q6 o b hO
  .exact m.fresh a' ha b hb o hO
  .let ⟨o1,TH,Cr⟩:=A b agv
   let ⟨o2,ho2,VM⟩:=Ek a' ha b hb
   have:=f.rel.jS o1 o2 b (R Cr) VM;subst this;rw[f.owb o1 ho2]at Cr;cases Cr
 .rw[q3];exact m.ext.bP o b hb
 .exact q2.arr o e y (m.ext.arr o e y hl hy)
 .exact q2.bh b (m.ext.bh b hb)
 .obtain hO|⟨_,agv⟩:=q6 o b hO
  .exact m.ext.own o b ho hO
  .exact hfresh b agv
 .rw[q4]at hb;exact m.ext.og b hb
theorem V9{ex:L Nat}{k:Sh}{jP:bX S}(hs:aV g (aB s) w){q:Gh}{e:L Value}{l:L eY}{m:L Nat}{r:ga S.A (lB sh)}(c:HO sh bs a g s w r s1 ow q e l m)
  {a':Act} {w':World} {al:L eY} {gb n:Gh} {p:bX S} {f:aY S} (h:oD s.lo s.fl g w n w') (i:BH ex k bs a' gb jP (cJ ds ow bs fr s1).2 w' al n p f) :
  eC s g w {f with wr:=s1.ob.jH (gD (dL ow s1.aE))++(bs++s1.wr),dr:=ow++s1.dr} n w':=by
 have j:∀b∈bs,b<bC:=λb t=>iO (c.T4 b t).2.1 hs.aE;refine⟨i.rel,h,i.fl.trans c.fl,i.lo.trans c.lo,?_,λo d=>?_,λo u d=>?_,λo d=>?_⟩
 .have:=i.aE;have v:(cJ ds ow bs fr s1).2.aE=s1.aE:=rfl;have:=c.aE
  simp_all
 .exact eP _ (eP _ (c.ug o d))
 .simp at d;have h1:f.ob.get o=(cJ ds ow bs fr s1).2.ob.get o:=i.ob o (by show o<s1.aE;have:=c.aE;omega) d.2.1;rw[h1,ua j,bL d.2.1,<-c.same o d.2.2];cases x:s1.ob.get o with
  |none=>rfl|some ob=>
   grind[oz,Tr.qN]
 .exact eP _ (by rw[c.dr];exact d)
theorem O3{ex:L Nat}(f:∀k∈ex,k∈ds){h:Sh}(hs:aV g (aB s) w)(m:∀d∈ds,d<bC){z:Gh}{b:L Value}{n:L eY}{p:L Nat}{A:ga S.A (lB sh)}(r:HO sh bs a g s w A s1 ow z b n p)(B:Ft ds h=W)
  {a':Act} {w':World} {al:L eY} {gb t:Gh} {e:bX S} {i:aY S} (j:oD s.lo s.fl g w t w') (l:BH ex h bs a' gb (cJ ds ow bs fr s1).1 (cJ ds ow bs fr s1).2 w' al t e i) :
  eC s g w {i with wr:=s1.ob.jH (gD (dL ow s1.aE))++(bs++s1.wr),dr:=ow++s1.dr} t w'∧dm ds fr e (ow++s1.dr) s.aE∧e.n=fr.n:=by
 refine⟨V9 (fr:=fr) hs r j l,⟨λk v y C=>?_,?_⟩,l.n⟩
 .cases u:cG (dL ow s1.aE) v with
  |true=>exact .inr (ek (iV (λo x=>fL _ x) (by rw[r.aE];omega)) v u)
  |false=>
   left
   rw[l.get k (λu=>y (f k u)) (λq K E=>?_),T7 m,bL y,C]
   .simp_all
   .let ⟨P,F⟩:=q
    cases F with
    |box I=>rfl|hid I=>rfl|one c=>
     grind[Ft]
 .rw[l.OL];exact(uW (iV (λo x=>fL _ x) (by rw[r.aE];omega)) (λv=>rfl) fr.df).ok
end
theorem KC{g:Gh}{w:World}{fr:bX S}{a:Act}(hf:cR g (bB fr) a w):∀{rv:Rv}{vs:L (V S)},W4 fr rv=Z vs->∃vals,iS a (rv.map λp=>(p.1,Pk.one (.dat p.2))) vals∧PW (aH g w) (bq vs) vals
 |[],vs,h=>by simp only[W4,gK]at h;subst h;exact⟨[],trivial,rfl,λj t v h=>by grind⟩
 |(k,c)::l,vs,h=>by
  simp[W4]at h;split at h
  .rename_i v r h1 h2;simp at h;subst h
   let ⟨vals,h3,h4⟩:=KC hf h2
   let ⟨u,b,i⟩:=hf.tm k (low v) (by rw[bW,h1];rfl)
   refine⟨u::vals,⟨b,h3⟩,by simp[bq,ny,h4.1],λj t d e f=>?_⟩;cases j with|zero=>grind[bq]|succ j=>exact h4.2 j t d (by simpa[bq]using e) (by simpa using f)
  .cases h
def v8{g:Gh}{w:World}{a:Act}:∀{rv:Rv}{r:gx S.A (Fv rv)}{vals:L Value}{al:L eY}{I:Nat->Prop}{fr:bX S},jJ S I w (Fv rv) r vals al->(∀b,I b->g.bh b)->iS a (rv.map λp=>(p.1,Pk.one (.dat p.2))) vals->
  fr.n<=bC->cR g (bB fr) a w->cR g (bB (yF rv r fr)) a w∧(yF rv r fr).n=fr.n∧∀k,k∉rv.map (·.1)->(yF rv r fr).get k=fr.get k
 |[],r,vals,al,I,fr,_,_,_,_,f=>⟨f,rfl,λ_ _=>rfl⟩|(k,t)::rv,r,vals,al,I,fr,q,n,e,l,f=>by
  cases q with
  | @dat _ _ x h v z al s u=>
  let ⟨o,e⟩:=e
  have d:k<fr.n:=by have:=(Xj.1 o).1;rw[f.size]at this;exact this
  have m:cR g (bB (fr.put k (.ty t x))) a w:=by
   refine⟨f.size,f.df,λj y c=>?_⟩;rw[bW,bX.jO _ _ _ _ (iO d l)]at c;by_cases i:j=k
   .subst i;rw[bw rfl]at c;simp at c;subst c;exact⟨v,o,qu (s.le n)⟩
   .rw[bL i]at c;exact f.tm j y (by rw[bW];exact c)
  let ⟨h1,h2,h3⟩:=v8 (rv:=rv) (fr:=fr.put k (.ty t x)) u n e l m
  refine⟨h1,h2,λj c=>?_⟩;simp only[pG,fS,not_or]at c;rw[show yF ((k,t)::rv) (x,h) fr=yF rv h (fr.put k (.ty t x))from rfl,h3 j c.2,bX.jO _ _ _ _ (iO d l),bL c.1]
theorem zq{ω:Type}{Q:vo S->bX S->aY S->O ω}{fr:bX S}{s:aY S}{r:ω}:∀{l:L Nat}{i:Nat},i∈l->abI Q fr s l (acu l i)=Z r->Q (.ext i) fr s=Z r
 |[],i,a,_=>by cases a
 |[j],i,a,h=>by simp at a;subst a;exact h
 |j::c::l,i,a,h=>by
  simp only[acu]at h;cases b:Nq j i with
  |true=>rw[b]at h;have:=beq_iff'.1 b;subst this;exact h|false=>
   rw[b]at h;have d:j≠i:=λe=>by simp_all
   refine zq (l:=c::l) ?_ h
   grind
end
theorem FH{st:LoopState}{a:O Code}(h:KF st a=W):st=.ready∧a=Y:=by
 unfold KF at h
 grind
def XS{st:LoopState}{a:O Code}{ex:vo S}(h:afq st a=Z ex):st≠.busy∧((a=Y∧ex=.rR)∨(∃i,a=Z (.exit i)∧ex=.ext i)∨(a=Z .ret∧ex=.ret)):=by unfold afq at h;split at h<;>simp_all
theorem Rl{g:Gh}{w:World}{fr:bX S}{a:Act}(hf:cR g (bB fr) a w)(hn:fr.n<=bC)(l:L Nat):∀k t,(bB (Om l fr)).get k=Z t->∃v,a.tmps[k]?=Z v∧aH g w t v:=by
 have key:∀(l:L Nat)(t0:Tr (V S)),(∀k v,t0.get k=Z v->fr.get k=Z v)->∀k v,(l.foldl (λt k=>match fr.get k with|some v=>t.set aK k v|none=>t) t0).get k=Z v->fr.get k=Z v:=by
  intro l
  induction l with
  |nil=>grind|cons j l d=>
   intro t0 h;rw[Nx];refine d _ λk v b=>?_;split at b
   .rename_i u e;have f:j<bC:=by
     have:(bB fr).get j=Z (low u):=by rw[bW,e];rfl
     obtain⟨x,i,_⟩:=hf.tm j _ this;have:=hf.size;have h2:=(Xj.1 i).1;have h3:(bB fr).n=fr.n:=rfl;omega
    rw[Tr.aR _ _ _ _ f]at b
    grind
   grind
 intro k t b;rw[bW]at b;cases c:(Om l fr).get k with|none=>simp_all|some v=>rw[c]at b;have h1:=key l .nil (λk v h=>by simp[Tr.get_nil]at h) k v c;exact hf.tm k t (by rw[bW,h1];exact b)
theorem M9{E:eF S}(hE:fe E){call:fY S}(wK:gH E.T.E.P call)(n:Nat)(fid:FuncId)(rv:Rv){gv:Operand}{ps:Array Tmp}{q body:Code}{i:Nat}{ω:Type}{Q:vo S->bX S->aY S->O ω}{r:ω}{fr:bX S}{s:aY S}
  (h:zK E call n fid rv (.rangeFunc gv ps q body) i Q fr s=Z r) (hn:fr.n<=bC) {g:Gh} {a:Act} {w:World} (hf:cR g (bB fr) a w) (hs:aV g (aB s) w) :
  (Code.rangeFunc gv ps q body).wpIn (WR Y) 0 E.T.E.P (IY (eK (.rangeFunc gv ps q body)++rv.map (·.1)) fr s g w Q r) a w:=by
 simp only[zK]at h;split at h
 .cases h
 rename_i args hfa;obtain⟨hb,h1⟩|⟨_,h1⟩:=af h
 rotate_left
 .cases h1
 clear h;simp only[eZ]at hb;obtain⟨_,_,agl,z⟩:=hb;have z:s.aE+1<bC:=gN z;simp only[vP]at hfa;obtain⟨tf,htf,Ll⟩:=hfa;have YE:=bR hf (cz htf);have m:=r6 Ll;unfold xY at m;split at m;rotate_left
 .cases m
 rename_i f' first cap C
 simp only[gK,fh]at m;obtain⟨rfl,I⟩:=m;rw[C]at YE;generalize hvf:a.eval gv=vf at YE;cases YE with
 |fn _ _ _ va vc l1 l2 r1 r2=>
 obtain⟨Af,he1⟩:=hs.newObj (ob0:=.Ah) (x0:=.deferred (Z [])) (by show s.aE<bC;omega) .Ah;have afZ:(eg (aB s) Ob.Ah).2=aB (dh s .Ah):=(gV s .Ah).symm;rw[afZ]at Af;refine wpIn_rangeFunc λfn _=>?_
 let b:Loop:={state:=.ready,pending:=Y,fn,tmps:=a.tmps,params:=ps,assign:=q,body,defers:=w.heap.size}
 let lv:LpV S:=⟨.ready,Y,fid,Om (vw q++vw body) fr,ps.toList,q,body⟩
 have hf1:cR (g.dD (aB s).aE w.heap.size) (bB fr) a (w.alloc (.deferred (Z []))):=hf.ext he1 hs.bh;obtain⟨R,VH⟩:=Af.newObj (ob0:=.lp (tI lv)) (x0:=.loop b) (by show s.aE+1<bC;exact z)
  (.lp _ b rfl rfl rfl rfl rfl hf1.size (Rl hf1 hn _))
 have apQ:(eg (aB (dh s .Ah)) (Ob.lp (tI lv))).2=aB (dh (dh s .Ah) (.lp lv)):=(gV _ (.lp lv)).symm;rw[apQ]at R;have A:(Instr.enterLoop fn a.tmps ps q body Y).run E.T.E.P w=.ok (w.heap.size+1,[{target:=.collected w.heap.size,args:=#[]}]) ((w.alloc (.deferred (Z []))).alloc (.loop b)):=run_enterLoop_outer _ _ _ _ _;generalize hW2:(w.alloc (.deferred (Z []))).alloc (.loop b)=W2 at R VH A;generalize hg2:(g.dD (aB s).aE w.heap.size).dD (aB (dh s .Ah)).aE (w.alloc (.deferred (Z []))).heap.size=g2 at R VH;have akE:g2.bP s.aE=Z w.heap.size:=by rw[<-hg2];simp[Gh.dD,aB,dh]
 have F:g2.bP (s.aE+1)=Z (w.heap.size+1):=by rw[<-hg2];simp[Gh.dD,aB,dh]
 have he:Ext s.fl g w g2 W2:=he1.trans VH;have hall:PW (aH g2 W2) (bq args) (va++#[Value.func (.yield (w.heap.size+1)) #[] #[]]++vc).toList:=by rw[<-I];simp only[UY];refine PW.append (PW.append ⟨by simpa using l1,λj x y h1 h2=>(r1 j x y h1 (by simpa using h2)).ext he hs.bh⟩ ⟨rfl,λj x y h1 h2=>?_⟩) ⟨by simpa using l2,λj x y h1 h2=>(r2 j x y h1 (by simpa using h2)).ext he hs.bh⟩;cases j with|zero=>simp only[bq,Nk,gK]at h1 h2;subst h1;subst h2;exact .rE _ _ F|succ j=>grind
 obtain⟨Oh,hc⟩:=Bc hE wK R h1 hall;refine⟨w.heap.size+1,[{target:=.collected w.heap.size,args:=#[]}],W2,{target:=.fn (.func f') vc,args:=va++#[Value.func (.yield (w.heap.size+1)) #[] #[]]},W2,f',va++#[Value.func (.yield (w.heap.size+1)) #[] #[]]++vc,W2,A,?_,λ_ _=>trivial,?_,λh=>by simp[Fence.wide]at h,RC.2 (hc.mono λe w' he'=>?_)⟩
 .simp_all[rangeCall,resolve,Deferred.ofValue,run_bind,run_pure,andThen_ok,Act.eval]
 .grind[invoke,xI]
 cases e with
 |panicked ch=>obtain⟨v,t,B,g',_,h1,_⟩:=he';cases h1
 |outgrown=>exact he'.elim|returned v=>
 obtain⟨t,B,g',ow,h1,_,f⟩:=he';dsimp only at h1;split at h1;rotate_left
 .cases h1
 rename_i l ho;split at h1;rotate_left
 .cases h1
 rename_i ex hox;obtain⟨hst,hpe⟩:=XS hox;have u:=f.ext.bP _ _ F;have ho':(aB B).ob.get (s.aE+1)=Z (.lp (tI l)):=by rw[aI,show B.ob.get (s.aE+1)=Z (.lp l)from ho];rfl
 obtain⟨x,hx,hr⟩:=(f.rel.box _ _ u).2.2 _ ho';cases hr with
 |lp _ L' q1 q2 q4 q5 q6 q8 q9=>
 have hfl:B.fl<=s.aE+1:=by
  have h0:B.fl=s.fl:=f.fl
  simp_all
 obtain⟨Q5,EW⟩:=f.rel.setObj (w':=w'.putObj (w.heap.size+1) (.loop {L' with state:=.exhausted})) u ho' rfl hfl (x':=.loop {L' with state:=.exhausted}) (ob':=.lp (tI {l with st:=.exhausted})) (.lp _ _ rfl q2 q4 q5 q6 q8 q9)
  World.putObj_size (λb' hb'=>World.putObj_heap_other hb') (World.putObj_heap_same (f.rel.box _ _ u).2.1) rfl rfl
 have hfo:dm [] fr (dy ow fr) B.dr s.aE:=BY hn (dst:=Y) rfl f.owd s.aE fR;have key:∀e,I1 g' (w'.putObj (w.heap.size+1) (.loop {L' with state:=.exhausted})) ex e->IY (eK (.rangeFunc gv ps q body)++rv.map (·.1)) fr s g w Q r e {a with defers:=[{target:=.collected w.heap.size,args:=#[]}]++a.defers} (w'.putObj (w.heap.size+1) (.loop {L' with state:=.exhausted})):=λe hx0=>by
  refine .inr ⟨ex,_,_,g',hx0,h1,tP ow fr,?_,?_,⟨λk v _ hk=>hfo.tm k v (λh=>by cases h) hk,?_⟩⟩;rotate_left;rotate_left
  .obtain ⟨c,d,q1,q2⟩:=hfo.df;exact⟨_::c,d,by show _::(dy ow fr).df=_;rw[show(dy ow fr).df=c++d from q1];rfl,q2⟩
  .have hf2:cR g2 (bB fr) a W2:=hf.ext he hs.bh;have hf3:cR g' (bB (dy ow fr)) a w':=nT hf2 f;have hf4:=hf3.ext EW f.rel.bh;exact⟨hf4.size,.cons (.mark _ _ (f.ext.bP _ _ akE)) hf4.df,hf4.tm⟩
  .have hn1:s.aE<bC:=by omega
   have hl1:=js s (.Ah:u9 S) hn1;have hl2:=js (dh s (.Ah:u9 S)) (.lp lv) z;have C:aB {B with ob:=B.ob.set aK (Ns s.aE) (.lp {l with st:=.exhausted})}={aB B with ob:=(aB B).ob.set aK (s.aE+1) (cW (.lp {l with st:=.exhausted}))}:=ey B _ _ B.wr;refine⟨by rw[C];exact Q5,(he.Iu s.lo).trans ((show oD s.lo s.fl g2 _ g' w' from f.ext).trans ?_),f.fl,f.lo,fZ (by show s.aE<=s.aE+1+1;omega) f.aE,λo ho=>f.ug o ho,λo ho hno=>?_,λo ho=>f.Ho o ho⟩
   .have:=EW.Iu s.lo;rw[show(aB B).fl=s.fl from f.fl]at this;exact this
   .have e1:o≠Ns s.aE:=by omega
    show(B.ob.set aK (Ns s.aE) _).get o=_;rw[Tr.dA _ _ _ _ _ e1,f.same o (by show o<s.aE+1+1;omega) hno,hl2.same o (by show o<s.aE+1;omega) (λhm=>hno (f.ug o hm)),hl1.same o ho (λhm=>hno (f.ug o hm))]
 refine⟨l.vS,w'.putObj (w.heap.size+1) (.loop {L' with state:=.exhausted}),?_,?_⟩
 .have:=run_endLoop (P:=E.T.E.P) hx (by rw[q1];exact hst);rw[this,q2];rfl
 obtain⟨h0,rfl⟩|⟨i,h0,rfl⟩|⟨h0,rfl⟩:=hpe<;>rw[h0]
 .exact key _ .rR
 .exact wpIn_exit (key _ (.ext i))
 .exact wpIn_ret (key _ .ret)
section
def sS(E:eF S)(call:fY S):Prop:=
 ∀(id:Nat)(ops:Array Oper){ω:Type}(kp:bX S->V S->aY S->O ω)(k:bX S->aY S->O ω)(r:ω)(fr:bX S)(s:aY S),
  Zv E fr s ops.toList (w7 ops.toList)=W->
  uP E call ops.toList (w7 ops.toList) (ops.toList.zipIdx.map λp=>(p.2,p.1)) kp k (Ns (Nat.mul 2 (cD ops.toList))) 0 fr s=Z r->fr.n<=bC->
  ∀{g:Gh}{a:Act}{w:World},cR g (bB fr) a w->aV g (aB s) w->∀{Q:Exit->Act->World->Prop},
  (∀fr' s' g' a' w',k fr' s'=Z r->fr'.n=fr.n->cR g' (bB fr') a' w'->eC s g w s' g' w'->dm (ops.toList.filterMap (·.dst)) fr fr' s'.dr s.aE->Q .normal a' w')->
  (∀fr' t s' g' a' v w',kp fr' t s'=Z r->fr'.n=fr.n->cR g' (bB fr') a' w'->eC s g w s' g' w'->dm (ops.toList.filterMap (·.dst)) fr fr' s'.dr s.aE->aH g' w' (low t) v->Q (.panic [{v,recovered:=J}]) a' w')->
  ∀rr:O Nat,(rr≠Y->PG (.region id ops W)=W)->(Code.region id ops W).wpIn (WR rr) 0 E.T.E.P Q a w
theorem qF{s:aY S}:∀{cs:L Ck}{l:L (V S)}{x:gx S.A cs}{fz ow:L Nat},jI cs=W->gf s cs l=Z (x,fz,ow)->ow=[]
 |[],[],x,fz,ow,_,h=>by
  grind[gf]
 |.dat t::cs,v::l,x,fz,ow,a,h=>by
  simp[gf]at h;split at h
  .rename_i b;obtain⟨_,_,rfl⟩:=h;have:=qF (cs:=cs) (by simpa[jI]using a) b
   grind[o4]
  .cases h
 |.own _::_,_,_,_,_,a,_=>by simp[jI]at a
 |.j3 ..::_,_,_,_,_,a,_=>by simp[jI]at a
 |.nil _::_,_,_,_,_,a,_=>by simp[jI]at a
 |.ptr _::_,_,_,_,_,a,_=>by simp[jI]at a
 |[],_::_,_,_,_,_,h=>by simp[gf]at h
 |.dat _::_,[],_,_,_,_,h=>by simp[gf]at h
def CS:∀rv:Rv,jI (Fv rv)=W
 |[]=>rfl|_::rv=>CS rv
def Lc(fr:bX S)(c:Operand)(b:Bool):(fr.tK c b).n=fr.n:=by
 unfold bX.tK;split
 .rename_i k;cases Nt k fr.n<;>rfl
 .rfl
variable {w:World}{fr:bX S}{a:Act}{c:Code}{b:Bool}{k:Nat}{rr:Option Nat}{P:Program}{Q:Exit->Act->World->Prop}
def Gu{g:Gh}{c:Operand}(hn:fr.n<=bC)(hf:cR g (bB fr) a w)(i:a.eval c=.bool b):cR g (bB (fr.tK c b)) a w:=by
 unfold bX.tK;split
 .rename_i k;cases l:Nt k fr.n with
  |false=>exact hf|true=>
   have e:k<fr.n:=gN l;refine⟨hf.size,hf.df,λj t d=>?_⟩;simp at d;rw[bW,bX.jO _ _ _ _ (iO e hn)]at d;by_cases f:j=k
   .subst f;rw[bw rfl]at d;simp at d;subst d;have h:j<a.tmps.size:=by rw[hf.size];exact e
    have:a.tmps[j]?=Z (.bool b):=by have:=i;simp[Act.eval,Array.getD_eq_getD_getElem?,uy h,Qz]at this;rw[uy h,this]
    exact⟨_,this,.kb b⟩
   .rw[bL f]at d;exact hf.tm j t (by rw[bW];exact d)
 .exact hf
def Tx(hn:fr.n<=bC)(c:Operand)(b:Bool)(dr:L Nat)(aE:Nat):dm (T0 c) fr (fr.tK c b) dr aE:=by
 unfold bX.tK;split
 .rename_i k;cases d:Nt k fr.n with|false=>exact dm.refl _ _ _ _|true=>have a:k<fr.n:=gN d;refine⟨λj v e f=>.inl ?_,yC.refl _ _⟩;simp;rw[bX.jO _ _ _ _ (iO a hn),bL (by simpa[T0]using e)];exact f
 .exact dm.refl _ _ _ _
theorem We{ω:Type}{e:Bool}{x y:O ω}{r:ω}(h:IV e x y=Z r):y=Z r∧(e=W->x=Z r):=by
 unfold IV at h
 grind
def qy(ds:L Nat):∀sh:Sh,Ft ds (PF sh)=W
 |[]=>rfl|(_,.one _)::l=>qy ds l|(_,.box _)::l=>by
  have:=qy ds l
  simp_all[PF,Ft]
 |(_,.hid _)::l=>by
  have:=qy ds l
  simp_all[PF,Ft]
theorem jX{s:aY S}{fr:bX S}{k o r:Nat}(i:fr.get k=Z (.sh o r)):∀{sh:Sh}{ps:L Pk}{bs:L Nat}{vs:L (V S)}{nx:O Nat}{x:ga S.A ps}{fz ow f:L Nat},lB sh=ps->vN fr sh bs=Z vs->eD s ps vs nx=Z (x,fz,ow,f)->k∈QG sh->o∈ow
 |[],_,_,_,_,_,_,_,_,_,_,_,d=>by simp[QG]at d
 |(j,.one c)::sh,ps,bs,vs,nx,x,fz,ow,f,a,h1,h2,d=>by
  simp[vN]at h1;split at h1;rotate_left
  .cases h1
  rename_i p m g;simp at h1;subst h1
  replace a:Pk.one c::lB sh=ps:=a
  subst a;simp[eD]at h2;split at h2;rotate_left
  .cases h2
  rename_i q h;obtain⟨_,_,rfl,_⟩:=h2;cases c with
  |dat t=>exact eP _ (jX i rfl g h d)|j3 n j t=>exact eP _ (jX i rfl g h d)|nil e=>exact eP _ (jX i rfl g h d)|ptr t=>exact eP _ (jX i rfl g h d)|own e=>
   obtain rfl|d:=fS.1 d
   .rw[i]at m;cases m;simp[o4]at q
    grind
   .exact eP _ (jX i rfl g h d)
 |(j,.box l)::sh,ps,[],vs,nx,x,fz,ow,f,a,h1,h2,d=>by simp[vN]at h1
 |(j,.box l)::sh,ps,b::bs,vs,nx,x,fz,ow,f,a,h1,h2,d=>by
  simp[vN]at h1;split at h1;rotate_left
  .cases h1
  rename_i g;simp at h1;subst h1
  replace a:Pk.box l::lB sh=ps:=a
  subst a;simp[eD]at h2;split at h2;rotate_left
  .cases h2
  obtain⟨_,h2⟩|⟨_,h2⟩:=af h2
  rotate_left
  .cases h2
  split at h2;rotate_left
  .cases h2
  split at h2;rotate_left
  .cases h2
  rename_i h;obtain⟨_,_,rfl,_⟩:=h2;exact eP _ (jX i rfl g h d)
 |(j,.hid l)::sh,ps,[],vs,nx,x,fz,ow,f,a,h1,h2,d=>by simp[vN]at h1
 |(j,.hid l)::sh,ps,b::bs,vs,Y,x,fz,ow,f,a,h1,h2,d=>by
  replace a:Pk.hid l::lB sh=ps:=a
  subst a;cases vs<;>simp[eD]at h2
 |(j,.hid l)::sh,ps,b::bs,vs,Z u,x,fz,ow,f,a,h1,h2,d=>by
  simp[vN]at h1
  replace a:Pk.hid l::lB sh=ps:=a
  subst a;obtain⟨_,h2⟩|⟨_,h2⟩:=af h2
  rotate_left
  .cases h2
  split at h2;rotate_left
  .cases h2
  split at h2;rotate_left
  .cases h2
  rename_i h;obtain⟨_,_,rfl,_⟩:=h2;exact eP _ (jX i rfl h1 h d)
def nU{ds:L Nat}{k:Nat}:∀{sh:Sh},k∈Zl ds sh->k∈QG sh
 |[],h=>h|(j,.one (.own e))::sh,h=>by
  simp only[Zl]at h;simp[QG,fS];obtain a|a:=Bool.eq_false_or_eq_true (ds.contains j)
  .rw[a]at h;exact .inr (nU h)
  .rw[a]at h;obtain rfl|h:=fS.1 h
   .exact .inl rfl
   .exact .inr (nU h)
 |(j,.one (.dat t))::sh,h=>nU (sh:=sh) h|(j,.one (.j3 ..))::sh,h=>nU (sh:=sh) h|(j,.one (.nil _))::sh,h=>nU (sh:=sh) h|(j,.one (.ptr _))::sh,h=>nU (sh:=sh) h|(j,.box b)::sh,h=>nU (sh:=sh) h|(j,.hid b)::sh,h=>nU (sh:=sh) h
def XR{s c:aY S}{sh:Sh}{bs ow:L Nat}{x:ga S.A (lB sh)}{o r:Nat}(h:qE sh bs fr s=Z (x,c,ow))(d:k∈QG sh)(e:fr.get k=Z (.sh o r)):o∈ow:=by
 unfold qE at h;split at h
 .cases h
 rename_i a;split at h
 .cases h
 rename_i b;split at h
 .cases h
 obtain⟨_,h2⟩|⟨_,h2⟩:=af h
 .obtain ⟨_,_,rfl⟩:=h2;exact jX e rfl a b d
 .cases h2
def HQ(rr:O Nat)(P:Program)(c:Code)(Q:Exit->Act->World->Prop)(a:Act)(w:World):Prop:=
 ∀(b:Frame)(k:L Item)(cs:L Frame),b.roundOf=rr->∃e a' w',Q e a' w'∧adQ rr P (lone (b.atR a (.code c::.inLoop c::k)) cs w) b k cs e a' w'
def Km(h:HQ rr P c Q a w):(Code.loop c).wpIn (WR rr) 0 P Q a w:=λb k g f _ _=>
 let ⟨e,i,j,l,d⟩:=h b k g f
 ⟨e,i,j,l,.of_steps (gn.2 (.one stepR_loop)) d⟩
def uG(h:c.wpIn (WR rr) 0 P (Exit.then (HQ rr P c Q) Q) a w):HQ rr P c Q a w:=by
 intro b k o i
 let ⟨e,j,m,g,d⟩:=h b (.inLoop c::k) o i trivial (M4 _)
 cases e with
 |normal=>
  let ⟨p,q,r,n,f⟩:=g b k o i
  exact⟨p,q,r,n,.of_steps (gn.2 ((gn.1 d).trans (.one stepR_inLoop))) f⟩
 |exit id=>exact⟨_,j,m,g,.pass (x:=.inLoop c) rfl (λ_ _=>.inl (by simp)) d⟩
 |goto l=>exact⟨_,j,m,g,.pass (x:=.inLoop c) rfl (λ_ _=>.inl (by simp)) d⟩
 |ret=>exact⟨_,j,m,g,.pass (x:=.inLoop c) rfl (λ_ _=>.inl (by simp)) d⟩
 |panic s=>exact⟨_,j,m,g,.pass (x:=.inLoop c) rfl (λ_ _=>.inl (by simp)) d⟩
 |outgrown=>exact⟨_,j,m,g,.pass (x:=.inLoop c) rfl (λ_ _=>.inl (by simp)) d⟩
def QV(I:Act->World->Prop)(μ:Act->World->Nat)(round:∀a w,I a w->c.wpIn (WR rr) 0 P (Exit.then (λa' w'=>I a' w'∧μ a' w'<μ a w) Q) a w) :
  ∀(m:Nat)(a:Act)(w:World),μ a w<=m->I a w->HQ rr P c Q a w:=by
 intro m
 induction m with
 |zero=>
  intro a w f d;refine uG (wpIn_mono (round a w d) λe a' w' b=>?_);cases e with|normal=>have:=b.2;omega|_=>exact b
 |succ m g=>
  intro a w f d;refine uG (wpIn_mono (round a w d) λe a' w' b=>?_);cases e with|normal=>exact g a' w' (by have:=b.2;omega) b.1|_=>exact b
def xK{a:Bool}(h:(a&&b)=W):a=W∧b=W:=zm.1 h
theorem S5{id:Nat}{ops:Array Oper}{d:Bool}(h:PG (.region id ops d)=W):∀o∈ops.toList,∀c,o.op≠.defer c:=by
 grind[PG]
theorem Q0{E:eF S}(hE:fe E)(rv:Rv){rr:O Nat}{b:Code}{ev:{ω:Type}->(vo S->bX S->aY S->O ω)->bX S->aY S->O ω}
  (hev:∀{ω:Type}{Q:vo S->bX S->aY S->O ω}{r:ω}{fr:bX S}{s:aY S},ev Q fr s=Z r->fr.n<=bC->s.lo<=s.aE->∀{g:Gh}{a:Act}{w:World},cR g (bB fr) a w->aV g (aB s) w->b.wpIn (WR rr) 0 E.T.E.P (IY (eK b++rv.map (·.1)) fr s g w Q r) a w)
  {ω:Type} {sh:Sh} {pts:L Pt} {al:L (Nat×Nat)} {Q:vo S->bX S->aY S->O ω} {r:ω} {fr:bX S} {s:aY S} (h:Yp E rv ev sh pts al (eK b++rv.map (·.1)) (wT (kX b)) Q fr s=Z r) (hn:fr.n<=bC) (hlo:s.lo<=s.aE) {g:Gh} {a:Act} {w:World} (hf:cR g (bB fr) a w) (hs:aV g (aB s) w) :
  b.wpIn (WR rr) 0 E.T.E.P (IY (eK b++rv.map (·.1)) fr s g w Q r) a w:=by
 unfold Yp at h;split at h
 .cases h
 rename_i bs agb;split at h
 .cases h
 rename_i x0 u ow hpk;obtain⟨hb,h2⟩|⟨_,h2⟩:=af h
 rotate_left
 .cases h2
 clear h;rw[eZ,eZ]at hb
 let ⟨⟨JD,z⟩,YP⟩:=hb
 rw[eZ,eZ]at z
 let ⟨z,YU,agA⟩:=z
 let ⟨o,n,c⟩:=iy h2
 clear h2;generalize hds:(eK b++rv.map (·.1))++(Zl (eK b++rv.map (·.1)) sh++al.map (·.1))=ds at *
 let ⟨bl0,Rf⟩:=tG hf hs agb
 have Lj:∀d∈ds,d<bC:=λd hd=>by rw[kA]at YP;exact iO (gN (YP d hd)) hn
 have VL:∀p∈al,p.1<bC:=λp hp=>Lj _ (by grind);have VK:∀k∈al.map (·.1),k∈ds:=λk hk=>by grind
 let ⟨g1,WN,Ea,bl1,i⟩:=kC hE.sg hf hs Rf hpk
 have Rd:=HE (fr:=fr) hf hs Lj i;have af1:u.aE<=bC:=i.rel.aE;have YS:(cJ ds ow bs fr u).1.n<=bC:=hn;have fix:∀{l:bX S},dm ds fr l (ow++u.dr) s.aE->dm (eK b++rv.map (·.1)) fr l (ow++u.dr) s.aE:=by
  intro l hfo;refine⟨λk v hk hv=>?_,hfo.df⟩;by_cases C:k∈ds
  .right
   rw[<-hds]at C;obtain C|C:=eS.1 C
   .grind
   .obtain C|C:=eS.1 C
    .unfold ac3 at z;rw[kA]at z;have h1:=z k C;split at h1
     .rename_i r' ho';rw[hv]at ho';cases ho';have:=XR hpk (nU C) hv;simp[cG,dL,this]
     .cases h1
    .obtain ⟨p,hp,rfl⟩:=v9.1 C;obtain⟨o1,r1,rfl,this⟩:=O9 agA hp hv;simp[cG,dL,this]
  .exact hfo.tm k v C hv
 have YV:aaY a w al:=ya hf hs YU;have hbase:xy sh bs (cJ ds ow bs fr u).1 (cJ ds ow bs fr u).2 s g w x0 a _ w WN Ea bl1:=Rd;unfold FE at n;split at n
 .cases n
 rename_i agE A Of
 let ⟨gh,hh0,VG⟩:=hbase.head YS Of
 have hh:=hh0.mH VL YV;generalize mH A al agE=Cs at hh n;have aqJ:Cs.n=fr.n:=hh.n;have akd:A.lo<=A.aE:=by have h1:A.lo=s.lo:=hh.lo.trans i.lo;have h2:=hh.aE;have h3:(cJ ds ow bs fr u).2.aE=u.aE:=rfl;have:=i.aE;omega
 have YK:u.aE<=A.aE:=hh.aE;have sA:aV gh (aB {A with lo:=u.aE}) _:=⟨hh.rel.aE,hh.rel.ah,hh.rel.box,hh.rel.arr,hh.rel.bh,hh.rel.jS⟩;have GG:A.lo=(cJ ds ow bs fr u).2.lo:=hh.lo;refine wpIn_mono (hev n (by omega) YK hh.fr sA) λe Pd m hq=>?_;obtain hF|⟨ex,PM,s20,g2,h1,h2,h3,h4,h50,h60⟩:=hq
 .exact hF.elim
 have h5:=eC.lower (s:=A) h50 (by have:=hh.lo.trans i.lo;have:=i.aE;omega);rw[<-GG]at h2;dsimp only at h2;obtain⟨s2,Mv⟩:∃s2:aY S,s2={s20 with lo:=A.lo}:=⟨_,rfl⟩;have h6:=h60;rw[show s20.dr=s2.dr by rw[Mv]]at h6;rw[<-Mv]at h2 h5;unfold Qn at h2
 replace h6:dm ds Cs PM s2.dr A.aE:=h6.mono (λk hk=>by grind) (λ_ h=>h)
 obtain⟨agn,h2⟩|⟨_,h2⟩:=af h2
 rotate_left
 .cases h2
 have Rb:s2.fl=s.fl:=h5.fl.trans (hh.fl.trans i.fl);have hmk:∀{Lq:Gh},(∀o b,g2.bP o=Z b->Lq.bP o=Z b)->Marks u.aE s.fl (cJ ds ow bs fr u) PM Lq m:=λ{Lq}hq=>by have:=Aw h5.rel agn;rw[Rb]at this;exact this.mono h4 hq
 have next:∀{K:Sh}{y:ga S.A (lB K)}{P s3:aY S}{Lq:Gh}{Mu:L Nat},eC A gh w P Lq m->(∀o b,g2.bP o=Z b->Lq.bP o=Z b)->cR Lq (bB PM) Pd m->dm ds Cs PM P.dr A.aE->qE K bs PM P=Z (y,s3,Mu)->
   Ut u.aE bs s3.wr=W->Mu.all (λo=>Nl u.aE o)=W->s3.dr.all (λo=>Nl u.aE o)=W->
   ∃B f R BM,xy K bs (cJ ds ow bs fr u).1 (cJ ds ow bs fr u).2 s g w y Pd B m f R BM∧∀b,Lq.bh b->B.bh b:=by
  intro K y P s3 Lq Mu k1 k0 k2 k3 k4 k5 k6 k7
  let ⟨g3,f,R,BM,hp2⟩:=kC hE.sg (bl0:=bl1) k2 k1.rel ⟨hbase.Io.1,λj o b q1 q2=>k1.ext.bP o b (hh.le.bP o b (hbase.Io.2 j o b q1 q2))⟩ k4
  let ⟨B,Ag,pR⟩:=J5 VK Lj (λb hb=>⟨by have:=(i.T4 b hb).2.1;rw[i.aE];exact this,(i.T4 b hb).2.2.1⟩) af1 (by rw[i.aE];exact hlo) (λo ho=>(i.XQ o ho).2.1) (λo b hb=>⟨by rw[i.aE];exact hs.lt hb,λhm=>by rw[i.owb o hm]at hb;cases hb⟩) JD i.lo i.fl VG hh k1 k2 k3 h3 (hmk k0) hp2 k5 k6 k7
  exact⟨B,f,R,BM,Ag,λb hb=>by rw[pR];exact hp2.ext.bh b hb⟩
 have leave:∀{K:Sh}{y:ga S.A (lB K)}{B:Gh}{f:L Value}{R:L eY}{BM:L Nat}{l:bX S}{F:aY S},Ft ds K=W->xy K bs (cJ ds ow bs fr u).1 (cJ ds ow bs fr u).2 s g w y Pd B m f R BM->m9 K bs y (cJ ds ow bs fr u).1 (cJ ds ow bs fr u).2=Z (l,F)->
   ∃gy,cR gy (bB l) Pd m∧(∀b,B.bh b->gy.bh b)∧eC s g w {F with wr:=u.ob.jH (gD (dL ow u.aE))++(bs++u.wr),dr:=ow++u.dr} gy m∧dm ds fr l (ow++u.dr) s.aE∧l.n=fr.n:=by
  intro K y B f R BM l F af0 k1 k2
  let ⟨gy,k3,k4⟩:=k1.head YS k2
  let ⟨k5,k6,k7⟩:=O3 (ex:=[]) (λ_ h=>by cases h) hs Lj i af0 k4 k3
  exact⟨gy,k3.fr,k3.le.bh,k5,k6,k7⟩
 cases h1 with
 |rR=>
  obtain⟨YX,h2⟩|⟨_,h2⟩:=af h2
  rotate_left
  .cases h2
  simp[vF]at h2;split at h2
  .rename_i y s3 Mu I;obtain⟨hc,h2⟩|⟨_,h2⟩:=af h2
   rotate_left
   .cases h2
   simp only[eZ]at hc
   let ⟨B,f,R,BM,k1,_⟩:=next h5 (λ_ _ h=>h) h4 h6 I hc.1 hc.2.1 hc.2.2
   cases h2;simp only at c;split at c
   .cases c
   .rename_i l F VF
    let ⟨gy,l1,_,l2,l3,l4⟩:=leave JD k1 VF
    let ⟨m1,m2,m3,m4⟩:=l7 (s:=F) l2.rel VL (ya h4 h5.rel YX) l1
    exact .inr ⟨.rR,mH F al l,_,gy,.rR,c,m2.trans l4,m1,l2,fix ⟨λk v hk hv=>by rw[m4 k λhm=>hk (VK k hm)];exact l3.tm k v hk hv,by rw[m3];exact l3.df⟩⟩
  .cases h2
 |ext j=>
  obtain⟨hj,h2⟩|⟨_,h2⟩:=af h2
  rotate_left
  .cases h2
  simp[vF]at h2;split at h2
  .rename_i y s3 Mu I;obtain⟨hc,h2⟩|⟨_,h2⟩:=af h2
   rotate_left
   .cases h2
   simp only[eZ]at hc
   let ⟨B,f,R,BM,k1,_⟩:=next h5 (λ_ _ h=>h) h4 h6 I hc.1 hc.2.1 hc.2.2
   cases h2;simp only at c;split at c
   .cases c
   .rename_i l F VF
    let ⟨gy,l1,_,l2,l3,l4⟩:=leave JD k1 VF
    rw[eZ]at hj;have hjm:j∈wT (kX b):=by grind
    let ⟨m1,m2,m3,m4⟩:=l7 (s:=F) l2.rel VL (ya h4 h5.rel hj.2) l1
    exact .inr ⟨.ext j,mH F al l,_,gy,.ext j,zq hjm c,m2.trans l4,m1,l2,fix ⟨λk v hk hv=>by rw[m4 k λhm=>hk (VK k hm)];exact l3.tm k v hk hv,by rw[m3];exact l3.df⟩⟩
  .cases h2
 |ret=>
  simp only at h2;split at h2
  .cases h2
  rename_i vs hvs;split at h2;rotate_left
  .cases h2
  rename_i r' fz owr VE;split at h2;rotate_left
  .cases h2
  rename_i P hfz;simp[vF]at h2;split at h2
  .rename_i y s3 Mu I;obtain⟨hc,h2⟩|⟨_,h2⟩:=af h2
   rotate_left
   .cases h2
   simp only[eZ]at hc
   let ⟨aiq,zG,oL⟩:=KC h4 hvs
   let ⟨p1,p2,p3⟩:=gk hE.sg h5.rel VE oL
   let ⟨g3,Q5,EW,Ra⟩:=ez fz h5.rel (dx hE.sg _ hfz) p1
   have af7:owr=[]:=qF (CS rv) VE
   let ⟨ZW,sA,_⟩:=p3 g3 (aB P) fz Q5 EW Ra (λo ho=>ho) (λo ho=>by simp_all)
   let ⟨f1,f2,f3,f4,f5,f6,f7⟩:=eE hfz
   have wL:eC s2 g2 m P g3 m:=⟨Q5,EW.Iu _,f1,f2,Ds f3.symm,f4,λo _ ho=>f5 o ho,λo ho=>by grind⟩;have hf3:cR g3 (bB PM) Pd m:=h4.ext EW h5.rel.bh
   let ⟨B,f,R,BM,k1,k2⟩:=next (h5.trans wL) EW.bP hf3 (by grind) I hc.1 hc.2.1 hc.2.2
   cases h2;simp only at c;split at c
   .cases c
   .rename_i l F VF
    let ⟨gy,l1,l0,l2,l3,l4⟩:=leave (qy ds sh) k1 VF
    let ⟨m1,m2,m3⟩:=v8 (g:=gy) (w:=m) (a:=Pd) (fr:=l) sA (λb hb=>l0 b (k2 b hb)) zG (by omega) l1
    have hdf:∀(rv:Rv)(r:gx S.A (Fv rv))(fr:bX S),(yF rv r fr).df=fr.df:=by
     intro rv
     induction rv with|nil=>intro _ _;rfl|cons q rv ih=>intro r fr;let ⟨k,t⟩:=q;exact ih _ _
    refine .inr ⟨.ret,_,_,gy,.ret,c,m2.trans l4,m1,l2,⟨λk v hk hv=>?_,by rw[hdf];exact l3.df⟩⟩;rw[m3 k (λhm=>hk (eP _ hm))];exact(fix l3).tm k v hk hv
  .cases h2
 |iE t v hv=>
  obtain⟨hpn,h2⟩|⟨_,h2⟩:=af h2
  rotate_left
  .cases h2
  split at h2;rotate_left
  .cases h2
  rename_i r' fz owr VE;split at h2;rotate_left
  .cases h2
  rename_i P hfz;simp[vF]at h2;split at h2;rotate_left
  .cases h2
  rename_i I;obtain⟨hc,h2⟩|⟨_,h2⟩:=af h2
  rotate_left
  .cases h2
  simp only[eZ]at hc;have oL:PW (aH g2 m) (bq [t]) [v]:=⟨rfl,λj t' v' q1 q2=>by
   grind[bq]⟩
  let ⟨p1,p2,p3⟩:=gk hE.sg h5.rel VE oL
  let ⟨g3,Q5,EW,Ra⟩:=ez fz h5.rel (dx hE.sg _ hfz) p1
  have af7:owr=[]:=qF (cs:=[.dat S.pt]) rfl VE
  let ⟨ZW,sA,_⟩:=p3 g3 (aB P) fz Q5 EW Ra (λo ho=>ho) (λo ho=>by grind)
  let ⟨f1,f2,f3,f4,f5,f6,f7⟩:=eE hfz
  have wL:eC s2 g2 m P g3 m:=⟨Q5,EW.Iu _,f1,f2,Ds f3.symm,f4,λo _ ho=>f5 o ho,λo ho=>by grind⟩;have hf3:cR g3 (bB PM) Pd m:=h4.ext EW h5.rel.bh
  let ⟨B,f,R,BM,k1,k2⟩:=next (h5.trans wL) EW.bP hf3 (by grind) I hc.1 hc.2.1 hc.2.2
  cases h2;simp only at c;obtain⟨_,c⟩|⟨_,c⟩:=af c
  rotate_left
  .cases c
  split at c
  .cases c
  .rename_i l F VF
   let ⟨gy,l1,l0,l2,l3,l4⟩:=leave (qy ds sh) k1 VF
   refine .inr ⟨.iE (.ty S.pt r'.1),l,_,gy,.iE _ v ?_,c,l4,l1,l2,fix l3⟩;cases sA with|@dat _ _ x h v vs al hd hr=>exact qu (hd.le λb hb=>l0 b (k2 b hb))
theorem qg{E:eF S}(hE:fe E){call:fY S}(wK:gH E.T.E.P call)(YQ:sS E call)(n:Nat)(fid:FuncId)(rv:Rv){rr:O Nat}:∀(c:Code)(i:Nat){ω:Type}{Q:vo S->bX S->aY S->O ω}{r:ω}{fr:bX S}{s:aY S},
  zK E call n fid rv c i Q fr s=Z r->(rr≠Y->PG c=W)->fr.n<=bC->s.lo<=s.aE->∀{g:Gh}{a:Act}{w:World},cR g (bB fr) a w->aV g (aB s) w->c.wpIn (WR rr) 0 E.T.E.P (IY (eK c++rv.map (·.1)) fr s g w Q r) a w:=by
 intro c
 induction c with
 |region id ops draw=>
  intro i ω Q r fr s h A hn hlo g a w hf hs;cases draw with
  |true=>
   obtain⟨hb,h⟩|⟨_,h⟩:=af h
   rotate_left
   .cases h
   refine YQ id ops _ _ r fr s hb h hn hf hs (λl s' g' K I h1 h2 h3 h4 h5=>.inr ⟨.rR,l,s',g',.rR,h1,h2,h3,h4,h5.mono (λk B=>fL _ B) (λ_ h=>h)⟩)
    (λl t s' g' K v I h1 h2 h3 h4 h6 h5=>.inr ⟨.iE t,l,s',g',.iE t v h5,h1,h2,h3,h4,h6.mono (λk B=>fL _ B) (λ_ h=>h)⟩) rr A
  |false=>
   refine W8 ?_;have:=DN hE wK (Q:=IY (eK (.region id ops J)++rv.map (·.1)) fr s g w Q r) (rr:=rr) (λhr=>S5 (A hr)) ops.toList 0 rfl hn h hf hs
    (λl s' g' K I h1 h2 h3 h4 h5=>.inr ⟨.rR,l,s',g',.rR,h1,h2,h3,h4,h5.mono (λk B=>fL _ B) (λ_ h=>h)⟩)
    (λl t s' g' K v I h1 h2 h3 h4 h6 h5=>.inr ⟨.iE t,l,s',g',.iE t v h5,h1,h2,h3,h4,h6.mono (λk B=>fL _ B) (λ_ h=>h)⟩)
   grind[List.range_eq_range']
 |seq x y ihx ihy=>
  intro i ω Q r fr s h A hn hlo g a w hf hs;have hds:∀k∈(eK x++rv.map (·.1))++(eK y++rv.map (·.1)),k∈eK (.seq x y)++rv.map (·.1):=by
   grind[eK]
  refine wpIn_seq (wpIn_mono (ihx i h (λhr=>(xK (A hr)).1) hn hlo hf hs) λe K I hq=>?_);obtain hF|⟨ex,l,s',g',h1,h2,h3,h4,h5,h6⟩:=hq
  .exact hF.elim
  .cases h1 with
   |rR=>have:=ihy i h2 (λhr=>(xK (A hr)).2) (by omega) (by rw[h5.lo];exact fZ hlo h5.aE) h4 h5.rel;exact wpIn_mono this λe a w hq=>(IY.mono h3 h5 h6 hq).ds hds
   |ext j=>exact .inr ⟨_,l,s',g',.ext j,h2,h3,h4,h5,h6.mono (λk B=>hds k (fL _ B)) (λ_ h=>h)⟩|ret=>exact .inr ⟨_,l,s',g',.ret,h2,h3,h4,h5,h6.mono (λk B=>hds k (fL _ B)) (λ_ h=>h)⟩|iE t v hv=>exact .inr ⟨_,l,s',g',.iE t v hv,h2,h3,h4,h5,h6.mono (λk B=>hds k (fL _ B)) (λ_ h=>h)⟩
 |cond c x y ihx ihy=>
  intro i ω Q r fr s h A hn hlo g a w hf hs;have cnd:∀{ω:Type}{Q:vo S->bX S->aY S->O ω}{r:ω}{fr:bX S}{s:aY S},TZ c (zK E call n fid rv x i) (zK E call n fid rv y i) Q fr s=Z r->fr.n<=bC->s.lo<=s.aE->∀{g:Gh}{a:Act}{w:World},cR g (bB fr) a w->aV g (aB s) w->
    (Code.cond c x y).wpIn (WR rr) 0 E.T.E.P (IY (eK (.cond c x y)++rv.map (·.1)) fr s g w Q r) a w:=by
   clear h hn hlo hf hs;intro ω Q r fr s h hn hlo g a w hf hs;have hx:∀k∈eK x++rv.map (·.1),k∈eK (.cond c x y)++rv.map (·.1):=by
    grind[eK]
   have hy:∀k∈eK y++rv.map (·.1),k∈eK (.cond c x y)++rv.map (·.1):=by
    grind[eK]
   have R:∀k∈T0 c,k∈eK (.cond c x y)++rv.map (·.1):=by
    grind[eK]
   have tru:a.eval c=.bool W->zK E call n fid rv x i Q (fr.tK c W) s=Z r->x.wpIn (WR rr) 0 E.T.E.P (IY (eK (.cond c x y)++rv.map (·.1)) fr s g w Q r) a w:=λhv h=>
    wpIn_mono (ihx i h (λhr=>(xK (A hr)).1) (by rw[Lc];exact hn) hlo (Gu hn hf hv) hs) λe a w hq=>(IY.mono (Lc _ _ _) (eC.refl hs) (Tx hn c W _ _) hq).ds λk B=>(eS.1 B).elim (R k) (hx k)
   have fls:a.eval c=.bool J->zK E call n fid rv y i Q (fr.tK c J) s=Z r->y.wpIn (WR rr) 0 E.T.E.P (IY (eK (.cond c x y)++rv.map (·.1)) fr s g w Q r) a w:=λhv h=>
    wpIn_mono (ihy i h (λhr=>(xK (A hr)).2) (by rw[Lc];exact hn) hlo (Gu hn hf hv) hs) λe a w hq=>(IY.mono (Lc _ _ _) (eC.refl hs) (Tx hn c J _ _) hq).ds λk B=>(eS.1 B).elim (R k) (hy k)
   unfold TZ at h;split at h
   .rename_i R;have:=bR hf (cz R);generalize hv:a.eval c=v at this;cases this;exact wpIn_cond_true hv (wpIn_mono (ihx i h (λhr=>(xK (A hr)).1) hn hlo hf hs) λe a w hq=>hq.ds hx)
   .rename_i R;have:=bR hf (cz R);generalize hv:a.eval c=v at this;cases this;exact wpIn_cond_false hv (wpIn_mono (ihy i h (λhr=>(xK (A hr)).2) hn hlo hf hs) λe a w hq=>hq.ds hy)
   .rename_i e R;have:=bR hf (cz R);generalize hv:a.eval c=v at this
    let ⟨h2,h1⟩:=We h
    cases this with
    |ub _ b hb=>
     simp_all[wpIn_cond_split]
   .rename_i t _ _ _ R;split at h
    .rename_i b hb
     let ⟨p,e,hp⟩:=mu hb
     have hv:=jl e hp (bR hf (cz R))
     grind[wpIn_cond_split,s8]
    .cases h
   .cases h
  grind[zK,Q0]
 |block j b ih=>
  intro i ω Q r fr s h A hn hlo g a w hf hs;refine wpIn_block (wpIn_mono (ih j h A hn hlo hf hs) λe K I hq=>?_);obtain hF|⟨ex,l,s',g',h1,h2,h3,h4,h5,h6⟩:=hq
  .exact hF.elim
  .cases h1 with
   |rR=>exact .inr ⟨_,l,s',g',.rR,h2,h3,h4,h5,h6⟩|ext k=>
    simp[Ou]at h2;simp[Exit.inBlock];split at h2
    .rename_i hji;rw[bw (beq_iff'.1 hji)];exact .inr ⟨_,l,s',g',.rR,h2,h3,h4,h5,h6⟩
    .rw[bL (λe=>by simp_all)];exact .inr ⟨_,l,s',g',.ext k,h2,h3,h4,h5,h6⟩
   |ret=>exact .inr ⟨_,l,s',g',.ret,h2,h3,h4,h5,h6⟩|iE t v hv=>exact .inr ⟨_,l,s',g',.iE t v hv,h2,h3,h4,h5,h6⟩
 |loop b ih=>
  intro i ω Q r fr s h A hn hlo g a w hf hs;simp[zK]at h;split at h
  .cases h
  rename_i sh pts al pl hsh;refine Km ?_;clear hsh
  induction pl generalizing fr s g a w with
  |succ pl ihp=>
   refine uG (wpIn_mono (ih i h A hn hlo hf hs) λe K I hq=>?_);obtain hF|⟨ex,l,s',g',h1,h2,h3,h4,h5,h6⟩:=hq
   .exact hF.elim
   have hds:∀k∈eK b++rv.map (·.1),k∈eK (.loop b)++rv.map (·.1):=λk B=>B;cases h1 with
   |rR=>
    intro b1 k1 cs1 af3;have ihq:=ihp (fr:=l) (s:=s') (g:=g') (a:=K) (w:=I) (h:=h2) (hn:=by omega) (hlo:=by rw[h5.lo];exact fZ hlo h5.aE) (hf:=h4) (hs:=h5.rel)
    let ⟨e,a2,w2,hq,Lm⟩:=ihq b1 k1 cs1 af3
    refine⟨e,a2,w2,?_,Lm⟩;exact(IY.mono h3 h5 h6 hq).ds λk B=>(eS.1 B).elim (hds k) id
   |ext j=>exact .inr ⟨_,l,s',g',.ext j,h2,h3,h4,h5,h6⟩|ret=>exact .inr ⟨_,l,s',g',.ret,h2,h3,h4,h5,h6⟩|iE t v hv=>exact .inr ⟨_,l,s',g',.iE t v hv,h2,h3,h4,h5,h6⟩
  |zero=>
  simp[XM]at h
  suffices main:∀{fr:bX S}{s:aY S}{g:Gh}{a:Act}{w:World},Yc E n rv (zK E call n fid rv b i) sh pts al (eK b++rv.map (·.1)) (wT (kX b)) Q fr s=Z r->fr.n<=bC->s.lo<=s.aE->cR g (bB fr) a w->aV g (aB s) w->HQ rr E.T.E.P b (IY (eK (.loop b)++rv.map (·.1)) fr s g w Q r) a w by
   obtain⟨_,h⟩|⟨_,h⟩:=af h
   rotate_left
   .simp_all
   obtain⟨hnb,h⟩|⟨_,h⟩:=af h
   rotate_left
   .cases h
   have hnb:s.aE<bC:=gN hnb;have hg:∀k,(dh s .Gd).ob.get k=if k=s.aE then Z .Gd else s.ob.get k:=λk=>Tr.aR _ _ _ _ hnb
   have Af:aV g (aB (dh s .Gd)) w:=by
    refine⟨hnb,λo ho=>hs.ah o (Nat.le_of_succ_le ho),λo b hb=>?_,λo e x hx=>?_,hs.bh,hs.jS⟩
    .let ⟨k1,k2,k3⟩:=hs.box o b hb
     refine⟨k1,k2,λob lg=>k3 ob ?_⟩;have:=hs.lt hb;rw[aI,hg,bL (by have h:o<s.aE:=this;omega)]at lg;rw[aI];exact lg
    .let ⟨k1,k2⟩:=hs.arr o e x hx
     refine⟨k1,λob lg=>k2 ob ?_⟩;have:=hs.lt' hx;rw[aI,hg,bL (by have h:o<s.aE:=this;omega)]at lg;rw[aI];exact lg
   have wL:eC s g w (dh s .Gd) g w:=by refine⟨Af,oD.refl _ _ _ _,rfl,rfl,Dr _,λ_ h=>h,λo ho _=>?_,λ_ h=>h⟩;rw[hg,bL (by omega)]
   intro b1 k1 cs1 af3
   let ⟨e,a2,w2,hq,Lm⟩:=main (fr:={fr with df:=.marks s.aE::fr.df}) (s:=dh s .Gd) h hn (Nat.le_succ_of_le hlo) ⟨hf.size,.marks s.aE [] .nil (λb hb=>by cases hb) hf.df,hf.tm⟩ Af b1 k1 cs1 af3
   refine⟨e,a2,w2,?_,Lm⟩;exact(IY.mono (ds:=[]) (fr:=fr) (tO:={fr with df:=.marks s.aE::fr.df}) rfl wL ⟨λk v _ B=>.inl B,[.marks s.aE],fr.df,rfl,.refl _ _⟩ hq).ds λk B=>B
  clear h hn hlo hf hs;intro fr s g a w h hn hlo hf hs;unfold Yc at h;split at h
  .cases h
  rename_i bs agb;split at h
  .cases h
  rename_i x0 s1 ow hpk;obtain⟨hb,h2⟩|⟨_,h2⟩:=af h
  rotate_left
  .cases h2
  clear h;rw[eZ,eZ]at hb
  let ⟨⟨JD,JG⟩,YP⟩:=hb
  rw[eZ,eZ]at JG
  let ⟨JG,YU,agA⟩:=JG
  let ⟨o,akk,u⟩:=iy h2
  clear h2;generalize hds:(eK b++rv.map (·.1))++(Zl (eK b++rv.map (·.1)) sh++al.map (·.1))=ds at *
  let ⟨bl0,Rf⟩:=tG hf hs agb
  have Lj:∀d∈ds,d<bC:=λd hd=>by rw[kA]at YP;exact iO (gN (YP d hd)) hn
  have VL:∀p∈al,p.1<bC:=λp hp=>Lj _ (by grind);have VK:∀k∈al.map (·.1),k∈ds:=λk B=>by grind
  let ⟨g1,WN,Ea,bl1,C⟩:=kC hE.sg hf hs Rf hpk
  have Rd:=HE (fr:=fr) hf hs Lj C;have af1:s1.aE<=bC:=C.rel.aE;have YS:(cJ ds ow bs fr s1).1.n<=bC:=hn;have fix:∀{P:bX S},dm ds fr P (ow++s1.dr) s.aE->dm (eK (.loop b)++rv.map (·.1)) fr P (ow++s1.dr) s.aE:=by
   intro P hfo;refine⟨λk v B hv=>?_,hfo.df⟩;by_cases vV:k∈ds
   .right
    rw[<-hds]at vV;obtain vV|vV:=eS.1 vV
    .exact absurd vV B
    .obtain vV|vV:=eS.1 vV
     .unfold ac3 at JG;rw[kA]at JG;have h1:=JG k vV;split at h1
      .rename_i o' r' ho';rw[hv]at ho';cases ho';have:=XR hpk (nU vV) hv;simp[cG,dL,this]
      .cases h1
     .obtain ⟨p,hp,rfl⟩:=v9.1 vV;obtain⟨o1,r1,rfl,this⟩:=O9 agA hp hv;simp[cG,dL,this]
   .exact hfo.tm k v vV hv
  let Inv (K:Act) (I:World) (m:Nat):Prop:=aaY K I al∧∃x gb vals als bl,iter (FE rv (zK E call n fid rv b i) sh bs s1.aE (wT (kX b)) (cJ ds ow bs fr s1) E.pn al) m x=Z o∧xy sh bs (cJ ds ow bs fr s1).1 (cJ ds ow bs fr s1).2 s g w x K gb I vals als bl
  have YM:∀(K:Act)(I:World),∃m,(∃k,Inv K I k)->Inv K I m∧∀k,Inv K I k->m<=k:=by
   intro K I;by_cases hex:∃k,Inv K I k
   .obtain ⟨m,hm,hmin⟩:=Vp (λk=>Inv K I k) hex;exact⟨m,λ_=>⟨hm,hmin⟩⟩
   .exact ⟨0,λh=>absurd h hex⟩
  obtain⟨f,hM⟩:∃f:Act->World->Nat,∀K I,(∃k,Inv K I k)->Inv K I (f K I)∧∀k,Inv K I k->f K I<=k:=
   ⟨λK I=>Classical.choose (YM K I),λK I=>Classical.choose_spec (YM K I)⟩
  refine QV (λK I=>∃k,Inv K I k) f ?_ _ a w (eM _) ⟨n,ya hf hs YU,x0,_,WN,Ea,bl1,akk,Rd⟩;intro K I hI
  let ⟨⟨YV,x,gb,vals,als,bl,hit,hbase⟩,hmin⟩:=hM K I hI
  let ⟨m,hm,o',GH,DK⟩:=VA hit
  unfold FE at GH;split at GH
  .cases GH
  rename_i agE ze Of
  let ⟨gh,hh0,VG⟩:=hbase.head YS Of
  have hh:=hh0.mH VL YV;generalize mH ze al agE=Cs at hh GH;have aqJ:Cs.n=fr.n:=hh.n;have akd:ze.lo<=ze.aE:=by have h1:ze.lo=s.lo:=hh.lo.trans C.lo;have h2:=hh.aE;have h3:(cJ ds ow bs fr s1).2.aE=s1.aE:=rfl;have:=C.aE;omega
  have YK:s1.aE<=ze.aE:=hh.aE;have sA:aV gh (aB {ze with lo:=s1.aE}) _:=⟨hh.rel.aE,hh.rel.ah,hh.rel.box,hh.rel.arr,hh.rel.bh,hh.rel.jS⟩;have GG:ze.lo=(cJ ds ow bs fr s1).2.lo:=hh.lo;refine wpIn_mono (ih i GH A (by omega) YK hh.fr sA) λe Pd F hq=>?_;obtain hF|⟨ex,PM,s20,g2,h1,h2,h3,h4,h50,h60⟩:=hq
  .exact hF.elim
  have h5:=eC.lower (s:=ze) h50 (by have:=hh.lo.trans C.lo;have:=C.aE;omega);rw[<-GG]at h2;dsimp only at h2;obtain⟨s2,Mv⟩:∃s2:aY S,s2={s20 with lo:=ze.lo}:=⟨_,rfl⟩;have h6:=h60;rw[show s20.dr=s2.dr by rw[Mv]]at h6;rw[<-Mv]at h2 h5;unfold Qn at h2
  replace h6:dm ds Cs PM s2.dr ze.aE:=h6.mono (λk B=>by grind) (λ_ h=>h)
  obtain⟨agn,h2⟩|⟨_,h2⟩:=af h2
  rotate_left
  .cases h2
  have Rb:s2.fl=s.fl:=h5.fl.trans (hh.fl.trans C.fl);have hmk:∀{Lq:Gh},(∀o b,g2.bP o=Z b->Lq.bP o=Z b)->Marks s1.aE s.fl (cJ ds ow bs fr s1) PM Lq F:=λ{Lq}hq=>by have:=Aw h5.rel agn;rw[Rb]at this;exact this.mono h4 hq
  have next:∀{Qf:Sh}{y:ga S.A (lB Qf)}{s2' s3:aY S}{Lq:Gh}{Mu:L Nat},eC ze gh I s2' Lq F->(∀o b,g2.bP o=Z b->Lq.bP o=Z b)->cR Lq (bB PM) Pd F->dm ds Cs PM s2'.dr ze.aE->qE Qf bs PM s2'=Z (y,s3,Mu)->
    Ut s1.aE bs s3.wr=W->Mu.all (λo=>Nl s1.aE o)=W->s3.dr.all (λo=>Nl s1.aE o)=W->
    ∃VP z vI BM,xy Qf bs (cJ ds ow bs fr s1).1 (cJ ds ow bs fr s1).2 s g w y Pd VP F z vI BM∧∀b,Lq.bh b->VP.bh b:=by
   intro Qf y s2' s3 Lq Mu k1 k0 k2 k3 k4 k5 k6 k7
   let ⟨g3,z,vI,BM,hp2⟩:=kC hE.sg (bl0:=bl) k2 k1.rel ⟨hbase.Io.1,λj o b q1 q2=>k1.ext.bP o b (hh.le.bP o b (hbase.Io.2 j o b q1 q2))⟩ k4
   let ⟨VP,Ag,pR⟩:=J5 VK Lj (λb hb=>⟨by have:=(C.T4 b hb).2.1;rw[C.aE];exact this,(C.T4 b hb).2.2.1⟩) af1 (by rw[C.aE];exact hlo) (λo ho=>(C.XQ o ho).2.1) (λo b hb=>⟨by rw[C.aE];exact hs.lt hb,λhm=>by rw[C.owb o hm]at hb;cases hb⟩) JD C.lo C.fl VG hh k1 k2 k3 h3 (hmk k0) hp2 k5 k6 k7
   exact⟨VP,z,vI,BM,Ag,λb hb=>by rw[pR];exact hp2.ext.bh b hb⟩
  have leave:∀{Qf:Sh}{y:ga S.A (lB Qf)}{VP:Gh}{z:L Value}{vI:L eY}{BM:L Nat}{P:bX S}{sty:aY S},Ft ds Qf=W->xy Qf bs (cJ ds ow bs fr s1).1 (cJ ds ow bs fr s1).2 s g w y Pd VP F z vI BM->m9 Qf bs y (cJ ds ow bs fr s1).1 (cJ ds ow bs fr s1).2=Z (P,sty)->
    ∃gy,cR gy (bB P) Pd F∧(∀b,VP.bh b->gy.bh b)∧eC s g w {sty with wr:=s1.ob.jH (gD (dL ow s1.aE))++(bs++s1.wr),dr:=ow++s1.dr} gy F∧dm ds fr P (ow++s1.dr) s.aE∧P.n=fr.n:=by
   intro Qf y VP z vI BM P sty af0 k1 k2
   let ⟨gy,k3,k4⟩:=k1.head YS k2
   let ⟨k5,k6,k7⟩:=O3 (ex:=[]) (λ_ h=>by cases h) hs Lj C af0 k4 k3
   exact⟨gy,k3.fr,k3.le.bh,k5,k6,k7⟩
  cases h1 with
  |rR=>
   obtain⟨YX,h2⟩|⟨_,h2⟩:=af h2
   rotate_left
   .cases h2
   simp[vF]at h2;split at h2
   .rename_i y s3 Mu Q6;obtain⟨R,h2⟩|⟨_,h2⟩:=af h2
    rotate_left
    .cases h2
    simp only[eZ]at R
    let ⟨VP,z,vI,BM,k1,_⟩:=next h5 (λ_ _ h=>h) h4 h6 Q6 R.1 R.2.1 R.2.2
    cases h2;obtain⟨y',hy',acJ⟩|⟨rfl,hno⟩:=DK
    .cases hy';have hIy:Inv Pd F m:=⟨ya h4 h5.rel YX,y,VP,z,vI,BM,acJ,k1⟩;refine⟨⟨m,hIy⟩,?_⟩;have:=(hM Pd F ⟨m,hIy⟩).2 m hIy;omega
    grind
   .cases h2
  |ext j=>
   obtain⟨hj,h2⟩|⟨_,h2⟩:=af h2
   rotate_left
   .cases h2
   simp[vF]at h2;split at h2
   .rename_i y s3 Mu Q6;obtain⟨R,h2⟩|⟨_,h2⟩:=af h2
    rotate_left
    .cases h2
    simp only[eZ]at R
    let ⟨VP,z,vI,BM,k1,_⟩:=next h5 (λ_ _ h=>h) h4 h6 Q6 R.1 R.2.1 R.2.2
    cases h2;obtain⟨y',hy',acJ⟩|⟨rfl,hno⟩:=DK
    .cases hy'
    .simp only at u;split at u
     .cases u
     .rename_i P sty VF
      let ⟨gy,l1,_,l2,l3,l4⟩:=leave JD k1 VF
      rw[eZ]at hj;have hjm:j∈wT (kX b):=by grind
      let ⟨m1,m2,m3,m4⟩:=l7 (s:=sty) l2.rel VL (ya h4 h5.rel hj.2) l1
      exact .inr ⟨.ext j,mH sty al P,_,gy,.ext j,zq hjm u,m2.trans l4,m1,l2,fix ⟨λk v B hv=>by rw[m4 k λhm=>B (VK k hm)];exact l3.tm k v B hv,by rw[m3];exact l3.df⟩⟩
   .cases h2
  |ret=>
   simp only at h2;split at h2
   .cases h2
   rename_i vs hvs;split at h2;rotate_left
   .cases h2
   rename_i r' fz owr VE;split at h2;rotate_left
   .cases h2
   rename_i s2' hfz;simp[vF]at h2;split at h2
   .rename_i y s3 Mu Q6;obtain⟨R,h2⟩|⟨_,h2⟩:=af h2
    rotate_left
    .cases h2
    simp only[eZ]at R
    let ⟨aiq,zG,oL⟩:=KC h4 hvs
    let ⟨p1,p2,p3⟩:=gk hE.sg h5.rel VE oL
    let ⟨g3,Q5,EW,Ra⟩:=ez fz h5.rel (dx hE.sg _ hfz) p1
    have af7:owr=[]:=qF (CS rv) VE
    let ⟨ZW,sA,_⟩:=p3 g3 (aB s2') fz Q5 EW Ra (λo ho=>ho) (λo ho=>by grind)
    let ⟨f1,f2,f3,f4,f5,f6,f7⟩:=eE hfz
    have wL:eC s2 g2 F s2' g3 F:=⟨Q5,EW.Iu _,f1,f2,Ds f3.symm,f4,λo _ ho=>f5 o ho,λo ho=>by grind⟩;have hf3:cR g3 (bB PM) Pd F:=h4.ext EW h5.rel.bh
    let ⟨VP,z,vI,BM,k1,k2⟩:=next (h5.trans wL) EW.bP hf3 (by grind) Q6 R.1 R.2.1 R.2.2
    cases h2;obtain⟨y',hy',acJ⟩|⟨rfl,hno⟩:=DK
    .cases hy'
    .simp only at u;split at u
     .cases u
     .rename_i P sty VF
      let ⟨gy,l1,l0,l2,l3,l4⟩:=leave (qy ds sh) k1 VF
      let ⟨m1,m2,m3⟩:=v8 (g:=gy) (w:=F) (a:=Pd) (fr:=P) sA (λb hb=>l0 b (k2 b hb)) zG (by omega) l1
      have hdf:∀(rv:Rv)(r:gx S.A (Fv rv))(fr:bX S),(yF rv r fr).df=fr.df:=by
       intro rv
       induction rv with|nil=>intro _ _;rfl|cons q rv ih=>intro r fr;let ⟨k,t⟩:=q;exact ih _ _
      refine .inr ⟨.ret,_,_,gy,.ret,u,m2.trans l4,m1,l2,⟨λk v B hv=>?_,by rw[hdf];exact l3.df⟩⟩;rw[m3 k (λhm=>B (eP _ hm))];exact(fix l3).tm k v B hv
   .cases h2
  |iE t v hv=>
   obtain⟨hpn,h2⟩|⟨_,h2⟩:=af h2
   rotate_left
   .cases h2
   split at h2;rotate_left
   .cases h2
   rename_i r' fz owr VE;split at h2;rotate_left
   .cases h2
   rename_i s2' hfz;simp[vF]at h2;split at h2;rotate_left
   .cases h2
   rename_i Q6;obtain⟨R,h2⟩|⟨_,h2⟩:=af h2
   rotate_left
   .cases h2
   simp only[eZ]at R;have oL:PW (aH g2 F) (bq [t]) [v]:=⟨rfl,λj t' v' q1 q2=>by
    grind[bq]⟩
   let ⟨p1,p2,p3⟩:=gk hE.sg h5.rel VE oL
   let ⟨g3,Q5,EW,Ra⟩:=ez fz h5.rel (dx hE.sg _ hfz) p1
   have af7:owr=[]:=qF (cs:=[.dat S.pt]) rfl VE
   let ⟨ZW,sA,_⟩:=p3 g3 (aB s2') fz Q5 EW Ra (λo ho=>ho) (λo ho=>by grind)
   let ⟨f1,f2,f3,f4,f5,f6,f7⟩:=eE hfz
   have wL:eC s2 g2 F s2' g3 F:=⟨Q5,EW.Iu _,f1,f2,Ds f3.symm,f4,λo _ ho=>f5 o ho,λo ho=>by grind⟩;have hf3:cR g3 (bB PM) Pd F:=h4.ext EW h5.rel.bh
   let ⟨VP,z,vI,BM,k1,k2⟩:=next (h5.trans wL) EW.bP hf3 (by grind) Q6 R.1 R.2.1 R.2.2
   cases h2;obtain⟨y',hy',acJ⟩|⟨rfl,hno⟩:=DK
   .cases hy'
   .obtain ⟨_,u⟩|⟨_,u⟩:=af u
    rotate_left
    .cases u
    split at u
    .cases u
    .rename_i P sty VF
     let ⟨gy,l1,l0,l2,l3,l4⟩:=leave (qy ds sh) k1 VF
     refine .inr ⟨.iE (.ty S.pt r'.1),P,_,gy,.iE _ v ?_,u,l4,l1,l2,fix l3⟩;cases sA with|@dat _ _ x h v vs al hd hr=>exact qu (hd.le λb hb=>l0 b (k2 b hb))
 |exit j=>intro i ω Q r fr s h A hn hlo g a w hf hs;exact wpIn_exit (.inr ⟨_,fr,s,g,.ext j,h,rfl,hf,eC.refl hs,dm.refl _ _ _ _⟩)
 |ret=>intro i ω Q r fr s h A hn hlo g a w hf hs;exact wpIn_ret (.inr ⟨_,fr,s,g,.ret,h,rfl,hf,eC.refl hs,dm.refl _ _ _ _⟩)
 |skip=>intro i ω Q r fr s h A hn hlo g a w hf hs;exact wpIn_skip (.inr ⟨_,fr,s,g,.rR,h,rfl,hf,eC.refl hs,dm.refl _ _ _ _⟩)
 |label j=>intro i ω Q r fr s h A hn hlo g a w hf hs;exact wpIn_label (.inr ⟨_,fr,s,g,.rR,h,rfl,hf,eC.refl hs,dm.refl _ _ _ _⟩)
 |scope b ih=>
  intro i ω Q r fr s h A hn hlo g a w hf hs;have hr0:rr=Y:=by
   grind[PG]
  subst hr0;refine wpIn_wide.2 (wp_scope_straight (wp_mono (wpIn_wide.1 (ih i h (λh=>absurd rfl h) hn hlo hf hs)) λe K I hq=>?_));obtain hF|⟨ex,l,s',g',h1,h2⟩:=hq
  .exact hF.elim
  .cases h1 with|rR=>exact .inr ⟨_,l,s',g',.rR,h2⟩|ext j=>exact .inr ⟨_,l,s',g',.ext j,h2⟩|ret=>exact .inr ⟨_,l,s',g',.ret,h2⟩|iE t v hv=>exact .inr ⟨_,l,s',g',.iE t v hv,h2⟩
 |rangeFunc gv ps asg body _ _=>
  grind[PG,M9]
 |_=>intro i ω Q r fr s h;simp[zK]at h
end
section
def NS:∀t:T,dI (λ_=>J) t=J:=by
 intro t
 induction t using T.rec (motive_2:=λl=>jt (λ_=>J) l=J)with|fn f a b d g=>simp[dI,d,g]|de t v e=>simp[dI,e]|agg i e=>simp[dI,e]|gM i e=>simp[dI,e]|gd c v e=>simp[dI,e]|nil=>rfl|cons a l d h=>simp[jt,d,h]|_=>simp[dI]
theorem uv(b:fc S){E:fX}(c:Sa S E){s:aY S}{fr:bX S}:∀{l:L ResultVar}{vs:L (V S)},lC E s fr l=Z vs->∃p,mF E.E (aB s) (bB fr) l=Z (p,bq vs)∧p
 |[],vs,h=>by simp only[lC,gK]at h;subst h;exact⟨True,rfl,trivial⟩
 |.tmp t::l,vs,h=>by
  simp[lC]at h;split at h
  .rename_i x r h1 h2;simp at h
   let ⟨p,e,d⟩:=uv b c h2
   exact⟨p,by grind[mF,bW,bq],d⟩
  .cases h
 |.cell a t::l,vs,h=>by
  simp[lC]at h;split at h
  .rename_i f m;split at h
   .rename_i g h2;obtain⟨i,h⟩|⟨_,h⟩:=af h
    .simp at h;obtain⟨rfl,q,n,j⟩:=Jv b (λu k=>c.row _ _ _ f k) g i
     let ⟨p,e,d⟩:=uv b c h2
     exact⟨q∧p,by grind[mF,bW,bq],j,d⟩
    .cases h
   .cases h
  .cases h
theorem Yb:∀l:L (V S),low (Ef l)=ae9 (bq l)
 |[]=>rfl|[_]=>rfl|_::_::_=>rfl
variable {s s' s0:aY S}{g g' g0:Gh}{w w' w0:World}{E:eF S}{call:fY S}{m:Nat}{st:Bool->List Frame}
def eC.Iu(hs:aV g (aB s) w)(h:eC {s with lo:=s.aE} g w s' g' w'):cP [] s g w {s' with lo:=s.lo} g' w':=by have d:jQ g.bh w w':=λb c=>h.ext.heap b (hs.bh b c) (λo _ f=>f.1 c);refine⟨⟨h.rel.aE,h.rel.ah,h.rel.box,h.rel.arr,h.rel.bh,h.rel.jS⟩,⟨λo b e=>h.ext.bP o b e,λo e x _ k=>h.ext.arr o e x (hs.lt' k) k,h.ext.bh,h.ext.size,h.ext.heap,h.ext.own,h.ext.og,h.ext.os,h.ext.output⟩,h.fl,rfl,h.aE,h.ug,h.same,λt v i _=>?_,λo a=>(by cases a),h.Ho,λo a=>(by cases a)⟩;exact i.on (p:=λ_=>J) ⟨λo b _ e=>h.ext.bP o b e,λo e x _ k=>h.ext.arr o e x (hs.lt' k) k,h.ext.bh⟩ d (NS t)
theorem yK{E:eF S}(b:fe E){g:Gh}{w:World}{fr:bX S}{s:aY S}{a:Act}(hf:cR g (bB fr) a w)(hs:aV g (aB s) w){fn:Func}{l:L (V S)}(h:lC E.T s fr fn.results.toList=Z l) :
  ∃v,(results fn a.tmps).run E.T.E.P w=.ok v w∧aH g w (low (Ef l)) v:=by
 let ⟨p,e,c⟩:=uv b.sg b.ty h
 let ⟨v,d,f⟩:=M0 b.Uz hf hs e c
 grind[Yb]
def cP.trans{s s' b:aY S}{g g' c:Gh}{w w' d:World}(h:cP [] s g w s' g' w')(k:cP [] s' g' w' b c d):cP [] s g w b c d where
 rel:=k.rel
 ext:=h.ext.trans (h.fl▸h.lo▸k.ext)
 fl:=k.fl.trans h.fl
 lo:=k.lo.trans h.lo
 aE:=fZ h.aE k.aE
 ug:=λo a=>k.ug o (h.ug o a)
 same:=λo f a=>(k.same o (iO f h.aE) a).trans (h.same o f λe=>a (k.ug o e))
 tr:=λt v i e=>k.tr t v (h.tr t v i e) e
 oww:=λo a=>by cases a
 Ho:=λo a=>k.Ho o (h.Ho o a)
 owd:=λo a=>by cases a
def UR(g:Gh)(w:World):O (V S)->FrameMode->Prop
 |none,u=>u=.returning|some t,u=>∃v,u=.panicking [{v,recovered:=J}]∧aH g w (low t) v
structure aeE(g:Gh)(s:aY S)(w:World)(pv:Option (V S))(st:Bool->List Frame)(vp:Value):Prop where
 rel:∀g' s' w',eC s g w s' g' w'->aH g' w' (low (aiu pv)) vp
 rcv:(pv=Y∧recoverD (st J)=Y∧vp=.nilIface)∨(pv.isSome=W∧recoverD (st J)=Z (vp,st W))
def QRV(s:aY S)(g:Gh)(w:World)(m:Nat)(st:Bool->L Frame){ω:Type}(Q:Bool->vo S->bX S->aY S->O ω)(r:ω)(e:Exit)(a:Act)(cs:L Frame)(w':World):Prop:=
 False∨∃b ex fr' s' g',cs=st b∧I1 g' w' ex e∧Q b ex fr' s'=Z r∧fr'.n=m∧cR g' (bB fr') a w'∧eC s g w s' g' w'
theorem Yq{o:Oper}(h:isRec o=W):o.guard=Y∧∃c,o.op=.call c∧c.callee=.builtin .recover:=by
 grind[isRec]
def uk(l:fe E)(b:gH E.T.E.P call)(d:sS E call)(n:Nat)(j:FuncId)(rv:Rv)(hlo:s0.lo<=s0.aE)(t:m<=bC)(f:Bool)
  (c:Code) (i:Nat) {ω:Type} {Q:Bool->vo S->bX S->aY S->O ω} {r:ω} {fr:bX S} {s:aY S} (h:zK E call n j rv c i (Q f) fr s=Z r) (hn:fr.n=m) {g:Gh} {a:Act} {w:World} (hs:eC s0 g0 w0 s g w) (hf:cR g (bB fr) a w) :
  c.wpS E.T.E.P (QRV s0 g0 w0 m st Q r) a (st f) w:=by
 refine wpS_of_wp (wp_mono (wpIn_wide.1 (qg (rr:=Y) l b d n j rv c i h (λh=>absurd rfl h) (by omega) ?_ hf hs.rel)) λe u w' o=>?_)
 .have:=hs.aE;rw[hs.lo];omega
 obtain p|⟨q,k,s',g',h1,h2,h3,h4,h5,h6⟩:=o
 .exact p.elim
 .exact .inr ⟨f,q,k,s',g',rfl,h1,h2,h3.trans hn,h4,hs.trans h5⟩
def VW(hE:fe E)(f:gH E.T.E.P call)(p:sS E call)(n:Nat)(pv:O (V S))(A:FuncId)(rv:Rv)(hlo:s0.lo<=s0.aE)(hm:m<=bC){vp:Value}
  (K:aeE g0 s0 w0 pv st vp):∀(c:Code)(i:Nat){ω:Type}{Q:Bool->vo S->bX S->aY S->O ω}{r:ω}{fr:bX S}{s:aY S},evR E call n pv A rv c i Q fr s=Z r->fr.n=m->
  ∀{g:Gh}{a:Act}{w:World},eC s0 g0 w0 s g w->cR g (bB fr) a w->c.wpS E.T.E.P (QRV s0 g0 w0 m st Q r) a (st J) w:=by
 intro c
 induction c with
 |seq x y ihx ihy=>
  intro i ω Q r fr s h hn g a w B hf;refine wpS_seq λb k hb hr=>?_
  let ⟨e,a',cs',w',hq,z⟩:=ihx i h hn B hf b k hb hr
  refine⟨e,a',cs',w',?_,z⟩;obtain hF|⟨d,ex,u,s',g',h0,h1,h2,h3,h4,h5⟩:=hq
  .exact hF.elim
  .cases h1 with|rR=>subst h0;exact uk hE f p n A rv hlo hm d y i h2 h3 h5 h4|ext j=>exact .inr ⟨d,_,u,s',g',h0,.ext j,h2,h3,h4,h5⟩|ret=>exact .inr ⟨d,_,u,s',g',h0,.ret,h2,h3,h4,h5⟩|iE t v hv=>exact .inr ⟨d,_,u,s',g',h0,.iE t v hv,h2,h3,h4,h5⟩
 |region id q draw=>
  intro i ω Q r fr s h hn g a w B hf;cases draw with
  |true=>exact uk hE f p n A rv hlo hm J _ i h hn B hf|false=>
   simp[evR]at h;split at h;rotate_left
   .cases h
   rename_i o l C;obtain⟨hr,h2⟩|⟨_,h2⟩:=af h
   rotate_left
   .exact uk hE f p n A rv hlo hm J _ i h2 hn B hf
   obtain⟨hd,h3⟩|⟨_,h3⟩:=af h2
   rotate_left
   .cases h3
   let ⟨hg,c,hop,Ll⟩:=Yq hr
   rw[<-C]at h3;have ho:q[0]?=Z o:=by have:=fq (λl=>l[0]?) C;simpa using this
   have hsz:q.size=l.length+1:=by have:=fq List.length C;simpa using this
   have hw:Region.wanted o (yielded q a.tmps)=W:=by simp[Region.wanted,hg]
   have R:(execOp a.eval o).run E.T.E.P w=.ok .recover w:=by simp[execOp,hop,resolve,Ll,run_bind,run_pure,andThen_ok,invoke];simp[builtin]
   have sA:=K.rel _ _ _ B
   let ⟨k1,k2⟩:=uz hf hd (by omega) sA
   have key:∃d,d=pv.isSome∧recoverD (st J)=(if d then Z (vp,st W)else Y)∧(d=J->vp=.nilIface):=by
    obtain⟨e1,e2,e3⟩|⟨e1,e2⟩:=K.rcv
    .exact ⟨J,by rw[e1];rfl,by simpa using e2,λ_=>e3⟩
    .exact ⟨W,e1.symm,by simpa using e2,λh=>by cases h⟩
   let ⟨d,ap0,hrd,Q9⟩:=key
   rw[<-ap0]at h3;have hwp:xl Y E.T.E.P q (λe a' w'=>QRV s0 g0 w0 m st Q r e a' (st d) w') (List.range' 1 l.length) (a.put o.dst vp) w:=by
    refine DN hE f (rr:=Y) (λh=>absurd rfl h) l 1 (by rw[C];rfl) (by rw[k2];omega) h3 k1 B.rel (λu s' g' a' w' q1 q2 q3 q4 _=>.inr ⟨d,.rR,u,s',g',rfl,.rR,q1,by omega,q3,B.trans q4⟩)
     (λu t s' g' a' v w' q1 q2 q3 q4 _ q5=>.inr ⟨d,.iE t,u,s',g',rfl,.iE t v q5,q1,by omega,q3,B.trans q4⟩)
   intro b k hb hro;have F:List.range q.size=0::List.range' 1 l.length:=by rw[List.range_eq_range',hsz,List.range'_succ]
   have hgo:=stepG_op (P:=E.T.E.P) (b:=b) (k:=k) (cs:=st J) (w:=w) (rest:=List.range' 1 l.length) ho hw;have aqN:∀v,(b.at a (.inRegion q (0::List.range' 1 l.length)::k)).finish v=b.at (a.put o.dst v) (.inRegion q (List.range' 1 l.length)::k):=by intro v;rw[Frame.finish_at,ho];rfl
   have hk:(b.at a (.inRegion q (0::List.range' 1 l.length)::k)).kind=.deferred:=hb;have I:=tryRecover_deferred hk (st J)
   let ⟨e,a',w',hq,akG⟩:=nB _ _ _ hwp b k (st d) hro
   have z:=(arrivesIn_iff (λ_ _=>stepsIn_wide) hro).1 akG;rw[Frame.atR_of_none hro]at z;refine⟨e,a',st d,w',hq,.of_steps (.one step_region) ?_⟩;rw[F];refine .of_steps (.one (step_lone_go ?_)) z;rw[hgo,<-aqN];simp[Frame.at]at I ⊢;rw[hrd]at I;cases d with|true=>simp[stepG.apply,R,I]|false=>have:=Q9 rfl;subst this;simp[stepG.apply,R,I]
 |_=>intro i ω Q r fr s h hn g a w B hf;exact uk hE f p n A rv hlo hm J _ i h hn B hf
def WL:FrameMode->Value
 |.panicking (p::_)=>p.v|_=>.nilIface
def ae8:FrameMode->FrameMode
 |.panicking (p::_)=>.panicking [{v:=p.v,recovered:=W}]|m=>m
theorem Oy{E:eF S}(hE:fe E){call:fY S}(R:gH E.T.E.P call)(YQ:sS E call)(n:Nat){q:O (V S)}{d:sU S}{s:aY S}{ω:Type}{k:Bool->aY S->O ω}{r:ω}(h:TT E call n q d s k=Z r)
  {g:Gh} {w:World} (hs:aV g (aB s) w) {e:Deferred} (hd:xu g w (mh d) e) {u:FrameMode} (l:UR g w q u) :
  u≠.run∧((∃b w',e.target=.collected b∧(Instr.takeDeferred b).run E.T.E.P w=.ok [] w'∧∃s',k J s'=Z r∧UR g w' q u∧cP [] s g w s' g w')∨∃fv cap f args,e.target=.fn fv cap∧(invoke e.target e.args).run E.T.E.P w=.ok (.enter f args) w∧CallsD E.T.E.P f args u w λ
   |.returned _,I,w'=>∃a s' g',k a s'=Z r∧UR g' w' (bif a then Y else q) (settle I)∧cP [] s g w s' g' w'|.panicked _,_,_=>False|.outgrown,_,_=>False):=by
 have hrun:u≠.run:=by cases q with|none=>rw[show u=.returning from l];simp|some t=>obtain⟨v,rfl,_⟩:=l;simp
 refine⟨hrun,?_⟩;unfold TT at h;split at h;rotate_left
 .rename_i o
  left
  cases hd with
  |mark _ b hb=>
  split at h;rotate_left
  .cases h
  rename_i ho;obtain⟨hfl,h2⟩|⟨_,h2⟩:=af h
  rotate_left
  .cases h2
  rw[eZ]at hfl;have ho':(aB s).ob.get o=Z .Ah:=by rw[aI,ho];rfl
  let ⟨x,hx,hr⟩:=(hs.box o b hb).2.2 _ ho'
  cases hr with
  |Ah=>
  let ⟨h3,he⟩:=hs.anj (w':=w.putObj b (.deferred Y)) hb ho' rfl (gN hfl.1) World.putObj_size (λb' hb'=>World.putObj_heap_other hb') rfl rfl
  have hlt:o<bC:=gN hfl.2;have K:o+1<2 ^ aK:=by grind[aK,bC]
  have p:cP [] s g w {s with ob:=s.ob.del aK o,wr:=o::s.wr} g (w.putObj b (.deferred Y)):=by
   refine cP.kQ hs (h3.Zd rfl λk=>?_) he rfl rfl (eM _) ⟨λ_ h=>g7 _ h,λk _ hk=>?_,rfl⟩
   .show (Tr.map cW (s.ob.del aK o)).get k=((aB s).ob.del aK o).get k;rw[Tr.get_map,Tr.rV _ _ _ _ K,Tr.rV _ _ _ _ K,aI];split<;>rfl
   simp_all[Tr.rV]
  refine⟨b,_,rfl,run_takeDeferred hx,_,h2,?_,p⟩;cases q with
  |none=>exact l|some t=>
   let ⟨v,l,ht⟩:=l
   exact⟨v,l,p.tr _ _ ht (l9 _)⟩
 .cases hd
 .cases h
 rename_i args
 right
 split at h
 .cases h
 rename_i z Ll;split at h
 .cases h
 rename_i fn hfn;split at h
 .cases h
 rename_i c hc;obtain⟨hb,h2⟩|⟨_,h2⟩:=af h
 rotate_left
 .cases h2
 clear h;rw[zm]at hb;have i:=r6 Ll;unfold xY at i;split at i;rotate_left
 .cases i
 rename_i f' first cap N9
 simp only[gK,fh]at i;obtain⟨rfl,F⟩:=i;cases hd with
 |call _ _ fvn xa xc A h3 h4 h5=>
 rw[N9]at h3;cases h3 with
 |fn _ _ _ _ _ l1 l2 r1 r2=>
 have hfs:=hE.Uz.TO _ _ hfn;have Oh:lX E.T.E.P f':=⟨fn,hfs,by rw[hc];rfl,hE.name _ _ hfn⟩;refine⟨_,_,f',xa++A++xc,rfl,?_,?_⟩
 .grind[invoke,xI]
 have oL:PW (aH g w) (bq z) (xa++A++xc).toList:=by rw[<-F];simp only[UY];exact PW.append (PW.append ⟨by simpa using l1,λj x y h1 h2=>r1 j x y h1 (by simpa using h2)⟩ ⟨by simpa using h4,λj x y h1 h2=>h5 j x y h1 (by simpa using h2)⟩) ⟨by simpa using l2,λj x y h1 h2=>r2 j x y h1 (by simpa using h2)⟩
 have Ag:z.length<=fn.ntmps:=by have:=gN hb.1;rwa [bS]at this
 have pR:fn.ntmps<bC:=gN hb.2;have Og:=tL (n:=fn.ntmps) pR Ag oL;have hs0:aV g (aB {s with lo:=s.aE}) w:=⟨hs.aE,hs.ah,hs.box,hs.arr,hs.bh,hs.jS⟩;refine callsD_of_wpS hfs hc λc₀ cs hcu=>?_
 let st:Bool->L Frame:=λa=>(if a then{c₀ with mode:=ae8 u}else{c₀ with mode:=u})::cs
 have apR:st J=c₀::cs:=by show{c₀ with mode:=u}::cs=c₀::cs;rw[<-hcu]
 have ap1:aeE g {s with lo:=s.aE} w q st (WL u):=by
  cases q with
  |none=>
   have l:u=.returning:=l;refine⟨λg' s' w' _=>?_,.inl ⟨rfl,?_,?_⟩⟩
   .simp[WL,l];exact .sym _ _ (.lit _)
   .grind[recoverD]
   .simp[WL,l]
  |some t=>
   let ⟨v,l,ht⟩:=l
   refine⟨λg' s' w' p=>?_,.inr ⟨rfl,?_⟩⟩
   .simp[WL,l];exact(eC.Iu hs p).tr _ _ ht (l9 _)
   grind[recoverD,WL,ae8]
 have hw:=VW hE R YQ n q f' _ (s0:={s with lo:=s.aE}) (g0:=g) (w0:=w) (eM _) (m:=fn.ntmps) (Jg pR) (st:=st) ap1 c 0 h2 rfl (eC.refl hs0) Og;rw[apR]at hw;intro b kk hb' hro
 let ⟨e,a',cs',w',hq,Lm⟩:=hw b kk hb' hro
 refine⟨e,a',cs',w',?_,Lm⟩;obtain hF|⟨a,ex,fr',s',g',k0,k1,C,k3,k4,k5⟩:=hq
 .exact hF.elim
 have p:=eC.Iu hs k5;dsimp only at C;split at C;rotate_left
 .cases C
 rename_i hdf;have P:a'.defers=[]:=by have:=k4.df;rw[show(bB fr').df=[]from by simp[bB,hdf,List.map_nil]]at this;generalize a'.defers=m at this;cases this;rfl
 have wI:∃I,cs'={c₀ with mode:=I}::cs∧UR g' w' (bif a then Y else q) (settle I):=by
  cases a with
  |false=>
   refine⟨u,k0,?_⟩;cases q with
   |none=>rw[l];rfl|some t=>
    let ⟨v,l,ht⟩:=l
    rw[l];exact⟨v,rfl,p.tr _ _ ht (l9 _)⟩
  |true=>
   refine⟨ae8 u,k0,?_⟩;cases q with
   |none=>rw[l];rfl|some t=>
    let ⟨v,l,ht⟩:=l
    rw[l];rfl
 let ⟨I,hcs,hur⟩:=wI
 have fin:(match lC E.T s' fr' fn.results.toList with|some _=>k a {s' with lo:=s.lo}|none=>Y)=Z r->∃v,(results fn a'.tmps).run E.T.E.P w'=.ok v w'∧
   ∃a s' g',k a s'=Z r∧UR g' w' (bif a then Y else q) (settle I)∧cP [] s g w s' g' w':=by
  intro C;split at C;rotate_left
  .cases C
  rename_i hr
  let ⟨v,hv,_⟩:=yK hE k4 k5.rel hr
  grind
 cases k1 with
 |rR=>
  let ⟨v,hv,h⟩:=fin C
  exact⟨P,I,hcs,v,hv,h⟩
 |ret=>
  let ⟨v,hv,h⟩:=fin C
  exact⟨P,I,hcs,v,hv,h⟩
 |ext j=>cases C
 |iE t v hv=>cases C
theorem DC{P:Program}{fn:Func}{tmps:Array Value}{R:Ending->World->Prop}{ds:L Deferred}{u:FrameMode}(q:u≠.run){s:aY S}{g:Gh}{o:Nat}(f:s.fl<=o)(i:s.ob.get o=Y) :
  ∀(bs:L Nat)(w:World),aV g (aB s) w->bs.Nodup->(∀b∈bs,bz g o b∧w.heap[b]?=Z (.deferred (Z [])))->(∀w',cP [] s g w s g w'->mV P fn tmps R ds u w')->
   mV P fn tmps R (bs.map (λb=>{target:=.collected b,args:=#[]})++ds) u w
 |[],w,d,_,_,m=>m w (cP.refl d)|b::bs,w,d,n,r,m=>by
  let ⟨l,t⟩:=r b eI
  have j:aV g (aB s) (w.putObj b (.deferred Y)):=by
   have:=d.step (I:=g.bh) (X:=λc=>c=b) (w':=w.putObj b (.deferred Y)) (λ_ h=>h) (λ_ h=>.inl h) (λc a=>by rw[World.putObj_size];exact d.bh c a) (by simp_all)
    (λc _ a=>World.putObj_heap_other a) (λv c a p=>by
     subst a;have:=d.jS v o c p l;subst this;exact⟨by rw[aI,i];rfl,l.1⟩) (λc a=>by subst a;exact l.1)
   exact this
  have x:Ext s.fl g w g (w.putObj b (.deferred Y)):=
   ⟨λ_ _ h=>h,λ_ _ _ h=>h,λ_ h=>h,by simp_all,λc _ n=>World.putObj_heap_other (λe=>n o f (e▸l)),λ_ _ h=>.inl h,λ_ h=>.inl h,rfl,rfl⟩
  have k:cP [] s g w s g (w.putObj b (.deferred Y)):=cP.kQ d j x rfl rfl (eM _) ⟨λ_ h=>h,λ_ _ _=>rfl,rfl⟩;refine⟨q,.inl ⟨b,_,rfl,run_takeDeferred t,DC q f i bs _ j (Nd.1 n).2 (λc a=>⟨(r c (g7 _ a)).1,?_⟩) λw' h=>m w' (k.trans h)⟩⟩
  grind[World.putObj_heap_other]
theorem Ox{E:eF S}(hE:fe E){call:fY S}(z:gH E.T.E.P call)(A:sS E call)(n:Nat){fn:Func}{tmps:Array Value}{R:Ending->World->Prop}{ω:Type}{k:O (V S)->aY S->O ω}{r:ω}{s0:aY S}{g0:Gh}{w0:World}
  (hk:∀m s' g' w' u,k m s'=Z r->UR g' w' m u->cP [] s0 g0 w0 s' g' w'->mV E.T.E.P fn tmps R [] u w'):∀(l:L (sU S))(m:O (V S))(s:aY S),GX E call n l m s k=Z r->
  ∀(g:Gh)(w:World)(ds:L Deferred)(u:FrameMode),eL g w (l.map mh) ds->UR g w m u->cP [] s0 g0 w0 s g w->mV E.T.E.P fn tmps R ds u w:=by
 intro l
 induction l with
 |nil=>intro m s h g w ds u B p a;cases B;exact hk m s g w u h p a
 |cons d l ih=>
  intro m s h g w ds u B p a;simp at B;generalize C:mh d=x at B;cases B with
  |ko xs i=>
   cases d with
   |ko=>cases h
   |_=>cases C
  |marks o bs hn hbs i=>
   cases d with
   |marks o'=>
    cases C;simp only[GX,TT]at h;split at h;rotate_left
    .cases h
    rename_i ho;obtain⟨F,h2⟩|⟨_,h2⟩:=af h
    rotate_left
    .cases h2
    rw[eZ]at F;have hlt:o<bC:=gN F.2;have hlt':o+1<2 ^ aK:=by grind[aK,bC]
    have q:=a.rel;have ho':(aB s).ob.get o=Z .Gd:=by rw[aI,ho];rfl
    have hown:∀b∈bs,bz g o b∧w.heap[b]?=Z (.deferred (Z [])):=λb I=>by
     let ⟨n,c,hr⟩:=hbs b I
     cases hr with
     |sh _ _ _ _ sz _ C=>
     obtain⟨fz,_,_,h,_⟩|⟨_,_,_,_,_,_,h,_⟩|⟨_,_,_,h,_⟩|h|⟨_,h1,h2,h3,h4⟩:=(q.arr o b _ C).2 _ ho'
     .cases fz<;>cases h
     .cases h
     .cases h
     .cases h
     .exact ⟨⟨h3,.inr ⟨b,_,_,C,h1,rfl,h2⟩⟩,h4⟩
    have hgD:∀k,(s.ob.del aK o).get k=if k=o then Y else s.ob.get k:=λk=>Tr.rV _ _ _ _ hlt'
    have hsD:aV g (aB {s with ob:=s.ob.del aK o,wr:=o::s.wr}) w:=by
     have y:∀k ob,(aB {s with ob:=s.ob.del aK o,wr:=o::s.wr}).ob.get k=Z ob->(aB s).ob.get k=Z ob:=by
      grind[aI]
     refine⟨q.aE,q.ah,λk b h=>?_,λk e x h=>?_,q.bh,q.jS⟩
     .let ⟨K,P,j⟩:=q.box k b h
      exact⟨K,P,λob lg=>j ob (y k ob lg)⟩
     .let ⟨K,P⟩:=q.arr k e x h
      exact⟨K,λob lg=>P ob (y k ob lg)⟩
    have haD:cP [] s g w {s with ob:=s.ob.del aK o,wr:=o::s.wr} g w:=
     cP.kQ q hsD (Ext.refl _ _ _) rfl rfl (eM _) ⟨λ_ h=>g7 _ h,λk _ hk=>(hgD k).trans (bL λe=>hk (by simp_all)),rfl⟩
    have hrun:u≠.run:=by cases m with|none=>rw[show u=.returning from p];simp|some t=>obtain⟨v,rfl,_⟩:=p;simp
    refine DC hrun (s:={s with ob:=s.ob.del aK o,wr:=o::s.wr}) (g:=g) (o:=o) (gN F.1) ((hgD o).trans (bw rfl)) bs w hsD hn hown λw' j=>?_;have k4:=haD.trans j;refine ih _ _ h2 g w' _ u (i.imp (λt v i=>k4.tr t v i (l9 _)) λo b I=>k4.ext.bP o b I) ?_ (a.trans k4);cases m with
    |none=>exact p|some t=>
     let ⟨v,p,i⟩:=p
     exact⟨v,p,k4.tr _ _ i (l9 _)⟩
   |_=>cases C
  | @cons _ e _ ds B i=>
  subst C
  let ⟨h1,h⟩:=Oy hE z A n h a.rel B p
  obtain⟨b,w',h2,h3,s',K,P,j⟩|⟨fv,cap,f,args,h2,h3,h4⟩:=h
  .exact ⟨h1,.inl ⟨b,w',h2,h3,ih _ s' K g w' ds u (i.imp (λt v i=>j.tr t v i (l9 _)) λo b I=>j.ext.bP o b I) P (a.trans j)⟩⟩
  refine⟨h1,.inr ⟨fv,cap,f,args,h2,h3,h4.mono λe u' w' he=>?_⟩⟩;cases e with
  |returned v=>
   let ⟨rec,s',g',K,P,j⟩:=he
   refine ih _ s' K g' w' ds (settle u') (i.imp (λt v i=>j.tr t v i (l9 _)) λo b I=>j.ext.bP o b I) P (a.trans j)
  |panicked ch=>exact he.elim|outgrown=>exact he.elim
def wQ(x:fe E)(c:gH E.T.E.P call)(d:sS E call)(n:Nat){fn:Func}{R:Ending->World->Prop}{ω:Type}{k kp:V S->aY S->O ω}{r:ω}{ex:vo S}{fr:bX S}
  (h:TS E call n fn.results.toList k kp ex fr s=Z r) {g:Gh} {w:World} {e:Exit} {a:Act} (y:I1 g w ex e) (hf:cR g (bB fr) a w) (hs:aV g (aB s) w)
  (z:∀t s' g' v w',k t s'=Z r->aH g' w' (low t) v->cP [] s g w s' g' w'->R (.returned v) w')
  (m:∀t s' g' v w',kp t s'=Z r->aH g' w' (low t) v->cP [] s g w s' g' w'->R (.panicked [{v,recovered:=J}]) w'):aez E.T.E.P fn R e a w:=by
 have f:∀(j:O (V S))(u:FrameMode),GX E call n fr.df j s (Ow E.T fn.results.toList fr k kp)=Z r->UR g w j u->mV E.T.E.P fn a.tmps R a.defers u w:=by
  intro j u h l;refine Ox x c d n (s0:=s) (g0:=g) (w0:=w) (λj s' g' w' u h l b=>?_) fr.df j s h g w a.defers u hf.df l (cP.refl hs);have o:cR g' (bB fr) a w':=nT (ow:=[]) hf b;cases j with
  |none=>
   subst l;simp[Ow]at h;split at h;rotate_left
   .cases h
   rename_i A
   let ⟨v,p,q⟩:=yK x o b.rel A
   exact⟨v,p,z _ _ g' v w' h q b⟩
  |some t=>
   let ⟨v,l,q⟩:=l
   subst l;exact m t s' g' v w' h q b
 cases y with
 |rR=>exact f Y .returning h rfl|ret=>exact f Y .returning h rfl|ext i=>cases h
 |iE t v p=>exact f (Z t) _ h ⟨v,rfl,p⟩
end
section
def Dj{g:Gh}{w:World}{n:Nat}(hn:n<=bC):∀(ps:L Nat)(args:L (V S))(vs:L Value)(tm:Tr (V S))(tmps:Array Value),(∀k∈ps,k<n)->PW (aH g w) (bq args) vs->cR g (bB {n:=n,tm:=tm}) {tmps:=tmps,defers:=[]} w->
  cR g (bB {n:=n,tm:=Qg ps args tm}) {tmps:=(ps.zip vs).foldl (λt p=>t.setIfInBounds p.1 p.2) tmps,defers:=[]} w
 |[],_,_,_,_,_,_,h=>h|_::_,[],[],_,_,_,_,h=>h|_::_,[],_::_,_,_,_,b,_=>by have:=b.1;simp[bq]at this
 |_::_,_::_,[],_,_,_,b,_=>by have:=b.1;simp[bq]at this
 |k::ps,a::args,v::vs,tm,tmps,d,b,h=>by have e:aH g w (low a) v:=b.2 0 _ _ rfl rfl;have c:PW (aH g w) (bq args) vs:=⟨by have:=b.1;simpa[bq]using this,λj t u h1 h2=>b.2 (j+1) t u (by simpa[bq]using h1) (by simpa using h2)⟩;have f:=uz (dst:=Z k) (fr:={n:=n,tm:=tm}) h (by simp_all[gI,Nn,eI]) hn e;exact Dj hn ps args vs _ _ (λj i=>d j (g7 _ i)) c f.1
def Ur(ps:Array Tmp)(vs:Array Value)(tmps:Array Value):(ps.zip vs).foldl (λtmps(t,a)=>tmps.setIfInBounds t a) tmps=(ps.toList.zip vs.toList).foldl (λt p=>t.setIfInBounds p.1 p.2) tmps:=by rw[<-Array.foldl_toList,Array.toList_zip]
variable {g:Gh}{w:World}
def I1.jump{ex:vo S}{e:Exit}(h:I1 g w ex e){j:O Code}(a:aef ex=Z j):aee e=Z j:=by cases h<;>first|exact a|cases a
theorem AB{E:eF S}(hE:fe E){call:fY S}(B:gH E.T.E.P call)(C:sS E call)(n:Nat){o:Nat}{args:L (V S)}{s:aY S}{ω:Type}{k kp:V S->aY S->O ω}{r:ω}
  (h:KE E call n o args s k=Z r) {g:Gh} {w:World} {vs:Array Value} {b:Nat} (hs:aV g (aB s) w) (oL:PW (aH g w) (bq args) vs.toList) (hb:g.bP o=Z b) :
  ∃l:Loop,w.heap[b]?=Z (.loop l)∧vs.size=l.params.size∧∀rr n,RoundIn (WR rr) n E.T.E.P b l.fn ((l.params.zip vs).foldl (λtmps(t,a)=>tmps.setIfInBounds t a) l.tmps) l.assign l.body w (yf s g w k kp r):=by
 unfold KE at h;split at h;rotate_left
 .cases h
 rename_i l ho;obtain⟨hc,h1⟩|⟨_,h1⟩:=af h
 rotate_left
 .cases h1
 clear h;simp only[eZ,kA]at hc;obtain⟨hrd,hlen,hpar,P,hra,hrb,hfl,R⟩:=hc;have R:s.lo<=s.aE:=gN R;obtain⟨hst,hpe⟩:=FH hrd;have hfl:s.fl<=o:=gN hfl;have P:l.fr.n<=bC:=gN P;have ho0:(aB s).ob.get o=Z (.lp (tI l)):=by rw[aI,ho];rfl
 obtain⟨x,hx,hr⟩:=(hs.box o b hb).2.2 _ ho0;cases hr with
 |lp _ d q1 q2 q4 q5 q6 q8 q9=>
 have hsz:vs.size=d.params.size:=by
  have h1:=beq_iff'.1 hlen;rw[bS,bS]at h1;have h2:=oL.1;rw[eJ]at h2;have h3:d.params.toList.length=l.params.length:=by rw[q4];rfl
  grind
 refine⟨d,hx,hsz,λrr n'=>?_⟩;have Og:cR g (bB {n:=l.fr.n,tm:=l.fr.tm}) {tmps:=d.tmps,defers:=[]} w:=⟨q8,.nil,q9⟩;have hf1:=Dj P l.params args vs.toList l.fr.tm d.tmps (λk hk=>gN (hpar k hk)) oL Og;rw[Ur,q4];have q5:d.assign=l.assign:=q5;have q6:d.body=l.body:=q6;rw[q5,q6];refine afg ?_;refine wpIn_mono (qg (rr:=Z b) hE B C n l.fid [] l.assign 0 h1 (λ_=>hra) P R hf1 hs) λe a' w1 hq=>?_;obtain hF|⟨ex,tO,p,g1,p1,p2,p3,p4,i,_⟩:=hq
 .exact hF.elim
 cases p1 with
 |ext j=>cases p2
 |ret=>cases p2
 |iE t v hv=>cases p2
 |rR=>
 simp only[adY]at p2;split at p2;rotate_left
 .cases p2
 rename_i l1 TH;obtain⟨ap2,p2'⟩|⟨_,p2'⟩:=af p2
 rotate_left
 .cases p2'
 clear p2;obtain⟨afZ,hpe1⟩:=FH ap2;have Ag:=i.ext.bP _ _ hb;have aj4:(aB p).ob.get o=Z (.lp (tI l1)):=by rw[aI,TH];rfl
 obtain⟨x1,hx1,hr1⟩:=(i.rel.box o b Ag).2.2 _ aj4;cases hr1 with
 |lp _ L1 a1 a2 a4 a5 a6 a8 a9=>
 have Rc:p.fl<=o:=by rw[i.fl];exact hfl
 obtain⟨Mv,VH⟩:=i.rel.setObj (w':=w1.putObj b (.loop {L1 with state:=.busy})) Ag aj4 rfl Rc (x':=.loop {L1 with state:=.busy}) (ob':=.lp (tI {l1 with st:=.busy})) (.lp _ _ rfl a2 a4 a5 a6 a8 a9)
  World.putObj_size (λb' hb'=>World.putObj_heap_other hb') (World.putObj_heap_same (i.rel.box o b Ag).2.1) rfl rfl
 have akc:aB {p with ob:=p.ob.set aK o (.lp {l1 with st:=.busy})}={aB p with ob:=(aB p).ob.set aK o (cW (.lp {l1 with st:=.busy}))}:=ey p _ _ p.wr;have apT:aV g1 (aB {p with ob:=p.ob.set aK o (.lp {l1 with st:=.busy})}) (w1.putObj b (.loop {L1 with state:=.busy})):=by rw[akc];exact Mv
 refine⟨_,run_beginRound hx1 (by rw[a1];exact afZ),?_⟩;have aqy:p.lo<=p.aE:=by rw[i.lo];exact fZ R i.aE
 refine wpIn_mono (qg (rr:=Z b) hE B C n l.fid [] l.body 0 p2' (λ_=>hrb) (by grind) aqy (p4.ext VH i.rel.bh) apT) λe a2 w2 hq=>?_;obtain hF|⟨ex,PM,m,g2,c1,c2,c3,c4,y,_⟩:=hq
 .exact hF.elim
 have aj3:o<bC:=iO (hs.lt hb) hs.aE;have YO:m.fl<=o:=by rw[y.fl];exact Rc
 have pR:=y.ext.bP _ _ Ag;have fin:∀(A l3:LpV S)(L2 L3:Loop)(wr:L Nat),m.ob.get o=Z (.lp A)->w2.heap[b]?=Z (.loop L2)->gS g2 w2 (.lp (tI l3)) (.loop L3)->(∀j∈m.wr,j∈wr)->(l3={A with st:=.ready,vS:=Y}∨o∈wr)->
   eC s g w {m with ob:=m.ob.set aK o (.lp l3),wr:=wr} g2 (w2.putObj b (.loop L3)):=by
  intro A l3 L2 L3 wr q z hr3 hw hl3;have u:(aB m).ob.get o=Z (.lp (tI A)):=by rw[aI,q];rfl
  obtain⟨Q5,EW⟩:=y.rel.setObj (w':=w2.putObj b (.loop L3)) pR u rfl YO (x':=.loop L3) (ob':=.lp (tI l3)) hr3
   World.putObj_size (λb' hb'=>World.putObj_heap_other hb') (World.putObj_heap_same (y.rel.box o b pR).2.1) rfl rfl
  have akb:aB {m with ob:=m.ob.set aK o (.lp l3),wr:=wr}={aB m with ob:=(aB m).ob.set aK o (cW (.lp l3))}:=ey m _ _ wr;have e1:oD s.lo s.fl g1 w1 g1 (w1.putObj b (.loop {L1 with state:=.busy})):=by have:=VH.Iu s.lo;rw[show(aB p).fl=s.fl from i.fl]at this;exact this
  have e2:oD s.lo s.fl g1 (w1.putObj b (.loop {L1 with state:=.busy})) g2 w2:=by have:=y.ext;rw[show p.lo=s.lo from i.lo,show p.fl=s.fl from i.fl]at this;exact this
  have e3:oD s.lo s.fl g2 w2 g2 (w2.putObj b (.loop L3)):=by have:=EW.Iu s.lo;rw[show(aB m).fl=s.fl from y.fl.trans i.fl]at this;exact this
  refine⟨by rw[akb];exact Q5,((i.ext.trans e1).trans e2).trans e3,y.fl.trans i.fl,y.lo.trans i.lo,fZ i.aE y.aE,λj K=>hw j (y.ug j (i.ug j K)),λj K hno=>?_,λj K=>y.Ho j (i.Ho j K)⟩;have aj7:j∉m.wr:=λhm=>hno (hw j hm);have aqm:j∉p.wr:=λhm=>aj7 (y.ug j hm);have k1:=i.same j K aqm;have k2:=y.same j (iO K i.aE) aj7;show(m.ob.set aK o _).get j=s.ob.get j;rw[Tr.aR _ _ _ _ aj3];have F:m.ob.get j=(p.ob.set aK o (.lp {l1 with st:=.busy})).get j:=k2;rw[Tr.aR _ _ _ _ aj3]at F;by_cases e:j=o
  .subst e;obtain rfl|hl3:=hl3
   rotate_left
   .exact absurd hl3 hno
   rw[bw rfl]at F ⊢;rw[q]at F;rw[TH]at k1;have k1:Z (u9.lp l1)=s.ob.get j:=k1;rw[ho]at k1;simp only[gK,u9.lp.injEq]at k1 F;subst k1;subst F;rw[ho];obtain⟨st,pe,fid,fr,par,asg,bd⟩:=l1
   grind
  simp_all
 unfold adZ at c2;split at c2
 .rename_i A q K;have u:(aB m).ob.get o=Z (.lp (tI A)):=by rw[aI,q];rfl
  obtain⟨x2,z,hr2⟩:=(y.rel.box o b pR).2.2 _ u;cases hr2 with
  |lp _ L2 d1 d2 d4 d5 d6 d8 d9=>
  have I:=fin A {A with st:=.ready,vS:=Y} L2 {L2 with state:=.ready,pending:=Y} m.wr q z (.lp _ _ rfl rfl d4 d5 d6 d8 d9) (λ_ h=>h) (.inl rfl);exact .inr ⟨Y,c1.jump K,.bool W,_,run_endRound Y z,.kb W,_,g2,c2,.kb W,I⟩
 .rename_i A c q K;have u:(aB m).ob.get o=Z (.lp (tI A)):=by rw[aI,q];rfl
  obtain⟨x2,z,hr2⟩:=(y.rel.box o b pR).2.2 _ u;cases hr2 with
  |lp _ L2 d1 d2 d4 d5 d6 d8 d9=>
  have I:=fin A {A with st:=.done,vS:=Z c} L2 {L2 with state:=.done,pending:=Z c} (o::m.wr) q z (.lp _ _ rfl rfl d4 d5 d6 d8 d9) (λ_ h=>g7 _ h) (.inr eI);exact .inr ⟨Z c,c1.jump K,.bool J,_,run_endRound (Z c) z,.kb J,_,g2,c2,.kb J,I⟩
 .cases c2
def OV{E:eF S}(C:fe E)(a:∀call:fY S,gH E.T.E.P call->sS E call)(n:Nat):∀d,gH E.T.E.P (wY E n d):=by
 intro d
 induction d with
 |zero=>exact⟨λf args s ω k kp r h=>(by cases h),λf args s ω k kp r h=>(by cases h),λo args s ω k kp r h=>(by cases h),λo args s ω k kp r h=>(by cases h)⟩
 |succ d u=>
  refine⟨λf args s ω k kp r h g w vs j m=>?_,λf args s ω k kp r h g w vs j m=>?_,λo args s ω k kp r h g w vs b j m x=>?_,λo args s ω k kp r h g w vs b j m x=>AB C u (a _ u) n h j m x⟩;rotate_left 2
  .have K:aV g (aB {s with lo:=s.aE}) w:=⟨j.aE,j.ah,j.box,j.arr,j.bh,j.jS⟩
   let ⟨l,h1,h2,h3⟩:=AB C u (a _ u) n (kp:=λ_ _=>Y) h K m x
   refine⟨l,h1,h2,λrr n=>(h3 rr n).mono λe w' he=>?_⟩;cases e with
   |returned v=>
    let ⟨t,s',g',y,F,I⟩:=he
    exact⟨t,_,g',y,F,eC.Iu j I⟩
   |panicked ch=>obtain⟨v,t,s',g',_,y,_⟩:=he;cases y
   |outgrown=>exact he.elim
  rotate_left
  .simp only[wY,ZM]at h;split at h
   .cases h
   rename_i fn z;split at h
   .cases h
   rename_i c hc;have A:=C.Uz.TO _ _ z;refine⟨⟨fn,A,by rw[hc];rfl,C.name _ _ z⟩,?_⟩;obtain⟨x,h⟩|⟨_,h⟩:=af h
   rotate_left
   .cases h
   simp only[eZ]at x;have P:args.length<=fn.ntmps:=by have:=gN x.1;rwa [bS]at this
   have B:fn.ntmps<bC:=gN x.2.1;have hlo:s.lo<=s.aE:=gN x.2.2;have Og:=tL (n:=fn.ntmps) B P m;refine sK A hc (wpIn_mono (qg C u (a _ u) n f _ c 0 h (λh=>absurd rfl h) (Jg B) (by omega) Og j) λe a' w' hq=>?_);obtain hF|⟨ex,fr',s',g',h1,h2,h3,h4,h5,h6⟩:=hq
   .exact hF.elim
   .exact wQ C u (a _ u) n (R:=yf s g w k kp r) h2 h1 h4 h5.rel (λt p i v q y F I=>⟨t,_,i,y,F,h5.trans I.toW⟩) (λt p i v q y F I=>⟨v,t,_,i,rfl,y,F,h5.trans I.toW⟩)
  simp only[wY,ZM]at h;split at h
  .cases h
  .rename_i fn z;split at h
   .cases h
   .rename_i c hc;have A:=C.Uz.TO _ _ z;refine⟨⟨fn,A,by rw[hc];rfl,C.name _ _ z⟩,?_⟩;obtain⟨x,h⟩|⟨_,h⟩:=af h
    .rw[zm]at x;have P:args.length<=fn.ntmps:=by have:=gN x.1;rwa [bS]at this
     have B:fn.ntmps<bC:=gN x.2;have Og:=tL (n:=fn.ntmps) B P m;have K:aV g (aB {s with lo:=s.aE}) w:=⟨j.aE,j.ah,j.box,j.arr,j.bh,j.jS⟩;refine sK A hc (wpIn_mono (qg C u (a _ u) n f _ c 0 h (λh=>absurd rfl h) (Jg B) (eM _) Og K) λe a' w' hq=>?_);obtain hF|⟨ex,fr',s',g',h1,h2,h3,h4,h5,h6⟩:=hq
     .exact hF.elim
     .have wL:=eC.Iu j h5;have lo:∀{p:aY S}{i:Gh}{q:World},cP [] s' g' w' p i q->cP [] s g w {p with lo:=s.lo} i q:=λ{p i q}k=>
       eC.Iu j (h5.trans k.toW)
      exact wQ C u (a _ u) n (R:=Dd s g w k kp r) h2 h1 h4 h5.rel (λt p i v q y F I=>⟨t,_,i,y,F,lo I⟩) (λt p i v q y F I=>⟨v,t,_,i,rfl,y,F,lo I⟩)
    .cases h
end
section
structure Sl(Jw:Nat)(s0:aY S)(g0:Gh)(w:World)(s':aY S)(g':Gh)(w':World):Prop where
 rel:aV g' (aB s') w'
 bP:∀o b,o<Jw->g0.bP o=Z b->g'.bP o=Z b
 box:∀o,o<Jw->∃b,g'.bP o=Z b
 own:∀o b,bz g' o b->(∃o',bz g0 o' b)∨w.heap.size<=b
 bh:∀b,g0.bh b->g'.bh b
 og:∀b,g'.bh b->g0.bh b∨w.heap.size<=b∨∃o,bz g0 o b
 size:w.heap.size<=w'.heap.size
 heap:∀b,b<w.heap.size->(∀o,¬bz g0 o b)->w'.heap[b]?=w.heap[b]?
 os:w'.os=w.os
 output:w'.output=w.output
 fl:s'.fl=s0.fl
 lo:s'.lo=s0.lo
variable {Jw:Nat}{s0:aY S}{g0 g:Gh}{w w':World}{v:V S}{val:Value}
def Sl.of{s':aY S}{g':Gh}(e:s0.fl=0)(d:∀o,o<Jw->∃b,g0.bP o=Z b)(h:eC s0 g0 w s' g' w'):Sl Jw s0 g0 w s' g' w' where
 rel:=h.rel
 bP o b _ a:=h.ext.bP o b a
 box o f:=(d o f).imp λb a=>h.ext.bP o b a
 own o b c:=(h.ext.own o b (by omega) c).imp (λ⟨g,_,h⟩=>⟨g,h⟩) id
 bh:=h.ext.bh
 og b a:=(h.ext.og b a).imp id (Or.imp id λ⟨o,_,c⟩=>⟨o,c⟩)
 size:=h.ext.size
 heap b a i:=h.ext.heap b a λo _ c=>i o c
 os:=h.ext.os
 output:=h.ext.output
 fl:=h.fl
 lo:=h.lo
def aV.ag8{s:St}(hs:aV g s w){b:Nat}(K:b<w.heap.size)(p:∀o,¬bz g o b):aV {g with bh:=λk=>g.bh k∨k=b} s w:=by
 have z:∀t v,aH g w t v->aH {g with bh:=λk=>g.bh k∨k=b} w t v:=λt v h=>aH.le (g:=g) (g':={g with bh:=λk=>g.bh k∨k=b}) (mX.mk (λ_ _ h=>h) (λ_ _ _ h=>h) (λP(h:g.bh P)=>Or.inl h)) h;have f:∀o k,bz {g with bh:=λk=>g.bh k∨k=b} o k->bz g o k:=λo k h=>⟨λA=>h.1 (.inl A),h.2⟩;refine⟨hs.aE,hs.ah,λo k a=>?_,λo e x q=>?_,λk a=>a.elim (hs.bh k) (λe=>e▸K),λo I k h R=>hs.jS o I k (f o k h) (f I k R)⟩
 .obtain ⟨h1,h2,h3⟩:=hs.box o k a;refine⟨λA=>A.elim h1 λe=>p o (e▸⟨h1,.inl a⟩),h2,λob m=>?_⟩;obtain⟨x,q,S⟩:=h3 ob m;exact⟨x,q,S.imp z⟩
 .obtain ⟨h1,h2⟩:=hs.arr o e x q;refine⟨h1,λob m=>?_⟩;have B:∀k,x.at k->¬g.bh k->k≠b:=λk⟨ad,r,C,E⟩a F=>p o (F▸⟨a,.inr ⟨e,x,ad,q,r,C,E⟩⟩);have l:∀k,x.at k->((g.bh k∨k=b)↔g.bh k):=λk a=>⟨λh=>h.elim id λF=>(Classical.em (g.bh k)).elim id λhn=>absurd F (B k a hn),λh=>Or.inl h⟩;refine(h2 ob m).tr (λ{fz sz es}n=>⟨n.len,n.cap,n.rows,n.pos,n.WD,λy=>?_⟩) (λ_ _ _ h=>h) rfl (λk a y=>⟨rfl,l k ⟨_,a,rfl,y⟩⟩);obtain⟨k,vs,ty,r,C,E,q4,q5⟩:=n.mem y;refine⟨k,vs,ty,r,C.trans (l k ⟨_,r,rfl,y⟩).symm,E,q4,λi d j c k1 k2=>?_⟩;obtain⟨u,r1,r2⟩:=q5 i d j c k1 k2;exact⟨u,r1,r2.le λ_ h=>.inl h⟩
def DV(p:Nat->Bool)(vs:L (V S))(i:Nat)(u:V S):bq ((vs.map (fQ p)).set i u)=(bq (vs.map (fQ p))).set i (low u):=by simp[eU,FL]
def KN(hS:fc S){s:aY S}(h:Sl Jw s0 g0 w s g w')(hv:aH g w' (low v) val)(q:Nat×Nat×Nat) :
  ∃a,Sl Jw s0 g0 w (FY v Jw s q) a w'∧aH a w' (low v) val:=by
 obtain⟨f,i,n⟩:=q;unfold FY;split;rotate_left
 .exact ⟨g,h,hv⟩
 rename_i vs hvs;split;rotate_left
 .exact ⟨g,h,hv⟩
 rename_i o hvi;split;rotate_left
 .exact ⟨g,h,hv⟩
 rename_i us hus;split;rotate_left
 .exact ⟨g,h,hv⟩
 rename_i A os htt;generalize hp:(λk=>Nq o k||Nl s.aE k)=p;dsimp only;cases B:ajA os&&(Nl Jw o&&(Nt f Jw&&!(cG p v)))with
 |false=>exact⟨g,h,hv⟩|true=>
 rw[gY];simp only[eZ]at B;obtain⟨hos,hlo,Mx,hmv⟩:=B;have hos:os=[]:=by cases os with|nil=>rfl|cons=>cases hos
 subst hos;have hlo:Jw<=o:=gN hlo;have Mx:f<Jw:=gN Mx;have r:=h.rel;obtain⟨b,hb⟩:=h.box f Mx;obtain⟨cv,ty,JE,C,E⟩:=(r.box f b hb).box (cs:=bq vs) (by rw[aI,hvs];rfl);have ajJ:(bq vs)[i]?=Z (.ptr o 0):=EP hvi;have hi:i<cv.size:=by rw[<-C];exact(U1.1 ajJ).1
 have hci:=E i _ _ ajJ (uy hi);obtain⟨d,l,hcv⟩:∃d,g.bP o=Z d∧cv[i]=.pointer (Z ⟨d,0,Y⟩):=by generalize cv[i]=u at hci;cases hci with|ptr _ _ d l=>exact⟨d,l,rfl⟩
 obtain⟨cu,tu,R,akf,agq⟩:=(r.box o d l).box (cs:=bq us) (by rw[aI,hus];rfl);have hno:o<s.aE:=r.lt l;have hnb:f<s.aE:=r.lt hb;have hpo:p o=W:=by rw[<-hp];simp
 have hpk:∀k,k≠o->k<s.aE->p k=J:=λk h1 h2=>by rw[<-hp];simp only[zl];exact⟨by cases hq:Nq o k with|true=>exact absurd (vQ hq).symm h1|false=>rfl,by cases hq:Nl s.aE k with|true=>have:=gN hq;omega|false=>rfl⟩
 have hpb:p f=J:=hpk f (by omega) hnb
 let s1:aY S:={s with ob:=s.ob.mapA (eX p)}
 have Af:aV (g.base p) (aB s1) w':=by
  refine r.base (aE:=s.aE) (λk P=>?_) rfl (eM _) λk ob P lg=>?_
  .rw[<-hp];simp[Nn P]
  .rw[aI]at lg;simp only[s1,fM]at lg;obtain⟨vob,h1,rfl⟩:=lg;rw[Tr.oh,fM]at h1;obtain⟨Wz,h1,rfl⟩:=h1;exact⟨cW Wz,by rw[aI,h1];rfl,lF _ Wz⟩
 have hOo:bz g o d:=⟨(r.box o d l).1,.inl l⟩;have Mv:=Af.ag8 (b:=d) (r.box o d l).2.1 (λk P=>by
  obtain⟨h1,h2⟩:=Gh.fI P;have:=r.jS k o d h2 hOo;subst this;rw[hpo]at h1;cases h1)
 generalize y:({g.base p with bh:=λk=>(g.base p).bh k∨k=d}:Gh)=a at Mv;have hle:mX (g.base p) a:=by rw[<-y];exact⟨λ_ _ h=>h,λ_ _ _ h=>h,λ_ h=>.inl h⟩
 have hon:∀t u,aH g w' t u->dI p t=J->aH a w' t u:=λt u ht hm=>(ht.on (g.gE p) (λ_ _=>rfl) hm).le hle;have F:∀k c,p k=J->g.bP k=Z c->a.bP k=Z c:=λk c h1 h2=>hle.bP k c (by simp[Gh.base,h1,h2]);have hown:∀k c,bz a k c->bz g k c:=λk c hO=>by rw[<-y]at hO;exact(Gh.fI (⟨λhi=>hO.1 (.inl hi),hO.2⟩:bz (g.base p) k c)).2
 obtain⟨pp,htd,hpp⟩:=p9 hS s (S.fs n) us htt;obtain⟨k0,_,k2⟩:=qw r (bq us) (vs:=cu.toList) htd hpp (by simpa using akf) (λj t u h1 h2=>agq j t u h1 (by simpa using h2));have hd:=k2 g (aB s) r (Ext.refl _ _ _) ⟨rfl,rfl,λo ho=>(by cases ho),λ_ _ _ _ h=>h,λo ho=>(by cases ho)⟩;have aqF:a.bh d:=by rw[<-y];exact .inr rfl
 have K:∀c,g.bh c->a.bh c:=λc z=>by rw[<-y];exact .inl z
 have agC:∀j,(⟨d,0,Y⟩:Addr).add j=⟨d,j,Y⟩:=λj=>by simp[nL]
 have m:∀j c,(eW S (S.fs n) A)[j]?=Z c->∃u,cu[j]?=Z u∧dH a.bh w' c u:=λj c hj=>by
  have hl1:=k0;have hlt:j<cu.size:=by have:=(U1.1 hj).1;omega
  exact⟨cu[j],uy hlt,(hd j c cu[j] hj (by simp[hlt])).le K⟩
 have hnew:aH a w' (low (.ty (.opt n) (Z (S.ER n A)):V S)) cv[i]:=by
  rw[hcv];have hE:enc S (.opt n) (Z (S.ER n A))=.pt (.agg (eW S (S.fs n) A)):=by show D.pt (.agg (S.cells n (S.ER n A)))=_;rw[hS.cells,hS.sC]
  show aH a w' (.sym (enc S (.opt n) (Z (S.ER n A)))) _;rw[hE];have:=dH.pt (I:=a.bh) (w:=w') (.agg (eW S (S.fs n) A)) ⟨d,0,Y⟩ (λj=>(cu[j]?).getD undef) aqF (λj c hj=>by
   obtain⟨u,h1,_⟩:=m j c hj;rw[agC,cell?_of_block R,h1];rfl) (λj c hj=>by
   obtain⟨u,h1,h2⟩:=m j c hj;rw[h1];exact h2)
  rw[agC]at this;exact .sym _ _ this
 have YJ:∀e,a.arr f e=Y:=λe=>by rw[<-y];show(g.base p).arr f e=Y;simp only[Gh.base,hpb,sr];cases hx:g.arr f e with|none=>rfl|some x=>have:=((r.arr f e x hx).2 _ (by rw[aI,hvs];rfl)).oe;cases this
 have aqW:gS a w' (cW (.box ((vs.map (fQ p)).set i (.ty (.opt n) (Z (S.ER n A)))))) (.cells cv ty (0,0)):=by
  refine .box _ _ _ (by rw[DV];simp[eU]at C ⊢;exact C) λj t u h1 h2=>?_;rw[DV,Qy]at h1;split at h1
  .rename_i hij;subst hij;split at h1
   .cases h1;rw[uy hi]at h2;cases h2;exact hnew
   .cases h1
  .simp only[eU,kV,fM]at h1;obtain⟨v',⟨v'',h3,rfl⟩,rfl⟩:=h1;exact(pX p v'').rel hon (E j _ u (by simp[eU,h3]) h2)
 have P:=Mv.tK (F f b hpb hb) JE aqW YJ;have sA:aV a (aB {s with ob:=(s.ob.mapA (eX p)).set aK f (.box ((vs.map (fQ p)).set i (.ty (.opt n) (Z (S.ER n A)))))}) w':=by have:=ey s1 f (.box ((vs.map (fQ p)).set i (.ty (.opt n) (Z (S.ER n A))))) s.wr;rw[show aB {s with ob:=(s.ob.mapA (eX p)).set aK f (.box ((vs.map (fQ p)).set i (.ty (.opt n) (Z (S.ER n A)))))}=_ from this];exact P
 refine⟨a,⟨sA,λk c P z=>?_,λk P=>?_,λk c hO=>h.own k c (hown k c hO),λc z=>K c (h.bh c z),λc z=>?_,h.size,h.heap,h.os,h.output,h.fl,h.lo⟩,hon _ _ hv (by rw[ia];simpa using hmv)⟩
 .have h1:=h.bP k c P z;exact F k c (hpk k (by omega) (r.lt h1)) h1
 .obtain ⟨c,z⟩:=h.box k P;exact⟨c,F k c (hpk k (by omega) (r.lt z)) z⟩
 .rw[<-y]at z;obtain z|rfl:=z
  .exact h.og c z
  .exact .inr ((h.own o c hOo).symm)
def AM(d:fc S){Jw:Nat}{s0:aY S}{g0:Gh}{w w':World}{v:V S}{val:Value}:∀(l:L (Nat×Nat×Nat)){s:aY S}{g:Gh},Sl Jw s0 g0 w s g w'->aH g w' (low v) val->
  ∃a,Sl Jw s0 g0 w (l.foldl (FY v Jw) s) a w'∧aH a w' (low v) val
 |[],_,g,h,b=>⟨g,h,b⟩|q::l,_,_,h,b=>by obtain⟨a,h2,c⟩:=KN d h b q;exact AM d l h2 c
end
def qS:∀(ps:L Pk)(b:Nat)(s:aY S)(x:ga S.A ps),s.aE<=(vU b s ps x).2.aE
 |[],_,_,_=>eM _|.one c::ps,b,s,x=>fZ (SR s c x.1) (qS ps b _ x.2)|.box k::ps,b,s,x=>fZ (ED k s (Z (Ns b)) x.1) (qS ps (Ns b) {(lf s (Z (Ns b)) k x.1).2 with ob:=(lf s (Z (Ns b)) k x.1).2.ob.set aK b (lf s (Z (Ns b)) k x.1).1} x.2)
 |.hid k::ps,b,s,x=>fZ (ED k s (Z (Ns b)) x.1) (qS ps (Ns b) {(lf s (Z (Ns b)) k x.1).2 with ob:=(lf s (Z (Ns b)) k x.1).2.ob.set aK b (lf s (Z (Ns b)) k x.1).1} x.2)
structure InR(g:Gh)(s:aY S)(w:World)(al:List eY)(g':Gh)(s':aY S):Prop where
 rel:aV g' (aB s') w
 le:mX g g'
 bh:g'.bh=g.bh
 own:∀k b,bz g' k b->bz g k b∨∃a∈al,a.at b
 fl:s'.fl=s.fl
 lo:s'.lo=s.lo
 aE:s.aE<=s'.aE
 bP:g'.bP=g.bP
 arr:∀o,o<s.aE->∀e,g'.arr o e=g.arr o e
theorem Q3{w:World}:∀{ps:L Pk}{x:ga S.A ps}{vals:L Value}{al:L eY}{bl:L Nat}{b:Nat}{g:Gh}{s:aY S},ry S g.bh w ps x vals al bl->aV g (aB s) w->(∀j bP,bl[j]?=Z bP->g.bP (b+j)=Z bP)->
  (∀j,j<bl.length->b+j<s.aE∧∀e,g.arr (b+j) e=Y)->(∀a∈al,∀b,a.at b->∀o,¬bz g o b)->xB al->(vU b s ps x).2.aE<=bC->
  ∃g',InR g s w al g' (vU b s ps x).2∧PW (aH g' w) (bq (vU b s ps x).1) vals:=by
 intro ps
 induction ps with
 |nil=>intro x vals al bl b g s hp hs _ _ _ _ _;cases hp;exact⟨g,⟨hs,mX.refl _,rfl,λ_ _ h=>.inl h,rfl,rfl,eM _,rfl,λ_ _ _=>rfl⟩,⟨rfl,λj t v h=>by simp_all⟩⟩
 |cons p ps ih=>
  intro x vals al bl b g s hp hs q r K P hn;cases hp with
  | @one c _ f xr v vs Ea BA bl h1 h2=>
   have m:=uw.1 P;have y:(vX s c f).2.aE<=bC:=fZ (qS ps b _ xr) hn
   let ⟨E,d,oL⟩:=nt (cs:=[c]) (x:=(f,())) h1 hs (λa F=>K a (fL _ F)) m.1 (by simpa[ig]using y)
   have e1:(ig s [c] (f,())).1=[(vX s c f).1]:=rfl;have e2:(ig s [c] (f,())).2=(vX s c f).2:=rfl;have hv1:aH E w (low (vX s c f).1) v:=oL.2 0 _ _ rfl rfl
   let ⟨g2,i,R⟩:=ih (b:=b) (g:=E) (s:=(vX s c f).2) (d.bh▸h2) d.rel (λj bP h=>by rw[d.bP];grind) (λj hj=>⟨iO (r j hj).1 d.aE,λe=>by rw[d.arr _ (r j hj).1];simp_all⟩)
    (λa F b hb o n=>by
     obtain n|⟨_,a2,ha2,pR⟩:=d.own o b n
     .grind
     grind) m.2.1 hn
   refine⟨g2,⟨i.rel,d.le.trans i.le,i.bh.trans d.bh,λk B n=>?_,i.fl.trans d.fl,i.lo.trans d.lo,fZ d.aE i.aE,i.bP.trans d.bP,λo I e=>(i.arr o (iO I d.aE) e).trans (d.arr o I e)⟩,⟨by simp only[vU,bq,ny];rw[R.1],λj t v' q1 u=>?_⟩⟩
   .obtain n|⟨a',u,q3⟩:=i.own k B n
    .obtain n|⟨_,a',u,q3⟩:=d.own k B n
     .exact .inl n
     grind
    grind
   .cases j with|zero=>simp[vU,bq]at q1 u;subst q1;subst u;exact hv1.le i.le|succ j=>exact R.2 j t v' (by simpa[vU,bq]using q1) (by simpa using u)
  | @box l _ f xr b0 hx vs Ea BA bl hh h1 h2=>
   have m:=uw.1 P;have y:(lf s (Z (Ns b)) l f).2.aE<=bC:=fZ (qS ps (Ns b) {(lf s (Z (Ns b)) l f).2 with ob:=(lf s (Z (Ns b)) l f).2.ob.set aK b (lf s (Z (Ns b)) l f).1} xr) hn
   let ⟨E,d,z⟩:=p8 h1 (λB A=>⟨_,rfl,by cases bl with|nil=>cases A|cons c' BM=>(cases A;grind)⟩) hs (λa F=>K a (fL _ F)) m.1 y
   have hb0:=r 0 (by simp);have C:g.bP b=Z b0:=q 0 b0 rfl;have hk:=d.rel.tK (o:=b) (b:=b0) (by rw[d.bP];exact C) hh z (λe=>by rw[d.arr b (by omega)];exact hb0.2 e);have hk2:aV E (aB {(lf s (Z (Ns b)) l f).2 with ob:=(lf s (Z (Ns b)) l f).2.ob.set aK b (lf s (Z (Ns b)) l f).1}) w:=by
    have:=ey (lf s (Z (Ns b)) l f).2 b (lf s (Z (Ns b)) l f).1 (lf s (Z (Ns b)) l f).2.wr
    simp_all
   let ⟨g2,i,R⟩:=ih (b:=Ns b) (g:=E) (s:={(lf s (Z (Ns b)) l f).2 with ob:=(lf s (Z (Ns b)) l f).2.ob.set aK b (lf s (Z (Ns b)) l f).1}) (d.bh▸h2) hk2
    (λj bP h=>by rw[d.bP];have:=q (j+1) bP (by simpa using h);rwa [show b+(j+1)=Ns b+j by omega]at this)
    (λj hj=>by
     have:=r (j+1) (by simp;omega);rw[show b+(j+1)=Ns b+j by omega]at this;exact⟨iO this.1 d.aE,λe=>by rw[d.arr _ this.1];exact this.2 e⟩)
    (λa F b hb o n=>by
     obtain n|⟨_,a2,ha2,pR⟩:=d.own o b n
     .grind
     grind) m.2.1 hn
   refine⟨g2,⟨i.rel,d.le.trans i.le,i.bh.trans d.bh,λk B n=>?_,i.fl.trans d.fl,i.lo.trans d.lo,fZ d.aE i.aE,i.bP.trans d.bP,λo I e=>(i.arr o (iO I d.aE) e).trans (d.arr o I e)⟩,⟨by simp only[vU,bq,ny];rw[R.1],λj t v' q1 u=>?_⟩⟩
   .obtain n|⟨a',u,q3⟩:=i.own k B n
    .obtain n|⟨_,a',u,q3⟩:=d.own k B n
     .exact .inl n
     grind
    grind
   .cases j with|zero=>simp[vU,bq,Nk,gK]at q1 u;subst q1;subst u;exact N1 (by rw[i.bP,d.bP];exact C)|succ j=>exact R.2 j t v' (by simpa[vU,bq]using q1) (by simpa using u)
  | @hid l _ f xr b0 hx vs Ea BA bl hh h1 h2=>
   have m:=uw.1 P;have y:(lf s (Z (Ns b)) l f).2.aE<=bC:=fZ (qS ps (Ns b) {(lf s (Z (Ns b)) l f).2 with ob:=(lf s (Z (Ns b)) l f).2.ob.set aK b (lf s (Z (Ns b)) l f).1} xr) hn
   let ⟨E,d,z⟩:=p8 h1 (λB A=>⟨_,rfl,by cases bl with|nil=>cases A|cons c' BM=>(cases A;grind)⟩) hs (λa F=>K a (fL _ F)) m.1 y
   have hb0:=r 0 (by simp);have C:g.bP b=Z b0:=q 0 b0 rfl;have hk:=d.rel.tK (o:=b) (b:=b0) (by rw[d.bP];exact C) hh z (λe=>by rw[d.arr b (by omega)];exact hb0.2 e);have hk2:aV E (aB {(lf s (Z (Ns b)) l f).2 with ob:=(lf s (Z (Ns b)) l f).2.ob.set aK b (lf s (Z (Ns b)) l f).1}) w:=by
    have:=ey (lf s (Z (Ns b)) l f).2 b (lf s (Z (Ns b)) l f).1 (lf s (Z (Ns b)) l f).2.wr
    simp_all
   let ⟨g2,i,R⟩:=ih (b:=Ns b) (g:=E) (s:={(lf s (Z (Ns b)) l f).2 with ob:=(lf s (Z (Ns b)) l f).2.ob.set aK b (lf s (Z (Ns b)) l f).1}) (d.bh▸h2) hk2
    (λj bP h=>by rw[d.bP];have:=q (j+1) bP (by simpa using h);rwa [show b+(j+1)=Ns b+j by omega]at this)
    (λj hj=>by
     have:=r (j+1) (by simp;omega);rw[show b+(j+1)=Ns b+j by omega]at this;exact⟨iO this.1 d.aE,λe=>by rw[d.arr _ this.1];exact this.2 e⟩)
    (λa F b hb o n=>by
     obtain n|⟨_,a2,ha2,pR⟩:=d.own o b n
     .grind
     grind) m.2.1 hn
   refine⟨g2,⟨i.rel,d.le.trans i.le,i.bh.trans d.bh,λk B n=>?_,i.fl.trans d.fl,i.lo.trans d.lo,fZ d.aE i.aE,i.bP.trans d.bP,λo I e=>(i.arr o (iO I d.aE) e).trans (d.arr o I e)⟩,R⟩
   .obtain n|⟨a',u,q3⟩:=i.own k B n
    .obtain n|⟨_,a',u,q3⟩:=d.own k B n
     .exact .inl n
     grind
    grind
def pK(E:fc S){g:Gh}{w:World}{s:aY S}(hs:aV g (aB s) w):∀{ps:L Pk}{b:Nat}{x:iz S.A ps}{fz ow bl:L Nat},uC s b ps=Z (x,fz,ow)->(∀j bP,bl[j]?=Z bP->g.bP (b+j)=Z bP)->bl.length=dW ps->
  (∀o∈fz,Live g (aB s) o)∧(∀o∈ow,s.fl<=o∧s.lo<=o∧o<s.aE∧∃ob,s.ob.get o=Z ob∧RP ob=W)∧∀(v:Gh)(s1:St)(r:L Nat),aV v s1 w->Ext s.fl g w v w->jx (aB s) s1 r->(∀o∈fz,o∈r)->(∀o∈ow,s1.ob.get o=(aB s).ob.get o)->
   ∃al,EB S v.bh w ps x bl al∧AL v al ow
 |[],b,x,fz,ow,bl,h,_,i=>by
  simp only[uC,gK,fh]at h;obtain⟨_,rfl,rfl⟩:=h
  match bl,i with
  |[],_=>exact⟨λo l=>(by cases l),λo l=>(by cases l),λ_ _ _ _ _ _ _ _=>⟨[],.nil,.nil⟩⟩
  |_::_,i=>exact absurd i (by simp[dW])
 |.one c::ps,b,x,fz,ow,bl,h,n,i=>by
  simp[uC]at h
  let ⟨F,I,K⟩:=pK E hs h n (by simpa[dW]using i)
  refine⟨F,I,λv s1 r a b c d e=>?_⟩
  let ⟨al,P,R⟩:=K v s1 r a b c d e
  exact⟨al,.one P,R⟩
 |.box k::ps,b,x,fz,ow,bl,h,n,i=>by
  match bl,i with
  |[],i=>exact absurd i (by simp[dW])
  |b0::bl,i=>
  simp only[uC]at h;split at h;rotate_left
  .cases h
  rename_i x1 a1 b1 nx h1 a2 b2 e1 e2;obtain⟨A,h⟩|⟨_,h⟩:=af h
  rotate_left
  .cases h
  rw[zm]at A;obtain⟨rfl,rfl,rfl⟩:=h;have y:g.bP b=Z b0:=n 0 b0 rfl;have p:∀j bP,bl[j]?=Z bP->g.bP (Ns b+j)=Z bP:=λj bP h=>by have:=n (j+1) bP (by simpa using h);rwa [show b+(j+1)=Ns b+j by omega]at this
  have f:bl.length=dW ps:=by simpa[dW]using i
  let ⟨_,hx,hh,F,I,K⟩:=rO E hs y e1
  let ⟨_,B⟩:=AK hs y e1
  let ⟨q1,q2,q3⟩:=pK E hs e2 p f
  refine⟨λo l=>(eS.1 l).elim (F o) (q1 o),λo l=>(eS.1 l).elim (I o) (q2 o),λv s1 r z C hf t q=>?_⟩
  let ⟨Ea,P,R⟩:=K v s1 r z C hf (λo l=>t o (fL _ l)) (λo l=>q o (fL _ l)) (fC bl) (λo' u=>by
   subst u;obtain⟨m,pre,post,rfl⟩:=B o' rfl;have u:o'=Ns b:=vQ A.1;subst u
   match ps,A.2,f with
   |.hid k'::ps,_,f=>
    match bl,f with
    |c::bl,_=>exact⟨c,rfl,C.bP _ _ (p 0 c rfl)⟩|[],f=>exact absurd f (by simp[dW]))
  let ⟨BA,k3,k4⟩:=q3 v s1 r z C hf (λo l=>t o (eP _ l)) (λo l=>q o (eP _ l))
  exact⟨_,.box hh P k3,R.append k4⟩
 |.hid k::ps,b,x,fz,ow,bl,h,n,i=>by
  match bl,i with
  |[],i=>exact absurd i (by simp[dW])
  |b0::bl,i=>
  simp only[uC]at h;split at h;rotate_left
  .cases h
  rename_i e1 e2;obtain⟨A,h⟩|⟨_,h⟩:=af h
  rotate_left
  .cases h
  rw[zm]at A;obtain⟨rfl,rfl,rfl⟩:=h;have y:g.bP b=Z b0:=n 0 b0 rfl;have p:∀j bP,bl[j]?=Z bP->g.bP (Ns b+j)=Z bP:=λj bP h=>by have:=n (j+1) bP (by simpa using h);rwa [show b+(j+1)=Ns b+j by omega]at this
  have f:bl.length=dW ps:=by simpa[dW]using i
  let ⟨_,hx,hh,F,I,K⟩:=rO E hs y e1
  let ⟨_,B⟩:=AK hs y e1
  let ⟨q1,q2,q3⟩:=pK E hs e2 p f
  refine⟨λo l=>(eS.1 l).elim (F o) (q1 o),λo l=>(eS.1 l).elim (I o) (q2 o),λv s1 r z C hf t q=>?_⟩
  let ⟨Ea,P,R⟩:=K v s1 r z C hf (λo l=>t o (fL _ l)) (λo l=>q o (fL _ l)) (fC bl) (λo' u=>by
   subst u;obtain⟨m,pre,post,rfl⟩:=B o' rfl;have u:o'=Ns b:=vQ A.1;subst u
   match ps,A.2,f with
   |.hid k'::ps,_,f=>
    match bl,f with
    |c::bl,_=>exact⟨c,rfl,C.bP _ _ (p 0 c rfl)⟩|[],f=>exact absurd f (by simp[dW]))
  let ⟨BA,k3,k4⟩:=q3 v s1 r z C hf (λo l=>t o (eP _ l)) (λo l=>q o (eP _ l))
  exact⟨_,.hid hh P k3,R.append k4⟩
theorem EB.iH{I:Nat->Prop}{w:World}{ps:L Pk}{x:iz S.A ps}{al:L eY}{bl:L Nat}(h:EB S I w ps x bl al):∀a∈al,∀b,a.at b->¬I b:=by
 induction h with
 |nil=>simp_all|one _ d=>exact d|box f h1 h2 d=>
  intro a c b e;obtain c|c:=eS.1 c
  .exact h1.iH a c b e
  grind
 |hid f h1 h2 d=>
  intro a c b e;obtain c|c:=eS.1 c
  .exact h1.iH a c b e
  grind
theorem RF{I:Nat->Prop}{w:World}{ps:L Pk}{x:ga S.A ps}{vs:L Value}{al:L eY}{bl:L Nat}(h:ry S I w ps x vs al bl):dW ps=bl.length:=by
 induction h with|nil=>rfl|one _ _ a=>exact a|box _ _ _ a=>grind[dW]|hid _ _ _ a=>grind[dW]
def gh0(I:Nat->Prop)(bl:L Nat):Gh:=⟨λo=>bl[o]?,λ_ _=>Y,I⟩
def xV{I:Nat->Prop}{bl:L Nat}{o b:Nat}(h:bz (gh0 I bl) o b):bl[o]?=Z b:=by
 obtain⟨_,h|⟨e,x,a,h,_⟩⟩:=h
 .exact h
 .cases h
theorem acS{I:Nat->Prop}{bl:L Nat}{w:World}(d:∀b,I b->b<w.heap.size)(f:bl.Nodup)(a:∀b∈bl,b<w.heap.size∧¬I b)(hn:bl.length<=bC) :
  aV (gh0 I bl) (aB (⟨.nil,bl.length,0,bl.length,[],[]⟩:aY S)) w:=by
 refine⟨hn,λo g=>⟨?_,λe=>rfl⟩,λo b h=>?_,λo e x h=>?_,d,λo k b h i=>?_⟩
 .exact List.getElem?_eq_none g
 .have c:=iq h;refine⟨(a b c).2,(a b c).1,λob j=>?_⟩
  grind[aI,Tr.get_nil]
 .cases h
 .have h1:=xV h;have h2:=xV i
  grind[List.getElem?_inj]
def VY{E:eF S}{n d:Nat}{f:FuncId}{ps:L Pk}{a:L Ck}{x:ga S.A ps}{r:RT E.pn (gx S.A a×iz S.A ps) (den S.A S.pt×iz S.A ps)}(h:Bb E n d f ps a x=Z r) :
  (vU 0 ⟨.nil,dW ps,0,dW ps,[],[]⟩ ps x).2.aE<=bC∧ZO E n d f (vU 0 ⟨.nil,dW ps,0,dW ps,[],[]⟩ ps x).1 (vU 0 ⟨.nil,dW ps,0,dW ps,[],[]⟩ ps x).2 (agH E.pn a ps) (agG E.pn a ps)=Z r:=by
 unfold Bb at h;obtain⟨_,h⟩|⟨b,h⟩:=af h
 .cases h
 simp_all
def RT.abH{R P:Type}:∀{a:Bool}{p:P}{r:RT a R P},RT.iE a p=Z r->RT.res a r=.iE p
 |false,_,_,h=>by cases h
 |true,_,_,h=>by cases h;rfl
theorem Hr{E:eF S}(hE:fe E)(y:∀call:fY S,gH E.T.E.P call->sS E call){f:FuncId}{fn:Func}{c:Code}(hfn:E.T.E.TO f=Z fn)(hc:fn.body=Z c)(n d:Nat)(ps:L Pk)(rs:L Ck) :
  bA E.T.E.P f ⟨ps,rs,E.pn,Bb E n d f ps rs⟩:=by
 have hfs:=hE.Uz.TO _ _ hfn;refine⟨⟨fn,hfs,by rw[hc];rfl,hE.name _ _ hfn⟩,λx r h I w vs al bl hp hI hap hnd Mx=>?_⟩;dsimp only at x r h hp
 let ⟨B,h⟩:=VY h
 have hlen:=RF hp;have z:=qS ps 0 (⟨.nil,dW ps,0,dW ps,[],[]⟩:aY S) x;have hn0:dW ps<=bC:=fZ z B;have apX:aV (gh0 I bl) (aB (⟨.nil,dW ps,0,dW ps,[],[]⟩:aY S)) w:=by have:=acS (S:=S) (w:=w) hI hnd (λb i=>⟨(Mx b i).1,(Mx b i).2.1⟩) (by omega);rwa [hlen]
 let ⟨g0,P,oL⟩:=Q3 (b:=0) (g:=gh0 I bl) hp apX (λj bP h=>by rw[BW];exact h) (λj hj=>⟨by simp;omega,λe=>rfl⟩)
  (λa C b i o k=>(Mx b (iq (xV k))).2.2 a C i) hap B
 generalize vU 0 ⟨.nil,dW ps,0,dW ps,[],[]⟩ ps x=q at h B P oL z
 let ⟨args,s0⟩:=q
 dsimp only at h B P oL z;have agl:s0.fl=0:=P.fl;have aqz:s0.lo=dW ps:=P.lo;simp[ZO,hfn,hc]at h;obtain⟨i,h⟩|⟨_,h⟩:=af h
 rotate_left
 .cases h
 rw[zm]at i;have Ag:args.length<=fn.ntmps:=by have:=gN i.1;rwa [bS]at this
 have pR:fn.ntmps<bC:=gN i.2;have Og:=tL (n:=fn.ntmps) pR Ag oL;have m:=OV hE y n d;have core:∀(s':aY S)(g':Gh)(w':World),eC s0 g0 w s' g' w'->∀(rs:L Ck)(t:V S)(v:Value)(r1:gx S.A rs×iz S.A ps),ac2 rs ps t s'=Z r1->aH g' w' (low t) v->E6 S I w ps rs r1 al bl v w':=by
  intro s0' g0' w' h50 rs t v r h2 ht0;unfold ac2 at h2;obtain⟨g',h5,ht⟩:=AM hE.sg (Jl ps 0) (Sl.of (Jw:=dW ps) agl (λo A=>by rw[P.bP];exact⟨bl[o]'(by omega),iR _⟩) h50) ht0;generalize(Jl ps 0).foldl (FY t (dW ps)) s0'=s' at h2 h5;dsimp only at h2;split at h2;rotate_left
  .cases h2
  rename_i r1 fz ow b1 fz' ow' e1 e2;split at h2;rotate_left
  .cases h2
  rename_i s1 e3;obtain⟨i,h2⟩|⟨_,h2⟩:=af h2
  rotate_left
  .cases h2
  simp at h2;subst h2;rw[zm]at i;have IE:=lO i.1;have aq0:=zW i.2;obtain⟨vals,rfl,ajL⟩:=FF ht e1;have akF:∀j bP,bl[j]?=Z bP->g'.bP (0+j)=Z bP:=λj bP h=>h5.bP _ _ (by have:=(U1.1 h).1;omega) (by rw[P.bP,BW];exact h)
  let ⟨p1,p2,p3⟩:=gk hE.sg h5.rel e1 ajL
  let ⟨q1,q2,q3⟩:=pK hE.sg h5.rel e2 akF hlen.symm
  have hfr:=dx hE.sg _ e3
  let ⟨g1,l,F,hfz⟩:=ez (fz++fz') h5.rel hfr (λo A=>(eS.1 A).elim (p1 o) (q1 o))
  let ⟨f1,f2,f3,f4,f5,f6,f7⟩:=eE e3
  have hsame:∀o∈ow++ow',(aB s1).ob.get o=(aB s').ob.get o:=λo A=>by rw[aI,aI,f6 o (aq0 o A)]
  let ⟨BA,K,k2⟩:=p3 g1 (aB s1) (fz++fz') l F hfz (λo A=>fL _ A) (λo A=>hsame o (fL _ A))
  let ⟨Ea,k3,k4⟩:=q3 g1 (aB s1) (fz++fz') l F hfz (λo A=>eP _ A) (λo A=>hsame o (eP _ A))
  have aqn:=K.iH;have aqo:=k3.iH;have hmem:∀a∈Ea++BA,a∈BA++Ea:=λa C=>eS.2 ((eS.1 C).symm);have hni:∀a∈BA++Ea,∀b,a.at b->¬g1.bh b:=λa C=>(eS.1 C).elim (aqn a) (aqo a);have hAL:=k2.append k4;have hown:=hAL.owned hni;have p:=hAL.apart l IE hni;have hfl':s'.fl=0:=h5.fl.trans agl;have akd:s'.lo=dW ps:=h5.lo.trans aqz;have aj1:∀o b,bz g1 o b->(b∈bl∨∃a∈al,a.at b)∨w.heap.size<=b:=by
   intro o b k;obtain k|hge:=F.own o b k
   .obtain ⟨o',VN⟩|hge:=h5.own o b k
    .obtain VN|⟨a,C,hab⟩:=P.own o' b VN
     .exact .inl (.inl (iq (xV VN)))
     grind
    omega
   .have:=h5.size;omega
  have s:∀b∈bl,∃o,o<dW ps∧g1.bP o=Z b:=by intro b i;obtain⟨j,hj,rfl⟩:=rG i;exact⟨0+j,by omega,F.bP _ _ (akF j _ (iR hj))⟩
  refine⟨g1.bh,vals,Ea,BA,λb i=>F.bh b (h5.bh b (P.bh▸i)),λb i=>?_,l.bh,h5.size,λb i B hna=>?_,h5.os,h5.output,rfl,k3,K,?_,λa C b hab=>?_,λb i=>⟨?_,λa C hab=>?_⟩⟩
  .have h0:∀o,bz g0 o b->I b∨w.heap.size<=b∨∃a∈al,a.at b:=λo k=>by
    obtain k|h:=P.own o b k
    .let ⟨o',_,u⟩:=s b (iq (xV k))
     exact absurd i (l.box o' b u).1
    simp_all
   obtain i|i|⟨o,_,k⟩:=F.og b i
   .obtain i|i|⟨o,k⟩:=h5.og b i
    .exact .inl (by rw[P.bh]at i;exact i)
    .omega
    grind
   .have:=h5.size;omega
   .obtain ⟨o',VN⟩|hge:=h5.own o b k
    .grind
    omega
  .refine h5.heap b i λo k=>?_;obtain k|⟨a,C,hab⟩:=P.own o b k
   .exact B (iq (xV k))
   simp_all
  .refine uw.2 ⟨(uw.1 p).2.1,(uw.1 p).1,λa C a' ha' b h1 h2=>(uw.1 p).2.2 a' ha' a C b h2 h1⟩
  .let ⟨o,A,k⟩:=hown a (hmem a C) b hab
   obtain(h|h)|h:=aj1 o b k
   .let ⟨o',ho',u⟩:=s b h
    have:=l.jS o o' b k ⟨(l.box o' b u).1,.inl u⟩
    grind
   .exact .inl h
   omega
  .let ⟨o',ho',u⟩:=s b i
   exact(l.box o' b u).1
  .let ⟨o,A,k⟩:=hown a (hmem a C) b hab
   let ⟨o',ho',u⟩:=s b i
   have:=l.jS o o' b k ⟨(l.box o' b u).1,.inl u⟩
   grind
 refine sK hfs hc (wpIn_mono (qg hE m (y _ m) n f _ c 0 h (λh=>absurd rfl h) (Jg pR) (by omega) Og P.rel) λe a' w' hq=>?_);obtain hF|⟨ex,fr',s',g',h1,h2,h3,h4,h5,h6⟩:=hq
 .exact hF.elim
 refine wQ hE m (y _ m) n (R:=ye S I w ps rs (RT.res E.pn r) al bl) h2 h1 h4 h5.rel (λt s'' g'' v w'' K k2 k3=>?_) (λt s'' g'' v w'' K k2 k3=>?_)
 .unfold agH at K;split at K;rotate_left
  .cases K
  rename_i r1 e1;simp at K;have e2:RT.res E.pn r=.ok r1:=by rw[<-K];cases E.pn<;>rfl
  simp[ye,e2];exact core _ _ _ (h5.trans k3.toW) rs _ v r1 e1 k2
 .simp[agG]at K;split at K;rotate_left
  .cases K
  rename_i r1 e1;have e2:RT.res E.pn r=.iE (r1.1.1,r1.2):=RT.abH K;simp only[ye,e2];exact⟨v,rfl,core _ _ _ (h5.trans k3.toW) [.dat S.pt] t v r1 e1 k2⟩
section
section
variable {fr fr':bX S}{s s':aY S}
theorem wm:∀{l:L Operand},(∀x∈l,cA fr x=cA fr' x)->jY fr l=jY fr' l
 |[],_=>rfl|x::l,h=>by simp[jY,h x eI,wm λy a=>h y (g7 _ a)]
theorem kB:∀{l:L (Nat×Operand)},(∀x∈l.map (·.2),cA fr x=cA fr' x)->iU fr l=iU fr' l
 |[],_=>rfl|(k,x)::l,h=>by simp[iU,h x (by simp),kB λy a=>h y (by simp at a ⊢;exact .inr a)]
theorem QH:∀{x:O Operand},(∀y∈x.toList,cA fr y=cA fr' y)->KM fr x=KM fr' x
 |none,_=>rfl|some x,h=>by simp[KM,h x (by simp)]
theorem QJ(E:fX)(s:aY S)(o:Op)(h:∀x∈o.operands.toList,cA fr x=cA fr' x):cF E fr s o=cF E fr' s o:=by
 cases o with
 |buildSlice t n c=>
  grind[Op.operands,cF,kB]
 |build t c=>
  grind[Op.operands,cF,kB]
 |makeFunc f a b=>
  grind[Op.operands,cF,wm]
 |slice t x l d m=>
  grind[Op.operands,cF,QH]
 |alloc=>rfl|box t x=>grind[Op.operands,cF]|move x=>grind[Op.operands,cF]|assign x=>grind[Op.operands,cF]|pick x y z=>grind[Op.operands,cF]|load t x=>grind[Op.operands,cF]|store t x y=>grind[Op.operands,cF]|nilCheck x=>grind[Op.operands,cF]|binOp op t x y u=>grind[Op.operands,cF]|unOp op t x=>grind[Op.operands,cF]|convert t u x=>grind[Op.operands,cF]|makeInterface t x=>grind[Op.operands,cF]|extract x k=>grind[Op.operands,cF]|fieldAddr t x k=>grind[Op.operands,cF]|field t x k=>grind[Op.operands,cF]|indexAddr t x k=>grind[Op.operands,cF]|index t x k=>grind[Op.operands,cF]|typeAssert x t u ok=>grind[Op.operands,cF]|_=>rfl
theorem Od:∀{x:O Operand},(∀y∈x.toList,cA fr y=cA fr' y)->Oe fr x=Oe fr' x
 |none,_=>rfl|some x,h=>by simp[Oe,h x (by simp)]
theorem Vb(E:fX)(s:aY S)(o:Op)(h:∀x∈o.operands.toList,cA fr x=cA fr' x):uh E fr s o=uh E fr' s o:=by
 cases o with
 |makeMap t r=>
  grind[uh,Od,Op.operands]
 |lookup t x d ok=>grind[Op.operands,uh]|mapUpdate t x d y=>grind[Op.operands,uh]|insert t x d y=>grind[Op.operands,uh]|makeSlice t n c=>grind[Op.operands,uh]|range t x=>grind[Op.operands,uh]|nilCheck x=>grind[Op.operands,uh]|typeAssert x t u ok=>grind[Op.operands,uh]|build t e=>
  grind[Op.operands,uh,kB]
 |binOp op t x y u=>
  have b:cA fr x=cA fr' x:=h x (by simp[Op.operands]);cases op<;>first
   |rfl|(
     cases y with
     |const v=>
      cases v with
      |nilIface=>simp only[uh,b]|pointer a=>cases a<;>first|rfl|simp only[uh,b]
      |slice a n m=>cases a<;>cases n<;>cases m<;>first|rfl|simp[uh,b]
      |_=>rfl
     |_=>rfl)
 |_=>rfl
theorem Ve(E:fX)(s:aY S)(o:Op)(h:∀x∈o.operands.toList,cA fr x=cA fr' x):BL E fr s o=BL E fr' s o:=by
 cases o with
 |indexAddr t x f=>grind[Op.operands,BL]|load t a=>grind[Op.operands,BL]|store t a x=>
  simp[Op.operands]at h;cases x with|tmp k=>have h2:fr.get k=fr'.get k:=h.2;simp[BL,h.1,h2]|_=>rfl
 |buildSlice t n g=>
  simp[BL];split
  .rename_i b c;have h2:fr.get b=fr'.get b:=h (.tmp b) (by
    grind[Op.operands])
   simp[h2]
  .rfl
  .rfl
 |slice t x lo d e=>
  cases lo<;>cases d<;>cases e<;>first
   |rfl|(
     rename_i y;have h1:cA fr x=cA fr' x:=h x (by simp[Op.operands]);have h2:cA fr y=cA fr' y:=h y (by simp[Op.operands]);simp only[BL,h1,h2])
 |_=>rfl
def Jn(E:fX)(s:aY S)(o:Op)(h:∀x∈o.operands.toList,cA fr x=cA fr' x):AN E fr s o=AN E fr' s o:=by unfold AN;rw[Ve E s o h,QJ E s o h,Vb E s o h]
theorem Jo(E:fX)(s:aY S)(o:Op)(h:∀x∈o.operands.toList,cA fr x=cA fr' x):iF E fr s o=iF E fr' s o:=by
 cases o with
 |next c b=>simp[Op.operands]at h;cases b<;>first|rfl|simp[iF,h]
 |lookup t x a ok=>grind[Op.operands,iF]|index t x a=>grind[Op.operands,iF]|_=>rfl
theorem CL{c:Call}(h:∀x∈c.operands.toList,cA fr x=cA fr' x):jY fr c.args.toList=jY fr' c.args.toList∧(∀f,c.callee=.value f->cA fr f=cA fr' f)∧∀x m,c.callee=.invoke x m->cA fr x=cA fr' x:=by
 grind[Call.operands,wm]
theorem Ba(E:eF S)(call:fY S)(o:Oper)(s:aY S){ω:Type}(kp:V S->aY S->O ω)(k:V S->aY S->L Nat->O ω)(h:∀x∈o.op.operands.toList,cA fr x=cA fr' x) :
  uO E call o fr s kp k=uO E call o fr' s kp k:=by
 unfold uO;have a:=Jn E.T s o.op h;have d:=Jo E.T s o.op h;cases e:o.op with
 |call c=>
  rw[e]at h
  let ⟨h1,h2,h3⟩:=CL h
  dsimp only;rw[h1];cases g:c.callee with|value f=>simp_all|builtin b=>rfl|invoke x m=>simp_all
 |panic x=>
  grind[Op.operands]
 |_=>rw[e]at a d;simp only[a,d]
theorem iM(E:eF S)(g:O Bool)(o:Oper)(s:aY S){ω:Type}(k:V S->O ω)(h:∀x∈o.op.operands.toList,cA fr x=cA fr' x) :
  fD E g fr s o k=fD E g fr' s o k:=by
 unfold fD;have a:=Jn E.T s o.op h;have b:=Jo E.T s o.op h;cases d:o.op with
 |call c=>
  grind[Op.operands,CL]
 |buildSlice t n e=>
  grind[Op.operands,kB]
 |slice t x l f m=>
  grind[Op.operands]
 |_=>first|rfl|(rw[d]at a b;simp only[a,b])
theorem KG(E:eF S)(o:Oper)(h:∀x∈o.op.operands.toList,cA fr x=cA fr' x):BV E fr o=BV E fr' o:=by
 unfold BV;cases a:o.op with
 |call c=>
  grind[Op.operands,CL]
 |buildSlice t n b=>
  grind[Op.operands,kB]
 |slice t x l d m=>
  grind[Op.operands]
 |_=>rfl
def tmpsOf(o:Op):L Nat:=o.operands.toList.filterMap λx=>match x with|.tmp k=>Z k|_=>Y
theorem jg{o:Op}(h:∀k∈tmpsOf o,fr.get k=fr'.get k):∀x∈o.operands.toList,cA fr x=cA fr' x:=by intro x a;cases x with|tmp k=>exact h k (AG.2 ⟨.tmp k,a,rfl⟩)|_=>rfl
theorem rW{o:Op}(c:∀k∈tmpsOf o,k<bC)(h:∀k∈tmpsOf o,fr.get k=fr'.get k):∀k∈tmpsOf o,(rX fr o).get k=(rX fr' o).get k:=by
 have key:∀(l:L Operand)(f a:bX S),(∀k,.tmp k∈l->k∈tmpsOf o)->(∀k∈tmpsOf o,f.get k=a.get k)->∀k∈tmpsOf o,
   (l.foldl (λf x=>match x with
    |.tmp k=>match fr.get k with
     |some (.gd _ v)=>f.put k v|_=>f
    |_=>f) f).get k=(l.foldl (λf x=>match x with
    |.tmp k=>match fr'.get k with
     |some (.gd _ v)=>f.put k v|_=>f
    |_=>f) a).get k:=by
  intro l
  induction l with
  |nil=>simp_all|cons x l d=>
   intro f a e g k b;simp
   grind[bX.jO]
 exact key _ _ _ (λk b=>AG.2 ⟨.tmp k,b,rfl⟩) h
theorem uL{o:Op}(c:Bool)(h:∀k∈tmpsOf o,fr.get k=fr'.get k):Oj c fr o=Oj c fr' o:=by
 have key:∀(l:L Operand)(q:Bool),(∀k,.tmp k∈l->k∈tmpsOf o)->
   l.foldl (λp x=>match x with
    |.tmp k=>match fr.get k with
     |some (.gd g _)=>p&&imp c g|_=>p
    |_=>p) q=l.foldl (λp x=>match x with
    |.tmp k=>match fr'.get k with
     |some (.gd g _)=>p&&imp c g|_=>p
    |_=>p) q:=by
  intro l
  induction l with
  |nil=>intro q _;rfl
  |cons x l b=>
   grind
 exact key _ _ (λk a=>AG.2 ⟨.tmp k,a,rfl⟩)
def ot(ops:L Oper)(o:Oper):O Nat:=match o.guard with
 |none=>Y|some (j,_)=>(nth ops j).bind (·.dst)
def pT{ops:L Oper}{o:Oper}(h:∀k,ot ops o=Z k->fr.get k=fr'.get k):iK ops fr o=iK ops fr' o:=by
 unfold iK;cases b:o.guard with
 |none=>rfl|some p=>
  let ⟨j,a⟩:=p
  dsimp only;cases c:(nth ops j).bind (·.dst)with|none=>rfl|some k=>simp;rw[h k (by simp[ot,b,c])]
theorem rK{ops:L Oper}{o:Oper}(h:∀k,ot ops o=Z k->fr.get k=fr'.get k):vA ops fr o=vA ops fr' o:=by
 unfold vA;cases b:o.guard with
 |none=>rfl|some p=>
  let ⟨j,a⟩:=p
  dsimp only;cases c:(nth ops j).bind (·.dst)with|none=>rfl|some k=>simp;rw[h k (by simp[ot,b,c])]
theorem IK(E:eF S)(call:fY S){ops:L Oper}{o:Oper}(s:aY S){ω:Type}(kp:V S->aY S->O ω)(k:V S->aY S->L Nat->O ω)(hn:fr.n=fr'.n)(b:∀k∈tmpsOf o.op,k<bC)
  (h:∀k∈tmpsOf o.op,fr.get k=fr'.get k) (a:∀k,ot ops o=Z k->fr.get k=fr'.get k):pU E call ops o fr s kp k=pU E call ops o fr' s kp k:=by
 unfold pU;have h1:gI fr o.dst=gI fr' o.dst:=by cases o.dst<;>simp only[gI,hn]
 have h2:=jg h;have h3:=jg (rW b h);rw[h1,pT a,rK a];simp[Ba E call o s kp k h2,Ba E call o s kp k h3,KG E o h3,uL (o:=o.op) _ h]
 grind[iM]
end
theorem HJ{ω:Type}(k:V S->O ω){D:O ω}{a:O (V S)}(h:D=a.bind k):∀l:L (Bool×V S×aY S),xg k D l=(xg Z a l).bind k
 |[]=>h|p::l=>by simp[xg,HJ k h l];cases p.1<;>rfl
theorem A8(E:eF S)(g:O Bool)(fr:bX S)(s:aY S)(o:Oper){ω:Type}(k:V S->O ω):fD E g fr s o k=(fD E g fr s o Z).bind k:=by
 have a:∀(p:Bool)(t:V S),zJ g p (k t)=(zJ g p (Z t)).bind k:=by
  intro p t;cases g with
  |none=>cases p<;>rfl
  |some c=>cases c<;>cases p<;>rfl
 unfold fD;split
 .split
  .rfl
  .split
   .grind
   .split
    .rfl
    .split
     .rfl
     .rename_i c _;cases(ct c.ps&&(jI c.rs&&(jN _&&!c.pn)))with
      |false=>rfl|true=>
       split
       .unfold ah
        grind
       .rfl
   .rfl
 iterate 11
  .rfl
 .grind
 .grind
 grind[HJ]
def Sm(s s':aY S)(v:V S):Prop:=∀o,cG (Nq o) v=W->s'.ob.get o=s.ob.get o
def Sms(s s':aY S)(l:L (V S)):Prop:=∀o,iJ (Nq o) l=W->s'.ob.get o=s.ob.get o
variable {v:V S}
def Sms.cons{s s':aY S}{l:L (V S)}(h:Sms s s' (v::l)):Sm s s' v∧Sms s s' l:=
 ⟨λo a=>h o (by simp[iJ,a]),λo a=>h o (by simp[iJ,a])⟩
theorem BR{s s':aY S}{v:V S}(h:Sm s s' v)(e:Ty):Kv s' e v=Kv s e v:=by
 cases v with
 |sh o r=>simp[Kv,h o (by simp[cG])]
 |ty t x=>cases t<;>rfl
 |_=>rfl
def T8{s s':aY S}{o:Nat}(h:s'.ob.get o=s.ob.get o)(e:Nat):LM s' o e=LM s o e:=by simp[LM,h]
mutual
def Am{s s':aY S}:∀(t:Ty)(v:V S),Sm s s' v->vT v=W->bU s' t v=bU s t v
 |t,.agg c,h,b=>by cases t with|st n=>simp[bU,ML (S.fs n) c h b]|_=>simp only[bU]
 |t,.de u v,h,b=>by
  cases t with
  |de n=>
   simp[bU];cases xj (S.alts n) u with|none=>rfl|some i=>simp[Am (nh (S.alts n) i) v h b]
  |_=>simp only[bU]
 |t,.sh o r,_,b=>by simp[vT]at b
 |t,.sx _ _ _ _,_,b=>by rfl
 |t,.pW _ _ _,_,_=>by cases t<;>simp only[bU]
 |t,.ty _ _,_,_=>by rfl
 |t,.kb _,_,_=>by cases t<;>simp only[bU]
 |t,.kn _ _,_,_=>by cases t<;>simp only[bU]
 |t,.dat d,_,_=>by
  cases t with
  |de n=>
   cases d with
   |lit v=>cases v<;>simp only[bU]
   |_=>simp only[bU]
  |opt n=>
   cases d with
   |lit v=>cases v with
    |pointer a=>cases a<;>simp only[bU]
    |_=>simp only[bU]
   |_=>simp only[bU]
  |_=>simp only[bU]
 |t,.ptr _ _,_,_=>by cases t<;>simp only[bU]
 |t,.lR _ _ _,_,_=>by cases t<;>simp only[bU]
 |t,.lQ _ _ _ _,_,_=>by cases t<;>simp only[bU]
 |t,.emp,_,_=>by cases t<;>simp only[bU]
 |t,.kr _ _ _,_,_=>by cases t<;>simp only[bU]
 |t,.fn _ _ _,_,_=>by cases t<;>simp only[bU]
 |t,.gM _,_,_=>by cases t<;>simp only[bU]
 |t,.gd _ _,_,_=>by cases t<;>simp only[bU]
 |t,.mp _,_,_=>by cases t<;>simp only[bU]
 |t,.rE _,_,_=>by cases t<;>simp only[bU]
 |t,.uj _,_,_=>by cases t<;>simp only[bU]
 |t,.ub _,_,_=>by cases t<;>simp only[bU]
def ML{s s':aY S}:∀(ts:L Ty)(l:L (V S)),Sms s s' l->jN l=W->nY s' ts l=nY s ts l
 |[],[],_,_=>rfl|t::ts,v::l,h,a=>by simp[jN,eZ]at a;simp[nY,Am t v h.cons.1 a.1,ML ts l h.cons.2 a.2]
 |[],_::_,_,_=>rfl|_::_,[],_,_=>rfl
end
def gi(r:nN S):O (Bool×V S):=match r with
 |some (c,t,_)=>Z (c,t)|none=>Y
theorem qj{b:Bool}{x y:nN S}(h:b=W->gi x=gi y):gi (bif b then x else Y)=gi (bif b then y else Y):=by
 grind
theorem Rw{b:Bool}{x y x' a:nN S}(h:gi x=gi x')(c:gi y=gi a):gi (bif b then x else y)=gi (bif b then x' else a):=by
 grind
theorem gw{α:Type}(x:O α)(f g:α->Bool×V S×aY S)(h:∀a,(f a).1=(g a).1∧(f a).2.1=(g a).2.1):gi (x.map f)=gi (x.map g):=by cases x with|none=>rfl|some a=>grind[gi]
section
variable {fr:bX S}{s s':aY S}
theorem Yd(i:TI)(τ:O Ty){a:V S}(h:Sm s s' a):gi (yO i τ s' a)=gi (yO i τ s a):=by
 cases a with
 |ptr o off=>
  simp[yO,h o (by simp[cG])];cases s.ob.get o with
  |none=>rfl|some ob=>
   cases ob with
   |box b=>
    dsimp only;cases Nq (cD ((b.drop off).take i.size)) i.size with|false=>rfl|true=>exact gw _ _ _ λ_=>⟨rfl,rfl⟩
   |_=>rfl
 |lR t x off=>exact gw _ _ _ λ_=>⟨rfl,rfl⟩|lQ o e k off=>
  simp[yO,T8 (h o (by simp[cG]))];cases LM s o e with|none=>rfl|some x=>exact gw _ _ _ λ_=>⟨rfl,rfl⟩
 |_=>rfl
theorem ID(i:TI)(τ:O Ty){a b:V S}(h:Sm s s' a):gi (j6 i τ s' a b)=gi (j6 i τ s a b):=by
 unfold j6;split
 .rename_i e n c _;cases a with
  |sh o r=>
   simp[T8 (h o (by simp[cG]))];cases LM s o r with|none=>rfl|some x=>dsimp only;cases sk x.1 e<;>rfl
  |ty t x=>dsimp only;rw[BR h];cases Kv s e (.ty t x)<;>rfl
  |emp=>rfl|kr n t l=>dsimp only;rw[BR h];cases Kv s e (.kr n t l)<;>rfl
  |pW n t l=>dsimp only;rw[BR h];cases Kv s e (.pW n t l)<;>rfl
  |_=>rfl
 .unfold xe;split
  .rename_i k;cases Nt k _<;>rfl
  .rfl
 .rfl
theorem abK(E:fX)(o:Op)(c:qI o=J)(h:∀x∈o.operands.toList,∀v,cA fr x=Z v->Sm s s' v):gi (cF E fr s' o)=gi (cF E fr s o):=by
 cases o with
 |alloc=>cases c
 |box=>cases c
 |store=>cases c
 |buildSlice=>cases c
 |slice=>cases c
 |move x=>exact gw _ _ _ λ_=>⟨rfl,rfl⟩|assign x=>exact gw _ _ _ λ_=>⟨rfl,rfl⟩|pick x y z=>
  simp[cF];split
  .exact gw _ _ _ λ_=>⟨rfl,rfl⟩
  .rfl
 |build t i=>
  simp[cF];split
  .split
   .exact gw _ _ _ λ_=>⟨rfl,rfl⟩
   .rfl
  .rfl
 |load t x=>
  grind[cF,Yd,Op.operands]
 |nilCheck x=>
  simp[cF];split<;>first|rfl|(split<;>rfl)
 |binOp op t x y u=>
  simp[cF];split
  .exact gw _ _ _ λ_=>⟨rfl,rfl⟩
  .rfl
 |unOp op t x=>
  simp[cF];split
  .exact gw _ _ _ λ_=>⟨rfl,rfl⟩
  .rfl
 |convert t u x=>
  simp[cF];split
  .unfold TY;split
   .exact gw _ _ _ λ_=>⟨rfl,rfl⟩
   .exact gw _ _ _ λ_=>⟨rfl,rfl⟩
   .rfl
  .rfl
 |makeInterface t x=>
  simp[cF];split
  .split<;>rfl
  .rfl
 |makeFunc f a b=>simp[cF];split<;>rfl
 |extract x k=>
  simp[cF];split
  .unfold A6;split
   .exact gw _ _ _ λ_=>⟨rfl,rfl⟩
   .rfl
  .rfl
 |fieldAddr t x k=>
  simp[cF];split
  .unfold qV;split
   .split
    .rename_i off size d _;cases Nq size 0 with
     |true=>rfl|false=>
      first|rfl|(simp only[jo];split<;>rfl)
    .rfl
   .rfl
  .rfl
 |field t x k=>
  simp[cF];split
  .unfold Cw;split
   .split
    .rename_i off size d e _ _;dsimp only;cases(Nq (cD ((e.drop off).take size)) size&&!(Nq size 0))with|false=>rfl|true=>exact gw _ _ _ λ_=>⟨rfl,rfl⟩
    .rfl
   .rfl
  .rfl
 |indexAddr t x g=>
  grind[cF,ID,Op.operands]
 |index t x g=>
  simp[cF];split
  .unfold Cn;split<;>rfl
  .rfl
 |typeAssert x a t ok=>
  simp[cF];split
  .rename_i v h1 h2;unfold E3;split
   .rfl
   .rename_i u v _;cases Nq u t with|true=>rfl|false=>exact gw _ _ _ λ_=>⟨rfl,rfl⟩
   .rename_i u v _;cases Nq u t<;>rfl
   .rfl
  .rfl
 |_=>rfl
end
section
variable {fr:bX S}{s s':aY S}
theorem JU{r a:nN S}(h:gi r=gi a):r=Y↔a=Y:=by cases r<;>cases a<;>simp_all [gi]
def abT{s s':aY S}{a b:Ty}(h:Sm s s' v):X9 s' a b v=X9 s a b v:=by
 unfold X9;split
 .rename_i o;rw[h o (by simp[cG])]
 .rfl
 .rfl
 .rfl
theorem afr(E:fX)(o:Op)(b:qI o=J)(c:∀x∈o.operands.toList,∀v,cA fr x=Z v->Sm s s' v):gi (uh E fr s' o)=gi (uh E fr s o):=by
 cases o with
 |makeMap=>cases b
 |mapUpdate=>cases b
 |insert=>cases b
 |makeSlice=>cases b
 |range=>cases b
 |lookup t x d ok=>
  simp[uh];split
  .rename_i m e f h1 h2 h3;have:=c x (by simp[Op.operands]) _ h2;simp[abT this];split
   .split<;>rfl
   .rfl
  .rfl
 |nilCheck x=>simp[uh];split<;>rfl
 |typeAssert x t u ok=>
  simp[uh];split
  .rename_i τ n y _ _ _;split
   .rfl
   .rename_i j _ _;cases sk (nh (S.alts n) j) τ<;>cases ok<;>rfl
   .cases ok<;>rfl
  .rfl
 |build t g=>
  simp only[uh];split
  .split
   .exact gw _ _ _ λ_=>⟨rfl,rfl⟩
   .rfl
  .rfl
 |binOp op t x y u=>
  cases op<;>first
   |rfl|(
     cases y with
     |const v=>
      cases v with
      |nilIface=>simp only[uh];split<;>first|rfl|(split<;>rfl)
      |pointer a=>cases a<;>first|rfl|(simp only[uh];split<;>first|rfl|(split<;>rfl))
      |slice a n m=>
       cases a<;>cases n<;>cases m<;>first
        |rfl|(
         simp[uh];split
         .rename_i h2;have:=c x (by simp[Op.operands]) _ h2;simp[BR this];split<;>rfl
         .rfl)
      |_=>rfl
     |_=>rfl)
 |_=>rfl
theorem afw(E:fX)(o:Op)(b:qI o=J)(c:∀x∈o.operands.toList,∀v,cA fr x=Z v->Sm s s' v):gi (BL E fr s' o)=gi (BL E fr s o):=by
 cases o with
 |slice=>cases b
 |store=>cases b
 |buildSlice=>cases b
 |indexAddr t x d=>
  simp[BL];split
  .rename_i o r h1;rw[c x (by simp[Op.operands]) _ h1 o (by simp[cG])];split
   .split
    .split
     .exact qj λ_=>rfl
     .rfl
    .rfl
   .rfl
  .rfl
 |load t a=>
  simp only[BL];split
  .rename_i o e k off h1;rw[c a (by simp[Op.operands]) _ h1 o (by simp[cG])];split
   .split
    .exact qj λ_=>Rw (qj λ_=>rfl) (qj λ_=>gw _ _ _ λ_=>⟨rfl,rfl⟩)
    .rfl
   .rfl
  .rfl
 |_=>rfl
theorem Tk(E:fX){o:Op}(a:gi (BL E fr s' o)=gi (BL E fr s o))(h1:gi (cF E fr s' o)=gi (cF E fr s o))(h2:gi (uh E fr s' o)=gi (uh E fr s o)):gi (AN E fr s' o)=gi (AN E fr s o):=by
 grind[AN,JU]
theorem afs(E:fX)(o:Op)(a:qI o=J)(b:∀x∈o.operands.toList,∀v,cA fr x=Z v->Sm s s' v):gi (AN E fr s' o)=gi (AN E fr s o):=by
 grind[abK,afr,afw,Tk]
def IN(a:L (Bool×V S×aY S)):L (Bool×V S):=a.map λp=>(p.1,p.2.1)
def J7{ω:Type}(k:V S->O ω)(d:O ω):∀{l m:L (Bool×V S×aY S)},IN l=IN m->xg k d l=xg k d m
 |[],[],_=>rfl|p::l,q::m,h=>by simp[IN,pG,Nv,fh]at h;simp[xg,h.1.1,h.1.2,J7 k d (l:=l) (m:=m) h.2]
 |[],_::_,h=>by simp[IN]at h
 |_::_,[],h=>by simp[IN]at h
def ZD(r:O (L (Bool×V S×aY S)×Bool×V S×aY S)):O (L (Bool×V S)×Bool×V S):=match r with
 |none=>Y|some (l,p,d,_)=>Z (IN l,p,d)
def HK(n:Int)(ag:Bool)(sz:Nat)(cs:L (V S))(s s':aY S):∀l:L Nat,IN (zV n ag sz cs s' l)=IN (zV n ag sz cs s l)
 |[]=>rfl|j::l=>by
  simp only[zV];split
  .simp[IN,pG,Nv,true_and];exact HK n ag sz cs s s' l
  .rfl
def afu(E:fX)(o:Op)(b:qI o=J)(c:∀x∈o.operands.toList,∀v,cA fr x=Z v->Sm s s' v):ZD (iF E fr s' o)=ZD (iF E fr s o):=by
 cases o with
 |next=>cases b
 |lookup t x d ok=>
  simp[iF];split
  .rename_i a e h1 h2 h3;have:=c x (by simp[Op.operands]) _ h2 a (by simp[cG]);rw[this];split
   .split
    .simp_all[ZD,IN]
    .rfl
   .rfl
  .rfl
 |index t x d=>
  simp[iF];split
  .rename_i i f e _ _ _;split
   .cases Nq (cD f) i.size with|false=>rfl|true=>simp[gY,ZD,HK _ _ _ _ s s']
   .rfl
  .rfl
 |_=>rfl
end
def JO{s s':aY S}{e:Ty}:∀{ps:L (Nat×V S)}{es:L (den S.A e)},(∀p∈ps,Sm s s' p.2)->(∀p∈ps,vT p.2=W)->oP s' e es ps=oP s e es ps
 |[],es,_,_=>rfl|(k,v)::ps,es,h,b=>by simp[oP,Am e v (h _ eI) (b _ eI)];cases bU s e v with|none=>rfl|some x=>dsimp only;rw[JO (λp a=>h p (g7 _ a)) (λp a=>b p (g7 _ a))]
theorem FU{fr:bX S}:∀{ps:L (Nat×Operand)}{l:L (Nat×V S)},iU fr ps=Z l->∀p∈l,∃x∈ps.map (·.2),cA fr x=Z p.2
 |[],l,h,p,a=>by grind[iU]
 |(k,x)::ps,l,h,p,a=>by
  simp[iU]at h;split at h
  .rename_i h2;simp at h;subst h;obtain rfl|a:=fS.1 a
   .simp_all
   .let ⟨y,b,h⟩:=FU h2 p a
    grind
  .cases h
theorem Jm{fr:bX S}:∀{ps:L Operand}{l:L (V S)},jY fr ps=Z l->∀v∈l,∃x∈ps,cA fr x=Z v
 |[],l,h,p,a=>by grind[jY]
 |x::ps,l,h,p,a=>by
  simp[jY]at h;split at h
  .rename_i h2;simp at h;subst h;obtain rfl|a:=fS.1 a
   .simp_all
   .let ⟨y,b,h⟩:=Jm h2 p a
    grind
  .cases h
theorem UD(i:TI)(τ:O Ty){s s':aY S}{v:V S}(hs:∀e,Kv s' e v=Kv s e v)(f:NL v=[])(l h m:O (V S)):gi (v5 i τ s' v l h m)=gi (v5 i τ s v l h m):=by
 unfold v5;rw[f];simp[dU,hs];split
 .split
  .split<;>rfl
  .rfl
 .rename_i e lo _;cases i.kd with
  |slice a b c d=>
   cases Kv s e v with
   |none=>rfl|some g=>
    dsimp only;cases CQ (av g) h with
    |none=>rfl|some j=>
     cases m with
     |none=>rfl|some y=>
      cases h with
      |none=>rfl|some z=>
       cases y with
       |kn k n=>
        cases k with
        |i64=>cases n with
         |ofNat n=>cases n<;>rfl
         |negSucc n=>rfl
        |_=>rfl
       |ty t x=>dsimp only;cases iu .i64 (V.ty (S:=S) t x)<;>rfl
       |_=>rfl
  |_=>rfl
 .rfl
def Jk{s s':aY S}:∀{ps:L Pk}{l:L (V S)},ct ps=W->(∀v∈l,Sm s s' v)->jN l=W->eD s' ps l=eD s ps l
 |[],[],_,_,_=>rfl|.one (.dat t)::ps,v::l,a,h,b=>by simp[jN,eZ]at b;simp[eD,o4,Am t v (h v eI) b.1,Jk (ps:=ps) (by simpa[ct]using a) (λv c=>h v (g7 _ c)) b.2]
 |.one (.own _)::_,_,a,_,_=>by simp[ct]at a
 |.one (.j3 ..)::_,_,a,_,_=>by simp[ct]at a
 |.one (.nil _)::_,_,a,_,_=>by simp[ct]at a
 |.one (.ptr _)::_,_,a,_,_=>by simp[ct]at a
 |.box _::_,_,a,_,_=>by simp[ct]at a
 |[],_::_,_,_,_=>rfl|.one _::_,[],_,_,_=>rfl
def zw{p:Nat->Bool}:∀{l:L (V S)}{v:V S},v∈l->cG p v=W->iJ p l=W
 |a::l,v,h,b=>by
  obtain rfl|h:=fS.1 h
  .simp[iJ,b]
  .simp[iJ,zw h b]
def Er(E:fX){s s':aY S}{ts:Array TypeId}{args:L (V S)}(h:∀v∈args,Sm s s' v):gi (ie E s' .len ts args)=gi (ie E s .len ts args):=by
 unfold ie;split
 .rename_i _;split
  .split<;>rfl
  .split
   .rw[BR (h _ (by simp))];exact gw _ _ _ λ_=>⟨rfl,rfl⟩
   .rfl
  .rfl
 .simp_all
 .rfl
theorem CN(E:fX){s s':aY S}{b:Builtin}(a:EJ b=W){ts:Array TypeId}{args:L (V S)}(h:∀v∈args,Sm s s' v):gi (lG E s' b ts args)=gi (lG E s b ts args):=by
 have h1:gi (ie E s' b ts args)=gi (ie E s b ts args):=by cases b with|len=>exact Er E h|max=>rfl|min=>rfl|_=>cases a
 have h2:gi (tX E s' b ts args)=gi (tX E s b ts args):=by
  unfold tX;split
  .rename_i o;rw[h (.mp o) (by simp) o (by simp[cG])];split<;>rfl
  .split<;>rfl
  .split<;>rfl
  .rfl
 have c:gi (mR E s' b ts args)=gi (mR E s b ts args):=by
  unfold mR;split
  .rename_i o r;rw[h (.sh o r) (by simp) o (by simp[cG])];split
   .split
    .split
     .exact qj λ_=>rfl
     .rfl
    .rfl
   .rfl
  .cases a
  .cases a
  .rfl
 have h3:gi (tY E s' b ts args)=gi (tY E s b ts args):=by cases b<;>first|rfl|cases a
 grind[lG,JU]
def ae7{α:Type}(f:Bool->V S->O α)(r:nN S):O α:=match r with
 |none=>Y|some (p,t,_)=>f p t
def Bj{α:Type}{r a:nN S}(h:gi r=gi a)(f:Bool->V S->O α):ae7 f r=ae7 f a:=by
 cases r with
 |none=>cases a with|none=>rfl|some x=>cases h
 |some x=>cases a with
  |none=>cases h
  |some y=>simp[gi,gK,fh]at h;simp[ae7];rw[h.1,h.2]
theorem GW(E:eF S)(g:O Bool){fr:bX S}{s s':aY S}(o:Oper){ω:Type}(k:V S->O ω)(i:∀x∈o.op.operands.toList,∀v,cA fr x=Z v->Sm s s' v) :
  fD E g fr s' o k=fD E g fr s o k:=by
 unfold fD;have A:qI o.op=J->gi (AN E.T fr s' o.op)=gi (AN E.T fr s o.op):=λhq=>afs E.T o.op hq i;cases B:o.op with
 |call c=>
  rw[B]at i;simp only[Op.operands,Call.operands,UY,eS]at i;dsimp only;cases ha:jY fr c.args.toList with
  |none=>rfl|some args=>
   have w:∀v∈args,Sm s s' v:=λv z=>by
    grind[Jm]
   cases K:c.callee with
   |value f=>
    dsimp only;cases hf:cA fr f with
    |none=>rfl|some v=>
     simp;have z:=i f (.inl (by rw[K];simp)) v hf;cases d:pY v args with
     |none=>rfl|some q=>
      let ⟨f',j⟩:=q
      dsimp only;cases hg:E.II f' with
      |none=>rfl|some c'=>
       dsimp only;have m:∀v∈j,Sm s s' v:=by
        unfold pY at d;split at d
        .obtain ⟨_,rfl⟩:=d;intro u hu;simp only[eS]at hu;obtain(hu|hu)|hu:=hu
         .exact λo P=>z o (by simp[cG,zw hu P])
         .grind
         .exact λo P=>z o (by simp[cG,zw hu P])
        .cases d
       cases R:ct c'.ps with
       |false=>rfl|true=>
        cases hns:jN j with|false=>simp|true=>rw[Jk R m hns]
   |builtin b=>
    dsimp only;cases hb:EJ b with
    |false=>rfl|true=>
     have:=Bj (CN E.T hb (ts:=c.argTypes) w) (λp t=>zJ g p (k t));cases h1:lG E.T s' b c.argTypes args with
     |none=>cases h2:lG E.T s b c.argTypes args with|none=>rfl|some y=>rw[h1,h2]at this;exact this
     |some x=>cases h2:lG E.T s b c.argTypes args with|none=>rw[h1,h2]at this;exact this|some y=>rw[h1,h2]at this;exact this
   |invoke=>rfl
 |buildSlice t n ps=>
  rw[B]at i;simp only[Op.operands]at i;dsimp only;cases C:iU fr ps.toList with
  |none=>rfl|some l=>
   dsimp only;cases r:jN (l.map (·.2))with
   |false=>rfl|true=>
    refine Bj ?_ (λp t=>zJ g p (k t));refine Tk E.T ?_ ?_ rfl
    .simp[BL];split
     .rename_i kx F;split
      .split
       .split
        .refine qj λ_=>?_;have hmm:=i (.tmp kx) (by rw[F];simp);rename_i I _ _ _ _ _ _ _ _ _ _ _ _;rw[F]at C;simp[iU,cA,I,gK]at C;subst C;simp[pG,List.map_nil,jN,Dt]at r;rw[Am _ _ (hmm _ I) r];split
         .rename_i Li;have:=tH _ _ _ r Li;subst this;rfl
         .rfl
        .rfl
       .rfl
      .rfl
     .split
      .split
       .cases Nq n 0<;>rfl
       .rfl
      .rfl
     .rfl
    simp only[cF,C];split
    .rename_i e ps' h1 h2 h3;cases h3;split
     .rename_i sz _ _ _ _;cases Nl (Nat.mul n sz) 16777216 with
      |false=>rfl|true=>
       rw[JO (λp hp=>by
        let ⟨x,I,h⟩:=FU C p hp
        exact i x (by simpa using I) _ h) (Gb r)]
       cases hel:oP s e (List.replicate n (S.zero e)) l with
       |none=>rfl|some q=>
        let ⟨es,os⟩:=q
        have:=CD (Gb r) hel;subst this;rfl
     .rfl
    .rfl
 |slice t x lo hi mx=>
  rw[B]at i;dsimp only;cases z:cA fr x with
  |none=>rfl|some v=>
   dsimp only;cases r:vT v with
   |false=>rfl|true=>
    refine Bj ?_ (λp t=>zJ g p (k t));have hsm:=i x (by simp[Op.operands]) v z;have hown:NL v=[]:=by cases v<;>first|rfl|simp[vT]at r
    rw[EO rfl (Cb z r),EO rfl (Cb z r)]
    grind[cF,UD,BR]
 |store=>rfl|alloc=>rfl|box=>rfl|panic=>rfl|makeMap=>rfl|mapUpdate=>rfl|insert=>rfl|makeSlice=>rfl|range=>rfl|next=>rfl|defer=>rfl|_=>
  have a:=afu E.T o.op (by rw[B];rfl) i;rw[B]at A a;dsimp only;have h2:=Bj (A rfl) (λp t=>zJ g p (k t));generalize I:iF E.T fr s' _=x at a;generalize hy:iF E.T fr s _=y at a;cases x with
  |none=>cases y with|none=>exact h2|some y=>cases a
  |some x=>cases y with
   |none=>cases a
   |some y=>simp only[ZD,gK,fh]at a;obtain⟨q1,q2,q3⟩:=a;dsimp only;rw[q2,q3];exact J7 k _ q1
end
section
theorem LJ(e j:Nat):(1 <<< e).testBit j=decide (e=j):=by rw[Nat.shiftLeft_eq,Jf,Nat.testBit_two_pow]
theorem JK(f:Nat->Nat)(j:Nat):∀(l:L Nat)(z:Nat),(l.foldl (λb e=>b||| (1 <<< e||| f e)) z).testBit j=(z.testBit j||l.any λe=>decide (e=j)||(f e).testBit j)
 |[],z=>by simp
 |e::l,z=>by
  rw[Nx,JK f j l]
  grind[LJ]
theorem w8:∀(l:L Oper)(a:L Nat)(i:Nat),i<a.length->(O2 l a).getD i 0=a.getD i 0
 |[],_,_,_=>rfl|o::l,a,i,h=>by
  rw[O2,w8 l _ i (by grind)]
  grind
def any_eq{α:Type}{f g:α->Bool}:∀{l:L α},(∀e∈l,f e=g e)->l.any f=l.any g
 |[],_=>rfl|a::l,h=>by rw[List.any_cons,List.any_cons,h a eI,any_eq λe b=>h e (g7 _ b)]
theorem T6:∀(l:L Oper)(acc:L Nat)(k:Nat)(o:Oper),l[k]?=Z o->vG l acc.length=W->∀j,
  ((O2 l acc).getD (acc.length+k) 0).testBit j=(yx o).any λe=>decide (e=j)||((O2 l acc).getD e 0).testBit j
 |[],acc,k,o,h,_,j=>by simp at h
 |p::l,acc,k,o,h,c,j=>by
  simp only[vG,eZ]at c;cases k with
  |zero=>simp at h;subst h;rw[O2,w8 _ _ _ (by simp_all)];simp;rw[JK];simp;refine any_eq λe d=>?_;have a:e<acc.length:=gN (kA.1 c.1 e d);have:=w8 l (acc++[(yx p).foldl (λb e=>b||| (1 <<< e||| acc.getD e 0)) 0]) e (by grind);simp[vR,Xh a]at this ⊢;rw[this]
  |succ k=>
   rw[O2];have:=T6 l (acc++[(yx p).foldl (λb e=>b||| (1 <<< e||| acc.getD e 0)) 0]) k o (by simpa using h) (by grind) j
   grind
section
variable {ops:List Oper}
def Pre(ops:L Oper)(i j:Nat):Prop:=((w7 ops).getD i 0).testBit j=W
variable {i:Nat}{o:Oper}
def EN(a:vG ops 0=W)(h:ops[i]?=Z o)(j:Nat):Pre ops i j↔∃e∈yx o,e=j∨Pre ops e j:=by
 have:=T6 ops [] i o h a j
 simp_all[Pre,w7]
def Bw:∀{l:L Oper}{n:Nat},vG l n=W->∀{k:Nat}{o:Oper},l[k]?=Z o->∀e∈yx o,e<n+k
 |[],_,_,k,o,h,_,_=>by simp at h
 |p::l,n,a,k,o,h,e,b=>by
  simp only[vG,eZ]at a;cases k with
  |zero=>
   simp_all
  |succ k=>have:=Bw a.2 (k:=k) (by simpa using h) e b;omega
theorem XH(a:vG ops 0=W):∀{i:Nat}{o:Oper},ops[i]?=Z o->∀j,Pre ops i j->j<i:=by
 intro i
 induction i using Nat.strongRecOn with
 |_ i g=>
  intro o h j b
  let ⟨e,c,d⟩:=(EN a h j).1 b
  have f:=Bw a h e c
  grind
theorem U5(a:vG ops 0=W):∀{i:Nat}{o:Oper},ops[i]?=Z o->∀{j k:Nat},Pre ops i j->Pre ops j k->Pre ops i k:=by
 intro i
 induction i using Nat.strongRecOn with
 |_ i g=>
  intro o h j k c d
  let ⟨e,b,hej⟩:=(EN a h j).1 c
  refine(EN a h k).2 ⟨e,b,.inr ?_⟩;obtain rfl|hej:=hej
  .exact d
  .have f:=Bw a h e b
   grind
theorem nA(b:vG ops 0=W){a:Nat->Prop}(k:∀i o,ops[i]?=Z o->a i->∀e∈yx o,a e):∀{i:Nat}{o:Oper},ops[i]?=Z o->(∀e∈yx o,a e)->∀j,Pre ops i j->a j:=by
 intro i
 induction i using Nat.strongRecOn with
 |_ i l=>
  intro o h d j f
  let ⟨e,c,hej⟩:=(EN b h j).1 f
  obtain rfl|hej:=hej
  .exact d _ c
  .have g:=Bw b h e c
   grind
theorem Ap{a b:Nat}:UA a b=W↔∀j,a.testBit j=W->b.testBit j=W:=by
 unfold UA;constructor
 .intro h j c;have h:a&&& b=a:=vQ h
  grind
 .intro h;have:a&&& b=a:=Nat.eq_of_testBit_eq λj=>by
   simp_all
  rw[this];simp
def sv(ops:L Oper):Wv:=ops.zipIdx.map λp=>(p.2,p.1)
theorem ju{i:Nat}{o:Oper}:(i,o)∈sv ops↔ops[i]?=Z o:=by
 unfold sv;rw[v9];constructor
 .grind
 .intro h;exact⟨(o,i),Nm.2 h,rfl⟩
theorem uS(h:agU ops (w7 ops)=W){i:Nat}{o:Oper}(hi:ops[i]?=Z o){d:Nat}(f:o.dst=Z d) :
  d<bC∧d∉tmpsOf o.op∧∀{j:Nat}{p:Oper},ops[j]?=Z p->i≠j->p.dst≠Z d∧(d∈tmpsOf p.op->Pre ops j i∨Pre ops i j):=by
 have h1:=kA.1 h (o,i) (Nm.2 hi);simp only[f,eZ]at h1;have c:∀{p:Oper},d∈tmpsOf p.op->MC p d=W:=by
  intro p a
  let ⟨x,g,b⟩:=AG.1 a
  refine S7.2 ⟨x,g,?_⟩;cases x with
  |tmp k=>
   simp_all
  |_=>cases b
 refine⟨gN h1.1,λa=>?_,λ{j p}l m=>?_⟩
 .have h2:=kA.1 h1.2 (o,i) (Nm.2 hi)
  simp_all
 .have h2:=kA.1 h1.2 (p,j) (Nm.2 l);have e:Nq i j=J:=by
   grind[Nat.eq_of_beq_eq_true]
  simp only[e,jo,eZ,oG]at h2;refine⟨λn=>?_,λa=>?_⟩
  .simp_all
  .obtain h3|h3:=h2.2
   .simp_all
   .exact h3
def antiP(ops:L Oper)(i:Nat):Prop:=∃o,ops[i]?=Z o∧∃d,o.dst=Z d∧∃j p,ops[j]?=Z p∧d∈tmpsOf p.op∧Pre ops i j
def ZV(hi:ops[i]?=Z o)(h:Uc ops (w7 ops) i o=J):¬antiP ops i:=by
 rintro⟨e,b,d,f,j,p,g,l,m⟩
 have:o=e:=jT (hi.symm.trans b);subst this;unfold Uc at h;rw[f]at h;have h1:=List.any_eq_false.1 h (p,j) (Nm.2 g);have a:MC p d=W:=by
  let ⟨x,n,c⟩:=AG.1 l
  refine S7.2 ⟨x,n,?_⟩;cases x with
  |tmp k=>
   simp_all
  |_=>cases c
 refine h1 ?_;simp only[a,qC];exact m
def Za(h:Ri ops (w7 ops)=W)(hi:ops[i]?=Z o){d:Nat}(a:ot ops o=Z d):∃j p,ops[j]?=Z p∧p.dst=Z d∧Pre ops i j:=by
 have h1:=kA.1 h (o,i) (Nm.2 hi);unfold ot at a;cases e:o.guard with
 |none=>simp_all|some q=>
  let ⟨j,c⟩:=q
  simp only[e]at a h1;rw[j0,vP]at a
  let ⟨p,f,b⟩:=a
  exact⟨j,p,f,b,h1⟩
def Fa(h:ae6 ops=W)(hi:ops[i]?=Z o):∀k∈tmpsOf o.op,k<bC:=by
 intro k b
 let ⟨x,c,a⟩:=AG.1 b
 have h1:=kA.1 h o (iq hi);have h2:=kA.1 h1 x c;cases x with
 |tmp j=>
  simp_all
 |_=>cases a
def ZX{E:fX}{n:Nat}(h:RS E n ops=W)(hi:ops[i]?=Z o)(a:e8 o=W):o.guard=Y∧(∃t c,o.op=.alloc t∧E.E.ti t=Z c)∧∀d,o.dst=Z d->d<n:=by
 have h1:=kA.1 h o (iq hi);simp[a,gY,eZ]at h1;unfold e8 at a;split at a
 .rename_i t b;rw[b]at h1;refine⟨by simpa using a,⟨t,?_⟩,λd f=>?_⟩
  .cases e:E.E.ti t with|none=>simp_all|some c=>simp_all
  simp_all
 .cases a
theorem Jj(done:Nat):∀(l:Wv)(z j:Nat),(l.foldl (λb(i,o)=>bif e8 o&&!(done.testBit i)then b||| 1 <<< i else b) z).testBit j=(z.testBit j||l.any λ(i,o)=>e8 o&&!(done.testBit i)&&decide (i=j))
 |[],z,j=>by simp
 |(i,o)::l,z,j=>by rw[Nx,Jj done l,List.any_cons];cases h:(e8 o&&!(done.testBit i))with|false=>grind|true=>simp only[h,gY,Nb,LJ,qC,Bool.or_assoc]
def wh(done j:Nat):(yL (sv ops) done).testBit j=W↔∃o,ops[j]?=Z o∧e8 o=W∧done.testBit j=J:=by
 unfold yL;rw[Jj,Nat.zero_testBit,Bool.false_or,S7];constructor
 .rintro ⟨⟨i,o⟩,a,h⟩
  simp at h;obtain⟨⟨h1,h2⟩,rfl⟩:=h;exact⟨o,ju.1 a,h1,h2⟩
 .rintro ⟨o,b,h1,h2⟩
  exact⟨(j,o),ju.2 b,by simp[h1,h2]⟩
end
end
section
structure I0(g:Gh)(w0 w:World)(b:Nat)(z:Array Value):Prop where
 new:w0.heap.size<=b
 lt:b<w.heap.size
 bh:¬g.bh b
 own:∀o,¬bz g o b
 mem:∃ty,w.heap[b]?=Z (.cells z ty (0,0))
section
variable {g g':Gh}{w0 w w':World}{b:Nat}{z:Array Value}
theorem I0.BN(h:I0 g w0 w b z){ow:L Nat}{s s':aY S}(c:cP ow s g w s' g' w')(f:s.fl=0):I0 g' w0 w' b z:=by
 let ⟨ty,i⟩:=h.mem
 refine⟨h.new,iO h.lt c.ext.size,λa=>?_,λo d=>?_,ty,?_⟩
 .obtain a|a|⟨o,_,d⟩:=c.ext.og b a
  .exact h.bh a
  .grind
  .exact h.own o d
 .obtain ⟨j,_,e⟩|a:=c.ext.own o b (by omega) d
  .exact h.own j e
  simp_all
 .rw[c.ext.heap b h.lt λo _=>h.own o];exact i
def aV.ZY{s:St}(hs:aV g s w)(hn:s.aE<bC)(hf:I0 g w0 w b z){cs:L T}(hl:cs.length=z.size)
  (y:∀(j:Nat)(t:T)(v:Value),cs[j]?=Z t->z[j]?=Z v->aH g w t v) :
  aV (g.dD s.aE b) (eg s (.box cs)).2 w∧mX g (g.dD s.aE b)∧(∀k c,bz (g.dD s.aE b) k c->bz g k c∨(k=s.aE∧c=b)):=by
 have a:=hs.ah s.aE (eM _);have n:∀o c,g.bP o=Z c->(g.dD s.aE b).bP o=Z c:=λo c h=>by
  have:o≠s.aE:=λe=>by rw[e,a.1]at h;cases h
  simp[Gh.dD,this,h]
 have i:mX g (g.dD s.aE b):=⟨n,λ_ _ _ h=>h,λ_ h=>h⟩;have d:∀k c,bz (g.dD s.aE b) k c->bz g k c∨(k=s.aE∧c=b):=by
  rintro o c ⟨h1,h2|h2⟩
  .by_cases f:o=s.aE
   .subst f;simp[Gh.dD]at h2;exact .inr ⟨rfl,h2.symm⟩
   .simp[Gh.dD,f]at h2;exact .inl ⟨h1,.inl h2⟩
  .exact .inl ⟨h1,.inr h2⟩
 let ⟨ty,A⟩:=hf.mem
 refine⟨⟨by simp only[eg];omega,λo f=>?_,λo c p=>?_,λo e x B=>?_,hs.bh,λo q c h C=>?_⟩,i,d⟩
 .simp only[eg]at f;have h1:o≠s.aE:=by omega
  simp[Gh.dD,h1,yo];exact hs.ah o (by omega)
 .by_cases f:o=s.aE
  .subst f;have r:c=b:=by simp[Gh.dD]at p;exact p.symm
   subst r;refine⟨hf.bh,hf.lt,λob l=>⟨_,A,?_⟩⟩;simp[eg]at l;rw[Tr.aR _ _ _ _ hn,bw rfl]at l;obtain rfl:=jT l;exact .box cs z ty hl λj t v E F=>(y j t v E F).le i
  .have u:g.bP o=Z c:=by simpa[Gh.dD,f]using p
   exact(hs.box o c u).le i rfl (by simp[eg];rw[Tr.aR _ _ _ _ hn,bL f])
 .have m:g.arr o e=Z x:=B;have f:o≠s.aE:=λh=>by rw[h,a.2 e]at m;cases m
  exact(hs.arr o e x m).le rfl (by simp[eg];rw[Tr.aR _ _ _ _ hn,bL f]) (λ_ _ _ h=>h) (λ_=>rfl)
 .obtain h1|⟨h1,h3⟩:=d o c h<;>obtain h2|⟨h2,h4⟩:=d q c C
  .exact hs.jS o q c h1 h2
  .subst h4;exact absurd h1 (hf.own o)
  .subst h3;exact absurd h2 (hf.own q)
  .rw[h1,h2]
def I0.keep{o c:Nat}{f:Array Value}(h:I0 g w0 w b z)(j:I0 g w0 w c f)(i:b≠c)(a:∀k e,bz (g.dD o c) k e->bz g k e∨(k=o∧e=c)):I0 (g.dD o c) w0 w b z:=
 ⟨h.new,h.lt,h.bh,λk d=>by
  obtain d|⟨_,rfl⟩:=a k b d
  .exact h.own k d
  omega,h.mem⟩
end
def aaH(E:fX)(g:Gh)(w0 w:World)(a:Act)(o:Oper)(b:Nat):Prop:=
 ∀t c d,o.op=.alloc t->E.E.ti t=Z c->o.dst=Z d->∃z,a.tmps[d]?=Z (.pointer (Z ⟨b,0,Y⟩))∧I0 g w0 w b z∧ZOk c.zero z
structure Adp(E:fX)(which:Nat)(l:Wv)(fr:bX S)(s:aY S)(g:Gh)(w:World)(a:Act)(fr':bX S)(s':aY S)(g':Gh):Prop where
 rel:aV g' (aB s') w
 le:mX g g'
 bh:g'.bh=g.bh
 fl:s'.fl=s.fl
 lo:s'.lo=s.lo
 wr:s'.wr=s.wr
 dr:s'.dr=s.dr
 aE:s.aE<=s'.aE
 ob:∀o,o<s.aE->s'.ob.get o=s.ob.get o
 n:fr'.n=fr.n
 OL:fr'.df=fr.df
 old:∀k,(∀p∈l,which.testBit p.1=W->p.2.dst≠Z k)->fr'.get k=fr.get k
 new:∀k,(∃p∈l,which.testBit p.1=W∧p.2.dst=Z k)->∀t,fr'.get k=Z t->∃v,a.tmps[k]?=Z v∧aH g' w (low t) v
 own:∀k b,bz g' k b->bz g k b∨∃p∈l,which.testBit p.1=W∧∃d,p.2.dst=Z d∧a.tmps[d]?=Z (.pointer (Z ⟨b,0,Y⟩))
 adb:∀p∈l,which.testBit p.1=W->∃t ti d,p.2.op=.alloc t∧E.E.ti t=Z ti∧p.2.dst=Z d∧d<fr.n
theorem Pb{E:fX}{f:Nat}{w0 w:World}{a:Act}{bl:Nat->Nat}:∀{l:Wv}{fr fr':bX S}{s s':aY S}{g:Gh},yY E f l fr s=Z (fr',s')->fr.n<=bC->aV g (aB s) w->
  (∀p∈l,f.testBit p.1=W->aaH E g w0 w a p.2 (bl p.1))->(l.map (·.1)).Nodup->(∀p∈l,∀q∈l,f.testBit p.1=W->f.testBit q.1=W->p.1≠q.1->bl p.1≠bl q.1)->
  (∀p∈l,∀q∈l,p.1≠q.1->∀d,p.2.dst=Z d->q.2.dst≠Z d)->∃g',Adp E f l fr s g w a fr' s' g':=by
 intro l
 induction l with
 |nil=>intro fr fr' s s' g h _ hs _ _ _ _;obtain⟨rfl,rfl⟩:=h;exact⟨g,hs,mX.refl _,rfl,rfl,rfl,rfl,rfl,eM _,λ_ _=>rfl,rfl,rfl,λ_ _=>rfl,λk⟨p,hp,_⟩=>by(cases hp),λ_ _ h=>.inl h,λp hp=>by(cases hp)⟩
 |cons p l ih=>
  intro fr fr' s s' g h hn hs he x B C
  let ⟨i,o⟩:=p
  rw[pG,Nd]at x;have A:∀q∈l,i≠q.1:=λq b e=>x.1 (v9.2 ⟨q,b,e.symm⟩);obtain⟨hw,h1⟩|⟨hw,h1⟩:=af h
  .clear h;split at h1
   .rename_i t d hop n;split at h1
    .rename_i ti VD;obtain⟨hb,h⟩|⟨_,h⟩:=af h1
     rotate_left
     .cases h
     rw[eZ]at hb;have P:s.aE<bC:=gN hb.1;have R:d<fr.n:=gN hb.2
     let ⟨z,htm,u,hz⟩:=he (i,o) eI hw t ti d hop VD n
     let ⟨z1,z2⟩:=sZ (g:=g) (w:=w) hz
     let ⟨Af,aqB,v⟩:=hs.ZY P u z1 z2
     have af2:aV (g.dD s.aE (bl i)) (aB (dh s (.box (ti.zero.map zeroV)))) w:=by rw[gV];simp[cW,nr];exact Af
     have hE:∀q∈l,f.testBit q.1=W->aaH E (g.dD s.aE (bl i)) w0 w a q.2 (bl q.1):=by
      intro q b hw' t' ti' d' q1 q2 q3
      let ⟨z',r1,r2,r3⟩:=he q (g7 _ b) hw' t' ti' d' q1 q2 q3
      exact⟨z',r1,r2.keep u (B q (g7 _ b) (i,o) eI hw' hw (λe=>A q b e.symm)) v,r3⟩
     let ⟨g',k⟩:=ih h (by exact hn) af2 hE x.2 (λq b r F=>B q (g7 _ b) r (g7 _ F)) (λq b r F=>C q (g7 _ b) r (g7 _ F))
     .have hdl:∀q∈l,f.testBit q.1=W->q.2.dst≠Z d:=λq b _=>C (i,o) eI q (g7 _ b) (A q b) d n;refine⟨g',k.rel,aqB.trans k.le,k.bh,k.fl,k.lo,k.wr,k.dr,fZ (Dr _) k.aE,λj hj=>?_,k.n,k.OL,λj hj=>?_,λj⟨q,b,m,y⟩t' I=>?_,λj c K=>?_,λq b m=>?_⟩
      .rw[k.ob j (Nat.lt_succ_of_lt hj)];simp[dh];rw[Tr.aR _ _ _ _ P,bL (by omega)]
      .rw[k.old j (λq b=>hj q (g7 _ b)),bX.jO _ _ _ _ (iO R hn),bL]
       grind[List.mem_cons_self]
      .obtain rfl|b:=fS.1 b
       .have hjd:j=d:=by
         grind
        subst hjd;rw[k.old j hdl,bX.jO _ _ _ _ (iO R hn),bw rfl]at I;cases I;refine⟨_,htm,?_⟩;exact .ptr _ _ _ (k.le.bP _ _ (by simp[Gh.dD]))
       .exact k.new j ⟨q,b,m,y⟩ t' I
      .obtain K|⟨q,b,m,y⟩:=k.own j c K
       .obtain K|⟨_,rfl⟩:=v j c K
        .exact .inl K
        .exact .inr ⟨(i,o),eI,hw,d,n,htm⟩
       grind
      .obtain rfl|b:=fS.1 b
       .grind
       .exact k.adb q b m
    .cases h1
   .cases h1
  .let ⟨g',k⟩:=ih h1 hn hs (λq b=>he q (g7 _ b)) x.2 (λq b r F=>B q (g7 _ b) r (g7 _ F)) (λq b r F=>C q (g7 _ b) r (g7 _ F))
   have hnw:∀q∈(i,o)::l,f.testBit q.1=W->q∈l:=λq b m=>by
    grind
   refine⟨g',k.rel,k.le,k.bh,k.fl,k.lo,k.wr,k.dr,k.aE,k.ob,k.n,k.OL,λj hj=>k.old j λq b=>hj q (g7 _ b),λj⟨q,b,m,y⟩=>k.new j ⟨q,hnw q b m,m,y⟩,λj c K=>(k.own j c K).imp id λ⟨q,b,h⟩=>⟨q,g7 _ b,h⟩,λq b m=>k.adb q (hnw q b m) m⟩
end
section
def ni(listed:Array Bool)(i:Nat):Prop:=listed.getD i J=W
def E5(E:eF S)(ops:L Oper)(fr:bX S)(s:aY S)(o:Oper):Prop:=
 gI fr o.dst=W∧((vA ops fr o=W∧∀d,o.dst=Z d->∀a,fr.get d=Z a->a=fR)∨(iK ops fr o=Z Y∧∃t,fD E Y fr s o Z=Z t∧∀d,o.dst=Z d->∀a,fr.get d=Z a->aaj t a)∨
  ∃c,iK ops fr o=Z (Z c)∧Oj c fr o.op=W∧∃t,fD E (Z c) (rX fr o.op) s o Z=Z t∧∀d,o.dst=Z d->∀a,fr.get d=Z a->a=.gd c t)
theorem FZ{p:Nat->Bool}{fr:bX S}{s s':aY S}{o:Op}(h:jM p fr o=J)(hs:∀x,p x=J->s'.ob.get x=s.ob.get x):∀x∈o.operands.toList,∀v,cA fr x=Z v->Sm s s' v:=by
 intro x a v b j c
 grind[jM,ek,Nat.eq_of_beq_eq_true]
theorem A7(E:eF S)(g:O Bool){fr:bX S}(o:Oper)(s s':aY S){ω:Type}(k:V S->O ω)(c:NG o.op=W):fD E g fr s o k=fD E g fr s' o k:=by
 unfold fD;cases d:o.op with
 |move x=>simp[iF,AN,BL,cF];cases cA fr x<;>simp[uh]
 |assign x=>simp[iF,AN,BL,cF];cases cA fr x<;>simp[uh]
 |nilCheck x=>
  simp[iF,AN,BL,cF];cases h:cA fr x with
  |none=>simp[uh,h]|some v=>
   cases v with
   |ty t y=>cases t<;>simp[uh,h]
   |fn f a b=>cases f<;>simp[uh,h]
   |_=>simp[uh,h]
 |fieldAddr t x n=>
  simp[iF,AN,BL,cF];cases E.T.E.ti t with
  |none=>simp[uh]|some e=>
   cases cA fr x with
   |none=>simp[uh]|some v=>
    grind[qV,uh]
 |_=>simp[d,NG]at c
theorem E5.move{E:eF S}{ops:L Oper}{fr fr':bX S}{s s':aY S}{o:Oper}(h:E5 E ops fr s o)(hn:fr'.n=fr.n)(j:∀k∈tmpsOf o.op,k<bC)(f:∀k∈tmpsOf o.op,fr'.get k=fr.get k)(l:∀k,ot ops o=Z k->fr'.get k=fr.get k)
  (g:∀d,o.dst=Z d->∀t,fr'.get d=Z t->fr.get d=Z t) {p:Nat->Bool}
  (hs:s'=s∨(jM p fr o.op=J∧jM p (rX fr o.op) o.op=J∧∀x,p x=J->s'.ob.get x=s.ob.get x)∨NG o.op=W):E5 E ops fr' s' o:=by
 let ⟨q,h⟩:=h
 have i:iK ops fr' o=iK ops fr o:=pT l;refine⟨by simp_all[gI],?_⟩;obtain⟨h1,h3⟩|⟨h1,t,h2,h3⟩|⟨c,h1,h4,t,h2,h3⟩:=h
 .grind[rK]
 .refine .inr (.inl ⟨i.trans h1,t,?_,λd a e b=>h3 d a e (g d a e b)⟩);rw[iM E Y o s' Z (jg f)];obtain rfl|⟨m,_,hs⟩|n:=hs
  .exact h2
  .grind[GW,FZ]
  grind[A7]
 .refine .inr (.inr ⟨c,i.trans h1,by rw[uL c f];exact h4,t,?_,λd a e b=>h3 d a e (g d a e b)⟩);rw[iM E (Z c) o s' Z (jg (rW j f))];obtain rfl|⟨_,m,hs⟩|n:=hs
  .exact h2
  .grind[GW,FZ]
  grind[A7]
structure za(E:eF S)(ops:Array Oper)(n:Nat):Prop where
 bk:vG ops.toList 0=W
 ds:agU ops.toList (w7 ops.toList)=W
 gd:Ri ops.toList (w7 ops.toList)=W
 us:ae6 ops.toList=W
 al:RS E.T n ops.toList=W
def At(ops:Array Oper)(i:Nat)(o:Oper):Prop:=ops.toList[i]?=Z o
structure sV(E:eF S)(ops:Array Oper)(jP:bX S)(s0:aY S)(g0:Gh)(w0:World)(done:Nat)(fr:bX S)(s:aY S)(bl:Nat->Nat)(listed:Array Bool)(g:Gh)(a:Act)(w:World):Prop where
 KY:listed.size=ops.size
 n:fr.n=jP.n
 nb:fr.n<=bC
 Wb:a.tmps.size=fr.n
 df:eL g w (bB fr).df a.defers
 tm:∀k t,fr.get k=Z t->(∀i o,At ops i o->o.dst=Z k->(ni listed i↔done.testBit i=W))->∃v,a.tmps[k]?=Z v∧aH g w (low t) v
 Vr:∀i o,At ops i o->ni listed i->∀e∈yx o,ni listed e
 ZB:∀i o,At ops i o->done.testBit i=W->∀j,Pre ops.toList i j->done.testBit j=W
 ld:∀i o,At ops i o->ni listed i->done.testBit i=W∨e8 o=W
 fo:∀i o,At ops i o->done.testBit i=W->¬ni listed i->e8 o=J∧E5 E ops.toList fr s o
 ea:∀i o,At ops i o->ni listed i->done.testBit i=J->aaH E.T g w0 w a o (bl i)∧bl i<w.heap.size
 eb:∀i j,ni listed i->ni listed j->done.testBit i=J->done.testBit j=J->i≠j->i<ops.size->j<ops.size->bl i≠bl j
 BN:eC s0 g0 w0 s g w
 fk:dm (ops.toList.filterMap (·.dst)) jP fr s.dr s0.aE
 fl:s.fl=0
 an:∀j,antiP ops.toList j->done.testBit j=W->ni listed j
structure Un(E:eF S)(ops:Array Oper)(jP:bX S)(s0:aY S)(g0:Gh)(w0:World)(done:Nat)(fr:bX S)(s:aY S)(listed:Array Bool)(g:Gh)(a:Act)(w:World):Prop where
 n:fr.n=jP.n
 nb:fr.n<=bC
 Wb:a.tmps.size=fr.n
 df:eL g w (bB fr).df a.defers
 tm:∀k t,fr.get k=Z t->(∀i o,At ops i o->o.dst=Z k->(ni listed i↔done.testBit i=W))->∃v,a.tmps[k]?=Z v∧aH g w (low t) v
 ZB:∀i o,At ops i o->done.testBit i=W->∀j,Pre ops.toList i j->done.testBit j=W
 BN:eC s0 g0 w0 s g w
section
variable {E:eF S}{ops:Array Oper}{jP:bX S}{s0:aY S}{g0:Gh}{w0:World}{done:Nat}{fr:bX S}{s:aY S}{bl:Nat->Nat}{listed:Array Bool}{g:Gh}{a:Act}{w:World}
def EL(fr:bX S)(d:O Nat)(t:V S):(fr.jq d t).df=fr.df:=by cases d<;>rfl
theorem Gl(fr:bX S):(bB fr).df=fr.df.map mh:=rfl
theorem uT(done i j:Nat):(done||| 1 <<< i).testBit j=W↔done.testBit j=W∨i=j:=by rw[Nb,LJ,oG,rF]
theorem JI{d:O Nat}{t:V S}{k:Nat}(h:gI fr d=W)(hn:fr.n<=bC):(fr.jq d t).get k=if d=Z k then Z t else fr.get k:=by
 cases d with
 |none=>rfl|some d=>
  have h:d<fr.n:=gN h;simp only[bX.jq];rw[bX.jO _ _ _ _ (by omega)]
  grind
theorem Kp(c:za E ops jP.n){i:Nat}{o:Oper}(f:At ops i o){k:Nat}(d:k∈tmpsOf o.op∨ot ops.toList o=Z k){j:Nat}{p:Oper}(g:At ops j p)(q:p.dst=Z k):i≠j∧(Pre ops.toList i j∨(Pre ops.toList j i∧antiP ops.toList j)):=by
 let ⟨_,h2,h3⟩:=uS c.ds g q
 obtain d|d:=d
 .have a:i≠j:=by
   rintro rfl
   have:o=p:=jT (f.symm.trans g)
   simp_all
  exact⟨a,((h3 f (Ne.symm a)).2 d).imp id λh=>⟨h,p,g,k,q,i,o,f,d,h⟩⟩
 .let ⟨r,s,l,m,b⟩:=Za c.gd f d
  have n:j=r:=Xg λa=>(h3 l a).1 m;subst n;refine⟨λe=>?_,.inl b⟩;subst e;exact absurd (XH c.bk f _ b) (Nat.lt_irrefl _)
theorem sV.float(x:za E ops jP.n)(h:sV E ops jP s0 g0 w0 done fr s bl listed g a w){i:Nat}{o:Oper}(u:At ops i o)(hnd:done.testBit i=J)(P:e8 o=J)(han:¬antiP ops.toList i)(hpre:∀j,Pre ops.toList i j->done.testBit j=W)
  (hd:gI fr o.dst=W) {t:V S} (hf:(vA ops.toList fr o=W∧t=fR)∨(iK ops.toList fr o=Z Y∧∃t0,fD E Y fr s o Z=Z t0∧aaj t0 t)∨∃c t1,iK ops.toList fr o=Z (Z c)∧Oj c fr o.op=W∧fD E (Z c) (rX fr o.op) s o Z=Z t1∧t=.gd c t1) :
  sV E ops jP s0 g0 w0 (done||| 1 <<< i) (fr.jq o.dst t) s bl listed g a w:=by
 have ef:∀k,(fr.jq o.dst t).get k=if o.dst=Z k then Z t else fr.get k:=λk=>JI hd h.nb
 have R:¬ni listed i:=λz=>by
  obtain h1|h1:=h.ld i o u z
  .simp_all
  simp_all
 have y:(fr.jq o.dst t).n=fr.n:=by cases o.dst<;>rfl
 have b:∀{j:Nat}{p:Oper},At ops j p->(j=i∨¬Pre ops.toList j i)->∀k,k∈tmpsOf p.op∨ot ops.toList p=Z k->(fr.jq o.dst t).get k=fr.get k:=by
  intro j p n f k l;rw[ef,bL];intro A
  let ⟨h1,h2⟩:=Kp x n l u A
  simp_all
 refine⟨h.KY,y.trans h.n,by rw[y];exact h.nb,by rw[y];exact h.Wb,by rw[Gl,EL];exact h.df,λk B l hc=>?_,h.Vr,λj p n f m hm=>?_,λj p n z=>?_,λj p n f z=>?_,λj p n z f=>?_,λj m f hm h1 h2=>?_,h.BN,?_,h.fl,λj ha f=>?_⟩
 .have A:o.dst≠Z k:=λe=>R ((hc i o u e).2 ((uT done i i).2 (.inr rfl)));rw[ef,bL A]at l;refine h.tm k B l λj p n C=>?_
  grind[uT]
 .rw[uT]at f ⊢;obtain f|rfl:=f
  .exact .inl (h.ZB j p n f m hm)
  simp_all
 .rw[uT];exact(h.ld j p n z).imp .inl id
 .rw[uT]at f;obtain f|rfl:=f
  .let ⟨h1,h2⟩:=h.fo j p n f z
   have F:¬Pre ops.toList j i:=λhpr=>by
    have:=h.ZB j p n f i hpr
    simp_all
   refine⟨h1,h2.move y (Fa x.us n) (λk l=>b n (.inr F) k (.inl l)) (λk l=>b n (.inr F) k (.inr l)) (λd C B r=>?_) (p:=λ_=>J) (.inl rfl)⟩;rw[ef,bL]at r
   .exact r
   .intro q;have hij:i≠j:=λe=>by simp_all
    exact((uS x.ds u q).2.2 n hij).1 C
  .have:o=p:=jT (u.symm.trans n);subst this;have hu:=Fa x.us u;have ht:∀k∈tmpsOf o.op,(fr.jq o.dst t).get k=fr.get k:=λk l=>b u (.inl rfl) k (.inl l);have I:iK ops.toList (fr.jq o.dst t) o=iK ops.toList fr o:=pT λk l=>b u (.inl rfl) k (.inr l);refine⟨P,by simp_all[gI],?_⟩;obtain⟨f1,rfl⟩|⟨f1,t0,f2,f3⟩|⟨c,t1,f1,f2,f3,rfl⟩:=hf
   .refine .inl ⟨(rK λk l=>b u (.inl rfl) k (.inr l)).trans f1,λd q B r=>?_⟩
    simp_all
   .refine .inr (.inl ⟨I.trans f1,t0,by grind[iM,jg],λd q B r=>?_⟩)
    simp_all
   .refine .inr (.inr ⟨c,I.trans f1,by rw[uL c ht];exact f2,t1,by grind[iM,jg,rW],λd q B r=>?_⟩)
    simp_all
 .have hj':done.testBit j=J:=by
   simp_all
  exact h.ea j p n z hj'
 .have K:∀j,(done||| 1 <<< i).testBit j=J->done.testBit j=J:=λj f=>by
   simp_all
  exact h.eb j m f hm (K j h1) (K m h2)
 .refine ⟨λk v l hv=>?_,by rw[EL];exact h.fk.df⟩;obtain h1|h1:=h.fk.tm k v l hv
  .left
   rw[ef,bL]
   .exact h1
   .intro q;exact l (AG.2 ⟨o,iq u,q⟩)
  grind
 .obtain f|rfl:=(uT done i j).1 f
  .exact h.an j ha f
  simp_all
end
end
section
variable {i:Nat}{o:Oper}{v:Value}
def fy{listed:Array Bool}{j:Nat}(hi:i<listed.size):ni (listed.setIfInBounds i W) j↔ni listed j∨i=j:=by
 unfold ni;by_cases h:i=j
 .simp_all
 simp_all
section
variable {E:eF S}{ops:Array Oper}{jP:bX S}{s0:aY S}{g0:Gh}{w0:World}{done:Nat}{fr:bX S}{s:aY S}{bl:Nat->Nat}{listed:Array Bool}{g:Gh}{a:Act}{w:World}
def vH(h:At ops i o):i<ops.size:=by have:=(U1.1 h).1;omega
theorem HF{i:Nat}{o:Oper}(h:At ops i o):ops[i]?=Z o:=by unfold At at h;simpa using h
def uE:∀t:T,dw [] t=J:=by
 intro t
 induction t using T.rec (motive_2:=λl=>iI [] l=J)with|fn f a b d g=>simp[dw,d,g]|de t v e=>simp[dw,e]|agg i e=>simp[dw,e]|gM i e=>simp[dw,e]|gd c v e=>simp[dw,e]|nil=>rfl|cons a l d h=>simp[iI,d,h]|_=>simp[dw]
def dead(ops:L Oper)(done:Nat)(listed:Array Bool):L Nat:=ops.zipIdx.filterMap λ(o,i)=>if listed.getD i J=done.testBit i then Y else o.dst
theorem Gg{k:Nat}:k∈dead ops.toList done listed↔∃i o,At ops i o∧o.dst=Z k∧¬(ni listed i↔done.testBit i=W):=by
 have b:∀i,(listed.getD i J=done.testBit i)↔(ni listed i↔done.testBit i=W):=λi=>by unfold ni;cases listed.getD i J<;>cases done.testBit i<;>simp
 unfold dead;rw[AG];constructor
 .rintro ⟨⟨o,i⟩,c,h⟩
  dsimp only at h;split at h
  .cases h
  .rename_i a;exact⟨i,o,Nm.1 c,h,λd=>a ((b i).2 d)⟩
 .rintro ⟨i,o,e,f,a⟩
  refine⟨(o,i),Nm.2 e,?_⟩
  simp_all
def rfr(ks:L Nat)(fr:bX S):bX S:={fr with tm:=ks.foldl (λt k=>t.del aK k) fr.tm}
def sV.core(h:sV E ops jP s0 g0 w0 done fr s bl listed g a w):Un E ops jP s0 g0 w0 done fr s listed g a w:=⟨h.n,h.nb,h.Wb,h.df,h.tm,h.ZB,h.BN⟩
theorem Un.akS(d:za E ops jP.n)(h:Un E ops jP s0 g0 w0 done fr s listed g a w):cR g (bB (rfr (dead ops.toList done listed) fr)) a w∧(rfr (dead ops.toList done listed) fr).n=fr.n∧
  ∀{i:Nat}{o:Oper},At ops i o->(∀j,Pre ops.toList i j->ni listed j∧done.testBit j=W)->(∀j,antiP ops.toList j->Pre ops.toList j i->¬ni listed j∧done.testBit j=J)->∀k,k∈tmpsOf o.op∨ot ops.toList o=Z k->fr.get k=(rfr (dead ops.toList done listed) fr).get k:=by
 have ef:∀k,(rfr (dead ops.toList done listed) fr).get k=if k∈dead ops.toList done listed then Y else fr.get k:=λk=>Tr.oq _ _ _ λb n=>by
  let ⟨i,o,e,f,_⟩:=Gg.1 n
  exact(uS d.ds e f).1
 refine⟨⟨h.Wb,h.df,λk t l=>?_⟩,rfl,λ{i o}q r u k l=>?_⟩
 .rw[bW,fM]at l;obtain⟨v,c,rfl⟩:=l;rw[ef]at c;split at c
  .cases c
  .rename_i m;exact h.tm k v c λi o e f=>Xg λp=>m (Gg.2 ⟨i,o,e,f,p⟩)
 .grind[Gg,Kp]
theorem yc{a:Act}{dst:O Tmp}{v:Value}{k:Nat}(h:dst≠Z k):(a.put dst v).tmps[k]?=a.tmps[k]?:=by
 cases dst with
 |none=>rfl|some d=>
  grind[Act.put]
def tC{a:Act}{d:Nat}(h:d<a.tmps.size):(a.put (Z d) v).tmps[d]?=Z v:=by simp[Act.put,h]
def tA{a:Act}{dst:O Tmp}:(a.put dst v).tmps.size=a.tmps.size∧(a.put dst v).defers=a.defers:=by cases dst<;>simp[Act.put]
def cP.OL{s s':aY S}{g g':Gh}{w w':World}(h:cP [] s g w s' g' w'){l:L Df}{m:L Deferred}(c:eL g w l m):eL g' w' l m:=
 c.imp (λt v d=>h.tr t v d (uE t)) λo b e=>by have:=h.tr _ _ (.ptr o 0 b e) (uE _);cases this with|ptr _ _ _ a=>exact a
theorem sV.meet(C:za E ops jP.n)(h:sV E ops jP s0 g0 w0 done fr s bl listed g a w){i:Nat}{o:Oper}(A:At ops i o)(hd:done.testBit i=W)(hl:∀e∈yx o,ni listed e)(x:gI fr o.dst=W){v:Value}{g':Gh}{w':World}
  (l:cP [] s g w s g' w') (R:∀d,o.dst=Z d->∀t,fr.get d=Z t->aH g' w' (low t) v):sV E ops jP s0 g0 w0 done fr s bl (listed.setIfInBounds i W) g' (a.put o.dst v) w':=by
 have n:i<listed.size:=by rw[h.KY];exact vH A
 have q:∀{j:Nat}{p:Oper}{k:Nat},At ops j p->j≠i->p.dst=Z k->o.dst≠Z k:=λc q r f=>((uS C.ds A f).2.2 c (Ne.symm q)).1 r;refine⟨by simpa using h.KY,h.n,h.nb,tA.1.trans h.Wb,by rw[tA.2];exact l.OL h.df,λk t K S=>?_,λj p c b e he=>?_,h.ZB,λj p c b=>?_,λj p c b F=>?_,λj p c b F=>?_,λj m b B h1 h2=>?_,h.BN.trans l.toW,h.fk,h.fl,λj l b=>(fy n).2 (.inl (h.an j l b))⟩
 .by_cases f:o.dst=Z k
  .have I:k<fr.n:=by rw[f]at x;exact gN x
   exact⟨v,by rw[f];exact tC (by rw[h.Wb];exact I),R k f t K⟩
  .let ⟨u,hu,ht⟩:=h.tm k t K λj p c r=>by
    have h1:=S j p c r;rw[fy n]at h1;refine Iff.trans ⟨.inl,λh=>h.elim id λe=>?_⟩ h1;subst e;have:o=p:=jT (A.symm.trans c)
    simp_all
   exact⟨u,by rw[yc f];exact hu,l.tr _ _ ht (uE _)⟩
 .rw[fy n]at b ⊢;obtain b|rfl:=b
  .exact .inl (h.Vr j p c b e he)
  .have:o=p:=jT (A.symm.trans c)
   simp_all
 .rw[fy n]at b;obtain b|rfl:=b
  .exact h.ld j p c b
  grind
 .exact h.fo j p c b λhl=>F ((fy n).2 (.inl hl))
 .rw[fy n]at b;have y:j≠i:=λe=>by simp_all
  have b:ni listed j:=b.elim id λe=>absurd e.symm y
  let ⟨h1,h2⟩:=h.ea j p c b F
  refine⟨λt ti d q1 q2 P=>?_,iO h2 l.ext.size⟩
  let ⟨z,r1,r2,r3⟩:=h1 t ti d q1 q2 P
  exact⟨z,by rw[yc (q c y P)];exact r1,r2.BN l h.fl,r3⟩
 .rw[fy n]at b B;have b:ni listed j:=b.elim id λe=>by simp_all
  have B:ni listed m:=B.elim id λe=>by simp_all
  exact h.eb j m b B h1 h2
theorem at_mem{ops:Array Oper}{i:Nat}{o:Oper}(h:At ops i o):o∈ops.toList:=iq (show ops.toList[i]?=Z o from by grind[HF])
def sV.ad9(hE:fe E)(b:za E ops jP.n)(h:sV E ops jP s0 g0 w0 done fr s bl listed g a w)(m:At ops i o)(B:done.testBit i=W)(C:¬ni listed i)(hl:∀e∈yx o,ni listed e)
  {K:Act->World->Prop} {Q:Exit->Act->World->Prop} (P:∀g' a' w',sV E ops jP s0 g0 w0 done fr s bl (listed.setIfInBounds i W) g' a' w'->K a' w') {rr:O Nat} (R:rr≠Y->∀o∈ops.toList,∀c,o.op≠.defer c):CT rr E.T.E.P ops Q i K a w:=by
 have z:rr≠Y->∀c,o.op≠.defer c:=λhr=>R hr o (at_mem m)
 let ⟨hna,u,hf⟩:=h.fo i o m B C
 let ⟨n,S,YY⟩:=h.core.akS b
 have N8:∀j,Pre ops.toList i j->ni listed j∧done.testBit j=W:=λj hj=>⟨nA b.bk (λi o hi hl=>h.Vr i o hi hl) m hl j hj,h.ZB i o m B j hj⟩;have p:=YY m N8 λj ha hji=>by
  have F:¬ni listed j:=λhlj=>by
   let ⟨q,hq,_⟩:=ha
   exact C (nA b.bk (λi o hi hl=>h.Vr i o hi hl) hq (h.Vr j q hq hlj) i hji)
  refine⟨F,?_⟩;cases Mw:done.testBit j with|false=>rfl|true=>exact absurd (h.an j ha Mw) F
 have I:iK ops.toList fr o=iK ops.toList (rfr (dead ops.toList done listed) fr) o:=pT λk x=>p k (.inr x);have A:∀k∈tmpsOf o.op,fr.get k=(rfr (dead ops.toList done listed) fr).get k:=λk x=>p k (.inl x);unfold CT;simp[HF m];obtain⟨f1,f3⟩|⟨f1,t,f2,f3⟩|⟨c,f1,f4,t,f2,f3⟩:=hf
 .rw[rK (fr':=rfr (dead ops.toList done listed) fr) λk x=>p k (.inr x)]at f1;rw[bL (by rw[Di n f1];simp_all)];exact P _ _ _ (h.meet b m B hl u (cP.refl h.BN.rel) λd f y l=>by rw[f3 d f y l];exact MD)
 .rw[I]at f1;have hw:=pS n f1;rw[bw hw];refine .of_wp z (.inl ?_);rw[iM E Y o s Z (jg A)]at f2;refine sG hE n h.BN.rel (.inl rfl) f2 (λy g' v w' x r ht=>?_);cases x;exact P _ _ _ (h.meet b m B hl u r λd f y l=>(f3 d f y l).rel ht)
 .rw[I]at f1;have hw:=pS n f1;rw[iM E (Z c) o s Z (jg (rW (Fa b.us m) A))]at f2;cases c with
  |true=>
   rw[bw hw];refine .of_wp z (.inl ?_);rw[uL W A]at f4
   let ⟨hff,hfn'⟩:=wM n (by rw[S];exact h.nb) f4
   refine sG hE hff h.BN.rel (.inr rfl) f2 (λy g' v w' x r ht=>?_);cases x;exact P _ _ _ (h.meet b m B hl u r λd f y l=>by rw[f3 d f y l];exact .gd _ _ _ λ_=>ht)
  |false=>rw[bL (by simp_all)];exact P _ _ _ (h.meet b m B hl u (cP.refl h.BN.rel) λd f y l=>by rw[f3 d f y l];exact .gd _ _ _ λh=>by cases h)
theorem sV.aea(hE:fe E)(C:za E ops jP.n)(h:sV E ops jP s0 g0 w0 done fr s bl listed g a w){i:Nat}{o:Oper}(n:At ops i o)(hd:done.testBit i=J)(hna:e8 o=W)(hnl:¬ni listed i)(hl:∀e∈yx o,ni listed e)
  {K:Act->World->Prop} {Q:Exit->Act->World->Prop} (hK:∀BM a' w',sV E ops jP s0 g0 w0 done fr s BM (listed.setIfInBounds i W) g a' w'->K a' w') {rr:O Nat} (hrr:rr≠Y->∀o∈ops.toList,∀c,o.op≠.defer c):CT rr E.T.E.P ops Q i K a w:=by
 have F:rr≠Y->∀c,o.op≠.defer c:=λhr=>hrr hr o (at_mem n)
 let ⟨hg,⟨t,ti,hop,P⟩,hdn⟩:=ZX C.al n hna
 let ⟨xi,dd,z,N7,_,_,_,hz,R,_⟩:=(hE.Uz.ti _ _ P).all
 unfold CT;simp[HF n];rw[bw (by simp[Region.wanted,hg])];refine .of_wp F (.inl ?_);unfold Oper.wp;have S:(execOp a.eval o).run E.T.E.P w=.ok (.value (.pointer (Z ⟨w.heap.size,0,Y⟩))) (w.alloc (.cells z.cells t)):=by
  simp_all[execOp,Instr.alloc,ej,newVar,newRow]
 rw[S];have r:i<listed.size:=by rw[h.KY];exact vH n
 have B:=h.BN.rel;have hsz:(w.alloc (.cells z.cells t)).heap.size=w.heap.size+1:=by simp
 let ⟨hs',he⟩:=B.grow (fl:=s.fl) (I:=g.bh) (w':=w.alloc (.cells z.cells t)) (λ_ h=>h) (λ_ h=>.inl h) (λb hb=>by have:=B.bh b hb;omega) (by omega) (λb hb=>qm w _ b hb) rfl rfl
 have x:∀{j:Nat}{p:Oper}{k:Nat},At ops j p->j≠i->p.dst=Z k->o.dst≠Z k:=λl x y A=>((uS C.ds n A).2.2 l (Ne.symm x)).1 y;refine hK (λj=>if j=i then w.heap.size else bl j) _ _ ⟨by simpa using h.KY,h.n,h.nb,tA.1.trans h.Wb,by rw[tA.2];exact h.df.imp (λt v ht=>ht.ext he B.bh) (λ_ _ h=>h),λk t' hk hc=>?_,λj p l f e he=>?_,h.ZB,λj p l f=>?_,λj p l f hn=>?_,λj p l f hn=>?_,λj m f hm h1 h2 hjm yw hms=>?_,?_,h.fk,h.fl,λj ha f=>(fy r).2 (.inl (h.an j ha f))⟩
 .have A:o.dst≠Z k:=λe=>by
   have:=(hc i o n e).1 ((fy r).2 (.inr rfl))
   simp_all
  let ⟨u,hu,ht⟩:=h.tm k t' hk λj p l y=>by
   have h1:=hc j p l y;rw[fy r]at h1
   grind
  exact⟨u,by rw[yc A];exact hu,ht.ext he B.bh⟩
 .rw[fy r]at f ⊢;obtain f|rfl:=f
  .exact .inl (h.Vr j p l f e he)
  .have:o=p:=jT (n.symm.trans l)
   simp_all
 .rw[fy r]at f;obtain f|rfl:=f
  .exact h.ld j p l f
  .have:o=p:=jT (n.symm.trans l)
   simp_all
 .exact h.fo j p l f λhl=>hn ((fy r).2 (.inl hl))
 .by_cases q:j=i
  .subst q;have:o=p:=jT (n.symm.trans l);subst this;simp only[sr];refine⟨λt' ti' d q1 q2 q3=>?_,by omega⟩;rw[hop]at q1;cases q1;rw[P]at q2;cases q2;have hdl:d<a.tmps.size:=by rw[h.Wb,h.n];exact hdn d q3
   refine⟨z.cells,by rw[q3];exact tC hdl,⟨h.BN.ext.size,by omega,λTK=>?_,λk hO=>?_,t,xZ w _⟩,R⟩
   .have:=B.bh _ TK;omega
   .have:=(B.rP hO).1;omega
  .rw[fy r]at f;have f:ni listed j:=f.elim id λe=>absurd e.symm q
   let ⟨h1,h2⟩:=h.ea j p l f hn
   simp only[bL q];refine⟨λt ti d q1 q2 q3=>?_,by omega⟩
   let ⟨z',r1,r2,r3⟩:=h1 t ti d q1 q2 q3
   let ⟨ty,r4⟩:=r2.mem
   exact⟨z',by rw[yc (x l q q3)];exact r1,⟨r2.new,by omega,r2.bh,r2.own,ty,by rw[qm w _ _ r2.lt];exact r4⟩,r3⟩
 .have hlt:∀j,ni listed j->done.testBit j=J->j<ops.size->bl j<w.heap.size:=λj f Mw yw=>by
   have zG:At ops j ops[j]:=by simp[At]
   exact(h.ea j _ zG f Mw).2
  rw[fy r]at f hm;by_cases hji:j=i<;>by_cases hmi:m=i
  .omega
  .grind
  .grind
  .rw[bL hji,bL hmi];exact h.eb j m (f.elim id λe=>absurd e.symm hji) (hm.elim id λe=>absurd e.symm hmi) h1 h2 hjm yw hms
 .have hx:oD s.lo s.fl g w g (w.alloc (.cells z.cells t)):=Ext.Iu s.lo he;exact⟨hs',h.BN.ext.trans (h.BN.fl▸h.BN.lo▸hx),h.BN.fl,h.BN.lo,h.BN.aE,h.BN.ug,h.BN.same,h.BN.Ho⟩
end
end
section
section
variable {E:eF S}{ops:Array Oper}{jP:bX S}{s0:aY S}{g0:Gh}{w0:World}{done:Nat}{fr:bX S}{s:aY S}{bl:Nat->Nat}{listed:Array Bool}{g:Gh}{a:Act}{w:World}
theorem Vh(l:L Oper):((sv l).map (·.1)).Nodup:=by
 have:(sv l).map (·.1)=List.range l.length:=by
  unfold sv;have:((λx:Nat×Oper=>x.1)∘λp:Oper×Nat=>(p.2,p.1))=Prod.snd:=rfl
  grind[List.zipIdx_map_snd,List.range_eq_range']
 grind
theorem sV.yY(hst:za E ops jP.n)(h:sV E ops jP s0 g0 w0 done fr s bl listed g a w){c:Nat}{tO:bX S}{s1:aY S}(had:yY E.T c (sv ops.toList) fr s=Z (tO,s1))
  (hwh:∀j,c.testBit j=W->ni listed j∧(yL (sv ops.toList) done).testBit j=W) (hcl:∀j,c.testBit j=W->∀m,Pre ops.toList j m->done.testBit m=W∨c.testBit m=W) :
  ∃K,Adp E.T c (sv ops.toList) fr s g w a tO s1 K∧Un E ops jP s0 g0 w0 (done||| c) tO s1 listed K a w:=by
 have n:∀{j:Nat}{o:Oper},At ops j o->c.testBit j=W->ni listed j∧e8 o=W∧done.testBit j=J:=λ{j o}y C=>by
  let ⟨h1,h2⟩:=hwh j C
  let ⟨o',ho',h3,h4⟩:=(wh done j).1 h2
  have:o=o':=jT (y.symm.trans ho')
  simp_all
 have f:∀{p:Nat×Oper},p∈sv ops.toList->At ops p.1 p.2:=λ{p}r=>ju.1 r;obtain⟨K,l⟩:=Pb (w0:=w0) (bl:=bl) had h.nb h.BN.rel (λp r A=>by
   let ⟨h1,_,h3⟩:=n (f r) A
   exact(h.ea p.1 p.2 (f r) h1 h3).1) (Vh _) (λp r q P oL hqw F=>by
   let ⟨h1,_,h3⟩:=n (f r) oL
   let ⟨h4,_,h6⟩:=n (f P) hqw
   exact h.eb p.1 q.1 h1 h4 h3 h6 F (vH (f r)) (vH (f P))) (λp r q P F d B=>((uS hst.ds (f r) B).2.2 (f P) F).1)
 refine⟨K,l,⟨l.n.trans h.n,by rw[l.n];exact h.nb,by rw[l.n];exact h.Wb,by rw[Gl,l.OL];exact h.df.imp (λ_ _ ht=>ht.le l.le) l.le.bP,λk t hk hc=>?_,λj p r C m hm=>?_,?_⟩⟩
 .by_cases I:∃p∈sv ops.toList,c.testBit p.1=W∧p.2.dst=Z k
  .exact l.new k I t hk
  .rw[l.old k λp r A B=>I ⟨p,r,A,B⟩]at hk
   let ⟨v,hv,ht⟩:=h.tm k t hk λi o hi B=>by have h1:=hc i o hi B;rw[Nb,oG]at h1;exact h1.trans ⟨λh=>h.elim id λA=>absurd ⟨(i,o),ju.2 hi,A,B⟩ I,.inl⟩
   exact⟨v,hv,ht.le l.le⟩
 .rw[Nb,oG]at C ⊢;obtain C|C:=C
  .exact .inl (h.ZB j p r C m hm)
  grind
 .have u:=h.BN;refine⟨l.rel,⟨λo b e=>l.le.bP o b (u.ext.bP o b e),λo e x hl k=>l.le.arr o e x (u.ext.arr o e x hl k),λb R=>l.le.bh b (u.ext.bh b R),u.ext.size,u.ext.heap,λo b hl hO=>?_,λb R=>u.ext.og b (by rw[l.bh]at R;exact R),u.ext.os,u.ext.output⟩,l.fl.trans u.fl,l.lo.trans u.lo,fZ u.aE l.aE,λo y=>by rw[l.wr];exact u.ug o y,λo y hn=>?_,λo y=>by rw[l.dr];exact u.Ho o y⟩
  .obtain hO|⟨p,r,A,d,B,htm⟩:=l.own o b hO
   .exact u.ext.own o b hl hO
   .let ⟨h1,_,h3⟩:=n (f r) A
    let ⟨t,ti,d',e1,e2,e3,_⟩:=l.adb p r A
    let ⟨z,r1,r2,_⟩:=(h.ea p.1 p.2 (f r) h1 h3).1 t ti d' e1 e2 e3
    have:d=d':=jT (B.symm.trans e3);subst this;rw[htm]at r1;cases r1;exact .inr r2.new
  .rw[l.ob o (iO y u.aE)];exact u.same o y (by rw[l.wr]at hn;exact hn)
theorem wO{ow:L Nat}{k:Nat}{v:V S}(h:(dy ow fr).get k=Z v):fr.get k=Z v∧dw ow (low v)=J:=by
 cases ow with
 |nil=>exact⟨h,uE _⟩|cons o ow=>
  grind[dy,bX.get,Tr.om,Option.filter_eq_some_iff,kE]
theorem A5{ow:L Nat}{k:Nat}{v:V S}(h:fr.get k=Z v)(a:iP ow v=J):(dy ow fr).get k=Z v:=by
 cases ow with
 |nil=>exact h|cons o ow=>
  grind[dy,bX.get,Tr.om]
theorem Ov{call:fY S}{l:L Oper}{o:Oper}{ω:Type}{kp:V S->aY S->O ω}{k:V S->aY S->L Nat->O ω}{r:ω}(h:pU E call l o fr s kp k=Z r):gI fr o.dst=W:=by
 unfold pU at h
 grind
theorem WV{done i:Nat}{aE:Nat}{wr ow:L Nat}:∀{l:Wv},Fj ops.toList (w7 ops.toList) done i fr aE wr ow l=W->∀{j:Nat}{p:Oper},(j,p)∈l->done.testBit j=W->e8 p=J->¬Pre ops.toList i j->
  (jM (dL wr aE) fr p.op=J∧jM (dL wr aE) (rX fr p.op) p.op=J)∨(NG p.op=W∧jM (λx=>ow.contains x) fr p.op=J∧jM (λx=>ow.contains x) (rX fr p.op) p.op=J):=by
 intro l
 induction l with
 |nil=>simp_all|cons q l f=>
  intro h j p c d a b
  let ⟨g,k⟩:=q
  simp only[Fj,eZ]at h;obtain e|c:=fS.1 c
  .cases e;have h1:=h.1;simp only[d,a,KH,Bool.false_or]at h1;rw[oG]at h1;obtain h1|h1:=h1
   .exact absurd h1 b
   grind
  grind
end
end
section
section
variable {E:eF S}{ops:Array Oper}{jP:bX S}{s0:aY S}{g0:Gh}{w0:World}{done:Nat}{fr:bX S}{s:aY S}{bl:Nat->Nat}{listed:Array Bool}{g:Gh}{a:Act}{w:World}
theorem NP{p:Nat->Bool}{o:Op}(h:jM p fr o=J){k:Nat}(a:k∈tmpsOf o){v:V S}(c:fr.get k=Z v):cG p v=J:=by
 let ⟨x,d,b⟩:=AG.1 a
 grind[jM,cA]
theorem Vl{ow wr:L Nat}{aE:Nat}(a:∀o∈ow,o∈wr){v:V S}(h:cG (dL wr aE) v=J):iP ow v=J:=by
 grind[pN,ek,dL]
theorem MV{ops:L Oper}{fr:bX S}{o:Oper}{k:Nat}{v:V S}(h:vA ops fr o=W)(a:ot ops o=Z k)(c:fr.get k=Z v):(∃b,v=.kb b)∨∃l,v=.dat (.lit (.tuple l)):=by
 unfold vA at h;unfold ot at a
 grind
theorem sV.step(hE:fe E){call:fY S}(wK:gH E.T.E.P call)(A:za E ops jP.n)(h:sV E ops jP s0 g0 w0 done fr s bl listed g a w){i:Nat}{o:Oper}(I:At ops i o)(hd:done.testBit i=J)(hnl:¬ni listed i)(hl:∀e∈yx o,ni listed e)
  (hsub:∀j,Pre ops.toList i j->done.testBit j=W∨(yL (sv ops.toList) done).testBit j=W) {tO:bX S} {s1:aY S} (had:TL.yY E.T (yL (sv ops.toList) done&&& (w7 ops.toList).getD i 0) (sv ops.toList) fr s=Z (tO,s1))
  {ω:Type} {kp:bX S->V S->aY S->O ω} {k:Nat->bX S->aY S->O ω} {r:ω}
  (hev:pU E call ops.toList o tO {s1 with wr:=[]} (λt s'=>kp (agW ops.toList tO) t {s' with wr:=s'.wr++s1.wr}) (λt s' ow=>bif Fj ops.toList (w7 ops.toList) done i fr s.aE s'.wr ow (sv ops.toList)then
   k (done||| (yL (sv ops.toList) done&&& (w7 ops.toList).getD i 0)||| 1 <<< i) ((dy ow tO).jq o.dst t) {s' with wr:=s'.wr++s1.wr}else Y)=Z r)
  {K:Act->World->Prop} {Q:Exit->Act->World->Prop}
  (hK:∀done' fr' s' g' a' w',k done' fr' s'=Z r->sV E ops jP s0 g0 w0 done' fr' s' bl (listed.setIfInBounds i W) g' a' w'->K a' w')
  (hP:∀fr' t s' g' a' v w',kp fr' t s'=Z r->fr'.n=jP.n->cR g' (bB fr') a' w'->eC s0 g0 w0 s' g' w'->dm (ops.toList.filterMap (·.dst)) jP fr' s'.dr s0.aE->aH g' w' (low t) v->Q (.panic [{v,recovered:=J}]) a' w') {rr:O Nat} (hrr:rr≠Y->∀o∈ops.toList,∀c,o.op≠.defer c):CT rr E.T.E.P ops Q i K a w:=by
 have apY:rr≠Y->∀c,o.op≠.defer c:=λhr=>hrr hr o (at_mem I);have hi:i<listed.size:=by rw[h.KY];exact vH I
 have N8:∀j,Pre ops.toList i j->ni listed j:=nA A.bk (λi o hi hl=>h.Vr i o hi hl) I hl;generalize hwe:yL (sv ops.toList) done&&& (w7 ops.toList).getD i 0=which at had hev;have hwb:∀j,which.testBit j=W↔(yL (sv ops.toList) done).testBit j=W∧Pre ops.toList i j:=λj=>by rw[<-hwe,Nat.testBit_and,eZ];rfl
 let ⟨g1,hA,hC⟩:=h.yY A had (λj hj=>⟨N8 j ((hwb j).1 hj).2,((hwb j).1 hj).1⟩) (λj hj m hm=>by
  have hpm:=U5 A.bk I ((hwb j).1 hj).2 hm
  simp_all)
 have hpd:∀j,Pre ops.toList i j->(done||| which).testBit j=W:=λj hj=>by
  simp_all
 have hwd:∀{j:Nat}{q:Oper},At ops j q->which.testBit j=W->ni listed j∧e8 q=W∧done.testBit j=J:=λ{j q}B hj=>by
  let ⟨o',ho',h3,h4⟩:=(wh done j).1 ((hwb j).1 hj).1
  have:q=o':=jT (B.symm.trans ho')
  simp_all
 have hwi:which.testBit i=J:=by
  grind
 have P:gI tO o.dst=W:=Ov hev;have hdst:gI (dy (S:=S) [] tO) o.dst=W:=P
 let ⟨hfr,hfn,YY⟩:=hC.akS A
 have agB:=YY I (λj hj=>⟨N8 j hj,hpd j hj⟩) λj ha hji=>by
  let ⟨q,B,_⟩:=ha
  have hnj:¬ni listed j:=λhlj=>hnl (nA A.bk (λi o hi hl=>h.Vr i o hi hl) B (h.Vr j q B hlj) i hji);refine⟨hnj,?_⟩;cases Mw:(done||| which).testBit j with
  |false=>rfl|true=>
   rw[Nb,oG]at Mw;obtain Mw|Mw:=Mw
   .have:=h.ZB j q B Mw i hji
    simp_all
   simp_all
 rw[IK E call _ _ _ hfn.symm (Fa A.us I) (λk n=>agB k (.inl n)) (λk n=>agB k (.inr n))]at hev;have Af:aV g1 (aB {s1 with wr:=[]}) w:=hC.BN.rel;unfold CT;simp[HF I];refine(sE hE wK (by rw[hfn];exact hC.nb) hfr Af hev (λt s' ow g' v w' n ht f=>?_) (λt s' g' v w' n f ht=>?_) apY).2
 .obtain ⟨ajS,n⟩|⟨_,n⟩:=af n
  rotate_left
  .cases n
  refine hK _ _ _ g' _ w' n ?_;have Rc:s1.fl=0:=hA.fl.trans h.fl;have hnf:∀ow':L Nat,(dy ow' tO).n=tO.n:=λow'=>tP ow' tO;have aqe:gI (dy ow tO) o.dst=W:=AO P;have ef:∀k,((dy ow tO).jq o.dst t).get k=if o.dst=Z k then Z t else(dy ow tO).get k:=λk=>JI aqe (by rw[hnf];exact hC.nb)
  have hnn:((dy ow tO).jq o.dst t).n=tO.n:=by
   have:((dy ow tO).jq o.dst t).n=(dy ow tO).n:=by cases o.dst<;>rfl
   rw[this,hnf]
  have akJ:eC s1 g1 w {s' with wr:=s'.wr++s1.wr} g' w':=
   ⟨f.rel,f.ext,f.fl,f.lo,f.aE,λo I=>eP _ I,λo I hn=>f.same o I (λhm=>hn (fL _ hm)),f.Ho⟩
  have hne:∀{j:Nat}{p:Oper}{k:Nat},At ops j p->j≠i->p.dst=Z k->o.dst≠Z k:=λF hne hpd R=>((uS A.ds I R).2.2 F (Ne.symm hne)).1 hpd;have hd':∀j,(done||| which||| 1 <<< i).testBit j=W↔(done.testBit j=W∨which.testBit j=W)∨i=j:=λj=>by rw[uT,Nb,oG]
  refine⟨by simpa using h.KY,hnn.trans hC.n,by rw[hnn];exact hC.nb,by rw[tA.1,hnn];exact hC.Wb,?_,λk t' C hc=>?_,λj p F hj e he=>?_,λj p F hj m hm=>?_,λj p F hj=>?_,λj p F hj hn=>?_,λj p F hj hn=>?_,λj m hj hm h1 h2 hjm yw hms=>?_,hC.BN.trans akJ,?_,f.fl.trans Rc,λj ha hj=>?_⟩
  .rw[tA.2,Gl,EL];cases ow with|nil=>exact f.OL hC.df|cons x ow=>exact(gQ (λv=>kE _ v) (λ_ _=>rfl) tO.df).rel f.tr hC.df
  .rw[ef]at C;by_cases R:o.dst=Z k
   .rw[bw R]at C;cases C;have hk2:k<tO.n:=by rw[R]at P;exact gN P
    exact⟨v,by rw[R];exact tC (by rw[hC.Wb];exact hk2),ht⟩
   .rw[bL R]at C
    let ⟨h1,h2⟩:=wO C
    let ⟨u,hu,htu⟩:=hC.tm k t' h1 λj p F hpd=>by
     have c1:=hc j p F hpd;rw[fy hi,hd']at c1
     grind
    exact⟨u,by rw[yc R];exact hu,f.tr _ _ htu h2⟩
  .rw[fy hi]at hj ⊢;obtain hj|rfl:=hj
   .exact .inl (h.Vr j p F hj e he)
   .have:o=p:=jT (I.symm.trans F)
    simp_all
  .rw[hd']at hj ⊢;obtain hj|rfl:=hj
   .left
    have:=hC.ZB j p F (by simp_all) m hm;rwa [Nb,oG]at this
   simp_all
  .rw[fy hi]at hj;rw[hd'];obtain hj|rfl:=hj
   .exact (h.ld j p F hj).imp (λh=>.inl (.inl h)) id
   omega
  ·
   have hji:j≠i:=λe=>hn ((fy hi).2 (.inr e.symm));have hnl:¬ni listed j:=λhl=>hn ((fy hi).2 (.inl hl));have Mw:done.testBit j=W:=by
    grind
   let ⟨hna,hfo⟩:=h.fo j p F Mw hnl
   have hnp:¬Pre ops.toList i j:=λhpr=>hnl (N8 j hpr);have hmm:=WV ajS (ju.2 F) Mw hna hnp;have hpi:∀{m:Nat}{q:Oper}{k:Nat},At ops m q->(m=i∨which.testBit m=W)->(k∈tmpsOf p.op∨ot ops.toList p=Z k)->q.dst≠Z k:=by
    intro m q k B hm n YG;have hpre:Pre ops.toList j m:=by
     obtain h1|⟨h1,_⟩:=(Kp A F n B YG).2
     .exact h1
     .exfalso;obtain rfl|hm:=hm
      .exact hnp h1
      .exact hnl (nA A.bk (λi o hi hl=>h.Vr i o hi hl) B (h.Vr m q B (hwd B hm).1) j h1)
    have:=h.ZB j p F Mw m hpre
    grind
   have hold:∀k,(k∈tmpsOf p.op∨ot ops.toList p=Z k)->tO.get k=fr.get k:=λk n=>hA.old k λq B hw=>hpi (ju.1 B) (.inr hw) n;have hput:∀k,(k∈tmpsOf p.op∨ot ops.toList p=Z k)->((dy ow tO).jq o.dst t).get k=(dy ow tO).get k:=λk n=>by rw[ef,bL (hpi I (.inl rfl) n)]
   have hsubw:∀o∈ow,o∈s'.wr:=f.oww;have hkeep:∀k,fr.get k=tO.get k->(∀v,fr.get k=Z v->iP ow v=J)->(dy ow tO).get k=fr.get k:=λk he hm=>by
    cases hfk:fr.get k with
    |some v=>grind[A5]|none=>
     cases aqM:(dy ow tO).get k with
     |none=>rfl|some v=>
      have:=(wO aqM).1
      simp_all
   have hno:∀k v,k∈tmpsOf p.op->fr.get k=Z v->iP ow v=J:=λk v n hv=>by
    grind[Vl,NP,pN]
   have hsame:∀x,dL s'.wr s.aE x=J->({s' with wr:=s'.wr++s1.wr}:aY S).ob.get x=s.ob.get x:=λx hx=>by
    simp only[dL,zl]at hx;have hx1:x∉s'.wr:=by grind
    have hx2:x<s.aE:=by
     grind[Nat.ble_eq_true_of_le]
    have:=f.same x (iO hx2 hA.aE) hx1;exact this.trans (hA.ob x hx2)
   refine⟨hna,hfo.move (hnn.trans hA.n) (Fa A.us F) (λk n=>?_) (λk n=>?_) (λd ajW t' ht'=>?_) (p:=dL s'.wr s.aE) (.inr (hmm.imp (λh=>⟨h.1,h.2,hsame⟩) (λh=>h.1)))⟩
   .grind
   .rw[hput k (.inr n)];refine hkeep k (hold k (.inr n)).symm λv hv=>?_;obtain⟨f1,_⟩|TF:=hfo.2
    .obtain ⟨b,rfl⟩|⟨l,rfl⟩:=MV f1 n hv<;>rfl
    have hgv:∃b,jk v=Z b:=by
     have y:∃c,iK ops.toList fr p=Z (Z c)∨iK ops.toList fr p=Z Y:=by
      obtain⟨f1,_⟩|⟨c,f1,_⟩:=TF
      .simp_all
      simp_all
     let ⟨c,y⟩:=y
     unfold ot at n;unfold iK at y;cases hpg:p.guard with
     |none=>simp_all|some q=>
      let ⟨m,want⟩:=q
      simp[hpg]at n y;rw[n,S9,hv]at y;cases hb:jk v with
      |some b=>grind|none=>
       exfalso;cases v<;>first|(cases hb;done)|(simp only[hb]at y;obtain h|h:=y<;>cases h)
    let ⟨b,hb⟩:=hgv
    cases v<;>first|rfl|simp[jk]at hb
   .rw[ef,bL (hne F hji ajW)]at ht';have h1:=(wO ht').1;rw[hA.old d λq B hw YG=>?_]at h1
    .exact h1
    .have hq':At ops q.1 q.2:=ju.1 B;have hjq:j≠q.1:=λe=>by
      simp_all
     exact((uS A.ds F ajW).2.2 hq' hjq).1 YG
  .have hji:j≠i:=λe=>by
    simp_all
   have Mw:done.testBit j=J:=by
    simp_all
   have hwj:which.testBit j=J:=by
    simp_all
   rw[fy hi]at hj;have hlj:ni listed j:=hj.elim id λe=>absurd e.symm hji
   let ⟨h1,h2⟩:=h.ea j p F hlj Mw
   refine⟨λt2 ti d q1 q2 q3=>?_,iO h2 f.ext.size⟩
   let ⟨z,r1,r2,r3⟩:=h1 t2 ti d q1 q2 q3
   have agk:I0 g1 w0 w (bl j) z:=⟨r2.new,r2.lt,by rw[hA.bh];exact r2.bh,λx hO=>by
    obtain hO|⟨q,B,hw,d2,hd2,htm⟩:=hA.own x (bl j) hO
    .exact r2.own x hO
    .have hq':At ops q.1 q.2:=ju.1 B
     let ⟨l1,_,l3⟩:=hwd hq' hw
     let ⟨t3,ti3,d3,e1,e2,e3,_⟩:=hA.adb q B hw
     let ⟨z3,u1,_,_⟩:=(h.ea q.1 q.2 hq' l1 l3).1 t3 ti3 d3 e1 e2 e3
     have:d2=d3:=jT (hd2.symm.trans e3);subst this;have hbb:bl j=bl q.1:=by
      simp_all
     have hjq:j≠q.1:=λe=>by simp_all
     exact h.eb j q.1 hlj l1 Mw l3 hjq (vH F) (vH hq') hbb,r2.mem⟩
   exact⟨z,by rw[yc (hne F hji q3)];exact r1,agk.BN f Rc,r3⟩
  .have hx:∀j,(done||| which||| 1 <<< i).testBit j=J->done.testBit j=J∧i≠j:=λj hj=>by
    grind
   rw[fy hi]at hj hm;exact h.eb j m (hj.elim id λe=>absurd e (hx j h1).2) (hm.elim id λe=>absurd e (hx m h2).2) (hx j h1).1 (hx m h2).1 hjm yw hms
  .refine ⟨λk v n hv=>?_,?_⟩;rotate_left
   .rw[EL];have h0:yC (dL s'.dr s0.aE) jP.df tO.df:=by rw[hA.OL];exact h.fk.df.mono (iV (λx hx=>f.Ho x (by rw[hA.dr];exact hx)) (eM _))
    cases ow with|nil=>exact h0|cons x ow=>refine h0.trans (uW (p:=(x::ow).contains) (λo' ho'=>?_) (λv=>pN _ v) _).ok;have:=f.owd o' (by grind);simp[dL,this]
   have vV:∀{m:Nat}{q:Oper},At ops m q->q.dst≠Z k:=λB YG=>n (AG.2 ⟨_,iq B,YG⟩);obtain h1|h1:=h.fk.tm k v n hv
   .rw[ef,bL (vV I)];rw[<-hA.old k λq B _=>vV (ju.1 B)]at h1;cases hm:iP ow v with
    |false=>exact .inl (A5 h1 hm)|true=>
     rw[pN]at hm;refine .inr (ek (λx hx=>?_) v hm);have:x∈ow:=by simpa using hx
     have:=f.owd x this;simp[dL,this]
   .exact .inr (ek (iV (λx hx=>f.Ho x (by rw[hA.dr];exact hx)) (eM _)) v h1)
  .rw[fy hi];obtain(hj|hj)|hj:=(hd' j).1 hj
   .exact .inl (h.an j ha hj)
   .simp_all
   omega
 .have hds:∀d∈ops.toList.filterMap (·.dst),d<bC:=λd hd=>by
   let ⟨q,B,YG⟩:=AG.1 hd
   let ⟨m,hm⟩:=NB B
   exact(uS A.ds hm YG).1
  have hgd:∀k,(agW ops.toList tO).get k=if k∈ops.toList.filterMap (·.dst)then Y else tO.get k:=λk=>Tr.oq _ _ _ hds
  have hdr:∀x,dL s.dr s0.aE x=W->dL s'.dr s0.aE x=W:=iV (λx hx=>f.Ho x (by rw[hA.dr];exact hx)) (eM _);refine hP _ t _ g' _ v w' n hC.n ⟨hC.Wb,f.OL hC.df,λk t' C=>?_⟩ (hC.BN.trans ⟨f.rel,f.ext,f.fl,f.lo,f.aE,λo I=>eP _ I,λo I hn=>f.same o I (λhm=>hn (fL _ hm)),f.Ho⟩) ⟨λk v n hv=>?_,?_⟩ ht
  .rw[bW,hgd]at C;split at C
   .cases C
   .rename_i hnk;rw[fM]at C;obtain⟨u,hu,rfl⟩:=C
    let ⟨v',hv',ht'⟩:=hC.tm k u hu λi o hi R=>absurd (AG.2 ⟨o,iq hi,R⟩) hnk
    exact⟨v',hv',f.tr _ _ ht' (l9 _)⟩
  .obtain h1|h1:=h.fk.tm k v n hv
   .left
    rw[hgd,bL n,hA.old k λq B _ YG=>n (AG.2 ⟨_,iq (ju.1 B),YG⟩)];exact h1
   .exact .inr (ek hdr v h1)
  .show yC _ jP.df tO.df;rw[hA.OL];exact h.fk.df.mono hdr
end
end
end TL
end
end
