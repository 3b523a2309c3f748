import Derived.Scope
import Derived.Recover
import Derived.Test.YthlenkomcaiomaaGreatA2
set_option linter.all false
set_option maxRecDepth 100000
set_option maxHeartbeats 0
noncomputable section
open Option renaming some->Z,none->Y
open Bool renaming true->W,false->J
open Nat renaming beq->Nq,ble->Nl,blt->Nt,succ->Ns,add->Na
open Go.Result(andThen_ok)
open Go.Sem(run_bind run_pure)
open TL.LO renaming next->N,ret->X,out->H
open TL.Rx renaming ok->G,iJ->M
section
namespace TL
open Go
variable {S:Sg}
section
theorem bU.j4(fr:bU S)(k j:Nat)(v:V S)(h:k<bI):(fr.put k v).get j=if j=k then Z v else fr.get j:=Tr.aR _ _ _ _ h
structure eL(s:bg S)(g:Gh)(w:World)(s':bg S)(g':Gh)(w':World):Prop where
 rel:aV g' (aC s') w'
 ext:oK s.lo s.fl g w g' w'
 fl:s'.fl=s.fl
 lo:s'.lo=s.lo
 aD:s.aD<=s'.aD
 ua:∀o∈s.wr,o∈s'.wr
 same:∀o,o<s.aD->o∉s'.wr->s'.ob.get o=s.ob.get o
 GJ:∀o∈s.dr,o∈s'.dr
variable {s s':bg S}{g g':Gh}{w w':World}{p:Nat->Bool}{v:V S}{a:Act}
def cO.toW{ow:L Nat}(h:cO ow s g w s' g' w'):eL s g w s' g' w':=⟨h.rel,h.ext,h.fl,h.lo,h.aD,h.ua,h.same,h.GJ⟩
def eL.lower{m:Nat}(h:eL {s with lo:=m} g w s' g' w')(a:s.lo<=m):eL s g w {s' with lo:=s.lo} g' w':=
 ⟨⟨h.rel.aD,h.rel.ah,h.rel.box,h.rel.arr,h.rel.bp,h.rel.j8⟩,⟨h.ext.bP,λo e x b k=>h.ext.arr o e x (iS b a) k,h.ext.bp,h.ext.size,h.ext.heap,h.ext.own,h.ext.oz,h.ext.os,h.ext.output⟩,h.fl,rfl,h.aD,h.ua,h.same,h.GJ⟩
theorem eL.refl{s:bg S}{g:Gh}{w:World}(h:aV g (aC s) w):eL s g w s g w:=(cO.refl h).toW
def eL.trans{s s' b:bg S}{g g' c:Gh}{w w' d:World}(h:eL s g w s' g' w')(k:eL s' g' w' b c d):eL s g w b c d:=
 ⟨k.rel,h.ext.trans (h.fl▸h.lo▸k.ext),k.fl.trans h.fl,k.lo.trans h.lo,gD h.aD k.aD,λo a=>k.ua o (h.ua o a),
  λo a e=>(k.same o (iS a h.aD) e).trans (h.same o a (λf=>e (k.ua o f))),λo a=>k.GJ o (h.GJ o a)⟩
mutual
theorem ez{p q:Nat->Bool}(h:∀o,p o=W->q o=W):∀v:V S,cI p v=W->cI q v=W
 |.ptr o _,c=>h o c|.l9 o _ _ _,c=>h o c|.sh o _,c=>h o c|.mp o,c=>h o c|.rJ o,c=>h o c|.ud o,c=>h o c|.ub _,c=>by cases c
 |.pU _ _ _,c=>by cases c
 |.sy o m _ _,c=>by
  simp[cI,pE]at c ⊢
  grind
 |.fn _ a b,c=>by simp[cI,pE]at c ⊢;exact c.imp (mC h a) (mC h b)
 |.di _ v,c=>ez h v c|.agg d,c=>mC h d c|.gT d,c=>mC h d c|.gd _ v,c=>ez h v c|.ty _ _,c=>by cases c
 |.kb _,c=>by cases c
 |.kn _ _,c=>by cases c
 |.dat _,c=>by cases c
 |.mc _ _ _,c=>by cases c
 |.emp,c=>by cases c
 |.kM _ _ _,c=>by cases c
theorem mC{p q:Nat->Bool}(h:∀o,p o=W->q o=W):∀l:L (V S),iN p l=W->iN q l=W
 |[],a=>by cases a
 |v::l,a=>by simp[iN,pE]at a ⊢;exact a.imp (ez h v) (mC h l)
end
mutual
theorem pL(os:L Nat):∀v:V S,iT os v=cI os.contains v
 |.ptr o _=>rfl|.l9 o _ _ _=>rfl|.sh o _=>rfl|.mp o=>rfl|.rJ o=>rfl|.ud o=>rfl|.ub _=>rfl|.sy _ _ _ _=>rfl|.pU _ _ _=>rfl|.fn _ a b=>by simp[iT,cI,wj os a,wj os b]
 |.di _ v=>pL os v|.agg c=>wj os c|.gT c=>wj os c|.gd _ v=>pL os v|.ty _ _=>rfl|.kb _=>rfl|.kn _ _=>rfl|.dat _=>rfl|.mc _ _ _=>rfl|.emp=>rfl|.kM _ _ _=>rfl
theorem wj(os:L Nat):∀l:L (V S),oO os l=iN os.contains l
 |[]=>rfl|v::l=>by simp[oO,iN,pL os v,wj os l]
end
theorem jb{dr b:L Nat}{aD a:Nat}(h:∀o∈dr,o∈b)(hn:a<=aD)(o:Nat)(c:dJ dr aD o=W):dJ b a o=W:=by
 simp only[dJ,pE,Fl,qE]at c ⊢
 grind[Nat.le_of_ble_eq_true,Nat.ble_eq_true_of_le]
mutual
def dF(p:Nat->Bool):T->Bool
 |.ptr o _=>p o|.l9 o _ _ _=>p o|.sh o _=>p o|.mp o=>p o|.rJ o=>p o|.ud o=>p o|.sy o m _ _=>p o||p m|.fn _ a b=>jy p a||jy p b|.di _ v=>dF p v|.agg c=>jy p c|.gT c=>jy p c|.gd _ v=>dF p v|_=>J
def jy(p:Nat->Bool):L T->Bool
 |[]=>J|v::l=>dF p v||jy p l
end
mutual
def ir(p:Nat->Bool):∀v:V S,dF p (low v)=cI p v
 |.ty t x=>by
  have:∀l:L D,jy p (l.map .sym)=J:=by
   intro l
   induction l with|nil=>rfl|cons d l e=>simp[jy,dF,e]
  cases t<;>simp[low,eg,cI,dF,this]
 |.kb _=>rfl|.kn _ _=>rfl|.dat _=>rfl|.ptr _ _=>rfl|.mc _ _ _=>rfl|.l9 _ _ _ _=>rfl|.sh _ _=>rfl|.emp=>rfl|.kM _ _ _=>rfl|.fn _ a b=>by simp[low,cI,dF,qM p a,qM p b]
 |.di _ v=>by simp[low,cI,dF,ir p v]
 |.agg c=>by simp[low,cI,dF,qM p c]
 |.gT c=>by simp[low,cI,dF,qM p c]
 |.gd _ v=>by simp[low,cI,dF,ir p v]
 |.mp _=>rfl|.rJ _=>rfl|.ud _=>rfl|.ub _=>rfl|.sy _ _ _ _=>rfl|.pU _ _ _=>rfl
def qM(p:Nat->Bool):∀l:L (V S),jy p (bu l)=iN p l
 |[]=>rfl|v::l=>by simp[bu,jy,iN,ir p v,qM p l]
end
def om{p:Nat->Bool}:∀{l:L T},jy p l=J->∀t∈l,dF p t=J
 |[],_,t,b=>by cases b
 |a::l,h,t,b=>by
  simp[jy,zd]at h;obtain rfl|b:=ga.1 b
  .exact h.1
  .exact om h.2 t b
structure acW(p:Nat->Bool)(g g':Gh):Prop where
 bP:∀o b,p o=J->g.bP o=Z b->g'.bP o=Z b
 arr:∀o e x,p o=J->g.arr o e=Z x->g'.arr o e=Z x
 bp:∀b,g.bp b->g'.bp b
theorem aH.on{p:Nat->Bool}{g g':Gh}{w w':World}(q:acW p g g')(y:j6 g.bp w w'){t:T}{v:Value}(h:aH g w t v)(l:dF p t=J):aH g' w' t v:=by
 induction h with
 |sym d v u=>exact .sym d v (u.mono y q.bp)|kb b=>exact .kb b|kn k n=>exact .kn k n|ptr o off b h=>exact .ptr o off b (q.bP _ _ l h)|mc d off C val K P u=>exact .mc d off C val (q.bp _ K) (λj c B=>by rw[y.cell (by rw[kZ];exact K)];grind) (λj c B=>(u j c B).mono y q.bp)
 |l9 o e i off len cap sz C h=>exact .l9 o e i off len cap sz C (q.arr _ _ _ l h)|sh o e len cap sz a h=>exact .sh o e len cap sz a (q.arr _ _ _ l h)|emp a=>exact .emp a|kM k Q a R u=>exact .kM k Q a R (u.mono y q.bp)|fn f S z va vc A E _ _ s F=>simp[dF,zd]at l;exact .fn f S z va vc A E (λj t v h1 h2=>s j t v h1 h2 (om l.1 t (iz h1))) (λj t v h1 h2=>F j t v h1 h2 (om l.2 t (iz h1)))|di t x v _ s=>exact .di t x v (s l)|agg z I A _ s=>exact .agg z I A (λj t v h1 h2=>s j t v h1 h2 (om l t (iz h1)))|gT z I A _ s=>exact .gT z I A (λj t v h1 h2=>s j t v h1 h2 (om l t (iz h1)))|gd c t v _ s=>exact .gd c t v (λP=>s P l)|mp o b h=>exact .mp o b (q.bP _ _ l h)|rJ o b h=>exact .rJ o b (q.bP _ _ l h)|ud o b h=>exact .ud o b (q.bP _ _ l h)|ub e b h=>exact .ub e b h|sy o m r i len cap sz a h=>simp[dF,zd]at l;exact .sy o m r i len cap sz a (q.arr _ _ _ l.2 h)|pU j d c a B u=>exact .pU j d c a B (u.mono y q.bp)
def Gh.base(g:Gh)(p:Nat->Bool):Gh:={g with bP:=λo=>if p o=J then g.bP o else Y,arr:=λo e=>if p o=J then g.arr o e else Y}
def Gh.gM(g:Gh)(p:Nat->Bool):acW p g (g.base p):=
 ⟨λo b h e=>by simp[Gh.base,h,e],λo e x h k=>by simp[Gh.base,h,k],λ_ h=>h⟩
theorem Gh.A6{g:Gh}{p:Nat->Bool}{o b:Nat}(h:(g.base p).bP o=Z b):p o=J∧g.bP o=Z b:=by
 grind[Gh.base]
theorem Gh.A7{g:Gh}{p:Nat->Bool}{o e:Nat}{x:fh}(h:(g.base p).arr o e=Z x):p o=J∧g.arr o e=Z x:=by
 grind[Gh.base]
def Gh.fQ{k b:Nat}(h:bF (g.base p) k b):p k=J∧bF g k b:=by
 obtain⟨h1,h2|⟨e,x,a,h2,h3⟩⟩:=h
 .exact ⟨(Gh.A6 h2).1,h1,.inl (Gh.A6 h2).2⟩
 .exact ⟨(Gh.A7 h2).1,h1,.inr ⟨e,x,a,(Gh.A7 h2).2,h3⟩⟩
theorem aV.base{g:Gh}{w:World}{s s0:St}(hs:aV g s w){p:Nat->Bool}{aD:Nat}(E:∀o,aD<=o->p o=W)(r:s0.aD=aD)(hn:aD<=s.aD)
  (f:∀o ob,p o=J->s0.ob.get o=Z ob->∃a,s.ob.get o=Z a∧si (dF p) a ob):aV (g.base p) s0 w:=by
 refine⟨r▸gD hn hs.aD,λo F=>?_,λo b u=>?_,λo e x z=>?_,hs.bp,λo A b h B=>hs.j8 o A b (Gh.fQ h).2 (Gh.fQ B).2⟩
 .simp_all[Gh.base]
 .let ⟨d,k⟩:=Gh.A6 u
  let ⟨h1,h2,h3⟩:=hs.box o b k
  refine⟨h1,h2,λob c=>?_⟩
  let ⟨a,l,n⟩:=f o ob d c
  let ⟨x,h4,h5⟩:=h3 a l
  exact⟨x,h4,h5.left (λt v C i=>C.on (g.gM p) (λ_ _=>rfl) i) n⟩
 .let ⟨d,q⟩:=Gh.A7 z
  let ⟨h1,h2⟩:=hs.arr o e x q
  refine⟨h1,λob c=>?_⟩
  let ⟨a,l,n⟩:=f o ob d c
  refine(h2 a l).left n (λh=>h.kE rfl) (λm j y i h=>?_) (funext λI=>by simp[Gh.base,bB d]) (λ_ _ _=>⟨rfl,vK⟩);have i:p m=J:=i
  simp_all[Gh.base]
def iW(a:Act):Sh->L Value->Prop
 |[],[]=>True|(k,.one _)::l,v::b=>a.tmps[k]?=Z v∧iW a l b|(_,.box _)::l,_::b=>iW a l b|(_,.hid _)::l,b=>iW a l b|_,_=>False
def Et{l:L (V S)}{i:Nat}(h:nth l i=Z v):(bu l)[i]?=Z (low v):=by rw[ku]at h;simp[e9,h]
theorem kf{g:Gh}{w:World}{fr:bU S}{s:bg S}{a:Act}(hf:cQ g (bH fr) a w)(hs:aV g (aC s) w):∀{p:Pt}{v:V S},H6 fr s p=Z v->∃u,aH g w (low v) u
 |.slot k,v,h=>by
  let ⟨u,_,e⟩:=hf.tm k (low v) (by rw[bT,show fr.get k=Z v from h];rfl)
  grind
 |.cell p i,v,h=>by
  simp[H6]at h;split at h
  .rename_i o d
   let ⟨u,c⟩:=kf hf hs d
   split at h
   .rename_i B f;cases c with
    |ptr _ _ b j=>
     obtain⟨m,ty,q,t,e⟩:=(hs.box o b j).box (by rw[aJ,f];rfl);have h1:=Et h;have h2:i<m.size:=by grind
     exact⟨m[i],e i _ _ h1 (uq h2)⟩
   .cases h
  .cases h
 |.cap p i,v,h=>by
  simp[H6]at h;split at h
  .rename_i d
   let ⟨u,c⟩:=kf hf hs d
   cases c with
   |fn _ _ _ C n t E h1 h2=>
    have y:=Et h;have z:i<n.size:=by grind
    exact⟨n[i],h2 i _ _ y (uq z)⟩
  .cases h
 |.LS p k,v,h=>by
  simp[H6]at h;split at h
  .rename_i o d
   let ⟨u,c⟩:=kf hf hs d
   split at h
   .rename_i l f;cases c with
    |rJ _ b j=>
     obtain⟨x,q,e⟩:=(hs.box o b j).2.2 _ (by rw[aJ,f];rfl);cases e with
     |lp _ r h1 h2 h4 h5 h6 F A=>
      let ⟨u,_,c⟩:=A k (low v) (by
       show(bH l.fr).get k=_;rw[bT,h];rfl)
      grind
   .cases h
  .cases h
def tC{g:Gh}{w:World}{fr:bU S}{s:bg S}{a:Act}(hf:cQ g (bH fr) a w)(hs:aV g (aC s) w):∀{sh:Sh}{ps:L Pt}{bs:L Nat},rT fr s sh ps=Z bs->∃bl,PW (λo b=>g.bP o=Z b) bs bl
 |[],[],bs,h=>by simp only[rT,gR]at h;subst h;exact⟨[],rfl,λj t v h=>by simp at h⟩
 |(k,.one c)::l,ps,bs,h=>tC hf hs (sh:=l) (ps:=ps) (by simpa only[rT]using h)
 |(_,.box k)::l,p::ps,bs,h=>by
  simp[rT]at h;split at h
  .rename_i v d;split at h
   .rename_i o r h1 h2;simp at h;subst h;obtain rfl:=KK h1
    let ⟨u,e⟩:=kf hf hs d
    let ⟨b,q,_⟩:=FT e
    let ⟨bl,h3⟩:=tC hf hs h2
    refine⟨b::bl,by simp[h3.1],λj f i m n=>?_⟩;cases j with|zero=>simp_all|succ j=>exact h3.2 j f i (by simpa using m) (by simpa using n)
   .cases h
  .cases h
 |(_,.hid k)::l,p::ps,bs,h=>by
  simp[rT]at h;split at h
  .rename_i d;split at h
   .rename_i h1 h2;simp at h;subst h;obtain rfl:=KK h1
    let ⟨u,e⟩:=kf hf hs d
    let ⟨b,q,_⟩:=FT e
    let ⟨bl,h3⟩:=tC hf hs h2
    refine⟨b::bl,by simp[h3.1],λj f i m n=>?_⟩;cases j with|zero=>simp_all|succ j=>exact h3.2 j f i (by simpa using m) (by simpa using n)
   .cases h
  .cases h
 |[],_::_,_,h=>by simp[rT]at h
 |(_,.box _)::_,[],_,h=>by simp[rT]at h
 |(_,.hid _)::_,[],_,h=>by simp[rT]at h
theorem Ej{g:Gh}{w:World}{fr:bU S}{a:Act}(hf:cQ g (bH fr) a w):∀{sh:Sh}{bs bl:L Nat}{vs:L (V S)},vI fr sh bs=Z vs->PW (λo b=>g.bP o=Z b) bs bl->∃vals,iW a sh vals∧PW (aH g w) (bu vs) vals
 |[],[],bl,vs,h,_=>by simp only[vI,gR]at h;subst h;exact⟨[],trivial,rfl,λj t v h=>by grind⟩
 |(k,.one c)::l,bs,bl,vs,h,d=>by
  simp[vI]at h;split at h
  .rename_i v r h1 h2;simp at h;subst h
   let ⟨vals,h3,h4⟩:=Ej hf h2 d
   let ⟨u,p,s⟩:=hf.tm k (low v) (by rw[bT,h1];rfl)
   refine⟨u::vals,⟨p,h3⟩,by simp[bu,lQ,h4.1],λj t i e f=>?_⟩;cases j with|zero=>grind[bu]|succ j=>exact h4.2 j t i (by simpa[bu]using e) (by simpa using f)
  .cases h
 |(_,.box k)::l,o::bs,b::bl,vs,h,d=>by
  simp[vI]at h;split at h
  .rename_i h2;simp at h;subst h;have q:g.bP o=Z b:=d.2 0 _ _ rfl rfl
   let ⟨vals,h3,h4⟩:=Ej hf h2 (bl:=bl) ⟨by simpa using d.1,λj m n e f=>d.2 (j+1) m n (by simpa using e) (by simpa using f)⟩
   refine⟨KJ k b::vals,h3,by simp[bu,lQ,h4.1],λj t i e f=>?_⟩;cases j with|zero=>grind[bu,Nw]|succ j=>exact h4.2 j t i (by simpa[bu]using e) (by simpa using f)
  .cases h
 |(_,.box k)::l,o::bs,[],vs,h,d=>absurd d.1 (by simp)
 |(_,.hid k)::l,o::bs,b::bl,vs,h,d=>by
  simp[vI]at h
  let ⟨vals,h3,h4⟩:=Ej hf h (bl:=bl) ⟨by simpa using d.1,λj m n e f=>d.2 (j+1) m n (by simpa using e) (by simpa using f)⟩
  exact⟨vals,h3,h4⟩
 |(_,.hid k)::l,o::bs,[],vs,h,d=>absurd d.1 (by simp)
 |[],_::_,_,_,h,_=>by simp[vI]at h
 |(_,.box _)::_,[],_,_,h,_=>by simp[vI]at h
 |(_,.hid _)::_,[],_,_,h,_=>by simp[vI]at h
structure Hr(sh:Sh)(bs:List Nat)(a:Act)(g:Gh)(s:bg S)(w:World)(x:gp S.A (lO sh))(s2:bg S)(ow:List Nat)(g2:Gh)(vals:List Value)(al:List fh)(bl:List Nat):Prop where
 rel:aV g2 (aC s2) w
 ext:Ext s.fl g w g2 w
 pr:rE S g2.bp w (lO sh) x vals al bl
 at_:iW a sh vals
 YT:AL g2 al ow
 HW:PW (λo b=>g2.bP o=Z b) bs bl
 now:ow.Nodup
 W5:∀o∈ow,s.fl<=o∧s.lo<=o∧o<s.aD
 nbs:bs.Nodup
 Tb:∀o∈bs,s.fl<=o∧o<s.aD∧o∉ow∧∀e,g2.arr o e=Y
 fl:s2.fl=s.fl
 lo:s2.lo=s.lo
 aD:s2.aD=s.aD
 ua:∀o∈s.wr,o∈s2.wr
 same:∀o,o∉s2.wr->s2.ob.get o=s.ob.get o
 dr:s2.dr=s.dr
 ap:xy al
 owb:∀o∈ow,g.bP o=Y
def kR(hS:fy S){s2:bg S}{fr:bU S}(hf:cQ g (bH fr) a w)(hs:aV g (aC s) w){sh:Sh}{bs ow:L Nat}{x:gp S.A (lO sh)}{bl0:L Nat}(q:PW (λo b=>g.bP o=Z b) bs bl0)(h:qF sh bs fr s=Z (x,s2,ow)) :
  ∃g2 vals al bl,Hr sh bs a g s w x s2 ow g2 vals al bl:=by
 unfold qF at h;split at h
 .cases h
 rename_i i;split at h
 .cases h
 rename_i x' P ow' k z;split at h
 .cases h
 rename_i s1 A;obtain⟨p,h2⟩|⟨_,h2⟩:=af h
 rotate_left
 .cases h2
 clear h;simp only[fF]at p;simp at h2;obtain⟨rfl,rfl,rfl⟩:=h2
 let ⟨vals,Q,R⟩:=Ej hf i q
 have r:=l6 p.1;have hap:=zK p.2.1;have t:=l6 p.2.2.1;have hbb:k=bs:=by
  have h1:k.length=bs.length:=by have:=beq_iff'.1 p.2.2.2.1;rwa [bR,bR]at this
  have h2:=p.2.2.2.2;clear p z t i q
  induction k generalizing bs with
  |nil=>cases bs with|nil=>rfl|cons=>simp at h1
  |cons c cs ih=>cases bs with|nil=>simp at h1|cons d ds=>simp only[List.zip_cons_cons,List.all_cons,fF]at h2;rw[beq_iff'.1 h2.1,ih (by simpa using h1) h2.2]
 subst hbb
 let ⟨p1,B,p4,p3⟩:=kS hS hs z R (λo f=>by cases f)
 have hfl:=dw hS _ A
 let ⟨K,l,C,hfr⟩:=eG P hs hfl p1
 let ⟨f1,f2,f3,f4,f5,f6,f7⟩:=eN A
 let ⟨al,bl,m,E,u⟩:=p3 K (aC s1) P l C hfr (λo f=>f) (λo f=>by rw[aJ,aJ,f6 o (hap o f)])
 have v:∀o∈k,∃ob,s1.ob.get o=Z ob∧s.ob.get o=Z ob∧jY ob=W:=by
  intro o f
  let ⟨_,F,i,n⟩:=p4 o f
  have hnf:o∉P:=λhm=>by have:=(p1 o hm).ov (by rw[aJ,i];rfl);rw[oh n]at this;cases this
  exact⟨F,by rw[f6 o hnf];exact i,i,n⟩
 have I:∀o∈k,∃b,K.bP o=Z b:=by
  intro o f;obtain⟨j,hj,rfl⟩:=rM f;have hj':j<bl.length:=by have:=u.1;omega
  exact⟨bl[j],u.2 j _ _ (jr hj) (jr hj')⟩
 refine⟨K,vals,al,bl,l,C,m,Q,E,u,r,λo f=>⟨(B o f).1,(B o f).2.1,(B o f).2.2.1⟩,t,λo f=>?_,f1,f2,f3,f4,f5,f7,E.apart l r m.iL,λo f=>?_⟩;rotate_left
 .let ⟨_,_,_,oba,y,hB⟩:=B o f
  exact hs.As ((aJ s o).trans (by rw[y];rfl)) (uU hB)
 let ⟨F,hv1,hv2,n⟩:=v o f
 refine⟨(p4 o f).1,?_,λhm=>?_,λe=>?_⟩
 .let ⟨b,p⟩:=I o f
  have:=l.lt p;have e1:(aC s1).aD=s1.aD:=rfl;omega
 .let ⟨_,_,_,oba,y,hB⟩:=B o hm
  rw[hv2]at y;cases y;have:=uU hB;rw[oh n]at this;cases this
 .cases y:K.arr o e with
  |none=>rfl|some x'=>
   exfalso
   let ⟨_,h2⟩:=l.arr o e x' y
   exact Am n (h2 _ (by rw[aJ,hv1];rfl))
def ao0:Pk->Bool|.one _=>J|_=>W
structure Bi(ex:List Nat)(sh:Sh)(bs:List Nat)(a:Act)(gb:Gh)(j5:bU S)(s0:bg S)(w:World)(al:List fh)(gh:Gh)(BU:bU S)(y4:bg S):Prop where
 rel:aV gh (aC y4) w
 fr:cQ gh (bH BU) a w
 le:nh gb gh
 bp:gh.bp=gb.bp
 own:∀k b,bF gh k b->bF gb k b∨(s0.aD<=k∧∃a∈al,a.at b)
 fl:y4.fl=s0.fl
 lo:y4.lo=s0.lo
 aD:s0.aD<=y4.aD
 wr:y4.wr=s0.wr
 dr:y4.dr=s0.dr
 ob:∀o,o<s0.aD->o∉bs->y4.ob.get o=s0.ob.get o
 bP:gh.bP=gb.bP
 arr:∀o,o<s0.aD->∀e,gh.arr o e=gb.arr o e
 n:BU.n=j5.n
 N7:BU.df=j5.df
 get:∀k,k∉ex->(∀p∈sh,p.1=k->ao0 p.2=W)->BU.get k=j5.get k
theorem wC{a:Act}{w:World}:∀{sh:Sh}{bs:L Nat}{x:gp S.A (lO sh)}{vals:L Value}{al:L fh}{bl:L Nat}{gb:Gh}{j5 BU:bU S}{s0 y4:bg S},nu sh bs x j5 s0=Z (BU,y4)->j5.n<=bI->
  rE S gb.bp w (lO sh) x vals al bl->iW a sh vals->PW (λo b=>gb.bP o=Z b) bs bl->(∀o∈bs,∀e,gb.arr o e=Y)->(∀a∈al,∀b,a.at b->∀o,¬bF gb o b)->xy al->cQ gb (bH j5) a w->aV gb (aC s0) w->
  ∃gh,Bi [] sh bs a gb j5 s0 w al gh BU y4:=by
 intro sh
 induction sh with
 |nil=>
  intro bs x vals al bl gb j5 BU s0 y4 h hn hp C g hna hfr hap F hs;cases bs with
  |nil=>obtain⟨rfl,rfl⟩:=h;exact⟨gb,hs,F,nh.refl _,rfl,λ_ _ h=>.inl h,rfl,rfl,eR _,rfl,rfl,λ_ _ _=>rfl,rfl,λ_ _ _=>rfl,rfl,rfl,λ_ _ _=>rfl⟩
  |cons o bs=>simp[nu]at h
 |cons q sh ih=>
  intro bs x vals al bl gb j5 BU s0 y4 h hn hp C g hna hfr hap F hs
  let ⟨k,pk⟩:=q
  cases pk with
  |one c=>
   cases hp with
   | @one _ _ n xr v vs DA Br bl h1 h2=>
   let ⟨hv,C⟩:=C
   obtain⟨hb,h⟩|⟨_,h⟩:=af h
   rotate_left
   .cases h
   simp only[fF]at hb;have hk:k<j5.n:=gU hb.1;have I:(vT s0 c n).2.aD<=bI:=gU hb.2;have l:=um.1 hap
   let ⟨K,d,pP⟩:=nE (cs:=[c]) (x:=(n,())) h1 hs (λa ha=>hfr a (fU _ ha)) l.1 (by simpa[iy]using I)
   have e1:(iy s0 [c] (n,())).1=[(vT s0 c n).1]:=rfl;have e2:(iy s0 [c] (n,())).2=(vT s0 c n).2:=rfl;have hv1:aH K w (low (vT s0 c n).1) v:=pP.2 0 _ _ rfl rfl;have P:cQ K (bH (j5.put k (vT s0 c n).1)) a w:=by
    refine⟨F.size,F.df.imp (λ_ _ ht=>ht.le d.le) d.le.bP,λj t s=>?_⟩;rw[bT,bU.j4 _ _ _ _ (iS hk hn)]at s;by_cases hjk:j=k
    .simp_all
    .rw[bO hjk]at s
     let ⟨u,Q,hr⟩:=F.tm j t (by rw[bT];exact s)
     exact⟨u,Q,hr.le d.le⟩
   let ⟨gh,f⟩:=ih (gb:=K) h (by simpa[bU.put]using hn) (d.bp▸h2) C (by rw[d.bP];exact g) (λo ho e=>by
     have R:o<s0.aD:=by
      obtain⟨j,s,rfl⟩:=rM ho;have hj':j<bl.length:=by have:=g.1;omega
      exact hs.lt (g.2 j _ _ (jr s) (jr hj'))
     rw[d.arr o R]
     grind) (λa ha b hb o m=>by
     obtain m|⟨_,a2,ha2,pQ⟩:=d.own o b m
     .grind
     grind) l.2.1 P d.rel
   refine⟨gh,f.rel,f.fr,d.le.trans f.le,f.bp.trans d.bp,λk' b m=>?_,f.fl.trans d.fl,f.lo.trans d.lo,gD d.aD f.aD,f.wr.trans d.wr,f.dr.trans d.dr,λo ho A=>?_,f.bP.trans d.bP,λo ho e=>?_,f.n,f.N7,λj hex s=>?_⟩
   .obtain m|⟨y,E,z,k3⟩:=f.own k' b m
    .obtain m|⟨y,E,z,k3⟩:=d.own k' b m
     .exact .inl m
     grind
    .exact .inr ⟨gD d.aD y,E,eY _ z,k3⟩
   .rw[f.ob o (iS ho d.aD) A];exact d.ob o ho
   .rw[f.arr o (iS ho d.aD)];exact d.arr o ho e
   .rw[f.get j hex (λp hp=>s p (ic _ hp)),bU.j4 _ _ _ _ (iS hk hn),bO];intro hjk;cases s (k,.one c) eJ hjk.symm
  |box B=>
   cases hp with
   | @box _ _ n xr b hx vs DA Br bl hhp h1 h2=>
   cases bs with
   |nil=>exact absurd g.1 (by simp)
   |cons o bs=>
   obtain⟨hb,h⟩|⟨_,h⟩:=af h
   rotate_left
   .cases h
   have I:(lJ s0 (fK bs) B n).2.aD<=bI:=gU hb;have l:=um.1 hap;have mP:gb.bP o=Z b:=g.2 0 _ _ rfl rfl
   let ⟨K,d,afh⟩:=pZ h1 (AD (bs:=bs) (bl:=bl) ⟨by simpa using g.1,λj a c y z=>g.2 (j+1) a c (by simpa using y) (by simpa using z)⟩) hs (λa ha=>hfr a (fU _ ha)) l.1 I
   have R:o<s0.aD:=hs.lt mP;have hk:=d.rel.tG (o:=o) (b:=b) (by rw[d.bP];exact mP) hhp afh (λe=>by rw[d.arr o R];simp_all);have hk2:aV K (aC {(lJ s0 (fK bs) B n).2 with ob:=(lJ s0 (fK bs) B n).2.ob.set aM o (lJ s0 (fK bs) B n).1}) w:=by
    have:=eF (lJ s0 (fK bs) B n).2 o (lJ s0 (fK bs) B n).1 (lJ s0 (fK bs) B n).2.wr
    simp_all
   have P:cQ K (bH j5) a w:=⟨F.size,F.df.imp (λ_ _ ht=>ht.le d.le) d.le.bP,λj t s=>by
    let ⟨u,Q,hr⟩:=F.tm j t s
    exact⟨u,Q,hr.le d.le⟩⟩
   let ⟨gh,f⟩:=ih (bs:=bs) (bl:=bl) (gb:=K) h hn (d.bp▸h2) C ⟨by simpa using g.1,λj E c y z=>by rw[d.bP];exact g.2 (j+1) E c (by simpa using y) (by simpa using z)⟩
    (λr i e=>by
     have afl:r<s0.aD:=by
      obtain⟨j,s,rfl⟩:=rM i;have hj':j<bl.length:=by have:=g.1;grind
      exact hs.lt (g.2 (j+1) bs[j] bl[j] (by simp) (by simp))
     rw[d.arr r afl]
     simp_all) (λa ha b hb o m=>by
     obtain m|⟨_,a2,ha2,pQ⟩:=d.own o b m
     .grind
     grind) l.2.1 P hk2
   refine⟨gh,f.rel,f.fr,d.le.trans f.le,f.bp.trans d.bp,λk' b m=>?_,f.fl.trans d.fl,f.lo.trans d.lo,gD d.aD f.aD,f.wr.trans d.wr,f.dr.trans d.dr,λr i A=>?_,f.bP.trans d.bP,λr i e=>?_,f.n,f.N7,λj hex s=>?_⟩
   .obtain m|⟨y,E,z,k3⟩:=f.own k' b m
    .obtain m|⟨y,E,z,k3⟩:=d.own k' b m
     .exact .inl m
     grind
    .exact .inr ⟨gD d.aD y,E,eY _ z,k3⟩
   .have hne:r≠o:=λe=>A (by simp_all);rw[f.ob r (iS i d.aD) (λhm=>A (ic _ hm))];rw[Tr.dz _ _ _ _ _ hne];exact d.ob r i
   .rw[f.arr r (iS i d.aD)];exact d.arr r i e
   .exact f.get j hex (λp hp=>s p (ic _ hp))
  |hid B=>
   cases hp with
   | @hid _ _ n xr b hx vs DA Br bl hhp h1 h2=>
   cases bs with
   |nil=>exact absurd g.1 (by simp)
   |cons o bs=>
   obtain⟨hb,h⟩|⟨_,h⟩:=af h
   rotate_left
   .cases h
   have I:(lJ s0 (fK bs) B n).2.aD<=bI:=gU hb;have l:=um.1 hap;have mP:gb.bP o=Z b:=g.2 0 _ _ rfl rfl
   let ⟨K,d,afh⟩:=pZ h1 (AD (bs:=bs) (bl:=bl) ⟨by simpa using g.1,λj a c y z=>g.2 (j+1) a c (by simpa using y) (by simpa using z)⟩) hs (λa ha=>hfr a (fU _ ha)) l.1 I
   have R:o<s0.aD:=hs.lt mP;have hk:=d.rel.tG (o:=o) (b:=b) (by rw[d.bP];exact mP) hhp afh (λe=>by rw[d.arr o R];simp_all);have hk2:aV K (aC {(lJ s0 (fK bs) B n).2 with ob:=(lJ s0 (fK bs) B n).2.ob.set aM o (lJ s0 (fK bs) B n).1}) w:=by
    have:=eF (lJ s0 (fK bs) B n).2 o (lJ s0 (fK bs) B n).1 (lJ s0 (fK bs) B n).2.wr
    simp_all
   have P:cQ K (bH j5) a w:=⟨F.size,F.df.imp (λ_ _ ht=>ht.le d.le) d.le.bP,λj t s=>by
    let ⟨u,Q,hr⟩:=F.tm j t s
    exact⟨u,Q,hr.le d.le⟩⟩
   let ⟨gh,f⟩:=ih (bs:=bs) (bl:=bl) (gb:=K) h hn (d.bp▸h2) C ⟨by simpa using g.1,λj E c y z=>by rw[d.bP];exact g.2 (j+1) E c (by simpa using y) (by simpa using z)⟩
    (λr i e=>by
     have afl:r<s0.aD:=by
      obtain⟨j,s,rfl⟩:=rM i;have hj':j<bl.length:=by have:=g.1;grind
      exact hs.lt (g.2 (j+1) bs[j] bl[j] (by simp) (by simp))
     rw[d.arr r afl]
     simp_all) (λa ha b hb o m=>by
     obtain m|⟨_,a2,ha2,pQ⟩:=d.own o b m
     .grind
     grind) l.2.1 P hk2
   refine⟨gh,f.rel,f.fr,d.le.trans f.le,f.bp.trans d.bp,λk' b m=>?_,f.fl.trans d.fl,f.lo.trans d.lo,gD d.aD f.aD,f.wr.trans d.wr,f.dr.trans d.dr,λr i A=>?_,f.bP.trans d.bP,λr i e=>?_,f.n,f.N7,λj hex s=>?_⟩
   .obtain m|⟨y,E,z,k3⟩:=f.own k' b m
    .obtain m|⟨y,E,z,k3⟩:=d.own k' b m
     .exact .inl m
     grind
    .exact .inr ⟨gD d.aD y,E,eY _ z,k3⟩
   .have hne:r≠o:=λe=>A (by simp_all);rw[f.ob r (iS i d.aD) (λhm=>A (ic _ hm))];rw[Tr.dz _ _ _ _ _ hne];exact d.ob r i
   .rw[f.arr r (iS i d.aD)];exact d.arr r i e
   .exact f.get j hex (λp hp=>s p (ic _ hp))
theorem l5{ow:L Nat}{aD o:Nat}(h:dJ ow aD o=J):o∉ow∧o<aD:=by
 grind[dJ,Nat.ble_eq_true_of_le]
def pJ{ow:L Nat}{aD o:Nat}(h1:o∉ow)(h2:o<aD):dJ ow aD o=J:=by simp[dJ,zd,Fl,Wr];refine⟨h1,?_⟩;cases h:Nl aD o with|false=>rfl|true=>have:=gU h;omega
theorem Uw{p q:Nat->Bool}{v:V S}(h:cI p v=W)(a:cI q v=J):∃o,p o=W∧q o=J:=by
 obtain h1|h1:=Classical.em (∃o,p o=W∧q o=J)
 .exact h1
 grind[ez]
theorem pV(p:Nat->Bool)(v:V S):vD (dF p) (low v) (low (fZ p v)):=by cases a:cI p v with|true=>exact .inr ⟨_,by simp[fZ,a,iq];rfl⟩|false=>exact .inl ⟨by simp[fZ,a,j9],by rw[ir];exact a⟩
theorem sK(p:Nat->Bool)(v:V S):vD (dF p) (low (fZ p v)) (low (fZ p v)):=by cases a:cI p v with|true=>exact .inr ⟨_,by simp[fZ,a,iq];rfl⟩|false=>exact .inl ⟨rfl,by simp_all[fZ,ir]⟩
theorem ES(p:Nat->Bool)(t:Ty)(x:den S.A t):vD (dF p) (eg S t x) (eg S t x):=.inl ⟨rfl,ir (S:=S) p (.ty t x)⟩
theorem Np(p:Nat->Bool)(kt a:Ty)(l:L (den S.A kt×den S.A a)):si (dF p) (dc (.map kt a l:u0 S)) (dc (.map kt a l)):=by
 refine⟨rfl,λj t u h1 h2=>?_⟩;rw[h1]at h2;cases h2;simp only[lC,fV]at h1;obtain⟨q,_,rfl⟩:=h1
 grind[ES]
def aa8{f:V S->V S}(l:LpV S)(t0:Tr (V S))(hf:∀v,t0.get=t0.get->vD (dF p) (low v) (low (f v))) :
  si (dF p) (dc (.lp {l with fr:={l.fr with tm:=t0}})) (dc (.lp {l with fr:={l.fr with tm:=t0.mapA f}})):=by
 refine⟨rfl,rfl,λk u b=>?_⟩;have a:((t0.mapA f).map low).get k=Z u:=b;rw[Tr.get_map,Tr.oA,Px,fV]at a;obtain⟨v,c,rfl⟩:=a;exact⟨low v,by show(t0.map low).get k=_;rw[Tr.get_map,c];rfl,hf v rfl⟩
theorem lT(p:Nat->Bool)(ob:u0 S):si (dF p) (dc ob) (dc (ff p ob)):=by
 cases ob with
 |box h=>
  refine⟨by simp[eS],λj t u h1 h2=>?_⟩;simp only[e9,lC,fV]at h1 h2;obtain⟨v,e,rfl⟩:=h1;obtain⟨f,⟨b,a,rfl⟩,rfl⟩:=h2
  grind[pV]
 |map kt g l=>exact Np p kt g l|HU kt l=>
  refine⟨by simp,λj t u h1 h2=>?_⟩;simp only[lC,fV]at h1 h2;obtain⟨v,e,rfl⟩:=h1;obtain⟨f,⟨b,a,rfl⟩,rfl⟩:=h2
  grind[ES,pV]
 |lp l=>exact aa8 l l.fr.tm λv _=>pV p v|arr=>rfl|lK=>rfl|rI=>rfl|zZ=>rfl|rws=>rfl|gone=>rfl|FG=>rfl|lS n j l era m d hole=>
  cases c:p m with|true=>exact .inr (by simp[ff,c,iq];rfl)|false=>exact .inl ⟨by simp[ff,c,j9];rfl,c⟩
theorem GP(p:Nat->Bool)(ob:u0 S):si (dF p) (dc (ff p ob)) (dc (ff p ob)):=by
 cases ob with
 |box h=>refine⟨rfl,λj t u h1 h2=>?_⟩;rw[h1]at h2;cases h2;simp only[e9,lC,fV]at h1;obtain⟨f,⟨v,c,rfl⟩,rfl⟩:=h1;exact sK p v
 |map kt g l=>exact Np p kt g l|HU kt l=>
  refine⟨rfl,λj t u h1 h2=>?_⟩;rw[h1]at h2;cases h2;simp only[lC,fV]at h1;obtain⟨f,⟨v,c,rfl⟩,rfl⟩:=h1
  grind[ES,sK]
 |lp l=>refine⟨rfl,rfl,λk u d=>?_⟩;refine⟨u,d,?_⟩;have a:((l.fr.tm.mapA (fZ p)).map low).get k=Z u:=d;rw[Tr.get_map,Tr.oA,Px,fV]at a;obtain⟨v,c,rfl⟩:=a;exact sK p v
 |arr=>rfl|lK=>rfl|rI=>rfl|zZ=>rfl|rws=>rfl|gone=>rfl|FG=>rfl|lS n j l era m e hole=>
  cases b:p m with|true=>simp[ff,b,iq];rfl|false=>simp[ff,b,j9];exact .inl ⟨rfl,b⟩
def zE(h:cI p v=J):fZ p v=v:=by simp[fZ,h,j9]
theorem oH{p:Nat->Bool}{ob:u0 S}(h:gL p ob=J):ff p ob=ob:=by
 cases ob with
 |box f=>
  simp[ff,u0.box.injEq];have c:∀{l:L (V S)},iN p l=J->∀v∈l,cI p v=J:=by
   intro l
   induction l with
   |nil=>intro _ v b;cases b
   |cons a l d=>
    intro h v b;simp[iN,zd]at h;obtain rfl|b:=ga.1 b
    .exact h.1
    .exact d h.2 v b
  have:∀v∈f,fZ p v=v:=λv b=>zE (c h v b);exact(Wq this).trans (List.map_id _)
 |HU kt l=>
  simp only[ff];have c:∀{l:L (den S.A kt×V S)},zk p l=J->∀v∈l,cI p v.2=J:=by
   intro l
   induction l with
   |nil=>intro _ v b;cases b
   |cons a l d=>
    intro h v b;simp[zk,zd]at h;obtain rfl|b:=ga.1 b
    .exact h.1
    .exact d h.2 v b
  have:∀q∈l,((q.1,fZ p q.2):den S.A kt×V S)=q:=λq g=>by rw[zE (c h q g)]
  rw[(Wq this).trans (List.map_id _)]
 |lp l=>simp[ff,Ew (λv=>zE) (show mU (cI p) l.fr.tm=J from h)]|lS n j l era m e hole=>have h:p m=J:=h;simp[ff,h,j9]|_=>rfl
section
variable {bs ow ds:List Nat}{fr:bU S}{s1:bg S}
def tV(a:∀b∈bs,b<bI)(o:Nat):(cL ds ow bs fr s1).2.ob.get o=if o∈bs then Y else(s1.ob.get o).map (ff (dJ ow s1.aD)):=by show(bs.foldl (λt o=>t.del aM o) (s1.ob.mapA _)).get o=_;rw[Tr.oD bs _ o a,Tr.oA]
end
def Dh:∀(l:L (V S))(k:Nat)(t:Tr (V S)),(mW l k t).map low=BQ (bu l) k (t.map low)
 |[],_,_=>rfl|a::l,k,t=>by simp only[mW,bu,BQ];rw[Dh l,Tr.mQ]
theorem tH{g:Gh}{w:World}{n:Nat}(hn:n<bI){args:L (V S)}{vs:Array Value}(hl:args.length<=n)(a:PW (aH g w) (bu args) vs.toList) :
  cQ g (bH {n:=n,tm:=mW args 0 .nil}) {tmps:=vs++Array.replicate (n-vs.size) undef,defers:=[]} w:=by
 have c:(bu args).length=vs.size:=by simpa using a.1
 have d:args.length=vs.size:=by rw[<-c,eS]
 refine⟨by simp[bH];omega,.nil,λj t b=>?_⟩;have e:(bH {n:=n,tm:=mW args 0 .nil}).get j=(BQ (bu args) 0 .nil).get j:=by show((mW args 0 .nil).map low).get j=_;rw[Dh];rfl
 rw[e,Gd _ _ _ (by omega)]at b;split at b
 .refine ⟨vs[j],?_,a.2 j t _ b (by simp)⟩
  grind
 .cases b
end
section
def xW(s:bg S)(g:Gh)(w:World){ω:Type}(k kp:V S->bg S->O ω)(r:ω):Ending->World->Prop
 |.returned v,b=>∃t c d,k t c=Z r∧aH d b (low t) v∧eL s g w c d b|.panicked chain,b=>∃v t c d,chain=[{v,recovered:=J}]∧kp t c=Z r∧aH d b (low t) v∧eL s g w c d b|.outgrown,_=>False
def alv(P:Program)(call:gn S):Prop:=∀(f:FuncId)(args:L (V S))(s:bg S){ω:Type}(k kp:V S->bg S->O ω)(r:ω),call (.jn f) args s k kp=Z r->∀(g:Gh)(w:World)(vs:Array Value),aV g (aC s) w->PW (aH g w) (bu args) vs.toList->
  mo P f∧Calls P f vs w (xW s g w k kp r)
theorem xJ:∀{l:L Nat}{o:Nat},o∈l->o<=Ij l
 |[],_,h=>by cases h
 |a::l,o,h=>by
  simp[Ij];obtain rfl|h:=ga.1 h
  .cases b:Nl (Ij l) o with
   |true=>grind|false=>
    grind[Nat.ble_eq_true_of_le]
  .have:=xJ h;cases b:Nl (Ij l) a with|true=>exact gD this (gU b)|false=>exact this
theorem jw{l:L Nat}{o:Nat}:BJ l o=J↔o∈l:=by simp[BJ]
def uE{t:Tr (u0 S)}:∀{l:L Nat},(∀o∈l,o<bI)->∀{o:Nat},(De t l).get o=if o∈l then t.get o else Y
 |[],_,o=>by rfl
 |a::l,h,o=>by
  have f:=uE (t:=t) (l:=l) (λo b=>h o (ic _ b)) (o:=o);have c:=h a eJ;simp only[De];by_cases e:o=a
  .subst e;rw[bB eJ];cases d:t.get o with
   |none=>
    simp_all
   |some x=>simp only;rw[Tr.aR _ _ _ _ c,bB rfl]
  .cases d:t.get a with
   |none=>simp_all|some x=>
    simp_all[Tr.aR]
def SD(os:L Nat)(t:T):dF os.contains t=dn os t:=by
 induction t using T.rec (motive_2:=λl=>jy os.contains l=iM os l)with|fn f a b d g=>simp[dn,dF,d,g]|di t v e=>simpa only[dn,dF]using e|agg i e=>simpa only[dn,dF]using e|gT i e=>simpa only[dn,dF]using e|gd c t e=>simpa only[dn,dF]using e|nil=>rfl|cons a l d h=>simp[iM,jy,d,h]|_=>rfl
def Da{p q:Nat->Bool}(h:∀o,p o=W->q o=W){α:Type}:∀l:L (α×V S),zk p l=W->zk q l=W
 |[],a=>by cases a
 |v::l,a=>by simp[zk,pE]at a ⊢;exact a.imp (ez h v.2) (Da h l)
theorem uy{p q:V S->Bool}(h:∀v,p v=W->q v=W):∀t:Tr (V S),mU p t=W->mU q t=W
 |.nil,a=>by cases a
 |.node v l r,a=>by
  simp[mU,pE]at a ⊢;refine a.imp (λa=>?_) (Or.imp (uy h l) (uy h r))
  grind
variable {p q:Nat->Bool}
def KA(h:∀o,p o=W->q o=W){ob:u0 S}(d:gL q ob=J):gL p ob=J:=by
 cases a:gL p ob with
 |false=>rfl|true=>
  have:gL q ob=W:=by cases ob with|box c=>exact mC h c a|HU kt l=>exact Da h l a|lp l=>exact uy (ez h) _ a|lS n j l era m b hole=>exact h m a|_=>cases a
  simp_all
theorem Fh{g:Gh}{w:World}{s:bg S}{b:L Ck}{v:V S}{val:Value}(i:aH g w (low v) val){x:gH S.A b}{fz ow:L Nat}(h:gq s b (Wj b v)=Z (x,fz,ow)):∃vals,val=valOf vals∧PW (aH g w) (bu (Wj b v)) vals:=by
 have one:∀{l:L (V S)},l=[v]->b.length=1->∃vals,val=valOf vals∧PW (aH g w) (bu l) vals:=by
  rintro l rfl _
  refine⟨[val],rfl,rfl,λj t u h1 h2=>?_⟩
  grind[bu]
 have d:∀{a:L Ck}{l:L (V S)}{x:gH S.A a}{fz ow:L Nat},gq s a l=Z (x,fz,ow)->a.length=l.length:=by
  intro a
  induction a with
  |nil=>grind[gq]|cons c a o=>intro l x fz ow h;cases l with
   |nil=>simp[gq]at h|cons v l=>
    grind[gq]
 have e:=d h;unfold Wj at e h ⊢;split at h
 .grind
 .cases i with
  |gT _ f k m=>
   refine⟨f.toList,?_,by simpa using k,λj t v h1 h2=>m j t v h1 (by simpa using h2)⟩;have n:f.toList.length≠1:=by
    grind[eS,List.length_eq_one_iff]
   unfold valOf;split
   .simp_all
   .rfl
 simp_all
def Gm{fr:bU S}:∀{n j:Nat}{l:L (V S)},getAll fr j n=Z l->l.length=n∧∀(i:Nat)(v:V S),l[i]?=Z v->fr.get (j+i)=Z v
 |0,j,l,h=>by simp only[getAll,gR]at h;subst h;exact⟨rfl,λi v h=>by simp at h⟩
 |n+1,j,l,h=>by
  simp only[getAll]at h;split at h
  .rename_i h1 h2;simp at h;subst h
   let ⟨b,c⟩:=Gm h2
   refine⟨by simp[b],λi u a=>?_⟩;cases i with|zero=>simp at a;subst a;exact h1|succ i=>have:=c i u (by simpa using a);rw[show j+(i+1)=Ns j+i by omega];exact this
  .cases h
theorem Ss{g:Gh}{w:World}{fr:bU S}{s:bg S}{a:Act}(hf:cQ g (bH fr) a w)(hs:aV g (aC s) w):∀{ps:L Pt}{f:L Nat},WV fr s ps=Z f->∀o∈f,∃b,g.bP o=Z b
 |[],f,h=>by
  grind[WV]
 |p::l,f,h=>by
  simp[WV]at h;split at h
  .rename_i h1 h2;simp at h;subst h;intro j c;obtain rfl|c:=ga.1 c
   .unfold ptO at h1;split at h1
    .rename_i k d;cases h1
     let ⟨u,e⟩:=kf hf hs d
     cases e with|ptr _ _ b i=>grind
    .rename_i k d;cases h1
     let ⟨u,e⟩:=kf hf hs d
     cases e with|mp _ b i=>grind
    .rename_i d;cases h1
     let ⟨u,e⟩:=kf hf hs d
     cases e with|rJ _ b i=>grind
    .cases h1
   .exact Ss hf hs h2 j c
  .cases h
theorem RZ{s:bg S}:∀{cs:L Ck}{l:L (V S)}{x:gH S.A cs}{fz ow:L Nat},lA cs=W->gq s cs l=Z (x,fz,ow)->fz=[]∧ow=[]
 |[],[],_,fz,ow,_,h=>by
  grind[gq]
 |.dat t::cs,v::l,x,fz,ow,a,h=>by
  simp[lA,fF]at a;simp[gq]at h;split at h
  .rename_i c d;obtain⟨_,rfl,rfl⟩:=h;obtain⟨rfl,rfl⟩:=RZ a.2 d;simp[o3]at c;split at c
   .rename_i b;obtain⟨_,rfl,rfl⟩:=c;refine⟨?_,rfl⟩;cases t with
    |int k=>
     cases v<;>simp only[bS]at b<;>try(cases b;done)
     .grind
     grind
    |bool=>
     cases v<;>simp only[bS]at b<;>try(cases b;done)
     .grind
     simp_all
    |str=>
     cases v<;>simp only[bS]at b<;>try(cases b;done)
     grind
    |_=>simp[Wf]at a
   .cases c
  .cases h
 |.own _::_,_,_,_,_,a,_=>by simp[lA]at a
 |.kz ..::_,_,_,_,_,a,_=>by simp[lA]at a
 |.nil _::_,_,_,_,_,a,_=>by simp[lA]at a
 |.ptr _::_,_,_,_,_,a,_=>by simp[lA]at a
 |[],_::_,_,_,_,_,h=>by simp[gq]at h
 |.dat _::_,[],_,_,_,_,h=>by simp[gq]at h
section
variable {g:Gh}{w:World}
theorem Va{P:Program}(hS:fy S){call:gn S}(wD:alv P call){s:bg S}(hs:aV g (aC s) w){c:JSh}{f:FuncId}{args:L (V S)}{ω:Type}{k:V S->bg S->L Nat->O ω}{r:ω}
  (h:evJ call c s f args k=Z r) {vs:Array Value} (hall:PW (aH g w) (bu args) vs.toList):mo P f∧Calls P f vs w λ
   |.returned v,w'=>∃t s' g' ow,k t s' ow=Z r∧aH g' w' (low t) v∧cO ow s g w s' g' w'|.panicked _,_=>False|.outgrown,_=>False:=by
 unfold evJ at h;split at h;rotate_left
 .cases h
 rename_i C z hbs hks;split at h
 .cases h
 rename_i F ow hpk;obtain⟨m,h1⟩|⟨_,h1⟩:=af h
 rotate_left
 .cases h1
 clear h;simp only[fF]at m
 let ⟨⟨hlen,XO⟩,adr,afA,hmax⟩:=m
 have hlen:cE args<bI:=gU hlen;have XO:∀k∈y5 c.sh,k<bI:=λk hk=>by
  simp_all
 have hmax:Ij (C++z)+1<=F.aD:=gU hmax
 let ⟨y,hrun,h2⟩:=eB h1
 clear h1;split at h2
 .cases h2
 rename_i s3 hout;have hvl:args.length=vs.size:=by have:=hall.1;rw[eS]at this;omega
 have US:cQ g (bH (SU args)) {tmps:=vs++Array.replicate (cE args-vs.size) undef,defers:=[]} w:=tH hlen (by rw[bR];omega) hall;have afg:vs++Array.replicate (cE args-vs.size) undef=vs:=by
  simp_all[bR]
 rw[afg]at US;generalize ha0:({tmps:=vs,defers:=[]}:Act)=a0 at US;have ha0t:a0.tmps=vs:=by rw[<-ha0]
 let ⟨bl0,Qp⟩:=tC US hs hbs
 let ⟨A,vals,al,bl,d⟩:=kR hS US hs Qp hpk
 have hkb:=Ss US hs hks;have UX:∀o∈C,∃b,A.bP o=Z b:=λo ho=>by
  obtain⟨j,hj,rfl⟩:=rM ho;have hj':j<bl.length:=by have:=d.HW.1;omega
  exact⟨bl[j],d.HW.2 j _ _ (jr hj) (jr hj')⟩
 have hKb:∀o∈C++z,∃b,A.bP o=Z b:=λo ho=>by
  obtain ho|ho:=eZ.1 ho
  .exact UX o ho
  .let ⟨b,m⟩:=hkb o ho
   exact⟨b,d.ext.bP _ _ m⟩
 have afM:∀o∈C++z,o<F.aD:=λo ho=>by
  let ⟨b,m⟩:=hKb o ho
  exact d.rel.lt m
 have hn1:F.aD<=bI:=d.rel.aD;have aqn:∀o∈C++z,o∉ow:=λo ho hm=>by
  obtain ho|ho:=eZ.1 ho
  .exact (d.Tb o ho).2.2.1 hm
  .let ⟨b,m⟩:=hkb o ho
   rw[d.owb o hm]at m;cases m
 have hkp:∀o∈z,∃ob,F.ob.get o=Z ob∧jY ob=W∧gL (BJ (C++z)) ob=J:=λo ho=>by
  unfold S8 at afA;rw[lB]at afA;have:=afA o ho;split at this
  .simp_all
  .cases this
 have hKarr:∀o∈C++z,∀e,A.arr o e=Y:=λo ho e=>by
  obtain ho|ho:=eZ.1 ho
  .exact (d.Tb o ho).2.2.2 e
  .let ⟨ob,i,NB,_⟩:=hkp o ho
   cases hx:A.arr o e with
   |none=>rfl|some x=>
    exfalso
    let ⟨_,h2⟩:=d.rel.arr o e x hx
    exact Am NB (h2 _ (by rw[aJ,i];rfl))
 have abN:∀o∈z,o<bI:=λo ho=>iS (afM o (eY _ ho)) hn1;have DR:=d.YT.owned d.pr.iL;have apg:aV (A.base (BJ (C++z))) (aC (stJ C z F)) w:=by
  refine d.rel.base (aD:=Ij (C++z)+1) (λo ho=>?_) rfl hmax (λo ob Q i=>?_)
  .cases hn:BJ (C++z) o with|true=>rfl|false=>have:=xJ (jw.1 hn);omega
  .rw[aJ,show(stJ C z F).ob.get o=(De F.ob z).get o from rfl,uE abN]at i;split at i
   .rename_i hok
    let ⟨VQ,R,_,hm⟩:=hkp o hok
    rw[R]at i;simp at i;subst i;refine⟨dc VQ,by rw[aJ,R];rfl,?_⟩;have:=lT (BJ (C++z)) VQ;rwa [oH hm]at this
   .cases i
 have hf1:cQ (A.base (BJ (C++z))) (bH (Qx (C++z) c.sh (SU args))) a0 w:=by
  refine⟨US.size,by rw[<-ha0];exact .nil,λk t hk=>?_⟩;rw[bT,fV]at hk;obtain⟨v,hv,rfl⟩:=hk;have hv:(((y5 c.sh).foldl (λt k=>t.del aM k) (SU args).tm).keep λv=>!(cI (BJ (C++z)) v)).get k=Z v:=hv;rw[Tr.oC,amJ]at hv
  let ⟨h3,h4⟩:=hv
  have h5:(SU args).get k=Z v:=by
   rw[Tr.oD _ _ _ XO]at h3;split at h3
   .cases h3
   .exact h3
  let ⟨u,hu,hr⟩:=US.tm k (low v) (by rw[bT,h5];rfl)
  exact⟨u,hu,(hr.ext d.ext hs.bp).on (A.gM _) (λ_ _=>rfl) (by rw[ir];simpa using h4)⟩
 unfold Pp at hrun;split at hrun
 .cases hrun
 rename_i BU y4 NI;split at hrun
 .cases hrun
 rename_i args' eo
 let ⟨gh,hh⟩:=wC (gb:=A.base (BJ (C++z))) NI (I1 hlen) d.pr d.at_ ⟨d.HW.1,λj o b h1 h2=>(A.gM _).bP o b (jw.2 (fU _ (iz h1))) (d.HW.2 j o b h1 h2)⟩
  (λo ho e=>by
   simp_all[Gh.base])
  (λa ha b m o E=>by
   let ⟨h3,h4⟩:=Gh.fQ E
   let ⟨o',ho',K⟩:=DR a ha b m
   have:=d.rel.j8 o o' b h4 K
   grind[jw]) d.ap hf1 apg
 have hfn:BU.n=vs.size:=by have h3:BU.n=(SU args).n:=hh.n;rw[h3];show cE args=_;rw[bR,hvl]
 have pP:PW (aH gh w) (bu args') vs.toList:=by
  let ⟨k1,k2⟩:=Gm eo
  refine⟨by rw[eS,k1,hfn];simp,λj t v h3 h4=>?_⟩;rw[e9,lC,fV]at h3;obtain⟨u,hu,rfl⟩:=h3;have h5:=k2 j u hu;rw[ya]at h5
  let ⟨v',h6,h7⟩:=hh.fr.tm j (low u) (by rw[bT,h5];rfl)
  simp_all
 let ⟨NJ,hc⟩:=wD f args' y4 _ _ y hrun gh w vs hh.rel pP
 refine⟨NJ,hc.mono λe w' he=>?_⟩;cases e with
 |outgrown=>exact he.elim|panicked ch=>
  let ⟨_,_,_,_,_,h3,_⟩:=he
  cases h3
 |returned v=>
 let ⟨t,s',g',h3,ht,n⟩:=he
 unfold adg at h3;split at h3;rotate_left
 .cases h3
 rename_i yr fz ow' y2 s2 LV hr hy;obtain⟨hkw,h4⟩|⟨_,h4⟩:=af h3
 rotate_left
 .cases h4
 simp at h4;subst h4;clear h3;have hkw:∀o∈z,o∉s2.wr:=λo ho=>by
  simp_all
 have hfE:∀(g:Gh)(w:World),cQ g (bH (frE:bU S)) {tmps:=#[],defers:=[]} w:=λg w=>⟨rfl,.nil,λk t hk=>by simp_all[bT,frE,bU.get,Tr.get_nil]⟩;have afD:∀o∈C++z,∀b,A.bP o=Z b->gh.bP o=Z b:=λo ho b m=>by rw[hh.bP];exact(A.gM _).bP o b (jw.2 ho) m
 have aqj:PW (λo b=>g'.bP o=Z b) C bl:=⟨d.HW.1,λj o b h1 h2=>n.ext.bP o b (afD o (fU _ (iz h1)) b (d.HW.2 j o b h1 h2))⟩
 let ⟨g3,vals2,Br,bl2,l⟩:=kR hS (hfE g' w') n.rel aqj hy
 have hfl:y4.fl=s.fl:=hh.fl.trans (show(stJ C z F).fl=s.fl from d.fl);have p:oK y4.lo y4.fl gh w g3 w':=n.ext.trans (n.fl▸l.ext.H7 y4.lo);have hgi:gh.bp=A.bp:=hh.bp;have afu:∀{o b:Nat},bF gh o b->(o∈C++z∧A.bP o=Z b∧bF A o b)∨∃a∈al,a.at b:=λ{o b}E=>by
  obtain E|⟨_,hx⟩:=hh.own o b E
  .let ⟨h3,h4⟩:=Gh.fQ E
   have h3:=jw.1 h3;refine .inl ⟨h3,?_,h4⟩;obtain h5|⟨e,x,_,h5,_⟩:=h4.2
   .exact h5
   simp_all
  .exact .inr hx
 let X:Nat->Prop:=λb=>(∃o∈C++z,A.bP o=Z b)∨∃a∈al,a.at b
 have abR:∀{o b:Nat},bF gh o b->X b:=λ{o b}E=>(afu E).imp (λ⟨h1,h2,_⟩=>⟨o,h1,h2⟩) id;have hK3:∀o∈C++z,∀b,A.bP o=Z b->g3.bP o=Z b:=λo ho b m=>p.bP o b (afD o ho b m);have Ya:∀b,A.bp b->g3.bp b:=λb m=>p.bp b (by grind);have hXi:∀b,X b->¬A.bp b:=λb hX=>by
  obtain⟨o,_,ho⟩|⟨a,ha,I⟩:=hX
  .exact (d.rel.box o b ho).1
  .exact d.pr.iL a ha b I
 have hXO:∀b,X b->∃o,(o∈C++z∨o∈ow)∧bF A o b:=λb hX=>by
  obtain⟨o,h1,ho⟩|⟨a,ha,I⟩:=hX
  .exact ⟨o,.inl h1,(d.rel.box o b ho).1,.inl ho⟩
  .let ⟨o,ho,E⟩:=DR a ha b I
   grind
 generalize hB:(cL [] ow C (frE:bU S) F).2=B at hout;have hBg:∀o,B.ob.get o=if o∈C then Y else(F.ob.get o).map (ff (dJ ow F.aD)):=λo=>by rw[<-hB];exact tV (ds:=[]) (fr:=frE) (λb m=>iS (afM b (fU _ m)) hn1) o
 have hBn:B.aD=F.aD:=by rw[<-hB];rfl
 have aqs:B.fl=F.fl:=by rw[<-hB];rfl
 have aqq:B.lo=F.lo:=by rw[<-hB];rfl
 have hA:aV (A.base (dJ ow F.aD)) (aC B) w:=by
  refine d.rel.base (aD:=F.aD) (λo ho=>?_) hBn (eR _) (λo ob Q i=>?_)
  .simp_all[dJ]
  .rw[aJ,hBg]at i;split at i
   .cases i
   .rw[Px,fV]at i;obtain⟨vob,hv,rfl⟩:=i;exact⟨dc vob,by rw[aJ,hv];rfl,lT _ vob⟩
 have aqt:∀o,(yJ z B).ob.get o=if o∈z then Y else B.ob.get o:=λo=>Tr.oD z _ o abN
 have hA':aV (A.base (dJ ow F.aD)) (aC (yJ z B)) w:=by
  have hsub:∀o ob,(aC (yJ z B)).ob.get o=Z ob->(aC B).ob.get o=Z ob:=by
   simp_all[aJ]
  refine⟨hA.aD,hA.ah,λo b h=>?_,λo e x h=>?_,hA.bp,hA.j8⟩
  .let ⟨k1,k2,k3⟩:=hA.box o b h
   exact⟨k1,k2,λob i=>k3 ob (hsub o ob i)⟩
  .let ⟨k1,k2⟩:=hA.arr o e x h
   exact⟨k1,λob i=>k2 ob (hsub o ob i)⟩
 have hC:aV {A.base (dJ ow F.aD)with bp:=g3.bp} (aC (yJ z B)) w':=by
  refine hA'.step (X:=X) Ya (λb m=>?_) l.rel.bp p.size (λb m hX=>n.ext.heap b m λo _ E=>hX (abR E)) (λo b hX E=>?_) hXi
  .obtain h|h|⟨o,_,E⟩:=p.oz b m
   .rw[hgi]at h;exact .inl h
   .omega
   .exact .inr (.inr (abR E))
  .let ⟨Q,E⟩:=Gh.fQ E
   let ⟨o',ho',K⟩:=hXO b hX
   have:=d.rel.j8 o o' b E K;subst this;obtain hK|hw:=ho'
   .refine ⟨?_,?_⟩
    .rw[aJ,aqt];obtain h|h:=eZ.1 hK
     .simp_all
     simp_all
    .let ⟨b',hb'⟩:=hKb o hK
     obtain h5|⟨e,x,_,h5,_⟩:=E.2
     .exact (l.rel.box o b (hK3 o hK b h5)).1
     simp_all
   .exact absurd hw (l5 Q).1
 have ajY:∀o∈C++z,dJ ow F.aD o=J:=λo ho=>pJ (aqn o ho) (afM o ho);have hgB:acW (BJ (C++z)) g3 {A.base (dJ ow F.aD)with bp:=g3.bp}:=by
  refine⟨λo b Q m=>?_,λo e x Q hx=>?_,λ_ h=>h⟩
  .have hK:=jw.1 Q
   let ⟨b',hb'⟩:=hKb o hK
   rw[hK3 o hK b' hb']at m;have hbb:b'=b:=ke m;rw[<-hbb];exact(A.gM _).bP o b' (ajY o hK) hb'
  .exfalso;have hK:=jw.1 Q;obtain h|h:=eZ.1 hK
   .rw[(l.Tb o h).2.2.2 e]at hx;cases hx
   .let ⟨VQ,R,NB,_⟩:=hkp o h
    let ⟨b',hb'⟩:=hKb o hK
    let ⟨_,k2⟩:=l.rel.arr o e x hx
    cases hoc:(aC s2).ob.get o with
    |none=>
     exfalso;have:s2.ob.get o=Z VQ∨o∈C:=by
      by_cases i:o∈C
      .exact .inr i
      .left
       rw[l.same o (hkw o h),n.same o (iS (Sk (xJ hK)) hh.aD) (λhm=>hkw o h (l.ua o hm)),hh.ob o (Sk (xJ hK)) i];show(De F.ob z).get o=_;rw[uE abN,bB h,R]
     obtain h6|h6:=this
     .grind[aJ]
     .rw[(l.Tb o h6).2.2.2 e]at hx;cases hx
    |some obx=>
     have h7:=(k2 obx hoc).ov;have h8:=(l.rel.box o b' (hK3 o hK b' hb')).2.2 obx hoc
     let ⟨_,_,h9⟩:=h8
     rw[h9.BK]at h7;cases h7
 have hD:aV {A.base (dJ ow F.aD)with bp:=g3.bp} (aC B) w':=by
  refine⟨hC.aD,hC.ah,λo b h=>?_,λo e x h=>?_,hC.bp,hC.j8⟩
  .let ⟨k1,k2,k3⟩:=hC.box o b h
   refine⟨k1,k2,λob i=>?_⟩;by_cases hok:o∈z
   .have hK:o∈C++z:=eY _ hok
    let ⟨VQ,R,NB,hm⟩:=hkp o hok
    have Qi:=i;rw[aJ,hBg]at Qi;split at Qi
    .cases Qi
    rename_i hnb;rw[R]at Qi;simp at Qi;have hm2:gL (dJ ow F.aD) VQ=J:=KA (λo ho=>by
     grind[jw]) hm
    rw[oH hm2]at Qi;subst Qi;have h6:s2.ob.get o=Z VQ:=by rw[l.same o (hkw o hok),n.same o (iS (Sk (xJ hK)) hh.aD) (λhm=>hkw o hok (l.ua o hm)),hh.ob o (Sk (xJ hK)) hnb];show(De F.ob z).get o=_;rw[uE abN,bB hok,R]
    let ⟨Q,pQ⟩:=Gh.A6 (show(A.base (dJ ow F.aD)).bP o=Z b from h)
    let ⟨x,h7,h8⟩:=(l.rel.box o b (hK3 o hK b pQ)).2.2 (dc VQ) (by rw[aJ,h6];rfl)
    have hl:=lT (BJ (C++z)) VQ;rw[oH hm]at hl;exact⟨x,h7,h8.left (λt v ht hmt=>ht.on hgB (λ_ _=>rfl) hmt) hl⟩
   .exact k3 ob (by simp_all[aJ])
  .let ⟨k1,k2⟩:=hC.arr o e x h
   refine⟨k1,λob i=>?_⟩;by_cases hok:o∈z
   .have h3:=(Gh.A7 (show(A.base (dJ ow F.aD)).arr o e=Z x from h)).2
    simp_all
   .exact k2 ob (by simp_all[aJ])
 have X8:=l.YT.owned l.pr.iL;have X9:∀a∈Br,∀b,a.at b->X b∨w.heap.size<=b:=λa ha b I=>by
  let ⟨o2,ho2,U0⟩:=X8 a ha b I
  obtain⟨o',_,K⟩|h:=p.own o2 b (n.fl▸(l.W5 o2 ho2).1) U0
  .exact .inl (abR K)
  omega
 obtain⟨gF,X0⟩:=wC (a:={tmps:=#[],defers:=[]}) (gb:={A.base (dJ ow F.aD)with bp:=g3.bp}) (w:=w') hout (Ih _) l.pr l.at_
  ⟨l.HW.1,λj o b h1 h2=>hgB.bP o b (jw.2 (fU _ (iz h1))) (l.HW.2 j o b h1 h2)⟩
  (λo ho e=>by
   simp_all[Gh.base])
  (λa ha b I o E=>by
   have hO0:bF (A.base (dJ ow F.aD)) o b:=⟨λhi=>E.1 (Ya b hi),E.2⟩
   let ⟨Q,U0⟩:=Gh.fQ hO0
   let ⟨o2,ho2,hO3⟩:=X8 a ha b I
   by_cases hK:o∈C++z
   .have Qr:g3.bP o=Z b:=by
     obtain h5|⟨e,x,_,h5,_⟩:=U0.2
     .grind
     simp_all
    have:=l.rel.j8 o o2 b ⟨(l.rel.box o b Qr).1,.inl Qr⟩ hO3;subst this
    let ⟨b',hb'⟩:=hKb o hK
    have h6:g'.bP o=Z b':=n.ext.bP o b' (afD o hK b' hb');rw[l.owb o ho2]at h6;cases h6
   .obtain hX|h:=X9 a ha b I
    .let ⟨o',ho',K⟩:=hXO b hX
     have:=d.rel.j8 o o' b U0 K
     grind[l5]
    .have:=(d.rel.rS U0).1;omega) l.ap (hfE _ _) hD
 have hflX:∀b,b<w.heap.size->(∀o,s.fl<=o->¬bF g o b)->∀o,s.fl<=o->¬bF gh o b:=λb m hn o ho E=>by
  obtain⟨_,_,U0⟩|⟨a,ha,I⟩:=afu E
  .obtain h|h:=d.ext.own o b U0
   .grind
   .omega
  .let ⟨o',ho',K⟩:=DR a ha b I
   obtain h|h:=d.ext.own o' b K
   .exact hn o' (d.W5 o' ho').1 h
   .omega
 have ajy:∀{o b:Nat},s.fl<=o->bF gh o b->(∃o',s.fl<=o'∧bF g o' b)∨w.heap.size<=b:=λ{o b}ho E=>by
  obtain⟨_,_,U0⟩|⟨a,ha,I⟩:=afu E
  .exact (d.ext.own o b U0).imp (λh=>⟨o,ho,h⟩) id
  .let ⟨o',ho',K⟩:=DR a ha b I
   exact(d.ext.own o' b K).imp (λh=>⟨o',(d.W5 o' ho').1,h⟩) id
 have aiT:aH gF w' (low (DL (tN c.rs yr))) v:=by
  obtain⟨vals',rfl,apt⟩:=Fh ht hr
  let ⟨_,_,q⟩:=gw hS n.rel hr apt
  obtain⟨rfl,rfl⟩:=RZ adr hr
  let ⟨YT,hH,_⟩:=q g' (aC s') [] n.rel (Ext.refl _ _ _) ⟨rfl,rfl,λo ho=>(by cases ho),λ_ _ _ _ h=>h,λo ho=>(by cases ho)⟩ (λ_ h=>h) (λo ho=>(by cases ho))
  exact z5 (xP adr hH)
 refine⟨_,_,gF,ow,h2,aiT,X0.rel,⟨λo b m=>?_,λo e x hl hx=>?_,λb m=>?_,p.size,λb m hn=>?_,λo b ho E=>?_,λb m=>?_,p.os,p.output⟩,X0.fl.trans (aqs.trans d.fl),X0.lo.trans (aqq.trans d.lo),?_,λo ho=>?_,λo hl ho=>?_,λt v ht hm=>?_,λo ho=>?_,λo ho=>?_,λo ho=>?_⟩
 .rw[X0.bP];exact(A.gM _).bP o b (pJ (λhm=>by rw[d.owb o hm]at m;cases m) (by have:=hs.lt m;rw[d.aD];exact this)) (d.ext.bP o b m)
 .have hlt:o<F.aD:=by have:=hs.lt' hx;rw[d.aD];exact this
  rw[X0.arr o (by omega)];exact(A.gM _).arr o e x (pJ (λhm=>by have:=(d.W5 o hm).2.1;omega) hlt) (d.ext.arr o e x hx)
 .rw[X0.bp];exact Ya b (d.ext.bp b m)
 .exact n.ext.heap b m (by simp_all)
 .obtain E|⟨_,a,ha,I⟩:=X0.own o b E
  .have hO0:bF (A.base (dJ ow F.aD)) o b:=⟨λhi=>E.1 (Ya b hi),E.2⟩;exact(d.ext.own o b (Gh.fQ hO0).2).imp (λh=>⟨o,ho,h⟩) id
  .let ⟨o2,ho2,U0⟩:=X8 a ha b I
   obtain⟨o',ho',K⟩|h:=p.own o2 b (n.fl▸(l.W5 o2 ho2).1) U0
   .exact ajy (hfl▸ho') K
   omega
 .rw[X0.bp]at m;obtain h|h|⟨o,ho,E⟩:=p.oz b m
  .rw[hgi]at h;exact d.ext.oz b h
  .omega
  .obtain h|h:=ajy (hfl▸ho) E
   .exact .inr (.inr h)
   omega
 .have h3:B.aD<=s3.aD:=X0.aD;rw[hBn,d.aD]at h3;exact h3
 .exact eY _ (eY _ (eY _ (d.ua o ho)))
 .simp at ho;rw[X0.ob o (by rw[hBn,d.aD];exact hl) ho.2.1,hBg,bO ho.2.1,<-d.same o ho.2.2.2];cases hg:F.ob.get o with
  |none=>rfl|some ob=>
   grind[oH,Tr.qN]
 .have h3:aH A w t v:=ht.ext d.ext hs.bp;have hon:acW ow.contains A {A.base (dJ ow F.aD)with bp:=g3.bp}:=by
   refine⟨λo b Q m=>?_,λo e x Q hx=>?_,Ya⟩
   .exact (A.gM _).bP o b (pJ (by grind) (d.rel.lt m)) m
   .exact (A.gM _).arr o e x (pJ (by grind) (d.rel.lt' hx)) hx
  exact(h3.on hon (λb m=>n.ext.heap b (d.rel.bp b m) λo _ E=>hXi b (abR E) m) (by rw[SD];exact hm)).le X0.le
 .simp_all
 .exact eY _ (by rw[d.dr];exact ho)
 simp_all
end
end
section
structure fC(E:eO S):Prop where
 sg:fy S
 TJ:Bd E.T.E
 ty:Ra S E.T
 name:∀f fn,E.T.E.SV f=Z fn->(fn.name== "runtime.NumGoroutine")=J
 ng:∀f,E.T.E.Iq f=Y
 x:XOk S E.T
 Iq:∀f c,E.Iq f=Z c->bC E.T.E.P f c
variable {E:eO S}{args:List (V S)}{s:bg S}
def fC.env(h:fC E):OX E.T.E:={h.TJ with
 name:=h.name
 Iq:=λf c a=>by rw[h.ng]at a;cases a}
def CE(s:bg S)(g:Gh)(w:World){ω:Type}(k kp:V S->bg S->O ω)(r:ω):Ending->World->Prop
 |.returned v,b=>∃t c d,k t c=Z r∧aH d b (low t) v∧cO [] s g w c d b|.panicked chain,b=>∃v t c d,chain=[{v,recovered:=J}]∧kp t c=Z r∧aH d b (low t) v∧cO [] s g w c d b|.outgrown,_=>False
structure gO(P:Program)(call:gn S):Prop where
 fn:∀(f:FuncId)(args:List (V S))(s:bg S){ω:Type}(k kp:V S->bg S->Option ω)(r:ω),call (.fn f) args s k kp=Z r->∀(g:Gh)(w:World)(vs:Array Value),aV g (aC s) w->PW (aH g w) (bu args) vs.toList->
  mo P f∧Calls P f vs w (CE s g w k kp r)
 jn:alv P call
 yl:∀(o:Nat)(args:List (V S))(s:bg S){ω:Type}(k kp:V S->bg S->Option ω)(r:ω),call (.yl o) args s k kp=Z r->∀(g:Gh)(w:World)(vs:Array Value)(b:Nat),aV g (aC s) w->PW (aH g w) (bu args) vs.toList->g.bP o=Z b->
  ∃l:Loop,w.heap[b]?=Z (.loop l)∧vs.size=l.params.size∧∀rr n,RoundIn (WR rr) n P b l.fn ((l.params.zip vs).foldl (λtmps(t,a)=>tmps.setIfInBounds t a) l.tmps) l.assign l.body w (CE s g w k kp r)
 yd:∀(o:Nat)(args:List (V S))(s:bg S){ω:Type}(k kp:V S->bg S->Option ω)(r:ω),call (.yd o) args s k kp=Z r->∀(g:Gh)(w:World)(vs:Array Value)(b:Nat),aV g (aC s) w->PW (aH g w) (bu args) vs.toList->g.bP o=Z b->
  ∃l:Loop,w.heap[b]?=Z (.loop l)∧vs.size=l.params.size∧∀rr n,RoundIn (WR rr) n P b l.fn ((l.params.zip vs).foldl (λtmps(t,a)=>tmps.setIfInBounds t a) l.tmps) l.assign l.body w (xW s g w k kp r)
theorem oI{α:Type}{c:Bool}{x:O α}{r:α}(h:aO c x=Z r):c=W∧x=Z r:=by
 unfold aO at h
 grind
theorem s7{α:Type}{c:Bool}{x y:O α}{r:α}(h:aj c x y=Z r):(c=W∧x=Z r)∨(c=J∧y=Z r):=af h
def r7{f:V S}{as:L (V S)}{id:FuncId}(h:pW f args=Z (id,as)):xQ (low f) (bu args)=Z (id,bu as):=by
 unfold pW at h;split at h
 .obtain ⟨rfl,rfl⟩:=h;simp[low,xQ,kB]
 .cases h
section
variable {g:Gh}{w:World}
theorem gW{p:V S->Bool}{q:T->Bool}(a:∀v,q (low v)=p v)(b:∀o e,p (.sh o e)=p (.sh o 0)):∀l:L (sU S),iF q (l.map mF) ((l.map (eH p)).map mF)
 |[]=>.nil|.marks o::l=>by have d:=gW a b l;simp only[pz,eH];cases c:p (.sh o 0)with|true=>exact .aeL o d|false=>exact .marks o (λe=>((a (.sh o e)).trans (b o e)).trans c) d
 |.kK::l=>.kK (gW a b l)|.call f args::l=>.cons (by
   simp[eH];cases c:p f||args.any p with
   |true=>exact .inl ⟨rfl,rfl⟩|false=>
    simp only[zd,List.any_eq_false]at c;refine .inr ⟨rfl,by simp_all,λt g=>?_⟩;rw[e9,zc]at g
    grind) (gW a b l)
 |.mark o::l=>.cons (by
   simp[eH];cases c:p (.ptr o 0)with
   |true=>exact .inl ⟨rfl,rfl⟩|false=>exact .inr ⟨rfl,(a (.ptr o 0)).trans c⟩) (gW a b l)
 |.bad::l=>.cons (.inr ⟨rfl,trivial⟩) (gW a b l)
theorem n8{ow:L Nat}{fr:bU S}{a:Act}{g':Gh}{w':World}{s s':bg S}(hf:cQ g (bH fr) a w)(h:cO ow s g w s' g' w'):cQ g' (bH (dx ow fr)) a w':=by
 refine⟨?_,?_,λk t r=>?_⟩
 .cases ow<;>exact hf.size
 .cases ow with
  |nil=>
   have i:∀t:T,dn [] t=J:=by
    intro t
    induction t using T.rec (motive_2:=λl=>iM [] l=J)with|fn f a b d j=>simp[dn,d,j]|di t v e=>simp[dn,e]|agg p e=>simp[dn,e]|gT p e=>simp[dn,e]|gd c v e=>simp[dn,e]|nil=>rfl|cons a l d m=>simp[iM,d,m]|_=>simp[dn]
   refine hf.df.imp (λt v x=>h.tr t v x (i t)) λo b y=>?_;have:=h.tr _ _ (.ptr o 0 b y) (i _);cases this with|ptr _ _ _ q=>exact q
  |cons o ow=>exact(gW (λv=>kT _ v) (λ_ _=>rfl) fr.df).rel h.tr hf.df
 .rw[bT,fV]at r;obtain⟨v,z,rfl⟩:=r;have n:fr.get k=Z v∧dn ow (low v)=J:=by
   cases ow with
   |nil=>
    refine⟨z,?_⟩;have:∀t:T,dn [] t=J:=by
     intro t;have key:(∀t:T,dn [] t=J):=by
      intro t
      induction t using T.rec (motive_2:=λl=>iM [] l=J)with|fn f a b d j=>simp[dn,d,j]|di t v e=>simp[dn,e]|agg p e=>simp[dn,e]|gT p e=>simp[dn,e]|gd c v e=>simp[dn,e]|nil=>rfl|cons a l d m=>simp[iM,d,m]|_=>simp[dn]
     exact key t
    exact this _
   |cons o ow=>
    grind[dx,bU.get,Tr.oC,Option.filter_eq_some_iff,kT]
  let ⟨u,A,B⟩:=hf.tm k (low v) (by rw[bT,n.1];rfl)
  exact⟨u,A,h.tr _ _ B n.2⟩
theorem Sw{E:eO S}(b:fC E){fr:bU S}{s s':bg S}{a:Act}(hf:cQ g (bH fr) a w)(hs:aV g (aC s) w)(o:Oper){c:Bool}{t:V S}(h:Ap E.T fr s o.op=Z (c,t,s'))(e:c=W) :
  ∃v w' g',((execOp a.eval o).run E.T.E.P w=.ok (.value v) w'∨((execOp a.eval o).run E.T.E.P w=.ok .skip w'∧v=undef))∧aH g' w' (low t) v∧cO [] s g w s' g' w':=by
 unfold Ap at h;split at h
 .rename_i r d;cases h;exact aaY b.sg b.TJ b.ty hf hs o d e
 .split at h
  .rename_i d;cases h
   let ⟨p,f,j⟩:=Ng b.sg b.ty d e
   let ⟨⟨v,w',g',k,i,l,m⟩,h1,h2,h3⟩:=nK b.TJ hf hs o f j
   exact⟨v,w',g',k,m,cO.lq hs i l h1 h2 h3 (W8 d)⟩
  .exact aaW b.sg b.TJ b.ty b.x hf hs o h e
def VN(s:bg S)(g:Gh)(w:World){ω:Type}(k:V S->bg S->L Nat->O ω)(kp:V S->bg S->O ω)(r:ω):Ending->World->Prop
 |.returned v,b=>∃t c d e,k t c e=Z r∧aH d b (low t) v∧cO e s g w c d b|.panicked chain,b=>∃v t c d,chain=[{v,recovered:=J}]∧kp t c=Z r∧aH d b (low t) v∧cO [] s g w c d b|.outgrown,_=>False
def Nm{s:bg S}{o:Nat}:∀{n:Nat},o<n->s.lo<=o->(s.ob.get o).any jY=J->o∈Av s n
 |n+1,c,a,b=>by
  unfold Av;by_cases h:o=n
  .subst h;rw[b,MO a];exact eJ
  .have:=Nm (n:=n) (by omega) a b;cases Nl s.lo n&&!((s.ob.get n).any jY)
   .exact this
   .exact ic _ this
def eL.ac3{s':bg S}{g':Gh}{w':World}(hs:aV g (aC s) w)(h:eL s g w s' g' w'):cO (Av s s.aD) s g w {s' with wr:=Av s s.aD++s'.wr,dr:=Av s s.aD++s'.dr} g' w':=by
 have l:j6 g.bp w w':=λb i=>h.ext.heap b (hs.bp b i) (λo _ m=>m.1 i);refine⟨h.rel,h.ext,h.fl,h.lo,h.aD,λo a=>eY _ (h.ua o a),λo a d=>h.same o a λf=>d (eY _ f),λt v q f=>?_,λo a=>fU _ a,λo a=>eY _ (h.GJ o a),λo a=>fU _ a⟩;refine q.on (p:=(Av s s.aD).contains) ⟨λo b _ e=>h.ext.bP o b e,λo e x j k=>h.ext.arr o e x ?_ k,h.ext.bp⟩ l (by rw[SD];exact f);refine Nat.lt_of_not_le λr=>?_;have c:(s.ob.get o).any jY=J:=by
  cases a:s.ob.get o with
  |none=>rfl|some ob=>
   cases c:jY ob with|false=>exact c|true=>exact(Am c ((hs.arr o e x k).2 _ (by rw[aJ,a];rfl))).elim
 have:=Nm (n:=s.aD) (hs.lt' k) r c;rw[List.contains_iff_mem.2 this]at j;cases j
def AP(m:fC E){call:gn S}(b:gO E.T.E.P call)(hs:aV g (aC s) w){f:FuncId}{ω:Type}{kp:V S->bg S->O ω}{k:V S->bg S->L Nat->O ω}{r:ω}
  (h:uM E call s f args kp k=Z r) {vs:Array Value} (d:PW (aH g w) (bu args) vs.toList):mo E.T.E.P f∧Calls E.T.E.P f vs w (VN s g w k kp r):=by
 unfold uM at h;split at h
 .rename_i j
  let ⟨a,i⟩:=Dn m.sg (m.Iq _ _ j) hs d h
  refine⟨a,i.mono λe n c=>?_⟩;cases e with|returned v=>exact c|panicked o=>exact c|outgrown=>exact c.elim
 split at h
 .let ⟨a,i⟩:=Va m.sg b.jn hs h d
  refine⟨a,i.mono λe n c=>?_⟩;cases e with|returned v=>exact c|panicked o=>exact c.elim|outgrown=>exact c.elim
 obtain⟨_,h⟩|⟨_,h⟩:=af h
 .let ⟨a,i⟩:=b.jn _ _ _ _ _ _ h g w _ hs d
  refine⟨a,i.mono λe n c=>?_⟩;cases e with
  |returned v=>
   let ⟨t,p,l,h1,h2,h3⟩:=c
   exact⟨t,_,l,_,h1,h2,h3.ac3 hs⟩
  |panicked o=>obtain⟨v,t,p,l,_,h1,_⟩:=c;cases h1
  |outgrown=>exact c.elim
 .let ⟨a,i⟩:=b.fn _ _ _ _ _ _ h g w _ hs d
  refine⟨a,i.mono λe n c=>?_⟩;cases e with
  |returned v=>
   let ⟨t,p,l,h1,h2,h3⟩:=c
   exact⟨t,p,l,[],h1,h2,h3⟩
  |panicked o=>exact c|outgrown=>exact c.elim
theorem Dm{E:eO S}{call:gn S}{s:bg S}{m:String}{args:L (V S)}{n:Nat}{x:den S.A (.di n)}{ω:Type}{kp:V S->bg S->O ω}{k:V S->bg S->L Nat->O ω}{r:ω}:∀{l:L (TypeId×Ty)}{j:Nat},
  Ym E call s m args n x kp k l j=Z r->∃i t f,mG (S.alts n) i (S.uG n x)=W∧((nth (S.alts n) i).elim 0 (·.1))=t∧E.T.KC t m=Z f∧uM E call s f (.ty (ny (S.alts n) i) (kF S.zero (S.alts n) i (S.uG n x))::args) kp k=Z r
 |[],j,h=>by cases h
 |p::l,j,h=>by
  obtain⟨a,h⟩|⟨_,h⟩:=s7 h
  .split at h
   .obtain ⟨b,h⟩|⟨_,h⟩:=af h
    .grind[Nat.eq_of_beq_eq_true]
    .cases h
   .cases h
  .exact Dm h
def GD:∀(l:L (TypeId×Ty))(i:Nat)(x:ye S.A l),mG l i x=W->uN S l x=Z ((nth l i).elim 0 (·.1),enc S (ny l i) (kF S.zero l i x))
 |[],_,_,h=>by cases h
 |p::l,0,.inl y,_=>rfl|p::l,0,.inr y,h=>by cases h
 |p::l,i+1,.inl y,h=>by cases h
 |p::l,i+1,.inr y,h=>GD l i y h
theorem yA{P:Program}{o:Oper}{c:Call}(e:o.op=.call c){d:Operand}(f:c.callee=.value d){a:Act}{b:Nat}(g:a.eval d=.func (.yield b) #[] #[]){w:World}{l:Loop}(hl:w.heap[b]?=Z (.loop l))(hs:(c.args.map a.eval).size=l.params.size) :
  (execOp a.eval o).run P w=.ok (.round b l.fn ((l.params.zip (c.args.map a.eval)).foldl (λtmps(t,a)=>tmps.setIfInBounds t a) l.tmps) l.assign l.body) w:=by
 grind[execOp,resolve,Deferred.ofValue,invoke,run_yield]
theorem It{E:eO S}(F:fC E){call:gn S}(wD:gO E.T.E.P call){fr:bU S}{s:bg S}{a:Act}(hf:cQ g (bH fr) a w)(hs:aV g (aC s) w){o:Oper}{ω:Type}{kp:V S->bg S->O ω}{k:V S->bg S->L Nat->O ω}{r:ω}
  (h:uK E call o fr s kp k=Z r) {K:Act->World->Prop} {Q:Exit->Act->World->Prop} (hK:∀t s' g' ow v w',k t s' ow=Z r->cO ow s g w s' g' w'->aH g' w' (low t) v->K (a.put o.dst v) w')
  (hP:∀t s' g' v w',kp t s'=Z r->cO [] s g w s' g' w'->aH g' w' (low t) v->Q (.panic [{v,recovered:=J}]) a w') (hny:∀c fv oo,o.op=.call c->c.callee=.value fv->cD fr fv≠Z (.rJ oo)) :
  o.wp E.T.E.P a w K Q∨(o.asks E.T.E.P a w∧LetsOut Q):=by
 have fin:∀{t:V S}{s':bg S}{v:Value}{w':World}{g':Gh},k t s' []=Z r->((execOp a.eval o).run E.T.E.P w=.ok (.value v) w'∨((execOp a.eval o).run E.T.E.P w=.ok .skip w'∧v=undef))->aH g' w' (low t) v->cO [] s g w s' g' w'->o.wp E.T.E.P a w K Q:=by
  intro t s' v w' g' hk R ht b;unfold Oper.wp;obtain R|⟨R,rfl⟩:=R
  .rw[R];exact hK t s' g' [] v w' hk b ht
  .rw[R];exact hK t s' g' [] undef w' hk b ht
 have plain:(match eX E.T fr s o.op with
   |some (Vr,p,d,s')=>yN (λv s=>k v s []) (aO p (k d s' [])) Vr|none=>match Ap E.T fr s o.op with
    |none=>Y|some (p,t,s')=>aO p (k t s' []))=Z r->o.wp E.T.E.P a w K Q:=by
  intro h;split at h
  .rename_i p d s' B
   let ⟨t,s1,v,w',g',h1,h2,h3,h4,_⟩:=Sy F.TJ F.x hf hs o B (X:=λv s=>k v s []) h
   grind
  grind[oI,Sw]
 have called:∀{f:FuncId}{args:L (V S)}{vs:Array Value},uM E call s f args kp k=Z r->PW (aH g w) (bu args) vs.toList->(mo E.T.E.P f->(execOp a.eval o).run E.T.E.P w=.ok (.enter f vs) w)->o.wp E.T.E.P a w K Q:=by
  intro f args vs h I hrun
  let ⟨NJ,hc⟩:=AP F wD hs h I
  unfold Oper.wp;rw[hrun NJ];refine hc.mono λe w' he=>?_;cases e with
  |returned v=>
   let ⟨t,s',g',ow,h1,h2,h3⟩:=he
   grind
  |panicked ch=>
   obtain⟨v,t,s',g',rfl,h1,h2,h3⟩:=he
   grind
  |outgrown=>exact he.elim
 unfold uK at h;split at h
 .rename_i c B;split at h
  .cases h
  .rename_i args A;have P:=gZ A;have pP:=e8 hf P;split at h
   .rename_i hb;split at h
    .cases h
    .rename_i t s' C
     let ⟨hp,hk⟩:=oI h
     unfold lU at C;split at C
     .rename_i r0 h0;cases C;exact GW F.sg F.TJ F.env F.ty hf hs B hb A h0 hp (λg' v w' b ht=>hK t s' g' [] v w' hk b ht)
     split at C
     .rename_i r0 h0;cases C
      let ⟨q,hq,hqp⟩:=yM F.sg F.ty h0 hp
      refine yL F.env hf hs B hb P hq hqp (k:=λt' st'=>t'=low t∧st'=aC s') ⟨rfl,rfl⟩ (λt' st' g' v w' he b ht=>?_);obtain⟨rfl,rfl⟩:=he;exact hK t s' g' [] v w' hk (cO.lq hs b.rel b.ext b.fl b.lo b.aD (Iw h0)) ht
     .split at C
      .rename_i h0;cases C;obtain⟨rfl,v,R,ht⟩:=A3 F.x hs hf B hb A h0
       grind[cO.refl]
      .let ⟨v,w',g',R,ht,b⟩:=Li F.x hs hf B hb A C
       grind
   .rename_i fv hfv;split at h
    .simp_all[ahs]
    split at h
    .cases h
    .rename_i f args' hfa
     left
     simp[vL]at hfa
     let ⟨tf,htf,KU⟩:=hfa
     have XQ:=bQ hf (cC htf);have z:=r7 KU;unfold xQ at z;split at z
     .rename_i NC
      simp only[gR,fE]at z;obtain⟨rfl,afI⟩:=z;rw[NC]at XQ;generalize hvf:a.eval fv=vf at XQ;cases XQ with
      |fn _ _ _ va vc l1 l2 r1 r2=>
      have I:PW (aH g w) (bu args') (va++c.args.map a.eval++vc).toList:=by rw[<-afI];simp only[T6,Se];exact PW.append (PW.append ⟨by simpa using l1,λj x y h1 h2=>r1 j x y h1 (by simpa using h2)⟩ pP) ⟨by simpa using l2,λj x y h1 h2=>r2 j x y h1 (by simpa using h2)⟩
      grind[Ah]
     .cases z
   .rename_i x m hxm;have inv:∀{tt:TypeId}{f:FuncId}{tv:V S}{u:Value},a.eval x=.iface tt u->aH g w (low tv) u->E.T.KC tt m=Z f->uM E call s f (tv::args) kp k=Z r->o.wp E.T.E.P a w K Q:=by
     intro tt f tv u hv hu hm h;have I:PW (aH g w) (bu (tv::args)) (#[u]++c.args.map a.eval).toList:=by
      simp only[T6,Se];exact PW.append (l:=[low tv]) (m:=[u]) ⟨rfl,λj x y h1 h2=>by
       grind⟩ pP
     exact called h I (λNJ=>Mz F.x B hxm hv hm NJ)
    split at h
    .rename_i tt tv hx;split at h
     .rename_i f hm;have R:=bQ hf (cC hx);generalize hv:a.eval x=v at R;cases R with|di _ _ u hu=>grind
     .cases h
    .rename_i n y hx
     let ⟨i,t,f,h1,h2,h3,h4⟩:=Dm h
     have he:=GD _ _ _ h1;obtain⟨he',_⟩|⟨t',d,u,he',hv,hd⟩:=EA F.sg (show aH g w (eg S (.di n) y) (a.eval x)from cR hf hx)
     .simp_all
     .rw[he']at he;simp at he;obtain⟨ht,rfl⟩:=he;rw[h2]at ht;subst ht;exact .inl (inv (tv:=.ty (ny (S.alts n) i) (kF S.zero (S.alts n) i (S.uG n y))) hv (ug hd) h3 h4)
    .cases h
 .rename_i x B;split at h
  .rename_i tt tv hx
   left
   have R:=bQ hf (cC hx);unfold Oper.wp;generalize hv:a.eval x=v at R;cases R with
   |di _ _ u hu=>
   have:(execOp a.eval o).run E.T.E.P w=.halt (.panic (.iface tt u)) w:=by
    simp_all[execOp,Instr.panic]
   rw[this];exact hP _ _ g _ w h (cO.refl hs) (by exact .di _ _ _ hu)
  .cases h
 grind
theorem AM{E:eO S}(R:fC E){call:gn S}(f:gO E.T.E.P call){fr:bU S}{s:bg S}{a:Act}(hf:cQ g (bH fr) a w)(hs:aV g (aC s) w){o:Oper}{ω:Type}{kp:V S->bg S->O ω}{k:V S->bg S->L Nat->O ω}{r:ω}
  (h:uK E call o fr s kp k=Z r) {K:Act->World->Prop} {Q:Exit->Act->World->Prop} (F:∀t s' g' ow v w',k t s' ow=Z r->cO ow s g w s' g' w'->aH g' w' (low t) v->K (a.put o.dst v) w')
  (hP:∀t s' g' v w',kp t s'=Z r->cO [] s g w s' g' w'->aH g' w' (low t) v->Q (.panic [{v,recovered:=J}]) a w') {rr:O Nat} (B:rr≠Y->∀c,o.op≠.defer c) :
  Zo rr E.T.E.P o a w K Q:=by
 by_cases I:∃c q A,o.op=.call c∧c.callee=.value q∧cD fr q=Z (.rJ A);rotate_left
 .exact .of_wp B (It R f hf hs h F hP λc q A h1 h2 h3=>I ⟨c,q,A,h1,h2,h3⟩)
 let ⟨c,q,A,i,j,u⟩:=I
 unfold uK at h;rw[i]at h;dsimp only at h;split at h
 .cases h
 rename_i args m;rw[j]at h;dsimp only at h;rw[u]at h;have x:=e8 hf (gZ m);have y:=bQ hf (cC u);generalize z:a.eval q=vf at y;cases y with
 |rJ _ b P=>
 obtain⟨_,h⟩|⟨_,h⟩:=af h
 .let ⟨l,C,n,d⟩:=f.yd _ _ _ _ _ _ h g w (c.args.map a.eval) b hs (by simpa using x) P
  left
  rw[Oper.semAt_eq _ _ _ (by simp_all),yA i j z C n];refine⟨λh=>by simp[Fence.wide]at h,(d rr _).mono λe w' p=>?_⟩;cases e with
  |returned v=>
   let ⟨t,s',g',h1,h2,h3⟩:=p
   exact F _ _ _ _ _ _ h1 (h3.ac3 hs) h2
  |panicked ch=>obtain⟨v,t,s',g',rfl,h1,h2,h3⟩:=p;cases h1
  |outgrown=>exact p.elim
 let ⟨l,C,n,d⟩:=f.yl _ _ _ _ _ _ h g w (c.args.map a.eval) b hs (by simpa using x) P
 left
 rw[Oper.semAt_eq _ _ _ (by simp_all),yA i j z C n];refine⟨λh=>by simp[Fence.wide]at h,(d rr _).mono λe w' p=>?_⟩;cases e with
 |returned v=>
  let ⟨t,s',g',h1,h2,h3⟩:=p
  grind
 |panicked ch=>
  obtain⟨v,t,s',g',rfl,h1,h2,h3⟩:=p
  grind
 |outgrown=>exact p.elim
mutual
theorem tD:∀(s:bg S)(t:Ty)(v:V S){x:den S.A t}{os:L Nat},vO v=W->bS s t v=Z (x,os)->os=[]
 |s,t,.ty u y,x,os,_,h=>by
  grind[bS]
 |s,t,.agg e,x,os,c,h=>by
  cases t with
  |st n=>
   simp[bS]at h;split at h
   .rename_i f g;obtain⟨_,rfl⟩:=h;exact Jc s _ e c g
   .cases h
  |_=>simp[bS]at h
 |s,t,.kb b,x,os,_,h=>by
  cases t<;>simp[bS]at h
  simp_all
 |s,t,.kn k n,x,os,_,h=>by
  cases t<;>simp only[bS]at h<;>try(cases h;done)
  grind
 |s,t,.emp,x,os,_,h=>by
  cases t<;>simp[bS]at h
  simp_all
 |s,t,.kM n u l,x,os,_,h=>by
  cases t<;>simp only[bS]at h<;>try(cases h;done)
  grind
 |s,t,.pU n u y,x,os,_,h=>by
  cases t<;>simp only[bS]at h<;>try(cases h;done)
  grind
 |s,t,.sy _ _ _ _,x,os,c,_=>by simp[vO]at c
 |s,t,.sh _ _,x,os,c,_=>by simp[vO]at c
 |s,t,.dat d,x,os,_,h=>by
  cases t with
  |di n=>
   cases d with
   |lit v=>cases v<;>simp[bS]at h;simp_all
   |_=>simp[bS]at h
  |opt n=>
   cases d with
   |lit v=>cases v with
    |pointer a=>cases a<;>simp[bS]at h;simp_all
    |_=>simp[bS]at h
   |_=>simp[bS]at h
  |_=>simp[bS]at h
 |s,t,.mp _,_,_,_,h=>by cases t<;>simp[bS]at h
 |s,t,.rJ _,_,_,_,h=>by cases t<;>simp[bS]at h
 |s,t,.ud _,_,_,_,h=>by cases t<;>simp[bS]at h
 |s,t,.ub _,_,_,_,h=>by cases t<;>simp[bS]at h
 |s,t,.ptr _ _,_,_,_,h=>by cases t<;>simp[bS]at h
 |s,t,.mc _ _ _,_,_,_,h=>by cases t<;>simp[bS]at h
 |s,t,.l9 _ _ _ _,_,_,_,h=>by cases t<;>simp[bS]at h
 |s,t,.fn _ _ _,_,_,_,h=>by cases t<;>simp[bS]at h
 |s,t,.di u v,x,os,c,h=>by
  cases t<;>simp only[bS]at h<;>try(cases h;done)
  split at h
  .split at h
   .rename_i i;obtain⟨_,rfl⟩:=h;exact tD s _ v c i
   .cases h
  .cases h
 |s,t,.gT _,_,_,_,h=>by cases t<;>simp[bS]at h
 |s,t,.gd _ _,_,_,_,h=>by cases t<;>simp[bS]at h
theorem Jc:∀(s:bg S)(ts:L Ty)(l:L (V S)){h:l7 S.A ts}{os:L Nat},j0 l=W->oe s ts l=Z (h,os)->os=[]
 |s,[],[],x,os,_,h=>by grind[oe]
 |s,t::ts,v::l,x,os,a,h=>by
  simp[oe]at h;split at h
  .rename_i b c;obtain⟨_,rfl⟩:=h;simp[j0,fF]at a;rw[tD s t v a.1 b,Jc s ts l a.2 c];rfl
  .cases h
 |s,[],_::_,_,_,_,h=>by simp[oe]at h
 |s,_::_,[],_,_,_,h=>by simp[oe]at h
end
end
end
section
def qJ:Op->Bool
 |.alloc _|.box ..|.store ..|.buildSlice ..|.slice ..|.makeMap ..|.mapUpdate ..|.insert ..|.makeSlice ..|.range ..|.next ..|.defer ..=>W|_=>J
theorem PF{E:gm}{fr:bU S}{s s':bg S}{o:Op}{c:Bool}{v:V S}(h:cH E fr s o=Z (c,v,s'))(d:qJ o=J):s'=s:=by
 cases o with
 |alloc=>cases d
 |box=>cases d
 |store=>cases d
 |buildSlice=>cases d
 |slice=>cases d
 |move x=>simp only[cH,fV,fE]at h;grind|assign x=>simp only[cH,fV,fE]at h;grind|pick x y z=>
  simp[cH]at h;split at h
  .simp only[fV,fE]at h;grind
  .cases h
 |build t e=>
  simp[cH]at h;split at h
  .split at h
   .simp only[fV,fE]at h;grind
   .cases h
  .cases h
 |load t x=>
  simp[cH]at h;split at h
  .unfold yF at h;split at h
   .split at h
    .obtain ⟨_,h⟩|⟨_,h⟩:=af h
     .simp only[fV,fE]at h;grind
     .cases h
    .cases h
   .simp only[fV,fE]at h;grind
   .split at h
    .simp at h;grind
    .cases h
   .cases h
  .cases h
 |nilCheck x=>
  simp[cH]at h
  grind
 |binOp op t x y u=>
  simp[cH]at h;split at h
  .simp only[fV,fE]at h;grind
  .cases h
 |unOp op t x=>
  simp[cH]at h;split at h
  .simp only[fV,fE]at h;grind
  .cases h
 |convert t u x=>
  grind[cH,Ch]
 |makeInterface t x=>
  simp[cH]at h
  grind
 |makeFunc f a b=>
  simp[cH]at h
  grind
 |extract x k=>
  grind[cH,uJ]
 |fieldAddr t x k=>
  grind[cH,qY]
 |field t x k=>
  simp[cH]at h;split at h
  .unfold BY at h;split at h
   .split at h
    .obtain ⟨_,h⟩|⟨_,h⟩:=af h
     .simp only[fV,fE]at h;grind
     .cases h
    .cases h
   .cases h
  .cases h
 |indexAddr t x y=>
  simp[cH]at h;split at h
  .unfold kC at h;split at h
   .grind
   .have:=Dy h
    grind
   .cases h
  .cases h
 |index t x y=>
  simp[cH]at h;split at h
  .unfold BR at h
   grind
  .cases h
 |typeAssert x t u ok=>
  grind[cH,w6]
 |_=>simp[cH]at h
theorem Uj{E:gm}{fr:bU S}{s s':bg S}{o:Op}{c:Bool}{v:V S}(h:uc E fr s o=Z (c,v,s'))(a:qJ o=J):s'=s:=by
 unfold uc at h;split at h
 .cases a
 .grind
 .cases a
 .cases a
 .cases a
 .cases a
 .grind
 .grind
 .grind
 .grind
 .grind
 .grind
 .grind
 .split at h;rotate_left
  .cases h
  split at h;rotate_left
  .cases h
  simp only[fV,fE]at h
  grind
 .cases h
theorem Um{E:gm}{fr:bU S}{s s':bg S}{o:Op}{c:Bool}{v:V S}(h:Bp E fr s o=Z (c,v,s'))(a:qJ o=J):s'=s:=by
 unfold Bp at h;split at h
 .grind
 .split at h
  .split at h
   .split at h
    .obtain ⟨_,h⟩|⟨_,h⟩:=af h
     .obtain ⟨_,h⟩|⟨_,h⟩:=af h
      .grind
      .obtain ⟨_,h⟩|⟨_,h⟩:=af h
       .simp at h;grind
       .cases h
     .cases h
    .cases h
   .cases h
  .cases h
 .cases a
 .cases a
 .cases a
 .cases h
theorem Ul{E:gm}{fr:bU S}{s s':bg S}{o:Op}{c:Bool}{v:V S}(h:Ap E fr s o=Z (c,v,s'))(a:qJ o=J):s'=s:=by
 grind[Ap,Um,PF,Uj]
theorem Es{E:gm}{fr:bU S}{s:bg S}{o:Op}(h:uc E fr s o=Y)(hn:Bp E fr s o=Y):Ap E fr s o=cH E fr s o:=by
 grind[Ap]
def Tg{ω:Type}(k:V S->O ω)(d:O ω):∀l:L (Bool×V S×bg S),w8 k d l=yN (λv _=>k v) d l
 |[]=>rfl|p::l=>by simp[w8,yN,Tg k d l]
theorem FF{l:L (Nat×V S)}(h:j0 (l.map (·.2))=W):∀p∈l,vO p.2=W:=by
 induction l with
 |nil=>simp_all|cons a l b=>
  simp[pz,j0,fF]at h
  grind
theorem Cd{s:bg S}{e:Ty}:∀{ps:L (Nat×V S)}{es r:L (den S.A e)}{os:L Nat},(∀p∈ps,vO p.2=W)->oQ s e es ps=Z (r,os)->os=[]
 |[],es,r,os,_,h=>by grind[oQ]
 |(k,v)::ps,es,r,os,a,h=>by
  simp[oQ]at h;split at h
  .cases h
  .rename_i b;obtain⟨_,h⟩|⟨_,h⟩:=af h
   .split at h
    .rename_i c;obtain⟨_,rfl⟩:=h;rw[tD s e v (a _ eJ) b,Cd (λp d=>a p (ic _ d)) c];rfl
    .cases h
   .cases h
theorem Cn{E:gm}{fr:bU S}{s s':bg S}{t:TypeId}{n:Nat}{ps:Array (Nat×Operand)}{l:L (Nat×V S)}{c:Bool}{v:V S}(hl:ja fr ps.toList=Z l)(hn:j0 (l.map (·.2))=W)
  (h:Ap E fr s (.buildSlice t n ps)=Z (c,v,s')):s'=s:=by
 cases a:Bp E fr s (.buildSlice t n ps)with
 |some r=>
  simp[Ap,a,gR]at h;simp[Bp]at a;split at a
  .rename_i b;split at a
   .rename_i i j f _ _ g;split at a
    .split at a
     .obtain ⟨_,a⟩|⟨_,a⟩:=af a
      .split at a
       .rename_i os k;have d:l=[(0,.agg f)]:=by
         grind[ja,cD]
        subst d;simp[pz,List.map_nil,j0,Pw]at hn
        grind[tD,dR]
       .cases a
      .cases a
     .cases a
    .cases a
   .cases a
  .grind
  .cases a
 |none=>
 rw[Es rfl a]at h;simp only[cH]at h;split at h
 .rename_i _ _ b;rw[hl]at b;cases b;split at h
  .obtain ⟨_,h⟩|⟨_,h⟩:=af h
   .split at h
    .rename_i e;have:=Cd (FF hn) e
     grind[dR]
    .cases h
   .cases h
  .cases h
 .cases h
variable {E:gm}{fr:bU S}{s:bg S}{args:List (V S)}
def BI{t:TypeId}{x:Operand}{lo hi a:O Operand}{u:V S}(hl:cD fr x=Z u)(hn:vO u=W):Bp E fr s (.slice t x lo hi a)=Y:=by
 cases lo<;>cases hi<;>cases a<;>first
  |rfl|(
    simp only[Bp,hl];split
    .rename_i h2 _;cases h2;simp[vO]at hn
    .rfl)
theorem Mr{E:gm}{fr:bU S}{s s':bg S}{t:TypeId}{x:Operand}{lo hi b:O Operand}{u:V S}{c:Bool}{v:V S}(hl:cD fr x=Z u)(hn:vO u=W)
  (h:Ap E fr s (.slice t x lo hi b)=Z (c,v,s')):s'=s:=by
 rw[Es rfl (BI hl hn)]at h;simp[cH]at h;split at h
 .rename_i a _ _ _;rw[hl]at a;cases a;obtain rfl|h:=E1 h
  .rfl
  .have:Nc u=[]:=by cases u<;>first|rfl|simp[vO]at hn
   grind[dR]
 .cases h
theorem CV{s:bg S}:∀{ps:L Pk}{l:L (V S)}{x:gp S.A ps}{fz ow bs:L Nat},cA ps=W->j0 l=W->eM s ps l Y=Z (x,fz,ow,bs)->fz=[]∧ow=[]∧bs=[]
 |[],[],x,fz,ow,bs,_,_,h=>by
  grind[eM]
 |.one (.dat t)::ps,v::l,x,fz,ow,bs,a,c,h=>by
  simp[eM]at h;simp[j0,fF]at c;split at h
  .rename_i b d;obtain⟨_,rfl,rfl,rfl⟩:=h;obtain⟨rfl,rfl,rfl⟩:=CV (by simpa[cA]using a) c.2 d;simp[o3]at b;split at b
   .rename_i e;obtain⟨_,rfl,rfl⟩:=b;rw[tD s t v c.1 e]
    simp_all
   .cases b
  .cases h
 |.one (.own _)::_,_,_,_,_,_,a,_,_=>by simp[cA]at a
 |.one (.kz ..)::_,_,_,_,_,_,a,_,_=>by simp[cA]at a
 |.one (.nil _)::_,_,_,_,_,_,a,_,_=>by simp[cA]at a
 |.one (.ptr _)::_,_,_,_,_,_,a,_,_=>by simp[cA]at a
 |.box _::_,_,_,_,_,_,a,_,_=>by simp[cA]at a
 |.hid _::_,_,_,_,_,_,a,_,_=>by simp[cA]at a
 |[],_::_,_,_,_,_,_,_,h=>by simp[eM]at h
 |.one _::_,[],_,_,_,_,_,_,h=>by simp[eM]at h
def Fs{s:bg S}:∀{ps:L Pk}(r:iE S.A ps),cA ps=W->mw s ps [] r=Z s
 |[],_,_=>rfl|.one (.dat t)::ps,r,h=>by exact Fs (ps:=ps) r (by simpa[cA]using h)
 |.one (.own _)::_,_,a=>by simp[cA]at a
 |.one (.kz ..)::_,_,a=>by simp[cA]at a
 |.one (.nil _)::_,_,a=>by simp[cA]at a
 |.one (.ptr _)::_,_,a=>by simp[cA]at a
 |.box _::_,_,a=>by simp[cA]at a
 |.hid _::_,_,a=>by simp[cA]at a
def Me{s:bg S}:∀{cs:L Ck}(x:gH S.A cs),jU cs=W->iy s cs x=(tN cs x,s)
 |[],_,_=>rfl|.dat t::cs,x,h=>by simp only[iy,vT,tN];rw[Me (cs:=cs) x.2 (by simpa[jU]using h)]
 |.own _::_,_,h=>by simp[jU]at h
 |.kz ..::_,_,h=>by simp[jU]at h
 |.nil _::_,_,h=>by simp[jU]at h
 |.ptr _::_,_,h=>by simp[jU]at h
def Gi:∀{ps:L Pk},cA ps=W->X5 ps=J
 |[],_=>rfl|.one (.dat t)::ps,h=>Gi (ps:=ps) (by simpa[cA]using h)
 |.one (.own _)::_,a=>by simp[cA]at a
 |.one (.kz ..)::_,a=>by simp[cA]at a
 |.one (.nil _)::_,a=>by simp[cA]at a
 |.one (.ptr _)::_,a=>by simp[cA]at a
 |.box _::_,a=>by simp[cA]at a
 |.hid _::_,a=>by simp[cA]at a
def NV(hn:s.aD<=bI){c:lI S}(h1:cA c.ps=W)(h2:jU c.rs=W)(h3:j0 args=W){x:gp S.A c.ps}{fz ow bs:L Nat}(b:eM s c.ps args Y=Z (x,fz,ow,bs))
  {d:RT c.pn (gH S.A c.rs×iE S.A c.ps) (den S.A S.pt×iE S.A c.ps)} {r:gH S.A c.rs×iE S.A c.ps} (f:c.F x=Z d) (g:RT.res c.pn d=.ok r):NW s c args (λ_ _=>Y) (λt s' ow=>Z (t,s',ow))=Z (DL (tN c.rs r.1),s,[]):=by
 obtain⟨rfl,rfl,rfl⟩:=CV h1 h3 b;have a:Nl s.aD bI=W:=MO hn;unfold NW;rw[Gi h1];simp only[j9];rw[b];simp only[dR];cases Xt c with
 |true=>simp[iq,f,ah,g]|false=>
 simp[j9,sw,Cq,List.all_nil,MQ,iq,f,ah,MI,g];have e:yJ [] (forget [] s)=s:=rfl;rw[e,Fs _ h1];simp[Me _ h2,a,iq]
def Yf(g:O Bool):Prop:=g=Y∨g=Z W
def Js{α:Type}{g:O Bool}{p:Bool}{x:O α}{r:α}(a:Yf g)(h:zu g p x=Z r):p=W∧x=Z r:=by
 obtain rfl|rfl:=a
 .exact oI h
 .exact oI h
def abY{α:Type}{g:O Bool}{x:O α}{z:α}(a:Yf g):aj4 g x z=x:=by obtain rfl|rfl:=a<;>rfl
section
variable {g:Gh}{w:World}
def Lh(A:OX E.E){s':bg S}{a:Act}(hf:cQ g (bH fr) a w)(hs:aV g (aC s) w){o:Oper}{f:Call}(B:o.op=.call f)(hb:f.callee=.builtin .len)(b:kq fr f.args.toList=Z args){c:Bool}{t:V S}
  (h:m7 E s .len f.argTypes args=Z (c,t,s')):∃v,(execOp a.eval o).run E.E.P w=.ok (.value v) w∧aH g w (low t) v:=by
 have k:=e8 hf (gZ b);unfold m7 at h;split at h
 .rename_i d r _;split at h;rotate_left
  .cases h
  rename_i n j l era m g9 hole C;split at h;rotate_left
  .cases h
  rename_i i n' hi KS;split at h;rotate_left
  .cases h
  rename_i F;obtain⟨q,I⟩|⟨_,I⟩:=af h
  rotate_left
  .cases I
  simp only[fF]at q;have K:=beq_iff'.1 q.1;subst K;obtain⟨_,rfl,rfl⟩:=I;have P:aH g w (.sh d r) ((f.args.toList.map a.eval)[0]'(by have:=k.1;simp[bu]at this;simp;omega)):=k.2 0 _ _ rfl (jr _)
  let ⟨xs,u,_⟩:=E5 P
  have Q:d<bI:=iS (hs.lt' u) hs.aD
  let ⟨z,h1,h2,h3,h4⟩:=IL hs C u
  have x:(lits j (l.map (enc S (.st n))) z).length=l.length:=by rw[ot (by simpa using h1)];simp
  let ⟨_,v,y,ht⟩:=Xu A hf h4 B hb (gZ b) (p:=True) (t:=.sym (.lit (.int .i64 (eP (lits j (l.map (enc S (.st n))) z))))) (s':=mq s d (.arr (S.width (.st n)) (lits j (l.map (enc S (.st n))) z) r)) (by
   have R:(nth f.argTypes.toList 0).bind E.E.ti=Z i:=hi;simp only[bu,low,fP,z9,R,F,BA];rw[gK Q,bB rfl];simp) trivial
  refine⟨v,y,?_⟩;have e:eP (lits j (l.map (enc S (.st n))) z)=aq l:=by simp[eP,x,aq]
  rw[e]at ht;exact ht
 .rename_i h0;exact Builtin.noConfusion h0
 .rename_i h0;exact Builtin.noConfusion h0
 .cases h
theorem sG{E:eO S}(I:fC E){fr:bU S}{s:bg S}{a:Act}(hf:cQ g (bH fr) a w)(hs:aV g (aC s) w){o:Oper}{gd:O Bool}(hg:Yf gd){ω:Type}{k:V S->O ω}{r:ω}
  (h:fL E gd fr s o k=Z r) {K:Act->World->Prop} {Q:Exit->Act->World->Prop} (hK:∀t g' v w',k t=Z r->cO [] s g w s g' w'->aH g' w' (low t) v->K (a.put o.dst v) w') :
  o.wp E.T.E.P a w K Q:=by
 have plain:∀{c:Bool}{t:V S}{s':bg S},Ap E.T fr s o.op=Z (c,t,s')->s'=s->zu gd c (k t)=Z r->o.wp E.T.E.P a w K Q:=by
  intro c t s' f hss h9;subst hss
  let ⟨hp,P⟩:=Js hg h9
  let ⟨v,w',g',C,ht,wE⟩:=Sw I hf hs o f hp
  unfold Oper.wp;obtain C|⟨C,rfl⟩:=C
  .rw[C];exact hK t g' v w' P wE ht
  .rw[C];exact hK t g' undef w' P wE ht
 unfold fL at h;split at h
 .rename_i c f;split at h
  .cases h
  .rename_i args A;have B:=gZ A;split at h
   .rename_i b hb;obtain⟨hqb,h⟩|⟨_,h⟩:=af h
    rotate_left
    .cases h
    split at h
    .rename_i p t s' m
     let ⟨hp,P⟩:=Js hg h
     unfold lU at m;split at m
     .rename_i r0 h0;cases m;cases b with
      |len=>
       let ⟨v,F,ht⟩:=Lh I.env hf hs f hb A h0
       unfold Oper.wp;rw[F];exact hK t g v w P (cO.refl hs) ht
      |append=>cases hqb
      |_=>simp[m7]at h0
     split at m
     .rename_i r0 h0;cases m
      let ⟨q,hq,hqp⟩:=yM I.sg I.ty h0 hp
      cases b with
      |len=>
       let ⟨hss,v,F,ht⟩:=Xu I.env hf hs f hb B hq hqp
       unfold Oper.wp;rw[F];exact hK t g v w P (cO.refl hs) ht
      |max=>simp[iw]at h0|min=>simp[iw]at h0|_=>cases hqb
     split at m
     .rename_i h0;cases m;obtain⟨rfl,v,C,ht⟩:=A3 I.x hs hf f hb A h0;unfold Oper.wp;rw[C];exact hK t g v w P (cO.refl hs) ht
     .cases b<;>first|(cases hqb;done)|(simp[tT]at m)
    .cases h
   .rename_i fv hfv;split at h
    .cases h
    .rename_i args' hfa;split at h
     .cases h
     .rename_i ap3;obtain⟨l,h⟩|⟨_,h⟩:=af h
      .simp only[fF]at l;split at h
       .rename_i x _ _ _ b hpk hnb
        let ⟨rr,hF,P⟩:=eB h
        rw[abY hg]at hF;split at P;rotate_left
        .cases P
        rename_i r1 hr1;have hq:=NV hs.aD l.1 l.2.1 l.2.2.1 hpk hF hr1;simp[vL]at hfa
        let ⟨tf,htf,KU⟩:=hfa
        have XQ:=bQ hf (cC htf);have pP:=e8 hf B;have i:=r7 KU;unfold xQ at i;split at i
        .rename_i NC
         simp only[gR,fE]at i;obtain⟨rfl,R⟩:=i;rw[NC]at XQ;generalize hvf:a.eval fv=vf at XQ;cases XQ with
         |fn _ _ _ va vc l1 l2 r1 r2=>
         have hall:PW (aH g w) (bu args') (va++c.args.map a.eval++vc).toList:=by rw[<-R];simp only[T6,Se];exact PW.append (PW.append ⟨by simpa using l1,λj x y h1 h2=>r1 j x y h1 (by simpa using h2)⟩ pP) ⟨by simpa using l2,λj x y h1 h2=>r2 j x y h1 (by simpa using h2)⟩
         let ⟨NJ,hc⟩:=Dn I.sg (I.Iq _ _ ap3) hs hall hq
         unfold Oper.wp;rw[Ah f hfv hvf NJ];refine hc.mono λe w' he=>?_
         grind
        .cases i
       .cases h
      .cases h
   .cases h
 iterate 11
  .cases h
 .rename_i t n ps f;split at h
  .obtain ⟨hn,h⟩|⟨_,h⟩:=af h
   .grind[Cn]
   .cases h
  .cases h
 .rename_i t x lo hi mx f;split at h
  .rename_i v hv;obtain⟨hn,h⟩|⟨_,h⟩:=af h
   .grind[Mr]
   .cases h
  .cases h
 all_goals try(cases h;done)
 rename_i op h1 h2 h3 h4 h5 h6 h7 h8 h9 h10 h11 h12 h13 h14;have hmv:qJ o.op=J:=by cases f:o.op with|store x y z=>simp_all|alloc x=>simp_all|box x y=>simp_all|makeMap x y=>simp_all|mapUpdate x y z u=>grind|insert x y z u=>grind|makeSlice x y z=>simp_all|range x y=>simp_all|next x y=>simp_all|defer x=>simp_all|buildSlice x y z=>simp_all|slice x y z u v=>grind|_=>rfl
 split at h
 .rename_i Vr p d s' f;have hx:yN (λv _=>k v) (aO p (k d)) Vr=Z r:=by
   rw[<-Tg];obtain rfl|rfl:=hg
   .exact h
   .simpa[zu,imp]using h
  let ⟨t,s1,v,w',g',k1,k2,k3,k4,k5⟩:=Sy I.TJ I.x hf hs o f (X:=λv _=>k v) hx
  have:s1=s:=k5 λit b hh=>by simp_all
  subst this;unfold Oper.wp;obtain C|⟨C,rfl⟩:=k2
  .rw[C];exact hK t g' v w' k1 k4 k3
  .rw[C];exact hK t g' undef w' k1 k4 k3
 grind[Ul]
theorem Hg{ω:Type}{k:V S->O ω}{d:O ω}{r:ω}:∀{l:L (Bool×V S×bg S)},w8 k d l=Z r->(∃t,k t=Z r)∨d=Z r
 |[],h=>.inr h|p::l,h=>by
  obtain⟨_,h⟩|⟨_,h⟩:=s7 h
  .grind
  .exact Hg h
theorem La{E:eO S}{fr:bU S}{s:bg S}{o:Oper}{ω:Type}{k:V S->O ω}{r:ω}(h:fL E (Z J) fr s o k=Z r):∃t,k t=Z r:=by
 have a:∀{p:Bool}{x:O ω},zu (Z J) p x=Z r->x=Z r:=λh=>(oI h).2;unfold fL at h;split at h
 .split at h
  .cases h
  .split at h
   .grind
   .split at h
    .cases h
    .split at h
     .cases h
     .obtain ⟨_,h⟩|⟨_,h⟩:=af h
      .split at h
       .let ⟨b,_,c⟩:=eB h
        grind
       .cases h
      .cases h
   .cases h
 iterate 11
  .cases h
 .grind
 .grind
 .split at h
  .obtain h|h:=Hg h
   .exact h
   grind
  grind
end
end
section
def sI(p:Nat->Bool):sU S->Bool
 |.call f args=>cI p f||args.any (cI p)|.mark o=>cI (S:=S) p (.ptr o 0)|.marks o=>cI (S:=S) p (.sh o 0)|.kK=>W|.bad=>W
theorem oG{p q:Nat->Bool}(h:∀o,p o=W->q o=W):∀d:sU S,sI p d=W->sI q d=W
 |.call f args,a=>by
  simp[sI,pE,Sd]at a ⊢
  grind[ez]
 |.mark o,a=>h o a|.marks o,a=>h o a|.kK,_=>rfl|.bad,_=>rfl
inductive pY(p:Nat->Bool):List (sU S)->List (sU S)->Prop where
 |nil:pY p [] []|cons {d e:sU S} {l m:List (sU S)} (h:e=d∨(((e=.bad∧d.one=W)∨(e=.kK∧d.one=J))∧sI p d=W)) (t:pY p l m):pY p (d::l) (e::m)
theorem pY.refl(p:Nat->Bool):∀l:L (sU S),pY p l l
 |[]=>.nil|_::l=>.cons (.inl rfl) (pY.refl p l)
theorem pY.mono{p q:Nat->Bool}(h:∀o,p o=W->q o=W){l m:L (sU S)}(k:pY p l m):pY q l m:=by
 induction k with|nil=>exact .nil|cons c _ d=>exact .cons (c.imp id λ⟨a,b⟩=>⟨a,oG h _ b⟩) d
def pY.trans{p:Nat->Bool}:∀{l m n:L (sU S)},pY p l m->pY p m n->pY p l n
 |_,_,_,.nil,.nil=>.nil|_,_,_,.cons h t,.cons a b=>by
  refine .cons ?_ (t.trans b);obtain rfl|⟨⟨rfl,h1⟩|⟨rfl,h1⟩,h⟩:=h
  .exact a
  .obtain rfl|⟨⟨rfl,_⟩|⟨rfl,h2⟩,_⟩:=a
   .simp_all
   .simp_all
   .cases h2
  .obtain rfl|⟨⟨rfl,h2⟩|⟨rfl,_⟩,_⟩:=a
   .simp_all
   .cases h2
   simp_all
theorem pY.split{p:Nat->Bool}:∀{a b m:L (sU S)},pY p (a++b) m->∃c d,m=c++d∧pY p b d
 |[],_,m,h=>⟨[],m,rfl,h⟩|_::_,_,_,.cons _ t=>by
  let ⟨c,d,h1,h2⟩:=t.split
  grind
theorem pY.len{p:Nat->Bool}{l m:L (sU S)}(h:pY p l m):m.length=l.length:=by
 induction h with|nil=>rfl|cons _ _ a=>simp[a]
def yq(p:Nat->Bool)(l m:L (sU S)):Prop:=∃c d,m=c++d∧pY p l d
theorem yq.refl(p:Nat->Bool)(l:L (sU S)):yq p l l:=⟨[],l,rfl,.refl p l⟩
theorem pY.ok{p:Nat->Bool}{l m:L (sU S)}(h:pY p l m):yq p l m:=⟨[],m,rfl,h⟩
theorem yq.mono{p q:Nat->Bool}(h:∀o,p o=W->q o=W){l m:L (sU S)}(k:yq p l m):yq q l m:=by
 let ⟨c,d,h1,h2⟩:=k
 exact⟨c,d,h1,h2.mono h⟩
def yq.trans{p:Nat->Bool}{l m n:L (sU S)}(h:yq p l m)(k:yq p m n):yq p l n:=by obtain⟨c,d,rfl,h2⟩:=h;obtain⟨a,b,rfl,h4⟩:=k;obtain⟨x,y,rfl,h5⟩:=h4.split;exact⟨a++x,y,by rw[v5],h2.trans h5⟩
structure dW(ds:List Nat)(fr fr':bU S)(dr:List Nat)(aD:Nat):Prop where
 tm:∀k v,k∉ds->fr.get k=Z v->fr'.get k=Z v∨cI (dJ dr aD) v=W
 df:yq (dJ dr aD) fr.df fr'.df
theorem dW.refl(ds:L Nat)(fr:bU S)(dr:L Nat)(aD:Nat):dW ds fr fr dr aD:=⟨λ_ _ _ h=>.inl h,yq.refl _ _⟩
def dW.trans{ds d:L Nat}{fr fr' a:bU S}{dr c:L Nat}{aD b:Nat}(h:dW ds fr fr' dr aD)(k:dW d fr' a c b)(f:∀o∈dr,o∈c)(hn:aD<=b):dW (ds++d) fr a c aD:=by
 refine⟨λj v e g=>?_,(h.df.mono (jb f (eR _))).trans (k.df.mono (jb (λ_ h=>h) hn))⟩;simp at e;obtain h1|h1:=h.tm j v e.1 g
 .exact (k.tm j v e.2 h1).imp id (ez (jb (λ_ h=>h) hn) v)
 .exact .inr (ez (jb f (eR _)) v h1)
theorem dW.mono{ds a:L Nat}{fr fr':bU S}{dr b:L Nat}{aD:Nat}(h:dW ds fr fr' dr aD)(d:∀k∈ds,k∈a)(c:∀o∈dr,o∈b):dW a fr fr' b aD:=by refine⟨λj v e f=>?_,h.df.mono (jb c (eR _))⟩;exact(h.tm j v (λg=>e (d j g)) f).imp id (ez (jb c (eR _)) v)
def uS{p q:Nat->Bool}(a:∀o,p o=W->q o=W){f:V S->Bool}(hf:∀v,f v=cI p v):∀l:L (sU S),pY q l (l.map (eH f))
 |[]=>.nil|d::l=>by
  refine .cons ?_ (uS a hf l);cases d with
  |call g args=>
   simp[eH];cases b:f g||args.any f with
   |true=>
    refine .inr ⟨.inl ⟨rfl,rfl⟩,oG a _ ?_⟩;simp only[sI,<-hf]
    simp_all
   |false=>exact .inl rfl
  |mark o=>
   simp[eH];cases b:f (.ptr o 0)with|true=>exact .inr ⟨.inl ⟨rfl,rfl⟩,oG a _ (by simp[sI,<-hf];exact b)⟩|false=>exact .inl rfl
  |marks o=>
   simp[eH];cases b:f (.sh o 0)with|true=>exact .inr ⟨.inr ⟨rfl,rfl⟩,oG a _ (by simp[sI,<-hf];exact b)⟩|false=>exact .inl rfl
  |kK=>exact .inl rfl|bad=>exact .inl rfl
section
variable {g:Gh}{w:World}
theorem pR{ops:Array Oper}{fr:bU S}{a:Act}(hf:cQ g (bH fr) a w){o:Oper}{r:O Bool}(h:iO ops.toList fr o=Z r) :
  match r with
  |none=>Region.wanted o (yielded ops a.tmps)=W|some c=>Region.wanted o (yielded ops a.tmps)=c:=by
 unfold iO at h;split at h
 .grind[Region.wanted]
 .rename_i j f z;split at h
  .rename_i b l;simp only[vL,ku]at l
   let ⟨d,⟨m,n,q⟩,i⟩:=l
   obtain⟨v,s,u⟩:=hf.tm d (low (.kb b)) (by rw[bT,i];rfl);cases u;have k:ops[j]?=Z m:=by grind
   have x:yielded ops a.tmps j=Z b:=by simp[yielded,k,q,s]
   cases b<;>cases f<;>simp only[iq,j9,I2,MR,gR]at h<;>subst h<;>simp[Region.wanted,z,x]
  .rename_i t _ l;split at h
   .rename_i b A;simp at h;subst h
    let ⟨p,e,B⟩:=mJ A
    simp only[vL,ku]at l
    let ⟨d,⟨m,n,q⟩,i⟩:=l
    let ⟨v,s,u⟩:=hf.tm d (low t) (by rw[bT,i];rfl)
    have y:=ju e B u;subst y;have k:ops[j]?=Z m:=by grind
    have x:yielded ops a.tmps j=Z b:=by simp[yielded,k,q,s]
    simp only[Region.wanted,z,x,o7];cases b<;>cases f<;>rfl
   .cases h
  .cases h
theorem CL{ops:Array Oper}{fr:bU S}{a:Act}(hf:cQ g (bH fr) a w){o:Oper}(h:vu ops.toList fr o=W):Region.wanted o (yielded ops a.tmps)=J:=by
 unfold vu at h;split at h
 .cases h
 .rename_i j e s;split at h
  .rename_i b f;simp only[vL,ku]at f
   let ⟨d,⟨p,i,q⟩,c⟩:=f
   obtain⟨v,r,k⟩:=hf.tm d (low (.kb b)) (by rw[bT,c];rfl);cases k;have m:ops[j]?=Z p:=by grind
   have t:yielded ops a.tmps j=Z b:=by simp[yielded,m,q,r]
   cases b<;>cases e<;>first|(cases h;done)|simp[Region.wanted,s,t]
  .rename_i l f;simp only[vL,ku]at f
   let ⟨d,⟨p,i,q⟩,c⟩:=f
   obtain⟨v,r,k⟩:=hf.tm d (low (.dat (.lit (.tuple l)))) (by rw[bT,c];rfl);cases k with
   |sym _ _ n=>
   cases n
   grind[yielded,Region.wanted]
  .cases h
def Md:aH g w (low (S:=S) dU) undef:=.sym _ _ (.lit _)
def Zr(t a:V S):Prop:=a=t∨∃b,t=.ty .bool b∧a=.kb b
variable {p:Nat->Bool}{fr:bU S}{t:V S}{v:Value}{a:Act}
def Zr.rel{a:V S}(h:Zr t a)(c:aH g w (low t) v):aH g w (low a) v:=by
 obtain rfl|⟨b,rfl,rfl⟩:=h
 .exact c
 .cases c with|sym _ _ d=>cases d;exact .kb b
def TM{b:Bool}{ω:Type}{k:V S->O ω}{r:ω}(h:Ke b t k=Z r):∃c,Zr t c∧k c=Z r:=by
 obtain⟨_,a⟩|⟨_,a⟩:=af h
 .clear h;split at a
  .obtain ⟨rfl,h⟩|⟨rfl,h⟩:=s7 a
   .exact ⟨_,.inr ⟨W,rfl,rfl⟩,h⟩
   .exact ⟨_,.inr ⟨J,rfl,rfl⟩,h⟩
  .exact ⟨_,.inl rfl,a⟩
 .exact ⟨t,.inl rfl,a⟩
theorem Kc{b:Bool}{t:V S}{ω:Type}{k:V S->O ω}{r:ω}(h:Ke b t k=Z r){v:Value}(d:aH g w (low t) v):∃a,k a=Z r∧aH g w (low a) v:=by
 obtain⟨_,c⟩|⟨_,h⟩:=af h
 .clear h;split at c
  .rename_i x;have e:v=.bool x:=by cases d with|sym _ _ f=>cases f;rfl
   subst e;obtain⟨rfl,h⟩|⟨rfl,h⟩:=s7 c
   .exact ⟨_,h,.kb W⟩
   .exact ⟨_,h,.kb J⟩
  grind
 grind
theorem wG{fr:bU S}{a:Act}(hf:cQ g (bH fr) a w)(hn:fr.n<=bI){o:Op}(h:NK W fr o=W):cQ g (bH (rZ fr o)) a w∧(rZ fr o).n=fr.n:=by
 have key:∀(l:L Operand)(q:Bool)(f0:bU S),f0.n=fr.n->(q=W->cQ g (bH f0) a w)->
   l.foldl (λp x=>match x with
    |.tmp k=>match fr.get k with
     |some (.gd g _)=>p&&imp W g|_=>p
    |_=>p) q=W->
   cQ g (bH (l.foldl (λf x=>match x with
    |.tmp k=>match fr.get k with
     |some (.gd _ v)=>f.put k v|_=>f
    |_=>f) f0)) a w∧(l.foldl (λf x=>match x with
    |.tmp k=>match fr.get k with
     |some (.gd _ v)=>f.put k v|_=>f
    |_=>f) f0).n=fr.n:=by
  intro l
  induction l with
  |nil=>simp_all|cons x l s=>
   intro q f0 j t h;simp at h ⊢;cases x with
   |tmp k=>
    simp only at h ⊢;split at h
    .rename_i y v eo;refine s _ _ (by simpa[bU.put]using j) (λc=>?_) h;simp at c;have d:=t c.1;have m:y=W:=c.2;subst m
     let ⟨u,z,A⟩:=hf.tm k (low (.gd W v)) (by rw[bT,eo];rfl)
     have e:k<fr.n:=by have:=(Wt.1 z).1;rw[hf.size]at this;exact this
     refine⟨d.size,d.df,λn B b=>?_⟩;rw[bT,bU.j4 _ _ _ _ (iS e hn)]at b;by_cases i:n=k
     .subst i;rw[bB rfl]at b;simp at b;cases A with|gd _ _ _ r=>simp_all
     .rw[bO i]at b;exact d.tm n B (by rw[bT];exact b)
    grind
   |const v=>grind|global v=>grind|func v=>grind
 exact key o.operands.toList W fr rfl (λ_=>hf) h
def ur(hf:cQ g (bH fr) a w){dst:O Nat}(b:gP fr dst=W)(hn:fr.n<=bI)(c:aH g w (low t) v) :
  cQ g (bH (fr.jm dst t)) (a.put dst v) w∧(fr.jm dst t).n=fr.n:=by
 refine⟨?_,by cases dst<;>rfl⟩;rw[PT];exact U8 hf (by cases dst<;>exact b) hn c
theorem BF{fr:bU S}(hn:fr.n<=bI){dst:O Nat}(g:gP fr dst=W){ow dr:L Nat}(i:∀o∈ow,o∈dr)(aD:Nat)(t:V S):dW dst.toList fr ((dx ow fr).jm dst t) dr aD:=by
 refine⟨λk v h c=>?_,?_⟩;rotate_left
 .have e:((dx ow fr).jm dst t).df=(dx ow fr).df:=by cases dst<;>rfl
  rw[e];cases ow with
  |nil=>exact yq.refl _ _|cons o ow=>
   refine(uS (p:=(o::ow).contains) (λj a=>?_) (λv=>pL _ v) _).ok;simp only[dJ,pE,Fl,qE]at a ⊢
   grind
 have h1:(dx ow fr).get k=Z v∨cI (dJ dr aD) v=W:=by
  cases ow with
  |nil=>exact .inl c|cons o ow=>
   cases f:iT (o::ow) v with
   |true=>
    rw[pL]at f;refine .inr (ez (λo a=>?_) v f);simp only[dJ,pE,Fl,qE]at a ⊢
    grind
   |false=>
    left
    show(fr.tm.keep _).get k=Z v;rw[Tr.oC,show fr.tm.get k=Z v from c]
    simp_all
 refine h1.imp (λh1=>?_) id;cases dst with|none=>exact h1|some d=>have b:d<fr.n:=gU g;show((dx ow fr).put d t).get k=Z v;rw[bU.j4 _ _ _ _ (iS b hn),bO (by simpa using h)];exact h1
def AE(v:Value):aH g w (low (S:=S) (.gd J dU)) v:=by exact .gd _ _ _ λh=>by cases h
def tK(ow:L Nat)(fr:bU S):(dx ow fr).n=fr.n:=by cases ow<;>rfl
def Aq{ow:L Nat}{d:O Nat}(h:gP fr d=W):gP (dx ow fr) d=W:=by
 simp_all[gP,tK]
theorem sE{E:eO S}(u:fC E){call:gn S}(i:gO E.T.E.P call){ops:Array Oper}{fr:bU S}{s:bg S}{a:Act}(hn:fr.n<=bI)(hf:cQ g (bH fr) a w)(hs:aV g (aC s) w){o:Oper}{ω:Type}
  {kp:V S->bg S->O ω} {k:V S->bg S->L Nat->O ω} {r:ω} (h:pT E call ops.toList o fr s kp k=Z r) {K:Act->World->Prop} {Q:Exit->Act->World->Prop}
  (f:∀t s' ow g' v w',k t s' ow=Z r->aH g' w' (low t) v->cO ow s g w s' g' w'->K (a.put o.dst v) w')
  (z:∀t s' g' v w',kp t s'=Z r->cO [] s g w s' g' w'->aH g' w' (low t) v->Q (.panic [{v,recovered:=J}]) a w') {rr:O Nat} (j:rr≠Y->∀c,o.op≠.defer c) :
  gP fr o.dst=W∧if Region.wanted o (yielded ops a.tmps)then Zo rr E.T.E.P o a w K Q else K (a.put o.dst undef) w:=by
 obtain⟨x,h⟩|⟨_,h⟩:=af h
 rotate_left
 .cases h
 refine⟨x,?_⟩;obtain⟨l,h⟩|⟨_,h⟩:=af h
 .rw[bO (by rw[CL hf l];simp_all)];exact f _ s [] g undef w h Md (cO.refl hs)
 split at h
 .cases h
 .rename_i m;have q:=pR hf m
  grind[AM]
 .rename_i c m;have q:=pR hf m;obtain⟨_,h⟩|⟨_,h⟩:=af h
  .let ⟨b,h⟩:=oI h
   cases c with
   |true=>
    rw[bB q]
    let ⟨d,n⟩:=wG hf hn b
    exact .of_wp j (.inl (sG u d hs (.inr rfl) h (λt g' v w' p e y=>f _ s [] g' v w' p (by exact .gd _ _ _ λ_=>y) e)))
   |false=>
    rw[bO (by simp_all)]
    let ⟨t,p⟩:=La h
    exact f _ s [] g undef w p (by exact .gd _ _ _ λh=>by cases h) (cO.refl hs)
  .obtain ⟨rfl,h⟩|⟨rfl,h⟩:=s7 h
   .let ⟨b,h⟩:=oI h
    let ⟨d,n⟩:=wG hf hn b
    grind[AM]
   .rw[bO (by simp_all)];exact f _ s [] g undef w h (AE _) (cO.refl hs)
theorem Le{P:Program}{fr:bU S}{a:Act}(hf:cQ g (bH fr) a w){o:Oper}{d:sU S}(h:QE fr o=Z d) :
  o.guard=Y∧∃e,(execOp a.eval o).run P w=.ok (.defer e) w∧xo g w (mF d) e:=by
 unfold QE at h;split at h;rotate_left
 .cases h
 rename_i c r s;refine⟨r,?_⟩;split at h;rotate_left
 .cases h
 rename_i f p;split at h;rotate_left
 .cases h
 rename_i k u x args l b;simp at h;subst h;have q:=bQ hf (cC l);have i:=e8 hf (gZ b);generalize y:a.eval f=E at q;cases q with
 |fn _ _ _ m n z A B C=>
  refine⟨{target:=.fn k n,args:=m++c.args.map a.eval},?_,?_⟩
  .grind[execOp,resolve,Deferred.ofValue,run_pure]
  .exact .call (.fn k (bu u) (bu x)) (bu args) k m n (c.args.map a.eval) (.fn k _ _ m n z A B C) (by simpa using i.1) (λj t v h1 h2=>i.2 j t v h1 (by simpa using h2))
def KZ{E:eO S}(A:fC E){call:gn S}(f:gO E.T.E.P call){ops:Array Oper}{s:bg S}(hn:fr.n<=bI)(hf:cQ g (bH fr) a w)(hs:aV g (aC s) w){o:Oper}{ω:Type}
  {kp:V S->bg S->O ω} {k:bU S->bg S->O ω} {r:ω} (h:Qz E call ops.toList o fr s kp k=Z r) {K:Act->World->Prop} {Q:Exit->Act->World->Prop}
  (B:∀fr' s' g' a' w',k fr' s'=Z r->fr'.n=fr.n->cQ g' (bH fr') a' w'->eL s g w s' g' w'->dW o.dst.toList fr fr' s'.dr s.aD->K a' w')
  (C:∀t s' g' v w',kp t s'=Z r->cQ g' (bH fr) a w'->eL s g w s' g' w'->aH g' w' (low t) v->Q (.panic [{v,recovered:=J}]) a w') {rr:O Nat} (l:rr≠Y->∀c,o.op≠.defer c) :
  if Region.wanted o (yielded ops a.tmps)then Zo rr E.T.E.P o a w K Q else K (a.put o.dst undef) w:=by
 unfold Qz at h;split at h
 .rename_i d x;obtain⟨m,h2⟩|⟨_,h2⟩:=af h
  rotate_left
  .cases h2
  let ⟨F,e,n,i⟩:=Le (P:=E.T.E.P) hf x
  have I:Region.wanted o (yielded ops a.tmps)=W:=by simp[Region.wanted,F]
  rw[bB I];refine .of_wp l (.inl ?_);unfold Oper.wp;rw[n]
  let ⟨h1,h3⟩:=ur hf m hn (t:=yZ) (v:=undef) (AE _)
  have key:∀dst:O Nat,cQ g (bH (fr.jm dst yZ)) (a.put dst undef) w->cQ g (bH {(fr.jm dst yZ)with df:=d::fr.df}) (({a with defers:=e::a.defers}:Act).put dst undef) w:=by intro dst h1;cases dst with|none=>exact⟨h1.size,.cons i hf.df,h1.tm⟩|some j=>exact⟨h1.size,.cons i hf.df,h1.tm⟩
  let ⟨h4,h5⟩:=BF (ow:=[]) (dr:=s.dr) hn m (λo R=>by cases R) s.aD yZ
  exact B _ s g _ w h2 h3 (key _ h1) (eL.refl hs) ⟨h4,[d],fr.df,rfl,.refl _ _⟩
 have m:gP fr o.dst=W:=(sE A f hn hf hs h (K:=λ_ _=>True) (Q:=λ_ _ _=>True) (λ_ _ _ _ _ _ _ _ _=>trivial) (λ_ _ _ _ _ _ _ _=>trivial) l).1;refine(sE A f hn hf hs h (λt s' ow g' v w' p q b=>?_) (λt s' g' v w' p b q=>C t s' g' v w' p (n8 (ow:=[]) hf b) b.toW q) l).2;have y:=b.owd;have z:=n8 hf b
 let ⟨t,p,q⟩:=Kc p q
 let ⟨h1,h2⟩:=ur (fr:=dx ow fr) z (Aq m) (by rw[tK];exact hn) q
 exact B _ s' g' _ w' p (h2.trans (tK ow fr)) h1 b.toW (BF hn m y _ t)
theorem Dl{E:eO S}(K:fC E){call:gn S}(e:gO E.T.E.P call){ops:Array Oper}{ω:Type}{kp:bU S->V S->bg S->O ω}{kk:bU S->bg S->O ω}{r:ω}{Q:Exit->Act->World->Prop}{rr:O Nat}(q:rr≠Y->∀o∈ops.toList,∀c,o.op≠.defer c) :
  ∀(l:L Oper)(k:Nat),ops.toList.drop k=l->∀{fr:bU S}{s:bg S}{a:Act}{g:Gh}{w:World},fr.n<=bI->SZ E call ops.toList kp kk l fr s=Z r->cQ g (bH fr) a w->aV g (aC s) w->
   (∀fr' s' g' a' w',kk fr' s'=Z r->fr'.n=fr.n->cQ g' (bH fr') a' w'->eL s g w s' g' w'->dW (l.filterMap (·.dst)) fr fr' s'.dr s.aD->Q .normal a' w')->
   (∀fr' t s' g' a' v w',kp fr' t s'=Z r->fr'.n=fr.n->cQ g' (bH fr') a' w'->eL s g w s' g' w'->dW (l.filterMap (·.dst)) fr fr' s'.dr s.aD->aH g' w' (low t) v->Q (.panic [{v,recovered:=J}]) a' w')->
   xe rr E.T.E.P ops Q (List.range' k l.length) a w:=by
 intro l
 induction l with
 |nil=>intro k _ fr s a g w _ h u x y _;exact y fr s g a w h rfl u (eL.refl x) (dW.refl _ _ _ _)
 |cons o l P=>
  intro k F fr s a g w R h u x y I;have hk:ops[k]?=Z o:=by
   have:=cU (λm=>m[0]?) F
   grind
  have z:ops.toList.drop (k+1)=l:=by
   have:=cU (List.drop 1) F
   grind[List.drop_drop]
  rw[lQ,List.range'_succ];unfold xe;simp[hk];have tail:∀{fr' b:bU S}{s' d:bg S}{g':Gh}{w':World},eL s g w s' g' w'->dW o.dst.toList fr fr' s'.dr s.aD->(∀o∈s'.dr,o∈d.dr)->dW (l.filterMap (·.dst)) fr' b d.dr s'.aD->dW ((o::l).filterMap (·.dst)) fr b d.dr s.aD:=by
   intro fr' b s' d g' w' h4 h5 h6 n;have:=h5.trans n h6 h4.aD
   grind
  refine KZ K e R u x h (λfr' s' g' a' w' h1 h2 h3 h4 h5=>?_) (λt s' g' v w' h1 h2 h3 h4=>I fr t s' g' a v w' h1 rfl h2 h3 (dW.refl _ _ _ _) h4) λhr=>q hr o (by grind);exact P (k+1) z (by omega) h1 h3 h4.rel (λb d f i j A B C p n=>y b d f i j A (B.trans h2) C (h4.trans p) (tail h4 h5 p.GJ n)) (λb t d f i v' j A B C p n k6=>I b t d f i v' j A (B.trans h2) C (h4.trans p) (tail h4 h5 p.GJ n) k6)
end
end
section
def Wb(a:Act)(w:World)(c:Nat):O Value:=bif Nt c 1000000 then a.tmps[c]? else match a.tmps[Nat.div (Nat.sub c 1000000) 1000]? with
 |some (.pointer (Z b))=>match w.heap[b.block]? with
  |some (.cells d _ _)=>d[Nat.mod (Nat.sub c 1000000) 1000]?|_=>Y
 |_=>Y
theorem EZ{g:Gh}{w:World}{fr:bU S}{s:bg S}{a:Act}(hf:cQ g (bH fr) a w)(hs:aV g (aC s) w){c:Nat}{v:V S}(h:Wa fr s c=Z v):∃u,Wb a w c=Z u∧aH g w (low v) u:=by
 unfold Wa at h;unfold Wb;cases i:Nt c 1000000 with
 |true=>
  rw[i,iq]at h
  let ⟨u,e,f⟩:=hf.tm c (low v) (by rw[bT,h];rfl)
  exact⟨u,e,f⟩
 |false=>
  rw[i,j9]at h;split at h
  .rename_i o k;split at h
   .rename_i cs l;obtain⟨u,e,f⟩:=hf.tm _ (low (.ptr o 0)) (by rw[bT,k];rfl);cases f with
    |ptr _ _ b m=>
    let ⟨n,ty,p,q,d⟩:=(hs.box o b m).box (cs:=bu cs) (by rw[aJ,l];rfl)
    have h1:=Et h;have h2:∃x,n[Nat.mod (Nat.sub c 1000000) 1000]?=Z x:=by have:=(T9.1 h1).1;exact⟨_,uq (by omega)⟩
    let ⟨x,j⟩:=h2
    exact⟨x,by simp only[j9,e,p,j],d _ _ _ h1 j⟩
   .cases h
  .cases h
def aab(a:Act)(w:World)(al:L (Nat×Nat)):Prop:=∀p∈al,a.tmps[p.1]?=Wb a w p.2
theorem mz{g:Gh}{w:World}{a:Act}{s:bg S}(hs:aV g (aC s) w):∀{al:L (Nat×Nat)}{fr:bU S},(∀p∈al,p.1<bI)->aab a w al->cQ g (bH fr) a w->
  cQ g (bH (mT s al fr)) a w∧(mT s al fr).n=fr.n∧(mT s al fr).df=fr.df∧∀k,k∉al.map (·.1)->(mT s al fr).get k=fr.get k
 |[],fr,_,_,c=>⟨c,rfl,rfl,λ_ _=>rfl⟩|p::al,fr,e,f,c=>by
  have d:=e p eJ;have n:=f p eJ;simp only[mT];cases o:Wa fr s p.2 with
  |none=>
   let ⟨h1,h2,h3,h4⟩:=mz hs (fr:=fr) (λq b=>e q (ic _ b)) (λq b=>f q (ic _ b)) c
   simp_all
  |some v=>
   have h:cQ g (bH (fr.put p.1 v)) a w:=by
    refine⟨c.size,c.df,λj t i=>?_⟩;rw[bT,bU.j4 _ _ _ _ d]at i;by_cases l:j=p.1
    .grind[EZ]
    .rw[bO l]at i;exact c.tm j t (by rw[bT];exact i)
   let ⟨h1,h2,h3,h4⟩:=mz hs (fr:=fr.put p.1 v) (λq b=>e q (ic _ b)) (λq b=>f q (ic _ b)) h
   refine⟨h1,h2,h3,λk m=>?_⟩;simp only[pz,ga,not_or]at m;rw[h4 k m.2,bU.j4 _ _ _ _ d,bO m.1]
def Bi.mT{sh:Sh}{bs:L Nat}{a:Act}{gb:Gh}{j5 c:bU S}{s0 b:bg S}{w:World}{d:L fh}{e:Gh}(h:Bi [] sh bs a gb j5 s0 w d e c b){al:L (Nat×Nat)}(f:∀p∈al,p.1<bI)(g:aab a w al) :
  Bi (al.map (·.1)) sh bs a gb j5 s0 w d e (TL.mT b al c) b:=by
 let ⟨h1,h2,h3,h4⟩:=mz h.rel f g h.fr
 exact⟨h.rel,h1,h.le,h.bp,h.own,h.fl,h.lo,h.aD,h.wr,h.dr,h.ob,h.bP,h.arr,h2.trans h.n,h3.trans h.N7,λk i j=>(h4 k i).trans (h.get k (by simp) j)⟩
variable {a:Act}{w:World}{al:List (Nat×Nat)}
def xS{g:Gh}{fr:bU S}{s:bg S}(hf:cQ g (bH fr) a w)(hs:aV g (aC s) w)(h:Vt fr s al=W):aab a w al:=by
 intro p k;unfold Vt at h;rw[lB]at h;have h1:=h p k;split at h1
 .rename_i o r t u l m;rw[fF]at h1;obtain rfl:=beq_iff'.1 h1.1;obtain rfl:=beq_iff'.1 h1.2;obtain⟨v,c,d⟩:=hf.tm p.1 (low (.sh o r)) (by rw[bT,l];rfl)
  let ⟨y,e,f⟩:=EZ hf hs m
  cases d with
  |sh _ _ len cap sz x n=>
  cases f with|sh _ _ i j q z b=>rw[n]at b;cases b;rw[c,e]
 .cases h1
theorem Ov{fr:bU S}{ow:L Nat}{al:L (Nat×Nat)}(h:acD fr ow al=W){p:Nat×Nat}(a:p∈al){v:V S}(b:fr.get p.1=Z v):∃o r,v=.sh o r∧o∈ow:=by
 unfold acD at h
 grind
end
section
inductive IJ(g:Gh)(w:World):vg S->Exit->Prop where
 |rU:IJ g w .rU .normal|ext (i:Nat):IJ g w (.ext i) (.exit i)|ret:IJ g w .ret .ret|iJ (t:V S) (v:Value) (h:aH g w (low t) v):IJ g w (.iJ t) (.panic [{v,recovered:=J}])
def IF(ds:L Nat)(fr:bU S)(s:bg S)(g:Gh)(w:World){ω:Type}(Q:vg S->bU S->bg S->O ω)(r:ω)(e:Exit)(a:Act)(w':World):Prop:=
 False∨∃ex fr' s' g',IJ g' w' ex e∧Q ex fr' s'=Z r∧fr'.n=fr.n∧cQ g' (bH fr') a w'∧eL s g w s' g' w'∧dW ds fr fr' s'.dr s.aD
theorem IF.mono{ds c:L Nat}{fr tJ:bU S}{s s1:bg S}{g f:Gh}{w w1:World}{ω:Type}{Q:vg S->bU S->bg S->O ω}{r:ω}{e:Exit}{a:Act}{w':World}(hn:tJ.n=fr.n)(b:eL s g w s1 f w1)(hf:dW ds fr tJ s1.dr s.aD)
  (h:IF c tJ s1 f w1 Q r e a w'):IF (ds++c) fr s g w Q r e a w':=by
 obtain h|⟨i,d,j,k,h1,h2,h3,h4,h5,h6⟩:=h
 .exact .inl h
 .exact .inr ⟨i,d,j,k,h1,h2,h3.trans hn,h4,b.trans h5,hf.trans h6 h5.GJ b.aD⟩
def IF.ds{ds b:L Nat}{fr:bU S}{s:bg S}{g:Gh}{w:World}{ω:Type}{Q:vg S->bU S->bg S->O ω}{r:ω}{e:Exit}{a:Act}{w':World}(d:∀k∈ds,k∈b)(h:IF ds fr s g w Q r e a w'):IF b fr s g w Q r e a w':=by
 obtain h|⟨f,c,i,j,h1,h2,h3,h4,h5,h6⟩:=h
 .exact .inl h
 .exact .inr ⟨f,c,i,j,h1,h2,h3,h4,h5,h6.mono d (λ_ h=>h)⟩
theorem Uz(p:Nat->Prop)(h:∃n,p n):∃n,p n∧∀m,p m->n<=m:=by
 let ⟨n,a⟩:=h
 induction n using Nat.strongRecOn with
 |_ n b=>
  grind
theorem UK{X R B P:Type}{F:X->O (LO X R B P)}:∀{n:Nat}{x:X}{o:LO X R B P},iter F n x=Z o->∃m,n=m+1∧∃a,F x=Z a∧((∃y,a=.next y∧iter F m y=Z o)∨(a=o∧∀y,o≠.next y))
 |0,_,_,h=>by cases h
 |_+1,x,o,h=>by
  simp[iter]at h
  grind
structure xq(sh:Sh)(bs:List Nat)(j5:bU S)(s0 s:bg S)(g:Gh)(w:World)(x:gp S.A (lO sh))(a:Act)(gb:Gh)(w':World)(vals:List Value)(al:List fh)(bl:List Nat):Prop where
 rel:aV gb (aC s0) w'
 fr:cQ gb (bH j5) a w'
 pr:rE S gb.bp w' (lO sh) x vals al bl
 at_:iW a sh vals
 HW:PW (λo b=>gb.bP o=Z b) bs bl
 Xc:∀o∈bs,∀e,gb.arr o e=Y
 fresh:∀a∈al,∀b,a.at b->∀o,¬bF gb o b
 ap:xy al
 ext:oK s.lo s.fl g w gb w'
 alo:∀a∈al,∀b,a.at b->(∃o,s.fl<=o∧bF g o b)∨w.heap.size<=b
variable {w':World}
def xq.head{sh:Sh}{bs:L Nat}{j5 f:bU S}{s0 s i:bg S}{g:Gh}{w:World}{x:gp S.A (lO sh)}{a:Act}{gb:Gh}{vals:L Value}{al:L fh}{bl:L Nat}
  (c:xq sh bs j5 s0 s g w x a gb w' vals al bl) (hn:j5.n<=bI) (h:nu sh bs x j5 s0=Z (f,i)) :
  ∃j,Bi [] sh bs a gb j5 s0 w' al j f i∧oK s.lo s.fl g w j w':=by
 let ⟨j,d⟩:=wC h hn c.pr c.at_ c.HW c.Xc c.fresh c.ap c.fr c.rel
 refine⟨j,d,λo b e=>?_,λo e y q k=>?_,λb e=>?_,c.ext.size,c.ext.heap,λo b r l=>?_,λb p=>?_,c.ext.os,c.ext.output⟩
 .exact d.le.bP o b (c.ext.bP o b e)
 .exact d.le.arr o e y (c.ext.arr o e y q k)
 .exact d.le.bp b (c.ext.bp b e)
 .obtain l|⟨_,t,m,n⟩:=d.own o b l
  .exact c.ext.own o b r l
  .exact c.alo t m b n
 .rw[d.bp]at p;exact c.ext.oz b p
theorem Yz(P:Nat->Bool)(d:sU S):eH (cI P) (eH (cI P) d)=eH (cI P) d:=by
 cases d with
 |call f args=>
  simp[eH]
  grind
 |mark o=>
  simp[eH]
  grind
 |marks o=>
  simp[eH]
  grind
 |_=>rfl
def acj{P Q:Nat->Bool}(c:∀o,Q o=W->P o=W):∀{l m:L (sU S)},pY Q (l.map (eH (cI P))) m->m=l.map (eH (cI P)):=by
 intro l
 induction l with
 |nil=>intro m h;cases h;rfl
 |cons d l g=>
  intro m h;cases h with
  | @cons _ e _ _ i j=>
  rw[pz,g j]
  congr 1
  obtain rfl|⟨h1,k⟩:=i
  .rfl
  .have a:=oG c _ k;cases d with
   |call f args=>
    simp[eH]at a h1 ⊢;cases b:cI P f||args.any (cI P)with
    |true=>
     rw[b]at h1;obtain⟨h1,_⟩|⟨_,h1⟩:=h1
     .exact h1
     .cases h1
    |false=>
     simp_all[sI]
   |mark o=>
    simp[eH]at a h1 ⊢;cases b:cI (S:=S) P (.ptr o 0)with
    |true=>
     rw[b]at h1;obtain⟨h1,_⟩|⟨_,h1⟩:=h1
     .exact h1
     .cases h1
    |false=>
     simp_all[sI]
   |marks o=>
    simp[eH]at a h1 ⊢;cases b:cI (S:=S) P (.sh o 0)with
    |true=>
     rw[b]at h1;obtain⟨_,h1⟩|⟨h1,_⟩:=h1
     .cases h1
     .exact h1
    |false=>
     simp_all[sI]
   |kK=>
    obtain⟨_,h1⟩|⟨h1,_⟩:=h1
    .cases h1
    .exact h1
   |bad=>
    obtain⟨h1,_⟩|⟨_,h1⟩:=h1
    .exact h1
    .cases h1
theorem ack{g g':Gh}{w w':World}{P:Nat->Bool}(b:∀t v,aH g w t v->dF P t=J->aH g' w' t v){l:L (sU S)}{a:L Deferred}(c:eU g w ((l.map (eH (cI P))).map mF) a) :
  eU g' w' ((l.map (eH (cI P))).map mF) a:=by
 have h:=gW (S:=S) (p:=cI P) (q:=dF P) (λv=>ir P v) (λ_ _=>rfl) (l.map (eH (cI P)));have e:(l.map (eH (cI P))).map (eH (cI P))=l.map (eH (cI P)):=by
  grind[List.map_congr_left,Yz]
 rw[e]at h;exact iF.rel b h c
section
variable {sh:Sh}{bs ow ds:List Nat}{fr:bU S}{s s1:bg S}{g:Gh}{w:World}{a:Act}
theorem Te(a:∀d∈ds,d<bI)(k:Nat):(cL ds ow bs fr s1).1.get k=if k∈ds then Y else(fr.get k).filter (λv=>!(cI (dJ ow s1.aD) v)):=by
 show((ds.foldl (λt k=>t.del aM k) fr.tm).keep _).get k=_;rw[Tr.oC,Tr.oD ds _ k a];split
 .rfl
 .rfl
theorem A5(a:∀d∈ds,d<bI){k:Nat}{v:V S}(h:(cL ds ow bs fr s1).1.get k=Z v):k∉ds∧fr.get k=Z v∧cI (dJ ow s1.aD) v=J:=by
 grind[Te,Option.filter_eq_some_iff]
theorem GY(hf:cQ g (bH fr) a w)(hs:aV g (aC s) w)(C:∀d∈ds,d<bI){x:gp S.A (lO sh)}{m:Gh}{vals:L Value}{al:L fh}{bl:L Nat}
  (c:Hr sh bs a g s w x s1 ow m vals al bl):xq sh bs (cL ds ow bs fr s1).1 (cL ds ow bs fr s1).2 s g w x a (m.base (dJ ow s1.aD)) w vals al bl:=by
 have r:∀b∈bs,b<bI:=λb i=>by exact iS (c.Tb b i).2.1 hs.aD
 have n:∀o,o∉ow->o<s.aD->dJ ow s1.aD o=J:=λo h1 h2=>pJ h1 (c.aD▸h2);have l:=c.YT.owned c.pr.iL;refine⟨c.rel.base (λo q=>?_) rfl (eR _) (λo ob hpo f=>?_),⟨hf.size,(gW (λv=>ir (dJ ow s1.aD) v) (λ_ _=>rfl) fr.df).rel (λt v ht z=>(ht.ext c.ext hs.bp).on (m.gM _) (λ_ _=>rfl) z) hf.df,λk t Q=>?_⟩,c.pr,c.at_,⟨c.HW.1,λj o b h1 h2=>?_⟩,λo q e=>?_,λE F b i o A=>?_,c.ap,⟨λo b i=>?_,λo e y hl R=>?_,c.ext.bp,eR _,λ_ _ _=>rfl,λo b q A=>?_,c.ext.oz,rfl,rfl⟩,λE F b i=>?_⟩
 .simp only[dJ,pE];exact .inr (MO q)
 .rw[aJ,tV r]at f;split at f
  .cases f
  .rw[Px,fV]at f;obtain⟨B,I,rfl⟩:=f;exact⟨dc B,by rw[aJ,I];rfl,lT _ B⟩
 .rw[bT,fV]at Q;obtain⟨v,I,rfl⟩:=Q
  let ⟨_,h2,h3⟩:=A5 C I
  let ⟨u,hu,hr⟩:=hf.tm k (low v) (by rw[bT,h2];rfl)
  exact⟨u,hu,(hr.ext c.ext hs.bp).on (m.gM _) (λ_ _=>rfl) (by rw[ir];exact h3)⟩
 .have f:=iz h1;have:=c.Tb o f;exact(m.gM _).bP o b (n o this.2.2.1 this.2.1) (c.HW.2 j o b h1 h2)
 .simp only[Gh.base];split
  .exact (c.Tb o q).2.2.2 e
  .rfl
 .let ⟨h1,h2⟩:=Gh.fQ A
  let ⟨o',K,P⟩:=l E F b i
  have:=c.rel.j8 o o' b h2 P;subst this;exact(l5 h1).1 K
 .have p:=hs.lt i;exact(m.gM _).bP o b (n o (λz=>by rw[c.owb o z]at i;cases i) p) (c.ext.bP o b i)
 .have p:=hs.lt' R;exact(m.gM _).arr o e y (n o (λz=>by have:=(c.W5 o z).2.1;omega) p) (c.ext.arr o e y R)
 .obtain h|h:=c.ext.own o b (Gh.fQ A).2
  .grind
  omega
 .let ⟨o,q,A⟩:=l E F b i
  obtain h|h:=c.ext.own o b A
  .exact .inl ⟨o,(c.W5 o q).1,h⟩
  omega
theorem QW{ex:L Nat}{v:Sh}{j5:bU S}(hds:∀d∈ds,d<bI)(i:∀b∈bs,b<s1.aD∧b∉ow)(E:s1.aD<=bI)(hlo:s.lo<=s1.aD)(how:∀o∈ow,s.lo<=o)(F:∀o b,g.bP o=Z b->o<s1.aD∧o∉ow)(I:s1.lo=s.lo)(K:s1.fl=s.fl)
  {a':Act} {w':World} {al:L fh} {gb gh:Gh} {BU:bU S} {k:bg S}
  (P:oK s.lo s.fl g w gh w') (hh:Bi ex sh bs a' gb (cL ds ow bs fr s1).1 (cL ds ow bs fr s1).2 w' al gh BU k)
  {s2 n:bg S} {g2 z:Gh} {a2:Act} {C:World} (h:eL k gh w' s2 g2 C)
  {x:gp S.A (lO v)} {A:L Nat} {vals:L Value} {Q:L fh} {R:L Nat} (f:Hr v bs a2 g2 s2 C x n A z vals Q R)
  (hwr:TD s1.aD bs n.wr=W) (ajc:A.all (λo=>Nl s1.aD o)=W) (hdr:n.dr.all (λo=>Nl s1.aD o)=W) (hfr:cQ (z.base (dJ ow s1.aD)) (bH j5) a2 C) :
  xq v bs j5 (cL ds ow bs fr s1).2 s g w x a2 (z.base (dJ ow s1.aD)) C vals Q R:=by
 have l:∀b∈bs,b<bI:=λb m=>iS (i b m).1 E;have p:(cL ds ow bs fr s1).2.aD=s1.aD:=rfl;have hlen:s1.aD<=k.aD:=p▸hh.aD;have how2':∀o∈A,s1.aD<=o:=λo q=>by
  simp_all
 have hwr':∀o∈n.wr,s1.aD<=o∨o∈bs:=λo q=>by
  simp_all[TD]
 have r:=f.YT.owned f.pr.iL;have t:k.fl=s.fl:=hh.fl.trans (show(cL ds ow bs fr s1).2.fl=s.fl from K);have afr:k.lo=s.lo:=hh.lo.trans (show(cL ds ow bs fr s1).2.lo=s.lo from I);have B:oK s.lo s.fl g w g2 C:=P.trans (t▸afr▸h.ext);have X1:s2.fl=s.fl:=h.fl.trans t;have a:oK s.lo s.fl g w z C:=B.trans (X1▸f.ext.H7 s.lo);refine⟨f.rel.base (aD:=s1.aD) (λo q=>?_) rfl ?_ (λo ob hpo c=>?_),hfr,f.pr,f.at_,⟨f.HW.1,λj o b h1 h2=>?_⟩,λo q e=>?_,λa' ha b m o hO=>?_,f.ap,⟨λo b m=>?_,λo e y hl hy=>?_,a.bp,a.size,a.heap,λo b q hO=>?_,a.oz,a.os,a.output⟩,λa' ha b m=>?_⟩
 .simp_all[dJ]
 .have e1:(aC n).aD=n.aD:=rfl;have:=h.aD;have:=f.aD;omega
 .rw[aJ,tV l]at c;split at c
  .cases c
  .rename_i hnb;rw[Px,fV]at c;obtain⟨vob,hv,rfl⟩:=c;have u:=(l5 hpo).2;have hnw:o∉n.wr:=λhm=>by
    grind
   have apE:o∉s2.wr:=λhm=>hnw (f.ua o hm);have e1:n.ob.get o=Z (ff (dJ ow s1.aD) vob):=by rw[f.same o hnw,h.same o (iS u hlen) apE,hh.ob o (p▸u) hnb,tV l,bO hnb,hv];rfl
   grind[aJ,GP]
 .have c:=iz h1;exact(z.gM _).bP o b (pJ (i o c).2 (i o c).1) (f.HW.2 j o b h1 h2)
 .simp only[Gh.base];split
  .exact (f.Tb o q).2.2.2 e
  .rfl
 .let ⟨h1,h2⟩:=Gh.fQ hO
  let ⟨o',ho',U1⟩:=r a' ha b m
  have:=f.rel.j8 o o' b h2 U1
  grind[l5]
 .exact (z.gM _).bP o b (pJ (F o b m).2 (F o b m).1) (a.bP o b m)
 .exact (z.gM _).arr o e y (pJ (λhm=>by grind) (by omega)) (a.arr o e y hl hy)
 .exact a.own o b q (Gh.fQ hO).2
 .let ⟨o,q,hO⟩:=r a' ha b m
  exact a.own o b (by have:=(f.W5 o q).1;omega) hO
def iW.tmps{a a':Act}(h:a'.tmps=a.tmps):∀{sh:Sh}{vs:L Value},iW a sh vs->iW a' sh vs
 |[],[],_=>trivial|(_,.one _)::_,_::_,k=>⟨by rw[h];exact k.1,iW.tmps h k.2⟩
 |(_,.box _)::l,_::_,k=>iW.tmps (sh:=l) h k|(_,.hid _)::l,_,k=>iW.tmps (sh:=l) h k|[],_::_,k=>k.elim|(_,.one _)::_,[],k=>k.elim|(_,.box _)::_,[],k=>k.elim
theorem eU.split{g:Gh}{w:World}:∀{l1 l2:L Df}{m:L Deferred},eU g w (l1++l2) m->∃a b,m=a++b∧eU g w l1 a∧eU g w l2 b
 |[],_,m,h=>⟨[],m,rfl,.nil,h⟩|_::l1,l2,_,.cons h t=>by obtain⟨a,b,rfl,h1,h2⟩:=eU.split (l1:=l1) (l2:=l2) t;exact⟨_::a,b,rfl,.cons h h1,h2⟩
 |_::l1,l2,_,.marks o bs c h t=>by obtain⟨a,b,rfl,h1,h2⟩:=eU.split (l1:=l1) (l2:=l2) t;exact⟨_++a,b,(v5 _ _ _).symm,.marks o bs c h h1,h2⟩
 |_::l1,l2,_,.kK d t=>by obtain⟨a,b,rfl,h1,h2⟩:=eU.split (l1:=l1) (l2:=l2) t;exact⟨_++a,b,(v5 _ _ _).symm,.kK d h1,h2⟩
def eU.one{g:Gh}{w:World}:∀{os:L Nat}{m:L Deferred},eU g w (os.map Df.mark) m->∃bl,PW (λo b=>g.bP o=Z b) os bl∧m=bl.map λb=>{target:=.collected b,args:=#[]}
 |[],_,.nil=>⟨[],⟨rfl,λj o b h=>by simp at h⟩,rfl⟩
 |o::os,_,.cons h t=>by
  obtain⟨bl,h1,rfl⟩:=eU.one t;cases h with
  |mark _ b f=>
  refine⟨b::bl,⟨by simp[h1.1],λj a c d e=>?_⟩,rfl⟩;cases j with|zero=>simp_all|succ j=>exact h1.2 j a c (by simpa using d) (by simpa using e)
theorem aV.Ox{s:St}{w:World}{o:Nat}(m:s.ob.get o=Z .FG)(u:o<s.aD):∀(bl:L Nat){g:Gh},aV g s w->bl.Nodup->(∀b∈bl,b<w.heap.size∧¬g.bp b∧(∀k,¬bF g k b)∧w.heap[b]?=Z (.deferred (Z [])))->
  ∃g',aV g' s w∧nh g g'∧g'.bP=g.bP∧g'.bp=g.bp∧(∀k,k≠o->g'.arr k=g.arr k)∧(∀k b,bF g' k b->bF g k b∨(k=o∧b∈bl))∧∀b∈bl,g'.arr o b=Z ⟨Z ⟨b,0,Y⟩,0,1,0⟩
 |[],g,f,_,_=>⟨g,f,nh.refl _,rfl,rfl,λ_ _=>rfl,λ_ _ h=>.inl h,λb v=>by cases v⟩
 |b::bl,g,f,R,v=>by
  let ⟨b1,S,b3,b4⟩:=v b eJ
  have z:g.arr o b=Y:=by
   cases i:g.arr o b with
   |none=>rfl|some x=>
    exfalso;obtain⟨A,_,_,h,_⟩|⟨_,_,_,_,_,_,h,_⟩|⟨_,_,_,h,_⟩|h|⟨_,h1,h2,h3,_⟩:=(f.arr o b x i).2 _ m
    .cases A<;>cases h
    .cases h
    .cases h
    .cases h
    .exact b3 o ⟨h3,.inr ⟨b,x,_,i,h1,rfl,h2⟩⟩
  let r:Gh:={g with arr:=λk e=>if k=o∧e=b then Z ⟨Z ⟨b,0,Y⟩,0,1,0⟩else g.arr k e}
  have j:∀k e y,g.arr k e=Z y->r.arr k e=Z y:=λk e y h=>by
   grind
  have n:nh g r:=⟨λ_ _ h=>h,j,λ_ h=>h⟩;have l:∀k c,bF r k c->bF g k c∨(k=o∧c=b):=by
   rintro k c ⟨h1,h2|⟨e,x,F,h2,h3,h4,h5⟩⟩
   .exact .inl ⟨h1,.inl h2⟩
   .by_cases d:k=o∧e=b
    .grind
    .have h2:(if k=o∧e=b then Z ⟨Z ⟨b,0,Y⟩,0,1,0⟩else g.arr k e)=Z x:=h2;rw[bO d]at h2;exact .inl ⟨h1,.inr ⟨e,x,F,h2,h3,h4,h5⟩⟩
  have B:aV r s w:=by
   refine⟨f.aD,λk d=>⟨(f.ah k d).1,λe=>?_⟩,λk c p=>?_,λk e x i=>?_,f.bp,λk I c h h'=>?_⟩
   .show (if k=o∧e=b then _ else g.arr k e)=_;rw[bO (λh=>by omega)];exact(f.ah k d).2 e
   .let ⟨C,t,k3⟩:=f.box k c p
    exact⟨C,t,λob a=>let ⟨x,h1,h2⟩:=k3 ob a;⟨x,h1,h2.imp λ_ _ ht=>ht.le n⟩⟩
   .by_cases d:k=o∧e=b
    .have i:(if k=o∧e=b then Z ⟨Z ⟨b,0,Y⟩,0,1,0⟩else g.arr k e)=Z x:=i;rw[bB d]at i;cases i;obtain⟨rfl,rfl⟩:=d;refine⟨λF ha _=>by grind,λob a=>?_⟩;rw[m]at a;cases a;exact .inr (.inr (.inr (.inr ⟨rfl,rfl,by simp,S,b4⟩)))
    .have E:g.arr k e=Z x:=by have i:(if k=o∧e=b then Z ⟨Z ⟨b,0,Y⟩,0,1,0⟩else g.arr k e)=Z x:=i;rwa [bO d]at i
     let ⟨C,t⟩:=f.arr k e x E
     refine⟨C,λob a=>?_⟩;by_cases q:k=o
     .subst q;rw[m]at a;cases a;obtain⟨A,_,_,h,_⟩|⟨_,_,_,_,_,_,h,_⟩|⟨_,_,_,h,_⟩|h|h:=t _ m
      .cases A<;>cases h
      .cases h
      .cases h
      .cases h
      .exact .inr (.inr (.inr (.inr h)))
     .exact (t ob a).tr (λh=>h.kE rfl) j (funext λK=>by show(if k=o∧K=b then _ else g.arr k K)=_;rw[bO (λh=>q h.1)]) (λ_ _ _=>⟨rfl,vK⟩)
   .obtain P|⟨P,e2⟩:=l k c h
    .obtain Q|⟨Q,e4⟩:=l I c h'
     .exact f.j8 k I c P Q
     simp_all
    grind
  let ⟨g',q1,q2,q3,q4,q5,q6,q7⟩:=B.Ox m u bl (I3.1 R).2 (λc p=>by
   grind)
  refine⟨g',q1,n.trans q2,q3,q4,λk d=>(q5 k d).trans (funext λe=>by show(if k=o∧e=b then _ else g.arr k e)=_;rw[bO (λh=>d h.1)]),λk c hO=>?_,λc p=>?_⟩
  .grind
  .obtain rfl|p:=ga.1 p
   .exact q2.arr o c _ (by show(if o=o∧c=c then _ else g.arr o c)=_;rw[bB ⟨rfl,rfl⟩])
   grind
def Marks(aD fl:Nat)(base:bU S×bg S)(c:bU S)(g:Gh)(w:World):Prop:=
 ∃os d,c.df=os.map sU.mark++d∧d.length=base.1.df.length∧os.Nodup∧(∀o∈os,aD<=o∧∀b,g.bP o=Z b->w.heap[b]?=Z (.deferred (Z [])))∧
  (os=[]∨∃a rest,base.1.df=.marks a::rest∧base.2.ob.get a=Z .FG∧a<aD∧fl<=a)
theorem Marks.mono{aD fl:Nat}{base:bU S×bg S}{c:bU S}{g g':Gh}{w:World}{a:Act}(h:Marks aD fl base c g w)(hf:cQ g (bH c) a w)(v:∀o b,g.bP o=Z b->g'.bP o=Z b):Marks aD fl base c g' w:=by
 let ⟨os,d,l,n,p,q,r⟩:=h
 refine⟨os,d,l,n,p,λo m=>⟨(q o m).1,λb x=>?_⟩,r⟩;have e:=hf.df;rw[show(bH c).df=(os.map sU.mark).map mF++d.map mF from by show c.df.map mF=_;rw[l,T4]]at e
 let ⟨y,z,_,f,_⟩:=e.split
 rw[List.map_map,show(mF∘sU.mark:Nat->Df)=Df.mark from rfl]at f
 let ⟨s,j,_⟩:=f.one
 obtain⟨i,t,rfl⟩:=rM m;have k:i<s.length:=by have:=j.1;omega
 have u:=j.2 i _ _ (jr t) (jr k)
 grind
def Dc{aD:Nat}{s:bg S}{g:Gh}{w:World}(hs:aV g (aC s) w):∀{l:L (sU S)}{os:L Nat},uA aD s l=Z os->l=os.map sU.mark∧∀o∈os,aD<=o∧∀b,g.bP o=Z b->w.heap[b]?=Z (.deferred (Z []))
 |[],os,h=>by simp only[uA,gR]at h;subst h;exact⟨rfl,λo f=>by cases f⟩
 |.mark o::l,os,h=>by
  simp[uA]at h;split at h
  .rename_i i;obtain⟨j,h⟩|⟨_,h⟩:=af h
   .split at h
    .rename_i c;simp at h;subst h
     let ⟨h1,h2⟩:=Dc hs c
     refine⟨by rw[h1];rfl,λe a=>?_⟩;obtain rfl|a:=ga.1 a
     .refine ⟨gU j,λb d=>?_⟩
      let ⟨x,k,c⟩:=(hs.box e b d).2.2 .zZ (by rw[aJ,i];rfl)
      cases c;exact k
     .exact h2 e a
    .cases h
   .cases h
  .cases h
 |.call _ _::_,_,h=>by simp[uA]at h
 |.marks _::_,_,h=>by simp[uA]at h
 |.kK::_,_,h=>by simp[uA]at h
 |.bad::_,_,h=>by simp[uA]at h
theorem Ae{aD:Nat}{base:bU S×bg S}{fr':bU S}{s':bg S}{g:Gh}{w:World}(hs:aV g (aC s') w)(h:Pj aD base fr' s'=W):Marks aD s'.fl base fr' g w:=by
 unfold Pj at h;split at h;rotate_left
 .cases h
 rename_i os a;simp only[fF,pE]at h
 let ⟨h1,h2,h3⟩:=h
 let ⟨b,c⟩:=Dc hs a
 have h2:=beq_iff'.1 h2;rw[bR,bR,bR]at h2;refine⟨os,fr'.df.drop (Nat.sub (cE fr'.df) (cE base.1.df)),by rw[<-b,Wv],?_,l6 h1,c,?_⟩
 .grind[bR]
 .obtain h3|h3:=h3
  .simp_all
  .right
   unfold ahR at h3;split at h3
   .split at h3
    .simp_all
    .cases h3
   .cases h3
def JN{ex:L Nat}(aqa:∀k∈ex,k∈ds){Pf:Sh}(hds:∀d∈ds,d<bI)(UX:∀b∈bs,b<s1.aD∧b∉ow)(abK:s1.aD<=bI)(hlo:s.lo<=s1.aD)(how:∀o∈ow,s.lo<=o)(hgb:∀o b,g.bP o=Z b->o<s1.aD∧o∉ow)(hsh:E6 ds sh=W)(aj2:s1.lo=s.lo)(aj3:s1.fl=s.fl)
  {a':Act} {w':World} {al:L fh} {gb gh:Gh} {BU:bU S} {r:bg S}
  (UT:oK s.lo s.fl g w gh w') (hh:Bi ex sh bs a' gb (cL ds ow bs fr s1).1 (cL ds ow bs fr s1).2 w' al gh BU r)
  {B:bU S} {s2 s3:bg S} {g2 F:Gh} {a2:Act} {C:World} (p:eL r gh w' s2 g2 C) (hf2:cQ g2 (bH B) a2 C) (hfo:dW ds BU B s2.dr r.aD) (hn2:B.n=BU.n) (hmk:Marks s1.aD s.fl (cL ds ow bs fr s1) B g2 C)
  {x:gp S.A (lO Pf)} {LV:L Nat} {vals:L Value} {Br:L fh} {bl2:L Nat} (f:Hr Pf bs a2 g2 s2 C x s3 LV F vals Br bl2)
  (hwr:TD s1.aD bs s3.wr=W) (ajc:LV.all (λo=>Nl s1.aD o)=W) (hdr:s3.dr.all (λo=>Nl s1.aD o)=W) :
  ∃I,xq Pf bs (cL ds ow bs fr s1).1 (cL ds ow bs fr s1).2 s g w x a2 I C vals Br bl2∧I.bp=F.bp:=by
 have ajQ:∀b∈bs,b<bI:=λb hb=>iS (UX b hb).1 abK;have aph:(cL ds ow bs fr s1).2.aD=s1.aD:=rfl;have hlen:s1.aD<=r.aD:=aph▸hh.aD;have ajK:∀o∈s2.dr,s1.aD<=o:=λo ho=>by rw[lB]at hdr;exact gU (hdr o (f.dr▸ho))
 have DR:=f.YT.owned f.pr.iL;have ajD:r.fl=s.fl:=hh.fl.trans (show(cL ds ow bs fr s1).2.fl=s.fl from aj3);have afr:r.lo=s.lo:=hh.lo.trans (show(cL ds ow bs fr s1).2.lo=s.lo from aj2);have ajF:oK s.lo s.fl g w g2 C:=UT.trans (ajD▸afr▸p.ext);have X1:s2.fl=s.fl:=p.fl.trans ajD;have ajE:oK s.lo s.fl g w F C:=ajF.trans (X1▸f.ext.H7 s.lo);have hQ:∀o,dJ s2.dr r.aD o=W->dJ ow s1.aD o=W:=λo ho=>by
  simp only[dJ,pE,Fl,qE]at ho ⊢;obtain ho|ho:=ho
  .exact .inr (MO (ajK o ho))
  .have:=gU ho;exact .inr (MO (by omega))
 have hT:∀t v,aH g2 C t v->dF (dJ ow s1.aD) t=J->aH (F.base (dJ ow s1.aD)) C t v:=λt v ht hm=>(ht.ext f.ext p.rel.bp).on (F.gM _) (λ_ _=>rfl) hm
 let ⟨os,d,e1,e2,apw,K,Di⟩:=hmk
 have aqd:pY (dJ s2.dr r.aD) (cL ds ow bs fr s1).1.df d:=by
  let ⟨c,d',k1,k2⟩:=hfo.df
  have hl:=k2.len;rw[hh.N7]at hl k2;have hdd:d'=d:=by have h1:c++d'=os.map sU.mark++d:=k1.symm.trans e1;exact(List.append_inj' h1 (by omega)).2
  rw[<-hdd];exact k2
 have hdb:=acj hQ (l:=fr.df) aqd;have ajL:=hf2.df;rw[show(bH B).df=(os.map sU.mark).map mF++d.map mF from by show B.df.map mF=_;rw[e1,T4]]at ajL
 let ⟨m1,m2,ajl,hd1,hd2⟩:=ajL.split
 rw[List.map_map,show(mF∘sU.mark:Nat->Df)=Df.mark from rfl]at hd1
 let ⟨bl,E,hm1⟩:=hd1.one
 rw[hdb]at hd2;have hd3:=ack hT (l:=fr.df) hd2;have htm:∀k t,(bH (cL ds ow bs fr s1).1).get k=Z t->∃v,a2.tmps[k]?=Z v∧aH (F.base (dJ ow s1.aD)) C t v:=by
  intro k t hk;rw[bT,fV]at hk;obtain⟨v,hv,rfl⟩:=hk
  let ⟨h1,h2,h3⟩:=A5 hds hv
  have hgh:BU.get k=Z v:=by
   rw[hh.get k (λhm=>h1 (aqa k hm)) (λq hq hqk=>?_)]
   .exact hv
   .let ⟨qk,qp⟩:=q
    cases qp with|box cs=>rfl|hid cs=>rfl|one c=>unfold E6 at hsh;rw[lB]at hsh;have:=hsh _ hq;subst hqk;exact absurd (by simpa using this) h1
  obtain h4|h4:=hfo.tm k v h1 hgh
  .let ⟨u,hu,hr⟩:=hf2.tm k (low v) (by rw[bT,h4];rfl)
   exact⟨u,hu,(hr.ext f.ext p.rel.bp).on (F.gM _) (λ_ _=>rfl) (by rw[ir];exact h3)⟩
  .exfalso
   let ⟨o,SQ,ho2⟩:=Uw h4 h3
   have:=(l5 ho2).2;simp only[dJ,pE,Fl,qE]at SQ;obtain SQ|SQ:=SQ
   .have:=ajK o SQ;omega
   .have:=gU SQ;omega
 have hp':Hr Pf bs {a2 with defers:=[]} g2 s2 C x s3 LV F vals Br bl2:=⟨f.rel,f.ext,f.pr,iW.tmps (a:=a2) (a':={a2 with defers:=[]}) rfl f.at_,f.YT,f.HW,f.now,f.W5,f.nbs,f.Tb,f.fl,f.lo,f.aD,f.ua,f.same,f.dr,f.ap,f.owb⟩;have hsz:a2.tmps.size=(cL ds ow bs fr s1).1.n:=hf2.size.trans (hn2.trans hh.n);have m:=QW (fr:=fr) hds UX abK hlo how hgb aj2 aj3 UT hh p hp' hwr ajc hdr (j5:={(cL ds ow bs fr s1).1 with df:=[]}) ⟨hsz,.nil,htm⟩;obtain rfl|⟨oB,rest,ajM,ajk,apQ,hflB⟩:=Di
 .have Qp:bl=[]:=Fm (by have:=E.1;simpa using this.symm);subst Qp;subst hm1;exact⟨_,⟨m.rel,⟨hsz,by rw[ajl];exact hd3,htm⟩,m.pr,f.at_,m.HW,m.Xc,m.fresh,m.ap,m.ext,m.alo⟩,rfl⟩
 have hmb:(aC (cL ds ow bs fr s1).2).ob.get oB=Z .FG:=by rw[aJ,ajk];rfl
 have A:∀b∈bl,∃o∈os,g2.bP o=Z b:=λb hb=>by
  obtain⟨i,hi,rfl⟩:=rM hb;have P:i<os.length:=by have:=E.1;omega
  exact⟨os[i],MK P,E.2 i _ _ (jr P) (jr hi)⟩
 have Q:∀{o b:Nat},g2.bP o=Z b->bF F o b:=λ{o b}hb=>⟨(f.rel.box o b (f.ext.bP o b hb)).1,.inl (f.ext.bP o b hb)⟩;have abU:bl.Nodup:=by
  refine Ww.2 λi j hi hj hij heq=>?_;have hlen:=E.1;have P:i<os.length:=by omega
  have hj':j<os.length:=by omega
  have e1:=E.2 i _ _ (jr P) (jr hi);have e2:=E.2 j _ _ (jr hj') (jr hj);rw[<-heq]at e2;exact(Ww.1 apw i j P hj' hij) (f.rel.j8 _ _ _ (Q e1) (Q e2))
 have aji:∀b∈bl,∀k,¬bF (F.base (dJ ow s1.aD)) k b:=λb hb k hO=>by
  let ⟨o,ho,z⟩:=A b hb
  let ⟨h1,h2⟩:=Gh.fQ hO
  have:=f.rel.j8 k o b h2 (Q z);subst this;have:=(l5 h1).2;have:=(K k ho).1;omega
 let ⟨I,q1,q2,q3,q4,q5,q6,q7⟩:=m.rel.Ox hmb apQ bl abU (λb hb=>by
  let ⟨o,ho,z⟩:=A b hb
  exact⟨(p.rel.box o b z).2.1,(f.rel.box o b (f.ext.bP o b z)).1,aji b hb,(K o ho).2 b z⟩)
 have hd4:eU (F.base (dJ ow s1.aD)) C ((sU.marks oB::rest).map mF) m2:=ajM▸hd3;have hdf:eU I C ((cL ds ow bs fr s1).1.df.map mF) a2.defers:=by
  rw[ajM,ajl,hm1];cases hd4 with
  |cons k _=>cases k
  |marks _ ms hnm hms ht=>
  rw[<-v5,<-T4];refine .marks oB (bl++ms) (List.nodup_append.2 ⟨abU,hnm,λb hb c hc hbc=>?_⟩) (λb hb=>?_) (ht.imp (λt v ht=>ht.le q2) q2.bP)
  .subst hbc
   let ⟨n,c',hr⟩:=hms b hc
   cases hr with
   |sh _ _ _ _ sz _ hx=>
   obtain⟨fz,_,_,h,_⟩|⟨_,_,_,_,_,_,h,_⟩|⟨_,_,_,h,_⟩|h|⟨_,h1,h2,h3,_⟩:=(m.rel.arr oB b _ hx).2 _ hmb
   .cases fz<;>cases h
   .cases h
   .cases h
   .cases h
   .exact aji b hb oB ⟨h3,.inr ⟨b,_,_,hx,h1,rfl,h2⟩⟩
  .obtain hb|hb:=eZ.1 hb
   .exact ⟨0,1,.sh _ _ _ _ 0 _ (q7 b hb)⟩
   .let ⟨n,c,hr⟩:=hms b hb
    exact⟨n,c,hr.le q2⟩
 have hfresh:∀b∈bl,(∃o,s.fl<=o∧bF g o b)∨w.heap.size<=b:=λb hb=>by
  let ⟨o,ho,z⟩:=A b hb
  exact ajE.own o b (by have:=(K o ho).1;omega) (Q z)
 refine⟨I,⟨q1,⟨hsz,hdf,λk t hk=>let ⟨v,hv,ht⟩:=htm k t hk;⟨v,hv,ht.le q2⟩⟩,q4▸m.pr,f.at_,⟨m.HW.1,λj o b h1 h2=>by rw[q3];exact m.HW.2 j o b h1 h2⟩,λo ho e=>?_,λa' ha b hb o hO=>?_,m.ap,⟨λo b hb=>?_,λo e y hl hy=>?_,λb hb=>?_,m.ext.size,m.ext.heap,λo b ho hO=>?_,λb hb=>?_,m.ext.os,m.ext.output⟩,m.alo⟩,q4⟩
 .rw[q5 o (λh=>by
   subst h;have:=tV (ow:=ow) (ds:=ds) (fr:=fr) (s1:=s1) ajQ o;rw[bB ho,ajk]at this;cases this)]
  exact m.Xc o ho e
 .obtain hO|⟨_,R⟩:=q6 o b hO
  .exact m.fresh a' ha b hb o hO
  .let ⟨o1,SQ,XV⟩:=A b R
   let ⟨o2,ho2,U0⟩:=DR a' ha b hb
   have:=f.rel.j8 o1 o2 b (Q XV) U0;subst this;rw[f.owb o1 ho2]at XV;cases XV
 .rw[q3];exact m.ext.bP o b hb
 .exact q2.arr o e y (m.ext.arr o e y hl hy)
 .exact q2.bp b (m.ext.bp b hb)
 .obtain hO|⟨_,R⟩:=q6 o b hO
  .exact m.ext.own o b ho hO
  .exact hfresh b R
 .rw[q4]at hb;exact m.ext.oz b hb
theorem Vm{ex:L Nat}{k:Sh}{j5:bU S}(hs:aV g (aC s) w){q:Gh}{e:L Value}{l:L fh}{m:L Nat}{r:gp S.A (lO sh)}(c:Hr sh bs a g s w r s1 ow q e l m)
  {a':Act} {w':World} {al:L fh} {gb n:Gh} {p:bU S} {f:bg S} (h:oK s.lo s.fl g w n w') (i:Bi ex k bs a' gb j5 (cL ds ow bs fr s1).2 w' al n p f) :
  eL s g w {f with wr:=s1.ob.jT (gL (dJ ow s1.aD))++(bs++s1.wr),dr:=ow++s1.dr} n w':=by
 have j:∀b∈bs,b<bI:=λb t=>iS (c.Tb b t).2.1 hs.aD;refine⟨i.rel,h,i.fl.trans c.fl,i.lo.trans c.lo,?_,λo d=>?_,λo u d=>?_,λo d=>?_⟩
 .have:=i.aD;have v:(cL ds ow bs fr s1).2.aD=s1.aD:=rfl;have:=c.aD
  simp_all
 .exact eY _ (eY _ (c.ua o d))
 .simp at d;have h1:f.ob.get o=(cL ds ow bs fr s1).2.ob.get o:=i.ob o (by show o<s1.aD;have:=c.aD;omega) d.2.1;rw[h1,tV j,bO d.2.1,<-c.same o d.2.2];cases x:s1.ob.get o with
  |none=>rfl|some ob=>
   grind[oH,Tr.qN]
 .exact eY _ (by rw[c.dr];exact d)
theorem Om{ex:L Nat}(f:∀k∈ex,k∈ds){h:Sh}(hs:aV g (aC s) w)(m:∀d∈ds,d<bI){z:Gh}{b:L Value}{n:L fh}{p:L Nat}{A:gp S.A (lO sh)}(r:Hr sh bs a g s w A s1 ow z b n p)(B:E6 ds h=W)
  {a':Act} {w':World} {al:L fh} {gb t:Gh} {e:bU S} {i:bg S} (j:oK s.lo s.fl g w t w') (l:Bi ex h bs a' gb (cL ds ow bs fr s1).1 (cL ds ow bs fr s1).2 w' al t e i) :
  eL s g w {i with wr:=s1.ob.jT (gL (dJ ow s1.aD))++(bs++s1.wr),dr:=ow++s1.dr} t w'∧dW ds fr e (ow++s1.dr) s.aD∧e.n=fr.n:=by
 refine⟨Vm (fr:=fr) hs r j l,⟨λk v y C=>?_,?_⟩,l.n⟩
 .cases u:cI (dJ ow s1.aD) v with
  |true=>exact .inr (ez (jb (λo x=>fU _ x) (by rw[r.aD];omega)) v u)
  |false=>
   left
   rw[l.get k (λu=>y (f k u)) (λq K E=>?_),Te m,bO y,C]
   .simp_all
   .let ⟨P,F⟩:=q
    cases F with
    |box I=>rfl|hid I=>rfl|one c=>
     grind[E6]
 .rw[l.N7];exact(uS (jb (λo x=>fU _ x) (by rw[r.aD];omega)) (λv=>rfl) fr.df).ok
end
theorem Kl{g:Gh}{w:World}{fr:bU S}{a:Act}(hf:cQ g (bH fr) a w):∀{rv:Rv}{vs:L (V S)},Wg fr rv=Z vs->∃vals,iW a (rv.map λp=>(p.1,Pk.one (.dat p.2))) vals∧PW (aH g w) (bu vs) vals
 |[],vs,h=>by simp only[Wg,gR]at h;subst h;exact⟨[],trivial,rfl,λj t v h=>by grind⟩
 |(k,c)::l,vs,h=>by
  simp[Wg]at h;split at h
  .rename_i v r h1 h2;simp at h;subst h
   let ⟨vals,h3,h4⟩:=Kl hf h2
   let ⟨u,b,i⟩:=hf.tm k (low v) (by rw[bT,h1];rfl)
   refine⟨u::vals,⟨b,h3⟩,by simp[bu,lQ,h4.1],λj t d e f=>?_⟩;cases j with|zero=>grind[bu]|succ j=>exact h4.2 j t d (by simpa[bu]using e) (by simpa using f)
  .cases h
def vY{g:Gh}{w:World}{a:Act}:∀{rv:Rv}{r:gH S.A (E7 rv)}{vals:L Value}{al:L fh}{I:Nat->Prop}{fr:bU S},jV S I w (E7 rv) r vals al->(∀b,I b->g.bp b)->iW a (rv.map λp=>(p.1,Pk.one (.dat p.2))) vals->
  fr.n<=bI->cQ g (bH fr) a w->cQ g (bH (yu rv r fr)) a w∧(yu rv r fr).n=fr.n∧∀k,k∉rv.map (·.1)->(yu rv r fr).get k=fr.get k
 |[],r,vals,al,I,fr,_,_,_,_,f=>⟨f,rfl,λ_ _=>rfl⟩|(k,t)::rv,r,vals,al,I,fr,q,n,e,l,f=>by
  cases q with
  | @dat _ _ x h v z al s u=>
  let ⟨o,e⟩:=e
  have d:k<fr.n:=by have:=(Wt.1 o).1;rw[f.size]at this;exact this
  have m:cQ g (bH (fr.put k (.ty t x))) a w:=by
   refine⟨f.size,f.df,λj y c=>?_⟩;rw[bT,bU.j4 _ _ _ _ (iS d l)]at c;by_cases i:j=k
   .subst i;rw[bB rfl]at c;simp at c;subst c;exact⟨v,o,qv (s.le n)⟩
   .rw[bO i]at c;exact f.tm j y (by rw[bT];exact c)
  let ⟨h1,h2,h3⟩:=vY (rv:=rv) (fr:=fr.put k (.ty t x)) u n e l m
  refine⟨h1,h2,λj c=>?_⟩;simp only[pz,ga,not_or]at c;rw[show yu ((k,t)::rv) (x,h) fr=yu rv h (fr.put k (.ty t x))from rfl,h3 j c.2,bU.j4 _ _ _ _ (iS d l),bO c.1]
theorem zh{ω:Type}{Q:vg S->bU S->bg S->O ω}{fr:bU S}{s:bg S}{r:ω}:∀{l:L Nat}{i:Nat},i∈l->aaV Q fr s l (abD l i)=Z r->Q (.ext i) fr s=Z r
 |[],i,a,_=>by cases a
 |[j],i,a,h=>by simp at a;subst a;exact h
 |j::c::l,i,a,h=>by
  simp only[abD]at h;cases b:Nq j i with
  |true=>rw[b]at h;have:=beq_iff'.1 b;subst this;exact h|false=>
   rw[b]at h;have d:j≠i:=λe=>by simp_all
   refine zh (l:=c::l) ?_ h
   grind
end
theorem Fj{st:LoopState}{a:O Code}(h:Ko st a=W):st=.ready∧a=Y:=by
 unfold Ko at h
 grind
def W7{st:LoopState}{a:O Code}{ex:vg S}(h:aeE st a=Z ex):st≠.busy∧((a=Y∧ex=.rU)∨(∃i,a=Z (.exit i)∧ex=.ext i)∨(a=Z .ret∧ex=.ret)):=by unfold aeE at h;split at h<;>simp_all
theorem Qw{g:Gh}{w:World}{fr:bU S}{a:Act}(hf:cQ g (bH fr) a w)(hn:fr.n<=bI)(l:L Nat):∀k t,(bH (NL l fr)).get k=Z t->∃v,a.tmps[k]?=Z v∧aH g w t v:=by
 have key:∀(l:L Nat)(t0:Tr (V S)),(∀k v,t0.get k=Z v->fr.get k=Z v)->∀k v,(l.foldl (λt k=>match fr.get k with|some v=>t.set aM k v|none=>t) t0).get k=Z v->fr.get k=Z v:=by
  intro l
  induction l with
  |nil=>grind|cons j l d=>
   intro t0 h;rw[MX];refine d _ λk v b=>?_;split at b
   .rename_i u e;have f:j<bI:=by
     have:(bH fr).get j=Z (low u):=by rw[bT,e];rfl
     obtain⟨x,i,_⟩:=hf.tm j _ this;have:=hf.size;have h2:=(Wt.1 i).1;have h3:(bH fr).n=fr.n:=rfl;omega
    rw[Tr.aR _ _ _ _ f]at b
    grind
   grind
 intro k t b;rw[bT]at b;cases c:(NL l fr).get k with|none=>simp_all|some v=>rw[c]at b;have h1:=key l .nil (λk v h=>by simp[Tr.get_nil]at h) k v c;exact hf.tm k t (by rw[bT,h1];exact b)
theorem MF{E:eO S}(hE:fC E){call:gn S}(wD:gO E.T.E.P call)(n:Nat)(fid:FuncId)(rv:Rv){gv:Operand}{ps:Array Tmp}{q body:Code}{i:Nat}{ω:Type}{Q:vg S->bU S->bg S->O ω}{r:ω}{fr:bU S}{s:bg S}
  (h:zw E call n fid rv (.rangeFunc gv ps q body) i Q fr s=Z r) (hn:fr.n<=bI) {g:Gh} {a:Act} {w:World} (hf:cQ g (bH fr) a w) (hs:aV g (aC s) w) :
  (Code.rangeFunc gv ps q body).wpIn (WR Y) 0 E.T.E.P (IF (eT (.rangeFunc gv ps q body)++rv.map (·.1)) fr s g w Q r) a w:=by
 simp only[zw]at h;split at h
 .cases h
 rename_i args hfa;obtain⟨hb,h1⟩|⟨_,h1⟩:=af h
 rotate_left
 .cases h1
 clear h;simp only[fF]at hb;obtain⟨_,_,afx,z⟩:=hb;have z:s.aD+1<bI:=gU z;simp only[vL]at hfa;obtain⟨tf,htf,KU⟩:=hfa;have XQ:=bQ hf (cC htf);have m:=r7 KU;unfold xQ at m;split at m;rotate_left
 .cases m
 rename_i f' first cap C
 simp only[gR,fE]at m;obtain⟨rfl,I⟩:=m;rw[C]at XQ;generalize hvf:a.eval gv=vf at XQ;cases XQ with
 |fn _ _ _ va vc l1 l2 r1 r2=>
 obtain⟨zY,he1⟩:=hs.newObj (ob0:=.zZ) (x0:=.deferred (Z [])) (by show s.aD<bI;omega) .zZ;have afb:(ew (aC s) Ob.zZ).2=aC (dj s .zZ):=(g6 s .zZ).symm;rw[afb]at zY;refine wpIn_rangeFunc λfn _=>?_
 let b:Loop:={state:=.ready,pending:=Y,fn,tmps:=a.tmps,params:=ps,assign:=q,body,defers:=w.heap.size}
 let lv:LpV S:=⟨.ready,Y,fid,NL (vn q++vn body) fr,ps.toList,q,body⟩
 have hf1:cQ (g.dB (aC s).aD w.heap.size) (bH fr) a (w.alloc (.deferred (Z []))):=hf.ext he1 hs.bp;obtain⟨R,UU⟩:=zY.newObj (ob0:=.lp (tE lv)) (x0:=.loop b) (by show s.aD+1<bI;exact z)
  (.lp _ b rfl rfl rfl rfl rfl hf1.size (Qw hf1 hn _))
 have apb:(ew (aC (dj s .zZ)) (Ob.lp (tE lv))).2=aC (dj (dj s .zZ) (.lp lv)):=(g6 _ (.lp lv)).symm;rw[apb]at R;have A:(Instr.enterLoop fn a.tmps ps q body Y).run E.T.E.P w=.ok (w.heap.size+1,[{target:=.collected w.heap.size,args:=#[]}]) ((w.alloc (.deferred (Z []))).alloc (.loop b)):=run_enterLoop_outer _ _ _ _ _;generalize hW2:(w.alloc (.deferred (Z []))).alloc (.loop b)=W2 at R UU A;generalize hg2:(g.dB (aC s).aD w.heap.size).dB (aC (dj s .zZ)).aD (w.alloc (.deferred (Z []))).heap.size=g2 at R UU;have ajR:g2.bP s.aD=Z w.heap.size:=by rw[<-hg2];simp[Gh.dB,aC,dj]
 have F:g2.bP (s.aD+1)=Z (w.heap.size+1):=by rw[<-hg2];simp[Gh.dB,aC,dj]
 have he:Ext s.fl g w g2 W2:=he1.trans UU;have hall:PW (aH g2 W2) (bu args) (va++#[Value.func (.yield (w.heap.size+1)) #[] #[]]++vc).toList:=by rw[<-I];simp only[T6];refine PW.append (PW.append ⟨by simpa using l1,λj x y h1 h2=>(r1 j x y h1 (by simpa using h2)).ext he hs.bp⟩ ⟨rfl,λj x y h1 h2=>?_⟩) ⟨by simpa using l2,λj x y h1 h2=>(r2 j x y h1 (by simpa using h2)).ext he hs.bp⟩;cases j with|zero=>simp only[bu,ML,gR]at h1 h2;subst h1;subst h2;exact .rJ _ _ F|succ j=>grind
 obtain⟨NJ,hc⟩:=AP hE wD R h1 hall;refine⟨w.heap.size+1,[{target:=.collected w.heap.size,args:=#[]}],W2,{target:=.fn (.func f') vc,args:=va++#[Value.func (.yield (w.heap.size+1)) #[] #[]]},W2,f',va++#[Value.func (.yield (w.heap.size+1)) #[] #[]]++vc,W2,A,?_,λ_ _=>trivial,?_,λh=>by simp[Fence.wide]at h,QL.2 (hc.mono λe w' he'=>?_)⟩
 .simp_all[rangeCall,resolve,Deferred.ofValue,run_bind,run_pure,andThen_ok,Act.eval]
 .grind[invoke,xC]
 cases e with
 |panicked ch=>obtain⟨v,t,B,g',_,h1,_⟩:=he';cases h1
 |outgrown=>exact he'.elim|returned v=>
 obtain⟨t,B,g',ow,h1,_,f⟩:=he';dsimp only at h1;split at h1;rotate_left
 .cases h1
 rename_i l ho;split at h1;rotate_left
 .cases h1
 rename_i ex hox;obtain⟨hst,hpe⟩:=W7 hox;have u:=f.ext.bP _ _ F;have ho':(aC B).ob.get (s.aD+1)=Z (.lp (tE l)):=by rw[aJ,show B.ob.get (s.aD+1)=Z (.lp l)from ho];rfl
 obtain⟨x,hx,hr⟩:=(f.rel.box _ _ u).2.2 _ ho';cases hr with
 |lp _ L' q1 q2 q4 q5 q6 q8 q9=>
 have hfl:B.fl<=s.aD+1:=by
  have h0:B.fl=s.fl:=f.fl
  simp_all
 obtain⟨Qf,EB⟩:=f.rel.setObj (w':=w'.putObj (w.heap.size+1) (.loop {L' with state:=.exhausted})) u ho' rfl hfl (x':=.loop {L' with state:=.exhausted}) (ob':=.lp (tE {l with st:=.exhausted})) (.lp _ _ rfl q2 q4 q5 q6 q8 q9)
  World.putObj_size (λb' hb'=>World.putObj_heap_other hb') (World.putObj_heap_same (f.rel.box _ _ u).2.1) rfl rfl
 have hfo:dW [] fr (dx ow fr) B.dr s.aD:=BF hn (dst:=Y) rfl f.owd s.aD dU;have key:∀e,IJ g' (w'.putObj (w.heap.size+1) (.loop {L' with state:=.exhausted})) ex e->IF (eT (.rangeFunc gv ps q body)++rv.map (·.1)) fr s g w Q r e {a with defers:=[{target:=.collected w.heap.size,args:=#[]}]++a.defers} (w'.putObj (w.heap.size+1) (.loop {L' with state:=.exhausted})):=λe hx0=>by
  refine .inr ⟨ex,_,_,g',hx0,h1,tK ow fr,?_,?_,⟨λk v _ hk=>hfo.tm k v (λh=>by cases h) hk,?_⟩⟩;rotate_left;rotate_left
  .obtain ⟨c,d,q1,q2⟩:=hfo.df;exact⟨_::c,d,by show _::(dx ow fr).df=_;rw[show(dx ow fr).df=c++d from q1];rfl,q2⟩
  .have hf2:cQ g2 (bH fr) a W2:=hf.ext he hs.bp;have hf3:cQ g' (bH (dx ow fr)) a w':=n8 hf2 f;have hf4:=hf3.ext EB f.rel.bp;exact⟨hf4.size,.cons (.mark _ _ (f.ext.bP _ _ ajR)) hf4.df,hf4.tm⟩
  .have hn1:s.aD<bI:=by omega
   have hl1:=jx s (.zZ:u0 S) hn1;have hl2:=jx (dj s (.zZ:u0 S)) (.lp lv) z;have C:aC {B with ob:=B.ob.set aM (Ns s.aD) (.lp {l with st:=.exhausted})}={aC B with ob:=(aC B).ob.set aM (s.aD+1) (dc (.lp {l with st:=.exhausted}))}:=eF B _ _ B.wr;refine⟨by rw[C];exact Qf,(he.H7 s.lo).trans ((show oK s.lo s.fl g2 _ g' w' from f.ext).trans ?_),f.fl,f.lo,gD (by show s.aD<=s.aD+1+1;omega) f.aD,λo ho=>f.ua o ho,λo ho hno=>?_,λo ho=>f.GJ o ho⟩
   .have:=EB.H7 s.lo;rw[show(aC B).fl=s.fl from f.fl]at this;exact this
   .have e1:o≠Ns s.aD:=by omega
    show(B.ob.set aM (Ns s.aD) _).get o=_;rw[Tr.dz _ _ _ _ _ e1,f.same o (by show o<s.aD+1+1;omega) hno,hl2.same o (by show o<s.aD+1;omega) (λhm=>hno (f.ua o hm)),hl1.same o ho (λhm=>hno (f.ua o hm))]
 refine⟨l.vN,w'.putObj (w.heap.size+1) (.loop {L' with state:=.exhausted}),?_,?_⟩
 .have:=run_endLoop (P:=E.T.E.P) hx (by rw[q1];exact hst);rw[this,q2];rfl
 obtain⟨h0,rfl⟩|⟨i,h0,rfl⟩|⟨h0,rfl⟩:=hpe<;>rw[h0]
 .exact key _ .rU
 .exact wpIn_exit (key _ (.ext i))
 .exact wpIn_ret (key _ .ret)
section
def sS(E:eO S)(call:gn S):Prop:=
 ∀(id:Nat)(ops:Array Oper){ω:Type}(kp:bU S->V S->bg S->O ω)(k:bU S->bg S->O ω)(r:ω)(fr:bU S)(s:bg S),
  Yv E fr s ops.toList (wX ops.toList)=W->
  uL E call ops.toList (wX ops.toList) (ops.toList.zipIdx.map λp=>(p.2,p.1)) kp k (Ns (Nat.mul 2 (cE ops.toList))) 0 fr s=Z r->fr.n<=bI->
  ∀{g:Gh}{a:Act}{w:World},cQ g (bH fr) a w->aV g (aC s) w->∀{Q:Exit->Act->World->Prop},
  (∀fr' s' g' a' w',k fr' s'=Z r->fr'.n=fr.n->cQ g' (bH fr') a' w'->eL s g w s' g' w'->dW (ops.toList.filterMap (·.dst)) fr fr' s'.dr s.aD->Q .normal a' w')->
  (∀fr' t s' g' a' v w',kp fr' t s'=Z r->fr'.n=fr.n->cQ g' (bH fr') a' w'->eL s g w s' g' w'->dW (ops.toList.filterMap (·.dst)) fr fr' s'.dr s.aD->aH g' w' (low t) v->Q (.panic [{v,recovered:=J}]) a' w')->
  ∀rr:O Nat,(rr≠Y->O1 (.region id ops W)=W)->(Code.region id ops W).wpIn (WR rr) 0 E.T.E.P Q a w
theorem qG{s:bg S}:∀{cs:L Ck}{l:L (V S)}{x:gH S.A cs}{fz ow:L Nat},jU cs=W->gq s cs l=Z (x,fz,ow)->ow=[]
 |[],[],x,fz,ow,_,h=>by
  grind[gq]
 |.dat t::cs,v::l,x,fz,ow,a,h=>by
  simp[gq]at h;split at h
  .rename_i b;obtain⟨_,_,rfl⟩:=h;have:=qG (cs:=cs) (by simpa[jU]using a) b
   grind[o3]
  .cases h
 |.own _::_,_,_,_,_,a,_=>by simp[jU]at a
 |.kz ..::_,_,_,_,_,a,_=>by simp[jU]at a
 |.nil _::_,_,_,_,_,a,_=>by simp[jU]at a
 |.ptr _::_,_,_,_,_,a,_=>by simp[jU]at a
 |[],_::_,_,_,_,_,h=>by simp[gq]at h
 |.dat _::_,[],_,_,_,_,h=>by simp[gq]at h
def Cr:∀rv:Rv,jU (E7 rv)=W
 |[]=>rfl|_::rv=>Cr rv
def KL(fr:bU S)(c:Operand)(b:Bool):(fr.tG c b).n=fr.n:=by
 unfold bU.tG;split
 .rename_i k;cases Nt k fr.n<;>rfl
 .rfl
variable {w:World}{fr:bU S}{a:Act}{c:Code}{b:Bool}{k:Nat}{rr:Option Nat}{P:Program}{Q:Exit->Act->World->Prop}
def FV{g:Gh}{c:Operand}(hn:fr.n<=bI)(hf:cQ g (bH fr) a w)(i:a.eval c=.bool b):cQ g (bH (fr.tG c b)) a w:=by
 unfold bU.tG;split
 .rename_i k;cases l:Nt k fr.n with
  |false=>exact hf|true=>
   have e:k<fr.n:=gU l;refine⟨hf.size,hf.df,λj t d=>?_⟩;simp at d;rw[bT,bU.j4 _ _ _ _ (iS e hn)]at d;by_cases f:j=k
   .subst f;rw[bB rfl]at d;simp at d;subst d;have h:j<a.tmps.size:=by rw[hf.size];exact e
    have:a.tmps[j]?=Z (.bool b):=by have:=i;simp[Act.eval,Array.getD_eq_getD_getElem?,uq h,Sf]at this;rw[uq h,this]
    exact⟨_,this,.kb b⟩
   .rw[bO f]at d;exact hf.tm j t (by rw[bT];exact d)
 .exact hf
def SH(hn:fr.n<=bI)(c:Operand)(b:Bool)(dr:L Nat)(aD:Nat):dW (S6 c) fr (fr.tG c b) dr aD:=by
 unfold bU.tG;split
 .rename_i k;cases d:Nt k fr.n with|false=>exact dW.refl _ _ _ _|true=>have a:k<fr.n:=gU d;refine⟨λj v e f=>.inl ?_,yq.refl _ _⟩;simp;rw[bU.j4 _ _ _ _ (iS a hn),bO (by simpa[S6]using e)];exact f
 .exact dW.refl _ _ _ _
theorem Vs{ω:Type}{e:Bool}{x y:O ω}{r:ω}(h:IB e x y=Z r):y=Z r∧(e=W->x=Z r):=by
 unfold IB at h
 grind
def qA(ds:L Nat):∀sh:Sh,E6 ds (O0 sh)=W
 |[]=>rfl|(_,.one _)::l=>qA ds l|(_,.box _)::l=>by
  have:=qA ds l
  simp_all[O0,E6]
 |(_,.hid _)::l=>by
  have:=qA ds l
  simp_all[O0,E6]
theorem ko{s:bg S}{fr:bU S}{k o r:Nat}(i:fr.get k=Z (.sh o r)):∀{sh:Sh}{ps:L Pk}{bs:L Nat}{vs:L (V S)}{nx:O Nat}{x:gp S.A ps}{fz ow f:L Nat},lO sh=ps->vI fr sh bs=Z vs->eM s ps vs nx=Z (x,fz,ow,f)->k∈PD sh->o∈ow
 |[],_,_,_,_,_,_,_,_,_,_,_,d=>by simp[PD]at d
 |(j,.one c)::sh,ps,bs,vs,nx,x,fz,ow,f,a,h1,h2,d=>by
  simp[vI]at h1;split at h1;rotate_left
  .cases h1
  rename_i p m g;simp at h1;subst h1
  replace a:Pk.one c::lO sh=ps:=a
  subst a;simp[eM]at h2;split at h2;rotate_left
  .cases h2
  rename_i q h;obtain⟨_,_,rfl,_⟩:=h2;cases c with
  |dat t=>exact eY _ (ko i rfl g h d)|kz n j t=>exact eY _ (ko i rfl g h d)|nil e=>exact eY _ (ko i rfl g h d)|ptr t=>exact eY _ (ko i rfl g h d)|own e=>
   obtain rfl|d:=ga.1 d
   .rw[i]at m;cases m;simp[o3]at q
    grind
   .exact eY _ (ko i rfl g h d)
 |(j,.box l)::sh,ps,[],vs,nx,x,fz,ow,f,a,h1,h2,d=>by simp[vI]at h1
 |(j,.box l)::sh,ps,b::bs,vs,nx,x,fz,ow,f,a,h1,h2,d=>by
  simp[vI]at h1;split at h1;rotate_left
  .cases h1
  rename_i g;simp at h1;subst h1
  replace a:Pk.box l::lO sh=ps:=a
  subst a;simp[eM]at h2;split at h2;rotate_left
  .cases h2
  obtain⟨_,h2⟩|⟨_,h2⟩:=af h2
  rotate_left
  .cases h2
  split at h2;rotate_left
  .cases h2
  split at h2;rotate_left
  .cases h2
  rename_i h;obtain⟨_,_,rfl,_⟩:=h2;exact eY _ (ko i rfl g h d)
 |(j,.hid l)::sh,ps,[],vs,nx,x,fz,ow,f,a,h1,h2,d=>by simp[vI]at h1
 |(j,.hid l)::sh,ps,b::bs,vs,Y,x,fz,ow,f,a,h1,h2,d=>by
  replace a:Pk.hid l::lO sh=ps:=a
  subst a;cases vs<;>simp[eM]at h2
 |(j,.hid l)::sh,ps,b::bs,vs,Z u,x,fz,ow,f,a,h1,h2,d=>by
  simp[vI]at h1
  replace a:Pk.hid l::lO sh=ps:=a
  subst a;obtain⟨_,h2⟩|⟨_,h2⟩:=af h2
  rotate_left
  .cases h2
  split at h2;rotate_left
  .cases h2
  split at h2;rotate_left
  .cases h2
  rename_i h;obtain⟨_,_,rfl,_⟩:=h2;exact eY _ (ko i rfl h1 h d)
def n9{ds:L Nat}{k:Nat}:∀{sh:Sh},k∈Yl ds sh->k∈PD sh
 |[],h=>h|(j,.one (.own e))::sh,h=>by
  simp only[Yl]at h;simp[PD,ga];obtain a|a:=Bool.eq_false_or_eq_true (ds.contains j)
  .rw[a]at h;exact .inr (n9 h)
  .rw[a]at h;obtain rfl|h:=ga.1 h
   .exact .inl rfl
   .exact .inr (n9 h)
 |(j,.one (.dat t))::sh,h=>n9 (sh:=sh) h|(j,.one (.kz ..))::sh,h=>n9 (sh:=sh) h|(j,.one (.nil _))::sh,h=>n9 (sh:=sh) h|(j,.one (.ptr _))::sh,h=>n9 (sh:=sh) h|(j,.box b)::sh,h=>n9 (sh:=sh) h|(j,.hid b)::sh,h=>n9 (sh:=sh) h
def W6{s c:bg S}{sh:Sh}{bs ow:L Nat}{x:gp S.A (lO sh)}{o r:Nat}(h:qF sh bs fr s=Z (x,c,ow))(d:k∈PD sh)(e:fr.get k=Z (.sh o r)):o∈ow:=by
 unfold qF at h;split at h
 .cases h
 rename_i a;split at h
 .cases h
 rename_i b;split at h
 .cases h
 obtain⟨_,h2⟩|⟨_,h2⟩:=af h
 .obtain ⟨_,_,rfl⟩:=h2;exact ko e rfl a b d
 .cases h2
def Ht(rr:O Nat)(P:Program)(c:Code)(Q:Exit->Act->World->Prop)(a:Act)(w:World):Prop:=
 ∀(b:Frame)(k:L Item)(cs:L Frame),b.roundOf=rr->∃e a' w',Q e a' w'∧ac1 rr P (lone (b.atR a (.code c::.inLoop c::k)) cs w) b k cs e a' w'
def J5(h:Ht rr P c Q a w):(Code.loop c).wpIn (WR rr) 0 P Q a w:=λb k g f _ _=>
 let ⟨e,i,j,l,d⟩:=h b k g f
 ⟨e,i,j,l,.of_steps (gz.2 (.one stepR_loop)) d⟩
def uB(h:c.wpIn (WR rr) 0 P (Exit.then (Ht rr P c Q) Q) a w):Ht rr P c Q a w:=by
 intro b k o i
 let ⟨e,j,m,g,d⟩:=h b (.inLoop c::k) o i trivial (MA _)
 cases e with
 |normal=>
  let ⟨p,q,r,n,f⟩:=g b k o i
  exact⟨p,q,r,n,.of_steps (gz.2 ((gz.1 d).trans (.one stepR_inLoop))) f⟩
 |exit id=>exact⟨_,j,m,g,.pass (x:=.inLoop c) rfl (λ_ _=>.inl (by simp)) d⟩
 |goto l=>exact⟨_,j,m,g,.pass (x:=.inLoop c) rfl (λ_ _=>.inl (by simp)) d⟩
 |ret=>exact⟨_,j,m,g,.pass (x:=.inLoop c) rfl (λ_ _=>.inl (by simp)) d⟩
 |panic s=>exact⟨_,j,m,g,.pass (x:=.inLoop c) rfl (λ_ _=>.inl (by simp)) d⟩
 |outgrown=>exact⟨_,j,m,g,.pass (x:=.inLoop c) rfl (λ_ _=>.inl (by simp)) d⟩
def PU(I:Act->World->Prop)(μ:Act->World->Nat)(round:∀a w,I a w->c.wpIn (WR rr) 0 P (Exit.then (λa' w'=>I a' w'∧μ a' w'<μ a w) Q) a w) :
  ∀(m:Nat)(a:Act)(w:World),μ a w<=m->I a w->Ht rr P c Q a w:=by
 intro m
 induction m with
 |zero=>
  intro a w f d;refine uB (wpIn_mono (round a w d) λe a' w' b=>?_);cases e with|normal=>have:=b.2;omega|_=>exact b
 |succ m g=>
  intro a w f d;refine uB (wpIn_mono (round a w d) λe a' w' b=>?_);cases e with|normal=>exact g a' w' (by have:=b.2;omega) b.1|_=>exact b
def xD{a:Bool}(h:(a&&b)=W):a=W∧b=W:=ze.1 h
theorem Sc{id:Nat}{ops:Array Oper}{d:Bool}(h:O1 (.region id ops d)=W):∀o∈ops.toList,∀c,o.op≠.defer c:=by
 grind[O1]
theorem Qb{E:eO S}(hE:fC E)(rv:Rv){rr:O Nat}{b:Code}{ev:{ω:Type}->(vg S->bU S->bg S->O ω)->bU S->bg S->O ω}
  (hev:∀{ω:Type}{Q:vg S->bU S->bg S->O ω}{r:ω}{fr:bU S}{s:bg S},ev Q fr s=Z r->fr.n<=bI->s.lo<=s.aD->∀{g:Gh}{a:Act}{w:World},cQ g (bH fr) a w->aV g (aC s) w->b.wpIn (WR rr) 0 E.T.E.P (IF (eT b++rv.map (·.1)) fr s g w Q r) a w)
  {ω:Type} {sh:Sh} {pts:L Pt} {al:L (Nat×Nat)} {Q:vg S->bU S->bg S->O ω} {r:ω} {fr:bU S} {s:bg S} (h:XD E rv ev sh pts al (eT b++rv.map (·.1)) (wN (lF b)) Q fr s=Z r) (hn:fr.n<=bI) (hlo:s.lo<=s.aD) {g:Gh} {a:Act} {w:World} (hf:cQ g (bH fr) a w) (hs:aV g (aC s) w) :
  b.wpIn (WR rr) 0 E.T.E.P (IF (eT b++rv.map (·.1)) fr s g w Q r) a w:=by
 unfold XD at h;split at h
 .cases h
 rename_i bs afn;split at h
 .cases h
 rename_i x0 u ow hpk;obtain⟨hb,h2⟩|⟨_,h2⟩:=af h
 rotate_left
 .cases h2
 clear h;rw[fF,fF]at hb
 let ⟨⟨Jn,z⟩,X2⟩:=hb
 rw[fF,fF]at z
 let ⟨z,X6,afJ⟩:=z
 let ⟨o,n,c⟩:=eB h2
 clear h2;generalize hds:(eT b++rv.map (·.1))++(Yl (eT b++rv.map (·.1)) sh++al.map (·.1))=ds at *
 let ⟨bl0,Qp⟩:=tC hf hs afn
 have KT:∀d∈ds,d<bI:=λd hd=>by rw[lB]at X2;exact iS (gU (X2 d hd)) hn
 have UZ:∀p∈al,p.1<bI:=λp hp=>KT _ (by grind);have UY:∀k∈al.map (·.1),k∈ds:=λk hk=>by grind
 let ⟨g1,V5,DA,bl1,i⟩:=kR hE.sg hf hs Qp hpk
 have Qn:=GY (fr:=fr) hf hs KT i;have afd:u.aD<=bI:=i.rel.aD;have X4:(cL ds ow bs fr u).1.n<=bI:=hn;have fix:∀{l:bU S},dW ds fr l (ow++u.dr) s.aD->dW (eT b++rv.map (·.1)) fr l (ow++u.dr) s.aD:=by
  intro l hfo;refine⟨λk v hk hv=>?_,hfo.df⟩;by_cases C:k∈ds
  .right
   rw[<-hds]at C;obtain C|C:=eZ.1 C
   .grind
   .obtain C|C:=eZ.1 C
    .unfold ab9 at z;rw[lB]at z;have h1:=z k C;split at h1
     .rename_i r' ho';rw[hv]at ho';cases ho';have:=W6 hpk (n9 C) hv;simp[cI,dJ,this]
     .cases h1
    .obtain ⟨p,hp,rfl⟩:=zc.1 C;obtain⟨o1,r1,rfl,this⟩:=Ov afJ hp hv;simp[cI,dJ,this]
  .exact hfo.tm k v C hv
 have X7:aab a w al:=xS hf hs X6;have hbase:xq sh bs (cL ds ow bs fr u).1 (cL ds ow bs fr u).2 s g w x0 a _ w V5 DA bl1:=Qn;unfold Fc at n;split at n
 .cases n
 rename_i afN A NI
 let ⟨gh,hh0,UT⟩:=hbase.head X4 NI
 have hh:=hh0.mT UZ X7;generalize mT A al afN=BU at hh n;have ap4:BU.n=fr.n:=hh.n;have ajp:A.lo<=A.aD:=by have h1:A.lo=s.lo:=hh.lo.trans i.lo;have h2:=hh.aD;have h3:(cL ds ow bs fr u).2.aD=u.aD:=rfl;have:=i.aD;omega
 have XX:u.aD<=A.aD:=hh.aD;have sB:aV gh (aC {A with lo:=u.aD}) _:=⟨hh.rel.aD,hh.rel.ah,hh.rel.box,hh.rel.arr,hh.rel.bp,hh.rel.j8⟩;have O3:A.lo=(cL ds ow bs fr u).2.lo:=hh.lo;refine wpIn_mono (hev n (by omega) XX hh.fr sB) λe Oy m hq=>?_;obtain hF|⟨ex,O4,s20,g2,h1,h2,h3,h4,h50,h60⟩:=hq
 .exact hF.elim
 have h5:=eL.lower (s:=A) h50 (by have:=hh.lo.trans i.lo;have:=i.aD;omega);rw[<-O3]at h2;dsimp only at h2;obtain⟨s2,LW⟩:∃s2:bg S,s2={s20 with lo:=A.lo}:=⟨_,rfl⟩;have h6:=h60;rw[show s20.dr=s2.dr by rw[LW]]at h6;rw[<-LW]at h2 h5;unfold Pq at h2
 replace h6:dW ds BU O4 s2.dr A.aD:=h6.mono (λk hk=>by grind) (λ_ h=>h)
 obtain⟨afy,h2⟩|⟨_,h2⟩:=af h2
 rotate_left
 .cases h2
 have Ql:s2.fl=s.fl:=h5.fl.trans (hh.fl.trans i.fl);have hmk:∀{KW:Gh},(∀o b,g2.bP o=Z b->KW.bP o=Z b)->Marks u.aD s.fl (cL ds ow bs fr u) O4 KW m:=λ{KW}hq=>by have:=Ae h5.rel afy;rw[Ql]at this;exact this.mono h4 hq
 have next:∀{K:Sh}{y:gp S.A (lO K)}{P s3:bg S}{KW:Gh}{LV:L Nat},eL A gh w P KW m->(∀o b,g2.bP o=Z b->KW.bP o=Z b)->cQ KW (bH O4) Oy m->dW ds BU O4 P.dr A.aD->qF K bs O4 P=Z (y,s3,LV)->
   TD u.aD bs s3.wr=W->LV.all (λo=>Nl u.aD o)=W->s3.dr.all (λo=>Nl u.aD o)=W->
   ∃B f R Bq,xq K bs (cL ds ow bs fr u).1 (cL ds ow bs fr u).2 s g w y Oy B m f R Bq∧∀b,KW.bp b->B.bp b:=by
  intro K y P s3 KW LV k1 k0 k2 k3 k4 k5 k6 k7
  let ⟨g3,f,R,Bq,hp2⟩:=kR hE.sg (bl0:=bl1) k2 k1.rel ⟨hbase.HW.1,λj o b q1 q2=>k1.ext.bP o b (hh.le.bP o b (hbase.HW.2 j o b q1 q2))⟩ k4
  let ⟨B,DP,pQ⟩:=JN UY KT (λb hb=>⟨by have:=(i.Tb b hb).2.1;rw[i.aD];exact this,(i.Tb b hb).2.2.1⟩) afd (by rw[i.aD];exact hlo) (λo ho=>(i.W5 o ho).2.1) (λo b hb=>⟨by rw[i.aD];exact hs.lt hb,λhm=>by rw[i.owb o hm]at hb;cases hb⟩) Jn i.lo i.fl UT hh k1 k2 k3 h3 (hmk k0) hp2 k5 k6 k7
  exact⟨B,f,R,Bq,DP,λb hb=>by rw[pQ];exact hp2.ext.bp b hb⟩
 have leave:∀{K:Sh}{y:gp S.A (lO K)}{B:Gh}{f:L Value}{R:L fh}{Bq:L Nat}{l:bU S}{F:bg S},E6 ds K=W->xq K bs (cL ds ow bs fr u).1 (cL ds ow bs fr u).2 s g w y Oy B m f R Bq->nu K bs y (cL ds ow bs fr u).1 (cL ds ow bs fr u).2=Z (l,F)->
   ∃gy,cQ gy (bH l) Oy m∧(∀b,B.bp b->gy.bp b)∧eL s g w {F with wr:=u.ob.jT (gL (dJ ow u.aD))++(bs++u.wr),dr:=ow++u.dr} gy m∧dW ds fr l (ow++u.dr) s.aD∧l.n=fr.n:=by
  intro K y B f R Bq l F afc k1 k2
  let ⟨gy,k3,k4⟩:=k1.head X4 k2
  let ⟨k5,k6,k7⟩:=Om (ex:=[]) (λ_ h=>by cases h) hs KT i afc k4 k3
  exact⟨gy,k3.fr,k3.le.bp,k5,k6,k7⟩
 cases h1 with
 |rU=>
  obtain⟨X9,h2⟩|⟨_,h2⟩:=af h2
  rotate_left
  .cases h2
  simp[vz]at h2;split at h2
  .rename_i y s3 LV I;obtain⟨hc,h2⟩|⟨_,h2⟩:=af h2
   rotate_left
   .cases h2
   simp only[fF]at hc
   let ⟨B,f,R,Bq,k1,_⟩:=next h5 (λ_ _ h=>h) h4 h6 I hc.1 hc.2.1 hc.2.2
   cases h2;simp only at c;split at c
   .cases c
   .rename_i l F UQ
    let ⟨gy,l1,_,l2,l3,l4⟩:=leave Jn k1 UQ
    let ⟨m1,m2,m3,m4⟩:=mz (s:=F) l2.rel UZ (xS h4 h5.rel X9) l1
    exact .inr ⟨.rU,mT F al l,_,gy,.rU,c,m2.trans l4,m1,l2,fix ⟨λk v hk hv=>by rw[m4 k λhm=>hk (UY k hm)];exact l3.tm k v hk hv,by rw[m3];exact l3.df⟩⟩
  .cases h2
 |ext j=>
  obtain⟨hj,h2⟩|⟨_,h2⟩:=af h2
  rotate_left
  .cases h2
  simp[vz]at h2;split at h2
  .rename_i y s3 LV I;obtain⟨hc,h2⟩|⟨_,h2⟩:=af h2
   rotate_left
   .cases h2
   simp only[fF]at hc
   let ⟨B,f,R,Bq,k1,_⟩:=next h5 (λ_ _ h=>h) h4 h6 I hc.1 hc.2.1 hc.2.2
   cases h2;simp only at c;split at c
   .cases c
   .rename_i l F UQ
    let ⟨gy,l1,_,l2,l3,l4⟩:=leave Jn k1 UQ
    rw[fF]at hj;have hjm:j∈wN (lF b):=by grind
    let ⟨m1,m2,m3,m4⟩:=mz (s:=F) l2.rel UZ (xS h4 h5.rel hj.2) l1
    exact .inr ⟨.ext j,mT F al l,_,gy,.ext j,zh hjm c,m2.trans l4,m1,l2,fix ⟨λk v hk hv=>by rw[m4 k λhm=>hk (UY k hm)];exact l3.tm k v hk hv,by rw[m3];exact l3.df⟩⟩
  .cases h2
 |ret=>
  simp only at h2;split at h2
  .cases h2
  rename_i vs hvs;split at h2;rotate_left
  .cases h2
  rename_i r' fz owr UO;split at h2;rotate_left
  .cases h2
  rename_i P hfz;simp[vz]at h2;split at h2
  .rename_i y s3 LV I;obtain⟨hc,h2⟩|⟨_,h2⟩:=af h2
   rotate_left
   .cases h2
   simp only[fF]at hc
   let ⟨ahA,zo,pP⟩:=Kl h4 hvs
   let ⟨p1,p2,p3⟩:=gw hE.sg h5.rel UO pP
   let ⟨g3,Qf,EB,Qk⟩:=eG fz h5.rel (dw hE.sg _ hfz) p1
   have afj:owr=[]:=qG (Cr rv) UO
   let ⟨YT,sB,_⟩:=p3 g3 (aC P) fz Qf EB Qk (λo ho=>ho) (λo ho=>by simp_all)
   let ⟨f1,f2,f3,f4,f5,f6,f7⟩:=eN hfz
   have wE:eL s2 g2 m P g3 m:=⟨Qf,EB.H7 _,f1,f2,MG f3.symm,f4,λo _ ho=>f5 o ho,λo ho=>by grind⟩;have hf3:cQ g3 (bH O4) Oy m:=h4.ext EB h5.rel.bp
   let ⟨B,f,R,Bq,k1,k2⟩:=next (h5.trans wE) EB.bP hf3 (by grind) I hc.1 hc.2.1 hc.2.2
   cases h2;simp only at c;split at c
   .cases c
   .rename_i l F UQ
    let ⟨gy,l1,l0,l2,l3,l4⟩:=leave (qA ds sh) k1 UQ
    let ⟨m1,m2,m3⟩:=vY (g:=gy) (w:=m) (a:=Oy) (fr:=l) sB (λb hb=>l0 b (k2 b hb)) zo (by omega) l1
    have hdf:∀(rv:Rv)(r:gH S.A (E7 rv))(fr:bU S),(yu rv r fr).df=fr.df:=by
     intro rv
     induction rv with|nil=>intro _ _;rfl|cons q rv ih=>intro r fr;let ⟨k,t⟩:=q;exact ih _ _
    refine .inr ⟨.ret,_,_,gy,.ret,c,m2.trans l4,m1,l2,⟨λk v hk hv=>?_,by rw[hdf];exact l3.df⟩⟩;rw[m3 k (λhm=>hk (eY _ hm))];exact(fix l3).tm k v hk hv
  .cases h2
 |iJ t v hv=>
  obtain⟨hpn,h2⟩|⟨_,h2⟩:=af h2
  rotate_left
  .cases h2
  split at h2;rotate_left
  .cases h2
  rename_i r' fz owr UO;split at h2;rotate_left
  .cases h2
  rename_i P hfz;simp[vz]at h2;split at h2;rotate_left
  .cases h2
  rename_i I;obtain⟨hc,h2⟩|⟨_,h2⟩:=af h2
  rotate_left
  .cases h2
  simp only[fF]at hc;have pP:PW (aH g2 m) (bu [t]) [v]:=⟨rfl,λj t' v' q1 q2=>by
   grind[bu]⟩
  let ⟨p1,p2,p3⟩:=gw hE.sg h5.rel UO pP
  let ⟨g3,Qf,EB,Qk⟩:=eG fz h5.rel (dw hE.sg _ hfz) p1
  have afj:owr=[]:=qG (cs:=[.dat S.pt]) rfl UO
  let ⟨YT,sB,_⟩:=p3 g3 (aC P) fz Qf EB Qk (λo ho=>ho) (λo ho=>by grind)
  let ⟨f1,f2,f3,f4,f5,f6,f7⟩:=eN hfz
  have wE:eL s2 g2 m P g3 m:=⟨Qf,EB.H7 _,f1,f2,MG f3.symm,f4,λo _ ho=>f5 o ho,λo ho=>by grind⟩;have hf3:cQ g3 (bH O4) Oy m:=h4.ext EB h5.rel.bp
  let ⟨B,f,R,Bq,k1,k2⟩:=next (h5.trans wE) EB.bP hf3 (by grind) I hc.1 hc.2.1 hc.2.2
  cases h2;simp only at c;obtain⟨_,c⟩|⟨_,c⟩:=af c
  rotate_left
  .cases c
  split at c
  .cases c
  .rename_i l F UQ
   let ⟨gy,l1,l0,l2,l3,l4⟩:=leave (qA ds sh) k1 UQ
   refine .inr ⟨.iJ (.ty S.pt r'.1),l,_,gy,.iJ _ v ?_,c,l4,l1,l2,fix l3⟩;cases sB with|@dat _ _ x h v vs al hd hr=>exact qv (hd.le λb hb=>l0 b (k2 b hb))
theorem qh{E:eO S}(hE:fC E){call:gn S}(wD:gO E.T.E.P call)(ajJ:sS E call)(n:Nat)(fid:FuncId)(rv:Rv){rr:O Nat}:∀(c:Code)(i:Nat){ω:Type}{Q:vg S->bU S->bg S->O ω}{r:ω}{fr:bU S}{s:bg S},
  zw E call n fid rv c i Q fr s=Z r->(rr≠Y->O1 c=W)->fr.n<=bI->s.lo<=s.aD->∀{g:Gh}{a:Act}{w:World},cQ g (bH fr) a w->aV g (aC s) w->c.wpIn (WR rr) 0 E.T.E.P (IF (eT c++rv.map (·.1)) fr s g w Q r) a w:=by
 intro c
 induction c with
 |region id ops draw=>
  intro i ω Q r fr s h A hn hlo g a w hf hs;cases draw with
  |true=>
   obtain⟨hb,h⟩|⟨_,h⟩:=af h
   rotate_left
   .cases h
   refine ajJ id ops _ _ r fr s hb h hn hf hs (λl s' g' K I h1 h2 h3 h4 h5=>.inr ⟨.rU,l,s',g',.rU,h1,h2,h3,h4,h5.mono (λk B=>fU _ B) (λ_ h=>h)⟩)
    (λl t s' g' K v I h1 h2 h3 h4 h6 h5=>.inr ⟨.iJ t,l,s',g',.iJ t v h5,h1,h2,h3,h4,h6.mono (λk B=>fU _ B) (λ_ h=>h)⟩) rr A
  |false=>
   refine Wk ?_;have:=Dl hE wD (Q:=IF (eT (.region id ops J)++rv.map (·.1)) fr s g w Q r) (rr:=rr) (λhr=>Sc (A hr)) ops.toList 0 rfl hn h hf hs
    (λl s' g' K I h1 h2 h3 h4 h5=>.inr ⟨.rU,l,s',g',.rU,h1,h2,h3,h4,h5.mono (λk B=>fU _ B) (λ_ h=>h)⟩)
    (λl t s' g' K v I h1 h2 h3 h4 h6 h5=>.inr ⟨.iJ t,l,s',g',.iJ t v h5,h1,h2,h3,h4,h6.mono (λk B=>fU _ B) (λ_ h=>h)⟩)
   grind[List.range_eq_range']
 |seq x y ihx ihy=>
  intro i ω Q r fr s h A hn hlo g a w hf hs;have hds:∀k∈(eT x++rv.map (·.1))++(eT y++rv.map (·.1)),k∈eT (.seq x y)++rv.map (·.1):=by
   grind[eT]
  refine wpIn_seq (wpIn_mono (ihx i h (λhr=>(xD (A hr)).1) hn hlo hf hs) λe K I hq=>?_);obtain hF|⟨ex,l,s',g',h1,h2,h3,h4,h5,h6⟩:=hq
  .exact hF.elim
  .cases h1 with
   |rU=>have:=ihy i h2 (λhr=>(xD (A hr)).2) (by omega) (by rw[h5.lo];exact gD hlo h5.aD) h4 h5.rel;exact wpIn_mono this λe a w hq=>(IF.mono h3 h5 h6 hq).ds hds
   |ext j=>exact .inr ⟨_,l,s',g',.ext j,h2,h3,h4,h5,h6.mono (λk B=>hds k (fU _ B)) (λ_ h=>h)⟩|ret=>exact .inr ⟨_,l,s',g',.ret,h2,h3,h4,h5,h6.mono (λk B=>hds k (fU _ B)) (λ_ h=>h)⟩|iJ t v hv=>exact .inr ⟨_,l,s',g',.iJ t v hv,h2,h3,h4,h5,h6.mono (λk B=>hds k (fU _ B)) (λ_ h=>h)⟩
 |cond c x y ihx ihy=>
  intro i ω Q r fr s h A hn hlo g a w hf hs;have cnd:∀{ω:Type}{Q:vg S->bU S->bg S->O ω}{r:ω}{fr:bU S}{s:bg S},S5 c (zw E call n fid rv x i) (zw E call n fid rv y i) Q fr s=Z r->fr.n<=bI->s.lo<=s.aD->∀{g:Gh}{a:Act}{w:World},cQ g (bH fr) a w->aV g (aC s) w->
    (Code.cond c x y).wpIn (WR rr) 0 E.T.E.P (IF (eT (.cond c x y)++rv.map (·.1)) fr s g w Q r) a w:=by
   clear h hn hlo hf hs;intro ω Q r fr s h hn hlo g a w hf hs;have hx:∀k∈eT x++rv.map (·.1),k∈eT (.cond c x y)++rv.map (·.1):=by
    grind[eT]
   have hy:∀k∈eT y++rv.map (·.1),k∈eT (.cond c x y)++rv.map (·.1):=by
    grind[eT]
   have R:∀k∈S6 c,k∈eT (.cond c x y)++rv.map (·.1):=by
    grind[eT]
   have tru:a.eval c=.bool W->zw E call n fid rv x i Q (fr.tG c W) s=Z r->x.wpIn (WR rr) 0 E.T.E.P (IF (eT (.cond c x y)++rv.map (·.1)) fr s g w Q r) a w:=λhv h=>
    wpIn_mono (ihx i h (λhr=>(xD (A hr)).1) (by rw[KL];exact hn) hlo (FV hn hf hv) hs) λe a w hq=>(IF.mono (KL _ _ _) (eL.refl hs) (SH hn c W _ _) hq).ds λk B=>(eZ.1 B).elim (R k) (hx k)
   have fls:a.eval c=.bool J->zw E call n fid rv y i Q (fr.tG c J) s=Z r->y.wpIn (WR rr) 0 E.T.E.P (IF (eT (.cond c x y)++rv.map (·.1)) fr s g w Q r) a w:=λhv h=>
    wpIn_mono (ihy i h (λhr=>(xD (A hr)).2) (by rw[KL];exact hn) hlo (FV hn hf hv) hs) λe a w hq=>(IF.mono (KL _ _ _) (eL.refl hs) (SH hn c J _ _) hq).ds λk B=>(eZ.1 B).elim (R k) (hy k)
   unfold S5 at h;split at h
   .rename_i R;have:=bQ hf (cC R);generalize hv:a.eval c=v at this;cases this;exact wpIn_cond_true hv (wpIn_mono (ihx i h (λhr=>(xD (A hr)).1) hn hlo hf hs) λe a w hq=>hq.ds hx)
   .rename_i R;have:=bQ hf (cC R);generalize hv:a.eval c=v at this;cases this;exact wpIn_cond_false hv (wpIn_mono (ihy i h (λhr=>(xD (A hr)).2) hn hlo hf hs) λe a w hq=>hq.ds hy)
   .rename_i e R;have:=bQ hf (cC R);generalize hv:a.eval c=v at this
    let ⟨h2,h1⟩:=Vs h
    cases this with
    |ub _ b hb=>
     simp_all[wpIn_cond_split]
   .rename_i t _ _ _ R;split at h
    .rename_i b hb
     let ⟨p,e,hp⟩:=mJ hb
     have hv:=ju e hp (bQ hf (cC R))
     grind[wpIn_cond_split,s7]
    .cases h
   .cases h
  grind[zw,Qb]
 |block j b ih=>
  intro i ω Q r fr s h A hn hlo g a w hf hs;refine wpIn_block (wpIn_mono (ih j h A hn hlo hf hs) λe K I hq=>?_);obtain hF|⟨ex,l,s',g',h1,h2,h3,h4,h5,h6⟩:=hq
  .exact hF.elim
  .cases h1 with
   |rU=>exact .inr ⟨_,l,s',g',.rU,h2,h3,h4,h5,h6⟩|ext k=>
    simp[NQ]at h2;simp[Exit.inBlock];split at h2
    .rename_i hji;rw[bB (beq_iff'.1 hji)];exact .inr ⟨_,l,s',g',.rU,h2,h3,h4,h5,h6⟩
    .rw[bO (λe=>by simp_all)];exact .inr ⟨_,l,s',g',.ext k,h2,h3,h4,h5,h6⟩
   |ret=>exact .inr ⟨_,l,s',g',.ret,h2,h3,h4,h5,h6⟩|iJ t v hv=>exact .inr ⟨_,l,s',g',.iJ t v hv,h2,h3,h4,h5,h6⟩
 |loop b ih=>
  intro i ω Q r fr s h A hn hlo g a w hf hs;simp[zw]at h;split at h
  .cases h
  rename_i sh pts al pl hsh;refine J5 ?_;clear hsh
  induction pl generalizing fr s g a w with
  |succ pl ihp=>
   refine uB (wpIn_mono (ih i h A hn hlo hf hs) λe K I hq=>?_);obtain hF|⟨ex,l,s',g',h1,h2,h3,h4,h5,h6⟩:=hq
   .exact hF.elim
   have hds:∀k∈eT b++rv.map (·.1),k∈eT (.loop b)++rv.map (·.1):=λk B=>B;cases h1 with
   |rU=>
    intro b1 k1 cs1 aff;have ihq:=ihp (fr:=l) (s:=s') (g:=g') (a:=K) (w:=I) (h:=h2) (hn:=by omega) (hlo:=by rw[h5.lo];exact gD hlo h5.aD) (hf:=h4) (hs:=h5.rel)
    let ⟨e,a2,w2,hq,KV⟩:=ihq b1 k1 cs1 aff
    refine⟨e,a2,w2,?_,KV⟩;exact(IF.mono h3 h5 h6 hq).ds λk B=>(eZ.1 B).elim (hds k) id
   |ext j=>exact .inr ⟨_,l,s',g',.ext j,h2,h3,h4,h5,h6⟩|ret=>exact .inr ⟨_,l,s',g',.ret,h2,h3,h4,h5,h6⟩|iJ t v hv=>exact .inr ⟨_,l,s',g',.iJ t v hv,h2,h3,h4,h5,h6⟩
  |zero=>
  simp[W0]at h
  suffices main:∀{fr:bU S}{s:bg S}{g:Gh}{a:Act}{w:World},Xp E n rv (zw E call n fid rv b i) sh pts al (eT b++rv.map (·.1)) (wN (lF b)) Q fr s=Z r->fr.n<=bI->s.lo<=s.aD->cQ g (bH fr) a w->aV g (aC s) w->Ht rr E.T.E.P b (IF (eT (.loop b)++rv.map (·.1)) fr s g w Q r) a w by
   obtain⟨_,h⟩|⟨_,h⟩:=af h
   rotate_left
   .simp_all
   obtain⟨hnb,h⟩|⟨_,h⟩:=af h
   rotate_left
   .cases h
   have hnb:s.aD<bI:=gU hnb;have hg:∀k,(dj s .FG).ob.get k=if k=s.aD then Z .FG else s.ob.get k:=λk=>Tr.aR _ _ _ _ hnb
   have zY:aV g (aC (dj s .FG)) w:=by
    refine⟨hnb,λo ho=>hs.ah o (Nat.le_of_succ_le ho),λo b hb=>?_,λo e x hx=>?_,hs.bp,hs.j8⟩
    .let ⟨k1,k2,k3⟩:=hs.box o b hb
     refine⟨k1,k2,λob mP=>k3 ob ?_⟩;have:=hs.lt hb;rw[aJ,hg,bO (by have h:o<s.aD:=this;omega)]at mP;rw[aJ];exact mP
    .let ⟨k1,k2⟩:=hs.arr o e x hx
     refine⟨k1,λob mP=>k2 ob ?_⟩;have:=hs.lt' hx;rw[aJ,hg,bO (by have h:o<s.aD:=this;omega)]at mP;rw[aJ];exact mP
   have wE:eL s g w (dj s .FG) g w:=by refine⟨zY,oK.refl _ _ _ _,rfl,rfl,CS _,λ_ h=>h,λo ho _=>?_,λ_ h=>h⟩;rw[hg,bO (by omega)]
   intro b1 k1 cs1 aff
   let ⟨e,a2,w2,hq,KV⟩:=main (fr:={fr with df:=.marks s.aD::fr.df}) (s:=dj s .FG) h hn (Nat.le_succ_of_le hlo) ⟨hf.size,.marks s.aD [] .nil (λb hb=>by cases hb) hf.df,hf.tm⟩ zY b1 k1 cs1 aff
   refine⟨e,a2,w2,?_,KV⟩;exact(IF.mono (ds:=[]) (fr:=fr) (tJ:={fr with df:=.marks s.aD::fr.df}) rfl wE ⟨λk v _ B=>.inl B,[.marks s.aD],fr.df,rfl,.refl _ _⟩ hq).ds λk B=>B
  clear h hn hlo hf hs;intro fr s g a w h hn hlo hf hs;unfold Xp at h;split at h
  .cases h
  rename_i bs afn;split at h
  .cases h
  rename_i x0 s1 ow hpk;obtain⟨hb,h2⟩|⟨_,h2⟩:=af h
  rotate_left
  .cases h2
  clear h;rw[fF,fF]at hb
  let ⟨⟨Jn,Jq⟩,X2⟩:=hb
  rw[fF,fF]at Jq
  let ⟨Jq,X6,afJ⟩:=Jq
  let ⟨o,ajw,u⟩:=eB h2
  clear h2;generalize hds:(eT b++rv.map (·.1))++(Yl (eT b++rv.map (·.1)) sh++al.map (·.1))=ds at *
  let ⟨bl0,Qp⟩:=tC hf hs afn
  have KT:∀d∈ds,d<bI:=λd hd=>by rw[lB]at X2;exact iS (gU (X2 d hd)) hn
  have UZ:∀p∈al,p.1<bI:=λp hp=>KT _ (by grind);have UY:∀k∈al.map (·.1),k∈ds:=λk B=>by grind
  let ⟨g1,V5,DA,bl1,C⟩:=kR hE.sg hf hs Qp hpk
  have Qn:=GY (fr:=fr) hf hs KT C;have afd:s1.aD<=bI:=C.rel.aD;have X4:(cL ds ow bs fr s1).1.n<=bI:=hn;have fix:∀{P:bU S},dW ds fr P (ow++s1.dr) s.aD->dW (eT (.loop b)++rv.map (·.1)) fr P (ow++s1.dr) s.aD:=by
   intro P hfo;refine⟨λk v B hv=>?_,hfo.df⟩;by_cases yf:k∈ds
   .right
    rw[<-hds]at yf;obtain yf|yf:=eZ.1 yf
    .exact absurd yf B
    .obtain yf|yf:=eZ.1 yf
     .unfold ab9 at Jq;rw[lB]at Jq;have h1:=Jq k yf;split at h1
      .rename_i o' r' ho';rw[hv]at ho';cases ho';have:=W6 hpk (n9 yf) hv;simp[cI,dJ,this]
      .cases h1
     .obtain ⟨p,hp,rfl⟩:=zc.1 yf;obtain⟨o1,r1,rfl,this⟩:=Ov afJ hp hv;simp[cI,dJ,this]
   .exact hfo.tm k v yf hv
  let Inv (K:Act) (I:World) (m:Nat):Prop:=aab K I al∧∃x gb vals als bl,iter (Fc rv (zw E call n fid rv b i) sh bs s1.aD (wN (lF b)) (cL ds ow bs fr s1) E.pn al) m x=Z o∧xq sh bs (cL ds ow bs fr s1).1 (cL ds ow bs fr s1).2 s g w x K gb I vals als bl
  have XZ:∀(K:Act)(I:World),∃m,(∃k,Inv K I k)->Inv K I m∧∀k,Inv K I k->m<=k:=by
   intro K I;by_cases hex:∃k,Inv K I k
   .obtain ⟨m,hm,hmin⟩:=Uz (λk=>Inv K I k) hex;exact⟨m,λ_=>⟨hm,hmin⟩⟩
   .exact ⟨0,λh=>absurd h hex⟩
  obtain⟨f,hM⟩:∃f:Act->World->Nat,∀K I,(∃k,Inv K I k)->Inv K I (f K I)∧∀k,Inv K I k->f K I<=k:=
   ⟨λK I=>Classical.choose (XZ K I),λK I=>Classical.choose_spec (XZ K I)⟩
  refine PU (λK I=>∃k,Inv K I k) f ?_ _ a w (eR _) ⟨n,xS hf hs X6,x0,_,V5,DA,bl1,ajw,Qn⟩;intro K I hI
  let ⟨⟨X7,x,gb,vals,als,bl,hit,hbase⟩,hmin⟩:=hM K I hI
  let ⟨m,hm,o',Gg,Di⟩:=UK hit
  unfold Fc at Gg;split at Gg
  .cases Gg
  rename_i afN y4 NI
  let ⟨gh,hh0,UT⟩:=hbase.head X4 NI
  have hh:=hh0.mT UZ X7;generalize mT y4 al afN=BU at hh Gg;have ap4:BU.n=fr.n:=hh.n;have ajp:y4.lo<=y4.aD:=by have h1:y4.lo=s.lo:=hh.lo.trans C.lo;have h2:=hh.aD;have h3:(cL ds ow bs fr s1).2.aD=s1.aD:=rfl;have:=C.aD;omega
  have XX:s1.aD<=y4.aD:=hh.aD;have sB:aV gh (aC {y4 with lo:=s1.aD}) _:=⟨hh.rel.aD,hh.rel.ah,hh.rel.box,hh.rel.arr,hh.rel.bp,hh.rel.j8⟩;have O3:y4.lo=(cL ds ow bs fr s1).2.lo:=hh.lo;refine wpIn_mono (ih i Gg A (by omega) XX hh.fr sB) λe Oy F hq=>?_;obtain hF|⟨ex,O4,s20,g2,h1,h2,h3,h4,h50,h60⟩:=hq
  .exact hF.elim
  have h5:=eL.lower (s:=y4) h50 (by have:=hh.lo.trans C.lo;have:=C.aD;omega);rw[<-O3]at h2;dsimp only at h2;obtain⟨s2,LW⟩:∃s2:bg S,s2={s20 with lo:=y4.lo}:=⟨_,rfl⟩;have h6:=h60;rw[show s20.dr=s2.dr by rw[LW]]at h6;rw[<-LW]at h2 h5;unfold Pq at h2
  replace h6:dW ds BU O4 s2.dr y4.aD:=h6.mono (λk B=>by grind) (λ_ h=>h)
  obtain⟨afy,h2⟩|⟨_,h2⟩:=af h2
  rotate_left
  .cases h2
  have Ql:s2.fl=s.fl:=h5.fl.trans (hh.fl.trans C.fl);have hmk:∀{KW:Gh},(∀o b,g2.bP o=Z b->KW.bP o=Z b)->Marks s1.aD s.fl (cL ds ow bs fr s1) O4 KW F:=λ{KW}hq=>by have:=Ae h5.rel afy;rw[Ql]at this;exact this.mono h4 hq
  have next:∀{Pf:Sh}{y:gp S.A (lO Pf)}{s2' s3:bg S}{KW:Gh}{LV:L Nat},eL y4 gh I s2' KW F->(∀o b,g2.bP o=Z b->KW.bP o=Z b)->cQ KW (bH O4) Oy F->dW ds BU O4 s2'.dr y4.aD->qF Pf bs O4 s2'=Z (y,s3,LV)->
    TD s1.aD bs s3.wr=W->LV.all (λo=>Nl s1.aD o)=W->s3.dr.all (λo=>Nl s1.aD o)=W->
    ∃U3 z vC Bq,xq Pf bs (cL ds ow bs fr s1).1 (cL ds ow bs fr s1).2 s g w y Oy U3 F z vC Bq∧∀b,KW.bp b->U3.bp b:=by
   intro Pf y s2' s3 KW LV k1 k0 k2 k3 k4 k5 k6 k7
   let ⟨g3,z,vC,Bq,hp2⟩:=kR hE.sg (bl0:=bl) k2 k1.rel ⟨hbase.HW.1,λj o b q1 q2=>k1.ext.bP o b (hh.le.bP o b (hbase.HW.2 j o b q1 q2))⟩ k4
   let ⟨U3,DP,pQ⟩:=JN UY KT (λb hb=>⟨by have:=(C.Tb b hb).2.1;rw[C.aD];exact this,(C.Tb b hb).2.2.1⟩) afd (by rw[C.aD];exact hlo) (λo ho=>(C.W5 o ho).2.1) (λo b hb=>⟨by rw[C.aD];exact hs.lt hb,λhm=>by rw[C.owb o hm]at hb;cases hb⟩) Jn C.lo C.fl UT hh k1 k2 k3 h3 (hmk k0) hp2 k5 k6 k7
   exact⟨U3,z,vC,Bq,DP,λb hb=>by rw[pQ];exact hp2.ext.bp b hb⟩
  have leave:∀{Pf:Sh}{y:gp S.A (lO Pf)}{U3:Gh}{z:L Value}{vC:L fh}{Bq:L Nat}{P:bU S}{sty:bg S},E6 ds Pf=W->xq Pf bs (cL ds ow bs fr s1).1 (cL ds ow bs fr s1).2 s g w y Oy U3 F z vC Bq->nu Pf bs y (cL ds ow bs fr s1).1 (cL ds ow bs fr s1).2=Z (P,sty)->
    ∃gy,cQ gy (bH P) Oy F∧(∀b,U3.bp b->gy.bp b)∧eL s g w {sty with wr:=s1.ob.jT (gL (dJ ow s1.aD))++(bs++s1.wr),dr:=ow++s1.dr} gy F∧dW ds fr P (ow++s1.dr) s.aD∧P.n=fr.n:=by
   intro Pf y U3 z vC Bq P sty afc k1 k2
   let ⟨gy,k3,k4⟩:=k1.head X4 k2
   let ⟨k5,k6,k7⟩:=Om (ex:=[]) (λ_ h=>by cases h) hs KT C afc k4 k3
   exact⟨gy,k3.fr,k3.le.bp,k5,k6,k7⟩
  cases h1 with
  |rU=>
   obtain⟨X9,h2⟩|⟨_,h2⟩:=af h2
   rotate_left
   .cases h2
   simp[vz]at h2;split at h2
   .rename_i y s3 LV Qg;obtain⟨R,h2⟩|⟨_,h2⟩:=af h2
    rotate_left
    .cases h2
    simp only[fF]at R
    let ⟨U3,z,vC,Bq,k1,_⟩:=next h5 (λ_ _ h=>h) h4 h6 Qg R.1 R.2.1 R.2.2
    cases h2;obtain⟨y',hy',abQ⟩|⟨rfl,hno⟩:=Di
    .cases hy';have hIy:Inv Oy F m:=⟨xS h4 h5.rel X9,y,U3,z,vC,Bq,abQ,k1⟩;refine⟨⟨m,hIy⟩,?_⟩;have:=(hM Oy F ⟨m,hIy⟩).2 m hIy;omega
    grind
   .cases h2
  |ext j=>
   obtain⟨hj,h2⟩|⟨_,h2⟩:=af h2
   rotate_left
   .cases h2
   simp[vz]at h2;split at h2
   .rename_i y s3 LV Qg;obtain⟨R,h2⟩|⟨_,h2⟩:=af h2
    rotate_left
    .cases h2
    simp only[fF]at R
    let ⟨U3,z,vC,Bq,k1,_⟩:=next h5 (λ_ _ h=>h) h4 h6 Qg R.1 R.2.1 R.2.2
    cases h2;obtain⟨y',hy',abQ⟩|⟨rfl,hno⟩:=Di
    .cases hy'
    .simp only at u;split at u
     .cases u
     .rename_i P sty UQ
      let ⟨gy,l1,_,l2,l3,l4⟩:=leave Jn k1 UQ
      rw[fF]at hj;have hjm:j∈wN (lF b):=by grind
      let ⟨m1,m2,m3,m4⟩:=mz (s:=sty) l2.rel UZ (xS h4 h5.rel hj.2) l1
      exact .inr ⟨.ext j,mT sty al P,_,gy,.ext j,zh hjm u,m2.trans l4,m1,l2,fix ⟨λk v B hv=>by rw[m4 k λhm=>B (UY k hm)];exact l3.tm k v B hv,by rw[m3];exact l3.df⟩⟩
   .cases h2
  |ret=>
   simp only at h2;split at h2
   .cases h2
   rename_i vs hvs;split at h2;rotate_left
   .cases h2
   rename_i r' fz owr UO;split at h2;rotate_left
   .cases h2
   rename_i s2' hfz;simp[vz]at h2;split at h2
   .rename_i y s3 LV Qg;obtain⟨R,h2⟩|⟨_,h2⟩:=af h2
    rotate_left
    .cases h2
    simp only[fF]at R
    let ⟨ahA,zo,pP⟩:=Kl h4 hvs
    let ⟨p1,p2,p3⟩:=gw hE.sg h5.rel UO pP
    let ⟨g3,Qf,EB,Qk⟩:=eG fz h5.rel (dw hE.sg _ hfz) p1
    have afj:owr=[]:=qG (Cr rv) UO
    let ⟨YT,sB,_⟩:=p3 g3 (aC s2') fz Qf EB Qk (λo ho=>ho) (λo ho=>by grind)
    let ⟨f1,f2,f3,f4,f5,f6,f7⟩:=eN hfz
    have wE:eL s2 g2 F s2' g3 F:=⟨Qf,EB.H7 _,f1,f2,MG f3.symm,f4,λo _ ho=>f5 o ho,λo ho=>by grind⟩;have hf3:cQ g3 (bH O4) Oy F:=h4.ext EB h5.rel.bp
    let ⟨U3,z,vC,Bq,k1,k2⟩:=next (h5.trans wE) EB.bP hf3 (by grind) Qg R.1 R.2.1 R.2.2
    cases h2;obtain⟨y',hy',abQ⟩|⟨rfl,hno⟩:=Di
    .cases hy'
    .simp only at u;split at u
     .cases u
     .rename_i P sty UQ
      let ⟨gy,l1,l0,l2,l3,l4⟩:=leave (qA ds sh) k1 UQ
      let ⟨m1,m2,m3⟩:=vY (g:=gy) (w:=F) (a:=Oy) (fr:=P) sB (λb hb=>l0 b (k2 b hb)) zo (by omega) l1
      have hdf:∀(rv:Rv)(r:gH S.A (E7 rv))(fr:bU S),(yu rv r fr).df=fr.df:=by
       intro rv
       induction rv with|nil=>intro _ _;rfl|cons q rv ih=>intro r fr;let ⟨k,t⟩:=q;exact ih _ _
      refine .inr ⟨.ret,_,_,gy,.ret,u,m2.trans l4,m1,l2,⟨λk v B hv=>?_,by rw[hdf];exact l3.df⟩⟩;rw[m3 k (λhm=>B (eY _ hm))];exact(fix l3).tm k v B hv
   .cases h2
  |iJ t v hv=>
   obtain⟨hpn,h2⟩|⟨_,h2⟩:=af h2
   rotate_left
   .cases h2
   split at h2;rotate_left
   .cases h2
   rename_i r' fz owr UO;split at h2;rotate_left
   .cases h2
   rename_i s2' hfz;simp[vz]at h2;split at h2;rotate_left
   .cases h2
   rename_i Qg;obtain⟨R,h2⟩|⟨_,h2⟩:=af h2
   rotate_left
   .cases h2
   simp only[fF]at R;have pP:PW (aH g2 F) (bu [t]) [v]:=⟨rfl,λj t' v' q1 q2=>by
    grind[bu]⟩
   let ⟨p1,p2,p3⟩:=gw hE.sg h5.rel UO pP
   let ⟨g3,Qf,EB,Qk⟩:=eG fz h5.rel (dw hE.sg _ hfz) p1
   have afj:owr=[]:=qG (cs:=[.dat S.pt]) rfl UO
   let ⟨YT,sB,_⟩:=p3 g3 (aC s2') fz Qf EB Qk (λo ho=>ho) (λo ho=>by grind)
   let ⟨f1,f2,f3,f4,f5,f6,f7⟩:=eN hfz
   have wE:eL s2 g2 F s2' g3 F:=⟨Qf,EB.H7 _,f1,f2,MG f3.symm,f4,λo _ ho=>f5 o ho,λo ho=>by grind⟩;have hf3:cQ g3 (bH O4) Oy F:=h4.ext EB h5.rel.bp
   let ⟨U3,z,vC,Bq,k1,k2⟩:=next (h5.trans wE) EB.bP hf3 (by grind) Qg R.1 R.2.1 R.2.2
   cases h2;obtain⟨y',hy',abQ⟩|⟨rfl,hno⟩:=Di
   .cases hy'
   .obtain ⟨_,u⟩|⟨_,u⟩:=af u
    rotate_left
    .cases u
    split at u
    .cases u
    .rename_i P sty UQ
     let ⟨gy,l1,l0,l2,l3,l4⟩:=leave (qA ds sh) k1 UQ
     refine .inr ⟨.iJ (.ty S.pt r'.1),P,_,gy,.iJ _ v ?_,u,l4,l1,l2,fix l3⟩;cases sB with|@dat _ _ x h v vs al hd hr=>exact qv (hd.le λb hb=>l0 b (k2 b hb))
 |exit j=>intro i ω Q r fr s h A hn hlo g a w hf hs;exact wpIn_exit (.inr ⟨_,fr,s,g,.ext j,h,rfl,hf,eL.refl hs,dW.refl _ _ _ _⟩)
 |ret=>intro i ω Q r fr s h A hn hlo g a w hf hs;exact wpIn_ret (.inr ⟨_,fr,s,g,.ret,h,rfl,hf,eL.refl hs,dW.refl _ _ _ _⟩)
 |skip=>intro i ω Q r fr s h A hn hlo g a w hf hs;exact wpIn_skip (.inr ⟨_,fr,s,g,.rU,h,rfl,hf,eL.refl hs,dW.refl _ _ _ _⟩)
 |label j=>intro i ω Q r fr s h A hn hlo g a w hf hs;exact wpIn_label (.inr ⟨_,fr,s,g,.rU,h,rfl,hf,eL.refl hs,dW.refl _ _ _ _⟩)
 |scope b ih=>
  intro i ω Q r fr s h A hn hlo g a w hf hs;have hr0:rr=Y:=by
   grind[O1]
  subst hr0;refine wpIn_wide.2 (wp_scope_straight (wp_mono (wpIn_wide.1 (ih i h (λh=>absurd rfl h) hn hlo hf hs)) λe K I hq=>?_));obtain hF|⟨ex,l,s',g',h1,h2⟩:=hq
  .exact hF.elim
  .cases h1 with|rU=>exact .inr ⟨_,l,s',g',.rU,h2⟩|ext j=>exact .inr ⟨_,l,s',g',.ext j,h2⟩|ret=>exact .inr ⟨_,l,s',g',.ret,h2⟩|iJ t v hv=>exact .inr ⟨_,l,s',g',.iJ t v hv,h2⟩
 |rangeFunc gv ps asg body _ _=>
  grind[O1,MF]
 |_=>intro i ω Q r fr s h;simp[zw]at h
end
section
def Nk:∀t:T,dF (λ_=>J) t=J:=by
 intro t
 induction t using T.rec (motive_2:=λl=>jy (λ_=>J) l=J)with|fn f a b d g=>simp[dF,d,g]|di t v e=>simp[dF,e]|agg i e=>simp[dF,e]|gT i e=>simp[dF,e]|gd c v e=>simp[dF,e]|nil=>rfl|cons a l d h=>simp[jy,d,h]|_=>simp[dF]
theorem uk(b:fy S){E:gm}(c:Ra S E){s:bg S}{fr:bU S}:∀{l:L ResultVar}{vs:L (V S)},lP E s fr l=Z vs->∃p,mS E.E (aC s) (bH fr) l=Z (p,bu vs)∧p
 |[],vs,h=>by simp only[lP,gR]at h;subst h;exact⟨True,rfl,trivial⟩
 |.tmp t::l,vs,h=>by
  simp[lP]at h;split at h
  .rename_i x r h1 h2;simp at h
   let ⟨p,e,d⟩:=uk b c h2
   exact⟨p,by grind[mS,bT,bu],d⟩
  .cases h
 |.cell a t::l,vs,h=>by
  simp[lP]at h;split at h
  .rename_i f m;split at h
   .rename_i g h2;obtain⟨i,h⟩|⟨_,h⟩:=af h
    .simp at h;obtain⟨rfl,q,n,j⟩:=Jh b (λu k=>c.row _ _ _ f k) g i
     let ⟨p,e,d⟩:=uk b c h2
     exact⟨q∧p,by grind[mS,bT,bu],j,d⟩
    .cases h
   .cases h
  .cases h
theorem Xo:∀l:L (V S),low (DL l)=aek (bu l)
 |[]=>rfl|[_]=>rfl|_::_::_=>rfl
variable {s s' s0:bg S}{g g' g0:Gh}{w w' w0:World}{E:eO S}{call:gn S}{m:Nat}{st:Bool->List Frame}
def eL.H7(hs:aV g (aC s) w)(h:eL {s with lo:=s.aD} g w s' g' w'):cO [] s g w {s' with lo:=s.lo} g' w':=by have d:j6 g.bp w w':=λb c=>h.ext.heap b (hs.bp b c) (λo _ f=>f.1 c);refine⟨⟨h.rel.aD,h.rel.ah,h.rel.box,h.rel.arr,h.rel.bp,h.rel.j8⟩,⟨λo b e=>h.ext.bP o b e,λo e x _ k=>h.ext.arr o e x (hs.lt' k) k,h.ext.bp,h.ext.size,h.ext.heap,h.ext.own,h.ext.oz,h.ext.os,h.ext.output⟩,h.fl,rfl,h.aD,h.ua,h.same,λt v i _=>?_,λo a=>(by cases a),h.GJ,λo a=>(by cases a)⟩;exact i.on (p:=λ_=>J) ⟨λo b _ e=>h.ext.bP o b e,λo e x _ k=>h.ext.arr o e x (hs.lt' k) k,h.ext.bp⟩ d (Nk t)
theorem yB{E:eO S}(b:fC E){g:Gh}{w:World}{fr:bU S}{s:bg S}{a:Act}(hf:cQ g (bH fr) a w)(hs:aV g (aC s) w){fn:Func}{l:L (V S)}(h:lP E.T s fr fn.results.toList=Z l) :
  ∃v,(results fn a.tmps).run E.T.E.P w=.ok v w∧aH g w (low (DL l)) v:=by
 let ⟨p,e,c⟩:=uk b.sg b.ty h
 let ⟨v,d,f⟩:=Mx b.TJ hf hs e c
 grind[Xo]
def cO.trans{s s' b:bg S}{g g' c:Gh}{w w' d:World}(h:cO [] s g w s' g' w')(k:cO [] s' g' w' b c d):cO [] s g w b c d where
 rel:=k.rel
 ext:=h.ext.trans (h.fl▸h.lo▸k.ext)
 fl:=k.fl.trans h.fl
 lo:=k.lo.trans h.lo
 aD:=gD h.aD k.aD
 ua:=λo a=>k.ua o (h.ua o a)
 same:=λo f a=>(k.same o (iS f h.aD) a).trans (h.same o f λe=>a (k.ua o e))
 tr:=λt v i e=>k.tr t v (h.tr t v i e) e
 oww:=λo a=>by cases a
 GJ:=λo a=>k.GJ o (h.GJ o a)
 owd:=λo a=>by cases a
def UR(g:Gh)(w:World):O (V S)->FrameMode->Prop
 |none,u=>u=.returning|some t,u=>∃v,u=.panicking [{v,recovered:=J}]∧aH g w (low t) v
structure adM(g:Gh)(s:bg S)(w:World)(pv:Option (V S))(st:Bool->List Frame)(vp:Value):Prop where
 rel:∀g' s' w',eL s g w s' g' w'->aH g' w' (low (ahE pv)) vp
 rcv:(pv=Y∧recoverD (st J)=Y∧vp=.nilIface)∨(pv.isSome=W∧recoverD (st J)=Z (vp,st W))
def QRV(s:bg S)(g:Gh)(w:World)(m:Nat)(st:Bool->L Frame){ω:Type}(Q:Bool->vg S->bU S->bg S->O ω)(r:ω)(e:Exit)(a:Act)(cs:L Frame)(w':World):Prop:=
 False∨∃b ex fr' s' g',cs=st b∧IJ g' w' ex e∧Q b ex fr' s'=Z r∧fr'.n=m∧cQ g' (bH fr') a w'∧eL s g w s' g' w'
theorem XE{o:Oper}(h:isRec o=W):o.guard=Y∧∃c,o.op=.call c∧c.callee=.builtin .recover:=by
 grind[isRec]
def uf(l:fC E)(b:gO E.T.E.P call)(d:sS E call)(n:Nat)(j:FuncId)(rv:Rv)(hlo:s0.lo<=s0.aD)(t:m<=bI)(f:Bool)
  (c:Code) (i:Nat) {ω:Type} {Q:Bool->vg S->bU S->bg S->O ω} {r:ω} {fr:bU S} {s:bg S} (h:zw E call n j rv c i (Q f) fr s=Z r) (hn:fr.n=m) {g:Gh} {a:Act} {w:World} (hs:eL s0 g0 w0 s g w) (hf:cQ g (bH fr) a w) :
  c.wpS E.T.E.P (QRV s0 g0 w0 m st Q r) a (st f) w:=by
 refine wpS_of_wp (wp_mono (wpIn_wide.1 (qh (rr:=Y) l b d n j rv c i h (λh=>absurd rfl h) (by omega) ?_ hf hs.rel)) λe u w' o=>?_)
 .have:=hs.aD;rw[hs.lo];omega
 obtain p|⟨q,k,s',g',h1,h2,h3,h4,h5,h6⟩:=o
 .exact p.elim
 .exact .inr ⟨f,q,k,s',g',rfl,h1,h2,h3.trans hn,h4,hs.trans h5⟩
def U9(hE:fC E)(f:gO E.T.E.P call)(p:sS E call)(n:Nat)(pv:O (V S))(A:FuncId)(rv:Rv)(hlo:s0.lo<=s0.aD)(hm:m<=bI){vp:Value}
  (K:adM g0 s0 w0 pv st vp):∀(c:Code)(i:Nat){ω:Type}{Q:Bool->vg S->bU S->bg S->O ω}{r:ω}{fr:bU S}{s:bg S},evR E call n pv A rv c i Q fr s=Z r->fr.n=m->
  ∀{g:Gh}{a:Act}{w:World},eL s0 g0 w0 s g w->cQ g (bH fr) a w->c.wpS E.T.E.P (QRV s0 g0 w0 m st Q r) a (st J) w:=by
 intro c
 induction c with
 |seq x y ihx ihy=>
  intro i ω Q r fr s h hn g a w B hf;refine wpS_seq λb k hb hr=>?_
  let ⟨e,a',cs',w',hq,z⟩:=ihx i h hn B hf b k hb hr
  refine⟨e,a',cs',w',?_,z⟩;obtain hF|⟨d,ex,u,s',g',h0,h1,h2,h3,h4,h5⟩:=hq
  .exact hF.elim
  .cases h1 with|rU=>subst h0;exact uf hE f p n A rv hlo hm d y i h2 h3 h5 h4|ext j=>exact .inr ⟨d,_,u,s',g',h0,.ext j,h2,h3,h4,h5⟩|ret=>exact .inr ⟨d,_,u,s',g',h0,.ret,h2,h3,h4,h5⟩|iJ t v hv=>exact .inr ⟨d,_,u,s',g',h0,.iJ t v hv,h2,h3,h4,h5⟩
 |region id q draw=>
  intro i ω Q r fr s h hn g a w B hf;cases draw with
  |true=>exact uf hE f p n A rv hlo hm J _ i h hn B hf|false=>
   simp[evR]at h;split at h;rotate_left
   .cases h
   rename_i o l C;obtain⟨hr,h2⟩|⟨_,h2⟩:=af h
   rotate_left
   .exact uf hE f p n A rv hlo hm J _ i h2 hn B hf
   obtain⟨hd,h3⟩|⟨_,h3⟩:=af h2
   rotate_left
   .cases h3
   let ⟨hg,c,hop,KU⟩:=XE hr
   rw[<-C]at h3;have ho:q[0]?=Z o:=by have:=cU (λl=>l[0]?) C;simpa using this
   have hsz:q.size=l.length+1:=by have:=cU List.length C;simpa using this
   have hw:Region.wanted o (yielded q a.tmps)=W:=by simp[Region.wanted,hg]
   have R:(execOp a.eval o).run E.T.E.P w=.ok .recover w:=by simp[execOp,hop,resolve,KU,run_bind,run_pure,andThen_ok,invoke];simp[builtin]
   have sB:=K.rel _ _ _ B
   let ⟨k1,k2⟩:=ur hf hd (by omega) sB
   have key:∃d,d=pv.isSome∧recoverD (st J)=(if d then Z (vp,st W)else Y)∧(d=J->vp=.nilIface):=by
    obtain⟨e1,e2,e3⟩|⟨e1,e2⟩:=K.rcv
    .exact ⟨J,by rw[e1];rfl,by simpa using e2,λ_=>e3⟩
    .exact ⟨W,e1.symm,by simpa using e2,λh=>by cases h⟩
   let ⟨d,apl,hrd,Qj⟩:=key
   rw[<-apl]at h3;have hwp:xe Y E.T.E.P q (λe a' w'=>QRV s0 g0 w0 m st Q r e a' (st d) w') (List.range' 1 l.length) (a.put o.dst vp) w:=by
    refine Dl hE f (rr:=Y) (λh=>absurd rfl h) l 1 (by rw[C];rfl) (by rw[k2];omega) h3 k1 B.rel (λu s' g' a' w' q1 q2 q3 q4 _=>.inr ⟨d,.rU,u,s',g',rfl,.rU,q1,by omega,q3,B.trans q4⟩)
     (λu t s' g' a' v w' q1 q2 q3 q4 _ q5=>.inr ⟨d,.iJ t,u,s',g',rfl,.iJ t v q5,q1,by omega,q3,B.trans q4⟩)
   intro b k hb hro;have F:List.range q.size=0::List.range' 1 l.length:=by rw[List.range_eq_range',hsz,List.range'_succ]
   have hgo:=stepG_op (P:=E.T.E.P) (b:=b) (k:=k) (cs:=st J) (w:=w) (rest:=List.range' 1 l.length) ho hw;have ap8:∀v,(b.at a (.inRegion q (0::List.range' 1 l.length)::k)).finish v=b.at (a.put o.dst v) (.inRegion q (List.range' 1 l.length)::k):=by intro v;rw[Frame.finish_at,ho];rfl
   have hk:(b.at a (.inRegion q (0::List.range' 1 l.length)::k)).kind=.deferred:=hb;have I:=tryRecover_deferred hk (st J)
   let ⟨e,a',w',hq,ajT⟩:=nJ _ _ _ hwp b k (st d) hro
   have z:=(arrivesIn_iff (λ_ _=>stepsIn_wide) hro).1 ajT;rw[Frame.atR_of_none hro]at z;refine⟨e,a',st d,w',hq,.of_steps (.one step_region) ?_⟩;rw[F];refine .of_steps (.one (step_lone_go ?_)) z;rw[hgo,<-ap8];simp[Frame.at]at I ⊢;rw[hrd]at I;cases d with|true=>simp[stepG.apply,R,I]|false=>have:=Qj rfl;subst this;simp[stepG.apply,R,I]
 |_=>intro i ω Q r fr s h hn g a w B hf;exact uf hE f p n A rv hlo hm J _ i h hn B hf
def V3:FrameMode->Value
 |.panicking (p::_)=>p.v|_=>.nilIface
def aei:FrameMode->FrameMode
 |.panicking (p::_)=>.panicking [{v:=p.v,recovered:=W}]|m=>m
theorem NU{E:eO S}(hE:fC E){call:gn S}(Q:gO E.T.E.P call)(R:sS E call)(n:Nat){q:O (V S)}{d:sU S}{s:bg S}{ω:Type}{k:Bool->bg S->O ω}{r:ω}(h:S1 E call n q d s k=Z r)
  {g:Gh} {w:World} (hs:aV g (aC s) w) {e:Deferred} (hd:xo g w (mF d) e) {u:FrameMode} (l:UR g w q u) :
  u≠.run∧((∃b w',e.target=.collected b∧(Instr.takeDeferred b).run E.T.E.P w=.ok [] w'∧∃s',k J s'=Z r∧UR g w' q u∧cO [] s g w s' g w')∨∃fv cap f args,e.target=.fn fv cap∧(invoke e.target e.args).run E.T.E.P w=.ok (.enter f args) w∧CallsD E.T.E.P f args u w λ
   |.returned _,I,w'=>∃a s' g',k a s'=Z r∧UR g' w' (bif a then Y else q) (settle I)∧cO [] s g w s' g' w'|.panicked _,_,_=>False|.outgrown,_,_=>False):=by
 have hrun:u≠.run:=by cases q with|none=>rw[show u=.returning from l];simp|some t=>obtain⟨v,rfl,_⟩:=l;simp
 refine⟨hrun,?_⟩;unfold S1 at h;split at h;rotate_left
 .rename_i o
  left
  cases hd with
  |mark _ b hb=>
  split at h;rotate_left
  .cases h
  rename_i ho;obtain⟨hfl,h2⟩|⟨_,h2⟩:=af h
  rotate_left
  .cases h2
  rw[fF]at hfl;have ho':(aC s).ob.get o=Z .zZ:=by rw[aJ,ho];rfl
  let ⟨x,hx,hr⟩:=(hs.box o b hb).2.2 _ ho'
  cases hr with
  |zZ=>
  let ⟨h3,he⟩:=hs.amy (w':=w.putObj b (.deferred Y)) hb ho' rfl (gU hfl.1) World.putObj_size (λb' hb'=>World.putObj_heap_other hb') rfl rfl
  have hlt:o<bI:=gU hfl.2;have K:o+1<2 ^ aM:=by grind[aM,bI]
  have p:cO [] s g w {s with ob:=s.ob.del aM o,wr:=o::s.wr} g (w.putObj b (.deferred Y)):=by
   refine cO.lq hs (h3.Ye rfl λk=>?_) he rfl rfl (eR _) ⟨λ_ h=>ic _ h,λk _ hk=>?_,rfl⟩
   .show (Tr.map dc (s.ob.del aM o)).get k=((aC s).ob.del aM o).get k;rw[Tr.get_map,Tr.rX _ _ _ _ K,Tr.rX _ _ _ _ K,aJ];split<;>rfl
   simp_all[Tr.rX]
  refine⟨b,_,rfl,run_takeDeferred hx,_,h2,?_,p⟩;cases q with
  |none=>exact l|some t=>
   let ⟨v,l,ht⟩:=l
   exact⟨v,l,p.tr _ _ ht (mB _)⟩
 .cases hd
 .cases h
 rename_i args
 right
 split at h
 .cases h
 rename_i z KU;split at h
 .cases h
 rename_i fn hfn;split at h
 .cases h
 rename_i c hc;obtain⟨hb,h2⟩|⟨_,h2⟩:=af h
 rotate_left
 .cases h2
 clear h;rw[ze]at hb;have i:=r7 KU;unfold xQ at i;split at i;rotate_left
 .cases i
 rename_i f' first cap NC
 simp only[gR,fE]at i;obtain⟨rfl,F⟩:=i;cases hd with
 |call _ _ fvn xa xc A h3 h4 h5=>
 rw[NC]at h3;cases h3 with
 |fn _ _ _ _ _ l1 l2 r1 r2=>
 have hfs:=hE.TJ.SV _ _ hfn;have NJ:mo E.T.E.P f':=⟨fn,hfs,by rw[hc];rfl,hE.name _ _ hfn⟩;refine⟨_,_,f',xa++A++xc,rfl,?_,?_⟩
 .grind[invoke,xC]
 have pP:PW (aH g w) (bu z) (xa++A++xc).toList:=by rw[<-F];simp only[T6];exact PW.append (PW.append ⟨by simpa using l1,λj x y h1 h2=>r1 j x y h1 (by simpa using h2)⟩ ⟨by simpa using h4,λj x y h1 h2=>h5 j x y h1 (by simpa using h2)⟩) ⟨by simpa using l2,λj x y h1 h2=>r2 j x y h1 (by simpa using h2)⟩
 have DP:z.length<=fn.ntmps:=by have:=gU hb.1;rwa [bR]at this
 have pQ:fn.ntmps<bI:=gU hb.2;have US:=tH (n:=fn.ntmps) pQ DP pP;have hs0:aV g (aC {s with lo:=s.aD}) w:=⟨hs.aD,hs.ah,hs.box,hs.arr,hs.bp,hs.j8⟩;refine callsD_of_wpS hfs hc λc₀ cs hcu=>?_
 let st:Bool->L Frame:=λa=>(if a then{c₀ with mode:=aei u}else{c₀ with mode:=u})::cs
 have apc:st J=c₀::cs:=by show{c₀ with mode:=u}::cs=c₀::cs;rw[<-hcu]
 have apm:adM g {s with lo:=s.aD} w q st (V3 u):=by
  cases q with
  |none=>
   have l:u=.returning:=l;refine⟨λg' s' w' _=>?_,.inl ⟨rfl,?_,?_⟩⟩
   .simp[V3,l];exact .sym _ _ (.lit _)
   .grind[recoverD]
   .simp[V3,l]
  |some t=>
   let ⟨v,l,ht⟩:=l
   refine⟨λg' s' w' p=>?_,.inr ⟨rfl,?_⟩⟩
   .simp[V3,l];exact(eL.H7 hs p).tr _ _ ht (mB _)
   grind[recoverD,V3,aei]
 have hw:=U9 hE Q R n q f' _ (s0:={s with lo:=s.aD}) (g0:=g) (w0:=w) (eR _) (m:=fn.ntmps) (I1 pQ) (st:=st) apm c 0 h2 rfl (eL.refl hs0) US;rw[apc]at hw;intro b kk hb' hro
 let ⟨e,a',cs',w',hq,KV⟩:=hw b kk hb' hro
 refine⟨e,a',cs',w',?_,KV⟩;obtain hF|⟨a,ex,fr',s',g',k0,k1,C,k3,k4,k5⟩:=hq
 .exact hF.elim
 have p:=eL.H7 hs k5;dsimp only at C;split at C;rotate_left
 .cases C
 rename_i hdf;have P:a'.defers=[]:=by have:=k4.df;rw[show(bH fr').df=[]from by simp[bH,hdf,List.map_nil]]at this;generalize a'.defers=m at this;cases this;rfl
 have AB:∃I,cs'={c₀ with mode:=I}::cs∧UR g' w' (bif a then Y else q) (settle I):=by
  cases a with
  |false=>
   refine⟨u,k0,?_⟩;cases q with
   |none=>rw[l];rfl|some t=>
    let ⟨v,l,ht⟩:=l
    rw[l];exact⟨v,rfl,p.tr _ _ ht (mB _)⟩
  |true=>
   refine⟨aei u,k0,?_⟩;cases q with
   |none=>rw[l];rfl|some t=>
    let ⟨v,l,ht⟩:=l
    rw[l];rfl
 let ⟨I,hcs,hur⟩:=AB
 have fin:(match lP E.T s' fr' fn.results.toList with|some _=>k a {s' with lo:=s.lo}|none=>Y)=Z r->∃v,(results fn a'.tmps).run E.T.E.P w'=.ok v w'∧
   ∃a s' g',k a s'=Z r∧UR g' w' (bif a then Y else q) (settle I)∧cO [] s g w s' g' w':=by
  intro C;split at C;rotate_left
  .cases C
  rename_i hr
  let ⟨v,hv,_⟩:=yB hE k4 k5.rel hr
  grind
 cases k1 with
 |rU=>
  let ⟨v,hv,h⟩:=fin C
  exact⟨P,I,hcs,v,hv,h⟩
 |ret=>
  let ⟨v,hv,h⟩:=fin C
  exact⟨P,I,hcs,v,hv,h⟩
 |ext j=>cases C
 |iJ t v hv=>cases C
theorem Db{P:Program}{fn:Func}{tmps:Array Value}{R:Ending->World->Prop}{ds:L Deferred}{u:FrameMode}(q:u≠.run){s:bg S}{g:Gh}{o:Nat}(f:s.fl<=o)(i:s.ob.get o=Y) :
  ∀(bs:L Nat)(w:World),aV g (aC s) w->bs.Nodup->(∀b∈bs,bF g o b∧w.heap[b]?=Z (.deferred (Z [])))->(∀w',cO [] s g w s g w'->m9 P fn tmps R ds u w')->
   m9 P fn tmps R (bs.map (λb=>{target:=.collected b,args:=#[]})++ds) u w
 |[],w,d,_,_,m=>m w (cO.refl d)|b::bs,w,d,n,r,m=>by
  let ⟨l,t⟩:=r b eJ
  have j:aV g (aC s) (w.putObj b (.deferred Y)):=by
   have:=d.step (I:=g.bp) (X:=λc=>c=b) (w':=w.putObj b (.deferred Y)) (λ_ h=>h) (λ_ h=>.inl h) (λc a=>by rw[World.putObj_size];exact d.bp c a) (by simp_all)
    (λc _ a=>World.putObj_heap_other a) (λv c a p=>by
     subst a;have:=d.j8 v o c p l;subst this;exact⟨by rw[aJ,i];rfl,l.1⟩) (λc a=>by subst a;exact l.1)
   exact this
  have x:Ext s.fl g w g (w.putObj b (.deferred Y)):=
   ⟨λ_ _ h=>h,λ_ _ _ h=>h,λ_ h=>h,by simp_all,λc _ n=>World.putObj_heap_other (λe=>n o f (e▸l)),λ_ _ h=>.inl h,λ_ h=>.inl h,rfl,rfl⟩
  have k:cO [] s g w s g (w.putObj b (.deferred Y)):=cO.lq d j x rfl rfl (eR _) ⟨λ_ h=>h,λ_ _ _=>rfl,rfl⟩;refine⟨q,.inl ⟨b,_,rfl,run_takeDeferred t,Db q f i bs _ j (I3.1 n).2 (λc a=>⟨(r c (ic _ a)).1,?_⟩) λw' h=>m w' (k.trans h)⟩⟩
  grind[World.putObj_heap_other]
theorem NT{E:eO S}(hE:fC E){call:gn S}(z:gO E.T.E.P call)(A:sS E call)(n:Nat){fn:Func}{tmps:Array Value}{R:Ending->World->Prop}{ω:Type}{k:O (V S)->bg S->O ω}{r:ω}{s0:bg S}{g0:Gh}{w0:World}
  (hk:∀m s' g' w' u,k m s'=Z r->UR g' w' m u->cO [] s0 g0 w0 s' g' w'->m9 E.T.E.P fn tmps R [] u w'):∀(l:L (sU S))(m:O (V S))(s:bg S),Gy E call n l m s k=Z r->
  ∀(g:Gh)(w:World)(ds:L Deferred)(u:FrameMode),eU g w (l.map mF) ds->UR g w m u->cO [] s0 g0 w0 s g w->m9 E.T.E.P fn tmps R ds u w:=by
 intro l
 induction l with
 |nil=>intro m s h g w ds u B p a;cases B;exact hk m s g w u h p a
 |cons d l ih=>
  intro m s h g w ds u B p a;simp at B;generalize C:mF d=x at B;cases B with
  |kK xs i=>
   cases d with
   |kK=>cases h
   |_=>cases C
  |marks o bs hn hbs i=>
   cases d with
   |marks o'=>
    cases C;simp only[Gy,S1]at h;split at h;rotate_left
    .cases h
    rename_i ho;obtain⟨F,h2⟩|⟨_,h2⟩:=af h
    rotate_left
    .cases h2
    rw[fF]at F;have hlt:o<bI:=gU F.2;have hlt':o+1<2 ^ aM:=by grind[aM,bI]
    have q:=a.rel;have ho':(aC s).ob.get o=Z .FG:=by rw[aJ,ho];rfl
    have hown:∀b∈bs,bF g o b∧w.heap[b]?=Z (.deferred (Z [])):=λb I=>by
     let ⟨n,c,hr⟩:=hbs b I
     cases hr with
     |sh _ _ _ _ sz _ C=>
     obtain⟨fz,_,_,h,_⟩|⟨_,_,_,_,_,_,h,_⟩|⟨_,_,_,h,_⟩|h|⟨_,h1,h2,h3,h4⟩:=(q.arr o b _ C).2 _ ho'
     .cases fz<;>cases h
     .cases h
     .cases h
     .cases h
     .exact ⟨⟨h3,.inr ⟨b,_,_,C,h1,rfl,h2⟩⟩,h4⟩
    have hgD:∀k,(s.ob.del aM o).get k=if k=o then Y else s.ob.get k:=λk=>Tr.rX _ _ _ _ hlt'
    have hsD:aV g (aC {s with ob:=s.ob.del aM o,wr:=o::s.wr}) w:=by
     have y:∀k ob,(aC {s with ob:=s.ob.del aM o,wr:=o::s.wr}).ob.get k=Z ob->(aC s).ob.get k=Z ob:=by
      grind[aJ]
     refine⟨q.aD,q.ah,λk b h=>?_,λk e x h=>?_,q.bp,q.j8⟩
     .let ⟨K,P,j⟩:=q.box k b h
      exact⟨K,P,λob Q=>j ob (y k ob Q)⟩
     .let ⟨K,P⟩:=q.arr k e x h
      exact⟨K,λob Q=>P ob (y k ob Q)⟩
    have haD:cO [] s g w {s with ob:=s.ob.del aM o,wr:=o::s.wr} g w:=
     cO.lq q hsD (Ext.refl _ _ _) rfl rfl (eR _) ⟨λ_ h=>ic _ h,λk _ hk=>(hgD k).trans (bO λe=>hk (by simp_all)),rfl⟩
    have hrun:u≠.run:=by cases m with|none=>rw[show u=.returning from p];simp|some t=>obtain⟨v,rfl,_⟩:=p;simp
    refine Db hrun (s:={s with ob:=s.ob.del aM o,wr:=o::s.wr}) (g:=g) (o:=o) (gU F.1) ((hgD o).trans (bB rfl)) bs w hsD hn hown λw' j=>?_;have k4:=haD.trans j;refine ih _ _ h2 g w' _ u (i.imp (λt v i=>k4.tr t v i (mB _)) λo b I=>k4.ext.bP o b I) ?_ (a.trans k4);cases m with
    |none=>exact p|some t=>
     let ⟨v,p,i⟩:=p
     exact⟨v,p,k4.tr _ _ i (mB _)⟩
   |_=>cases C
  | @cons _ e _ ds B i=>
  subst C
  let ⟨h1,h⟩:=NU hE z A n h a.rel B p
  obtain⟨b,w',h2,h3,s',K,P,j⟩|⟨fv,cap,f,args,h2,h3,h4⟩:=h
  .exact ⟨h1,.inl ⟨b,w',h2,h3,ih _ s' K g w' ds u (i.imp (λt v i=>j.tr t v i (mB _)) λo b I=>j.ext.bP o b I) P (a.trans j)⟩⟩
  refine⟨h1,.inr ⟨fv,cap,f,args,h2,h3,h4.mono λe u' w' he=>?_⟩⟩;cases e with
  |returned v=>
   let ⟨rec,s',g',K,P,j⟩:=he
   refine ih _ s' K g' w' ds (settle u') (i.imp (λt v i=>j.tr t v i (mB _)) λo b I=>j.ext.bP o b I) P (a.trans j)
  |panicked ch=>exact he.elim|outgrown=>exact he.elim
def wK(x:fC E)(c:gO E.T.E.P call)(d:sS E call)(n:Nat){fn:Func}{R:Ending->World->Prop}{ω:Type}{k kp:V S->bg S->O ω}{r:ω}{ex:vg S}{fr:bU S}
  (h:S0 E call n fn.results.toList k kp ex fr s=Z r) {g:Gh} {w:World} {e:Exit} {a:Act} (y:IJ g w ex e) (hf:cQ g (bH fr) a w) (hs:aV g (aC s) w)
  (z:∀t s' g' v w',k t s'=Z r->aH g' w' (low t) v->cO [] s g w s' g' w'->R (.returned v) w')
  (m:∀t s' g' v w',kp t s'=Z r->aH g' w' (low t) v->cO [] s g w s' g' w'->R (.panicked [{v,recovered:=J}]) w'):adJ E.T.E.P fn R e a w:=by
 have f:∀(j:O (V S))(u:FrameMode),Gy E call n fr.df j s (NS E.T fn.results.toList fr k kp)=Z r->UR g w j u->m9 E.T.E.P fn a.tmps R a.defers u w:=by
  intro j u h l;refine NT x c d n (s0:=s) (g0:=g) (w0:=w) (λj s' g' w' u h l b=>?_) fr.df j s h g w a.defers u hf.df l (cO.refl hs);have o:cQ g' (bH fr) a w':=n8 (ow:=[]) hf b;cases j with
  |none=>
   subst l;simp[NS]at h;split at h;rotate_left
   .cases h
   rename_i A
   let ⟨v,p,q⟩:=yB x o b.rel A
   exact⟨v,p,z _ _ g' v w' h q b⟩
  |some t=>
   let ⟨v,l,q⟩:=l
   subst l;exact m t s' g' v w' h q b
 cases y with
 |rU=>exact f Y .returning h rfl|ret=>exact f Y .returning h rfl|ext i=>cases h
 |iJ t v p=>exact f (Z t) _ h ⟨v,rfl,p⟩
end
section
def CM{g:Gh}{w:World}{n:Nat}(hn:n<=bI):∀(ps:L Nat)(args:L (V S))(vs:L Value)(tm:Tr (V S))(tmps:Array Value),(∀k∈ps,k<n)->PW (aH g w) (bu args) vs->cQ g (bH {n:=n,tm:=tm}) {tmps:=tmps,defers:=[]} w->
  cQ g (bH {n:=n,tm:=Pg ps args tm}) {tmps:=(ps.zip vs).foldl (λt p=>t.setIfInBounds p.1 p.2) tmps,defers:=[]} w
 |[],_,_,_,_,_,_,h=>h|_::_,[],[],_,_,_,_,h=>h|_::_,[],_::_,_,_,_,b,_=>by have:=b.1;simp[bu]at this
 |_::_,_::_,[],_,_,_,b,_=>by have:=b.1;simp[bu]at this
 |k::ps,a::args,v::vs,tm,tmps,d,b,h=>by have e:aH g w (low a) v:=b.2 0 _ _ rfl rfl;have c:PW (aH g w) (bu args) vs:=⟨by have:=b.1;simpa[bu]using this,λj t u h1 h2=>b.2 (j+1) t u (by simpa[bu]using h1) (by simpa using h2)⟩;have f:=ur (dst:=Z k) (fr:={n:=n,tm:=tm}) h (by simp_all[gP,MO,eJ]) hn e;exact CM hn ps args vs _ _ (λj i=>d j (ic _ i)) c f.1
def TB(ps:Array Tmp)(vs:Array Value)(tmps:Array Value):(ps.zip vs).foldl (λtmps(t,a)=>tmps.setIfInBounds t a) tmps=(ps.toList.zip vs.toList).foldl (λt p=>t.setIfInBounds p.1 p.2) tmps:=by rw[<-Array.foldl_toList,Array.toList_zip]
variable {g:Gh}{w:World}
def IJ.jump{ex:vg S}{e:Exit}(h:IJ g w ex e){j:O Code}(a:adp ex=Z j):ado e=Z j:=by cases h<;>first|exact a|cases a
theorem Aj{E:eO S}(hE:fC E){call:gn S}(B:gO E.T.E.P call)(C:sS E call)(n:Nat){o:Nat}{args:L (V S)}{s:bg S}{ω:Type}{k kp:V S->bg S->O ω}{r:ω}
  (h:Kn E call n o args s k=Z r) {g:Gh} {w:World} {vs:Array Value} {b:Nat} (hs:aV g (aC s) w) (pP:PW (aH g w) (bu args) vs.toList) (hb:g.bP o=Z b) :
  ∃l:Loop,w.heap[b]?=Z (.loop l)∧vs.size=l.params.size∧∀rr n,RoundIn (WR rr) n E.T.E.P b l.fn ((l.params.zip vs).foldl (λtmps(t,a)=>tmps.setIfInBounds t a) l.tmps) l.assign l.body w (xW s g w k kp r):=by
 unfold Kn at h;split at h;rotate_left
 .cases h
 rename_i l ho;obtain⟨hc,h1⟩|⟨_,h1⟩:=af h
 rotate_left
 .cases h1
 clear h;simp only[fF,lB]at hc;obtain⟨hrd,hlen,hpar,P,hra,hrb,hfl,Q⟩:=hc;have Q:s.lo<=s.aD:=gU Q;obtain⟨hst,hpe⟩:=Fj hrd;have hfl:s.fl<=o:=gU hfl;have P:l.fr.n<=bI:=gU P;have ho0:(aC s).ob.get o=Z (.lp (tE l)):=by rw[aJ,ho];rfl
 obtain⟨x,hx,hr⟩:=(hs.box o b hb).2.2 _ ho0;cases hr with
 |lp _ d q1 q2 q4 q5 q6 q8 q9=>
 have hsz:vs.size=d.params.size:=by
  have h1:=beq_iff'.1 hlen;rw[bR,bR]at h1;have h2:=pP.1;rw[eS]at h2;have h3:d.params.toList.length=l.params.length:=by rw[q4];rfl
  grind
 refine⟨d,hx,hsz,λrr n'=>?_⟩;have US:cQ g (bH {n:=l.fr.n,tm:=l.fr.tm}) {tmps:=d.tmps,defers:=[]} w:=⟨q8,.nil,q9⟩;have hf1:=CM P l.params args vs.toList l.fr.tm d.tmps (λk hk=>gU (hpar k hk)) pP US;rw[TB,q4];have q5:d.assign=l.assign:=q5;have q6:d.body=l.body:=q6;rw[q5,q6];refine aes ?_;refine wpIn_mono (qh (rr:=Z b) hE B C n l.fid [] l.assign 0 h1 (λ_=>hra) P Q hf1 hs) λe a' w1 hq=>?_;obtain hF|⟨ex,tJ,p,g1,p1,p2,p3,p4,i,_⟩:=hq
 .exact hF.elim
 cases p1 with
 |ext j=>cases p2
 |ret=>cases p2
 |iJ t v hv=>cases p2
 |rU=>
 simp only[ac8]at p2;split at p2;rotate_left
 .cases p2
 rename_i l1 SQ;obtain⟨apn,p2'⟩|⟨_,p2'⟩:=af p2
 rotate_left
 .cases p2'
 clear p2;obtain⟨afb,hpe1⟩:=Fj apn;have R:=i.ext.bP _ _ hb;have ajg:(aC p).ob.get o=Z (.lp (tE l1)):=by rw[aJ,SQ];rfl
 obtain⟨x1,hx1,hr1⟩:=(i.rel.box o b R).2.2 _ ajg;cases hr1 with
 |lp _ L1 a1 a2 a4 a5 a6 a8 a9=>
 have Qm:p.fl<=o:=by rw[i.fl];exact hfl
 obtain⟨LW,UU⟩:=i.rel.setObj (w':=w1.putObj b (.loop {L1 with state:=.busy})) R ajg rfl Qm (x':=.loop {L1 with state:=.busy}) (ob':=.lp (tE {l1 with st:=.busy})) (.lp _ _ rfl a2 a4 a5 a6 a8 a9)
  World.putObj_size (λb' hb'=>World.putObj_heap_other hb') (World.putObj_heap_same (i.rel.box o b R).2.1) rfl rfl
 have ajo:aC {p with ob:=p.ob.set aM o (.lp {l1 with st:=.busy})}={aC p with ob:=(aC p).ob.set aM o (dc (.lp {l1 with st:=.busy}))}:=eF p _ _ p.wr;have ape:aV g1 (aC {p with ob:=p.ob.set aM o (.lp {l1 with st:=.busy})}) (w1.putObj b (.loop {L1 with state:=.busy})):=by rw[ajo];exact LW
 refine⟨_,run_beginRound hx1 (by rw[a1];exact afb),?_⟩;have apT:p.lo<=p.aD:=by rw[i.lo];exact gD Q i.aD
 refine wpIn_mono (qh (rr:=Z b) hE B C n l.fid [] l.body 0 p2' (λ_=>hrb) (by grind) apT (p4.ext UU i.rel.bp) ape) λe a2 w2 hq=>?_;obtain hF|⟨ex,O4,m,g2,c1,c2,c3,c4,y,_⟩:=hq
 .exact hF.elim
 have ajf:o<bI:=iS (hs.lt hb) hs.aD;have X1:m.fl<=o:=by rw[y.fl];exact Qm
 have pQ:=y.ext.bP _ _ R;have fin:∀(A l3:LpV S)(L2 L3:Loop)(wr:L Nat),m.ob.get o=Z (.lp A)->w2.heap[b]?=Z (.loop L2)->gX g2 w2 (.lp (tE l3)) (.loop L3)->(∀j∈m.wr,j∈wr)->(l3={A with st:=.ready,vN:=Y}∨o∈wr)->
   eL s g w {m with ob:=m.ob.set aM o (.lp l3),wr:=wr} g2 (w2.putObj b (.loop L3)):=by
  intro A l3 L2 L3 wr q z hr3 hw hl3;have u:(aC m).ob.get o=Z (.lp (tE A)):=by rw[aJ,q];rfl
  obtain⟨Qf,EB⟩:=y.rel.setObj (w':=w2.putObj b (.loop L3)) pQ u rfl X1 (x':=.loop L3) (ob':=.lp (tE l3)) hr3
   World.putObj_size (λb' hb'=>World.putObj_heap_other hb') (World.putObj_heap_same (y.rel.box o b pQ).2.1) rfl rfl
  have ajn:aC {m with ob:=m.ob.set aM o (.lp l3),wr:=wr}={aC m with ob:=(aC m).ob.set aM o (dc (.lp l3))}:=eF m _ _ wr;have e1:oK s.lo s.fl g1 w1 g1 (w1.putObj b (.loop {L1 with state:=.busy})):=by have:=UU.H7 s.lo;rw[show(aC p).fl=s.fl from i.fl]at this;exact this
  have e2:oK s.lo s.fl g1 (w1.putObj b (.loop {L1 with state:=.busy})) g2 w2:=by have:=y.ext;rw[show p.lo=s.lo from i.lo,show p.fl=s.fl from i.fl]at this;exact this
  have e3:oK s.lo s.fl g2 w2 g2 (w2.putObj b (.loop L3)):=by have:=EB.H7 s.lo;rw[show(aC m).fl=s.fl from y.fl.trans i.fl]at this;exact this
  refine⟨by rw[ajn];exact Qf,((i.ext.trans e1).trans e2).trans e3,y.fl.trans i.fl,y.lo.trans i.lo,gD i.aD y.aD,λj K=>hw j (y.ua j (i.ua j K)),λj K hno=>?_,λj K=>y.GJ j (i.GJ j K)⟩;have ajj:j∉m.wr:=λhm=>hno (hw j hm);have apH:j∉p.wr:=λhm=>ajj (y.ua j hm);have k1:=i.same j K apH;have k2:=y.same j (iS K i.aD) ajj;show(m.ob.set aM o _).get j=s.ob.get j;rw[Tr.aR _ _ _ _ ajf];have F:m.ob.get j=(p.ob.set aM o (.lp {l1 with st:=.busy})).get j:=k2;rw[Tr.aR _ _ _ _ ajf]at F;by_cases e:j=o
  .subst e;obtain rfl|hl3:=hl3
   rotate_left
   .exact absurd hl3 hno
   rw[bB rfl]at F ⊢;rw[q]at F;rw[SQ]at k1;have k1:Z (u0.lp l1)=s.ob.get j:=k1;rw[ho]at k1;simp only[gR,u0.lp.injEq]at k1 F;subst k1;subst F;rw[ho];obtain⟨st,pe,fid,fr,par,asg,bd⟩:=l1
   grind
  simp_all
 unfold ac9 at c2;split at c2
 .rename_i A q K;have u:(aC m).ob.get o=Z (.lp (tE A)):=by rw[aJ,q];rfl
  obtain⟨x2,z,hr2⟩:=(y.rel.box o b pQ).2.2 _ u;cases hr2 with
  |lp _ L2 d1 d2 d4 d5 d6 d8 d9=>
  have I:=fin A {A with st:=.ready,vN:=Y} L2 {L2 with state:=.ready,pending:=Y} m.wr q z (.lp _ _ rfl rfl d4 d5 d6 d8 d9) (λ_ h=>h) (.inl rfl);exact .inr ⟨Y,c1.jump K,.bool W,_,run_endRound Y z,.kb W,_,g2,c2,.kb W,I⟩
 .rename_i A c q K;have u:(aC m).ob.get o=Z (.lp (tE A)):=by rw[aJ,q];rfl
  obtain⟨x2,z,hr2⟩:=(y.rel.box o b pQ).2.2 _ u;cases hr2 with
  |lp _ L2 d1 d2 d4 d5 d6 d8 d9=>
  have I:=fin A {A with st:=.done,vN:=Z c} L2 {L2 with state:=.done,pending:=Z c} (o::m.wr) q z (.lp _ _ rfl rfl d4 d5 d6 d8 d9) (λ_ h=>ic _ h) (.inr eJ);exact .inr ⟨Z c,c1.jump K,.bool J,_,run_endRound (Z c) z,.kb J,_,g2,c2,.kb J,I⟩
 .cases c2
def Oe{E:eO S}(C:fC E)(a:∀call:gn S,gO E.T.E.P call->sS E call)(n:Nat):∀d,gO E.T.E.P (wS E n d):=by
 intro d
 induction d with
 |zero=>exact⟨λf args s ω k kp r h=>(by cases h),λf args s ω k kp r h=>(by cases h),λo args s ω k kp r h=>(by cases h),λo args s ω k kp r h=>(by cases h)⟩
 |succ d u=>
  refine⟨λf args s ω k kp r h g w vs j m=>?_,λf args s ω k kp r h g w vs j m=>?_,λo args s ω k kp r h g w vs b j m x=>?_,λo args s ω k kp r h g w vs b j m x=>Aj C u (a _ u) n h j m x⟩;rotate_left 2
  .have K:aV g (aC {s with lo:=s.aD}) w:=⟨j.aD,j.ah,j.box,j.arr,j.bp,j.j8⟩
   let ⟨l,h1,h2,h3⟩:=Aj C u (a _ u) n (kp:=λ_ _=>Y) h K m x
   refine⟨l,h1,h2,λrr n=>(h3 rr n).mono λe w' he=>?_⟩;cases e with
   |returned v=>
    let ⟨t,s',g',y,F,I⟩:=he
    exact⟨t,_,g',y,F,eL.H7 j I⟩
   |panicked ch=>obtain⟨v,t,s',g',_,y,_⟩:=he;cases y
   |outgrown=>exact he.elim
  rotate_left
  .simp only[wS,YL]at h;split at h
   .cases h
   rename_i fn z;split at h
   .cases h
   rename_i c hc;have A:=C.TJ.SV _ _ z;refine⟨⟨fn,A,by rw[hc];rfl,C.name _ _ z⟩,?_⟩;obtain⟨x,h⟩|⟨_,h⟩:=af h
   rotate_left
   .cases h
   simp only[fF]at x;have P:args.length<=fn.ntmps:=by have:=gU x.1;rwa [bR]at this
   have B:fn.ntmps<bI:=gU x.2.1;have hlo:s.lo<=s.aD:=gU x.2.2;have Q:=tH (n:=fn.ntmps) B P m;refine sL A hc (wpIn_mono (qh C u (a _ u) n f _ c 0 h (λh=>absurd rfl h) (I1 B) (by omega) Q j) λe a' w' hq=>?_);obtain hF|⟨ex,fr',s',g',h1,h2,h3,h4,h5,h6⟩:=hq
   .exact hF.elim
   .exact wK C u (a _ u) n (R:=xW s g w k kp r) h2 h1 h4 h5.rel (λt p i v q y F I=>⟨t,_,i,y,F,h5.trans I.toW⟩) (λt p i v q y F I=>⟨v,t,_,i,rfl,y,F,h5.trans I.toW⟩)
  simp only[wS,YL]at h;split at h
  .cases h
  .rename_i fn z;split at h
   .cases h
   .rename_i c hc;have A:=C.TJ.SV _ _ z;refine⟨⟨fn,A,by rw[hc];rfl,C.name _ _ z⟩,?_⟩;obtain⟨x,h⟩|⟨_,h⟩:=af h
    .rw[ze]at x;have P:args.length<=fn.ntmps:=by have:=gU x.1;rwa [bR]at this
     have B:fn.ntmps<bI:=gU x.2;have Q:=tH (n:=fn.ntmps) B P m;have K:aV g (aC {s with lo:=s.aD}) w:=⟨j.aD,j.ah,j.box,j.arr,j.bp,j.j8⟩;refine sL A hc (wpIn_mono (qh C u (a _ u) n f _ c 0 h (λh=>absurd rfl h) (I1 B) (eR _) Q K) λe a' w' hq=>?_);obtain hF|⟨ex,fr',s',g',h1,h2,h3,h4,h5,h6⟩:=hq
     .exact hF.elim
     .have wE:=eL.H7 j h5;have lo:∀{p:bg S}{i:Gh}{q:World},cO [] s' g' w' p i q->cO [] s g w {p with lo:=s.lo} i q:=λ{p i q}k=>
       eL.H7 j (h5.trans k.toW)
      exact wK C u (a _ u) n (R:=CE s g w k kp r) h2 h1 h4 h5.rel (λt p i v q y F I=>⟨t,_,i,y,F,lo I⟩) (λt p i v q y F I=>⟨v,t,_,i,rfl,y,F,lo I⟩)
    .cases h
end
section
structure Ri(Ji:Nat)(s0:bg S)(g0:Gh)(w:World)(s':bg S)(g':Gh)(w':World):Prop where
 rel:aV g' (aC s') w'
 bP:∀o b,o<Ji->g0.bP o=Z b->g'.bP o=Z b
 box:∀o,o<Ji->∃b,g'.bP o=Z b
 own:∀o b,bF g' o b->(∃o',bF g0 o' b)∨w.heap.size<=b
 bp:∀b,g0.bp b->g'.bp b
 oz:∀b,g'.bp b->g0.bp b∨w.heap.size<=b∨∃o,bF g0 o b
 size:w.heap.size<=w'.heap.size
 heap:∀b,b<w.heap.size->(∀o,¬bF g0 o b)->w'.heap[b]?=w.heap[b]?
 os:w'.os=w.os
 output:w'.output=w.output
 fl:s'.fl=s0.fl
 lo:s'.lo=s0.lo
variable {Ji:Nat}{s0:bg S}{g0 g:Gh}{w w':World}{v:V S}{val:Value}
def Ri.of{s':bg S}{g':Gh}(e:s0.fl=0)(d:∀o,o<Ji->∃b,g0.bP o=Z b)(h:eL s0 g0 w s' g' w'):Ri Ji s0 g0 w s' g' w' where
 rel:=h.rel
 bP o b _ a:=h.ext.bP o b a
 box o f:=(d o f).imp λb a=>h.ext.bP o b a
 own o b c:=(h.ext.own o b (by omega) c).imp (λ⟨g,_,h⟩=>⟨g,h⟩) id
 bp:=h.ext.bp
 oz b a:=(h.ext.oz b a).imp id (Or.imp id λ⟨o,_,c⟩=>⟨o,c⟩)
 size:=h.ext.size
 heap b a i:=h.ext.heap b a λo _ c=>i o c
 os:=h.ext.os
 output:=h.ext.output
 fl:=h.fl
 lo:=h.lo
def aV.agi{s:St}(hs:aV g s w){b:Nat}(E:b<w.heap.size)(p:∀o,¬bF g o b):aV {g with bp:=λk=>g.bp k∨k=b} s w:=by
 have y:∀t v,aH g w t v->aH {g with bp:=λk=>g.bp k∨k=b} w t v:=λt v h=>aH.le (g:=g) (g':={g with bp:=λk=>g.bp k∨k=b}) (nh.mk (λ_ _ h=>h) (λ_ _ _ h=>h) (λF(h:g.bp F)=>Or.inl h)) h;have f:∀o k,bF {g with bp:=λk=>g.bp k∨k=b} o k->bF g o k:=λo k h=>⟨λz=>h.1 (.inl z),h.2⟩;refine⟨hs.aD,hs.ah,λo k a=>?_,λo e x q=>?_,λk a=>a.elim (hs.bp k) (λe=>e▸E),λo C k h I=>hs.j8 o C k (f o k h) (f C k I)⟩
 .obtain ⟨h1,h2,h3⟩:=hs.box o k a;refine⟨λz=>z.elim h1 λe=>p o (e▸⟨h1,.inl a⟩),h2,λob m=>?_⟩;obtain⟨x,q,K⟩:=h3 ob m;exact⟨x,q,K.imp y⟩
 .obtain ⟨h1,h2⟩:=hs.arr o e x q;refine⟨h1,λob m=>?_⟩;have A:∀k,x.at k->¬g.bp k->k≠b:=λk⟨P,q1,q2,q3⟩a B=>p o (B▸⟨a,.inr ⟨e,x,P,q,q1,q2,q3⟩⟩);have l:∀k,x.at k->((g.bp k∨k=b)↔g.bp k):=λk a=>⟨λh=>h.elim id λB=>(Classical.em (g.bp k)).elim id λQ=>absurd B (A k a Q),λh=>Or.inl h⟩;refine(h2 ob m).tr (λ{fz sz es}n=>⟨n.len,n.cap,n.rows,n.pos,n.VT,λr=>?_⟩) (λ_ _ _ h=>h) rfl (λk a r=>⟨rfl,l k ⟨_,a,rfl,r⟩⟩);obtain⟨k,R,ty,q1,q2,q3,q4,q5⟩:=n.mem r;refine⟨k,R,ty,q1,q2.trans (l k ⟨_,q1,rfl,r⟩).symm,q3,q4,λi d j c S k2=>?_⟩;obtain⟨u,r1,r2⟩:=q5 i d j c S k2;exact⟨u,r1,r2.le λ_ h=>.inl h⟩
def Dv(p:Nat->Bool)(vs:L (V S))(i:Nat)(u:V S):bu ((vs.map (fZ p)).set i u)=(bu (vs.map (fZ p))).set i (low u):=by simp[e9,Fo]
def Ky(hS:fy S){s:bg S}(h:Ri Ji s0 g0 w s g w')(hv:aH g w' (low v) val)(q:Nat×Nat×Nat) :
  ∃a,Ri Ji s0 g0 w (FA v Ji s q) a w'∧aH a w' (low v) val:=by
 obtain⟨f,i,n⟩:=q;unfold FA;split;rotate_left
 .exact ⟨g,h,hv⟩
 rename_i vs hvs;split;rotate_left
 .exact ⟨g,h,hv⟩
 rename_i o hvi;split;rotate_left
 .exact ⟨g,h,hv⟩
 rename_i us hus;split;rotate_left
 .exact ⟨g,h,hv⟩
 rename_i A os htt;generalize hp:(λk=>Nq o k||Nl s.aD k)=p;dsimp only;cases B:aiI os&&(Nl Ji o&&(Nt f Ji&&!(cI p v)))with
 |false=>exact⟨g,h,hv⟩|true=>
 rw[iq];simp only[fF]at B;obtain⟨hos,hlo,LY,hmv⟩:=B;have hos:os=[]:=by cases os with|nil=>rfl|cons=>cases hos
 subst hos;have hlo:Ji<=o:=gU hlo;have LY:f<Ji:=gU LY;have r:=h.rel;obtain⟨b,hb⟩:=h.box f LY;obtain⟨cv,ty,Jo,C,E⟩:=(r.box f b hb).box (cs:=bu vs) (by rw[aJ,hvs];rfl);have aiU:(bu vs)[i]?=Z (.ptr o 0):=Et hvi;have hi:i<cv.size:=by rw[<-C];exact(T9.1 aiU).1
 have hci:=E i _ _ aiU (uq hi);obtain⟨d,l,hcv⟩:∃d,g.bP o=Z d∧cv[i]=.pointer (Z ⟨d,0,Y⟩):=by generalize cv[i]=u at hci;cases hci with|ptr _ _ d l=>exact⟨d,l,rfl⟩
 obtain⟨cu,tu,Q,ajr,R⟩:=(r.box o d l).box (cs:=bu us) (by rw[aJ,hus];rfl);have hno:o<s.aD:=r.lt l;have hnb:f<s.aD:=r.lt hb;have hpo:p o=W:=by rw[<-hp];simp
 have hpk:∀k,k≠o->k<s.aD->p k=J:=λk h1 h2=>by rw[<-hp];simp only[zd];exact⟨by cases hq:Nq o k with|true=>exact absurd (vM hq).symm h1|false=>rfl,by cases hq:Nl s.aD k with|true=>have:=gU hq;omega|false=>rfl⟩
 have hpb:p f=J:=hpk f (by omega) hnb
 let s1:bg S:={s with ob:=s.ob.mapA (ff p)}
 have zY:aV (g.base p) (aC s1) w':=by
  refine r.base (aD:=s.aD) (λk P=>?_) rfl (eR _) λk ob P mP=>?_
  .rw[<-hp];simp[MO P]
  .rw[aJ]at mP;simp only[s1,fV]at mP;obtain⟨vob,h1,rfl⟩:=mP;rw[Tr.oA,fV]at h1;obtain⟨VQ,h1,rfl⟩:=h1;exact⟨dc VQ,by rw[aJ,h1];rfl,lT _ VQ⟩
 have hOo:bF g o d:=⟨(r.box o d l).1,.inl l⟩;have LW:=zY.agi (b:=d) (r.box o d l).2.1 (λk P=>by
  obtain⟨h1,h2⟩:=Gh.fQ P;have:=r.j8 k o d h2 hOo;subst this;rw[hpo]at h1;cases h1)
 generalize y:({g.base p with bp:=λk=>(g.base p).bp k∨k=d}:Gh)=a at LW;have hle:nh (g.base p) a:=by rw[<-y];exact⟨λ_ _ h=>h,λ_ _ _ h=>h,λ_ h=>.inl h⟩
 have hon:∀t u,aH g w' t u->dF p t=J->aH a w' t u:=λt u ht hm=>(ht.on (g.gM p) (λ_ _=>rfl) hm).le hle;have F:∀k c,p k=J->g.bP k=Z c->a.bP k=Z c:=λk c h1 h2=>hle.bP k c (by simp[Gh.base,h1,h2]);have hown:∀k c,bF a k c->bF g k c:=λk c hO=>by rw[<-y]at hO;exact(Gh.fQ (⟨λhi=>hO.1 (.inl hi),hO.2⟩:bF (g.base p) k c)).2
 obtain⟨pp,htd,hpp⟩:=p7 hS s (S.fs n) us htt;obtain⟨k0,_,k2⟩:=qx r (bu us) (vs:=cu.toList) htd hpp (by simpa using ajr) (λj t u h1 h2=>R j t u h1 (by simpa using h2));have hd:=k2 g (aC s) r (Ext.refl _ _ _) ⟨rfl,rfl,λo ho=>(by cases ho),λ_ _ _ _ h=>h,λo ho=>(by cases ho)⟩;have ap0:a.bp d:=by rw[<-y];exact .inr rfl
 have K:∀c,g.bp c->a.bp c:=λc z=>by rw[<-y];exact .inl z
 have afL:∀j,(⟨d,0,Y⟩:Addr).add j=⟨d,j,Y⟩:=λj=>by simp[nS]
 have m:∀j c,(fe S (S.fs n) A)[j]?=Z c->∃u,cu[j]?=Z u∧dD a.bp w' c u:=λj c hj=>by
  have hl1:=k0;have hlt:j<cu.size:=by have:=(T9.1 hj).1;omega
  exact⟨cu[j],uq hlt,(hd j c cu[j] hj (by simp[hlt])).le K⟩
 have hnew:aH a w' (low (.ty (.opt n) (Z (S.Eu n A)):V S)) cv[i]:=by
  rw[hcv];have hE:enc S (.opt n) (Z (S.Eu n A))=.pt (.agg (fe S (S.fs n) A)):=by show D.pt (.agg (S.cells n (S.Eu n A)))=_;rw[hS.cells,hS.sC]
  show aH a w' (.sym (enc S (.opt n) (Z (S.Eu n A)))) _;rw[hE];have:=dD.pt (I:=a.bp) (w:=w') (.agg (fe S (S.fs n) A)) ⟨d,0,Y⟩ (λj=>(cu[j]?).getD undef) ap0 (λj c hj=>by
   obtain⟨u,h1,_⟩:=m j c hj;rw[afL,cell?_of_block Q,h1];rfl) (λj c hj=>by
   obtain⟨u,h1,h2⟩:=m j c hj;rw[h1];exact h2)
  rw[afL]at this;exact .sym _ _ this
 have XW:∀e,a.arr f e=Y:=λe=>by rw[<-y];show(g.base p).arr f e=Y;simp only[Gh.base,hpb,ki];cases hx:g.arr f e with|none=>rfl|some x=>have:=((r.arr f e x hx).2 _ (by rw[aJ,hvs];rfl)).ov;cases this
 have aqh:gX a w' (dc (.box ((vs.map (fZ p)).set i (.ty (.opt n) (Z (S.Eu n A)))))) (.cells cv ty (0,0)):=by
  refine .box _ _ _ (by rw[Dv];simp[e9]at C ⊢;exact C) λj t u h1 h2=>?_;rw[Dv,Py]at h1;split at h1
  .rename_i hij;subst hij;split at h1
   .cases h1;rw[uq hi]at h2;cases h2;exact hnew
   .cases h1
  .simp only[e9,lC,fV]at h1;obtain⟨v',⟨v'',h3,rfl⟩,rfl⟩:=h1;exact(pV p v'').rel hon (E j _ u (by simp[e9,h3]) h2)
 have P:=LW.tG (F f b hpb hb) Jo aqh XW;have sB:aV a (aC {s with ob:=(s.ob.mapA (ff p)).set aM f (.box ((vs.map (fZ p)).set i (.ty (.opt n) (Z (S.Eu n A)))))}) w':=by have:=eF s1 f (.box ((vs.map (fZ p)).set i (.ty (.opt n) (Z (S.Eu n A))))) s.wr;rw[show aC {s with ob:=(s.ob.mapA (ff p)).set aM f (.box ((vs.map (fZ p)).set i (.ty (.opt n) (Z (S.Eu n A)))))}=_ from this];exact P
 refine⟨a,⟨sB,λk c P z=>?_,λk P=>?_,λk c hO=>h.own k c (hown k c hO),λc z=>K c (h.bp c z),λc z=>?_,h.size,h.heap,h.os,h.output,h.fl,h.lo⟩,hon _ _ hv (by rw[ir];simpa using hmv)⟩
 .have h1:=h.bP k c P z;exact F k c (hpk k (by omega) (r.lt h1)) h1
 .obtain ⟨c,z⟩:=h.box k P;exact⟨c,F k c (hpk k (by omega) (r.lt z)) z⟩
 .rw[<-y]at z;obtain z|rfl:=z
  .exact h.oz c z
  .exact .inr ((h.own o c hOo).symm)
def Ao(d:fy S){Ji:Nat}{s0:bg S}{g0:Gh}{w w':World}{v:V S}{val:Value}:∀(l:L (Nat×Nat×Nat)){s:bg S}{g:Gh},Ri Ji s0 g0 w s g w'->aH g w' (low v) val->
  ∃a,Ri Ji s0 g0 w (l.foldl (FA v Ji) s) a w'∧aH a w' (low v) val
 |[],_,g,h,b=>⟨g,h,b⟩|q::l,_,_,h,b=>by obtain⟨a,h2,c⟩:=Ky d h b q;exact Ao d l h2 c
end
def qT:∀(ps:L Pk)(b:Nat)(s:bg S)(x:gp S.A ps),s.aD<=(vP b s ps x).2.aD
 |[],_,_,_=>eR _|.one c::ps,b,s,x=>gD (RL s c x.1) (qT ps b _ x.2)|.box k::ps,b,s,x=>gD (Eg k s (Z (Ns b)) x.1) (qT ps (Ns b) {(lJ s (Z (Ns b)) k x.1).2 with ob:=(lJ s (Z (Ns b)) k x.1).2.ob.set aM b (lJ s (Z (Ns b)) k x.1).1} x.2)
 |.hid k::ps,b,s,x=>gD (Eg k s (Z (Ns b)) x.1) (qT ps (Ns b) {(lJ s (Z (Ns b)) k x.1).2 with ob:=(lJ s (Z (Ns b)) k x.1).2.ob.set aM b (lJ s (Z (Ns b)) k x.1).1} x.2)
structure InR(g:Gh)(s:bg S)(w:World)(al:List fh)(g':Gh)(s':bg S):Prop where
 rel:aV g' (aC s') w
 le:nh g g'
 bp:g'.bp=g.bp
 own:∀k b,bF g' k b->bF g k b∨∃a∈al,a.at b
 fl:s'.fl=s.fl
 lo:s'.lo=s.lo
 aD:s.aD<=s'.aD
 bP:g'.bP=g.bP
 arr:∀o,o<s.aD->∀e,g'.arr o e=g.arr o e
theorem Qd{w:World}:∀{ps:L Pk}{x:gp S.A ps}{vals:L Value}{al:L fh}{bl:L Nat}{b:Nat}{g:Gh}{s:bg S},rE S g.bp w ps x vals al bl->aV g (aC s) w->(∀j bP,bl[j]?=Z bP->g.bP (b+j)=Z bP)->
  (∀j,j<bl.length->b+j<s.aD∧∀e,g.arr (b+j) e=Y)->(∀a∈al,∀b,a.at b->∀o,¬bF g o b)->xy al->(vP b s ps x).2.aD<=bI->
  ∃g',InR g s w al g' (vP b s ps x).2∧PW (aH g' w) (bu (vP b s ps x).1) vals:=by
 intro ps
 induction ps with
 |nil=>intro x vals al bl b g s hp hs _ _ _ _ _;cases hp;exact⟨g,⟨hs,nh.refl _,rfl,λ_ _ h=>.inl h,rfl,rfl,eR _,rfl,λ_ _ _=>rfl⟩,⟨rfl,λj t v h=>by simp_all⟩⟩
 |cons p ps ih=>
  intro x vals al bl b g s hp hs q r I K hn;cases hp with
  | @one c _ f xr v vs DA Br bl h1 h2=>
   have m:=um.1 K;have u:(vT s c f).2.aD<=bI:=gD (qT ps b _ xr) hn
   let ⟨C,d,pP⟩:=nE (cs:=[c]) (x:=(f,())) h1 hs (λa E=>I a (fU _ E)) m.1 (by simpa[iy]using u)
   have e1:(iy s [c] (f,())).1=[(vT s c f).1]:=rfl;have e2:(iy s [c] (f,())).2=(vT s c f).2:=rfl;have hv1:aH C w (low (vT s c f).1) v:=pP.2 0 _ _ rfl rfl
   let ⟨g2,i,P⟩:=ih (b:=b) (g:=C) (s:=(vT s c f).2) (d.bp▸h2) d.rel (λj bP h=>by rw[d.bP];grind) (λj hj=>⟨iS (r j hj).1 d.aD,λe=>by rw[d.arr _ (r j hj).1];simp_all⟩)
    (λa E b hb o n=>by
     obtain n|⟨_,a2,ha2,pQ⟩:=d.own o b n
     .grind
     grind) m.2.1 hn
   refine⟨g2,⟨i.rel,d.le.trans i.le,i.bp.trans d.bp,λk A n=>?_,i.fl.trans d.fl,i.lo.trans d.lo,gD d.aD i.aD,i.bP.trans d.bP,λo F e=>(i.arr o (iS F d.aD) e).trans (d.arr o F e)⟩,⟨by simp only[vP,bu,lQ];rw[P.1],λj t v' q1 q2=>?_⟩⟩
   .obtain n|⟨a',q2,q3⟩:=i.own k A n
    .obtain n|⟨_,a',q2,q3⟩:=d.own k A n
     .exact .inl n
     grind
    grind
   .cases j with|zero=>simp[vP,bu]at q1 q2;subst q1;subst q2;exact hv1.le i.le|succ j=>exact P.2 j t v' (by simpa[vP,bu]using q1) (by simpa using q2)
  | @box l _ f xr Q hx vs DA Br bl hh h1 h2=>
   have m:=um.1 K;have u:(lJ s (Z (Ns b)) l f).2.aD<=bI:=gD (qT ps (Ns b) {(lJ s (Z (Ns b)) l f).2 with ob:=(lJ s (Z (Ns b)) l f).2.ob.set aM b (lJ s (Z (Ns b)) l f).1} xr) hn
   let ⟨C,d,y⟩:=pZ h1 (λA z=>⟨_,rfl,by cases bl with|nil=>cases z|cons c' Bq=>(cases z;grind)⟩) hs (λa E=>I a (fU _ E)) m.1 u
   have R:=r 0 (by simp);have B:g.bP b=Z Q:=q 0 Q rfl;have hk:=d.rel.tG (o:=b) (b:=Q) (by rw[d.bP];exact B) hh y (λe=>by rw[d.arr b (by omega)];exact R.2 e);have hk2:aV C (aC {(lJ s (Z (Ns b)) l f).2 with ob:=(lJ s (Z (Ns b)) l f).2.ob.set aM b (lJ s (Z (Ns b)) l f).1}) w:=by
    have:=eF (lJ s (Z (Ns b)) l f).2 b (lJ s (Z (Ns b)) l f).1 (lJ s (Z (Ns b)) l f).2.wr
    simp_all
   let ⟨g2,i,P⟩:=ih (b:=Ns b) (g:=C) (s:={(lJ s (Z (Ns b)) l f).2 with ob:=(lJ s (Z (Ns b)) l f).2.ob.set aM b (lJ s (Z (Ns b)) l f).1}) (d.bp▸h2) hk2
    (λj bP h=>by rw[d.bP];have:=q (j+1) bP (by simpa using h);rwa [show b+(j+1)=Ns b+j by omega]at this)
    (λj hj=>by
     have:=r (j+1) (by simp;omega);rw[show b+(j+1)=Ns b+j by omega]at this;exact⟨iS this.1 d.aD,λe=>by rw[d.arr _ this.1];exact this.2 e⟩)
    (λa E b hb o n=>by
     obtain n|⟨_,a2,ha2,pQ⟩:=d.own o b n
     .grind
     grind) m.2.1 hn
   refine⟨g2,⟨i.rel,d.le.trans i.le,i.bp.trans d.bp,λk A n=>?_,i.fl.trans d.fl,i.lo.trans d.lo,gD d.aD i.aD,i.bP.trans d.bP,λo F e=>(i.arr o (iS F d.aD) e).trans (d.arr o F e)⟩,⟨by simp only[vP,bu,lQ];rw[P.1],λj t v' q1 q2=>?_⟩⟩
   .obtain n|⟨a',q2,q3⟩:=i.own k A n
    .obtain n|⟨_,a',q2,q3⟩:=d.own k A n
     .exact .inl n
     grind
    grind
   .cases j with|zero=>simp[vP,bu,ML,gR]at q1 q2;subst q1;subst q2;exact Nw (by rw[i.bP,d.bP];exact B)|succ j=>exact P.2 j t v' (by simpa[vP,bu]using q1) (by simpa using q2)
  | @hid l _ f xr Q hx vs DA Br bl hh h1 h2=>
   have m:=um.1 K;have u:(lJ s (Z (Ns b)) l f).2.aD<=bI:=gD (qT ps (Ns b) {(lJ s (Z (Ns b)) l f).2 with ob:=(lJ s (Z (Ns b)) l f).2.ob.set aM b (lJ s (Z (Ns b)) l f).1} xr) hn
   let ⟨C,d,y⟩:=pZ h1 (λA z=>⟨_,rfl,by cases bl with|nil=>cases z|cons c' Bq=>(cases z;grind)⟩) hs (λa E=>I a (fU _ E)) m.1 u
   have R:=r 0 (by simp);have B:g.bP b=Z Q:=q 0 Q rfl;have hk:=d.rel.tG (o:=b) (b:=Q) (by rw[d.bP];exact B) hh y (λe=>by rw[d.arr b (by omega)];exact R.2 e);have hk2:aV C (aC {(lJ s (Z (Ns b)) l f).2 with ob:=(lJ s (Z (Ns b)) l f).2.ob.set aM b (lJ s (Z (Ns b)) l f).1}) w:=by
    have:=eF (lJ s (Z (Ns b)) l f).2 b (lJ s (Z (Ns b)) l f).1 (lJ s (Z (Ns b)) l f).2.wr
    simp_all
   let ⟨g2,i,P⟩:=ih (b:=Ns b) (g:=C) (s:={(lJ s (Z (Ns b)) l f).2 with ob:=(lJ s (Z (Ns b)) l f).2.ob.set aM b (lJ s (Z (Ns b)) l f).1}) (d.bp▸h2) hk2
    (λj bP h=>by rw[d.bP];have:=q (j+1) bP (by simpa using h);rwa [show b+(j+1)=Ns b+j by omega]at this)
    (λj hj=>by
     have:=r (j+1) (by simp;omega);rw[show b+(j+1)=Ns b+j by omega]at this;exact⟨iS this.1 d.aD,λe=>by rw[d.arr _ this.1];exact this.2 e⟩)
    (λa E b hb o n=>by
     obtain n|⟨_,a2,ha2,pQ⟩:=d.own o b n
     .grind
     grind) m.2.1 hn
   refine⟨g2,⟨i.rel,d.le.trans i.le,i.bp.trans d.bp,λk A n=>?_,i.fl.trans d.fl,i.lo.trans d.lo,gD d.aD i.aD,i.bP.trans d.bP,λo F e=>(i.arr o (iS F d.aD) e).trans (d.arr o F e)⟩,P⟩
   .obtain n|⟨a',q2,q3⟩:=i.own k A n
    .obtain n|⟨_,a',q2,q3⟩:=d.own k A n
     .exact .inl n
     grind
    grind
def pI(E:fy S){g:Gh}{w:World}{s:bg S}(hs:aV g (aC s) w):∀{ps:L Pk}{b:Nat}{x:iE S.A ps}{fz ow bl:L Nat},uw s b ps=Z (x,fz,ow)->(∀j bP,bl[j]?=Z bP->g.bP (b+j)=Z bP)->bl.length=dX ps->
  (∀o∈fz,Live g (aC s) o)∧(∀o∈ow,s.fl<=o∧s.lo<=o∧o<s.aD∧∃ob,s.ob.get o=Z ob∧Q2 ob=W)∧∀(v:Gh)(s1:St)(r:L Nat),aV v s1 w->Ext s.fl g w v w->jG (aC s) s1 r->(∀o∈fz,o∈r)->(∀o∈ow,s1.ob.get o=(aC s).ob.get o)->
   ∃al,Ee S v.bp w ps x bl al∧AL v al ow
 |[],b,x,fz,ow,bl,h,_,i=>by
  simp only[uw,gR,fE]at h;obtain⟨_,rfl,rfl⟩:=h
  match bl,i with
  |[],_=>exact⟨λo l=>(by cases l),λo l=>(by cases l),λ_ _ _ _ _ _ _ _=>⟨[],.nil,.nil⟩⟩
  |_::_,i=>exact absurd i (by simp[dX])
 |.one c::ps,b,x,fz,ow,bl,h,n,i=>by
  simp[uw]at h
  let ⟨F,I,K⟩:=pI E hs h n (by simpa[dX]using i)
  refine⟨F,I,λv s1 r a b c d e=>?_⟩
  let ⟨al,P,Q⟩:=K v s1 r a b c d e
  exact⟨al,.one P,Q⟩
 |.box k::ps,b,x,fz,ow,bl,h,n,i=>by
  match bl,i with
  |[],i=>exact absurd i (by simp[dX])
  |b0::bl,i=>
  simp only[uw]at h;split at h;rotate_left
  .cases h
  rename_i x1 a1 b1 nx h1 a2 b2 R e2;obtain⟨A,h⟩|⟨_,h⟩:=af h
  rotate_left
  .cases h
  rw[ze]at A;obtain⟨rfl,rfl,rfl⟩:=h;have y:g.bP b=Z b0:=n 0 b0 rfl;have p:∀j bP,bl[j]?=Z bP->g.bP (Ns b+j)=Z bP:=λj bP h=>by have:=n (j+1) bP (by simpa using h);rwa [show b+(j+1)=Ns b+j by omega]at this
  have f:bl.length=dX ps:=by simpa[dX]using i
  let ⟨_,hx,hh,F,I,K⟩:=rR E hs y R
  let ⟨_,B⟩:=An hs y R
  let ⟨q1,q2,q3⟩:=pI E hs e2 p f
  refine⟨λo l=>(eZ.1 l).elim (F o) (q1 o),λo l=>(eZ.1 l).elim (I o) (q2 o),λv s1 r z C hf t q=>?_⟩
  let ⟨DA,P,Q⟩:=K v s1 r z C hf (λo l=>t o (fU _ l)) (λo l=>q o (fU _ l)) (fK bl) (λo' u=>by
   subst u;obtain⟨m,pre,post,rfl⟩:=B o' rfl;have u:o'=Ns b:=vM A.1;subst u
   match ps,A.2,f with
   |.hid k'::ps,_,f=>
    match bl,f with
    |c::bl,_=>exact⟨c,rfl,C.bP _ _ (p 0 c rfl)⟩|[],f=>exact absurd f (by simp[dX]))
  let ⟨Br,k3,k4⟩:=q3 v s1 r z C hf (λo l=>t o (eY _ l)) (λo l=>q o (eY _ l))
  exact⟨_,.box hh P k3,Q.append k4⟩
 |.hid k::ps,b,x,fz,ow,bl,h,n,i=>by
  match bl,i with
  |[],i=>exact absurd i (by simp[dX])
  |b0::bl,i=>
  simp only[uw]at h;split at h;rotate_left
  .cases h
  rename_i R e2;obtain⟨A,h⟩|⟨_,h⟩:=af h
  rotate_left
  .cases h
  rw[ze]at A;obtain⟨rfl,rfl,rfl⟩:=h;have y:g.bP b=Z b0:=n 0 b0 rfl;have p:∀j bP,bl[j]?=Z bP->g.bP (Ns b+j)=Z bP:=λj bP h=>by have:=n (j+1) bP (by simpa using h);rwa [show b+(j+1)=Ns b+j by omega]at this
  have f:bl.length=dX ps:=by simpa[dX]using i
  let ⟨_,hx,hh,F,I,K⟩:=rR E hs y R
  let ⟨_,B⟩:=An hs y R
  let ⟨q1,q2,q3⟩:=pI E hs e2 p f
  refine⟨λo l=>(eZ.1 l).elim (F o) (q1 o),λo l=>(eZ.1 l).elim (I o) (q2 o),λv s1 r z C hf t q=>?_⟩
  let ⟨DA,P,Q⟩:=K v s1 r z C hf (λo l=>t o (fU _ l)) (λo l=>q o (fU _ l)) (fK bl) (λo' u=>by
   subst u;obtain⟨m,pre,post,rfl⟩:=B o' rfl;have u:o'=Ns b:=vM A.1;subst u
   match ps,A.2,f with
   |.hid k'::ps,_,f=>
    match bl,f with
    |c::bl,_=>exact⟨c,rfl,C.bP _ _ (p 0 c rfl)⟩|[],f=>exact absurd f (by simp[dX]))
  let ⟨Br,k3,k4⟩:=q3 v s1 r z C hf (λo l=>t o (eY _ l)) (λo l=>q o (eY _ l))
  exact⟨_,.hid hh P k3,Q.append k4⟩
theorem Ee.iL{I:Nat->Prop}{w:World}{ps:L Pk}{x:iE S.A ps}{al:L fh}{bl:L Nat}(h:Ee S I w ps x bl al):∀a∈al,∀b,a.at b->¬I b:=by
 induction h with
 |nil=>simp_all|one _ d=>exact d|box f h1 h2 d=>
  intro a c b e;obtain c|c:=eZ.1 c
  .exact h1.iL a c b e
  grind
 |hid f h1 h2 d=>
  intro a c b e;obtain c|c:=eZ.1 c
  .exact h1.iL a c b e
  grind
theorem QO{I:Nat->Prop}{w:World}{ps:L Pk}{x:gp S.A ps}{vs:L Value}{al:L fh}{bl:L Nat}(h:rE S I w ps x vs al bl):dX ps=bl.length:=by
 induction h with|nil=>rfl|one _ _ a=>exact a|box _ _ _ a=>grind[dX]|hid _ _ _ a=>grind[dX]
def gh0(I:Nat->Prop)(bl:L Nat):Gh:=⟨λo=>bl[o]?,λ_ _=>Y,I⟩
def xN{I:Nat->Prop}{bl:L Nat}{o b:Nat}(h:bF (gh0 I bl) o b):bl[o]?=Z b:=by
 obtain⟨_,h|⟨e,x,a,h,_⟩⟩:=h
 .exact h
 .cases h
theorem abZ{I:Nat->Prop}{bl:L Nat}{w:World}(d:∀b,I b->b<w.heap.size)(f:bl.Nodup)(a:∀b∈bl,b<w.heap.size∧¬I b)(hn:bl.length<=bI) :
  aV (gh0 I bl) (aC (⟨.nil,bl.length,0,bl.length,[],[]⟩:bg S)) w:=by
 refine⟨hn,λo g=>⟨?_,λe=>rfl⟩,λo b h=>?_,λo e x h=>?_,d,λo k b h i=>?_⟩
 .exact List.getElem?_eq_none g
 .have c:=iz h;refine⟨(a b c).2,(a b c).1,λob j=>?_⟩
  grind[aJ,Tr.get_nil]
 .cases h
 .have h1:=xN h;have h2:=xN i
  grind[List.getElem?_inj]
def Vb{E:eO S}{n d:Nat}{f:FuncId}{ps:L Pk}{a:L Ck}{x:gp S.A ps}{r:RT E.pn (gH S.A a×iE S.A ps) (den S.A S.pt×iE S.A ps)}(h:AO E n d f ps a x=Z r) :
  (vP 0 ⟨.nil,dX ps,0,dX ps,[],[]⟩ ps x).2.aD<=bI∧YN E n d f (vP 0 ⟨.nil,dX ps,0,dX ps,[],[]⟩ ps x).1 (vP 0 ⟨.nil,dX ps,0,dX ps,[],[]⟩ ps x).2 (afQ E.pn a ps) (afP E.pn a ps)=Z r:=by
 unfold AO at h;obtain⟨_,h⟩|⟨b,h⟩:=af h
 .cases h
 simp_all
def RT.aaU{R P:Type}:∀{a:Bool}{p:P}{r:RT a R P},RT.iJ a p=Z r->RT.res a r=.iJ p
 |false,_,_,h=>by cases h
 |true,_,_,h=>by cases h;rfl
theorem GM{E:eO S}(hE:fC E)(y:∀call:gn S,gO E.T.E.P call->sS E call){f:FuncId}{fn:Func}{c:Code}(hfn:E.T.E.SV f=Z fn)(hc:fn.body=Z c)(n d:Nat)(ps:L Pk)(rs:L Ck) :
  bC E.T.E.P f ⟨ps,rs,E.pn,AO E n d f ps rs⟩:=by
 have hfs:=hE.TJ.SV _ _ hfn;refine⟨⟨fn,hfs,by rw[hc];rfl,hE.name _ _ hfn⟩,λx r h I w vs al bl hp hI hap hnd LY=>?_⟩;dsimp only at x r h hp
 let ⟨B,h⟩:=Vb h
 have hlen:=QO hp;have z:=qT ps 0 (⟨.nil,dX ps,0,dX ps,[],[]⟩:bg S) x;have hn0:dX ps<=bI:=gD z B;have api:aV (gh0 I bl) (aC (⟨.nil,dX ps,0,dX ps,[],[]⟩:bg S)) w:=by have:=abZ (S:=S) (w:=w) hI hnd (λb i=>⟨(LY b i).1,(LY b i).2.1⟩) (by omega);rwa [hlen]
 let ⟨g0,P,pP⟩:=Qd (b:=0) (g:=gh0 I bl) hp api (λj bP h=>by rw[ya];exact h) (λj hj=>⟨by simp;omega,λe=>rfl⟩)
  (λa C b i o k=>(LY b (iz (xN k))).2.2 a C i) hap B
 generalize vP 0 ⟨.nil,dX ps,0,dX ps,[],[]⟩ ps x=q at h B P pP z
 let ⟨args,s0⟩:=q
 dsimp only at h B P pP z;have afx:s0.fl=0:=P.fl;have apU:s0.lo=dX ps:=P.lo;simp[YN,hfn,hc]at h;obtain⟨i,h⟩|⟨_,h⟩:=af h
 rotate_left
 .cases h
 rw[ze]at i;have DP:args.length<=fn.ntmps:=by have:=gU i.1;rwa [bR]at this
 have pQ:fn.ntmps<bI:=gU i.2;have US:=tH (n:=fn.ntmps) pQ DP pP;have m:=Oe hE y n d;have core:∀(s':bg S)(g':Gh)(w':World),eL s0 g0 w s' g' w'->∀(rs:L Ck)(t:V S)(v:Value)(r1:gH S.A rs×iE S.A ps),ab8 rs ps t s'=Z r1->aH g' w' (low t) v->EL S I w ps rs r1 al bl v w':=by
  intro s0' g0' w' h50 rs t v r h2 ht0;unfold ab8 at h2;obtain⟨g',h5,ht⟩:=Ao hE.sg (I8 ps 0) (Ri.of (Ji:=dX ps) afx (λo A=>by rw[P.bP];exact⟨bl[o]'(by omega),jr _⟩) h50) ht0;generalize(I8 ps 0).foldl (FA t (dX ps)) s0'=s' at h2 h5;dsimp only at h2;split at h2;rotate_left
  .cases h2
  rename_i r1 fz ow b1 fz' ow' e1 e2;split at h2;rotate_left
  .cases h2
  rename_i s1 e3;obtain⟨i,h2⟩|⟨_,h2⟩:=af h2
  rotate_left
  .cases h2
  simp at h2;subst h2;rw[ze]at i;have Io:=l6 i.1;have aql:=zK i.2;obtain⟨vals,rfl,aiW⟩:=Fh ht e1;have ajS:∀j bP,bl[j]?=Z bP->g'.bP (0+j)=Z bP:=λj bP h=>h5.bP _ _ (by have:=(T9.1 h).1;omega) (by rw[P.bP,ya];exact h)
  let ⟨p1,p2,p3⟩:=gw hE.sg h5.rel e1 aiW
  let ⟨q1,q2,q3⟩:=pI hE.sg h5.rel e2 ajS hlen.symm
  have hfr:=dw hE.sg _ e3
  let ⟨g1,l,F,hfz⟩:=eG (fz++fz') h5.rel hfr (λo A=>(eZ.1 A).elim (p1 o) (q1 o))
  let ⟨f1,f2,f3,f4,f5,f6,f7⟩:=eN e3
  have hsame:∀o∈ow++ow',(aC s1).ob.get o=(aC s').ob.get o:=λo A=>by rw[aJ,aJ,f6 o (aql o A)]
  let ⟨Br,K,k2⟩:=p3 g1 (aC s1) (fz++fz') l F hfz (λo A=>fU _ A) (λo A=>hsame o (fU _ A))
  let ⟨DA,k3,k4⟩:=q3 g1 (aC s1) (fz++fz') l F hfz (λo A=>eY _ A) (λo A=>hsame o (eY _ A))
  have apI:=K.iL;have apJ:=k3.iL;have hmem:∀a∈DA++Br,a∈Br++DA:=λa C=>eZ.2 ((eZ.1 C).symm);have hni:∀a∈Br++DA,∀b,a.at b->¬g1.bp b:=λa C=>(eZ.1 C).elim (apI a) (apJ a);have hAL:=k2.append k4;have hown:=hAL.owned hni;have p:=hAL.apart l Io hni;have hfl':s'.fl=0:=h5.fl.trans afx;have ajp:s'.lo=dX ps:=h5.lo.trans apU;have ajd:∀o b,bF g1 o b->(b∈bl∨∃a∈al,a.at b)∨w.heap.size<=b:=by
   intro o b k;obtain k|hge:=F.own o b k
   .obtain ⟨Q,U1⟩|hge:=h5.own o b k
    .obtain U1|⟨a,C,hab⟩:=P.own Q b U1
     .exact .inl (.inl (iz (xN U1)))
     grind
    omega
   .have:=h5.size;omega
  have s:∀b∈bl,∃o,o<dX ps∧g1.bP o=Z b:=by intro b i;obtain⟨j,hj,rfl⟩:=rM i;exact⟨0+j,by omega,F.bP _ _ (ajS j _ (jr hj))⟩
  refine⟨g1.bp,vals,DA,Br,λb i=>F.bp b (h5.bp b (P.bp▸i)),λb i=>?_,l.bp,h5.size,λb i B hna=>?_,h5.os,h5.output,rfl,k3,K,?_,λa C b hab=>?_,λb i=>⟨?_,λa C hab=>?_⟩⟩
  .have h0:∀o,bF g0 o b->I b∨w.heap.size<=b∨∃a∈al,a.at b:=λo k=>by
    obtain k|h:=P.own o b k
    .let ⟨Q,_,u⟩:=s b (iz (xN k))
     exact absurd i (l.box Q b u).1
    simp_all
   obtain i|i|⟨o,_,k⟩:=F.oz b i
   .obtain i|i|⟨o,k⟩:=h5.oz b i
    .exact .inl (by rw[P.bp]at i;exact i)
    .omega
    grind
   .have:=h5.size;omega
   .obtain ⟨Q,U1⟩|hge:=h5.own o b k
    .grind
    omega
  .refine h5.heap b i λo k=>?_;obtain k|⟨a,C,hab⟩:=P.own o b k
   .exact B (iz (xN k))
   simp_all
  .refine um.2 ⟨(um.1 p).2.1,(um.1 p).1,λa C a' ha' b h1 h2=>(um.1 p).2.2 a' ha' a C b h2 h1⟩
  .let ⟨o,A,k⟩:=hown a (hmem a C) b hab
   obtain(h|h)|h:=ajd o b k
   .let ⟨Q,ho',u⟩:=s b h
    have:=l.j8 o Q b k ⟨(l.box Q b u).1,.inl u⟩
    grind
   .exact .inl h
   omega
  .let ⟨Q,ho',u⟩:=s b i
   exact(l.box Q b u).1
  .let ⟨o,A,k⟩:=hown a (hmem a C) b hab
   let ⟨Q,ho',u⟩:=s b i
   have:=l.j8 o Q b k ⟨(l.box Q b u).1,.inl u⟩
   grind
 refine sL hfs hc (wpIn_mono (qh hE m (y _ m) n f _ c 0 h (λh=>absurd rfl h) (I1 pQ) (by omega) US P.rel) λe a' w' hq=>?_);obtain hF|⟨ex,fr',s',g',h1,h2,h3,h4,h5,h6⟩:=hq
 .exact hF.elim
 refine wK hE m (y _ m) n (R:=xV S I w ps rs (RT.res E.pn r) al bl) h2 h1 h4 h5.rel (λt s'' g'' v w'' K k2 k3=>?_) (λt s'' g'' v w'' K k2 k3=>?_)
 .unfold afQ at K;split at K;rotate_left
  .cases K
  rename_i r1 e1;simp at K;have e2:RT.res E.pn r=.ok r1:=by rw[<-K];cases E.pn<;>rfl
  simp[xV,e2];exact core _ _ _ (h5.trans k3.toW) rs _ v r1 e1 k2
 .simp[afP]at K;split at K;rotate_left
  .cases K
  rename_i r1 e1;have e2:RT.res E.pn r=.iJ (r1.1.1,r1.2):=RT.aaU K;simp only[xV,e2];exact⟨v,rfl,core _ _ _ (h5.trans k3.toW) [.dat S.pt] t v r1 e1 k2⟩
section
section
variable {fr fr':bU S}{s s':bg S}
theorem v9:∀{l:L Operand},(∀x∈l,cD fr x=cD fr' x)->kq fr l=kq fr' l
 |[],_=>rfl|x::l,h=>by simp[kq,h x eJ,v9 λy a=>h y (ic _ a)]
theorem kQ:∀{l:L (Nat×Operand)},(∀x∈l.map (·.2),cD fr x=cD fr' x)->ja fr l=ja fr' l
 |[],_=>rfl|(k,x)::l,h=>by simp[ja,h x (by simp),kQ λy a=>h y (by simp at a ⊢;exact .inr a)]
theorem PE:∀{x:O Operand},(∀y∈x.toList,cD fr y=cD fr' y)->Kx fr x=Kx fr' x
 |none,_=>rfl|some x,h=>by simp[Kx,h x (by simp)]
theorem PG(E:gm)(s:bg S)(o:Op)(h:∀x∈o.operands.toList,cD fr x=cD fr' x):cH E fr s o=cH E fr' s o:=by
 cases o with
 |buildSlice t n c=>
  grind[Op.operands,cH,kQ]
 |build t c=>
  grind[Op.operands,cH,kQ]
 |makeFunc f a b=>
  grind[Op.operands,cH,v9]
 |slice t x l d m=>
  grind[Op.operands,cH,PE]
 |alloc=>rfl|box t x=>grind[Op.operands,cH]|move x=>grind[Op.operands,cH]|assign x=>grind[Op.operands,cH]|pick x y z=>grind[Op.operands,cH]|load t x=>grind[Op.operands,cH]|store t x y=>grind[Op.operands,cH]|nilCheck x=>grind[Op.operands,cH]|binOp op t x y u=>grind[Op.operands,cH]|unOp op t x=>grind[Op.operands,cH]|convert t u x=>grind[Op.operands,cH]|makeInterface t x=>grind[Op.operands,cH]|extract x k=>grind[Op.operands,cH]|fieldAddr t x k=>grind[Op.operands,cH]|field t x k=>grind[Op.operands,cH]|indexAddr t x k=>grind[Op.operands,cH]|index t x k=>grind[Op.operands,cH]|typeAssert x t u ok=>grind[Op.operands,cH]|_=>rfl
theorem NG:∀{x:O Operand},(∀y∈x.toList,cD fr y=cD fr' y)->NH fr x=NH fr' x
 |none,_=>rfl|some x,h=>by simp[NH,h x (by simp)]
theorem Uk(E:gm)(s:bg S)(o:Op)(h:∀x∈o.operands.toList,cD fr x=cD fr' x):uc E fr s o=uc E fr' s o:=by
 cases o with
 |makeMap t r=>
  grind[uc,NG,Op.operands]
 |lookup t x d ok=>grind[Op.operands,uc]|mapUpdate t x d y=>grind[Op.operands,uc]|insert t x d y=>grind[Op.operands,uc]|makeSlice t n c=>grind[Op.operands,uc]|range t x=>grind[Op.operands,uc]|nilCheck x=>grind[Op.operands,uc]|typeAssert x t u ok=>grind[Op.operands,uc]|build t e=>
  grind[Op.operands,uc,kQ]
 |binOp op t x y u=>
  have b:cD fr x=cD fr' x:=h x (by simp[Op.operands]);cases op<;>first
   |rfl|(
     cases y with
     |const v=>
      cases v with
      |nilIface=>simp only[uc,b]|pointer a=>cases a<;>first|rfl|simp only[uc,b]
      |slice a n m=>cases a<;>cases n<;>cases m<;>first|rfl|simp[uc,b]
      |_=>rfl
     |_=>rfl)
 |_=>rfl
theorem Un(E:gm)(s:bg S)(o:Op)(h:∀x∈o.operands.toList,cD fr x=cD fr' x):Bp E fr s o=Bp E fr' s o:=by
 cases o with
 |indexAddr t x f=>grind[Op.operands,Bp]|load t a=>grind[Op.operands,Bp]|store t a x=>
  simp[Op.operands]at h;cases x with|tmp k=>have h2:fr.get k=fr'.get k:=h.2;simp[Bp,h.1,h2]|_=>rfl
 |buildSlice t n g=>
  simp[Bp];split
  .rename_i b c;have h2:fr.get b=fr'.get b:=h (.tmp b) (by
    grind[Op.operands])
   simp[h2]
  .rfl
  .rfl
 |slice t x lo d e=>
  cases lo<;>cases d<;>cases e<;>first
   |rfl|(
     rename_i y;have h1:cD fr x=cD fr' x:=h x (by simp[Op.operands]);have h2:cD fr y=cD fr' y:=h y (by simp[Op.operands]);simp only[Bp,h1,h2])
 |_=>rfl
def Ja(E:gm)(s:bg S)(o:Op)(h:∀x∈o.operands.toList,cD fr x=cD fr' x):Ap E fr s o=Ap E fr' s o:=by unfold Ap;rw[Un E s o h,PG E s o h,Uk E s o h]
theorem Jb(E:gm)(s:bg S)(o:Op)(h:∀x∈o.operands.toList,cD fr x=cD fr' x):eX E fr s o=eX E fr' s o:=by
 cases o with
 |next c b=>simp[Op.operands]at h;cases b<;>first|rfl|simp[eX,h]
 |lookup t x a ok=>grind[Op.operands,eX]|index t x a=>grind[Op.operands,eX]|_=>rfl
theorem Cj{c:Call}(h:∀x∈c.operands.toList,cD fr x=cD fr' x):kq fr c.args.toList=kq fr' c.args.toList∧(∀f,c.callee=.value f->cD fr f=cD fr' f)∧∀x m,c.callee=.invoke x m->cD fr x=cD fr' x:=by
 grind[Call.operands,v9]
theorem AN(E:eO S)(call:gn S)(o:Oper)(s:bg S){ω:Type}(kp:V S->bg S->O ω)(k:V S->bg S->L Nat->O ω)(h:∀x∈o.op.operands.toList,cD fr x=cD fr' x) :
  uK E call o fr s kp k=uK E call o fr' s kp k:=by
 unfold uK;have a:=Ja E.T s o.op h;have d:=Jb E.T s o.op h;cases e:o.op with
 |call c=>
  rw[e]at h
  let ⟨h1,h2,h3⟩:=Cj h
  dsimp only;rw[h1];cases g:c.callee with|value f=>simp_all|builtin b=>rfl|invoke x m=>simp_all
 |panic x=>
  grind[Op.operands]
 |_=>rw[e]at a d;simp only[a,d]
theorem iQ(E:eO S)(g:O Bool)(o:Oper)(s:bg S){ω:Type}(k:V S->O ω)(h:∀x∈o.op.operands.toList,cD fr x=cD fr' x) :
  fL E g fr s o k=fL E g fr' s o k:=by
 unfold fL;have a:=Ja E.T s o.op h;have b:=Jb E.T s o.op h;cases d:o.op with
 |call c=>
  grind[Op.operands,Cj]
 |buildSlice t n e=>
  grind[Op.operands,kQ]
 |slice t x l f m=>
  grind[Op.operands]
 |_=>first|rfl|(rw[d]at a b;simp only[a,b])
theorem Kp(E:eO S)(o:Oper)(h:∀x∈o.op.operands.toList,cD fr x=cD fr' x):BE E fr o=BE E fr' o:=by
 unfold BE;cases a:o.op with
 |call c=>
  grind[Op.operands,Cj]
 |buildSlice t n b=>
  grind[Op.operands,kQ]
 |slice t x l d m=>
  grind[Op.operands]
 |_=>rfl
def tmpsOf(o:Op):L Nat:=o.operands.toList.filterMap λx=>match x with|.tmp k=>Z k|_=>Y
theorem js{o:Op}(h:∀k∈tmpsOf o,fr.get k=fr'.get k):∀x∈o.operands.toList,cD fr x=cD fr' x:=by intro x a;cases x with|tmp k=>exact h k (Al.2 ⟨.tmp k,a,rfl⟩)|_=>rfl
theorem rY{o:Op}(c:∀k∈tmpsOf o,k<bI)(h:∀k∈tmpsOf o,fr.get k=fr'.get k):∀k∈tmpsOf o,(rZ fr o).get k=(rZ fr' o).get k:=by
 have key:∀(l:L Operand)(f a:bU S),(∀k,.tmp k∈l->k∈tmpsOf o)->(∀k∈tmpsOf o,f.get k=a.get k)->∀k∈tmpsOf o,
   (l.foldl (λf x=>match x with
    |.tmp k=>match fr.get k with
     |some (.gd _ v)=>f.put k v|_=>f
    |_=>f) f).get k=(l.foldl (λf x=>match x with
    |.tmp k=>match fr'.get k with
     |some (.gd _ v)=>f.put k v|_=>f
    |_=>f) a).get k:=by
  intro l
  induction l with
  |nil=>simp_all|cons x l d=>
   intro f a e g k b;simp
   grind[bU.j4]
 exact key _ _ _ (λk b=>Al.2 ⟨.tmp k,b,rfl⟩) h
theorem uH{o:Op}(c:Bool)(h:∀k∈tmpsOf o,fr.get k=fr'.get k):NK c fr o=NK c fr' o:=by
 have key:∀(l:L Operand)(q:Bool),(∀k,.tmp k∈l->k∈tmpsOf o)->
   l.foldl (λp x=>match x with
    |.tmp k=>match fr.get k with
     |some (.gd g _)=>p&&imp c g|_=>p
    |_=>p) q=l.foldl (λp x=>match x with
    |.tmp k=>match fr'.get k with
     |some (.gd g _)=>p&&imp c g|_=>p
    |_=>p) q:=by
  intro l
  induction l with
  |nil=>intro q _;rfl
  |cons x l b=>
   grind
 exact key _ _ (λk a=>Al.2 ⟨.tmp k,a,rfl⟩)
def oE(ops:L Oper)(o:Oper):O Nat:=match o.guard with
 |none=>Y|some (j,_)=>(nth ops j).bind (·.dst)
def pS{ops:L Oper}{o:Oper}(h:∀k,oE ops o=Z k->fr.get k=fr'.get k):iO ops fr o=iO ops fr' o:=by
 unfold iO;cases b:o.guard with
 |none=>rfl|some p=>
  let ⟨j,a⟩:=p
  dsimp only;cases c:(nth ops j).bind (·.dst)with|none=>rfl|some k=>simp;rw[h k (by simp[oE,b,c])]
theorem rO{ops:L Oper}{o:Oper}(h:∀k,oE ops o=Z k->fr.get k=fr'.get k):vu ops fr o=vu ops fr' o:=by
 unfold vu;cases b:o.guard with
 |none=>rfl|some p=>
  let ⟨j,a⟩:=p
  dsimp only;cases c:(nth ops j).bind (·.dst)with|none=>rfl|some k=>simp;rw[h k (by simp[oE,b,c])]
theorem Is(E:eO S)(call:gn S){ops:L Oper}{o:Oper}(s:bg S){ω:Type}(kp:V S->bg S->O ω)(k:V S->bg S->L Nat->O ω)(hn:fr.n=fr'.n)(b:∀k∈tmpsOf o.op,k<bI)
  (h:∀k∈tmpsOf o.op,fr.get k=fr'.get k) (a:∀k,oE ops o=Z k->fr.get k=fr'.get k):pT E call ops o fr s kp k=pT E call ops o fr' s kp k:=by
 unfold pT;have h1:gP fr o.dst=gP fr' o.dst:=by cases o.dst<;>simp only[gP,hn]
 have h2:=js h;have h3:=js (rY b h);rw[h1,pS a,rO a];simp[AN E call o s kp k h2,AN E call o s kp k h3,Kp E o h3,uH (o:=o.op) _ h]
 grind[iQ]
end
theorem Hh{ω:Type}(k:V S->O ω){D:O ω}{a:O (V S)}(h:D=a.bind k):∀l:L (Bool×V S×bg S),w8 k D l=(w8 Z a l).bind k
 |[]=>h|p::l=>by simp[w8,Hh k h l];cases p.1<;>rfl
theorem AK(E:eO S)(g:O Bool)(fr:bU S)(s:bg S)(o:Oper){ω:Type}(k:V S->O ω):fL E g fr s o k=(fL E g fr s o Z).bind k:=by
 have a:∀(p:Bool)(t:V S),zu g p (k t)=(zu g p (Z t)).bind k:=by
  intro p t;cases g with
  |none=>cases p<;>rfl
  |some c=>cases c<;>cases p<;>rfl
 unfold fL;split
 .split
  .rfl
  .split
   .grind
   .split
    .rfl
    .split
     .rfl
     .rename_i c _;cases(cA c.ps&&(jU c.rs&&(j0 _&&!c.pn)))with
      |false=>rfl|true=>
       split
       .unfold ah
        grind
       .rfl
   .rfl
 iterate 11
  .rfl
 .grind
 .grind
 grind[Hh]
def Sm(s s':bg S)(v:V S):Prop:=∀o,cI (Nq o) v=W->s'.ob.get o=s.ob.get o
def Sms(s s':bg S)(l:L (V S)):Prop:=∀o,iN (Nq o) l=W->s'.ob.get o=s.ob.get o
variable {v:V S}
def Sms.cons{s s':bg S}{l:L (V S)}(h:Sms s s' (v::l)):Sm s s' v∧Sms s s' l:=
 ⟨λo a=>h o (by simp[iN,a]),λo a=>h o (by simp[iN,a])⟩
theorem Bz{s s':bg S}{v:V S}(h:Sm s s' v)(e:Ty):Kg s' e v=Kg s e v:=by
 cases v with
 |sh o r=>simp[Kg,h o (by simp[cI])]
 |ty t x=>cases t<;>rfl
 |_=>rfl
def Tf{s s':bg S}{o:Nat}(h:s'.ob.get o=s.ob.get o)(e:Nat):Lr s' o e=Lr s o e:=by simp[Lr,h]
mutual
def z6{s s':bg S}:∀(t:Ty)(v:V S),Sm s s' v->vO v=W->bS s' t v=bS s t v
 |t,.agg c,h,b=>by cases t with|st n=>simp[bS,Mj (S.fs n) c h b]|_=>simp only[bS]
 |t,.di u v,h,b=>by
  cases t with
  |di n=>
   simp[bS];cases xb (S.alts n) u with|none=>rfl|some i=>simp[z6 (ny (S.alts n) i) v h b]
  |_=>simp only[bS]
 |t,.sh o r,_,b=>by simp[vO]at b
 |t,.sy _ _ _ _,_,b=>by rfl
 |t,.pU _ _ _,_,_=>by cases t<;>simp only[bS]
 |t,.ty _ _,_,_=>by rfl
 |t,.kb _,_,_=>by cases t<;>simp only[bS]
 |t,.kn _ _,_,_=>by cases t<;>simp only[bS]
 |t,.dat d,_,_=>by
  cases t with
  |di n=>
   cases d with
   |lit v=>cases v<;>simp only[bS]
   |_=>simp only[bS]
  |opt n=>
   cases d with
   |lit v=>cases v with
    |pointer a=>cases a<;>simp only[bS]
    |_=>simp only[bS]
   |_=>simp only[bS]
  |_=>simp only[bS]
 |t,.ptr _ _,_,_=>by cases t<;>simp only[bS]
 |t,.mc _ _ _,_,_=>by cases t<;>simp only[bS]
 |t,.l9 _ _ _ _,_,_=>by cases t<;>simp only[bS]
 |t,.emp,_,_=>by cases t<;>simp only[bS]
 |t,.kM _ _ _,_,_=>by cases t<;>simp only[bS]
 |t,.fn _ _ _,_,_=>by cases t<;>simp only[bS]
 |t,.gT _,_,_=>by cases t<;>simp only[bS]
 |t,.gd _ _,_,_=>by cases t<;>simp only[bS]
 |t,.mp _,_,_=>by cases t<;>simp only[bS]
 |t,.rJ _,_,_=>by cases t<;>simp only[bS]
 |t,.ud _,_,_=>by cases t<;>simp only[bS]
 |t,.ub _,_,_=>by cases t<;>simp only[bS]
def Mj{s s':bg S}:∀(ts:L Ty)(l:L (V S)),Sms s s' l->j0 l=W->oe s' ts l=oe s ts l
 |[],[],_,_=>rfl|t::ts,v::l,h,a=>by simp[j0,fF]at a;simp[oe,z6 t v h.cons.1 a.1,Mj ts l h.cons.2 a.2]
 |[],_::_,_,_=>rfl|_::_,[],_,_=>rfl
end
def gr(r:nU S):O (Bool×V S):=match r with
 |some (c,t,_)=>Z (c,t)|none=>Y
theorem ql{b:Bool}{x y:nU S}(h:b=W->gr x=gr y):gr (bif b then x else Y)=gr (bif b then y else Y):=by
 grind
theorem QF{b:Bool}{x y x' a:nU S}(h:gr x=gr x')(c:gr y=gr a):gr (bif b then x else y)=gr (bif b then x' else a):=by
 grind
theorem gG{α:Type}(x:O α)(f g:α->Bool×V S×bg S)(h:∀a,(f a).1=(g a).1∧(f a).2.1=(g a).2.1):gr (x.map f)=gr (x.map g):=by cases x with|none=>rfl|some a=>grind[gr]
section
variable {fr:bU S}{s s':bg S}
theorem Xq(i:TI)(τ:O Ty){a:V S}(h:Sm s s' a):gr (yF i τ s' a)=gr (yF i τ s a):=by
 cases a with
 |ptr o off=>
  simp[yF,h o (by simp[cI])];cases s.ob.get o with
  |none=>rfl|some ob=>
   cases ob with
   |box b=>
    dsimp only;cases Nq (cE ((b.drop off).take i.size)) i.size with|false=>rfl|true=>exact gG _ _ _ λ_=>⟨rfl,rfl⟩
   |_=>rfl
 |mc t x off=>exact gG _ _ _ λ_=>⟨rfl,rfl⟩|l9 o e k off=>
  simp[yF,Tf (h o (by simp[cI]))];cases Lr s o e with|none=>rfl|some x=>exact gG _ _ _ λ_=>⟨rfl,rfl⟩
 |_=>rfl
theorem Im(i:TI)(τ:O Ty){a b:V S}(h:Sm s s' a):gr (kC i τ s' a b)=gr (kC i τ s a b):=by
 unfold kC;split
 .rename_i e n c _;cases a with
  |sh o r=>
   simp[Tf (h o (by simp[cI]))];cases Lr s o r with|none=>rfl|some x=>dsimp only;cases sk x.1 e<;>rfl
  |ty t x=>dsimp only;rw[Bz h];cases Kg s e (.ty t x)<;>rfl
  |emp=>rfl|kM n t l=>dsimp only;rw[Bz h];cases Kg s e (.kM n t l)<;>rfl
  |pU n t l=>dsimp only;rw[Bz h];cases Kg s e (.pU n t l)<;>rfl
  |_=>rfl
 .unfold w7;split
  .rename_i k;cases Nt k _<;>rfl
  .rfl
 .rfl
theorem aaX(E:gm)(o:Op)(c:qJ o=J)(h:∀x∈o.operands.toList,∀v,cD fr x=Z v->Sm s s' v):gr (cH E fr s' o)=gr (cH E fr s o):=by
 cases o with
 |alloc=>cases c
 |box=>cases c
 |store=>cases c
 |buildSlice=>cases c
 |slice=>cases c
 |move x=>exact gG _ _ _ λ_=>⟨rfl,rfl⟩|assign x=>exact gG _ _ _ λ_=>⟨rfl,rfl⟩|pick x y z=>
  simp[cH];split
  .exact gG _ _ _ λ_=>⟨rfl,rfl⟩
  .rfl
 |build t i=>
  simp[cH];split
  .split
   .exact gG _ _ _ λ_=>⟨rfl,rfl⟩
   .rfl
  .rfl
 |load t x=>
  grind[cH,Xq,Op.operands]
 |nilCheck x=>
  simp[cH];split<;>first|rfl|(split<;>rfl)
 |binOp op t x y u=>
  simp[cH];split
  .exact gG _ _ _ λ_=>⟨rfl,rfl⟩
  .rfl
 |unOp op t x=>
  simp[cH];split
  .exact gG _ _ _ λ_=>⟨rfl,rfl⟩
  .rfl
 |convert t u x=>
  simp[cH];split
  .unfold S4;split
   .exact gG _ _ _ λ_=>⟨rfl,rfl⟩
   .exact gG _ _ _ λ_=>⟨rfl,rfl⟩
   .rfl
  .rfl
 |makeInterface t x=>
  simp[cH];split
  .split<;>rfl
  .rfl
 |makeFunc f a b=>simp[cH];split<;>rfl
 |extract x k=>
  simp[cH];split
  .unfold AI;split
   .exact gG _ _ _ λ_=>⟨rfl,rfl⟩
   .rfl
  .rfl
 |fieldAddr t x k=>
  simp[cH];split
  .unfold qZ;split
   .split
    .rename_i off size d _;cases Nq size 0 with
     |true=>rfl|false=>
      first|rfl|(simp only[j9];split<;>rfl)
    .rfl
   .rfl
  .rfl
 |field t x k=>
  simp[cH];split
  .unfold BY;split
   .split
    .rename_i off size d e _ _;dsimp only;cases(Nq (cE ((e.drop off).take size)) size&&!(Nq size 0))with|false=>rfl|true=>exact gG _ _ _ λ_=>⟨rfl,rfl⟩
    .rfl
   .rfl
  .rfl
 |indexAddr t x g=>
  grind[cH,Im,Op.operands]
 |index t x g=>
  simp[cH];split
  .unfold BR;split<;>rfl
  .rfl
 |typeAssert x a t ok=>
  simp[cH];split
  .rename_i v h1 h2;unfold EI;split
   .rfl
   .rename_i u v _;cases Nq u t with|true=>rfl|false=>exact gG _ _ _ λ_=>⟨rfl,rfl⟩
   .rename_i u v _;cases Nq u t<;>rfl
   .rfl
  .rfl
 |_=>rfl
end
section
variable {fr:bU S}{s s':bg S}
theorem JD{r a:nU S}(h:gr r=gr a):r=Y↔a=Y:=by cases r<;>cases a<;>simp_all [gr]
def aa5{s s':bg S}{kt a:Ty}(h:Sm s s' v):Xm s' kt a v=Xm s kt a v:=by
 unfold Xm;split
 .rename_i o;rw[h o (by simp[cI])]
 .rfl
 .rfl
 .rfl
theorem aeF(E:gm)(o:Op)(b:qJ o=J)(c:∀x∈o.operands.toList,∀v,cD fr x=Z v->Sm s s' v):gr (uc E fr s' o)=gr (uc E fr s o):=by
 cases o with
 |makeMap=>cases b
 |mapUpdate=>cases b
 |insert=>cases b
 |makeSlice=>cases b
 |range=>cases b
 |lookup t x d ok=>
  simp[uc];split
  .rename_i m e f h1 h2 h3;have:=c x (by simp[Op.operands]) _ h2;simp[aa5 this];split
   .split<;>rfl
   .rfl
  .rfl
 |nilCheck x=>simp[uc];split<;>rfl
 |typeAssert x t u ok=>
  simp[uc];split
  .rename_i τ n y _ _ _;split
   .rfl
   .rename_i j _ _;cases sk (ny (S.alts n) j) τ<;>cases ok<;>rfl
   .cases ok<;>rfl
  .rfl
 |build t g=>
  simp only[uc];split
  .split
   .exact gG _ _ _ λ_=>⟨rfl,rfl⟩
   .rfl
  .rfl
 |binOp op t x y u=>
  cases op<;>first
   |rfl|(
     cases y with
     |const v=>
      cases v with
      |nilIface=>simp only[uc];split<;>first|rfl|(split<;>rfl)
      |pointer a=>cases a<;>first|rfl|(simp only[uc];split<;>first|rfl|(split<;>rfl))
      |slice a n m=>
       cases a<;>cases n<;>cases m<;>first
        |rfl|(
         simp[uc];split
         .rename_i h2;have:=c x (by simp[Op.operands]) _ h2;simp[Bz this];split<;>rfl
         .rfl)
      |_=>rfl
     |_=>rfl)
 |_=>rfl
theorem aeJ(E:gm)(o:Op)(b:qJ o=J)(c:∀x∈o.operands.toList,∀v,cD fr x=Z v->Sm s s' v):gr (Bp E fr s' o)=gr (Bp E fr s o):=by
 cases o with
 |slice=>cases b
 |store=>cases b
 |buildSlice=>cases b
 |indexAddr t x d=>
  simp[Bp];split
  .rename_i o r h1;rw[c x (by simp[Op.operands]) _ h1 o (by simp[cI])];split
   .split
    .split
     .exact ql λ_=>rfl
     .rfl
    .rfl
   .rfl
  .rfl
 |load t a=>
  simp only[Bp];split
  .rename_i o e k off h1;rw[c a (by simp[Op.operands]) _ h1 o (by simp[cI])];split
   .split
    .exact ql λ_=>QF (ql λ_=>rfl) (ql λ_=>gG _ _ _ λ_=>⟨rfl,rfl⟩)
    .rfl
   .rfl
  .rfl
 |_=>rfl
theorem Sv(E:gm){o:Op}(a:gr (Bp E fr s' o)=gr (Bp E fr s o))(h1:gr (cH E fr s' o)=gr (cH E fr s o))(h2:gr (uc E fr s' o)=gr (uc E fr s o)):gr (Ap E fr s' o)=gr (Ap E fr s o):=by
 grind[Ap,JD]
theorem aeG(E:gm)(o:Op)(a:qJ o=J)(b:∀x∈o.operands.toList,∀v,cD fr x=Z v->Sm s s' v):gr (Ap E fr s' o)=gr (Ap E fr s o):=by
 grind[aaX,aeF,aeJ,Sv]
def Iv(a:L (Bool×V S×bg S)):L (Bool×V S):=a.map λp=>(p.1,p.2.1)
def JP{ω:Type}(k:V S->O ω)(d:O ω):∀{l m:L (Bool×V S×bg S)},Iv l=Iv m->w8 k d l=w8 k d m
 |[],[],_=>rfl|p::l,q::m,h=>by simp[Iv,pz,MW,fE]at h;simp[w8,h.1.1,h.1.2,JP k d (l:=l) (m:=m) h.2]
 |[],_::_,h=>by simp[Iv]at h
 |_::_,[],h=>by simp[Iv]at h
def YE(r:O (L (Bool×V S×bg S)×Bool×V S×bg S)):O (L (Bool×V S)×Bool×V S):=match r with
 |none=>Y|some (l,p,d,_)=>Z (Iv l,p,d)
def Hi(n:Int)(ag:Bool)(sz:Nat)(cs:L (V S))(s s':bg S):∀l:L Nat,Iv (zJ n ag sz cs s' l)=Iv (zJ n ag sz cs s l)
 |[]=>rfl|j::l=>by
  simp only[zJ];split
  .simp[Iv,pz,MW,true_and];exact Hi n ag sz cs s s' l
  .rfl
def aeH(E:gm)(o:Op)(b:qJ o=J)(c:∀x∈o.operands.toList,∀v,cD fr x=Z v->Sm s s' v):YE (eX E fr s' o)=YE (eX E fr s o):=by
 cases o with
 |next=>cases b
 |lookup t x d ok=>
  simp[eX];split
  .rename_i a e h1 h2 h3;have:=c x (by simp[Op.operands]) _ h2 a (by simp[cI]);rw[this];split
   .split
    .simp_all[YE,Iv]
    .rfl
   .rfl
  .rfl
 |index t x d=>
  simp[eX];split
  .rename_i i f e _ _ _;split
   .cases Nq (cE f) i.size with|false=>rfl|true=>simp[iq,YE,Hi _ _ _ _ s s']
   .rfl
  .rfl
 |_=>rfl
end
def Jx{s s':bg S}{e:Ty}:∀{ps:L (Nat×V S)}{es:L (den S.A e)},(∀p∈ps,Sm s s' p.2)->(∀p∈ps,vO p.2=W)->oQ s' e es ps=oQ s e es ps
 |[],es,_,_=>rfl|(k,v)::ps,es,h,b=>by simp[oQ,z6 e v (h _ eJ) (b _ eJ)];cases bS s e v with|none=>rfl|some x=>dsimp only;rw[Jx (λp a=>h p (ic _ a)) (λp a=>b p (ic _ a))]
theorem Fv{fr:bU S}:∀{ps:L (Nat×Operand)}{l:L (Nat×V S)},ja fr ps=Z l->∀p∈l,∃x∈ps.map (·.2),cD fr x=Z p.2
 |[],l,h,p,a=>by grind[ja]
 |(k,x)::ps,l,h,p,a=>by
  simp[ja]at h;split at h
  .rename_i h2;simp at h;subst h;obtain rfl|a:=ga.1 a
   .simp_all
   .let ⟨y,b,h⟩:=Fv h2 p a
    grind
  .cases h
theorem I9{fr:bU S}:∀{ps:L Operand}{l:L (V S)},kq fr ps=Z l->∀v∈l,∃x∈ps,cD fr x=Z v
 |[],l,h,p,a=>by grind[kq]
 |x::ps,l,h,p,a=>by
  simp[kq]at h;split at h
  .rename_i h2;simp at h;subst h;obtain rfl|a:=ga.1 a
   .simp_all
   .let ⟨y,b,h⟩:=I9 h2 p a
    grind
  .cases h
theorem TN(i:TI)(τ:O Ty){s s':bg S}{v:V S}(hs:∀e,Kg s' e v=Kg s e v)(f:Nc v=[])(l h m:O (V S)):gr (vW i τ s' v l h m)=gr (vW i τ s v l h m):=by
 unfold vW;rw[f];simp[dR,hs];split
 .split
  .split<;>rfl
  .rfl
 .rename_i e lo _;cases i.kd with
  |slice a b c d=>
   cases Kg s e v with
   |none=>rfl|some g=>
    dsimp only;cases Cp (aq g) h with
    |none=>rfl|some j=>
     cases m with
     |none=>rfl|some y=>
      cases h with
      |none=>rfl|some z=>
       cases y with
       |kn k n=>
        cases k with
        |i64=>cases n with
         |ofNat n=>cases n<;>rfl
         |negSucc n=>rfl
        |_=>rfl
       |ty t x=>dsimp only;cases g7 .i64 (V.ty (S:=S) t x)<;>rfl
       |_=>rfl
  |_=>rfl
 .rfl
def I7{s s':bg S}:∀{ps:L Pk}{l:L (V S)},cA ps=W->(∀v∈l,Sm s s' v)->j0 l=W->eM s' ps l=eM s ps l
 |[],[],_,_,_=>rfl|.one (.dat t)::ps,v::l,a,h,b=>by simp[j0,fF]at b;simp[eM,o3,z6 t v (h v eJ) b.1,I7 (ps:=ps) (by simpa[cA]using a) (λv c=>h v (ic _ c)) b.2]
 |.one (.own _)::_,_,a,_,_=>by simp[cA]at a
 |.one (.kz ..)::_,_,a,_,_=>by simp[cA]at a
 |.one (.nil _)::_,_,a,_,_=>by simp[cA]at a
 |.one (.ptr _)::_,_,a,_,_=>by simp[cA]at a
 |.box _::_,_,a,_,_=>by simp[cA]at a
 |[],_::_,_,_,_=>rfl|.one _::_,[],_,_,_=>rfl
def zj{p:Nat->Bool}:∀{l:L (V S)}{v:V S},v∈l->cI p v=W->iN p l=W
 |a::l,v,h,b=>by
  obtain rfl|h:=ga.1 h
  .simp[iN,b]
  .simp[iN,zj h b]
def DY(E:gm){s s':bg S}{ts:Array TypeId}{args:L (V S)}(h:∀v∈args,Sm s s' v):gr (iw E s' .len ts args)=gr (iw E s .len ts args):=by
 unfold iw;split
 .rename_i _;split
  .split<;>rfl
  .split
   .rw[Bz (h _ (by simp))];exact gG _ _ _ λ_=>⟨rfl,rfl⟩
   .rfl
  .rfl
 .simp_all
 .rfl
theorem Cm(E:gm){s s':bg S}{b:Builtin}(a:Em b=W){ts:Array TypeId}{args:L (V S)}(h:∀v∈args,Sm s s' v):gr (lU E s' b ts args)=gr (lU E s b ts args):=by
 have h1:gr (iw E s' b ts args)=gr (iw E s b ts args):=by cases b with|len=>exact DY E h|max=>rfl|min=>rfl|_=>cases a
 have h2:gr (tS E s' b ts args)=gr (tS E s b ts args):=by
  unfold tS;split
  .rename_i o;rw[h (.mp o) (by simp) o (by simp[cI])];split<;>rfl
  .split<;>rfl
  .split<;>rfl
  .rfl
 have c:gr (m7 E s' b ts args)=gr (m7 E s b ts args):=by
  unfold m7;split
  .rename_i o r;rw[h (.sh o r) (by simp) o (by simp[cI])];split
   .split
    .split
     .exact ql λ_=>rfl
     .rfl
    .rfl
   .rfl
  .cases a
  .cases a
  .rfl
 have h3:gr (tT E s' b ts args)=gr (tT E s b ts args):=by cases b<;>first|rfl|cases a
 grind[lU,JD]
def aeh{α:Type}(f:Bool->V S->O α)(r:nU S):O α:=match r with
 |none=>Y|some (p,t,_)=>f p t
def AV{α:Type}{r a:nU S}(h:gr r=gr a)(f:Bool->V S->O α):aeh f r=aeh f a:=by
 cases r with
 |none=>cases a with|none=>rfl|some x=>cases h
 |some x=>cases a with
  |none=>cases h
  |some y=>simp[gr,gR,fE]at h;simp[aeh];rw[h.1,h.2]
theorem Gx(E:eO S)(g:O Bool){fr:bU S}{s s':bg S}(o:Oper){ω:Type}(k:V S->O ω)(i:∀x∈o.op.operands.toList,∀v,cD fr x=Z v->Sm s s' v) :
  fL E g fr s' o k=fL E g fr s o k:=by
 unfold fL;have A:qJ o.op=J->gr (Ap E.T fr s' o.op)=gr (Ap E.T fr s o.op):=λhq=>aeG E.T o.op hq i;cases B:o.op with
 |call c=>
  rw[B]at i;simp only[Op.operands,Call.operands,T6,eZ]at i;dsimp only;cases ha:kq fr c.args.toList with
  |none=>rfl|some args=>
   have w:∀v∈args,Sm s s' v:=λv z=>by
    grind[I9]
   cases K:c.callee with
   |value f=>
    dsimp only;cases hf:cD fr f with
    |none=>rfl|some v=>
     simp;have z:=i f (.inl (by rw[K];simp)) v hf;cases d:pW v args with
     |none=>rfl|some q=>
      let ⟨f',j⟩:=q
      dsimp only;cases hg:E.Iq f' with
      |none=>rfl|some c'=>
       dsimp only;have m:∀v∈j,Sm s s' v:=by
        unfold pW at d;split at d
        .obtain ⟨_,rfl⟩:=d;intro u hu;simp only[eZ]at hu;obtain(hu|hu)|hu:=hu
         .exact λo P=>z o (by simp[cI,zj hu P])
         .grind
         .exact λo P=>z o (by simp[cI,zj hu P])
        .cases d
       cases Q:cA c'.ps with
       |false=>rfl|true=>
        cases R:j0 j with|false=>simp|true=>rw[I7 Q m R]
   |builtin b=>
    dsimp only;cases hb:Em b with
    |false=>rfl|true=>
     have:=AV (Cm E.T hb (ts:=c.argTypes) w) (λp t=>zu g p (k t));cases h1:lU E.T s' b c.argTypes args with
     |none=>cases h2:lU E.T s b c.argTypes args with|none=>rfl|some y=>rw[h1,h2]at this;exact this
     |some x=>cases h2:lU E.T s b c.argTypes args with|none=>rw[h1,h2]at this;exact this|some y=>rw[h1,h2]at this;exact this
   |invoke=>rfl
 |buildSlice t n ps=>
  rw[B]at i;simp only[Op.operands]at i;dsimp only;cases C:ja fr ps.toList with
  |none=>rfl|some l=>
   dsimp only;cases r:j0 (l.map (·.2))with
   |false=>rfl|true=>
    refine AV ?_ (λp t=>zu g p (k t));refine Sv E.T ?_ ?_ rfl
    .simp[Bp];split
     .rename_i kx F;split
      .split
       .split
        .refine ql λ_=>?_;have hmm:=i (.tmp kx) (by rw[F];simp);rename_i I _ _ _ _ _ _ _ _ _ _ _ _;rw[F]at C;simp[ja,cD,I,gR]at C;subst C;simp[pz,List.map_nil,j0,Pw]at r;rw[z6 _ _ (hmm _ I) r];split
         .rename_i KS;have:=tD _ _ _ r KS;subst this;rfl
         .rfl
        .rfl
       .rfl
      .rfl
     .split
      .split
       .cases Nq n 0<;>rfl
       .rfl
      .rfl
     .rfl
    simp only[cH,C];split
    .rename_i e ps' h1 h2 h3;cases h3;split
     .rename_i sz _ _ _ _;cases Nl (Nat.mul n sz) 16777216 with
      |false=>rfl|true=>
       rw[Jx (λp hp=>by
        let ⟨x,I,h⟩:=Fv C p hp
        exact i x (by simpa using I) _ h) (FF r)]
       cases hel:oQ s e (List.replicate n (S.zero e)) l with
       |none=>rfl|some q=>
        let ⟨es,os⟩:=q
        have:=Cd (FF r) hel;subst this;rfl
     .rfl
    .rfl
 |slice t x lo hi mx=>
  rw[B]at i;dsimp only;cases z:cD fr x with
  |none=>rfl|some v=>
   dsimp only;cases r:vO v with
   |false=>rfl|true=>
    refine AV ?_ (λp t=>zu g p (k t));have hsm:=i x (by simp[Op.operands]) v z;have hown:Nc v=[]:=by cases v<;>first|rfl|simp[vO]at r
    rw[Es rfl (BI z r),Es rfl (BI z r)]
    grind[cH,TN,Bz]
 |store=>rfl|alloc=>rfl|box=>rfl|panic=>rfl|makeMap=>rfl|mapUpdate=>rfl|insert=>rfl|makeSlice=>rfl|range=>rfl|next=>rfl|defer=>rfl|_=>
  have a:=aeH E.T o.op (by rw[B];rfl) i;rw[B]at A a;dsimp only;have h2:=AV (A rfl) (λp t=>zu g p (k t));generalize I:eX E.T fr s' _=x at a;generalize hy:eX E.T fr s _=y at a;cases x with
  |none=>cases y with|none=>exact h2|some y=>cases a
  |some x=>cases y with
   |none=>cases a
   |some y=>simp only[YE,gR,fE]at a;obtain⟨q1,q2,q3⟩:=a;dsimp only;rw[q2,q3];exact JP k _ q1
end
section
theorem Lj(e j:Nat):(1 <<< e).testBit j=decide (e=j):=by rw[Nat.shiftLeft_eq,IZ,Nat.testBit_two_pow]
theorem Jt(f:Nat->Nat)(j:Nat):∀(l:L Nat)(z:Nat),(l.foldl (λb e=>b||| (1 <<< e||| f e)) z).testBit j=(z.testBit j||l.any λe=>decide (e=j)||(f e).testBit j)
 |[],z=>by simp
 |e::l,z=>by
  rw[MX,Jt f j l]
  grind[Lj]
theorem wY:∀(l:L Oper)(a:L Nat)(i:Nat),i<a.length->(Ol l a).getD i 0=a.getD i 0
 |[],_,_,_=>rfl|o::l,a,i,h=>by
  rw[Ol,wY l _ i (by grind)]
  grind
def any_eq{α:Type}{f g:α->Bool}:∀{l:L α},(∀e∈l,f e=g e)->l.any f=l.any g
 |[],_=>rfl|a::l,h=>by rw[List.any_cons,List.any_cons,h a eJ,any_eq λe b=>h e (ic _ b)]
theorem Td:∀(l:L Oper)(acc:L Nat)(k:Nat)(o:Oper),l[k]?=Z o->vA l acc.length=W->∀j,
  ((Ol l acc).getD (acc.length+k) 0).testBit j=(yj o).any λe=>decide (e=j)||((Ol l acc).getD e 0).testBit j
 |[],acc,k,o,h,_,j=>by simp at h
 |p::l,acc,k,o,h,c,j=>by
  simp only[vA,fF]at c;cases k with
  |zero=>simp at h;subst h;rw[Ol,wY _ _ _ (by simp_all)];simp;rw[Jt];simp;refine any_eq λe d=>?_;have a:e<acc.length:=gU (lB.1 c.1 e d);have:=wY l (acc++[(yj p).foldl (λb e=>b||| (1 <<< e||| acc.getD e 0)) 0]) e (by grind);simp[MN,List.getElem?_append_left a]at this ⊢;rw[this]
  |succ k=>
   rw[Ol];have:=Td l (acc++[(yj p).foldl (λb e=>b||| (1 <<< e||| acc.getD e 0)) 0]) k o (by simpa using h) (by grind) j
   grind
section
variable {ops:List Oper}
def Pre(ops:L Oper)(i j:Nat):Prop:=((wX ops).getD i 0).testBit j=W
variable {i:Nat}{o:Oper}
def Er(a:vA ops 0=W)(h:ops[i]?=Z o)(j:Nat):Pre ops i j↔∃e∈yj o,e=j∨Pre ops e j:=by
 have:=Td ops [] i o h a j
 simp_all[Pre,wX]
def A8:∀{l:L Oper}{n:Nat},vA l n=W->∀{k:Nat}{o:Oper},l[k]?=Z o->∀e∈yj o,e<n+k
 |[],_,_,k,o,h,_,_=>by simp at h
 |p::l,n,a,k,o,h,e,b=>by
  simp only[vA,fF]at a;cases k with
  |zero=>
   simp_all
  |succ k=>have:=A8 a.2 (k:=k) (by simpa using h) e b;omega
theorem WX(a:vA ops 0=W):∀{i:Nat}{o:Oper},ops[i]?=Z o->∀j,Pre ops i j->j<i:=by
 intro i
 induction i using Nat.strongRecOn with
 |_ i g=>
  intro o h j b
  let ⟨e,c,d⟩:=(Er a h j).1 b
  have f:=A8 a h e c
  grind
theorem Ud(a:vA ops 0=W):∀{i:Nat}{o:Oper},ops[i]?=Z o->∀{j k:Nat},Pre ops i j->Pre ops j k->Pre ops i k:=by
 intro i
 induction i using Nat.strongRecOn with
 |_ i g=>
  intro o h j k c d
  let ⟨e,b,hej⟩:=(Er a h j).1 c
  refine(Er a h k).2 ⟨e,b,.inr ?_⟩;obtain rfl|hej:=hej
  .exact d
  .have f:=A8 a h e b
   grind
theorem nI(b:vA ops 0=W){a:Nat->Prop}(k:∀i o,ops[i]?=Z o->a i->∀e∈yj o,a e):∀{i:Nat}{o:Oper},ops[i]?=Z o->(∀e∈yj o,a e)->∀j,Pre ops i j->a j:=by
 intro i
 induction i using Nat.strongRecOn with
 |_ i l=>
  intro o h d j f
  let ⟨e,c,hej⟩:=(Er b h j).1 f
  obtain rfl|hej:=hej
  .exact d _ c
  .have g:=A8 b h e c
   grind
theorem z8{a b:Nat}:TK a b=W↔∀j,a.testBit j=W->b.testBit j=W:=by
 unfold TK;constructor
 .intro h j c;have h:a&&& b=a:=vM h
  grind
 .intro h;have:a&&& b=a:=Nat.eq_of_testBit_eq λj=>by
   simp_all
  rw[this];simp
def sv(ops:L Oper):VM:=ops.zipIdx.map λp=>(p.2,p.1)
theorem jz{i:Nat}{o:Oper}:(i,o)∈sv ops↔ops[i]?=Z o:=by
 unfold sv;rw[zc];constructor
 .grind
 .intro h;exact⟨(o,i),MM.2 h,rfl⟩
theorem uO(h:af4 ops (wX ops)=W){i:Nat}{o:Oper}(hi:ops[i]?=Z o){d:Nat}(f:o.dst=Z d) :
  d<bI∧d∉tmpsOf o.op∧∀{j:Nat}{p:Oper},ops[j]?=Z p->i≠j->p.dst≠Z d∧(d∈tmpsOf p.op->Pre ops j i∨Pre ops i j):=by
 have h1:=lB.1 h (o,i) (MM.2 hi);simp only[f,fF]at h1;have c:∀{p:Oper},d∈tmpsOf p.op->Mc p d=W:=by
  intro p a
  let ⟨x,g,b⟩:=Al.1 a
  refine Sd.2 ⟨x,g,?_⟩;cases x with
  |tmp k=>
   simp_all
  |_=>cases b
 refine⟨gU h1.1,λa=>?_,λ{j p}l m=>?_⟩
 .have h2:=lB.1 h1.2 (o,i) (MM.2 hi)
  simp_all
 .have h2:=lB.1 h1.2 (p,j) (MM.2 l);have e:Nq i j=J:=by
   grind[Nat.eq_of_beq_eq_true]
  simp only[e,j9,fF,pE]at h2;refine⟨λn=>?_,λa=>?_⟩
  .simp_all
  .obtain h3|h3:=h2.2
   .simp_all
   .exact h3
def antiP(ops:L Oper)(i:Nat):Prop:=∃o,ops[i]?=Z o∧∃d,o.dst=Z d∧∃j p,ops[j]?=Z p∧d∈tmpsOf p.op∧Pre ops i j
def YS(hi:ops[i]?=Z o)(h:Tj ops (wX ops) i o=J):¬antiP ops i:=by
 rintro⟨e,b,d,f,j,p,g,l,m⟩
 have:o=e:=ke (hi.symm.trans b);subst this;unfold Tj at h;rw[f]at h;have h1:=List.any_eq_false.1 h (p,j) (MM.2 g);have a:Mc p d=W:=by
  let ⟨x,n,c⟩:=Al.1 l
  refine Sd.2 ⟨x,n,?_⟩;cases x with
  |tmp k=>
   simp_all
  |_=>cases c
 refine h1 ?_;simp only[a,sr];exact m
def Yb(h:Qs ops (wX ops)=W)(hi:ops[i]?=Z o){d:Nat}(a:oE ops o=Z d):∃j p,ops[j]?=Z p∧p.dst=Z d∧Pre ops i j:=by
 have h1:=lB.1 h (o,i) (MM.2 hi);unfold oE at a;cases e:o.guard with
 |none=>simp_all|some q=>
  let ⟨j,c⟩:=q
  simp only[e]at a h1;rw[ku,vL]at a
  let ⟨p,f,b⟩:=a
  exact⟨j,p,f,b,h1⟩
def ER(h:aeg ops=W)(hi:ops[i]?=Z o):∀k∈tmpsOf o.op,k<bI:=by
 intro k b
 let ⟨x,c,a⟩:=Al.1 b
 have h1:=lB.1 h o (iz hi);have h2:=lB.1 h1 x c;cases x with
 |tmp j=>
  simp_all
 |_=>cases a
def YU{E:gm}{n:Nat}(h:Q4 E n ops=W)(hi:ops[i]?=Z o)(a:fj o=W):o.guard=Y∧(∃t c,o.op=.alloc t∧E.E.ti t=Z c)∧∀d,o.dst=Z d->d<n:=by
 have h1:=lB.1 h o (iz hi);simp[a,iq,fF]at h1;unfold fj at a;split at a
 .rename_i t b;rw[b]at h1;refine⟨by simpa using a,⟨t,?_⟩,λd f=>?_⟩
  .cases e:E.E.ti t with|none=>simp_all|some c=>simp_all
  simp_all
 .cases a
theorem I6(done:Nat):∀(l:VM)(z j:Nat),(l.foldl (λb(i,o)=>bif fj o&&!(done.testBit i)then b||| 1 <<< i else b) z).testBit j=(z.testBit j||l.any λ(i,o)=>fj o&&!(done.testBit i)&&decide (i=j))
 |[],z,j=>by simp
 |(i,o)::l,z,j=>by rw[MX,I6 done l,List.any_cons];cases h:(fj o&&!(done.testBit i))with|false=>grind|true=>simp only[h,iq,MH,Lj,sr,Bool.or_assoc]
def v7(done j:Nat):(yC (sv ops) done).testBit j=W↔∃o,ops[j]?=Z o∧fj o=W∧done.testBit j=J:=by
 unfold yC;rw[I6,Nat.zero_testBit,Bool.false_or,Sd];constructor
 .rintro ⟨⟨i,o⟩,a,h⟩
  simp at h;obtain⟨⟨h1,h2⟩,rfl⟩:=h;exact⟨o,jz.1 a,h1,h2⟩
 .rintro ⟨o,b,h1,h2⟩
  exact⟨(j,o),jz.2 b,by simp[h1,h2]⟩
end
end
section
structure II(g:Gh)(w0 w:World)(b:Nat)(z:Array Value):Prop where
 new:w0.heap.size<=b
 lt:b<w.heap.size
 bp:¬g.bp b
 own:∀o,¬bF g o b
 mem:∃ty,w.heap[b]?=Z (.cells z ty (0,0))
section
variable {g g':Gh}{w0 w w':World}{b:Nat}{z:Array Value}
theorem II.Bs(h:II g w0 w b z){ow:L Nat}{s s':bg S}(c:cO ow s g w s' g' w')(f:s.fl=0):II g' w0 w' b z:=by
 let ⟨ty,i⟩:=h.mem
 refine⟨h.new,iS h.lt c.ext.size,λa=>?_,λo d=>?_,ty,?_⟩
 .obtain a|a|⟨o,_,d⟩:=c.ext.oz b a
  .exact h.bp a
  .grind
  .exact h.own o d
 .obtain ⟨j,_,e⟩|a:=c.ext.own o b (by omega) d
  .exact h.own j e
  simp_all
 .rw[c.ext.heap b h.lt λo _=>h.own o];exact i
def aV.YV{s:St}(hs:aV g s w)(hn:s.aD<bI)(hf:II g w0 w b z){cs:L T}(hl:cs.length=z.size)
  (y:∀(j:Nat)(t:T)(v:Value),cs[j]?=Z t->z[j]?=Z v->aH g w t v) :
  aV (g.dB s.aD b) (ew s (.box cs)).2 w∧nh g (g.dB s.aD b)∧(∀k c,bF (g.dB s.aD b) k c->bF g k c∨(k=s.aD∧c=b)):=by
 have a:=hs.ah s.aD (eR _);have n:∀o c,g.bP o=Z c->(g.dB s.aD b).bP o=Z c:=λo c h=>by
  have:o≠s.aD:=λe=>by rw[e,a.1]at h;cases h
  simp[Gh.dB,this,h]
 have i:nh g (g.dB s.aD b):=⟨n,λ_ _ _ h=>h,λ_ h=>h⟩;have d:∀k c,bF (g.dB s.aD b) k c->bF g k c∨(k=s.aD∧c=b):=by
  rintro o c ⟨h1,h2|h2⟩
  .by_cases f:o=s.aD
   .subst f;simp[Gh.dB]at h2;exact .inr ⟨rfl,h2.symm⟩
   .simp[Gh.dB,f]at h2;exact .inl ⟨h1,.inl h2⟩
  .exact .inl ⟨h1,.inr h2⟩
 let ⟨ty,A⟩:=hf.mem
 refine⟨⟨by simp only[ew];omega,λo f=>?_,λo c p=>?_,λo e x B=>?_,hs.bp,λo q c h C=>?_⟩,i,d⟩
 .simp only[ew]at f;have h1:o≠s.aD:=by omega
  simp[Gh.dB,h1,jS];exact hs.ah o (by omega)
 .by_cases f:o=s.aD
  .subst f;have r:c=b:=by simp[Gh.dB]at p;exact p.symm
   subst r;refine⟨hf.bp,hf.lt,λob l=>⟨_,A,?_⟩⟩;simp[ew]at l;rw[Tr.aR _ _ _ _ hn,bB rfl]at l;obtain rfl:=ke l;exact .box cs z ty hl λj t v E F=>(y j t v E F).le i
  .have u:g.bP o=Z c:=by simpa[Gh.dB,f]using p
   exact(hs.box o c u).le i rfl (by simp[ew];rw[Tr.aR _ _ _ _ hn,bO f])
 .have m:g.arr o e=Z x:=B;have f:o≠s.aD:=λh=>by rw[h,a.2 e]at m;cases m
  exact(hs.arr o e x m).le rfl (by simp[ew];rw[Tr.aR _ _ _ _ hn,bO f]) (λ_ _ _ h=>h) (λ_=>rfl)
 .obtain h1|⟨h1,h3⟩:=d o c h<;>obtain h2|⟨h2,h4⟩:=d q c C
  .exact hs.j8 o q c h1 h2
  .subst h4;exact absurd h1 (hf.own o)
  .subst h3;exact absurd h2 (hf.own q)
  .rw[h1,h2]
def II.keep{o c:Nat}{f:Array Value}(h:II g w0 w b z)(j:II g w0 w c f)(i:b≠c)(a:∀k e,bF (g.dB o c) k e->bF g k e∨(k=o∧e=c)):II (g.dB o c) w0 w b z:=
 ⟨h.new,h.lt,h.bp,λk d=>by
  obtain d|⟨_,rfl⟩:=a k b d
  .exact h.own k d
  omega,h.mem⟩
end
def ZT(E:gm)(g:Gh)(w0 w:World)(a:Act)(o:Oper)(b:Nat):Prop:=
 ∀t c d,o.op=.alloc t->E.E.ti t=Z c->o.dst=Z d->∃z,a.tmps[d]?=Z (.pointer (Z ⟨b,0,Y⟩))∧II g w0 w b z∧ZOk c.zero z
structure Adp(E:gm)(which:Nat)(l:VM)(fr:bU S)(s:bg S)(g:Gh)(w:World)(a:Act)(fr':bU S)(s':bg S)(g':Gh):Prop where
 rel:aV g' (aC s') w
 le:nh g g'
 bp:g'.bp=g.bp
 fl:s'.fl=s.fl
 lo:s'.lo=s.lo
 wr:s'.wr=s.wr
 dr:s'.dr=s.dr
 aD:s.aD<=s'.aD
 ob:∀o,o<s.aD->s'.ob.get o=s.ob.get o
 n:fr'.n=fr.n
 N7:fr'.df=fr.df
 old:∀k,(∀p∈l,which.testBit p.1=W->p.2.dst≠Z k)->fr'.get k=fr.get k
 new:∀k,(∃p∈l,which.testBit p.1=W∧p.2.dst=Z k)->∀t,fr'.get k=Z t->∃v,a.tmps[k]?=Z v∧aH g' w (low t) v
 own:∀k b,bF g' k b->bF g k b∨∃p∈l,which.testBit p.1=W∧∃d,p.2.dst=Z d∧a.tmps[d]?=Z (.pointer (Z ⟨b,0,Y⟩))
 ach:∀p∈l,which.testBit p.1=W->∃t ti d,p.2.op=.alloc t∧E.E.ti t=Z ti∧p.2.dst=Z d∧d<fr.n
theorem Ow{E:gm}{f:Nat}{w0 w:World}{a:Act}{bl:Nat->Nat}:∀{l:VM}{fr fr':bU S}{s s':bg S}{g:Gh},yP E f l fr s=Z (fr',s')->fr.n<=bI->aV g (aC s) w->
  (∀p∈l,f.testBit p.1=W->ZT E g w0 w a p.2 (bl p.1))->(l.map (·.1)).Nodup->(∀p∈l,∀q∈l,f.testBit p.1=W->f.testBit q.1=W->p.1≠q.1->bl p.1≠bl q.1)->
  (∀p∈l,∀q∈l,p.1≠q.1->∀d,p.2.dst=Z d->q.2.dst≠Z d)->∃g',Adp E f l fr s g w a fr' s' g':=by
 intro l
 induction l with
 |nil=>intro fr fr' s s' g h _ hs _ _ _ _;obtain⟨rfl,rfl⟩:=h;exact⟨g,hs,nh.refl _,rfl,rfl,rfl,rfl,rfl,eR _,λ_ _=>rfl,rfl,rfl,λ_ _=>rfl,λk⟨p,hp,_⟩=>by(cases hp),λ_ _ h=>.inl h,λp hp=>by(cases hp)⟩
 |cons p l ih=>
  intro fr fr' s s' g h hn hs he x B C
  let ⟨i,o⟩:=p
  rw[pz,I3]at x;have A:∀q∈l,i≠q.1:=λq b e=>x.1 (zc.2 ⟨q,b,e.symm⟩);obtain⟨hw,h1⟩|⟨hw,h1⟩:=af h
  .clear h;split at h1
   .rename_i t d hop n;split at h1
    .rename_i ti UN;obtain⟨hb,h⟩|⟨_,h⟩:=af h1
     rotate_left
     .cases h
     rw[fF]at hb;have P:s.aD<bI:=gU hb.1;have Q:d<fr.n:=gU hb.2
     let ⟨z,R,u,hz⟩:=he (i,o) eJ hw t ti d hop UN n
     let ⟨z1,z2⟩:=sY (g:=g) (w:=w) hz
     let ⟨zY,apW,v⟩:=hs.YV P u z1 z2
     have afe:aV (g.dB s.aD (bl i)) (aC (dj s (.box (ti.zero.map zeroV)))) w:=by rw[g6];simp[dc,nD];exact zY
     have hE:∀q∈l,f.testBit q.1=W->ZT E (g.dB s.aD (bl i)) w0 w a q.2 (bl q.1):=by
      intro q b hw' t' ti' d' q1 q2 q3
      let ⟨z',r1,r2,r3⟩:=he q (ic _ b) hw' t' ti' d' q1 q2 q3
      exact⟨z',r1,r2.keep u (B q (ic _ b) (i,o) eJ hw' hw (λe=>A q b e.symm)) v,r3⟩
     let ⟨g',k⟩:=ih h (by exact hn) afe hE x.2 (λq b r F=>B q (ic _ b) r (ic _ F)) (λq b r F=>C q (ic _ b) r (ic _ F))
     .have hdl:∀q∈l,f.testBit q.1=W->q.2.dst≠Z d:=λq b _=>C (i,o) eJ q (ic _ b) (A q b) d n;refine⟨g',k.rel,apW.trans k.le,k.bp,k.fl,k.lo,k.wr,k.dr,gD (CS _) k.aD,λj hj=>?_,k.n,k.N7,λj hj=>?_,λj⟨q,b,m,y⟩t' I=>?_,λj c K=>?_,λq b m=>?_⟩
      .rw[k.ob j (Nat.lt_succ_of_lt hj)];simp[dj];rw[Tr.aR _ _ _ _ P,bO (by omega)]
      .rw[k.old j (λq b=>hj q (ic _ b)),bU.j4 _ _ _ _ (iS Q hn),bO]
       grind[List.mem_cons_self]
      .obtain rfl|b:=ga.1 b
       .have hjd:j=d:=by
         grind
        subst hjd;rw[k.old j hdl,bU.j4 _ _ _ _ (iS Q hn),bB rfl]at I;cases I;refine⟨_,R,?_⟩;exact .ptr _ _ _ (k.le.bP _ _ (by simp[Gh.dB]))
       .exact k.new j ⟨q,b,m,y⟩ t' I
      .obtain K|⟨q,b,m,y⟩:=k.own j c K
       .obtain K|⟨_,rfl⟩:=v j c K
        .exact .inl K
        .exact .inr ⟨(i,o),eJ,hw,d,n,R⟩
       grind
      .obtain rfl|b:=ga.1 b
       .grind
       .exact k.ach q b m
    .cases h1
   .cases h1
  .let ⟨g',k⟩:=ih h1 hn hs (λq b=>he q (ic _ b)) x.2 (λq b r F=>B q (ic _ b) r (ic _ F)) (λq b r F=>C q (ic _ b) r (ic _ F))
   have hnw:∀q∈(i,o)::l,f.testBit q.1=W->q∈l:=λq b m=>by
    grind
   refine⟨g',k.rel,k.le,k.bp,k.fl,k.lo,k.wr,k.dr,k.aD,k.ob,k.n,k.N7,λj hj=>k.old j λq b=>hj q (ic _ b),λj⟨q,b,m,y⟩=>k.new j ⟨q,hnw q b m,m,y⟩,λj c K=>(k.own j c K).imp id λ⟨q,b,h⟩=>⟨q,ic _ b,h⟩,λq b m=>k.ach q (hnw q b m) m⟩
end
section
def nA(listed:Array Bool)(i:Nat):Prop:=listed.getD i J=W
def EK(E:eO S)(ops:L Oper)(fr:bU S)(s:bg S)(o:Oper):Prop:=
 gP fr o.dst=W∧((vu ops fr o=W∧∀d,o.dst=Z d->∀a,fr.get d=Z a->a=dU)∨(iO ops fr o=Z Y∧∃t,fL E Y fr s o Z=Z t∧∀d,o.dst=Z d->∀a,fr.get d=Z a->Zr t a)∨
  ∃c,iO ops fr o=Z (Z c)∧NK c fr o.op=W∧∃t,fL E (Z c) (rZ fr o.op) s o Z=Z t∧∀d,o.dst=Z d->∀a,fr.get d=Z a->a=.gd c t)
theorem FC{p:Nat->Bool}{fr:bU S}{s s':bg S}{o:Op}(h:jZ p fr o=J)(hs:∀x,p x=J->s'.ob.get x=s.ob.get x):∀x∈o.operands.toList,∀v,cD fr x=Z v->Sm s s' v:=by
 intro x a v b j c
 grind[jZ,ez,Nat.eq_of_beq_eq_true]
theorem AJ(E:eO S)(g:O Bool){fr:bU S}(o:Oper)(s s':bg S){ω:Type}(k:V S->O ω)(c:M9 o.op=W):fL E g fr s o k=fL E g fr s' o k:=by
 unfold fL;cases d:o.op with
 |move x=>simp[eX,Ap,Bp,cH];cases cD fr x<;>simp[uc]
 |assign x=>simp[eX,Ap,Bp,cH];cases cD fr x<;>simp[uc]
 |nilCheck x=>
  simp[eX,Ap,Bp,cH];cases h:cD fr x with
  |none=>simp[uc,h]|some v=>
   cases v with
   |ty t y=>cases t<;>simp[uc,h]
   |fn f a b=>cases f<;>simp[uc,h]
   |_=>simp[uc,h]
 |fieldAddr t x n=>
  simp[eX,Ap,Bp,cH];cases E.T.E.ti t with
  |none=>simp[uc]|some e=>
   cases cD fr x with
   |none=>simp[uc]|some v=>
    grind[qZ,uc]
 |_=>simp[d,M9]at c
theorem EK.move{E:eO S}{ops:L Oper}{fr fr':bU S}{s s':bg S}{o:Oper}(h:EK E ops fr s o)(hn:fr'.n=fr.n)(j:∀k∈tmpsOf o.op,k<bI)(f:∀k∈tmpsOf o.op,fr'.get k=fr.get k)(l:∀k,oE ops o=Z k->fr'.get k=fr.get k)
  (g:∀d,o.dst=Z d->∀t,fr'.get d=Z t->fr.get d=Z t) {p:Nat->Bool}
  (hs:s'=s∨(jZ p fr o.op=J∧jZ p (rZ fr o.op) o.op=J∧∀x,p x=J->s'.ob.get x=s.ob.get x)∨M9 o.op=W):EK E ops fr' s' o:=by
 let ⟨q,h⟩:=h
 have i:iO ops fr' o=iO ops fr o:=pS l;refine⟨by simp_all[gP],?_⟩;obtain⟨h1,h3⟩|⟨h1,t,h2,h3⟩|⟨c,h1,h4,t,h2,h3⟩:=h
 .grind[rO]
 .refine .inr (.inl ⟨i.trans h1,t,?_,λd a e b=>h3 d a e (g d a e b)⟩);rw[iQ E Y o s' Z (js f)];obtain rfl|⟨m,_,hs⟩|n:=hs
  .exact h2
  .grind[Gx,FC]
  grind[AJ]
 .refine .inr (.inr ⟨c,i.trans h1,by rw[uH c f];exact h4,t,?_,λd a e b=>h3 d a e (g d a e b)⟩);rw[iQ E (Z c) o s' Z (js (rY j f))];obtain rfl|⟨_,m,hs⟩|n:=hs
  .exact h2
  .grind[Gx,FC]
  grind[AJ]
structure yX(E:eO S)(ops:Array Oper)(n:Nat):Prop where
 bk:vA ops.toList 0=W
 ds:af4 ops.toList (wX ops.toList)=W
 gd:Qs ops.toList (wX ops.toList)=W
 us:aeg ops.toList=W
 al:Q4 E.T n ops.toList=W
def At(ops:Array Oper)(i:Nat)(o:Oper):Prop:=ops.toList[i]?=Z o
structure sV(E:eO S)(ops:Array Oper)(j5:bU S)(s0:bg S)(g0:Gh)(w0:World)(done:Nat)(fr:bU S)(s:bg S)(bl:Nat->Nat)(listed:Array Bool)(g:Gh)(a:Act)(w:World):Prop where
 KH:listed.size=ops.size
 n:fr.n=j5.n
 nb:fr.n<=bI
 Vp:a.tmps.size=fr.n
 df:eU g w (bH fr).df a.defers
 tm:∀k t,fr.get k=Z t->(∀i o,At ops i o->o.dst=Z k->(nA listed i↔done.testBit i=W))->∃v,a.tmps[k]?=Z v∧aH g w (low t) v
 UB:∀i o,At ops i o->nA listed i->∀e∈yj o,nA listed e
 YB:∀i o,At ops i o->done.testBit i=W->∀j,Pre ops.toList i j->done.testBit j=W
 ld:∀i o,At ops i o->nA listed i->done.testBit i=W∨fj o=W
 fo:∀i o,At ops i o->done.testBit i=W->¬nA listed i->fj o=J∧EK E ops.toList fr s o
 ea:∀i o,At ops i o->nA listed i->done.testBit i=J->ZT E.T g w0 w a o (bl i)∧bl i<w.heap.size
 eb:∀i j,nA listed i->nA listed j->done.testBit i=J->done.testBit j=J->i≠j->i<ops.size->j<ops.size->bl i≠bl j
 Bs:eL s0 g0 w0 s g w
 fk:dW (ops.toList.filterMap (·.dst)) j5 fr s.dr s0.aD
 fl:s.fl=0
 an:∀j,antiP ops.toList j->done.testBit j=W->nA listed j
structure Tw(E:eO S)(ops:Array Oper)(j5:bU S)(s0:bg S)(g0:Gh)(w0:World)(done:Nat)(fr:bU S)(s:bg S)(listed:Array Bool)(g:Gh)(a:Act)(w:World):Prop where
 n:fr.n=j5.n
 nb:fr.n<=bI
 Vp:a.tmps.size=fr.n
 df:eU g w (bH fr).df a.defers
 tm:∀k t,fr.get k=Z t->(∀i o,At ops i o->o.dst=Z k->(nA listed i↔done.testBit i=W))->∃v,a.tmps[k]?=Z v∧aH g w (low t) v
 YB:∀i o,At ops i o->done.testBit i=W->∀j,Pre ops.toList i j->done.testBit j=W
 Bs:eL s0 g0 w0 s g w
section
variable {E:eO S}{ops:Array Oper}{j5:bU S}{s0:bg S}{g0:Gh}{w0:World}{done:Nat}{fr:bU S}{s:bg S}{bl:Nat->Nat}{listed:Array Bool}{g:Gh}{a:Act}{w:World}
def Eo(fr:bU S)(d:O Nat)(t:V S):(fr.jm d t).df=fr.df:=by cases d<;>rfl
theorem FM(fr:bU S):(bH fr).df=fr.df.map mF:=rfl
theorem uP(done i j:Nat):(done||| 1 <<< i).testBit j=W↔done.testBit j=W∨i=j:=by rw[MH,Lj,pE,qE]
theorem Jr{d:O Nat}{t:V S}{k:Nat}(h:gP fr d=W)(hn:fr.n<=bI):(fr.jm d t).get k=if d=Z k then Z t else fr.get k:=by
 cases d with
 |none=>rfl|some d=>
  have h:d<fr.n:=gU h;simp only[bU.jm];rw[bU.j4 _ _ _ _ (by omega)]
  grind
theorem J7(c:yX E ops j5.n){i:Nat}{o:Oper}(f:At ops i o){k:Nat}(d:k∈tmpsOf o.op∨oE ops.toList o=Z k){j:Nat}{p:Oper}(g:At ops j p)(q:p.dst=Z k):i≠j∧(Pre ops.toList i j∨(Pre ops.toList j i∧antiP ops.toList j)):=by
 let ⟨_,h2,h3⟩:=uO c.ds g q
 obtain d|d:=d
 .have a:i≠j:=by
   rintro rfl
   have:o=p:=ke (f.symm.trans g)
   simp_all
  exact⟨a,((h3 f (Ne.symm a)).2 d).imp id λh=>⟨h,p,g,k,q,i,o,f,d,h⟩⟩
 .let ⟨r,s,l,m,b⟩:=Yb c.gd f d
  have n:j=r:=WU λa=>(h3 l a).1 m;subst n;refine⟨λe=>?_,.inl b⟩;subst e;exact absurd (WX c.bk f _ b) (Nat.lt_irrefl _)
theorem sV.float(x:yX E ops j5.n)(h:sV E ops j5 s0 g0 w0 done fr s bl listed g a w){i:Nat}{o:Oper}(u:At ops i o)(hnd:done.testBit i=J)(P:fj o=J)(han:¬antiP ops.toList i)(hpre:∀j,Pre ops.toList i j->done.testBit j=W)
  (hd:gP fr o.dst=W) {t:V S} (hf:(vu ops.toList fr o=W∧t=dU)∨(iO ops.toList fr o=Z Y∧∃t0,fL E Y fr s o Z=Z t0∧Zr t0 t)∨∃c t1,iO ops.toList fr o=Z (Z c)∧NK c fr o.op=W∧fL E (Z c) (rZ fr o.op) s o Z=Z t1∧t=.gd c t1) :
  sV E ops j5 s0 g0 w0 (done||| 1 <<< i) (fr.jm o.dst t) s bl listed g a w:=by
 have eo:∀k,(fr.jm o.dst t).get k=if o.dst=Z k then Z t else fr.get k:=λk=>Jr hd h.nb
 have Q:¬nA listed i:=λz=>by
  obtain h1|h1:=h.ld i o u z
  .simp_all
  simp_all
 have y:(fr.jm o.dst t).n=fr.n:=by cases o.dst<;>rfl
 have b:∀{j:Nat}{p:Oper},At ops j p->(j=i∨¬Pre ops.toList j i)->∀k,k∈tmpsOf p.op∨oE ops.toList p=Z k->(fr.jm o.dst t).get k=fr.get k:=by
  intro j p n f k l;rw[eo,bO];intro A
  let ⟨h1,h2⟩:=J7 x n l u A
  simp_all
 refine⟨h.KH,y.trans h.n,by rw[y];exact h.nb,by rw[y];exact h.Vp,by rw[FM,Eo];exact h.df,λk B l hc=>?_,h.UB,λj p n f m R=>?_,λj p n z=>?_,λj p n f z=>?_,λj p n z f=>?_,λj m f R h1 h2=>?_,h.Bs,?_,h.fl,λj ha f=>?_⟩
 .have A:o.dst≠Z k:=λe=>Q ((hc i o u e).2 ((uP done i i).2 (.inr rfl)));rw[eo,bO A]at l;refine h.tm k B l λj p n C=>?_
  grind[uP]
 .rw[uP]at f ⊢;obtain f|rfl:=f
  .exact .inl (h.YB j p n f m R)
  simp_all
 .rw[uP];exact(h.ld j p n z).imp .inl id
 .rw[uP]at f;obtain f|rfl:=f
  .let ⟨h1,h2⟩:=h.fo j p n f z
   have F:¬Pre ops.toList j i:=λhpr=>by
    have:=h.YB j p n f i hpr
    simp_all
   refine⟨h1,h2.move y (ER x.us n) (λk l=>b n (.inr F) k (.inl l)) (λk l=>b n (.inr F) k (.inr l)) (λd C B r=>?_) (p:=λ_=>J) (.inl rfl)⟩;rw[eo,bO]at r
   .exact r
   .intro q;have hij:i≠j:=λe=>by simp_all
    exact((uO x.ds u q).2.2 n hij).1 C
  .have:o=p:=ke (u.symm.trans n);subst this;have hu:=ER x.us u;have ht:∀k∈tmpsOf o.op,(fr.jm o.dst t).get k=fr.get k:=λk l=>b u (.inl rfl) k (.inl l);have I:iO ops.toList (fr.jm o.dst t) o=iO ops.toList fr o:=pS λk l=>b u (.inl rfl) k (.inr l);refine⟨P,by simp_all[gP],?_⟩;obtain⟨f1,rfl⟩|⟨f1,t0,f2,f3⟩|⟨c,t1,f1,f2,f3,rfl⟩:=hf
   .refine .inl ⟨(rO λk l=>b u (.inl rfl) k (.inr l)).trans f1,λd q B r=>?_⟩
    simp_all
   .refine .inr (.inl ⟨I.trans f1,t0,by grind[iQ,js],λd q B r=>?_⟩)
    simp_all
   .refine .inr (.inr ⟨c,I.trans f1,by rw[uH c ht];exact f2,t1,by grind[iQ,js,rY],λd q B r=>?_⟩)
    simp_all
 .have hj':done.testBit j=J:=by
   simp_all
  exact h.ea j p n z hj'
 .have K:∀j,(done||| 1 <<< i).testBit j=J->done.testBit j=J:=λj f=>by
   simp_all
  exact h.eb j m f R (K j h1) (K m h2)
 .refine ⟨λk v l hv=>?_,by rw[Eo];exact h.fk.df⟩;obtain h1|h1:=h.fk.tm k v l hv
  .left
   rw[eo,bO]
   .exact h1
   .intro q;exact l (Al.2 ⟨o,iz u,q⟩)
  grind
 .obtain f|rfl:=(uP done i j).1 f
  .exact h.an j ha f
  simp_all
end
end
section
variable {i:Nat}{o:Oper}{v:Value}
def fJ{listed:Array Bool}{j:Nat}(hi:i<listed.size):nA (listed.setIfInBounds i W) j↔nA listed j∨i=j:=by
 unfold nA;by_cases h:i=j
 .simp_all
 simp_all
section
variable {E:eO S}{ops:Array Oper}{j5:bU S}{s0:bg S}{g0:Gh}{w0:World}{done:Nat}{fr:bU S}{s:bg S}{bl:Nat->Nat}{listed:Array Bool}{g:Gh}{a:Act}{w:World}
def vB(h:At ops i o):i<ops.size:=by have:=(T9.1 h).1;omega
theorem GZ{i:Nat}{o:Oper}(h:At ops i o):ops[i]?=Z o:=by unfold At at h;simpa using h
def uz:∀t:T,dn [] t=J:=by
 intro t
 induction t using T.rec (motive_2:=λl=>iM [] l=J)with|fn f a b d g=>simp[dn,d,g]|di t v e=>simp[dn,e]|agg i e=>simp[dn,e]|gT i e=>simp[dn,e]|gd c v e=>simp[dn,e]|nil=>rfl|cons a l d h=>simp[iM,d,h]|_=>simp[dn]
def dead(ops:L Oper)(done:Nat)(listed:Array Bool):L Nat:=ops.zipIdx.filterMap λ(o,i)=>if listed.getD i J=done.testBit i then Y else o.dst
theorem FJ{k:Nat}:k∈dead ops.toList done listed↔∃i o,At ops i o∧o.dst=Z k∧¬(nA listed i↔done.testBit i=W):=by
 have b:∀i,(listed.getD i J=done.testBit i)↔(nA listed i↔done.testBit i=W):=λi=>by unfold nA;cases listed.getD i J<;>cases done.testBit i<;>simp
 unfold dead;rw[Al];constructor
 .rintro ⟨⟨o,i⟩,c,h⟩
  dsimp only at h;split at h
  .cases h
  .rename_i a;exact⟨i,o,MM.1 c,h,λd=>a ((b i).2 d)⟩
 .rintro ⟨i,o,e,f,a⟩
  refine⟨(o,i),MM.2 e,?_⟩
  simp_all
def rfr(a:L Nat)(fr:bU S):bU S:={fr with tm:=a.foldl (λt k=>t.del aM k) fr.tm}
def sV.core(h:sV E ops j5 s0 g0 w0 done fr s bl listed g a w):Tw E ops j5 s0 g0 w0 done fr s listed g a w:=⟨h.n,h.nb,h.Vp,h.df,h.tm,h.YB,h.Bs⟩
theorem Tw.aj6(d:yX E ops j5.n)(h:Tw E ops j5 s0 g0 w0 done fr s listed g a w):cQ g (bH (rfr (dead ops.toList done listed) fr)) a w∧(rfr (dead ops.toList done listed) fr).n=fr.n∧
  ∀{i:Nat}{o:Oper},At ops i o->(∀j,Pre ops.toList i j->nA listed j∧done.testBit j=W)->(∀j,antiP ops.toList j->Pre ops.toList j i->¬nA listed j∧done.testBit j=J)->∀k,k∈tmpsOf o.op∨oE ops.toList o=Z k->fr.get k=(rfr (dead ops.toList done listed) fr).get k:=by
 have eo:∀k,(rfr (dead ops.toList done listed) fr).get k=if k∈dead ops.toList done listed then Y else fr.get k:=λk=>Tr.oD _ _ _ λb n=>by
  let ⟨i,o,e,f,_⟩:=FJ.1 n
  exact(uO d.ds e f).1
 refine⟨⟨h.Vp,h.df,λk t l=>?_⟩,rfl,λ{i o}q r u k l=>?_⟩
 .rw[bT,fV]at l;obtain⟨v,c,rfl⟩:=l;rw[eo]at c;split at c
  .cases c
  .rename_i m;exact h.tm k v c λi o e f=>WU λp=>m (FJ.2 ⟨i,o,e,f,p⟩)
 .grind[FJ,J7]
theorem xU{a:Act}{dst:O Tmp}{v:Value}{k:Nat}(h:dst≠Z k):(a.put dst v).tmps[k]?=a.tmps[k]?:=by
 cases dst with
 |none=>rfl|some d=>
  grind[Act.put]
def tj{a:Act}{d:Nat}(h:d<a.tmps.size):(a.put (Z d) v).tmps[d]?=Z v:=by simp[Act.put,h]
def tg{a:Act}{dst:O Tmp}:(a.put dst v).tmps.size=a.tmps.size∧(a.put dst v).defers=a.defers:=by cases dst<;>simp[Act.put]
def cO.N7{s s':bg S}{g g':Gh}{w w':World}(h:cO [] s g w s' g' w'){l:L Df}{m:L Deferred}(c:eU g w l m):eU g' w' l m:=
 c.imp (λt v d=>h.tr t v d (uz t)) λo b e=>by have:=h.tr _ _ (.ptr o 0 b e) (uz _);cases this with|ptr _ _ _ a=>exact a
theorem sV.meet(C:yX E ops j5.n)(h:sV E ops j5 s0 g0 w0 done fr s bl listed g a w){i:Nat}{o:Oper}(A:At ops i o)(hd:done.testBit i=W)(hl:∀e∈yj o,nA listed e)(x:gP fr o.dst=W){v:Value}{g':Gh}{w':World}
  (l:cO [] s g w s g' w') (P:∀d,o.dst=Z d->∀t,fr.get d=Z t->aH g' w' (low t) v):sV E ops j5 s0 g0 w0 done fr s bl (listed.setIfInBounds i W) g' (a.put o.dst v) w':=by
 have n:i<listed.size:=by rw[h.KH];exact vB A
 have q:∀{j:Nat}{p:Oper}{k:Nat},At ops j p->j≠i->p.dst=Z k->o.dst≠Z k:=λc q r f=>((uO C.ds A f).2.2 c (Ne.symm q)).1 r;refine⟨by simpa using h.KH,h.n,h.nb,tg.1.trans h.Vp,by rw[tg.2];exact l.N7 h.df,λk t K Q=>?_,λj p c b e R=>?_,h.YB,λj p c b=>?_,λj p c b F=>?_,λj p c b F=>?_,λj m b B h1 h2=>?_,h.Bs.trans l.toW,h.fk,h.fl,λj l b=>(fJ n).2 (.inl (h.an j l b))⟩
 .by_cases f:o.dst=Z k
  .have I:k<fr.n:=by rw[f]at x;exact gU x
   exact⟨v,by rw[f];exact tj (by rw[h.Vp];exact I),P k f t K⟩
  .let ⟨u,S,ht⟩:=h.tm k t K λj p c r=>by
    have h1:=Q j p c r;rw[fJ n]at h1;refine Iff.trans ⟨.inl,λh=>h.elim id λe=>?_⟩ h1;subst e;have:o=p:=ke (A.symm.trans c)
    simp_all
   exact⟨u,by rw[xU f];exact S,l.tr _ _ ht (uz _)⟩
 .rw[fJ n]at b ⊢;obtain b|rfl:=b
  .exact .inl (h.UB j p c b e R)
  .have:o=p:=ke (A.symm.trans c)
   simp_all
 .rw[fJ n]at b;obtain b|rfl:=b
  .exact h.ld j p c b
  grind
 .exact h.fo j p c b λhl=>F ((fJ n).2 (.inl hl))
 .rw[fJ n]at b;have y:j≠i:=λe=>by simp_all
  have b:nA listed j:=b.elim id λe=>absurd e.symm y
  let ⟨h1,h2⟩:=h.ea j p c b F
  refine⟨λt ti d q1 q2 q3=>?_,iS h2 l.ext.size⟩
  let ⟨z,r1,r2,r3⟩:=h1 t ti d q1 q2 q3
  exact⟨z,by rw[xU (q c y q3)];exact r1,r2.Bs l h.fl,r3⟩
 .rw[fJ n]at b B;have b:nA listed j:=b.elim id λe=>by simp_all
  have B:nA listed m:=B.elim id λe=>by simp_all
  exact h.eb j m b B h1 h2
theorem at_mem{ops:Array Oper}{i:Nat}{o:Oper}(h:At ops i o):o∈ops.toList:=iz (show ops.toList[i]?=Z o from by grind[GZ])
def sV.adj(hE:fC E)(b:yX E ops j5.n)(h:sV E ops j5 s0 g0 w0 done fr s bl listed g a w)(m:At ops i o)(B:done.testBit i=W)(C:¬nA listed i)(hl:∀e∈yj o,nA listed e)
  {K:Act->World->Prop} {Q:Exit->Act->World->Prop} (P:∀g' a' w',sV E ops j5 s0 g0 w0 done fr s bl (listed.setIfInBounds i W) g' a' w'->K a' w') {rr:O Nat} (R:rr≠Y->∀o∈ops.toList,∀c,o.op≠.defer c):Cs rr E.T.E.P ops Q i K a w:=by
 have z:rr≠Y->∀c,o.op≠.defer c:=λhr=>R hr o (at_mem m)
 let ⟨hna,u,hf⟩:=h.fo i o m B C
 let ⟨n,S,hag⟩:=h.core.aj6 b
 have NB:∀j,Pre ops.toList i j->nA listed j∧done.testBit j=W:=λj hj=>⟨nI b.bk (λi o hi hl=>h.UB i o hi hl) m hl j hj,h.YB i o m B j hj⟩;have p:=hag m NB λj ha hji=>by
  have F:¬nA listed j:=λhlj=>by
   let ⟨q,hq,_⟩:=ha
   exact C (nI b.bk (λi o hi hl=>h.UB i o hi hl) hq (h.UB j q hq hlj) i hji)
  refine⟨F,?_⟩;cases LX:done.testBit j with|false=>rfl|true=>exact absurd (h.an j ha LX) F
 have I:iO ops.toList fr o=iO ops.toList (rfr (dead ops.toList done listed) fr) o:=pS λk x=>p k (.inr x);have A:∀k∈tmpsOf o.op,fr.get k=(rfr (dead ops.toList done listed) fr).get k:=λk x=>p k (.inl x);unfold Cs;simp[GZ m];obtain⟨f1,f3⟩|⟨f1,t,f2,f3⟩|⟨c,f1,f4,t,f2,f3⟩:=hf
 .rw[rO (fr':=rfr (dead ops.toList done listed) fr) λk x=>p k (.inr x)]at f1;rw[bO (by rw[CL n f1];simp_all)];exact P _ _ _ (h.meet b m B hl u (cO.refl h.Bs.rel) λd f y l=>by rw[f3 d f y l];exact Md)
 .rw[I]at f1;have hw:=pR n f1;rw[bB hw];refine .of_wp z (.inl ?_);rw[iQ E Y o s Z (js A)]at f2;refine sG hE n h.Bs.rel (.inl rfl) f2 (λy g' v w' x r ht=>?_);cases x;exact P _ _ _ (h.meet b m B hl u r λd f y l=>(f3 d f y l).rel ht)
 .rw[I]at f1;have hw:=pR n f1;rw[iQ E (Z c) o s Z (js (rY (ER b.us m) A))]at f2;cases c with
  |true=>
   rw[bB hw];refine .of_wp z (.inl ?_);rw[uH W A]at f4
   let ⟨hff,hfn'⟩:=wG n (by rw[S];exact h.nb) f4
   refine sG hE hff h.Bs.rel (.inr rfl) f2 (λy g' v w' x r ht=>?_);cases x;exact P _ _ _ (h.meet b m B hl u r λd f y l=>by rw[f3 d f y l];exact .gd _ _ _ λ_=>ht)
  |false=>rw[bO (by simp_all)];exact P _ _ _ (h.meet b m B hl u (cO.refl h.Bs.rel) λd f y l=>by rw[f3 d f y l];exact .gd _ _ _ λh=>by cases h)
theorem sV.adk(hE:fC E)(C:yX E ops j5.n)(h:sV E ops j5 s0 g0 w0 done fr s bl listed g a w){i:Nat}{o:Oper}(n:At ops i o)(hd:done.testBit i=J)(hna:fj o=W)(hnl:¬nA listed i)(hl:∀e∈yj o,nA listed e)
  {K:Act->World->Prop} {Q:Exit->Act->World->Prop} (hK:∀Bq a' w',sV E ops j5 s0 g0 w0 done fr s Bq (listed.setIfInBounds i W) g a' w'->K a' w') {rr:O Nat} (hrr:rr≠Y->∀o∈ops.toList,∀c,o.op≠.defer c):Cs rr E.T.E.P ops Q i K a w:=by
 have F:rr≠Y->∀c,o.op≠.defer c:=λhr=>hrr hr o (at_mem n)
 let ⟨hg,⟨t,ti,hop,P⟩,hdn⟩:=YU C.al n hna
 let ⟨xi,dd,z,NA,_,_,_,hz,R,_⟩:=(hE.TJ.ti _ _ P).all
 unfold Cs;simp[GZ n];rw[bB (by simp[Region.wanted,hg])];refine .of_wp F (.inl ?_);unfold Oper.wp;have S:(execOp a.eval o).run E.T.E.P w=.ok (.value (.pointer (Z ⟨w.heap.size,0,Y⟩))) (w.alloc (.cells z.cells t)):=by
  simp_all[execOp,Instr.alloc,ey,newVar,newRow]
 rw[S];have r:i<listed.size:=by rw[h.KH];exact vB n
 have B:=h.Bs.rel;have hsz:(w.alloc (.cells z.cells t)).heap.size=w.heap.size+1:=by simp
 let ⟨hs',he⟩:=B.grow (fl:=s.fl) (I:=g.bp) (w':=w.alloc (.cells z.cells t)) (λ_ h=>h) (λ_ h=>.inl h) (λb hb=>by have:=B.bp b hb;omega) (by omega) (λb hb=>qn w _ b hb) rfl rfl
 have x:∀{j:Nat}{p:Oper}{k:Nat},At ops j p->j≠i->p.dst=Z k->o.dst≠Z k:=λl x y A=>((uO C.ds n A).2.2 l (Ne.symm x)).1 y;refine hK (λj=>if j=i then w.heap.size else bl j) _ _ ⟨by simpa using h.KH,h.n,h.nb,tg.1.trans h.Vp,by rw[tg.2];exact h.df.imp (λt v ht=>ht.ext he B.bp) (λ_ _ h=>h),λk t' hk hc=>?_,λj p l f e he=>?_,h.YB,λj p l f=>?_,λj p l f hn=>?_,λj p l f hn=>?_,λj m f hm h1 h2 hjm yg hms=>?_,?_,h.fk,h.fl,λj ha f=>(fJ r).2 (.inl (h.an j ha f))⟩
 .have A:o.dst≠Z k:=λe=>by
   have:=(hc i o n e).1 ((fJ r).2 (.inr rfl))
   simp_all
  let ⟨u,hu,ht⟩:=h.tm k t' hk λj p l y=>by
   have h1:=hc j p l y;rw[fJ r]at h1
   grind
  exact⟨u,by rw[xU A];exact hu,ht.ext he B.bp⟩
 .rw[fJ r]at f ⊢;obtain f|rfl:=f
  .exact .inl (h.UB j p l f e he)
  .have:o=p:=ke (n.symm.trans l)
   simp_all
 .rw[fJ r]at f;obtain f|rfl:=f
  .exact h.ld j p l f
  .have:o=p:=ke (n.symm.trans l)
   simp_all
 .exact h.fo j p l f λhl=>hn ((fJ r).2 (.inl hl))
 .by_cases q:j=i
  .subst q;have:o=p:=ke (n.symm.trans l);subst this;simp only[ki];refine⟨λt' ti' d q1 q2 q3=>?_,by omega⟩;rw[hop]at q1;cases q1;rw[P]at q2;cases q2;have hdl:d<a.tmps.size:=by rw[h.Vp,h.n];exact hdn d q3
   refine⟨z.cells,by rw[q3];exact tj hdl,⟨h.Bs.ext.size,by omega,λUP=>?_,λk hO=>?_,t,xR w _⟩,R⟩
   .have:=B.bp _ UP;omega
   .have:=(B.rS hO).1;omega
  .rw[fJ r]at f;have f:nA listed j:=f.elim id λe=>absurd e.symm q
   let ⟨h1,h2⟩:=h.ea j p l f hn
   simp only[bO q];refine⟨λt ti d q1 q2 q3=>?_,by omega⟩
   let ⟨z',r1,r2,r3⟩:=h1 t ti d q1 q2 q3
   let ⟨ty,r4⟩:=r2.mem
   exact⟨z',by rw[xU (x l q q3)];exact r1,⟨r2.new,by omega,r2.bp,r2.own,ty,by rw[qn w _ _ r2.lt];exact r4⟩,r3⟩
 .have hlt:∀j,nA listed j->done.testBit j=J->j<ops.size->bl j<w.heap.size:=λj f LX yg=>by
   have zo:At ops j ops[j]:=by simp[At]
   exact(h.ea j _ zo f LX).2
  rw[fJ r]at f hm;by_cases hji:j=i<;>by_cases hmi:m=i
  .omega
  .grind
  .grind
  .rw[bO hji,bO hmi];exact h.eb j m (f.elim id λe=>absurd e.symm hji) (hm.elim id λe=>absurd e.symm hmi) h1 h2 hjm yg hms
 .have hx:oK s.lo s.fl g w g (w.alloc (.cells z.cells t)):=Ext.H7 s.lo he;exact⟨hs',h.Bs.ext.trans (h.Bs.fl▸h.Bs.lo▸hx),h.Bs.fl,h.Bs.lo,h.Bs.aD,h.Bs.ua,h.Bs.same,h.Bs.GJ⟩
end
end
section
section
variable {E:eO S}{ops:Array Oper}{j5:bU S}{s0:bg S}{g0:Gh}{w0:World}{done:Nat}{fr:bU S}{s:bg S}{bl:Nat->Nat}{listed:Array Bool}{g:Gh}{a:Act}{w:World}
theorem Ur(l:L Oper):((sv l).map (·.1)).Nodup:=by
 have:(sv l).map (·.1)=List.range l.length:=by
  unfold sv;have:((λx:Nat×Oper=>x.1)∘λp:Oper×Nat=>(p.2,p.1))=Prod.snd:=rfl
  grind[List.zipIdx_map_snd,List.range_eq_range']
 grind
theorem sV.yP(R:yX E ops j5.n)(h:sV E ops j5 s0 g0 w0 done fr s bl listed g a w){c:Nat}{tJ:bU S}{s1:bg S}(had:yP E.T c (sv ops.toList) fr s=Z (tJ,s1))
  (hwh:∀j,c.testBit j=W->nA listed j∧(yC (sv ops.toList) done).testBit j=W) (hcl:∀j,c.testBit j=W->∀m,Pre ops.toList j m->done.testBit m=W∨c.testBit m=W) :
  ∃K,Adp E.T c (sv ops.toList) fr s g w a tJ s1 K∧Tw E ops j5 s0 g0 w0 (done||| c) tJ s1 listed K a w:=by
 have n:∀{j:Nat}{o:Oper},At ops j o->c.testBit j=W->nA listed j∧fj o=W∧done.testBit j=J:=λ{j o}y C=>by
  let ⟨h1,h2⟩:=hwh j C
  let ⟨o',ho',h3,h4⟩:=(v7 done j).1 h2
  have:o=o':=ke (y.symm.trans ho')
  simp_all
 have f:∀{p:Nat×Oper},p∈sv ops.toList->At ops p.1 p.2:=λ{p}r=>jz.1 r;obtain⟨K,l⟩:=Ow (w0:=w0) (bl:=bl) had h.nb h.Bs.rel (λp r A=>by
   let ⟨h1,_,h3⟩:=n (f r) A
   exact(h.ea p.1 p.2 (f r) h1 h3).1) (Ur _) (λp r q P pP hqw F=>by
   let ⟨h1,_,h3⟩:=n (f r) pP
   let ⟨h4,_,h6⟩:=n (f P) hqw
   exact h.eb p.1 q.1 h1 h4 h3 h6 F (vB (f r)) (vB (f P))) (λp r q P F d B=>((uO R.ds (f r) B).2.2 (f P) F).1)
 refine⟨K,l,⟨l.n.trans h.n,by rw[l.n];exact h.nb,by rw[l.n];exact h.Vp,by rw[FM,l.N7];exact h.df.imp (λ_ _ ht=>ht.le l.le) l.le.bP,λk t hk hc=>?_,λj p r C m hm=>?_,?_⟩⟩
 .by_cases I:∃p∈sv ops.toList,c.testBit p.1=W∧p.2.dst=Z k
  .exact l.new k I t hk
  .rw[l.old k λp r A B=>I ⟨p,r,A,B⟩]at hk
   let ⟨v,hv,ht⟩:=h.tm k t hk λi o hi B=>by have h1:=hc i o hi B;rw[MH,pE]at h1;exact h1.trans ⟨λh=>h.elim id λA=>absurd ⟨(i,o),jz.2 hi,A,B⟩ I,.inl⟩
   exact⟨v,hv,ht.le l.le⟩
 .rw[MH,pE]at C ⊢;obtain C|C:=C
  .exact .inl (h.YB j p r C m hm)
  grind
 .have u:=h.Bs;refine⟨l.rel,⟨λo b e=>l.le.bP o b (u.ext.bP o b e),λo e x hl k=>l.le.arr o e x (u.ext.arr o e x hl k),λb Q=>l.le.bp b (u.ext.bp b Q),u.ext.size,u.ext.heap,λo b hl hO=>?_,λb Q=>u.ext.oz b (by rw[l.bp]at Q;exact Q),u.ext.os,u.ext.output⟩,l.fl.trans u.fl,l.lo.trans u.lo,gD u.aD l.aD,λo y=>by rw[l.wr];exact u.ua o y,λo y hn=>?_,λo y=>by rw[l.dr];exact u.GJ o y⟩
  .obtain hO|⟨p,r,A,d,B,htm⟩:=l.own o b hO
   .exact u.ext.own o b hl hO
   .let ⟨h1,_,h3⟩:=n (f r) A
    let ⟨t,ti,d',e1,e2,e3,_⟩:=l.ach p r A
    let ⟨z,r1,r2,_⟩:=(h.ea p.1 p.2 (f r) h1 h3).1 t ti d' e1 e2 e3
    have:d=d':=ke (B.symm.trans e3);subst this;rw[htm]at r1;cases r1;exact .inr r2.new
  .rw[l.ob o (iS y u.aD)];exact u.same o y (by rw[l.wr]at hn;exact hn)
theorem wI{ow:L Nat}{k:Nat}{v:V S}(h:(dx ow fr).get k=Z v):fr.get k=Z v∧dn ow (low v)=J:=by
 cases ow with
 |nil=>exact⟨h,uz _⟩|cons o ow=>
  grind[dx,bU.get,Tr.oC,Option.filter_eq_some_iff,kT]
theorem AH{ow:L Nat}{k:Nat}{v:V S}(h:fr.get k=Z v)(a:iT ow v=J):(dx ow fr).get k=Z v:=by
 cases ow with
 |nil=>exact h|cons o ow=>
  grind[dx,bU.get,Tr.oC]
theorem NR{call:gn S}{l:L Oper}{o:Oper}{ω:Type}{kp:V S->bg S->O ω}{k:V S->bg S->L Nat->O ω}{r:ω}(h:pT E call l o fr s kp k=Z r):gP fr o.dst=W:=by
 unfold pT at h
 grind
theorem V9{done i:Nat}{aD:Nat}{wr ow:L Nat}:∀{l:VM},EY ops.toList (wX ops.toList) done i fr aD wr ow l=W->∀{j:Nat}{p:Oper},(j,p)∈l->done.testBit j=W->fj p=J->¬Pre ops.toList i j->
  (jZ (dJ wr aD) fr p.op=J∧jZ (dJ wr aD) (rZ fr p.op) p.op=J)∨(M9 p.op=W∧jZ (λx=>ow.contains x) fr p.op=J∧jZ (λx=>ow.contains x) (rZ fr p.op) p.op=J):=by
 intro l
 induction l with
 |nil=>simp_all|cons q l f=>
  intro h j p c d a b
  let ⟨g,k⟩:=q
  simp only[EY,fF]at h;obtain e|c:=ga.1 c
  .cases e;have h1:=h.1;simp only[d,a,I2,Bool.false_or]at h1;rw[pE]at h1;obtain h1|h1:=h1
   .exact absurd h1 b
   grind
  grind
end
end
section
section
variable {E:eO S}{ops:Array Oper}{j5:bU S}{s0:bg S}{g0:Gh}{w0:World}{done:Nat}{fr:bU S}{s:bg S}{bl:Nat->Nat}{listed:Array Bool}{g:Gh}{a:Act}{w:World}
theorem Nh{p:Nat->Bool}{o:Op}(h:jZ p fr o=J){k:Nat}(a:k∈tmpsOf o){v:V S}(c:fr.get k=Z v):cI p v=J:=by
 let ⟨x,d,b⟩:=Al.1 a
 grind[jZ,cD]
theorem Uv{ow wr:L Nat}{aD:Nat}(a:∀o∈ow,o∈wr){v:V S}(h:cI (dJ wr aD) v=J):iT ow v=J:=by
 grind[pL,ez,dJ]
theorem Mt{ops:L Oper}{fr:bU S}{o:Oper}{k:Nat}{v:V S}(h:vu ops fr o=W)(a:oE ops o=Z k)(c:fr.get k=Z v):(∃b,v=.kb b)∨∃l,v=.dat (.lit (.tuple l)):=by
 unfold vu at h;unfold oE at a
 grind
theorem sV.step(hE:fC E){call:gn S}(wD:gO E.T.E.P call)(A:yX E ops j5.n)(h:sV E ops j5 s0 g0 w0 done fr s bl listed g a w){i:Nat}{o:Oper}(I:At ops i o)(hd:done.testBit i=J)(hnl:¬nA listed i)(hl:∀e∈yj o,nA listed e)
  (hsub:∀j,Pre ops.toList i j->done.testBit j=W∨(yC (sv ops.toList) done).testBit j=W) {tJ:bU S} {s1:bg S} (had:TL.yP E.T (yC (sv ops.toList) done&&& (wX ops.toList).getD i 0) (sv ops.toList) fr s=Z (tJ,s1))
  {ω:Type} {kp:bU S->V S->bg S->O ω} {k:Nat->bU S->bg S->O ω} {r:ω}
  (hev:pT E call ops.toList o tJ {s1 with wr:=[]} (λt s'=>kp (af6 ops.toList tJ) t {s' with wr:=s'.wr++s1.wr}) (λt s' ow=>bif EY ops.toList (wX ops.toList) done i fr s.aD s'.wr ow (sv ops.toList)then
   k (done||| (yC (sv ops.toList) done&&& (wX ops.toList).getD i 0)||| 1 <<< i) ((dx ow tJ).jm o.dst t) {s' with wr:=s'.wr++s1.wr}else Y)=Z r)
  {K:Act->World->Prop} {Q:Exit->Act->World->Prop}
  (hK:∀done' fr' s' g' a' w',k done' fr' s'=Z r->sV E ops j5 s0 g0 w0 done' fr' s' bl (listed.setIfInBounds i W) g' a' w'->K a' w')
  (hP:∀fr' t s' g' a' v w',kp fr' t s'=Z r->fr'.n=j5.n->cQ g' (bH fr') a' w'->eL s0 g0 w0 s' g' w'->dW (ops.toList.filterMap (·.dst)) j5 fr' s'.dr s0.aD->aH g' w' (low t) v->Q (.panic [{v,recovered:=J}]) a' w') {rr:O Nat} (hrr:rr≠Y->∀o∈ops.toList,∀c,o.op≠.defer c):Cs rr E.T.E.P ops Q i K a w:=by
 have apj:rr≠Y->∀c,o.op≠.defer c:=λhr=>hrr hr o (at_mem I);have hi:i<listed.size:=by rw[h.KH];exact vB I
 have NB:∀j,Pre ops.toList i j->nA listed j:=nI A.bk (λi o hi hl=>h.UB i o hi hl) I hl;generalize hwe:yC (sv ops.toList) done&&& (wX ops.toList).getD i 0=which at had hev;have hwb:∀j,which.testBit j=W↔(yC (sv ops.toList) done).testBit j=W∧Pre ops.toList i j:=λj=>by rw[<-hwe,Nat.testBit_and,fF];rfl
 let ⟨g1,hA,hC⟩:=h.yP A had (λj hj=>⟨NB j ((hwb j).1 hj).2,((hwb j).1 hj).1⟩) (λj hj m hm=>by
  have hpm:=Ud A.bk I ((hwb j).1 hj).2 hm
  simp_all)
 have hpd:∀j,Pre ops.toList i j->(done||| which).testBit j=W:=λj hj=>by
  simp_all
 have hwd:∀{j:Nat}{q:Oper},At ops j q->which.testBit j=W->nA listed j∧fj q=W∧done.testBit j=J:=λ{j q}B hj=>by
  let ⟨o',ho',h3,h4⟩:=(v7 done j).1 ((hwb j).1 hj).1
  have:q=o':=ke (B.symm.trans ho')
  simp_all
 have hwi:which.testBit i=J:=by
  grind
 have P:gP tJ o.dst=W:=NR hev;have hdst:gP (dx (S:=S) [] tJ) o.dst=W:=P
 let ⟨hfr,hfn,hag⟩:=hC.aj6 A
 have afK:=hag I (λj hj=>⟨NB j hj,hpd j hj⟩) λj ha hji=>by
  let ⟨q,B,_⟩:=ha
  have hnj:¬nA listed j:=λhlj=>hnl (nI A.bk (λi o hi hl=>h.UB i o hi hl) B (h.UB j q B hlj) i hji);refine⟨hnj,?_⟩;cases LX:(done||| which).testBit j with
  |false=>rfl|true=>
   rw[MH,pE]at LX;obtain LX|LX:=LX
   .have:=h.YB j q B LX i hji
    simp_all
   simp_all
 rw[Is E call _ _ _ hfn.symm (ER A.us I) (λk n=>afK k (.inl n)) (λk n=>afK k (.inr n))]at hev;have zY:aV g1 (aC {s1 with wr:=[]}) w:=hC.Bs.rel;unfold Cs;simp[GZ I];refine(sE hE wD (by rw[hfn];exact hC.nb) hfr zY hev (λt s' ow g' v w' n ht f=>?_) (λt s' g' v w' n f ht=>?_) apj).2
 .obtain ⟨ai4,n⟩|⟨_,n⟩:=af n
  rotate_left
  .cases n
  refine hK _ _ _ g' _ w' n ?_;have Qm:s1.fl=0:=hA.fl.trans h.fl;have hnf:∀ow':L Nat,(dx ow' tJ).n=tJ.n:=λow'=>tK ow' tJ;have apz:gP (dx ow tJ) o.dst=W:=Aq P;have eo:∀k,((dx ow tJ).jm o.dst t).get k=if o.dst=Z k then Z t else(dx ow tJ).get k:=λk=>Jr apz (by rw[hnf];exact hC.nb)
  have hnn:((dx ow tJ).jm o.dst t).n=tJ.n:=by
   have:((dx ow tJ).jm o.dst t).n=(dx ow tJ).n:=by cases o.dst<;>rfl
   rw[this,hnf]
  have ajW:eL s1 g1 w {s' with wr:=s'.wr++s1.wr} g' w':=
   ⟨f.rel,f.ext,f.fl,f.lo,f.aD,λo I=>eY _ I,λo I hn=>f.same o I (λhm=>hn (fU _ hm)),f.GJ⟩
  have hne:∀{j:Nat}{p:Oper}{k:Nat},At ops j p->j≠i->p.dst=Z k->o.dst≠Z k:=λF hne hpd R=>((uO A.ds I R).2.2 F (Ne.symm hne)).1 hpd;have hd':∀j,(done||| which||| 1 <<< i).testBit j=W↔(done.testBit j=W∨which.testBit j=W)∨i=j:=λj=>by rw[uP,MH,pE]
  refine⟨by simpa using h.KH,hnn.trans hC.n,by rw[hnn];exact hC.nb,by rw[tg.1,hnn];exact hC.Vp,?_,λk t' C hc=>?_,λj p F hj e he=>?_,λj p F hj m hm=>?_,λj p F hj=>?_,λj p F hj hn=>?_,λj p F hj hn=>?_,λj m hj hm h1 h2 hjm yg hms=>?_,hC.Bs.trans ajW,?_,f.fl.trans Qm,λj ha hj=>?_⟩
  .rw[tg.2,FM,Eo];cases ow with|nil=>exact f.N7 hC.df|cons x ow=>exact(gW (λv=>kT _ v) (λ_ _=>rfl) tJ.df).rel f.tr hC.df
  .rw[eo]at C;by_cases R:o.dst=Z k
   .rw[bB R]at C;cases C;have hk2:k<tJ.n:=by rw[R]at P;exact gU P
    exact⟨v,by rw[R];exact tj (by rw[hC.Vp];exact hk2),ht⟩
   .rw[bO R]at C
    let ⟨h1,h2⟩:=wI C
    let ⟨u,hu,htu⟩:=hC.tm k t' h1 λj p F hpd=>by
     have c1:=hc j p F hpd;rw[fJ hi,hd']at c1
     grind
    exact⟨u,by rw[xU R];exact hu,f.tr _ _ htu h2⟩
  .rw[fJ hi]at hj ⊢;obtain hj|rfl:=hj
   .exact .inl (h.UB j p F hj e he)
   .have:o=p:=ke (I.symm.trans F)
    simp_all
  .rw[hd']at hj ⊢;obtain hj|rfl:=hj
   .left
    have:=hC.YB j p F (by simp_all) m hm;rwa [MH,pE]at this
   simp_all
  .rw[fJ hi]at hj;rw[hd'];obtain hj|rfl:=hj
   .exact (h.ld j p F hj).imp (λh=>.inl (.inl h)) id
   omega
  ·
   have hji:j≠i:=λe=>hn ((fJ hi).2 (.inr e.symm));have hnl:¬nA listed j:=λhl=>hn ((fJ hi).2 (.inl hl));have LX:done.testBit j=W:=by
    grind
   let ⟨hna,hfo⟩:=h.fo j p F LX hnl
   have hnp:¬Pre ops.toList i j:=λhpr=>hnl (NB j hpr);have hmm:=V9 ai4 (jz.2 F) LX hna hnp;have hpi:∀{m:Nat}{q:Oper}{k:Nat},At ops m q->(m=i∨which.testBit m=W)->(k∈tmpsOf p.op∨oE ops.toList p=Z k)->q.dst≠Z k:=by
    intro m q k B hm n XS;have hpre:Pre ops.toList j m:=by
     obtain h1|⟨h1,_⟩:=(J7 A F n B XS).2
     .exact h1
     .exfalso;obtain rfl|hm:=hm
      .exact hnp h1
      .exact hnl (nI A.bk (λi o hi hl=>h.UB i o hi hl) B (h.UB m q B (hwd B hm).1) j h1)
    have:=h.YB j p F LX m hpre
    grind
   have hold:∀k,(k∈tmpsOf p.op∨oE ops.toList p=Z k)->tJ.get k=fr.get k:=λk n=>hA.old k λq B hw=>hpi (jz.1 B) (.inr hw) n;have hput:∀k,(k∈tmpsOf p.op∨oE ops.toList p=Z k)->((dx ow tJ).jm o.dst t).get k=(dx ow tJ).get k:=λk n=>by rw[eo,bO (hpi I (.inl rfl) n)]
   have hsubw:∀o∈ow,o∈s'.wr:=f.oww;have hkeep:∀k,fr.get k=tJ.get k->(∀v,fr.get k=Z v->iT ow v=J)->(dx ow tJ).get k=fr.get k:=λk he hm=>by
    cases hfk:fr.get k with
    |some v=>grind[AH]|none=>
     cases ap7:(dx ow tJ).get k with
     |none=>rfl|some v=>
      have:=(wI ap7).1
      simp_all
   have hno:∀k v,k∈tmpsOf p.op->fr.get k=Z v->iT ow v=J:=λk v n hv=>by
    grind[Uv,Nh,pL]
   have hsame:∀x,dJ s'.wr s.aD x=J->({s' with wr:=s'.wr++s1.wr}:bg S).ob.get x=s.ob.get x:=λx hx=>by
    simp only[dJ,zd]at hx;have hx1:x∉s'.wr:=by grind
    have hx2:x<s.aD:=by
     grind[Nat.ble_eq_true_of_le]
    have:=f.same x (iS hx2 hA.aD) hx1;exact this.trans (hA.ob x hx2)
   refine⟨hna,hfo.move (hnn.trans hA.n) (ER A.us F) (λk n=>?_) (λk n=>?_) (λd ai8 t' ht'=>?_) (p:=dJ s'.wr s.aD) (.inr (hmm.imp (λh=>⟨h.1,h.2,hsame⟩) (λh=>h.1)))⟩
   .grind
   .rw[hput k (.inr n)];refine hkeep k (hold k (.inr n)).symm λv hv=>?_;obtain⟨f1,_⟩|SO:=hfo.2
    .obtain ⟨b,rfl⟩|⟨l,rfl⟩:=Mt f1 n hv<;>rfl
    have hgv:∃b,iD v=Z b:=by
     have y:∃c,iO ops.toList fr p=Z (Z c)∨iO ops.toList fr p=Z Y:=by
      obtain⟨f1,_⟩|⟨c,f1,_⟩:=SO
      .simp_all
      simp_all
     let ⟨c,y⟩:=y
     unfold oE at n;unfold iO at y;cases hpg:p.guard with
     |none=>simp_all|some q=>
      let ⟨m,want⟩:=q
      simp[hpg]at n y;rw[n,Si,hv]at y;cases hb:iD v with
      |some b=>grind|none=>
       exfalso;cases v<;>first|(cases hb;done)|(simp only[hb]at y;obtain h|h:=y<;>cases h)
    let ⟨b,hb⟩:=hgv
    cases v<;>first|rfl|simp[iD]at hb
   .rw[eo,bO (hne F hji ai8)]at ht';have h1:=(wI ht').1;rw[hA.old d λq B hw XS=>?_]at h1
    .exact h1
    .have hq':At ops q.1 q.2:=jz.1 B;have hjq:j≠q.1:=λe=>by
      simp_all
     exact((uO A.ds F ai8).2.2 hq' hjq).1 XS
  .have hji:j≠i:=λe=>by
    simp_all
   have LX:done.testBit j=J:=by
    simp_all
   have hwj:which.testBit j=J:=by
    simp_all
   rw[fJ hi]at hj;have hlj:nA listed j:=hj.elim id λe=>absurd e.symm hji
   let ⟨h1,h2⟩:=h.ea j p F hlj LX
   refine⟨λt2 ti d q1 q2 q3=>?_,iS h2 f.ext.size⟩
   let ⟨z,r1,r2,r3⟩:=h1 t2 ti d q1 q2 q3
   have afw:II g1 w0 w (bl j) z:=⟨r2.new,r2.lt,by rw[hA.bp];exact r2.bp,λx hO=>by
    obtain hO|⟨q,B,hw,d2,hd2,htm⟩:=hA.own x (bl j) hO
    .exact r2.own x hO
    .have hq':At ops q.1 q.2:=jz.1 B
     let ⟨l1,_,l3⟩:=hwd hq' hw
     let ⟨t3,ti3,d3,e1,e2,e3,_⟩:=hA.ach q B hw
     let ⟨z3,u1,_,_⟩:=(h.ea q.1 q.2 hq' l1 l3).1 t3 ti3 d3 e1 e2 e3
     have:d2=d3:=ke (hd2.symm.trans e3);subst this;have hbb:bl j=bl q.1:=by
      simp_all
     have hjq:j≠q.1:=λe=>by simp_all
     exact h.eb j q.1 hlj l1 LX l3 hjq (vB F) (vB hq') hbb,r2.mem⟩
   exact⟨z,by rw[xU (hne F hji q3)];exact r1,afw.Bs f Qm,r3⟩
  .have hx:∀j,(done||| which||| 1 <<< i).testBit j=J->done.testBit j=J∧i≠j:=λj hj=>by
    grind
   rw[fJ hi]at hj hm;exact h.eb j m (hj.elim id λe=>absurd e (hx j h1).2) (hm.elim id λe=>absurd e (hx m h2).2) (hx j h1).1 (hx m h2).1 hjm yg hms
  .refine ⟨λk v n hv=>?_,?_⟩;rotate_left
   .rw[Eo];have h0:yq (dJ s'.dr s0.aD) j5.df tJ.df:=by rw[hA.N7];exact h.fk.df.mono (jb (λx hx=>f.GJ x (by rw[hA.dr];exact hx)) (eR _))
    cases ow with|nil=>exact h0|cons x ow=>refine h0.trans (uS (p:=(x::ow).contains) (λo' ho'=>?_) (λv=>pL _ v) _).ok;have:=f.owd o' (by grind);simp[dJ,this]
   have yf:∀{m:Nat}{q:Oper},At ops m q->q.dst≠Z k:=λB XS=>n (Al.2 ⟨_,iz B,XS⟩);obtain h1|h1:=h.fk.tm k v n hv
   .rw[eo,bO (yf I)];rw[<-hA.old k λq B _=>yf (jz.1 B)]at h1;cases hm:iT ow v with
    |false=>exact .inl (AH h1 hm)|true=>
     rw[pL]at hm;refine .inr (ez (λx hx=>?_) v hm);have:x∈ow:=by simpa using hx
     have:=f.owd x this;simp[dJ,this]
   .exact .inr (ez (jb (λx hx=>f.GJ x (by rw[hA.dr];exact hx)) (eR _)) v h1)
  .rw[fJ hi];obtain(hj|hj)|hj:=(hd' j).1 hj
   .exact .inl (h.an j ha hj)
   .simp_all
   omega
 .have hds:∀d∈ops.toList.filterMap (·.dst),d<bI:=λd hd=>by
   let ⟨q,B,XS⟩:=Al.1 hd
   let ⟨m,hm⟩:=Wn B
   exact(uO A.ds hm XS).1
  have hgd:∀k,(af6 ops.toList tJ).get k=if k∈ops.toList.filterMap (·.dst)then Y else tJ.get k:=λk=>Tr.oD _ _ _ hds
  have hdr:∀x,dJ s.dr s0.aD x=W->dJ s'.dr s0.aD x=W:=jb (λx hx=>f.GJ x (by rw[hA.dr];exact hx)) (eR _);refine hP _ t _ g' _ v w' n hC.n ⟨hC.Vp,f.N7 hC.df,λk t' C=>?_⟩ (hC.Bs.trans ⟨f.rel,f.ext,f.fl,f.lo,f.aD,λo I=>eY _ I,λo I hn=>f.same o I (λhm=>hn (fU _ hm)),f.GJ⟩) ⟨λk v n hv=>?_,?_⟩ ht
  .rw[bT,hgd]at C;split at C
   .cases C
   .rename_i hnk;rw[fV]at C;obtain⟨u,hu,rfl⟩:=C
    let ⟨v',hv',ht'⟩:=hC.tm k u hu λi o hi R=>absurd (Al.2 ⟨o,iz hi,R⟩) hnk
    exact⟨v',hv',f.tr _ _ ht' (mB _)⟩
  .obtain h1|h1:=h.fk.tm k v n hv
   .left
    rw[hgd,bO n,hA.old k λq B _ XS=>n (Al.2 ⟨_,iz (jz.1 B),XS⟩)];exact h1
   .exact .inr (ez hdr v h1)
  .show yq _ j5.df tJ.df;rw[hA.N7];exact h.fk.df.mono hdr
end
end
end TL
end
end
