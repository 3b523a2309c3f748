import Derived.Test.YthlenkomcaiomaaGreatE4
set_option linter.all false
set_option maxRecDepth 100000
set_option maxHeartbeats 0
noncomputable section
open Option renaming some->Z,none->Y
open Bool renaming true->W,false->J
open Nat renaming beq->Nq,ble->Nl,blt->Nt,succ->Ns,add->Na
open TL.LO renaming next->N,ret->X,out->H
open TL.Rx renaming ok->G,iN->M
namespace Mn
open Go TL
section
variable {c:aB}{D:List ax}{w w':ai}{k k':Nat}{f g:aq}{v u:aA}{o:bG}{form:Int}{left:List aq}{at_:Int}
def jr.ob(h:jr c D w){n:Int}(h1:0<=n)(h2:n<w.aQ.length):fX c D w.aQ.length (cN w n):=h.obs _ (bV _ (by omega))
def ez(h:jr c D w)(d:cC c w.aQ.length v)(a:gH w v form=Z o) :
  o.Form=form/\fX c D w.aQ.length o/\v.Kind=5/\0<=v.N/\v.N<w.aQ.length/\o=cN w v.N:=by
 unfold gH at a;split at a<;>rename_i b;cases a;have:0<=v.N/\v.N<w.aQ.length:=by obtain h|h|h|h|h:=d<;>first|exact h.2|(have:=h.1;have:=b.1;omega)
 exact⟨b.2,h.ob this.1 this.2,b.1,this.1,this.2,rfl⟩;cases a
def cC.ref(b:cC c k v)(h:v.Kind=5):0<=v.N/\v.N<k:=by obtain a|a|a|a|a:=b<;>first|exact a.2|(have:=a.1;omega)
def cC.code(b:cC c k v)(h:v.Kind=4):0<=v.N/\v.N<c.dh.length:=by obtain a|a|a|a|a:=b<;>first|exact a.2|(have:=a.1;omega)
def cC.int(b:cC c k v)(h:v.Kind=1):jh v.N=W:=by obtain a|a|a|a|a:=b<;>first|exact a.2|(have:=a.1;omega)
theorem cC.mono(b:k<=k')(a:cC c k v):cC c k' v:=by
 obtain h|h|h|h|h:=a
 exact .inl h;exact .inr (.inl h);exact .inr (.inr (.inl h));exact .inr (.inr (.inr (.inl h)));exact .inr (.inr (.inr (.inr ⟨h.1,h.2.1,by omega⟩)))
theorem dB.mono{l:Int}(b:k<=k')(h:dB c D k l f):dB c D k' l f:=
 ⟨h.lo,h.hi,h.re,h.el,λv a=>(h.env v a).mono b,h.sl,λv a=>(h.stack v a).mono b⟩
theorem uJ{l:L aA}(h:∀u∈l,cC c k u)(a:cC c k v):∀u∈l++[v],cC c k u:=by
 grind
theorem dB.push(h:dB c D k 1 f)(a:cC c k v):dB c D k 0 (l6 f v):=
 ⟨h.lo,h.hi,h.re,h.el,h.env,by have:=h.sl;grind[l6],uJ h.stack a⟩
def fX.vals(h:fX c D k o):∀v∈o.fL,cC c k v:=by
 have one:∀{u:aA},cC c k u->∀v∈[u],cC c k v:=λa v b=>by simp_all
 cases h with|data _ _ _ h=>exact h|func _ _ h=>exact h|cell h=>exact one h|chan _ h=>exact h|Bo=>simp_all|se=>simp_all|done h=>exact one h|dead=>simp_all
theorem fX.mono(f:k<=k')(h:fX c D k o):fX c D k' o:=by
 cases h with
 |data a b e d=>exact .data a b e λv i=>(d v i).mono f|func a b e=>exact .func a b λv i=>(e v i).mono f|cell a=>exact .cell (a.mono f)|chan a b=>exact .chan a λv i=>(b v i).mono f|Bo a b e=>exact .Bo a (λg j=>(b g j).mono f) e|se a b e=>exact .se a (λg j=>(b g j).mono f) (e.mono f)|done a=>exact .done (a.mono f)|dead a=>exact .dead a
theorem yx{n:Int}(hn:0<=n)(a:n<w.aQ.length){i:Nat}:cN (gw w n o) i=if(i:Int)=n then o else cN w i:=by
 unfold cN gw
 grind
theorem qI{i:Nat}:cN (gr w o) i=if i=w.aQ.length then o else cN w i:=by
 unfold cN gr
 grind
theorem jr.set(h:jr c D w){n:Int}(hn:0<=n)(g:n<w.aQ.length)(l:fX c D w.aQ.length o)(hf:o.Form=6↔(cN w n).Form=6):jr c D (gw w n o):=by
 have b:(gw w n o).aQ.length=w.aQ.length:=by unfold gw;simp
 have a:∀i:Nat,i<w.aQ.length->((cN (gw w n o) i).Form=6↔(cN w i).Form=6):=by
  intro i d;rw[yx hn g]
  grind
 refine⟨by rw[b];exact h.len,λx f=>?_,h.outs,h.out,h.ins,h.inn,h.used,h.E6,by rw[b];exact h.tl,λt k=>?_,λi d j=>?_⟩;rw[b];obtain f|f:=YL f
 exact h.obs x f
 simp_all
 let ⟨h1,h2,h3⟩:=h.task t k
 refine⟨h1,by omega,?_⟩;have e:((t.toNat:Nat):Int)=t:=by omega
 have:=(a t.toNat (by omega)).2 (by grind);rwa [e]at this;rw[b]at d;exact h.all i d ((a i d).1 j)
theorem jr.add(h:jr c D w)(hl:w.aQ.length<120)(f:fX c D w.aQ.length o)(hf:o.Form≠6):jr c D (gr w o):=by
 have g:(gr w o).aQ.length=w.aQ.length+1:=by unfold gr;simp
 refine⟨by omega,λx b=>?_,h.outs,h.out,h.ins,h.inn,h.used,h.E6,by have:=h.tl;unfold gr;simp;omega,λt j=>?_,λi k a=>?_⟩;obtain b|b:=fc.1 b
 exact(h.obs x b).mono (by omega);rw[tR.1 b];exact f.mono (by omega)
 let ⟨h1,h2,h3⟩:=h.task t j
 refine⟨h1,by omega,?_⟩;have e:((t.toNat:Nat):Int)=t:=by omega
 rw[<-e,qI,bS (by omega),e];exact h3;rw[qI]at a;by_cases d:i=w.aQ.length
 simp_all
 rw[bS d]at a;exact h.all i (by omega) a
abbrev yL(w:ai)(o:bG):ai:=⟨w.aQ++[o],w.aY++[(w.aQ.length:Int)],w.mg,w.dJ,w.Used⟩
theorem jr.spawn(h:jr c D w)(hl:w.aQ.length<120)(l:fX c D w.aQ.length o)(hf:o.Form=6):jr c D (yL w o):=by
 have m:(yL w o).aQ.length=w.aQ.length+1:=by simp
 have j:∀i:Nat,cN (yL w o) i=if i=w.aQ.length then o else cN w i:=λi=>qI (w:=w) (o:=o) (i:=i)
 refine⟨by omega,λx f=>?_,h.outs,h.out,h.ins,h.inn,h.used,?_,by have:=h.tl;simp;omega,λt g=>?_,λi p d=>?_⟩;obtain f|f:=fc.1 f
 exact(h.obs x f).mono (by omega);rw[tR.1 f];exact l.mono (by omega);refine List.nodup_append.2 ⟨h.E6,List.pairwise_singleton _ _,λa j b n=>?_⟩;rw[tR.1 n];have:=(h.task a j).2.1;omega;obtain g|g:=fc.1 g
 let ⟨h1,h2,h3⟩:=h.task t g
 refine⟨h1,by omega,?_⟩;have e:((t.toNat:Nat):Int)=t:=by omega
 grind
 grind
 rw[j]at d;by_cases k:i=w.aQ.length
 simp_all
 rw[bS k]at d;exact gf _ (h.all i (by omega) d)
structure yZ(c:aB)(D:List ax)(w w':ai)(fr:List aq)(e:Option aE):Prop where
 ok:jr c D w'
 tk:∃l,w'.aY=w.aY++l
 tn:e=Y->w'.aY=w.aY
 ln:w.aQ.length<=w'.aQ.length
 fm:∀i:Nat,i<w.aQ.length->((cN w' i).Form=6↔(cN w i).Form=6)
 ob:fX c D w'.aQ.length ⟨6,0,[],fr⟩
 sm:∀i:Nat,i<w.aQ.length->(cN w i).Form=6->cN w' i=cN w i
def Cd(c:aB)(D:L ax)(w:ai):tq->Prop
 |.fail s=>s=2\/s=3\/s=4|.waits=>True|.done v=>cC c w.aQ.length v|.go w' fr e=>yZ c D w w' fr e
variable {e:Option aE}
def yZ.same(h:jr c D w){fr:L aq}(a:fX c D w.aQ.length ⟨6,0,[],fr⟩):yZ c D w w fr e:=
 ⟨h,⟨[],by simp⟩,λ_=>rfl,eP _,λ_ _=>wu,a,λ_ _ _=>rfl⟩
theorem yZ.set(h:jr c D w){fr:L aq}{e:O aE}{n:Int}(hn:0<=n)(a:n<w.aQ.length)(d:fX c D w.aQ.length o)(hf:o.Form≠6)(b:(cN w n).Form≠6)
  (g:fX c D w.aQ.length ⟨6,0,[],fr⟩):yZ c D w (gw w n o) fr e:=by
 have j:(gw w n o).aQ.length=w.aQ.length:=by unfold gw;simp
 refine⟨h.set hn a d ⟨λh=>absurd h hf,λh=>absurd h b⟩,⟨[],by simp[gw]⟩,λ_=>rfl,by omega,λi f=>?_,by grind,λi f h6=>?_⟩;rw[yx hn a]
 grind
 rw[yx hn a,bS]
 grind
theorem yZ.add(h:jr c D w){fr:L aq}{e:O aE}(hl:w.aQ.length<120)(a:fX c D w.aQ.length o)(hf:o.Form≠6)
  (f:fX c D (w.aQ.length+1) ⟨6,0,[],fr⟩):yZ c D w (gr w o) fr e:=by
 have b:(gr w o).aQ.length=w.aQ.length+1:=by unfold gr;simp
 refine⟨h.add hl a hf,⟨[],by simp[gr]⟩,λ_=>rfl,by omega,λi d=>?_,by grind,λi d _=>?_⟩;rw[qI,bS (by omega)];rw[qI,bS (by omega)]
def Z8{n:Int}(h:jh n=W):cC c k (ia n):=.inl ⟨rfl,h⟩
def Ti{b:aa}:cC c k (iI b):=.inr (.inl ⟨rfl,by cases b<;>simp[iI]⟩)
theorem zH:cC c k eA:=.inr (.inr (.inl ⟨rfl,rfl⟩))
def YE(h:k<k'):cC c k' (wq k):=.inr (.inr (.inr (.inr ⟨rfl,by simp[wq],by simp[wq];omega⟩)))
structure Cx(c:aB)(D:List ax)(w:ai)(left:List aq)(i:bT)(f:aq)(l:List aA)(n:Int):Prop where
 hp:pX c D
 hw:jr c D w
 n0:0<=n
 n1:n<c.dJ.length
 re:(ee D n).Reached=W
 hi:i=aZ c n
 z8:f.At=n+1
 el:(f.Env.length:Int)=(ee D n).Env
 env:∀v∈f.Env,cC c w.aQ.length v
 sl:(f.Stack.length:Int)+cz c i=(ee D n).Stack
 stack:∀v∈f.Stack,cC c w.aQ.length v
 ll:l.length=cz c i
 vals:∀v∈l,cC c w.aQ.length v
 fl:left.length<40
 left:∀g∈left,dB c D w.aQ.length 1 g
variable {i:bT}{l:List aA}{n:Int}
def pX.alx(h:pX c D)(a:0<=n)(h1:n<c.dJ.length):Q3 c (aZ c n):=h.ins _ (bV _ (by omega))
def Cx.io(x:Cx c D w left i f l n):Q3 c i:=x.hi▸x.hp.alx x.n0 x.n1
def Cx.nd(x:Cx c D w left i f l n):zg c i (ee D n):=x.hi▸(x.hp.dep.ok n x.n0 x.n1 x.re).2.2
def Cx.nx(x:Cx c D w left i f l n){y:Int×ax}(d:y∈dV c n (ee D n)):0<=y.1/\y.1<c.dJ.length/\ee D y.1=y.2/\(ee D y.1).Reached=W:=by
 let ⟨a,b,e⟩:=x.hp.dep.step n x.n0 x.n1 x.re y d
 exact⟨a,b,e,by rw[e];exact Bh d x.re⟩
def Cx.val(x:Cx c D w left i f l n){j:Nat}(h:j<l.length):cC c w.aQ.length (e8 l j):=x.vals _ (bV _ h)
theorem Cx.tl(x:Cx c D w left i f l n){q:Int}(h:i.Op=q)(a:q≠18):l.length=lI.getD q.toNat 0:=by rw[x.ll];unfold cz;rw[h,bS a]
def Cx.fr(x:Cx c D w left i f l n){p s e:Int}(j:(p,cm s e)∈dV c n (ee D n)){g:aq}(m:w.aQ.length<=k)(h1:g.At=p)(h2:(g.Env.length:Int)=e)(h3:∀v∈g.Env,cC c k v)
  {d:Int} (h4:(g.Stack.length:Int)=s-d) (h5:∀v∈g.Stack,cC c k v):dB c D k d g:=by
 let ⟨a,b,h,r⟩:=x.nx j
 subst h1;exact⟨a,b,r,by rw[h,h2];rfl,h3,by rw[h,h4];rfl,h5⟩
def aaF(a:k<=k')(hl:left.length<40)(h:∀g∈left,dB c D k 1 g)(b:dB c D k' 0 g):fX c D k' ⟨6,0,[],left++[g]⟩:=
 .se hl (λx d=>(h x d).mono a) b
def dX(q:Int):Prop:=q=1\/q=2\/q=3\/q=4\/q=5\/q=6\/q=7\/(13<=q/\q<=18)\/(21<=q/\q<=33)
def O2(hi:i=aZ c n){d:ax}(h:dX i.Op):(n+1,cm (d.Stack-cz c i+1) d.Env)∈dV c n d:=by
 subst hi;have a:¬((aZ c n).Op=9\/(aZ c n).Op=10\/(aZ c n).Op=11\/(aZ c n).Op=12\/(aZ c n).Op=19):=by unfold dX at h;omega
 unfold dV gk;simp[a,jY];split<;>first|exact eN|(exfalso;unfold dX at h;omega)
def Cx.wait(x:Cx c D w left i f l n)(h:dX i.Op):dB c D w.aQ.length 1 f:=
 x.fr (O2 x.hi h) (eP _) x.z8 x.el x.env (by have:=x.sl;omega) x.stack
theorem Cx.push(x:Cx c D w left i f l n)(h:dX i.Op)(a:w.aQ.length<=k)(b:cC c k v):fX c D k ⟨6,0,[],left++[l6 f v]⟩:=
 aaF a x.fl x.left (((x.wait h).mono a).push b)
def Cx.fI(x:Cx c D w left i f l n)(h:dX i.Op)(a:cC c w.aQ.length v){e:O aE}:Cd c D w (fI w left f v e):=yZ.same x.hw (x.push h (eP _) a)
theorem Cx.made(x:Cx c D w left i f l n)(h:dX i.Op){e:O aE}(a:fX c D w.aQ.length o)(hf:o.Form≠6):Cd c D w (l9 w left f o e):=by unfold l9;split;exact .inr (.inr rfl);exact yZ.add x.hw (by omega) a hf (x.push h (by omega) (YE (by omega)))
theorem Ir(d:pX c D)(h:qw c D n):0<=n/\n<c.dJ.length/\(ee D n).Reached=W/\(ee D n).Stack=0:=by
 let ⟨i,f,h1,h2,h3,h4⟩:=h
 have g:(n,cm 0 ((ee D i).Env+1))∈dV c i (ee D i):=by
  grind[dV]
 let ⟨a,b,e⟩:=d.dep.step i f h1 h3 _ g
 exact⟨a,b,by rw[e];rfl,by rw[e];rfl⟩
theorem QB(f:pX c D)(n:jr c D w)(h:cC c w.aQ.length u)(j:cC c w.aQ.length v){b:aq}{r:aa}(e:iB c w u v=Z b):dB c D w.aQ.length 0 ⟨b.At,b.Env,b.Stack,r⟩:=by
 unfold iB at e;split at e;rename_i h4;cases e
 let ⟨h1,h2⟩:=h.code h4
 have k:=bV (l:=c.dh) (i:=u.N.toNat) 0 (by omega);have m:=f.pF _ k;have g:=f.dep.root _ k;exact⟨m.1,m.2,by rw[g];rfl,by rw[g];rfl,uJ (l:=[]) (by simp) j,by rw[g];rfl,by simp⟩;split at e
 .rename_i o;cases e
  let ⟨h1,h2,_⟩:=ez n h o
  cases h2 with
  |func a b d=>
   let ⟨h3,h4,h5,h6⟩:=Ir f a
   exact⟨h3,h4,h5,by simp_all,uJ d j,by grind,by simp⟩
  |_=>cases h1
 cases e
theorem qc:∀(f:aq)(fs:L aq)(v:aA),∃l g,f::fs=l++[g]/\kS (f::fs) v=l++[l6 g v]
 |f,[],v=>⟨[],f,rfl,rfl⟩|f,g::fs,v=>by
  let ⟨l,h,h1,h2⟩:=qc g fs v
  grind[kS]
theorem J7{fs:L aq}(a:left.length+(f::fs).length<=40)(hl:∀g∈left,dB c D k 1 g)(h:∀g∈f::fs,dB c D k 1 g)(b:cC c k v):fX c D k ⟨6,0,[],left++kS (f::fs) v⟩:=by
 let ⟨l,g,h1,h2⟩:=qc f fs v
 rw[h2,<-wv];rw[h1]at h a;refine .se (by grind) (λx d=>?_) ((h g (by simp)).push b)
 grind
theorem GA{fs:L aq}:(kS fs v).length=fs.length:=by
 cases fs with
 |nil=>rfl|cons f fs=>
  let ⟨l,g,h1,h2⟩:=qc f fs v
  grind
theorem Ib(a:jr c D w){l:L aq}(h:left.length+l.length<=40->fX c D w.aQ.length ⟨6,0,[],left++l⟩):Cd c D w (jl w left l):=by unfold jl;split;exact .inr (.inr rfl);exact yZ.same a (h (by omega))
theorem QF(i:pX c D)(e:jr c D w)(hl:∀g∈left,dB c D w.aQ.length 1 g)(f:cC c w.aQ.length u)(j:cC c w.aQ.length v){r:aa}:Cd c D w (od c w left u v r):=by
 unfold od;split;rename_i b k;exact Ib e λh=>.se (by grind) hl (QB i e f j k);split
 .rename_i l
  let ⟨h1,h2,_⟩:=ez e f l
  cases h2 with|Bo a b d=>grind[Ib,J7,GA]|_=>cases h1
 exact .inl rfl
mutual
theorem O5(e:jr c D w):∀(q:aI)(v:aA)(l:L aA),cC c w.aQ.length v->tW c.Cons q->iA w q v=Z l->(∀u∈l,cC c w.aQ.length u)/\(l.length:Int)=gq q
 |⟨form,n,text,parts⟩,v,l,f,b,h=>by
  unfold iA at h;unfold gq;by_cases h1:form=1;rw[bH h1]at h;cases h;obtain rfl:parts=[]:=by obtain h|h|h|h:=b<;>first|exact h.2.2.2|omega
  rw[bS (by omega)];exact⟨(λu a=>by cases a),rfl⟩;rw[bS h1]at h;by_cases h2:form=2
  grind
  rw[bS h2]at h ⊢;have nil:form≠6->parts=[]:=λh6=>by obtain h|h|h|h:=b<;>first|exact h.2.2.2|omega
  by_cases h3:form=3;rw[bH h3]at h;rw[nil (by omega)];split at h<;>cases h;exact⟨(λu a=>by cases a),rfl⟩;rw[bS h3]at h;by_cases h4:form=4;rw[bH h4]at h;rw[nil (by omega)];split at h<;>cases h;exact⟨(λu a=>by cases a),rfl⟩;rw[bS h4]at h;by_cases h5:form=5;rw[bH h5]at h;rw[nil (by omega)];split at h<;>cases h;exact⟨(λu a=>by cases a),rfl⟩;rw[bS h5]at h;split at h;cases h;rename_i o g;split at h;cases h;have d:nV c.Cons parts:=by obtain h|h|h|h:=b<;>first|exact h.2.2.2.2.2|(exfalso;have:=h.2.1;omega)
  exact Hq e parts o.fL l (ez e f g).2.1.vals d (by omega) h
theorem Hq(i:jr c D w):∀(qs:L aI)(vs:L aA)(l:L aA),(∀v∈vs,cC c w.aQ.length v)->nV c.Cons qs->vs.length=qs.length->fO w qs vs=Z l->
  (∀u∈l,cC c w.aQ.length u)/\(l.length:Int)=j8 qs
 |[],vs,l,d,_,_,h=>by cases h;exact⟨(λu k=>by cases k),rfl⟩
 |q::qs,[],l,d,_,e,h=>by cases e
 |q::qs,v::vs,l,d,j,e,h=>by
  unfold fO at h;unfold j8;split at h;cases h;rename_i m f;split at h;cases h;rename_i n g;cases h;have a:=O5 i q v m (d v eN) j.1 f;have b:=Hq i qs vs n (λx o=>d x (ie _ o)) j.2 (by simpa using e) g
  grind
end
theorem u6{α:Type}{q:α->aa}:∀{l:L α}{k:Nat},j9 q l=Z k->∃h:k<l.length,q l[k]=W
 |a::l,k,h=>by
  unfold j9 at h;cases b:j9 q l with
  |some j=>
   let ⟨h1,h2⟩:=u6 b
   grind
  |none=>
   grind
end
section
variable {c:aB}{D:List ax}{w w':ai}{f:aq}{v u:aA}{o:bG}{left:List aq}{at_:Int}{i:bT}{l:List aA}{n:Int}
def Cx.goto(x:Cx c D w left i f l n){p s e:Int}(a:(p,cm s e)∈dV c n (ee D n)){g:aq}{b:O aE}(h1:g.At=p)(h2:(g.Env.length:Int)=e)(h3:∀v∈g.Env,cC c w.aQ.length v)
  (h4:(g.Stack.length:Int)=s) (h5:∀v∈g.Stack,cC c w.aQ.length v):Cd c D w (.go w (left++[g]) b):=
 yZ.same x.hw (aaF (eP _) x.fl x.left (x.fr a (eP _) h1 h2 h3 (by omega) h5))
def MX{d:ax}(h:d.Reached=W):d=cm d.Stack d.Env:=by cases d;subst h;rfl
def ahc(x:Cx c D w left i f l n):Cd c D w (l7 c w at_ left i f l):=by
 have io:=x.io;have nd:=x.nd;have hlen:=x.hw.len;have h1:=io.lo;have h2:=io.hi;have HM:=x.sl;have hel:=x.el;have hfl:=x.fl;obtain⟨q,z⟩:∃q:Nat,i.Op=q:=⟨_,(zR (by omega)).symm⟩;have hq1:1<=q:=by omega
 have hq2:q<=34:=by omega
 have A:(aZ c n).Op=q:=by rw[<-x.hi];exact z
 have tl:q≠18->l.length=lI.getD q 0:=λh=>by rw[x.tl z (by omega)];rfl
 have K:q≠18->cz c i=lI.getD q 0:=λh=>by rw[<-x.ll];exact tl h
 have t:dX q->dX i.Op:=λh=>by rw[z];exact h
 have S:(aZ c n).A=i.A:=by rw[<-x.hi]
 have ib:(aZ c n).B=i.B:=by rw[<-x.hi]
 have E:gk c (aZ c n) (ee D n)=(ee D n).Stack-(cz c i:Int)+(if(q:Int)=9\/(q:Int)=10\/(q:Int)=11\/(q:Int)=12\/(q:Int)=19 then 0 else 1):=by unfold gk;rw[<-x.hi,z]
 unfold l7;simp only[z,uP]
 match q,z,hq1,hq2,A,tl,K,t,E with
 |1,z,_,_,_,_,_,t,_=>exact x.fI (t (by unfold dX;omega)) (Z8 (io.int z))
 |2,z,_,_,_,_,_,t,_=>exact x.fI (t (by unfold dX;omega)) Ti
 |3,z,_,_,_,_,_,t,_=>exact x.fI (t (by unfold dX;omega)) zH
 |4,z,_,_,_,_,_,t,_=>have:=nd.2.1 z;have:=io.place z;exact x.fI (t (by unfold dX;omega)) (x.env _ (bV _ (by omega)))
 |5,z,_,_,_,_,_,t,_=>exact x.fI (t (by unfold dX;omega)) (.inr (.inr (.inr (.inl ⟨rfl,io.code z⟩))))
 |6,z,_,_,A,_,_,t,E=>
  have hm:(i.A,cm 0 ((ee D n).Env+1))∈dV c n (ee D n):=by unfold dV;simp only[A,uP,S];exact ie _ eN
  let ⟨a,b,e,r⟩:=x.nx hm
  exact x.made (t (by unfold dX;omega)) (.func ⟨n,x.n0,x.n1,A,x.re,S⟩ (by rw[e];simp only[cm];omega) x.env) (by simp)
 |7,z,_,_,_,tl,_,t,_=>
  have P:l.length=2:=tl (by decide);refine QF x.hp x.hw (λg B=>?_) (x.val (by omega)) (x.val (by omega));obtain B|B:=fc.1 B
  exact x.left g B;rw[tR.1 B];exact x.wait (t (by unfold dX;omega))
 |8,z,_,_,_,tl,_,t,_=>have P:l.length=2:=tl (by decide);exact QF x.hp x.hw x.left (x.val (by omega)) (x.val (by omega))
 |9,z,_,_,A,tl,K,t,E=>have hk:cz c i=1:=K (by decide);refine x.goto (p:=n+1) (s:=gk c (aZ c n) (ee D n)) (e:=(ee D n).Env+1) (by unfold dV;simp only[A,uP];exact eN) x.z8 (by simp only[jR,m8];omega) (uJ x.env (x.val (by omega))) ?_ x.stack;rw[E];simp;omega
 |10,z,_,_,A,_,K,t,E=>have hA:=nd.2.2.1 z;have hB:=io.drop z;refine x.goto (p:=n+1) (s:=gk c (aZ c n) (ee D n)) (e:=(ee D n).Env-i.A) (by unfold dV;simp only[A,uP,S];exact eN) x.z8 ?_ (λv R=>x.env v (Wr R)) ?_ x.stack;simp only[Me];omega;rw[E];simp;omega
 |11,z,_,_,A,_,K,t,E=>have hk:cz c i=0:=K (by decide);refine x.goto (p:=i.A) (s:=(ee D n).Stack) (e:=(ee D n).Env) (by rw[<-MX x.re];unfold dV;simp only[A,uP,S];exact eN) rfl x.el x.env (by simp only;omega) x.stack
 |12,z,_,_,A,tl,K,t,E=>
  simp only;split;exact .inl rfl;have hs:(f.Stack.length:Int)=gk c (aZ c n) (ee D n):=by rw[E];simp;omega
  by_cases h0:(e8 l 0).N=0;rw[bH h0];exact x.goto (p:=i.A) (by unfold dV;simp only[A,uP,S];exact ie _ eN) rfl x.el x.env hs x.stack;rw[bS h0];exact x.goto (p:=n+1) (by unfold dV;simp only[A,uP];exact eN) x.z8 x.el x.env hs x.stack
 |13,z,_,_,_,_,_,t,_|14,z,_,_,_,_,_,t,_|15,z,_,_,_,_,_,t,_|16,z,_,_,_,_,_,t,_|17,z,_,_,_,_,_,t,_=>
  have F:=t (by unfold dX;omega);simp only;have fin:∀m:Int,Cd c D w (if jh m=W then fI w left f (ia m)else .fail 4):=by intro m;split;exact x.fI F (Z8 (by assumption));exact .inr (.inr rfl)
  unfold rT;split;split;exact .inl rfl;exact x.fI F Ti;split;exact .inl rfl;split;exact x.fI F Ti;exact fin _
 |18,z,_,_,_,_,_,t,_=>
  let ⟨a,b⟩:=io.con z
  have U9:=x.ll;unfold cz at U9;rw[bH (show i.Op=18 from z)]at U9;have:=x.hp.cons _ (bV br (show i.A.toNat<c.Cons.length by omega));exact x.made (t (by unfold dX;omega)) (.data a b (by rw[U9];unfold lz;omega) x.vals) (by simp)
 |19,z,_,_,A,tl,K,t,E=>
  have hk:cz c i=1:=K (by decide)
  let ⟨a,b,_⟩:=io.BN z
  have v0:=x.val (j:=0) (by omega);simp only;split;rename_i hb
  let ⟨h3,h4⟩:=O5 x.hw _ _ _ v0 (x.hp.pats _ (bV _ (by omega))).1 hb
  refine x.goto (p:=n+1) (s:=gk c (aZ c n) (ee D n)) (e:=(ee D n).Env+gq (jd c i.A)) (by unfold dV;simp only[A,uP,S];exact eN) x.z8 ?_ (λv R=>?_) (by rw[E];simp;omega) x.stack;simp only[jR];unfold jd;omega;obtain R|R:=fc.1 R
  exact x.env v R;exact h3 v R;exact x.goto (p:=i.B) (s:=(ee D n).Stack) (e:=(ee D n).Env) (by rw[<-MX x.re];unfold dV;simp only[A,uP,ib];exact ie _ eN) rfl x.el x.env
   (by simp only[jR,m8];omega) (uJ x.stack v0)
 |20,z,_,_,_,_,_,_,_=>exact .inr (.inl rfl)|21,z,_,_,_,tl,_,t,_=>have P:l.length=1:=tl (by decide);exact x.made (t (by unfold dX;omega)) (.cell (x.val (by omega))) (by simp)
 |22,z,_,_,_,tl,_,t,_=>
  have P:l.length=1:=tl (by decide);simp only;unfold E4;split;exact .inl rfl
  .rename_i o C
   let ⟨h3,h4,_⟩:=ez x.hw (x.val (by omega)) C
   have:0<o.fL.length:=by cases h4<;>first|(cases h3;done)|simp
   exact x.fI (t (by unfold dX;omega)) (h4.vals _ (bV _ this))
 |23,z,_,_,_,tl,_,t,_=>
  have P:l.length=2:=tl (by decide);simp only;unfold jb;split;exact .inl rfl;rename_i o C
  let ⟨h3,h4,h5,h6,h7,h8⟩:=ez x.hw (x.val (by omega)) C
  exact yZ.set x.hw h6 h7 (.cell (x.val (by omega))) (by simp) (by rw[<-h8];omega) (x.push (t (by unfold dX;omega)) (eP _) zH)
 |24,z,_,_,_,tl,_,t,_=>
  have P:l.length=1:=tl (by decide);have F:=t (by unfold dX;omega);have mk:∀{fr:L aq},fX c D w.aQ.length ⟨6,0,[],fr⟩->Cd c D w (if 120<=w.aQ.length then .fail 4 else fI (yL w ⟨6,0,[],fr⟩) left f (wq w.aQ.length) (Z ⟨at_,19,0,eA⟩)):=by
   intro fr C;split;exact .inr (.inr rfl);refine⟨x.hw.spawn (by omega) C rfl,⟨_,rfl⟩,(λh=>by cases h),by simp,λj hj=>?_,x.push (k:=(yL w ⟨6,0,[],fr⟩).aQ.length) F (by simp) (YE (by simp)),λj hj _=>?_⟩<;>
   rw[show cN (yL w ⟨6,0,[],fr⟩) j=if j=w.aQ.length then _ else cN w j from qI (w:=w),bS (by omega)]
  unfold zK;simp only;split;rename_i b hb;have:=QB (r:=b.dO) x.hp x.hw (x.val (by omega)) zH hb;exact mk (.se (fs:=[]) (by simp) (by simp) this);split
  .rename_i o C
   let ⟨h3,h4,_⟩:=ez x.hw (x.val (by omega)) C
   cases h4 with|Bo a b d=>exact mk (J7 (left:=[]) (by simp only[Kc,l5];omega) (by simp) b zH)|_=>cases h3
  exact .inl rfl
 |25,z,_,_,_,tl,_,t,_=>
  have P:l.length=1:=tl (by decide);simp only;unfold HF;split;exact .inl rfl
  .rename_i o C
   let ⟨h3,h4,_⟩:=ez x.hw (x.val (by omega)) C
   split;trivial
   .split
    .cases h4 with|dead a=>exact a|done a=>exact absurd rfl ‹_›|se a b d=>exact absurd rfl ‹¬_=(0:Int)›|_=>cases h3
    .have:0<o.fL.length:=by cases h4 with|done a=>exact Nat.one_pos|dead a=>exact absurd ‹¬_› (by dsimp only;omega)|se a b d=>exact absurd rfl ‹¬_=(0:Int)›|_=>cases h3
     exact x.fI (t (by unfold dX;omega)) (h4.vals _ (bV _ this))
 |26,z,_,_,_,_,_,t,_=>exact x.made (t (by unfold dX;omega)) (.chan (by simp) (by simp)) (by simp)
 |27,z,_,_,_,tl,_,t,_=>
  have P:l.length=2:=tl (by decide);simp only;unfold Gq;split;exact .inl rfl;rename_i o C
  let ⟨h3,h4,h5,h6,h7,h8⟩:=ez x.hw (x.val (by omega)) C
  split;trivial;exact yZ.set x.hw h6 h7 (.chan (by rw[jR];simp only[m8];omega) (uJ h4.vals (x.val (by omega)))) (by simp) (by rw[<-h8];omega) (x.push (t (by unfold dX;omega)) (eP _) zH)
 |28,z,_,_,_,tl,_,t,_=>
  have P:l.length=1:=tl (by decide);simp only;unfold Gc;split;exact .inl rfl
  .rename_i o C
   let ⟨h3,h4,h5,h6,h7,h8⟩:=ez x.hw (x.val (by omega)) C
   have hvs:=h4.vals;have hl4:o.fL.length<=4:=by cases h4<;>first|(cases h3;done)|assumption
   split;trivial;rename_i v l' hvl;rw[hvl]at hvs hl4;exact yZ.set x.hw h6 h7 (.chan (by simp only[l5]at hl4;omega) λu hu=>hvs u (ie _ hu)) (by simp) (by rw[<-h8];omega) (x.push (t (by unfold dX;omega)) (eP _) (hvs v eN))
 |29,z,_,_,_,tl,_,t,_=>
  have P:l.length=1:=tl (by decide);have v0:=x.val (j:=0) (by omega);have hp:=io.port z;simp only;unfold Sk;split;exact .inl rfl;split;exact .inr (.inr rfl);refine⟨⟨x.hw.len,x.hw.obs,by simp only[jR,m8];omega,λo C=>?_,x.hw.ins,x.hw.inn,x.hw.used,x.hw.E6,x.hw.tl,x.hw.task,x.hw.all⟩,⟨[],by simp⟩,λ_=>rfl,eP _,λ_ _=>wu,x.push (t (by unfold dX;omega)) (eP _) zH,λ_ _ _=>rfl⟩;obtain C|C:=fc.1 C
  exact x.hw.out o C;rw[tR.1 C];exact⟨hp.1,hp.2,v0.int (by omega)⟩
 |30,z,_,_,_,_,_,t,_=>have hi:=x.hw.inn;have hil:=x.hw.ins;have hu:=x.hw.used;simp only;unfold inS;split;trivial;rename_i j l' hl';rw[hl']at hi hil;split;exact .inr (.inr rfl);exact⟨⟨x.hw.len,x.hw.obs,x.hw.outs,x.hw.out,by simp only[l5]at hil;simp only;omega,λy hy=>hi y (ie _ hy),by simp only;omega,x.hw.E6,x.hw.tl,x.hw.task,x.hw.all⟩,⟨[],by simp⟩,λ_=>rfl,eP _,λ_ _=>wu,x.push (t (by unfold dX;omega)) (eP _) (Z8 (hi j eN)),λ_ _ _=>rfl⟩
 |31,z,_,_,A,_,_,t,E=>
  refine Ib x.hw λh=>.se (by simp only[jR,m8]at h ⊢;omega) (λg B=>?_) ?_;obtain B|B:=fc.1 B
  exact x.left g B;rw[tR.1 B];exact x.wait (t (by unfold dX;omega));exact x.fr (g:=⟨i.A,f.Env,[],W⟩) (p:=i.A) (s:=0) (e:=(ee D n).Env) (by unfold dV;simp only[A,uP,S];exact ie _ eN) (eP _) rfl x.el x.env (by simp) (by simp)
 |32,z,_,_,A,_,_,t,E=>
  have all:∀g∈left++[f],dB c D w.aQ.length 1 g:=λg B=>by
   obtain B|B:=fc.1 B
   exact x.left g B;rw[tR.1 B];exact x.wait (t (by unfold dX;omega))
  simp only;unfold CA;split;exact .inr (.inl rfl);rename_i k hk'
  let ⟨h3,h4⟩:=u6 hk'
  split;exact .inr (.inr rfl);have hlf:(left++[f]).length=left.length+1:=by simp
  have hd:(left++[f]).drop k=(left++[f])[k]::(left++[f]).drop (k+1):=UF h3;have hko:fX c D w.aQ.length ⟨5,0,[],(left++[f]).drop k⟩:=by rw[hd];refine .Bo (by rw[Uy];omega) (λg B=>?_) h4;exact all g (List.mem_of_mem_drop (i:=k) (by rw[hd];exact B))
  refine yZ.add x.hw (by omega) hko (by simp) (.se (by rw[Me];omega) (λg B=>(all g (Wr B)).mono (by omega)) ?_);exact x.fr (p:=i.A) (s:=0) (e:=(ee D n).Env+1) (by unfold dV;simp only[A,uP,S];exact ie _ eN) (by omega) rfl (by simp only[jR,m8];omega)
   (uJ (λv R=>(x.env v R).mono (by omega)) (YE (by omega))) (by simp) (by simp)
 |33,z,_,_,_,_,_,t,_=>exact x.fI (t (by unfold dX;omega)) zH
 |34,z,_,_,_,tl,_,t,_=>
  have P:l.length=1:=tl (by decide);have v0:=x.val (j:=0) (by omega);have I:=x.left;obtain rfl|⟨l',g,rfl⟩:=UD left
  exact v0;rw[UC]at *
  rw[Gy];simp at hfl;exact yZ.same x.hw (.se (by omega) (λg B=>I g (gf _ B)) ((I g (by simp)).push v0))
 |q+35,z,hq1,hq2,A,tl,K,t,E=>omega
theorem Bu(e:fX c D w.aQ.length o)(h6:o.Form=6)(h:o.N=0):∃fs f,o=⟨6,0,[],fs++[f]⟩/\fs.length<40/\(∀g∈fs,dB c D w.aQ.length 1 g)/\dB c D w.aQ.length 0 f:=by
 cases e with
 |se a b d=>grind|done=>cases h
 |dead a=>simp_all|_=>cases h6
theorem Vn(b:pX c D)(d:jr c D w){fs:L aq}{f:aq}(h1:fs.length<40)(h2:∀g∈fs,dB c D w.aQ.length 1 g)(h3:dB c D w.aQ.length 0 f) :
  Cx c D w fs (aZ c f.At) ⟨f.At+1,f.Env,f.Stack.take (f.Stack.length-cz c (aZ c f.At)),f.dO⟩ (f.Stack.drop (f.Stack.length-cz c (aZ c f.At))) f.At:=by
 have nd:=(b.dep.ok f.At h3.lo h3.hi h3.re).2.2.1;have sl:=h3.sl;exact⟨b,d,h3.lo,h3.hi,h3.re,rfl,rfl,h3.el,h3.env,by grind,λv a=>h3.stack v (Wr a),by grind,
  λv a=>h3.stack v (List.mem_of_mem_drop a),h1,h2⟩
theorem HR{fs:L aq}{f:aq}:goS c w at_ ⟨6,0,[],fs++[f]⟩=
  l7 c w at_ fs (aZ c f.At) ⟨f.At+1,f.Env,f.Stack.take (f.Stack.length-cz c (aZ c f.At)),f.dO⟩ (f.Stack.drop (f.Stack.length-cz c (aZ c f.At))):=by
 grind[goS]
def aaG(a:pX c D)(b:jr c D w)(d:fX c D w.aQ.length o)(h6:o.Form=6)(e:o.N=0):Cd c D w (goS c w at_ o):=by obtain⟨g,f,rfl,h1,h2,h3⟩:=Bu d h6 e;rw[HR];exact ahc (Vn a b h1 h2 h3)
def si(g:pX c D)(d:jr c D w)(i:0<=at_)(h1:at_<w.aY.length){e:O aE}(hs:ig c w at_=Z (w',e)) :
  jr c D w'/\(∃l,w'.aY=w.aY++l)/\(e=Y->w'.aY=w.aY):=by
 let ⟨t1,t2,t3⟩:=d.task _ (bV 0 (show at_.toNat<w.aY.length by omega))
 have f:=d.ob t1 t2;change 0<=bu w at_ at t1;change bu w at_<_ at t2;change(cN w (bu w at_)).Form=6 at t3;change fX c D _ (cN w (bu w at_))at f;unfold ig at hs;simp only at hs;split at hs;cases hs
 .have a:=aaG (at_:=at_) g d f t3 (by omega);split at hs;cases hs;rename_i b;rw[b]at a;cases hs;exact⟨d.set t1 t2 (.dead a) ⟨λ_=>t3,λ_=>rfl⟩,⟨[],by simp[gw]⟩,λ_=>rfl⟩
  .rename_i b;rw[b]at a;cases hs;exact⟨d.set t1 t2 (.done a) ⟨λ_=>t3,λ_=>rfl⟩,⟨[],by simp[gw]⟩,λ_=>rfl⟩
  rename_i b;rw[b]at a;cases hs;have h:=a.ln;have e0:(((bu w at_).toNat:Nat):Int)=bu w at_:=by omega
  refine⟨a.ok.set t1 (by omega) a.ob ⟨λ_=>?_,λ_=>rfl⟩,a.tk,a.tn⟩;have:=a.fm (bu w at_).toNat (by omega)
  simp_all
end
abbrev SB:=U×Int×L aq×Int×L aA×L aA×aa×Int×Int×Int×O aE×U
abbrev MB:=(L bG×L Int×L ec×L Int×Int×L bT×L aI×L Int×Int×L cL×L ax×U)×U
abbrev MP:=L (Int×aa)
abbrev tb(a:Int)(bl:L aq)(p:Int)(env st:L aA)(rs:aa)(op A B:Int)(e:O aE):SB:=((),a,bl,p,env,st,rs,op,A,B,e,())
abbrev mb(c:aB)(dd:L ax)(w:ai):MB:=((w.aQ,w.aY,w.mg,w.dJ,w.Used,c.dJ,c.ey,c.dh,c.Main,c.Cons,dd,()),())
abbrev fl(s:Int):Any:=Any.a0 ⟨J,s⟩
abbrev wt:Any:=Any.a0 ⟨W,0⟩
section
variable {n:Nat}{a p op A B form:Int}{bl fr:List aq}{env st l:List aA}{rs:aa}{e:Option aE}{T:SB}{R:MB}{M:MP}{c:aB}{dd:List ax}{w:ai}{u v:aA}{o:bG}
theorem Ya:F46 n ()=Z ((eA,()),()):=rfl
theorem Xw(k:Int):F252 n (k,())=Z ((ia k,()),()):=rfl
def aaZ(b:aa):F253 n (b,())=Z ((iI b,()),()):=by cases b<;>rfl
def aga(k:Int):F253 n (af k 1,())=Z ((iI (k==1),()),()):=aaZ _
def jS(b:aa)(s:Int):F259 n (b,s,())=bif b then Z (.ok ((),()))else Z (.iN (fl s,())):=by cases b<;>rfl
def JF(b:aa):F268 n (b,())=bif b then Z (.ok ((),()))else Z (.iN (wt,())):=by cases b<;>rfl
def Dk:F301 n (v,())=Z ((lG v,()),()):=by
 unfold F301 lG;by_cases h:v.Kind=4;simp[h,aV];rfl;by_cases a:v.Kind=5;simp[a,aV];rfl
 simp_all[aV]
theorem amY(l:L bG):F172 n (l,())=Z ((l,()),()):=rfl
theorem aeK(l:L aq):F238 n (l,())=Z ((l,()),()):=rfl
theorem aeJ(l:L aA):F239 n (l,())=Z ((l,()),()):=rfl
theorem e47(l:L Int):F47 n (l,())=Z ((l,()),()):=rfl
theorem atI(l:L ec):F156 n (l,())=Z ((l,()),()):=rfl
def qE{α:Type}(a:α)(l:L α)(k:Int)(b:k=((l.length+1:Nat):Int)):cO (a::l) 1 k=l:=by subst b;simp[cO]
variable {k:Int}{g:aq}
def kr{α:Type}(l m:L α)(a:k=(l.length:Int)):cO (l++m) 0 k=l:=by subst a;simp[cO]
def ir{α:Type}(l:L α)(a d:α)(m:L α){k:Nat}(b:k=l.length):(l++a::m).getD k d=a:=by simp_all
def Jp{k:Nat}(h:k<=100000):bn .i64 ((k+(0+1):Nat):Int) 1=(k:Int):=by rw[de]<;>omega
def n8(h:st.length<=1000)(b:l.length<=1000):F251 n (tb a bl p env st rs op A B e,R,M,l,())=Z ((),tb a bl p env (st++l) rs op A B e,R,M,()):=by unfold F251 Au;simp(disch:=omega) [aV]
def nG(h:st.length<=1000):F260 n (tb a bl p env (st++[v]) rs op A B e,R,M,())=Z ((v,()),tb a bl p env st rs op A B e,R,M,()):=by unfold F260 I0;simp(disch:=first|omega|simp only[hY];omega)only[aV,Jp,ir,kr]
def um(h:st.length<=900):F255 n (tb a bl p env (st++[u,v]) rs op A B e,R,M,())=Z ((u,v,()),tb a bl p env st rs op A B e,R,M,()):=by unfold F255;rw[show st++[u,v]=(st++[u])++[v]by simp,nG (by simp;omega)];simp[aV];rw[nG (by omega)];rfl
def jx:O bG->bG×aa×U
 |some o=>(o,W,())|none=>(bD,J,())
def aaY(a:v.Kind=5->0<=v.N/\v.N<w.aQ.length):F300 n (T,mb c dd w,M,v,form,())=Z (jx (gH w v form),T,mb c dd w,M,()):=by
 unfold F300 gH cN;by_cases h:v.Kind=5
 let ⟨h1,h2⟩:=a h
 by_cases b:(w.aQ.getD v.N.toNat bD).Form=form
 simp_all[aV,jx]
 simp_all[aV,jx]
 simp_all[aV,jx]
def Ae(a:v.Kind=5->0<=v.N/\v.N<w.aQ.length):F265 n (T,mb c dd w,M,v,form,())=match gH w v form with
  |some o=>Z (.ok ((o,()),T,mb c dd w,M,()))|none=>Z (.iN (fl 2,T,mb c dd w,M,())):=by
 unfold F265;rw[aaY a];cases gH w v form<;>simp only[aV,jS,jx]
theorem Dl(h1:w.aQ.length<=1000):F254 n (T,mb c dd w,M,o,())=
  if 120<=w.aQ.length then Z (.iN (fl 4,T,mb c dd w,M,()))else Z (.ok ((wq w.aQ.length,()),T,mb c dd (gr w o),M,())):=by
 unfold F254;split;simp(disch:=omega) [aV,jS];simp(disch:=first|omega|simp only[hY];omega)only[aV,jS,gr,fK]
 grind[de,wq]
def aiw(b:0<=k)(a:k<w.aQ.length):F266 n (T,mb c dd w,M,k,o,())=Z ((),T,mb c dd (gw w k o),M,()):=by
 simp_all[F266,aV,amY,gw]
def aiA(d:0<=k)(a:k<w.aY.length)(e:0<=bu w k)(b:bu w k<w.aQ.length):F121 n (mb c dd w,M,k,o,())=Z ((),mb c dd (gw w (bu w k) o),M,()):=by
 simp_all[bu,F121,aV,amY,gw]
def amW(h1:bl.length<=1000)(h2:fr.length<=1000):F257 n (tb a bl p env st rs op A B e,R,M,fr++[g],())=
  if 40<bl.length+1+(fr.length+1)then Z (.iN (fl 4,tb a bl p env st rs op A B e,R,M,()))
  else Z (.ok ((),tb a (bl++[⟨p,env,st,rs⟩]++fr) g.At g.Env g.Stack g.dO op A B e,R,M,())):=by
 unfold F257 As Nz I1;split;simp(disch:=omega) [aV,jS,bQ];simp(disch:=first|omega|simp only[hY];omega)only[aV,jS,bQ,Jp,ir,kr,As]
def E5(hf:u.Kind=4->0<=u.N/\u.N<c.dh.length)(a:u.Kind=5->0<=u.N/\u.N<w.aQ.length)(hn:∀o,gH w u 2=Z o->o.fL.length<=1000) :
  F256 n (T,mb c dd w,M,u,v,())=match iB c w u v with
   |none=>Z ((aT,J,()),T,mb c dd w,M,())|some b=>Z ((b,W,()),T,mb c dd w,M,()):=by
 unfold F256 iB;by_cases h:u.Kind=4
 simp_all[aV]
 simp(disch:=omega) [aV,h,jY];rw[aaY a];cases d:gH w u 2 with|none=>rfl|some o=>have:=hn o d;simp(disch:=first|omega|simp[hY];omega) [aV,jx]
def Gz{l:L aq}:∀{m:L aq},m=l++[g]->kS m v=l++[l6 g v]:=by
 intro m b;subst b
 induction l with
 |nil=>rfl|cons a l c=>
  simp_all[kS]
def Qf(b:v.Kind=5->0<=v.N/\v.N<w.aQ.length)(hn:∀o,gH w v 5=Z o->o.Frames≠[]/\o.Frames.length<=1000/\∀g∈o.Frames,g.Stack.length<=1000) :
  F258 n (T,mb c dd w,M,v,u,())=match gH w v 5 with
   |none=>Z (.iN (fl 2,T,mb c dd w,M,()))|some o=>Z (.ok ((kS o.Frames u,()),T,mb c dd w,M,())):=by
 unfold F258;rw[Ae b];cases d:gH w v 5 with
 |none=>rfl|some o=>
  let ⟨h1,h2,h3⟩:=hn o d
  obtain⟨l,g,a⟩:∃l g,o.Frames=l++[g]:=⟨_,_,(Ze h1).symm⟩;have f:=h3 g (by rw[a];simp);rw[a]at h2;simp only[jR,m8]at h2;have e:∀x:aq,(l++[g]).set l.length x=l++[x]:=λx=>by simp_all
  simp only;rw[Gz a];simp(disch:=first|omega|simp only[hY];omega)only[aV,aeK,a,pK,Jp,ir,e,l6]
end
abbrev Out:=Rx (U×SB×MB×MP×U) (Any×SB×MB×MP×U)
def IQ(c:aB)(dd:L ax)(M:MP)(w:ai)(a op A B:Int)(r:tq)(y:Out):Prop:=match r with
 |.fail s=>∃T w1,y=.iN (fl s,T,mb c dd w1,M,())|.waits=>∃T w1,y=.iN (wt,T,mb c dd w1,M,())|.done v=>∃(bl:L aq)(g:aq),y=.ok ((),tb a bl g.At g.Env g.Stack g.dO op A B (Z ⟨a,0,1,lG v⟩),mb c dd (gw w (bu w a) ⟨6,1,[v],[]⟩),M,())|.go w' fr e=>∃(bl:L aq)(g:aq),fr=bl++[g]/\bl.length<=1000/\y=.ok ((),tb a bl g.At g.Env g.Stack g.dO op A B e,mb c dd w',M,())
def kQ(c:aB)(dd:L ax)(M:MP)(w:ai)(a op A B:Int)(r:tq)(f:Nat->O Out):Prop:=∃y,Ev f y/\IQ c dd M w a op A B r y
def kQ.of_eq{c:aB}{dd:L ax}{M:MP}{w:ai}{a op A B:Int}{r:tq}{f:Nat->O Out}{y:Out}(h:∀n,f n=Z y)(b:IQ c dd M w a op A B r y):kQ c dd M w a op A B r f:=⟨y,bC h,b⟩
def E0(x:O (U×SB×MB×MP×U)):O Out:=aj x λr=>Z (.ok r)
section
variable {c:aB}{dd:List ax}{M:MP}{w:ai}{left:List aq}{i:bT}{f:aq}{l:List aA}{m a:Int}
abbrev V4(a:Int)(left:L aq)(f:aq)(l:L aA)(i:bT):SB:=tb a left f.At f.Env (f.Stack++l) f.dO i.Op i.A i.B Y
structure Sx(c:aB)(dd:List ax)(w:ai)(left:List aq)(i:bT)(f:aq)(l:List aA)(m a:Int):Prop where
 cx:Cx c dd w left i f l m
 a0:0<=a
 a1:a<w.aY.length
abbrev Mt{c:aB}{dd:L ax}{w:ai}{left:L aq}{i:bT}{f:aq}{l:L aA}{m a:Int}(M:MP)(_:Sx c dd w left i f l m a)(F:Nat->SB×MB×MP×U->O Out):Prop:=kQ c dd M w a i.Op i.A i.B (l7 c w a left i f l) (λn=>F n (V4 a left f l i,mb c dd w,M,()))
def Sx.st(x:Sx c dd w left i f l m a):f.Stack.length<=60/\f.Env.length<=30:=by have:=x.cx.sl;have:=x.cx.el;have:=(x.cx.hp.dep.ok m x.cx.n0 x.cx.n1 x.cx.re);omega
variable {q:Int}{e:Option aE}
def Sx.one(x:Sx c dd w left i f l m a)(h:i.Op=q)(b:q≠18)(d:lI.getD q.toNat 0=1):∃v,l=[v]/\cC c w.aQ.length v:=by
 have:=x.cx.tl h b;rw[d]at this
 match l,this,x.cx.vals with
 |[v],_,e=>simp_all
theorem Sx.two(x:Sx c dd w left i f l m a){q:Int}(h:i.Op=q)(b:q≠18)(d:lI.getD q.toNat 0=2):∃u v,l=[u,v]/\cC c w.aQ.length u/\cC c w.aQ.length v:=by
 have:=x.cx.tl h b;rw[d]at this
 match l,this,x.cx.vals with
 |[u,v],_,e=>grind
def Sx.nil(x:Sx c dd w left i f l m a)(h:i.Op=q)(b:q≠18)(d:lI.getD q.toNat 0=0):l=[]:=by
 have:=x.cx.tl h b
 simp_all
def yw(x:Sx c dd w left i f l m a):w.aQ.length<=120:=x.cx.hw.len
theorem mB(x:Sx c dd w left i f l m a){u:aA}(b:cC c w.aQ.length u):∀o,gH w u 2=Z o->o.fL.length<=1000:=by
 intro o d
 let ⟨h1,h2,_⟩:=ez x.cx.hw b d
 cases h2 with
 |func p q r=>
  let ⟨h3,h4,h5,_⟩:=Ir x.cx.hp p
  have:=x.cx.hp.dep.ok _ h3 h4 h5
  grind
 |_=>cases h1
def Vc(x:Sx c dd w left i f l m a){b:Int}{g:aq}(hl:0<=b)(h:dB c dd w.aQ.length b g):g.Stack.length<=60/\g.Env.length<=30:=by have:=x.cx.hp.dep.ok _ h.lo h.hi h.re;have:=h.sl;have:=h.el;omega
theorem qn(x:Sx c dd w left i f l m a){u:aA}(b:cC c w.aQ.length u):∀o,gH w u 5=Z o->o.Frames≠[]/\o.Frames.length<=1000/\∀g∈o.Frames,g.Stack.length<=1000:=by
 intro o d
 let ⟨h1,h2,_⟩:=ez x.cx.hw b d
 cases h2 with|Bo p q r=>exact⟨by simp,by grind,λg e=>by have:=(Vc x (by omega) (q g e)).1;omega⟩|_=>cases h1
def jI{w':ai}{v:aA}{y:Out}(hl:left.length<=1000)(h:y=.ok ((),tb a left f.At f.Env (f.Stack++[v]) f.dO i.Op i.A i.B e,mb c dd w',M,())):IQ c dd M w a i.Op i.A i.B (fI w' left f v e) y:=
 ⟨left,l6 f v,rfl,hl,h⟩
def adE(x:Sx c dd w left i f l m a)(b:i.Op=1\/i.Op=2\/i.Op=3\/i.Op=5):Mt M x (λn s=>E0 (F173 n s)):=by
 have g:=x.st;have d:l=[]:=by obtain h|h|h|h:=b<;>exact x.nil h (by decide) rfl
 have e:=x.cx.fl;subst d;unfold Mt l7;obtain h|h|h|h:=b<;>simp only[show i.Op.toNat=_ from eC Int.toNat h,Int.reduceToNat]<;>refine .of_eq (λn=>?_) (jI (by omega) rfl)<;>unfold F173 NB E0
 simp(disch:=first|omega|simp only[hY];omega)only[aV,iP,Xw,n8]<;>rfl;simp(disch:=first|omega|simp only[hY];omega)only[aV,iP,aga,n8]<;>rfl;simp(disch:=first|omega|simp only[hY];omega)only[aV,iP,Ya,n8]<;>rfl;simp(disch:=first|omega|simp only[hY];omega)only[aV,iP,n8]<;>rfl
def apY(x:Sx c dd w left i f l m a)(h:i.Op=4):Mt M x (λn s=>E0 (F174 n s)):=by have e:=x.st;have b:=x.nil h (by decide) rfl;have d:=x.cx.fl;have h1:=x.cx.nd.2.1 h;have h2:=x.cx.io.place h;have h3:=x.cx.el;subst b;unfold Mt l7;simp[show i.Op.toNat=4 from eC Int.toNat h];exact .of_eq (λn=>by unfold F174 E0;simp(disch:=first|omega|simp only[hY];omega)only[aV,iP,n8]<;>rfl) (jI (by omega) rfl)
def adD{o:bG}{k:Nat->O (Rx ((aA×U)×SB×MB×MP×U) (Any×SB×MB×MP×U))}{T:SB}(g:Nat->(aA×U)×SB×MB×MP×U->O Out)(hl:left.length<=1000)
  (h:∀n,k n=if 120<=w.aQ.length then Z (.iN (fl 4,T,mb c dd w,M,()))else Z (.ok ((wq w.aQ.length,()),T,mb c dd (gr w o),M,())))
  (b:∀n,g n ((wq w.aQ.length,()),T,mb c dd (gr w o),M,())=Z (.ok ((),tb a left f.At f.Env (f.Stack++[wq w.aQ.length]) f.dO i.Op i.A i.B e,mb c dd (gr w o),M,()))) :
  kQ c dd M w a i.Op i.A i.B (l9 w left f o e) (λn=>aj (k n) λy=>cD y (g n) λd=>Z (Rx.iN d)):=by
 unfold l9;split;exact .of_eq (y:=.iN (fl 4,T,mb c dd w,M,())) (λn=>by rw[h,bH (by assumption)];rfl) ⟨_,_,rfl⟩;exact .of_eq (λn=>by rw[h,bS (by assumption)];exact b n) (jI hl rfl)
def apX(x:Sx c dd w left i f l m a)(h:i.Op=6):Mt M x F175:=by have g:=x.st;have b:=x.nil h (by decide) rfl;have e:=x.cx.fl;have j:=yw x;subst b;unfold Mt l7;simp[show i.Op.toNat=6 from eC Int.toNat h];refine adD (k:=λn=>_) (λn d=>_) (by omega) (λn=>Dl (by omega)) λn=>?_;simp(disch:=first|omega|simp only[hY];omega)only[aV,iP,n8]
end
section
variable {c:aB}{dd:List ax}{M:MP}{w:ai}{left fr:List aq}{i:bT}{f g:aq}{l:List aA}{m a op A B:Int}{u v:aA}
theorem aU{X R B P α:Type}(x:X)(e:X->O α)(f:Nat->X->O α)(g:B->R->O α)(h:B->P->O α):cJ (.next x) e f g h=e x:=rfl
theorem ahx{X R B P α:Type}(b:B)(q:P)(e:X->O α)(f:Nat->X->O α)(g:B->R->O α)(h:B->P->O α):cJ (.iN b q) e f g h=h b q:=rfl
theorem Tk{b:aq}(h:iB c w u v=Z b):b=⟨b.At,b.Env,[],J⟩:=by
 grind[iB]
def My(h1:left.length<=900)(h2:fr.length<=900):kQ c dd M w a op A B (jl w (left++[f]) (fr++[g]))
  (λn=>aj (F257 n (tb a left f.At f.Env f.Stack f.dO op A B Y,mb c dd w,M,fr++[g],())) λy=>cD y (λx=>Z (G x)) λx=>Z (Rx.iN x)):=by
 unfold jl;split;rename_i h;simp at h;exact .of_eq (λn=>by rw[amW (by omega) (by omega),bH (by omega)];rfl) ⟨_,_,rfl⟩;rename_i h;simp only[jR,m8]at h;exact .of_eq (y:=.ok ((),tb a (left++[f]++fr) g.At g.Env g.Stack g.dO op A B Y,mb c dd w,M,())) (λn=>by rw[amW (by omega) (by omega),bS (by omega)];rfl)
  ⟨left++[f]++fr,g,by simp,by simp;omega,rfl⟩
theorem HA(x:Sx c dd w left i f l m a)(d:cC c w.aQ.length u){o:bG}(e:gH w u 5=Z o):∃b g,kS o.Frames v=b++[g]/\b.length<=40:=by
 let ⟨h1,h2,h3⟩:=qn x d o e
 let ⟨h,j,_⟩:=ez x.cx.hw d e
 cases j with
 |Bo p q r=>
  obtain⟨b,n,s,k⟩:=qc _ _ v;refine⟨b,_,k,?_⟩
  grind
 |_=>cases h
theorem apW(x:Sx c dd w left i f l m a)(h:i.Op=7):Mt M x F176:=by
 obtain⟨u,v,rfl,d,t⟩:=x.two h (by decide) rfl;have z:=x.st;have k:=x.cx.fl;unfold Mt l7 F176;simp[show i.Op.toNat=7 from eC Int.toNat h];show kQ _ _ _ _ _ _ _ _ (od c w (left++[f]) u v J) _;unfold od;cases e:iB c w u v with
 |some b=>
  have p:=Tk e;simp only
  let ⟨y,h1,h2⟩:=My (c:=c) (dd:=dd) (M:=M) (w:=w) (left:=left) (fr:=[]) (f:=f) (g:=b) (a:=a) (op:=i.Op) (A:=i.A) (B:=i.B) (by omega) (by simp)
  rw[Ow]at h1 h2;refine⟨y,Ev.n9 (λn=>?_) h1,by grind⟩;simp(disch:=omega) [aV,um,E5 (λh=>d.code h) (λh=>d.ref h) (mB x d),e]<;>rfl
 |none=>
  cases j:gH w u 5 with
  |none=>exact .of_eq (λn=>by simp(disch:=omega)only[aV,um,E5 (λh=>d.code h) (λh=>d.ref h) (mB x d),e,Qf (λh=>d.ref h) (qn x d),j]<;>rfl) ⟨_,_,rfl⟩
  |some o=>
   let ⟨q,r,s,C⟩:=HA (v:=v) x d j
   simp only
   let ⟨y,h1,h2⟩:=My (c:=c) (dd:=dd) (M:=M) (w:=w) (left:=left) (fr:=q) (f:=f) (g:=r) (a:=a) (op:=i.Op) (A:=i.A) (B:=i.B) (by omega) (by omega)
   rw[<-s]at h1 h2;refine⟨y,Ev.n9 (λn=>?_) h1,h2⟩;simp(disch:=omega) [aV,um,E5 (λh=>d.code h) (λh=>d.ref h) (mB x d),e,Qf (λh=>d.ref h) (qn x d),j]<;>rfl
def apV(x:Sx c dd w left i f l m a)(h:i.Op=8):Mt M x F177:=by
 obtain⟨u,v,rfl,d,s⟩:=x.two h (by decide) rfl;have t:=x.st;have p:=x.cx.fl;unfold Mt l7 F177;simp[show i.Op.toNat=8 from eC Int.toNat h];show kQ _ _ _ _ _ _ _ _ (od c w left u v f.dO) _;unfold od;cases e:iB c w u v with
 |some b=>simp only;unfold jl;rw[bS (by simp;omega)];exact .of_eq (λn=>by simp(disch:=omega) [aV,um,E5 (λh=>d.code h) (λh=>d.ref h) (mB x d),e]<;>rfl) ⟨left,⟨b.At,b.Env,b.Stack,f.dO⟩,rfl,by omega,rfl⟩
 |none=>
  cases g:gH w u 5 with
  |none=>exact .of_eq (λn=>by simp(disch:=omega)only[aV,um,E5 (λh=>d.code h) (λh=>d.ref h) (mB x d),e,Qf (λh=>d.ref h) (qn x d),g]<;>rfl) ⟨_,_,rfl⟩
  |some o=>
   let ⟨q,r,j,y⟩:=HA (v:=v) x d g
   simp only;rw[j];unfold jl;split<;>rename_i k<;>simp only[jR,m8]at k;exact .of_eq (λn=>by simp(disch:=omega)only[aV,um,E5 (λh=>d.code h) (λh=>d.ref h) (mB x d),e,Qf (λh=>d.ref h) (qn x d),g,j,jS,bQ]<;>rfl) ⟨_,_,rfl⟩;exact .of_eq (λn=>by simp(disch:=first|omega|simp only[hY];omega)only[aV,um,E5 (λh=>d.code h) (λh=>d.ref h) (mB x d),e,Qf (λh=>d.ref h) (qn x d),g,j,jS,bQ,I6,Jp,ir,kr]<;>rfl)
    ⟨left++q,r,by simp,by simp;omega,rfl⟩
variable {e:Option aE}{k:Int}
def CP{g:aq}{y:Out}(hl:left.length<=1000)(h:y=.ok ((),tb a left g.At g.Env g.Stack g.dO op A B e,mb c dd w,M,())):IQ c dd M w a op A B (.go w (left++[g]) e) y:=
 ⟨left,g,rfl,hl,h⟩
def apU(x:Sx c dd w left i f l m a)(h:i.Op=9):Mt M x (λn s=>E0 (F178 n s)):=by obtain⟨v,rfl,d⟩:=x.one h (by decide) rfl;have e:=x.st;have b:=x.cx.fl;unfold Mt l7 F178 E0;simp[show i.Op.toNat=9 from eC Int.toNat h];exact .of_eq (λn=>by simp(disch:=first|omega|simp only[hY];omega)only[aV,nG,Az]<;>rfl) (CP (by omega) rfl)
def apT(x:Sx c dd w left i f l m a)(h:i.Op=10):Mt M x (λn s=>E0 (F179 n s)):=by have b:=x.nil h (by decide) rfl;have e:=x.st;have d:=x.cx.fl;have h1:=x.cx.io.drop h;have h2:=x.cx.nd.2.2.1 h;have h3:=x.cx.el;subst b;unfold Mt l7 F179 E0;simp only[show i.Op.toNat=10 from eC Int.toNat h];refine .of_eq (λn=>by simp(disch:=omega)only[aV,iP,de]<;>rfl) (CP (by omega) ?_);rw[yg,show((f.Env.length:Int)-i.A).toNat=f.Env.length-i.A.toNat by omega]
def apS(x:Sx c dd w left i f l m a)(h:i.Op=11):Mt M x (λn s=>E0 (F180 n s)):=by have b:=x.nil h (by decide) rfl;have d:=x.cx.fl;subst b;unfold Mt l7 F180 E0;simp only[show i.Op.toNat=11 from eC Int.toNat h];exact .of_eq (λn=>by simp[aV,iP]<;>rfl) (CP (by omega) rfl)
def apR(x:Sx c dd w left i f l m a)(h:i.Op=12):Mt M x F181:=by obtain⟨v,rfl,g⟩:=x.one h (by decide) rfl;have j:=x.st;have d:=x.cx.fl;unfold Mt l7 F181;simp only[show i.Op.toNat=12 from eC Int.toNat h];show kQ _ _ _ _ _ _ _ _ (if v.Kind≠2 then _ else .go w (left++[⟨if v.N=0 then _ else _,_,_,_⟩]) Y) _;by_cases e:v.Kind=2;rw[bS (by omega)];by_cases b:v.N=0;exact .of_eq (λn=>by simp(disch:=omega)only[aV,nG,jS]<;>rfl) (CP (by omega) (by rw[bH b]));exact .of_eq (λn=>by simp(disch:=omega)only[aV,nG,jS]<;>rfl) (CP (by omega) (by rw[bS b]));rw[bH e];exact .of_eq (λn=>by simp(disch:=omega)only[aV,nG,jS]<;>rfl) ⟨_,_,rfl⟩
def aeI{n:Nat}{p:Int}{bl:L aq}{env st:L aA}{b:aa}{R:MB}(h:st.length<=900):F262 n (tb a bl p env (st++[u,v]) b op A B e,R,M,())=
  if u.Kind=1/\v.Kind=1 then Z (.ok ((u.N,v.N,()),tb a bl p env st b op A B e,R,M,()))else Z (.iN (fl 2,tb a bl p env st b op A B e,R,M,())):=by
 unfold F262 TU;by_cases h1:u.Kind=1;by_cases h2:v.Kind=1
 simp_all[aV,um,jS]
 simp_all[aV,um,jS]
 simp_all[aV,um,jS]
def akA{F:Nat->O Out}(hl:left.length<=1000)(h:∀n,F n=if jh k=W then Z (.ok ((),tb a left f.At f.Env (f.Stack++[ia k]) f.dO i.Op i.A i.B Y,mb c dd w,M,()))else Z (.iN (fl 4,tb a left f.At f.Env f.Stack f.dO i.Op i.A i.B Y,mb c dd w,M,()))) :
  kQ c dd M w a i.Op i.A i.B (if jh k=W then fI w left f (ia k)else .fail 4) F:=by
 split;exact .of_eq (λn=>by rw[h,bH (by assumption)]) (jI hl rfl);exact .of_eq (λn=>by rw[h,bS (by assumption)]) ⟨_,_,rfl⟩
def yC(h:-1000000000<=k):jh k=decide (k<=1000000000):=by simp[jh,h]
def MG(h:k< -1000000000):jh k=J:=by simp[jh];omega
def ZG{x y:Int}(h1:jh x=W)(h2:jh y=W):-1000000000000000000<=x*y/\x*y<=1000000000000000000:=by
 simp[jh,eX,ri]at h1 h2;have h3:(x*y).natAbs<=1000000000*1000000000:=by rw[Int.natAbs_mul];exact OF (by omega) (by omega)
 omega
def ahi(x:Sx c dd w left i f l m a)(e:i.Op=13\/i.Op=14\/i.Op=15):Mt M x F182:=by
 obtain⟨u,v,rfl,o,p⟩:∃u v,l=[u,v]/\cC c w.aQ.length u/\cC c w.aQ.length v:=by obtain h|h|h:=e<;>exact x.two h (by decide) rfl
 have s:=x.st;have q:=x.cx.fl;have r:l7 c w a left i f [u,v]=rT w left f i.Op u v:=by unfold l7;obtain h|h|h:=e<;>simp only[show i.Op.toNat=_ from eC Int.toNat h,Int.reduceToNat]<;>rfl
 unfold Mt;rw[r];unfold rT F182;rw[bS (by omega)];by_cases g:u.Kind=1/\v.Kind=1
 .rw[bS (by omega),bS (by omega)];have j:=o.int g.1;have k:=p.int g.2;have t:=ZG j k;simp[jh,eX,ri]at j k;simp only;refine akA (by omega) λn=>?_;obtain h|h|h:=e
  all_goals
   simp only[h,kz,Int.reduceEq,jY];rw[aeI (by omega),bH g]
  by_cases b:-1000000000<=u.N+v.N;by_cases d:u.N+v.N<=1000000000;simp(disch:=first|omega|simp only[hY];omega)only[aV,h,bQ,aU,r6,jS,Xw,n8,yC b,kT d,kz];simp(disch:=omega) [aV,h,bQ,aU,r6,jS,yC b,jw d,Oy,jY];simp(disch:=omega) [aV,h,bQ,aU,r6,jS,MG (Int.not_le.1 b),Oy,jY];by_cases b:-1000000000<=u.N-v.N;by_cases d:u.N-v.N<=1000000000;simp(disch:=first|omega|simp only[hY];omega)only[aV,h,de,aU,r6,jS,Xw,n8,yC b,kT d,kz];simp(disch:=omega) [aV,h,de,aU,r6,jS,yC b,jw d,Oy,jY];simp(disch:=omega) [aV,h,de,aU,r6,jS,MG (Int.not_le.1 b),Oy,jY];by_cases b:-1000000000<=u.N*v.N;by_cases d:u.N*v.N<=1000000000;simp(disch:=first|omega|simp only[hY];omega)only[aV,h,Mr,aU,r6,jS,Xw,n8,yC b,kT d,kz];simp(disch:=omega) [aV,h,Mr,aU,r6,jS,yC b,jw d,Oy,jY];simp(disch:=omega) [aV,h,Mr,aU,r6,jS,MG (Int.not_le.1 b),Oy,jY]
 rw[bH (by omega)];exact .of_eq (λn=>by rw[aeI (by omega),bS g];rfl) ⟨_,_,rfl⟩
def apQ(x:Sx c dd w left i f l m a)(h:i.Op=16):Mt M x F183:=by obtain⟨u,v,rfl,e,g⟩:=x.two h (by decide) rfl;have j:=x.st;have d:=x.cx.fl;unfold Mt l7 F183;simp[show i.Op.toNat=16 from eC Int.toNat h];show kQ _ _ _ _ _ _ _ _ (rT w left f i.Op u v) _;unfold rT;rw[bS (by omega)];by_cases b:u.Kind=1/\v.Kind=1;rw[bS (by omega),bH h];exact .of_eq (λn=>by rw[aeI (by omega),bH b];simp(disch:=first|omega|simp only[hY];omega)only[aV,aaZ,n8]<;>rfl) (jI (by omega) rfl);rw[bH (by omega)];exact .of_eq (λn=>by rw[aeI (by omega),bS b];rfl) ⟨_,_,rfl⟩
def apP(x:Sx c dd w left i f l m a)(h:i.Op=17):Mt M x F184:=by
 obtain⟨u,v,rfl,b,g⟩:=x.two h (by decide) rfl;have j:=x.st;have d:=x.cx.fl;have e:1<=u.Kind:=by obtain h|h|h|h|h:=b<;>(have:=h.1;omega)
 unfold Mt l7 F184 I5;simp[show i.Op.toNat=17 from eC Int.toNat h];show kQ _ _ _ _ _ _ _ _ (rT w left f i.Op u v) _;unfold rT;rw[bH h];have k:iI (af u.N v.N)=iI (u.N==v.N):=rfl;by_cases o:u.Kind=v.Kind;by_cases h3:3<u.Kind;rw[bH (by omega)];exact .of_eq (λn=>by simp(disch:=omega)only[aV,um,jS]<;>rfl) ⟨_,_,rfl⟩;rw[bS (by omega)];refine .of_eq (λn=>?_) (jI (by omega) rfl);by_cases p:u.Kind=1;simp(disch:=first|omega|simp only[hY];omega)only[aV,um,jS,aaZ,n8]<;>rfl;by_cases q:u.Kind=2;simp(disch:=first|omega|simp only[hY];omega)only[aV,um,jS,aaZ,n8]<;>rfl;simp(disch:=first|omega|simp only[hY];omega)only[aV,um,jS,aaZ,n8]<;>rfl;rw[bH (by omega)];exact .of_eq (λn=>by simp(disch:=omega)only[aV,um,jS]<;>rfl) ⟨_,_,rfl⟩
def apM(x:Sx c dd w left i f l m a)(h:i.Op=20):Mt M x F187:=by unfold Mt l7 F187;simp[show i.Op.toNat=20 from eC Int.toNat h];exact .of_eq (λn=>by simp only[aV,jS]<;>rfl) ⟨_,_,rfl⟩
def apB(x:Sx c dd w left i f l m a)(h:i.Op=31):Mt M x F198:=by
 have b:=x.nil h (by decide) rfl;have d:=x.cx.fl;subst b;unfold Mt l7 F198;simp[show i.Op.toNat=31 from eC Int.toNat h]
 let ⟨y,h1,h2⟩:=My (c:=c) (dd:=dd) (M:=M) (w:=w) (left:=left) (fr:=[]) (f:=f) (g:=⟨i.A,f.Env,[],W⟩) (a:=a) (op:=i.Op) (A:=i.A) (B:=i.B) (by omega) (by simp)
 refine⟨y,Ev.n9 (λn=>?_) h1,h2⟩;simp only[V4,tb,iP]<;>rfl
def apz(x:Sx c dd w left i f l m a)(h:i.Op=33):Mt M x (λn s=>E0 (F200 n s)):=by have b:=x.nil h (by decide) rfl;have e:=x.st;have d:=x.cx.fl;subst b;unfold Mt l7 F200 E0;simp[show i.Op.toNat=33 from eC Int.toNat h];exact .of_eq (λn=>by simp(disch:=first|omega|simp only[hY];omega)only[aV,iP,Ya,n8,Dk]<;>rfl) (jI (by omega) rfl)
end
section
variable {c:aB}{dd:List ax}{M:MP}{w:ai}{left fr:List aq}{i:bT}{f g:aq}{l:List aA}{m a op A B:Int}{u v:aA}
theorem apO(x:Sx c dd w left i f l m a)(h:i.Op=18):Mt M x F185:=by
 have e:=x.st;have d:=x.cx.fl;have g:=yw x
 let ⟨h1,h2⟩:=x.cx.io.con h
 have b:=x.cx.ll;unfold cz lz at b;rw[bH h]at b;have j:=x.cx.hp.cons _ (bV br (show i.A.toNat<c.Cons.length by omega));have h3:bn .i64 ((f.Stack.length+l.length:Nat):Int) (c.Cons.getD i.A.toNat br).lE=f.Stack.length:=by rw[de]<;>omega
 have h4:cO (f.Stack++l) (f.Stack.length:Int) ((f.Stack.length+l.length:Nat):Int)=l:=by unfold cO;rw[show(((f.Stack.length+l.length:Nat):Int).toNat)=(f.Stack++l).length by grind,RW];simp
 unfold Mt l7;simp[show i.Op.toNat=18 from eC Int.toNat h];unfold l9 F185 I4 DK;split;exact .of_eq (λn=>by simp(disch:=omega)only[aV,h3,aeJ,Dl,bH (show 120<=w.aQ.length by assumption)]<;>rfl) ⟨_,_,rfl⟩;exact .of_eq (λn=>by simp(disch:=first|omega|simp only[hY];omega)only[aV,h3,h4,aeJ,Dl,bS (show ¬120<=w.aQ.length by assumption),kr,n8]<;>rfl) (jI (by omega) rfl)
def apL(x:Sx c dd w left i f l m a)(h:i.Op=21):Mt M x F188:=by obtain⟨v,rfl,d⟩:=x.one h (by decide) rfl;have e:=x.st;have b:=x.cx.fl;have g:=yw x;unfold Mt l7;simp[show i.Op.toNat=21 from eC Int.toNat h];unfold l9 F188;split;exact .of_eq (λn=>by simp(disch:=omega)only[aV,nG,Dl,bH (show 120<=w.aQ.length by assumption)]<;>rfl) ⟨_,_,rfl⟩;exact .of_eq (λn=>by simp(disch:=first|omega|simp only[hY];omega)only[aV,nG,Dl,bS (show ¬120<=w.aQ.length by assumption),n8,Dk]<;>rfl) (jI (by omega) rfl)
def apG(x:Sx c dd w left i f l m a)(h:i.Op=26):Mt M x F193:=by have b:=x.nil h (by decide) rfl;have e:=x.st;have d:=x.cx.fl;have g:=yw x;subst b;unfold Mt l7;simp[show i.Op.toNat=26 from eC Int.toNat h];unfold l9 F193;split;exact .of_eq (λn=>by simp(disch:=omega)only[aV,Dl,bH (show 120<=w.aQ.length by assumption)]<;>rfl) ⟨_,_,rfl⟩;exact .of_eq (λn=>by simp(disch:=first|omega|simp only[hY];omega)only[aV,iP,Dl,bS (show ¬120<=w.aQ.length by assumption),n8,Ya,Dk]<;>rfl) (jI (by omega) rfl)
def apK(x:Sx c dd w left i f l m a)(h:i.Op=22):Mt M x F189:=by
 obtain⟨v,rfl,b⟩:=x.one h (by decide) rfl;have g:=x.st;have e:=x.cx.fl;unfold Mt l7;simp[show i.Op.toNat=22 from eC Int.toNat h];show kQ _ _ _ _ _ _ _ _ (E4 w a left f v) _;unfold E4 F189;cases d:gH w v 3 with
 |none=>exact .of_eq (λn=>by simp(disch:=omega)only[aV,nG,Ae (λh=>b.ref h),d]<;>rfl) ⟨_,_,rfl⟩
 |some o=>
  let ⟨h3,h4,_⟩:=ez x.cx.hw b d
  have j:0<o.fL.length:=by cases h4<;>first|(cases h3;done)|simp
  exact .of_eq (λn=>by simp(disch:=first|omega|simp only[hY];omega)only[aV,nG,Ae (λh=>b.ref h),d,n8,Dk]<;>rfl) (jI (by omega) rfl)
def apJ(x:Sx c dd w left i f l m a)(h:i.Op=23):Mt M x F190:=by
 obtain⟨u,v,rfl,b,j⟩:=x.two h (by decide) rfl;have k:=x.st;have e:=x.cx.fl;unfold Mt l7;simp[show i.Op.toNat=23 from eC Int.toNat h];show kQ _ _ _ _ _ _ _ _ (jb w a left f u v) _;unfold jb F190;cases d:gH w u 3 with
 |none=>exact .of_eq (λn=>by simp(disch:=omega)only[aV,um,Ae (λh=>b.ref h),d]<;>rfl) ⟨_,_,rfl⟩
 |some o=>
  let ⟨h3,h4,h5,h6,g,_⟩:=ez x.cx.hw b d
  exact .of_eq (λn=>by simp(disch:=first|omega|simp only[hY];omega)only[aV,um,Ae (λh=>b.ref h),d,aiw h6 g,Ya,n8,Dk]<;>rfl) (jI (by omega) rfl)
def apF(x:Sx c dd w left i f l m a)(h:i.Op=27):Mt M x F194:=by
 obtain⟨u,v,rfl,b,r⟩:=x.two h (by decide) rfl;have s:=x.st;have g:=x.cx.fl;unfold Mt l7;simp[show i.Op.toNat=27 from eC Int.toNat h];show kQ _ _ _ _ _ _ _ _ (Gq w a left f u v) _;unfold Gq F194;cases d:gH w u 4 with
 |none=>exact .of_eq (λn=>by simp(disch:=omega)only[aV,um,Ae (λh=>b.ref h),d]<;>rfl) ⟨_,_,rfl⟩
 |some o=>
  let ⟨h3,h4,h5,h6,j,_⟩:=ez x.cx.hw b d
  obtain⟨e,t,y⟩:o=⟨4,0,o.fL,[]⟩/\o.fL.length<=4/\True:=by cases h4<;>first|(cases h3;done)|simp_all
  have k:o.Form=4:=h3;have p:o.N=0:=by rw[e]
  have q:o.Frames=[]:=by rw[e]
  simp only;split;exact .of_eq (λn=>by simp(disch:=omega)only[aV,um,Ae (λh=>b.ref h),d,JF]<;>rfl) ⟨_,_,rfl⟩;exact .of_eq (λn=>by simp(disch:=first|omega|simp only[hY];omega)only[aV,um,Ae (λh=>b.ref h),d,JF,k,p,q,aiw h6 j,Ya,n8,Dk]<;>rfl) (jI (by omega) rfl)
def apE(x:Sx c dd w left i f l m a)(h:i.Op=28):Mt M x F195:=by
 obtain⟨u,rfl,d⟩:=x.one h (by decide) rfl;have z:=x.st;have q:=x.cx.fl;unfold Mt l7;simp[show i.Op.toNat=28 from eC Int.toNat h];show kQ _ _ _ _ _ _ _ _ (Gc w a left f u) _;unfold Gc F195;cases e:gH w u 4 with
 |none=>exact .of_eq (λn=>by simp(disch:=omega)only[aV,nG,Ae (λh=>d.ref h),e]<;>rfl) ⟨_,_,rfl⟩
 |some o=>
  let ⟨h3,h4,h5,h6,r,_⟩:=ez x.cx.hw d e
  obtain⟨j,k,A⟩:o=⟨4,0,o.fL,[]⟩/\o.fL.length<=4/\True:=by cases h4<;>first|(cases h3;done)|simp_all
  have s:o.Form=4:=h3;have t:o.N=0:=by rw[j]
  have y:o.Frames=[]:=by rw[j]
  simp only;cases b:o.fL with|nil=>exact .of_eq (λn=>by simp(disch:=omega)only[aV,nG,Ae (λh=>d.ref h),e,JF,b]<;>rfl) ⟨_,_,rfl⟩|cons v g=>rw[b]at k;simp only[l5]at k;have p:cO (v::g) 1 (((v::g).length:Nat):Int)=g:=qE v g _ rfl;simp only[l5]at p;refine .of_eq (λn=>?_) (jI (by omega) rfl);simp(disch:=first|omega|simp only[hY];omega)only[aV,nG,Ae (λh=>d.ref h),e,JF,b,s,t,y,aiw h6 r,n8,Dk,kV];rw[p]
theorem apH(x:Sx c dd w left i f l m a)(h:i.Op=25):Mt M x F192:=by
 obtain⟨u,rfl,b⟩:=x.one h (by decide) rfl;have j:=x.st;have g:=x.cx.fl;unfold Mt l7;simp[show i.Op.toNat=25 from eC Int.toNat h];show kQ _ _ _ _ _ _ _ _ (HF w a left f u) _;unfold HF F192;cases d:gH w u 6 with
 |none=>exact .of_eq (λn=>by simp(disch:=omega)only[aV,nG,Ae (λh=>b.ref h),d]<;>rfl) ⟨_,_,rfl⟩
 |some o=>
  let ⟨h3,h4,_⟩:=ez x.cx.hw b d
  simp only;by_cases e:o.N=0;rw[bH e];exact .of_eq (λn=>by simp(disch:=omega)only[aV,nG,Ae (λh=>b.ref h),d,JF]<;>rfl) ⟨_,_,rfl⟩
  .rw[bS e];by_cases h1:o.N=1
   .rw[bS (by omega)];have k:0<o.fL.length:=by cases h4 with|done=>grind|dead p=>simp_all|se=>grind|_=>cases h3
    exact .of_eq (λn=>by simp(disch:=first|omega|simp only[hY];omega)only[aV,nG,Ae (λh=>b.ref h),d,JF,jS,n8,Dk]<;>rfl) (jI (by omega) rfl)
   rw[bH h1];exact .of_eq (λn=>by simp(disch:=omega) [aV,nG,Ae (λh=>b.ref h),d,JF,jS]<;>rfl) ⟨_,_,rfl⟩
def apD(x:Sx c dd w left i f l m a)(h:i.Op=29):Mt M x F196:=by obtain⟨v,rfl,e⟩:=x.one h (by decide) rfl;have g:=x.st;have b:=x.cx.fl;unfold Mt l7;simp[show i.Op.toNat=29 from eC Int.toNat h];show kQ _ _ _ _ _ _ _ _ (Sk w a left f i.A v) _;unfold Sk F196 xT;by_cases d:v.Kind=1;rw[bS (by omega)];split;exact .of_eq (λn=>by simp(disch:=omega)only[aV,nG,jS]<;>rfl) ⟨_,_,rfl⟩;exact .of_eq (λn=>by simp(disch:=first|omega|simp only[hY];omega)only[aV,nG,jS,Ya,n8,Dk]<;>rfl) (jI (by omega) rfl);rw[bH d];exact .of_eq (λn=>by simp(disch:=omega)only[aV,nG,jS]<;>rfl) ⟨_,_,rfl⟩
def apC(x:Sx c dd w left i f l m a)(h:i.Op=30):Mt M x F197:=by have j:=x.nil h (by decide) rfl;have q:=x.st;have o:=x.cx.fl;have e:=x.cx.hw.ins;have r:=x.cx.hw.used;subst j;unfold Mt l7;simp only[show i.Op.toNat=30 from eC Int.toNat h];unfold inS F197 I3;cases b:w.dJ with|nil=>exact .of_eq (y:=.iN (wt,V4 a left f [] i,mb c dd w,M,())) (λn=>by simp(disch:=omega)only[aV,iP,b,JF]<;>simp only[mb,b]<;>rfl) ⟨_,_,rfl⟩|cons k d=>rw[b]at e;simp only[l5]at e;have g:cO (k::d) 1 (((k::d).length:Nat):Int)=d:=qE k d _ rfl;simp only[l5]at g;have p:lG (ia k)=ia k:=rfl;simp only;split;exact .of_eq (y:=.iN (fl 4,V4 a left f [] i,mb c dd w,M,())) (λn=>by simp(disch:=omega)only[aV,iP,b,JF,jS]<;>simp only[mb,b]<;>rfl) ⟨_,_,rfl⟩;refine .of_eq (λn=>?_) (jI (by omega) rfl);simp(disch:=first|omega|simp only[hY];omega)only[aV,iP,b,JF,jS,kV,Xw,bQ];rw[g];simp(disch:=first|omega|simp only[hY];omega)only[aV,n8,Dk,p]<;>simp only[iP]<;>rfl
end
abbrev auw:=(L aA×aa×U)×SB×MB×MP×U
def Jo(T:SB)(R:MB)(M:MP):O (L aA)->auw
 |some m=>((m,W,()),T,R,M,())|none=>(([],J,()),T,R,M,())
def ai8(c:aB)(dd:L ax)(M:MP)(w:ai)(T:SB)(q:aI):Prop:=∀(v:aA),cC c w.aQ.length v->wI R263 (T,mb c dd w,M,q,v,()) (Jo T (mb c dd w) M (iA w q v))
section
variable {c:aB}{dd:List ax}{M:MP}{w:ai}{left fr:List aq}{i:bT}{f g:aq}{l:List aA}{m a op A B:Int}{u v:aA}{T:SB}
def Nb(x:aa):bR x W=x:=by cases x<;>rfl
def amS(q:aI):aI.mk q.Form q.N q.Text q.Cf=q:=by cases q;rfl
def rL{α:Type}(a:L α)(x:α)(b:L α)(d:α):(a++x::b).getD a.length d=x:=ir a x d b rfl
theorem rF:∀(q:aI)(v:aA)(m:L aA),iA w q v=Z m->m.length<=pw q
 |⟨c,n,text,parts⟩,v,m,h=>by
  unfold iA at h;unfold pw;by_cases h1:c=1
  simp_all
  rw[bS h1]at h;by_cases h2:c=2
  grind
  rw[bS h2]at h;by_cases h3:c=3
  simp_all
  rw[bS h3]at h;by_cases h4:c=4
  simp_all
  rw[bS h4]at h;by_cases h5:c=5
  simp_all
  rw[bS h5]at h;split at h;cases h;split at h;cases h;have:=lens parts _ m h;omega
where
 lens:∀(d:L aI)(e:L aA)(m:L aA),fO w d e=Z m->m.length<=o9 d
 |[],e,m,h=>by unfold fO at h;cases h;simp
 |q::d,[],m,h=>by unfold fO at h;cases h;simp
 |q::d,v::e,m,h=>by
  unfold fO at h;unfold o9;split at h;cases h;rename_i l f;split at h;cases h;rename_i g i;cases h;have a:=rF q v l f;have b:=lens d e g i
  grind
theorem N8{P:Type}(d:Nat):∀(qs:L aI)(vs:L aA)(pre:L aI)(b:L aA)(l:L aA),qs.length=vs.length->pre.length=b.length->pre.length+qs.length<=1000->
  (∀q∈qs,ai8 c dd M w T q)->(∀v∈vs,cC c w.aQ.length v)->l.length+o9 qs<=1000->
  ∀(F:Nat->L aA×Int×SB×MB×MP×U->O (LO (L aA×Int×SB×MB×MP×U) (L aA×aa×U) (SB×MB×MP×U) P)),
  (∀n e,F n e=ak (aG e.2.1 (au (pre++qs))) (aS (aM e.2.1 (pre++qs)) (aS (aM e.2.1 (b++vs)) (aj (R263 n (n-d) (e.2.2.1,e.2.2.2.1,e.2.2.2.2.1,aI.mk (@bE aI (pre++qs) (aC e.2.1) aR).1 (@bE aI (pre++qs) (aC e.2.1) aR).2 (@bE aI (pre++qs) (aC e.2.1) aR).3 (@bE aI (pre++qs) (aC e.2.1) aR).4,@bE aA (b++vs) (aC e.2.1) bA,())) λg=>ak (av g.1.2.1) (Z (X g.2 ([],J,())))
   (aS (dI e.1 g.1.1) (Z (N (dx e.1 g.1.1,aJ .i64 e.2.1 1,g.2))))))) (Z (H 0 e)))->
  fu F (l,(pre.length:Int),T,mb c dd w,M,()) (match fO w qs vs with
   |some m=>.out 0 (l++m,((pre++qs).length:Int),T,mb c dd w,M,())|none=>.ret (T,mb c dd w,M,()) ([],J,()))
 |[],[],pre,b,l,_,_,k,_,_,_,F,f=>by unfold fO;refine .out (bC λn=>?_);rw[f];simp(disch:=omega)only[aV,iP]<;>rfl
 |q::qs,v::vs,pre,b,l,t,C,k,o,p,u,F,f=>by
  unfold o9 at u;simp only[l5]at k;have h1:=o q eN v (p v eN);have r:(pre++q::qs).getD pre.length aR=q:=rL ..;have s:(b++v::vs).getD pre.length bA=v:=by simp_all
  unfold fO;cases i:iA w q v with
  |none=>rw[i]at h1;refine .ret ?_;obtain⟨a,h1⟩:=h1 d;refine⟨a,λn j=>?_⟩;have:=h1 n j;simp only at this;show F n _=_;rw[f];simp(disch:=first|omega|simp only[hY];omega)only[aV,r,s,amS];exact(eC (λx=>aj x _) this).trans rfl
  |some m=>
   rw[i]at h1;have z:=rF q v m i;have h2:=N8 (P:=P) d qs vs (pre++[q]) (b++[v]) (l++m) (by simpa using t) (by simp;omega) (by simp;omega) (λA h=>o A (ie _ h)) (λB h=>p B (ie _ h))
    (by simp;omega) F (λn e=>by rw[f];simp only[wv,Mg]<;>rfl)
   refine(.next (y:=(l++m,((pre++[q]).length:Int),T,mb c dd w,M,())) ?_ ?_)
   .obtain ⟨a,h1⟩:=h1 d;refine⟨a,λn j=>?_⟩;have:=h1 n j;simp only at this;show F n _=_;rw[f];simp(disch:=first|omega|simp only[hY];omega)only[aV,r,s,amS,bQ,fK,fM];refine(eC (λx=>aj x _) this).trans ?_;show TL.aS (dI l m) (Z (N (l++m,(pre.length:Int)+1,T,mb c dd w,M,())))=_;rw[BM (by omega)];simp<;>rfl
   grind
theorem mT(n k:Nat):R263 n (k+1)=B263 n (R263 n k):=rfl
theorem aka:∀(q:aI),pw q<=1000->tW c.Cons q->∀(k:jr c dd w),ai8 c dd M w T q
 |⟨a,n0,text,parts⟩,p,l,k=>by
  intro v m;unfold pw at p;unfold iA;by_cases h1:a=1;refine wI.step mT λd=>bC λn=>?_;unfold B263 xZ;simp only[aV,h1,kz,Jo]<;>rfl;rw[bS h1];by_cases h2:a=2;refine wI.step mT λd=>bC λn=>?_;unfold B263 xZ;simp(disch:=omega)only[aV,h2,kz,Jo]<;>rfl;rw[bS h2];have cmp:∀u:aA,(if FW v u=W then Z ([]:L aA)else Y)=Y/\bR (af v.Kind u.Kind) (bR (af v.N u.N) W)=J\/(if FW v u=W then Z ([]:L aA)else Y)=Z []/\bR (af v.Kind u.Kind) (bR (af v.N u.N) W)=W:=by
   intro u;have:bR (af v.Kind u.Kind) (bR (af v.N u.N) W)=FW v u:=by rw[Nb];rfl
   rw[this];cases FW v u<;>simp
  by_cases h3:a=3;rw[bH h3];refine wI.step mT λd=>bC λn=>?_;unfold B263 DR xZ;obtain⟨f,i⟩|⟨f,i⟩:=cmp (ia n0)<;>rw[f]<;>simp(disch:=omega)only[aV,h3,Xw,i,Jo]<;>rfl
  rw[bS h3];by_cases h4:a=4;rw[bH h4];refine wI.step mT λd=>bC λn=>?_;unfold B263 DR xZ;obtain⟨f,i⟩|⟨f,i⟩:=cmp (iI (n0==1))<;>rw[f]<;>simp(disch:=omega)only[aV,h4,aga,i,Jo]<;>rfl
  rw[bS h4];by_cases h5:a=5;rw[bH h5];refine wI.step mT λd=>bC λn=>?_;unfold B263 DR xZ;obtain⟨f,i⟩|⟨f,i⟩:=cmp eA<;>rw[f]<;>simp(disch:=omega)only[aV,h5,Ya,i,Jo]<;>rfl
  rw[bS h5];unfold tW at l;obtain⟨I,z,K⟩:(parts.length:Int)=(c.Cons.getD n0.toNat br).lE/\nV c.Cons parts/\True:=by obtain h|h|h|h:=l<;>first|exact⟨h.2.2.2.2.1,h.2.2.2.2.2,trivial⟩|(exfalso;have:=h.2.1;omega)
  cases j:gH w v 1 with
  |none=>refine wI.step mT λd=>bC λn=>?_;unfold B263;simp(disch:=omega)only[aV,aaY m.ref,j,jx,Jo]<;>rfl|some o=>
   dsimp only;obtain⟨r,x,_⟩:=ez k m j;by_cases y:o.N≠n0;rw[bH (.inl y)];refine wI.step mT λd=>bC λn=>?_;unfold B263;simp(disch:=omega)only[aV,aaY m.ref,j,jx,Jo]<;>rfl
   .have s:(o.fL.length:Int)=lz c o.N:=by cases x<;>first|(cases r;done)|assumption
    have s:o.fL.length=parts.length:=by rw[Decidable.not_not.1 y]at s;unfold lz at s;omega
    rw[bS (by omega)];have t:=x.vals;have A:parts.length<=o9 parts:=Bl parts;refine wI.step mT λd=>?_;have B:=N8 (c:=c) (dd:=dd) (M:=M) (w:=w) (T:=T) (P:=Any) d parts o.fL [] [] [] (by omega) rfl (by grind)
      (λq C=>afw parts (by omega) z k q C) t (by grind) _ (λn e=>rfl)
    have hB:∀n,B263 n (R263 n (n-d)) (T,mb c dd w,M,⟨a,n0,text,parts⟩,v,())=aj (iter (λe=>ak (aG e.2.1 (au parts)) (aS (aM e.2.1 parts) (aS (aM e.2.1 o.fL) (aj (R263 n (n-d) (e.2.2.1,e.2.2.2.1,e.2.2.2.2.1,aI.mk (@bE aI parts (aC e.2.1) aR).1 (@bE aI parts (aC e.2.1) aR).2 (@bE aI parts (aC e.2.1) aR).3 (@bE aI parts (aC e.2.1) aR).4,@bE aA o.fL (aC e.2.1) bA,())) λg=>ak (av g.1.2.1) (Z (X g.2 ([],J,())))
   (aS (dI e.1 g.1.1) (Z (N (dx e.1 g.1.1,aJ .i64 e.2.1 1,g.2))))))) (Z (H 0 e))) n ([],0,T,mb c dd w,M,())) λe=>bU e (λ_ h=>Z ((h.1,W,()),h.2.2)) (λg h=>Z (h,g)) λ_(_:Any)=>Y:=by intro n;unfold B263 Ja;simp(disch:=omega)only[aV,aaY m.ref,j,jx]<;>rfl
    refine Ev.n9 hB (Ev.bp B (λn e=>_) _ ?_);cases fO w parts o.fL<;>exact dg
where
 Bl:∀b:L aI,b.length<=o9 b
 |[]=>GH _|⟨_,_,_,_⟩::b=>by unfold o9 pw;have:=Bl b;grind
 afw:∀(b:L aI),o9 b<=1000->nV c.Cons b->∀(k:jr c dd w),∀q∈b,ai8 c dd M w T q
 |[],_,_,_,_,h=>by cases h
 |q::b,E,j,k,F,h=>by
  unfold o9 at E;unfold nV at j;obtain h|h:=gn.1 h
  rw[h];exact aka q (by omega) j.1 k;exact afw b (by omega) j.2 k F h
def atv(x:Sx c dd w left i f l m a)(h:i.Op=19)(b:cC c w.aQ.length v):Ev (λn=>F263 n (T,mb c dd w,M,jd c i.A,v,())) (Jo T (mb c dd w) M (iA w (jd c i.A) v)):=by have h1:=x.cx.io.BN h;obtain⟨h2,h3⟩:=x.cx.hp.pats _ (bV aR (show i.A.toNat<c.ey.length by omega));exact aka _ (by omega) h2 x.cx.hw v b 0
def apN(x:Sx c dd w left i f l m a)(h:i.Op=19):Mt M x (λn s=>E0 (F186 n s)):=by
 obtain⟨v,rfl,p⟩:=x.one h (by decide) rfl;have t:=x.st;have q:=x.cx.fl;have h1:=x.cx.io.BN h;have h2:=(x.cx.hp.pats _ (bV aR (show i.A.toNat<c.ey.length by omega))).2;unfold Mt l7 F186 E0;simp only[show i.Op.toNat=19 from eC Int.toNat h];show kQ _ _ _ _ _ _ _ _ (match iA w (jd c i.A) v with|some b=>_|none=>.go w (left++[⟨_,_,f.Stack++[v],_⟩]) Y) _;have j:=atv (M:=M) (T:=V4 a left f [v] i) x h p;have k:@bE aA (f.Stack++[v]) f.Stack.length bA=v:=ir _ _ _ _ rfl;obtain⟨d,j⟩:=j;have e:∀n,d<=n->F263 n (V4 a left f [v] i,mb c dd w,M,jd c i.A,@bE aA (f.Stack++[v]) f.Stack.length bA,())=Z (Jo (V4 a left f [v] i) (mb c dd w) M (iA w (jd c i.A) v)):=λn g=>by rw[k];exact j n g
 cases o:iA w (jd c i.A) v with|none=>rw[o]at e;refine⟨.ok ((),tb a left i.B f.Env (f.Stack++[v]) f.dO i.Op i.A i.B Y,mb c dd w,M,()),⟨d,λn g=>?_⟩,left,⟨i.B,f.Env,f.Stack++[v],f.dO⟩,rfl,by omega,rfl⟩;simp(disch:=first|omega|simp only[hY];omega)only[aV,Jp,ir];exact(eC (λx=>aj (aj x _) _) (e n g)).trans rfl|some b=>rw[o]at e;have r:=rF _ _ _ o;unfold jd at r;refine⟨.ok ((),tb a left f.At (f.Env++b) f.Stack f.dO i.Op i.A i.B Y,mb c dd w,M,()),⟨d,λn g=>?_⟩,left,⟨f.At,f.Env++b,f.Stack,f.dO⟩,rfl,by omega,rfl⟩;simp(disch:=first|omega|simp only[hY];omega)only[aV,Jp,ir];refine(eC (λx=>aj (aj x _) _) (e n g)).trans ?_;show aj (aj (F260 n (tb a left f.At f.Env (f.Stack++[v]) f.dO i.Op i.A i.B Y,mb c dd w,M,())) _) _=_;refine(eC (λx=>aj (aj x _) _) (nG (by omega))).trans ?_;show aj (TL.aS (eF 0 (au f.Env) (au f.Env)) (TL.aS (dI (cO f.Env 0 (au f.Env)) b) (Z ((),((),a,left,f.At,dx (cO f.Env 0 (au f.Env)) b,f.Stack,f.dO,i.Op,i.A,i.B,Y,()),mb c dd w,M,())))) _=_;rw[show cO f.Env 0 (au f.Env)=f.Env from Oa _,Vu (zd 0) (show 0<=au f.Env from Int.natCast_nonneg _) (zd _),BM (by omega)];rfl
end
section
variable {c:aB}{dd:List ax}{M:MP}{w:ai}{left fr:List aq}{i:bT}{f g:aq}{l:List aA}{m a op A B:Int}{u v:aA}{T:SB}
def apI(x:Sx c dd w left i f l m a)(h:i.Op=24):Mt M x F191:=by
 obtain⟨u,rfl,d⟩:=x.one h (by decide) rfl;have p:=x.st;have k:=x.cx.fl;have q:=yw x;have r:=x.cx.hw.tl;have j:lG eA=eA:=rfl;unfold Mt l7;simp[show i.Op.toNat=24 from eC Int.toNat h];show kQ _ _ _ _ _ _ _ _ (zK c w a left f u) _;unfold zK F191 Ay;simp only;cases e:iB c w u eA with
 |some b=>simp only;split;exact .of_eq (λn=>by simp(disch:=omega)only[aV,nG,Ya,E5 (λh=>d.code h) (λh=>d.ref h) (mB x d),e,aU,Dl,bH (show 120<=w.aQ.length by assumption)]<;>rfl) ⟨_,_,rfl⟩;exact .of_eq (λn=>by simp(disch:=first|omega|simp only[hY];omega)only[aV,nG,Ya,E5 (λh=>d.code h) (λh=>d.ref h) (mB x d),e,aU,Dl,bS (show ¬120<=w.aQ.length by assumption),gr,n8,Dk,j]<;>rfl) (jI (by omega) rfl)
 |none=>
  cases g:gH w u 5 with|none=>exact .of_eq (λn=>by simp(disch:=omega)only[aV,nG,Ya,E5 (λh=>d.code h) (λh=>d.ref h) (mB x d),e,Qf (λh=>d.ref h) (qn x d),g,ahx]<;>rfl) ⟨_,_,rfl⟩|some o=>simp only;split;exact .of_eq (λn=>by simp(disch:=omega)only[aV,nG,Ya,E5 (λh=>d.code h) (λh=>d.ref h) (mB x d),e,Qf (λh=>d.ref h) (qn x d),g,aU,Dl,bH (show 120<=w.aQ.length by assumption)]<;>rfl) ⟨_,_,rfl⟩;exact .of_eq (λn=>by simp(disch:=first|omega|simp only[hY];omega)only[aV,nG,Ya,E5 (λh=>d.code h) (λh=>d.ref h) (mB x d),e,Qf (λh=>d.ref h) (qn x d),g,aU,Dl,bS (show ¬120<=w.aQ.length by assumption),gr,n8,Dk,j]<;>rfl) (jI (by omega) rfl)
def qm{α:Type}{q:α->aa}:∀{l:L α},(∀j(h:j<l.length),q l[j]=J)->j9 q l=Y
 |[],_=>rfl|a::l,h=>by
  unfold j9;rw[qm λj b=>h (j+1) (by simpa using b)];have:=h 0 (by simp)
  simp_all
def u5{α:Type}{q:α->aa}:∀{l:L α}{m:Nat}(c:m<l.length),q l[m]=W->(∀j(h:j<l.length),m<j->q l[j]=J)->j9 q l=Z m
 |a::l,0,_,h1,h=>by
  unfold j9;rw[qm λj b=>h (j+1) (by simpa using b) (by omega)]
  simp_all
 |a::l,m+1,c,h1,h=>by unfold j9;rw[u5 (l:=l) (m:=m) (by simpa using c) (by simpa using h1) λj b d=>h (j+1) (by simpa using b) (by omega)]
theorem Gl{a:L aq}(hl:a.length<=40){R B P:Type}{F:Nat->Int×Int×U->O (LO (Int×Int×U) R B P)}
  (g:∀n c,F n c=ak (bB 0 c.2.1) (aS (aM c.2.1 a) (aS (ei (aC c.2.1) a) (ak (bE a (aC c.2.1) aT).4 (Z (.out 0 (c.2.1,c.2))) (Z (.next (c.1,bn .i64 c.2.1 1,())))))) (Z (.out 0 c))) :
  ∀m:Nat,m<=a.length->(∀j(h:j<a.length),m<=j->a[j].dO=J)->
  fu F (-1,(m:Int)-1,()) (.out 0 (match j9 (λf:aq=>f.dO) a with|some k=>((k:Int),(k:Int),())|none=>(-1,-1,())))
 |0,_,h=>by rw[qm λj d=>h j d (GH _)];exact .out (bC λn=>by simp_all[aV])
 |m+1,o,h=>by
  have e:a.getD m aT=a[m]:=by grind
  have b:((m+1:Nat):Int)-1=(m:Int):=by omega
  cases i:a[m].dO with
  |true=>rw[u5 (m:=m) (by omega) i λj d l=>h j d (by omega)];refine .out (bC λn=>?_);rw[g,b];simp(disch:=omega) [aV,e,i]<;>rfl
  |false=>
   refine .next (y:=(-1,(m:Int)-1,())) (bC λn=>?_) (Gl hl g m (by omega) λj d l=>?_)
   rw[g,b];simp(disch:=omega) [aV,e,i,de]<;>rfl
   grind
theorem apA(x:Sx c dd w left i f l m a)(h:i.Op=32):Mt M x F199:=by
 have z:=x.nil h (by decide) rfl;have g:=x.st;have A:=x.cx.fl;have S:=yw x;subst z;have C:pM (V4 a left f [] i,mb c dd w,M,())=left++[f]:=by unfold pM DH;simp only[aV,iP]<;>rfl
 have e0:bn .i64 (au (left++[f])) 1=(((left++[f]).length:Nat):Int)-1:=by
  grind[de,au]
 have h1:dI left (DH (V4 a left f [] i,mb c dd w,M,()))=W:=HZ.2 (by grind[DH,List.length_singleton]);have o:(left++[f]).length<=40:=by simp;omega
 unfold Mt l7;simp only[show i.Op.toNat=32 from eC Int.toNat h];unfold CA F199;simp only[C,e0];have g:=λ(R B P:Type)=>@Gl (left++[f]) o R B P _ (λn c=>rfl) (left++[f]).length (eP _) (λj hj E=>by omega);have p:∀(k:Int×Int×U)(b:Nat->Int×Int×U->O Out)(r:tq),(∃y,Ev (λn=>b n k) y/\IQ c dd M w a i.Op i.A i.B r y)->∀(R B P:Type)(F:Nat->Int×Int×U->O (LO (Int×Int×U) R B P))(u:Nat->B->R->O Out)(v:Nat->B->P->O Out)(x:Int×Int×U),
   fu F x (.out 0 k)->kQ c dd M w a i.Op i.A i.B r (λn=>aj (iter (F n) n x) λc=>bU c (λ_ e=>b n e) (u n) (v n)):=by
  intro k b r ⟨y,h1,h2⟩ R B P F u v x I;exact⟨y,Ev.bp I _ _ h1,h2⟩
 have d:∀{r:tq}{F:Nat->O Out},kQ c dd M w a i.Op i.A i.B r F->kQ c dd M w a i.Op i.A i.B r (λn=>TL.aS (oe (eF 0 (au left) (au left)) (fZ (au left) (au left))) (TL.aS (dI (cO left 0 (au left)) (DH (V4 a left f [] i,mb c dd w,M,()))) (F n))):=by
  simp_all[Ev.n9,aV]
 refine d ?_;cases q:j9 (λf:aq=>f.dO) (left++[f])with
 |none=>simp only[q]at g;refine p _ _ (.fail 3) ?_ _ _ _ _ _ _ _ (g _ _ _);exact⟨_,bC λn=>by simp(disch:=omega)only[aV,jS]<;>rfl,_,_,rfl⟩
 |some k=>
  obtain⟨s,_⟩:=u6 q;simp only[q]at g;refine p _ (λn e=>_) _ ?_ _ _ _ _ _ _ _ (g _ _ _);simp only;have t:cO (left++[f]) (k:Int) (((left++[f]).length:Nat):Int)=(left++[f]).drop k:=by rw[Cw];rfl
  have K:cO (left++[f]) 0 (k:Int)=(left++[f]).take k:=by rfl
  simp only[jR,m8]at s t;split;exact⟨_,bC λn=>by simp(disch:=omega)only[aV,jS,t,aeK,Dl,bH (show 120<=w.aQ.length by assumption)]<;>rfl,_,_,rfl⟩;exact⟨_,bC λn=>by simp(disch:=first|omega|simp only[hY];omega)only[aV,jS,t,K,aeK,Dl,bS (show ¬120<=w.aQ.length by assumption),Ax]<;>rfl,(left++[f]).take k,⟨i.A,f.Env++[wq w.aQ.length],[],W⟩,rfl,by grind,rfl⟩
def apy(x:Sx c dd w left i f l m a)(h:i.Op=34):Mt M x (λn s=>E0 (F201 n s)):=by
 obtain⟨v,rfl,e⟩:=x.one h (by decide) rfl;have j:=x.st;have d:=x.cx.fl;have b:=x.cx.left;have a0:=x.a0;have a1:=x.a1
 let ⟨t1,t2,t3⟩:=x.cx.hw.task _ (bV 0 (show a.toNat<w.aY.length by omega))
 unfold Mt l7 E0;simp[show i.Op.toNat=34 from eC Int.toNat h];unfold F201 Aw;obtain rfl|⟨k,g,rfl⟩:=UD left
 exact .of_eq (y:=.ok ((),tb a [] f.At f.Env f.Stack f.dO i.Op i.A i.B (Z ⟨a,0,1,lG v⟩),mb c dd (gw w (bu w a) ⟨6,1,[v],[]⟩),M,())) (λn=>by simp(disch:=omega) [aV,nG,de,Dk,aiA a0 a1 t1 t2]<;>rfl) ⟨[],f,rfl⟩;rw[UC]at *
 have o:=(Vc x (by omega) (b g (by simp))).1;simp at d;rw[Gy];exact .of_eq (λn=>by simp(disch:=first|omega|simp only[hY];omega)only[aV,nG,Jp,I2,Aw,ir,kr,n8]<;>rfl) (CP (g:=l6 g v) (by omega) rfl)
end
section
variable {c:aB}{dd:List ax}{M:MP}{w w':ai}{left fr:List aq}{i:bT}{f g:aq}{l:List aA}{m a op A B:Int}{u v:aA}{T:SB}
abbrev SX:=SB×MB×MP×U
noncomputable def opF(k:Nat)(n:Nat)(x:SX):O Out:=
 match k with
 |1|2|3|5=>E0 (F173 n x)|4=>E0 (F174 n x)|6=>F175 n x|7=>F176 n x|8=>F177 n x|9=>E0 (F178 n x)|10=>E0 (F179 n x)|11=>E0 (F180 n x)|12=>F181 n x|13|14|15=>F182 n x|16=>F183 n x|17=>F184 n x|18=>F185 n x|19=>E0 (F186 n x)|20=>F187 n x|21=>F188 n x|22=>F189 n x|23=>F190 n x|24=>F191 n x|25=>F192 n x|26=>F193 n x|27=>F194 n x|28=>F195 n x|29=>F196 n x|30=>F197 n x|31=>F198 n x|32=>F199 n x|33=>E0 (F200 n x)|34=>E0 (F201 n x)|_=>Y
def WJ(x:Sx c dd w left i f l m a):kQ c dd M w a i.Op i.A i.B (l7 c w a left i f l) (λn=>opF i.Op.toNat n (V4 a left f l i,mb c dd w,M,())):=by
 have h1:=x.cx.io.lo;have h2:=x.cx.io.hi;obtain⟨k,e⟩:∃k:Nat,i.Op=k:=⟨_,(zR (by omega)).symm⟩;have b:1<=k:=by omega
 have d:k<=34:=by omega
 rw[show i.Op.toNat=k by omega]
 match k,e,b,d with
 |1,h,_,_=>exact adE x (.inl h)|2,h,_,_=>exact adE x (.inr (.inl h))|3,h,_,_=>exact adE x (.inr (.inr (.inl h)))|4,h,_,_=>exact apY x h|5,h,_,_=>exact adE x (.inr (.inr (.inr h)))|6,h,_,_=>exact apX x h|7,h,_,_=>exact apW x h|8,h,_,_=>exact apV x h|9,h,_,_=>exact apU x h|10,h,_,_=>exact apT x h|11,h,_,_=>exact apS x h|12,h,_,_=>exact apR x h|13,h,_,_=>exact ahi x (.inl h)|14,h,_,_=>exact ahi x (.inr (.inl h))|15,h,_,_=>exact ahi x (.inr (.inr h))|16,h,_,_=>exact apQ x h|17,h,_,_=>exact apP x h|18,h,_,_=>exact apO x h|19,h,_,_=>exact apN x h|20,h,_,_=>exact apM x h|21,h,_,_=>exact apL x h|22,h,_,_=>exact apK x h|23,h,_,_=>exact apJ x h|24,h,_,_=>exact apI x h|25,h,_,_=>exact apH x h|26,h,_,_=>exact apG x h|27,h,_,_=>exact apF x h|28,h,_,_=>exact apE x h|29,h,_,_=>exact apD x h|30,h,_,_=>exact apC x h|31,h,_,_=>exact apB x h|32,h,_,_=>exact apA x h|33,h,_,_=>exact apz x h|34,h,_,_=>exact apy x h|k+35,h,_,g=>omega
def JZ(c:aB)(dd:L ax)(M:MP)(w:ai):O (ai×O aE)->(fY×U)×MB×MP×U
 |none=>((fY.a0 ⟨⟩,()),mb c dd w,M,())|some (w',Y)=>((fY.a2 ⟨⟩,()),mb c dd w',M,())|some (w',Z e)=>((fY.a1 ⟨e⟩,()),mb c dd w',M,())
def apu{n:Nat}{x:O (U×SB×MB×MP×U)}{α:Type}(p:U×SB×MB×MP×U->O α)(q:Any×SB×MB×MP×U->O α):aj (E0 x) (λc=>cD c p q)=aj x p:=by cases x<;>rfl
variable {n:Nat}
def choose{α:Type}{k:Nat}(h1:1<=k)(h2:k<=34)(x:SX)(p:U×SB×MB×MP×U->O α)(q:Any×SB×MB×MP×U->O α) :
 (ak (fZ (k:Int) 0) Y (ak (fZ (k:Int) 1) (aj (F173 n x) p) (ak (fZ (k:Int) 2) (aj (F173 n x) p) (ak (fZ (k:Int) 3) (aj (F173 n x) p) (ak (fZ (k:Int) 4) (aj (F174 n x) p) (ak (fZ (k:Int) 5) (aj (F173 n x) p) (ak (fZ (k:Int) 6) (aj (F175 n x) λc=>cD c p q) (ak (fZ (k:Int) 7) (aj (F176 n x) λc=>cD c p q) (ak (fZ (k:Int) 8) (aj (F177 n x) λc=>cD c p q) (ak (fZ (k:Int) 9) (aj (F178 n x) p) (ak (fZ (k:Int) 10) (aj (F179 n x) p) (ak (fZ (k:Int) 11) (aj (F180 n x) p) (ak (fZ (k:Int) 12) (aj (F181 n x) λc=>cD c p q) (ak (fZ (k:Int) 13) (aj (F182 n x) λc=>cD c p q) (ak (fZ (k:Int) 14) (aj (F182 n x) λc=>cD c p q) (ak (fZ (k:Int) 15) (aj (F182 n x) λc=>cD c p q) (ak (fZ (k:Int) 16) (aj (F183 n x) λc=>cD c p q) (ak (fZ (k:Int) 17) (aj (F184 n x) λc=>cD c p q) (ak (fZ (k:Int) 18) (aj (F185 n x) λc=>cD c p q) (ak (fZ (k:Int) 19) (aj (F186 n x) p) (ak (fZ (k:Int) 20) (aj (F187 n x) λc=>cD c p q) (ak (fZ (k:Int) 21) (aj (F188 n x) λc=>cD c p q) (ak (fZ (k:Int) 22) (aj (F189 n x) λc=>cD c p q) (ak (fZ (k:Int) 23) (aj (F190 n x) λc=>cD c p q) (ak (fZ (k:Int) 24) (aj (F191 n x) λc=>cD c p q) (ak (fZ (k:Int) 25) (aj (F192 n x) λc=>cD c p q) (ak (fZ (k:Int) 26) (aj (F193 n x) λc=>cD c p q) (ak (fZ (k:Int) 27) (aj (F194 n x) λc=>cD c p q) (ak (fZ (k:Int) 28) (aj (F195 n x) λc=>cD c p q) (ak (fZ (k:Int) 29) (aj (F196 n x) λc=>cD c p q) (ak (fZ (k:Int) 30) (aj (F197 n x) λc=>cD c p q) (ak (fZ (k:Int) 31) (aj (F198 n x) λc=>cD c p q) (ak (fZ (k:Int) 32) (aj (F199 n x) λc=>cD c p q) (ak (fZ (k:Int) 33) (aj (F200 n x) p) (ak (fZ (k:Int) 34) (aj (F201 n x) p) (aS J Y))))))))))))))))))))))))))))))))))))=
 aj (opF k n x) λc=>cD c p q:=by
 match k,h1,h2 with
 |1,_,_|2,_,_|3,_,_|4,_,_|5,_,_|9,_,_|10,_,_|19,_,_|33,_,_|34,_,_=>exact(apu (n:=n) p q).symm|11,_,_=>rfl|6,_,_|7,_,_|8,_,_|12,_,_|13,_,_|14,_,_|15,_,_|16,_,_|17,_,_|18,_,_|20,_,_|21,_,_|22,_,_|23,_,_|24,_,_|25,_,_|26,_,_|27,_,_|28,_,_|29,_,_|30,_,_|31,_,_|32,_,_=>rfl|k+35,_,h=>omega
end
section
variable {n:Nat}{c:aB}{dd:List ax}{M:MP}{w w':ai}{bl:List aq}{f g:aq}{a op A B s:Int}{u v:aA}{T:SB}{e:Option aE}{R:MB}
def atm:O aE->fY
 |none=>fY.a2 ⟨⟩|some e=>fY.a1 ⟨e⟩
def aip(d:0<=a)(h1:a<w'.aY.length)(t1:0<=bu w' a)(t2:bu w' a<w'.aQ.length)(f:(cN w' (bu w' a)).N=0)(hl:bl.length<=1000) :
  gS n (R,M,a,()) ((),tb a bl g.At g.Env g.Stack g.dO op A B e,mb c dd w',M,())=Z ((atm e,()),mb c dd (gw w' (bu w' a) ⟨6,0,[],bl++[g]⟩),M,()):=by
 have b:=λo=>aiA (n:=n) (c:=c) (dd:=dd) (M:=M) (o:=o) d h1 t1 t2;unfold bu cN at *
 unfold gS abZ;cases e<;>simp(disch:=first|omega|simp only[hY];omega)only[aV,b,f,aU,AS,E4]<;>rfl
def aaM(b:0<=a)(h1:a<w'.aY.length)(t1:0<=bu w' a)(t2:bu w' a<w'.aQ.length)(d:(cN w' (bu w' a)).N≠0){e:aE} :
  gS n (R,M,a,()) ((),tb a bl g.At g.Env g.Stack g.dO op A B (Z e),mb c dd w',M,())=Z ((fY.a1 ⟨e⟩,()),mb c dd w',M,()):=by
 unfold bu cN at *
 unfold gS;simp(disch:=omega)only[aV,aU,AS]<;>rfl
def aaL(d:0<=a)(h1:a<w.aY.length)(t1:0<=bu w a)(t2:bu w a<w.aQ.length):ki n (mb c dd w,M,a,()) (fl s,T,mb c dd w',M,())=Z ((fY.a1 ⟨⟨a,0,s,bA⟩⟩,()),mb c dd (gw w (bu w a) ⟨6,s,[],[]⟩),M,()):=by have b:=λo=>aiA (n:=n) (c:=c) (dd:=dd) (M:=M) (o:=o) d h1 t1 t2;show aj (F121 n (mb c dd w,M,a,⟨6,s,[],[]⟩,())) (λh=>Z ((fY.a1 (iM.mk (aE.mk a 0 s bA)),()),h.2))=_;rw[b];rfl
theorem aaK:ki n (mb c dd w,M,a,()) (wt,T,mb c dd w',M,())=Z ((fY.a0 ⟨⟩,()),mb c dd w,M,()):=rfl
theorem e67(x:pX c dd)(m:jr c dd w)(z:0<=a)(h1:a<w.aY.length):Ev (λn=>F67 n (mb c dd w,M,a,())) (JZ c dd M w (ig c w a)):=by
 let ⟨t1,t2,t3⟩:=m.task _ (bV 0 (show a.toNat<w.aY.length by omega))
 have E:=m.ob t1 t2;change 0<=bu w a at t1;change bu w a<_ at t2;change(cN w (bu w a)).Form=6 at t3;change fX c dd _ (cN w (bu w a))at E;have tl:=m.tl;have ol:=m.len;unfold ig;simp only;by_cases p:(cN w (bu w a)).N=0
 .rw[bS (by omega)]
  let ⟨h,f,j,k1,k2,q⟩:=Bu E t3 p
  have C:=aaG (at_:=a) x m E t3 p;have F:=q.lo;have I:=q.hi;have r:=x.dep.ok f.At F I q.re;have t:=q.sl;have nd:=r.2.2.1;have hx:Sx c dd w h (aZ c f.At) ⟨f.At+1,f.Env,f.Stack.take (f.Stack.length-cz c (aZ c f.At)),f.dO⟩ (f.Stack.drop (f.Stack.length-cz c (aZ c f.At))) f.At a:=⟨Vn x m k1 k2 q,z,h1⟩
  let ⟨y,hy,b⟩:=WJ (M:=M) hx
  rw[<-HR (w:=w) (at_:=a)]at b;rw[<-j]at b;have io:=hx.cx.io;have i1:=io.lo;have i2:=io.hi;have K:f.Stack.take (f.Stack.length-cz c (aZ c f.At))++f.Stack.drop (f.Stack.length-cz c (aZ c f.At))=f.Stack:=YO ..;have b1:Re (mb c dd w,M,a,())=(h.length:Int):=by show bn .i64 (au (cN w (bu w a)).Frames) 1=_;rw[j];show bn .i64 (((h++[f]).length:Nat):Int) 1=_;rw[jR,m8,de]<;>omega
  have P:EW (mb c dd w,M,a,())=f:=by
   unfold EW;show(cN w (bu w a)).Frames.getD _ _=_
   grind[aC]
  have b3:fJ (mb c dd w,M,a,())=aZ c f.At:=by unfold fJ;rw[P];rfl
  have b4:g9 (mb c dd w,M,a,())=(V4 a h ⟨f.At+1,f.Env,f.Stack.take (f.Stack.length-cz c (aZ c f.At)),f.dO⟩ (f.Stack.drop (f.Stack.length-cz c (aZ c f.At))) (aZ c f.At),mb c dd w,M,()):=by
   unfold g9;rw[b1,P,b3];have e1:cO (bE w.aQ (aC (bE w.aY (aC a) 0)) bD).4 0 (h.length:Int)=h:=by show cO (cN w (bu w a)).Frames 0 _=_;rw[j];exact kr _ _ rfl
   have e2:aJ .i64 f.At 1=f.At+1:=bQ (by omega) (by have:=x.len;omega);show(((),a,cO (bE w.aQ (aC (bE w.aY (aC a) 0)) bD).4 0 (h.length:Int),aJ .i64 f.At 1,f.Env,f.Stack,_),_)=_;rw[e1,e2];unfold V4;rw[K]
  have hF:∀n,F67 n (mb c dd w,M,a,())=aj (opF (aZ c f.At).Op.toNat n (g9 (mb c dd w,M,a,()))) λy=>cD y (gS n (mb c dd w,M,a,())) (ki n (mb c dd w,M,a,())):=by
   intro n;have hlen:(w.aQ.getD (w.aY.getD a.toNat 0).toNat bD).Frames.length=h.length+1:=by
    grind[cN,bu]
   have S:(w.aQ.getD (w.aY.getD a.toNat 0).toNat bD).N=0:=p;unfold bu at t1 t2;obtain⟨k,hk⟩:∃k:Nat,(aZ c f.At).Op=k:=⟨_,(zR (by omega)).symm⟩;rw[hk,uP,<-choose (by omega) (by omega)];unfold F67 Rd Nn;rw[b1,P,b3,hk];simp(disch:=omega)only[aV]
  refine Ev.n9 hF ?_;rw[b4];refine Ev.aj hy ?_;cases d:goS c w a (cN w (bu w a))with
  |waits=>rw[d]at b;obtain⟨T,u,rfl⟩:=b;exact bC λn=>aaK
  |fail s=>rw[d]at b;obtain⟨T,u,rfl⟩:=b;exact bC λn=>aaL z h1 t1 t2
  |done v=>
   rw[d]at b;obtain⟨bl,g,rfl⟩:=b;have t:(gw w (bu w a) ⟨6,1,[v],[]⟩).aQ.length=w.aQ.length:=by unfold gw;simp
   have e0:(((bu w a).toNat:Nat):Int)=bu w a:=by omega
   have lV:=yx (w:=w) (o:=⟨6,1,[v],[]⟩) (i:=(bu w a).toNat) t1 t2;exact bC λn=>aaM (w':=gw w (bu w a) ⟨6,1,[v],[]⟩) z h1 t1 (by rw[t];exact t2) (by grind[gw,bu])
  |go u fr e=>
   rw[d]at b C;obtain⟨bl,g,rfl,NT,rfl⟩:=b
   let ⟨l,hl⟩:=C.tk
   have hln:=C.ln;have e0:(((bu w a).toNat:Nat):Int)=bu w a:=by omega
   have ht:bu u a=bu w a:=by
    grind[bu]
   have lV:cN u (bu w a)=cN w (bu w a):=by
    have:=C.sm (bu w a).toNat (by omega)
    simp_all
   have htl:a<u.aY.length:=by grind
   have:=λn=>aip (n:=n) (c:=c) (dd:=dd) (M:=M) (R:=mb c dd w) (op:=(aZ c f.At).Op) (A:=(aZ c f.At).A) (B:=(aZ c f.At).B) (e:=e) (g:=g) z htl (by omega) (by rw[ht];omega) (by simp_all) NT;rw[ht]at this;cases e<;>exact bC this
 rw[bH p];have S:(w.aQ.getD (w.aY.getD a.toNat 0).toNat bD).N≠0:=p;unfold bu at t1 t2;exact bC λn=>by unfold F67;simp(disch:=omega)only[aV]<;>rfl
end
def jm(w:ai)(a t:Int):tq->bq
 |.fail s=>⟨gw w t ⟨6,s,[],[]⟩,1,⟨a,0,s,bA⟩⟩|.waits=>⟨w,2,bP⟩|.done v=>⟨gw w t ⟨6,1,[v],[]⟩,1,⟨a,0,1,lG v⟩⟩|.go w' fr Y=>⟨gw w' t ⟨6,0,[],fr⟩,0,bP⟩|.go w' fr (Z e)=>⟨gw w' t ⟨6,0,[],fr⟩,1,e⟩
structure At(w:ai)(a:Int):Prop where
 lo:0<=a
 hi:a<w.aY.length
 tlo:0<=bu w a
 thi:bu w a<w.aQ.length
section
variable {n:Nat}{c:aB}{dd:List ax}{w w':ai}{left fr:List aq}{f g:aq}{a op s form:Int}{v u:aA}{o:bG}
theorem d126(k:Int):F126 n (k,())=Z ((wq k,()),()):=rfl
theorem d74:F74 n ()=Z ((eA,()),()):=rfl
theorem d43(k:Int):F43 n (k,())=Z ((ia k,()),()):=rfl
def d73(b:aa):F73 n (b,())=Z ((iI b,()),()):=by cases b<;>rfl
def am2(k:Int):F73 n (af k 1,())=Z ((iI (k==1),()),()):=d73 _
def d88:F88 n (v,())=Z ((lG v,()),()):=by
 unfold F88 lG;by_cases h:v.Kind=4;simp[h,aV,d126];by_cases a:v.Kind=5;simp[a,aV,d126]
 simp_all[aV,or_self,jY]
def d124{l:L aA}(h:l.length<=1000):F124 n (l,v,())=Z ((l++[v],()),()):=by unfold F124;simp(disch:=first|omega|simp only[hY];omega)only[aV]
def d70(h:left.length<=1000):F70 n (left,f,())=Z ((left++[f],()),()):=by unfold F70;simp(disch:=first|omega|simp only[hY];omega)only[aV]
def d63(k:Int):F63 n (k,(-1000000000),1000000000,())=Z ((jh k,()),()):=by unfold F63 jh;by_cases h1:-1000000000<=k<;>by_cases h2:k<=1000000000<;>simp[ak,bB,h1,h2]
def d83{d:bq}{k:Int}:F83 n (d,a,op,k,v,())=if d.afj=1 then Z ((d,()),())else Z ((⟨d.W,1,⟨a,op,k,lG v⟩⟩,()),()):=by
 unfold F83;split<;>rename_i h;simp only[aV,h]
 simp_all[aV,d88]
def d127(a:v.Kind=5->0<=v.N/\v.N<w.aQ.length):F127 n (w,v,form,())=Z (jx (gH w v form),()):=by
 unfold F127 gH cN;by_cases h:v.Kind=5;obtain⟨h1,h2⟩:=a h;by_cases b:(w.aQ.getD v.N.toNat bD).Form=form
 simp_all[aV,and_self,kz,jx]
 simp_all[aV,and_false,jY,jx]
 simp_all[aV,false_and,jY,jx]
def frR:O aq->aq×aa×U
 |some b=>(b,W,())|none=>(aT,J,())
def d128(hf:u.Kind=4->0<=u.N/\u.N<c.dh.length)(a:u.Kind=5->0<=u.N/\u.N<w.aQ.length)(hn:∀o,gH w u 2=Z o->o.fL.length<=1000) :
  F128 n (⟨c,dd⟩,w,u,v,())=Z (frR (iB c w u v),()):=by
 unfold F128 iB;by_cases h:u.Kind=4
 simp_all[h1,h2,aV,kz,frR]
 simp(disch:=omega)only[aV,h,jY];rw[d127 a];cases b:gH w u 2 with
 |none=>rfl|some o=>
  simp_all[aV,jx,d124,frR]
def d79(t:At w a):F79 n (w,a,s,())=Z ((jm w a (bu w a) (.fail s),()),()):=by
 obtain⟨a1,a2,b,c⟩:=t
 simp_all[F79,bu,aV,jm,gw]
def d71(t:At w a)(h:fr.length<=1000):F71 n (w,a,fr,())=Z ((jm w a (bu w a) (jl w [] fr),()),()):=by have b:=λs=>d79 (n:=n) (s:=s) t;obtain⟨a1,a2,c,d⟩:=t;unfold F71 jl;simp only[Kc,yS,Ow];unfold bu at c d;split;simp(disch:=omega)only[aV,b];simp(disch:=omega)only[aV,jm,gw,bu]
def aa8(t:At w a)(h:fr.length<=40):F71 n (w,a,fr,())=Z ((⟨gw w (bu w a) ⟨6,0,[],fr⟩,0,bP⟩,()),()):=by rw[d71 t (by omega)];unfold jl;rw[bS (by simp_all)];rfl
def d72(h:left.length<=1000)(b:g.Stack.length<=1000):F72 n (left++[g],v,())=Z ((left++[l6 g v],()),()):=by
 have a:∀x:aq,(left++[g]).set left.length x=left++[x]:=λx=>by simp_all
 unfold F72;simp(disch:=first|omega|simp only[hY];omega)only[aV,Rc,Jp,ir,d124,a,l6]
def am3(h:left.length<=900)(d:fr.length<=90)(b:fr≠[])(hs:∀g∈fr,g.Stack.length<=1000):F72 n (left++fr,v,())=Z ((left++kS fr v,()),()):=by obtain⟨l,g,a⟩:∃l g,fr=l++[g]:=⟨_,_,(Ze b).symm⟩;have c:=hs g (by rw[a];simp);have:=eC List.length a;simp only[jR,m8]at this;rw[Gz a,a,<-wv,d72 (by simp;omega) c,wv]
def Nd{w':ai}(t:At w a)(h1:w'.aY=w.aY)(h2:w.aQ.length<=w'.aQ.length):At w' a/\bu w' a=bu w a:=by
 have e:bu w' a=bu w a:=by unfold bu;rw[h1]
 exact⟨⟨t.lo,by rw[h1];exact t.hi,by rw[e];exact t.tlo,by rw[e];have:=t.thi;omega⟩,e⟩
def d75(t:At w a)(hl:w.aQ.length<=1000)(h:left.length<40)(c:f.Stack.length<=900):F75 n (w,a,left++[f],o,())=Z ((jm w a (bu w a) (l9 w left f o),()),()):=by have b:=Nd (w':=gr w o) t rfl (by simp[gr]);unfold F75 l9;split;simp(disch:=omega)only[aV,d79 t];simp(disch:=first|omega|simp only[hY];omega)only[aV,d126,jR,m8];rw[show bn .i64 ((w.aQ.length+1:Nat):Int) 1=(w.aQ.length:Int)by rw[de]<;>omega];simp(disch:=omega)only[aV,d72];have:=aa8 (n:=n) (fr:=left++[l6 f (wq w.aQ.length)]) b.1 (by simp;omega);rw[b.2]at this;exact(eC (λx=>aj x _) this).trans rfl
def Kf{e:O aE}(t:At w a)(h:left.length<40)(h1:w'.aY=w.aY)(h2:w.aQ.length<=w'.aQ.length) :
  F71 n (w',a,left++[l6 f v],())=Z ((⟨gw w' (bu w a) ⟨6,0,[],left++[l6 f v]⟩,0,bP⟩,()),()):=by
 obtain⟨h3,h4⟩:=Nd t h1 h2;rw[aa8 h3 (by simp;omega),h4]
theorem d76(t:At w a)(m:pX c dd)(i:jr c dd w)(d:cC c w.aQ.length u)(hn:∀o,gH w u 2=Z o->o.fL.length<=1000)
  (j:∀o,gH w u 5=Z o->o.Frames≠[]/\o.Frames.length<=40/\∀g∈o.Frames,g.Stack.length<=1000) (h:left.length<=40) {r:aa} :
  F76 n (⟨c,dd⟩,w,a,left,u,v,r,())=Z ((jm w a (bu w a) (od c w left u v r),()),()):=by
 unfold F76 od;cases e:gH w u 5 with
 |some o=>
  obtain⟨h1,h2,h3,h4,h5,h6⟩:=ez i d e;have f:iB c w u v=Y:=by unfold iB gH;rw[bS (by omega),<-h6,bS (by omega)]
  obtain⟨k,p,l⟩:=j o e;have q:=GA (v:=v) (fs:=o.Frames);simp(disch:=omega)only[aV,d127 (λh=>d.ref h),e,jx,am3 (left:=left) (v:=v) (show left.length<=900 by omega) (show o.Frames.length<=90 by omega) k l,f];rw[d71 t (by grind)];unfold jl;simp only[Kc,yS,Ow,jR];rfl
 |none=>
  cases f:iB c w u v with|none=>simp only[aV,d127 (λh=>d.ref h),e,jx,d128 (λh=>d.code h) (λh=>d.ref h) hn,f,frR,d79 t]|some b=>simp(disch:=omega)only[aV,d127 (λh=>d.ref h),e,jx,d128 (λh=>d.code h) (λh=>d.ref h) hn,f,frR,d70];rw[d71 t (by simp;omega)];unfold jl;simp only[Kc,yS,Ow,jR];rfl
def d78(t:At w a)(k:op=13\/op=14\/op=15\/op=16\/op=17)(q:cC c w.aQ.length u)(r:cC c w.aQ.length v)(h:left.length<40)(s:f.Stack.length<=900) :
  F78 n (w,a,left++[f],op,u,v,())=Z ((jm w a (bu w a) (rT w left f op u v),()),()):=by
 have d:=λx=>Kf (n:=n) (w':=w) (f:=f) (v:=x) (e:=Y) t h rfl (eP _);have b:=λx=>d72 (n:=n) (left:=left) (g:=f) (v:=x) (by omega) (by omega);unfold F78 Ra VK rT;by_cases i:op=17;subst i;rw[bH rfl];by_cases h1:u.Kind=v.Kind;by_cases h2:u.Kind<=3;rw[bS (by omega)];simp(disch:=omega)only[aV,show ∀x,bR W x=x from λ_=>rfl,Nb,d73,b,d]<;>rfl
 simp_all[bH,aV,d79]
 simp_all[bH,aV,d79]
 rw[bS i];by_cases h1:u.Kind=1/\v.Kind=1;obtain⟨j,l⟩:=h1;have m:=q.int j;have o:=r.int l;have y:=ZG m o;simp only[jh,eX,ri]at m o;rw[bS (by omega)];obtain h|h|h|h|h:=k
 subst h;simp only[Int.reduceEq,jY,kz];simp(disch:=omega)only[aV,aU,bQ,d63];cases p:jh (u.N+v.N)<;>simp only[aV,d43,b,d,d79 t,jY,kz,reduceCtorEq]<;>rfl;subst h;simp only[Int.reduceEq,jY,kz];simp(disch:=omega)only[aV,aU,de,d63];cases p:jh (u.N-v.N)<;>simp only[aV,d43,b,d,d79 t,jY,kz,reduceCtorEq]<;>rfl;subst h;simp only[Int.reduceEq,jY,kz];simp(disch:=omega)only[aV,aU,Mr,d63];cases p:jh (u.N*v.N)<;>simp only[aV,d43,b,d,d79 t,jY,kz,reduceCtorEq]<;>rfl;subst h;simp only[Int.reduceEq,jY,kz];simp(disch:=omega)only[aV,d73,b,d]<;>rfl;omega;rw[bH (by omega)];by_cases j:u.Kind=1;simp(disch:=omega)only[aV,d79 t]<;>rfl
 simp_all[aV,d79]
end
section
variable {n:Nat}{c:aB}{dd:List ax}{w w':ai}{left fr:List aq}{f g:aq}{a op s form A B:Int}{v u:aA}{o:bG}
structure Fx(c:aB)(dd:List ax)(w:ai)(left:List aq)(f:aq)(a:Int):Prop where
 at_:At w a
 hp:pX c dd
 hw:jr c dd w
 h:left.length<40
 h':f.Stack.length<=60
 e:f.Env.length<=30
def Fx.Si(x:Fx c dd w left f a)(v:aA):F72 n (left++[f],v,())=Z ((left++[l6 f v],()),()):=d72 (by have:=x.h;omega) (by have:=x.h';omega)
def Fx.p71(x:Fx c dd w left f a)(v:aA)(h1:w'.aY=w.aY)(h2:w.aQ.length<=w'.aQ.length):F71 n (w',a,left++[l6 f v],())=Z ((⟨gw w' (bu w a) ⟨6,0,[],left++[l6 f v]⟩,0,bP⟩,()),()):=
 Kf (e:=Y) x.at_ x.h h1 h2
def LS{k:Int}:(gw w k o).aQ.length=w.aQ.length:=by unfold gw;simp
variable {l:List aA}
def at2(x:Fx c dd w left f a)(hl:l=[v]):F80 n (w,a,left++[f],21,l,())=Z ((jm w a (bu w a) (l9 w left f ⟨3,0,[v],[]⟩ (Z ⟨a,16,0,lG v⟩)),()),()):=by
 have ol:=x.hw.len;subst hl;unfold F80 Cl;simp(disch:=first|omega|simp only[hY];omega)only[aV,kV,d75 x.at_ (show w.aQ.length<=1000 by omega) x.h (show f.Stack.length<=900 by have:=x.h';omega)];unfold l9;by_cases h:120<=w.aQ.length;rw[bH h,bH h];simp only[aV,d83,jm,kz]<;>rfl
 simp_all[bS,fI,aV,d83,jm,Int.reduceEq,jY]
def at1(x:Fx c dd w left f a)(hl:l=[v])(b:cC c w.aQ.length v):F80 n (w,a,left++[f],22,l,())=Z ((jm w a (bu w a) (E4 w a left f v),()),()):=by
 subst hl;unfold F80 Cl E4;cases d:gH w v 3 with
 |none=>simp(disch:=first|omega|simp only[hY];omega)only[aV,kV,d127 (λh=>b.ref h),d,jx,d79 x.at_]
 |some o=>
  obtain⟨h3,h4,_⟩:=ez x.hw b d;have g:0<o.fL.length:=by cases h4<;>first|(cases h3;done)|simp
  have e:=λu=>x.p71 (n:=n) (w':=w) u rfl (eP _);simp(disch:=first|omega|simp only[hY];omega)only[aV,kV,d127 (λh=>b.ref h),d,jx,x.Si,e,d83,Int.reduceEq,jY,jm]<;>rfl
def at0(x:Fx c dd w left f a)(hl:l=[u,v])(d:cC c w.aQ.length u):F80 n (w,a,left++[f],23,l,())=Z ((jm w a (bu w a) (jb w a left f u v),()),()):=by subst hl;unfold F80 Cl jb;cases e:gH w u 3 with|none=>simp(disch:=first|omega|simp only[hY];omega)only[aV,kV,d127 (λh=>d.ref h),e,jx,d79 x.at_]|some o=>obtain⟨h3,h4,h5,h6,g,_⟩:=ez x.hw d e;have b:=λq=>x.p71 (n:=n) (w':=gw w u.N ⟨3,0,[v],[]⟩) q rfl (by rw[LS];omega);unfold gw at b;simp(disch:=first|omega|simp only[hY];omega)only[aV,kV,GI,d127 (λh=>d.ref h),e,jx,d74,x.Si,b,d83,Int.reduceEq,jY,jm]<;>rfl
theorem d82(x:Fx c dd w left f a)(b:cC c w.aQ.length u):F82 n (w,a,left++[f],u,())=Z ((jm w a (bu w a) (HF w a left f u),()),()):=by
 unfold F82 HF;cases d:gH w u 6 with
 |none=>simp only[aV,d127 (λh=>b.ref h),d,jx,d79 x.at_]|some o=>
  obtain⟨h3,h4,_⟩:=ez x.hw b d;simp only;by_cases g:o.N=0
  simp_all[bH,aV,d127,jx,jm]
  .rw[bS g];by_cases h1:o.N=1
   .rw[bS (by omega)];have i:0<o.fL.length:=by cases h4 with|done=>grind|dead p=>simp_all|se=>grind|_=>cases h3
    have e:=λu=>x.p71 (n:=n) (w':=w) u rfl (eP _);simp(disch:=omega)only[aV,d127 (λh=>b.ref h),d,jx,x.Si,e,d83,Int.reduceEq,jY,jm]<;>rfl
   rw[bH h1];simp(disch:=omega)only[aV,d127 (λh=>b.ref h),d,jx,d79 x.at_]
def atZ(x:Fx c dd w left f a)(hl:l=[u,v])(d:cC c w.aQ.length u):F84 n (w,a,left++[f],27,l,())=Z ((jm w a (bu w a) (Gq w a left f u v),()),()):=by subst hl;unfold F84 Lt Gq;cases e:gH w u 4 with|none=>simp(disch:=first|omega|simp only[hY];omega)only[aV,kV,d127 (λh=>d.ref h),e,jx,d79 x.at_]|some o=>obtain⟨h3,h4,h5,h6,i,_⟩:=ez x.hw d e;simp only;by_cases g:4<=o.fL.length;rw[bH g];simp(disch:=first|omega|simp only[hY];omega)only[aV,kV,d127 (λh=>d.ref h),e,jx,jm];rw[bS g];have b:=λq=>x.p71 (n:=n) (w':=gw w u.N ⟨4,0,o.fL++[v],[]⟩) q rfl (by rw[LS];omega);unfold gw at b;simp(disch:=first|omega|simp only[hY];omega)only[aV,kV,GI,d127 (λh=>d.ref h),e,jx,d124,d74,x.Si,b,d83,Int.reduceEq,jY,jm]<;>rfl
def atY(x:Fx c dd w left f a)(hl:l=[u])(g:cC c w.aQ.length u):F84 n (w,a,left++[f],28,l,())=Z ((jm w a (bu w a) (Gc w a left f u),()),()):=by
 subst hl;unfold F84 Lt Gc;cases i:gH w u 4 with
 |none=>simp(disch:=first|omega|simp only[hY];omega)only[aV,kV,d127 (λh=>g.ref h),i,jx,d79 x.at_]
 |some o=>
  obtain⟨h3,h4,h5,h6,m,_⟩:=ez x.hw g i;have j:o.fL.length<=4:=by cases h4<;>first|(cases h3;done)|assumption
  cases b:o.fL with|nil=>simp_all[hY,aV,kV,d127,jx,jm]|cons v d=>rw[b]at j;simp only[l5]at j;have k:cO (v::d) 1 (((v::d).length:Nat):Int)=d:=qE v d _ rfl;simp only[l5]at k;have e:=λq=>x.p71 (n:=n) (w':=gw w u.N ⟨4,0,d,[]⟩) q rfl (by rw[LS];omega);unfold gw at e;simp(disch:=first|omega|simp only[hY];omega)only[aV,kV,d127 (λh=>g.ref h),i,jx,b,x.Si,k];simp only[aV,e,d83,Int.reduceEq,jY,jm]<;>rfl
def atW(x:Fx c dd w left f a)(hl:l=[v]):F85 n (w,a,left++[f],⟨29,A,B⟩,l,())=Z ((jm w a (bu w a) (Sk w a left f A v),()),()):=by subst hl;unfold F85 Sk;by_cases d:v.Kind=1;rw[bS (by omega)];split;simp(disch:=first|omega|simp only[hY];omega)only[aV,kV,d79 x.at_];have b:=λq=>x.p71 (n:=n) (w':=⟨w.aQ,w.aY,w.mg++[⟨A,v.N⟩],w.dJ,w.Used⟩) q rfl (eP _);simp(disch:=first|omega|simp only[hY];omega)only[aV,kV,d74,x.Si,b,d83,Int.reduceEq,jY,jm]<;>rfl;rw[bH d];simp(disch:=first|omega|simp only[hY];omega)only[aV,kV,d79 x.at_]
def atX(x:Fx c dd w left f a):F85 n (w,a,left++[f],⟨30,A,B⟩,l,())=Z ((jm w a (bu w a) (inS w a left f),()),()):=by have g:=x.hw.ins;have j:=x.hw.used;unfold F85 inS;cases b:w.dJ with|nil=>rfl|cons k d=>rw[b]at g;simp only[l5]at g;have h:cO (k::d) 1 (((k::d).length:Nat):Int)=d:=qE k d _ rfl;simp only[l5]at h;have i:lG (ia k)=ia k:=rfl;simp only;split;simp(disch:=first|omega|simp only[hY];omega)only[aV,b,d43,d79 x.at_];have e:=λq=>x.p71 (n:=n) (w':=⟨w.aQ,w.aY,w.mg,d,w.Used+1⟩) q rfl (eP _);simp(disch:=first|omega|simp only[hY];omega)only[aV,b,d43,kV,x.Si,bQ,h];simp only[aV,e,d83,i,Int.reduceEq,jY,jm]<;>rfl
theorem EG{a:L aq}(hl:a.length<=41){R B P:Type}{F:Nat->Int×U->O (LO (Int×U) R B P)}
  (g:∀n c,F n c=ak (bB 0 c.1) (aS (aM c.1 a) (ak (av (bE a (aC c.1) aT).4) (Z (.next (bn .i64 c.1 1,()))) (Z (.out 0 c)))) (Z (.out 0 c))) :
  ∀m:Nat,m<=a.length->(∀j(h:j<a.length),m<=j->a[j].dO=J)->
  fu F ((m:Int)-1,()) (.out 0 (match j9 (λf:aq=>f.dO) a with|some k=>(k:Int)|none=>-1,()))
 |0,_,h=>by rw[qm λj d=>h j d (GH _)];exact .out (bC λn=>by simp_all[aV])
 |m+1,o,h=>by
  have e:a.getD m aT=a[m]:=by grind
  have b:((m+1:Nat):Int)-1=(m:Int):=by omega
  cases i:a[m].dO with
  |true=>rw[u5 (m:=m) (by omega) i λj d l=>h j d (by omega)];refine .out (bC λn=>?_);rw[g,b];simp(disch:=omega)only[aV,e,i]<;>rfl
  |false=>
   refine .next (y:=((m:Int)-1,())) (bC λn=>?_) (EG hl g m (by omega) λj d l=>?_)
   rw[g,b];simp(disch:=omega)only[aV,e,i,de]<;>rfl
   grind
def d86(x:Fx c dd w left f a):Ev (λn=>F86 n (w,a,left++[f],A,())) ((jm w a (bu w a) (CA w left f A),()),()):=by
 have t:=x.h;have u:=x.e;have m:(left++[f]).length=left.length+1:=by simp
 have e0:bn .i64 (au (left++[f])) 1=(((left++[f]).length:Nat):Int)-1:=de (by simp only[au];omega) (by simp only[au];omega);have d:=λ(R B P:Type)=>@EG (left++[f]) (by omega) R B P _ (λn c=>rfl) (left++[f]).length (eP _) (λj I v=>by omega);have o:∀(k:Int)(r:(bq×U)×U){b:Nat->Int×U->O ((bq×U)×U)},Ev (λn=>b n (k,())) r->∀(R B P:Type)(F:Nat->Int×U->O (LO (Int×U) R B P))(p:Nat->B->R->O ((bq×U)×U))(q:Nat->B->P->O ((bq×U)×U))(y:Int×U),
   fu F y (.out 0 (k,()))->Ev (λn=>aj (iter (F n) n y) λc=>bU c (λ_ e=>b n e) (p n) (q n)) r:=by
  intro k r b h R B P F p q y z;exact Ev.bp z _ _ h
 unfold F86 CA;simp only[e0];refine Ev.n9 (λn=>by rw[show aM ((((left++[f]).length:Nat):Int)-1) (left++[f])=W from iw.2 (by omega)]) ?_;cases g:j9 (λf:aq=>f.dO) (left++[f])with
 |none=>simp only[g]at d;refine o _ _ ?_ _ _ _ _ _ _ _ (d _ _ _);exact bC λn=>by simp(disch:=omega)only[aV,d79 x.at_]
 |some k=>
  obtain⟨i,_⟩:=u6 g;simp only[g]at d;refine o _ _ ?_ _ _ _ _ _ _ _ (d _ _ _);simp only;have s:cO (left++[f]) (k:Int) (((left++[f]).length:Nat):Int)=(left++[f]).drop k:=by rw[Cw];rfl
  have C:cO (left++[f]) 0 (k:Int)=(left++[f]).take k:=by rfl
  have E:(left++[f]).getD left.length aT=f:=ir _ _ _ _ rfl;simp only[jR,m8]at i s;split;exact bC λn=>by simp(disch:=omega)only[aV,d79 x.at_]
  obtain⟨h3,h4⟩:=Nd (w':=gr w ⟨5,0,[],(left++[f]).drop k⟩) x.at_ rfl (by simp[gr]);have l:=λn=>aa8 (n:=n) (fr:=(left++[f]).take k++[⟨A,f.Env++[wq w.aQ.length],[],W⟩]) h3 (by simp;omega);refine bC λn=>?_;simp(disch:=first|omega|simp only[hY];omega)only[aV,s,C,Jp,show(((left.length+(0+1):Nat):Int)-1).toNat=left.length by omega,d126,E,d124,d70];exact(eC (λx=>aj x _) (l n)).trans rfl
end
abbrev avo:=(L aA×aa×U)×U
def Jw:O (L aA)->avo
 |some m=>((m,W,()),())|none=>(([],J,()),())
def ajd(c:aB)(w:ai)(q:aI):Prop:=∀(v:aA),cC c w.aQ.length v->wI R129 (w,q,v,()) (Jw (iA w q v))
section
variable {n:Nat}{c:aB}{dd:List ax}{w w':ai}{left fr:List aq}{f g:aq}{a op s form A B:Int}{v u:aA}{o:bG}{i:bT}{l:List aA}{m:Int}
theorem O7{B P:Type}(d:Nat):∀(qs:L aI)(vs:L aA)(pre:L aI)(b:L aA)(l:L aA),qs.length=vs.length->pre.length=b.length->pre.length+qs.length<=1000->
  (∀q∈qs,ajd c w q)->(∀v∈vs,cC c w.aQ.length v)->l.length+o9 qs<=1000->
  ∀(F:Nat->L aA×Int×U->O (LO (L aA×Int×U) (L aA×aa×U) U P)),
  (∀n e,F n e=ak (aG e.2.1 (au (pre++qs))) (aS (aM e.2.1 (pre++qs)) (aS (aM e.2.1 (b++vs)) (aj (R129 n (n-d) (w,@bE aI (pre++qs) (aC e.2.1) aR,@bE aA (b++vs) (aC e.2.1) bA,())) λg=>ak (av g.1.2.1) (Z (X () ([],J,())))
   (aS (dI e.1 g.1.1) (Z (N (dx e.1 g.1.1,aJ .i64 e.2.1 1,()))))))) (Z (H 0 e)))->
  fu F (l,(pre.length:Int),()) (match fO w qs vs with
   |some m=>.out 0 (l++m,((pre++qs).length:Int),())|none=>.ret () ([],J,()))
 |[],[],pre,b,l,_,_,k,_,_,_,F,f=>by unfold fO;refine .out (bC λn=>?_);rw[f];simp(disch:=omega)only[aV,iP]<;>rfl
 |q::qs,v::vs,pre,b,l,t,E,k,o,p,u,F,f=>by
  unfold o9 at u;simp only[l5]at k;have h1:=o q eN v (p v eN);have r:(pre++q::qs).getD pre.length aR=q:=rL ..;have s:(b++v::vs).getD pre.length bA=v:=by simp_all
  unfold fO;cases i:iA w q v with
  |none=>rw[i]at h1;refine .ret ?_;obtain⟨a,h1⟩:=h1 d;refine⟨a,λn j=>?_⟩;have:=h1 n j;simp only at this;show F n _=_;rw[f];simp(disch:=first|omega|simp only[hY];omega)only[aV,r,s];exact(eC (λx=>aj x _) this).trans rfl
  |some m=>
   rw[i]at h1;have z:=rF q v m i;have h2:=O7 (B:=B) (P:=P) d qs vs (pre++[q]) (b++[v]) (l++m) (by simpa using t) (by simp;omega) (by simp;omega) (λA h=>o A (ie _ h)) (λC h=>p C (ie _ h))
    (by simp;omega) F (λn e=>by rw[f];simp only[wv,Mg]<;>rfl)
   refine(.next (y:=(l++m,((pre++[q]).length:Int),())) ?_ ?_)
   .obtain ⟨a,h1⟩:=h1 d;refine⟨a,λn j=>?_⟩;have:=h1 n j;simp only at this;show F n _=_;rw[f];simp(disch:=first|omega|simp only[hY];omega)only[aV,r,s,bQ,fK,fM];refine(eC (λx=>aj x _) this).trans ?_;show TL.aS (dI l m) (Z (N (l++m,(pre.length:Int)+1,())))=_;rw[BM (by omega)];simp<;>rfl
   grind
theorem mU(n k:Nat):R129 n (k+1)=B129 n (R129 n k):=rfl
theorem akz:∀(q:aI),pw q<=1000->∀(i:jr c dd w),ajd c w q
 |⟨form,n0,text,parts⟩,l,i=>by
  intro v j;unfold pw at l;unfold iA;by_cases h1:form=1;refine wI.step mU λd=>bC λn=>?_;unfold B129;simp only[aV,h1,kz,Jw]<;>rfl;rw[bS h1];by_cases h2:form=2;refine wI.step mU λd=>bC λn=>?_;unfold B129;simp(disch:=omega)only[aV,h2,kz,Jw]<;>rfl;rw[bS h2];have cmp:∀u:aA,(if FW v u=W then Z ([]:L aA)else Y)=Y/\bR (af v.Kind u.Kind) (bR (af v.N u.N) W)=J\/(if FW v u=W then Z ([]:L aA)else Y)=Z []/\bR (af v.Kind u.Kind) (bR (af v.N u.N) W)=W:=by
   intro u;have:bR (af v.Kind u.Kind) (bR (af v.N u.N) W)=FW v u:=by rw[Nb];rfl
   rw[this];cases FW v u<;>simp
  by_cases h3:form=3;rw[bH h3];refine wI.step mU λd=>bC λn=>?_;unfold B129 DT;obtain⟨b,f⟩|⟨b,f⟩:=cmp (ia n0)<;>rw[b]<;>simp(disch:=omega)only[aV,h3,d43,f,Jw]<;>rfl
  rw[bS h3];by_cases h4:form=4;rw[bH h4];refine wI.step mU λd=>bC λn=>?_;unfold B129 DT;obtain⟨b,f⟩|⟨b,f⟩:=cmp (iI (n0==1))<;>rw[b]<;>simp(disch:=omega)only[aV,h4,am2,f,Jw]<;>rfl
  rw[bS h4];by_cases h5:form=5;rw[bH h5];refine wI.step mU λd=>bC λn=>?_;unfold B129 DT;obtain⟨b,f⟩|⟨b,f⟩:=cmp eA<;>rw[b]<;>simp(disch:=omega)only[aV,h5,d74,f,Jw]<;>rfl
  rw[bS h5];cases k:gH w v 1 with
  |none=>refine wI.step mU λd=>bC λn=>?_;unfold B129;simp(disch:=omega)only[aV,d127 j.ref,k,jx,Jw]<;>rfl|some o=>
   dsimp only;obtain⟨_,r,_⟩:=ez i j k;by_cases p:o.N≠n0\/o.fL.length≠parts.length;rw[bH p];refine wI.step mU λd=>bC λn=>?_;unfold B129;by_cases A:o.N=n0;simp(disch:=omega)only[aV,d127 j.ref,k,jx,Jw]<;>rfl;simp(disch:=omega)only[aV,d127 j.ref,k,jx,Jw]<;>rfl
   .rw[bS p];have m:=r.vals;have s:parts.length<=o9 parts:=Bl parts;refine wI.step mU λd=>?_;have t:=O7 (c:=c) (w:=w) (B:=U) (P:=Any) d parts o.fL [] [] [] (by omega) rfl (by grind)
      (λq x=>afN parts (by omega) i q x) m (by grind) _ (λn e=>rfl)
    have hB:∀n,B129 n (R129 n (n-d)) (w,⟨form,n0,text,parts⟩,v,())=aj (iter (λe=>ak (aG e.2.1 (au parts)) (aS (aM e.2.1 parts) (aS (aM e.2.1 o.fL) (aj (R129 n (n-d) (w,@bE aI parts (aC e.2.1) aR,@bE aA o.fL (aC e.2.1) bA,())) λg=>ak (av g.1.2.1) (Z (X () ([],J,())))
   (aS (dI e.1 g.1.1) (Z (N (dx e.1 g.1.1,aJ .i64 e.2.1 1,()))))))) (Z (H 0 e))) n ([],0,())) λe=>bU e (λ_ h=>Z ((h.1,W,()),())) (λ_ h=>Z (h,())) λ_(_:Any)=>Y:=by intro n;unfold B129;simp(disch:=omega)only[aV,d127 j.ref,k,jx]<;>rfl
    refine Ev.n9 hB (Ev.bp t (λn e=>_) _ ?_);cases fO w parts o.fL<;>exact dg
where
 Bl:∀a:L aI,a.length<=o9 a
 |[]=>GH _|⟨_,_,_,_⟩::a=>by unfold o9 pw;have:=Bl a;grind
 afN:∀(a:L aI),o9 a<=1000->∀(i:jr c dd w),∀q∈a,ajd c w q
 |[],_,_,_,h=>by cases h
 |q::a,y,i,z,h=>by
  unfold o9 at y;obtain h|h:=gn.1 h
  rw[h];exact akz q (by omega) i;exact afN a (by omega) i z h
def d69(h1:1<=i.Op)(h2:i.Op<=34)(f:i.Op=18->0<=i.A/\i.A<c.Cons.length/\0<=(c.Cons.getD i.A.toNat br).lE):F69 n (⟨c,dd⟩,i,())=Z (((cz c i:Int),()),()):=by
 by_cases a:i.Op=18;obtain⟨g,j,l⟩:=f a;unfold F69 EV Cm cz lz;rw[bH a];simp(disch:=omega)only[aV,a,aU];rw[show(((c.Cons.getD i.A.toNat br).lE.toNat:Nat):Int)=(c.Cons.getD i.A.toNat br).lE by omega];obtain⟨k,b⟩:∃k:Nat,i.Op=k:=⟨_,(zR (by omega)).symm⟩;have d:1<=k:=by omega
 have e:k<=34:=by omega
 unfold cz;rw[bS a,show i.Op.toNat=k by omega];unfold F69;simp only[b]
 match k,d,e,b with
 |18,_,_,b=>omega
 |1,_,_,_|2,_,_,_|3,_,_,_|4,_,_,_|5,_,_,_|6,_,_,_|7,_,_,_|8,_,_,_|9,_,_,_|10,_,_,_|11,_,_,_|12,_,_,_|13,_,_,_|14,_,_,_|15,_,_,_|16,_,_,_|17,_,_,_
 |19,_,_,_|20,_,_,_|21,_,_,_|22,_,_,_|23,_,_,_|24,_,_,_|25,_,_,_|26,_,_,_|27,_,_,_|28,_,_,_|29,_,_,_|30,_,_,_|31,_,_,_|32,_,_,_|33,_,_,_|34,_,_,_=>rfl|k+35,_,h,_=>omega
end
section
variable {n:Nat}{c:aB}{dd:List ax}{w w':ai}{left fr:List aq}{f g:aq}{a op s form A B:Int}{v u:aA}{o:bG}{i:bT}{l:List aA}{m:Int}
theorem Fx.on(x:Fx c dd w left f a)(g:aq):F71 n (w,a,left++[g],())=Z ((jm w a (bu w a) (.go w (left++[g]) Y),()),()):=by have:=x.h;rw[aa8 x.at_ (by simp;omega)];rfl
def d77(x:Fx c dd w left f a)(k1:c.ey.length<=100000)(io:Q3 c i)(hl:∀q∈l,cC c w.aQ.length q)(A:i.Op=19->pw (jd c i.A)<=12)(B:i.Op=10->i.A<=f.Env.length)(hn:i.Op=9\/i.Op=12\/i.Op=19->l.length=1)
  (t:i.Op=9\/i.Op=10\/i.Op=11\/i.Op=12\/i.Op=19):Ev (λn=>F77 n (⟨c,dd⟩,w,a,left++[f],i,l,())) ((jm w a (bu w a) (l7 c w a left i f l),()),()):=by
 have C:=x.h;have E:=x.e;have F:=x.h';have e:=λ(n:Nat)g=>d70 (n:=n) (left:=left) (f:=g) (by omega);have on:=λ(n:Nat)g=>x.on (n:=n) g;have one:i.Op=9\/i.Op=12\/i.Op=19->∃v,l=[v]:=λh=>by
  have:=hn h
  match l,this with
  |[v],_=>exact⟨v,rfl⟩
 have m:Lu (⟨c,dd⟩,w,a,left++[f],i,l,())=(left.length:Int):=by unfold Lu;simp(disch:=omega)only[aV,Jp]
 have o:jU (⟨c,dd⟩,w,a,left++[f],i,l,())=f:=by unfold jU;rw[m];exact ir _ _ _ _ rfl
 have p:ET (⟨c,dd⟩,w,a,left++[f],i,l,())=W:=by unfold ET;exact vE.2 (by simp only[au,jR,m8];omega)
 have r:ES (⟨c,dd⟩,w,a,left++[f],i,l,())=left:=by unfold ES;rw[m];exact kr _ _ rfl
 have k:aM (left.length:Int) (left++[f])=W:=iw.2 (by simp;omega);unfold l7;obtain h|h|h|h|h:=t
 obtain⟨v,rfl⟩:=one (.inl h);simp[show i.Op.toNat=9 from eC Int.toNat h];refine bC λn=>?_;unfold F77 xQ EU Rb;rw[m,o,p,r];simp(disch:=omega)only[aV,k,d124,e,on,kV]<;>rfl;have hA:=io.drop h;have I:=B h;simp[show i.Op.toNat=10 from eC Int.toNat h];have K:cO f.Env 0 ((f.Env.length:Int)-i.A)=f.Env.take (f.Env.length-i.A.toNat):=by rw[yg,show((f.Env.length:Int)-i.A).toNat=f.Env.length-i.A.toNat by omega]
 refine bC λn=>?_;unfold F77 xQ;rw[m,o,p,r];simp(disch:=omega) [aV,k,de,K,e,on]<;>rfl;simp[show i.Op.toNat=11 from eC Int.toNat h];refine bC λn=>?_;unfold F77 VL xQ;rw[m,o,p,r];simp(disch:=omega) [aV,k,e,on]<;>rfl;obtain⟨v,rfl⟩:=one (.inr (.inl h));simp only[show i.Op.toNat=12 from eC Int.toNat h];show Ev _ ((jm _ _ _ (if v.Kind≠2 then _ else .go w (left++[⟨if v.N=0 then _ else _,_,_,_⟩]) Y),()),());refine bC λn=>?_;unfold F77 abY VL xQ EU;rw[m,o,p,r];by_cases P:v.Kind=2;rw[bS (by omega)];by_cases z:v.N=0;simp(disch:=omega) [aV,k,e,on,kV,bH z]<;>rfl;simp(disch:=omega) [aV,k,e,on,kV,bS z]<;>rfl;rw[bH P];simp(disch:=omega) [aV,k,kV,d79 x.at_]<;>rfl;obtain⟨v,rfl⟩:=one (.inr (.inr h));have hc:=io.BN h;have R:=hl v eN;have u:=akz (c:=c) (dd:=dd) (w:=w) (jd c i.A) (by omega) x.hw v R 0
 let ⟨d,u⟩:=u
 have j:∀n,d<=n->F129 n (w,jd c i.A,v,())=Z (Jw (iA w (jd c i.A) v)):=u;unfold jd at A;simp[show i.Op.toNat=19 from eC Int.toNat h];show Ev _ ((jm _ _ _ (match iA w (jd c i.A) v with|some b=>_|none=>.go w (left++[⟨_,_,f.Stack++[v],_⟩]) Y),()),());refine⟨d,λn s=>?_⟩;unfold F77 xQ EU Rb;rw[m,o,p,r];cases y:iA w (jd c i.A) v with|none=>rw[y]at j;simp(disch:=omega) [aV,k,kV,d124,e,on];exact(eC (λx=>aj x _) (j n s)).trans rfl|some b=>have S:=rF _ _ _ y;rw[y]at j;unfold jd at S;simp(disch:=omega) [aV,k,kV,e,on];refine(eC (λx=>aj x _) (j n s)).trans ?_;show TL.aS (dI f.Env b) _=_;rw[BM (by omega)];rfl
end
section
variable {n:Nat}{c:aB}{dd:List ax}{w w':ai}{left fr:List aq}{f g:aq}{a op s form A B:Int}{v u:aA}{o:bG}{i:bT}{l:List aA}{m:Int}
theorem ahw{X R B P α:Type}(b:B)(r:R)(e:X->O α)(f:Nat->X->O α)(g:B->R->O α)(h:B->P->O α):cJ (.ret b r) e f g h=g b r:=rfl
def am4(b:fr.length<=90)(a:fr≠[])(hs:∀g∈fr,g.Stack.length<=1000):F72 n (fr,v,())=Z ((kS fr v,()),()):=am3 (left:=[]) (by simp) b a hs
def d81(x:Fx c dd w left f a)(d:cC c w.aQ.length u)(hn:∀o,gH w u 2=Z o->o.fL.length<=1000)
  (p:∀o,gH w u 5=Z o->o.Frames≠[]/\o.Frames.length<=40/\∀g∈o.Frames,g.Stack.length<=1000):F81 n (⟨c,dd⟩,w,a,left++[f],u,())=Z ((jm w a (bu w a) (zK c w a left f u),()),()):=by
 let ⟨a1,a2,r,s⟩:=x.at_
 have t:=x.h;have ol:=x.hw.len;have tl:=x.hw.tl;have j:lG eA=eA:=rfl;have y:∀(q:L bG),bn .i64 ((((w.aQ.length+(0+1):Nat)):Int)) 1=(w.aQ.length:Int):=λq=>by rw[de]<;>omega
 have k:=y [];have z:(left++[l6 f (wq w.aQ.length)]).length=left.length+1:=by simp
 unfold F81 Q6 Q7 ER IX Q8 Cj Q9 zK;unfold bu at r s;cases e:gH w u 5 with
 |some o=>
  let ⟨h1,h2,h3,h4,h5,h6⟩:=ez x.hw d e
  have i:iB c w u eA=Y:=by unfold iB gH;rw[bS (by omega),<-h6,bS (by omega)]
  let ⟨l,A,m⟩:=p o e
  simp[i];split;simp(disch:=omega)only[aV,d127 (λh=>d.ref h),e,jx,d74,am4 (v:=eA) (show o.Frames.length<=90 by omega) l m,aU,d83,kz,jm,gw,bu];simp(disch:=first|omega|simp only[hY];omega)only[aV,d127 (λh=>d.ref h),e,jx,d74,am4 (v:=eA) (show o.Frames.length<=90 by omega) l m,aU,k,d126,x.Si,d83,Int.reduceEq,jY,j,jm,fI,gw,bu,Md]<;>rfl
 |none=>
  cases i:iB c w u eA with|none=>simp(disch:=omega)only[aV,d127 (λh=>d.ref h),e,jx,d74,d128 (λh=>d.code h) (λh=>d.ref h) hn,i,frR,ahw,jm,gw,bu]<;>rfl|some b=>split;simp(disch:=omega)only[aV,d127 (λh=>d.ref h),e,jx,d74,d128 (λh=>d.code h) (λh=>d.ref h) hn,i,frR,aU,d83,kz,jm,gw,bu];simp(disch:=first|omega|simp only[hY];omega)only[aV,d127 (λh=>d.ref h),e,jx,d74,d128 (λh=>d.code h) (λh=>d.ref h) hn,i,frR,aU,k,d126,x.Si,d83,Int.reduceEq,jY,j,jm,fI,gw,bu,Md]<;>rfl
end
def M7{α:Type}(x:O α):aj x (λh=>Z h)=x:=by cases x<;>rfl
section
variable {n:Nat}{c:aB}{dd:List ax}{w w':ai}{left fr:List aq}{f g f0:aq}{a op s form A B:Int}{v u:aA}{o:bG}{i:bT}{l:List aA}{m:Int}
structure Dx(c:aB)(dd:List ax)(w:ai)(left:List aq)(i:bT)(f f0:aq)(l:List aA)(m a:Int):Prop where
 sx:Sx c dd w left i f l m a
 at_:At w a
 hf:f=⟨f0.At+1,f0.Env,f0.Stack.take (f0.Stack.length-l.length),f0.dO⟩
 hl:l=f0.Stack.drop (f0.Stack.length-l.length)
 hi:i=aZ c f0.At
 hle:l.length<=f0.Stack.length
 hm:f0.At=m
 hof:cN w (bu w a)=⟨6,0,[],left++[f0]⟩
def Dx.fx(x:Dx c dd w left i f f0 l m a):Fx c dd w left f a:=⟨x.at_,x.sx.cx.hp,x.sx.cx.hw,x.sx.cx.fl,x.sx.st.1,x.sx.st.2⟩
theorem Dx.kt(x:Dx c dd w left i f f0 l m a){u:aA}(b:cC c w.aQ.length u):∀o,gH w u 5=Z o->o.Frames≠[]/\o.Frames.length<=40/\∀g∈o.Frames,g.Stack.length<=1000:=by intro o d;obtain⟨h1,h2,_⟩:=ez x.sx.cx.hw b d;cases h2 with|Bo p q r=>exact⟨by simp,by grind,λg e=>by have:=(Vc x.sx (by omega) (q g e)).1;omega⟩|_=>cases h1
abbrev Dp(c:aB)(dd:L ax)(w:ai)(left:L aq)(i:bT)(f f0:aq)(l:L aA)(a:Int):Prop:=
 (xR (⟨c,dd⟩,w,a,())=(bu w a).toNat)/\
 (wh (⟨c,dd⟩,w,a,())=(left.length:Int))/\
 (mV (⟨c,dd⟩,w,a,())=f0)/\
 (ep (⟨c,dd⟩,w,a,())=i)/\
 (∀n,F69 n (⟨c,dd⟩,i,())=Z (((l.length:Int),()),()))/\
 (IY (⟨c,dd⟩,w,a,()) (((l.length:Int),()),())=((f0.Stack.length-l.length:Nat):Int))/\
 (mh (⟨c,dd⟩,w,a,()) (((l.length:Int),()),())=l)/\
 (zA (⟨c,dd⟩,w,a,()) (((l.length:Int),()),())=e8 l 0)/\
 (aM a w.aY=W)/\
 (aM (w.aY.getD a.toNat 0) w.aQ=W)/\
 ((w.aQ.getD (bu w a).toNat bD).N=0)/\
 ((w.aQ.getD (bu w a).toNat bD).Frames=left++[f0])/\
 (aM (left.length:Int) (left++[f0])=W)/\
 (aM f0.At c.dJ=W)/\
 (eF ((f0.Stack.length-l.length:Nat):Int) (au f0.Stack) (au f0.Stack)=W)/\
 (eF 0 (left.length:Int) (au (left++[f0]))=W)/\
 (eF 0 ((f0.Stack.length-l.length:Nat):Int) (au f0.Stack)=W)/\
 (cO (left++[f0]) 0 (left.length:Int)=left)/\
 ((⟨aJ .i64 f0.At 1,f0.Env,cO f0.Stack 0 ((f0.Stack.length-l.length:Nat):Int),f0.dO⟩:aq)=f)/\
 (∀n,F70 n (left,f,())=Z ((left++[f],()),()))
theorem Dx.parts(x:Dx c dd w left i f f0 l m a):Dp c dd w left i f f0 l a:=by
 have q:=x.sx.cx.fl;have r:=x.sx.st;have s:=x.sx.cx.n0;have t:=x.sx.cx.n1;have u:=x.sx.cx.hp.len;have v:=x.hle;have g:=x.sx.cx.ll;have A:=x.hm;have d:=x.at_;have fl:f.Stack.length=f0.Stack.length-l.length:=by rw[x.hf];simp
 have y:f0.Stack.length<=60:=by have:=x.sx.cx.sl;have:=(x.sx.cx.hp.dep.ok m x.sx.cx.n0 x.sx.cx.n1 x.sx.cx.re);omega
 have b:bE w.aQ (bu w a).toNat bD=⟨6,0,[],left++[f0]⟩:=x.hof;have j:xR (⟨c,dd⟩,w,a,())=(bu w a).toNat:=rfl;have k:wh (⟨c,dd⟩,w,a,())=(left.length:Int):=by unfold wh;rw[j,b];show bn .i64 (((left++[f0]).length:Nat):Int) 1=_;rw[jR,m8,de]<;>omega
 have e:mV (⟨c,dd⟩,w,a,())=f0:=by unfold mV;rw[k,j,b];exact ir _ _ _ _ (by simp[aC])
 have z:ep (⟨c,dd⟩,w,a,())=i:=by unfold ep;rw[e,x.hi];rfl
 have o:IY (⟨c,dd⟩,w,a,()) (((l.length:Int),()),())=((f0.Stack.length-l.length:Nat):Int):=by unfold IY;rw[e];show bn .i64 ((f0.Stack.length:Nat):Int) (l.length:Int)=_;rw[de]<;>omega
 have p:mh (⟨c,dd⟩,w,a,()) (((l.length:Int),()),())=l:=by unfold mh;rw[e,o];show cO f0.Stack _ ((f0.Stack.length:Nat):Int)=_;rw[Cw,uP];exact x.hl.symm
 have io:=x.sx.cx.io;refine⟨j,k,e,z,?_,o,p,by unfold zA;rw[p];rfl,iw.2 ⟨d.lo,d.hi⟩,iw.2 ⟨d.tlo,d.thi⟩,by show(bE w.aQ (bu w a).toNat bD).N=0;rw[b],by show(bE w.aQ (bu w a).toNat bD).Frames=_;rw[b],iw.2 (by simp;omega),iw.2 (by omega),vE.2 (by simp only[au];omega),vE.2 (by grind[au,List.length_append,List.length_singleton]),
  vE.2 (by simp only[au];omega),kr _ _ rfl,?_,λ_=>d70 (by omega)⟩
 intro n;rw[d69 io.lo io.hi (λh=>⟨(io.con h).1,(io.con h).2,(x.sx.cx.hp.cons _ (bV _ (by have:=io.con h;omega))).1⟩),g];rw[x.hf,yg,uP,bQ (by omega) (by omega)]
abbrev D37(c:aB)(dd:L ax)(w:ai)(left:L aq)(i:bT)(f:aq)(l:L aA)(a:Int):Prop:=Ev (λn=>F37 n (⟨c,dd⟩,w,a,())) ((jm w a (bu w a) (l7 c w a left i f l),()),())
end
section
variable {n:Nat}{c:aB}{dd:List ax}{w w':ai}{left fr:List aq}{f g f0:aq}{a op s form A B:Int}{v u:aA}{o:bG}{i:bT}{l:List aA}{m:Int}
theorem aiC(x:Dx c dd w left i f f0 l m a):D37 c dd w left i f l a:=by
 have h1:=x.sx.cx.io.lo;have h2:=x.sx.cx.io.hi;have io:=x.sx.cx.io;have nd:=x.sx.cx.nd;have fx:=x.fx;have q:=fx.h;have F:=fx.h';have I:=fx.e;have K:=x.sx.cx.hw.len;have on:=λ(n:Nat)g=>fx.on (n:=n) g;have s:f.Env=f0.Env:=by rw[x.hf]
 have P:f.dO=f0.dO:=by rw[x.hf]
 have t:cO (left++[f]) 0 (left.length:Int)=left:=kr _ _ rfl;have C:lG eA=eA:=rfl;have p:=x.parts;unfold D37 F37 VP Lx Np TP No TO DF;simp only[p];by_cases o:i.Op=9\/i.Op=10\/i.Op=11\/i.Op=12\/i.Op=19;refine Ev.n9 (g:=λn=>F77 n (⟨c,dd⟩,w,a,left++[f],i,l,())) (λn=>?_) (d77 fx (by have:=fx.hp.pl;omega) io x.sx.cx.vals (λh=>(fx.hp.pats _ (bV _ (by have:=io.BN h;omega))).2) (λh=>by have:=nd.2.2.1 h;have:=x.sx.cx.el;omega) (λh=>by obtain h|h|h:=h<;>exact x.sx.cx.tl h (by decide)) o);obtain h|h|h|h|h:=o<;>(simp(disch:=omega)only[aV,h,p,aU];exact M7 _)
 obtain⟨k,R⟩:∃k:Nat,i.Op=k:=⟨_,(zR (by omega)).symm⟩;have y:1<=k:=by omega
 have z:k<=34:=by omega
 unfold l7;rw[show i.Op.toNat=k by omega]
 match k,R,y,z with
 |9,h,_,_|10,h,_,_|11,h,_,_|12,h,_,_|19,h,_,_=>omega|k+35,_,_,_=>omega|1,h,_,_=>refine bC λn=>?_;simp(disch:=omega)only[aV,h,p,aU,d43,fx.Si,on]<;>rfl|2,h,_,_=>refine bC λn=>?_;simp(disch:=omega)only[aV,h,p,aU,am2,fx.Si,on]<;>rfl|3,h,_,_=>refine bC λn=>?_;simp(disch:=omega)only[aV,h,p,aU,d74,fx.Si,on]<;>rfl|4,h,_,_=>
  have hA:=io.place h;have S:=nd.2.1 h;have hee:=x.sx.cx.el;rw[s]at *
  have hb:aM i.A f0.Env=W:=iw.2 (by omega);refine bC λn=>?_;simp(disch:=omega)only[aV,h,p,aU,hb,fx.Si,on]<;>rfl
 |5,h,_,_=>refine bC λn=>?_;simp(disch:=omega)only[aV,h,p,aU,fx.Si,on]<;>rfl|6,h,_,_=>refine bC λn=>?_;simp(disch:=omega)only[aV,h,p,aU,s,d75 fx.at_ (show w.aQ.length<=1000 by omega) fx.h (show f.Stack.length<=900 by omega)]<;>rfl
 |7,h,_,_=>obtain⟨u,v,b,e,d⟩:=x.sx.two h (by decide) rfl;refine bC λn=>?_;simp(disch:=omega)only[aV,h,p,aU];subst b;simp(disch:=first|omega|simp only[hY];omega)only[aV,aU,kV,GI,e8,d76 (v:=v) (r:=J) (left:=left++[f]) fx.at_ fx.hp fx.hw e (mB x.sx e) (x.kt e) (by simp;omega)]<;>rfl
 |8,h,_,_=>obtain⟨u,v,b,e,d⟩:=x.sx.two h (by decide) rfl;refine bC λn=>?_;simp(disch:=omega)only[aV,h,p,aU];subst b;simp(disch:=first|omega|simp only[hY];omega)only[aV,aU,kV,GI,e8,P,t,d76 (v:=v) (left:=left) fx.at_ fx.hp fx.hw e (mB x.sx e) (x.kt e) (by omega)]<;>rfl
 |13,h,_,_=>have h:i.Op=13:=h;obtain⟨u,v,b,e,d⟩:=x.sx.two h (by decide) rfl;refine bC λn=>?_;simp(disch:=omega)only[aV,h,p,aU];subst b;simp(disch:=first|omega|simp only[hY];omega)only[aV,aU,kV,GI,e8,d78 (left:=left) (f:=f) fx.at_ (.inl rfl) e d fx.h (by omega)]<;>rfl
 |14,h,_,_=>have h:i.Op=14:=h;obtain⟨u,v,b,e,d⟩:=x.sx.two h (by decide) rfl;refine bC λn=>?_;simp(disch:=omega)only[aV,h,p,aU];subst b;simp(disch:=first|omega|simp only[hY];omega)only[aV,aU,kV,GI,e8,d78 (left:=left) (f:=f) fx.at_ (.inr (.inl rfl)) e d fx.h (by omega)]<;>rfl
 |15,h,_,_=>have h:i.Op=15:=h;obtain⟨u,v,b,e,d⟩:=x.sx.two h (by decide) rfl;refine bC λn=>?_;simp(disch:=omega)only[aV,h,p,aU];subst b;simp(disch:=first|omega|simp only[hY];omega)only[aV,aU,kV,GI,e8,d78 (left:=left) (f:=f) fx.at_ (.inr (.inr (.inl rfl))) e d fx.h (by omega)]<;>rfl
 |16,h,_,_=>have h:i.Op=16:=h;obtain⟨u,v,b,e,d⟩:=x.sx.two h (by decide) rfl;refine bC λn=>?_;simp(disch:=omega)only[aV,h,p,aU];subst b;simp(disch:=first|omega|simp only[hY];omega)only[aV,aU,kV,GI,e8,d78 (left:=left) (f:=f) fx.at_ (.inr (.inr (.inr (.inl rfl)))) e d fx.h (by omega)]<;>rfl
 |17,h,_,_=>have h:i.Op=17:=h;obtain⟨u,v,b,e,d⟩:=x.sx.two h (by decide) rfl;refine bC λn=>?_;simp(disch:=omega)only[aV,h,p,aU];subst b;simp(disch:=first|omega|simp only[hY];omega)only[aV,aU,kV,GI,e8,d78 (left:=left) (f:=f) fx.at_ (.inr (.inr (.inr (.inr rfl)))) e d fx.h (by omega)]<;>rfl
 |18,h,_,_=>refine bC λn=>?_;simp(disch:=omega)only[aV,h,p,aU,d75 fx.at_ (show w.aQ.length<=1000 by omega) fx.h (show f.Stack.length<=900 by omega)]<;>rfl
 |20,h,_,_=>refine bC λn=>?_;simp(disch:=omega)only[aV,h,p,aU,d79 fx.at_]<;>rfl|21,h,_,_=>have h:i.Op=21:=h;obtain⟨v,b,d⟩:=x.sx.one h (by decide) rfl;refine bC λn=>?_;simp(disch:=omega)only[aV,h,p,aU];subst b;simp only[aV,aU,at2 fx rfl]<;>rfl
 |22,h,_,_=>have h:i.Op=22:=h;obtain⟨v,b,d⟩:=x.sx.one h (by decide) rfl;refine bC λn=>?_;simp(disch:=omega)only[aV,h,p,aU];subst b;simp only[aV,aU,at1 fx rfl d]<;>rfl
 |23,h,_,_=>have h:i.Op=23:=h;obtain⟨u,v,b,e,d⟩:=x.sx.two h (by decide) rfl;refine bC λn=>?_;simp(disch:=omega)only[aV,h,p,aU];subst b;simp only[aV,aU,at0 fx rfl e]<;>rfl
 |24,h,_,_=>obtain⟨v,b,d⟩:=x.sx.one h (by decide) rfl;refine bC λn=>?_;simp(disch:=omega)only[aV,h,p,aU];subst b;simp(disch:=first|omega|simp only[hY];omega)only[aV,aU,kV,GI,e8,d81 fx d (mB x.sx d) (x.kt d)]<;>rfl
 |25,h,_,_=>obtain⟨v,b,d⟩:=x.sx.one h (by decide) rfl;refine bC λn=>?_;simp(disch:=omega)only[aV,h,p,aU];subst b;simp(disch:=first|omega|simp only[hY];omega)only[aV,aU,kV,GI,e8,d82 fx d]<;>rfl
 |26,h,_,_=>refine bC λn=>?_;simp(disch:=omega)only[aV,h,p,aU,d75 fx.at_ (show w.aQ.length<=1000 by omega) fx.h (show f.Stack.length<=900 by omega),d74,d83]<;>(unfold l9;split<;>simp[jm,fI,C,M7])
 |27,h,_,_=>have h:i.Op=27:=h;obtain⟨u,v,b,e,d⟩:=x.sx.two h (by decide) rfl;refine bC λn=>?_;simp(disch:=omega)only[aV,h,p,aU];subst b;simp only[aV,aU,atZ fx rfl e]<;>rfl
 |28,h,_,_=>have h:i.Op=28:=h;obtain⟨v,b,d⟩:=x.sx.one h (by decide) rfl;refine bC λn=>?_;simp(disch:=omega)only[aV,h,p,aU];subst b;simp only[aV,aU,atY fx rfl d]<;>rfl
 |29,h,_,_=>obtain⟨v,b,d⟩:=x.sx.one h (by decide) rfl;obtain⟨A,A1,B1⟩:=i;have h:A=29:=h;subst h;refine bC λn=>?_;simp(disch:=omega)only[aV,p,aU];subst b;simp only[aV,aU,atW fx rfl]<;>rfl
 |30,h,_,_=>obtain⟨A,A1,B1⟩:=i;have h:A=30:=h;subst h;refine bC λn=>?_;simp(disch:=omega)only[aV,p,aU,atX fx]<;>rfl
 |31,h,_,_=>refine bC λn=>?_;have B:=λg=>d71 (n:=n) (fr:=left++[f]++[g]) fx.at_ (by simp;omega);rw[s,show jl w (left++[f]) [⟨i.A,f0.Env,[],W⟩]=jl w [] (left++[f]++[⟨i.A,f0.Env,[],W⟩])by unfold jl;simp];simp(disch:=first|omega|simp only[hY];omega)only[aV,h,p,aU,d70 (left:=left++[f]),B]<;>rfl
 |32,h,_,_=>refine Ev.n9 (g:=λn=>F86 n (w,a,left++[f],i.A,())) (λn=>?_) (d86 fx);simp(disch:=omega)only[aV,h,p,aU];exact M7 _|33,h,_,_=>refine bC λn=>?_;simp(disch:=omega)only[aV,h,p,aU,d74,fx.Si,on,d83]<;>simp[jm,fI,C,M7]|34,h,_,_=>
  have j:=x.sx.cx.left;obtain⟨v,b,d⟩:=x.sx.one h (by decide) rfl;have c3:eF 0 (left.length:Int) (au (left++[f]))=W:=vE.2 (by grind[au,List.length_append,List.length_singleton]);have t3:=fx.at_.tlo;have t4:=fx.at_.thi;refine bC λn=>?_;simp(disch:=omega)only[aV,h,p,aU,t];have hle:=x.hle;subst b;obtain rfl|⟨E,g,rfl⟩:=UD left
  simp(disch:=first|omega|simp only[hY];omega)only[aV,p,aU,kV,e8,d88]<;>rfl;rw[UC]at *
  have hg:=(Vc x.sx (by omega) (j g (by simp))).1;simp only[jR,m8]at q;have on:=λg'=>aa8 (n:=n) (fr:=E++[g']) fx.at_ (by simp;omega);rw[Gy];simp(disch:=first|omega|simp only[hY];omega)only[aV,p,aU,kV,e8,t,d72 (left:=E) (g:=g) (v:=v) (by omega) (by omega),on]<;>rfl
end
section
variable {n:Nat}{c:aB}{dd:List ax}{w w':ai}{left fr:List aq}{f g f0:aq}{a op s form A B:Int}{v u:aA}{o:bG}{i:bT}{l:List aA}{m:Int}
def Dm(w:ai):O (ai×O aE)->bq
 |none=>⟨w,2,bP⟩|some (w',Y)=>⟨w',0,bP⟩|some (w',Z e)=>⟨w',1,e⟩
theorem d37(p:pX c dd)(h:jr c dd w)(i:0<=a)(h1:a<w.aY.length):Ev (λn=>F37 n (⟨c,dd⟩,w,a,())) ((Dm w (ig c w a),()),()):=by
 obtain⟨t1,t2,t3⟩:=h.task _ (bV 0 (show a.toNat<w.aY.length by omega));have l:=h.ob t1 t2;change 0<=bu w a at t1;change bu w a<_ at t2;change(cN w (bu w a)).Form=6 at t3;change fX c dd _ (cN w (bu w a))at l;unfold ig;simp only;by_cases j:(cN w (bu w a)).N=0
 .rw[bS (by omega)];obtain⟨m,f,d,q,t,u⟩:=Bu l t3 j;have o:=Vn p h q t u;have g:=o.ll;have y:cz c (aZ c f.At)<=f.Stack.length:=by
   grind
  have x:Dx c dd w m (aZ c f.At) ⟨f.At+1,f.Env,f.Stack.take (f.Stack.length-cz c (aZ c f.At)),f.dO⟩ f (f.Stack.drop (f.Stack.length-cz c (aZ c f.At))) f.At a:=
   ⟨⟨o,i,h1⟩,⟨i,h1,t1,t2⟩,by rw[g],by rw[g],rfl,by omega,rfl,d⟩
  have b:=aiC x;unfold D37 at b;rw[d,HR]
  revert b
  generalize l7 c w a m (aZ c f.At) _ _=r;intro b;cases r with|waits=>exact b|fail s=>exact b|done v=>exact b|go w' fr e=>cases e<;>exact b
 rw[bH j];refine bC λn=>?_;have z:xR (⟨c,dd⟩,w,a,())=(bu w a).toNat:=rfl;have k:(w.aQ.getD (bu w a).toNat bD).N≠0:=j;have A:aM a w.aY=W:=iw.2 ⟨i,h1⟩;have B:aM (w.aY.getD a.toNat 0) w.aQ=W:=iw.2 ⟨t1,t2⟩;unfold F37;rw[z];simp(disch:=omega)only[aV,k,A,B]<;>rfl
end
section
variable {c:aB}{D out:List ax}{n:Int}{d:ax}
structure AH(c:aB):Prop where
 len:1<=c.dJ.length/\c.dJ.length<=1500
 ins:∀i∈c.dJ,Q3 c i
 pats:∀q∈c.ey,tW c.Cons q/\pw q<=12
 pl:c.ey.length<=100
 pF:∀f∈c.dh,0<=f/\f<c.dJ.length
 fl:1<=c.dh.length/\c.dh.length<=300
 main:0<=c.Main/\c.Main<c.dh.length
 cons:∀k∈c.Cons,0<=k.lE/\k.lE<=3
def AH.pok(h:AH c)(a:Rn c D):pX c D:=⟨h.len,h.ins,h.pats,h.pl,h.pF,h.fl,h.main,h.cons,a⟩
structure Good(c:aB)(n:Int)(d:ax):Prop where
 lo:0<=n
 hi:n<c.dJ.length
 st:d.Stack<=60
 en:d.Env<=30
 ne:zg c (aZ c n) d
 re:d.Reached=W
def NoD(c:aB):Prop:=¬∃D,Rn c D
theorem Bf(g:AH c)(h:LF c n d)(i:¬Good c n d):NoD c:=λ⟨D,f⟩=>by obtain⟨a,b,e,r⟩:=f.CL g.pF h;obtain⟨x,y,z⟩:=f.ok n a b (by grind);rw[e]at x y z;exact i ⟨a,b,x,y,z,r⟩
def ZA(a:AH c){b:ax}(h:LF c n d)(g:LF c n b)(i:d≠b):NoD c:=λ⟨D,f⟩=>by
 obtain⟨_,_,e,_⟩:=f.CL a.pF h;obtain⟨_,_,j,_⟩:=f.CL a.pF g
 simp_all
theorem FL{n:Int}(hn:0<=n)(a:n<out.length){m:Int}(b:0<=m):ee (out.set n.toNat d) m=if m=n then d else ee out m:=by
 unfold ee
 grind
def rH(out:L ax):Nat:=out.countP λd=>!d.Reached
theorem Pc:rH out<=out.length:=List.countP_le_length
theorem Ky:∀{out:L ax}{k:Nat},k<out.length->(out.getD k aW).Reached=J->d.Reached=W->rH (out.set k d)+1=rH out
 |a::out,0,_,h,b=>by
  grind[List.getD_cons_zero,rH]
 |a::out,k+1,c,h,b=>by
  grind[rH]
structure PI(c:aB)(T:Int->Prop)(out:List ax):Prop where
 len:out.length=c.dJ.length
 re:∀n:Int,0<=n->n<c.dJ.length->(ee out n).Reached=W->LF c n (ee out n)/\Good c n (ee out n)
 fo:∀n:Int,0<=n->n<c.dJ.length->(ee out n).Reached=W->¬T n->∀x∈dV c n (ee out n),0<=x.1/\x.1<c.dJ.length/\ee out x.1=x.2
 zero:∀n:Int,0<=n->n<c.dJ.length->(ee out n).Reached=J->ee out n=aW
theorem PI.mono{T d:Int->Prop}(h:PI c T out)(e:∀n,T n->d n):PI c d out:=⟨h.len,h.re,λn a b r f=>h.fo n a b r λg=>f (e n g),h.zero⟩
def PI.done(h:PI c (λ_=>False) out)(d:∀f∈c.dh,ee out f=cm 0 1):Rn c out:=
 ⟨h.len,d,λn a b r=>⟨(h.re n a b r).2.st,(h.re n a b r).2.en,(h.re n a b r).2.ne⟩,λn a b r=>h.fo n a b r id,λn a b r=>(h.re n a b r).1,h.zero⟩
theorem PI.set{T:Int->Prop}(h:PI c T out)(q:LF c n d)(i:Good c n d)(s:(ee out n).Reached=J):PI c (λm=>T m\/m=n) (out.set n.toNat d):=by
 have l:=h.len;have e:∀{m:Int},0<=m->ee (out.set n.toNat d) m=if m=n then d else ee out m:=λf=>FL i.lo (by rw[l];exact i.hi) f
 refine⟨by simp_all,λm a b r=>?_,λm a b r j x g=>?_,λm a b r=>?_⟩;rw[e a]at r ⊢;by_cases f:m=n
 simp_all
 rw[bS f]at r ⊢;exact h.re m a b r;have f:m≠n:=λf=>j (.inr f);rw[e a,bS f]at r g;obtain⟨k,o,p⟩:=h.fo m a b r (λg=>j (.inl g)) x g;refine⟨k,o,?_⟩;rw[e k,bS];exact p
 grind[Bh]
 rw[e a]at r ⊢;by_cases f:m=n;rw[bH f,i.re]at r;cases r;rw[bS f]at r ⊢;exact h.zero m a b r
def kg(out a:L ax):Prop:=∀m:Int,0<=m->(ee out m).Reached=W->ee a m=ee out m
theorem kg.refl:kg out out:=λ_ _ _=>rfl
def kg.trans{a b e:L ax}(h:kg a b)(d:kg b e):kg a e:=λm c r=>(d m c (by rw[h m c r];exact r)).trans (h m c r)
theorem W1(hl:out.length=c.dJ.length)(a:Good c n d)(e:(ee out n).Reached=J):kg out (out.set n.toNat d):=λm b r=>by
 rw[FL a.lo (by rw[hl];exact a.hi) b,bS]
 grind
end
section
variable {n:Nat}{c:aB}{dd:List ax}{i:bT}{d:ax}{m:Int}{op s e:Int}
theorem XU(n k:Nat):R163 n (k+1)=B163 n (R163 n k):=rfl
mutual
def ua:∀q:aI,0<=gq q/\gq q<=pw q
 |⟨a,_,_,parts⟩=>by have:=Kr parts;unfold gq pw;omega
def Kr:∀qs:L aI,0<=j8 qs/\j8 qs<=o9 qs
 |[]=>by unfold j8 o9;omega
 |q::qs=>by have:=ua q;have:=Kr qs;unfold j8 o9;omega
end
theorem Bl:∀qs:L aI,qs.length<=o9 qs
 |[]=>GH _|⟨_,_,_,_⟩::qs=>by unfold o9 pw;have:=Bl qs;grind
def Names(q:aI):Prop:=wI R163 (q,()) ((gq q,()),())
theorem Ks{R B P:Type}(d:Nat):∀(qs pre:L aI)(k:Int),0<=k->k+(o9 qs:Int)<=100000->pre.length+qs.length<=100000->(∀q∈qs,Names q)->
  ∀F:Nat->Int×Int×U->O (LO (Int×Int×U) R B P),
  (∀n g,F n g=ak (aG g.2.1 (au (pre++qs))) (aS (aM g.2.1 (pre++qs)) (aj (R163 n (n-d) (@bE aI (pre++qs) (aC g.2.1) aR,())) λh=>Z (N (aJ .i64 g.1 h.1.1,aJ .i64 g.2.1 1,())))) (Z (H 0 g)))->
  fu F (k,(pre.length:Int),()) (.out 0 (k+j8 qs,((pre++qs).length:Int),()))
 |[],pre,k,_,_,_,_,F,b=>by unfold j8;refine .out (bC λn=>?_);rw[b];simp(disch:=omega) [aV,iP,GK]<;>rfl
 |q::qs,pre,k,l,h1,e,c,F,b=>by
  unfold o9 at h1;simp at e;have m:=ua q;have f:(pre++q::qs).getD pre.length aR=q:=rL ..;have h2:=Ks (R:=R) (B:=B) (P:=P) d qs (pre++[q]) (k+gq q) (by omega) (by omega) (by simp;omega) (λi h=>c i (ie _ h)) F (λn g=>by rw[b];simp<;>rfl);have h3:=c q eN d;simp only[wv,Mg]at h2;unfold j8;rw[<-Int.add_assoc];refine .next (y:=(k+gq q,((pre++[q]).length:Int),())) ?_ h2
  let ⟨a,h3⟩:=h3
  refine⟨a,λn j=>?_⟩;have:=h3 n j;show F n _=_;rw[b];simp(disch:=first|omega|simp only[hY];omega)only[aV,f,fK,fM];refine(eC (λx=>aj x _) this).trans ?_;show Z (N (aJ .i64 k (gq q),aJ .i64 (pre.length:Int) 1,()))=_
  grind[bQ]
theorem names{cons:L cL}:∀q:aI,pw q<=1000->tW cons q->Names q
 |⟨a,n0,text,parts⟩,o,f=>by
  have j:a=2->parts=[]:=by
   grind[tW]
  have l:nV cons parts:=by
   obtain b|b|b|b:=f
   rw[b.2.2.2];trivial;rw[b.2.2.2];trivial;rw[b.2.2.2];trivial
   simp_all
  unfold pw at o;have u:=Bl parts;refine wI.step XU λd=>?_;have m:=λ(k:Int)(p:0<=k)(h1:k<=1)=>Ks (R:=Int×U) (B:=U) (P:=Any) d parts [] k p (by omega) (by grind) (λq r=>names' parts (by omega) l q r) _ (λn g=>rfl);have hB:∀n,B163 n (R163 n (n-d)) (⟨a,n0,text,parts⟩,())=aj (@iter (Int×Int×U) (Int×U) U Any (λg=>ak (aG g.2.1 (au parts)) (aS (aM g.2.1 parts) (aj (R163 n (n-d) (@bE aI parts (aC g.2.1) aR,())) λh=>Z (N (aJ .i64 g.1 h.1.1,aJ .i64 g.2.1 1,())))) (Z (H 0 g))) n ((if a=2 then 1 else 0),0,())) λg=>bU g (λ_ i=>Z ((i.1,()),())) (λ_ i=>Z (i,())) λ_(_:Any)=>Y:=by intro n;unfold B163;by_cases h:a=2;simp only[aV,h,kz,aU]<;>rfl;simp(disch:=omega)only[aV,h,jY,aU]<;>rfl
  refine Ev.n9 hB ?_;by_cases h:a=2;rw[bH h];refine Ev.bp (m 1 (by omega) (by omega)) (λn e=>_) _ ?_;exact bC λn=>by unfold gq;rw[bH h,j h];rfl
  rw[bS h];refine Ev.bp (m 0 (by omega) (by omega)) (λn e=>_) _ ?_;exact bC λn=>by unfold gq;rw[bS h,Int.zero_add];rfl
where
 names':∀(c:L aI),o9 c<=1000->nV cons c->∀q∈c,Names q
 |[],_,_,_,h=>by cases h
 |q::c,s,f,t,h=>by
  unfold o9 at s;obtain h|h:=gn.1 h
  rw[h];exact names q (by omega) f.1;exact names' c (by omega) f.2 t h
def ID(c:aB)(i:bT):Int:=if i.Op=8 then -3 else if i.Op=34 then -2 else cz c i
def d160(h1:1<=i.Op)(h2:i.Op<=34)(f:i.Op=18->0<=i.A/\i.A<c.Cons.length/\0<=(c.Cons.getD i.A.toNat br).lE):F160 n (c,i,())=Z ((ID c i,()),()):=by
 by_cases a:i.Op=18
 let ⟨g,j,l⟩:=f a
 unfold F160 AA xU ID cz lz;rw[bH a,bS (by omega),bS (by omega)];simp(disch:=omega)only[aV,aU];rw[show(((c.Cons.getD i.A.toNat br).lE.toNat:Nat):Int)=(c.Cons.getD i.A.toNat br).lE by omega];obtain⟨k,b⟩:∃k:Nat,i.Op=k:=⟨_,(zR (by omega)).symm⟩;have d:1<=k:=by omega
 have e:k<=34:=by omega
 unfold ID cz;rw[bS a,show i.Op.toNat=k by omega];unfold F160;simp only[b]
 match k,d,e,b with
 |18,_,_,b=>omega
 |1,_,_,_|2,_,_,_|3,_,_,_|4,_,_,_|5,_,_,_|6,_,_,_|7,_,_,_|8,_,_,_|9,_,_,_|10,_,_,_|11,_,_,_|12,_,_,_|13,_,_,_|14,_,_,_|15,_,_,_|16,_,_,_|17,_,_,_
 |19,_,_,_|20,_,_,_|21,_,_,_|22,_,_,_|23,_,_,_|24,_,_,_|25,_,_,_|26,_,_,_|27,_,_,_|28,_,_,_|29,_,_,_|30,_,_,_|31,_,_,_|32,_,_,_|33,_,_,_|34,_,_,_=>rfl|k+35,_,h,_=>omega
theorem d108:F108 n (s,e,())=Z ((cm s e,()),()):=rfl
def CD(l:L (Int×ax)):L bz:=l.map λx=>⟨x.1,x.2⟩
def d161:F161 n (op,())=Z ((decide (op=8\/op=20\/op=34),()),()):=by unfold F161;by_cases h1:op=8;simp only[aV,h1]<;>rfl;by_cases h2:op=20;simp(disch:=omega)only[aV,h2]<;>rfl;simp(disch:=omega)only[aV,h1,h2,false_or]<;>rfl
def d162:F162 n (op,())=Z ((!decide (op=9\/op=10\/op=11\/op=12\/op=19),()),()):=by unfold F162 DL;by_cases h1:op=9;simp only[aV,h1]<;>rfl;by_cases h2:op=10;simp(disch:=omega)only[aV,h2]<;>rfl;by_cases h3:op=11;simp(disch:=omega)only[aV,h3]<;>rfl;by_cases h4:op=12;simp(disch:=omega)only[aV,h4]<;>rfl;by_cases h5:op=19;simp(disch:=omega)only[aV,h5]<;>rfl;simp(disch:=omega) [aV,h1,h2,h3,h4,h5,or_self,decide_false,Mc]<;>rfl
structure Lo(d:ax):Prop where
 re:d.Reached=W
 s:0<=d.Stack
 e:0<=d.Env
def AH.io(h:AH c)(a:0<=m)(h1:m<c.dJ.length):Q3 c (aZ c m):=h.ins _ (bV _ (by omega))
def AH.cn(h:AH c)(a:0<=m)(h1:m<c.dJ.length):(aZ c m).Op=18->0<=(aZ c m).A/\(aZ c m).A<c.Cons.length/\0<=(c.Cons.getD (aZ c m).A.toNat br).lE:=
 λb=>by have:=(h.io a h1).con b;exact⟨this.1,this.2,(h.cons _ (bV _ (by omega))).1⟩
def Gb(h:AH c)(b:0<=m)(h1:m<c.dJ.length):cz c (aZ c m)<=3:=by
 unfold cz lz;split;rename_i a;have:=(h.io b h1).con a;have:=(h.cons _ (bV br (show(aZ c m).A.toNat<c.Cons.length by omega)));omega;have:∀k:Nat,lI.getD k 0<=3:=by
  intro k;by_cases a:k<35;have:∀k:Fin 35,lI.getD k.1 0<=3:=by decide
  exact this ⟨k,a⟩
  simp_all[lI]
 exact this _
def am5(j:AH c)(l:0<=m)(h1:m<c.dJ.length)(hn:¬zg c (aZ c m) d):F109 n (c,m,d,())=Z (([],J,()),()):=by
 have io:=j.io l h1;have a:=d160 (n:=n) (c:=c) (i:=aZ c m) io.lo io.hi (j.cn l h1);have e:iu (c,m,d,())=aZ c m:=rfl;generalize aZ c m=i at *
 have o:∀k:Nat,i.Op=k->k≠18->cz c i=lI.getD k 0:=λk h q=>by unfold cz;rw[bS (by omega),show i.Op.toNat=k by omega]
 unfold F109;unfold ID at a;unfold zg at hn;by_cases f:i.Op=8;rw[bH f]at a;have:=o 8 f (by decide);have g:cz c i=2:=this;have p:d.Stack≠2:=λh=>hn ⟨by omega,by omega,by omega,λ_=>h,by omega⟩;simp(disch:=omega) [aV,e,a,show bn .i64 (-1) (-3)=2 from rfl]<;>rfl;by_cases b:i.Op=34;rw[bS f,bH b]at a;have g:cz c i=1:=o 34 b (by decide);have p:d.Stack≠1:=λh=>hn ⟨by omega,by omega,by omega,by omega,λ_=>h⟩;simp(disch:=omega) [aV,e,a,show bn .i64 (-1) (-2)=1 from rfl]<;>rfl;by_cases r:d.Stack<(cz c i:Int);simp(disch:=omega) [aV,e,a]<;>rfl;by_cases s:i.Op=4;have p:d.Env<=i.A:=by omega
 simp(disch:=omega) [aV,e,a]<;>rfl
 simp_all[DO,aV]
def d109(q:AH c)(v:0<=m)(h1:m<c.dJ.length)(hn:zg c (aZ c m) d)(C:Lo d)(hs:d.Stack<=60)(he:d.Env<=30):Ev (λn=>F109 n (c,m,d,())) ((CD (dV c m d),W,()),()):=by
 have io:=q.io v h1;have E:=q.len;have b:=λn=>d160 (n:=n) (c:=c) (i:=aZ c m) io.lo io.hi (q.cn v h1);have g:iu (c,m,d,())=aZ c m:=rfl;have hi:aM m c.dJ=W:=iw.2 ⟨v,h1⟩;have ht:=Gb q v h1;have r:dV c m d=(let i:=aZ c m;let s:=gk c i d
  match i.Op.toNat with
  |8|20|34=>[]|9=>[(m+1,cm s (d.Env+1))]|10=>[(m+1,cm s (d.Env-i.A))]|11=>[(i.A,d)]|12=>[(m+1,cm s d.Env),(i.A,cm s d.Env)]|19=>[(m+1,cm s (d.Env+gq (jd c i.A))),(i.B,d)]|6|32=>[(m+1,cm s d.Env),(i.A,cm 0 (d.Env+1))]|31=>[(m+1,cm s d.Env),(i.A,cm 0 d.Env)]|_=>[(m+1,cm s d.Env)]):=by rfl
 rw[r];clear r;generalize aZ c m=i at *
 have tk:∀k:Nat,i.Op=k->k≠18->cz c i=lI.getD k 0:=λk h I=>by unfold cz;rw[bS (by omega),show i.Op.toNat=k by omega]
 let ⟨n1,n2,n3,K,P⟩:=hn
 have R:=C.s;have S:=C.e;have am:aJ .i64 m 1=m+1:=bQ (by omega) (by omega);simp only;by_cases z:i.Op=8;rw[show i.Op.toNat=8 by omega];refine bC λn=>?_;have b:=b n;unfold ID at b;rw[bH z]at b;have:=K z;unfold F109;simp(disch:=omega)only[aV,g,b,show bn .i64 (-1) (-3)=2 from rfl]<;>rfl;by_cases t:i.Op=34;rw[show i.Op.toNat=34 by omega];refine bC λn=>?_;have b:=b n;unfold ID at b;rw[bS z,bH t]at b;have:=P t;unfold F109;simp(disch:=omega)only[aV,g,b,show bn .i64 (-1) (-2)=1 from rfl]<;>rfl;have red:∀n,F109 n (c,m,d,())=nF n (c,m,d,()) (((cz c i:Int),()),()):=by
  intro n;unfold ID at b;unfold F109;by_cases k4:i.Op=4
  simp_all[DO,aV]
  by_cases j:i.Op=10
  simp_all[DO,aV]
  simp_all[DO,aV]
 refine Ev.n9 red ?_;clear red;by_cases k20:i.Op=20;rw[show i.Op.toNat=20 by omega];refine bC λn=>?_;unfold nF;simp(disch:=omega)only[aV,g,d161,k20]<;>rfl;have f:=λn=>d161 (n:=n) (op:=i.Op);rw[jw (show ¬(i.Op=8\/i.Op=20\/i.Op=34)by omega)]at f;have sl:bn .i64 d.Stack (cz c i:Int)=d.Stack-(cz c i:Int):=de (by omega) (by omega);have l:aJ .i64 (d.Stack-(cz c i:Int)) 1=d.Stack-(cz c i:Int)+1:=bQ (by omega) (by omega);have w:∀k:Int,0<=k->k<=1000->aJ .i64 d.Env k=d.Env+k:=λk _ _=>bQ (by omega) (by omega);have p:(i.Op=9\/i.Op=10\/i.Op=11\/i.Op=12\/i.Op=19)->gk c i d=d.Stack-(cz c i:Int):=λh=>by unfold gk;omega
 have lo:¬(i.Op=9\/i.Op=10\/i.Op=11\/i.Op=12\/i.Op=19)->gk c i d=d.Stack-(cz c i:Int)+1:=λh=>by unfold gk;rw[bS h]
 have e:=λn=>d162 (n:=n) (op:=i.Op);by_cases y:i.Op=9\/i.Op=10\/i.Op=11\/i.Op=12\/i.Op=19;rw[kT y]at e;have p:=p y;by_cases F:i.Op=9;rw[show i.Op.toNat=9 by omega,p];refine bC λn=>?_;unfold nF pN;simp(disch:=omega) [aV,g,sl,F,w 1 (by omega) (by omega),d108,am]<;>rfl;by_cases j:i.Op=10;rw[show i.Op.toNat=10 by omega,p];have:=io.drop j;have sa:bn .i64 d.Env i.A=d.Env-i.A:=de (by omega) (by omega);refine bC λn=>?_;unfold nF pN;simp(disch:=omega) [aV,g,sl,j,sa,d108,am]<;>rfl;by_cases k11:i.Op=11;rw[show i.Op.toNat=11 by omega];refine bC λn=>?_;unfold nF pN;simp(disch:=omega) [aV,g,sl,k11]<;>rfl;by_cases k12:i.Op=12;rw[show i.Op.toNat=12 by omega,p];refine bC λn=>?_;unfold nF pN vS r7;simp(disch:=omega) [aV,g,sl,k12,d108,am]<;>rfl;have HE:i.Op=19:=by omega
 rw[show i.Op.toNat=19 by omega,p];have hp:=io.BN HE;have A:=q.pats _ (bV aR (show i.A.toNat<c.ey.length by omega));have B:=ua (c.ey.getD i.A.toNat aR)
 let ⟨a,o⟩:=names _ (by omega) A.1 0
 have u:∀n,a<=n->F163 n (c.ey.getD i.A.toNat aR,())=Z ((gq (c.ey.getD i.A.toNat aR),()),()):=o;refine⟨a,λn hn=>?_⟩;have o:=u n hn;show nF n _ _=_;rw[HE]at f e;unfold nF pN vS r7;simp(disch:=omega) [aV,g,f,e,Jt,aU,sl,HE,d108,am];refine(eC (λx=>aj x _) o).trans ?_;show Z ((([(⟨m+1,cm (d.Stack-(cz c i:Int)) (aJ .i64 d.Env (gq (c.ey.getD i.A.toNat aR)))⟩:bz),⟨i.B,d⟩]:L bz),W,()),())=_;rw[w _ B.1 (by omega)];rfl;rw[jw y]at e;have lo:=lo y;by_cases k6:i.Op=6;rw[show i.Op.toNat=6 by omega,lo];refine bC λn=>?_;unfold nF pN vS r7;simp(disch:=omega) [aV,g,aU,sl,l,k6,w 1 (by omega) (by omega),d108,am]<;>rfl;by_cases k32:i.Op=32;rw[show i.Op.toNat=32 by omega,lo];refine bC λn=>?_;unfold nF pN vS r7;simp(disch:=omega) [aV,g,aU,sl,l,k32,w 1 (by omega) (by omega),d108,am]<;>rfl;by_cases k31:i.Op=31;rw[show i.Op.toNat=31 by omega,lo];refine bC λn=>?_;unfold nF pN vS r7;simp(disch:=omega) [aV,g,aU,sl,l,k31,d108,am]<;>rfl;have F:i.Op≠9:=by omega
 have j:i.Op≠10:=by omega
 have k11:i.Op≠11:=by omega
 have k12:i.Op≠12:=by omega
 have HE:i.Op≠19:=by omega
 have hk:(match i.Op.toNat with
  |8|20|34=>[]|9=>[(m+1,cm (gk c i d) (d.Env+1))]|10=>[(m+1,cm (gk c i d) (d.Env-i.A))]|11=>[(i.A,d)]|12=>[(m+1,cm (gk c i d) d.Env),(i.A,cm (gk c i d) d.Env)]|19=>[(m+1,cm (gk c i d) (d.Env+gq (jd c i.A))),(i.B,d)]|6|32=>[(m+1,cm (gk c i d) d.Env),(i.A,cm 0 (d.Env+1))]|31=>[(m+1,cm (gk c i d) d.Env),(i.A,cm 0 d.Env)]|_=>[(m+1,cm (gk c i d) d.Env)]:L (Int×ax))=[(m+1,cm (gk c i d) d.Env)]:=by
  split<;>first|rfl|(exfalso;omega)
 rw[hk,lo];refine bC λn=>?_;unfold nF pN vS r7;simp(disch:=omega)only[aV,g,f,e,Mc,aU,sl,l,d108,am]<;>rfl
end
section
variable {n:Nat}{c:aB}{i:bT}{d:ax}{m:Int}{op s e:Int}
def aaV{a b:ax}(h:a=b):bR (pZ a.1 b.1) (bR (af a.2 b.2) (bR (af a.3 b.3) W))=W:=by
 subst h
 let ⟨r,s,e⟩:=a
 cases r<;>simp[bR,pZ,af]
theorem af8{a b:ax}(h:a≠b):bR (pZ a.1 b.1) (bR (af a.2 b.2) (bR (af a.3 b.3) W))=J:=by
 let ⟨r,s,e⟩:=a
 let ⟨c,d,f⟩:=b
 grind[bR,pZ,af]
theorem Hi(g:AH c)(i:0<=m)(h1:m<c.dJ.length)(hn:zg c (aZ c m) d)(e:Lo d){x:Int×ax}(a:x∈dV c m d):0<=x.1/\Lo x.2:=by
 have io:=g.io i h1;have j:=Bh a e.re;have h2:=e.s;have h3:=e.e
 let ⟨n1,l,n,o,p⟩:=hn
 have b:0<=gk c (aZ c m) d:=by unfold gk;split<;>omega
 have k:=io.goto;have f:=io.BN
 suffices h:0<=x.1/\0<=x.2.Stack/\0<=x.2.Env from⟨h.1,j,h.2.1,h.2.2⟩
 unfold dV at a;dsimp only at a;split at a<;>rename_i q<;>simp only[gn,List.not_mem_nil,or_false]at a;subst a;exact⟨by omega,b,by show 0<=d.Env+1;omega⟩;subst a;exact⟨by omega,b,by show 0<=d.Env-_;omega⟩
 grind
 obtain a|a:=a<;>subst a
 exact⟨by omega,b,h3⟩;exact⟨by omega,b,h3⟩;have:=f (by omega);obtain a|a:=a<;>subst a
 exact⟨by omega,b,by show 0<=d.Env+_;have:=(ua (jd c (aZ c m).A)).1;omega⟩
 simp_all
 obtain a|a:=a<;>subst a
 exact⟨by omega,b,h3⟩;exact⟨by omega,zd _,by show 0<=d.Env+1;omega⟩;obtain a|a:=a<;>subst a
 exact⟨by omega,b,h3⟩;exact⟨by omega,zd _,by show 0<=d.Env+1;omega⟩;obtain a|a:=a<;>subst a
 exact⟨by omega,b,h3⟩;exact⟨by omega,zd _,h3⟩;subst a;exact⟨by omega,b,h3⟩
def WM:(dV c m d).length<=2:=by unfold dV;dsimp only;split<;>simp
abbrev DX:=L ax×L bz×Int×U
structure DI(c:aB)(x:DX):Prop where
 k:0<=x.2.2.1/\x.2.2.1<=x.2.1.length
 wk:∀r∈x.2.1,LF c r.At r.jV/\Lo r.jV/\0<=r.At
 ag4:∀j:Nat,(j:Int)<x.2.2.1->(x.2.1.getD j bh).At<c.dJ.length/\ee x.1 (x.2.1.getD j bh).At=(x.2.1.getD j bh).jV
 len:x.1.length=c.dJ.length
 re:∀n:Int,0<=n->n<c.dJ.length->(ee x.1 n).Reached=W->LF c n (ee x.1 n)/\Good c n (ee x.1 n)
 fo:∀n:Int,0<=n->n<c.dJ.length->(ee x.1 n).Reached=W->∀y∈dV c n (ee x.1 n),(⟨y.1,y.2⟩:bz)∈x.2.1
 zero:∀n:Int,0<=n->n<c.dJ.length->(ee x.1 n).Reached=J->ee x.1 n=aW
 fl:∀f∈c.dh,(⟨f,cm 0 1⟩:bz)∈x.2.1
 sz:x.2.1.length+2*rH x.1<=c.dh.length+2*c.dJ.length
def DI.done{x:DX}(h:DI c x)(k:x.2.2.1=x.2.1.length):Rn c x.1:=by
 have key:∀r∈x.2.1,0<=r.At/\r.At<c.dJ.length/\ee x.1 r.At=r.jV:=by intro r d;obtain⟨j,e,rfl⟩:=sd d;have:=h.ag4 j (by omega);rw[wB,iZ e]at this;exact⟨(h.wk _ d).2.2,this.1,this.2⟩
 exact PI.done (c:=c) ⟨h.len,h.re,λn a b r _ y g=>key _ (h.fo n a b r y g),h.zero⟩ λf i=>(key _ (h.fl f i)).2.2
def DQ(c:aB)(o:LO DX (L ax×aa×U) U Any):Prop:=
 (∃x:DX,o=.out 0 x/\Rn c x.1)\/(o=.ret () ([],J,())/\NoD c)
theorem XA(s:AH c)(F:Nat->DX->O (LO DX (L ax×aa×U) U Any))
  (v:∀n g,F n g=ak (aG g.2.2.1 (au g.2.1)) (aS (aM g.2.2.1 g.2.1) (aS (ei (aC g.2.2.1) g.2.1) (aS (aM g.2.2.1 g.2.1) (aS (ei (aC g.2.2.1) g.2.1) (ak (bB (au c.1) (bE g.2.1 (aC g.2.2.1) bh).1) (nO n) (ak (aG 60 (bE g.2.1 (aC g.2.2.1) bh).2.2) (nO n) (ak (aG 30 (bE g.2.1 (aC g.2.2.1) bh).2.3) (nO n) (aS (wg g) (aS (ei (jD g) g.1) (ak (bE g.1 (jD g) aW).1 (aS (wg g) (aS (ei (jD g) g.1) (ak (av (bR (pZ (bE g.1 (jD g) aW).1 (bE g.2.1 (aC g.2.2.1) bh).2.1) (bR (af (bE g.1 (jD g) aW).2 (bE g.2.1 (aC g.2.2.1) bh).2.2) (bR (af (bE g.1 (jD g) aW).3 (bE g.2.1 (aC g.2.2.1) bh).2.3) W)))) (nO n) (Cn n (c,()) g)))) (Cn n (c,()) g))))))))))) (Z (H 0 g)))
  (x:DX) (h:DI c x):(∃y,Ev (λn=>F n x) (.next y)/\DI c y/\2*rH y.1+(y.2.1.length-y.2.2.1.toNat)<2*rH x.1+(x.2.1.length-x.2.2.1.toNat))\/∃o,(∀y,o≠.next y)/\Ev (λn=>F n x) o/\DQ c o:=by
 let ⟨out,b,kk,⟨⟩⟩:=x
 obtain⟨k,hk⟩:∃k:Nat,kk=k:=⟨_,(zR h.k.1).symm⟩;subst hk;have hkl:k<=b.length:=by have:=h.k.2;simp_all
 have hlen:out.length=c.dJ.length:=h.len;have hcl:=s.len;have hfl:=s.fl;have hsz:=h.sz;simp only at hsz;have bad:∀{o:LO DX (L ax×aa×U) U Any},o=.ret () ([],J,())->∀y,o≠.next y:=λh y=>by simp_all
 by_cases X9:k=b.length
 .subst X9;refine .inr ⟨.out 0 (out,b,(b.length:Int),()),(λy h=>by cases h),bC λn=>?_,.inl ⟨_,rfl,h.done rfl⟩⟩;rw[v];simp(disch:=omega) [aV]<;>rfl
 .have hk':k<b.length:=by omega
  have I:b.getD k bh∈b:=bV _ hk'
  let ⟨C,r2,E⟩:=h.wk _ I
  have K:=r2.re;generalize A:b.getD k bh=r at *
  have no:∀{Q:Prop},NoD c->(∀n,F n (out,b,(k:Int),())=Z (.ret () ([],J,())))->Q\/∃o,(∀y,o≠.next y)/\Ev (λn=>F n (out,b,(k:Int),())) o/\DQ c o:=
   λh1 h2=>.inr ⟨.ret () ([],J,()),bad rfl,bC h2,.inr ⟨rfl,h1⟩⟩
  by_cases b1:(c.dJ.length:Int)<=r.At;refine no (Bf s C λg=>by have:=g.hi;omega) λn=>?_;rw[v];simp(disch:=omega)only[aV,A,nO]<;>rfl;by_cases b2:60<r.jV.Stack;refine no (Bf s C λg=>by have:=g.st;omega) λn=>?_;rw[v];simp(disch:=omega)only[aV,A,nO]<;>rfl;by_cases b3:30<r.jV.Env;refine no (Bf s C λg=>by have:=g.en;omega) λn=>?_;rw[v];simp(disch:=omega)only[aV,A,nO]<;>rfl;have ha:(out.getD r.At.toNat aW)=ee out r.At:=rfl;cases t:(ee out r.At).Reached with
  |true=>
   by_cases b5:ee out r.At=r.jV;have P:=aaV b5;rw[t]at P;refine .inl ⟨(out,b,(k:Int)+1,()),bC λn=>?_,⟨by grind,h.wk,?_,h.len,h.re,h.fo,h.zero,h.fl,h.sz⟩,by grind⟩;rw[v];unfold Cn jD wg;simp(disch:=omega)only[aV,A,ha,t,P,bQ]<;>rfl;intro j hj;by_cases hjk:j=k
   simp_all
   exact h.ag4 j (by grind);have P:=af8 b5;rw[t]at P;refine no (ZA s (h.re _ E (by omega) t).1 C b5) λn=>?_;rw[v];unfold jD wg;simp(disch:=omega)only[aV,A,ha,t,P,nO]<;>rfl
  |false=>
   by_cases R:zg c (aZ c r.At) r.jV
   .have hg:Good c r.At r.jV:=⟨E,by omega,by omega,by omega,R,K⟩
    let ⟨a,i⟩:=d109 s E (by omega) R r2 (by omega) (by omega)
    have B:∀n,a<=n->F109 n (c,r.At,r.jV,())=Z ((CD (dV c r.At r.jV),W,()),()):=i;have hl0:=Ky (out:=out) (k:=r.At.toNat) (d:=r.jV) (by omega) t K;have hnl:=WM (c:=c) (m:=r.At) (d:=r.jV);have hrl:(CD (dV c r.At r.jV)).length=(dV c r.At r.jV).length:=by simp[CD]
    have u:=λ(q:Int)(e:0<=q)=>FL (d:=r.jV) (out:=out) E (by omega) e;refine .inl ⟨(out.set r.At.toNat r.jV,b++CD (dV c r.At r.jV),(k:Int)+1,()),⟨a,λn hn=>?_⟩,⟨by grind,?_,?_,by simp_all,?_,?_,?_,?_,?_⟩,?_⟩;show F n _=_;rw[v];unfold Cn jD wg;simp(disch:=omega)only[aV,A,ha,t,B n hn,bQ]<;>rfl
    .intro q e;obtain e|e:=fc.1 e
     exact h.wk q e
     .obtain ⟨y,w,rfl⟩:=wP.1 e;have:=Hi s E (by omega) R r2 w;exact⟨.next C w,this.2,this.1⟩
    intro j hj;simp only at hj ⊢;have hgd:(b++CD (dV c r.At r.jV)).getD j bh=b.getD j bh:=by rw[wB,wB,YK (by omega)]
    rw[hgd];by_cases hjk:j=k
    simp_all
    have hp:=h.ag4 j (by grind);have hw:=h.wk _ (bV (l:=b) bh (show j<b.length by omega));refine⟨hp.1,?_⟩;rw[u _ hw.2.2,bS];exact hp.2;intro hne;rw[hne]at hp;rw[hp.2,hw.2.1.re]at t;cases t;intro q z S p;rw[u q z]at p ⊢;by_cases e:q=r.At
    simp_all
    rw[bS e]at p ⊢;exact h.re q z S p;intro q z S p y w;rw[u q z]at p w;by_cases e:q=r.At;subst e;rw[bH rfl]at w;exact e9 _ (wP.2 ⟨y,w,rfl⟩);rw[bS e]at p w;exact gf _ (h.fo q z S p y w);intro q z S p;rw[u q z]at p ⊢;by_cases e:q=r.At
    simp_all
    rw[bS e]at p ⊢;exact h.zero q z S p;exact λf hf=>gf _ (h.fl f hf)
    grind
    grind
   refine no (Bf s C λg=>R g.ne) λn=>?_;have i:=am5 (n:=n) s E (by omega) R;rw[v];unfold Cn jD wg;simp(disch:=omega)only[aV,A,ha,t,i,nO]<;>rfl
theorem d51(a:AH c):(∃D,Rn c D/\Ev (λn=>F51 n (c,())) ((D,W,()),()))\/(NoD c/\Ev (λn=>F51 n (c,())) (([],J,()),())):=by
 have t:=a.len;have u:=a.fl;have mk:Ss (au c.1)=W:=by
  unfold Ss au
  grind
 have h1:∀(R B P:Type)(F:Nat->L bz×Int×U->O (LO (L bz×Int×U) R B P)),
   (∀n x,F n x=ak (aG x.2.1 (au c.3)) (aS (aM x.2.1 c.3) (aj (F108 n (0,1,())) λd=>aS (dI x.1 [bz.mk (bE c.3 (aC x.2.1) 0) d.1.1]) (Z (N (dx x.1 [bz.mk (bE c.3 (aC x.2.1) 0) d.1.1],aJ .i64 x.2.1 1,()))))) (Z (H 0 x)))->
   fu F ([],0,()) (.out 0 (c.dh.map (λf=>(⟨f,cm 0 1⟩:bz)),(c.dh.length:Int),())):=by
  intro R B P F p;have:=kG (F:=F) c.dh.length (λk=>(((c.dh.take k).map (λf=>(⟨f,cm 0 1⟩:bz))),(k:Int),())) 0 (λk C=>bC λn=>by
   rw[p];have e:(c.dh.take (k+1)).map (λf=>(⟨f,cm 0 1⟩:bz))=(c.dh.take k).map (λf=>(⟨f,cm 0 1⟩:bz))++[⟨c.dh.getD k 0,cm 0 1⟩]:=by
    grind[List.take_succ_eq_append_getElem]
   have E:((c.dh.take k).map (λf=>(⟨f,cm 0 1⟩:bz))).length<=1000:=by simp;omega
   simp(disch:=first|omega|simp only[hY];omega)only[aV,d108,bQ,e]<;>rfl) (bC λn=>by
   rw[p];simp(disch:=omega) [aV]<;>rfl)
  simp_all
 have v:DI c (List.replicate c.dJ.length aW,c.dh.map (λf=>(⟨f,cm 0 1⟩:bz)),0,()):=by
  have l:∀q:Int,ee (List.replicate c.dJ.length aW) q=aW:=λq=>by unfold ee;rw[wB,List.getElem?_replicate];split<;>rfl
  refine⟨⟨zd _,by grind⟩,?_,λj I=>by grind,by simp,λq _ _ r=>?_,λq _ _ r=>?_,λq _ _ _=>l q,λf b=>wP.2 ⟨f,b,rfl⟩,?_⟩;intro r w;obtain⟨f,b,rfl⟩:=wP.1 w;exact⟨.root b,⟨rfl,zd _,show(0:Int)<=1 by decide⟩,(a.pF f b).1⟩;simp[l]at r;cases r;simp[l]at r;cases r
  grind[Pc]
 have start:∀{r:(L ax×aa×U)×U},Ev (λn=>aj (@iter DX (L ax×aa×U) U Any (λg=>ak (aG g.2.2.1 (au g.2.1)) (aS (aM g.2.2.1 g.2.1) (aS (ei (aC g.2.2.1) g.2.1) (aS (aM g.2.2.1 g.2.1) (aS (ei (aC g.2.2.1) g.2.1) (ak (bB (au c.1) (bE g.2.1 (aC g.2.2.1) bh).1) (nO n) (ak (aG 60 (bE g.2.1 (aC g.2.2.1) bh).2.2) (nO n) (ak (aG 30 (bE g.2.1 (aC g.2.2.1) bh).2.3) (nO n) (aS (wg g) (aS (ei (jD g) g.1) (ak (bE g.1 (jD g) aW).1 (aS (wg g) (aS (ei (jD g) g.1) (ak (av (bR (pZ (bE g.1 (jD g) aW).1 (bE g.2.1 (aC g.2.2.1) bh).2.1) (bR (af (bE g.1 (jD g) aW).2 (bE g.2.1 (aC g.2.2.1) bh).2.2) (bR (af (bE g.1 (jD g) aW).3 (bE g.2.1 (aC g.2.2.1) bh).2.3) W)))) (nO n) (Cn n (c,()) g)))) (Cn n (c,()) g))))))))))) (Z (H 0 g))) n (agY (aC (au c.1)) aW,c.dh.map (λf=>(⟨f,cm 0 1⟩:bz)),0,())) λg=>bU g (λ_ i=>Z ((i.1,W,()),())) (λ_ i=>Z (i,())) λ_ _=>Y) r->Ev (λn=>F51 n (c,())) r:=by
  intro r h;have y:oe (Ss (au c.1)) (fZ (au c.1) (au c.1))=W:=by rw[mk];simp[oe,fZ]
  show Ev (λn=>aS (oe (Ss (au c.1)) (fZ (au c.1) (au c.1))) _) r;rw[y];refine Ev.bp (h1 (L ax×aa×U) U Any _ (λn x=>rfl)) _ r ?_;exact h
 let ⟨o,s,z⟩:=fu.inv (F:=λn=>_) (DI c) (λx=>2*rH x.1+(x.2.1.length-x.2.2.1.toNat)) (DQ c) (XA a _ (λn g=>rfl)) _ v
 obtain⟨x,rfl,A⟩|⟨rfl,m⟩:=z
 exact .inl ⟨x.1,A,start (Ev.bp s (λn e=>_) _ dg)⟩;exact .inr ⟨m,start (Ev.bp s (λn e=>_) _ dg)⟩
end
section
variable {n:Nat}{c:aB}{i:bT}{d:ax}{m:Int}{op s e:Int}{out:List ax}{todo:List Int}
def tL(c:aB)(i:bT):eG:=
 if i.Op=4 then .a0 ⟨i.A+1⟩else if i.Op=10 then .a0 ⟨i.A⟩else if i.Op=8 then .a2 ⟨2⟩else if i.Op=34 then .a2 ⟨1⟩else .a1 ⟨(cz c i:Int)⟩
def ag6(io:Q3 c i)(f:i.Op=18->0<=i.A/\i.A<c.Cons.length/\0<=(c.Cons.getD i.A.toNat br).lE):F149 n (c,i,())=Z ((tL c i,()),()):=by
 have h1:=io.lo;have h2:=io.hi;by_cases a:i.Op=18;obtain⟨g,j,l⟩:=f a;unfold F149 AB xV tL cz lz;rw[bS (by omega),bS (by omega),bS (by omega),bS (by omega),bH a];simp(disch:=omega)only[aV,a,aU];rw[show(((c.Cons.getD i.A.toNat br).lE.toNat:Nat):Int)=(c.Cons.getD i.A.toNat br).lE by omega];by_cases h4:i.Op=4;have:=io.place h4;unfold F149 tL;rw[bH h4];simp(disch:=omega)only[aV,h4,bQ];obtain⟨k,b⟩:∃k:Nat,i.Op=k:=⟨_,(zR (by omega)).symm⟩;have d:1<=k:=by omega
 have e:k<=34:=by omega
 unfold tL cz;rw[bS h4,bS a,show i.Op.toNat=k by omega];unfold F149;simp only[b]
 match k,d,e,b with
 |18,_,_,b=>omega|4,_,_,b=>omega
 |1,_,_,_|2,_,_,_|3,_,_,_|5,_,_,_|6,_,_,_|7,_,_,_|8,_,_,_|9,_,_,_|10,_,_,_|11,_,_,_|12,_,_,_|13,_,_,_|14,_,_,_|15,_,_,_|16,_,_,_|17,_,_,_
 |19,_,_,_|20,_,_,_|21,_,_,_|22,_,_,_|23,_,_,_|24,_,_,_|25,_,_,_|26,_,_,_|27,_,_,_|28,_,_,_|29,_,_,_|30,_,_,_|31,_,_,_|32,_,_,_|33,_,_,_|34,_,_,_=>rfl|k+35,_,h,_=>omega
def WO(c:aB)(i:bT)(d:ax):aa:=match tL c i with
 |.a0 x=>bB x.env d.Env|.a1 x=>bB x.stack d.Stack|.a2 x=>af d.Stack x.stack|.none=>J
def Mv(g:Lo d):WO c i d=W↔zg c i d:=by
 have m:=g.s;have a:∀k:Nat,i.Op=k->k≠18->cz c i=lI.getD k 0:=λk h j=>by unfold cz;rw[bS (by omega),show i.Op.toNat=k by omega]
 unfold WO tL zg;by_cases h4:i.Op=4;have b:cz c i=0:=a 4 h4 (by decide);rw[bH h4];simp only[bB,ri];omega;by_cases e:i.Op=10;have b:cz c i=0:=a 10 e (by decide)
 simp_all[bS,bH,bB,ri]
 by_cases l:i.Op=8;have b:cz c i=2:=a 8 l (by decide)
 simp_all[bS,bH,af,qo]
 by_cases f:i.Op=34;have b:cz c i=1:=a 34 f (by decide)
 simp_all[bS,bH,af,qo]
 simp_all[bS,bB,ri]
abbrev CB:=(L bT)×(L aI)×(L Int)×Int×(L cL)×U
def cb(c:aB):CB:=(c.1,c.2,c.3,c.4,c.5,())
def Tn(f:AH c)(b:0<=m)(h1:m<c.dJ.length):yP n (m,d,(out,()),cb c,(todo,()),())=qQ (m,d,(out,()),cb c,(todo,()),()) ((WO c (aZ c m) d,()),()):=by have a:=ag6 (n:=n) (f.io b h1) (f.cn b h1);have g:aM m c.dJ=W:=iw.2 ⟨b,h1⟩;unfold yP;show TL.aS (aM m c.dJ) (aj (F149 n (c,aZ c m,())) _)=_;rw[g,a];unfold WO;cases e:tL c (aZ c m)with|a0 x=>rfl|a1 x=>rfl|a2 x=>rfl|none=>unfold tL at e;(repeat' (split at e))<;>cases e
abbrev RX:=Int×ax×((L ax)×U)×CB×((L Int)×U)×U
def rx(c:aB)(m:Int)(d:ax)(out:L ax)(todo:L Int):RX:=(m,d,(out,()),cb c,(todo,()),())
theorem Oq(l:AH c)(hl:out.length=c.dJ.length)(i:0<=m)(j:Lo d)(q:¬Good c m d\/((ee out m).Reached=W/\ee out m≠d)){dp:Nat} :
  eo n (dp+1) (rx c m d out todo)=Z ((J,()),(out,()),cb c,(todo,()),()):=by
 rw[Aq];unfold yQ rx;have f:out.getD m.toNat aW=ee out m:=rfl;by_cases o:(out.length:Int)<=m;unfold lD;simp only[aV,o]<;>rfl;by_cases r:60<d.Stack;unfold lD;simp(disch:=omega)only[aV]<;>rfl;by_cases s:30<d.Env;unfold lD;simp(disch:=omega)only[aV]<;>rfl;have fail:(ee out m).Reached=W->ee out m≠d->yQ n dp (m,d,(out,()),cb c,(todo,()),())=Z ((J,()),(out,()),cb c,(todo,()),()):=λh1 h2=>by have a:=af8 h2;rw[h1]at a;unfold yQ lD jv;simp(disch:=omega)only[aV,f,h1,a]<;>rfl
 have h5:=Tn (n:=n) (d:=d) (out:=out) (todo:=todo) l i (by omega);have b:¬Good c m d->WO c (aZ c m) d=J:=λh=>by cases p:WO c (aZ c m) d with|false=>rfl|true=>exact absurd ⟨i,by omega,by omega,by omega,(Mv j).1 p,j.re⟩ h
 cases e:(ee out m).Reached with
 |true=>
  by_cases k:ee out m=d;have g:¬Good c m d:=by
   simp_all
  have a:=aaV k;rw[e]at a;rw[b g]at h5;unfold jv;simp(disch:=omega)only[aV,f,e,a,h5]<;>rfl;exact fail e k
 |false=>
  have g:¬Good c m d:=by
   simp_all
  rw[b g]at h5;unfold jv;simp(disch:=omega)only[aV,f,e,h5]<;>rfl
variable {dp:Nat}
def Wm(g:AH c)(hl:out.length=c.dJ.length)(h:Lo d)(a:Good c m d)(b:ee out m=d) :
  eo n (dp+1) (rx c m d out todo)=Z ((W,()),(out,()),cb c,(todo,()),()):=by
 have i:=a.lo;have h1:=a.hi;have h2:=a.st;have h3:=a.en;rw[Aq];unfold yQ rx;have f:out.getD m.toNat aW=ee out m:=rfl;have h5:=Tn (n:=n) (d:=d) (out:=out) (todo:=todo) g i h1;rw[(Mv h).2 a.ne]at h5;have e:(ee out m).Reached=W:=by rw[b];exact a.re
 have b:=aaV b;rw[e]at b;unfold jv;simp(disch:=omega)only[aV,f,e,b,h5];unfold qQ jv;simp(disch:=omega)only[aV,f,e]<;>rfl
def Wn(f:AH c)(hl:out.length=c.dJ.length)(g:Lo d)(a:Good c m d)(b:(ee out m).Reached=J)(i:todo.length<=100000) :
  eo n (dp+1) (rx c m d out todo)=Z ((W,()),(out.set m.toNat d,()),cb c,(todo++[m],()),()):=by
 have h:=a.lo;have h1:=a.hi;have h2:=a.st;have h3:=a.en;rw[Aq];unfold yQ rx;have e:out.getD m.toNat aW=ee out m:=rfl;have h5:=Tn (n:=n) (d:=d) (out:=out) (todo:=todo) f h h1;rw[(Mv g).2 a.ne]at h5;unfold jv;simp(disch:=omega)only[aV,e,b,h5];unfold qQ jv;simp(disch:=first|omega|simp only[hY];omega)only[aV,e,b]<;>rfl
end
section
variable {n:Nat}{c:aB}{i:bT}{d:ax}{m:Int}{op s e:Int}{out:List ax}{todo:List Int}
theorem XR(n k:Nat):R290 n (k+1)=B290 n (R290 n k):=rfl
def amT:∀q:aI,aI.mk q.Form q.N q.Text q.Cf=q
 |⟨_,_,_,_⟩=>rfl
def TH(q:aI):Prop:=wI R290 (q,()) ((gq q,()),())
theorem GR{R B P:Type}(d:Nat):∀(qs pre:L aI)(k:Int),0<=k->k+(o9 qs:Int)<=100000->pre.length+qs.length<=100000->(∀q∈qs,TH q)->
  ∀F:Nat->Int×Int×U->O (LO (Int×Int×U) R B P),
  (∀n g,F n g=ak (aG g.2.1 (au (pre++qs))) (aS (aM g.2.1 (pre++qs)) (aj (R290 n (n-d) (@bE aI (pre++qs) (aC g.2.1) aR,())) λh=>Z (N (aJ .i64 g.1 h.1.1,aJ .i64 g.2.1 1,())))) (Z (H 0 g)))->
  fu F (k,(pre.length:Int),()) (.out 0 (k+j8 qs,((pre++qs).length:Int),()))
 |[],pre,k,_,_,_,_,F,b=>by unfold j8;refine .out (bC λn=>?_);rw[b];simp(disch:=omega)only[aV,iP,GK]<;>rfl
 |q::qs,pre,k,l,h1,e,c,F,b=>by
  unfold o9 at h1;simp only[l5]at e;have m:=ua q;have f:(pre++q::qs).getD pre.length aR=q:=rL ..;have h2:=GR (R:=R) (B:=B) (P:=P) d qs (pre++[q]) (k+gq q) (by omega) (by omega) (by simp;omega) (λi h=>c i (ie _ h)) F (λn g=>by rw[b];simp only[wv,Mg]<;>rfl);have h3:=c q eN d;simp only[wv,Mg]at h2;unfold j8;rw[<-Int.add_assoc];refine .next (y:=(k+gq q,((pre++[q]).length:Int),())) ?_ h2
  obtain⟨a,h3⟩:=h3;refine⟨a,λn j=>?_⟩;have:=h3 n j;show F n _=_;rw[b];simp(disch:=first|omega|simp only[hY];omega)only[aV,f,jR,m8,fK,fM];refine(eC (λx=>aj x _) this).trans ?_;show Z (N (aJ .i64 k (gq q),aJ .i64 (pre.length:Int) 1,()))=_
  grind[bQ]
theorem Zi{cons:L cL}:∀q:aI,pw q<=1000->tW cons q->TH q
 |⟨a,n0,text,parts⟩,o,b=>by
  have j:a=2->parts=[]:=by
   grind[tW]
  have l:nV cons parts:=by
   unfold tW at b;obtain c|c|c|c:=b
   rw[c.2.2.2];trivial;rw[c.2.2.2];trivial;rw[c.2.2.2];trivial
   simp_all
  unfold pw at o;have u:=Bl parts;refine wI.step XR λd=>?_;have m:=λ(k:Int)(p:0<=k)(h1:k<=1)=>GR (R:=Int×U) (B:=U) (P:=Any) d parts [] k p (by omega) (by grind) (λq r=>names' parts (by omega) l q r) _ (λn g=>rfl);have hB:∀n,B290 n (R290 n (n-d)) (⟨a,n0,text,parts⟩,())=aj (@iter (Int×Int×U) (Int×U) U Any (λg=>ak (aG g.2.1 (au parts)) (aS (aM g.2.1 parts) (aj (R290 n (n-d) (@bE aI parts (aC g.2.1) aR,())) λh=>Z (N (aJ .i64 g.1 h.1.1,aJ .i64 g.2.1 1,())))) (Z (H 0 g))) n ((if a=2 then 1 else 0),0,())) λg=>bU g (λ_ i=>Z ((i.1,()),())) (λ_ i=>Z (i,())) λ_(_:Any)=>Y:=by intro n;unfold B290 I9;by_cases h:a=2;simp only[aV,h,kz,aU,amT]<;>rfl;simp(disch:=omega)only[aV,h,jY,aU,amT]<;>rfl
  refine Ev.n9 hB ?_;by_cases h:a=2;rw[bH h];refine Ev.bp (m 1 (by omega) (by omega)) (λn e=>_) _ ?_;exact bC λn=>by unfold gq;rw[bH h,j h];rfl
  rw[bS h];refine Ev.bp (m 0 (by omega) (by omega)) (λn e=>_) _ ?_;exact bC λn=>by unfold gq;rw[bS h,Int.zero_add];rfl
where
 names':∀(f:L aI),o9 f<=1000->nV cons f->∀q∈f,TH q
 |[],_,_,_,h=>by cases h
 |q::f,s,b,t,h=>by
  unfold o9 at s;unfold nV at b;obtain h|h:=gn.1 h
  rw[h];exact Zi q (by omega) b.1;exact names' f (by omega) b.2 t h
def pV(c:aB)(i:bT):Int:=if i.Op=8\/i.Op=20\/i.Op=34 then 0 else(if i.Op=9\/i.Op=10\/i.Op=11\/i.Op=12\/i.Op=19 then 0 else 1)-(cz c i:Int)
def lH(c:aB)(i:bT):Int:=if i.Op=9 then 1 else if i.Op=10 then -i.A else if i.Op=19 then gq (jd c i.A)else 0
theorem apr(o:AH c)(p:0<=m)(h1:m<c.dJ.length)(hi:aZ c m=i):Ev (λn=>F235 n (c,i,())) ((pV c i,lH c i,()),()):=by
 have io:=o.io p h1;have cn:=o.cn p h1;have tl:=Gb o p h1;rw[hi]at io cn tl;have w:=io.lo;have y:=io.hi;by_cases b:i.Op=18;obtain⟨z,A,B⟩:=cn b;refine bC λn=>?_;have g:(cz c i:Int)=(c.Cons.getD i.A.toNat br).lE:=by unfold cz lz;grind
 have u:pV c i=1-(c.Cons.getD i.A.toNat br).lE:=by unfold pV;rw[bS (by omega),bS (by omega),g]
 have ge:lH c i=0:=by unfold lH;rw[bS (by omega),bS (by omega),bS (by omega)]
 unfold F235 pL tD;simp(disch:=omega)only[aV,b,aU,de,u,ge]<;>rfl;by_cases d:i.Op=10;have hA:=io.drop d;have q:Rm .i64 i.A=-i.A:=by show IntKind.wrap .i64 (-i.A)=_;exact Fi (by omega) (by omega)
 refine bC λn=>?_;have g:cz c i=0:=by unfold cz;rw[bS b,show i.Op.toNat=10 by omega];rfl
 unfold F235 pL tD pV lH;rw[bS (by omega),bH (by omega),g,bS (by omega),bH d];simp(disch:=omega)only[aV,d,aU,q]<;>rfl;by_cases e:i.Op=19;have C:=io.BN e;have r:=o.pats _ (bV aR (show i.A.toNat<c.ey.length by omega));obtain⟨a,f⟩:=Zi _ (by omega) r.1 0;have j:∀n,a<=n->F290 n (c.ey.getD i.A.toNat aR,())=Z ((gq (c.ey.getD i.A.toNat aR),()),()):=f;have g:cz c i=1:=by unfold cz;rw[bS b,show i.Op.toNat=19 by omega];rfl
 refine⟨a,λn v=>?_⟩;have f:=j n v;show F235 n _=_;unfold F235 pL tD pV lH;rw[bS (by omega),bH (by omega),g,bS (by omega),bS d,bH e];simp(disch:=omega)only[aV,e,aU];exact(eC (λx=>aj x _) f).trans rfl;obtain⟨k,l⟩:∃k:Nat,i.Op=k:=⟨_,(zR (by omega)).symm⟩;have s:1<=k:=by omega
 have t:k<=34:=by omega
 refine bC λn=>?_;unfold pV lH cz;rw[bS b,show i.Op.toNat=k by omega];unfold F235;simp only[l]
 match k,s,t,l with
 |18,_,_,l=>omega|10,_,_,l=>omega|19,_,_,l=>omega
 |1,_,_,_|2,_,_,_|3,_,_,_|4,_,_,_|5,_,_,_|6,_,_,_|7,_,_,_|8,_,_,_|9,_,_,_|11,_,_,_|12,_,_,_|13,_,_,_|14,_,_,_|15,_,_,_|16,_,_,_|17,_,_,_
 |20,_,_,_|21,_,_,_|22,_,_,_|23,_,_,_|24,_,_,_|25,_,_,_|26,_,_,_|27,_,_,_|28,_,_,_|29,_,_,_|30,_,_,_|31,_,_,_|32,_,_,_|33,_,_,_|34,_,_,_=>rfl|k+35,_,h,_=>omega
theorem akp(io:Q3 c i):F236 n (i,tL c i,())=Z ((decide (i.Op=8\/i.Op=20\/i.Op=34),()),()):=by
 unfold F236 tL;have y:∀x,mQ [(315,Ty.st 31),(317,Ty.st 32),(318,Ty.st 33)] 2 (jB 34 (eG.a0 x))=J:=λ_=>rfl;have z:∀x,mQ [(315,Ty.st 31),(317,Ty.st 32),(318,Ty.st 33)] 2 (jB 34 (eG.a1 x))=J:=λ_=>rfl;have u:∀x,mQ [(315,Ty.st 31),(317,Ty.st 32),(318,Ty.st 33)] 2 (jB 34 (eG.a2 x))=W:=λ_=>rfl;by_cases h4:i.Op=4;rw[bH h4,y,jw (by omega)];simp(disch:=omega)only[aV,h4]<;>rfl;by_cases a:i.Op=10;rw[bS h4,bH a,y,jw (by omega)];simp(disch:=omega)only[aV,a]<;>rfl;by_cases d:i.Op=8;rw[bS h4,bS a,bH d,u,kT (.inl d)];rfl;by_cases b:i.Op=34;rw[bS h4,bS a,bS d,bH b,u,kT (.inr (.inr b))];rfl;rw[bS h4,bS a,bS d,bS b,z];show Z ((af i.Op 20,()),())=_
 grind[decide_eq_true,qo,decide_eq_false,af]
end
section
variable {n:Nat}{c:aB}{i:bT}{d e:ax}{m x:Int}{out:List ax}{todo:List Int}{mm:Int->Prop}
abbrev PX:=((L ax)×U)×CB×((L Int)×U)×(aa×U)×U
abbrev PO:=LO PX (L ax×Int×U) PX Any
def px(c:aB)(out:L ax)(todo:L Int)(b:aa):PX:=((out,()),cb c,(todo,()),(b,()),())
structure PJ(c:aB)(mm:Int->Prop)(out:List ax)(todo:List Int):Prop where
 pi:PI c (λn=>n∈todo\/mm n) out
 td:∀n∈todo,0<=n/\n<c.dJ.length/\(ee out n).Reached=W
 sz:todo.length+rH out<=c.dJ.length
 lo:∀n:Int,0<=n->n<c.dJ.length->(ee out n).Reached=W->Lo (ee out n)
structure Got(c:aB)(mm:Int->Prop)(l:List (Int×ax))(out:List ax)(todo:List Int)(out':List ax)(todo':List Int):Prop where
 pj:PJ c mm out' todo'
 keep:kg out out'
 all:∀y∈l,0<=y.1/\y.1<c.dJ.length/\ee out' y.1=y.2/\y.2.Reached=W
 le:2*rH out'+todo'.length<=2*rH out+todo.length
theorem zP(o:AH c)(h:PJ c mm out todo)(f:LF c x d)(hlo:Lo d)(g:0<=x) :
  (∃i b,(∀n l,eo n (l+1) (rx c x d out todo)=Z ((W,()),(i,()),cb c,(b,()),()))/\Got c mm [(x,d)] out todo i b)\/
  (NoD c/\∀n l,eo n (l+1) (rx c x d out todo)=Z ((J,()),(out,()),cb c,(todo,()),())):=by
 have p:=h.pi.len;have A:=h.sz;have v:=o.len;by_cases a:Good c x d
 .cases m:(ee out x).Reached with
  |true=>by_cases r:ee out x=d;refine .inl ⟨out,todo,λn l=>Wm o p hlo a r,h,kg.refl,λy s=>?_,eP _⟩;rw[tR.1 s];exact⟨g,a.hi,r,a.re⟩;exact .inr ⟨ZA o (h.pi.re x g a.hi m).1 f r,λn l=>Oq o p g hlo (.inr ⟨m,r⟩)⟩|false=>
   have w:=Ky (out:=out) (k:=x.toNat) (d:=d) (by have:=a.hi;omega) m a.re;have j:=λ(q:Int)(e:0<=q)=>FL (d:=d) (out:=out) g (by have:=a.hi;omega) e;refine .inl ⟨out.set x.toNat d,todo++[x],λn l=>Wn o p hlo a m (by omega),⟨(h.pi.set f a m).mono λq e=>?_,λq e=>?_,by grind,λq u z t=>?_⟩,W1 p a m,λy s=>?_,by grind⟩
   grind
   obtain e|e:=fc.1 e
   have:=h.td q e
   grind
   rw[tR.1 e];exact⟨g,a.hi,by rw[j x g,bH rfl];exact a.re⟩;rw[j q u]at t ⊢;by_cases e:q=x
   simp_all
   rw[bS e]at t ⊢;exact h.lo q u z t;rw[tR.1 s];exact⟨g,a.hi,by rw[j x g,bH rfl],a.re⟩
 grind[Bf,Oq]
noncomputable def WK(n a:Nat)(x:RX):O PO:=aj (eo n (a+8) x) (pJ n)
noncomputable def N2(n a:Nat)(i:PX)(x:RX)(k:(ax×U)×U):O PO:=
 aj (eo n (a+8) x) λl=>ak (av l.1.1) (EP n l) (aj (F149 n (nN i)) λm=>aj (nE n i m) λo=>ak (av o.1.1) (aj (eo n (a+8) (tw i k l)) (pJ n)) (EO n l))
def RQ(c:aB)(mm:Int->Prop)(l:L (Int×ax))(out:L ax)(todo:L Int)(o:PO):Prop:=
 (∃b a,o=.next (px c b a W)/\Got c mm l out todo b a)\/(∃b a,o=.out 0 (px c b a J)/\NoD c)
def Zw(g:AH c)(h:PJ c mm out todo)(e:LF c x d)(hlo:Lo d)(i:0<=x):∃o,(∀n f,WK n f (rx c x d out todo)=Z o)/\RQ c mm [(x,d)] out todo o:=by
 obtain⟨b,a,h1,h2⟩|⟨h1,h2⟩:=zP g h e hlo i
 .refine ⟨.next (px c b a W),λn f=>?_,.inl ⟨b,a,rfl,h2⟩⟩;unfold WK;rw[h1 n (f+7)];rfl
 refine⟨.out 0 (px c out todo J),λn f=>?_,.inr ⟨out,todo,rfl,h1⟩⟩;unfold WK;rw[h2 n (f+7)];rfl
theorem aj9(l:AH c)(h:PJ c mm out todo)(p:LF c x d)(hlo:Lo d)(z:0<=x){i:PX}{k:(ax×U)×U}(hi:js i=aZ c m)(h4:nN i=(c,aZ c m,()))(t:0<=m)(u:m<c.dJ.length)
  (A:¬((aZ c m).Op=8\/(aZ c m).Op=20\/(aZ c m).Op=34)) (h2:iz i=m) (B:k.1.1=e) (f:LF c (m+1) e) (q:Lo e) :
  ∃o,(∀n j,N2 n j i (rx c x d out todo) k=Z o)/\RQ c mm [(m+1,e),(x,d)] out todo o:=by
 have C:=l.len;obtain⟨b,a,h1,g⟩|⟨h1,g⟩:=zP l h p hlo z
 have E:=λn=>ag6 (n:=n) (l.io t u) (l.cn t u);have w:=λn=>akp (n:=n) (l.io t u);rw[jw A]at w;obtain⟨o,F,v⟩:=Zw l g.pj f q (show 0<=m+1 by omega);have I:tw i k ((W,()),(b,()),cb c,(a,()),())=rx c (m+1) e b a:=by unfold tw;rw[h2,B,bQ (by omega) (by omega)];rfl
 refine⟨o,λn j=>?_,?_⟩;have:=F n j;unfold WK at this;unfold N2;rw[h1 n (j+7),h4];show aj (F149 n (c,aZ c m,())) _=_;rw[E];show aj (nE n i _) _=_;unfold nE;rw[hi];show aj (F236 n (aZ c m,tL c (aZ c m),())) _=_;rw[w];show aj (eo n (j+8) (tw i k ((W,()),(b,()),cb c,(a,()),()))) _=_
 simp_all
 obtain⟨K,t2,P,r⟩|v:=v
 refine .inl ⟨K,t2,P,r.pj,g.keep.trans r.keep,λy s=>?_,gE r.le g.le⟩;obtain s|s:=gn.1 s
 exact r.all y (by simp_all);have:=g.all y s;exact⟨this.1,this.2.1,by rw[r.keep y.1 this.1 (by simp_all)];grind,this.2.2.2⟩;exact .inr v;refine⟨.out 0 (px c out todo J),λn j=>?_,.inr ⟨out,todo,rfl,h1⟩⟩;unfold N2;rw[g n (j+7)];rfl
theorem PJ.pop{rest:L Int}(h:PJ c (λ_=>False) out (rest++[m])):PJ c (λq=>q=m) out rest:=
 ⟨h.pi.mono λq a=>by
  simp_all,λq a=>h.td q (gf _ a),by have:=h.sz;grind,h.lo⟩
theorem PJ.aj8(h:PJ c (λq=>q=m) out todo)(hn:∀y∈dV c m (ee out m),0<=y.1/\y.1<c.dJ.length/\ee out y.1=y.2):PJ c (λ_=>False) out todo:=
 ⟨⟨h.pi.len,h.pi.re,λq a b d f y e=>by
  by_cases g:q=m
  grind
  exact h.pi.fo q a b d (λi=>by
   simp_all) y e,h.pi.zero⟩,h.td,h.sz,h.lo⟩
end
section
variable {n:Nat}{c:aB}{i:bT}{d e:ax}{m x:Int}{out:List ax}{todo rest:List Int}{mm:Int->Prop}
noncomputable def JB(n a:Nat)(i:PX)(k:(ax×U)×U):O PO:=
 ak (af (js i).1 11) (WK n a (uC i k)) (ak (af (js i).1 12) (N2 n a i (uC i k) k) (ak (af (js i).1 19) (N2 n a i (IW i) k)
 (ak (af (js i).1 6) (aj (F152 n (0,aJ .i64 (bE i.1.1 (aC (iz i)) aW).3 1,())) λl=>N2 n a i (uC i l) k) (ak (af (js i).1 32) (aj (F152 n (0,aJ .i64 (bE i.1.1 (aC (iz i)) aW).3 1,())) λl=>N2 n a i (uC i l) k)
 (ak (af (js i).1 31) (aj (F152 n (0,(bE i.1.1 (aC (iz i)) aW).3,())) λl=>N2 n a i (uC i l) k)
 (aj (F149 n (nN i)) λl=>aj (nE n i l) λm=>ak (av m.1.1) (WK n a (aJ .i64 (iz i) 1,k.1.1,IU i)) (IV n i)))))))
noncomputable def Wk(n a:Nat)(i:PX):O PO:=
 ak (aG 0 (au i.2.2.1.1)) (aS (aM (sM i) i.2.2.1.1) (aS (ei (aC (sM i)) i.2.2.1.1) (aS (eF 0 (sM i) (au i.2.2.1.1)) (aS (aM (iz i) i.1.1) (aS (ei (aC (iz i)) i.1.1) (aS (aM (iz i) i.2.1.1) (aj (F235 n (nN i)) λj=>aj (Ls n i j) λk=>JB n a i k))))))) (Z (H 0 i))
theorem amQ(z:AH c)(h:PJ c (λ_=>False) out (rest++[m])){k:(ax×U)×U}(v:k.1.1=cm ((ee out m).Stack+pV c (aZ c m)) ((ee out m).Env+lH c (aZ c m))) :
  ∃o,(∀n f,JB n f (px c out (rest++[m]) W) k=Z o)/\RQ c (λq=>q=m) (dV c m (ee out m)) out rest o:=by
 obtain⟨A,B,mr⟩:=h.td m (by simp);obtain⟨C,R⟩:=h.pi.re m A B mr;have io:=z.io A B;have hcl:=z.len;have K:=h.pop;have S:=h.sz;rw[jR,m8]at S;have b1:sM (px c out (rest++[m]) W)=(rest.length:Int):=by show bn .i64 (((rest++[m]).length:Nat):Int) 1=_;rw[jR,m8,de]<;>omega
 have E:iz (px c out (rest++[m]) W)=m:=by unfold iz;rw[b1];exact ir rest m 0 [] rfl
 have p:js (px c out (rest++[m]) W)=aZ c m:=by unfold js;rw[E];rfl
 have b4:nN (px c out (rest++[m]) W)=(c,aZ c m,()):=by unfold nN;rw[p];rfl
 have b6:IU (px c out (rest++[m]) W)=((out,()),cb c,(rest,()),()):=by unfold IU;rw[b1];show((out,()),cb c,(cO (rest++[m]) 0 (rest.length:Int),()),())=_;rw[kr _ _ rfl]
 have F:∀l:(ax×U)×U,uC (px c out (rest++[m]) W) l=rx c (aZ c m).A l.1.1 out rest:=λl=>by unfold uC;rw[p,b6];rfl
 have b13:IW (px c out (rest++[m]) W)=rx c (aZ c m).B (ee out m) out rest:=by unfold IW;rw[p,b6,E];rfl
 have be:(bE (px c out (rest++[m]) W).1.1 (aC (iz (px c out (rest++[m]) W))) aW).3=(ee out m).Env:=by rw[E];rfl
 have b16:∀n,IV n (px c out (rest++[m]) W)=Z (.next (px c out rest W)):=by intro n;unfold IV;rw[b1];show Z (N ((out,()),cb c,(cO (rest++[m]) 0 (rest.length:Int),()),((W,()),())))=_;rw[kr _ _ rfl];rfl
 have I:∀n,F149 n (c,aZ c m,())=Z ((tL c (aZ c m),()),()):=λn=>ag6 io (z.cn A B);have u:∀n,nE n (px c out (rest++[m]) W) ((tL c (aZ c m),()),())=Z ((decide ((aZ c m).Op=8\/(aZ c m).Op=20\/(aZ c m).Op=34),()),()):=λn=>by
  grind[nE,akp]
 have lo:=h.lo m A B mr;have nl:=λy P=>Hi z A B R.ne lo (x:=y) P;have nd:=λ(y:Int×ax)P=>LF.next C (x:=y) P
 generalize hG:ee out m=a at *
 have hGe:a=cm a.Stack a.Env:=MX R.re;by_cases g:(aZ c m).Op=8\/(aZ c m).Op=20\/(aZ c m).Op=34
 .have i:dV c m a=[]:=by unfold dV;obtain h|h|h:=g<;>simp only[show ∀k:Nat,(aZ c m).Op=k->(aZ c m).Op.toNat=k from λk h=>by omega,h]<;>rfl
  refine⟨.next (px c out rest W),λn f=>?_,.inl ⟨out,rest,rfl,K,kg.refl,λy P=>?_,eP _⟩⟩;unfold JB;rw[p,b4];rw[kT g]at u;have n1:(aZ c m).Op≠11:=by omega
  have n2:(aZ c m).Op≠12:=by omega
  have n3:(aZ c m).Op≠19:=by omega
  have n4:(aZ c m).Op≠6:=by omega
  have n5:(aZ c m).Op≠32:=by omega
  have n6:(aZ c m).Op≠31:=by omega
  simp(disch:=omega)only[aV,n1,n2,n3,n4,n5,n6,I,u];exact b16 n
  grind
 rw[jw g]at u;have gl:a.Stack+pV c (aZ c m)=gk c (aZ c m) a:=by unfold pV gk;omega
 rw[gl]at v;have two:=λ{x:Int}{d e:ax}(hd:LF c x d)(hl:Lo d)(hx:0<=x)(k:(ax×U)×U)(v:k.1.1=e)(hd':LF c (m+1) e)(hl':Lo e)=>aj9 (k:=k) z K hd hl hx p b4 A B g E v hd' hl';by_cases k11:(aZ c m).Op=11;have i:dV c m a=[((aZ c m).A,a)]:=by
  grind[dV,aZ]
 have b:k.1.1=a:=by
  have tk:cz c (aZ c m)=0:=by unfold cz;rw[bS (by omega),show(aZ c m).Op.toNat=11 by omega];rfl
  have l1:gk c (aZ c m) a=a.Stack:=by unfold gk;omega
  have g1:lH c (aZ c m)=0:=by unfold lH;rw[bS (by omega),bS (by omega),bS (by omega)]
  grind
 rw[i]at nl nd ⊢;obtain⟨o,j,r⟩:=Zw z K (nd _ (uR _)) (nl _ (uR _)).2 (nl _ (uR _)).1;refine⟨o,λn f=>?_,r⟩;unfold JB;rw[p];simp only[aV,k11,F,b];exact j n f;by_cases k12:(aZ c m).Op=12;have i:dV c m a=[(m+1,cm (gk c (aZ c m) a) a.Env),((aZ c m).A,cm (gk c (aZ c m) a) a.Env)]:=by
  grind[dV,aZ]
 have b:k.1.1=cm (gk c (aZ c m) a) a.Env:=by rw[v];unfold lH;rw[bS (by omega),bS (by omega),bS (by omega),GK]
 rw[i]at nl nd ⊢;obtain⟨o,j,r⟩:=two (nd _ (ie _ (uR _))) (nl _ (ie _ (uR _))).2 (nl _ (ie _ (uR _))).1 k b (nd _ eN) (nl _ eN).2;refine⟨o,λn f=>?_,r⟩;unfold JB;rw[p];simp(disch:=omega)only[aV,k11,k12,F,b];exact j n f;by_cases HE:(aZ c m).Op=19;have i:dV c m a=[(m+1,cm (gk c (aZ c m) a) (a.Env+gq (jd c (aZ c m).A))),((aZ c m).B,a)]:=by
  grind[dV,aZ]
 have b:k.1.1=cm (gk c (aZ c m) a) (a.Env+gq (jd c (aZ c m).A)):=by rw[v];unfold lH;rw[bS (by omega),bS (by omega),bH HE]
 rw[i]at nl nd ⊢;obtain⟨o,j,r⟩:=two (nd _ (ie _ (uR _))) (nl _ (ie _ (uR _))).2 (nl _ (ie _ (uR _))).1 k b (nd _ eN) (nl _ eN).2;refine⟨o,λn f=>?_,r⟩;unfold JB;rw[p];simp(disch:=omega)only[aV,HE,b13];exact j n f;have t:∀n s e,F152 n (s,e,())=Z ((cm s e,()),()):=λ_ _ _=>rfl;have ae:aJ .i64 a.Env 1=a.Env+1:=bQ (by have:=lo.e;omega) (by have:=R.en;omega);by_cases w:(aZ c m).Op=6\/(aZ c m).Op=32;have i:dV c m a=[(m+1,cm (gk c (aZ c m) a) a.Env),((aZ c m).A,cm 0 (a.Env+1))]:=by unfold dV;obtain h|h:=w<;>simp only[show ∀k:Nat,(aZ c m).Op=k->(aZ c m).Op.toNat=k from λk h=>by omega,h]<;>rfl
 have b:k.1.1=cm (gk c (aZ c m) a) a.Env:=by rw[v];unfold lH;rw[bS (by omega),bS (by omega),bS (by omega),GK]
 rw[i]at nl nd ⊢;obtain⟨o,j,r⟩:=two (nd _ (ie _ (uR _))) (nl _ (ie _ (uR _))).2 (nl _ (ie _ (uR _))).1 k b (nd _ eN) (nl _ eN).2;refine⟨o,λn f=>?_,r⟩;unfold JB;rw[p,be];obtain h|h:=w
 simp(disch:=omega)only[aV,h,ae,t,F];exact j n f;simp(disch:=omega)only[aV,h,ae,t,F];exact j n f;by_cases k31:(aZ c m).Op=31;have i:dV c m a=[(m+1,cm (gk c (aZ c m) a) a.Env),((aZ c m).A,cm 0 a.Env)]:=by
  grind[dV,aZ]
 have b:k.1.1=cm (gk c (aZ c m) a) a.Env:=by rw[v];unfold lH;rw[bS (by omega),bS (by omega),bS (by omega),GK]
 rw[i]at nl nd ⊢;obtain⟨o,j,r⟩:=two (nd _ (ie _ (uR _))) (nl _ (ie _ (uR _))).2 (nl _ (ie _ (uR _))).1 k b (nd _ eN) (nl _ eN).2;refine⟨o,λn f=>?_,r⟩;unfold JB;rw[p,be];simp(disch:=omega)only[aV,k31,t,F];exact j n f;have k6:(aZ c m).Op≠6:=by omega
 have k32:(aZ c m).Op≠32:=by omega
 have i:dV c m a=[(m+1,cm (gk c (aZ c m) a) (a.Env+lH c (aZ c m)))]:=by
  unfold lH dV;have:=io.lo;dsimp only;by_cases k9:(aZ c m).Op=9
  grind
  by_cases k10:(aZ c m).Op=10
  grind
  rw[bS k9,bS k10,bS HE,GK];split<;>first|rfl|(exfalso;omega)
 rw[i]at nl nd ⊢;obtain⟨o,j,r⟩:=Zw z K (nd _ (uR _)) (nl _ (uR _)).2 (nl _ (uR _)).1;refine⟨o,λn f=>?_,r⟩;unfold JB;rw[p,b4];have am:aJ .i64 m 1=m+1:=bQ (by omega) (by omega);simp(disch:=omega)only[aV,k11,k12,HE,k6,k32,k31,I,u,E,am,b6,v];exact j n f
end
section
variable {n:Nat}{c:aB}{i:bT}{d e:ax}{m x:Int}{out:List ax}{todo rest:List Int}{mm:Int->Prop}
def ake(a:AH c)(h:PJ c (λ_=>False) out (rest++[m])):∃o,Ev (λn=>Wk n n (px c out (rest++[m]) W)) o/\RQ c (λq=>q=m) (dV c m (ee out m)) out rest o:=by
 obtain⟨b,d,i⟩:=h.td m (by simp);obtain⟨l,p⟩:=h.pi.re m b d i;have lo:=h.lo m b d i;have R:=h.pi.len;have s:=a.len;have e:=h.sz;have t:=Gb a b d;rw[jR,m8]at e;have r:sM (px c out (rest++[m]) W)=(rest.length:Int):=by show bn .i64 (((rest++[m]).length:Nat):Int) 1=_;rw[jR,m8,de]<;>omega
 have f:iz (px c out (rest++[m]) W)=m:=by unfold iz;rw[r];exact ir rest m 0 [] rfl
 have u:js (px c out (rest++[m]) W)=aZ c m:=by unfold js;rw[f];rfl
 have v:nN (px c out (rest++[m]) W)=(c,aZ c m,()):=by unfold nN;rw[u];rfl
 have S:-3<=pV c (aZ c m)/\pV c (aZ c m)<=1:=by unfold pV;split<;>(try split)<;>omega
 have io:=a.io b d;have eb:-30<=lH c (aZ c m)/\lH c (aZ c m)<=12:=by
  unfold lH;split;omega;split;have:=io.drop (by assumption);omega;split;have hp:=io.BN (by assumption);have w:=a.pats _ (bV aR (show(aZ c m).A.toNat<c.ey.length by omega));have x:=ua (jd c (aZ c m).A);unfold jd at *
  omega;omega
 have y:∀n,Ls n (px c out (rest++[m]) W) ((pV c (aZ c m),lH c (aZ c m),()),())=Z ((cm ((ee out m).Stack+pV c (aZ c m)) ((ee out m).Env+lH c (aZ c m)),()),()):=by intro n;have:=lo.s;have:=lo.e;have:=p.st;have:=p.en;unfold Ls;rw[f];show Z ((cm (aJ .i64 (ee out m).Stack (pV c (aZ c m))) (aJ .i64 (ee out m).Env (lH c (aZ c m))),()),())=_;rw[bQ (by omega) (by omega),bQ (by omega) (by omega)]
 obtain⟨o,z,A⟩:=amQ a h (k:=((cm ((ee out m).Stack+pV c (aZ c m)) ((ee out m).Env+lH c (aZ c m)),()),())) rfl;refine⟨o,?_,A⟩;refine Ev.n9 (g:=λn=>aj (F235 n (c,aZ c m,())) λj=>aj (Ls n (px c out (rest++[m]) W) j) λk=>JB n n (px c out (rest++[m]) W) k) (λn=>?_) (Ev.aj (apr a b d rfl) ?_);unfold Wk;rw[r,f,v];have B:aG 0 (au (px c out (rest++[m]) W).2.2.1.1)=W:=yD.2 (by show(0:Int)<(((rest++[m]).length:Nat):Int);simp<;>omega);have C:aM (rest.length:Int) (px c out (rest++[m]) W).2.2.1.1=W:=iw.2 (by show _/\_<(((rest++[m]).length:Nat):Int);simp<;>omega);have E:ei (aC (rest.length:Int)) (px c out (rest++[m]) W).2.2.1.1=W:=by show decide (rest.length<(rest++[m]).length)=W;simp
 have F:eF 0 (rest.length:Int) (au (px c out (rest++[m]) W).2.2.1.1)=W:=vE.2 (by show _/\_/\_<=(((rest++[m]).length:Nat):Int);simp<;>omega);have I:aM m (px c out (rest++[m]) W).1.1=W:=iw.2 (by show _/\_<((out.length:Nat):Int);omega);have K:ei (aC m) (px c out (rest++[m]) W).1.1=W:=by show decide (m.toNat<out.length)=W;simp<;>omega
 have P:aM m (px c out (rest++[m]) W).2.1.1=W:=iw.2 (by show _/\_<((c.dJ.length:Nat):Int);omega);rw[B,C,E,F,I,K,P];rfl;refine bC λn=>?_;rw[y];exact z n n
structure PK(c:aB)(x:PX):Prop where
 st:∃out todo,x=px c out todo W/\PJ c (λ_=>False) out todo/\∀f∈c.dh,ee out f=cm 0 1
def PQ(c:aB)(o:PO):Prop:=(∃out todo,o=.out 0 (px c out todo W)/\Rn c out)\/(∃out todo,o=.out 0 (px c out todo J)/\NoD c)
theorem akC(k:AH c){x':PX}(h:PK c x'):∃o,fu (λn=>Wk n n) x' o/\PQ c o:=by
 refine fu.inv (F:=λn=>Wk n n) (PK c) (λx=>2*rH x.1.1+x.2.2.1.1.length) (PQ c) (λx t=>?_) x' h;obtain⟨out,todo,rfl,d,e⟩:=t.st;obtain rfl|⟨rest,m,rfl⟩:=UD todo
 .refine .inr ⟨.out 0 (px c out [] W),(λy h=>by cases h),bC λn=>?_,.inl ⟨out,[],rfl,?_⟩⟩;rfl
  .exact PI.done (d.pi.mono λq l=>by
    simp_all) e
 rw[UC]at *
 obtain⟨o,p,l⟩:=ake k d;obtain⟨b,a,rfl,g⟩|⟨b,a,rfl,i⟩:=l
 have r:=d.td m (by simp);refine .inl ⟨_,p,⟨⟨b,a,rfl,g.pj.aj8 λy s=>?_,λf j=>?_⟩⟩,?_⟩;rw[g.keep m r.1 r.2.2]at s;have:=g.all y s
 simp_all
 rw[g.keep f (k.pF f j).1 (by rw[e f j];rfl)];exact e f j;have:=g.le;show 2*rH b+a.length<2*rH out+(rest++[m]).length
 grind
 exact .inr ⟨_,(λy h=>by cases h),p,.inr ⟨b,a,rfl,i⟩⟩
abbrev QX:=Int×((L ax)×U)×CB×((L Int)×U)×U
abbrev QS:=((L ax)×U)×CB×((L Int)×U)×U
noncomputable def On(c:aB)(n a:Nat)(e:QX):O (LO QX (Int×U) QS Any):=
 ak (aG e.1 (au c.3)) (aS (aM e.1 c.3) (aj (F152 n (0,1,())) λg=>aj (eo n (a+5) (bE c.3 (aC e.1) 0,g.1.1,e.2)) λh=>ak (av h.1.1) (Z (X h.2 (e.1,()))) (Z (N (aJ .i64 e.1 1,h.2))))) (Z (H 0 e))
structure QK(c:aB)(x:QX):Prop where
 st:∃(k:Nat)(out:List ax)(todo:List Int),x=((k:Int),(out,()),cb c,(todo,()),())/\k<=c.dh.length/\PJ c (λ_=>False) out todo/\∀j:Nat,j<k->ee out (c.dh.getD j 0)=cm 0 1
def QQ(c:aB)(o:LO QX (Int×U) QS Any):Prop:=
 (∃(k:Int)(out:L ax)(todo:L Int),o=.out 0 (k,(out,()),cb c,(todo,()),())/\PJ c (λ_=>False) out todo/\∀f∈c.dh,ee out f=cm 0 1)\/∃(s:QS)(k:Nat),o=.ret s ((k:Int),())/\NoD c
theorem akD(e:AH c){x:QX}(h:QK c x):∃o,fu (λn=>On c n n) x o/\QQ c o:=by
 refine fu.inv (F:=λn=>On c n n) (QK c) (λx=>c.dh.length-x.1.toNat) (QQ c) (λx t=>?_) x h;obtain⟨k,out,todo,rfl,z,r,u⟩:=t.st;have v:=e.fl;by_cases i:k=c.dh.length;subst i;refine .inr ⟨.out 0 ((c.dh.length:Int),(out,()),cb c,(todo,()),()),(λy h=>by cases h),bC λn=>?_,.inl ⟨(c.dh.length:Int),out,todo,rfl,r,λf w=>?_⟩⟩;unfold On;simp(disch:=omega)only[aV]<;>rfl;obtain⟨j,l,rfl⟩:=sd w
 simp_all
 .have m:k<c.dh.length:=by omega
  have s:c.dh.getD k 0∈c.dh:=bV _ m;have b:∀n,On c n n ((k:Int),(out,()),cb c,(todo,()),())=aj (eo n (n+5) (rx c (c.dh.getD k 0) (cm 0 1) out todo)) λh=>ak (av h.1.1) (Z (X h.2 ((k:Int),()))) (Z (N (aJ .i64 (k:Int) 1,h.2))):=by intro n;unfold On;rw[show aG (k:Int) (au c.3)=W from yD.2 (by simp only[au];omega),show aM (k:Int) c.3=W from iw.2 (by omega)];rfl
  obtain⟨d,a,h1,g⟩|⟨h1,g⟩:=zP e r (.root s) ⟨rfl,zd _,show(0:Int)<=1 by decide⟩ (e.pF _ s).1
  have a1:aJ .i64 (k:Int) 1=((k+1:Nat):Int):=by grind[bQ]
  refine .inl ⟨(((k+1:Nat):Int),(d,()),cb c,(a,()),()),bC λn=>?_,⟨k+1,d,a,rfl,by omega,g.pj,λj l=>?_⟩,by omega⟩;rw[b,h1 n (n+4),<-a1];rfl;by_cases p:j=k;subst p;exact(g.all _ (uR _)).2.2.1;have q:c.dh.getD j 0∈c.dh:=bV _ (by omega);have:=u j (by omega);rw[g.keep _ (e.pF _ q).1 (by rw[this];rfl)];exact this;refine .inr ⟨.ret ((out,()),cb c,(todo,()),()) ((k:Int),()),(λy h=>by cases h),bC λn=>?_,.inr ⟨_,k,rfl,h1⟩⟩;rw[b,g n (n+4)];rfl
end
section
variable {n:Nat}{c:aB}{out:List ax}{todo:List Int}
theorem PJ.zero:PJ c (λ_=>False) (List.replicate c.dJ.length aW) []:=by
 have a:∀q:Int,ee (List.replicate c.dJ.length aW) q=aW:=λq=>by unfold ee;rw[wB,List.getElem?_replicate];split<;>rfl
 refine⟨⟨by simp,λq _ _ r=>?_,λq _ _ r=>?_,λq _ _ _=>a q⟩,λq b=>(by cases b),?_,λq _ _ r=>?_⟩;rw[a]at r;cases r;rw[a]at r;cases r
 grind[Pc,List.replicate,aW,List.length_replicate,List.length_nil]
 rw[a]at r;cases r
theorem e99(g:AH c)(a:Ev (λn=>F147 n (c,())) ((0,()),())):(∃D,Rn c D/\Ev (λn=>F99 n (c,())) ((D,0,()),()))\/(NoD c/\Ev (λn=>F99 n (c,())) (([],7,()),())):=by
 have p:=g.len;have h:oe (Ss (au c.1)) (fZ (au c.1) (au c.1))=W:=by
  have:Ss (au c.1)=W:=by
   unfold Ss au
   grind
  rw[this];simp[oe,fZ]
 obtain⟨o,i,q⟩:=akD g (x:=(0,(List.replicate c.dJ.length aW,()),cb c,([],()),())) ⟨⟨0,_,[],rfl,GH _,PJ.zero,λj l=>absurd l (Nat.not_lt_zero _)⟩⟩;obtain⟨k,out,todo,rfl,l,r⟩|⟨s,k,rfl,d⟩:=q
 obtain⟨u,f,m⟩:=akC g (x':=px c out todo W) ⟨⟨out,todo,rfl,l,r⟩⟩;obtain⟨b,e,rfl,t⟩|⟨b,e,rfl,d⟩:=m
 refine .inl ⟨b,t,?_⟩;unfold F99 G99;refine Ev.aj a ?_;show Ev (λn=>TL.aS (oe (Ss (au c.1)) (fZ (au c.1) (au c.1))) _) _;rw[h];show Ev (λn=>aj _ _) _;refine Ev.bp (F:=λn=>On c n n) i _ _ ?_;show Ev (λn=>aj _ _) _;refine Ev.bp (F:=λn=>Wk n n) f _ _ ?_;exact dg;refine .inr ⟨d,?_⟩;unfold F99 G99;refine Ev.aj a ?_;show Ev (λn=>TL.aS (oe (Ss (au c.1)) (fZ (au c.1) (au c.1))) _) _;rw[h];show Ev (λn=>aj _ _) _;refine Ev.bp (F:=λn=>On c n n) i _ _ ?_;show Ev (λn=>aj _ _) _;refine Ev.bp (F:=λn=>Wk n n) f _ _ ?_;exact dg;refine .inr ⟨d,?_⟩;unfold F99 G99;refine Ev.aj a ?_;show Ev (λn=>TL.aS (oe (Ss (au c.1)) (fZ (au c.1) (au c.1))) _) _;rw[h];show Ev (λn=>aj _ _) _;refine Ev.bp (F:=λn=>On c n n) i _ _ ?_;refine bC λn=>?_;rfl
end
theorem GN:∀q:aI,1<=pw q
 |⟨_,_,_,_⟩=>by unfold pw;omega
theorem Fu:∀qs:L aI,qs.length<=o9 qs
 |[]=>GH _|q::qs=>by unfold o9;have:=Fu qs;grind[GN,List.length_cons]
def gx(left:Int)(k:Nat):Int:=if left<0 then -1 else if(k:Int)<=left then left-k else -1
theorem ud{left:Int}{k:Nat}(h:left<0):gx left k=-1:=bH h
theorem oK{left:Int}{k:Nat}(h:(k:Int)<=left):gx left k=left-k:=by unfold gx;rw[bS (by omega),bH h]
theorem rG{left:Int}{k:Nat}(h:left<(k:Int)):gx left k=-1:=by
 simp_all[gx,bH,bS]
theorem Pb{left:Int}{a:Nat}(b:1<=a)(h:0<=left):gx left a<=left-1/\-1<=gx left a:=by
 grind[oK,rG]
theorem yz{left:Int}{a b:Nat}:gx (gx left a) b=gx left (a+b):=by
 grind[oK,rG,ud]
theorem Hy{left:Int}(h:-1<=left):gx left 0=left:=by
 grind[ud,oK]
theorem abL(n k:Nat):R94 n (k+1)=B94 n (R94 n k):=rfl
def TA(q:aI):Prop:=∀left:Int,-1<=left->left<=1000->wI R94 (q,left,()) ((gx left (pw q),()),())
def FV{P:Type}(d:Nat):∀(qs pre:L aI)(left:Int),-1<=left->(pre.length:Int)+left<=1000->(∀q∈qs,TA q)->
  ∀F:Nat->Int×Int×U->O (LO (Int×Int×U) (Int×U) U P),
  (∀n b,F n b=ak (aG b.2.1 (au (pre++qs))) (ak (bB 0 b.1) (aS (aM b.2.1 (pre++qs)) (aj (R94 n (n-d) (@bE aI (pre++qs) (aC b.2.1) aR,b.1,())) λe=>Z (N (e.1.1,aJ .i64 b.2.1 1,())))) (Z (H 0 b))) (Z (H 0 b)))->
  ∃j,fu F (left,(pre.length:Int),()) (.out 0 (gx left (o9 qs),j,()))
 |[],pre,left,h1,h2,f,F,c=>by refine⟨(pre.length:Int),.out (bC λn=>?_)⟩;rw[c];have e:gx left (o9 [])=left:=Hy h1;rw[e];simp(disch:=omega)only[aV,iP]<;>rfl
 |q::qs,pre,left,h1,h2,f,F,c=>by
  by_cases l:left<0;refine⟨(pre.length:Int),.out (bC λn=>?_)⟩;rw[c];have e:gx left (o9 (q::qs))=left:=by rw[ud l];omega
  rw[e];simp(disch:=omega)only[aV]<;>rfl
  .have m:(pre++q::qs).getD pre.length aR=q:=rL ..;have o:=GN q;have p:=f q eN left h1 (by omega);have g:=Pb (left:=left) o (by omega);obtain⟨j,k⟩:=FV d qs (pre++[q]) (gx left (pw q)) g.2 (by simp;omega) (λr h=>f r (ie _ h)) F (λn e=>by rw[c];simp only[wv,Mg]<;>rfl);have e:gx (gx left (pw q)) (o9 qs)=gx left (o9 (q::qs)):=yz;rw[e]at k;refine⟨j,.next (y:=((gx left (pw q)),((pre++[q]).length:Int),())) ?_ k⟩;obtain⟨a,s⟩:=p d;refine⟨a,λn i=>?_⟩;show F n _=_;rw[c];simp(disch:=first|omega|simp only[hY];omega)only[aV,m,bQ,fK,fM,yS];exact(eC (λx=>aj x _) (s n i)).trans rfl
theorem Yi:∀q:aI,TA q
 |⟨a,n0,text,parts⟩=>by
  intro left h1 h2;refine wI.step abL λd=>?_;by_cases h3:left<1;rw[rG (by grind[GN])];refine bC λn=>?_;unfold B94;simp(disch:=omega)only[aV]<;>rfl
  .obtain ⟨j,f⟩:=FV (P:=Any) d parts [] (left-1) (by omega) (by simp;omega) (Ud parts) _ (λn e=>rfl);have e:gx (left-1) (o9 parts)=gx left (pw ⟨a,n0,text,parts⟩):=by rw[show left-1=gx left 1 from(oK (k:=1) (Int.not_lt.1 h3)).symm,yz];rfl
   rw[<-e];have hB:∀n,B94 n (R94 n (n-d)) (⟨a,n0,text,parts⟩,left,())=aj (iter (λb=>ak (aG b.2.1 (au parts)) (ak (bB 0 b.1) (aS (aM b.2.1 parts) (aj (R94 n (n-d) (@bE aI parts (aC b.2.1) aR,b.1,())) λe=>Z (N (e.1.1,aJ .i64 b.2.1 1,())))) (Z (H 0 b))) (Z (H 0 b))) n (left-1,0,())) λe=>bU (B:=U) (P:=Any) e (λ_ g=>Z ((g.1,()),())) (λ_ g=>Z (g,())) λ_ _=>Y:=by intro n;unfold B94;simp(disch:=omega)only[aV,de]<;>rfl
   exact Ev.n9 hB (Ev.bp f (λn e=>_) _ dg)
where
 Ud:∀c:L aI,∀q∈c,TA q
 |[],_,h=>by cases h
 |q::c,i,h=>by
  obtain h|h:=gn.1 h
  rw[h];exact Yi q;exact Ud c i h
def e94(q:aI){left:Int}(h1:1<=left)(h2:left<=1000):Ev (λn=>F94 n (q,left,())) ((gx left (pw q),()),()):=by exact Yi q left (by omega) h2 0
mutual
def sp:aI->aa
 |⟨_,_,text,parts⟩=>sps parts&&decide (text.length<=30)
def sps:L aI->aa
 |[]=>W|q::a=>sp q&&sps a
end
theorem LL:∀{qs:L aI},sps qs=W↔∀q∈qs,sp q=W
 |[]=>by simp[sps]
 |q::qs=>by simp[sps,LL (qs:=qs)]
theorem abK(n k:Nat):R95 n (k+1)=B95 n (R95 n k):=rfl
theorem short:∀q:aI,pw q<=1000->wI R95 (q,()) ((sp q,()),())
 |⟨c,n0,text,parts⟩,k=>by
  unfold pw at k;have u:=Fu parts;have l:=Yv parts (by omega);refine wI.step abK λd=>?_;unfold B95;have m:∀(i:Nat)(y:Int×U),(X () (J,()):LO (Int×U) (aa×U) U Any)≠.next y:=λ_ _ h=>by cases h
  have step:∀i,i<parts.length->Ev (λn=>ak (aG (i:Int) (au parts)) (aS (aM (i:Int) parts) (aj (R95 n (n-d) (@bE aI parts (aC (i:Int)) aR,())) λe=>ak (av e.1.1) (Z (X () (J,()))) (Z (N (aJ .i64 (i:Int) 1,()))))) (Z (H 0 ((i:Int),())))) (bif sp (parts.getD i aR)then .next (((i+1:Nat):Int),())else(X () (J,()):LO (Int×U) (aa×U) U Any)):=by intro i f;obtain⟨b,o⟩:=l _ (bV aR f) d;refine⟨b,λn p=>?_⟩;show TL.ak _ _ _=_;simp(disch:=omega)only[aV,bQ,fK,fM,yS];refine(eC (λx=>aj x _) (o n p)).trans ?_;cases v:sp (parts.getD i aR)<;>rfl
  rcases nY (F:=λn g=>ak (aG g.1 (au parts)) (aS (aM g.1 parts) (aj (R95 n (n-d) (@bE aI parts (aC g.1) aR,())) λe=>ak (av e.1.1) (Z (X () (J,()))) (Z (N (aJ .i64 g.1 1,()))))) (Z (H 0 g)))
   parts.length (λi=>((i:Int),())) (λi=>sp (parts.getD i aR)) (λ_=>(X () (J,()):LO (Int×U) (aa×U) U Any)) 0 m (λi f _=>step i f) (λ_=>bC λn=>by simp(disch:=omega)only[aV]<;>rfl)with⟨a,r⟩|⟨i,f,a,_,r⟩
  have e:sp ⟨c,n0,text,parts⟩=decide (text.length<=30):=by unfold sp;rw[LL.2 λq k=>?_,rf];obtain⟨i,f,rfl⟩:=sd k;have:=a i f;rwa [wB,iZ f]at this
  rw[e];refine Ev.bp r (λn e=>_) _ (bC λn=>?_);show Z ((bB (au text) 30,()),())=_;simp only[bB,au]
  grind
  have e:sp ⟨c,n0,text,parts⟩=J:=by
   grind[sp,sps,LL,bV,aR]
  rw[e];exact Ev.bp r (λn e=>_) _ dg
where
 Yv:∀j:L aI,o9 j<=1000->∀q∈j,wI R95 (q,()) ((sp q,()),())
 |[],_,_,h=>by cases h
 |q::j,s,t,h=>by
  unfold o9 at s;obtain h|h:=gn.1 h
  rw[h];exact short q (by omega);exact Yv j (by omega) t h
def Gi(q:aI):aa:=decide (pw q<=16)&&sp q
def PZ(q:aI):aI.mk q.1 q.2 q.3 q.4=q:=by cases q;rfl
def e41(q:aI):Ev (λn=>F41 n (q,())) ((Gi q,()),()):=by
 unfold F41;simp only[PZ];refine Ev.aj (e94 q (by omega) (by omega)) ?_;unfold Gi;by_cases h:pw q<=16;have a:((pw q:Nat):Int)<=16:=by omega
 rw[oK a,kT h,rf];simp(disch:=omega)only[aV];exact Ev.aj (short q (by omega) 0) (Ev.pure _);have a:¬((pw q:Nat):Int)<=16:=by omega
 simp_all[rG,jw,qd,bC,aV]
theorem iU{R B P:Type}(len:Nat)(q:Nat->aa)(bad:Nat->LO (Int×U) R B P){F:Nat->Int×U->O (LO (Int×U) R B P)}(c:∀i y,bad i≠.next y)
  (h:∀i,i<len->Ev (λn=>F n ((i:Int),())) (bif q i then .next (((i+1:Nat):Int),())else bad i)) (d:∀n,F n ((len:Int),())=Z (.out 0 ((len:Int),()))) :
  ((∀i,i<len->q i=W)/\fu F (0,()) (.out 0 ((len:Int),())))\/∃i,i<len/\q i=J/\fu F (0,()) (bad i):=by
 obtain⟨a,r⟩|⟨i,b,a,_,r⟩:=nY len (λi=>((i:Int),())) q bad 0 c (λi b _=>h i b) (λ_=>bC d)
 simp_all
 grind
structure Small(c:aB):Prop where
 ins:c.dJ.length<=1600
 pl:c.ey.length<=120
 pF:c.dh.length<=320
 cl:c.Cons.length<=30
 names:∀k∈c.Cons,k.Name.length<=30
 pats:∀q∈c.ey,pw q<=16
def fh{α:Type}{l:L α}{d:α}{Q:α->Prop}(h:∀i,i<l.length->Q (l.getD i d)):∀a∈l,Q a:=by intro a c;obtain⟨i,b,rfl⟩:=sd c;have:=h i b;rwa [wB,iZ b]at this
def Ca{α:Type}{l:L α}{d:α}{q:α->aa}(h:∀i,i<l.length->q (l.getD i d)=W):l.all q=W:=kU.2 (fh (d:=d) h)
theorem qi{α:Type}{l:L α}{d:α}{q:α->aa}{i:Nat}(hi:i<l.length)(h:q (l.getD i d)=J):l.all q=J:=by
 grind
def e11(c:aB):∃b,Ev (λn=>F11 n (c,())) ((b,()),())/\(b=W->Small c):=by
 unfold F11;by_cases h1:1600<c.dJ.length;exact⟨J,bC λn=>by simp(disch:=omega)only[aV]<;>rfl,λh=>by cases h⟩;by_cases h2:120<c.ey.length;exact⟨J,bC λn=>by simp(disch:=omega)only[aV]<;>rfl,λh=>by cases h⟩;by_cases h3:320<c.dh.length;exact⟨J,bC λn=>by simp(disch:=omega)only[aV]<;>rfl,λh=>by cases h⟩;by_cases h4:30<c.Cons.length;exact⟨J,bC λn=>by simp(disch:=omega)only[aV]<;>rfl,λh=>by cases h⟩;simp(disch:=omega)only[aV];have j:∀{P:Type}(i:Nat)(y:Int×U),(X () (J,()):LO (Int×U) (aa×U) U P)≠.next y:=λ_ _ h=>by cases h
 rcases iU c.ey.length (λi=>Gi (c.ey.getD i aR)) (λ_=>(X () (J,()):LO (Int×U) (aa×U) U Any)) (F:=λn g=>ak (aG g.1 (c.ey.length:Int)) (aS (aM g.1 c.ey) (aj (F41 n (c.ey.getD g.1.toNat aR,())) λd=>ak d.1.1 (Z (N (aJ .i64 g.1 1,()))) (Z (X () (J,()))))) (Z (H 0 g))) j
  (λi e=>by
   simp(disch:=omega)only[aV];refine Ev.aj (e41 _) (bC λn=>?_);cases Gi (c.ey.getD i aR)<;>simp(disch:=omega)only[aV,bQ,fK,fM]) (λn=>by simp(disch:=omega)only[aV])with⟨a,r⟩|⟨i,e,a,r⟩
 .rcases iU c.Cons.length (λi=>decide ((c.Cons.getD i br).Name.length<=30)) (λ_=>(X () (J,()):LO (Int×U) (aa×U) U Any)) (F:=λn g=>ak (aG g.1 (c.Cons.length:Int)) (aS (aM g.1 c.Cons) (ak (aG 30 ((c.Cons.getD g.1.toNat br).Name.length:Int)) (Z (X () (J,()))) (Z (N (aJ .i64 g.1 1,()))))) (Z (H 0 g))) j
   (λi e=>bC λn=>by
    by_cases k:(c.Cons.getD i br).Name.length<=30;simp(disch:=omega)only[aV,kT k,bQ,fK,fM];simp(disch:=omega)only[aV,jw k]) (λn=>by simp(disch:=omega)only[aV])with⟨l,f⟩|⟨i,e,l,f⟩
  refine⟨W,?_,λ_=>⟨by omega,by omega,by omega,by omega,fh (d:=br) λi e=>OK (l i e),fh (d:=aR) λi e=>?_⟩⟩;refine Ev.bp r _ _ ?_;refine Ev.bp f _ _ ?_;exact dg
  simp_all[Gi,eX,ri]
  refine⟨J,?_,λh=>by cases h⟩;refine Ev.bp r _ _ ?_;refine Ev.bp f _ _ ?_;exact dg
 refine⟨J,?_,λh=>by cases h⟩;refine Ev.bp r _ _ ?_;exact dg
theorem XT(n k:Nat):R228 n (k+1)=B228 n (R228 n k):=rfl
def aje(q:aI):Prop:=∀left:Int,0<=left->left<=1000->wI R228 (q,left,()) ((gx left (pw q),()),())
def PM{P:Type}(d:Nat):∀(qs pre:L aI)(left:Int),-1<=left->(pre.length:Int)+left<=1000->(∀q∈qs,aje q)->
  ∀F:Nat->Int×Int×U->O (LO (Int×Int×U) (Int×U) U P),
  (∀n b,F n b=ak (aG b.2.1 (au (pre++qs))) (aS (aM b.2.1 (pre++qs)) (ak (aG b.1 0) (Z (H 0 b)) (aj (R228 n (n-d) (@bE aI (pre++qs) (aC b.2.1) aR,b.1,())) λe=>Z (N (e.1.1,aJ .i64 b.2.1 1,()))))) (Z (H 0 b)))->
  ∃j,fu F (left,(pre.length:Int),()) (.out 0 (gx left (o9 qs),j,()))
 |[],pre,left,h1,h2,f,F,c=>by refine⟨(pre.length:Int),.out (bC λn=>?_)⟩;rw[c];have e:gx left (o9 [])=left:=Hy h1;rw[e];simp(disch:=omega)only[aV,iP]<;>rfl
 |q::qs,pre,left,h1,h2,f,F,c=>by
  by_cases l:left<0;refine⟨(pre.length:Int),.out (bC λn=>?_)⟩;rw[c];have e:gx left (o9 (q::qs))=left:=by rw[ud l];omega
  rw[e];simp(disch:=first|omega|simp only[hY];omega)only[aV]<;>rfl
  .have m:(pre++q::qs).getD pre.length aR=q:=rL ..;have o:=GN q;have p:=f q eN left (by omega) (by omega);have g:=Pb (left:=left) o (by omega);obtain⟨j,k⟩:=PM d qs (pre++[q]) (gx left (pw q)) g.2 (by simp;omega) (λr h=>f r (ie _ h)) F (λn e=>by rw[c];simp only[wv,Mg]<;>rfl);have e:gx (gx left (pw q)) (o9 qs)=gx left (o9 (q::qs)):=yz;rw[e]at k;refine⟨j,.next (y:=((gx left (pw q)),((pre++[q]).length:Int),())) ?_ k⟩;obtain⟨a,s⟩:=p d;refine⟨a,λn i=>?_⟩;show F n _=_;rw[c];simp(disch:=first|omega|simp only[hY];omega)only[aV,m,bQ,fK,fM,yS];exact(eC (λx=>aj x _) (s n i)).trans rfl
theorem amR:∀q:aI,aje q
 |⟨a,n0,text,parts⟩=>by
  intro left h1 h2;refine wI.step XT λd=>?_;obtain⟨j,f⟩:=PM (P:=Any) d parts [] (left-1) (by omega) (by simp;omega) (af5 parts) _ (λn e=>rfl);have e:gx (left-1) (o9 parts)=gx left (pw ⟨a,n0,text,parts⟩):=by by_cases h3:left<1;rw[ud (by omega),rG (by grind[GN])];rw[show left-1=gx left 1 from(oK (k:=1) (Int.not_lt.1 h3)).symm,yz];rfl
  rw[<-e];have hB:∀n,B228 n (R228 n (n-d)) (⟨a,n0,text,parts⟩,left,())=aj (iter (λb=>ak (aG b.2.1 (au parts)) (aS (aM b.2.1 parts) (ak (aG b.1 0) (Z (H 0 b)) (aj (R228 n (n-d) (@bE aI parts (aC b.2.1) aR,b.1,())) λe=>Z (N (e.1.1,aJ .i64 b.2.1 1,()))))) (Z (H 0 b))) n (left-1,0,())) λe=>bU (B:=U) (P:=Any) e (λ_ g=>Z ((g.1,()),())) (λ_ g=>Z (g,())) λ_ _=>Y:=by intro n;unfold B228 Jc;simp(disch:=omega)only[aV,de,PZ]<;>rfl
  exact Ev.n9 hB (Ev.bp f (λn e=>_) _ dg)
where
 af5:∀c:L aI,∀q∈c,aje q
 |[],_,h=>by cases h
 |q::c,i,h=>by
  obtain h|h:=gn.1 h
  rw[h];exact amR q;exact af5 c i h
def atz(q:aI){left:Int}(h1:0<=left)(h2:left<=1000):Ev (λn=>F228 n (q,left,())) ((gx left (pw q),()),()):=amR q left h1 h2 0
section
def adn(cons:L cL)(a n:Int)(k:Nat):aa:=
 if a=1\/a=2\/a=5 then decide (n=0)&&decide (k=0)
 else if a=3 then jh n&&decide (k=0)
 else if a=4 then decide (0<=n/\n<=1)&&decide (k=0)
 else if a=6 then decide (0<=n/\n<cons.length)&&decide ((k:Int)=(cons.getD n.toNat br).lE)
 else J
mutual
def qe(cons:L cL):aI->aa
 |⟨a,n,text,parts⟩=>(decide (text=[])&&pT cons parts)&&adn cons a n parts.length
def pT(cons:L cL):L aI->aa
 |[]=>W|q::a=>qe cons q&&pT cons a
end
theorem CH{cons:L cL}:∀{qs:L aI},pT cons qs=W↔∀q∈qs,qe cons q=W
 |[]=>by simp[pT]
 |q::qs=>by simp[pT,CH (qs:=qs)]
def rng(n:Nat)(a lo hi:Int):(ak (bB lo a) (Z ((bB a hi,()),())) (Z ((J,()),())))=(Z ((decide (lo<=a/\a<=hi),()),()):O ((aa×U)×U)):=by
 by_cases h1:lo<=a
 simp_all[aV,bB]
 simp(disch:=omega)only[aV];simp[h1]
variable {n:Nat}{cons:List cL}
def rQ(a lo hi:Int):F223 n (a,lo,hi,())=Z ((decide (lo<=a/\a<=hi),()),()):=rng n a lo hi
def Xx(a lo hi:Int):F241 n (a,lo,hi,())=Z ((decide (lo<=a/\a<=hi),()),()):=rng n a lo hi
def xp(a lo hi:Int):F104 n (a,lo,hi,())=Z ((decide (lo<=a/\a<=hi),()),()):=rng n a lo hi
theorem ku(l:L UInt8):gZ l []=decide (l=[]):=by cases l<;>rfl
theorem XV(n k:Nat):R159 n (k+1)=B159 n (R159 n k):=rfl
def TC(cons:L cL)(q:aI):Prop:=wI R159 (q,cons,()) ((qe cons q,()),())
def Us{R B P:Type}{cons:L cL}(d:Nat):∀(qs pre:L aI)(b:aa),pre.length+qs.length<=1000->(∀q∈qs,TC cons q)->
  ∀(F:Nat->aa×Int×U->O (LO (aa×Int×U) R B P)),
  (∀n i,F n i=ak (aG i.2.1 (au (pre++qs))) (ak i.1 (aS (aM i.2.1 (pre++qs)) (aj (R159 n (n-d) (@bE aI (pre++qs) (aC i.2.1) aR,cons,())) λj=>Z (N (j.1.1,aJ .i64 i.2.1 1,())))) (Z (H 0 i))) (Z (H 0 i)))->
  ∃j,fu F (b,(pre.length:Int),()) (.out 0 (b&&pT cons qs,j,()))
 |[],pre,b,h3,f,F,c=>by refine⟨(pre.length:Int),.out (bC λn=>?_)⟩;rw[c];simp(disch:=omega)only[aV,iP,pT,Ma]<;>rfl
 |q::qs,pre,b,h3,f,F,c=>by simp only[l5]at h3;cases b with|false=>refine⟨(pre.length:Int),.out (bC λn=>?_)⟩;rw[c];simp(disch:=omega)only[aV,qd]<;>rfl|true=>have k:(pre++q::qs).getD pre.length aR=q:=rL ..;obtain⟨j,o⟩:=Us d qs (pre++[q]) (qe cons q) (by simp;omega) (λl h=>f l (ie _ h)) F (λn e=>by rw[c];simp only[wv,Mg]<;>rfl);refine⟨j,.next (y:=(qe cons q,((pre++[q]).length:Int),())) ?_ (by simp_all[pT,rf])⟩;obtain⟨a,m⟩:=f q eN d;refine⟨a,λn g=>?_⟩;show F n _=_;rw[c];simp(disch:=first|omega|simp only[hY];omega)only[aV,k,bQ,fK,fM,yS];exact(eC (λx=>aj x _) (m n g)).trans rfl
def Zq(s:cons.length<=1000):∀q:aI,pw q<=1000->TC cons q
 |⟨a,n0,text,parts⟩,t=>by
  unfold pw at t;have x:=Fu parts;have u:=Zo parts (by omega);refine wI.step XV λd=>?_;have run:∀b:aa,Ev (λn=>aj (iter (Je n (R159 n (n-d)) (⟨a,n0,text,parts⟩,cons,())) n (b,0,())) (Jd n (R159 n (n-d)))) ((b&&pT cons parts,()),()):=by intro b;obtain⟨j,k⟩:=Us (cons:=cons) d parts [] b (by simp;omega) u _ (λn e=>rfl);exact Ev.bp (F:=λn c=>_) k (λn e=>_) _ dg
  have f:∀b:aa,Ev (λn=>ak b (aj (iter (Je n (R159 n (n-d)) (⟨a,n0,text,parts⟩,cons,())) n (decide (text=[]),0,())) (Jd n (R159 n (n-d)))) (aj (iter (Je n (R159 n (n-d)) (⟨a,n0,text,parts⟩,cons,())) n (J,0,())) (Jd n (R159 n (n-d))))) (((decide (text=[])&&pT cons parts)&&b,()),()):=by intro b;cases b with|true=>rw[Ma];exact run _|false=>rw[Mb];exact run J
  unfold qe adn;have i:(af n0 0)=decide (n0=0):=by by_cases h:n0=0<;>simp[af,h]
  unfold B159;by_cases l:a=1\/a=2\/a=5;rw[bH l];by_cases g:parts.length=0;rw[kT g,Ma];obtain c|c|c:=l<;>subst c<;>simp(disch:=omega)only[aV,aU,i,ku]<;>exact f _
  rw[jw g,Mb];obtain c|c|c:=l<;>subst c<;>simp(disch:=omega)only[aV,aU,i,ku]<;>exact f J
  rw[bS l];by_cases o:a=3;rw[bH o];subst o;by_cases g:parts.length=0;rw[kT g,Ma];simp(disch:=omega)only[aV,aU,Xx,ku];have:=f (jh n0);simp only[jh,Bool.decide_and]at this ⊢;exact this;rw[jw g,Mb];simp(disch:=omega)only[aV,aU,ku];exact f J;rw[bS o];by_cases p:a=4;rw[bH p];subst p;by_cases g:parts.length=0;rw[kT g,Ma];simp(disch:=omega)only[aV,aU,Xx,ku];exact f _;rw[jw g,Mb];simp(disch:=omega)only[aV,aU,ku];exact f J;rw[bS p];by_cases r:a=6;rw[bH r];subst r;by_cases k:0<=n0/\n0<cons.length;rw[kT k,rf];simp(disch:=omega)only[aV,aU,Xx,de,kT (show 0<=n0/\n0<=(cons.length:Int)-1 by omega),ku];rw[show af (parts.length:Int) (cons.getD n0.toNat br).lE=decide ((parts.length:Int)=(cons.getD n0.toNat br).lE)by rfl];exact f _;rw[jw k,qd];simp(disch:=omega)only[aV,aU,Xx,de,jw (show ¬(0<=n0/\n0<=(cons.length:Int)-1)by omega),ku];exact f J;rw[bS r];simp(disch:=omega)only[aV,aU,ku];exact f J
where
 Zo:∀m:L aI,o9 m<=1000->∀q∈m,TC cons q
 |[],_,_,h=>by cases h
 |q::m,v,w,h=>by
  unfold o9 at v;obtain h|h:=gn.1 h
  rw[h];exact Zq s q (by omega);exact Zo m (by omega) w h
def atQ(a:cons.length<=1000)(q:aI)(b:pw q<=1000):Ev (λn=>F106 n (q,cons,())) ((qe cons q,()),()):=by unfold F106;simp only[PZ];exact Ev.aj (Zq a q b 0) (Ev.pure _)
end
theorem XS(n k:Nat):R229 n (k+1)=B229 n (R229 n k):=rfl
theorem Zp{cons:L cL}(z:cons.length<=1000):∀q:aI,pw q<=1000->wI R229 (q,cons,()) ((qe cons q,()),())
 |⟨g,n0,text,parts⟩,K=>by
  unfold pw at K;have hl:=Fu parts;have P:=Zo parts (by omega);refine wI.step XS λd=>?_;have R:∀(i:Nat)(y:Int×U),(X () ((i:Int),()):LO (Int×U) (Int×U) U Any)≠.next y:=λ_ _ h=>by cases h
  have m:Ev (λn=>T6 n (R229 n (n-d)) (⟨g,n0,text,parts⟩,cons,())) ((pT cons parts,()),()):=by
   have step:∀i,i<parts.length->Ev (λn=>ak (aG (i:Int) (au parts)) (aS (aM (i:Int) parts) (aj (R229 n (n-d) (aI.mk (@bE aI parts (aC (i:Int)) aR).1 (@bE aI parts (aC (i:Int)) aR).2 (@bE aI parts (aC (i:Int)) aR).3 (@bE aI parts (aC (i:Int)) aR).4,cons,())) λe=>ak (av e.1.1) (Z (X () ((i:Int),()))) (Z (N (aJ .i64 (i:Int) 1,()))))) (Z (H 0 ((i:Int),())))) (bif qe cons (parts.getD i aR)then .next (((i+1:Nat):Int),())else(X () ((i:Int),()):LO (Int×U) (Int×U) U Any)):=by intro i s;obtain⟨f,S⟩:=P _ (bV aR s) d;refine⟨f,λn hn=>?_⟩;show TL.ak _ _ _=_;simp(disch:=omega)only[aV,PZ,bQ,fK,fM,yS];refine(eC (λx=>aj x _) (S n hn)).trans ?_;cases z:qe cons (parts.getD i aR)<;>rfl
   rcases iU (F:=λn l=>ak (aG l.1 (au parts)) (aS (aM l.1 parts) (aj (R229 n (n-d) (aI.mk (@bE aI parts (aC l.1) aR).1 (@bE aI parts (aC l.1) aR).2 (@bE aI parts (aC l.1) aR).3 (@bE aI parts (aC l.1) aR).4,cons,())) λe=>ak (av e.1.1) (Z (X () l)) (Z (N (aJ .i64 l.1 1,()))))) (Z (H 0 l)))
    parts.length (λi=>qe cons (parts.getD i aR)) (λi=>(X () ((i:Int),()):LO (Int×U) (Int×U) U Any)) R step (λn=>by simp(disch:=omega)only[aV]<;>rfl)with⟨a,r⟩|⟨i,s,a,r⟩
   rw[CH.2 (fh (d:=aR) a)];refine Ev.bp r _ _ (bC λn=>?_);rfl;have e:pT cons parts=J:=by
    grind[pT,CH,bV,aR]
   rw[e];refine Ev.bp r _ _ (bC λn=>?_);rfl
  have A:∀{k:aa}{F:Nat->O ((aa×U)×U)},Ev F ((k,()),())->∀t:aa,Ev (λn=>ak t (F n) (Z ((J,()),()))) ((t&&k,()),()):=by intro k F h t;cases t with|true=>exact h|false=>exact Ev.pure _
  have j:Ev (λn=>Jb n (R229 n (n-d)) (⟨g,n0,text,parts⟩,cons,())) ((decide (text=[])&&(decide (parts.length=0)&&pT cons parts),()),()):=by
   unfold Jb tI;have k0:(af (au parts) 0)=decide (parts.length=0):=by by_cases h:parts.length=0<;>simp[af,h,au]
   grind[ku]
  unfold qe adn;have u:∀t k p b:aa,(t&&(k&&p))=((t&&p)&&(W&&k)):=λt k p b=>by cases t<;>cases k<;>cases p<;>rfl
  unfold B229;by_cases v:g=1\/g=2\/g=5;rw[bH v];by_cases o:n0=0;rw[kT o,<-u _ _ _ W];obtain c|c|c:=v<;>subst c<;>simp(disch:=omega)only[aV,aU,o]<;>(subst o;exact j)
  rw[jw o,qd,Mb];obtain c|c|c:=v<;>subst c<;>simp(disch:=omega)only[aV,aU,o]<;>exact Ev.pure _
  rw[bS v];by_cases B:g=3
  .rw[bH B];have s:(decide (-1000000000<=n0/\n0<=1000000000))=jh n0:=by simp only[jh,Bool.decide_and]
   simp(disch:=omega)only[aV,aU,rQ,s];cases jh n0 with|true=>rw[<-u _ _ _ W];exact j|false=>rw[qd,Mb];exact Ev.pure _
  rw[bS B];by_cases C:g=4
  .rw[bH C];simp(disch:=omega)only[aV,aU,rQ];cases decide (0<=n0/\n0<=1)with|true=>rw[<-u _ _ _ W];exact j|false=>rw[qd,Mb];exact Ev.pure _
  rw[bS C];by_cases E:g=6;rw[bH E];by_cases I:0<=n0/\n0<cons.length;rw[kT I,<-u _ _ _ W];simp(disch:=omega)only[aV,aU,rQ,de,kT (show 0<=n0/\n0<=(cons.length:Int)-1 by omega),ku];exact A (A m _) _;rw[jw I,qd,Mb];simp(disch:=omega)only[aV,aU,rQ,de,jw (show ¬(0<=n0/\n0<=(cons.length:Int)-1)by omega)];exact Ev.pure _;rw[bS E,Mb];simp(disch:=omega)only[aV,aU];exact Ev.pure _
where
 Zo:∀w:L aI,o9 w<=1000->∀q∈w,wI R229 (q,cons,()) ((qe cons q,()),())
 |[],_,_,h=>by cases h
 |q::w,hp,q',h=>by
  unfold o9 at hp;obtain h|h:=gn.1 h
  rw[h];exact Zp z q (by omega);exact Zo w (by omega) q' h
section
variable {n:Nat}{c:aB}{i:bT}
def NP(x:Int×Int)(a:Int):aa:=decide (x.1<=a/\a<=x.2)
def fA(c:aB)(op:Int):Int×Int:=
 if op=1 then(-1000000000,1000000000)else if op=2 then(0,1)else if op=4 then(0,29)else if op=5 then(0,(c.dh.length:Int)-1)
 else if op=6\/op=11\/op=12\/op=31\/op=32 then(0,(c.dJ.length:Int)-1)else if op=10 then(1,30)else if op=18 then(0,(c.Cons.length:Int)-1)
 else if op=19 then(0,(c.ey.length:Int)-1)else if op=29 then(0,3)else(0,0)
def fB(c:aB)(op:Int):Int×Int:=if op=19 then(0,(c.dJ.length:Int)-1)else(0,0)
def w8(c:aB)(i:bT):aa:=decide (1<=i.Op/\i.Op<=34)&&(NP (fA c i.Op) i.A&&NP (fB c i.Op) i.B)
theorem atP(hs:Small c):F107 n (c,i,())=Z ((w8 c i,()),()):=by
 have h1:=hs.ins;have h2:=hs.pF;have h3:=hs.cl;have h4:=hs.pl;obtain⟨op,A,B⟩:=i;have s:∀x y:Int,decide (x=y)=NP (y,y) x:=λx y=>by unfold NP;by_cases h:x=y<;>simp[h]<;>omega
 have d0:∀x:Int,af x 0=NP (0,0) x:=λx=>by simp_all[af,Bool.beq_eq_decide_eq]
 by_cases HE:op=19;subst HE;have r:w8 c ⟨19,A,B⟩=(decide (0<=A/\A<=(c.ey.length:Int)-1)&&decide (0<=B/\B<=(c.dJ.length:Int)-1)):=rfl;rw[r];unfold F107 NH I7;simp(disch:=omega)only[aV,aU,xp,de];cases decide (0<=A/\A<=(c.ey.length:Int)-1)<;>simp only[aV,rf,qd];have t:fB c op=(0,0):=bS HE;by_cases hB:B=0;subst hB;have u:∀b:aa,(b&&NP (0,0) 0)=b:=λb=>by cases b<;>rfl
 have r:w8 c ⟨op,A,0⟩=(decide (1<=op/\op<=34)&&NP (fA c op) A):=by
  unfold w8
  grind
 rw[r];unfold F107 NH I7;by_cases e:op=1;subst e;simp(disch:=omega)only[aV,aU,xp]<;>rfl;by_cases f:op=2;subst f;simp(disch:=omega)only[aV,aU,xp]<;>rfl;by_cases g:op=4;subst g;simp(disch:=omega)only[aV,aU,xp]<;>rfl;by_cases j:op=5;subst j;simp(disch:=omega)only[aV,aU,xp,de]<;>rfl;by_cases a:op=6\/op=11\/op=12\/op=31\/op=32;obtain h|h|h|h|h:=a<;>subst h<;>simp(disch:=omega)only[aV,aU,xp,de]<;>rfl
 by_cases d:op=10;subst d;simp(disch:=omega)only[aV,aU,xp]<;>rfl;by_cases Z0:op=18;subst Z0;simp(disch:=omega)only[aV,aU,xp,de]<;>rfl;by_cases ZY:op=29;subst ZY;simp(disch:=omega)only[aV,aU,xp]<;>rfl;have p:fA c op=(0,0):=by unfold fA;rw[bS e,bS f,bS g,bS j,bS a,bS d,bS Z0,bS HE,bS ZY]
 rw[p];have q:op≠6:=λh=>a (.inl h);have k:op≠11:=λh=>a (.inr (.inl h));have l:op≠12:=λh=>a (.inr (.inr (.inl h)));have m:op≠31:=λh=>a (.inr (.inr (.inr (.inl h))));have o:op≠32:=λh=>a (.inr (.inr (.inr (.inr h))));simp(disch:=omega)only[aV,aU,xp,HE,e,f,g,j,q,k,l,m,o,d,Z0,ZY,d0];cases decide (1<=op/\op<=34)<;>rfl;have r:w8 c ⟨op,A,B⟩=J:=by
  unfold w8
  grind
 rw[r];unfold F107;simp(disch:=omega)only[aV,HE,hB]<;>rfl
end
section
variable {n:Nat}{c:aB}{op:Int}
def aty(hs:Small c):∃x y,∀n,F232 n (c,op,())=Z ((⟨(fA c op).1,(fA c op).2,x⟩,⟨(fB c op).1,(fB c op).2,y⟩,decide (1<=op/\op<=34),()),()):=by
 have h1:=hs.ins;have h2:=hs.pF;have h3:=hs.cl;have h4:=hs.pl;by_cases HE:op=19;subst HE;exact⟨W,W,λn=>by unfold F232 jt om;simp(disch:=omega)only[aV,aU,rQ,de]<;>rfl⟩;by_cases d:op=1;subst d;exact⟨W,J,λn=>by unfold F232 jt om;simp only[aV,aU,rQ]<;>rfl⟩;by_cases e:op=2;subst e;exact⟨W,J,λn=>by unfold F232 jt om;simp(disch:=omega)only[aV,aU,rQ]<;>rfl⟩;by_cases f:op=4;subst f;exact⟨W,J,λn=>by unfold F232 jt om;simp(disch:=omega)only[aV,aU,rQ]<;>rfl⟩;by_cases g:op=5;subst g;exact⟨W,J,λn=>by unfold F232 jt om;simp(disch:=omega)only[aV,aU,rQ,de]<;>rfl⟩;by_cases a:op=6\/op=11\/op=12\/op=31\/op=32;obtain h|h|h|h|h:=a<;>subst h<;>exact⟨W,J,λn=>by unfold F232 jt om;simp(disch:=omega)only[aV,aU,rQ,de]<;>rfl⟩
 by_cases b:op=10;subst b;exact⟨W,J,λn=>by unfold F232 jt om;simp(disch:=omega)only[aV,aU,rQ]<;>rfl⟩;by_cases Z0:op=18;subst Z0;exact⟨W,J,λn=>by unfold F232 jt om;simp(disch:=omega)only[aV,aU,rQ,de]<;>rfl⟩;by_cases ZY:op=29;subst ZY;exact⟨W,J,λn=>by unfold F232 jt om;simp(disch:=omega)only[aV,aU,rQ]<;>rfl⟩;have m:fA c op=(0,0):=by unfold fA;rw[bS d,bS e,bS f,bS g,bS a,bS b,bS Z0,bS HE,bS ZY]
 have o:fB c op=(0,0):=bS HE;rw[m,o];have p:op≠6:=λh=>a (.inl h);have i:op≠11:=λh=>a (.inr (.inl h));have j:op≠12:=λh=>a (.inr (.inr (.inl h)));have k:op≠31:=λh=>a (.inr (.inr (.inr (.inl h))));have l:op≠32:=λh=>a (.inr (.inr (.inr (.inr h))));exact⟨J,J,λn=>by
  unfold F232 jt om;simp(disch:=omega)only[aV,aU,rQ,HE,d,e,f,g,p,i,j,k,l,b,Z0,ZY]<;>rfl⟩
def aiz(hs:Small c):Ev (λn=>NF n (c,())) ((bif c.dJ.all (w8 c)then 0 else 2,()),()):=by
 have h1:=hs.ins;have f:∀(i:Nat)(y:Int×U),(X () ((i:Int),()):LO (Int×U) (Int×U) U Any)≠.next y:=λ_ _ h=>by cases h
 unfold NF oq;rcases iU (F:=λn(o:Int×U)=>ak (aG o.1 (au c.1)) (aS (aM o.1 c.1) (aj (F232 n (c,(bE c.1 (aC o.1) cg).1,())) λp=>ak p.1.2.2.1 (aj (F223 n ((bE c.1 (aC o.1) cg).2,p.1.1.1,p.1.1.2,())) λq=>ak q.1.1 (aj (F223 n ((bE c.1 (aC o.1) cg).3,p.1.2.1.1,p.1.2.1.2,())) λr=>ak (av r.1.1) (Z (X () o)) (Z (N (aJ .i64 o.1 1,())))) (Z (X () o))) (Z (X () o)))) (Z (H 0 o)))
  c.dJ.length (λi=>w8 c (c.dJ.getD i cg)) (λi=>(X () ((i:Int),()):LO (Int×U) (Int×U) U Any)) f
  (λi e=>by
   obtain⟨x,y,b⟩:=aty (op:=(c.dJ.getD i cg).Op) hs;refine bC λn=>?_;simp(disch:=omega)only[aV,b,rQ,bQ,fK,fM,yS];unfold w8 NP;cases decide (1<=(c.dJ.getD i cg).Op/\(c.dJ.getD i cg).Op<=34)with
   |false=>rfl|true=>
    cases decide ((fA c (c.dJ.getD i cg).Op).1<=(c.dJ.getD i cg).A/\(c.dJ.getD i cg).A<=(fA c (c.dJ.getD i cg).Op).2)with
    |false=>rfl|true=>
     cases decide ((fB c (c.dJ.getD i cg).Op).1<=(c.dJ.getD i cg).B/\(c.dJ.getD i cg).B<=(fB c (c.dJ.getD i cg).Op).2)<;>rfl) (λn=>by simp(disch:=omega)only[aV]<;>rfl)with⟨a,r⟩|⟨i,e,a,r⟩
 rw[Ca (d:=cg) a];refine Ev.bp r _ _ (bC λn=>?_);rfl;rw[qi (d:=cg) e a];refine Ev.bp r _ _ (bC λn=>?_);rfl
end
section
def Hu(b:UInt8):aa:=decide (97<=b.toNat/\b.toNat<=122)
def z9(s:L UInt8):aa:=match s with
 |[]=>J|a::l=>(decide (l.length<=7)&&decide (65<=a.toNat/\a.toNat<=90))&&l.all Hu
theorem sw(a:UInt8)(l:L UInt8):z9 (a::l)=((decide (l.length<=7)&&decide (65<=a.toNat/\a.toNat<=90))&&l.all Hu):=rfl
theorem LU(l:L UInt8)(i:Nat):mX l i=((l.getD i 0).toNat:Int):=rfl
variable {l:List UInt8}
def atu(hl:l.length<=1000):Ev (λn=>F275 n (l,())) ((l.all Hu,()),()):=by
 unfold F275;have e:∀(i:Nat)(y:Int×U),(X () (J,()):LO (Int×U) (aa×U) U Any)≠.next y:=λ_ _ h=>by cases h
 rcases iU (F:=λn c=>ak (aG c.1 (au l)) (aS (aM c.1 l) (ak (aG (mX l c.1) 97) (Z (X () (J,()))) (aS (aM c.1 l) (ak (aG 122 (mX l c.1)) (Z (X () (J,()))) (Z (N (aJ .i64 c.1 1,()))))))) (Z (H 0 c))) l.length (λi=>Hu (l.getD i 0)) (λ_=>(X () (J,()):LO (Int×U) (aa×U) U Any)) e (λi b=>bC λn=>by
   unfold Hu;by_cases h1:97<=(l.getD i 0).toNat;by_cases h2:(l.getD i 0).toNat<=122;simp(disch:=omega)only[aV,LU,kT (And.intro h1 h2),bQ,fK,fM];simp(disch:=omega)only[aV,LU,jw (λh:97<=(l.getD i 0).toNat/\(l.getD i 0).toNat<=122=>h2 h.2)];simp(disch:=omega)only[aV,LU,jw (λh:97<=(l.getD i 0).toNat/\(l.getD i 0).toNat<=122=>h1 h.1)]) (λn=>by simp(disch:=omega)only[aV]<;>rfl)with⟨a,r⟩|⟨i,b,a,r⟩
 rw[Ca (d:=(0:UInt8)) a];exact Ev.bp r (λn c=>_) _ dg;rw[qi (d:=(0:UInt8)) b a];exact Ev.bp r (λn c=>_) _ dg
theorem YA(l:L UInt8)(pos:Nat)(h:pos<l.length):(Hu l[pos]=W/\vY l pos=(l[pos].toNat:Int)/\Jk l pos=1)\/(Hu l[pos]=J/\(vY l pos<97\/122<vY l pos)):=by
 have a:pos<(cY l).size:=by simpa[cY,ByteArray.size]using h
 have b:(cY l)[pos]'a=l[pos]:=rfl;unfold Hu vY Jk;by_cases h1:l[pos].toNat<128;have c:=decode_ascii (cY l) pos a (by grind)
 grind
 grind[decode_high,cY,decide_eq_false]
def Gs(F:Nat->(L UInt8×Nat)×U->O (LO ((L UInt8×Nat)×U) (aa×U) ((L UInt8×Nat)×U) Any))
  (e:∀n c,F n c=ak (Se c.1.2 c.1.1) (ak (aG (vY c.1.1 c.1.2) 97) (Ny n c) (ak (aG 122 (vY c.1.1 c.1.2)) (Ny n c) (Z (N ((c.1.1,ae5 c.1.2 (Jk c.1.1 c.1.2)),()))))) (Z (H 0 c))) :
  ∀(k:Nat)(l:L UInt8)(pos:Nat),pos+k=l.length->((l.drop pos).all Hu=W/\∃c,fu F ((l,pos),()) (.out 0 c))\/((l.drop pos).all Hu=J/\∃c,fu F ((l,pos),()) (.ret c (J,())))
 |0,l,pos,h=>by
  refine .inl ⟨by simp_all,((l,pos),()),.out (bC λn=>?_)⟩
  simp_all[Se,jw,aV]
 |k+1,l,pos,h=>by
  have f:pos<l.length:=by omega
  have i:l.drop pos=l[pos]::l.drop (pos+1):=UF f;have d:Se pos l=W:=kT f;rw[i,List.all_cons];obtain⟨a,b,c⟩|⟨a,b⟩:=YA l pos f
  .have j:97<=l[pos].toNat/\l[pos].toNat<=122:=OK a;rw[a,rf];have g:Ev (λn=>F n ((l,pos),())) (.next ((l,pos+1),())):=bC λn=>by rw[e];simp(disch:=omega)only[aV,d,b,c];rfl
   obtain⟨x,y,z⟩|⟨x,y,z⟩:=Gs F e k l (pos+1) (by omega)
   .exact .inl ⟨x,y,.next g z⟩
   .exact .inr ⟨x,y,.next g z⟩
  rw[a,qd];refine .inr ⟨rfl,((l,ae5 pos (Jk l pos)),()),.ret (bC λn=>?_)⟩;rw[e];obtain b|b:=b
  simp(disch:=omega)only[aV,d]<;>rfl;by_cases m:vY l pos<97;simp(disch:=omega)only[aV,d]<;>rfl;simp(disch:=omega)only[aV,d]<;>rfl
def SY{G:Nat->L UInt8->O ((aa×U)×U)}{a:UInt8}(h:Ev (λn=>G n l) ((l.all Hu,()),()))(hl:l.length<=7) :
  Ev (λn=>aS (aM 0 (a::l)) (ak (bB 65 (mX (a::l) 0)) (aS (aM 0 (a::l)) (ak (bB (mX (a::l) 0) 90) (aS (eF 1 (au (a::l)) (au (a::l))) (aj (G n (cO (a::l) 1 (au (a::l)))) λc=>Z c)) (Z ((J,()),())))) (Z ((J,()),())))) ((z9 (a::l),()),()):=by
 rw[sw,kT hl,rf];have e:mX (a::l) 0=(a.toNat:Int):=rfl;by_cases h1:65<=a.toNat;by_cases h2:a.toNat<=90;rw[kT (And.intro h1 h2),rf];simp(disch:=first|omega|simp only[hY];omega)only[aV,e,qE];exact Ev.aj h (Ev.pure _);rw[jw (λh:65<=a.toNat/\a.toNat<=90=>h2 h.2),qd];exact bC λn=>by simp(disch:=first|omega|simp only[hY];omega)only[aV,e]
 rw[jw (λh:65<=a.toNat/\a.toNat<=90=>h1 h.1),qd];exact bC λn=>by simp(disch:=first|omega|simp only[hY];omega)only[aV,e]
def atx{s:L UInt8}(hs:s.length<=1000):Ev (λn=>F240 n (s,())) ((z9 s,()),()):=by
 unfold F240;cases s with
 |nil=>exact bC λn=>by simp(disch:=omega)only[aV]<;>rfl
 |cons a l=>simp only[l5]at hs;by_cases h:l.length<=7;have:=SY (G:=λn l=>F275 n (l,())) (a:=a) (atu (l:=l) (by omega)) h;refine Ev.n9 (λn=>?_) this;simp only[au,l5];rw[RI (by omega),RI (by omega)];rw[sw,jw h,qd,qd];exact bC λn=>by simp(disch:=omega)only[aV]
def M0(c:cL):aa:=z9 c.Name&&decide (0<=c.lE/\c.lE<=3)
theorem take_succ{α:Type}{l:L α}{i:Nat}(d:α)(h:i<l.length):l.take i++[l.getD i d]=l.take (i+1):=by
 simp_all
theorem ry{α:Type}{l:L α}{i:Nat}(d:α)(h:i<l.length):(l.take (i+1)).Nodup↔(l.take i).Nodup/\l.getD i d∉l.take i:=by
 rw[<-take_succ d h,List.nodup_append]
 grind
theorem atK{l:L (L UInt8)}{s:L UInt8}(hl:l.length<=1000):Ev (λn=>F141 n (l,s,())) ((decide (s∈l),()),()):=by
 unfold F141;have b:∀(i:Nat)(y:Int×U),(X () (W,()):LO (Int×U) (aa×U) U Any)≠.next y:=λ_ _ h=>by cases h
 rcases iU (F:=λn c=>ak (aG c.1 (au l)) (aS (aM c.1 l) (ak (gZ (bE l (aC c.1) []) s) (Z (X () (W,()))) (Z (N (aJ .i64 c.1 1,()))))) (Z (H 0 c))) l.length (λi=>!(gZ (l.getD i []) s)) (λ_=>(X () (W,()):LO (Int×U) (aa×U) U Any)) b (λi e=>bC λn=>by
   cases f:gZ (l.getD i []) s<;>simp(disch:=omega)only[aV,f,bQ,fK,fM,Jt,Mc]) (λn=>by simp(disch:=omega)only[aV]<;>rfl)with⟨a,r⟩|⟨i,e,a,r⟩
 have:s∉l:=by intro g;have:=fh (d:=([]:L UInt8)) (Q:=λx=>(!(gZ x s))=W) a s g;simp[gZ]at this
 rw[jw this];exact Ev.bp r (λn c=>_) _ dg;have:s∈l:=by
  grind[gZ,bV]
 rw[kT this];exact Ev.bp r (λn c=>_) _ dg
theorem atL{l:L (L UInt8)}(hl:l.length<=1000):∃b,Ev (λn=>F139 n (l,())) ((b,()),())/\(b=W↔l.Nodup):=by
 unfold F139;have e:∀(i:Nat)(y:Int×U),(X () (J,()):LO (Int×U) (aa×U) U Any)≠.next y:=λ_ _ h=>by cases h
 rcases iU (F:=λn c=>ak (aG c.1 (au l)) (aS (eF 0 c.1 (au l)) (aS (aM c.1 l) (aj (F141 n (cO l 0 c.1,bE l (aC c.1) [],())) λd=>ak d.1.1 (Z (X () (J,()))) (Z (N (aJ .i64 c.1 1,())))))) (Z (H 0 c))) l.length (λi=>!(decide (l.getD i []∈l.take i))) (λ_=>(X () (J,()):LO (Int×U) (aa×U) U Any)) e (λi f=>by
   simp(disch:=omega)only[aV,yg];refine Ev.aj (atK (by grind)) (bC λn=>?_);cases j:decide (l.getD i []∈l.take i)<;>simp(disch:=omega)only[aV,bQ,fK,fM,Jt,Mc]) (λn=>by simp(disch:=omega)only[aV]<;>rfl)with⟨a,r⟩|⟨i,f,a,r⟩
 refine⟨W,Ev.bp r (λn c=>_) _ dg,λ_=>?_,λ_=>rfl⟩;have:∀i,i<=l.length->(l.take i).Nodup:=by
  intro i
  induction i with
  |zero=>intro _;simp
  |succ i k=>
   grind[ry,decide_eq_true]
 have:=this l.length (eP _);rwa [RW]at this;refine⟨J,Ev.bp r (λn c=>_) _ dg,(λh=>by cases h),λg=>?_⟩;have h1:(l.take (i+1)).Nodup:=List.Nodup.sublist (List.take_sublist _ _) g
 grind[h2,ry,decide_eq_false]
end
def att(s:L UInt8):Ev (λn=>F284 n (s,())) ((z9 s,()),()):=by
 unfold F284;cases s with
 |nil=>exact dg|cons a l=>
  have b:gZ (a::l) []=J:=rfl;have e:mX (a::l) 0=(a.toNat:Int):=rfl;by_cases h:l.length<=7;rw[sw,kT h,rf];by_cases h1:65<=a.toNat;by_cases h2:a.toNat<=90;rw[kT (And.intro h1 h2),rf];simp(disch:=first|omega|simp only[hY];omega)only[aV,b,e,qE];obtain⟨a,c,r⟩|⟨a,c,r⟩:=Gs _ (λn c=>rfl) l.length l 0 (by omega)
  rw[List.drop_zero]at a;rw[a];exact Ev.bp (F:=λn c=>_) r (λn c=>_) _ dg;rw[List.drop_zero]at a;rw[a];exact Ev.bp (F:=λn c=>_) r (λn c=>_) _ dg;rw[jw (λh:65<=a.toNat/\a.toNat<=90=>h2 h.2),qd];exact bC λn=>by simp(disch:=first|omega|simp only[hY];omega)only[aV,b,e]
  rw[jw (λh:65<=a.toNat/\a.toNat<=90=>h1 h.1),qd];exact bC λn=>by simp(disch:=first|omega|simp only[hY];omega)only[aV,b,e]
  rw[sw,jw h,qd,qd];exact bC λn=>by simp(disch:=omega)only[aV,b]
theorem lP{X R B P α:Type}(j:Nat)(x:X)(f:Nat->X->O α)(g:B->R->O α)(h:B->P->O α):bU (.out j x) f g h=f j x:=rfl
theorem ait{X R B P α:Type}(b:B)(r:R)(f:Nat->X->O α)(g:B->R->O α)(h:B->P->O α):bU (.ret b r) f g h=g b r:=rfl
theorem atH{l:L cL}(hl:l.length<=1000)(hs:∀c∈l,c.Name.length<=1000):∃b,Ev (λn=>F158 n (l,())) ((b,()),())/\(b=W↔(∀c∈l,M0 c=W)/\l.length<=20/\(l.map cL.Name).Nodup):=by
 unfold F158;have p:∀(i:Nat)(y:L (L UInt8)×Int×U),(X () (J,()):LO (L (L UInt8)×Int×U) (aa×U) U Any)≠.next y:=λ_ _ h=>by cases h
 rcases nY (F:=λn c=>ak (aG c.2.1 (au l)) (aS (aM c.2.1 l) (aj (F240 n ((bE l (aC c.2.1) br).1,())) λd=>ak (av d.1.1) (Z (X () (J,()))) (aS (aM c.2.1 l) (aj (F241 n ((bE l (aC c.2.1) br).2,0,3,())) λe=>ak (av e.1.1) (Z (X () (J,()))) (aS (aM c.2.1 l) (aS (dI c.1 [(bE l (aC c.2.1) br).1]) (Z (N (dx c.1 [(bE l (aC c.2.1) br).1],aJ .i64 c.2.1 1,()))))))))) (Z (H 0 c)))
  l.length (λi=>((l.take i).map cL.Name,(i:Int),())) (λi=>M0 (l.getD i br)) (λ_=>(X () (J,()):LO (L (L UInt8)×Int×U) (aa×U) U Any)) 0 p (λi k _=>by
   simp(disch:=omega)only[aV];refine Ev.aj (atx (hs _ (bV br k))) ?_;unfold M0;cases z9 (l.getD i br).Name with
   |false=>simp_all[bC,aV,qd]|true=>
    refine bC λn=>?_;have f:dI (List.map cL.Name (List.take i l)) [(l.getD i br).Name]=W:=HZ.2 (by simp;omega);cases m:decide (0<=(l.getD i br).lE/\(l.getD i br).lE<=3)with
    |false=>simp only[aV,Xx,m,rf]|true=>
     simp(disch:=omega)only[aV,Xx,m,rf,f,bQ,fK,fM]
     grind[take_succ,br]) (λ_=>bC λn=>by simp(disch:=omega)only[aV]<;>rfl)with⟨a,r⟩|⟨i,k,a,_,r⟩
 rw[RW]at r;obtain⟨b,g,q⟩:=atL (l:=l.map cL.Name) (by simp_all);have o:∀c∈l,M0 c=W:=fh (d:=br) a;by_cases j:l.length<=20;refine⟨b,Ev.bp r (λn c=>_) _ ?_,by simp_all⟩;refine Ev.n9 (λn=>lP ..) ?_;simp(disch:=omega)only[aV];exact Ev.aj g (Ev.pure _);refine⟨J,Ev.bp r (λn c=>_) _ (bC λn=>?_),(λh=>by cases h),λh=>absurd h.2.1 j⟩;rw[lP];simp(disch:=omega)only[aV];refine⟨J,Ev.bp r (λn c=>_) _ dg,(λh=>by cases h),λh=>?_⟩
 simp_all
def adQ(k l:L UInt8):HC (A:=sg.A) Ty.str k l=decide (k=l):=by show gZ k l=_;by_cases h:k=l<;>simp[gZ,h]
def UX{k:L UInt8}:∀m:L (L UInt8×aa),(∀q∈m,q.2=W)->FE (A:=sg.A) Ty.str J k m=decide (k∈m.map Prod.fst)
 |[],_=>by simp[FE]
 |q::m,h=>by
  unfold FE;rw[adQ];by_cases a:k=q.1
  simp_all
  rw[jw a];simp only[jP];rw[UX m λx b=>h x (ie _ b)];simp[a]
theorem Pj{k:L UInt8}:∀m:L (L UInt8×aa),(∀q∈m,q.2=W)->∀q∈jK (A:=sg.A) Ty.str k W m,q.2=W
 |[],_,q,a=>by unfold jK at a;rw[tR.1 a]
 |x::m,h,q,a=>by
  unfold jK at a;cases b:HC (A:=sg.A) Ty.str k x.1 with
  |true=>
   grind
  |false=>
   rw[b]at a;simp only[jP]at a;obtain a|a:=gn.1 a
   simp_all
   exact Pj m (λy c=>h y (ie _ c)) q a
theorem Pm{k:L UInt8}:∀m:L (L UInt8×aa),((jK (A:=sg.A) Ty.str k W m).map Prod.fst)=if k∈m.map Prod.fst then m.map Prod.fst else m.map Prod.fst++[k]
 |[]=>by simp[jK]
 |q::m=>by
  have a:HC (A:=sg.A) Ty.str k q.1=decide (k=q.1):=by show gZ k q.1=_;by_cases h:k=q.1<;>simp[gZ,h]
  unfold jK;rw[a];by_cases h:k=q.1
  simp_all
  rw[jw h];simp only[jP,o7];rw[Pm m]
  grind
structure Nm(l:List (List UInt8))(i:Nat)(m:List (List UInt8×aa)):Prop where
 mem:∀x,x∈m.map Prod.fst↔x∈l.take i
 le:m.length<=i
 eq:m.length=i↔(l.take i).Nodup
theorem Nm.step{l:L (L UInt8)}{i:Nat}{m:L (L UInt8×aa)}(h:Nm l i m)(hi:i<l.length):Nm l (i+1) (jK (A:=sg.A) Ty.str (l.getD i []) W m):=by
 have d:=Pm (k:=l.getD i []) m;have a:(jK (A:=sg.A) Ty.str (l.getD i []) W m).length=if l.getD i []∈m.map Prod.fst then m.length else m.length+1:=by have:=eC List.length d;rw[Sb]at this;rw[this];split<;>simp
 have e:=ry ([]:L UInt8) hi;refine⟨λx=>?_,?_,?_⟩;rw[d,<-take_succ [] hi,fc,tR];split;rename_i c;rw[h.mem];exact⟨.inl,λb=>b.elim id λb=>by rw[b];exact(h.mem _).1 c⟩;rw[fc,tR,h.mem];rw[a];have:=h.le;split<;>omega;rw[a,e];have:=h.le;by_cases c:l.getD i []∈m.map Prod.fst;rw[bH c];exact⟨λb=>by omega,λb=>absurd ((h.mem _).1 c) b.2⟩;rw[bS c];have f:l.getD i []∉l.take i:=λb=>c ((h.mem _).2 b);rw[<-h.eq]
 simp_all
theorem atA{l:L cL}(hl:l.length<=1000):∃b,Ev (λn=>F224 n (l,())) ((b,()),())/\(b=W↔(∀c∈l,M0 c=W)/\l.length<=20/\(l.map cL.Name).Nodup):=by
 unfold F224 NA;by_cases k:l.length<=20
 .let g:Nat->L (L UInt8×aa):=λi=>Nat.rec [] (λi m=>jK (A:=sg.A) Ty.str (l.getD i br).Name W m) i
  have t:∀i,i<l.length->(l.map cL.Name).getD i []=(l.getD i br).Name:=λi j=>by
   simp_all
  have s:∀i,i<=l.length->Nm (l.map cL.Name) i (g i)/\∀q∈g i,q.2=W:=by
   intro i
   induction i with
   |zero=>intro _;rw[show g 0=[]from rfl];exact⟨⟨by simp,by simp,by simp⟩,λq u=>by cases u⟩
   |succ i o=>
    intro j;obtain⟨h1,h2⟩:=o (by omega);refine⟨?_,Pj (g i) h2⟩;have:=h1.step (by grind)
    grind
  have p:∀i,i<l.length->FE (A:=sg.A) Ty.str J (l.getD i br).Name (g i)=decide ((l.getD i br).Name∈(l.map cL.Name).take i):=λi j=>by rw[UX (g i) (s i (by omega)).2];exact decide_eq_decide.2 ((s i (by omega)).1.mem _)
  rcases nY (F:=λn(c:Int×L (L UInt8×aa)×U)=>ak (aG c.1 (au l)) (aS (aM c.1 l) (aj (F284 n ((bE l (aC c.1) br).1,())) λd=>ak d.1.1 (aj (F223 n ((bE l (aC c.1) br).2,0,3,())) λe=>ak e.1.1 (ak (av (av (FE (A:=sg.A) Ty.str J (bE l (aC c.1) br).1 c.2.1))) (Z (X (jK (A:=sg.A) Ty.str (bE l (aC c.1) br).1 W c.2.1,()) (c.1,()))) (Z (N (aJ .i64 c.1 1,jK (A:=sg.A) Ty.str (bE l (aC c.1) br).1 W c.2.1,())))) (Z (X (jK (A:=sg.A) Ty.str (bE l (aC c.1) br).1 W c.2.1,()) (c.1,())))) (Z (X (jK (A:=sg.A) Ty.str (bE l (aC c.1) br).1 W c.2.1,()) (c.1,())))))
   (Z (H 0 c)))
   l.length (λi=>((i:Int),g i,())) (λi=>M0 (l.getD i br)&&!decide ((l.getD i br).Name∈(l.map cL.Name).take i)) (λi=>(X (g (i+1),()) ((i:Int),()):LO (Int×L (L UInt8×aa)×U) (Int×U) (L (L UInt8×aa)×U) Any)) 0 (λ_ _ h=>by cases h) (λi j _=>by
    simp(disch:=omega)only[aV];refine Ev.aj (att _) ?_;unfold M0;cases z9 (l.getD i br).Name with
    |false=>exact dg|true=>
     refine bC λn=>?_;simp(disch:=omega)only[aV,rQ,p i j,bQ];cases decide (0<=(l.getD i br).lE/\(l.getD i br).lE<=3)<;>cases decide ((l.getD i br).Name∈(l.map cL.Name).take i)<;>rfl) (λ_=>bC λn=>by simp(disch:=omega)only[aV]<;>rfl)with⟨a,r⟩|⟨i,j,a,_,r⟩
  refine⟨W,?_,λ_=>⟨?_,k,?_⟩,λ_=>rfl⟩;have:bB (au l) 20=W:=kT (show(l.length:Int)<=20 by omega);simp only[this,Og];refine Ev.bp r _ _ (bC λn=>?_);rfl;exact fh (d:=br) λi j=>by simp_all
  have key:∀i,i<=l.length->((l.map cL.Name).take i).Nodup:=by
   intro i
   induction i with
   |zero=>intro _;simp
   |succ i o=>
    intro j;refine(ry [] (by grind)).2 ⟨o (by omega),?_⟩
    grind
  have:=key l.length (eP _);rwa [<-Sb (f:=cL.Name),RW]at this;refine⟨J,?_,(λh=>by cases h),λh=>?_⟩;have:bB (au l) 20=W:=kT (show(l.length:Int)<=20 by omega);simp only[this,Og];refine Ev.bp r _ _ (bC λn=>?_);rfl;rw[h.1 _ (bV br j),rf]at a;have nd:=(List.take_sublist (i+1) _).nodup h.2.2
  grind[ry,List.length_map,decide_eq_false]
 refine⟨J,bC λn=>?_,(λh=>by cases h),λh=>absurd h.2.1 k⟩;rw[show bB (au l) 20=J from jw (show ¬(l.length:Int)<=20 by omega)];rfl
section
variable {c:aB}
structure CF(c:aB):Prop where
 ins:1<=c.dJ.length/\c.dJ.length<=1500
 pl:c.ey.length<=100
 cons:∀k∈c.Cons,M0 k=W
 Vg:c.Cons.length<=20
 names:(c.Cons.map cL.Name).Nodup
 fl:1<=c.dh.length/\c.dh.length<=300
 main:0<=c.Main/\c.Main<c.dh.length
 pats:∀q∈c.ey,pw q<=12/\qe c.Cons q=W
 pF:∀f∈c.dh,0<=f/\f<c.dJ.length
 all:∀i∈c.dJ,w8 c i=W
mutual
theorem Zn{cons:L cL}:∀q:aI,qe cons q=W->tW cons q
 |⟨a,n,text,parts⟩,h=>by
  unfold qe adn at h;unfold tW;simp only[eX,ri]at h;obtain⟨⟨h1,h2⟩,h3⟩:=h;have h4:=UJ parts h2;split at h3
  simp_all
  grind
theorem UJ{cons:L cL}:∀qs:L aI,pT cons qs=W->nV cons qs
 |[],_=>trivial|q::qs,h=>by unfold pT at h;simp only[eX]at h;exact⟨Zn q h.1,UJ qs h.2⟩
end
theorem CF.ok(h:CF c):AH c:=by
 refine⟨h.ins,λi b=>?_,λq a=>⟨Zn q (h.pats q a).2,(h.pats q a).1⟩,h.pl,h.pF,h.fl,h.main,λk d=>?_⟩;have:=h.all i b;unfold w8 NP at this;simp only[eX,ri]at this;obtain⟨⟨h1,h2⟩,h3,h4⟩:=this;unfold fB at h4;unfold fA at h3;refine⟨h1,h2,λk=>?_,λk=>?_,λk=>?_,λk=>?_,λk=>?_,λk=>?_,λk=>?_,λk=>?_,λk=>?_⟩<;>simp[k]at h3 h4<;>first|omega|(simp[jh];omega)|grind
 have:=h.cons k d
 simp_all[M0,eX,ri]
end
section
variable {c:aB}
def atn{X B P α:Type}(i:Nat)(b:B)(f:Nat->X->O α)(u v:O α)(h:B->P->O α):bU (.ret b ((i:Int),())) f (λ_(q:Int×U)=>ak (av (av (bB 0 q.1))) u v) h=u:=by rfl
def aiy(hs:Small c):Ev (λn=>ND n (c,())) ((bif (c.ey.all λq=>decide (pw q<=12)&&qe c.Cons q)&&c.dJ.all (w8 c)then 0 else 2,()),()):=by
 have h1:=hs.pl;have h2:=hs.cl;have e:∀(i:Nat)(y:Int×U),(X () ((i:Int),()):LO (Int×U) (Int×U) U Any)≠.next y:=λ_ _ h=>by cases h
 unfold ND vR;simp only[PZ];rcases iU (F:=λn(k:Int×U)=>ak (aG k.1 (au c.2)) (aS (aM k.1 c.2) (aj (F228 n (bE c.2 (aC k.1) aR,12,())) λl=>ak (bB 0 l.1.1) (aj (F229 n (bE c.2 (aC k.1) aR,c.5,())) λm=>ak (av m.1.1) (Z (X () k)) (Z (N (aJ .i64 k.1 1,())))) (Z (X () k)))) (Z (H 0 k)))
  c.ey.length (λi=>decide (pw (c.ey.getD i aR)<=12)&&qe c.Cons (c.ey.getD i aR)) (λi=>(X () ((i:Int),()):LO (Int×U) (Int×U) U Any)) e
  (λi b=>by
   have f:=hs.pats _ (bV aR b);simp(disch:=omega)only[aV];refine Ev.aj (atz (c.ey.getD i aR) (by omega) (by omega)) ?_;by_cases h:pw (c.ey.getD i aR)<=12;rw[oK (left:=12) (k:=pw (c.ey.getD i aR)) (by omega),kT h,rf];simp(disch:=omega)only[aV];refine Ev.aj (Zp (by omega) (c.ey.getD i aR) (by omega) 0) (bC λn=>?_);cases qe c.Cons (c.ey.getD i aR)<;>simp(disch:=omega)only[aV,bQ,fK,fM];rw[rG (left:=12) (k:=pw (c.ey.getD i aR)) (by omega),jw h,qd]
   simp_all[bC,aV]) (λn=>by simp(disch:=omega)only[aV]<;>rfl)with⟨a,r⟩|⟨i,b,a,r⟩
 rw[Ca (d:=aR) a,rf];refine Ev.bp r _ _ ?_;exact aiz hs;rw[qi (d:=aR) b a,qd];refine Ev.bp r _ _ (bC λn=>?_);rfl
end
section
variable {c:aB}
def Kq{F:Nat->O ((Int×U)×U)}(hn:¬CF c)(h:Ev F ((2,()),())):∃r:Int,Ev F ((r,()),())/\(r=0\/r=2)/\(r=0↔CF c):=
 ⟨2,h,.inr rfl,(λh=>by cases h),λh=>absurd h hn⟩
theorem atJ(hs:Small c):∃r:Int,Ev (λn=>F147 n (c,())) ((r,()),())/\(r=0\/r=2)/\(r=0↔CF c):=by
 have h1:=hs.ins;have h2:=hs.pF;have h3:=hs.cl;unfold F147 oq;by_cases j:¬(1<=c.dJ.length/\c.dJ.length<=1500);exact Kq (λh=>j h.ins) (bC λn=>by simp only[aV,rQ,jw (show ¬((1:Int)<=(c.dJ.length:Int)/\(c.dJ.length:Int)<=1500)by omega)]<;>rfl);have j:=RZ.1 j;have d1:=kT (show(1:Int)<=(c.dJ.length:Int)/\(c.dJ.length:Int)<=1500 by omega);by_cases z:100<c.ey.length;exact Kq (λh=>by have:=h.pl;omega) (bC λn=>by simp(disch:=omega)only[aV,rQ,d1]<;>rfl);obtain⟨b,e,g⟩:=atA (l:=c.Cons) (by omega);simp(disch:=omega)only[aV,rQ,d1];cases b with
 |false=>exact Kq (λh=>by have:=g.2 ⟨h.cons,h.Vg,h.names⟩;cases this) (Ev.aj e dg)
 |true=>
  obtain⟨t,u,v⟩:=g.1 rfl;by_cases k:¬(1<=c.dh.length/\c.dh.length<=300);exact Kq (λh=>k h.fl) (Ev.aj e (bC λn=>by simp only[aV,rQ,jw (show ¬((1:Int)<=(c.dh.length:Int)/\(c.dh.length:Int)<=300)by omega)]<;>rfl));have k:=RZ.1 k;have d3:=kT (show(1:Int)<=(c.dh.length:Int)/\(c.dh.length:Int)<=300 by omega);by_cases m:¬(0<=c.Main/\c.Main<c.dh.length);exact Kq (λh=>m h.main) (Ev.aj e (bC λn=>by simp(disch:=omega)only[aV,rQ,d3,de,jw (show ¬((0:Int)<=c.Main/\c.Main<=(c.dh.length:Int)-1)by omega)]<;>rfl));have m:=RZ.1 m;have d4:=kT (show(0:Int)<=c.Main/\c.Main<=(c.dh.length:Int)-1 by omega);have w:∀(i:Nat)(y:Int×U),(X () ((i:Int),()):LO (Int×U) (Int×U) U Any)≠.next y:=λ_ _ h=>by cases h
  have o:=aiy hs;rcases iU (F:=λn(h:Int×U)=>ak (aG h.1 (c.dh.length:Int)) (aS (aM h.1 c.dh) (ak (decide (0<=c.dh.getD h.1.toNat 0/\c.dh.getD h.1.toNat 0<=bn .i64 (c.dJ.length:Int) 1)) (Z (N (aJ .i64 h.1 1,()))) (Z (X () h)))) (Z (H 0 h)))
   c.dh.length (λi=>decide (0<=c.dh.getD i 0/\c.dh.getD i 0<=(c.dJ.length:Int)-1)) (λi=>(X () ((i:Int),()):LO (Int×U) (Int×U) U Any)) w
   (λi p=>bC λn=>by
    simp(disch:=omega)only[aV,de];cases decide (0<=c.dh.getD i 0/\c.dh.getD i 0<=(c.dJ.length:Int)-1)<;>simp(disch:=omega)only[aV,bQ,fK,fM]) (λn=>by simp(disch:=omega)only[aV]<;>rfl)with⟨a,r⟩|⟨i,p,a,r⟩
  have x:∀f∈c.dh,0<=f/\f<c.dJ.length:=fh (d:=(0:Int)) λi p=>by grind
  have goal:∀r:Int,r=(bif (c.ey.all λq=>decide (pw q<=12)&&qe c.Cons q)&&c.dJ.all (w8 c)then 0 else 2)->(r=0\/r=2)/\(r=0↔CF c):=by
   intro r A;have s:((c.ey.all λq=>decide (pw q<=12)&&qe c.Cons q)&&c.dJ.all (w8 c))=W↔CF c:=by simp only[eX,kU,ri];exact⟨λh=>⟨j,by omega,t,u,v,k,m,h.1,x,h.2⟩,λh=>⟨h.pats,h.all⟩⟩
   grind
  refine⟨_,?_,goal _ rfl⟩;refine Ev.aj e ?_;simp only[rQ,d3,d4,aV,de (show -9223372036854775808<=(c.dh.length:Int)-1 by omega) (show(c.dh.length:Int)-1<=9223372036854775807 by omega)];refine Ev.bp r _ _ ?_;exact o;refine Kq (λh=>?_) (Ev.aj e ?_);have:=h.pF _ (bV (0:Int) p)
  grind
  simp only[rQ,d3,d4,aV,de (show -9223372036854775808<=(c.dh.length:Int)-1 by omega) (show(c.dh.length:Int)-1<=9223372036854775807 by omega)];refine Ev.bp r _ _ (bC λn=>?_);rfl
end
section
variable {α β R B P:Type}
def Ev.all{l:L α}(d:α)(q:α->aa)(bad:Nat->LO (Int×U) R B P){F:Nat->Int×U->O (LO (Int×U) R B P)}{g:Nat->LO (Int×U) R B P->O β}{r:β}
  (e:∀i y,bad i≠.next y)
  (hs:∀i,i<l.length->Ev (λn=>F n ((i:Int),())) (bif q (l.getD i d)then .next (((i+1:Nat):Int),())else bad i))
  (f:∀n,F n ((l.length:Int),())=Z (.out 0 ((l.length:Int),())))
  (h1:l.all q=W->Ev (λn=>g n (.out 0 ((l.length:Int),()))) r) (h2:∀i,i<l.length->l.all q=J->Ev (λn=>g n (bad i)) r) :
  Ev (λn=>aj (iter (F n) n (0,())) (g n)) r:=by
 obtain⟨a,b⟩|⟨i,c,a,b⟩:=iU l.length (λi=>q (l.getD i d)) bad e hs f
 exact Ev.bp b g _ (h1 (Ca (d:=d) a));exact Ev.bp b g _ (h2 i c (qi (d:=d) c a))
def Ev.allI{X:Type}(len:Nat)(s:Nat->X)(q:Nat->aa)(bad:Nat->LO X R B P){F:Nat->X->O (LO X R B P)}{g:Nat->LO X R B P->O β}{r:β}(c:∀i y,bad i≠.next y)
  (hs:∀i,i<len->(∀j,j<i->q j=W)->Ev (λn=>F n (s i)) (bif q i then .next (s (i+1))else bad i)) (d:∀n,F n (s len)=Z (.out 0 (s len)))
  (h1:(∀i,i<len->q i=W)->Ev (λn=>g n (.out 0 (s len))) r) (h2:∀i,i<len->q i=J->Ev (λn=>g n (bad i)) r):Ev (λn=>aj (iter (F n) n (s 0)) (g n)) r:=by
 obtain⟨a,b⟩|⟨i,e,a,_,b⟩:=nY len s q bad 0 c hs (λ_=>bC d)
 exact Ev.bp b g _ (h1 a);exact Ev.bp b g _ (h2 i e a)
def zO{X R B P:Type}{b:B}{r:X->R}:∀(c y:X),(LO.ret b (r c):LO X R B P)≠.next y:=λ_ _ h=>by cases h
def akv(i:Nat):av (bB 0 (i:Int))=J:=by rfl
def KB(a lo hi:Int):aa:=decide (lo<=a)&&decide (a<=hi)
theorem g6{a lo hi:Int}:KB a lo hi=W↔lo<=a/\a<=hi:=by simp[KB]
theorem mY{a b:Int}:af a b=W↔a=b:=by simp[af]
variable {b a:Int}
def z7(h:af a b=J):a≠b:=λe=>by rw[JE e]at h;cases h
theorem Br{a b:Int}(h:bB a b=W):a<=b:=by simpa[bB]using h
def Bs(h:bB a b=J):b<a:=by simpa[bB]using h
def Bq(h:aG a b=W):a<b:=by simpa[aG]using h
def CW(h:aG a b=J):b<=a:=by simpa[aG]using h
end
def bf{α:Type}(F:Nat->O α)(P:Prop)(x y:α):Prop:=(P/\Ev F x)\/(¬P/\Ev F y)
abbrev FB:=Nat->O ((aa×U)×U)
abbrev eH(F:FB)(P:Prop):Prop:=bf F P ((W,()),()) ((J,()),())
section
variable {α:Type}{F G f g:Nat->Option α}{x y:α}{P Q:Prop}
def bf.no(hn:¬P)(h:Ev F y):bf F P x y:=.inr ⟨hn,h⟩
def bf.yes(a:P)(h:Ev F x):bf F P x y:=.inl ⟨a,h⟩
def bf.iff(e:P↔Q)(h:bf F P x y):bf F Q x y:=by
 simp_all
def bf.congr(e:∀n,F n=G n)(h:bf G P x y):bf F P x y:=by
 obtain⟨a,b⟩|⟨a,b⟩:=h
 exact .inl ⟨a,Ev.n9 e b⟩;exact .inr ⟨a,Ev.n9 e b⟩
theorem bf.ak{b:aa}(h1:b=W->bf f P x y)(h2:b=J->bf g P x y):bf (λn=>TL.ak b (f n) (g n)) P x y:=by cases b;exact h2 rfl;exact h1 rfl
def bf.aS{b:aa}(a:b=W)(h:bf f P x y):bf (λn=>TL.aS b (f n)) P x y:=by subst a;exact h
theorem bf.aj{f:FB}{g:Nat->(aa×U)×U->O α}(h:eH f P)(h1:P->bf (λn=>g n ((W,()),())) Q x y)(h2:¬P->bf (λn=>g n ((J,()),())) Q x y):bf (λn=>TL.aj (f n) (g n)) Q x y:=by
 obtain⟨a,b⟩|⟨a,b⟩:=h
 obtain⟨c,d⟩|⟨c,d⟩:=h1 a
 exact .inl ⟨c,Ev.aj b d⟩;exact .inr ⟨c,Ev.aj b d⟩;obtain⟨c,d⟩|⟨c,d⟩:=h2 a
 exact .inl ⟨c,Ev.aj b d⟩;exact .inr ⟨c,Ev.aj b d⟩
def bf.ifN{f:FB}{bad rest:Nat->O α}(h:eH f P)(h1:P->bf rest Q x y)(h2:¬P->bf bad Q x y):bf (λn=>TL.aj (f n) λz=>TL.ak (av z.1.1) (bad n) (rest n)) Q x y:=bf.aj h h1 h2
def bf.ifP{f:FB}{bad rest:Nat->O α}(h:eH f P)(h1:P->bf rest Q x y)(h2:¬P->bf bad Q x y):bf (λn=>TL.aj (f n) λz=>TL.ak z.1.1 (rest n) (bad n)) Q x y:=bf.aj h h1 h2
def bf.at5{β:Type}{f:Nat->O β}{a:β}{g:Nat->β->O α}(h:Ev f a)(c:bf (λn=>g n a) P x y):bf (λn=>TL.aj (f n) (g n)) P x y:=by
 obtain⟨a,b⟩|⟨a,b⟩:=c
 exact .inl ⟨a,Ev.aj h b⟩;exact .inr ⟨a,Ev.aj h b⟩
def eH.mk{F:FB}{b:aa}(h:Ev F ((b,()),()))(e:b=W↔P):eH F P:=by cases b;exact .inr ⟨(λh=>by simp_all),h⟩;exact .inl ⟨e.1 rfl,h⟩
theorem eH.get{F:FB}(h:eH F P):∃b,Ev F ((b,()),())/\(b=W↔P):=by
 obtain⟨a,b⟩|⟨a,b⟩:=h
 simp_all
 simp_all
def eH.of_eq{F:FB}{b:aa}(h:∀n,F n=Z ((b,()),()))(e:b=W↔P):eH F P:=eH.mk (bC h) e
def eH.tail{f:FB}(h:eH f P):eH (λn=>TL.aj (f n) λx=>Z x) P:=by
 obtain⟨a,b⟩|⟨a,b⟩:=h
 exact .inl ⟨a,Ev.aj b (Ev.pure _)⟩;exact .inr ⟨a,Ev.aj b (Ev.pure _)⟩
end
section
variable {α β R B P:Type}{Q:Prop}{Pa:α->Prop}{x y:β}
def bf.loop{X:Type}(len:Nat)(s:Nat->X)(q:Nat->Prop)(bad:Nat->LO X R B P){F:Nat->X->O (LO X R B P)}{g:Nat->LO X R B P->O β}(f:∀i y,bad i≠.next y)
  (hs:∀i,i<len->(∀j,j<i->q j)->bf (λn=>F n (s i)) (q i) (.next (s (i+1))) (bad i)) (k:∀n,F n (s len)=Z (.out 0 (s len)))
  (h1:(∀i,i<len->q i)->bf (λn=>g n (.out 0 (s len))) Q x y) (h2:∀i,i<len->¬q i->bf (λn=>g n (bad i)) Q x y):bf (λn=>TL.aj (iter (F n) n (s 0)) (g n)) Q x y:=by
 haveI:∀i,Decidable (q i):=λi=>Classical.propDecidable _
 rcases nY (F:=F) len s (λi=>decide (q i)) bad 0 f (λi c l=>by
  obtain⟨a,b⟩|⟨a,b⟩:=hs i c (λj h=>OK (l j h))
  simp_all
  simp_all) (λ_=>bC k)with⟨a,d⟩|⟨i,c,a,_,d⟩
 obtain⟨b,e⟩|⟨b,e⟩:=h1 λi c=>OK (a i c)
 exact .inl ⟨b,Ev.bp d g _ e⟩;exact .inr ⟨b,Ev.bp d g _ e⟩;obtain⟨b,e⟩|⟨b,e⟩:=h2 i c (of_decide_eq_false a)
 exact .inl ⟨b,Ev.bp d g _ e⟩;exact .inr ⟨b,Ev.bp d g _ e⟩
def bf.all{l:L α}(d:α)(Pa:α->Prop)(bad:Nat->LO (Int×U) R B P){F:Nat->Int×U->O (LO (Int×U) R B P)}{g:Nat->LO (Int×U) R B P->O β}(c:∀i y,bad i≠.next y)
  (hs:∀i,i<l.length->bf (λn=>F n ((i:Int),())) (Pa (l.getD i d)) (.next (((i+1:Nat):Int),())) (bad i)) (e:∀n,F n ((l.length:Int),())=Z (.out 0 ((l.length:Int),())))
  (h1:(∀a∈l,Pa a)->bf (λn=>g n (.out 0 ((l.length:Int),()))) Q x y) (h2:¬(∀a∈l,Pa a)->∀i:Nat,bf (λn=>g n (bad i)) Q x y):bf (λn=>TL.aj (iter (F n) n (0,())) (g n)) Q x y:=
 bf.loop l.length (λi=>((i:Int),())) (λi=>Pa (l.getD i d)) bad c (λi b _=>hs i b) e (λh=>h1 (fh (d:=d) h)) (λi b h=>h2 (λf=>h (f _ (bV d b))) i)
def bf.Ng{l:L α}(d:α)(Pa:α->Prop)(T:Nat->α->O ((aa×U)×U))(bad:Int×U->LO (Int×U) R B P){F:Nat->Int×U->O (LO (Int×U) R B P)}{g:Nat->LO (Int×U) R B P->O β}
  (j:∀n c,F n c=TL.ak (aG c.1 (au l)) (TL.aS (aM c.1 l) (TL.aj (T n (bE l (aC c.1) d)) λx=>TL.ak (av x.1.1) (Z (bad c)) (Z (N (aJ .i64 c.1 1,()))))) (Z (H 0 c)))
  (hl:l.length<=1000000) (k:∀c y,bad c≠.next y) (m:∀a∈l,eH (λn=>T n a) (Pa a))
  (h1:(∀a∈l,Pa a)->bf (λn=>g n (.out 0 ((l.length:Int),()))) Q x y) (h2:¬(∀a∈l,Pa a)->∀i:Nat,bf (λn=>g n (bad ((i:Int),()))) Q x y) :
  bf (λn=>TL.aj (iter (F n) n (0,())) (g n)) Q x y:=by
 refine bf.all d Pa (λi=>bad ((i:Int),())) (λi y=>k _ y) (λi o=>?_) (λn=>by simp_all[aV]) h1 h2;obtain⟨b,h,e⟩:=(m _ (bV d o)).get;have f:Ev (λn=>F n ((i:Int),())) (bif b then .next (((i+1:Nat):Int),())else bad ((i:Int),())):=by refine Ev.n9 (λn=>j n _) ?_;simp(disch:=omega)only[aV];refine Ev.aj h (bC λn=>?_);cases b<;>simp(disch:=omega)only[aV,bQ,fK,fM]
 cases b with|true=>exact .inl ⟨e.1 rfl,f⟩|false=>exact .inr ⟨(λh=>by simp_all),f⟩
end
section
variable {c:aB}
theorem e50(hs:Small c):eH (λn=>F50 n (c,())) (CF c):=by
 have h1:=hs.ins;have h2:=hs.pF;have h3:=hs.cl;have h4:=hs.pl;unfold F50 Lw;by_cases m:¬(1<=c.dJ.length/\c.dJ.length<=1500);exact bf.no (λh=>m h.ins) (bC λn=>by simp only[aV,xp,jw (show ¬((1:Int)<=(c.dJ.length:Int)/\(c.dJ.length:Int)<=1500)by omega)]<;>rfl);have m:=RZ.1 m;have d1:=kT (show(1:Int)<=(c.dJ.length:Int)/\(c.dJ.length:Int)<=1500 by omega);by_cases x:100<c.ey.length;exact bf.no (λh=>by have:=h.pl;omega) (bC λn=>by simp(disch:=omega)only[aV,xp,d1]<;>rfl);obtain⟨b,g,j⟩:=atH (l:=c.Cons) (by omega) (λk s=>by have:=hs.names k s;omega);have d:Ev (λn=>F105 n (c.Cons,())) ((b,()),()):=by unfold F105;exact Ev.aj g (Ev.pure _)
 simp(disch:=omega)only[aV,xp,d1];cases b with
 |false=>exact bf.no (λh=>by have:=j.2 ⟨h.cons,h.Vg,h.names⟩;cases this) (Ev.aj d dg)
 |true=>
  obtain⟨t,u,v⟩:=j.1 rfl;by_cases o:¬(1<=c.dh.length/\c.dh.length<=300);exact bf.no (λh=>o h.fl) (Ev.aj d (bC λn=>by simp only[aV,xp,jw (show ¬((1:Int)<=(c.dh.length:Int)/\(c.dh.length:Int)<=300)by omega)]<;>rfl));have o:=RZ.1 o;have d3:=kT (show(1:Int)<=(c.dh.length:Int)/\(c.dh.length:Int)<=300 by omega);by_cases p:¬(0<=c.Main/\c.Main<c.dh.length);exact bf.no (λh=>p h.main) (Ev.aj d (bC λn=>by simp(disch:=omega)only[aV,xp,d3,de,jw (show ¬((0:Int)<=c.Main/\c.Main<=(c.dh.length:Int)-1)by omega)]<;>rfl));have p:=RZ.1 p;have d4:=kT (show(0:Int)<=c.Main/\c.Main<=(c.dh.length:Int)-1 by omega);have w:=de (show -9223372036854775808<=(c.dh.length:Int)-1 by omega) (show(c.dh.length:Int)-1<=9223372036854775807 by omega);have goal:((c.ey.all λq=>decide (pw q<=12)&&qe c.Cons q)&&(c.dh.all (λf=>decide (0<=f/\f<=(c.dJ.length:Int)-1))&&c.dJ.all (w8 c)))=W↔CF c:=by simp only[eX,kU,ri];exact⟨λh=>⟨m,by omega,t,u,v,o,p,h.1,λf r=>by grind,h.2.2⟩,λh=>⟨h.pats,λf r=>by have:=h.pF f r;omega,h.all⟩⟩
  refine eH.mk (Ev.aj d ?_) goal;simp only[xp,d3,d4,aV,w];refine Ev.all (l:=c.ey) aR (λq=>decide (pw q<=12)&&qe c.Cons q) (λ_=>.ret () (J,())) (λ_ _ h=>by cases h) (λi e=>?_) (λn=>by simp(disch:=omega)only[aV]) (λa=>?_) (λi e a=>?_);have a:=hs.pats _ (bV aR e);simp(disch:=omega)only[aV];refine Ev.aj (e94 (c.ey.getD i aR) (by omega) (by omega)) ?_;by_cases h:pw (c.ey.getD i aR)<=12;rw[oK (left:=12) (k:=pw (c.ey.getD i aR)) (by omega),kT h,rf];simp(disch:=omega)only[aV];refine Ev.aj (atQ (by omega) (c.ey.getD i aR) (by omega)) (bC λn=>?_);cases qe c.Cons (c.ey.getD i aR)<;>simp(disch:=omega)only[aV,bQ,fK,fM];rw[rG (left:=12) (k:=pw (c.ey.getD i aR)) (by omega),jw h,qd]
  simp_all[bC,aV]
  rw[a,rf];refine Ev.n9 (λn=>lP ..) ?_;refine Ev.all (l:=c.dh) 0 (λf=>decide (0<=f/\f<=(c.dJ.length:Int)-1)) (λ_=>.ret () (J,())) (λ_ _ h=>by cases h) (λi e=>bC λn=>?_) (λn=>by simp(disch:=omega)only[aV]) (λa=>?_) (λi e a=>?_);simp(disch:=omega)only[aV,de,xp];cases decide (0<=c.dh.getD i 0/\c.dh.getD i 0<=(c.dJ.length:Int)-1)<;>simp(disch:=omega)only[aV,bQ,fK,fM];rw[a,rf];refine Ev.n9 (λn=>lP ..) ?_;refine Ev.all (l:=c.dJ) cg (w8 c) (λ_=>.ret () (J,())) (λ_ _ h=>by cases h) (λi e=>bC λn=>?_) (λn=>by simp(disch:=omega)only[aV]) (λa=>?_) (λi e a=>?_);simp(disch:=omega)only[aV,atP hs];cases w8 c (c.dJ.getD i cg)<;>simp(disch:=omega)only[aV,bQ,fK,fM];rw[a];exact dg;rw[a];exact dg;rw[a];exact dg;rw[a];exact dg
end
section
variable {c:aB}{dd:List ax}{w:ai}{mm:List (Int×aa)}{k:Nat}
def vB(c:aB)(k:Nat)(v:aA):aa:=
 bif af v.Kind 1 then KB v.N (-1000000000) 1000000000 else bif af v.Kind 2 then KB v.N 0 1 else bif af v.Kind 3 then af v.N 0
 else bif af v.Kind 4 then KB v.N 0 (c.dh.length-1)else bif af v.Kind 5 then KB v.N 0 (k-1)else J
theorem LI{v:aA}:vB c k v=W↔cC c k v:=by
 let ⟨a,b⟩:=v
 unfold vB cC
 grind[af,KB,jh]
def e63(n:Nat)(a lo hi:Int):F63 n (a,lo,hi,())=Z ((KB a lo hi,()),()):=by unfold F63 KB;by_cases h1:lo<=a<;>by_cases h2:a<=hi<;>simp[ak,bB,h1,h2]
def atD(n:Nat)(a:c.dh.length<=1000)(b:w.aQ.length<=1000)(v:aA):F171 n (⟨c,dd⟩,w,v,())=Z ((vB c w.aQ.length v,()),()):=by unfold F171 vB;simp(disch:=omega)only[aV,de,e63];cases af v.Kind 1<;>cases af v.Kind 2<;>cases af v.Kind 3<;>cases af v.Kind 4<;>cases af v.Kind 5<;>rfl
def rgl(a:Int)(k:Nat):(ak (bB 0 a) (Z ((aG a (k:Int),()),())) (Z ((J,()),())))=(Z ((KB a 0 (k-1),()),()):O ((aa×U)×U)):=by unfold KB;by_cases h1:0<=a<;>by_cases h2:a<k<;>simp[ak,bB,aG,h1,h2]<;>omega
def rgi(a lo hi:Int):(ak (bB lo a) (Z ((bB a hi,()),())) (Z ((J,()),())))=(Z ((KB a lo hi,()),()):O ((aa×U)×U)):=by unfold KB;by_cases h1:lo<=a<;>by_cases h2:a<=hi<;>simp[ak,bB,h1,h2]
theorem aix(n:Nat)(v:aA):F245 n (⟨w,c,dd,mm⟩,v,())=Z ((vB c w.aQ.length v,()),()):=by
 unfold F245 vB;simp only[eZ,rgl,rgi]
 grind[af,g6,ak,wH]
def S6(a:c.dh.length<=1000)(d:w.aQ.length<=1000){l:L aA}(hl:l.length<=1000){m:Int}:eH (λn=>F118 n (⟨c,dd⟩,w,l,m,())) ((l.length:Int)=m/\∀v∈l,cC c w.aQ.length v):=by
 by_cases h:(l.length:Int)=m;subst h;refine bf.iff (P:=∀v∈l,cC c w.aQ.length v) ⟨λh=>⟨rfl,h⟩,λh=>h.2⟩ (bf.congr (λn=>show F118 n (⟨c,dd⟩,w,l,(l.length:Int),())=_ by unfold F118;exact eC (λb=>ak (av b) _ _) (JE rfl)) ?_);exact bf.Ng (l:=l) bA (cC c w.aQ.length) (λn v=>F171 n (⟨c,dd⟩,w,v,())) (λ_=>.ret () (J,())) (λn c=>rfl) (by omega) (λ_ _ h=>by cases h) (λv _=>eH.of_eq (λn=>atD n a d v) LI) (λh=>bf.yes h dg) (λh i=>bf.no h dg);exact bf.no (λe=>h e.1) (bC λn=>by
  unfold F118;rw[show af (au l) m=J from wH h];rfl)
structure Bd(c:aB)(dd:List ax)(w:ai):Prop where
 ok:pX c dd
 cl:c.Cons.length<=1000
 wl:w.aQ.length<=1000
def Bd.fl(h:Bd c dd w):c.dh.length<=1000:=by have:=h.ok.fl;omega
def Bd.nl(h:Bd c dd w):c.dJ.length<=1500:=h.ok.len.2
def Bd.dl(h:Bd c dd w):dd.length=c.dJ.length:=h.ok.dep.len
def pX.cok(h:pX c dd):AH c:=⟨h.len,h.ins,h.pats,h.pl,h.pF,h.fl,h.main,h.cons⟩
theorem Rn.lo(h:Rn c dd)(f:AH c){n:Int}{d:ax}(g:LF c n d):Lo d:=by
 induction g with
 |root _=>exact⟨rfl,by decide,by decide⟩
 | @next n d x i j k=>
  let ⟨a,b,e,r⟩:=h.CL f.pF i
  have:=h.ok n a b (by grind);rw[e]at this;exact(Hi f a b this.2.2 k j).2
theorem Bd.lo(h:Bd c dd w){n:Int}(a:0<=n)(h1:n<c.dJ.length)(b:(ee dd n).Reached=W):Lo (ee dd n)/\(ee dd n).Stack<=60/\(ee dd n).Env<=30:=by have:=h.ok.dep.ok n a h1 b;exact⟨h.ok.dep.lo h.ok.cok (h.ok.dep.der n a h1 b),this.1,this.2.1⟩
def oL(l:L aq)(last:aa)(i:Nat):Int:=if last=W/\i+1=l.length then 0 else 1
structure SmF(l:List aq):Prop where
 len:l.length<=1000
 env:∀f∈l,f.Env.length<=1000
 stack:∀f∈l,f.Stack.length<=1000
def amZ(b:Bd c dd w){l:L aq}(sm:SmF l){last:aa}:eH (λn=>F117 n (⟨c,dd⟩,w,l,last,())) ((1<=l.length/\l.length<=40)/\∀i,i<l.length->dB c dd w.aQ.length (oL l last i) (l.getD i aT)):=by
 have F:=sm.len;have I:=b.nl;have K:=b.dl;unfold F117 DN;refine bf.ifN (P:=1<=l.length/\l.length<=40) (eH.of_eq (λn=>e63 n _ _ _) (g6.trans (by simp[eZ];omega))) (λh1=>?_) (λh1=>bf.no (λh=>h1 h.1) dg);refine bf.loop l.length (λi=>((i:Int),())) (λi=>dB c dd w.aQ.length (oL l last i) (l.getD i aT)) (λ_=>.ret () (J,())) (λ_ _ h=>by cases h) (λi k _=>?_) (λn=>by simp(disch:=omega) [aV]) (λh=>bf.yes ⟨h1,h⟩ dg) (λi k h=>bf.no (λz=>h (z.2 i k)) dg);have s:=sm.env _ (bV aT k);have t:=sm.stack _ (bV aT k);generalize A:l.getD i aT=f at s t;have q:bE l (aC (i:Int)) aT=f:=A;unfold TX NG DM;simp only[q];simp(disch:=omega)only[aV,e63,de];cases h1:KB f.At 0 ((c.dJ.length:Int)-1)with
 |false=>exact bf.no (λh=>by rw[g6.2 ⟨h.lo,by have:=h.hi;omega⟩]at h1;cases h1) dg
 |true=>
 have u:=g6.1 h1;have e:f.At<c.dJ.length:=by omega
 simp(disch:=omega)only[aV];rw[show dd.getD f.At.toNat aW=ee dd f.At from rfl];cases h2:(ee dd f.At).Reached with
 |false=>exact bf.no (λh=>by have:=h.re;simp_all) dg
 |true=>
 let ⟨lo,B,C⟩:=b.lo u.1 e h2
 have E:=lo.s;have d:∀(a m:Int),m=(ee dd f.At).Stack-a->bf (λn=>aj (F118 n (⟨c,dd⟩,w,f.Env,(ee dd f.At).Env,())) λx=>ak x.1.1 (ak (aG m 0) (Z (X () (J,()))) (aj (F118 n (⟨c,dd⟩,w,f.Stack,m,())) λj=>ak j.1.1 (Z (N (aJ .i64 (i:Int) 1,()))) (Z (X () (J,()))))) (Z (X () (J,()))))
   (dB c dd w.aQ.length a f) (N (((i+1:Nat):Int),()):LO (Int×U) (aa×U) U Any) (X () (J,())):=by
  intro a m v;refine bf.ifP (S6 b.fl b.wl s) (λo=>?_) (λo=>bf.no (λh=>o ⟨h.el,h.env⟩) dg);refine bf.ak (λy=>bf.no (λh=>by have:=h.sl;have:=Bq y;omega) dg) (λy=>?_);refine bf.ifP (S6 b.fl b.wl t) (λp=>bf.yes ⟨u.1,e,h2,o.1,o.2,by rw[p.1,v],p.2⟩ (bC λn=>?_)) (λp=>bf.no (λh=>p ⟨by rw[h.sl,v],h.stack⟩) dg);simp(disch:=omega) [bQ,fK,fM]
 have g:bn .i64 (ee dd f.At).Stack 1=(ee dd f.At).Stack-1:=de (by omega) (by omega);rw[g];cases last with|false=>rw[show oL l J i=1 from bS (by simp_all)];exact d 1 _ rfl|true=>by_cases r:i+1=l.length;rw[show oL l W i=0 from bH ⟨rfl,r⟩];rw[show aG (i:Int) ((l.length:Int)-1)=J from akB (by omega)];exact d 0 _ (by omega);rw[show oL l W i=1 from bS (by omega)];rw[show aG (i:Int) ((l.length:Int)-1)=W from adF (by omega)];exact d 1 _ rfl
end
section
variable {c:aB}{dd:List ax}{w:ai}{k:Nat}{s n fo:Int}{vs:List aA}{fs:List aq}
def Q4(c:aB)(dd:L ax)(k:Nat)(last:aa)(l:L aq):Prop:=(1<=l.length/\l.length<=40)/\∀i,i<l.length->dB c dd k (oL l last i) (l.getD i aT)
def MO(h:Q4 c dd k J fs):∀f∈fs,dB c dd k 1 f:=fh (d:=aT) λi a=>by
 have:=h.2 i a
 simp_all[oL,bS]
theorem Pe:fX c dd k ⟨5,s,vs,fs⟩↔s=0/\vs=[]/\Q4 c dd k J fs/\(fs.getD 0 aT).dO=W:=by
 constructor
 .intro h;cases h with
  |Bo a b d=>
   rename_i f l;refine⟨rfl,rfl,⟨⟨by simp,by grind⟩,λi g=>?_⟩,d⟩;rw[show oL (f::l) J i=1 from bS (by simp_all)]
   grind
 rintro⟨rfl,rfl,h,e⟩
 have h1:=h.1;have h2:=MO h
 match fs,h1,h2,e with
 |f::l,h1,h2,e=>exact .Bo (by grind) h2 e
def Pz:fX c dd k ⟨6,0,vs,fs⟩↔vs=[]/\Q4 c dd k W fs:=by
 constructor
 .intro h;generalize m:(0:Int)=s at h;cases h with
  |se a b d=>rename_i l f;refine⟨rfl,⟨by simp,by simp only[jR,m8];omega⟩,λi g=>?_⟩;simp only[jR,m8]at g;by_cases j:i=l.length;subst j;rw[show oL (l++[f]) W l.length=0 from bH ⟨rfl,by simp⟩,show(l++[f]).getD l.length aT=f by simp[wB]];exact d;rw[show oL (l++[f]) W i=1 from bS (by rintro⟨_,h⟩;simp at h;omega),show(l++[f]).getD i aT=l.getD i aT by simp[wB,YK (show i<l.length by omega)]];exact b _ (bV aT (by omega))
  |done=>cases m
  |dead h=>omega
 rintro⟨rfl,h1,h2⟩
 have e:fs≠[]:=by rintro rfl;simp at h1
 rw[<-Ze e]at h1 h2 ⊢;generalize fs.dropLast=l at *
 generalize fs.getLast e=f at *
 simp only[jR,m8]at h1 h2;refine .se (by omega) (fh (d:=aT) λi g=>?_) ?_;have:=h2 i (by omega);rw[show oL (l++[f]) W i=1 from bS (by rintro⟨_,h⟩;simp at h;omega),show(l++[f]).getD i aT=l.getD i aT by simp[wB,YK g]]at this;exact this;have:=h2 l.length (by omega);rw[show oL (l++[f]) W l.length=0 from bH ⟨rfl,by simp⟩,show(l++[f]).getD l.length aT=f by simp[wB]]at this;exact this
theorem Qh:fX c dd k ⟨6,1,vs,fs⟩↔fs=[]/\(vs.length:Int)=1/\∀v∈vs,cC c k v:=by
 constructor
 .intro h;generalize a:(1:Int)=s at h;cases h with
  |se=>cases a
  |done h=>simp_all|dead h=>omega
 .rintro ⟨rfl,b,d⟩
  match vs,b with
  |[v],_=>exact .done (d v (by simp))
  |[],h=>simp at h|_::_::_,h=>grind
theorem Qk(b:s≠0)(h1:s≠1):fX c dd k ⟨6,s,vs,fs⟩↔(2<=s/\s<=4)/\fs=[]/\vs=[]:=by
 constructor
 .intro h;cases h with|se=>omega|done=>omega|dead h=>grind
 rintro⟨a,rfl,rfl⟩
 exact .dead (by omega)
def Ql:fX c dd k ⟨1,n,vs,fs⟩↔fs=[]/\(0<=n/\n<c.Cons.length)/\(vs.length:Int)=lz c n/\∀v∈vs,cC c k v:=by
 constructor
 .intro h;cases h with|data a b e f=>simp_all
 rintro⟨rfl,⟨a,b⟩,e,f⟩
 exact .data a b e f
def PB:fX c dd k ⟨2,n,vs,fs⟩↔fs=[]/\qw c dd n/\(vs.length:Int)=(ee dd n).Env-1/\∀v∈vs,cC c k v:=by
 constructor
 .intro h;cases h with|func a e f=>simp_all
 rintro⟨rfl,a,e,f⟩
 exact .func a e f
theorem Qs:fX c dd k ⟨3,n,vs,fs⟩↔fs=[]/\n=0/\(vs.length:Int)=1/\∀v∈vs,cC c k v:=by
 constructor
 .intro h;cases h with|cell h=>simp_all
 rintro⟨rfl,rfl,b,d⟩
 match vs,b with
 |[v],_=>exact .cell (d v (by simp))
 |[],h=>simp at h|_::_::_,h=>grind
theorem Qr:fX c dd k ⟨4,n,vs,fs⟩↔fs=[]/\n=0/\(vs.length:Int)<=4/\∀v∈vs,cC c k v:=by
 constructor
 .intro h;cases h with|chan a b=>grind
 rintro⟨rfl,rfl,b,d⟩
 exact .chan (by omega) d
theorem Zx(h5:fo≠5)(h6:fo≠6)(h:fX c dd k ⟨fo,n,vs,fs⟩):fs=[]/\(fo=1\/fo=2\/fo=3\/fo=4):=by cases h with|data=>simp_all|func=>simp_all|cell=>simp_all|chan=>simp_all|Bo=>omega|se=>omega|done=>omega|dead=>omega
theorem fX.uJ{o:bG}(h:fX c dd k o):∀v∈o.fL,cC c k v:=by cases h with|data _ _ _ h=>exact h|func _ _ h=>exact h|cell h=>simp_all|chan _ h=>exact h|Bo=>simp_all|se=>simp_all|done h=>simp_all|dead=>simp_all
theorem atM(b:Bd c dd w){x:Int}:eH (λn=>F119 n (⟨c,dd⟩,x,())) (qw c dd x):=by
 have g:=b.nl;have k:=b.dl;unfold F119;refine bf.loop c.dJ.length (λi=>((i:Int),())) (λi=>¬((aZ c (i:Int)).Op=6/\(ee dd (i:Int)).Reached=W/\(aZ c (i:Int)).A=x)) (λ_=>.ret () (W,())) (λ_ _ h=>by cases h) (λi a _=>?_) (λn=>by simp(disch:=omega)only[aV]) (λh=>bf.no (λ⟨i,d,h1,h2⟩=>?_) dg) (λi a h=>bf.yes ⟨(i:Int),by omega,by omega,RZ.1 h⟩ dg)
 .have e:c.dJ.getD i cg=aZ c (i:Int):=rfl;have f:dd.getD i aW=ee dd (i:Int):=rfl;simp(disch:=omega)only[aV,e,f];cases h1:af (aZ c (i:Int)).Op 6 with
  |false=>exact bf.yes (λh=>by rw[JE h.1]at h1;cases h1) (bC λn=>by simp(disch:=omega)only[aV,bQ,fK,fM])
  |true=>
  cases h2:(ee dd (i:Int)).Reached with
  |false=>exact bf.yes (λh=>by cases h.2.1) (bC λn=>by simp(disch:=omega)only[aV,bQ,fK,fM])
  |true=>
  cases h3:af (aZ c (i:Int)).A x with|false=>exact bf.yes (λh=>by rw[JE h.2.2]at h3;cases h3) (bC λn=>by simp(disch:=omega)only[aV,bQ,fK,fM])|true=>exact bf.no (λh=>h ⟨mY.1 h1,rfl,mY.1 h3⟩) dg
 obtain⟨j,rfl⟩:∃j:Nat,i=j:=⟨_,(zR d).symm⟩
 grind
theorem KZ(b:Bd c dd w){x:Int}(h:qw c dd x):0<=x/\x<c.dJ.length/\1<=(ee dd x).Env/\(ee dd x).Env<=31:=by
 obtain⟨i,a,h1,h2,h3,h4⟩:=h;obtain⟨lo,d,e⟩:=b.lo a h1 h3;have:=b.ok.dep.step i a h1 h3 (x,cm 0 ((ee dd i).Env+1)) (by simp[dV,h2,h4]);obtain⟨f,g,j⟩:=this;have k:=lo.e
 grind[cm]
structure SmO(o:bG):Prop where
 vals:o.fL.length<=1000
 frs:SmF o.Frames
theorem eY{α:Type}{l:L α}:af (l.length:Int) 0=W↔l=[]:=by grind[mY,List.eq_nil_of_length_eq_zero]
def e65(b:Bd c dd w){o:bG}(sm:SmO o):eH (λn=>F65 n (⟨c,dd⟩,w,o,())) (fX c dd w.aQ.length o):=by
 have i:=b.cl;have j:=b.nl;have k:=b.dl;obtain⟨fo,s,vs,fs⟩:=o;obtain⟨e,f⟩:=sm;simp only at e f;have a:∀{P:Prop},¬P->eH (λn=>r5 n) P:=λh=>bf.no h dg;unfold F65 ab0;by_cases h5:fo=5;subst h5;refine bf.iff Pe.symm ?_;simp only[aV];refine bf.ak (λh1=>?_) (λh1=>a λh=>z7 h1 h.1);refine bf.ak (λh2=>?_) (λh2=>a λh=>by rw[eY.2 h.2.1]at h2;cases h2);refine bf.ifP (amZ b f) (λh3=>?_) (λh3=>a λh=>h3 h.2.2.1);have:=h3.1;refine bf.aS (by simp[aM];omega) (eH.of_eq (λn=>rfl) ?_);exact⟨λh=>⟨mY.1 h1,eY.1 h2,h3,h⟩,λh=>h.2.2.2⟩;by_cases h6:fo=6;subst h6;simp(disch:=omega)only[aV];by_cases g:s=0;subst g;refine bf.iff Pz.symm ?_;simp only[aV];refine bf.ak (λh2=>?_) (λh2=>a λh=>by rw[eY.2 h.1]at h2;cases h2);exact bf.iff ⟨λh=>⟨eY.1 h2,h⟩,λh=>h.2⟩ (eH.tail (amZ b f));by_cases h1:s=1;subst h1;refine bf.iff Qh.symm ?_;simp(disch:=omega)only[aV];refine bf.ak (λh2=>?_) (λh2=>a λh=>by rw[eY.2 h.1]at h2;cases h2);exact bf.iff ⟨λh=>⟨eY.1 h2,h⟩,λh=>h.2⟩ (eH.tail (S6 b.fl b.wl e));refine bf.iff (Qk g h1).symm ?_;simp(disch:=omega)only[aV,e63];refine bf.ak (λh2=>?_) (λh2=>a λh=>by rw[g6.2 h.1]at h2;cases h2);refine bf.ak (λh3=>?_) (λh3=>a λh=>by rw[eY.2 h.2.1]at h3;cases h3);exact eH.of_eq (λn=>rfl) (eY.trans ⟨λh=>⟨g6.1 h2,eY.1 h3,h⟩,λh=>h.2.2⟩)
 simp(disch:=omega)only[aV];by_cases d:fs=[];rotate_left;have:¬fs.length=0:=λh=>d (EZ h);simp(disch:=omega)only[aV];exact a λh=>d (Zx h5 h6 h).1;subst d;simp(disch:=omega)only[aV,Kc,Int.natCast_zero];by_cases h1:fo=1;subst h1;refine bf.iff Ql.symm ?_;simp(disch:=omega)only[aV,e63,de];refine bf.ak (λh1=>?_) (λh1=>a λh=>by rw[g6.2 ⟨h.2.1.1,by omega⟩]at h1;cases h1);have l:=g6.1 h1;refine bf.aS (by simp[aM];omega) ?_;exact bf.iff ⟨λh=>⟨trivial,by omega,h⟩,λh=>h.2.2⟩ (eH.tail (S6 b.fl b.wl e));by_cases h2:fo=2;subst h2;refine bf.iff PB.symm ?_;simp(disch:=omega)only[aV];refine bf.ifP (atM b) (λh1=>?_) (λh1=>a λh=>h1 h.2.1);obtain⟨m,p,q,r⟩:=KZ b h1;refine bf.aS (by simp[aM];omega) ?_;refine bf.iff ⟨λh=>⟨trivial,h1,h⟩,λh=>h.2.2⟩ (eH.tail (bf.congr (λn=>?_) (S6 (dd:=dd) b.fl b.wl e)));rw[show dd.getD s.toNat aW=ee dd s from rfl,de (by omega) (by omega)];by_cases h3:fo=3;subst h3;refine bf.iff Qs.symm ?_;simp(disch:=omega)only[aV];refine bf.ak (λh1=>?_) (λh1=>a λh=>z7 h1 h.2.1);exact bf.iff ⟨λh=>⟨trivial,mY.1 h1,h⟩,λh=>h.2.2⟩ (eH.tail (S6 b.fl b.wl e));by_cases h4:fo=4;subst h4;refine bf.iff Qr.symm ?_;simp(disch:=omega)only[aV];refine bf.ak (λh1=>?_) (λh1=>a λh=>z7 h1 h.2.1);refine bf.ak (λh2=>?_) (λh2=>a λh=>absurd h.2.2.1 (by have:=Bs h2;omega))
 exact bf.iff ⟨λh=>⟨trivial,mY.1 h1,Br h2,h.2⟩,λh=>⟨rfl,h.2.2.2⟩⟩ (eH.tail (S6 b.fl b.wl e));simp(disch:=omega)only[aV];exact a λh=>by have:=(Zx h5 h6 h).2;omega
end
theorem Fl:∀{T S:L Int},T.Nodup->(∀x∈T,x∈S)->T.length<=S.length
 |[],_,_,_=>GH _|t::T,S,a,h=>by
  have a:=Ov.1 a;have h1:=Fl (S:=S.erase t) a.2 (λx b=>(List.mem_erase_of_ne (λe=>a.1 (by simp_all))).2 (h x (ie _ b)))
  grind
theorem O1{l:L Int}:l.Nodup↔∀i,i<l.length->(l.take i).contains (l.getD i 0)=J:=by
 rw[List.Nodup,Sc];constructor
 grind[List.contains_iff_mem,List.getElem_of_mem,List.length_take,List.getElem?_eq_getElem,absurd]
 intro h i j c a b e;have:=h j a;rw[wB,iZ a,RY,<-e]at this;have d:l[i]∈l.take j:=List.mem_take_iff_getElem.2 ⟨i,by omega,rfl⟩
 simp_all
section
variable {w:ai}
structure Fe(w:ai):Prop where
 E6:w.aY.Nodup
 task:∀t∈w.aY,0<=t/\t<w.aQ.length/\(cN w t).Form=6
 all:∀i:Nat,i<w.aQ.length->(cN w i).Form=6->(i:Int)∈w.aY
def Cu(w:ai):L Int:=((List.range w.aQ.length).filter λi:Nat=>af (cN w i).Form 6).map λi:Nat=>(i:Int)
theorem rD{x:Int}:x∈Cu w↔0<=x/\x<w.aQ.length/\(cN w x).Form=6:=by
 unfold Cu;simp only[wP,List.mem_filter,List.mem_range,mY];constructor
 grind
 rintro⟨h1,h2,h3⟩
 obtain⟨i,rfl⟩:∃i:Nat,x=i:=⟨_,(zR h1).symm⟩
 grind
theorem Ga:(Cu w).Nodup:=by
 grind[Cu,List.nodup_range]
theorem Yr:(Cu w).length=w.aQ.countP λo=>af o.Form 6:=by
 unfold Cu;rw[Sb,<-List.countP_eq_length_filter];have e:w.aQ=(List.range w.aQ.length).map λi:Nat=>cN w (i:Int):=by
  apply List.ext_getElem;simp
  grind[h1,h2,cN,List.getElem?_eq_getElem]
 conv=>rhs;rw[e,List.countP_map]
 rfl
theorem Fe.len(h:Fe w):w.aY.length=(Cu w).length:=Nat.le_antisymm (Fl h.E6 λx a=>rD.2 (h.task x a)) (Fl Ga λx a=>by
 obtain⟨h1,h2,h3⟩:=rD.1 a;obtain⟨i,rfl⟩:∃i:Nat,x=i:=⟨_,(zR h1).symm⟩;exact h.all i (by omega) h3)
theorem Fe.ahe(h1:w.aY.Nodup)(h2:∀t∈w.aY,0<=t/\t<w.aQ.length/\(cN w t).Form=6)(h3:w.aY.length=(Cu w).length):Fe w:=by
 refine⟨h1,h2,λi c d=>YJ λb=>?_⟩;have:=Fl (T:=(i:Int)::w.aY) (S:=Cu w) (Ov.2 ⟨b,h1⟩) (λx a=>by
  obtain rfl|a:=gn.1 a
  grind[rD]
  exact rD.2 (h2 x a))
 grind
theorem Fe.tl(h:Fe w):w.aY.length<=w.aQ.length:=by
 rw[h.len]
 grind[Cu,List.length_map,Nat.le_trans,List.length_filter_le]
def Yo(w:ai)(i:Nat):aa:=KB (w.aY.getD i 0) 0 (w.aQ.length-1)&&(af (cN w (w.aY.getD i 0)).Form 6&&!(w.aY.take i).contains (w.aY.getD i 0))
theorem AM:(∀i,i<w.aY.length->Yo w i=W)↔w.aY.Nodup/\∀t∈w.aY,0<=t/\t<w.aQ.length/\(cN w t).Form=6:=by
 rw[O1];unfold Yo;simp only[eX,g6,mY,Ox];constructor;intro h;exact⟨λi a=>(h i a).2.2,fh (d:=0) λi a=>⟨(h i a).1.1,by grind,(h i a).2.1⟩⟩
 grind
def atN{l:L Int}{x:Int}(hl:l.length<=1000):Ev (λn=>F116 n (l,x,())) ((l.contains x,()),()):=by
 unfold F116;refine Ev.all (l:=l) 0 (λa=>!(af a x)) (λ_=>.ret () (W,())) (λ_ _ h=>by cases h) (λi d=>bC λn=>?_) (λn=>by simp(disch:=omega)only[aV]) (λb=>?_) (λi d b=>?_);simp(disch:=omega)only[aV];cases af (l.getD i 0) x<;>simp(disch:=omega)only[aV,bQ,fK,fM,Jt,Mc];rw[show l.contains x=J from ?_];exact dg
 .cases c:l.contains x with|false=>rfl|true=>have:=kU.1 b x (ac6.1 c);rw[JE rfl]at this;cases this
 rw[show l.contains x=W from ?_];exact dg;rw[List.all_eq_false]at b;obtain⟨a,e,h⟩:=b;rw[ac6];have:af a x=W:=by cases c:af a x with|true=>rfl|false=>rw[c]at h;exact absurd rfl h
 rw[<-mY.1 this];exact e
theorem e64(q:w.aQ.length<=1000)(r:w.aY.length<=1000):∃b,Ev (λn=>F64 n (w,())) ((b,()),())/\(b=W↔Fe w):=by
 have a:∀i,i<w.aQ.length->(w.aQ.take (i+1)).countP (λo=>af o.Form 6)=(w.aQ.take i).countP (λo=>af o.Form 6)+(bif af (w.aQ.getD i bD).Form 6 then 1 else 0):=by intro i d;rw[afF d,List.countP_append,List.countP_singleton];rw[wB,iZ d,RY,Bool.cond_eq_ite]
 have run:=kG (F:=λn(c:Int×Int×U)=>ak (aG c.2.1 (au w.aQ)) (aS (aM c.2.1 w.aQ) (ak (af (bE w.aQ (aC c.2.1) bD).Form 6) (Z (N (R:=aa×U) (B:=U) (P:=Any) (aJ .i64 c.1 1,aJ .i64 c.2.1 1,()))) (Z (N (c.1,aJ .i64 c.2.1 1,()))))) (Z (H 0 c)))
  w.aQ.length (λi=>((((w.aQ.take i).countP λo=>af o.Form 6:Nat):Int),(i:Int),())) 0 (λi d=>bC λn=>by
   have h1:=List.countP_le_length (p:=λo:bG=>af o.Form 6) (l:=w.aQ.take i);rw[Me]at h1;simp only[a i d];cases m:af (w.aQ.getD i bD).Form 6<;>simp(disch:=omega)only[aV,m,bQ,fK,fM,Int.natCast_zero,GK,Nat.add_zero]) (bC λn=>by simp(disch:=omega)only[aV])
 simp only[List.take_zero,List.countP_nil,RW,<-Yr]at run;by_cases f:w.aY.length=(Cu w).length;have g:∀{b:aa},(b=W↔∀i,i<w.aY.length->Yo w i=W)->(b=W↔Fe w):=λ{b}h=>h.trans ⟨λh=>Fe.ahe (AM.1 h).1 (AM.1 h).2 f,λh=>AM.2 ⟨h.E6,h.task⟩⟩;have step:∀b:aa,((∀i,i<w.aY.length->Yo w i=W)->b=W)->((∃i,i<w.aY.length/\Yo w i=J)->b=J)->Ev (λn=>F64 n (w,())) ((b,()),()):=by
  intro b j k;unfold F64;refine Ev.bp run (λn c=>_) _ (Ev.n9 (λn=>lP ..) ?_);rw[<-f];simp only[aV];refine Ev.allI w.aY.length (λi=>((i:Int),())) (Yo w) (λ_=>.ret () (J,())) (λ_ _ h=>by cases h) (λi d _=>?_) (λn=>by simp(disch:=omega)only[aV]) (λe=>?_) (λi d e=>?_)
  .unfold Yo Rf;simp(disch:=omega)only[aV,e63,de];cases h1:KB (w.aY.getD i 0) 0 ((w.aQ.length:Int)-1)with
   |false=>simp_all[aV,qd,Ev.pure]|true=>
    have s:=g6.1 h1;simp(disch:=omega)only[aV,rf];rw[show w.aQ.getD (w.aY.getD i 0).toNat bD=cN w (w.aY.getD i 0)from rfl];cases af (cN w (w.aY.getD i 0)).Form 6 with|false=>simp_all[aV,qd,Ev.pure]|true=>simp only[aV,rf,yg];refine Ev.aj (atN (by grind)) (bC λn=>?_);cases(w.aY.take i).contains (w.aY.getD i 0)<;>simp(disch:=omega)only[aV,bQ,fK,fM,Jt,Mc]
  rw[j e];exact dg;rw[k ⟨i,d,e⟩];exact dg
 by_cases e:∀i,i<w.aY.length->Yo w i=W
 simp_all
 exact⟨J,step J (λh=>absurd h e) (λ_=>rfl),g ⟨(λh=>by cases h),λh=>absurd h e⟩⟩;unfold F64;refine⟨J,Ev.bp run (λn c=>_) _ (bC λn=>?_),(λh=>by cases h),λh=>absurd h.len f⟩;rw[lP];simp(disch:=omega)only[aV]
end
section
variable {w:ai}{c:aB}{dd:List ax}{mm:List (Int×aa)}
abbrev X8(x:Int)(l:L (Int×aa)):aa:=FE (A:=sg.A) (Ty.int .i64) J x l
abbrev SE(x:Int)(l:L (Int×aa)):L (Int×aa):=jK (A:=sg.A) (Ty.int .i64) x W l
abbrev am1(x:Int)(l:L (Int×aa)):L (Int×aa):=MY (A:=sg.A) (Ty.int .i64) x l
def ZO(x k:Int):∀l:L (Int×aa),X8 x (SE k l)=(af x k||X8 x l)
 |[]=>by show(bif af x k then W else J)=(af x k||J);cases af x k<;>rfl
 |q::l=>by
  have a:=ZO x k l;show X8 x (bif af k q.1 then(k,W)::l else q::SE k l)=(af x k||(bif af x q.1 then q.2 else X8 x l));cases h1:af k q.1 with
  |true=>have h1:=mY.1 h1;show(bif af x k then W else X8 x l)=_;rw[<-h1];cases af x k<;>rfl
  |false=>
   show(bif af x q.1 then q.2 else X8 x (SE k l))=_;rw[a];cases h2:af x q.1 with|false=>rfl|true=>rw[mY.1 h2,show af q.1 k=J from wH λe=>by rw[e,JE rfl]at h1;cases h1];rfl
def tg(l:L Int):L (Int×aa):=l.map λx=>(x,W)
def afO(x:Int):∀l,X8 x (tg l)=l.contains x
 |[]=>rfl|a::l=>by show(bif af x a then W else X8 x (tg l))=_;rw[afO x l,List.contains_cons];rfl
def Z9{x:Int}:∀{l:L Int},x∉l->SE x (tg l)=tg (l++[x])
 |[],_=>rfl|a::l,h=>by have h1:x≠a:=λe=>h (by simp_all);show(bif af x a then(x,W)::tg l else(a,W)::SE x (tg l))=_;rw[wH h1,jP,Z9 λb=>h (ie _ b)];rfl
theorem aa6{x:Int}:∀{l:L Int},am1 x (tg l)=tg (l.erase x)
 |[]=>rfl|a::l=>by show(bif af x a then tg l else(a,W)::am1 x (tg l))=_;rw[aa6,List.erase_cons];by_cases h:x=a;rw[JE h,bH (by simp[h])];rfl;rw[wH h,bS (by grind)];rfl
def AO(w:ai)(i:Nat):L Int:=((List.range i).filter λi:Nat=>af (cN w i).Form 6).map λi:Nat=>(i:Int)
def Rz(i:Nat):AO w (i+1)=bif af (cN w (i:Int)).Form 6 then AO w i++[(i:Int)]else AO w i:=by unfold AO;rw[List.range_succ,List.filter_append];cases h:af (cN w (i:Int)).Form 6<;>simp[h]
theorem V2{i:Nat}{x:Int}(h:x∈AO w i):x<i:=by
 unfold AO at h
 grind
def pS(w:ai):Nat->L Int
 |0=>Cu w|i+1=>(pS w i).erase (w.aY.getD i 0)
def DZ:∀i,(pS w i).Nodup
 |0=>Ga|i+1=>(DZ i).erase _
theorem yo{x:Int}:∀i,i<=w.aY.length->(x∈pS w i↔x∈Cu w/\x∉w.aY.take i)
 |0,_=>by simp[pS]
 |i+1,h=>by
  have a:=yo (x:=x) i (by omega);show x∈(pS w i).erase _↔_;rw[(DZ i).mem_erase_iff,a,afF (by omega),wB,iZ (by omega),RY]
  grind
theorem N3{i:Nat}(h:i<w.aY.length):Yo w i=W↔w.aY.getD i 0∈pS w i:=by
 rw[yo i (by omega),rD];unfold Yo;simp only[eX,g6,mY,Ox]
 grind
theorem atE(s:w.aQ.length<=1000)(t:w.aY.length<=1000):eH (λn=>F167 n (⟨w,c,dd,mm⟩,())) (Fe w):=by
 refine bf.at5 (Ev.iter (F:=λn c=>_) (kG w.aQ.length (λi=>((i:Int),tg (AO w i),())) 0 (λi f=>bC λn=>?_) (bC λn=>by simp(disch:=omega)only[aV]))) ?_
 .have k:bE w.aQ (aC (i:Int)) bD=cN w (i:Int):=rfl;rw[Rz];simp only[k];cases h1:af (cN w (i:Int)).Form 6 with
  |false=>simp(disch:=omega)only[aV,h1,bQ,fK,fM]|true=>
   have f:jK (A:=sg.A) (Ty.int .i64) (i:Int) W (tg (AO w i))=tg (AO w i++[(i:Int)]):=Z9 λh=>by have:=V2 h;omega
   simp(disch:=omega)only[aV,h1,f,bQ,fK,fM]
 refine bf.congr (λn=>lP ..) ?_;refine bf.loop w.aY.length (λi=>((i:Int),tg (pS w i),())) (λi=>Yo w i=W) (λi=>.ret (tg (pS w i),()) (J,())) (λ_ _ h=>by cases h) (λi f _=>?_) (λn=>by simp(disch:=omega)only[aV]) (λh=>?_) (λi f h=>bf.no (λg=>h (AM.2 ⟨g.E6,g.task⟩ i f)) dg)
 .have l:FE (A:=sg.A) (Ty.int .i64) J (w.aY.getD i 0) (tg (pS w i))=(pS w i).contains (w.aY.getD i 0):=afO _ _;have m:MY (A:=sg.A) (Ty.int .i64) (w.aY.getD i 0) (tg (pS w i))=tg (pS w (i+1)):=aa6;simp(disch:=omega)only[aV,l,m,bQ,fK,fM];cases h:(pS w i).contains (w.aY.getD i 0)with|true=>exact bf.yes ((N3 f).2 (ac6.1 h)) dg|false=>exact bf.no (λg=>by grind[List.contains_iff_mem,N3]) dg
 obtain⟨o,p⟩:=AM.1 h;refine eH.of_eq (λn=>rfl) ?_;rw[mY];have e:au (tg (pS w w.aY.length))=((pS w w.aY.length).length:Int):=by unfold tg au;rw[Sb]
 rw[e];constructor;intro j;refine⟨o,p,λi f q=>YJ λu=>?_⟩;have:=(yo (w:=w) (x:=(i:Int)) w.aY.length (eP _)).2 ⟨rD.2 ⟨by omega,by omega,q⟩,by simp_all⟩
 simp_all
 intro j;have:pS w w.aY.length=[]:=by rw[List.eq_nil_iff_forall_not_mem];intro x r;have:=(yo (w:=w) (x:=x) w.aY.length (eP _)).1 r;rw[RW]at this;obtain⟨a,b,d⟩:=rD.1 this.1;obtain⟨i,rfl⟩:∃i:Nat,x=i:=⟨_,(zR a).symm⟩;exact this.2 (j.all i (by omega) d)
 rw[this];rfl
end
section
variable {c:aB}{dd:List ax}{w:ai}{mm:List (Int×aa)}{k:Nat}{s n fo:Int}{vs:List aA}{fs:List aq}
variable {b:aa}{f:aq}
def bnT(h:av b=W):b=J:=by cases b<;>first|rfl|cases h
def bnF(h:av b=J):b=W:=by cases b<;>first|rfl|cases h
def KA{α:Type}{l:L α}{i:Int}(a:0<=i)(h1:i<l.length):aM i l=W:=by simp[aM];omega
def Vl{X B P α:Type}(i:Nat)(b:B)(f:Nat->X->O α)(u v:O α)(h:B->P->O α):bU (.ret b ((i:Int),())) f (λ_(q:Int×U)=>ak (av (bB 0 q.1)) u v) h=v:=by rfl
theorem amV(b:Bd c dd w){f:aq}(p:f.Env.length<=1000)(hs:f.Stack.length<=1000){a:Int}(hl:0<=a/\a<=1):eH (λn=>F296 n (⟨w,c,dd,mm⟩,f,a,())) (dB c dd w.aQ.length a f):=by
 have g:=b.dl;have e:∀{P:Prop},¬P->eH (λn=>xS n) P:=λh=>bf.no h dg;unfold F296;refine bf.ak (λh=>e λd=>by have:=d.lo;have:=Bq h;grind) (λh1=>?_);refine bf.ak (λh=>e λd=>by have:=d.hi;have:=Br h;simp only[eZ]at this;omega) (λh2=>?_);have h1:0<=f.At:=CW h1;have h2:f.At<dd.length:=Bs h2;refine bf.aS (KA h1 h2) ?_;refine bf.ak (λh=>e λd=>by have:=d.re;rw[show(ee dd f.At).Reached=J from bnT h]at this;cases this) (λh3=>?_);have h3:(ee dd f.At).Reached=W:=bnF h3;obtain⟨lo,j,k⟩:=b.lo h1 (by omega) h3;have m:=lo.s;refine bf.aS (KA h1 h2) ?_;refine bf.ak (λh4=>?_) (λh=>e λd=>z7 h d.el);refine bf.ak (λh5=>?_) (λh=>e λd=>z7 h (d.sl.trans (de (show -9223372036854775808<=(ee dd f.At).Stack-a by omega) (show(ee dd f.At).Stack-a<=9223372036854775807 by omega)).symm));have h4:(f.Env.length:Int)=(ee dd f.At).Env:=mY.1 h4;have h5:(f.Stack.length:Int)=(ee dd f.At).Stack-a:=(mY.1 h5).trans (de (show -9223372036854775808<=(ee dd f.At).Stack-a by omega) (show(ee dd f.At).Stack-a<=9223372036854775807 by omega));refine bf.Ng (l:=f.Env) bA (cC c w.aQ.length) (λn v=>F245 n (⟨w,c,dd,mm⟩,v,())) (λx=>.ret () x) (λn c=>rfl) (by omega) zO (λv _=>eH.of_eq (λn=>aix n v) LI) (λh6=>?_) (λh i=>bf.no (λd=>h d.env) (bC λn=>?_));show eH (λn=>Nx n (⟨w,c,dd,mm⟩,f,a,())) _
 unfold Nx;refine bf.Ng (l:=f.Stack) bA (cC c w.aQ.length) (λn v=>F245 n (⟨w,c,dd,mm⟩,v,())) (λx=>.ret () x) (λn c=>rfl) (by omega) zO (λv _=>eH.of_eq (λn=>aix n v) LI) (λo=>bf.yes ⟨h1,by omega,h3,h4,h6,h5,o⟩ dg) (λh i=>bf.no (λd=>h d.stack) (bC λn=>?_));show Z ((av (bB 0 (i:Int)),()),())=_;rw[akv];rfl
def amX(b:Bd c dd w)(a:f.Env.length<=1000)(hs:f.Stack.length<=1000):eH (λn=>F247 n (⟨w,c,dd,mm⟩,f,())) (dB c dd w.aQ.length 1 f):=by
 simp_all[F247,eH.tail,amV]
def atr(b:Bd c dd w)(a:f.Env.length<=1000)(hs:f.Stack.length<=1000):eH (λn=>F297 n (⟨w,c,dd,mm⟩,f,())) (dB c dd w.aQ.length 0 f):=by
 simp_all[F297,eH.tail,amV]
def KH{α:Type}{l:L α}{k i:Nat}{d:α}(h:i<k):(l.take k).getD i d=l.getD i d:=by
 simp_all
def PC:Q4 c dd k W fs↔(1<=fs.length/\fs.length<=40)/\(∀f∈fs.take (fs.length-1),dB c dd k 1 f)/\dB c dd k 0 (fs.getD (fs.length-1) aT):=by
 constructor;intro h;have a:=h.1;refine⟨a,fh (d:=aT) λi e=>?_,?_⟩;rw[Me]at e;have:=h.2 i (by omega);rw[show oL fs W i=1 from bS (by rintro⟨_,h⟩;omega)]at this;rw[KH (by omega)];exact this;have:=h.2 (fs.length-1) (by omega);rw[show oL fs W (fs.length-1)=0 from bH ⟨rfl,by omega⟩]at this;exact this
 rintro⟨a,h1,h2⟩
 refine⟨a,λi e=>?_⟩;by_cases b:i=fs.length-1;rw[b,show oL fs W (fs.length-1)=0 from bH ⟨rfl,by omega⟩];exact h2;rw[show oL fs W i=1 from bS (by rintro⟨_,h⟩;omega)];have:=h1 _ (bV aT (show i<(fs.take (fs.length-1)).length by rw[Me];omega));rw[KH (by omega)]at this;exact this
def aez:Q4 c dd k J fs↔(1<=fs.length/\fs.length<=40)/\∀f∈fs,dB c dd k 1 f:=by
 constructor;intro h;exact⟨h.1,MO h⟩
 rintro⟨h1,h2⟩
 refine⟨h1,λi a=>?_⟩
 simp_all[oL,bS,bV,aT]
def atw(b:Bd c dd w)(p:vs.length<=1000)(hf:SmF fs)(e:∀v∈vs,cC c w.aQ.length v):eH (λn=>F248 n (⟨w,c,dd,mm⟩,⟨6,s,vs,fs⟩,())) (fX c dd w.aQ.length ⟨6,s,vs,fs⟩):=by
 have q:=hf.len;have a:∀{P:Prop},¬P->eH (λn=>tC n) P:=λh=>bf.no h dg;unfold F248 TV Av;simp only;by_cases g:s=0;subst g;refine bf.iff Pz.symm ?_;refine bf.ak (λ_=>?_) (λh=>absurd rfl (z7 h));simp only[eZ];refine bf.ak (λh1=>?_) (λh1=>a λh=>by rw[eY.2 h.1]at h1;cases h1);refine bf.ak (λh2=>?_) (λh2=>a λh=>by have:=Bs h2;have:=h.2.1;omega);refine bf.ak (λh3=>?_) (λh3=>a λh=>by have:=Bs h3;have:=h.2.1;omega);have h2:=Br h2;have h3:=Br h3;have j:bn .i64 (fs.length:Int) 1=((fs.length-1:Nat):Int):=by rw[de (by omega) (by omega)];omega
 have d:eF 0 ((fs.length-1:Nat):Int) (fs.length:Int)=W:=by simp[eF]<;>omega
 simp only[j,d,yg,uP];refine bf.aS rfl ?_;refine bf.iff (P:=(∀f∈fs.take (fs.length-1),dB c dd w.aQ.length 1 f)/\dB c dd w.aQ.length 0 (fs.getD (fs.length-1) aT)) ⟨λh=>⟨eY.1 h1,PC.2 ⟨⟨by omega,by omega⟩,h⟩⟩,λh=>(PC.1 h.2).2⟩ ?_;refine bf.Ng (l:=fs.take (fs.length-1)) aT (dB c dd w.aQ.length 1) (λn f=>F247 n (⟨w,c,dd,mm⟩,f,())) (λx=>.ret () x) (λn c=>rfl) (by rw[Me];omega) zO (λf k=>amX b (hf.env f (Wr k)) (hf.stack f (Wr k))) (λh4=>?_) (λh i=>bf.congr (λn=>Vl i () _ _ _ _) (a λo=>h o.1));refine bf.iff (P:=dB c dd w.aQ.length 0 (fs.getD (fs.length-1) aT)) ⟨λh=>⟨h4,h⟩,λh=>h.2⟩ ?_;have m:fs.length-1<fs.length:=by omega
 refine bf.aS (KA (by omega) (by omega)) ?_;exact eH.tail (atr b (hf.env _ (bV aT m)) (hf.stack _ (bV aT m)));by_cases h1:s=1;subst h1;refine bf.iff Qh.symm ?_;simp(disch:=omega)only[aV];refine bf.ak (λh2=>?_) (λh2=>a λh=>z7 h2 h.2.1);exact eH.of_eq (λn=>rfl) (eY.trans ⟨λh=>⟨h,mY.1 h2,e⟩,λh=>h.1⟩);refine bf.iff (Qk g h1).symm ?_;have key:2<=s/\s<=4->eH (λn=>ak (af (au vs) 0) (Z ((af (au fs) 0,()),())) (tC n)) ((2<=s/\s<=4)/\fs=[]/\vs=[]):=λj=>
  bf.ak (λh2=>eH.of_eq (λn=>rfl) (eY.trans ⟨λh=>⟨j,h,eY.1 h2⟩,λh=>h.2.1⟩)) (λh2=>a λh=>by rw[show af (au vs) 0=W from eY.2 h.2.2]at h2;cases h2)
 simp only[wH g,wH h1,J4];by_cases h2:s=2;subst h2;exact bf.congr (λn=>rfl) (key (by omega));by_cases h3:s=3;subst h3;exact bf.congr (λn=>rfl) (key (by omega));by_cases h4:s=4;subst h4;exact bf.congr (λn=>rfl) (key (by omega));simp only[wH h2,wH h3,wH h4,J4];exact a λh=>by omega
theorem atF(b:Bd c dd w){o:bG}(sm:SmO o)(k:∀x,X8 x mm=W↔qw c dd x):eH (λn=>F166 n (⟨w,c,dd,mm⟩,o,())) (fX c dd w.aQ.length o):=by
 have y:=b.cl;have z:=b.nl;have A:=b.dl;have a:∀{P:Prop},¬P->eH (λn=>ju n) P:=λh=>bf.no h dg;obtain⟨fo,s,vs,fs⟩:=o;obtain⟨t,m⟩:=sm;simp only at t m;unfold F166;refine bf.Ng (l:=vs) bA (cC c w.aQ.length) (λn v=>F245 n (⟨w,c,dd,mm⟩,v,())) (λx=>.ret () x) (λn c=>rfl) (by omega) zO (λv _=>eH.of_eq (λn=>aix n v) LI) (λg=>?_) (λh i=>bf.congr (G:=λn=>ju n) (λn=>atn i () _ _ _ _) (a λp=>h p.uJ));show eH (λn=>NC n (⟨w,c,dd,mm⟩,⟨fo,s,vs,fs⟩,())) _;unfold NC TW;simp only;by_cases h1:fo=1;subst h1;refine bf.iff Ql.symm ?_;refine bf.ak (λ_=>?_) (λh=>absurd rfl (z7 h));refine bf.ak (λe=>?_) (λe=>a λh=>by grind[af,au,eY]);refine bf.ak (λd=>?_) (λd=>a λh=>by have:=h.2.1.1;have:=Bs d;omega);refine bf.ak (λj=>?_) (λj=>a λh=>by have:=h.2.1.2;have:=CW j;simp only[eZ]at this;omega);have d:=Br d;have j:=Bq j;simp only[eZ]at j;refine bf.aS (KA d j) (eH.of_eq (λn=>rfl) ?_);rw[mY];exact⟨λh=>⟨eY.1 e,⟨d,j⟩,h,g⟩,λh=>h.2.2.1⟩;by_cases h2:fo=2;subst h2;refine bf.iff PB.symm ?_;refine bf.ak (λh=>absurd (mY.1 h) (by decide)) (λ_=>?_);refine bf.ak (λ_=>?_) (λh=>absurd rfl (z7 h));refine bf.ak (λe=>?_) (λe=>a λh=>by grind[af,au,eY]);refine bf.ak (λd=>?_) (λd=>a λh=>by grind)
 have d:qw c dd s:=(k s).1 d;obtain⟨B,E,F,I⟩:=KZ b d;refine bf.aS (KA B (by omega)) (eH.of_eq (λn=>rfl) ?_);rw[mY,show bE dd (aC s) aW=ee dd s from rfl,de (by omega) (by omega)];exact⟨λh=>⟨eY.1 e,d,h,g⟩,λh=>h.2.2.1⟩;by_cases h3:fo=3;subst h3;refine bf.iff Qs.symm ?_;refine bf.ak (λh=>absurd (mY.1 h) (by decide)) (λ_=>?_);refine bf.ak (λh=>absurd (mY.1 h) (by decide)) (λ_=>?_);refine bf.ak (λ_=>?_) (λh=>absurd rfl (z7 h));refine bf.ak (λe=>?_) (λe=>a λh=>by grind[af,au,eY]);refine bf.ak (λd=>?_) (λd=>a λh=>z7 d h.2.1);exact eH.of_eq (λn=>rfl) (mY.trans ⟨λh=>⟨eY.1 e,mY.1 d,h,g⟩,λh=>h.2.2.1⟩);by_cases h4:fo=4;subst h4;refine bf.iff Qr.symm ?_;(iterate 3 refine bf.ak (λh=>absurd (mY.1 h) (by decide)) (λ_=>?_));refine bf.ak (λ_=>?_) (λh=>absurd rfl (z7 h));refine bf.ak (λe=>?_) (λe=>a λh=>by grind[af,au,eY]);refine bf.ak (λd=>?_) (λd=>a λh=>z7 d h.2.1);refine eH.of_eq (λn=>rfl) ?_;exact⟨λh=>⟨eY.1 e,mY.1 d,Br h,g⟩,λh=>akG h.2.2.1⟩;simp only[wH h1,wH h2,wH h3,wH h4,J4];by_cases h5:fo=5;subst h5;refine bf.iff Pe.symm ?_;refine bf.ak (λ_=>?_) (λh=>absurd rfl (z7 h))
 refine bf.ak (λe=>?_) (λe=>a λh=>by have:=h.2.2.1.1.1;have:=Bs e;simp only[eZ]at this;omega);refine bf.ak (λd=>?_) (λd=>a λh=>by have:=h.2.2.1.1.2;have:=Bs d;simp only[eZ]at this;omega);refine bf.ak (λj=>?_) (λj=>a λh=>z7 j h.1);refine bf.ak (λu=>?_) (λu=>a λh=>by grind[af,au,eY]);have e:=Br e;have d:=Br d;simp only[eZ]at e d;have q:1<=fs.length:=by omega
 have r:fs.length<=40:=by omega
 refine bf.Ng (l:=fs) aT (dB c dd w.aQ.length 1) (λn f=>F247 n (⟨w,c,dd,mm⟩,f,())) (λx=>.ret () x) (λn c=>rfl) (by omega) zO (λf k=>amX b (m.env f k) (m.stack f k)) (λC=>?_) (λh i=>bf.congr (λn=>Vl i () _ _ _ _) (a λp=>h (MO p.2.2.1)));refine bf.aS (KA (by omega) (by omega)) (eH.of_eq (λn=>rfl) ?_);exact⟨λh=>⟨mY.1 j,eY.1 u,aez.2 ⟨⟨q,r⟩,C⟩,h⟩,λh=>h.2.2.2⟩;simp only[wH h5,J4];by_cases h6:fo=6;subst h6;exact eH.tail (atw b t m g);simp only[wH h6,J4]
 grind[Zx]
end
section
variable {c:aB}{dd:List ax}{w:ai}{mm:List (Int×aa)}
structure pI(w:ai):Prop where
 ahf:w.aQ.length<=130
 tasks:w.aY.length<=130
 outs:w.mg.length<=110
 ins:w.dJ.length<=60
 parts:∀o∈w.aQ,o.fL.length<=40/\o.Frames.length<=50/\∀f∈o.Frames,f.Env.length<=40/\f.Stack.length<=70
theorem pI.sm(h:pI w){o:bG}(c:o∈w.aQ):SmO o:=by obtain⟨a,b,d⟩:=h.parts o c;exact⟨by omega,⟨by omega,λf e=>by grind,λf e=>by grind⟩⟩
def e31(w:ai):eH (λn=>F31 n (w,())) (pI w):=by
 refine bf.ak (λh=>bf.no (λa=>by have:=a.ahf;have:=Bq h;simp only[eZ]at this;omega) (Ev.pure _)) (λh1=>?_);refine bf.ak (λh=>bf.no (λa=>by have:=a.tasks;have:=Bq h;simp only[eZ]at this;omega) (Ev.pure _)) (λh2=>?_);refine bf.ak (λh=>bf.no (λa=>by have:=a.outs;have:=Bq h;simp only[eZ]at this;omega) (Ev.pure _)) (λh3=>?_);refine bf.ak (λh=>bf.no (λa=>by have:=a.ins;have:=Bq h;simp only[eZ]at this;omega) (Ev.pure _)) (λh4=>?_);have h1:=CW h1;have h2:=CW h2;have h3:=CW h3;have h4:=CW h4;simp only[eZ]at h1 h2 h3 h4;refine bf.all (l:=w.aQ) bD (λo=>o.fL.length<=40/\o.Frames.length<=50/\∀f∈o.Frames,f.Env.length<=40/\f.Stack.length<=70) (λ_=>.ret () (J,())) (λ_ _ h=>by cases h) (λi k=>?_) (λn=>by simp(disch:=omega)only[aV])
  (λh=>bf.yes ⟨by omega,by omega,by omega,by omega,h⟩ dg) (λh i=>bf.no (λa=>h a.parts) dg)
 generalize g:w.aQ.getD i bD=o;simp(disch:=omega)only[aV,g];refine bf.ak (λh=>bf.no (λa=>by have:=Bq h;omega) (Ev.pure _)) (λb=>?_);refine bf.ak (λh=>bf.no (λa=>by have:=Bq h;omega) (Ev.pure _)) (λc=>?_);have b:=CW b;have c:=CW c;refine bf.all (l:=o.Frames) aT (λf=>f.Env.length<=40/\f.Stack.length<=70) (λ_=>.ret () (J,())) (λ_ _ h=>by cases h) (λj m=>?_) (λn=>by simp(disch:=omega)only[aV])
  (λh=>bf.yes ⟨by omega,by omega,h⟩ (bC λn=>by simp(disch:=omega)only[aV,lP,bQ,fK,fM])) (λh j=>bf.no (λa=>h a.2.2) dg)
 simp(disch:=omega)only[aV];refine bf.ak (λh=>bf.no (λa=>by have:=Bq h;omega) (Ev.pure _)) (λd=>?_);refine bf.ak (λh=>bf.no (λa=>by have:=Bq h;omega) (Ev.pure _)) (λe=>?_);have d:=CW d;have e:=CW e;exact bf.yes ⟨by omega,by omega⟩ (bC λn=>by simp(disch:=omega)only[aV,bQ,fK,fM])
def e19(c:aB)(w:ai):∃b,Ev (λn=>F19 n (c,w,())) ((b,()),())/\(b=W->Small c/\pI w):=by
 obtain⟨a,h1,e⟩:=e11 c;obtain⟨d,h2,f⟩:=(e31 w).get;refine⟨a&&d,?_,λh=>?_⟩
 .refine Ev.aj h1 ?_;cases a with
  |false=>exact dg|true=>exact Ev.aj h2 (Ev.pure _)
 simp_all
def VJ(o:ec):Prop:=0<=o.Port/\o.Port<=3/\jh o.N=W
def abS(l:L Int):Prop:=l.length<=50/\∀i∈l,jh i=W
theorem rJ{a:Int}:jh a=W↔-1000000000<=a/\a<=1000000000:=by unfold jh;simp
def e52(n:Nat)(a lo hi:Int):F52 n (a,lo,hi,())=Z ((KB a lo hi,()),()):=e63 n a lo hi
theorem e15{l:L Int}(hl:l.length<=1000):eH (λn=>F15 n (l,50,())) (abS l):=by
 by_cases h:l.length<=50
 .refine bf.iff (P:=∀i∈l,jh i=W) ⟨λb=>⟨h,b⟩,λh=>h.2⟩ ?_;refine bf.all (l:=l) 0 (λi=>jh i=W) (λ_=>.ret () (J,())) (λ_ _ h=>by cases h) (λi e=>?_) (λn=>by simp(disch:=omega)only[aV]) (λb=>bf.yes b (bC λn=>by simp(disch:=omega)only[aV,lP])) (λb i=>bf.no b dg);simp(disch:=omega)only[aV,e52];cases h1:KB (l.getD i 0) (-1000000000) 1000000000 with|true=>exact bf.yes (rJ.2 (g6.1 h1)) (bC λn=>by simp(disch:=omega)only[aV,bQ,fK,fM])|false=>exact bf.no (λh=>by grind[g6,rJ]) dg
 .refine bf.no (λb=>h b.1) ?_;rcases nY (F:=λn(c:Int×U)=>ak (aG c.1 (au l)) (ak (bB c.1 50) (aS (aM c.1 l) (aj (F52 n (bE l (aC c.1) 0,(-1000000000),1000000000,())) λd=>ak (av d.1.1) (Z (X (P:=Any) () (J,()))) (Z (N (aJ .i64 c.1 1,()))))) (Z (H 0 c))) (Z (H 0 c)))
   51 (λi=>((i:Int),())) (λi=>KB (l.getD i 0) (-1000000000) 1000000000) (λ_=>.ret () (J,())) 0 (λ_ _ h=>by cases h) (λi e _=>bC λn=>by
    simp(disch:=omega)only[aV,e52];cases KB (l.getD i 0) (-1000000000) 1000000000<;>simp(disch:=omega)only[aV,bQ,fK,fM]) (λ_=>bC λn=>by
    simp(disch:=omega)only[aV];cases aG ((51:Nat):Int) (l.length:Int)<;>rfl)with⟨a,r⟩|⟨i,e,a,_,r⟩
  exact Ev.bp r (λn c=>_) _ (bC λn=>by
   show Z ((bB (l.length:Int) 50,()),())=_;rw[akH (by omega)])
  exact Ev.bp r (λn c=>_) _ dg
def e45{l:L Int}(hl:l.length<=1000):eH (λn=>F45 n (l,())) (abS l):=by
 refine bf.ak (λh=>?_) (λh=>bf.no (λa=>by have:=a.1;have:=Bs h;simp only[eZ]at this;omega) (Ev.pure _));have h:=Br h;simp only[eZ]at h;refine bf.iff (P:=∀i∈l,jh i=W) ⟨λa=>⟨by omega,a⟩,λh=>h.2⟩ ?_;refine bf.all (l:=l) 0 (λi=>jh i=W) (λi=>.ret () ((i:Int),())) (λ_ _ h=>by cases h) (λi b=>?_) (λn=>by simp(disch:=omega)only[aV]) (λa=>bf.yes a dg) (λa i=>bf.no a (bC λn=>by
  show Z ((av (bB 0 (i:Int)),()),())=_;rw[akv]))
 simp(disch:=omega)only[aV];refine bf.ak (λh1=>bf.ak (λh2=>?_) (λh2=>?_)) (λh1=>bf.no (λa=>by have:=Bs h1;have:=rJ.1 a;omega) (Ev.pure _));exact bf.yes (rJ.2 ⟨Br h1,Br h2⟩) (bC λn=>by simp(disch:=omega)only[aV,bQ,fK,fM])
 simp_all[bf.no,Bs,rJ,Ev.pure]
theorem atG(o:ec):eH (λn=>F164 n (o,())) (VJ o):=by refine bf.ak (λh1=>?_) (λh1=>bf.no (λh=>by have:=h.1;have:=Bs h1;grind) (Ev.pure _));refine bf.ak (λh2=>?_) (λh2=>bf.no (λh=>by have:=h.2.1;have:=CW h2;grind) (Ev.pure _));have h1:=Br h1;have h2:=Bq h2;simp only at h1 h2;refine eH.of_eq (λn=>rgi o.N (-1000000000) 1000000000) ?_;exact⟨λh=>⟨h1,by omega,h⟩,λh=>h.2.2⟩
def VG:jr c dd w↔w.aQ.length<=120/\(∀o∈w.aQ,fX c dd w.aQ.length o)/\Fe w/\w.mg.length<=100/\(∀o∈w.mg,VJ o)/\abS w.dJ/\(0<=w.Used/\w.Used<=1000000000):=by
 constructor;intro h;exact⟨h.len,h.obs,⟨h.E6,h.task,h.all⟩,h.outs,h.out,⟨h.ins,h.inn⟩,h.used⟩
 rintro⟨a,b,d,e,f,g,u⟩
 exact⟨a,b,e,f,g.1,g.2,u,d.E6,d.tl,d.task,d.all⟩
def e32(o:pX c dd)(hs:Small c)(k:pI w):eH (λn=>F32 n (⟨c,dd⟩,w,())) (jr c dd w):=by
 have t:=k.ahf;have p:Bd c dd w:=⟨o,by have:=hs.cl;omega,by omega⟩;refine bf.iff VG.symm ?_;have d:∀{P:Prop},¬P->eH (λn=>Ly n) P:=λh=>bf.no h dg;refine bf.ak (λh=>d λf=>by have:=Bq h;simp only[eZ]at this;omega) (λh1=>?_);refine bf.ak (λh=>d λf=>by have:=Bq h;simp only[eZ]at this;omega) (λh2=>?_);have h1:=CW h1;have h2:=CW h2;simp only[eZ]at h1 h2;refine bf.ifN (e15 (l:=w.dJ) (by have:=k.ins;omega)) (λh3=>?_) (λh3=>d λh=>h3 h.2.2.2.2.2.1);refine bf.ifN (P:=0<=w.Used/\w.Used<=1000000000) (eH.of_eq (λn=>e63 n _ _ _) g6) (λh4=>?_) (λh4=>d λh=>h4 h.2.2.2.2.2.2);refine bf.ifN (P:=Fe w) (by obtain⟨b,q,e⟩:=e64 (w:=w) (by omega) (by have:=k.tasks;omega);exact eH.mk q e) (λh5=>?_) (λh5=>d λh=>h5 h.2.2.1);refine bf.Ng (l:=w.aQ) bD (fX c dd w.aQ.length) (λn a=>F65 n (⟨c,dd⟩,w,a,())) (λ_=>.ret () (J,())) (λn c=>rfl) (by omega) (λ_ _ h=>by cases h) (λa r=>e65 p (k.sm r)) (λh6=>?_) (λh i=>bf.no (λf=>h f.2.1) dg);refine bf.congr (λn=>lP ..) ?_;refine bf.all (l:=w.mg) kM VJ (λ_=>.ret () (J,())) (λ_ _ h=>by cases h) (λj u=>?_) (λn=>by simp(disch:=omega)only[aV]) (λs=>bf.yes ⟨by omega,h6,h5,by omega,s,h3,h4⟩ dg) (λh i=>bf.no (λf=>h f.2.2.2.2.1) dg);simp(disch:=omega)only[aV,e63]
 refine bf.ak (λg=>?_) (λg=>bf.no (λh=>by rw[g6.2 ⟨h.1,h.2.1⟩]at g;cases g) (Ev.pure _));refine bf.ak (λm=>?_) (λm=>bf.no (λh=>by rw[g6.2 (rJ.1 h.2.2)]at m;cases m) (Ev.pure _));exact bf.yes ⟨(g6.1 g).1,(g6.1 g).2,rJ.2 (g6.1 m)⟩ (bC λn=>by simp(disch:=omega)only[aV,bQ,fK,fM])
theorem atO(g:pX c dd)(hs:Small c)(e:pI w)(j:∀x,X8 x mm=W↔qw c dd x):eH (λn=>F111 n (⟨w,c,dd,mm⟩,())) (jr c dd w):=by
 have m:=e.ahf;have k:Bd c dd w:=⟨g,by have:=hs.cl;omega,by omega⟩;refine bf.iff VG.symm ?_;have b:∀{P:Prop},¬P->eH (λn=>tE n) P:=λh=>bf.no h dg;refine bf.ak (λh1=>?_) (λh=>b λd=>by have:=Bs h;simp only[eZ]at this;omega);simp only[eZ]at h1;refine bf.Ng (l:=w.aQ) bD (fX c dd w.aQ.length) (λn a=>F166 n (⟨w,c,dd,mm⟩,a,())) (λx=>.ret () x) (λn c=>rfl) (by omega) zO (λa f=>atF k (e.sm f) j) (λh2=>?_) (λh i=>bf.congr (λn=>Vl i () _ _ _ _) (b λd=>h d.2.1));refine bf.ifP (atE (by omega) (by have:=e.tasks;omega)) (λh3=>?_) (λh3=>b λh=>h3 h.2.2.1);refine bf.ak (λh4=>?_) (λh=>b λd=>by have:=Bs h;simp only[eZ]at this;omega);have h4:=Br h4;simp only[eZ]at h4;refine bf.Ng (l:=w.mg) kM VJ (λn a=>F164 n (a,())) (λx=>.ret () x) (λn c=>rfl) (by omega) zO (λa f=>atG a) (λh5=>?_) (λh i=>bf.congr (λn=>Vl i () _ _ _ _) (b λd=>h d.2.2.2.2.1));refine bf.ifP (e45 (l:=w.dJ) (by have:=e.ins;omega)) (λh6=>?_) (λh6=>b λh=>h6 h.2.2.2.2.2.1);refine bf.ak (λo=>?_) (λh=>b λd=>by have:=Bs h;grind);refine eH.of_eq (λn=>rfl) ?_
 grind[Br,bB]
end
section
variable {c:aB}{dd:List ax}{w:ai}
structure Rt(c:aB)(dd:List ax):Prop where
 cf:CF c
 dep:Rn c dd
theorem Rt.ok(h:Rt c dd):pX c dd:=h.cf.ok.pok h.dep
theorem Rt.uniq{D E:L ax}(h:Rt c D)(a:Rt c E):D=E:=h.dep.uniq a.dep h.cf.ok.pF
def ato(hs:Small c):(∃D,Rt c D/\Ev (λn=>F99 n (c,())) ((D,0,()),()))\/((¬∃D,Rt c D)/\∃e:Int,e≠0/\Ev (λn=>F99 n (c,())) (([],e,()),())):=by
 obtain⟨r,h1,h2,h3⟩:=atJ hs;obtain rfl|rfl:=h2
 have a:=h3.1 rfl;obtain⟨D,b,h⟩|⟨d,h⟩:=e99 a.ok h1
 exact .inl ⟨D,⟨a,b⟩,h⟩;exact .inr ⟨λ⟨D,h⟩=>d ⟨D,h.dep⟩,7,by decide,h⟩;refine .inr ⟨(λ⟨D,h⟩=>by have:=h3.2 h.cf;cases this),2,by decide,?_⟩;exact Ev.aj h1 dg
def e14(hs:Small c):(∃D,Rt c D/\Ev (λn=>F14 n (c,())) ((⟨c,D⟩,W,()),()))\/((¬∃D,Rt c D)/\∃m,Ev (λn=>F14 n (c,())) ((m,J,()),())):=by
 obtain⟨a,b⟩|⟨a,b⟩:=e50 hs
 obtain⟨D,d,h⟩|⟨e,h⟩:=d51 a.ok
 exact .inl ⟨D,⟨a,d⟩,Ev.aj b (Ev.aj h (Ev.pure _))⟩;exact .inr ⟨λ⟨D,h⟩=>e ⟨D,h.dep⟩,_,Ev.aj b (Ev.aj h (Ev.pure _))⟩;exact .inr ⟨λ⟨D,h⟩=>a h.cf,_,Ev.aj b (Ev.pure _)⟩
def M3(c:aB)(dd:L ax):Nat->L (Int×aa)
 |0=>[]|i+1=>bif (ee dd (i:Int)).Reached&&af (aZ c (i:Int)).Op 6 then SE (aZ c (i:Int)).A (M3 c dd i)else M3 c dd i
theorem abc{x:Int}:∀i:Nat,X8 x (M3 c dd i)=W↔∃j:Nat,j<i/\(aZ c (j:Int)).Op=6/\(ee dd (j:Int)).Reached=W/\(aZ c (j:Int)).A=x
 |0=>⟨(λh=>by cases h),λ⟨j,h,_⟩=>by omega⟩
 |i+1=>by
  have a:=abc (x:=x) i;unfold M3;cases h:(ee dd (i:Int)).Reached&&af (aZ c (i:Int)).Op 6 with
  |false=>
   grind[h1,h2,h3,h4,JE]
  |true=>
   simp only[eX,mY]at h;rw[iq,ZO,o8,a,mY]
   grind
abbrev Qq(c:aB)(dd:L ax):L (Int×aa):=M3 c dd c.dJ.length
theorem aiJ{x:Int}:X8 x (Qq c dd)=W↔qw c dd x:=by
 rw[abc];constructor
 rintro⟨j,h1,h2,h3,h4⟩
 exact⟨(j:Int),by omega,by omega,h2,h3,h4⟩
 rintro⟨i,a,h1,h2,h3,h4⟩
 obtain⟨j,rfl⟩:∃j:Nat,i=j:=⟨_,(zR a).symm⟩
 grind
def abb{β R B P:Type}(hl:c.dJ.length<=1500)(f:dd.length=c.dJ.length){F:Nat->Int×L (Int×aa)×U->O (LO (Int×L (Int×aa)×U) R B P)}{g:Nat->LO (Int×L (Int×aa)×U) R B P->O β}{r:β}
  (a:∀n d,F n d=ak (aG d.1 (au c.1)) (aS (aM d.1 dd) (ak (bE dd (aC d.1) aW).1 (aS (aM d.1 c.1) (ak (af (bE c.1 (aC d.1) cg).1 6) (aS (aM d.1 c.1) (Z (N (aJ .i64 d.1 1,jK (A:=sg.A) (Ty.int .i64) (bE c.1 (aC d.1) cg).2 W d.2.1,())))) (Z (N (aJ .i64 d.1 1,d.2))))) (Z (N (aJ .i64 d.1 1,d.2))))) (Z (H 0 d)))
  (h:Ev (λn=>g n (.out 0 ((c.dJ.length:Int),Qq c dd,()))) r):Ev (λn=>aj (iter (F n) n (0,[],())) (g n)) r:=by
 refine Ev.bp (kG c.dJ.length (λi=>((i:Int),M3 c dd i,())) 0 (λi j=>bC λn=>?_) (bC λn=>by simp_all[aV])) g _ h;have b:bE dd (aC (i:Int)) aW=ee dd (i:Int):=rfl;have e:bE c.1 (aC (i:Int)) cg=aZ c (i:Int):=rfl;rw[a];simp only[b,e];rw[show M3 c dd (i+1)=bif (ee dd (i:Int)).Reached&&af (aZ c (i:Int)).Op 6 then SE (aZ c (i:Int)).A (M3 c dd i)else M3 c dd i from rfl];cases h1:(ee dd (i:Int)).Reached<;>cases h2:af (aZ c (i:Int)).Op 6<;>simp(disch:=omega)only[aV,h1,h2,bQ,fK,fM,rf,qd]
def We(hs:Small c){α:Type}{bad:Nat->O α}{rest:Nat->(L ax×Int×U)×U->Int×L (Int×aa)×U->O α}{z:Nat->aa×U->O α}{r:α}
  (h1:∀D,Rt c D->Ev (λn=>rest n ((D,0,()),()) ((c.dJ.length:Int),Qq c D,())) r) (h2:(¬∃D,Rt c D)->Ev bad r) :
  Ev (λn=>aj (F99 n (c,())) λx=>ak (av (af x.1.2.1 0)) (bad n) (aj (iter (λd:Int×L (Int×aa)×U=>ak (aG d.1 (au c.1)) (aS (aM d.1 x.1.1) (ak (bE x.1.1 (aC d.1) aW).1 (aS (aM d.1 c.1) (ak (af (bE c.1 (aC d.1) cg).1 6) (aS (aM d.1 c.1) (Z (N (R:=aa×U) (B:=L (Int×aa)×U) (P:=Any) (aJ .i64 d.1 1,jK (A:=sg.A) (Ty.int .i64) (bE c.1 (aC d.1) cg).2 W d.2.1,())))) (Z (N (aJ .i64 d.1 1,d.2))))) (Z (N (aJ .i64 d.1 1,d.2))))) (Z (H 0 d))) n (0,[],())) λd=>bU d (λ_ g=>rest n x g) (λ_ g=>z n g) λ_ _=>Y)) r:=by
 obtain⟨D,a,h⟩|⟨b,e,f,h⟩:=ato hs
 refine Ev.aj h ?_;exact abb a.ok.len.2 a.dep.len (λn d=>rfl) (h1 D a);refine Ev.aj h (Ev.n9 (λn=>?_) (h2 b));rw[wH f];rfl
def Aj(hs:Small c)(f:pI w){α:Type}{bad:Nat->O α}{rest:Nat->(L ax×Int×U)×U->Int×L (Int×aa)×U->O α}{z:Nat->aa×U->O α}{r:α}
  (h1:∀D,Rt c D->jr c D w->Ev (λn=>rest n ((D,0,()),()) ((c.dJ.length:Int),Qq c D,())) r) (h2:(¬∃D,Rt c D/\jr c D w)->Ev bad r) :
  Ev (λn=>aj (F99 n (c,())) λx=>ak (av (af x.1.2.1 0)) (bad n) (aj (iter (λd:Int×L (Int×aa)×U=>ak (aG d.1 (au c.1)) (aS (aM d.1 x.1.1) (ak (bE x.1.1 (aC d.1) aW).1 (aS (aM d.1 c.1) (ak (af (bE c.1 (aC d.1) cg).1 6) (aS (aM d.1 c.1) (Z (N (R:=aa×U) (B:=L (Int×aa)×U) (P:=Any) (aJ .i64 d.1 1,jK (A:=sg.A) (Ty.int .i64) (bE c.1 (aC d.1) cg).2 W d.2.1,())))) (Z (N (aJ .i64 d.1 1,d.2))))) (Z (N (aJ .i64 d.1 1,d.2))))) (Z (H 0 d))) n (0,[],())) λd=>bU d (λ_ g=>aj (F111 n (cT.mk w c x.1.1 g.2.1,())) λh=>ak (av h.1.1) (bad n) (rest n x g)) (λ_ g=>z n g) λ_ _=>Y)) r:=by
 refine We hs (rest:=λn x g=>aj (F111 n (cT.mk w c x.1.1 g.2.1,())) λh=>ak (av h.1.1) (bad n) (rest n x g)) (λD e=>?_) (λh=>h2 λ⟨D,a,_⟩=>h ⟨D,a⟩);obtain⟨a,b⟩|⟨a,b⟩:=atO e.ok hs f (λx=>aiJ)
 exact Ev.aj b (h1 D e a);exact Ev.aj b (h2 λ⟨E,i,j⟩=>a (e.uniq i▸j))
end
def A0(p:aB)(at_:Int):Nat->ai->Nat->O (ai×Nat)
 |0,_,_=>Y|k+1,w,s=>match ig p w at_ with
  |some (a,Y)=>if 5000<s+1 then Y else A0 p at_ k a (s+1)|_=>Z (w,s)
def ej(p:aB):Nat->Nat->ai->Nat->O (ai×Nat)
 |0,_,w,s=>Z (w,s)|m+1,i,w,s=>match A0 p i 5002 w s with
  |none=>Y|some (a,b)=>ej p m (i+1) a b
section
variable {p:aB}{dd:List ax}{M:MP}{w:ai}{at_:Int}
theorem Fs(g:pX p dd):∀(k:Nat)(w:ai)(s:Nat)(w':ai)(s':Nat),jr p dd w->0<=at_->at_<w.aY.length->A0 p at_ k w s=Z (w',s')->jr p dd w'/\w'.aY=w.aY/\s<=s'/\(s'<=s\/s'<=5000)
 |0,w,s,w',s',i,f,h1,h=>by cases h
 |k+1,w,s,w',s',i,f,h1,h=>by
  unfold A0 at h;cases j:ig p w at_ with
  |none=>simp_all|some r=>
   obtain⟨l,e⟩:=r;rw[j]at h;cases e with
   |some e=>simp_all|none=>
    obtain⟨m,n,o⟩:=si g i f h1 j;simp only at h;split at h;cases h;obtain⟨a,b,c,d⟩:=Fs g k l (s+1) w' s' m f (by grind) h
    grind
theorem Gp(e:pX p dd):∀(m i:Nat)(w:ai)(s:Nat)(w':ai)(s':Nat),jr p dd w->i+m<=w.aY.length->ej p m i w s=Z (w',s')->jr p dd w'/\w'.aY=w.aY/\s<=s'/\(s'<=s\/s'<=5000)
 |0,i,w,s,w',s',f,k,h=>by cases h;simp_all
 |m+1,i,w,s,w',s',f,k,h=>by
  unfold ej at h;split at h;cases h;rename_i g j l;obtain⟨a,b,c,d⟩:=Fs e _ w s g j f (by omega) (by omega) l;obtain⟨n,o,q,r⟩:=Gp e m (i+1) g j w' s' a (by rw[b];omega) h
  grind
def Uu:O (ai×O aE)->Int
 |none=>2|some (_,Y)=>0|some (_,Z _)=>1
def Vt{r:O (ai×O aE)}{w:ai}:Ev (λn=>F68 n (JZ p dd M w r).1) ((Uu r,()),()):=by
 match r with
 |none=>exact dg|some (_,Y)=>exact dg|some (_,Z _)=>exact dg
abbrev SX4:=Int×Int×MB×MP×U
theorem wN(u:pX p dd){N0:Nat}(F:Nat->SX4->O (LO SX4 (Int×aa×U) (MB×MP×U) Any))
  (j:∀n c,F n c=ak (aG c.2.1 (au c.2.2.1.1.2.1)) (aj (F67 n (c.2.2.1,c.2.2.2.1,c.2.1,())) λd=>aj (F68 n d.1) λe=>ak (av (af e.1.1 0)) (Z (N (c.1,aJ .i64 c.2.1 1,c.2.2.1,d.2.2))) (ak (aG 5000 (aJ .i64 c.1 1)) (Z (X (c.2.2.1,d.2.2) (0,J,()))) (Z (N (aJ .i64 c.1 1,c.2.1,d.2))))) (Z (H 0 c))) :
  ∀(m k i:Nat)(w:ai)(s:Nat),jr p dd w->i+m=N0->N0=w.aY.length->s<=5001->5002<=k+s->1<=m->
  (∃w' s',(match A0 p (i:Int) k w s with|none=>Y|some (w1,s1)=>ej p (m-1) (i+1) w1 s1)=Z (w',s')/\fu F ((s:Int),(i:Int),mb p dd w,M,()) (.out 0 ((s':Int),(N0:Int),mb p dd w',M,())))\/
  ((match A0 p (i:Int) k w s with|none=>Y|some (w1,s1)=>ej p (m-1) (i+1) w1 s1)=Y/\∃R,fu F ((s:Int),(i:Int),mb p dd w,M,()) (.ret R (0,J,())))
 |0,_,_,_,_,_,_,_,_,_,h=>by omega
 |m+1,0,i,w,s,l,v,x,y,z,_=>by omega
 |m+1,k+1,i,w,s,l,v,x,y,z,_=>by
  have I:=l.tl;have A:=l.len;have q:=e67 (M:=M) (a:=(i:Int)) u l (by omega) (by omega);have t:=Vt (p:=p) (dd:=dd) (M:=M) (w:=w) (r:=ig p w (i:Int));have g:∀r,ig p w (i:Int)=r->av (af (Uu r) 0)=W->(JZ p dd M w r).2.2=(M,())->
    (∃w' s',ej p m (i+1) w s=Z (w',s')/\fu F ((s:Int),(i:Int),mb p dd w,M,()) (.out 0 ((s':Int),(N0:Int),mb p dd w',M,())))\/
    (ej p m (i+1) w s=Y/\∃R,fu F ((s:Int),(i:Int),mb p dd w,M,()) (.ret R (0,J,()))):=by
   intro r B h1 h2;rw[B]at q t;have o:Ev (λn=>F n ((s:Int),(i:Int),mb p dd w,M,())) (.next ((s:Int),((i+1:Nat):Int),mb p dd w,M,())):=by refine Ev.n9 (λn=>(j n _).trans (nR (show(i:Int)<(w.aY.length:Int)by omega) _ _)) ?_;refine Ev.aj q (Ev.aj t (bC λn=>?_));rw[h1,h2];simp(disch:=omega)only[aV,bQ,fK,fM]<;>rfl
   cases m with
   |zero=>refine .inl ⟨w,s,rfl,.next o (.out (bC λn=>?_))⟩;rw[j,show((i+1:Nat):Int)=(N0:Int)by omega];exact uL (show(w.aY.length:Int)<=(N0:Int)by omega) _ _
   |succ m=>
    have C:=wN u F j (m+1) 5002 (i+1) w s l (by omega) x y (by omega) (by omega);obtain⟨w',s',a,b⟩|⟨a,R,b⟩:=C
    .exact .inl ⟨w',s',a,.next o b⟩
    .exact .inr ⟨a,R,.next o b⟩
  unfold A0;cases f:ig p w (i:Int)with
  |none=>exact g Y f rfl rfl|some r=>
   obtain⟨w1,e⟩:=r;cases e with
   |some e=>exact g (Z (w1,Z e)) f rfl rfl|none=>
    rw[f]at q t;obtain⟨E,K,P⟩:=si u l (by omega) (by omega) f;simp only;by_cases h5:5000<s+1;rw[bH h5];refine .inr ⟨rfl,(mb p dd w,M,()),.ret ?_⟩;refine Ev.n9 (λn=>(j n _).trans (nR (show(i:Int)<(w.aY.length:Int)by omega) _ _)) ?_;refine Ev.aj q (Ev.aj t (bC λn=>?_));simp(disch:=omega)only[aV,JZ,bQ]<;>rfl
    .rw[bS h5];have o:Ev (λn=>F n ((s:Int),(i:Int),mb p dd w,M,())) (.next (((s+1:Nat):Int),(i:Int),mb p dd w1,M,())):=by refine Ev.n9 (λn=>(j n _).trans (nR (show(i:Int)<(w.aY.length:Int)by omega) _ _)) ?_;refine Ev.aj q (Ev.aj t (bC λn=>?_));simp(disch:=omega)only[aV,JZ,bQ,fK,fM]<;>rfl
     obtain⟨w',s',a,b⟩|⟨a,R,b⟩:=wN u F j (m+1) k i w1 (s+1) E v (by grind) (by omega) (by omega) (by omega)
     .exact .inl ⟨w',s',a,.next o b⟩
     .exact .inr ⟨a,R,.next o b⟩
termination_by m k=>(m,k)
variable {s:Nat}
def e48(d:pX p dd)(e:jr p dd w)(hs:s<=5001) :
  (∃w' s',ej p w.aY.length 0 w s=Z (w',s')/\Ev (λn=>F48 n (mb p dd w,M,(s:Int),())) (((s':Int),W,()),mb p dd w',M,()))\/
  (ej p w.aY.length 0 w s=Y/\∃R,Ev (λn=>F48 n (mb p dd w,M,(s:Int),())) ((0,J,()),R)):=by
 by_cases f:w.aY.length=0;refine .inl ⟨w,s,by rw[f];rfl,Ev.bp (F:=λn c=>_) (.out (j:=0) (y:=((s:Int),(0:Int),mb p dd w,M,())) (bC λn=>?_)) (λn c=>_) _ dg⟩;exact uL (show(w.aY.length:Int)<=(0:Int)by omega) _ _;have key:=wN (M:=M) d (N0:=w.aY.length) (λn c=>_) (λn c=>rfl) w.aY.length 5002 0 w s e (by omega) rfl hs (by omega) (by omega);obtain⟨m,g⟩:∃m,w.aY.length=m+1:=⟨w.aY.length-1,by omega⟩;rw[g]at key ⊢;obtain⟨w',s',a,b⟩|⟨a,R,b⟩:=key
 exact .inl ⟨w',s',a,Ev.bp (F:=λn c=>_) b (λn c=>_) _ dg⟩;exact .inr ⟨a,R,Ev.bp (F:=λn c=>_) b (λn c=>_) _ dg⟩
abbrev Z12:=L bG×L Int×L ec×L Int×Int×Int×Int×Int×Int×Int×Int×U
def flat(d:bq):Z12:=(d.1.1,d.1.2,d.1.3,d.1.4,d.1.5,d.2,d.3.1,d.3.2,d.3.3,d.3.4.1,d.3.4.2,())
abbrev Z5:=L bG×L Int×L ec×L Int×Int×U
abbrev w5(w:ai):Z5:=(w.aQ,w.aY,w.mg,w.dJ,w.Used,())
theorem Qi(h:pX p dd){z:Z5}(F:Nat->Int×Z5×Z5×Z12×U->O (LO (Int×Z5×Z5×Z12×U) (Int×aa×U) (Z5×Z5×Z12×U) Any))
  (d:∀n e,F n e=ak (af e.2.2.2.1.2.2.2.2.2.1 0) (ak (aG 5000 (aJ .i64 e.1 1)) (Z (X (e.2.1,e.2.1,e.2.2.2) (aJ .i64 e.1 1,J,()))) (aj (F37 n (⟨p,dd⟩,ai.mk e.2.2.2.1.1 e.2.2.2.1.2.1 e.2.2.2.1.2.2.1 e.2.2.2.1.2.2.2.1 e.2.2.2.1.2.2.2.2.1,at_,())) λg=>Z (N (aJ .i64 e.1 1,(e.2.2.2.1.1,e.2.2.2.1.2.1,e.2.2.2.1.2.2.1,e.2.2.2.1.2.2.2.1,e.2.2.2.1.2.2.2.2.1,()),e.2.2.1,Lz g)))) (Z (H 0 e))) :
  ∀(k:Nat)(w:ai)(s:Nat),jr p dd w->0<=at_->at_<w.aY.length->s<=5001->5002<=k+s->
  (∃w' s' q,A0 p at_ k w s=Z (w',s')/\fu F ((s:Int),w5 w,z,flat (Dm w (ig p w at_)),()) (.out 0 ((s':Int),w5 w',z,q,())))\/
  (A0 p at_ k w s=Y/\∃R s',fu F ((s:Int),w5 w,z,flat (Dm w (ig p w at_)),()) (.ret R (s',J,())))
 |0,w,s,j,f,h1,o,t=>by omega
 |k+1,w,s,j,f,h1,o,t=>by
  unfold A0;cases i:ig p w at_ with
  |none=>refine .inl ⟨w,s,flat (Dm w Y),rfl,.out (bC λn=>?_)⟩;rw[d];simp(disch:=omega)only[aV,flat,Dm]<;>rfl|some r=>
   obtain⟨c,e⟩:=r;cases e with
   |some e=>refine .inl ⟨w,s,flat (Dm w (Z (c,Z e))),rfl,.out (bC λn=>?_)⟩;rw[d];simp(disch:=omega)only[aV,flat,Dm]<;>rfl|none=>
    obtain⟨l,v,x⟩:=si h j f h1 i;simp only;by_cases h5:5000<s+1;rw[bH h5];refine .inr ⟨rfl,(w5 w,w5 w,flat (Dm w (Z (c,Y))),()),((s+1:Nat):Int),.ret (bC λn=>?_)⟩;rw[d];simp(disch:=omega)only[aV,flat,Dm,bQ,fK,fM]<;>rfl
    .rw[bS h5];have u:=d37 h l f (show at_<c.aY.length by grind);have m:Ev (λn=>F n ((s:Int),w5 w,z,flat (Dm w (Z (c,Y))),())) (.next (((s+1:Nat):Int),w5 c,z,flat (Dm c (ig p c at_)),())):=by refine Ev.n9 (g:=λn=>aj (F37 n (⟨p,dd⟩,c,at_,())) λg=>Z (N ((s:Int)+1,w5 c,z,Lz g))) (λn=>?_) (Ev.aj u (bC λn=>?_));rw[d];simp(disch:=omega)only[aV,flat,Dm,bQ,fK,fM]<;>rfl;rfl
     obtain⟨w',s',q,a,b⟩|⟨a,R,s',b⟩:=Qi h F d k c (s+1) l f (by grind) (by omega) (by omega)
     .exact .inl ⟨w',s',q,a,.next m b⟩
     .exact .inr ⟨a,R,s',.next m b⟩
theorem KQ(k:pX p dd){N0:Nat}{z:Z5}(F:Nat->Int×Int×Z5×Z5×U->O (LO (Int×Int×Z5×Z5×U) (Int×aa×U) (Z5×Z5×U) Any))
  (l:∀n c,F n c=ak (aG c.2.1 (au c.2.2.1.2.1)) (aj (F37 n (⟨p,dd⟩,ab7 c,c.2.1,())) λd=>aj (iter (λe:Int×Z5×Z5×Z12×U=>ak (af e.2.2.2.1.2.2.2.2.2.1 0) (ak (aG 5000 (aJ .i64 e.1 1)) (Z (X (P:=Any) (e.2.1,e.2.1,e.2.2.2) (aJ .i64 e.1 1,J,()))) (aj (F37 n (⟨p,dd⟩,ai.mk e.2.2.2.1.1 e.2.2.2.1.2.1 e.2.2.2.1.2.2.1 e.2.2.2.1.2.2.2.1 e.2.2.2.1.2.2.2.2.1,c.2.1,())) λg=>Z (N (aJ .i64 e.1 1,(e.2.2.2.1.1,e.2.2.2.1.2.1,e.2.2.2.1.2.2.1,e.2.2.2.1.2.2.2.1,e.2.2.2.1.2.2.2.2.1,()),e.2.2.1,Lz g)))) (Z (H 0 e))) n (c.1,c.2.2.1,c.2.2.2.1,Lz d)) λe=>bU e (λ_ h=>Z (N (h.1,aJ .i64 c.2.1 1,h.2.1,h.2.2.1,()))) (λg h=>Z (X (g.1,g.2.1,()) h)) λ_ _=>Y) (Z (H 0 c))) :
  ∀(m i:Nat)(w:ai)(s:Nat),jr p dd w->i+m=N0->N0=w.aY.length->s<=5001->
  (∃w' s',ej p m i w s=Z (w',s')/\fu F ((s:Int),(i:Int),w5 w,z,()) (.out 0 ((s':Int),(N0:Int),w5 w',z,())))\/
  (ej p m i w s=Y/\∃R s',fu F ((s:Int),(i:Int),w5 w,z,()) (.ret R (s',J,())))
 |0,i,w,s,f,v,A,r=>by
  refine .inl ⟨w,s,rfl,?_⟩;have:i=N0:=by omega
  subst this;refine .out (bC λn=>?_);rw[l];simp(disch:=omega)only[aV]<;>rfl
 |m+1,i,w,s,f,v,A,r=>by
  have E:=f.tl;have B:=f.len;have t:=d37 (a:=(i:Int)) k f (by omega) (by omega);unfold ej;obtain⟨o,j,q,a,b⟩|⟨a,R,j,b⟩:=Qi (at_:=(i:Int)) (z:=z) k _ (λn d=>rfl) 5002 w s f (by omega) (by omega) r (by omega)
  .rw[a];obtain⟨C,I,K,S⟩:=Fs k _ w s o j f (by omega) (by omega) a;have u:Ev (λn=>F n ((s:Int),(i:Int),w5 w,z,())) (.next ((j:Int),((i+1:Nat):Int),w5 o,z,())):=by refine Ev.n9 (λn=>(l n _).trans (nR (by simp only[au];omega) _ _)) ?_;refine Ev.aj t ?_;refine Ev.bp b (λn c=>_) _ (bC λn=>?_);rw[lP];simp(disch:=omega)only[aV,bQ,fK,fM]
   obtain⟨w',s',x,y⟩|⟨x,R,s',y⟩:=KQ (N0:=N0) (z:=z) k F l m (i+1) o j C (by omega) (by grind) (by omega)
   .exact .inl ⟨w',s',x,.next u y⟩
   .exact .inr ⟨x,R,s',.next u y⟩
  rw[a];refine .inr ⟨rfl,(R.1,R.2.1,()),j,.ret ?_⟩;refine Ev.n9 (λn=>(l n _).trans (nR (by simp only[au];omega) _ _)) ?_;refine Ev.aj t ?_;refine Ev.bp b (λn c=>_) _ (bC λn=>?_);rw[ait]
def e29(d:pX p dd)(e:jr p dd w)(hs:s<=5001) :
  (∃w' s',ej p w.aY.length 0 w s=Z (w',s')/\Ev (λn=>F29 n (⟨p,dd⟩,w,(s:Int),())) ((w',(s':Int),W,()),()))\/
  (ej p w.aY.length 0 w s=Y/\∃w' s',Ev (λn=>F29 n (⟨p,dd⟩,w,(s:Int),())) ((w',s',J,()),())):=by
 obtain⟨w',s',a,b⟩|⟨a,R,s',b⟩:=KQ d (N0:=w.aY.length) (z:=([],[],[],[],0,())) _ (λn c=>rfl) w.aY.length 0 w s e (by omega) rfl hs
 exact .inl ⟨w',s',a,Ev.bp (F:=λn c=>_) b (λn c=>_) _ dg⟩;exact .inr ⟨a,_,s',Ev.bp (F:=λn c=>_) b (λn c=>_) _ dg⟩
end
end Mn
end
