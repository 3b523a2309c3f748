/- The statement MeanSame of hearthlaw06 holds for all programs, worlds and picks: the law's function returns true at each of them, whatever the sizes are. -/
import Derived.Test.YtdddliieplcejaaGreatW011
import Derived.Test.YtdddliieplcejaaGreatW5
set_option linter.all false
set_option maxRecDepth 100000
set_option maxHeartbeats 0
noncomputable section
open Option renaming some->Z,none->Y
open Bool renaming true->W,false->J
open Nat renaming beq->Nq,ble->Nl,blt->Nt,succ->Ns,add->Na
open TL.LO renaming next->N,ret->X,out->H
open TL.Rx renaming ok->G,hU->M
section
namespace Mn
open Go TL
section
def akY{a b:av}(h:a.Env.length<=1000∧a.bg.length<=1000):∃e,Ev (λn=>F134 n (a,b,())) ((e,()),())∧(e=W↔a=b):=by
 have no:¬a=b->(((@decide (a=b) (Classical.propDecidable _)),()),())=((J,()),()):=λh=>by rw[@gR _ (_) h]
 refine⟨@decide (a=b) (Classical.propDecidable _),?_,by simp⟩;unfold F134;by_cases h1:a.Node=b.Node;rotate_left
 .rw[no λh=>h1 (by rw[h])]
  simp_all[aY,lq]
 refine Ev.fR (λn=>n8 h1 _ _) ?_;refine Ev.VX (l:=a.Env) (m:=b.Env) aA (λn a b c=>au (aq (bP (aa a.1 b.1) (bP (aa a.2 b.2) W))) (Z (X () (J,()))) (Z (N (aE .i64 c.1 1,())))) (λn c=>rfl) h.1 (λa _ b _=>⟨_,abv,λi d=>iY _ i d⟩) (λh2=>?_) (λh2=>?_)
 .refine Ev.fR (g:=λn=>Sk n (a,b,())) (λn=>rfl) ?_;refine Ev.VX (l:=a.bg) (m:=b.bg) aA (λn a b c=>au (aq (bP (aa a.1 b.1) (bP (aa a.2 b.2) W))) (Z (X () (J,()))) (Z (N (aE .i64 c.1 1,())))) (λn c=>rfl) h.2 (λa _ b _=>⟨_,abv,λi d=>iY _ i d⟩) (λh3=>?_) (λh3=>?_)
  .rw[@gw _ (_) (Zr.2 ⟨h1,h2,h3⟩)];exact bO
  .rw[no λh=>h3 (by rw[h])];exact⟨bO,bO⟩
 .rw[no λh=>h2 (by rw[h])];exact⟨bO,bO⟩
def ara{a b:aB}(h:SmO a):∃e,Ev (λn=>F79 n (a,b,())) ((e,()),())∧(e=W↔a=b):=by
 have no:¬a=b->(((@decide (a=b) (Classical.propDecidable _)),()),())=((J,()),()):=λh=>by rw[@gR _ (_) h]
 refine⟨@decide (a=b) (Classical.propDecidable _),?_,by simp⟩;by_cases h1:a.Form=b.Form;rotate_left
 .rw[no λh=>h1 (by rw[h])];exact aY λn=>(lq h1 _ _).trans rfl
 refine Ev.fR (λn=>n8 h1 _ _) ?_;by_cases h2:a.N=b.N;rotate_left
 .rw[no λh=>h2 (by rw[h])];exact aY λn=>(lq h2 _ _).trans rfl
 refine Ev.fR (λn=>n8 h2 _ _) ?_;refine Ev.VX (l:=a.bg) (m:=b.bg) aA (λn a b c=>au (aq (bP (aa a.1 b.1) (bP (aa a.2 b.2) W))) (Z (X () (J,()))) (Z (N (aE .i64 c.1 1,())))) (λn c=>rfl) h.v (λa _ b _=>⟨_,abv,λi d=>iY _ i d⟩) (λh3=>?_) (λh3=>?_)
 .refine Ev.fR (g:=λn=>aaF n (a,b,())) (λn=>rfl) ?_;refine Ev.VX (l:=a.Frames) (m:=b.Frames) aH (λn a b c=>ai (F134 n (a,b,())) λh=>au (aq h.1.1) (Z (X () (J,()))) (Z (N (aE .i64 c.1 1,())))) (λn c=>rfl) h.f (λf j g p=>?_) (λh4=>?_) (λh4=>?_)
  .let ⟨e,k,o⟩:=akY (a:=f) (b:=g) (h.e f j)
   exact⟨e,o,λi d=>Ev.ai k (iY e i d)⟩
  .rw[@gw _ (_) (aiN.2 ⟨h1,h2,h3,h4⟩)];exact bO
  .rw[no λh=>h4 (by rw[h])];exact⟨bO,bO⟩
 .rw[no λh=>h3 (by rw[h])];exact⟨bO,bO⟩
section
variable {w x:af}{p:az}
noncomputable abbrev OP(w x:af):Bool:=@decide (w=x) (Classical.propDecidable _)
def ab9(h:¬w=x):((OP w x,(0:Int),()),())=((J,0,()),()):=by rw[show OP w x=J from @gR _ (_) h]
def akS(d:aas w)(h1:w.aJ=x.aJ)(h2:w.aM=x.aM)(h3:w.ei=x.ei):Ev (λn=>aaM n ((w,0,()),()) ((x,0,()),())) ((OP w x,0,()),()):=by
 refine Ev.VX (l:=w.lK) (m:=x.lK) (0:Int) (λn a b c=>au (aq (aa a b)) (Z (X () (J,()))) (Z (N (aE .i64 c.1 1,())))) (λn c=>rfl) d.i (λa _ b _=>⟨aa a b,lA,λi e=>iY _ i e⟩) (λh=>?_) (λh=>?_)
 .have:OP w x=aa w.Used x.Used:=by
   rw[Nn,@decide_eq_true_iff _ (Classical.propDecidable _),lA,WM]
   simp_all
  rw[this];exact bO
 .rw[ab9 λf=>h (by rw[f])];exact⟨bO,bO⟩
def akR(d:aas w)(h1:w.aJ=x.aJ)(h2:w.aM=x.aM):Ev (λn=>aaL n ((w,0,()),()) ((x,0,()),())) ((OP w x,0,()),()):=by
 refine Ev.VX (l:=w.ei) (m:=x.ei) eS (λn a b c=>au (aq (bP (aa a.1 b.1) (bP (aa a.2 b.2) W))) (Z (X () (J,()))) (Z (N (aE .i64 c.1 1,())))) (λn c=>rfl) d.u (λa _ b _=>⟨_,aiK,λi e=>iY _ i e⟩) (λh=>?_) (λh=>?_)
 .exact Ev.fR (λn=>rfl) (akS d h1 h2 h)
 .rw[ab9 λf=>h (by rw[f])];exact⟨bO,bO⟩
def akQ(d:aas w)(h1:w.aJ=x.aJ):Ev (λn=>PB n ((w,0,()),()) ((x,0,()),())) ((OP w x,0,()),()):=by
 refine Ev.VX (l:=w.aM) (m:=x.aM) (0:Int) (λn a b c=>au (aq (aa a b)) (Z (X () (J,()))) (Z (N (aE .i64 c.1 1,())))) (λn c=>rfl) d.t (λa _ b _=>⟨aa a b,lA,λi e=>iY _ i e⟩) (λh=>?_) (λh=>?_)
 .exact Ev.fR (λn=>rfl) (akR d h1 h)
 .rw[ab9 λf=>h (by rw[f])];exact⟨bO,bO⟩
def e41(hs:Small p)(j:nw w)(k:nw x){r:(Bool×Int×U)×U}(h1:FP p∧eE p w∧eE p x->((OP (kC w) (kC x),0,()),())=r)
  (h2:¬(FP p∧eE p w∧eE p x)->((J,2,()),())=r):Ev (λn=>F41 n (p,w,x,())) r:=by
 by_cases d:FP p∧eE p w;rotate_left
 .rw[<-h2 λh=>d ⟨h.1,h.2.1⟩];by_cases f:FP p∧eE p x
  .exact Ev.ai (e28 hs j (λh=>absurd h d) λ_=>rfl) (Ev.ai (e28 hs k (λ_=>rfl) λh=>absurd f h) bO)
  .exact Ev.ai (e28 hs j (λh=>absurd h d) λ_=>rfl) (Ev.ai (e28 hs k (λh=>absurd h f) λ_=>rfl) bO)
 by_cases f:FP p∧eE p x;rotate_left
 .rw[<-h2 λh=>f ⟨h.1,h.2.2⟩];exact Ev.ai (e28 hs j (λ_=>rfl) λh=>absurd d h) (Ev.ai (e28 hs k (λh=>absurd h f) λ_=>rfl) bO)
 rw[<-h1 ⟨d.1,d.2,f.2⟩];refine Ev.ai (e28 hs j (λ_=>rfl) λh=>absurd d h) (Ev.ai (e28 hs k (λ_=>rfl) λh=>absurd f h) ?_);have o:=X0 d.1.ok d.2;refine Ev.VX (l:=(kC w).aJ) (m:=(kC x).aJ) aO (A:=λn=>yJ n) (g:=λn e=>bp e (λ_ _=>PB n ((kC w,0,()),()) ((kC x,0,()),())) (λ_ h=>au h.1 (PB n ((kC w,0,()),()) ((kC x,0,()),())) (yJ n)) λ_ _=>Y) (λn a b c=>ai (F79 n (a,b,())) λh=>au (aq h.1.1) (Z (X () (J,()))) (Z (N (aE .i64 c.1 1,())))) (λn c=>rfl) o.o (λa q b y=>?_) (λh=>?_) (λh=>?_)
 .let ⟨e,s,t⟩:=ara (a:=a) (b:=b) (o.s a q)
  exact⟨e,t,λi u=>Ev.ai s (iY e i u)⟩
 .exact Ev.fR (λn=>rfl) (akQ o h)
 .rw[ab9 λv=>h (by rw[v])];exact⟨bO,bO⟩
end
end
section
section
variable {p:az}{w:af}{r:List Int}{g:Int->Int}{v u:aj}{o:aB}
theorem Lo{a b:Int}(h:a≠b):aa a b=J:=Bool.eq_false_iff.2 λc=>h (lA.1 c)
def pz:(de g u).Kind=u.Kind:=by unfold de;cases aa u.Kind 5<;>rfl
theorem g7(h:u.Kind≠5):de g u=u:=by unfold de;rw[Lo h];rfl
theorem jC(h:u.Kind=5):de g u=⟨5,g u.N⟩:=by unfold de;rw[lA.2 h,h];rfl
theorem qg:jo (de g u)=jo u:=by
 grind[jC,jo,g7]
theorem EL{c:aj}(a:c.Kind≠5):qF (de g u) c=qF u c:=by
 by_cases h:u.Kind=5
 .rw[jC h];unfold qF
  grind
 .rw[g7 h]
variable {l:List aj}{form x y:Int}
def w4{n:Nat}:bE (l.map (de g)) n=de g (bE l n):=by unfold bE;rw[tH,tH,kN];cases l[n]?<;>rfl
def s8(r:L Int)(u:aj):Prop:=u.Kind=5->u.N∈r
def zO(r:L Int)(f:av):Prop:=(∀u∈f.Env,s8 r u)∧∀u∈f.bg,s8 r u
def N5(r:L Int)(o:aB):Prop:=(∀u∈o.bg,s8 r u)∧∀f∈o.Frames,zO r f
def nF(h:u.Kind≠5):s8 r u:=λa=>absurd a h
theorem Gv{l:L aj}(h:∀u∈l,s8 r u){n:Nat}:s8 r (bE l n):=by unfold bE;rw[tH];cases b:l[n]? with|none=>exact nF (by decide)|some a=>grind
abbrev gO(r:L Int)(x:Int):Int:=(nS r x:Int)
def dV(r:L Int)(w:af):af:=⟨r.map (λn=>fN (gO r) (bI w n)),w.aM.map (gO r),w.ei,w.lK,w.Used⟩
structure ou(r:List Int)(w:af):Prop where
 ok:Ef w.aJ.length r
 tk:∀t∈w.aM,t∈r
 cl:∀x∈r,N5 r (bI w x)
theorem AE:∀{l:L Int}{x:Int},x∈l->l[nS l x]?=Z x
 |a::l,x,h=>by
  unfold nS;by_cases b:a=x
  .rw[lA.2 b,b];rfl
  .rw[Lo b];exact AE ((fy.1 h).resolve_left λh=>b h.symm)
theorem N9{l:L Int}{x y:Int}(a:x∈l)(b:y∈l)(h:nS l x=nS l y):x=y:=by
 grind[AE]
theorem Lr{l:L Int}{x:Int}(h:x∈l):nS l x<l.length:=by
 grind[AE]
theorem N7{l:L Int}(a:l.Nodup){i:Nat}{x:Int}(h:l[i]?=Z x):nS l x=i:=by
 grind[Tt,List.pairwise_iff_getElem]
def mw:(dV r w).aJ.length=r.length:=rH _
theorem o7{x:Int}(h:x∈r):bI (dV r w) (gO r x)=fN (gO r) (bI w x):=by
 show(r.map λn=>fN (gO r) (bI w n)).getD (nS r x:Int).toNat aO=_
 grind[AE]
def mB(b:s8 r v):eV (dV r w) (de (gO r) v) form=(eV w v form).map (fN (gO r)):=by
 unfold eV;by_cases h5:v.Kind=5
 .rw[jC h5];rw[o7 (b h5)];by_cases h:(bI w v.N).Form=form
  .rw[cn ⟨rfl,h⟩,cn ⟨h5,h⟩];rfl
  .rw[bJ (λa=>h a.2),bJ (λa=>h a.2)];rfl
 simp_all[g7]
def lu(h:ou r w)(c:s8 r v)(a:eV w v form=Z o):N5 r o∧v.Kind=5:=by
 unfold eV at a;split at a
 .rename_i b;cases a;exact⟨h.cl _ (c b.1),b.1⟩
 .cases a
theorem J7{f:aj}(hf:s8 r f):fI p (dV r w) (de (gO r) f) (de (gO r) v)=(fI p w f v).map (eF (gO r)):=by
 unfold fI;by_cases h4:f.Kind=4
 .rw[g7 (by omega),cn h4,cn h4];rfl
 .rw[pz,bJ h4,bJ h4,mB hf]
  grind[eF,fN]
def O5(h:ou r w){f:aj}(hf:s8 r f)(e:s8 r v){b:av}(c:fI p w f v=Z b):zO r b:=by
 have one:∀u∈[v],s8 r u:=λu a=>by simp_all
 unfold fI at c;split at c
 .cases c;exact⟨one,λu a=>by cases a⟩
 .cases d:eV w f 2 with|none=>simp_all|some o=>rw[d]at c;cases c;have:=(lu h hf d).1.1;exact⟨λu a=>(dW.1 a).elim (this u) (one u),λu a=>by cases a⟩
mutual
theorem Vj(h:ou r w):∀(q:aG)(v:aj),s8 r v->fZ (dV r w) q (de (gO r) v)=(fZ w q v).map (List.map (de (gO r)))
 |⟨form,n,text,parts⟩,v,b=>by
  unfold fZ;rw[mB b,EL (c:=gf n) (by simp[gf]),EL (c:=gK (n==1)) (by simp[gK]),EL (c:=ej) (by decide)];by_cases h1:form=1
  .simp_all
  rw[bJ h1,bJ h1];by_cases h2:form=2
  .simp_all
  rw[bJ h2,bJ h2];by_cases h3:form=3
  .rw[cn h3,cn h3];cases qF v (gf n)<;>rfl
  rw[bJ h3,bJ h3];by_cases h4:form=4
  .rw[cn h4,cn h4];cases qF v (gK (n==1))<;>rfl
  rw[bJ h4,bJ h4];by_cases h5:form=5
  .rw[cn h5,cn h5];cases qF v ej<;>rfl
  rw[bJ h5,bJ h5];cases d:eV w v 1 with|none=>rfl|some o=>show(if o.N≠n∨(o.bg.map (de (gO r))).length≠parts.length then Y else e8 (dV r w) parts (o.bg.map (de (gO r))))=Option.map _ (if _ then _ else _);rw[rH,qx1 h parts o.bg (lu h b d).1.1];split<;>rfl
theorem qx1(h:ou r w):∀(qs:L aG)(vs:L aj),(∀v∈vs,s8 r v)->e8 (dV r w) qs (vs.map (de (gO r)))=(e8 w qs vs).map (List.map (de (gO r)))
 |[],vs,_=>by cases vs<;>rfl
 |_::_,[],_=>rfl|q::qs,v::vs,b=>by
  rw[kW];unfold e8;rw[Vj h q v (b v fA),qx1 h qs vs (λv a=>b v (iB _ a))]
  grind
end
mutual
theorem Yj(h:ou r w):∀(q:aG)(v:aj)(l:L aj),s8 r v->fZ w q v=Z l->∀u∈l,s8 r u
 |⟨form,n,text,parts⟩,v,l,c,a=>by
  unfold fZ at a;split at a
  .simp_all
  split at a
  .grind
  split at a
  .simp_all
  split at a
  .simp_all
  split at a
  .simp_all
  split at a
  .cases a
  .rename_i o d;split at a
   .cases a
   .exact qx2 h parts o.bg l (lu h c d).1.1 a
theorem qx2(h:ou r w):∀(qs:L aG)(vs l:L aj),(∀v∈vs,s8 r v)->e8 w qs vs=Z l->∀u∈l,s8 r u
 |[],vs,l,_,c=>by grind[e8]
 |_::_,[],l,_,c=>by grind[e8]
 |q::qs,v::vs,l,f,c=>by
  unfold e8 at c;split at c
  .cases c
  .rename_i a g;split at c
   .cases c
   .rename_i b i;cases c;intro u d;obtain d|d:=dW.1 d
    .exact Yj h q v a (f v fA) g u d
    .exact qx2 h qs vs b (λv e=>f v (iB _ e)) i u d
end
def GF(h:x∈r):gO (r++[y]) x=gO r x:=by unfold gO;rw[Gw h]
theorem s8.app{y:Int}(h:s8 r v):s8 (r++[y]) v:=λh5=>fh _ (h h5)
def Ye(h:s8 r v):de (gO (r++[y])) v=de (gO r) v:=by
 by_cases h5:v.Kind=5
 .rw[jC h5,jC h5,GF (h h5)]
 .rw[g7 h5,g7 h5]
def Az(h:∀u∈l,s8 r u):l.map (de (gO (r++[y])))=l.map (de (gO r)):=Af λu a=>Ye (h u a)
theorem zO.app{y:Int}{f:av}(h:zO r f):zO (r++[y]) f:=⟨λu a=>(h.1 u a).app,λu a=>(h.2 u a).app⟩
def Yf{f:av}(h:zO r f):eF (gO (r++[y])) f=eF (gO r) f:=by unfold eF;rw[Az h.1,Az h.2]
def AB{l:L av}(h:∀u∈l,zO r u):l.map (eF (gO (r++[y])))=l.map (eF (gO r)):=Af λu a=>Yf (h u a)
theorem N5.app{y:Int}(h:N5 r o):N5 (r++[y]) o:=⟨λu a=>(h.1 u a).app,λu a=>(h.2 u a).app⟩
def NR(h:N5 r o):fN (gO (r++[y])) o=fN (gO r) o:=by unfold fN;rw[Az h.1,AB h.2]
abbrev nh(w:af):Int:=(w.aJ.length:Int)
def ou.new(h:ou r w):nh w∉r:=λa=>by have:=(h.ok.2 _ a).2;simp_all
def T7(a:0<=x)(h1:x<w.aJ.length):bI (dZ w o) x=bI w x:=by show(w.aJ++[o]).getD x.toNat aO=w.aJ.getD x.toNat aO;rw[tH,tH,Xr (by omega)]
def T8:bI (dZ w o) (nh w)=o:=by
 show(w.aJ++[o]).getD (w.aJ.length:Int).toNat aO=o
 simp_all
theorem ou.add(h:ou r w)(g:N5 r o):ou (r++[nh w]) (dZ w o)∧dV (r++[nh w]) (dZ w o)=dZ (dV r w) (fN (gO r) o):=by
 have m:(dZ w o).aJ.length=w.aJ.length+1:=by simp[dZ]
 refine⟨⟨⟨?_,?_⟩,?_,?_⟩,?_⟩
 .rw[Qr];refine⟨h.ok.1,by simp,λa i b j=>?_⟩;rw[oa.1 j];exact λe=>h.new (e▸i)
 .intro x c;obtain c|c:=dW.1 c
  .have:=h.ok.2 x c;omega
  grind
 .exact λt d=>fh _ (h.tk t d)
 .intro x c;obtain c|c:=dW.1 c
  .have:=h.ok.2 x c;rw[T7 this.1 this.2];exact(h.cl x c).app
  .rw[oa.1 c,T8];exact g.app
 .show (⟨_,_,_,_,_⟩:af)=⟨_,_,_,_,_⟩;have k:(r++[nh w]).map (λn=>fN (gO (r++[nh w])) (bI (dZ w o) n))=r.map (λn=>fN (gO r) (bI w n))++[fN (gO r) o]:=by
   rw[u0]
   congr 1
   .refine Af λn f=>?_;have:=h.ok.2 n f;rw[T7 this.1 this.2,NR (h.cl n f)]
   simp_all[T8,NR]
  have l:w.aM.map (gO (r++[nh w]))=w.aM.map (gO r):=Af λt d=>GF (h.tk t d);rw[k];show(⟨_,w.aM.map (gO (r++[nh w])),_,_,_⟩:af)=_;rw[l];rfl
def KU(h:ou r w):de (gO (r++[nh w])) (pT (nh w))=pT (dV r w).aJ.length:=by rw[jC rfl,mw];show(⟨5,(nS (r++[nh w]) (nh w):Int)⟩:aj)=_;rw[AD h.new];rfl
theorem ou.set(h:ou r w){x:Int}(c:x∈r)(g:N5 r o):ou r (iN w x o)∧dV r (iN w x o)=iN (dV r w) (gO r x) (fN (gO r) o):=by
 have j:(iN w x o).aJ.length=w.aJ.length:=by simp[iN]
 have k:=h.ok.2 x c;have d:∀n∈r,bI (iN w x o) n=if n=x then o else bI w n:=λn a=>by
  have:=h.ok.2 n a
  simp_all[sr]
 refine⟨⟨by rw[j];exact h.ok,h.tk,λn a=>?_⟩,?_⟩
 .rw[d n a];split
  .exact g
  .exact h.cl n a
 .have l:r.map (λn=>fN (gO r) (bI (iN w x o) n))=(r.map (λn=>fN (gO r) (bI w n))).set (gO r x).toNat (fN (gO r) o):=by
   refine UO λi=>?_;rw[Fl,Qt,kN,kN,rH];cases f:r[i]? with
   |none=>
    simp_all
   |some n=>
    have a:=hJ f;have b:=N7 h.ok.1 f;by_cases e:n=x
    .subst e;rw[cn b,cn (Lr c)];show Z (fN (gO r) (bI (iN w n o) n))=_;rw[d n a,cn rfl]
    .rw[bJ λm=>e (N9 a c (b.trans m.symm))];show Z (fN (gO r) (bI (iN w x o) n))=Z (fN (gO r) (bI w n));rw[d n a,bJ e]
  show(⟨r.map (λn=>fN (gO r) (bI (iN w x o) n)),_,_,_,_⟩:af)=_;rw[l];rfl
end
end
section
section
variable {p:az}{w w1:af}{r r1:List Int}{v u:aj}{o:aB}{left:List av}{R R':mV}{at_:Int}
def RR(r:L Int):mV->mV->Prop
 |.fail s,R'=>s=4∨R'=.fail s|.waits,R'=>R'=.waits|.go b c d e,R'=>∃a,ou a b∧(∀x∈r,x∈a∧gO a x=gO r x)∧(∀f∈c,zO a f)∧(∀u∈d,s8 a u)∧R'=.go (dV a b) (c.map (eF (gO a))) (d.map (de (gO a))) e
theorem RR.sub(h:RR r1 R R')(hs:∀x∈r,x∈r1∧gO r1 x=gO r x):RR r R R':=by
 cases R with
 |fail s=>exact h|waits=>exact h|go g i j e=>
  let ⟨f,a,b,c⟩:=h
  exact⟨f,a,λx d=>⟨(b x (hs x d).1).1,(b x (hs x d).1).2.trans (hs x d).2⟩,c⟩
theorem RR.go(h:ou r w)(hl:∀f∈left,zO r f){bk:L aj}(a:∀u∈bk,s8 r u){e:O aN}:RR r (.go w left bk e) (.go (dV r w) (left.map (eF (gO r))) (bk.map (de (gO r))) e):=⟨r,h,λ_ h=>⟨h,rfl⟩,hl,a,rfl⟩
def jJ(h:s8 r u):∀x∈[u],s8 r x:=λx a=>by simp_all
theorem RR.back(h:ou r w)(hl:∀f∈left,zO r f)(a:s8 r v):RR r (fc w left v) (fc (dV r w) (left.map (eF (gO r))) (de (gO r) v)):=RR.go h hl (jJ a)
theorem RR.val(h:ou r w)(hl:∀f∈left,zO r f)(a:v.Kind≠5):RR r (fc w left v) (fc (dV r w) (left.map (eF (gO r))) v):=by have:=RR.back (v:=v) h hl (nF a);rwa [g7 a]at this
theorem RR.bad{s:Int}:RR r (.fail s) (.fail s):=.inr rfl
theorem RR.tM(h:ou r w)(hl:∀f∈left,zO r f){node:Int}{env:L aj}(c:∀u∈env,s8 r u):RR r (hG w left node env) (hG (dV r w) (left.map (eF (gO r))) node (env.map (de (gO r)))):=by
 unfold hG;rw[rH,rH];split
 .exact RR.bad
 .refine ⟨r,h,λ_ h=>⟨h,rfl⟩,λf a=>?_,(λu b=>by cases b),?_⟩
  .obtain a|a:=dW.1 a
   .exact hl f a
   .rw[oa.1 a];exact⟨c,λu b=>by cases b⟩
  .rw[u0];rfl
theorem RR.add(h:ou r w)(d:N5 r o)(hl:∀f∈left,zO r f){e:O aN}:RR r (.go (dZ w o) left [pT w.aJ.length] e) (.go (dZ (dV r w) (fN (gO r) o)) (left.map (eF (gO r))) [pT (dV r w).aJ.length] e):=by
 let ⟨a,b⟩:=h.add d
 refine⟨_,a,λx c=>⟨fh _ c,GF c⟩,λf g=>(hl f g).app,jJ λ_=>eO _ (oa.2 rfl),?_⟩
 simp_all[AB,KU]
theorem RR.made(h:ou r w)(a:N5 r o)(hl:∀f∈left,zO r f):RR r (jQ w left o) (jQ (dV r w) (left.map (eF (gO r))) (fN (gO r) o)):=by
 have:=h.ok.len;unfold jQ;by_cases h1:120<=w.aJ.length
 .rw[cn h1];exact .inl rfl
 .rw[bJ h1,bJ (by rw[mw];omega)];exact RR.add h a hl
variable {op n:Int}{env:List aj}
def RR.ev(h:RR r R R')(f:jo v=jo u):RR r (Zz at_ op n v R) (Zz at_ op n u R'):=by
 cases R with
 |fail s=>exact h.elim .inl λh=>.inr (by rw[h];rfl)
 |waits=>rw[h];rfl|go i j k e=>
  let ⟨g,a,b,c,d,e⟩:=h
  refine⟨g,a,b,c,d,?_⟩;rw[e];show mV.go _ _ _ (Z _)=_;rw[f]
def RR.apply(h:ou r w)(hl:∀f∈left,zO r f)(a:s8 r u)(c:s8 r v):RR r (rW p w left u v) (rW p (dV r w) (left.map (eF (gO r))) (de (gO r) u) (de (gO r) v)):=by
 unfold rW;rw[mB a,J7 a];cases d:eV w u 5 with
 |some o=>
  show RR r (if 40<left.length+o.Frames.length then _ else _) (if 40<(left.map (eF (gO r))).length+(o.Frames.map (eF (gO r))).length then mV.fail 4 else fc (dV r w) (left.map (eF (gO r))++o.Frames.map (eF (gO r))) _);rw[rH,rH,<-u0];split
  .exact RR.bad
  .exact RR.back h (λf e=>(dW.1 e).elim (hl f) ((lu h a d).1.2 f)) c
 |none=>
  cases g:fI p w u v with|none=>exact RR.bad|some b=>exact RR.tM h hl (O5 h a c g).1
theorem RR.count(h:ou r w)(hl:∀f∈left,zO r f){op:Int}:RR r (om w left op u v) (om (dV r w) (left.map (eF (gO r))) op (de (gO r) u) (de (gO r) v)):=by
 unfold om;rw[pz,pz];by_cases a:op=13
 .rw[cn a,cn a];by_cases b:u.Kind≠v.Kind∨3<u.Kind
  .rw[cn b,cn b];exact RR.bad
  .rw[bJ b,bJ b,g7 (by omega),g7 (by omega)];exact RR.val h hl (by simp[gK])
 .rw[bJ a,bJ a];by_cases b:u.Kind≠1∨v.Kind≠1
  .rw[cn b,cn b];exact RR.bad
  .rw[bJ b,bJ b,g7 (by omega),g7 (by omega)];by_cases c:op=12
   .simp_all[RR.val,gK]
   .rw[bJ c,bJ c];have key:∀n:Int,RR r (if gT n=W then fc w left (gf n)else .fail 4) (if gT n=W then fc (dV r w) (left.map (eF (gO r))) (gf n)else .fail 4):=λn=>by
     grind[RR.val,gf,RR.bad]
    exact key _
def RR.cases(h:ou r w)(hl:∀f∈left,zO r f){env:L aj}(c:∀u∈env,s8 r u)(b:s8 r u):∀(qs:L aG)(a:L Int),RR r (jy w left env u qs a) (jy (dV r w) (left.map (eF (gO r))) (env.map (de (gO r))) (de (gO r) u) qs a)
 |[],a=>by cases a<;>exact RR.bad
 |_::_,[]=>RR.bad|q::qs,k::a=>by
  unfold jy;rw[Vj h q u b];cases d:fZ w q u with
  |none=>exact RR.cases h hl c b qs a
  |some l=>have:=RR.tM (left:=left) (node:=k) (env:=env++l) h hl λx e=>(dW.1 e).elim (c x) (Yj h q u l b d x);rwa [u0]at this
def NY{f:av->av}{q:av->Bool}(hf:∀x,q (f x)=q x):∀l:L av,gm q (l.map f)=gm q l
 |[]=>rfl|a::l=>by rw[kW];unfold gm;rw[NY hf l,hf]
def RR.shift(h:ou r w)(hl:∀f∈left,zO r f){c:Int}(g:∀u∈env,s8 r u):RR r (rE p w left c env) (rE p (dV r w) (left.map (eF (gO r))) c (env.map (de (gO r)))):=by
 have i:=h.ok.len;unfold rE;rw[NY (f:=eF (gO r)) (λx=>rfl)];cases gm (λf:av=>(nodeAt p f.Node).Op==26) left with
 |none=>exact RR.bad|some k=>
  show RR r (if _ then _ else _) (if _ then _ else _);by_cases h1:120<=w.aJ.length
  .rw[cn h1];exact .inl rfl
  .rw[bJ h1,bJ (by rw[mw];omega)];have l:N5 r ⟨5,0,[],left.drop k⟩:=⟨λu m=>(by cases m),λf e=>hl f (S4 e)⟩
   let ⟨a,b⟩:=h.add l
   have j:∀f∈left.take (k+1),zO r f:=λf e=>hl f (Qv e);have:=RR.tM (left:=left.take (k+1)) (node:=c) (env:=env++[pT w.aJ.length]) a (λf e=>(j f e).app)
    (λx d=>(dW.1 d).elim (λd=>(g x d).app) (jJ (λ_=>eO _ (oa.2 rfl)) x))
   rw[b,AB j,u0,Az g,kW,Fs,KU h,SZ]at this;refine RR.sub ?_ (λx d=>⟨fh [nh w] d,GF d⟩);rw[<-List.map_drop];exact this
theorem RR.spawn(h:ou r w)(hl:∀f∈left,zO r f)(c:s8 r u):RR r (rD p w at_ left u) (rD p (dV r w) at_ (left.map (eF (gO r))) (de (gO r) u)):=by
 have g:=h.ok.len;have mk:∀o,N5 r o->RR r (if 120<=w.aJ.length then .fail 4 else .go ⟨w.aJ++[o],w.aM++[(w.aJ.length:Int)],w.ei,w.lK,w.Used⟩ left [pT w.aJ.length] (Z ⟨at_,19,0,ej⟩))
   (if 120<=(dV r w).aJ.length then .fail 4 else .go ⟨(dV r w).aJ++[fN (gO r) o],(dV r w).aM++[((dV r w).aJ.length:Int)],(dV r w).ei,(dV r w).lK,(dV r w).Used⟩ (left.map (eF (gO r))) [pT (dV r w).aJ.length] (Z ⟨at_,19,0,ej⟩)):=by
  intro o e;by_cases h1:120<=w.aJ.length
  .rw[cn h1];exact .inl rfl
  .rw[bJ h1,bJ (by rw[mw];omega)]
   let ⟨a,b⟩:=h.add e
   have m:nh w∈r++[nh w]:=eO _ (oa.2 rfl);refine⟨r++[nh w],⟨a.ok,λt i=>(dW.1 i).elim (a.tk t) λi=>by simp_all,a.cl⟩,λx j=>⟨fh _ j,GF j⟩,λf l=>(hl f l).app,jJ λ_=>m,?_⟩;have n:(dV (r++[nh w]) (dZ w o)).aJ=(dV r w).aJ++[fN (gO r) o]:=by rw[b];rfl
   have q:(dV (r++[nh w]) (dZ w o)).aM=(dV r w).aM:=by rw[b];rfl
   have s:gO (r++[nh w]) (nh w)=((dV r w).aJ.length:Int):=by rw[mw];unfold gO;rw[AD h.new]
   rw[AB hl,<-KU h,<-n,<-q,<-s];show _=mV.go ⟨_,(w.aM++[nh w]).map (gO (r++[nh w])),_,_,_⟩ _ _ _;rw[show(w.aM++[nh w]).map (gO (r++[nh w]))=w.aM.map (gO (r++[nh w]))++[gO (r++[nh w]) (nh w)]by simp_all];rfl
 unfold rD;rw[mB c];have d:=J7 (p:=p) (w:=w) (v:=ej) c;rw[g7 (u:=ej) (by decide)]at d;rw[d];cases e:eV w u 5 with
 |some k=>exact mk ⟨6,0,[ej],k.Frames⟩ ⟨jJ (nF (by decide)),(lu h c e).1.2⟩
 |none=>
  cases y:fI p w u ej with
  |none=>exact RR.bad|some b=>
   have z:=O5 h c (nF (by decide)) y;show RR r (if 30<b.Env.length then _ else _) (if 30<(b.Env.map (de (gO r))).length then _ else _);rw[rH];split
   .exact RR.bad
   .exact mk ⟨6,0,[],[b]⟩ ⟨λu c=>(by cases c),λf l=>by simp_all⟩
theorem RR.set(h:ou r w)(hl:∀f∈left,zO r f)(c:s8 r u)(h5:u.Kind=5)(d:N5 r o){bk:L aj}(g:∀u∈bk,s8 r u){e:O aN} :
  RR r (.go (iN w u.N o) left bk e) (.go (iN (dV r w) (de (gO r) u).N (fN (gO r) o)) (left.map (eF (gO r))) (bk.map (de (gO r))) e):=by
 let ⟨a,b⟩:=h.set (c h5) d
 rw[jC h5];refine⟨r,a,λ_ h=>⟨h,rfl⟩,hl,g,?_⟩;rw[b]
def RR.one(h:ou r w)(hl:∀f∈left,zO r f)(a:s8 r v):RR r (.go w left [v] (Z ⟨at_,op,n,jo v⟩)) (.go (dV r w) (left.map (eF (gO r))) [de (gO r) v] (Z ⟨at_,op,n,jo (de (gO r) v)⟩)):=by rw[qg];exact RR.go h hl (jJ a)
def afy{f:av}(c:Cx p w left f)(h:ou r w)(hl:∀f∈left,zO r f)(hf:zO r f):RR r (iS p w at_ left f) (iS p (dV r w) at_ (left.map (eF (gO r))) (eF (gO r) f)):=by
 have nd:=c.nd;have h1:=nd.lo;have h2:=nd.hi;obtain⟨k,q⟩:∃k:Nat,(nodeAt p f.Node).Op=k:=⟨_,(xH (by omega)).symm⟩;have j:1<=k:=by omega
 have m:k<=28:=by omega
 have s:(eF (gO r) f).Node=f.Node:=rfl;have t:(eF (gO r) f).bg=f.bg.map (de (gO r)):=rfl;have y:(eF (gO r) f).Env=f.Env.map (de (gO r)):=rfl;have v0:∀n,s8 r (bE f.bg n):=λn=>Gv hf.2;unfold iS;simp only[s,t,y,q,Fl,w4,rH]
 match k,q,j,m with
 |1,_,_,_=>exact RR.val h hl (by simp[gf])
 |2,_,_,_=>exact RR.val h hl (by simp[gK])
 |3,_,_,_=>exact RR.val h hl (by decide)
 |26,_,_,_=>exact RR.back h hl (v0 0)|4,_,_,_=>
  simp only;split
  .exact RR.val h hl (by simp)
  .split
   .exact RR.bad
   .exact RR.back h hl (Gv hf.1)
 |5,_,_,_=>exact RR.made (o:=⟨2,f.Node,f.Env,[]⟩) h ⟨hf.1,λf hf=>by cases hf⟩ hl
 |14,_,_,_=>exact RR.made (o:=⟨1,(nodeAt p f.Node).N,f.bg,[]⟩) h ⟨hf.2,λf hf=>by cases hf⟩ hl
 |6,_,_,_=>exact RR.apply h hl (v0 0) (v0 1)|7,_,_,_=>
  have:=RR.tM (left:=left) (node:=(nodeAt p f.Node).Kids.getD 1 0) (env:=f.Env++[bE f.bg 0]) h hl λx g=>(dW.1 g).elim (hf.1 x) (jJ (v0 0) x)
  simp_all
 |8,_,_,_=>
  simp only[pz];by_cases A:(bE f.bg 0).Kind=2
  .rw[bJ (by omega),bJ (by omega),g7 (u:=bE f.bg 0) (by omega)];exact RR.tM h hl hf.1
  simp_all[RR.bad]
 |9,_,_,_|10,_,_,_|11,_,_,_|12,_,_,_|13,_,_,_=>exact RR.count h hl|15,_,_,_=>exact RR.cases h hl hf.1 (v0 0) _ _
 |16,_,_,_=>exact RR.ev (RR.made (o:=⟨3,0,[bE f.bg 0],[]⟩) h ⟨jJ (v0 0),λf hf=>by cases hf⟩ hl) qg.symm
 |21,_,_,_=>exact RR.ev (RR.made (o:=⟨4,0,[],[]⟩) h ⟨(λf hf=>by cases hf),λf hf=>by cases hf⟩ hl) rfl
 |17,_,_,_=>
  unfold Ol;rw[mB (v0 0)];cases b:eV w (bE f.bg 0) 3 with|none=>exact RR.bad|some o=>show RR r (.go w left [bE o.bg 0] _) (.go _ _ [bE (o.bg.map (de (gO r))) 0] (Z ⟨at_,17,0,jo (bE (o.bg.map (de (gO r))) 0)⟩));rw[w4];exact RR.one h hl (Gv (lu h (v0 0) b).1.1)
 |18,_,_,_=>
  unfold iQ;rw[mB (v0 0),qg];cases b:eV w (bE f.bg 0) 3 with|none=>exact RR.bad|some o=>exact RR.set (o:=⟨3,0,[bE f.bg 1],[]⟩) (bk:=[ej]) h hl (v0 0) (lu h (v0 0) b).2 ⟨jJ (v0 1),λf hf=>by cases hf⟩ (jJ (nF (by decide)))
 |19,_,_,_=>exact RR.spawn h hl (v0 0)|20,_,_,_=>
  unfold Dk;rw[mB (v0 0)];cases b:eV w (bE f.bg 0) 6 with
  |none=>exact RR.bad|some o=>
   show RR r (if o.N=0 then .waits else if o.N≠1 then .fail o.N else .go w left [bE o.bg 0] _) (if o.N=0 then .waits else if o.N≠1 then .fail o.N else .go _ _ [bE (o.bg.map (de (gO r))) 0] (Z ⟨at_,20,0,jo (bE (o.bg.map (de (gO r))) 0)⟩));rw[w4];split
   .rfl
   .split
    .exact RR.bad
    .exact RR.one h hl (Gv (lu h (v0 0) b).1.1)
 |22,_,_,_=>
  unfold CP;rw[mB (v0 0),qg];cases b:eV w (bE f.bg 0) 4 with
  |none=>exact RR.bad|some o=>
   have d:=(lu h (v0 0) b).1.1;show RR r (if 4<=o.bg.length then .waits else _) (if 4<=(o.bg.map (de (gO r))).length then .waits else .go (iN _ _ ⟨4,0,o.bg.map (de (gO r))++[de (gO r) (bE f.bg 1)],[]⟩) _ _ _);rw[rH];split
   .rfl
   .have:=RR.set (o:=⟨4,0,o.bg++[bE f.bg 1],[]⟩) (bk:=[ej]) (e:=Z ⟨at_,22,0,jo (bE f.bg 1)⟩) h hl (v0 0) (lu h (v0 0) b).2 ⟨λx g=>(dW.1 g).elim (d x) (jJ (v0 1) x),λf hf=>by cases hf⟩ (jJ (nF (by decide)));unfold fN at this;rw[u0]at this;exact this
 |23,_,_,_=>
  unfold CI;rw[mB (v0 0)];cases b:eV w (bE f.bg 0) 4 with
  |none=>exact RR.bad|some o=>
   have d:=(lu h (v0 0) b).1.1;show RR r (match o.bg with|[]=>.waits|v::l=>_) (match o.bg.map (de (gO r))with|[]=>.waits|v::l=>_);cases z:o.bg with|nil=>rfl|cons a l=>rw[z]at d;show RR r (.go _ _ [a] _) (.go _ _ [de (gO r) a] (Z ⟨at_,23,0,jo (de (gO r) a)⟩));rw[qg];exact RR.set (o:=⟨4,0,l,[]⟩) (bk:=[a]) h hl (v0 0) (lu h (v0 0) b).2 ⟨λx g=>d x (iB _ g),λf hf=>by cases hf⟩ (jJ (d a fA))
 |24,_,_,_=>
  unfold NH;rw[pz,qg];by_cases B:(bE f.bg 0).Kind=1
  .have g:¬(bE f.bg 0).Kind≠1:=by omega
   rw[bJ g,bJ g,g7 (u:=bE f.bg 0) (by omega)];show RR r (if 100<=w.ei.length then _ else _) (if 100<=w.ei.length then _ else _);split
   .exact RR.bad
   .exact RR.go (w:=⟨w.aJ,w.aM,w.ei++[⟨(nodeAt p f.Node).N,(bE f.bg 0).N⟩],w.lK,w.Used⟩) (bk:=[ej]) ⟨h.ok,h.tk,h.cl⟩ hl (jJ (nF (by decide)))
  simp_all[RR.bad]
 |25,_,_,_=>
  show RR r (match w.lK with|[]=>.waits|i::l=>_) (match w.lK with|[]=>.waits|i::l=>_);cases w.lK with
  |nil=>rfl|cons i l=>
   show RR r (if 1000000000<=w.Used then _ else _) (if 1000000000<=w.Used then _ else _);split
   .exact RR.bad
   .exact RR.go (w:=⟨w.aJ,w.aM,w.ei,l,w.Used+1⟩) (bk:=[gf i]) ⟨h.ok,h.tk,h.cl⟩ hl (jJ (nF (by simp[gf])))
 |27,_,_,_=>exact RR.shift h hl hf.1|28,_,_,_=>exact RR.go (bk:=[ej]) h hl (jJ (nF (by decide)))
 |k+29,_,_,h=>omega
end
end
section
section
variable {p:az}{w w':af}{r:List Int}{at_ t:Int}{left:List av}{f:av}
def qX(p:az)(w:af)(i:Int):Prop:=(bI w (bK w i)).N=0∧(bI w (bK w i)).Frames≠[]∧JK p w i (bI w (bK w i))=.fail 4
theorem JN(h:qX p w at_):eW p w at_=Z (iN w (bK w at_) ⟨6,4,[],[]⟩,Z ⟨at_,0,4,aA⟩):=by
 let ⟨a,b,c⟩:=h
 unfold eW;simp only;rw[bJ (by omega),bJ b,c]
def VP{l:L av}{n:Nat}{g:Int->Int}:(l.map (eF g)).getD n aH=eF g (l.getD n aH):=by rw[tH,tH,kN];cases l[n]?<;>rfl
theorem agQ(q:jk p)(s:eE p w)(h:ou r w){o:aB}(hf:o.Form=6)(hn:o.N=0)(j:o.Frames≠[])(t:gu p w.aJ.length o)(i:N5 r o) :
  RR r (JK p w at_ o) (JK p (dV r w) at_ (fN (gO r) o)):=by
 obtain⟨l,g,b⟩:∃l g,o.Frames=l++[g]:=⟨_,_,pG j⟩;obtain⟨n,x,k,c⟩:=sK t hf hn b;have y:o.Frames.length-1=l.length:=by rw[b];simp
 have z:o.Frames.getD l.length aH=g:=by rw[b];simp
 have A:o.Frames.take l.length=l:=by rw[b];simp
 have a:(∀f∈l,zO r f)∧zO r g:=⟨λf hf=>i.2 f (by simp_all),i.2 g (by rw[b];simp)⟩;have B:(fN (gO r) o).Frames=o.Frames.map (eF (gO r)):=rfl;have C:(fN (gO r) o).bg=o.bg.map (de (gO r)):=rfl;have E:(eF (gO r) g).Node=g.Node:=rfl;have F:(eF (gO r) g).Env=g.Env.map (de (gO r)):=rfl;have I:(eF (gO r) g).bg=g.bg.map (de (gO r)):=rfl;unfold JK;simp only[B,C,rH,y,VP,z,<-SZ,A,E,F,I];obtain c|⟨v,c,_⟩:=c
 .rw[c];simp only[Fs];by_cases d:(g.bg.length:Int)<jr (nodeAt p g.Node)
  .rw[cn d,cn d];exact RR.tM h i.2 a.2.1
  .rw[bJ d,bJ d];exact afy ⟨q,s,n,by have:=n.vl;omega,k,x⟩ h a.1 a.2
 .rw[c];have K:s8 r v:=i.1 v (by simp_all);have:=RR.go (left:=l++[⟨g.Node,g.Env,g.bg++[v]⟩]) (bk:=[]) (e:=Y) h (λf hf=>(dW.1 hf).elim (a.1 f) λhf=>by
   rw[oa.1 hf];exact⟨a.2.1,λu m=>(dW.1 m).elim (a.2.2 u) (jJ K u)⟩) (λu m=>by cases m)
  grind[eF]
def W0(a:0<=at_)(h1:at_<w.aM.length):bK (dV r w) at_=gO r (bK w at_):=by
 show(w.aM.map (gO r)).getD at_.toNat 0=gO r (w.aM.getD at_.toNat 0)
 simp_all
theorem EU(v:jk p)(k:eE p w)(h:ou r w)(x:0<=at_)(h1:at_<w.aM.length)(hf:¬qX p w at_) :
  match eW p w at_ with
  |none=>eW p (dV r w) at_=Y|some (w',e)=>∃i,ou i w'∧eW p (dV r w) at_=Z (dV i w',e):=by
 have y:=k.task _ (cg 0 (show at_.toNat<w.aM.length by omega))
 let ⟨t1,t2,t3⟩:=y
 have z:=k.ob t1 t2;change(bI w (bK w at_)).Form=6 at t3;have g:bK w at_∈r:=h.tk _ (cg 0 (show at_.toNat<w.aM.length by omega));have t:=h.cl _ g;have A:=W0 (r:=r) x h1;have l:=o7 (w:=w) g;unfold eW;simp only[A,l];have B:∀o:aB,(fN (gO r) o).N=o.N:=λ_=>rfl;have P:∀o:aB,(fN (gO r) o).Frames=o.Frames.map (eF (gO r)):=λ_=>rfl;have C:∀o:aB,(fN (gO r) o).bg=o.bg.map (de (gO r)):=λ_=>rfl;by_cases m:(bI w (bK w at_)).N=0;rotate_left
 .rw[cn m];simp only;rw[cn (by grind)]
 rw[bJ (by omega),B];have n:¬(bI w (bK w at_)).N≠0:=by omega
 rw[bJ n];by_cases j:(bI w (bK w at_)).Frames=[]
 .rw[cn j,cn (show(fN (gO r) (bI w (bK w at_))).Frames=[]by grind)]
  let ⟨a,b⟩:=h.set (o:=⟨6,1,[bE (bI w (bK w at_)).bg 0],[]⟩) g ⟨jJ (Gv t.1),λf hf=>by cases hf⟩
  refine⟨r,a,?_⟩;rw[b,C,w4,qg];rfl
 rw[bJ j,bJ (show ¬(fN (gO r) (bI w (bK w at_))).Frames=[]by simp_all)];have q:=agQ (at_:=at_) v k h t3 m j z t;have u:JK p w at_ (bI w (bK w at_))≠.fail 4:=λe=>hf ⟨m,j,e⟩
 revert q u
 cases JK p w at_ (bI w (bK w at_))with
 |waits=>intro q _;have q:_=mV.waits:=q;rw[q]
 |fail s=>
  intro q u;obtain rfl|q:=q
  .grind
  .rw[q]
   let ⟨a,b⟩:=h.set (o:=⟨6,s,[],[]⟩) g ⟨λf hf=>(by cases hf),λf hf=>by cases hf⟩
   refine⟨r,a,?_⟩;rw[b];rfl
 |go R E F e=>
  intro q _
  let ⟨i,a,b,c,d,q⟩:=q
  rw[q]
  let ⟨I,K⟩:=a.set (o:=⟨6,0,F,E⟩) (b _ g).1 ⟨d,c⟩
  refine⟨i,I,?_⟩;rw[K,(b _ g).2];rfl
end
end
section
section
variable {p:az}{w w':af}{left:List av}{f:av}{at_ t:Int}{v u:aj}{R R':mV}{o:aB}{s:Int}
structure Ex2(w w':af)(t:Int):Prop where
 ex:Ex w w' t
 out:w'.ei=w.ei
 inn:w'.lK=w.lK
 usd:w'.Used=w.Used
 n:(bI w t).N=0
def FF(R R':mV):Prop:=R=.fail 4->R'=.fail 4
theorem FF.lit(h:s≠4):FF (.fail s) R':=λe=>absurd (mV.fail.inj e) h
theorem FF.four:FF R (.fail 4):=λ_=>rfl
theorem FF.go{fr:L av}{bk:L aj}{e:O aN}:FF (.go w fr bk e) R':=λe=>by cases e
theorem FF.wait:FF .waits R':=λe=>by cases e
theorem FF.tM{node:Int}{env a:L aj}(h:a.length=env.length):FF (hG w left node env) (hG w' left node a):=by
 grind[hG,FF.four,FF.go]
theorem FF.made(a:Ex w w' t):FF (jQ w left o) (jQ w' left o):=by
 have:=a.le;unfold jQ;by_cases h:120<=w.aJ.length
 .rw[cn (show 120<=w'.aJ.length by omega)];exact FF.four
 .rw[bJ h];exact FF.go
def FF.ev{op n:Int}(h:FF R R'):FF (Zz at_ op n v R) (Zz at_ op n v R'):=by cases R with|fail s=>intro e;rw[h e];rfl|waits=>exact FF.wait|go=>exact FF.go
def FF.cases(b:eE p w)(c:Ex w w' t)(d:ct p w.aJ.length u){env:L aj}:∀(qs:L aG)(a:L Int),FF (jy w left env u qs a) (jy w' left env u qs a)
 |[],a=>by cases a<;>exact FF.lit (by decide)
 |_::_,[]=>FF.lit (by decide)
 |q::qs,k::a=>by unfold jy;rw[FZ b c q u d];cases fZ w q u with|some l=>exact FF.tM rfl|none=>exact FF.cases b c d qs a
theorem ab2(c:Cx p w left f)(h2:Ex2 w w' t):FF (iS p w at_ left f) (iS p w' at_ left f):=by
 have l:=h2.ex;have v:=l.le;have nd:=c.nd;have h1:=nd.lo;have B:=nd.hi;obtain⟨k,j⟩:∃k:Nat,(nodeAt p f.Node).Op=k:=⟨_,(xH (by omega)).symm⟩;have n:1<=k:=by omega
 have q:k<=28:=by omega
 have v0:∀m:Nat,(nodeAt p f.Node).Op=k->k≠14->dS.getD k 0=m+1->ct p w.aJ.length (bE f.bg 0):=λm j C x=>by have y:=c.vl j (by omega);rw[Fl,x]at y;exact c.val (i:=0) (by omega)
 unfold iS;simp only[j,Fl]
 match k,j,n,q,v0 with
 |1,_,_,_,_|2,_,_,_,_|3,_,_,_,_|26,_,_,_,_|28,_,_,_,_=>exact FF.go|4,_,_,_,_=>
  simp only;split
  .exact FF.go
  .split
   .exact FF.lit (by decide)
   .exact FF.go
 |5,_,_,_,_|14,_,_,_,_=>exact FF.made l|6,j,_,_,v0=>
  have v0:=v0 1 j (by decide) rfl;unfold rW;rw[An l v0 (by decide),HB l v0];cases eV w (bE f.bg 0) 5 with
  |some o=>
   simp only;split
   .exact FF.four
   .exact FF.go
  |none=>
   cases fI p w (bE f.bg 0) (bE f.bg 1)with|none=>exact FF.lit (by decide)|some b=>exact FF.tM rfl
 |7,_,_,_,_=>exact FF.tM rfl|8,_,_,_,_=>
  simp only;split
  .exact FF.lit (by decide)
  .exact FF.tM rfl
 |9,_,_,_,_|10,_,_,_,_|11,_,_,_,_|12,_,_,_,_|13,_,_,_,_=>
  simp only;unfold om;simp only
  repeat' split
  all_goals first|exact FF.go|exact FF.four|exact FF.lit (by decide)|(exfalso;contradiction)
 |15,j,_,_,v0=>exact FF.cases c.hw l (v0 0 j (by decide) rfl) _ _
 |16,_,_,_,_|21,_,_,_,_=>exact FF.ev (FF.made l)|17,_,_,_,_=>
  grind[Ol,FF.lit,FF.go]
 |18,_,_,_,_=>
  grind[iQ,FF.lit,FF.go]
 |19,j,_,_,v0=>
  have v0:=v0 0 j (by decide) rfl;unfold rD;rw[An l v0 (by decide),HB l v0];by_cases u:120<=w.aJ.length
  .have r:120<=w'.aJ.length:=by omega
   simp only[u,r,ku];exact λe=>e
  .simp[u,ij];cases eV w (bE f.bg 0) 5 with
   |some o=>exact FF.go|none=>
    grind[FF.lit,FF.four,FF.go]
 |20,j,_,_,v0=>
  have v0:=v0 0 j (by decide) rfl;unfold Dk;cases z:eV w (bE f.bg 0) 6 with
  |none=>exact FF.lit (by decide)
  |some o=>
   let ⟨a,_,b,d,e,g⟩:=ec c.hw v0 z
   simp only;split
   .exact FF.wait
   .rename_i A;have s:(bE f.bg 0).N≠t:=λs=>A (by rw[g,s];exact h2.n);have:eV w' (bE f.bg 0) 6=Z o:=by unfold eV;rw[l.same _ d e s,<-g,cn ⟨b,a⟩]
    rw[this];simp only;split
    .exact λe=>e
    .exact FF.go
 |22,_,_,_,_=>
  grind[CP,FF.lit,FF.wait,FF.go]
 |23,_,_,_,_=>
  grind[CI,FF.lit,FF.wait,FF.go]
 |24,_,_,_,_=>
  unfold NH;rw[h2.out]
  grind[FF.lit,FF.four,FF.go]
 |25,_,_,_,_=>
  unfold inS;rw[h2.inn,h2.usd]
  grind[FF.wait,FF.four,FF.go]
 |27,_,_,_,_=>
  unfold rE;cases gm (λf:av=>(nodeAt p f.Node).Op==26) left with
  |none=>exact FF.lit (by decide)
  |some E=>
   simp only;by_cases h:120<=w'.aJ.length
   .rw[cn h];exact FF.four
   .rw[bJ h,bJ (by omega)];exact FF.tM (by simp)
 |k+29,_,_,h,_=>omega
def ac9(h:jk p)(i:eE p w)(hf:o.Form=6)(hn:o.N=0)(d:o.Frames≠[])(j:gu p w.aJ.length o)(k:Ex2 w w' t):FF (JK p w at_ o) (JK p w' at_ o):=by
 obtain⟨l,g,b⟩:∃l g,o.Frames=l++[g]:=⟨_,_,pG d⟩
 let ⟨f,m,e,a⟩:=sK j hf hn b
 have n:o.Frames.length-1=l.length:=by rw[b];simp
 have q:o.Frames.getD l.length aH=g:=by rw[b];simp
 have r:o.Frames.take l.length=l:=by rw[b];simp
 unfold JK;simp only[n,q,r];obtain a|⟨v,a,_⟩:=a
 .rw[a];by_cases c:(g.bg.length:Int)<jr (nodeAt p g.Node)
  .simp_all[FF.tM]
  .rw[bJ c,bJ c];exact ab2 ⟨h,i,f,by have:=f.vl;omega,e,m⟩ k
 .rw[a];exact FF.go
def U0(b:jk p)(a:eE p w)(d:0<=at_)(h1:at_<w.aM.length)(hs:eW p w at_=Z (w',Y)):w'.aM=w.aM∧Ex2 w w' (bK w at_):=by
 let ⟨e,c⟩:=NC b a d h1 hs
 refine⟨e,?_⟩
 let ⟨t1,t2,t3⟩:=a.task _ (cg 0 (show at_.toNat<w.aM.length by omega))
 have f:=a.ob t1 t2;change(bI w (bK w at_)).Form=6 at t3;unfold eW at hs;simp only at hs;split at hs
 .cases hs
 split at hs
 .cases hs
 rename_i g;have q:=Zn (at_:=at_) (w':=w) b a t3 (by omega) g f (Ex.refl t3);split at hs
 .cases hs
 .cases hs
 rename_i h;cases hs;obtain rfl|⟨o,rfl⟩:=q.one _ _ _ h
 .exact ⟨c,rfl,rfl,rfl,by omega⟩
 .exact ⟨c,rfl,rfl,rfl,by omega⟩
theorem Zq(i:jk p)(d:eE p w)(k:w'.aM=w.aM)(g:Ex2 w w' (bK w at_)){j:Int}(m:0<=at_)(h1:at_<w.aM.length)(n:0<=j)(o:j<w.aM.length)(q:j≠at_)(h:qX p w j):qX p w' j:=by
 let ⟨t1,t2,t3⟩:=d.task _ (cg 0 (show j.toNat<w.aM.length by omega))
 have l:=d.ob t1 t2;have f:bK w j≠bK w at_:=by
  unfold bK;intro e;have:=(Ni.1 d.ug)
  grind
 let ⟨a,b,c⟩:=h
 have e:bI w' (bK w' j)=bI w (bK w j):=by rw[show bK w' j=bK w j by unfold bK;rw[k]];exact g.ex.same _ t1 t2 f
 unfold qX;rw[e];exact⟨a,b,ac9 i d t3 a b l g c⟩
theorem M5(a:jk p):∀(k:Nat)(w:af)(s:Nat)(w':af)(s':Nat),eE p w->0<=at_->at_<w.aM.length->tC p at_ k w s=Z (w',s')->
  ∀j:Int,0<=j->j<w.aM.length->j≠at_->qX p w j->qX p w' j
 |0,_,_,_,_,_,_,_,h=>by cases h
 |k+1,w,s,w',s',c,b,h1,h=>by
  unfold tC at h;split at h
  .rename_i g d
   let ⟨i,_,_⟩:=jW a c b h1 d
   let ⟨l,m⟩:=U0 a c b h1 d
   split at h
   .cases h
   .exact λj e n f o=>M5 a k g (s+1) w' s' i b (by grind) h j e (by grind) f (Zq a c l m b h1 e n f o)
  simp_all
def CN(c:jk p):∀(m i:Nat)(w:af)(s:Nat)(w':af)(s':Nat),eE p w->i+m<=w.aM.length->cW p m i w s=Z (w',s')->
  ∀j:Int,0<=j->j<i->qX p w j->qX p w' j
 |0,i,w,s,w',s',d,l,h=>by cases h;simp_all
 |m+1,i,w,s,w',s',d,l,h=>by
  unfold cW at h;split at h
  .cases h
  .rename_i e f g
   let ⟨a,b,_,_⟩:=tB c _ w s e f d (by omega) (by omega) g
   exact λj k o n=>CN c m (i+1) e f w' s' a (by rw[b];omega) h j k (by omega) (M5 c _ w s e f d (by omega) (by omega) g j k (by omega) (by omega) n)
end
end
section
section
variable {p:az}{w w':af}{r:List Int}{at_:Int}
theorem SV(d:jk p):∀(k:Nat)(w:af)(s:Nat)(w':af)(s':Nat)(r:L Int),eE p w->0<=at_->at_<w.aM.length->ou r w->tC p at_ k w s=Z (w',s')->¬qX p w' at_->
  ∃i,ou i w'∧tC p at_ k (dV r w) s=Z (dV i w',s')
 |0,w,s,w',s',r,f,c,h1,j,h,l=>by cases h
 |k+1,w,s,w',s',r,f,c,h1,j,h,l=>by
  unfold tC at h ⊢;have g:¬qX p w at_:=λu=>by
   grind[JN]
  have q:=EU d f j c h1 g;cases m:eW p w at_ with
  |none=>
   grind
  |some x=>
   let ⟨n,e⟩:=x
   rw[m]at h q
   let ⟨o,a,b⟩:=q
   rw[b];cases e with
   |some e=>grind|none=>
    let ⟨t,_,v⟩:=jW d f c h1 m
    simp only at h ⊢;split at h
    .cases h
    .rename_i h5;rw[bJ h5];exact SV d k n (s+1) w' s' o t c (by simp_all) a h l
def E0(f:jk p):∀(m i:Nat)(w:af)(s:Nat)(w':af)(s':Nat)(r:L Int),eE p w->i+m<=w.aM.length->ou r w->cW p m i w s=Z (w',s')->
  (∀j:Int,0<=j->j<(i+m:Nat)->¬qX p w' j)->∃o,ou o w'∧cW p m i (dV r w) s=Z (dV o w',s')
 |0,i,w,s,w',s',r,k,q,l,h,n=>by cases h;exact⟨r,l,rfl⟩
 |m+1,i,w,s,w',s',r,k,q,l,h,n=>by
  unfold cW at h ⊢;split at h
  .cases h
  .rename_i e g h1
   let ⟨a,b,_,_⟩:=tB f _ w s e g k (by omega) (by omega) h1
   have n1:¬qX p e (i:Int):=λt=>n i (by omega) (by omega) (CN f m (i+1) e g w' s' a (by rw[b];omega) h i (by omega) (by omega) t)
   let ⟨u,c,d⟩:=SV f 5002 w s e g r k (by omega) (by omega) l h1 n1
   rw[d];exact E0 f m (i+1) e g w' s' u a (by rw[b];omega) c h λj v x=>n j v (by omega)
def NF(p:az)(w:af):Prop:=∀j:Int,0<=j->j<w.aM.length->¬qX p w j
def Ql:(dV r w).aM.length=w.aM.length:=rH _
theorem vD(a:jk p)(b:eE p w)(d:ou r w){s s':Nat}(h:cW p w.aM.length 0 w s=Z (w',s'))(hn:NF p w') :
  ∃c,ou c w'∧cW p (dV r w).aM.length 0 (dV r w) s=Z (dV c w',s'):=by
 have e:=(gQ a b h).2.1;rw[Ql];exact E0 a _ 0 w s w' s' r b (by omega) d h λj f g=>hn j f (by rw[e];omega)
theorem Je(b:jk p)(c:eE p w)(d:ou r w)(hn:NF p w):ek p (dV r w)=ek p w:=by
 unfold ek;rw[Ql];refine List.filter_congr λx e=>?_;obtain⟨i,a,rfl⟩:=nO.1 e;have a:=Nd.1 a;have q:=EU b c d (at_:=(i:Int)) (by omega) (by omega) (hn _ (by omega) (by omega))
 grind
theorem WV(h:jk p)(i:eE p w)(z:wJ p w)(A:ou r w)(hn:NF p w){k:Int}:match iW p w k with
  |.BJ=>True|.idle _=>∃j,iW p (dV r w) k=.idle j|.ok l e s=>NF p l->∃u,ou u l∧iW p (dV r w) k=.ok (dV u l) e s:=by
 have v:=tE z w.aM.length 0 0 (by omega)
 let ⟨B,a,b⟩:=vD h i A v hn
 unfold iW;rw[v,b];simp only;rw[Je h i a hn];by_cases f:ek p w=[]
 .simp_all
 rw[bJ f,bJ f];have m:FB p (dV B w) k=FB p w k:=by unfold FB;rw[Je h i a hn]
 rw[m]
 let ⟨n,o,x,y⟩:=Aj (pick:=k) f
 have q:=EU h i a n o (hn _ n o)
 let ⟨j,e⟩:=x
 rw[y]at q ⊢
 let ⟨F,c,d⟩:=q
 rw[d]
 let ⟨C,_,_⟩:=jW h i n o y
 simp only;cases h3:cW p j.aM.length 0 j (0+1)with
 |none=>trivial|some x=>
  let ⟨l,E⟩:=x
  simp only;by_cases h5:5000<E
  .simp_all
  .rw[bJ h5];intro t
   let ⟨I,K,g⟩:=vD h C c h3 t
   grind
def NQ(p:az)(w:af)(i:Int):Bool:=match eW p w i with
 |some (_,Z e)=>aa e.Do 0&&aa e.N 4|_=>J
def yg(p:az)(w:af):Bool:=(rJ w.aM.length).any (NQ p w)
theorem KV(h:yg p w=J):NF p w:=λj b c a=>by
 have:yg p w=W:=Jn.2 ⟨j,nO.2 ⟨j.toNat,Nd.2 (by omega),by omega⟩,by unfold NQ;rw[JN a];rfl⟩
 simp_all
def NX(p:az):L Int->af->Bool
 |[],w=>yg p w|k::a,w=>bif yg p w then W else match iW p w k with
  |.BJ=>W|.idle _=>J|.ok w' _ _=>NX p a w'
theorem Gf:∀{a:L Int}{w:af},NX p a w=J->yg p w=J
 |[],w,h=>h|k::a,w,h=>by
  grind[NX]
theorem NA(m:jk p):∀(j:L Int){w x:af}{l:L aN}{r:L Int},eE p w->wJ p w->ou r w->NX p j w=J->uK p j w=Z (x,l)->∃t,ou t x∧uK p j (dV r w)=Z (dV t x,l)
 |[],w,x,l,r,n,u,o,f,h=>by cases h;exact⟨r,o,rfl⟩
 |k::j,w,x,l,r,n,u,o,f,h=>by
  have v:=Gf f;unfold NX at f;rw[v,ez]at f;unfold uK at h ⊢;have q:=WV m n u o (KV v) (k:=k);cases z:iW p w k with
  |BJ=>simp_all|idle A=>
   grind
  |ok A e s=>
   let ⟨a,b⟩:=td m n z
   rw[z]at h q f;simp only at h q f
   let ⟨C,c,d⟩:=q (KV (Gf f))
   rw[d];cases B:uK p j A with
   |none=>simp_all|some y=>
    let ⟨E,F⟩:=y
    rw[B]at h;cases h
    let ⟨I,g,i⟩:=NA m j a b c f B
    grind
def limit(p:az)(w:af)(a:L Int):Bool:=match cW p w.aM.length 0 w 0 with
 |none=>W|some (b,_)=>NX p a b
theorem UZ(e:jk p)(f:eE p w)(g:ou r w){b:L Int}{x:af}{l:L aN}(hl:limit p w b=J)(h:uJ p w b=Z (x,l)):∃c,ou c x∧uJ p (dV r w) b=Z (dV c x,l):=by
 unfold uJ at h ⊢;unfold limit at hl;cases d:cW p w.aM.length 0 w 0 with
 |none=>simp_all|some y=>
  let ⟨i,j⟩:=y
  rw[d]at h hl
  let ⟨a,_,_,_⟩:=gQ e f d
  grind[vD,KV,Gf,NA,mh]
end
end
section
section
variable {p:az}{w:af}{r l:List Int}{g:Int->Int}{x y:Int}
theorem Rh(a:x∈r)(b:y∈r)(h:gO r x=gO r y):x=y:=N9 a b (by grind)
theorem Nr(hl:∀x∈l,x∈r)(a:x∈r):∀y∈mP l x,y∈r:=λy b=>by
 grind[mP]
def o8:∀(ns:L Int){l:L Int},(∀x∈l,x∈r)->(∀x∈ns,x∈r)->∀y∈dH l ns,y∈r
 |[],l,a,_=>a|x::ns,l,a,b=>o8 ns (l:=mP l x) (Nr a (b x fA)) λy c=>b y (iB _ c)
theorem XQ(hl:∀x∈l,x∈r)(a:x∈r):mP (l.map (gO r)) (gO r x)=(mP l x).map (gO r):=by
 have:(l.map (gO r)).contains (gO r x)=l.contains x:=by
  rw[Nn,Qw,Qw,nO];constructor
  .grind[Rh]
  grind
 unfold mP
 grind
def BA:∀(ns:L Int){l:L Int},(∀x∈l,x∈r)->(∀x∈ns,x∈r)->dH (l.map (gO r)) (ns.map (gO r))=(dH l ns).map (gO r)
 |[],l,_,_=>rfl|x::ns,l,a,b=>by have c:=b x fA;show dH (mP (l.map (gO r)) (gO r x)) (ns.map (gO r))=(dH (mP l x) ns).map (gO r);rw[XQ a c];exact BA ns (Nr a c) λy d=>b y (iB _ d)
theorem xe:∀vs:L aj,cF (vs.map (de g))=(cF vs).map g
 |[]=>rfl|v::vs=>by
  rw[kW];unfold cF;rw[pz,xe vs]
  grind[jC,Lo]
def Ff:∀fs:L av,eH (fs.map (eF g))=(eH fs).map g
 |[]=>rfl|f::fs=>by show cF (f.Env.map (de g))++(cF (f.bg.map (de g))++eH (fs.map (eF g)))=(cF f.Env++(cF f.bg++eH fs)).map g;rw[xe,xe,Ff fs,u0,u0]
def UK(o:aB):jX (fN g o)=(jX o).map g:=by show cF (o.bg.map (de g))++eH (o.Frames.map (eF g))=(cF o.bg++eH o.Frames).map g;rw[xe,Ff,u0]
def AA:∀{vs:L aj},(∀v∈vs,s8 r v)↔∀x∈cF vs,x∈r
 |[]=>⟨λ_ x b=>(by cases b),λ_ x b=>(by cases b)⟩
 |v::vs=>by
  have d:=AA (vs:=vs);unfold cF;by_cases h:v.Kind=5
  .rw[lA.2 h,eP];constructor
   .intro a x b;obtain rfl|b:=fy.1 b
    .exact a v fA h
    simp_all
   .intro a u c;obtain rfl|c:=fy.1 c
    .exact λ_=>a _ fA
    simp_all
  simp_all[Lo,nF]
theorem N6:∀{fs:L av},(∀f∈fs,zO r f)↔∀x∈eH fs,x∈r
 |[]=>⟨λ_ x a=>(by cases a),λ_ x a=>(by cases a)⟩
 |f::fs=>by
  have b:=N6 (fs:=fs);unfold eH;simp[dW,fy,forall_eq_or_imp,b];unfold zO;rw[AA,AA]
  grind
theorem vU{o:aB}:N5 r o↔∀x∈jX o,x∈r:=by
 unfold N5 jX;rw[AA,N6]
 grind
variable {i:Nat}
def GC(a:i<l.length):l.getD i 0∈l:=cg 0 a
def Jg(h:ou r w):∀(m i:Nat)(l:L Int),(∀x∈l,x∈r)->∀x∈gX w.aJ m i l,x∈r
 |0,_,l,a=>a|m+1,i,l,a=>by
  unfold gX;split
  .rename_i b;exact Jg h m (i+1) _ (o8 _ a (vU.1 (h.cl _ (a _ (GC b)))))
  .exact a
theorem Jh(h:ou r w):∀(m i:Nat)(l:L Int),(∀x∈l,x∈r)->gX (dV r w).aJ m i (l.map (gO r))=(gX w.aJ m i l).map (gO r)
 |0,_,l,b=>rfl|m+1,i,l,b=>by
  unfold gX;rw[rH];by_cases c:i<l.length
  .rw[cn c,cn c];have d:=b _ (GC c);have e:(l.map (gO r)).getD i 0=gO r (l.getD i 0):=by
    simp_all
   have f:(dV r w).aJ.getD (gO r (l.getD i 0)).toNat aO=fN (gO r) (w.aJ.getD (l.getD i 0).toNat aO):=o7 d;have a:∀x∈jX (w.aJ.getD (l.getD i 0).toNat aO),x∈r:=vU.1 (h.cl _ d);rw[e,f,UK,BA _ b a];exact Jh h m (i+1) _ (o8 _ b a)
  grind
def Fj(h:ou r w):∀(m i:Nat)(l:L Int)(d:Nat),Ef w.aJ.length l->(∀x∈l,x∈r)->r.length+1<=i+m->gX w.aJ (m+d) i l=gX w.aJ m i l
 |0,i,l,d,c,b,e=>by have:=tj c.1 b;cases d with|zero=>rfl|succ d=>unfold gX;rw[bJ (by omega)]
 |m+1,i,l,d,c,b,e=>by
  rw[Nat.add_right_comm];unfold gX;split
  .rename_i f;have a:=vU.1 (h.cl _ (b _ (GC f)));exact Fj h m (i+1) _ d (c.DO λx g=>h.ok.2 x (a x g)) (o8 _ b a) (by omega)
  .rfl
def X7{k:Nat}:Ef k []:=⟨List.nodup_nil,λx a=>by cases a⟩
theorem UL(h:ou r w):fu (dV r w)=(fu w).map (gO r):=by
 have c:=h.ok.len;have b:∀x∈dH [] w.aM,x∈r:=o8 _ (λx a=>by cases a) h.tk;unfold fu;have e:dH [] (dV r w).aM=(dH [] w.aM).map (gO r):=BA (l:=[]) _ (λx a=>by cases a) h.tk;rw[e,Jh h _ _ _ b,mw]
 congr 1
 have:=Fj h (r.length+1) 0 (dH [] w.aM) (w.aJ.length-r.length) (X7.DO λx a=>h.ok.2 x (h.tk x a)) b (by omega)
 grind
def Hr{a:L aB}(c:r9 a i l)(d:l.length<=i):r9 a l.length l:=λj e b=>c j (by omega) b
def Aa(c:jk p)(d:eE p w):∀(m i:Nat)(l:L Int),Ef w.aJ.length l->r9 w.aJ i l->w.aJ.length+1<=i+m->r9 w.aJ (gX w.aJ m i l).length (gX w.aJ m i l)
 |0,i,l,a,b,f=>by have g:=a.len;exact Hr (l:=l) b (by omega)
 |m+1,i,l,a,b,f=>by
  unfold gX;split
  .rename_i e;exact Aa c d m (i+1) _ (a.DO (BE c d (BF a e)).refs) (b.next e) (by omega)
  .exact Hr b (by omega)
theorem S9(d:jk p)(a:eE p w):ou (fu w) w:=by
 have f:Ef w.aJ.length (dH [] w.aM):=X7.DO λx b=>⟨(a.task x b).1,(a.task x b).2.1⟩;refine⟨Ji d a,λt g=>?_,λx b=>vU.2 ?_⟩
 .let ⟨q,e⟩:=yY w.aJ (w.aJ.length+1) 0 (dH [] w.aM)
  grind[fu,xk]
 .have h:=Aa d a (w.aJ.length+1) 0 _ f (λj c=>absurd c (Nat.not_lt_zero _)) (by omega);obtain⟨j,c,rfl⟩:=qI b;have e:(fu w).getD j 0=(fu w)[j]:=by simp_all
  rw[<-e];exact h j c c
theorem Ve{f:Int->Int}(v:aj):de f (de g v)=de (λx=>f (g x)) v:=by
 by_cases h:v.Kind=5
 .rw[jC h,jC h,jC rfl]
 .rw[g7 h,g7 h,g7 h]
theorem Vf{f:Int->Int}(o:aB):fN f (fN g o)=fN (λx=>f (g x)) o:=by
 have a:∀b:L aj,(b.map (de g)).map (de f)=b.map (de λx=>f (g x)):=λb=>by
  grind[List.map_congr_left,Ve]
 show(⟨o.Form,o.N,(o.bg.map (de g)).map (de f),(o.Frames.map (eF g)).map (eF f)⟩:aB)=⟨_,_,_,_⟩;rw[a,List.map_map]
 congr 1
 refine Af λc _=>?_;show(⟨c.Node,(c.Env.map (de g)).map (de f),(c.bg.map (de g)).map (de f)⟩:av)=_;rw[a,a];rfl
theorem N8:∀{R:L Int},(∀x∈R,x∈r)->x∈r->nS (R.map (gO r)) (gO r x)=nS R x
 |[],_,_=>rfl|a::R,b,c=>by
  rw[kW];unfold nS;rw[N8 (λy d=>b y (iB _ d)) c]
  grind[List.mem_cons_self,lA,Rh]
def Ta(f:jk p)(g:eE p w)(h:ou r w):kC (dV r w)=kC w:=by
 have c:=S9 f g;have b:∀x∈fu w,x∈r:=Jg h _ _ _ (o8 _ (λx a=>by cases a) h.tk);have d:∀x∈fu w,gO ((fu w).map (gO r)) (gO r x)=gO (fu w) x:=λx a=>by unfold gO;rw[N8 b (b x a)]
 show dV (fu (dV r w)) (dV r w)=dV (fu w) w;rw[UL h];have i:((fu w).map (gO r)).map (λn=>fN (gO ((fu w).map (gO r))) (bI (dV r w) n))=(fu w).map (λn=>fN (gO (fu w)) (bI w n)):=by rw[List.map_map];refine Af λn e=>?_;show fN (gO ((fu w).map (gO r))) (bI (dV r w) (gO r n))=_;rw[o7 (b n e),Vf];exact FN λx a=>d x (vU.1 (c.cl n e) x a)
 have j:(w.aM.map (gO r)).map (gO ((fu w).map (gO r)))=w.aM.map (gO (fu w)):=by rw[List.map_map];exact Af λt k=>d t (c.tk t k)
 show(⟨_,(w.aM.map (gO r)).map (gO ((fu w).map (gO r))),w.ei,w.lK,w.Used⟩:af)=⟨_,w.aM.map (gO (fu w)),w.ei,w.lK,w.Used⟩;rw[i,j]
end
end
section
section
variable {p:az}{w:af}{r:List Int}{k:Nat}{v:aj}
def Ej(h:ct p k v)(a:s8 r v):ct p r.length (de (gO r) v):=by
 by_cases h5:v.Kind=5
 .rw[jC h5];have:=Lr (a h5);exact .inr (.inr (.inr (.inr ⟨rfl,by simp_all,by simp_all⟩)))
 .rw[g7 h5];obtain h|h|h|h|h:=h
  .exact .inl h
  .exact .inr (.inl h)
  .exact .inr (.inr (.inl h))
  .exact .inr (.inr (.inr (.inl h)))
  omega
def vu{l:L aj}(h:∀v∈l,ct p k v)(b:∀v∈l,s8 r v):∀v∈l.map (de (gO r)),ct p r.length v:=λv c=>by obtain⟨u,a,rfl⟩:=nO.1 c;exact Ej (h u a) (b u a)
theorem Zs{f:av}(h:eG p k f)(a:zO r f):eG p r.length (eF (gO r) f):=
 ⟨h.lo,h.hi,by show(f.Env.map _).length<=30;rw[rH];exact h.el,vu h.env a.1,by show((f.bg.map _).length:Int)<=_;rw[rH];exact h.vl,vu h.vals a.2⟩
theorem X1{f:av}{g:Int->Int}(h:oG p f):oG p (eF g f):=by show((f.bg.map _).length:Int)<_;rw[rH];exact h
theorem Lw{l:L av}(h:∀f∈l,eG p k f∧oG p f)(b:∀f∈l,zO r f):∀f∈l.map (eF (gO r)),eG p r.length f∧oG p f:=λf a=>by
 obtain⟨g,c,rfl⟩:=nO.1 a
 grind[Zs,X1]
def afG:∀{o:aB},gu p k o->N5 r o->gu p r.length (fN (gO r) o)
 |_,.data a b c d,h=>.data a b (by simp_all) (vu d h.1)
 |_,.func a b c d e,h=>.func a b c (by simp_all) (vu e h.1)
 |_,.cell a,h=>.cell (Ej a (h.1 _ (oa.2 rfl)))|_,.chan a b,h=>.chan (by simp_all) (vu b h.1)
 |⟨_,_,_,f::fs⟩,.vS a b c,h=>.vS (f:=eF (gO r) f) (fs:=fs.map (eF (gO r))) (by simp_all) (Lw (l:=f::fs) b h.2) c
 |_,.rP (fs:=fs) (f:=f) a b c,h=>by
  have:=gu.rP (p:=p) (k:=r.length) (fs:=fs.map (eF (gO r))) (f:=eF (gO r) f) (by simp_all) (Lw b λg i=>h.2 g (fh _ i)) (Zs c (h.2 f (eO _ (oa.2 rfl))));have e:fs.map (eF (gO r))++[eF (gO r) f]=(fs++[f]).map (eF (gO r)):=by simp_all
  rw[e]at this;exact this
 |_,.back a b c,h=>.back (by simp_all) (Lw b h.2) (Ej c (h.1 _ (oa.2 rfl)))
 |_,.done a,h=>.done (Ej a (h.1 _ (oa.2 rfl)))|_,.dead a,h=>.dead a
def afs(c:eE p w)(h:ou r w):eE p (dV r w):=by
 have z:=h.ok.len;have s:(w.aM.map (gO r)).Nodup:=by refine List.pairwise_map.2 (c.ug.imp_of_mem λ{a b}f j k=>λe=>k (Rh (h.tk a f) (h.tk b j) e))
 refine⟨by rw[mw];have:=c.len;omega,λo u=>?_,c.outs,c.out,c.ins,c.inn,c.used,s,?_,λt v=>?_,λi l m=>?_⟩
 .rw[mw];obtain⟨n,q,rfl⟩:=nO.1 u;have:=h.ok.2 n q;exact afG (c.ob this.1 this.2) (h.cl n q)
 .rw[mw,Ql];exact tj c.ug h.tk
 .obtain ⟨x,g,rfl⟩:=nO.1 v;have d:=h.tk x g;have:=Lr d;rw[mw,o7 d];exact⟨by simp_all,by simp_all,(c.task x g).2.2⟩
 .rw[mw]at l;have y:r[i]?=Z r[i]:=iZ l;have d:r[i]∈r:=IA l;have g:=N7 h.ok.1 y;have e:(i:Int)=gO r r[i]:=by unfold gO;rw[g]
  rw[e]at m ⊢;rw[o7 d]at m;have j:=h.ok.2 _ d;have f:=c.all r[i].toNat (by omega) (by exact m);rw[xH j.1]at f;exact nO.2 ⟨_,f,rfl⟩
theorem e82(k:jk p)(b:eE p w):Ev (λn=>F82 n (p,w,())) ((yg p w,()),()):=by
 have q:=b.tl;have l:=b.len;have Qk:∀i:Nat,i<w.aM.length->Ev (λn=>au (aD (i:Int) (ax w.aM)) (ai (F40 n (p,w,(i:Int),())) λd=>au (aa d.1.1.2 1) (au (aa d.1.1.3.2 0) (au (aa d.1.1.3.3 4) (Z (X () (W,()))) (Z (N (aE .i64 (i:Int) 1,())))) (Z (N (aE .i64 (i:Int) 1,())))) (Z (N (aE .i64 (i:Int) 1,())))) (Z (H 0 ((i:Int),()))))
   (bif !NQ p w i then .next (((i+1:Nat):Int),())else .ret () (W,()):LO (Int×U) (Bool×U) U Any):=λi g=>by
  refine Ev.fR (λn=>n7 (show(i:Int)<(w.aM.length:Int)by omega) _ _) ?_;refine Ev.ai (d40 k b (by omega) (by omega)) (aY λn=>?_);have m:aE .i64 (i:Int) 1=((i+1:Nat):Int):=by grind[bF]
  rw[m];unfold NQ;cases eW p w (i:Int)with
  |none=>rfl|some x=>
   let ⟨r,e⟩:=x
   cases e with|none=>rfl|some e=>show au (aa e.Do 0) (au (aa e.N 4) _ _) _=Z (bif !(aa e.Do 0&&aa e.N 4)then _ else _);cases aa e.Do 0<;>cases aa e.N 4<;>rfl
 obtain⟨a,f⟩|⟨i,g,a,f⟩:=eC (F:=λn c=>au (aD c.1 (ax w.aM)) (ai (F40 n (p,w,c)) λd=>au (aa d.1.1.2 1) (au (aa d.1.1.3.2 0) (au (aa d.1.1.3.3 4) (Z (X () (W,()))) (Z (N (aE .i64 c.1 1,())))) (Z (N (aE .i64 c.1 1,())))) (Z (N (aE .i64 c.1 1,())))) (Z (H 0 c))) w.aM.length (λi=>!NQ p w i) (λ_=>.ret () (W,())) (λ_ _ h=>by cases h) Qk (λn=>by simp(disch:=omega) [bf])
 .refine Ev.aT f _ _ (aY λn=>?_);have:yg p w=J:=by
   unfold yg;rw[List.any_eq_false];intro x o;obtain⟨j,s,rfl⟩:=nO.1 o
   simp_all
  rw[this];rfl
 .refine Ev.aT f _ _ (aY λn=>?_);have:yg p w=W:=by refine Jn.2 ⟨(i:Int),nO.2 ⟨i,Nd.2 g,rfl⟩,?_⟩;simpa using a
  rw[this];rfl
def NW(f:jk p){di:L Int}(v:di.length<=1000)(F:Nat->Bool×Int×Z5×U->O (LO (Bool×Int×Z5×U) (Bool×U) (Z5×U) Any))
  (q:∀n d,F n d=au (aD d.2.1 (ax di)) (au d.1 (ai (F82 n (p,Kj d,())) λe=>au (aq e.1.1) (aK (aC d.2.1 di) (ai (F34 n (p,Kj d,aZ di (ak d.2.1) 0,())) λg=>au (aa g.1.2.2.2.1 5) (Z (X d.2.2 (J,()))) (Z (N (aa g.1.2.2.2.1 0,aE .i64 d.2.1 1,aaK g))))) (Z (H 0 d))) (Z (H 0 d))) (Z (H 0 d))) :
  ∀(r pre:L Int)(w:af),di=pre++r->eE p w->wJ p w->
  ∃o,fj F (W,(pre.length:Int),w5 w,()) o∧Ev (λn=>bp o (λ_ g=>au (aq g.1) (Z ((W,()),())) (ai (F82 n (p,Kj g,())) λh=>Z h)) (λ_ g=>Z (g,())) λ_ _=>Y) ((NX p r w,()),())
 |[],pre,w,t,j,C=>by
  rw[oN]at t;refine⟨.out 0 (W,(di.length:Int),w5 w,()),.out (aY λn=>?_),?_⟩
  .simp_all[bf]
  .refine Ev.fR (λn=>(dD ..).trans (dG W _ _)) ?_;exact Ev.ai (e82 f j) bO
 |k::r,pre,w,t,j,C=>by
  have z:pre.length<di.length:=by rw[t];simp
  have E:di.getD pre.length 0=k:=by simp_all
  have l:=e82 f j;have m:∀(n:Nat)(c:Z5)(i:Int),F n (J,i,c,())=Z (.out 0 (J,i,c,())):=λn c i=>by rw[q];show au (aD i (ax di)) _ _=_;cases aD i (ax di)<;>rfl
  unfold NX;cases A:yg p w with
  |true=>
   rw[A]at l;refine⟨.out 0 (W,(pre.length:Int),w5 w,()),.out ?_,?_⟩
   .refine Ev.fR (λn=>(q n _).trans (n7 (show((pre.length:Nat):Int)<(di.length:Int)by omega) _ _)) ?_;exact Ev.ai l bO
   .refine Ev.fR (λn=>(dD ..).trans (dG W _ _)) ?_;exact Ev.ai l bO
  |false=>
   rw[A]at l
   let ⟨c,I⟩:=e34 f j k
   have step:∀{o:LO (Bool×Int×Z5×U) (Bool×U) (Z5×U) Any},Ev (λn=>(λg:(af×aN×Int×Int×U)×U=>TL.au (aa g.1.2.2.2.1 5) (Z (X (w5 w,()) (J,()))) (Z (N (aa g.1.2.2.2.1 0,aE .i64 (pre.length:Int) 1,aaK g)))) (ad8 c (iW p w k))) o->Ev (λn=>F n (W,(pre.length:Int),w5 w,())) o:=by intro o h;refine Ev.fR (λn=>(q n _).trans (n7 (show((pre.length:Nat):Int)<(di.length:Int)by omega) _ _)) ?_;refine Ev.ai l ?_;refine Ev.fR (λn=>(dG J _ _).trans (A0 (show(0:Int)<=pre.length by omega) (by omega) _)) ?_;have e:aZ di (ak ((pre.length:Nat):Int)) 0=k:=E;simp[e];exact Ev.ai I h
   have K:aE .i64 (pre.length:Int) 1=((pre++[k]).length:Int):=by rw[bF (by omega) (by omega)];simp
   rw[K]at step;cases u:iW p w k with
   |BJ=>rw[u]at step;exact⟨_,.next (step bO) (.out (aY λn=>m n _ _)),bO⟩|idle B=>rw[u]at step;exact⟨_,.ret (step bO),bO⟩|ok B e s=>
    rw[u]at step
    let ⟨a,b⟩:=td f j u
    let ⟨o,x,y⟩:=NW f v F q r (pre++[k]) B (by rw[t];simp) a b
    exact⟨o,.next (step bO) x,y⟩
variable {di:List Int}
def e43(d:jk p)(e:eE p w)(hl:di.length<=200):Ev (λn=>F43 n (p,w,di,())) ((limit p w di,()),()):=by
 unfold F43 limit;obtain⟨f,h,a,b⟩|⟨a,f,h,b⟩:=e33 d e (s:=0) (by omega)
 .rw[a];have a1:=(gQ d e a).1;have a2:=mh d e a
  let ⟨o,x,y⟩:=NW d (di:=di) (by omega) _ (λn g=>rfl) di [] f rfl a1 a2
  exact Ev.ai b (Ev.aT x (λn c=>_) _ y)
 .rw[a];refine Ev.ai b (Ev.aT (F:=λn c=>_) (o:=.out 0 (J,0,w5 f,())) (.out (aY λn=>?_)) (λn c=>_) _ bO);show au (aD 0 (ax di)) _ _=_;cases aD 0 (ax di)<;>rfl
end
end
def DE(n:Nat):O fW:=
 ai (kn ()) λd=>Z d
def ru(n:Nat):O fW:=
 Z ((J,()),())
def aeS(n:Nat)(m:Y78):O fW:=
 au (aa m.1.2.2.1 0) (DE n) (au (aa m.1.2.2.1 8) (DE n) (ru n))
def aeR(n:Nat)(l:Y78)(m:Y78):O fW:=
 au (aa l.1.2.2.1 0) (aeS n m) (au (aa l.1.2.2.1 8) (aeS n m) (ru n))
def L11:Y75:=
 λn b=>ai (F20 n (b.1,b.2.1,())) λc=>au (aq c.1.1) (DE n) (ai (F22 n (b.1,b.2.1,())) λd=>au (aq d.1.1) (DE n) (au
 (aD 12 (ax b.2.2.1)) (DE n) (ai (F28 n (b.1,b.2.1,())) λe=>au (aq (aa e.1.2.1 0)) (ru n) (ai (F35 n (e.1.1,())) λg=>
 au (aq g.1.1) (ru n) (ai (F36 n (b.1,e.1.1,())) λh=>au (aq h.1.1) (ru n) (ai (F41 n (b.1,b.2.1,e.1.1,())) λi=>ai (F28
 n (b.1,e.1.1,())) λj=>au (aq (aa i.1.2.1 0)) (ru n) (au (aq i.1.1) (ru n) (au (aq (aa j.1.2.1 0)) (ru n) (ai (F19
 n (j.1.1,e.1.1,())) λk=>au (aq k.1.1) (ru n) (ai (F21 n b) λl=>ai (F21 n (b.1,e.1.1,b.2.2)) λm=>au (aq (aa
 l.1.2.2.1 0)) (aeR n l m) (au (aq (aa m.1.2.2.1 0)) (aeR n l m) (ai (F43 n b) λo=>au o.1.1 (DE n) (ai (F43 n (b.1,e.1.1,
 b.2.2)) λp=>au p.1.1 (DE n) (ai (F35 n (l.1.1,())) λq=>au (aq q.1.1) (ru n) (ai (F35 n (m.1.1,())) λr=>au (aq
 r.1.1) (ru n) (ai (F41 n (b.1,l.1.1,m.1.1,())) λs=>au (aa s.1.2.1 0) (au s.1.1 (ai (F24 n (l.1.2.1,m.1.2.1,())) λt=>au t.1.1
 (DE n) (ru n)) (ru n)) (ru n)))))))))))))))))
abbrev arR(n:Nat):me sg:=⟨P65,K4,J,L11 n⟩
def as2(n:Nat):bH prog 11 (arR n):=cM [⟨13,cK,CK⟩,k19 n,k20 n,k21 n,k22 n,k24 n,k28 n,k35 n,k36 n,k41 n,k43 n] [] n 10 11
def JX(w:af):OP w w=W:=@gw _ (Classical.propDecidable _) rfl
theorem ai0(p:az)(w:af)(di:L Int):Ev (λn=>L11 n (p,w,di,())) ((W,()),()):=by
 let ⟨b,s,t⟩:=e20 p w
 refine Ev.ai s ?_;cases b with
 |false=>exact bO|true=>
 let ⟨e,k⟩:=t rfl
 refine Ev.fR (λn=>dG W _ _) ?_
 let ⟨b,u,v⟩:=e22 e k
 refine Ev.ai u ?_;cases b with
 |false=>exact bO|true=>
 refine Ev.fR (λn=>dG W _ _) ?_;by_cases MG:12<di.length
 .exact Ev.fR (λn=>n7 (show(12:Int)<(di.length:Int)by omega) _ _) bO
 refine Ev.fR (λn=>xb (show(di.length:Int)<=12 by omega) _ _) ?_
 let ⟨f,d⟩:=v.1 rfl
 have a:=f.ok;have c:=S9 a d;have g:eE p (kC w):=afs d c;have i:kC (kC w)=kC w:=Ta a d c;have z:=g.small a;have A:=e28 (r:=((kC w,0,()),())) e k (λ_=>rfl) λh=>absurd ⟨f,d⟩ h;have j:=e28 (r:=((kC w,0,()),())) e z (λ_=>by rw[i]) λh=>absurd ⟨f,g⟩ h;have B:Ev (λn=>F35 n (kC w,())) ((W,()),()):=by
  let ⟨b,h1,h2⟩:=e35 (kC w)
  simp_all
 have C:Ev (λn=>F36 n (p,kC w,())) ((W,()),()):=by
  grind[e36]
 have E:=e41 (r:=((W,0,()),())) e k z (λ_=>by rw[i,JX]) λh=>absurd ⟨f,d,g⟩ h;have F:Ev (λn=>F19 n (kC w,kC w,())) ((W,()),()):=by
  let ⟨b,h1,h2⟩:=arq (x:=kC w) (X0 a d)
  simp_all
 refine Ev.ai A (Ev.ai B (Ev.ai C (Ev.ai E (Ev.ai j (Ev.ai F ?_)))));refine Ev.ai (OK e k f d (by omega)) (Ev.ai (OK e z f g (by omega)) ?_);cases h1:uJ p w di with
 |none=>cases uJ p (kC w) di<;>exact bO
 |some x=>
 let ⟨x,l⟩:=x
 cases h2:uJ p (kC w) di with
 |none=>exact bO|some y=>
 let ⟨y,m⟩:=y
 have o:=e43 a d (di:=di) (by omega);have q2:=e43 a g (di:=di) (by omega);cases I:limit p w di with
 |true=>rw[I]at o;exact Ev.ai o bO|false=>
 rw[I]at o;refine Ev.ai o (Ev.ai q2 ?_);cases hl2:limit p (kC w) di with
 |true=>exact bO|false=>
 let ⟨K,P,q⟩:=UZ a d c I h1
 have q:uJ p (kC w) di=Z (dV K x,l):=q;rw[h2]at q;cases q
 let ⟨R,_,lx⟩:=Nz a d h1
 let ⟨S,_,_⟩:=Nz a g h2
 have sx:=R.small a;have sy:=S.small a;have a1:Ev (λn=>F35 n (x,())) ((W,()),()):=by
  let ⟨b,h1,h2⟩:=e35 x
  simp_all
 have a2:Ev (λn=>F35 n (dV K x,())) ((W,()),()):=by
  let ⟨b,h1,h2⟩:=e35 (dV K x)
  simp_all
 have a3:=e41 (r:=((W,0,()),())) e sx sy (λ_=>by rw[Ta a R P,JX]) λh=>absurd ⟨f,R,S⟩ h;exact Ev.ai a1 (Ev.ai a2 (Ev.ai a3 (Ev.ai (e24 (l:=l) (by omega)) bO)))
end Mn
end
section
namespace Go.Proofs.YtdddliieplcejaaGreat.meanSame
open Go TL Mn
open Go.ChangeShapes Go.WideShapes Go.ChangeAt Go.RowKit
theorem params:(Tryz.f11.params.toList)=[26,32,23]:=by kernel_rfl
theorem anj:tyL 26=some (.st 3):=by kernel_rfl
theorem anp:Tryz.prog.readableRec 26=true:=by kernel_rfl
theorem ani:tyL 32=some (.st 8):=by kernel_rfl
theorem ano:Tryz.prog.readableRec 32=true:=by kernel_rfl
theorem ank:tyL 23=some (.sl (.int .i64)):=by kernel_rfl
theorem anq:Tryz.prog.readableRec 23=true:=by kernel_rfl
theorem sz:decide (32<Tryz.prog.types.size)=true:=by kernel_rfl
theorem ann:Tryz.f11.resultTypes=#[4]:=by kernel_rfl
theorem lifted(os:Os)(started:os.Started)(H:Type)(enc:TypeId×Value->H) :
  ReturnsInHanded {} Tryz.checked os 11 .any (Rows.meanSameSpec.pre6 enc Tryz.prog Tryz.f11 Rows.meanSameRow.domain false) (Rows.meanSameSpec.post enc Tryz.prog Tryz.f11 false true false false):=by
 refine returnsInHanded_of_change_sized (C:=Tryz.checked) own started (by kernel_rfl) Tryz.func11
  (ChangeSpec.witness6 (enc:=enc) (C:=Tryz.checked) false ⟨#[],#[.agg #[.slice none 0 0,.slice none 0 0,.int .i64 0,.slice none 0 0],.agg #[.slice none 0 0,.slice none 0 0,.slice none 0 0,.slice none 0 0,.int .i64 0],.slice none 0 0],[]⟩ 8 (by kernel_rfl) (by kernel_rfl) (by kernel_rfl) (by kernel_rfl)) ?_
 intro W base args ds gs before hval hW hcnd hwt _;refine Vp (S:=sg) (P:=Tryz.prog) (ty:=tyL) (τs:=[.st 3,.st 8,.sl (.int .i64)]) (tb:=4) aea aiD laid ?_ ?_ ann Tryz.underlying4 rfl ?_ ?_ hval hW hwt
 .rw[params];refine⟨rfl,λj a b ha hb=>?_⟩
  match j with
  |0=>cases ha;cases hb;exact anj
  |1=>cases ha;cases hb;exact ani
  |2=>cases ha;cases hb;exact ank
  |j+3=>simp at ha
 .rw[params];have:=of_decide_eq_true sz;intro t ht;simp only[List.mem_cons,List.not_mem_nil,or_false]at ht;rcases ht with h|h|h
  .subst h;exact⟨anp,Nat.lt_of_le_of_lt (by decide) this⟩
  .subst h;exact⟨ano,Nat.lt_of_le_of_lt (by decide) this⟩
  .subst h;exact⟨anq,Nat.lt_of_le_of_lt (by decide) this⟩
 .intro ds hds
  match ds,hds with
  |[d1,d2,d3],_=>exact⟨rfl,rfl,rfl⟩
 .intro x;obtain⟨x1,x2,x3,u⟩:=x;obtain⟨N,h⟩:=ai0 x1 x2 x3;exact⟨L11 N,((true,()),()),as2 N,h N (Nat.le_refl _),rfl⟩
theorem proved:Rows.MeanSameSaid:=over lifted
end Go.Proofs.YtdddliieplcejaaGreat.meanSame
end
end
