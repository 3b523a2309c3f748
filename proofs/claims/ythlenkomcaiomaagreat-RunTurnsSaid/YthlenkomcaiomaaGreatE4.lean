import Derived.Room.BridgeHanded
import Derived.DataElems
import Derived.WideKeyArgs
import Derived.SizedLaws
import Derived.RowKit3
import Derived.Test.YthlenkomcaiomaaGreatProg
import Derived.KernelRfl
import Derived.Test.YthlenkomcaiomaaGreatE3
set_option linter.all false
set_option maxRecDepth 100000
set_option maxHeartbeats 0
noncomputable section
open Option renaming some->Z,none->Y
open Bool renaming true->W,false->J
open Nat renaming beq->Nq,ble->Nl,blt->Nt,succ->Ns,add->Na
open TL.LO renaming next->N,ret->X,out->H
open TL.Rx renaming ok->G,iN->M
namespace TL
open Go
variable {S:Sg}
def nK(S:Sg):Ty->L Ty
 |.st m=>S.fs m| τ=>[τ]
def Ug:L Ty->L Ty->aa
 |[],[]=>W|a::l,b::m=>sN a b&&Ug l m|_,_=>J
def NZ:∀{l m:L Ty},Ug l m=W->l=m
 |[],[],_=>rfl|a::l,b::m,h=>by simp[Ug,eX]at h;rw[j4 h.1,NZ h.2]
 |[],_::_,h=>by cases h
 |_::_,[],h=>by cases h
def FI(S:Sg)(P:cV)(ty:TypeId->O Ty):L Field->Nat->L Ty->aa
 |[],_,[]=>W|f::l,off,a=>match ty f.type with
  |some τ=>Nq f.offset off&&(Nq (P.cellsOf f.type) (cM (nK S τ))&&(Ug (a.take (cM (nK S τ))) (nK S τ)&&FI S P ty l (off+cM (nK S τ)) (a.drop (cM (nK S τ)))))|none=>J
 |_,_,_=>J
def rdT(S:Sg)(P:cV)(ty:TypeId->O Ty)(t:TypeId)(τ:Ty):aa:=match P.underlying t,τ with
 |some .bool,.bool=>W|some (.int k),.int c=>pz k c|some .string,.str=>W|some (.slice e),.sl a=>match ty e with
  |some b=>sN b a&&(Nq (P.cellsOf e) (S.width a)&&(Nl (An S a) (Nat.mul 2 (P.bytesOf e))&&Nt 0 (S.width a)))|none=>J
 |some (.struct d),.st n=>Nq (P.cellsOf t) (cM (S.fs n))&&FI S P ty d.toList 0 (S.fs n)|_,_=>J
section
variable {P:cV}{w:az}{I:Nat->Prop}
def X4(I:Nat->Prop)(w:az)(ds:L D)(vs:L aD):Prop:=PW (dP I w) ds vs
theorem mapM_some{α β:Type}{f:α->O β}:∀{l:L α}{r:L β},l.mapM f=Z r->r.length=l.length/\∀(i:Nat)(a:α),l[i]?=Z a->∃b,r[i]?=Z b/\f a=Z b
 |[],r,h=>by
  simp_all
 |x::l,r,h=>by
  simp[List.mapM_cons,Option.bind_eq_bind,wz,Option.pure_def,gV]at h;obtain⟨b,d,e,c,rfl⟩:=h
  let ⟨h1,h2⟩:=mapM_some c
  grind
def Td{a:Addr}{n:Nat}{vs:L aD}(h:w.cells? 0 a n=Z vs):vs.length=n/\∀j,j<n->∃v,vs[j]?=Z v/\w.cell? (a.add j)=Z v:=by
 unfold World.cells? at h
 let ⟨h1,h2⟩:=mapM_some h
 rw[List.length_range]at h1;refine⟨h1,λj b=>?_⟩;exact h2 j j (by rw[List.getElem?_range b])
theorem aeT{a:Addr}{v:aD}(h:w.cell? a=Z v):a.block<w.heap.size:=by
 grind[World.cell?]
theorem EK{α:Type}(p:Nat->α->Prop):∀n,(∀i,i<n->∃x,p i x)->∃l:L α,l.length=n/\∀i x,l[i]?=Z x->p i x
 |0,_=>⟨[],rfl,λi x h=>by simp at h⟩
 |n+1,h=>by
  let ⟨l,h1,h2⟩:=EK p n (λi a=>h i (by omega))
  let ⟨x,b⟩:=h n (by omega)
  refine⟨l++[x],by simp[h1],λi y a=>?_⟩
  grind
theorem GO{d:D}{v:aD}(h:dP I w d v):X4 I w [d] [v]:=⟨rfl,λj a b h1 h2=>by
 grind⟩
variable {H:Type}{Qe:TypeId×aD->H}{held:aa}
theorem trod_bool{fuel:Nat}{t:TypeId}{cs:L aD}{d:DataW H}{ps:L MemPlace}(a:P.underlying t=Z .bool)(h:DataW.trod Qe P w 0 (λ_=>W) held fuel t cs=Z (d,ps)):∃b,cs=[.bool b]:=by
 cases fuel with
 |zero=>simp[DataW.trod]at h|succ n=>
  obtain _|⟨c,_|⟨e,cs⟩⟩:=cs
  simp[DataW.trod,a]at h;cases c<;>simp[DataW.trod,a]at h
  grind
  simp[DataW.trod,a]at h
def trod_int{fuel:Nat}{t:TypeId}{k:IntKind}{cs:L aD}{d:DataW H}{ps:L MemPlace}(a:P.underlying t=Z (.int k))(h:DataW.trod Qe P w 0 (λ_=>W) held fuel t cs=Z (d,ps)):∃n,cs=[.int k n]:=by
 cases fuel with
 |zero=>simp[DataW.trod]at h|succ n=>
  obtain _|⟨c,_|⟨b,cs⟩⟩:=cs
  simp[DataW.trod,a]at h;cases c<;>simp[DataW.trod,a]at h
  simp_all
  simp[DataW.trod,a]at h
theorem Yq{fuel:Nat}{t:TypeId}{cs:L aD}{d:DataW H}{ps:L MemPlace}(a:P.underlying t=Z .string)(h:DataW.trod Qe P w 0 (λ_=>W) held fuel t cs=Z (d,ps)):∃b,cs=[.string b]:=by
 cases fuel with
 |zero=>simp[DataW.trod]at h|succ n=>
  obtain _|⟨c,_|⟨e,cs⟩⟩:=cs
  simp[DataW.trod,a]at h;cases c<;>simp[DataW.trod,a]at h
  grind
  simp[DataW.trod,a]at h
theorem trod_slice{fuel:Nat}{t e:TypeId}{cs:L aD}{d:DataW H}{ps:L MemPlace}(g:P.underlying t=Z (.slice e))(h:DataW.trod Qe P w 0 (λ_=>W) held (fuel+1) t cs=Z (d,ps)) :
  cs=[.slice Y 0 0]\/∃(a:Addr)(len cap:Nat)(f rest:L (DataW H)),cs=[.slice (Z a) len cap]/\len<=cap/\d=.slice f rest/\f.length=len/\
   ∀i,i<len->∃vs j k,w.cells? 0 (a.add (i*P.cellsOf e)) (P.cellsOf e)=Z vs/\DataW.trod Qe P w 0 (λ_=>W) held fuel e vs=Z (j,k)/\f[i]?=Z j:=by
 obtain _|⟨c,_|⟨o,cs⟩⟩:=cs
 simp[DataW.trod,g]at h
 .cases c with
  |slice a len cap=>
   cases a with
   |none=>
    obtain _|len:=len
    obtain _|cap:=cap
    exact .inl rfl;simp[DataW.trod,g]at h;simp[DataW.trod,g]at h
   |some a=>
    right
    simp only[DataW.trod,g]at h;split at h;rename_i l;rw[wz]at h
    let ⟨m,h1,h2⟩:=h
    rw[gi]at h2
    let ⟨rest,_,h3⟩:=h2
    obtain⟨rfl,_⟩:=h3
    let ⟨h4,h5⟩:=mapM_some h1
    refine⟨a,len,cap,_,_,rfl,l.2.1,rfl,by simpa using h4,λi n=>?_⟩
    let ⟨b,p,q⟩:=h5 i i (by rw[List.getElem?_range n])
    grind[Option.bind_eq_some_iff]
    cases h
  |_=>simp[DataW.trod,g]at h
 simp[DataW.trod,g]at h
theorem trod_struct{fuel:Nat}{t:TypeId}{fs:Array Field}{cs:L aD}{d:DataW H}{ps:L MemPlace}(b:P.underlying t=Z (.struct fs))(h:DataW.trod Qe P w 0 (λ_=>W) held (fuel+1) t cs=Z (d,ps)) :
  cs.length=P.cellsOf t/\∃parts:L (DataW H),d=.agg parts/\parts.length=fs.toList.length/\
   ∀(i:Nat)(f:Field),fs.toList[i]?=Z f->∃a c,DataW.trod Qe P w 0 (λ_=>W) held fuel f.type ((cs.drop f.offset).take (P.cellsOf f.type))=Z (a,c)/\parts[i]?=Z a:=by
 simp only[DataW.trod,b]at h;split at h;rw[gi]at h
 let ⟨e,h1,h2⟩:=h
 obtain⟨rfl,_⟩:=h2
 let ⟨h4,h5⟩:=mapM_some h1
 grind
 cases h
def Xv(a:fE S):∀(τ:Ty)(x:den S.A τ),∃h:mA S.A (nK S τ),fj S (nK S τ) h=(enc S τ x).cells
 |.st n,x=>⟨S.get n x,by exact(a.cells n x).symm⟩
 |.int k,x=>⟨(x,()),rfl⟩|.bool,x=>⟨(x,()),rfl⟩|.str,x=>⟨(x,()),rfl⟩|.sl e,x=>⟨(x,()),rfl⟩|.dn n,x=>⟨(x,()),(nZ _).symm⟩|.opt n,Y=>⟨(Y,()),rfl⟩|.opt n,Z y=>⟨(Z y,()),rfl⟩|.mp k v,x=>⟨(x,()),rfl⟩
def EE:∀(l m:L Ty)(h:mA S.A l)(k:mA S.A m),∃r:mA S.A (l++m),fj S (l++m) r=fj S l h++fj S m k
 |[],m,_,k=>⟨k,rfl⟩|t::l,m,h,k=>by
  let ⟨r,a⟩:=EE l m h.2 k
  exact⟨(h.1,r),by simp[List.cons_append,fj,a]⟩
theorem Jl{ts:L TypeId}{ds:L (DataW H)}(h:(DataW.weightsEach P ts ds).all (·<=reachBytes)=W):∀(i:Nat)(t:TypeId)(d:DataW H),ts[i]?=Z t->ds[i]?=Z d->(d.weights P t).all (·<=reachBytes)=W:=by
 induction ts generalizing ds with
 |nil=>simp_all|cons a ts c=>
  intro i t d h1 h2;cases ds with
  |nil=>simp at h2|cons b ds=>
   simp only[DataW.weightsEach,OH,eX]at h
   grind
theorem LH{e:TypeId}{ds:L (DataW H)}(h:(DataW.weightsAll P e ds).all (·<=reachBytes)=W):∀d∈ds,(d.weights P e).all (·<=reachBytes)=W:=by
 induction ds with
 |nil=>simp_all|cons a ds b=>
  simp only[DataW.weightsAll,OH,eX]at h
  grind
theorem N4(y:fE S){ty:TypeId->O Ty}{fuel:Nat}{cs:L aD}
  (z:∀(t:TypeId)(τ:Ty)(cs:L aD)(d:DataW H)(ps:L MemPlace),ty t=Z τ->DataW.trod Qe P w 0 (λ_=>W) held fuel t cs=Z (d,ps)->(d.weights P t).all (·<=reachBytes)=W->∃x:den S.A τ,X4 I w (enc S τ x).cells cs) :
  ∀(fs:L Field)(off:Nat)(ts:L Ty)(parts:L (DataW H)),FI S P ty fs off ts=W->off+ts.length=cs.length->(DataW.weightsEach P (fs.map (·.type)) parts).all (·<=reachBytes)=W->parts.length=fs.length->
   (∀(i:Nat)(f:Field),fs[i]?=Z f->∃c e,DataW.trod Qe P w 0 (λ_=>W) held fuel f.type ((cs.drop f.offset).take (P.cellsOf f.type))=Z (c,e)/\parts[i]?=Z c)->
   ∃h:mA S.A ts,X4 I w (fj S ts h) (cs.drop off):=by
 intro fs
 induction fs with
 |nil=>
  intro off ts parts h1 h2 _ _ _;cases ts with|nil=>exact⟨(),by simp[fj];rw[List.drop_eq_nil_of_le (by grind)];exact⟨rfl,λj a b h=>by simp at h⟩⟩|cons t ts=>cases h1
 |cons f fs g=>
  intro off ts parts h1 h2 h3 h4 h5;simp[FI]at h1;split at h1;rotate_left;cases h1;rename_i τ A;simp only[eX,bZ]at h1
  let ⟨l,n,o,h1⟩:=h1
  have l:=wA l;have n:=wA n;have o:=NZ o
  let ⟨d,e,B,q⟩:=h5 0 f rfl
  cases parts with
  |nil=>simp at q|cons p parts=>
  simp at q;subst q;have C:=Jl h3 0 f.type p rfl rfl
  let ⟨x,s⟩:=z _ _ _ _ _ A B C
  let ⟨k,E⟩:=Xv y τ x
  simp only[o7,DataW.weightsEach,OH,eX]at h3
  let ⟨r,F⟩:=g (off+(nK S τ).length) (ts.drop (nK S τ).length) parts h1 (by grind) h3.2 (by simpa using h4) (λi f K=>by
   let ⟨c,e,q1,q2⟩:=h5 (i+1) f (by simpa using K)
   simp_all)
  let ⟨m,R⟩:=EE (nK S τ) (ts.drop (nK S τ).length) k r
  have hts:nK S τ++ts.drop (nK S τ).length=ts:=by
   conv=>rhs;rw[<-YO (nK S τ).length ts]
   rw[o]
  rw[l,n]at s;rw[<-E]at s;have u:cs.drop off=(cs.drop off).take (nK S τ).length++cs.drop (off+(nK S τ).length):=by rw[<-afD,YO]
  have v:∃m:mA S.A (nK S τ++ts.drop (nK S τ).length),X4 I w (fj S _ m) (cs.drop off):=⟨m,by
   rw[R,u];exact PW.append s F⟩
  grind
theorem acS(u:fE S){ty:TypeId->O Ty}(hR:∀t τ,ty t=Z τ->rdT S P ty t τ=W)(hI:∀b,b<w.heap.size->I b) :
  ∀(fuel:Nat)(t:TypeId)(τ:Ty)(cs:L aD)(d:DataW H)(ps:L MemPlace),ty t=Z τ->DataW.trod Qe P w 0 (λ_=>W) held fuel t cs=Z (d,ps)->(d.weights P t).all (·<=reachBytes)=W->
   ∃x:den S.A τ,X4 I w (enc S τ x).cells cs:=by
 intro fuel
 induction fuel with
 |zero=>simp_all[DataW.trod]|succ fuel ih=>
  intro t τ cs d ps hτ h g;have m:=hR t τ hτ;unfold rdT at m;split at m;rename_i l;obtain⟨b,rfl⟩:=trod_bool l h;exact⟨b,GO (.lit _)⟩;rename_i k k' l;obtain⟨n,rfl⟩:=trod_int l h;obtain rfl:k=k':=by cases k<;>cases k'<;>first|rfl|cases m
  exact⟨n,GO (.lit _)⟩;rename_i l;obtain⟨b,rfl⟩:=Yq l h;refine⟨ofBytes b,GO ?_⟩;have:enc S .str (ofBytes b)=.lit (.string b):=by rfl
  exact .lit _
  .rename_i e τ' l;split at m;rotate_left;cases m;rename_i f hτe;simp only[eX]at m
   let ⟨h1,h2,h3,h4⟩:=m
   obtain rfl:=j4 h1;have h2:=wA h2;have h3:=gY h3;have h4:0<S.width f:=gY h4;obtain rfl|⟨a,len,cap,B,rest,rfl,hlc,rfl,C,q⟩:=trod_slice l h
   refine⟨[],GO ?_⟩;exact .sl [] Y 0 0 (λ_ _=>undef) (eP _) (λd o=>by cases o) (λd o=>by cases o) (λh=>absurd rfl h) (λi j d c o=>by simp at o);simp only[DataW.weights,l,List.all_cons,OH,eX,ri]at g;have hev:=LH g.2.1
   let ⟨p,E,F⟩:=EK (λi(x:den S.A f)=>∃K,w.cells? 0 (a.add (i*P.cellsOf e)) (P.cellsOf e)=Z K/\X4 I w (enc S f x).cells K) len (λi hi=>by
    grind)
   have s:∀(i j:Nat)(x:den S.A f)(c:D),p[i]?=Z x->(enc S f x).cells[j]?=Z c->∃v,w.cell? (a.add (i*S.width f+j))=Z v/\dP I w c v:=by
    intro i j x c R y
    let ⟨K,q1,q2⟩:=F i x R
    let ⟨q3,q4⟩:=Td q1
    have hj:j<P.cellsOf e:=by
     grind[lq]
    let ⟨v,hv,z⟩:=q4 j hj
    rw[Addr.add_add,h2]at z;exact⟨v,z,q2.2 j c v y hv⟩
   refine⟨p,GO ?_⟩;have HM:enc S (.sl f) p=.sl (p.map (enc S f)):=rfl;rw[HM];have r:(p.map (enc S f)).length=len:=by simp[E]
   rw[show(Value.slice (Z a) len cap)=.slice (Z a) (p.map (enc S f)).length cap by rw[r]];refine .sl _ (Z a) cap (S.width f) (λi j=>(w.cell? (a.add (i*S.width f+j))).getD undef) (by omega) (tQ u p) (λd o=>?_) (λhne=>?_) (λi j d c o y=>?_);obtain⟨x,_,rfl⟩:=wP.1 o;rw[Dg u,r];have hw1:=g.1;rw[C]at hw1;have hb:len*An S f<=2*(len*P.bytesOf e):=by
    simp_all[Nat.mul_le_mul_left,Nat.mul_left_comm]
   grind[reachBytes]
   have A:0<p.length:=by
    grind
   obtain⟨x,R⟩:∃x,p[0]?=Z x:=⟨_,iZ A⟩;obtain⟨c,y⟩:∃c,(enc S f x).cells[0]?=Z c:=⟨_,iZ (by rw[lq u];exact h4)⟩
   let ⟨v,hv,_⟩:=s 0 0 x c R y
   refine⟨a,rfl,hI _ ?_,λi j d c o y=>?_⟩;have:=aeT hv;rwa [lC]at this
   grind
   grind
  rename_i fs n l;simp only[eX]at m
  let ⟨h1,h2⟩:=m
  have h1:=wA h1;rw[bZ]at h1;obtain⟨hl,parts,rfl,Po,q⟩:=trod_struct l h;simp only[DataW.weights,l]at g
  let ⟨k,hk⟩:=N4 u ih fs.toList 0 (S.fs n) parts h2 (by omega) g Po q
  refine⟨S.FC n k,?_⟩;simp[enc,D.cells];rw[show S.cells n (S.FC n k)=_ from u.cells n _,u.sY];simpa using hk;cases m
end
section
variable {P:cV}{w:az}{H:Type}{Qe:TypeId×aD->H}
theorem Yp(p:fE S){ty:TypeId->O Ty}(l:∀t τ,ty t=Z τ->rdT S P ty t τ=W){t:TypeId}{τ:Ty}(o:ty t=Z τ){v:aD}{d:DataW H}{ps:L MemPlace}{base:Nat}(g:Value.okWide P w .any base t v)
  (h:DataW.Trod Qe P w 0 (λ_=>W) W t v d ps) (i:(d.weights P t).all (·<=reachBytes)=W):∃x:den S.A τ,dP (λb=>b<w.heap.size) w (enc S τ x) v:=by
 let ⟨fuel,h⟩:=h
 let ⟨x,f⟩:=acS (I:=λb=>b<w.heap.size) p l (λ_ h=>h) fuel t τ _ d ps o h i
 refine⟨x,?_⟩;have k:=l t τ o;unfold rdT at k;split at k;rename_i e;obtain⟨b,rfl⟩:=WideShapes.okWide_bool e g;exact f.2 0 _ _ rfl rfl;rename_i e;obtain⟨n,rfl⟩:=WideShapes.okWide_int e g;exact f.2 0 _ _ rfl rfl;rename_i e;obtain⟨b,rfl⟩:=WideShapes.okWide_string e g;exact f.2 0 _ _ rfl rfl;rename_i e;obtain⟨a,n,m,rfl⟩:=WideShapes.okWide_slice e g;exact f.2 0 _ _ rfl rfl;rename_i e;obtain⟨q,rfl,_⟩:=WideShapes.okWide_struct e g;refine .agg _ _ (by have:=f.1;grind[enc,D.cells,Value.cells]) ?_ (λj c u h1 h2=>f.2 j c u h1 (by simpa[Value.cells]using h2))
 grind[Qb,enc,D.flat,D.cells]
 cases k
def JY(i:fE S){ty:TypeId->O Ty}(l:∀t τ,ty t=Z τ->rdT S P ty t τ=W){base:Nat}:∀(ts:L TypeId)(τs:L Ty)(vs:L aD)(ds:L (DataW H))(ps:L MemPlace),
  PW (λt τ=>ty t=Z τ) ts τs->(∀(j:Nat)t v,ts[j]?=Z t->vs[j]?=Z v->Value.okWide P w .any base t v)->DataW.TrodAll Qe P w 0 (λ_=>W) W ts vs ds ps->
  (DataW.weightsEach P ts ds).all (·<=reachBytes)=W->∃x:gp S.A (τs.map λτ=>.one (.dat τ)),rY S (λb=>b<w.heap.size) w (τs.map λτ=>.one (.dat τ)) x vs [] []
 |[],[],vs,ds,ps,_,_,h,_=>by cases vs with|nil=>exact⟨(),.nil⟩|cons v vs=>cases ds<;>simp[DataW.TrodAll]at h
 |t::ts,τ::τs,vs,ds,ps,c,m,h,e=>by
  cases vs with
  |nil=>cases ds<;>simp[DataW.TrodAll]at h
  |cons v vs=>
  cases ds with
  |nil=>simp[DataW.TrodAll]at h|cons d ds=>
  let ⟨p,q,h1,h2,_⟩:=h
  simp only[DataW.weightsEach,OH,eX]at e
  let ⟨x,n⟩:=Yp i l (c.2 0 t τ rfl rfl) (m 0 t v rfl rfl) h1 e.1
  let ⟨k,o⟩:=JY i l ts τs vs ds q ⟨by simpa using c.1,λj a b f g=>c.2 (j+1) a b (by simpa using f) (by simpa using g)⟩ (λj t v f g=>m (j+1) t v (by simpa using f) (by simpa using g)) h2 e.2
  exact⟨(x,k),.one (.dat n .nil) o⟩
 |[],τ::τs,_,_,_,c,_,_,_=>by have:=c.1;simp at this
 |t::ts,[],_,_,_,c,_,_,_=>by have:=c.1;simp at this
theorem FZ{w':az}(hl:laidOutB P=W)(e:∀b,b<w.heap.size->w'.heap[b]?=w.heap[b]?):∀(ts:L TypeId)(vs:L aD)(ds:L (DataW H))(ps:L MemPlace),(∀t∈ts,P.readableRec t=W/\t<P.types.size)->
  DataW.TrodAll Qe P w 0 (λ_=>W) W ts vs ds ps->(∀p∈ps,p.block<w.heap.size)->DataW.TrodAll Qe P w' 0 (λb=>decide (b<w.heap.size)) W ts vs ds ps
 |[],[],[],ps,_,h,_=>h|t::ts,v::vs,d::ds,ps,c,h,f=>by obtain⟨p,q,h1,h2,rfl⟩:=h;refine⟨p,q,WideElems.Trod_stays hl (c t eN).1 (c t eN).2 h1 (λx a=>?_) (λx a=>by simp_all),FZ hl e ts vs ds q (λt g=>c t (ie _ g)) h2 λx a=>f x (e9 _ a),rfl⟩;have:=e x.block (f x (gf _ a));cases x with|cell b off=>show w'.cell? _=w.cell? _;unfold World.cell?;rw[show w'.heap[b]?=w.heap[b]? from this]|map b=>exact this
 |[],[],_::_,_,_,h,_=>by simp[DataW.TrodAll]at h
 |[],_::_,_,_,_,h,_=>by simp[DataW.TrodAll]at h
 |_::_,[],_,_,_,h,_=>by simp[DataW.TrodAll]at h
 |_::_,_::_,[],_,_,h,_=>by simp[DataW.TrodAll]at h
theorem MF{w':az}(c:w'.os=w.os)(a:w'.output=w.output)(e:∀b,b<w.heap.size->w'.heap[b]?=w.heap[b]?)(d:MemPlace->Prop):w.keptBut w' d:=by
 refine⟨c,a,λi f=>?_⟩
 grind
theorem Kz(hS:fE S){ty:TypeId->O Ty}(hR:∀t τ,ty t=Z τ->rdT S P ty t τ=W)(hl:laidOutB P=W){f:FuncId}{fn:Func}{s:ChangeSpec}{apart fresh i:aa}{τs:L Ty}{tb:TypeId}
  (hτ:PW (λt τ=>ty t=Z τ) fn.params.toList τs) (hrd:∀t∈fn.params.toList,P.readableRec t=W/\t<P.types.size) (C:fn.resultTypes=#[tb]) (hb:P.underlying tb=Z .bool) (k:s.vars=[])
  (w:∀ds:L (DataW H),ds.length=τs.length->(s.fn H ds).results=[.lit (.bool W)]/\(s.fn H ds).args=ds/\(s.fn H ds).vars=[])
  (hF:∀x:gp S.A (τs.map λτ=>Pk.one (.dat τ)),∃F r,bN P f (⟨τs.map λτ=>.one (.dat τ),[.dat .bool],J,F⟩:lT S)/\F x=Z r/\r.1.1=W)
  {a:az} {base:Nat} {args:Array aD} {ds E:L (DataW H)} {l:L MemPlace}
  (o:∀(j:Nat)t v,fn.params[j]?=Z t->args[j]?=Z v->Value.okWide P a .any base t v) (hW:DataW.Whole Qe P fn.params.toList s.vars apart a args.toList ds E l)
  (z:(DataW.weightsEach P (fn.params.toList++s.plain.varTypes P) (ds++E)).all (·<=reachBytes)=W) :
  Calls P f args a λe W'=>∃v,e=.returned v/\s.post Qe P fn apart fresh i J a args v W':=by
 rw[k]at hW;have m:=hW;obtain⟨p,q,hA,hV,rfl,hfz,hnd⟩:=hW;have hgs:E=[]/\q=[]:=by cases E with|nil=>exact⟨rfl,hV⟩|cons g E=>simp[DataW.TrodVars]at hV
 obtain⟨rfl,rfl⟩:=hgs;have hvt:s.plain.varTypes P=[]:=by grind[ChangeSpec.plain,DataSpec.varTypes]
 rw[hvt,iP,iP]at z
 let ⟨x,hx⟩:=JY hS hR fn.params.toList τs args.toList ds p hτ (λj t v h1 h2=>o j t v (by simpa using h1) (by simpa using h2)) hA z
 let ⟨F,r,I,hr,c⟩:=hF x
 have K:ds.length=τs.length:=by
  rw[<-hτ.1];clear o m z hfz hnd hV hx hτ hrd;generalize fn.params.toList=ts at hA;generalize args.toList=B at hA
  induction ts generalizing B ds p with
  |nil=>cases B<;>cases ds<;>simp_all [DataW.TrodAll]
  |cons t ts ih=>
   cases B with
   |nil=>cases ds<;>simp[DataW.TrodAll]at hA
   |cons v B=>
    cases ds with
    |nil=>simp[DataW.TrodAll]at hA|cons d ds=>
     grind[DataW.TrodAll]
 refine(I.2 x r hr _ a args [] [] hx (λ_ h=>h) .nil (by simp) (by simp)).mono λe W' he=>?_;cases e with
 |panicked ch=>exact he.elim|outgrown=>exact he.elim|returned v=>
 obtain⟨I',B,EN,Cb,_,_,_,hsz,A,hos,R,rfl,_,hH,_⟩:=he;have hv:valOf B=.bool W:=by
  generalize r.1=y at hH c
  let ⟨b,u⟩:=y
  cases hH with
  |dat hd hr=>
  cases hr;cases hd;simp only at c;rw[c];rfl
 rw[hv];refine⟨_,rfl,?_⟩
 let ⟨s1,s2,s3⟩:=w ds K
 have n:∀b,b<a.heap.size->W'.heap[b]?=a.heap[b]?:=λb hb=>A b hb (by simp) (by simp);have hlt:∀x∈p,x.block<a.heap.size:=λx hx=>m.lt x (by simpa using hx);rw[iP]at m;unfold ChangeSpec.post;rw[k];refine⟨ds,[],p,[],p,[],m,?_,?_,?_,MF hos R n _,λh=>by cases h⟩;rw[iP,s1,C];refine⟨[],[],⟨1,?_⟩,rfl,rfl⟩;simp[DataW.trod,hb,Value.cells]
 grind[FZ]
 rw[iP,s3];rfl
end
end TL
namespace Mn
open Go TL
section
open Proofs.Tryz
def z0:TI:=⟨1,J,[.lit .nilFunc],[],.other⟩
abbrev n1{α:Type}(x:α)(l r:Tr α):Tr α:=.node (Z x) l r
abbrev n0{α:Type}(l r:Tr α):Tr α:=.node Y l r
abbrev e0{α:Type}:Tr α:=.nil
abbrev bK{α:Type}(x:α):Tr α:=.node (Z x) .nil .nil
abbrev cS(l r:Tr TI):Tr TI:=.node (Z z0) l r
abbrev ct:Tr TI:=.node (Z z0) .nil .nil
abbrev aK:D:=.lit (.int .i64 0)
abbrev dR:D:=.lit (.string ⟨#[]⟩)
abbrev jg:D:=.lit (.pointer Y)
abbrev eE:D:=.lit .nilFunc
abbrev J1:Kd:=.struct [(0,1,J)]
abbrev vW:Kd:=.struct [(0,1,J),(1,1,J)]
abbrev sj:Kd:=.struct [(0,1,J),(1,1,J),(2,1,J)]
abbrev pR:Kd:=.struct [(0,1,J),(1,1,J),(2,1,J),(3,1,J)]
abbrev J0:Kd:=.struct [(0,1,J),(1,1,J),(2,1,J),(3,1,J),(4,1,J)]
abbrev boD(x:aa):D:=.lit (.bool x)
abbrev lN(x:Int):D:=.lit (.int .i64 x)
abbrev Un(x:L UInt8):D:=.lit (.string (cY x))
abbrev Z6(l:L Int):D:=.sl (List.map lN l)
abbrev DC{α:Type}(f:α->L D)(l:L α):D:=.sl (List.map (λy=>.agg (f y)) l)
structure bT where
 Op:Int
 A:Int
 B:Int
structure aI where
 Form:Int
 N:Int
 Text:List UInt8
 Cf:List aI
structure cL where
 Name:List UInt8
 lE:Int
structure aB where
 dJ:List bT
 ey:List aI
 dh:List Int
 Main:Int
 Cons:List cL
structure aA where
 Kind:Int
 N:Int
structure aq where
 At:Int
 Env:List aA
 Stack:List aA
 dO:aa
structure bG where
 Form:Int
 N:Int
 fL:List aA
 Frames:List aq
structure ec where
 Port:Int
 N:Int
structure ai where
 aQ:List bG
 aY:List Int
 mg:List ec
 dJ:List Int
 Used:Int
structure ax where
 Reached:aa
 Stack:Int
 Env:Int
structure bJ where
 C:aB
 D:List ax
structure aE where
 Task:Int
 Do:Int
 N:Int
 V:aA
structure bq where
 W:ai
 afj:Int
 E:aE
structure cT where
 ai:ai
 code:aB
 aa5:List ax
 RD:List (Int×aa)
structure sK where
structure iM where
 aE:aE
structure rX where
inductive fY where
 |a0 (x:sK)|a1 (x:iM)|a2 (x:rX)|none
structure di where
 QZ:Int
 N:Int
 Text:List UInt8
 Cf:List di
structure kP where
 Name:List UInt8
 lE:List di
structure o3 where
 Name:List UInt8
 Cons:List kP
structure Term where
 Op:Int
 N:Int
 Text:List UInt8
 Kids:List Term
 ey:List aI
structure dw where
 Name:List UInt8
 Param:List UInt8
 Q5:di
 To:di
 Body:Term
structure jL where
 Name:List UInt8
 agn:List o3
 dh:List dw
structure gW where
 Op:Int
 N:Int
 Kids:List Int
 ey:List aI
structure mo where
 agj:List gW
 dh:List Int
 Main:Int
 Cons:List cL
structure bz where
 At:Int
 jV:ax
structure iL where
 waits:aa
 state:Int
structure er where
 pF:List (List UInt8)
 cons:List cL
 nodes:List gW
structure oC where
 a0:Int
 a1:Int
structure cw where
 dJ:List bT
 ey:List aI
 Want:List oC
structure ny where
 env:Int
structure jX where
 stack:Int
structure nC where
 stack:Int
inductive eG where
 |a0 (x:ny)|a1 (x:jX)|a2 (x:nC)|none
structure ga where
 Kind:Int
 Text:List UInt8
 N:Int
 At:Int
structure bW where
 l_:List ga
 at_:Int
 bad:aa
structure eM where
 low:Int
 high:Int
 asked:aa
inductive Any where
 |a0 (x:iL)|none
def cg:bT:=⟨0,0,0⟩
def aR:aI:=⟨0,0,[],[]⟩
def br:cL:=⟨[],0⟩
def yH:aB:=⟨[],[],[],0,[]⟩
def bA:aA:=⟨0,0⟩
def aT:aq:=⟨0,[],[],J⟩
def bD:bG:=⟨0,0,[],[]⟩
def kM:ec:=⟨0,0⟩
def cX:ai:=⟨[],[],[],[],0⟩
def aW:ax:=⟨J,0,0⟩
def lQ:bJ:=⟨yH,[]⟩
def bP:aE:=⟨0,0,0,bA⟩
def jT:bq:=⟨cX,0,bP⟩
def EI:cT:=⟨cX,yH,[],[]⟩
def Qm:sK:=⟨⟩
def KW:iM:=⟨bP⟩
def KT:rX:=⟨⟩
def aeP:fY:=.none
def qK:di:=⟨0,0,[],[]⟩
def EH:kP:=⟨[],[]⟩
def KS:o3:=⟨[],[]⟩
def uq:Term:=⟨0,0,[],[],[]⟩
def sE:dw:=⟨[],[],qK,qK,uq⟩
def oU:jL:=⟨[],[],[]⟩
def Dn:gW:=⟨0,0,[],[]⟩
def KV:mo:=⟨[],[],0,[]⟩
def bh:bz:=⟨0,aW⟩
def BH:iL:=⟨J,0⟩
def rS:er:=⟨[],[],[]⟩
def Qn:oC:=⟨0,0⟩
def lu:cw:=⟨[],[],[]⟩
def KR:ny:=⟨0⟩
def Ag:jX:=⟨0⟩
def KU:nC:=⟨0⟩
def Xz:eG:=.none
def dS:ga:=⟨0,[],0,0⟩
def rR:bW:=⟨[],0,J⟩
def fT:eM:=⟨0,0,J⟩
def atV:Any:=.none
def xD(x:bT):L D:=[lN x.Op,lN x.A,lN x.B]
mutual
def xB:aI->L D
 |.mk x0 x1 x2 x3=>[lN x0,lN x1,Un x2,.sl (jo x3)]
def jo:L aI->L D
 |[]=>[]|y::l=>.agg (xB y)::jo l
end
def gL:∀l:L aI,jo l=l.map (λy=>.agg (xB y))
 |[]=>rfl|y::l=>by simp only[jo,o7,gL l]
def uv(x:cL):L D:=[Un x.Name,lN x.lE]
def Du(x:aB):L D:=[DC xD x.dJ,.sl (jo x.ey),Z6 x.dh,lN x.Main,DC uv x.Cons]
def BP(x:aA):L D:=[lN x.Kind,lN x.N]
def Le(x:aq):L D:=[lN x.At,DC BP x.Env,DC BP x.Stack,boD x.dO]
def FM(x:bG):L D:=[lN x.Form,lN x.N,DC BP x.fL,DC Le x.Frames]
def BQ(x:ec):L D:=[lN x.Port,lN x.N]
def XC(x:ai):L D:=[DC FM x.aQ,Z6 x.aY,DC BQ x.mg,Z6 x.dJ,lN x.Used]
def Al(x:ax):L D:=[boD x.Reached,lN x.Stack,lN x.Env]
def lR(x:bJ):L D:=[DC xD x.C.dJ,.sl (jo x.C.ey),Z6 x.C.dh,lN x.C.Main,DC uv x.C.Cons,DC Al x.D]
def Tf(x:aE):L D:=[lN x.Task,lN x.Do,lN x.N,lN x.V.Kind,lN x.V.N]
def E8(x:bq):L D:=[DC FM x.W.aQ,Z6 x.W.aY,DC BQ x.W.mg,Z6 x.W.dJ,lN x.W.Used,lN x.afj,lN x.E.Task,lN x.E.Do,lN x.E.N,lN x.E.V.Kind,lN x.E.V.N]
def xC(x:cT):L D:=[DC FM x.ai.aQ,Z6 x.ai.aY,DC BQ x.ai.mg,Z6 x.ai.dJ,lN x.ai.Used,DC xD x.code.dJ,.sl (jo x.code.ey),Z6 x.code.dh,lN x.code.Main,DC uv x.code.Cons,DC Al x.aa5,.mp (List.map (λy=>lN y.1) x.RD) (List.map (λy=>boD y.2) x.RD)]
def Qw(x:sK):L D:=[]
def Lh(x:iM):L D:=[lN x.aE.Task,lN x.aE.Do,lN x.aE.N,lN x.aE.V.Kind,lN x.aE.V.N]
def Lf(x:rX):L D:=[]
def U4:fY->O (TypeId×D)
 |.a0 x=>Z (197,.agg (Qw x))|.a1 x=>Z (203,.agg (Lh x))|.a2 x=>Z (213,.agg (Lf x))|.none=>Y
def aeV(x:fY):L D:=[Rr (U4 x)]
mutual
def ur:di->L D
 |.mk x0 x1 x2 x3=>[lN x0,lN x1,Un x2,.sl (mE x3)]
def mE:L di->L D
 |[]=>[]|y::l=>.agg (ur y)::mE l
end
def nr:∀l:L di,mE l=l.map (λy=>.agg (ur y))
 |[]=>rfl|y::l=>by simp only[mE,o7,nr l]
def sI(x:kP):L D:=[Un x.Name,.sl (mE x.lE)]
def Ld(x:o3):L D:=[Un x.Name,DC sI x.Cons]
mutual
def Qy:Term->L D
 |.mk x0 x1 x2 x3 x4=>[lN x0,lN x1,Un x2,.sl (Im x3),.sl (jo x4)]
def Im:L Term->L D
 |[]=>[]|y::l=>.agg (Qy y)::Im l
end
def Ah:∀l:L Term,Im l=l.map (λy=>.agg (Qy y))
 |[]=>rfl|y::l=>by simp only[Im,o7,Ah l]
def sH(x:dw):L D:=[Un x.Name,Un x.Param,lN x.Q5.QZ,lN x.Q5.N,Un x.Q5.Text,.sl (mE x.Q5.Cf),lN x.To.QZ,lN x.To.N,Un x.To.Text,.sl (mE x.To.Cf),lN x.Body.Op,lN x.Body.N,Un x.Body.Text,.sl (Im x.Body.Kids),.sl (jo x.Body.ey)]
def Qx(x:jL):L D:=[Un x.Name,DC Ld x.agn,DC sH x.dh]
def uu(x:gW):L D:=[lN x.Op,lN x.N,Z6 x.Kids,.sl (jo x.ey)]
def XD(x:mo):L D:=[DC uu x.agj,Z6 x.dh,lN x.Main,DC uv x.Cons]
def BO(x:bz):L D:=[lN x.At,boD x.jV.Reached,lN x.jV.Stack,lN x.jV.Env]
def BR(x:iL):L D:=[boD x.waits,lN x.state]
def Am(x:er):L D:=[.sl (List.map (λy=>Un y) x.pF),DC uv x.cons,DC uu x.nodes]
def Qz(x:oC):L D:=[lN x.a0,lN x.a1]
def oa(x:cw):L D:=[DC xD x.dJ,.sl (jo x.ey),.sl (List.map (λy=>.agg (Qz y)) x.Want)]
def Lc(x:ny):L D:=[lN x.env]
def Ix(x:jX):L D:=[lN x.stack]
def Lg(x:nC):L D:=[lN x.stack]
def KC:eG->O (TypeId×D)
 |.a0 x=>Z (315,.agg (Lc x))|.a1 x=>Z (317,.agg (Ix x))|.a2 x=>Z (318,.agg (Lg x))|.none=>Y
def XE(x:eG):L D:=[Rr (KC x)]
def Iw(x:ga):L D:=[lN x.Kind,Un x.Text,lN x.N,lN x.At]
def Ak(x:bW):L D:=[DC Iw x.l_,lN x.at_,boD x.bad]
def Tg(x:eM):L D:=[lN x.low,lN x.high,boD x.asked]
def alA:Any->O (TypeId×D)
 |.a0 x=>Z (199,.agg (BR x))|.none=>Y
def at4(x:Any):L D:=[Rr (alA x)]
def Qu:Nat->Type
 |0=>bT|1=>aI|2=>cL|3=>aB|4=>aA|5=>aq|6=>bG|7=>ec|8=>ai|9=>ax|10=>bJ|11=>aE|12=>bq|13=>cT|14=>sK|15=>iM|16=>rX|17=>fY|18=>di|19=>kP|20=>o3|21=>Term|22=>dw|23=>jL|24=>gW|25=>mo|26=>bz|27=>iL|28=>er|29=>oC|30=>cw|31=>ny|32=>jX|33=>nC|34=>eG|35=>ga|36=>bW|37=>eM|38=>Any|_+39=>U
def fields:Nat->L Ty
 |0=>[.int .i64,.int .i64,.int .i64]|1=>[.int .i64,.int .i64,.str,.sl (.st 1)]|2=>[.str,.int .i64]|3=>[.sl (.st 0),.sl (.st 1),.sl (.int .i64),.int .i64,.sl (.st 2)]|4=>[.int .i64,.int .i64]|5=>[.int .i64,.sl (.st 4),.sl (.st 4),.bool]|6=>[.int .i64,.int .i64,.sl (.st 4),.sl (.st 5)]|7=>[.int .i64,.int .i64]|8=>[.sl (.st 6),.sl (.int .i64),.sl (.st 7),.sl (.int .i64),.int .i64]|9=>[.bool,.int .i64,.int .i64]|10=>[.sl (.st 0),.sl (.st 1),.sl (.int .i64),.int .i64,.sl (.st 2),.sl (.st 9)]|11=>[.int .i64,.int .i64,.int .i64,.int .i64,.int .i64]|12=>[.sl (.st 6),.sl (.int .i64),.sl (.st 7),.sl (.int .i64),.int .i64,.int .i64,.int .i64,.int .i64,.int .i64,.int .i64,.int .i64]|13=>[.sl (.st 6),.sl (.int .i64),.sl (.st 7),.sl (.int .i64),.int .i64,.sl (.st 0),.sl (.st 1),.sl (.int .i64),.int .i64,.sl (.st 2),.sl (.st 9),.mp (.int .i64) (.bool)]|14=>[]|15=>[.int .i64,.int .i64,.int .i64,.int .i64,.int .i64]|16=>[]|17=>[.dn 17]|18=>[.int .i64,.int .i64,.str,.sl (.st 18)]|19=>[.str,.sl (.st 18)]|20=>[.str,.sl (.st 19)]|21=>[.int .i64,.int .i64,.str,.sl (.st 21),.sl (.st 1)]|22=>[.str,.str,.int .i64,.int .i64,.str,.sl (.st 18),.int .i64,.int .i64,.str,.sl (.st 18),.int .i64,.int .i64,.str,.sl (.st 21),.sl (.st 1)]|23=>[.str,.sl (.st 20),.sl (.st 22)]|24=>[.int .i64,.int .i64,.sl (.int .i64),.sl (.st 1)]|25=>[.sl (.st 24),.sl (.int .i64),.int .i64,.sl (.st 2)]|26=>[.int .i64,.bool,.int .i64,.int .i64]|27=>[.bool,.int .i64]|28=>[.sl (.str),.sl (.st 2),.sl (.st 24)]|29=>[.int .i64,.int .i64]|30=>[.sl (.st 0),.sl (.st 1),.sl (.st 29)]|31=>[.int .i64]|32=>[.int .i64]|33=>[.int .i64]|34=>[.dn 34]|35=>[.int .i64,.str,.int .i64,.int .i64]|36=>[.sl (.st 35),.int .i64,.bool]|37=>[.int .i64,.int .i64,.bool]|38=>[.dn 38]|_+39=>[]
def dflt:(n:Nat)->Qu n
 |0=>cg|1=>aR|2=>br|3=>yH|4=>bA|5=>aT|6=>bD|7=>kM|8=>cX|9=>aW|10=>lQ|11=>bP|12=>jT|13=>EI|14=>Qm|15=>KW|16=>KT|17=>aeP|18=>qK|19=>EH|20=>KS|21=>uq|22=>sE|23=>oU|24=>Dn|25=>KV|26=>bh|27=>BH|28=>rS|29=>Qn|30=>lu|31=>KR|32=>Ag|33=>KU|34=>Xz|35=>dS|36=>rR|37=>fT|38=>atV|_+39=>()
def aew:(n:Nat)->Qu n->mA Qu (fields n)
 |0,x=>(bT.Op x,bT.A x,bT.B x,())|1,x=>(aI.Form x,aI.N x,aI.Text x,aI.Cf x,())|2,x=>(cL.Name x,cL.lE x,())|3,x=>(aB.dJ x,aB.ey x,aB.dh x,aB.Main x,aB.Cons x,())|4,x=>(aA.Kind x,aA.N x,())|5,x=>(aq.At x,aq.Env x,aq.Stack x,aq.dO x,())|6,x=>(bG.Form x,bG.N x,bG.fL x,bG.Frames x,())|7,x=>(ec.Port x,ec.N x,())|8,x=>(ai.aQ x,ai.aY x,ai.mg x,ai.dJ x,ai.Used x,())|9,x=>(ax.Reached x,ax.Stack x,ax.Env x,())|10,x=>((bJ.C x).dJ,(bJ.C x).ey,(bJ.C x).dh,(bJ.C x).Main,(bJ.C x).Cons,bJ.D x,())|11,x=>(aE.Task x,aE.Do x,aE.N x,(aE.V x).Kind,(aE.V x).N,())|12,x=>((bq.W x).aQ,(bq.W x).aY,(bq.W x).mg,(bq.W x).dJ,(bq.W x).Used,bq.afj x,(bq.E x).Task,(bq.E x).Do,(bq.E x).N,(bq.E x).V.Kind,(bq.E x).V.N,())|13,x=>((cT.ai x).aQ,(cT.ai x).aY,(cT.ai x).mg,(cT.ai x).dJ,(cT.ai x).Used,(cT.code x).dJ,(cT.code x).ey,(cT.code x).dh,(cT.code x).Main,(cT.code x).Cons,cT.aa5 x,cT.RD x,())|14,_=>()|15,x=>((iM.aE x).Task,(iM.aE x).Do,(iM.aE x).N,(iM.aE x).V.Kind,(iM.aE x).V.N,())|16,_=>()|17,x=>(x,())|18,x=>(di.QZ x,di.N x,di.Text x,di.Cf x,())|19,x=>(kP.Name x,kP.lE x,())|20,x=>(o3.Name x,o3.Cons x,())|21,x=>(Term.Op x,Term.N x,Term.Text x,Term.Kids x,Term.ey x,())|22,x=>(dw.Name x,dw.Param x,(dw.Q5 x).QZ,(dw.Q5 x).N,(dw.Q5 x).Text,(dw.Q5 x).Cf,(dw.To x).QZ,(dw.To x).N,(dw.To x).Text,(dw.To x).Cf,(dw.Body x).Op,(dw.Body x).N,(dw.Body x).Text,(dw.Body x).Kids,(dw.Body x).ey,())|23,x=>(jL.Name x,jL.agn x,jL.dh x,())|24,x=>(gW.Op x,gW.N x,gW.Kids x,gW.ey x,())|25,x=>(mo.agj x,mo.dh x,mo.Main x,mo.Cons x,())|26,x=>(bz.At x,(bz.jV x).Reached,(bz.jV x).Stack,(bz.jV x).Env,())|27,x=>(iL.waits x,iL.state x,())|28,x=>(er.pF x,er.cons x,er.nodes x,())|29,x=>(oC.a0 x,oC.a1 x,())|30,x=>(cw.dJ x,cw.ey x,cw.Want x,())|31,x=>(ny.env x,())|32,x=>(jX.stack x,())|33,x=>(nC.stack x,())|34,x=>(x,())|35,x=>(ga.Kind x,ga.Text x,ga.N x,ga.At x,())|36,x=>(bW.l_ x,bW.at_ x,bW.bad x,())|37,x=>(eM.low x,eM.high x,eM.asked x,())|38,x=>(x,())|_+39,_=>()
def UU:(n:Nat)->mA Qu (fields n)->Qu n
 |0,(x0,x1,x2,())=>(⟨x0,x1,x2⟩:bT)|1,(x0,x1,x2,x3,())=>(⟨x0,x1,x2,x3⟩:aI)|2,(x0,x1,())=>(⟨x0,x1⟩:cL)|3,(x0,x1,x2,x3,x4,())=>(⟨x0,x1,x2,x3,x4⟩:aB)|4,(x0,x1,())=>(⟨x0,x1⟩:aA)|5,(x0,x1,x2,x3,())=>(⟨x0,x1,x2,x3⟩:aq)|6,(x0,x1,x2,x3,())=>(⟨x0,x1,x2,x3⟩:bG)|7,(x0,x1,())=>(⟨x0,x1⟩:ec)|8,(x0,x1,x2,x3,x4,())=>(⟨x0,x1,x2,x3,x4⟩:ai)|9,(x0,x1,x2,())=>(⟨x0,x1,x2⟩:ax)|10,(x0,x1,x2,x3,x4,x5,())=>(⟨⟨x0,x1,x2,x3,x4⟩,x5⟩:bJ)|11,(x0,x1,x2,x3,x4,())=>(⟨x0,x1,x2,⟨x3,x4⟩⟩:aE)|12,(x0,x1,x2,x3,x4,x5,x6,x7,x8,x9,x10,())=>(⟨⟨x0,x1,x2,x3,x4⟩,x5,⟨x6,x7,x8,⟨x9,x10⟩⟩⟩:bq)|13,(x0,x1,x2,x3,x4,x5,x6,x7,x8,x9,x10,x11,())=>(⟨⟨x0,x1,x2,x3,x4⟩,⟨x5,x6,x7,x8,x9⟩,x10,x11⟩:cT)|14,_=>(⟨⟩:sK)|15,(x0,x1,x2,x3,x4,())=>(⟨⟨x0,x1,x2,⟨x3,x4⟩⟩⟩:iM)|16,_=>(⟨⟩:rX)|17,(x,())=>x|18,(x0,x1,x2,x3,())=>(⟨x0,x1,x2,x3⟩:di)|19,(x0,x1,())=>(⟨x0,x1⟩:kP)|20,(x0,x1,())=>(⟨x0,x1⟩:o3)|21,(x0,x1,x2,x3,x4,())=>(⟨x0,x1,x2,x3,x4⟩:Term)|22,(x0,x1,x2,x3,x4,x5,x6,x7,x8,x9,x10,x11,x12,x13,x14,())=>(⟨x0,x1,⟨x2,x3,x4,x5⟩,⟨x6,x7,x8,x9⟩,⟨x10,x11,x12,x13,x14⟩⟩:dw)|23,(x0,x1,x2,())=>(⟨x0,x1,x2⟩:jL)|24,(x0,x1,x2,x3,())=>(⟨x0,x1,x2,x3⟩:gW)|25,(x0,x1,x2,x3,())=>(⟨x0,x1,x2,x3⟩:mo)|26,(x0,x1,x2,x3,())=>(⟨x0,⟨x1,x2,x3⟩⟩:bz)|27,(x0,x1,())=>(⟨x0,x1⟩:iL)|28,(x0,x1,x2,())=>(⟨x0,x1,x2⟩:er)|29,(x0,x1,())=>(⟨x0,x1⟩:oC)|30,(x0,x1,x2,())=>(⟨x0,x1,x2⟩:cw)|31,(x0,())=>(⟨x0⟩:ny)|32,(x0,())=>(⟨x0⟩:jX)|33,(x0,())=>(⟨x0⟩:nC)|34,(x,())=>x|35,(x0,x1,x2,x3,())=>(⟨x0,x1,x2,x3⟩:ga)|36,(x0,x1,x2,())=>(⟨x0,x1,x2⟩:bW)|37,(x0,x1,x2,())=>(⟨x0,x1,x2⟩:eM)|38,(x,())=>x|_+39,_=>()
def abg:(n:Nat)->Qu n->L D
 |0,x=>xD x|1,x=>xB x|2,x=>uv x|3,x=>Du x|4,x=>BP x|5,x=>Le x|6,x=>FM x|7,x=>BQ x|8,x=>XC x|9,x=>Al x|10,x=>lR x|11,x=>Tf x|12,x=>E8 x|13,x=>xC x|14,x=>Qw x|15,x=>Lh x|16,x=>Lf x|17,x=>aeV x|18,x=>ur x|19,x=>sI x|20,x=>Ld x|21,x=>Qy x|22,x=>sH x|23,x=>Qx x|24,x=>uu x|25,x=>XD x|26,x=>BO x|27,x=>BR x|28,x=>Am x|29,x=>Qz x|30,x=>oa x|31,x=>Lc x|32,x=>Ix x|33,x=>Lg x|34,x=>XE x|35,x=>Iw x|36,x=>Ak x|37,x=>Tg x|38,x=>at4 x|_+39,_=>[]
def IM:Nat->L (TypeId×Ty)
 |17=>[(197,.st 14),(203,.st 15),(213,.st 16)]|34=>[(315,.st 31),(317,.st 32),(318,.st 33)]|38=>[(199,.st 27)]|_=>[]
def jB:(n:Nat)->Qu n->yV Qu (IM n)
 |0,_=>()|1,_=>()|2,_=>()|3,_=>()|4,_=>()|5,_=>()|6,_=>()|7,_=>()|8,_=>()|9,_=>()|10,_=>()|11,_=>()|12,_=>()|13,_=>()|14,_=>()|15,_=>()|16,_=>()|17,.a0 x=>.inl x|17,.a1 x=>.inr (.inl x)|17,.a2 x=>.inr (.inr (.inl x))|17,.none=>.inr (.inr (.inr (())))|18,_=>()|19,_=>()|20,_=>()|21,_=>()|22,_=>()|23,_=>()|24,_=>()|25,_=>()|26,_=>()|27,_=>()|28,_=>()|29,_=>()|30,_=>()|31,_=>()|32,_=>()|33,_=>()|34,.a0 x=>.inl x|34,.a1 x=>.inr (.inl x)|34,.a2 x=>.inr (.inr (.inl x))|34,.none=>.inr (.inr (.inr (())))|35,_=>()|36,_=>()|37,_=>()|38,.a0 x=>.inl x|38,.none=>.inr (())|_+39,_=>()
def ahA:(n:Nat)->yV Qu (IM n)->Qu n
 |0,_=>cg|1,_=>aR|2,_=>br|3,_=>yH|4,_=>bA|5,_=>aT|6,_=>bD|7,_=>kM|8,_=>cX|9,_=>aW|10,_=>lQ|11,_=>bP|12,_=>jT|13,_=>EI|14,_=>Qm|15,_=>KW|16,_=>KT|17,.inl x=>(fY.a0 x)|17,.inr (.inl x)=>(fY.a1 x)|17,.inr (.inr (.inl x))=>(fY.a2 x)|17,.inr (.inr (.inr (_)))=>fY.none|18,_=>qK|19,_=>EH|20,_=>KS|21,_=>uq|22,_=>sE|23,_=>oU|24,_=>Dn|25,_=>KV|26,_=>bh|27,_=>BH|28,_=>rS|29,_=>Qn|30,_=>lu|31,_=>KR|32,_=>Ag|33,_=>KU|34,.inl x=>(eG.a0 x)|34,.inr (.inl x)=>(eG.a1 x)|34,.inr (.inr (.inl x))=>(eG.a2 x)|34,.inr (.inr (.inr (_)))=>eG.none|35,_=>dS|36,_=>rR|37,_=>fT|38,.inl x=>(Any.a0 x)|38,.inr (_)=>Any.none|_+39,_=>()
def aad:(n:Nat)->Qu n->O (TypeId×D)
 |17,x=>U4 x|34,x=>KC x|38,x=>alA x|_,_=>Y
def sg:Sg:=⟨Qu,fields,dflt,aew,UU,abg,IM,jB,ahA,aad,.dn 38⟩
def sY(n:Nat)(h:mA Qu (fields n)):aew n (UU n h)=h:=by unfold UU;split<;>rfl
def ZH:(n:Nat)->(x:Qu n)->UU n (aew n x)=x
 |0,_=>rfl|1,.mk ..=>rfl|2,_=>rfl|3,_=>rfl|4,_=>rfl|5,_=>rfl|6,_=>rfl|7,_=>rfl|8,_=>rfl|9,_=>rfl|10,_=>rfl|11,_=>rfl|12,_=>rfl|13,_=>rfl|14,_=>rfl|15,_=>rfl|16,_=>rfl|17,_=>rfl|18,.mk ..=>rfl|19,_=>rfl|20,_=>rfl|21,.mk ..=>rfl|22,⟨_,_,.mk ..,.mk ..,.mk ..⟩=>rfl|23,_=>rfl|24,_=>rfl|25,_=>rfl|26,_=>rfl|27,_=>rfl|28,_=>rfl|29,_=>rfl|30,_=>rfl|31,_=>rfl|32,_=>rfl|33,_=>rfl|34,_=>rfl|35,_=>rfl|36,_=>rfl|37,_=>rfl|38,_=>rfl|_+39,_=>rfl
def abf:(n:Nat)->(x:Qu n)->abg n x=fj sg (fields n) (aew n x)
 |0,_=>rfl|1,.mk ..=>by show xB _=_;simp only[xB,gL];rfl
 |2,_=>rfl|3,_=>by show Du _=_;simp only[Du,gL];rfl
 |4,_=>rfl|5,_=>rfl|6,_=>rfl|7,_=>rfl|8,_=>rfl|9,_=>rfl|10,_=>by show lR _=_;simp only[lR,gL];rfl
 |11,_=>rfl|12,_=>rfl|13,_=>by show xC _=_;simp only[xC,gL];rfl
 |14,_=>rfl|15,_=>rfl|16,_=>rfl|17,_=>rfl|18,.mk ..=>by show ur _=_;simp only[ur,nr];rfl
 |19,_=>by show sI _=_;simp only[sI,nr];rfl
 |20,_=>rfl|21,.mk ..=>by show Qy _=_;simp only[Qy,Ah,gL];rfl
 |22,_=>by show sH _=_;simp only[sH,Ah,gL,nr];rfl
 |23,_=>rfl|24,_=>by show uu _=_;simp only[uu,gL];rfl
 |25,_=>rfl|26,_=>rfl|27,_=>rfl|28,_=>rfl|29,_=>rfl|30,_=>by show oa _=_;simp only[oa,gL];rfl
 |31,_=>rfl|32,_=>rfl|33,_=>rfl|34,_=>rfl|35,_=>rfl|36,_=>rfl|37,_=>rfl|38,_=>rfl|_+39,_=>rfl
def adN(n:Nat):∀t∈fields n,lf t=J:=ZV (l:=fields n) (by unfold fields;split<;>rfl)
def FF(n:Nat)(h:yV Qu (IM n)):jB n (ahA n h)=h:=by unfold ahA;split<;>rfl
def aac:(n:Nat)->(x:Qu n)->aad n x=vA sg (IM n) (jB n x)
 |0,_=>rfl|1,_=>rfl|2,_=>rfl|3,_=>rfl|4,_=>rfl|5,_=>rfl|6,_=>rfl|7,_=>rfl|8,_=>rfl|9,_=>rfl|10,_=>rfl|11,_=>rfl|12,_=>rfl|13,_=>rfl|14,_=>rfl|15,_=>rfl|16,_=>rfl|17,x=>by cases x<;>rfl
 |18,_=>rfl|19,_=>rfl|20,_=>rfl|21,_=>rfl|22,_=>rfl|23,_=>rfl|24,_=>rfl|25,_=>rfl|26,_=>rfl|27,_=>rfl|28,_=>rfl|29,_=>rfl|30,_=>rfl|31,_=>rfl|32,_=>rfl|33,_=>rfl|34,x=>by cases x<;>rfl
 |35,_=>rfl|36,_=>rfl|37,_=>rfl|38,x=>by cases x<;>rfl
 |_+39,_=>rfl
def ae3(n:Nat):QH (IM n)=W:=by unfold IM;split<;>rfl
def Yw:fE sg:=⟨sY,ZH,abf,adN,FF,aac,ae3⟩
noncomputable def RA:Tr (TI):=(n0 (cS (n1 ⟨1,J,[aK],[],.leaf (.int .i64)⟩ (n1 ⟨4,W,[aK,aK,.lit (.bool J),.lit (.int .u8 0)],[.int .i64,.int .i64,.bool,.int .u8],pR⟩ (n1 ⟨1,J,[jg],[],.ptr⟩ (n1 ⟨1,J,[.sl []],[],.slice 2 W 16 [aK,aK]⟩ (n1 ⟨2,W,[aK,aK],[.int .i64,.int .i64],vW⟩ (n1 ⟨2,W,[aK,aK],[.int .i64,.int .i64],vW⟩ ct e0) (bK ⟨1,J,[jg],[],.ptr⟩)) (n1 ⟨1,J,[jg],[],.ptr⟩ (n1 ⟨3,W,[dR,.sl [],.sl []],[],sj⟩ ct e0) (n1 ⟨1,J,[jg],[],.ptr⟩ ct e0))) (cS (cS (cS ct e0) (n1 ⟨11,W,[jg,aK,.sl [],aK,.sl [],.sl [],.lit (.bool J),aK,aK,aK,jg],[],.struct [(0,1,J),(1,1,J),(2,1,J),(3,4,W),(7,3,W),(10,1,J)]⟩ ct e0)) (n0 (cS ct e0) (n1 ⟨1,J,[.sl []],[],.slice 4 W 56 [aK,aK,dR,.sl []]⟩ ct e0)))) (n1 ⟨1,J,[.sl []],[],.slice 4 W 56 [aK,aK,dR,.sl []]⟩ (n1 ⟨6,W,[.sl [],.sl [],.sl [],aK,.sl [],.sl []],[],.struct [(0,5,W),(5,1,J)]⟩ (cS (n1 ⟨1,J,[aK],[],.leaf (.int .i64)⟩ ct e0) (n1 ⟨2,W,[.lit (.bool J),aK],[.bool,.int .i64],vW⟩ ct e0)) (n1 ⟨4,W,[aK,.sl [],.sl [],.lit (.bool J)],[],pR⟩ (cS ct e0) (cS ct e0))) (cS (cS ct (n0 ct e0)) (cS e0 ct)))) (n0 (n0 (n0 (n0 (n1 ⟨1,J,[.lit .nilIface],[],.iface⟩ (bK ⟨1,J,[.lit .nilIface],[],.iface⟩) e0) (cS ct e0)) (n1 ⟨1,J,[aK],[],.leaf (.int .i64)⟩ (n1 ⟨4,W,[.sl [],.sl [],aK,.sl []],[],pR⟩ (bK ⟨2,W,[dR,.sl []],[],vW⟩) e0) (cS ct e0))) (cS (n0 (cS ct e0) (cS ct e0)) (cS (n1 ⟨1,J,[.sl []],[],.slice 4 W 32 [aK,.lit (.bool J),aK,aK]⟩ ct e0) (n1 ⟨5,W,[aK,aK,dR,.sl [],.sl []],[],J0⟩ ct e0)))) (n1 ⟨5,W,[.sl [],.sl [],.sl [],aK,.sl []],[],J0⟩ (cS (cS (cS ct e0) (n1 ⟨5,W,[aK,aK,aK,aK,aK],[.int .i64,.int .i64,.int .i64,.int .i64,.int .i64],.struct [(0,5,W)]⟩ ct e0)) (cS (n1 ⟨3,W,[.lit (.bool J),aK,aK],[.bool,.int .i64,.int .i64],sj⟩ ct e0) (cS ct e0))) (n0 (n1 ⟨2,W,[dR,aK],[.str,.int .i64],vW⟩ (cS ct e0) (n0 ct e0)) (cS (cS (bK ⟨1,W,[aK],[.int .i64],J1⟩) e0) (n1 ⟨1,J,[.sl []],[],.slice 2 W 16 [aK,aK]⟩ (bK ⟨4,W,[jg,jg,jg,dR],[],pR⟩) e0)))))) (n1 ⟨1,J,[.lit (.int .u8 0)],[],.leaf (.int .u8)⟩ (n1 ⟨1,J,[dR],[],.leaf .str⟩ (n1 ⟨1,J,[jg],[],.ptr⟩ (n1 ⟨5,W,[.sl [],.sl [],.sl [],.sl [],aK],[],J0⟩ (n1 ⟨5,W,[aK,aK,aK,aK,aK],[.int .i64,.int .i64,.int .i64,.int .i64,.int .i64],.struct [(0,1,J),(1,1,J),(2,1,J),(3,2,W)]⟩ (cS ct (bK ⟨1,J,[.lit (.int .u32 0)],[],.leaf (.int .u32)⟩)) (cS ct e0)) (cS (cS (bK ⟨1,J,[.sl []],[],.slice 2 W 40 [dR,.sl []]⟩) e0) (cS ct e0))) (n1 ⟨1,J,[.sl []],[],.slice 5 W 40 [aK,aK,aK,aK,aK]⟩ (n1 ⟨11,W,[.sl [],.sl [],.sl [],.sl [],aK,aK,aK,aK,aK,aK,aK],[],.struct [(0,5,W),(5,1,J),(6,5,W)]⟩ (cS ct e0) (cS ct e0)) (cS (cS ct e0) (n1 ⟨4,W,[aK,aK,dR,.sl []],[],pR⟩ ct e0)))) (n1 ⟨1,J,[.sl []],[],.slice 2 W 24 [dR,aK]⟩ (cS (cS (n1 ⟨3,W,[aK,aK,aK],[.int .i64,.int .i64,.int .i64],sj⟩ ct e0) (cS ct e0)) (n1 ⟨4,W,[aK,aK,.sl [],.sl []],[],pR⟩ (cS (bK ⟨2,W,[dR,.sl []],[],vW⟩) e0) (n1 ⟨3,W,[.sl [],.sl [],.sl []],[],sj⟩ ct e0))) (cS (n1 ⟨4,W,[aK,aK,dR,.sl []],[],pR⟩ (cS (bK ⟨3,W,[.sl [],aK,.lit (.bool J)],[],sj⟩) e0) (n0 ct e0)) (n0 (cS ct e0) (n1 ⟨4,W,[aK,aK,.sl [],.sl []],[],pR⟩ ct e0))))) (n0 (n1 ⟨1,J,[.lit (.int .i32 0)],[],.leaf (.int .i32)⟩ (n1 ⟨1,J,[.sl []],[],.slice 3 W 24 [.lit (.bool J),aK,aK]⟩ (n0 (cS ct (bK ⟨1,J,[jg],[],.ptr⟩)) (n1 ⟨0,W,[],[],.struct []⟩ ct e0)) (n1 ⟨1,J,[.sl []],[],.slice 2 W 16 [aK,aK]⟩ (n0 ct e0) (n1 ⟨1,J,[.sl []],[],.slice 1 J 16 [dR]⟩ (bK ⟨1,J,[jg],[],.ptr⟩) e0))) (cS (cS (cS ct e0) (bK ⟨0,W,[],[],.struct []⟩)) (cS (n1 ⟨4,W,[aK,.lit (.bool J),aK,aK],[.int .i64,.bool,.int .i64,.int .i64],.struct [(0,1,J),(1,3,W)]⟩ (bK ⟨3,W,[aK,aK,.lit (.bool J)],[.int .i64,.int .i64,.bool],sj⟩) e0) (n1 ⟨15,W,[dR,dR,aK,aK,dR,.sl [],aK,aK,dR,.sl [],aK,aK,dR,.sl [],.sl []],[],.struct [(0,1,J),(1,1,J),(2,4,W),(6,4,W),(10,5,W)]⟩ ct e0)))) (cS (cS (cS (cS ct e0) (n1 ⟨1,J,[jg],[],.ptr⟩ ct e0)) (n1 ⟨12,W,[.sl [],.sl [],.sl [],.sl [],aK,.sl [],.sl [],.sl [],aK,.sl [],.sl [],.lit (.map Y)],[],.struct [(0,5,W),(5,5,W),(10,1,J),(11,1,J)]⟩ (cS ct e0) (cS ct e0))) (n1 ⟨1,J,[aK],[],.leaf (.int .i64)⟩ (cS (n1 ⟨1,J,[.sl []],[],.slice 15 W 224 [dR,dR,aK,aK,dR,.sl [],aK,aK,dR,.sl [],aK,aK,dR,.sl [],.sl []]⟩ (bK ⟨4,W,[aK,dR,aK,aK],[.int .i64,.str,.int .i64,.int .i64],pR⟩) e0) (cS ct e0)) (cS (cS (bK ⟨1,W,[aK],[.int .i64],J1⟩) e0) (n1 ⟨3,W,[.sl [],.sl [],.sl []],[],sj⟩ (bK ⟨0,W,[],[],.array 0 1 J⟩) e0))))))) (n1 ⟨1,J,[aK],[],.leaf (.int .i64)⟩ (n1 ⟨1,J,[.lit (.bool J)],[],.leaf .bool⟩ (n0 (n1 ⟨1,J,[jg],[],.ptr⟩ (n1 ⟨5,W,[.sl [],.sl [],.sl [],.sl [],aK],[],J0⟩ (n1 ⟨2,W,[aK,aK],[.int .i64,.int .i64],vW⟩ (n1 ⟨2,W,[aK,aK],[.int .i64,.int .i64],vW⟩ (bK ⟨2,W,[aK,aK],[],.array 2 1 J⟩) ct) (n1 ⟨1,J,[jg],[],.ptr⟩ ct e0)) (n0 (n0 ct e0) (n0 ct e0))) (cS (n1 ⟨11,W,[.sl [],.sl [],.sl [],.sl [],aK,aK,aK,aK,aK,aK,aK],[],.struct [(0,5,W),(5,1,J),(6,5,W)]⟩ (cS ct e0) (cS ct e0)) (cS (cS ct e0) (n1 ⟨4,W,[aK,aK,dR,.sl []],[],pR⟩ ct e0)))) (n1 ⟨1,J,[.sl []],[],.slice 1 J 8 [aK]⟩ (n0 (cS (n1 ⟨3,W,[aK,aK,aK],[.int .i64,.int .i64,.int .i64],sj⟩ ct e0) (n0 ct e0)) (n1 ⟨1,J,[.sl []],[],.slice 4 W 64 [aK,.sl [],.sl [],.lit (.bool J)]⟩ (n0 ct e0) (n1 ⟨3,W,[.sl [],.sl [],.sl []],[],sj⟩ ct e0))) (cS (n1 ⟨1,J,[aK],[],.leaf (.int .i64)⟩ (cS ct e0) (cS ct e0)) (cS (cS ct e0) (cS ct e0))))) (n1 ⟨1,J,[.lit (.int .u64 0)],[],.leaf (.int .u64)⟩ (n1 ⟨1,J,[.lit .nilIface],[],.iface⟩ (cS (cS (cS ct ct) (n1 ⟨0,W,[],[],.struct []⟩ ct e0)) (cS (n1 ⟨4,W,[.sl [],.sl [],aK,.sl []],[],pR⟩ ct e0) (n1 ⟨1,J,[jg],[],.ptr⟩ ct e0))) (cS (cS (cS ct e0) (cS ct e0)) (cS (cS ct e0) (n1 ⟨5,W,[aK,aK,dR,.sl [],.sl []],[],J0⟩ ct e0)))) (cS (n0 (n0 (cS ct e0) (n1 ⟨1,J,[jg],[],.ptr⟩ ct e0)) (n1 ⟨1,J,[.lit (.map Y)],[],.other⟩ (cS ct e0) (cS ct e0))) (cS (n1 ⟨2,W,[dR,aK],[.str,.int .i64],vW⟩ (n1 ⟨1,J,[.sl []],[],.slice 2 W 40 [dR,.sl []]⟩ (bK ⟨1,J,[aK],[],.leaf (.int .i64)⟩) e0) (cS ct e0)) (cS (cS (bK ⟨1,W,[aK],[.int .i64],J1⟩) e0) (bK ⟨3,W,[.sl [],.sl [],.sl []],[],sj⟩)))))) (n0 (n0 (n1 ⟨1,W,[jg],[],J1⟩ (n1 ⟨1,J,[aK],[],.leaf (.int .i64)⟩ (n1 ⟨5,W,[aK,aK,aK,aK,aK],[.int .i64,.int .i64,.int .i64,.int .i64,.int .i64],.struct [(0,1,J),(1,1,J),(2,1,J),(3,2,W)]⟩ (n1 ⟨1,J,[.lit .nilIface],[],.iface⟩ (bK ⟨1,J,[.lit .nilIface],[],.iface⟩) e0) (cS ct e0)) (cS (n1 ⟨1,J,[.sl []],[],.slice 4 W 64 [aK,aK,.sl [],.sl []]⟩ (bK ⟨2,W,[dR,.sl []],[],vW⟩) e0) (cS ct e0))) (n0 (cS (cS ct e0) (n1 ⟨35,W,[eE,eE,eE,eE,eE,eE,eE,eE,eE,eE,eE,eE,eE,eE,eE,eE,eE,eE,eE,eE,eE,eE,eE,eE,eE,eE,eE,eE,eE,eE,eE,eE,eE,eE,eE],[],.array 35 1 J⟩ ct e0)) (n0 (cS ct e0) (n1 ⟨1,J,[.sl []],[],.slice 5 W 80 [aK,aK,dR,.sl [],.sl []]⟩ ct e0)))) (n1 ⟨5,W,[.sl [],.sl [],.sl [],aK,.sl []],[],J0⟩ (cS (n0 (cS ct e0) (bK ⟨5,W,[aK,aK,aK,aK,aK],[.int .i64,.int .i64,.int .i64,.int .i64,.int .i64],.struct [(0,5,W)]⟩)) (n1 ⟨4,W,[aK,aK,.sl [],.sl []],[],pR⟩ (n1 ⟨3,W,[.lit (.bool J),aK,aK],[.bool,.int .i64,.int .i64],sj⟩ (bK ⟨2,W,[dR,.sl []],[],vW⟩) e0) (cS ct e0))) (cS (n1 ⟨4,W,[aK,aK,dR,.sl []],[],pR⟩ (cS (bK ⟨3,W,[.sl [],aK,.lit (.bool J)],[],sj⟩) e0) (cS ct e0)) (cS (n1 ⟨1,J,[.lit (.map Y)],[],.other⟩ (bK ⟨1,W,[aK],[.int .i64],J1⟩) e0) (n1 ⟨4,W,[aK,aK,.sl [],.sl []],[],pR⟩ ct e0))))) (n0 (n1 ⟨1,J,[.sl []],[],.slice 3 W 24 [aK,aK,aK]⟩ (n1 ⟨6,W,[.sl [],.sl [],.sl [],aK,.sl [],.sl []],[],.struct [(0,5,W),(5,1,J)]⟩ (cS (cS ct e0) (n1 ⟨2,W,[.lit (.bool J),aK],[.bool,.int .i64],vW⟩ ct e0)) (n1 ⟨4,W,[aK,.sl [],.sl [],.lit (.bool J)],[],pR⟩ (cS ct e0) (cS ct e0))) (cS (cS (cS (bK ⟨1,J,[.sl []],[],.slice 4 W 40 [aK,dR,aK,aK]⟩) e0) (cS ct e0)) (cS (n1 ⟨4,W,[aK,.lit (.bool J),aK,aK],[.int .i64,.bool,.int .i64,.int .i64],.struct [(0,1,J),(1,3,W)]⟩ (bK ⟨3,W,[aK,aK,.lit (.bool J)],[.int .i64,.int .i64,.bool],sj⟩) e0) (n1 ⟨15,W,[dR,dR,aK,aK,dR,.sl [],aK,aK,dR,.sl [],aK,aK,dR,.sl [],.sl []],[],.struct [(0,1,J),(1,1,J),(2,4,W),(6,4,W),(10,5,W)]⟩ ct e0)))) (n1 ⟨1,J,[.sl []],[],.slice 4 W 64 [aK,aK,.sl [],.sl []]⟩ (cS (cS (cS ct e0) (n1 ⟨11,W,[jg,aK,.sl [],aK,.sl [],.sl [],.lit (.bool J),aK,aK,aK,jg],[],.struct [(0,1,J),(1,1,J),(2,1,J),(3,4,W),(7,3,W),(10,1,J)]⟩ ct e0)) (n1 ⟨12,W,[.sl [],.sl [],.sl [],.sl [],aK,.sl [],.sl [],.sl [],aK,.sl [],.sl [],.lit (.map Y)],[],.struct [(0,5,W),(5,5,W),(10,1,J),(11,1,J)]⟩ (cS ct e0) (n1 ⟨1,J,[aK],[],.leaf (.int .i64)⟩ ct e0))) (n1 ⟨1,J,[aK],[],.leaf (.int .i64)⟩ (cS (n1 ⟨3,W,[dR,.sl [],.sl []],[],sj⟩ (bK ⟨4,W,[aK,dR,aK,aK],[.int .i64,.str,.int .i64,.int .i64],pR⟩) e0) (cS (bK ⟨1,J,[.lit (.map Y)],[],.other⟩) e0)) (cS (cS (bK ⟨1,W,[aK],[.int .i64],J1⟩) e0) (cS (bK ⟨0,W,[],[],.struct [(0,0,W)]⟩) e0))))))))
noncomputable def V0:Tr (Ty):=(n0 (n0 (n1 (.int .i64) (n0 (n0 (n1 (.sl (.st 7)) e0 (n0 (bK (.st 23)) e0)) (n0 e0 (n0 e0 (bK (.sl (.st 18)))))) (n1 (.sl (.st 1)) (n1 (.st 10) (n0 (bK (.int .i64)) (bK (.st 27))) (bK (.st 5))) e0)) (n0 (n0 (n0 (n0 (n1 (.dn 17) (bK (.dn 34)) e0) e0) (n1 (.int .i64) (n0 (bK (.st 20)) e0) e0)) (n0 e0 (n0 (bK (.sl (.st 26))) e0))) (n1 (.st 3) (n0 (n0 e0 (bK (.st 15))) (n0 (bK (.st 9)) e0)) (n0 e0 (n0 (n0 (bK (.st 31)) e0) (bK (.sl (.st 29)))))))) (n1 (.int .u8) (n1 (.str) (n0 (n1 (.st 8) (n0 (n0 e0 (bK (.int .u32))) e0) (n0 (n0 (bK (.sl (.st 19))) e0) e0)) (n1 (.sl (.st 11)) (bK (.st 12)) (n0 e0 (bK (.st 18))))) (n1 (.sl (.st 2)) (n0 (n0 (bK (.st 0)) e0) (n0 e0 (bK (.st 28)))) e0)) (n0 (n1 (.int .i32) (n1 (.sl (.st 9)) (n0 e0 (bK (.st 14))) (n1 (.sl (.st 4)) e0 (bK (.sl (.str))))) (n0 (n0 e0 (bK (.st 16))) e0)) (n0 (n0 (n0 e0 (bK (.opt 11))) e0) (n1 (.int .i64) (n0 (bK (.sl (.st 22))) e0) (n0 (n0 (bK (.st 32)) e0) (bK (.st 30)))))))) (n1 (.int .i64) (n1 (.bool) (n0 (n0 (n0 (n1 (.st 4) (n1 (.st 7) (bK (.st 29)) e0) e0) e0) e0) (n1 (.sl (.int .i64)) (n0 e0 (bK (.sl (.st 5)))) (n0 (bK (.int .i64)) e0))) (n1 (.int .u64) (n1 (.dn 38) (n0 e0 (n0 (bK (.st 25)) e0)) (n0 e0 (n0 e0 (bK (.st 21))))) (n0 e0 (n0 (n1 (.st 2) (n1 (.sl (.st 20)) (bK (.int .i64)) e0) e0) e0)))) (n0 (n0 (n0 (n1 (.int .i64) (bK (.st 11)) (n0 (bK (.sl (.st 24))) e0)) (n0 e0 (n0 e0 (bK (.sl (.st 21)))))) (n0 (n0 e0 (n1 (.st 6) (n0 (bK (.st 19)) e0) e0)) (n0 (n1 (.st 1) (n0 (bK (.st 36)) e0) e0) (n0 e0 (bK (.st 24)))))) (n0 (n1 (.sl (.st 0)) e0 (n0 (n0 (n0 (bK (.sl (.st 35))) e0) e0) (n0 (n1 (.st 26) (bK (.st 37)) e0) (bK (.st 22))))) (n1 (.sl (.st 6)) (n0 e0 (n0 e0 (bK (.int .i64)))) (n1 (.int .i64) (n0 (n0 (bK (.st 35)) e0) e0) (n0 (n0 (bK (.st 33)) e0) e0)))))))
noncomputable def mtT:Tr (MT):=(n0 e0 (n0 (n0 e0 (n0 e0 (n0 (n0 e0 (bK ⟨.int .i64,Z (.bool),4⟩)) e0))) (n0 (n0 e0 (n0 e0 (n0 e0 (n0 (bK ⟨.int .i64,Z (.int .i64),3⟩) e0)))) (n0 e0 (n0 e0 (n0 (n0 e0 (n0 (bK ⟨.str,Z (.bool),4⟩) e0)) e0))))))
noncomputable def wX:Tr (L (String×FuncId)):=(n0 (n0 (n0 e0 (n0 e0 (n0 (n0 (n0 e0 (n1 [("hearth/run.event",354)] e0 e0)) e0) (n0 e0 (n0 (n0 (n1 [("hearth/code.met",356)] e0 e0) e0) e0))))) (n0 e0 (n0 (n0 (n0 (n0 e0 (n1 [("hearth/run.event",353)] e0 e0)) e0) (n0 (n0 e0 (n1 [("hearth/run.event",355)] e0 e0)) e0)) (n0 e0 (n0 e0 (n0 (n0 (n1 [("hearth/code.met",357)] e0 e0) e0) e0)))))) (n0 e0 (n0 e0 (n0 e0 (n0 e0 (n0 e0 (n0 (n0 (n1 [("hearth/code.met",358)] e0 e0) e0) e0)))))))
noncomputable def pG:Tr (Func):=(n1 f0 (n1 f1 (n1 f3 (n1 f7 (n1 f15 (n1 f31 (n1 f63 (n1 f127 (bK f255) e0) (n1 f191 (bK f319) e0)) (n1 f95 (n1 f159 (bK f287) e0) (n1 f223 (bK f351) e0))) (n1 f47 (n1 f79 (n1 f143 (bK f271) e0) (n1 f207 (bK f335) e0)) (n1 f111 (n1 f175 (bK f303) e0) (bK f239)))) (n1 f23 (n1 f39 (n1 f71 (n1 f135 (bK f263) e0) (n1 f199 (bK f327) e0)) (n1 f103 (n1 f167 (bK f295) e0) (n1 f231 (bK f359) e0))) (n1 f55 (n1 f87 (n1 f151 (bK f279) e0) (n1 f215 (bK f343) e0)) (n1 f119 (n1 f183 (bK f311) e0) (bK f247))))) (n1 f11 (n1 f19 (n1 f35 (n1 f67 (n1 f131 (bK f259) e0) (n1 f195 (bK f323) e0)) (n1 f99 (n1 f163 (bK f291) e0) (n1 f227 (bK f355) e0))) (n1 f51 (n1 f83 (n1 f147 (bK f275) e0) (n1 f211 (bK f339) e0)) (n1 f115 (n1 f179 (bK f307) e0) (bK f243)))) (n1 f27 (n1 f43 (n1 f75 (n1 f139 (bK f267) e0) (n1 f203 (bK f331) e0)) (n1 f107 (n1 f171 (bK f299) e0) (bK f235))) (n1 f59 (n1 f91 (n1 f155 (bK f283) e0) (n1 f219 (bK f347) e0)) (n1 f123 (n1 f187 (bK f315) e0) (bK f251)))))) (n1 f5 (n1 f9 (n1 f17 (n1 f33 (n1 f65 (n1 f129 (bK f257) e0) (n1 f193 (bK f321) e0)) (n1 f97 (n1 f161 (bK f289) e0) (n1 f225 (bK f353) e0))) (n1 f49 (n1 f81 (n1 f145 (bK f273) e0) (n1 f209 (bK f337) e0)) (n1 f113 (n1 f177 (bK f305) e0) (bK f241)))) (n1 f25 (n1 f41 (n1 f73 (n1 f137 (bK f265) e0) (n1 f201 (bK f329) e0)) (n1 f105 (n1 f169 (bK f297) e0) (bK f233))) (n1 f57 (n1 f89 (n1 f153 (bK f281) e0) (n1 f217 (bK f345) e0)) (n1 f121 (n1 f185 (bK f313) e0) (bK f249))))) (n1 f13 (n1 f21 (n1 f37 (n1 f69 (n1 f133 (bK f261) e0) (n1 f197 (bK f325) e0)) (n1 f101 (n1 f165 (bK f293) e0) (n1 f229 (bK f357) e0))) (n1 f53 (n1 f85 (n1 f149 (bK f277) e0) (n1 f213 (bK f341) e0)) (n1 f117 (n1 f181 (bK f309) e0) (bK f245)))) (n1 f29 (n1 f45 (n1 f77 (n1 f141 (bK f269) e0) (n1 f205 (bK f333) e0)) (n1 f109 (n1 f173 (bK f301) e0) (bK f237))) (n1 f61 (n1 f93 (n1 f157 (bK f285) e0) (n1 f221 (bK f349) e0)) (n1 f125 (n1 f189 (bK f317) e0) (bK f253))))))) (n1 f2 (n1 f4 (n1 f8 (n1 f16 (n1 f32 (n1 f64 (n1 f128 (bK f256) e0) (n1 f192 (bK f320) e0)) (n1 f96 (n1 f160 (bK f288) e0) (n1 f224 (bK f352) e0))) (n1 f48 (n1 f80 (n1 f144 (bK f272) e0) (n1 f208 (bK f336) e0)) (n1 f112 (n1 f176 (bK f304) e0) (bK f240)))) (n1 f24 (n1 f40 (n1 f72 (n1 f136 (bK f264) e0) (n1 f200 (bK f328) e0)) (n1 f104 (n1 f168 (bK f296) e0) (bK f232))) (n1 f56 (n1 f88 (n1 f152 (bK f280) e0) (n1 f216 (bK f344) e0)) (n1 f120 (n1 f184 (bK f312) e0) (bK f248))))) (n1 f12 (n1 f20 (n1 f36 (n1 f68 (n1 f132 (bK f260) e0) (n1 f196 (bK f324) e0)) (n1 f100 (n1 f164 (bK f292) e0) (n1 f228 (bK f356) e0))) (n1 f52 (n1 f84 (n1 f148 (bK f276) e0) (n1 f212 (bK f340) e0)) (n1 f116 (n1 f180 (bK f308) e0) (bK f244)))) (n1 f28 (n1 f44 (n1 f76 (n1 f140 (bK f268) e0) (n1 f204 (bK f332) e0)) (n1 f108 (n1 f172 (bK f300) e0) (bK f236))) (n1 f60 (n1 f92 (n1 f156 (bK f284) e0) (n1 f220 (bK f348) e0)) (n1 f124 (n1 f188 (bK f316) e0) (bK f252)))))) (n1 f6 (n1 f10 (n1 f18 (n1 f34 (n1 f66 (n1 f130 (bK f258) e0) (n1 f194 (bK f322) e0)) (n1 f98 (n1 f162 (bK f290) e0) (n1 f226 (bK f354) e0))) (n1 f50 (n1 f82 (n1 f146 (bK f274) e0) (n1 f210 (bK f338) e0)) (n1 f114 (n1 f178 (bK f306) e0) (bK f242)))) (n1 f26 (n1 f42 (n1 f74 (n1 f138 (bK f266) e0) (n1 f202 (bK f330) e0)) (n1 f106 (n1 f170 (bK f298) e0) (bK f234))) (n1 f58 (n1 f90 (n1 f154 (bK f282) e0) (n1 f218 (bK f346) e0)) (n1 f122 (n1 f186 (bK f314) e0) (bK f250))))) (n1 f14 (n1 f22 (n1 f38 (n1 f70 (n1 f134 (bK f262) e0) (n1 f198 (bK f326) e0)) (n1 f102 (n1 f166 (bK f294) e0) (n1 f230 (bK f358) e0))) (n1 f54 (n1 f86 (n1 f150 (bK f278) e0) (n1 f214 (bK f342) e0)) (n1 f118 (n1 f182 (bK f310) e0) (bK f246)))) (n1 f30 (n1 f46 (n1 f78 (n1 f142 (bK f270) e0) (n1 f206 (bK f334) e0)) (n1 f110 (n1 f174 (bK f302) e0) (bK f238))) (n1 f62 (n1 f94 (n1 f158 (bK f286) e0) (n1 f222 (bK f350) e0)) (n1 f126 (n1 f190 (bK f318) e0) (bK f254))))))))
noncomputable def prog:cV:=Go.Proofs.Tryz.prog
noncomputable def Ad:gC:=mkE prog RA V0 mtT wX pG λn=>bif Nq n 24 then Z 2 else Y
end
theorem h1:RA.mapKey (λk _=>acV prog (PG prog) k)=RA.mapKey λ_ i=>Z i:=by kernel_rfl
theorem h2:pG.mapKey (λk _=>prog.funcs[k]?)=pG.mapKey λ_ f=>Z f:=by kernel_rfl
theorem h3:V0.mapKey (λk τ=>(RA.get k).map (Gw sg τ))=V0.mapKey λk τ=>(RA.get k).map (Gv sg τ):=by kernel_rfl
theorem h4:pG.mapKey (λ_ f=>f.name== "runtime.NumGoroutine")=pG.mapKey λ_ _=>J:=by kernel_rfl
def h5:mtT.mapKey (λk m=>mtB Ad k m)=mtT.mapKey λ_ _=>W:=by kernel_rfl
def h6:wX.mapKey (λk l=>l.all (US prog k))=wX.mapKey λ_ _=>W:=by kernel_rfl
def af9(JA:FuncId->O (lT sg))(sh:FuncId->Nat->O X1)(d:∀f c,JA f=Z c->bN prog f c)(a:aa)(b:FuncId->L (V sg)->O JSh):fF (⟨Ad,JA,sh,a,b⟩:eI sg):=
 aaW Yw h1 h2 h3 h4 h5 h6 JA sh d a b
section
def Up(l:L (Nat×Nat×X1))(f b:Nat):O X1:=match l with
 |[]=>Y|p::l=>bif Nq p.1 f&&Nq p.2.1 b then Z p.2.2 else Up l f b
def mixed:prog.follows .mixedOrders=W:=by kernel_rfl
def aky(l:L (FuncId×lT sg))(hl:OkL prog l)(sh:FuncId->Nat->O X1)(pn:aa)(a:FuncId->L (V sg)->O JSh)(n d:Nat)(f:FuncId)(ps:L Pk)(rs:L Ck)(b:((pG.get f).bind (·.body)).isSome=W)
  {F:gp sg.A ps->O (RT pn (gJ sg.A rs×ic sg.A ps) (den sg.A sg.pt×ic sg.A ps))} (h:(λx=>vZ (⟨Ad,N9 l,sh,pn,a⟩:eI sg) n d f ps rs x)=F):bN prog f (⟨ps,rs,pn,F⟩:lT sg):=by
 cases h1:pG.get f with
 |none=>simp_all|some fn=>
  cases h2:fn.body with|none=>simp_all|some c=>have:=agb (E:=(⟨Ad,N9 l,sh,pn,a⟩:eI sg)) (af9 (N9 l) sh (Ul hl) pn a) mixed (f:=f) (fn:=fn) (c:=c) h1 h2 n d ps rs;rw[<-h];exact this
def WN(l:L (FuncId×lT sg))(hl:OkL prog l)(sh:FuncId->Nat->O X1)(pn:aa)(n d:Nat)(f:FuncId)(ps:L Pk)(rs:L Ck)(a:((pG.get f).bind (·.body)).isSome=W)
  {F:gp sg.A ps->O (RT pn (gJ sg.A rs×ic sg.A ps) (den sg.A sg.pt×ic sg.A ps))} (h:(λx=>vZ (⟨Ad,N9 l,sh,pn,λ_ _=>Y⟩:eI sg) n d f ps rs x)=F):bN prog f (⟨ps,rs,pn,F⟩:lT sg):=
 aky l hl sh pn _ n d f ps rs a h
noncomputable def Yn(l:L (FuncId×lT sg))(sh:L (Nat×Nat×X1))(pn:aa)(n f:Nat)(ps:L Pk)(rs:L Ck)(x:gp sg.A ps):O (RT pn (gJ sg.A rs×ic sg.A ps) (den sg.A sg.pt×ic sg.A ps)):=vZ (⟨Ad,N9 l,Up sh,pn,λ_ _=>Y⟩:eI sg) n 10 f ps rs x
noncomputable def Vw(f:Nat):Code:=match(pG.get f).bind (·.body)with
 |some c=>c|none=>.skip
def akm(m:Nat)(l:L (V sg)):aa:=Nq m 0||l.any λv=>match v with
 |.ptr o 0=>Nq o m|_=>J
def cjL(l:L (Nat×Nat×JSh))(f:Nat)(args:L (V sg)):O JSh:=match l with
 |[]=>Y|p::l=>bif Nq p.1 f&&akm p.2.1 args then Z p.2.2 else cjL l f args
structure OC where
 f:FuncId
 c:lT sg
 h:bN prog f c
def Cv(l:L OC)(f:FuncId):O (lT sg):=match l with
 |[]=>Y|k::l=>bif Nq k.f f then Z k.c else Cv l f
def Uk:∀{l:L OC}(f:FuncId)(c:lT sg),Cv l f=Z c->bN prog f c
 |[],_,_,h=>by cases h
 |k::l,f,c,h=>by
  unfold Cv at h;cases a:Nq k.f f with
  |true=>
   rw[a]at h;have e:k.f=f:=wA a;injection h with h
   rw[<-h,<-e];exact k.h
  |false=>rw[a]at h;exact Uk f c h
variable {pn:aa}{ps:List Pk}{rs:List Ck}
def adz(l:L OC)(sh:FuncId->Nat->O X1)(b:FuncId->L (V sg)->O JSh)(n d:Nat)(f:FuncId)
  {F:gp sg.A ps->O (RT pn (gJ sg.A rs×ic sg.A ps) (den sg.A sg.pt×ic sg.A ps))} (h:(((pG.get f).bind (·.body)).isSome,λx=>vZ (⟨Ad,Cv l,sh,pn,b⟩:eI sg) n d f ps rs x)=(W,F):=by kernel_rfl):bN prog f (⟨ps,rs,pn,F⟩:lT sg):=by
 have a:((pG.get f).bind (·.body)).isSome=W:=eC Prod.fst h;have h:(λx=>vZ (⟨Ad,Cv l,sh,pn,b⟩:eI sg) n d f ps rs x)=F:=eC Prod.snd h;cases h1:pG.get f with
 |none=>rw[h1]at a;cases a
 |some fn=>
  rw[h1]at a;cases h2:fn.body with
  |none=>rw[show(Z fn:O Func).bind (·.body)=fn.body from rfl,h2]at a;cases a
  |some c=>have:=agb (E:=(⟨Ad,Cv l,sh,pn,b⟩:eI sg)) (af9 (Cv l) sh Uk pn b) mixed (f:=f) (fn:=fn) (c:=c) h1 h2 n d ps rs;rw[<-h];exact this
def wE(l:L OC)(sh:L (Nat×Nat×X1))(n d:Nat)(f:FuncId)
  {F:gp sg.A ps->O (RT pn (gJ sg.A rs×ic sg.A ps) (den sg.A sg.pt×ic sg.A ps))} (h:(((pG.get f).bind (·.body)).isSome,λx=>vZ (⟨Ad,Cv l,Up sh,pn,λ_ _=>Y⟩:eI sg) n d f ps rs x)=(W,F):=by kernel_rfl):bN prog f (⟨ps,rs,pn,F⟩:lT sg):=adz l (Up sh) (λ_ _=>Y) n d f h
abbrev lS(l:Sh):X1:=⟨l,[],[],0⟩
def dm(l:L OC)(sh:L (Nat×Nat×X1))(n:Nat)(f:FuncId)(ps:L Pk)(rs:L Ck)(pn:aa)
  (F:gp sg.A ps->O (RT pn (gJ sg.A rs×ic sg.A ps) (den sg.A sg.pt×ic sg.A ps))) (h:(((pG.get f).bind (·.body)).isSome,λx=>vZ (⟨Ad,Cv l,Up sh,pn,λ_ _=>Y⟩:eI sg) n 10 f ps rs x)=(W,F):=by kernel_rfl):OC:=⟨f,⟨ps,rs,pn,F⟩,wE l sh n 10 f h⟩
def ZI(l:L OC)(sh:L (Nat×Nat×X1))(n f:Nat)(ps:L Pk)(rs:L Ck)(pn:aa)(a:((pG.get f).bind (·.body)).isSome=W:=by kernel_rfl):OC:=⟨f,⟨ps,rs,pn,λx=>vZ (⟨Ad,Cv l,Up sh,pn,λ_ _=>Y⟩:eI sg) n 10 f ps rs x⟩,wE l sh n 10 f (by rw[a])⟩
def enters(f:FuncId)(a:((pG.get f).bind (·.body)).isSome=W):mF prog f:=
 (WN [] trivial (λ_ _=>Y) J 0 0 f [] [] a rfl).1
end
abbrev b31y:Ck:=.dat (.sl (.st 25))
abbrev Nc:Ck:=.dat (.sl (.st 7))
abbrev abo:Ck:=.dat (.sl (.st 6))
abbrev vH:Ck:=.dat (.sl (.st 5))
abbrev xI:Ck:=.dat (.sl (.st 4))
abbrev b8y:Ck:=.dat (.sl (.st 2))
abbrev b7y:Ck:=.dat (.sl (.st 1))
abbrev b6y:Ck:=.dat (.sl (.st 0))
abbrev Fa:Ck:=.dat (.sl (.int .i64))
abbrev Ru:Ck:=.dat (.bool)
abbrev nw:Ck:=.dat (.int .i64)
abbrev dM:Pk:=.one (Ru)
abbrev dA:Pk:=.one (nw)
abbrev abm:Pk:=.box (.cells [.own (.st 9)])
abbrev Tm:Pk:=.box (.map (.int .i64) (.bool))
abbrev xH:Pk:=.hid (.map (.int .i64) (.bool))
abbrev Fb:Pk:=.box (.cells [.own (.int .i64)])
abbrev Fc:Pk:=.box (.map (.int .i64) (.int .i64))
abbrev ana:Pk:=.box (.cells [.dat (.str),.own (.st 20),.own (.st 22)])
abbrev IB:Pk:=.box (.cells [.dat (.sl (.st 35)),nw,Ru])
abbrev aeY:Pk:=.box (.cells [b6y,b7y,.dat (.sl (.st 29))])
abbrev abn:Pk:=.box (.cells [.dat (.sl (.str)),b8y,.kE 24 2 (.int .i64)])
abbrev anb:Pk:=.box (.cells [.nil (.st 24),.nil (.int .i64),nw,.nil (.st 2)])
abbrev aeZ:Pk:=.box (.cells [nw,.dat (.str),nw,nw])
abbrev ae0:Pk:=.box (.cells [nw,nw,.nil (.int .i64),.own (.st 1)])
abbrev JI:Pk:=.box (.cells [nw,nw,xI,.own (.st 5)])
abbrev anc:Pk:=.box (.cells [nw,nw,.nil (.st 4),vH])
abbrev ae1:Pk:=.box (.cells [nw,nw,xI,vH])
abbrev b7z:Pk:=.box (.cells [nw,nw,.dat (.str),.dat (.sl (.st 21)),b7y])
abbrev b6z:Pk:=.box (.cells [.own (.st 6),.own (.int .i64),Nc,Fa,nw])
abbrev b5z:Pk:=.box (.cells [b6y,b7y,Fa,nw,b8y])
abbrev b4z:Pk:=.box (.cells [abo,Fa,Nc,Fa,nw])
abbrev b3z:Pk:=.box (.link J [] [nw,vH,nw,xI,xI,Ru,nw,nw,nw,.dat (.opt 11)])
abbrev b2z:Pk:=.box (.cells [abo,Fa,Nc,Fa,nw,nw,nw,nw,nw,nw,nw])
abbrev b1z:Pk:=.hid (.link W [abo,Fa,Nc,Fa,nw,b6y,b7y,Fa,nw,b8y,.dat (.sl (.st 9))] [])
abbrev b0z:Pk:=.box (.link W [abo,Fa,Nc,Fa,nw,b6y,b7y,Fa,nw,b8y,.dat (.sl (.st 9))] [])
abbrev P1:L Pk:=[.one (.dat (.st 1)),dA]
abbrev K2:L Ck:=[nw]
abbrev P3:L Pk:=[.one (.dat (.st 1))]
abbrev K4:L Ck:=[Ru]
abbrev P5:L Pk:=[.one (.dat (.st 3))]
abbrev P6:L Pk:=[dA,dA,dA]
abbrev P7:L Pk:=[.one (.dat (.str))]
abbrev P8:L Pk:=[.one (b8y)]
abbrev P9:L Pk:=[.one (.dat (.st 1)),.one (b8y)]
abbrev P10:L Pk:=[.one (.dat (.st 3)),dA]
abbrev K11:L Ck:=[.dat (.st 37),.dat (.st 37),Ru]
abbrev P12:L Pk:=[.one (.dat (.st 3)),.one (.dat (.st 0))]
abbrev K13:L Ck:=[.dat (.dn 34)]
abbrev P14:L Pk:=[dA,dA]
abbrev K15:L Ck:=[.dat (.st 9)]
abbrev K16:L Ck:=[nw,nw]
abbrev P17:L Pk:=[.one (.dat (.st 0)),.one (.dat (.dn 34))]
abbrev K18:L Ck:=[.dat (.sl (.st 9)),nw]
abbrev P19:L Pk:=[.one (Fa)]
abbrev K20:L Ck:=[.dat (.st 4)]
abbrev K21:L Ck:=[Fa]
abbrev P22:L Pk:=[.one (abo)]
abbrev K23:L Ck:=[.own (.st 6)]
abbrev P24:L Pk:=[b0z,xH,dA,.one (.dat (.st 6))]
abbrev P25:L Pk:=[b3z,b1z,xH,.one (xI)]
abbrev P26:L Pk:=[dA]
abbrev P27:L Pk:=[dM]
abbrev zx:L Pk:=[b3z,b1z,xH]
abbrev P29:L Pk:=[dM,dA]
abbrev P30:L Pk:=[b3z,b1z,xH,.one (.dat (.st 6))]
abbrev K31:L Ck:=[.dat (.st 4),.dat (.st 4)]
abbrev P32:L Pk:=[b3z,b1z,xH,.one (.dat (.st 4)),dA]
abbrev K33:L Ck:=[.dat (.st 6),Ru]
abbrev P34:L Pk:=[b3z,b1z,xH,.one (.dat (.st 4)),.one (.dat (.st 4))]
abbrev K35:L Ck:=[.dat (.st 5),Ru]
abbrev P36:L Pk:=[b3z,b1z,xH,.one (vH)]
abbrev P37:L Pk:=[.one (vH)]
abbrev K38:L Ck:=[.own (.st 5)]
abbrev K39:L Ck:=[.dat (.st 6)]
abbrev K40:L Ck:=[vH]
abbrev P41:L Pk:=[.one (xI)]
abbrev K42:L Ck:=[.own (.st 4)]
abbrev P43:L Pk:=[b3z,b1z,xH,.one (.dat (.st 1)),.one (.dat (.st 4))]
abbrev K44:L Ck:=[xI,Ru]
abbrev P45:L Pk:=[.one (.dat (.st 4))]
abbrev P46:L Pk:=[b3z,b1z,xH,dA,.one (.dat (.st 6))]
abbrev P47:L Pk:=[b0z,xH,dA]
abbrev K48:L Ck:=[.dat (.dn 17)]
abbrev P49:L Pk:=[.one (.dat (.dn 17))]
abbrev K50:L Ck:=[nw,Ru]
abbrev P51:L Pk:=[.one (Nc)]
abbrev K52:L Ck:=[Nc]
abbrev P53:L Pk:=[b0z,xH]
abbrev K54:L Ck:=[.dat (.st 8)]
abbrev P55:L Pk:=[.one (.dat (.st 3)),.one (Fa)]
abbrev K56:L Ck:=[.dat (.st 8),nw]
abbrev P57:L Pk:=[.one (.dat (.st 7))]
abbrev P58:L Pk:=[.one (.ptr (.st 13)),.one (.dat (.st 4))]
abbrev P59:L Pk:=[.one (.ptr (.st 13)),.one (.dat (.st 5)),dA]
abbrev P60:L Pk:=[.one (.ptr (.st 13)),.one (.dat (.st 5))]
abbrev P61:L Pk:=[.one (.ptr (.st 13)),.one (.dat (.st 6))]
abbrev P62:L Pk:=[.one (.ptr (.st 13))]
abbrev K63:L Ck:=[.dat (.st 11),nw,nw]
abbrev P64:L Pk:=[.one (.dat (.st 3)),.one (.dat (.st 8)),.one (Fa)]
abbrev K65:L Ck:=[.dat (.st 8),.dat (.sl (.st 11)),nw]
abbrev P66:L Pk:=[.one (.dat (.st 3)),.one (.dat (.st 8))]
abbrev P67:L Pk:=[.one (.dat (.st 3)),.one (.dat (.st 8)),dA]
abbrev K68:L Ck:=[.dat (.st 8),.dat (.st 11),nw,nw]
abbrev P69:L Pk:=[.one (.dat (.str)),dA]
abbrev P70:L Pk:=[.one (.dat (.sl (.str))),.one (.dat (.str))]
abbrev K71:L Ck:=[.dat (.sl (.str))]
abbrev P72:L Pk:=[.one (.dat (.int .u8))]
abbrev P73:L Pk:=[.one (.dat (.str)),dA,dM]
abbrev K74:L Ck:=[.dat (.str)]
abbrev K75:L Ck:=[.dat (.st 35)]
abbrev K76:L Ck:=[.dat (.sl (.st 35)),nw]
abbrev P77:L Pk:=[.one (.ptr (.st 36)),.one (.dat (.str))]
abbrev P78:L Pk:=[IB,.one (.dat (.str))]
abbrev P79:L Pk:=[.one (.ptr (.st 36)),dA]
abbrev Q1:L Pk:=[IB,dA]
abbrev nA:L Pk:=[IB]
abbrev K82:L Ck:=[.dat (.st 18)]
abbrev K83:L Ck:=[.dat (.st 20)]
abbrev P84:L Pk:=[dA,.one (.dat (.st 21)),.one (.dat (.st 21))]
abbrev K85:L Ck:=[.dat (.st 21)]
abbrev K86:L Ck:=[.dat (.st 1)]
abbrev P87:L Pk:=[.one (.ptr (.st 36))]
abbrev K88:L Ck:=[.dat (.sl (.st 21))]
abbrev K89:L Ck:=[.dat (.st 22)]
abbrev K90:L Ck:=[.dat (.st 23)]
abbrev P91:L Pk:=[.one (.dat (.st 18)),dA]
abbrev P92:L Pk:=[.one (.dat (.st 18)),dM]
abbrev P93:L Pk:=[.one (.dat (.st 18))]
abbrev P94:L Pk:=[.one (.dat (.st 20))]
abbrev P95:L Pk:=[.one (.dat (.st 21)),dA,dA]
abbrev P96:L Pk:=[.one (.dat (.st 21)),dM,dM,dM]
abbrev P97:L Pk:=[.one (.dat (.st 21))]
abbrev P98:L Pk:=[.one (.dat (.sl (.str)))]
abbrev P99:L Pk:=[.one (.dat (.st 23))]
abbrev K100:L Ck:=[.dat (.st 23),nw]
abbrev K101:L Ck:=[b8y]
abbrev aoc:L Pk:=[.one (b8y),.one (.dat (.str))]
abbrev TF:L Pk:=[.one (.ptr (.st 28)),.one (.dat (.st 1))]
abbrev avn:L Pk:=[.one (.dat (.sl (.str))),.one (.dat (.sl (.str)))]
abbrev avm:L Pk:=[.one (.dat (.st 21)),dA]
abbrev XZ:L Pk:=[.one (.ptr (.st 28)),.one (.dat (.st 21)),.one (.dat (.sl (.str)))]
abbrev TE:L Pk:=[abn,.one (.dat (.st 1))]
abbrev XY:L Pk:=[abn,.one (.dat (.st 21)),.one (.dat (.sl (.str)))]
abbrev K109:L Ck:=[.dat (.st 25),nw]
abbrev avl:L Pk:=[.one (.dat (.st 30)),dA]
abbrev K111:L Ck:=[.dat (.st 30)]
abbrev aob:L Pk:=[.one (.dat (.st 30)),dA,dA]
abbrev avk:L Pk:=[.one (.dat (.st 30)),dM]
abbrev TD:L Pk:=[.one (.dat (.st 30)),.one (.dat (.st 25)),dA,dM]
abbrev XX:L Pk:=[.one (.dat (.st 30)),.one (.dat (.st 25)),.one (.dat (.st 24)),dM]
abbrev aoa:L Pk:=[.one (.dat (.st 25))]
abbrev K117:L Ck:=[.dat (.st 3)]
abbrev avj:L Pk:=[.one (.dat (.st 3)),dA,.one (.dat (.st 9))]
abbrev K119:L Ck:=[.dat (.sl (.st 26)),Ru]
abbrev K120:L Ck:=[.dat (.sl (.st 9)),Ru]
abbrev K121:L Ck:=[.dat (.st 10),Ru]
abbrev an9:L Pk:=[.one (Fa),dA]
abbrev avi:L Pk:=[.one (Fa),.one (Fa)]
abbrev avh:L Pk:=[.one (Nc),.one (Nc)]
abbrev avg:L Pk:=[.one (xI),.one (xI)]
abbrev avf:L Pk:=[.one (.dat (.st 6)),.one (.dat (.st 6))]
abbrev ave:L Pk:=[.one (.dat (.st 8)),.one (.dat (.st 8))]
abbrev ajb:L Pk:=[.one (.dat (.st 8))]
abbrev avd:L Pk:=[.one (.dat (.st 10)),.one (.dat (.st 0))]
abbrev avc:L Pk:=[.one (vH),.one (.dat (.st 5))]
abbrev avb:L Pk:=[.one (.dat (.st 8)),dA,dA]
abbrev K132:L Ck:=[.dat (.st 12)]
abbrev ava:L Pk:=[.one (.dat (.st 8)),dA,.one (vH)]
abbrev au9:L Pk:=[.one (xI),.one (.dat (.st 4))]
abbrev K135:L Ck:=[xI]
abbrev au8:L Pk:=[.one (vH),.one (.dat (.st 4))]
abbrev au7:L Pk:=[.one (.dat (.st 8)),dA,.one (vH),.one (.dat (.st 6))]
abbrev au6:L Pk:=[.one (.dat (.st 8)),.one (.dat (.st 4)),dA]
abbrev au5:L Pk:=[.one (.dat (.st 10)),.one (.dat (.st 8)),.one (.dat (.st 4)),.one (.dat (.st 4))]
abbrev au3:L Pk:=[.one (.dat (.st 10)),.one (.dat (.st 8)),dA,.one (vH),.one (.dat (.st 4)),.one (.dat (.st 4)),dM]
abbrev XW:L Pk:=[.one (.dat (.st 8)),.one (.dat (.st 1)),.one (.dat (.st 4))]
abbrev au2:L Pk:=[.one (.dat (.st 10)),.one (.dat (.st 8)),dA,.one (vH),.one (.dat (.st 0)),.one (xI)]
abbrev au1:L Pk:=[.one (.dat (.st 8)),dA,.one (vH),dA,.one (.dat (.st 4)),.one (.dat (.st 4))]
abbrev au0:L Pk:=[.one (.dat (.st 12)),dA,dA,dA,.one (.dat (.st 4))]
abbrev an8:L Pk:=[.one (.dat (.st 8)),dA,.one (vH),dA,.one (xI)]
abbrev auZ:L Pk:=[.one (.dat (.st 10)),.one (.dat (.st 8)),dA,.one (vH),.one (.dat (.st 4))]
abbrev auY:L Pk:=[.one (.dat (.st 8)),dA,.one (vH),.one (.dat (.st 4))]
abbrev auX:L Pk:=[.one (.dat (.st 8)),dA,.one (vH),.one (.dat (.st 0)),.one (xI)]
abbrev auW:L Pk:=[.one (.dat (.st 8)),dA,.one (vH),dA]
abbrev aja:L Pk:=[.one (.dat (.st 10)),.one (.dat (.st 8)),dA]
abbrev K151:L Ck:=[.dat (.st 8),nw,Ru]
abbrev P152:L Pk:=[.one (.dat (.st 10)),.one (Fa)]
abbrev K153:L Ck:=[.dat (.st 8),Ru]
abbrev auV:L Pk:=[.one (.dat (.st 10)),.one (.dat (.st 8)),.one (.dat (.st 4))]
abbrev auU:L Pk:=[.one (.dat (.st 10)),.one (.dat (.st 8)),.one (xI),dA]
abbrev auT:L Pk:=[.one (.dat (.st 10)),.one (.dat (.st 8)),.one (vH),dM]
abbrev auS:L Pk:=[.one (.dat (.st 10)),dA]
abbrev auR:L Pk:=[.one (.dat (.st 10)),.one (.dat (.st 8)),.one (.dat (.st 6))]
abbrev an7:L Pk:=[.one (.dat (.st 10)),.one (.dat (.st 8))]
abbrev auQ:L Pk:=[.one (.dat (.st 10)),.one (.dat (.st 8)),.one (Fa)]
abbrev auP:L Pk:=[.one (.dat (.sl (.st 11))),.one (.dat (.sl (.st 11)))]
abbrev P162:L Pk:=[.one (.own (.int .i64)),.one (xI)]
abbrev K163:L Ck:=[.own (.int .i64)]
abbrev P164:L Pk:=[.one (xI),.one (Fa)]
abbrev K165:L Ck:=[.dat (.st 8),nw,nw]
abbrev P166:L Pk:=[.one (.dat (.st 3)),.one (.dat (.st 8)),.one (Fa),.one (Fa)]
abbrev K167:L Ck:=[Fa,nw]
abbrev K168:L Ck:=[.dat (.st 8),.dat (.st 11),nw]
abbrev P169:L Pk:=[.one (.dat (.st 5)),.one (.dat (.st 5))]
abbrev P170:L Pk:=[.one (.dat (.st 3)),.one (.dat (.st 8)),.one (.dat (.st 8))]
abbrev K171:L Ck:=[Ru,nw]
abbrev auO:L Pk:=[.one (.dat (.st 14))]
abbrev K173:L Ck:=[.dat (.st 11)]
abbrev auN:L Pk:=[.one (.dat (.st 15))]
abbrev auM:L Pk:=[.one (.dat (.st 16))]
abbrev auL:L Pk:=[.one (.dat (.st 31)),.one (.dat (.st 9))]
abbrev auK:L Pk:=[.one (.dat (.st 32)),.one (.dat (.st 9))]
abbrev auJ:L Pk:=[.one (.dat (.st 33)),.one (.dat (.st 9))]
abbrev Fn(ps:L Pk)(rs:L Ck)(pn:aa):Type:=gp sg.A ps->O (RT pn (gJ sg.A rs×ic sg.A ps) (den sg.A sg.pt×ic sg.A ps))
abbrev Y1:=ai×Int×L aq×Int×L aA×U
abbrev Y2:=(bq×U)×U
abbrev Y3:=Nat->Y1->O Y2
abbrev Y4:=(aa×U)×U
abbrev Y5:=Nat->Int×U->O Y4
abbrev Y6:=U×Int×L aq×Int×L aA×L aA×aa×Int×Int×Int×O aE×U
abbrev Y7:=(L bG×L Int×L ec×L Int×Int×L bT×L aI×L Int×Int×L cL×L ax×U)×U
abbrev Y8:=(aA×U)×Y6×Y7×L (Int×aa)×U
abbrev Y9:=Y6×Y7×L (Int×aa)×U
abbrev Y10:=U×Y6×Y7×L (Int×aa)×U
abbrev Y11:=Any×Y6×Y7×L (Int×aa)×U
abbrev JP:=Nat->Y9->O (Rx Y10 Y11)
abbrev Lr:=Int×Int×L aA×L aq×U
abbrev oY:=L ga×Int×aa×U
abbrev Lq:=Int×Int×L UInt8×L Term×L aI×U
abbrev Y16:=(Term×U)×U
abbrev QT:=(Term×U)×oY×U
abbrev NU:=oY×U->O QT
abbrev Y19:=Nat->NU->oY×U->O QT
abbrev Y20:=(aI×U)×oY×U
abbrev Y21:=aa×oY×Lq×U
abbrev Yf:=L aq×U
abbrev Y23:=Y6×Y7×L (Int×aa)×aA×aA×U
abbrev Y24:=Yf×Y6×Y7×L (Int×aa)×U
abbrev Y25:=Nat->ai×ai×U->O Y4
abbrev JN:=(cw×U)×U
abbrev Ye:=LO (aa×U) (Int×U) U Any
abbrev Y28:=aB×bT×U
abbrev IN:=O ((Int×U)×U)
abbrev Y30:=L bT×L aI×L oC×U
abbrev XL:=cw×mo×Int×aa×U
abbrev Y32:=cw×mo×gW×aa×U
abbrev Y33:=L Int×Int×Y30×U
abbrev Y34:=LO (aa×Y30×U) U (Y30×U) Any
abbrev Y35:=O ((bJ×aa×U)×U)
abbrev DD:=L bG×L Int×L ec×L Int×Int×U
abbrev Y37:=aa×Int×DD×U
abbrev Y38:=(ai×aE×Int×Int×U)×U
abbrev Y39:=(ai×Int×aa×U)×U
abbrev Y40:=bJ×ai×L Int×U
abbrev Y41:=Nat->Int×Int×Int×U->O Y4
abbrev VF:=(ax×U)×U
abbrev Y43:=Nat->Int×Int×U->O VF
abbrev VE:=bJ×ai×Int×U
abbrev Y45:=Yf×U->O Y2
abbrev Y46:=(aA×U)×U
abbrev Y47:=LO (aa×U) U U Any
abbrev Y48:=ai×Int×L aq×bT×L aA×U
abbrev Y49:=aB×ai×U
abbrev Y50:=(ai×Int×U)×U
abbrev Y51:=Int×L (Int×aa)×U
abbrev Y52:=L (Int×aa)×U
abbrev Y53:=ai×Int×L aq×Int×aA×aA×U
abbrev Y54:=LO (Int×aa×U) U U Any
abbrev Y55:=O ((L Term×U)×oY×U)
abbrev Y56:=oY×Int×U->Y55
abbrev Y57:=(L aA×U)×U
abbrev Y58:=L aA×Int×U
abbrev Y59:=(Int×Int×U)×U
abbrev Y60:=Nat->(aI×U->O Y4)->aI×U->O Y4
abbrev Y61:=L cL×Int×U
abbrev Y62:=Nat->L UInt8×U->O Y4
abbrev Y63:=(aA×aA×U)×Y6×Y7×L (Int×aa)×U
abbrev Y64:=Rx (U×U) (Any×U)
abbrev Y65:=(Int×Int×U)×Y6×Y7×L (Int×aa)×U
abbrev Y66:=Nat->aa×U->O Y46
abbrev Yd:=aI×L cL×U
abbrev Y68:=L gW×L Int×Int×L cL×U
abbrev Y69:=Term×L (L UInt8)×U
abbrev Jj:=L (L UInt8)×L cL×L gW×U
abbrev Y71:=Int×Y68×Jj×U
abbrev Y72:=Term×aa×aa×aa×U
abbrev Y73:=Nat->Y9->O Y10
abbrev Y74:=aq×aa×U
abbrev Yc:=Y7×L (Int×aa)×Int×U
abbrev Y76:=O ((fY×U)×Y7×L (Int×aa)×U)
abbrev Y77:=Y7×L (Int×aa)×U
abbrev Y78:=(L Int×U)×U
abbrev Y79:=Nat->L cL×U->O Y4
abbrev Y80:=L (L UInt8)×Int×U
abbrev Y81:=bJ×ai×bG×U
abbrev Y82:=(dw×U)×oY×U
abbrev Y83:=oY×(L UInt8×L o3×L dw×U)×U
abbrev Y84:=Nat->cT×aq×U->O Y4
abbrev Y85:=O (LO (Int×U) (Int×U) U Any)
abbrev Y86:=cT×aq×Int×U
abbrev Y87:=Int×Int×L UInt8×L aI×U
abbrev Y88:=Int×Jj×Y87×U
abbrev Y89:=(aI×U)×Jj×U
abbrev Y90:=Jj×aI×U
abbrev Y91:=L Int×Int×U
abbrev Y92:=Nat->Int×U->O Y46
abbrev Y93:=Nat->Y49->O Y4
abbrev Y94:=Y6×Y7×L (Int×aa)×L aq×U
abbrev Y95:=O ((aB×U)×U)
abbrev Y96:=(ai×L aE×Int×U)×U
abbrev Y97:=Nat->(aI×U->IN)->aI×U->IN
abbrev Y98:=LO (Int×aa×U) (Int×U) U Any
abbrev Y99:=aB×ai×Int×U
abbrev an2:=er×aI×U
abbrev JQ:=LO (aa×aa×U) (aa×U) U Any
abbrev ai7:=Nat->ai×U->O Y4
abbrev an1:=Y6×Y7×L (Int×aa)×aA×Int×U
abbrev an0:=bJ×ai×U
abbrev anZ:=Nat->(Yd->O Y4)->Yd->O Y4
abbrev oZ:=LO (aa×U) (aa×U) U Any
abbrev auv:=Nat->aI×U->O Y4
abbrev ai6:=L ga×Int×U
abbrev anY:=Nat->L UInt8×U->O (ai6×U)
abbrev anX:=Nat->aB×U->O Y4
abbrev abJ:=cT×bG×U
abbrev anW:=Nat->abJ->O Y4
abbrev anV:=oY×L UInt8×U
abbrev afh:=O (U×oY×U)
abbrev anU:=Nat->aA×U->O Y46
abbrev anT:=di×aa×U
abbrev ai5:=aB×ai×L Int×U
abbrev auu:=Nat->ai5->O Y4
abbrev Y119:=bJ×L Int×U
abbrev anS:=Nat->cw×Int×Int×U->O JN
abbrev anR:=Nat->Int×U->IN
abbrev anQ:=di×Int×U
abbrev anP:=Nat->U->O Y46
abbrev anO:=Term×Int×Int×U
abbrev Tz:=L UInt8×Int×U
abbrev ai4:=bG×bG×U
abbrev aut:=Nat->ai4->O Y4
abbrev abI:=(L UInt8×Nat)×U
abbrev anN:=Nat->bW×U->O Y4
abbrev anM:=Y64->O (Rx Y10 Y11)
abbrev abH:=L (L UInt8)×U
abbrev QY:=O (abH×U)
abbrev Tx:=aB×Int×ax×U
abbrev abG:=L bz
abbrev abF:=O ((abG×aa×U)×U)
abbrev QW:=(di×U)×oY×U
abbrev abE:=oY×U->O QW
abbrev aus:=Nat->an0->O Y4
abbrev afg:=(aE×U)×U
abbrev anL:=LO (aa×Int×U) (aa×U) U Any
abbrev anK:=L aq×aA×U
abbrev QV:=Int×Int×L Int×L aI×U
abbrev ai3:=Int×Jj×QV×U
abbrev QU:=Jj×Term×L (L UInt8)×U
abbrev Tw:=(Int×U)×Jj×U
abbrev ai2:=Int×U->O Tw
abbrev ai1:=LO (aa×QV×U) (Int×U) (QV×U) Any
abbrev anJ:=L (L UInt8)×L UInt8×U
abbrev Y149:=(ai×aE×Int×U)×U
abbrev aur:=Nat->Y99->O Y4
abbrev anI:=er×Term×L (L UInt8)×U
abbrev auq:=O (LO Y58 U U Any)
abbrev aup:=(ai×U)×Y7×L (Int×aa)×U
abbrev anH:=Nat->Nat->Y77->O aup
abbrev ai0:=(Int×aa×U)×Y7×L (Int×aa)×U
abbrev anG:=O (LO (Int×U) (aa×U) U Any)
abbrev aff:=bJ×ai×L aq×aa×U
abbrev Y158:=L UInt8×L kP×U
abbrev auo:=L UInt8×L di×U
abbrev Y160:=aa×oY×auo×U
abbrev anE:=L UInt8×Int×aa×U
abbrev anD:=L aE×Int×DD×DD×U
abbrev anC:=L aE×Int×U
abbrev anB:=ai×Int×Int×U
abbrev anA:=O (anB×U)
abbrev aiZ:=(aa×U)×oY×U
abbrev abD:=LO (aa×oY×U) (L Term×U) (oY×U) Any
abbrev abC:=L Term×oY×U
abbrev anz:=Nat->cT×U->O Y4
abbrev anx:=oY×Int×U->O QW
abbrev anw:=bG×aa×U
abbrev anv:=L aE×L aE×U
abbrev abB:=L ax×abG×Int×U
abbrev afe:=L ax×aa×U
abbrev anu:=O (LO abB afe U Any)
abbrev afd:=ai×aI×aA×U
abbrev afc:=L aA×aa×U
abbrev afb:=O (afc×U)
abbrev ant:=Nat->Y91->O Y4
abbrev abA:=Int×L (Int×Int)×(L Int×U)×U
abbrev ans:=L (Int×Int)×(L Int×U)×U
abbrev Y182:=Int×Lr×L (Int×Int)×U
abbrev anr:=Int×DD×L (Int×Int)×U
abbrev Y184:=aq×aq×U
abbrev aiY:=O ((aE×Int×Int×U)×Y7×L (Int×aa)×U)
abbrev abz:=L (L UInt8×aa)
abbrev Y187:=O ((ai×U)×U)
abbrev Y188:=aB×L Int×U
abbrev anq:=Nat->Term×U->O Y4
abbrev anp:=aB×Int×U
abbrev aby:=L ax×U
abbrev abx:=L bT×L aI×L Int×Int×L cL×U
abbrev Nj:=Int×ax×aby×abx×(L Int×U)×U
abbrev Ni:=(aa×U)×aby×abx×(L Int×U)×U
abbrev tc:=aby×abx×(L Int×U)×(aa×U)×U
abbrev afa:=aby×abx×(L Int×U)×U
abbrev ae9:=L ax×Int×U
abbrev Nh:=LO tc ae9 tc Any
abbrev ano:=(eG×U)×U
abbrev aiX:=Int×aby×abx×(L Int×U)×U
abbrev ann:=O (ae9×U)
abbrev aiW:=aI×Int×U
abbrev anm:=Nat->(aiW->IN)->aiW->IN
abbrev Y204:=(aa×Int×U)×U
abbrev Y205:=aB×ai×ai×U
abbrev JO:=bJ×ai×Int×L aq×bT×L aA×U
abbrev XP:=L bG×L Int×L ec×L Int×Int×Int×Int×Int×Int×Int×Int×U
abbrev QO:=bJ×ai×Int×L aq×aA×U
abbrev ae8:=aa×XP×Lr×U
abbrev XO:=LO (aa×U) (eG×U) U Any
abbrev anl:=Y6×Y7×L (Int×aa)×L aA×U
abbrev XN:=LO (aa×U) (Int×Int×U) U Any
abbrev XM:=Y6×Y7×L (Int×aa)×aI×aA×U
abbrev ae7:=O (afc×Y6×Y7×L (Int×aa)×U)
abbrev ank:=L aA×Int×Y6×Y7×L (Int×aa)×U
abbrev aiV:=Int×L UInt8×Int×Int×U
abbrev aiU:=O ((ga×U)×U)
abbrev ae6:=LO (aa×aiV×U) U (aiV×U) Any
abbrev anj:=Int×Int×DD×DD×U
abbrev bw(A B C:Type):=@iter A B C Any
end Mn
namespace Mn
section
variable (n:Nat)
open Go TL
noncomputable section
set_option maxRecDepth 100000
set_option maxHeartbeats 0
abbrev q94(F:Fn P1 K2 J):lT sg:=⟨P1,K2,J,F⟩
def B94:anm:=
 λn f94 c=>ak (aG c.2.1 1) (Z (((-1),()),())) (aj (bw (Int×Int×U) (Int×U) (U) (λd=>ak (aG d.2.1 (au
 c.1.4)) (ak (bB 0 d.1) (aS (aM d.2.1 c.1.4) (aj (f94 (bE c.1.4 (aC d.2.1) aR,d.1,())) λe=>Z (N (e.1.1,aJ .i64
 d.2.1 1,())))) (Z (H 0 d))) (Z (H 0 d))) n (bn .i64 c.2.1 1,0,())) λd=>bU d (λ_ g=>Z ((g.1,()),())) (λ_ g
 =>Z (g,())) λ_ _=>Y)
def D94(n:Nat)(f94:Fn P1 K2 J)(a:bN prog 94 (q94 f94)):bN prog 94 (q94 (B94 n f94)):=wE [⟨94,q94 f94,a⟩] [(94,0,⟨[(1,dA),(5,dA)],[],[],0⟩)] n 10 94
def R94(n k:Nat):(Fn P1 K2 J):=Nat.rec (motive:=λ_=>(Fn P1 K2 J)) (λ_=>Y) (λ_ r=>B94 n r) k
def F94(n:Nat):Fn P1 K2 J:=(R94 n n)
def aom(n:Nat):∀k,bN prog 94 (q94 (R94 n k))
 |0=>cG (enters 94 (by kernel_rfl))
 |k+1=>have a:=aom n k
  D94 n _ a
def k94(n:Nat):OC:=⟨94,q94 (F94 n),(aom n n)⟩
abbrev q95(F:Fn P3 K4 J):lT sg:=⟨P3,K4,J,F⟩
def B95:Y60:=
 λn f95 c=>aj (bw (Int×U) (aa×U) (U) (λd=>ak (aG d.1 (au c.1.4)) (aS (aM d.1 c.1.4) (aj (f95 (bE c.1.4
 (aC d.1) aR,())) λe=>ak (av e.1.1) (Z (X () (J,()))) (Z (N (aJ .i64 d.1 1,()))))) (Z (H 0 d))) n
 (0,())) λd=>bU d (λ_ _=>Z ((bB (au c.1.3) 30,()),())) (λ_ g=>Z (g,())) λ_ _=>Y
def D95(n:Nat)(f95:Fn P3 K4 J)(a:bN prog 95 (q95 f95)):bN prog 95 (q95 (B95 n f95)):=wE [⟨95,q95 f95,a⟩] [(95,0,⟨[(3,dA)],[],[],0⟩)] n 10 95
def R95(n k:Nat):(Fn P3 K4 J):=Nat.rec (motive:=λ_=>(Fn P3 K4 J)) (λ_=>Y) (λ_ r=>B95 n r) k
def F95(n:Nat):Fn P3 K4 J:=(R95 n n)
def aol(n:Nat):∀k,bN prog 95 (q95 (R95 n k))
 |0=>cG (enters 95 (by kernel_rfl))
 |k+1=>have a:=aol n k
  D95 n _ a
def k95(n:Nat):OC:=⟨95,q95 (F95 n),(aol n n)⟩
def F41:auv:=
 λn b=>aj (F94 n (aI.mk b.1.1 b.1.2 b.1.3 b.1.4,16,())) λc=>ak (bB 0 c.1.1) (aj (F95 n (aI.mk b.1.1 b.1.2 b.1.3 b.1.4,()))
 λd=>Z d) (Z ((J,()),()))
def k41:OC:=dm [k94 n,k95 n] [] n 41 P3 K4 J (F41 n)
def F11:anX:=
 λn b=>ak (aG 1600 (au b.1.1)) (Z ((J,()),())) (ak (aG 120 (au b.1.2)) (Z ((J,()),())) (ak (aG 320 (au b.1.3))
 (Z ((J,()),())) (ak (aG 30 (au b.1.5)) (Z ((J,()),())) (aj (bw (Int×U) (aa×U) (U) (λc=>ak (aG
 c.1 (au b.1.2)) (aS (aM c.1 b.1.2) (aj (F41 n (bE b.1.2 (aC c.1) aR,())) λd=>ak (av d.1.1) (Z (X () (J,())))
 (Z (N (aJ .i64 c.1 1,()))))) (Z (H 0 c))) n (0,())) λc=>bU c (λ_ _=>aj (bw (Int×U) (aa×U) (U) (λg=>ak (aG g.1 (au b.1.5)) (aS (aM g.1 b.1.5) (ak (aG 30 (au (bE b.1.5 (aC g.1) br).1)) (Z (X () (J,
 ()))) (Z (N (aJ .i64 g.1 1,()))))) (Z (H 0 g))) n (0,())) λg=>bU g (λ_ _=>Z ((W,()),())) (λ_ i=>Z
 (i,())) λ_ _=>Y) (λ_ e=>Z (e,())) λ_ _=>Y))))
def k11:OC:=dm [k41 n] [(11,0,lS [(3,dA)]),(11,2,lS [(4,dA)])] n 11 P5 K4 J (F11 n)
def F223:Y41:=
 λn b=>ak (bB b.2.1 b.1) (Z ((bB b.1 b.2.2.1,()),())) (Z ((J,()),()))
def adY:OC:=dm [] [] n 223 P6 K4 J (F223 n)
def Ny(n:Nat)(c:abI):O (LO abI (aa×U) abI Any):=
 Z (X ((c.1.1,ae5 c.1.2 (Jk c.1.1 c.1.2)),()) (J,()))
def F284:Y62:=
 λn b=>ak (gZ b.1 []) (Z ((J,()),())) (ak (aG 8 (au b.1)) (Z ((J,()),())) (aS (aM 0 b.1) (ak (aG (mX b.1 0) 65)
 (Z ((J,()),())) (aS (aM 0 b.1) (ak (aG 90 (mX b.1 0)) (Z ((J,()),())) (aS (eF 1 (au b.1) (au b.1)) (aj (bw (abI) (aa×U) (abI) (λc=>ak (Se c.1.2 c.1.1) (ak (aG (vY c.1.1 c.1.2) 97) (Ny n c) (ak (aG 122 (vY c.1.1 c.1.2))
 (Ny n c) (Z (N ((c.1.1,ae5 c.1.2 (Jk c.1.1 c.1.2)),()))))) (Z (H 0 c))) n ((cO b.1 1 (au b.1),0),())) λc=>bU c
 (λ_ _=>Z ((W,()),())) (λ_ e=>Z (e,())) λ_ _=>Y)))))))
def aql:OC:=dm [] [(284,0,⟨[(0,.box (.r8))],[.slot 24],[],0⟩)] n 284 P7 K4 J (F284 n)
def NA(n:Nat)(b:L cL×U)(c:Int×abz×U):O (LO (Int×abz×U) (Int×U) (abz×U) Any):=
 Z (X (jK (A:=sg.A) Ty.str (bE b.1 (aC c.1) br).1 W c.2.1,()) (c.1,()))
def F224:Y79:=
 λn b=>ak (bB (au b.1) 20) (aj (bw (Int×abz×U) (Int×U) (abz×U) (λc=>ak (aG c.1 (au b.1)) (aS (aM
 c.1 b.1) (aj (F284 n ((bE b.1 (aC c.1) br).1,())) λd=>ak d.1.1 (aj (F223 n ((bE b.1 (aC c.1) br).2,0,3,())) λe=>ak
 e.1.1 (ak (av (av (FE (A:=sg.A) Ty.str J (bE b.1 (aC c.1) br).1 c.2.1))) (NA n b c) (Z (N (aJ .i64 c.1 1,jK
 (A:=sg.A) Ty.str (bE b.1 (aC c.1) br).1 W c.2.1,())))) (NA n b c)) (NA n b c))) (Z (H 0 c))) n (0,[],())) λc=>
 bU c (λ_ _=>Z ((av J,()),())) (λ_ e=>Z ((av (bB 0 e.1),()),())) λ_ _=>Y) (Z ((J,()),()))
def aqz:OC:=dm [adY n,aql n] [(328,0,⟨[(8,dA),(0,.box (.map (.str) (.bool)))],[.cell (.cap (.cell (.cap (.slot 1) 0) 0) 0) 0],[],0⟩)] n 224 P8 K4 J (F224 n)
abbrev YX(F:Fn P1 K2 J):lT sg:=⟨P1,K2,J,F⟩
def Jc(c:aiW)(d:Int×Int×U):aI:=
 bE c.1.4 (aC d.2.1) aR
def B228:anm:=
 λn f228 c=>aj (bw (Int×Int×U) (Int×U) (U) (λd=>ak (aG d.2.1 (au c.1.4)) (aS (aM d.2.1 c.1.4) (ak (aG
 d.1 0) (Z (H 0 d)) (aj (f228 (aI.mk (Jc c d).1 (Jc c d).2 (Jc c d).3 (Jc c d).4,d.1,())) λe=>Z (N (e.1.1,
 aJ .i64 d.2.1 1,()))))) (Z (H 0 d))) n (bn .i64 c.2.1 1,0,())) λd=>bU d (λ_ g=>Z ((g.1,()),())) (λ_ g=>Z
 (g,())) λ_ _=>Y
def D228(n:Nat)(f228:Fn P1 K2 J)(a:bN prog 228 (YX f228)):bN prog 228 (YX (B228 n f228)):=wE [⟨228,YX f228,a⟩] [(228,0,⟨[(1,dA),(12,dA)],[],[],0⟩)] n 10 228
def R228(n k:Nat):(Fn P1 K2 J):=Nat.rec (motive:=λ_=>(Fn P1 K2 J)) (λ_=>Y) (λ_ r=>B228 n r) k
def F228(n:Nat):Fn P1 K2 J:=(R228 n n)
def agz(n:Nat):∀k,bN prog 228 (YX (R228 n k))
 |0=>cG (enters 228 (by kernel_rfl))
 |k+1=>have a:=agz n k
  D228 n _ a
def aqy(n:Nat):OC:=⟨228,YX (F228 n),(agz n n)⟩
abbrev YW(F:Fn P9 K4 J):lT sg:=⟨P9,K4,J,F⟩
def tI(n:Nat)(f229:Yd->O Y4):O Y4:=
 Z ((J,()),())
def NL(c:Yd)(g:Int×U):aI:=
 bE c.1.4 (aC g.1) aR
def T6(n:Nat)(f229:Yd->O Y4)(c:Yd):O Y4:=
 aj (bw (Int×U) (Int×U) (U) (λg=>ak (aG g.1 (au c.1.4)) (aS (aM g.1 c.1.4) (aj (f229 (aI.mk (NL c g).1
 (NL c g).2 (NL c g).3 (NL c g).4,c.2)) λh=>ak (av h.1.1) (Z (X () g)) (Z (N (aJ .i64 g.1 1,()))))) (Z
 (H 0 g))) n (0,())) λg=>bU g (λ_ _=>Z ((av J,()),())) (λ_ i=>Z ((av (bB 0 i.1),()),())) λ_ _=>
 Y
def Jb(n:Nat)(f229:Yd->O Y4)(c:Yd):O Y4:=
 ak (gZ c.1.3 []) (ak (af (au c.1.4) 0) (T6 n f229 c) (tI n f229)) (tI n f229)
def B229:anZ:=
 λn f229 c=>aj (ak (af c.1.1 1) (Z (N (W,()))) (aj (ak (af c.1.1 2) (Z (N (W,()))) (Z (N (af c.1.1
 5,())))) λ(d:oZ)=>cJ d (λe=>Z (N e)) (λ_ _=>Y) (λ_ g=>Z (X () g)) λ_ _=>Y)) λ(d:oZ)=>
 cJ d (λe=>ak e.1 (ak (av (af c.1.2 0)) (tI n f229) (Jb n f229 c)) (ak (af c.1.1 3) (aj (F223 n (c.1.2,(-1000000000),
 1000000000,())) λg=>ak (av g.1.1) (tI n f229) (Jb n f229 c)) (ak (af c.1.1 4) (aj (F223 n (c.1.2,0,1,())) λg=>ak
 (av g.1.1) (tI n f229) (Jb n f229 c)) (ak (af c.1.1 6) (aj (F223 n (c.1.2,0,bn .i64 (au c.2.1) 1,())) λg=>ak (av
 g.1.1) (tI n f229) (aS (aM c.1.2 c.2.1) (ak (gZ c.1.3 []) (ak (af (au c.1.4) (bE c.2.1 (aC c.1.2) br).2) (T6 n f229 c)
 (tI n f229)) (tI n f229)))) (tI n f229))))) (λ_ _=>Y) (λ_ g=>Z (g,())) λ_ _=>Y
def D229(n:Nat)(f229:Fn P9 K4 J)(a:bN prog 229 (YW f229)):bN prog 229 (YW (B229 n f229)):=wE [adY n,⟨229,YW f229,a⟩] [(229,1000005,⟨[(8,dM)],[],[],0⟩),(229,1000006,⟨[(8,dM)],[],[],0⟩),(313,0,⟨[(8,dA)],[],[],0⟩)] n 10 229
def R229(n k:Nat):(Fn P9 K4 J):=Nat.rec (motive:=λ_=>(Fn P9 K4 J)) (λ_=>Y) (λ_ r=>B229 n r) k
def F229(n:Nat):Fn P9 K4 J:=(R229 n n)
def agy(n:Nat):∀k,bN prog 229 (YW (R229 n k))
 |0=>cG (enters 229 (by kernel_rfl))
 |k+1=>have a:=agy n k
  D229 n _ a
def aqx(n:Nat):OC:=⟨229,YW (F229 n),(agy n n)⟩
def jt(n:Nat)(b:anp):O Y4:=
 F223 n (b.2.1,1,34,())
def om(n:Nat):oZ->O oZ:=
 λc=>cJ c (λd=>Z (N d)) (λ_ _=>Y) (λ_ e=>Z (X () e)) λ_ _=>Y
def F232:Nat->anp->O ((eM×eM×aa×U)×U):=
 λn b=>ak (af b.2.1 1) (aj (jt n b) λc=>Z ((eM.mk (-1000000000) 1000000000 W,fT,c.1),())) (ak (af b.2.1
 2) (aj (jt n b) λc=>Z ((eM.mk 0 1 W,fT,c.1),())) (ak (af b.2.1 4) (aj (jt n b) λc=>Z ((eM.mk
 0 29 W,fT,c.1),())) (ak (af b.2.1 5) (aj (jt n b) λc=>Z ((eM.mk 0 (bn .i64 (au b.1.3) 1) W,fT,
 c.1),())) (aj (ak (af b.2.1 6) (Z (N (W,()))) (aj (ak (af b.2.1 11) (Z (N (W,()))) (aj (ak (af b.2.1 12)
 (Z (N (W,()))) (aj (ak (af b.2.1 31) (Z (N (W,()))) (Z (N (af b.2.1 32,())))) (om n))) (om n)))
 (om n))) λ(c:oZ)=>cJ c (λd=>ak d.1 (aj (jt n b) λe=>Z ((eM.mk 0 (bn .i64 (au b.1.1) 1) W,
 fT,e.1),())) (ak (af b.2.1 10) (aj (jt n b) λe=>Z ((eM.mk 1 30 W,fT,e.1),())) (ak (af b.2.1 18)
 (aj (jt n b) λe=>Z ((eM.mk 0 (bn .i64 (au b.1.5) 1) W,fT,e.1),())) (ak (af b.2.1 19) (aj (jt n b) λ
 e=>Z ((eM.mk 0 (bn .i64 (au b.1.2) 1) W,eM.mk 0 (bn .i64 (au b.1.1) 1) W,e.1),())) (ak (af b.2.1 29) (aj
 (jt n b) λe=>Z ((eM.mk 0 3 W,fT,e.1),())) (aj (jt n b) λe=>Z ((fT,fT,e.1),())))))))
 (λ_ _=>Y) (λ_ e=>Z ((fT,fT,e),())) λ_ _=>Y))))
def aqw:OC:=dm [adY n] [(232,1000012,lS [(30,dM)]),(232,1000013,lS [(30,dM)]),(232,1000014,lS [(30,dM)]),(232,1000015,lS [(30,dM)])] n 232 P10 K11 J (F232 n)
def oq(n:Nat):IN:=
 Z ((2,()),())
def vR(b:aB×U)(k:Int×U):aI:=
 bE b.1.2 (aC k.1) aR
def NF(n:Nat)(b:aB×U):IN:=
 aj (bw (Int×U) (Int×U) (U) (λo=>ak (aG o.1 (au b.1.1)) (aS (aM o.1 b.1.1) (aj (F232 n (b.1,(bE b.1.1 (aC o.1)
 cg).1,())) λp=>ak p.1.2.2.1 (aj (F223 n ((bE b.1.1 (aC o.1) cg).2,p.1.1.1,p.1.1.2,())) λq=>ak q.1.1 (aj (F223 n ((bE
 b.1.1 (aC o.1) cg).3,p.1.2.1.1,p.1.2.1.2,())) λr=>ak (av r.1.1) (Z (X () o)) (Z (N (aJ .i64 o.1 1,()))))
 (Z (X () o))) (Z (X () o)))) (Z (H 0 o))) n (0,())) λo=>bU o (λ_ _=>ak (av (av J)) (oq n) (Z
 ((0,()),()))) (λ_ q=>ak (av (av (bB 0 q.1))) (oq n) (Z ((0,()),()))) λ_ _=>Y
def ND(n:Nat)(b:aB×U):IN:=
 aj (bw (Int×U) (Int×U) (U) (λk=>ak (aG k.1 (au b.1.2)) (aS (aM k.1 b.1.2) (aj (F228 n (aI.mk (vR b k).1
 (vR b k).2 (vR b k).3 (vR b k).4,12,())) λl=>ak (bB 0 l.1.1) (aj (F229 n (aI.mk (vR b k).1 (vR b k).2 (vR b
 k).3 (vR b k).4,b.1.5,())) λm=>ak (av m.1.1) (Z (X () k)) (Z (N (aJ .i64 k.1 1,())))) (Z (X () k)))) (Z
 (H 0 k))) n (0,())) λk=>bU k (λ_ _=>ak (av (av J)) (oq n) (NF n b)) (λ_ m=>ak (av (av (bB 0
 m.1))) (oq n) (NF n b)) λ_ _=>Y
def F147:Nat->aB×U->IN:=
 λn b=>aj (F223 n (au b.1.1,1,1500,())) λc=>ak (av c.1.1) (oq n) (ak (aG 100 (au b.1.2)) (oq n) (aj (F224 n (b.1.5,
 ())) λd=>ak (av d.1.1) (oq n) (aj (F223 n (au b.1.3,1,300,())) λe=>ak (av e.1.1) (oq n) (aj (F223 n (b.1.4,0,
 bn .i64 (au b.1.3) 1,())) λg=>ak (av g.1.1) (oq n) (aj (bw (Int×U) (Int×U) (U) (λh=>ak (aG h.1
 (au b.1.3)) (aS (aM h.1 b.1.3) (aj (F223 n (bE b.1.3 (aC h.1) 0,0,bn .i64 (au b.1.1) 1,())) λi=>ak (av i.1.1) (Z (X
 () h)) (Z (N (aJ .i64 h.1 1,()))))) (Z (H 0 h))) n (0,())) λh=>bU h (λ_ _=>ak (av (av J)) (oq n)
 (ND n b)) (λ_ j=>ak (av (av (bB 0 j.1))) (oq n) (ND n b)) λ_ _=>Y)))))
def ald:OC:=dm [adY n,aqz n,aqy n,aqx n,aqw n] [(237,0,lS [(8,dA)]),(313,0,lS [(8,dA)]),(314,0,lS [(8,dA)])] n 147 P5 K2 J (F147 n)
def AB(n:Nat):XO->O XO:=
 λc=>cJ c (λd=>Z (N d)) (λ_ _=>Y) (λ_ e=>Z (X () e)) λ_ _=>Y
def xV(n:Nat):XO->O XO:=
 λe=>cJ e (λg=>Z (N g)) (λ_ _=>Y) (λ_ h=>Z (X () h)) λ_ _=>Y
def F149:Nat->Y28->O ano:=
 λn b=>ak (af b.2.1.1 4) (Z ((eG.a0 (ny.mk (aJ .i64 b.2.1.2 1)),()),())) (ak (af b.2.1.1 10) (Z ((eG.a0
 (ny.mk b.2.1.2),()),())) (aj (ak (af b.2.1.1 7) (Z (N (W,()))) (aj (ak (af b.2.1.1 13) (Z (N (W,()))) (aj
 (ak (af b.2.1.1 14) (Z (N (W,()))) (aj (ak (af b.2.1.1 15) (Z (N (W,()))) (aj (ak (af b.2.1.1 16) (Z
 (N (W,()))) (aj (ak (af b.2.1.1 17) (Z (N (W,()))) (aj (ak (af b.2.1.1 23) (Z (N (W,()))) (Z (N
 (af b.2.1.1 27,())))) (AB n))) (AB n))) (AB n))) (AB n))) (AB n))) (AB n))) λ(c:XO)=>cJ c (λd=>ak d.1
 (Z ((eG.a1 (jX.mk 2),()),())) (ak (af b.2.1.1 8) (Z ((eG.a2 (nC.mk 2),()),())) (ak (af b.2.1.1 34) (Z
 ((eG.a2 (nC.mk 1),()),())) (aj (ak (af b.2.1.1 9) (Z (N (W,()))) (aj (ak (af b.2.1.1 12) (Z (N (W,
 ()))) (aj (ak (af b.2.1.1 19) (Z (N (W,()))) (aj (ak (af b.2.1.1 21) (Z (N (W,()))) (aj (ak (af b.2.1.1 22)
 (Z (N (W,()))) (aj (ak (af b.2.1.1 24) (Z (N (W,()))) (aj (ak (af b.2.1.1 25) (Z (N (W,()))) (aj (ak
 (af b.2.1.1 28) (Z (N (W,()))) (Z (N (af b.2.1.1 29,())))) (xV n))) (xV n))) (xV n))) (xV n))) (xV
 n))) (xV n))) (xV n))) λ(e:XO)=>cJ e (λg=>ak g.1 (Z ((eG.a1 (jX.mk 1),()),())) (ak (af b.2.1.1 18) (aS
 (aM b.2.1.2 b.1.5) (Z ((eG.a1 (jX.mk (bE b.1.5 (aC b.2.1.2) br).2),()),()))) (Z ((eG.a1 Ag,()),()))))
 (λ_ _=>Y) (λ_ h=>Z (h,())) λ_ _=>Y)))) (λ_ _=>Y) (λ_ e=>Z (e,())) λ_ _=>Y))
def alc:OC:=dm [] [(149,1000007,lS [(20,dM)]),(149,1000008,lS [(20,dM)]),(149,1000009,lS [(20,dM)]),(149,1000010,lS [(20,dM)]),(149,1000011,lS [(20,dM)]),(149,1000012,lS [(20,dM)]),(149,1000013,lS [(20,dM)]),(149,1000020,lS [(39,dM)]),(149,1000021,lS [(39,dM)]),(149,1000022,lS [(39,dM)]),(149,1000023,lS [(39,dM)]),(149,1000024,lS [(39,dM)]),(149,1000025,lS [(39,dM)]),(149,1000026,lS [(39,dM)]),(149,1000027,lS [(39,dM)])] n 149 P12 K13 J (F149 n)
def F152:Y43:=
 λn b=>Z ((ax.mk W b.1 b.2.1,()),())
def alb:OC:=dm [] [] n 152 P14 K15 J (F152 n)
abbrev YQ(F:Fn P3 K2 J):lT sg:=⟨P3,K2,J,F⟩
def I9(c:aI×U)(g:Int×Int×U):aI:=
 bE c.1.4 (aC g.2.1) aR
def B290:Y97:=
 λn f290 c=>aj (ak (af c.1.1 2) (Z (N (1,W,()))) (Z (N (0,J,())))) λ(d:Y98)=>cJ d (λe=>aj (@iter
 (Int×Int×U) (Int×U) (U) (Any) (λg=>ak (aG g.2.1 (au c.1.4)) (aS (aM g.2.1 c.1.4) (aj (f290 (aI.mk (I9 c g).1
 (I9 c g).2 (I9 c g).3 (I9 c g).4,())) λh=>Z (N (aJ .i64 g.1 h.1.1,aJ .i64 g.2.1 1,())))) (Z (H 0 g))) n
 (e.1,0,())) λg=>bU g (λ_ i=>Z ((i.1,()),())) (λ_ i=>Z (i,())) λ_ _=>Y) (λ_ _=>Y) (λ_ g=>Z (g,()))
 λ_ _=>Y
def D290(n:Nat)(f290:Fn P3 K2 J)(a:bN prog 290 (YQ f290)):bN prog 290 (YQ (B290 n f290)):=wE [⟨290,YQ f290,a⟩] [(290,0,⟨[(3,dA),(12,dA)],[],[],0⟩),(290,1000003,⟨[(3,dA),(8,dM)],[],[],0⟩)] n 10 290
def R290(n k:Nat):(Fn P3 K2 J):=Nat.rec (motive:=λ_=>(Fn P3 K2 J)) (λ_=>Y) (λ_ r=>B290 n r) k
def F290(n:Nat):Fn P3 K2 J:=(R290 n n)
def agp(n:Nat):∀k,bN prog 290 (YQ (R290 n k))
 |0=>cG (enters 290 (by kernel_rfl))
 |k+1=>have a:=agp n k
  D290 n _ a
def aqk(n:Nat):OC:=⟨290,YQ (F290 n),(agp n n)⟩
end
end
section
variable (n:Nat)
open Go TL
noncomputable section
set_option maxRecDepth 100000
set_option maxHeartbeats 0
def pL(n:Nat):XN->O XN:=
 λc=>cJ c (λd=>Z (N d)) (λ_ _=>Y) (λ_ e=>Z (X () e)) λ_ _=>Y
def tD(n:Nat):XN->O XN:=
 λe=>cJ e (λg=>Z (N g)) (λ_ _=>Y) (λ_ h=>Z (X () h)) λ_ _=>Y
def F235:Nat->Y28->O Y59:=
 λn b=>aj (ak (af b.2.1.1 1) (Z (N (W,()))) (aj (ak (af b.2.1.1 2) (Z (N (W,()))) (aj (ak (af b.2.1.1 3)
 (Z (N (W,()))) (aj (ak (af b.2.1.1 4) (Z (N (W,()))) (aj (ak (af b.2.1.1 5) (Z (N (W,()))) (aj (ak
 (af b.2.1.1 6) (Z (N (W,()))) (aj (ak (af b.2.1.1 26) (Z (N (W,()))) (aj (ak (af b.2.1.1 30) (Z (N
 (W,()))) (aj (ak (af b.2.1.1 33) (Z (N (W,()))) (aj (ak (af b.2.1.1 31) (Z (N (W,()))) (Z (N (af
 b.2.1.1 32,())))) (pL n))) (pL n))) (pL n))) (pL n))) (pL n))) (pL n))) (pL n))) (pL n))) (pL n))) λ(c:XN)
 =>cJ c (λd=>ak d.1 (Z ((1,0,()),())) (aj (ak (af b.2.1.1 7) (Z (N (W,()))) (aj (ak (af b.2.1.1 12) (Z
 (N (W,()))) (aj (ak (af b.2.1.1 13) (Z (N (W,()))) (aj (ak (af b.2.1.1 14) (Z (N (W,()))) (aj (ak
 (af b.2.1.1 15) (Z (N (W,()))) (aj (ak (af b.2.1.1 16) (Z (N (W,()))) (aj (ak (af b.2.1.1 17) (Z (N
 (W,()))) (aj (ak (af b.2.1.1 23) (Z (N (W,()))) (Z (N (af b.2.1.1 27,())))) (tD n))) (tD n))) (tD n)))
 (tD n))) (tD n))) (tD n))) (tD n))) λ(e:XN)=>cJ e (λg=>ak g.1 (Z (((-1),0,()),())) (ak (af b.2.1.1 9) (Z
 (((-1),1,()),())) (ak (af b.2.1.1 10) (Z ((0,Rm .i64 b.2.1.2,()),())) (ak (af b.2.1.1 18) (aS (aM b.2.1.2 b.1.5) (Z ((bn .i64
 1 (bE b.1.5 (aC b.2.1.2) br).2,0,()),()))) (ak (af b.2.1.1 19) (aS (aM b.2.1.2 b.1.2) (aj (F290 n (bE b.1.2 (aC b.2.1.2)
 aR,())) λh=>Z (((-1),h.1),()))) (Z ((0,0,()),()))))))) (λ_ _=>Y) (λ_ h=>Z (h,())) λ_ _=>Y)) (λ_ _=>
 Y) (λ_ e=>Z (e,())) λ_ _=>Y
def ak6:OC:=dm [aqk n] [(235,1000003,lS [(8,dM)]),(235,1000004,lS [(8,dM)]),(235,1000005,lS [(8,dM)]),(235,1000006,lS [(8,dM)]),(235,1000007,lS [(8,dM)]),(235,1000008,lS [(8,dM)]),(235,1000009,lS [(8,dM)]),(235,1000010,lS [(8,dM)]),(235,1000011,lS [(8,dM)]),(235,1000012,lS [(8,dM)]),(235,1000015,lS [(20,dM)]),(235,1000016,lS [(20,dM)]),(235,1000017,lS [(20,dM)]),(235,1000018,lS [(20,dM)]),(235,1000019,lS [(20,dM)]),(235,1000020,lS [(20,dM)]),(235,1000021,lS [(20,dM)]),(235,1000022,lS [(20,dM)])] n 235 P12 K16 J (F235 n)
def F236:Nat->bT×eG×U->O Y4:=
 λn b=>ak (mQ [(315,Ty.st 31),(317,Ty.st 32),(318,Ty.st 33)] 2 (jB 34 b.2.1)) (Z ((W,()),())) (Z ((af b.1.1 20,()),()))
def ak5:OC:=dm [] [] n 236 P17 K4 J (F236 n)
def F356:Nat->ny×ax×U->O Y4:=
 λn b=>Z ((bB b.1.1 b.2.1.3,()),())
def akP:OC:=dm [] [] n 356 auL K4 J (F356 n)
def F357:Nat->jX×ax×U->O Y4:=
 λn b=>Z ((bB b.1.1 b.2.1.2,()),())
def akO:OC:=dm [] [] n 357 auK K4 J (F357 n)
def F358:Nat->nC×ax×U->O Y4:=
 λn b=>Z ((af b.2.1.2 b.1.1,()),())
def akN:OC:=dm [] [] n 358 auJ K4 J (F358 n)
abbrev E99(n:Nat):eI sg:=⟨Ad,Cv [ald n,alc n,alb n,ak6 n,ak5 n,akP n,akO n,akN n],Up [(99,0,⟨[(0,abm),(0,b5z),(0,Fb),(0,.box (.cells [Ru]))],[.slot 4,.slot 1,.slot 5,.slot 7],[],0⟩),(237,0,⟨[(8,dA),(0,abm),(0,b5z),(0,Fb)],[.cap (.cell (.cap (.cell (.cap (.slot 1) 0) 0) 0) 0) 0,.cap (.cell (.cap (.cell (.cap (.slot 1) 0) 0) 0) 0) 1,.cap (.cell (.cap (.cell (.cap (.slot 1) 0) 0) 0) 0) 2],[],0⟩)],J,cjL [(148,0,⟨[(0,dA),(1,.one (.dat (.st 9))),(0,abm),(0,b5z),(0,Fb)],[.slot 2,.slot 3,.slot 4],[],[.dat .bool]⟩),(1000151,0,⟨[],[],[],[]⟩),(1000155,0,⟨[],[],[],[]⟩),(1000238,0,⟨[],[],[],[]⟩),(1000234,0,⟨[],[],[],[]⟩),(1000152,0,⟨[],[],[],[]⟩),(1000235,0,⟨[],[],[],[]⟩),(1000000,0,⟨[],[],[],[]⟩)]⟩
def eo:Nat->Nat->Nj->O Ni:=λn a x=>RO (xA (E99 n) n a) 148 [(0,dA),(1,.one (.dat (.st 9))),(0,abm),(0,b5z),(0,Fb)] [.dat .bool] [2,0,3] [] (S1 ([2,0,3]++[]) [(0,dA),(1,.one (.dat (.st 9))),(0,abm),(0,b5z),(0,Fb)] (Vd [.emp,.emp,.ptr 2 0,.ptr 0 0,.ptr 3 0])) (stJ [2,0,3] [] ⟨trL [],0,0,0,[],[]⟩) x
def lD(c:Nj):O Ni:=
 Z ((J,()),c.2.2)
def jv(c:Nj):aa:=
 ei (aC c.1) c.2.2.1.1
def qR:L (Nat×Ty):=
 [(315,Ty.st 31),(317,Ty.st 32),(318,Ty.st 33)]
def qQ(c:Nj):Y4->O Ni:=
 λe=>ak (av e.1.1) (lD c) (aS (aM c.1 c.2.2.1.1) (aS (jv c) (ak (av (bE c.2.2.1.1 (aC c.1) aW).1) (aS (aM c.1
 c.2.2.1.1) (aS (jv c) (aS (dI c.2.2.2.2.1.1 [c.1]) (Z ((W,()),(lM c.2.2.1.1 (aC c.1) c.2.1,()),c.2.2.2.1,(dx c.2.2.2.2.1.1
 [c.1],()),()))))) (Z ((W,()),c.2.2)))))
def yP(n:Nat)(c:Nj):O Ni:=
 aS (aM c.1 c.2.2.2.1.1) (aj (F149 n (aB.mk c.2.2.2.1.1 c.2.2.2.1.2.1 c.2.2.2.1.2.2.1 c.2.2.2.1.2.2.2.1 c.2.2.2.1.2.2.2.2.1,bE c.2.2.2.1.1
 (aC c.1) cg,())) λd=>ak (mQ qR 0 (jB 34 d.1.1)) (aj (F356 n (kK (Sg.zero sg) qR 0 (jB 34 d.1.1),c.2.1,()))
 (qQ c)) (ak (mQ qR 1 (jB 34 d.1.1)) (aj (F357 n (kK (Sg.zero sg) qR 1 (jB 34 d.1.1),c.2.1,())) (qQ c)) (ak (mQ
 qR 2 (jB 34 d.1.1)) (aj (F358 n (kK (Sg.zero sg) qR 2 (jB 34 d.1.1),c.2.1,())) (qQ c)) Y)))
def yQ:Nat->Nat->Nj->O Ni:=
 λn a c=>ak (bB (au c.2.2.1.1) c.1) (lD c) (ak (aG 60 c.2.1.2) (lD c) (ak (aG 30 c.2.1.3) (lD c) (aS (aM c.1
 c.2.2.1.1) (aS (jv c) (ak (bE c.2.2.1.1 (aC c.1) aW).1 (aS (aM c.1 c.2.2.1.1) (aS (jv c) (ak (av (bR (pZ (bE
 c.2.2.1.1 (aC c.1) aW).1 c.2.1.1) (bR (af (bE c.2.2.1.1 (aC c.1) aW).2 c.2.1.2) (bR (af (bE c.2.2.1.1 (aC c.1)
 aW).3 c.2.1.3) W)))) (lD c) (yP n c)))) (yP n c))))))
def Aq(n a:Nat):eo n (a+1)=yQ n a:=by kernel_rfl
def sM(i:tc):Int:=
 bn .i64 (au i.2.2.1.1) 1
def iz(i:tc):Int:=
 bE i.2.2.1.1 (aC (sM i)) 0
def js(i:tc):bT:=
 bE i.2.1.1 (aC (iz i)) cg
def nN(i:tc):Y28:=
 (aB.mk i.2.1.1 i.2.1.2.1 i.2.1.2.2.1 i.2.1.2.2.2.1 i.2.1.2.2.2.2.1,js i,())
def Ls(n:Nat)(i:tc)(j:Y59):O VF:=
 F152 n (aJ .i64 (bE i.1.1 (aC (iz i)) aW).2 j.1.1,aJ .i64 (bE i.1.1 (aC (iz i)) aW).3 j.1.2.1,())
def IU(i:tc):afa:=
 (i.1,i.2.1,(cO i.2.2.1.1 0 (sM i),()),())
def uC(i:tc)(k:VF):Nj:=
 ((js i).2,k.1.1,IU i)
def EP(n:Nat)(l:Ni):O Nh:=
 Z (H 0 (l.2.1,l.2.2.1,l.2.2.2.1,l.1,()))
def EO(n:Nat)(l:Ni):O Nh:=
 Z (N (l.2.1,l.2.2.1,l.2.2.2.1,l.1,()))
def pJ(n:Nat):Ni->O Nh:=
 λl=>ak (av l.1.1) (EP n l) (EO n l)
def nE(n:Nat)(i:tc)(m:ano):O Y4:=
 F236 n (js i,m.1)
def tw(i:tc)(k:VF)(l:Ni):Nj:=
 (aJ .i64 (iz i) 1,k.1.1,l.2)
def IW(i:tc):Nj:=
 ((js i).3,bE i.1.1 (aC (iz i)) aW,IU i)
def abX(n:Nat)(a:Nat)(c:aB×U)(d:(Int×U)×U)(h:aiX)(i:tc)(k:VF):VF->O Nh:=
 λl=>aj (eo n (a+8) (uC i l)) λm=>ak (av m.1.1) (EP n m) (aj (F149 n (nN i)) λo=>aj (nE n i o) λp=>ak
 (av p.1.1) (aj (eo n (a+8) (tw i k m)) (pJ n)) (EO n m))
def abW(n:Nat)(a:Nat)(c:aB×U)(d:(Int×U)×U)(h:aiX)(i:tc)(k:VF):O Nh:=
 aj (F152 n (0,aJ .i64 (bE i.1.1 (aC (iz i)) aW).3 1,())) (abX n a c d h i k)
def IV(n:Nat)(i:tc):O Nh:=
 Z (N (i.1,i.2.1,(cO i.2.2.1.1 0 (sM i),()),i.2.2.2))
def abV(n:Nat):Nh->ann:=
 λi=>bU i (λ_ k=>ak (av k.2.2.2.1.1) (Z (([],7,()),())) (Z ((k.1.1,0,()),()))) (λ_ k=>Z (k,())) λ_ _=>Y
def abU(n:Nat)(a:Nat)(c:aB×U)(d:(Int×U)×U)(g:afa)(h:Int×U)(i:tc)(k:VF):VF->O Nh:=
 λl=>aj (eo n (a+8) (uC i l)) λm=>ak (av m.1.1) (EP n m) (aj (F149 n (nN i)) λo=>aj (nE n i o) λp=>ak
 (av p.1.1) (aj (eo n (a+8) (tw i k m)) (pJ n)) (EO n m))
def abT(n:Nat)(a:Nat)(c:aB×U)(d:(Int×U)×U)(g:afa)(h:Int×U)(i:tc)(k:VF):O Nh:=
 aj (F152 n (0,aJ .i64 (bE i.1.1 (aC (iz i)) aW).3 1,())) (abU n a c d g h i k)
def G99:Nat->Nat->aB×U->ann:=
 λn a c=>aj (F147 n c) λd=>ak (av (af d.1.1 0)) (Z (([],2,()),())) (aS (oe (Ss (au c.1.1)) (fZ (au c.1.1) (au
 c.1.1))) (aj (bw (aiX) (Int×U) (afa) (λe=>ak (aG e.1 (au c.1.3)) (aS (aM e.1 c.1.3) (aj (F152 n (0,1,())) λg=>
 aj (eo n (a+5) (bE c.1.3 (aC e.1) 0,g.1.1,e.2)) λh=>ak (av h.1.1) (Z (X h.2 (e.1,()))) (Z (N (aJ .i64 e.1 1,
 h.2))))) (Z (H 0 e))) n (0,(agY (aC (au c.1.1)) aW,()),(c.1.1,c.1.2,c.1.3,c.1.4,c.1.5,()),([],()),())) λe=>bU e
 (λ_ h=>ak (av (av J)) (Z (([],7,()),())) (aj (bw (tc) (ae9) (tc) (λi=>ak (aG 0 (au i.2.2.1.1)) (aS
 (aM (sM i) i.2.2.1.1) (aS (ei (aC (sM i)) i.2.2.1.1) (aS (eF 0 (sM i) (au i.2.2.1.1)) (aS (aM (iz i) i.1.1) (aS (ei (aC
 (iz i)) i.1.1) (aS (aM (iz i) i.2.1.1) (aj (F235 n (nN i)) λj=>aj (Ls n i j) λk=>ak (af (js i).1 11) (aj (eo n (a+8) (uC i k)) (pJ n)) (ak (af (js i).1 12) (aj (eo n (a+8) (uC i k)) λl=>ak (av l.1.1) (EP n l) (aj (F149 n (nN
 i)) λm=>aj (nE n i m) λo=>ak (av o.1.1) (aj (eo n (a+8) (tw i k l)) (pJ n)) (EO n l))) (ak (af (js i).1 19)
 (aj (eo n (a+8) (IW i)) λl=>ak (av l.1.1) (EP n l) (aj (F149 n (nN i)) λm=>aj (nE n i m) λo=>ak (av o.1.1)
 (aj (eo n (a+8) (tw i k l)) (pJ n)) (EO n l))) (ak (af (js i).1 6) (abW n a c d h i k) (ak (af (js i).1 32) (abW n
 a c d h i k) (ak (af (js i).1 31) (aj (F152 n (0,(bE i.1.1 (aC (iz i)) aW).3,())) (abX n a c d h i k)) (aj (F149 n (nN
 i)) λl=>aj (nE n i l) λm=>ak (av m.1.1) (aj (eo n (a+8) (aJ .i64 (iz i) 1,k.1.1,IU i)) (pJ n)) (IV n
 i)))))))))))))) (Z (H 0 i))) n (h.2.1,h.2.2.1,h.2.2.2.1,(W,()),())) (abV n))) (λg h=>ak (av (av (bB 0 h.1))) (Z
 (([],7,()),())) (aj (bw (tc) (ae9) (tc) (λi=>ak (aG 0 (au i.2.2.1.1)) (aS (aM (sM i) i.2.2.1.1) (aS (ei (aC
 (sM i)) i.2.2.1.1) (aS (eF 0 (sM i) (au i.2.2.1.1)) (aS (aM (iz i) i.1.1) (aS (ei (aC (iz i)) i.1.1) (aS (aM (iz i)
 i.2.1.1) (aj (F235 n (nN i)) λj=>aj (Ls n i j) λk=>ak (af (js i).1 11) (aj (eo n (a+8) (uC i k)) (pJ n)) (ak (af
 (js i).1 12) (aj (eo n (a+8) (uC i k)) λl=>ak (av l.1.1) (EP n l) (aj (F149 n (nN i)) λm=>aj (nE n i m) λo=>
 ak (av o.1.1) (aj (eo n (a+8) (tw i k l)) (pJ n)) (EO n l))) (ak (af (js i).1 19) (aj (eo n (a+8) (IW i)) λl=>ak
 (av l.1.1) (EP n l) (aj (F149 n (nN i)) λm=>aj (nE n i m) λo=>ak (av o.1.1) (aj (eo n (a+8) (tw i k l)) (pJ
 n)) (EO n l))) (ak (af (js i).1 6) (abT n a c d g h i k) (ak (af (js i).1 32) (abT n a c d g h i k) (ak (af (js i).1
 31) (aj (F152 n (0,(bE i.1.1 (aC (iz i)) aW).3,())) (abU n a c d g h i k)) (aj (F149 n (nN i)) λl=>aj (nE n i l) λ
 m=>ak (av m.1.1) (aj (eo n (a+8) (aJ .i64 (iz i) 1,k.1.1,IU i)) (pJ n)) (IV n i)))))))))))))) (Z (H 0 i))) n (g.1,
 g.2.1,g.2.2.1,(W,()),())) (abV n))) λ_ _=>Y))
def F99(n:Nat):Fn P5 K18 J:=G99 n n
def k99(n:Nat):OC:=⟨99,⟨P5,K18,J,F99 n⟩,adz [ald n,alc n,alb n,ak6 n,ak5 n,akP n,akO n,akN n] (E99 n).sh (E99 n).cj n (n+10) 99⟩
def F45:Nat->L Int×U->O Y4:=
 λn b=>ak (bB (au b.1) 50) (aj (bw (Int×U) (Int×U) (U) (λc=>ak (aG c.1 (au b.1)) (aS (aM c.1 b.1) (ak
 (bB (-1000000000) (bE b.1 (aC c.1) 0)) (ak (av (bB (bE b.1 (aC c.1) 0) 1000000000)) (Z (X () c)) (Z (N (aJ .i64
 c.1 1,())))) (Z (X () c)))) (Z (H 0 c))) n (0,())) λc=>bU c (λ_ _=>Z ((av J,()),())) (λ_ e=>Z
 ((av (bB 0 e.1),()),())) λ_ _=>Y) (Z ((J,()),()))
def k45:OC:=dm [] [(237,0,lS [(8,dA)])] n 45 P19 K4 J (F45 n)
def F46:anP:=
 λn _=>Z ((aA.mk 3 0,()),())
def k46:OC:=dm [] [] n 46 [] K20 J (F46 n)
def F47:Nat->L Int×U->O Y78:=λn b=>Z (b,())
def C47(n:Nat):bN prog 47 (⟨P19,K21,J,F47 n⟩:lT sg):=WN [] trivial (Up []) J n 10 47 P19 K21 (by kernel_rfl) (Eq.trans (by kernel_rfl:_=λb:L Int×U=>JM (isE b.1) (Z (([],()),())) (Z (b,()))) (funext uA))
def k47(n:Nat):OC:=⟨47,⟨P19,K21,J,F47 n⟩,C47 n⟩
def F172:Nat->L bG×U->O ((L bG×U)×U):=λn b=>Z (b,())
def C172(n:Nat):bN prog 172 (⟨P22,K23,J,F172 n⟩:lT sg):=WN [] trivial (Up []) J n 10 172 P22 K23 (by kernel_rfl) (Eq.trans (by kernel_rfl:_=λb:L bG×U=>JM (isE b.1) (Z (([],()),())) (Z (b,()))) (funext uA))
def ala(n:Nat):OC:=⟨172,⟨P22,K23,J,F172 n⟩,C172 n⟩
def F121:Nat->Y7×L (Int×aa)×Int×bG×U->O (U×Y7×L (Int×aa)×U):=
 λn b=>aj (F172 n (b.1.1.1,())) λc=>aS (aM b.2.2.1 b.1.1.2.1) (aS (aM (bE b.1.1.2.1 (aC b.2.2.1) 0) c.1.1) (aS (ei (aC (bE
 b.1.1.2.1 (aC b.2.2.1) 0)) c.1.1) (Z ((),((lM c.1.1 (aC (bE b.1.1.2.1 (aC b.2.2.1) 0)) b.2.2.2.1,b.1.1.2),()),b.2.1,()))))
def alj:OC:=dm [ala n] [] n 121 P24 [] J (F121 n)
def Au(b:anl):Int:=
 au b.1.2.2.2.2.2.1
def F251:Nat->anl->O Y10:=
 λn b=>aS (oe (eF 0 (Au b) (Au b)) (fZ (Au b) (Au b))) (aS (dI (cO b.1.2.2.2.2.2.1 0 (Au b)) b.2.2.2.1) (Z ((),
 ((),b.1.2.1,b.1.2.2.1,b.1.2.2.2.1,b.1.2.2.2.2.1,dx (cO b.1.2.2.2.2.2.1 0 (Au b)) b.2.2.2.1,b.1.2.2.2.2.2.2),b.2.1,b.2.2.1,())))
def u9:OC:=dm [] [] n 251 P25 [] J (F251 n)
def F252:Y92:=
 λn b=>Z ((aA.mk 1 b.1,()),())
def adX:OC:=dm [] [] n 252 P26 K20 J (F252 n)
def F253:Y66:=
 λn b=>ak b.1 (Z ((aA.mk 2 1,()),())) (Z ((aA.mk 2 0,()),()))
def adW:OC:=dm [] [] n 253 P27 K20 J (F253 n)
def NB(n:Nat)(b:Y9):Y46->O Y10:=
 λc=>aj (F251 n (b.1,b.2.1,b.2.2.1,[c.1.1],())) λd=>Z d
def F173:Y73:=
 λn b=>ak (af b.1.2.2.2.2.2.2.2.1 1) (aj (F252 n (b.1.2.2.2.2.2.2.2.2.1,())) (NB n b)) (ak (af b.1.2.2.2.2.2.2.2.1 2) (aj (F253 n
 (af b.1.2.2.2.2.2.2.2.2.1 1,())) (NB n b)) (ak (af b.1.2.2.2.2.2.2.2.1 3) (aj (F46 n ()) (NB n b)) (aj (F251 n (b.1,b.2.1,b.2.2.1,
 [aA.mk 4 b.1.2.2.2.2.2.2.2.2.1],())) λc=>Z c)))
def ard:OC:=dm [k46 n,u9 n,adX n,adW n] [] n 173 zx [] J (F173 n)
def F174:Y73:=
 λn b=>aS (aM b.1.2.2.2.2.2.2.2.2.1 b.1.2.2.2.2.1) (aj (F251 n (b.1,b.2.1,b.2.2.1,[bE b.1.2.2.2.2.1 (aC b.1.2.2.2.2.2.2.2.2.1) bA],
 ())) λc=>Z c)
def arc:OC:=dm [u9 n] [] n 174 zx [] J (F174 n)
def F259:Nat->aa×Int×U->O Y64:=
 λn b=>ak (av b.1) (Z (M (Any.a0 (iL.mk J b.2.1),()))) (Z (G ((),())))
def CS:OC:=dm [] [] n 259 P29 [] W (F259 n)
def F254:Nat->Y6×Y7×L (Int×aa)×bG×U->O (Rx Y8 Y11):=
 λn b=>aj (F259 n (aG (au b.2.1.1.1) 120,4,())) λc=>cD c (λ_=>aS (oe (eF 0 (au b.2.1.1.1) (au b.2.1.1.1)) (fZ (au
 b.2.1.1.1) (au b.2.1.1.1))) (aS (dI (cO b.2.1.1.1 0 (au b.2.1.1.1)) [b.2.2.2.1]) (Z (G ((aA.mk 5 (bn .i64 (au (dx (cO
 b.2.1.1.1 0 (au b.2.1.1.1)) [b.2.2.2.1])) 1),()),b.1,((dx (cO b.2.1.1.1 0 (au b.2.1.1.1)) [b.2.2.2.1],b.2.1.1.2),()),b.2.2.1,()))))) λ
 d=>Z (M (d.1,b.1,b.2.1,b.2.2.1,()))
def W5:OC:=dm [CS n] [] n 254 P30 K20 W (F254 n)
def F175:JP:=
 λn b=>aj (F254 n (b.1,b.2.1,b.2.2.1,bG.mk 2 b.1.2.2.2.2.2.2.2.2.1 b.1.2.2.2.2.1 [],())) λc=>cD c (λd=>aj (F251 n (d.2.1,
 d.2.2.1,d.2.2.2.1,[d.1.1],())) λe=>Z (G e)) λd=>Z (M d)
def arb:OC:=dm [u9 n,W5 n] [] n 175 zx [] W (F175 n)
def I0(b:Y9):Int:=
 bn .i64 (au b.1.2.2.2.2.2.1) 1
def F260:Nat->Y9->O Y8:=
 λn b=>aS (aM (I0 b) b.1.2.2.2.2.2.1) (aS (eF 0 (I0 b) (au b.1.2.2.2.2.2.1)) (Z ((bE b.1.2.2.2.2.2.1 (aC (I0 b))
 bA,()),((),b.1.2.1,b.1.2.2.1,b.1.2.2.2.1,b.1.2.2.2.2.1,cO b.1.2.2.2.2.2.1 0 (I0 b),b.1.2.2.2.2.2.2),b.2)))
def HD:OC:=dm [] [] n 260 zx K20 J (F260 n)
end
end
section
variable (n:Nat)
open Go TL
noncomputable section
set_option maxRecDepth 100000
set_option maxHeartbeats 0
def F255:Nat->Y9->O Y63:=
 λn b=>aj (F260 n b) λc=>aj (F260 n c.2) λd=>Z ((d.1.1,c.1),d.2)
def W4:OC:=dm [HD n] [] n 255 zx K31 J (F255 n)
def F300:Nat->an1->O (anw×Y6×Y7×L (Int×aa)×U):=
 λn b=>ak (av (af b.2.2.2.1.1 5)) (Z ((bD,J,()),b.1,b.2.1,b.2.2.1,())) (aS (aM b.2.2.2.1.2 b.2.1.1.1) (ak (av
 (af (bE b.2.1.1.1 (aC b.2.2.2.1.2) bD).1 b.2.2.2.2.1)) (Z ((bD,J,()),b.1,b.2.1,b.2.2.1,())) (aS (aM b.2.2.2.1.2
 b.2.1.1.1) (Z ((bE b.2.1.1.1 (aC b.2.2.2.1.2) bD,W,()),b.1,b.2.1,b.2.2.1,())))))
def ahl:OC:=dm [] [] n 300 P32 K33 J (F300 n)
def F256:Nat->Y23->O (Y74×Y6×Y7×L (Int×aa)×U):=
 λn b=>ak (af b.2.2.2.1.1 4) (aS (aM b.2.2.2.1.2 b.2.1.1.2.2.2.2.2.2.2.1) (Z ((aq.mk (bE b.2.1.1.2.2.2.2.2.2.2.1 (aC
 b.2.2.2.1.2) 0) [b.2.2.2.2.1] [] J,W,()),b.1,b.2.1,b.2.2.1,()))) (aj (F300 n (b.1,b.2.1,b.2.2.1,b.2.2.2.1,2,())) λc=>ak
 (av c.1.2.1) (Z ((aT,J,()),c.2)) (aS (oe (eF 0 (au c.1.1.3) (au c.1.1.3)) (fZ (au c.1.1.3) (au c.1.1.3))) (aS (dI
 (cO c.1.1.3 0 (au c.1.1.3)) [b.2.2.2.2.1]) (Z ((aq.mk c.1.1.2 (dx (cO c.1.1.3 0 (au c.1.1.3)) [b.2.2.2.2.1]) [] J,W,()),
 c.2)))))
def ahp:OC:=dm [ahl n] [] n 256 P34 K35 J (F256 n)
def As(b:Y94):Int:=
 bn .i64 (au b.2.2.2.1) 1
def Nz(b:Y94):L aq:=
 [aq.mk b.1.2.2.2.1 b.1.2.2.2.2.1 b.1.2.2.2.2.2.1 b.1.2.2.2.2.2.2.1]
def I1(b:Y94):aq:=
 bE b.2.2.2.1 (aC (As b)) aT
def F257:Nat->Y94->O (Rx Y10 Y11):=
 λn b=>aj (F259 n (bB (aJ .i64 (aJ .i64 (au b.1.2.2.1) 1) (au b.2.2.2.1)) 40,4,())) λc=>cD c (λ_=>aS (eF 0 (As
 b) (au b.2.2.2.1)) (aS (oe (eF 0 (au b.1.2.2.1) (au b.1.2.2.1)) (fZ (au b.1.2.2.1) (au b.1.2.2.1))) (aS (dI (cO b.1.2.2.1 0 (au
 b.1.2.2.1)) (Nz b)) (aS (dI (dx (cO b.1.2.2.1 0 (au b.1.2.2.1)) (Nz b)) (cO b.2.2.2.1 0 (As b))) (aS (aM (As b)
 b.2.2.2.1) (Z (G ((),((),b.1.2.1,dx (dx (cO b.1.2.2.1 0 (au b.1.2.2.1)) (Nz b)) (cO b.2.2.2.1 0 (As b)),(I1 b).1,
 (I1 b).2,(I1 b).3,(I1 b).4,b.1.2.2.2.2.2.2.2),b.2.1,b.2.2.1,())))))))) λd=>Z (M (d.1,b.1,b.2.1,b.2.2.1,()))
def ak1:OC:=dm [CS n] [] n 257 P36 [] W (F257 n)
def F238:Nat->Yf->O (Yf×U):=λn b=>Z (b,())
def C238(n:Nat):bN prog 238 (⟨P37,K38,J,F238 n⟩:lT sg):=WN [] trivial (Up []) J n 10 238 P37 K38 (by kernel_rfl) (Eq.trans (by kernel_rfl:_=λb:Yf=>JM (isE b.1) (Z (([],()),())) (Z (b,()))) (funext uA))
def W6(n:Nat):OC:=⟨238,⟨P37,K38,J,F238 n⟩,C238 n⟩
def F265:Nat->an1->O (Rx ((bG×U)×Y6×Y7×L (Int×aa)×U) Y11):=
 λn b=>aj (F300 n b) λc=>aj (F259 n (c.1.2.1,2,())) λd=>cD d (λ_=>Z (G ((c.1.1,()),c.2))) λe=>Z (M
 (e.1,c.2))
def W3:OC:=dm [CS n,ahl n] [] n 265 P32 K39 W (F265 n)
def pK(e:Yf×U):aq:=
 bE e.1.1 (aC (bn .i64 (au e.1.1) 1)) aT
def F258:Nat->Y23->O (Rx Y24 Y11):=
 λn b=>aj (F265 n (b.1,b.2.1,b.2.2.1,b.2.2.2.1,5,())) λc=>cD c (λd=>aj (F238 n (d.1.1.4,())) λe=>aS (aM (bn .i64
 (au e.1.1) 1) e.1.1) (aS (ei (aC (bn .i64 (au e.1.1) 1)) e.1.1) (aS (oe (eF 0 (au (pK e).3) (au (pK e).3)) (fZ (au
 (pK e).3) (au (pK e).3))) (aS (dI (cO (pK e).3 0 (au (pK e).3)) [b.2.2.2.2.1]) (aS (ei (aC (bn .i64 (au e.1.1) 1))
 e.1.1) (Z (G ((lM e.1.1 (aC (bn .i64 (au e.1.1) 1)) (aq.mk (pK e).1 (pK e).2 (dx (cO (pK e).3 0 (au (pK
 e).3)) [b.2.2.2.2.1]) (pK e).4),()),d.2)))))))) λd=>Z (M d)
def aho:OC:=dm [W6 n,W3 n] [] n 258 P34 K40 W (F258 n)
def F176:JP:=
 λn b=>aj (F255 n b) λc=>aj (F256 n (c.2.1,c.2.2.1,c.2.2.2.1,c.1)) λd=>ak d.1.2.1 (aj (F257 n (d.2.1,d.2.2.1,d.2.2.2.1,[d.1.1],
 ())) λe=>cD e (λg=>Z (G g)) λg=>Z (M g)) (aj (F258 n (d.2.1,d.2.2.1,d.2.2.2.1,c.1)) λe=>cD e (λg=>aj
 (F257 n (g.2.1,g.2.2.1,g.2.2.2.1,g.1)) λh=>cD h (λi=>Z (G i)) λi=>Z (M i)) λg=>Z (M g))
def ara:OC:=dm [W4 n,ahp n,ak1 n,aho n] [] n 176 zx [] W (F176 n)
def I6(g:Y24):aq:=
 bE g.1.1 (aC (bn .i64 (au g.1.1) 1)) aT
def F177:JP:=
 λn b=>aj (F255 n b) λc=>aj (F256 n (c.2.1,c.2.2.1,c.2.2.2.1,c.1)) λd=>ak d.1.2.1 (Z (G ((),((),d.2.1.2.1,d.2.1.2.2.1,
 d.1.1.1,d.1.1.2,d.1.1.3,d.2.1.2.2.2.2.2.2),d.2.2))) (aj (F258 n (d.2.1,d.2.2.1,d.2.2.2.1,c.1)) λe=>cD e (λg=>aj (F259 n (bB
 (aJ .i64 (au g.2.1.2.2.1) (au g.1.1)) 40,4,())) λh=>cD h (λ_=>aS (eF 0 (bn .i64 (au g.1.1) 1) (au g.1.1)) (aS (oe
 (eF 0 (au g.2.1.2.2.1) (au g.2.1.2.2.1)) (fZ (au g.2.1.2.2.1) (au g.2.1.2.2.1))) (aS (dI (cO g.2.1.2.2.1 0 (au g.2.1.2.2.1)) (cO
 g.1.1 0 (bn .i64 (au g.1.1) 1))) (aS (aM (bn .i64 (au g.1.1) 1) g.1.1) (Z (G ((),((),g.2.1.2.1,dx (cO g.2.1.2.2.1 0 (au
 g.2.1.2.2.1)) (cO g.1.1 0 (bn .i64 (au g.1.1) 1)),(I6 g).1,(I6 g).2,(I6 g).3,(I6 g).4,g.2.1.2.2.2.2.2.2.2),g.2.2)))))))
 λi=>Z (M (i.1,g.2))) λg=>Z (M g))
def aq9:OC:=dm [W4 n,ahp n,aho n,CS n] [] n 177 zx [] W (F177 n)
def Az(c:Y8):Int:=
 au c.2.1.2.2.2.2.1
def F178:Y73:=
 λn b=>aj (F260 n b) λc=>aS (oe (eF 0 (Az c) (Az c)) (fZ (Az c) (Az c))) (aS (dI (cO c.2.1.2.2.2.2.1 0 (Az c))
 [c.1.1]) (Z ((),((),c.2.1.2.1,c.2.1.2.2.1,c.2.1.2.2.2.1,dx (cO c.2.1.2.2.2.2.1 0 (Az c)) [c.1.1],c.2.1.2.2.2.2.2),c.2.2)))
def aq8:OC:=dm [HD n] [] n 178 zx [] J (F178 n)
def F179:Y73:=
 λn b=>aS (eF 0 (bn .i64 (au b.1.2.2.2.2.1) b.1.2.2.2.2.2.2.2.2.1) (au b.1.2.2.2.2.1)) (Z ((),((),b.1.2.1,b.1.2.2.1,b.1.2.2.2.1,
 cO b.1.2.2.2.2.1 0 (bn .i64 (au b.1.2.2.2.2.1) b.1.2.2.2.2.2.2.2.2.1),b.1.2.2.2.2.2),b.2))
def aq7:OC:=dm [] [] n 179 zx [] J (F179 n)
def F180:Y73:=
 λn b=>Z ((),((),b.1.2.1,b.1.2.2.1,b.1.2.2.2.2.2.2.2.2.1,b.1.2.2.2.2),b.2)
def aq6:OC:=dm [] [] n 180 zx [] J (F180 n)
def F181:JP:=
 λn b=>aj (F260 n b) λc=>aj (F259 n (af c.1.1.1 2,2,())) λd=>cD d (λ_=>ak (af c.1.1.2 0) (Z (G ((),((),
 c.2.1.2.1,c.2.1.2.2.1,c.2.1.2.2.2.2.2.2.2.2.1,c.2.1.2.2.2.2),c.2.2))) (Z (G ((),c.2)))) λe=>Z (M (e.1,c.2))
def aq5:OC:=dm [CS n,HD n] [] n 181 zx [] W (F181 n)
def TU(n:Nat)(c:Y63):Y64->O (Rx Y65 Y11):=
 λd=>cD d (λ_=>Z (G ((c.1.1.2,c.1.2.1.2,()),c.2))) λe=>Z (M (e.1,c.2))
def F262:Nat->Y9->O (Rx Y65 Y11):=
 λn b=>aj (F255 n b) λc=>ak (af c.1.1.1 1) (aj (F259 n (af c.1.2.1.1 1,2,())) (TU n c)) (aj (F259 n (J,2,())) (TU n
 c))
def ak0:OC:=dm [W4 n,CS n] [] n 262 zx K16 W (F262 n)
def r6(n:Nat)(d:Y65)(g:Int×aa×U):anM:=
 λh=>cD h (λ_=>aj (F252 n (g.1,())) λj=>aj (F251 n (d.2.1,d.2.2.1,d.2.2.2.1,[j.1.1],())) λk=>Z (G k)) λi=>Z
 (M (i.1,d.2))
def F182:JP:=
 λn b=>aj (F262 n b) λc=>cD c (λd=>aj (ak (af d.2.1.2.2.2.2.2.2.2.1 13) (Z (N (aJ .i64 d.1.1 d.1.2.1,W,())))
 (aj (ak (af d.2.1.2.2.2.2.2.2.2.1 14) (Z (N (bn .i64 d.1.1 d.1.2.1,W,()))) (Z (N (I8 .i64 d.1.1 d.1.2.1,J,
 ())))) λ(e:Y54)=>cJ e (λg=>Z (N (g.1,J,()))) (λ_ _=>Y) (λ_ _=>Z (X () ())) λ_ h=>Z (LO.iN
 () h))) λ(e:Y54)=>cJ e (λg=>ak (bB (-1000000000) g.1) (aj (F259 n (bB g.1 1000000000,4,())) (r6 n d g)) (aj (F259 n
 (J,4,())) (r6 n d g))) (λ_ _=>Y) (λ_ _=>Z (G ((),d.2))) λ_ h=>Z (M (h,d.2))) λd=>Z (M d)
def aq4:OC:=dm [u9 n,adX n,CS n,ak0 n] [(182,1000005,lS [(4,dA),(18,dM)]),(182,1000007,lS [(4,dA),(23,dM)])] n 182 zx [] W (F182 n)
def F183:JP:=
 λn b=>aj (F262 n b) λc=>cD c (λd=>aj (F253 n (aG d.1.1 d.1.2.1,())) λe=>aj (F251 n (d.2.1,d.2.2.1,d.2.2.2.1,[e.1.1],
 ())) λg=>Z (G g)) λd=>Z (M d)
def aq3:OC:=dm [u9 n,adW n,ak0 n] [] n 183 zx [] W (F183 n)
def I5(n:Nat)(c:Y63):anM:=
 λd=>cD d (λ_=>aj (F253 n (af c.1.1.2 c.1.2.1.2,())) λg=>aj (F251 n (c.2.1,c.2.2.1,c.2.2.2.1,[g.1.1],())) λh=>Z
 (G h)) λe=>Z (M (e.1,c.2))
def F184:JP:=
 λn b=>aj (F255 n b) λc=>ak (af c.1.1.1 c.1.2.1.1) (ak (af c.1.1.1 1) (aj (F259 n (W,2,())) (I5 n c)) (ak (af c.1.1.1
 2) (aj (F259 n (W,2,())) (I5 n c)) (aj (F259 n (af c.1.1.1 3,2,())) (I5 n c)))) (aj (F259 n (J,2,())) (I5 n c))
def aq2:OC:=dm [u9 n,adW n,W4 n,CS n] [] n 184 zx [] W (F184 n)
def F239:Nat->L aA×U->O Y57:=λn b=>Z (b,())
def C239(n:Nat):bN prog 239 (⟨P41,K42,J,F239 n⟩:lT sg):=WN [] trivial (Up []) J n 10 239 P41 K42 (by kernel_rfl) (Eq.trans (by kernel_rfl:_=λb:L aA×U=>JM (isE b.1) (Z (([],()),())) (Z (b,()))) (funext uA))
def ZZ(n:Nat):OC:=⟨239,⟨P41,K42,J,F239 n⟩,C239 n⟩
def DK(b:Y9):Int:=
 au b.1.2.2.2.2.2.1
def I4(b:Y9):Int:=
 bn .i64 (DK b) (bE b.2.1.1.2.2.2.2.2.2.2.2.2.1 (aC b.1.2.2.2.2.2.2.2.2.1) br).2
def F185:JP:=
 λn b=>aS (aM b.1.2.2.2.2.2.2.2.2.1 b.2.1.1.2.2.2.2.2.2.2.2.2.1) (aS (eF (I4 b) (DK b) (DK b)) (aj (F239 n (cO b.1.2.2.2.2.2.1
 (I4 b) (DK b),())) λc=>aS (eF 0 (I4 b) (DK b)) (aj (F254 n (((),b.1.2.1,b.1.2.2.1,b.1.2.2.2.1,b.1.2.2.2.2.1,cO
 b.1.2.2.2.2.2.1 0 (I4 b),b.1.2.2.2.2.2.2),b.2.1,b.2.2.1,bG.mk 1 b.1.2.2.2.2.2.2.2.2.1 c.1.1 [],())) λd=>cD d (λe=>aj (F251 n
 (e.2.1,e.2.2.1,e.2.2.2.1,[e.1.1],())) λg=>Z (G g)) λe=>Z (M e))))
def aq1:OC:=dm [ZZ n,u9 n,W5 n] [] n 185 zx [] W (F185 n)
abbrev YV(F:Fn P43 K44 J):lT sg:=⟨P43,K44,J,F⟩
def xZ(c:XM):Y9:=
 (c.1,c.2.1,c.2.2.1,())
def DR(n:Nat)(f263:XM->ae7)(c:XM):Y46->ae7:=
 λd=>Z (([],bR (af c.2.2.2.2.1.1 d.1.1.1) (bR (af c.2.2.2.2.1.2 d.1.1.2) W),()),xZ c)
def Ja(c:XM)(e:ank):aI:=
 bE c.2.2.2.1.4 (aC e.2.1) aR
def B263:Nat->(XM->ae7)->XM->ae7:=
 λn f263 c=>ak (af c.2.2.2.1.1 1) (Z (([],W,()),xZ c)) (ak (af c.2.2.2.1.1 2) (Z (([c.2.2.2.2.1],W,()),xZ c))
 (ak (af c.2.2.2.1.1 3) (aj (F252 n (c.2.2.2.1.2,())) (DR n f263 c)) (ak (af c.2.2.2.1.1 4) (aj (F253 n (af c.2.2.2.1.2 1,()))
 (DR n f263 c)) (ak (af c.2.2.2.1.1 5) (aj (F46 n ()) (DR n f263 c)) (aj (F300 n (c.1,c.2.1,c.2.2.1,c.2.2.2.2.1,1,())) λd=>ak
 (av d.1.2.1) (Z (([],J,()),d.2)) (ak (av (af d.1.1.2 c.2.2.2.1.2)) (Z (([],J,()),d.2)) (aj (bw (ank) (afc) (Y9) (λe=>ak (aG e.2.1 (au c.2.2.2.1.4)) (aS (aM e.2.1 c.2.2.2.1.4) (aS (aM e.2.1 d.1.1.3) (aj (f263 (e.2.2.1,e.2.2.2.1,
 e.2.2.2.2.1,aI.mk (Ja c e).1 (Ja c e).2 (Ja c e).3 (Ja c e).4,bE d.1.1.3 (aC e.2.1) bA,())) λg=>ak (av
 g.1.2.1) (Z (X g.2 ([],J,()))) (aS (dI e.1 g.1.1) (Z (N (dx e.1 g.1.1,aJ .i64 e.2.1 1,g.2))))))) (Z (H 0 e)))
 n ([],0,d.2)) λe=>bU e (λ_ h=>Z ((h.1,W,()),h.2.2)) (λg h=>Z (h,g)) λ_ _=>Y)))))))
def D263(n:Nat)(f263:Fn P43 K44 J)(a:bN prog 263 (YV f263)):bN prog 263 (YV (B263 n f263)):=wE [k46 n,adX n,adW n,⟨263,YV f263,a⟩,ahl n] [(263,1,⟨[(10,.one (.own (.st 4))),(61,dA),(0,b3z),(0,b1z),(0,xH)],[.slot 0,.cell (.slot 0) 0,.cell (.cell (.slot 0) 0) 11],[],0⟩)] n 10 263
def R263(n k:Nat):(Fn P43 K44 J):=Nat.rec (motive:=λ_=>(Fn P43 K44 J)) (λ_=>Y) (λ_ r=>B263 n r) k
def F263(n:Nat):Fn P43 K44 J:=(R263 n n)
def agx(n:Nat):∀k,bN prog 263 (YV (R263 n k))
 |0=>cG (enters 263 (by kernel_rfl))
 |k+1=>have a:=agx n k
  D263 n _ a
def aqu(n:Nat):OC:=⟨263,YV (F263 n),(agx n n)⟩
def DJ(d:Y8):Int:=
 au d.2.1.2.2.2.2.1
def F186:Y73:=
 λn b=>aS (aM (bn .i64 (au b.1.2.2.2.2.2.1) 1) b.1.2.2.2.2.2.1) (aS (aM b.1.2.2.2.2.2.2.2.2.1 b.2.1.1.2.2.2.2.2.2.1) (aj (F263 n (b.1,
 b.2.1,b.2.2.1,bE b.2.1.1.2.2.2.2.2.2.1 (aC b.1.2.2.2.2.2.2.2.2.1) aR,bE b.1.2.2.2.2.2.1 (aC (bn .i64 (au b.1.2.2.2.2.2.1) 1))
 bA,())) λc=>ak (av c.1.2.1) (Z ((),((),c.2.1.2.1,c.2.1.2.2.1,c.2.1.2.2.2.2.2.2.2.2.2.1,c.2.1.2.2.2.2),c.2.2)) (aj (F260 n
 c.2) λd=>aS (oe (eF 0 (DJ d) (DJ d)) (fZ (DJ d) (DJ d))) (aS (dI (cO d.2.1.2.2.2.2.1 0 (DJ d)) c.1.1) (Z ((),
 ((),d.2.1.2.1,d.2.1.2.2.1,d.2.1.2.2.2.1,dx (cO d.2.1.2.2.2.2.1 0 (DJ d)) c.1.1,d.2.1.2.2.2.2.2),d.2.2))))))
def aq0:OC:=dm [HD n,aqu n] [] n 186 zx [] J (F186 n)
def F187:JP:=
 λn b=>aj (F259 n (J,3,())) λc=>cD c (λ_=>Z (G ((),b))) λd=>Z (M (d.1,b))
def aqZ:OC:=dm [CS n] [] n 187 zx [] W (F187 n)
def F301:anU:=
 λn b=>ak (af b.1.1 4) (Z ((aA.mk 5 0,()),())) (ak (af b.1.1 5) (Z ((aA.mk 5 0,()),())) (Z (b,())))
def E2:OC:=dm [] [] n 301 P45 K20 J (F301 n)
def F188:JP:=
 λn b=>aj (F260 n b) λc=>aj (F254 n (c.2.1,c.2.2.1,c.2.2.2.1,bG.mk 3 0 [c.1.1] [],())) λd=>cD d (λe=>aj (F251 n
 (e.2.1,e.2.2.1,e.2.2.2.1,[e.1.1],())) λg=>aj (F301 n c.1) λh=>Z (G ((),((),g.2.1.2.1,g.2.1.2.2.1,g.2.1.2.2.2.1,
 g.2.1.2.2.2.2.1,g.2.1.2.2.2.2.2.1,g.2.1.2.2.2.2.2.2.1,g.2.1.2.2.2.2.2.2.2.1,g.2.1.2.2.2.2.2.2.2.2.1,g.2.1.2.2.2.2.2.2.2.2.2.1,Z (aE.mk
 g.2.1.2.1 16 0 h.1.1),()),g.2.2))) λe=>Z (M e)
def aqY:OC:=dm [u9 n,W5 n,HD n,E2 n] [] n 188 zx [] W (F188 n)
def F189:JP:=
 λn b=>aj (F260 n b) λc=>aj (F265 n (c.2.1,c.2.2.1,c.2.2.2.1,c.1.1,3,())) λd=>cD d (λe=>aS (aM 0 e.1.1.3) (aj (F251 n
 (e.2.1,e.2.2.1,e.2.2.2.1,[bE e.1.1.3 (aC 0) bA],())) λg=>aj (F301 n (bE e.1.1.3 (aC 0) bA,())) λh=>Z (G ((),
 ((),g.2.1.2.1,g.2.1.2.2.1,g.2.1.2.2.2.1,g.2.1.2.2.2.2.1,g.2.1.2.2.2.2.2.1,g.2.1.2.2.2.2.2.2.1,g.2.1.2.2.2.2.2.2.2.1,g.2.1.2.2.2.2.2.2.2.2.1,
 g.2.1.2.2.2.2.2.2.2.2.2.1,Z (aE.mk g.2.1.2.1 17 0 h.1.1),()),g.2.2)))) λe=>Z (M e)
def aqX:OC:=dm [u9 n,HD n,W3 n,E2 n] [] n 189 zx [] W (F189 n)
def F266:Nat->Y6×Y7×L (Int×aa)×Int×bG×U->O Y10:=
 λn b=>aj (F172 n (b.2.1.1.1,())) λc=>aS (aM b.2.2.2.1 c.1.1) (aS (ei (aC b.2.2.2.1) c.1.1) (Z ((),b.1,((lM c.1.1 (aC
 b.2.2.2.1) b.2.2.2.2.1,b.2.1.1.2),()),b.2.2.1,())))
def ahn:OC:=dm [ala n] [] n 266 P46 [] J (F266 n)
def F190:JP:=
 λn b=>aj (F255 n b) λc=>aj (F265 n (c.2.1,c.2.2.1,c.2.2.2.1,c.1.1,3,())) λd=>cD d (λe=>aj (F266 n (e.2.1,e.2.2.1,
 e.2.2.2.1,c.1.1.2,bG.mk 3 0 [c.1.2.1] [],())) λg=>aj (F46 n ()) λh=>aj (F251 n (g.2.1,g.2.2.1,g.2.2.2.1,[h.1.1],())) λi=>
 aj (F301 n c.1.2) λj=>Z (G ((),((),i.2.1.2.1,i.2.1.2.2.1,i.2.1.2.2.2.1,i.2.1.2.2.2.2.1,i.2.1.2.2.2.2.2.1,i.2.1.2.2.2.2.2.2.1,
 i.2.1.2.2.2.2.2.2.2.1,i.2.1.2.2.2.2.2.2.2.2.1,i.2.1.2.2.2.2.2.2.2.2.2.1,Z (aE.mk i.2.1.2.1 18 0 j.1.1),()),i.2.2))) λe=>Z
 (M e)
def aqW:OC:=dm [k46 n,u9 n,W4 n,W3 n,ahn n,E2 n] [] n 190 zx [] W (F190 n)
def Ay(j:Y8):Int:=
 au j.2.2.1.1.2.1
def F191:JP:=
 λn b=>aj (F260 n b) λc=>aj (F46 n ()) λd=>aj (F256 n (c.2.1,c.2.2.1,c.2.2.2.1,c.1.1,d.1)) λe=>aj (ak e.1.2.1 (Z
 (N (W,e.2.1,e.2.2.1,e.2.2.2.1,(6,0,[],[e.1.1],()),()))) (aj (F46 n ()) λg=>aj (F258 n (e.2.1,e.2.2.1,e.2.2.2.1,c.1.1,g.1))
 λh=>cD h (λi=>Z (N (J,i.2.1,i.2.2.1,i.2.2.2.1,(6,0,[],i.1),()))) λi=>Z (LO.iN (i.2.1,i.2.2.1,i.2.2.2.1,
 (6,0,[],[],()),()) i.1))) λ(g:LO (aa×Y6×Y7×L (Int×aa)×Lr×U) U (Y6×Y7×L (Int×aa)×Lr×U) Any)=>
 cJ g (λh=>aj (F254 n (h.2.1,h.2.2.1,h.2.2.2.1,bG.mk h.2.2.2.2.1.1 h.2.2.2.2.1.2.1 [] h.2.2.2.2.1.2.2.2.1,())) λi=>cD i (λj
 =>aS (oe (eF 0 (Ay j) (Ay j)) (fZ (Ay j) (Ay j))) (aS (dI (cO j.2.2.1.1.2.1 0 (Ay j)) [j.1.1.2]) (aj (F251 n (j.2.1,
 ((j.2.2.1.1.1,dx (cO j.2.2.1.1.2.1 0 (Ay j)) [j.1.1.2],j.2.2.1.1.2.2),()),j.2.2.2.1,[j.1.1],())) λk=>aj (F46 n ()) λl=>aj
 (F301 n l.1) λm=>Z (G ((),((),k.2.1.2.1,k.2.1.2.2.1,k.2.1.2.2.2.1,k.2.1.2.2.2.2.1,k.2.1.2.2.2.2.2.1,k.2.1.2.2.2.2.2.2.1,
 k.2.1.2.2.2.2.2.2.2.1,k.2.1.2.2.2.2.2.2.2.2.1,k.2.1.2.2.2.2.2.2.2.2.2.1,Z (aE.mk k.2.1.2.1 19 0 m.1.1),()),k.2.2))))) λj=>Z
 (M j)) (λ_ _=>Y) (λh _=>Z (G ((),h.1,h.2.1,h.2.2.1,()))) λh i=>Z (M (i,h.1,h.2.1,h.2.2.1,()))
def aqV:OC:=dm [k46 n,u9 n,W5 n,ahp n,aho n,HD n,E2 n] [(191,1000004,⟨[(17,dM),(0,b3z),(0,b1z),(0,xH),(0,anc)],[.slot 0,.cell (.slot 0) 0,.cell (.cell (.slot 0) 0) 11,.slot 3],[],0⟩)] n 191 zx [] W (F191 n)
end
end
section
variable (n:Nat)
open Go TL
noncomputable section
set_option maxRecDepth 100000
set_option maxHeartbeats 0
def F268:Nat->aa×U->O Y64:=
 λn b=>ak (av b.1) (Z (M (Any.a0 (iL.mk W 0),()))) (Z (G ((),())))
def adV:OC:=dm [] [] n 268 P27 [] W (F268 n)
def F192:JP:=
 λn b=>aj (F260 n b) λc=>aj (F265 n (c.2.1,c.2.2.1,c.2.2.2.1,c.1.1,6,())) λd=>cD d (λe=>aj (F268 n (av (af e.1.1.2
 0),())) λg=>cD g (λ_=>aj (F259 n (af e.1.1.2 1,e.1.1.2,())) λi=>cD i (λ_=>aS (aM 0 e.1.1.3) (aj (F251 n (e.2.1,
 e.2.2.1,e.2.2.2.1,[bE e.1.1.3 (aC 0) bA],())) λk=>aS (aM 0 e.1.1.3) (aj (F301 n (bE e.1.1.3 (aC 0) bA,())) λl=>Z
 (G ((),((),k.2.1.2.1,k.2.1.2.2.1,k.2.1.2.2.2.1,k.2.1.2.2.2.2.1,k.2.1.2.2.2.2.2.1,k.2.1.2.2.2.2.2.2.1,k.2.1.2.2.2.2.2.2.2.1,
 k.2.1.2.2.2.2.2.2.2.2.1,k.2.1.2.2.2.2.2.2.2.2.2.1,Z (aE.mk k.2.1.2.1 20 0 l.1.1),()),k.2.2))))) λj=>Z (M (j.1,e.2))) λh
 =>Z (M (h.1,e.2))) λe=>Z (M e)
def aqU:OC:=dm [u9 n,CS n,HD n,W3 n,adV n,E2 n] [] n 192 zx [] W (F192 n)
def F193:JP:=
 λn b=>aj (F254 n (b.1,b.2.1,b.2.2.1,bG.mk 4 0 [] [],())) λc=>cD c (λd=>aj (F251 n (d.2.1,d.2.2.1,d.2.2.2.1,[d.1.1],()))
 λe=>aj (F46 n ()) λg=>aj (F301 n g.1) λh=>Z (G ((),((),e.2.1.2.1,e.2.1.2.2.1,e.2.1.2.2.2.1,e.2.1.2.2.2.2.1,
 e.2.1.2.2.2.2.2.1,e.2.1.2.2.2.2.2.2.1,e.2.1.2.2.2.2.2.2.2.1,e.2.1.2.2.2.2.2.2.2.2.1,e.2.1.2.2.2.2.2.2.2.2.2.1,Z (aE.mk e.2.1.2.1 21 0
 h.1.1),()),e.2.2))) λd=>Z (M d)
def aqT:OC:=dm [k46 n,u9 n,W5 n,E2 n] [] n 193 zx [] W (F193 n)
def F194:JP:=
 λn b=>aj (F255 n b) λc=>aj (F265 n (c.2.1,c.2.2.1,c.2.2.2.1,c.1.1,4,())) λd=>cD d (λe=>aj (F268 n (aG (au e.1.1.3)
 4,())) λg=>cD g (λ_=>aS (oe (eF 0 (au e.1.1.3) (au e.1.1.3)) (fZ (au e.1.1.3) (au e.1.1.3))) (aS (dI (cO e.1.1.3 0
 (au e.1.1.3)) [c.1.2.1]) (aj (F266 n (e.2.1,e.2.2.1,e.2.2.2.1,c.1.1.2,bG.mk e.1.1.1 e.1.1.2 (dx (cO e.1.1.3 0 (au e.1.1.3)) [c.1.2.1])
 e.1.1.4,())) λi=>aj (F46 n ()) λj=>aj (F251 n (i.2.1,i.2.2.1,i.2.2.2.1,[j.1.1],())) λk=>aj (F301 n c.1.2) λl=>Z (G
 ((),((),k.2.1.2.1,k.2.1.2.2.1,k.2.1.2.2.2.1,k.2.1.2.2.2.2.1,k.2.1.2.2.2.2.2.1,k.2.1.2.2.2.2.2.2.1,k.2.1.2.2.2.2.2.2.2.1,
 k.2.1.2.2.2.2.2.2.2.2.1,k.2.1.2.2.2.2.2.2.2.2.2.1,Z (aE.mk k.2.1.2.1 22 0 l.1.1),()),k.2.2))))) λh=>Z (M (h.1,e.2))) λe
 =>Z (M e)
def aqS:OC:=dm [k46 n,u9 n,W4 n,W3 n,ahn n,adV n,E2 n] [] n 194 zx [] W (F194 n)
def F195:JP:=
 λn b=>aj (F260 n b) λc=>aj (F265 n (c.2.1,c.2.2.1,c.2.2.2.1,c.1.1,4,())) λd=>cD d (λe=>aj (F268 n (aG 0 (au
 e.1.1.3),())) λg=>cD g (λ_=>aS (aM 0 e.1.1.3) (aS (eF 1 (au e.1.1.3) (au e.1.1.3)) (aj (F266 n (e.2.1,e.2.2.1,e.2.2.2.1,
 c.1.1.2,bG.mk e.1.1.1 e.1.1.2 (cO e.1.1.3 1 (au e.1.1.3)) e.1.1.4,())) λi=>aj (F251 n (i.2.1,i.2.2.1,i.2.2.2.1,[bE e.1.1.3 (aC 0)
 bA],())) λj=>aj (F301 n (bE e.1.1.3 (aC 0) bA,())) λk=>Z (G ((),((),j.2.1.2.1,j.2.1.2.2.1,j.2.1.2.2.2.1,
 j.2.1.2.2.2.2.1,j.2.1.2.2.2.2.2.1,j.2.1.2.2.2.2.2.2.1,j.2.1.2.2.2.2.2.2.2.1,j.2.1.2.2.2.2.2.2.2.2.1,j.2.1.2.2.2.2.2.2.2.2.2.1,Z (aE.mk
 j.2.1.2.1 23 0 k.1.1),()),j.2.2))))) λh=>Z (M (h.1,e.2))) λe=>Z (M e)
def aqR:OC:=dm [u9 n,HD n,W3 n,ahn n,adV n,E2 n] [] n 195 zx [] W (F195 n)
def xT(c:Y8):Int:=
 au c.2.2.1.1.2.2.1
def F196:JP:=
 λn b=>aj (F260 n b) λc=>aj (F259 n (af c.1.1.1 1,2,())) λd=>cD d (λ_=>aj (F259 n (aG (xT c) 100,4,())) λg=>
 cD g (λ_=>aS (oe (eF 0 (xT c) (xT c)) (fZ (xT c) (xT c))) (aS (dI (cO c.2.2.1.1.2.2.1 0 (xT c)) [ec.mk
 c.2.1.2.2.2.2.2.2.2.2.1 c.1.1.2]) (aj (F46 n ()) λi=>aj (F251 n (c.2.1,((c.2.2.1.1.1,c.2.2.1.1.2.1,dx (cO c.2.2.1.1.2.2.1 0 (xT c))
 [ec.mk c.2.1.2.2.2.2.2.2.2.2.1 c.1.1.2],c.2.2.1.1.2.2.2),()),c.2.2.2.1,[i.1.1],())) λj=>aj (F301 n c.1) λk=>Z (G ((),((),
 j.2.1.2.1,j.2.1.2.2.1,j.2.1.2.2.2.1,j.2.1.2.2.2.2.1,j.2.1.2.2.2.2.2.1,j.2.1.2.2.2.2.2.2.1,j.2.1.2.2.2.2.2.2.2.1,j.2.1.2.2.2.2.2.2.2.2.1,
 j.2.1.2.2.2.2.2.2.2.2.2.1,Z (aE.mk j.2.1.2.1 24 j.2.1.2.2.2.2.2.2.2.2.1 k.1.1),()),j.2.2))))) λh=>Z (M (h.1,c.2))) λe=>
 Z (M (e.1,c.2))
def aqQ:OC:=dm [k46 n,u9 n,CS n,HD n,E2 n] [] n 196 zx [] W (F196 n)
def I3(b:Y9):Int:=
 au b.2.1.1.2.2.2.1
def F197:JP:=
 λn b=>aj (F268 n (aG 0 (I3 b),())) λc=>cD c (λ_=>aj (F259 n (aG b.2.1.1.2.2.2.2.1 1000000000,4,())) λe=>cD e
 (λ_=>aS (aM 0 b.2.1.1.2.2.2.1) (aj (F252 n (bE b.2.1.1.2.2.2.1 (aC 0) 0,())) λh=>aS (eF 1 (I3 b) (I3 b)) (aj (F251 n
 (b.1,((b.2.1.1.1,b.2.1.1.2.1,b.2.1.1.2.2.1,cO b.2.1.1.2.2.2.1 1 (I3 b),aJ .i64 b.2.1.1.2.2.2.2.1 1,b.2.1.1.2.2.2.2.2),()),b.2.2.1,
 [h.1.1],())) λi=>aj (F301 n h.1) λj=>Z (G ((),((),i.2.1.2.1,i.2.1.2.2.1,i.2.1.2.2.2.1,i.2.1.2.2.2.2.1,i.2.1.2.2.2.2.2.1,
 i.2.1.2.2.2.2.2.2.1,i.2.1.2.2.2.2.2.2.2.1,i.2.1.2.2.2.2.2.2.2.2.1,i.2.1.2.2.2.2.2.2.2.2.2.1,Z (aE.mk i.2.1.2.1 25 0 j.1.1),()),
 i.2.2))))) λg=>Z (M (g.1,b))) λd=>Z (M (d.1,b))
def aqP:OC:=dm [u9 n,adX n,CS n,adV n,E2 n] [] n 197 zx [] W (F197 n)
def F198:JP:=
 λn b=>aj (F257 n (b.1,b.2.1,b.2.2.1,[aq.mk b.1.2.2.2.2.2.2.2.2.1 b.1.2.2.2.2.1 [] W],())) λc=>cD c (λd=>Z (G d))
 λd=>Z (M d)
def aqO:OC:=dm [ak1 n] [] n 198 zx [] W (F198 n)
def DH(b:Y9):L aq:=
 [aq.mk b.1.2.2.2.1 b.1.2.2.2.2.1 b.1.2.2.2.2.2.1 b.1.2.2.2.2.2.2.1]
def pM(b:Y9):L aq:=
 dx (cO b.1.2.2.1 0 (au b.1.2.2.1)) (DH b)
def Ax(k:Y8):Int:=
 au k.2.1.2.2.2.2.1
def F199:JP:=
 λn b=>aS (oe (eF 0 (au b.1.2.2.1) (au b.1.2.2.1)) (fZ (au b.1.2.2.1) (au b.1.2.2.1))) (aS (dI (cO b.1.2.2.1 0 (au b.1.2.2.1))
 (DH b)) (aj (bw (Int×Int×U) (U) (U) (λc=>ak (bB 0 c.2.1) (aS (aM c.2.1 (pM b)) (aS (ei (aC c.2.1)
 (pM b)) (ak (bE (pM b) (aC c.2.1) aT).4 (Z (H 0 (c.2.1,c.2))) (Z (N (c.1,bn .i64 c.2.1 1,())))))) (Z
 (H 0 c))) n ((-1),bn .i64 (au (pM b)) 1,())) λc=>bU c (λ_ e=>aj (F259 n (bB 0 e.1,3,())) λg=>cD g (λ_=>
 aS (eF e.1 (au (pM b)) (au (pM b))) (aj (F238 n (cO (pM b) e.1 (au (pM b)),())) λi=>aj (F254 n (b.1,b.2.1,b.2.2.1,
 bG.mk 5 0 [] i.1.1,())) λj=>cD j (λk=>aS (eF 0 e.1 (au (pM b))) (aS (oe (eF 0 (Ax k) (Ax k)) (fZ (Ax k)
 (Ax k))) (aS (dI (cO k.2.1.2.2.2.2.1 0 (Ax k)) [k.1.1]) (Z (G ((),((),k.2.1.2.1,cO (pM b) 0 e.1,k.2.1.2.2.2.2.2.2.2.2.1,
 dx (cO k.2.1.2.2.2.2.1 0 (Ax k)) [k.1.1],[],W,k.2.1.2.2.2.2.2.2.2),k.2.2)))))) λk=>Z (M k))) λh=>Z (M (h.1,
 b))) (λ_ _=>Z (G ((),b))) λ_ e=>Z (M (e,b))))
def aqN:OC:=dm [W6 n,W5 n,CS n] [(199,0,lS [(3,dA),(4,dA)])] n 199 zx [] W (F199 n)
def F200:Y73:=
 λn b=>aj (F46 n ()) λc=>aj (F251 n (b.1,b.2.1,b.2.2.1,[c.1.1],())) λd=>aj (F46 n ()) λe=>aj (F301 n e.1) λg=>Z ((),
 ((),d.2.1.2.1,d.2.1.2.2.1,d.2.1.2.2.2.1,d.2.1.2.2.2.2.1,d.2.1.2.2.2.2.2.1,d.2.1.2.2.2.2.2.2.1,d.2.1.2.2.2.2.2.2.2.1,d.2.1.2.2.2.2.2.2.2.2.1,
 d.2.1.2.2.2.2.2.2.2.2.2.1,Z (aE.mk d.2.1.2.1 28 0 g.1.1),()),d.2.2)
def aqM:OC:=dm [k46 n,u9 n,E2 n] [] n 200 zx [] J (F200 n)
def Aw(c:Y8):Int:=
 bn .i64 (au c.2.1.2.2.1) 1
def I2(c:Y8):aq:=
 bE c.2.1.2.2.1 (aC (Aw c)) aT
def F201:Y73:=
 λn b=>aj (F260 n b) λc=>ak (aG (Aw c) 0) (aj (F301 n c.1) λd=>aj (F121 n (c.2.2.1,c.2.2.2.1,c.2.1.2.1,bG.mk 6 1
 [c.1.1] [],())) λe=>Z ((),((),c.2.1.2.1,c.2.1.2.2.1,c.2.1.2.2.2.1,c.2.1.2.2.2.2.1,c.2.1.2.2.2.2.2.1,c.2.1.2.2.2.2.2.2.1,
 c.2.1.2.2.2.2.2.2.2.1,c.2.1.2.2.2.2.2.2.2.2.1,c.2.1.2.2.2.2.2.2.2.2.2.1,Z (aE.mk c.2.1.2.1 0 1 d.1.1),()),e.2)) (aS (aM (Aw c)
 c.2.1.2.2.1) (aS (eF 0 (Aw c) (au c.2.1.2.2.1)) (aj (F251 n (((),c.2.1.2.1,cO c.2.1.2.2.1 0 (Aw c),(I2 c).1,(I2 c).2,
 (I2 c).3,(I2 c).4,c.2.1.2.2.2.2.2.2.2),c.2.2.1,c.2.2.2.1,[c.1.1],())) λd=>Z d)))
def aqL:OC:=dm [alj n,u9 n,HD n,E2 n] [] n 201 zx [] J (F201 n)
def Re(b:Yc):Int:=
 bn .i64 (au (bE b.1.1.1 (aC (bE b.1.1.2.1 (aC b.2.2.1) 0)) bD).4) 1
def EW(b:Yc):aq:=
 bE (bE b.1.1.1 (aC (bE b.1.1.2.1 (aC b.2.2.1) 0)) bD).4 (aC (Re b)) aT
def fJ(b:Yc):bT:=
 bE b.1.1.2.2.2.2.2.1 (aC (EW b).1) cg
def g9(b:Yc):Y9:=
 (((),b.2.2.1,cO (bE b.1.1.1 (aC (bE b.1.1.2.1 (aC b.2.2.1) 0)) bD).4 0 (Re b),aJ .i64 (EW b).1 1,(EW b).2,(EW b).3,
 (EW b).4,(fJ b).1,(fJ b).2,(fJ b).3,Y,()),b.1,b.2.1,())
def abZ(c:Y10):L aq:=
 [aq.mk c.2.1.2.2.2.1 c.2.1.2.2.2.2.1 c.2.1.2.2.2.2.2.1 c.2.1.2.2.2.2.2.2.1]
def gS(n:Nat)(b:Yc):Y10->Y76:=
 λc=>aS (aM b.2.2.1 c.2.2.1.1.2.1) (aS (aM (bE c.2.2.1.1.2.1 (aC b.2.2.1) 0) c.2.2.1.1.1) (aj (ak (af (bE c.2.2.1.1.1 (aC (bE
 c.2.2.1.1.2.1 (aC b.2.2.1) 0)) bD).2 0) (aS (oe (eF 0 (au c.2.1.2.2.1) (au c.2.1.2.2.1)) (fZ (au c.2.1.2.2.1) (au c.2.1.2.2.1)))
 (aS (dI (cO c.2.1.2.2.1 0 (au c.2.1.2.2.1)) (abZ c)) (aj (F121 n (c.2.2.1,c.2.2.2.1,b.2.2.1,bG.mk 6 0 [] (dx (cO c.2.1.2.2.1 0
 (au c.2.1.2.2.1)) (abZ c)),())) λd=>Z (N (W,d.2))))) (Z (N (J,c.2.2)))) λ(d:LO (aa×Y7×L (Int×aa)
 ×U) U Y77 Any)=>cJ d (λe=>ak (AS c.2.1.2.2.2.2.2.2.2.2.2.2.1) (aS (AS c.2.1.2.2.2.2.2.2.2.2.2.2.1) (Z ((fY.a1
 (iM.mk (E4 bP c.2.1.2.2.2.2.2.2.2.2.2.2.1)),()),e.2))) (Z ((fY.a2 rX.mk,()),e.2))) (λ_ _=>Y) (λe _=>Z
 ((fY.none,()),e)) λ_ _=>Y))
def Rd(n:Nat)(b:Yc):Y76:=
 aj (F173 n (g9 b)) (gS n b)
def agl(b:Yc)(d:Y11):Y7:=
 ((b.1.1.1,b.1.1.2.1,b.1.1.2.2.1,b.1.1.2.2.2.1,b.1.1.2.2.2.2.1,d.2.2.1.1.2.2.2.2.2),())
def ki(n:Nat)(b:Yc):Y11->Y76:=
 λd=>ak (av (isNil [(199,Ty.st 27)] (jB 38 d.1))) (aj (ak (av (mQ [(199,Ty.st 27)] 0 (jB 38 d.1))) Y (Z (N
 (J,())))) λ(e:Y47)=>cJ e (λ_=>ak (av (kK (Sg.zero sg) [(199,Ty.st 27)] 0 (jB 38 d.1)).1) (aj (F121 n (agl b d,
 d.2.2.2.1,b.2.2.1,bG.mk 6 (kK (Sg.zero sg) [(199,Ty.st 27)] 0 (jB 38 d.1)).2 [] [],())) λh=>Z ((fY.a1 (iM.mk
 (aE.mk b.2.2.1 0 (kK (Sg.zero sg) [(199,Ty.st 27)] 0 (jB 38 d.1)).2 bA)),()),h.2)) (Z ((fY.a0 sK.mk,()),agl b d,
 d.2.2.2))) (λ_ _=>Y) (λ_ _=>Z ((fY.none,()),d.2.2)) λ_ _=>Y) (Z ((fY.none,()),d.2.2))
def Nn(n:Nat)(b:Yc):Y76:=
 aj (F182 n (g9 b)) λc=>cD c (gS n b) (ki n b)
def F67:Nat->Yc->Y76:=
 λn b=>aS (aM b.2.2.1 b.1.1.2.1) (aS (aM (bE b.1.1.2.1 (aC b.2.2.1) 0) b.1.1.1) (ak (av (af (bE b.1.1.1 (aC (bE b.1.1.2.1
 (aC b.2.2.1) 0)) bD).2 0)) (Z ((fY.a0 sK.mk,()),b.1,b.2.1,())) (aS (eF 0 (Re b) (au (bE b.1.1.1 (aC (bE b.1.1.2.1
 (aC b.2.2.1) 0)) bD).4)) (aS (aM (Re b) (bE b.1.1.1 (aC (bE b.1.1.2.1 (aC b.2.2.1) 0)) bD).4) (aS (aM (EW b).1
 b.1.1.2.2.2.2.2.1) (ak (fZ (fJ b).1 0) Y (ak (fZ (fJ b).1 1) (Rd n b) (ak (fZ (fJ b).1 2) (Rd n b) (ak (fZ (fJ b).1 3)
 (Rd n b) (ak (fZ (fJ b).1 4) (aj (F174 n (g9 b)) (gS n b)) (ak (fZ (fJ b).1 5) (Rd n b) (ak (fZ (fJ b).1 6) (aj (F175 n
 (g9 b)) λc=>cD c (gS n b) (ki n b)) (ak (fZ (fJ b).1 7) (aj (F176 n (g9 b)) λc=>cD c (gS n b) (ki n b)) (ak
 (fZ (fJ b).1 8) (aj (F177 n (g9 b)) λc=>cD c (gS n b) (ki n b)) (ak (fZ (fJ b).1 9) (aj (F178 n (g9 b)) (gS n b))
 (ak (fZ (fJ b).1 10) (aj (F179 n (g9 b)) (gS n b)) (ak (fZ (fJ b).1 11) (aj (F180 n (g9 b)) (gS n b)) (ak (fZ (fJ b).1 12)
 (aj (F181 n (g9 b)) λc=>cD c (gS n b) (ki n b)) (ak (fZ (fJ b).1 13) (Nn n b) (ak (fZ (fJ b).1 14) (Nn n b) (ak
 (fZ (fJ b).1 15) (Nn n b) (ak (fZ (fJ b).1 16) (aj (F183 n (g9 b)) λc=>cD c (gS n b) (ki n b)) (ak (fZ (fJ b).1 17)
 (aj (F184 n (g9 b)) λc=>cD c (gS n b) (ki n b)) (ak (fZ (fJ b).1 18) (aj (F185 n (g9 b)) λc=>cD c (gS n b) (ki
 n b)) (ak (fZ (fJ b).1 19) (aj (F186 n (g9 b)) (gS n b)) (ak (fZ (fJ b).1 20) (aj (F187 n (g9 b)) λc=>cD c (gS n b)
 (ki n b)) (ak (fZ (fJ b).1 21) (aj (F188 n (g9 b)) λc=>cD c (gS n b) (ki n b)) (ak (fZ (fJ b).1 22) (aj (F189 n (g9
 b)) λc=>cD c (gS n b) (ki n b)) (ak (fZ (fJ b).1 23) (aj (F190 n (g9 b)) λc=>cD c (gS n b) (ki n b)) (ak (fZ
 (fJ b).1 24) (aj (F191 n (g9 b)) λc=>cD c (gS n b) (ki n b)) (ak (fZ (fJ b).1 25) (aj (F192 n (g9 b)) λc=>cD c
 (gS n b) (ki n b)) (ak (fZ (fJ b).1 26) (aj (F193 n (g9 b)) λc=>cD c (gS n b) (ki n b)) (ak (fZ (fJ b).1 27) (aj
 (F194 n (g9 b)) λc=>cD c (gS n b) (ki n b)) (ak (fZ (fJ b).1 28) (aj (F195 n (g9 b)) λc=>cD c (gS n b) (ki n
 b)) (ak (fZ (fJ b).1 29) (aj (F196 n (g9 b)) λc=>cD c (gS n b) (ki n b)) (ak (fZ (fJ b).1 30) (aj (F197 n (g9 b)) λc
 =>cD c (gS n b) (ki n b)) (ak (fZ (fJ b).1 31) (aj (F198 n (g9 b)) λc=>cD c (gS n b) (ki n b)) (ak (fZ (fJ b).1
 32) (aj (F199 n (g9 b)) λc=>cD c (gS n b) (ki n b)) (ak (fZ (fJ b).1 33) (aj (F200 n (g9 b)) (gS n b)) (ak (fZ (fJ
 b).1 34) (aj (F201 n (g9 b)) (gS n b)) (aS J Y)))))))))))))))))))))))))))))))))))))))))
def k67:OC:=dm [alj n,ard n,arc n,arb n,ara n,aq9 n,aq8 n,aq7 n,aq6 n,aq5 n,aq4 n,aq3 n,aq2 n,aq1 n,aq0 n,aqZ n,aqY n,aqX n,aqW n,aqV n,aqU n,aqT n,aqS n,aqR n,aqQ n,aqP n,aqO n,aqN n,aqM n,aqL n] [(67,1000012,⟨[(100,dM),(0,b0z),(0,xH)],[.cell (.slot 2) 0,.cell (.cell (.slot 2) 0) 11],[],0⟩),(120,1000004,lS [(16,dM)])] n 67 P47 K48 J (F67 n)
def F68:Nat->fY×U->IN:=
 λn b=>ak (mQ [(197,Ty.st 14),(203,Ty.st 15),(213,Ty.st 16)] 2 (jB 17 b.1)) (Z ((0,()),())) (ak (mQ [(197,Ty.st 14),(203,
 Ty.st 15),(213,Ty.st 16)] 1 (jB 17 b.1)) (Z ((1,()),())) (Z ((2,()),())))
def k68:OC:=dm [] [] n 68 P49 K2 J (F68 n)
def F48:Nat->Yc->O ai0:=
 λn b=>aj (bw (Int×Int×Y7×L (Int×aa)×U) (Int×aa×U) (Y77) (λc=>ak (aG c.2.1 (au c.2.2.1.1.2.1)) (aj
 (F67 n (c.2.2.1,c.2.2.2.1,c.2.1,())) λd=>aj (F68 n d.1) λe=>ak (av (af e.1.1 0)) (Z (N (c.1,aJ .i64 c.2.1 1,
 c.2.2.1,d.2.2))) (ak (aG 5000 (aJ .i64 c.1 1)) (Z (X (c.2.2.1,d.2.2) (0,J,()))) (Z (N (aJ .i64 c.1 1,c.2.1,
 d.2))))) (Z (H 0 c))) n (b.2.2.1,0,b.1,b.2.1,())) λc=>bU c (λ_ e=>Z ((e.1,W,()),e.2.2)) (λd e=>Z (e,d)) λ
 _ _=>Y
def k48:OC:=dm [k67 n,k68 n] [(48,0,⟨[(1,dA),(6,dA),(0,b0z),(0,xH)],[.slot 0,.cell (.slot 0) 11],[],0⟩)] n 48 P47 K50 J (F48 n)
def F156:Nat->L ec×U->O ((L ec×U)×U):=λn b=>Z (b,())
def C156(n:Nat):bN prog 156 (⟨P51,K52,J,F156 n⟩:lT sg):=WN [] trivial (Up []) J n 10 156 P51 K52 (by kernel_rfl) (Eq.trans (by kernel_rfl:_=λb:L ec×U=>JM (isE b.1) (Z (([],()),())) (Z (b,()))) (funext uA))
def adZ(n:Nat):OC:=⟨156,⟨P51,K52,J,F156 n⟩,C156 n⟩
def F103:anR:=
 λn b=>Z (b,())
def alp:OC:=dm [] [] n 103 P26 K2 J (F103 n)
end
end
section
variable (n:Nat)
open Go TL
noncomputable section
set_option maxRecDepth 100000
set_option maxHeartbeats 0
abbrev E49(n:Nat):eI sg:=⟨Ad,Cv [k47 n,alp n,adZ n,W6 n,ZZ n],Up [(49,0,⟨[(3,.one (.own (.int .i64))),(11,dA)],[],[],0⟩),(102,0,⟨[(32,dA),(0,b6z)],[.slot 7],[],0⟩),(102,2,⟨[(58,dA),(0,b6z)],[.slot 7],[],0⟩),(157,2,⟨[(6,.one (.own (.st 4))),(21,dA)],[],[(19,6)],0⟩)],J,cjL [(169,0,⟨[(0,JI)],[.cell (.slot 1) 0],[.slot 1,.slot 0,.NO (.slot 0) 3],[]⟩),(170,0,⟨[(0,dA),(0,JI)],[.cell (.slot 1) 0],[.slot 1,.slot 2,.slot 3,.cell (.slot 2) 0,.NO (.cell (.slot 2) 0) 3],[.dat .bool]⟩)]⟩
def FP:Nat->Nat->Lr×U->O (U×Lr×U):=λn a x=>RO (xA (E49 n) n a) 169 [(0,JI)] [] [8] [12,14,9] (S1 ([8]++[12,14,9]) [(0,JI)] (Vd [.r9 14,.ptr 12 0])) (stJ [8] [12,14,9] ⟨trL [(14,lpR 157 42 [14] (rgN (Wl (Vw 157)) 0) [(3,.ptr 9 0)]),(12,.box [.ptr 8 0]),(9,.box [.fn (.func 103) [] []])],0,0,0,[],[]⟩) x
def Ch:Nat->Nat->Int×Lr×U->O ((aa×U)×Lr×U):=λn a x=>RO (xA (E49 n) n a) 170 [(0,dA),(0,JI)] [.dat .bool] [8] [12,16,17,14,9] (S1 ([8]++[12,16,17,14,9]) [(0,dA),(0,JI)] (Vd [.emp,.ptr 12 0,.ptr 16 0,.ptr 17 0])) (stJ [8] [12,16,17,14,9] ⟨trL [(14,lpR 157 42 [14] (rgN (Wl (Vw 157)) 0) [(3,.ptr 9 0)]),(12,.box [.ptr 8 0]),(9,.box [.fn (.func 103) [] []]),(16,.box [.r9 14]),(17,.box [.fn (.func 170) [] [.ptr 12 0,.ptr 16 0,.ptr 17 0]])],0,0,0,[],[]⟩) x
def VT:Nat->Nat->Lr×U->O (U×Lr×U):=
 λn a c=>aj (F239 n (c.1.2.2.1,())) λd=>aj (bw (Y58) (U) (U) (λe=>ak (aG e.2.1 (au d.1.1)) (aS (aM e.2.1 e.1)
 (aS (ei (aC e.2.1) e.1) (ak (af (bE e.1 (aC e.2.1) bA).1 5) (aj (F103 n ((bE e.1 (aC e.2.1) bA).2,())) λg=>aS (aM
 e.2.1 e.1) (aS (ei (aC e.2.1) e.1) (Z (N (lM e.1 (aC e.2.1) (aA.mk (bE e.1 (aC e.2.1) bA).1 g.1.1),aJ .i64 e.2.1 1,
 ()))))) (Z (N (e.1,aJ .i64 e.2.1 1,())))))) (Z (H 0 e))) n (d.1.1,0,())) λe=>bU e (λ_ h=>aj (Ch n
 (a+3) (0,(c.1.1,c.1.2.1,h.1,c.1.2.2.2),())) λi=>Z ((),i.2)) (λ_ _=>Y) λ_ _=>Y
def TK(n a:Nat):FP n (a+4)=VT n a:=by kernel_rfl
def uE(c:Int×Lr×U):aq:=
 bE c.2.1.2.2.2.1 (aC c.1) aT
def mW(n:Nat)(d:Y57):auq:=
 bw (Y58) (U) (U) (λe=>ak (aG e.2.1 (au d.1.1)) (aS (aM e.2.1 e.1) (aS (ei (aC e.2.1) e.1) (ak (af (bE e.1 (aC
 e.2.1) bA).1 5) (aj (F103 n ((bE e.1 (aC e.2.1) bA).2,())) λg=>aS (aM e.2.1 e.1) (aS (ei (aC e.2.1) e.1) (Z (N
 (lM e.1 (aC e.2.1) (aA.mk (bE e.1 (aC e.2.1) bA).1 g.1.1),aJ .i64 e.2.1 1,()))))) (Z (N (e.1,aJ .i64 e.2.1 1,
 ())))))) (Z (H 0 e))) n (d.1.1,0,())
def qP(c:Int×Lr×U)(h:Y58):L aq:=
 lM c.2.1.2.2.2.1 (aC c.1) (aq.mk (uE c).1 h.1 (uE c).3 (uE c).4)
def qO(c:Int×Lr×U)(h:Y58):aq:=
 bE (qP c h) (aC c.1) aT
def NM:Nat->Nat->Int×Lr×U->O ((aa×U)×Lr×U):=
 λn a c=>ak (af c.1 (au c.2.1.2.2.2.1)) (Z ((W,()),c.2)) (aS (aM c.1 c.2.1.2.2.2.1) (aS (ei (aC c.1) c.2.1.2.2.2.1) (aj
 (F239 n ((uE c).2,())) λd=>aj (mW n d) λe=>bU e (λ_ h=>aS (ei (aC c.1) c.2.1.2.2.2.1) (aS (aM c.1 (qP c h))
 (aS (ei (aC c.1) (qP c h)) (aj (F239 n ((qO c h).3,())) λi=>aj (mW n i) λj=>bU j (λ_ l=>aS (ei (aC c.1)
 (qP c h)) (aj (Ch n (a+3) (aJ .i64 c.1 1,(c.2.1.1,c.2.1.2.1,c.2.1.2.2.1,lM (qP c h) (aC c.1) (aq.mk (qO c
 h).1 (qO c h).2 l.1 (qO c h).4),()),())) λm=>Z m)) (λ_ _=>Y) λ_ _=>Y)))) (λ_ _=>Y) λ_ _=>Y)))
def IT(n a:Nat):Ch n (a+4)=NM n a:=by kernel_rfl
def zy(c:Y77)(g:Y91)(j:Int×DD×U):bG:=
 bE c.1.1.1 (aC (bE g.1 (aC j.1) 0)) bD
def G49:anH:=
 λn a c=>aj (bw (Y91) (U) (U) (λd=>ak (aG d.2.1 (au c.1.1.1)) (aS (dI d.1 [d.2.1]) (Z (N (dx d.1 [d.2.1],
 aJ .i64 d.2.1 1,())))) (Z (H 0 d))) n ([],0,())) λd=>bU d (λ_ g=>aj (F156 n (c.1.1.2.2.1,())) λh=>aj (F47 n
 (c.1.1.2.2.2.1,())) λi=>aj (bw (Int×DD×U) (U) (DD×U) (λj=>ak (aG j.1 (au g.1)) (aS (aM j.1 g.1) (aS
 (ei (aC j.1) g.1) (aS (aM (bE g.1 (aC j.1) 0) c.1.1.1) (aj (F238 n ((zy c g j).4,())) λk=>aj (FP n (a+8) (((zy c g
 j).1,(zy c g j).2,(zy c g j).3,k.1),())) λl=>aS (dI j.2.1.1 [bG.mk l.2.1.1 l.2.1.2.1 l.2.1.2.2.1 l.2.1.2.2.2.1]) (Z (N
 (aJ .i64 j.1 1,(dx j.2.1.1 [bG.mk l.2.1.1 l.2.1.2.1 l.2.1.2.2.1 l.2.1.2.2.2.1],j.2.1.2),()))))))) (Z (H 0 j))) n (0,([],[],
 h.1.1,i.1.1,c.1.1.2.2.2.2.1,()),())) λj=>bU j (λ_ l=>aj (bw (Int×DD×U) (U) (DD×U) (λm=>ak (aG m.1
 (au c.1.1.2.1)) (aS (aM m.1 c.1.1.2.1) (aj (F103 n (bE c.1.1.2.1 (aC m.1) 0,())) λo=>aS (dI m.2.1.2.1 [o.1.1]) (Z (N (aJ .i64
 m.1 1,(m.2.1.1,dx m.2.1.2.1 [o.1.1],m.2.1.2.2),()))))) (Z (H 0 m))) n (0,l.2)) λm=>bU m (λ_ p=>Z ((ai.mk p.2.1.1
 p.2.1.2.1 p.2.1.2.2.1 p.2.1.2.2.2.1 p.2.1.2.2.2.2.1,()),c)) (λ_ _=>Z ((cX,()),c)) λ_ _=>Y) (λ_ _=>Z ((cX,
 ()),c)) λ_ _=>Y) (λ_ _=>Z ((cX,()),c)) λ_ _=>Y
def F49(n:Nat):Fn P53 K54 J:=G49 n n
def k49(n:Nat):OC:=⟨49,⟨P53,K54,J,F49 n⟩,adz [k47 n,alp n,adZ n,W6 n,ZZ n] (E49 n).sh (E49 n).cj n (n+10) 49⟩
def k13:OC:=ZI [k45 n,k46 n,k47 n,k48 n,k49 n,k99 n] [(44,0,⟨[(23,dA),(0,Tm)],[.cell (.slot 19) 11],[],0⟩)] n 13 P55 K56 J
def F13(n:Nat):Fn P55 K56 J:=(k13 n).c.F
def F164:Nat->ec×U->O Y4:=
 λn b=>ak (bB 0 b.1.1) (ak (aG b.1.1 4) (ak (bB (-1000000000) b.1.2) (Z ((bB b.1.2 1000000000,()),())) (Z ((J,()),
 ()))) (Z ((J,()),()))) (Z ((J,()),()))
def ari:OC:=dm [] [] n 164 P57 K4 J (F164 n)
def F245:Nat->cT×aA×U->O Y4:=
 λn b=>ak (af b.2.1.1 1) (ak (bB (-1000000000) b.2.1.2) (Z ((bB b.2.1.2 1000000000,()),())) (Z ((J,()),()))) (ak (af
 b.2.1.1 2) (ak (af b.2.1.2 0) (Z ((W,()),())) (Z ((af b.2.1.2 1,()),()))) (ak (af b.2.1.1 3) (Z ((af b.2.1.2 0,()),()))
 (ak (af b.2.1.1 4) (ak (bB 0 b.2.1.2) (Z ((aG b.2.1.2 (au b.1.2.3),()),())) (Z ((J,()),()))) (ak (af b.2.1.1 5) (ak
 (bB 0 b.2.1.2) (Z ((aG b.2.1.2 (au b.1.1.1),()),())) (Z ((J,()),()))) (Z ((J,()),()))))))
def ak3:OC:=dm [] [] n 245 P58 K4 J (F245 n)
def xS(n:Nat):O Y4:=
 Z ((J,()),())
def ab8(n:Nat)(c:Int×U):Y4->Y85:=
 λd=>ak (av d.1.1) (Z (X () c)) (Z (N (aJ .i64 c.1 1,())))
def Nx(n:Nat)(b:Y86):O Y4:=
 aj (bw (Int×U) (Int×U) (U) (λg=>ak (aG g.1 (au b.2.1.3)) (aS (aM g.1 b.2.1.3) (aj (F245 n (b.1,bE b.2.1.3 (aC
 g.1) bA,())) (ab8 n g))) (Z (H 0 g))) n (0,())) λg=>bU g (λ_ _=>Z ((av J,()),())) (λ_ i=>Z
 ((av (bB 0 i.1),()),())) λ_ _=>Y
def F296:Nat->Y86->O Y4:=
 λn b=>ak (aG b.2.1.1 0) (xS n) (ak (bB (au b.1.3) b.2.1.1) (xS n) (aS (aM b.2.1.1 b.1.3) (ak (av (bE b.1.3 (aC
 b.2.1.1) aW).1) (xS n) (aS (aM b.2.1.1 b.1.3) (ak (af (au b.2.1.2) (bE b.1.3 (aC b.2.1.1) aW).3) (ak (af (au
 b.2.1.3) (bn .i64 (bE b.1.3 (aC b.2.1.1) aW).2 b.2.2.1)) (aj (bw (Int×U) (Int×U) (U) (λc=>ak (aG c.1
 (au b.2.1.2)) (aS (aM c.1 b.2.1.2) (aj (F245 n (b.1,bE b.2.1.2 (aC c.1) bA,())) (ab8 n c))) (Z (H 0 c))) n (0,())) λc
 =>bU c (λ_ _=>ak (av J) (Nx n b) (xS n)) (λ_ e=>ak (av (bB 0 e.1)) (Nx n b) (xS n)) λ_ _=>Y)
 (xS n)) (xS n))))))
def akW:OC:=dm [ak3 n] [(315,0,lS [(8,dA)])] n 296 P59 K4 J (F296 n)
def F247:Y84:=
 λn b=>aj (F296 n (b.1,b.2.1,1,())) λc=>Z c
def ak2:OC:=dm [akW n] [] n 247 P60 K4 J (F247 n)
def F297:Y84:=
 λn b=>aj (F296 n (b.1,b.2.1,0,())) λc=>Z c
def aqj:OC:=dm [akW n] [] n 297 P60 K4 J (F297 n)
def Av(b:abJ):Int:=
 bn .i64 (au b.2.1.4) 1
def TV(n:Nat)(b:abJ):O Y4:=
 aS (aM (Av b) b.2.1.4) (aj (F297 n (b.1,bE b.2.1.4 (aC (Av b)) aT,())) λg=>Z g)
def tC(n:Nat):O Y4:=
 Z ((J,()),())
def F248:anW:=
 λn b=>ak (af b.2.1.2 0) (ak (af (au b.2.1.3) 0) (ak (bB 1 (au b.2.1.4)) (ak (bB (au b.2.1.4) 40) (aS (eF 0 (Av b)
 (au b.2.1.4)) (aj (bw (Int×U) (Int×U) (U) (λc=>ak (aG c.1 (au (cO b.2.1.4 0 (Av b)))) (aS (aM c.1 (cO
 b.2.1.4 0 (Av b))) (aj (F247 n (b.1,bE (cO b.2.1.4 0 (Av b)) (aC c.1) aT,())) λd=>ak (av d.1.1) (Z (X () c))
 (Z (N (aJ .i64 c.1 1,()))))) (Z (H 0 c))) n (0,())) λc=>bU c (λ_ _=>ak (av J) (TV n b) (tC n)) (λ
 _ e=>ak (av (bB 0 e.1)) (TV n b) (tC n)) λ_ _=>Y)) (tC n)) (tC n)) (tC n)) (ak (af b.2.1.2 1) (ak (af
 (au b.2.1.3) 1) (Z ((af (au b.2.1.4) 0,()),())) (tC n)) (aj (ak (af b.2.1.2 2) (Z (N (W,()))) (aj (ak (af
 b.2.1.2 3) (Z (N (W,()))) (Z (N (af b.2.1.2 4,())))) λ(c:oZ)=>cJ c (λd=>Z (N d)) (λ_ _=>Y)
 (λ_ e=>Z (X () e)) λ_ _=>Y)) λ(c:oZ)=>cJ c (λd=>ak d.1 (ak (af (au b.2.1.3) 0) (Z ((af (au
 b.2.1.4) 0,()),())) (tC n)) (tC n)) (λ_ _=>Y) (λ_ e=>Z (e,())) λ_ _=>Y))
def aqv:OC:=dm [ak2 n,aqj n] [(248,1000008,lS [(55,dM)]),(248,1000009,lS [(55,dM)]),(316,0,lS [(8,dA)])] n 248 P61 K4 J (F248 n)
def ju(n:Nat):O Y4:=
 Z ((J,()),())
def TW(n:Nat)(b:abJ):O Y4:=
 aS (aM 0 b.2.1.4) (Z (((bE b.2.1.4 (aC 0) aT).4,()),()))
def NC(n:Nat)(b:abJ):O Y4:=
 ak (af b.2.1.1 1) (ak (af (au b.2.1.4) 0) (ak (bB 0 b.2.1.2) (ak (aG b.2.1.2 (au b.1.2.5)) (aS (aM b.2.1.2 b.1.2.5) (Z
 ((af (au b.2.1.3) (bE b.1.2.5 (aC b.2.1.2) br).2,()),()))) (ju n)) (ju n)) (ju n)) (ak (af b.2.1.1 2) (ak (af (au
 b.2.1.4) 0) (ak (FE (A:=sg.A) (Ty.int .i64) J b.2.1.2 b.1.4) (aS (aM b.2.1.2 b.1.3) (Z ((af (au b.2.1.3) (bn .i64 (bE b.1.3
 (aC b.2.1.2) aW).3 1),()),()))) (ju n)) (ju n)) (ak (af b.2.1.1 3) (ak (af (au b.2.1.4) 0) (ak (af b.2.1.2 0) (Z
 ((af (au b.2.1.3) 1,()),())) (ju n)) (ju n)) (ak (af b.2.1.1 4) (ak (af (au b.2.1.4) 0) (ak (af b.2.1.2 0) (Z ((bB
 (au b.2.1.3) 4,()),())) (ju n)) (ju n)) (ak (af b.2.1.1 5) (ak (bB 1 (au b.2.1.4)) (ak (bB (au b.2.1.4) 40) (ak (af
 b.2.1.2 0) (ak (af (au b.2.1.3) 0) (aj (bw (Int×U) (Int×U) (U) (λg=>ak (aG g.1 (au b.2.1.4)) (aS (aM g.1
 b.2.1.4) (aj (F247 n (b.1,bE b.2.1.4 (aC g.1) aT,())) λh=>ak (av h.1.1) (Z (X () g)) (Z (N (aJ .i64 g.1 1,
 ()))))) (Z (H 0 g))) n (0,())) λg=>bU g (λ_ _=>ak (av J) (TW n b) (ju n)) (λ_ i=>ak (av (bB 0 i.1))
 (TW n b) (ju n)) λ_ _=>Y) (ju n)) (ju n)) (ju n)) (ju n)) (ak (af b.2.1.1 6) (aj (F248 n b) λg=>Z g)
 (ju n))))))
def F166:anW:=
 λn b=>aj (bw (Int×U) (Int×U) (U) (λc=>ak (aG c.1 (au b.2.1.3)) (aS (aM c.1 b.2.1.3) (aj (F245 n (b.1,bE
 b.2.1.3 (aC c.1) bA,())) λd=>ak (av d.1.1) (Z (X () c)) (Z (N (aJ .i64 c.1 1,()))))) (Z (H 0 c))) n (0,
 ())) λc=>bU c (λ_ _=>ak (av (av J)) (ju n) (NC n b)) (λ_ e=>ak (av (av (bB 0 e.1))) (ju n)
 (NC n b)) λ_ _=>Y
def arh:OC:=dm [ak3 n,ak2 n,aqv n] [(315,0,lS [(8,dA)]),(316,0,lS [(8,dA)])] n 166 P61 K4 J (F166 n)
def F167:anz:=
 λn b=>aj (bw (Y51) (aa×U) (Y52) (λc=>ak (aG c.1 (au b.1.1.1)) (aS (aM c.1 b.1.1.1) (ak (af (bE b.1.1.1 (aC
 c.1) bD).1 6) (Z (N (aJ .i64 c.1 1,jK (A:=sg.A) (Ty.int .i64) c.1 W c.2.1,()))) (Z (N (aJ .i64 c.1 1,c.2)))))
 (Z (H 0 c))) n (0,[],())) λc=>bU c (λ_ e=>aj (bw (Y51) (aa×U) (Y52) (λg=>ak (aG g.1 (au b.1.1.2))
 (aS (aM g.1 b.1.1.2) (ak (av (FE (A:=sg.A) (Ty.int .i64) J (bE b.1.1.2 (aC g.1) 0) g.2.1)) (Z (X g.2 (J,()))) (Z
 (N (aJ .i64 g.1 1,MY (A:=sg.A) (Ty.int .i64) (bE b.1.1.2 (aC g.1) 0) g.2.1,()))))) (Z (H 0 g))) n (0,e.2)) λg=>bU g
 (λ_ i=>Z ((af (au i.2.1) 0,()),())) (λ_ i=>Z (i,())) λ_ _=>Y) (λ_ e=>Z (e,())) λ_ _=>Y
def arf:OC:=dm [] [(167,0,⟨[(14,dA),(0,Tm)],[.slot 7],[],0⟩),(167,2,⟨[(36,dA),(0,Tm)],[.slot 7],[],0⟩)] n 167 P62 K4 J (F167 n)
def tE(n:Nat):O Y4:=
 Z ((J,()),())
def ach(n:Nat)(b:cT×U):O Y4:=
 aj (F45 n (b.1.1.4,())) λk=>ak k.1.1 (ak (bB 0 b.1.1.5) (Z ((bB b.1.1.5 1000000000,()),())) (tE n)) (tE n)
def acg(n:Nat)(b:cT×U):O Y4:=
 aj (F167 n b) λg=>ak g.1.1 (ak (bB (au b.1.1.3) 100) (aj (bw (Int×U) (Int×U) (U) (λh=>ak (aG h.1 (au
 b.1.1.3)) (aS (aM h.1 b.1.1.3) (aj (F164 n (bE b.1.1.3 (aC h.1) kM,())) λi=>ak (av i.1.1) (Z (X () h)) (Z (N
 (aJ .i64 h.1 1,()))))) (Z (H 0 h))) n (0,())) λh=>bU h (λ_ _=>ak (av J) (ach n b) (tE n)) (λ_ j=>ak
 (av (bB 0 j.1)) (ach n b) (tE n)) λ_ _=>Y) (tE n)) (tE n)
def F111:anz:=
 λn b=>ak (bB (au b.1.1.1) 120) (aj (bw (Int×U) (Int×U) (U) (λc=>ak (aG c.1 (au b.1.1.1)) (aS (aM c.1
 b.1.1.1) (aj (F166 n (b.1,bE b.1.1.1 (aC c.1) bD,())) λd=>ak (av d.1.1) (Z (X () c)) (Z (N (aJ .i64 c.1 1,
 ()))))) (Z (H 0 c))) n (0,())) λc=>bU c (λ_ _=>ak (av J) (acg n b) (tE n)) (λ_ e=>ak (av (bB 0 e.1))
 (acg n b) (tE n)) λ_ _=>Y) (tE n)
def ad2:OC:=dm [k45 n,ari n,arh n,arf n] [(291,0,lS [(8,dA)]),(298,0,lS [(8,dA)])] n 111 P62 K4 J (F111 n)
def F66:Nat->Y77->O ((L Int×U)×Y7×L (Int×aa)×U):=
 λn b=>aj (bw (L Int×Int×Y7×L (Int×aa)×U) (L Int×U) (Y77) (λc=>ak (aG c.2.1 (au b.1.1.2.1)) (aj
 (F67 n (c.2.2.1,c.2.2.2.1,c.2.1,())) λd=>aj (F68 n d.1) λe=>ak (av (af e.1.1 2)) (aS (dI c.1 [c.2.1]) (Z (N (dx c.1
 [c.2.1],aJ .i64 c.2.1 1,c.2.2.1,d.2.2)))) (Z (N (c.1,aJ .i64 c.2.1 1,c.2.2.1,d.2.2)))) (Z (H 0 c))) n ([],0,b)) λc=>
 bU c (λ_ e=>Z ((e.1,()),e.2.2)) (λd e=>Z (e,d)) λ_ _=>Y
def k66:OC:=dm [k67 n,k68 n] [(66,0,⟨[(3,.one (.own (.int .i64))),(12,dA),(0,b0z),(0,xH)],[.slot 0,.cell (.slot 0) 11],[],0⟩)] n 66 P53 K21 J (F66 n)
def F353:Nat->sK×U->O afg:=
 λn _=>Z ((bP,()),())
def ap7:OC:=dm [] [] n 353 auO K173 J (F353 n)
def F354:Nat->iM×U->O afg:=
 λn b=>Z ((b.1.1,()),())
def ap6:OC:=dm [] [] n 354 auN K173 J (F354 n)
def F355:Nat->rX×U->O afg:=
 λn _=>Z ((bP,()),())
def ap5:OC:=dm [] [] n 355 auM K173 J (F355 n)
def Rg(n:Nat)(c:ai0):aiY:=
 Z ((bP,0,8,()),c.2)
def Lv:L (Nat×Ty):=
 [(197,Ty.st 14),(203,Ty.st 15),(213,Ty.st 16)]
def ab1(n:Nat)(g:ai0):afg->aiY:=
 λh=>Z ((h.1.1,g.1.1,0,()),g.2)
def F57:Nat->Yc->aiY:=
 λn b=>aj (F48 n (b.1,b.2.1,0,())) λc=>ak (av c.1.2.1) (Rg n c) (aj (F66 n c.2) λd=>ak (af (au d.1.1) 0) (Z
 ((bP,0,5,()),d.2)) (aS (nzI (au d.1.1)) (aS (nzI (au d.1.1)) (aS (aM (uD (aJ .i64 (uD b.2.2.1 (au d.1.1)) (au d.1.1))
 (au d.1.1)) d.1.1) (aj (F67 n (d.2.1,d.2.2.1,bE d.1.1 (aC (uD (aJ .i64 (uD b.2.2.1 (au d.1.1)) (au d.1.1)) (au d.1.1))) 0,()))
 λe=>aj (F48 n (e.2.1,e.2.2.1,aJ .i64 c.1.1 1,())) λg=>ak (av g.1.2.1) (Rg n g) (ak (aG 5000 g.1.1) (Rg n g) (ak (mQ
 Lv 0 (jB 17 e.1.1)) (aj (F353 n (kK (Sg.zero sg) Lv 0 (jB 17 e.1.1),())) (ab1 n g)) (ak (mQ Lv 1 (jB 17 e.1.1)) (aj
 (F354 n (kK (Sg.zero sg) Lv 1 (jB 17 e.1.1),())) (ab1 n g)) (ak (mQ Lv 2 (jB 17 e.1.1)) (aj (F355 n (kK (Sg.zero sg) Lv
 2 (jB 17 e.1.1),())) (ab1 n g)) Y)))))))))
def k57:OC:=dm [k48 n,k66 n,k67 n,ap7 n,ap6 n,ap5 n] [] n 57 P47 K63 J (F57 n)
end
end
section
variable (n:Nat)
open Go TL
noncomputable section
set_option maxRecDepth 100000
set_option maxHeartbeats 0
def VQ(n:Nat):O Y96:=
 Z ((cX,[],2,()),())
def F20:Nat->ai5->O Y96:=
 λn b=>aj (F99 n (b.1,())) λc=>ak (av (af c.1.2.1 0)) (VQ n) (aj (bw (Y51) (aa×U) (Y52) (λd=>ak (aG d.1
 (au b.1.1)) (aS (aM d.1 c.1.1) (ak (bE c.1.1 (aC d.1) aW).1 (aS (aM d.1 b.1.1) (ak (af (bE b.1.1 (aC d.1) cg).1 6)
 (aS (aM d.1 b.1.1) (Z (N (aJ .i64 d.1 1,jK (A:=sg.A) (Ty.int .i64) (bE b.1.1 (aC d.1) cg).2 W d.2.1,())))) (Z
 (N (aJ .i64 d.1 1,d.2))))) (Z (N (aJ .i64 d.1 1,d.2))))) (Z (H 0 d))) n (0,[],())) λd=>bU d (λ_ g=>aj
 (F111 n (cT.mk b.2.1 b.1 c.1.1 g.2.1,())) λh=>ak (av h.1.1) (VQ n) (ak (aG 200 (au b.2.2.1)) (VQ n) (aj (F48 n
 (((b.2.1.1,b.2.1.2,b.2.1.3,b.2.1.4,b.2.1.5,b.1.1,b.1.2,b.1.3,b.1.4,b.1.5,c.1.1,()),()),g.2.1,0,())) λi=>ak (av i.1.2.1) (Z
 ((cX,[],8,()),())) (aj (bw (L aE×Int×DD×Y7×L (Int×aa)×U) (anC) (DD×Y7×L (Int×aa)×U) (λj=>ak (aG j.2.1 (au b.2.2.1)) (aS (aM j.2.1 b.2.2.1) (aj (F57 n (j.2.2.2.1,j.2.2.2.2.1,bE b.2.2.1 (aC j.2.1) 0,())) λk
 =>ak (af k.1.2.2.1 5) (Z (H 0 (j.1,j.2.1,([],[],[],[],j.2.2.1.2.2.2.2),k.2))) (ak (av (af k.1.2.2.1 0)) (Z (X (([],
 [],[],[],0,()),k.2) ([],k.1.2.2))) (aS (dI j.1 [k.1.1]) (Z (N (dx j.1 [k.1.1],aJ .i64 j.2.1 1,([],[],[],[],
 j.2.2.1.2.2.2.2),k.2))))))) (Z (H 0 (j.1,j.2.1,([],[],[],[],j.2.2.1.2.2.2.2),j.2.2.2)))) n ([],0,([],[],[],[],0,()),i.2)) λj
 =>bU j (λ_ l=>aj (F49 n l.2.2.2) λm=>Z ((m.1.1,l.1,0,()),())) (λk l=>Z ((ai.mk [] [] [] [] k.1.2.2.2.2.1,l),()))
 λ_ _=>Y)))) (λ_ g=>ak (av g.1) (VQ n) Y) λ_ _=>Y)
def k20:OC:=dm [k48 n,k49 n,k57 n,k99 n,ad2 n] [(20,0,⟨[(13,.one (.own (.st 11))),(43,dA),(0,.box (.cells [.nil (.st 6),.nil (.int .i64),.nil (.st 7),.nil (.int .i64),nw])),(0,b0z),(0,xH)],[.slot 6,.slot 23,.cell (.slot 23) 11],[],0⟩),(44,0,⟨[(23,dA),(0,Tm)],[.cell (.slot 19) 11],[],0⟩)] n 20 P64 K65 J (F20 n)
abbrev E58(n:Nat):eI sg:=⟨Ad,Cv [k47 n,adZ n,W6 n,ZZ n],Up [(58,0,⟨[(21,dA),(0,Fc),(0,Fb)],[.cell (.slot 4) 0,.slot 3],[],0⟩),(58,2,⟨[(8,dA),(0,Fc),(0,Fb)],[.cell (.slot 4) 0,.slot 3],[],0⟩),(58,6,⟨[(52,dA),(0,Fc),(0,Fb)],[.cell (.cap (.cell (.slot 5) 0) 0) 0,.cap (.cell (.slot 5) 0) 1],[],0⟩),(102,0,⟨[(32,dA),(0,b6z),(0,Fc)],[.slot 7,.cell (.cap (.slot 2) 0) 0],[],0⟩),(102,2,⟨[(58,dA),(0,b6z)],[.slot 7],[],0⟩),(157,2,⟨[(6,.one (.own (.st 4))),(21,dA)],[],[(19,6)],0⟩)],J,cjL [(169,11,⟨[(0,ae1),(0,Fc),(0,Fb)],[.cell (.slot 1) 0,.cell (.cap (.cell (.NO (.slot 0) 5) 0) 0) 0,.cap (.cell (.NO (.slot 0) 5) 0) 1],[.slot 1,.slot 0,.NO (.slot 0) 5,.cap (.cell (.NO (.slot 0) 5) 0) 0],[]⟩),(170,11,⟨[(0,dA),(0,ae1),(0,Fc),(0,Fb)],[.cell (.slot 1) 0,.cell (.cap (.cell (.NO (.cell (.slot 2) 0) 5) 0) 0) 0,.cap (.cell (.NO (.cell (.slot 2) 0) 5) 0) 1],[.slot 1,.slot 2,.slot 3,.cell (.slot 2) 0,.NO (.cell (.slot 2) 0) 5,.cap (.cell (.NO (.cell (.slot 2) 0) 5) 0) 0],[.dat .bool]⟩),(169,0,⟨[(0,JI),(0,Fc)],[.cell (.slot 1) 0,.cell (.cap (.cell (.NO (.slot 0) 3) 0) 0) 0],[.slot 1,.slot 0,.NO (.slot 0) 3,.cap (.cell (.NO (.slot 0) 3) 0) 0],[]⟩),(170,0,⟨[(0,dA),(0,JI),(0,Fc)],[.cell (.slot 1) 0,.cell (.cap (.cell (.NO (.cell (.slot 2) 0) 3) 0) 0) 0],[.slot 1,.slot 2,.slot 3,.cell (.slot 2) 0,.NO (.cell (.slot 2) 0) 3,.cap (.cell (.NO (.cell (.slot 2) 0) 3) 0) 0],[.dat .bool]⟩),(1000000,0,⟨[],[],[],[]⟩)]⟩
def TM:Nat->Nat->Lr×L (Int×Int)×(L Int×U)×U->O (U×Lr×L (Int×Int)×(L Int×U)×U):=λn a x=>RO (xA (E58 n) n a) 169 [(0,ae1),(0,Fc),(0,Fb)] [] [10,4,3] [11,13,6,5] (S1 ([10,4,3]++[11,13,6,5]) [(0,ae1),(0,Fc),(0,Fb)] (Vd [.r9 13,.ptr 11 0])) (stJ [10,4,3] [11,13,6,5] ⟨trL [(13,lpR 58 68 [47] (rgN (Wl (Vw 58)) 0) [(5,.ptr 6 0)]),(11,.box [.ptr 10 0]),(6,.box [.fn (.func 112) [] [.ptr 5 0,.ptr 3 0]]),(5,.box [.mp 4])],0,0,0,[],[]⟩) x
def afl:Nat->Nat->Lr×L (Int×Int)×U->O (U×Lr×L (Int×Int)×U):=λn a x=>RO (xA (E58 n) n a) 169 [(0,JI),(0,Fc)] [] [14,4] [18,20,15,5] (S1 ([14,4]++[18,20,15,5]) [(0,JI),(0,Fc)] (Vd [.r9 20,.ptr 18 0])) (stJ [14,4] [18,20,15,5] ⟨trL [(20,lpR 157 42 [14] (rgN (Wl (Vw 157)) 0) [(3,.ptr 15 0)]),(18,.box [.ptr 14 0]),(15,.box [.fn (.func 114) [] [.ptr 5 0]]),(5,.box [.mp 4])],0,0,0,[],[]⟩) x
def VO(c:Y77)(d:abA):Int:=
 bE c.1.1.2.1 (aC d.1) 0
def VN(c:Y77)(h:abA):bG:=
 bE c.1.1.1 (aC (bE h.2.2.1.1 (aC h.1) 0)) bD
def VM(c:Y77)(j:abA)(m:anr):bG:=
 bE c.1.1.1 (aC (bE j.2.2.1.1 (aC m.1) 0)) bD
def agm(c:Y77)(q:Int×DD×U):Int:=
 bE c.1.1.2.1 (aC q.1) 0
def G58:anH:=
 λn a c=>aj (bw (abA) (U) (ans) (λd=>ak (aG d.1 (au c.1.1.2.1)) (aS (aM d.1 c.1.1.2.1) (ak (av (HQ (A:=sg.A)
 (Ty.int .i64) (VO c d) d.2.1)) (aS (dI d.2.2.1.1 [VO c d]) (Z (N (aJ .i64 d.1 1,jK (A:=sg.A) (Ty.int .i64) (VO c d) (au
 d.2.2.1.1) d.2.1,(dx d.2.2.1.1 [VO c d],()),())))) (Z (N (aJ .i64 d.1 1,d.2))))) (Z (H 0 d))) n (0,[],([],()),())) λ
 d=>bU d (λ_ g=>aj (bw (abA) (U) (ans) (λh=>ak (aG h.1 (au h.2.2.1.1)) (aS (aM h.1 h.2.2.1.1) (aS (ei (aC
 h.1) h.2.2.1.1) (aS (aM (bE h.2.2.1.1 (aC h.1) 0) c.1.1.1) (aj (TM n (a+10) (((VN c h).1,(VN c h).2,(VN c h).3,(VN c
 h).4,()),h.2)) λi=>Z (N (aJ .i64 h.1 1,i.2.2)))))) (Z (H 0 h))) n (0,g.2)) λh=>bU h (λ_ j=>aj (F156 n
 (c.1.1.2.2.1,())) λk=>aj (F47 n (c.1.1.2.2.2.1,())) λl=>aj (bw (anr) (U) (DD×L (Int×Int)×U) (λm=>ak
 (aG m.1 (au j.2.2.1.1)) (aS (aM m.1 j.2.2.1.1) (aS (ei (aC m.1) j.2.2.1.1) (aS (aM (bE j.2.2.1.1 (aC m.1) 0) c.1.1.1) (aj (F238 n
 ((VM c j m).4,())) λo=>aj (afl n (a+8) (((VM c j m).1,(VM c j m).2,(VM c j m).3,o.1),m.2.2)) λp=>aS (dI
 m.2.1.1 [bG.mk p.2.1.1 p.2.1.2.1 p.2.1.2.2.1 p.2.1.2.2.2.1]) (Z (N (aJ .i64 m.1 1,(dx m.2.1.1 [bG.mk p.2.1.1 p.2.1.2.1
 p.2.1.2.2.1 p.2.1.2.2.2.1],m.2.1.2),p.2.2))))))) (Z (H 0 m))) n (0,([],[],k.1.1,l.1.1,c.1.1.2.2.2.2.1,()),j.2.1,())) λm=>bU m
 (λ_ p=>aj (bw (Int×DD×U) (U) (DD×U) (λq=>ak (aG q.1 (au c.1.1.2.1)) (aS (aM q.1 c.1.1.2.1) (aS (dI
 q.2.1.2.1 [FE (A:=sg.A) (Ty.int .i64) 0 (agm c q) p.2.2.1]) (Z (N (aJ .i64 q.1 1,(q.2.1.1,dx q.2.1.2.1 [FE (A:=sg.A) (Ty.int .i64)
 0 (agm c q) p.2.2.1],q.2.1.2.2),()))))) (Z (H 0 q))) n (0,p.2.1,())) λq=>bU q (λ_ s=>Z ((ai.mk s.2.1.1 s.2.1.2.1
 s.2.1.2.2.1 s.2.1.2.2.2.1 s.2.1.2.2.2.2.1,()),c)) (λ_ _=>Z ((cX,()),c)) λ_ _=>Y) (λ_ _=>Z ((cX,()),c)) λ
 _ _=>Y) (λ_ _=>Z ((cX,()),c)) λ_ _=>Y) (λ_ _=>Z ((cX,()),c)) λ_ _=>Y
def F58(n:Nat):Fn P53 K54 J:=G58 n n
def k58(n:Nat):OC:=⟨58,⟨P53,K54,J,F58 n⟩,adz [k47 n,adZ n,W6 n,ZZ n] (E58 n).sh (E58 n).cj n (n+10) 58⟩
def k24:OC:=ZI [k58 n,k99 n,ad2 n] [(44,0,⟨[(23,dA),(0,Tm)],[.cell (.slot 19) 11],[],0⟩)] n 24 P66 K56 J
def F24(n:Nat):Fn P66 K56 J:=(k24 n).c.F
def ab9(n:Nat):O Y38:=
 Z ((cX,bP,0,2,()),())
def F28:Nat->Y99->O Y38:=
 λn b=>aj (F99 n (b.1,())) λc=>ak (av (af c.1.2.1 0)) (ab9 n) (aj (bw (Y51) (aa×U) (Y52) (λd=>ak (aG d.1
 (au b.1.1)) (aS (aM d.1 c.1.1) (ak (bE c.1.1 (aC d.1) aW).1 (aS (aM d.1 b.1.1) (ak (af (bE b.1.1 (aC d.1) cg).1 6)
 (aS (aM d.1 b.1.1) (Z (N (aJ .i64 d.1 1,jK (A:=sg.A) (Ty.int .i64) (bE b.1.1 (aC d.1) cg).2 W d.2.1,())))) (Z
 (N (aJ .i64 d.1 1,d.2))))) (Z (N (aJ .i64 d.1 1,d.2))))) (Z (H 0 d))) n (0,[],())) λd=>bU d (λ_ g=>aj
 (F111 n (cT.mk b.2.1 b.1 c.1.1 g.2.1,())) λh=>ak (av h.1.1) (ab9 n) (aj (F57 n (((b.2.1.1,b.2.1.2,b.2.1.3,b.2.1.4,b.2.1.5,
 b.1.1,b.1.2,b.1.3,b.1.4,b.1.5,c.1.1,()),()),g.2.1,b.2.2)) λi=>ak (av (af i.1.2.2.1 0)) (Z ((cX,bP,0,
 i.1.2.2),())) (aj (F49 n i.2) λj=>Z ((j.1.1,i.1.1,i.1.2.1,0,()),())))) (λ_ g=>ak (av g.1) (ab9 n) Y) λ_ _=>Y)
def k28:OC:=dm [k49 n,k57 n,k99 n,ad2 n] [(44,0,⟨[(23,dA),(0,Tm)],[.cell (.slot 19) 11],[],0⟩)] n 28 P67 K68 J (F28 n)
def Nw(n:Nat)(c:Int×U):Y85:=
 Z (N (aJ .i64 c.1 1,()))
def F302:Nat->Tz->IN:=
 λn b=>aj (bw (Int×U) (Int×U) (U) (λc=>ak (aG c.1 (au b.1)) (aS (aM c.1 b.1) (ak (af (mX b.1 c.1) 32)
 (Nw n c) (aS (aM c.1 b.1) (ak (af (mX b.1 c.1) 9) (Nw n c) (aS (aM c.1 b.1) (ak (af (mX b.1 c.1) 10) (Nw n c) (ak (bB
 2 (bn .i64 (au b.1) c.1)) (aS (eF c.1 (aJ .i64 c.1 2) (au b.1)) (ak (gZ (cO b.1 c.1 (aJ .i64 c.1 2)) [47,47]) (aj (bw (Int×
 U) (Int×U) (U) (λd=>ak (aG d.1 (au b.1)) (aS (aM d.1 b.1) (ak (av (af (mX b.1 d.1) 10)) (Nw n d) (Z
 (H 0 d)))) (Z (H 0 d))) n c) λd=>bU d (λ_ g=>Z (N g)) (λ_ g=>Z (X () g)) λ_ _=>Y) (Z (X
 () c)))) (Z (X () c))))))))) (Z (H 0 c))) n b.2) λc=>bU c (λ_ e=>Z (e,())) (λ_ e=>Z (e,())) λ_ _=>Y
def aqi:OC:=dm [] [(302,0,lS [(1,dA)]),(302,2,lS [(1,dA)])] n 302 P69 K2 J (F302 n)
end
end
section
variable (n:Nat)
open Go TL
noncomputable section
set_option maxRecDepth 100000
set_option maxHeartbeats 0
def F141:Nat->anJ->O Y4:=
 λn b=>aj (bw (Int×U) (aa×U) (U) (λc=>ak (aG c.1 (au b.1)) (aS (aM c.1 b.1) (ak (gZ (bE b.1 (aC c.1)
 []) b.2.1) (Z (X () (W,()))) (Z (N (aJ .i64 c.1 1,()))))) (Z (H 0 c))) n (0,())) λc=>bU c (λ_ _=>Z
 ((J,()),())) (λ_ e=>Z (e,())) λ_ _=>Y
def ad0:OC:=dm [] [(141,0,lS [(5,dA)])] n 141 P70 K4 J (F141 n)
def F308:Nat->U->QY:=
 λn _=>Z (([[98,111,111,108],[99,101,108,108],[99,104,97,110],[101,108,115,101],[102,97,108,115,101],[102,117,110],[103,
 101,116],[105,102],[105,110],[105,110,112,117,116],[105,110,116],[106,111,105,110],[108,101,116],[109,97,116,99,104],[109,
 111,100,117,108,101],[111,117,116],[112,97,117,115,101],[112,117,116],[114,101,115,101,116],[115,101,110,100],[115,104,105,
 102,116],[115,112,97,119,110],[116,97,107,101],[116,97,115,107],[116,104,101,110],[116,114,117,101],[116,121,112,101],[117,
 110,105,116]],()),())
def aqg:OC:=dm [] [] n 308 [] K71 J (F308 n)
def F276:Y62:=
 λn b=>aj (F308 n ()) λc=>aj (F141 n (c.1.1,b)) λd=>Z d
def akX:OC:=dm [ad0 n,aqg n] [] n 276 P7 K4 J (F276 n)
def F317:Y5:=
 λn b=>ak (bB 97 b.1) (Z ((bB b.1 122,()),())) (Z ((J,()),()))
def akU:OC:=dm [] [] n 317 P72 K4 J (F317 n)
def F320:Y5:=
 λn b=>ak (bB 48 b.1) (Z ((bB b.1 57,()),())) (Z ((J,()),()))
def akR:OC:=dm [] [] n 320 P72 K4 J (F320 n)
def ab4(n:Nat)(b:anE)(c:Int×U):Y85:=
 ak (av b.2.2.1) (aS (aM c.1 b.1) (aj (F317 n (mX b.1 c.1,())) λe=>ak e.1.1 (Z (N (aJ .i64 c.1 1,()))) (Z (H 0
 c)))) (Z (H 0 c))
def F318:Nat->anE->IN:=
 λn b=>aj (bw (Int×U) (Int×U) (U) (λc=>ak (aG c.1 (au b.1)) (ak b.2.2.1 (aS (aM c.1 b.1) (aj (F320 n (mX
 b.1 c.1,())) λd=>ak d.1.1 (Z (N (aJ .i64 c.1 1,()))) (ab4 n b c))) (ab4 n b c)) (Z (H 0 c))) n (b.2.1,())) λc=>
 bU c (λ_ e=>Z ((bn .i64 e.1 b.2.1,()),())) (λ_ e=>Z (e,())) λ_ _=>Y
def akT:OC:=dm [akU n,akR n] [(318,0,lS [(7,dA)])] n 318 P73 K2 J (F318 n)
def F319:Y5:=
 λn b=>ak (bB 65 b.1) (Z ((bB b.1 90,()),())) (Z ((J,()),()))
def aqe:OC:=dm [] [] n 319 P72 K4 J (F319 n)
def F321:Nat->Tz->IN:=
 λn b=>aS (aM b.2.1 b.1) (aj (ak (af (mX b.1 b.2.1) 126) (Z (N (aJ .i64 b.2.1 1,W,()))) (Z (N (b.2.1,J,
 ())))) λ(c:Y98)=>cJ c (λd=>aj (F318 n (b.1,d.1,W,())) λe=>ak (af e.1.1 0) (Z ((0,()),())) (ak (aG 10 e.1.1)
 (Z ((0,()),())) (aS (aM d.1 b.1) (ak (af (mX b.1 d.1) 48) (ak (aG 1 e.1.1) (Z ((0,()),())) (ak (aG b.2.1 d.1) (Z ((0,
 ()),())) (Z ((aJ .i64 (bn .i64 d.1 b.2.1) e.1.1,()),())))) (Z ((aJ .i64 (bn .i64 d.1 b.2.1) e.1.1,()),())))))) (λ_ _=>
 Y) (λ_ e=>Z (e,())) λ_ _=>Y)
def aqd:OC:=dm [akT n] [(321,1000003,lS [(5,dA),(11,dM)])] n 321 P69 K2 J (F321 n)
abbrev YP(F:Fn P7 K2 J):lT sg:=⟨P7,K2,J,F⟩
def B322:Nat->(L UInt8×U->IN)->L UInt8×U->IN:=
 λn f322 c=>aS (aM 0 c.1) (ak (af (mX c.1 0) 126) (aS (eF 1 (au c.1) (au c.1)) (aj (f322 (cO c.1 1 (au c.1),())) λd=>
 Z ((Rm .i64 d.1.1,()),()))) (aj (bw (Int×Int×U) (Int×U) (U) (λd=>ak (aG d.2.1 (au c.1)) (aS (aM d.2.1
 c.1) (Z (N (aJ .i64 (I8 .i64 10 d.1) (TZ .i64 (bn .u8 (mX c.1 d.2.1) 48)),aJ .i64 d.2.1 1,())))) (Z (H 0 d))) n
 (0,0,())) λd=>bU d (λ_ g=>Z ((g.1,()),())) (λ_ g=>Z (g,())) λ_ _=>Y))
def D322(n:Nat)(f322:Fn P7 K2 J)(a:bN prog 322 (YP f322)):bN prog 322 (YP (B322 n f322)):=wE [⟨322,YP f322,a⟩] [(322,0,⟨[(3,dA),(4,dA)],[],[],0⟩)] n 10 322
def R322(n k:Nat):(Fn P7 K2 J):=Nat.rec (motive:=λ_=>(Fn P7 K2 J)) (λ_=>Y) (λ_ r=>B322 n r) k
def F322(n:Nat):Fn P7 K2 J:=(R322 n n)
def ago(n:Nat):∀k,bN prog 322 (YP (R322 n k))
 |0=>cG (enters 322 (by kernel_rfl))
 |k+1=>have a:=ago n k
  D322 n _ a
def aqc(n:Nat):OC:=⟨322,YP (F322 n),(ago n n)⟩
def F329:Nat->U->QY:=
 λn _=>Z (([[61,62],[61,61],[45,62],[61],[60],[43],[45],[42],[40],[41],[123],[125],[124],[44],[59],[58],[95],[63]],()),())
def ap9:OC:=dm [] [] n 329 [] K71 J (F329 n)
def F323:Nat->Tz->O ((L UInt8×U)×U):=
 λn b=>aj (F329 n ()) λc=>aj (bw (Int×U) (L UInt8×U) (U) (λd=>ak (aG d.1 (au c.1.1)) (aS (aM d.1
 c.1.1) (ak (bB (au (bE c.1.1 (aC d.1) [])) (bn .i64 (au b.1) b.2.1)) (aS (aM d.1 c.1.1) (aS (eF b.2.1 (aJ .i64 b.2.1 (au (bE
 c.1.1 (aC d.1) []))) (au b.1)) (aS (aM d.1 c.1.1) (ak (gZ (cO b.1 b.2.1 (aJ .i64 b.2.1 (au (bE c.1.1 (aC d.1) [])))) (bE c.1.1
 (aC d.1) [])) (aS (aM d.1 c.1.1) (Z (X () (bE c.1.1 (aC d.1) [],())))) (Z (N (aJ .i64 d.1 1,()))))))) (Z (N
 (aJ .i64 d.1 1,()))))) (Z (H 0 d))) n (0,())) λd=>bU d (λ_ _=>Z (([],()),())) (λ_ g=>Z (g,())) λ_ _=>Y
def aqb:OC:=dm [ap9 n] [(323,0,lS [(6,dA)])] n 323 P69 K74 J (F323 n)
def TT(b:Tz)(d:(Int×U)×U):aa:=
 eF b.2.1 (aJ .i64 b.2.1 d.1.1) (au b.1)
def Ar(b:Tz)(d:(Int×U)×U):L UInt8:=
 cO b.1 b.2.1 (aJ .i64 b.2.1 d.1.1)
def TS(n:Nat):aa×aiV×U->aiU:=
 λh=>Z ((ga.mk h.2.1.1 h.2.1.2.1 h.2.1.2.2.1 h.2.1.2.2.2.1,()),())
def ab6(n:Nat)(b:Tz):aiU:=
 aj (F321 n b) λg=>aj (ak (aG 0 g.1.1) (aS (TT b g) (aS (TT b g) (aj (F322 n (Ar b g,())) λh=>Z (N (W,(4,
 Ar b g,h.1.1,b.2),()))))) (Z (N (J,(0,[],0,b.2),())))) λ(h:ae6)=>cJ h (TS n) (λ_ _=>Y) (λ_ _=>Z
 ((dS,()),())) λ_ _=>Y
def F303:Nat->Tz->aiU:=
 λn b=>aS (aM b.2.1 b.1) (aj (F317 n (mX b.1 b.2.1,())) λc=>ak c.1.1 (aj (F318 n (b.1,b.2.1,J,())) λd=>aS (TT b d)
 (aj (F276 n (Ar b d,())) λe=>aj (ak e.1.1 (Z (N (W,(3,Ar b d,0,b.2),()))) (aj (ak (bB (au (Ar b d)) 8)
 (Z (N (W,(1,Ar b d,0,b.2),()))) (Z (N (J,(0,Ar b d,0,b.2),())))) λ(g:ae6)=>cJ g (λh=>Z
 (N (J,h.2))) (λ_ _=>Y) (λh _=>Z (X h ())) λ_ _=>Y)) λ(g:ae6)=>cJ g (TS n) (λ_ _=>Y) (λ
 _ _=>Z ((dS,()),())) λ_ _=>Y)) (aS (aM b.2.1 b.1) (aj (F319 n (mX b.1 b.2.1,())) λd=>ak d.1.1 (aj (F318 n (b.1,
 aJ .i64 b.2.1 1,J,())) λe=>aS (eF b.2.1 (aJ .i64 (aJ .i64 b.2.1 1) e.1.1) (au b.1)) (aj (ak (bB (au (cO b.1 b.2.1
 (aJ .i64 (aJ .i64 b.2.1 1) e.1.1))) 8) (Z (N (W,(2,cO b.1 b.2.1 (aJ .i64 (aJ .i64 b.2.1 1) e.1.1),0,b.2),()))) (Z
 (N (J,(0,cO b.1 b.2.1 (aJ .i64 (aJ .i64 b.2.1 1) e.1.1),0,b.2),())))) λ(g:ae6)=>cJ g (TS n) (λ_ _=>Y)
 (λ_ _=>Z ((dS,()),())) λ_ _=>Y)) (aS (aM b.2.1 b.1) (aj (F320 n (mX b.1 b.2.1,())) λe=>ak e.1.1 (ab6 n b)
 (aS (aM b.2.1 b.1) (ak (af (mX b.1 b.2.1) 126) (ab6 n b) (aj (F323 n b) λg=>ak (av (gZ g.1.1 [])) (Z ((ga.mk 5 g.1.1
 0 b.2.1,()),())) (Z ((ga.mk 0 g.1.1 0 b.2.1,()),()))))))))))
def aqh:OC:=dm [akX n,akU n,akT n,aqe n,akR n,aqd n,aqc n,aqb n] [(303,1000005,⟨[(24,dM),(0,aeZ)],[.slot 5],[],0⟩),(303,1000007,⟨[(29,dM),(0,aeZ)],[.slot 5],[],0⟩),(303,1000012,⟨[(50,dM),(0,aeZ)],[.slot 5],[],0⟩),(303,1000017,⟨[(67,dM),(0,aeZ)],[.slot 5],[],0⟩)] n 303 P69 K75 J (F303 n)
def F270:anY:=
 λn b=>aj (F302 n (b.1,0,())) λc=>aj (bw (ai6) (ai6) (U) (λd=>ak (aG d.2.1 (au b.1)) (aj (F303 n (b.1,d.2)) λ
 e=>ak (af e.1.1.1 0) (Z (X () d)) (aS (dI d.1 [e.1.1]) (aj (F302 n (b.1,aJ .i64 d.2.1 (au e.1.1.2),())) λg=>Z (N
 (dx d.1 [e.1.1],g.1))))) (Z (H 0 d))) n ([],c.1)) λd=>bU d (λ_ g=>Z ((g.1,au b.1,()),())) (λ_ g=>Z (g,()))
 λ_ _=>Y
def aqt:OC:=dm [aqi n,aqh n] [(270,0,lS [(4,.one (.own (.st 35))),(5,dA)])] n 270 P7 K76 J (F270 n)
def F202:anY:=
 λn b=>ak (aG 8000 (au b.1)) (Z (([],3,()),())) (aj (F270 n b) λc=>ak (aG c.1.2.1 (au b.1)) (Z (([],4,()),())) (Z
 ((c.1.1,0,()),())))
def aqK:OC:=dm [aqt n] [] n 202 P7 K76 J (F202 n)
def F272:Nat->bW×L UInt8×U->O Y4:=
 λn b=>ak b.1.3 (Z ((J,()),())) (ak (bB (au b.1.1) b.1.2) (Z ((J,()),())) (aS (aM b.1.2 b.1.1) (ak (af (bE b.1.1
 (aC b.1.2) dS).1 5) (Z ((gZ (bE b.1.1 (aC b.1.2) dS).2 b.2.1,()),())) (ak (af (bE b.1.1 (aC b.1.2) dS).1 3)
 (Z ((gZ (bE b.1.1 (aC b.1.2) dS).2 b.2.1,()),())) (Z ((J,()),()))))))
def ahm:OC:=dm [] [] n 272 P77 K4 J (F272 n)
def F205:Nat->anV->O aiZ:=
 λn b=>aj (F272 n (bW.mk b.1.1 b.1.2.1 b.1.2.2.1,b.2)) λc=>ak c.1.1 (Z (c.1,(b.1.1,aJ .i64 b.1.2.1 1,b.1.2.2),()))
 (Z (c.1,b.1,()))
def Pg:OC:=dm [ahm n] [] n 205 P78 K4 J (F205 n)
def F203:Nat->anV->afh:=
 λn b=>aj (F205 n b) λc=>ak (av c.1.1) (Z ((),(c.2.1.1,c.2.1.2.1,W,()),())) (Z ((),c.2))
def Ph:OC:=dm [Pg n] [] n 203 P78 [] J (F203 n)
def F271:Nat->bW×Int×U->O Y4:=
 λn b=>ak (av b.1.3) (ak (aG b.1.2 (au b.1.1)) (aS (aM b.1.2 b.1.1) (Z ((af (bE b.1.1 (aC b.1.2) dS).1 b.2.1,()),
 ()))) (Z ((J,()),()))) (Z ((J,()),()))
def akZ:OC:=dm [] [] n 271 P79 K4 J (F271 n)
def F204:Nat->oY×Int×U->O ((ga×U)×oY×U):=
 λn b=>aj (F271 n (bW.mk b.1.1 b.1.2.1 b.1.2.2.1,b.2)) λc=>ak (av c.1.1) (Z ((dS,()),(b.1.1,b.1.2.1,W,
 ()),())) (aS (aM b.1.2.1 b.1.1) (Z ((bE b.1.1 (aC b.1.2.1) dS,()),(b.1.1,aJ .i64 b.1.2.1 1,b.1.2.2),())))
def SA:OC:=dm [akZ n] [] n 204 Q1 K75 J (F204 n)
abbrev Sd(F:Fn nA K82 J):lT sg:=⟨nA,K82,J,F⟩
def T5(e:QW):di:=
 di.mk e.1.1.1 e.1.1.2 e.1.1.3 e.1.1.4
def B273:Nat->abE->abE->oY×U->O QW:=
 λn f273 f304 d=>aj (f304 d) λe=>aj (F205 n (e.2.1,[45,62],())) λg=>ak g.1.1 (aj (f273 g.2) λh=>Z ((di.mk 4 0 []
 [T5 e,T5 h],()),h.2)) (Z ((T5 e,()),g.2))
abbrev Wv(F:Fn nA K82 J):lT sg:=⟨nA,K82,J,F⟩
def T4(n:Nat)(f273:abE)(f324:anx):QW->O QW:=
 λj=>Z ((di.mk j.1.1.1 j.1.1.2 j.1.1.3 j.1.1.4,()),j.2)
def B304:Nat->abE->anx->oY×U->O QW:=
 λn f273 f324 d=>aj (F205 n (d.1,[105,110,116],())) λe=>ak e.1.1 (Z ((di.mk 1 0 [] [],()),e.2)) (aj (F205 n (e.2.1,[98,
 111,111,108],())) λg=>ak g.1.1 (Z ((di.mk 2 0 [] [],()),g.2)) (aj (F205 n (g.2.1,[117,110,105,116],())) λh=>ak h.1.1
 (Z ((di.mk 3 0 [] [],()),h.2)) (aj (F205 n (h.2.1,[99,101,108,108],())) λi=>ak i.1.1 (aj (f324 (i.2.1,5,())) (T4 n f273
 f324)) (aj (F205 n (i.2.1,[99,104,97,110],())) λj=>ak j.1.1 (aj (f324 (j.2.1,6,())) (T4 n f273 f324)) (aj (F205 n (j.2.1,[116,97,
 115,107],())) λk=>ak k.1.1 (aj (f324 (k.2.1,7,())) (T4 n f273 f324)) (aj (F205 n (k.2.1,[63],())) λl=>ak l.1.1 (aj (F204 n
 (l.2.1,4,())) λm=>Z ((di.mk 9 m.1.1.3 [] [],()),m.2)) (aj (F205 n (l.2.1,[40],())) λm=>ak m.1.1 (aj (f273 m.2) λo=>aj
 (F203 n (o.2.1,[41],())) λp=>Z ((di.mk o.1.1.1 o.1.1.2 o.1.1.3 o.1.1.4,()),p.2)) (aj (F204 n (m.2.1,2,())) λo=>Z
 ((di.mk 8 0 o.1.1.2 [],()),o.2)))))))))
abbrev ade(F:Fn Q1 K82 J):lT sg:=⟨Q1,K82,J,F⟩
def B324:Nat->abE->oY×Int×U->O QW:=
 λn f304 c=>aj (f304 (c.1,())) λd=>Z ((di.mk c.2.1 0 [] [di.mk d.1.1.1 d.1.1.2 d.1.1.3 d.1.1.4],()),d.2)
def D273(n:Nat)(f273:Fn nA K82 J)(f304:Fn nA K82 J)(a:bN prog 273 (Sd f273))(b:bN prog 304 (Wv f304)):bN prog 273 (Sd (B273 n f273 f304)):=wE [Pg n,⟨273,Sd f273,a⟩,⟨304,Wv f304,b⟩] [] n 10 273
def D304(n:Nat)(f273:Fn nA K82 J)(f324:Fn Q1 K82 J)(a:bN prog 273 (Sd f273))(b:bN prog 324 (ade f324)):bN prog 304 (Wv (B304 n f273 f324)):=wE [Ph n,SA n,Pg n,⟨273,Sd f273,a⟩,⟨324,ade f324,b⟩] [] n 10 304
def D324(n:Nat)(f304:Fn nA K82 J)(a:bN prog 304 (Wv f304)):bN prog 324 (ade (B324 n f304)):=wE [⟨304,Wv f304,a⟩] [] n 10 324
def R273(n k:Nat):(Fn nA K82 J)×(Fn nA K82 J)×(Fn Q1 K82 J):=Nat.rec (motive:=λ_=>(Fn nA K82 J)×(Fn nA K82 J)×(Fn Q1 K82 J)) ((λ_=>Y,λ_=>Y,λ_=>Y)) (λ_ r=>(B273 n r.1 r.2.1,B304 n r.1 r.2.2,B324 n r.2.1)) k
def F273(n:Nat):Fn nA K82 J:=(R273 n n).1
def agw(n:Nat):∀k,bN prog 273 (Sd (R273 n k).1)/\bN prog 304 (Wv (R273 n k).2.1)/\bN prog 324 (ade (R273 n k).2.2)
 |0=>⟨cG (enters 273 (by kernel_rfl)),cG (enters 304 (by kernel_rfl)),cG (enters 324 (by kernel_rfl))⟩
 |k+1=>have a:=agw n k
  ⟨D273 n _ _ a.1 a.2.1,D304 n _ _ a.1 a.2.2,D324 n _ a.2.1⟩
def aqs(n:Nat):OC:=⟨273,Sd (F273 n),(agw n n).1⟩
def aqJ:OC:=ZI [] [] n 206 nA K83 J
def F307:Nat->Int×Term×Term×U->O Y16:=
 λn b=>Z ((Term.mk b.1 0 [] [Term.mk b.2.1.1 b.2.1.2 b.2.1.3 b.2.1.4 b.2.1.5,Term.mk b.2.2.1.1 b.2.2.1.2 b.2.2.1.3 b.2.2.1.4 b.2.2.1.5] [],
 ()),())
def adU:OC:=dm [] [] n 307 P84 K85 J (F307 n)
def F336:Nat->L UInt8×U->O Y59:=
 λn b=>ak (gZ b.1 [99,101,108,108]) (Z ((16,1,()),())) (ak (gZ b.1 [103,101,116]) (Z ((17,1,()),())) (ak (gZ b.1 [112,
 117,116]) (Z ((18,2,()),())) (ak (gZ b.1 [115,112,97,119,110]) (Z ((19,1,()),())) (ak (gZ b.1 [106,111,105,110]) (Z ((20,
 1,()),())) (ak (gZ b.1 [99,104,97,110]) (Z ((21,0,()),())) (ak (gZ b.1 [115,101,110,100]) (Z ((22,2,()),())) (ak (gZ b.1
 [116,97,107,101]) (Z ((23,1,()),())) (ak (gZ b.1 [111,117,116]) (Z ((24,(-1),()),())) (ak (gZ b.1 [105,110,112,117,116])
 (Z ((25,0,()),())) (ak (gZ b.1 [114,101,115,101,116]) (Z ((26,1,()),())) (ak (gZ b.1 [112,97,117,115,101]) (Z ((28,0,
 ()),())) (Z ((0,0,()),())))))))))))))
def akQ:OC:=dm [] [] n 336 P7 K16 J (F336 n)
def F332:anN:=
 λn b=>ak b.1.3 (Z ((J,()),())) (ak (bB (au b.1.1) b.1.2) (Z ((J,()),())) (aS (aM b.1.2 b.1.1) (ak (af (bE b.1.1
 (aC b.1.2) dS).1 3) (aj (F336 n ((bE b.1.1 (aC b.1.2) dS).2,())) λc=>ak (av (af c.1.1 0)) (Z ((W,()),()))
 (ak (gZ (bE b.1.1 (aC b.1.2) dS).2 [116,114,117,101]) (Z ((W,()),())) (ak (gZ (bE b.1.1 (aC b.1.2) dS).2 [102,
 97,108,115,101]) (Z ((W,()),())) (Z ((gZ (bE b.1.1 (aC b.1.2) dS).2 [109,97,116,99,104],()),()))))) (ak (av
 (af (bE b.1.1 (aC b.1.2) dS).1 5)) (Z ((W,()),())) (Z ((gZ (bE b.1.1 (aC b.1.2) dS).2 [40],()),()))))))
def ap8:OC:=dm [akQ n] [] n 332 P87 K4 J (F332 n)
end
end
section
variable (n:Nat)
open Go TL
noncomputable section
set_option maxRecDepth 100000
set_option maxHeartbeats 0
abbrev A7(F:Fn nA K85 J):lT sg:=⟨nA,K85,J,F⟩
abbrev adg(F:Fn Q1 K85 J):lT sg:=⟨Q1,K85,J,F⟩
abbrev adf(F:Fn nA K85 J):lT sg:=⟨nA,K85,J,F⟩
abbrev adb(F:Fn nA K85 J):lT sg:=⟨nA,K85,J,F⟩
abbrev ada(F:Fn nA K85 J):lT sg:=⟨nA,K85,J,F⟩
abbrev ac9(F:Fn nA K85 J):lT sg:=⟨nA,K85,J,F⟩
abbrev Wu(F:Fn Q1 K88 J):lT sg:=⟨Q1,K88,J,F⟩
abbrev ac8(F:Fn nA K85 J):lT sg:=⟨nA,K85,J,F⟩
abbrev ac7(F:Fn nA K85 J):lT sg:=⟨nA,K85,J,F⟩
def pP(h:QT):Term:=
 Term.mk h.1.1.1 h.1.1.2 h.1.1.3 h.1.1.4 h.1.1.5
def acv(o:Y16):Term:=
 Term.mk o.1.1.1 o.1.1.2 o.1.1.3 o.1.1.4 o.1.1.5
def B274:Nat->NU->(oY×Int×U->O QT)->NU->oY×U->O QT:=
 λn f274 f305 f306 e=>aj (F205 n (e.1,[102,117,110],())) λg=>ak g.1.1 (aj (f305 (g.2.1,5,())) λh=>Z ((pP h,()),h.2))
 (aj (F205 n (g.2.1,[115,104,105,102,116],())) λh=>ak h.1.1 (aj (f305 (h.2.1,27,())) λi=>Z ((pP i,()),i.2)) (aj (F205 n
 (h.2.1,[108,101,116],())) λi=>ak i.1.1 (aj (F204 n (i.2.1,1,())) λj=>aj (F203 n (j.2.1,[61],())) λk=>aj (f274 k.2) λl=>
 aj (F203 n (l.2.1,[105,110],())) λm=>aj (f274 m.2) λo=>Z ((Term.mk 7 0 j.1.1.2 [pP l,pP o] [],()),o.2)) (aj (F205 n
 (i.2.1,[105,102],())) λj=>ak j.1.1 (aj (f274 j.2) λk=>aj (F203 n (k.2.1,[116,104,101,110],())) λl=>aj (f274 l.2) λm=>
 aj (F203 n (m.2.1,[101,108,115,101],())) λo=>aj (f274 o.2) λp=>Z ((Term.mk 8 0 [] [pP k,pP m,pP p] [],()),p.2))
 (aj (f306 j.2) λk=>aj (F205 n (k.2.1,[60],())) λl=>ak l.1.1 (aj (f306 l.2) λm=>aj (F307 n (12,pP k,pP m,())) λo=>
 Z ((acv o,()),m.2)) (aj (F205 n (l.2.1,[61,61],())) λm=>ak m.1.1 (aj (f306 m.2) λo=>aj (F307 n (13,pP k,pP o,()))
 λp=>Z ((acv p,()),o.2)) (Z ((pP k,()),m.2)))))))
def B305:Nat->NU->oY×Int×U->O QT:=
 λn f274 c=>aj (F204 n (c.1,1,())) λd=>aj (F203 n (d.2.1,[61,62],())) λe=>aj (f274 e.2) λg=>Z ((Term.mk c.2.1 0 d.1.1.2
 [Term.mk g.1.1.1 g.1.1.2 g.1.1.3 g.1.1.4 g.1.1.5] [],()),g.2)
def acu(e:oY×Lq×U):Term:=
 Term.mk e.2.1.1 e.2.1.2.1 e.2.1.2.2.1 e.2.1.2.2.2.1 e.2.1.2.2.2.2.1
def ajp(l:Y16):Lq×U:=
 ((l.1.1.1,l.1.1.2,l.1.1.3,l.1.1.4,l.1.1.5,()),())
def acs(n:Nat)(f325:NU)(e:oY×Lq×U):O (LO (oY×Lq×U) U (oY×Lq×U) Any):=
 aj (F272 n (bW.mk e.1.1 e.1.2.1 e.1.2.2.1,[43],())) λh=>aj (ak h.1.1 (Z (N (9,W,()))) (Z (N (10,J,
 ())))) λ(i:Y54)=>cJ i (λj=>aj (f325 ((e.1.1,aJ .i64 e.1.2.1 1,e.1.2.2),())) λk=>aj (F307 n (j.1,acu e,Term.mk k.1.1.1
 k.1.1.2 k.1.1.3 k.1.1.4 k.1.1.5,())) λl=>Z (N (k.2.1,ajp l))) (λ_ _=>Y) (λ_ _=>Z (X e ())) λ_ _=>Y
def ajo(d:QT):Lq×U:=
 ((d.1.1.1,d.1.1.2,d.1.1.3,d.1.1.4,d.1.1.5,()),())
def B306:Y19:=
 λn f325 c=>aj (f325 c) λd=>aj (bw (oY×Lq×U) (U) (oY×Lq×U) (λe=>ak (av e.1.2.2.1) (aj (F272 n
 (bW.mk e.1.1 e.1.2.1 e.1.2.2.1,[43],())) λg=>ak g.1.1 (acs n f325 e) (aj (F272 n (bW.mk e.1.1 e.1.2.1
 e.1.2.2.1,[45],())) λh=>ak h.1.1 (acs n f325 e) (Z (H 0 e)))) (Z (H 0 e))) n (d.2.1,ajo d)) λe=>bU e (λ_ h=>
 Z ((acu h,()),h.1,())) (λg _=>Z ((uq,()),g.1,())) λ_ _=>Y
def acr(e:oY×Lq×U):Term:=
 Term.mk e.2.1.1 e.2.1.2.1 e.2.1.2.2.1 e.2.1.2.2.2.1 e.2.1.2.2.2.2.1
def ajn(i:Y16):Lq×U:=
 ((i.1.1.1,i.1.1.2,i.1.1.3,i.1.1.4,i.1.1.5,()),())
def ajm(d:QT):Lq×U:=
 ((d.1.1.1,d.1.1.2,d.1.1.3,d.1.1.4,d.1.1.5,()),())
def B325:Y19:=
 λn f330 c=>aj (f330 c) λd=>aj (bw (oY×Lq×U) (U) (oY×Lq×U) (λe=>aj (F205 n (e.1,[42],())) λg=>ak
 g.1.1 (aj (f330 g.2) λh=>aj (F307 n (11,acr e,Term.mk h.1.1.1 h.1.1.2 h.1.1.3 h.1.1.4 h.1.1.5,())) λi=>Z (N (h.2.1,ajn
 i))) (Z (H 0 (g.2.1,e.2)))) n (d.2.1,ajm d)) λe=>bU e (λ_ h=>Z ((acr h,()),h.1,())) (λg _=>Z ((uq,()),
 g.1,())) λ_ _=>Y
def acq(e:oY×Lq×U):Term:=
 Term.mk e.2.1.1 e.2.1.2.1 e.2.1.2.2.1 e.2.1.2.2.2.1 e.2.1.2.2.2.2.1
def ajl(i:Y16):Lq×U:=
 ((i.1.1.1,i.1.1.2,i.1.1.3,i.1.1.4,i.1.1.5,()),())
def ajk(d:QT):Lq×U:=
 ((d.1.1.1,d.1.1.2,d.1.1.3,d.1.1.4,d.1.1.5,()),())
def B330:Y19:=
 λn f331 c=>aj (f331 c) λd=>aj (bw (oY×Lq×U) (U) (oY×Lq×U) (λe=>aj (F332 n (bW.mk e.1.1
 e.1.2.1 e.1.2.2.1,())) λg=>ak g.1.1 (aj (f331 (e.1,())) λh=>aj (F307 n (6,acq e,Term.mk h.1.1.1 h.1.1.2 h.1.1.3 h.1.1.4 h.1.1.5,
 ())) λi=>Z (N (h.2.1,ajl i))) (Z (H 0 e))) n (d.2.1,ajk d)) λe=>bU e (λ_ h=>Z ((acq h,()),h.1,()))
 (λg _=>Z ((uq,()),g.1,())) λ_ _=>Y
def T3(g:oY×U):bW:=
 bW.mk g.1.1 g.1.2.1 g.1.2.2.1
def acp(n:Nat)(f274:NU)(f333:Y56)(f334:NU)(f335:NU):QT->O QT:=
 λo=>Z ((Term.mk o.1.1.1 o.1.1.2 o.1.1.3 o.1.1.4 o.1.1.5,()),o.2)
def B331:Nat->NU->Y56->NU->NU->oY×U->O QT:=
 λn f274 f333 f334 f335 g=>aj (F271 n (T3 g,4,())) λh=>ak h.1.1 (aj (F204 n (g.1,4,())) λi=>Z ((Term.mk 1 i.1.1.3 [] [] [],
 ()),i.2)) (aj (F271 n (T3 g,1,())) λi=>ak i.1.1 (aj (F204 n (g.1,1,())) λj=>Z ((Term.mk 4 0 j.1.1.2 [] [],()),j.2)) (aj
 (F271 n (T3 g,2,())) λj=>ak j.1.1 (aj (F204 n (g.1,2,())) λk=>aj (F272 n (bW.mk k.2.1.1 k.2.1.2.1 k.2.1.2.2.1,
 [40],())) λl=>aj (ak l.1.1 (aj (f333 (k.2.1,(-1),())) λm=>Z (N (W,m.2.1,(14,0,k.1.1.2,m.1.1,[],()),()))) (Z
 (N (J,k.2.1,(14,0,k.1.1.2,[],[],()),())))) λ(m:LO Y21 U (oY×Lq×U) Any)=>cJ m (λo=>Z ((Term.mk o.2.2.1.1
 o.2.2.1.2.1 o.2.2.1.2.2.1 o.2.2.1.2.2.2.1 [],()),o.2.1,())) (λ_ _=>Y) (λo _=>Z ((uq,()),o.1,())) λ_ _=>Y) (aj (F205 n
 (g.1,[116,114,117,101],())) λk=>ak k.1.1 (Z ((Term.mk 2 1 [] [] [],()),k.2)) (aj (F205 n (k.2.1,[102,97,108,115,101],())) λl
 =>ak l.1.1 (Z ((Term.mk 2 0 [] [] [],()),l.2)) (aj (F205 n (l.2.1,[109,97,116,99,104],())) λm=>ak m.1.1 (aj (f334 m.2) (acp n
 f274 f333 f334 f335)) (aj (F205 n (m.2.1,[40],())) λo=>ak o.1.1 (aj (F205 n (o.2.1,[41],())) λp=>ak p.1.1 (Z ((Term.mk 3 0 [] []
 [],()),p.2)) (aj (f274 p.2) λq=>aj (F203 n (q.2.1,[41],())) λr=>Z ((Term.mk q.1.1.1 q.1.1.2 q.1.1.3 q.1.1.4 q.1.1.5,()),r.2)))
 (aj (F271 n (bW.mk o.2.1.1 o.2.1.2.1 o.2.1.2.2.1,3,())) λp=>ak p.1.1 (aj (f335 o.2) (acp n f274 f333 f334 f335)) (Z
 ((uq,()),(o.2.1.1,o.2.1.2.1,W,()),())))))))))
def NK(n:Nat)(f274:NU)(c:oY×Int×U)(g:aiZ):O abD:=
 ak (aG 0 c.2.1) (aj (F203 n (g.2.1,[44],())) λh=>Z (N (W,h.2))) (Z (N (J,g.2)))
def pO(e:QT):L Term:=
 [Term.mk e.1.1.1 e.1.1.2 e.1.1.3 e.1.1.4 e.1.1.5]
def T2(n:Nat)(f274:NU)(k:abC):abD->O (LO abC (L Term×U) (oY×U) Any):=
 λm=>cJ m (λo=>aj (f274 o.2) λp=>aS (dI k.1 (pO p)) (Z (N (dx k.1 (pO p),p.2)))) (λ_ _=>Y) (λo p=>
 Z (X o p)) λ_ _=>Y
def ajj(n:Nat)(f274:NU)(c:oY×Int×U)(k:abC):O abD:=
 ak (aG 0 c.2.1) (aj (F203 n (k.2.1,[44],())) λl=>Z (N (W,l.2))) (Z (N (J,k.2)))
def aji(n:Nat)(m:abC):afh:=
 F203 n (m.2.1,[41],())
def T1(n:Nat)(f274:NU)(c:oY×Int×U)(e:QT):abD->Y55:=
 λh=>cJ h (λi=>aj (f274 i.2) λj=>aS (dI (pO e) (pO j)) (aj (bw (abC) (L Term×U) (oY×U) (λk=>
 ak (aG c.2.1 0) (aj (F205 n (k.2.1,[44],())) λl=>ak l.1.1 (aj (NK n f274 c l) (T2 n f274 k)) (ak (aG (au k.1) c.2.1) (ak
 (av l.2.1.2.2.1) (aj (NK n f274 c l) (T2 n f274 k)) (Z (H 0 (k.1,l.2)))) (Z (H 0 (k.1,l.2))))) (ak (aG (au k.1)
 c.2.1) (ak (av k.2.1.2.2.1) (aj (ajj n f274 c k) (T2 n f274 k)) (Z (H 0 k))) (Z (H 0 k)))) n (dx (pO e) (pO j),
 j.2)) λk=>bU k (λ_ m=>aj (aji n m) λo=>Z ((m.1,()),o.2)) (λl m=>Z (m,l)) λ_ _=>Y)) (λ_ _=>Y) (λi
 j=>Z (j,i)) λ_ _=>Y
def aco(n:Nat)(g:aiZ):afh:=
 F203 n (g.2.1,[41],())
def ajh(n:Nat)(f274:NU)(c:oY×Int×U)(e:QT):O abD:=
 ak (aG 0 c.2.1) (aj (F203 n (e.2.1,[44],())) λg=>Z (N (W,g.2))) (Z (N (J,e.2)))
def acn(n:Nat)(e:QT):afh:=
 F203 n (e.2.1,[41],())
def B333:Nat->NU->oY×Int×U->Y55:=
 λn f274 c=>aj (F203 n (c.1,[40],())) λd=>aj (f274 d.2) λe=>ak (aG c.2.1 0) (aj (F205 n (e.2.1,[44],())) λg=>ak g.1.1
 (aj (NK n f274 c g) (T1 n f274 c e)) (ak (aG (au (pO e)) c.2.1) (ak (av g.2.1.2.2.1) (aj (NK n f274 c g) (T1 n f274 c
 e)) (aj (aco n g) λh=>Z ((pO e,()),h.2))) (aj (aco n g) λh=>Z ((pO e,()),h.2)))) (ak (aG (au (pO e))
 c.2.1) (ak (av e.2.1.2.2.1) (aj (ajh n f274 c e) (T1 n f274 c e)) (aj (acn n e) λg=>Z ((pO e,()),g.2))) (aj (acn n
 e) λg=>Z ((pO e,()),g.2)))
def B334:Y19:=λn f274=>Yn [] [] J n 334 nA K85
def T0(d:oY×U):oY:=
 (d.1.1,aJ .i64 d.1.2.1 1,d.1.2.2)
def B335:Nat->NU->Y56->oY×U->O QT:=
 λn f274 f333 d=>aS (aM d.1.2.1 d.1.1) (aj (F336 n ((bE d.1.1 (aC d.1.2.1) dS).2,())) λe=>ak (af e.1.1 0) (Z ((uq,
 ()),(d.1.1,d.1.2.1,W,()),())) (ak (aG 0 e.1.2.1) (aj (f333 (T0 d,e.1.2)) λg=>Z ((Term.mk e.1.1 0 [] g.1.1 [],()),g.2)) (ak
 (aG e.1.2.1 0) (aj (F203 n (T0 d,[40],())) λg=>aj (F204 n (g.2.1,4,())) λh=>aj (F203 n (h.2.1,[44],())) λi=>aj (f274
 i.2) λj=>aj (F203 n (j.2.1,[41],())) λk=>Z ((Term.mk e.1.1 h.1.1.3 [] [Term.mk j.1.1.1 j.1.1.2 j.1.1.3 j.1.1.4 j.1.1.5] [],()),k.2))
 (Z ((Term.mk e.1.1 0 [] [] [],()),T0 d,())))))
def D274(n:Nat)(f274:Fn nA K85 J)(f305:Fn Q1 K85 J)(f306:Fn nA K85 J)(a:bN prog 274 (A7 f274))(b:bN prog 305 (adg f305))(c:bN prog 306 (adf f306)):bN prog 274 (A7 (B274 n f274 f305 f306)):=wE [Ph n,SA n,Pg n,⟨274,A7 f274,a⟩,⟨305,adg f305,b⟩,⟨306,adf f306,c⟩,adU n] [] n 10 274
def D305(n:Nat)(f274:Fn nA K85 J)(a:bN prog 274 (A7 f274)):bN prog 305 (adg (B305 n f274)):=wE [Ph n,SA n,⟨274,A7 f274,a⟩] [] n 10 305
def D306(n:Nat)(f325:Fn nA K85 J)(a:bN prog 325 (adb f325)):bN prog 306 (adf (B306 n f325)):=wE [ahm n,adU n,⟨325,adb f325,a⟩] [(306,0,⟨[(0,IB),(0,b7z)],[.slot 0,.slot 3],[],0⟩),(306,1000005,⟨[(4,dA),(22,dM)],[],[],0⟩)] n 10 306
def D325(n:Nat)(f330:Fn nA K85 J)(a:bN prog 330 (ada f330)):bN prog 325 (adb (B325 n f330)):=wE [Pg n,adU n,⟨330,ada f330,a⟩] [(325,0,⟨[(0,IB),(0,b7z)],[.slot 0,.slot 3],[],0⟩)] n 10 325
def D330(n:Nat)(f331:Fn nA K85 J)(a:bN prog 331 (ac9 f331)):bN prog 330 (ada (B330 n f331)):=wE [adU n,⟨331,ac9 f331,a⟩,ap8 n] [(330,0,⟨[(0,IB),(0,b7z)],[.slot 0,.slot 3],[],0⟩)] n 10 330
def D331(n:Nat)(f274:Fn nA K85 J)(f333:Fn Q1 K88 J)(f334:Fn nA K85 J)(f335:Fn nA K85 J)(a:bN prog 274 (A7 f274))(b:bN prog 333 (Wu f333))(c:bN prog 334 (ac8 f334))(d:bN prog 335 (ac7 f335)):bN prog 331 (ac9 (B331 n f274 f333 f334 f335)):=wE [Ph n,SA n,Pg n,akZ n,ahm n,⟨274,A7 f274,a⟩,⟨333,Wu f333,b⟩,⟨334,ac8 f334,c⟩,⟨335,ac7 f335,d⟩] [(331,1000008,⟨[(27,dM),(0,IB),(0,.box (.cells [nw,nw,.dat (.str),.dat (.sl (.st 21)),.nil (.st 1)]))],[.slot 0,.slot 3],[],0⟩)] n 10 331
def D333(n:Nat)(f274:Fn nA K85 J)(a:bN prog 274 (A7 f274)):bN prog 333 (Wu (B333 n f274)):=wE [Ph n,Pg n,⟨274,A7 f274,a⟩] [(333,0,⟨[(6,.one (.own (.st 21))),(0,IB)],[.slot 0],[],1⟩),(333,1000006,⟨[(34,dM),(0,IB)],[.slot 0],[],0⟩)] n 10 333
def D334(n:Nat)(f274:Fn nA K85 J)(a:bN prog 274 (A7 f274)):bN prog 334 (ac8 (B334 n f274)):=wE [] [] n 10 334
def D335(n:Nat)(f274:Fn nA K85 J)(f333:Fn Q1 K88 J)(a:bN prog 274 (A7 f274))(b:bN prog 333 (Wu f333)):bN prog 335 (ac7 (B335 n f274 f333)):=wE [Ph n,SA n,⟨274,A7 f274,a⟩,⟨333,Wu f333,b⟩,akQ n] [] n 10 335
def R274(n k:Nat):(Fn nA K85 J)×(Fn Q1 K85 J)×(Fn nA K85 J)×(Fn nA K85 J)×(Fn nA K85 J)×(Fn nA K85 J)×(Fn Q1 K88 J)×(Fn nA K85 J)×(Fn nA K85 J):=Nat.rec (motive:=λ_=>(Fn nA K85 J)×(Fn Q1 K85 J)×(Fn nA K85 J)×(Fn nA K85 J)×(Fn nA K85 J)×(Fn nA K85 J)×(Fn Q1 K88 J)×(Fn nA K85 J)×(Fn nA K85 J)) ((λ_=>Y,λ_=>Y,λ_=>Y,λ_=>Y,λ_=>Y,λ_=>Y,λ_=>Y,λ_=>Y,λ_=>Y)) (λ_ r=>(B274 n r.1 r.2.1 r.2.2.1,B305 n r.1,B306 n r.2.2.2.1,B325 n r.2.2.2.2.1,B330 n r.2.2.2.2.2.1,B331 n r.1 r.2.2.2.2.2.2.1 r.2.2.2.2.2.2.2.1 r.2.2.2.2.2.2.2.2,B333 n r.1,B334 n r.1,B335 n r.1 r.2.2.2.2.2.2.1)) k
def F274(n:Nat):Fn nA K85 J:=(R274 n n).1
def agv(n:Nat):∀k,bN prog 274 (A7 (R274 n k).1)/\bN prog 305 (adg (R274 n k).2.1)/\bN prog 306 (adf (R274 n k).2.2.1)/\bN prog 325 (adb (R274 n k).2.2.2.1)/\bN prog 330 (ada (R274 n k).2.2.2.2.1)/\bN prog 331 (ac9 (R274 n k).2.2.2.2.2.1)/\bN prog 333 (Wu (R274 n k).2.2.2.2.2.2.1)/\bN prog 334 (ac8 (R274 n k).2.2.2.2.2.2.2.1)/\bN prog 335 (ac7 (R274 n k).2.2.2.2.2.2.2.2)
 |0=>⟨cG (enters 274 (by kernel_rfl)),cG (enters 305 (by kernel_rfl)),cG (enters 306 (by kernel_rfl)),cG (enters 325 (by kernel_rfl)),cG (enters 330 (by kernel_rfl)),cG (enters 331 (by kernel_rfl)),cG (enters 333 (by kernel_rfl)),cG (enters 334 (by kernel_rfl)),cG (enters 335 (by kernel_rfl))⟩
 |k+1=>have a:=agv n k
  ⟨D274 n _ _ _ a.1 a.2.1 a.2.2.1,D305 n _ a.1,D306 n _ a.2.2.2.1,D325 n _ a.2.2.2.2.1,D330 n _ a.2.2.2.2.2.1,D331 n _ _ _ _ a.1 a.2.2.2.2.2.2.1 a.2.2.2.2.2.2.2.1 a.2.2.2.2.2.2.2.2,D333 n _ a.1,D334 n _ a.1,D335 n _ _ a.1 a.2.2.2.2.2.2.1⟩
def aqr(n:Nat):OC:=⟨274,A7 (F274 n),(agv n n).1⟩
def F207:Nat->oY×U->O Y82:=
 λn b=>aj (F204 n (b.1,1,())) λc=>aj (F203 n (c.2.1,[40],())) λd=>aj (F204 n (d.2.1,1,())) λe=>aj (F203 n (e.2.1,[58],
 ())) λg=>aj (F273 n g.2) λh=>aj (F203 n (h.2.1,[41],())) λi=>aj (F203 n (i.2.1,[58],())) λj=>aj (F273 n j.2) λk=>aj
 (F203 n (k.2.1,[61],())) λl=>aj (F274 n l.2) λm=>aj (F203 n (m.2.1,[59],())) λo=>Z ((dw.mk c.1.1.2 e.1.1.2 (di.mk
 h.1.1.1 h.1.1.2 h.1.1.3 h.1.1.4) (di.mk k.1.1.1 k.1.1.2 k.1.1.3 k.1.1.4) (Term.mk m.1.1.1 m.1.1.2 m.1.1.3 m.1.1.4 m.1.1.5),()),o.2)
def aqI:OC:=dm [Ph n,SA n,aqs n,aqr n] [] n 207 nA K89 J (F207 n)
def alh:OC:=ZI [Ph n,SA n,Pg n,aqJ n,aqI n] [(134,0,⟨[(0,IB),(0,ana)],[.slot 0,.slot 3],[],0⟩),(134,2,⟨[(0,IB),(0,ana)],[.slot 0,.slot 3],[],0⟩)] n 134 nA K90 J
def F134(n:Nat):Fn nA K90 J:=(alh n).c.F
def F135:anN:=
 λn b=>ak (av b.1.3) (Z ((af b.1.2 (au b.1.1),()),())) (Z ((J,()),()))
def arx:OC:=dm [] [] n 135 P87 K4 J (F135 n)
def F275:Y62:=
 λn b=>aj (bw (Int×U) (aa×U) (U) (λc=>ak (aG c.1 (au b.1)) (aS (aM c.1 b.1) (ak (aG (mX b.1 c.1) 97)
 (Z (X () (J,()))) (aS (aM c.1 b.1) (ak (aG 122 (mX b.1 c.1)) (Z (X () (J,()))) (Z (N (aJ .i64 c.1 1,
 ()))))))) (Z (H 0 c))) n (0,())) λc=>bU c (λ_ _=>Z ((W,()),())) (λ_ e=>Z (e,())) λ_ _=>Y
def akY:OC:=dm [] [(275,0,lS [(3,dA)])] n 275 P7 K4 J (F275 n)
def F208:Y62:=
 λn b=>ak (bB 1 (au b.1)) (ak (bB (au b.1) 8) (aj (F275 n b) λc=>ak c.1.1 (aj (F276 n b) λd=>Z ((av d.1.1,()),
 ())) (Z ((J,()),()))) (Z ((J,()),()))) (Z ((J,()),()))
def ak9:OC:=dm [akY n,akX n] [] n 208 P7 K4 J (F208 n)
def F209:Y41:=
 λn b=>ak (bB b.2.1 b.1) (Z ((bB b.1 b.2.2.1,()),())) (Z ((J,()),()))
def aht:OC:=dm [] [] n 209 P6 K4 J (F209 n)
abbrev YU(F:Fn P91 K2 J):lT sg:=⟨P91,K2,J,F⟩
def B277:Nat->(anQ->IN)->anQ->IN:=
 λn f277 c=>ak (aG c.2.1 1) (Z (((-1),()),())) (aj (bw (Int×Int×U) (Int×U) (U) (λd=>ak (aG d.2.1 (au
 c.1.4)) (ak (bB 0 d.1) (aS (aM d.2.1 c.1.4) (aj (f277 (bE c.1.4 (aC d.2.1) qK,d.1,())) λe=>Z (N (e.1.1,aJ .i64
 d.2.1 1,())))) (Z (H 0 d))) (Z (H 0 d))) n (bn .i64 c.2.1 1,0,())) λd=>bU d (λ_ g=>Z ((g.1,()),())) (λ_ g
 =>Z (g,())) λ_ _=>Y)
def D277(n:Nat)(f277:Fn P91 K2 J)(a:bN prog 277 (YU f277)):bN prog 277 (YU (B277 n f277)):=wE [⟨277,YU f277,a⟩] [(277,0,⟨[(1,dA),(5,dA)],[],[],0⟩)] n 10 277
def R277(n k:Nat):(Fn P91 K2 J):=Nat.rec (motive:=λ_=>(Fn P91 K2 J)) (λ_=>Y) (λ_ r=>B277 n r) k
def F277(n:Nat):Fn P91 K2 J:=(R277 n n)
def agu(n:Nat):∀k,bN prog 277 (YU (R277 n k))
 |0=>cG (enters 277 (by kernel_rfl))
 |k+1=>have a:=agu n k
  D277 n _ a
def aqq(n:Nat):OC:=⟨277,YU (F277 n),(agu n n)⟩
end
end
section
variable (n:Nat)
open Go TL
noncomputable section
set_option maxRecDepth 100000
set_option maxHeartbeats 0
def F240:Y62:=
 λn b=>ak (bB 1 (au b.1)) (ak (bB (au b.1) 8) (aS (aM 0 b.1) (ak (bB 65 (mX b.1 0)) (aS (aM 0 b.1) (ak (bB (mX b.1 0)
 90) (aS (eF 1 (au b.1) (au b.1)) (aj (F275 n (cO b.1 1 (au b.1),())) λc=>Z c)) (Z ((J,()),())))) (Z ((J,()),
 ())))) (Z ((J,()),()))) (Z ((J,()),()))
def ahq:OC:=dm [akY n] [] n 240 P7 K4 J (F240 n)
abbrev YT(F:Fn P92 K4 J):lT sg:=⟨P92,K4,J,F⟩
def B278:Nat->(anT->O Y4)->anT->O Y4:=
 λn f278 c=>aj (ak (af c.1.1 1) (Z (N (W,()))) (aj (ak (af c.1.1 2) (Z (N (W,()))) (Z (N (af c.1.1
 3,())))) λ(d:oZ)=>cJ d (λe=>Z (N e)) (λ_ _=>Y) (λ_ g=>Z (X () g)) λ_ _=>Y)) λ(d:oZ)=>
 cJ d (λe=>aj (ak e.1 (ak (af (au c.1.4) 0) (ak (af c.1.2 0) (Z (N (gZ c.1.3 [],W,()))) (Z (N (J,W,
 ())))) (Z (N (J,W,())))) (aj (ak (af c.1.1 4) (ak (af (au c.1.4) 2) (ak (af c.1.2 0) (Z (N (gZ c.1.3 [],
 W,()))) (Z (N (J,W,())))) (Z (N (J,W,())))) (aj (ak (af c.1.1 5) (Z (N (W,()))) (aj (ak
 (af c.1.1 6) (Z (N (W,()))) (Z (N (af c.1.1 7,())))) λ(g:oZ)=>cJ g (λh=>Z (N h)) (λ_ _=>
 Y) (λ_ i=>Z (X () i)) λ_ _=>Y)) λ(g:oZ)=>cJ g (λh=>aj (ak h.1 (ak (af (au c.1.4) 1) (ak (af c.1.2
 0) (Z (N (gZ c.1.3 [],W,()))) (Z (N (J,W,())))) (Z (N (J,W,())))) (aj (ak (af c.1.1 8) (ak
 (af (au c.1.4) 0) (ak (af c.1.2 0) (aj (F240 n (c.1.3,())) λi=>Z (N (i.1.1,W,()))) (Z (N (J,W,()))))
 (Z (N (J,W,())))) (aj (ak (af c.1.1 9) (ak c.2.1 (ak (af (au c.1.4) 0) (ak (gZ c.1.3 []) (aj (F209 n (c.1.2,0,99,
 ())) λi=>Z (N (i.1.1,W,()))) (Z (N (J,W,())))) (Z (N (J,W,())))) (Z (N (J,W,
 ())))) (Z (N (J,J,())))) λ(i:JQ)=>cJ i (λj=>Z (N (j.1,J,()))) (λ_ _=>Y) (λ_ k=>Z
 (X () k)) λ_ _=>Y)) λ(i:JQ)=>cJ i (λj=>Z (N (j.1,J,()))) (λ_ _=>Y) (λ_ k=>Z (X () k))
 λ_ _=>Y)) λ(i:JQ)=>cJ i (λj=>Z (N (j.1,J,()))) (λ_ _=>Y) (λ_ k=>Z (X () k)) λ_ _=>
 Y) (λ_ _=>Y) (λ_ i=>Z (X () i)) λ_ _=>Y)) λ(g:JQ)=>cJ g (λh=>Z (N (h.1,J,()))) (λ_ _
 =>Y) (λ_ i=>Z (X () i)) λ_ _=>Y)) λ(g:JQ)=>cJ g (λh=>aj (bw (aa×Int×U) (aa×U) (U) (λi=>ak (aG i.2.1 (au c.1.4)) (ak i.1 (aS (aM i.2.1 c.1.4) (aj (f278 (bE c.1.4 (aC i.2.1) qK,c.2)) λj=>Z
 (N (j.1.1,aJ .i64 i.2.1 1,())))) (Z (H 0 i))) (Z (H 0 i))) n (h.1,0,())) λi=>bU i (λ_ k=>Z ((k.1,()),
 ())) (λ_ k=>Z (k,())) λ_ _=>Y) (λ_ _=>Y) (λ_ i=>Z (i,())) λ_ _=>Y) (λ_ _=>Y) (λ_ g=>Z (g,
 ())) λ_ _=>Y
def D278(n:Nat)(f278:Fn P92 K4 J)(a:bN prog 278 (YT f278)):bN prog 278 (YT (B278 n f278)):=wE [aht n,ahq n,⟨278,YT f278,a⟩] [(278,1,⟨[(6,dM),(7,dA)],[],[],0⟩),(278,1000005,⟨[(13,dM)],[],[],0⟩),(278,1000006,⟨[(13,dM)],[],[],0⟩),(278,1000007,⟨[(6,dM),(13,dM)],[],[],0⟩),(278,1000009,⟨[(6,dM),(29,dM)],[],[],0⟩),(278,1000011,⟨[(43,dM)],[],[],0⟩),(278,1000012,⟨[(43,dM)],[],[],0⟩),(278,1000013,⟨[(6,dM),(43,dM)],[],[],0⟩),(278,1000015,⟨[(6,dM),(59,dM)],[],[],0⟩),(278,1000017,⟨[(6,dM),(73,dM)],[],[],0⟩)] n 10 278
def R278(n k:Nat):(Fn P92 K4 J):=Nat.rec (motive:=λ_=>(Fn P92 K4 J)) (λ_=>Y) (λ_ r=>B278 n r) k
def F278(n:Nat):Fn P92 K4 J:=(R278 n n)
def agt(n:Nat):∀k,bN prog 278 (YT (R278 n k))
 |0=>cG (enters 278 (by kernel_rfl))
 |k+1=>have a:=agt n k
  D278 n _ a
def aqp(n:Nat):OC:=⟨278,YT (F278 n),(agt n n)⟩
def F211:Nat->di×U->O Y4:=
 λn b=>aj (F277 n (di.mk b.1.1 b.1.2 b.1.3 b.1.4,12,())) λc=>ak (bB 0 c.1.1) (aj (F278 n (di.mk b.1.1 b.1.2 b.1.3 b.1.4,
 J,())) λd=>Z d) (Z ((J,()),()))
def aqG:OC:=dm [aqq n,aqp n] [] n 211 P93 K4 J (F211 n)
def aqH:OC:=ZI [] [] n 210 P94 K4 J
abbrev YS(F:Fn P95 K2 J):lT sg:=⟨P95,K2,J,F⟩
def B279:Nat->(anO->IN)->anO->IN:=
 λn f279 c=>ak (aG c.2.1 1) (Z (((-1),()),())) (ak (aG c.2.2.1 1) (Z (((-1),()),())) (aj (bw (Int×Int×U) (Int×U) (U) (λd=>ak (aG d.2.1 (au c.1.4)) (ak (bB 0 d.1) (aS (aM d.2.1 c.1.4) (aj (f279 (bE c.1.4 (aC d.2.1) uq,d.1,bn .i64
 c.2.2.1 1,())) λe=>Z (N (e.1.1,aJ .i64 d.2.1 1,())))) (Z (H 0 d))) (Z (H 0 d))) n (bn .i64 c.2.1 1,0,())) λ
 d=>bU d (λ_ g=>Z ((g.1,()),())) (λ_ g=>Z (g,())) λ_ _=>Y))
def D279(n:Nat)(f279:Fn P95 K2 J)(a:bN prog 279 (YS f279)):bN prog 279 (YS (B279 n f279)):=wE [⟨279,YS f279,a⟩] [(279,0,⟨[(1,dA),(7,dA)],[],[],0⟩)] n 10 279
def R279(n k:Nat):(Fn P95 K2 J):=Nat.rec (motive:=λ_=>(Fn P95 K2 J)) (λ_=>Y) (λ_ r=>B279 n r) k
def F279(n:Nat):Fn P95 K2 J:=(R279 n n)
def ags(n:Nat):∀k,bN prog 279 (YS (R279 n k))
 |0=>cG (enters 279 (by kernel_rfl))
 |k+1=>have a:=ags n k
  D279 n _ a
def aqo(n:Nat):OC:=⟨279,YS (F279 n),(ags n n)⟩
def ab3(n:Nat)(b:Y72):O Y4:=
 ak b.2.2.2.1 (Z ((W,()),())) (Z ((af (au b.1.5) 0,()),()))
def ab2(n:Nat)(b:Y72):O Y4:=
 ak b.2.2.1 (ab3 n b) (ak (gZ b.1.3 []) (ab3 n b) (Z ((J,()),())))
def F326:Nat->Y72->O Y4:=
 λn b=>ak b.2.1 (ab2 n b) (ak (af b.1.2 0) (ab2 n b) (Z ((J,()),())))
def aqa:OC:=dm [] [] n 326 P96 K4 J (F326 n)
def IZ(b:Term×U):Term:=
 Term.mk b.1.1 b.1.2 b.1.3 b.1.4 b.1.5
def TR(n:Nat)(b:Term×U):O Y4:=
 F326 n (IZ b,W,J,J,())
def jN(n:Nat):O Y4:=
 Z ((J,()),())
def ab5(n:Nat):oZ->O oZ:=
 λc=>cJ c (λd=>Z (N d)) (λ_ _=>Y) (λ_ e=>Z (X () e)) λ_ _=>Y
def Nv(n:Nat)(b:Term×U):O Y4:=
 aj (F326 n (IZ b,J,J,J,())) λe=>Z e
def TQ(n:Nat)(b:Term×U):O Y4:=
 aj (F326 n (IZ b,J,W,J,())) λe=>ak e.1.1 (aj (F208 n (b.1.3,())) λg=>Z g) (jN n)
def Nu(n:Nat):oZ->O oZ:=
 λh=>cJ h (λi=>Z (N i)) (λ_ _=>Y) (λ_ j=>Z (X () j)) λ_ _=>Y
def DG(n:Nat):oZ->O oZ:=
 λj=>cJ j (λk=>Z (N k)) (λ_ _=>Y) (λ_ l=>Z (X () l)) λ_ _=>Y
def Nr(n:Nat):U->aa×U->O Y4:=
 λ_ l=>Z (l,())
def F309:anq:=
 λn b=>ak (af b.1.1 1) (ak (af (au b.1.4) 0) (aj (TR n b) λc=>ak c.1.1 (aj (F209 n (b.1.2,(-1000000000),1000000000,()))
 λd=>Z d) (jN n)) (jN n)) (ak (af b.1.1 2) (ak (af (au b.1.4) 0) (aj (TR n b) λc=>ak c.1.1 (aj (F209 n (b.1.2,0,
 1,())) λd=>Z d) (jN n)) (jN n)) (aj (ak (af b.1.1 3) (Z (N (W,()))) (aj (ak (af b.1.1 21) (Z (N (W,
 ()))) (aj (ak (af b.1.1 25) (Z (N (W,()))) (Z (N (af b.1.1 28,())))) (ab5 n))) (ab5 n))) λ(c:oZ)=>cJ c
 (λd=>ak d.1 (ak (af (au b.1.4) 0) (Nv n b) (jN n)) (ak (af b.1.1 4) (ak (af (au b.1.4) 0) (TQ n b) (jN n)) (aj
 (ak (af b.1.1 5) (Z (N (W,()))) (Z (N (af b.1.1 27,())))) λ(e:oZ)=>cJ e (λg=>ak g.1 (ak (af (au
 b.1.4) 1) (TQ n b) (jN n)) (ak (af b.1.1 7) (ak (af (au b.1.4) 2) (TQ n b) (jN n)) (ak (af b.1.1 8) (ak (af (au
 b.1.4) 3) (Nv n b) (jN n)) (ak (af b.1.1 14) (ak (bB (au b.1.4) 3) (aj (F326 n (IZ b,J,W,J,())) λh=>ak
 h.1.1 (aj (F240 n (b.1.3,())) λi=>Z i) (jN n)) (jN n)) (ak (af b.1.1 15) (aj (F209 n (au b.1.5,1,5,())) λh=>ak h.1.1
 (ak (af (au b.1.4) (aJ .i64 1 (au b.1.5))) (aj (F326 n (IZ b,J,J,W,())) λi=>Z i) (jN n)) (jN n)) (aj
 (ak (af b.1.1 16) (Z (N (W,()))) (aj (ak (af b.1.1 17) (Z (N (W,()))) (aj (ak (af b.1.1 19) (Z (N
 (W,()))) (aj (ak (af b.1.1 20) (Z (N (W,()))) (aj (ak (af b.1.1 23) (Z (N (W,()))) (Z (N (af b.1.1
 26,())))) (Nu n))) (Nu n))) (Nu n))) (Nu n))) λ(h:oZ)=>cJ h (λi=>ak i.1 (ak (af (au b.1.4) 1) (Nv n b)
 (jN n)) (ak (af b.1.1 24) (ak (af (au b.1.4) 1) (aj (TR n b) λj=>ak j.1.1 (aj (F209 n (b.1.2,0,3,())) λk=>Z k)
 (jN n)) (jN n)) (aj (ak (af b.1.1 6) (Z (N (W,()))) (aj (ak (af b.1.1 9) (Z (N (W,()))) (aj (ak (af
 b.1.1 10) (Z (N (W,()))) (aj (ak (af b.1.1 11) (Z (N (W,()))) (aj (ak (af b.1.1 12) (Z (N (W,())))
 (aj (ak (af b.1.1 13) (Z (N (W,()))) (aj (ak (af b.1.1 18) (Z (N (W,()))) (Z (N (af b.1.1 22,()))))
 (DG n))) (DG n))) (DG n))) (DG n))) (DG n))) (DG n))) λ(j:oZ)=>cJ j (λk=>ak k.1 (ak (af (au b.1.4) 2)
 (Nv n b) (jN n)) (jN n)) (λ_ _=>Y) (Nr n) λ_ _=>Y))) (λ_ _=>Y) (Nr n) λ_ _=>Y)))))) (λ_ _=>
 Y) (Nr n) λ_ _=>Y))) (λ_ _=>Y) (Nr n) λ_ _=>Y))
def aqf:OC:=dm [ak9 n,aht n,ahq n,aqa n] [(309,1000008,lS [(35,dM)]),(309,1000009,lS [(35,dM)]),(309,1000010,lS [(35,dM)]),(309,1000015,lS [(59,dM)]),(309,1000026,lS [(125,dM)]),(309,1000027,lS [(125,dM)]),(309,1000028,lS [(125,dM)]),(309,1000029,lS [(125,dM)]),(309,1000030,lS [(125,dM)]),(309,1000035,lS [(151,dM)]),(309,1000036,lS [(151,dM)]),(309,1000037,lS [(151,dM)]),(309,1000038,lS [(151,dM)]),(309,1000039,lS [(151,dM)]),(309,1000040,lS [(151,dM)]),(309,1000041,lS [(151,dM)])] n 309 P97 K4 J (F309 n)
def F139:Nat->abH->O Y4:=
 λn b=>aj (bw (Int×U) (aa×U) (U) (λc=>ak (aG c.1 (au b.1)) (aS (eF 0 c.1 (au b.1)) (aS (aM c.1 b.1)
 (aj (F141 n (cO b.1 0 c.1,bE b.1 (aC c.1) [],())) λd=>ak d.1.1 (Z (X () (J,()))) (Z (N (aJ .i64 c.1 1,()))))))
 (Z (H 0 c))) n (0,())) λc=>bU c (λ_ _=>Z ((W,()),())) (λ_ e=>Z (e,())) λ_ _=>Y
def alg:OC:=dm [ad0 n] [(139,0,lS [(3,dA)])] n 139 P98 K4 J (F139 n)
abbrev adh(F:Fn P3 K71 J):lT sg:=⟨P3,K71,J,F⟩
def B281:Nat->(aI×U->QY)->aI×U->QY:=λn f281=>Yn [] [] J n 281 P3 K71
def D281(n:Nat)(f281:Fn P3 K71 J)(a:bN prog 281 (adh f281)):bN prog 281 (adh (B281 n f281)):=wE [] [] n 10 281
def R281(n k:Nat):(Fn P3 K71 J):=Nat.rec (motive:=λ_=>(Fn P3 K71 J)) (λ_=>Y) (λ_ r=>B281 n r) k
def F281(n:Nat):Fn P3 K71 J:=(R281 n n)
def agq(n:Nat):∀k,bN prog 281 (adh (R281 n k))
 |0=>cG (enters 281 (by kernel_rfl))
 |k+1=>have a:=agq n k
  D281 n _ a
def aqm(n:Nat):OC:=⟨281,adh (F281 n),(agq n n)⟩
def akV:OC:=ZI [] [] n 310 P3 K4 J
def F310(n:Nat):Fn P3 K4 J:=(akV n).c.F
abbrev YR(F:Fn P97 K4 J):lT sg:=⟨P97,K4,J,F⟩
def B280:Nat->(Term×U->O Y4)->Term×U->O Y4:=
 λn f280 c=>aj (F309 n (Term.mk c.1.1 c.1.2 c.1.3 c.1.4 c.1.5,())) λd=>ak (av d.1.1) (Z ((J,()),())) (aj (bw (Int×U) (aa×U) (U) (λe=>ak (aG e.1 (au c.1.5)) (aS (aM e.1 c.1.5) (aj (F310 n (bE c.1.5 (aC e.1) aR,())) λg=>ak
 (av g.1.1) (Z (X () (J,()))) (Z (N (aJ .i64 e.1 1,()))))) (Z (H 0 e))) n (0,())) λe=>bU e (λ_ _=>
 aj (bw (Int×U) (aa×U) (U) (λi=>ak (aG i.1 (au c.1.4)) (aS (aM i.1 c.1.4) (aj (f280 (bE c.1.4 (aC i.1) uq,
 ())) λj=>ak (av j.1.1) (Z (X () (J,()))) (Z (N (aJ .i64 i.1 1,()))))) (Z (H 0 i))) n (0,())) λi=>
 bU i (λ_ _=>Z ((W,()),())) (λ_ k=>Z (k,())) λ_ _=>Y) (λ_ h=>Z (h,())) λ_ _=>Y)
def D280(n:Nat)(f280:Fn P97 K4 J)(a:bN prog 280 (YR f280)):bN prog 280 (YR (B280 n f280)):=wE [⟨280,YR f280,a⟩,aqf n,akV n] [(280,0,⟨[(3,dA)],[],[],0⟩),(280,2,⟨[(4,dA)],[],[],0⟩)] n 10 280
def R280(n k:Nat):(Fn P97 K4 J):=Nat.rec (motive:=λ_=>(Fn P97 K4 J)) (λ_=>Y) (λ_ r=>B280 n r) k
def F280(n:Nat):Fn P97 K4 J:=(R280 n n)
def agr(n:Nat):∀k,bN prog 280 (YR (R280 n k))
 |0=>cG (enters 280 (by kernel_rfl))
 |k+1=>have a:=agr n k
  D280 n _ a
def aqn(n:Nat):OC:=⟨280,YR (F280 n),(agr n n)⟩
def F212:anq:=
 λn b=>aj (F279 n (Term.mk b.1.1 b.1.2 b.1.3 b.1.4 b.1.5,60,14,())) λc=>ak (bB 0 c.1.1) (aj (F280 n (Term.mk b.1.1 b.1.2 b.1.3 b.1.4
 b.1.5,())) λd=>Z d) (Z ((J,()),()))
def aqF:OC:=dm [aqo n,aqn n] [] n 212 P97 K4 J (F212 n)
def ahu:OC:=ZI [ak9 n,aht n,aqH n,aqG n,aqF n] [(136,0,lS [(3,dA)]),(136,2,lS [(4,dA)])] n 136 P99 K4 J
def F136(n:Nat):Fn P99 K4 J:=(ahu n).c.F
def F96:Nat->L UInt8×U->O ((jL×Int×U)×U):=
 λn b=>aj (F202 n b) λc=>ak (av (af c.1.2.1 0)) (Z ((oU,c.1.2),())) (aj (F134 n ((c.1.1,0,J,()),())) λd=>
 aj (F135 n (bW.mk d.2.1.1 d.2.1.2.1 d.2.1.2.2.1,())) λe=>ak (av e.1.1) (Z ((oU,4,()),())) (aj (F136 n d.1)
 λg=>ak (av g.1.1) (Z ((oU,2,()),())) (Z ((d.1.1,0,()),()))))
def k96:OC:=dm [alh n,arx n,ahu n,aqK n] [] n 96 P7 K100 J (F96 n)
def F137:Nat->jL×U->QY:=
 λn b=>aj (bw (Y80) (abH) (U) (λc=>ak (aG c.2.1 (au b.1.3)) (aS (aM c.2.1 b.1.3) (aS (dI c.1 [(bE b.1.3 (aC
 c.2.1) sE).1]) (Z (N (dx c.1 [(bE b.1.3 (aC c.2.1) sE).1],aJ .i64 c.2.1 1,()))))) (Z (H 0 c))) n ([],0,
 ())) λc=>bU c (λ_ e=>Z ((e.1,()),())) (λ_ e=>Z (e,())) λ_ _=>Y
def arw:OC:=dm [] [(137,0,lS [(3,.one (.own (.str))),(4,dA)])] n 137 P99 K71 J (F137 n)
def arv:OC:=ZI [] [(138,0,lS [(3,.one (.own (.st 2))),(4,dA)]),(138,2,lS [(3,.one (.own (.st 2))),(5,dA)])] n 138 P99 K101 J
def F140:Nat->L cL×U->QY:=
 λn b=>aj (bw (Y80) (abH) (U) (λc=>ak (aG c.2.1 (au b.1)) (aS (aM c.2.1 b.1) (aS (dI c.1 [(bE b.1 (aC c.2.1)
 br).1]) (Z (N (dx c.1 [(bE b.1 (aC c.2.1) br).1],aJ .i64 c.2.1 1,()))))) (Z (H 0 c))) n ([],0,())) λc=>
 bU c (λ_ e=>Z ((e.1,()),())) (λ_ e=>Z (e,())) λ_ _=>Y
def aru:OC:=dm [] [(140,0,lS [(3,.one (.own (.str))),(4,dA)])] n 140 P8 K71 J (F140 n)
def ahs:OC:=ZI [] [] n 213 aoc K2 J
def F213(n:Nat):Fn aoc K2 J:=(ahs n).c.F
abbrev adk(F:Fn TF K4 J):lT sg:=⟨TF,K4,J,F⟩
def B214:Nat->(an2->O Y4)->an2->O Y4:=λn f214=>Yn [] [] J n 214 TF K4
def D214(n:Nat)(f214:Fn TF K4 J)(a:bN prog 214 (adk f214)):bN prog 214 (adk (B214 n f214)):=wE [] [] n 10 214
def R214(n k:Nat):(Fn TF K4 J):=Nat.rec (motive:=λ_=>(Fn TF K4 J)) (λ_=>Y) (λ_ r=>B214 n r) k
def F214(n:Nat):Fn TF K4 J:=(R214 n n)
def agB(n:Nat):∀k,bN prog 214 (adk (R214 n k))
 |0=>cG (enters 214 (by kernel_rfl))
 |k+1=>have a:=agB n k
  D214 n _ a
def aqE(n:Nat):OC:=⟨214,adk (F214 n),(agB n n)⟩
def F215:Nat->L (L UInt8)×L (L UInt8)×U->QY:=
 λn b=>aS (dI b.1 b.2.1) (Z ((dx b.1 b.2.1,()),()))
def ak8:OC:=dm [] [] n 215 avn K71 J (F215 n)
def F216:Nat->Term×Int×U->QY:=
 λn b=>aj (ak (af b.1.1 5) (Z (N (W,()))) (Z (N (af b.1.1 27,())))) λ(c:LO (aa×U) abH U Any)=>
 cJ c (λd=>ak d.1 (Z (([b.1.3],()),())) (ak (af b.1.1 7) (ak (af b.2.1 1) (Z (([b.1.3],()),())) (Z (([],()),()))) (ak
 (af b.1.1 15) (ak (aG 0 b.2.1) (aS (aM (bn .i64 b.2.1 1) b.1.5) (aj (F281 n (bE b.1.5 (aC (bn .i64 b.2.1 1)) aR,())) λe
 =>Z e)) (Z (([],()),()))) (Z (([],()),()))))) (λ_ _=>Y) (λ_ e=>Z (e,())) λ_ _=>Y
def ak7:OC:=dm [aqm n] [(216,1000003,lS [(7,dM)])] n 216 avm K71 J (F216 n)
end
end
section
variable (n:Nat)
open Go TL
noncomputable section
set_option maxRecDepth 100000
set_option maxHeartbeats 0
abbrev Zb(F:Fn XZ K4 J):lT sg:=⟨XZ,K4,J,F⟩
def B142:Nat->(anI->O Y4)->anI->O Y4:=
 λn f142 c=>ak (af c.2.1.1 4) (aj (F141 n (c.2.2.1,c.2.1.3,())) λd=>ak d.1.1 (Z ((W,()),())) (aj (F141 n (c.1.1,c.2.1.3,
 ())) λe=>Z e)) (aj (ak (af c.2.1.1 14) (aj (F213 n (c.1.2,c.2.1.3,())) λd=>ak (aG d.1.1 0) (Z (X () (J,()))) (aS
 (aM d.1.1 c.1.2) (ak (av (af (bE c.1.2 (aC d.1.1) br).2 (au c.2.1.4))) (Z (X () (J,()))) (Z (N (J,W,
 ())))))) (Z (N (J,J,())))) λ(d:JQ)=>cJ d (λ_=>aj (bw (Int×U) (aa×U) (U) (λg=>ak
 (aG g.1 (au c.2.1.5)) (aS (aM g.1 c.2.1.5) (aj (F214 n (c.1,bE c.2.1.5 (aC g.1) aR,())) λh=>ak (av h.1.1) (Z (X
 () (J,()))) (Z (N (aJ .i64 g.1 1,()))))) (Z (H 0 g))) n (0,())) λg=>bU g (λ_ _=>aj (bw (Int×U) (aa×
 U) (U) (λj=>ak (aG j.1 (au c.2.1.4)) (aS (aM j.1 c.2.1.4) (aj (F216 n (Term.mk c.2.1.1 c.2.1.2 c.2.1.3 c.2.1.4 c.2.1.5,j))
 λk=>aj (F215 n (c.2.2.1,k.1)) λl=>aj (f142 (c.1,bE c.2.1.4 (aC j.1) uq,l.1)) λm=>ak (av m.1.1) (Z (X () (J,
 ()))) (Z (N (aJ .i64 j.1 1,()))))) (Z (H 0 j))) n (0,())) λj=>bU j (λ_ _=>Z ((W,()),())) (λ_ l=>Z
 (l,())) λ_ _=>Y) (λ_ i=>Z (i,())) λ_ _=>Y) (λ_ _=>Y) (λ_ g=>Z (g,())) λ_ _=>Y)
def D142(n:Nat)(f142:Fn XZ K4 J)(a:bN prog 142 (Zb f142)):bN prog 142 (Zb (B142 n f142)):=wE [ad0 n,⟨142,Zb f142,a⟩,ahs n,aqE n,ak8 n,ak7 n] [(142,0,⟨[(8,dA)],[],[],0⟩),(142,2,⟨[(9,dA)],[],[],0⟩),(142,1000004,⟨[(6,dM),(28,dM)],[],[],0⟩)] n 10 142
def R142(n k:Nat):(Fn XZ K4 J):=Nat.rec (motive:=λ_=>(Fn XZ K4 J)) (λ_=>Y) (λ_ r=>B142 n r) k
def F142(n:Nat):Fn XZ K4 J:=(R142 n n)
def agH(n:Nat):∀k,bN prog 142 (Zb (R142 n k))
 |0=>cG (enters 142 (by kernel_rfl))
 |k+1=>have a:=agH n k
  D142 n _ a
def art(n:Nat):OC:=⟨142,Zb (F142 n),(agH n n)⟩
def F143:Nat->anJ->IN:=
 λn b=>aj (bw (Int×U) (Int×U) (U) (λc=>ak (bB 0 c.1) (aS (aM c.1 b.1) (ak (gZ (bE b.1 (aC c.1) []) b.2.1)
 (Z (X () c)) (Z (N (bn .i64 c.1 1,()))))) (Z (H 0 c))) n (bn .i64 (au b.1) 1,())) λc=>bU c (λ_ _=>
 Z (((-1),()),())) (λ_ e=>Z (e,())) λ_ _=>Y
def alf:OC:=dm [] [(143,0,lS [(5,dA)])] n 143 P70 K2 J (F143 n)
abbrev adj(F:Fn TE K86 J):lT sg:=⟨TE,K86,J,F⟩
def B217:Nat->(Y90->O Y89)->Y90->O Y89:=λn f217=>Yn [] [] J n 217 TE K86
def D217(n:Nat)(f217:Fn TE K86 J)(a:bN prog 217 (adj f217)):bN prog 217 (adj (B217 n f217)):=wE [] [] n 10 217
def R217(n k:Nat):(Fn TE K86 J):=Nat.rec (motive:=λ_=>(Fn TE K86 J)) (λ_=>Y) (λ_ r=>B217 n r) k
def F217(n:Nat):Fn TE K86 J:=(R217 n n)
def agA(n:Nat):∀k,bN prog 217 (adj (R217 n k))
 |0=>cG (enters 217 (by kernel_rfl))
 |k+1=>have a:=agA n k
  D217 n _ a
def aqD(n:Nat):OC:=⟨217,adj (F217 n),(agA n n)⟩
abbrev Za(F:Fn XY K2 J):lT sg:=⟨XY,K2,J,F⟩
def Uc(g:aa×QV×U):QV×U:=
 ((g.2.1.1,g.2.1.2.1,[],g.2.1.2.2.2),())
def Ub(i:ai3):L (L Int):=
 M1 (S:=sg) 24 2 (Ty.int .i64) i.2.1.2.2.1
def acz(i:ai3):Jj:=
 (i.2.1.1,i.2.1.2.1,pW (S:=sg) 24 2 (Ty.int .i64) i.2.1.2.2.1 (Ub i),())
def ajt(j:Y89):L (L Int):=
 M1 (S:=sg) 24 2 (Ty.int .i64) j.2.1.2.2.1
def ajs(j:Y89):Jj:=
 (j.2.1.1,j.2.1.2.1,pW (S:=sg) 24 2 (Ty.int .i64) j.2.1.2.2.1 (ajt j),())
def acy(c:QU):Jj:=
 (c.1.1,c.1.2.1,pW (S:=sg) 24 2 (Ty.int .i64) c.1.2.2.1 (M1 (S:=sg) 24 2 (Ty.int .i64) c.1.2.2.1),())
def ajr(l:Int×Jj×U):L (L Int):=
 M1 (S:=sg) 24 2 (Ty.int .i64) l.2.1.2.2.1
def Ua(l:Int×Jj×U):Jj:=
 (l.2.1.1,l.2.1.2.1,pW (S:=sg) 24 2 (Ty.int .i64) l.2.1.2.2.1 (ajr l),())
def ya(c:QU):Nat:=
 aC (au c.1.2.2.1)
def FT(p:Tw):L (L Int):=
 M1 (S:=sg) 24 2 (Ty.int .i64) p.2.1.2.2.1
def afq(m:Jj×U):Jj:=
 (m.1.1,m.1.2.1,pW (S:=sg) 24 2 (Ty.int .i64) m.1.2.2.1 (M1 (S:=sg) 24 2 (Ty.int .i64) m.1.2.2.1),())
def afp(n:Nat)(f144:QU->O Tw)(m:Jj×U):ai2:=
 λo=>Z (o,afq m,())
def afo(j:Jj×QV×U):Jj:=
 (j.1.1,j.1.2.1,pW (S:=sg) 24 2 (Ty.int .i64) j.1.2.2.1 (M1 (S:=sg) 24 2 (Ty.int .i64) j.1.2.2.1),())
def afn(n:Nat)(f144:QU->O Tw)(j:Jj×QV×U):ai2:=
 λk=>Z (k,afo j,())
def VU(n:Nat)(f144:QU->O Tw)(c:QU):ai2:=
 λi=>Z (i,acy c,())
def B144:Nat->(QU->O Tw)->QU->O Tw:=
 λn f144 c=>aj (ak (af c.2.1.1 4) (aj (F143 n (c.2.2.1,c.2.1.3,())) λd=>aj (ak (aG d.1.1 0) (aj (F143 n (c.1.1,c.2.1.3,()))
 λe=>Z (N (W,(c.2.1.1,bn .i64 (-1) e.1.1,[],[],()),()))) (Z (N (J,(c.2.1.1,d.1.1,[],[],()),())))) λ(e :
 ai1)=>cJ e (λg=>Z (N (W,Uc g))) (λ_ _=>Y) (λg h=>Z (X ((g.1.1,g.1.2.1,[],g.1.2.2.2),()) h)) λ_
 _=>Y) (Z (N (J,(c.2.1.1,c.2.1.2,[],[],()),())))) λ(d:ai1)=>cJ d (λe=>aj (ak (af c.2.1.1 14) (aj (F213 n
 (c.1.2.1,c.2.1.3,())) λg=>Z (N (W,(e.2.1.1,g.1.1,[],e.2.1.2.2.2),()))) (Z (N (J,Uc e)))) λ(g:ai1)=>
 cJ g (λh=>aj (bw (ai3) (Int×U) (Jj×QV×U) (λi=>ak (aG i.1 (au c.2.1.5)) (aS (aM i.1 c.2.1.5) (aj (F217
 n (acz i,bE c.2.1.5 (aC i.1) aR,())) λj=>aS (dI i.2.2.1.2.2.2.1 [j.1.1]) (Z (N (aJ .i64 i.1 1,ajs j,(i.2.2.1.1,
 i.2.2.1.2.1,[],dx i.2.2.1.2.2.2.1 [j.1.1],()),()))))) (Z (H 0 (i.1,acz i,(i.2.2.1.1,i.2.2.1.2.1,[],i.2.2.1.2.2.2),())))) n (0,
 acy c,Uc h)) λi=>bU i (λ_ k=>aS (bR (adM k.2.1.2.2.1 (Ub k)) (dI k.2.1.2.2.1 [gW.mk k.2.2.1.1 k.2.2.1.2.1 []
 k.2.2.1.2.2.2.1])) (aj (bw (Int×Jj×U) (Int×U) (Jj×U) (λl=>ak (aG l.1 (au c.2.1.4)) (aS (aM l.1 c.2.1.4) (aj
 (F216 n (Term.mk c.2.1.1 c.2.1.2 c.2.1.3 c.2.1.4 c.2.1.5,l.1,())) λm=>aj (F215 n (c.2.2.1,m.1)) λo=>aj (f144 (Ua l,bE c.2.1.4
 (aC l.1) uq,o.1)) λp=>aS (aM (au c.1.2.2.1) p.2.1.2.2.1) (aS (ei (ya c) p.2.1.2.2.1) (aS (bR (ei (ya c) (FT p))
 (dI (bE (FT p) (ya c) []) [p.1.1])) (aS (aM (au c.1.2.2.1) p.2.1.2.2.1) (aS (aam (ya c) p.2.1.2.2.1 (ya c) (ya c))
 (Z (N (aJ .i64 l.1 1,(p.2.1.1,p.2.1.2.1,pW (S:=sg) 24 2 (Ty.int .i64) p.2.1.2.2.1 (lM (FT p) (ya c) (dx (bE (FT
 p) (ya c) []) [p.1.1])),()),()))))))))) (Z (H 0 (l.1,Ua l,())))) n (0,(k.2.1.1,k.2.1.2.1,pW (S:=sg) 24 2 (Ty.int .i64)
 (dx k.2.1.2.2.1 [gW.mk k.2.2.1.1 k.2.2.1.2.1 [] k.2.2.1.2.2.2.1]) (dx (Ub k) [[]]),()),())) λl=>bU l (λ_ o=>Z ((au
 c.1.2.2.1,()),Ua o,())) (λm=>afp n f144 m) λ_ _=>Y)) (λj=>afn n f144 j) λ_ _=>Y) (λ_ _=>Y) (λ_=>
 VU n f144 c) λ_ _=>Y) (λ_ _=>Y) (λ_=>VU n f144 c) λ_ _=>Y
def D144(n:Nat)(f144:Fn XY K2 J)(a:bN prog 144 (Za f144)):bN prog 144 (Za (B144 n f144)):=wE [alf n,⟨144,Za f144,a⟩,ahs n,ak8 n,ak7 n,aqD n] [(144,0,⟨[(9,dA),(0,abn),(0,ae0)],[.slot 0,.slot 8],[],0⟩),(144,2,⟨[(10,dA),(0,abn)],[.slot 0],[],0⟩),(144,1000004,⟨[(24,dM),(0,ae0)],[.slot 8],[],0⟩),(144,1000006,⟨[(32,dM),(0,ae0)],[.slot 8],[],0⟩),(144,1000008,⟨[(44,dM),(0,ae0)],[.slot 8],[],0⟩)] n 10 144
def R144(n k:Nat):(Fn XY K2 J):=Nat.rec (motive:=λ_=>(Fn XY K2 J)) (λ_=>Y) (λ_ r=>B144 n r) k
def F144(n:Nat):Fn XY K2 J:=(R144 n n)
def agG(n:Nat):∀k,bN prog 144 (Za (R144 n k))
 |0=>cG (enters 144 (by kernel_rfl))
 |k+1=>have a:=agG n k
  D144 n _ a
def ars(n:Nat):OC:=⟨144,Za (F144 n),(agG n n)⟩
def k97:OC:=ZI [ahu n,arw n,arv n,alg n,aru n,ad0 n,art n,alf n,ars n] [(97,0,⟨[(5,dA),(0,anb)],[.slot 2],[],0⟩),(97,2,⟨[(7,dA),(0,.box (.cells [.nil (.st 24),.own (.int .i64),nw,b8y])),(0,abn)],[.slot 6,.slot 18],[],0⟩),(97,4,⟨[(8,dA),(0,anb)],[.slot 2],[],0⟩)] n 97 P99 K109 J
def F97(n:Nat):Fn P99 K109 J:=(k97 n).c.F
def F146:Nat->cw×Int×U->O JN:=
 λn b=>aS (aM b.2.1 b.1.1) (aS (ei (aC b.2.1) b.1.1) (ak (af (bE b.1.1 (aC b.2.1) cg).1 19) (aS (aM b.2.1 b.1.1) (aS (ei
 (aC b.2.1) b.1.1) (Z ((cw.mk (lM b.1.1 (aC b.2.1) (bT.mk (bE b.1.1 (aC b.2.1) cg).1 (bE b.1.1 (aC b.2.1)
 cg).2 (au b.1.1))) b.1.2 b.1.3,()),())))) (aS (aM b.2.1 b.1.1) (aS (ei (aC b.2.1) b.1.1) (Z ((cw.mk (lM b.1.1 (aC
 b.2.1) (bT.mk (bE b.1.1 (aC b.2.1) cg).1 (au b.1.1) (bE b.1.1 (aC b.2.1) cg).3)) b.1.2 b.1.3,()),()))))))
def ale:OC:=dm [] [] n 146 avl K111 J (F146 n)
def F218:anS:=
 λn b=>aS (dI b.1.1 [bT.mk b.2.1 b.2.2.1 0]) (Z ((cw.mk (dx b.1.1 [bT.mk b.2.1 b.2.2.1 0]) b.1.2 b.1.3,()),()))
def ahr:OC:=dm [] [] n 218 aob K111 J (F218 n)
def F219:Nat->cw×aa×U->O JN:=
 λn b=>ak b.2.1 (aj (F218 n (b.1,34,0,())) λc=>Z c) (Z ((b.1,()),()))
def aqC:OC:=dm [ahr n] [] n 219 avk K111 J (F219 n)
def F220:anS:=
 λn b=>aS (dI b.1.3 [oC.mk b.2.2.1 (au b.1.1)]) (aj (F218 n (cw.mk b.1.1 b.1.2 (dx b.1.3 [oC.mk b.2.2.1 (au
 b.1.1)]),b.2.1,0,())) λc=>Z c)
def aqB:OC:=dm [ahr n] [] n 220 aob K111 J (F220 n)
abbrev YY(F:Fn P3 K2 J):lT sg:=⟨P3,K2,J,F⟩
def B163:Y97:=
 λn f163 c=>aj (ak (af c.1.1 2) (Z (N (1,W,()))) (Z (N (0,J,())))) λ(d:Y98)=>cJ d (λe=>aj (@iter
 (Int×Int×U) (Int×U) (U) (Any) (λg=>ak (aG g.2.1 (au c.1.4)) (aS (aM g.2.1 c.1.4) (aj (f163 (bE c.1.4 (aC g.2.1)
 aR,())) λh=>Z (N (aJ .i64 g.1 h.1.1,aJ .i64 g.2.1 1,())))) (Z (H 0 g))) n (e.1,0,())) λg=>bU g (λ_ i
 =>Z ((i.1,()),())) (λ_ i=>Z (i,())) λ_ _=>Y) (λ_ _=>Y) (λ_ g=>Z (g,())) λ_ _=>Y
def D163(n:Nat)(f163:Fn P3 K2 J)(a:bN prog 163 (YY f163)):bN prog 163 (YY (B163 n f163)):=wE [⟨163,YY f163,a⟩] [(163,0,⟨[(3,dA),(4,dA)],[],[],0⟩),(163,1000003,⟨[(3,dA),(7,dM)],[],[],0⟩)] n 10 163
def R163(n k:Nat):(Fn P3 K2 J):=Nat.rec (motive:=λ_=>(Fn P3 K2 J)) (λ_=>Y) (λ_ r=>B163 n r) k
def F163(n:Nat):Fn P3 K2 J:=(R163 n n)
def agC(n:Nat):∀k,bN prog 163 (YY (R163 n k))
 |0=>cG (enters 163 (by kernel_rfl))
 |k+1=>have a:=agC n k
  D163 n _ a
def arj(n:Nat):OC:=⟨163,YY (F163 n),(agC n n)⟩
def F222:anR:=
 λn b=>ak (af b.1 3) (Z ((3,()),())) (ak (af b.1 9) (Z ((13,()),())) (ak (af b.1 10) (Z ((14,()),())) (ak (af b.1
 11) (Z ((15,()),())) (ak (af b.1 12) (Z ((16,()),())) (ak (af b.1 13) (Z ((17,()),())) (ak (af b.1 16) (Z ((21,()),()))
 (ak (af b.1 17) (Z ((22,()),())) (ak (af b.1 18) (Z ((23,()),())) (ak (af b.1 19) (Z ((24,()),())) (ak (af b.1 20) (Z
 ((25,()),())) (ak (af b.1 21) (Z ((26,()),())) (ak (af b.1 22) (Z ((27,()),())) (ak (af b.1 23) (Z ((28,()),())) (ak
 (af b.1 25) (Z ((30,()),())) (Z ((33,()),()))))))))))))))))
def aqA:OC:=dm [] [] n 222 P26 K2 J (F222 n)
abbrev Ww(F:Fn TD K111 J):lT sg:=⟨TD,K111,J,F⟩
abbrev adi(F:Fn XX K111 J):lT sg:=⟨XX,K111,J,F⟩
def fG(d:XL):gW:=
 bE d.2.1.1 (aC d.2.2.1) Dn
def Jf(d:XL):Int×U:=
 ((fG d).2,())
def tJ(n:Nat)(f145:XL->O JN)(f221:Y32->O JN)(d:XL):JN->O JN:=
 λe=>aj (F219 n (e.1.1,d.2.2.2)) λg=>Z g
def DS(d:XL):aa:=
 aM 0 (fG d).3
def T9(d:XL):Int×U:=
 (bE (fG d).3 (aC 0) 0,())
def T8(f145:XL->O JN)(d:XL):O JN:=
 f145 (d.1,d.2.1,bE (fG d).3 (aC 0) 0,J,())
def acw(f145:XL->O JN)(d:XL)(g:JN):O JN:=
 f145 (g.1.1,d.2.1,bE (fG d).3 (aC 1) 0,d.2.2.2)
def T7(i:JN):Y30×U:=
 ((i.1.1.1,i.1.1.2,i.1.1.3,()),())
def ajq(j:aa×Y30×U):cw:=
 cw.mk j.2.1.1 j.2.1.2.1 j.2.1.2.2.1
def NN(n:Nat)(e:JN)(h:JN):O JN:=
 F146 n (h.1.1,au e.1.1.1,())
def yR(e:Int×Y30×U):cw:=
 cw.mk e.2.1.1 e.2.1.2.1 e.2.1.2.2.1
def B145:Nat->(XL->O JN)->(Y32->O JN)->XL->O JN:=
 λn f145 f221 d=>aS (aM d.2.2.1 d.2.1.1) (ak (af (fG d).1 1) (aj (F218 n (d.1,1,Jf d)) (tJ n f145 f221 d)) (ak (af
 (fG d).1 2) (aj (F218 n (d.1,2,Jf d)) (tJ n f145 f221 d)) (ak (af (fG d).1 4) (ak (aG (fG d).2 0) (aj (F218 n (d.1,5,
 bn .i64 (-1) (fG d).2,())) (tJ n f145 f221 d)) (aj (F218 n (d.1,4,Jf d)) (tJ n f145 f221 d))) (ak (af (fG d).1 5) (aS
 (DS d) (aj (F220 n (d.1,6,T9 d)) (tJ n f145 f221 d))) (ak (af (fG d).1 26) (aS (DS d) (aj (F220 n (d.1,31,T9 d))
 (tJ n f145 f221 d))) (ak (af (fG d).1 27) (aS (DS d) (aj (F220 n (d.1,32,T9 d)) (tJ n f145 f221 d))) (ak (af (fG
 d).1 7) (aS (DS d) (aj (T8 f145 d) λe=>aj (F218 n (e.1.1,9,0,())) λg=>aS (aM 1 (fG d).3) (aj (acw f145 d g) λh=>
 aj (ak (av d.2.2.2.1) (aj (F218 n (h.1.1,10,1,())) λi=>Z (N (W,T7 i))) (Z (N (J,T7 h)))) λ(i :
 Y34)=>cJ i (λj=>Z ((ajq j,()),())) (λ_ _=>Y) (λ_ _=>Z ((lu,()),())) λ_ _=>Y))) (ak (af
 (fG d).1 8) (aS (DS d) (aj (T8 f145 d) λe=>aj (F218 n (e.1.1,12,0,())) λg=>aS (aM 1 (fG d).3) (aj (acw f145 d g)
 λh=>ak d.2.2.2.1 (aj (NN n e h) λi=>aS (aM 2 (fG d).3) (aj (f145 (i.1.1,d.2.1,bE (fG d).3 (aC 2) 0,W,())) λj
 =>Z j)) (aj (F218 n (h.1.1,11,0,())) λi=>aj (NN n e i) λj=>aS (aM 2 (fG d).3) (aj (f145 (j.1.1,d.2.1,bE (fG d).3
 (aC 2) 0,J,())) λk=>aj (NN n h k) λl=>Z l))))) (ak (af (fG d).1 15) (aS (DS d) (aj (T8 f145 d) λe=>
 aj (f221 (e.1.1,d.2.1,fG d,d.2.2.2)) λg=>Z g)) (aj (bw (Int×Y30×U) (U) (Y30×U) (λe=>ak (aG e.1 (au
 (fG d).3)) (aS (aM e.1 (fG d).3) (aj (f145 (yR e,d.2.1,bE (fG d).3 (aC e.1) 0,J,())) λg=>Z (N (aJ .i64
 e.1 1,T7 g)))) (Z (H 0 e))) n (0,(d.1.1,d.1.2,d.1.3,()),())) λe=>bU e (λ_ h=>ak (af (fG d).1 6) (ak d.2.2.2.1
 (aj (F218 n (yR h,8,0,())) λi=>Z i) (aj (F218 n (yR h,7,0,())) λi=>Z i)) (ak (af (fG d).1 14) (aj (F218 n
 (yR h,18,Jf d)) (tJ n f145 f221 d)) (ak (af (fG d).1 24) (aj (F218 n (yR h,29,Jf d)) (tJ n f145 f221 d)) (aj
 (F222 n ((fG d).1,())) λi=>aj (F218 n (yR h,i.1.1,0,())) (tJ n f145 f221 d))))) (λ_ _=>Z ((lu,()),()))
 λ_ _=>Y))))))))))
def B221:Nat->(XL->O JN)->Y32->O JN:=λn f145=>Yn [] [] J n 221 XX K111
def D145(n:Nat)(f145:Fn TD K111 J)(f221:Fn XX K111 J)(a:bN prog 145 (Ww f145))(b:bN prog 221 (adi f221)):bN prog 145 (Ww (B145 n f145 f221)):=wE [⟨145,Ww f145,a⟩,ale n,ahr n,aqC n,aqB n,⟨221,adi f221,b⟩,aqA n] [(145,1,⟨[(12,dA),(0,aeY)],[.slot 4],[],0⟩),(145,1000020,⟨[(102,dM),(0,aeY)],[.slot 4],[],0⟩)] n 10 145
def D221(n:Nat)(f145:Fn TD K111 J)(a:bN prog 145 (Ww f145)):bN prog 221 (adi (B221 n f145)):=wE [] [] n 10 221
def R145(n k:Nat):(Fn TD K111 J)×(Fn XX K111 J):=Nat.rec (motive:=λ_=>(Fn TD K111 J)×(Fn XX K111 J)) ((λ_=>Y,λ_=>Y)) (λ_ r=>(B145 n r.1 r.2,B221 n r.1)) k
def F145(n:Nat):Fn TD K111 J:=(R145 n n).1
def agF(n:Nat):∀k,bN prog 145 (Ww (R145 n k).1)/\bN prog 221 (adi (R145 n k).2)
 |0=>⟨cG (enters 145 (by kernel_rfl)),cG (enters 221 (by kernel_rfl))⟩
 |k+1=>have a:=agF n k
  ⟨D145 n _ _ a.1 a.2,D221 n _ a.1⟩
def arq(n:Nat):OC:=⟨145,Ww (F145 n),(agF n n).1⟩
def k98:OC:=ZI [arq n,ale n] [(98,0,⟨[(4,.one (.own (.int .i64))),(5,dA),(0,aeY)],[.slot 3],[],0⟩),(98,2,⟨[(6,dA),(0,aeY)],[.slot 3],[],0⟩)] n 98 aoa K117 J
def F98(n:Nat):Fn aoa K117 J:=(k98 n).c.F
def F42:Nat->L UInt8×U->Y95:=
 λn b=>aj (F96 n b) λc=>aj (F97 n (c.1.1,())) λd=>aj (F98 n (d.1.1,())) λe=>Z e
def k42:OC:=dm [k96 n,k97 n,k98 n] [] n 42 P7 K117 J (F42 n)
def F43:Y92:=
 λn b=>Z ((aA.mk 1 b.1,()),())
def k43:OC:=dm [] [] n 43 P26 K20 J (F43 n)
end
end
section
variable (n:Nat)
open Go TL
noncomputable section
set_option maxRecDepth 100000
set_option maxHeartbeats 0
def acf(n:Nat):Y95:=
 F42 n ([109,111,100,117,108,101,32,97,32,123,32,102,117,110,32,109,97,105,110,40,117,32,58,32,117,110,105,116,41,32,58,
 32,105,110,116,32,61,32,108,101,116,32,99,32,61,32,99,101,108,108,40,49,41,32,105,110,32,108,101,116,32,120,32,61,32,
 111,117,116,40,48,44,32,103,101,116,40,99,41,41,32,105,110,32,108,101,116,32,121,32,61,32,112,117,116,40,99,44,32,105,
 110,112,117,116,41,32,105,110,32,103,101,116,40,99,41,32,43,32,49,59,32,125],())
def zB(n:Nat):O Y4:=
 Z ((J,()),())
def LD(e:Y96):aE:=
 bE e.1.2.1 (aC 2) bP
def LC(e:Y96):aE:=
 bE e.1.2.1 (aC 5) bP
def F12:Nat->U->O Y4:=
 λn _=>aj (F42 n ([109,111,100,117,108,101,32,98,32,123,32,102,117,110,32,119,111,114,107,40,99,32,58,32,99,104,97,110,
 32,105,110,116,41,32,58,32,117,110,105,116,32,61,32,108,101,116,32,120,32,61,32,115,101,110,100,40,99,44,32,53,41,32,
 105,110,32,115,101,110,100,40,99,44,32,54,41,59,32,102,117,110,32,109,97,105,110,40,117,32,58,32,117,110,105,116,41,
 32,58,32,105,110,116,32,61,32,108,101,116,32,99,32,61,32,99,104,97,110,32,105,110,32,108,101,116,32,116,32,61,32,115,
 112,97,119,110,40,102,117,110,32,117,32,61,62,32,119,111,114,107,32,99,41,32,105,110,32,116,97,107,101,40,99,41,32,43,
 32,114,101,115,101,116,40,49,32,43,32,40,115,104,105,102,116,32,107,32,61,62,32,107,32,40,107,32,49,48,41,41,41,59,
 32,125],())) λc=>aj (F13 n (c.1.1,[],())) λd=>aj (F20 n (c.1.1,d.1.1,[0,0,1,1,0,0,1],())) λe=>aj (F24 n (c.1.1,e.1.1,
 ())) λg=>aj (acf n) λh=>aj (F13 n (h.1.1,[],())) λi=>aj (acf n) λj=>aj (F28 n (j.1.1,i.1.1,0,())) λk=>ak (av
 (af d.1.2.1 0)) (zB n) (ak (av (af e.1.2.2.1 0)) (zB n) (ak (av (af g.1.2.1 0)) (zB n) (ak (av (af i.1.2.1 0))
 (zB n) (ak (av (af k.1.2.2.2.1 0)) (zB n) (ak (av (af (au e.1.2.1) 7)) (zB n) (aS (aM 2 e.1.2.1) (aj (F43 n (5,())) λ
 l=>ak (bR (af (LD e).1 1) (bR (af (LD e).2 22) (bR (af (LD e).3 0) (bR (af (LD e).4.1 l.1.1.1) (bR
 (af (LD e).4.2 l.1.1.2) W))))) (aS (aM 5 e.1.2.1) (aj (F43 n (17,())) λm=>ak (bR (af (LC e).1 0) (bR (af (LC
 e).2 0) (bR (af (LC e).3 1) (bR (af (LC e).4.1 m.1.1.1) (bR (af (LC e).4.2 m.1.1.2) W))))) (ak (af (au g.1.1.1)
 2) (aj (F43 n (1,())) λo=>ak (bR (af k.1.2.1.1 0) (bR (af k.1.2.1.2 16) (bR (af k.1.2.1.3 0) (bR (af k.1.2.1.4.1
 o.1.1.1) (bR (af k.1.2.1.4.2 o.1.1.2) W))))) (Z ((af k.1.2.2.1 3,()),())) (zB n)) (zB n)) (zB n))) (zB n))))))))
def k12:OC:=dm [k13 n,k20 n,k24 n,k28 n,k42 n,k43 n] [] n 12 [] K4 J (F12 n)
def F104:Y41:=
 λn b=>ak (bB b.2.1 b.1) (Z ((bB b.1 b.2.2.1,()),())) (Z ((J,()),()))
def aln:OC:=dm [] [] n 104 P6 K4 J (F104 n)
def F241:Y41:=
 λn b=>ak (bB b.2.1 b.1) (Z ((bB b.1 b.2.2.1,()),())) (Z ((J,()),()))
def ak4:OC:=dm [] [] n 241 P6 K4 J (F241 n)
def F158:Y79:=
 λn b=>aj (bw (Y80) (aa×U) (U) (λc=>ak (aG c.2.1 (au b.1)) (aS (aM c.2.1 b.1) (aj (F240 n ((bE b.1 (aC c.2.1)
 br).1,())) λd=>ak (av d.1.1) (Z (X () (J,()))) (aS (aM c.2.1 b.1) (aj (F241 n ((bE b.1 (aC c.2.1) br).2,0,
 3,())) λe=>ak (av e.1.1) (Z (X () (J,()))) (aS (aM c.2.1 b.1) (aS (dI c.1 [(bE b.1 (aC c.2.1) br).1]) (Z
 (N (dx c.1 [(bE b.1 (aC c.2.1) br).1],aJ .i64 c.2.1 1,()))))))))) (Z (H 0 c))) n ([],0,())) λc=>bU c (λ_ e
 =>ak (bB (au b.1) 20) (aj (F139 n (e.1,())) λg=>Z g) (Z ((J,()),()))) (λ_ e=>Z (e,())) λ_ _=>Y
def arp:OC:=dm [alg n,ahq n,ak4 n] [(158,0,lS [(3,.one (.own (.str))),(4,dA)])] n 158 P8 K4 J (F158 n)
def F105:Y79:=
 λn b=>aj (F158 n b) λc=>Z c
def arG:OC:=dm [arp n] [] n 105 P8 K4 J (F105 n)
abbrev YZ(F:Fn P9 K4 J):lT sg:=⟨P9,K4,J,F⟩
def Je(n:Nat)(f159:Yd->O Y4)(c:Yd):aa×Int×U->O anL:=
 λi=>ak (aG i.2.1 (au c.1.4)) (ak i.1 (aS (aM i.2.1 c.1.4) (aj (f159 (bE c.1.4 (aC i.2.1) aR,c.2)) λj=>Z (N
 (j.1.1,aJ .i64 i.2.1 1,())))) (Z (H 0 i))) (Z (H 0 i))
def Jd(n:Nat)(f159:Yd->O Y4):anL->O Y4:=
 λi=>bU i (λ_ k=>Z ((k.1,()),())) (λ_ k=>Z (k,())) λ_ _=>Y
def B159:anZ:=
 λn f159 c=>aj (ak (af c.1.1 1) (Z (N (W,()))) (aj (ak (af c.1.1 2) (Z (N (W,()))) (Z (N (af c.1.1
 5,())))) λ(d:oZ)=>cJ d (λe=>Z (N e)) (λ_ _=>Y) (λ_ g=>Z (X () g)) λ_ _=>Y)) λ(d:oZ)=>
 cJ d (λe=>aj (ak e.1 (ak (af (au c.1.4) 0) (Z (N (af c.1.2 0,W,()))) (Z (N (J,W,())))) (aj (ak
 (af c.1.1 3) (ak (af (au c.1.4) 0) (aj (F241 n (c.1.2,(-1000000000),1000000000,())) λg=>Z (N (g.1.1,W,()))) (Z
 (N (J,W,())))) (aj (ak (af c.1.1 4) (ak (af (au c.1.4) 0) (aj (F241 n (c.1.2,0,1,())) λg=>Z (N (g.1.1,
 W,()))) (Z (N (J,W,())))) (aj (ak (af c.1.1 6) (aj (F241 n (c.1.2,0,bn .i64 (au c.2.1) 1,())) λg=>ak g.1.1
 (aS (aM c.1.2 c.2.1) (Z (N (af (au c.1.4) (bE c.2.1 (aC c.1.2) br).2,W,())))) (Z (N (J,W,())))) (Z
 (N (J,J,())))) λ(g:JQ)=>cJ g (λh=>Z (N (h.1,J,()))) (λ_ _=>Y) (λ_ i=>Z (X () i))
 λ_ _=>Y)) λ(g:JQ)=>cJ g (λh=>Z (N (h.1,J,()))) (λ_ _=>Y) (λ_ i=>Z (X () i)) λ_ _=>
 Y)) λ(g:JQ)=>cJ g (λh=>Z (N (h.1,J,()))) (λ_ _=>Y) (λ_ i=>Z (X () i)) λ_ _=>Y)) λ(g
 :JQ)=>cJ g (λh=>ak h.1 (aj (bw (aa×Int×U) (aa×U) (U) (Je n f159 c) n (gZ c.1.3 [],0,())) (Jd n
 f159)) (aj (bw (aa×Int×U) (aa×U) (U) (Je n f159 c) n (J,0,())) (Jd n f159))) (λ_ _=>Y) (λ_ i=>
 Z (i,())) λ_ _=>Y) (λ_ _=>Y) (λ_ g=>Z (g,())) λ_ _=>Y
def D159(n:Nat)(f159:Fn P9 K4 J)(a:bN prog 159 (YZ f159)):bN prog 159 (YZ (B159 n f159)):=wE [⟨159,YZ f159,a⟩,ak4 n] [(159,1,⟨[(5,dM),(7,dA)],[],[],0⟩),(159,1000005,⟨[(13,dM)],[],[],0⟩),(159,1000006,⟨[(13,dM)],[],[],0⟩),(159,1000007,⟨[(5,dM),(13,dM)],[],[],0⟩),(159,1000009,⟨[(5,dM),(24,dM)],[],[],0⟩),(159,1000011,⟨[(5,dM),(33,dM)],[],[],0⟩),(159,1000013,⟨[(5,dM),(42,dM)],[],[],0⟩)] n 10 159
def R159(n k:Nat):(Fn P9 K4 J):=Nat.rec (motive:=λ_=>(Fn P9 K4 J)) (λ_=>Y) (λ_ r=>B159 n r) k
def F159(n:Nat):Fn P9 K4 J:=(R159 n n)
def agE(n:Nat):∀k,bN prog 159 (YZ (R159 n k))
 |0=>cG (enters 159 (by kernel_rfl))
 |k+1=>have a:=agE n k
  D159 n _ a
def aro(n:Nat):OC:=⟨159,YZ (F159 n),(agE n n)⟩
def F106:Nat->Yd->O Y4:=
 λn b=>aj (F159 n (aI.mk b.1.1 b.1.2 b.1.3 b.1.4,b.2)) λc=>Z c
def arF:OC:=dm [aro n] [] n 106 P9 K4 J (F106 n)
def I7(n:Nat):oZ->O oZ:=
 λc=>cJ c (λd=>Z (N d)) (λ_ _=>Y) (λ_ e=>Z (X () e)) λ_ _=>Y
def NH(n:Nat)(b:Y28):O Y4:=
 ak (af b.2.1.1 1) (aj (F104 n (b.2.1.2,(-1000000000),1000000000,())) λc=>Z c) (ak (af b.2.1.1 2) (aj (F104 n (b.2.1.2,0,1,()))
 λc=>Z c) (ak (af b.2.1.1 4) (aj (F104 n (b.2.1.2,0,29,())) λc=>Z c) (ak (af b.2.1.1 5) (aj (F104 n (b.2.1.2,0,bn .i64
 (au b.1.3) 1,())) λc=>Z c) (aj (ak (af b.2.1.1 6) (Z (N (W,()))) (aj (ak (af b.2.1.1 11) (Z (N (W,())))
 (aj (ak (af b.2.1.1 12) (Z (N (W,()))) (aj (ak (af b.2.1.1 31) (Z (N (W,()))) (Z (N (af b.2.1.1 32,
 ())))) (I7 n))) (I7 n))) (I7 n))) λ(c:oZ)=>cJ c (λd=>ak d.1 (aj (F104 n (b.2.1.2,0,bn .i64 (au b.1.1) 1,()))
 λe=>Z e) (ak (af b.2.1.1 10) (aj (F104 n (b.2.1.2,1,30,())) λe=>Z e) (ak (af b.2.1.1 18) (aj (F104 n (b.2.1.2,0,bn .i64
 (au b.1.5) 1,())) λe=>Z e) (ak (af b.2.1.1 19) (aj (F104 n (b.2.1.2,0,bn .i64 (au b.1.2) 1,())) λe=>ak e.1.1 (aj (F104
 n (b.2.1.3,0,bn .i64 (au b.1.1) 1,())) λg=>Z g) (Z ((J,()),()))) (ak (af b.2.1.1 29) (aj (F104 n (b.2.1.2,0,3,()))
 λe=>Z e) (aj (F104 n (b.2.1.1,1,34,())) λe=>ak e.1.1 (Z ((af b.2.1.2 0,()),())) (Z ((J,()),())))))))) (λ_ _=>
 Y) (λ_ e=>Z (e,())) λ_ _=>Y))))
def F107:Nat->Y28->O Y4:=
 λn b=>ak (av (af b.2.1.1 19)) (ak (av (af b.2.1.3 0)) (Z ((J,()),())) (NH n b)) (NH n b)
def arE:OC:=dm [aln n] [(107,1000014,lS [(43,dM)]),(107,1000015,lS [(43,dM)]),(107,1000016,lS [(43,dM)]),(107,1000017,lS [(43,dM)])] n 107 P12 K4 J (F107 n)
def Lw(n:Nat):O Y4:=
 Z ((J,()),())
def F50:anX:=
 λn b=>aj (F104 n (au b.1.1,1,1500,())) λc=>ak (av c.1.1) (Lw n) (ak (aG 100 (au b.1.2)) (Lw n) (aj (F105 n (b.1.5,
 ())) λd=>ak (av d.1.1) (Lw n) (aj (F104 n (au b.1.3,1,300,())) λe=>ak (av e.1.1) (Lw n) (aj (F104 n (b.1.4,0,bn .i64
 (au b.1.3) 1,())) λg=>ak (av g.1.1) (Lw n) (aj (bw (Int×U) (aa×U) (U) (λh=>ak (aG h.1 (au b.1.2))
 (aS (aM h.1 b.1.2) (aj (F94 n (bE b.1.2 (aC h.1) aR,12,())) λi=>ak (aG i.1.1 0) (Z (X () (J,()))) (aS (aM h.1
 b.1.2) (aj (F106 n (bE b.1.2 (aC h.1) aR,b.1.5,())) λj=>ak (av j.1.1) (Z (X () (J,()))) (Z (N (aJ .i64
 h.1 1,()))))))) (Z (H 0 h))) n (0,())) λh=>bU h (λ_ _=>aj (bw (Int×U) (aa×U) (U) (λk=>ak (aG
 k.1 (au b.1.3)) (aS (aM k.1 b.1.3) (aj (F104 n (bE b.1.3 (aC k.1) 0,0,bn .i64 (au b.1.1) 1,())) λl=>ak (av l.1.1) (Z
 (X () (J,()))) (Z (N (aJ .i64 k.1 1,()))))) (Z (H 0 k))) n (0,())) λk=>bU k (λ_ _=>aj (bw (Int×U) (aa×U) (U) (λo=>ak (aG o.1 (au b.1.1)) (aS (aM o.1 b.1.1) (aj (F107 n (b.1,bE b.1.1 (aC o.1) cg,())) λp=>
 ak (av p.1.1) (Z (X () (J,()))) (Z (N (aJ .i64 o.1 1,()))))) (Z (H 0 o))) n (0,())) λo=>bU o (λ_ _
 =>Z ((W,()),())) (λ_ q=>Z (q,())) λ_ _=>Y) (λ_ m=>Z (m,())) λ_ _=>Y) (λ_ j=>Z (j,())) λ_ _=>
 Y)))))
def k50:OC:=dm [k94 n,aln n,arG n,arF n,arE n] [(50,0,lS [(3,dA)]),(50,2,lS [(4,dA)]),(50,4,lS [(5,dA)])] n 50 P5 K4 J (F50 n)
def F108:Y43:=
 λn b=>Z ((ax.mk W b.1 b.2.1,()),())
def alm:OC:=dm [] [] n 108 P14 K15 J (F108 n)
def AA(n:Nat):Ye->O Ye:=
 λc=>cJ c (λd=>Z (N d)) (λ_ _=>Y) (λ_ e=>Z (X () e)) λ_ _=>Y
def xU(n:Nat):Ye->O Ye:=
 λe=>cJ e (λg=>Z (N g)) (λ_ _=>Y) (λ_ h=>Z (X () h)) λ_ _=>Y
def F160:Nat->Y28->IN:=
 λn b=>aj (ak (af b.2.1.1 7) (Z (N (W,()))) (aj (ak (af b.2.1.1 13) (Z (N (W,()))) (aj (ak (af b.2.1.1 14)
 (Z (N (W,()))) (aj (ak (af b.2.1.1 15) (Z (N (W,()))) (aj (ak (af b.2.1.1 16) (Z (N (W,()))) (aj (ak
 (af b.2.1.1 17) (Z (N (W,()))) (aj (ak (af b.2.1.1 23) (Z (N (W,()))) (Z (N (af b.2.1.1 27,()))))
 (AA n))) (AA n))) (AA n))) (AA n))) (AA n))) (AA n))) λ(c:Ye)=>cJ c (λd=>ak d.1 (Z ((2,()),())) (aj (ak
 (af b.2.1.1 9) (Z (N (W,()))) (aj (ak (af b.2.1.1 12) (Z (N (W,()))) (aj (ak (af b.2.1.1 19) (Z (N
 (W,()))) (aj (ak (af b.2.1.1 21) (Z (N (W,()))) (aj (ak (af b.2.1.1 22) (Z (N (W,()))) (aj (ak (af b.2.1.1
 24) (Z (N (W,()))) (aj (ak (af b.2.1.1 25) (Z (N (W,()))) (aj (ak (af b.2.1.1 28) (Z (N (W,()))) (Z
 (N (af b.2.1.1 29,())))) (xU n))) (xU n))) (xU n))) (xU n))) (xU n))) (xU n))) (xU n))) λ(e:Ye)=>cJ e
 (λg=>ak g.1 (Z ((1,()),())) (ak (af b.2.1.1 18) (aS (aM b.2.1.2 b.1.5) (Z (((bE b.1.5 (aC b.2.1.2) br).2,()),()))) (ak
 (af b.2.1.1 8) (Z (((-3),()),())) (ak (af b.2.1.1 34) (Z (((-2),()),())) (Z ((0,()),())))))) (λ_ _=>Y) (λ_ h=>Z
 (h,())) λ_ _=>Y)) (λ_ _=>Y) (λ_ e=>Z (e,())) λ_ _=>Y
def arn:OC:=dm [] [(160,1000003,lS [(7,dM)]),(160,1000004,lS [(7,dM)]),(160,1000005,lS [(7,dM)]),(160,1000006,lS [(7,dM)]),(160,1000007,lS [(7,dM)]),(160,1000008,lS [(7,dM)]),(160,1000009,lS [(7,dM)]),(160,1000012,lS [(16,dM)]),(160,1000013,lS [(16,dM)]),(160,1000014,lS [(16,dM)]),(160,1000015,lS [(16,dM)]),(160,1000016,lS [(16,dM)]),(160,1000017,lS [(16,dM)]),(160,1000018,lS [(16,dM)]),(160,1000019,lS [(16,dM)])] n 160 P12 K2 J (F160 n)
def F161:Y5:=
 λn b=>ak (af b.1 8) (Z ((W,()),())) (ak (af b.1 20) (Z ((W,()),())) (Z ((af b.1 34,()),())))
def arl:OC:=dm [] [] n 161 P26 K4 J (F161 n)
def DL(n:Nat):O Y4:=
 Z ((J,()),())
def F162:Y5:=
 λn b=>ak (af b.1 9) (DL n) (ak (af b.1 10) (DL n) (ak (af b.1 11) (DL n) (ak (af b.1 12) (DL n) (ak (af b.1
 19) (DL n) (Z ((W,()),()))))))
def ark:OC:=dm [] [] n 162 P26 K4 J (F162 n)
def iu(b:Tx):bT:=
 bE b.1.1 (aC b.2.1) cg
def pN(n:Nat)(b:Tx):VF->abF:=
 λi=>Z (([bz.mk (aJ .i64 b.2.1 1) i.1.1],W,()),())
def r7(n:Nat)(b:Tx)(h:Int×aa×U):O VF:=
 F108 n (h.1,b.2.2.1.3,())
def vS(n:Nat)(b:Tx)(i:VF):VF->abF:=
 λj=>Z (([bz.mk (aJ .i64 b.2.1 1) i.1.1,bz.mk (iu b).2 j.1.1],W,()),())
def nF(n:Nat)(b:Tx)(c:(Int×U)×U):abF:=
 aj (F161 n ((iu b).1,())) λd=>ak d.1.1 (Z (([],W,()),())) (aj (F162 n ((iu b).1,())) λe=>aj (ak e.1.1 (Z (N
 (aJ .i64 (bn .i64 b.2.2.1.2 c.1.1) 1,W,()))) (Z (N (bn .i64 b.2.2.1.2 c.1.1,J,())))) λ(g:LO (Int×aa×U)
 (abG×aa×U) U Any)=>cJ g (λh=>ak (af (iu b).1 9) (aj (F108 n (h.1,aJ .i64 b.2.2.1.3 1,())) (pN n b)) (ak
 (af (iu b).1 10) (aj (F108 n (h.1,bn .i64 b.2.2.1.3 (iu b).2,())) (pN n b)) (ak (af (iu b).1 11) (Z
 (([bz.mk (iu b).2 b.2.2.1],W,()),())) (ak (af (iu b).1 12) (aj (r7 n b h) λi=>aj (r7 n b h) (vS n b
 i)) (ak (af (iu b).1 19) (aS (aM (iu b).2 b.1.2) (aj (F163 n (bE b.1.2 (aC (iu b).2) aR,())) λi=>aj (F108 n (h.1,
 aJ .i64 b.2.2.1.3 i.1.1,())) λj=>Z (([bz.mk (aJ .i64 b.2.1 1) j.1.1,bz.mk (iu b).3 b.2.2.1],W,()),
 ()))) (aj (ak (af (iu b).1 6) (Z (N (W,()))) (Z (N (af (iu b).1 32,())))) λ(i:LO (aa×U) (abG×aa
 ×U) U Any)=>cJ i (λj=>ak j.1 (aj (r7 n b h) λk=>aj (F108 n (0,aJ .i64 b.2.2.1.3 1,())) (vS n b k)) (ak (af
 (iu b).1 31) (aj (r7 n b h) λk=>aj (F108 n (0,b.2.2.1.3,())) (vS n b k)) (aj (r7 n b h) (pN n b)))) (λ_ _=>Y)
 (λ_ k=>Z (k,())) λ_ _=>Y)))))) (λ_ _=>Y) (λ_ i=>Z (i,())) λ_ _=>Y)
def DO(n:Nat)(b:Tx)(c:(Int×U)×U):abF:=
 ak (af (iu b).1 10) (ak (aG b.2.2.1.3 (iu b).2) (Z (([],J,()),())) (nF n b c)) (nF n b c)
def F109:Nat->Tx->abF:=
 λn b=>aS (aM b.2.1 b.1.1) (aj (F160 n (b.1,iu b,())) λc=>ak (aG c.1.1 0) (Z (([],af b.2.2.1.2 (bn .i64 (-1) c.1.1),
 ()),())) (ak (aG b.2.2.1.2 c.1.1) (Z (([],J,()),())) (ak (af (iu b).1 4) (ak (bB b.2.2.1.3 (iu b).2) (Z (([],J,
 ()),())) (DO n b c)) (DO n b c))))
def arD:OC:=dm [alm n,arn n,arl n,ark n,arj n] [(109,1000011,lS [(10,dA),(63,dM)]),(109,1000024,lS [(138,dM)])] n 109 avj K119 J (F109 n)
def nO(n:Nat):anu:=
 Z (X () ([],J,()))
def wg(g:abB):aa:=
 aM (bE g.2.1 (aC g.2.2.1) bh).1 g.1
def jD(g:abB):Nat:=
 aC (bE g.2.1 (aC g.2.2.1) bh).1
def Cn(n:Nat)(b:aB×U)(g:abB):anu:=
 aS (wg g) (aS (ei (jD g) g.1) (ak (bE g.1 (jD g) aW).1 (Z (N (g.1,g.2.1,aJ .i64 g.2.2.1 1,()))) (aS (wg g)
 (aS (ei (jD g) g.1) (aj (F109 n (b.1,(bE g.2.1 (aC g.2.2.1) bh).1,(bE g.2.1 (aC g.2.2.1) bh).2,())) λh
 =>ak (av h.1.2.1) (nO n) (aS (dI g.2.1 h.1.1) (Z (N (lM g.1 (jD g) (bE g.2.1 (aC g.2.2.1) bh).2,dx g.2.1
 h.1.1,aJ .i64 g.2.2.1 1,())))))))))
def F51:Nat->aB×U->O (afe×U):=
 λn b=>aS (oe (Ss (au b.1.1)) (fZ (au b.1.1) (au b.1.1))) (aj (bw (abG×Int×U) (afe) (U) (λc=>ak (aG c.2.1
 (au b.1.3)) (aS (aM c.2.1 b.1.3) (aj (F108 n (0,1,())) λd=>aS (dI c.1 [bz.mk (bE b.1.3 (aC c.2.1) 0) d.1.1]) (Z
 (N (dx c.1 [bz.mk (bE b.1.3 (aC c.2.1) 0) d.1.1],aJ .i64 c.2.1 1,()))))) (Z (H 0 c))) n ([],0,())) λc=>
 bU c (λ_ e=>aj (bw (abB) (afe) (U) (λg=>ak (aG g.2.2.1 (au g.2.1)) (aS (aM g.2.2.1 g.2.1) (aS (ei (aC
 g.2.2.1) g.2.1) (aS (aM g.2.2.1 g.2.1) (aS (ei (aC g.2.2.1) g.2.1) (ak (bB (au b.1.1) (bE g.2.1 (aC g.2.2.1) bh).1)
 (nO n) (ak (aG 60 (bE g.2.1 (aC g.2.2.1) bh).2.2) (nO n) (ak (aG 30 (bE g.2.1 (aC g.2.2.1) bh).2.3)
 (nO n) (aS (wg g) (aS (ei (jD g) g.1) (ak (bE g.1 (jD g) aW).1 (aS (wg g) (aS (ei (jD g) g.1) (ak (av (bR
 (pZ (bE g.1 (jD g) aW).1 (bE g.2.1 (aC g.2.2.1) bh).2.1) (bR (af (bE g.1 (jD g) aW).2 (bE g.2.1
 (aC g.2.2.1) bh).2.2) (bR (af (bE g.1 (jD g) aW).3 (bE g.2.1 (aC g.2.2.1) bh).2.3) W))))
 (nO n) (Cn n b g)))) (Cn n b g))))))))))) (Z (H 0 g))) n (agY (aC (au b.1.1)) aW,e.1,0,())) λg=>bU g (λ_ i
 =>Z ((i.1,W,()),())) (λ_ i=>Z (i,())) λ_ _=>Y) (λ_ e=>Z (e,())) λ_ _=>Y)
def k51:OC:=dm [alm n,arD n] [(51,0,lS [(5,.one (.own (.st 26))),(6,dA)]),(51,2,lS [(4,.one (.own (.st 9))),(5,.one (.own (.st 26))),(7,dA)])] n 51 P5 K120 J (F51 n)
def F14:Nat->aB×U->Y35:=
 λn b=>aj (F50 n b) λc=>ak (av c.1.1) (Z ((lQ,J,()),())) (aj (F51 n b) λd=>Z ((bJ.mk
 b.1 d.1.1,d.1.2),()))
def k14:OC:=dm [k50 n,k51 n] [] n 14 P5 K121 J (F14 n)
end
end
section
variable (n:Nat)
open Go TL
noncomputable section
set_option maxRecDepth 100000
set_option maxHeartbeats 0
def F52:Y41:=
 λn b=>ak (bB b.2.1 b.1) (Z ((bB b.1 b.2.2.1,()),())) (Z ((J,()),()))
def k52:OC:=dm [] [] n 52 P6 K4 J (F52 n)
def F15:ant:=
 λn b=>aj (bw (Int×U) (aa×U) (U) (λc=>ak (aG c.1 (au b.1)) (ak (bB c.1 b.2.1) (aS (aM c.1 b.1) (aj (F52
 n (bE b.1 (aC c.1) 0,(-1000000000),1000000000,())) λd=>ak (av d.1.1) (Z (X () (J,()))) (Z (N (aJ .i64 c.1 1,
 ()))))) (Z (H 0 c))) (Z (H 0 c))) n (0,())) λc=>bU c (λ_ _=>Z ((bB (au b.1) b.2.1,()),())) (λ_ e=>Z (e,
 ())) λ_ _=>Y
def k15:OC:=dm [k52 n] [(15,0,lS [(5,dA)])] n 15 an9 K4 J (F15 n)
def F35:Nat->L Int×L Int×U->O Y4:=
 λn b=>ak (av (af (au b.1) (au b.2.1))) (Z ((J,()),())) (aj (bw (Int×U) (aa×U) (U) (λc=>ak
 (aG c.1 (au b.1)) (aS (aM c.1 b.1) (aS (aM c.1 b.2.1) (ak (av (af (bE b.1 (aC c.1) 0) (bE b.2.1 (aC c.1) 0))) (Z (X ()
 (J,()))) (Z (N (aJ .i64 c.1 1,())))))) (Z (H 0 c))) n (0,())) λc=>bU c (λ_ _=>Z ((W,()),())) (λ_ e
 =>Z (e,())) λ_ _=>Y)
def k35:OC:=dm [] [(35,0,lS [(5,dA)])] n 35 avi K4 J (F35 n)
def F54:Nat->L ec×L ec×U->O Y4:=
 λn b=>ak (av (af (au b.1) (au b.2.1))) (Z ((J,()),())) (aj (bw (Int×U) (aa×U) (U) (λc=>ak
 (aG c.1 (au b.1)) (aS (aM c.1 b.1) (aS (aM c.1 b.2.1) (ak (av (bR (af (bE b.1 (aC c.1) kM).1 (bE b.2.1 (aC c.1)
 kM).1) (bR (af (bE b.1 (aC c.1) kM).2 (bE b.2.1 (aC c.1) kM).2) W))) (Z (X () (J,()))) (Z (N
 (aJ .i64 c.1 1,())))))) (Z (H 0 c))) n (0,())) λc=>bU c (λ_ _=>Z ((W,()),())) (λ_ e=>Z (e,())) λ_ _=>
 Y)
def k54:OC:=dm [] [(54,0,lS [(5,dA)])] n 54 avh K4 J (F54 n)
def F110:Nat->L aA×L aA×U->O Y4:=
 λn b=>ak (av (af (au b.1) (au b.2.1))) (Z ((J,()),())) (aj (bw (Int×U) (aa×U) (U) (λc=>ak
 (aG c.1 (au b.1)) (aS (aM c.1 b.1) (aS (aM c.1 b.2.1) (ak (av (bR (af (bE b.1 (aC c.1) bA).1 (bE b.2.1 (aC c.1)
 bA).1) (bR (af (bE b.1 (aC c.1) bA).2 (bE b.2.1 (aC c.1) bA).2) W))) (Z (X () (J,()))) (Z (N
 (aJ .i64 c.1 1,())))))) (Z (H 0 c))) n (0,())) λc=>bU c (λ_ _=>Z ((W,()),())) (λ_ e=>Z (e,())) λ_ _=>
 Y)
def arC:OC:=dm [] [(110,0,lS [(5,dA)])] n 110 avg K4 J (F110 n)
def Ri(b:ai4)(d:Int×U):aq:=
 bE b.1.4 (aC d.1) aT
def Rh(b:ai4)(d:Int×U):aq:=
 bE b.2.1.4 (aC d.1) aT
def F55:aut:=
 λn b=>ak (av (af b.1.1 b.2.1.1)) (Z ((J,()),())) (ak (av (af b.1.2 b.2.1.2)) (Z ((J,()),())) (aj (F110 n
 (b.1.3,b.2.1.3,())) λc=>ak (av c.1.1) (Z ((J,()),())) (ak (av (af (au b.1.4) (au b.2.1.4))) (Z ((J,()),()))
 (aj (bw (Int×U) (aa×U) (U) (λd=>ak (aG d.1 (au b.1.4)) (aS (aM d.1 b.1.4) (aS (aM d.1 b.2.1.4) (ak (av
 (af (Ri b d).1 (Rh b d).1)) (Z (X () (J,()))) (ak (av (pZ (Ri b d).4 (Rh b d).4)) (Z (X () (J,())))
 (aj (F110 n ((Ri b d).2,(Rh b d).2,())) λe=>ak (av e.1.1) (Z (X () (J,()))) (aj (F110 n ((Ri b d).3,(Rh b d).3,
 ())) λg=>ak (av g.1.1) (Z (X () (J,()))) (Z (N (aJ .i64 d.1 1,()))))))))) (Z (H 0 d))) n (0,())) λd=>
 bU d (λ_ _=>Z ((W,()),())) (λ_ g=>Z (g,())) λ_ _=>Y))))
def k55:OC:=dm [arC n] [(55,0,lS [(5,dA)])] n 55 avf K4 J (F55 n)
def Rk(n:Nat):O Y4:=
 Z ((J,()),())
def F18:Y25:=
 λn b=>ak (av (af (au b.1.1) (au b.2.1.1))) (Rk n) (aj (F35 n (b.1.2,b.2.1.2,())) λc=>ak (av c.1.1) (Rk n) (aj (F54
 n (b.1.3,b.2.1.3,())) λd=>ak (av d.1.1) (Rk n) (aj (F35 n (b.1.4,b.2.1.4,())) λe=>ak (av e.1.1) (Rk n) (ak (av
 (af b.1.5 b.2.1.5)) (Rk n) (aj (bw (Int×U) (aa×U) (U) (λg=>ak (aG g.1 (au b.1.1)) (aS (aM g.1 b.1.1) (aS
 (aM g.1 b.2.1.1) (aj (F55 n (bE b.1.1 (aC g.1) bD,bE b.2.1.1 (aC g.1) bD,())) λh=>ak (av h.1.1) (Z (X () (J,
 ()))) (Z (N (aJ .i64 g.1 1,())))))) (Z (H 0 g))) n (0,())) λg=>bU g (λ_ _=>Z ((W,()),())) (λ_ i=>Z
 (i,())) λ_ _=>Y)))))
def Z0:OC:=dm [k35 n,k54 n,k55 n] [(18,0,lS [(5,dA)])] n 18 ave K4 J (F18 n)
def F16:ai7:=
 λn b=>aj (F18 n (b.1,cX,())) λc=>Z c
def k16:OC:=dm [Z0 n] [] n 16 ajb K4 J (F16 n)
def EV(n:Nat):Ye->O Ye:=
 λc=>cJ c (λd=>Z (N d)) (λ_ _=>Y) (λ_ e=>Z (X () e)) λ_ _=>Y
def Cm(n:Nat):Ye->O Ye:=
 λe=>cJ e (λg=>Z (N g)) (λ_ _=>Y) (λ_ h=>Z (X () h)) λ_ _=>Y
def F69:Nat->bJ×bT×U->IN:=
 λn b=>aj (ak (af b.2.1.1 7) (Z (N (W,()))) (aj (ak (af b.2.1.1 8) (Z (N (W,()))) (aj (ak (af b.2.1.1 13)
 (Z (N (W,()))) (aj (ak (af b.2.1.1 14) (Z (N (W,()))) (aj (ak (af b.2.1.1 15) (Z (N (W,()))) (aj (ak
 (af b.2.1.1 16) (Z (N (W,()))) (aj (ak (af b.2.1.1 17) (Z (N (W,()))) (aj (ak (af b.2.1.1 23) (Z (N
 (W,()))) (Z (N (af b.2.1.1 27,())))) (EV n))) (EV n))) (EV n))) (EV n))) (EV n))) (EV n))) (EV n))) λ(c:Ye)
 =>cJ c (λd=>ak d.1 (Z ((2,()),())) (aj (ak (af b.2.1.1 9) (Z (N (W,()))) (aj (ak (af b.2.1.1 12) (Z (N
 (W,()))) (aj (ak (af b.2.1.1 19) (Z (N (W,()))) (aj (ak (af b.2.1.1 21) (Z (N (W,()))) (aj (ak (af b.2.1.1
 22) (Z (N (W,()))) (aj (ak (af b.2.1.1 24) (Z (N (W,()))) (aj (ak (af b.2.1.1 25) (Z (N (W,()))) (aj
 (ak (af b.2.1.1 28) (Z (N (W,()))) (aj (ak (af b.2.1.1 29) (Z (N (W,()))) (Z (N (af b.2.1.1 34,()))))
 (Cm n))) (Cm n))) (Cm n))) (Cm n))) (Cm n))) (Cm n))) (Cm n))) (Cm n))) λ(e:Ye)=>cJ e (λg=>ak g.1 (Z ((1,
 ()),())) (ak (af b.2.1.1 18) (aS (aM b.2.1.2 b.1.1.5) (Z (((bE b.1.1.5 (aC b.2.1.2) br).2,()),()))) (Z ((0,()),())))) (λ_
 _=>Y) (λ_ h=>Z (h,())) λ_ _=>Y)) (λ_ _=>Y) (λ_ e=>Z (e,())) λ_ _=>Y
def k69:OC:=dm [] [(69,1000003,lS [(7,dM)]),(69,1000004,lS [(7,dM)]),(69,1000005,lS [(7,dM)]),(69,1000006,lS [(7,dM)]),(69,1000007,lS [(7,dM)]),(69,1000008,lS [(7,dM)]),(69,1000009,lS [(7,dM)]),(69,1000010,lS [(7,dM)]),(69,1000013,lS [(17,dM)]),(69,1000014,lS [(17,dM)]),(69,1000015,lS [(17,dM)]),(69,1000016,lS [(17,dM)]),(69,1000017,lS [(17,dM)]),(69,1000018,lS [(17,dM)]),(69,1000019,lS [(17,dM)]),(69,1000020,lS [(17,dM)]),(69,1000021,lS [(17,dM)])] n 69 avd K2 J (F69 n)
def F70:Nat->L aq×aq×U->O (Yf×U):=
 λn b=>aS (dI b.1 [b.2.1]) (Z ((dx b.1 [b.2.1],()),()))
def k70:OC:=dm [] [] n 70 avc K40 J (F70 n)
def F79:Nat->anB->O Y2:=
 λn b=>aS (aM b.2.1 b.1.2) (aS (aM (bE b.1.2 (aC b.2.1) 0) b.1.1) (aS (ei (aC (bE b.1.2 (aC b.2.1) 0)) b.1.1) (Z
 ((bq.mk (ai.mk (lM b.1.1 (aC (bE b.1.2 (aC b.2.1) 0)) (bG.mk 6 b.2.2.1 [] [])) b.1.2 b.1.3 b.1.4 b.1.5) 1 (aE.mk
 b.2.1 0 b.2.2.1 bA),()),()))))
def ZX:OC:=dm [] [] n 79 avb K132 J (F79 n)
def F71:Nat->ai×Int×L aq×U->O Y2:=
 λn b=>ak (aG 40 (au b.2.2.1)) (aj (F79 n (b.1,b.2.1,4,())) λc=>Z c) (aS (aM b.2.1 b.1.2) (aS (aM (bE b.1.2 (aC b.2.1)
 0) b.1.1) (aS (ei (aC (bE b.1.2 (aC b.2.1) 0)) b.1.1) (Z ((bq.mk (ai.mk (lM b.1.1 (aC (bE b.1.2 (aC b.2.1) 0))
 (bG.mk 6 0 [] b.2.2.1)) b.1.2 b.1.3 b.1.4 b.1.5) 0 bP,()),())))))
def k71:OC:=dm [ZX n] [] n 71 ava K132 J (F71 n)
def F124:Nat->L aA×aA×U->O Y57:=
 λn b=>aS (dI b.1 [b.2.1]) (Z ((dx b.1 [b.2.1],()),()))
def Z1:OC:=dm [] [] n 124 au9 K135 J (F124 n)
def Rc(b:anK):aq:=
 bE b.1 (aC (bn .i64 (au b.1) 1)) aT
def F72:Nat->anK->O (Yf×U):=
 λn b=>aS (aM (bn .i64 (au b.1) 1) b.1) (aS (ei (aC (bn .i64 (au b.1) 1)) b.1) (aj (F124 n ((Rc b).3,b.2)) λc=>aS
 (aM (bn .i64 (au b.1) 1) b.1) (aS (ei (aC (bn .i64 (au b.1) 1)) b.1) (Z ((lM b.1 (aC (bn .i64 (au b.1) 1)) (aq.mk
 (Rc b).1 (Rc b).2 c.1.1 (Rc b).4),()),())))))
def k72:OC:=dm [Z1 n] [] n 72 au8 K40 J (F72 n)
def F73:Y66:=
 λn b=>ak b.1 (Z ((aA.mk 2 1,()),())) (Z ((aA.mk 2 0,()),()))
def k73:OC:=dm [] [] n 73 P27 K20 J (F73 n)
def F74:anP:=
 λn _=>Z ((aA.mk 3 0,()),())
def k74:OC:=dm [] [] n 74 [] K20 J (F74 n)
def F126:Y92:=
 λn b=>Z ((aA.mk 5 b.1,()),())
def ad1:OC:=dm [] [] n 126 P26 K20 J (F126 n)
def F75:Nat->ai×Int×L aq×bG×U->O Y2:=
 λn b=>ak (bB 120 (au b.1.1)) (aj (F79 n (b.1,b.2.1,4,())) λc=>Z c) (aS (dI b.1.1 [b.2.2.2.1]) (aj (F126 n (bn .i64 (au
 (dx b.1.1 [b.2.2.2.1])) 1,())) λc=>aj (F72 n (b.2.2.1,c.1)) λd=>aj (F71 n (ai.mk (dx b.1.1 [b.2.2.2.1]) b.1.2 b.1.3 b.1.4
 b.1.5,b.2.1,d.1)) λe=>Z e))
def k75:OC:=dm [k71 n,k72 n,ZX n,ad1 n] [] n 75 au7 K132 J (F75 n)
def F127:Nat->ai×aA×Int×U->O (anw×U):=
 λn b=>ak (av (af b.2.1.1 5)) (Z ((bD,J,()),())) (aS (aM b.2.1.2 b.1.1) (ak (av (af (bE b.1.1 (aC b.2.1.2)
 bD).1 b.2.2.1)) (Z ((bD,J,()),())) (aS (aM b.2.1.2 b.1.1) (Z ((bE b.1.1 (aC b.2.1.2) bD,W,()),())))))
def SC:OC:=dm [] [] n 127 au6 K33 J (F127 n)
def F128:Nat->bJ×ai×aA×aA×U->O (Y74×U):=
 λn b=>ak (af b.2.2.1.1 4) (aS (aM b.2.2.1.2 b.1.1.3) (Z ((aq.mk (bE b.1.1.3 (aC b.2.2.1.2) 0) [b.2.2.2.1] [] J,W,()),
 ()))) (aj (F127 n (b.2.1,b.2.2.1,2,())) λc=>ak (av c.1.2.1) (Z ((aT,J,()),())) (aj (F124 n (c.1.1.3,b.2.2.2)) λd=>
 Z ((aq.mk c.1.1.2 d.1.1 [] J,W,()),())))
def ali:OC:=dm [Z1 n,SC n] [] n 128 au5 K35 J (F128 n)
def F76:Nat->bJ×ai×Int×L aq×aA×aA×aa×U->O Y2:=
 λn b=>aj (F127 n (b.2.1,b.2.2.2.2.1,5,())) λc=>ak c.1.2.1 (aS (dI b.2.2.2.1 c.1.1.4) (aj (F72 n (dx b.2.2.2.1 c.1.1.4,
 b.2.2.2.2.2.1,())) λd=>aj (F71 n (b.2.1,b.2.2.1,d.1)) λe=>Z e)) (aj (F128 n (b.1,b.2.1,b.2.2.2.2.1,b.2.2.2.2.2.1,())) λd=>
 ak (av d.1.2.1) (aj (F79 n (b.2.1,b.2.2.1,2,())) λe=>Z e) (aj (F70 n (b.2.2.2.1,aq.mk d.1.1.1 d.1.1.2 d.1.1.3 b.2.2.2.2.2.2.1,
 ())) λe=>aj (F71 n (b.2.1,b.2.2.1,e.1)) λg=>Z g))
def k76:OC:=dm [k70 n,k71 n,k72 n,ZX n,SC n,ali n] [] n 76 au3 K132 J (F76 n)
abbrev Zd(F:Fn XW K44 J):lT sg:=⟨XW,K44,J,F⟩
def DT(n:Nat)(f129:afd->afb)(c:afd):Y46->afb:=
 λd=>Z (([],bR (af c.2.2.1.1 d.1.1.1) (bR (af c.2.2.1.2 d.1.1.2) W),()),())
def B129:Nat->(afd->afb)->afd->afb:=
 λn f129 c=>ak (af c.2.1.1 1) (Z (([],W,()),())) (ak (af c.2.1.1 2) (Z (([c.2.2.1],W,()),())) (ak (af c.2.1.1 3) (aj
 (F43 n (c.2.1.2,())) (DT n f129 c)) (ak (af c.2.1.1 4) (aj (F73 n (af c.2.1.2 1,())) (DT n f129 c)) (ak (af c.2.1.1 5) (aj (F74
 n ()) (DT n f129 c)) (aj (F127 n (c.1,c.2.2.1,1,())) λd=>ak (av d.1.2.1) (Z (([],J,()),())) (ak (av (af d.1.1.2
 c.2.1.2)) (Z (([],J,()),())) (ak (av (af (au d.1.1.3) (au c.2.1.4))) (Z (([],J,()),())) (aj (bw (Y58) (afc) (U) (λe=>ak (aG e.2.1 (au c.2.1.4)) (aS (aM e.2.1 c.2.1.4) (aS (aM e.2.1 d.1.1.3) (aj (f129 (c.1,bE c.2.1.4 (aC e.2.1)
 aR,bE d.1.1.3 (aC e.2.1) bA,())) λg=>ak (av g.1.2.1) (Z (X () ([],J,()))) (aS (dI e.1 g.1.1) (Z (N
 (dx e.1 g.1.1,aJ .i64 e.2.1 1,()))))))) (Z (H 0 e))) n ([],0,())) λe=>bU e (λ_ h=>Z ((h.1,W,()),())) (λ_ h=>
 Z (h,())) λ_ _=>Y))))))))
def D129(n:Nat)(f129:Fn XW K44 J)(a:bN prog 129 (Zd f129)):bN prog 129 (Zd (B129 n f129)):=wE [k43 n,k73 n,k74 n,SC n,⟨129,Zd f129,a⟩] [(129,1,⟨[(10,.one (.own (.st 4))),(11,dA)],[],[],0⟩)] n 10 129
def R129(n k:Nat):(Fn XW K44 J):=Nat.rec (motive:=λ_=>(Fn XW K44 J)) (λ_=>Y) (λ_ r=>B129 n r) k
def F129(n:Nat):Fn XW K44 J:=(R129 n n)
def agI(n:Nat):∀k,bN prog 129 (Zd (R129 n k))
 |0=>cG (enters 129 (by kernel_rfl))
 |k+1=>have a:=agI n k
  D129 n _ a
def ary(n:Nat):OC:=⟨129,Zd (F129 n),(agI n n)⟩
def Lu(b:JO):Int:=
 bn .i64 (au b.2.2.2.1) 1
def EU(b:JO):aa:=
 aM 0 b.2.2.2.2.2.1
def jU(b:JO):aq:=
 bE b.2.2.2.1 (aC (Lu b)) aT
def Rb(b:JO):aA×U:=
 (bE b.2.2.2.2.2.1 (aC 0) bA,())
def ET(b:JO):aa:=
 eF 0 (Lu b) (au b.2.2.2.1)
def ES(b:JO):L aq:=
 cO b.2.2.2.1 0 (Lu b)
def xQ(n:Nat)(b:JO):Y45:=
 λd=>aj (F71 n (b.2.1,b.2.2.1,d.1)) λe=>Z e
def VL(n:Nat)(b:JO):O Y2:=
 aS (ET b) (aj (F70 n (ES b,aq.mk b.2.2.2.2.1.2 (jU b).2 (jU b).3 (jU b).4,())) (xQ n b))
def abY(n:Nat)(b:JO):O Y2:=
 aS (ET b) (aj (F70 n (ES b,jU b,())) (xQ n b))
def F77:Nat->JO->O Y2:=
 λn b=>aS (aM (Lu b) b.2.2.2.1) (ak (af b.2.2.2.2.1.1 9) (aS (EU b) (aj (F124 n ((jU b).2,Rb b)) λc=>aS (ET b) (aj
 (F70 n (ES b,aq.mk (jU b).1 c.1.1 (jU b).3 (jU b).4,())) (xQ n b)))) (ak (af b.2.2.2.2.1.1 10) (aS (eF 0 (bn .i64
 (au (jU b).2) b.2.2.2.2.1.2) (au (jU b).2)) (aS (ET b) (aj (F70 n (ES b,aq.mk (jU b).1 (cO (jU b).2 0 (bn .i64
 (au (jU b).2) b.2.2.2.2.1.2)) (jU b).3 (jU b).4,())) (xQ n b)))) (ak (af b.2.2.2.2.1.1 11) (VL n b) (ak (af b.2.2.2.2.1.1 12)
 (aS (EU b) (ak (av (af (bE b.2.2.2.2.2.1 (aC 0) bA).1 2)) (aj (F79 n (b.2.1,b.2.2.1,2,())) λc=>Z c) (aS (EU b)
 (ak (af (bE b.2.2.2.2.2.1 (aC 0) bA).2 0) (VL n b) (abY n b))))) (ak (af b.2.2.2.2.1.1 19) (aS (aM b.2.2.2.2.1.2 b.1.1.2) (aS
 (EU b) (aj (F129 n (b.2.1,bE b.1.1.2 (aC b.2.2.2.2.1.2) aR,Rb b)) λc=>ak c.1.2.1 (aS (dI (jU b).2 c.1.1) (aS (ET b)
 (aj (F70 n (ES b,aq.mk (jU b).1 (dx (jU b).2 c.1.1) (jU b).3 (jU b).4,())) (xQ n b)))) (aS (EU b) (aj (F124 n ((jU
 b).3,Rb b)) λd=>aS (ET b) (aj (F70 n (ES b,aq.mk b.2.2.2.2.1.3 (jU b).2 d.1.1 (jU b).4,())) (xQ n b))))))) (abY n
 b))))))
def k77:OC:=dm [k70 n,k71 n,ZX n,Z1 n,ary n] [] n 77 au2 K132 J (F77 n)
def F63:Y41:=
 λn b=>ak (bB b.2.1 b.1) (Z ((bB b.1 b.2.2.1,()),())) (Z ((J,()),()))
def k63:OC:=dm [] [] n 63 P6 K4 J (F63 n)
def Ra(n:Nat)(b:Y53):O Y2:=
 aj (F79 n (b.1,b.2.1,2,())) λc=>Z c
def VK(n:Nat)(b:Y53):Y46->O Y2:=
 λc=>aj (F72 n (b.2.2.1,c.1)) λd=>aj (F71 n (b.1,b.2.1,d.1)) λe=>Z e
def F78:Nat->Y53->O Y2:=
 λn b=>ak (af b.2.2.2.1 17) (ak (av (af b.2.2.2.2.1.1 b.2.2.2.2.2.1.1)) (Ra n b) (ak (aG 3 b.2.2.2.2.1.1) (Ra n b) (aj (F73
 n (bR (af b.2.2.2.2.1.1 b.2.2.2.2.2.1.1) (bR (af b.2.2.2.2.1.2 b.2.2.2.2.2.1.2) W),())) (VK n b)))) (ak (av (af
 b.2.2.2.2.1.1 1)) (Ra n b) (ak (av (af b.2.2.2.2.2.1.1 1)) (Ra n b) (ak (af b.2.2.2.1 16) (aj (F73 n (aG b.2.2.2.2.1.2
 b.2.2.2.2.2.1.2,())) (VK n b)) (aj (ak (af b.2.2.2.1 13) (Z (N (aJ .i64 b.2.2.2.2.1.2 b.2.2.2.2.2.1.2,W,()))) (aj (ak
 (af b.2.2.2.1 14) (Z (N (bn .i64 b.2.2.2.2.1.2 b.2.2.2.2.2.1.2,W,()))) (aj (ak (af b.2.2.2.1 15) (Z (N (I8 .i64
 b.2.2.2.2.1.2 b.2.2.2.2.2.1.2,W,()))) (Z (N (0,J,())))) λ(c:Y54)=>cJ c (λd=>Z (N (d.1,J,()))) (λ_
 _=>Y) (λ_ _=>Z (X () ())) λ_ _=>Y)) λ(c:Y54)=>cJ c (λd=>Z (N (d.1,J,()))) (λ_ _=>Y)
 (λ_ _=>Z (X () ())) λ_ _=>Y)) λ(c:Y54)=>cJ c (λd=>aj (F63 n (d.1,(-1000000000),1000000000,())) λe=>ak
 (av e.1.1) (aj (F79 n (b.1,b.2.1,4,())) λg=>Z g) (aj (F43 n (d.1,())) (VK n b))) (λ_ _=>Y) (λ_ _=>Z
 ((jT,()),())) λ_ _=>Y))))
def k78:OC:=dm [k43 n,k63 n,k71 n,k72 n,k73 n,ZX n] [(78,1000012,lS [(13,dA),(63,dM)]),(78,1000014,lS [(13,dA),(70,dM)]),(78,1000016,lS [(13,dA),(77,dM)])] n 78 au1 K132 J (F78 n)
def F88:anU:=
 λn b=>ak (af b.1.1 4) (aj (F126 n (0,())) λc=>Z c) (ak (af b.1.1 5) (aj (F126 n (0,())) λc=>Z c) (Z (b,())))
def k88:OC:=dm [ad1 n] [] n 88 P45 K20 J (F88 n)
def F83:Nat->bq×Int×Int×Int×aA×U->O Y2:=
 λn b=>ak (af b.1.2 1) (Z ((b.1,()),())) (aj (F88 n b.2.2.2.2) λc=>Z ((bq.mk b.1.1 1 (aE.mk b.2.1 b.2.2.1
 b.2.2.2.1 c.1.1),()),()))
def k83:OC:=dm [k88 n] [] n 83 au0 K132 J (F83 n)
end
end
section
variable (n:Nat)
open Go TL
noncomputable section
set_option maxRecDepth 100000
set_option maxHeartbeats 0
def Cl(b:Y1):aA:=
 bE b.2.2.2.2.1 (aC 0) bA
def F80:Y3:=
 λn b=>ak (af b.2.2.2.1 21) (aS (aM 0 b.2.2.2.2.1) (aj (F75 n (b.1,b.2.1,b.2.2.1,bG.mk 3 0 [Cl b] [],())) λc=>aS (aM 0
 b.2.2.2.2.1) (aj (F83 n (c.1.1,b.2.1,16,0,Cl b,())) λd=>Z d))) (aS (aM 0 b.2.2.2.2.1) (aj (F127 n (b.1,Cl b,3,())) λc=>
 ak (av c.1.2.1) (aj (F79 n (b.1,b.2.1,2,())) λd=>Z d) (ak (af b.2.2.2.1 22) (aS (aM 0 c.1.1.3) (aj (F72 n (b.2.2.1,bE
 c.1.1.3 (aC 0) bA,())) λd=>aj (F71 n (b.1,b.2.1,d.1)) λe=>aS (aM 0 c.1.1.3) (aj (F83 n (e.1.1,b.2.1,17,0,bE c.1.1.3
 (aC 0) bA,())) λg=>Z g))) (aS (aM 0 b.2.2.2.2.1) (aS (aM 1 b.2.2.2.2.1) (aS (aM (Cl b).2 b.1.1) (aS (ei (aC (Cl
 b).2) b.1.1) (aj (F74 n ()) λd=>aj (F72 n (b.2.2.1,d.1)) λe=>aS (aM 1 b.2.2.2.2.1) (aj (F71 n (ai.mk (lM b.1.1 (aC (Cl
 b).2) (bG.mk 3 0 [bE b.2.2.2.2.1 (aC 1) bA] [])) b.1.2 b.1.3 b.1.4 b.1.5,b.2.1,e.1)) λg=>aj (F83 n (g.1.1,b.2.1,18,0,bE
 b.2.2.2.2.1 (aC 1) bA,())) λh=>Z h)))))))))
def k80:OC:=dm [k71 n,k72 n,k74 n,k75 n,ZX n,k83 n,SC n] [] n 80 an8 K132 J (F80 n)
def agk:XP:=
 ([],[],[],[],0,0,0,0,0,0,0,())
def Q9(b:QO):aa:=
 aM b.2.2.1 b.2.1.2
def Cj(b:QO):Nat:=
 aC (bE b.2.1.2 (aC b.2.2.1) 0)
def Q8(b:QO):L bG:=
 lM b.2.1.1 (Cj b) (bG.mk 6 4 [] [])
def IX(b:QO)(g:Y46):Int×Int×Int×aA×U:=
 (b.2.2.1,19,0,g.1)
def ER(b:QO)(e:ae8):L bG:=
 dx b.2.1.1 [bG.mk e.2.2.1.1 e.2.2.1.2.1 [] e.2.2.1.2.2.2.1]
def Q7(b:QO)(e:ae8):L bG:=
 lM (ER b e) (Cj b) (bG.mk 6 4 [] [])
def Q6(b:QO)(e:ae8)(h:Yf×U):L bG:=
 lM (ER b e) (Cj b) (bG.mk 6 0 [] h.1.1)
def F81:Nat->QO->O Y2:=
 λn b=>aj (F127 n (b.2.1,b.2.2.2.2.1,5,())) λc=>aj (ak c.1.2.1 (aj (F74 n ()) λd=>aj (F72 n (c.1.1.4,d.1)) λe=>Z
 (N (W,agk,(6,0,[],e.1),()))) (aj (F74 n ()) λd=>aj (F128 n (b.1,b.2.1,b.2.2.2.2.1,d.1)) λe=>ak (av e.1.2.1) (aS
 (Q9 b) (aS (aM (bE b.2.1.2 (aC b.2.2.1) 0) b.2.1.1) (aS (ei (Cj b) b.2.1.1) (Z (X ((lM b.2.1.1 (Cj b) (bG.mk 6 2 []
 []),b.2.1.2,b.2.1.3,b.2.1.4,b.2.1.5,1,b.2.2.1,0,2,0,0,()),(6,0,[],[],()),()) ()))))) (Z (N (J,agk,(6,0,[],[e.1.1],
 ()),()))))) λ(d:LO ae8 U (XP×Lr×U) Any)=>cJ d (λe=>ak (bB 120 (au b.2.1.1)) (aS (Q9 b) (aS (aM (bE b.2.1.2
 (aC b.2.2.1) 0) b.2.1.1) (aS (ei (Cj b) b.2.1.1) (ak (av W) (aS (dI b.2.1.2 [bn .i64 (au (Q8 b)) 1]) (aj (F74 n ()) λg
 =>aj (F83 n (bq.mk (ai.mk (Q8 b) (dx b.2.1.2 [bn .i64 (au (Q8 b)) 1]) b.2.1.3 b.2.1.4 b.2.1.5) 1 (aE.mk
 b.2.2.1 0 4 bA),IX b g)) λh=>Z h)) (aj (F74 n ()) λg=>aj (F83 n (bq.mk (ai.mk (Q8 b) b.2.1.2 b.2.1.3
 b.2.1.4 b.2.1.5) 1 (aE.mk b.2.2.1 0 4 bA),IX b g)) λh=>Z h))))) (aS (dI b.2.1.1 [bG.mk e.2.2.1.1 e.2.2.1.2.1 []
 e.2.2.1.2.2.2.1]) (aj (F126 n (bn .i64 (au (ER b e)) 1,())) λg=>aj (F72 n (b.2.2.2.1,g.1)) λh=>ak (aG 40 (au h.1.1)) (aS
 (Q9 b) (aS (ei (aC b.2.2.1) b.2.1.2) (aS (aM (bE b.2.1.2 (aC b.2.2.1) 0) (ER b e)) (aS (ei (Cj b) (ER b e)) (ak (av
 W) (aS (dI b.2.1.2 [bn .i64 (au (Q7 b e)) 1]) (aj (F74 n ()) λi=>aj (F83 n (bq.mk (ai.mk (Q7 b e) (dx
 b.2.1.2 [bn .i64 (au (Q7 b e)) 1]) b.2.1.3 b.2.1.4 b.2.1.5) 1 (aE.mk b.2.2.1 0 4 bA),IX b i)) λj=>Z j)) (aj (F74 n
 ()) λi=>aj (F83 n (bq.mk (ai.mk (Q7 b e) b.2.1.2 b.2.1.3 b.2.1.4 b.2.1.5) 1 (aE.mk b.2.2.1 0 4 bA),IX b i))
 λj=>Z j)))))) (aS (Q9 b) (aS (ei (aC b.2.2.1) b.2.1.2) (aS (aM (bE b.2.1.2 (aC b.2.2.1) 0) (ER b e)) (aS (ei (Cj b)
 (ER b e)) (ak (av J) (aS (dI b.2.1.2 [bn .i64 (au (Q6 b e h)) 1]) (aj (F74 n ()) λi=>aj (F83 n (bq.mk
 (ai.mk (Q6 b e h) (dx b.2.1.2 [bn .i64 (au (Q6 b e h)) 1]) b.2.1.3 b.2.1.4 b.2.1.5) 0 bP,IX b i)) λj=>Z j))
 (aj (F74 n ()) λi=>aj (F83 n (bq.mk (ai.mk (Q6 b e h) b.2.1.2 b.2.1.3 b.2.1.4 b.2.1.5) 0 bP,IX b i)) λj=>
 Z j))))))))) (λ_ _=>Y) (λe _=>Z ((bq.mk (ai.mk e.1.1 e.1.2.1 e.1.2.2.1 e.1.2.2.2.1 e.1.2.2.2.2.1) e.1.2.2.2.2.2.1
 (aE.mk e.1.2.2.2.2.2.2.1 e.1.2.2.2.2.2.2.2.1 e.1.2.2.2.2.2.2.2.2.1 (aA.mk e.1.2.2.2.2.2.2.2.2.2.1 e.1.2.2.2.2.2.2.2.2.2.2.1)),()),()))
 λ_ _=>Y
def k81:OC:=dm [k72 n,k74 n,k83 n,ad1 n,SC n,ali n] [(81,1000004,⟨[(24,dM),(0,b2z),(0,anc)],[.slot 10,.slot 11],[],0⟩)] n 81 auZ K132 J (F81 n)
def F82:Nat->ai×Int×L aq×aA×U->O Y2:=
 λn b=>aj (F127 n (b.1,b.2.2.2.1,6,())) λc=>ak (av c.1.2.1) (aj (F79 n (b.1,b.2.1,2,())) λd=>Z d) (ak (af c.1.1.2 0)
 (Z ((bq.mk b.1 2 bP,()),())) (ak (av (af c.1.1.2 1)) (aj (F79 n (b.1,b.2.1,c.1.1.2,())) λd=>Z d) (aS
 (aM 0 c.1.1.3) (aj (F72 n (b.2.2.1,bE c.1.1.3 (aC 0) bA,())) λd=>aj (F71 n (b.1,b.2.1,d.1)) λe=>aS (aM 0 c.1.1.3) (aj
 (F83 n (e.1.1,b.2.1,20,0,bE c.1.1.3 (aC 0) bA,())) λg=>Z g)))))
def k82:OC:=dm [k71 n,k72 n,ZX n,k83 n,SC n] [] n 82 auY K132 J (F82 n)
def Lt(b:Y1):Nat:=
 aC (bE b.2.2.2.2.1 (aC 0) bA).2
def F84:Y3:=
 λn b=>aS (aM 0 b.2.2.2.2.1) (aj (F127 n (b.1,bE b.2.2.2.2.1 (aC 0) bA,4,())) λc=>ak (av c.1.2.1) (aj (F79 n (b.1,
 b.2.1,2,())) λd=>Z d) (ak (af b.2.2.2.1 27) (ak (bB 4 (au c.1.1.3)) (Z ((bq.mk b.1 2 bP,()),())) (aS
 (aM 0 b.2.2.2.2.1) (aS (aM 1 b.2.2.2.2.1) (aj (F124 n (c.1.1.3,bE b.2.2.2.2.1 (aC 1) bA,())) λd=>aS (aM (bE b.2.2.2.2.1 (aC
 0) bA).2 b.1.1) (aS (ei (Lt b) b.1.1) (aj (F74 n ()) λe=>aj (F72 n (b.2.2.1,e.1)) λg=>aS (aM 1 b.2.2.2.2.1) (aj (F71 n
 (ai.mk (lM b.1.1 (Lt b) (bG.mk 4 0 d.1.1 [])) b.1.2 b.1.3 b.1.4 b.1.5,b.2.1,g.1)) λh=>aj (F83 n (h.1.1,b.2.1,22,0,bE
 b.2.2.2.2.1 (aC 1) bA,())) λi=>Z i))))))) (ak (af (au c.1.1.3) 0) (Z ((bq.mk b.1 2 bP,()),())) (aS
 (aM 0 b.2.2.2.2.1) (aS (eF 1 (au c.1.1.3) (au c.1.1.3)) (aS (aM (bE b.2.2.2.2.1 (aC 0) bA).2 b.1.1) (aS (ei (Lt b) b.1.1)
 (aS (aM 0 c.1.1.3) (aj (F72 n (b.2.2.1,bE c.1.1.3 (aC 0) bA,())) λd=>aS (aM 0 c.1.1.3) (aj (F71 n (ai.mk (lM b.1.1
 (Lt b) (bG.mk 4 0 (cO c.1.1.3 1 (au c.1.1.3)) [])) b.1.2 b.1.3 b.1.4 b.1.5,b.2.1,d.1)) λe=>aj (F83 n (e.1.1,b.2.1,23,0,bE
 c.1.1.3 (aC 0) bA,())) λg=>Z g))))))))))
def k84:OC:=dm [k71 n,k72 n,k74 n,ZX n,k83 n,Z1 n,SC n] [] n 84 an8 K132 J (F84 n)
def F85:Nat->Y48->O Y2:=
 λn b=>ak (af b.2.2.2.1.1 30) (ak (af (au b.1.4) 0) (Z ((bq.mk b.1 2 bP,()),())) (aS (aM 0 b.1.4) (aS (ei
 (aC 0) b.1.4) (aj (F43 n (bE b.1.4 (aC 0) 0,())) λc=>ak (bB 1000000000 b.1.5) (aj (F79 n (b.1,b.2.1,4,())) λd=>Z d) (aS
 (eF 1 (au b.1.4) (au b.1.4)) (aj (F72 n (b.2.2.1,c.1)) λd=>aj (F71 n (ai.mk b.1.1 b.1.2 b.1.3 (cO b.1.4 1 (au b.1.4)) (aJ .i64
 b.1.5 1),b.2.1,d.1)) λe=>aj (F83 n (e.1.1,b.2.1,25,0,c.1)) λg=>Z g)))))) (aS (aM 0 b.2.2.2.2.1) (ak (av (af (bE
 b.2.2.2.2.1 (aC 0) bA).1 1)) (aj (F79 n (b.1,b.2.1,2,())) λc=>Z c) (ak (bB 100 (au b.1.3)) (aj (F79 n (b.1,b.2.1,4,()))
 λc=>Z c) (aS (aM 0 b.2.2.2.2.1) (aS (dI b.1.3 [ec.mk b.2.2.2.1.2 (bE b.2.2.2.2.1 (aC 0) bA).2]) (aj (F74 n ()) λc=>
 aj (F72 n (b.2.2.1,c.1)) λd=>aS (aM 0 b.2.2.2.2.1) (aj (F71 n (ai.mk b.1.1 b.1.2 (dx b.1.3 [ec.mk b.2.2.2.1.2 (bE b.2.2.2.2.1
 (aC 0) bA).2]) b.1.4 b.1.5,b.2.1,d.1)) λe=>aj (F83 n (e.1.1,b.2.1,24,b.2.2.2.1.2,bE b.2.2.2.2.1 (aC 0) bA,())) λg=>
 Z g)))))))
def k85:OC:=dm [k43 n,k71 n,k72 n,k74 n,ZX n,k83 n] [] n 85 auX K132 J (F85 n)
def F86:Nat->ai×Int×L aq×Int×U->O Y2:=
 λn b=>aS (aM (bn .i64 (au b.2.2.1) 1) b.2.2.1) (aj (bw (Int×U) (U) (U) (λc=>ak (bB 0 c.1) (aS (aM c.1
 b.2.2.1) (ak (av (bE b.2.2.1 (aC c.1) aT).4) (Z (N (bn .i64 c.1 1,()))) (Z (H 0 c)))) (Z (H 0 c))) n
 (bn .i64 (au b.2.2.1) 1,())) λc=>bU c (λ_ e=>ak (aG e.1 0) (aj (F79 n (b.1,b.2.1,3,())) λg=>Z g) (ak (bB 120
 (au b.1.1)) (aj (F79 n (b.1,b.2.1,4,())) λg=>Z g) (aS (eF e.1 (au b.2.2.1) (au b.2.2.1)) (aS (dI b.1.1 [bG.mk 5 0 [] (cO
 b.2.2.1 e.1 (au b.2.2.1))]) (aS (eF 0 e.1 (au b.2.2.1)) (aj (F126 n (bn .i64 (au (dx b.1.1 [bG.mk 5 0 [] (cO b.2.2.1 e.1 (au
 b.2.2.1))])) 1,())) λg=>aj (F124 n ((bE b.2.2.1 (aC (bn .i64 (au b.2.2.1) 1)) aT).2,g.1)) λh=>aj (F70 n (cO b.2.2.1 0
 e.1,aq.mk b.2.2.2.1 h.1.1 [] W,())) λi=>aj (F71 n (ai.mk (dx b.1.1 [bG.mk 5 0 [] (cO b.2.2.1 e.1 (au b.2.2.1))]) b.1.2
 b.1.3 b.1.4 b.1.5,b.2.1,i.1)) λj=>Z j)))))) (λ_ _=>Z ((jT,()),())) λ_ _=>Y)
def k86:OC:=dm [k70 n,k71 n,ZX n,Z1 n,ad1 n] [(86,0,lS [(9,dA)])] n 86 auW K132 J (F86 n)
def xR(b:VE):Nat:=
 aC (bE b.2.1.2 (aC b.2.2.1) 0)
def wh(b:VE):Int:=
 bn .i64 (au (bE b.2.1.1 (xR b) bD).4) 1
def mV(b:VE):aq:=
 bE (bE b.2.1.1 (xR b) bD).4 (aC (wh b)) aT
def ep(b:VE):bT:=
 bE b.1.1.1 (aC (mV b).1) cg
def IY(b:VE)(c:(Int×U)×U):Int:=
 bn .i64 (au (mV b).3) c.1.1
def Lx(n:Nat)(b:VE):Y45:=
 λg=>aj (F71 n (b.2.1,b.2.2.1,g.1)) λh=>Z h
def VP(n:Nat)(b:VE)(d:Yf×U):Y46->O Y2:=
 λe=>aj (F72 n (d.1.1,e.1)) (Lx n b)
def mh(b:VE)(c:(Int×U)×U):L aA:=
 cO (mV b).3 (IY b c) (au (mV b).3)
def zA(b:VE)(c:(Int×U)×U):aA:=
 bE (mh b c) (aC 0) bA
def Np(n:Nat):Y47->O Y47:=
 λe=>cJ e (λg=>Z (N g)) (λ_ _=>Y) (λ_ _=>Z (X () ())) λ_ _=>Y
def TP(b:VE)(c:(Int×U)×U)(d:Yf×U):Y48:=
 (b.2.1,b.2.2.1,d.1.1,ep b,mh b c,())
def No(n:Nat):Y47->O Y47:=
 λh=>cJ h (λi=>Z (N i)) (λ_ _=>Y) (λ_ _=>Z (X () ())) λ_ _=>Y
def TO(b:VE)(c:(Int×U)×U)(d:Yf×U):Y1:=
 (b.2.1,b.2.2.1,d.1.1,(ep b).1,mh b c,())
def DF(n:Nat):U->U->O Y2:=
 λ_ _=>Z ((jT,()),())
def F37:Nat->VE->O Y2:=
 λn b=>aS (aM b.2.2.1 b.2.1.2) (aS (aM (bE b.2.1.2 (aC b.2.2.1) 0) b.2.1.1) (ak (av (af (bE b.2.1.1 (xR b) bD).2 0))
 (Z ((bq.mk b.2.1 2 bP,()),())) (aS (aM (wh b) (bE b.2.1.1 (xR b) bD).4) (aS (aM (mV b).1 b.1.1.1) (aj
 (F69 n (b.1,ep b,())) λc=>aS (eF (IY b c) (au (mV b).3) (au (mV b).3)) (aS (eF 0 (wh b) (au (bE b.2.1.1 (xR b)
 bD).4)) (aS (eF 0 (IY b c) (au (mV b).3)) (aj (F70 n (cO (bE b.2.1.1 (xR b) bD).4 0 (wh b),aq.mk (aJ .i64
 (mV b).1 1) (mV b).2 (cO (mV b).3 0 (IY b c)) (mV b).4,())) λd=>ak (af (ep b).1 1) (aj (F43 n ((ep b).2,())) (VP
 n b d)) (ak (af (ep b).1 2) (aj (F73 n (af (ep b).2 1,())) (VP n b d)) (ak (af (ep b).1 3) (aj (F74 n ()) (VP n b d)) (ak
 (af (ep b).1 4) (aS (aM (ep b).2 (mV b).2) (aj (F72 n (d.1.1,bE (mV b).2 (aC (ep b).2) bA,())) (Lx n b))) (ak
 (af (ep b).1 5) (aj (F72 n (d.1.1,aA.mk 4 (ep b).2,())) (Lx n b)) (ak (af (ep b).1 6) (aj (F75 n (b.2.1,b.2.2.1,d.1.1,
 bG.mk 2 (ep b).2 (mV b).2 [],())) λe=>Z e) (ak (af (ep b).1 7) (aS (aM 0 (mh b c)) (aS (aM 1 (mh b c)) (aj (F76
 n (b.1,b.2.1,b.2.2.1,d.1.1,zA b c,bE (mh b c) (aC 1) bA,J,())) λe=>Z e))) (ak (af (ep b).1 8) (aS (eF 0
 (wh b) (au d.1.1)) (aS (aM 0 (mh b c)) (aS (aM 1 (mh b c)) (aj (F76 n (b.1,b.2.1,b.2.2.1,cO d.1.1 0 (wh b),zA b c,bE
 (mh b c) (aC 1) bA,(mV b).4,())) λe=>Z e)))) (aj (ak (af (ep b).1 9) (Z (N (W,()))) (aj (ak (af
 (ep b).1 10) (Z (N (W,()))) (aj (ak (af (ep b).1 11) (Z (N (W,()))) (aj (ak (af (ep b).1 12) (Z
 (N (W,()))) (Z (N (af (ep b).1 19,())))) (Np n))) (Np n))) (Np n))) λ(e:Y47)=>cJ e (λg=>ak g.1
 (aj (F77 n (b.1,TP b c d)) λh=>Z h) (aj (ak (af (ep b).1 13) (Z (N (W,()))) (aj (ak (af (ep b).1 14) (Z
 (N (W,()))) (aj (ak (af (ep b).1 15) (Z (N (W,()))) (aj (ak (af (ep b).1 16) (Z (N (W,()))) (Z
 (N (af (ep b).1 17,())))) (No n))) (No n))) (No n))) λ(h:Y47)=>cJ h (λi=>ak i.1 (aS (aM 0 (mh b c)) (aS
 (aM 1 (mh b c)) (aj (F78 n (b.2.1,b.2.2.1,d.1.1,(ep b).1,zA b c,bE (mh b c) (aC 1) bA,())) λj=>Z j))) (ak (af
 (ep b).1 18) (aj (F75 n (b.2.1,b.2.2.1,d.1.1,bG.mk 1 (ep b).2 (mh b c) [],())) λj=>Z j) (ak (af (ep b).1 20) (aj (F79
 n (b.2.1,b.2.2.1,3,())) λj=>Z j) (aj (ak (af (ep b).1 21) (Z (N (W,()))) (aj (ak (af (ep b).1 22) (Z
 (N (W,()))) (Z (N (af (ep b).1 23,())))) λ(j:Y47)=>cJ j (λk=>Z (N k)) (λ_ _=>Y) (λ_ _=>
 Z (X () ())) λ_ _=>Y)) λ(j:Y47)=>cJ j (λk=>ak k.1 (aj (F80 n (TO b c d)) λl=>Z l) (ak (af (ep b).1
 24) (aS (aM 0 (mh b c)) (aj (F81 n (b.1,b.2.1,b.2.2.1,d.1.1,zA b c,())) λl=>Z l)) (ak (af (ep b).1 25) (aS (aM 0
 (mh b c)) (aj (F82 n (b.2.1,b.2.2.1,d.1.1,zA b c,())) λl=>Z l)) (ak (af (ep b).1 26) (aj (F75 n (b.2.1,b.2.2.1,d.1.1,
 bG.mk 4 0 [] [],())) λl=>aj (F74 n ()) λm=>aj (F83 n (l.1.1,b.2.2.1,21,0,m.1)) λo=>Z o) (aj (ak (af (ep b).1 27)
 (Z (N (W,()))) (Z (N (af (ep b).1 28,())))) λ(l:Y47)=>cJ l (λm=>ak m.1 (aj (F84 n (TO b c d)) λo
 =>Z o) (aj (ak (af (ep b).1 29) (Z (N (W,()))) (Z (N (af (ep b).1 30,())))) λ(o:Y47)=>cJ o (λp=>
 ak p.1 (aj (F85 n (TP b c d)) λq=>Z q) (ak (af (ep b).1 31) (aj (F70 n (d.1.1,aq.mk (ep b).2 (mV b).2 [] W,()))
 (Lx n b)) (ak (af (ep b).1 32) (aj (F86 n (b.2.1,b.2.2.1,d.1.1,(ep b).2,())) λq=>Z q) (ak (af (ep b).1 33) (aj (F74 n
 ()) λq=>aj (F72 n (d.1.1,q.1)) λr=>aj (F71 n (b.2.1,b.2.2.1,r.1)) λs=>aj (F74 n ()) λt=>aj (F83 n (s.1.1,b.2.2.1,28,0,
 t.1)) λu=>Z u) (ak (af (wh b) 0) (aS (aM b.2.2.1 b.2.1.2) (aS (aM 0 (mh b c)) (aS (aM 0 (mh b c)) (aS (aM (bE b.2.1.2
 (aC b.2.2.1) 0) b.2.1.1) (aS (ei (xR b) b.2.1.1) (aj (F88 n (zA b c,())) λq=>Z ((bq.mk (ai.mk (lM b.2.1.1
 (xR b) (bG.mk 6 1 [zA b c] [])) b.2.1.2 b.2.1.3 b.2.1.4 b.2.1.5) 1 (aE.mk b.2.2.1 0 1 q.1.1),()),()))))))) (aS (eF 0 (wh b)
 (au d.1.1)) (aS (aM 0 (mh b c)) (aj (F72 n (cO d.1.1 0 (wh b),zA b c,())) (Lx n b))))))))) (λ_ _=>Y) (DF n) λ_ _
 =>Y)) (λ_ _=>Y) (DF n) λ_ _=>Y))))) (λ_ _=>Y) (DF n) λ_ _=>Y)))) (λ_ _=>Y) (DF n) λ_ _=>
 Y)) (λ_ _=>Y) (DF n) λ_ _=>Y))))))))))))))))
def k37:OC:=dm [k43 n,k69 n,k70 n,k71 n,k72 n,k73 n,k74 n,k75 n,k76 n,k77 n,k78 n,ZX n,k80 n,k81 n,k82 n,k83 n,k84 n,k85 n,k86 n,k88 n] [(37,1000028,lS [(167,dM)]),(37,1000029,lS [(167,dM)]),(37,1000030,lS [(167,dM)]),(37,1000031,lS [(167,dM)]),(37,1000034,lS [(180,dM)]),(37,1000035,lS [(180,dM)]),(37,1000036,lS [(180,dM)]),(37,1000037,lS [(180,dM)]),(37,1000044,lS [(213,dM)]),(37,1000045,lS [(213,dM)]),(37,1000054,lS [(253,dM)]),(37,1000057,lS [(263,dM)])] n 37 aja K132 J (F37 n)
def ab7(c:anj):ai:=
 ai.mk c.2.2.1.1 c.2.2.1.2.1 c.2.2.1.2.2.1 c.2.2.1.2.2.2.1 c.2.2.1.2.2.2.2.1
def Lz(g:Y2):XP×U:=
 ((g.1.1.1.1,g.1.1.1.2,g.1.1.1.3,g.1.1.1.4,g.1.1.1.5,g.1.1.2,g.1.1.3.1,g.1.1.3.2,g.1.1.3.3,g.1.1.3.4.1,g.1.1.3.4.2,()),())
def F29:Nat->VE->O Y39:=
 λn b=>aj (bw (anj) (Int×aa×U) (DD×DD×U) (λc=>ak (aG c.2.1 (au c.2.2.1.2.1)) (aj (F37 n (b.1,ab7 c,
 c.2.1,())) λd=>aj (bw (Int×DD×DD×XP×U) (Int×aa×U) (DD×DD×XP×U) (λe=>ak (af
 e.2.2.2.1.2.2.2.2.2.1 0) (ak (aG 5000 (aJ .i64 e.1 1)) (Z (X (e.2.1,e.2.1,e.2.2.2) (aJ .i64 e.1 1,J,()))) (aj (F37 n (b.1,
 ai.mk e.2.2.2.1.1 e.2.2.2.1.2.1 e.2.2.2.1.2.2.1 e.2.2.2.1.2.2.2.1 e.2.2.2.1.2.2.2.2.1,c.2.1,())) λg=>Z (N (aJ .i64 e.1 1,
 (e.2.2.2.1.1,e.2.2.2.1.2.1,e.2.2.2.1.2.2.1,e.2.2.2.1.2.2.2.1,e.2.2.2.1.2.2.2.2.1,()),e.2.2.1,Lz g)))) (Z (H 0 e))) n (c.1,c.2.2.1,
 c.2.2.2.1,Lz d)) λe=>bU e (λ_ h=>Z (N (h.1,aJ .i64 c.2.1 1,h.2.1,h.2.2.1,()))) (λg h=>Z (X (g.1,g.2.1,
 ()) h)) λ_ _=>Y) (Z (H 0 c))) n (b.2.2.1,0,(b.2.1.1,b.2.1.2,b.2.1.3,b.2.1.4,b.2.1.5,()),([],[],[],[],0,()),())) λc=>
 bU c (λ_ e=>Z ((ab7 e,e.1,W,()),())) (λd e=>Z ((ai.mk d.2.1.1 d.2.1.2.1 d.2.1.2.2.1 d.2.1.2.2.2.1 d.2.1.2.2.2.2.1,
 e),())) λ_ _=>Y
def ZY:OC:=dm [k37 n] [(29,0,⟨[(2,dA),(9,dA),(0,b4z),(0,b4z)],[.slot 4,.slot 6],[],0⟩),(29,2,⟨[(2,dA),(0,b4z),(0,b4z),(0,b2z)],[.slot 4,.slot 6,.slot 10],[],0⟩)] n 29 aja K151 J (F29 n)
end
end
section
variable (n:Nat)
open Go TL
noncomputable section
set_option maxRecDepth 100000
set_option maxHeartbeats 0
def F31:ai7:=
 λn b=>ak (aG 130 (au b.1.1)) (Z ((J,()),())) (ak (aG 130 (au b.1.2)) (Z ((J,()),())) (ak (aG 110 (au b.1.3))
 (Z ((J,()),())) (ak (aG 60 (au b.1.4)) (Z ((J,()),())) (aj (bw (Int×U) (aa×U) (U) (λc=>ak (aG
 c.1 (au b.1.1)) (aS (aM c.1 b.1.1) (ak (aG 40 (au (bE b.1.1 (aC c.1) bD).3)) (Z (X () (J,()))) (ak (aG 50 (au
 (bE b.1.1 (aC c.1) bD).4)) (Z (X () (J,()))) (aj (bw (Int×U) (aa×U) (U) (λd=>ak (aG d.1 (au
 (bE b.1.1 (aC c.1) bD).4)) (aS (aM d.1 (bE b.1.1 (aC c.1) bD).4) (ak (aG 40 (au (bE (bE b.1.1 (aC c.1) bD).4 (aC
 d.1) aT).2)) (Z (X () (J,()))) (aS (aM d.1 (bE b.1.1 (aC c.1) bD).4) (ak (aG 70 (au (bE (bE b.1.1 (aC c.1)
 bD).4 (aC d.1) aT).3)) (Z (X () (J,()))) (Z (N (aJ .i64 d.1 1,()))))))) (Z (H 0 d))) n (0,())) λd
 =>bU d (λ_ _=>Z (N (aJ .i64 c.1 1,()))) (λ_ g=>Z (X () g)) λ_ _=>Y)))) (Z (H 0 c))) n (0,())) λc
 =>bU c (λ_ _=>Z ((W,()),())) (λ_ e=>Z (e,())) λ_ _=>Y))))
def k31:OC:=dm [] [(31,0,lS [(3,dA)]),(31,2,lS [(5,dA)])] n 31 ajb K4 J (F31 n)
def F19:Y93:=
 λn b=>aj (F11 n (b.1,())) λc=>ak c.1.1 (aj (F31 n b.2) λd=>Z d) (Z ((J,()),()))
def HE:OC:=dm [k11 n,k31 n] [] n 19 P66 K4 J (F19 n)
def F116:ant:=
 λn b=>aj (bw (Int×U) (aa×U) (U) (λc=>ak (aG c.1 (au b.1)) (aS (aM c.1 b.1) (ak (af (bE b.1 (aC c.1)
 0) b.2.1) (Z (X () (W,()))) (Z (N (aJ .i64 c.1 1,()))))) (Z (H 0 c))) n (0,())) λc=>bU c (λ_ _=>Z
 ((J,()),())) (λ_ e=>Z (e,())) λ_ _=>Y
def arB:OC:=dm [] [(116,0,lS [(5,dA)])] n 116 an9 K4 J (F116 n)
def Rf(b:ai×U)(g:Int×U):Int:=
 bE b.1.2 (aC g.1) 0
def F64:ai7:=
 λn b=>aj (bw (Int×Int×U) (aa×U) (U) (λc=>ak (aG c.2.1 (au b.1.1)) (aS (aM c.2.1 b.1.1) (ak (af (bE
 b.1.1 (aC c.2.1) bD).1 6) (Z (N (aJ .i64 c.1 1,aJ .i64 c.2.1 1,()))) (Z (N (c.1,aJ .i64 c.2.1 1,()))))) (Z
 (H 0 c))) n (0,0,())) λc=>bU c (λ_ e=>ak (av (af (au b.1.2) e.1)) (Z ((J,()),())) (aj (bw (Int×U) (aa
 ×U) (U) (λg=>ak (aG g.1 e.1) (aS (aM g.1 b.1.2) (aj (F63 n (Rf b g,0,bn .i64 (au b.1.1) 1,())) λh=>ak
 (av h.1.1) (Z (X () (J,()))) (aS (aM (Rf b g) b.1.1) (ak (av (af (bE b.1.1 (aC (Rf b g)) bD).1 6)) (Z
 (X () (J,()))) (aS (eF 0 g.1 (au b.1.2)) (aj (F116 n (cO b.1.2 0 g.1,Rf b g,())) λi=>ak i.1.1 (Z (X () (J,
 ()))) (Z (N (aJ .i64 g.1 1,()))))))))) (Z (H 0 g))) n (0,())) λg=>bU g (λ_ _=>Z ((W,()),())) (λ_ i=>
 Z (i,())) λ_ _=>Y)) (λ_ e=>Z (e,())) λ_ _=>Y
def k64:OC:=dm [k63 n,arB n] [(64,0,lS [(3,dA),(4,dA)]),(64,2,lS [(5,dA)])] n 64 ajb K4 J (F64 n)
def F171:Nat->bJ×ai×aA×U->O Y4:=
 λn b=>ak (af b.2.2.1.1 1) (aj (F63 n (b.2.2.1.2,(-1000000000),1000000000,())) λc=>Z c) (ak (af b.2.2.1.1 2) (aj (F63 n
 (b.2.2.1.2,0,1,())) λc=>Z c) (ak (af b.2.2.1.1 3) (Z ((af b.2.2.1.2 0,()),())) (ak (af b.2.2.1.1 4) (aj (F63 n (b.2.2.1.2,
 0,bn .i64 (au b.1.1.3) 1,())) λc=>Z c) (ak (af b.2.2.1.1 5) (aj (F63 n (b.2.2.1.2,0,bn .i64 (au b.2.1.1) 1,())) λc=>
 Z c) (Z ((J,()),()))))))
def are:OC:=dm [k63 n] [] n 171 auV K4 J (F171 n)
def F118:Nat->bJ×ai×L aA×Int×U->O Y4:=
 λn b=>ak (av (af (au b.2.2.1) b.2.2.2.1)) (Z ((J,()),())) (aj (bw (Int×U) (aa×U) (U) (λc=>ak
 (aG c.1 b.2.2.2.1) (aS (aM c.1 b.2.2.1) (aj (F171 n (b.1,b.2.1,bE b.2.2.1 (aC c.1) bA,())) λd=>ak (av d.1.1) (Z (X
 () (J,()))) (Z (N (aJ .i64 c.1 1,()))))) (Z (H 0 c))) n (0,())) λc=>bU c (λ_ _=>Z ((W,()),())) (λ_ e
 =>Z (e,())) λ_ _=>Y)
def alk:OC:=dm [are n] [(118,0,lS [(9,dA)])] n 118 auU K4 J (F118 n)
def DN(n:Nat):anG:=
 Z (X () (J,()))
def NG(b:aff)(d:Int×U):aa:=
 aM (bE b.2.2.1 (aC d.1) aT).1 b.1.2
def DM(b:aff)(d:Int×U):ax:=
 bE b.1.2 (aC (bE b.2.2.1 (aC d.1) aT).1) aW
def TX(n:Nat)(b:aff)(d:Int×U):LO (Int×aa×U) (aa×U) U Any->anG:=
 λg=>cJ g (λh=>aS (NG b d) (aj (F118 n (b.1,b.2.1,(bE b.2.2.1 (aC d.1) aT).2,(DM b d).3,())) λi=>ak (av
 i.1.1) (DN n) (ak (aG h.1 0) (DN n) (aj (F118 n (b.1,b.2.1,(bE b.2.2.1 (aC d.1) aT).3,h.1,())) λj=>ak (av j.1.1)
 (DN n) (Z (N (aJ .i64 d.1 1,()))))))) (λ_ _=>Y) (λ_ i=>Z (X () i)) λ_ _=>Y
def F117:Nat->aff->O Y4:=
 λn b=>aj (F63 n (au b.2.2.1,1,40,())) λc=>ak (av c.1.1) (Z ((J,()),())) (aj (bw (Int×U) (aa×U) (U) (λd=>ak (aG d.1 (au b.2.2.1)) (aS (aM d.1 b.2.2.1) (aj (F63 n ((bE b.2.2.1 (aC d.1) aT).1,0,bn .i64 (au b.1.1.1)
 1,())) λe=>ak (av e.1.1) (DN n) (aS (NG b d) (ak (av (DM b d).1) (DN n) (aS (NG b d) (ak (av b.2.2.2.1) (aj
 (Z (N (bn .i64 (DM b d).2 1,W,()))) (TX n b d)) (aj (ak (aG d.1 (bn .i64 (au b.2.2.1) 1)) (Z (N (bn .i64
 (DM b d).2 1,W,()))) (Z (N ((DM b d).2,J,())))) (TX n b d)))))))) (Z (H 0 d))) n (0,())) λd=>bU d (λ
 _ _=>Z ((W,()),())) (λ_ g=>Z (g,())) λ_ _=>Y)
def arA:OC:=dm [k63 n,alk n] [(117,0,lS [(9,dA)]),(117,1000011,lS [(11,dA),(60,dM)])] n 117 auT K4 J (F117 n)
def F119:Nat->bJ×Int×U->O Y4:=
 λn b=>aj (bw (Int×U) (aa×U) (U) (λc=>ak (aG c.1 (au b.1.1.1)) (aS (aM c.1 b.1.1.1) (ak (af (bE b.1.1.1
 (aC c.1) cg).1 6) (aS (aM c.1 b.1.2) (ak (bE b.1.2 (aC c.1) aW).1 (aS (aM c.1 b.1.1.1) (ak (af (bE b.1.1.1 (aC c.1)
 cg).2 b.2.1) (Z (X () (W,()))) (Z (N (aJ .i64 c.1 1,()))))) (Z (N (aJ .i64 c.1 1,()))))) (Z (N
 (aJ .i64 c.1 1,()))))) (Z (H 0 c))) n (0,())) λc=>bU c (λ_ _=>Z ((J,()),())) (λ_ e=>Z (e,())) λ_ _=>
 Y
def arz:OC:=dm [] [(119,0,lS [(5,dA)])] n 119 auS K4 J (F119 n)
def r5(n:Nat):O Y4:=
 Z ((J,()),())
def ab0(n:Nat)(b:Y81):O Y4:=
 aj (F118 n (b.1,b.2.1,b.2.2.1.3,1,())) λc=>Z c
def F65:Nat->Y81->O Y4:=
 λn b=>ak (af b.2.2.1.1 5) (ak (af b.2.2.1.2 0) (ak (af (au b.2.2.1.3) 0) (aj (F117 n (b.1,b.2.1,b.2.2.1.4,J,())) λc=>
 ak c.1.1 (aS (aM 0 b.2.2.1.4) (Z (((bE b.2.2.1.4 (aC 0) aT).4,()),()))) (r5 n)) (r5 n)) (r5 n)) (ak (af b.2.2.1.1 6)
 (ak (af b.2.2.1.2 0) (ak (af (au b.2.2.1.3) 0) (aj (F117 n (b.1,b.2.1,b.2.2.1.4,W,())) λc=>Z c) (r5 n)) (ak (af
 b.2.2.1.2 1) (ak (af (au b.2.2.1.4) 0) (ab0 n b) (r5 n)) (aj (F63 n (b.2.2.1.2,2,4,())) λc=>ak c.1.1 (ak (af (au b.2.2.1.4)
 0) (Z ((af (au b.2.2.1.3) 0,()),())) (r5 n)) (r5 n)))) (ak (av (af (au b.2.2.1.4) 0)) (r5 n) (ak (af b.2.2.1.1 1) (aj
 (F63 n (b.2.2.1.2,0,bn .i64 (au b.1.1.5) 1,())) λc=>ak c.1.1 (aS (aM b.2.2.1.2 b.1.1.5) (aj (F118 n (b.1,b.2.1,b.2.2.1.3,(bE
 b.1.1.5 (aC b.2.2.1.2) br).2,())) λd=>Z d)) (r5 n)) (ak (af b.2.2.1.1 2) (aj (F119 n (b.1,b.2.2.1.2,())) λc=>ak c.1.1
 (aS (aM b.2.2.1.2 b.1.2) (aj (F118 n (b.1,b.2.1,b.2.2.1.3,bn .i64 (bE b.1.2 (aC b.2.2.1.2) aW).3 1,())) λd=>Z d)) (r5
 n)) (ak (af b.2.2.1.1 3) (ak (af b.2.2.1.2 0) (ab0 n b) (r5 n)) (ak (af b.2.2.1.1 4) (ak (af b.2.2.1.2 0) (ak (bB (au
 b.2.2.1.3) 4) (aj (F118 n (b.1,b.2.1,b.2.2.1.3,au b.2.2.1.3,())) λc=>Z c) (r5 n)) (r5 n)) (r5 n)))))))
def k65:OC:=dm [k63 n,arA n,alk n,arz n] [] n 65 auR K4 J (F65 n)
def Ly(n:Nat):O Y4:=
 Z ((J,()),())
def F32:aus:=
 λn b=>ak (aG 120 (au b.2.1.1)) (Ly n) (ak (aG 100 (au b.2.1.3)) (Ly n) (aj (F15 n (b.2.1.4,50,())) λc=>ak (av
 c.1.1) (Ly n) (aj (F63 n (b.2.1.5,0,1000000000,())) λd=>ak (av d.1.1) (Ly n) (aj (F64 n b.2) λe=>ak (av e.1.1) (Ly n)
 (aj (bw (Int×U) (aa×U) (U) (λg=>ak (aG g.1 (au b.2.1.1)) (aS (aM g.1 b.2.1.1) (aj (F65 n (b.1,b.2.1,bE
 b.2.1.1 (aC g.1) bD,())) λh=>ak (av h.1.1) (Z (X () (J,()))) (Z (N (aJ .i64 g.1 1,()))))) (Z (H 0
 g))) n (0,())) λg=>bU g (λ_ _=>aj (bw (Int×U) (aa×U) (U) (λj=>ak (aG j.1 (au b.2.1.3)) (aS (aM j.1
 b.2.1.3) (aj (F63 n ((bE b.2.1.3 (aC j.1) kM).1,0,3,())) λk=>ak (av k.1.1) (Z (X () (J,()))) (aS (aM j.1
 b.2.1.3) (aj (F63 n ((bE b.2.1.3 (aC j.1) kM).2,(-1000000000),1000000000,())) λl=>ak (av l.1.1) (Z (X () (J,())))
 (Z (N (aJ .i64 j.1 1,()))))))) (Z (H 0 j))) n (0,())) λj=>bU j (λ_ _=>Z ((W,()),())) (λ_ l=>Z (l,
 ())) λ_ _=>Y) (λ_ i=>Z (i,())) λ_ _=>Y)))))
def k32:OC:=dm [k15 n,k63 n,k64 n,k65 n] [(32,0,lS [(5,dA)]),(32,2,lS [(6,dA)])] n 32 an7 K4 J (F32 n)
def F21:Nat->Y49->Y35:=
 λn b=>aj (F14 n (b.1,())) λc=>ak c.1.2.1 (aj (F32 n (c.1.1,b.2)) λd=>Z ((c.1.1,d.1),())) (Z ((c.1.1,J,()),()))
def k21:OC:=dm [k14 n,k32 n] [] n 21 P66 K121 J (F21 n)
def F36:Nat->an0->O Y78:=
 λn b=>aj (bw (Y91) (L Int×U) (U) (λc=>ak (aG c.2.1 (au b.2.1.2)) (aj (F37 n (b.1,b.2.1,c.2)) λd=>ak
 (av (af d.1.1.2 2)) (aS (dI c.1 [c.2.1]) (Z (N (dx c.1 [c.2.1],aJ .i64 c.2.1 1,())))) (Z (N (c.1,aJ .i64 c.2.1
 1,())))) (Z (H 0 c))) n ([],0,())) λc=>bU c (λ_ e=>Z ((e.1,()),())) (λ_ e=>Z (e,())) λ_ _=>Y
def k36:OC:=dm [k37 n] [(36,0,lS [(5,.one (.own (.int .i64))),(6,dA)])] n 36 an7 K21 J (F36 n)
def F62:Nat->Int×Int×U->IN:=
 λn b=>aS (nzI b.2.1) (ak (aG (uD b.1 b.2.1) 0) (Z ((aJ .i64 (uD b.1 b.2.1) b.2.1,()),())) (Z ((uD b.1 b.2.1,()),())))
def k62:OC:=dm [] [] n 62 P14 K2 J (F62 n)
def Rj(n:Nat)(c:Y39):O Y38:=
 Z ((c.1.1,bP,0,8,()),())
def F30:Nat->VE->O Y38:=
 λn b=>aj (F29 n (b.1,b.2.1,0,())) λc=>ak (av c.1.2.2.1) (Rj n c) (aj (F36 n (b.1,c.1.1,())) λd=>ak (af (au d.1.1)
 0) (Z ((c.1.1,bP,0,5,()),())) (aj (F62 n (b.2.2.1,au d.1.1,())) λe=>aS (aM e.1.1 d.1.1) (aj (F37 n (b.1,c.1.1,bE d.1.1
 (aC e.1.1) 0,())) λg=>aj (F29 n (b.1,g.1.1.1,aJ .i64 c.1.2.1 1,())) λh=>ak (av h.1.2.2.1) (Rj n h) (ak (aG 5000
 h.1.2.1) (Rj n h) (Z ((h.1.1,g.1.1.3,h.1.2.1,0,()),()))))))
def k30:OC:=dm [ZY n,k36 n,k37 n,k62 n] [] n 30 aja K68 J (F30 n)
def ace(d:anD):ai:=
 ai.mk d.2.2.1.1 d.2.2.1.2.1 d.2.2.1.2.2.1 d.2.2.1.2.2.2.1 d.2.2.1.2.2.2.2.1
def LB(e:Y38):DD:=
 (e.1.1.1,e.1.1.2,e.1.1.3,e.1.1.4,e.1.1.5,())
def aoj(c:Y39):DD:=
 (c.1.1.1,c.1.1.2,c.1.1.3,c.1.1.4,c.1.1.5,())
def F22:Nat->Y40->O Y96:=
 λn b=>aj (F29 n (b.1,b.2.1,0,())) λc=>ak (av c.1.2.2.1) (Z ((c.1.1,[],8,()),())) (aj (bw (anD) (anC) (DD×DD×U) (λd=>ak (aG d.2.1 (au b.2.2.1)) (aS (aM d.2.1 b.2.2.1) (aj (F30 n (b.1,ace d,bE b.2.2.1 (aC d.2.1) 0,())) λe=>ak
 (af e.1.2.2.2.1 5) (Z (X (d.2.2.1,d.2.2.1,()) (d.1,0,()))) (ak (av (af e.1.2.2.2.1 0)) (Z (X (d.2.2.1,LB e,()) ([],
 e.1.2.2.2))) (aS (dI d.1 [e.1.2.1]) (Z (N (dx d.1 [e.1.2.1],aJ .i64 d.2.1 1,LB e,d.2.2.2))))))) (Z (H 0 d))) n ([],0,
 aoj c,([],[],[],[],0,()),())) λd=>bU d (λ_ g=>Z ((ace g,g.1,0,()),())) (λe g=>Z ((ai.mk e.2.1.1 e.2.1.2.1
 e.2.1.2.2.1 e.2.1.2.2.2.1 e.2.1.2.2.2.2.1,g),())) λ_ _=>Y)
def k22:OC:=dm [ZY n,k30 n] [(22,0,⟨[(11,.one (.own (.st 11))),(12,dA),(0,b4z),(0,b4z)],[.slot 4,.slot 6],[],0⟩)] n 22 auQ K65 J (F22 n)
def LA(b:anv)(c:Int×U):aE:=
 bE b.2.1 (aC c.1) bP
def F23:Nat->anv->O Y4:=
 λn b=>ak (av (af (au b.1) (au b.2.1))) (Z ((J,()),())) (aj (bw (Int×U) (aa×U) (U) (λc=>ak
 (aG c.1 (au b.1)) (aS (aM c.1 b.1) (aS (aM c.1 b.2.1) (ak (av (bR (af (bE b.1 (aC c.1) bP).1 (LA b c).1) (bR
 (af (bE b.1 (aC c.1) bP).2 (LA b c).2) (bR (af (bE b.1 (aC c.1) bP).3 (LA b c).3) (bR (af (bE b.1 (aC
 c.1) bP).4.1 (LA b c).4.1) (bR (af (bE b.1 (aC c.1) bP).4.2 (LA b c).4.2) W)))))) (Z (X () (J,())))
 (Z (N (aJ .i64 c.1 1,())))))) (Z (H 0 c))) n (0,())) λc=>bU c (λ_ _=>Z ((W,()),())) (λ_ e=>Z (e,
 ())) λ_ _=>Y)
def k23:OC:=dm [] [(23,0,lS [(5,dA)])] n 23 auP K4 J (F23 n)
end
end
section
variable (n:Nat)
open Go TL
noncomputable section
set_option maxRecDepth 100000
set_option maxHeartbeats 0
def acd(n:Nat):anA:=
 Z ((cX,0,2,()),())
def F27:Nat->Y49->anA:=
 λn b=>aj (F99 n (b.1,())) λc=>ak (av (af c.1.2.1 0)) (acd n) (aj (bw (Y51) (aa×U) (Y52) (λd=>ak (aG d.1
 (au b.1.1)) (aS (aM d.1 c.1.1) (ak (bE c.1.1 (aC d.1) aW).1 (aS (aM d.1 b.1.1) (ak (af (bE b.1.1 (aC d.1) cg).1 6)
 (aS (aM d.1 b.1.1) (Z (N (aJ .i64 d.1 1,jK (A:=sg.A) (Ty.int .i64) (bE b.1.1 (aC d.1) cg).2 W d.2.1,())))) (Z
 (N (aJ .i64 d.1 1,d.2))))) (Z (N (aJ .i64 d.1 1,d.2))))) (Z (H 0 d))) n (0,[],())) λd=>bU d (λ_ g=>aj
 (F111 n (cT.mk b.2.1 b.1 c.1.1 g.2.1,())) λh=>ak (av h.1.1) (acd n) (aj (F48 n (((b.2.1.1,b.2.1.2,b.2.1.3,b.2.1.4,b.2.1.5,
 b.1.1,b.1.2,b.1.3,b.1.4,b.1.5,c.1.1,()),()),g.2.1,0,())) λi=>ak (av i.1.2.1) (Z ((cX,0,8,()),())) (aj (F49 n i.2)
 λj=>Z ((j.1.1,i.1.1,0,()),())))) (λ_ g=>ak (av g.1) (acd n) Y) λ_ _=>Y)
def k27:OC:=dm [k48 n,k49 n,k99 n,ad2 n] [(44,0,⟨[(23,dA),(0,Tm)],[.cell (.slot 19) 11],[],0⟩)] n 27 P66 K165 J (F27 n)
end
end
section
variable (n:Nat)
open Go TL
noncomputable section
set_option maxRecDepth 100000
set_option maxHeartbeats 0
end
end
end Mn
namespace TL
open Go
def Ev{α:Type}(f:Nat->O α)(r:α):Prop:=∃a,∀n,a<=n->f n=Z r
section
variable {α β γ:Type}
def Ev.pure(r:α):Ev (λ_=>Z r) r:=⟨0,λ_ _=>rfl⟩
def Ev.of_eq{f:Nat->O α}{r:α}(h:∀n,f n=Z r):Ev f r:=⟨0,λn _=>h n⟩
def Ev.n9{f g:Nat->O α}{r:α}(h:∀n,f n=g n)(a:Ev g r):Ev f r:=(funext h:f=g)▸a
theorem Ev.aj{f:Nat->O α}{a:α}{g:Nat->α->O β}{r:β}(h:Ev f a)(d:Ev (λn=>g n a) r):Ev (λn=>aj (f n) (g n)) r:=by
 let ⟨b,h⟩:=h
 let ⟨c,d⟩:=d
 refine⟨max b c,λn e=>?_⟩
 grind[TL.aj]
end
def wI{α β:Type}(f:Nat->Nat->α->O β)(x:α)(r:β):Prop:=∀d,Ev (λn=>f n (n-d) x) r
theorem wI.step{α β:Type}{f:Nat->Nat->α->O β}{g:Nat->(α->O β)->α->O β}{x:α}{r:β}(h:∀n k,f n (k+1)=g n (f n k))
  (b:∀d,Ev (λn=>g n (f n (n-d)) x) r):wI f x r:=by
 intro d
 let ⟨a,c⟩:=b (d+1)
 refine⟨max a (d+1),λn i=>?_⟩;have e:n-d=(n-(d+1))+1:=by omega
 grind
section
variable {X R B P:Type}
inductive fu(F:Nat->X->Option (LO X R B P)):X->LO X R B P->Prop
 |next {x y:X} {o:LO X R B P}:Ev (λn=>F n x) (.next y)->fu F y o->fu F x o|out {x y:X} {j:Nat}:Ev (λn=>F n x) (.out j y)->fu F x (.out j y)|ret {x:X} {b:B} {r:R}:Ev (λn=>F n x) (.ret b r)->fu F x (.ret b r)|iN {x:X} {b:B} {p:P}:Ev (λn=>F n x) (.iN b p)->fu F x (.iN b p)
def fu.last{F:Nat->X->O (LO X R B P)}{x:X}{o:LO X R B P}(h:Ev (λn=>F n x) o)(hn:∀y,o≠.next y):fu F x o:=by cases o with|next y=>simp_all|out j y=>exact .out h|ret b r=>exact .ret h|iN b p=>exact .iN h
theorem fu.fuel{F:Nat->X->O (LO X R B P)}{x:X}{o:LO X R B P}(h:fu F x o):∃a,∀n k,a<=n->a<=k->iter (F n) k x=Z o:=by
 induction h with
 |next h _ e=>
  let ⟨a,h⟩:=h
  let ⟨b,e⟩:=e
  refine⟨max a b+1,λn k c d=>?_⟩;cases k with
  |zero=>omega|succ k=>
   grind[iter]
 |out h=>
  let ⟨a,h⟩:=h
  refine⟨a+1,λn k c d=>?_⟩;cases k with|zero=>omega|succ k=>unfold iter;rw[show F n _=_ from h n (by omega)]
 |ret h=>
  let ⟨a,h⟩:=h
  refine⟨a+1,λn k c d=>?_⟩;cases k with|zero=>omega|succ k=>unfold iter;rw[show F n _=_ from h n (by omega)]
 |iN h=>
  let ⟨a,h⟩:=h
  refine⟨a+1,λn k c d=>?_⟩;cases k with|zero=>omega|succ k=>unfold iter;rw[show F n _=_ from h n (by omega)]
theorem Ev.iter{F:Nat->X->O (LO X R B P)}{x:X}{o:LO X R B P}(h:fu F x o):Ev (λn=>TL.iter (F n) n x) o:=by
 let ⟨a,h⟩:=h.fuel
 exact⟨a,λn b=>h n n b b⟩
def Ev.bp{β:Type}{F:Nat->X->O (LO X R B P)}{x:X}{o:LO X R B P}(h:fu F x o)(g:Nat->LO X R B P->O β)(r:β)(a:Ev (λn=>g n o) r):Ev (λn=>TL.aj (TL.iter (F n) n x) (g n)) r:=(Ev.iter h).aj a
def fu.many{F:Nat->X->O (LO X R B P)}{o:LO X R B P}:∀(k:Nat)(s:Nat->X),(∀i,i<k->Ev (λn=>F n (s i)) (.next (s (i+1))))->fu F (s k) o->fu F (s 0) o
 |0,_,_,h=>h|k+1,s,a,h=>.next (a 0 (by omega)) (fu.many k (λi=>s (i+1)) (λi b=>a (i+1) (by omega)) h)
theorem nY{F:Nat->X->O (LO X R B P)}(len:Nat)(s:Nat->X)(q:Nat->aa)(bad:Nat->LO X R B P)(g:Nat)(o:∀i y,bad i≠.next y)
  (h:∀i,i<len->(∀j,j<i->q j=W)->Ev (λn=>F n (s i)) (bif q i then .next (s (i+1))else bad i))
  (p:(∀j,j<len->q j=W)->Ev (λn=>F n (s len)) (.out g (s len))) :
  ((∀i,i<len->q i=W)/\fu F (s 0) (.out g (s len)))\/∃i,i<len/\q i=J/\(∀j,j<i->q j=W)/\fu F (s 0) (bad i):=by
 have key:∀m i,i+m=len->(∀j,j<i->q j=W)->((∀i,i<len->q i=W)/\fu F (s i) (.out g (s len)))\/∃k,k<len/\q k=J/\(∀j,j<k->q j=W)/\fu F (s i) (bad k):=by
  intro m
  induction m with
  |zero=>
   intro i r e;have:i=len:=by omega
   subst this;exact .inl ⟨e,.out (p e)⟩
  |succ m t=>
   intro i r e;have f:=h i (by omega) e;cases l:q i with
   |false=>rw[l]at f;exact .inr ⟨i,by omega,l,e,.last f (o i)⟩
   |true=>
    rw[l]at f;rcases t (i+1) (by omega) (λj u=>by
     grind)with⟨a,b⟩|⟨k,a,b,c,d⟩
    .exact .inl ⟨a,.next f b⟩
    .exact .inr ⟨k,a,b,c,.next f d⟩
 simp_all
def kG{F:Nat->X->O (LO X R B P)}(len:Nat)(s:Nat->X)(a:Nat)(h:∀i,i<len->Ev (λn=>F n (s i)) (.next (s (i+1))))(b:Ev (λn=>F n (s len)) (.out a (s len))):fu F (s 0) (.out a (s len)):=
 fu.many len s h (.out b)
def fu.inv{F:Nat->X->O (LO X R B P)}(I:X->Prop)(m:X->Nat)(Q:LO X R B P->Prop)
  (h:∀x,I x->(∃y,Ev (λn=>F n x) (.next y)/\I y/\m y<m x)\/∃o,(∀y,o≠.next y)/\Ev (λn=>F n x) o/\Q o):∀x,I x->∃o,fu F x o/\Q o:=by
 intro x
 induction b:m x using Nat.strongRecOn generalizing x with
 |ind k c=>
  intro d;subst b;obtain⟨y,e,f,a⟩|⟨o,g,i,j⟩:=h x d
  .let ⟨o,h1,h2⟩:=c (m y) a y rfl f
   exact⟨o,.next e h1,h2⟩
  exact⟨o,.last i g,j⟩
end
theorem Fi{n:Int}(h1:-9223372036854775808<=n)(h2:n<=9223372036854775807):IntKind.wrap .i64 n=n:=by
 grind[IntKind.wrap,IntKind.bits,IntKind.signed]
theorem bQ{a b:Int}(h1:-9223372036854775808<=a+b)(h2:a+b<=9223372036854775807):aJ .i64 a b=a+b:=Fi h1 h2
theorem de{a b:Int}(h1:-9223372036854775808<=a-b)(h2:a-b<=9223372036854775807):bn .i64 a b=a-b:=Fi h1 h2
def Mr{a b:Int}(h1:-9223372036854775808<=a*b)(h2:a*b<=9223372036854775807):I8 .i64 a b=a*b:=Fi h1 h2
def iw{α:Type}{n:Int}{l:L α}:aM n l=W↔0<=n/\n<l.length:=by simp[aM]
def aab{α:Type}{k:Nat}{l:L α}:ei k l=W↔k<l.length:=by simp[ei]
def vE{lo hi len:Int}:eF lo hi len=W↔0<=lo/\lo<=hi/\hi<=len:=by simp[eF]
def HZ{α:Type}{a b:L α}:dI a b=W↔a.length+b.length<=17179869184:=by simp[dI]
theorem qo{a b:Int}:af a b=W↔a=b:=by simp[af]
def yD{a b:Int}:aG a b=W↔a<b:=by simp[aG]
section
variable {α β:Type}
theorem uy(a:α)(f:α->O β):aj (Z a) f=f a:=rfl
theorem amU{R P:Type}(r:R)(f:R->O α)(g:P->O α):cD (.ok r) f g=f r:=rfl
theorem aiu{R P:Type}(p:P)(f:R->O α)(g:P->O α):cD (.iN p) f g=g p:=rfl
theorem abd(x:O α):aS W x=x:=rfl
theorem Og(x y:O α):ak W x y=x:=rfl
theorem J4(x y:O α):ak J x y=y:=rfl
def BL{γ:Type}{i:Int}{l:L γ}(h1:0<=i)(h2:i<(l.length:Int))(x:O α):aS (aM i l) x=x:=by rw[iw.2 ⟨h1,h2⟩];rfl
def abe{γ:Type}{k:Nat}{l:L γ}(h:k<l.length)(x:O α):aS (ei k l) x=x:=by rw[aab.2 h];rfl
def Vu{a b c:Int}(h1:0<=a)(h2:a<=b)(h3:b<=c)(x:O α):aS (eF a b c) x=x:=by rw[vE.2 ⟨h1,h2,h3⟩];rfl
def BM{γ:Type}{a b:L γ}(h:a.length+b.length<=17179869184)(x:O α):aS (dI a b) x=x:=by rw[HZ.2 h];rfl
def aeS(a b:aa)(x:O α):aS (oe a b) x=aS a (aS b x):=by cases a<;>rfl
def aeR{a b:Int}(h:a=b)(x:O α):aS (fZ a b) x=x:=by subst h;simp[fZ,aS]
def ac0{a b:Int}(h:a=b)(x y:O α):ak (fZ a b) x y=x:=by subst h;simp[fZ,ak]
def Yx{a b:Int}(h:a≠b)(x y:O α):ak (fZ a b) x y=y:=by simp[fZ,ak,h]
def nR{a b:Int}(h:a<b)(x y:O α):ak (aG a b) x y=x:=by rw[yD.2 h];rfl
def uL{a b:Int}(h:b<=a)(x y:O α):ak (aG a b) x y=y:=by simp[ak,aG,Int.not_lt.2 h]
def RI{a b:Int}(h:a<=b)(x y:O α):ak (bB a b) x y=x:=by simp[ak,bB,h]
def acZ{a b:Int}(h:b<a)(x y:O α):ak (bB a b) x y=y:=by simp[ak,bB,Int.not_le.2 h]
def RJ{a b:Int}(h:a=b)(x y:O α):ak (af a b) x y=x:=by rw[qo.2 h];rfl
def Fq{a b:Int}(h:a≠b)(x y:O α):ak (af a b) x y=y:=by rw[show af a b=J by simp[af,h]];rfl
def Fp(a:aa)(x y:O α):ak (av a) x y=ak a y x:=by cases a<;>rfl
theorem adF{a b:Int}(h:a<b):aG a b=W:=yD.2 h
def akB{a b:Int}(h:b<=a):aG a b=J:=by simp[aG,Int.not_lt.2 h]
def akG{a b:Int}(h:a<=b):bB a b=W:=by simp[bB,h]
def akH{a b:Int}(h:b<a):bB a b=J:=by simp[bB,Int.not_le.2 h]
theorem JE{a b:Int}(h:a=b):af a b=W:=qo.2 h
theorem wH{a b:Int}(h:a≠b):af a b=J:=by simp[af,h]
theorem aiG(x y:α):(bif W then x else y)=x:=rfl
theorem aiH(x y:α):(bif J then x else y)=y:=rfl
def Oa(l:L α):cO l 0 (l.length:Int)=l:=by simp[cO]
def Cw(l:L α)(k:Int):cO l k (l.length:Int)=l.drop k.toNat:=by simp[cO]
def yg(l:L α)(k:Int):cO l 0 k=l.take k.toNat:=by simp[cO]
theorem ZF(k:Nat):aC (k:Int)=k:=rfl
theorem eZ(l:L α):au l=(l.length:Int):=rfl
theorem aiv(l:L α)(k:Nat)(z:α):bE l k z=l.getD k z:=rfl
theorem adv(n:Int):aC n=n.toNat:=rfl
theorem aeU(a b:L α):dx a b=a++b:=rfl
theorem adl(l:L α)(k:Nat)(x:α):lM l k x=l.set k x:=rfl
def adL(a b:L α):(a++b).length=a.length+b.length:=jR
def ZT(a:α)(l:L α):(a::l).length=l.length+1:=l5
theorem adK:([]:L α).length=0:=rfl
def ZE(k:Nat):Int.toNat (k:Int)=k:=uP k
theorem ZD:Int.toNat 0=0:=rfl
theorem adu:Int.toNat 1=1:=rfl
end
def hY:(∀{α:Type}(a b:L α),(a++b).length=a.length+b.length)/\(∀{α:Type}(a:α)(l:L α),(a::l).length=l.length+1)/\(∀{α:Type},([]:L α).length=0)/\
 (∀{α:Type}(k:Nat)(l:L α),(l.drop k).length=l.length-k)/\(∀{α:Type}(k:Nat)(l:L α),(l.take k).length=min k l.length)/\(∀{α:Type}(k:Nat)(x:α)(l:L α),(l.set k x).length=l.length):=
 ⟨λ_ _=>jR,λ_ _=>rfl,rfl,λ_ _=>Uy,λ_ _=>Me,λ_ _ _=>Md⟩
def aV:(∀{α:Type}{β:Type}(a:α)(f:α->O β),aj (Z a) f=f a)/\
 (∀{α:Type}{R P:Type}(r:R)(f:R->O α)(g:P->O α),cD (.ok r) f g=f r)/\
 (∀{α:Type}{R P:Type}(p:P)(f:R->O α)(g:P->O α),cD (.iN p) f g=g p)/\
 (∀{α:Type}(x:O α),aS W x=x)/\
 (∀{α:Type}(x y:O α),ak W x y=x)/\
 (∀{α:Type}(x y:O α),ak J x y=y)/\
 (∀{α:Type}{γ:Type}{i:Int}{l:L γ}(h1:0<=i)(h2:i<(l.length:Int))(x:O α),aS (aM i l) x=x)/\
 (∀{α:Type}{γ:Type}{k:Nat}{l:L γ}(h:k<l.length)(x:O α),aS (ei k l) x=x)/\
 (∀{α:Type}{a b c:Int}(h1:0<=a)(h2:a<=b)(h3:b<=c)(x:O α),aS (eF a b c) x=x)/\
 (∀{α:Type}{γ:Type}{a b:L γ}(h:a.length+b.length<=17179869184)(x:O α),aS (dI a b) x=x)/\
 (∀{α:Type}(a b:aa)(x:O α),aS (oe a b) x=aS a (aS b x))/\
 (∀{α:Type}{a b:Int}(h:a=b)(x:O α),aS (fZ a b) x=x)/\
 (∀{α:Type}{a b:Int}(h:a=b)(x y:O α),ak (fZ a b) x y=x)/\
 (∀{α:Type}{a b:Int}(h:a≠b)(x y:O α),ak (fZ a b) x y=y)/\
 (∀{α:Type}{a b:Int}(h:a<b)(x y:O α),ak (aG a b) x y=x)/\
 (∀{α:Type}{a b:Int}(h:b<=a)(x y:O α),ak (aG a b) x y=y)/\
 (∀{α:Type}{a b:Int}(h:a<=b)(x y:O α),ak (bB a b) x y=x)/\
 (∀{α:Type}{a b:Int}(h:b<a)(x y:O α),ak (bB a b) x y=y)/\
 (∀{α:Type}{a b:Int}(h:a=b)(x y:O α),ak (af a b) x y=x)/\
 (∀{α:Type}{a b:Int}(h:a≠b)(x y:O α),ak (af a b) x y=y)/\
 (∀{α:Type}(a:aa)(x y:O α),ak (av a) x y=ak a y x)/\
 (∀{a b:Int}(h:a<b),aG a b=W)/\
 (∀{a b:Int}(h:b<=a),aG a b=J)/\
 (∀{a b:Int}(h:a<=b),bB a b=W)/\
 (∀{a b:Int}(h:b<a),bB a b=J)/\
 (∀{a b:Int}(h:a=b),af a b=W)/\
 (∀{a b:Int}(h:a≠b),af a b=J)/\
 (∀{α:Type}(x y:α),(bif W then x else y)=x)/\
 (∀{α:Type}(x y:α),(bif J then x else y)=y)/\
 (∀{α:Type}(l:L α),cO l 0 (l.length:Int)=l)/\
 (∀{α:Type}(l:L α),au l=(l.length:Int))/\
 (∀{α:Type}(l:L α)(k:Nat)(z:α),bE l k z=l.getD k z)/\
 (∀(n:Int),aC n=n.toNat)/\
 (∀{α:Type}(a b:L α),dx a b=a++b)/\
 (∀{α:Type}(l:L α)(k:Nat)(x:α),lM l k x=l.set k x)/\
 (∀{α:Type}(a b:L α),(a++b).length=a.length+b.length)/\
 (∀{α:Type}(a:α)(l:L α),(a::l).length=l.length+1)/\
 (∀{α:Type},([]:L α).length=0)/\
 (∀(k:Nat),Int.toNat (k:Int)=k)/\
 (Int.toNat 0=0)/\
 (Int.toNat 1=1):=
 ⟨@uy,@amU,@aiu,@abd,@Og,@J4,@BL,@abe,@Vu,@BM,@aeS,@aeR,@ac0,@Yx,@nR,@uL,@RI,@acZ,@RJ,@Fq,@Fp,@adF,@akB,@akG,@akH,@JE,@wH,@aiG,@aiH,@Oa,@eZ,@aiv,@adv,@aeU,@adl,@adL,@ZT,@adK,@ZE,@ZD,@adu⟩
theorem bC{α:Type}{f:Nat->O α}{r:α}(h:∀n,f n=Z r):Ev f r:=.of_eq h
theorem dg{α:Type}{f:Nat->O α}{r:α}(h:∀n,f n=Z r:=by intro n;rfl):Ev f r:=.of_eq h
end TL
namespace Mn
open Go TL
def FW(a b:aA):aa:=a.Kind==b.Kind&&a.N==b.N
def ia(n:Int):aA:=⟨1,n⟩
def iI(b:aa):aA:=⟨2,bif b then 1 else 0⟩
def eA:aA:=⟨3,0⟩
def wq(n:Int):aA:=⟨5,n⟩
def lG(v:aA):aA:=if v.Kind=4\/v.Kind=5 then wq 0 else v
def lz(c:aB)(n:Int):Int:=(c.Cons.getD n.toNat br).lE
def lI:L Nat:=[0,0,0,0,0,0,0,2,2,1,0,0,1,2,2,2,2,2,0,1,0,1,1,2,1,1,0,2,1,1,0,0,0,0,1]
def cz(c:aB)(i:bT):Nat:=if i.Op=18 then(lz c i.A).toNat else lI.getD i.Op.toNat 0
def aZ(c:aB)(n:Int):bT:=c.dJ.getD n.toNat cg
def jd(c:aB)(n:Int):aI:=c.ey.getD n.toNat aR
def cN(w:ai)(n:Int):bG:=w.aQ.getD n.toNat bD
def bu(w:ai)(at_:Int):Int:=w.aY.getD at_.toNat 0
def e8(l:L aA)(n:Nat):aA:=l.getD n bA
def gw(w:ai)(n:Int)(o:bG):ai:=⟨w.aQ.set n.toNat o,w.aY,w.mg,w.dJ,w.Used⟩
def gr(w:ai)(o:bG):ai:=⟨w.aQ++[o],w.aY,w.mg,w.dJ,w.Used⟩
inductive tq where
 |fail (s:Int)|waits|done (v:aA)|go (w:ai) (fr:List aq) (e:Option aE)
def l6(f:aq)(v:aA):aq:=⟨f.At,f.Env,f.Stack++[v],f.dO⟩
def fI(w:ai)(left:L aq)(f:aq)(v:aA)(e:O aE:=Y):tq:=.go w (left++[l6 f v]) e
def l9(w:ai)(left:L aq)(f:aq)(o:bG)(e:O aE:=Y):tq:=
 if 120<=w.aQ.length then .fail 4 else fI (gr w o) left f (wq w.aQ.length) e
def gH(w:ai)(v:aA)(a:Int):O bG:=
 if v.Kind=5/\(cN w v.N).Form=a then Z (cN w v.N)else Y
def iB(c:aB)(w:ai)(f v:aA):O aq:=
 if f.Kind=4 then Z ⟨c.dh.getD f.N.toNat 0,[v],[],J⟩
 else match gH w f 2 with
  |some o=>Z ⟨o.N,o.fL++[v],[],J⟩|none=>Y
def kS:L aq->aA->L aq
 |[],_=>[]|[f],v=>[l6 f v]|f::l,v=>f::kS l v
def jl(w:ai)(left l:L aq):tq:=if 40<left.length+l.length then .fail 4 else .go w (left++l) Y
def od(c:aB)(w:ai)(left:L aq)(f v:aA)(reset:aa):tq:=
 match iB c w f v with
 |some b=>jl w left [⟨b.At,b.Env,b.Stack,reset⟩]|none=>match gH w f 5 with
  |some o=>jl w left (kS o.Frames v)|none=>.fail 2
def jh(n:Int):aa:=decide (-1000000000<=n)&&decide (n<=1000000000)
def rT(w:ai)(left:L aq)(f:aq)(op:Int)(u v:aA):tq:=
 if op=17 then(if u.Kind≠v.Kind\/3<u.Kind then .fail 2 else fI w left f (iI (u.N==v.N)))
 else if u.Kind≠1\/v.Kind≠1 then .fail 2
 else if op=16 then fI w left f (iI (decide (u.N<v.N)))
 else
  let n:=if op=13 then u.N+v.N else if op=14 then u.N-v.N else u.N*v.N
  if jh n=W then fI w left f (ia n)else .fail 4
mutual
def iA(w:ai):aI->aA->O (L aA)
 |⟨a,n,text,parts⟩,v=>
  if a=1 then Z []else if a=2 then Z [v]
  else if a=3 then(if FW v (ia n)then Z []else Y)
  else if a=4 then(if FW v (iI (n==1))then Z []else Y)
  else if a=5 then(if FW v eA then Z []else Y)
  else match gH w v 1 with
   |none=>Y|some o=>if o.N≠n\/o.fL.length≠parts.length then Y else fO w parts o.fL
def fO(w:ai):L aI->L aA->O (L aA)
 |q::a,v::b=>match iA w q v with
  |none=>Y|some l=>match fO w a b with
   |none=>Y|some m=>Z (l++m)
 |_,_=>Z []
end
def j9{α:Type}(q:α->aa):L α->O Nat
 |[]=>Y|a::l=>match j9 q l with
  |some k=>Z (k+1)|none=>bif q a then Z 0 else Y
def CA(w:ai)(left:L aq)(f:aq)(start:Int):tq:=
 match j9 (λf:aq=>f.dO) (left++[f])with
 |none=>.fail 3|some k=>if 120<=w.aQ.length then .fail 4
  else .go (gr w ⟨5,0,[],(left++[f]).drop k⟩) ((left++[f]).take k++[⟨start,f.Env++[wq w.aQ.length],[],W⟩]) Y
def zK(c:aB)(w:ai)(at_:Int)(left:L aq)(f:aq)(g:aA):tq:=
 let mk (l:L aq):tq:=if 120<=w.aQ.length then .fail 4
  else fI ⟨w.aQ++[⟨6,0,[],l⟩],w.aY++[(w.aQ.length:Int)],w.mg,w.dJ,w.Used⟩ left f (wq w.aQ.length) (Z ⟨at_,19,0,eA⟩)
 match iB c w g eA with
 |some b=>mk [b]|none=>match gH w g 5 with
  |some k=>mk (kS k.Frames eA)|none=>.fail 2
def E4(w:ai)(at_:Int)(left:L aq)(f:aq)(v:aA):tq:=match gH w v 3 with
 |none=>.fail 2|some o=>fI w left f (e8 o.fL 0) (Z ⟨at_,17,0,lG (e8 o.fL 0)⟩)
def jb(w:ai)(at_:Int)(left:L aq)(f:aq)(c v:aA):tq:=match gH w c 3 with
 |none=>.fail 2|some o=>fI (gw w c.N ⟨3,0,[v],[]⟩) left f eA (Z ⟨at_,18,0,lG v⟩)
def Gq(w:ai)(at_:Int)(left:L aq)(f:aq)(c v:aA):tq:=match gH w c 4 with
 |none=>.fail 2|some o=>if 4<=o.fL.length then .waits else fI (gw w c.N ⟨4,0,o.fL++[v],[]⟩) left f eA (Z ⟨at_,22,0,lG v⟩)
def Gc(w:ai)(at_:Int)(left:L aq)(f:aq)(c:aA):tq:=match gH w c 4 with
 |none=>.fail 2|some o=>match o.fL with
  |[]=>.waits|v::l=>fI (gw w c.N ⟨4,0,l,[]⟩) left f v (Z ⟨at_,23,0,lG v⟩)
def HF(w:ai)(at_:Int)(left:L aq)(f:aq)(v:aA):tq:=match gH w v 6 with
 |none=>.fail 2|some o=>if o.N=0 then .waits else if o.N≠1 then .fail o.N else fI w left f (e8 o.fL 0) (Z ⟨at_,20,0,lG (e8 o.fL 0)⟩)
def Sk(w:ai)(at_:Int)(left:L aq)(f:aq)(a:Int)(v:aA):tq:=
 if v.Kind≠1 then .fail 2 else if 100<=w.mg.length then .fail 4
 else fI ⟨w.aQ,w.aY,w.mg++[⟨a,v.N⟩],w.dJ,w.Used⟩ left f eA (Z ⟨at_,24,a,lG v⟩)
def inS(w:ai)(at_:Int)(left:L aq)(f:aq):tq:=match w.dJ with
 |[]=>.waits|i::l=>if 1000000000<=w.Used then .fail 4 else fI ⟨w.aQ,w.aY,w.mg,l,w.Used+1⟩ left f (ia i) (Z ⟨at_,25,0,ia i⟩)
def ac3(w:ai)(left:L aq)(v:aA):tq:=match left with
 |[]=>.done v|_::_=>.go w (left.take (left.length-1)++[l6 (left.getD (left.length-1) aT) v]) Y
theorem Gy{w:ai}{l:L aq}{g:aq}{v:aA}:ac3 w (l++[g]) v=.go w (l++[l6 g v]) Y:=by
 unfold ac3;split
 simp_all
 grind
def l7(c:aB)(w:ai)(at_:Int)(left:L aq)(i:bT)(f:aq)(l:L aA):tq:=
 match i.Op.toNat with
 |1=>fI w left f (ia i.A)|2=>fI w left f (iI (i.A==1))|3=>fI w left f eA|4=>fI w left f (e8 f.Env i.A.toNat)|5=>fI w left f ⟨4,i.A⟩|6=>l9 w left f ⟨2,i.A,f.Env,[]⟩|7=>od c w (left++[f]) (e8 l 0) (e8 l 1) J|8=>od c w left (e8 l 0) (e8 l 1) f.dO|9=>.go w (left++[⟨f.At,f.Env++[e8 l 0],f.Stack,f.dO⟩]) Y|10=>.go w (left++[⟨f.At,f.Env.take (f.Env.length-i.A.toNat),f.Stack,f.dO⟩]) Y|11=>.go w (left++[⟨i.A,f.Env,f.Stack,f.dO⟩]) Y|12=>if(e8 l 0).Kind≠2 then .fail 2 else .go w (left++[⟨if(e8 l 0).N=0 then i.A else f.At,f.Env,f.Stack,f.dO⟩]) Y|13|14|15|16|17=>rT w left f i.Op (e8 l 0) (e8 l 1)|18=>l9 w left f ⟨1,i.A,l,[]⟩|19=>match iA w (jd c i.A) (e8 l 0)with
  |some b=>.go w (left++[⟨f.At,f.Env++b,f.Stack,f.dO⟩]) Y|none=>.go w (left++[⟨i.B,f.Env,f.Stack++[e8 l 0],f.dO⟩]) Y
 |20=>.fail 3|21=>l9 w left f ⟨3,0,[e8 l 0],[]⟩ (Z ⟨at_,16,0,lG (e8 l 0)⟩)|22=>E4 w at_ left f (e8 l 0)|23=>jb w at_ left f (e8 l 0) (e8 l 1)|24=>zK c w at_ left f (e8 l 0)|25=>HF w at_ left f (e8 l 0)|26=>l9 w left f ⟨4,0,[],[]⟩ (Z ⟨at_,21,0,eA⟩)|27=>Gq w at_ left f (e8 l 0) (e8 l 1)|28=>Gc w at_ left f (e8 l 0)|29=>Sk w at_ left f i.A (e8 l 0)|30=>inS w at_ left f|31=>jl w (left++[f]) [⟨i.A,f.Env,[],W⟩]|32=>CA w left f i.A|33=>fI w left f eA (Z ⟨at_,28,0,eA⟩)|_=>ac3 w left (e8 l 0)
def goS(c:aB)(w:ai)(at_:Int)(o:bG):tq:=
 let top:=o.Frames.length-1
 let f:=o.Frames.getD top aT
 let i:=aZ c f.At
 let n:=f.Stack.length-cz c i
 l7 c w at_ (o.Frames.take top) i ⟨f.At+1,f.Env,f.Stack.take n,f.dO⟩ (f.Stack.drop n)
def ig(c:aB)(w:ai)(at_:Int):O (ai×O aE):=
 let t:=bu w at_
 let o:=cN w t
 if o.N≠0 then Y
 else match goS c w at_ o with
  |.waits=>Y|.fail s=>Z (gw w t ⟨6,s,[],[]⟩,Z ⟨at_,0,s,bA⟩)|.done v=>Z (gw w t ⟨6,1,[v],[]⟩,Z ⟨at_,0,1,lG v⟩)|.go a fr e=>Z (gw a t ⟨6,0,[],fr⟩,e)
def cm(s e:Int):ax:=⟨W,s,e⟩
mutual
def gq:aI->Int
 |⟨a,_,_,parts⟩=>if a=2 then 1 else j8 parts
def j8:L aI->Int
 |[]=>0|q::a=>gq q+j8 a
end
def zg(c:aB)(i:bT)(d:ax):Prop:=
 (cz c i:Int)<=d.Stack/\(i.Op=4->i.A<d.Env)/\(i.Op=10->i.A<=d.Env)/\(i.Op=8->d.Stack=2)/\(i.Op=34->d.Stack=1)
def gk(c:aB)(i:bT)(d:ax):Int:=
 d.Stack-(cz c i:Int)+(if i.Op=9\/i.Op=10\/i.Op=11\/i.Op=12\/i.Op=19 then 0 else 1)
def dV(c:aB)(n:Int)(d:ax):L (Int×ax):=
 let i:=aZ c n;let s:=gk c i d
 match i.Op.toNat with
 |8|20|34=>[]|9=>[(n+1,cm s (d.Env+1))]|10=>[(n+1,cm s (d.Env-i.A))]|11=>[(i.A,d)]|12=>[(n+1,cm s d.Env),(i.A,cm s d.Env)]|19=>[(n+1,cm s (d.Env+gq (jd c i.A))),(i.B,d)]|6|32=>[(n+1,cm s d.Env),(i.A,cm 0 (d.Env+1))]|31=>[(n+1,cm s d.Env),(i.A,cm 0 d.Env)]|_=>[(n+1,cm s d.Env)]
inductive LF(c:aB):Int->ax->Prop
 |root {f}:f∈c.dh->LF c f (cm 0 1)|next {n d x}:LF c n d->x∈dV c n d->LF c x.1 x.2
def ee(D:L ax)(n:Int):ax:=D.getD n.toNat aW
structure Rn(c:aB)(D:List ax):Prop where
 len:D.length=c.dJ.length
 root:∀f∈c.dh,ee D f=cm 0 1
 ok:∀n:Int,0<=n->n<c.dJ.length->(ee D n).Reached=W->(ee D n).Stack<=60/\(ee D n).Env<=30/\zg c (aZ c n) (ee D n)
 step:∀n:Int,0<=n->n<c.dJ.length->(ee D n).Reached=W->∀x∈dV c n (ee D n),0<=x.1/\x.1<c.dJ.length/\ee D x.1=x.2
 der:∀n:Int,0<=n->n<c.dJ.length->(ee D n).Reached=W->LF c n (ee D n)
 zero:∀n:Int,0<=n->n<c.dJ.length->(ee D n).Reached=J->ee D n=aW
mutual
def pw:aI->Nat
 |⟨_,_,_,parts⟩=>1+o9 parts
def o9:L aI->Nat
 |[]=>0|q::a=>pw q+o9 a
end
mutual
def tW(cons:L cL):aI->Prop
 |⟨a,n,text,parts⟩=>text=[]/\(a=1\/a=2\/a=5)/\n=0/\parts=[]\/text=[]/\a=3/\jh n=W/\parts=[]\/text=[]/\a=4/\(n=0\/n=1)/\parts=[]\/
  text=[]/\a=6/\0<=n/\n<cons.length/\(parts.length:Int)=(cons.getD n.toNat br).lE/\nV cons parts
def nV(cons:L cL):L aI->Prop
 |[]=>True|q::a=>tW cons q/\nV cons a
end
structure Q3(c:aB)(i:bT):Prop where
 lo:1<=i.Op
 hi:i.Op<=34
 int:i.Op=1->jh i.A=W
 bool:i.Op=2->i.A=0\/i.A=1
 place:i.Op=4->0<=i.A/\i.A<=29
 code:i.Op=5->0<=i.A/\i.A<c.dh.length
 goto:i.Op=6\/i.Op=11\/i.Op=12\/i.Op=31\/i.Op=32->0<=i.A/\i.A<c.dJ.length
 drop:i.Op=10->1<=i.A/\i.A<=30
 con:i.Op=18->0<=i.A/\i.A<c.Cons.length
 BN:i.Op=19->0<=i.A/\i.A<c.ey.length/\0<=i.B/\i.B<c.dJ.length
 port:i.Op=29->0<=i.A/\i.A<=3
structure pX(c:aB)(D:List ax):Prop where
 len:1<=c.dJ.length/\c.dJ.length<=1500
 ins:∀i∈c.dJ,Q3 c i
 pats:∀q∈c.ey,tW c.Cons q/\pw q<=12
 pl:c.ey.length<=100
 pF:∀f∈c.dh,0<=f/\f<c.dJ.length
 fl:1<=c.dh.length/\c.dh.length<=300
 main:0<=c.Main/\c.Main<c.dh.length
 cons:∀k∈c.Cons,0<=k.lE/\k.lE<=3
 dep:Rn c D
theorem bV{α:Type}{l:L α}{i:Nat}(d:α)(h:i<l.length):l.getD i d∈l:=by
 simp_all
theorem Bh{c:aB}{n:Int}{d:ax}{x:Int×ax}(a:x∈dV c n d)(h:d.Reached=W):x.2.Reached=W:=by unfold dV at a;dsimp only at a;split at a<;>simp only[gn,List.not_mem_nil,or_false]at a<;>first|exact a.elim|(subst a;first|rfl|exact h)|(cases a<;>rename_i a<;>subst a<;>first|rfl|exact h)
def Rn.CL{c:aB}{D:L ax}(h:Rn c D)(hf:∀f∈c.dh,0<=f/\f<c.dJ.length){n:Int}{d:ax}(j:LF c n d) :
  0<=n/\n<c.dJ.length/\ee D n=d/\d.Reached=W:=by
 induction j with
 |root g=>exact⟨(hf _ g).1,(hf _ g).2,h.root _ g,rfl⟩| @next n d x m i k=>
  let ⟨l,h1,h2,h3⟩:=k
  subst h2
  let ⟨a,b,e⟩:=h.step n l h1 h3 x i
  exact⟨a,b,e,Bh i h3⟩
theorem Rn.uniq{c:aB}{D E:L ax}(h:Rn c D)(b:Rn c E)(hf:∀f∈c.dh,0<=f/\f<c.dJ.length):D=E:=by
 have key:∀n:Int,0<=n->n<c.dJ.length->ee D n=ee E n:=by
  intro n d h1;cases e:(ee D n).Reached with
  |true=>exact(b.CL hf (h.der n d h1 e)).2.2.1.symm|false=>
   cases a:(ee E n).Reached with|true=>exact(h.CL hf (b.der n d h1 a)).2.2.1|false=>rw[h.zero n d h1 e,b.zero n d h1 a]
 apply List.ext_getElem (by rw[h.len,b.len]);intro i h1 h2;have:=key i (by omega) (by have:=h.len;omega)
 grind[ee]
def cC(c:aB)(k:Nat)(v:aA):Prop:=
 (v.Kind=1/\jh v.N=W)\/(v.Kind=2/\(v.N=0\/v.N=1))\/(v.Kind=3/\v.N=0)\/(v.Kind=4/\0<=v.N/\v.N<c.dh.length)\/(v.Kind=5/\0<=v.N/\v.N<k)
structure dB(c:aB)(D:List ax)(k:Nat)(less:Int)(f:aq):Prop where
 lo:0<=f.At
 hi:f.At<c.dJ.length
 re:(ee D f.At).Reached=W
 el:(f.Env.length:Int)=(ee D f.At).Env
 env:∀v∈f.Env,cC c k v
 sl:(f.Stack.length:Int)=(ee D f.At).Stack-less
 stack:∀v∈f.Stack,cC c k v
def qw(c:aB)(D:L ax)(n:Int):Prop:=∃i:Int,0<=i/\i<c.dJ.length/\(aZ c i).Op=6/\(ee D i).Reached=W/\(aZ c i).A=n
inductive fX(c:aB)(D:List ax)(k:Nat):bG->Prop
 |data {n:Int} {vs}:0<=n->n<c.Cons.length->(vs.length:Int)=(lz c n)->(∀v∈vs,cC c k v)->fX c D k ⟨1,n,vs,[]⟩|func {n:Int} {vs}:qw c D n->(vs.length:Int)=(ee D n).Env-1->(∀v∈vs,cC c k v)->fX c D k ⟨2,n,vs,[]⟩|cell {v}:cC c k v->fX c D k ⟨3,0,[v],[]⟩|chan {vs}:vs.length<=4->(∀v∈vs,cC c k v)->fX c D k ⟨4,0,vs,[]⟩|Bo {f fs}:fs.length<40->(∀g∈f::fs,dB c D k 1 g)->f.dO=W->fX c D k ⟨5,0,[],f::fs⟩|se {fs f}:fs.length<40->(∀g∈fs,dB c D k 1 g)->dB c D k 0 f->fX c D k ⟨6,0,[],fs++[f]⟩|done {v}:cC c k v->fX c D k ⟨6,1,[v],[]⟩|dead {s}:s=2\/s=3\/s=4->fX c D k ⟨6,s,[],[]⟩
structure jr(c:aB)(D:List ax)(w:ai):Prop where
 len:w.aQ.length<=120
 obs:∀o∈w.aQ,fX c D w.aQ.length o
 outs:w.mg.length<=100
 out:∀o∈w.mg,0<=o.Port/\o.Port<=3/\jh o.N=W
 ins:w.dJ.length<=50
 inn:∀i∈w.dJ,jh i=W
 used:0<=w.Used/\w.Used<=1000000000
 E6:w.aY.Nodup
 tl:w.aY.length<=w.aQ.length
 task:∀t∈w.aY,0<=t/\t<w.aQ.length/\(cN w t).Form=6
 all:∀i:Nat,i<w.aQ.length->(cN w i).Form=6->(i:Int)∈w.aY
end Mn
end
