import Derived.Room.BridgeHanded
import Derived.DataElems
import Derived.WideKeyArgs
import Derived.SizedLaws
import Derived.RowKit3
import Derived.Test.YthlenkomcaiomaaGreatProg
import Derived.KernelRfl
import Derived.Test.YthlenkomcaiomaaGreatH3
set_option linter.all false
set_option maxRecDepth 100000
set_option maxHeartbeats 0
noncomputable section
open Option renaming some->Z,none->Y
open Bool renaming true->W,false->J
open Nat renaming beq->Nq,ble->Nl,blt->Nt,succ->Ns,add->Na
open TL.LO renaming next->N,ret->X,out->H
open TL.Rx renaming ok->G,iJ->M
section
namespace TL
open Go
variable {S:Sg}
section
def nA(S:Sg):Ty->L Ty
 |.st m=>S.fs m| τ=>[τ]
def S8:L Ty->L Ty->Bool
 |[],[]=>W|a::l,b::m=>sr a b&&S8 l m|_,_=>J
def M3:∀{l m:L Ty},S8 l m=W->l=m
 |[],[],_=>rfl|a::l,b::m,h=>by simp[S8,eW]at h;rw[jU h.1,M3 h.2]
 |[],_::_,h=>by cases h
 |_::_,[],h=>by cases h
def E0(S:Sg)(P:Program)(ty:TypeId->O Ty):L Field->Nat->L Ty->Bool
 |[],_,[]=>W|f::l,off,a=>match ty f.type with
  |some τ=>Nq f.offset off&&(Nq (P.cellsOf f.type) (cH (nA S τ))&&(S8 (a.take (cH (nA S τ))) (nA S τ)&&E0 S P ty l (off+cH (nA S τ)) (a.drop (cH (nA S τ)))))|none=>J
 |_,_,_=>J
def rdT(S:Sg)(P:Program)(ty:TypeId->O Ty)(t:TypeId)(τ:Ty):Bool:=match P.underlying t,τ with
 |some .bool,.bool=>W|some (.int k),.int c=>oU k c|some .string,.str=>W|some (.slice e),.sl a=>match ty e with
  |some b=>sr b a&&(Nq (P.cellsOf e) (S.width a)&&(Nl (zQ S a) (Nat.mul 2 (P.bytesOf e))&&Nt 0 (S.width a)))|none=>J
 |some (.struct d),.st n=>Nq (P.cellsOf t) (cH (S.fs n))&&E0 S P ty d.toList 0 (S.fs n)|_,_=>J
section
variable {P:Program}{w:World}{I:Nat->Prop}
def WU(I:Nat->Prop)(w:World)(ds:L D)(vs:L Value):Prop:=PW (dJ I w) ds vs
theorem mapM_some{α β:Type}{f:α->O β}:∀{l:L α}{r:L β},l.mapM f=Z r->r.length=l.length/\∀(i:Nat)(a:α),l[i]?=Z a->∃b,r[i]?=Z b/\f a=Z b
 |[],r,h=>by
  simp_all
 |x::l,r,h=>by
  simp[List.mapM_cons,Option.bind_eq_bind,vU,Option.pure_def,gP]at h;obtain⟨b,d,e,c,rfl⟩:=h
  let ⟨h1,h2⟩:=mapM_some c
  grind
def RP{a:Addr}{n:Nat}{vs:L Value}(h:w.cells? 0 a n=Z vs):vs.length=n/\∀j,j<n->∃v,vs[j]?=Z v/\w.cell? (a.add j)=Z v:=by
 unfold World.cells? at h
 let ⟨h1,h2⟩:=mapM_some h
 rw[List.length_range]at h1;refine⟨h1,λj b=>?_⟩;exact h2 j j (by rw[List.getElem?_range b])
theorem adI{a:Addr}{v:Value}(h:w.cell? a=Z v):a.block<w.heap.size:=by
 grind[World.cell?]
theorem DV{α:Type}(p:Nat->α->Prop):∀n,(∀i,i<n->∃x,p i x)->∃l:L α,l.length=n/\∀i x,l[i]?=Z x->p i x
 |0,_=>⟨[],rfl,λi x h=>by simp at h⟩
 |n+1,h=>by
  let ⟨l,h1,h2⟩:=DV p n (λi a=>h i (by omega))
  let ⟨x,b⟩:=h n (by omega)
  refine⟨l++[x],by simp[h1],λi y a=>?_⟩
  grind
theorem FX{d:D}{v:Value}(h:dJ I w d v):WU I w [d] [v]:=⟨rfl,λj a b h1 h2=>by
 grind⟩
variable {H:Type}{OU:TypeId×Value->H}{held:Bool}
theorem trod_bool{fuel:Nat}{t:TypeId}{cs:L Value}{d:DataW H}{ps:L MemPlace}(a:P.underlying t=Z .bool)(h:DataW.trod OU P w 0 (λ_=>W) held fuel t cs=Z (d,ps)):∃b,cs=[.bool b]:=by
 cases fuel with
 |zero=>simp[DataW.trod]at h|succ n=>
  obtain _|⟨c,_|⟨e,cs⟩⟩:=cs
  simp[DataW.trod,a]at h;cases c<;>simp[DataW.trod,a]at h
  grind
  simp[DataW.trod,a]at h
def trod_int{fuel:Nat}{t:TypeId}{k:IntKind}{cs:L Value}{d:DataW H}{ps:L MemPlace}(a:P.underlying t=Z (.int k))(h:DataW.trod OU P w 0 (λ_=>W) held fuel t cs=Z (d,ps)):∃n,cs=[.int k n]:=by
 cases fuel with
 |zero=>simp[DataW.trod]at h|succ n=>
  obtain _|⟨c,_|⟨b,cs⟩⟩:=cs
  simp[DataW.trod,a]at h;cases c<;>simp[DataW.trod,a]at h
  simp_all
  simp[DataW.trod,a]at h
theorem Xh{fuel:Nat}{t:TypeId}{cs:L Value}{d:DataW H}{ps:L MemPlace}(a:P.underlying t=Z .string)(h:DataW.trod OU P w 0 (λ_=>W) held fuel t cs=Z (d,ps)):∃b,cs=[.string b]:=by
 cases fuel with
 |zero=>simp[DataW.trod]at h|succ n=>
  obtain _|⟨c,_|⟨e,cs⟩⟩:=cs
  simp[DataW.trod,a]at h;cases c<;>simp[DataW.trod,a]at h
  grind
  simp[DataW.trod,a]at h
theorem trod_slice{fuel:Nat}{t e:TypeId}{cs:L Value}{d:DataW H}{ps:L MemPlace}(g:P.underlying t=Z (.slice e))(h:DataW.trod OU P w 0 (λ_=>W) held (fuel+1) t cs=Z (d,ps)) :
  cs=[.slice Y 0 0]\/∃(a:Addr)(len cap:Nat)(f rest:L (DataW H)),cs=[.slice (Z a) len cap]/\len<=cap/\d=.slice f rest/\f.length=len/\
   ∀i,i<len->∃vs j k,w.cells? 0 (a.add (i*P.cellsOf e)) (P.cellsOf e)=Z vs/\DataW.trod OU P w 0 (λ_=>W) held fuel e vs=Z (j,k)/\f[i]?=Z j:=by
 obtain _|⟨c,_|⟨o,cs⟩⟩:=cs
 simp[DataW.trod,g]at h
 .cases c with
  |slice a len cap=>
   cases a with
   |none=>
    obtain _|len:=len
    obtain _|cap:=cap
    exact .inl rfl;simp[DataW.trod,g]at h;simp[DataW.trod,g]at h
   |some a=>
    right
    simp only[DataW.trod,g]at h;split at h;rename_i l;rw[vU]at h
    let ⟨m,h1,h2⟩:=h
    rw[fT]at h2
    let ⟨rest,_,h3⟩:=h2
    obtain⟨rfl,_⟩:=h3
    let ⟨h4,h5⟩:=mapM_some h1
    refine⟨a,len,cap,_,_,rfl,l.2.1,rfl,by simpa using h4,λi n=>?_⟩
    let ⟨b,p,q⟩:=h5 i i (by rw[List.getElem?_range n])
    grind[Option.bind_eq_some_iff]
    cases h
  |_=>simp[DataW.trod,g]at h
 simp[DataW.trod,g]at h
theorem trod_struct{fuel:Nat}{t:TypeId}{fs:Array Field}{cs:L Value}{d:DataW H}{ps:L MemPlace}(b:P.underlying t=Z (.struct fs))(h:DataW.trod OU P w 0 (λ_=>W) held (fuel+1) t cs=Z (d,ps)) :
  cs.length=P.cellsOf t/\∃parts:L (DataW H),d=.agg parts/\parts.length=fs.toList.length/\
   ∀(i:Nat)(f:Field),fs.toList[i]?=Z f->∃a c,DataW.trod OU P w 0 (λ_=>W) held fuel f.type ((cs.drop f.offset).take (P.cellsOf f.type))=Z (a,c)/\parts[i]?=Z a:=by
 simp only[DataW.trod,b]at h;split at h;rw[fT]at h
 let ⟨e,h1,h2⟩:=h
 obtain⟨rfl,_⟩:=h2
 let ⟨h4,h5⟩:=mapM_some h1
 grind
 cases h
def Wh(a:fq S):∀(τ:Ty)(x:den S.A τ),∃h:l7 S.A (nA S τ),e9 S (nA S τ) h=(enc S τ x).cells
 |.st n,x=>⟨S.get n x,by exact(a.cells n x).symm⟩
 |.int k,x=>⟨(x,()),rfl⟩|.bool,x=>⟨(x,()),rfl⟩|.str,x=>⟨(x,()),rfl⟩|.sl e,x=>⟨(x,()),rfl⟩|.dj n,x=>⟨(x,()),(nQ _).symm⟩|.opt n,Y=>⟨(Y,()),rfl⟩|.opt n,Z y=>⟨(Z y,()),rfl⟩|.mp k v,x=>⟨(x,()),rfl⟩
def DP:∀(l m:L Ty)(h:l7 S.A l)(k:l7 S.A m),∃r:l7 S.A (l++m),e9 S (l++m) r=e9 S l h++e9 S m k
 |[],m,_,k=>⟨k,rfl⟩|t::l,m,h,k=>by
  let ⟨r,a⟩:=DP l m h.2 k
  exact⟨(h.1,r),by simp[List.cons_append,e9,a]⟩
theorem IB{ts:L TypeId}{ds:L (DataW H)}(h:(DataW.weightsEach P ts ds).all (·<=reachBytes)=W):∀(i:Nat)(t:TypeId)(d:DataW H),ts[i]?=Z t->ds[i]?=Z d->(d.weights P t).all (·<=reachBytes)=W:=by
 induction ts generalizing ds with
 |nil=>simp_all|cons a ts c=>
  intro i t d h1 h2;cases ds with
  |nil=>simp at h2|cons b ds=>
   simp only[DataW.weightsEach,NM,eW]at h
   grind
theorem KI{e:TypeId}{ds:L (DataW H)}(h:(DataW.weightsAll P e ds).all (·<=reachBytes)=W):∀d∈ds,(d.weights P e).all (·<=reachBytes)=W:=by
 induction ds with
 |nil=>simp_all|cons a ds b=>
  simp only[DataW.weightsAll,NM,eW]at h
  grind
theorem M7(y:fq S){ty:TypeId->O Ty}{fuel:Nat}{cs:L Value}
  (z:∀(t:TypeId)(τ:Ty)(cs:L Value)(d:DataW H)(ps:L MemPlace),ty t=Z τ->DataW.trod OU P w 0 (λ_=>W) held fuel t cs=Z (d,ps)->(d.weights P t).all (·<=reachBytes)=W->∃x:den S.A τ,WU I w (enc S τ x).cells cs) :
  ∀(fs:L Field)(off:Nat)(ts:L Ty)(parts:L (DataW H)),E0 S P ty fs off ts=W->off+ts.length=cs.length->(DataW.weightsEach P (fs.map (·.type)) parts).all (·<=reachBytes)=W->parts.length=fs.length->
   (∀(i:Nat)(f:Field),fs[i]?=Z f->∃c e,DataW.trod OU P w 0 (λ_=>W) held fuel f.type ((cs.drop f.offset).take (P.cellsOf f.type))=Z (c,e)/\parts[i]?=Z c)->
   ∃h:l7 S.A ts,WU I w (e9 S ts h) (cs.drop off):=by
 intro fs
 induction fs with
 |nil=>
  intro off ts parts h1 h2 _ _ _;cases ts with|nil=>exact⟨(),by simp[e9];rw[List.drop_eq_nil_of_le (by grind)];exact⟨rfl,λj a b h=>by simp at h⟩⟩|cons t ts=>cases h1
 |cons f fs g=>
  intro off ts parts h1 h2 h3 h4 h5;simp[E0]at h1;split at h1;rotate_left;cases h1;rename_i τ A;simp only[eW,bV]at h1
  let ⟨l,n,o,h1⟩:=h1
  have l:=vV l;have n:=vV n;have o:=M3 o
  let ⟨d,e,B,q⟩:=h5 0 f rfl
  cases parts with
  |nil=>simp at q|cons p parts=>
  simp at q;subst q;have C:=IB h3 0 f.type p rfl rfl
  let ⟨x,s⟩:=z _ _ _ _ _ A B C
  let ⟨k,E⟩:=Wh y τ x
  simp only[pN,DataW.weightsEach,NM,eW]at h3
  let ⟨r,F⟩:=g (off+(nA S τ).length) (ts.drop (nA S τ).length) parts h1 (by grind) h3.2 (by simpa using h4) (λi f K=>by
   let ⟨c,e,q1,q2⟩:=h5 (i+1) f (by simpa using K)
   simp_all)
  let ⟨m,Q⟩:=DP (nA S τ) (ts.drop (nA S τ).length) k r
  have R:nA S τ++ts.drop (nA S τ).length=ts:=by
   conv=>rhs;rw[<-XH (nA S τ).length ts]
   rw[o]
  rw[l,n]at s;rw[<-E]at s;have u:cs.drop off=(cs.drop off).take (nA S τ).length++cs.drop (off+(nA S τ).length):=by rw[<-aet,XH]
  have v:∃m:l7 S.A (nA S τ++ts.drop (nA S τ).length),WU I w (e9 S _ m) (cs.drop off):=⟨m,by
   rw[Q,u];exact PW.append s F⟩
  grind
theorem abI(u:fq S){ty:TypeId->O Ty}(hR:∀t τ,ty t=Z τ->rdT S P ty t τ=W)(hI:∀b,b<w.heap.size->I b) :
  ∀(fuel:Nat)(t:TypeId)(τ:Ty)(cs:L Value)(d:DataW H)(ps:L MemPlace),ty t=Z τ->DataW.trod OU P w 0 (λ_=>W) held fuel t cs=Z (d,ps)->(d.weights P t).all (·<=reachBytes)=W->
   ∃x:den S.A τ,WU I w (enc S τ x).cells cs:=by
 intro fuel
 induction fuel with
 |zero=>simp_all[DataW.trod]|succ fuel ih=>
  intro t τ cs d ps hτ h g;have m:=hR t τ hτ;unfold rdT at m;split at m;rename_i l;obtain⟨b,rfl⟩:=trod_bool l h;exact⟨b,FX (.lit _)⟩;rename_i k k' l;obtain⟨n,rfl⟩:=trod_int l h;obtain rfl:k=k':=by cases k<;>cases k'<;>first|rfl|cases m
  exact⟨n,FX (.lit _)⟩;rename_i l;obtain⟨b,rfl⟩:=Xh l h;refine⟨ofBytes b,FX ?_⟩;have:enc S .str (ofBytes b)=.lit (.string b):=by rfl
  exact .lit _
  .rename_i e τ' l;split at m;rotate_left;cases m;rename_i f hτe;simp only[eW]at m
   let ⟨h1,h2,h3,h4⟩:=m
   obtain rfl:=jU h1;have h2:=vV h2;have h3:=gS h3;have h4:0<S.width f:=gS h4;obtain rfl|⟨a,len,cap,B,rest,rfl,hlc,rfl,C,q⟩:=trod_slice l h
   refine⟨[],FX ?_⟩;exact .sl [] Y 0 0 (λ_ _=>undef) (eO _) (λd o=>by cases o) (λd o=>by cases o) (λh=>absurd rfl h) (λi j d c o=>by simp at o);simp only[DataW.weights,l,List.all_cons,NM,eW,qM]at g;have hev:=KI g.2.1
   let ⟨p,E,F⟩:=DV (λi(x:den S.A f)=>∃K,w.cells? 0 (a.add (i*P.cellsOf e)) (P.cellsOf e)=Z K/\WU I w (enc S f x).cells K) len (λi hi=>by
    grind)
   have s:∀(i j:Nat)(x:den S.A f)(c:D),p[i]?=Z x->(enc S f x).cells[j]?=Z c->∃v,w.cell? (a.add (i*S.width f+j))=Z v/\dJ I w c v:=by
    intro i j x c Q y
    let ⟨K,q1,q2⟩:=F i x Q
    let ⟨q3,q4⟩:=RP q1
    have hj:j<P.cellsOf e:=by
     grind[kX]
    let ⟨v,R,z⟩:=q4 j hj
    rw[Addr.add_add,h2]at z;exact⟨v,z,q2.2 j c v y R⟩
   refine⟨p,FX ?_⟩;have Qo:enc S (.sl f) p=.sl (p.map (enc S f)):=rfl;rw[Qo];have r:(p.map (enc S f)).length=len:=by simp[E]
   rw[show(Value.slice (Z a) len cap)=.slice (Z a) (p.map (enc S f)).length cap by rw[r]];refine .sl _ (Z a) cap (S.width f) (λi j=>(w.cell? (a.add (i*S.width f+j))).getD undef) (by omega) (tA u p) (λd o=>?_) (λhne=>?_) (λi j d c o y=>?_);obtain⟨x,_,rfl⟩:=ym.1 o;rw[Ct u,r];have hw1:=g.1;rw[C]at hw1;have hb:len*zQ S f<=2*(len*P.bytesOf e):=by
    simp_all[Nat.mul_le_mul_left,Nat.mul_left_comm]
   grind[reachBytes]
   have A:0<p.length:=by
    grind
   obtain⟨x,Q⟩:∃x,p[0]?=Z x:=⟨_,iX A⟩;obtain⟨c,y⟩:∃c,(enc S f x).cells[0]?=Z c:=⟨_,iX (by rw[kX u];exact h4)⟩
   let ⟨v,R,_⟩:=s 0 0 x c Q y
   refine⟨a,rfl,hI _ ?_,λi j d c o y=>?_⟩;have:=adI R;rwa [lg]at this
   grind
   grind
  rename_i fs n l;simp only[eW]at m
  let ⟨h1,h2⟩:=m
  have h1:=vV h1;rw[bV]at h1;obtain⟨hl,parts,rfl,Om,q⟩:=trod_struct l h;simp only[DataW.weights,l]at g
  let ⟨k,hk⟩:=M7 u ih fs.toList 0 (S.fs n) parts h2 (by omega) g Om q
  refine⟨S.ET n k,?_⟩;simp[enc,D.cells];rw[show S.cells n (S.ET n k)=_ from u.cells n _,u.sH];simpa using hk;cases m
end
end
section
section
variable {P:Program}{w:World}{H:Type}{OU:TypeId×Value->H}
theorem Xg(p:fq S){ty:TypeId->O Ty}(l:∀t τ,ty t=Z τ->rdT S P ty t τ=W){t:TypeId}{τ:Ty}(o:ty t=Z τ){v:Value}{d:DataW H}{ps:L MemPlace}{base:Nat}(g:Value.okWide P w .any base t v)
  (h:DataW.Trod OU P w 0 (λ_=>W) W t v d ps) (i:(d.weights P t).all (·<=reachBytes)=W):∃x:den S.A τ,dJ (λb=>b<w.heap.size) w (enc S τ x) v:=by
 let ⟨fuel,h⟩:=h
 let ⟨x,f⟩:=abI (I:=λb=>b<w.heap.size) p l (λ_ h=>h) fuel t τ _ d ps o h i
 refine⟨x,?_⟩;have k:=l t τ o;unfold rdT at k;split at k;rename_i e;obtain⟨b,rfl⟩:=WideShapes.okWide_bool e g;exact f.2 0 _ _ rfl rfl;rename_i e;obtain⟨n,rfl⟩:=WideShapes.okWide_int e g;exact f.2 0 _ _ rfl rfl;rename_i e;obtain⟨b,rfl⟩:=WideShapes.okWide_string e g;exact f.2 0 _ _ rfl rfl;rename_i e;obtain⟨a,n,m,rfl⟩:=WideShapes.okWide_slice e g;exact f.2 0 _ _ rfl rfl;rename_i e;obtain⟨q,rfl,_⟩:=WideShapes.okWide_struct e g;refine .agg _ _ (by have:=f.1;grind[enc,D.cells,Value.cells]) ?_ (λj c u h1 h2=>f.2 j c u h1 (by simpa[Value.cells]using h2))
 grind[OR,enc,D.flat,D.cells]
 cases k
def Jg(i:fq S){ty:TypeId->O Ty}(l:∀t τ,ty t=Z τ->rdT S P ty t τ=W){base:Nat}:∀(ts:L TypeId)(τs:L Ty)(vs:L Value)(ds:L (DataW H))(ps:L MemPlace),
  PW (λt τ=>ty t=Z τ) ts τs->(∀(j:Nat)t v,ts[j]?=Z t->vs[j]?=Z v->Value.okWide P w .any base t v)->DataW.TrodAll OU P w 0 (λ_=>W) W ts vs ds ps->
  (DataW.weightsEach P ts ds).all (·<=reachBytes)=W->∃x:gm S.A (τs.map λτ=>.one (.dat τ)),rJ S (λb=>b<w.heap.size) w (τs.map λτ=>.one (.dat τ)) x vs [] []
 |[],[],vs,ds,ps,_,_,h,_=>by cases vs with|nil=>exact⟨(),.nil⟩|cons v vs=>cases ds<;>simp[DataW.TrodAll]at h
 |t::ts,τ::τs,vs,ds,ps,c,m,h,e=>by
  cases vs with
  |nil=>cases ds<;>simp[DataW.TrodAll]at h
  |cons v vs=>
  cases ds with
  |nil=>simp[DataW.TrodAll]at h|cons d ds=>
  let ⟨p,q,h1,h2,_⟩:=h
  simp only[DataW.weightsEach,NM,eW]at e
  let ⟨x,n⟩:=Xg i l (c.2 0 t τ rfl rfl) (m 0 t v rfl rfl) h1 e.1
  let ⟨k,o⟩:=Jg i l ts τs vs ds q ⟨by simpa using c.1,λj a b f g=>c.2 (j+1) a b (by simpa using f) (by simpa using g)⟩ (λj t v f g=>m (j+1) t v (by simpa using f) (by simpa using g)) h2 e.2
  exact⟨(x,k),.one (.dat n .nil) o⟩
 |[],τ::τs,_,_,_,c,_,_,_=>by have:=c.1;simp at this
 |t::ts,[],_,_,_,c,_,_,_=>by have:=c.1;simp at this
theorem Fh{w':World}(hl:laidOutB P=W)(e:∀b,b<w.heap.size->w'.heap[b]?=w.heap[b]?):∀(ts:L TypeId)(vs:L Value)(ds:L (DataW H))(ps:L MemPlace),(∀t∈ts,P.readableRec t=W/\t<P.types.size)->
  DataW.TrodAll OU P w 0 (λ_=>W) W ts vs ds ps->(∀p∈ps,p.block<w.heap.size)->DataW.TrodAll OU P w' 0 (λb=>decide (b<w.heap.size)) W ts vs ds ps
 |[],[],[],ps,_,h,_=>h|t::ts,v::vs,d::ds,ps,c,h,f=>by obtain⟨p,q,h1,h2,rfl⟩:=h;refine⟨p,q,WideElems.Trod_stays hl (c t eI).1 (c t eI).2 h1 (λx a=>?_) (λx a=>by simp_all),Fh hl e ts vs ds q (λt g=>c t (hJ _ g)) h2 λx a=>f x (eV _ a),rfl⟩;have:=e x.block (f x (fS _ a));cases x with|cell b off=>show w'.cell? _=w.cell? _;unfold World.cell?;rw[show w'.heap[b]?=w.heap[b]? from this]|map b=>exact this
 |[],[],_::_,_,_,h,_=>by simp[DataW.TrodAll]at h
 |[],_::_,_,_,_,h,_=>by simp[DataW.TrodAll]at h
 |_::_,[],_,_,_,h,_=>by simp[DataW.TrodAll]at h
 |_::_,_::_,[],_,_,h,_=>by simp[DataW.TrodAll]at h
theorem LA{w':World}(c:w'.os=w.os)(a:w'.output=w.output)(e:∀b,b<w.heap.size->w'.heap[b]?=w.heap[b]?)(d:MemPlace->Prop):w.keptBut w' d:=by
 refine⟨c,a,λi f=>?_⟩
 grind
theorem VJ(hS:fq S){ty:TypeId->O Ty}(hR:∀t τ,ty t=Z τ->rdT S P ty t τ=W)(hl:laidOutB P=W){f:FuncId}{fn:Func}{s:ChangeSpec}{apart fresh i:Bool}{τs:L Ty}{tb:TypeId}
  (hτ:PW (λt τ=>ty t=Z τ) fn.params.toList τs) (hrd:∀t∈fn.params.toList,P.readableRec t=W/\t<P.types.size) (C:fn.resultTypes=#[tb]) (hb:P.underlying tb=Z .bool) (k:s.vars=[])
  (w:∀ds:L (DataW H),ds.length=τs.length->(s.fn H ds).results=[.lit (.bool W)]/\(s.fn H ds).args=ds/\(s.fn H ds).vars=[])
  (hF:∀x:gm S.A (τs.map λτ=>Pk.one (.dat τ)),∃F r,bG P f (⟨τs.map λτ=>.one (.dat τ),[.dat .bool],J,F⟩:lJ S)/\F x=Z r/\r.1.1=W)
  {a:World} {base:Nat} {args:Array Value} {ds E:L (DataW H)} {l:L MemPlace}
  (o:∀(j:Nat)t v,fn.params[j]?=Z t->args[j]?=Z v->Value.okWide P a .any base t v) (hW:DataW.Whole OU P fn.params.toList s.vars apart a args.toList ds E l)
  (z:(DataW.weightsEach P (fn.params.toList++s.plain.varTypes P) (ds++E)).all (·<=reachBytes)=W) :
  Calls P f args a λe W'=>∃v,e=.returned v/\s.post OU P fn apart fresh i J a args v W':=by
 rw[k]at hW;have m:=hW;obtain⟨p,q,I,hV,rfl,hfz,hnd⟩:=hW;have hgs:E=[]/\q=[]:=by cases E with|nil=>exact⟨rfl,hV⟩|cons g E=>simp[DataW.TrodVars]at hV
 obtain⟨rfl,rfl⟩:=hgs;have hvt:s.plain.varTypes P=[]:=by grind[ChangeSpec.plain,DataSpec.varTypes]
 rw[hvt,jQ,jQ]at z
 let ⟨x,hx⟩:=Jg hS hR fn.params.toList τs args.toList ds p hτ (λj t v h1 h2=>o j t v (by simpa using h1) (by simpa using h2)) I z
 let ⟨F,r,K,hr,c⟩:=hF x
 have Q:ds.length=τs.length:=by
  rw[<-hτ.1];clear o m z hfz hnd hV hx hτ hrd;generalize fn.params.toList=ts at I;generalize args.toList=B at I
  induction ts generalizing B ds p with
  |nil=>cases B<;>cases ds<;>simp_all [DataW.TrodAll]
  |cons t ts ih=>
   cases B with
   |nil=>cases ds<;>simp[DataW.TrodAll]at I
   |cons v B=>
    cases ds with
    |nil=>simp[DataW.TrodAll]at I|cons d ds=>
     grind[DataW.TrodAll]
 refine(K.2 x r hr _ a args [] [] hx (λ_ h=>h) .nil (by simp) (by simp)).mono λe W' he=>?_;cases e with
 |panicked ch=>exact he.elim|outgrown=>exact he.elim|returned v=>
 obtain⟨I',B,DZ,BI,_,_,_,hsz,A,hos,R,rfl,_,hH,_⟩:=he;have hv:valOf B=.bool W:=by
  generalize r.1=y at hH c
  let ⟨b,u⟩:=y
  cases hH with
  |dat hd hr=>
  cases hr;cases hd;simp only at c;rw[c];rfl
 rw[hv];refine⟨_,rfl,?_⟩
 let ⟨s1,s2,s3⟩:=w ds Q
 have n:∀b,b<a.heap.size->W'.heap[b]?=a.heap[b]?:=λb hb=>A b hb (by simp) (by simp);have hlt:∀x∈p,x.block<a.heap.size:=λx hx=>m.lt x (by simpa using hx);rw[jQ]at m;unfold ChangeSpec.post;rw[k];refine⟨ds,[],p,[],p,[],m,?_,?_,?_,LA hos R n _,λh=>by cases h⟩;rw[jQ,s1,C];refine⟨[],[],⟨1,?_⟩,rfl,rfl⟩;simp[DataW.trod,hb,Value.cells]
 grind[Fh]
 rw[jQ,s3];rfl
end
end
end TL
end
section
namespace Mn
open Go TL
section
open Proofs.Tryz
def z0:TI:=⟨1,J,[.lit .nilFunc],[],.other⟩
abbrev n1{α:Type}(x:α)(l r:Tr α):Tr α:=.node (Z x) l r
abbrev n0{α:Type}(l r:Tr α):Tr α:=.node Y l r
abbrev e0{α:Type}:Tr α:=.nil
abbrev bH{α:Type}(x:α):Tr α:=.node (Z x) .nil .nil
abbrev cR(l r:Tr TI):Tr TI:=.node (Z z0) l r
abbrev cm:Tr TI:=.node (Z z0) .nil .nil
abbrev aH:D:=.lit (.int .i64 0)
abbrev dL:D:=.lit (.string ⟨#[]⟩)
abbrev jc:D:=.lit (.pointer Y)
abbrev ey:D:=.lit .nilFunc
abbrev Jj:Kd:=.struct [(0,1,J)]
abbrev vE:Kd:=.struct [(0,1,J),(1,1,J)]
abbrev rS:Kd:=.struct [(0,1,J),(1,1,J),(2,1,J)]
abbrev pg:Kd:=.struct [(0,1,J),(1,1,J),(2,1,J),(3,1,J)]
abbrev Ji:Kd:=.struct [(0,1,J),(1,1,J),(2,1,J),(3,1,J),(4,1,J)]
structure bR where
 Op:Int
 A:Int
 B:Int
structure aB where
 Form:Int
 N:Int
 Text:List UInt8
 Bw:List aB
structure cz where
 Name:List UInt8
 lu:Int
structure aA where
 dF:List bR
 eA:List aB
 cY:List Int
 Main:Int
 Cons:List cz
structure az where
 Kind:Int
 N:Int
structure aj where
 At:Int
 Env:List az
 Stack:List az
 dI:Bool
structure bB where
 Form:Int
 N:Int
 fP:List az
 Frames:List aj
structure eg where
 Port:Int
 N:Int
structure av where
 aN:List bB
 bI:List Int
 mo:List eg
 dF:List Int
 Used:Int
structure au where
 Reached:Bool
 Stack:Int
 Env:Int
structure bC where
 C:aA
 D:List au
structure aP where
 Task:Int
 Do:Int
 N:Int
 V:az
structure bn where
 W:av
 ad6:Int
 E:aP
structure cJ where
 av:av
 code:aA
 ZW:List au
 Qx:List (Int×Bool)
structure sn where
structure iI where
 aP:aP
structure rI where
inductive fQ where
 |a0 (x:sn)|a1 (x:iI)|a2 (x:rI)|none
structure cI where
 PE:Int
 N:Int
 Text:List UInt8
 Bw:List cI
structure iR where
 Name:List UInt8
 lu:List cI
structure kL where
 Name:List UInt8
 Cons:List iR
structure Term where
 Op:Int
 N:Int
 Text:List UInt8
 Kids:List Term
 eA:List aB
structure cZ where
 Name:List UInt8
 Param:List UInt8
 PN:cI
 To:cI
 Body:Term
structure ee where
 Name:List UInt8
 afa:List kL
 cY:List cZ
structure gD where
 Op:Int
 N:Int
 Kids:List Int
 eA:List aB
structure gQ where
 ae6:List gD
 cY:List Int
 Main:Int
 Cons:List cz
structure bq where
 At:Int
 jM:au
structure iH where
 waits:Bool
 state:Int
structure dP where
 oV:List (List UInt8)
 cons:List cz
 nodes:List gD
structure og where
 a0:Int
 a1:Int
structure bN where
 dF:List bR
 eA:List aB
 Want:List og
structure nc where
 env:Int
structure jO where
 stack:Int
structure ni where
 stack:Int
inductive eB where
 |a0 (x:nc)|a1 (x:jO)|a2 (x:ni)|none
structure fR where
 Kind:Int
 Text:List UInt8
 N:Int
 At:Int
structure bO where
 l_:List fR
 at_:Int
 bad:Bool
structure eH where
 low:Int
 high:Int
 asked:Bool
inductive Any where
 |a0 (x:iH)|none
def bP:bR:=⟨0,0,0⟩
def aK:aB:=⟨0,0,[],[]⟩
def bg:cz:=⟨[],0⟩
def qu:aA:=⟨[],[],[],0,[]⟩
def bu:az:=⟨0,0⟩
def aR:aj:=⟨0,[],[],J⟩
def bw:bB:=⟨0,0,[],[]⟩
def kI:eg:=⟨0,0⟩
def cX:av:=⟨[],[],[],[],0⟩
def aT:au:=⟨J,0,0⟩
def lH:bC:=⟨qu,[]⟩
def ct:aP:=⟨0,0,0,bu⟩
def jK:bn:=⟨cX,0,ct⟩
def DT:cJ:=⟨cX,qu,[],[]⟩
def O1:sn:=⟨⟩
def Kb:iI:=⟨ct⟩
def J9:rI:=⟨⟩
def adD:fQ:=.none
def nT:cI:=⟨0,0,[],[]⟩
def iC:iR:=⟨[],[]⟩
def mJ:kL:=⟨[],[]⟩
def sd:Term:=⟨0,0,[],[],[]⟩
def dQ:cZ:=⟨[],[],nT,nT,sd⟩
def kH:ee:=⟨[],[],[]⟩
def tW:gD:=⟨0,0,[],[]⟩
def qv:gQ:=⟨[],[],0,[]⟩
def bf:bq:=⟨0,aT⟩
def A7:iH:=⟨J,0⟩
def rD:dP:=⟨[],[],[]⟩
def A8:og:=⟨0,0⟩
def g9:bN:=⟨[],[],[]⟩
def J8:nc:=⟨0⟩
def zJ:jO:=⟨0⟩
def Ka:ni:=⟨0⟩
def Wl:eB:=.none
def dM:fR:=⟨0,[],0,0⟩
def rC:bO:=⟨[],0,J⟩
def fK:eH:=⟨0,0,J⟩
def asB:Any:=.none
def w4(x:bR):L D:=[.lit (.int .i64 x.Op),.lit (.int .i64 x.A),.lit (.int .i64 x.B)]
mutual
def wY:aB->L D
 |.mk x0 x1 x2 x3=>[.lit (.int .i64 x0),.lit (.int .i64 x1),.lit (.string (cq x2)),.sl (jh x3)]
def jh:L aB->L D
 |[]=>[]|y::l=>.agg (wY y)::jh l
end
def gr:∀l:L aB,jh l=l.map (λy=>.agg (wY y))
 |[]=>rfl|y::l=>by simp only[jh,pN,gr l]
def tZ(x:cz):L D:=[.lit (.string (cq x.Name)),.lit (.int .i64 x.lu)]
def CG(x:aA):L D:=[.sl (List.map (λy=>.agg (w4 y)) x.dF),.sl (jh x.eA),.sl (List.map (λy=>.lit (.int .i64 y)) x.cY),.lit (.int .i64 x.Main),.sl (List.map (λy=>.agg (tZ y)) x.Cons)]
def Bg(x:az):L D:=[.lit (.int .i64 x.Kind),.lit (.int .i64 x.N)]
def Kk(x:aj):L D:=[.lit (.int .i64 x.At),.sl (List.map (λy=>.agg (Bg y)) x.Env),.sl (List.map (λy=>.agg (Bg y)) x.Stack),.lit (.bool x.dI)]
def E4(x:bB):L D:=[.lit (.int .i64 x.Form),.lit (.int .i64 x.N),.sl (List.map (λy=>.agg (Bg y)) x.fP),.sl (List.map (λy=>.agg (Kk y)) x.Frames)]
def Bh(x:eg):L D:=[.lit (.int .i64 x.Port),.lit (.int .i64 x.N)]
def Wp(x:av):L D:=[.sl (List.map (λy=>.agg (E4 y)) x.aN),.sl (List.map (λy=>.lit (.int .i64 y)) x.bI),.sl (List.map (λy=>.agg (Bh y)) x.mo),.sl (List.map (λy=>.lit (.int .i64 y)) x.dF),.lit (.int .i64 x.Used)]
def zO(x:au):L D:=[.lit (.bool x.Reached),.lit (.int .i64 x.Stack),.lit (.int .i64 x.Env)]
def lI(x:bC):L D:=[.sl (List.map (λy=>.agg (w4 y)) x.C.dF),.sl (jh x.C.eA),.sl (List.map (λy=>.lit (.int .i64 y)) x.C.cY),.lit (.int .i64 x.C.Main),.sl (List.map (λy=>.agg (tZ y)) x.C.Cons),.sl (List.map (λy=>.agg (zO y)) x.D)]
def RS(x:aP):L D:=[.lit (.int .i64 x.Task),.lit (.int .i64 x.Do),.lit (.int .i64 x.N),.lit (.int .i64 x.V.Kind),.lit (.int .i64 x.V.N)]
def Ew(x:bn):L D:=[.sl (List.map (λy=>.agg (E4 y)) x.W.aN),.sl (List.map (λy=>.lit (.int .i64 y)) x.W.bI),.sl (List.map (λy=>.agg (Bh y)) x.W.mo),.sl (List.map (λy=>.lit (.int .i64 y)) x.W.dF),.lit (.int .i64 x.W.Used),.lit (.int .i64 x.ad6),.lit (.int .i64 x.E.Task),.lit (.int .i64 x.E.Do),.lit (.int .i64 x.E.N),.lit (.int .i64 x.E.V.Kind),.lit (.int .i64 x.E.V.N)]
def wZ(x:cJ):L D:=[.sl (List.map (λy=>.agg (E4 y)) x.av.aN),.sl (List.map (λy=>.lit (.int .i64 y)) x.av.bI),.sl (List.map (λy=>.agg (Bh y)) x.av.mo),.sl (List.map (λy=>.lit (.int .i64 y)) x.av.dF),.lit (.int .i64 x.av.Used),.sl (List.map (λy=>.agg (w4 y)) x.code.dF),.sl (jh x.code.eA),.sl (List.map (λy=>.lit (.int .i64 y)) x.code.cY),.lit (.int .i64 x.code.Main),.sl (List.map (λy=>.agg (tZ y)) x.code.Cons),.sl (List.map (λy=>.agg (zO y)) x.ZW),.mp (List.map (λy=>.lit (.int .i64 y.1)) x.Qx) (List.map (λy=>.lit (.bool y.2)) x.Qx)]
def O9(x:sn):L D:=[]
def Kn(x:iI):L D:=[.lit (.int .i64 x.aP.Task),.lit (.int .i64 x.aP.Do),.lit (.int .i64 x.aP.N),.lit (.int .i64 x.aP.V.Kind),.lit (.int .i64 x.aP.V.N)]
def Kl(x:rI):L D:=[]
def TW:fQ->O (TypeId×D)
 |.a0 x=>Z (197,.agg (O9 x))|.a1 x=>Z (203,.agg (Kn x))|.a2 x=>Z (213,.agg (Kl x))|.none=>Y
def adK(x:fQ):L D:=[Qn (TW x)]
mutual
def tX:cI->L D
 |.mk x0 x1 x2 x3=>[.lit (.int .i64 x0),.lit (.int .i64 x1),.lit (.string (cq x2)),.sl (mg x3)]
def mg:L cI->L D
 |[]=>[]|y::l=>.agg (tX y)::mg l
end
def m7:∀l:L cI,mg l=l.map (λy=>.agg (tX y))
 |[]=>rfl|y::l=>by simp only[mg,pN,m7 l]
def sj(x:iR):L D:=[.lit (.string (cq x.Name)),.sl (mg x.lu)]
def Kj(x:kL):L D:=[.lit (.string (cq x.Name)),.sl (List.map (λy=>.agg (sj y)) x.Cons)]
mutual
def Pc:Term->L D
 |.mk x0 x1 x2 x3 x4=>[.lit (.int .i64 x0),.lit (.int .i64 x1),.lit (.string (cq x2)),.sl (Hv x3),.sl (jh x4)]
def Hv:L Term->L D
 |[]=>[]|y::l=>.agg (Pc y)::Hv l
end
def zK:∀l:L Term,Hv l=l.map (λy=>.agg (Pc y))
 |[]=>rfl|y::l=>by simp only[Hv,pN,zK l]
def si(x:cZ):L D:=[.lit (.string (cq x.Name)),.lit (.string (cq x.Param)),.lit (.int .i64 x.PN.PE),.lit (.int .i64 x.PN.N),.lit (.string (cq x.PN.Text)),.sl (mg x.PN.Bw),.lit (.int .i64 x.To.PE),.lit (.int .i64 x.To.N),.lit (.string (cq x.To.Text)),.sl (mg x.To.Bw),.lit (.int .i64 x.Body.Op),.lit (.int .i64 x.Body.N),.lit (.string (cq x.Body.Text)),.sl (Hv x.Body.Kids),.sl (jh x.Body.eA)]
def Pb(x:ee):L D:=[.lit (.string (cq x.Name)),.sl (List.map (λy=>.agg (Kj y)) x.afa),.sl (List.map (λy=>.agg (si y)) x.cY)]
def tY(x:gD):L D:=[.lit (.int .i64 x.Op),.lit (.int .i64 x.N),.sl (List.map (λy=>.lit (.int .i64 y)) x.Kids),.sl (jh x.eA)]
def Wq(x:gQ):L D:=[.sl (List.map (λy=>.agg (tY y)) x.ae6),.sl (List.map (λy=>.lit (.int .i64 y)) x.cY),.lit (.int .i64 x.Main),.sl (List.map (λy=>.agg (tZ y)) x.Cons)]
def Bf(x:bq):L D:=[.lit (.int .i64 x.At),.lit (.bool x.jM.Reached),.lit (.int .i64 x.jM.Stack),.lit (.int .i64 x.jM.Env)]
def Bi(x:iH):L D:=[.lit (.bool x.waits),.lit (.int .i64 x.state)]
def zP(x:dP):L D:=[.sl (List.map (λy=>.lit (.string (cq y))) x.oV),.sl (List.map (λy=>.agg (tZ y)) x.cons),.sl (List.map (λy=>.agg (tY y)) x.nodes)]
def Pd(x:og):L D:=[.lit (.int .i64 x.a0),.lit (.int .i64 x.a1)]
def nU(x:bN):L D:=[.sl (List.map (λy=>.agg (w4 y)) x.dF),.sl (jh x.eA),.sl (List.map (λy=>.agg (Pd y)) x.Want)]
def Ki(x:nc):L D:=[.lit (.int .i64 x.env)]
def HG(x:jO):L D:=[.lit (.int .i64 x.stack)]
def Km(x:ni):L D:=[.lit (.int .i64 x.stack)]
def JU:eB->O (TypeId×D)
 |.a0 x=>Z (315,.agg (Ki x))|.a1 x=>Z (317,.agg (HG x))|.a2 x=>Z (318,.agg (Km x))|.none=>Y
def Wr(x:eB):L D:=[Qn (JU x)]
def HF(x:fR):L D:=[.lit (.int .i64 x.Kind),.lit (.string (cq x.Text)),.lit (.int .i64 x.N),.lit (.int .i64 x.At)]
def zN(x:bO):L D:=[.sl (List.map (λy=>.agg (HF y)) x.l_),.lit (.int .i64 x.at_),.lit (.bool x.bad)]
def RU(x:eH):L D:=[.lit (.int .i64 x.low),.lit (.int .i64 x.high),.lit (.bool x.asked)]
def aki:Any->O (TypeId×D)
 |.a0 x=>Z (199,.agg (Bi x))|.none=>Y
def asK(x:Any):L D:=[Qn (aki x)]
def O7:Nat->Type
 |0=>bR|1=>aB|2=>cz|3=>aA|4=>az|5=>aj|6=>bB|7=>eg|8=>av|9=>au|10=>bC|11=>aP|12=>bn|13=>cJ|14=>sn|15=>iI|16=>rI|17=>fQ|18=>cI|19=>iR|20=>kL|21=>Term|22=>cZ|23=>ee|24=>gD|25=>gQ|26=>bq|27=>iH|28=>dP|29=>og|30=>bN|31=>nc|32=>jO|33=>ni|34=>eB|35=>fR|36=>bO|37=>eH|38=>Any|_+39=>U
def fields:Nat->L Ty
 |0=>[.int .i64,.int .i64,.int .i64]|1=>[.int .i64,.int .i64,.str,.sl (.st 1)]|2=>[.str,.int .i64]|3=>[.sl (.st 0),.sl (.st 1),.sl (.int .i64),.int .i64,.sl (.st 2)]|4=>[.int .i64,.int .i64]|5=>[.int .i64,.sl (.st 4),.sl (.st 4),.bool]|6=>[.int .i64,.int .i64,.sl (.st 4),.sl (.st 5)]|7=>[.int .i64,.int .i64]|8=>[.sl (.st 6),.sl (.int .i64),.sl (.st 7),.sl (.int .i64),.int .i64]|9=>[.bool,.int .i64,.int .i64]|10=>[.sl (.st 0),.sl (.st 1),.sl (.int .i64),.int .i64,.sl (.st 2),.sl (.st 9)]|11=>[.int .i64,.int .i64,.int .i64,.int .i64,.int .i64]|12=>[.sl (.st 6),.sl (.int .i64),.sl (.st 7),.sl (.int .i64),.int .i64,.int .i64,.int .i64,.int .i64,.int .i64,.int .i64,.int .i64]|13=>[.sl (.st 6),.sl (.int .i64),.sl (.st 7),.sl (.int .i64),.int .i64,.sl (.st 0),.sl (.st 1),.sl (.int .i64),.int .i64,.sl (.st 2),.sl (.st 9),.mp (.int .i64) (.bool)]|14=>[]|15=>[.int .i64,.int .i64,.int .i64,.int .i64,.int .i64]|16=>[]|17=>[.dj 17]|18=>[.int .i64,.int .i64,.str,.sl (.st 18)]|19=>[.str,.sl (.st 18)]|20=>[.str,.sl (.st 19)]|21=>[.int .i64,.int .i64,.str,.sl (.st 21),.sl (.st 1)]|22=>[.str,.str,.int .i64,.int .i64,.str,.sl (.st 18),.int .i64,.int .i64,.str,.sl (.st 18),.int .i64,.int .i64,.str,.sl (.st 21),.sl (.st 1)]|23=>[.str,.sl (.st 20),.sl (.st 22)]|24=>[.int .i64,.int .i64,.sl (.int .i64),.sl (.st 1)]|25=>[.sl (.st 24),.sl (.int .i64),.int .i64,.sl (.st 2)]|26=>[.int .i64,.bool,.int .i64,.int .i64]|27=>[.bool,.int .i64]|28=>[.sl (.str),.sl (.st 2),.sl (.st 24)]|29=>[.int .i64,.int .i64]|30=>[.sl (.st 0),.sl (.st 1),.sl (.st 29)]|31=>[.int .i64]|32=>[.int .i64]|33=>[.int .i64]|34=>[.dj 34]|35=>[.int .i64,.str,.int .i64,.int .i64]|36=>[.sl (.st 35),.int .i64,.bool]|37=>[.int .i64,.int .i64,.bool]|38=>[.dj 38]|_+39=>[]
def dflt:(n:Nat)->O7 n
 |0=>bP|1=>aK|2=>bg|3=>qu|4=>bu|5=>aR|6=>bw|7=>kI|8=>cX|9=>aT|10=>lH|11=>ct|12=>jK|13=>DT|14=>O1|15=>Kb|16=>J9|17=>adD|18=>nT|19=>iC|20=>mJ|21=>sd|22=>dQ|23=>kH|24=>tW|25=>qv|26=>bf|27=>A7|28=>rD|29=>A8|30=>g9|31=>J8|32=>zJ|33=>Ka|34=>Wl|35=>dM|36=>rC|37=>fK|38=>asB|_+39=>()
def adi:(n:Nat)->O7 n->l7 O7 (fields n)
 |0,x=>(bR.Op x,bR.A x,bR.B x,())|1,x=>(aB.Form x,aB.N x,aB.Text x,aB.Bw x,())|2,x=>(cz.Name x,cz.lu x,())|3,x=>(aA.dF x,aA.eA x,aA.cY x,aA.Main x,aA.Cons x,())|4,x=>(az.Kind x,az.N x,())|5,x=>(aj.At x,aj.Env x,aj.Stack x,aj.dI x,())|6,x=>(bB.Form x,bB.N x,bB.fP x,bB.Frames x,())|7,x=>(eg.Port x,eg.N x,())|8,x=>(av.aN x,av.bI x,av.mo x,av.dF x,av.Used x,())|9,x=>(au.Reached x,au.Stack x,au.Env x,())|10,x=>((bC.C x).dF,(bC.C x).eA,(bC.C x).cY,(bC.C x).Main,(bC.C x).Cons,bC.D x,())|11,x=>(aP.Task x,aP.Do x,aP.N x,(aP.V x).Kind,(aP.V x).N,())|12,x=>((bn.W x).aN,(bn.W x).bI,(bn.W x).mo,(bn.W x).dF,(bn.W x).Used,bn.ad6 x,(bn.E x).Task,(bn.E x).Do,(bn.E x).N,(bn.E x).V.Kind,(bn.E x).V.N,())|13,x=>((cJ.av x).aN,(cJ.av x).bI,(cJ.av x).mo,(cJ.av x).dF,(cJ.av x).Used,(cJ.code x).dF,(cJ.code x).eA,(cJ.code x).cY,(cJ.code x).Main,(cJ.code x).Cons,cJ.ZW x,cJ.Qx x,())|14,_=>()|15,x=>((iI.aP x).Task,(iI.aP x).Do,(iI.aP x).N,(iI.aP x).V.Kind,(iI.aP x).V.N,())|16,_=>()|17,x=>(x,())|18,x=>(cI.PE x,cI.N x,cI.Text x,cI.Bw x,())|19,x=>(iR.Name x,iR.lu x,())|20,x=>(kL.Name x,kL.Cons x,())|21,x=>(Term.Op x,Term.N x,Term.Text x,Term.Kids x,Term.eA x,())|22,x=>(cZ.Name x,cZ.Param x,(cZ.PN x).PE,(cZ.PN x).N,(cZ.PN x).Text,(cZ.PN x).Bw,(cZ.To x).PE,(cZ.To x).N,(cZ.To x).Text,(cZ.To x).Bw,(cZ.Body x).Op,(cZ.Body x).N,(cZ.Body x).Text,(cZ.Body x).Kids,(cZ.Body x).eA,())|23,x=>(ee.Name x,ee.afa x,ee.cY x,())|24,x=>(gD.Op x,gD.N x,gD.Kids x,gD.eA x,())|25,x=>(gQ.ae6 x,gQ.cY x,gQ.Main x,gQ.Cons x,())|26,x=>(bq.At x,(bq.jM x).Reached,(bq.jM x).Stack,(bq.jM x).Env,())|27,x=>(iH.waits x,iH.state x,())|28,x=>(dP.oV x,dP.cons x,dP.nodes x,())|29,x=>(og.a0 x,og.a1 x,())|30,x=>(bN.dF x,bN.eA x,bN.Want x,())|31,x=>(nc.env x,())|32,x=>(jO.stack x,())|33,x=>(ni.stack x,())|34,x=>(x,())|35,x=>(fR.Kind x,fR.Text x,fR.N x,fR.At x,())|36,x=>(bO.l_ x,bO.at_ x,bO.bad x,())|37,x=>(eH.low x,eH.high x,eH.asked x,())|38,x=>(x,())|_+39,_=>()
def Yw:(n:Nat)->l7 O7 (fields n)->O7 n
 |0,(x0,x1,x2,())=>(⟨x0,x1,x2⟩:bR)|1,(x0,x1,x2,x3,())=>(⟨x0,x1,x2,x3⟩:aB)|2,(x0,x1,())=>(⟨x0,x1⟩:cz)|3,(x0,x1,x2,x3,x4,())=>(⟨x0,x1,x2,x3,x4⟩:aA)|4,(x0,x1,())=>(⟨x0,x1⟩:az)|5,(x0,x1,x2,x3,())=>(⟨x0,x1,x2,x3⟩:aj)|6,(x0,x1,x2,x3,())=>(⟨x0,x1,x2,x3⟩:bB)|7,(x0,x1,())=>(⟨x0,x1⟩:eg)|8,(x0,x1,x2,x3,x4,())=>(⟨x0,x1,x2,x3,x4⟩:av)|9,(x0,x1,x2,())=>(⟨x0,x1,x2⟩:au)|10,(x0,x1,x2,x3,x4,x5,())=>(⟨⟨x0,x1,x2,x3,x4⟩,x5⟩:bC)|11,(x0,x1,x2,x3,x4,())=>(⟨x0,x1,x2,⟨x3,x4⟩⟩:aP)|12,(x0,x1,x2,x3,x4,x5,x6,x7,x8,x9,W9,())=>(⟨⟨x0,x1,x2,x3,x4⟩,x5,⟨x6,x7,x8,⟨x9,W9⟩⟩⟩:bn)|13,(x0,x1,x2,x3,x4,x5,x6,x7,x8,x9,W9,x11,())=>(⟨⟨x0,x1,x2,x3,x4⟩,⟨x5,x6,x7,x8,x9⟩,W9,x11⟩:cJ)|14,_=>(⟨⟩:sn)|15,(x0,x1,x2,x3,x4,())=>(⟨⟨x0,x1,x2,⟨x3,x4⟩⟩⟩:iI)|16,_=>(⟨⟩:rI)|17,(x,())=>x|18,(x0,x1,x2,x3,())=>(⟨x0,x1,x2,x3⟩:cI)|19,(x0,x1,())=>(⟨x0,x1⟩:iR)|20,(x0,x1,())=>(⟨x0,x1⟩:kL)|21,(x0,x1,x2,x3,x4,())=>(⟨x0,x1,x2,x3,x4⟩:Term)|22,(x0,x1,x2,x3,x4,x5,x6,x7,x8,x9,W9,x11,x12,x13,x14,())=>(⟨x0,x1,⟨x2,x3,x4,x5⟩,⟨x6,x7,x8,x9⟩,⟨W9,x11,x12,x13,x14⟩⟩:cZ)|23,(x0,x1,x2,())=>(⟨x0,x1,x2⟩:ee)|24,(x0,x1,x2,x3,())=>(⟨x0,x1,x2,x3⟩:gD)|25,(x0,x1,x2,x3,())=>(⟨x0,x1,x2,x3⟩:gQ)|26,(x0,x1,x2,x3,())=>(⟨x0,⟨x1,x2,x3⟩⟩:bq)|27,(x0,x1,())=>(⟨x0,x1⟩:iH)|28,(x0,x1,x2,())=>(⟨x0,x1,x2⟩:dP)|29,(x0,x1,())=>(⟨x0,x1⟩:og)|30,(x0,x1,x2,())=>(⟨x0,x1,x2⟩:bN)|31,(x0,())=>(⟨x0⟩:nc)|32,(x0,())=>(⟨x0⟩:jO)|33,(x0,())=>(⟨x0⟩:ni)|34,(x,())=>x|35,(x0,x1,x2,x3,())=>(⟨x0,x1,x2,x3⟩:fR)|36,(x0,x1,x2,())=>(⟨x0,x1,x2⟩:bO)|37,(x0,x1,x2,())=>(⟨x0,x1,x2⟩:eH)|38,(x,())=>x|_+39,_=>()
def Z8:(n:Nat)->O7 n->L D
 |0,x=>w4 x|1,x=>wY x|2,x=>tZ x|3,x=>CG x|4,x=>Bg x|5,x=>Kk x|6,x=>E4 x|7,x=>Bh x|8,x=>Wp x|9,x=>zO x|10,x=>lI x|11,x=>RS x|12,x=>Ew x|13,x=>wZ x|14,x=>O9 x|15,x=>Kn x|16,x=>Kl x|17,x=>adK x|18,x=>tX x|19,x=>sj x|20,x=>Kj x|21,x=>Pc x|22,x=>si x|23,x=>Pb x|24,x=>tY x|25,x=>Wq x|26,x=>Bf x|27,x=>Bi x|28,x=>zP x|29,x=>Pd x|30,x=>nU x|31,x=>Ki x|32,x=>HG x|33,x=>Km x|34,x=>Wr x|35,x=>HF x|36,x=>zN x|37,x=>RU x|38,x=>asK x|_+39,_=>[]
def Kt:Nat->L (TypeId×Ty)
 |17=>[(197,.st 14),(203,.st 15),(213,.st 16)]|34=>[(315,.st 31),(317,.st 32),(318,.st 33)]|38=>[(199,.st 27)]|_=>[]
def gW:(n:Nat)->O7 n->yu O7 (Kt n)
 |0,_=>()|1,_=>()|2,_=>()|3,_=>()|4,_=>()|5,_=>()|6,_=>()|7,_=>()|8,_=>()|9,_=>()|10,_=>()|11,_=>()|12,_=>()|13,_=>()|14,_=>()|15,_=>()|16,_=>()|17,.a0 x=>.inl x|17,.a1 x=>.inr (.inl x)|17,.a2 x=>.inr (.inr (.inl x))|17,.none=>.inr (.inr (.inr (())))|18,_=>()|19,_=>()|20,_=>()|21,_=>()|22,_=>()|23,_=>()|24,_=>()|25,_=>()|26,_=>()|27,_=>()|28,_=>()|29,_=>()|30,_=>()|31,_=>()|32,_=>()|33,_=>()|34,.a0 x=>.inl x|34,.a1 x=>.inr (.inl x)|34,.a2 x=>.inr (.inr (.inl x))|34,.none=>.inr (.inr (.inr (())))|35,_=>()|36,_=>()|37,_=>()|38,.a0 x=>.inl x|38,.none=>.inr (())|_+39,_=>()
def akf:(n:Nat)->yu O7 (Kt n)->O7 n
 |0,_=>bP|1,_=>aK|2,_=>bg|3,_=>qu|4,_=>bu|5,_=>aR|6,_=>bw|7,_=>kI|8,_=>cX|9,_=>aT|10,_=>lH|11,_=>ct|12,_=>jK|13,_=>DT|14,_=>O1|15,_=>Kb|16,_=>J9|17,.inl x=>(fQ.a0 x)|17,.inr (.inl x)=>(fQ.a1 x)|17,.inr (.inr (.inl x))=>(fQ.a2 x)|17,.inr (.inr (.inr (_)))=>fQ.none|18,_=>nT|19,_=>iC|20,_=>mJ|21,_=>sd|22,_=>dQ|23,_=>kH|24,_=>tW|25,_=>qv|26,_=>bf|27,_=>A7|28,_=>rD|29,_=>A8|30,_=>g9|31,_=>J8|32,_=>zJ|33,_=>Ka|34,.inl x=>(eB.a0 x)|34,.inr (.inl x)=>(eB.a1 x)|34,.inr (.inr (.inl x))=>(eB.a2 x)|34,.inr (.inr (.inr (_)))=>eB.none|35,_=>dM|36,_=>rC|37,_=>fK|38,.inl x=>(Any.a0 x)|38,.inr (_)=>Any.none|_+39,_=>()
def YX:(n:Nat)->O7 n->O (TypeId×D)
 |17,x=>TW x|34,x=>JU x|38,x=>aki x|_,_=>Y
def sg:Sg:=⟨O7,fields,dflt,adi,Yw,Z8,Kt,gW,akf,YX,.dj 38⟩
def sH:(n:Nat)->(h:l7 O7 (fields n))->adi n (Yw n h)=h
 |0,(x0,x1,x2,())=>rfl|1,(x0,x1,x2,x3,())=>rfl|2,(x0,x1,())=>rfl|3,(x0,x1,x2,x3,x4,())=>rfl|4,(x0,x1,())=>rfl|5,(x0,x1,x2,x3,())=>rfl|6,(x0,x1,x2,x3,())=>rfl|7,(x0,x1,())=>rfl|8,(x0,x1,x2,x3,x4,())=>rfl|9,(x0,x1,x2,())=>rfl|10,(x0,x1,x2,x3,x4,x5,())=>rfl|11,(x0,x1,x2,x3,x4,())=>rfl|12,(x0,x1,x2,x3,x4,x5,x6,x7,x8,x9,W9,())=>rfl|13,(x0,x1,x2,x3,x4,x5,x6,x7,x8,x9,W9,x11,())=>rfl|14,()=>rfl|15,(x0,x1,x2,x3,x4,())=>rfl|16,()=>rfl|17,(x0,())=>rfl|18,(x0,x1,x2,x3,())=>rfl|19,(x0,x1,())=>rfl|20,(x0,x1,())=>rfl|21,(x0,x1,x2,x3,x4,())=>rfl|22,(x0,x1,x2,x3,x4,x5,x6,x7,x8,x9,W9,x11,x12,x13,x14,())=>rfl|23,(x0,x1,x2,())=>rfl|24,(x0,x1,x2,x3,())=>rfl|25,(x0,x1,x2,x3,())=>rfl|26,(x0,x1,x2,x3,())=>rfl|27,(x0,x1,())=>rfl|28,(x0,x1,x2,())=>rfl|29,(x0,x1,())=>rfl|30,(x0,x1,x2,())=>rfl|31,(x0,())=>rfl|32,(x0,())=>rfl|33,(x0,())=>rfl|34,(x0,())=>rfl|35,(x0,x1,x2,x3,())=>rfl|36,(x0,x1,x2,())=>rfl|37,(x0,x1,x2,())=>rfl|38,(x0,())=>rfl|_+39,()=>rfl
def Yt:(n:Nat)->(x:O7 n)->Yw n (adi n x)=x
 |0,⟨x0,x1,x2⟩=>rfl|1,⟨x0,x1,x2,x3⟩=>rfl|2,⟨x0,x1⟩=>rfl|3,⟨x0,x1,x2,x3,x4⟩=>rfl|4,⟨x0,x1⟩=>rfl|5,⟨x0,x1,x2,x3⟩=>rfl|6,⟨x0,x1,x2,x3⟩=>rfl|7,⟨x0,x1⟩=>rfl|8,⟨x0,x1,x2,x3,x4⟩=>rfl|9,⟨x0,x1,x2⟩=>rfl|10,⟨⟨x0,x1,x2,x3,x4⟩,x5⟩=>rfl|11,⟨x0,x1,x2,⟨x3,x4⟩⟩=>rfl|12,⟨⟨x0,x1,x2,x3,x4⟩,x5,⟨x6,x7,x8,⟨x9,W9⟩⟩⟩=>rfl|13,⟨⟨x0,x1,x2,x3,x4⟩,⟨x5,x6,x7,x8,x9⟩,W9,x11⟩=>rfl|14,.mk=>rfl|15,⟨⟨x0,x1,x2,⟨x3,x4⟩⟩⟩=>rfl|16,.mk=>rfl|17,_=>rfl|18,⟨x0,x1,x2,x3⟩=>rfl|19,⟨x0,x1⟩=>rfl|20,⟨x0,x1⟩=>rfl|21,⟨x0,x1,x2,x3,x4⟩=>rfl|22,⟨x0,x1,⟨x2,x3,x4,x5⟩,⟨x6,x7,x8,x9⟩,⟨W9,x11,x12,x13,x14⟩⟩=>rfl|23,⟨x0,x1,x2⟩=>rfl|24,⟨x0,x1,x2,x3⟩=>rfl|25,⟨x0,x1,x2,x3⟩=>rfl|26,⟨x0,⟨x1,x2,x3⟩⟩=>rfl|27,⟨x0,x1⟩=>rfl|28,⟨x0,x1,x2⟩=>rfl|29,⟨x0,x1⟩=>rfl|30,⟨x0,x1,x2⟩=>rfl|31,⟨x0⟩=>rfl|32,⟨x0⟩=>rfl|33,⟨x0⟩=>rfl|34,_=>rfl|35,⟨x0,x1,x2,x3⟩=>rfl|36,⟨x0,x1,x2⟩=>rfl|37,⟨x0,x1,x2⟩=>rfl|38,_=>rfl|_+39,()=>rfl
def Z7:(n:Nat)->(x:O7 n)->Z8 n x=e9 sg (fields n) (adi n x)
 |0,_=>rfl|1,.mk x0 x1 x2 x3=>by show wY _=_;simp only[wY,gr];rfl
 |2,_=>rfl|3,x=>by show CG x=_;simp only[CG,gr];rfl
 |4,_=>rfl|5,_=>rfl|6,_=>rfl|7,_=>rfl|8,_=>rfl|9,_=>rfl|10,x=>by show lI x=_;simp only[lI,gr];rfl
 |11,_=>rfl|12,_=>rfl|13,x=>by show wZ x=_;simp only[wZ,gr];rfl
 |14,_=>rfl|15,_=>rfl|16,_=>rfl|17,_=>rfl|18,.mk x0 x1 x2 x3=>by show tX _=_;simp only[tX,m7];rfl
 |19,x=>by show sj x=_;simp only[sj,m7];rfl
 |20,_=>rfl|21,.mk x0 x1 x2 x3 x4=>by show Pc _=_;simp only[Pc,zK,gr];rfl
 |22,x=>by show si x=_;simp only[si,zK,gr,m7];rfl
 |23,_=>rfl|24,x=>by show tY x=_;simp only[tY,gr];rfl
 |25,_=>rfl|26,_=>rfl|27,_=>rfl|28,_=>rfl|29,_=>rfl|30,x=>by show nU x=_;simp only[nU,gr];rfl
 |31,_=>rfl|32,_=>rfl|33,_=>rfl|34,_=>rfl|35,_=>rfl|36,_=>rfl|37,_=>rfl|38,_=>rfl|_+39,()=>rfl
def acw:(n:Nat)->∀t∈fields n,kV t=J
 |0=>λt h=>cO (l:=fields 0) rfl t h|1=>λt h=>cO (l:=fields 1) rfl t h|2=>λt h=>cO (l:=fields 2) rfl t h|3=>λt h=>cO (l:=fields 3) rfl t h|4=>λt h=>cO (l:=fields 4) rfl t h|5=>λt h=>cO (l:=fields 5) rfl t h|6=>λt h=>cO (l:=fields 6) rfl t h|7=>λt h=>cO (l:=fields 7) rfl t h|8=>λt h=>cO (l:=fields 8) rfl t h|9=>λt h=>cO (l:=fields 9) rfl t h|10=>λt h=>cO (l:=fields 10) rfl t h|11=>λt h=>cO (l:=fields 11) rfl t h|12=>λt h=>cO (l:=fields 12) rfl t h|13=>λt h=>cO (l:=fields 13) rfl t h|14=>λt h=>cO (l:=fields 14) rfl t h|15=>λt h=>cO (l:=fields 15) rfl t h|16=>λt h=>cO (l:=fields 16) rfl t h|17=>λt h=>cO (l:=fields 17) rfl t h|18=>λt h=>cO (l:=fields 18) rfl t h|19=>λt h=>cO (l:=fields 19) rfl t h|20=>λt h=>cO (l:=fields 20) rfl t h|21=>λt h=>cO (l:=fields 21) rfl t h|22=>λt h=>cO (l:=fields 22) rfl t h|23=>λt h=>cO (l:=fields 23) rfl t h|24=>λt h=>cO (l:=fields 24) rfl t h|25=>λt h=>cO (l:=fields 25) rfl t h|26=>λt h=>cO (l:=fields 26) rfl t h|27=>λt h=>cO (l:=fields 27) rfl t h|28=>λt h=>cO (l:=fields 28) rfl t h|29=>λt h=>cO (l:=fields 29) rfl t h|30=>λt h=>cO (l:=fields 30) rfl t h|31=>λt h=>cO (l:=fields 31) rfl t h|32=>λt h=>cO (l:=fields 32) rfl t h|33=>λt h=>cO (l:=fields 33) rfl t h|34=>λt h=>cO (l:=fields 34) rfl t h|35=>λt h=>cO (l:=fields 35) rfl t h|36=>λt h=>cO (l:=fields 36) rfl t h|37=>λt h=>cO (l:=fields 37) rfl t h|38=>λt h=>cO (l:=fields 38) rfl t h|_+39=>λ_ h=>by cases h
def EX:(n:Nat)->(h:yu O7 (Kt n))->gW n (akf n h)=h
 |0,()=>rfl|1,()=>rfl|2,()=>rfl|3,()=>rfl|4,()=>rfl|5,()=>rfl|6,()=>rfl|7,()=>rfl|8,()=>rfl|9,()=>rfl|10,()=>rfl|11,()=>rfl|12,()=>rfl|13,()=>rfl|14,()=>rfl|15,()=>rfl|16,()=>rfl|17,.inl x=>rfl|17,.inr (.inl x)=>rfl|17,.inr (.inr (.inl x))=>rfl|17,.inr (.inr (.inr (())))=>rfl|18,()=>rfl|19,()=>rfl|20,()=>rfl|21,()=>rfl|22,()=>rfl|23,()=>rfl|24,()=>rfl|25,()=>rfl|26,()=>rfl|27,()=>rfl|28,()=>rfl|29,()=>rfl|30,()=>rfl|31,()=>rfl|32,()=>rfl|33,()=>rfl|34,.inl x=>rfl|34,.inr (.inl x)=>rfl|34,.inr (.inr (.inl x))=>rfl|34,.inr (.inr (.inr (())))=>rfl|35,()=>rfl|36,()=>rfl|37,()=>rfl|38,.inl x=>rfl|38,.inr (())=>rfl|_+39,()=>rfl
def YW:(n:Nat)->(x:O7 n)->YX n x=uV sg (Kt n) (gW n x)
 |0,_=>rfl|1,_=>rfl|2,_=>rfl|3,_=>rfl|4,_=>rfl|5,_=>rfl|6,_=>rfl|7,_=>rfl|8,_=>rfl|9,_=>rfl|10,_=>rfl|11,_=>rfl|12,_=>rfl|13,_=>rfl|14,_=>rfl|15,_=>rfl|16,_=>rfl|17,x=>by cases x<;>rfl
 |18,_=>rfl|19,_=>rfl|20,_=>rfl|21,_=>rfl|22,_=>rfl|23,_=>rfl|24,_=>rfl|25,_=>rfl|26,_=>rfl|27,_=>rfl|28,_=>rfl|29,_=>rfl|30,_=>rfl|31,_=>rfl|32,_=>rfl|33,_=>rfl|34,x=>by cases x<;>rfl
 |35,_=>rfl|36,_=>rfl|37,_=>rfl|38,x=>by cases x<;>rfl
 |_+39,()=>rfl
def adQ:(n:Nat)->Pp (Kt n)=W
 |0=>rfl|1=>rfl|2=>rfl|3=>rfl|4=>rfl|5=>rfl|6=>rfl|7=>rfl|8=>rfl|9=>rfl|10=>rfl|11=>rfl|12=>rfl|13=>rfl|14=>rfl|15=>rfl|16=>rfl|17=>rfl|18=>rfl|19=>rfl|20=>rfl|21=>rfl|22=>rfl|23=>rfl|24=>rfl|25=>rfl|26=>rfl|27=>rfl|28=>rfl|29=>rfl|30=>rfl|31=>rfl|32=>rfl|33=>rfl|34=>rfl|35=>rfl|36=>rfl|37=>rfl|38=>rfl|_+39=>rfl
def aeo:fq sg:=⟨sH,Yt,Z7,acw,EX,YW,adQ⟩
noncomputable def Qt:Tr (TI):=(n0 (cR (n1 ⟨1,J,[aH],[],.leaf (.int .i64)⟩ (n1 ⟨4,W,[aH,aH,.lit (.bool J),.lit (.int .u8 0)],[.int .i64,.int .i64,.bool,.int .u8],pg⟩ (n1 ⟨1,J,[jc],[],.ptr⟩ (n1 ⟨1,J,[.sl []],[],.slice 2 W 16 [aH,aH]⟩ (n1 ⟨2,W,[aH,aH],[.int .i64,.int .i64],vE⟩ (n1 ⟨2,W,[aH,aH],[.int .i64,.int .i64],vE⟩ cm e0) (bH ⟨1,J,[jc],[],.ptr⟩)) (n1 ⟨1,J,[jc],[],.ptr⟩ (n1 ⟨3,W,[dL,.sl [],.sl []],[],rS⟩ cm e0) (n1 ⟨1,J,[jc],[],.ptr⟩ cm e0))) (cR (cR (cR cm e0) (n1 ⟨11,W,[jc,aH,.sl [],aH,.sl [],.sl [],.lit (.bool J),aH,aH,aH,jc],[],.struct [(0,1,J),(1,1,J),(2,1,J),(3,4,W),(7,3,W),(10,1,J)]⟩ cm e0)) (n0 (cR cm e0) (n1 ⟨1,J,[.sl []],[],.slice 4 W 56 [aH,aH,dL,.sl []]⟩ cm e0)))) (n1 ⟨1,J,[.sl []],[],.slice 4 W 56 [aH,aH,dL,.sl []]⟩ (n1 ⟨6,W,[.sl [],.sl [],.sl [],aH,.sl [],.sl []],[],.struct [(0,5,W),(5,1,J)]⟩ (cR (n1 ⟨1,J,[aH],[],.leaf (.int .i64)⟩ cm e0) (n1 ⟨2,W,[.lit (.bool J),aH],[.bool,.int .i64],vE⟩ cm e0)) (n1 ⟨4,W,[aH,.sl [],.sl [],.lit (.bool J)],[],pg⟩ (cR cm e0) (cR cm e0))) (cR (cR cm (n0 cm e0)) (cR e0 cm)))) (n0 (n0 (n0 (n0 (n1 ⟨1,J,[.lit .nilIface],[],.iface⟩ (bH ⟨1,J,[.lit .nilIface],[],.iface⟩) e0) (cR cm e0)) (n1 ⟨1,J,[aH],[],.leaf (.int .i64)⟩ (n1 ⟨4,W,[.sl [],.sl [],aH,.sl []],[],pg⟩ (bH ⟨2,W,[dL,.sl []],[],vE⟩) e0) (cR cm e0))) (cR (n0 (cR cm e0) (cR cm e0)) (cR (n1 ⟨1,J,[.sl []],[],.slice 4 W 32 [aH,.lit (.bool J),aH,aH]⟩ cm e0) (n1 ⟨5,W,[aH,aH,dL,.sl [],.sl []],[],Ji⟩ cm e0)))) (n1 ⟨5,W,[.sl [],.sl [],.sl [],aH,.sl []],[],Ji⟩ (cR (cR (cR cm e0) (n1 ⟨5,W,[aH,aH,aH,aH,aH],[.int .i64,.int .i64,.int .i64,.int .i64,.int .i64],.struct [(0,5,W)]⟩ cm e0)) (cR (n1 ⟨3,W,[.lit (.bool J),aH,aH],[.bool,.int .i64,.int .i64],rS⟩ cm e0) (cR cm e0))) (n0 (n1 ⟨2,W,[dL,aH],[.str,.int .i64],vE⟩ (cR cm e0) (n0 cm e0)) (cR (cR (bH ⟨1,W,[aH],[.int .i64],Jj⟩) e0) (n1 ⟨1,J,[.sl []],[],.slice 2 W 16 [aH,aH]⟩ (bH ⟨4,W,[jc,jc,jc,dL],[],pg⟩) e0)))))) (n1 ⟨1,J,[.lit (.int .u8 0)],[],.leaf (.int .u8)⟩ (n1 ⟨1,J,[dL],[],.leaf .str⟩ (n1 ⟨1,J,[jc],[],.ptr⟩ (n1 ⟨5,W,[.sl [],.sl [],.sl [],.sl [],aH],[],Ji⟩ (n1 ⟨5,W,[aH,aH,aH,aH,aH],[.int .i64,.int .i64,.int .i64,.int .i64,.int .i64],.struct [(0,1,J),(1,1,J),(2,1,J),(3,2,W)]⟩ (cR cm (bH ⟨1,J,[.lit (.int .u32 0)],[],.leaf (.int .u32)⟩)) (cR cm e0)) (cR (cR (bH ⟨1,J,[.sl []],[],.slice 2 W 40 [dL,.sl []]⟩) e0) (cR cm e0))) (n1 ⟨1,J,[.sl []],[],.slice 5 W 40 [aH,aH,aH,aH,aH]⟩ (n1 ⟨11,W,[.sl [],.sl [],.sl [],.sl [],aH,aH,aH,aH,aH,aH,aH],[],.struct [(0,5,W),(5,1,J),(6,5,W)]⟩ (cR cm e0) (cR cm e0)) (cR (cR cm e0) (n1 ⟨4,W,[aH,aH,dL,.sl []],[],pg⟩ cm e0)))) (n1 ⟨1,J,[.sl []],[],.slice 2 W 24 [dL,aH]⟩ (cR (cR (n1 ⟨3,W,[aH,aH,aH],[.int .i64,.int .i64,.int .i64],rS⟩ cm e0) (cR cm e0)) (n1 ⟨4,W,[aH,aH,.sl [],.sl []],[],pg⟩ (cR (bH ⟨2,W,[dL,.sl []],[],vE⟩) e0) (n1 ⟨3,W,[.sl [],.sl [],.sl []],[],rS⟩ cm e0))) (cR (n1 ⟨4,W,[aH,aH,dL,.sl []],[],pg⟩ (cR (bH ⟨3,W,[.sl [],aH,.lit (.bool J)],[],rS⟩) e0) (n0 cm e0)) (n0 (cR cm e0) (n1 ⟨4,W,[aH,aH,.sl [],.sl []],[],pg⟩ cm e0))))) (n0 (n1 ⟨1,J,[.lit (.int .i32 0)],[],.leaf (.int .i32)⟩ (n1 ⟨1,J,[.sl []],[],.slice 3 W 24 [.lit (.bool J),aH,aH]⟩ (n0 (cR cm (bH ⟨1,J,[jc],[],.ptr⟩)) (n1 ⟨0,W,[],[],.struct []⟩ cm e0)) (n1 ⟨1,J,[.sl []],[],.slice 2 W 16 [aH,aH]⟩ (n0 cm e0) (n1 ⟨1,J,[.sl []],[],.slice 1 J 16 [dL]⟩ (bH ⟨1,J,[jc],[],.ptr⟩) e0))) (cR (cR (cR cm e0) (bH ⟨0,W,[],[],.struct []⟩)) (cR (n1 ⟨4,W,[aH,.lit (.bool J),aH,aH],[.int .i64,.bool,.int .i64,.int .i64],.struct [(0,1,J),(1,3,W)]⟩ (bH ⟨3,W,[aH,aH,.lit (.bool J)],[.int .i64,.int .i64,.bool],rS⟩) e0) (n1 ⟨15,W,[dL,dL,aH,aH,dL,.sl [],aH,aH,dL,.sl [],aH,aH,dL,.sl [],.sl []],[],.struct [(0,1,J),(1,1,J),(2,4,W),(6,4,W),(10,5,W)]⟩ cm e0)))) (cR (cR (cR (cR cm e0) (n1 ⟨1,J,[jc],[],.ptr⟩ cm e0)) (n1 ⟨12,W,[.sl [],.sl [],.sl [],.sl [],aH,.sl [],.sl [],.sl [],aH,.sl [],.sl [],.lit (.map Y)],[],.struct [(0,5,W),(5,5,W),(10,1,J),(11,1,J)]⟩ (cR cm e0) (cR cm e0))) (n1 ⟨1,J,[aH],[],.leaf (.int .i64)⟩ (cR (n1 ⟨1,J,[.sl []],[],.slice 15 W 224 [dL,dL,aH,aH,dL,.sl [],aH,aH,dL,.sl [],aH,aH,dL,.sl [],.sl []]⟩ (bH ⟨4,W,[aH,dL,aH,aH],[.int .i64,.str,.int .i64,.int .i64],pg⟩) e0) (cR cm e0)) (cR (cR (bH ⟨1,W,[aH],[.int .i64],Jj⟩) e0) (n1 ⟨3,W,[.sl [],.sl [],.sl []],[],rS⟩ (bH ⟨0,W,[],[],.array 0 1 J⟩) e0))))))) (n1 ⟨1,J,[aH],[],.leaf (.int .i64)⟩ (n1 ⟨1,J,[.lit (.bool J)],[],.leaf .bool⟩ (n0 (n1 ⟨1,J,[jc],[],.ptr⟩ (n1 ⟨5,W,[.sl [],.sl [],.sl [],.sl [],aH],[],Ji⟩ (n1 ⟨2,W,[aH,aH],[.int .i64,.int .i64],vE⟩ (n1 ⟨2,W,[aH,aH],[.int .i64,.int .i64],vE⟩ (bH ⟨2,W,[aH,aH],[],.array 2 1 J⟩) cm) (n1 ⟨1,J,[jc],[],.ptr⟩ cm e0)) (n0 (n0 cm e0) (n0 cm e0))) (cR (n1 ⟨11,W,[.sl [],.sl [],.sl [],.sl [],aH,aH,aH,aH,aH,aH,aH],[],.struct [(0,5,W),(5,1,J),(6,5,W)]⟩ (cR cm e0) (cR cm e0)) (cR (cR cm e0) (n1 ⟨4,W,[aH,aH,dL,.sl []],[],pg⟩ cm e0)))) (n1 ⟨1,J,[.sl []],[],.slice 1 J 8 [aH]⟩ (n0 (cR (n1 ⟨3,W,[aH,aH,aH],[.int .i64,.int .i64,.int .i64],rS⟩ cm e0) (n0 cm e0)) (n1 ⟨1,J,[.sl []],[],.slice 4 W 64 [aH,.sl [],.sl [],.lit (.bool J)]⟩ (n0 cm e0) (n1 ⟨3,W,[.sl [],.sl [],.sl []],[],rS⟩ cm e0))) (cR (n1 ⟨1,J,[aH],[],.leaf (.int .i64)⟩ (cR cm e0) (cR cm e0)) (cR (cR cm e0) (cR cm e0))))) (n1 ⟨1,J,[.lit (.int .u64 0)],[],.leaf (.int .u64)⟩ (n1 ⟨1,J,[.lit .nilIface],[],.iface⟩ (cR (cR (cR cm cm) (n1 ⟨0,W,[],[],.struct []⟩ cm e0)) (cR (n1 ⟨4,W,[.sl [],.sl [],aH,.sl []],[],pg⟩ cm e0) (n1 ⟨1,J,[jc],[],.ptr⟩ cm e0))) (cR (cR (cR cm e0) (cR cm e0)) (cR (cR cm e0) (n1 ⟨5,W,[aH,aH,dL,.sl [],.sl []],[],Ji⟩ cm e0)))) (cR (n0 (n0 (cR cm e0) (n1 ⟨1,J,[jc],[],.ptr⟩ cm e0)) (n1 ⟨1,J,[.lit (.map Y)],[],.other⟩ (cR cm e0) (cR cm e0))) (cR (n1 ⟨2,W,[dL,aH],[.str,.int .i64],vE⟩ (n1 ⟨1,J,[.sl []],[],.slice 2 W 40 [dL,.sl []]⟩ (bH ⟨1,J,[aH],[],.leaf (.int .i64)⟩) e0) (cR cm e0)) (cR (cR (bH ⟨1,W,[aH],[.int .i64],Jj⟩) e0) (bH ⟨3,W,[.sl [],.sl [],.sl []],[],rS⟩)))))) (n0 (n0 (n1 ⟨1,W,[jc],[],Jj⟩ (n1 ⟨1,J,[aH],[],.leaf (.int .i64)⟩ (n1 ⟨5,W,[aH,aH,aH,aH,aH],[.int .i64,.int .i64,.int .i64,.int .i64,.int .i64],.struct [(0,1,J),(1,1,J),(2,1,J),(3,2,W)]⟩ (n1 ⟨1,J,[.lit .nilIface],[],.iface⟩ (bH ⟨1,J,[.lit .nilIface],[],.iface⟩) e0) (cR cm e0)) (cR (n1 ⟨1,J,[.sl []],[],.slice 4 W 64 [aH,aH,.sl [],.sl []]⟩ (bH ⟨2,W,[dL,.sl []],[],vE⟩) e0) (cR cm e0))) (n0 (cR (cR cm e0) (n1 ⟨35,W,[ey,ey,ey,ey,ey,ey,ey,ey,ey,ey,ey,ey,ey,ey,ey,ey,ey,ey,ey,ey,ey,ey,ey,ey,ey,ey,ey,ey,ey,ey,ey,ey,ey,ey,ey],[],.array 35 1 J⟩ cm e0)) (n0 (cR cm e0) (n1 ⟨1,J,[.sl []],[],.slice 5 W 80 [aH,aH,dL,.sl [],.sl []]⟩ cm e0)))) (n1 ⟨5,W,[.sl [],.sl [],.sl [],aH,.sl []],[],Ji⟩ (cR (n0 (cR cm e0) (bH ⟨5,W,[aH,aH,aH,aH,aH],[.int .i64,.int .i64,.int .i64,.int .i64,.int .i64],.struct [(0,5,W)]⟩)) (n1 ⟨4,W,[aH,aH,.sl [],.sl []],[],pg⟩ (n1 ⟨3,W,[.lit (.bool J),aH,aH],[.bool,.int .i64,.int .i64],rS⟩ (bH ⟨2,W,[dL,.sl []],[],vE⟩) e0) (cR cm e0))) (cR (n1 ⟨4,W,[aH,aH,dL,.sl []],[],pg⟩ (cR (bH ⟨3,W,[.sl [],aH,.lit (.bool J)],[],rS⟩) e0) (cR cm e0)) (cR (n1 ⟨1,J,[.lit (.map Y)],[],.other⟩ (bH ⟨1,W,[aH],[.int .i64],Jj⟩) e0) (n1 ⟨4,W,[aH,aH,.sl [],.sl []],[],pg⟩ cm e0))))) (n0 (n1 ⟨1,J,[.sl []],[],.slice 3 W 24 [aH,aH,aH]⟩ (n1 ⟨6,W,[.sl [],.sl [],.sl [],aH,.sl [],.sl []],[],.struct [(0,5,W),(5,1,J)]⟩ (cR (cR cm e0) (n1 ⟨2,W,[.lit (.bool J),aH],[.bool,.int .i64],vE⟩ cm e0)) (n1 ⟨4,W,[aH,.sl [],.sl [],.lit (.bool J)],[],pg⟩ (cR cm e0) (cR cm e0))) (cR (cR (cR (bH ⟨1,J,[.sl []],[],.slice 4 W 40 [aH,dL,aH,aH]⟩) e0) (cR cm e0)) (cR (n1 ⟨4,W,[aH,.lit (.bool J),aH,aH],[.int .i64,.bool,.int .i64,.int .i64],.struct [(0,1,J),(1,3,W)]⟩ (bH ⟨3,W,[aH,aH,.lit (.bool J)],[.int .i64,.int .i64,.bool],rS⟩) e0) (n1 ⟨15,W,[dL,dL,aH,aH,dL,.sl [],aH,aH,dL,.sl [],aH,aH,dL,.sl [],.sl []],[],.struct [(0,1,J),(1,1,J),(2,4,W),(6,4,W),(10,5,W)]⟩ cm e0)))) (n1 ⟨1,J,[.sl []],[],.slice 4 W 64 [aH,aH,.sl [],.sl []]⟩ (cR (cR (cR cm e0) (n1 ⟨11,W,[jc,aH,.sl [],aH,.sl [],.sl [],.lit (.bool J),aH,aH,aH,jc],[],.struct [(0,1,J),(1,1,J),(2,1,J),(3,4,W),(7,3,W),(10,1,J)]⟩ cm e0)) (n1 ⟨12,W,[.sl [],.sl [],.sl [],.sl [],aH,.sl [],.sl [],.sl [],aH,.sl [],.sl [],.lit (.map Y)],[],.struct [(0,5,W),(5,5,W),(10,1,J),(11,1,J)]⟩ (cR cm e0) (n1 ⟨1,J,[aH],[],.leaf (.int .i64)⟩ cm e0))) (n1 ⟨1,J,[aH],[],.leaf (.int .i64)⟩ (cR (n1 ⟨3,W,[dL,.sl [],.sl []],[],rS⟩ (bH ⟨4,W,[aH,dL,aH,aH],[.int .i64,.str,.int .i64,.int .i64],pg⟩) e0) (cR (bH ⟨1,J,[.lit (.map Y)],[],.other⟩) e0)) (cR (cR (bH ⟨1,W,[aH],[.int .i64],Jj⟩) e0) (cR (bH ⟨0,W,[],[],.struct [(0,0,W)]⟩) e0))))))))
noncomputable def UN:Tr (Ty):=(n0 (n0 (n1 (.int .i64) (n0 (n0 (n1 (.sl (.st 7)) e0 (n0 (bH (.st 23)) e0)) (n0 e0 (n0 e0 (bH (.sl (.st 18)))))) (n1 (.sl (.st 1)) (n1 (.st 10) (n0 (bH (.int .i64)) (bH (.st 27))) (bH (.st 5))) e0)) (n0 (n0 (n0 (n0 (n1 (.dj 17) (bH (.dj 34)) e0) e0) (n1 (.int .i64) (n0 (bH (.st 20)) e0) e0)) (n0 e0 (n0 (bH (.sl (.st 26))) e0))) (n1 (.st 3) (n0 (n0 e0 (bH (.st 15))) (n0 (bH (.st 9)) e0)) (n0 e0 (n0 (n0 (bH (.st 31)) e0) (bH (.sl (.st 29)))))))) (n1 (.int .u8) (n1 (.str) (n0 (n1 (.st 8) (n0 (n0 e0 (bH (.int .u32))) e0) (n0 (n0 (bH (.sl (.st 19))) e0) e0)) (n1 (.sl (.st 11)) (bH (.st 12)) (n0 e0 (bH (.st 18))))) (n1 (.sl (.st 2)) (n0 (n0 (bH (.st 0)) e0) (n0 e0 (bH (.st 28)))) e0)) (n0 (n1 (.int .i32) (n1 (.sl (.st 9)) (n0 e0 (bH (.st 14))) (n1 (.sl (.st 4)) e0 (bH (.sl (.str))))) (n0 (n0 e0 (bH (.st 16))) e0)) (n0 (n0 (n0 e0 (bH (.opt 11))) e0) (n1 (.int .i64) (n0 (bH (.sl (.st 22))) e0) (n0 (n0 (bH (.st 32)) e0) (bH (.st 30)))))))) (n1 (.int .i64) (n1 (.bool) (n0 (n0 (n0 (n1 (.st 4) (n1 (.st 7) (bH (.st 29)) e0) e0) e0) e0) (n1 (.sl (.int .i64)) (n0 e0 (bH (.sl (.st 5)))) (n0 (bH (.int .i64)) e0))) (n1 (.int .u64) (n1 (.dj 38) (n0 e0 (n0 (bH (.st 25)) e0)) (n0 e0 (n0 e0 (bH (.st 21))))) (n0 e0 (n0 (n1 (.st 2) (n1 (.sl (.st 20)) (bH (.int .i64)) e0) e0) e0)))) (n0 (n0 (n0 (n1 (.int .i64) (bH (.st 11)) (n0 (bH (.sl (.st 24))) e0)) (n0 e0 (n0 e0 (bH (.sl (.st 21)))))) (n0 (n0 e0 (n1 (.st 6) (n0 (bH (.st 19)) e0) e0)) (n0 (n1 (.st 1) (n0 (bH (.st 36)) e0) e0) (n0 e0 (bH (.st 24)))))) (n0 (n1 (.sl (.st 0)) e0 (n0 (n0 (n0 (bH (.sl (.st 35))) e0) e0) (n0 (n1 (.st 26) (bH (.st 37)) e0) (bH (.st 22))))) (n1 (.sl (.st 6)) (n0 e0 (n0 e0 (bH (.int .i64)))) (n1 (.int .i64) (n0 (n0 (bH (.st 35)) e0) e0) (n0 (n0 (bH (.st 33)) e0) e0)))))))
noncomputable def mtT:Tr (MT):=(n0 e0 (n0 (n0 e0 (n0 e0 (n0 (n0 e0 (bH ⟨.int .i64,Z (.bool),4⟩)) e0))) (n0 (n0 e0 (n0 e0 (n0 e0 (n0 (bH ⟨.int .i64,Z (.int .i64),3⟩) e0)))) (n0 e0 (n0 e0 (n0 (n0 e0 (n0 (bH ⟨.str,Z (.bool),4⟩) e0)) e0))))))
noncomputable def wz:Tr (L (String×FuncId)):=(n0 (n0 (n0 (n0 (n1 [("Error",346),("RuntimeError",347)] (n0 e0 (n1 [("hearth/run.copied",49),("hearth/run.finish",121),("hearth/run.frame",296),("hearth/run.object",166),("hearth/run.ordered",58),("hearth/run.ready",66),("hearth/run.renew",102),("hearth/run.runs",297),("hearth/run.settle",48),("hearth/run.step",67),("hearth/run.task",248),("hearth/run.tasks",167),("hearth/run.turn",57),("hearth/run.value",245),("hearth/run.waits",247),("hearth/run.world",111)] e0 (n1 [("hearth/hearthref02.applied",330),("hearth/hearthref02.atom",331),("hearth/hearthref02.begins",332),("hearth/hearthref02.call",335),("hearth/hearthref02.cases",334),("hearth/hearthref02.data",206),("hearth/hearthref02.function",207),("hearth/hearthref02.has",205),("hearth/hearthref02.is",271),("hearth/hearthref02.kind",273),("hearth/hearthref02.module",134),("hearth/hearthref02.of",324),("hearth/hearthref02.pat",337),("hearth/hearthref02.product",325),("hearth/hearthref02.sees",272),("hearth/hearthref02.simple",304),("hearth/hearthref02.sum",306),("hearth/hearthref02.take",204),("hearth/hearthref02.term",274),("hearth/hearthref02.terms",333),("hearth/hearthref02.under",305),("hearth/hearthref02.want",203),("hearth/hearthref02.whole",135)] e0 e0))) e0) (n0 (n1 [("First",53),("Limited",40),("Near",93),("Play",22),("Ready",36),("Settle",29),("Start",17),("Step",37),("Turn",30),("World",32),("hearth/hearthref11.applied",76),("hearth/hearthref11.begun",128),("hearth/hearthref11.closed",119),("hearth/hearthref11.flow",77),("hearth/hearthref11.frames",117),("hearth/hearthref11.object",65),("hearth/hearthref11.spawned",81),("hearth/hearthref11.takes",69),("hearth/hearthref11.value",171),("hearth/hearthref11.values",118)] e0 e0) e0)) (n1 [("Error",342),("RuntimeError",343)] (n1 [("Error",351),("RuntimeError",352)] (n0 (n0 (n0 e0 (n1 [("String",359)] e0 e0)) e0) e0) e0) (n0 (n0 (n0 e0 (n1 [("hearth/run.event",354)] e0 e0)) e0) (n0 e0 (n0 (n0 (n1 [("hearth/code.met",356)] e0 e0) e0) e0))))) (n0 (n0 (n1 [("Align",350)] e0 e0) e0) (n0 (n0 (n0 (n0 e0 (n1 [("hearth/run.event",353)] e0 e0)) e0) (n0 (n0 e0 (n1 [("hearth/run.event",355)] e0 e0)) e0)) (n0 e0 (n0 e0 (n0 (n0 (n1 [("hearth/code.met",357)] e0 e0) e0) (n1 [("hearth/hearthref10.add",218),("hearth/hearthref10.end",219),("hearth/hearthref10.match",221),("hearth/hearthref10.node",145),("hearth/hearthref10.to",146),("hearth/hearthref10.wanted",220)] e0 e0))))))) (n0 (n0 (n1 [("Error",338),("RuntimeError",339)] (n1 [("Error",348),("RuntimeError",349)] e0 e0) e0) (n0 (n0 (n0 e0 (n0 e0 (n1 [("hearth/hearthref05.known",142),("hearth/hearthref05.knownPat",214),("hearth/hearthref05.pattern",217),("hearth/hearthref05.put",144)] e0 e0))) e0) (n0 (n0 (n0 e0 (n1 [("hearth/run.write",190)] e0 e0)) e0) e0))) (n0 (n1 [("Error",340),("RuntimeError",341)] e0 e0) (n1 [("Error",344),("RuntimeError",345)] e0 (n0 e0 (n0 e0 (n0 (n0 (n1 [("hearth/code.met",358)] e0 e0) e0) e0)))))))
noncomputable def rq:Tr (Func):=(n1 f0 (n1 f1 (n1 f3 (n1 f7 (n1 f15 (n1 f31 (n1 f63 (n1 f127 (bH f255) e0) (n1 f191 (bH f319) e0)) (n1 f95 (n1 f159 (bH f287) e0) (n1 f223 (bH f351) e0))) (n1 f47 (n1 f79 (n1 f143 (bH f271) e0) (n1 f207 (bH f335) e0)) (n1 f111 (n1 f175 (bH f303) e0) (bH f239)))) (n1 f23 (n1 f39 (n1 f71 (n1 f135 (bH f263) e0) (n1 f199 (bH f327) e0)) (n1 f103 (n1 f167 (bH f295) e0) (n1 f231 (bH f359) e0))) (n1 f55 (n1 f87 (n1 f151 (bH f279) e0) (n1 f215 (bH f343) e0)) (n1 f119 (n1 f183 (bH f311) e0) (bH f247))))) (n1 f11 (n1 f19 (n1 f35 (n1 f67 (n1 f131 (bH f259) e0) (n1 f195 (bH f323) e0)) (n1 f99 (n1 f163 (bH f291) e0) (n1 f227 (bH f355) e0))) (n1 f51 (n1 f83 (n1 f147 (bH f275) e0) (n1 f211 (bH f339) e0)) (n1 f115 (n1 f179 (bH f307) e0) (bH f243)))) (n1 f27 (n1 f43 (n1 f75 (n1 f139 (bH f267) e0) (n1 f203 (bH f331) e0)) (n1 f107 (n1 f171 (bH f299) e0) (bH f235))) (n1 f59 (n1 f91 (n1 f155 (bH f283) e0) (n1 f219 (bH f347) e0)) (n1 f123 (n1 f187 (bH f315) e0) (bH f251)))))) (n1 f5 (n1 f9 (n1 f17 (n1 f33 (n1 f65 (n1 f129 (bH f257) e0) (n1 f193 (bH f321) e0)) (n1 f97 (n1 f161 (bH f289) e0) (n1 f225 (bH f353) e0))) (n1 f49 (n1 f81 (n1 f145 (bH f273) e0) (n1 f209 (bH f337) e0)) (n1 f113 (n1 f177 (bH f305) e0) (bH f241)))) (n1 f25 (n1 f41 (n1 f73 (n1 f137 (bH f265) e0) (n1 f201 (bH f329) e0)) (n1 f105 (n1 f169 (bH f297) e0) (bH f233))) (n1 f57 (n1 f89 (n1 f153 (bH f281) e0) (n1 f217 (bH f345) e0)) (n1 f121 (n1 f185 (bH f313) e0) (bH f249))))) (n1 f13 (n1 f21 (n1 f37 (n1 f69 (n1 f133 (bH f261) e0) (n1 f197 (bH f325) e0)) (n1 f101 (n1 f165 (bH f293) e0) (n1 f229 (bH f357) e0))) (n1 f53 (n1 f85 (n1 f149 (bH f277) e0) (n1 f213 (bH f341) e0)) (n1 f117 (n1 f181 (bH f309) e0) (bH f245)))) (n1 f29 (n1 f45 (n1 f77 (n1 f141 (bH f269) e0) (n1 f205 (bH f333) e0)) (n1 f109 (n1 f173 (bH f301) e0) (bH f237))) (n1 f61 (n1 f93 (n1 f157 (bH f285) e0) (n1 f221 (bH f349) e0)) (n1 f125 (n1 f189 (bH f317) e0) (bH f253))))))) (n1 f2 (n1 f4 (n1 f8 (n1 f16 (n1 f32 (n1 f64 (n1 f128 (bH f256) e0) (n1 f192 (bH f320) e0)) (n1 f96 (n1 f160 (bH f288) e0) (n1 f224 (bH f352) e0))) (n1 f48 (n1 f80 (n1 f144 (bH f272) e0) (n1 f208 (bH f336) e0)) (n1 f112 (n1 f176 (bH f304) e0) (bH f240)))) (n1 f24 (n1 f40 (n1 f72 (n1 f136 (bH f264) e0) (n1 f200 (bH f328) e0)) (n1 f104 (n1 f168 (bH f296) e0) (bH f232))) (n1 f56 (n1 f88 (n1 f152 (bH f280) e0) (n1 f216 (bH f344) e0)) (n1 f120 (n1 f184 (bH f312) e0) (bH f248))))) (n1 f12 (n1 f20 (n1 f36 (n1 f68 (n1 f132 (bH f260) e0) (n1 f196 (bH f324) e0)) (n1 f100 (n1 f164 (bH f292) e0) (n1 f228 (bH f356) e0))) (n1 f52 (n1 f84 (n1 f148 (bH f276) e0) (n1 f212 (bH f340) e0)) (n1 f116 (n1 f180 (bH f308) e0) (bH f244)))) (n1 f28 (n1 f44 (n1 f76 (n1 f140 (bH f268) e0) (n1 f204 (bH f332) e0)) (n1 f108 (n1 f172 (bH f300) e0) (bH f236))) (n1 f60 (n1 f92 (n1 f156 (bH f284) e0) (n1 f220 (bH f348) e0)) (n1 f124 (n1 f188 (bH f316) e0) (bH f252)))))) (n1 f6 (n1 f10 (n1 f18 (n1 f34 (n1 f66 (n1 f130 (bH f258) e0) (n1 f194 (bH f322) e0)) (n1 f98 (n1 f162 (bH f290) e0) (n1 f226 (bH f354) e0))) (n1 f50 (n1 f82 (n1 f146 (bH f274) e0) (n1 f210 (bH f338) e0)) (n1 f114 (n1 f178 (bH f306) e0) (bH f242)))) (n1 f26 (n1 f42 (n1 f74 (n1 f138 (bH f266) e0) (n1 f202 (bH f330) e0)) (n1 f106 (n1 f170 (bH f298) e0) (bH f234))) (n1 f58 (n1 f90 (n1 f154 (bH f282) e0) (n1 f218 (bH f346) e0)) (n1 f122 (n1 f186 (bH f314) e0) (bH f250))))) (n1 f14 (n1 f22 (n1 f38 (n1 f70 (n1 f134 (bH f262) e0) (n1 f198 (bH f326) e0)) (n1 f102 (n1 f166 (bH f294) e0) (n1 f230 (bH f358) e0))) (n1 f54 (n1 f86 (n1 f150 (bH f278) e0) (n1 f214 (bH f342) e0)) (n1 f118 (n1 f182 (bH f310) e0) (bH f246)))) (n1 f30 (n1 f46 (n1 f78 (n1 f142 (bH f270) e0) (n1 f206 (bH f334) e0)) (n1 f110 (n1 f174 (bH f302) e0) (bH f238))) (n1 f62 (n1 f94 (n1 f158 (bH f286) e0) (n1 f222 (bH f350) e0)) (n1 f126 (n1 f190 (bH f318) e0) (bH f254))))))))
noncomputable def prog:Program:=Go.Proofs.Tryz.prog
noncomputable def Es:gi:=mkE prog Qt UN mtT wz rq λn=>bif Nq n 24 then Z 2 else Y
end
theorem h1:Qt.mapKey (λk _=>abL prog (OF prog) k)=Qt.mapKey λ_ i=>Z i:=by kernel_rfl
theorem h2:rq.mapKey (λk _=>prog.funcs[k]?)=rq.mapKey λ_ f=>Z f:=by kernel_rfl
theorem h3:UN.mapKey (λk τ=>(Qt.get k).map (FG sg τ))=UN.mapKey λk τ=>(Qt.get k).map (FF sg τ):=by kernel_rfl
theorem h4:rq.mapKey (λ_ f=>f.name== "runtime.NumGoroutine")=rq.mapKey λ_ _=>J:=by kernel_rfl
def h5:mtT.mapKey (λk m=>mtB Es k m)=mtT.mapKey λ_ _=>W:=by kernel_rfl
def h6:wz.mapKey (λk l=>l.all (TM prog k))=wz.mapKey λ_ _=>W:=by kernel_rfl
def aeW(IU:FuncId->O (lJ sg))(sh:FuncId->Nat->O LSh)(d:∀f c,IU f=Z c->bG prog f c)(a:Bool)(b:FuncId->L (V sg)->O JSh):fu (⟨Es,IU,sh,a,b⟩:eM sg):=
 ZN aeo h1 h2 h3 h4 h5 h6 IU sh d a b
section
def Xo(l:L (Nat×Nat×LSh))(f b:Nat):O LSh:=match l with
 |[]=>Y|p::l=>bif Nq p.1 f&&Nq p.2.1 b then Z p.2.2 else Xo l f b
def mixed:prog.follows .mixedOrders=W:=by kernel_rfl
def aji(l:L (FuncId×lJ sg))(hl:OkL prog l)(sh:FuncId->Nat->O LSh)(pn:Bool)(a:FuncId->L (V sg)->O JSh)(n d:Nat)(f:FuncId)(ps:L Pk)(rs:L Ck)(b:((rq.get f).bind (·.body)).isSome=W)
  {F:gm sg.A ps->O (RT pn (gC sg.A rs×iE sg.A ps) (den sg.A sg.pt×iE sg.A ps))} (h:(λx=>A3 (⟨Es,Qu l,sh,pn,a⟩:eM sg) n d f ps rs x)=F):bG prog f (⟨ps,rs,pn,F⟩:lJ sg):=by
 cases h1:rq.get f with
 |none=>simp_all|some fn=>
  cases h2:fn.body with|none=>simp_all|some c=>have:=aeY (E:=(⟨Es,Qu l,sh,pn,a⟩:eM sg)) (aeW (Qu l) sh (Tc hl) pn a) mixed (f:=f) (fn:=fn) (c:=c) h1 h2 n d ps rs;rw[<-h];exact this
def VA(l:L (FuncId×lJ sg))(hl:OkL prog l)(sh:FuncId->Nat->O LSh)(pn:Bool)(n d:Nat)(f:FuncId)(ps:L Pk)(rs:L Ck)(a:((rq.get f).bind (·.body)).isSome=W)
  {F:gm sg.A ps->O (RT pn (gC sg.A rs×iE sg.A ps) (den sg.A sg.pt×iE sg.A ps))} (h:(λx=>A3 (⟨Es,Qu l,sh,pn,λ_ _=>Y⟩:eM sg) n d f ps rs x)=F):bG prog f (⟨ps,rs,pn,F⟩:lJ sg):=
 aji l hl sh pn _ n d f ps rs a h
noncomputable def Uk(f:Nat):Code:=match(rq.get f).bind (·.body)with
 |some c=>c|none=>.skip
def ai9(m:Nat)(l:L (V sg)):Bool:=Nq m 0||l.any λv=>match v with
 |.ptr o 0=>Nq o m|_=>J
def cjL(l:L (Nat×Nat×JSh))(f:Nat)(args:L (V sg)):O JSh:=match l with
 |[]=>Y|p::l=>bif Nq p.1 f&&ai9 p.2.1 args then Z p.2.2 else cjL l f args
structure OC where
 f:FuncId
 c:lJ sg
 h:bG prog f c
def Fk(l:L OC)(f:FuncId):O (lJ sg):=match l with
 |[]=>Y|k::l=>bif Nq k.f f then Z k.c else Fk l f
def Tb:∀{l:L OC}(f:FuncId)(c:lJ sg),Fk l f=Z c->bG prog f c
 |[],_,_,h=>by cases h
 |k::l,f,c,h=>by
  unfold Fk at h;cases a:Nq k.f f with
  |true=>
   rw[a]at h;have e:k.f=f:=vV a;injection h with h
   rw[<-h,<-e];exact k.h
  |false=>rw[a]at h;exact Tb f c h
variable {pn:Bool}{ps:List Pk}{rs:List Ck}
def ach(l:L OC)(sh:FuncId->Nat->O LSh)(b:FuncId->L (V sg)->O JSh)(n d:Nat)(f:FuncId)
  {F:gm sg.A ps->O (RT pn (gC sg.A rs×iE sg.A ps) (den sg.A sg.pt×iE sg.A ps))} (h:(((rq.get f).bind (·.body)).isSome,λx=>A3 (⟨Es,Fk l,sh,pn,b⟩:eM sg) n d f ps rs x)=(W,F):=by kernel_rfl):bG prog f (⟨ps,rs,pn,F⟩:lJ sg):=by
 have a:((rq.get f).bind (·.body)).isSome=W:=eu Prod.fst h;have h:(λx=>A3 (⟨Es,Fk l,sh,pn,b⟩:eM sg) n d f ps rs x)=F:=eu Prod.snd h;cases h1:rq.get f with
 |none=>rw[h1]at a;cases a
 |some fn=>
  rw[h1]at a;cases h2:fn.body with
  |none=>rw[show(Z fn:O Func).bind (·.body)=fn.body from rfl,h2]at a;cases a
  |some c=>have:=aeY (E:=(⟨Es,Fk l,sh,pn,b⟩:eM sg)) (aeW (Fk l) sh Tb pn b) mixed (f:=f) (fn:=fn) (c:=c) h1 h2 n d ps rs;rw[<-h];exact this
def cQ(l:L OC)(sh:L (Nat×Nat×LSh))(n d:Nat)(f:FuncId)
  {F:gm sg.A ps->O (RT pn (gC sg.A rs×iE sg.A ps) (den sg.A sg.pt×iE sg.A ps))} (h:(((rq.get f).bind (·.body)).isSome,λx=>A3 (⟨Es,Fk l,Xo sh,pn,λ_ _=>Y⟩:eM sg) n d f ps rs x)=(W,F):=by kernel_rfl):bG prog f (⟨ps,rs,pn,F⟩:lJ sg):=ach l (Xo sh) (λ_ _=>Y) n d f h
def enters(f:FuncId)(a:((rq.get f).bind (·.body)).isSome=W):mu prog f:=
 (VA [] trivial (λ_ _=>Y) J 0 0 f [] [] a rfl).1
end
abbrev b31y:Ck:=.dat (.sl (.st 25))
abbrev Mg:Ck:=.dat (.sl (.st 7))
abbrev aae:Ck:=.dat (.sl (.st 6))
abbrev u5:Ck:=.dat (.sl (.st 5))
abbrev w9:Ck:=.dat (.sl (.st 4))
abbrev b8y:Ck:=.dat (.sl (.st 2))
abbrev b7y:Ck:=.dat (.sl (.st 1))
abbrev b6y:Ck:=.dat (.sl (.st 0))
abbrev Ey:Ck:=.dat (.sl (.int .i64))
abbrev Qq:Ck:=.dat (.bool)
abbrev mh:Ck:=.dat (.int .i64)
abbrev di:Pk:=.one (Qq)
abbrev dm:Pk:=.one (mh)
abbrev aad:Pk:=.box (.cells [.own (.st 9)])
abbrev Pj:Pk:=.box (.map (.int .i64) (.bool))
abbrev w8:Pk:=.hid (.map (.int .i64) (.bool))
abbrev Ez:Pk:=.box (.cells [.own (.int .i64)])
abbrev EA:Pk:=.box (.map (.int .i64) (.int .i64))
abbrev alZ:Pk:=.box (.cells [.dat (.str),.own (.st 18)])
abbrev al0:Pk:=.box (.cells [.dat (.str),.own (.st 20),.own (.st 22)])
abbrev yA:Pk:=.box (.cells [.dat (.sl (.st 35)),mh,Qq])
abbrev Sb:Pk:=.box (.cells [b6y,b7y,.dat (.sl (.st 29))])
abbrev ahv:Pk:=.box (.cells [mh,mh,.dat (.str),.own (.st 1)])
abbrev Wt:Pk:=.box (.cells [.dat (.sl (.str)),b8y,.ku 24 2 (.int .i64)])
abbrev al3:Pk:=.box (.cells [.nil (.st 24),.nil (.int .i64),mh,.nil (.st 2)])
abbrev adN:Pk:=.box (.cells [mh,.dat (.str),mh,mh])
abbrev adO:Pk:=.box (.cells [mh,mh,.nil (.int .i64),.own (.st 1)])
abbrev I2:Pk:=.box (.cells [mh,mh,w9,.own (.st 5)])
abbrev al4:Pk:=.box (.cells [mh,mh,.nil (.st 4),u5])
abbrev adP:Pk:=.box (.cells [mh,mh,w9,u5])
abbrev b7z:Pk:=.box (.cells [mh,mh,.dat (.str),.dat (.sl (.st 21)),b7y])
abbrev b6z:Pk:=.box (.cells [.own (.st 6),.own (.int .i64),Mg,Ey,mh])
abbrev b5z:Pk:=.box (.cells [b6y,b7y,Ey,mh,b8y])
abbrev b4z:Pk:=.box (.cells [aae,Ey,Mg,Ey,mh])
abbrev b3z:Pk:=.box (.link J [] [mh,u5,mh,w9,w9,Qq,mh,mh,mh,.dat (.opt 11)])
abbrev b2z:Pk:=.box (.cells [aae,Ey,Mg,Ey,mh,mh,mh,mh,mh,mh,mh])
abbrev b1z:Pk:=.hid (.link W [aae,Ey,Mg,Ey,mh,b6y,b7y,Ey,mh,b8y,.dat (.sl (.st 9))] [])
abbrev b0z:Pk:=.box (.link W [aae,Ey,Mg,Ey,mh,b6y,b7y,Ey,mh,b8y,.dat (.sl (.st 9))] [])
abbrev P1:L Pk:=[.one (.dat (.st 1)),dm]
abbrev K2:L Ck:=[mh]
abbrev P3:L Pk:=[.one (.dat (.st 1))]
abbrev K4:L Ck:=[Qq]
abbrev P5:L Pk:=[.one (.dat (.st 3))]
abbrev P6:L Pk:=[dm,dm,dm]
abbrev P7:L Pk:=[.one (.dat (.str))]
abbrev P8:L Pk:=[.one (b8y)]
abbrev P9:L Pk:=[.one (.dat (.st 1)),.one (b8y)]
abbrev P10:L Pk:=[.one (.dat (.st 3)),dm]
abbrev K11:L Ck:=[.dat (.st 37),.dat (.st 37),Qq]
abbrev P12:L Pk:=[.one (.dat (.st 3)),.one (.dat (.st 0))]
abbrev K13:L Ck:=[.dat (.dj 34)]
abbrev P14:L Pk:=[dm,dm]
abbrev K15:L Ck:=[.dat (.st 9)]
abbrev K16:L Ck:=[mh,mh]
abbrev P17:L Pk:=[.one (.dat (.st 0)),.one (.dat (.dj 34))]
abbrev K18:L Ck:=[.dat (.sl (.st 9)),mh]
abbrev P19:L Pk:=[.one (Ey)]
abbrev K20:L Ck:=[.dat (.st 4)]
abbrev K21:L Ck:=[Ey]
abbrev P22:L Pk:=[.one (aae)]
abbrev K23:L Ck:=[.own (.st 6)]
abbrev P24:L Pk:=[b0z,w8,dm,.one (.dat (.st 6))]
abbrev P25:L Pk:=[b3z,b1z,w8,.one (w9)]
abbrev P26:L Pk:=[dm]
abbrev P27:L Pk:=[di]
abbrev yZ:L Pk:=[b3z,b1z,w8]
abbrev P29:L Pk:=[di,dm]
abbrev P30:L Pk:=[b3z,b1z,w8,.one (.dat (.st 6))]
abbrev K31:L Ck:=[.dat (.st 4),.dat (.st 4)]
abbrev P32:L Pk:=[b3z,b1z,w8,.one (.dat (.st 4)),dm]
abbrev K33:L Ck:=[.dat (.st 6),Qq]
abbrev P34:L Pk:=[b3z,b1z,w8,.one (.dat (.st 4)),.one (.dat (.st 4))]
abbrev K35:L Ck:=[.dat (.st 5),Qq]
abbrev P36:L Pk:=[b3z,b1z,w8,.one (u5)]
abbrev P37:L Pk:=[.one (u5)]
abbrev K38:L Ck:=[.own (.st 5)]
abbrev K39:L Ck:=[.dat (.st 6)]
abbrev K40:L Ck:=[u5]
abbrev P41:L Pk:=[.one (w9)]
abbrev K42:L Ck:=[.own (.st 4)]
abbrev P43:L Pk:=[b3z,b1z,w8,.one (.dat (.st 1)),.one (.dat (.st 4))]
abbrev K44:L Ck:=[w9,Qq]
abbrev P45:L Pk:=[.one (.dat (.st 4))]
abbrev P46:L Pk:=[b3z,b1z,w8,dm,.one (.dat (.st 6))]
abbrev P47:L Pk:=[b0z,w8,dm]
abbrev K48:L Ck:=[.dat (.dj 17)]
abbrev P49:L Pk:=[.one (.dat (.dj 17))]
abbrev K50:L Ck:=[mh,Qq]
abbrev P51:L Pk:=[.one (Mg)]
abbrev K52:L Ck:=[Mg]
abbrev P53:L Pk:=[b0z,w8]
abbrev K54:L Ck:=[.dat (.st 8)]
abbrev P55:L Pk:=[.one (.dat (.st 3)),.one (Ey)]
abbrev K56:L Ck:=[.dat (.st 8),mh]
abbrev P57:L Pk:=[.one (.dat (.st 7))]
abbrev P58:L Pk:=[.one (.ptr (.st 13)),.one (.dat (.st 4))]
abbrev P59:L Pk:=[.one (.ptr (.st 13)),.one (.dat (.st 5)),dm]
abbrev P60:L Pk:=[.one (.ptr (.st 13)),.one (.dat (.st 5))]
abbrev P61:L Pk:=[.one (.ptr (.st 13)),.one (.dat (.st 6))]
abbrev P62:L Pk:=[.one (.ptr (.st 13))]
abbrev K63:L Ck:=[.dat (.st 11),mh,mh]
abbrev P64:L Pk:=[.one (.dat (.st 3)),.one (.dat (.st 8)),.one (Ey)]
abbrev K65:L Ck:=[.dat (.st 8),.dat (.sl (.st 11)),mh]
abbrev P66:L Pk:=[.one (.dat (.st 3)),.one (.dat (.st 8))]
abbrev P67:L Pk:=[.one (.dat (.st 3)),.one (.dat (.st 8)),dm]
abbrev K68:L Ck:=[.dat (.st 8),.dat (.st 11),mh,mh]
abbrev P69:L Pk:=[.one (.dat (.str)),dm]
abbrev P70:L Pk:=[.one (.dat (.sl (.str))),.one (.dat (.str))]
abbrev K71:L Ck:=[.dat (.sl (.str))]
abbrev P72:L Pk:=[.one (.dat (.int .u8))]
abbrev P73:L Pk:=[.one (.dat (.str)),dm,di]
abbrev K74:L Ck:=[.dat (.str)]
abbrev K75:L Ck:=[.dat (.st 35)]
abbrev K76:L Ck:=[.dat (.sl (.st 35)),mh]
abbrev P77:L Pk:=[.one (.ptr (.st 36)),.one (.dat (.str))]
abbrev P78:L Pk:=[yA,.one (.dat (.str))]
abbrev P79:L Pk:=[.one (.ptr (.st 36)),dm]
abbrev PG:L Pk:=[yA,dm]
abbrev mj:L Pk:=[yA]
abbrev K82:L Ck:=[.dat (.st 18)]
abbrev K83:L Ck:=[.dat (.st 20)]
abbrev P84:L Pk:=[dm,.one (.dat (.st 21)),.one (.dat (.st 21))]
abbrev K85:L Ck:=[.dat (.st 21)]
abbrev K86:L Ck:=[.dat (.st 1)]
abbrev P87:L Pk:=[.one (.ptr (.st 36))]
abbrev K88:L Ck:=[.dat (.sl (.st 21))]
abbrev K89:L Ck:=[.dat (.st 22)]
abbrev K90:L Ck:=[.dat (.st 23)]
abbrev P91:L Pk:=[.one (.dat (.st 18)),dm]
abbrev P92:L Pk:=[.one (.dat (.st 18)),di]
abbrev P93:L Pk:=[.one (.dat (.st 18))]
abbrev P94:L Pk:=[.one (.dat (.st 20))]
abbrev P95:L Pk:=[.one (.dat (.st 21)),dm,dm]
abbrev P96:L Pk:=[.one (.dat (.st 21)),di,di,di]
abbrev P97:L Pk:=[.one (.dat (.st 21))]
abbrev P98:L Pk:=[.one (.dat (.sl (.str)))]
abbrev P99:L Pk:=[.one (.dat (.st 23))]
abbrev K100:L Ck:=[.dat (.st 23),mh]
abbrev K101:L Ck:=[b8y]
abbrev at6:L Pk:=[.one (b8y),.one (.dat (.str))]
abbrev WQ:L Pk:=[.one (.ptr (.st 28)),.one (.dat (.st 1))]
abbrev at5:L Pk:=[.one (.dat (.sl (.str))),.one (.dat (.sl (.str)))]
abbrev at4:L Pk:=[.one (.dat (.st 21)),dm]
abbrev WO:L Pk:=[.one (.ptr (.st 28)),.one (.dat (.st 21)),.one (.dat (.sl (.str)))]
abbrev WN:L Pk:=[Wt,.one (.dat (.st 1))]
abbrev WM:L Pk:=[Wt,.one (.dat (.st 21)),.one (.dat (.sl (.str)))]
abbrev K109:L Ck:=[.dat (.st 25),mh]
abbrev at3:L Pk:=[.one (.dat (.st 30)),dm]
abbrev K111:L Ck:=[.dat (.st 30)]
abbrev amX:L Pk:=[.one (.dat (.st 30)),dm,dm]
abbrev at2:L Pk:=[.one (.dat (.st 30)),di]
abbrev Ss:L Pk:=[.one (.dat (.st 30)),.one (.dat (.st 25)),dm,di]
abbrev aaD:L Pk:=[.one (.dat (.st 30)),.one (.dat (.st 25)),.one (.dat (.st 24)),di]
abbrev at1:L Pk:=[.one (.dat (.st 25))]
abbrev K117:L Ck:=[.dat (.st 3)]
abbrev at0:L Pk:=[.one (.dat (.st 3)),dm,.one (.dat (.st 9))]
abbrev K119:L Ck:=[.dat (.sl (.st 26)),Qq]
abbrev K120:L Ck:=[.dat (.sl (.st 9)),Qq]
abbrev K121:L Ck:=[.dat (.st 10),Qq]
abbrev amW:L Pk:=[.one (Ey),dm]
abbrev atZ:L Pk:=[.one (Ey),.one (Ey)]
abbrev atY:L Pk:=[.one (Mg),.one (Mg)]
abbrev atX:L Pk:=[.one (w9),.one (w9)]
abbrev atW:L Pk:=[.one (.dat (.st 6)),.one (.dat (.st 6))]
abbrev atV:L Pk:=[.one (.dat (.st 8)),.one (.dat (.st 8))]
abbrev ahU:L Pk:=[.one (.dat (.st 8))]
abbrev atU:L Pk:=[.one (.dat (.st 10)),.one (.dat (.st 0))]
abbrev atT:L Pk:=[.one (u5),.one (.dat (.st 5))]
abbrev atS:L Pk:=[.one (.dat (.st 8)),dm,dm]
abbrev K132:L Ck:=[.dat (.st 12)]
abbrev atQ:L Pk:=[.one (.dat (.st 8)),dm,.one (u5)]
abbrev atP:L Pk:=[.one (w9),.one (.dat (.st 4))]
abbrev K135:L Ck:=[w9]
abbrev atO:L Pk:=[.one (u5),.one (.dat (.st 4))]
abbrev atN:L Pk:=[.one (.dat (.st 8)),dm,.one (u5),.one (.dat (.st 6))]
abbrev atM:L Pk:=[.one (.dat (.st 8)),.one (.dat (.st 4)),dm]
abbrev atL:L Pk:=[.one (.dat (.st 10)),.one (.dat (.st 8)),.one (.dat (.st 4)),.one (.dat (.st 4))]
abbrev atK:L Pk:=[.one (.dat (.st 10)),.one (.dat (.st 8)),dm,.one (u5),.one (.dat (.st 4)),.one (.dat (.st 4)),di]
abbrev WL:L Pk:=[.one (.dat (.st 8)),.one (.dat (.st 1)),.one (.dat (.st 4))]
abbrev atJ:L Pk:=[.one (.dat (.st 10)),.one (.dat (.st 8)),dm,.one (u5),.one (.dat (.st 0)),.one (w9)]
abbrev atI:L Pk:=[.one (.dat (.st 8)),dm,.one (u5),dm,.one (.dat (.st 4)),.one (.dat (.st 4))]
abbrev atH:L Pk:=[.one (.dat (.st 12)),dm,dm,dm,.one (.dat (.st 4))]
abbrev amV:L Pk:=[.one (.dat (.st 8)),dm,.one (u5),dm,.one (w9)]
abbrev atG:L Pk:=[.one (.dat (.st 10)),.one (.dat (.st 8)),dm,.one (u5),.one (.dat (.st 4))]
abbrev atF:L Pk:=[.one (.dat (.st 8)),dm,.one (u5),.one (.dat (.st 4))]
abbrev atE:L Pk:=[.one (.dat (.st 8)),dm,.one (u5),.one (.dat (.st 0)),.one (w9)]
abbrev atD:L Pk:=[.one (.dat (.st 8)),dm,.one (u5),dm]
abbrev atC:L Pk:=[.one (.dat (.st 10)),.one (.dat (.st 8)),dm]
abbrev K151:L Ck:=[.dat (.st 8),mh,Qq]
abbrev P152:L Pk:=[.one (.dat (.st 10)),.one (Ey)]
abbrev K153:L Ck:=[.dat (.st 8),Qq]
abbrev atB:L Pk:=[.one (.dat (.st 10)),.one (.dat (.st 8)),.one (.dat (.st 4))]
abbrev atA:L Pk:=[.one (.dat (.st 10)),.one (.dat (.st 8)),.one (w9),dm]
abbrev atz:L Pk:=[.one (.dat (.st 10)),.one (.dat (.st 8)),.one (u5),di]
abbrev aty:L Pk:=[.one (.dat (.st 10)),dm]
abbrev atx:L Pk:=[.one (.dat (.st 10)),.one (.dat (.st 8)),.one (.dat (.st 6))]
abbrev amU:L Pk:=[.one (.dat (.st 10)),.one (.dat (.st 8))]
abbrev P160:L Pk:=[.one (.dat (.st 10)),.one (.dat (.st 8)),.one (Ey)]
abbrev P161:L Pk:=[.one (.dat (.sl (.st 11))),.one (.dat (.sl (.st 11)))]
abbrev P162:L Pk:=[.one (.own (.int .i64)),.one (w9)]
abbrev K163:L Ck:=[.own (.int .i64)]
abbrev P164:L Pk:=[.one (w9),.one (Ey)]
abbrev K165:L Ck:=[.dat (.st 8),mh,mh]
abbrev P166:L Pk:=[.one (.dat (.st 3)),.one (.dat (.st 8)),.one (Ey),.one (Ey)]
abbrev K167:L Ck:=[Ey,mh]
abbrev K168:L Ck:=[.dat (.st 8),.dat (.st 11),mh]
abbrev P169:L Pk:=[.one (.dat (.st 5)),.one (.dat (.st 5))]
abbrev P170:L Pk:=[.one (.dat (.st 3)),.one (.dat (.st 8)),.one (.dat (.st 8))]
abbrev K171:L Ck:=[Qq,mh]
abbrev atw:L Pk:=[.one (.dat (.st 14))]
abbrev K173:L Ck:=[.dat (.st 11)]
abbrev atv:L Pk:=[.one (.dat (.st 15))]
abbrev atu:L Pk:=[.one (.dat (.st 16))]
abbrev att:L Pk:=[.one (.dat (.st 31)),.one (.dat (.st 9))]
abbrev atr:L Pk:=[.one (.dat (.st 32)),.one (.dat (.st 9))]
abbrev atq:L Pk:=[.one (.dat (.st 33)),.one (.dat (.st 9))]
abbrev Fn(ps:L Pk)(rs:L Ck)(pn:Bool):Type:=gm sg.A ps->O (RT pn (gC sg.A rs×iE sg.A ps) (den sg.A sg.pt×iE sg.A ps))
abbrev Y1:=av×Int×L aj×Int×L az×U
abbrev Y2:=(bn×U)×U
abbrev Y3:=Nat->Y1->O Y2
abbrev Y4:=(Bool×U)×U
abbrev Y5:=Nat->Int×U->O Y4
abbrev Y6:=U×Int×L aj×Int×L az×L az×Bool×Int×Int×Int×O aP×U
abbrev Y7:=(L bB×L Int×L eg×L Int×Int×L bR×L aB×L Int×Int×L cz×L au×U)×U
abbrev Y8:=(az×U)×Y6×Y7×L (Int×Bool)×U
abbrev Y9:=Y6×Y7×L (Int×Bool)×U
abbrev Y10:=U×Y6×Y7×L (Int×Bool)×U
abbrev Y11:=Any×Y6×Y7×L (Int×Bool)×U
abbrev I9:=Nat->Y9->O (Rx Y10 Y11)
abbrev Ku:=Int×Int×L az×L aj×U
abbrev lN:=L fR×Int×Bool×U
abbrev I8:=Int×Int×L UInt8×L Term×L aB×U
abbrev Y16:=(Term×U)×U
abbrev MX:=(Term×U)×lN×U
abbrev MW:=lN×U->O MX
abbrev Y19:=Nat->MW->lN×U->O MX
abbrev Y20:=(aB×U)×lN×U
abbrev Y21:=Bool×lN×I8×U
abbrev W6:=L aj×U
abbrev Y23:=Y6×Y7×L (Int×Bool)×az×az×U
abbrev Y24:=W6×Y6×Y7×L (Int×Bool)×U
abbrev Y25:=Nat->av×av×U->O Y4
abbrev Iz:=(bN×U)×U
abbrev W5:=LO (Bool×U) (Int×U) U Any
abbrev Y28:=aA×bR×U
abbrev HT:=O ((Int×U)×U)
abbrev Py:=L bR×L aB×L og×U
abbrev Wz:=bN×gQ×Int×Bool×U
abbrev Y32:=bN×gQ×gD×Bool×U
abbrev Y33:=L Int×Int×Py×U
abbrev Y34:=LO (Bool×Py×U) U (Py×U) Any
abbrev Y35:=O ((bC×Bool×U)×U)
abbrev Px:=L bB×L Int×L eg×L Int×Int×U
abbrev Y37:=Bool×Int×Px×U
abbrev Y38:=(av×aP×Int×Int×U)×U
abbrev Y39:=(av×Int×Bool×U)×U
abbrev Y40:=bC×av×L Int×U
abbrev Y41:=Nat->Int×Int×Int×U->O Y4
abbrev Us:=(au×U)×U
abbrev Y43:=Nat->Int×Int×U->O Us
abbrev W4:=bC×av×Int×U
abbrev Y45:=W6×U->O Y2
abbrev Y46:=(az×U)×U
abbrev Y47:=LO (Bool×U) U U Any
abbrev Y48:=av×Int×L aj×bR×L az×U
abbrev Y49:=aA×av×U
abbrev Y50:=(av×Int×U)×U
abbrev Y51:=Int×L (Int×Bool)×U
abbrev Y52:=L (Int×Bool)×U
abbrev Y53:=av×Int×L aj×Int×az×az×U
abbrev Y54:=LO (Int×Bool×U) U U Any
abbrev Y55:=O ((L Term×U)×lN×U)
abbrev Y56:=lN×Int×U->Y55
abbrev Y57:=(L az×U)×U
abbrev Y58:=L az×Int×U
abbrev Y59:=(Int×Int×U)×U
abbrev Y60:=Nat->(aB×U->O Y4)->aB×U->O Y4
abbrev Y61:=L cz×Int×U
abbrev Y62:=Nat->L UInt8×U->O Y4
abbrev Y63:=(az×az×U)×Y6×Y7×L (Int×Bool)×U
abbrev Y64:=Rx (U×U) (Any×U)
abbrev Y65:=(Int×Int×U)×Y6×Y7×L (Int×Bool)×U
abbrev Y66:=Nat->Bool×U->O Y46
abbrev W3:=aB×L cz×U
abbrev Y68:=L gD×L Int×Int×L cz×U
abbrev Y69:=Term×L (L UInt8)×U
abbrev Bt:=L (L UInt8)×L cz×L gD×U
abbrev Y71:=Int×Y68×Bt×U
abbrev Y72:=Term×Bool×Bool×Bool×U
abbrev Y73:=Nat->Y9->O Y10
abbrev Y74:=aj×Bool×U
abbrev W1:=Y7×L (Int×Bool)×Int×U
abbrev Y76:=O ((fQ×U)×Y7×L (Int×Bool)×U)
abbrev Y77:=Y7×L (Int×Bool)×U
abbrev Y78:=(L Int×U)×U
abbrev Y79:=Nat->L cz×U->O Y4
abbrev Y80:=L (L UInt8)×Int×U
abbrev Y81:=bC×av×bB×U
abbrev Y82:=(cZ×U)×lN×U
abbrev Y83:=lN×(L UInt8×L kL×L cZ×U)×U
abbrev Y84:=Nat->cJ×aj×U->O Y4
abbrev Y85:=O (LO (Int×U) (Int×U) U Any)
abbrev Y86:=cJ×aj×Int×U
abbrev Y87:=Int×Int×L UInt8×L aB×U
abbrev Y88:=Int×Bt×Y87×U
abbrev Y89:=(aB×U)×Bt×U
abbrev Y90:=Bt×aB×U
abbrev Y91:=L Int×Int×U
abbrev Y92:=Nat->Int×U->O Y46
abbrev Y93:=Nat->Y49->O Y4
abbrev Y94:=Y6×Y7×L (Int×Bool)×L aj×U
abbrev Y95:=O ((aA×U)×U)
abbrev Y96:=(av×L aP×Int×U)×U
abbrev Y97:=Nat->(aB×U->HT)->aB×U->HT
abbrev Y98:=LO (Int×Bool×U) (Int×U) U Any
abbrev Y99:=aA×av×Int×U
abbrev amQ:=dP×aB×U
abbrev yB:=LO (Bool×Bool×U) (Bool×U) U Any
abbrev ahR:=Nat->av×U->O Y4
abbrev amP:=Y6×Y7×L (Int×Bool)×az×Int×U
abbrev amO:=bC×av×U
abbrev amN:=Nat->(W3->O Y4)->W3->O Y4
abbrev nY:=LO (Bool×U) (Bool×U) U Any
abbrev amM:=Nat->aB×U->O Y4
abbrev ahQ:=L fR×Int×U
abbrev amL:=Nat->L UInt8×U->O (ahQ×U)
abbrev amK:=Nat->aA×U->O Y4
abbrev aaz:=cJ×bB×U
abbrev amJ:=Nat->aaz->O Y4
abbrev amI:=lN×L UInt8×U
abbrev ad4:=O (U×lN×U)
abbrev amH:=Nat->az×U->O Y46
abbrev amG:=cI×Bool×U
abbrev amF:=aA×av×L Int×U
abbrev Y118:=Nat->amF->O Y4
abbrev Y119:=bC×L Int×U
abbrev amE:=Nat->bN×Int×Int×U->O Iz
abbrev amD:=Nat->Int×U->HT
abbrev amC:=cI×Int×U
abbrev amB:=Nat->U->O Y46
abbrev amA:=Term×Int×Int×U
abbrev So:=L UInt8×Int×U
abbrev ahP:=bB×bB×U
abbrev atc:=Nat->ahP->O Y4
abbrev aay:=(L UInt8×Nat)×U
abbrev amz:=Nat->bO×U->O Y4
abbrev amy:=Y64->O (Rx Y10 Y11)
abbrev WD:=L (L UInt8)×U
abbrev PD:=O (WD×U)
abbrev Sn:=aA×Int×au×U
abbrev aax:=L bq
abbrev aaw:=O ((aax×Bool×U)×U)
abbrev PC:=(cI×U)×lN×U
abbrev aav:=lN×U->O PC
abbrev atb:=Nat->amO->O Y4
abbrev aau:=(aP×U)×U
abbrev amx:=LO (Bool×Int×U) (Bool×U) U Any
abbrev amw:=L aj×az×U
abbrev PB:=Int×Int×L Int×L aB×U
abbrev ahO:=Int×Bt×PB×U
abbrev PA:=Bt×Term×L (L UInt8)×U
abbrev Sl:=(Int×U)×Bt×U
abbrev ahN:=Int×U->O Sl
abbrev ahM:=LO (Bool×PB×U) (Int×U) (PB×U) Any
abbrev amv:=L (L UInt8)×L UInt8×U
abbrev aat:=(av×aP×Int×U)×U
abbrev ata:=Nat->Y99->O Y4
abbrev amu:=dP×Term×L (L UInt8)×U
abbrev as9:=O (LO Y58 U U Any)
abbrev amt:=(av×U)×Y7×L (Int×Bool)×U
abbrev ams:=Nat->Nat->Y77->O amt
abbrev ahL:=(Int×Bool×U)×Y7×L (Int×Bool)×U
abbrev ahK:=O (LO (Int×U) (Bool×U) U Any)
abbrev ad3:=bC×av×L aj×Bool×U
abbrev amr:=L UInt8×L iR×U
abbrev ahJ:=L UInt8×L cI×U
abbrev amp:=Bool×lN×ahJ×U
abbrev amo:=L UInt8×Int×Bool×U
abbrev Y162:=L aP×Int×Px×Px×U
abbrev as8:=L aP×Int×U
abbrev amn:=av×Int×Int×U
abbrev Y165:=O (amn×U)
abbrev ahI:=(Bool×U)×lN×U
abbrev aas:=LO (Bool×lN×U) (L Term×U) (lN×U) Any
abbrev aar:=L Term×lN×U
abbrev amm:=Nat->cJ×U->O Y4
abbrev aml:=lN×Int×U->O PC
abbrev amk:=bB×Bool×U
abbrev Y172:=L aP×L aP×U
abbrev aaq:=L au×aax×Int×U
abbrev ad2:=L au×Bool×U
abbrev amj:=O (LO aaq ad2 U Any)
abbrev ad1:=av×aB×az×U
abbrev ad0:=L az×Bool×U
abbrev adZ:=O (ad0×U)
abbrev ami:=Nat->Y91->O Y4
abbrev aap:=Int×L (Int×Int)×(L Int×U)×U
abbrev amh:=L (Int×Int)×(L Int×U)×U
abbrev Y182:=Int×Ku×L (Int×Int)×U
abbrev amg:=Int×Px×L (Int×Int)×U
abbrev Y184:=aj×aj×U
abbrev ahH:=O ((aP×Int×Int×U)×Y7×L (Int×Bool)×U)
abbrev aao:=L (L UInt8×Bool)
abbrev Y187:=O ((av×U)×U)
abbrev as7:=aA×L Int×U
abbrev amf:=Nat->Term×U->O Y4
abbrev ame:=aA×Int×U
abbrev aan:=L au×U
abbrev aam:=L bR×L aB×L Int×Int×L cz×U
abbrev Mo:=Int×au×aan×aam×(L Int×U)×U
abbrev Mm:=(Bool×U)×aan×aam×(L Int×U)×U
abbrev sR:=aan×aam×(L Int×U)×(Bool×U)×U
abbrev adY:=aan×aam×(L Int×U)×U
abbrev adX:=L au×Int×U
abbrev Ml:=LO sR adX sR Any
abbrev amd:=(eB×U)×U
abbrev ahG:=Int×aan×aam×(L Int×U)×U
abbrev amc:=O (adX×U)
abbrev ahF:=aB×Int×U
abbrev amb:=Nat->(ahF->HT)->ahF->HT
abbrev Y204:=(Bool×Int×U)×U
abbrev Y205:=aA×av×av×U
abbrev I7:=bC×av×Int×L aj×bR×L az×U
abbrev ahE:=L bB×L Int×L eg×L Int×Int×Int×Int×Int×Int×Int×Int×U
abbrev Pz:=bC×av×Int×L aj×az×U
abbrev adW:=Bool×ahE×Ku×U
abbrev WC:=LO (Bool×U) (eB×U) U Any
abbrev ama:=Y6×Y7×L (Int×Bool)×L az×U
abbrev WB:=LO (Bool×U) (Int×Int×U) U Any
abbrev WA:=Y6×Y7×L (Int×Bool)×aB×az×U
abbrev adV:=O (ad0×Y6×Y7×L (Int×Bool)×U)
abbrev al9:=L az×Int×Y6×Y7×L (Int×Bool)×U
abbrev ahD:=Int×L UInt8×Int×Int×U
abbrev ahC:=O ((fR×U)×U)
abbrev adU:=LO (Bool×ahD×U) U (ahD×U) Any
abbrev Y219:=Int×Int×Px×Px×U
abbrev aQ(A B C:Type):=@iter A B C Any
abbrev q94(F:Fn P1 K2 J):lJ sg:=⟨P1,K2,J,F⟩
def B94:amb:=
 λn f94 c=>ai (aD c.2.1 1) (Z (((-1),()),())) (ah (aQ (Int×Int×U) (Int×U) (U) (λd=>ai (aD d.2.1 (ak
 c.1.4)) (ai (br 0 d.1) (aO (aF d.2.1 c.1.4) (ah (f94 (bh c.1.4 (ax d.2.1) aK,d.1,())) λe=>Z (N (e.1.1,aG .i64
 d.2.1 1,())))) (Z (H 0 d))) (Z (H 0 d))) n (aZ .i64 c.2.1 1,0,())) λd=>bK d (λ_ g=>Z ((g.1,()),())) (λ_ g
 =>Z (g,())) λ_ _=>Y)
def D94(n:Nat)(f94:Fn P1 K2 J)(a:bG prog 94 (q94 f94)):bG prog 94 (q94 (B94 n f94)):=cQ [⟨94,q94 f94,a⟩] [(94,0,⟨[(1,dm),(5,dm)],[],[],0⟩)] n 10 94
def R94(n k:Nat):(Fn P1 K2 J):=Nat.rec (motive:=λ_=>(Fn P1 K2 J)) (λ_=>Y) (λ_ r=>B94 n r) k
def F94(n:Nat):Fn P1 K2 J:=(R94 n n)
def am8(n:Nat):∀k,bG prog 94 (q94 (R94 n k))
 |0=>cw (enters 94 (by kernel_rfl))
 |k+1=>have a:=am8 n k
  D94 n _ a
def k94(n:Nat):OC:=⟨94,q94 (F94 n),(am8 n n)⟩
abbrev q95(F:Fn P3 K4 J):lJ sg:=⟨P3,K4,J,F⟩
def B95:Y60:=
 λn f95 c=>ah (aQ (Int×U) (Bool×U) (U) (λd=>ai (aD d.1 (ak c.1.4)) (aO (aF d.1 c.1.4) (ah (f95 (bh c.1.4
 (ax d.1) aK,())) λe=>ai (aq e.1.1) (Z (X () (J,()))) (Z (N (aG .i64 d.1 1,()))))) (Z (H 0 d))) n
 (0,())) λd=>bK d (λ_ _=>Z ((br (ak c.1.3) 30,()),())) (λ_ g=>Z (g,())) λ_ _=>Y
def D95(n:Nat)(f95:Fn P3 K4 J)(a:bG prog 95 (q95 f95)):bG prog 95 (q95 (B95 n f95)):=cQ [⟨95,q95 f95,a⟩] [(95,0,⟨[(3,dm)],[],[],0⟩)] n 10 95
def R95(n k:Nat):(Fn P3 K4 J):=Nat.rec (motive:=λ_=>(Fn P3 K4 J)) (λ_=>Y) (λ_ r=>B95 n r) k
def F95(n:Nat):Fn P3 K4 J:=(R95 n n)
def am7(n:Nat):∀k,bG prog 95 (q95 (R95 n k))
 |0=>cw (enters 95 (by kernel_rfl))
 |k+1=>have a:=am7 n k
  D95 n _ a
def k95(n:Nat):OC:=⟨95,q95 (F95 n),(am7 n n)⟩
def F41:amM:=
 λn b=>ah (F94 n (aB.mk b.1.1 b.1.2 b.1.3 b.1.4,16,())) λc=>ai (br 0 c.1.1) (ah (F95 n (aB.mk b.1.1 b.1.2 b.1.3 b.1.4,()))
 λd=>Z d) (Z ((J,()),()))
def k41(n:Nat):OC:=⟨41,⟨P3,K4,J,F41 n⟩,cQ [k94 n,k95 n] [] n 10 41⟩
def F11:amK:=
 λn b=>ai (aD 1600 (ak b.1.1)) (Z ((J,()),())) (ai (aD 120 (ak b.1.2)) (Z ((J,()),())) (ai (aD 320 (ak b.1.3))
 (Z ((J,()),())) (ai (aD 30 (ak b.1.5)) (Z ((J,()),())) (ah (aQ (Int×U) (Bool×U) (U) (λc=>ai (aD
 c.1 (ak b.1.2)) (aO (aF c.1 b.1.2) (ah (F41 n (bh b.1.2 (ax c.1) aK,())) λd=>ai (aq d.1.1) (Z (X () (J,())))
 (Z (N (aG .i64 c.1 1,()))))) (Z (H 0 c))) n (0,())) λc=>bK c (λ_ _=>ah (aQ (Int×U) (Bool×U) (U) (λg=>ai (aD g.1 (ak b.1.5)) (aO (aF g.1 b.1.5) (ai (aD 30 (ak (bh b.1.5 (ax g.1) bg).1)) (Z (X () (J,
 ()))) (Z (N (aG .i64 g.1 1,()))))) (Z (H 0 g))) n (0,())) λg=>bK g (λ_ _=>Z ((W,()),())) (λ_ i=>Z
 (i,())) λ_ _=>Y) (λ_ e=>Z (e,())) λ_ _=>Y))))
def k11(n:Nat):OC:=⟨11,⟨P5,K4,J,F11 n⟩,cQ [k41 n] [(11,0,⟨[(3,dm)],[],[],0⟩),(11,2,⟨[(4,dm)],[],[],0⟩)] n 10 11⟩
def F223:Y41:=
 λn b=>ai (br b.2.1 b.1) (Z ((br b.1 b.2.2.1,()),())) (Z ((J,()),()))
def acI(n:Nat):OC:=⟨223,⟨P6,K4,J,F223 n⟩,cQ [] [] n 10 223⟩
def My(n:Nat)(c:aay):O (LO aay (Bool×U) aay Any):=
 Z (X ((c.1.1,adS c.1.2 (IA c.1.1 c.1.2)),()) (J,()))
def F284:Y62:=
 λn b=>ai (gw b.1 []) (Z ((J,()),())) (ai (aD 8 (ak b.1)) (Z ((J,()),())) (aO (aF 0 b.1) (ai (aD (mP b.1 0) 65)
 (Z ((J,()),())) (aO (aF 0 b.1) (ai (aD 90 (mP b.1 0)) (Z ((J,()),())) (aO (ez 1 (ak b.1) (ak b.1)) (ah (aQ (aay) (Bool×U) (aay) (λc=>ai (QY c.1.2 c.1.1) (ai (aD (vG c.1.1 c.1.2) 97) (My n c) (ai (aD 122 (vG c.1.1 c.1.2))
 (My n c) (Z (N ((c.1.1,adS c.1.2 (IA c.1.1 c.1.2)),()))))) (Z (H 0 c))) n ((cL b.1 1 (ak b.1),0),())) λc=>bK c
 (λ_ _=>Z ((W,()),())) (λ_ e=>Z (e,())) λ_ _=>Y)))))))
def apb(n:Nat):OC:=⟨284,⟨P7,K4,J,F284 n⟩,cQ [] [(284,0,⟨[(0,.box (.rO))],[.slot 24],[],0⟩)] n 10 284⟩
def MA(n:Nat)(b:L cz×U)(c:Int×aao×U):O (LO (Int×aao×U) (Int×U) (aao×U) Any):=
 Z (X (iV (A:=sg.A) Ty.str (bh b.1 (ax c.1) bg).1 W c.2.1,()) (c.1,()))
def F224:Y79:=
 λn b=>ai (br (ak b.1) 20) (ah (aQ (Int×aao×U) (Int×U) (aao×U) (λc=>ai (aD c.1 (ak b.1)) (aO (aF
 c.1 b.1) (ah (F284 n ((bh b.1 (ax c.1) bg).1,())) λd=>ai d.1.1 (ah (F223 n ((bh b.1 (ax c.1) bg).2,0,3,())) λe=>ai
 e.1.1 (ai (aq (aq (EV (A:=sg.A) Ty.str J (bh b.1 (ax c.1) bg).1 c.2.1))) (MA n b c) (Z (N (aG .i64 c.1 1,iV
 (A:=sg.A) Ty.str (bh b.1 (ax c.1) bg).1 W c.2.1,())))) (MA n b c)) (MA n b c))) (Z (H 0 c))) n (0,[],())) λc=>
 bK c (λ_ _=>Z ((aq J,()),())) (λ_ e=>Z ((aq (br 0 e.1),()),())) λ_ _=>Y) (Z ((J,()),()))
def apn(n:Nat):OC:=⟨224,⟨P8,K4,J,F224 n⟩,cQ [acI n,apb n] [(328,0,⟨[(8,dm),(0,.box (.map (.str) (.bool)))],[.cell (.cap (.cell (.cap (.slot 1) 0) 0) 0) 0],[],0⟩)] n 10 224⟩
abbrev XT(F:Fn P1 K2 J):lJ sg:=⟨P1,K2,J,F⟩
def Ir(c:ahF)(d:Int×Int×U):aB:=
 bh c.1.4 (ax d.2.1) aK
def B228:amb:=
 λn f228 c=>ah (aQ (Int×Int×U) (Int×U) (U) (λd=>ai (aD d.2.1 (ak c.1.4)) (aO (aF d.2.1 c.1.4) (ai (aD
 d.1 0) (Z (H 0 d)) (ah (f228 (aB.mk (Ir c d).1 (Ir c d).2 (Ir c d).3 (Ir c d).4,d.1,())) λe=>Z (N (e.1.1,
 aG .i64 d.2.1 1,()))))) (Z (H 0 d))) n (aZ .i64 c.2.1 1,0,())) λd=>bK d (λ_ g=>Z ((g.1,()),())) (λ_ g=>Z
 (g,())) λ_ _=>Y
def D228(n:Nat)(f228:Fn P1 K2 J)(a:bG prog 228 (XT f228)):bG prog 228 (XT (B228 n f228)):=cQ [⟨228,XT f228,a⟩] [(228,0,⟨[(1,dm),(12,dm)],[],[],0⟩)] n 10 228
def R228(n k:Nat):(Fn P1 K2 J):=Nat.rec (motive:=λ_=>(Fn P1 K2 J)) (λ_=>Y) (λ_ r=>B228 n r) k
def F228(n:Nat):Fn P1 K2 J:=(R228 n n)
def afo(n:Nat):∀k,bG prog 228 (XT (R228 n k))
 |0=>cw (enters 228 (by kernel_rfl))
 |k+1=>have a:=afo n k
  D228 n _ a
def apm(n:Nat):OC:=⟨228,XT (F228 n),(afo n n)⟩
abbrev XS(F:Fn P9 K4 J):lJ sg:=⟨P9,K4,J,F⟩
def s5(n:Nat)(f229:W3->O Y4):O Y4:=
 Z ((J,()),())
def ML(c:W3)(g:Int×U):aB:=
 bh c.1.4 (ax g.1) aK
def SW(n:Nat)(f229:W3->O Y4)(c:W3):O Y4:=
 ah (aQ (Int×U) (Int×U) (U) (λg=>ai (aD g.1 (ak c.1.4)) (aO (aF g.1 c.1.4) (ah (f229 (aB.mk (ML c g).1
 (ML c g).2 (ML c g).3 (ML c g).4,c.2)) λh=>ai (aq h.1.1) (Z (X () g)) (Z (N (aG .i64 g.1 1,()))))) (Z
 (H 0 g))) n (0,())) λg=>bK g (λ_ _=>Z ((aq J,()),())) (λ_ i=>Z ((aq (br 0 i.1),()),())) λ_ _=>
 Y
def Iq(n:Nat)(f229:W3->O Y4)(c:W3):O Y4:=
 ai (gw c.1.3 []) (ai (aa (ak c.1.4) 0) (SW n f229 c) (s5 n f229)) (s5 n f229)
def B229:amN:=
 λn f229 c=>ah (ai (aa c.1.1 1) (Z (N (W,()))) (ah (ai (aa c.1.1 2) (Z (N (W,()))) (Z (N (aa c.1.1
 5,())))) λ(d:nY)=>cr d (λe=>Z (N e)) (λ_ _=>Y) (λ_ g=>Z (X () g)) λ_ _=>Y)) λ(d:nY)=>
 cr d (λe=>ai e.1 (ai (aq (aa c.1.2 0)) (s5 n f229) (Iq n f229 c)) (ai (aa c.1.1 3) (ah (F223 n (c.1.2,(-1000000000),
 1000000000,())) λg=>ai (aq g.1.1) (s5 n f229) (Iq n f229 c)) (ai (aa c.1.1 4) (ah (F223 n (c.1.2,0,1,())) λg=>ai
 (aq g.1.1) (s5 n f229) (Iq n f229 c)) (ai (aa c.1.1 6) (ah (F223 n (c.1.2,0,aZ .i64 (ak c.2.1) 1,())) λg=>ai (aq
 g.1.1) (s5 n f229) (aO (aF c.1.2 c.2.1) (ai (gw c.1.3 []) (ai (aa (ak c.1.4) (bh c.2.1 (ax c.1.2) bg).2) (SW n f229 c)
 (s5 n f229)) (s5 n f229)))) (s5 n f229))))) (λ_ _=>Y) (λ_ g=>Z (g,())) λ_ _=>Y
def D229(n:Nat)(f229:Fn P9 K4 J)(a:bG prog 229 (XS f229)):bG prog 229 (XS (B229 n f229)):=cQ [acI n,⟨229,XS f229,a⟩] [(229,1000005,⟨[(8,di)],[],[],0⟩),(229,1000006,⟨[(8,di)],[],[],0⟩),(313,0,⟨[(8,dm)],[],[],0⟩)] n 10 229
def R229(n k:Nat):(Fn P9 K4 J):=Nat.rec (motive:=λ_=>(Fn P9 K4 J)) (λ_=>Y) (λ_ r=>B229 n r) k
def F229(n:Nat):Fn P9 K4 J:=(R229 n n)
def afn(n:Nat):∀k,bG prog 229 (XS (R229 n k))
 |0=>cw (enters 229 (by kernel_rfl))
 |k+1=>have a:=afn n k
  D229 n _ a
def apl(n:Nat):OC:=⟨229,XS (F229 n),(afn n n)⟩
def jl(n:Nat)(b:ame):O Y4:=
 F223 n (b.2.1,1,34,())
def n7(n:Nat):nY->O nY:=
 λc=>cr c (λd=>Z (N d)) (λ_ _=>Y) (λ_ e=>Z (X () e)) λ_ _=>Y
def F232:Nat->ame->O ((eH×eH×Bool×U)×U):=
 λn b=>ai (aa b.2.1 1) (ah (jl n b) λc=>Z ((eH.mk (-1000000000) 1000000000 W,fK,c.1),())) (ai (aa b.2.1
 2) (ah (jl n b) λc=>Z ((eH.mk 0 1 W,fK,c.1),())) (ai (aa b.2.1 4) (ah (jl n b) λc=>Z ((eH.mk
 0 29 W,fK,c.1),())) (ai (aa b.2.1 5) (ah (jl n b) λc=>Z ((eH.mk 0 (aZ .i64 (ak b.1.3) 1) W,fK,
 c.1),())) (ah (ai (aa b.2.1 6) (Z (N (W,()))) (ah (ai (aa b.2.1 11) (Z (N (W,()))) (ah (ai (aa b.2.1 12)
 (Z (N (W,()))) (ah (ai (aa b.2.1 31) (Z (N (W,()))) (Z (N (aa b.2.1 32,())))) (n7 n))) (n7 n)))
 (n7 n))) λ(c:nY)=>cr c (λd=>ai d.1 (ah (jl n b) λe=>Z ((eH.mk 0 (aZ .i64 (ak b.1.1) 1) W,
 fK,e.1),())) (ai (aa b.2.1 10) (ah (jl n b) λe=>Z ((eH.mk 1 30 W,fK,e.1),())) (ai (aa b.2.1 18)
 (ah (jl n b) λe=>Z ((eH.mk 0 (aZ .i64 (ak b.1.5) 1) W,fK,e.1),())) (ai (aa b.2.1 19) (ah (jl n b) λ
 e=>Z ((eH.mk 0 (aZ .i64 (ak b.1.2) 1) W,eH.mk 0 (aZ .i64 (ak b.1.1) 1) W,e.1),())) (ai (aa b.2.1 29) (ah
 (jl n b) λe=>Z ((eH.mk 0 3 W,fK,e.1),())) (ah (jl n b) λe=>Z ((fK,fK,e.1),())))))))
 (λ_ _=>Y) (λ_ e=>Z ((fK,fK,e),())) λ_ _=>Y))))
def apk(n:Nat):OC:=⟨232,⟨P10,K11,J,F232 n⟩,cQ [acI n] [(232,1000012,⟨[(30,di)],[],[],0⟩),(232,1000013,⟨[(30,di)],[],[],0⟩),(232,1000014,⟨[(30,di)],[],[],0⟩),(232,1000015,⟨[(30,di)],[],[],0⟩)] n 10 232⟩
def n8(n:Nat):HT:=
 Z ((2,()),())
def vw(b:aA×U)(k:Int×U):aB:=
 bh b.1.2 (ax k.1) aK
def MF(n:Nat)(b:aA×U):HT:=
 ah (aQ (Int×U) (Int×U) (U) (λo=>ai (aD o.1 (ak b.1.1)) (aO (aF o.1 b.1.1) (ah (F232 n (b.1,(bh b.1.1 (ax o.1)
 bP).1,())) λp=>ai p.1.2.2.1 (ah (F223 n ((bh b.1.1 (ax o.1) bP).2,p.1.1.1,p.1.1.2,())) λq=>ai q.1.1 (ah (F223 n ((bh
 b.1.1 (ax o.1) bP).3,p.1.2.1.1,p.1.2.1.2,())) λr=>ai (aq r.1.1) (Z (X () o)) (Z (N (aG .i64 o.1 1,()))))
 (Z (X () o))) (Z (X () o)))) (Z (H 0 o))) n (0,())) λo=>bK o (λ_ _=>ai (aq (aq J)) (n8 n) (Z
 ((0,()),()))) (λ_ q=>ai (aq (aq (br 0 q.1))) (n8 n) (Z ((0,()),()))) λ_ _=>Y
def ME(n:Nat)(b:aA×U):HT:=
 ah (aQ (Int×U) (Int×U) (U) (λk=>ai (aD k.1 (ak b.1.2)) (aO (aF k.1 b.1.2) (ah (F228 n (aB.mk (vw b k).1
 (vw b k).2 (vw b k).3 (vw b k).4,12,())) λl=>ai (br 0 l.1.1) (ah (F229 n (aB.mk (vw b k).1 (vw b k).2 (vw b
 k).3 (vw b k).4,b.1.5,())) λm=>ai (aq m.1.1) (Z (X () k)) (Z (N (aG .i64 k.1 1,())))) (Z (X () k)))) (Z
 (H 0 k))) n (0,())) λk=>bK k (λ_ _=>ai (aq (aq J)) (n8 n) (MF n b)) (λ_ m=>ai (aq (aq (br 0
 m.1))) (n8 n) (MF n b)) λ_ _=>Y
def F147:Nat->aA×U->HT:=
 λn b=>ah (F223 n (ak b.1.1,1,1500,())) λc=>ai (aq c.1.1) (n8 n) (ai (aD 100 (ak b.1.2)) (n8 n) (ah (F224 n (b.1.5,
 ())) λd=>ai (aq d.1.1) (n8 n) (ah (F223 n (ak b.1.3,1,300,())) λe=>ai (aq e.1.1) (n8 n) (ah (F223 n (b.1.4,0,
 aZ .i64 (ak b.1.3) 1,())) λg=>ai (aq g.1.1) (n8 n) (ah (aQ (Int×U) (Int×U) (U) (λh=>ai (aD h.1
 (ak b.1.3)) (aO (aF h.1 b.1.3) (ah (F223 n (bh b.1.3 (ax h.1) 0,0,aZ .i64 (ak b.1.1) 1,())) λi=>ai (aq i.1.1) (Z (X
 () h)) (Z (N (aG .i64 h.1 1,()))))) (Z (H 0 h))) n (0,())) λh=>bK h (λ_ _=>ai (aq (aq J)) (n8 n)
 (ME n b)) (λ_ j=>ai (aq (aq (br 0 j.1))) (n8 n) (ME n b)) λ_ _=>Y)))))
def aj0(n:Nat):OC:=⟨147,⟨P5,K2,J,F147 n⟩,cQ [acI n,apn n,apm n,apl n,apk n] [(237,0,⟨[(8,dm)],[],[],0⟩),(313,0,⟨[(8,dm)],[],[],0⟩),(314,0,⟨[(8,dm)],[],[],0⟩)] n 10 147⟩
def z7(n:Nat):WC->O WC:=
 λc=>cr c (λd=>Z (N d)) (λ_ _=>Y) (λ_ e=>Z (X () e)) λ_ _=>Y
def xu(n:Nat):WC->O WC:=
 λe=>cr e (λg=>Z (N g)) (λ_ _=>Y) (λ_ h=>Z (X () h)) λ_ _=>Y
def F149:Nat->Y28->O amd:=
 λn b=>ai (aa b.2.1.1 4) (Z ((eB.a0 (nc.mk (aG .i64 b.2.1.2 1)),()),())) (ai (aa b.2.1.1 10) (Z ((eB.a0
 (nc.mk b.2.1.2),()),())) (ah (ai (aa b.2.1.1 7) (Z (N (W,()))) (ah (ai (aa b.2.1.1 13) (Z (N (W,()))) (ah
 (ai (aa b.2.1.1 14) (Z (N (W,()))) (ah (ai (aa b.2.1.1 15) (Z (N (W,()))) (ah (ai (aa b.2.1.1 16) (Z
 (N (W,()))) (ah (ai (aa b.2.1.1 17) (Z (N (W,()))) (ah (ai (aa b.2.1.1 23) (Z (N (W,()))) (Z (N
 (aa b.2.1.1 27,())))) (z7 n))) (z7 n))) (z7 n))) (z7 n))) (z7 n))) (z7 n))) λ(c:WC)=>cr c (λd=>ai d.1
 (Z ((eB.a1 (jO.mk 2),()),())) (ai (aa b.2.1.1 8) (Z ((eB.a2 (ni.mk 2),()),())) (ai (aa b.2.1.1 34) (Z
 ((eB.a2 (ni.mk 1),()),())) (ah (ai (aa b.2.1.1 9) (Z (N (W,()))) (ah (ai (aa b.2.1.1 12) (Z (N (W,
 ()))) (ah (ai (aa b.2.1.1 19) (Z (N (W,()))) (ah (ai (aa b.2.1.1 21) (Z (N (W,()))) (ah (ai (aa b.2.1.1 22)
 (Z (N (W,()))) (ah (ai (aa b.2.1.1 24) (Z (N (W,()))) (ah (ai (aa b.2.1.1 25) (Z (N (W,()))) (ah (ai
 (aa b.2.1.1 28) (Z (N (W,()))) (Z (N (aa b.2.1.1 29,())))) (xu n))) (xu n))) (xu n))) (xu n))) (xu
 n))) (xu n))) (xu n))) λ(e:WC)=>cr e (λg=>ai g.1 (Z ((eB.a1 (jO.mk 1),()),())) (ai (aa b.2.1.1 18) (aO
 (aF b.2.1.2 b.1.5) (Z ((eB.a1 (jO.mk (bh b.1.5 (ax b.2.1.2) bg).2),()),()))) (Z ((eB.a1 zJ,()),()))))
 (λ_ _=>Y) (λ_ h=>Z (h,())) λ_ _=>Y)))) (λ_ _=>Y) (λ_ e=>Z (e,())) λ_ _=>Y))
def ajZ(n:Nat):OC:=⟨149,⟨P12,K13,J,F149 n⟩,cQ [] [(149,1000007,⟨[(20,di)],[],[],0⟩),(149,1000008,⟨[(20,di)],[],[],0⟩),(149,1000009,⟨[(20,di)],[],[],0⟩),(149,1000010,⟨[(20,di)],[],[],0⟩),(149,1000011,⟨[(20,di)],[],[],0⟩),(149,1000012,⟨[(20,di)],[],[],0⟩),(149,1000013,⟨[(20,di)],[],[],0⟩),(149,1000020,⟨[(39,di)],[],[],0⟩),(149,1000021,⟨[(39,di)],[],[],0⟩),(149,1000022,⟨[(39,di)],[],[],0⟩),(149,1000023,⟨[(39,di)],[],[],0⟩),(149,1000024,⟨[(39,di)],[],[],0⟩),(149,1000025,⟨[(39,di)],[],[],0⟩),(149,1000026,⟨[(39,di)],[],[],0⟩),(149,1000027,⟨[(39,di)],[],[],0⟩)] n 10 149⟩
def F152:Y43:=
 λn b=>Z ((au.mk W b.1 b.2.1,()),())
def ajY(n:Nat):OC:=⟨152,⟨P14,K15,J,F152 n⟩,cQ [] [] n 10 152⟩
abbrev XL(F:Fn P3 K2 J):lJ sg:=⟨P3,K2,J,F⟩
def Io(c:aB×U)(g:Int×Int×U):aB:=
 bh c.1.4 (ax g.2.1) aK
def B290:Y97:=
 λn f290 c=>ah (ai (aa c.1.1 2) (Z (N (1,W,()))) (Z (N (0,J,())))) λ(d:Y98)=>cr d (λe=>ah (@iter
 (Int×Int×U) (Int×U) (U) (Any) (λg=>ai (aD g.2.1 (ak c.1.4)) (aO (aF g.2.1 c.1.4) (ah (f290 (aB.mk (Io c g).1
 (Io c g).2 (Io c g).3 (Io c g).4,())) λh=>Z (N (aG .i64 g.1 h.1.1,aG .i64 g.2.1 1,())))) (Z (H 0 g))) n
 (e.1,0,())) λg=>bK g (λ_ i=>Z ((i.1,()),())) (λ_ i=>Z (i,())) λ_ _=>Y) (λ_ _=>Y) (λ_ g=>Z (g,()))
 λ_ _=>Y
def D290(n:Nat)(f290:Fn P3 K2 J)(a:bG prog 290 (XL f290)):bG prog 290 (XL (B290 n f290)):=cQ [⟨290,XL f290,a⟩] [(290,0,⟨[(3,dm),(12,dm)],[],[],0⟩),(290,1000003,⟨[(3,dm),(8,di)],[],[],0⟩)] n 10 290
def R290(n k:Nat):(Fn P3 K2 J):=Nat.rec (motive:=λ_=>(Fn P3 K2 J)) (λ_=>Y) (λ_ r=>B290 n r) k
def F290(n:Nat):Fn P3 K2 J:=(R290 n n)
def afe(n:Nat):∀k,bG prog 290 (XL (R290 n k))
 |0=>cw (enters 290 (by kernel_rfl))
 |k+1=>have a:=afe n k
  D290 n _ a
def apa(n:Nat):OC:=⟨290,XL (F290 n),(afe n n)⟩
def o3(n:Nat):WB->O WB:=
 λc=>cr c (λd=>Z (N d)) (λ_ _=>Y) (λ_ e=>Z (X () e)) λ_ _=>Y
def sW(n:Nat):WB->O WB:=
 λe=>cr e (λg=>Z (N g)) (λ_ _=>Y) (λ_ h=>Z (X () h)) λ_ _=>Y
def F235:Nat->Y28->O Y59:=
 λn b=>ah (ai (aa b.2.1.1 1) (Z (N (W,()))) (ah (ai (aa b.2.1.1 2) (Z (N (W,()))) (ah (ai (aa b.2.1.1 3)
 (Z (N (W,()))) (ah (ai (aa b.2.1.1 4) (Z (N (W,()))) (ah (ai (aa b.2.1.1 5) (Z (N (W,()))) (ah (ai
 (aa b.2.1.1 6) (Z (N (W,()))) (ah (ai (aa b.2.1.1 26) (Z (N (W,()))) (ah (ai (aa b.2.1.1 30) (Z (N
 (W,()))) (ah (ai (aa b.2.1.1 33) (Z (N (W,()))) (ah (ai (aa b.2.1.1 31) (Z (N (W,()))) (Z (N (aa
 b.2.1.1 32,())))) (o3 n))) (o3 n))) (o3 n))) (o3 n))) (o3 n))) (o3 n))) (o3 n))) (o3 n))) (o3 n))) λ(c:WB)
 =>cr c (λd=>ai d.1 (Z ((1,0,()),())) (ah (ai (aa b.2.1.1 7) (Z (N (W,()))) (ah (ai (aa b.2.1.1 12) (Z
 (N (W,()))) (ah (ai (aa b.2.1.1 13) (Z (N (W,()))) (ah (ai (aa b.2.1.1 14) (Z (N (W,()))) (ah (ai
 (aa b.2.1.1 15) (Z (N (W,()))) (ah (ai (aa b.2.1.1 16) (Z (N (W,()))) (ah (ai (aa b.2.1.1 17) (Z (N
 (W,()))) (ah (ai (aa b.2.1.1 23) (Z (N (W,()))) (Z (N (aa b.2.1.1 27,())))) (sW n))) (sW n))) (sW n)))
 (sW n))) (sW n))) (sW n))) (sW n))) λ(e:WB)=>cr e (λg=>ai g.1 (Z (((-1),0,()),())) (ai (aa b.2.1.1 9) (Z
 (((-1),1,()),())) (ai (aa b.2.1.1 10) (Z ((0,Qi .i64 b.2.1.2,()),())) (ai (aa b.2.1.1 18) (aO (aF b.2.1.2 b.1.5) (Z ((aZ .i64
 1 (bh b.1.5 (ax b.2.1.2) bg).2,0,()),()))) (ai (aa b.2.1.1 19) (aO (aF b.2.1.2 b.1.2) (ah (F290 n (bh b.1.2 (ax b.2.1.2)
 aK,())) λh=>Z (((-1),h.1),()))) (Z ((0,0,()),()))))))) (λ_ _=>Y) (λ_ h=>Z (h,())) λ_ _=>Y)) (λ_ _=>
 Y) (λ_ e=>Z (e,())) λ_ _=>Y
def ajS(n:Nat):OC:=⟨235,⟨P12,K16,J,F235 n⟩,cQ [apa n] [(235,1000003,⟨[(8,di)],[],[],0⟩),(235,1000004,⟨[(8,di)],[],[],0⟩),(235,1000005,⟨[(8,di)],[],[],0⟩),(235,1000006,⟨[(8,di)],[],[],0⟩),(235,1000007,⟨[(8,di)],[],[],0⟩),(235,1000008,⟨[(8,di)],[],[],0⟩),(235,1000009,⟨[(8,di)],[],[],0⟩),(235,1000010,⟨[(8,di)],[],[],0⟩),(235,1000011,⟨[(8,di)],[],[],0⟩),(235,1000012,⟨[(8,di)],[],[],0⟩),(235,1000015,⟨[(20,di)],[],[],0⟩),(235,1000016,⟨[(20,di)],[],[],0⟩),(235,1000017,⟨[(20,di)],[],[],0⟩),(235,1000018,⟨[(20,di)],[],[],0⟩),(235,1000019,⟨[(20,di)],[],[],0⟩),(235,1000020,⟨[(20,di)],[],[],0⟩),(235,1000021,⟨[(20,di)],[],[],0⟩),(235,1000022,⟨[(20,di)],[],[],0⟩)] n 10 235⟩
def F236:Nat->bR×eB×U->O Y4:=
 λn b=>ai (kB [(315,Ty.st 31),(317,Ty.st 32),(318,Ty.st 33)] 2 (gW 34 b.2.1)) (Z ((W,()),())) (Z ((aa b.1.1 20,()),()))
def ajR(n:Nat):OC:=⟨236,⟨P17,K4,J,F236 n⟩,cQ [] [] n 10 236⟩
def F356:Nat->nc×au×U->O Y4:=
 λn b=>Z ((br b.1.1 b.2.1.3,()),())
def ajz(n:Nat):OC:=⟨356,⟨att,K4,J,F356 n⟩,cQ [] [] n 10 356⟩
def F357:Nat->jO×au×U->O Y4:=
 λn b=>Z ((br b.1.1 b.2.1.2,()),())
def ajy(n:Nat):OC:=⟨357,⟨atr,K4,J,F357 n⟩,cQ [] [] n 10 357⟩
def F358:Nat->ni×au×U->O Y4:=
 λn b=>Z ((aa b.2.1.2 b.1.1,()),())
def ajx(n:Nat):OC:=⟨358,⟨atq,K4,J,F358 n⟩,cQ [] [] n 10 358⟩
abbrev E99(n:Nat):eM sg:=⟨Es,Fk [aj0 n,ajZ n,ajY n,ajS n,ajR n,ajz n,ajy n,ajx n],Xo [(99,0,⟨[(0,aad),(0,b5z),(0,Ez),(0,.box (.cells [Qq]))],[.slot 4,.slot 1,.slot 5,.slot 7],[],0⟩),(237,0,⟨[(8,dm),(0,aad),(0,b5z),(0,Ez)],[.cap (.cell (.cap (.cell (.cap (.slot 1) 0) 0) 0) 0) 0,.cap (.cell (.cap (.cell (.cap (.slot 1) 0) 0) 0) 0) 1,.cap (.cell (.cap (.cell (.cap (.slot 1) 0) 0) 0) 0) 2],[],0⟩)],J,cjL [(148,0,⟨[(0,dm),(1,.one (.dat (.st 9))),(0,aad),(0,b5z),(0,Ez)],[.slot 2,.slot 3,.slot 4],[],[.dat .bool]⟩),(1000151,0,⟨[],[],[],[]⟩),(1000155,0,⟨[],[],[],[]⟩),(1000238,0,⟨[],[],[],[]⟩),(1000234,0,⟨[],[],[],[]⟩),(1000152,0,⟨[],[],[],[]⟩),(1000235,0,⟨[],[],[],[]⟩),(1000000,0,⟨[],[],[],[]⟩)]⟩
def ei:Nat->Nat->Mo->O Mm:=λn a x=>QG (wX (E99 n) n a) 148 [(0,dm),(1,.one (.dat (.st 9))),(0,aad),(0,b5z),(0,Ez)] [.dat .bool] [2,0,3] [] (RE ([2,0,3]++[]) [(0,dm),(1,.one (.dat (.st 9))),(0,aad),(0,b5z),(0,Ez)] (T3 [.emp,.emp,.ptr 2 0,.ptr 0 0,.ptr 3 0])) (stJ [2,0,3] [] ⟨trL [],0,0,0,[],[]⟩) x
def lq(c:Mo):O Mm:=
 Z ((J,()),c.2.2)
def jo(c:Mo):Bool:=
 dX (ax c.1) c.2.2.1.1
def qC:L (Nat×Ty):=
 [(315,Ty.st 31),(317,Ty.st 32),(318,Ty.st 33)]
def qB(c:Mo):Y4->O Mm:=
 λe=>ai (aq e.1.1) (lq c) (aO (aF c.1 c.2.2.1.1) (aO (jo c) (ai (aq (bh c.2.2.1.1 (ax c.1) aT).1) (aO (aF c.1
 c.2.2.1.1) (aO (jo c) (aO (dg c.2.2.2.2.1.1 [c.1]) (Z ((W,()),(lF c.2.2.1.1 (ax c.1) c.2.1,()),c.2.2.2.1,(dc c.2.2.2.2.1.1
 [c.1],()),()))))) (Z ((W,()),c.2.2)))))
def yf(n:Nat)(c:Mo):O Mm:=
 aO (aF c.1 c.2.2.2.1.1) (ah (F149 n (aA.mk c.2.2.2.1.1 c.2.2.2.1.2.1 c.2.2.2.1.2.2.1 c.2.2.2.1.2.2.2.1 c.2.2.2.1.2.2.2.2.1,bh c.2.2.2.1.1
 (ax c.1) bP,())) λd=>ai (kB qC 0 (gW 34 d.1.1)) (ah (F356 n (jf (Sg.zero sg) qC 0 (gW 34 d.1.1),c.2.1,()))
 (qB c)) (ai (kB qC 1 (gW 34 d.1.1)) (ah (F357 n (jf (Sg.zero sg) qC 1 (gW 34 d.1.1),c.2.1,())) (qB c)) (ai (kB
 qC 2 (gW 34 d.1.1)) (ah (F358 n (jf (Sg.zero sg) qC 2 (gW 34 d.1.1),c.2.1,())) (qB c)) Y)))
def yg:Nat->Nat->Mo->O Mm:=
 λn a c=>ai (br (ak c.2.2.1.1) c.1) (lq c) (ai (aD 60 c.2.1.2) (lq c) (ai (aD 30 c.2.1.3) (lq c) (aO (aF c.1
 c.2.2.1.1) (aO (jo c) (ai (bh c.2.2.1.1 (ax c.1) aT).1 (aO (aF c.1 c.2.2.1.1) (aO (jo c) (ai (aq (bS (pJ (bh
 c.2.2.1.1 (ax c.1) aT).1 c.2.1.1) (bS (aa (bh c.2.2.1.1 (ax c.1) aT).2 c.2.1.2) (bS (aa (bh c.2.2.1.1 (ax c.1)
 aT).3 c.2.1.3) W)))) (lq c) (yf n c)))) (yf n c))))))
def zT(n a:Nat):ei n (a+1)=yg n a:=by kernel_rfl
def sq(i:sR):Int:=
 aZ .i64 (ak i.2.2.1.1) 1
def ij(i:sR):Int:=
 bh i.2.2.1.1 (ax (sq i)) 0
def jk(i:sR):bR:=
 bh i.2.1.1 (ax (ij i)) bP
def nD(i:sR):Y28:=
 (aA.mk i.2.1.1 i.2.1.2.1 i.2.1.2.2.1 i.2.1.2.2.2.1 i.2.1.2.2.2.2.1,jk i,())
def Kv(n:Nat)(i:sR)(j:Y59):O Us:=
 F152 n (aG .i64 (bh i.1.1 (ax (ij i)) aT).2 j.1.1,aG .i64 (bh i.1.1 (ax (ij i)) aT).3 j.1.2.1,())
def HY(i:sR):adY:=
 (i.1,i.2.1,(cL i.2.2.1.1 0 (sq i),()),())
def uh(i:sR)(k:Us):Mo:=
 ((jk i).2,k.1.1,HY i)
def Eb(n:Nat)(l:Mm):O Ml:=
 Z (H 0 (l.2.1,l.2.2.1,l.2.2.2.1,l.1,()))
def Ea(n:Nat)(l:Mm):O Ml:=
 Z (N (l.2.1,l.2.2.1,l.2.2.2.1,l.1,()))
def oY(n:Nat):Mm->O Ml:=
 λl=>ai (aq l.1.1) (Eb n l) (Ea n l)
def nq(n:Nat)(i:sR)(m:amd):O Y4:=
 F236 n (jk i,m.1)
def sU(i:sR)(k:Us)(l:Mm):Mo:=
 (aG .i64 (ij i) 1,k.1.1,l.2)
def H6(i:sR):Mo:=
 ((jk i).3,bh i.1.1 (ax (ij i)) aT,HY i)
def aaM(n:Nat)(a:Nat)(c:aA×U)(d:(Int×U)×U)(h:ahG)(i:sR)(k:Us):Us->O Ml:=
 λl=>ah (ei n (a+8) (uh i l)) λm=>ai (aq m.1.1) (Eb n m) (ah (F149 n (nD i)) λo=>ah (nq n i o) λp=>ai
 (aq p.1.1) (ah (ei n (a+8) (sU i k m)) (oY n)) (Ea n m))
def aaL(n:Nat)(a:Nat)(c:aA×U)(d:(Int×U)×U)(h:ahG)(i:sR)(k:Us):O Ml:=
 ah (F152 n (0,aG .i64 (bh i.1.1 (ax (ij i)) aT).3 1,())) (aaM n a c d h i k)
def HZ(n:Nat)(i:sR):O Ml:=
 Z (N (i.1,i.2.1,(cL i.2.2.1.1 0 (sq i),()),i.2.2.2))
def aaK(n:Nat):Ml->amc:=
 λi=>bK i (λ_ k=>ai (aq k.2.2.2.1.1) (Z (([],7,()),())) (Z ((k.1.1,0,()),()))) (λ_ k=>Z (k,())) λ_ _=>Y
def aaJ(n:Nat)(a:Nat)(c:aA×U)(d:(Int×U)×U)(g:adY)(h:Int×U)(i:sR)(k:Us):Us->O Ml:=
 λl=>ah (ei n (a+8) (uh i l)) λm=>ai (aq m.1.1) (Eb n m) (ah (F149 n (nD i)) λo=>ah (nq n i o) λp=>ai
 (aq p.1.1) (ah (ei n (a+8) (sU i k m)) (oY n)) (Ea n m))
def aaI(n:Nat)(a:Nat)(c:aA×U)(d:(Int×U)×U)(g:adY)(h:Int×U)(i:sR)(k:Us):O Ml:=
 ah (F152 n (0,aG .i64 (bh i.1.1 (ax (ij i)) aT).3 1,())) (aaJ n a c d g h i k)
def G99:Nat->Nat->aA×U->amc:=
 λn a c=>ah (F147 n c) λd=>ai (aq (aa d.1.1 0)) (Z (([],2,()),())) (aO (nW (Q6 (ak c.1.1)) (fZ (ak c.1.1) (ak
 c.1.1))) (ah (aQ (ahG) (Int×U) (adY) (λe=>ai (aD e.1 (ak c.1.3)) (aO (aF e.1 c.1.3) (ah (F152 n (0,1,())) λg=>
 ah (ei n (a+5) (bh c.1.3 (ax e.1) 0,g.1.1,e.2)) λh=>ai (aq h.1.1) (Z (X h.2 (e.1,()))) (Z (N (aG .i64 e.1 1,
 h.2))))) (Z (H 0 e))) n (0,(afN (ax (ak c.1.1)) aT,()),(c.1.1,c.1.2,c.1.3,c.1.4,c.1.5,()),([],()),())) λe=>bK e
 (λ_ h=>ai (aq (aq J)) (Z (([],7,()),())) (ah (aQ (sR) (adX) (sR) (λi=>ai (aD 0 (ak i.2.2.1.1)) (aO
 (aF (sq i) i.2.2.1.1) (aO (dX (ax (sq i)) i.2.2.1.1) (aO (ez 0 (sq i) (ak i.2.2.1.1)) (aO (aF (ij i) i.1.1) (aO (dX (ax
 (ij i)) i.1.1) (aO (aF (ij i) i.2.1.1) (ah (F235 n (nD i)) λj=>ah (Kv n i j) λk=>ai (aa (jk i).1 11) (ah (ei n (a+8) (uh i k)) (oY n)) (ai (aa (jk i).1 12) (ah (ei n (a+8) (uh i k)) λl=>ai (aq l.1.1) (Eb n l) (ah (F149 n (nD
 i)) λm=>ah (nq n i m) λo=>ai (aq o.1.1) (ah (ei n (a+8) (sU i k l)) (oY n)) (Ea n l))) (ai (aa (jk i).1 19)
 (ah (ei n (a+8) (H6 i)) λl=>ai (aq l.1.1) (Eb n l) (ah (F149 n (nD i)) λm=>ah (nq n i m) λo=>ai (aq o.1.1)
 (ah (ei n (a+8) (sU i k l)) (oY n)) (Ea n l))) (ai (aa (jk i).1 6) (aaL n a c d h i k) (ai (aa (jk i).1 32) (aaL n
 a c d h i k) (ai (aa (jk i).1 31) (ah (F152 n (0,(bh i.1.1 (ax (ij i)) aT).3,())) (aaM n a c d h i k)) (ah (F149 n (nD
 i)) λl=>ah (nq n i l) λm=>ai (aq m.1.1) (ah (ei n (a+8) (aG .i64 (ij i) 1,k.1.1,HY i)) (oY n)) (HZ n
 i)))))))))))))) (Z (H 0 i))) n (h.2.1,h.2.2.1,h.2.2.2.1,(W,()),())) (aaK n))) (λg h=>ai (aq (aq (br 0 h.1))) (Z
 (([],7,()),())) (ah (aQ (sR) (adX) (sR) (λi=>ai (aD 0 (ak i.2.2.1.1)) (aO (aF (sq i) i.2.2.1.1) (aO (dX (ax
 (sq i)) i.2.2.1.1) (aO (ez 0 (sq i) (ak i.2.2.1.1)) (aO (aF (ij i) i.1.1) (aO (dX (ax (ij i)) i.1.1) (aO (aF (ij i)
 i.2.1.1) (ah (F235 n (nD i)) λj=>ah (Kv n i j) λk=>ai (aa (jk i).1 11) (ah (ei n (a+8) (uh i k)) (oY n)) (ai (aa
 (jk i).1 12) (ah (ei n (a+8) (uh i k)) λl=>ai (aq l.1.1) (Eb n l) (ah (F149 n (nD i)) λm=>ah (nq n i m) λo=>
 ai (aq o.1.1) (ah (ei n (a+8) (sU i k l)) (oY n)) (Ea n l))) (ai (aa (jk i).1 19) (ah (ei n (a+8) (H6 i)) λl=>ai
 (aq l.1.1) (Eb n l) (ah (F149 n (nD i)) λm=>ah (nq n i m) λo=>ai (aq o.1.1) (ah (ei n (a+8) (sU i k l)) (oY
 n)) (Ea n l))) (ai (aa (jk i).1 6) (aaI n a c d g h i k) (ai (aa (jk i).1 32) (aaI n a c d g h i k) (ai (aa (jk i).1
 31) (ah (F152 n (0,(bh i.1.1 (ax (ij i)) aT).3,())) (aaJ n a c d g h i k)) (ah (F149 n (nD i)) λl=>ah (nq n i l) λ
 m=>ai (aq m.1.1) (ah (ei n (a+8) (aG .i64 (ij i) 1,k.1.1,HY i)) (oY n)) (HZ n i)))))))))))))) (Z (H 0 i))) n (g.1,
 g.2.1,g.2.2.1,(W,()),())) (aaK n))) λ_ _=>Y))
def F99(n:Nat):Fn P5 K18 J:=G99 n n
def k99(n:Nat):OC:=⟨99,⟨P5,K18,J,F99 n⟩,ach [aj0 n,ajZ n,ajY n,ajS n,ajR n,ajz n,ajy n,ajx n] (E99 n).sh (E99 n).cj n (n+10) 99⟩
def F45:Nat->L Int×U->O Y4:=
 λn b=>ai (br (ak b.1) 50) (ah (aQ (Int×U) (Int×U) (U) (λc=>ai (aD c.1 (ak b.1)) (aO (aF c.1 b.1) (ai
 (br (-1000000000) (bh b.1 (ax c.1) 0)) (ai (aq (br (bh b.1 (ax c.1) 0) 1000000000)) (Z (X () c)) (Z (N (aG .i64
 c.1 1,())))) (Z (X () c)))) (Z (H 0 c))) n (0,())) λc=>bK c (λ_ _=>Z ((aq J,()),())) (λ_ e=>Z
 ((aq (br 0 e.1),()),())) λ_ _=>Y) (Z ((J,()),()))
def k45(n:Nat):OC:=⟨45,⟨P19,K4,J,F45 n⟩,cQ [] [(237,0,⟨[(8,dm)],[],[],0⟩)] n 10 45⟩
def F46:amB:=
 λn _=>Z ((az.mk 3 0,()),())
def k46(n:Nat):OC:=⟨46,⟨[],K20,J,F46 n⟩,cQ [] [] n 10 46⟩
def F47:Nat->L Int×U->O Y78:=λn b=>Z (b,())
def C47(n:Nat):bG prog 47 (⟨P19,K21,J,F47 n⟩:lJ sg):=VA [] trivial (Xo []) J n 10 47 P19 K21 (by kernel_rfl) (Eq.trans (by kernel_rfl:_=λb:L Int×U=>I6 (isE b.1) (Z (([],()),())) (Z (b,()))) (funext uf))
def k47(n:Nat):OC:=⟨47,⟨P19,K21,J,F47 n⟩,C47 n⟩
def F172:Nat->L bB×U->O ((L bB×U)×U):=λn b=>Z (b,())
def C172(n:Nat):bG prog 172 (⟨P22,K23,J,F172 n⟩:lJ sg):=VA [] trivial (Xo []) J n 10 172 P22 K23 (by kernel_rfl) (Eq.trans (by kernel_rfl:_=λb:L bB×U=>I6 (isE b.1) (Z (([],()),())) (Z (b,()))) (funext uf))
def ajW(n:Nat):OC:=⟨172,⟨P22,K23,J,F172 n⟩,C172 n⟩
def F121:Nat->Y7×L (Int×Bool)×Int×bB×U->O (U×Y7×L (Int×Bool)×U):=
 λn b=>ah (F172 n (b.1.1.1,())) λc=>aO (aF b.2.2.1 b.1.1.2.1) (aO (aF (bh b.1.1.2.1 (ax b.2.2.1) 0) c.1.1) (aO (dX (ax (bh
 b.1.1.2.1 (ax b.2.2.1) 0)) c.1.1) (Z ((),((lF c.1.1 (ax (bh b.1.1.2.1 (ax b.2.2.1) 0)) b.2.2.2.1,b.1.1.2),()),b.2.1,()))))
def aj4(n:Nat):OC:=⟨121,⟨P24,[],J,F121 n⟩,cQ [ajW n] [] n 10 121⟩
def zW(b:ama):Int:=
 ak b.1.2.2.2.2.2.1
def F251:Nat->ama->O Y10:=
 λn b=>aO (nW (ez 0 (zW b) (zW b)) (fZ (zW b) (zW b))) (aO (dg (cL b.1.2.2.2.2.2.1 0 (zW b)) b.2.2.2.1) (Z ((),
 ((),b.1.2.1,b.1.2.2.1,b.1.2.2.2.1,b.1.2.2.2.2.1,dc (cL b.1.2.2.2.2.2.1 0 (zW b)) b.2.2.2.1,b.1.2.2.2.2.2.2),b.2.1,b.2.2.1,())))
def uN(n:Nat):OC:=⟨251,⟨P25,[],J,F251 n⟩,cQ [] [] n 10 251⟩
def F252:Y92:=
 λn b=>Z ((az.mk 1 b.1,()),())
def acH(n:Nat):OC:=⟨252,⟨P26,K20,J,F252 n⟩,cQ [] [] n 10 252⟩
def F253:Y66:=
 λn b=>ai b.1 (Z ((az.mk 2 1,()),())) (Z ((az.mk 2 0,()),()))
def acG(n:Nat):OC:=⟨253,⟨P27,K20,J,F253 n⟩,cQ [] [] n 10 253⟩
def MC(n:Nat)(b:Y9):Y46->O Y10:=
 λc=>ah (F251 n (b.1,b.2.1,b.2.2.1,[c.1.1],())) λd=>Z d
def F173:Y73:=
 λn b=>ai (aa b.1.2.2.2.2.2.2.2.1 1) (ah (F252 n (b.1.2.2.2.2.2.2.2.2.1,())) (MC n b)) (ai (aa b.1.2.2.2.2.2.2.2.1 2) (ah (F253 n
 (aa b.1.2.2.2.2.2.2.2.2.1 1,())) (MC n b)) (ai (aa b.1.2.2.2.2.2.2.2.1 3) (ah (F46 n ()) (MC n b)) (ah (F251 n (b.1,b.2.1,b.2.2.1,
 [az.mk 4 b.1.2.2.2.2.2.2.2.2.1],())) λc=>Z c)))
def ap2(n:Nat):OC:=⟨173,⟨yZ,[],J,F173 n⟩,cQ [k46 n,uN n,acH n,acG n] [] n 10 173⟩
def F174:Y73:=
 λn b=>aO (aF b.1.2.2.2.2.2.2.2.2.1 b.1.2.2.2.2.1) (ah (F251 n (b.1,b.2.1,b.2.2.1,[bh b.1.2.2.2.2.1 (ax b.1.2.2.2.2.2.2.2.2.1) bu],
 ())) λc=>Z c)
def ap1(n:Nat):OC:=⟨174,⟨yZ,[],J,F174 n⟩,cQ [uN n] [] n 10 174⟩
def F259:Nat->Bool×Int×U->O Y64:=
 λn b=>ai (aq b.1) (Z (M (Any.a0 (iH.mk J b.2.1),()))) (Z (G ((),())))
def Cg(n:Nat):OC:=⟨259,⟨P29,[],W,F259 n⟩,cQ [] [] n 10 259⟩
def F254:Nat->Y6×Y7×L (Int×Bool)×bB×U->O (Rx Y8 Y11):=
 λn b=>ah (F259 n (aD (ak b.2.1.1.1) 120,4,())) λc=>cB c (λ_=>aO (nW (ez 0 (ak b.2.1.1.1) (ak b.2.1.1.1)) (fZ (ak
 b.2.1.1.1) (ak b.2.1.1.1))) (aO (dg (cL b.2.1.1.1 0 (ak b.2.1.1.1)) [b.2.2.2.1]) (Z (G ((az.mk 5 (aZ .i64 (ak (dc (cL
 b.2.1.1.1 0 (ak b.2.1.1.1)) [b.2.2.2.1])) 1),()),b.1,((dc (cL b.2.1.1.1 0 (ak b.2.1.1.1)) [b.2.2.2.1],b.2.1.1.2),()),b.2.2.1,()))))) λ
 d=>Z (M (d.1,b.1,b.2.1,b.2.2.1,()))
def VP(n:Nat):OC:=⟨254,⟨P30,K20,W,F254 n⟩,cQ [Cg n] [] n 10 254⟩
def F175:I9:=
 λn b=>ah (F254 n (b.1,b.2.1,b.2.2.1,bB.mk 2 b.1.2.2.2.2.2.2.2.2.1 b.1.2.2.2.2.1 [],())) λc=>cB c (λd=>ah (F251 n (d.2.1,
 d.2.2.1,d.2.2.2.1,[d.1.1],())) λe=>Z (G e)) λd=>Z (M d)
def ap0(n:Nat):OC:=⟨175,⟨yZ,[],W,F175 n⟩,cQ [uN n,VP n] [] n 10 175⟩
def Ia(b:Y9):Int:=
 aZ .i64 (ak b.1.2.2.2.2.2.1) 1
def F260:Nat->Y9->O Y8:=
 λn b=>aO (aF (Ia b) b.1.2.2.2.2.2.1) (aO (ez 0 (Ia b) (ak b.1.2.2.2.2.2.1)) (Z ((bh b.1.2.2.2.2.2.1 (ax (Ia b))
 bu,()),((),b.1.2.1,b.1.2.2.1,b.1.2.2.2.1,b.1.2.2.2.2.1,cL b.1.2.2.2.2.2.1 0 (Ia b),b.1.2.2.2.2.2.2),b.2)))
def GC(n:Nat):OC:=⟨260,⟨yZ,K20,J,F260 n⟩,cQ [] [] n 10 260⟩
def F255:Nat->Y9->O Y63:=
 λn b=>ah (F260 n b) λc=>ah (F260 n c.2) λd=>Z ((d.1.1,c.1),d.2)
def VO(n:Nat):OC:=⟨255,⟨yZ,K31,J,F255 n⟩,cQ [GC n] [] n 10 255⟩
def F300:Nat->amP->O (amk×Y6×Y7×L (Int×Bool)×U):=
 λn b=>ai (aq (aa b.2.2.2.1.1 5)) (Z ((bw,J,()),b.1,b.2.1,b.2.2.1,())) (aO (aF b.2.2.2.1.2 b.2.1.1.1) (ai (aq
 (aa (bh b.2.1.1.1 (ax b.2.2.2.1.2) bw).1 b.2.2.2.2.1)) (Z ((bw,J,()),b.1,b.2.1,b.2.2.1,())) (aO (aF b.2.2.2.1.2
 b.2.1.1.1) (Z ((bh b.2.1.1.1 (ax b.2.2.2.1.2) bw,W,()),b.1,b.2.1,b.2.2.1,())))))
def af9(n:Nat):OC:=⟨300,⟨P32,K33,J,F300 n⟩,cQ [] [] n 10 300⟩
def F256:Nat->Y23->O (Y74×Y6×Y7×L (Int×Bool)×U):=
 λn b=>ai (aa b.2.2.2.1.1 4) (aO (aF b.2.2.2.1.2 b.2.1.1.2.2.2.2.2.2.2.1) (Z ((aj.mk (bh b.2.1.1.2.2.2.2.2.2.2.1 (ax
 b.2.2.2.1.2) 0) [b.2.2.2.2.1] [] J,W,()),b.1,b.2.1,b.2.2.1,()))) (ah (F300 n (b.1,b.2.1,b.2.2.1,b.2.2.2.1,2,())) λc=>ai
 (aq c.1.2.1) (Z ((aR,J,()),c.2)) (aO (nW (ez 0 (ak c.1.1.3) (ak c.1.1.3)) (fZ (ak c.1.1.3) (ak c.1.1.3))) (aO (dg
 (cL c.1.1.3 0 (ak c.1.1.3)) [b.2.2.2.2.1]) (Z ((aj.mk c.1.1.2 (dc (cL c.1.1.3 0 (ak c.1.1.3)) [b.2.2.2.2.1]) [] J,W,()),
 c.2)))))
def age(n:Nat):OC:=⟨256,⟨P34,K35,J,F256 n⟩,cQ [af9 n] [] n 10 256⟩
def zV(b:Y94):Int:=
 aZ .i64 (ak b.2.2.2.1) 1
def Mz(b:Y94):L aj:=
 [aj.mk b.1.2.2.2.1 b.1.2.2.2.2.1 b.1.2.2.2.2.2.1 b.1.2.2.2.2.2.2.1]
def Ib(b:Y94):aj:=
 bh b.2.2.2.1 (ax (zV b)) aR
def F257:Nat->Y94->O (Rx Y10 Y11):=
 λn b=>ah (F259 n (br (aG .i64 (aG .i64 (ak b.1.2.2.1) 1) (ak b.2.2.2.1)) 40,4,())) λc=>cB c (λ_=>aO (ez 0 (zV
 b) (ak b.2.2.2.1)) (aO (nW (ez 0 (ak b.1.2.2.1) (ak b.1.2.2.1)) (fZ (ak b.1.2.2.1) (ak b.1.2.2.1))) (aO (dg (cL b.1.2.2.1 0 (ak
 b.1.2.2.1)) (Mz b)) (aO (dg (dc (cL b.1.2.2.1 0 (ak b.1.2.2.1)) (Mz b)) (cL b.2.2.2.1 0 (zV b))) (aO (aF (zV b)
 b.2.2.2.1) (Z (G ((),((),b.1.2.1,dc (dc (cL b.1.2.2.1 0 (ak b.1.2.2.1)) (Mz b)) (cL b.2.2.2.1 0 (zV b)),(Ib b).1,
 (Ib b).2,(Ib b).3,(Ib b).4,b.1.2.2.2.2.2.2.2),b.2.1,b.2.2.1,())))))))) λd=>Z (M (d.1,b.1,b.2.1,b.2.2.1,()))
def ajN(n:Nat):OC:=⟨257,⟨P36,[],W,F257 n⟩,cQ [Cg n] [] n 10 257⟩
def F238:Nat->W6->O (W6×U):=λn b=>Z (b,())
def C238(n:Nat):bG prog 238 (⟨P37,K38,J,F238 n⟩:lJ sg):=VA [] trivial (Xo []) J n 10 238 P37 K38 (by kernel_rfl) (Eq.trans (by kernel_rfl:_=λb:W6=>I6 (isE b.1) (Z (([],()),())) (Z (b,()))) (funext uf))
def VQ(n:Nat):OC:=⟨238,⟨P37,K38,J,F238 n⟩,C238 n⟩
def F265:Nat->amP->O (Rx ((bB×U)×Y6×Y7×L (Int×Bool)×U) Y11):=
 λn b=>ah (F300 n b) λc=>ah (F259 n (c.1.2.1,2,())) λd=>cB d (λ_=>Z (G ((c.1.1,()),c.2))) λe=>Z (M
 (e.1,c.2))
def VN(n:Nat):OC:=⟨265,⟨P32,K39,W,F265 n⟩,cQ [Cg n,af9 n] [] n 10 265⟩
def oZ(e:W6×U):aj:=
 bh e.1.1 (ax (aZ .i64 (ak e.1.1) 1)) aR
def F258:Nat->Y23->O (Rx Y24 Y11):=
 λn b=>ah (F265 n (b.1,b.2.1,b.2.2.1,b.2.2.2.1,5,())) λc=>cB c (λd=>ah (F238 n (d.1.1.4,())) λe=>aO (aF (aZ .i64
 (ak e.1.1) 1) e.1.1) (aO (dX (ax (aZ .i64 (ak e.1.1) 1)) e.1.1) (aO (nW (ez 0 (ak (oZ e).3) (ak (oZ e).3)) (fZ (ak
 (oZ e).3) (ak (oZ e).3))) (aO (dg (cL (oZ e).3 0 (ak (oZ e).3)) [b.2.2.2.2.1]) (aO (dX (ax (aZ .i64 (ak e.1.1) 1))
 e.1.1) (Z (G ((lF e.1.1 (ax (aZ .i64 (ak e.1.1) 1)) (aj.mk (oZ e).1 (oZ e).2 (dc (cL (oZ e).3 0 (ak (oZ
 e).3)) [b.2.2.2.2.1]) (oZ e).4),()),d.2)))))))) λd=>Z (M d)
def agd(n:Nat):OC:=⟨258,⟨P34,K40,W,F258 n⟩,cQ [VQ n,VN n] [] n 10 258⟩
def F176:I9:=
 λn b=>ah (F255 n b) λc=>ah (F256 n (c.2.1,c.2.2.1,c.2.2.2.1,c.1)) λd=>ai d.1.2.1 (ah (F257 n (d.2.1,d.2.2.1,d.2.2.2.1,[d.1.1],
 ())) λe=>cB e (λg=>Z (G g)) λg=>Z (M g)) (ah (F258 n (d.2.1,d.2.2.1,d.2.2.2.1,c.1)) λe=>cB e (λg=>ah
 (F257 n (g.2.1,g.2.2.1,g.2.2.2.1,g.1)) λh=>cB h (λi=>Z (G i)) λi=>Z (M i)) λg=>Z (M g))
def apZ(n:Nat):OC:=⟨176,⟨yZ,[],W,F176 n⟩,cQ [VO n,age n,ajN n,agd n] [] n 10 176⟩
def Ii(g:Y24):aj:=
 bh g.1.1 (ax (aZ .i64 (ak g.1.1) 1)) aR
def F177:I9:=
 λn b=>ah (F255 n b) λc=>ah (F256 n (c.2.1,c.2.2.1,c.2.2.2.1,c.1)) λd=>ai d.1.2.1 (Z (G ((),((),d.2.1.2.1,d.2.1.2.2.1,
 d.1.1.1,d.1.1.2,d.1.1.3,d.2.1.2.2.2.2.2.2),d.2.2))) (ah (F258 n (d.2.1,d.2.2.1,d.2.2.2.1,c.1)) λe=>cB e (λg=>ah (F259 n (br
 (aG .i64 (ak g.2.1.2.2.1) (ak g.1.1)) 40,4,())) λh=>cB h (λ_=>aO (ez 0 (aZ .i64 (ak g.1.1) 1) (ak g.1.1)) (aO (nW
 (ez 0 (ak g.2.1.2.2.1) (ak g.2.1.2.2.1)) (fZ (ak g.2.1.2.2.1) (ak g.2.1.2.2.1))) (aO (dg (cL g.2.1.2.2.1 0 (ak g.2.1.2.2.1)) (cL
 g.1.1 0 (aZ .i64 (ak g.1.1) 1))) (aO (aF (aZ .i64 (ak g.1.1) 1) g.1.1) (Z (G ((),((),g.2.1.2.1,dc (cL g.2.1.2.2.1 0 (ak
 g.2.1.2.2.1)) (cL g.1.1 0 (aZ .i64 (ak g.1.1) 1)),(Ii g).1,(Ii g).2,(Ii g).3,(Ii g).4,g.2.1.2.2.2.2.2.2.2),g.2.2)))))))
 λi=>Z (M (i.1,g.2))) λg=>Z (M g))
def apY(n:Nat):OC:=⟨177,⟨yZ,[],W,F177 n⟩,cQ [VO n,age n,agd n,Cg n] [] n 10 177⟩
def z5(c:Y8):Int:=
 ak c.2.1.2.2.2.2.1
def F178:Y73:=
 λn b=>ah (F260 n b) λc=>aO (nW (ez 0 (z5 c) (z5 c)) (fZ (z5 c) (z5 c))) (aO (dg (cL c.2.1.2.2.2.2.1 0 (z5 c))
 [c.1.1]) (Z ((),((),c.2.1.2.1,c.2.1.2.2.1,c.2.1.2.2.2.1,dc (cL c.2.1.2.2.2.2.1 0 (z5 c)) [c.1.1],c.2.1.2.2.2.2.2),c.2.2)))
def apX(n:Nat):OC:=⟨178,⟨yZ,[],J,F178 n⟩,cQ [GC n] [] n 10 178⟩
def F179:Y73:=
 λn b=>aO (ez 0 (aZ .i64 (ak b.1.2.2.2.2.1) b.1.2.2.2.2.2.2.2.2.1) (ak b.1.2.2.2.2.1)) (Z ((),((),b.1.2.1,b.1.2.2.1,b.1.2.2.2.1,
 cL b.1.2.2.2.2.1 0 (aZ .i64 (ak b.1.2.2.2.2.1) b.1.2.2.2.2.2.2.2.2.1),b.1.2.2.2.2.2),b.2))
def apW(n:Nat):OC:=⟨179,⟨yZ,[],J,F179 n⟩,cQ [] [] n 10 179⟩
def F180:Y73:=
 λn b=>Z ((),((),b.1.2.1,b.1.2.2.1,b.1.2.2.2.2.2.2.2.2.1,b.1.2.2.2.2),b.2)
def apV(n:Nat):OC:=⟨180,⟨yZ,[],J,F180 n⟩,cQ [] [] n 10 180⟩
def F181:I9:=
 λn b=>ah (F260 n b) λc=>ah (F259 n (aa c.1.1.1 2,2,())) λd=>cB d (λ_=>ai (aa c.1.1.2 0) (Z (G ((),((),
 c.2.1.2.1,c.2.1.2.2.1,c.2.1.2.2.2.2.2.2.2.2.1,c.2.1.2.2.2.2),c.2.2))) (Z (G ((),c.2)))) λe=>Z (M (e.1,c.2))
def apU(n:Nat):OC:=⟨181,⟨yZ,[],W,F181 n⟩,cQ [Cg n,GC n] [] n 10 181⟩
def SI(n:Nat)(c:Y63):Y64->O (Rx Y65 Y11):=
 λd=>cB d (λ_=>Z (G ((c.1.1.2,c.1.2.1.2,()),c.2))) λe=>Z (M (e.1,c.2))
def F262:Nat->Y9->O (Rx Y65 Y11):=
 λn b=>ah (F255 n b) λc=>ai (aa c.1.1.1 1) (ah (F259 n (aa c.1.2.1.1 1,2,())) (SI n c)) (ah (F259 n (J,2,())) (SI n
 c))
def ajM(n:Nat):OC:=⟨262,⟨yZ,K16,W,F262 n⟩,cQ [VO n,Cg n] [] n 10 262⟩
def rM(n:Nat)(d:Y65)(g:Int×Bool×U):amy:=
 λh=>cB h (λ_=>ah (F252 n (g.1,())) λj=>ah (F251 n (d.2.1,d.2.2.1,d.2.2.2.1,[j.1.1],())) λk=>Z (G k)) λi=>Z
 (M (i.1,d.2))
def F182:I9:=
 λn b=>ah (F262 n b) λc=>cB c (λd=>ah (ai (aa d.2.1.2.2.2.2.2.2.2.1 13) (Z (N (aG .i64 d.1.1 d.1.2.1,W,())))
 (ah (ai (aa d.2.1.2.2.2.2.2.2.2.1 14) (Z (N (aZ .i64 d.1.1 d.1.2.1,W,()))) (Z (N (Im .i64 d.1.1 d.1.2.1,J,
 ())))) λ(e:Y54)=>cr e (λg=>Z (N (g.1,J,()))) (λ_ _=>Y) (λ_ _=>Z (X () ())) λ_ h=>Z (LO.iJ
 () h))) λ(e:Y54)=>cr e (λg=>ai (br (-1000000000) g.1) (ah (F259 n (br g.1 1000000000,4,())) (rM n d g)) (ah (F259 n
 (J,4,())) (rM n d g))) (λ_ _=>Y) (λ_ _=>Z (G ((),d.2))) λ_ h=>Z (M (h,d.2))) λd=>Z (M d)
def apT(n:Nat):OC:=⟨182,⟨yZ,[],W,F182 n⟩,cQ [uN n,acH n,Cg n,ajM n] [(182,1000005,⟨[(4,dm),(18,di)],[],[],0⟩),(182,1000007,⟨[(4,dm),(23,di)],[],[],0⟩)] n 10 182⟩
def F183:I9:=
 λn b=>ah (F262 n b) λc=>cB c (λd=>ah (F253 n (aD d.1.1 d.1.2.1,())) λe=>ah (F251 n (d.2.1,d.2.2.1,d.2.2.2.1,[e.1.1],
 ())) λg=>Z (G g)) λd=>Z (M d)
def apS(n:Nat):OC:=⟨183,⟨yZ,[],W,F183 n⟩,cQ [uN n,acG n,ajM n] [] n 10 183⟩
def Ih(n:Nat)(c:Y63):amy:=
 λd=>cB d (λ_=>ah (F253 n (aa c.1.1.2 c.1.2.1.2,())) λg=>ah (F251 n (c.2.1,c.2.2.1,c.2.2.2.1,[g.1.1],())) λh=>Z
 (G h)) λe=>Z (M (e.1,c.2))
def F184:I9:=
 λn b=>ah (F255 n b) λc=>ai (aa c.1.1.1 c.1.2.1.1) (ai (aa c.1.1.1 1) (ah (F259 n (W,2,())) (Ih n c)) (ai (aa c.1.1.1
 2) (ah (F259 n (W,2,())) (Ih n c)) (ah (F259 n (aa c.1.1.1 3,2,())) (Ih n c)))) (ah (F259 n (J,2,())) (Ih n c))
def apR(n:Nat):OC:=⟨184,⟨yZ,[],W,F184 n⟩,cQ [uN n,acG n,VO n,Cg n] [] n 10 184⟩
def F239:Nat->L az×U->O Y57:=λn b=>Z (b,())
def C239(n:Nat):bG prog 239 (⟨P41,K42,J,F239 n⟩:lJ sg):=VA [] trivial (Xo []) J n 10 239 P41 K42 (by kernel_rfl) (Eq.trans (by kernel_rfl:_=λb:L az×U=>I6 (isE b.1) (Z (([],()),())) (Z (b,()))) (funext uf))
def YK(n:Nat):OC:=⟨239,⟨P41,K42,J,F239 n⟩,C239 n⟩
def CU(b:Y9):Int:=
 ak b.1.2.2.2.2.2.1
def Ig(b:Y9):Int:=
 aZ .i64 (CU b) (bh b.2.1.1.2.2.2.2.2.2.2.2.2.1 (ax b.1.2.2.2.2.2.2.2.2.1) bg).2
def F185:I9:=
 λn b=>aO (aF b.1.2.2.2.2.2.2.2.2.1 b.2.1.1.2.2.2.2.2.2.2.2.2.1) (aO (ez (Ig b) (CU b) (CU b)) (ah (F239 n (cL b.1.2.2.2.2.2.1
 (Ig b) (CU b),())) λc=>aO (ez 0 (Ig b) (CU b)) (ah (F254 n (((),b.1.2.1,b.1.2.2.1,b.1.2.2.2.1,b.1.2.2.2.2.1,cL
 b.1.2.2.2.2.2.1 0 (Ig b),b.1.2.2.2.2.2.2),b.2.1,b.2.2.1,bB.mk 1 b.1.2.2.2.2.2.2.2.2.1 c.1.1 [],())) λd=>cB d (λe=>ah (F251 n
 (e.2.1,e.2.2.1,e.2.2.2.1,[e.1.1],())) λg=>Z (G g)) λe=>Z (M e))))
def apQ(n:Nat):OC:=⟨185,⟨yZ,[],W,F185 n⟩,cQ [YK n,uN n,VP n] [] n 10 185⟩
abbrev XR(F:Fn P43 K44 J):lJ sg:=⟨P43,K44,J,F⟩
def xA(c:WA):Y9:=
 (c.1,c.2.1,c.2.2.1,())
def Da(n:Nat)(f263:WA->adV)(c:WA):Y46->adV:=
 λd=>Z (([],bS (aa c.2.2.2.2.1.1 d.1.1.1) (bS (aa c.2.2.2.2.1.2 d.1.1.2) W),()),xA c)
def Ip(c:WA)(e:al9):aB:=
 bh c.2.2.2.1.4 (ax e.2.1) aK
def B263:Nat->(WA->adV)->WA->adV:=
 λn f263 c=>ai (aa c.2.2.2.1.1 1) (Z (([],W,()),xA c)) (ai (aa c.2.2.2.1.1 2) (Z (([c.2.2.2.2.1],W,()),xA c))
 (ai (aa c.2.2.2.1.1 3) (ah (F252 n (c.2.2.2.1.2,())) (Da n f263 c)) (ai (aa c.2.2.2.1.1 4) (ah (F253 n (aa c.2.2.2.1.2 1,()))
 (Da n f263 c)) (ai (aa c.2.2.2.1.1 5) (ah (F46 n ()) (Da n f263 c)) (ah (F300 n (c.1,c.2.1,c.2.2.1,c.2.2.2.2.1,1,())) λd=>ai
 (aq d.1.2.1) (Z (([],J,()),d.2)) (ai (aq (aa d.1.1.2 c.2.2.2.1.2)) (Z (([],J,()),d.2)) (ah (aQ (al9) (ad0) (Y9) (λe=>ai (aD e.2.1 (ak c.2.2.2.1.4)) (aO (aF e.2.1 c.2.2.2.1.4) (aO (aF e.2.1 d.1.1.3) (ah (f263 (e.2.2.1,e.2.2.2.1,
 e.2.2.2.2.1,aB.mk (Ip c e).1 (Ip c e).2 (Ip c e).3 (Ip c e).4,bh d.1.1.3 (ax e.2.1) bu,())) λg=>ai (aq
 g.1.2.1) (Z (X g.2 ([],J,()))) (aO (dg e.1 g.1.1) (Z (N (dc e.1 g.1.1,aG .i64 e.2.1 1,g.2))))))) (Z (H 0 e)))
 n ([],0,d.2)) λe=>bK e (λ_ h=>Z ((h.1,W,()),h.2.2)) (λg h=>Z (h,g)) λ_ _=>Y)))))))
def D263(n:Nat)(f263:Fn P43 K44 J)(a:bG prog 263 (XR f263)):bG prog 263 (XR (B263 n f263)):=cQ [k46 n,acH n,acG n,⟨263,XR f263,a⟩,af9 n] [(263,1,⟨[(10,.one (.own (.st 4))),(61,dm),(0,b3z),(0,b1z),(0,w8)],[.slot 0,.cell (.slot 0) 0,.cell (.cell (.slot 0) 0) 11],[],0⟩)] n 10 263
def R263(n k:Nat):(Fn P43 K44 J):=Nat.rec (motive:=λ_=>(Fn P43 K44 J)) (λ_=>Y) (λ_ r=>B263 n r) k
def F263(n:Nat):Fn P43 K44 J:=(R263 n n)
def afm(n:Nat):∀k,bG prog 263 (XR (R263 n k))
 |0=>cw (enters 263 (by kernel_rfl))
 |k+1=>have a:=afm n k
  D263 n _ a
def api(n:Nat):OC:=⟨263,XR (F263 n),(afm n n)⟩
def CT(d:Y8):Int:=
 ak d.2.1.2.2.2.2.1
def F186:Y73:=
 λn b=>aO (aF (aZ .i64 (ak b.1.2.2.2.2.2.1) 1) b.1.2.2.2.2.2.1) (aO (aF b.1.2.2.2.2.2.2.2.2.1 b.2.1.1.2.2.2.2.2.2.1) (ah (F263 n (b.1,
 b.2.1,b.2.2.1,bh b.2.1.1.2.2.2.2.2.2.1 (ax b.1.2.2.2.2.2.2.2.2.1) aK,bh b.1.2.2.2.2.2.1 (ax (aZ .i64 (ak b.1.2.2.2.2.2.1) 1))
 bu,())) λc=>ai (aq c.1.2.1) (Z ((),((),c.2.1.2.1,c.2.1.2.2.1,c.2.1.2.2.2.2.2.2.2.2.2.1,c.2.1.2.2.2.2),c.2.2)) (ah (F260 n
 c.2) λd=>aO (nW (ez 0 (CT d) (CT d)) (fZ (CT d) (CT d))) (aO (dg (cL d.2.1.2.2.2.2.1 0 (CT d)) c.1.1) (Z ((),
 ((),d.2.1.2.1,d.2.1.2.2.1,d.2.1.2.2.2.1,dc (cL d.2.1.2.2.2.2.1 0 (CT d)) c.1.1,d.2.1.2.2.2.2.2),d.2.2))))))
def apP(n:Nat):OC:=⟨186,⟨yZ,[],J,F186 n⟩,cQ [GC n,api n] [] n 10 186⟩
def F187:I9:=
 λn b=>ah (F259 n (J,3,())) λc=>cB c (λ_=>Z (G ((),b))) λd=>Z (M (d.1,b))
def apO(n:Nat):OC:=⟨187,⟨yZ,[],W,F187 n⟩,cQ [Cg n] [] n 10 187⟩
def F301:amH:=
 λn b=>ai (aa b.1.1 4) (Z ((az.mk 5 0,()),())) (ai (aa b.1.1 5) (Z ((az.mk 5 0,()),())) (Z (b,())))
def En(n:Nat):OC:=⟨301,⟨P45,K20,J,F301 n⟩,cQ [] [] n 10 301⟩
def F188:I9:=
 λn b=>ah (F260 n b) λc=>ah (F254 n (c.2.1,c.2.2.1,c.2.2.2.1,bB.mk 3 0 [c.1.1] [],())) λd=>cB d (λe=>ah (F251 n
 (e.2.1,e.2.2.1,e.2.2.2.1,[e.1.1],())) λg=>ah (F301 n c.1) λh=>Z (G ((),((),g.2.1.2.1,g.2.1.2.2.1,g.2.1.2.2.2.1,
 g.2.1.2.2.2.2.1,g.2.1.2.2.2.2.2.1,g.2.1.2.2.2.2.2.2.1,g.2.1.2.2.2.2.2.2.2.1,g.2.1.2.2.2.2.2.2.2.2.1,g.2.1.2.2.2.2.2.2.2.2.2.1,Z (aP.mk
 g.2.1.2.1 16 0 h.1.1),()),g.2.2))) λe=>Z (M e)
def apN(n:Nat):OC:=⟨188,⟨yZ,[],W,F188 n⟩,cQ [uN n,VP n,GC n,En n] [] n 10 188⟩
def F189:I9:=
 λn b=>ah (F260 n b) λc=>ah (F265 n (c.2.1,c.2.2.1,c.2.2.2.1,c.1.1,3,())) λd=>cB d (λe=>aO (aF 0 e.1.1.3) (ah (F251 n
 (e.2.1,e.2.2.1,e.2.2.2.1,[bh e.1.1.3 (ax 0) bu],())) λg=>ah (F301 n (bh e.1.1.3 (ax 0) bu,())) λh=>Z (G ((),
 ((),g.2.1.2.1,g.2.1.2.2.1,g.2.1.2.2.2.1,g.2.1.2.2.2.2.1,g.2.1.2.2.2.2.2.1,g.2.1.2.2.2.2.2.2.1,g.2.1.2.2.2.2.2.2.2.1,g.2.1.2.2.2.2.2.2.2.2.1,
 g.2.1.2.2.2.2.2.2.2.2.2.1,Z (aP.mk g.2.1.2.1 17 0 h.1.1),()),g.2.2)))) λe=>Z (M e)
def apM(n:Nat):OC:=⟨189,⟨yZ,[],W,F189 n⟩,cQ [uN n,GC n,VN n,En n] [] n 10 189⟩
def F266:Nat->Y6×Y7×L (Int×Bool)×Int×bB×U->O Y10:=
 λn b=>ah (F172 n (b.2.1.1.1,())) λc=>aO (aF b.2.2.2.1 c.1.1) (aO (dX (ax b.2.2.2.1) c.1.1) (Z ((),b.1,((lF c.1.1 (ax
 b.2.2.2.1) b.2.2.2.2.1,b.2.1.1.2),()),b.2.2.1,())))
def agc(n:Nat):OC:=⟨266,⟨P46,[],J,F266 n⟩,cQ [ajW n] [] n 10 266⟩
def F190:I9:=
 λn b=>ah (F255 n b) λc=>ah (F265 n (c.2.1,c.2.2.1,c.2.2.2.1,c.1.1,3,())) λd=>cB d (λe=>ah (F266 n (e.2.1,e.2.2.1,
 e.2.2.2.1,c.1.1.2,bB.mk 3 0 [c.1.2.1] [],())) λg=>ah (F46 n ()) λh=>ah (F251 n (g.2.1,g.2.2.1,g.2.2.2.1,[h.1.1],())) λi=>
 ah (F301 n c.1.2) λj=>Z (G ((),((),i.2.1.2.1,i.2.1.2.2.1,i.2.1.2.2.2.1,i.2.1.2.2.2.2.1,i.2.1.2.2.2.2.2.1,i.2.1.2.2.2.2.2.2.1,
 i.2.1.2.2.2.2.2.2.2.1,i.2.1.2.2.2.2.2.2.2.2.1,i.2.1.2.2.2.2.2.2.2.2.2.1,Z (aP.mk i.2.1.2.1 18 0 j.1.1),()),i.2.2))) λe=>Z
 (M e)
def apL(n:Nat):OC:=⟨190,⟨yZ,[],W,F190 n⟩,cQ [k46 n,uN n,VO n,VN n,agc n,En n] [] n 10 190⟩
def z4(j:Y8):Int:=
 ak j.2.2.1.1.2.1
def F191:I9:=
 λn b=>ah (F260 n b) λc=>ah (F46 n ()) λd=>ah (F256 n (c.2.1,c.2.2.1,c.2.2.2.1,c.1.1,d.1)) λe=>ah (ai e.1.2.1 (Z
 (N (W,e.2.1,e.2.2.1,e.2.2.2.1,(6,0,[],[e.1.1],()),()))) (ah (F46 n ()) λg=>ah (F258 n (e.2.1,e.2.2.1,e.2.2.2.1,c.1.1,g.1))
 λh=>cB h (λi=>Z (N (J,i.2.1,i.2.2.1,i.2.2.2.1,(6,0,[],i.1),()))) λi=>Z (LO.iJ (i.2.1,i.2.2.1,i.2.2.2.1,
 (6,0,[],[],()),()) i.1))) λ(g:LO (Bool×Y6×Y7×L (Int×Bool)×Ku×U) U (Y6×Y7×L (Int×Bool)×Ku×U) Any)=>
 cr g (λh=>ah (F254 n (h.2.1,h.2.2.1,h.2.2.2.1,bB.mk h.2.2.2.2.1.1 h.2.2.2.2.1.2.1 [] h.2.2.2.2.1.2.2.2.1,())) λi=>cB i (λj
 =>aO (nW (ez 0 (z4 j) (z4 j)) (fZ (z4 j) (z4 j))) (aO (dg (cL j.2.2.1.1.2.1 0 (z4 j)) [j.1.1.2]) (ah (F251 n (j.2.1,
 ((j.2.2.1.1.1,dc (cL j.2.2.1.1.2.1 0 (z4 j)) [j.1.1.2],j.2.2.1.1.2.2),()),j.2.2.2.1,[j.1.1],())) λk=>ah (F46 n ()) λl=>ah
 (F301 n l.1) λm=>Z (G ((),((),k.2.1.2.1,k.2.1.2.2.1,k.2.1.2.2.2.1,k.2.1.2.2.2.2.1,k.2.1.2.2.2.2.2.1,k.2.1.2.2.2.2.2.2.1,
 k.2.1.2.2.2.2.2.2.2.1,k.2.1.2.2.2.2.2.2.2.2.1,k.2.1.2.2.2.2.2.2.2.2.2.1,Z (aP.mk k.2.1.2.1 19 0 m.1.1),()),k.2.2))))) λj=>Z
 (M j)) (λ_ _=>Y) (λh _=>Z (G ((),h.1,h.2.1,h.2.2.1,()))) λh i=>Z (M (i,h.1,h.2.1,h.2.2.1,()))
def apK(n:Nat):OC:=⟨191,⟨yZ,[],W,F191 n⟩,cQ [k46 n,uN n,VP n,age n,agd n,GC n,En n] [(191,1000004,⟨[(17,di),(0,b3z),(0,b1z),(0,w8),(0,al4)],[.slot 0,.cell (.slot 0) 0,.cell (.cell (.slot 0) 0) 11,.slot 3],[],0⟩)] n 10 191⟩
def F268:Nat->Bool×U->O Y64:=
 λn b=>ai (aq b.1) (Z (M (Any.a0 (iH.mk W 0),()))) (Z (G ((),())))
def acF(n:Nat):OC:=⟨268,⟨P27,[],W,F268 n⟩,cQ [] [] n 10 268⟩
def F192:I9:=
 λn b=>ah (F260 n b) λc=>ah (F265 n (c.2.1,c.2.2.1,c.2.2.2.1,c.1.1,6,())) λd=>cB d (λe=>ah (F268 n (aq (aa e.1.1.2
 0),())) λg=>cB g (λ_=>ah (F259 n (aa e.1.1.2 1,e.1.1.2,())) λi=>cB i (λ_=>aO (aF 0 e.1.1.3) (ah (F251 n (e.2.1,
 e.2.2.1,e.2.2.2.1,[bh e.1.1.3 (ax 0) bu],())) λk=>aO (aF 0 e.1.1.3) (ah (F301 n (bh e.1.1.3 (ax 0) bu,())) λl=>Z
 (G ((),((),k.2.1.2.1,k.2.1.2.2.1,k.2.1.2.2.2.1,k.2.1.2.2.2.2.1,k.2.1.2.2.2.2.2.1,k.2.1.2.2.2.2.2.2.1,k.2.1.2.2.2.2.2.2.2.1,
 k.2.1.2.2.2.2.2.2.2.2.1,k.2.1.2.2.2.2.2.2.2.2.2.1,Z (aP.mk k.2.1.2.1 20 0 l.1.1),()),k.2.2))))) λj=>Z (M (j.1,e.2))) λh
 =>Z (M (h.1,e.2))) λe=>Z (M e)
def apJ(n:Nat):OC:=⟨192,⟨yZ,[],W,F192 n⟩,cQ [uN n,Cg n,GC n,VN n,acF n,En n] [] n 10 192⟩
def F193:I9:=
 λn b=>ah (F254 n (b.1,b.2.1,b.2.2.1,bB.mk 4 0 [] [],())) λc=>cB c (λd=>ah (F251 n (d.2.1,d.2.2.1,d.2.2.2.1,[d.1.1],()))
 λe=>ah (F46 n ()) λg=>ah (F301 n g.1) λh=>Z (G ((),((),e.2.1.2.1,e.2.1.2.2.1,e.2.1.2.2.2.1,e.2.1.2.2.2.2.1,
 e.2.1.2.2.2.2.2.1,e.2.1.2.2.2.2.2.2.1,e.2.1.2.2.2.2.2.2.2.1,e.2.1.2.2.2.2.2.2.2.2.1,e.2.1.2.2.2.2.2.2.2.2.2.1,Z (aP.mk e.2.1.2.1 21 0
 h.1.1),()),e.2.2))) λd=>Z (M d)
def apI(n:Nat):OC:=⟨193,⟨yZ,[],W,F193 n⟩,cQ [k46 n,uN n,VP n,En n] [] n 10 193⟩
def F194:I9:=
 λn b=>ah (F255 n b) λc=>ah (F265 n (c.2.1,c.2.2.1,c.2.2.2.1,c.1.1,4,())) λd=>cB d (λe=>ah (F268 n (aD (ak e.1.1.3)
 4,())) λg=>cB g (λ_=>aO (nW (ez 0 (ak e.1.1.3) (ak e.1.1.3)) (fZ (ak e.1.1.3) (ak e.1.1.3))) (aO (dg (cL e.1.1.3 0
 (ak e.1.1.3)) [c.1.2.1]) (ah (F266 n (e.2.1,e.2.2.1,e.2.2.2.1,c.1.1.2,bB.mk e.1.1.1 e.1.1.2 (dc (cL e.1.1.3 0 (ak e.1.1.3)) [c.1.2.1])
 e.1.1.4,())) λi=>ah (F46 n ()) λj=>ah (F251 n (i.2.1,i.2.2.1,i.2.2.2.1,[j.1.1],())) λk=>ah (F301 n c.1.2) λl=>Z (G
 ((),((),k.2.1.2.1,k.2.1.2.2.1,k.2.1.2.2.2.1,k.2.1.2.2.2.2.1,k.2.1.2.2.2.2.2.1,k.2.1.2.2.2.2.2.2.1,k.2.1.2.2.2.2.2.2.2.1,
 k.2.1.2.2.2.2.2.2.2.2.1,k.2.1.2.2.2.2.2.2.2.2.2.1,Z (aP.mk k.2.1.2.1 22 0 l.1.1),()),k.2.2))))) λh=>Z (M (h.1,e.2))) λe
 =>Z (M e)
def apH(n:Nat):OC:=⟨194,⟨yZ,[],W,F194 n⟩,cQ [k46 n,uN n,VO n,VN n,agc n,acF n,En n] [] n 10 194⟩
def F195:I9:=
 λn b=>ah (F260 n b) λc=>ah (F265 n (c.2.1,c.2.2.1,c.2.2.2.1,c.1.1,4,())) λd=>cB d (λe=>ah (F268 n (aD 0 (ak
 e.1.1.3),())) λg=>cB g (λ_=>aO (aF 0 e.1.1.3) (aO (ez 1 (ak e.1.1.3) (ak e.1.1.3)) (ah (F266 n (e.2.1,e.2.2.1,e.2.2.2.1,
 c.1.1.2,bB.mk e.1.1.1 e.1.1.2 (cL e.1.1.3 1 (ak e.1.1.3)) e.1.1.4,())) λi=>ah (F251 n (i.2.1,i.2.2.1,i.2.2.2.1,[bh e.1.1.3 (ax 0)
 bu],())) λj=>ah (F301 n (bh e.1.1.3 (ax 0) bu,())) λk=>Z (G ((),((),j.2.1.2.1,j.2.1.2.2.1,j.2.1.2.2.2.1,
 j.2.1.2.2.2.2.1,j.2.1.2.2.2.2.2.1,j.2.1.2.2.2.2.2.2.1,j.2.1.2.2.2.2.2.2.2.1,j.2.1.2.2.2.2.2.2.2.2.1,j.2.1.2.2.2.2.2.2.2.2.2.1,Z (aP.mk
 j.2.1.2.1 23 0 k.1.1),()),j.2.2))))) λh=>Z (M (h.1,e.2))) λe=>Z (M e)
def apG(n:Nat):OC:=⟨195,⟨yZ,[],W,F195 n⟩,cQ [uN n,GC n,VN n,agc n,acF n,En n] [] n 10 195⟩
def xp(c:Y8):Int:=
 ak c.2.2.1.1.2.2.1
def F196:I9:=
 λn b=>ah (F260 n b) λc=>ah (F259 n (aa c.1.1.1 1,2,())) λd=>cB d (λ_=>ah (F259 n (aD (xp c) 100,4,())) λg=>
 cB g (λ_=>aO (nW (ez 0 (xp c) (xp c)) (fZ (xp c) (xp c))) (aO (dg (cL c.2.2.1.1.2.2.1 0 (xp c)) [eg.mk
 c.2.1.2.2.2.2.2.2.2.2.1 c.1.1.2]) (ah (F46 n ()) λi=>ah (F251 n (c.2.1,((c.2.2.1.1.1,c.2.2.1.1.2.1,dc (cL c.2.2.1.1.2.2.1 0 (xp c))
 [eg.mk c.2.1.2.2.2.2.2.2.2.2.1 c.1.1.2],c.2.2.1.1.2.2.2),()),c.2.2.2.1,[i.1.1],())) λj=>ah (F301 n c.1) λk=>Z (G ((),((),
 j.2.1.2.1,j.2.1.2.2.1,j.2.1.2.2.2.1,j.2.1.2.2.2.2.1,j.2.1.2.2.2.2.2.1,j.2.1.2.2.2.2.2.2.1,j.2.1.2.2.2.2.2.2.2.1,j.2.1.2.2.2.2.2.2.2.2.1,
 j.2.1.2.2.2.2.2.2.2.2.2.1,Z (aP.mk j.2.1.2.1 24 j.2.1.2.2.2.2.2.2.2.2.1 k.1.1),()),j.2.2))))) λh=>Z (M (h.1,c.2))) λe=>
 Z (M (e.1,c.2))
def apF(n:Nat):OC:=⟨196,⟨yZ,[],W,F196 n⟩,cQ [k46 n,uN n,Cg n,GC n,En n] [] n 10 196⟩
def Ie(b:Y9):Int:=
 ak b.2.1.1.2.2.2.1
def F197:I9:=
 λn b=>ah (F268 n (aD 0 (Ie b),())) λc=>cB c (λ_=>ah (F259 n (aD b.2.1.1.2.2.2.2.1 1000000000,4,())) λe=>cB e
 (λ_=>aO (aF 0 b.2.1.1.2.2.2.1) (ah (F252 n (bh b.2.1.1.2.2.2.1 (ax 0) 0,())) λh=>aO (ez 1 (Ie b) (Ie b)) (ah (F251 n
 (b.1,((b.2.1.1.1,b.2.1.1.2.1,b.2.1.1.2.2.1,cL b.2.1.1.2.2.2.1 1 (Ie b),aG .i64 b.2.1.1.2.2.2.2.1 1,b.2.1.1.2.2.2.2.2),()),b.2.2.1,
 [h.1.1],())) λi=>ah (F301 n h.1) λj=>Z (G ((),((),i.2.1.2.1,i.2.1.2.2.1,i.2.1.2.2.2.1,i.2.1.2.2.2.2.1,i.2.1.2.2.2.2.2.1,
 i.2.1.2.2.2.2.2.2.1,i.2.1.2.2.2.2.2.2.2.1,i.2.1.2.2.2.2.2.2.2.2.1,i.2.1.2.2.2.2.2.2.2.2.2.1,Z (aP.mk i.2.1.2.1 25 0 j.1.1),()),
 i.2.2))))) λg=>Z (M (g.1,b))) λd=>Z (M (d.1,b))
def apE(n:Nat):OC:=⟨197,⟨yZ,[],W,F197 n⟩,cQ [uN n,acH n,Cg n,acF n,En n] [] n 10 197⟩
def F198:I9:=
 λn b=>ah (F257 n (b.1,b.2.1,b.2.2.1,[aj.mk b.1.2.2.2.2.2.2.2.2.1 b.1.2.2.2.2.1 [] W],())) λc=>cB c (λd=>Z (G d))
 λd=>Z (M d)
def apD(n:Nat):OC:=⟨198,⟨yZ,[],W,F198 n⟩,cQ [ajN n] [] n 10 198⟩
def CS(b:Y9):L aj:=
 [aj.mk b.1.2.2.2.1 b.1.2.2.2.2.1 b.1.2.2.2.2.2.1 b.1.2.2.2.2.2.2.1]
def o4(b:Y9):L aj:=
 dc (cL b.1.2.2.1 0 (ak b.1.2.2.1)) (CS b)
def zZ(k:Y8):Int:=
 ak k.2.1.2.2.2.2.1
def F199:I9:=
 λn b=>aO (nW (ez 0 (ak b.1.2.2.1) (ak b.1.2.2.1)) (fZ (ak b.1.2.2.1) (ak b.1.2.2.1))) (aO (dg (cL b.1.2.2.1 0 (ak b.1.2.2.1))
 (CS b)) (ah (aQ (Int×Int×U) (U) (U) (λc=>ai (br 0 c.2.1) (aO (aF c.2.1 (o4 b)) (aO (dX (ax c.2.1)
 (o4 b)) (ai (bh (o4 b) (ax c.2.1) aR).4 (Z (H 0 (c.2.1,c.2))) (Z (N (c.1,aZ .i64 c.2.1 1,())))))) (Z
 (H 0 c))) n ((-1),aZ .i64 (ak (o4 b)) 1,())) λc=>bK c (λ_ e=>ah (F259 n (br 0 e.1,3,())) λg=>cB g (λ_=>
 aO (ez e.1 (ak (o4 b)) (ak (o4 b))) (ah (F238 n (cL (o4 b) e.1 (ak (o4 b)),())) λi=>ah (F254 n (b.1,b.2.1,b.2.2.1,
 bB.mk 5 0 [] i.1.1,())) λj=>cB j (λk=>aO (ez 0 e.1 (ak (o4 b))) (aO (nW (ez 0 (zZ k) (zZ k)) (fZ (zZ k)
 (zZ k))) (aO (dg (cL k.2.1.2.2.2.2.1 0 (zZ k)) [k.1.1]) (Z (G ((),((),k.2.1.2.1,cL (o4 b) 0 e.1,k.2.1.2.2.2.2.2.2.2.2.1,
 dc (cL k.2.1.2.2.2.2.1 0 (zZ k)) [k.1.1],[],W,k.2.1.2.2.2.2.2.2.2),k.2.2)))))) λk=>Z (M k))) λh=>Z (M (h.1,
 b))) (λ_ _=>Z (G ((),b))) λ_ e=>Z (M (e,b))))
def apC(n:Nat):OC:=⟨199,⟨yZ,[],W,F199 n⟩,cQ [VQ n,VP n,Cg n] [(199,0,⟨[(3,dm),(4,dm)],[],[],0⟩)] n 10 199⟩
def F200:Y73:=
 λn b=>ah (F46 n ()) λc=>ah (F251 n (b.1,b.2.1,b.2.2.1,[c.1.1],())) λd=>ah (F46 n ()) λe=>ah (F301 n e.1) λg=>Z ((),
 ((),d.2.1.2.1,d.2.1.2.2.1,d.2.1.2.2.2.1,d.2.1.2.2.2.2.1,d.2.1.2.2.2.2.2.1,d.2.1.2.2.2.2.2.2.1,d.2.1.2.2.2.2.2.2.2.1,d.2.1.2.2.2.2.2.2.2.2.1,
 d.2.1.2.2.2.2.2.2.2.2.2.1,Z (aP.mk d.2.1.2.1 28 0 g.1.1),()),d.2.2)
def apA(n:Nat):OC:=⟨200,⟨yZ,[],J,F200 n⟩,cQ [k46 n,uN n,En n] [] n 10 200⟩
def zY(c:Y8):Int:=
 aZ .i64 (ak c.2.1.2.2.1) 1
def Ic(c:Y8):aj:=
 bh c.2.1.2.2.1 (ax (zY c)) aR
def F201:Y73:=
 λn b=>ah (F260 n b) λc=>ai (aD (zY c) 0) (ah (F301 n c.1) λd=>ah (F121 n (c.2.2.1,c.2.2.2.1,c.2.1.2.1,bB.mk 6 1
 [c.1.1] [],())) λe=>Z ((),((),c.2.1.2.1,c.2.1.2.2.1,c.2.1.2.2.2.1,c.2.1.2.2.2.2.1,c.2.1.2.2.2.2.2.1,c.2.1.2.2.2.2.2.2.1,
 c.2.1.2.2.2.2.2.2.2.1,c.2.1.2.2.2.2.2.2.2.2.1,c.2.1.2.2.2.2.2.2.2.2.2.1,Z (aP.mk c.2.1.2.1 0 1 d.1.1),()),e.2)) (aO (aF (zY c)
 c.2.1.2.2.1) (aO (ez 0 (zY c) (ak c.2.1.2.2.1)) (ah (F251 n (((),c.2.1.2.1,cL c.2.1.2.2.1 0 (zY c),(Ic c).1,(Ic c).2,
 (Ic c).3,(Ic c).4,c.2.1.2.2.2.2.2.2.2),c.2.2.1,c.2.2.2.1,[c.1.1],())) λd=>Z d)))
def apz(n:Nat):OC:=⟨201,⟨yZ,[],J,F201 n⟩,cQ [aj4 n,uN n,GC n,En n] [] n 10 201⟩
def Qb(b:W1):Int:=
 aZ .i64 (ak (bh b.1.1.1 (ax (bh b.1.1.2.1 (ax b.2.2.1) 0)) bw).4) 1
def Eh(b:W1):aj:=
 bh (bh b.1.1.1 (ax (bh b.1.1.2.1 (ax b.2.2.1) 0)) bw).4 (ax (Qb b)) aR
def fE(b:W1):bR:=
 bh b.1.1.2.2.2.2.2.1 (ax (Eh b).1) bP
def gY(b:W1):Y9:=
 (((),b.2.2.1,cL (bh b.1.1.1 (ax (bh b.1.1.2.1 (ax b.2.2.1) 0)) bw).4 0 (Qb b),aG .i64 (Eh b).1 1,(Eh b).2,(Eh b).3,
 (Eh b).4,(fE b).1,(fE b).2,(fE b).3,Y,()),b.1,b.2.1,())
def aaP(c:Y10):L aj:=
 [aj.mk c.2.1.2.2.2.1 c.2.1.2.2.2.2.1 c.2.1.2.2.2.2.2.1 c.2.1.2.2.2.2.2.2.1]
def gK(n:Nat)(b:W1):Y10->Y76:=
 λc=>aO (aF b.2.2.1 c.2.2.1.1.2.1) (aO (aF (bh c.2.2.1.1.2.1 (ax b.2.2.1) 0) c.2.2.1.1.1) (ah (ai (aa (bh c.2.2.1.1.1 (ax (bh
 c.2.2.1.1.2.1 (ax b.2.2.1) 0)) bw).2 0) (aO (nW (ez 0 (ak c.2.1.2.2.1) (ak c.2.1.2.2.1)) (fZ (ak c.2.1.2.2.1) (ak c.2.1.2.2.1)))
 (aO (dg (cL c.2.1.2.2.1 0 (ak c.2.1.2.2.1)) (aaP c)) (ah (F121 n (c.2.2.1,c.2.2.2.1,b.2.2.1,bB.mk 6 0 [] (dc (cL c.2.1.2.2.1 0
 (ak c.2.1.2.2.1)) (aaP c)),())) λd=>Z (N (W,d.2))))) (Z (N (J,c.2.2)))) λ(d:LO (Bool×Y7×L (Int×Bool)
 ×U) U Y77 Any)=>cr d (λe=>ai (Al c.2.1.2.2.2.2.2.2.2.2.2.2.1) (aO (Al c.2.1.2.2.2.2.2.2.2.2.2.2.1) (Z ((fQ.a1
 (iI.mk (GQ ct c.2.1.2.2.2.2.2.2.2.2.2.2.1)),()),e.2))) (Z ((fQ.a2 rI.mk,()),e.2))) (λ_ _=>Y) (λe _=>Z
 ((fQ.none,()),e)) λ_ _=>Y))
def Qa(n:Nat)(b:W1):Y76:=
 ah (F173 n (gY b)) (gK n b)
def ae8(b:W1)(d:Y11):Y7:=
 ((b.1.1.1,b.1.1.2.1,b.1.1.2.2.1,b.1.1.2.2.2.1,b.1.1.2.2.2.2.1,d.2.2.1.1.2.2.2.2.2),())
def j5(n:Nat)(b:W1):Y11->Y76:=
 λd=>ai (aq (isNil [(199,Ty.st 27)] (gW 38 d.1))) (ah (ai (aq (kB [(199,Ty.st 27)] 0 (gW 38 d.1))) Y (Z (N
 (J,())))) λ(e:Y47)=>cr e (λ_=>ai (aq (jf (Sg.zero sg) [(199,Ty.st 27)] 0 (gW 38 d.1)).1) (ah (F121 n (ae8 b d,
 d.2.2.2.1,b.2.2.1,bB.mk 6 (jf (Sg.zero sg) [(199,Ty.st 27)] 0 (gW 38 d.1)).2 [] [],())) λh=>Z ((fQ.a1 (iI.mk
 (aP.mk b.2.2.1 0 (jf (Sg.zero sg) [(199,Ty.st 27)] 0 (gW 38 d.1)).2 bu)),()),h.2)) (Z ((fQ.a0 sn.mk,()),ae8 b d,
 d.2.2.2))) (λ_ _=>Y) (λ_ _=>Z ((fQ.none,()),d.2.2)) λ_ _=>Y) (Z ((fQ.none,()),d.2.2))
def Mq(n:Nat)(b:W1):Y76:=
 ah (F182 n (gY b)) λc=>cB c (gK n b) (j5 n b)
def F67:Nat->W1->Y76:=
 λn b=>aO (aF b.2.2.1 b.1.1.2.1) (aO (aF (bh b.1.1.2.1 (ax b.2.2.1) 0) b.1.1.1) (ai (aq (aa (bh b.1.1.1 (ax (bh b.1.1.2.1
 (ax b.2.2.1) 0)) bw).2 0)) (Z ((fQ.a0 sn.mk,()),b.1,b.2.1,())) (aO (ez 0 (Qb b) (ak (bh b.1.1.1 (ax (bh b.1.1.2.1
 (ax b.2.2.1) 0)) bw).4)) (aO (aF (Qb b) (bh b.1.1.1 (ax (bh b.1.1.2.1 (ax b.2.2.1) 0)) bw).4) (aO (aF (Eh b).1
 b.1.1.2.2.2.2.2.1) (ai (fZ (fE b).1 0) Y (ai (fZ (fE b).1 1) (Qa n b) (ai (fZ (fE b).1 2) (Qa n b) (ai (fZ (fE b).1 3)
 (Qa n b) (ai (fZ (fE b).1 4) (ah (F174 n (gY b)) (gK n b)) (ai (fZ (fE b).1 5) (Qa n b) (ai (fZ (fE b).1 6) (ah (F175 n
 (gY b)) λc=>cB c (gK n b) (j5 n b)) (ai (fZ (fE b).1 7) (ah (F176 n (gY b)) λc=>cB c (gK n b) (j5 n b)) (ai
 (fZ (fE b).1 8) (ah (F177 n (gY b)) λc=>cB c (gK n b) (j5 n b)) (ai (fZ (fE b).1 9) (ah (F178 n (gY b)) (gK n b))
 (ai (fZ (fE b).1 10) (ah (F179 n (gY b)) (gK n b)) (ai (fZ (fE b).1 11) (ah (F180 n (gY b)) (gK n b)) (ai (fZ (fE b).1 12)
 (ah (F181 n (gY b)) λc=>cB c (gK n b) (j5 n b)) (ai (fZ (fE b).1 13) (Mq n b) (ai (fZ (fE b).1 14) (Mq n b) (ai
 (fZ (fE b).1 15) (Mq n b) (ai (fZ (fE b).1 16) (ah (F183 n (gY b)) λc=>cB c (gK n b) (j5 n b)) (ai (fZ (fE b).1 17)
 (ah (F184 n (gY b)) λc=>cB c (gK n b) (j5 n b)) (ai (fZ (fE b).1 18) (ah (F185 n (gY b)) λc=>cB c (gK n b) (j5
 n b)) (ai (fZ (fE b).1 19) (ah (F186 n (gY b)) (gK n b)) (ai (fZ (fE b).1 20) (ah (F187 n (gY b)) λc=>cB c (gK n b)
 (j5 n b)) (ai (fZ (fE b).1 21) (ah (F188 n (gY b)) λc=>cB c (gK n b) (j5 n b)) (ai (fZ (fE b).1 22) (ah (F189 n (gY
 b)) λc=>cB c (gK n b) (j5 n b)) (ai (fZ (fE b).1 23) (ah (F190 n (gY b)) λc=>cB c (gK n b) (j5 n b)) (ai (fZ
 (fE b).1 24) (ah (F191 n (gY b)) λc=>cB c (gK n b) (j5 n b)) (ai (fZ (fE b).1 25) (ah (F192 n (gY b)) λc=>cB c
 (gK n b) (j5 n b)) (ai (fZ (fE b).1 26) (ah (F193 n (gY b)) λc=>cB c (gK n b) (j5 n b)) (ai (fZ (fE b).1 27) (ah
 (F194 n (gY b)) λc=>cB c (gK n b) (j5 n b)) (ai (fZ (fE b).1 28) (ah (F195 n (gY b)) λc=>cB c (gK n b) (j5 n
 b)) (ai (fZ (fE b).1 29) (ah (F196 n (gY b)) λc=>cB c (gK n b) (j5 n b)) (ai (fZ (fE b).1 30) (ah (F197 n (gY b)) λc
 =>cB c (gK n b) (j5 n b)) (ai (fZ (fE b).1 31) (ah (F198 n (gY b)) λc=>cB c (gK n b) (j5 n b)) (ai (fZ (fE b).1
 32) (ah (F199 n (gY b)) λc=>cB c (gK n b) (j5 n b)) (ai (fZ (fE b).1 33) (ah (F200 n (gY b)) (gK n b)) (ai (fZ (fE
 b).1 34) (ah (F201 n (gY b)) (gK n b)) (aO J Y)))))))))))))))))))))))))))))))))))))))))
def k67(n:Nat):OC:=⟨67,⟨P47,K48,J,F67 n⟩,cQ [aj4 n,ap2 n,ap1 n,ap0 n,apZ n,apY n,apX n,apW n,apV n,apU n,apT n,apS n,apR n,apQ n,apP n,apO n,apN n,apM n,apL n,apK n,apJ n,apI n,apH n,apG n,apF n,apE n,apD n,apC n,apA n,apz n] [(67,1000012,⟨[(100,di),(0,b0z),(0,w8)],[.cell (.slot 2) 0,.cell (.cell (.slot 2) 0) 11],[],0⟩),(120,1000004,⟨[(16,di)],[],[],0⟩)] n 10 67⟩
def F68:Nat->fQ×U->HT:=
 λn b=>ai (kB [(197,Ty.st 14),(203,Ty.st 15),(213,Ty.st 16)] 2 (gW 17 b.1)) (Z ((0,()),())) (ai (kB [(197,Ty.st 14),(203,
 Ty.st 15),(213,Ty.st 16)] 1 (gW 17 b.1)) (Z ((1,()),())) (Z ((2,()),())))
def k68(n:Nat):OC:=⟨68,⟨P49,K2,J,F68 n⟩,cQ [] [] n 10 68⟩
def F48:Nat->W1->O ahL:=
 λn b=>ah (aQ (Int×Int×Y7×L (Int×Bool)×U) (Int×Bool×U) (Y77) (λc=>ai (aD c.2.1 (ak c.2.2.1.1.2.1)) (ah
 (F67 n (c.2.2.1,c.2.2.2.1,c.2.1,())) λd=>ah (F68 n d.1) λe=>ai (aq (aa e.1.1 0)) (Z (N (c.1,aG .i64 c.2.1 1,
 c.2.2.1,d.2.2))) (ai (aD 5000 (aG .i64 c.1 1)) (Z (X (c.2.2.1,d.2.2) (0,J,()))) (Z (N (aG .i64 c.1 1,c.2.1,
 d.2))))) (Z (H 0 c))) n (b.2.2.1,0,b.1,b.2.1,())) λc=>bK c (λ_ e=>Z ((e.1,W,()),e.2.2)) (λd e=>Z (e,d)) λ
 _ _=>Y
def k48(n:Nat):OC:=⟨48,⟨P47,K50,J,F48 n⟩,cQ [k67 n,k68 n] [(48,0,⟨[(1,dm),(6,dm),(0,b0z),(0,w8)],[.slot 0,.cell (.slot 0) 11],[],0⟩)] n 10 48⟩
def F156:Nat->L eg×U->O ((L eg×U)×U):=λn b=>Z (b,())
def C156(n:Nat):bG prog 156 (⟨P51,K52,J,F156 n⟩:lJ sg):=VA [] trivial (Xo []) J n 10 156 P51 K52 (by kernel_rfl) (Eq.trans (by kernel_rfl:_=λb:L eg×U=>I6 (isE b.1) (Z (([],()),())) (Z (b,()))) (funext uf))
def acL(n:Nat):OC:=⟨156,⟨P51,K52,J,F156 n⟩,C156 n⟩
def F103:amD:=
 λn b=>Z (b,())
def aj8(n:Nat):OC:=⟨103,⟨P26,K2,J,F103 n⟩,cQ [] [] n 10 103⟩
abbrev E49(n:Nat):eM sg:=⟨Es,Fk [k47 n,aj8 n,acL n,VQ n,YK n],Xo [(49,0,⟨[(3,.one (.own (.int .i64))),(11,dm)],[],[],0⟩),(102,0,⟨[(32,dm),(0,b6z)],[.slot 7],[],0⟩),(102,2,⟨[(58,dm),(0,b6z)],[.slot 7],[],0⟩),(157,2,⟨[(6,.one (.own (.st 4))),(21,dm)],[],[(19,6)],0⟩)],J,cjL [(169,0,⟨[(0,I2)],[.cell (.slot 1) 0],[.slot 1,.slot 0,.MO (.slot 0) 3],[]⟩),(170,0,⟨[(0,dm),(0,I2)],[.cell (.slot 1) 0],[.slot 1,.slot 2,.slot 3,.cell (.slot 2) 0,.MO (.cell (.slot 2) 0) 3],[.dat .bool]⟩)]⟩
def E7:Nat->Nat->Ku×U->O (U×Ku×U):=λn a x=>QG (wX (E49 n) n a) 169 [(0,I2)] [] [8] [12,14,9] (RE ([8]++[12,14,9]) [(0,I2)] (T3 [.rP 14,.ptr 12 0])) (stJ [8] [12,14,9] ⟨trL [(14,lpR 157 42 [14] (rgN (U8 (Uk 157)) 0) [(3,.ptr 9 0)]),(12,.box [.ptr 8 0]),(9,.box [.fn (.func 103) [] []])],0,0,0,[],[]⟩) x
def Bz:Nat->Nat->Int×Ku×U->O ((Bool×U)×Ku×U):=λn a x=>QG (wX (E49 n) n a) 170 [(0,dm),(0,I2)] [.dat .bool] [8] [12,16,17,14,9] (RE ([8]++[12,16,17,14,9]) [(0,dm),(0,I2)] (T3 [.emp,.ptr 12 0,.ptr 16 0,.ptr 17 0])) (stJ [8] [12,16,17,14,9] ⟨trL [(14,lpR 157 42 [14] (rgN (U8 (Uk 157)) 0) [(3,.ptr 9 0)]),(12,.box [.ptr 8 0]),(9,.box [.fn (.func 103) [] []]),(16,.box [.rP 14]),(17,.box [.fn (.func 170) [] [.ptr 12 0,.ptr 16 0,.ptr 17 0]])],0,0,0,[],[]⟩) x
def UG:Nat->Nat->Ku×U->O (U×Ku×U):=
 λn a c=>ah (F239 n (c.1.2.2.1,())) λd=>ah (aQ (Y58) (U) (U) (λe=>ai (aD e.2.1 (ak d.1.1)) (aO (aF e.2.1 e.1)
 (aO (dX (ax e.2.1) e.1) (ai (aa (bh e.1 (ax e.2.1) bu).1 5) (ah (F103 n ((bh e.1 (ax e.2.1) bu).2,())) λg=>aO (aF
 e.2.1 e.1) (aO (dX (ax e.2.1) e.1) (Z (N (lF e.1 (ax e.2.1) (az.mk (bh e.1 (ax e.2.1) bu).1 g.1.1),aG .i64 e.2.1 1,
 ()))))) (Z (N (e.1,aG .i64 e.2.1 1,())))))) (Z (H 0 e))) n (d.1.1,0,())) λe=>bK e (λ_ h=>ah (Bz n
 (a+3) (0,(c.1.1,c.1.2.1,h.1,c.1.2.2.2),())) λi=>Z ((),i.2)) (λ_ _=>Y) λ_ _=>Y
def Sy(n a:Nat):E7 n (a+4)=UG n a:=by kernel_rfl
def uj(c:Int×Ku×U):aj:=
 bh c.2.1.2.2.2.1 (ax c.1) aR
def mO(n:Nat)(d:Y57):as9:=
 aQ (Y58) (U) (U) (λe=>ai (aD e.2.1 (ak d.1.1)) (aO (aF e.2.1 e.1) (aO (dX (ax e.2.1) e.1) (ai (aa (bh e.1 (ax
 e.2.1) bu).1 5) (ah (F103 n ((bh e.1 (ax e.2.1) bu).2,())) λg=>aO (aF e.2.1 e.1) (aO (dX (ax e.2.1) e.1) (Z (N
 (lF e.1 (ax e.2.1) (az.mk (bh e.1 (ax e.2.1) bu).1 g.1.1),aG .i64 e.2.1 1,()))))) (Z (N (e.1,aG .i64 e.2.1 1,
 ())))))) (Z (H 0 e))) n (d.1.1,0,())
def qA(c:Int×Ku×U)(h:Y58):L aj:=
 lF c.2.1.2.2.2.1 (ax c.1) (aj.mk (uj c).1 h.1 (uj c).3 (uj c).4)
def qz(c:Int×Ku×U)(h:Y58):aj:=
 bh (qA c h) (ax c.1) aR
def MM:Nat->Nat->Int×Ku×U->O ((Bool×U)×Ku×U):=
 λn a c=>ai (aa c.1 (ak c.2.1.2.2.2.1)) (Z ((W,()),c.2)) (aO (aF c.1 c.2.1.2.2.2.1) (aO (dX (ax c.1) c.2.1.2.2.2.1) (ah
 (F239 n ((uj c).2,())) λd=>ah (mO n d) λe=>bK e (λ_ h=>aO (dX (ax c.1) c.2.1.2.2.2.1) (aO (aF c.1 (qA c h))
 (aO (dX (ax c.1) (qA c h)) (ah (F239 n ((qz c h).3,())) λi=>ah (mO n i) λj=>bK j (λ_ l=>aO (dX (ax c.1)
 (qA c h)) (ah (Bz n (a+3) (aG .i64 c.1 1,(c.2.1.1,c.2.1.2.1,c.2.1.2.2.1,lF (qA c h) (ax c.1) (aj.mk (qz c
 h).1 (qz c h).2 l.1 (qz c h).4),()),())) λm=>Z m)) (λ_ _=>Y) λ_ _=>Y)))) (λ_ _=>Y) λ_ _=>Y)))
def HX(n a:Nat):Bz n (a+4)=MM n a:=by kernel_rfl
def y4(c:Y77)(g:Y91)(j:Int×Px×U):bB:=
 bh c.1.1.1 (ax (bh g.1 (ax j.1) 0)) bw
def G49:ams:=
 λn a c=>ah (aQ (Y91) (U) (U) (λd=>ai (aD d.2.1 (ak c.1.1.1)) (aO (dg d.1 [d.2.1]) (Z (N (dc d.1 [d.2.1],
 aG .i64 d.2.1 1,())))) (Z (H 0 d))) n ([],0,())) λd=>bK d (λ_ g=>ah (F156 n (c.1.1.2.2.1,())) λh=>ah (F47 n
 (c.1.1.2.2.2.1,())) λi=>ah (aQ (Int×Px×U) (U) (Px×U) (λj=>ai (aD j.1 (ak g.1)) (aO (aF j.1 g.1) (aO
 (dX (ax j.1) g.1) (aO (aF (bh g.1 (ax j.1) 0) c.1.1.1) (ah (F238 n ((y4 c g j).4,())) λk=>ah (E7 n (a+8) (((y4 c g
 j).1,(y4 c g j).2,(y4 c g j).3,k.1),())) λl=>aO (dg j.2.1.1 [bB.mk l.2.1.1 l.2.1.2.1 l.2.1.2.2.1 l.2.1.2.2.2.1]) (Z (N
 (aG .i64 j.1 1,(dc j.2.1.1 [bB.mk l.2.1.1 l.2.1.2.1 l.2.1.2.2.1 l.2.1.2.2.2.1],j.2.1.2),()))))))) (Z (H 0 j))) n (0,([],[],
 h.1.1,i.1.1,c.1.1.2.2.2.2.1,()),())) λj=>bK j (λ_ l=>ah (aQ (Int×Px×U) (U) (Px×U) (λm=>ai (aD m.1
 (ak c.1.1.2.1)) (aO (aF m.1 c.1.1.2.1) (ah (F103 n (bh c.1.1.2.1 (ax m.1) 0,())) λo=>aO (dg m.2.1.2.1 [o.1.1]) (Z (N (aG .i64
 m.1 1,(m.2.1.1,dc m.2.1.2.1 [o.1.1],m.2.1.2.2),()))))) (Z (H 0 m))) n (0,l.2)) λm=>bK m (λ_ p=>Z ((av.mk p.2.1.1
 p.2.1.2.1 p.2.1.2.2.1 p.2.1.2.2.2.1 p.2.1.2.2.2.2.1,()),c)) (λ_ _=>Z ((cX,()),c)) λ_ _=>Y) (λ_ _=>Z ((cX,
 ()),c)) λ_ _=>Y) (λ_ _=>Z ((cX,()),c)) λ_ _=>Y
def F49(n:Nat):Fn P53 K54 J:=G49 n n
def k49(n:Nat):OC:=⟨49,⟨P53,K54,J,F49 n⟩,ach [k47 n,aj8 n,acL n,VQ n,YK n] (E49 n).sh (E49 n).cj n (n+10) 49⟩
def UD(n:Nat):O Y50:=
 Z ((cX,2,()),())
def F13:Nat->as7->O Y50:=
 λn b=>ah (F99 n (b.1,())) λc=>ai (aq (aa c.1.2.1 0)) (UD n) (ah (aQ (Y51) (Bool×U) (Y52) (λd=>ai (aD d.1
 (ak b.1.1)) (aO (aF d.1 c.1.1) (ai (bh c.1.1 (ax d.1) aT).1 (aO (aF d.1 b.1.1) (ai (aa (bh b.1.1 (ax d.1) bP).1 6)
 (aO (aF d.1 b.1.1) (Z (N (aG .i64 d.1 1,iV (A:=sg.A) (Ty.int .i64) (bh b.1.1 (ax d.1) bP).2 W d.2.1,())))) (Z
 (N (aG .i64 d.1 1,d.2))))) (Z (N (aG .i64 d.1 1,d.2))))) (Z (H 0 d))) n (0,[],())) λd=>bK d (λ_ g=>ah
 (F45 n b.2) λh=>ai (aq h.1.1) (UD n) (aO (aF b.1.4 b.1.3) (ah (F46 n ()) λi=>ah (F47 n b.2) λj=>ah (F48 n ((([bB.mk 6
 0 [] [aj.mk (bh b.1.3 (ax b.1.4) 0) [i.1.1] [] J]],[0],[],j.1.1,0,b.1.1,b.1.2,b.1.3,b.1.4,b.1.5,c.1.1,()),()),g.2.1,0,()))
 λk=>ai (aq k.1.2.1) (Z ((cX,8,()),())) (ah (F49 n k.2) λl=>Z ((l.1.1,0,()),()))))) (λ_ g=>ai (aq g.1)
 (UD n) (ah (F45 n b.2) λh=>ai (aq h.1.1) (UD n) (aO (aF b.1.4 b.1.3) (ah (F46 n ()) λ_=>ah (F47 n b.2) λ_=>Y)))) λ
 _ _=>Y)
def k13(n:Nat):OC:=⟨13,⟨P55,K56,J,F13 n⟩,cQ [k45 n,k46 n,k47 n,k48 n,k49 n,k99 n] [(44,0,⟨[(23,dm),(0,Pj)],[.cell (.slot 19) 11],[],0⟩)] n 10 13⟩
def F164:Nat->eg×U->O Y4:=
 λn b=>ai (br 0 b.1.1) (ai (aD b.1.1 4) (ai (br (-1000000000) b.1.2) (Z ((br b.1.2 1000000000,()),())) (Z ((J,()),
 ()))) (Z ((J,()),()))) (Z ((J,()),()))
def ap6(n:Nat):OC:=⟨164,⟨P57,K4,J,F164 n⟩,cQ [] [] n 10 164⟩
def F245:Nat->cJ×az×U->O Y4:=
 λn b=>ai (aa b.2.1.1 1) (ai (br (-1000000000) b.2.1.2) (Z ((br b.2.1.2 1000000000,()),())) (Z ((J,()),()))) (ai (aa
 b.2.1.1 2) (ai (aa b.2.1.2 0) (Z ((W,()),())) (Z ((aa b.2.1.2 1,()),()))) (ai (aa b.2.1.1 3) (Z ((aa b.2.1.2 0,()),()))
 (ai (aa b.2.1.1 4) (ai (br 0 b.2.1.2) (Z ((aD b.2.1.2 (ak b.1.2.3),()),())) (Z ((J,()),()))) (ai (aa b.2.1.1 5) (ai
 (br 0 b.2.1.2) (Z ((aD b.2.1.2 (ak b.1.1.1),()),())) (Z ((J,()),()))) (Z ((J,()),()))))))
def ajP(n:Nat):OC:=⟨245,⟨P58,K4,J,F245 n⟩,cQ [] [] n 10 245⟩
def xo(n:Nat):O Y4:=
 Z ((J,()),())
def aaZ(n:Nat)(c:Int×U):Y4->Y85:=
 λd=>ai (aq d.1.1) (Z (X () c)) (Z (N (aG .i64 c.1 1,())))
def Mx(n:Nat)(b:Y86):O Y4:=
 ah (aQ (Int×U) (Int×U) (U) (λg=>ai (aD g.1 (ak b.2.1.3)) (aO (aF g.1 b.2.1.3) (ah (F245 n (b.1,bh b.2.1.3 (ax
 g.1) bu,())) (aaZ n g))) (Z (H 0 g))) n (0,())) λg=>bK g (λ_ _=>Z ((aq J,()),())) (λ_ i=>Z
 ((aq (br 0 i.1),()),())) λ_ _=>Y
def F296:Nat->Y86->O Y4:=
 λn b=>ai (aD b.2.1.1 0) (xo n) (ai (br (ak b.1.3) b.2.1.1) (xo n) (aO (aF b.2.1.1 b.1.3) (ai (aq (bh b.1.3 (ax
 b.2.1.1) aT).1) (xo n) (aO (aF b.2.1.1 b.1.3) (ai (aa (ak b.2.1.2) (bh b.1.3 (ax b.2.1.1) aT).3) (ai (aa (ak
 b.2.1.3) (aZ .i64 (bh b.1.3 (ax b.2.1.1) aT).2 b.2.2.1)) (ah (aQ (Int×U) (Int×U) (U) (λc=>ai (aD c.1
 (ak b.2.1.2)) (aO (aF c.1 b.2.1.2) (ah (F245 n (b.1,bh b.2.1.2 (ax c.1) bu,())) (aaZ n c))) (Z (H 0 c))) n (0,())) λc
 =>bK c (λ_ _=>ai (aq J) (Mx n b) (xo n)) (λ_ e=>ai (aq (br 0 e.1)) (Mx n b) (xo n)) λ_ _=>Y)
 (xo n)) (xo n))))))
def ajH(n:Nat):OC:=⟨296,⟨P59,K4,J,F296 n⟩,cQ [ajP n] [(315,0,⟨[(8,dm)],[],[],0⟩)] n 10 296⟩
def F247:Y84:=
 λn b=>ah (F296 n (b.1,b.2.1,1,())) λc=>Z c
def ajO(n:Nat):OC:=⟨247,⟨P60,K4,J,F247 n⟩,cQ [ajH n] [] n 10 247⟩
def F297:Y84:=
 λn b=>ah (F296 n (b.1,b.2.1,0,())) λc=>Z c
def ao9(n:Nat):OC:=⟨297,⟨P60,K4,J,F297 n⟩,cQ [ajH n] [] n 10 297⟩
def zX(b:aaz):Int:=
 aZ .i64 (ak b.2.1.4) 1
def SJ(n:Nat)(b:aaz):O Y4:=
 aO (aF (zX b) b.2.1.4) (ah (F297 n (b.1,bh b.2.1.4 (ax (zX b)) aR,())) λg=>Z g)
def sV(n:Nat):O Y4:=
 Z ((J,()),())
def F248:amJ:=
 λn b=>ai (aa b.2.1.2 0) (ai (aa (ak b.2.1.3) 0) (ai (br 1 (ak b.2.1.4)) (ai (br (ak b.2.1.4) 40) (aO (ez 0 (zX b)
 (ak b.2.1.4)) (ah (aQ (Int×U) (Int×U) (U) (λc=>ai (aD c.1 (ak (cL b.2.1.4 0 (zX b)))) (aO (aF c.1 (cL
 b.2.1.4 0 (zX b))) (ah (F247 n (b.1,bh (cL b.2.1.4 0 (zX b)) (ax c.1) aR,())) λd=>ai (aq d.1.1) (Z (X () c))
 (Z (N (aG .i64 c.1 1,()))))) (Z (H 0 c))) n (0,())) λc=>bK c (λ_ _=>ai (aq J) (SJ n b) (sV n)) (λ
 _ e=>ai (aq (br 0 e.1)) (SJ n b) (sV n)) λ_ _=>Y)) (sV n)) (sV n)) (sV n)) (ai (aa b.2.1.2 1) (ai (aa
 (ak b.2.1.3) 1) (Z ((aa (ak b.2.1.4) 0,()),())) (sV n)) (ah (ai (aa b.2.1.2 2) (Z (N (W,()))) (ah (ai (aa
 b.2.1.2 3) (Z (N (W,()))) (Z (N (aa b.2.1.2 4,())))) λ(c:nY)=>cr c (λd=>Z (N d)) (λ_ _=>Y)
 (λ_ e=>Z (X () e)) λ_ _=>Y)) λ(c:nY)=>cr c (λd=>ai d.1 (ai (aa (ak b.2.1.3) 0) (Z ((aa (ak
 b.2.1.4) 0,()),())) (sV n)) (sV n)) (λ_ _=>Y) (λ_ e=>Z (e,())) λ_ _=>Y))
def apj(n:Nat):OC:=⟨248,⟨P61,K4,J,F248 n⟩,cQ [ajO n,ao9 n] [(248,1000008,⟨[(55,di)],[],[],0⟩),(248,1000009,⟨[(55,di)],[],[],0⟩),(316,0,⟨[(8,dm)],[],[],0⟩)] n 10 248⟩
def jm(n:Nat):O Y4:=
 Z ((J,()),())
def SK(n:Nat)(b:aaz):O Y4:=
 aO (aF 0 b.2.1.4) (Z (((bh b.2.1.4 (ax 0) aR).4,()),()))
def MD(n:Nat)(b:aaz):O Y4:=
 ai (aa b.2.1.1 1) (ai (aa (ak b.2.1.4) 0) (ai (br 0 b.2.1.2) (ai (aD b.2.1.2 (ak b.1.2.5)) (aO (aF b.2.1.2 b.1.2.5) (Z
 ((aa (ak b.2.1.3) (bh b.1.2.5 (ax b.2.1.2) bg).2,()),()))) (jm n)) (jm n)) (jm n)) (ai (aa b.2.1.1 2) (ai (aa (ak
 b.2.1.4) 0) (ai (EV (A:=sg.A) (Ty.int .i64) J b.2.1.2 b.1.4) (aO (aF b.2.1.2 b.1.3) (Z ((aa (ak b.2.1.3) (aZ .i64 (bh b.1.3
 (ax b.2.1.2) aT).3 1),()),()))) (jm n)) (jm n)) (ai (aa b.2.1.1 3) (ai (aa (ak b.2.1.4) 0) (ai (aa b.2.1.2 0) (Z
 ((aa (ak b.2.1.3) 1,()),())) (jm n)) (jm n)) (ai (aa b.2.1.1 4) (ai (aa (ak b.2.1.4) 0) (ai (aa b.2.1.2 0) (Z ((br
 (ak b.2.1.3) 4,()),())) (jm n)) (jm n)) (ai (aa b.2.1.1 5) (ai (br 1 (ak b.2.1.4)) (ai (br (ak b.2.1.4) 40) (ai (aa
 b.2.1.2 0) (ai (aa (ak b.2.1.3) 0) (ah (aQ (Int×U) (Int×U) (U) (λg=>ai (aD g.1 (ak b.2.1.4)) (aO (aF g.1
 b.2.1.4) (ah (F247 n (b.1,bh b.2.1.4 (ax g.1) aR,())) λh=>ai (aq h.1.1) (Z (X () g)) (Z (N (aG .i64 g.1 1,
 ()))))) (Z (H 0 g))) n (0,())) λg=>bK g (λ_ _=>ai (aq J) (SK n b) (jm n)) (λ_ i=>ai (aq (br 0 i.1))
 (SK n b) (jm n)) λ_ _=>Y) (jm n)) (jm n)) (jm n)) (jm n)) (ai (aa b.2.1.1 6) (ah (F248 n b) λg=>Z g)
 (jm n))))))
def F166:amJ:=
 λn b=>ah (aQ (Int×U) (Int×U) (U) (λc=>ai (aD c.1 (ak b.2.1.3)) (aO (aF c.1 b.2.1.3) (ah (F245 n (b.1,bh
 b.2.1.3 (ax c.1) bu,())) λd=>ai (aq d.1.1) (Z (X () c)) (Z (N (aG .i64 c.1 1,()))))) (Z (H 0 c))) n (0,
 ())) λc=>bK c (λ_ _=>ai (aq (aq J)) (jm n) (MD n b)) (λ_ e=>ai (aq (aq (br 0 e.1))) (jm n)
 (MD n b)) λ_ _=>Y
def ap5(n:Nat):OC:=⟨166,⟨P61,K4,J,F166 n⟩,cQ [ajP n,ajO n,apj n] [(315,0,⟨[(8,dm)],[],[],0⟩),(316,0,⟨[(8,dm)],[],[],0⟩)] n 10 166⟩
def F167:amm:=
 λn b=>ah (aQ (Y51) (Bool×U) (Y52) (λc=>ai (aD c.1 (ak b.1.1.1)) (aO (aF c.1 b.1.1.1) (ai (aa (bh b.1.1.1 (ax
 c.1) bw).1 6) (Z (N (aG .i64 c.1 1,iV (A:=sg.A) (Ty.int .i64) c.1 W c.2.1,()))) (Z (N (aG .i64 c.1 1,c.2)))))
 (Z (H 0 c))) n (0,[],())) λc=>bK c (λ_ e=>ah (aQ (Y51) (Bool×U) (Y52) (λg=>ai (aD g.1 (ak b.1.1.2))
 (aO (aF g.1 b.1.1.2) (ai (aq (EV (A:=sg.A) (Ty.int .i64) J (bh b.1.1.2 (ax g.1) 0) g.2.1)) (Z (X g.2 (J,()))) (Z
 (N (aG .i64 g.1 1,LW (A:=sg.A) (Ty.int .i64) (bh b.1.1.2 (ax g.1) 0) g.2.1,()))))) (Z (H 0 g))) n (0,e.2)) λg=>bK g
 (λ_ i=>Z ((aa (ak i.2.1) 0,()),())) (λ_ i=>Z (i,())) λ_ _=>Y) (λ_ e=>Z (e,())) λ_ _=>Y
def ap4(n:Nat):OC:=⟨167,⟨P62,K4,J,F167 n⟩,cQ [] [(167,0,⟨[(14,dm),(0,Pj)],[.slot 7],[],0⟩),(167,2,⟨[(36,dm),(0,Pj)],[.slot 7],[],0⟩)] n 10 167⟩
def sX(n:Nat):O Y4:=
 Z ((J,()),())
def aa5(n:Nat)(b:cJ×U):O Y4:=
 ah (F45 n (b.1.1.4,())) λk=>ai k.1.1 (ai (br 0 b.1.1.5) (Z ((br b.1.1.5 1000000000,()),())) (sX n)) (sX n)
def aa4(n:Nat)(b:cJ×U):O Y4:=
 ah (F167 n b) λg=>ai g.1.1 (ai (br (ak b.1.1.3) 100) (ah (aQ (Int×U) (Int×U) (U) (λh=>ai (aD h.1 (ak
 b.1.1.3)) (aO (aF h.1 b.1.1.3) (ah (F164 n (bh b.1.1.3 (ax h.1) kI,())) λi=>ai (aq i.1.1) (Z (X () h)) (Z (N
 (aG .i64 h.1 1,()))))) (Z (H 0 h))) n (0,())) λh=>bK h (λ_ _=>ai (aq J) (aa5 n b) (sX n)) (λ_ j=>ai
 (aq (br 0 j.1)) (aa5 n b) (sX n)) λ_ _=>Y) (sX n)) (sX n)
def F111:amm:=
 λn b=>ai (br (ak b.1.1.1) 120) (ah (aQ (Int×U) (Int×U) (U) (λc=>ai (aD c.1 (ak b.1.1.1)) (aO (aF c.1
 b.1.1.1) (ah (F166 n (b.1,bh b.1.1.1 (ax c.1) bw,())) λd=>ai (aq d.1.1) (Z (X () c)) (Z (N (aG .i64 c.1 1,
 ()))))) (Z (H 0 c))) n (0,())) λc=>bK c (λ_ _=>ai (aq J) (aa4 n b) (sX n)) (λ_ e=>ai (aq (br 0 e.1))
 (aa4 n b) (sX n)) λ_ _=>Y) (sX n)
def YN(n:Nat):OC:=⟨111,⟨P62,K4,J,F111 n⟩,cQ [k45 n,ap6 n,ap5 n,ap4 n] [(291,0,⟨[(8,dm)],[],[],0⟩),(298,0,⟨[(8,dm)],[],[],0⟩)] n 10 111⟩
def F66:Nat->Y77->O ((L Int×U)×Y7×L (Int×Bool)×U):=
 λn b=>ah (aQ (L Int×Int×Y7×L (Int×Bool)×U) (L Int×U) (Y77) (λc=>ai (aD c.2.1 (ak b.1.1.2.1)) (ah
 (F67 n (c.2.2.1,c.2.2.2.1,c.2.1,())) λd=>ah (F68 n d.1) λe=>ai (aq (aa e.1.1 2)) (aO (dg c.1 [c.2.1]) (Z (N (dc c.1
 [c.2.1],aG .i64 c.2.1 1,c.2.2.1,d.2.2)))) (Z (N (c.1,aG .i64 c.2.1 1,c.2.2.1,d.2.2)))) (Z (H 0 c))) n ([],0,b)) λc=>
 bK c (λ_ e=>Z ((e.1,()),e.2.2)) (λd e=>Z (e,d)) λ_ _=>Y
def k66(n:Nat):OC:=⟨66,⟨P53,K21,J,F66 n⟩,cQ [k67 n,k68 n] [(66,0,⟨[(3,.one (.own (.int .i64))),(12,dm),(0,b0z),(0,w8)],[.slot 0,.cell (.slot 0) 11],[],0⟩)] n 10 66⟩
def F353:Nat->sn×U->O aau:=
 λn _=>Z ((ct,()),())
def ajC(n:Nat):OC:=⟨353,⟨atw,K173,J,F353 n⟩,cQ [] [] n 10 353⟩
def F354:Nat->iI×U->O aau:=
 λn b=>Z ((b.1.1,()),())
def ajB(n:Nat):OC:=⟨354,⟨atv,K173,J,F354 n⟩,cQ [] [] n 10 354⟩
def F355:Nat->rI×U->O aau:=
 λn _=>Z ((ct,()),())
def ajA(n:Nat):OC:=⟨355,⟨atu,K173,J,F355 n⟩,cQ [] [] n 10 355⟩
def aaS(n:Nat)(c:ahL):ahH:=
 Z ((ct,0,8,()),c.2)
def Kz:L (Nat×Ty):=
 [(197,Ty.st 14),(203,Ty.st 15),(213,Ty.st 16)]
def aaR(n:Nat)(g:ahL):aau->ahH:=
 λh=>Z ((h.1.1,g.1.1,0,()),g.2)
def F57:Nat->W1->ahH:=
 λn b=>ah (F48 n (b.1,b.2.1,0,())) λc=>ai (aq c.1.2.1) (aaS n c) (ah (F66 n c.2) λd=>ai (aa (ak d.1.1) 0) (Z
 ((ct,0,5,()),d.2)) (aO (nzI (ak d.1.1)) (aO (nzI (ak d.1.1)) (aO (aF (Il (aG .i64 (Il b.2.2.1 (ak d.1.1)) (ak d.1.1))
 (ak d.1.1)) d.1.1) (ah (F67 n (d.2.1,d.2.2.1,bh d.1.1 (ax (Il (aG .i64 (Il b.2.2.1 (ak d.1.1)) (ak d.1.1)) (ak d.1.1))) 0,()))
 λe=>ah (F48 n (e.2.1,e.2.2.1,aG .i64 c.1.1 1,())) λg=>ai (aq g.1.2.1) (aaS n g) (ai (aD 5000 g.1.1) (aaS n g) (ai (kB
 Kz 0 (gW 17 e.1.1)) (ah (F353 n (jf (Sg.zero sg) Kz 0 (gW 17 e.1.1),())) (aaR n g)) (ai (kB Kz 1 (gW 17 e.1.1)) (ah
 (F354 n (jf (Sg.zero sg) Kz 1 (gW 17 e.1.1),())) (aaR n g)) (ai (kB Kz 2 (gW 17 e.1.1)) (ah (F355 n (jf (Sg.zero sg) Kz
 2 (gW 17 e.1.1),())) (aaR n g)) Y)))))))))
def k57(n:Nat):OC:=⟨57,⟨P47,K63,J,F57 n⟩,cQ [k48 n,k66 n,k67 n,ajC n,ajB n,ajA n] [] n 10 57⟩
def UC(n:Nat):O Y96:=
 Z ((cX,[],2,()),())
def F20:Nat->amF->O Y96:=
 λn b=>ah (F99 n (b.1,())) λc=>ai (aq (aa c.1.2.1 0)) (UC n) (ah (aQ (Y51) (Bool×U) (Y52) (λd=>ai (aD d.1
 (ak b.1.1)) (aO (aF d.1 c.1.1) (ai (bh c.1.1 (ax d.1) aT).1 (aO (aF d.1 b.1.1) (ai (aa (bh b.1.1 (ax d.1) bP).1 6)
 (aO (aF d.1 b.1.1) (Z (N (aG .i64 d.1 1,iV (A:=sg.A) (Ty.int .i64) (bh b.1.1 (ax d.1) bP).2 W d.2.1,())))) (Z
 (N (aG .i64 d.1 1,d.2))))) (Z (N (aG .i64 d.1 1,d.2))))) (Z (H 0 d))) n (0,[],())) λd=>bK d (λ_ g=>ah
 (F111 n (cJ.mk b.2.1 b.1 c.1.1 g.2.1,())) λh=>ai (aq h.1.1) (UC n) (ai (aD 200 (ak b.2.2.1)) (UC n) (ah (F48 n
 (((b.2.1.1,b.2.1.2,b.2.1.3,b.2.1.4,b.2.1.5,b.1.1,b.1.2,b.1.3,b.1.4,b.1.5,c.1.1,()),()),g.2.1,0,())) λi=>ai (aq i.1.2.1) (Z
 ((cX,[],8,()),())) (ah (aQ (L aP×Int×Px×Y7×L (Int×Bool)×U) (as8) (Px×Y7×L (Int×Bool)×U) (λj=>ai (aD j.2.1 (ak b.2.2.1)) (aO (aF j.2.1 b.2.2.1) (ah (F57 n (j.2.2.2.1,j.2.2.2.2.1,bh b.2.2.1 (ax j.2.1) 0,())) λk
 =>ai (aa k.1.2.2.1 5) (Z (H 0 (j.1,j.2.1,([],[],[],[],j.2.2.1.2.2.2.2),k.2))) (ai (aq (aa k.1.2.2.1 0)) (Z (X (([],
 [],[],[],0,()),k.2) ([],k.1.2.2))) (aO (dg j.1 [k.1.1]) (Z (N (dc j.1 [k.1.1],aG .i64 j.2.1 1,([],[],[],[],
 j.2.2.1.2.2.2.2),k.2))))))) (Z (H 0 (j.1,j.2.1,([],[],[],[],j.2.2.1.2.2.2.2),j.2.2.2)))) n ([],0,([],[],[],[],0,()),i.2)) λj
 =>bK j (λ_ l=>ah (F49 n l.2.2.2) λm=>Z ((m.1.1,l.1,0,()),())) (λk l=>Z ((av.mk [] [] [] [] k.1.2.2.2.2.1,l),()))
 λ_ _=>Y)))) (λ_ g=>ai (aq g.1) (UC n) Y) λ_ _=>Y)
def k20(n:Nat):OC:=⟨20,⟨P64,K65,J,F20 n⟩,cQ [k48 n,k49 n,k57 n,k99 n,YN n] [(20,0,⟨[(13,.one (.own (.st 11))),(43,dm),(0,.box (.cells [.nil (.st 6),.nil (.int .i64),.nil (.st 7),.nil (.int .i64),mh])),(0,b0z),(0,w8)],[.slot 6,.slot 23,.cell (.slot 23) 11],[],0⟩),(44,0,⟨[(23,dm),(0,Pj)],[.cell (.slot 19) 11],[],0⟩)] n 10 20⟩
abbrev E58(n:Nat):eM sg:=⟨Es,Fk [k47 n,acL n,VQ n,YK n],Xo [(58,0,⟨[(21,dm),(0,EA),(0,Ez)],[.cell (.slot 4) 0,.slot 3],[],0⟩),(58,2,⟨[(8,dm),(0,EA),(0,Ez)],[.cell (.slot 4) 0,.slot 3],[],0⟩),(58,6,⟨[(52,dm),(0,EA),(0,Ez)],[.cell (.cap (.cell (.slot 5) 0) 0) 0,.cap (.cell (.slot 5) 0) 1],[],0⟩),(102,0,⟨[(32,dm),(0,b6z),(0,EA)],[.slot 7,.cell (.cap (.slot 2) 0) 0],[],0⟩),(102,2,⟨[(58,dm),(0,b6z)],[.slot 7],[],0⟩),(157,2,⟨[(6,.one (.own (.st 4))),(21,dm)],[],[(19,6)],0⟩)],J,cjL [(169,11,⟨[(0,adP),(0,EA),(0,Ez)],[.cell (.slot 1) 0,.cell (.cap (.cell (.MO (.slot 0) 5) 0) 0) 0,.cap (.cell (.MO (.slot 0) 5) 0) 1],[.slot 1,.slot 0,.MO (.slot 0) 5,.cap (.cell (.MO (.slot 0) 5) 0) 0],[]⟩),(170,11,⟨[(0,dm),(0,adP),(0,EA),(0,Ez)],[.cell (.slot 1) 0,.cell (.cap (.cell (.MO (.cell (.slot 2) 0) 5) 0) 0) 0,.cap (.cell (.MO (.cell (.slot 2) 0) 5) 0) 1],[.slot 1,.slot 2,.slot 3,.cell (.slot 2) 0,.MO (.cell (.slot 2) 0) 5,.cap (.cell (.MO (.cell (.slot 2) 0) 5) 0) 0],[.dat .bool]⟩),(169,0,⟨[(0,I2),(0,EA)],[.cell (.slot 1) 0,.cell (.cap (.cell (.MO (.slot 0) 3) 0) 0) 0],[.slot 1,.slot 0,.MO (.slot 0) 3,.cap (.cell (.MO (.slot 0) 3) 0) 0],[]⟩),(170,0,⟨[(0,dm),(0,I2),(0,EA)],[.cell (.slot 1) 0,.cell (.cap (.cell (.MO (.cell (.slot 2) 0) 3) 0) 0) 0],[.slot 1,.slot 2,.slot 3,.cell (.slot 2) 0,.MO (.cell (.slot 2) 0) 3,.cap (.cell (.MO (.cell (.slot 2) 0) 3) 0) 0],[.dat .bool]⟩),(1000000,0,⟨[],[],[],[]⟩)]⟩
def Sz:Nat->Nat->Ku×L (Int×Int)×(L Int×U)×U->O (U×Ku×L (Int×Int)×(L Int×U)×U):=λn a x=>QG (wX (E58 n) n a) 169 [(0,adP),(0,EA),(0,Ez)] [] [10,4,3] [11,13,6,5] (RE ([10,4,3]++[11,13,6,5]) [(0,adP),(0,EA),(0,Ez)] (T3 [.rP 13,.ptr 11 0])) (stJ [10,4,3] [11,13,6,5] ⟨trL [(13,lpR 58 68 [47] (rgN (U8 (Uk 58)) 0) [(5,.ptr 6 0)]),(11,.box [.ptr 10 0]),(6,.box [.fn (.func 112) [] [.ptr 5 0,.ptr 3 0]]),(5,.box [.mp 4])],0,0,0,[],[]⟩) x
def aeb:Nat->Nat->Ku×L (Int×Int)×U->O (U×Ku×L (Int×Int)×U):=λn a x=>QG (wX (E58 n) n a) 169 [(0,I2),(0,EA)] [] [14,4] [18,20,15,5] (RE ([14,4]++[18,20,15,5]) [(0,I2),(0,EA)] (T3 [.rP 20,.ptr 18 0])) (stJ [14,4] [18,20,15,5] ⟨trL [(20,lpR 157 42 [14] (rgN (U8 (Uk 157)) 0) [(3,.ptr 15 0)]),(18,.box [.ptr 14 0]),(15,.box [.fn (.func 114) [] [.ptr 5 0]]),(5,.box [.mp 4])],0,0,0,[],[]⟩) x
def UA(c:Y77)(d:aap):Int:=
 bh c.1.1.2.1 (ax d.1) 0
def Uz(c:Y77)(h:aap):bB:=
 bh c.1.1.1 (ax (bh h.2.2.1.1 (ax h.1) 0)) bw
def Uy(c:Y77)(j:aap)(m:amg):bB:=
 bh c.1.1.1 (ax (bh j.2.2.1.1 (ax m.1) 0)) bw
def ae9(c:Y77)(q:Int×Px×U):Int:=
 bh c.1.1.2.1 (ax q.1) 0
def G58:ams:=
 λn a c=>ah (aQ (aap) (U) (amh) (λd=>ai (aD d.1 (ak c.1.1.2.1)) (aO (aF d.1 c.1.1.2.1) (ai (aq (GO (A:=sg.A)
 (Ty.int .i64) (UA c d) d.2.1)) (aO (dg d.2.2.1.1 [UA c d]) (Z (N (aG .i64 d.1 1,iV (A:=sg.A) (Ty.int .i64) (UA c d) (ak
 d.2.2.1.1) d.2.1,(dc d.2.2.1.1 [UA c d],()),())))) (Z (N (aG .i64 d.1 1,d.2))))) (Z (H 0 d))) n (0,[],([],()),())) λ
 d=>bK d (λ_ g=>ah (aQ (aap) (U) (amh) (λh=>ai (aD h.1 (ak h.2.2.1.1)) (aO (aF h.1 h.2.2.1.1) (aO (dX (ax
 h.1) h.2.2.1.1) (aO (aF (bh h.2.2.1.1 (ax h.1) 0) c.1.1.1) (ah (Sz n (a+10) (((Uz c h).1,(Uz c h).2,(Uz c h).3,(Uz c
 h).4,()),h.2)) λi=>Z (N (aG .i64 h.1 1,i.2.2)))))) (Z (H 0 h))) n (0,g.2)) λh=>bK h (λ_ j=>ah (F156 n
 (c.1.1.2.2.1,())) λk=>ah (F47 n (c.1.1.2.2.2.1,())) λl=>ah (aQ (amg) (U) (Px×L (Int×Int)×U) (λm=>ai
 (aD m.1 (ak j.2.2.1.1)) (aO (aF m.1 j.2.2.1.1) (aO (dX (ax m.1) j.2.2.1.1) (aO (aF (bh j.2.2.1.1 (ax m.1) 0) c.1.1.1) (ah (F238 n
 ((Uy c j m).4,())) λo=>ah (aeb n (a+8) (((Uy c j m).1,(Uy c j m).2,(Uy c j m).3,o.1),m.2.2)) λp=>aO (dg
 m.2.1.1 [bB.mk p.2.1.1 p.2.1.2.1 p.2.1.2.2.1 p.2.1.2.2.2.1]) (Z (N (aG .i64 m.1 1,(dc m.2.1.1 [bB.mk p.2.1.1 p.2.1.2.1
 p.2.1.2.2.1 p.2.1.2.2.2.1],m.2.1.2),p.2.2))))))) (Z (H 0 m))) n (0,([],[],k.1.1,l.1.1,c.1.1.2.2.2.2.1,()),j.2.1,())) λm=>bK m
 (λ_ p=>ah (aQ (Int×Px×U) (U) (Px×U) (λq=>ai (aD q.1 (ak c.1.1.2.1)) (aO (aF q.1 c.1.1.2.1) (aO (dg
 q.2.1.2.1 [EV (A:=sg.A) (Ty.int .i64) 0 (ae9 c q) p.2.2.1]) (Z (N (aG .i64 q.1 1,(q.2.1.1,dc q.2.1.2.1 [EV (A:=sg.A) (Ty.int .i64)
 0 (ae9 c q) p.2.2.1],q.2.1.2.2),()))))) (Z (H 0 q))) n (0,p.2.1,())) λq=>bK q (λ_ s=>Z ((av.mk s.2.1.1 s.2.1.2.1
 s.2.1.2.2.1 s.2.1.2.2.2.1 s.2.1.2.2.2.2.1,()),c)) (λ_ _=>Z ((cX,()),c)) λ_ _=>Y) (λ_ _=>Z ((cX,()),c)) λ
 _ _=>Y) (λ_ _=>Z ((cX,()),c)) λ_ _=>Y) (λ_ _=>Z ((cX,()),c)) λ_ _=>Y
def F58(n:Nat):Fn P53 K54 J:=G58 n n
def k58(n:Nat):OC:=⟨58,⟨P53,K54,J,F58 n⟩,ach [k47 n,acL n,VQ n,YK n] (E58 n).sh (E58 n).cj n (n+10) 58⟩
def F24:Nat->Y49->O Y50:=
 λn b=>ah (F99 n (b.1,())) λc=>ai (aq (aa c.1.2.1 0)) (Z ((cX,2,()),())) (ah (aQ (Y51) (Bool×U) (Y52)
 (λd=>ai (aD d.1 (ak b.1.1)) (aO (aF d.1 c.1.1) (ai (bh c.1.1 (ax d.1) aT).1 (aO (aF d.1 b.1.1) (ai (aa (bh b.1.1
 (ax d.1) bP).1 6) (aO (aF d.1 b.1.1) (Z (N (aG .i64 d.1 1,iV (A:=sg.A) (Ty.int .i64) (bh b.1.1 (ax d.1) bP).2 W
 d.2.1,())))) (Z (N (aG .i64 d.1 1,d.2))))) (Z (N (aG .i64 d.1 1,d.2))))) (Z (H 0 d))) n (0,[],())) λd=>bK
 d (λ_ g=>ah (F111 n (cJ.mk b.2.1 b.1 c.1.1 g.2.1,())) λh=>ai (aq h.1.1) (Z ((cX,2,()),())) (ah (F58 n
 (((b.2.1.1,b.2.1.2,b.2.1.3,b.2.1.4,b.2.1.5,b.1.1,b.1.2,b.1.3,b.1.4,b.1.5,c.1.1,()),()),g.2)) λi=>Z ((i.1.1,0,()),()))) (λ_ g
 =>ai (aq g.1) (Z ((cX,2,()),())) Y) λ_ _=>Y)
def k24(n:Nat):OC:=⟨24,⟨P66,K56,J,F24 n⟩,cQ [k58 n,k99 n,YN n] [(44,0,⟨[(23,dm),(0,Pj)],[.cell (.slot 19) 11],[],0⟩)] n 10 24⟩
def aa0(n:Nat):O Y38:=
 Z ((cX,ct,0,2,()),())
def F28:Nat->Y99->O Y38:=
 λn b=>ah (F99 n (b.1,())) λc=>ai (aq (aa c.1.2.1 0)) (aa0 n) (ah (aQ (Y51) (Bool×U) (Y52) (λd=>ai (aD d.1
 (ak b.1.1)) (aO (aF d.1 c.1.1) (ai (bh c.1.1 (ax d.1) aT).1 (aO (aF d.1 b.1.1) (ai (aa (bh b.1.1 (ax d.1) bP).1 6)
 (aO (aF d.1 b.1.1) (Z (N (aG .i64 d.1 1,iV (A:=sg.A) (Ty.int .i64) (bh b.1.1 (ax d.1) bP).2 W d.2.1,())))) (Z
 (N (aG .i64 d.1 1,d.2))))) (Z (N (aG .i64 d.1 1,d.2))))) (Z (H 0 d))) n (0,[],())) λd=>bK d (λ_ g=>ah
 (F111 n (cJ.mk b.2.1 b.1 c.1.1 g.2.1,())) λh=>ai (aq h.1.1) (aa0 n) (ah (F57 n (((b.2.1.1,b.2.1.2,b.2.1.3,b.2.1.4,b.2.1.5,
 b.1.1,b.1.2,b.1.3,b.1.4,b.1.5,c.1.1,()),()),g.2.1,b.2.2)) λi=>ai (aq (aa i.1.2.2.1 0)) (Z ((cX,ct,0,
 i.1.2.2),())) (ah (F49 n i.2) λj=>Z ((j.1.1,i.1.1,i.1.2.1,0,()),())))) (λ_ g=>ai (aq g.1) (aa0 n) Y) λ_ _=>Y)
def k28(n:Nat):OC:=⟨28,⟨P67,K68,J,F28 n⟩,cQ [k49 n,k57 n,k99 n,YN n] [(44,0,⟨[(23,dm),(0,Pj)],[.cell (.slot 19) 11],[],0⟩)] n 10 28⟩
def Mw(n:Nat)(c:Int×U):Y85:=
 Z (N (aG .i64 c.1 1,()))
def F302:Nat->So->HT:=
 λn b=>ah (aQ (Int×U) (Int×U) (U) (λc=>ai (aD c.1 (ak b.1)) (aO (aF c.1 b.1) (ai (aa (mP b.1 c.1) 32)
 (Mw n c) (aO (aF c.1 b.1) (ai (aa (mP b.1 c.1) 9) (Mw n c) (aO (aF c.1 b.1) (ai (aa (mP b.1 c.1) 10) (Mw n c) (ai (br
 2 (aZ .i64 (ak b.1) c.1)) (aO (ez c.1 (aG .i64 c.1 2) (ak b.1)) (ai (gw (cL b.1 c.1 (aG .i64 c.1 2)) [47,47]) (ah (aQ (Int×
 U) (Int×U) (U) (λd=>ai (aD d.1 (ak b.1)) (aO (aF d.1 b.1) (ai (aq (aa (mP b.1 d.1) 10)) (Mw n d) (Z
 (H 0 d)))) (Z (H 0 d))) n c) λd=>bK d (λ_ g=>Z (N g)) (λ_ g=>Z (X () g)) λ_ _=>Y) (Z (X
 () c)))) (Z (X () c))))))))) (Z (H 0 c))) n b.2) λc=>bK c (λ_ e=>Z (e,())) (λ_ e=>Z (e,())) λ_ _=>Y
def ao8(n:Nat):OC:=⟨302,⟨P69,K2,J,F302 n⟩,cQ [] [(302,0,⟨[(1,dm)],[],[],0⟩),(302,2,⟨[(1,dm)],[],[],0⟩)] n 10 302⟩
def F141:Nat->amv->O Y4:=
 λn b=>ah (aQ (Int×U) (Bool×U) (U) (λc=>ai (aD c.1 (ak b.1)) (aO (aF c.1 b.1) (ai (gw (bh b.1 (ax c.1)
 []) b.2.1) (Z (X () (W,()))) (Z (N (aG .i64 c.1 1,()))))) (Z (H 0 c))) n (0,())) λc=>bK c (λ_ _=>Z
 ((J,()),())) (λ_ e=>Z (e,())) λ_ _=>Y
def acM(n:Nat):OC:=⟨141,⟨P70,K4,J,F141 n⟩,cQ [] [(141,0,⟨[(5,dm)],[],[],0⟩)] n 10 141⟩
def F308:Nat->U->PD:=
 λn _=>Z (([[98,111,111,108],[99,101,108,108],[99,104,97,110],[101,108,115,101],[102,97,108,115,101],[102,117,110],[103,
 101,116],[105,102],[105,110],[105,110,112,117,116],[105,110,116],[106,111,105,110],[108,101,116],[109,97,116,99,104],[109,
 111,100,117,108,101],[111,117,116],[112,97,117,115,101],[112,117,116],[114,101,115,101,116],[115,101,110,100],[115,104,105,
 102,116],[115,112,97,119,110],[116,97,107,101],[116,97,115,107],[116,104,101,110],[116,114,117,101],[116,121,112,101],[117,
 110,105,116]],()),())
def ao6(n:Nat):OC:=⟨308,⟨[],K71,J,F308 n⟩,cQ [] [] n 10 308⟩
def F276:Y62:=
 λn b=>ah (F308 n ()) λc=>ah (F141 n (c.1.1,b)) λd=>Z d
def ajJ(n:Nat):OC:=⟨276,⟨P7,K4,J,F276 n⟩,cQ [acM n,ao6 n] [] n 10 276⟩
def F317:Y5:=
 λn b=>ai (br 97 b.1) (Z ((br b.1 122,()),())) (Z ((J,()),()))
def ajG(n:Nat):OC:=⟨317,⟨P72,K4,J,F317 n⟩,cQ [] [] n 10 317⟩
def F320:Y5:=
 λn b=>ai (br 48 b.1) (Z ((br b.1 57,()),())) (Z ((J,()),()))
def ajE(n:Nat):OC:=⟨320,⟨P72,K4,J,F320 n⟩,cQ [] [] n 10 320⟩
def aaW(n:Nat)(b:amo)(c:Int×U):Y85:=
 ai (aq b.2.2.1) (aO (aF c.1 b.1) (ah (F317 n (mP b.1 c.1,())) λe=>ai e.1.1 (Z (N (aG .i64 c.1 1,()))) (Z (H 0
 c)))) (Z (H 0 c))
def F318:Nat->amo->HT:=
 λn b=>ah (aQ (Int×U) (Int×U) (U) (λc=>ai (aD c.1 (ak b.1)) (ai b.2.2.1 (aO (aF c.1 b.1) (ah (F320 n (mP
 b.1 c.1,())) λd=>ai d.1.1 (Z (N (aG .i64 c.1 1,()))) (aaW n b c))) (aaW n b c)) (Z (H 0 c))) n (b.2.1,())) λc=>
 bK c (λ_ e=>Z ((aZ .i64 e.1 b.2.1,()),())) (λ_ e=>Z (e,())) λ_ _=>Y
def ajF(n:Nat):OC:=⟨318,⟨P73,K2,J,F318 n⟩,cQ [ajG n,ajE n] [(318,0,⟨[(7,dm)],[],[],0⟩)] n 10 318⟩
def F319:Y5:=
 λn b=>ai (br 65 b.1) (Z ((br b.1 90,()),())) (Z ((J,()),()))
def ao3(n:Nat):OC:=⟨319,⟨P72,K4,J,F319 n⟩,cQ [] [] n 10 319⟩
def F321:Nat->So->HT:=
 λn b=>aO (aF b.2.1 b.1) (ah (ai (aa (mP b.1 b.2.1) 126) (Z (N (aG .i64 b.2.1 1,W,()))) (Z (N (b.2.1,J,
 ())))) λ(c:Y98)=>cr c (λd=>ah (F318 n (b.1,d.1,W,())) λe=>ai (aa e.1.1 0) (Z ((0,()),())) (ai (aD 10 e.1.1)
 (Z ((0,()),())) (aO (aF d.1 b.1) (ai (aa (mP b.1 d.1) 48) (ai (aD 1 e.1.1) (Z ((0,()),())) (ai (aD b.2.1 d.1) (Z ((0,
 ()),())) (Z ((aG .i64 (aZ .i64 d.1 b.2.1) e.1.1,()),())))) (Z ((aG .i64 (aZ .i64 d.1 b.2.1) e.1.1,()),())))))) (λ_ _=>
 Y) (λ_ e=>Z (e,())) λ_ _=>Y)
def ao2(n:Nat):OC:=⟨321,⟨P69,K2,J,F321 n⟩,cQ [ajF n] [(321,1000003,⟨[(5,dm),(11,di)],[],[],0⟩)] n 10 321⟩
abbrev XK(F:Fn P7 K2 J):lJ sg:=⟨P7,K2,J,F⟩
def B322:Nat->(L UInt8×U->HT)->L UInt8×U->HT:=
 λn f322 c=>aO (aF 0 c.1) (ai (aa (mP c.1 0) 126) (aO (ez 1 (ak c.1) (ak c.1)) (ah (f322 (cL c.1 1 (ak c.1),())) λd=>
 Z ((Qi .i64 d.1.1,()),()))) (ah (aQ (Int×Int×U) (Int×U) (U) (λd=>ai (aD d.2.1 (ak c.1)) (aO (aF d.2.1
 c.1) (Z (N (aG .i64 (Im .i64 10 d.1) (SN .i64 (aZ .u8 (mP c.1 d.2.1) 48)),aG .i64 d.2.1 1,())))) (Z (H 0 d))) n
 (0,0,())) λd=>bK d (λ_ g=>Z ((g.1,()),())) (λ_ g=>Z (g,())) λ_ _=>Y))
def D322(n:Nat)(f322:Fn P7 K2 J)(a:bG prog 322 (XK f322)):bG prog 322 (XK (B322 n f322)):=cQ [⟨322,XK f322,a⟩] [(322,0,⟨[(3,dm),(4,dm)],[],[],0⟩)] n 10 322
def R322(n k:Nat):(Fn P7 K2 J):=Nat.rec (motive:=λ_=>(Fn P7 K2 J)) (λ_=>Y) (λ_ r=>B322 n r) k
def F322(n:Nat):Fn P7 K2 J:=(R322 n n)
def afd(n:Nat):∀k,bG prog 322 (XK (R322 n k))
 |0=>cw (enters 322 (by kernel_rfl))
 |k+1=>have a:=afd n k
  D322 n _ a
def ao1(n:Nat):OC:=⟨322,XK (F322 n),(afd n n)⟩
def F329:Nat->U->PD:=
 λn _=>Z (([[61,62],[61,61],[45,62],[61],[60],[43],[45],[42],[40],[41],[123],[125],[124],[44],[59],[58],[95],[63]],()),())
def aoX(n:Nat):OC:=⟨329,⟨[],K71,J,F329 n⟩,cQ [] [] n 10 329⟩
def F323:Nat->So->O ((L UInt8×U)×U):=
 λn b=>ah (F329 n ()) λc=>ah (aQ (Int×U) (L UInt8×U) (U) (λd=>ai (aD d.1 (ak c.1.1)) (aO (aF d.1
 c.1.1) (ai (br (ak (bh c.1.1 (ax d.1) [])) (aZ .i64 (ak b.1) b.2.1)) (aO (aF d.1 c.1.1) (aO (ez b.2.1 (aG .i64 b.2.1 (ak (bh
 c.1.1 (ax d.1) []))) (ak b.1)) (aO (aF d.1 c.1.1) (ai (gw (cL b.1 b.2.1 (aG .i64 b.2.1 (ak (bh c.1.1 (ax d.1) [])))) (bh c.1.1
 (ax d.1) [])) (aO (aF d.1 c.1.1) (Z (X () (bh c.1.1 (ax d.1) [],())))) (Z (N (aG .i64 d.1 1,()))))))) (Z (N
 (aG .i64 d.1 1,()))))) (Z (H 0 d))) n (0,())) λd=>bK d (λ_ _=>Z (([],()),())) (λ_ g=>Z (g,())) λ_ _=>Y
def ao0(n:Nat):OC:=⟨323,⟨P69,K74,J,F323 n⟩,cQ [aoX n] [(323,0,⟨[(6,dm)],[],[],0⟩)] n 10 323⟩
def SH(b:So)(d:(Int×U)×U):Bool:=
 ez b.2.1 (aG .i64 b.2.1 d.1.1) (ak b.1)
def zU(b:So)(d:(Int×U)×U):L UInt8:=
 cL b.1 b.2.1 (aG .i64 b.2.1 d.1.1)
def SG(n:Nat):Bool×ahD×U->ahC:=
 λh=>Z ((fR.mk h.2.1.1 h.2.1.2.1 h.2.1.2.2.1 h.2.1.2.2.2.1,()),())
def aaY(n:Nat)(b:So):ahC:=
 ah (F321 n b) λg=>ah (ai (aD 0 g.1.1) (aO (SH b g) (aO (SH b g) (ah (F322 n (zU b g,())) λh=>Z (N (W,(4,
 zU b g,h.1.1,b.2),()))))) (Z (N (J,(0,[],0,b.2),())))) λ(h:adU)=>cr h (SG n) (λ_ _=>Y) (λ_ _=>Z
 ((dM,()),())) λ_ _=>Y
def F303:Nat->So->ahC:=
 λn b=>aO (aF b.2.1 b.1) (ah (F317 n (mP b.1 b.2.1,())) λc=>ai c.1.1 (ah (F318 n (b.1,b.2.1,J,())) λd=>aO (SH b d)
 (ah (F276 n (zU b d,())) λe=>ah (ai e.1.1 (Z (N (W,(3,zU b d,0,b.2),()))) (ah (ai (br (ak (zU b d)) 8)
 (Z (N (W,(1,zU b d,0,b.2),()))) (Z (N (J,(0,zU b d,0,b.2),())))) λ(g:adU)=>cr g (λh=>Z
 (N (J,h.2))) (λ_ _=>Y) (λh _=>Z (X h ())) λ_ _=>Y)) λ(g:adU)=>cr g (SG n) (λ_ _=>Y) (λ
 _ _=>Z ((dM,()),())) λ_ _=>Y)) (aO (aF b.2.1 b.1) (ah (F319 n (mP b.1 b.2.1,())) λd=>ai d.1.1 (ah (F318 n (b.1,
 aG .i64 b.2.1 1,J,())) λe=>aO (ez b.2.1 (aG .i64 (aG .i64 b.2.1 1) e.1.1) (ak b.1)) (ah (ai (br (ak (cL b.1 b.2.1
 (aG .i64 (aG .i64 b.2.1 1) e.1.1))) 8) (Z (N (W,(2,cL b.1 b.2.1 (aG .i64 (aG .i64 b.2.1 1) e.1.1),0,b.2),()))) (Z
 (N (J,(0,cL b.1 b.2.1 (aG .i64 (aG .i64 b.2.1 1) e.1.1),0,b.2),())))) λ(g:adU)=>cr g (SG n) (λ_ _=>Y)
 (λ_ _=>Z ((dM,()),())) λ_ _=>Y)) (aO (aF b.2.1 b.1) (ah (F320 n (mP b.1 b.2.1,())) λe=>ai e.1.1 (aaY n b)
 (aO (aF b.2.1 b.1) (ai (aa (mP b.1 b.2.1) 126) (aaY n b) (ah (F323 n b) λg=>ai (aq (gw g.1.1 [])) (Z ((fR.mk 5 g.1.1
 0 b.2.1,()),())) (Z ((fR.mk 0 g.1.1 0 b.2.1,()),()))))))))))
def ao7(n:Nat):OC:=⟨303,⟨P69,K75,J,F303 n⟩,cQ [ajJ n,ajG n,ajF n,ao3 n,ajE n,ao2 n,ao1 n,ao0 n] [(303,1000005,⟨[(24,di),(0,adN)],[.slot 5],[],0⟩),(303,1000007,⟨[(29,di),(0,adN)],[.slot 5],[],0⟩),(303,1000012,⟨[(50,di),(0,adN)],[.slot 5],[],0⟩),(303,1000017,⟨[(67,di),(0,adN)],[.slot 5],[],0⟩)] n 10 303⟩
def F270:amL:=
 λn b=>ah (F302 n (b.1,0,())) λc=>ah (aQ (ahQ) (ahQ) (U) (λd=>ai (aD d.2.1 (ak b.1)) (ah (F303 n (b.1,d.2)) λ
 e=>ai (aa e.1.1.1 0) (Z (X () d)) (aO (dg d.1 [e.1.1]) (ah (F302 n (b.1,aG .i64 d.2.1 (ak e.1.1.2),())) λg=>Z (N
 (dc d.1 [e.1.1],g.1))))) (Z (H 0 d))) n ([],c.1)) λd=>bK d (λ_ g=>Z ((g.1,ak b.1,()),())) (λ_ g=>Z (g,()))
 λ_ _=>Y
def aph(n:Nat):OC:=⟨270,⟨P7,K76,J,F270 n⟩,cQ [ao8 n,ao7 n] [(270,0,⟨[(4,.one (.own (.st 35))),(5,dm)],[],[],0⟩)] n 10 270⟩
def F202:amL:=
 λn b=>ai (aD 8000 (ak b.1)) (Z (([],3,()),())) (ah (F270 n b) λc=>ai (aD c.1.2.1 (ak b.1)) (Z (([],4,()),())) (Z
 ((c.1.1,0,()),())))
def apy(n:Nat):OC:=⟨202,⟨P7,K76,J,F202 n⟩,cQ [aph n] [] n 10 202⟩
def F272:Nat->bO×L UInt8×U->O Y4:=
 λn b=>ai b.1.3 (Z ((J,()),())) (ai (br (ak b.1.1) b.1.2) (Z ((J,()),())) (aO (aF b.1.2 b.1.1) (ai (aa (bh b.1.1
 (ax b.1.2) dM).1 5) (Z ((gw (bh b.1.1 (ax b.1.2) dM).2 b.2.1,()),())) (ai (aa (bh b.1.1 (ax b.1.2) dM).1 3)
 (Z ((gw (bh b.1.1 (ax b.1.2) dM).2 b.2.1,()),())) (Z ((J,()),()))))))
def aga(n:Nat):OC:=⟨272,⟨P77,K4,J,F272 n⟩,cQ [] [] n 10 272⟩
def F205:Nat->amI->O ahI:=
 λn b=>ah (F272 n (bO.mk b.1.1 b.1.2.1 b.1.2.2.1,b.2)) λc=>ai c.1.1 (Z (c.1,(b.1.1,aG .i64 b.1.2.1 1,b.1.2.2),()))
 (Z (c.1,b.1,()))
def GD(n:Nat):OC:=⟨205,⟨P78,K4,J,F205 n⟩,cQ [aga n] [] n 10 205⟩
def F203:Nat->amI->ad4:=
 λn b=>ah (F205 n b) λc=>ai (aq c.1.1) (Z ((),(c.2.1.1,c.2.1.2.1,W,()),())) (Z ((),c.2))
def GF(n:Nat):OC:=⟨203,⟨P78,[],J,F203 n⟩,cQ [GD n] [] n 10 203⟩
def F271:Nat->bO×Int×U->O Y4:=
 λn b=>ai (aq b.1.3) (ai (aD b.1.2 (ak b.1.1)) (aO (aF b.1.2 b.1.1) (Z ((aa (bh b.1.1 (ax b.1.2) dM).1 b.2.1,()),
 ()))) (Z ((J,()),()))) (Z ((J,()),()))
def agb(n:Nat):OC:=⟨271,⟨P79,K4,J,F271 n⟩,cQ [] [] n 10 271⟩
def F204:Nat->lN×Int×U->O ((fR×U)×lN×U):=
 λn b=>ah (F271 n (bO.mk b.1.1 b.1.2.1 b.1.2.2.1,b.2)) λc=>ai (aq c.1.1) (Z ((dM,()),(b.1.1,b.1.2.1,W,
 ()),())) (aO (aF b.1.2.1 b.1.1) (Z ((bh b.1.1 (ax b.1.2.1) dM,()),(b.1.1,aG .i64 b.1.2.1 1,b.1.2.2),())))
def LB(n:Nat):OC:=⟨204,⟨PG,K75,J,F204 n⟩,cQ [agb n] [] n 10 204⟩
abbrev QV(F:Fn mj K82 J):lJ sg:=⟨mj,K82,J,F⟩
def SV(e:PC):cI:=
 cI.mk e.1.1.1 e.1.1.2 e.1.1.3 e.1.1.4
def B273:Nat->aav->aav->lN×U->O PC:=
 λn f273 f304 d=>ah (f304 d) λe=>ah (F205 n (e.2.1,[45,62],())) λg=>ai g.1.1 (ah (f273 g.2) λh=>Z ((cI.mk 4 0 []
 [SV e,SV h],()),h.2)) (Z ((SV e,()),g.2))
abbrev Vj(F:Fn mj K82 J):lJ sg:=⟨mj,K82,J,F⟩
def SU(n:Nat)(f273:aav)(f324:aml):PC->O PC:=
 λj=>Z ((cI.mk j.1.1.1 j.1.1.2 j.1.1.3 j.1.1.4,()),j.2)
def B304:Nat->aav->aml->lN×U->O PC:=
 λn f273 f324 d=>ah (F205 n (d.1,[105,110,116],())) λe=>ai e.1.1 (Z ((cI.mk 1 0 [] [],()),e.2)) (ah (F205 n (e.2.1,[98,
 111,111,108],())) λg=>ai g.1.1 (Z ((cI.mk 2 0 [] [],()),g.2)) (ah (F205 n (g.2.1,[117,110,105,116],())) λh=>ai h.1.1
 (Z ((cI.mk 3 0 [] [],()),h.2)) (ah (F205 n (h.2.1,[99,101,108,108],())) λi=>ai i.1.1 (ah (f324 (i.2.1,5,())) (SU n f273
 f324)) (ah (F205 n (i.2.1,[99,104,97,110],())) λj=>ai j.1.1 (ah (f324 (j.2.1,6,())) (SU n f273 f324)) (ah (F205 n (j.2.1,[116,97,
 115,107],())) λk=>ai k.1.1 (ah (f324 (k.2.1,7,())) (SU n f273 f324)) (ah (F205 n (k.2.1,[63],())) λl=>ai l.1.1 (ah (F204 n
 (l.2.1,4,())) λm=>Z ((cI.mk 9 m.1.1.3 [] [],()),m.2)) (ah (F205 n (l.2.1,[40],())) λm=>ai m.1.1 (ah (f273 m.2) λo=>ah
 (F203 n (o.2.1,[41],())) λp=>Z ((cI.mk o.1.1.1 o.1.1.2 o.1.1.3 o.1.1.4,()),p.2)) (ah (F204 n (m.2.1,2,())) λo=>Z
 ((cI.mk 8 0 o.1.1.2 [],()),o.2)))))))))
abbrev abZ(F:Fn PG K82 J):lJ sg:=⟨PG,K82,J,F⟩
def B324:Nat->aav->lN×Int×U->O PC:=
 λn f304 c=>ah (f304 (c.1,())) λd=>Z ((cI.mk c.2.1 0 [] [cI.mk d.1.1.1 d.1.1.2 d.1.1.3 d.1.1.4],()),d.2)
def D273(n:Nat)(f273:Fn mj K82 J)(f304:Fn mj K82 J)(a:bG prog 273 (QV f273))(b:bG prog 304 (Vj f304)):bG prog 273 (QV (B273 n f273 f304)):=cQ [GD n,⟨273,QV f273,a⟩,⟨304,Vj f304,b⟩] [] n 10 273
def D304(n:Nat)(f273:Fn mj K82 J)(f324:Fn PG K82 J)(a:bG prog 273 (QV f273))(b:bG prog 324 (abZ f324)):bG prog 304 (Vj (B304 n f273 f324)):=cQ [GF n,LB n,GD n,⟨273,QV f273,a⟩,⟨324,abZ f324,b⟩] [] n 10 304
def D324(n:Nat)(f304:Fn mj K82 J)(a:bG prog 304 (Vj f304)):bG prog 324 (abZ (B324 n f304)):=cQ [⟨304,Vj f304,a⟩] [] n 10 324
def R273(n k:Nat):(Fn mj K82 J)×(Fn mj K82 J)×(Fn PG K82 J):=Nat.rec (motive:=λ_=>(Fn mj K82 J)×(Fn mj K82 J)×(Fn PG K82 J)) ((λ_=>Y,λ_=>Y,λ_=>Y)) (λ_ r=>(B273 n r.1 r.2.1,B304 n r.1 r.2.2,B324 n r.2.1)) k
def F273(n:Nat):Fn mj K82 J:=(R273 n n).1
def afl(n:Nat):∀k,bG prog 273 (QV (R273 n k).1)/\bG prog 304 (Vj (R273 n k).2.1)/\bG prog 324 (abZ (R273 n k).2.2)
 |0=>⟨cw (enters 273 (by kernel_rfl)),cw (enters 304 (by kernel_rfl)),cw (enters 324 (by kernel_rfl))⟩
 |k+1=>have a:=afl n k
  ⟨D273 n _ _ a.1 a.2.1,D304 n _ _ a.1 a.2.2,D324 n _ a.2.1⟩
def ajL(n:Nat):OC:=⟨273,QV (F273 n),(afl n n).1⟩
def F206:Nat->lN×U->O ((kL×U)×lN×U):=
 λn b=>ah (F204 n (b.1,2,())) λc=>ah (F203 n (c.2.1,[61],())) λd=>ah (aQ (Bool×lN×amr×U) (U) (lN×amr×U) (λe=>ai e.1 (ai (aq e.2.1.2.2.1) (ah (F204 n (e.2.1,2,())) λg=>ah (F205 n (g.2.1,[40],())) λh=>ah (ai h.1.1 (ah
 (aQ (amp) (U) (lN×ahJ×U) (λi=>ai i.1 (ai (aq i.2.1.2.2.1) (ah (F273 n (i.2.1,())) λj=>aO (dg i.2.2.1.2.1
 [cI.mk j.1.1.1 j.1.1.2 j.1.1.3 j.1.1.4]) (ah (F205 n (j.2.1,[44],())) λk=>Z (N (k.1.1,k.2.1,(i.2.2.1.1,dc i.2.2.1.2.1
 [cI.mk j.1.1.1 j.1.1.2 j.1.1.3 j.1.1.4],()),())))) (Z (H 0 i))) (Z (H 0 i))) n (W,h.2.1,(g.1.1.2,[],()),())) λi=>
 bK i (λ_ k=>ah (F203 n (k.2.1,[41],())) λl=>Z (N (W,l.2.1,k.2.2))) (λj _=>Z (X j ())) λ_ _=>Y) (Z
 (N (J,h.2.1,(g.1.1.2,[],()),())))) λ(i:LO amp U (lN×ahJ×U) Any)=>cr i (λj=>aO (dg e.2.2.1.2.1
 [iR.mk j.2.2.1.1 j.2.2.1.2.1]) (ah (F205 n (j.2.1,[124],())) λk=>Z (N (k.1.1,k.2.1,(e.2.2.1.1,dc e.2.2.1.2.1
 [iR.mk j.2.2.1.1 j.2.2.1.2.1],()),())))) (λ_ _=>Y) (λj _=>Z (X (j.1,e.2.2) ())) λ_ _=>Y) (Z (H 0 e)))
 (Z (H 0 e))) n (W,d.2.1,(c.1.1.2,[],()),())) λe=>bK e (λ_ h=>ah (F203 n (h.2.1,[59],())) λi=>Z ((kL.mk
 h.2.2.1.1 h.2.2.1.2.1,()),i.2)) (λg _=>Z ((mJ,()),g.1,())) λ_ _=>Y
def apx(n:Nat):OC:=⟨206,⟨mj,K83,J,F206 n⟩,cQ [GF n,LB n,GD n,ajL n] [(206,0,⟨[(4,di),(0,yA),(0,.box (.cells [.dat (.str),.own (.st 19)]))],[.slot 0,.slot 3],[],0⟩),(206,2,⟨[(6,di),(0,yA),(0,alZ)],[.slot 0,.slot 5],[],0⟩),(206,1000007,⟨[(27,di),(0,yA),(0,alZ)],[.slot 0,.slot 5],[],0⟩)] n 10 206⟩
def F307:Nat->Int×Term×Term×U->O Y16:=
 λn b=>Z ((Term.mk b.1 0 [] [Term.mk b.2.1.1 b.2.1.2 b.2.1.3 b.2.1.4 b.2.1.5,Term.mk b.2.2.1.1 b.2.2.1.2 b.2.2.1.3 b.2.2.1.4 b.2.2.1.5] [],
 ()),())
def acE(n:Nat):OC:=⟨307,⟨P84,K85,J,F307 n⟩,cQ [] [] n 10 307⟩
abbrev XI(F:Fn mj K86 J):lJ sg:=⟨mj,K86,J,F⟩
def B337:Nat->(lN×U->O Y20)->lN×U->O Y20:=
 λn f337 c=>ah (F205 n (c.1,[95],())) λd=>ai d.1.1 (Z ((aB.mk 1 0 [] [],()),d.2)) (ah (F271 n (bO.mk d.2.1.1
 d.2.1.2.1 d.2.1.2.2.1,1,())) λe=>ai e.1.1 (ah (F204 n (d.2.1,1,())) λg=>Z ((aB.mk 2 0 g.1.1.2 [],()),g.2)) (ah (F271 n
 (bO.mk d.2.1.1 d.2.1.2.1 d.2.1.2.2.1,4,())) λg=>ai g.1.1 (ah (F204 n (d.2.1,4,())) λh=>Z ((aB.mk 3 h.1.1.3 []
 [],()),h.2)) (ah (F205 n (d.2.1,[116,114,117,101],())) λh=>ai h.1.1 (Z ((aB.mk 4 1 [] [],()),h.2)) (ah (F205 n (h.2.1,[102,
 97,108,115,101],())) λi=>ai i.1.1 (Z ((aB.mk 4 0 [] [],()),i.2)) (ah (F205 n (i.2.1,[40],())) λj=>ai j.1.1 (ah (F203 n
 (j.2.1,[41],())) λk=>Z ((aB.mk 5 0 [] [],()),k.2)) (ah (F204 n (j.2.1,2,())) λk=>ah (F205 n (k.2.1,[40],())) λl=>ai
 l.1.1 (ah (aQ (Bool×lN×Y87×U) (U) (lN×Y87×U) (λm=>ai m.1 (ai (aq m.2.1.2.2.1) (ah (f337 (m.2.1,())) λo
 =>aO (dg m.2.2.1.2.2.2.1 [aB.mk o.1.1.1 o.1.1.2 o.1.1.3 o.1.1.4]) (ah (F205 n (o.2.1,[44],())) λp=>Z (N (p.1.1,p.2.1,
 (m.2.2.1.1,m.2.2.1.2.1,m.2.2.1.2.2.1,dc m.2.2.1.2.2.2.1 [aB.mk o.1.1.1 o.1.1.2 o.1.1.3 o.1.1.4],()),())))) (Z (H 0 m))) (Z
 (H 0 m))) n (W,l.2.1,(6,0,k.1.1.2,[],()),())) λm=>bK m (λ_ p=>ah (F203 n (p.2.1,[41],())) λq=>Z ((aB.mk
 p.2.2.1.1 p.2.2.1.2.1 p.2.2.1.2.2.1 p.2.2.1.2.2.2.1,()),q.2)) (λo _=>Z ((aK,()),o.1,())) λ_ _=>Y) (Z ((aB.mk 6 0
 k.1.1.2 [],()),l.2))))))))
def D337(n:Nat)(f337:Fn mj K86 J)(a:bG prog 337 (XI f337)):bG prog 337 (XI (B337 n f337)):=cQ [GF n,LB n,GD n,agb n,⟨337,XI f337,a⟩] [(337,1,⟨[(4,di),(0,yA),(0,ahv)],[.slot 0,.slot 3],[],0⟩)] n 10 337
def R337(n k:Nat):(Fn mj K86 J):=Nat.rec (motive:=λ_=>(Fn mj K86 J)) (λ_=>Y) (λ_ r=>B337 n r) k
def F337(n:Nat):Fn mj K86 J:=(R337 n n)
def afb(n:Nat):∀k,bG prog 337 (XI (R337 n k))
 |0=>cw (enters 337 (by kernel_rfl))
 |k+1=>have a:=afb n k
  D337 n _ a
def aoV(n:Nat):OC:=⟨337,XI (F337 n),(afb n n)⟩
def F336:Nat->L UInt8×U->O Y59:=
 λn b=>ai (gw b.1 [99,101,108,108]) (Z ((16,1,()),())) (ai (gw b.1 [103,101,116]) (Z ((17,1,()),())) (ai (gw b.1 [112,
 117,116]) (Z ((18,2,()),())) (ai (gw b.1 [115,112,97,119,110]) (Z ((19,1,()),())) (ai (gw b.1 [106,111,105,110]) (Z ((20,
 1,()),())) (ai (gw b.1 [99,104,97,110]) (Z ((21,0,()),())) (ai (gw b.1 [115,101,110,100]) (Z ((22,2,()),())) (ai (gw b.1
 [116,97,107,101]) (Z ((23,1,()),())) (ai (gw b.1 [111,117,116]) (Z ((24,(-1),()),())) (ai (gw b.1 [105,110,112,117,116])
 (Z ((25,0,()),())) (ai (gw b.1 [114,101,115,101,116]) (Z ((26,1,()),())) (ai (gw b.1 [112,97,117,115,101]) (Z ((28,0,
 ()),())) (Z ((0,0,()),())))))))))))))
def ajD(n:Nat):OC:=⟨336,⟨P7,K16,J,F336 n⟩,cQ [] [] n 10 336⟩
def F332:amz:=
 λn b=>ai b.1.3 (Z ((J,()),())) (ai (br (ak b.1.1) b.1.2) (Z ((J,()),())) (aO (aF b.1.2 b.1.1) (ai (aa (bh b.1.1
 (ax b.1.2) dM).1 3) (ah (F336 n ((bh b.1.1 (ax b.1.2) dM).2,())) λc=>ai (aq (aa c.1.1 0)) (Z ((W,()),()))
 (ai (gw (bh b.1.1 (ax b.1.2) dM).2 [116,114,117,101]) (Z ((W,()),())) (ai (gw (bh b.1.1 (ax b.1.2) dM).2 [102,
 97,108,115,101]) (Z ((W,()),())) (Z ((gw (bh b.1.1 (ax b.1.2) dM).2 [109,97,116,99,104],()),()))))) (ai (aq
 (aa (bh b.1.1 (ax b.1.2) dM).1 5)) (Z ((W,()),())) (Z ((gw (bh b.1.1 (ax b.1.2) dM).2 [40],()),()))))))
def aoW(n:Nat):OC:=⟨332,⟨P87,K4,J,F332 n⟩,cQ [ajD n] [] n 10 332⟩
abbrev zn(F:Fn mj K85 J):lJ sg:=⟨mj,K85,J,F⟩
def o7(h:MX):Term:=
 Term.mk h.1.1.1 h.1.1.2 h.1.1.3 h.1.1.4 h.1.1.5
def abh(o:Y16):Term:=
 Term.mk o.1.1.1 o.1.1.2 o.1.1.3 o.1.1.4 o.1.1.5
def B274:Nat->MW->(lN×Int×U->O MX)->MW->lN×U->O MX:=
 λn f274 f305 f306 e=>ah (F205 n (e.1,[102,117,110],())) λg=>ai g.1.1 (ah (f305 (g.2.1,5,())) λh=>Z ((o7 h,()),h.2))
 (ah (F205 n (g.2.1,[115,104,105,102,116],())) λh=>ai h.1.1 (ah (f305 (h.2.1,27,())) λi=>Z ((o7 i,()),i.2)) (ah (F205 n
 (h.2.1,[108,101,116],())) λi=>ai i.1.1 (ah (F204 n (i.2.1,1,())) λj=>ah (F203 n (j.2.1,[61],())) λk=>ah (f274 k.2) λl=>
 ah (F203 n (l.2.1,[105,110],())) λm=>ah (f274 m.2) λo=>Z ((Term.mk 7 0 j.1.1.2 [o7 l,o7 o] [],()),o.2)) (ah (F205 n
 (i.2.1,[105,102],())) λj=>ai j.1.1 (ah (f274 j.2) λk=>ah (F203 n (k.2.1,[116,104,101,110],())) λl=>ah (f274 l.2) λm=>
 ah (F203 n (m.2.1,[101,108,115,101],())) λo=>ah (f274 o.2) λp=>Z ((Term.mk 8 0 [] [o7 k,o7 m,o7 p] [],()),p.2))
 (ah (f306 j.2) λk=>ah (F205 n (k.2.1,[60],())) λl=>ai l.1.1 (ah (f306 l.2) λm=>ah (F307 n (12,o7 k,o7 m,())) λo=>
 Z ((abh o,()),m.2)) (ah (F205 n (l.2.1,[61,61],())) λm=>ai m.1.1 (ah (f306 m.2) λo=>ah (F307 n (13,o7 k,o7 o,()))
 λp=>Z ((abh p,()),o.2)) (Z ((o7 k,()),m.2)))))))
abbrev ab1(F:Fn PG K85 J):lJ sg:=⟨PG,K85,J,F⟩
def B305:Nat->MW->lN×Int×U->O MX:=
 λn f274 c=>ah (F204 n (c.1,1,())) λd=>ah (F203 n (d.2.1,[61,62],())) λe=>ah (f274 e.2) λg=>Z ((Term.mk c.2.1 0 d.1.1.2
 [Term.mk g.1.1.1 g.1.1.2 g.1.1.3 g.1.1.4 g.1.1.5] [],()),g.2)
abbrev ab0(F:Fn mj K85 J):lJ sg:=⟨mj,K85,J,F⟩
def abg(e:lN×I8×U):Term:=
 Term.mk e.2.1.1 e.2.1.2.1 e.2.1.2.2.1 e.2.1.2.2.2.1 e.2.1.2.2.2.2.1
def ah8(l:Y16):I8×U:=
 ((l.1.1.1,l.1.1.2,l.1.1.3,l.1.1.4,l.1.1.5,()),())
def abf(n:Nat)(f325:MW)(e:lN×I8×U):O (LO (lN×I8×U) U (lN×I8×U) Any):=
 ah (F272 n (bO.mk e.1.1 e.1.2.1 e.1.2.2.1,[43],())) λh=>ah (ai h.1.1 (Z (N (9,W,()))) (Z (N (10,J,
 ())))) λ(i:Y54)=>cr i (λj=>ah (f325 ((e.1.1,aG .i64 e.1.2.1 1,e.1.2.2),())) λk=>ah (F307 n (j.1,abg e,Term.mk k.1.1.1
 k.1.1.2 k.1.1.3 k.1.1.4 k.1.1.5,())) λl=>Z (N (k.2.1,ah8 l))) (λ_ _=>Y) (λ_ _=>Z (X e ())) λ_ _=>Y
def ah7(d:MX):I8×U:=
 ((d.1.1.1,d.1.1.2,d.1.1.3,d.1.1.4,d.1.1.5,()),())
def B306:Y19:=
 λn f325 c=>ah (f325 c) λd=>ah (aQ (lN×I8×U) (U) (lN×I8×U) (λe=>ai (aq e.1.2.2.1) (ah (F272 n
 (bO.mk e.1.1 e.1.2.1 e.1.2.2.1,[43],())) λg=>ai g.1.1 (abf n f325 e) (ah (F272 n (bO.mk e.1.1 e.1.2.1
 e.1.2.2.1,[45],())) λh=>ai h.1.1 (abf n f325 e) (Z (H 0 e)))) (Z (H 0 e))) n (d.2.1,ah7 d)) λe=>bK e (λ_ h=>
 Z ((abg h,()),h.1,())) (λg _=>Z ((sd,()),g.1,())) λ_ _=>Y
abbrev abY(F:Fn mj K85 J):lJ sg:=⟨mj,K85,J,F⟩
def abe(e:lN×I8×U):Term:=
 Term.mk e.2.1.1 e.2.1.2.1 e.2.1.2.2.1 e.2.1.2.2.2.1 e.2.1.2.2.2.2.1
def ah6(i:Y16):I8×U:=
 ((i.1.1.1,i.1.1.2,i.1.1.3,i.1.1.4,i.1.1.5,()),())
def ah5(d:MX):I8×U:=
 ((d.1.1.1,d.1.1.2,d.1.1.3,d.1.1.4,d.1.1.5,()),())
def B325:Y19:=
 λn f330 c=>ah (f330 c) λd=>ah (aQ (lN×I8×U) (U) (lN×I8×U) (λe=>ah (F205 n (e.1,[42],())) λg=>ai
 g.1.1 (ah (f330 g.2) λh=>ah (F307 n (11,abe e,Term.mk h.1.1.1 h.1.1.2 h.1.1.3 h.1.1.4 h.1.1.5,())) λi=>Z (N (h.2.1,ah6
 i))) (Z (H 0 (g.2.1,e.2)))) n (d.2.1,ah5 d)) λe=>bK e (λ_ h=>Z ((abe h,()),h.1,())) (λg _=>Z ((sd,()),
 g.1,())) λ_ _=>Y
abbrev abX(F:Fn mj K85 J):lJ sg:=⟨mj,K85,J,F⟩
def abd(e:lN×I8×U):Term:=
 Term.mk e.2.1.1 e.2.1.2.1 e.2.1.2.2.1 e.2.1.2.2.2.1 e.2.1.2.2.2.2.1
def ah4(i:Y16):I8×U:=
 ((i.1.1.1,i.1.1.2,i.1.1.3,i.1.1.4,i.1.1.5,()),())
def ah3(d:MX):I8×U:=
 ((d.1.1.1,d.1.1.2,d.1.1.3,d.1.1.4,d.1.1.5,()),())
def B330:Y19:=
 λn f331 c=>ah (f331 c) λd=>ah (aQ (lN×I8×U) (U) (lN×I8×U) (λe=>ah (F332 n (bO.mk e.1.1
 e.1.2.1 e.1.2.2.1,())) λg=>ai g.1.1 (ah (f331 (e.1,())) λh=>ah (F307 n (6,abd e,Term.mk h.1.1.1 h.1.1.2 h.1.1.3 h.1.1.4 h.1.1.5,
 ())) λi=>Z (N (h.2.1,ah4 i))) (Z (H 0 e))) n (d.2.1,ah3 d)) λe=>bK e (λ_ h=>Z ((abd h,()),h.1,()))
 (λg _=>Z ((sd,()),g.1,())) λ_ _=>Y
abbrev abW(F:Fn mj K85 J):lJ sg:=⟨mj,K85,J,F⟩
def SS(g:lN×U):bO:=
 bO.mk g.1.1 g.1.2.1 g.1.2.2.1
def abc(n:Nat)(f274:MW)(f333:Y56)(f334:MW)(f335:MW):MX->O MX:=
 λo=>Z ((Term.mk o.1.1.1 o.1.1.2 o.1.1.3 o.1.1.4 o.1.1.5,()),o.2)
def B331:Nat->MW->Y56->MW->MW->lN×U->O MX:=
 λn f274 f333 f334 f335 g=>ah (F271 n (SS g,4,())) λh=>ai h.1.1 (ah (F204 n (g.1,4,())) λi=>Z ((Term.mk 1 i.1.1.3 [] [] [],
 ()),i.2)) (ah (F271 n (SS g,1,())) λi=>ai i.1.1 (ah (F204 n (g.1,1,())) λj=>Z ((Term.mk 4 0 j.1.1.2 [] [],()),j.2)) (ah
 (F271 n (SS g,2,())) λj=>ai j.1.1 (ah (F204 n (g.1,2,())) λk=>ah (F272 n (bO.mk k.2.1.1 k.2.1.2.1 k.2.1.2.2.1,
 [40],())) λl=>ah (ai l.1.1 (ah (f333 (k.2.1,(-1),())) λm=>Z (N (W,m.2.1,(14,0,k.1.1.2,m.1.1,[],()),()))) (Z
 (N (J,k.2.1,(14,0,k.1.1.2,[],[],()),())))) λ(m:LO Y21 U (lN×I8×U) Any)=>cr m (λo=>Z ((Term.mk o.2.2.1.1
 o.2.2.1.2.1 o.2.2.1.2.2.1 o.2.2.1.2.2.2.1 [],()),o.2.1,())) (λ_ _=>Y) (λo _=>Z ((sd,()),o.1,())) λ_ _=>Y) (ah (F205 n
 (g.1,[116,114,117,101],())) λk=>ai k.1.1 (Z ((Term.mk 2 1 [] [] [],()),k.2)) (ah (F205 n (k.2.1,[102,97,108,115,101],())) λl
 =>ai l.1.1 (Z ((Term.mk 2 0 [] [] [],()),l.2)) (ah (F205 n (l.2.1,[109,97,116,99,104],())) λm=>ai m.1.1 (ah (f334 m.2) (abc n
 f274 f333 f334 f335)) (ah (F205 n (m.2.1,[40],())) λo=>ai o.1.1 (ah (F205 n (o.2.1,[41],())) λp=>ai p.1.1 (Z ((Term.mk 3 0 [] []
 [],()),p.2)) (ah (f274 p.2) λq=>ah (F203 n (q.2.1,[41],())) λr=>Z ((Term.mk q.1.1.1 q.1.1.2 q.1.1.3 q.1.1.4 q.1.1.5,()),r.2)))
 (ah (F271 n (bO.mk o.2.1.1 o.2.1.2.1 o.2.1.2.2.1,3,())) λp=>ai p.1.1 (ah (f335 o.2) (abc n f274 f333 f334 f335)) (Z
 ((sd,()),(o.2.1.1,o.2.1.2.1,W,()),())))))))))
abbrev Vi(F:Fn PG K88 J):lJ sg:=⟨PG,K88,J,F⟩
def MK(n:Nat)(f274:MW)(c:lN×Int×U)(g:ahI):O aas:=
 ai (aD 0 c.2.1) (ah (F203 n (g.2.1,[44],())) λh=>Z (N (W,h.2))) (Z (N (J,g.2)))
def o6(e:MX):L Term:=
 [Term.mk e.1.1.1 e.1.1.2 e.1.1.3 e.1.1.4 e.1.1.5]
def SR(n:Nat)(f274:MW)(k:aar):aas->O (LO aar (L Term×U) (lN×U) Any):=
 λm=>cr m (λo=>ah (f274 o.2) λp=>aO (dg k.1 (o6 p)) (Z (N (dc k.1 (o6 p),p.2)))) (λ_ _=>Y) (λo p=>
 Z (X o p)) λ_ _=>Y
def ah2(n:Nat)(f274:MW)(c:lN×Int×U)(k:aar):O aas:=
 ai (aD 0 c.2.1) (ah (F203 n (k.2.1,[44],())) λl=>Z (N (W,l.2))) (Z (N (J,k.2)))
def ah1(n:Nat)(m:aar):ad4:=
 F203 n (m.2.1,[41],())
def SQ(n:Nat)(f274:MW)(c:lN×Int×U)(e:MX):aas->Y55:=
 λh=>cr h (λi=>ah (f274 i.2) λj=>aO (dg (o6 e) (o6 j)) (ah (aQ (aar) (L Term×U) (lN×U) (λk=>
 ai (aD c.2.1 0) (ah (F205 n (k.2.1,[44],())) λl=>ai l.1.1 (ah (MK n f274 c l) (SR n f274 k)) (ai (aD (ak k.1) c.2.1) (ai
 (aq l.2.1.2.2.1) (ah (MK n f274 c l) (SR n f274 k)) (Z (H 0 (k.1,l.2)))) (Z (H 0 (k.1,l.2))))) (ai (aD (ak k.1)
 c.2.1) (ai (aq k.2.1.2.2.1) (ah (ah2 n f274 c k) (SR n f274 k)) (Z (H 0 k))) (Z (H 0 k)))) n (dc (o6 e) (o6 j),
 j.2)) λk=>bK k (λ_ m=>ah (ah1 n m) λo=>Z ((m.1,()),o.2)) (λl m=>Z (m,l)) λ_ _=>Y)) (λ_ _=>Y) (λi
 j=>Z (j,i)) λ_ _=>Y
def abb(n:Nat)(g:ahI):ad4:=
 F203 n (g.2.1,[41],())
def ah0(n:Nat)(f274:MW)(c:lN×Int×U)(e:MX):O aas:=
 ai (aD 0 c.2.1) (ah (F203 n (e.2.1,[44],())) λg=>Z (N (W,g.2))) (Z (N (J,e.2)))
def aba(n:Nat)(e:MX):ad4:=
 F203 n (e.2.1,[41],())
def B333:Nat->MW->lN×Int×U->Y55:=
 λn f274 c=>ah (F203 n (c.1,[40],())) λd=>ah (f274 d.2) λe=>ai (aD c.2.1 0) (ah (F205 n (e.2.1,[44],())) λg=>ai g.1.1
 (ah (MK n f274 c g) (SQ n f274 c e)) (ai (aD (ak (o6 e)) c.2.1) (ai (aq g.2.1.2.2.1) (ah (MK n f274 c g) (SQ n f274 c
 e)) (ah (abb n g) λh=>Z ((o6 e,()),h.2))) (ah (abb n g) λh=>Z ((o6 e,()),h.2)))) (ai (aD (ak (o6 e))
 c.2.1) (ai (aq e.2.1.2.2.1) (ah (ah0 n f274 c e) (SQ n f274 c e)) (ah (aba n e) λg=>Z ((o6 e,()),g.2))) (ah (aba n
 e) λg=>Z ((o6 e,()),g.2)))
abbrev abV(F:Fn mj K85 J):lJ sg:=⟨mj,K85,J,F⟩
def z9(d:MX):L Term:=
 [Term.mk d.1.1.1 d.1.1.2 d.1.1.3 d.1.1.4 d.1.1.5]
def SP(l:Y20):L aB:=
 [aB.mk l.1.1.1 l.1.1.2 l.1.1.3 l.1.1.4]
def B334:Y19:=
 λn f274 c=>ah (f274 c) λd=>ah (F203 n (d.2.1,[123],())) λe=>ai (aq e.2.1.2.2.1) (ah (F337 n e.2) λg=>ah (F203 n (g.2.1,
 [45,62],())) λh=>ah (f274 h.2) λi=>aO (dg (z9 d) (z9 i)) (ah (F205 n (i.2.1,[124],())) λj=>ah (aQ (Y21) (U) (lN
 ×I8×U) (λk=>ai k.1 (ai (aq k.2.1.2.2.1) (ah (F337 n (k.2.1,())) λl=>ah (F203 n (l.2.1,[45,62],())) λm=>ah
 (f274 m.2) λo=>aO (dg k.2.2.1.2.2.2.2.1 (SP l)) (aO (dg k.2.2.1.2.2.2.1 (z9 o)) (ah (F205 n (o.2.1,[124],())) λp=>Z
 (N (p.1.1,p.2.1,(k.2.2.1.1,k.2.2.1.2.1,k.2.2.1.2.2.1,dc k.2.2.1.2.2.2.1 (z9 o),dc k.2.2.1.2.2.2.2.1 (SP l),()),()))))) (Z
 (H 0 k))) (Z (H 0 k))) n (j.1.1,j.2.1,(15,0,[],dc (z9 d) (z9 i),SP g,()),())) λk=>bK k (λ_ m=>ah (F203
 n (m.2.1,[125],())) λo=>Z ((Term.mk m.2.2.1.1 m.2.2.1.2.1 m.2.2.1.2.2.1 m.2.2.1.2.2.2.1 m.2.2.1.2.2.2.2.1,()),o.2)) (λl _=>Z
 ((sd,()),l.1,())) λ_ _=>Y)) (ah (F203 n (e.2.1,[125],())) λg=>Z ((Term.mk 15 0 [] (z9 d) [],()),g.2))
abbrev abU(F:Fn mj K85 J):lJ sg:=⟨mj,K85,J,F⟩
def SO(d:lN×U):lN:=
 (d.1.1,aG .i64 d.1.2.1 1,d.1.2.2)
def B335:Nat->MW->Y56->lN×U->O MX:=
 λn f274 f333 d=>aO (aF d.1.2.1 d.1.1) (ah (F336 n ((bh d.1.1 (ax d.1.2.1) dM).2,())) λe=>ai (aa e.1.1 0) (Z ((sd,
 ()),(d.1.1,d.1.2.1,W,()),())) (ai (aD 0 e.1.2.1) (ah (f333 (SO d,e.1.2)) λg=>Z ((Term.mk e.1.1 0 [] g.1.1 [],()),g.2)) (ai
 (aD e.1.2.1 0) (ah (F203 n (SO d,[40],())) λg=>ah (F204 n (g.2.1,4,())) λh=>ah (F203 n (h.2.1,[44],())) λi=>ah (f274
 i.2) λj=>ah (F203 n (j.2.1,[41],())) λk=>Z ((Term.mk e.1.1 h.1.1.3 [] [Term.mk j.1.1.1 j.1.1.2 j.1.1.3 j.1.1.4 j.1.1.5] [],()),k.2))
 (Z ((Term.mk e.1.1 0 [] [] [],()),SO d,())))))
def D274(n:Nat)(f274:Fn mj K85 J)(f305:Fn PG K85 J)(f306:Fn mj K85 J)(a:bG prog 274 (zn f274))(b:bG prog 305 (ab1 f305))(c:bG prog 306 (ab0 f306)):bG prog 274 (zn (B274 n f274 f305 f306)):=cQ [GF n,LB n,GD n,⟨274,zn f274,a⟩,⟨305,ab1 f305,b⟩,⟨306,ab0 f306,c⟩,acE n] [] n 10 274
def D305(n:Nat)(f274:Fn mj K85 J)(a:bG prog 274 (zn f274)):bG prog 305 (ab1 (B305 n f274)):=cQ [GF n,LB n,⟨274,zn f274,a⟩] [] n 10 305
def D306(n:Nat)(f325:Fn mj K85 J)(a:bG prog 325 (abY f325)):bG prog 306 (ab0 (B306 n f325)):=cQ [aga n,acE n,⟨325,abY f325,a⟩] [(306,0,⟨[(0,yA),(0,b7z)],[.slot 0,.slot 3],[],0⟩),(306,1000005,⟨[(4,dm),(22,di)],[],[],0⟩)] n 10 306
def D325(n:Nat)(f330:Fn mj K85 J)(a:bG prog 330 (abX f330)):bG prog 325 (abY (B325 n f330)):=cQ [GD n,acE n,⟨330,abX f330,a⟩] [(325,0,⟨[(0,yA),(0,b7z)],[.slot 0,.slot 3],[],0⟩)] n 10 325
def D330(n:Nat)(f331:Fn mj K85 J)(a:bG prog 331 (abW f331)):bG prog 330 (abX (B330 n f331)):=cQ [acE n,⟨331,abW f331,a⟩,aoW n] [(330,0,⟨[(0,yA),(0,b7z)],[.slot 0,.slot 3],[],0⟩)] n 10 330
def D331(n:Nat)(f274:Fn mj K85 J)(f333:Fn PG K88 J)(f334:Fn mj K85 J)(f335:Fn mj K85 J)(a:bG prog 274 (zn f274))(b:bG prog 333 (Vi f333))(c:bG prog 334 (abV f334))(d:bG prog 335 (abU f335)):bG prog 331 (abW (B331 n f274 f333 f334 f335)):=cQ [GF n,LB n,GD n,agb n,aga n,⟨274,zn f274,a⟩,⟨333,Vi f333,b⟩,⟨334,abV f334,c⟩,⟨335,abU f335,d⟩] [(331,1000008,⟨[(27,di),(0,yA),(0,.box (.cells [mh,mh,.dat (.str),.dat (.sl (.st 21)),.nil (.st 1)]))],[.slot 0,.slot 3],[],0⟩)] n 10 331
def D333(n:Nat)(f274:Fn mj K85 J)(a:bG prog 274 (zn f274)):bG prog 333 (Vi (B333 n f274)):=cQ [GF n,GD n,⟨274,zn f274,a⟩] [(333,0,⟨[(6,.one (.own (.st 21))),(0,yA)],[.slot 0],[],1⟩),(333,1000006,⟨[(34,di),(0,yA)],[.slot 0],[],0⟩)] n 10 333
def D334(n:Nat)(f274:Fn mj K85 J)(a:bG prog 274 (zn f274)):bG prog 334 (abV (B334 n f274)):=cQ [GF n,GD n,⟨274,zn f274,a⟩,aoV n] [(334,0,⟨[(5,di),(0,yA),(0,.box (.cells [mh,mh,.dat (.str),.own (.st 21),.own (.st 1)]))],[.slot 0,.slot 4],[],1⟩)] n 10 334
def D335(n:Nat)(f274:Fn mj K85 J)(f333:Fn PG K88 J)(a:bG prog 274 (zn f274))(b:bG prog 333 (Vi f333)):bG prog 335 (abU (B335 n f274 f333)):=cQ [GF n,LB n,⟨274,zn f274,a⟩,⟨333,Vi f333,b⟩,ajD n] [] n 10 335
def R274(n k:Nat):(Fn mj K85 J)×(Fn PG K85 J)×(Fn mj K85 J)×(Fn mj K85 J)×(Fn mj K85 J)×(Fn mj K85 J)×(Fn PG K88 J)×(Fn mj K85 J)×(Fn mj K85 J):=Nat.rec (motive:=λ_=>(Fn mj K85 J)×(Fn PG K85 J)×(Fn mj K85 J)×(Fn mj K85 J)×(Fn mj K85 J)×(Fn mj K85 J)×(Fn PG K88 J)×(Fn mj K85 J)×(Fn mj K85 J)) ((λ_=>Y,λ_=>Y,λ_=>Y,λ_=>Y,λ_=>Y,λ_=>Y,λ_=>Y,λ_=>Y,λ_=>Y)) (λ_ r=>(B274 n r.1 r.2.1 r.2.2.1,B305 n r.1,B306 n r.2.2.2.1,B325 n r.2.2.2.2.1,B330 n r.2.2.2.2.2.1,B331 n r.1 r.2.2.2.2.2.2.1 r.2.2.2.2.2.2.2.1 r.2.2.2.2.2.2.2.2,B333 n r.1,B334 n r.1,B335 n r.1 r.2.2.2.2.2.2.1)) k
def F274(n:Nat):Fn mj K85 J:=(R274 n n).1
def afk(n:Nat):∀k,bG prog 274 (zn (R274 n k).1)/\bG prog 305 (ab1 (R274 n k).2.1)/\bG prog 306 (ab0 (R274 n k).2.2.1)/\bG prog 325 (abY (R274 n k).2.2.2.1)/\bG prog 330 (abX (R274 n k).2.2.2.2.1)/\bG prog 331 (abW (R274 n k).2.2.2.2.2.1)/\bG prog 333 (Vi (R274 n k).2.2.2.2.2.2.1)/\bG prog 334 (abV (R274 n k).2.2.2.2.2.2.2.1)/\bG prog 335 (abU (R274 n k).2.2.2.2.2.2.2.2)
 |0=>⟨cw (enters 274 (by kernel_rfl)),cw (enters 305 (by kernel_rfl)),cw (enters 306 (by kernel_rfl)),cw (enters 325 (by kernel_rfl)),cw (enters 330 (by kernel_rfl)),cw (enters 331 (by kernel_rfl)),cw (enters 333 (by kernel_rfl)),cw (enters 334 (by kernel_rfl)),cw (enters 335 (by kernel_rfl))⟩
 |k+1=>have a:=afk n k
  ⟨D274 n _ _ _ a.1 a.2.1 a.2.2.1,D305 n _ a.1,D306 n _ a.2.2.2.1,D325 n _ a.2.2.2.2.1,D330 n _ a.2.2.2.2.2.1,D331 n _ _ _ _ a.1 a.2.2.2.2.2.2.1 a.2.2.2.2.2.2.2.1 a.2.2.2.2.2.2.2.2,D333 n _ a.1,D334 n _ a.1,D335 n _ _ a.1 a.2.2.2.2.2.2.1⟩
def apg(n:Nat):OC:=⟨274,zn (F274 n),(afk n n).1⟩
def F207:Nat->lN×U->O Y82:=
 λn b=>ah (F204 n (b.1,1,())) λc=>ah (F203 n (c.2.1,[40],())) λd=>ah (F204 n (d.2.1,1,())) λe=>ah (F203 n (e.2.1,[58],
 ())) λg=>ah (F273 n g.2) λh=>ah (F203 n (h.2.1,[41],())) λi=>ah (F203 n (i.2.1,[58],())) λj=>ah (F273 n j.2) λk=>ah
 (F203 n (k.2.1,[61],())) λl=>ah (F274 n l.2) λm=>ah (F203 n (m.2.1,[59],())) λo=>Z ((cZ.mk c.1.1.2 e.1.1.2 (cI.mk
 h.1.1.1 h.1.1.2 h.1.1.3 h.1.1.4) (cI.mk k.1.1.1 k.1.1.2 k.1.1.3 k.1.1.4) (Term.mk m.1.1.1 m.1.1.2 m.1.1.3 m.1.1.4 m.1.1.5),()),o.2)
def apw(n:Nat):OC:=⟨207,⟨mj,K89,J,F207 n⟩,cQ [GF n,LB n,ajL n,apg n] [] n 10 207⟩
def aa2(l:Y82):L cZ:=
 [cZ.mk l.1.1.1 l.1.1.2 (cI.mk l.1.1.3.1 l.1.1.3.2 l.1.1.3.3 l.1.1.3.4) (cI.mk l.1.1.4.1 l.1.1.4.2 l.1.1.4.3 l.1.1.4.4) (Term.mk
 l.1.1.5.1 l.1.1.5.2 l.1.1.5.3 l.1.1.5.4 l.1.1.5.5)]
def F134:Nat->lN×U->O ((ee×U)×lN×U):=
 λn b=>ah (F203 n (b.1,[109,111,100,117,108,101],())) λc=>ah (F204 n (c.2.1,1,())) λd=>ah (F203 n (d.2.1,[123],())) λe
 =>ah (aQ (Y83) (U) (Y83) (λg=>ah (F205 n (g.1,[116,121,112,101],())) λh=>ai h.1.1 (ah (F206 n h.2) λi=>aO (dg
 g.2.1.2.1 [i.1.1]) (Z (N (i.2.1,(g.2.1.1,dc g.2.1.2.1 [i.1.1],g.2.1.2.2),())))) (Z (H 0 (h.2.1,g.2)))) n (e.2.1,(d.1.1.2,[],
 [],()),())) λg=>bK g (λ_ i=>ah (aQ (Y83) (U) (Y83) (λj=>ah (F205 n (j.1,[102,117,110],())) λk=>ai k.1.1
 (ah (F207 n k.2) λl=>aO (dg j.2.1.2.2.1 (aa2 l)) (Z (N (l.2.1,(j.2.1.1,j.2.1.2.1,dc j.2.1.2.2.1 (aa2 l),()),())))) (Z
 (H 0 (k.2.1,j.2)))) n i) λj=>bK j (λ_ l=>ah (F203 n (l.1,[125],())) λm=>Z ((ee.mk l.2.1.1 l.2.1.2.1 l.2.1.2.2.1,
 ()),m.2)) (λk _=>Z ((kH,()),k.1,())) λ_ _=>Y) (λh _=>Z ((kH,()),h.1,())) λ_ _=>Y
def aqj(n:Nat):OC:=⟨134,⟨mj,K90,J,F134 n⟩,cQ [GF n,LB n,GD n,apx n,apw n] [(134,0,⟨[(0,yA),(0,al0)],[.slot 0,.slot 3],[],0⟩),(134,2,⟨[(0,yA),(0,al0)],[.slot 0,.slot 3],[],0⟩)] n 10 134⟩
def F135:amz:=
 λn b=>ai (aq b.1.3) (Z ((aa b.1.2 (ak b.1.1),()),())) (Z ((J,()),()))
def aqi(n:Nat):OC:=⟨135,⟨P87,K4,J,F135 n⟩,cQ [] [] n 10 135⟩
def F275:Y62:=
 λn b=>ah (aQ (Int×U) (Bool×U) (U) (λc=>ai (aD c.1 (ak b.1)) (aO (aF c.1 b.1) (ai (aD (mP b.1 c.1) 97)
 (Z (X () (J,()))) (aO (aF c.1 b.1) (ai (aD 122 (mP b.1 c.1)) (Z (X () (J,()))) (Z (N (aG .i64 c.1 1,
 ()))))))) (Z (H 0 c))) n (0,())) λc=>bK c (λ_ _=>Z ((W,()),())) (λ_ e=>Z (e,())) λ_ _=>Y
def ajK(n:Nat):OC:=⟨275,⟨P7,K4,J,F275 n⟩,cQ [] [(275,0,⟨[(3,dm)],[],[],0⟩)] n 10 275⟩
def F208:Y62:=
 λn b=>ai (br 1 (ak b.1)) (ai (br (ak b.1) 8) (ah (F275 n b) λc=>ai c.1.1 (ah (F276 n b) λd=>Z ((aq d.1.1,()),
 ())) (Z ((J,()),()))) (Z ((J,()),()))) (Z ((J,()),()))
def agf(n:Nat):OC:=⟨208,⟨P7,K4,J,F208 n⟩,cQ [ajK n,ajJ n] [] n 10 208⟩
def F209:Y41:=
 λn b=>ai (br b.2.1 b.1) (Z ((br b.1 b.2.2.1,()),())) (Z ((J,()),()))
def YL(n:Nat):OC:=⟨209,⟨P6,K4,J,F209 n⟩,cQ [] [] n 10 209⟩
abbrev XQ(F:Fn P91 K2 J):lJ sg:=⟨P91,K2,J,F⟩
def B277:Nat->(amC->HT)->amC->HT:=
 λn f277 c=>ai (aD c.2.1 1) (Z (((-1),()),())) (ah (aQ (Int×Int×U) (Int×U) (U) (λd=>ai (aD d.2.1 (ak
 c.1.4)) (ai (br 0 d.1) (aO (aF d.2.1 c.1.4) (ah (f277 (bh c.1.4 (ax d.2.1) nT,d.1,())) λe=>Z (N (e.1.1,aG .i64
 d.2.1 1,())))) (Z (H 0 d))) (Z (H 0 d))) n (aZ .i64 c.2.1 1,0,())) λd=>bK d (λ_ g=>Z ((g.1,()),())) (λ_ g
 =>Z (g,())) λ_ _=>Y)
def D277(n:Nat)(f277:Fn P91 K2 J)(a:bG prog 277 (XQ f277)):bG prog 277 (XQ (B277 n f277)):=cQ [⟨277,XQ f277,a⟩] [(277,0,⟨[(1,dm),(5,dm)],[],[],0⟩)] n 10 277
def R277(n k:Nat):(Fn P91 K2 J):=Nat.rec (motive:=λ_=>(Fn P91 K2 J)) (λ_=>Y) (λ_ r=>B277 n r) k
def F277(n:Nat):Fn P91 K2 J:=(R277 n n)
def afj(n:Nat):∀k,bG prog 277 (XQ (R277 n k))
 |0=>cw (enters 277 (by kernel_rfl))
 |k+1=>have a:=afj n k
  D277 n _ a
def apf(n:Nat):OC:=⟨277,XQ (F277 n),(afj n n)⟩
def F240:Y62:=
 λn b=>ai (br 1 (ak b.1)) (ai (br (ak b.1) 8) (aO (aF 0 b.1) (ai (br 65 (mP b.1 0)) (aO (aF 0 b.1) (ai (br (mP b.1 0)
 90) (aO (ez 1 (ak b.1) (ak b.1)) (ah (F275 n (cL b.1 1 (ak b.1),())) λc=>Z c)) (Z ((J,()),())))) (Z ((J,()),
 ())))) (Z ((J,()),()))) (Z ((J,()),()))
def YJ(n:Nat):OC:=⟨240,⟨P7,K4,J,F240 n⟩,cQ [ajK n] [] n 10 240⟩
abbrev XP(F:Fn P92 K4 J):lJ sg:=⟨P92,K4,J,F⟩
def B278:Nat->(amG->O Y4)->amG->O Y4:=
 λn f278 c=>ah (ai (aa c.1.1 1) (Z (N (W,()))) (ah (ai (aa c.1.1 2) (Z (N (W,()))) (Z (N (aa c.1.1
 3,())))) λ(d:nY)=>cr d (λe=>Z (N e)) (λ_ _=>Y) (λ_ g=>Z (X () g)) λ_ _=>Y)) λ(d:nY)=>
 cr d (λe=>ah (ai e.1 (ai (aa (ak c.1.4) 0) (ai (aa c.1.2 0) (Z (N (gw c.1.3 [],W,()))) (Z (N (J,W,
 ())))) (Z (N (J,W,())))) (ah (ai (aa c.1.1 4) (ai (aa (ak c.1.4) 2) (ai (aa c.1.2 0) (Z (N (gw c.1.3 [],
 W,()))) (Z (N (J,W,())))) (Z (N (J,W,())))) (ah (ai (aa c.1.1 5) (Z (N (W,()))) (ah (ai
 (aa c.1.1 6) (Z (N (W,()))) (Z (N (aa c.1.1 7,())))) λ(g:nY)=>cr g (λh=>Z (N h)) (λ_ _=>
 Y) (λ_ i=>Z (X () i)) λ_ _=>Y)) λ(g:nY)=>cr g (λh=>ah (ai h.1 (ai (aa (ak c.1.4) 1) (ai (aa c.1.2
 0) (Z (N (gw c.1.3 [],W,()))) (Z (N (J,W,())))) (Z (N (J,W,())))) (ah (ai (aa c.1.1 8) (ai
 (aa (ak c.1.4) 0) (ai (aa c.1.2 0) (ah (F240 n (c.1.3,())) λi=>Z (N (i.1.1,W,()))) (Z (N (J,W,()))))
 (Z (N (J,W,())))) (ah (ai (aa c.1.1 9) (ai c.2.1 (ai (aa (ak c.1.4) 0) (ai (gw c.1.3 []) (ah (F209 n (c.1.2,0,99,
 ())) λi=>Z (N (i.1.1,W,()))) (Z (N (J,W,())))) (Z (N (J,W,())))) (Z (N (J,W,
 ())))) (Z (N (J,J,())))) λ(i:yB)=>cr i (λj=>Z (N (j.1,J,()))) (λ_ _=>Y) (λ_ k=>Z
 (X () k)) λ_ _=>Y)) λ(i:yB)=>cr i (λj=>Z (N (j.1,J,()))) (λ_ _=>Y) (λ_ k=>Z (X () k))
 λ_ _=>Y)) λ(i:yB)=>cr i (λj=>Z (N (j.1,J,()))) (λ_ _=>Y) (λ_ k=>Z (X () k)) λ_ _=>
 Y) (λ_ _=>Y) (λ_ i=>Z (X () i)) λ_ _=>Y)) λ(g:yB)=>cr g (λh=>Z (N (h.1,J,()))) (λ_ _
 =>Y) (λ_ i=>Z (X () i)) λ_ _=>Y)) λ(g:yB)=>cr g (λh=>ah (aQ (Bool×Int×U) (Bool×U) (U) (λi=>ai (aD i.2.1 (ak c.1.4)) (ai i.1 (aO (aF i.2.1 c.1.4) (ah (f278 (bh c.1.4 (ax i.2.1) nT,c.2)) λj=>Z
 (N (j.1.1,aG .i64 i.2.1 1,())))) (Z (H 0 i))) (Z (H 0 i))) n (h.1,0,())) λi=>bK i (λ_ k=>Z ((k.1,()),
 ())) (λ_ k=>Z (k,())) λ_ _=>Y) (λ_ _=>Y) (λ_ i=>Z (i,())) λ_ _=>Y) (λ_ _=>Y) (λ_ g=>Z (g,
 ())) λ_ _=>Y
def D278(n:Nat)(f278:Fn P92 K4 J)(a:bG prog 278 (XP f278)):bG prog 278 (XP (B278 n f278)):=cQ [YL n,YJ n,⟨278,XP f278,a⟩] [(278,1,⟨[(6,di),(7,dm)],[],[],0⟩),(278,1000005,⟨[(13,di)],[],[],0⟩),(278,1000006,⟨[(13,di)],[],[],0⟩),(278,1000007,⟨[(6,di),(13,di)],[],[],0⟩),(278,1000009,⟨[(6,di),(29,di)],[],[],0⟩),(278,1000011,⟨[(43,di)],[],[],0⟩),(278,1000012,⟨[(43,di)],[],[],0⟩),(278,1000013,⟨[(6,di),(43,di)],[],[],0⟩),(278,1000015,⟨[(6,di),(59,di)],[],[],0⟩),(278,1000017,⟨[(6,di),(73,di)],[],[],0⟩)] n 10 278
def R278(n k:Nat):(Fn P92 K4 J):=Nat.rec (motive:=λ_=>(Fn P92 K4 J)) (λ_=>Y) (λ_ r=>B278 n r) k
def F278(n:Nat):Fn P92 K4 J:=(R278 n n)
def afi(n:Nat):∀k,bG prog 278 (XP (R278 n k))
 |0=>cw (enters 278 (by kernel_rfl))
 |k+1=>have a:=afi n k
  D278 n _ a
def ape(n:Nat):OC:=⟨278,XP (F278 n),(afi n n)⟩
def F211:Nat->cI×U->O Y4:=
 λn b=>ah (F277 n (cI.mk b.1.1 b.1.2 b.1.3 b.1.4,12,())) λc=>ai (br 0 c.1.1) (ah (F278 n (cI.mk b.1.1 b.1.2 b.1.3 b.1.4,
 J,())) λd=>Z d) (Z ((J,()),()))
def ajV(n:Nat):OC:=⟨211,⟨P93,K4,J,F211 n⟩,cQ [apf n,ape n] [] n 10 211⟩
def F210:Nat->kL×U->O Y4:=
 λn b=>ah (F240 n (b.1.1,())) λc=>ai (aq c.1.1) (Z ((J,()),())) (ah (F209 n (ak b.1.2,1,5,())) λd=>ai (aq
 d.1.1) (Z ((J,()),())) (ah (aQ (Int×U) (Bool×U) (U) (λe=>ai (aD e.1 (ak b.1.2)) (aO (aF e.1 b.1.2) (ah
 (F240 n ((bh b.1.2 (ax e.1) iC).1,())) λg=>ai (aq g.1.1) (Z (X () (J,()))) (ai (aD 3 (ak (bh b.1.2 (ax
 e.1) iC).2)) (Z (X () (J,()))) (ah (aQ (Int×U) (Bool×U) (U) (λh=>ai (aD h.1 (ak (bh b.1.2
 (ax e.1) iC).2)) (aO (aF h.1 (bh b.1.2 (ax e.1) iC).2) (ah (F211 n (bh (bh b.1.2 (ax e.1) iC).2 (ax h.1)
 nT,())) λi=>ai (aq i.1.1) (Z (X () (J,()))) (Z (N (aG .i64 h.1 1,()))))) (Z (H 0 h))) n (0,()))
 λh=>bK h (λ_ _=>Z (N (aG .i64 e.1 1,()))) (λ_ j=>Z (X () j)) λ_ _=>Y)))) (Z (H 0 e))) n (0,()))
 λe=>bK e (λ_ _=>Z ((W,()),())) (λ_ h=>Z (h,())) λ_ _=>Y))
def apv(n:Nat):OC:=⟨210,⟨P94,K4,J,F210 n⟩,cQ [YL n,ajV n,YJ n] [(210,0,⟨[(3,dm)],[],[],0⟩),(210,2,⟨[(5,dm)],[],[],0⟩)] n 10 210⟩
abbrev XO(F:Fn P95 K2 J):lJ sg:=⟨P95,K2,J,F⟩
def B279:Nat->(amA->HT)->amA->HT:=
 λn f279 c=>ai (aD c.2.1 1) (Z (((-1),()),())) (ai (aD c.2.2.1 1) (Z (((-1),()),())) (ah (aQ (Int×Int×U) (Int×U) (U) (λd=>ai (aD d.2.1 (ak c.1.4)) (ai (br 0 d.1) (aO (aF d.2.1 c.1.4) (ah (f279 (bh c.1.4 (ax d.2.1) sd,d.1,aZ .i64
 c.2.2.1 1,())) λe=>Z (N (e.1.1,aG .i64 d.2.1 1,())))) (Z (H 0 d))) (Z (H 0 d))) n (aZ .i64 c.2.1 1,0,())) λ
 d=>bK d (λ_ g=>Z ((g.1,()),())) (λ_ g=>Z (g,())) λ_ _=>Y))
def D279(n:Nat)(f279:Fn P95 K2 J)(a:bG prog 279 (XO f279)):bG prog 279 (XO (B279 n f279)):=cQ [⟨279,XO f279,a⟩] [(279,0,⟨[(1,dm),(7,dm)],[],[],0⟩)] n 10 279
def R279(n k:Nat):(Fn P95 K2 J):=Nat.rec (motive:=λ_=>(Fn P95 K2 J)) (λ_=>Y) (λ_ r=>B279 n r) k
def F279(n:Nat):Fn P95 K2 J:=(R279 n n)
def afh(n:Nat):∀k,bG prog 279 (XO (R279 n k))
 |0=>cw (enters 279 (by kernel_rfl))
 |k+1=>have a:=afh n k
  D279 n _ a
def apd(n:Nat):OC:=⟨279,XO (F279 n),(afh n n)⟩
def aaV(n:Nat)(b:Y72):O Y4:=
 ai b.2.2.2.1 (Z ((W,()),())) (Z ((aa (ak b.1.5) 0,()),()))
def aaU(n:Nat)(b:Y72):O Y4:=
 ai b.2.2.1 (aaV n b) (ai (gw b.1.3 []) (aaV n b) (Z ((J,()),())))
def F326:Nat->Y72->O Y4:=
 λn b=>ai b.2.1 (aaU n b) (ai (aa b.1.2 0) (aaU n b) (Z ((J,()),())))
def aoZ(n:Nat):OC:=⟨326,⟨P96,K4,J,F326 n⟩,cQ [] [] n 10 326⟩
def H9(b:Term×U):Term:=
 Term.mk b.1.1 b.1.2 b.1.3 b.1.4 b.1.5
def SF(n:Nat)(b:Term×U):O Y4:=
 F326 n (H9 b,W,J,J,())
def jG(n:Nat):O Y4:=
 Z ((J,()),())
def aaX(n:Nat):nY->O nY:=
 λc=>cr c (λd=>Z (N d)) (λ_ _=>Y) (λ_ e=>Z (X () e)) λ_ _=>Y
def Mv(n:Nat)(b:Term×U):O Y4:=
 ah (F326 n (H9 b,J,J,J,())) λe=>Z e
def SE(n:Nat)(b:Term×U):O Y4:=
 ah (F326 n (H9 b,J,W,J,())) λe=>ai e.1.1 (ah (F208 n (b.1.3,())) λg=>Z g) (jG n)
def Mu(n:Nat):nY->O nY:=
 λh=>cr h (λi=>Z (N i)) (λ_ _=>Y) (λ_ j=>Z (X () j)) λ_ _=>Y
def CR(n:Nat):nY->O nY:=
 λj=>cr j (λk=>Z (N k)) (λ_ _=>Y) (λ_ l=>Z (X () l)) λ_ _=>Y
def Mt(n:Nat):U->Bool×U->O Y4:=
 λ_ l=>Z (l,())
def F309:amf:=
 λn b=>ai (aa b.1.1 1) (ai (aa (ak b.1.4) 0) (ah (SF n b) λc=>ai c.1.1 (ah (F209 n (b.1.2,(-1000000000),1000000000,()))
 λd=>Z d) (jG n)) (jG n)) (ai (aa b.1.1 2) (ai (aa (ak b.1.4) 0) (ah (SF n b) λc=>ai c.1.1 (ah (F209 n (b.1.2,0,
 1,())) λd=>Z d) (jG n)) (jG n)) (ah (ai (aa b.1.1 3) (Z (N (W,()))) (ah (ai (aa b.1.1 21) (Z (N (W,
 ()))) (ah (ai (aa b.1.1 25) (Z (N (W,()))) (Z (N (aa b.1.1 28,())))) (aaX n))) (aaX n))) λ(c:nY)=>cr c
 (λd=>ai d.1 (ai (aa (ak b.1.4) 0) (Mv n b) (jG n)) (ai (aa b.1.1 4) (ai (aa (ak b.1.4) 0) (SE n b) (jG n)) (ah
 (ai (aa b.1.1 5) (Z (N (W,()))) (Z (N (aa b.1.1 27,())))) λ(e:nY)=>cr e (λg=>ai g.1 (ai (aa (ak
 b.1.4) 1) (SE n b) (jG n)) (ai (aa b.1.1 7) (ai (aa (ak b.1.4) 2) (SE n b) (jG n)) (ai (aa b.1.1 8) (ai (aa (ak
 b.1.4) 3) (Mv n b) (jG n)) (ai (aa b.1.1 14) (ai (br (ak b.1.4) 3) (ah (F326 n (H9 b,J,W,J,())) λh=>ai
 h.1.1 (ah (F240 n (b.1.3,())) λi=>Z i) (jG n)) (jG n)) (ai (aa b.1.1 15) (ah (F209 n (ak b.1.5,1,5,())) λh=>ai h.1.1
 (ai (aa (ak b.1.4) (aG .i64 1 (ak b.1.5))) (ah (F326 n (H9 b,J,J,W,())) λi=>Z i) (jG n)) (jG n)) (ah
 (ai (aa b.1.1 16) (Z (N (W,()))) (ah (ai (aa b.1.1 17) (Z (N (W,()))) (ah (ai (aa b.1.1 19) (Z (N
 (W,()))) (ah (ai (aa b.1.1 20) (Z (N (W,()))) (ah (ai (aa b.1.1 23) (Z (N (W,()))) (Z (N (aa b.1.1
 26,())))) (Mu n))) (Mu n))) (Mu n))) (Mu n))) λ(h:nY)=>cr h (λi=>ai i.1 (ai (aa (ak b.1.4) 1) (Mv n b)
 (jG n)) (ai (aa b.1.1 24) (ai (aa (ak b.1.4) 1) (ah (SF n b) λj=>ai j.1.1 (ah (F209 n (b.1.2,0,3,())) λk=>Z k)
 (jG n)) (jG n)) (ah (ai (aa b.1.1 6) (Z (N (W,()))) (ah (ai (aa b.1.1 9) (Z (N (W,()))) (ah (ai (aa
 b.1.1 10) (Z (N (W,()))) (ah (ai (aa b.1.1 11) (Z (N (W,()))) (ah (ai (aa b.1.1 12) (Z (N (W,())))
 (ah (ai (aa b.1.1 13) (Z (N (W,()))) (ah (ai (aa b.1.1 18) (Z (N (W,()))) (Z (N (aa b.1.1 22,()))))
 (CR n))) (CR n))) (CR n))) (CR n))) (CR n))) (CR n))) λ(j:nY)=>cr j (λk=>ai k.1 (ai (aa (ak b.1.4) 2)
 (Mv n b) (jG n)) (jG n)) (λ_ _=>Y) (Mt n) λ_ _=>Y))) (λ_ _=>Y) (Mt n) λ_ _=>Y)))))) (λ_ _=>
 Y) (Mt n) λ_ _=>Y))) (λ_ _=>Y) (Mt n) λ_ _=>Y))
def ao5(n:Nat):OC:=⟨309,⟨P97,K4,J,F309 n⟩,cQ [agf n,YL n,YJ n,aoZ n] [(309,1000008,⟨[(35,di)],[],[],0⟩),(309,1000009,⟨[(35,di)],[],[],0⟩),(309,1000010,⟨[(35,di)],[],[],0⟩),(309,1000015,⟨[(59,di)],[],[],0⟩),(309,1000026,⟨[(125,di)],[],[],0⟩),(309,1000027,⟨[(125,di)],[],[],0⟩),(309,1000028,⟨[(125,di)],[],[],0⟩),(309,1000029,⟨[(125,di)],[],[],0⟩),(309,1000030,⟨[(125,di)],[],[],0⟩),(309,1000035,⟨[(151,di)],[],[],0⟩),(309,1000036,⟨[(151,di)],[],[],0⟩),(309,1000037,⟨[(151,di)],[],[],0⟩),(309,1000038,⟨[(151,di)],[],[],0⟩),(309,1000039,⟨[(151,di)],[],[],0⟩),(309,1000040,⟨[(151,di)],[],[],0⟩),(309,1000041,⟨[(151,di)],[],[],0⟩)] n 10 309⟩
def F139:Nat->WD->O Y4:=
 λn b=>ah (aQ (Int×U) (Bool×U) (U) (λc=>ai (aD c.1 (ak b.1)) (aO (ez 0 c.1 (ak b.1)) (aO (aF c.1 b.1)
 (ah (F141 n (cL b.1 0 c.1,bh b.1 (ax c.1) [],())) λd=>ai d.1.1 (Z (X () (J,()))) (Z (N (aG .i64 c.1 1,()))))))
 (Z (H 0 c))) n (0,())) λc=>bK c (λ_ _=>Z ((W,()),())) (λ_ e=>Z (e,())) λ_ _=>Y
def agi(n:Nat):OC:=⟨139,⟨P98,K4,J,F139 n⟩,cQ [acM n] [(139,0,⟨[(3,dm)],[],[],0⟩)] n 10 139⟩
abbrev XM(F:Fn P3 K71 J):lJ sg:=⟨P3,K71,J,F⟩
def B281:Nat->(aB×U->PD)->aB×U->PD:=
 λn f281 c=>ai (aa c.1.1 2) (Z (([c.1.3],()),())) (ah (aQ (Y80) (WD) (U) (λd=>ai (aD d.2.1 (ak c.1.4)) (aO
 (aF d.2.1 c.1.4) (ah (f281 (bh c.1.4 (ax d.2.1) aK,())) λe=>aO (dg d.1 e.1.1) (Z (N (dc d.1 e.1.1,aG .i64 d.2.1 1,
 ()))))) (Z (H 0 d))) n ([],0,())) λd=>bK d (λ_ g=>Z ((g.1,()),())) (λ_ g=>Z (g,())) λ_ _=>Y)
def D281(n:Nat)(f281:Fn P3 K71 J)(a:bG prog 281 (XM f281)):bG prog 281 (XM (B281 n f281)):=cQ [⟨281,XM f281,a⟩] [(281,0,⟨[(3,.one (.own (.str))),(4,dm)],[],[],0⟩)] n 10 281
def R281(n k:Nat):(Fn P3 K71 J):=Nat.rec (motive:=λ_=>(Fn P3 K71 J)) (λ_=>Y) (λ_ r=>B281 n r) k
def F281(n:Nat):Fn P3 K71 J:=(R281 n n)
def aff(n:Nat):∀k,bG prog 281 (XM (R281 n k))
 |0=>cw (enters 281 (by kernel_rfl))
 |k+1=>have a:=aff n k
  D281 n _ a
def ajI(n:Nat):OC:=⟨281,XM (F281 n),(aff n n)⟩
abbrev XJ(F:Fn P3 K4 J):lJ sg:=⟨P3,K4,J,F⟩
def B327:Y60:=
 λn f327 c=>ah (ai (aa c.1.1 1) (Z (N (W,()))) (Z (N (aa c.1.1 5,())))) λ(d:nY)=>cr d (λe=>ah (ai
 e.1 (ai (aa (ak c.1.4) 0) (ai (aa c.1.2 0) (Z (N (gw c.1.3 [],W,()))) (Z (N (J,W,())))) (Z (N
 (J,W,())))) (ah (ai (aa c.1.1 2) (ai (aa (ak c.1.4) 0) (ai (aa c.1.2 0) (ah (F208 n (c.1.3,())) λg=>Z (N
 (g.1.1,W,()))) (Z (N (J,W,())))) (Z (N (J,W,())))) (ah (ai (aa c.1.1 3) (ai (aa (ak c.1.4) 0) (ai
 (gw c.1.3 []) (ah (F209 n (c.1.2,(-1000000000),1000000000,())) λg=>Z (N (g.1.1,W,()))) (Z (N (J,W,()))))
 (Z (N (J,W,())))) (ah (ai (aa c.1.1 4) (ai (aa (ak c.1.4) 0) (ai (gw c.1.3 []) (ah (F209 n (c.1.2,0,1,())) λg=>
 Z (N (g.1.1,W,()))) (Z (N (J,W,())))) (Z (N (J,W,())))) (ah (ai (aa c.1.1 6) (ai (br (ak
 c.1.4) 3) (ai (aa c.1.2 0) (ah (F240 n (c.1.3,())) λg=>Z (N (g.1.1,W,()))) (Z (N (J,W,())))) (Z (N
 (J,W,())))) (Z (N (J,J,())))) λ(g:yB)=>cr g (λh=>Z (N (h.1,J,()))) (λ_ _=>Y) (λ_
 i=>Z (X () i)) λ_ _=>Y)) λ(g:yB)=>cr g (λh=>Z (N (h.1,J,()))) (λ_ _=>Y) (λ_ i=>Z
 (X () i)) λ_ _=>Y)) λ(g:yB)=>cr g (λh=>Z (N (h.1,J,()))) (λ_ _=>Y) (λ_ i=>Z (X () i))
 λ_ _=>Y)) λ(g:yB)=>cr g (λh=>Z (N (h.1,J,()))) (λ_ _=>Y) (λ_ i=>Z (X () i)) λ_ _=>
 Y)) λ(g:yB)=>cr g (λh=>ah (aQ (Bool×Int×U) (Bool×U) (U) (λi=>ai (aD i.2.1 (ak c.1.4)) (ai i.1
 (aO (aF i.2.1 c.1.4) (ah (f327 (bh c.1.4 (ax i.2.1) aK,())) λj=>Z (N (j.1.1,aG .i64 i.2.1 1,())))) (Z (H 0
 i))) (Z (H 0 i))) n (h.1,0,())) λi=>bK i (λ_ k=>Z ((k.1,()),())) (λ_ k=>Z (k,())) λ_ _=>Y) (λ_ _=>
 Y) (λ_ i=>Z (i,())) λ_ _=>Y) (λ_ _=>Y) (λ_ g=>Z (g,())) λ_ _=>Y
def D327(n:Nat)(f327:Fn P3 K4 J)(a:bG prog 327 (XJ f327)):bG prog 327 (XJ (B327 n f327)):=cQ [agf n,YL n,YJ n,⟨327,XJ f327,a⟩] [(327,1,⟨[(4,di),(5,dm)],[],[],0⟩),(327,1000005,⟨[(11,di)],[],[],0⟩),(327,1000006,⟨[(4,di),(11,di)],[],[],0⟩),(327,1000008,⟨[(4,di),(26,di)],[],[],0⟩),(327,1000010,⟨[(4,di),(40,di)],[],[],0⟩),(327,1000012,⟨[(4,di),(54,di)],[],[],0⟩),(327,1000014,⟨[(4,di),(68,di)],[],[],0⟩)] n 10 327
def R327(n k:Nat):(Fn P3 K4 J):=Nat.rec (motive:=λ_=>(Fn P3 K4 J)) (λ_=>Y) (λ_ r=>B327 n r) k
def F327(n:Nat):Fn P3 K4 J:=(R327 n n)
def afc(n:Nat):∀k,bG prog 327 (XJ (R327 n k))
 |0=>cw (enters 327 (by kernel_rfl))
 |k+1=>have a:=afc n k
  D327 n _ a
def aoY(n:Nat):OC:=⟨327,XJ (F327 n),(afc n n)⟩
def F310:amM:=
 λn b=>ah (F94 n (aB.mk b.1.1 b.1.2 b.1.3 b.1.4,12,())) λc=>ai (br 0 c.1.1) (ah (F327 n (aB.mk b.1.1 b.1.2 b.1.3 b.1.4,()))
 λd=>ai d.1.1 (ah (F281 n (aB.mk b.1.1 b.1.2 b.1.3 b.1.4,())) λe=>ah (F139 n e.1) λg=>Z g) (Z ((J,()),()))) (Z
 ((J,()),()))
def ao4(n:Nat):OC:=⟨310,⟨P3,K4,J,F310 n⟩,cQ [k94 n,agi n,ajI n,aoY n] [] n 10 310⟩
abbrev XN(F:Fn P97 K4 J):lJ sg:=⟨P97,K4,J,F⟩
def B280:Nat->(Term×U->O Y4)->Term×U->O Y4:=
 λn f280 c=>ah (F309 n (Term.mk c.1.1 c.1.2 c.1.3 c.1.4 c.1.5,())) λd=>ai (aq d.1.1) (Z ((J,()),())) (ah (aQ (Int×U) (Bool×U) (U) (λe=>ai (aD e.1 (ak c.1.5)) (aO (aF e.1 c.1.5) (ah (F310 n (bh c.1.5 (ax e.1) aK,())) λg=>ai
 (aq g.1.1) (Z (X () (J,()))) (Z (N (aG .i64 e.1 1,()))))) (Z (H 0 e))) n (0,())) λe=>bK e (λ_ _=>
 ah (aQ (Int×U) (Bool×U) (U) (λi=>ai (aD i.1 (ak c.1.4)) (aO (aF i.1 c.1.4) (ah (f280 (bh c.1.4 (ax i.1) sd,
 ())) λj=>ai (aq j.1.1) (Z (X () (J,()))) (Z (N (aG .i64 i.1 1,()))))) (Z (H 0 i))) n (0,())) λi=>
 bK i (λ_ _=>Z ((W,()),())) (λ_ k=>Z (k,())) λ_ _=>Y) (λ_ h=>Z (h,())) λ_ _=>Y)
def D280(n:Nat)(f280:Fn P97 K4 J)(a:bG prog 280 (XN f280)):bG prog 280 (XN (B280 n f280)):=cQ [⟨280,XN f280,a⟩,ao5 n,ao4 n] [(280,0,⟨[(3,dm)],[],[],0⟩),(280,2,⟨[(4,dm)],[],[],0⟩)] n 10 280
def R280(n k:Nat):(Fn P97 K4 J):=Nat.rec (motive:=λ_=>(Fn P97 K4 J)) (λ_=>Y) (λ_ r=>B280 n r) k
def F280(n:Nat):Fn P97 K4 J:=(R280 n n)
def afg(n:Nat):∀k,bG prog 280 (XN (R280 n k))
 |0=>cw (enters 280 (by kernel_rfl))
 |k+1=>have a:=afg n k
  D280 n _ a
def apc(n:Nat):OC:=⟨280,XN (F280 n),(afg n n)⟩
def F212:amf:=
 λn b=>ah (F279 n (Term.mk b.1.1 b.1.2 b.1.3 b.1.4 b.1.5,60,14,())) λc=>ai (br 0 c.1.1) (ah (F280 n (Term.mk b.1.1 b.1.2 b.1.3 b.1.4
 b.1.5,())) λd=>Z d) (Z ((J,()),()))
def apu(n:Nat):OC:=⟨212,⟨P97,K4,J,F212 n⟩,cQ [apd n,apc n] [] n 10 212⟩
def mq(b:ee×U)(i:Int×U):cZ:=
 bh b.1.3 (ax i.1) dQ
def Ij(n:Nat):ahK:=
 Z (X () (J,()))
def F136:Nat->ee×U->O Y4:=
 λn b=>ah (F208 n (b.1.1,())) λc=>ai (aq c.1.1) (Z ((J,()),())) (ai (aD 4 (ak b.1.2)) (Z ((J,()),())) (ah
 (F209 n (ak b.1.3,1,5,())) λd=>ai (aq d.1.1) (Z ((J,()),())) (ah (aQ (Int×U) (Bool×U) (U) (λe=>ai
 (aD e.1 (ak b.1.2)) (aO (aF e.1 b.1.2) (ah (F210 n (bh b.1.2 (ax e.1) mJ,())) λg=>ai (aq g.1.1) (Z (X () (J,
 ()))) (Z (N (aG .i64 e.1 1,()))))) (Z (H 0 e))) n (0,())) λe=>bK e (λ_ _=>ah (aQ (Int×U) (Bool×U) (U) (λi=>ai (aD i.1 (ak b.1.3)) (aO (aF i.1 b.1.3) (ah (F208 n ((mq b i).1,())) λj=>ai (aq j.1.1) (Ij n)
 (ah (F208 n ((mq b i).2,())) λk=>ai (aq k.1.1) (Ij n) (ah (F211 n (cI.mk (mq b i).3.1 (mq b i).3.2 (mq b i).3.3
 (mq b i).3.4,())) λl=>ai (aq l.1.1) (Ij n) (ah (F211 n (cI.mk (mq b i).4.1 (mq b i).4.2 (mq b i).4.3 (mq b
 i).4.4,())) λm=>ai (aq m.1.1) (Ij n) (ah (F212 n (Term.mk (mq b i).5.1 (mq b i).5.2 (mq b i).5.3 (mq b i).5.4 (mq b
 i).5.5,())) λo=>ai (aq o.1.1) (Ij n) (Z (N (aG .i64 i.1 1,()))))))))) (Z (H 0 i))) n (0,())) λi=>bK i (λ
 _ _=>Z ((W,()),())) (λ_ k=>Z (k,())) λ_ _=>Y) (λ_ h=>Z (h,())) λ_ _=>Y)))
def aj2(n:Nat):OC:=⟨136,⟨P99,K4,J,F136 n⟩,cQ [agf n,YL n,apv n,ajV n,apu n] [(136,0,⟨[(3,dm)],[],[],0⟩),(136,2,⟨[(4,dm)],[],[],0⟩)] n 10 136⟩
def F96:Nat->L UInt8×U->O ((ee×Int×U)×U):=
 λn b=>ah (F202 n b) λc=>ai (aq (aa c.1.2.1 0)) (Z ((kH,c.1.2),())) (ah (F134 n ((c.1.1,0,J,()),())) λd=>
 ah (F135 n (bO.mk d.2.1.1 d.2.1.2.1 d.2.1.2.2.1,())) λe=>ai (aq e.1.1) (Z ((kH,4,()),())) (ah (F136 n d.1)
 λg=>ai (aq g.1.1) (Z ((kH,2,()),())) (Z ((d.1.1,0,()),()))))
def k96(n:Nat):OC:=⟨96,⟨P7,K100,J,F96 n⟩,cQ [aqj n,aqi n,aj2 n,apy n] [] n 10 96⟩
def F137:Nat->ee×U->PD:=
 λn b=>ah (aQ (Y80) (WD) (U) (λc=>ai (aD c.2.1 (ak b.1.3)) (aO (aF c.2.1 b.1.3) (aO (dg c.1 [(bh b.1.3 (ax
 c.2.1) dQ).1]) (Z (N (dc c.1 [(bh b.1.3 (ax c.2.1) dQ).1],aG .i64 c.2.1 1,()))))) (Z (H 0 c))) n ([],0,
 ())) λc=>bK c (λ_ e=>Z ((e.1,()),())) (λ_ e=>Z (e,())) λ_ _=>Y
def aqh(n:Nat):OC:=⟨137,⟨P99,K71,J,F137 n⟩,cQ [] [(137,0,⟨[(3,.one (.own (.str))),(4,dm)],[],[],0⟩)] n 10 137⟩
def aa1(b:ee×U)(c:Y61)(d:Y61):L cz:=
 [cz.mk (bh (bh b.1.2 (ax c.2.1) mJ).2 (ax d.2.1) iC).1 (ak (bh (bh b.1.2 (ax c.2.1) mJ).2 (ax d.2.1)
 iC).2)]
def F138:Nat->ee×U->O ((L cz×U)×U):=
 λn b=>ah (aQ (Y61) (L cz×U) (U) (λc=>ai (aD c.2.1 (ak b.1.2)) (ah (aQ (Y61) (L cz×U) (U) (λd=>aO (aF c.2.1 b.1.2) (ai (aD d.2.1 (ak (bh b.1.2 (ax c.2.1) mJ).2)) (aO (aF c.2.1 b.1.2) (aO (aF d.2.1 (bh
 b.1.2 (ax c.2.1) mJ).2) (aO (dg d.1 (aa1 b c d)) (Z (N (dc d.1 (aa1 b c d),aG .i64 d.2.1 1,())))))) (Z (H 0
 d)))) n (c.1,0,())) λd=>bK d (λ_ g=>Z (N (g.1,aG .i64 c.2.1 1,()))) (λ_ g=>Z (X () g)) λ_ _=>Y) (Z
 (H 0 c))) n ([],0,())) λc=>bK c (λ_ e=>Z ((e.1,()),())) (λ_ e=>Z (e,())) λ_ _=>Y
def aqg(n:Nat):OC:=⟨138,⟨P99,K101,J,F138 n⟩,cQ [] [(138,0,⟨[(3,.one (.own (.st 2))),(4,dm)],[],[],0⟩),(138,2,⟨[(3,.one (.own (.st 2))),(5,dm)],[],[],0⟩)] n 10 138⟩
def F140:Nat->L cz×U->PD:=
 λn b=>ah (aQ (Y80) (WD) (U) (λc=>ai (aD c.2.1 (ak b.1)) (aO (aF c.2.1 b.1) (aO (dg c.1 [(bh b.1 (ax c.2.1)
 bg).1]) (Z (N (dc c.1 [(bh b.1 (ax c.2.1) bg).1],aG .i64 c.2.1 1,()))))) (Z (H 0 c))) n ([],0,())) λc=>
 bK c (λ_ e=>Z ((e.1,()),())) (λ_ e=>Z (e,())) λ_ _=>Y
def aqf(n:Nat):OC:=⟨140,⟨P8,K71,J,F140 n⟩,cQ [] [(140,0,⟨[(3,.one (.own (.str))),(4,dm)],[],[],0⟩)] n 10 140⟩
def F213:Nat->L cz×L UInt8×U->HT:=
 λn b=>ah (aQ (Int×U) (Int×U) (U) (λc=>ai (aD c.1 (ak b.1)) (aO (aF c.1 b.1) (ai (gw (bh b.1 (ax c.1)
 bg).1 b.2.1) (Z (X () c)) (Z (N (aG .i64 c.1 1,()))))) (Z (H 0 c))) n (0,())) λc=>bK c (λ_ _=>Z
 (((-1),()),())) (λ_ e=>Z (e,())) λ_ _=>Y
def acK(n:Nat):OC:=⟨213,⟨at6,K2,J,F213 n⟩,cQ [] [(213,0,⟨[(5,dm)],[],[],0⟩)] n 10 213⟩
abbrev XV(F:Fn WQ K4 J):lJ sg:=⟨WQ,K4,J,F⟩
def B214:Nat->(amQ->O Y4)->amQ->O Y4:=
 λn f214 c=>ah (ai (aa c.2.1.1 6) (ah (F213 n (c.1.2,c.2.1.3,())) λd=>ai (aD d.1.1 0) (Z (X () (J,()))) (aO (aF
 d.1.1 c.1.2) (ai (aq (aa (bh c.1.2 (ax d.1.1) bg).2 (ak c.2.1.4))) (Z (X () (J,()))) (Z (N (J,W,
 ())))))) (Z (N (J,J,())))) λ(d:yB)=>cr d (λ_=>ah (aQ (Int×U) (Bool×U) (U) (λg=>ai
 (aD g.1 (ak c.2.1.4)) (aO (aF g.1 c.2.1.4) (ah (f214 (c.1,bh c.2.1.4 (ax g.1) aK,())) λh=>ai (aq h.1.1) (Z (X ()
 (J,()))) (Z (N (aG .i64 g.1 1,()))))) (Z (H 0 g))) n (0,())) λg=>bK g (λ_ _=>Z ((W,()),())) (λ_ i=>
 Z (i,())) λ_ _=>Y) (λ_ _=>Y) (λ_ g=>Z (g,())) λ_ _=>Y
def D214(n:Nat)(f214:Fn WQ K4 J)(a:bG prog 214 (XV f214)):bG prog 214 (XV (B214 n f214)):=cQ [acK n,⟨214,XV f214,a⟩] [(214,0,⟨[(6,dm)],[],[],0⟩),(214,1000002,⟨[(4,di),(9,di)],[],[],0⟩)] n 10 214
def R214(n k:Nat):(Fn WQ K4 J):=Nat.rec (motive:=λ_=>(Fn WQ K4 J)) (λ_=>Y) (λ_ r=>B214 n r) k
def F214(n:Nat):Fn WQ K4 J:=(R214 n n)
def afq(n:Nat):∀k,bG prog 214 (XV (R214 n k))
 |0=>cw (enters 214 (by kernel_rfl))
 |k+1=>have a:=afq n k
  D214 n _ a
def apt(n:Nat):OC:=⟨214,XV (F214 n),(afq n n)⟩
def F215:Nat->L (L UInt8)×L (L UInt8)×U->PD:=
 λn b=>aO (dg b.1 b.2.1) (Z ((dc b.1 b.2.1,()),()))
def ajU(n:Nat):OC:=⟨215,⟨at5,K71,J,F215 n⟩,cQ [] [] n 10 215⟩
def F216:Nat->Term×Int×U->PD:=
 λn b=>ah (ai (aa b.1.1 5) (Z (N (W,()))) (Z (N (aa b.1.1 27,())))) λ(c:LO (Bool×U) WD U Any)=>
 cr c (λd=>ai d.1 (Z (([b.1.3],()),())) (ai (aa b.1.1 7) (ai (aa b.2.1 1) (Z (([b.1.3],()),())) (Z (([],()),()))) (ai
 (aa b.1.1 15) (ai (aD 0 b.2.1) (aO (aF (aZ .i64 b.2.1 1) b.1.5) (ah (F281 n (bh b.1.5 (ax (aZ .i64 b.2.1 1)) aK,())) λe
 =>Z e)) (Z (([],()),()))) (Z (([],()),()))))) (λ_ _=>Y) (λ_ e=>Z (e,())) λ_ _=>Y
def ajT(n:Nat):OC:=⟨216,⟨at4,K71,J,F216 n⟩,cQ [ajI n] [(216,1000003,⟨[(7,di)],[],[],0⟩)] n 10 216⟩
abbrev XZ(F:Fn WO K4 J):lJ sg:=⟨WO,K4,J,F⟩
def B142:Nat->(amu->O Y4)->amu->O Y4:=
 λn f142 c=>ai (aa c.2.1.1 4) (ah (F141 n (c.2.2.1,c.2.1.3,())) λd=>ai d.1.1 (Z ((W,()),())) (ah (F141 n (c.1.1,c.2.1.3,
 ())) λe=>Z e)) (ah (ai (aa c.2.1.1 14) (ah (F213 n (c.1.2,c.2.1.3,())) λd=>ai (aD d.1.1 0) (Z (X () (J,()))) (aO
 (aF d.1.1 c.1.2) (ai (aq (aa (bh c.1.2 (ax d.1.1) bg).2 (ak c.2.1.4))) (Z (X () (J,()))) (Z (N (J,W,
 ())))))) (Z (N (J,J,())))) λ(d:yB)=>cr d (λ_=>ah (aQ (Int×U) (Bool×U) (U) (λg=>ai
 (aD g.1 (ak c.2.1.5)) (aO (aF g.1 c.2.1.5) (ah (F214 n (c.1,bh c.2.1.5 (ax g.1) aK,())) λh=>ai (aq h.1.1) (Z (X
 () (J,()))) (Z (N (aG .i64 g.1 1,()))))) (Z (H 0 g))) n (0,())) λg=>bK g (λ_ _=>ah (aQ (Int×U) (Bool×
 U) (U) (λj=>ai (aD j.1 (ak c.2.1.4)) (aO (aF j.1 c.2.1.4) (ah (F216 n (Term.mk c.2.1.1 c.2.1.2 c.2.1.3 c.2.1.4 c.2.1.5,j))
 λk=>ah (F215 n (c.2.2.1,k.1)) λl=>ah (f142 (c.1,bh c.2.1.4 (ax j.1) sd,l.1)) λm=>ai (aq m.1.1) (Z (X () (J,
 ()))) (Z (N (aG .i64 j.1 1,()))))) (Z (H 0 j))) n (0,())) λj=>bK j (λ_ _=>Z ((W,()),())) (λ_ l=>Z
 (l,())) λ_ _=>Y) (λ_ i=>Z (i,())) λ_ _=>Y) (λ_ _=>Y) (λ_ g=>Z (g,())) λ_ _=>Y)
def D142(n:Nat)(f142:Fn WO K4 J)(a:bG prog 142 (XZ f142)):bG prog 142 (XZ (B142 n f142)):=cQ [acM n,⟨142,XZ f142,a⟩,acK n,apt n,ajU n,ajT n] [(142,0,⟨[(8,dm)],[],[],0⟩),(142,2,⟨[(9,dm)],[],[],0⟩),(142,1000004,⟨[(6,di),(28,di)],[],[],0⟩)] n 10 142
def R142(n k:Nat):(Fn WO K4 J):=Nat.rec (motive:=λ_=>(Fn WO K4 J)) (λ_=>Y) (λ_ r=>B142 n r) k
def F142(n:Nat):Fn WO K4 J:=(R142 n n)
def afw(n:Nat):∀k,bG prog 142 (XZ (R142 n k))
 |0=>cw (enters 142 (by kernel_rfl))
 |k+1=>have a:=afw n k
  D142 n _ a
def aqe(n:Nat):OC:=⟨142,XZ (F142 n),(afw n n)⟩
def F143:Nat->amv->HT:=
 λn b=>ah (aQ (Int×U) (Int×U) (U) (λc=>ai (br 0 c.1) (aO (aF c.1 b.1) (ai (gw (bh b.1 (ax c.1) []) b.2.1)
 (Z (X () c)) (Z (N (aZ .i64 c.1 1,()))))) (Z (H 0 c))) n (aZ .i64 (ak b.1) 1,())) λc=>bK c (λ_ _=>
 Z (((-1),()),())) (λ_ e=>Z (e,())) λ_ _=>Y
def aj1(n:Nat):OC:=⟨143,⟨P70,K2,J,F143 n⟩,cQ [] [(143,0,⟨[(5,dm)],[],[],0⟩)] n 10 143⟩
abbrev XU(F:Fn WN K86 J):lJ sg:=⟨WN,K86,J,F⟩
def SY(g:Y88):Bt:=
 (g.2.1.1,g.2.1.2.1,lC (S:=sg) 24 2 (Ty.int .i64) g.2.1.2.2.1 (zL (S:=sg) 24 2 (Ty.int .i64) g.2.1.2.2.1),())
def aib(h:Y89):Bt:=
 (h.2.1.1,h.2.1.2.1,lC (S:=sg) 24 2 (Ty.int .i64) h.2.1.2.2.1 (zL (S:=sg) 24 2 (Ty.int .i64) h.2.1.2.2.1),())
def abj(c:Y90):Bt:=
 (c.1.1,c.1.2.1,lC (S:=sg) 24 2 (Ty.int .i64) c.1.2.2.1 (zL (S:=sg) 24 2 (Ty.int .i64) c.1.2.2.1),())
def aia(h:Bt×Y87×U):Bt:=
 (h.1.1,h.1.2.1,lC (S:=sg) 24 2 (Ty.int .i64) h.1.2.2.1 (zL (S:=sg) 24 2 (Ty.int .i64) h.1.2.2.1),())
def B217:Nat->(Y90->O Y89)->Y90->O Y89:=
 λn f217 c=>ah (ai (aa c.2.1.1 6) (ah (F213 n (c.1.2.1,c.2.1.3,())) λd=>Z (N (W,(c.2.1.1,d.1.1,[],[],()),()))) (Z
 (N (J,(c.2.1.1,c.2.1.2,[],[],()),())))) λ(d:LO (Bool×Y87×U) U (Y87×U) Any)=>cr d (λe=>ah (aQ (Y88) (U) (Bt×Y87×U) (λg=>ai (aD g.1 (ak c.2.1.4)) (aO (aF g.1 c.2.1.4) (ah (f217 (SY g,bh c.2.1.4 (ax g.1) aK,
 ())) λh=>aO (dg g.2.2.1.2.2.2.1 [h.1.1]) (Z (N (aG .i64 g.1 1,aib h,(g.2.2.1.1,g.2.2.1.2.1,g.2.2.1.2.2.1,dc
 g.2.2.1.2.2.2.1 [h.1.1],()),()))))) (Z (H 0 (g.1,SY g,g.2.2)))) n (0,abj c,e.2)) λg=>bK g (λ_ i=>Z ((aB.mk
 i.2.2.1.1 i.2.2.1.2.1 i.2.2.1.2.2.1 i.2.2.1.2.2.2.1,()),SY i,())) (λh _=>Z ((aK,()),aia h,())) λ_ _=>Y) (λ_ _=>
 Y) (λ_ _=>Z ((aK,()),abj c,())) λ_ _=>Y
def D217(n:Nat)(f217:Fn WN K86 J)(a:bG prog 217 (XU f217)):bG prog 217 (XU (B217 n f217)):=cQ [acK n,⟨217,XU f217,a⟩] [(217,0,⟨[(6,dm),(0,Wt),(0,ahv)],[.slot 0,.slot 5],[],0⟩),(217,1000003,⟨[(14,di),(0,ahv)],[.slot 5],[],0⟩)] n 10 217
def R217(n k:Nat):(Fn WN K86 J):=Nat.rec (motive:=λ_=>(Fn WN K86 J)) (λ_=>Y) (λ_ r=>B217 n r) k
def F217(n:Nat):Fn WN K86 J:=(R217 n n)
def afp(n:Nat):∀k,bG prog 217 (XU (R217 n k))
 |0=>cw (enters 217 (by kernel_rfl))
 |k+1=>have a:=afp n k
  D217 n _ a
def aps(n:Nat):OC:=⟨217,XU (F217 n),(afp n n)⟩
abbrev XY(F:Fn WM K2 J):lJ sg:=⟨WM,K2,J,F⟩
def S4(g:Bool×PB×U):PB×U:=
 ((g.2.1.1,g.2.1.2.1,[],g.2.1.2.2.2),())
def S3(i:ahO):L (L Int):=
 zL (S:=sg) 24 2 (Ty.int .i64) i.2.1.2.2.1
def abm(i:ahO):Bt:=
 (i.2.1.1,i.2.1.2.1,lC (S:=sg) 24 2 (Ty.int .i64) i.2.1.2.2.1 (S3 i),())
def aif(j:Y89):L (L Int):=
 zL (S:=sg) 24 2 (Ty.int .i64) j.2.1.2.2.1
def aie(j:Y89):Bt:=
 (j.2.1.1,j.2.1.2.1,lC (S:=sg) 24 2 (Ty.int .i64) j.2.1.2.2.1 (aif j),())
def abl(c:PA):Bt:=
 (c.1.1,c.1.2.1,lC (S:=sg) 24 2 (Ty.int .i64) c.1.2.2.1 (zL (S:=sg) 24 2 (Ty.int .i64) c.1.2.2.1),())
def aid(l:Int×Bt×U):L (L Int):=
 zL (S:=sg) 24 2 (Ty.int .i64) l.2.1.2.2.1
def S2(l:Int×Bt×U):Bt:=
 (l.2.1.1,l.2.1.2.1,lC (S:=sg) 24 2 (Ty.int .i64) l.2.1.2.2.1 (aid l),())
def xB(c:PA):Nat:=
 ax (ak c.1.2.2.1)
def Fa(p:Sl):L (L Int):=
 zL (S:=sg) 24 2 (Ty.int .i64) p.2.1.2.2.1
def aeg(m:Bt×U):Bt:=
 (m.1.1,m.1.2.1,lC (S:=sg) 24 2 (Ty.int .i64) m.1.2.2.1 (zL (S:=sg) 24 2 (Ty.int .i64) m.1.2.2.1),())
def aef(n:Nat)(f144:PA->O Sl)(m:Bt×U):ahN:=
 λo=>Z (o,aeg m,())
def aee(j:Bt×PB×U):Bt:=
 (j.1.1,j.1.2.1,lC (S:=sg) 24 2 (Ty.int .i64) j.1.2.2.1 (zL (S:=sg) 24 2 (Ty.int .i64) j.1.2.2.1),())
def aed(n:Nat)(f144:PA->O Sl)(j:Bt×PB×U):ahN:=
 λk=>Z (k,aee j,())
def UH(n:Nat)(f144:PA->O Sl)(c:PA):ahN:=
 λi=>Z (i,abl c,())
def B144:Nat->(PA->O Sl)->PA->O Sl:=
 λn f144 c=>ah (ai (aa c.2.1.1 4) (ah (F143 n (c.2.2.1,c.2.1.3,())) λd=>ah (ai (aD d.1.1 0) (ah (F143 n (c.1.1,c.2.1.3,()))
 λe=>Z (N (W,(c.2.1.1,aZ .i64 (-1) e.1.1,[],[],()),()))) (Z (N (J,(c.2.1.1,d.1.1,[],[],()),())))) λ(e :
 ahM)=>cr e (λg=>Z (N (W,S4 g))) (λ_ _=>Y) (λg h=>Z (X ((g.1.1,g.1.2.1,[],g.1.2.2.2),()) h)) λ_
 _=>Y) (Z (N (J,(c.2.1.1,c.2.1.2,[],[],()),())))) λ(d:ahM)=>cr d (λe=>ah (ai (aa c.2.1.1 14) (ah (F213 n
 (c.1.2.1,c.2.1.3,())) λg=>Z (N (W,(e.2.1.1,g.1.1,[],e.2.1.2.2.2),()))) (Z (N (J,S4 e)))) λ(g:ahM)=>
 cr g (λh=>ah (aQ (ahO) (Int×U) (Bt×PB×U) (λi=>ai (aD i.1 (ak c.2.1.5)) (aO (aF i.1 c.2.1.5) (ah (F217
 n (abm i,bh c.2.1.5 (ax i.1) aK,())) λj=>aO (dg i.2.2.1.2.2.2.1 [j.1.1]) (Z (N (aG .i64 i.1 1,aie j,(i.2.2.1.1,
 i.2.2.1.2.1,[],dc i.2.2.1.2.2.2.1 [j.1.1],()),()))))) (Z (H 0 (i.1,abm i,(i.2.2.1.1,i.2.2.1.2.1,[],i.2.2.1.2.2.2),())))) n (0,
 abl c,S4 h)) λi=>bK i (λ_ k=>aO (bS (acv k.2.1.2.2.1 (S3 k)) (dg k.2.1.2.2.1 [gD.mk k.2.2.1.1 k.2.2.1.2.1 []
 k.2.2.1.2.2.2.1])) (ah (aQ (Int×Bt×U) (Int×U) (Bt×U) (λl=>ai (aD l.1 (ak c.2.1.4)) (aO (aF l.1 c.2.1.4) (ah
 (F216 n (Term.mk c.2.1.1 c.2.1.2 c.2.1.3 c.2.1.4 c.2.1.5,l.1,())) λm=>ah (F215 n (c.2.2.1,m.1)) λo=>ah (f144 (S2 l,bh c.2.1.4
 (ax l.1) sd,o.1)) λp=>aO (aF (ak c.1.2.2.1) p.2.1.2.2.1) (aO (dX (xB c) p.2.1.2.2.1) (aO (bS (dX (xB c) (Fa p))
 (dg (bh (Fa p) (xB c) []) [p.1.1])) (aO (aF (ak c.1.2.2.1) p.2.1.2.2.1) (aO (Zg (xB c) p.2.1.2.2.1 (xB c) (xB c))
 (Z (N (aG .i64 l.1 1,(p.2.1.1,p.2.1.2.1,lC (S:=sg) 24 2 (Ty.int .i64) p.2.1.2.2.1 (lF (Fa p) (xB c) (dc (bh (Fa
 p) (xB c) []) [p.1.1])),()),()))))))))) (Z (H 0 (l.1,S2 l,())))) n (0,(k.2.1.1,k.2.1.2.1,lC (S:=sg) 24 2 (Ty.int .i64)
 (dc k.2.1.2.2.1 [gD.mk k.2.2.1.1 k.2.2.1.2.1 [] k.2.2.1.2.2.2.1]) (dc (S3 k) [[]]),()),())) λl=>bK l (λ_ o=>Z ((ak
 c.1.2.2.1,()),S2 o,())) (λm=>aef n f144 m) λ_ _=>Y)) (λj=>aed n f144 j) λ_ _=>Y) (λ_ _=>Y) (λ_=>
 UH n f144 c) λ_ _=>Y) (λ_ _=>Y) (λ_=>UH n f144 c) λ_ _=>Y
def D144(n:Nat)(f144:Fn WM K2 J)(a:bG prog 144 (XY f144)):bG prog 144 (XY (B144 n f144)):=cQ [aj1 n,⟨144,XY f144,a⟩,acK n,ajU n,ajT n,aps n] [(144,0,⟨[(9,dm),(0,Wt),(0,adO)],[.slot 0,.slot 8],[],0⟩),(144,2,⟨[(10,dm),(0,Wt)],[.slot 0],[],0⟩),(144,1000004,⟨[(24,di),(0,adO)],[.slot 8],[],0⟩),(144,1000006,⟨[(32,di),(0,adO)],[.slot 8],[],0⟩),(144,1000008,⟨[(44,di),(0,adO)],[.slot 8],[],0⟩)] n 10 144
def R144(n k:Nat):(Fn WM K2 J):=Nat.rec (motive:=λ_=>(Fn WM K2 J)) (λ_=>Y) (λ_ r=>B144 n r) k
def F144(n:Nat):Fn WM K2 J:=(R144 n n)
def afv(n:Nat):∀k,bG prog 144 (XY (R144 n k))
 |0=>cw (enters 144 (by kernel_rfl))
 |k+1=>have a:=afv n k
  D144 n _ a
def aqd(n:Nat):OC:=⟨144,XY (F144 n),(afv n n)⟩
def am5(b:ee×U)(k:Int×Y68×U):Y69:=
 (Term.mk (bh b.1.3 (ax k.1) dQ).5.1 (bh b.1.3 (ax k.1) dQ).5.2 (bh b.1.3 (ax k.1) dQ).5.3 (bh b.1.3 (ax k.1)
 dQ).5.4 (bh b.1.3 (ax k.1) dQ).5.5,[(bh b.1.3 (ax k.1) dQ).2],())
def Kw(k:Int×Y68×U):Y68×U:=
 (([],[],k.2.1.2.2.1,[],()),())
def aaN(p:Y71):L gD:=
 lC (S:=sg) 24 2 (Ty.int .i64) p.2.2.1.2.2.1 (zL (S:=sg) 24 2 (Ty.int .i64) p.2.2.1.2.2.1)
def am4(b:ee×U)(p:Y71):Y69:=
 (Term.mk (bh b.1.3 (ax p.1) dQ).5.1 (bh b.1.3 (ax p.1) dQ).5.2 (bh b.1.3 (ax p.1) dQ).5.3 (bh b.1.3 (ax p.1)
 dQ).5.4 (bh b.1.3 (ax p.1) dQ).5.5,[(bh b.1.3 (ax p.1) dQ).2],())
def F97:Nat->ee×U->O ((gQ×Int×U)×U):=
 λn b=>ah (F136 n b) λc=>ai (aq c.1.1) (Z ((qv,2,()),())) (ah (F137 n b) λd=>ah (F138 n b) λe=>ah (F139 n d.1)
 λg=>ai (aq g.1.1) (Z ((qv,7,()),())) (ah (F140 n e.1) λh=>ah (F139 n h.1) λi=>ai (aq i.1.1) (Z ((qv,
 7,()),())) (ah (F141 n (d.1.1,[109,97,105,110],())) λj=>ai (aq j.1.1) (Z ((qv,7,()),())) (ah (aQ (Int×Y68×U) (Int×U) (Y68×U) (λk=>ai (aD k.1 (ak b.1.3)) (aO (aF k.1 b.1.3) (aO (aF k.1 b.1.3) (ah (F142 n (dP.mk
 d.1.1 e.1.1 [],am5 b k)) λl=>ai (aq l.1.1) (Z (X (([],[],0,[],()),()) (7,()))) (Z (N (aG .i64 k.1 1,Kw
 k)))))) (Z (H 0 (k.1,Kw k)))) n (0,([],[],0,[],()),())) λk=>bK k (λ_ m=>ah (F143 n (d.1.1,[109,97,105,110],()))
 λo=>ah (aQ (Y71) (Int×U) (Y68×Bt×U) (λp=>ai (aD p.1 (ak b.1.3)) (aO (dg p.2.1.2.1 [ak p.2.2.1.2.2.1]) (aO
 (aF p.1 b.1.3) (aO (aF p.1 b.1.3) (ah (F144 n ((p.2.2.1.1,p.2.2.1.2.1,aaN p,()),am4 b p)) λq=>Z (N (aG .i64 p.1 1,([],
 dc p.2.1.2.1 [ak p.2.2.1.2.2.1],p.2.1.2.2),(q.2.1.1,q.2.1.2.1,lC (S:=sg) 24 2 (Ty.int .i64) q.2.1.2.2.1 (zL (S:=sg) 24 2 (Ty.int .i64)
 q.2.1.2.2.1),()),())))))) (Z (H 0 (p.1,([],p.2.1.2),(p.2.2.1.1,p.2.2.1.2.1,aaN p,()),())))) n (0,([],[],o.1.1,e.1),(d.1.1,
 e.1.1,[],()),())) λp=>bK p (λ_ r=>ah (aQ (Int×Y68×U) (Int×U) (Y68×U) (λs=>ai (aD s.1 (ak
 r.2.2.1.2.2.1)) (aO (aF s.1 r.2.2.1.2.2.1) (aO (dX (ax s.1) r.2.2.1.2.2.1) (ai (aa (bh r.2.2.1.2.2.1 (ax s.1) tW).1 4) (aO (aF
 s.1 r.2.2.1.2.2.1) (aO (dX (ax s.1) r.2.2.1.2.2.1) (ai (br 30 (bh r.2.2.1.2.2.1 (ax s.1) tW).2) (Z (X (([],[],0,[],()),
 ()) (3,()))) (Z (N (aG .i64 s.1 1,Kw s)))))) (Z (N (aG .i64 s.1 1,Kw s)))))) (Z (H 0 (s.1,Kw s)))) n (0,
 Kw m)) λs=>bK s (λ_ _=>Z ((gQ.mk (aaN r) r.2.1.2.1 r.2.1.2.2.1 r.2.1.2.2.2.1,0,()),())) (λt u=>Z ((gQ.mk []
 [] t.1.2.2.1 [],u),())) λ_ _=>Y) (λ_ r=>Z ((gQ.mk [] [] m.2.1.2.2.1 [],r),())) λ_ _=>Y) (λl m=>Z
 ((gQ.mk [] [] l.1.2.2.1 [],m),())) λ_ _=>Y))))
def k97(n:Nat):OC:=⟨97,⟨P99,K109,J,F97 n⟩,cQ [aj2 n,aqh n,aqg n,agi n,aqf n,acM n,aqe n,aj1 n,aqd n] [(97,0,⟨[(5,dm),(0,al3)],[.slot 2],[],0⟩),(97,2,⟨[(7,dm),(0,.box (.cells [.nil (.st 24),.own (.int .i64),mh,b8y])),(0,Wt)],[.slot 6,.slot 18],[],0⟩),(97,4,⟨[(8,dm),(0,al3)],[.slot 2],[],0⟩)] n 10 97⟩
def F146:Nat->bN×Int×U->O Iz:=
 λn b=>aO (aF b.2.1 b.1.1) (aO (dX (ax b.2.1) b.1.1) (ai (aa (bh b.1.1 (ax b.2.1) bP).1 19) (aO (aF b.2.1 b.1.1) (aO (dX
 (ax b.2.1) b.1.1) (Z ((bN.mk (lF b.1.1 (ax b.2.1) (bR.mk (bh b.1.1 (ax b.2.1) bP).1 (bh b.1.1 (ax b.2.1)
 bP).2 (ak b.1.1))) b.1.2 b.1.3,()),())))) (aO (aF b.2.1 b.1.1) (aO (dX (ax b.2.1) b.1.1) (Z ((bN.mk (lF b.1.1 (ax
 b.2.1) (bR.mk (bh b.1.1 (ax b.2.1) bP).1 (ak b.1.1) (bh b.1.1 (ax b.2.1) bP).3)) b.1.2 b.1.3,()),()))))))
def agh(n:Nat):OC:=⟨146,⟨at3,K111,J,F146 n⟩,cQ [] [] n 10 146⟩
def F218:amE:=
 λn b=>aO (dg b.1.1 [bR.mk b.2.1 b.2.2.1 0]) (Z ((bN.mk (dc b.1.1 [bR.mk b.2.1 b.2.2.1 0]) b.1.2 b.1.3,()),()))
def acJ(n:Nat):OC:=⟨218,⟨amX,K111,J,F218 n⟩,cQ [] [] n 10 218⟩
def F219:Nat->bN×Bool×U->O Iz:=
 λn b=>ai b.2.1 (ah (F218 n (b.1,34,0,())) λc=>Z c) (Z ((b.1,()),()))
def apr(n:Nat):OC:=⟨219,⟨at2,K111,J,F219 n⟩,cQ [acJ n] [] n 10 219⟩
def F220:amE:=
 λn b=>aO (dg b.1.3 [og.mk b.2.2.1 (ak b.1.1)]) (ah (F218 n (bN.mk b.1.1 b.1.2 (dc b.1.3 [og.mk b.2.2.1 (ak
 b.1.1)]),b.2.1,0,())) λc=>Z c)
def apq(n:Nat):OC:=⟨220,⟨amX,K111,J,F220 n⟩,cQ [acJ n] [] n 10 220⟩
abbrev XW(F:Fn P3 K2 J):lJ sg:=⟨P3,K2,J,F⟩
def B163:Y97:=
 λn f163 c=>ah (ai (aa c.1.1 2) (Z (N (1,W,()))) (Z (N (0,J,())))) λ(d:Y98)=>cr d (λe=>ah (@iter
 (Int×Int×U) (Int×U) (U) (Any) (λg=>ai (aD g.2.1 (ak c.1.4)) (aO (aF g.2.1 c.1.4) (ah (f163 (bh c.1.4 (ax g.2.1)
 aK,())) λh=>Z (N (aG .i64 g.1 h.1.1,aG .i64 g.2.1 1,())))) (Z (H 0 g))) n (e.1,0,())) λg=>bK g (λ_ i
 =>Z ((i.1,()),())) (λ_ i=>Z (i,())) λ_ _=>Y) (λ_ _=>Y) (λ_ g=>Z (g,())) λ_ _=>Y
def D163(n:Nat)(f163:Fn P3 K2 J)(a:bG prog 163 (XW f163)):bG prog 163 (XW (B163 n f163)):=cQ [⟨163,XW f163,a⟩] [(163,0,⟨[(3,dm),(4,dm)],[],[],0⟩),(163,1000003,⟨[(3,dm),(7,di)],[],[],0⟩)] n 10 163
def R163(n k:Nat):(Fn P3 K2 J):=Nat.rec (motive:=λ_=>(Fn P3 K2 J)) (λ_=>Y) (λ_ r=>B163 n r) k
def F163(n:Nat):Fn P3 K2 J:=(R163 n n)
def afr(n:Nat):∀k,bG prog 163 (XW (R163 n k))
 |0=>cw (enters 163 (by kernel_rfl))
 |k+1=>have a:=afr n k
  D163 n _ a
def ajX(n:Nat):OC:=⟨163,XW (F163 n),(afr n n)⟩
def F222:amD:=
 λn b=>ai (aa b.1 3) (Z ((3,()),())) (ai (aa b.1 9) (Z ((13,()),())) (ai (aa b.1 10) (Z ((14,()),())) (ai (aa b.1
 11) (Z ((15,()),())) (ai (aa b.1 12) (Z ((16,()),())) (ai (aa b.1 13) (Z ((17,()),())) (ai (aa b.1 16) (Z ((21,()),()))
 (ai (aa b.1 17) (Z ((22,()),())) (ai (aa b.1 18) (Z ((23,()),())) (ai (aa b.1 19) (Z ((24,()),())) (ai (aa b.1 20) (Z
 ((25,()),())) (ai (aa b.1 21) (Z ((26,()),())) (ai (aa b.1 22) (Z ((27,()),())) (ai (aa b.1 23) (Z ((28,()),())) (ai
 (aa b.1 25) (Z ((30,()),())) (Z ((33,()),()))))))))))))))))
def apo(n:Nat):OC:=⟨222,⟨P26,K2,J,F222 n⟩,cQ [] [] n 10 222⟩
abbrev QW(F:Fn Ss K111 J):lJ sg:=⟨Ss,K111,J,F⟩
def fy(d:Wz):gD:=
 bh d.2.1.1 (ax d.2.2.1) tW
def Iu(d:Wz):Int×U:=
 ((fy d).2,())
def s6(n:Nat)(f145:Wz->O Iz)(f221:Y32->O Iz)(d:Wz):Iz->O Iz:=
 λe=>ah (F219 n (e.1.1,d.2.2.2)) λg=>Z g
def Dc(d:Wz):Bool:=
 aF 0 (fy d).3
def S1(d:Wz):Int×U:=
 (bh (fy d).3 (ax 0) 0,())
def S0(f145:Wz->O Iz)(d:Wz):O Iz:=
 f145 (d.1,d.2.1,bh (fy d).3 (ax 0) 0,J,())
def abk(f145:Wz->O Iz)(d:Wz)(g:Iz):O Iz:=
 f145 (g.1.1,d.2.1,bh (fy d).3 (ax 1) 0,d.2.2.2)
def SZ(i:Iz):Py×U:=
 ((i.1.1.1,i.1.1.2,i.1.1.3,()),())
def aic(j:Bool×Py×U):bN:=
 bN.mk j.2.1.1 j.2.1.2.1 j.2.1.2.2.1
def MN(n:Nat)(e:Iz)(h:Iz):O Iz:=
 F146 n (h.1.1,ak e.1.1.1,())
def yj(e:Int×Py×U):bN:=
 bN.mk e.2.1.1 e.2.1.2.1 e.2.1.2.2.1
def B145:Nat->(Wz->O Iz)->(Y32->O Iz)->Wz->O Iz:=
 λn f145 f221 d=>aO (aF d.2.2.1 d.2.1.1) (ai (aa (fy d).1 1) (ah (F218 n (d.1,1,Iu d)) (s6 n f145 f221 d)) (ai (aa
 (fy d).1 2) (ah (F218 n (d.1,2,Iu d)) (s6 n f145 f221 d)) (ai (aa (fy d).1 4) (ai (aD (fy d).2 0) (ah (F218 n (d.1,5,
 aZ .i64 (-1) (fy d).2,())) (s6 n f145 f221 d)) (ah (F218 n (d.1,4,Iu d)) (s6 n f145 f221 d))) (ai (aa (fy d).1 5) (aO
 (Dc d) (ah (F220 n (d.1,6,S1 d)) (s6 n f145 f221 d))) (ai (aa (fy d).1 26) (aO (Dc d) (ah (F220 n (d.1,31,S1 d))
 (s6 n f145 f221 d))) (ai (aa (fy d).1 27) (aO (Dc d) (ah (F220 n (d.1,32,S1 d)) (s6 n f145 f221 d))) (ai (aa (fy
 d).1 7) (aO (Dc d) (ah (S0 f145 d) λe=>ah (F218 n (e.1.1,9,0,())) λg=>aO (aF 1 (fy d).3) (ah (abk f145 d g) λh=>
 ah (ai (aq d.2.2.2.1) (ah (F218 n (h.1.1,10,1,())) λi=>Z (N (W,SZ i))) (Z (N (J,SZ h)))) λ(i :
 Y34)=>cr i (λj=>Z ((aic j,()),())) (λ_ _=>Y) (λ_ _=>Z ((g9,()),())) λ_ _=>Y))) (ai (aa
 (fy d).1 8) (aO (Dc d) (ah (S0 f145 d) λe=>ah (F218 n (e.1.1,12,0,())) λg=>aO (aF 1 (fy d).3) (ah (abk f145 d g)
 λh=>ai d.2.2.2.1 (ah (MN n e h) λi=>aO (aF 2 (fy d).3) (ah (f145 (i.1.1,d.2.1,bh (fy d).3 (ax 2) 0,W,())) λj
 =>Z j)) (ah (F218 n (h.1.1,11,0,())) λi=>ah (MN n e i) λj=>aO (aF 2 (fy d).3) (ah (f145 (j.1.1,d.2.1,bh (fy d).3
 (ax 2) 0,J,())) λk=>ah (MN n h k) λl=>Z l))))) (ai (aa (fy d).1 15) (aO (Dc d) (ah (S0 f145 d) λe=>
 ah (f221 (e.1.1,d.2.1,fy d,d.2.2.2)) λg=>Z g)) (ah (aQ (Int×Py×U) (U) (Py×U) (λe=>ai (aD e.1 (ak
 (fy d).3)) (aO (aF e.1 (fy d).3) (ah (f145 (yj e,d.2.1,bh (fy d).3 (ax e.1) 0,J,())) λg=>Z (N (aG .i64
 e.1 1,SZ g)))) (Z (H 0 e))) n (0,(d.1.1,d.1.2,d.1.3,()),())) λe=>bK e (λ_ h=>ai (aa (fy d).1 6) (ai d.2.2.2.1
 (ah (F218 n (yj h,8,0,())) λi=>Z i) (ah (F218 n (yj h,7,0,())) λi=>Z i)) (ai (aa (fy d).1 14) (ah (F218 n
 (yj h,18,Iu d)) (s6 n f145 f221 d)) (ai (aa (fy d).1 24) (ah (F218 n (yj h,29,Iu d)) (s6 n f145 f221 d)) (ah
 (F222 n ((fy d).1,())) λi=>ah (F218 n (yj h,i.1.1,0,())) (s6 n f145 f221 d))))) (λ_ _=>Z ((g9,()),()))
 λ_ _=>Y))))))))))
abbrev ab2(F:Fn aaD K111 J):lJ sg:=⟨aaD,K111,J,F⟩
def Db(i:Iz):Py×U:=
 ((i.1.1.1,i.1.1.2,i.1.1.3,()),())
def ah9(j:Bool×Py×U):bN:=
 bN.mk j.2.1.1 j.2.1.2.1 j.2.1.2.2.1
def abi(i:Int×Py×U):bN:=
 bN.mk i.2.1.1 i.2.1.2.1 i.2.1.2.2.1
def B221:Nat->(Wz->O Iz)->Y32->O Iz:=
 λn f145 c=>ah (aQ (Y33) (U) (Py×U) (λd=>ai (aD d.2.1 (ak c.2.2.1.4)) (aO (aF d.2.1 c.2.2.1.4) (aO (dg
 d.2.2.1.2.1 [bh c.2.2.1.4 (ax d.2.1) aK]) (aO (aF (aG .i64 1 d.2.1) c.2.2.1.3) (ah (F218 n (bN.mk d.2.2.1.1 (dc
 d.2.2.1.2.1 [bh c.2.2.1.4 (ax d.2.1) aK]) d.2.2.1.2.2.1,19,aZ .i64 (ak (dc d.2.2.1.2.1 [bh c.2.2.1.4 (ax d.2.1) aK])) 1,
 ())) λe=>ah (f145 (e.1.1,c.2.1,bh c.2.2.1.3 (ax (aG .i64 1 d.2.1)) 0,c.2.2.2)) λg=>ai (aq c.2.2.2.1) (aO (aF d.2.1
 c.2.2.1.4) (ah (F163 n (bh c.2.2.1.4 (ax d.2.1) aK,())) λh=>ah (ai (aD 0 h.1.1) (ah (F218 n (g.1.1,10,h.1)) λi=>Z
 (N (W,Db i))) (Z (N (J,Db g)))) λ(i:Y34)=>cr i (λj=>aO (dg d.1 [ak j.2.1.1]) (ah (F218 n (ah9
 j,11,0,())) λk=>ah (F146 n (k.1.1,ak d.2.2.1.1,())) λl=>Z (N (dc d.1 [ak j.2.1.1],aG .i64 d.2.1 1,Db l)))) (λ
 _ _=>Y) (λj _=>Z (X j ())) λ_ _=>Y)) (ah (F146 n (g.1.1,ak d.2.2.1.1,())) λh=>Z (N (d.1,aG .i64 d.2.1
 1,Db h))))))) (Z (H 0 d))) n ([],0,(c.1.1,c.1.2,c.1.3,()),())) λd=>bK d (λ_ g=>ah (F218 n (bN.mk
 g.2.2.1.1 g.2.2.1.2.1 g.2.2.1.2.2.1,20,0,())) λh=>ah (aQ (Int×Py×U) (U) (Py×U) (λi=>ai (aD i.1 (ak g.1))
 (aO (aF i.1 g.1) (aO (dX (ax i.1) g.1) (ah (F146 n (abi i,bh g.1 (ax i.1) 0,())) λj=>Z (N (aG .i64 i.1 1,Db
 j))))) (Z (H 0 i))) n (0,Db h)) λi=>bK i (λ_ k=>Z ((abi k,()),())) (λ_ _=>Z ((g9,()),())) λ
 _ _=>Y) (λ_ _=>Z ((g9,()),())) λ_ _=>Y
def D145(n:Nat)(f145:Fn Ss K111 J)(f221:Fn aaD K111 J)(a:bG prog 145 (QW f145))(b:bG prog 221 (ab2 f221)):bG prog 145 (QW (B145 n f145 f221)):=cQ [⟨145,QW f145,a⟩,agh n,acJ n,apr n,apq n,⟨221,ab2 f221,b⟩,apo n] [(145,1,⟨[(12,dm),(0,Sb)],[.slot 4],[],0⟩),(145,1000020,⟨[(102,di),(0,Sb)],[.slot 4],[],0⟩)] n 10 145
def D221(n:Nat)(f145:Fn Ss K111 J)(a:bG prog 145 (QW f145)):bG prog 221 (ab2 (B221 n f145)):=cQ [⟨145,QW f145,a⟩,agh n,ajX n,acJ n] [(221,0,⟨[(9,.one (.own (.int .i64))),(10,dm),(0,Sb)],[.slot 4],[],0⟩),(221,2,⟨[(13,dm),(0,Sb)],[.slot 4],[],0⟩),(221,1000011,⟨[(59,di),(0,Sb)],[.slot 4],[],0⟩)] n 10 221
def R145(n k:Nat):(Fn Ss K111 J)×(Fn aaD K111 J):=Nat.rec (motive:=λ_=>(Fn Ss K111 J)×(Fn aaD K111 J)) ((λ_=>Y,λ_=>Y)) (λ_ r=>(B145 n r.1 r.2,B221 n r.1)) k
def F145(n:Nat):Fn Ss K111 J:=(R145 n n).1
def afu(n:Nat):∀k,bG prog 145 (QW (R145 n k).1)/\bG prog 221 (ab2 (R145 n k).2)
 |0=>⟨cw (enters 145 (by kernel_rfl)),cw (enters 221 (by kernel_rfl))⟩
 |k+1=>have a:=afu n k
  ⟨D145 n _ _ a.1 a.2,D221 n _ a.1⟩
def aqc(n:Nat):OC:=⟨145,QW (F145 n),(afu n n).1⟩
def F98:Nat->gQ×U->Y95:=
 λn b=>ah (aQ (Y33) (U) (Py×U) (λc=>ai (aD c.2.1 (ak b.1.2)) (aO (dg c.1 [ak c.2.2.1.1]) (aO (aF c.2.1 b.1.2)
 (ah (F145 n (bN.mk c.2.2.1.1 c.2.2.1.2.1 c.2.2.1.2.2.1,b.1,bh b.1.2 (ax c.2.1) 0,W,())) λd=>Z (N (dc c.1 [ak
 c.2.2.1.1],aG .i64 c.2.1 1,(d.1.1.1,d.1.1.2,d.1.1.3,()),()))))) (Z (H 0 c))) n ([],0,([],[],[],()),())) λc=>bK c (λ_
 e=>ah (aQ (Int×Py×U) (U) (Py×U) (λg=>ai (aD g.1 (ak g.2.1.2.2.1)) (aO (aF g.1 g.2.1.2.2.1) (ah (F146 n
 (bN.mk g.2.1.1 g.2.1.2.1 g.2.1.2.2.1,(bh g.2.1.2.2.1 (ax g.1) A8).2,())) λh=>aO (aF g.1 g.2.1.2.2.1) (ah (F145 n
 (h.1.1,b.1,(bh g.2.1.2.2.1 (ax g.1) A8).1,W,())) λi=>Z (N (aG .i64 g.1 1,(i.1.1.1,i.1.1.2,i.1.1.3,()),())))))
 (Z (H 0 g))) n (0,e.2.2)) λg=>bK g (λ_ i=>Z ((aA.mk i.2.1.1 i.2.1.2.1 e.1 b.1.3 b.1.4,()),())) (λ_ _=>Z
 ((qu,()),())) λ_ _=>Y) (λ_ _=>Z ((qu,()),())) λ_ _=>Y
def k98(n:Nat):OC:=⟨98,⟨at1,K117,J,F98 n⟩,cQ [aqc n,agh n] [(98,0,⟨[(4,.one (.own (.int .i64))),(5,dm),(0,Sb)],[.slot 3],[],0⟩),(98,2,⟨[(6,dm),(0,Sb)],[.slot 3],[],0⟩)] n 10 98⟩
def F42:Nat->L UInt8×U->Y95:=
 λn b=>ah (F96 n b) λc=>ah (F97 n (c.1.1,())) λd=>ah (F98 n (d.1.1,())) λe=>Z e
def k42(n:Nat):OC:=⟨42,⟨P7,K117,J,F42 n⟩,cQ [k96 n,k97 n,k98 n] [] n 10 42⟩
def F43:Y92:=
 λn b=>Z ((az.mk 1 b.1,()),())
def k43(n:Nat):OC:=⟨43,⟨P26,K20,J,F43 n⟩,cQ [] [] n 10 43⟩
def aa3(n:Nat):Y95:=
 F42 n ([109,111,100,117,108,101,32,97,32,123,32,102,117,110,32,109,97,105,110,40,117,32,58,32,117,110,105,116,41,32,58,
 32,105,110,116,32,61,32,108,101,116,32,99,32,61,32,99,101,108,108,40,49,41,32,105,110,32,108,101,116,32,120,32,61,32,
 111,117,116,40,48,44,32,103,101,116,40,99,41,41,32,105,110,32,108,101,116,32,121,32,61,32,112,117,116,40,99,44,32,105,
 110,112,117,116,41,32,105,110,32,103,101,116,40,99,41,32,43,32,49,59,32,125],())
def y6(n:Nat):O Y4:=
 Z ((J,()),())
def KF(e:Y96):aP:=
 bh e.1.2.1 (ax 2) ct
def KE(e:Y96):aP:=
 bh e.1.2.1 (ax 5) ct
def F12:Nat->U->O Y4:=
 λn _=>ah (F42 n ([109,111,100,117,108,101,32,98,32,123,32,102,117,110,32,119,111,114,107,40,99,32,58,32,99,104,97,110,
 32,105,110,116,41,32,58,32,117,110,105,116,32,61,32,108,101,116,32,120,32,61,32,115,101,110,100,40,99,44,32,53,41,32,
 105,110,32,115,101,110,100,40,99,44,32,54,41,59,32,102,117,110,32,109,97,105,110,40,117,32,58,32,117,110,105,116,41,
 32,58,32,105,110,116,32,61,32,108,101,116,32,99,32,61,32,99,104,97,110,32,105,110,32,108,101,116,32,116,32,61,32,115,
 112,97,119,110,40,102,117,110,32,117,32,61,62,32,119,111,114,107,32,99,41,32,105,110,32,116,97,107,101,40,99,41,32,43,
 32,114,101,115,101,116,40,49,32,43,32,40,115,104,105,102,116,32,107,32,61,62,32,107,32,40,107,32,49,48,41,41,41,59,
 32,125],())) λc=>ah (F13 n (c.1.1,[],())) λd=>ah (F20 n (c.1.1,d.1.1,[0,0,1,1,0,0,1],())) λe=>ah (F24 n (c.1.1,e.1.1,
 ())) λg=>ah (aa3 n) λh=>ah (F13 n (h.1.1,[],())) λi=>ah (aa3 n) λj=>ah (F28 n (j.1.1,i.1.1,0,())) λk=>ai (aq
 (aa d.1.2.1 0)) (y6 n) (ai (aq (aa e.1.2.2.1 0)) (y6 n) (ai (aq (aa g.1.2.1 0)) (y6 n) (ai (aq (aa i.1.2.1 0))
 (y6 n) (ai (aq (aa k.1.2.2.2.1 0)) (y6 n) (ai (aq (aa (ak e.1.2.1) 7)) (y6 n) (aO (aF 2 e.1.2.1) (ah (F43 n (5,())) λ
 l=>ai (bS (aa (KF e).1 1) (bS (aa (KF e).2 22) (bS (aa (KF e).3 0) (bS (aa (KF e).4.1 l.1.1.1) (bS
 (aa (KF e).4.2 l.1.1.2) W))))) (aO (aF 5 e.1.2.1) (ah (F43 n (17,())) λm=>ai (bS (aa (KE e).1 0) (bS (aa (KE
 e).2 0) (bS (aa (KE e).3 1) (bS (aa (KE e).4.1 m.1.1.1) (bS (aa (KE e).4.2 m.1.1.2) W))))) (ai (aa (ak g.1.1.1)
 2) (ah (F43 n (1,())) λo=>ai (bS (aa k.1.2.1.1 0) (bS (aa k.1.2.1.2 16) (bS (aa k.1.2.1.3 0) (bS (aa k.1.2.1.4.1
 o.1.1.1) (bS (aa k.1.2.1.4.2 o.1.1.2) W))))) (Z ((aa k.1.2.2.1 3,()),())) (y6 n)) (y6 n)) (y6 n))) (y6 n))))))))
def k12(n:Nat):OC:=⟨12,⟨[],K4,J,F12 n⟩,cQ [k13 n,k20 n,k24 n,k28 n,k42 n,k43 n] [] n 10 12⟩
def F104:Y41:=
 λn b=>ai (br b.2.1 b.1) (Z ((br b.1 b.2.2.1,()),())) (Z ((J,()),()))
def aj7(n:Nat):OC:=⟨104,⟨P6,K4,J,F104 n⟩,cQ [] [] n 10 104⟩
def F241:Y41:=
 λn b=>ai (br b.2.1 b.1) (Z ((br b.1 b.2.2.1,()),())) (Z ((J,()),()))
def ajQ(n:Nat):OC:=⟨241,⟨P6,K4,J,F241 n⟩,cQ [] [] n 10 241⟩
def F158:Y79:=
 λn b=>ah (aQ (Y80) (Bool×U) (U) (λc=>ai (aD c.2.1 (ak b.1)) (aO (aF c.2.1 b.1) (ah (F240 n ((bh b.1 (ax c.2.1)
 bg).1,())) λd=>ai (aq d.1.1) (Z (X () (J,()))) (aO (aF c.2.1 b.1) (ah (F241 n ((bh b.1 (ax c.2.1) bg).2,0,
 3,())) λe=>ai (aq e.1.1) (Z (X () (J,()))) (aO (aF c.2.1 b.1) (aO (dg c.1 [(bh b.1 (ax c.2.1) bg).1]) (Z
 (N (dc c.1 [(bh b.1 (ax c.2.1) bg).1],aG .i64 c.2.1 1,()))))))))) (Z (H 0 c))) n ([],0,())) λc=>bK c (λ_ e
 =>ai (br (ak b.1) 20) (ah (F139 n (e.1,())) λg=>Z g) (Z ((J,()),()))) (λ_ e=>Z (e,())) λ_ _=>Y
def aqb(n:Nat):OC:=⟨158,⟨P8,K4,J,F158 n⟩,cQ [agi n,YJ n,ajQ n] [(158,0,⟨[(3,.one (.own (.str))),(4,dm)],[],[],0⟩)] n 10 158⟩
def F105:Y79:=
 λn b=>ah (F158 n b) λc=>Z c
def aqs(n:Nat):OC:=⟨105,⟨P8,K4,J,F105 n⟩,cQ [aqb n] [] n 10 105⟩
abbrev XX(F:Fn P9 K4 J):lJ sg:=⟨P9,K4,J,F⟩
def It(n:Nat)(f159:W3->O Y4)(c:W3):Bool×Int×U->O amx:=
 λi=>ai (aD i.2.1 (ak c.1.4)) (ai i.1 (aO (aF i.2.1 c.1.4) (ah (f159 (bh c.1.4 (ax i.2.1) aK,c.2)) λj=>Z (N
 (j.1.1,aG .i64 i.2.1 1,())))) (Z (H 0 i))) (Z (H 0 i))
def Is(n:Nat)(f159:W3->O Y4):amx->O Y4:=
 λi=>bK i (λ_ k=>Z ((k.1,()),())) (λ_ k=>Z (k,())) λ_ _=>Y
def B159:amN:=
 λn f159 c=>ah (ai (aa c.1.1 1) (Z (N (W,()))) (ah (ai (aa c.1.1 2) (Z (N (W,()))) (Z (N (aa c.1.1
 5,())))) λ(d:nY)=>cr d (λe=>Z (N e)) (λ_ _=>Y) (λ_ g=>Z (X () g)) λ_ _=>Y)) λ(d:nY)=>
 cr d (λe=>ah (ai e.1 (ai (aa (ak c.1.4) 0) (Z (N (aa c.1.2 0,W,()))) (Z (N (J,W,())))) (ah (ai
 (aa c.1.1 3) (ai (aa (ak c.1.4) 0) (ah (F241 n (c.1.2,(-1000000000),1000000000,())) λg=>Z (N (g.1.1,W,()))) (Z
 (N (J,W,())))) (ah (ai (aa c.1.1 4) (ai (aa (ak c.1.4) 0) (ah (F241 n (c.1.2,0,1,())) λg=>Z (N (g.1.1,
 W,()))) (Z (N (J,W,())))) (ah (ai (aa c.1.1 6) (ah (F241 n (c.1.2,0,aZ .i64 (ak c.2.1) 1,())) λg=>ai g.1.1
 (aO (aF c.1.2 c.2.1) (Z (N (aa (ak c.1.4) (bh c.2.1 (ax c.1.2) bg).2,W,())))) (Z (N (J,W,())))) (Z
 (N (J,J,())))) λ(g:yB)=>cr g (λh=>Z (N (h.1,J,()))) (λ_ _=>Y) (λ_ i=>Z (X () i))
 λ_ _=>Y)) λ(g:yB)=>cr g (λh=>Z (N (h.1,J,()))) (λ_ _=>Y) (λ_ i=>Z (X () i)) λ_ _=>
 Y)) λ(g:yB)=>cr g (λh=>Z (N (h.1,J,()))) (λ_ _=>Y) (λ_ i=>Z (X () i)) λ_ _=>Y)) λ(g
 :yB)=>cr g (λh=>ai h.1 (ah (aQ (Bool×Int×U) (Bool×U) (U) (It n f159 c) n (gw c.1.3 [],0,())) (Is n
 f159)) (ah (aQ (Bool×Int×U) (Bool×U) (U) (It n f159 c) n (J,0,())) (Is n f159))) (λ_ _=>Y) (λ_ i=>
 Z (i,())) λ_ _=>Y) (λ_ _=>Y) (λ_ g=>Z (g,())) λ_ _=>Y
def D159(n:Nat)(f159:Fn P9 K4 J)(a:bG prog 159 (XX f159)):bG prog 159 (XX (B159 n f159)):=cQ [⟨159,XX f159,a⟩,ajQ n] [(159,1,⟨[(5,di),(7,dm)],[],[],0⟩),(159,1000005,⟨[(13,di)],[],[],0⟩),(159,1000006,⟨[(13,di)],[],[],0⟩),(159,1000007,⟨[(5,di),(13,di)],[],[],0⟩),(159,1000009,⟨[(5,di),(24,di)],[],[],0⟩),(159,1000011,⟨[(5,di),(33,di)],[],[],0⟩),(159,1000013,⟨[(5,di),(42,di)],[],[],0⟩)] n 10 159
def R159(n k:Nat):(Fn P9 K4 J):=Nat.rec (motive:=λ_=>(Fn P9 K4 J)) (λ_=>Y) (λ_ r=>B159 n r) k
def F159(n:Nat):Fn P9 K4 J:=(R159 n n)
def afs(n:Nat):∀k,bG prog 159 (XX (R159 n k))
 |0=>cw (enters 159 (by kernel_rfl))
 |k+1=>have a:=afs n k
  D159 n _ a
def aqa(n:Nat):OC:=⟨159,XX (F159 n),(afs n n)⟩
def F106:Nat->W3->O Y4:=
 λn b=>ah (F159 n (aB.mk b.1.1 b.1.2 b.1.3 b.1.4,b.2)) λc=>Z c
def aqr(n:Nat):OC:=⟨106,⟨P9,K4,J,F106 n⟩,cQ [aqa n] [] n 10 106⟩
def Ik(n:Nat):nY->O nY:=
 λc=>cr c (λd=>Z (N d)) (λ_ _=>Y) (λ_ e=>Z (X () e)) λ_ _=>Y
def MH(n:Nat)(b:Y28):O Y4:=
 ai (aa b.2.1.1 1) (ah (F104 n (b.2.1.2,(-1000000000),1000000000,())) λc=>Z c) (ai (aa b.2.1.1 2) (ah (F104 n (b.2.1.2,0,1,()))
 λc=>Z c) (ai (aa b.2.1.1 4) (ah (F104 n (b.2.1.2,0,29,())) λc=>Z c) (ai (aa b.2.1.1 5) (ah (F104 n (b.2.1.2,0,aZ .i64
 (ak b.1.3) 1,())) λc=>Z c) (ah (ai (aa b.2.1.1 6) (Z (N (W,()))) (ah (ai (aa b.2.1.1 11) (Z (N (W,())))
 (ah (ai (aa b.2.1.1 12) (Z (N (W,()))) (ah (ai (aa b.2.1.1 31) (Z (N (W,()))) (Z (N (aa b.2.1.1 32,
 ())))) (Ik n))) (Ik n))) (Ik n))) λ(c:nY)=>cr c (λd=>ai d.1 (ah (F104 n (b.2.1.2,0,aZ .i64 (ak b.1.1) 1,()))
 λe=>Z e) (ai (aa b.2.1.1 10) (ah (F104 n (b.2.1.2,1,30,())) λe=>Z e) (ai (aa b.2.1.1 18) (ah (F104 n (b.2.1.2,0,aZ .i64
 (ak b.1.5) 1,())) λe=>Z e) (ai (aa b.2.1.1 19) (ah (F104 n (b.2.1.2,0,aZ .i64 (ak b.1.2) 1,())) λe=>ai e.1.1 (ah (F104
 n (b.2.1.3,0,aZ .i64 (ak b.1.1) 1,())) λg=>Z g) (Z ((J,()),()))) (ai (aa b.2.1.1 29) (ah (F104 n (b.2.1.2,0,3,()))
 λe=>Z e) (ah (F104 n (b.2.1.1,1,34,())) λe=>ai e.1.1 (Z ((aa b.2.1.2 0,()),())) (Z ((J,()),())))))))) (λ_ _=>
 Y) (λ_ e=>Z (e,())) λ_ _=>Y))))
def F107:Nat->Y28->O Y4:=
 λn b=>ai (aq (aa b.2.1.1 19)) (ai (aq (aa b.2.1.3 0)) (Z ((J,()),())) (MH n b)) (MH n b)
def aqq(n:Nat):OC:=⟨107,⟨P12,K4,J,F107 n⟩,cQ [aj7 n] [(107,1000014,⟨[(43,di)],[],[],0⟩),(107,1000015,⟨[(43,di)],[],[],0⟩),(107,1000016,⟨[(43,di)],[],[],0⟩),(107,1000017,⟨[(43,di)],[],[],0⟩)] n 10 107⟩
def KA(n:Nat):O Y4:=
 Z ((J,()),())
def F50:amK:=
 λn b=>ah (F104 n (ak b.1.1,1,1500,())) λc=>ai (aq c.1.1) (KA n) (ai (aD 100 (ak b.1.2)) (KA n) (ah (F105 n (b.1.5,
 ())) λd=>ai (aq d.1.1) (KA n) (ah (F104 n (ak b.1.3,1,300,())) λe=>ai (aq e.1.1) (KA n) (ah (F104 n (b.1.4,0,aZ .i64
 (ak b.1.3) 1,())) λg=>ai (aq g.1.1) (KA n) (ah (aQ (Int×U) (Bool×U) (U) (λh=>ai (aD h.1 (ak b.1.2))
 (aO (aF h.1 b.1.2) (ah (F94 n (bh b.1.2 (ax h.1) aK,12,())) λi=>ai (aD i.1.1 0) (Z (X () (J,()))) (aO (aF h.1
 b.1.2) (ah (F106 n (bh b.1.2 (ax h.1) aK,b.1.5,())) λj=>ai (aq j.1.1) (Z (X () (J,()))) (Z (N (aG .i64
 h.1 1,()))))))) (Z (H 0 h))) n (0,())) λh=>bK h (λ_ _=>ah (aQ (Int×U) (Bool×U) (U) (λk=>ai (aD
 k.1 (ak b.1.3)) (aO (aF k.1 b.1.3) (ah (F104 n (bh b.1.3 (ax k.1) 0,0,aZ .i64 (ak b.1.1) 1,())) λl=>ai (aq l.1.1) (Z
 (X () (J,()))) (Z (N (aG .i64 k.1 1,()))))) (Z (H 0 k))) n (0,())) λk=>bK k (λ_ _=>ah (aQ (Int×U) (Bool×U) (U) (λo=>ai (aD o.1 (ak b.1.1)) (aO (aF o.1 b.1.1) (ah (F107 n (b.1,bh b.1.1 (ax o.1) bP,())) λp=>
 ai (aq p.1.1) (Z (X () (J,()))) (Z (N (aG .i64 o.1 1,()))))) (Z (H 0 o))) n (0,())) λo=>bK o (λ_ _
 =>Z ((W,()),())) (λ_ q=>Z (q,())) λ_ _=>Y) (λ_ m=>Z (m,())) λ_ _=>Y) (λ_ j=>Z (j,())) λ_ _=>
 Y)))))
def k50(n:Nat):OC:=⟨50,⟨P5,K4,J,F50 n⟩,cQ [k94 n,aj7 n,aqs n,aqr n,aqq n] [(50,0,⟨[(3,dm)],[],[],0⟩),(50,2,⟨[(4,dm)],[],[],0⟩),(50,4,⟨[(5,dm)],[],[],0⟩)] n 10 50⟩
def F108:Y43:=
 λn b=>Z ((au.mk W b.1 b.2.1,()),())
def aj6(n:Nat):OC:=⟨108,⟨P14,K15,J,F108 n⟩,cQ [] [] n 10 108⟩
def z6(n:Nat):W5->O W5:=
 λc=>cr c (λd=>Z (N d)) (λ_ _=>Y) (λ_ e=>Z (X () e)) λ_ _=>Y
def xq(n:Nat):W5->O W5:=
 λe=>cr e (λg=>Z (N g)) (λ_ _=>Y) (λ_ h=>Z (X () h)) λ_ _=>Y
def F160:Nat->Y28->HT:=
 λn b=>ah (ai (aa b.2.1.1 7) (Z (N (W,()))) (ah (ai (aa b.2.1.1 13) (Z (N (W,()))) (ah (ai (aa b.2.1.1 14)
 (Z (N (W,()))) (ah (ai (aa b.2.1.1 15) (Z (N (W,()))) (ah (ai (aa b.2.1.1 16) (Z (N (W,()))) (ah (ai
 (aa b.2.1.1 17) (Z (N (W,()))) (ah (ai (aa b.2.1.1 23) (Z (N (W,()))) (Z (N (aa b.2.1.1 27,()))))
 (z6 n))) (z6 n))) (z6 n))) (z6 n))) (z6 n))) (z6 n))) λ(c:W5)=>cr c (λd=>ai d.1 (Z ((2,()),())) (ah (ai
 (aa b.2.1.1 9) (Z (N (W,()))) (ah (ai (aa b.2.1.1 12) (Z (N (W,()))) (ah (ai (aa b.2.1.1 19) (Z (N
 (W,()))) (ah (ai (aa b.2.1.1 21) (Z (N (W,()))) (ah (ai (aa b.2.1.1 22) (Z (N (W,()))) (ah (ai (aa b.2.1.1
 24) (Z (N (W,()))) (ah (ai (aa b.2.1.1 25) (Z (N (W,()))) (ah (ai (aa b.2.1.1 28) (Z (N (W,()))) (Z
 (N (aa b.2.1.1 29,())))) (xq n))) (xq n))) (xq n))) (xq n))) (xq n))) (xq n))) (xq n))) λ(e:W5)=>cr e
 (λg=>ai g.1 (Z ((1,()),())) (ai (aa b.2.1.1 18) (aO (aF b.2.1.2 b.1.5) (Z (((bh b.1.5 (ax b.2.1.2) bg).2,()),()))) (ai
 (aa b.2.1.1 8) (Z (((-3),()),())) (ai (aa b.2.1.1 34) (Z (((-2),()),())) (Z ((0,()),())))))) (λ_ _=>Y) (λ_ h=>Z
 (h,())) λ_ _=>Y)) (λ_ _=>Y) (λ_ e=>Z (e,())) λ_ _=>Y
def ap9(n:Nat):OC:=⟨160,⟨P12,K2,J,F160 n⟩,cQ [] [(160,1000003,⟨[(7,di)],[],[],0⟩),(160,1000004,⟨[(7,di)],[],[],0⟩),(160,1000005,⟨[(7,di)],[],[],0⟩),(160,1000006,⟨[(7,di)],[],[],0⟩),(160,1000007,⟨[(7,di)],[],[],0⟩),(160,1000008,⟨[(7,di)],[],[],0⟩),(160,1000009,⟨[(7,di)],[],[],0⟩),(160,1000012,⟨[(16,di)],[],[],0⟩),(160,1000013,⟨[(16,di)],[],[],0⟩),(160,1000014,⟨[(16,di)],[],[],0⟩),(160,1000015,⟨[(16,di)],[],[],0⟩),(160,1000016,⟨[(16,di)],[],[],0⟩),(160,1000017,⟨[(16,di)],[],[],0⟩),(160,1000018,⟨[(16,di)],[],[],0⟩),(160,1000019,⟨[(16,di)],[],[],0⟩)] n 10 160⟩
def F161:Y5:=
 λn b=>ai (aa b.1 8) (Z ((W,()),())) (ai (aa b.1 20) (Z ((W,()),())) (Z ((aa b.1 34,()),())))
def ap8(n:Nat):OC:=⟨161,⟨P26,K4,J,F161 n⟩,cQ [] [] n 10 161⟩
def CV(n:Nat):O Y4:=
 Z ((J,()),())
def F162:Y5:=
 λn b=>ai (aa b.1 9) (CV n) (ai (aa b.1 10) (CV n) (ai (aa b.1 11) (CV n) (ai (aa b.1 12) (CV n) (ai (aa b.1
 19) (CV n) (Z ((W,()),()))))))
def ap7(n:Nat):OC:=⟨162,⟨P26,K4,J,F162 n⟩,cQ [] [] n 10 162⟩
def ic(b:Sn):bR:=
 bh b.1.1 (ax b.2.1) bP
def o5(n:Nat)(b:Sn):Us->aaw:=
 λi=>Z (([bq.mk (aG .i64 b.2.1 1) i.1.1],W,()),())
def rN(n:Nat)(b:Sn)(h:Int×Bool×U):O Us:=
 F108 n (h.1,b.2.2.1.3,())
def vz(n:Nat)(b:Sn)(i:Us):Us->aaw:=
 λj=>Z (([bq.mk (aG .i64 b.2.1 1) i.1.1,bq.mk (ic b).2 j.1.1],W,()),())
def nr(n:Nat)(b:Sn)(c:(Int×U)×U):aaw:=
 ah (F161 n ((ic b).1,())) λd=>ai d.1.1 (Z (([],W,()),())) (ah (F162 n ((ic b).1,())) λe=>ah (ai e.1.1 (Z (N
 (aG .i64 (aZ .i64 b.2.2.1.2 c.1.1) 1,W,()))) (Z (N (aZ .i64 b.2.2.1.2 c.1.1,J,())))) λ(g:LO (Int×Bool×U)
 (aax×Bool×U) U Any)=>cr g (λh=>ai (aa (ic b).1 9) (ah (F108 n (h.1,aG .i64 b.2.2.1.3 1,())) (o5 n b)) (ai
 (aa (ic b).1 10) (ah (F108 n (h.1,aZ .i64 b.2.2.1.3 (ic b).2,())) (o5 n b)) (ai (aa (ic b).1 11) (Z
 (([bq.mk (ic b).2 b.2.2.1],W,()),())) (ai (aa (ic b).1 12) (ah (rN n b h) λi=>ah (rN n b h) (vz n b
 i)) (ai (aa (ic b).1 19) (aO (aF (ic b).2 b.1.2) (ah (F163 n (bh b.1.2 (ax (ic b).2) aK,())) λi=>ah (F108 n (h.1,
 aG .i64 b.2.2.1.3 i.1.1,())) λj=>Z (([bq.mk (aG .i64 b.2.1 1) j.1.1,bq.mk (ic b).3 b.2.2.1],W,()),
 ()))) (ah (ai (aa (ic b).1 6) (Z (N (W,()))) (Z (N (aa (ic b).1 32,())))) λ(i:LO (Bool×U) (aax×Bool
 ×U) U Any)=>cr i (λj=>ai j.1 (ah (rN n b h) λk=>ah (F108 n (0,aG .i64 b.2.2.1.3 1,())) (vz n b k)) (ai (aa
 (ic b).1 31) (ah (rN n b h) λk=>ah (F108 n (0,b.2.2.1.3,())) (vz n b k)) (ah (rN n b h) (o5 n b)))) (λ_ _=>Y)
 (λ_ k=>Z (k,())) λ_ _=>Y)))))) (λ_ _=>Y) (λ_ i=>Z (i,())) λ_ _=>Y)
def CY(n:Nat)(b:Sn)(c:(Int×U)×U):aaw:=
 ai (aa (ic b).1 10) (ai (aD b.2.2.1.3 (ic b).2) (Z (([],J,()),())) (nr n b c)) (nr n b c)
def F109:Nat->Sn->aaw:=
 λn b=>aO (aF b.2.1 b.1.1) (ah (F160 n (b.1,ic b,())) λc=>ai (aD c.1.1 0) (Z (([],aa b.2.2.1.2 (aZ .i64 (-1) c.1.1),
 ()),())) (ai (aD b.2.2.1.2 c.1.1) (Z (([],J,()),())) (ai (aa (ic b).1 4) (ai (br b.2.2.1.3 (ic b).2) (Z (([],J,
 ()),())) (CY n b c)) (CY n b c))))
def aqp(n:Nat):OC:=⟨109,⟨at0,K119,J,F109 n⟩,cQ [aj6 n,ap9 n,ap8 n,ap7 n,ajX n] [(109,1000011,⟨[(10,dm),(63,di)],[],[],0⟩),(109,1000024,⟨[(138,di)],[],[],0⟩)] n 10 109⟩
def nE(n:Nat):amj:=
 Z (X () ([],J,()))
def vM(g:aaq):Bool:=
 aF (bh g.2.1 (ax g.2.2.1) bf).1 g.1
def jw(g:aaq):Nat:=
 ax (bh g.2.1 (ax g.2.2.1) bf).1
def BE(n:Nat)(b:aA×U)(g:aaq):amj:=
 aO (vM g) (aO (dX (jw g) g.1) (ai (bh g.1 (jw g) aT).1 (Z (N (g.1,g.2.1,aG .i64 g.2.2.1 1,()))) (aO (vM g)
 (aO (dX (jw g) g.1) (ah (F109 n (b.1,(bh g.2.1 (ax g.2.2.1) bf).1,(bh g.2.1 (ax g.2.2.1) bf).2,())) λh
 =>ai (aq h.1.2.1) (nE n) (aO (dg g.2.1 h.1.1) (Z (N (lF g.1 (jw g) (bh g.2.1 (ax g.2.2.1) bf).2,dc g.2.1
 h.1.1,aG .i64 g.2.2.1 1,())))))))))
def F51:Nat->aA×U->O (ad2×U):=
 λn b=>aO (nW (Q6 (ak b.1.1)) (fZ (ak b.1.1) (ak b.1.1))) (ah (aQ (aax×Int×U) (ad2) (U) (λc=>ai (aD c.2.1
 (ak b.1.3)) (aO (aF c.2.1 b.1.3) (ah (F108 n (0,1,())) λd=>aO (dg c.1 [bq.mk (bh b.1.3 (ax c.2.1) 0) d.1.1]) (Z
 (N (dc c.1 [bq.mk (bh b.1.3 (ax c.2.1) 0) d.1.1],aG .i64 c.2.1 1,()))))) (Z (H 0 c))) n ([],0,())) λc=>
 bK c (λ_ e=>ah (aQ (aaq) (ad2) (U) (λg=>ai (aD g.2.2.1 (ak g.2.1)) (aO (aF g.2.2.1 g.2.1) (aO (dX (ax
 g.2.2.1) g.2.1) (aO (aF g.2.2.1 g.2.1) (aO (dX (ax g.2.2.1) g.2.1) (ai (br (ak b.1.1) (bh g.2.1 (ax g.2.2.1) bf).1)
 (nE n) (ai (aD 60 (bh g.2.1 (ax g.2.2.1) bf).2.2) (nE n) (ai (aD 30 (bh g.2.1 (ax g.2.2.1) bf).2.3)
 (nE n) (aO (vM g) (aO (dX (jw g) g.1) (ai (bh g.1 (jw g) aT).1 (aO (vM g) (aO (dX (jw g) g.1) (ai (aq (bS
 (pJ (bh g.1 (jw g) aT).1 (bh g.2.1 (ax g.2.2.1) bf).2.1) (bS (aa (bh g.1 (jw g) aT).2 (bh g.2.1
 (ax g.2.2.1) bf).2.2) (bS (aa (bh g.1 (jw g) aT).3 (bh g.2.1 (ax g.2.2.1) bf).2.3) W))))
 (nE n) (BE n b g)))) (BE n b g))))))))))) (Z (H 0 g))) n (afN (ax (ak b.1.1)) aT,e.1,0,())) λg=>bK g (λ_ i
 =>Z ((i.1,W,()),())) (λ_ i=>Z (i,())) λ_ _=>Y) (λ_ e=>Z (e,())) λ_ _=>Y)
def k51(n:Nat):OC:=⟨51,⟨P5,K120,J,F51 n⟩,cQ [aj6 n,aqp n] [(51,0,⟨[(5,.one (.own (.st 26))),(6,dm)],[],[],0⟩),(51,2,⟨[(4,.one (.own (.st 9))),(5,.one (.own (.st 26))),(7,dm)],[],[],0⟩)] n 10 51⟩
def F14:Nat->aA×U->Y35:=
 λn b=>ah (F50 n b) λc=>ai (aq c.1.1) (Z ((lH,J,()),())) (ah (F51 n b) λd=>Z ((bC.mk
 b.1 d.1.1,d.1.2),()))
def k14(n:Nat):OC:=⟨14,⟨P5,K121,J,F14 n⟩,cQ [k50 n,k51 n] [] n 10 14⟩
def F52:Y41:=
 λn b=>ai (br b.2.1 b.1) (Z ((br b.1 b.2.2.1,()),())) (Z ((J,()),()))
def k52(n:Nat):OC:=⟨52,⟨P6,K4,J,F52 n⟩,cQ [] [] n 10 52⟩
def F15:ami:=
 λn b=>ah (aQ (Int×U) (Bool×U) (U) (λc=>ai (aD c.1 (ak b.1)) (ai (br c.1 b.2.1) (aO (aF c.1 b.1) (ah (F52
 n (bh b.1 (ax c.1) 0,(-1000000000),1000000000,())) λd=>ai (aq d.1.1) (Z (X () (J,()))) (Z (N (aG .i64 c.1 1,
 ()))))) (Z (H 0 c))) (Z (H 0 c))) n (0,())) λc=>bK c (λ_ _=>Z ((br (ak b.1) b.2.1,()),())) (λ_ e=>Z (e,
 ())) λ_ _=>Y
def k15(n:Nat):OC:=⟨15,⟨amW,K4,J,F15 n⟩,cQ [k52 n] [(15,0,⟨[(5,dm)],[],[],0⟩)] n 10 15⟩
def F35:Nat->L Int×L Int×U->O Y4:=
 λn b=>ai (aq (aa (ak b.1) (ak b.2.1))) (Z ((J,()),())) (ah (aQ (Int×U) (Bool×U) (U) (λc=>ai
 (aD c.1 (ak b.1)) (aO (aF c.1 b.1) (aO (aF c.1 b.2.1) (ai (aq (aa (bh b.1 (ax c.1) 0) (bh b.2.1 (ax c.1) 0))) (Z (X ()
 (J,()))) (Z (N (aG .i64 c.1 1,())))))) (Z (H 0 c))) n (0,())) λc=>bK c (λ_ _=>Z ((W,()),())) (λ_ e
 =>Z (e,())) λ_ _=>Y)
def k35(n:Nat):OC:=⟨35,⟨atZ,K4,J,F35 n⟩,cQ [] [(35,0,⟨[(5,dm)],[],[],0⟩)] n 10 35⟩
def F54:Nat->L eg×L eg×U->O Y4:=
 λn b=>ai (aq (aa (ak b.1) (ak b.2.1))) (Z ((J,()),())) (ah (aQ (Int×U) (Bool×U) (U) (λc=>ai
 (aD c.1 (ak b.1)) (aO (aF c.1 b.1) (aO (aF c.1 b.2.1) (ai (aq (bS (aa (bh b.1 (ax c.1) kI).1 (bh b.2.1 (ax c.1)
 kI).1) (bS (aa (bh b.1 (ax c.1) kI).2 (bh b.2.1 (ax c.1) kI).2) W))) (Z (X () (J,()))) (Z (N
 (aG .i64 c.1 1,())))))) (Z (H 0 c))) n (0,())) λc=>bK c (λ_ _=>Z ((W,()),())) (λ_ e=>Z (e,())) λ_ _=>
 Y)
def k54(n:Nat):OC:=⟨54,⟨atY,K4,J,F54 n⟩,cQ [] [(54,0,⟨[(5,dm)],[],[],0⟩)] n 10 54⟩
def F110:Nat->L az×L az×U->O Y4:=
 λn b=>ai (aq (aa (ak b.1) (ak b.2.1))) (Z ((J,()),())) (ah (aQ (Int×U) (Bool×U) (U) (λc=>ai
 (aD c.1 (ak b.1)) (aO (aF c.1 b.1) (aO (aF c.1 b.2.1) (ai (aq (bS (aa (bh b.1 (ax c.1) bu).1 (bh b.2.1 (ax c.1)
 bu).1) (bS (aa (bh b.1 (ax c.1) bu).2 (bh b.2.1 (ax c.1) bu).2) W))) (Z (X () (J,()))) (Z (N
 (aG .i64 c.1 1,())))))) (Z (H 0 c))) n (0,())) λc=>bK c (λ_ _=>Z ((W,()),())) (λ_ e=>Z (e,())) λ_ _=>
 Y)
def aqo(n:Nat):OC:=⟨110,⟨atX,K4,J,F110 n⟩,cQ [] [(110,0,⟨[(5,dm)],[],[],0⟩)] n 10 110⟩
def Qe(b:ahP)(d:Int×U):aj:=
 bh b.1.4 (ax d.1) aR
def Qd(b:ahP)(d:Int×U):aj:=
 bh b.2.1.4 (ax d.1) aR
def F55:atc:=
 λn b=>ai (aq (aa b.1.1 b.2.1.1)) (Z ((J,()),())) (ai (aq (aa b.1.2 b.2.1.2)) (Z ((J,()),())) (ah (F110 n
 (b.1.3,b.2.1.3,())) λc=>ai (aq c.1.1) (Z ((J,()),())) (ai (aq (aa (ak b.1.4) (ak b.2.1.4))) (Z ((J,()),()))
 (ah (aQ (Int×U) (Bool×U) (U) (λd=>ai (aD d.1 (ak b.1.4)) (aO (aF d.1 b.1.4) (aO (aF d.1 b.2.1.4) (ai (aq
 (aa (Qe b d).1 (Qd b d).1)) (Z (X () (J,()))) (ai (aq (pJ (Qe b d).4 (Qd b d).4)) (Z (X () (J,())))
 (ah (F110 n ((Qe b d).2,(Qd b d).2,())) λe=>ai (aq e.1.1) (Z (X () (J,()))) (ah (F110 n ((Qe b d).3,(Qd b d).3,
 ())) λg=>ai (aq g.1.1) (Z (X () (J,()))) (Z (N (aG .i64 d.1 1,()))))))))) (Z (H 0 d))) n (0,())) λd=>
 bK d (λ_ _=>Z ((W,()),())) (λ_ g=>Z (g,())) λ_ _=>Y))))
def k55(n:Nat):OC:=⟨55,⟨atW,K4,J,F55 n⟩,cQ [aqo n] [(55,0,⟨[(5,dm)],[],[],0⟩)] n 10 55⟩
def Qg(n:Nat):O Y4:=
 Z ((J,()),())
def F18:Y25:=
 λn b=>ai (aq (aa (ak b.1.1) (ak b.2.1.1))) (Qg n) (ah (F35 n (b.1.2,b.2.1.2,())) λc=>ai (aq c.1.1) (Qg n) (ah (F54
 n (b.1.3,b.2.1.3,())) λd=>ai (aq d.1.1) (Qg n) (ah (F35 n (b.1.4,b.2.1.4,())) λe=>ai (aq e.1.1) (Qg n) (ai (aq
 (aa b.1.5 b.2.1.5)) (Qg n) (ah (aQ (Int×U) (Bool×U) (U) (λg=>ai (aD g.1 (ak b.1.1)) (aO (aF g.1 b.1.1) (aO
 (aF g.1 b.2.1.1) (ah (F55 n (bh b.1.1 (ax g.1) bw,bh b.2.1.1 (ax g.1) bw,())) λh=>ai (aq h.1.1) (Z (X () (J,
 ()))) (Z (N (aG .i64 g.1 1,())))))) (Z (H 0 g))) n (0,())) λg=>bK g (λ_ _=>Z ((W,()),())) (λ_ i=>Z
 (i,())) λ_ _=>Y)))))
def k18(n:Nat):OC:=⟨18,⟨atV,K4,J,F18 n⟩,cQ [k35 n,k54 n,k55 n] [(18,0,⟨[(5,dm)],[],[],0⟩)] n 10 18⟩
def F16:ahR:=
 λn b=>ah (F18 n (b.1,cX,())) λc=>Z c
def k16(n:Nat):OC:=⟨16,⟨ahU,K4,J,F16 n⟩,cQ [k18 n] [] n 10 16⟩
def Eg(n:Nat):W5->O W5:=
 λc=>cr c (λd=>Z (N d)) (λ_ _=>Y) (λ_ e=>Z (X () e)) λ_ _=>Y
def BD(n:Nat):W5->O W5:=
 λe=>cr e (λg=>Z (N g)) (λ_ _=>Y) (λ_ h=>Z (X () h)) λ_ _=>Y
def F69:Nat->bC×bR×U->HT:=
 λn b=>ah (ai (aa b.2.1.1 7) (Z (N (W,()))) (ah (ai (aa b.2.1.1 8) (Z (N (W,()))) (ah (ai (aa b.2.1.1 13)
 (Z (N (W,()))) (ah (ai (aa b.2.1.1 14) (Z (N (W,()))) (ah (ai (aa b.2.1.1 15) (Z (N (W,()))) (ah (ai
 (aa b.2.1.1 16) (Z (N (W,()))) (ah (ai (aa b.2.1.1 17) (Z (N (W,()))) (ah (ai (aa b.2.1.1 23) (Z (N
 (W,()))) (Z (N (aa b.2.1.1 27,())))) (Eg n))) (Eg n))) (Eg n))) (Eg n))) (Eg n))) (Eg n))) (Eg n))) λ(c:W5)
 =>cr c (λd=>ai d.1 (Z ((2,()),())) (ah (ai (aa b.2.1.1 9) (Z (N (W,()))) (ah (ai (aa b.2.1.1 12) (Z (N
 (W,()))) (ah (ai (aa b.2.1.1 19) (Z (N (W,()))) (ah (ai (aa b.2.1.1 21) (Z (N (W,()))) (ah (ai (aa b.2.1.1
 22) (Z (N (W,()))) (ah (ai (aa b.2.1.1 24) (Z (N (W,()))) (ah (ai (aa b.2.1.1 25) (Z (N (W,()))) (ah
 (ai (aa b.2.1.1 28) (Z (N (W,()))) (ah (ai (aa b.2.1.1 29) (Z (N (W,()))) (Z (N (aa b.2.1.1 34,()))))
 (BD n))) (BD n))) (BD n))) (BD n))) (BD n))) (BD n))) (BD n))) (BD n))) λ(e:W5)=>cr e (λg=>ai g.1 (Z ((1,
 ()),())) (ai (aa b.2.1.1 18) (aO (aF b.2.1.2 b.1.1.5) (Z (((bh b.1.1.5 (ax b.2.1.2) bg).2,()),()))) (Z ((0,()),())))) (λ_
 _=>Y) (λ_ h=>Z (h,())) λ_ _=>Y)) (λ_ _=>Y) (λ_ e=>Z (e,())) λ_ _=>Y
def k69(n:Nat):OC:=⟨69,⟨atU,K2,J,F69 n⟩,cQ [] [(69,1000003,⟨[(7,di)],[],[],0⟩),(69,1000004,⟨[(7,di)],[],[],0⟩),(69,1000005,⟨[(7,di)],[],[],0⟩),(69,1000006,⟨[(7,di)],[],[],0⟩),(69,1000007,⟨[(7,di)],[],[],0⟩),(69,1000008,⟨[(7,di)],[],[],0⟩),(69,1000009,⟨[(7,di)],[],[],0⟩),(69,1000010,⟨[(7,di)],[],[],0⟩),(69,1000013,⟨[(17,di)],[],[],0⟩),(69,1000014,⟨[(17,di)],[],[],0⟩),(69,1000015,⟨[(17,di)],[],[],0⟩),(69,1000016,⟨[(17,di)],[],[],0⟩),(69,1000017,⟨[(17,di)],[],[],0⟩),(69,1000018,⟨[(17,di)],[],[],0⟩),(69,1000019,⟨[(17,di)],[],[],0⟩),(69,1000020,⟨[(17,di)],[],[],0⟩),(69,1000021,⟨[(17,di)],[],[],0⟩)] n 10 69⟩
def F70:Nat->L aj×aj×U->O (W6×U):=
 λn b=>aO (dg b.1 [b.2.1]) (Z ((dc b.1 [b.2.1],()),()))
def k70(n:Nat):OC:=⟨70,⟨atT,K40,J,F70 n⟩,cQ [] [] n 10 70⟩
def F79:Nat->amn->O Y2:=
 λn b=>aO (aF b.2.1 b.1.2) (aO (aF (bh b.1.2 (ax b.2.1) 0) b.1.1) (aO (dX (ax (bh b.1.2 (ax b.2.1) 0)) b.1.1) (Z
 ((bn.mk (av.mk (lF b.1.1 (ax (bh b.1.2 (ax b.2.1) 0)) (bB.mk 6 b.2.2.1 [] [])) b.1.2 b.1.3 b.1.4 b.1.5) 1 (aP.mk
 b.2.1 0 b.2.2.1 bu),()),()))))
def YI(n:Nat):OC:=⟨79,⟨atS,K132,J,F79 n⟩,cQ [] [] n 10 79⟩
def F71:Nat->av×Int×L aj×U->O Y2:=
 λn b=>ai (aD 40 (ak b.2.2.1)) (ah (F79 n (b.1,b.2.1,4,())) λc=>Z c) (aO (aF b.2.1 b.1.2) (aO (aF (bh b.1.2 (ax b.2.1)
 0) b.1.1) (aO (dX (ax (bh b.1.2 (ax b.2.1) 0)) b.1.1) (Z ((bn.mk (av.mk (lF b.1.1 (ax (bh b.1.2 (ax b.2.1) 0))
 (bB.mk 6 0 [] b.2.2.1)) b.1.2 b.1.3 b.1.4 b.1.5) 0 ct,()),())))))
def k71(n:Nat):OC:=⟨71,⟨atQ,K132,J,F71 n⟩,cQ [YI n] [] n 10 71⟩
def F124:Nat->L az×az×U->O Y57:=
 λn b=>aO (dg b.1 [b.2.1]) (Z ((dc b.1 [b.2.1],()),()))
def YM(n:Nat):OC:=⟨124,⟨atP,K135,J,F124 n⟩,cQ [] [] n 10 124⟩
def PZ(b:amw):aj:=
 bh b.1 (ax (aZ .i64 (ak b.1) 1)) aR
def F72:Nat->amw->O (W6×U):=
 λn b=>aO (aF (aZ .i64 (ak b.1) 1) b.1) (aO (dX (ax (aZ .i64 (ak b.1) 1)) b.1) (ah (F124 n ((PZ b).3,b.2)) λc=>aO
 (aF (aZ .i64 (ak b.1) 1) b.1) (aO (dX (ax (aZ .i64 (ak b.1) 1)) b.1) (Z ((lF b.1 (ax (aZ .i64 (ak b.1) 1)) (aj.mk
 (PZ b).1 (PZ b).2 c.1.1 (PZ b).4),()),())))))
def k72(n:Nat):OC:=⟨72,⟨atO,K40,J,F72 n⟩,cQ [YM n] [] n 10 72⟩
def F73:Y66:=
 λn b=>ai b.1 (Z ((az.mk 2 1,()),())) (Z ((az.mk 2 0,()),()))
def k73(n:Nat):OC:=⟨73,⟨P27,K20,J,F73 n⟩,cQ [] [] n 10 73⟩
def F74:amB:=
 λn _=>Z ((az.mk 3 0,()),())
def k74(n:Nat):OC:=⟨74,⟨[],K20,J,F74 n⟩,cQ [] [] n 10 74⟩
def F126:Y92:=
 λn b=>Z ((az.mk 5 b.1,()),())
def acN(n:Nat):OC:=⟨126,⟨P26,K20,J,F126 n⟩,cQ [] [] n 10 126⟩
def F75:Nat->av×Int×L aj×bB×U->O Y2:=
 λn b=>ai (br 120 (ak b.1.1)) (ah (F79 n (b.1,b.2.1,4,())) λc=>Z c) (aO (dg b.1.1 [b.2.2.2.1]) (ah (F126 n (aZ .i64 (ak
 (dc b.1.1 [b.2.2.2.1])) 1,())) λc=>ah (F72 n (b.2.2.1,c.1)) λd=>ah (F71 n (av.mk (dc b.1.1 [b.2.2.2.1]) b.1.2 b.1.3 b.1.4
 b.1.5,b.2.1,d.1)) λe=>Z e))
def k75(n:Nat):OC:=⟨75,⟨atN,K132,J,F75 n⟩,cQ [k71 n,k72 n,YI n,acN n] [] n 10 75⟩
def F127:Nat->av×az×Int×U->O (amk×U):=
 λn b=>ai (aq (aa b.2.1.1 5)) (Z ((bw,J,()),())) (aO (aF b.2.1.2 b.1.1) (ai (aq (aa (bh b.1.1 (ax b.2.1.2)
 bw).1 b.2.2.1)) (Z ((bw,J,()),())) (aO (aF b.2.1.2 b.1.1) (Z ((bh b.1.1 (ax b.2.1.2) bw,W,()),())))))
def Rd(n:Nat):OC:=⟨127,⟨atM,K33,J,F127 n⟩,cQ [] [] n 10 127⟩
def F128:Nat->bC×av×az×az×U->O (Y74×U):=
 λn b=>ai (aa b.2.2.1.1 4) (aO (aF b.2.2.1.2 b.1.1.3) (Z ((aj.mk (bh b.1.1.3 (ax b.2.2.1.2) 0) [b.2.2.2.1] [] J,W,()),
 ()))) (ah (F127 n (b.2.1,b.2.2.1,2,())) λc=>ai (aq c.1.2.1) (Z ((aR,J,()),())) (ah (F124 n (c.1.1.3,b.2.2.2)) λd=>
 Z ((aj.mk c.1.1.2 d.1.1 [] J,W,()),())))
def aj3(n:Nat):OC:=⟨128,⟨atL,K35,J,F128 n⟩,cQ [YM n,Rd n] [] n 10 128⟩
def F76:Nat->bC×av×Int×L aj×az×az×Bool×U->O Y2:=
 λn b=>ah (F127 n (b.2.1,b.2.2.2.2.1,5,())) λc=>ai c.1.2.1 (aO (dg b.2.2.2.1 c.1.1.4) (ah (F72 n (dc b.2.2.2.1 c.1.1.4,
 b.2.2.2.2.2.1,())) λd=>ah (F71 n (b.2.1,b.2.2.1,d.1)) λe=>Z e)) (ah (F128 n (b.1,b.2.1,b.2.2.2.2.1,b.2.2.2.2.2.1,())) λd=>
 ai (aq d.1.2.1) (ah (F79 n (b.2.1,b.2.2.1,2,())) λe=>Z e) (ah (F70 n (b.2.2.2.1,aj.mk d.1.1.1 d.1.1.2 d.1.1.3 b.2.2.2.2.2.2.1,
 ())) λe=>ah (F71 n (b.2.1,b.2.2.1,e.1)) λg=>Z g))
def k76(n:Nat):OC:=⟨76,⟨atK,K132,J,F76 n⟩,cQ [k70 n,k71 n,k72 n,YI n,Rd n,aj3 n] [] n 10 76⟩
abbrev X1(F:Fn WL K44 J):lJ sg:=⟨WL,K44,J,F⟩
def Dd(n:Nat)(f129:ad1->adZ)(c:ad1):Y46->adZ:=
 λd=>Z (([],bS (aa c.2.2.1.1 d.1.1.1) (bS (aa c.2.2.1.2 d.1.1.2) W),()),())
def B129:Nat->(ad1->adZ)->ad1->adZ:=
 λn f129 c=>ai (aa c.2.1.1 1) (Z (([],W,()),())) (ai (aa c.2.1.1 2) (Z (([c.2.2.1],W,()),())) (ai (aa c.2.1.1 3) (ah
 (F43 n (c.2.1.2,())) (Dd n f129 c)) (ai (aa c.2.1.1 4) (ah (F73 n (aa c.2.1.2 1,())) (Dd n f129 c)) (ai (aa c.2.1.1 5) (ah (F74
 n ()) (Dd n f129 c)) (ah (F127 n (c.1,c.2.2.1,1,())) λd=>ai (aq d.1.2.1) (Z (([],J,()),())) (ai (aq (aa d.1.1.2
 c.2.1.2)) (Z (([],J,()),())) (ai (aq (aa (ak d.1.1.3) (ak c.2.1.4))) (Z (([],J,()),())) (ah (aQ (Y58) (ad0) (U) (λe=>ai (aD e.2.1 (ak c.2.1.4)) (aO (aF e.2.1 c.2.1.4) (aO (aF e.2.1 d.1.1.3) (ah (f129 (c.1,bh c.2.1.4 (ax e.2.1)
 aK,bh d.1.1.3 (ax e.2.1) bu,())) λg=>ai (aq g.1.2.1) (Z (X () ([],J,()))) (aO (dg e.1 g.1.1) (Z (N
 (dc e.1 g.1.1,aG .i64 e.2.1 1,()))))))) (Z (H 0 e))) n ([],0,())) λe=>bK e (λ_ h=>Z ((h.1,W,()),())) (λ_ h=>
 Z (h,())) λ_ _=>Y))))))))
def D129(n:Nat)(f129:Fn WL K44 J)(a:bG prog 129 (X1 f129)):bG prog 129 (X1 (B129 n f129)):=cQ [k43 n,k73 n,k74 n,Rd n,⟨129,X1 f129,a⟩] [(129,1,⟨[(10,.one (.own (.st 4))),(11,dm)],[],[],0⟩)] n 10 129
def R129(n k:Nat):(Fn WL K44 J):=Nat.rec (motive:=λ_=>(Fn WL K44 J)) (λ_=>Y) (λ_ r=>B129 n r) k
def F129(n:Nat):Fn WL K44 J:=(R129 n n)
def afx(n:Nat):∀k,bG prog 129 (X1 (R129 n k))
 |0=>cw (enters 129 (by kernel_rfl))
 |k+1=>have a:=afx n k
  D129 n _ a
def aqk(n:Nat):OC:=⟨129,X1 (F129 n),(afx n n)⟩
def Ky(b:I7):Int:=
 aZ .i64 (ak b.2.2.2.1) 1
def Ef(b:I7):Bool:=
 aF 0 b.2.2.2.2.2.1
def jL(b:I7):aj:=
 bh b.2.2.2.1 (ax (Ky b)) aR
def PY(b:I7):az×U:=
 (bh b.2.2.2.2.2.1 (ax 0) bu,())
def Ee(b:I7):Bool:=
 ez 0 (Ky b) (ak b.2.2.2.1)
def Ed(b:I7):L aj:=
 cL b.2.2.2.1 0 (Ky b)
def xl(n:Nat)(b:I7):Y45:=
 λd=>ah (F71 n (b.2.1,b.2.2.1,d.1)) λe=>Z e
def Ux(n:Nat)(b:I7):O Y2:=
 aO (Ee b) (ah (F70 n (Ed b,aj.mk b.2.2.2.2.1.2 (jL b).2 (jL b).3 (jL b).4,())) (xl n b))
def aaO(n:Nat)(b:I7):O Y2:=
 aO (Ee b) (ah (F70 n (Ed b,jL b,())) (xl n b))
def F77:Nat->I7->O Y2:=
 λn b=>aO (aF (Ky b) b.2.2.2.1) (ai (aa b.2.2.2.2.1.1 9) (aO (Ef b) (ah (F124 n ((jL b).2,PY b)) λc=>aO (Ee b) (ah
 (F70 n (Ed b,aj.mk (jL b).1 c.1.1 (jL b).3 (jL b).4,())) (xl n b)))) (ai (aa b.2.2.2.2.1.1 10) (aO (ez 0 (aZ .i64
 (ak (jL b).2) b.2.2.2.2.1.2) (ak (jL b).2)) (aO (Ee b) (ah (F70 n (Ed b,aj.mk (jL b).1 (cL (jL b).2 0 (aZ .i64
 (ak (jL b).2) b.2.2.2.2.1.2)) (jL b).3 (jL b).4,())) (xl n b)))) (ai (aa b.2.2.2.2.1.1 11) (Ux n b) (ai (aa b.2.2.2.2.1.1 12)
 (aO (Ef b) (ai (aq (aa (bh b.2.2.2.2.2.1 (ax 0) bu).1 2)) (ah (F79 n (b.2.1,b.2.2.1,2,())) λc=>Z c) (aO (Ef b)
 (ai (aa (bh b.2.2.2.2.2.1 (ax 0) bu).2 0) (Ux n b) (aaO n b))))) (ai (aa b.2.2.2.2.1.1 19) (aO (aF b.2.2.2.2.1.2 b.1.1.2) (aO
 (Ef b) (ah (F129 n (b.2.1,bh b.1.1.2 (ax b.2.2.2.2.1.2) aK,PY b)) λc=>ai c.1.2.1 (aO (dg (jL b).2 c.1.1) (aO (Ee b)
 (ah (F70 n (Ed b,aj.mk (jL b).1 (dc (jL b).2 c.1.1) (jL b).3 (jL b).4,())) (xl n b)))) (aO (Ef b) (ah (F124 n ((jL
 b).3,PY b)) λd=>aO (Ee b) (ah (F70 n (Ed b,aj.mk b.2.2.2.2.1.3 (jL b).2 d.1.1 (jL b).4,())) (xl n b))))))) (aaO n
 b))))))
def k77(n:Nat):OC:=⟨77,⟨atJ,K132,J,F77 n⟩,cQ [k70 n,k71 n,YI n,YM n,aqk n] [] n 10 77⟩
def F63:Y41:=
 λn b=>ai (br b.2.1 b.1) (Z ((br b.1 b.2.2.1,()),())) (Z ((J,()),()))
def k63(n:Nat):OC:=⟨63,⟨P6,K4,J,F63 n⟩,cQ [] [] n 10 63⟩
def PV(n:Nat)(b:Y53):O Y2:=
 ah (F79 n (b.1,b.2.1,2,())) λc=>Z c
def Uw(n:Nat)(b:Y53):Y46->O Y2:=
 λc=>ah (F72 n (b.2.2.1,c.1)) λd=>ah (F71 n (b.1,b.2.1,d.1)) λe=>Z e
def F78:Nat->Y53->O Y2:=
 λn b=>ai (aa b.2.2.2.1 17) (ai (aq (aa b.2.2.2.2.1.1 b.2.2.2.2.2.1.1)) (PV n b) (ai (aD 3 b.2.2.2.2.1.1) (PV n b) (ah (F73
 n (bS (aa b.2.2.2.2.1.1 b.2.2.2.2.2.1.1) (bS (aa b.2.2.2.2.1.2 b.2.2.2.2.2.1.2) W),())) (Uw n b)))) (ai (aq (aa
 b.2.2.2.2.1.1 1)) (PV n b) (ai (aq (aa b.2.2.2.2.2.1.1 1)) (PV n b) (ai (aa b.2.2.2.1 16) (ah (F73 n (aD b.2.2.2.2.1.2
 b.2.2.2.2.2.1.2,())) (Uw n b)) (ah (ai (aa b.2.2.2.1 13) (Z (N (aG .i64 b.2.2.2.2.1.2 b.2.2.2.2.2.1.2,W,()))) (ah (ai
 (aa b.2.2.2.1 14) (Z (N (aZ .i64 b.2.2.2.2.1.2 b.2.2.2.2.2.1.2,W,()))) (ah (ai (aa b.2.2.2.1 15) (Z (N (Im .i64
 b.2.2.2.2.1.2 b.2.2.2.2.2.1.2,W,()))) (Z (N (0,J,())))) λ(c:Y54)=>cr c (λd=>Z (N (d.1,J,()))) (λ_
 _=>Y) (λ_ _=>Z (X () ())) λ_ _=>Y)) λ(c:Y54)=>cr c (λd=>Z (N (d.1,J,()))) (λ_ _=>Y)
 (λ_ _=>Z (X () ())) λ_ _=>Y)) λ(c:Y54)=>cr c (λd=>ah (F63 n (d.1,(-1000000000),1000000000,())) λe=>ai
 (aq e.1.1) (ah (F79 n (b.1,b.2.1,4,())) λg=>Z g) (ah (F43 n (d.1,())) (Uw n b))) (λ_ _=>Y) (λ_ _=>Z
 ((jK,()),())) λ_ _=>Y))))
def k78(n:Nat):OC:=⟨78,⟨atI,K132,J,F78 n⟩,cQ [k43 n,k63 n,k71 n,k72 n,k73 n,YI n] [(78,1000012,⟨[(13,dm),(63,di)],[],[],0⟩),(78,1000014,⟨[(13,dm),(70,di)],[],[],0⟩),(78,1000016,⟨[(13,dm),(77,di)],[],[],0⟩)] n 10 78⟩
def F88:amH:=
 λn b=>ai (aa b.1.1 4) (ah (F126 n (0,())) λc=>Z c) (ai (aa b.1.1 5) (ah (F126 n (0,())) λc=>Z c) (Z (b,())))
def k88(n:Nat):OC:=⟨88,⟨P45,K20,J,F88 n⟩,cQ [acN n] [] n 10 88⟩
def F83:Nat->bn×Int×Int×Int×az×U->O Y2:=
 λn b=>ai (aa b.1.2 1) (Z ((b.1,()),())) (ah (F88 n b.2.2.2.2) λc=>Z ((bn.mk b.1.1 1 (aP.mk b.2.1 b.2.2.1
 b.2.2.2.1 c.1.1),()),()))
def k83(n:Nat):OC:=⟨83,⟨atH,K132,J,F83 n⟩,cQ [k88 n] [] n 10 83⟩
def BC(b:Y1):az:=
 bh b.2.2.2.2.1 (ax 0) bu
def F80:Y3:=
 λn b=>ai (aa b.2.2.2.1 21) (aO (aF 0 b.2.2.2.2.1) (ah (F75 n (b.1,b.2.1,b.2.2.1,bB.mk 3 0 [BC b] [],())) λc=>aO (aF 0
 b.2.2.2.2.1) (ah (F83 n (c.1.1,b.2.1,16,0,BC b,())) λd=>Z d))) (aO (aF 0 b.2.2.2.2.1) (ah (F127 n (b.1,BC b,3,())) λc=>
 ai (aq c.1.2.1) (ah (F79 n (b.1,b.2.1,2,())) λd=>Z d) (ai (aa b.2.2.2.1 22) (aO (aF 0 c.1.1.3) (ah (F72 n (b.2.2.1,bh
 c.1.1.3 (ax 0) bu,())) λd=>ah (F71 n (b.1,b.2.1,d.1)) λe=>aO (aF 0 c.1.1.3) (ah (F83 n (e.1.1,b.2.1,17,0,bh c.1.1.3
 (ax 0) bu,())) λg=>Z g))) (aO (aF 0 b.2.2.2.2.1) (aO (aF 1 b.2.2.2.2.1) (aO (aF (BC b).2 b.1.1) (aO (dX (ax (BC
 b).2) b.1.1) (ah (F74 n ()) λd=>ah (F72 n (b.2.2.1,d.1)) λe=>aO (aF 1 b.2.2.2.2.1) (ah (F71 n (av.mk (lF b.1.1 (ax (BC
 b).2) (bB.mk 3 0 [bh b.2.2.2.2.1 (ax 1) bu] [])) b.1.2 b.1.3 b.1.4 b.1.5,b.2.1,e.1)) λg=>ah (F83 n (g.1.1,b.2.1,18,0,bh
 b.2.2.2.2.1 (ax 1) bu,())) λh=>Z h)))))))))
def k80(n:Nat):OC:=⟨80,⟨amV,K132,J,F80 n⟩,cQ [k71 n,k72 n,k74 n,k75 n,YI n,k83 n,Rd n] [] n 10 80⟩
def ae7:ahE:=
 ([],[],[],[],0,0,0,0,0,0,0,())
def PU(b:Pz):Bool:=
 aF b.2.2.1 b.2.1.2
def BB(b:Pz):Nat:=
 ax (bh b.2.1.2 (ax b.2.2.1) 0)
def PT(b:Pz):L bB:=
 lF b.2.1.1 (BB b) (bB.mk 6 4 [] [])
def H7(b:Pz)(g:Y46):Int×Int×Int×az×U:=
 (b.2.2.1,19,0,g.1)
def Ec(b:Pz)(e:adW):L bB:=
 dc b.2.1.1 [bB.mk e.2.2.1.1 e.2.2.1.2.1 [] e.2.2.1.2.2.2.1]
def PS(b:Pz)(e:adW):L bB:=
 lF (Ec b e) (BB b) (bB.mk 6 4 [] [])
def PR(b:Pz)(e:adW)(h:W6×U):L bB:=
 lF (Ec b e) (BB b) (bB.mk 6 0 [] h.1.1)
def F81:Nat->Pz->O Y2:=
 λn b=>ah (F127 n (b.2.1,b.2.2.2.2.1,5,())) λc=>ah (ai c.1.2.1 (ah (F74 n ()) λd=>ah (F72 n (c.1.1.4,d.1)) λe=>Z
 (N (W,ae7,(6,0,[],e.1),()))) (ah (F74 n ()) λd=>ah (F128 n (b.1,b.2.1,b.2.2.2.2.1,d.1)) λe=>ai (aq e.1.2.1) (aO
 (PU b) (aO (aF (bh b.2.1.2 (ax b.2.2.1) 0) b.2.1.1) (aO (dX (BB b) b.2.1.1) (Z (X ((lF b.2.1.1 (BB b) (bB.mk 6 2 []
 []),b.2.1.2,b.2.1.3,b.2.1.4,b.2.1.5,1,b.2.2.1,0,2,0,0,()),(6,0,[],[],()),()) ()))))) (Z (N (J,ae7,(6,0,[],[e.1.1],
 ()),()))))) λ(d:LO adW U (ahE×Ku×U) Any)=>cr d (λe=>ai (br 120 (ak b.2.1.1)) (aO (PU b) (aO (aF (bh b.2.1.2
 (ax b.2.2.1) 0) b.2.1.1) (aO (dX (BB b) b.2.1.1) (ai (aq W) (aO (dg b.2.1.2 [aZ .i64 (ak (PT b)) 1]) (ah (F74 n ()) λg
 =>ah (F83 n (bn.mk (av.mk (PT b) (dc b.2.1.2 [aZ .i64 (ak (PT b)) 1]) b.2.1.3 b.2.1.4 b.2.1.5) 1 (aP.mk
 b.2.2.1 0 4 bu),H7 b g)) λh=>Z h)) (ah (F74 n ()) λg=>ah (F83 n (bn.mk (av.mk (PT b) b.2.1.2 b.2.1.3
 b.2.1.4 b.2.1.5) 1 (aP.mk b.2.2.1 0 4 bu),H7 b g)) λh=>Z h))))) (aO (dg b.2.1.1 [bB.mk e.2.2.1.1 e.2.2.1.2.1 []
 e.2.2.1.2.2.2.1]) (ah (F126 n (aZ .i64 (ak (Ec b e)) 1,())) λg=>ah (F72 n (b.2.2.2.1,g.1)) λh=>ai (aD 40 (ak h.1.1)) (aO
 (PU b) (aO (dX (ax b.2.2.1) b.2.1.2) (aO (aF (bh b.2.1.2 (ax b.2.2.1) 0) (Ec b e)) (aO (dX (BB b) (Ec b e)) (ai (aq
 W) (aO (dg b.2.1.2 [aZ .i64 (ak (PS b e)) 1]) (ah (F74 n ()) λi=>ah (F83 n (bn.mk (av.mk (PS b e) (dc
 b.2.1.2 [aZ .i64 (ak (PS b e)) 1]) b.2.1.3 b.2.1.4 b.2.1.5) 1 (aP.mk b.2.2.1 0 4 bu),H7 b i)) λj=>Z j)) (ah (F74 n
 ()) λi=>ah (F83 n (bn.mk (av.mk (PS b e) b.2.1.2 b.2.1.3 b.2.1.4 b.2.1.5) 1 (aP.mk b.2.2.1 0 4 bu),H7 b i))
 λj=>Z j)))))) (aO (PU b) (aO (dX (ax b.2.2.1) b.2.1.2) (aO (aF (bh b.2.1.2 (ax b.2.2.1) 0) (Ec b e)) (aO (dX (BB b)
 (Ec b e)) (ai (aq J) (aO (dg b.2.1.2 [aZ .i64 (ak (PR b e h)) 1]) (ah (F74 n ()) λi=>ah (F83 n (bn.mk
 (av.mk (PR b e h) (dc b.2.1.2 [aZ .i64 (ak (PR b e h)) 1]) b.2.1.3 b.2.1.4 b.2.1.5) 0 ct,H7 b i)) λj=>Z j))
 (ah (F74 n ()) λi=>ah (F83 n (bn.mk (av.mk (PR b e h) b.2.1.2 b.2.1.3 b.2.1.4 b.2.1.5) 0 ct,H7 b i)) λj=>
 Z j))))))))) (λ_ _=>Y) (λe _=>Z ((bn.mk (av.mk e.1.1 e.1.2.1 e.1.2.2.1 e.1.2.2.2.1 e.1.2.2.2.2.1) e.1.2.2.2.2.2.1
 (aP.mk e.1.2.2.2.2.2.2.1 e.1.2.2.2.2.2.2.2.1 e.1.2.2.2.2.2.2.2.2.1 (az.mk e.1.2.2.2.2.2.2.2.2.2.1 e.1.2.2.2.2.2.2.2.2.2.2.1)),()),()))
 λ_ _=>Y
def k81(n:Nat):OC:=⟨81,⟨atG,K132,J,F81 n⟩,cQ [k72 n,k74 n,k83 n,acN n,Rd n,aj3 n] [(81,1000004,⟨[(24,di),(0,b2z),(0,al4)],[.slot 10,.slot 11],[],0⟩)] n 10 81⟩
def F82:Nat->av×Int×L aj×az×U->O Y2:=
 λn b=>ah (F127 n (b.1,b.2.2.2.1,6,())) λc=>ai (aq c.1.2.1) (ah (F79 n (b.1,b.2.1,2,())) λd=>Z d) (ai (aa c.1.1.2 0)
 (Z ((bn.mk b.1 2 ct,()),())) (ai (aq (aa c.1.1.2 1)) (ah (F79 n (b.1,b.2.1,c.1.1.2,())) λd=>Z d) (aO
 (aF 0 c.1.1.3) (ah (F72 n (b.2.2.1,bh c.1.1.3 (ax 0) bu,())) λd=>ah (F71 n (b.1,b.2.1,d.1)) λe=>aO (aF 0 c.1.1.3) (ah
 (F83 n (e.1.1,b.2.1,20,0,bh c.1.1.3 (ax 0) bu,())) λg=>Z g)))))
def k82(n:Nat):OC:=⟨82,⟨atF,K132,J,F82 n⟩,cQ [k71 n,k72 n,YI n,k83 n,Rd n] [] n 10 82⟩
def Kx(b:Y1):Nat:=
 ax (bh b.2.2.2.2.1 (ax 0) bu).2
def F84:Y3:=
 λn b=>aO (aF 0 b.2.2.2.2.1) (ah (F127 n (b.1,bh b.2.2.2.2.1 (ax 0) bu,4,())) λc=>ai (aq c.1.2.1) (ah (F79 n (b.1,
 b.2.1,2,())) λd=>Z d) (ai (aa b.2.2.2.1 27) (ai (br 4 (ak c.1.1.3)) (Z ((bn.mk b.1 2 ct,()),())) (aO
 (aF 0 b.2.2.2.2.1) (aO (aF 1 b.2.2.2.2.1) (ah (F124 n (c.1.1.3,bh b.2.2.2.2.1 (ax 1) bu,())) λd=>aO (aF (bh b.2.2.2.2.1 (ax
 0) bu).2 b.1.1) (aO (dX (Kx b) b.1.1) (ah (F74 n ()) λe=>ah (F72 n (b.2.2.1,e.1)) λg=>aO (aF 1 b.2.2.2.2.1) (ah (F71 n
 (av.mk (lF b.1.1 (Kx b) (bB.mk 4 0 d.1.1 [])) b.1.2 b.1.3 b.1.4 b.1.5,b.2.1,g.1)) λh=>ah (F83 n (h.1.1,b.2.1,22,0,bh
 b.2.2.2.2.1 (ax 1) bu,())) λi=>Z i))))))) (ai (aa (ak c.1.1.3) 0) (Z ((bn.mk b.1 2 ct,()),())) (aO
 (aF 0 b.2.2.2.2.1) (aO (ez 1 (ak c.1.1.3) (ak c.1.1.3)) (aO (aF (bh b.2.2.2.2.1 (ax 0) bu).2 b.1.1) (aO (dX (Kx b) b.1.1)
 (aO (aF 0 c.1.1.3) (ah (F72 n (b.2.2.1,bh c.1.1.3 (ax 0) bu,())) λd=>aO (aF 0 c.1.1.3) (ah (F71 n (av.mk (lF b.1.1
 (Kx b) (bB.mk 4 0 (cL c.1.1.3 1 (ak c.1.1.3)) [])) b.1.2 b.1.3 b.1.4 b.1.5,b.2.1,d.1)) λe=>ah (F83 n (e.1.1,b.2.1,23,0,bh
 c.1.1.3 (ax 0) bu,())) λg=>Z g))))))))))
def k84(n:Nat):OC:=⟨84,⟨amV,K132,J,F84 n⟩,cQ [k71 n,k72 n,k74 n,YI n,k83 n,YM n,Rd n] [] n 10 84⟩
def F85:Nat->Y48->O Y2:=
 λn b=>ai (aa b.2.2.2.1.1 30) (ai (aa (ak b.1.4) 0) (Z ((bn.mk b.1 2 ct,()),())) (aO (aF 0 b.1.4) (aO (dX
 (ax 0) b.1.4) (ah (F43 n (bh b.1.4 (ax 0) 0,())) λc=>ai (br 1000000000 b.1.5) (ah (F79 n (b.1,b.2.1,4,())) λd=>Z d) (aO
 (ez 1 (ak b.1.4) (ak b.1.4)) (ah (F72 n (b.2.2.1,c.1)) λd=>ah (F71 n (av.mk b.1.1 b.1.2 b.1.3 (cL b.1.4 1 (ak b.1.4)) (aG .i64
 b.1.5 1),b.2.1,d.1)) λe=>ah (F83 n (e.1.1,b.2.1,25,0,c.1)) λg=>Z g)))))) (aO (aF 0 b.2.2.2.2.1) (ai (aq (aa (bh
 b.2.2.2.2.1 (ax 0) bu).1 1)) (ah (F79 n (b.1,b.2.1,2,())) λc=>Z c) (ai (br 100 (ak b.1.3)) (ah (F79 n (b.1,b.2.1,4,()))
 λc=>Z c) (aO (aF 0 b.2.2.2.2.1) (aO (dg b.1.3 [eg.mk b.2.2.2.1.2 (bh b.2.2.2.2.1 (ax 0) bu).2]) (ah (F74 n ()) λc=>
 ah (F72 n (b.2.2.1,c.1)) λd=>aO (aF 0 b.2.2.2.2.1) (ah (F71 n (av.mk b.1.1 b.1.2 (dc b.1.3 [eg.mk b.2.2.2.1.2 (bh b.2.2.2.2.1
 (ax 0) bu).2]) b.1.4 b.1.5,b.2.1,d.1)) λe=>ah (F83 n (e.1.1,b.2.1,24,b.2.2.2.1.2,bh b.2.2.2.2.1 (ax 0) bu,())) λg=>
 Z g)))))))
def k85(n:Nat):OC:=⟨85,⟨atE,K132,J,F85 n⟩,cQ [k43 n,k71 n,k72 n,k74 n,YI n,k83 n] [] n 10 85⟩
def F86:Nat->av×Int×L aj×Int×U->O Y2:=
 λn b=>aO (aF (aZ .i64 (ak b.2.2.1) 1) b.2.2.1) (ah (aQ (Int×U) (U) (U) (λc=>ai (br 0 c.1) (aO (aF c.1
 b.2.2.1) (ai (aq (bh b.2.2.1 (ax c.1) aR).4) (Z (N (aZ .i64 c.1 1,()))) (Z (H 0 c)))) (Z (H 0 c))) n
 (aZ .i64 (ak b.2.2.1) 1,())) λc=>bK c (λ_ e=>ai (aD e.1 0) (ah (F79 n (b.1,b.2.1,3,())) λg=>Z g) (ai (br 120
 (ak b.1.1)) (ah (F79 n (b.1,b.2.1,4,())) λg=>Z g) (aO (ez e.1 (ak b.2.2.1) (ak b.2.2.1)) (aO (dg b.1.1 [bB.mk 5 0 [] (cL
 b.2.2.1 e.1 (ak b.2.2.1))]) (aO (ez 0 e.1 (ak b.2.2.1)) (ah (F126 n (aZ .i64 (ak (dc b.1.1 [bB.mk 5 0 [] (cL b.2.2.1 e.1 (ak
 b.2.2.1))])) 1,())) λg=>ah (F124 n ((bh b.2.2.1 (ax (aZ .i64 (ak b.2.2.1) 1)) aR).2,g.1)) λh=>ah (F70 n (cL b.2.2.1 0
 e.1,aj.mk b.2.2.2.1 h.1.1 [] W,())) λi=>ah (F71 n (av.mk (dc b.1.1 [bB.mk 5 0 [] (cL b.2.2.1 e.1 (ak b.2.2.1))]) b.1.2
 b.1.3 b.1.4 b.1.5,b.2.1,i.1)) λj=>Z j)))))) (λ_ _=>Z ((jK,()),())) λ_ _=>Y)
def k86(n:Nat):OC:=⟨86,⟨atD,K132,J,F86 n⟩,cQ [k70 n,k71 n,YI n,YM n,acN n] [(86,0,⟨[(9,dm)],[],[],0⟩)] n 10 86⟩
def xm(b:W4):Nat:=
 ax (bh b.2.1.2 (ax b.2.2.1) 0)
def vN(b:W4):Int:=
 aZ .i64 (ak (bh b.2.1.1 (xm b) bw).4) 1
def mN(b:W4):aj:=
 bh (bh b.2.1.1 (xm b) bw).4 (ax (vN b)) aR
def ej(b:W4):bR:=
 bh b.1.1.1 (ax (mN b).1) bP
def H8(b:W4)(c:(Int×U)×U):Int:=
 aZ .i64 (ak (mN b).3) c.1.1
def KB(n:Nat)(b:W4):Y45:=
 λg=>ah (F71 n (b.2.1,b.2.2.1,g.1)) λh=>Z h
def UB(n:Nat)(b:W4)(d:W6×U):Y46->O Y2:=
 λe=>ah (F72 n (d.1.1,e.1)) (KB n b)
def lW(b:W4)(c:(Int×U)×U):L az:=
 cL (mN b).3 (H8 b c) (ak (mN b).3)
def y5(b:W4)(c:(Int×U)×U):az:=
 bh (lW b c) (ax 0) bu
def Ms(n:Nat):Y47->O Y47:=
 λe=>cr e (λg=>Z (N g)) (λ_ _=>Y) (λ_ _=>Z (X () ())) λ_ _=>Y
def SD(b:W4)(c:(Int×U)×U)(d:W6×U):Y48:=
 (b.2.1,b.2.2.1,d.1.1,ej b,lW b c,())
def Mr(n:Nat):Y47->O Y47:=
 λh=>cr h (λi=>Z (N i)) (λ_ _=>Y) (λ_ _=>Z (X () ())) λ_ _=>Y
def SC(b:W4)(c:(Int×U)×U)(d:W6×U):Y1:=
 (b.2.1,b.2.2.1,d.1.1,(ej b).1,lW b c,())
def CQ(n:Nat):U->U->O Y2:=
 λ_ _=>Z ((jK,()),())
def F37:Nat->W4->O Y2:=
 λn b=>aO (aF b.2.2.1 b.2.1.2) (aO (aF (bh b.2.1.2 (ax b.2.2.1) 0) b.2.1.1) (ai (aq (aa (bh b.2.1.1 (xm b) bw).2 0))
 (Z ((bn.mk b.2.1 2 ct,()),())) (aO (aF (vN b) (bh b.2.1.1 (xm b) bw).4) (aO (aF (mN b).1 b.1.1.1) (ah
 (F69 n (b.1,ej b,())) λc=>aO (ez (H8 b c) (ak (mN b).3) (ak (mN b).3)) (aO (ez 0 (vN b) (ak (bh b.2.1.1 (xm b)
 bw).4)) (aO (ez 0 (H8 b c) (ak (mN b).3)) (ah (F70 n (cL (bh b.2.1.1 (xm b) bw).4 0 (vN b),aj.mk (aG .i64
 (mN b).1 1) (mN b).2 (cL (mN b).3 0 (H8 b c)) (mN b).4,())) λd=>ai (aa (ej b).1 1) (ah (F43 n ((ej b).2,())) (UB
 n b d)) (ai (aa (ej b).1 2) (ah (F73 n (aa (ej b).2 1,())) (UB n b d)) (ai (aa (ej b).1 3) (ah (F74 n ()) (UB n b d)) (ai
 (aa (ej b).1 4) (aO (aF (ej b).2 (mN b).2) (ah (F72 n (d.1.1,bh (mN b).2 (ax (ej b).2) bu,())) (KB n b))) (ai
 (aa (ej b).1 5) (ah (F72 n (d.1.1,az.mk 4 (ej b).2,())) (KB n b)) (ai (aa (ej b).1 6) (ah (F75 n (b.2.1,b.2.2.1,d.1.1,
 bB.mk 2 (ej b).2 (mN b).2 [],())) λe=>Z e) (ai (aa (ej b).1 7) (aO (aF 0 (lW b c)) (aO (aF 1 (lW b c)) (ah (F76
 n (b.1,b.2.1,b.2.2.1,d.1.1,y5 b c,bh (lW b c) (ax 1) bu,J,())) λe=>Z e))) (ai (aa (ej b).1 8) (aO (ez 0
 (vN b) (ak d.1.1)) (aO (aF 0 (lW b c)) (aO (aF 1 (lW b c)) (ah (F76 n (b.1,b.2.1,b.2.2.1,cL d.1.1 0 (vN b),y5 b c,bh
 (lW b c) (ax 1) bu,(mN b).4,())) λe=>Z e)))) (ah (ai (aa (ej b).1 9) (Z (N (W,()))) (ah (ai (aa
 (ej b).1 10) (Z (N (W,()))) (ah (ai (aa (ej b).1 11) (Z (N (W,()))) (ah (ai (aa (ej b).1 12) (Z
 (N (W,()))) (Z (N (aa (ej b).1 19,())))) (Ms n))) (Ms n))) (Ms n))) λ(e:Y47)=>cr e (λg=>ai g.1
 (ah (F77 n (b.1,SD b c d)) λh=>Z h) (ah (ai (aa (ej b).1 13) (Z (N (W,()))) (ah (ai (aa (ej b).1 14) (Z
 (N (W,()))) (ah (ai (aa (ej b).1 15) (Z (N (W,()))) (ah (ai (aa (ej b).1 16) (Z (N (W,()))) (Z
 (N (aa (ej b).1 17,())))) (Mr n))) (Mr n))) (Mr n))) λ(h:Y47)=>cr h (λi=>ai i.1 (aO (aF 0 (lW b c)) (aO
 (aF 1 (lW b c)) (ah (F78 n (b.2.1,b.2.2.1,d.1.1,(ej b).1,y5 b c,bh (lW b c) (ax 1) bu,())) λj=>Z j))) (ai (aa
 (ej b).1 18) (ah (F75 n (b.2.1,b.2.2.1,d.1.1,bB.mk 1 (ej b).2 (lW b c) [],())) λj=>Z j) (ai (aa (ej b).1 20) (ah (F79
 n (b.2.1,b.2.2.1,3,())) λj=>Z j) (ah (ai (aa (ej b).1 21) (Z (N (W,()))) (ah (ai (aa (ej b).1 22) (Z
 (N (W,()))) (Z (N (aa (ej b).1 23,())))) λ(j:Y47)=>cr j (λk=>Z (N k)) (λ_ _=>Y) (λ_ _=>
 Z (X () ())) λ_ _=>Y)) λ(j:Y47)=>cr j (λk=>ai k.1 (ah (F80 n (SC b c d)) λl=>Z l) (ai (aa (ej b).1
 24) (aO (aF 0 (lW b c)) (ah (F81 n (b.1,b.2.1,b.2.2.1,d.1.1,y5 b c,())) λl=>Z l)) (ai (aa (ej b).1 25) (aO (aF 0
 (lW b c)) (ah (F82 n (b.2.1,b.2.2.1,d.1.1,y5 b c,())) λl=>Z l)) (ai (aa (ej b).1 26) (ah (F75 n (b.2.1,b.2.2.1,d.1.1,
 bB.mk 4 0 [] [],())) λl=>ah (F74 n ()) λm=>ah (F83 n (l.1.1,b.2.2.1,21,0,m.1)) λo=>Z o) (ah (ai (aa (ej b).1 27)
 (Z (N (W,()))) (Z (N (aa (ej b).1 28,())))) λ(l:Y47)=>cr l (λm=>ai m.1 (ah (F84 n (SC b c d)) λo
 =>Z o) (ah (ai (aa (ej b).1 29) (Z (N (W,()))) (Z (N (aa (ej b).1 30,())))) λ(o:Y47)=>cr o (λp=>
 ai p.1 (ah (F85 n (SD b c d)) λq=>Z q) (ai (aa (ej b).1 31) (ah (F70 n (d.1.1,aj.mk (ej b).2 (mN b).2 [] W,()))
 (KB n b)) (ai (aa (ej b).1 32) (ah (F86 n (b.2.1,b.2.2.1,d.1.1,(ej b).2,())) λq=>Z q) (ai (aa (ej b).1 33) (ah (F74 n
 ()) λq=>ah (F72 n (d.1.1,q.1)) λr=>ah (F71 n (b.2.1,b.2.2.1,r.1)) λs=>ah (F74 n ()) λt=>ah (F83 n (s.1.1,b.2.2.1,28,0,
 t.1)) λu=>Z u) (ai (aa (vN b) 0) (aO (aF b.2.2.1 b.2.1.2) (aO (aF 0 (lW b c)) (aO (aF 0 (lW b c)) (aO (aF (bh b.2.1.2
 (ax b.2.2.1) 0) b.2.1.1) (aO (dX (xm b) b.2.1.1) (ah (F88 n (y5 b c,())) λq=>Z ((bn.mk (av.mk (lF b.2.1.1
 (xm b) (bB.mk 6 1 [y5 b c] [])) b.2.1.2 b.2.1.3 b.2.1.4 b.2.1.5) 1 (aP.mk b.2.2.1 0 1 q.1.1),()),()))))))) (aO (ez 0 (vN b)
 (ak d.1.1)) (aO (aF 0 (lW b c)) (ah (F72 n (cL d.1.1 0 (vN b),y5 b c,())) (KB n b))))))))) (λ_ _=>Y) (CQ n) λ_ _
 =>Y)) (λ_ _=>Y) (CQ n) λ_ _=>Y))))) (λ_ _=>Y) (CQ n) λ_ _=>Y)))) (λ_ _=>Y) (CQ n) λ_ _=>
 Y)) (λ_ _=>Y) (CQ n) λ_ _=>Y))))))))))))))))
def k37(n:Nat):OC:=⟨37,⟨atC,K132,J,F37 n⟩,cQ [k43 n,k69 n,k70 n,k71 n,k72 n,k73 n,k74 n,k75 n,k76 n,k77 n,k78 n,YI n,k80 n,k81 n,k82 n,k83 n,k84 n,k85 n,k86 n,k88 n] [(37,1000028,⟨[(167,di)],[],[],0⟩),(37,1000029,⟨[(167,di)],[],[],0⟩),(37,1000030,⟨[(167,di)],[],[],0⟩),(37,1000031,⟨[(167,di)],[],[],0⟩),(37,1000034,⟨[(180,di)],[],[],0⟩),(37,1000035,⟨[(180,di)],[],[],0⟩),(37,1000036,⟨[(180,di)],[],[],0⟩),(37,1000037,⟨[(180,di)],[],[],0⟩),(37,1000044,⟨[(213,di)],[],[],0⟩),(37,1000045,⟨[(213,di)],[],[],0⟩),(37,1000054,⟨[(253,di)],[],[],0⟩),(37,1000057,⟨[(263,di)],[],[],0⟩)] n 10 37⟩
def F31:ahR:=
 λn b=>ai (aD 130 (ak b.1.1)) (Z ((J,()),())) (ai (aD 130 (ak b.1.2)) (Z ((J,()),())) (ai (aD 110 (ak b.1.3))
 (Z ((J,()),())) (ai (aD 60 (ak b.1.4)) (Z ((J,()),())) (ah (aQ (Int×U) (Bool×U) (U) (λc=>ai (aD
 c.1 (ak b.1.1)) (aO (aF c.1 b.1.1) (ai (aD 40 (ak (bh b.1.1 (ax c.1) bw).3)) (Z (X () (J,()))) (ai (aD 50 (ak
 (bh b.1.1 (ax c.1) bw).4)) (Z (X () (J,()))) (ah (aQ (Int×U) (Bool×U) (U) (λd=>ai (aD d.1 (ak
 (bh b.1.1 (ax c.1) bw).4)) (aO (aF d.1 (bh b.1.1 (ax c.1) bw).4) (ai (aD 40 (ak (bh (bh b.1.1 (ax c.1) bw).4 (ax
 d.1) aR).2)) (Z (X () (J,()))) (aO (aF d.1 (bh b.1.1 (ax c.1) bw).4) (ai (aD 70 (ak (bh (bh b.1.1 (ax c.1)
 bw).4 (ax d.1) aR).3)) (Z (X () (J,()))) (Z (N (aG .i64 d.1 1,()))))))) (Z (H 0 d))) n (0,())) λd
 =>bK d (λ_ _=>Z (N (aG .i64 c.1 1,()))) (λ_ g=>Z (X () g)) λ_ _=>Y)))) (Z (H 0 c))) n (0,())) λc
 =>bK c (λ_ _=>Z ((W,()),())) (λ_ e=>Z (e,())) λ_ _=>Y))))
def k31(n:Nat):OC:=⟨31,⟨ahU,K4,J,F31 n⟩,cQ [] [(31,0,⟨[(3,dm)],[],[],0⟩),(31,2,⟨[(5,dm)],[],[],0⟩)] n 10 31⟩
def F19:Y93:=
 λn b=>ah (F11 n (b.1,())) λc=>ai c.1.1 (ah (F31 n b.2) λd=>Z d) (Z ((J,()),()))
def Ix(n:Nat):OC:=⟨19,⟨P66,K4,J,F19 n⟩,cQ [k11 n,k31 n] [] n 10 19⟩
def F116:ami:=
 λn b=>ah (aQ (Int×U) (Bool×U) (U) (λc=>ai (aD c.1 (ak b.1)) (aO (aF c.1 b.1) (ai (aa (bh b.1 (ax c.1)
 0) b.2.1) (Z (X () (W,()))) (Z (N (aG .i64 c.1 1,()))))) (Z (H 0 c))) n (0,())) λc=>bK c (λ_ _=>Z
 ((J,()),())) (λ_ e=>Z (e,())) λ_ _=>Y
def aqn(n:Nat):OC:=⟨116,⟨amW,K4,J,F116 n⟩,cQ [] [(116,0,⟨[(5,dm)],[],[],0⟩)] n 10 116⟩
def Qc(b:av×U)(g:Int×U):Int:=
 bh b.1.2 (ax g.1) 0
def F64:ahR:=
 λn b=>ah (aQ (Int×Int×U) (Bool×U) (U) (λc=>ai (aD c.2.1 (ak b.1.1)) (aO (aF c.2.1 b.1.1) (ai (aa (bh
 b.1.1 (ax c.2.1) bw).1 6) (Z (N (aG .i64 c.1 1,aG .i64 c.2.1 1,()))) (Z (N (c.1,aG .i64 c.2.1 1,()))))) (Z
 (H 0 c))) n (0,0,())) λc=>bK c (λ_ e=>ai (aq (aa (ak b.1.2) e.1)) (Z ((J,()),())) (ah (aQ (Int×U) (Bool
 ×U) (U) (λg=>ai (aD g.1 e.1) (aO (aF g.1 b.1.2) (ah (F63 n (Qc b g,0,aZ .i64 (ak b.1.1) 1,())) λh=>ai
 (aq h.1.1) (Z (X () (J,()))) (aO (aF (Qc b g) b.1.1) (ai (aq (aa (bh b.1.1 (ax (Qc b g)) bw).1 6)) (Z
 (X () (J,()))) (aO (ez 0 g.1 (ak b.1.2)) (ah (F116 n (cL b.1.2 0 g.1,Qc b g,())) λi=>ai i.1.1 (Z (X () (J,
 ()))) (Z (N (aG .i64 g.1 1,()))))))))) (Z (H 0 g))) n (0,())) λg=>bK g (λ_ _=>Z ((W,()),())) (λ_ i=>
 Z (i,())) λ_ _=>Y)) (λ_ e=>Z (e,())) λ_ _=>Y
def k64(n:Nat):OC:=⟨64,⟨ahU,K4,J,F64 n⟩,cQ [k63 n,aqn n] [(64,0,⟨[(3,dm),(4,dm)],[],[],0⟩),(64,2,⟨[(5,dm)],[],[],0⟩)] n 10 64⟩
def F171:Nat->bC×av×az×U->O Y4:=
 λn b=>ai (aa b.2.2.1.1 1) (ah (F63 n (b.2.2.1.2,(-1000000000),1000000000,())) λc=>Z c) (ai (aa b.2.2.1.1 2) (ah (F63 n
 (b.2.2.1.2,0,1,())) λc=>Z c) (ai (aa b.2.2.1.1 3) (Z ((aa b.2.2.1.2 0,()),())) (ai (aa b.2.2.1.1 4) (ah (F63 n (b.2.2.1.2,
 0,aZ .i64 (ak b.1.1.3) 1,())) λc=>Z c) (ai (aa b.2.2.1.1 5) (ah (F63 n (b.2.2.1.2,0,aZ .i64 (ak b.2.1.1) 1,())) λc=>
 Z c) (Z ((J,()),()))))))
def ap3(n:Nat):OC:=⟨171,⟨atB,K4,J,F171 n⟩,cQ [k63 n] [] n 10 171⟩
def F118:Nat->bC×av×L az×Int×U->O Y4:=
 λn b=>ai (aq (aa (ak b.2.2.1) b.2.2.2.1)) (Z ((J,()),())) (ah (aQ (Int×U) (Bool×U) (U) (λc=>ai
 (aD c.1 b.2.2.2.1) (aO (aF c.1 b.2.2.1) (ah (F171 n (b.1,b.2.1,bh b.2.2.1 (ax c.1) bu,())) λd=>ai (aq d.1.1) (Z (X
 () (J,()))) (Z (N (aG .i64 c.1 1,()))))) (Z (H 0 c))) n (0,())) λc=>bK c (λ_ _=>Z ((W,()),())) (λ_ e
 =>Z (e,())) λ_ _=>Y)
def aj5(n:Nat):OC:=⟨118,⟨atA,K4,J,F118 n⟩,cQ [ap3 n] [(118,0,⟨[(9,dm)],[],[],0⟩)] n 10 118⟩
def CX(n:Nat):ahK:=
 Z (X () (J,()))
def MG(b:ad3)(d:Int×U):Bool:=
 aF (bh b.2.2.1 (ax d.1) aR).1 b.1.2
def CW(b:ad3)(d:Int×U):au:=
 bh b.1.2 (ax (bh b.2.2.1 (ax d.1) aR).1) aT
def SL(n:Nat)(b:ad3)(d:Int×U):LO (Int×Bool×U) (Bool×U) U Any->ahK:=
 λg=>cr g (λh=>aO (MG b d) (ah (F118 n (b.1,b.2.1,(bh b.2.2.1 (ax d.1) aR).2,(CW b d).3,())) λi=>ai (aq
 i.1.1) (CX n) (ai (aD h.1 0) (CX n) (ah (F118 n (b.1,b.2.1,(bh b.2.2.1 (ax d.1) aR).3,h.1,())) λj=>ai (aq j.1.1)
 (CX n) (Z (N (aG .i64 d.1 1,()))))))) (λ_ _=>Y) (λ_ i=>Z (X () i)) λ_ _=>Y
def F117:Nat->ad3->O Y4:=
 λn b=>ah (F63 n (ak b.2.2.1,1,40,())) λc=>ai (aq c.1.1) (Z ((J,()),())) (ah (aQ (Int×U) (Bool×U) (U) (λd=>ai (aD d.1 (ak b.2.2.1)) (aO (aF d.1 b.2.2.1) (ah (F63 n ((bh b.2.2.1 (ax d.1) aR).1,0,aZ .i64 (ak b.1.1.1)
 1,())) λe=>ai (aq e.1.1) (CX n) (aO (MG b d) (ai (aq (CW b d).1) (CX n) (aO (MG b d) (ai (aq b.2.2.2.1) (ah
 (Z (N (aZ .i64 (CW b d).2 1,W,()))) (SL n b d)) (ah (ai (aD d.1 (aZ .i64 (ak b.2.2.1) 1)) (Z (N (aZ .i64
 (CW b d).2 1,W,()))) (Z (N ((CW b d).2,J,())))) (SL n b d)))))))) (Z (H 0 d))) n (0,())) λd=>bK d (λ
 _ _=>Z ((W,()),())) (λ_ g=>Z (g,())) λ_ _=>Y)
def aqm(n:Nat):OC:=⟨117,⟨atz,K4,J,F117 n⟩,cQ [k63 n,aj5 n] [(117,0,⟨[(9,dm)],[],[],0⟩),(117,1000011,⟨[(11,dm),(60,di)],[],[],0⟩)] n 10 117⟩
def F119:Nat->bC×Int×U->O Y4:=
 λn b=>ah (aQ (Int×U) (Bool×U) (U) (λc=>ai (aD c.1 (ak b.1.1.1)) (aO (aF c.1 b.1.1.1) (ai (aa (bh b.1.1.1
 (ax c.1) bP).1 6) (aO (aF c.1 b.1.2) (ai (bh b.1.2 (ax c.1) aT).1 (aO (aF c.1 b.1.1.1) (ai (aa (bh b.1.1.1 (ax c.1)
 bP).2 b.2.1) (Z (X () (W,()))) (Z (N (aG .i64 c.1 1,()))))) (Z (N (aG .i64 c.1 1,()))))) (Z (N
 (aG .i64 c.1 1,()))))) (Z (H 0 c))) n (0,())) λc=>bK c (λ_ _=>Z ((J,()),())) (λ_ e=>Z (e,())) λ_ _=>
 Y
def aql(n:Nat):OC:=⟨119,⟨aty,K4,J,F119 n⟩,cQ [] [(119,0,⟨[(5,dm)],[],[],0⟩)] n 10 119⟩
def rL(n:Nat):O Y4:=
 Z ((J,()),())
def aaQ(n:Nat)(b:Y81):O Y4:=
 ah (F118 n (b.1,b.2.1,b.2.2.1.3,1,())) λc=>Z c
def F65:Nat->Y81->O Y4:=
 λn b=>ai (aa b.2.2.1.1 5) (ai (aa b.2.2.1.2 0) (ai (aa (ak b.2.2.1.3) 0) (ah (F117 n (b.1,b.2.1,b.2.2.1.4,J,())) λc=>
 ai c.1.1 (aO (aF 0 b.2.2.1.4) (Z (((bh b.2.2.1.4 (ax 0) aR).4,()),()))) (rL n)) (rL n)) (rL n)) (ai (aa b.2.2.1.1 6)
 (ai (aa b.2.2.1.2 0) (ai (aa (ak b.2.2.1.3) 0) (ah (F117 n (b.1,b.2.1,b.2.2.1.4,W,())) λc=>Z c) (rL n)) (ai (aa
 b.2.2.1.2 1) (ai (aa (ak b.2.2.1.4) 0) (aaQ n b) (rL n)) (ah (F63 n (b.2.2.1.2,2,4,())) λc=>ai c.1.1 (ai (aa (ak b.2.2.1.4)
 0) (Z ((aa (ak b.2.2.1.3) 0,()),())) (rL n)) (rL n)))) (ai (aq (aa (ak b.2.2.1.4) 0)) (rL n) (ai (aa b.2.2.1.1 1) (ah
 (F63 n (b.2.2.1.2,0,aZ .i64 (ak b.1.1.5) 1,())) λc=>ai c.1.1 (aO (aF b.2.2.1.2 b.1.1.5) (ah (F118 n (b.1,b.2.1,b.2.2.1.3,(bh
 b.1.1.5 (ax b.2.2.1.2) bg).2,())) λd=>Z d)) (rL n)) (ai (aa b.2.2.1.1 2) (ah (F119 n (b.1,b.2.2.1.2,())) λc=>ai c.1.1
 (aO (aF b.2.2.1.2 b.1.2) (ah (F118 n (b.1,b.2.1,b.2.2.1.3,aZ .i64 (bh b.1.2 (ax b.2.2.1.2) aT).3 1,())) λd=>Z d)) (rL
 n)) (ai (aa b.2.2.1.1 3) (ai (aa b.2.2.1.2 0) (aaQ n b) (rL n)) (ai (aa b.2.2.1.1 4) (ai (aa b.2.2.1.2 0) (ai (br (ak
 b.2.2.1.3) 4) (ah (F118 n (b.1,b.2.1,b.2.2.1.3,ak b.2.2.1.3,())) λc=>Z c) (rL n)) (rL n)) (rL n)))))))
def k65(n:Nat):OC:=⟨65,⟨atx,K4,J,F65 n⟩,cQ [k63 n,aqm n,aj5 n,aql n] [] n 10 65⟩
def KD(n:Nat):O Y4:=
 Z ((J,()),())
def F32:atb:=
 λn b=>ai (aD 120 (ak b.2.1.1)) (KD n) (ai (aD 100 (ak b.2.1.3)) (KD n) (ah (F15 n (b.2.1.4,50,())) λc=>ai (aq
 c.1.1) (KD n) (ah (F63 n (b.2.1.5,0,1000000000,())) λd=>ai (aq d.1.1) (KD n) (ah (F64 n b.2) λe=>ai (aq e.1.1) (KD n)
 (ah (aQ (Int×U) (Bool×U) (U) (λg=>ai (aD g.1 (ak b.2.1.1)) (aO (aF g.1 b.2.1.1) (ah (F65 n (b.1,b.2.1,bh
 b.2.1.1 (ax g.1) bw,())) λh=>ai (aq h.1.1) (Z (X () (J,()))) (Z (N (aG .i64 g.1 1,()))))) (Z (H 0
 g))) n (0,())) λg=>bK g (λ_ _=>ah (aQ (Int×U) (Bool×U) (U) (λj=>ai (aD j.1 (ak b.2.1.3)) (aO (aF j.1
 b.2.1.3) (ah (F63 n ((bh b.2.1.3 (ax j.1) kI).1,0,3,())) λk=>ai (aq k.1.1) (Z (X () (J,()))) (aO (aF j.1
 b.2.1.3) (ah (F63 n ((bh b.2.1.3 (ax j.1) kI).2,(-1000000000),1000000000,())) λl=>ai (aq l.1.1) (Z (X () (J,())))
 (Z (N (aG .i64 j.1 1,()))))))) (Z (H 0 j))) n (0,())) λj=>bK j (λ_ _=>Z ((W,()),())) (λ_ l=>Z (l,
 ())) λ_ _=>Y) (λ_ i=>Z (i,())) λ_ _=>Y)))))
def k32(n:Nat):OC:=⟨32,⟨amU,K4,J,F32 n⟩,cQ [k15 n,k63 n,k64 n,k65 n] [(32,0,⟨[(5,dm)],[],[],0⟩),(32,2,⟨[(6,dm)],[],[],0⟩)] n 10 32⟩
def F21:Nat->Y49->Y35:=
 λn b=>ah (F14 n (b.1,())) λc=>ai c.1.2.1 (ah (F32 n (c.1.1,b.2)) λd=>Z ((c.1.1,d.1),())) (Z ((c.1.1,J,()),()))
def k21(n:Nat):OC:=⟨21,⟨P66,K121,J,F21 n⟩,cQ [k14 n,k32 n] [] n 10 21⟩
def F36:Nat->amO->O Y78:=
 λn b=>ah (aQ (Y91) (L Int×U) (U) (λc=>ai (aD c.2.1 (ak b.2.1.2)) (ah (F37 n (b.1,b.2.1,c.2)) λd=>ai
 (aq (aa d.1.1.2 2)) (aO (dg c.1 [c.2.1]) (Z (N (dc c.1 [c.2.1],aG .i64 c.2.1 1,())))) (Z (N (c.1,aG .i64 c.2.1
 1,())))) (Z (H 0 c))) n ([],0,())) λc=>bK c (λ_ e=>Z ((e.1,()),())) (λ_ e=>Z (e,())) λ_ _=>Y
def k36(n:Nat):OC:=⟨36,⟨amU,K21,J,F36 n⟩,cQ [k37 n] [(36,0,⟨[(5,.one (.own (.int .i64))),(6,dm)],[],[],0⟩)] n 10 36⟩
end Mn
end
end
