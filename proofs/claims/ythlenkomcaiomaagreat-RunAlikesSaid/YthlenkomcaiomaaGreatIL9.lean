/- The law RunAlikes of the given program holds: the translated function returns true for every code and two worlds; there are no conditions. -/
import Derived.Test.YthlenkomcaiomaaGreatI09
import Derived.Test.YthlenkomcaiomaaGreatI5
set_option linter.all false
set_option maxRecDepth 100000
set_option maxHeartbeats 0
noncomputable section
open Option renaming some->Z,none->Y
open Bool renaming true->W,false->J
open Nat renaming beq->Nq,ble->Nl,blt->Nt,succ->Ns,add->Na
open TL.LO renaming next->N,ret->X,out->H
open TL.Rx renaming ok->G,jJ->M
namespace Mn
open Go TL
def ajU{a b:aJ}(h:a.Env.length<=1000/\a.Stack.length<=1000):∃e,Ev (λn=>F132 n (a,b,())) ((e,()),())/\(e=W↔a=b):=by
 have no:¬a=b->(((@decide (a=b) (Classical.propDecidable _)),()),())=((J,()),()):=λh=>by rw[@gX _ (_) h]
 refine⟨@decide (a=b) (Classical.propDecidable _),?_,by simp⟩;unfold F132;by_cases h1:a.At=b.At;rotate_left;rw[no λh=>h1 (by rw[h])];exact bI λn=>(lf h1 _ _).trans rfl;refine Ev.oI (λn=>pW h1 _ _) ?_;by_cases h4:a.mE=b.mE;rotate_left;rw[no λh=>h4 (by rw[h])];exact bI λn=>(LK h4 _ _).trans rfl;refine Ev.oI (λn=>Rq h4 _ _) ?_;refine Ev.US (l:=a.Env) (m:=b.Env) aR (λn a b c=>aj (ak (bQ (af a.1 b.1) (bQ (af a.2 b.2) W))) (Z (X () (J,()))) (Z (N (aC .i64 c.1 1,())))) (λn c=>rfl) h.1 (λa _ b _=>⟨_,aac,λi d=>iJ _ i d⟩) (λh2=>?_) (λh2=>?_)
 .refine Ev.oI (g:=λn=>KY n (a,b,())) (λn=>rfl) ?_;unfold KY;refine Ev.US (l:=a.Stack) (m:=b.Stack) aR (λn a b c=>aj (ak (bQ (af a.1 b.1) (bQ (af a.2 b.2) W))) (Z (X () (J,()))) (Z (N (aC .i64 c.1 1,())))) (λn c=>rfl) h.2 (λa _ b _=>⟨_,aac,λi d=>iJ _ i d⟩) (λh3=>?_) (λh3=>?_);rw[@jc _ (_) (X2.2 ⟨h1,h2,h3,h4⟩)];exact cE;rw[no λh=>h3 (by rw[h])];exact⟨cE,cE⟩
 rw[no λh=>h2 (by rw[h])];exact⟨cE,cE⟩
def apC{a b:bK}(h:SmE a):∃e,Ev (λn=>F90 n (a,b,())) ((e,()),())/\(e=W↔a=b):=by
 have no:¬a=b->(((@decide (a=b) (Classical.propDecidable _)),()),())=((J,()),()):=λh=>by rw[@gX _ (_) h]
 refine⟨@decide (a=b) (Classical.propDecidable _),?_,by simp⟩;unfold F90;by_cases h1:a.Form=b.Form;rotate_left;rw[no λh=>h1 (by rw[h])];exact bI λn=>(lf h1 _ _).trans rfl;refine Ev.oI (λn=>pW h1 _ _) ?_;by_cases h2:a.N=b.N;rotate_left;rw[no λh=>h2 (by rw[h])];exact bI λn=>(lf h2 _ _).trans rfl;refine Ev.oI (λn=>pW h2 _ _) ?_;refine Ev.US (l:=a.jH) (m:=b.jH) aR (λn a b c=>aj (ak (bQ (af a.1 b.1) (bQ (af a.2 b.2) W))) (Z (X () (J,()))) (Z (N (aC .i64 c.1 1,())))) (λn c=>rfl) h.v (λa _ b _=>⟨_,aac,λi d=>iJ _ i d⟩) (λh3=>?_) (λh3=>?_)
 .refine Ev.oI (g:=λn=>S0 n (a,b,())) (λn=>rfl) ?_;unfold S0;refine Ev.US (l:=a.Frames) (m:=b.Frames) aA (λn a b c=>ai (F132 n (a,b,())) λh=>aj (ak h.1.1) (Z (X () (J,()))) (Z (N (aC .i64 c.1 1,())))) (λn c=>rfl) h.f (λf j g p=>?_) (λh4=>?_) (λh4=>?_);obtain⟨e,k,o⟩:=ajU (a:=f) (b:=g) (h.e f j);exact⟨e,o,λi d=>Ev.ai k (iJ e i d)⟩;rw[@jc _ (_) (ahp.2 ⟨h1,h2,h3,h4⟩)];exact cE;rw[no λh=>h4 (by rw[h])];exact⟨cE,cE⟩
 rw[no λh=>h3 (by rw[h])];exact⟨cE,cE⟩
section
variable {w x:aI}{p:aB}{dd:List ax}
noncomputable abbrev Hz(w x:aI):aa:=@decide (w=x) (Classical.propDecidable _)
def aaN(h:¬w=x):((Hz w x,(0:Int),()),())=((J,0,()),()):=by rw[show Hz w x=J from @gX _ (_) h]
def ajO(e:YT w)(h1:w.bZ=x.bZ)(h2:w.bN=x.bN)(h3:w.jI=x.jI):Ev (λn=>S7 n ((w,0,()),()) ((x,0,()),())) ((Hz w x,0,()),()):=by
 unfold S7;refine Ev.US (l:=w.dA) (m:=x.dA) (0:Int) (λn a b c=>aj (ak (af a b)) (Z (X () (J,()))) (Z (N (aC .i64 c.1 1,())))) (λn c=>rfl) e.i (λa _ b _=>⟨af a b,jk,λi f=>iJ _ i f⟩) (λh=>?_) (λh=>?_);have:Hz w x=af w.Used x.Used:=by rw[Bool.eq_iff_iff,@decide_eq_true_iff _ (Classical.propDecidable _),jk,VH];exact⟨λh=>h.2.2.2.2,λd=>⟨h1,h2,h3,h,d⟩⟩
 rw[this];exact cE;rw[aaN λd=>h (by rw[d])];exact⟨cE,cE⟩
def ajN(d:YT w)(h1:w.bZ=x.bZ)(h2:w.bN=x.bN):Ev (λn=>S6 n ((w,0,()),()) ((x,0,()),())) ((Hz w x,0,()),()):=by unfold S6;refine Ev.US (l:=w.jI) (m:=x.jI) gj (λn a b c=>aj (ak (bQ (af a.1 b.1) (bQ (af a.2 b.2) W))) (Z (X () (J,()))) (Z (N (aC .i64 c.1 1,())))) (λn c=>rfl) d.u (λa _ b _=>⟨_,ahn,λi e=>iJ _ i e⟩) (λh=>?_) (λh=>?_);exact Ev.oI (λn=>rfl) (ajO d h1 h2 h);rw[aaN λf=>h (by rw[f])];exact⟨cE,cE⟩
def ajM(d:YT w)(h1:w.bZ=x.bZ):Ev (λn=>Jj n ((w,0,()),()) ((x,0,()),())) ((Hz w x,0,()),()):=by unfold Jj;refine Ev.US (l:=w.bN) (m:=x.bN) (0:Int) (λn a b c=>aj (ak (af a b)) (Z (X () (J,()))) (Z (N (aC .i64 c.1 1,())))) (λn c=>rfl) d.t (λa _ b _=>⟨af a b,jk,λi e=>iJ _ i e⟩) (λh=>?_) (λh=>?_);exact Ev.oI (λn=>rfl) (ajN d h1 h);rw[aaN λf=>h (by rw[f])];exact⟨cE,cE⟩
def e38(hs:Small p)(j:oq w)(k:oq x){r:(aa×Int×U)×U}(h1:rE p w->rE p x->((Hz (nK w) (nK x),0,()),())=r)
  (h2:¬(rE p w/\rE p x)->((J,2,()),())=r):Ev (λn=>F38 n (p,w,x,())) r:=by
 unfold F38;by_cases d:rE p w;rotate_left;rw[<-h2 λh=>d h.1];by_cases f:rE p x;exact Ev.ai (Z5 hs j (λh=>absurd h d) λ_=>rfl) (Ev.ai (Z5 hs k (λ_=>rfl) λh=>absurd f h) cE);exact Ev.ai (Z5 hs j (λh=>absurd h d) λ_=>rfl) (Ev.ai (Z5 hs k (λh=>absurd h f) λ_=>rfl) cE);by_cases f:rE p x;rotate_left;rw[<-h2 λh=>f h.2];exact Ev.ai (Z5 hs j (λ_=>rfl) λh=>absurd d h) (Ev.ai (Z5 hs k (λh=>absurd h f) λ_=>rfl) cE);rw[<-h1 d f];refine Ev.ai (Z5 hs j (λ_=>rfl) λh=>absurd d h) (Ev.ai (Z5 hs k (λ_=>rfl) λh=>absurd f h) ?_);obtain⟨E,s,o⟩:=d;have q:=O1 s.ok o;refine Ev.US (l:=(nK w).bZ) (m:=(nK x).bZ) bA (A:=λn=>yg n) (g:=λn e=>bq e (λ_ _=>Jj n ((nK w,0,()),()) ((nK x,0,()),())) (λ_ h=>aj h.1 (Jj n ((nK w,0,()),()) ((nK x,0,()),())) (yg n)) λ_ _=>Y) (λn a b c=>ai (F90 n (a,b,())) λh=>aj (ak h.1.1) (Z (X () (J,()))) (Z (N (aC .i64 c.1 1,())))) (λn c=>rfl) q.o (λa t b B=>?_) (λh=>?_) (λh=>?_);obtain⟨e,u,v⟩:=apC (a:=a) (b:=b) (q.s a t);exact⟨e,v,λi y=>Ev.ai u (iJ e i y)⟩;exact Ev.oI (λn=>rfl) (ajM q h);rw[aaN λz=>h (by rw[z])];exact⟨cE,cE⟩
def e39(a:Gy p dd)(c:Dl p dd w)(d:Dl p dd x):Ev (λn=>F39 n (w,x,())) ((Hz (nK w) (nK x),()),()):=by
 unfold F39;obtain⟨b,h1,h2⟩:=ajS (x:=nK x) (O1 a c);have:b=Hz (nK w) (nK x):=by rw[Bool.eq_iff_iff,@decide_eq_true_iff _ (Classical.propDecidable _)];exact h2
 rw[<-this];exact Ev.ai (e26 a c) (Ev.ai (e26 a d) (Ev.ai h1 cE))
end
def acz(n:Nat):O Y4:=
 ai (kn ()) λd=>Z d
def af8(n:Nat)(e:Vf):O Y4:=
 aj (af e.1.2.1 2) (aj (ak e.1.1) (acz n) (Z ((J,()),()))) (Z ((J,()),()))
def L9:Nat->akd->O Y4:=
 λn b=>ai (F19 n (b.1,b.2.1,())) λc=>aj (ak c.1.1) (acz n) (ai (F31 n b.2.2) λd=>aj (ak d.1.1) (acz n) (ai (F38 n b) λ
 e=>ai (F21 n (b.1,b.2.1,())) λg=>aj (ak g.1.2.1) (af8 n e) (ai (F32 n (g.1.1,b.2.2)) λh=>aj (ak h.1.1) (af8 n e) (aj
 (af e.1.2.1 0) (ai (F39 n b.2) λi=>aj (j3 e.1.1 i.1.1) (acz n) (Z ((J,()),()))) (Z ((J,()),()))))))
abbrev cL9(n:Nat):kD sg:=⟨akT,K4,J,L9 n⟩
def CL9(n:Nat):bz prog 9 (cL9 n):=uL [⟨12,cK,CK⟩,Fo n,k21 n,k31 n,k32 n,k38 n,k39 n] [] n 10 9
def amd(p:aB)(w x:aI):Ev (λn=>L9 n (p,w,x,())) ((W,()),()):=by
 have bad:∀{n:Nat},af8 n ((J,2,()),())=Z ((W,()),()):=λ{n}=>rfl;unfold L9;obtain⟨b,k,l⟩:=e19 p w;refine Ev.ai k ?_;cases b with
 |false=>exact cE|true=>
  obtain⟨e,g⟩:=l rfl;refine Ev.oI (λn=>eV W _ _) ?_;obtain⟨i,c⟩|⟨s,c⟩:=e31 x
  rotate_left;exact Ev.ai c cE;refine Ev.ai c (Ev.oI (λn=>eV W _ _) ?_);obtain⟨E,f,q,a⟩|⟨o,m,a⟩:=e21 e g
  have r:rE p w:=⟨E,f,q⟩;obtain⟨j,d⟩|⟨j,d⟩:=e32 f.ok e i
  refine Ev.ai (e38 e g i (λ_ _=>rfl) λh=>absurd ⟨r,⟨E,f,j⟩⟩ h) (Ev.ai a (Ev.ai d (Ev.ai (e39 f.ok q j) ?_)));cases Hz (nK w) (nK x)<;>exact cE;have o:¬rE p x:=λ⟨t,h2,h3⟩=>j (h2.uniq f▸h3);refine Ev.ai (e38 e g i (λ_ h=>absurd h o) λ_=>rfl) (Ev.ai a (Ev.ai d ?_));exact bI λn=>bad (n:=n);refine Ev.ai (e38 e g i (λh=>absurd h o) λ_=>rfl) (Ev.ai a ?_);exact bI λn=>bad (n:=n)
end Mn
namespace Go.Proofs.YthlenkomcaiomaaGreat.runAlikes
open Go TL Mn
open Go.ChangeShapes Go.WideShapes Go.ChangeAt Go.RowKit
theorem params:(Tryz.f9.params.toList)=[27,33,33]:=by kernel_rfl
theorem adU:ZW 27=some (.st 3):=by kernel_rfl
theorem ad8:Tryz.prog.readableRec 27=true:=by kernel_rfl
theorem aaf:ZW 33=some (.st 8):=by kernel_rfl
theorem aar:Tryz.prog.readableRec 33=true:=by kernel_rfl
theorem sz:decide (33<Tryz.prog.types.size)=true:=by kernel_rfl
theorem ad4:Tryz.f9.resultTypes=#[4]:=by kernel_rfl
theorem lifted(os:Os)(started:os.Started)(H:Type)(enc:TypeId×Value->H) :
  ReturnsInHanded {} Tryz.checked os 9 .any (Rows.runAlikesSpec.pre6 enc Tryz.prog Tryz.f9 Rows.runAlikesRow.domain false) (Rows.runAlikesSpec.post enc Tryz.prog Tryz.f9 false true false false):=by
 refine returnsInHanded_of_change_sized (C:=Tryz.checked) own started (by kernel_rfl) Tryz.func9
  (ChangeSpec.witness6 (enc:=enc) (C:=Tryz.checked) false ⟨#[],#[.agg #[.slice none 0 0,.slice none 0 0,.slice none 0 0,.int .i64 0,.slice none 0 0],.agg #[.slice none 0 0,.slice none 0 0,.slice none 0 0,.slice none 0 0,.int .i64 0],.agg #[.slice none 0 0,.slice none 0 0,.slice none 0 0,.slice none 0 0,.int .i64 0]],[]⟩ 8 (by kernel_rfl) (by kernel_rfl) (by kernel_rfl) (by kernel_rfl)) ?_
 intro W base args ds gs before hval hW ape hwt _;refine Iz (S:=sg) (P:=Tryz.prog) (ty:=ZW) (τs:=[.st 3,.st 8,.st 8]) (tb:=4) VY acM laid ?_ ?_ ad4 Tryz.underlying4 rfl ?_ ?_ hval hW hwt
 .rw[params];refine⟨rfl,λj a b ha hb=>?_⟩
  match j with
  |0=>cases ha;cases hb;exact adU
  |1=>cases ha;cases hb;exact aaf
  |2=>cases ha;cases hb;exact aaf
  |j+3=>simp at ha
 rw[params];have:=of_decide_eq_true sz;intro t ht;simp only[List.mem_cons,List.not_mem_nil,or_false]at ht;rcases ht with h|h|h;subst h;exact⟨ad8,Nat.lt_of_le_of_lt (by decide) this⟩;subst h;exact⟨aar,Nat.lt_of_le_of_lt (by decide) this⟩;subst h;exact⟨aar,Nat.lt_of_le_of_lt (by decide) this⟩
 .intro ds hds
  match ds,hds with
  |[d1,d2,d3],_=>exact⟨rfl,rfl,rfl⟩
 intro x;obtain⟨x1,x2,x3,u⟩:=x;obtain⟨N,h⟩:=amd x1 x2 x3;exact⟨L9 N,((true,()),()),CL9 N,h N (Nat.le_refl _),rfl⟩
theorem proved:Rows.RunAlikesSaid:=over lifted
end Go.Proofs.YthlenkomcaiomaaGreat.runAlikes
end
