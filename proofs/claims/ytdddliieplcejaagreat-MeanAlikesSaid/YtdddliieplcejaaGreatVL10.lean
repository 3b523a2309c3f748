/- The statement MeanAlikes of hearthlaw06 holds for all programs and pairs of worlds: the law's function returns true at each of them, whatever the sizes are. -/
import Derived.Test.YtdddliieplcejaaGreatV010
import Derived.Test.YtdddliieplcejaaGreatV6
set_option linter.all false
set_option maxRecDepth 100000
set_option maxHeartbeats 0
noncomputable section
open Option renaming some->Z,none->Y
open Bool renaming true->W,false->J
section
namespace Mn
open Go TL
section
def aed{a b:aD}(h:a.Env.length<=1000∧a.cw.length<=1000):∃e,Ev (λn=>F134 n (a,b,())) ((e,()),())∧(e=W↔a=b):=by
 have no:¬a=b->(((@decide (a=b) (Classical.propDecidable _)),()),())=((J,()),()):=λh=>by rw[@eP _ (_) h]
 refine⟨@decide (a=b) (Classical.propDecidable _),?_,by simp⟩;unfold F134;by_cases h1:a.Node=b.Node;rotate_left
 .rw[no λh=>h1 (by rw[h])];exact Ev.of_eq λn=>(lK h1 _ _).trans rfl
 refine Ev.congr (λn=>nM h1 _ _) ?_;refine Ev.Qw (l:=a.Env) (m:=b.Env) aB (λn a b c=>ah (D.aK (D.eJ (D.aH a.1 b.1) (D.eJ (D.aH a.2 b.2) W))) (Z (LO.ret () (J,()))) (Z (LO.next (D.add .i64 c.1 1,())))) (λn c=>rfl) h.1 (λa _ b _=>⟨_,Vh,λi d=>gV _ i d⟩) (λh2=>?_) (λh2=>?_)
 .refine Ev.congr (g:=λn=>Ic n (a,b,())) (λn=>rfl) ?_;unfold Ic;refine Ev.Qw (l:=a.cw) (m:=b.cw) aB (λn a b c=>ah (D.aK (D.eJ (D.aH a.1 b.1) (D.eJ (D.aH a.2 b.2) W))) (Z (LO.ret () (J,()))) (Z (LO.next (D.add .i64 c.1 1,())))) (λn c=>rfl) h.2 (λa _ b _=>⟨_,Vh,λi d=>gV _ i d⟩) (λh3=>?_) (λh3=>?_)
  .rw[@ez _ (_) (Tz.2 ⟨h1,h2,h3⟩)];exact Ev.of_eq λn=>rfl
  .rw[no λh=>h3 (by rw[h])];exact⟨Ev.of_eq λn=>rfl,Ev.of_eq λn=>rfl⟩
 .rw[no λh=>h2 (by rw[h])];exact⟨Ev.of_eq λn=>rfl,Ev.of_eq λn=>rfl⟩
def ajx{a b:aZ}(h:SmO a):∃e,Ev (λn=>F79 n (a,b,())) ((e,()),())∧(e=W↔a=b):=by
 have no:¬a=b->(((@decide (a=b) (Classical.propDecidable _)),()),())=((J,()),()):=λh=>by rw[@eP _ (_) h]
 refine⟨@decide (a=b) (Classical.propDecidable _),?_,by simp⟩;unfold F79;by_cases h1:a.Form=b.Form;rotate_left
 .rw[no λh=>h1 (by rw[h])];exact Ev.of_eq λn=>(lK h1 _ _).trans rfl
 refine Ev.congr (λn=>nM h1 _ _) ?_;by_cases h2:a.N=b.N;rotate_left
 .rw[no λh=>h2 (by rw[h])];exact Ev.of_eq λn=>(lK h2 _ _).trans rfl
 refine Ev.congr (λn=>nM h2 _ _) ?_;refine Ev.Qw (l:=a.cw) (m:=b.cw) aB (λn a b c=>ah (D.aK (D.eJ (D.aH a.1 b.1) (D.eJ (D.aH a.2 b.2) W))) (Z (LO.ret () (J,()))) (Z (LO.next (D.add .i64 c.1 1,())))) (λn c=>rfl) h.v (λa _ b _=>⟨_,Vh,λi d=>gV _ i d⟩) (λh3=>?_) (λh3=>?_)
 .refine Ev.congr (g:=λn=>OJ n (a,b,())) (λn=>rfl) ?_;unfold OJ;refine Ev.Qw (l:=a.Frames) (m:=b.Frames) aF (λn a b c=>af (F134 n (a,b,())) λh=>ah (D.aK h.1.1) (Z (LO.ret () (J,()))) (Z (LO.next (D.add .i64 c.1 1,())))) (λn c=>rfl) h.f (λf j g p=>?_) (λh4=>?_) (λh4=>?_)
  .obtain ⟨e,k,o⟩:=aed (a:=f) (b:=g) (h.e f j);exact⟨e,o,λi d=>Ev.af k (gV e i d)⟩
  .rw[@ez _ (_) (abV.2 ⟨h1,h2,h3,h4⟩)];exact Ev.of_eq λn=>rfl
  .rw[no λh=>h4 (by rw[h])];exact⟨Ev.of_eq λn=>rfl,Ev.of_eq λn=>rfl⟩
 .rw[no λh=>h3 (by rw[h])];exact⟨Ev.of_eq λn=>rfl,Ev.of_eq λn=>rfl⟩
section
variable {w x:ak}{p:av}
noncomputable abbrev EA(w x:ak):Bool:=@decide (w=x) (Classical.propDecidable _)
def VT(h:¬w=x):((EA w x,(0:Int),()),())=((J,0,()),()):=by rw[show EA w x=J from @eP _ (_) h]
def ad6(e:Ug w)(h1:w.bC=x.bC)(h2:w.bz=x.bz)(h3:w.fI=x.fI):Ev (λn=>OM n ((w,0,()),()) ((x,0,()),())) ((EA w x,0,()),()):=by
 unfold OM;refine Ev.Qw (l:=w.qG) (m:=x.qG) (0:Int) (λn a b c=>ah (D.aK (D.aH a b)) (Z (LO.ret () (J,()))) (Z (LO.next (D.add .i64 c.1 1,())))) (λn c=>rfl) e.i (λa _ b _=>⟨D.aH a b,oT,λi f=>gV _ i f⟩) (λh=>?_) (λh=>?_)
 .have:EA w x=D.aH w.Used x.Used:=by rw[IS,@IY _ (Classical.propDecidable _),oT,Re];exact⟨λh=>h.2.2.2.2,λd=>⟨h1,h2,h3,h,d⟩⟩
  rw[this];exact Ev.of_eq λn=>rfl
 .rw[VT λd=>h (by rw[d])];exact⟨Ev.of_eq λn=>rfl,Ev.of_eq λn=>rfl⟩
def ad5(d:Ug w)(h1:w.bC=x.bC)(h2:w.bz=x.bz):Ev (λn=>OL n ((w,0,()),()) ((x,0,()),())) ((EA w x,0,()),()):=by
 unfold OL;refine Ev.Qw (l:=w.fI) (m:=x.fI) eg (λn a b c=>ah (D.aK (D.eJ (D.aH a.1 b.1) (D.eJ (D.aH a.2 b.2) W))) (Z (LO.ret () (J,()))) (Z (LO.next (D.add .i64 c.1 1,())))) (λn c=>rfl) d.u (λa _ b _=>⟨_,abT,λi e=>gV _ i e⟩) (λh=>?_) (λh=>?_)
 .exact Ev.congr (λn=>rfl) (ad6 d h1 h2 h)
 .rw[VT λf=>h (by rw[f])];exact⟨Ev.of_eq λn=>rfl,Ev.of_eq λn=>rfl⟩
def ad4(d:Ug w)(h1:w.bC=x.bC):Ev (λn=>Ge n ((w,0,()),()) ((x,0,()),())) ((EA w x,0,()),()):=by
 unfold Ge;refine Ev.Qw (l:=w.bz) (m:=x.bz) (0:Int) (λn a b c=>ah (D.aK (D.aH a b)) (Z (LO.ret () (J,()))) (Z (LO.next (D.add .i64 c.1 1,())))) (λn c=>rfl) d.t (λa _ b _=>⟨D.aH a b,oT,λi e=>gV _ i e⟩) (λh=>?_) (λh=>?_)
 .exact Ev.congr (λn=>rfl) (ad5 d h1 h)
 .rw[VT λf=>h (by rw[f])];exact⟨Ev.of_eq λn=>rfl,Ev.of_eq λn=>rfl⟩
def e41(hs:Small p)(j:mL w)(k:mL x){r:(Bool×Int×U)×U}(h1:FP p∧sH p w∧sH p x->((EA (l5 w) (l5 x),0,()),())=r)
  (h2:¬(FP p∧sH p w∧sH p x)->((J,2,()),())=r):Ev (λn=>F41 n (p,w,x,())) r:=by
 unfold F41;by_cases d:FP p∧sH p w;rotate_left
 .rw[<-h2 λh=>d ⟨h.1,h.2.1⟩];by_cases f:FP p∧sH p x
  .exact Ev.af (Vc hs j (λh=>absurd h d) λ_=>rfl) (Ev.af (Vc hs k (λ_=>rfl) λh=>absurd f h) (Ev.of_eq λn=>rfl))
  .exact Ev.af (Vc hs j (λh=>absurd h d) λ_=>rfl) (Ev.af (Vc hs k (λh=>absurd h f) λ_=>rfl) (Ev.of_eq λn=>rfl))
 by_cases f:FP p∧sH p x;rotate_left
 .rw[<-h2 λh=>f ⟨h.1,h.2.2⟩];exact Ev.af (Vc hs j (λ_=>rfl) λh=>absurd d h) (Ev.af (Vc hs k (λh=>absurd h f) λ_=>rfl) (Ev.of_eq λn=>rfl))
 rw[<-h1 ⟨d.1,d.2,f.2⟩];refine Ev.af (Vc hs j (λ_=>rfl) λh=>absurd d h) (Ev.af (Vc hs k (λ_=>rfl) λh=>absurd f h) ?_);have o:=Lt d.1.ok d.2;refine Ev.Qw (l:=(l5 w).bC) (m:=(l5 x).bC) aS (A:=λn=>vE n) (g:=λn e=>LO.el e (λ_ _=>Ge n ((l5 w,0,()),()) ((l5 x,0,()),())) (λ_ h=>ah h.1 (Ge n ((l5 w,0,()),()) ((l5 x,0,()),())) (vE n)) λ_ _=>Y) (λn a b c=>af (F79 n (a,b,())) λh=>ah (D.aK h.1.1) (Z (LO.ret () (J,()))) (Z (LO.next (D.add .i64 c.1 1,())))) (λn c=>rfl) o.o (λa q b y=>?_) (λh=>?_) (λh=>?_)
 .obtain ⟨e,s,t⟩:=ajx (a:=a) (b:=b) (o.s a q);exact⟨e,t,λi u=>Ev.af s (gV e i u)⟩
 .exact Ev.congr (λn=>rfl) (ad4 o h)
 .rw[VT λv=>h (by rw[v])];exact⟨Ev.of_eq λn=>rfl,Ev.of_eq λn=>rfl⟩
def e42(a:DH p)(c:sH p w)(d:sH p x):Ev (λn=>F42 n (w,x,())) ((EA (l5 w) (l5 x),()),()):=by
 unfold F42;obtain⟨b,h1,h2⟩:=aea (x:=l5 x) (Lt a c);have:b=EA (l5 w) (l5 x):=by rw[IS,@IY _ (Classical.propDecidable _)];exact h2
 rw[<-this];exact Ev.af (e30 a c) (Ev.af (e30 a d) (Ev.af h1 (Ev.of_eq λn=>rfl)))
end
end
def OE(n:Nat):O fm:=
 af (kn ()) λd=>Z d
def Yd(n:Nat)(e:Y89):O fm:=
 ah (D.aH e.1.2.1 2) (ah (D.aK e.1.1) (OE n) (Z ((J,()),()))) (Z ((J,()),()))
def L10:Nat->Y90->O fm:=
 λn b=>af (F20 n (b.1,b.2.1,())) λc=>ah (D.aK c.1.1) (OE n) (af (F35 n b.2.2) λd=>ah (D.aK d.1.1) (OE n) (af (F41 n b)
 λe=>af (F22 n (b.1,b.2.1,())) λg=>ah (D.aK g.1.1) (Yd n e) (af (F36 n (b.1,b.2.2)) λh=>ah (D.aK h.1.1) (Yd n e) (ah
 (D.aH e.1.2.1 0) (af (F42 n b.2) λi=>ah (D.beq e.1.1 i.1.1) (OE n) (Z ((J,()),()))) (Z ((J,()),()))))))
abbrev ajZ(n:Nat):j0 sg:=⟨ae6,K4,J,L10 n⟩
def akS(n:Nat):bw prog 10 (ajZ n):=cx [⟨13,cK,CK⟩,k20 n,k22 n,k35 n,k36 n,k41 n,k42 n] [] n 10 10
def ab5(p:av)(w x:ak):Ev (λn=>L10 n (p,w,x,())) ((W,()),()):=by
 unfold L10;obtain⟨b,j,k⟩:=e20 p w;refine Ev.af j ?_;cases b with
 |false=>exact Ev.of_eq λn=>rfl
 |true=>
  obtain⟨c,g⟩:=k rfl;obtain⟨b,l,m⟩:=e35 x;refine Ev.congr (λn=>dz W _ _) ?_;refine Ev.af l ?_;cases b with
  |false=>exact Ev.of_eq λn=>rfl
  |true=>
   have i:=m.1 rfl;refine Ev.congr (λn=>dz W _ _) ?_;obtain⟨b,a,d⟩:=e22 c g;cases b with
   |false=>
    have o:¬(FP p∧sH p w):=λh=>by have:=d.2 h;cases this
    refine Ev.af (e41 c g i (λh=>absurd ⟨h.1,h.2.1⟩ o) λ_=>rfl) (Ev.af a ?_);exact Ev.of_eq λn=>rfl
   |true=>
    obtain⟨q,r⟩:=d.1 rfl;obtain⟨b,e,f⟩:=e36 q.ok c i;cases b with
    |false=>
     have o:¬sH p x:=λh=>by have:=f.2 h;cases this
     refine Ev.af (e41 c g i (λh=>absurd h.2.2 o) λ_=>rfl) (Ev.af a (Ev.af e ?_));exact Ev.of_eq λn=>rfl
    |true=>have s:=f.1 rfl;refine Ev.af (e41 c g i (λ_=>rfl) λh=>absurd ⟨q,r,s⟩ h) (Ev.af a (Ev.af e (Ev.af (e42 q.ok r s) ?_)));cases EA (l5 w) (l5 x)<;>exact Ev.of_eq λn=>rfl
end Mn
end
section
namespace Go.Proofs.YtdddliieplcejaaGreat.meanAlikes
open Go TL Mn
open Go.ChangeShapes Go.WideShapes Go.ChangeAt Go.RowKit
theorem params:(Tryz.f10.params.toList)=[26,32,32]:=by kernel_rfl
theorem YG:U4 26=some (.st 3):=by kernel_rfl
theorem YS:Tryz.prog.readableRec 26=true:=by kernel_rfl
theorem Vk:U4 32=some (.st 8):=by kernel_rfl
theorem Vx:Tryz.prog.readableRec 32=true:=by kernel_rfl
theorem sz:decide (32<Tryz.prog.types.size)=true:=by kernel_rfl
theorem YQ:Tryz.f10.resultTypes=#[4]:=by kernel_rfl
theorem lifted(os:Os)(started:os.Started)(H:Type)(enc:TypeId×Value->H) :
  ReturnsInHanded {} Tryz.checked os 10 .any (Rows.meanAlikesSpec.pre6 enc Tryz.prog Tryz.f10 Rows.meanAlikesRow.domain false) (Rows.meanAlikesSpec.post enc Tryz.prog Tryz.f10 false true false false):=by
 refine returnsInHanded_of_change_sized (C:=Tryz.checked) own started (by kernel_rfl) Tryz.func10
  (ChangeSpec.witness6 (enc:=enc) (C:=Tryz.checked) false ⟨#[],#[.agg #[.slice none 0 0,.slice none 0 0,.int .i64 0,.slice none 0 0],.agg #[.slice none 0 0,.slice none 0 0,.slice none 0 0,.slice none 0 0,.int .i64 0],.agg #[.slice none 0 0,.slice none 0 0,.slice none 0 0,.slice none 0 0,.int .i64 0]],[]⟩ 8 (by kernel_rfl) (by kernel_rfl) (by kernel_rfl) (by kernel_rfl)) ?_
 intro W base args ds gs before hval hW ajh hwt _;refine Fs (S:=sg) (P:=Tryz.prog) (ty:=U4) (τs:=[.st 3,.st 8,.st 8]) (tb:=4) Ru XB laid ?_ ?_ YQ Tryz.underlying4 rfl ?_ ?_ hval hW hwt
 .rw[params];refine⟨rfl,λj a b ha hb=>?_⟩
  match j with
  |0=>cases ha;cases hb;exact YG
  |1=>cases ha;cases hb;exact Vk
  |2=>cases ha;cases hb;exact Vk
  |j+3=>simp at ha
 .rw[params];have:=of_decide_eq_true sz;intro t ht;simp only[List.mem_cons,List.not_mem_nil,or_false]at ht;rcases ht with h|h|h
  .subst h;exact⟨YS,Nat.lt_of_le_of_lt (by decide) this⟩
  .subst h;exact⟨Vx,Nat.lt_of_le_of_lt (by decide) this⟩
  .subst h;exact⟨Vx,Nat.lt_of_le_of_lt (by decide) this⟩
 .intro ds hds
  match ds,hds with
  |[d1,d2,d3],_=>exact⟨rfl,rfl,rfl⟩
 .intro x;obtain⟨x1,x2,x3,u⟩:=x;obtain⟨N,h⟩:=ab5 x1 x2 x3;exact⟨L10 N,((true,()),()),akS N,h N (Nat.le_refl _),rfl⟩
theorem proved:Rows.MeanAlikesSaid:=over lifted
end Go.Proofs.YtdddliieplcejaaGreat.meanAlikes
end
end
