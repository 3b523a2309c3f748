/- The statement MeanSteps of hearthlaw06 holds for all programs, worlds and tasks: the law's function returns true at each of them, whatever the sizes are. -/
import Derived.Test.YtdddliieplcejaaGreatU09
import Derived.Test.YtdddliieplcejaaGreatU6
set_option linter.all false
set_option maxRecDepth 100000
set_option maxHeartbeats 0
noncomputable section
open Option renaming some->Z,none->Y
open Bool renaming true->W,false->J
section
namespace Mn
open Go TL
def aa0(b:Xr):Y17:=
 (b.1,b.2.1,())
def A4(n:Nat):O fc:=
 Z ((J,()),())
def aaZ(n:Nat)(e:Xt):O fc:=
 ai (F17 n (e.1.1,())) λh=>aj h.1.1 (aj (D.dz (D.aG e.1.2.1.1 0) (D.dz (D.aG e.1.2.1.2 0) (D.dz (D.aG e.1.2.1.3 0) (D.dz (D.aG
 e.1.2.1.4.1 0) (D.dz (D.aG e.1.2.1.4.2 0) W))))) (ai (kn ()) λi=>Z i) (A4 n)) (A4 n)
def aaY(n:Nat)(e:Xt):O fc:=
 aj (D.aG e.1.2.2.1 2) (aaZ n e) (A4 n)
def L9:aif:=
 λn b=>ai (F20 n (aa0 b)) λc=>aj (D.aK c.1.1) (ai (kn ()) λd=>Z d) (ai (F37 n (aa0 b)) λd=>ai (F38 n b) λe=>ai
 (F22 n (aa0 b)) λg=>aj (D.aK g.1.1) (aj (D.aG d.1.2.1 2) (aj (D.aG (ak d.1.1) 0) (aaY n e) (A4 n)) (A4 n)) (aj (D.aK (D.aG
 d.1.2.1 0)) (A4 n) (ai (F39 n (aa0 b)) λh=>ai (F26 n (d.1.1,h.1)) λi=>aj (D.aK i.1.1) (A4 n) (aj (D.bO b.2.2.1 0) (aaY n e)
 (aj (D.ep (ak b.2.1.2) b.2.2.1) (aaY n e) (ai (F40 n b) λj=>aj (D.aG j.1.1.2 2) (aj (D.aG e.1.2.2.1 5) (aaZ n e) (A4 n)) (aj (D.aG
 e.1.2.2.1 0) (ai (F19 n (e.1.1,j.1.1.1,())) λk=>aj k.1.1 (aj (D.dz (D.aG e.1.2.1.1 j.1.1.3.1) (D.dz (D.aG e.1.2.1.2 j.1.1.3.2) (D.dz
 (D.aG e.1.2.1.3 j.1.1.3.3) (D.dz (D.aG e.1.2.1.4.1 j.1.1.3.4.1) (D.dz (D.aG e.1.2.1.4.2 j.1.1.3.4.2) W))))) (ai (F36 n (b.1,e.1.1,())) λ
 l=>aj l.1.1 (ai (kn ()) λm=>Z m) (A4 n)) (A4 n)) (A4 n)) (A4 n))))))))
abbrev cL9(n:Nat):kC sg:=⟨P68,K4,J,L9 n⟩
def CL9(n:Nat):bz prog 9 (cL9 n):=ct [⟨13,cK,CK⟩,k17 n,k19 n,k20 n,k22 n,k26 n,k36 n,k37 n,k38 n,k39 n,k40 n] [] n 10 9
def aks(p:ax)(w:aa)(k:Int):Ev (λn=>L9 n (p,w,k,())) ((W,()),()):=by
 have c:∀{d:(aa×aA×Int×U)×U}{k:Int},d=((bF,aH,k,()),())->Ev (λn=>aaZ n d) ((W,()),()):=by intro d k h;subst h;unfold aaZ;exact Ev.ai e17 (Ev.of_eq λn=>rfl)
 have a:∀{d:(aa×aA×Int×U)×U},d=((bF,aH,2,()),())->Ev (λn=>aaY n d) ((W,()),()):=by intro d h;subst h;exact c rfl
 unfold L9;obtain⟨b,x,y⟩:=e20 p w;refine Ev.ai x ?_;cases b with
 |false=>exact Ev.of_eq λn=>rfl
 |true=>
  obtain⟨o,u⟩:=y rfl;obtain⟨b,q,v⟩:=e22 o u;cases b with
  |false=>
   have E:¬(FP p∧fD p w):=λh=>by have:=v.2 h;cases this
   refine Ev.ai (e37 o u (λh=>absurd h E) λ_=>rfl) (Ev.ai (e38 o u (λh=>absurd h E) λ_=>rfl) (Ev.ai q ?_));exact a rfl
  |true=>
   obtain⟨z,i⟩:=v.1 rfl;have j:=z.ok;have I:=i.tl;have F:=i.len;have G:=xq (p:=p) (w:=w);refine Ev.ai (e37 o u (λ_=>rfl) λh=>absurd ⟨z,i⟩ h) ?_;by_cases s:0<=k∧k<w.aX.length
   .refine Ev.ai (e38 o u (λ_ _ _=>rfl) λh=>h.elim (λh=>absurd ⟨z,i⟩ h) λh=>absurd s h) (Ev.ai q (Ev.ai (e39 j i) (Ev.ai (e26 (l:=dW p w) (by omega)) ?_)));refine Ev.congr (λn=>(jk s.1 _ _).trans (CL (by simp only[ak];omega) _ _)) ?_;refine Ev.ai (d40 j i s.1 s.2) ?_;cases A:fL p w k with
    |none=>exact c rfl
    |some r=>
     obtain⟨H,e⟩:=r;have f:=(kf j i s.1 s.2 A).1;obtain⟨b,t,B⟩:=e36 j o (f.small j);rw[B.2 f]at t;cases e with|none=>refine Ev.ai (e19 j f) ?_;exact Ev.ai t (Ev.of_eq λn=>rfl)|some e=>refine Ev.ai (e19 j f) ?_;refine Ev.congr (g:=λn=>ai (F36 n (p,H,())) λl=>aj l.1.1 (ai (kn ()) λm=>Z m) (A4 n)) (λn=>?_) (Ev.ai t (Ev.of_eq λn=>rfl));simp only[aa9,zB,vY,D.dz,jB,rU,DA]
   .refine Ev.ai (e38 o u (λ_ C h1=>absurd ⟨C,h1⟩ s) λ_=>rfl) (Ev.ai q (Ev.ai (e39 j i) (Ev.ai (e26 (l:=dW p w) (by omega)) ?_)));by_cases C:k<0
    .exact Ev.congr (λn=>jZ C _ _) (a rfl)
    .exact Ev.congr (λn=>(jk (show(0:Int)<=k by omega) _ _).trans (qg (show(w.aX.length:Int)<=k by omega) _ _)) (a rfl)
end Mn
end
section
namespace Go.Proofs.YtdddliieplcejaaGreat.meanSteps
open Go TL Mn
open Go.ChangeShapes Go.WideShapes Go.ChangeAt Go.RowKit
theorem params:(Tryz.f9.params.toList)=[26,32,3]:=by kernel_rfl
theorem IY:CH 26=some (.st 3):=by kernel_rfl
theorem Jk:Tryz.prog.readableRec 26=true:=by kernel_rfl
theorem IX:CH 32=some (.st 8):=by kernel_rfl
theorem Jj:Tryz.prog.readableRec 32=true:=by kernel_rfl
theorem ty3:CH 3=some (.int .i64):=by kernel_rfl
theorem rd3:Tryz.prog.readableRec 3=true:=by kernel_rfl
theorem sz:decide (32<Tryz.prog.types.size)=true:=by kernel_rfl
theorem Jf:Tryz.f9.resultTypes=#[4]:=by kernel_rfl
theorem lifted(os:Os)(started:os.Started)(H:Type)(enc:TypeId×Value->H) :
  ReturnsInHanded {} Tryz.checked os 9 .any (Rows.meanStepsSpec.pre6 enc Tryz.prog Tryz.f9 Rows.meanStepsRow.domain false) (Rows.meanStepsSpec.post enc Tryz.prog Tryz.f9 false true false false):=by
 refine returnsInHanded_of_change_sized (C:=Tryz.checked) own started (by kernel_rfl) Tryz.func9
  (ChangeSpec.witness6 (enc:=enc) (C:=Tryz.checked) false ⟨#[],#[.agg #[.slice none 0 0,.slice none 0 0,.int .i64 0,.slice none 0 0],.agg #[.slice none 0 0,.slice none 0 0,.slice none 0 0,.slice none 0 0,.int .i64 0],.int .i64 0],[]⟩ 8 (by kernel_rfl) (by kernel_rfl) (by kernel_rfl) (by kernel_rfl)) ?_
 intro W base args ds gs before hval hW Z9 ZQ _;refine ri (S:=sg) (P:=Tryz.prog) (ty:=CH) (τs:=[.st 3,.st 8,.int .i64]) (tb:=4) Hr Lr laid ?_ ?_ Jf Tryz.underlying4 rfl ?_ ?_ hval hW ZQ
 .rw[params];refine⟨rfl,λj a b ha hb=>?_⟩
  match j with
  |0=>cases ha;cases hb;exact IY
  |1=>cases ha;cases hb;exact IX
  |2=>cases ha;cases hb;exact ty3
  |j+3=>simp at ha
 .rw[params];have:=of_decide_eq_true sz;intro t ht;simp only[List.mem_cons,List.not_mem_nil,or_false]at ht;rcases ht with h|h|h
  .subst h;exact⟨Jk,Nat.lt_of_le_of_lt (by decide) this⟩
  .subst h;exact⟨Jj,Nat.lt_of_le_of_lt (by decide) this⟩
  .subst h;exact⟨rd3,Nat.lt_of_le_of_lt (by decide) this⟩
 .intro ds hds
  match ds,hds with
  |[d1,d2,d3],_=>exact⟨rfl,rfl,rfl⟩
 .intro x;obtain⟨x1,x2,x3,u⟩:=x;obtain⟨N,h⟩:=aks x1 x2 x3;exact⟨L9 N,((true,()),()),CL9 N,h N (Nat.le_refl _),rfl⟩
theorem proved:Rows.MeanStepsSaid:=over lifted
end Go.Proofs.YtdddliieplcejaaGreat.meanSteps
end
end
