/- The law RunChecks of the given program holds: the translated function returns true for every code and world; there are no conditions. -/
import Derived.Test.YthlenkomcaiomaaGreatI05
import Derived.Test.YthlenkomcaiomaaGreatI5
set_option linter.all false
set_option maxRecDepth 100000
set_option maxHeartbeats 0
noncomputable section
open Option renaming some->Z,none->Y
open Bool renaming true->W,false->J
open Nat renaming beq->Nq,ble->Nl,blt->Nt,succ->Ns,add->Na
open TL.LO renaming next->N,ret->X,out->H
open TL.Rx renaming ok->G,jJ->M
namespace Mn
open Go TL
def Vv(n:Nat):O Y4:=
 Z ((J,()),())
def L5:Y93:=
 λn b=>ai (F19 n b) λc=>aj (ak c.1.1) (ai (kn ()) λd=>Z d) (ai (F24 n b) λd=>ai (F21 n b) λe=>aj (ak
 e.1.2.1) (ai (F25 n b) λg=>aj (af g.1.1 2) (aj (af d.1.2.1 2) (ai (F16 n (d.1.1,())) λh=>aj h.1.1 (ai (kn ()) λi=>Z
 i) (Vv n)) (Vv n)) (Vv n)) (ai (F25 n b) λg=>aj (af g.1.1 0) (aj (af d.1.2.1 0) (ai (F26 n b.2) λh=>ai (F18 n (d.1.1,h.1))
 λi=>aj i.1.1 (ai (kn ()) λj=>Z j) (Vv n)) (Vv n)) (Vv n)))
abbrev cL5(n:Nat):kD sg:=⟨P66,K4,J,L5 n⟩
def CL5(n:Nat):bz prog 5 (cL5 n):=uL [⟨12,cK,CK⟩,k16 n,Xp n,Fo n,k21 n,k24 n,k25 n,k26 n] [] n 10 5
def ame(p:aB)(w:aI):Ev (λn=>L5 n (p,w,())) ((W,()),()):=by
 unfold L5;obtain⟨b,e,f⟩:=e19 p w;refine Ev.ai e ?_;cases b with
 |false=>exact cE|true=>
  obtain⟨c,d⟩:=f rfl;obtain⟨E,g,i,a⟩|⟨j,m,a⟩:=e21 c d
  have k:rE p w:=⟨E,g,i⟩;refine Ev.ai (Z5 c d (λ_=>rfl) λh=>absurd k h) (Ev.ai a (Ev.ai (e25 c d (λ_=>rfl) λh=>absurd k h) ?_));obtain⟨b,h1,h2⟩:=ajS (x:=nK w) (O1 g.ok i);rw[h2.2 rfl]at h1;exact Ev.ai (e26 g.ok i) (Ev.ai h1 cE);refine Ev.ai (Z5 c d (λh=>absurd h j) λ_=>rfl) (Ev.ai a (Ev.ai (e25 c d (λh=>absurd h j) λ_=>rfl) ?_));exact Ev.ai e16 cE
end Mn
namespace Go.Proofs.YthlenkomcaiomaaGreat.runChecks
open Go TL Mn
open Go.ChangeShapes Go.WideShapes Go.ChangeAt Go.RowKit
theorem params:(Tryz.f5.params.toList)=[27,33]:=by kernel_rfl
theorem adU:ZW 27=some (.st 3):=by kernel_rfl
theorem ad8:Tryz.prog.readableRec 27=true:=by kernel_rfl
theorem aaf:ZW 33=some (.st 8):=by kernel_rfl
theorem aar:Tryz.prog.readableRec 33=true:=by kernel_rfl
theorem sz:decide (33<Tryz.prog.types.size)=true:=by kernel_rfl
theorem ad4:Tryz.f5.resultTypes=#[4]:=by kernel_rfl
theorem lifted(os:Os)(started:os.Started)(H:Type)(enc:TypeId×Value->H) :
  ReturnsInHanded {} Tryz.checked os 5 .any (Rows.runChecksSpec.pre6 enc Tryz.prog Tryz.f5 Rows.runChecksRow.domain false) (Rows.runChecksSpec.post enc Tryz.prog Tryz.f5 false true false false):=by
 refine returnsInHanded_of_change_sized (C:=Tryz.checked) own started (by kernel_rfl) Tryz.func5
  (ChangeSpec.witness6 (enc:=enc) (C:=Tryz.checked) false ⟨#[],#[.agg #[.slice none 0 0,.slice none 0 0,.slice none 0 0,.int .i64 0,.slice none 0 0],.agg #[.slice none 0 0,.slice none 0 0,.slice none 0 0,.slice none 0 0,.int .i64 0]],[]⟩ 8 (by kernel_rfl) (by kernel_rfl) (by kernel_rfl) (by kernel_rfl)) ?_
 intro W base args ds gs before hval hW ape hwt _;refine Iz (S:=sg) (P:=Tryz.prog) (ty:=ZW) (τs:=[.st 3,.st 8]) (tb:=4) VY acM laid ?_ ?_ ad4 Tryz.underlying4 rfl ?_ ?_ hval hW hwt
 .rw[params];refine⟨rfl,λj a b ha hb=>?_⟩
  match j with
  |0=>cases ha;cases hb;exact adU
  |1=>cases ha;cases hb;exact aaf
  |j+2=>simp at ha
 rw[params];have:=of_decide_eq_true sz;intro t ht;simp only[List.mem_cons,List.not_mem_nil,or_false]at ht;rcases ht with h|h;subst h;exact⟨ad8,Nat.lt_of_le_of_lt (by decide) this⟩;subst h;exact⟨aar,Nat.lt_of_le_of_lt (by decide) this⟩
 .intro ds hds
  match ds,hds with
  |[d1,d2],_=>exact⟨rfl,rfl,rfl⟩
 intro x;obtain⟨x1,x2,u⟩:=x;obtain⟨N,h⟩:=ame x1 x2;exact⟨L5 N,((true,()),()),CL5 N,h N (Nat.le_refl _),rfl⟩
theorem proved:Rows.RunChecksSaid:=over lifted
end Go.Proofs.YthlenkomcaiomaaGreat.runChecks
end
