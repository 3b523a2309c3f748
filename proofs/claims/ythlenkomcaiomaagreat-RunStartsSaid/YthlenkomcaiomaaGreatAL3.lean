/- The law RunStarts of the given program holds: the translated function returns true for every code and every list of inputs; there are no conditions. -/
import Derived.Test.YthlenkomcaiomaaGreatA03
import Derived.Test.YthlenkomcaiomaaGreatA6
set_option linter.all false
set_option maxRecDepth 100000
set_option maxHeartbeats 0
noncomputable section
open Option renaming some->Z,none->Y
open Bool renaming true->W,false->J
open Nat renaming beq->Nq,ble->Nl,blt->Nt,succ->Ns,add->Na
open TL.LO renaming next->N,ret->X,out->H
open TL.Rx renaming ok->G,iJ->M
section
namespace Mn
open Go TL
def Zq(n:Nat)(d:Y50):O Y4:=
 ah (F16 n (d.1.1,())) λg=>aj g.1.1 (ah (kn ()) λh=>Z h) (Z ((J,()),()))
def L3:Nat->akE->O Y4:=
 λn b=>ah (F11 n (b.1,())) λc=>aj (au c.1.1) (ah (kn ()) λd=>Z d) (aj (aE 60 (aq b.2.1)) (ah (kn ()) λd=>
 Z d) (ah (F13 n b) λd=>ah (F14 n (b.1,())) λe=>aj (au e.1.2.1) (aj (aa d.1.2.1 2) (Zq n d) (Z ((J,()),()))) (ah
 (F15 n (b.2.1,50,())) λg=>aj (au g.1.1) (aj (aa d.1.2.1 2) (Zq n d) (Z ((J,()),()))) (ah (F17 n (e.1.1,b.2)) λh=>aj
 (au h.1.2.1) (aj (aa d.1.2.1 8) (Zq n d) (Z ((J,()),()))) (aj (aa d.1.2.1 0) (ah (F18 n (d.1.1,h.1.1,())) λi=>aj i.1.1
 (ah (kn ()) λj=>Z j) (Z ((J,()),()))) (Z ((J,()),())))))))
abbrev cL3(n:Nat):lI sg:=⟨P55,K4,J,L3 n⟩
def CL3(n:Nat):bC prog 3 (cL3 n):=cS [k11 n,⟨12,cK,CK⟩,k13 n,k14 n,k15 n,k16 n,k17 n,k18 n] [] n 10 3
def ann(p:aA)(e:L Int):Ev (λn=>L3 n (p,e,())) ((W,()),()):=by
 have c:∀d:(ak×Int×U)×U,d.1.1=cY->Ev (λn=>Zq n d) ((W,()),()):=by intro d r;unfold Zq;rw[r];exact Ev.ah e16 fc
 unfold L3;obtain⟨b,k,o⟩:=e11 p;refine Ev.ah k ?_;cases b with
 |false=>exact fc|true=>
  have j:=o rfl;by_cases u:60<e.length
  .exact Ev.vQ (λn=>y7 (show(60:Int)<e.length by omega) _ _) fc
  refine Ev.vQ (λn=>El (show(e.length:Int)<=60 by omega) _ _) ?_;obtain⟨D,i,f⟩|⟨t,m,f⟩:=e14 j
  .obtain ⟨a,b⟩|⟨a,b⟩:=e15 (l:=e) (by omega)
   .obtain ⟨v,w,q,AB⟩:=e17 i.ok a;refine Ev.ah (e13 j (by omega) (λ_ _ _=>rfl) (λh=>h.elim (λh=>absurd ⟨D,i⟩ h) (λh=>absurd a h))) (Ev.ah f (Ev.ah b (Ev.ah q ?_)));obtain⟨rfl,g⟩|⟨rfl,s,g⟩:=AB
    .unfold Ka;rw[g];exact c _ rfl
    .unfold Ka;rw[g];exact Ev.ah (e18 i.ok (y6 i.ok _ _ _ _ _ _ (Gr i.ok a) (by simp[qX]) g).1) fc
   .refine Ev.ah (e13 j (by omega) (λ_ _ h=>absurd h a) (λ_=>rfl)) (Ev.ah f (Ev.ah b ?_));exact c _ rfl
  .refine Ev.ah (e13 j (by omega) (λD i _=>absurd ⟨D,i⟩ t) (λ_=>rfl)) (Ev.ah f ?_);exact c _ rfl
end Mn
end
section
namespace Go.Proofs.YthlenkomcaiomaaGreat.runStarts
open Go TL Mn
open Go.ChangeShapes Go.WideShapes Go.ChangeAt Go.RowKit
theorem params:(Tryz.f3.params.toList)=[27,24]:=by kernel_rfl
theorem amB:tyL 27=some (.st 3):=by kernel_rfl
theorem amH:Tryz.prog.readableRec 27=true:=by kernel_rfl
theorem amC:tyL 24=some (.sl (.int .i64)):=by kernel_rfl
theorem amI:Tryz.prog.readableRec 24=true:=by kernel_rfl
theorem sz:decide (27<Tryz.prog.types.size)=true:=by kernel_rfl
theorem amG:Tryz.f3.resultTypes=#[4]:=by kernel_rfl
theorem lifted(os:Os)(started:os.Started)(H:Type)(enc:TypeId×Value->H) :
  ReturnsInHanded {} Tryz.checked os 3 .any (Rows.runStartsSpec.pre6 enc Tryz.prog Tryz.f3 Rows.runStartsRow.domain false) (Rows.runStartsSpec.post enc Tryz.prog Tryz.f3 false true false false):=by
 refine returnsInHanded_of_change_sized (C:=Tryz.checked) own started (by kernel_rfl) Tryz.func3
  (ChangeSpec.witness6 (enc:=enc) (C:=Tryz.checked) false ⟨#[],#[.agg #[.slice none 0 0,.slice none 0 0,.slice none 0 0,.int .i64 0,.slice none 0 0],.slice none 0 0],[]⟩ 8 (by kernel_rfl) (by kernel_rfl) (by kernel_rfl) (by kernel_rfl)) ?_
 intro W base args ds gs before hval hW hcnd hwt _;refine UC (S:=sg) (P:=Tryz.prog) (ty:=tyL) (τs:=[.st 3,.sl (.int .i64)]) (tb:=4) ac6 ahF laid ?_ ?_ amG Tryz.underlying4 rfl ?_ ?_ hval hW hwt
 .rw[params];refine⟨rfl,λj a b ha hb=>?_⟩
  match j with
  |0=>cases ha;cases hb;exact amB
  |1=>cases ha;cases hb;exact amC
  |j+2=>simp at ha
 .rw[params];have:=of_decide_eq_true sz;intro t ht;simp only[List.mem_cons,List.not_mem_nil,or_false]at ht;rcases ht with h|h
  .subst h;exact⟨amH,Nat.lt_of_le_of_lt (by decide) this⟩
  .subst h;exact⟨amI,Nat.lt_of_le_of_lt (by decide) this⟩
 .intro ds hds
  match ds,hds with
  |[d1,d2],_=>exact⟨rfl,rfl,rfl⟩
 .intro x;obtain⟨x1,x2,u⟩:=x;obtain⟨N,h⟩:=ann x1 x2;exact⟨L3 N,((true,()),()),CL3 N,h N (Nat.le_refl _),rfl⟩
theorem proved:Rows.RunStartsSaid:=over lifted
end Go.Proofs.YthlenkomcaiomaaGreat.runStarts
end
end
