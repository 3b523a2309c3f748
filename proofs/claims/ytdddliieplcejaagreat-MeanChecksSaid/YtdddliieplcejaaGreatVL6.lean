/- The statement MeanChecks of hearthlaw06 holds for all programs and worlds: the law's function returns true at each of them, whatever the sizes are. -/
import Derived.Test.YtdddliieplcejaaGreatV06
import Derived.Test.YtdddliieplcejaaGreatV6
set_option linter.all false
set_option maxRecDepth 100000
set_option maxHeartbeats 0
noncomputable section
open Option renaming some->Z,none->Y
open Bool renaming true->W,false->J
section
namespace Mn
open Go TL
def Q1(n:Nat):O fm:=
 Z ((J,()),())
def L6:Y21:=
 λn b=>af (F20 n b) λc=>ah (D.aK c.1.1) (af (kn ()) λd=>Z d) (af (F28 n b) λd=>af (F22 n b) λe=>ah (D.aK e.1.1)
 (af (F29 n b) λg=>ah (D.aH g.1.1 2) (ah (D.aH d.1.2.1 2) (af (F17 n (d.1.1,())) λh=>ah h.1.1 (af (kn ()) λi=>Z i) (Q1
 n)) (Q1 n)) (Q1 n)) (af (F29 n b) λg=>ah (D.aH g.1.1 0) (ah (D.aH d.1.2.1 0) (af (F30 n b.2) λh=>af (F19 n (d.1.1,h.1)) λi=>
 ah i.1.1 (af (kn ()) λj=>Z j) (Q1 n)) (Q1 n)) (Q1 n)))
abbrev cL6(n:Nat):j0 sg:=⟨P67,K4,J,L6 n⟩
def CL6(n:Nat):bw prog 6 (cL6 n):=cx [⟨13,cK,CK⟩,k17 n,k19 n,k20 n,k22 n,k28 n,k29 n,k30 n] [] n 10 6
def ago(p:av)(w:ak):Ev (λn=>L6 n (p,w,())) ((W,()),()):=by
 unfold L6;obtain⟨b,i,j⟩:=e20 p w;refine Ev.af i ?_;cases b with
 |false=>exact Ev.of_eq λn=>rfl
 |true=>
  obtain⟨a,c⟩:=j rfl;obtain⟨b,d,e⟩:=e22 a c;cases b with
  |false=>
   have k:¬(FP p∧sH p w):=λh=>by have:=e.2 h;cases this
   refine Ev.af (Vc a c (λh=>absurd h k) λ_=>rfl) (Ev.af d (Ev.af (e29 a c (λh=>absurd h k) λ_=>rfl) ?_));exact Ev.af e17 (Ev.of_eq λn=>rfl)
  |true=>obtain⟨f,g⟩:=e.1 rfl;refine Ev.af (Vc a c (λ_=>rfl) λh=>absurd ⟨f,g⟩ h) (Ev.af d (Ev.af (e29 a c (λ_=>rfl) λh=>absurd ⟨f,g⟩ h) ?_));obtain⟨b,h1,h2⟩:=aea (x:=l5 w) (Lt f.ok g);rw[h2.2 rfl]at h1;exact Ev.af (e30 f.ok g) (Ev.af h1 (Ev.of_eq λn=>rfl))
end Mn
end
section
namespace Go.Proofs.YtdddliieplcejaaGreat.meanChecks
open Go TL Mn
open Go.ChangeShapes Go.WideShapes Go.ChangeAt Go.RowKit
theorem params:(Tryz.f6.params.toList)=[26,32]:=by kernel_rfl
theorem YG:U4 26=some (.st 3):=by kernel_rfl
theorem YS:Tryz.prog.readableRec 26=true:=by kernel_rfl
theorem Vk:U4 32=some (.st 8):=by kernel_rfl
theorem Vx:Tryz.prog.readableRec 32=true:=by kernel_rfl
theorem sz:decide (32<Tryz.prog.types.size)=true:=by kernel_rfl
theorem YQ:Tryz.f6.resultTypes=#[4]:=by kernel_rfl
theorem lifted(os:Os)(started:os.Started)(H:Type)(enc:TypeId×Value->H) :
  ReturnsInHanded {} Tryz.checked os 6 .any (Rows.meanChecksSpec.pre6 enc Tryz.prog Tryz.f6 Rows.meanChecksRow.domain false) (Rows.meanChecksSpec.post enc Tryz.prog Tryz.f6 false true false false):=by
 refine returnsInHanded_of_change_sized (C:=Tryz.checked) own started (by kernel_rfl) Tryz.func6
  (ChangeSpec.witness6 (enc:=enc) (C:=Tryz.checked) false ⟨#[],#[.agg #[.slice none 0 0,.slice none 0 0,.int .i64 0,.slice none 0 0],.agg #[.slice none 0 0,.slice none 0 0,.slice none 0 0,.slice none 0 0,.int .i64 0]],[]⟩ 8 (by kernel_rfl) (by kernel_rfl) (by kernel_rfl) (by kernel_rfl)) ?_
 intro W base args ds gs before hval hW ajh hwt _;refine Fs (S:=sg) (P:=Tryz.prog) (ty:=U4) (τs:=[.st 3,.st 8]) (tb:=4) Ru XB laid ?_ ?_ YQ Tryz.underlying4 rfl ?_ ?_ hval hW hwt
 .rw[params];refine⟨rfl,λj a b ha hb=>?_⟩
  match j with
  |0=>cases ha;cases hb;exact YG
  |1=>cases ha;cases hb;exact Vk
  |j+2=>simp at ha
 .rw[params];have:=of_decide_eq_true sz;intro t ht;simp only[List.mem_cons,List.not_mem_nil,or_false]at ht;rcases ht with h|h
  .subst h;exact⟨YS,Nat.lt_of_le_of_lt (by decide) this⟩
  .subst h;exact⟨Vx,Nat.lt_of_le_of_lt (by decide) this⟩
 .intro ds hds
  match ds,hds with
  |[d1,d2],_=>exact⟨rfl,rfl,rfl⟩
 .intro x;obtain⟨x1,x2,u⟩:=x;obtain⟨N,h⟩:=ago x1 x2;exact⟨L6 N,((true,()),()),CL6 N,h N (Nat.le_refl _),rfl⟩
theorem proved:Rows.MeanChecksSaid:=over lifted
end Go.Proofs.YtdddliieplcejaaGreat.meanChecks
end
end
