/- The law RunPlays of the given program holds: the translated function returns true for every code, world and list of picks; there are no conditions. -/
import Derived.Test.YthlenkomcaiomaaGreatE04
import Derived.Test.YthlenkomcaiomaaGreatE6
set_option linter.all false
set_option maxRecDepth 100000
set_option maxHeartbeats 0
noncomputable section
open Option renaming some->Z,none->Y
open Bool renaming true->W,false->J
open Nat renaming beq->Nq,ble->Nl,blt->Nt,succ->Ns,add->Na
open TL.LO renaming next->N,ret->X,out->H
open TL.Rx renaming ok->G,iN->M
namespace Mn
open Go TL
def X2(n:Nat):O Y4:=
 aj (kn ()) λd=>Z d
def Q2(n:Nat):O Y4:=
 Z ((J,()),())
def abQ(n:Nat)(d:Y96):O Y4:=
 aj (F16 n (d.1.1,())) λg=>ak g.1.1 (ak (af (au d.1.2.1) 0) (X2 n) (Q2 n)) (Q2 n)
def Nk(n:Nat)(b:ai5):O Y4:=
 ak (aG 220 (au b.2.2.1)) (X2 n) (aj (F20 n b) λd=>aj (F21 n (b.1,b.2.1,())) λe=>ak (av e.1.2.1) (ak (af d.1.2.2.1 2)
 (abQ n d) (Q2 n)) (ak (aG 200 (au b.2.2.1)) (ak (af d.1.2.2.1 2) (abQ n d) (Q2 n)) (aj (F22 n (e.1.1,b.2)) λg=>ak (av
 (af g.1.2.2.1 0)) (ak (af d.1.2.2.1 g.1.2.2.1) (abQ n d) (Q2 n)) (ak (af d.1.2.2.1 0) (aj (F18 n (d.1.1,g.1.1,())) λh=>ak h.1.1
 (aj (F23 n (d.1.2.1,g.1.2.1,())) λi=>ak i.1.1 (X2 n) (Q2 n)) (Q2 n)) (Q2 n)))))
def L4:auu:=
 λn b=>aj (F19 n (b.1,b.2.1,())) λc=>ak (av c.1.1) (X2 n) (ak (aG 24 (au b.2.2.1)) (ak (bB (au b.2.2.1) 200) (X2 n)
 (Nk n b)) (Nk n b))
abbrev cL4(n:Nat):lT sg:=⟨P64,K4,J,L4 n⟩
def CL4(n:Nat):bN prog 4 (cL4 n):=wE [⟨12,cK,CK⟩,k16 n,Z0 n,HE n,k20 n,k21 n,k22 n,k23 n] [] n 10 4
section
variable {p:aB}{w:ai}
def WY(hs:Small p)(i:pI w){dz:L Int}(hl:dz.length<=220):Ev (λn=>Nk n (p,w,dz,())) ((W,()),()):=by
 have f:∀{d:(ai×L aE×Int×U)×U},d.1.1=cX->d.1.2.1=[]->Ev (λn=>abQ n d) ((W,()),()):=by intro d h1 h2;unfold abQ;rw[h1,h2];exact Ev.aj e16 dg
 unfold Nk;refine Ev.n9 (λn=>uL (show(dz.length:Int)<=220 by omega) _ _) ?_;obtain⟨D,j,k,g⟩|⟨o,m,g⟩:=e21 hs i
 by_cases h2:200<dz.length;refine Ev.aj (e20 hs i (by omega) (λ_ _ _ h=>by omega) (λ_=>rfl)) (Ev.aj g ?_);refine Ev.n9 (λn=>nR (show(200:Int)<dz.length by omega) _ _) ?_;exact f rfl rfl
 .obtain ⟨e,q⟩:=e22 j.ok k (dz:=dz) (by omega);refine Ev.aj (e20 hs i (by omega) (λ_ _ _ _=>rfl) (λh=>h.elim (λh=>absurd ⟨D,j,k⟩ h) λh=>absurd h h2)) (Ev.aj g ?_);refine Ev.n9 (λn=>uL (show(dz.length:Int)<=200 by omega) _ _) ?_;refine Ev.aj q ?_;cases s:GS p w dz with|none=>exact f rfl rfl|some r=>obtain⟨x,l⟩:=r;obtain⟨a,_,c⟩:=Zj j.ok k s;exact Ev.aj (e18 j.ok a) (Ev.aj (e23 (l:=l) (by omega)) dg)
 refine Ev.aj (e20 hs i (by omega) (λD a b _=>absurd ⟨D,a,b⟩ o) (λ_=>rfl)) (Ev.aj g ?_);exact f rfl rfl
def ap1(p:aB)(w:ai)(dz:L Int):Ev (λn=>L4 n (p,w,dz,())) ((W,()),()):=by
 unfold L4;obtain⟨b,c,d⟩:=e19 p w;refine Ev.aj c ?_;cases b with
 |false=>exact dg|true=>
  obtain⟨f,g⟩:=d rfl;have e:¬dz.length<=220->Ev (λn=>Nk n (p,w,dz,())) ((W,()),()):=λh=>by unfold Nk;exact Ev.n9 (λn=>nR (show(220:Int)<dz.length by omega) _ _) dg
  have a:Ev (λn=>Nk n (p,w,dz,())) ((W,()),()):=by by_cases h:dz.length<=220;exact WY f g h;exact e h
  show Ev (λn=>TL.ak (aG 24 (dz.length:Int)) (TL.ak (bB (dz.length:Int) 200) (X2 n) (Nk n (p,w,dz,()))) (Nk n (p,w,dz,()))) _;cases aG 24 (dz.length:Int)with
  |false=>exact a|true=>
   cases bB (dz.length:Int) 200 with|false=>exact a|true=>exact dg
end
end Mn
namespace Go.Proofs.YthlenkomcaiomaaGreat.runPlays
open Go TL Mn
open Go.ChangeShapes Go.WideShapes Go.ChangeAt Go.RowKit
theorem params:(Tryz.f4.params.toList)=[27,33,24]:=by kernel_rfl
theorem agN:X6 27=some (.st 3):=by kernel_rfl
theorem ag2:Tryz.prog.readableRec 27=true:=by kernel_rfl
theorem agM:X6 33=some (.st 8):=by kernel_rfl
theorem ag1:Tryz.prog.readableRec 33=true:=by kernel_rfl
theorem apk:X6 24=some (.sl (.int .i64)):=by kernel_rfl
theorem apq:Tryz.prog.readableRec 24=true:=by kernel_rfl
theorem sz:decide (33<Tryz.prog.types.size)=true:=by kernel_rfl
theorem agX:Tryz.f4.resultTypes=#[4]:=by kernel_rfl
theorem lifted(os:Os)(started:os.Started)(H:Type)(enc:TypeId×Value->H) :
  ReturnsInHanded {} Tryz.checked os 4 .any (Rows.runPlaysSpec.pre6 enc Tryz.prog Tryz.f4 Rows.runPlaysRow.domain false) (Rows.runPlaysSpec.post enc Tryz.prog Tryz.f4 false true false false):=by
 refine returnsInHanded_of_change_sized (C:=Tryz.checked) own started (by kernel_rfl) Tryz.func4
  (ChangeSpec.witness6 (enc:=enc) (C:=Tryz.checked) false ⟨#[],#[.agg #[.slice none 0 0,.slice none 0 0,.slice none 0 0,.int .i64 0,.slice none 0 0],.agg #[.slice none 0 0,.slice none 0 0,.slice none 0 0,.slice none 0 0,.int .i64 0],.slice none 0 0],[]⟩ 8 (by kernel_rfl) (by kernel_rfl) (by kernel_rfl) (by kernel_rfl)) ?_
 intro W base args ds gs before hval hW as1 hwt _;refine Kz (S:=sg) (P:=Tryz.prog) (ty:=X6) (τs:=[.st 3,.st 8,.sl (.int .i64)]) (tb:=4) Yw afy laid ?_ ?_ agX Tryz.underlying4 rfl ?_ ?_ hval hW hwt
 .rw[params];refine⟨rfl,λj a b ha hb=>?_⟩
  match j with
  |0=>cases ha;cases hb;exact agN
  |1=>cases ha;cases hb;exact agM
  |2=>cases ha;cases hb;exact apk
  |j+3=>simp at ha
 rw[params];have:=of_decide_eq_true sz;intro t ht;simp only[List.mem_cons,List.not_mem_nil,or_false]at ht;rcases ht with h|h|h;subst h;exact⟨ag2,Nat.lt_of_le_of_lt (by decide) this⟩;subst h;exact⟨ag1,Nat.lt_of_le_of_lt (by decide) this⟩;subst h;exact⟨apq,Nat.lt_of_le_of_lt (by decide) this⟩
 .intro ds hds
  match ds,hds with
  |[d1,d2,d3],_=>exact⟨rfl,rfl,rfl⟩
 intro x;obtain⟨x1,x2,x3,u⟩:=x;obtain⟨N,h⟩:=ap1 x1 x2 x3;exact⟨L4 N,((true,()),()),CL4 N,h N (Nat.le_refl _),rfl⟩
theorem proved:Rows.RunPlaysSaid:=over lifted
end Go.Proofs.YthlenkomcaiomaaGreat.runPlays
end
