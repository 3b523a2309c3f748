/- The law RunTurns of the given program holds: the translated function returns true for every code, world and pick; there are no conditions. -/
import Derived.Test.YthlenkomcaiomaaGreatE06
import Derived.Test.YthlenkomcaiomaaGreatE6
set_option linter.all false
set_option maxRecDepth 100000
set_option maxHeartbeats 0
noncomputable section
open Option renaming some->Z,none->Y
open Bool renaming true->W,false->J
open Nat renaming beq->Nq,ble->Nl,blt->Nt,succ->Ns,add->Na
open TL.LO renaming next->N,ret->X,out->H
open TL.Rx renaming ok->G,iN->M
namespace Mn
open Go TL
def vQ(n:Nat):O Y4:=
 Z ((J,()),())
def abP(n:Nat)(e:Y38):O Y4:=
 aj (F16 n (e.1.1,())) λi=>ak i.1.1 (ak (bR (af e.1.2.1.1 0) (bR (af e.1.2.1.2 0) (bR (af e.1.2.1.3 0) (bR (af
 e.1.2.1.4.1 0) (bR (af e.1.2.1.4.2 0) W))))) (ak (af e.1.2.2.1 0) (aj (kn ()) λj=>Z j) (vQ n)) (vQ n)) (vQ n)
def L6:aur:=
 λn b=>aj (F19 n (b.1,b.2.1,())) λc=>ak (av c.1.1) (aj (kn ()) λd=>Z d) (aj (F27 n (b.1,b.2.1,())) λd=>aj (F28 n
 b) λe=>aj (F21 n (b.1,b.2.1,())) λg=>ak (av g.1.2.1) (ak (af d.1.2.2.1 2) (aj (F16 n (d.1.1,())) λh=>ak h.1.1 (ak (af
 d.1.2.1 0) (ak (af e.1.2.2.2.1 2) (abP n e) (vQ n)) (vQ n)) (vQ n)) (vQ n)) (aj (F29 n (g.1.1,b.2.1,0,())) λh=>ak (av
 h.1.2.2.1) (ak (af d.1.2.2.1 8) (aj (F16 n (d.1.1,())) λi=>ak i.1.1 (ak (af d.1.2.1 0) (ak (af e.1.2.2.2.1 8) (abP n e) (vQ n))
 (vQ n)) (vQ n)) (vQ n)) (aj (F30 n (g.1.1,b.2)) λi=>ak (av (af d.1.2.2.1 0)) (vQ n) (aj (F18 n (d.1.1,h.1.1,())) λj=>ak
 (av j.1.1) (vQ n) (ak (av (af d.1.2.1 h.1.2.1)) (vQ n) (ak (av (af e.1.2.2.2.1 i.1.2.2.2.1)) (vQ n) (ak (av (af
 i.1.2.2.2.1 0)) (abP n e) (aj (F18 n (e.1.1,i.1.1,())) λk=>ak k.1.1 (ak (bR (af e.1.2.1.1 i.1.2.1.1) (bR (af e.1.2.1.2
 i.1.2.1.2) (bR (af e.1.2.1.3 i.1.2.1.3) (bR (af e.1.2.1.4.1 i.1.2.1.4.1) (bR (af e.1.2.1.4.2 i.1.2.1.4.2) W))))) (ak (af
 e.1.2.2.1 i.1.2.2.1) (aj (kn ()) λl=>Z l) (vQ n)) (vQ n)) (vQ n)))))))))
abbrev cL6(n:Nat):lT sg:=⟨P67,K4,J,L6 n⟩
def CL6(n:Nat):bN prog 6 (cL6 n):=wE [⟨12,cK,CK⟩,k16 n,Z0 n,HE n,k21 n,k27 n,k28 n,ZY n,k30 n] [] n 10 6
def ap0(p:aB)(w:ai)(pick:Int):Ev (λn=>L6 n (p,w,pick,())) ((W,()),()):=by
 have g:∀{d:(ai×aE×Int×Int×U)×U}{k:Int},d=((cX,bP,0,k,()),())->Ev (λn=>abP n d) ((W,()),()):=by intro d k h;subst h;unfold abP;exact Ev.aj e16 dg
 unfold L6;obtain⟨b,u,v⟩:=e19 p w;refine Ev.aj u ?_;cases b with
 |false=>exact dg|true=>
  obtain⟨l,o⟩:=v rfl;obtain⟨E,z,q,i⟩|⟨A,m,i⟩:=e21 l o
  have B:Q0 p w:=⟨E,z,q⟩;have j:=z.ok;refine Ev.aj (e27 l o (λ_=>rfl) λh=>absurd B h) (Ev.aj (e28 l o (λ_=>rfl) λh=>absurd B h) (Ev.aj i ?_));obtain⟨C,t,a,c⟩|⟨a,C,t,c⟩:=e29 j q (s:=0) (by omega)
  .refine Ev.aj c ?_;have x:=(gj j q a).1;obtain⟨f,F⟩:=e30 j q pick;have yW:Wb p w=((C,(t:Int),0,()),()):=by unfold Wb;rw[a]
   have r:=AJ j q (pick:=pick);rw[yW];refine Ev.aj F ?_;refine Ev.aj (e18 j x) ?_;show Ev (λn=>TL.ak (av (af (t:Int) (t:Int))) (vQ n) _) _;refine Ev.n9 (λn=>(Fp ..).trans (RJ rfl _ _)) ?_;cases y:jz p w pick with|Bj=>exact g rfl|idle I=>exact g rfl|ok K e P=>rw[y]at r;refine Ev.aj (e18 j r.1) ?_;refine bC λn=>?_;simp only[afu,Ui,bR,JE,Ma,Og];rfl
  refine Ev.aj c ?_;have yW:Wb p w=((cX,0,8,()),()):=by unfold Wb;rw[a]
  have y:jz p w pick=.Bj:=by unfold jz;rw[a]
  rw[yW,y];exact Ev.aj e16 (g rfl);refine Ev.aj (e27 l o (λh=>absurd h A) λ_=>rfl) (Ev.aj (e28 l o (λh=>absurd h A) λ_=>rfl) (Ev.aj i ?_));exact Ev.aj e16 (g rfl)
end Mn
namespace Go.Proofs.YthlenkomcaiomaaGreat.runTurns
open Go TL Mn
open Go.ChangeShapes Go.WideShapes Go.ChangeAt Go.RowKit
theorem params:(Tryz.f6.params.toList)=[27,33,3]:=by kernel_rfl
theorem agN:X6 27=some (.st 3):=by kernel_rfl
theorem ag2:Tryz.prog.readableRec 27=true:=by kernel_rfl
theorem agM:X6 33=some (.st 8):=by kernel_rfl
theorem ag1:Tryz.prog.readableRec 33=true:=by kernel_rfl
theorem ty3:X6 3=some (.int .i64):=by kernel_rfl
theorem rd3:Tryz.prog.readableRec 3=true:=by kernel_rfl
theorem sz:decide (33<Tryz.prog.types.size)=true:=by kernel_rfl
theorem agX:Tryz.f6.resultTypes=#[4]:=by kernel_rfl
theorem lifted(os:Os)(started:os.Started)(H:Type)(enc:TypeId×Value->H) :
  ReturnsInHanded {} Tryz.checked os 6 .any (Rows.runTurnsSpec.pre6 enc Tryz.prog Tryz.f6 Rows.runTurnsRow.domain false) (Rows.runTurnsSpec.post enc Tryz.prog Tryz.f6 false true false false):=by
 refine returnsInHanded_of_change_sized (C:=Tryz.checked) own started (by kernel_rfl) Tryz.func6
  (ChangeSpec.witness6 (enc:=enc) (C:=Tryz.checked) false ⟨#[],#[.agg #[.slice none 0 0,.slice none 0 0,.slice none 0 0,.int .i64 0,.slice none 0 0],.agg #[.slice none 0 0,.slice none 0 0,.slice none 0 0,.slice none 0 0,.int .i64 0],.int .i64 0],[]⟩ 8 (by kernel_rfl) (by kernel_rfl) (by kernel_rfl) (by kernel_rfl)) ?_
 intro W base args ds gs before hval hW as1 hwt _;refine Kz (S:=sg) (P:=Tryz.prog) (ty:=X6) (τs:=[.st 3,.st 8,.int .i64]) (tb:=4) Yw afy laid ?_ ?_ agX Tryz.underlying4 rfl ?_ ?_ hval hW hwt
 .rw[params];refine⟨rfl,λj a b ha hb=>?_⟩
  match j with
  |0=>cases ha;cases hb;exact agN
  |1=>cases ha;cases hb;exact agM
  |2=>cases ha;cases hb;exact ty3
  |j+3=>simp at ha
 rw[params];have:=of_decide_eq_true sz;intro t ht;simp only[List.mem_cons,List.not_mem_nil,or_false]at ht;rcases ht with h|h|h;subst h;exact⟨ag2,Nat.lt_of_le_of_lt (by decide) this⟩;subst h;exact⟨ag1,Nat.lt_of_le_of_lt (by decide) this⟩;subst h;exact⟨rd3,Nat.lt_of_le_of_lt (by decide) this⟩
 .intro ds hds
  match ds,hds with
  |[d1,d2,d3],_=>exact⟨rfl,rfl,rfl⟩
 intro x;obtain⟨x1,x2,x3,u⟩:=x;obtain⟨N,h⟩:=ap0 x1 x2 x3;exact⟨L6 N,((true,()),()),CL6 N,h N (Nat.le_refl _),rfl⟩
theorem proved:Rows.RunTurnsSaid:=over lifted
end Go.Proofs.YthlenkomcaiomaaGreat.runTurns
end
