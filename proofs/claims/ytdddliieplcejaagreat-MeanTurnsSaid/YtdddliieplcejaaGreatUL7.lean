/- The statement MeanTurns of hearthlaw06 holds for all programs, worlds and picks: the law's function returns true at each of them, whatever the sizes are. -/
import Derived.Test.YtdddliieplcejaaGreatU07
import Derived.Test.YtdddliieplcejaaGreatU6
set_option linter.all false
set_option maxRecDepth 100000
set_option maxHeartbeats 0
noncomputable section
open Option renaming some->Z,none->Y
open Bool renaming true->W,false->J
section
namespace Mn
open Go TL
def sR(n:Nat):O fc:=
 Z ((J,()),())
def XI(n:Nat)(e:Y75):O fc:=
 ai (F17 n (e.1.1,())) λi=>aj i.1.1 (aj (D.dz (D.aG e.1.2.1.1 0) (D.dz (D.aG e.1.2.1.2 0) (D.dz (D.aG e.1.2.1.3 0) (D.dz (D.aG
 e.1.2.1.4.1 0) (D.dz (D.aG e.1.2.1.4.2 0) W))))) (aj (D.aG e.1.2.2.1 0) (ai (kn ()) λj=>Z j) (sR n)) (sR n)) (sR n)
def L7:aif:=
 λn b=>ai (F20 n (b.1,b.2.1,())) λc=>aj (D.aK c.1.1) (ai (kn ()) λd=>Z d) (ai (F31 n (b.1,b.2.1,())) λd=>ai (F32 n
 b) λe=>ai (F22 n (b.1,b.2.1,())) λg=>aj (D.aK g.1.1) (aj (D.aG d.1.2.2.1 2) (ai (F17 n (d.1.1,())) λh=>aj h.1.1 (aj (D.aG
 d.1.2.1 0) (aj (D.aG e.1.2.2.2.1 2) (XI n e) (sR n)) (sR n)) (sR n)) (sR n)) (ai (F33 n (b.1,b.2.1,0,())) λh=>aj (D.aK
 h.1.2.2.1) (aj (D.aG d.1.2.2.1 8) (ai (F17 n (d.1.1,())) λi=>aj i.1.1 (aj (D.aG d.1.2.1 0) (aj (D.aG e.1.2.2.2.1 8) (XI n e) (sR n))
 (sR n)) (sR n)) (sR n)) (ai (F34 n b) λi=>aj (D.aK (D.aG d.1.2.2.1 0)) (sR n) (ai (F19 n (d.1.1,h.1.1,())) λj=>aj (D.aK
 j.1.1) (sR n) (aj (D.aK (D.aG d.1.2.1 h.1.2.1)) (sR n) (aj (D.aK (D.aG e.1.2.2.2.1 i.1.2.2.2.1)) (sR n) (aj (D.aK (D.aG i.1.2.2.2.1
 0)) (XI n e) (ai (F19 n (e.1.1,i.1.1,())) λk=>aj k.1.1 (aj (D.dz (D.aG e.1.2.1.1 i.1.2.1.1) (D.dz (D.aG e.1.2.1.2 i.1.2.1.2) (D.dz
 (D.aG e.1.2.1.3 i.1.2.1.3) (D.dz (D.aG e.1.2.1.4.1 i.1.2.1.4.1) (D.dz (D.aG e.1.2.1.4.2 i.1.2.1.4.2) W))))) (aj (D.aG e.1.2.2.1 i.1.2.2.1)
 (ai (kn ()) λl=>Z l) (sR n)) (sR n)) (sR n)))))))))
abbrev cL7(n:Nat):kC sg:=⟨P68,K4,J,L7 n⟩
def CL7(n:Nat):bz prog 7 (cL7 n):=ct [⟨13,cK,CK⟩,k17 n,k19 n,k20 n,k22 n,k31 n,k32 n,k33 n,k34 n] [] n 10 7
def aku(p:ax)(w:aa)(pick:Int):Ev (λn=>L7 n (p,w,pick,())) ((W,()),()):=by
 have g:∀{d:(aa×aA×Int×Int×U)×U}{k:Int},d=((bF,aH,0,k,()),())->Ev (λn=>XI n d) ((W,()),()):=by intro d k h;subst h;unfold XI;exact Ev.ai e17 (Ev.of_eq λn=>rfl)
 unfold L7;obtain⟨b,u,v⟩:=e20 p w;refine Ev.ai u ?_;cases b with
 |false=>exact Ev.of_eq λn=>rfl
 |true=>
  obtain⟨l,m⟩:=v rfl;obtain⟨b,o,q⟩:=e22 l m;cases b with
  |false=>
   have A:¬(FP p∧fD p w):=λh=>by have:=q.2 h;cases this
   refine Ev.ai (e31 l m (λh=>absurd h A) λ_=>rfl) (Ev.ai (e32 l m (λh=>absurd h A) λ_=>rfl) (Ev.ai o ?_));exact Ev.ai e17 (g rfl)
  |true=>
   have C:=q.1 rfl;obtain⟨x,i⟩:=C;have j:=x.ok;refine Ev.ai (e31 l m (λ_=>rfl) λh=>absurd ⟨x,i⟩ h) (Ev.ai (e32 l m (λ_=>rfl) λh=>absurd ⟨x,i⟩ h) (Ev.ai o ?_));rcases e33 j i (s:=0) (by omega)with⟨B,t,a,c⟩|⟨a,B,t,c⟩
   .refine Ev.ai c ?_;have y:=(eK j i a).1;obtain⟨f,E⟩:=e34 j i pick;have qq:Lg p w=((B,(t:Int),0,()),()):=by unfold Lg;rw[a]
    have r:=yx j i (pick:=pick);rw[qq];refine Ev.ai E ?_;refine Ev.ai (e19 j y) ?_;show Ev (λn=>TL.aj (D.aK (D.aG (t:Int) (t:Int))) (sR n) _) _;refine Ev.congr (λn=>(mH ..).trans (I8 rfl _ _)) ?_;cases z:gm p w pick with|we=>exact g rfl|idle F=>exact g rfl|ok G e H=>rw[z]at r;refine Ev.ai (e19 j r.1) ?_;refine Ev.of_eq λn=>?_;simp only[aa7,Qy,D.dz,jB,rU,DA];rfl
   .refine Ev.ai c ?_;have qq:Lg p w=((bF,0,8,()),()):=by unfold Lg;rw[a]
    have z:gm p w pick=.we:=by unfold gm;rw[a]
    rw[qq,z];exact Ev.ai e17 (g rfl)
end Mn
end
section
namespace Go.Proofs.YtdddliieplcejaaGreat.meanTurns
open Go TL Mn
open Go.ChangeShapes Go.WideShapes Go.ChangeAt Go.RowKit
theorem params:(Tryz.f7.params.toList)=[26,32,3]:=by kernel_rfl
theorem IY:CH 26=some (.st 3):=by kernel_rfl
theorem Jk:Tryz.prog.readableRec 26=true:=by kernel_rfl
theorem IX:CH 32=some (.st 8):=by kernel_rfl
theorem Jj:Tryz.prog.readableRec 32=true:=by kernel_rfl
theorem ty3:CH 3=some (.int .i64):=by kernel_rfl
theorem rd3:Tryz.prog.readableRec 3=true:=by kernel_rfl
theorem sz:decide (32<Tryz.prog.types.size)=true:=by kernel_rfl
theorem Jf:Tryz.f7.resultTypes=#[4]:=by kernel_rfl
theorem lifted(os:Os)(started:os.Started)(H:Type)(enc:TypeId×Value->H) :
  ReturnsInHanded {} Tryz.checked os 7 .any (Rows.meanTurnsSpec.pre6 enc Tryz.prog Tryz.f7 Rows.meanTurnsRow.domain false) (Rows.meanTurnsSpec.post enc Tryz.prog Tryz.f7 false true false false):=by
 refine returnsInHanded_of_change_sized (C:=Tryz.checked) own started (by kernel_rfl) Tryz.func7
  (ChangeSpec.witness6 (enc:=enc) (C:=Tryz.checked) false ⟨#[],#[.agg #[.slice none 0 0,.slice none 0 0,.int .i64 0,.slice none 0 0],.agg #[.slice none 0 0,.slice none 0 0,.slice none 0 0,.slice none 0 0,.int .i64 0],.int .i64 0],[]⟩ 8 (by kernel_rfl) (by kernel_rfl) (by kernel_rfl) (by kernel_rfl)) ?_
 intro W base args ds gs before hval hW Z9 ZQ _;refine ri (S:=sg) (P:=Tryz.prog) (ty:=CH) (τs:=[.st 3,.st 8,.int .i64]) (tb:=4) Hr Lr laid ?_ ?_ Jf Tryz.underlying4 rfl ?_ ?_ hval hW ZQ
 .rw[params];refine⟨rfl,λj a b ha hb=>?_⟩
  match j with
  |0=>cases ha;cases hb;exact IY
  |1=>cases ha;cases hb;exact IX
  |2=>cases ha;cases hb;exact ty3
  |j+3=>simp at ha
 .rw[params];have:=of_decide_eq_true sz;intro t ht;simp only[List.mem_cons,List.not_mem_nil,or_false]at ht;rcases ht with h|h|h
  .subst h;exact⟨Jk,Nat.lt_of_le_of_lt (by decide) this⟩
  .subst h;exact⟨Jj,Nat.lt_of_le_of_lt (by decide) this⟩
  .subst h;exact⟨rd3,Nat.lt_of_le_of_lt (by decide) this⟩
 .intro ds hds
  match ds,hds with
  |[d1,d2,d3],_=>exact⟨rfl,rfl,rfl⟩
 .intro x;obtain⟨x1,x2,x3,u⟩:=x;obtain⟨N,h⟩:=aku x1 x2 x3;exact⟨L7 N,((true,()),()),CL7 N,h N (Nat.le_refl _),rfl⟩
theorem proved:Rows.MeanTurnsSaid:=over lifted
end Go.Proofs.YtdddliieplcejaaGreat.meanTurns
end
end
