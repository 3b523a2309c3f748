/- The law RunStep of the given program holds: the translated function returns true for every code, world and number of a task; there are no conditions. -/
import Derived.Test.YthlenkomcaiomaaGreatH08
import Derived.Test.YthlenkomcaiomaaGreatH6
set_option linter.all false
set_option maxRecDepth 100000
set_option maxHeartbeats 0
noncomputable section
open Option renaming some->Z,none->Y
open Bool renaming true->W,false->J
open Nat renaming beq->Nq,ble->Nl,blt->Nt,succ->Ns,add->Na
open TL.LO renaming next->N,ret->X,out->H
open TL.Rx renaming ok->G,iJ->M
section
namespace Mn
open Go TL
def CP(n:Nat):O Y4:=
 Z ((J,()),())
def ad9(n:Nat)(e:aat):O Y4:=
 ah (F16 n (e.1.1,())) λh=>ai h.1.1 (ai (bS (aa e.1.2.1.1 0) (bS (aa e.1.2.1.2 0) (bS (aa e.1.2.1.3 0) (bS (aa
 e.1.2.1.4.1 0) (bS (aa e.1.2.1.4.2 0) W))))) (ah (kn ()) λi=>Z i) (CP n)) (CP n)
def ad8(n:Nat)(e:aat):O Y4:=
 ai (aa e.1.2.2.1 2) (ad9 n e) (CP n)
def L8:ata:=
 λn b=>ah (F19 n (b.1,b.2.1,())) λc=>ai (aq c.1.1) (ah (kn ()) λd=>Z d) (ah (F33 n (b.1,b.2.1,())) λd=>ah (F34 n
 b) λe=>ah (F21 n (b.1,b.2.1,())) λg=>ai (aq g.1.2.1) (ai (aa d.1.2.1 2) (ai (aa (ak d.1.1) 0) (ad8 n e) (CP n)) (CP
 n)) (ai (aq (aa d.1.2.1 0)) (CP n) (ah (F36 n (g.1.1,b.2.1,())) λh=>ah (F35 n (d.1.1,h.1)) λi=>ai (aq i.1.1) (CP n)
 (ai (aD b.2.2.1 0) (ad8 n e) (ai (br (ak b.2.1.2) b.2.2.1) (ad8 n e) (ah (F37 n (g.1.1,b.2)) λj=>ai (aa j.1.1.2 2) (ai (aa
 e.1.2.2.1 5) (ad9 n e) (CP n)) (ai (aa e.1.2.2.1 0) (ah (F18 n (e.1.1,j.1.1.1,())) λk=>ai k.1.1 (ai (bS (aa e.1.2.1.1
 j.1.1.3.1) (bS (aa e.1.2.1.2 j.1.1.3.2) (bS (aa e.1.2.1.3 j.1.1.3.3) (bS (aa e.1.2.1.4.1 j.1.1.3.4.1) (bS (aa e.1.2.1.4.2
 j.1.1.3.4.2) W))))) (ah (F32 n (g.1.1,e.1.1,())) λl=>ai l.1.1 (ah (kn ()) λm=>Z m) (CP n)) (CP n)) (CP n)) (CP
 n))))))))
abbrev cL8(n:Nat):lJ sg:=⟨P67,K4,J,L8 n⟩
def CL8(n:Nat):bG prog 8 (cL8 n):=cQ [⟨12,cK,CK⟩,k16 n,k18 n,Ix n,k21 n,k32 n,k33 n,k34 n,k35 n,k36 n,k37 n] [] n 10 8
def aoQ(p:aA)(w:av)(k:Int):Ev (λn=>L8 n (p,w,k,())) ((W,()),()):=by
 have c:∀{d:(av×aP×Int×U)×U}{k:Int},d=((cX,ct,k,()),())->Ev (λn=>ad9 n d) ((W,()),()):=by intro d k h;subst h;unfold ad9;exact Ev.ah e16 dB
 have a:∀{d:(av×aP×Int×U)×U},d=((cX,ct,2,()),())->Ev (λn=>ad8 n d) ((W,()),()):=by intro d h;subst h;exact c rfl
 unfold L8;obtain⟨b,v,x⟩:=e19 p w;refine Ev.ah v ?_;cases b with
 |false=>exact dB|true=>
  obtain⟨i,t⟩:=x rfl;obtain⟨E,A,j,f⟩|⟨B,m,f⟩:=e21 i t
  have C:PF p w:=⟨E,A,j⟩;have o:=A.ok;have P:=j.tl;have F:=j.len;have I:=QI (p:=p) (w:=w);refine Ev.ah (e33 i t (λ_=>rfl) λh=>absurd C h) ?_;by_cases q:0<=k/\k<w.bI.length
  .refine Ev.ah (e34 i t (λ_ _ _=>rfl) λh=>h.elim (λh=>absurd C h) λh=>absurd q h) (Ev.ah f (Ev.ah (e36 o j) (Ev.ah (e35 (l:=BS p w) (by omega)) ?_)));refine Ev.v5 (λn=>(xH q.1 _ _).trans (KT (by simp only[ak];omega) _ _)) ?_;refine Ev.ah (d37 o j q.1 q.2) ?_;cases y:o9 p w k with
   |none=>exact c rfl|some r=>
    obtain⟨K,e⟩:=r;have s:=(Te o j q.1 q.2 y).1;have u:=adu o i s;cases e with|none=>refine Ev.ah (e18 o s) ?_;exact Ev.ah u dB|some e=>refine Ev.ah (e18 o s) ?_;refine Ev.v5 (g:=λn=>ah (F32 n (⟨p,E⟩,K,())) λl=>ai l.1.1 (ah (kn ()) λm=>Z m) (CP n)) (λn=>?_) (Ev.ah u dB);simp only[aen,ahm,NB,bS,IY,Dr,Nj]
  refine Ev.ah (e34 i t (λ_ z h1=>absurd ⟨z,h1⟩ q) λ_=>rfl) (Ev.ah f (Ev.ah (e36 o j) (Ev.ah (e35 (l:=BS p w) (by omega)) ?_)));by_cases z:k<0;exact Ev.v5 (λn=>Fz z _ _) (a rfl);exact Ev.v5 (λn=>(xH (show(0:Int)<=k by omega) _ _).trans (FA (show(w.bI.length:Int)<=k by omega) _ _)) (a rfl);refine Ev.ah (e33 i t (λh=>absurd h B) λ_=>rfl) (Ev.ah (e34 i t (λh=>absurd h B) λ_=>rfl) (Ev.ah f ?_));exact a rfl
end Mn
end
section
namespace Go.Proofs.YthlenkomcaiomaaGreat.runStep
open Go TL Mn
open Go.ChangeShapes Go.WideShapes Go.ChangeAt Go.RowKit
theorem params:(Tryz.f8.params.toList)=[27,33,3]:=by kernel_rfl
theorem aoa:tyL 27=some (.st 3):=by kernel_rfl
theorem aog:Tryz.prog.readableRec 27=true:=by kernel_rfl
theorem an9:tyL 33=some (.st 8):=by kernel_rfl
theorem aof:Tryz.prog.readableRec 33=true:=by kernel_rfl
theorem ty3:tyL 3=some (.int .i64):=by kernel_rfl
theorem rd3:Tryz.prog.readableRec 3=true:=by kernel_rfl
theorem sz:decide (33<Tryz.prog.types.size)=true:=by kernel_rfl
theorem aoe:Tryz.f8.resultTypes=#[4]:=by kernel_rfl
theorem lifted(os:Os)(started:os.Started)(H:Type)(enc:TypeId×Value->H) :
  ReturnsInHanded {} Tryz.checked os 8 .any (Rows.runStepSpec.pre6 enc Tryz.prog Tryz.f8 Rows.runStepRow.domain false) (Rows.runStepSpec.post enc Tryz.prog Tryz.f8 false true false false):=by
 refine returnsInHanded_of_change_sized (C:=Tryz.checked) own started (by kernel_rfl) Tryz.func8
  (ChangeSpec.witness6 (enc:=enc) (C:=Tryz.checked) false ⟨#[],#[.agg #[.slice none 0 0,.slice none 0 0,.slice none 0 0,.int .i64 0,.slice none 0 0],.agg #[.slice none 0 0,.slice none 0 0,.slice none 0 0,.slice none 0 0,.int .i64 0],.int .i64 0],[]⟩ 8 (by kernel_rfl) (by kernel_rfl) (by kernel_rfl) (by kernel_rfl)) ?_
 intro W base args ds gs before hval hW hcnd hwt _;refine VJ (S:=sg) (P:=Tryz.prog) (ty:=tyL) (τs:=[.st 3,.st 8,.int .i64]) (tb:=4) aeo ai3 laid ?_ ?_ aoe Tryz.underlying4 rfl ?_ ?_ hval hW hwt
 .rw[params];refine⟨rfl,λj a b ha hb=>?_⟩
  match j with
  |0=>cases ha;cases hb;exact aoa
  |1=>cases ha;cases hb;exact an9
  |2=>cases ha;cases hb;exact ty3
  |j+3=>simp at ha
 rw[params];have:=of_decide_eq_true sz;intro t ht;simp only[List.mem_cons,List.not_mem_nil,or_false]at ht;rcases ht with h|h|h;subst h;exact⟨aog,Nat.lt_of_le_of_lt (by decide) this⟩;subst h;exact⟨aof,Nat.lt_of_le_of_lt (by decide) this⟩;subst h;exact⟨rd3,Nat.lt_of_le_of_lt (by decide) this⟩
 .intro ds hds
  match ds,hds with
  |[d1,d2,d3],_=>exact⟨rfl,rfl,rfl⟩
 intro x;obtain⟨x1,x2,x3,u⟩:=x;obtain⟨N,h⟩:=aoQ x1 x2 x3;exact⟨L8 N,((true,()),()),CL8 N,h N (Nat.le_refl _),rfl⟩
theorem proved:Rows.RunStepSaid:=over lifted
end Go.Proofs.YthlenkomcaiomaaGreat.runStep
end
end
