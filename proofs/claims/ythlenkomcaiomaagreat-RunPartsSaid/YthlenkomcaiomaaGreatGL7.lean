/- The law RunParts of the given program holds: the translated function returns true for every code, world and lists of picks; there are no conditions. -/
import Derived.Test.YthlenkomcaiomaaGreatG07
import Derived.Test.YthlenkomcaiomaaGreatG6
set_option linter.all false
set_option maxRecDepth 100000
set_option maxHeartbeats 0
noncomputable section
open Option renaming some->Z,none->Y
open Bool renaming true->W,false->J
open Nat renaming beq->Nq,ble->Nl,blt->Nt,succ->Ns,add->Na
open TL.LO renaming next->N,ret->X,out->H
open TL.Rx renaming ok->G,iE->M
section
namespace Mn
open Go TL
def Pp(n:Nat):O Y4:=
 ah (kn ()) λd=>Z d
def Ez(n:Nat):O Y4:=
 Z ((J,()),())
def L7:Nat->ax×aj×L Int×L Int×U->O Y4:=
 λn b=>ah (F19 n (b.1,b.2.1,())) λc=>ai (ak c.1.1) (Pp n) (ai (aC 12 (av b.2.2.1)) (Pp n) (ai (aC 12 (av b.2.2.2.1))
 (Pp n) (ah (F21 n (b.1,b.2.1,())) λd=>ai (ak d.1.2.1) (Pp n) (aT (dF b.2.2.1 b.2.2.2.1) (ah (F20 n (b.1,b.2.1,di b.2.2.1
 b.2.2.2.1,())) λe=>ah (F20 n (b.1,b.2.1,b.2.2.1,())) λg=>ai (ak (aa e.1.2.2.1 0)) (ai (aa e.1.2.2.1 8) (ai (aa g.1.2.2.1
 0) (Pp n) (ai (aa g.1.2.2.1 8) (Pp n) (Ez n))) (Ez n)) (ai (ak (aa g.1.2.2.1 0)) (Ez n) (ah (F31 n (g.1.1,())) λh=>ai
 (ak h.1.1) (Ez n) (ah (F32 n (d.1.1,g.1.1,())) λi=>ai (ak i.1.1) (Ez n) (ai (aC (av b.2.2.1) (av g.1.2.1)) (Ez n) (ah
 (F20 n (b.1,g.1.1,b.2.2.2)) λj=>ah (F27 n (b.1,g.1.1,())) λk=>ai (aa j.1.2.2.1 0) (ai (aa k.1.2.2.1 0) (ai (aa k.1.2.1 0)
 (ah (F18 n (k.1.1,g.1.1,())) λl=>ai l.1.1 (ah (F18 n (e.1.1,j.1.1,())) λm=>ai m.1.1 (aT (dF g.1.2.1 j.1.2.1) (ah (F23 n (e.1.2.1,
 di g.1.2.1 j.1.2.1,())) λo=>ai o.1.1 (Pp n) (Ez n))) (Ez n)) (Ez n)) (Ez n)) (Ez n)) (Ez n)))))))))))
abbrev cL7(n:Nat):lz sg:=⟨asF,K4,J,L7 n⟩
def CL7(n:Nat):bA prog 7 (cL7 n):=cV [⟨12,cK,CK⟩,k18 n,Im n,k20 n,k21 n,k23 n,k27 n,k31 n,k32 n] [] n 10 7
section
section
variable {p:ax}{dd:List aq}{w:aj}
variable {k:Int}
def Yx(f:se p dd)(g:jD p dd w){w1:aj}(h:kM p w k=.idle w1)(c:Int):kM p w c=.idle w1:=by
 unfold kM at h ⊢;cases b:eG p w.bg.length 0 w 0 with
 |none=>rw[b]at h;cases h
 |some r=>
  obtain⟨d,s⟩:=r;rw[b]at h;simp only at h ⊢;by_cases a:hY p d=[]
  .rw[bw a]at h ⊢;exact h
  .rw[bL a]at h;obtain⟨_,_,r,e⟩:=FT (pick:=k) a;rw[e]at h;simp only at h;split at h
   .cases h
   .split at h<;>cases h
def zp{ks:L Int}:kO p (k::ks) w=match kM p w k with
  |.IC=>Y|.idle _=>Z (w,[])|.ok a e _=>match kO p ks a with
   |none=>Y|some (x,l)=>Z (x,e::l):=by
 rw[kO];rfl
def NI(f:se p dd)(c:L Int):∀(ks:L Int){w:aj},jD p dd w->y4 p w->kO p (ks++c) w=match kO p ks w with
  |none=>Y|some (x,l)=>match kO p c x with
   |none=>Y|some (y,m)=>Z (y,l++m)
 |[],w,g,j=>by show kO p c w=_;simp only[kO];cases kO p c w with|none=>rfl|some r=>rfl
 |k::ks,w,g,j=>by
  rw[List.cons_append,zp,zp];cases h:kM p w k with
  |IC=>rfl|idle i=>
   simp only;cases c with|nil=>rfl|cons n c=>rw[zp,Yx f g h n];rfl
  |ok i e s=>
   obtain⟨a,b⟩:=zd f g h;simp only;rw[NI f c ks a b];cases kO p ks i with
   |none=>rfl|some r=>
    obtain⟨x,l⟩:=r;simp only;cases d:kO p c x with|none=>simp only[d]|some r=>simp only[d];rfl
def NH(a:y4 p w)(ks:L Int):wg p w ks=kO p ks w:=by unfold wg;rw[pF a _ 0 0 (by omega)]
def an3(p:ax)(w:aj)(one two:L Int):Ev (λn=>L7 n (p,w,one,two,())) ((W,()),()):=by
 have yes:Ev (λn=>Pp n) ((W,()),()):=dz;unfold L7;obtain⟨b,o,q⟩:=e19 p w;refine Ev.ah o ?_;cases b with
 |false=>exact yes|true=>
  obtain⟨k,A⟩:=q rfl;by_cases C:12<one.length
  .exact Ev.r5 (λn=>uq (show(12:Int)<one.length by omega) _ _) yes
  refine Ev.r5 (λn=>rL (show(one.length:Int)<=12 by omega) _ _) ?_;by_cases E:12<two.length
  .exact Ev.r5 (λn=>uq (show(12:Int)<two.length by omega) _ _) yes
  refine Ev.r5 (λn=>rL (show(two.length:Int)<=12 by omega) _ _) ?_;obtain⟨D,s,g,f⟩|⟨F,m,f⟩:=e21 k A
  .refine Ev.ah f ?_;have c:=s.ok;have a:∀{x:aj}{ks:L Int},jD p D x->ks.length<=200->Ev (λn=>F20 n (p,x,ks,())) (ad5 (wg p x ks)):=λd I=>
    e20 k (d.small c) (by omega) (λ_ _ _ _=>rfl) (λh=>h.elim (λh=>absurd ⟨D,s,d⟩ h) λh=>absurd h (by omega))
   refine Ev.r5 (λn=>Bm (show one.length+two.length<=17179869184 by omega) _) ?_;have i:=a g (ks:=one++two) (by simp;omega);have j:=a g (ks:=one) (by omega);refine Ev.ah i (Ev.ah j ?_);have key:wg p w (one++two)=match wg p w one with
     |none=>Y|some (x,l)=>match kO p two x with
      |none=>Y|some (y,m)=>Z (y,l++m):=by
    unfold wg;cases wI:eG p w.bg.length 0 w 0 with|none=>rfl|some r=>exact NI c two one (ij c g wI).1 (o9 c g wI)
   rw[key];cases h1:wg p w one with
   |none=>exact yes|some r=>
    obtain⟨x,l⟩:=r;obtain⟨d,t,v⟩:=XJ c g h1;simp only;cases h2:kO p two x with
    |none=>exact yes|some r=>
     obtain⟨y,m⟩:=r;obtain⟨B,_,u⟩:=AI c two d t h2;have z:=d.small c;have e:=a d (ks:=two) (by omega);rw[NH t,h2]at e;have wI:abl p x=((x,((0:Nat):Int),0,()),()):=by unfold abl;rw[pF t _ 0 0 (by omega)]
     refine Ev.ah (ac7 z) (Ev.ah (ac6 c k d) ?_);refine Ev.r5 (λn=>rL (show(l.length:Int)<=one.length by omega) _ _) ?_;refine Ev.ah e (Ev.ah (e27 k z (λ_=>wI) λh=>absurd ⟨D,s,d⟩ h) ?_);refine Ev.ah (e18 c d) (Ev.ah (e18 c B) ?_);refine Ev.r5 (λn=>Bm (show l.length+m.length<=17179869184 by omega) _) ?_;exact Ev.ah (e23 (l:=l++m) (by simp;omega)) yes
  .exact Ev.ah f yes
end
end
end Mn
end
section
namespace Go.Proofs.YthlenkomcaiomaaGreat.runParts
open Go TL Mn
open Go.ChangeShapes Go.WideShapes Go.ChangeAt Go.RowKit
theorem params:(Tryz.f7.params.toList)=[27,33,24,24]:=by kernel_rfl
theorem ann:tyL 27=some (.st 3):=by kernel_rfl
theorem ans:Tryz.prog.readableRec 27=true:=by kernel_rfl
theorem anm:tyL 33=some (.st 8):=by kernel_rfl
theorem anr:Tryz.prog.readableRec 33=true:=by kernel_rfl
theorem aim:tyL 24=some (.sl (.int .i64)):=by kernel_rfl
theorem aiy:Tryz.prog.readableRec 24=true:=by kernel_rfl
theorem sz:decide (33<Tryz.prog.types.size)=true:=by kernel_rfl
theorem anq:Tryz.f7.resultTypes=#[4]:=by kernel_rfl
theorem lifted(os:Os)(started:os.Started)(H:Type)(enc:TypeId×Value->H) :
  ReturnsInHanded {} Tryz.checked os 7 .any (Rows.runPartsSpec.pre6 enc Tryz.prog Tryz.f7 Rows.runPartsRow.domain false) (Rows.runPartsSpec.post enc Tryz.prog Tryz.f7 false true false false):=by
 refine returnsInHanded_of_change_sized (C:=Tryz.checked) own started (by kernel_rfl) Tryz.func7
  (ChangeSpec.witness6 (enc:=enc) (C:=Tryz.checked) false ⟨#[],#[.agg #[.slice none 0 0,.slice none 0 0,.slice none 0 0,.int .i64 0,.slice none 0 0],.agg #[.slice none 0 0,.slice none 0 0,.slice none 0 0,.slice none 0 0,.int .i64 0],.slice none 0 0,.slice none 0 0],[]⟩ 8 (by kernel_rfl) (by kernel_rfl) (by kernel_rfl) (by kernel_rfl)) ?_
 intro W base args ds gs before hval hW hcnd hwt _;refine Vs (S:=sg) (P:=Tryz.prog) (ty:=tyL) (τs:=[.st 3,.st 8,.sl (.int .i64),.sl (.int .i64)]) (tb:=4) adW aiv laid ?_ ?_ anq Tryz.underlying4 rfl ?_ ?_ hval hW hwt
 .rw[params];refine⟨rfl,λj a b ha hb=>?_⟩
  match j with
  |0=>cases ha;cases hb;exact ann
  |1=>cases ha;cases hb;exact anm
  |2=>cases ha;cases hb;exact aim
  |3=>cases ha;cases hb;exact aim
  |j+4=>simp at ha
 .rw[params];have:=of_decide_eq_true sz;intro t ht;simp only[List.mem_cons,List.not_mem_nil,or_false]at ht;rcases ht with h|h|h|h
  .subst h;exact⟨ans,Nat.lt_of_le_of_lt (by decide) this⟩
  .subst h;exact⟨anr,Nat.lt_of_le_of_lt (by decide) this⟩
  .subst h;exact⟨aiy,Nat.lt_of_le_of_lt (by decide) this⟩
  .subst h;exact⟨aiy,Nat.lt_of_le_of_lt (by decide) this⟩
 .intro ds hds
  match ds,hds with
  |[d1,d2,d3,d4],_=>exact⟨rfl,rfl,rfl⟩
 .intro x;obtain⟨x1,x2,x3,x4,u⟩:=x;obtain⟨N,h⟩:=an3 x1 x2 x3 x4;exact⟨L7 N,((true,()),()),CL7 N,h N (Nat.le_refl _),rfl⟩
theorem proved:Rows.RunPartsSaid:=over lifted
end Go.Proofs.YthlenkomcaiomaaGreat.runParts
end
end
