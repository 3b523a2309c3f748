/- The statement MeanParts of hearthlaw06 holds for all programs, worlds and lists of picks: the law's function returns true at each of them, whatever the sizes are. -/
import Derived.Test.YtdddliieplcejaaGreatU08
import Derived.Test.YtdddliieplcejaaGreatU6
set_option linter.all false
set_option maxRecDepth 100000
set_option maxHeartbeats 0
noncomputable section
open Option renaming some->Z,none->Y
open Bool renaming true->W,false->J
section
namespace Mn
open Go TL
def ND(n:Nat):O fc:=
 ai (kn ()) λd=>Z d
def CD(n:Nat):O fc:=
 Z ((J,()),())
def L8:Nat->ax×aa×L Int×L Int×U->O fc:=
 λn b=>ai (F20 n (b.1,b.2.1,())) λc=>aj (D.aK c.1.1) (ND n) (ai (F22 n (b.1,b.2.1,())) λd=>aj (D.aK d.1.1) (ND n) (aj
 (D.bO 12 (ak b.2.2.1)) (ND n) (aj (D.bO 12 (ak b.2.2.2.1)) (ND n) (aD (cX b.2.2.1 b.2.2.2.1) (ai (F21 n (b.1,b.2.1,cM b.2.2.1
 b.2.2.2.1,())) λe=>ai (F21 n (b.1,b.2.1,b.2.2.1,())) λg=>aj (D.aK (D.aG e.1.2.2.1 0)) (aj (D.aG e.1.2.2.1 8) (aj (D.aG g.1.2.2.1
 0) (ND n) (aj (D.aG g.1.2.2.1 8) (ND n) (CD n))) (CD n)) (aj (D.aK (D.aG g.1.2.2.1 0)) (CD n) (ai (F35 n (g.1.1,())) λh=>aj
 (D.aK h.1.1) (CD n) (ai (F36 n (b.1,g.1.1,())) λi=>aj (D.aK i.1.1) (CD n) (aj (D.bO (ak b.2.2.1) (ak g.1.2.1)) (CD n) (ai
 (F21 n (b.1,g.1.1,b.2.2.2)) λj=>ai (F31 n (b.1,g.1.1,())) λk=>aj (D.aG j.1.2.2.1 0) (aj (D.aG k.1.2.2.1 0) (aj (D.aG k.1.2.1 0)
 (ai (F19 n (k.1.1,g.1.1,())) λl=>aj l.1.1 (ai (F19 n (e.1.1,j.1.1,())) λm=>aj m.1.1 (aD (cX g.1.2.1 j.1.2.1) (ai (F24 n (e.1.2.1,
 cM g.1.2.1 j.1.2.1,())) λo=>aj o.1.1 (ND n) (CD n))) (CD n)) (CD n)) (CD n)) (CD n)) (CD n)))))))))))
abbrev cL8(n:Nat):kC sg:=⟨ao0,K4,J,L8 n⟩
def CL8(n:Nat):bz prog 8 (cL8 n):=ct [⟨13,cK,CK⟩,k19 n,k20 n,k21 n,k22 n,k24 n,k31 n,k35 n,k36 n] [] n 10 8
section
section
variable {p:ax}{w:aa}
variable {k:Int}
def We(f:lY p)(g:fD p w){w1:aa}(h:gm p w k=.idle w1)(c:Int):gm p w c=.idle w1:=by
 unfold gm at h ⊢;cases b:dD p w.aX.length 0 w 0 with
 |none=>rw[b]at h;cases h
 |some r=>
  obtain⟨d,s⟩:=r;rw[b]at h;simp only at h ⊢;by_cases a:dW p d=[]
  .rw[bJ a]at h ⊢;exact h
  .rw[br a]at h;obtain⟨_,_,r,e⟩:=yU (pick:=k) a;rw[e]at h;simp only at h;split at h
   .cases h
   .split at h<;>cases h
def xB{a:L Int}:iz p (k::a) w=match gm p w k with
  | .we=>Y
  | .idle _=>Z (w,[])
  | .ok b e _=>match iz p a b with
   |none=>Y
   |some (x,l)=>Z (x,e::l):=by
 rw[iz];rfl
def LS(g:lY p)(c:L Int):∀(d:L Int){w:aa},fD p w->uT p w->iz p (d++c) w=match iz p d w with
  |none=>Y
  |some (x,l)=>match iz p c x with
   |none=>Y
   |some (y,m)=>Z (y,l++m)
 |[],w,h,n=>by show iz p c w=_;simp only[iz];cases iz p c w with|none=>rfl|some r=>rfl
 |k::d,w,h,n=>by
  rw[List.cons_append,xB,xB];cases i:gm p w k with
  |we=>rfl
  |idle j=>
   simp only;cases c with|nil=>rfl|cons o c=>rw[xB,We g h i o];rfl
  |ok j e s=>
   obtain⟨a,b⟩:=rM g h i;simp only;rw[LS g c d a b];cases iz p d j with
   |none=>rfl
   |some r=>
    obtain⟨x,l⟩:=r;simp only;cases f:iz p c x with|none=>simp only[f]|some r=>simp only[f];rfl
def LR(b:uT p w)(a:L Int):mT p w a=iz p a w:=by unfold mT;rw[nM b _ 0 0 (by omega)]
def aar(h:jH w):Ev (λn=>F35 n (w,())) ((W,()),()):=by obtain⟨b,h1,h2⟩:=e35 w;rw[h2.2 h]at h1;exact h1
def aaq(a:lY p)(hs:Small p)(h:fD p w):Ev (λn=>F36 n (p,w,())) ((W,()),()):=by obtain⟨b,h1,h2⟩:=e36 a hs (h.small a);rw[h2.2 h]at h1;exact h1
def akt(p:ax)(w:aa)(one a:L Int):Ev (λn=>L8 n (p,w,one,a,())) ((W,()),()):=by
 have yes:Ev (λn=>ND n) ((W,()),()):=Ev.of_eq λn=>rfl;unfold L8;obtain⟨b,o,q⟩:=e20 p w;refine Ev.ai o ?_;cases b with
 |false=>exact yes
 |true=>
  obtain⟨e,s⟩:=q rfl;obtain⟨b,t,u⟩:=e22 e s;refine Ev.ai t ?_;cases b with
  |false=>exact yes
  |true=>
   obtain⟨g,i⟩:=u.1 rfl;have c:=g.ok;by_cases E:12<one.length
   .exact Ev.congr (λn=>jZ (show(12:Int)<one.length by omega) _ _) yes
   refine Ev.congr (λn=>jk (show(one.length:Int)<=12 by omega) _ _) ?_;by_cases F:12<a.length
   .exact Ev.congr (λn=>jZ (show(12:Int)<a.length by omega) _ _) yes
   refine Ev.congr (λn=>jk (show(a.length:Int)<=12 by omega) _ _) ?_;refine Ev.congr (λn=>CZ (show one.length+a.length<=17179869184 by omega) _) ?_;have j:=uC e s g i (cx:=one++a) (by simp;omega);have k:=uC e s g i (cx:=one) (by omega);refine Ev.ai j (Ev.ai k ?_);have key:mT p w (one++a)=match mT p w one with
     |none=>Y
     |some (x,l)=>match iz p a x with
      |none=>Y
      |some (y,m)=>Z (y,l++m):=by
    unfold mT;cases qq:dD p w.aX.length 0 w 0 with|none=>rfl|some r=>exact LS c a one (eK c i qq).1 (lz c i qq)
   rw[key];cases h1:mT p w one with
   |none=>exact yes
   |some r=>
    obtain⟨x,l⟩:=r;obtain⟨f,v,B⟩:=DW c i h1;simp only;cases h2:iz p a x with
    |none=>exact yes
    |some r=>
     obtain⟨y,m⟩:=r;obtain⟨C,_,z⟩:=yT c a f v h2;have A:=f.small c;have d:=uC e A g f (cx:=a) (by omega);rw[LR v,h2]at d;have qq:Lg p x=((x,((0:Nat):Int),0,()),()):=by unfold Lg;rw[nM v _ 0 0 (by omega)]
     refine Ev.ai (aar A) (Ev.ai (aaq c e f) ?_);refine Ev.congr (λn=>jk (show(l.length:Int)<=one.length by omega) _ _) ?_;refine Ev.ai d (Ev.ai (e31 e A (λ_=>qq) λh=>absurd ⟨g,f⟩ h) ?_);refine Ev.ai (e19 c f) (Ev.ai (e19 c C) ?_);refine Ev.congr (λn=>CZ (show l.length+m.length<=17179869184 by omega) _) ?_;exact Ev.ai (e24 (l:=l++m) (by simp;omega)) yes
end
end
end Mn
end
section
namespace Go.Proofs.YtdddliieplcejaaGreat.meanParts
open Go TL Mn
open Go.ChangeShapes Go.WideShapes Go.ChangeAt Go.RowKit
theorem params:(Tryz.f8.params.toList)=[26,32,23,23]:=by kernel_rfl
theorem IY:CH 26=some (.st 3):=by kernel_rfl
theorem Jk:Tryz.prog.readableRec 26=true:=by kernel_rfl
theorem IX:CH 32=some (.st 8):=by kernel_rfl
theorem Jj:Tryz.prog.readableRec 32=true:=by kernel_rfl
theorem Sj:CH 23=some (.sl (.int .i64)):=by kernel_rfl
theorem SF:Tryz.prog.readableRec 23=true:=by kernel_rfl
theorem sz:decide (32<Tryz.prog.types.size)=true:=by kernel_rfl
theorem Jf:Tryz.f8.resultTypes=#[4]:=by kernel_rfl
theorem lifted(os:Os)(started:os.Started)(H:Type)(enc:TypeId×Value->H) :
  ReturnsInHanded {} Tryz.checked os 8 .any (Rows.meanPartsSpec.pre6 enc Tryz.prog Tryz.f8 Rows.meanPartsRow.domain false) (Rows.meanPartsSpec.post enc Tryz.prog Tryz.f8 false true false false):=by
 refine returnsInHanded_of_change_sized (C:=Tryz.checked) own started (by kernel_rfl) Tryz.func8
  (ChangeSpec.witness6 (enc:=enc) (C:=Tryz.checked) false ⟨#[],#[.agg #[.slice none 0 0,.slice none 0 0,.int .i64 0,.slice none 0 0],.agg #[.slice none 0 0,.slice none 0 0,.slice none 0 0,.slice none 0 0,.int .i64 0],.slice none 0 0,.slice none 0 0],[]⟩ 8 (by kernel_rfl) (by kernel_rfl) (by kernel_rfl) (by kernel_rfl)) ?_
 intro W base args ds gs before hval hW Z9 ZQ _;refine ri (S:=sg) (P:=Tryz.prog) (ty:=CH) (τs:=[.st 3,.st 8,.sl (.int .i64),.sl (.int .i64)]) (tb:=4) Hr Lr laid ?_ ?_ Jf Tryz.underlying4 rfl ?_ ?_ hval hW ZQ
 .rw[params];refine⟨rfl,λj a b ha hb=>?_⟩
  match j with
  |0=>cases ha;cases hb;exact IY
  |1=>cases ha;cases hb;exact IX
  |2=>cases ha;cases hb;exact Sj
  |3=>cases ha;cases hb;exact Sj
  |j+4=>simp at ha
 .rw[params];have:=of_decide_eq_true sz;intro t ht;simp only[List.mem_cons,List.not_mem_nil,or_false]at ht;rcases ht with h|h|h|h
  .subst h;exact⟨Jk,Nat.lt_of_le_of_lt (by decide) this⟩
  .subst h;exact⟨Jj,Nat.lt_of_le_of_lt (by decide) this⟩
  .subst h;exact⟨SF,Nat.lt_of_le_of_lt (by decide) this⟩
  .subst h;exact⟨SF,Nat.lt_of_le_of_lt (by decide) this⟩
 .intro ds hds
  match ds,hds with
  |[d1,d2,d3,d4],_=>exact⟨rfl,rfl,rfl⟩
 .intro x;obtain⟨x1,x2,x3,x4,u⟩:=x;obtain⟨N,h⟩:=akt x1 x2 x3 x4;exact⟨L8 N,((true,()),()),CL8 N,h N (Nat.le_refl _),rfl⟩
theorem proved:Rows.MeanPartsSaid:=over lifted
end Go.Proofs.YtdddliieplcejaaGreat.meanParts
end
end
