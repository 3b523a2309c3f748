/- Proved: for every program, every world and all picks the law MeanPlays of hearthlaw06 returns true, never panics, and leaves its arguments as they were. Conditions: none beyond those of the given statement MeanPlaysSaid. -/
import Derived.KernelRfl
import Derived.Test.YtdddliieplcejaaGreatRows
import Derived.WalkKit
import Derived.ProofKit
import Derived.OpenShut
import Derived.Test.YtdddliieplcejaaGreatP0
import Derived.Test.YtdddliieplcejaaGreatP5
set_option linter.all false
set_option maxRecDepth 100000
set_option maxHeartbeats 0
noncomputable section
open Option renaming some->Z,none->Y
open Bool renaming true->W,false->J
section
namespace Mn
open Go TL
section
section
def X6(n:Nat)(o:List Int)(ks:List Int):Prop:=o.length=n∧∀i:Nat,i<n->o.getD i 0=(ks.count (i:Int):Nat)
def GA(n:Nat)(u:List Bool)(ks:List Int):Prop:=u.length=n∧∀i:Nat,i<n->(u.getD i J=W↔(i:Int)∈ks)
variable {n N:Nat}{ks:List Int}{k lo:Int}
def X6.step{o:List Int}(h:X6 n o ks)(j:0<=k)(h1:k<n):X6 n (o.set k.toNat (o.getD k.toNat 0+1)) (ks++[k]):=by
 obtain⟨a,b⟩:=h;refine⟨by rw[zT];exact a,λi hi=>?_⟩;rw[List.count_append,List.count_singleton];have g:=b k.toNat (by omega);by_cases d:i=k.toNat
 .have e:(k==(i:Int))=W:=by simp;omega
  rw[e,bJ rfl];rw[j6,d,KR (by omega)];simp only[zU];rw[g,<-d];simp
 .have e:(k==(i:Int))=J:=by simp;omega
  rw[e];simp only[Bool.false_eq_true,eP,Bg];rw[j6,KQ (by omega),<-j6];exact b i hi
def GA.step{u:List Bool}(h:GA n u ks)(e:0<=k)(h1:k<n):GA n (u.set k.toNat W) (ks++[k]):=by
 obtain⟨a,b⟩:=h;refine⟨by rw[zT];exact a,λi hi=>?_⟩;rw[dY,kX];by_cases d:i=k.toNat
 .rw[j6,d,KR (by omega)];simp only[zU,true_iff];exact .inr (by omega)
 .rw[j6,KQ (by omega),<-j6,b i hi];exact⟨.inl,λh=>h.elim id λh=>absurd h (by omega)⟩
abbrev Lx(N:Nat)(l:List Int)(lo:Int)(n:Nat)(c:List Int×Int×Unit):Option (LO (List Int×Int×Unit) (Bool×Unit) Unit Any):=
 aj (D.bN c.2.1 (ak l)) (aC (av c.2.1 l) (ai (F146 n (aR l (ah c.2.1) 0,lo,(N:Int)-1,())) λq=>aj (D.aO q.1.1) (Z (LO.ret () (J,()))) (aC (av (aR l (ah c.2.1) 0) c.1) (aC (ct (ah (aR l (ah c.2.1) 0)) c.1) (aC (av (aR l (ah c.2.1) 0) c.1) (aC (ct (ah (aR l (ah c.2.1) 0)) c.1)
  (Z (LO.next (dO c.1 (ah (aR l (ah c.2.1) 0)) (D.add .i64 (aR c.1 (ah (aR l (ah c.2.1) 0)) 0) 1),D.add .i64 c.2.1 1,()))))))))) (Z (LO.out 0 c))
def DG{N:Nat}{lo:Int}(hlo:0<=lo):∀(l pre:List Int)(o ks:List Int),X6 N o ks->ks.length+l.length<=100000->pre.length+l.length<=100000->
  ((∀k∈l,lo<=k∧k<N)∧∃e,X6 N e (ks++l)∧eL (λn c=>Lx N (pre++l) lo n c) (o,(pre.length:Int),()) (.out 0 (e,((pre++l).length:Int),())))∨
  (¬(∀k∈l,lo<=k∧k<N)∧eL (λn c=>Lx N (pre++l) lo n c) (o,(pre.length:Int),()) (.ret () (J,())))
 |[],pre,o,ks,d,h1,h2=>by refine .inl ⟨by simp,o,by rw[iT];exact d,.out (Ev.of_eq λn=>?_)⟩;simp(disch:=omega)only[aQ,Lx,iT]
 |k::l,pre,o,ks,d,h1,h2=>by
  simp only[fc]at h1 h2;have i:(pre++k::l).getD pre.length 0=k:=eV ..;have m:=d.1;by_cases g:lo<=k∧k<N
  .have q:=d.2 k.toNat (by omega);have p:=List.count_le_length (a:=((k.toNat:Nat):Int)) (l:=ks);have j:Ev (λn=>Lx N (pre++k::l) lo n (o,(pre.length:Int),())) (.next (o.set k.toNat (o.getD k.toNat 0+1),((pre++[k]).length:Int),())):=by refine Ev.of_eq λn=>?_;simp(disch:=first|omega|simp only[kS];omega)only[aQ,Lx,i,vR,fI (show lo<=k∧k<=(N:Int)-1 by omega),bF,dW,eg,jl]
   rcases DG hlo l (pre++[k]) _ (ks++[k]) (d.step (by omega) g.2) (by simp;omega) (by simp;omega)with⟨a,e,b,c⟩|⟨a,c⟩
   .refine .inl ⟨λx hx=>?_,e,by simpa only[p8,yq]using b,.next j (by simpa only[p8,yq]using c)⟩;rcases eR.1 hx with hx|hx
    .rw[hx];exact g
    .exact a x hx
   .exact .inr ⟨λh=>a λx hx=>h x (gJ _ hx),.next j (by simpa only[p8,yq]using c)⟩
  .refine .inr ⟨λh=>g (h k ez),.ret (Ev.of_eq λn=>?_)⟩;simp(disch:=first|omega|simp only[kS];omega)only[aQ,Lx,i,vR,gj (show ¬(lo<=k∧k<=(N:Int)-1)by omega)]
abbrev qV(N:Nat)(l:List Int)(lo:Int)(n:Nat)(c:List Bool×Int×Unit):Option (LO (List Bool×Int×Unit) (Bool×Unit) Unit Any):=
 aj (D.bN c.2.1 (ak l)) (aC (av c.2.1 l) (ai (F52 n (aR l (ah c.2.1) 0,lo,(N:Int)-1,())) λh=>aj (D.aO h.1.1) (Z (LO.ret () (J,()))) (aC (av (aR l (ah c.2.1) 0) c.1) (aC (ct (ah (aR l (ah c.2.1) 0)) c.1) (aj (aR c.1 (ah (aR l (ah c.2.1) 0)) J) (Z (LO.ret () (J,())))
  (aC (av (aR l (ah c.2.1) 0) c.1) (aC (ct (ah (aR l (ah c.2.1) 0)) c.1) (Z (LO.next (dO c.1 (ah (aR l (ah c.2.1) 0)) W,D.add .i64 c.2.1 1,())))))))))) (Z (LO.out 0 c))
def Ai{N:Nat}{lo:Int}(hlo:0<=lo):∀(l pre:List Int)(u:List Bool)(ks:List Int),GA N u ks->ks.Nodup->pre.length+l.length<=100000->
  (((∀k∈l,lo<=k∧k<N)∧(ks++l).Nodup)∧∃r,GA N r (ks++l)∧eL (λn c=>qV N (pre++l) lo n c) (u,(pre.length:Int),()) (.out 0 (r,((pre++l).length:Int),())))∨
  (¬((∀k∈l,lo<=k∧k<N)∧(ks++l).Nodup)∧eL (λn c=>qV N (pre++l) lo n c) (u,(pre.length:Int),()) (.ret () (J,())))
 |[],pre,u,ks,d,g,h2=>by refine .inl ⟨⟨by simp,by rw[iT];exact g⟩,u,by rw[iT];exact d,.out (Ev.of_eq λn=>?_)⟩;simp(disch:=omega)only[aQ,qV,iT]
 |k::l,pre,u,ks,d,g,h2=>by
  simp only[fc]at h2;have i:(pre++k::l).getD pre.length 0=k:=eV ..;have v:=d.1;by_cases j:lo<=k∧k<N
  .have m:=d.2 k.toNat (by omega);rw[show((k.toNat:Nat):Int)=k by omega]at m;cases hf:u.getD k.toNat J with
   |true=>
    refine .inr ⟨λh=>?_,.ret (Ev.of_eq λn=>?_)⟩
    .have:=(GZ.1 h.2).2.2 k (m.1 hf) k ez;exact this rfl
    .simp (disch:=first|omega|simp only[kS];omega)only[aQ,qV,i,Gn,fI (show lo<=k∧k<=(N:Int)-1 by omega),hf]
   |false=>
    have p:k∉ks:=λh=>by rw[m.2 h]at hf;cases hf
    have q:(ks++[k]).Nodup:=GZ.2 ⟨g,UC _ _,λa w b y=>by
     rw[kX.1 y];exact λh=>p (h▸w)⟩
    have s:Ev (λn=>qV N (pre++k::l) lo n (u,(pre.length:Int),())) (.next (u.set k.toNat W,((pre++[k]).length:Int),())):=by refine Ev.of_eq λn=>?_;simp(disch:=first|omega|simp only[kS];omega)only[aQ,qV,i,Gn,fI (show lo<=k∧k<=(N:Int)-1 by omega),hf,bF,dW,eg,jl]
    have e:ks++[k]++l=ks++k::l:=by simp
    rcases Ai hlo l (pre++[k]) _ (ks++[k]) (d.step (by omega) j.2) q (by simp;omega)with⟨⟨a,t⟩,z,b,c⟩|⟨a,c⟩
    .rw[e]at t b;refine .inl ⟨⟨λx hx=>?_,t⟩,z,b,.next s (by simpa only[p8,yq]using c)⟩;rcases eR.1 hx with hx|hx
     .rw[hx];exact j
     .exact a x hx
    .rw[e]at a;exact .inr ⟨λh=>a ⟨λx hx=>h.1 x (gJ _ hx),h.2⟩,.next s (by simpa only[p8,yq]using c)⟩
  .refine .inr ⟨λh=>j (h.1 k ez),.ret (Ev.of_eq λn=>?_)⟩;simp(disch:=first|omega|simp only[kS];omega)only[aQ,qV,i,Gn,gj (show ¬(lo<=k∧k<=(N:Int)-1)by omega)]
def X6.zero(N:Nat):X6 N (IM N 0) []:=⟨by simp[IM],λi hi=>by simp[IM,j6,List.getElem?_replicate,hi]⟩
def GA.zero(N:Nat):GA N (IM N J) []:=⟨by simp[IM],λi hi=>by simp[IM,j6,List.getElem?_replicate,hi]⟩
def nh(N:Nat):Nat->List bp->Prop
 |_,[]=>True
 |i,nd::l=>(∀k∈nd.Kids,(i:Int)+1<=k∧k<N)∧nh N (i+1) l
end
end
section
section
variable {p:aA}
def LQ{k:List UInt8}:∀m:List (List UInt8×Bool),((m7 (A:=sg.A) Ty.str k W m).map Prod.fst)=if k∈m.map Prod.fst then m.map Prod.fst else m.map Prod.fst++[k]
 |[]=>by simp[m7]
 |q::m=>by
  have d:HA (A:=sg.A) Ty.str k q.1=decide (k=q.1):=by show fZ k q.1=_;by_cases h:k=q.1<;>simp[fZ,h]
  unfold m7;rw[d];by_cases h:k=q.1
  .rw[fI h];simp[h]
  .rw[gj h];simp only[dP,lI];rw[LQ m];by_cases b:k∈m.map Prod.fst
   .rw[bJ b,bJ (gJ _ b)]
   .rw[br b,br (by simp only[eR,not_or];exact⟨h,b⟩)];rfl
structure JQ(l:List (List UInt8))(i:Nat)(m:List (List UInt8×Bool)):Prop where
 mem:∀x,x∈m.map Prod.fst↔x∈l.take i
 le:m.length<=i
 eq:m.length=i↔(l.take i).Nodup
variable {l:List (List UInt8)}
def JQ.step{i:Nat}{m:List (List UInt8×Bool)}(h:JQ l i m)(hi:i<l.length):JQ l (i+1) (m7 (A:=sg.A) Ty.str (l.getD i []) W m):=by
 have j:=LQ (k:=l.getD i []) m;have d:(m7 (A:=sg.A) Ty.str (l.getD i []) W m).length=if l.getD i []∈m.map Prod.fst then m.length else m.length+1:=by have:=mJ List.length j;rw[Dn]at this;rw[this];split<;>simp
 have p:=xd ([]:List UInt8) hi;refine⟨λx=>?_,?_,?_⟩
 .rw[j,<-take_succ [] hi,dY,kX];split
  .rename_i e;rw[h.mem];exact⟨.inl,λb=>b.elim id λb=>by rw[b];exact(h.mem _).1 e⟩
  .rw[dY,kX,h.mem]
 .rw[d];have:=h.le;split<;>omega
 .rw[d,p];have:=h.le;by_cases e:l.getD i []∈m.map Prod.fst
  .rw[bJ e];exact⟨λb=>by omega,λb=>absurd ((h.mem _).1 e) b.2⟩
  .rw[br e];have g:l.getD i []∉l.take i:=λb=>e ((h.mem _).2 b);rw[<-h.eq];exact⟨λb=>⟨by omega,g⟩,λb=>by omega⟩
def am7(hl:l.length<=1000):∃b,Ev (λn=>F149 n (l,())) ((b,()),())∧(b=W↔l.Nodup):=by
 unfold F149
 let M:Nat->List (List UInt8×Bool):=λi=>Nat.rec [] (λi m=>m7 (A:=sg.A) Ty.str (l.getD i []) W m) i
 have d:∀i,i<=l.length->JQ l i (M i):=by
  intro i
  induction i with|zero=>intro _;rw[show M 0=[]from rfl];exact⟨by simp,by simp,by simp⟩|succ i e=>intro hi;exact(e (by omega)).step (by omega)
 have g:=j9 (F:=λn c=>aj (D.bN c.1 (ak l)) (aC (av c.1 l) (Z (LO.next (D.add .i64 c.1 1,m7 (A:=sg.A) Ty.str (aR l (ah c.1) []) W c.2.1,())))) (Z (LO.out (R:=Bool×Unit) (B:=List (List UInt8×Bool)×Unit) (P:=Any) 0 c))) l.length (λi=>((i:Int),M i,())) 0 (λi hi=>Ev.of_eq λn=>by simp(disch:=omega)only[aQ,bF,dW,eg]<;>rfl) (Ev.of_eq λn=>by simp(disch:=omega)only[aQ]<;>rfl);have j:=d l.length (bP _);refine⟨decide ((M l.length).length=l.length),Ev.aP g (λn c=>_) _ (Ev.of_eq λn=>?_),?_⟩
 .rw[ec];simp only[mz,ak]
  congr 3
  exact decide_eq_decide.2 (by omega)
 .rw[decide_eq_true_iff,j.eq,BT]
def e53{l:List cw}(hl:l.length<=1000)(hs:∀c∈l,c.Name.length<=1000):∃b,Ev (λn=>F53 n (l,())) ((b,()),())∧(b=W↔(∀c∈l,EU c=W)∧l.length<=20∧(l.map cw.Name).Nodup):=by
 unfold F53;have s:∀(i:Nat)(y:List (List UInt8)×Int×Unit),(LO.ret () (J,()):LO (List (List UInt8)×Int×Unit) (Bool×Unit) Unit Any)≠.next y:=λ_ _ h=>by cases h
 rcases n5 (F:=λn c=>aj (D.bN c.2.1 (ak l)) (aC (av c.2.1 l) (ai (F93 n ((aR l (ah c.2.1) bx).1,())) λd=>aj (D.aO d.1.1) (Z (LO.ret () (J,()))) (aC (av c.2.1 l) (ai (F52 n ((aR l (ah c.2.1) bx).2,0,3,())) λe=>aj (D.aO e.1.1) (Z (LO.ret () (J,()))) (aC (av c.2.1 l) (aC (cZ c.1 [(aR l (ah c.2.1) bx).1]) (Z (LO.next (cP c.1 [(aR l (ah c.2.1) bx).1],D.add .i64 c.2.1 1,()))))))))) (Z (LO.out 0 c)))
  l.length (λi=>((l.take i).map cw.Name,(i:Int),())) (λi=>EU (l.getD i bx)) (λ_=>(LO.ret () (J,()):LO (List (List UInt8)×Int×Unit) (Bool×Unit) Unit Any)) 0 s (λi hi _=>by
   simp(disch:=omega)only[aQ];refine Ev.ai (e93 (hs _ (bX bx hi))) ?_;unfold EU;cases xo (l.getD i bx).Name with
   |false=>exact Ev.of_eq λn=>by simp only[aQ,fG]
   |true=>
    refine Ev.of_eq λn=>?_;have g:cZ (List.map cw.Name (List.take i l)) [(l.getD i bx).Name]=W:=Eu.2 (by simp;omega);cases q:decide (0<=(l.getD i bx).o6∧(l.getD i bx).o6<=3)with
    |false=>simp only[aQ,Gn,q,dM]
    |true=>
     simp(disch:=omega)only[aQ,Gn,q,dM,g,bF,dW,eg];rw[<-take_succ bx hi,La];rfl) (λ_=>Ev.of_eq λn=>by simp(disch:=omega)only[aQ]<;>rfl)with⟨a,r⟩|⟨i,hi,a,_,r⟩
 .rw[BT]at r;obtain⟨b,m,p⟩:=e94 (l:=l.map cw.Name) (by rw[Dn];exact hl);have j:∀c∈l,EU c=W:=gU (d:=bx) a;by_cases k:l.length<=20
  .refine ⟨b,Ev.aP r (λn c=>_) _ ?_,by rw[p];exact⟨λh=>⟨j,k,h⟩,λh=>h.2.2⟩⟩;refine Ev.congr (λn=>ec ..) ?_;simp(disch:=omega)only[aQ];exact Ev.ai m (Ev.pure _)
  .refine ⟨J,Ev.aP r (λn c=>_) _ (Ev.of_eq λn=>?_),(λh=>by cases h),λh=>absurd h.2.1 k⟩;rw[ec];simp(disch:=omega)only[aQ]
 .refine ⟨J,Ev.aP r (λn c=>_) _ (Ev.of_eq λn=>rfl),(λh=>by cases h),λh=>?_⟩;rw[h.1 _ (bX bx hi)]at a;cases a
structure FP(p:aA):Prop where
 nodes:p.aV.length<=300
 xu:1<=p.dx.length∧p.dx.length<=p.aV.length
 main:0<=p.Main∧p.Main<p.dx.length
 QI:p.Cons.length<=20
 cons:∀c∈p.Cons,EU c=W
 names:(p.Cons.map cw.Name).Nodup
 vN:∀nd∈p.aV,lf p nd=W
 fr:∀k∈p.dx,0<=k∧k<p.aV.length
 kr:nh p.aV.length 0 p.aV
 vT:(p.dx++p.aV.flatMap bp.Kids).Nodup
 all:∀i:Nat,i<p.aV.length->(i:Int)∈p.dx++p.aV.flatMap bp.Kids
abbrev Od(p:aA)(n:Nat)(s:List Int×Int×Unit):Option (LO (List Int×Int×Unit) (Bool×Unit) Unit Any):=
 aj (D.bN s.2.1 (ak p.aV)) (aC (av s.2.1 p.aV) (ai (iter (Lx p.aV.length (aR p.aV (ah s.2.1) aN).3 (D.add .i64 s.2.1 1) n) n (s.1,0,())) λt=>LO.el t (λ_ v=>Z (LO.next (v.1,D.add .i64 s.2.1 1,()))) (λ_ v=>Z (LO.ret () v)) λ_ _=>Y)) (Z (LO.out 0 s))
def Vl{l:List bp}(h:∀nd∈l,nd.Kids.length<=10):(l.flatMap bp.Kids).length<=10*l.length:=by
 induction l with|nil=>simp|cons a l b=>have:=h a ez;have:=b λx d=>h x (gJ _ d);simp only[Qc,iq,fc];omega
def LM(hs:Small p):∀(vN pre:List bp)(o g:List Int),p.aV=pre++vN->X6 p.aV.length o g->g.length+10*vN.length<=100000->
  (nh p.aV.length pre.length vN∧∃k,X6 p.aV.length k (g++vN.flatMap bp.Kids)∧eL (λn c=>Od p n c) (o,(pre.length:Int),()) (.out 0 (k,(p.aV.length:Int),())))∨
  (¬nh p.aV.length pre.length vN∧eL (λn c=>Od p n c) (o,(pre.length:Int),()) (.ret () (J,())))
 |[],pre,o,g,i,j,l=>by
  have:p.aV.length=pre.length:=by rw[i];simp
  refine .inl ⟨trivial,o,by simpa using j,?_⟩;rw[this];refine .out (Ev.of_eq λn=>?_);simp(disch:=omega)only[aQ,Od,this]
 |nd::vN,pre,o,g,i,j,l=>by
  have s:=hs.nodes;have v:p.aV.length=pre.length+(vN.length+1):=by rw[i];simp
  have m:p.aV.getD pre.length aN=nd:=by rw[i];exact eV ..
  have t:=(hs.vN nd (by rw[i];simp)).1;simp only[fc]at l;unfold nh;rcases DG (N:=p.aV.length) (lo:=(pre.length:Int)+1) (by omega) nd.Kids [] o g j (by omega) (by simp;omega)with⟨a,q,b,c⟩|⟨a,c⟩
  .have r:Ev (λn=>Od p n (o,(pre.length:Int),())) (.next (q,((pre++[nd]).length:Int),())):=by simp(disch:=omega)only[aQ,Od,m,bF];refine Ev.aP c (λn c=>_) _ (Ev.of_eq λn=>?_);rw[ec];simp only[aQ,dW,eg,jl]
   rcases LM hs vN (pre++[nd]) q (g++nd.Kids) (by rw[i];simp) b (by simp;omega)with⟨d,u,e,f⟩|⟨d,f⟩
   .rw[show(pre++[nd]).length=pre.length+1 by simp]at d;exact .inl ⟨⟨a,d⟩,u,by simpa only[Qc,p8]using e,.next r f⟩
   .rw[show(pre++[nd]).length=pre.length+1 by simp]at d;exact .inr ⟨λh=>d h.2,.next r f⟩
  .refine .inr ⟨λh=>a h.1,.ret ?_⟩;simp(disch:=omega)only[aQ,Od,m,bF];exact Ev.aP c (λn c=>_) _ (Ev.of_eq λn=>rfl)
abbrev LN(p:aA)(n:Nat)(j:List Bool×Int×Unit):Option (LO (List Bool×Int×Unit) (Bool×Unit) Unit Any):=
 aj (D.bN j.2.1 (ak p.aV)) (aC (av j.2.1 p.aV) (ai (F54 n (p,aR p.aV (ah j.2.1) aN,())) λk=>aj (D.aO k.1.1) (Z (LO.ret () (J,()))) (ai (iter (qV p.aV.length (aR p.aV (ah j.2.1) aN).3 (D.add .i64 j.2.1 1) n) n (j.1,0,())) λl=>LO.el l (λ_ o=>Z (LO.next (o.1,D.add .i64 j.2.1 1,()))) (λ_ o=>Z (LO.ret () o)) λ_ _=>Y))) (Z (LO.out 0 j))
def Hz(hs:Small p):∀(vN pre:List bp)(u:List Bool)(g:List Int),p.aV=pre++vN->GA p.aV.length u g->g.Nodup->
  (((∀nd∈vN,lf p nd=W)∧nh p.aV.length pre.length vN∧(g++vN.flatMap bp.Kids).Nodup)∧∃v,GA p.aV.length v (g++vN.flatMap bp.Kids)∧eL (λn c=>LN p n c) (u,(pre.length:Int),()) (.out 0 (v,(p.aV.length:Int),())))∨
  (¬((∀nd∈vN,lf p nd=W)∧nh p.aV.length pre.length vN∧(g++vN.flatMap bp.Kids).Nodup)∧eL (λn c=>LN p n c) (u,(pre.length:Int),()) (.ret () (J,())))
 |[],pre,u,g,k,q,r=>by
  have:p.aV.length=pre.length:=by rw[k];simp
  refine .inl ⟨⟨by simp,trivial,by simpa using r⟩,u,by simpa using q,?_⟩;rw[this];refine .out (Ev.of_eq λn=>?_);simp(disch:=omega)only[aQ,LN,this]
 |nd::vN,pre,u,g,k,q,r=>by
  have y:=hs.nodes;have I:p.aV.length=pre.length+(vN.length+1):=by rw[k];simp
  have z:p.aV.getD pre.length aN=nd:=by rw[k];exact eV ..
  obtain⟨B,s,t⟩:=hs.vN nd (by rw[k];simp);have C:=e54 hs t s;unfold nh;have i:∀{o:LO (List Bool×Int×Unit) (Bool×Unit) Unit Any},Ev (λn=>aj (D.aO (lf p nd)) (Z (LO.ret () (J,()))) (ai (iter (qV p.aV.length nd.Kids ((pre.length:Int)+1) n) n (u,0,())) λl=>LO.el l (λ_ o=>Z (LO.next (o.1,(pre.length:Int)+1,()))) (λ_ o=>Z (LO.ret () o)) λ_ _=>Y)) o->Ev (λn=>LN p n (u,(pre.length:Int),())) o:=by intro o h;simp(disch:=omega)only[aQ,LN,z,bF];refine Ev.ai C ?_;rw[show(λn=>aj (D.aO (lf p nd)) (Z (LO.ret () (J,()))) (ai (iter (qV p.aV.length nd.Kids ((pre.length:Int)+1) n) n (u,0,())) λl=>LO.el l (λ_ o=>Z (LO.next (o.1,(pre.length:Int)+1,()))) (λ_ o=>Z (LO.ret () o)) λ_ _=>Y))=_ from rfl]at h;simpa only[aQ]using h
  cases j:lf p nd with
  |false=>
   refine .inr ⟨λh=>?_,.ret (i ?_)⟩
   .have:=h.1 nd ez;rw[j]at this;cases this
   .rw[j];exact Ev.of_eq λn=>rfl
  |true=>
   rw[j]at i;rcases Ai (N:=p.aV.length) (lo:=(pre.length:Int)+1) (by omega) nd.Kids [] u g q r (by simp;omega)with⟨⟨a,G⟩,w,b,c⟩|⟨a,c⟩
   .have hx:Ev (λn=>LN p n (u,(pre.length:Int),())) (.next (w,((pre++[nd]).length:Int),())):=by refine i ?_;simp only[aQ];refine Ev.aP c (λn c=>_) _ (Ev.of_eq λn=>?_);rw[ec];simp only[aQ,dW,eg,jl]
    have m:g++nd.Kids++vN.flatMap bp.Kids=g++(nd::vN).flatMap bp.Kids:=by simp
    rcases Hz hs vN (pre++[nd]) w (g++nd.Kids) (by rw[k];simp) b G with⟨⟨d1,d2,d3⟩,H,e,f⟩|⟨d,f⟩
    .rw[show(pre++[nd]).length=pre.length+1 by simp]at d2;rw[m]at d3 e;refine .inl ⟨⟨λx hx=>?_,⟨a,d2⟩,d3⟩,H,e,.next hx f⟩;rcases eR.1 hx with hx|hx
     .rw[hx];exact j
     .exact d1 x hx
    .rw[show(pre++[nd]).length=pre.length+1 by simp,m]at d;exact .inr ⟨λh=>d ⟨λx hx=>h.1 x (gJ _ hx),h.2.1.2,h.2.2⟩,.next hx f⟩
   .refine .inr ⟨λh=>a ⟨h.2.1.1,?_⟩,.ret (i ?_)⟩
    .have:=h.2.2;rw[Qc,<-p8]at this;exact(GZ.1 this).1
    .simp only[aQ];exact Ev.aP c (λn c=>_) _ (Ev.of_eq λn=>rfl)
end
end
section
section
variable {p:aA}
def tg{Q:Prop}{F:Nat->Option ((Bool×Unit)×Unit)}(hn:¬Q)(h:Ev F ((J,()),())):∃b,Ev F ((b,()),())∧(b=W↔Q):=⟨J,h,λh=>(by cases h),λh=>absurd h hn⟩
variable {N:Nat}
def HV{d:List Int}(g:∀k∈d,0<=k∧k<N):(∀i:Nat,i<N->d.count (i:Int)=1)↔d.Nodup∧∀i:Nat,i<N->(i:Int)∈d:=by
 constructor
 .intro h;refine⟨List.nodup_iff_count.2 λa=>?_,λi hi=>List.count_pos_iff.1 (by rw[h i hi];omega)⟩;by_cases e:a∈d
  .have:=g a e;have:=h a.toNat (by omega);rw[show((a.toNat:Nat):Int)=a by omega]at this;omega
  .rw[List.count_eq_zero.2 e];omega
 .rintro ⟨h1,h2⟩ i hi
  have a:=List.nodup_iff_count.1 h1 (i:Int);have b:=List.count_pos_iff.2 (h2 i hi);omega
def Eb{N:Nat}:∀{l:List bp}{i:Nat},nh N i l->∀k∈l.flatMap bp.Kids,0<=k∧k<N
 |[],_,_,k,h=>by simp at h
 |nd::l,i,b,k,h=>by
  rw[Qc]at h;rcases dY.1 h with h|h
  .have:=b.1 k h;omega
  .exact Eb b.2 k h
def agO(hs:Small p):∃b,Ev (λn=>Nh n (⟨p⟩,())) ((b,()),())∧(b=W↔(∀k∈p.dx,0<=k∧k<p.aV.length)∧nh p.aV.length 0 p.aV∧(p.dx++p.aV.flatMap bp.Kids).Nodup∧∀i:Nat,i<p.aV.length->(i:Int)∈p.dx++p.aV.flatMap bp.Kids):=by
 have h1:=hs.nodes;have h2:=hs.xu;have I:D.dI .i64 (ak p.aV) 1=(p.aV.length:Int)-1:=cV (a:=(p.aV.length:Int)) (by omega) (by omega);have mk:YD (ak p.aV)=W:=by unfold YD ak;rw[fI (by omega),fI (by omega)];rfl
 have K:ah (ak p.aV)=p.aV.length:=rfl;have start:∀{r:(Bool×Unit)×Unit},Ev (λn=>ai (iter (Lx p.aV.length p.dx 0 n) n (IM p.aV.length 0,0,())) λq=>LO.el q (λ_ r=>ai (iter (Od p n) n (r.1,0,())) λs=>LO.el s (λ_ u=>ai (iter (λv:Int×Unit=>aj (D.bN v.1 (ak u.1)) (aC (av v.1 u.1) (aC (ct (ah v.1) u.1) (ai (F155 n (aR u.1 (ah v.1) 0,())) λw=>aj (D.aO w.1.1) (Z (LO.ret (B:=Unit) (P:=Any) () v)) (Z (LO.next (D.add .i64 v.1 1,())))))) (Z (LO.out 0 v))) n (0,())) λv=>LO.el v (λ_ _=>Z ((D.aO J,()),())) (λ_ x=>Z ((D.aO (D.ek 0 x.1),()),())) λ_ _=>Y) (λ_ u=>Z (u,())) λ_ _=>Y) (λ_ r=>Z (r,())) λ_ _=>Y) r->Ev (λn=>Nh n (⟨p⟩,())) r:=by intro r h;refine Ev.congr (λn=>?_) h;unfold Nh BL Q6 Ni;simp only[mk,I,K];rw[JC,ME,JB rfl]
 rcases DG (N:=p.aV.length) (lo:=0) (by omega) p.dx [] _ [] (X6.zero _) (by simp;omega) (by simp;omega)with⟨a,L,b,c⟩|⟨a,c⟩
 .rcases LM hs p.aV [] L _ rfl b (by simp;omega)with⟨d,m,e,f⟩|⟨d,f⟩
  .have M:=Vl (l:=p.aV) λnd G=>(hs.vN nd G).1;have j:∀k∈p.dx++p.aV.flatMap bp.Kids,0<=k∧k<p.aV.length:=λk t=>by
    rcases dY.1 t with t|t
    .exact a k t
    .exact Eb d k t
   have C:=e;rw[w6]at C;have O:∀(i:Nat)(y:Int×Unit),(LO.ret () ((i:Int),()):LO (Int×Unit) (Int×Unit) Unit Any)≠.next y:=λ_ _ h=>by cases h
   have R:=C.1;rcases eF (F:=λn v=>aj (D.bN v.1 (ak m)) (aC (av v.1 m) (aC (ct (ah v.1) m) (ai (F155 n (aR m (ah v.1) 0,())) λw=>aj (D.aO w.1.1) (Z (LO.ret () v)) (Z (LO.next (D.add .i64 v.1 1,())))))) (Z (LO.out 0 v))) m.length (λi=>decide (m.getD i 0=1)) (λi=>(LO.ret () ((i:Int),()):LO (Int×Unit) (Int×Unit) Unit Any)) O (λi hi=>Ev.of_eq λn=>by
     unfold F155;cases S:decide (m.getD i 0=1)<;>(have H:D.aI (m.getD i 0) 1=_:=(mz ..).trans S)<;>simp(disch:=omega)only[aQ,H,bF,dW,eg]) (λn=>by simp(disch:=omega)only[aQ]<;>rfl)with⟨g,r⟩|⟨i,hi,g,r⟩
   .have z:∀i:Nat,i<p.aV.length->(p.dx++p.aV.flatMap bp.Kids).count (i:Int)=1:=λi hi=>by have h3:=BU (g i (by omega));have h4:=C.2 i hi;omega
    have:=(HV j).1 z;refine⟨W,start (Ev.aP c (λn q=>_) _ ?_),λ_=>⟨a,d,this.1,this.2⟩,λ_=>rfl⟩;refine Ev.congr (λn=>ec ..) (Ev.aP f (λn q=>_) _ ?_);refine Ev.congr (λn=>ec ..) (Ev.aP r (λn q=>_) _ (Ev.of_eq λn=>rfl))
   .refine tg (λh=>?_) (start (Ev.aP c (λn q=>_) _ ?_))
    .have h3:=(HV j).2 ⟨h.2.2.1,h.2.2.2⟩ i (by omega);have h4:=C.2 i (by omega);have h5:=of_decide_eq_false g;omega
    .refine Ev.congr (λn=>ec ..) (Ev.aP f (λn q=>_) _ ?_);refine Ev.congr (λn=>ec ..) (Ev.aP r (λn q=>_) _ (Ev.of_eq λn=>?_));rw[oS];simp(disch:=omega)only[aQ]<;>rfl
  .refine tg (λh=>d h.2.1) (start (Ev.aP c (λn q=>_) _ ?_));exact Ev.congr (λn=>ec ..) (Ev.aP f (λn q=>_) _ (Ev.of_eq λn=>rfl))
 .exact tg (λh=>a h.1) (start (Ev.aP c (λn q=>_) _ (Ev.of_eq λn=>rfl)))
def agN(hs:Small p)(b:Bool):∃g,Ev (λn=>Q5 n (⟨p⟩,()) ((b,()),())) ((g,()),())∧(g=W↔b=W∧(∀nd∈p.aV,lf p nd=W)∧(∀k∈p.dx,0<=k∧k<p.aV.length)∧nh p.aV.length 0 p.aV∧(p.dx++p.aV.flatMap bp.Kids).Nodup∧∀i:Nat,i<p.aV.length->(i:Int)∈p.dx++p.aV.flatMap bp.Kids):=by
 have h1:=hs.nodes;unfold Q5;cases b with
 |false=>exact tg (λh=>by cases h.1) (Ev.of_eq λn=>rfl)
 |true=>
  have u:∀(i:Nat)(y:Int×Unit),(LO.ret () ((i:Int),()):LO (Int×Unit) (Int×Unit) Unit Any)≠.next y:=λ_ _ h=>by cases h
  have s:∀{Q:Prop}{G:Nat->Option ((Bool×Unit)×Unit)},(∃b,Ev G ((b,()),())∧(b=W↔Q))->∃b,Ev (λn=>aj (D.aO W) (lR n) (G n)) ((b,()),())∧(b=W↔Q):=λh=>h;refine s ?_;rcases eF (F:=λn l=>aj (D.bN l.1 (ak p.aV)) (aC (av l.1 p.aV) (ai (F153 n (⟨p⟩,aR p.aV (ah l.1) aN,())) λm=>aj (D.aO m.1.1) (Z (LO.ret () l)) (Z (LO.next (D.add .i64 l.1 1,()))))) (Z (LO.out 0 l))) p.aV.length (λi=>lf p (p.aV.getD i aN)) (λi=>(LO.ret () ((i:Int),()):LO (Int×Unit) (Int×Unit) Unit Any)) u (λi hi=>by
    obtain⟨_,v,w⟩:=hs.vN _ (bX aN hi);simp(disch:=omega)only[aQ];refine Ev.ai (am6 hs w v) (Ev.of_eq λn=>?_);cases lf p (p.aV.getD i aN)<;>simp(disch:=omega)only[aQ,bF,dW,eg]) (λn=>by simp(disch:=omega)only[aQ]<;>rfl)with⟨a,r⟩|⟨i,hi,a,r⟩
  .obtain ⟨g,j,t⟩:=agO hs;have e:∀nd∈p.aV,lf p nd=W:=gU (d:=aN) a;refine⟨g,Ev.aP r (λn q=>_) _ j,?_⟩;rw[t];exact⟨λh=>⟨rfl,e,h⟩,λh=>h.2.2⟩
  .refine tg (λh=>?_) (Ev.aP r (λn q=>_) _ (Ev.of_eq λn=>?_))
   .have:=h.2.1 _ (bX aN hi);rw[a]at this;cases this
   .rw[oS];unfold lR;simp(disch:=omega)only[aQ]
def e87(hs:Small p):∃b,Ev (λn=>F87 n (⟨p⟩,())) ((b,()),())∧(b=W↔FP p):=by
 have h1:=hs.nodes;have h2:=hs.xu;have h3:=hs.cons;unfold F87;by_cases S:300<p.aV.length
 .exact tg (λh=>by have:=h.nodes;omega) (Ev.of_eq λn=>by unfold lR;simp(disch:=omega)only[aQ])
 by_cases U:p.dx.length<1
 .exact tg (λh=>by have:=h.xu;omega) (Ev.of_eq λn=>by unfold lR;simp(disch:=omega)only[aQ])
 by_cases X:p.aV.length<p.dx.length
 .exact tg (λh=>by have:=h.xu;omega) (Ev.of_eq λn=>by unfold lR;simp(disch:=omega)only[aQ])
 by_cases c4:20<p.Cons.length
 .exact tg (λh=>by have:=h.QI;omega) (Ev.of_eq λn=>by unfold lR;simp(disch:=omega)only[aQ])
 by_cases w:0<=p.Main∧p.Main<p.dx.length
 .have m:=fI (show 0<=p.Main∧p.Main<=(p.dx.length:Int)-1 by omega);have C:∀(i:Nat)(y:Int×Unit),(LO.ret () ((i:Int),()):LO (Int×Unit) (Int×Unit) Unit Any)≠.next y:=λ_ _ h=>by cases h
  simp(disch:=omega)only[aQ,cV,vR,m];rcases eF (F:=λn d=>aj (D.bN d.1 (p.Cons.length:Int)) (aC (av d.1 p.Cons) (ai (F148 n (p.Cons.getD d.1.toNat bx,())) λe=>aj e.1.1 (Z (LO.next (D.add .i64 d.1 1,()))) (Z (LO.ret () d)))) (Z (LO.out 0 d))) p.Cons.length (λi=>EU (p.Cons.getD i bx)) (λi=>(LO.ret () ((i:Int),()):LO (Int×Unit) (Int×Unit) Unit Any)) C (λi hi=>by
    have hn:=hs.names _ (bX bx hi);simp(disch:=omega)only[aQ];refine Ev.ai (am8 (by omega)) (Ev.of_eq λn=>?_);cases EU (p.Cons.getD i bx)<;>simp(disch:=omega)only[aQ,bF,dW,eg]) (λn=>by simp(disch:=omega)only[aQ])with⟨a,r⟩|⟨i,hi,a,r⟩
  .have j:∀c∈p.Cons,EU c=W:=gU (d:=bx) a;obtain⟨b,s,t⟩:=am7 (l:=p.Cons.map cw.Name) (by rw[Dn];omega);obtain⟨G,u,v⟩:=agN hs b;refine⟨G,Ev.aP r (λn q=>_) _ ?_,?_⟩
   .rw[show(λn=>LO.el (LO.out 0 ((p.Cons.length:Int),()):LO (Int×Unit) (Int×Unit) Unit Any) _ _ _)=_ from rfl];refine Ev.congr (g:=λn=>Q4 n (⟨p⟩,())) (λn=>rfl) ?_;unfold Q4 abb;have z:=j9 (F:=λn h=>aj (D.bN h.2.1 (ak p.Cons)) (aC (av h.2.1 p.Cons) (ai (F151 n (aR p.Cons (ah h.2.1) bx,())) λi=>aC (cZ h.1 [i.1.1]) (Z (LO.next (cP h.1 [i.1.1],D.add .i64 h.2.1 1,()))))) (Z (LO.out (R:=List (List UInt8)×Unit) (B:=Unit) (P:=Any) 0 h))) p.Cons.length (λi=>((p.Cons.take i).map cw.Name,(i:Int),())) 0 (λi hi=>Ev.of_eq λn=>by
     unfold F151;have k:cZ (List.map cw.Name (List.take i p.Cons)) [(p.Cons.getD i bx).Name]=W:=Eu.2 (by simp;omega);simp(disch:=omega)only[aQ,k,bF,dW,eg];rw[<-take_succ bx hi,La];rfl) (Ev.of_eq λn=>by simp(disch:=omega)only[aQ]<;>rfl)
    rw[BT]at z;refine Ev.aP z (λn q=>_) _ ?_;exact Ev.ai s u
   .rw[v,t];exact⟨λ⟨H,I,K,L,M,O⟩=>⟨by omega,by omega,w,by omega,j,H,I,K,L,M,O⟩,λh=>⟨h.names,h.vN,h.fr,h.kr,h.vT,h.all⟩⟩
  .refine tg (λh=>?_) (Ev.aP r (λn q=>_) _ (Ev.of_eq λn=>?_))
   .have:=h.cons _ (bX bx hi);rw[a]at this;cases this
   .rw[oS];unfold lR;simp(disch:=omega)only[aQ]
 .have m:=gj (show ¬(0<=p.Main∧p.Main<=(p.dx.length:Int)-1)by omega);exact tg (λh=>w h.main) (Ev.of_eq λn=>by unfold lR;simp(disch:=omega)only[aQ,cV,vR,m])
end
end
section
section
variable {p:aA}
def e15(hs:Small p):∃b,Ev (λn=>F15 n (p,())) ((b,()),())∧(b=W↔FP p):=by
 have h1:=hs.nodes;have h2:=hs.xu;have h3:=hs.cons;have L:D.dI .i64 (ak p.aV) 1=(p.aV.length:Int)-1:=cV (a:=(p.aV.length:Int)) (by omega) (by omega);have M:D.dI .i64 (ak p.dx) 1=(p.dx.length:Int)-1:=cV (a:=(p.dx.length:Int)) (by omega) (by omega);have mk:YD (ak p.aV)=W:=by unfold YD ak;rw[fI (by omega),fI (by omega)];rfl
 have O:ah (ak p.aV)=p.aV.length:=rfl;have s:ak p.aV=(p.aV.length:Int):=rfl;have u:ak p.dx=(p.dx.length:Int):=rfl;unfold F15 BO;simp only[mk,L,M,O];by_cases c1:300<p.aV.length
 .exact tg (λh=>by have:=h.nodes;omega) (Ev.of_eq λn=>by simp(disch:=omega)only[aQ])
 by_cases H:1<=p.dx.length∧p.dx.length<=p.aV.length
 .have d2:=fI (show 1<=ak p.dx∧ak p.dx<=ak p.aV by rw[s,u];omega);by_cases I:0<=p.Main∧p.Main<p.dx.length
  .have d5:=fI (show 0<=p.Main∧p.Main<=(p.dx.length:Int)-1 by omega);obtain⟨b,z,v⟩:=e53 (l:=p.Cons) (by omega) (λc C=>by have:=hs.names c C;omega);have R:∀{Q:Prop}{G:Nat->Option ((Bool×Unit)×Unit)}{K:Nat->((Bool×Unit)×Unit)->Option ((Bool×Unit)×Unit)},(∃t,Ev (λn=>K n ((b,()),())) ((t,()),())∧(t=W↔Q))->(∀n,G n=ai (F53 n (p.Cons,())) (K n))->∃t,Ev G ((t,()),())∧(t=W↔Q):=by intro Q G K ⟨t,x,y⟩ h;exact⟨t,Ev.congr h (Ev.ai z x),y⟩
   refine R ?_ (λn=>by
    rw[rE (by rw[s];omega),Gn,d2,H6,nD,KF,Gn,d5,H6,nD,KF])
   simp only[];cases b with
   |false=>exact tg (λh=>by have:=v.2 ⟨h.cons,h.QI,h.names⟩;cases this) (Ev.of_eq λn=>rfl)
   |true=>
    obtain⟨S,U,X⟩:=v.1 rfl;have s2:∀{Q:Prop}{G:Nat->Option ((Bool×Unit)×Unit)},(∃b,Ev G ((b,()),())∧(b=W↔Q))->∃b,Ev (λn=>aj (D.aO W) (Z ((J,()),())) (aC (Ch W (ia (ak p.aV) (ak p.aV))) (G n))) ((b,()),())∧(b=W↔Q):=by intro Q G h;obtain⟨b,x,y⟩:=h;exact⟨b,Ev.congr (λn=>by rw[nD,KF,JC,ME,JB rfl]) x,y⟩
    refine s2 ?_;have fF:∀n c,qV p.aV.length p.dx 0 n c=aj (D.bN c.2.1 (ak p.dx)) (aC (av c.2.1 p.dx) (ai (F52 n (aR p.dx (ah c.2.1) 0,0,(p.aV.length:Int)-1,())) λh=>aj (D.aO h.1.1) (Z (LO.ret () (J,()))) (aC (av c.2.1 p.dx) (aC (av (aR p.dx (ah c.2.1) 0) c.1) (aC (ct (ah (aR p.dx (ah c.2.1) 0)) c.1) (aj (aR c.1 (ah (aR p.dx (ah c.2.1) 0)) J) (Z (LO.ret () (J,()))) (aC (av c.2.1 p.dx) (aC (av (aR p.dx (ah c.2.1) 0) c.1) (aC (ct (ah (aR p.dx (ah c.2.1) 0)) c.1) (Z (LO.next (dO c.1 (ah (aR p.dx (ah c.2.1) 0)) W,D.add .i64 c.2.1 1,())))))))))))) (Z (LO.out 0 c)):=by intro n c;unfold qV;cases hz:av c.2.1 p.dx with|false=>rfl|true=>simp only[ME]
    have fK:∀n j,LN p n j=aj (D.bN j.2.1 (ak p.aV)) (aC (av j.2.1 p.aV) (ai (F54 n (p,aR p.aV (ah j.2.1) aN,())) λk=>aj (D.aO k.1.1) (Z (LO.ret () (J,()))) (ai (iter (λl:List Bool×Int×Unit=>aC (av j.2.1 p.aV) (aj (D.bN l.2.1 (ak (aR p.aV (ah j.2.1) aN).3)) (aC (av j.2.1 p.aV) (aC (av l.2.1 (aR p.aV (ah j.2.1) aN).3) (ai (F52 n (aR (aR p.aV (ah j.2.1) aN).3 (ah l.2.1) 0,D.add .i64 j.2.1 1,(p.aV.length:Int)-1,())) λm=>aj (D.aO m.1.1) (Z (LO.ret () (J,()))) (aC (av (aR (aR p.aV (ah j.2.1) aN).3 (ah l.2.1) 0) l.1) (aC (ct (ah (aR (aR p.aV (ah j.2.1) aN).3 (ah l.2.1) 0)) l.1) (aj (aR l.1 (ah (aR (aR p.aV (ah j.2.1) aN).3 (ah l.2.1) 0)) J) (Z (LO.ret () (J,()))) (aC (av (aR (aR p.aV (ah j.2.1) aN).3 (ah l.2.1) 0) l.1) (aC (ct (ah (aR (aR p.aV (ah j.2.1) aN).3 (ah l.2.1) 0)) l.1) (Z (LO.next (dO l.1 (ah (aR (aR p.aV (ah j.2.1) aN).3 (ah l.2.1) 0)) W,D.add .i64 l.2.1 1,()))))))))))) (Z (LO.out (P:=Any) (B:=Unit) 0 l)))) n (j.1,0,())) λl=>LO.el l (λ_ o=>Z (LO.next (o.1,D.add .i64 j.2.1 1,()))) (λ_ o=>Z (LO.ret () o)) λ_ _=>Y))) (Z (LO.out 0 j)):=by intro n j;unfold LN qV;cases hz:av j.2.1 p.aV with|false=>rfl|true=>simp only[ME]
    simp only[<-fF,<-fK];rcases Ai (N:=p.aV.length) (lo:=0) (by omega) p.dx [] _ [] (GA.zero _) (by simp) (by simp;omega)with⟨⟨a,a'⟩,u1,b,c⟩|⟨a,c⟩
    .rcases Hz hs p.aV [] u1 _ rfl b a' with⟨⟨d1,d2,d3⟩,w,e,f⟩|⟨d,f⟩
     .have hb:∀(i:Nat)(y:Int×Unit),(LO.ret () (J,()):LO (Int×Unit) (Bool×Unit) Unit Any)≠.next y:=λ_ _ h=>by cases h
      have hul:=e.1;rcases eF (F:=λn m=>aj (D.bN m.1 (ak p.aV)) (aC (av m.1 w) (aC (ct (ah m.1) w) (aj (D.aO (aR w (ah m.1) J)) (Z (LO.ret () (J,()))) (Z (LO.next (D.add .i64 m.1 1,())))))) (Z (LO.out 0 m))) p.aV.length (λi=>w.getD i J) (λ_=>(LO.ret () (J,()):LO (Int×Unit) (Bool×Unit) Unit Any)) hb (λi hi=>Ev.of_eq λn=>by
        cases C:w.getD i J<;>simp(disch:=omega)only[aQ,C,bF,dW,eg]) (λn=>by simp(disch:=omega)only[aQ]<;>rfl)with⟨g,r⟩|⟨i,hi,g,r⟩
      .rw[w6]at d3 e;refine⟨W,Ev.aP c (λn q=>_) _ ?_,λ_=>⟨by omega,H,I,U,S,X,d1,a,d2,d3,λi hi=>(e.2 i hi).1 (g i hi)⟩,λ_=>rfl⟩;refine Ev.congr (λn=>ec ..) (Ev.aP f (λn q=>_) _ ?_);refine Ev.congr (λn=>ec ..) (Ev.aP r (λn q=>_) _ (Ev.of_eq λn=>rfl))
      .rw[w6]at e;refine tg (λh=>?_) (Ev.aP c (λn q=>_) _ ?_)
       .have:=(e.2 i hi).2 (h.all i hi);rw[g]at this;cases this
       .refine Ev.congr (λn=>ec ..) (Ev.aP f (λn q=>_) _ ?_);refine Ev.congr (λn=>ec ..) (Ev.aP r (λn q=>_) _ (Ev.of_eq λn=>rfl))
     .rw[w6]at d;refine tg (λh=>d ⟨h.vN,h.kr,h.vT⟩) (Ev.aP c (λn q=>_) _ ?_);exact Ev.congr (λn=>ec ..) (Ev.aP f (λn q=>_) _ (Ev.of_eq λn=>rfl))
    .refine tg (λh=>a ⟨h.fr,?_⟩) (Ev.aP c (λn q=>_) _ (Ev.of_eq λn=>rfl));rw[w6];exact(GZ.1 h.vT).1
  .have d5:=gj (show ¬(0<=p.Main∧p.Main<=(p.dx.length:Int)-1)by omega);refine tg (λh=>I h.main) (Ev.of_eq λn=>?_);rw[rE (by rw[s];omega),Gn,d2,H6,nD,KF,Gn,d5,H6,nD,PX]
 .have d2:=gj (show ¬(1<=ak p.dx∧ak p.dx<=ak p.aV)by rw[s,u];omega);refine tg (λh=>H h.xu) (Ev.of_eq λn=>?_);rw[rE (by rw[s];omega),Gn,d2,H6,nD,PX]
def e46{b:Bool}(h:Ev (λn=>F87 n (⟨p⟩,())) ((b,()),())):Ev (λn=>F46 n (p,())) ((if b=W then 0 else 2,()),()):=by unfold F46;refine Ev.ai h (Ev.of_eq λn=>?_);cases b<;>rfl
def FP.ok(h:FP p):mW p:=by
 have kr:∀{l:List bp}{i:Nat},nh p.aV.length i l->∀nd∈l,∀k∈nd.Kids,0<=k∧k<p.aV.length:=by
  intro l
  induction l with
  |nil=>intro i _ nd b;cases b
  |cons a l z=>
   intro i s nd b k r;rcases eR.1 b with h|h
   .subst h;have:=s.1 k r;omega
   .exact z s.2 nd h k r
 refine⟨h.nodes,λnd b=>?_,h.fr,by have:=h.xu;have:=h.nodes;omega,h.main,λc B=>?_⟩
 .have t:=h.vN nd b;unfold lf at t;simp only[dR]at t;obtain⟨⟨⟨H,d⟩,j⟩,C⟩:=t;have u:∀q∈nd.cu,pw q<=12∧pf q=W:=λq G=>by have:=eA.1 C q G;unfold qB at this;simp only[dR,jR]at this;exact⟨this.1,DD q this.2⟩
  unfold LP at d;unfold BV at j;have m:1<=nd.Op∧nd.Op<=28:=by
   by_cases e:nd.Op=15
   .omega
   .rw[br e]at d;by_cases g:nd.Op=14
    .omega
    .rw[br g]at d;by_cases w:1<=nd.Op∧nd.Op<=28
     .exact w
     .rw[br w]at d;cases d
  refine⟨m.1,m.2,λk s=>kr h.kr nd b k s,λg e=>?_,λg=>?_,λe=>?_,λh1=>?_,λh2=>?_,λh4=>?_,λv=>?_,u⟩
  .rw[br e,br g,bJ m]at d;have:=BU d;omega
  .rw[br (by omega),bJ g,dR]at d;have x:=BU d.1;have y:=BU d.2;exact⟨x.1,x.2,y⟩
  .rw[bJ e,dR]at d;have x:=BU d.1;have y:=BU d.2;omega
  .rw[bJ h1]at j;exact j
  .rw[br (by omega),bJ h2]at j;have:=BU j;omega
  .rw[br (by omega),br (by omega),br (by omega),bJ h4]at j;exact BU j
  .rw[br (by omega),br (by omega),bJ v]at j;exact BU j
 .have:=h.cons c B;unfold EU at this;simp only[dR,jR]at this;exact this.2
end
end
section
set_option maxRecDepth 1000000
def ajz:F13 300 ()=Z ((W,()),()):=by kernel_rfl
def kn:Fn [] K4 J:=λ_=>Z ((W,()),())
abbrev cK:kT sg:=⟨[],K4,J,kn⟩
def CK:bD prog 13 cK:=by
 have h:=(k13 300).h;have e:F13 300=kn:=funext λx=>by cases x;exact ajz
 have h:bD prog 13 (⟨[],K4,J,F13 300⟩:kT sg):=h;rw[e]at h;exact h
end
section
section
variable {p:aA}
def Ab(l:List Int):Bool:=decide (l.length<=50)&&l.all gG
variable {l:List Int}
def e47(hl:l.length<=60):Ev (λn=>F47 n (l,())) ((Ab l,()),()):=by
 unfold F47 Ab;by_cases h:l.length<=50
 .rw[fI h,dM];simp(disch:=omega)only[aQ];have b:∀(i:Nat)(y:Int×Unit),(LO.ret () ((i:Int),()):LO (Int×Unit) (Int×Unit) Unit Any)≠.next y:=λ_ _ h=>by cases h
  rcases eF (F:=λn c=>aj (D.bN c.1 (l.length:Int)) (aC (av c.1 l) (ai (F69 n (l.getD c.1.toNat 0,(-1000000000),1000000000,())) λd=>aj d.1.1 (Z (LO.next (D.add .i64 c.1 1,()))) (Z (LO.ret () c)))) (Z (LO.out 0 c))) l.length (λi=>gG (l.getD i 0)) (λi=>(LO.ret () ((i:Int),()):LO (Int×Unit) (Int×Unit) Unit Any)) b (λi hi=>Ev.of_eq λn=>by
    simp(disch:=omega)only[aQ,e69];cases gG (l.getD i 0)<;>simp(disch:=omega)only[aQ,bF,dW,eg]) (λn=>by simp(disch:=omega)only[aQ])with⟨a,r⟩|⟨i,hi,a,r⟩
  .rw[rj (d:=(0:Int)) a];exact Ev.aP r (λn c=>_) _ (Ev.of_eq λn=>rfl)
  .rw[jH (d:=(0:Int)) hi a];refine Ev.aP r (λn c=>_) _ (Ev.of_eq λn=>?_);rw[oS];simp(disch:=omega)only[aQ]<;>rfl
 .rw[gj h,fG];exact Ev.of_eq λn=>by simp(disch:=omega)only[aQ]
def e16(hl:l.length<=60):Ev (λn=>F16 n (l,50,())) ((Ab l,()),()):=by
 unfold F16 Ab;have b:∀(i:Nat)(y:Int×Unit),(LO.ret () (J,()):LO (Int×Unit) (Bool×Unit) Unit Any)≠.next y:=λ_ _ h=>by cases h
 have step:∀i,i<l.length->i<=50->Ev (λn=>aj (D.bN (i:Int) (ak l)) (aj (D.ek (i:Int) 50) (aC (av (i:Int) l) (ai (F55 n (aR l (ah (i:Int)) 0,(-1000000000),1000000000,())) λd=>aj (D.aO d.1.1) (Z (LO.ret () (J,()))) (Z (LO.next (D.add .i64 (i:Int) 1,()))))) (Z (LO.out 0 ((i:Int),())))) (Z (LO.out 0 ((i:Int),())))) (bif gG (l.getD i 0)then .next (((i+1:Nat):Int),())else(LO.ret () (J,()):LO (Int×Unit) (Bool×Unit) Unit Any)):=by intro i hi e;refine Ev.of_eq λn=>?_;simp(disch:=omega)only[aQ,e55];cases gG (l.getD i 0)<;>simp(disch:=omega)only[aQ,bF,dW,eg]
 by_cases h:l.length<=50
 .rw[fI h,dM];rcases eF (F:=λn c=>aj (D.bN c.1 (ak l)) (aj (D.ek c.1 50) (aC (av c.1 l) (ai (F55 n (aR l (ah c.1) 0,(-1000000000),1000000000,())) λd=>aj (D.aO d.1.1) (Z (LO.ret () (J,()))) (Z (LO.next (D.add .i64 c.1 1,()))))) (Z (LO.out 0 c))) (Z (LO.out 0 c))) l.length (λi=>gG (l.getD i 0)) (λi=>(LO.ret () (J,()):LO (Int×Unit) (Bool×Unit) Unit Any)) b (λi hi=>step i hi (by omega)) (λn=>by simp(disch:=omega)only[aQ]<;>rfl)with⟨a,r⟩|⟨i,hi,a,r⟩
  .rw[rj (d:=(0:Int)) a];refine Ev.aP r (λn c=>_) _ (Ev.of_eq λn=>?_);rw[ec];show Z ((D.ek (l.length:Int) 50,()),())=_;rw[YM (by omega)]
  .rw[jH (d:=(0:Int)) hi a];exact Ev.aP r (λn c=>_) _ (Ev.of_eq λn=>rfl)
 .rw[gj h,fG];rcases n5 (F:=λn c=>aj (D.bN c.1 (ak l)) (aj (D.ek c.1 50) (aC (av c.1 l) (ai (F55 n (aR l (ah c.1) 0,(-1000000000),1000000000,())) λd=>aj (D.aO d.1.1) (Z (LO.ret () (J,()))) (Z (LO.next (D.add .i64 c.1 1,()))))) (Z (LO.out 0 c))) (Z (LO.out 0 c))) 51 (λi=>((i:Int),())) (λi=>gG (l.getD i 0)) (λi=>(LO.ret () (J,()):LO (Int×Unit) (Bool×Unit) Unit Any)) 0 b (λi hi _=>step i (by omega) (by omega)) (λ_=>Ev.of_eq λn=>by
    show TL.aj (D.bN (51:Int) (l.length:Int)) (TL.aj (D.ek (51:Int) 50) _ _) _=_;rw[ID (show(50:Int)<51 by decide)];cases D.bN (51:Int) (l.length:Int)<;>rfl)with⟨a,r⟩|⟨i,hi,a,_,r⟩
  .refine Ev.aP r (λn c=>_) _ (Ev.of_eq λn=>?_);rw[ec];show Z ((D.ek (l.length:Int) 50,()),())=_;rw[ab3 (by omega)]
  .exact Ev.aP r (λn c=>_) _ (Ev.of_eq λn=>rfl)
def e17:Ev (λn=>F17 n (cA,())) ((W,()),()):=by unfold F17 F19;refine Ev.ai (a:=((W,()),())) ?_ (Ev.pure _);have z:ak cA.1=0:=rfl;have b:D.aI cA.5 cA.5=W:=rfl;simp only[z,b];simp only[aQ];refine Ev.ai (e26 (l:=[]) (by simp)) ?_;simp only[aQ];refine Ev.ai (e27 (l:=[]) (by simp)) ?_;simp only[aQ];refine Ev.ai (e26 (l:=[]) (by simp)) ?_;simp only[aQ];refine Ev.aP (F:=λn c=>_) (eL.out (j:=0) (y:=(0,())) (Ev.of_eq λn=>?_)) (λn c=>_) _ (Ev.of_eq λn=>rfl);simp(disch:=omega)only[aQ]
end
end
section
variable {m:Int}
section
variable {α β R B P:Type}
def Ev.all{l:List α}(d:α)(q:α->Bool)(bad:Nat->LO (Int×Unit) R B P){F:Nat->Int×Unit->Option (LO (Int×Unit) R B P)}{g:Nat->LO (Int×Unit) R B P->Option β}{r:β}
  (e:∀i y,bad i≠.next y)
  (hs:∀i,i<l.length->Ev (λn=>F n ((i:Int),())) (bif q (l.getD i d)then .next (((i+1:Nat):Int),())else bad i))
  (j:∀n,F n ((l.length:Int),())=Z (.out 0 ((l.length:Int),())))
  (h1:l.all q=W->Ev (λn=>g n (.out 0 ((l.length:Int),()))) r) (h2:∀i,i<l.length->l.all q=J->Ev (λn=>g n (bad i)) r) :
  Ev (λn=>ai (iter (F n) n (0,())) (g n)) r:=by
 rcases eF l.length (λi=>q (l.getD i d)) bad e hs j with⟨a,b⟩|⟨i,hi,a,b⟩
 .exact Ev.aP b g _ (h1 (rj (d:=d) a))
 .exact Ev.aP b g _ (h2 i hi (jH (d:=d) hi a))
def Ev.M0{l:List α}(d:α)(q:α->Bool)(T:Nat->α->Option ((Bool×Unit)×Unit))(bad:Int×Unit->LO (Int×Unit) R B P){F:Nat->Int×Unit->Option (LO (Int×Unit) R B P)}{g:Nat->LO (Int×Unit) R B P->Option β}{r:β}
  (b:∀n c,F n c=aj (D.bN c.1 (ak l)) (aC (av c.1 l) (ai (T n (aR l (ah c.1) d)) λx=>aj (D.aO x.1.1) (Z (bad c)) (Z (LO.next (D.add .i64 c.1 1,()))))) (Z (LO.out 0 c)))
  (hl:l.length<=1000000) (e:∀c y,bad c≠.next y) (j:∀a∈l,Ev (λn=>T n a) ((q a,()),()))
  (h1:l.all q=W->Ev (λn=>g n (.out 0 ((l.length:Int),()))) r) (h2:l.all q=J->∀i:Nat,Ev (λn=>g n (bad ((i:Int),()))) r) :
  Ev (λn=>ai (iter (F n) n (0,())) (g n)) r:=by
 refine Ev.all d q (λi=>bad ((i:Int),())) (λi y=>e _ y) (λi hi=>?_) (λn=>by rw[b];simp(disch:=omega)only[aQ]) h1 (λi _ h=>h2 h i);refine Ev.congr (λn=>b n _) ?_;simp(disch:=omega)only[aQ];refine Ev.ai (j _ (bX d hi)) (Ev.of_eq λn=>?_);cases q (l.getD i d)<;>simp(disch:=omega)only[aQ,bF,dW,eg]
def Ev.cap{l:List α}(d:α)(q:α->Bool)(p:0<=m)(s:m<=1000000){F:Nat->Int×Unit->Option (LO (Int×Unit) (Bool×Unit) Unit P)}
  (hs:∀i,i<l.length->(i:Int)<=m->Ev (λn=>F n ((i:Int),())) (bif q (l.getD i d)then .next (((i+1:Nat):Int),())else .ret () (J,())))
  (g:∀n(i:Nat),l.length<=i∨m<i->F n ((i:Int),())=Z (.out 0 ((i:Int),()))) :
  Ev (λn=>ai (iter (F n) n (0,())) λc=>LO.el c (λ_ _=>Z ((D.ek (ak l) m,()),())) (λ_ e=>Z (e,())) λ_ _=>Y) ((decide ((l.length:Int)<=m)&&l.all q,()),()):=by
 have j:∀(i:Nat)(y:Int×Unit),(LO.ret () (J,()):LO (Int×Unit) (Bool×Unit) Unit P)≠.next y:=λ_ _ h=>by cases h
 by_cases h:(l.length:Int)<=m
 .rw[fI h,dM];refine Ev.all d q (λ_=>.ret () (J,())) j (λi hi=>hs i hi (by omega)) (λn=>g n _ (.inl (bP _))) (λb=>?_) (λi hi b=>?_)
  .refine Ev.of_eq λn=>?_;rw[ec,b,Cy,YM h]
  .rw[b];exact Ev.of_eq λn=>rfl
 .rw[gj h,fG];obtain⟨k,rfl⟩:∃k:Nat,m=k:=⟨_,(zW p).symm⟩;rcases n5 (F:=F) (k+1) (λi=>((i:Int),())) (λi=>q (l.getD i d)) (λi=>.ret () (J,())) 0 j (λi hi _=>hs i (by omega) (by omega)) (λ_=>Ev.of_eq λn=>g n (k+1) (.inr (by omega)))with⟨a,r⟩|⟨i,hi,a,_,r⟩
  .refine Ev.aP r (λn c=>_) _ (Ev.of_eq λn=>?_);rw[ec,Cy,ab3 (by omega)]
  .exact Ev.aP r (λn c=>_) _ (Ev.of_eq λn=>rfl)
end
def tY(a lo hi:Int):Bool:=decide (lo<=a)&&decide (a<=hi)
def gT{a lo hi:Int}:tY a lo hi=W↔lo<=a∧a<=hi:=by simp[tY]
def Jw(n:Nat)(a lo hi:Int):F55 n (a,lo,hi,())=Z ((tY a lo hi,()),()):=by unfold F55 tY;by_cases h1:lo<=a<;>by_cases h2:a<=hi<;>simp[aj,D.ek,h1,h2]
def SZ(n:Nat)(a lo hi:Int):F69 n (a,lo,hi,())=Z ((tY a lo hi,()),()):=Jw n a lo hi
section
variable {p:aA}{w:aa}{v:aq}{f:au}{o:aD}
def vB(p:aA)(k:Nat)(v:aq):Bool:=
 bif D.aI v.Kind 1 then tY v.N (-1000000000) 1000000000 else bif D.aI v.Kind 2 then tY v.N 0 1 else bif D.aI v.Kind 3 then D.aI v.N 0
 else bif D.aI v.Kind 4 then tY v.N 0 (p.dx.length-1)else bif D.aI v.Kind 5 then tY v.N 0 (k-1)else J
def TT{k:Nat}:vB p k v=W↔cC p k v:=by
 obtain⟨a,b⟩:=v;unfold vB cC;simp only;by_cases h1:a=1
 .subst h1;simp[D.aI,tY,gG]
 by_cases h2:a=2
 .subst h2;simp[D.aI,tY];omega
 by_cases h3:a=3
 .subst h3;simp[D.aI]
 by_cases h4:a=4
 .subst h4;simp[D.aI,tY];omega
 by_cases h5:a=5
 .subst h5;simp[D.aI,tY];omega
 simp[D.aI,h1,h2,h3,h4,h5]
def agU(n:Nat)(hp:p.dx.length<=1000)(hw:w.aW.length<=1000)(v:aq):F169 n (p,w,v,())=Z ((vB p w.aW.length v,()),()):=by unfold F169 vB;simp(disch:=omega)only[aQ,cV,Jw];cases D.aI v.Kind 1<;>cases D.aI v.Kind 2<;>cases D.aI v.Kind 3<;>cases D.aI v.Kind 4<;>cases D.aI v.Kind 5<;>rfl
def adf(n:Nat)(hp:p.dx.length<=1000)(hw:w.aW.length<=1000)(v:aq):F211 n (⟨p,w⟩,v,())=Z ((vB p w.aW.length v,()),()):=agU n hp hw v
def Mx(hp:p.dx.length<=1000)(hw:w.aW.length<=1000){l:List aq}(d:0<=m)(b:m<=1000000):Ev (λn=>F109 n (p,w,l,m,())) ((decide ((l.length:Int)<=m)&&l.all (vB p w.aW.length),()),()):=by
 unfold F109;refine Ev.cap (l:=l) ax _ d b (λi hi e=>Ev.of_eq λn=>?_) (λn i h=>?_)
 .simp (disch:=omega)only[aQ,agU n hp hw];cases vB p w.aW.length (l.getD i ax)<;>simp(disch:=omega)only[aQ,bF,dW,eg]
 .rcases h with h|h
  .simp (disch:=omega)only[aQ]
  .cases g:D.bN (i:Int) (l.length:Int)<;>simp(disch:=omega)only[aQ,g]
end
end
section
section
variable {p:aA}{w:aa}{f:au}{o:aD}{k:Nat}
def Z7(hp:mW p){n:bp}(h:Pa p n):jh n<=3:=by
 unfold jh;split
 .rename_i d;obtain⟨a,b,c⟩:=h.con d;have:=(hp.cons _ (bX bx (show n.N.toNat<p.Cons.length by omega))).2;omega
 .have h1:=h.lo;have h2:=h.hi;obtain⟨op,m,kids,pats⟩:=n;dsimp only at h1 h2 ⊢;obtain⟨j,rfl⟩:∃j:Nat,op=j:=⟨_,(zW (by omega)).symm⟩;have e:j<=28:=by omega
  match j,e with
  |0,_|1,_|2,_|3,_|4,_|5,_|6,_|7,_|8,_|9,_|10,_|11,_|12,_|13,_|14,_|15,_|16,_|17,_|18,_|19,_|20,_|21,_|22,_|23,_|24,_|25,_|26,_|27,_|28,_=>decide
  |j+29,h=>omega
def Nv(p:aA)(k:Nat)(f:au):Bool:=
 tY f.Node 0 (p.aV.length-1)&&((decide ((f.Env.length:Int)<=30)&&f.Env.all (vB p k))&&(decide ((f.bH.length:Int)<=jh (nodeAt p f.Node))&&f.bH.all (vB p k)))
def Qr(p:aA)(f:au):Bool:=decide ((f.bH.length:Int)<jh (nodeAt p f.Node))
def yW:Nv p k f=W↔eG p k f:=by unfold Nv;simp only[dR,gT,jR,eA,TT];exact⟨λ⟨⟨a,b⟩,⟨c,d⟩,e,g⟩=>⟨a,by omega,by omega,d,e,g⟩,λh=>⟨⟨h.lo,by have:=h.hi;omega⟩,⟨by have:=h.el;omega,h.env⟩,h.vl,h.vals⟩⟩
def Yz:Qr p f=W↔sN p f:=by unfold Qr sN;exact decide_eq_true_iff
variable {l fs:List au}{vs:List aq}
def Mc:l.all (Nv p k)=W↔∀f∈l,eG p k f:=by simp only[eA,yW]
def LA:l.all (Qr p)=W↔∀f∈l,sN p f:=by simp only[eA,Yz]
def kU{l:List aq}:l.all (vB p k)=W↔∀v∈l,cC p k v:=by simp only[eA,TT]
def Mb(p:aA)(k:Nat)(o:aD):Bool:=
 ((decide ((o.Frames.length:Int)<=40)&&o.Frames.all (Nv p k))&&(decide ((o.bH.length:Int)<=1)&&o.bH.all (vB p k)))&&(decide (0<o.Frames.length+o.bH.length)&&(o.Frames.take (o.Frames.length-(1-o.bH.length))).all (Qr p))
def SK:Mb p k ⟨6,0,vs,fs⟩=W↔gr p k ⟨6,0,vs,fs⟩:=by
 unfold Mb;simp only[dR,jR,Mc,LA,kU];constructor
 .rintro ⟨⟨⟨a,b⟩,c,d⟩,e,g⟩
  match vs,c with
  |[],_=>
   have j:fs≠[]:=by rintro rfl;simp at e
   rw[<-List.dropLast_concat_getLast j]at a b g ⊢;simp only[iq,mZ,w4]at a e g;rw[show fs.dropLast.length+1-(1-0)=fs.dropLast.length by omega,KU]at g;exact .vQ (by omega) (λq i=>⟨b q (eH _ i),g q i⟩) (b _ (by simp))
  |[v],_=>simp only[mZ,Nat.sub_self,Nat.sub_zero,BT]at g;exact .back (by omega) (λq i=>⟨b q i,g q i⟩) (d v (by simp))
  |_::_::_,h=>simp at h;omega
 .intro h;cases h with
  |vQ a b c=>
   refine⟨⟨⟨by simp;omega,λq i=>?_⟩,by simp,by simp⟩,by simp,?_⟩
   .rcases dY.1 i with h|h
    .exact (b q h).1
    .rw[kX.1 h];exact c
   .simp only[iq,mZ,w4];rw[show ∀m:Nat,m+1-(1-0)=m by intro m;omega,KU];exact λq i=>(b q i).2
  |back a b c=>refine⟨⟨⟨by omega,λq i=>(b q i).1⟩,by simp,λq i=>by rw[kX.1 i];exact c⟩,by simp,λq i=>(b q (Qf i)).2⟩
  |dead h=>omega
def CT(p:aA)(k:Nat)(o:aD):Bool:=
 bif D.aI o.N 0 then Mb p k o else bif D.aI o.N 1 then D.aI o.Frames.length 0&&(D.aI o.bH.length 1&&o.bH.all (vB p k))
 else(D.aI o.N 2||(D.aI o.N 3||D.aI o.N 4))&&(D.aI o.Frames.length 0&&D.aI o.bH.length 0)
def Qs(p:aA)(k:Nat)(o:aD):Bool:=
 bif D.aI o.Form 6 then CT p k o
 else bif D.aI o.Form 5 then D.aI o.N 0&&(D.aI o.bH.length 0&&(D.bN 0 o.Frames.length&&((decide ((o.Frames.length:Int)<=40)&&o.Frames.all (Nv p k))&&(o.Frames.all (Qr p)&&D.aI (nodeAt p (o.Frames.getD 0 aU).Node).Op 26))))
 else D.aI o.Frames.length 0&&(bif D.aI o.Form 1 then tY o.N 0 (p.Cons.length-1)&&(D.aI o.bH.length (p.Cons.getD o.N.toNat bx).o6&&o.bH.all (vB p k))
 else bif D.aI o.Form 2 then tY o.N 0 (p.aV.length-1)&&(D.aI (nodeAt p o.N).Op 5&&(decide ((o.bH.length:Int)<=30)&&o.bH.all (vB p k)))
 else bif D.aI o.Form 3 then D.aI o.N 0&&(D.aI o.bH.length 1&&o.bH.all (vB p k))
 else bif D.aI o.Form 4 then D.aI o.N 0&&(decide ((o.bH.length:Int)<=4)&&o.bH.all (vB p k))else J)
def qf{a b:Int}:D.aI a b=W↔a=b:=by simp[D.aI]
def Rp{s:Int}:CT p k ⟨6,s,vs,fs⟩=W↔gr p k ⟨6,s,vs,fs⟩:=by
 unfold CT;simp only;by_cases d:s=0
 .subst d;exact SK
 rw[jK d,dP];by_cases h1:s=1
 .subst h1;rw[ke rfl,cG];simp only[dR,qf,kU];constructor
  .rintro ⟨a,b,c⟩
   obtain rfl:=td (show fs.length=0 by omega)
   match vs,b with
   |[v],_=>exact .done (c v (by simp))
   |[],h=>simp at h
   |_::_::_,h=>simp at h;omega
  .intro h;cases h with|done h=>exact⟨rfl,rfl,λv e=>by rw[kX.1 e];exact h⟩|dead h=>omega
 rw[jK h1,dP];simp only[dR,jQ,qf];constructor
 .rintro ⟨a,b,c⟩
  obtain rfl:=td (show fs.length=0 by omega);obtain rfl:=td (show vs.length=0 by omega);exact .dead a
 .intro h;cases h with|vQ=>exact absurd rfl d|back=>exact absurd rfl d|done=>exact absurd rfl h1|dead h=>exact⟨h,rfl,rfl⟩
def Cu:Qs p k o=W↔gr p k o:=by
 obtain⟨fo,s,vs,fs⟩:=o;unfold Qs;simp only;by_cases h6:fo=6
 .subst h6;exact Rp
 rw[jK h6,dP];by_cases h5:fo=5
 .subst h5;rw[ke rfl,cG];simp only[dR,qf,Mc,LA,jR,vn];constructor
  .rintro ⟨rfl,b,c,⟨d,e⟩,g,h⟩
   obtain rfl:=td (show vs.length=0 by omega)
   match fs,c with
   |f::fs,_=>exact .BZ (by simp at d;omega) (λq i=>⟨e q i,g q i⟩) h
   |[],h=>simp at h
  .intro h;cases h with|BZ a b c=>exact⟨rfl,rfl,by simp,⟨by simp;omega,λq i=>(b q i).1⟩,λq i=>(b q i).2,c⟩
 rw[jK h5,dP];simp only[dR,qf];constructor
 .rintro ⟨a,b⟩
  obtain rfl:=td (show fs.length=0 by omega);by_cases h1:fo=1
  .subst h1;simp only[ke,cG,dR,qf,kU,gT]at b;exact .data b.1.1 (by omega) b.2.1 b.2.2
  rw[jK h1,cond_false]at b;by_cases h2:fo=2
  .subst h2;simp only[ke,cG,dR,qf,kU,gT,jR]at b;exact .func b.1.1 (by omega) b.2.1 (by omega) b.2.2.2
  rw[jK h2,dP]at b;by_cases h3:fo=3
  .subst h3;simp only[ke,cG,dR,qf,kU]at b;obtain⟨rfl,b,c⟩:=b
   match vs,b with
   |[v],_=>exact .cell (c v (by simp))
   |[],h=>simp at h
   |_::_::_,h=>simp at h;omega
  rw[jK h3,dP]at b;by_cases h4:fo=4
  .subst h4;simp only[ke,cG,dR,qf,kU,jR]at b;obtain⟨rfl,b,c⟩:=b;exact .chan (by omega) c
  rw[jK h4]at b;cases b
 .intro h;cases h with|data a b c d=>exact⟨rfl,by simp only[ke,cG,dR,qf,kU,gT];exact⟨⟨a,by omega⟩,c,d⟩⟩|func a b c d e=>exact⟨rfl,by rw[jK (by decide),dP];simp only[ke,cG,dR,qf,kU,gT,jR];exact⟨⟨a,by omega⟩,c,by omega,e⟩⟩|cell a=>exact⟨rfl,by rw[jK (by decide),dP,jK (by decide),dP];simp only[ke,cG,dR,qf,kU];exact⟨trivial,rfl,λv j=>by rw[kX.1 j];exact a⟩⟩|chan a b=>exact⟨rfl,by rw[jK (by decide),dP,jK (by decide),dP,jK (by decide),dP];simp only[ke,cG,dR,qf,kU,jR];exact⟨trivial,by omega,b⟩⟩|BZ=>exact absurd rfl h5|vQ=>exact absurd rfl h6|back=>exact absurd rfl h6|done=>exact absurd rfl h6|dead=>exact absurd rfl h6
end
end
section
def SM{α:Type}{l:List α}{k i:Nat}{d:α}(h:i<k):(l.take k).getD i d=l.getD i d:=by simp only[j6,vK,bJ h]
section
variable {p:aA}{w:aa}{f:au}{o:aD}
structure Bd(p:aA)(w:aa):Prop where
 ok:mW p
 cl:p.Cons.length<=1000
 wl:w.aW.length<=1000
def Bd.fl(h:Bd p w):p.dx.length<=1000:=by have:=h.ok.fl;omega
def Bd.nl(h:Bd p w):p.aV.length<=1000:=by have:=h.ok.len;omega
def agW(b:Bd p w)(l:List au):Ev (λn=>F107 n (p,w,l,())) ((decide ((l.length:Int)<=40)&&l.all (Nv p w.aW.length),()),()):=by
 have hp:=b.ok;have v:=b.nl;unfold F107;refine Ev.cap (l:=l) aU _ (by decide) (by decide) (λi hi r=>?_) (λn i h=>?_)
 .generalize s:l.getD i aU=g;have k:aR l (ah (i:Int)) aU=g:=s;refine Ev.congr (g:=λn=>ai (F55 n (g.Node,0,D.dI .i64 (ak p.aV) 1,())) λd=>aj (D.aO d.1.1) (Z (LO.ret () (J,()))) (ai (F109 n (p,w,g.Env,30,())) λe=>aj (D.aO e.1.1) (Z (LO.ret () (J,()))) (aC (av g.Node p.aV) (ai (F75 n (aR p.aV (ah g.Node) aN,())) λq=>ai (F109 n (p,w,g.bH,q.1)) λh=>aj (D.aO h.1.1) (Z (LO.ret () (J,()))) (Z (LO.next (D.add .i64 (i:Int) 1,()))))))) (λn=>?_) ?_
  .simp only[k];simp(disch:=omega)only[aQ]
  .unfold Nv;simp(disch:=omega)only[aQ,cV,Jw];cases h1:tY g.Node 0 ((p.aV.length:Int)-1)with
   |false=>simp only[aQ,fG];exact Ev.pure _
   |true=>
    have t:=gT.1 h1;have j:=hp.nd t.1 (show g.Node<p.aV.length by omega);simp(disch:=omega)only[aQ,dM];refine Ev.ai (Mx b.fl b.wl (by decide) (by decide)) ?_;cases h2:decide ((g.Env.length:Int)<=30)&&g.Env.all (vB p w.aW.length)with|false=>simp only[aQ,fG];exact Ev.pure _|true=>simp only[aQ,dM];simp only[show p.aV.getD g.Node.toNat aN=nodeAt p g.Node from rfl];refine Ev.ai (Ev.of_eq λn=>e75 _ j.lo j.hi) ?_;refine Ev.ai (Mx (m:=jh (nodeAt p g.Node)) b.fl b.wl (CH _) (by have:=Z7 hp j;omega)) (Ev.of_eq λn=>?_);cases decide ((g.bH.length:Int)<=jh (nodeAt p g.Node))&&g.bH.all (vB p w.aW.length)<;>simp(disch:=omega)only[aQ,bF,dW,eg]
 .rcases h with h|h
  .simp (disch:=omega)only[aQ]
  .cases u:D.bN (i:Int) (l.length:Int)<;>simp(disch:=omega)only[aQ,u]
def agV(b:Bd p w){l:List au}{m:Nat}(r:m<=l.length)(hl:l.length<=1000)(h:l.all (Nv p w.aW.length)=W):Ev (λn=>F108 n (p,l,(m:Int),())) (((l.take m).all (Qr p),()),()):=by
 have hp:=b.ok;unfold F108;refine Ev.all (l:=l.take m) aU (Qr p) (λ_=>.ret () (J,())) (λ_ _ h=>by cases h) (λi hi=>Ev.of_eq λn=>?_) (λn=>?_) (λe=>?_) (λi hi e=>?_)
 .have g:i<m:=by simp at hi;omega
  rw[SM g];have hf:=yW.1 (eA.1 h _ (bX aU (show i<l.length by omega)));have j:=hf.lo;have k:=hf.hi;have d:=hp.nd j k;simp(disch:=omega)only[aQ];rw[show p.aV.getD (l.getD i aU).Node.toNat aN=nodeAt p (l.getD i aU).Node from rfl,e75 _ d.lo d.hi];unfold Qr;by_cases q:((l.getD i aU).bH.length:Int)<jh (nodeAt p (l.getD i aU).Node)
  .simp (disch:=omega)only[aQ,fI q,bF,dW,eg]
  .simp (disch:=omega)only[aQ,gj q]
 .rw[zV,Nat.min_eq_left r];simp(disch:=omega)only[aQ]
 .rw[e];exact Ev.of_eq λn=>rfl
 .rw[e];exact Ev.of_eq λn=>rfl
def ani(b:Bd p w){o:aD}(j:o.bH.length<=1000):Ev (λn=>F106 n (p,w,o,())) ((CT p w.aW.length o,()),()):=by
 obtain⟨fo,s,d,fs⟩:=o;have k:∀{g:Bool},Ev (λn=>uP n) ((g&&J,()),()):=λ{g}=>Ev.of_eq λn=>by rw[BS];rfl
 unfold F106 CT;simp only at j ⊢;by_cases i:s=0
 .subst i;rw[ke rfl,cG];unfold Mb;simp only[aQ];refine Ev.ai (agW b fs) ?_;simp only;cases h1:decide ((fs.length:Int)<=40)&&fs.all (Nv p w.aW.length)with
  |false=>exact Ev.of_eq λn=>rfl
  |true=>
   simp only[aQ,dM];refine Ev.ai (Mx b.fl b.wl (by decide) (by decide)) ?_;simp only;cases h2:decide ((d.length:Int)<=1)&&d.all (vB p w.aW.length)with
   |false=>exact Ev.of_eq λn=>rfl
   |true=>
    simp only[dR,jR]at h1 h2;simp(disch:=omega)only[aQ,dM,bF,cV];by_cases h3:0<fs.length+d.length
    .rw[fI h3,dM];simp(disch:=omega)only[aQ];have e:N3 (fs.length:Int) (DR 0 ((fs.length:Int)-1+(d.length:Int)))=((fs.length-(1-d.length):Nat):Int):=by
      simp only[N3,DR,D.bN,Bool.cond_decide]
      repeat' split
      all_goals omega
     rw[e];exact Ev.ai (agV b (by omega) (by omega) h1.2) (Ev.pure _)
    .rw[gj h3,fG];simp(disch:=omega)only[aQ];exact Ev.of_eq λn=>rfl
 rw[jK i,dP];by_cases h1:s=1
 .subst h1;rw[ke rfl,cG];simp only[aQ];by_cases a:fs.length=0
  .rw[ke (show((fs.length:Nat):Int)=0 by omega),dM];simp only[aQ];by_cases l:d.length=1
   .rw[ke (show((d.length:Nat):Int)=1 by omega),dM];simp only[aQ];refine Ev.ai (Mx b.fl b.wl (by decide) (by decide)) (Ev.of_eq λn=>?_);rw[fI (show(d.length:Int)<=1 by omega),dM]
   .rw[jK (show ¬((d.length:Nat):Int)=1 by omega)];exact Ev.of_eq λn=>rfl
  .rw[jK (show ¬((fs.length:Nat):Int)=0 by omega)];exact Ev.of_eq λn=>rfl
 rw[jK h1,dP];refine Ev.of_eq λn=>?_;simp only[aQ];cases D.aI s 2<;>cases D.aI s 3<;>cases D.aI s 4<;>cases D.aI (fs.length:Int) 0<;>cases D.aI (d.length:Int) 0<;>rfl
def e67(b:Bd p w){o:aD}(g:o.bH.length<=1000)(d:o.Frames.length<=1000):Ev (λn=>F67 n (p,w,o,())) ((Qs p w.aW.length o,()),()):=by
 have i:=b.cl;have j:=b.nl;obtain⟨fo,s,e,fs⟩:=o;unfold F67 Qs;simp only at g d ⊢;by_cases h6:fo=6
 .subst h6;rw[ke rfl,cG];simp only[aQ];exact Ev.ai (ani b g) (Ev.pure _)
 rw[jK h6,dP];by_cases h5:fo=5
 .subst h5;rw[ke rfl,cG];simp only[aQ];cases D.aI s 0 with
  |false=>exact Ev.of_eq λn=>rfl
  |true=>
  cases D.aI (e.length:Int) 0 with
  |false=>exact Ev.of_eq λn=>rfl
  |true=>
  cases h3:D.bN 0 (fs.length:Int)with
  |false=>exact Ev.of_eq λn=>rfl
  |true=>
  simp only[aQ,dM];refine Ev.ai (agW b fs) ?_;simp only;cases h1:decide ((fs.length:Int)<=40)&&fs.all (Nv p w.aW.length)with
  |false=>exact Ev.of_eq λn=>rfl
  |true=>
  simp only[dR,jR]at h1;simp only[aQ,dM];refine Ev.ai (agV b (bP _) d h1.2) ?_;rw[BT];simp only;cases h2:fs.all (Qr p)with
  |false=>exact Ev.of_eq λn=>rfl
  |true=>have h3:=vn.1 h3;have hf:=yW.1 (eA.1 h1.2 _ (bX aU (show 0<fs.length by omega)));have k:=hf.lo;have l:=hf.hi;simp(disch:=omega)only[aQ,dM];exact Ev.of_eq λn=>rfl
 rw[jK h5,dP];simp only[aQ];cases D.aI (fs.length:Int) 0 with
 |false=>exact Ev.of_eq λn=>rfl
 |true=>
 simp only[aQ,dM];by_cases h1:fo=1
 .subst h1;rw[ke rfl,cG];simp(disch:=omega)only[aQ,cV,Jw];cases h1:tY s 0 ((p.Cons.length:Int)-1)with
  |false=>exact Ev.of_eq λn=>rfl
  |true=>
  have m:=gT.1 h1;have q:=b.ok.cons _ (bX bx (show s.toNat<p.Cons.length by omega));simp(disch:=omega)only[aQ,dM];cases h2:D.aI (e.length:Int) (p.Cons.getD s.toNat bx).o6 with
  |false=>exact Ev.of_eq λn=>rfl
  |true=>
  have h2:=qf.1 h2;simp only[aQ,dM];refine Ev.ai (Mx b.fl b.wl (by decide) (by decide)) (Ev.of_eq λn=>?_);rw[fI (show(e.length:Int)<=3 by omega),dM]
 rw[jK h1,dP];by_cases h2:fo=2
 .subst h2;rw[ke rfl,cG];simp(disch:=omega)only[aQ,cV,Jw];cases h1:tY s 0 ((p.aV.length:Int)-1)with
  |false=>exact Ev.of_eq λn=>rfl
  |true=>
  have m:=gT.1 h1;simp(disch:=omega)only[aQ,dM];rw[show p.aV.getD s.toNat aN=nodeAt p s from rfl];cases D.aI (nodeAt p s).Op 5 with
  |false=>exact Ev.of_eq λn=>rfl
  |true=>exact Ev.ai (Mx b.fl b.wl (by decide) (by decide)) (Ev.pure _)
 rw[jK h2,dP];by_cases h3:fo=3
 .subst h3;rw[ke rfl,cG];simp only[aQ];cases D.aI s 0 with
  |false=>exact Ev.of_eq λn=>rfl
  |true=>
  cases h2:D.aI (e.length:Int) 1 with
  |false=>exact Ev.of_eq λn=>rfl
  |true=>
  have h2:=qf.1 h2;simp only[aQ,dM];refine Ev.ai (Mx b.fl b.wl (by decide) (by decide)) (Ev.of_eq λn=>?_);rw[fI (show(e.length:Int)<=1 by omega),dM]
 rw[jK h3,dP];by_cases h4:fo=4
 .subst h4;rw[ke rfl,cG];simp only[aQ];cases D.aI s 0 with
  |false=>exact Ev.of_eq λn=>rfl
  |true=>exact Ev.ai (Mx b.fl b.wl (by decide) (by decide)) (Ev.pure _)
 rw[jK h4,dP];simp only[aQ];exact Ev.of_eq λn=>rfl
end
end
section
def Ev.allI{β R B P X:Type}(len:Nat)(s:Nat->X)(q:Nat->Bool)(bad:Nat->LO X R B P){F:Nat->X->Option (LO X R B P)}{g:Nat->LO X R B P->Option β}{r:β}(d:∀i y,bad i≠.next y)
  (hs:∀i,i<len->(∀j,j<i->q j=W)->Ev (λn=>F n (s i)) (bif q i then .next (s (i+1))else bad i)) (e:∀n,F n (s len)=Z (.out 0 (s len)))
  (h1:(∀i,i<len->q i=W)->Ev (λn=>g n (.out 0 (s len))) r) (h2:∀i,i<len->q i=J->Ev (λn=>g n (bad i)) r):Ev (λn=>ai (iter (F n) n (s 0)) (g n)) r:=by
 rcases n5 len s q bad 0 d hs (λ_=>Ev.of_eq e)with⟨a,b⟩|⟨i,hi,a,_,b⟩
 .exact Ev.aP b g _ (h1 a)
 .exact Ev.aP b g _ (h2 i hi a)
def Co:∀{T S:List Int},T.Nodup->(∀x∈T,x∈S)->T.length<=S.length
 |[],_,_,_=>BP _
 |t::T,S,b,h=>by have b:=GY.1 b;have h1:=Co (S:=S.erase t) b.2 (λx d=>(List.mem_erase_of_ne (λe=>b.1 (by rw[<-e];exact d))).2 (h x (gJ _ d)));have h2:=List.length_erase_of_mem (h t ez);have h3:=List.length_pos_of_mem (h t ez);simp only[fc];omega
variable {l:List Int}{x:Int}
def LD:l.Nodup↔∀i,i<l.length->(l.take i).contains (l.getD i 0)=J:=by
 rw[List.Nodup,RK];constructor
 .intro h i hi;cases d:(l.take i).contains (l.getD i 0)with|false=>rfl|true=>rw[NQ]at d;obtain⟨j,b,e⟩:=s9 d;simp only[zV]at b;rw[List.getElem_take,j6,fP hi,zU]at e;exact absurd e (h j i (by omega) hi (by omega))
 .intro h i j hi b k e;have:=h j b;rw[j6,fP b,zU,<-e]at this;have g:l[i]∈l.take j:=List.mem_take_iff_getElem.2 ⟨i,by omega,rfl⟩;rw[<-NQ,this]at g;cases g
section
variable {p:aA}{w:aa}
structure Ci(w:aa):Prop where
 vT:w.bf.Nodup
 task:∀t∈w.bf,0<=t∧t<w.aW.length∧(cn w t).Form=6
 all:∀i:Nat,i<w.aW.length->(cn w i).Form=6->(i:Int)∈w.bf
def CS(w:aa):List Int:=((List.range w.aW.length).filter λi:Nat=>D.aI (cn w i).Form 6).map λi:Nat=>(i:Int)
def yK:x∈CS w↔0<=x∧x<w.aW.length∧(cn w x).Form=6:=by
 unfold CS;simp only[tK,List.mem_filter,KW,qf];constructor
 .rintro ⟨i,⟨h1,h2⟩,rfl⟩
  exact⟨by omega,by omega,h2⟩
 .rintro ⟨h1,h2,h3⟩
  obtain⟨i,rfl⟩:∃i:Nat,x=i:=⟨_,(zW h1).symm⟩;exact⟨i,⟨by omega,h3⟩,rfl⟩
def NA:(CS w).Nodup:=by unfold CS;exact List.Pairwise.map _ (λa b h e=>h (by omega)) ((List.nodup_range).filter _)
def T1:(CS w).length=w.aW.countP λo=>D.aI o.Form 6:=by
 unfold CS;rw[Dn,<-List.countP_eq_length_filter];have e:w.aW=(List.range w.aW.length).map λi:Nat=>cn w (i:Int):=by
  apply List.ext_getElem
  .simp
  .intro i h1 h2;simp[cn,fP h1]
 conv=>rhs;rw[e,List.countP_map]
 rfl
def Ci.len(h:Ci w):w.bf.length=(CS w).length:=Nat.le_antisymm (Co h.vT λx b=>yK.2 (h.task x b)) (Co NA λx b=>by
 obtain⟨h1,h2,h3⟩:=yK.1 b;obtain⟨i,rfl⟩:∃i:Nat,x=i:=⟨_,(zW h1).symm⟩;exact h.all i (by omega) h3)
def Ci.abW(h1:w.bf.Nodup)(h2:∀t∈w.bf,0<=t∧t<w.aW.length∧(cn w t).Form=6)(h3:w.bf.length=(CS w).length):Ci w:=by
 refine⟨h1,h2,λi hi hf=>Qh λd=>?_⟩;have:=Co (T:=(i:Int)::w.bf) (S:=CS w) (GY.2 ⟨d,h1⟩) (λx b=>by
  rcases eR.1 b with rfl|b
  .exact yK.2 ⟨by omega,by omega,hf⟩
  .exact yK.2 (h2 x b))
 simp only[fc]at this;omega
def Ci.tl(h:Ci w):w.bf.length<=w.aW.length:=by rw[h.len];unfold CS;rw[Dn];exact fC (List.length_filter_le _ _) (by simp)
def Rm(w:aa)(i:Nat):Bool:=tY (w.bf.getD i 0) 0 (w.aW.length-1)&&(D.aI (cn w (w.bf.getD i 0)).Form 6&&!(w.bf.take i).contains (w.bf.getD i 0))
def uX:(∀i,i<w.bf.length->Rm w i=W)↔w.bf.Nodup∧∀t∈w.bf,0<=t∧t<w.aW.length∧(cn w t).Form=6:=by
 rw[LD];unfold Rm;simp only[dR,gT,qf,Dp];constructor
 .intro h;exact⟨λi hi=>(h i hi).2.2,gU (d:=0) λi hi=>⟨(h i hi).1.1,by have:=(h i hi).1.2;omega,(h i hi).2.1⟩⟩
 .rintro ⟨h1,h2⟩ i hi
  have:=h2 _ (bX 0 hi);exact⟨⟨this.1,by omega⟩,this.2.2,h1 i hi⟩
def anj(hl:l.length<=1000):Ev (λn=>F105 n (l,x,())) ((l.contains x,()),()):=by
 unfold F105;refine Ev.all (l:=l) 0 (λa=>!(D.aI a x)) (λ_=>.ret () (W,())) (λ_ _ h=>by cases h) (λi hi=>Ev.of_eq λn=>?_) (λn=>by simp(disch:=omega)only[aQ]) (λb=>?_) (λi hi b=>?_)
 .simp (disch:=omega)only[aQ];cases D.aI (l.getD i 0) x<;>simp(disch:=omega)only[aQ,bF,dW,eg,BR,yz]
 .rw[show l.contains x=J from ?_]
  .exact Ev.of_eq λn=>rfl
  .cases d:l.contains x with|false=>rfl|true=>have:=eA.1 b x (NQ.1 d);rw[ke rfl]at this;cases this
 .rw[show l.contains x=W from ?_]
  .exact Ev.of_eq λn=>rfl
  .rw[List.all_eq_false]at b;obtain⟨a,e,h⟩:=b;rw[NQ];have:D.aI a x=W:=by cases d:D.aI a x with|true=>rfl|false=>rw[d]at h;exact absurd rfl h
   rw[<-qf.1 this];exact e
def e66(hw:w.aW.length<=1000)(r:w.bf.length<=1000):∃b,Ev (λn=>F66 n (w,())) ((b,()),())∧(b=W↔Ci w):=by
 have d:∀i,i<w.aW.length->(w.aW.take (i+1)).countP (λo=>D.aI o.Form 6)=(w.aW.take i).countP (λo=>D.aI o.Form 6)+(bif D.aI (w.aW.getD i aT).Form 6 then 1 else 0):=by intro i hi;rw[UL hi,List.countP_append,List.countP_singleton];rw[j6,fP hi,zU,Bool.cond_eq_ite]
 have run:=j9 (F:=λn(c:Int×Int×Unit)=>aj (D.bN c.2.1 (ak w.aW)) (aC (av c.2.1 w.aW) (aj (D.aI (aR w.aW (ah c.2.1) aT).Form 6) (Z (LO.next (R:=Bool×Unit) (B:=Unit) (P:=Any) (D.add .i64 c.1 1,D.add .i64 c.2.1 1,()))) (Z (LO.next (c.1,D.add .i64 c.2.1 1,()))))) (Z (LO.out 0 c)))
  w.aW.length (λi=>((((w.aW.take i).countP λo=>D.aI o.Form 6:Nat):Int),(i:Int),())) 0 (λi hi=>Ev.of_eq λn=>by
   have h1:=List.countP_le_length (p:=λo:aD=>D.aI o.Form 6) (l:=w.aW.take i);rw[zV]at h1;simp only[d i hi];cases q:D.aI (w.aW.getD i aT).Form 6<;>simp(disch:=omega)only[aQ,q,bF,dW,eg,Int.natCast_zero,Int.add_zero,Bg]) (Ev.of_eq λn=>by simp(disch:=omega)only[aQ])
 simp only[List.take_zero,List.countP_nil,BT,<-T1]at run;by_cases j:w.bf.length=(CS w).length
 .have g:∀{b:Bool},(b=W↔∀i,i<w.bf.length->Rm w i=W)->(b=W↔Ci w):=λ{b}h=>h.trans ⟨λh=>Ci.abW (uX.1 h).1 (uX.1 h).2 j,λh=>uX.2 ⟨h.vT,h.task⟩⟩;have step:∀b:Bool,((∀i,i<w.bf.length->Rm w i=W)->b=W)->((∃i,i<w.bf.length∧Rm w i=J)->b=J)->Ev (λn=>F66 n (w,())) ((b,()),()):=by
   intro b k m;unfold F66;refine Ev.aP run (λn c=>_) _ (Ev.congr (λn=>ec ..) ?_);rw[<-j];simp only[aQ];refine Ev.allI w.bf.length (λi=>((i:Int),())) (Rm w) (λ_=>.ret () (J,())) (λ_ _ h=>by cases h) (λi hi _=>?_) (λn=>by simp(disch:=omega)only[aQ]) (λe=>?_) (λi hi e=>?_)
   .unfold Rm Nj;simp(disch:=omega)only[aQ,Jw,cV];cases h1:tY (w.bf.getD i 0) 0 ((w.aW.length:Int)-1)with
    |false=>simp only[aQ,fG];exact Ev.pure _
    |true=>
     have s:=gT.1 h1;simp(disch:=omega)only[aQ,dM];rw[show w.aW.getD (w.bf.getD i 0).toNat aT=cn w (w.bf.getD i 0)from rfl];cases D.aI (cn w (w.bf.getD i 0)).Form 6 with|false=>simp only[aQ,fG];exact Ev.pure _|true=>simp only[aQ,dM,nA];refine Ev.ai (anj (by rw[zV];omega)) (Ev.of_eq λn=>?_);cases(w.bf.take i).contains (w.bf.getD i 0)<;>simp(disch:=omega)only[aQ,bF,dW,eg,BR,yz]
   .rw[k e];exact Ev.of_eq λn=>rfl
   .rw[m ⟨i,hi,e⟩];exact Ev.of_eq λn=>rfl
  by_cases e:∀i,i<w.bf.length->Rm w i=W
  .exact ⟨W,step W (λ_=>rfl) (λ⟨i,hi,h⟩=>by rw[e i hi]at h;cases h),g ⟨λ_=>e,λ_=>rfl⟩⟩
  .exact ⟨J,step J (λh=>absurd h e) (λ_=>rfl),g ⟨(λh=>by cases h),λh=>absurd h e⟩⟩
 .unfold F66;refine⟨J,Ev.aP run (λn c=>_) _ (Ev.of_eq λn=>?_),(λh=>by cases h),λh=>absurd h.len j⟩;rw[ec];simp(disch:=omega)only[aQ]
end
end
section
section
variable {p:aA}{w:aa}
structure uG(w:aa):Prop where
 ae0:w.aW.length<=130
 tasks:w.bf.length<=130
 outs:w.gH.length<=110
 ins:w.uI.length<=60
 parts:∀o∈w.aW,o.bH.length<=40∧o.Frames.length<=50∧∀f∈o.Frames,f.Env.length<=40∧f.bH.length<=40
def ZE(f:au):Bool:=decide ((f.Env.length:Int)<=40)&&decide ((f.bH.length:Int)<=40)
def YA(o:aD):Bool:=decide ((o.bH.length:Int)<=40)&&(decide ((o.Frames.length:Int)<=50)&&o.Frames.all ZE)
theorem e65(n:Nat)(l:List aq):F65 n (l,())=Z ((decide ((l.length:Int)<=40),()),()):=rfl
def e35(w:aa):∃b,Ev (λn=>F35 n (w,())) ((b,()),())∧(b=W->uG w):=by
 have no:∀{q:Prop},(J=W->q):=λh=>by cases h
 by_cases h1:130<w.aW.length
 .exact ⟨J,Ev.of_eq λn=>by unfold F35;simp(disch:=omega)only[aQ],no⟩
 by_cases h2:130<w.bf.length
 .exact ⟨J,Ev.of_eq λn=>by unfold F35;simp(disch:=omega)only[aQ],no⟩
 by_cases h3:110<w.gH.length
 .exact ⟨J,Ev.of_eq λn=>by unfold F35;simp(disch:=omega)only[aQ],no⟩
 by_cases h4:60<w.uI.length
 .exact ⟨J,Ev.of_eq λn=>by unfold F35;simp(disch:=omega)only[aQ],no⟩
 refine⟨w.aW.all YA,?_,λh=>⟨by omega,by omega,by omega,by omega,λo e=>?_⟩⟩
 .unfold F35;simp(disch:=omega)only[aQ];refine Ev.all (l:=w.aW) aT YA (λ_=>.ret () (J,())) (λ_ _ h=>by cases h) (λi hi=>?_) (λn=>by simp(disch:=omega)only[aQ]) (λd=>?_) (λi hi d=>?_)
  .generalize g:w.aW.getD i aT=o;unfold YA;simp(disch:=omega)only[aQ,g,e65];cases decide ((o.bH.length:Int)<=40)with
   |false=>simp only[aQ,fG];exact Ev.pure _
   |true=>
   by_cases h5:50<o.Frames.length
   .rw[gj (show ¬(o.Frames.length:Int)<=50 by omega)];simp(disch:=omega)only[aQ,fG,BS];exact Ev.pure _
   .rw[fI (show(o.Frames.length:Int)<=50 by omega)];simp(disch:=omega)only[aQ,dM];refine Ev.all (l:=o.Frames) aU ZE (λ_=>.ret () (J,())) (λ_ _ h=>by cases h) (λj k=>Ev.of_eq λn=>?_) (λn=>by simp(disch:=omega)only[aQ]) (λd=>?_) (λj k d=>?_)
    .unfold ZE;simp(disch:=omega)only[aQ,e65];cases decide (((o.Frames.getD j aU).Env.length:Int)<=40)<;>cases decide (((o.Frames.getD j aU).bH.length:Int)<=40)<;>simp(disch:=omega)only[aQ,bF,dW,eg,dM,fG]
    .rw[d,ec];exact Ev.of_eq λn=>by simp(disch:=omega)only[aQ,bF,dW,eg]
    .rw[d];exact Ev.of_eq λn=>rfl
  .rw[d];exact Ev.of_eq λn=>rfl
  .rw[d];exact Ev.of_eq λn=>rfl
 .have:=eA.1 h o e;simp only[YA,ZE,dR,jR,eA]at this;exact⟨by omega,by omega,λf hf=>⟨by have:=(this.2.2 f hf).1;omega,by have:=(this.2.2 f hf).2;omega⟩⟩
def e20(p:aA)(w:aa):∃b,Ev (λn=>F20 n (p,w,())) ((b,()),())∧(b=W->Small p∧uG w):=by
 obtain⟨d,h1,e⟩:=e12 p;obtain⟨g,h2,i⟩:=e35 w;refine⟨d&&g,?_,λh=>?_⟩
 .unfold F20;refine Ev.ai h1 ?_;cases d with
  |false=>exact Ev.of_eq λn=>rfl
  |true=>exact Ev.ai h2 (Ev.pure _)
 .simp only[dR]at h;exact⟨e h.1,i h.2⟩
def DI(o:dV):Bool:=tY o.Port 0 3&&tY o.N (-1000000000) 1000000000
def Eh{l:List Int}:Ab l=W↔l.length<=50∧∀i∈l,gG i=W:=by unfold Ab;simp only[dR,jR,eA]
def Ly{o:dV}:DI o=W↔0<=o.Port∧o.Port<=3∧gG o.N=W:=by unfold DI gG;simp only[dR,gT,jR,and_assoc]
def Q2:gu p w↔w.aW.length<=120∧(∀o∈w.aW,gr p w.aW.length o)∧Ci w∧w.gH.length<=100∧(∀o∈w.gH,DI o=W)∧Ab w.uI=W∧tY w.Used 0 1000000000=W:=by
 constructor
 .intro h;exact⟨h.len,h.obs,⟨h.vT,h.task,h.all⟩,h.outs,λo i=>Ly.2 (h.out o i),Eh.2 ⟨h.ins,h.inn⟩,gT.2 h.used⟩
 .rintro ⟨a,b,c,d,e,f,g⟩
  exact⟨a,b,d,λo i=>Ly.1 (e o i),(Eh.1 f).1,(Eh.1 f).2,gT.1 g,c.vT,c.tl,c.task,c.all⟩
def e36(hp:mW p)(hs:Small p)(s:uG w):∃b,Ev (λn=>F36 n (p,w,())) ((b,()),())∧(b=W↔gu p w):=by
 have I:=s.ae0;have K:=s.outs;have B:Bd p w:=⟨hp,by have:=hs.cons;omega,by omega⟩;have bad:∀{q:Prop},¬q->(J=W↔q):=λh=>⟨(λh=>by cases h),λC=>absurd C h⟩;obtain⟨G,u,v⟩:=e66 (w:=w) (by omega) (by have:=s.tasks;omega);rw[Q2];by_cases h1:120<w.aW.length
 .exact ⟨J,Ev.of_eq λn=>by unfold F36;simp(disch:=omega)only[aQ]<;>rfl,bad λh=>by omega⟩
 by_cases h2:100<w.gH.length
 .exact ⟨J,Ev.of_eq λn=>by unfold F36;simp(disch:=omega)only[aQ]<;>rfl,bad λh=>by omega⟩
 have start:∀{r:(Bool×Unit)×Unit},Ev (λn=>ai (F16 n (w.uI,50,())) λc=>aj (D.aO c.1.1) (wM n) (ai (F55 n (w.Used,0,1000000000,())) λd=>aj (D.aO d.1.1) (wM n) (ai (F66 n (w,())) λe=>aj (D.aO e.1.1) (wM n) (ai (iter (λg:Int×Unit=>aj (D.bN g.1 (ak w.aW)) (aC (av g.1 w.aW) (ai (F67 n (p,w,aR w.aW (ah g.1) aT,())) λh=>aj (D.aO h.1.1) (Z (LO.ret () (J,()))) (Z (LO.next (D.add .i64 g.1 1,()))))) (Z (LO.out 0 g))) n (0,())) λg=>LO.el g (λ_ _=>ai (iter (λj:Int×Unit=>aj (D.bN j.1 (ak w.gH)) (aC (av j.1 w.gH) (ai (F55 n ((aR w.gH (ah j.1) gx).1,0,3,())) λk=>aj (D.aO k.1.1) (Z (LO.ret () (J,()))) (aC (av j.1 w.gH) (ai (F55 n ((aR w.gH (ah j.1) gx).2,(-1000000000),1000000000,())) λl=>aj (D.aO l.1.1) (Z (LO.ret () (J,()))) (Z (LO.next (D.add .i64 j.1 1,()))))))) (Z (LO.out 0 j))) n (0,())) λj=>LO.el j (λ_ _=>Z ((W,()),())) (λ_ l=>Z (l,())) λ_(_:Any)=>Y) (λ_ i=>Z (i,())) λ_(_:Any)=>Y)))) r->Ev (λn=>F36 n (p,w,())) r:=λh=>Ev.congr (λn=>by unfold F36;simp(disch:=omega)only[aQ]<;>rfl) h;cases hi:Ab w.uI with
 |false=>exact⟨J,start (Ev.ai (e16 s.ins) (Ev.of_eq λn=>by rw[hi];rfl)),bad λh=>by have:=h.2.2.2.2.2.1;cases this⟩
 |true=>
 cases y:tY w.Used 0 1000000000 with
 |false=>exact⟨J,start (Ev.ai (e16 s.ins) (Ev.of_eq λn=>by rw[hi];simp only[aQ,Jw,y]<;>rfl)),bad λh=>by have:=h.2.2.2.2.2.2;cases this⟩
 |true=>
 have m:∀{f:Nat->Option ((Bool×Unit)×Unit)}{r:(Bool×Unit)×Unit},Ev f r->Ev (λn=>aj (D.aO (Ab w.uI)) (wM n) (ai (F55 n (w.Used,0,1000000000,())) λd=>aj (D.aO d.1.1) (wM n) (f n))) r:=λ{f r}h=>by simp only[aQ,hi,Jw,y];exact h
 cases G with
 |false=>exact⟨J,start (Ev.ai (e16 s.ins) (m (Ev.ai u (Ev.of_eq λn=>rfl)))),bad λh=>by have:=v.2 h.2.2.1;cases this⟩
 |true=>
 refine⟨w.aW.all (Qs p w.aW.length)&&w.gH.all DI,start (Ev.ai (e16 s.ins) (m (Ev.ai u ?_))),?_⟩
 .show Ev (λn=>ai (iter _ n (0,())) _) _;refine Ev.M0 (l:=w.aW) aT (Qs p w.aW.length) (λn a=>F67 n (p,w,a,())) (λ_=>.ret () (J,())) (λn c=>by rfl) (by omega) (λ_ _ h=>by cases h) (λa z=>e67 B (by have:=(s.parts a z).1;omega) (by have:=(s.parts a z).2.1;omega)) (λt=>?_) (λt i=>?_)
  .rw[t,dM];refine Ev.congr (λn=>ec ..) ?_;refine Ev.all (l:=w.gH) gx DI (λ_=>.ret () (J,())) (λ_ _ h=>by cases h) (λj H=>Ev.of_eq λn=>?_) (λn=>by simp(disch:=omega)only[aQ]) (λt=>?_) (λj H t=>?_)
   .unfold DI;simp(disch:=omega)only[aQ,Jw];cases tY (w.gH.getD j gx).Port 0 3<;>cases tY (w.gH.getD j gx).N (-1000000000) 1000000000<;>simp(disch:=omega)only[aQ,bF,dW,eg,dM,fG]
   .rw[t];exact Ev.of_eq λn=>rfl
   .rw[t];exact Ev.of_eq λn=>rfl
  .rw[t];exact Ev.of_eq λn=>rfl
 .simp only[dR,eA,Cu];exact⟨λ⟨a,b⟩=>⟨by omega,a,v.1 rfl,by omega,b,trivial,trivial⟩,λ⟨_,a,_,_,b,_⟩=>⟨a,b⟩⟩
def e22(hs:Small p)(g:uG w):∃b,Ev (λn=>F22 n (p,w,())) ((b,()),())∧(b=W↔FP p∧gu p w):=by obtain⟨i,h1,d⟩:=e15 hs;cases i with|false=>exact⟨J,by unfold F22;exact Ev.ai h1 (Ev.of_eq λn=>rfl),(λh=>by cases h),λh=>by have:=d.2 h.1;cases this⟩|true=>have hf:=d.1 rfl;obtain⟨j,h2,e⟩:=e36 hf.ok hs g;exact⟨j,by unfold F22;exact Ev.ai h1 (Ev.ai h2 (Ev.pure _)),λh=>⟨hf,e.1 h⟩,λh=>e.2 h.2⟩
end
end
section
section
variable {p:aA}{w:aa}
def wX{X R B P:Type}{b:B}{r:X->R}:∀(c y:X),(LO.ret b (r c):LO X R B P)≠.next y:=λ_ _ h=>by cases h
def Sd(i:Nat):D.aO (D.ek 0 (i:Int))=J:=by rw[YM (by omega)];rfl
def amV(b:Bd p w){f:au}(hl:f.Env.length<=1000)(j:f.bH.length<=1000):Ev (λn=>F266 n (⟨p,w⟩,f,())) ((Nv p w.aW.length f,()),()):=by
 have k:=b.nl;unfold F266 Nv;simp(disch:=omega)only[aQ,SZ,cV];cases h1:tY f.Node 0 ((p.aV.length:Int)-1)with
 |false=>exact Ev.of_eq λn=>rfl
 |true=>
 have g:=gT.1 h1;have e:=b.ok.nd g.1 (show f.Node<p.aV.length by omega);simp(disch:=omega)only[aQ,dM];by_cases h2:f.Env.length<=30
 .rw[fI (show(f.Env.length:Int)<=30 by omega)];simp(disch:=omega)only[aQ,dM,show p.aV.getD f.Node.toNat aN=nodeAt p f.Node from rfl,ZP _ e.lo e.hi];by_cases h3:(f.bH.length:Int)<=jh (nodeAt p f.Node)
  .rw[fI h3,dM];refine Ev.congr (λn=>rF h3 _ _) ?_;refine Ev.M0 (l:=f.Env) ax (vB p w.aW.length) (λn v=>F211 n (⟨p,w⟩,v,())) (λc=>.ret () c) (λn c=>rfl) (by omega) wX (λv _=>Ev.of_eq λn=>adf n b.fl b.wl v) (λd=>?_) (λd i=>?_)
   .rw[d,dM];refine Ev.M0 (l:=f.bH) ax (vB p w.aW.length) (λn v=>F211 n (⟨p,w⟩,v,())) (λc=>.ret () c) (λn c=>rfl) (by omega) wX (λv _=>Ev.of_eq λn=>adf n b.fl b.wl v) (λd=>?_) (λd i=>?_)
    .rw[d];exact Ev.of_eq λn=>rfl
    .rw[d];exact Ev.of_eq λn=>by rw[oS,Sd]
   .rw[d];exact Ev.of_eq λn=>(rF (Int.natCast_nonneg i) _ _).trans rfl
  .rw[gj h3];simp only[fG,BS];exact Ev.congr (λn=>ID (by omega) _ _) (Ev.of_eq λn=>rfl)
 .rw[gj (show ¬(f.Env.length:Int)<=30 by omega)];simp(disch:=omega)only[aQ,fG];exact Ev.of_eq λn=>rfl
def agT(b:Bd p w){l:List au}{m:Nat}(t:m<=1)(hl:l.length<=1000)(hf:∀f∈l,f.Env.length<=1000∧f.bH.length<=1000) :
  Ev (λn=>F212 n (⟨p,w⟩,l,(m:Int),())) (((decide ((l.length:Int)<=40)&&l.all (Nv p w.aW.length))&&(l.take (l.length-m)).all (Qr p),()),()):=by
 unfold F212;by_cases h1:l.length<=40
 .rw[fI (show(l.length:Int)<=40 by omega)];simp(disch:=omega)only[aQ,dM];refine Ev.M0 (l:=l) aU (Nv p w.aW.length) (λn v=>F266 n (⟨p,w⟩,v,())) (λc=>.ret () c) (λn c=>rfl) (by omega) wX (λv j=>amV b (hf v j).1 (hf v j).2) (λd=>?_) (λd i=>?_)
  .rw[d,dM];have e:DR 0 (D.dI .i64 (ak l) (m:Int))=((l.length-m:Nat):Int):=by
    rw[Cy,cV (by omega) (by omega)];simp only[DR,D.bN,Bool.cond_decide]
    repeat' split
    all_goals omega
   have s:Fy ((⟨p,w⟩:cB),l,(m:Int),())=l.take (l.length-m):=by unfold Fy;simp only[e,nA];rfl
   show Ev (λn=>J3 n (⟨p,w⟩,l,(m:Int),())) _;unfold J3;rw[s,e];simp(disch:=omega)only[aQ];refine Ev.M0 (l:=l.take (l.length-m)) aU (Qr p) (λn v=>F267 n (⟨p,w⟩,v,())) (λc=>.ret () c) (λn c=>by rfl) (by rw[zV];omega) wX (λv j=>Ev.of_eq λn=>?_) (λd=>?_) (λd i=>?_)
   .have r:=yW.1 (eA.1 d v (Qf j));have k:=r.lo;have q:=r.hi;have g:=b.ok.nd k q;unfold F267 Qr;simp(disch:=omega)only[aQ,show p.aV.getD v.Node.toNat aN=nodeAt p v.Node from rfl,ZP _ g.lo g.hi];rfl
   .rw[d];exact Ev.of_eq λn=>rfl
   .rw[d];exact Ev.of_eq λn=>by rw[oS,Sd]
  .rw[d];exact Ev.of_eq λn=>(rF (Int.natCast_nonneg i) _ _).trans rfl
 .rw[gj (show ¬(l.length:Int)<=40 by omega)];simp(disch:=omega)only[aQ,fG];exact Ev.of_eq λn=>rfl
def adV(o:aD):Prop:=o.bH.length<=1000∧o.Frames.length<=1000∧∀f∈o.Frames,f.Env.length<=1000∧f.bH.length<=1000
variable {o:aD}
def amX(b:Bd p w)(hs:adV o)(e:o.bH.all (vB p w.aW.length)=W):Ev (λn=>F213 n (⟨p,w⟩,o,())) ((CT p w.aW.length o,()),()):=by
 obtain⟨fo,s,d,fs⟩:=o;obtain⟨k,g,i⟩:=hs;unfold F213 CT;simp only at e k g i ⊢;by_cases j:s=0
 .subst j;rw[ke rfl,cG];unfold Mb;simp only[e,vI];simp only[aQ];by_cases h1:1<d.length
  .rw[gj (show ¬(d.length:Int)<=1 by omega)];simp(disch:=omega)only[aQ,BS,fG];exact Ev.of_eq λn=>rfl
  rw[fI (show(d.length:Int)<=1 by omega),vI];simp(disch:=omega)only[aQ];have go:Ev (λn=>J2 n (⟨p,w⟩,⟨fo,0,d,fs⟩,())) (((decide ((fs.length:Int)<=40)&&fs.all (Nv p w.aW.length))&&(fs.take (fs.length-(1-d.length))).all (Qr p),()),()):=by unfold J2;simp(disch:=omega)only[aQ,cV];rw[show(1:Int)-(d.length:Int)=((1-d.length:Nat):Int)by omega];exact Ev.ai (agT b (by omega) g i) (Ev.pure _)
  by_cases h2:0<fs.length+d.length
  .rw[fI h2,dM];by_cases h3:fs.length=0
   .have h4:¬d.length=0:=by omega
    simp(disch:=omega)only[aQ];exact go
   .simp (disch:=omega)only[aQ];exact go
  .rw[gj h2,fG,BS];have h3:fs.length=0:=by omega
   have h4:d.length=0:=by omega
   simp(disch:=omega)only[aQ];exact Ev.of_eq λn=>rfl
 rw[jK j,dP];by_cases h1:s=1
 .subst h1;rw[ke rfl,cG,e,vI];simp only[aQ];refine Ev.of_eq λn=>?_;cases D.aI (fs.length:Int) 0<;>cases D.aI (d.length:Int) 1<;>rfl
 rw[jK h1,dP];refine Ev.of_eq λn=>?_;simp only[aQ];cases D.aI s 2<;>cases D.aI s 3<;>cases D.aI s 4<;>cases D.aI (fs.length:Int) 0<;>cases D.aI (d.length:Int) 0<;>rfl
def am4(b:Bd p w)(hs:adV o):Ev (λn=>F163 n (⟨p,w⟩,o,())) ((Qs p w.aW.length o,()),()):=by
 have j:=b.cl;have k:=b.nl;unfold F163;refine Ev.M0 (l:=o.bH) ax (vB p w.aW.length) (λn v=>F211 n (⟨p,w⟩,v,())) (λc=>.ret () c) (λn c=>rfl) (by have:=hs.1;omega) wX (λv _=>Ev.of_eq λn=>adf n b.fl b.wl v) (λd=>?_) (λd i=>?_);rotate_left
 .rw[show Qs p w.aW.length o=J from ?_]
  .refine Ev.of_eq λn=>?_;rw[oS,Sd];rfl
  .cases q:Qs p w.aW.length o with|false=>rfl|true=>rw[kU.2 (Cu.1 q).vals]at d;cases d
 show Ev (λn=>J4 n (⟨p,w⟩,o,())) _;have r:=amX b hs d;obtain⟨fo,s,t,fs⟩:=o;obtain⟨u,e,g⟩:=hs;unfold J4 Qs;simp only at d u e g ⊢;by_cases h6:fo=6
 .subst h6;rw[ke rfl,cG];simp(disch:=omega)only[aQ];exact Ev.ai r (Ev.pure _)
 rw[jK h6,dP];by_cases h5:fo=5
 .subst h5;rw[ke rfl,cG];simp(disch:=omega)only[aQ];cases D.aI s 0 with
  |false=>exact Ev.of_eq λn=>rfl
  |true=>
  cases D.aI (t.length:Int) 0 with
  |false=>exact Ev.of_eq λn=>rfl
  |true=>
  cases h3:D.bN 0 (fs.length:Int)with
  |false=>exact Ev.of_eq λn=>rfl
  |true=>
  simp only[aQ,dM];refine Ev.ai (agT (m:=0) b (by omega) e g) ?_;rw[Nat.sub_zero,BT];cases h1:decide ((fs.length:Int)<=40)&&fs.all (Nv p w.aW.length)with
  |false=>exact Ev.of_eq λn=>rfl
  |true=>
  cases h2:fs.all (Qr p)with
  |false=>exact Ev.of_eq λn=>rfl
  |true=>have h3:=vn.1 h3;simp only[dR,jR]at h1;have hf:=yW.1 (eA.1 h1.2 _ (bX aU (show 0<fs.length by omega)));have y:=hf.lo;have z:=hf.hi;simp(disch:=omega)only[aQ,dM];exact Ev.of_eq λn=>rfl
 rw[jK h5,dP];refine Ev.of_eq λn=>?_;simp only[aQ,d,vI];by_cases h1:fo=1
 .subst h1;rw[ke rfl,cG];simp(disch:=omega)only[aQ,cV,SZ];cases D.aI (fs.length:Int) 0 with
  |false=>rfl
  |true=>
  cases h1:tY s 0 ((p.Cons.length:Int)-1)with
  |false=>rfl
  |true=>
  have B:=gT.1 h1;simp(disch:=omega)only[aQ,dM]
 rw[jK h1,dP];by_cases h2:fo=2
 .subst h2;rw[ke rfl,cG];simp(disch:=omega)only[aQ,cV,SZ];cases D.aI (fs.length:Int) 0 with
  |false=>rfl
  |true=>
  cases h1:tY s 0 ((p.aV.length:Int)-1)with
  |false=>rfl
  |true=>
  have B:=gT.1 h1;simp(disch:=omega)only[aQ,dM];rw[show p.aV.getD s.toNat aN=nodeAt p s from rfl];cases D.aI (nodeAt p s).Op 5<;>rfl
 rw[jK h2,dP];by_cases h3:fo=3
 .subst h3;rw[ke rfl,cG];simp only[aQ];cases D.aI (fs.length:Int) 0<;>cases D.aI s 0<;>rfl
 rw[jK h3,dP];by_cases h4:fo=4
 .subst h4;rw[ke rfl,cG];simp only[aQ];cases D.aI (fs.length:Int) 0<;>cases D.aI s 0<;>rfl
 rw[jK h4,dP];simp only[aQ];cases D.aI (fs.length:Int) 0<;>rfl
end
end
section
section
variable {p:aA}{w:aa}
abbrev Ve(x:Int)(l:List (Int×Bool)):Bool:=FL (A:=sg.A) (Ty.int .i64) J x l
abbrev Vx(x:Int)(l:List (Int×Bool)):List (Int×Bool):=m7 (A:=sg.A) (Ty.int .i64) x W l
def Vd(x k:Int):∀l:List (Int×Bool),Ve x (Vx k l)=(D.aI x k||Ve x l)
 |[]=>by show(bif D.aI x k then W else J)=(D.aI x k||J);cases D.aI x k<;>rfl
 |q::l=>by
  have b:=Vd x k l;show Ve x (bif D.aI k q.1 then(k,W)::l else q::Vx k l)=(D.aI x k||(bif D.aI x q.1 then q.2 else Ve x l));cases h1:D.aI k q.1 with
  |true=>have h1:=qf.1 h1;show(bif D.aI x k then W else Ve x l)=_;rw[<-h1];cases D.aI x k<;>rfl
  |false=>
   show(bif D.aI x q.1 then q.2 else Ve x (Vx k l))=_;rw[b];cases h2:D.aI x q.1 with|false=>rfl|true=>rw[qf.1 h2,show D.aI q.1 k=J from jK λe=>by rw[e,ke rfl]at h1;cases h1];rfl
def met(w:aa):Nat->List (Int×Bool)
 |0=>[]
 |i+1=>Vx (w.bf.getD i 0) (met w i)
def I8(x:Int):∀i,i<=w.bf.length->Ve x (met w i)=(w.bf.take i).contains x
 |0,_=>rfl
 |i+1,h=>by show Ve x (Vx (w.bf.getD i 0) (met w i))=_;rw[Vd,I8 x i (by omega),UL (by omega),j6,fP (by omega),zU];rw[Bool.eq_iff_iff];simp only[jQ,qf,NQ,dY,kX];exact or_comm
def qN(n:Nat):List Int:=(List.range n).map λi:Nat=>(i:Int)
def yG(n:Nat):(qN n).length=n:=by simp[qN]
def Hs(n:Nat):qN (n+1)=qN n++[(n:Int)]:=by simp[qN,List.range_succ]
def LC{n i:Nat}(h:i<n):(qN n).getD i 0=(i:Int):=by simp[qN,j6,gK,NP h]
def am3(hw:w.aW.length<=1000)(y:w.bf.length<=1000):∃b,Ev (λn=>F164 n (⟨p,w⟩,())) ((b,()),())∧(b=W↔Ci w):=by
 let g:Int->Bool:=λx=>Ve x (met w w.bf.length)||!(D.aI (cn w x).Form 6)
 have key:∀b:Bool,((∀i,i<w.bf.length->Rm w i=W)->b=(qN w.aW.length).all g)->((∃i,i<w.bf.length∧Rm w i=J)->b=J)->Ev (λn=>F164 n (⟨p,w⟩,())) ((b,()),()):=by
  intro b q r;unfold F164;refine Ev.allI w.bf.length (λi=>((i:Int),met w i,())) (Rm w) (λi=>.ret (met w i,()) (J,())) (λ_ _ h=>by cases h) (λi hi _=>Ev.of_eq λn=>?_) (λn=>by simp(disch:=omega)only[aQ]) (λd=>?_) (λi hi d=>?_)
  .unfold Rm AV;simp(disch:=omega)only[aQ,SZ,cV];cases h1:tY (w.bf.getD i 0) 0 ((w.aW.length:Int)-1)with
   |false=>simp only[aQ,fG]
   |true=>
    have z:=gT.1 h1;simp(disch:=omega)only[aQ,dM];rw[show w.aW.getD (w.bf.getD i 0).toNat aT=cn w (w.bf.getD i 0)from rfl];cases D.aI (cn w (w.bf.getD i 0)).Form 6 with|false=>simp only[aQ,fG]|true=>rw[show FL (A:=sg.A) (Ty.int .i64) J (w.bf.getD i 0) (met w i)=_ from I8 _ i (by omega)];cases(w.bf.take i).contains (w.bf.getD i 0)<;>simp(disch:=omega)only[aQ,bF,dW,eg,BR,yz,dM];rfl
  .rw[q d];refine Ev.congr (λn=>ec ..) ?_;refine Ev.aP (j9 w.aW.length (λi=>((i:Int),(qN i,()),())) 0 (λi hi=>Ev.of_eq λn=>?_) (Ev.of_eq λn=>?_)) (λn c=>_) _ ?_
   .have s:=yG i;simp(disch:=first|omega|simp only[kS];omega)only[aQ,bF,dW,eg,Hs]
   .simp (disch:=omega)only[aQ]
   .refine Ev.congr (λn=>ec ..) ?_;refine Ev.all (l:=qN w.aW.length) 0 g (λj=>.ret () ((j:Int),())) (λ_ _ h=>by cases h) (λj m=>Ev.of_eq λn=>?_) (λn=>by simp(disch:=omega)only[aQ]) (λd=>?_) (λj m d=>?_)
    .have s:=yG w.aW.length;rw[s]at m;rw[LC m];show _=Z (bif Ve (j:Int) (met w w.bf.length)||!(D.aI (cn w (j:Int)).Form 6)then _ else _);have t:aR (qN w.aW.length) (ah (j:Int)) 0=(j:Int):=LC m;have u:aR w.aW (ah (j:Int)) aT=cn w (j:Int):=rfl;unfold Fz;simp only[t,u];cases e:Ve (j:Int) (met w w.bf.length)with|true=>have e:FL (A:=sg.A) (Ty.int .i64) J (j:Int) (met w w.bf.length)=W:=e;simp(disch:=omega)only[aQ,e,bF,dW,eg,Bool.true_or]|false=>have e:FL (A:=sg.A) (Ty.int .i64) J (j:Int) (met w w.bf.length)=J:=e;cases v:D.aI (cn w (j:Int)).Form 6<;>simp(disch:=omega)only[aQ,e,v,bF,dW,eg,GV,BR,yz]
    .rw[d];exact Ev.of_eq λn=>rfl
    .rw[d];exact Ev.of_eq λn=>by show Z ((D.aO (D.ek 0 (j:Int)),()),())=_;rw[Sd]
  .rw[r ⟨i,hi,d⟩];exact Ev.of_eq λn=>rfl
 have k:(qN w.aW.length).all g=W↔∀i:Nat,i<w.aW.length->(cn w i).Form=6->(i:Int)∈w.bf:=by
  simp only[eA,qN,tK,KW];constructor
  .intro h i hi hf;have:=h i ⟨i,hi,rfl⟩;simp only[g,I8 _ _ (bP _),BT,ke hf,BR,Bool.or_false,NQ]at this;exact this
  .rintro h x ⟨i,hi,rfl⟩
   simp only[g,I8 _ _ (bP _),BT,jQ,NQ];cases e:D.aI (cn w (i:Int)).Form 6 with|false=>exact .inr rfl|true=>exact .inl (h i hi (qf.1 e))
 by_cases d:∀i,i<w.bf.length->Rm w i=W
 .refine ⟨_,key _ (λ_=>rfl) (λ⟨i,hi,h⟩=>by rw[d i hi]at h;cases h),k.trans ⟨λh=>⟨(uX.1 d).1,(uX.1 d).2,h⟩,λh=>h.all⟩⟩
 .exact ⟨J,key J (λh=>absurd h d) (λ_=>rfl),(λh=>by cases h),λh=>absurd (uX.2 ⟨h.vT,h.task⟩) d⟩
def am2(n:Nat)(o:dV):F166 n (o,())=Z ((DI o,()),()):=by unfold F166 DI;simp only[aQ,SZ];cases tY o.Port 0 3<;>rfl
def e99(hp:mW p)(hs:Small p)(e:uG w):∃b,Ev (λn=>F99 n (⟨p,w⟩,())) ((b,()),())∧(b=W↔gu p w):=by
 have I:=e.ae0;have K:=e.outs;have v:Bd p w:=⟨hp,by have:=hs.cons;omega,by omega⟩;have bad:∀{q:Prop},¬q->(J=W↔q):=λh=>⟨(λh=>by cases h),λy=>absurd y h⟩;obtain⟨z,g,k⟩:=am3 (p:=p) (w:=w) (by omega) (by have:=e.tasks;omega);have B:∀o∈w.aW,adV o:=λo d=>⟨by have:=(e.parts o d).1;omega,by have:=(e.parts o d).2.1;omega,λf hf=>⟨by have:=((e.parts o d).2.2 f hf).1;omega,by have:=((e.parts o d).2.2 f hf).2;omega⟩⟩;rw[Q2];by_cases h1:120<w.aW.length
 .exact ⟨J,Ev.of_eq λn=>by unfold F99;simp(disch:=omega)only[aQ]<;>rfl,bad λh=>by omega⟩
 have go:∀{r:(Bool×Unit)×Unit},(w.aW.all (Qs p w.aW.length)=W->Ev (λn=>BK n (⟨p,w⟩,())) r)->(w.aW.all (Qs p w.aW.length)=J->((J,()),())=r)->Ev (λn=>F99 n (⟨p,w⟩,())) r:=by intro r C G;unfold F99;refine Ev.congr (λn=>rF (show(w.aW.length:Int)<=120 by omega) _ _) ?_;refine Ev.M0 (l:=w.aW) aT (Qs p w.aW.length) (λn a=>F163 n (⟨p,w⟩,a,())) (λc=>.ret () c) (λn c=>rfl) (by omega) wX (λa u=>am4 v (B a u)) (λj=>C j) (λj i=>?_);rw[<-G j];exact Ev.of_eq λn=>by show TL.aj (D.aO (D.ek 0 (i:Int))) (BK n (⟨p,w⟩,())) (wJ n)=_;rw[Sd];rfl
 cases d:w.aW.all (Qs p w.aW.length)with
 |false=>exact⟨J,go (λh=>by rw[d]at h;cases h) (λ_=>rfl),bad λh=>by rw[eA.2 λo m=>Cu.2 (h.2.1 o m)]at d;cases d⟩
 |true=>
 have s:∀o∈w.aW,gr p w.aW.length o:=λo m=>Cu.1 (eA.1 d o m)
 suffices h:∃b,Ev (λn=>BK n (⟨p,w⟩,())) ((b,()),())∧(b=W↔Ci w∧w.gH.length<=100∧(∀o∈w.gH,DI o=W)∧Ab w.uI=W∧tY w.Used 0 1000000000=W)by obtain⟨b,H,m⟩:=h;exact⟨b,go (λ_=>H) (λh=>by rw[d]at h;cases h),m.trans ⟨λh=>⟨by omega,s,h⟩,λh=>h.2.2⟩⟩
 cases z with
 |false=>exact⟨J,by unfold BK;exact Ev.ai g (Ev.of_eq λn=>rfl),bad λh=>by have:=k.2 h.1;cases this⟩
 |true=>
 by_cases h2:100<w.gH.length
 .exact ⟨J,by unfold BK;exact Ev.ai g (Ev.of_eq λn=>by simp(disch:=omega)only[aQ]<;>rfl),bad λh=>by omega⟩
 have t:Ev (λn=>Ng n (⟨p,w⟩,())) ((Ab w.uI&&tY w.Used 0 1000000000,()),()):=by unfold Ng;refine Ev.ai (e47 e.ins) (Ev.of_eq λn=>?_);simp only[aQ,SZ];cases Ab w.uI<;>rfl
 refine⟨w.gH.all DI&&(Ab w.uI&&tY w.Used 0 1000000000),?_,?_⟩
 .unfold BK;refine Ev.ai g (Ev.congr (λn=>rF (show(w.gH.length:Int)<=100 by omega) _ _) ?_);refine Ev.M0 (l:=w.gH) gx DI (λn a=>F166 n (a,())) (λc=>.ret () c) (λn c=>rfl) (by omega) wX (λa u=>Ev.of_eq λn=>am2 n a) (λj=>?_) (λj i=>?_)
  .rw[j,dM];exact t
  .rw[j,fG];exact Ev.of_eq λn=>by show TL.aj (D.aO (D.ek 0 (i:Int))) (Ng n (⟨p,w⟩,())) (wJ n)=_;rw[Sd];rfl
 .simp only[dR,eA];exact⟨λ⟨a,b,c⟩=>⟨k.1 rfl,by omega,a,b,c⟩,λ⟨_,_,a,b,c⟩=>⟨a,b,c⟩⟩
end
end
section
section
variable {p:aA}{w:aa}{at_:Int}
def aaz:Option (aa×Option aE)->Int
 |none=>2
 |some (_,Y)=>0
 |some (_,Z _)=>1
variable {r:Option (aa×Option aE)}{q:Int->Bool}{n pick:Int}
def Ul:D.aI (aaz r) 2=!r.isSome:=by
 match r with
 |none=>rfl
 |some (_,Y)=>rfl
 |some (_,Z _)=>rfl
def anh(hp:mW p)(hw:gu p w)(b:0<=at_)(h1:at_<w.bf.length):Ev (λn=>F110 n (⟨p,w⟩,at_,())) ((aaz (gw p w at_),()),()):=by
 unfold F110;refine Ev.ai (e70 hp hw b h1) (Ev.of_eq λn=>?_)
 match gw p w at_ with
 |none=>rfl
 |some (_,Y)=>rfl
 |some (_,Z _)=>rfl
def ep(p:aA)(w:aa):List Int:=(qN w.bf.length).filter λi=>(gw p w i).isSome
def NN{x:Int}:x∈ep p w↔0<=x∧x<w.bf.length∧(gw p w x).isSome=W:=by
 unfold ep qN;simp only[List.mem_filter,tK,KW];constructor
 .rintro ⟨⟨i,hi,rfl⟩,h⟩
  exact⟨by omega,by omega,h⟩
 .rintro ⟨h1,h2,h3⟩
  exact⟨⟨x.toNat,by omega,by omega⟩,h3⟩
def Dk:(ep p w).length<=w.bf.length:=fC (List.length_filter_le _ _) (by rw[yG];exact bP _)
def HN(i:Nat):(qN (i+1)).filter q=(qN i).filter q++(bif q (i:Int)then[(i:Int)]else[]):=by rw[Hs,List.filter_append];cases h:q (i:Int)<;>simp[h]
def Mg(i:Nat):((qN i).filter q).length<=i:=fC (List.length_filter_le _ _) (by rw[yG];exact bP _)
def e68(hp:mW p)(hw:gu p w):Ev (λn=>F68 n (rb p w,())) ((ep p w,()),rb p w,()):=by have d:=hw.tl;have b:=hw.len;unfold F68;refine Ev.aP (j9 w.bf.length (λi=>((qN i).filter λi=>(gw p w i).isSome,(i:Int),())) 0 (λi hi=>?_) (Ev.of_eq λn=>by simp(disch:=omega)only[aQ])) (λn c=>_) _ (Ev.of_eq λn=>rfl);have hf:=Mg (q:=λi=>(gw p w i).isSome) i;rw[HN];refine Ev.congr (λn=>mX (show(i:Int)<(w.bf.length:Int)by omega) _ _) ?_;refine Ev.ai (anh hp hw (by omega) (show(i:Int)<w.bf.length by omega)) (Ev.of_eq λn=>?_);simp only[Ul];cases(gw p w (i:Int)).isSome<;>simp(disch:=first|omega|simp only[kS];omega)only[aQ,bF,dW,eg,iT,BR,yz]
def Wu:D.aI (Au w r).aam 2=!r.isSome:=by
 match r with
 |none=>rfl
 |some (_,Y)=>rfl
 |some (_,Z _)=>rfl
def e39(hp:mW p)(hw:gu p w):Ev (λn=>F39 n (p,w,())) ((ep p w,()),()):=by have d:=hw.tl;have b:=hw.len;unfold F39;refine Ev.aP (j9 w.bf.length (λi=>((qN i).filter λi=>(gw p w i).isSome,(i:Int),())) 0 (λi hi=>?_) (Ev.of_eq λn=>by simp(disch:=omega)only[aQ])) (λn c=>_) _ (Ev.of_eq λn=>rfl);have hf:=Mg (q:=λi=>(gw p w i).isSome) i;rw[HN];refine Ev.congr (λn=>mX (show(i:Int)<(w.bf.length:Int)by omega) _ _) ?_;refine Ev.ai (d40 hp hw (by omega) (show(i:Int)<w.bf.length by omega)) (Ev.of_eq λn=>?_);simp only[Wu];cases(gw p w (i:Int)).isSome<;>simp(disch:=first|omega|simp only[kS];omega)only[aQ,bF,dW,eg,iT,BR,yz]
def I2(a n:Int):Int:=bif D.bN (a.tmod n) 0 then a.tmod n+n else a.tmod n
def N2(a:Int)(h:0<n):0<=I2 a n∧I2 a n<n:=by
 have h1:=Int.tmod_lt_of_pos a h;have h2:=Int.lt_tmod_of_pos a h;unfold I2;cases b:D.bN (a.tmod n) 0 with
 |true=>have:=vn.1 b;rw[cG];omega
 |false=>
  rw[dP];have:¬a.tmod n<0:=λh=>by rw[ae7 h]at b;cases b
  omega
def Qv(a:Int)(h:0<n)(b:n<=1000)(d:D.bN (a.tmod n) 0=W):D.add .i64 (a.tmod n) n=a.tmod n+n:=by have h1:=Int.tmod_lt_of_pos a h;have h2:=Int.lt_tmod_of_pos a h;exact bF (by omega) (by omega)
inductive WY where
 |Ge
 |idle (w:aa)
 |ok (w:aa) (e:aE) (s:Nat)
def Qm(p:aA)(w:aa)(pick:Int):Int:=(ep p w).getD (I2 pick (ep p w).length).toNat 0
def jZ(p:aA)(w:aa)(pick:Int):WY:=match en p w.bf.length 0 w 0 with
 |none=>.Ge
 |some (b,i)=>if ep p b=[]then .idle b else match gw p b (Qm p b pick)with
  |none=>.idle b
  |some (d,e)=>match en p d.bf.length 0 d (i+1)with
   |none=>.Ge
   |some (j,g)=>if 5000<g then .Ge else .ok j (e.getD aZ) g
def DC(h:ep p w≠[]):0<=Qm p w pick∧Qm p w pick<w.bf.length∧∃r,gw p w (Qm p w pick)=Z r:=by have d:0<(ep p w).length:=Ds.2 h;have e:=N2 pick (n:=((ep p w).length:Int)) (by omega);obtain⟨a,b,c⟩:=NN.1 (bX (l:=ep p w) (0:Int) (i:=(I2 pick (ep p w).length).toNat) (by omega));exact⟨a,b,UE.1 c⟩
def gn(hp:mW p)(hw:gu p w){s:Nat}{w':aa}{s':Nat}(h:en p w.bf.length 0 w s=Z (w',s')):gu p w'∧w'.bf=w.bf∧s<=s'∧(s'<=s∨s'<=5000):=
 Db hp _ 0 w s w' s' hw (by omega) h
def Kw(hp:mW p)(hw:gu p w):match jZ p w pick with
  | .Ge=>True
  | .idle i=>gu p i∧i.bf=w.bf∧∃s,en p w.bf.length 0 w 0=Z (i,s)
  | .ok j e s=>gu p j∧∃g t,gu p g∧en p g.bf.length 0 g t=Z (j,s):=by
 unfold jZ;cases h1:en p w.bf.length 0 w 0 with
 |none=>trivial
 |some r=>
  obtain⟨i,k⟩:=r;obtain⟨a,b,c,d⟩:=gn hp hw h1;simp only;by_cases l:ep p i=[]
  .rw[bJ l];exact⟨a,b,k,rfl⟩
  rw[br l];obtain⟨u,v,r,m⟩:=DC (pick:=pick) l;rw[m];obtain⟨g,e⟩:=r;obtain⟨q,_,_⟩:=mI hp a u v m;simp only;cases h2:en p g.bf.length 0 g (k+1)with
  |none=>trivial
  |some r=>
   obtain⟨j,y⟩:=r;simp only;by_cases h5:5000<y
   .rw[bJ h5];trivial
   .rw[br h5];exact⟨(gn hp q h2).1,g,k+1,q,h2⟩
def vZ(p:aA)(R:RB×Unit):WY->(aE×Int×Int×Unit)×RB×Unit
 | .Ge=>((aZ,0,8,()),R)
 | .idle b=>((aZ,0,5,()),rb p b,())
 | .ok d e s=>((e,(s:Int),0,()),rb p d,())
def Wz{α:Type}{a:Int}(h:a≠0)(x:Option α):aC (nzI a) x=x:=by simp[nzI,aC,h]
def e59(hp:mW p)(hw:gu p w)(pick:Int):∃R,Ev (λn=>F59 n (rb p w,pick,())) (vZ p R (jZ p w pick)):=by
 unfold jZ;rcases e50 hp hw (s:=0) (by omega)with⟨d,m,a,b⟩|⟨a,R,b⟩;rotate_left
 .rw[a];exact⟨R,Ev.ai b (Ev.of_eq λn=>rfl)⟩
 rw[a];simp only;obtain⟨g,X,k3,k4⟩:=gn hp hw a;have hl:=g.tl;have K:=g.len;have L:=Dk (p:=p) (w:=d);by_cases j:ep p d=[]
 .rw[bJ j];refine⟨(rb p w,()),Ev.ai b (Ev.ai (e68 hp g) (Ev.of_eq λn=>?_))⟩;simp only[j];rfl
 rw[br j];obtain⟨u,v,r,t⟩:=DC (pick:=pick) j;rw[t];obtain⟨M,e⟩:=r;obtain⟨y,_,_⟩:=mI hp g u v t;have z:0<(ep p d).length:=Ds.2 j;have C:=N2 pick (n:=((ep p d).length:Int)) (by omega);have k:D.add .i64 (m:Int) 1=((m+1:Nat):Int):=by rw[bF (by omega) (by omega)];omega
 have key:∀{R:(aE×Int×Int×Unit)×RB×Unit},(Ev (λn=>ai (F50 n (rb p M,((m+1:Nat):Int),())) λi=>aj (D.aO i.1.2.1) (Nk n i) (aj (D.bN 5000 i.1.1) (Nk n i) (Z ((e.getD aZ,i.1.1,0,()),i.2)))) R)->Ev (λn=>F59 n (rb p w,pick,())) R:=by
  intro R h;unfold F59;refine Ev.ai b (Ev.ai (e68 hp g) ?_);have l:∀{R B P:Type},∃G,(TL.aj (D.bN (D.rem pick (ak (ep p d))) 0) (Z (LO.next (R:=R) (B:=B) (P:=P) (D.add .i64 (D.rem pick (ak (ep p d))) (ak (ep p d)),W,()))) (Z (LO.next (D.rem pick (ak (ep p d)),J,()))))=Z (LO.next (I2 pick (ep p d).length,G,())):=by intro R B P;unfold I2;rw[show D.rem pick (ak (ep p d))=pick.tmod (ep p d).length from rfl];cases O:D.bN (pick.tmod (ep p d).length) 0 with|true=>exact⟨W,by rw[cG,<-Qv pick (by omega) (by omega) O];rfl⟩|false=>exact⟨J,rfl⟩
  refine Ev.congr (λn=>IE (show ¬((ep p d).length:Int)=0 by omega) _ _) ?_;refine Ev.congr (λn=>Wz (show((ep p d).length:Int)≠0 by omega) _) ?_;obtain⟨G,S⟩:=l;refine Ev.ai (Ev.of_eq λn=>S) ?_;refine Ev.congr (λn=>bG ..) ?_;refine Ev.congr (λn=>ze C.1 C.2 _) ?_;have H:=e70 hp g u v;rw[t]at H;refine Ev.ai H ?_;refine Ev.congr (λn=>?_) h;simp only[k];cases e<;>rfl
 rcases e50 hp y (s:=m+1) (by omega)with⟨I,U,a3,q⟩|⟨a3,R,q⟩
 .simp only[a3];have h3:=(gn hp y a3).2.2;by_cases h5:5000<U
  .rw[bJ h5];exact⟨(rb p I,()),key (Ev.ai q (Ev.of_eq λn=>by simp(disch:=omega)only[aQ]<;>rfl))⟩
  .rw[br h5];exact⟨(rb p I,()),key (Ev.ai q (Ev.of_eq λn=>by simp(disch:=omega)only[aQ]<;>rfl))⟩
 .simp only[a3];exact⟨R,key (Ev.ai q (Ev.of_eq λn=>rfl))⟩
def e64(n:Nat)(a:Int){m:Int}(h:0<m)(b:m<=1000):F64 n (a,m,())=Z ((I2 a m,()),()):=by unfold F64 I2;rw[show D.rem (a,m,()).1 (a,m,()).2.1=a.tmod m from rfl];refine(Wz (show m≠0 by omega) _).trans ?_;cases d:D.bN (a.tmod m) 0 with|true=>rw[cG,<-Qv a h b d];rfl|false=>rfl
def TW(W:aa):WY->(aa×aE×Int×Int×Unit)×Unit
 | .Ge=>((W,aZ,0,8,()),())
 | .idle b=>((b,aZ,0,5,()),())
 | .ok d e s=>((d,e,(s:Int),0,()),())
def e34(hp:mW p)(hw:gu p w)(pick:Int):∃W,Ev (λn=>F34 n (p,w,pick,())) (TW W (jZ p w pick)):=by
 unfold jZ;rcases e33 hp hw (s:=0) (by omega)with⟨d,i,a,b⟩|⟨a,d,i,b⟩;rotate_left
 .rw[a];exact⟨d,Ev.ai b (Ev.of_eq λn=>rfl)⟩
 rw[a];simp only;obtain⟨g,K,L,M⟩:=gn hp hw a;have O:=g.tl;have G:=g.len;have H:=Dk (p:=p) (w:=d);by_cases j:ep p d=[]
 .rw[bJ j];refine⟨w,Ev.ai b (Ev.ai (e39 hp g) (Ev.of_eq λn=>?_))⟩;simp only[j];rfl
 rw[br j];obtain⟨t,u,r,q⟩:=DC (pick:=pick) j;rw[q];obtain⟨I,e⟩:=r;obtain⟨v,_,_⟩:=mI hp g t u q;have y:0<(ep p d).length:=Ds.2 j;have z:=N2 pick (n:=((ep p d).length:Int)) (by omega);have k:D.add .i64 (i:Int) 1=((i+1:Nat):Int):=by rw[bF (by omega) (by omega)];omega
 have key:∀{R:(aa×aE×Int×Int×Unit)×Unit},(Ev (λn=>ai (F33 n (p,I,((i+1:Nat):Int),())) λh=>aj (D.aO h.1.2.2.1) (Nl n h) (aj (D.bN 5000 h.1.2.1) (Nl n h) (Z ((h.1.1,e.getD aZ,h.1.2.1,0,()),())))) R)->Ev (λn=>F34 n (p,w,pick,())) R:=by intro R h;refine Ev.ai b (Ev.ai (e39 hp g) ?_);refine Ev.congr (λn=>IE (show ¬((ep p d).length:Int)=0 by omega) _ _) ?_;refine Ev.ai (Ev.of_eq λn=>e64 n pick (show 0<((ep p d).length:Int)by omega) (show((ep p d).length:Int)<=1000 by omega)) ?_;refine Ev.congr (λn=>ze z.1 z.2 _) ?_;have B:=d40 hp g t u;rw[q]at B;refine Ev.ai B ?_;refine Ev.congr (λn=>?_) h;simp only[k];cases e<;>rfl
 rcases e33 hp v (s:=i+1) (by omega)with⟨l,C,a3,m⟩|⟨a3,l,C,m⟩
 .simp only[a3];have h3:=(gn hp v a3).2.2;by_cases h5:5000<C
  .rw[bJ h5];exact⟨l,key (Ev.ai m (Ev.of_eq λn=>by simp(disch:=omega)only[aQ]<;>rfl))⟩
  .rw[br h5];exact⟨l,key (Ev.ai m (Ev.of_eq λn=>by simp(disch:=omega)only[aQ]<;>rfl))⟩
 .simp only[a3];exact⟨l,key (Ev.ai m (Ev.of_eq λn=>rfl))⟩
end
end
section
section
variable {p:aA}{w w':aa}{left:List au}{f:au}{at_ t:Int}{v u:aq}
structure Ex(w w':aa)(t:Int):Prop where
 le:w.aW.length<=w'.aW.length
 same:∀x:Int,0<=x->x<w.aW.length->x≠t->cn w' x=cn w x
 f1:(cn w t).Form=6
 f2:(cn w' t).Form=6
def Pl(r:o8):Prop:=∃w fr bk,r=.go w fr bk Y
structure Q(w:aa)(r r':o8):Prop where
 one:∀w1 fr bk,r=.go w1 fr bk Y->w1=w∨∃o,w1=fO w o
 two:Pl r'->Pl r
variable {r:o8}{env:List aq}{o:aD}
def Q.FK{b:o8}(h:¬Pl r)(d:¬Pl b):Q w r b:=⟨λg fr bk e=>absurd ⟨_,_,_,e⟩ h,λe=>absurd e d⟩
def dj{s:Int}:¬Pl (.fail s):=λ⟨_,_,_,h⟩=>by cases h
def yH:¬Pl .waits:=λ⟨_,_,_,h⟩=>by cases h
def wo{w:aa}{fr:List au}{bk:List aq}{e:aE}:¬Pl (.go w fr bk (Z e)):=λ⟨_,_,_,h⟩=>by cases h
def UX{op n:Int}:¬Pl (evS at_ op n v r):=λ⟨_,_,_,h⟩=>by cases r<;>cases h
def Q.back{v d:aq}{b:List au}:Q w (fD w left v) (fD w' b d):=⟨λg fr bk e=>by cases e;exact .inl rfl,λ_=>⟨_,_,_,rfl⟩⟩
def Q.UW{node:Int}{b:List aq}(h:b.length=env.length):Q w (jf w left node env) (jf w' left node b):=by
 unfold jf;rw[h];split
 .exact Q.FK dj dj
 .exact ⟨λd fr bk e=>by cases e;exact .inl rfl,λ_=>⟨_,_,_,rfl⟩⟩
def Q.made(b:Ex w w' t):Q w (lN w left o) (lN w' left o):=by
 have:=b.le;unfold lN;by_cases h:120<=w.aW.length
 .rw[bJ h,bJ (by omega)];exact Q.FK dj dj
 .rw[br h];exact⟨λd fr bk e=>by cases e;exact .inr ⟨_,rfl⟩,λ_=>⟨_,_,_,rfl⟩⟩
def IZ(e:Ex w w' t)(i:cC p w.aW.length v){d:Int}(hf:d≠6):gM w' v d=gM w v d:=by
 unfold gM;by_cases h5:v.Kind=5
 .obtain ⟨a,b⟩:=i.ref h5;by_cases g:v.N=t
  .rw[g,br (by rw[e.f2];omega),br (by rw[e.f1];omega)]
  .rw[e.same _ a b g]
 .rw[br (by omega),br (by omega)]
def WI(b:Ex w w' t)(d:cC p w.aW.length v):g8 p w' v u=g8 p w v u:=by unfold g8;rw[IZ b d (by decide)]
mutual
def U7(hw:gu p w)(d:Ex w w' t):∀(q:aB)(v:aq),cC p w.aW.length v->iw w' q v=iw w q v
 |⟨e,n,text,parts⟩,v,g=>by unfold iw;rw[IZ d g (by decide)];cases i:gM w v 1 with|none=>rfl|some o=>simp only[Mtx hw d parts o.bH (dS hw g i).2.1.vals]
def Mtx(hw:gu p w)(d:Ex w w' t):∀(qs:List aB)(vs:List aq),(∀v∈vs,cC p w.aW.length v)->eI w' qs vs=eI w qs vs
 |[],vs,_=>by cases vs<;>rfl
 |_::_,[],_=>rfl
 |q::qs,v::vs,h=>by unfold eI;rw[U7 hw d q v (h v List.mem_cons_self),Mtx hw d qs vs (λv hv=>h v (List.mem_cons_of_mem _ hv))]
end
def QV(hw:gu p w)(d:Ex w w' t)(e:cC p w.aW.length u){env:List aq}:∀(qs:List aB)(b:List Int),Q w (mc w left env u qs b) (mc w' left env u qs b)
 |[],b=>by cases b<;>exact Q.FK dj dj
 |_::_,[]=>Q.FK dj dj
 |q::qs,k::b=>by unfold mc;rw[U7 hw d q u e];cases iw w q u with|some l=>exact Q.UW rfl|none=>exact QV hw d e qs b
def aeY(c:Cx p w left f)(d:Ex w w' t):Q w (iI p w at_ left f) (iI p w' at_ left f):=by
 have q:=d.le;have nd:=c.nd;have h1:=nd.lo;have h2:=nd.hi;obtain⟨k,b⟩:∃k:Nat,(nodeAt p f.Node).Op=k:=⟨_,(zW (by omega)).symm⟩;have g:1<=k:=by omega
 have j:k<=28:=by omega
 unfold iI;simp only[b,FY]
 match k,b,g,j with
 |1,_,_,_|2,_,_,_|3,_,_,_|26,_,_,_=>exact Q.back
 |4,_,_,_=>
  simp only;split
  .exact Q.back
  .split
   .exact Q.FK dj dj
   .exact Q.back
 |5,_,_,_|14,_,_,_=>exact Q.made d
 |6,b,_,_=>
  have l:=c.vl b (by decide);simp[dL]at l;have v0:=c.val (i:=0) (by omega);simp only;unfold AG;rw[IZ d v0 (by decide),WI d v0];split
  .split
   .exact Q.FK dj dj
   .exact Q.back
  .split
   .exact Q.FK dj dj
   .exact Q.UW rfl
 |7,_,_,_=>exact Q.UW rfl
 |8,_,_,_=>
  simp only;split
  .exact Q.FK dj dj
  .exact Q.UW rfl
 |9,_,_,_|10,_,_,_|11,_,_,_|12,_,_,_|13,_,_,_=>
  simp only;unfold um;simp only
  repeat' split
  all_goals first|exact Q.back|exact Q.FK dj dj
 |15,b,_,_=>have l:=c.vl b (by decide);simp[dL]at l;exact QV c.hw d (c.val (i:=0) (by omega)) _ _
 |16,_,_,_|21,_,_,_=>exact Q.FK UX UX
 |17,_,_,_=>
  simp only;unfold SL;refine Q.FK ?_ ?_<;>split<;>first|exact dj|exact wo
 |18,_,_,_=>
  simp only;unfold hY;refine Q.FK ?_ ?_<;>split<;>first|exact dj|exact wo
 |19,_,_,_=>
  simp only;unfold zN;refine Q.FK ?_ ?_<;>(repeat' split)<;>first|exact dj|exact wo
 |20,_,_,_=>
  simp only;unfold HB;refine Q.FK ?_ ?_<;>(repeat' split)<;>first|exact dj|exact wo|exact yH
 |22,_,_,_=>
  simp only;unfold GM;refine Q.FK ?_ ?_<;>(repeat' split)<;>first|exact dj|exact wo|exact yH
 |23,_,_,_=>
  simp only;unfold GI;refine Q.FK ?_ ?_<;>(repeat' split)<;>first|exact dj|exact wo|exact yH
 |24,_,_,_=>
  simp only;unfold RU;refine Q.FK ?_ ?_<;>(repeat' split)<;>first|exact dj|exact wo|exact yH
 |25,_,_,_=>
  simp only;unfold inS;refine Q.FK ?_ ?_<;>(repeat' split)<;>first|exact dj|exact wo|exact yH
 |27,_,_,_=>
  simp only;unfold zQ;split
  .exact Q.FK dj dj
  .rename_i r s;by_cases h:120<=w.aW.length
   .rw[bJ h,bJ (by omega)];exact Q.FK dj dj
   .rw[br h];unfold jf;by_cases m:40<=(left.take (r+1)).length∨30<(f.Env++[tJ w.aW.length]).length
    .rw[bJ m];refine Q.FK dj ?_;split
     .exact dj
     .rw[bJ (by simpa using m)];exact dj
    .rw[br m];exact⟨λu fr bk e=>by cases e;exact .inr ⟨_,rfl⟩,λ_=>⟨_,_,_,rfl⟩⟩
 |28,_,_,_=>exact Q.FK wo wo
 |k+29,_,_,h=>omega
def Ex.refl(h:(cn w t).Form=6):Ex w w t:=⟨bP _,λ_ _ _ _=>rfl,h,h⟩
def aaV(hp:mW p)(hw:gu p w)(hf:o.Form=6)(hn:o.N=0)(j:o.Frames≠[])(q:gr p w.aW.length o)(r:Ex w w' t):Q w (V3 p w at_ o) (V3 p w' at_ o):=by
 obtain⟨l,g,d⟩:∃l g,o.Frames=l++[g]:=⟨_,_,vo j⟩;obtain⟨m,s,k,b⟩:=yF q hf hn d;have u:o.Frames.length-1=l.length:=by rw[d];simp
 have y:o.Frames.getD l.length aU=g:=by rw[d];simp
 have z:o.Frames.take l.length=l:=by rw[d];simp
 unfold V3;simp only[u,y,z];rcases b with b|⟨v,b,_⟩
 .rw[b];simp only;by_cases i:(g.bH.length:Int)<jh (nodeAt p g.Node)
  .rw[bJ i,bJ i];exact Q.UW rfl
  .rw[br i,br i];exact aeY ⟨hp,hw,m,by have:=m.vl;omega,k,s⟩ r
 .rw[b];exact⟨λB fr bk e=>by cases e;exact .inl rfl,λ_=>⟨_,_,_,rfl⟩⟩
def oz(p:aA)(w:aa)(i:Int):Prop:=∃x,gw p w i=Z (x,Y)
def Lr(d:cn w (bT w at_)=o):oz p w at_↔o.N=0∧o.Frames≠[]∧Pl (V3 p w at_ o):=by
 subst d;unfold oz gw;simp only;constructor
 .rintro ⟨x,h⟩
  split at h
  .cases h
  .rename_i j;split at h
   .cases h
   .rename_i g;refine⟨by omega,g,?_⟩;split at h
    .cases h
    .cases h
    .rename_i i fr bk e b;cases h;exact⟨_,_,_,b⟩
 .rintro ⟨h1,h2,i,fr,bk,b⟩
  rw[br (by omega),br h2,b];exact⟨_,rfl⟩
def u5{x:Int}(d:0<=t)(e:0<=x):cn (lH w t o) x=if x=t∧x<w.aW.length then o else cn w x:=by
 unfold cn lH;simp only[j6,Dq];by_cases h:t.toNat=x.toNat
 .have:x=t:=by omega
  subst this;rw[bJ rfl];by_cases b:x.toNat<w.aW.length
  .rw[bJ b,bJ ⟨rfl,by omega⟩];rfl
  .rw[br b,br (by omega),Gb (by omega)]
 .rw[br h,br (by omega)]
def UN(hp:mW p)(hw:gu p w)(g:0<=at_)(h1:at_<w.bf.length)(hs:gw p w at_=Z (w',Y)):w'.bf=w.bf∧Ex w w' (bT w at_):=by
 refine⟨(mI hp hw g h1 hs).2.2 rfl,?_⟩;have i:=hw.task _ (bX 0 (show at_.toNat<w.bf.length by omega));obtain⟨t1,t2,t3⟩:=i;have d:=hw.ob t1 t2;change 0<=bT w at_ at t1;change bT w at_<_ at t2;change(cn w (bT w at_)).Form=6 at t3;change gr p _ (cn w (bT w at_))at d;unfold gw at hs;simp only at hs;split at hs
 .cases hs
 rename_i l;split at hs
 .cases hs
 rename_i j;have q:=aaV (at_:=at_) (w':=w) hp hw t3 (by omega) j d (Ex.refl t3);split at hs
 .cases hs
 .cases hs
 rename_i m fr bk e k;cases hs;rcases q.one _ _ _ k with rfl|⟨o,rfl⟩
 .refine ⟨by simp[lH],λx a b c=>?_,t3,?_⟩
  .rw[u5 t1 a,br (λh=>c h.1)]
  .rw[u5 t1 t1,bJ ⟨rfl,t2⟩]
 .have e:∀x:Int,0<=x->x<w.aW.length->cn (fO w o) x=cn w x:=λx a b=>by unfold cn fO;simp only[j6];rw[Lj (by omega)]
  refine⟨by simp[lH,fO],λx a b c=>?_,t3,?_⟩
  .rw[u5 t1 a,br (λh=>c h.1),e x a b]
  .rw[u5 t1 t1,bJ ⟨rfl,by simp[fO];omega⟩]
def NV(hp:mW p)(hw:gu p w)(k:w'.bf=w.bf)(g:Ex w w' (bT w at_)){j:Int}(m:0<=at_)(h1:at_<w.bf.length)(q:0<=j)(r:j<w.bf.length)(s:j≠at_)(h:oz p w' j):oz p w j:=by
 have l:=hw.task _ (bX 0 (show j.toNat<w.bf.length by omega));obtain⟨t1,t2,t3⟩:=l;have i:=hw.ob t1 t2;change 0<=bT w j at t1;change bT w j<_ at t2;change(cn w (bT w j)).Form=6 at t3;change gr p _ (cn w (bT w j))at i;have d:bT w j≠bT w at_:=by
  unfold bT;intro e;rw[j6,j6,fP (show j.toNat<w.bf.length by omega),fP (show at_.toNat<w.bf.length by omega)]at e;have:=(RK.1 hw.vT);rcases Nat.lt_trichotomy j.toNat at_.toNat with h|h|h
  .exact this _ _ (by omega) (by omega) h e
  .omega
  .exact this _ _ (by omega) (by omega) h e.symm
 have e:cn w' (bT w' j)=cn w (bT w j):=by rw[show bT w' j=bT w j by unfold bT;rw[k]];exact g.same _ t1 t2 d
 obtain⟨a,b,c⟩:=(Lr e).1 h;exact(Lr rfl).2 ⟨a,b,(aaV hp hw t3 a b i g).two c⟩
def Dh(hp:mW p):∀(k:Nat)(w:aa)(s:Nat)(w':aa)(s':Nat),gu p w->0<=at_->at_<w.bf.length->yg p at_ k w s=Z (w',s')->
  ¬oz p w' at_∧∀j:Int,0<=j->j<w.bf.length->j≠at_->¬oz p w j->¬oz p w' j
 |0,_,_,_,_,_,_,_,h=>by cases h
 |k+1,w,s,w',s',hw,i,h1,h=>by
  unfold yg at h;cases g:gw p w at_ with
  |none=>rw[g]at h;cases h;exact⟨(λ⟨x,d⟩=>by rw[g]at d;cases d),λ_ _ _ _ h=>h⟩
  |some r=>
   obtain⟨u,e⟩:=r;rw[g]at h;cases e with
   |some e=>cases h;exact⟨(λ⟨x,d⟩=>by rw[g]at d;cases d),λ_ _ _ _ h=>h⟩
   |none=>
    obtain⟨v,_,_⟩:=mI hp hw i h1 g;obtain⟨l,d⟩:=UN hp hw i h1 g;simp only at h;split at h
    .cases h
    .obtain ⟨a,b⟩:=Dh hp k u (s+1) w' s' v i (by rw[l];exact h1) h;exact⟨a,λj m q t y=>b j m (by rw[l];exact q) t λz=>y (NV hp hw l d i h1 m q t z)⟩
def v7(hp:mW p):∀(m i:Nat)(w:aa)(s:Nat)(w':aa)(s':Nat),gu p w->i+m<=w.bf.length->en p m i w s=Z (w',s')->
  (∀j:Int,0<=j->j<i->¬oz p w j)->∀j:Int,0<=j->j<i+m->¬oz p w' j
 |0,i,w,s,w',s',hw,hi,h,g=>by cases h;simpa using g
 |m+1,i,w,s,w',s',hw,hi,h,g=>by
  unfold en at h;split at h
  .cases h
  .rename_i k l q;obtain⟨a,b,_,_⟩:=yf hp _ w s k l hw (by omega) (by omega) q;obtain⟨c,d⟩:=Dh hp _ w s k l hw (by omega) (by omega) q;have:=v7 hp m (i+1) k l w' s' a (by rw[b];omega) h (λj e t=>by
    by_cases r:j=i
    .subst r;exact c
    .exact d j e (by omega) r (g j e (by omega)))
   exact λj e t=>this j e (by omega)
def zw(p:aA)(w:aa):Prop:=∀j:Int,0<=j->j<w.bf.length->¬oz p w j
def nB(hp:mW p)(hw:gu p w){s s':Nat}(h:en p w.bf.length 0 w s=Z (w',s')):zw p w':=by obtain⟨a,b,_,_⟩:=gn hp hw h;have:=v7 hp _ 0 w s w' s' hw (by omega) h (λj a b=>by omega);exact λj d e=>this j d (by rw[b]at e;omega)
def RI(h:¬oz p w at_)(k s:Nat):yg p at_ (k+1) w s=Z (w,s):=by
 unfold yg;cases b:gw p w at_ with
 |none=>rfl
 |some r=>
  obtain⟨d,e⟩:=r;cases e with|some e=>rfl|none=>exact absurd ⟨d,b⟩ h
def yj(b:zw p w):∀(m i s:Nat),i+m<=w.bf.length->en p m i w s=Z (w,s)
 |0,_,_,_=>rfl
 |m+1,i,s,h=>by unfold en;rw[RI (b (i:Int) (by omega) (by omega)) 5001 s];exact yj b m (i+1) s (by omega)
end
end
section
section
variable {p:aA}{w:aa}
variable {k:Int}{w1:aa}{l:List aE}{cN:List Int}
def Nz(hp:mW p)(hw:gu p w)(d:zw p w)(h:jZ p w k=.idle w1):w1=w:=by have:=Kw hp hw (pick:=k);rw[h]at this;obtain⟨_,_,s,b⟩:=this;rw[yj d _ 0 0 (by omega)]at b;cases b;rfl
def wT(hp:mW p)(hw:gu p w){e:aE}{s:Nat}(h:jZ p w k=.ok w1 e s):gu p w1∧zw p w1:=by have:=Kw hp hw (pick:=k);rw[h]at this;obtain⟨a,d,g,b,c⟩:=this;exact⟨a,nB hp b c⟩
def tM(p:aA):List Int->aa->Option (aa×List aE)
 |[],w=>Z (w,[])
 |k::b,w=>match jZ p w k with
  | .Ge=>Y
  | .idle _=>Z (w,[])
  | .ok d e _=>match tM p b d with
   |none=>Y
   |some (x,l)=>Z (x,e::l)
def DB(hp:mW p):∀(g:List Int){w x:aa}{l:List aE},gu p w->zw p w->tM p g w=Z (x,l)->gu p x∧zw p x∧l.length<=g.length
 |[],w,x,l,hw,j,h=>by cases h;exact⟨hw,j,bP _⟩
 |k::g,w,x,l,hw,j,h=>by
  unfold tM at h;cases i:jZ p w k with
  |Ge=>rw[i]at h;cases h
  |idle w1=>rw[i]at h;cases h;exact⟨hw,j,BP _⟩
  |ok w1 e s=>
   obtain⟨a,b⟩:=wT hp hw i;rw[i]at h;simp only at h;cases m:tM p g w1 with
   |none=>rw[m]at h;cases h
   |some r=>obtain⟨q,t⟩:=r;rw[m]at h;cases h;obtain⟨c,d,e⟩:=DB hp g a b m;exact⟨c,d,by simp only[fc];omega⟩
def Bi(p:aA)(w:aa)(b:List Int):Option (aa×List aE):=match en p w.bf.length 0 w 0 with
 |none=>Y
 |some (w1,_)=>tM p b w1
def UM(hp:mW p)(hw:gu p w){d:List Int}{x:aa}(h:Bi p w d=Z (x,l)):gu p x∧zw p x∧l.length<=d.length:=by
 unfold Bi at h;cases b:en p w.bf.length 0 w 0 with
 |none=>rw[b]at h;cases h
 |some r=>obtain⟨w1,s⟩:=r;rw[b]at h;exact DB hp d (gn hp hw b).1 (nB hp hw b) h
abbrev z5:Z5:=([],[],[],[],0,())
def QF{α:Type}{pre:List α}{k:α}{b:List α}{d:α}:(pre++k::b).getD pre.length d=k:=by simp
def Hh(hp:mW p){P:Type}{cN:List Int}(r:cN.length<=1000)(F:Nat->List aE×Int×Z5×RB×Unit->Option (LO (List aE×Int×Z5×RB×Unit) (List aE×Int×Unit) (Z5×RB×Unit) P))
  (t:∀n g,F n g=aj (D.bN g.2.1 (ak cN)) (aC (av g.2.1 cN) (ai (F59 n (g.2.2.2.1,aR cN (ah g.2.1) 0,())) λh=>aj (D.aI h.1.2.2.1 5) (Z (LO.out 0 (g.1,g.2.1,([],[],[],[],g.2.2.1.2.2.2.2),h.2))) (aj (D.aO (D.aI h.1.2.2.1 0)) (Z (LO.ret (([],[],[],[],0,()),h.2) ([],h.1.2.2))) (aC (cZ g.1 [h.1.1]) (Z (LO.next (cP g.1 [h.1.1],D.add .i64 g.2.1 1,([],[],[],[],g.2.2.1.2.2.2.2),h.2))))))) (Z (LO.out 0 (g.1,g.2.1,([],[],[],[],g.2.2.1.2.2.2.2),g.2.2.2)))) :
  ∀(m pre:List Int)(d:List aE)(w:aa),cN=pre++m->d.length<=pre.length->gu p w->zw p w->
  (∃w' l i,tM p m w=Z (w',l)∧eL F (d,(pre.length:Int),z5,rb p w,()) (.out 0 (d++l,i,z5,rb p w',())))∨
  (tM p m w=Y∧∃R,eL F (d,(pre.length:Int),z5,rb p w,()) (.ret (z5,R) ([],8,())))
 |[],pre,d,w,j,B,hw,u=>by refine .inl ⟨w,[],(pre.length:Int),rfl,?_⟩;rw[iT];refine .out (Ev.of_eq λn=>?_);rw[iT]at j;subst j;rw[t];simp(disch:=omega)only[aQ]
 |k::m,pre,d,w,j,B,hw,u=>by
  have v:pre.length<cN.length:=by rw[j];simp
  have C:cN.getD pre.length 0=k:=by rw[j];exact QF
  obtain⟨R,G⟩:=e59 hp hw k;have step:∀{o:LO (List aE×Int×Z5×RB×Unit) (List aE×Int×Unit) (Z5×RB×Unit) P},Ev (λn=>TL.aj (D.aI (vZ p R (jZ p w k)).1.2.2.1 5) (Z (LO.out 0 (d,(pre.length:Int),z5,(vZ p R (jZ p w k)).2))) (TL.aj (D.aO (D.aI (vZ p R (jZ p w k)).1.2.2.1 0)) (Z (LO.ret (z5,(vZ p R (jZ p w k)).2) ([],(vZ p R (jZ p w k)).1.2.2))) (TL.aC (cZ d [(vZ p R (jZ p w k)).1.1]) (Z (LO.next (cP d [(vZ p R (jZ p w k)).1.1],D.add .i64 (pre.length:Int) 1,z5,(vZ p R (jZ p w k)).2)))))) o->Ev (λn=>F n (d,(pre.length:Int),z5,rb p w,())) o:=by intro o h;refine Ev.congr (λn=>(t n _).trans (mX (show((pre.length:Nat):Int)<(cN.length:Int)by omega) _ _)) ?_;refine Ev.congr (λn=>ze (show(0:Int)<=pre.length by omega) (by omega) _) ?_;have e:aR cN (ah ((pre.length:Nat):Int)) 0=k:=C;simp only[e];exact Ev.ai G h
  unfold tM;cases q:jZ p w k with
  |Ge=>rw[q]at step;exact .inr ⟨rfl,R,.ret (step (Ev.of_eq λn=>rfl))⟩
  |idle w1=>rw[q]at step;have:=Nz hp hw u q;subst this;refine .inl ⟨w1,[],(pre.length:Int),rfl,?_⟩;rw[iT];exact .out (step (Ev.of_eq λn=>rfl))
  |ok w1 e s=>
   rw[q]at step;obtain⟨a,b⟩:=wT hp hw q;have z:Ev (λn=>F n (d,(pre.length:Int),z5,rb p w,())) (.next (d++[e],((pre++[k]).length:Int),z5,rb p w1,())):=by refine step (Ev.of_eq λn=>?_);have h1:([e]:List aE).length=1:=rfl;simp only[vZ];simp(disch:=omega)only[aQ,bF,iq,mZ,dW,eg]<;>rfl
   simp only;rcases Hh hp r F t m (pre++[k]) (d++[e]) w1 (by rw[j];simp) (by simp;omega) a b with⟨w',l,i,x,y⟩|⟨x,R,y⟩
   .refine .inl ⟨w',e::l,i,by rw[x],.next z ?_⟩;rw[p8]at y;exact y
   .exact .inr ⟨by rw[x],R,.next z y⟩
def aaB:Option (aa×List aE)->(aa×List aE×Int×Unit)×Unit
 |none=>((cA,[],8,()),())
 |some (w,l)=>((w,l,0,()),())
def ade(hp:mW p)(d:Ev (λn=>F46 n (p,())) ((0,()),()))(e:Ev (λn=>F99 n (⟨p,w⟩,())) ((W,()),()))(hw:gu p w)(hl:cN.length<=200) :
  Ev (λn=>F21 n (p,w,cN,())) (aaB (Bi p w cN)):=by
 unfold F21 Bi;refine Ev.ai d (Ev.ai e ?_);refine Ev.congr (λn=>rE (show(cN.length:Int)<=200 by omega) _ _) ?_;rcases e50 hp hw (s:=0) (by omega)with⟨w1,j,a,b⟩|⟨a,R,b⟩
 .rw[a];refine Ev.ai b ?_;have a1:=(gn hp hw a).1;have a2:=nB hp hw a;simp only;rcases Hh hp (P:=_) (cN:=cN) (by omega) _ (λn g=>rfl) cN [] [] w1 rfl (bP _) a1 a2 with⟨k,l,i,x,y⟩|⟨x,R,y⟩
  .rw[x];refine Ev.aP y (λn c=>_) _ ?_;exact Ev.ai (e51 hp (DB hp cN a1 a2 x).1) (Ev.pure _)
  .rw[x];exact Ev.aP y (λn c=>_) _ (Ev.of_eq λn=>rfl)
 .rw[a];exact Ev.ai b (Ev.of_eq λn=>rfl)
def EK(hp:mW p){P:Type}{cN:List Int}(r:cN.length<=1000)(F:Nat->List aE×Int×Z5×Z5×Unit->Option (LO (List aE×Int×Z5×Z5×Unit) (List aE×Int×Unit) (Z5×Z5×Unit) P))
  (t:∀n d,F n d=aj (D.bN d.2.1 (ak cN)) (aC (av d.2.1 cN) (ai (F34 n (p,Xx d,aR cN (ah d.2.1) 0,())) λe=>aj (D.aI e.1.2.2.2.1 5) (Z (LO.ret (d.2.2.1,d.2.2.1,()) (d.1,0,()))) (aj (D.aO (D.aI e.1.2.2.2.1 0)) (Z (LO.ret (d.2.2.1,Ip e,()) ([],e.1.2.2.2))) (aC (cZ d.1 [e.1.2.1]) (Z (LO.next (cP d.1 [e.1.2.1],D.add .i64 d.2.1 1,Ip e,d.2.2.2))))))) (Z (LO.out 0 d))) :
  ∀(m pre:List Int)(g:List aE)(w:aa),cN=pre++m->g.length<=pre.length->gu p w->zw p w->
  (∃w' l,tM p m w=Z (w',l)∧((∃i,eL F (g,(pre.length:Int),w5 w,z5,()) (.out 0 (g++l,i,w5 w',z5,())))∨∃x,eL F (g,(pre.length:Int),w5 w,z5,()) (.ret (x,w5 w',()) (g++l,0,()))))∨
  (tM p m w=Y∧∃x W,eL F (g,(pre.length:Int),w5 w,z5,()) (.ret (x,w5 W,()) ([],8,())))
 |[],pre,g,w,j,B,hw,C=>by refine .inl ⟨w,[],rfl,.inl ⟨(pre.length:Int),?_⟩⟩;rw[iT];refine .out (Ev.of_eq λn=>?_);rw[iT]at j;subst j;rw[t];simp(disch:=omega)only[aQ]
 |k::m,pre,g,w,j,B,hw,C=>by
  have v:pre.length<cN.length:=by rw[j];simp
  have G:cN.getD pre.length 0=k:=by rw[j];exact QF
  obtain⟨W,H⟩:=e34 hp hw k;have step:∀{o:LO (List aE×Int×Z5×Z5×Unit) (List aE×Int×Unit) (Z5×Z5×Unit) P},Ev (λn=>(λe:(aa×aE×Int×Int×Unit)×Unit=>TL.aj (D.aI e.1.2.2.2.1 5) (Z (LO.ret (w5 w,w5 w,()) (g,0,()))) (TL.aj (D.aO (D.aI e.1.2.2.2.1 0)) (Z (LO.ret (w5 w,Ip e,()) ([],e.1.2.2.2))) (TL.aC (cZ g [e.1.2.1]) (Z (LO.next (cP g [e.1.2.1],D.add .i64 (pre.length:Int) 1,Ip e,z5,())))))) (TW W (jZ p w k))) o->Ev (λn=>F n (g,(pre.length:Int),w5 w,z5,())) o:=by intro o h;refine Ev.congr (λn=>(t n _).trans (mX (show((pre.length:Nat):Int)<(cN.length:Int)by omega) _ _)) ?_;refine Ev.congr (λn=>ze (show(0:Int)<=pre.length by omega) (by omega) _) ?_;have e:aR cN (ah ((pre.length:Nat):Int)) 0=k:=G;simp only[e];exact Ev.ai H h
  unfold tM;cases q:jZ p w k with
  |Ge=>rw[q]at step;exact .inr ⟨rfl,w5 w,W,.ret (step (Ev.of_eq λn=>rfl))⟩
  |idle w1=>rw[q]at step;refine .inl ⟨w,[],rfl,.inr ⟨w5 w,?_⟩⟩;rw[iT];exact .ret (step (Ev.of_eq λn=>rfl))
  |ok w1 e s=>
   rw[q]at step;obtain⟨a,b⟩:=wT hp hw q;have u:Ev (λn=>F n (g,(pre.length:Int),w5 w,z5,())) (.next (g++[e],((pre++[k]).length:Int),w5 w1,z5,())):=by refine step (Ev.of_eq λn=>?_);have h1:([e]:List aE).length=1:=rfl;simp only[TW];simp(disch:=omega)only[aQ,bF,iq,mZ,dW,eg]<;>rfl
   simp only;rcases EK hp r F t m (pre++[k]) (g++[e]) w1 (by rw[j];simp) (by simp;omega) a b with⟨w',l,x,y⟩|⟨x,z,W,y⟩
   .refine .inl ⟨w',e::l,by rw[x],?_⟩;rw[p8]at y;rcases y with⟨i,y⟩|⟨z,y⟩
    .exact .inl ⟨i,.next u y⟩
    .exact .inr ⟨z,.next u y⟩
   .exact .inr ⟨by rw[x],z,W,.next u y⟩
def aeV(W:aa):Option (aa×List aE)->(aa×List aE×Int×Unit)×Unit
 |none=>((W,[],8,()),())
 |some (w,l)=>((w,l,0,()),())
def e23(hp:mW p)(hw:gu p w)(hl:cN.length<=200):∃W,Ev (λn=>F23 n (p,w,cN,())) (aeV W (Bi p w cN)):=by
 unfold F23 Bi;rcases e33 hp hw (s:=0) (by omega)with⟨w1,d,a,b⟩|⟨a,w1,d,b⟩
 .rw[a];have a1:=(gn hp hw a).1;have a2:=nB hp hw a;simp only;rcases EK hp (P:=_) (cN:=cN) (by omega) _ (λn g=>rfl) cN [] [] w1 rfl (bP _) a1 a2 with⟨e,l,x,⟨i,y⟩|⟨z,y⟩⟩|⟨x,z,W,y⟩
  .rw[x];exact⟨w,Ev.ai b (Ev.aP y (λn c=>_) _ (Ev.of_eq λn=>rfl))⟩
  .rw[x];exact⟨w,Ev.ai b (Ev.aP y (λn c=>_) _ (Ev.of_eq λn=>rfl))⟩
  .rw[x];exact⟨W,Ev.ai b (Ev.aP y (λn c=>_) _ (Ev.of_eq λn=>rfl))⟩
 .rw[a];exact⟨w1,Ev.ai b (Ev.of_eq λn=>rfl)⟩
def e24(hl:l.length<=1000):Ev (λn=>F24 n (l,l,())) ((W,()),()):=by
 unfold F24;refine Ev.congr (λn=>(nD ..).trans (Ub rfl _ _)) ?_;refine Ev.all (l:=l) aZ (λ_=>W) (λ_=>.ret () (J,())) (λ_ _ h=>by cases h) (λi hi=>Ev.of_eq λn=>?_) (λn=>by simp(disch:=omega)only[aQ]) (λb=>Ev.of_eq λn=>rfl) (λi hi b=>?_)
 .unfold Io;simp(disch:=omega)only[aQ,D.fA,vI,bF,dW,eg]
 .rw[List.all_eq_false]at b;obtain⟨_,_,h⟩:=b;exact absurd rfl h
end
end
def TC(n:Nat):Option fH:=
 ai (kn ()) λd=>Z d
def Nc(n:Nat):Option fH:=
 Z ((J,()),())
def W8(n:Nat)(d:Y80):Option fH:=
 ai (F17 n (d.1.1,())) λg=>aj g.1.1 (aj (D.aI (ak d.1.2.1) 0) (TC n) (Nc n)) (Nc n)
def JP(n:Nat)(b:Y76):Option fH:=
 aj (D.bN 220 (ak b.2.2.1)) (TC n) (ai (F21 n b) λd=>ai (F22 n (b.1,b.2.1,())) λe=>aj (D.aO e.1.1) (aj (D.aI d.1.2.2.1 2) (W8
 n d) (Nc n)) (aj (D.bN 200 (ak b.2.2.1)) (aj (D.aI d.1.2.2.1 2) (W8 n d) (Nc n)) (ai (F23 n b) λg=>aj (D.aO (D.aI g.1.2.2.1 0))
 (aj (D.aI d.1.2.2.1 g.1.2.2.1) (W8 n d) (Nc n)) (aj (D.aI d.1.2.2.1 0) (ai (F19 n (d.1.1,g.1.1,())) λh=>aj h.1.1 (ai (F24 n (d.1.2.1,
 g.1.2.1,())) λi=>aj i.1.1 (TC n) (Nc n)) (Nc n)) (Nc n)))))
def L4:Nat->Y76->Option fH:=
 λn b=>ai (F20 n (b.1,b.2.1,())) λc=>aj (D.aO c.1.1) (TC n) (aj (D.bN 24 (ak b.2.2.1)) (aj (D.ek (ak b.2.2.1) 200) (TC n)
 (JP n b)) (JP n b))
abbrev cL4(n:Nat):kT sg:=⟨P65,K4,J,L4 n⟩
def CL4(n:Nat):bD prog 4 (cL4 n):=cx [⟨13,cK,CK⟩,k17 n,k19 n,k20 n,k21 n,k22 n,k23 n,k24 n] [] n 10 4
section
section
variable {p:aA}{w:aa}
variable {cN:List Int}
def QO(hs:Small p)(l:uG w)(hl:cN.length<=1000)(h:¬(FP p∧gu p w)∨200<cN.length):Ev (λn=>F21 n (p,w,cN,())) ((cA,[],2,()),()):=by
 obtain⟨c,e,g⟩:=e87 hs;have d:=e46 e;cases c with
 |false=>exact Ev.ai d (Ev.of_eq λn=>rfl)
 |true=>
  have k:=g.1 rfl;obtain⟨b,i,j⟩:=e99 k.ok hs l;refine Ev.ai d (Ev.ai i ?_);cases b with
  |false=>exact Ev.of_eq λn=>rfl
  |true=>
   have:200<cN.length:=by
    rcases h with h|h
    .exact absurd ⟨k,j.1 rfl⟩ h
    .exact h
   exact Ev.congr (λn=>mX (show(200:Int)<cN.length by omega) _ _) (Ev.of_eq λn=>rfl)
def Wj(hs:Small p)(l:uG w)(g:FP p)(hw:gu p w)(hl:cN.length<=200):Ev (λn=>F21 n (p,w,cN,())) (aaB (Bi p w cN)):=by obtain⟨c,i,j⟩:=e87 hs;have d:=e46 i;rw[j.2 g]at d;obtain⟨b,e,k⟩:=e99 g.ok hs l;rw[k.2 hw]at e;exact ade g.ok d e hw hl
def Sq(hs:Small p)(j:uG w)(hl:cN.length<=220):Ev (λn=>JP n (p,w,cN,())) ((W,()),()):=by
 have e:∀{d:(aa×List aE×Int×Unit)×Unit},d.1.1=cA->d.1.2.1=[]->Ev (λn=>W8 n d) ((W,()),()):=by intro d h1 h2;unfold W8;rw[h1,h2];exact Ev.ai e17 (Ev.of_eq λn=>rfl)
 unfold JP;refine Ev.congr (λn=>rE (show(cN.length:Int)<=220 by omega) _ _) ?_;obtain⟨b,g,i⟩:=e22 hs j;cases b with
 |false=>refine Ev.ai (QO hs j (by omega) (.inl λh=>by have:=i.2 h;cases this)) (Ev.ai g ?_);exact e rfl rfl
 |true=>
  obtain⟨k,hw⟩:=i.1 rfl;by_cases h2:200<cN.length
  .refine Ev.ai (QO hs j (by omega) (.inr h2)) (Ev.ai g ?_);refine Ev.congr (λn=>mX (show(200:Int)<cN.length by omega) _ _) ?_;exact e rfl rfl
  .obtain ⟨W,m⟩:=e23 k.ok hw (cN:=cN) (by omega);refine Ev.ai (Wj hs j k hw (by omega)) (Ev.ai g ?_);refine Ev.congr (λn=>rE (show(cN.length:Int)<=200 by omega) _ _) ?_;refine Ev.ai m ?_;cases hp:Bi p w cN with|none=>exact e rfl rfl|some r=>obtain⟨x,l⟩:=r;obtain⟨a,_,c⟩:=UM k.ok hw hp;exact Ev.ai (e19 k.ok a) (Ev.ai (e24 (l:=l) (by omega)) (Ev.of_eq λn=>rfl))
def ajy(p:aA)(w:aa)(cN:List Int):Ev (λn=>L4 n (p,w,cN,())) ((W,()),()):=by
 unfold L4;obtain⟨b,d,e⟩:=e20 p w;refine Ev.ai d ?_;cases b with
 |false=>exact Ev.of_eq λn=>rfl
 |true=>
  obtain⟨i,j⟩:=e rfl;have g:¬cN.length<=220->Ev (λn=>JP n (p,w,cN,())) ((W,()),()):=λh=>by unfold JP;exact Ev.congr (λn=>mX (show(220:Int)<cN.length by omega) _ _) (Ev.of_eq λn=>rfl)
  have main:Ev (λn=>JP n (p,w,cN,())) ((W,()),()):=by
   by_cases h:cN.length<=220
   .exact Sq i j h
   .exact g h
  show Ev (λn=>TL.aj (D.bN 24 (cN.length:Int)) (TL.aj (D.ek (cN.length:Int) 200) (TC n) (JP n (p,w,cN,()))) (JP n (p,w,cN,()))) _;cases D.bN 24 (cN.length:Int)with
  |false=>exact main
  |true=>
   cases D.ek (cN.length:Int) 200 with|false=>exact main|true=>exact Ev.of_eq λn=>rfl
end
end
def ads:List TypeId:=[26,22,85,48,3,23,83,89,87,9,24,82,32,29,100,93,95,51,49,98,97,30,55]
noncomputable def tyL(t:TypeId):Option Ty:=bif ads.contains t then Rl.get t else Y
noncomputable def aeR(t:TypeId):Bool:=match Rl.get t with|some τ=>rdT sg prog tyL t τ|none=>W
def abO:ads.all aeR=W:=by kernel_rfl
def aeQ(t:TypeId)(τ:Ty)(h:tyL t=Z τ):rdT sg prog tyL t τ=W:=by
 unfold tyL at h;cases b:ads.contains t with
 |false=>rw[b]at h;cases h
 |true=>rw[b,cG]at h;have:=eA.1 abO t (by simpa using b);unfold aeR at this;rw[h]at this;exact this
def laid:laidOutB prog=W:=by kernel_rfl
def own:ownKnob prog.godebug=Y:=by kernel_rfl
end Mn
end
section
namespace Go.Proofs.YtdddliieplcejaaGreat.meanPlays
open Go TL Mn
open Go.ChangeShapes Go.WideShapes Go.ChangeAt Go.RowKit
theorem params:(Tryz.f4.params.toList)=[26,32,23]:=by kernel_rfl
theorem aiX:tyL 26=some (.st 3):=by kernel_rfl
theorem ai4:Tryz.prog.readableRec 26=true:=by kernel_rfl
theorem aiW:tyL 32=some (.st 8):=by kernel_rfl
theorem ai3:Tryz.prog.readableRec 32=true:=by kernel_rfl
theorem aiY:tyL 23=some (.sl (.int .i64)):=by kernel_rfl
theorem ai5:Tryz.prog.readableRec 23=true:=by kernel_rfl
theorem sz:decide (32<Tryz.prog.types.size)=true:=by kernel_rfl
theorem ai2:Tryz.f4.resultTypes=#[4]:=by kernel_rfl
theorem lifted(os:Os)(started:os.Started)(H:Type)(enc:TypeId×Value->H) :
  ReturnsInHanded {} Tryz.checked os 4 .any (Rows.meanPlaysSpec.pre6 enc Tryz.prog Tryz.f4 Rows.meanPlaysRow.domain false) (Rows.meanPlaysSpec.post enc Tryz.prog Tryz.f4 false true false false):=by
 refine returnsInHanded_of_change_sized (C:=Tryz.checked) own started (by kernel_rfl) Tryz.func4
  (ChangeSpec.witness6 (enc:=enc) (C:=Tryz.checked) false ⟨#[],#[.agg #[.slice none 0 0,.slice none 0 0,.int .i64 0,.slice none 0 0],.agg #[.slice none 0 0,.slice none 0 0,.slice none 0 0,.slice none 0 0,.int .i64 0],.slice none 0 0],[]⟩ 8 (by kernel_rfl) (by kernel_rfl) (by kernel_rfl) (by kernel_rfl)) ?_
 intro W base args ds gs before hval hW hcnd hwt _;refine Sp (S:=sg) (P:=Tryz.prog) (ty:=tyL) (τs:=[.st 3,.st 8,.sl (.int .i64)]) (tb:=4) aav aeQ laid ?_ ?_ ai2 Tryz.underlying4 rfl ?_ ?_ hval hW hwt
 .rw[params];refine⟨rfl,λj a b ha hb=>?_⟩
  match j with
  |0=>cases ha;cases hb;exact aiX
  |1=>cases ha;cases hb;exact aiW
  |2=>cases ha;cases hb;exact aiY
  |j+3=>simp at ha
 .rw[params];have:=of_decide_eq_true sz;intro t ht;simp only[List.mem_cons,List.not_mem_nil,or_false]at ht;rcases ht with h|h|h
  .subst h;exact⟨ai4,Nat.lt_of_le_of_lt (by decide) this⟩
  .subst h;exact⟨ai3,Nat.lt_of_le_of_lt (by decide) this⟩
  .subst h;exact⟨ai5,Nat.lt_of_le_of_lt (by decide) this⟩
 .intro ds hds
  match ds,hds with
  |[d1,d2,d3],_=>exact⟨rfl,rfl,rfl⟩
 .intro x;obtain⟨x1,x2,x3,u⟩:=x;obtain⟨N,h⟩:=ajy x1 x2 x3;exact⟨L4 N,((true,()),()),CL4 N,h N (Nat.le_refl _),rfl⟩
theorem proved:Rows.MeanPlaysSaid:=over lifted
end Go.Proofs.YtdddliieplcejaaGreat.meanPlays
end
end
