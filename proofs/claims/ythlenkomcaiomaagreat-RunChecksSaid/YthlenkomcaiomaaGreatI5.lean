import Derived.Test.YthlenkomcaiomaaGreatRows
import Derived.WalkKit
import Derived.ProofKit
import Derived.OpenShut
import Derived.KernelRfl
import Derived.Test.YthlenkomcaiomaaGreatI4
set_option linter.all false
set_option maxRecDepth 100000
set_option maxHeartbeats 0
noncomputable section
open Option renaming some->Z,none->Y
open Bool renaming true->W,false->J
open Nat renaming beq->Nq,ble->Nl,blt->Nt,succ->Ns,add->Na
open TL.LO renaming next->N,ret->X,out->H
open TL.Rx renaming ok->G,jJ->M
namespace Mn
open Go TL
theorem lnsq:(∀{α:Type}(a b:List α),(a++b).length=a.length+b.length)∧(∀{α:Type}(a:α)(l:List α),(a::l).length=l.length+1)∧(∀{α:Type},([]:List α).length=0)∧(∀{α:Type}(k:Nat)(l:List α),(l.drop k).length=l.length-k)∧(∀{α:Type}(k:Nat)(l:List α),(l.take k).length=min k l.length)∧(∀{α:Type}(k:Nat)(x:α)(l:List α),(l.set k x).length=l.length):=⟨fun _ _=>List.length_append,fun _ _=>rfl,rfl,fun _ _=>List.length_drop,fun _ _=>List.length_take,fun _ _ _=>List.length_set⟩
section
variable {n:Nat}{c:aB}{dd:List ax}{i:bW}{d:ax}{m:Int}{op s e:Int}
theorem Vn(n k:Nat):R163 n (k+1)=B163 n (R163 n k):=rfl
mutual
def sM:∀q:aM,0<=gx q/\gx q<=pw q
 |⟨a,_,_,parts⟩=>by have:=Ir parts;unfold gx pw;omega
def Ir:∀qs:L aM,0<=lg qs/\lg qs<=vz qs
 |[]=>by unfold lg vz;omega
 |q::qs=>by have:=sM q;have:=Ir qs;unfold lg vz;omega
end
theorem Xf:∀qs:L aM,qs.length<=vz qs
 |[]=>Hp _|⟨_,_,_,_⟩::qs=>by unfold vz pw;have:=Xf qs;grind
def Names(q:aM):Prop:=Lr R163 (q,()) ((gx q,()),())
theorem Is{R B P:Type}(d:Nat):∀(qs pre:L aM)(k:Int),0<=k->k+(vz qs:Int)<=100000->pre.length+qs.length<=100000->(∀q∈qs,Names q)->
  ∀F:Nat->Int×Int×U->O (LO (Int×Int×U) R B P),
  (∀n g,F n g=aj (aD g.2.1 (aq (pre++qs))) (aU (aL g.2.1 (pre++qs)) (ai (R163 n (n-d) (@aX aM (pre++qs) (au g.2.1) aS,())) λh=>Z (N (aC .i64 g.1 h.1.1,aC .i64 g.2.1 1,())))) (Z (H 0 g)))->
  ic F (k,(pre.length:Int),()) (.out 0 (k+lg qs,((pre++qs).length:Int),()))
 |[],pre,k,_,_,_,_,F,b=>by unfold lg;refine .out (bI λn=>?_);rw[b];simp(disch:=omega) [bL,tK,EI]<;>rfl
 |q::qs,pre,k,m,h1,e,c,F,b=>by
  unfold vz at h1;simp at e;have o:=sM q;have f:(pre++q::qs).getD pre.length aS=q:=vT ..;have h2:=Is (R:=R) (B:=B) (P:=P) d qs (pre++[q]) (k+gx q) (by omega) (by omega) (by simp;omega) (λi h=>c i (hJ _ h)) F (λn g=>by rw[b];simp<;>rfl);have h3:=c q fQ d;simp only[vw,OU]at h2;unfold lg;rw[<-Int.add_assoc];refine .next (y:=(k+gx q,((pre++[q]).length:Int),())) ?_ h2
  let ⟨a,h3⟩:=h3
  refine⟨a,λn j=>?_⟩;have:=h3 n j;show F n _=_;rw[b];simp(disch:=first|omega|simp only[lnsq];omega)only[bL,f,ff,fe];refine(lq (λx=>ai x _) this).trans ?_;show Z (N (aC .i64 k (gx q),aC .i64 (pre.length:Int) 1,()))=_
  grind[bX]
theorem names{cons:L ck}:∀q:aM,pw q<=1000->xP cons q->Names q
 |⟨a,n0,text,parts⟩,o,f=>by
  have j:a=2->parts=[]:=by
   grind[xP]
  have l:vD cons parts:=by
   obtain b|b|b|b:=f
   rw[b.2.2.2];trivial;rw[b.2.2.2];trivial;rw[b.2.2.2];trivial
   simp_all
  unfold pw at o;have u:=Xf parts;refine Lr.step Vn λd=>?_;have m:=λ(k:Int)(p:0<=k)(h1:k<=1)=>Is (R:=Int×U) (B:=U) (P:=Any) d parts [] k p (by omega) (by grind) (λq r=>names' parts (by omega) l q r) _ (λn g=>rfl);have hB:∀n,B163 n (R163 n (n-d)) (⟨a,n0,text,parts⟩,())=ai (@iter (Int×Int×U) (Int×U) U Any (λg=>aj (aD g.2.1 (aq parts)) (aU (aL g.2.1 parts) (ai (R163 n (n-d) (@aX aM parts (au g.2.1) aS,())) λh=>Z (N (aC .i64 g.1 h.1.1,aC .i64 g.2.1 1,())))) (Z (H 0 g))) n ((if a=2 then 1 else 0),0,())) λg=>bq g (λ_ i=>Z ((i.1,()),())) (λ_ i=>Z (i,())) λ_(_:Any)=>Y:=by intro n;unfold B163;by_cases h:a=2;simp only[bL,h,yE,cz]<;>rfl;simp(disch:=omega)only[bL,h,if_false,cz]<;>rfl
  refine Ev.oI hB ?_;by_cases h:a=2;rw[bO h];refine Ev.bh (m 1 (by omega) (by omega)) (λn e=>_) _ ?_;exact bI λn=>by unfold gx;rw[bO h,j h];rfl
  rw[cm h];refine Ev.bh (m 0 (by omega) (by omega)) (λn e=>_) _ ?_;exact bI λn=>by unfold gx;rw[cm h,Int.zero_add];rfl
where
 names':∀(c:L aM),vz c<=1000->vD cons c->∀q∈c,Names q
 |[],_,_,_,h=>by cases h
 |q::c,s,f,t,h=>by
  unfold vz at s;obtain h|h:=fF.1 h
  rw[h];exact names q (by omega) f.1;exact names' c (by omega) f.2 t h
def Gl(c:aB)(i:bW):Int:=if i.Op=8 then -3 else if i.Op=34 then -2 else dG c i
def d160(h1:1<=i.Op)(h2:i.Op<=34)(f:i.Op=18->0<=i.A/\i.A<c.Cons.length/\0<=(c.Cons.getD i.A.toNat bn).mL):F160 n (c,i,())=Z ((Gl c i,()),()):=by
 by_cases a:i.Op=18
 let ⟨g,j,l⟩:=f a
 unfold F160 zg wJ Gl dG rq;rw[bO a,cm (by omega),cm (by omega)];simp(disch:=omega)only[bL,cz];rw[show(((c.Cons.getD i.A.toNat bn).mL.toNat:Nat):Int)=(c.Cons.getD i.A.toNat bn).mL by omega];obtain⟨k,b⟩:∃k:Nat,i.Op=k:=⟨_,(JN (by omega)).symm⟩;have d:1<=k:=by omega
 have e:k<=34:=by omega
 unfold Gl dG;rw[cm a,show i.Op.toNat=k by omega];unfold F160;simp only[b]
 match k,d,e,b with
 |18,_,_,b=>omega
 |1,_,_,_|2,_,_,_|3,_,_,_|4,_,_,_|5,_,_,_|6,_,_,_|7,_,_,_|8,_,_,_|9,_,_,_|10,_,_,_|11,_,_,_|12,_,_,_|13,_,_,_|14,_,_,_|15,_,_,_|16,_,_,_|17,_,_,_
 |19,_,_,_|20,_,_,_|21,_,_,_|22,_,_,_|23,_,_,_|24,_,_,_|25,_,_,_|26,_,_,_|27,_,_,_|28,_,_,_|29,_,_,_|30,_,_,_|31,_,_,_|32,_,_,_|33,_,_,_|34,_,_,_=>rfl|k+35,_,h,_=>omega
theorem d108:F108 n (s,e,())=Z ((cg s e,()),()):=rfl
def A2(l:L (Int×ax)):L bg:=l.map λx=>⟨x.1,x.2⟩
def d161:F161 n (op,())=Z ((decide (op=8\/op=20\/op=34),()),()):=by unfold F161;by_cases h1:op=8;simp only[bL,h1]<;>rfl;by_cases h2:op=20;simp(disch:=omega)only[bL,h2]<;>rfl;simp(disch:=omega)only[bL,h1,h2,false_or]<;>rfl
def d162:F162 n (op,())=Z ((!decide (op=9\/op=10\/op=11\/op=12\/op=19),()),()):=by unfold F162 BT;by_cases h1:op=9;simp only[bL,h1]<;>rfl;by_cases h2:op=10;simp(disch:=omega)only[bL,h2]<;>rfl;by_cases h3:op=11;simp(disch:=omega)only[bL,h3]<;>rfl;by_cases h4:op=12;simp(disch:=omega)only[bL,h4]<;>rfl;by_cases h5:op=19;simp(disch:=omega)only[bL,h5]<;>rfl;simp(disch:=omega) [bL,h1,h2,h3,h4,h5,or_self,decide_false,Ma]<;>rfl
structure Lo(d:ax):Prop where
 re:d.Reached=W
 s:0<=d.Stack
 e:0<=d.Env
def zn.io(h:zn c)(a:0<=m)(h1:m<c.dA.length):Zd c (bC c m):=h.ins _ (cN _ (by omega))
def zn.cn(h:zn c)(a:0<=m)(h1:m<c.dA.length):(bC c m).Op=18->0<=(bC c m).A/\(bC c m).A<c.Cons.length/\0<=(c.Cons.getD (bC c m).A.toNat bn).mL:=
 λb=>by have:=(h.io a h1).con b;exact⟨this.1,this.2,(h.cons _ (cN _ (by omega))).1⟩
def Eg(h:zn c)(b:0<=m)(h1:m<c.dA.length):dG c (bC c m)<=3:=by
 unfold dG rq;split;rename_i a;have:=(h.io b h1).con a;have:=(h.cons _ (cN bn (show(bC c m).A.toNat<c.Cons.length by omega)));omega;have:∀k:Nat,yu.getD k 0<=3:=by
  intro k;by_cases a:k<35;have:∀k:Fin 35,yu.getD k.1 0<=3:=by decide
  exact this ⟨k,a⟩
  simp_all[yu]
 exact this _
def ajY(j:zn c)(l:0<=m)(h1:m<c.dA.length)(hn:¬zW c (bC c m) d):F109 n (c,m,d,())=Z (([],J,()),()):=by
 have io:=j.io l h1;have a:=d160 (n:=n) (c:=c) (i:=bC c m) io.lo io.hi (j.cn l h1);have e:gV (c,m,d,())=bC c m:=rfl;generalize bC c m=i at *
 have o:∀k:Nat,i.Op=k->k≠18->dG c i=yu.getD k 0:=λk h q=>by unfold dG;rw[cm (by omega),show i.Op.toNat=k by omega]
 unfold F109;unfold Gl at a;unfold zW at hn;by_cases f:i.Op=8;rw[bO f]at a;have:=o 8 f (by decide);have g:dG c i=2:=this;have p:d.Stack≠2:=λh=>hn ⟨by omega,by omega,by omega,λ_=>h,by omega⟩;simp(disch:=omega) [bL,e,a,show bH .i64 (-1) (-3)=2 from rfl]<;>rfl;by_cases b:i.Op=34;rw[cm f,bO b]at a;have g:dG c i=1:=o 34 b (by decide);have p:d.Stack≠1:=λh=>hn ⟨by omega,by omega,by omega,by omega,λ_=>h⟩;simp(disch:=omega) [bL,e,a,show bH .i64 (-1) (-2)=1 from rfl]<;>rfl;by_cases r:d.Stack<(dG c i:Int);simp(disch:=omega) [bL,e,a]<;>rfl;by_cases s:i.Op=4;have p:d.Env<=i.A:=by omega
 simp(disch:=omega) [bL,e,a]<;>rfl
 simp_all[BW,bL]
def d109(q:zn c)(v:0<=m)(h1:m<c.dA.length)(hn:zW c (bC c m) d)(C:Lo d)(hs:d.Stack<=60)(he:d.Env<=30):Ev (λn=>F109 n (c,m,d,())) ((A2 (fV c m d),W,()),()):=by
 have io:=q.io v h1;have E:=q.len;have b:=λn=>d160 (n:=n) (c:=c) (i:=bC c m) io.lo io.hi (q.cn v h1);have g:gV (c,m,d,())=bC c m:=rfl;have hi:aL m c.dA=W:=oW.2 ⟨v,h1⟩;have ht:=Eg q v h1;have r:fV c m d=(let i:=bC c m;let s:=gT c i d
  match i.Op.toNat with
  |8|20|34=>[]|9=>[(m+1,cg s (d.Env+1))]|10=>[(m+1,cg s (d.Env-i.A))]|11=>[(i.A,d)]|12=>[(m+1,cg s d.Env),(i.A,cg s d.Env)]|19=>[(m+1,cg s (d.Env+gx (zP c i.A))),(i.B,d)]|6|32=>[(m+1,cg s d.Env),(i.A,cg 0 (d.Env+1))]|31=>[(m+1,cg s d.Env),(i.A,cg 0 d.Env)]|_=>[(m+1,cg s d.Env)]):=by rfl
 rw[r];clear r;generalize bC c m=i at *
 have tk:∀k:Nat,i.Op=k->k≠18->dG c i=yu.getD k 0:=λk h I=>by unfold dG;rw[cm (by omega),show i.Op.toNat=k by omega]
 let ⟨n1,n2,n3,K,P⟩:=hn
 have Q:=C.s;have R:=C.e;have am:aC .i64 m 1=m+1:=bX (by omega) (by omega);simp only;by_cases z:i.Op=8;rw[show i.Op.toNat=8 by omega];refine bI λn=>?_;have b:=b n;unfold Gl at b;rw[bO z]at b;have:=K z;unfold F109;simp(disch:=omega)only[bL,g,b,show bH .i64 (-1) (-3)=2 from rfl]<;>rfl;by_cases t:i.Op=34;rw[show i.Op.toNat=34 by omega];refine bI λn=>?_;have b:=b n;unfold Gl at b;rw[cm z,bO t]at b;have:=P t;unfold F109;simp(disch:=omega)only[bL,g,b,show bH .i64 (-1) (-2)=1 from rfl]<;>rfl;have red:∀n,F109 n (c,m,d,())=mJ n (c,m,d,()) (((dG c i:Int),()),()):=by
  intro n;unfold Gl at b;unfold F109;by_cases k4:i.Op=4
  simp_all[BW,bL]
  by_cases j:i.Op=10
  simp_all[BW,bL]
  simp_all[BW,bL]
 refine Ev.oI red ?_;clear red;by_cases k20:i.Op=20;rw[show i.Op.toNat=20 by omega];refine bI λn=>?_;unfold mJ;simp(disch:=omega)only[bL,g,d161,k20]<;>rfl;have f:=λn=>d161 (n:=n) (op:=i.Op);rw[gX (show ¬(i.Op=8\/i.Op=20\/i.Op=34)by omega)]at f;have sl:bH .i64 d.Stack (dG c i:Int)=d.Stack-(dG c i:Int):=ec (by omega) (by omega);have l:aC .i64 (d.Stack-(dG c i:Int)) 1=d.Stack-(dG c i:Int)+1:=bX (by omega) (by omega);have w:∀k:Int,0<=k->k<=1000->aC .i64 d.Env k=d.Env+k:=λk _ _=>bX (by omega) (by omega);have p:(i.Op=9\/i.Op=10\/i.Op=11\/i.Op=12\/i.Op=19)->gT c i d=d.Stack-(dG c i:Int):=λh=>by unfold gT;omega
 have lo:¬(i.Op=9\/i.Op=10\/i.Op=11\/i.Op=12\/i.Op=19)->gT c i d=d.Stack-(dG c i:Int)+1:=λh=>by unfold gT;rw[cm h]
 have e:=λn=>d162 (n:=n) (op:=i.Op);by_cases y:i.Op=9\/i.Op=10\/i.Op=11\/i.Op=12\/i.Op=19;rw[jc y]at e;have p:=p y;by_cases F:i.Op=9;rw[show i.Op.toNat=9 by omega,p];refine bI λn=>?_;unfold mJ ov;simp(disch:=omega) [bL,g,sl,F,w 1 (by omega) (by omega),d108,am]<;>rfl;by_cases j:i.Op=10;rw[show i.Op.toNat=10 by omega,p];have:=io.drop j;have S:bH .i64 d.Env i.A=d.Env-i.A:=ec (by omega) (by omega);refine bI λn=>?_;unfold mJ ov;simp(disch:=omega) [bL,g,sl,j,S,d108,am]<;>rfl;by_cases k11:i.Op=11;rw[show i.Op.toNat=11 by omega];refine bI λn=>?_;unfold mJ ov;simp(disch:=omega) [bL,g,sl,k11]<;>rfl;by_cases k12:i.Op=12;rw[show i.Op.toNat=12 by omega,p];refine bI λn=>?_;unfold mJ ov uE qM;simp(disch:=omega) [bL,g,sl,k12,d108,am]<;>rfl;have Fo:i.Op=19:=by omega
 rw[show i.Op.toNat=19 by omega,p];have hp:=io.SL Fo;have A:=q.pats _ (cN aS (show i.A.toNat<c.ez.length by omega));have B:=sM (c.ez.getD i.A.toNat aS)
 let ⟨a,o⟩:=names _ (by omega) A.1 0
 have u:∀n,a<=n->F163 n (c.ez.getD i.A.toNat aS,())=Z ((gx (c.ez.getD i.A.toNat aS),()),()):=o;refine⟨a,λn hn=>?_⟩;have o:=u n hn;show mJ n _ _=_;rw[Fo]at f e;unfold mJ ov uE qM;simp(disch:=omega) [bL,g,f,e,JJ,cz,sl,Fo,d108,am];refine(lq (λx=>ai x _) o).trans ?_;show Z ((([(⟨m+1,cg (d.Stack-(dG c i:Int)) (aC .i64 d.Env (gx (c.ez.getD i.A.toNat aS)))⟩:bg),⟨i.B,d⟩]:L bg),W,()),())=_;rw[w _ B.1 (by omega)];rfl;rw[gX y]at e;have lo:=lo y;by_cases k6:i.Op=6;rw[show i.Op.toNat=6 by omega,lo];refine bI λn=>?_;unfold mJ ov uE qM;simp(disch:=omega) [bL,g,cz,sl,l,k6,w 1 (by omega) (by omega),d108,am]<;>rfl;by_cases k32:i.Op=32;rw[show i.Op.toNat=32 by omega,lo];refine bI λn=>?_;unfold mJ ov uE qM;simp(disch:=omega) [bL,g,cz,sl,l,k32,w 1 (by omega) (by omega),d108,am]<;>rfl;by_cases k31:i.Op=31;rw[show i.Op.toNat=31 by omega,lo];refine bI λn=>?_;unfold mJ ov uE qM;simp(disch:=omega) [bL,g,cz,sl,l,k31,d108,am]<;>rfl;have F:i.Op≠9:=by omega
 have j:i.Op≠10:=by omega
 have k11:i.Op≠11:=by omega
 have k12:i.Op≠12:=by omega
 have Fo:i.Op≠19:=by omega
 have hk:(match i.Op.toNat with
  |8|20|34=>[]|9=>[(m+1,cg (gT c i d) (d.Env+1))]|10=>[(m+1,cg (gT c i d) (d.Env-i.A))]|11=>[(i.A,d)]|12=>[(m+1,cg (gT c i d) d.Env),(i.A,cg (gT c i d) d.Env)]|19=>[(m+1,cg (gT c i d) (d.Env+gx (zP c i.A))),(i.B,d)]|6|32=>[(m+1,cg (gT c i d) d.Env),(i.A,cg 0 (d.Env+1))]|31=>[(m+1,cg (gT c i d) d.Env),(i.A,cg 0 d.Env)]|_=>[(m+1,cg (gT c i d) d.Env)]:L (Int×ax))=[(m+1,cg (gT c i d) d.Env)]:=by
  split<;>first|rfl|(exfalso;omega)
 rw[hk,lo];refine bI λn=>?_;unfold mJ ov uE qM;simp(disch:=omega)only[bL,g,f,e,Ma,cz,sl,l,d108,am]<;>rfl
end
section
variable {n:Nat}{c:aB}{i:bW}{d:ax}{m:Int}{op s e:Int}
def Yc{a b:ax}(h:a=b):bQ (j3 a.1 b.1) (bQ (af a.2 b.2) (bQ (af a.3 b.3) W))=W:=by
 subst h
 let ⟨r,s,e⟩:=a
 cases r<;>simp[bQ,j3,af]
theorem adj{a b:ax}(h:a≠b):bQ (j3 a.1 b.1) (bQ (af a.2 b.2) (bQ (af a.3 b.3) W))=J:=by
 let ⟨r,s,e⟩:=a
 let ⟨c,d,f⟩:=b
 grind[bQ,j3,af]
theorem E3(g:zn c)(i:0<=m)(h1:m<c.dA.length)(hn:zW c (bC c m) d)(e:Lo d){x:Int×ax}(a:x∈fV c m d):0<=x.1/\Lo x.2:=by
 have io:=g.io i h1;have j:=E2 a e.re;have h2:=e.s;have h3:=e.e
 let ⟨n1,l,n,o,p⟩:=hn
 have b:0<=gT c (bC c m) d:=by unfold gT;split<;>omega
 have k:=io.goto;have f:=io.SL
 suffices h:0<=x.1/\0<=x.2.Stack/\0<=x.2.Env from⟨h.1,j,h.2.1,h.2.2⟩
 unfold fV at a;dsimp only at a;split at a<;>rename_i q<;>simp only[fF,List.not_mem_nil,or_false]at a;subst a;exact⟨by omega,b,by show 0<=d.Env+1;omega⟩;subst a;exact⟨by omega,b,by show 0<=d.Env-_;omega⟩
 grind
 obtain a|a:=a<;>subst a
 exact⟨by omega,b,h3⟩;exact⟨by omega,b,h3⟩;have:=f (by omega);obtain a|a:=a<;>subst a
 exact⟨by omega,b,by show 0<=d.Env+_;have:=(sM (zP c (bC c m).A)).1;omega⟩
 simp_all
 obtain a|a:=a<;>subst a
 exact⟨by omega,b,h3⟩;exact⟨by omega,Cl _,by show 0<=d.Env+1;omega⟩;obtain a|a:=a<;>subst a
 exact⟨by omega,b,h3⟩;exact⟨by omega,Cl _,by show 0<=d.Env+1;omega⟩;obtain a|a:=a<;>subst a
 exact⟨by omega,b,h3⟩;exact⟨by omega,Cl _,h3⟩;subst a;exact⟨by omega,b,h3⟩
def T9:(fV c m d).length<=2:=by unfold fV;dsimp only;split<;>simp
abbrev DX:=L ax×L bg×Int×U
structure DI(c:aB)(x:DX):Prop where
 k:0<=x.2.2.1/\x.2.2.1<=x.2.1.length
 wk:∀r∈x.2.1,Jo c r.At r.jr/\Lo r.jr/\0<=r.At
 aea:∀j:Nat,(j:Int)<x.2.2.1->(x.2.1.getD j aZ).At<c.dA.length/\eK x.1 (x.2.1.getD j aZ).At=(x.2.1.getD j aZ).jr
 len:x.1.length=c.dA.length
 re:∀n:Int,0<=n->n<c.dA.length->(eK x.1 n).Reached=W->Jo c n (eK x.1 n)/\Good c n (eK x.1 n)
 fo:∀n:Int,0<=n->n<c.dA.length->(eK x.1 n).Reached=W->∀y∈fV c n (eK x.1 n),(⟨y.1,y.2⟩:bg)∈x.2.1
 zero:∀n:Int,0<=n->n<c.dA.length->(eK x.1 n).Reached=J->eK x.1 n=aT
 fl:∀f∈c.cW,(⟨f,cg 0 1⟩:bg)∈x.2.1
 sz:x.2.1.length+2*qt x.1<=c.cW.length+2*c.dA.length
def DI.done{x:DX}(h:DI c x)(k:x.2.2.1=x.2.1.length):Ok c x.1:=by
 have key:∀r∈x.2.1,0<=r.At/\r.At<c.dA.length/\eK x.1 r.At=r.jr:=by intro r d;obtain⟨j,e,rfl⟩:=p8 d;have:=h.aea j (by omega);rw[oc,iu e]at this;exact⟨(h.wk _ d).2.2,this.1,this.2⟩
 exact PI.done (c:=c) ⟨h.len,h.re,λn a b r _ y g=>key _ (h.fo n a b r y g),h.zero⟩ λf i=>(key _ (h.fl f i)).2.2
def DQ(c:aB)(o:LO DX (L ax×aa×U) U Any):Prop:=
 (∃x:DX,o=.out 0 x/\Ok c x.1)\/(o=.ret () ([],J,())/\NoD c)
theorem UY(s:zn c)(F:Nat->DX->O (LO DX (L ax×aa×U) U Any))
  (v:∀n g,F n g=aj (aD g.2.2.1 (aq g.2.1)) (aU (aL g.2.2.1 g.2.1) (aU (eo (au g.2.2.1) g.2.1) (aU (aL g.2.2.1 g.2.1) (aU (eo (au g.2.2.1) g.2.1) (aj (br (aq c.1) (aX g.2.1 (au g.2.2.1) aZ).1) (mU n) (aj (aD 60 (aX g.2.1 (au g.2.2.1) aZ).2.2) (mU n) (aj (aD 30 (aX g.2.1 (au g.2.2.1) aZ).2.3) (mU n) (aU (uU g) (aU (eo (jb g) g.1) (aj (aX g.1 (jb g) aT).1 (aU (uU g) (aU (eo (jb g) g.1) (aj (ak (bQ (j3 (aX g.1 (jb g) aT).1 (aX g.2.1 (au g.2.2.1) aZ).2.1) (bQ (af (aX g.1 (jb g) aT).2 (aX g.2.1 (au g.2.2.1) aZ).2.2) (bQ (af (aX g.1 (jb g) aT).3 (aX g.2.1 (au g.2.2.1) aZ).2.3) W)))) (mU n) (AN n (c,()) g)))) (AN n (c,()) g))))))))))) (Z (H 0 g)))
  (x:DX) (h:DI c x):(∃y,Ev (λn=>F n x) (.next y)/\DI c y/\2*qt y.1+(y.2.1.length-y.2.2.1.toNat)<2*qt x.1+(x.2.1.length-x.2.2.1.toNat))\/∃o,(∀y,o≠.next y)/\Ev (λn=>F n x) o/\DQ c o:=by
 let ⟨out,b,kk,⟨⟩⟩:=x
 obtain⟨k,hk⟩:∃k:Nat,kk=k:=⟨_,(JN h.k.1).symm⟩;subst hk;have hkl:k<=b.length:=by have:=h.k.2;simp_all
 have hlen:out.length=c.dA.length:=h.len;have hcl:=s.len;have hfl:=s.fl;have hsz:=h.sz;simp only at hsz;have bad:∀{o:LO DX (L ax×aa×U) U Any},o=.ret () ([],J,())->∀y,o≠.next y:=λh y=>by simp_all
 by_cases VB:k=b.length
 .subst VB;refine .inr ⟨.out 0 (out,b,(b.length:Int),()),(λy h=>by cases h),bI λn=>?_,.inl ⟨_,rfl,h.done rfl⟩⟩;rw[v];simp(disch:=omega) [bL]<;>rfl
 .have hk':k<b.length:=by omega
  have I:b.getD k aZ∈b:=cN _ hk'
  let ⟨C,r2,E⟩:=h.wk _ I
  have K:=r2.re;generalize A:b.getD k aZ=r at *
  have no:∀{Q:Prop},NoD c->(∀n,F n (out,b,(k:Int),())=Z (.ret () ([],J,())))->Q\/∃o,(∀y,o≠.next y)/\Ev (λn=>F n (out,b,(k:Int),())) o/\DQ c o:=
   λh1 h2=>.inr ⟨.ret () ([],J,()),bad rfl,bI h2,.inr ⟨rfl,h1⟩⟩
  by_cases b1:(c.dA.length:Int)<=r.At;refine no (zU s C λg=>by have:=g.hi;omega) λn=>?_;rw[v];simp(disch:=omega)only[bL,A,mU]<;>rfl;by_cases b2:60<r.jr.Stack;refine no (zU s C λg=>by have:=g.st;omega) λn=>?_;rw[v];simp(disch:=omega)only[bL,A,mU]<;>rfl;by_cases b3:30<r.jr.Env;refine no (zU s C λg=>by have:=g.en;omega) λn=>?_;rw[v];simp(disch:=omega)only[bL,A,mU]<;>rfl;have ha:(out.getD r.At.toNat aT)=eK out r.At:=rfl;cases t:(eK out r.At).Reached with
  |true=>
   by_cases b5:eK out r.At=r.jr;have P:=Yc b5;rw[t]at P;refine .inl ⟨(out,b,(k:Int)+1,()),bI λn=>?_,⟨by grind,h.wk,?_,h.len,h.re,h.fo,h.zero,h.fl,h.sz⟩,by grind⟩;rw[v];unfold AN jb uU;simp(disch:=omega)only[bL,A,ha,t,P,bX]<;>rfl;intro j hj;by_cases hjk:j=k
   simp_all
   exact h.aea j (by grind);have P:=adj b5;rw[t]at P;refine no (W0 s (h.re _ E (by omega) t).1 C b5) λn=>?_;rw[v];unfold jb uU;simp(disch:=omega)only[bL,A,ha,t,P,mU]<;>rfl
  |false=>
   by_cases R:zW c (bC c r.At) r.jr
   .have hg:Good c r.At r.jr:=⟨E,by omega,by omega,by omega,R,K⟩
    let ⟨a,i⟩:=d109 s E (by omega) R r2 (by omega) (by omega)
    have B:∀n,a<=n->F109 n (c,r.At,r.jr,())=Z ((A2 (fV c r.At r.jr),W,()),()):=i;have hl0:=Iy (out:=out) (k:=r.At.toNat) (d:=r.jr) (by omega) t K;have hnl:=T9 (c:=c) (m:=r.At) (d:=r.jr);have hrl:(A2 (fV c r.At r.jr)).length=(fV c r.At r.jr).length:=by simp[A2]
    have u:=λ(q:Int)(e:0<=q)=>DM (d:=r.jr) (out:=out) E (by omega) e;refine .inl ⟨(out.set r.At.toNat r.jr,b++A2 (fV c r.At r.jr),(k:Int)+1,()),⟨a,λn hn=>?_⟩,⟨by grind,?_,?_,by simp_all,?_,?_,?_,?_,?_⟩,?_⟩;show F n _=_;rw[v];unfold AN jb uU;simp(disch:=omega)only[bL,A,ha,t,B n hn,bX]<;>rfl
    .intro q e;obtain e|e:=eN.1 e
     exact h.wk q e
     .obtain ⟨y,w,rfl⟩:=tJ.1 e;have:=E3 s E (by omega) R r2 w;exact⟨.next C w,this.2,this.1⟩
    intro j hj;simp only at hj ⊢;have hgd:(b++A2 (fV c r.At r.jr)).getD j aZ=b.getD j aZ:=by rw[oc,oc,Wf (by omega)]
    rw[hgd];by_cases hjk:j=k
    simp_all
    have hp:=h.aea j (by grind);have hw:=h.wk _ (cN (l:=b) aZ (show j<b.length by omega));refine⟨hp.1,?_⟩;rw[u _ hw.2.2,cm];exact hp.2;intro hne;rw[hne]at hp;rw[hp.2,hw.2.1.re]at t;cases t;intro q z S p;rw[u q z]at p ⊢;by_cases e:q=r.At
    simp_all
    rw[cm e]at p ⊢;exact h.re q z S p;intro q z S p y w;rw[u q z]at p w;by_cases e:q=r.At;subst e;rw[bO rfl]at w;exact kz _ (tJ.2 ⟨y,w,rfl⟩);rw[cm e]at p w;exact eL _ (h.fo q z S p y w);intro q z S p;rw[u q z]at p ⊢;by_cases e:q=r.At
    simp_all
    rw[cm e]at p ⊢;exact h.zero q z S p;exact λf hf=>eL _ (h.fl f hf)
    grind
    grind
   refine no (zU s C λg=>R g.ne) λn=>?_;have i:=ajY (n:=n) s E (by omega) R;rw[v];unfold AN jb uU;simp(disch:=omega)only[bL,A,ha,t,i,mU]<;>rfl
theorem d51(a:zn c):(∃D,Ok c D/\Ev (λn=>F51 n (c,())) ((D,W,()),()))\/(NoD c/\Ev (λn=>F51 n (c,())) (([],J,()),())):=by
 have t:=a.len;have u:=a.fl;have mk:O8 (aq c.1)=W:=by
  unfold O8 aq
  grind
 have h1:∀(R B P:Type)(F:Nat->L bg×Int×U->O (LO (L bg×Int×U) R B P)),
   (∀n x,F n x=aj (aD x.2.1 (aq c.3)) (aU (aL x.2.1 c.3) (ai (F108 n (0,1,())) λd=>aU (dJ x.1 [bg.mk (aX c.3 (au x.2.1) 0) d.1.1]) (Z (N (di x.1 [bg.mk (aX c.3 (au x.2.1) 0) d.1.1],aC .i64 x.2.1 1,()))))) (Z (H 0 x)))->
   ic F ([],0,()) (.out 0 (c.cW.map (λf=>(⟨f,cg 0 1⟩:bg)),(c.cW.length:Int),())):=by
  intro R B P F p;have:=gD (F:=F) c.cW.length (λk=>(((c.cW.take k).map (λf=>(⟨f,cg 0 1⟩:bg))),(k:Int),())) 0 (λk E=>bI λn=>by
   rw[p];have e:(c.cW.take (k+1)).map (λf=>(⟨f,cg 0 1⟩:bg))=(c.cW.take k).map (λf=>(⟨f,cg 0 1⟩:bg))++[⟨c.cW.getD k 0,cg 0 1⟩]:=by
    grind[List.take_succ_eq_append_getElem]
   have I:((c.cW.take k).map (λf=>(⟨f,cg 0 1⟩:bg))).length<=1000:=by simp;omega
   simp(disch:=first|omega|simp only[lnsq];omega)only[bL,d108,bX,e]<;>rfl) (bI λn=>by
   rw[p];simp(disch:=omega) [bL]<;>rfl)
  simp_all
 have w:DI c (List.replicate c.dA.length aT,c.cW.map (λf=>(⟨f,cg 0 1⟩:bg)),0,()):=by
  have l:∀q:Int,eK (List.replicate c.dA.length aT) q=aT:=λq=>by unfold eK;rw[oc,List.getElem?_replicate];split<;>rfl
  refine⟨⟨Cl _,by grind⟩,?_,λj K=>by grind,by simp,λq _ _ r=>?_,λq _ _ r=>?_,λq _ _ _=>l q,λf b=>tJ.2 ⟨f,b,rfl⟩,?_⟩;intro r y;obtain⟨f,b,rfl⟩:=tJ.1 y;exact⟨.root b,⟨rfl,Cl _,show(0:Int)<=1 by decide⟩,(a.o4 f b).1⟩;simp[l]at r;cases r;simp[l]at r;cases r
  grind[MI]
 have start:∀{r:(L ax×aa×U)×U},Ev (λn=>ai (@iter DX (L ax×aa×U) U Any (λg=>aj (aD g.2.2.1 (aq g.2.1)) (aU (aL g.2.2.1 g.2.1) (aU (eo (au g.2.2.1) g.2.1) (aU (aL g.2.2.1 g.2.1) (aU (eo (au g.2.2.1) g.2.1) (aj (br (aq c.1) (aX g.2.1 (au g.2.2.1) aZ).1) (mU n) (aj (aD 60 (aX g.2.1 (au g.2.2.1) aZ).2.2) (mU n) (aj (aD 30 (aX g.2.1 (au g.2.2.1) aZ).2.3) (mU n) (aU (uU g) (aU (eo (jb g) g.1) (aj (aX g.1 (jb g) aT).1 (aU (uU g) (aU (eo (jb g) g.1) (aj (ak (bQ (j3 (aX g.1 (jb g) aT).1 (aX g.2.1 (au g.2.2.1) aZ).2.1) (bQ (af (aX g.1 (jb g) aT).2 (aX g.2.1 (au g.2.2.1) aZ).2.2) (bQ (af (aX g.1 (jb g) aT).3 (aX g.2.1 (au g.2.2.1) aZ).2.3) W)))) (mU n) (AN n (c,()) g)))) (AN n (c,()) g))))))))))) (Z (H 0 g))) n (ad5 (au (aq c.1)) aT,c.cW.map (λf=>(⟨f,cg 0 1⟩:bg)),0,())) λg=>bq g (λ_ i=>Z ((i.1,W,()),())) (λ_ i=>Z (i,())) λ_ _=>Y) r->Ev (λn=>F51 n (c,())) r:=by
  intro r h;have z:n7 (O8 (aq c.1)) (iW (aq c.1) (aq c.1))=W:=by rw[mk];simp[n7,iW]
  show Ev (λn=>aU (n7 (O8 (aq c.1)) (iW (aq c.1) (aq c.1))) _) r;rw[z];refine Ev.bh (h1 (L ax×aa×U) U Any _ (λn x=>rfl)) _ r ?_;exact h
 let ⟨o,s,A⟩:=ic.inv (F:=λn=>_) (DI c) (λx=>2*qt x.1+(x.2.1.length-x.2.2.1.toNat)) (DQ c) (UY a _ (λn g=>rfl)) _ w
 obtain⟨x,rfl,C⟩|⟨rfl,m⟩:=A
 exact .inl ⟨x.1,C,start (Ev.bh s (λn e=>_) _ cE)⟩;exact .inr ⟨m,start (Ev.bh s (λn e=>_) _ cE)⟩
end
section
variable {n:Nat}{c:aB}{i:bW}{d:ax}{m:Int}{op s e:Int}{out:List ax}{todo:List Int}
def sw(c:aB)(i:bW):ek:=
 if i.Op=4 then .a0 ⟨i.A+1⟩else if i.Op=10 then .a0 ⟨i.A⟩else if i.Op=8 then .a2 ⟨2⟩else if i.Op=34 then .a2 ⟨1⟩else .a1 ⟨(dG c i:Int)⟩
def aeb(io:Zd c i)(f:i.Op=18->0<=i.A/\i.A<c.Cons.length/\0<=(c.Cons.getD i.A.toNat bn).mL):F149 n (c,i,())=Z ((sw c i,()),()):=by
 have h1:=io.lo;have h2:=io.hi;by_cases a:i.Op=18;obtain⟨g,j,l⟩:=f a;unfold F149 zh wK sw dG rq;rw[cm (by omega),cm (by omega),cm (by omega),cm (by omega),bO a];simp(disch:=omega)only[bL,a,cz];rw[show(((c.Cons.getD i.A.toNat bn).mL.toNat:Nat):Int)=(c.Cons.getD i.A.toNat bn).mL by omega];by_cases h4:i.Op=4;have:=io.place h4;unfold F149 sw;rw[bO h4];simp(disch:=omega)only[bL,h4,bX];obtain⟨k,b⟩:∃k:Nat,i.Op=k:=⟨_,(JN (by omega)).symm⟩;have d:1<=k:=by omega
 have e:k<=34:=by omega
 unfold sw dG;rw[cm h4,cm a,show i.Op.toNat=k by omega];unfold F149;simp only[b]
 match k,d,e,b with
 |18,_,_,b=>omega|4,_,_,b=>omega
 |1,_,_,_|2,_,_,_|3,_,_,_|5,_,_,_|6,_,_,_|7,_,_,_|8,_,_,_|9,_,_,_|10,_,_,_|11,_,_,_|12,_,_,_|13,_,_,_|14,_,_,_|15,_,_,_|16,_,_,_|17,_,_,_
 |19,_,_,_|20,_,_,_|21,_,_,_|22,_,_,_|23,_,_,_|24,_,_,_|25,_,_,_|26,_,_,_|27,_,_,_|28,_,_,_|29,_,_,_|30,_,_,_|31,_,_,_|32,_,_,_|33,_,_,_|34,_,_,_=>rfl|k+35,_,h,_=>omega
def Ub(c:aB)(i:bW)(d:ax):aa:=match sw c i with
 |.a0 x=>br x.env d.Env|.a1 x=>br x.stack d.Stack|.a2 x=>af d.Stack x.stack|.none=>J
def JY(g:Lo d):Ub c i d=W↔zW c i d:=by
 have m:=g.s;have a:∀k:Nat,i.Op=k->k≠18->dG c i=yu.getD k 0:=λk h j=>by unfold dG;rw[cm (by omega),show i.Op.toNat=k by omega]
 unfold Ub sw zW;by_cases h4:i.Op=4;have b:dG c i=0:=a 4 h4 (by decide);rw[bO h4];simp only[br,sC];omega;by_cases e:i.Op=10;have b:dG c i=0:=a 10 e (by decide)
 simp_all[cm,bO,br,sC]
 by_cases l:i.Op=8;have b:dG c i=2:=a 8 l (by decide)
 simp_all[cm,bO,af,jk]
 by_cases f:i.Op=34;have b:dG c i=1:=a 34 f (by decide)
 simp_all[cm,bO,af,jk]
 simp_all[cm,br,sC]
abbrev CB:=(L bW)×(L aM)×(L Int)×Int×(L ck)×U
def cb(c:aB):CB:=(c.1,c.2,c.3,c.4,c.5,())
def Ql(f:zn c)(b:0<=m)(h1:m<c.dA.length):xm n (m,d,(out,()),cb c,(todo,()),())=pO (m,d,(out,()),cb c,(todo,()),()) ((Ub c (bC c m) d,()),()):=by have a:=aeb (n:=n) (f.io b h1) (f.cn b h1);have g:aL m c.dA=W:=oW.2 ⟨b,h1⟩;unfold xm;show TL.aU (aL m c.dA) (ai (F149 n (c,bC c m,())) _)=_;rw[g,a];unfold Ub;cases e:sw c (bC c m)with|a0 x=>rfl|a1 x=>rfl|a2 x=>rfl|none=>unfold sw at e;(repeat' (split at e))<;>cases e
abbrev RX:=Int×ax×((L ax)×U)×CB×((L Int)×U)×U
def rx(c:aB)(m:Int)(d:ax)(out:L ax)(todo:L Int):RX:=(m,d,(out,()),cb c,(todo,()),())
theorem LW(o:zn c)(hl:out.length=c.dA.length)(j:0<=m)(k:Lo d)(r:¬Good c m d\/((eK out m).Reached=W/\eK out m≠d)){dp:Nat} :
  dZ n (dp+1) (rx c m d out todo)=Z ((J,()),(out,()),cb c,(todo,()),()):=by
 rw[zc];unfold xo rx;have g:out.getD m.toNat aT=eK out m:=rfl;by_cases p:(out.length:Int)<=m;unfold ku;simp only[bL,p]<;>rfl;by_cases s:60<d.Stack;unfold ku;simp(disch:=omega)only[bL]<;>rfl;by_cases t:30<d.Env;unfold ku;simp(disch:=omega)only[bL]<;>rfl;have a:(eK out m).Reached=W->eK out m≠d->xo n dp (m,d,(out,()),cb c,(todo,()),())=Z ((J,()),(out,()),cb c,(todo,()),()):=λh1 h2=>by have b:=adj h2;rw[h1]at b;unfold xo ku iU;simp(disch:=omega)only[bL,g,h1,b]<;>rfl
 have h5:=Ql (n:=n) (d:=d) (out:=out) (todo:=todo) o j (by omega);have e:¬Good c m d->Ub c (bC c m) d=J:=λh=>by cases q:Ub c (bC c m) d with|false=>rfl|true=>exact absurd ⟨j,by omega,by omega,by omega,(JY k).1 q,k.re⟩ h
 cases f:(eK out m).Reached with
 |true=>
  by_cases l:eK out m=d;have i:¬Good c m d:=by
   simp_all
  have b:=Yc l;rw[f]at b;rw[e i]at h5;unfold iU;simp(disch:=omega)only[bL,g,f,b,h5]<;>rfl;exact a f l
 |false=>
  have i:¬Good c m d:=by
   simp_all
  rw[e i]at h5;unfold iU;simp(disch:=omega)only[bL,g,f,h5]<;>rfl
variable {dp:Nat}
def TG(g:zn c)(hl:out.length=c.dA.length)(h:Lo d)(a:Good c m d)(b:eK out m=d) :
  dZ n (dp+1) (rx c m d out todo)=Z ((W,()),(out,()),cb c,(todo,()),()):=by
 have i:=a.lo;have h1:=a.hi;have h2:=a.st;have h3:=a.en;rw[zc];unfold xo rx;have f:out.getD m.toNat aT=eK out m:=rfl;have h5:=Ql (n:=n) (d:=d) (out:=out) (todo:=todo) g i h1;rw[(JY h).2 a.ne]at h5;have e:(eK out m).Reached=W:=by rw[b];exact a.re
 have b:=Yc b;rw[e]at b;unfold iU;simp(disch:=omega)only[bL,f,e,b,h5];unfold pO iU;simp(disch:=omega)only[bL,f,e]<;>rfl
def TH(f:zn c)(hl:out.length=c.dA.length)(g:Lo d)(a:Good c m d)(b:(eK out m).Reached=J)(j:todo.length<=100000) :
  dZ n (dp+1) (rx c m d out todo)=Z ((W,()),(out.set m.toNat d,()),cb c,(todo++[m],()),()):=by
 have h:=a.lo;have h1:=a.hi;have h2:=a.st;have h3:=a.en;rw[zc];unfold xo rx;have e:out.getD m.toNat aT=eK out m:=rfl;have h5:=Ql (n:=n) (d:=d) (out:=out) (todo:=todo) f h h1;rw[(JY g).2 a.ne]at h5;unfold iU;simp(disch:=omega)only[bL,e,b,h5];unfold pO iU;simp(disch:=first|omega|simp only[lnsq];omega)only[bL,e,b]<;>rfl
end
section
variable {n:Nat}{c:aB}{i:bW}{d:ax}{m:Int}{op s e:Int}{out:List ax}{todo:List Int}
theorem Vk(n k:Nat):R290 n (k+1)=B290 n (R290 n k):=rfl
def ajK:∀q:aM,aM.mk q.Form q.N q.Text q.CV=q
 |⟨_,_,_,_⟩=>rfl
def QA(q:aM):Prop:=Lr R290 (q,()) ((gx q,()),())
theorem ET{R B P:Type}(d:Nat):∀(qs pre:L aM)(k:Int),0<=k->k+(vz qs:Int)<=100000->pre.length+qs.length<=100000->(∀q∈qs,QA q)->
  ∀F:Nat->Int×Int×U->O (LO (Int×Int×U) R B P),
  (∀n g,F n g=aj (aD g.2.1 (aq (pre++qs))) (aU (aL g.2.1 (pre++qs)) (ai (R290 n (n-d) (@aX aM (pre++qs) (au g.2.1) aS,())) λh=>Z (N (aC .i64 g.1 h.1.1,aC .i64 g.2.1 1,())))) (Z (H 0 g)))->
  ic F (k,(pre.length:Int),()) (.out 0 (k+lg qs,((pre++qs).length:Int),()))
 |[],pre,k,_,_,_,_,F,b=>by unfold lg;refine .out (bI λn=>?_);rw[b];simp(disch:=omega)only[bL,tK,EI]<;>rfl
 |q::qs,pre,k,m,h1,e,c,F,b=>by
  unfold vz at h1;simp only[qP]at e;have o:=sM q;have f:(pre++q::qs).getD pre.length aS=q:=vT ..;have h2:=ET (R:=R) (B:=B) (P:=P) d qs (pre++[q]) (k+gx q) (by omega) (by omega) (by simp;omega) (λi h=>c i (hJ _ h)) F (λn g=>by rw[b];simp only[vw,OU]<;>rfl);have h3:=c q fQ d;simp only[vw,OU]at h2;unfold lg;rw[<-Int.add_assoc];refine .next (y:=(k+gx q,((pre++[q]).length:Int),())) ?_ h2
  obtain⟨a,h3⟩:=h3;refine⟨a,λn j=>?_⟩;have:=h3 n j;show F n _=_;rw[b];simp(disch:=first|omega|simp only[lnsq];omega)only[bL,f,xu,EH,ff,fe];refine(lq (λx=>ai x _) this).trans ?_;show Z (N (aC .i64 k (gx q),aC .i64 (pre.length:Int) 1,()))=_
  grind[bX]
theorem WJ{cons:L ck}:∀q:aM,pw q<=1000->xP cons q->QA q
 |⟨a,n0,text,parts⟩,o,b=>by
  have j:a=2->parts=[]:=by
   grind[xP]
  have l:vD cons parts:=by
   unfold xP at b;obtain c|c|c|c:=b
   rw[c.2.2.2];trivial;rw[c.2.2.2];trivial;rw[c.2.2.2];trivial
   simp_all
  unfold pw at o;have u:=Xf parts;refine Lr.step Vk λd=>?_;have m:=λ(k:Int)(p:0<=k)(h1:k<=1)=>ET (R:=Int×U) (B:=U) (P:=Any) d parts [] k p (by omega) (by grind) (λq r=>names' parts (by omega) l q r) _ (λn g=>rfl);have hB:∀n,B290 n (R290 n (n-d)) (⟨a,n0,text,parts⟩,())=ai (@iter (Int×Int×U) (Int×U) U Any (λg=>aj (aD g.2.1 (aq parts)) (aU (aL g.2.1 parts) (ai (R290 n (n-d) (@aX aM parts (au g.2.1) aS,())) λh=>Z (N (aC .i64 g.1 h.1.1,aC .i64 g.2.1 1,())))) (Z (H 0 g))) n ((if a=2 then 1 else 0),0,())) λg=>bq g (λ_ i=>Z ((i.1,()),())) (λ_ i=>Z (i,())) λ_(_:Any)=>Y:=by intro n;unfold B290 GP;by_cases h:a=2;simp only[bL,h,yE,cz,ajK]<;>rfl;simp(disch:=omega)only[bL,h,if_false,cz,ajK]<;>rfl
  refine Ev.oI hB ?_;by_cases h:a=2;rw[bO h];refine Ev.bh (m 1 (by omega) (by omega)) (λn e=>_) _ ?_;exact bI λn=>by unfold gx;rw[bO h,j h];rfl
  rw[cm h];refine Ev.bh (m 0 (by omega) (by omega)) (λn e=>_) _ ?_;exact bI λn=>by unfold gx;rw[cm h,Int.zero_add];rfl
where
 names':∀(f:L aM),vz f<=1000->vD cons f->∀q∈f,QA q
 |[],_,_,_,h=>by cases h
 |q::f,s,b,t,h=>by
  unfold vz at s;unfold vD at b;obtain h|h:=fF.1 h
  rw[h];exact WJ q (by omega) b.1;exact names' f (by omega) b.2 t h
def oH(c:aB)(i:bW):Int:=if i.Op=8\/i.Op=20\/i.Op=34 then 0 else(if i.Op=9\/i.Op=10\/i.Op=11\/i.Op=12\/i.Op=19 then 0 else 1)-(dG c i:Int)
def kB(c:aB)(i:bW):Int:=if i.Op=9 then 1 else if i.Op=10 then -i.A else if i.Op=19 then gx (zP c i.A)else 0
theorem al7(o:zn c)(p:0<=m)(h1:m<c.dA.length)(hi:bC c m=i):Ev (λn=>F235 n (c,i,())) ((oH c i,kB c i,()),()):=by
 have io:=o.io p h1;have cn:=o.cn p h1;have tl:=Eg o p h1;rw[hi]at io cn tl;have w:=io.lo;have y:=io.hi;by_cases b:i.Op=18;obtain⟨z,A,B⟩:=cn b;refine bI λn=>?_;have g:(dG c i:Int)=(c.Cons.getD i.A.toNat bn).mL:=by unfold dG rq;grind
 have u:oH c i=1-(c.Cons.getD i.A.toNat bn).mL:=by unfold oH;rw[cm (by omega),cm (by omega),g]
 have ge:kB c i=0:=by unfold kB;rw[cm (by omega),cm (by omega),cm (by omega)]
 unfold F235 ou si;simp(disch:=omega)only[bL,b,cz,ec,u,ge]<;>rfl;by_cases d:i.Op=10;have hA:=io.drop d;have q:Oi .i64 i.A=-i.A:=by show IntKind.wrap .i64 (-i.A)=_;exact Jp (by omega) (by omega)
 refine bI λn=>?_;have g:dG c i=0:=by unfold dG;rw[cm b,show i.Op.toNat=10 by omega];rfl
 unfold F235 ou si oH kB;rw[cm (by omega),bO (by omega),g,cm (by omega),bO d];simp(disch:=omega)only[bL,d,cz,q]<;>rfl;by_cases e:i.Op=19;have C:=io.SL e;have r:=o.pats _ (cN aS (show i.A.toNat<c.ez.length by omega));obtain⟨a,f⟩:=WJ _ (by omega) r.1 0;have j:∀n,a<=n->F290 n (c.ez.getD i.A.toNat aS,())=Z ((gx (c.ez.getD i.A.toNat aS),()),()):=f;have g:dG c i=1:=by unfold dG;rw[cm b,show i.Op.toNat=19 by omega];rfl
 refine⟨a,λn v=>?_⟩;have f:=j n v;show F235 n _=_;unfold F235 ou si oH kB;rw[cm (by omega),bO (by omega),g,cm (by omega),cm d,bO e];simp(disch:=omega)only[bL,e,cz];exact(lq (λx=>ai x _) f).trans rfl;obtain⟨k,l⟩:∃k:Nat,i.Op=k:=⟨_,(JN (by omega)).symm⟩;have s:1<=k:=by omega
 have t:k<=34:=by omega
 refine bI λn=>?_;unfold oH kB dG;rw[cm b,show i.Op.toNat=k by omega];unfold F235;simp only[l]
 match k,s,t,l with
 |18,_,_,l=>omega|10,_,_,l=>omega|19,_,_,l=>omega
 |1,_,_,_|2,_,_,_|3,_,_,_|4,_,_,_|5,_,_,_|6,_,_,_|7,_,_,_|8,_,_,_|9,_,_,_|11,_,_,_|12,_,_,_|13,_,_,_|14,_,_,_|15,_,_,_|16,_,_,_|17,_,_,_
 |20,_,_,_|21,_,_,_|22,_,_,_|23,_,_,_|24,_,_,_|25,_,_,_|26,_,_,_|27,_,_,_|28,_,_,_|29,_,_,_|30,_,_,_|31,_,_,_|32,_,_,_|33,_,_,_|34,_,_,_=>rfl|k+35,_,h,_=>omega
theorem ahl(io:Zd c i):F236 n (i,sw c i,())=Z ((decide (i.Op=8\/i.Op=20\/i.Op=34),()),()):=by
 unfold F236 sw;have y:∀x,lW [(315,Ty.st 31),(317,Ty.st 32),(318,Ty.st 33)] 2 (iZ 34 (ek.a0 x))=J:=λ_=>rfl;have z:∀x,lW [(315,Ty.st 31),(317,Ty.st 32),(318,Ty.st 33)] 2 (iZ 34 (ek.a1 x))=J:=λ_=>rfl;have u:∀x,lW [(315,Ty.st 31),(317,Ty.st 32),(318,Ty.st 33)] 2 (iZ 34 (ek.a2 x))=W:=λ_=>rfl;by_cases h4:i.Op=4;rw[bO h4,y,gX (by omega)];simp(disch:=omega)only[bL,h4]<;>rfl;by_cases a:i.Op=10;rw[cm h4,bO a,y,gX (by omega)];simp(disch:=omega)only[bL,a]<;>rfl;by_cases d:i.Op=8;rw[cm h4,cm a,bO d,u,jc (.inl d)];rfl;by_cases b:i.Op=34;rw[cm h4,cm a,cm d,bO b,u,jc (.inr (.inr b))];rfl;rw[cm h4,cm a,cm d,cm b,z];show Z ((af i.Op 20,()),())=_
 grind[decide_eq_true,jk,decide_eq_false,af]
end
section
variable {n:Nat}{c:aB}{i:bW}{d e:ax}{m x:Int}{out:List ax}{todo:List Int}{mm:Int->Prop}
abbrev PX:=((L ax)×U)×CB×((L Int)×U)×(aa×U)×U
abbrev PO:=LO PX (L ax×Int×U) PX Any
def px(c:aB)(out:L ax)(todo:L Int)(b:aa):PX:=((out,()),cb c,(todo,()),(b,()),())
structure PJ(c:aB)(mm:Int->Prop)(out:List ax)(todo:List Int):Prop where
 pi:PI c (λn=>n∈todo\/mm n) out
 td:∀n∈todo,0<=n/\n<c.dA.length/\(eK out n).Reached=W
 sz:todo.length+qt out<=c.dA.length
 lo:∀n:Int,0<=n->n<c.dA.length->(eK out n).Reached=W->Lo (eK out n)
structure Got(c:aB)(mm:Int->Prop)(l:List (Int×ax))(out:List ax)(todo:List Int)(out':List ax)(todo':List Int):Prop where
 pj:PJ c mm out' todo'
 keep:jE out out'
 all:∀y∈l,0<=y.1/\y.1<c.dA.length/\eK out' y.1=y.2/\y.2.Reached=W
 le:2*qt out'+todo'.length<=2*qt out+todo.length
theorem yC(o:zn c)(h:PJ c mm out todo)(f:Jo c x d)(hlo:Lo d)(g:0<=x) :
  (∃i b,(∀n l,dZ n (l+1) (rx c x d out todo)=Z ((W,()),(i,()),cb c,(b,()),()))/\Got c mm [(x,d)] out todo i b)\/
  (NoD c/\∀n l,dZ n (l+1) (rx c x d out todo)=Z ((J,()),(out,()),cb c,(todo,()),())):=by
 have p:=h.pi.len;have A:=h.sz;have v:=o.len;by_cases a:Good c x d
 .cases m:(eK out x).Reached with
  |true=>by_cases r:eK out x=d;refine .inl ⟨out,todo,λn l=>TG o p hlo a r,h,jE.refl,λy s=>?_,cM _⟩;rw[sE.1 s];exact⟨g,a.hi,r,a.re⟩;exact .inr ⟨W0 o (h.pi.re x g a.hi m).1 f r,λn l=>LW o p g hlo (.inr ⟨m,r⟩)⟩|false=>
   have w:=Iy (out:=out) (k:=x.toNat) (d:=d) (by have:=a.hi;omega) m a.re;have j:=λ(q:Int)(e:0<=q)=>DM (d:=d) (out:=out) g (by have:=a.hi;omega) e;refine .inl ⟨out.set x.toNat d,todo++[x],λn l=>TH o p hlo a m (by omega),⟨(h.pi.set f a m).mono λq e=>?_,λq e=>?_,by grind,λq u z t=>?_⟩,Um p a m,λy s=>?_,by grind⟩
   grind
   obtain e|e:=eN.1 e
   have:=h.td q e
   grind
   rw[sE.1 e];exact⟨g,a.hi,by rw[j x g,bO rfl];exact a.re⟩;rw[j q u]at t ⊢;by_cases e:q=x
   simp_all
   rw[cm e]at t ⊢;exact h.lo q u z t;rw[sE.1 s];exact⟨g,a.hi,by rw[j x g,bO rfl],a.re⟩
 grind[zU,LW]
noncomputable def T6(n a:Nat)(x:RX):O PO:=ai (dZ n (a+8) x) (ot n)
noncomputable def Ly(n a:Nat)(i:PX)(x:RX)(k:(ax×U)×U):O PO:=
 ai (dZ n (a+8) x) λl=>aj (ak l.1.1) (CX n l) (ai (F149 n (mT i)) λm=>ai (mI n i m) λo=>aj (ak o.1.1) (ai (dZ n (a+8) (sd i k l)) (ot n)) (CW n l))
def RQ(c:aB)(mm:Int->Prop)(l:L (Int×ax))(out:L ax)(todo:L Int)(o:PO):Prop:=
 (∃b a,o=.next (px c b a W)/\Got c mm l out todo b a)\/(∃b a,o=.out 0 (px c b a J)/\NoD c)
def WX(g:zn c)(h:PJ c mm out todo)(e:Jo c x d)(hlo:Lo d)(i:0<=x):∃o,(∀n f,T6 n f (rx c x d out todo)=Z o)/\RQ c mm [(x,d)] out todo o:=by
 obtain⟨b,a,h1,h2⟩|⟨h1,h2⟩:=yC g h e hlo i
 .refine ⟨.next (px c b a W),λn f=>?_,.inl ⟨b,a,rfl,h2⟩⟩;unfold T6;rw[h1 n (f+7)];rfl
 refine⟨.out 0 (px c out todo J),λn f=>?_,.inr ⟨out,todo,rfl,h1⟩⟩;unfold T6;rw[h2 n (f+7)];rfl
theorem ag8(l:zn c)(h:PJ c mm out todo)(p:Jo c x d)(hlo:Lo d)(z:0<=x){i:PX}{k:(ax×U)×U}(hi:iR i=bC c m)(h4:mT i=(c,bC c m,()))(t:0<=m)(u:m<c.dA.length)
  (A:¬((bC c m).Op=8\/(bC c m).Op=20\/(bC c m).Op=34)) (h2:gZ i=m) (B:k.1.1=e) (f:Jo c (m+1) e) (q:Lo e) :
  ∃o,(∀n j,Ly n j i (rx c x d out todo) k=Z o)/\RQ c mm [(m+1,e),(x,d)] out todo o:=by
 have C:=l.len;obtain⟨b,a,h1,g⟩|⟨h1,g⟩:=yC l h p hlo z
 have E:=λn=>aeb (n:=n) (l.io t u) (l.cn t u);have w:=λn=>ahl (n:=n) (l.io t u);rw[gX A]at w;obtain⟨o,F,v⟩:=WX l g.pj f q (show 0<=m+1 by omega);have I:sd i k ((W,()),(b,()),cb c,(a,()),())=rx c (m+1) e b a:=by unfold sd;rw[h2,B,bX (by omega) (by omega)];rfl
 refine⟨o,λn j=>?_,?_⟩;have:=F n j;unfold T6 at this;unfold Ly;rw[h1 n (j+7),h4];show ai (F149 n (c,bC c m,())) _=_;rw[E];show ai (mI n i _) _=_;unfold mI;rw[hi];show ai (F236 n (bC c m,sw c (bC c m),())) _=_;rw[w];show ai (dZ n (j+8) (sd i k ((W,()),(b,()),cb c,(a,()),()))) _=_
 simp_all
 obtain⟨K,t2,P,r⟩|v:=v
 refine .inl ⟨K,t2,P,r.pj,g.keep.trans r.keep,λy s=>?_,fP r.le g.le⟩;obtain s|s:=fF.1 s
 exact r.all y (by simp_all);have:=g.all y s;exact⟨this.1,this.2.1,by rw[r.keep y.1 this.1 (by simp_all)];grind,this.2.2.2⟩;exact .inr v;refine⟨.out 0 (px c out todo J),λn j=>?_,.inr ⟨out,todo,rfl,h1⟩⟩;unfold Ly;rw[g n (j+7)];rfl
theorem PJ.pop{rest:L Int}(h:PJ c (λ_=>False) out (rest++[m])):PJ c (λq=>q=m) out rest:=
 ⟨h.pi.mono λq a=>by
  simp_all,λq a=>h.td q (eL _ a),by have:=h.sz;grind,h.lo⟩
theorem PJ.ag7(h:PJ c (λq=>q=m) out todo)(hn:∀y∈fV c m (eK out m),0<=y.1/\y.1<c.dA.length/\eK out y.1=y.2):PJ c (λ_=>False) out todo:=
 ⟨⟨h.pi.len,h.pi.re,λq a b d f y e=>by
  by_cases g:q=m
  grind
  exact h.pi.fo q a b d (λi=>by
   simp_all) y e,h.pi.zero⟩,h.td,h.sz,h.lo⟩
end
section
variable {n:Nat}{c:aB}{i:bW}{d e:ax}{m x:Int}{out:List ax}{todo rest:List Int}{mm:Int->Prop}
noncomputable def Hw(n a:Nat)(i:PX)(k:(ax×U)×U):O PO:=
 aj (af (iR i).1 11) (T6 n a (tj i k)) (aj (af (iR i).1 12) (Ly n a i (tj i k) k) (aj (af (iR i).1 19) (Ly n a i (GD i) k)
 (aj (af (iR i).1 6) (ai (F152 n (0,aC .i64 (aX i.1.1 (au (gZ i)) aT).3 1,())) λl=>Ly n a i (tj i l) k) (aj (af (iR i).1 32) (ai (F152 n (0,aC .i64 (aX i.1.1 (au (gZ i)) aT).3 1,())) λl=>Ly n a i (tj i l) k)
 (aj (af (iR i).1 31) (ai (F152 n (0,(aX i.1.1 (au (gZ i)) aT).3,())) λl=>Ly n a i (tj i l) k)
 (ai (F149 n (mT i)) λl=>ai (mI n i l) λm=>aj (ak m.1.1) (T6 n a (aC .i64 (gZ i) 1,k.1.1,GB i)) (GC n i)))))))
noncomputable def TF(n a:Nat)(i:PX):O PO:=
 aj (aD 0 (aq i.2.2.1.1)) (aU (aL (rG i) i.2.2.1.1) (aU (eo (au (rG i)) i.2.2.1.1) (aU (fX 0 (rG i) (aq i.2.2.1.1)) (aU (aL (gZ i) i.1.1) (aU (eo (au (gZ i)) i.1.1) (aU (aL (gZ i) i.2.1.1) (ai (F235 n (mT i)) λj=>ai (Je n i j) λk=>Hw n a i k))))))) (Z (H 0 i))
theorem ajI(B:zn c)(h:PJ c (λ_=>False) out (rest++[m])){k:(ax×U)×U}(z:k.1.1=cg ((eK out m).Stack+oH c (bC c m)) ((eK out m).Env+kB c (bC c m))) :
  ∃o,(∀n g,Hw n g (px c out (rest++[m]) W) k=Z o)/\RQ c (λq=>q=m) (fV c m (eK out m)) out rest o:=by
 obtain⟨C,E,mr⟩:=h.td m (by simp);obtain⟨F,S⟩:=h.pi.re m C E mr;have io:=B.io C E;have hcl:=B.len;have Q:=h.pop;have hsz:=h.sz;rw[xu,EH]at hsz;have b1:rG (px c out (rest++[m]) W)=(rest.length:Int):=by show bH .i64 (((rest++[m]).length:Nat):Int) 1=_;rw[xu,EH,ec]<;>omega
 have I:gZ (px c out (rest++[m]) W)=m:=by unfold gZ;rw[b1];exact Fy rest m 0 [] rfl
 have r:iR (px c out (rest++[m]) W)=bC c m:=by unfold iR;rw[I];rfl
 have b4:mT (px c out (rest++[m]) W)=(c,bC c m,()):=by unfold mT;rw[r];rfl
 have b6:GB (px c out (rest++[m]) W)=((out,()),cb c,(rest,()),()):=by unfold GB;rw[b1];show((out,()),cb c,(dD (rest++[m]) 0 (rest.length:Int),()),())=_;rw[LG _ _ rfl]
 have K:∀l:(ax×U)×U,tj (px c out (rest++[m]) W) l=rx c (bC c m).A l.1.1 out rest:=λl=>by unfold tj;rw[r,b6];rfl
 have b13:GD (px c out (rest++[m]) W)=rx c (bC c m).B (eK out m) out rest:=by unfold GD;rw[r,b6,I];rfl
 have be:(aX (px c out (rest++[m]) W).1.1 (au (gZ (px c out (rest++[m]) W))) aT).3=(eK out m).Env:=by rw[I];rfl
 have b16:∀n,GC n (px c out (rest++[m]) W)=Z (.next (px c out rest W)):=by intro n;unfold GC;rw[b1];show Z (N ((out,()),cb c,(dD (rest++[m]) 0 (rest.length:Int),()),((W,()),())))=_;rw[LG _ _ rfl];rfl
 have P:∀n,F149 n (c,bC c m,())=Z ((sw c (bC c m),()),()):=λn=>aeb io (B.cn C E);have v:∀n,mI n (px c out (rest++[m]) W) ((sw c (bC c m),()),())=Z ((decide ((bC c m).Op=8\/(bC c m).Op=20\/(bC c m).Op=34),()),()):=λn=>by
  grind[mI,ahl]
 have lo:=h.lo m C E mr;have nl:=λy R=>E3 B C E S.ne lo (x:=y) R;have f:=λ(y:Int×ax)R=>Jo.next F (x:=y) R
 generalize hG:eK out m=a at *
 have hGe:a=cg a.Stack a.Env:=ab2 S.re;by_cases i:(bC c m).Op=8\/(bC c m).Op=20\/(bC c m).Op=34
 .have j:fV c m a=[]:=by unfold fV;obtain h|h|h:=i<;>simp only[show ∀k:Nat,(bC c m).Op=k->(bC c m).Op.toNat=k from λk h=>by omega,h]<;>rfl
  refine⟨.next (px c out rest W),λn g=>?_,.inl ⟨out,rest,rfl,Q,jE.refl,λy R=>?_,cM _⟩⟩;unfold Hw;rw[r,b4];rw[jc i]at v;have n1:(bC c m).Op≠11:=by omega
  have n2:(bC c m).Op≠12:=by omega
  have n3:(bC c m).Op≠19:=by omega
  have n4:(bC c m).Op≠6:=by omega
  have n5:(bC c m).Op≠32:=by omega
  have n6:(bC c m).Op≠31:=by omega
  simp(disch:=omega)only[bL,n1,n2,n3,n4,n5,n6,P,v];exact b16 n
  grind
 rw[gX i]at v;have gl:a.Stack+oH c (bC c m)=gT c (bC c m) a:=by unfold oH gT;omega
 rw[gl]at z;have w:=λ{x:Int}{d e:ax}(hd:Jo c x d)(hl:Lo d)(hx:0<=x)(k:(ax×U)×U)(z:k.1.1=e)(hd':Jo c (m+1) e)(hl':Lo e)=>ag8 (k:=k) B Q hd hl hx r b4 C E i I z hd' hl';by_cases k11:(bC c m).Op=11;have j:fV c m a=[((bC c m).A,a)]:=by
  grind[fV,bC]
 have b:k.1.1=a:=by
  have tk:dG c (bC c m)=0:=by unfold dG;rw[cm (by omega),show(bC c m).Op.toNat=11 by omega];rfl
  have l1:gT c (bC c m) a=a.Stack:=by unfold gT;omega
  have g1:kB c (bC c m)=0:=by unfold kB;rw[cm (by omega),cm (by omega),cm (by omega)]
  grind
 rw[j]at nl f ⊢;obtain⟨o,p,t⟩:=WX B Q (f _ (tN _)) (nl _ (tN _)).2 (nl _ (tN _)).1;refine⟨o,λn g=>?_,t⟩;unfold Hw;rw[r];simp only[bL,k11,K,b];exact p n g;by_cases k12:(bC c m).Op=12;have j:fV c m a=[(m+1,cg (gT c (bC c m) a) a.Env),((bC c m).A,cg (gT c (bC c m) a) a.Env)]:=by
  grind[fV,bC]
 have b:k.1.1=cg (gT c (bC c m) a) a.Env:=by rw[z];unfold kB;rw[cm (by omega),cm (by omega),cm (by omega),EI]
 rw[j]at nl f ⊢;obtain⟨o,p,t⟩:=w (f _ (hJ _ (tN _))) (nl _ (hJ _ (tN _))).2 (nl _ (hJ _ (tN _))).1 k b (f _ fQ) (nl _ fQ).2;refine⟨o,λn g=>?_,t⟩;unfold Hw;rw[r];simp(disch:=omega)only[bL,k11,k12,K,b];exact p n g;by_cases Fo:(bC c m).Op=19;have j:fV c m a=[(m+1,cg (gT c (bC c m) a) (a.Env+gx (zP c (bC c m).A))),((bC c m).B,a)]:=by
  grind[fV,bC]
 have b:k.1.1=cg (gT c (bC c m) a) (a.Env+gx (zP c (bC c m).A)):=by rw[z];unfold kB;rw[cm (by omega),cm (by omega),bO Fo]
 rw[j]at nl f ⊢;obtain⟨o,p,t⟩:=w (f _ (hJ _ (tN _))) (nl _ (hJ _ (tN _))).2 (nl _ (hJ _ (tN _))).1 k b (f _ fQ) (nl _ fQ).2;refine⟨o,λn g=>?_,t⟩;unfold Hw;rw[r];simp(disch:=omega)only[bL,Fo,b13];exact p n g;have u:∀n s e,F152 n (s,e,())=Z ((cg s e,()),()):=λ_ _ _=>rfl;have ae:aC .i64 a.Env 1=a.Env+1:=bX (by have:=lo.e;omega) (by have:=S.en;omega);by_cases A:(bC c m).Op=6\/(bC c m).Op=32;have j:fV c m a=[(m+1,cg (gT c (bC c m) a) a.Env),((bC c m).A,cg 0 (a.Env+1))]:=by unfold fV;obtain h|h:=A<;>simp only[show ∀k:Nat,(bC c m).Op=k->(bC c m).Op.toNat=k from λk h=>by omega,h]<;>rfl
 have b:k.1.1=cg (gT c (bC c m) a) a.Env:=by rw[z];unfold kB;rw[cm (by omega),cm (by omega),cm (by omega),EI]
 rw[j]at nl f ⊢;obtain⟨o,p,t⟩:=w (f _ (hJ _ (tN _))) (nl _ (hJ _ (tN _))).2 (nl _ (hJ _ (tN _))).1 k b (f _ fQ) (nl _ fQ).2;refine⟨o,λn g=>?_,t⟩;unfold Hw;rw[r,be];obtain h|h:=A
 simp(disch:=omega)only[bL,h,ae,u,K];exact p n g;simp(disch:=omega)only[bL,h,ae,u,K];exact p n g;by_cases k31:(bC c m).Op=31;have j:fV c m a=[(m+1,cg (gT c (bC c m) a) a.Env),((bC c m).A,cg 0 a.Env)]:=by
  grind[fV,bC]
 have b:k.1.1=cg (gT c (bC c m) a) a.Env:=by rw[z];unfold kB;rw[cm (by omega),cm (by omega),cm (by omega),EI]
 rw[j]at nl f ⊢;obtain⟨o,p,t⟩:=w (f _ (hJ _ (tN _))) (nl _ (hJ _ (tN _))).2 (nl _ (hJ _ (tN _))).1 k b (f _ fQ) (nl _ fQ).2;refine⟨o,λn g=>?_,t⟩;unfold Hw;rw[r,be];simp(disch:=omega)only[bL,k31,u,K];exact p n g;have k6:(bC c m).Op≠6:=by omega
 have k32:(bC c m).Op≠32:=by omega
 have j:fV c m a=[(m+1,cg (gT c (bC c m) a) (a.Env+kB c (bC c m)))]:=by
  unfold kB fV;have:=io.lo;dsimp only;by_cases k9:(bC c m).Op=9
  grind
  by_cases k10:(bC c m).Op=10
  grind
  rw[cm k9,cm k10,cm Fo,EI];split<;>first|rfl|(exfalso;omega)
 rw[j]at nl f ⊢;obtain⟨o,p,t⟩:=WX B Q (f _ (tN _)) (nl _ (tN _)).2 (nl _ (tN _)).1;refine⟨o,λn g=>?_,t⟩;unfold Hw;rw[r,b4];have am:aC .i64 m 1=m+1:=bX (by omega) (by omega);simp(disch:=omega)only[bL,k11,k12,Fo,k6,k32,k31,P,v,I,am,b6,z];exact p n g
end
section
variable {n:Nat}{c:aB}{i:bW}{d e:ax}{m x:Int}{out:List ax}{todo rest:List Int}{mm:Int->Prop}
def ahc(a:zn c)(h:PJ c (λ_=>False) out (rest++[m])):∃o,Ev (λn=>TF n n (px c out (rest++[m]) W)) o/\RQ c (λq=>q=m) (fV c m (eK out m)) out rest o:=by
 obtain⟨b,d,i⟩:=h.td m (by simp);obtain⟨l,p⟩:=h.pi.re m b d i;have lo:=h.lo m b d i;have Q:=h.pi.len;have s:=a.len;have e:=h.sz;have t:=Eg a b d;rw[xu,EH]at e;have r:rG (px c out (rest++[m]) W)=(rest.length:Int):=by show bH .i64 (((rest++[m]).length:Nat):Int) 1=_;rw[xu,EH,ec]<;>omega
 have f:gZ (px c out (rest++[m]) W)=m:=by unfold gZ;rw[r];exact Fy rest m 0 [] rfl
 have u:iR (px c out (rest++[m]) W)=bC c m:=by unfold iR;rw[f];rfl
 have v:mT (px c out (rest++[m]) W)=(c,bC c m,()):=by unfold mT;rw[u];rfl
 have R:-3<=oH c (bC c m)/\oH c (bC c m)<=1:=by unfold oH;split<;>(try split)<;>omega
 have io:=a.io b d;have S:-30<=kB c (bC c m)/\kB c (bC c m)<=12:=by
  unfold kB;split;omega;split;have:=io.drop (by assumption);omega;split;have hp:=io.SL (by assumption);have w:=a.pats _ (cN aS (show(bC c m).A.toNat<c.ez.length by omega));have x:=sM (zP c (bC c m).A);unfold zP at *
  omega;omega
 have y:∀n,Je n (px c out (rest++[m]) W) ((oH c (bC c m),kB c (bC c m),()),())=Z ((cg ((eK out m).Stack+oH c (bC c m)) ((eK out m).Env+kB c (bC c m)),()),()):=by intro n;have:=lo.s;have:=lo.e;have:=p.st;have:=p.en;unfold Je;rw[f];show Z ((cg (aC .i64 (eK out m).Stack (oH c (bC c m))) (aC .i64 (eK out m).Env (kB c (bC c m))),()),())=_;rw[bX (by omega) (by omega),bX (by omega) (by omega)]
 obtain⟨o,z,A⟩:=ajI a h (k:=((cg ((eK out m).Stack+oH c (bC c m)) ((eK out m).Env+kB c (bC c m)),()),())) rfl;refine⟨o,?_,A⟩;refine Ev.oI (g:=λn=>ai (F235 n (c,bC c m,())) λj=>ai (Je n (px c out (rest++[m]) W) j) λk=>Hw n n (px c out (rest++[m]) W) k) (λn=>?_) (Ev.ai (al7 a b d rfl) ?_);unfold TF;rw[r,f,v];have B:aD 0 (aq (px c out (rest++[m]) W).2.2.1.1)=W:=DE.2 (by show(0:Int)<(((rest++[m]).length:Nat):Int);simp<;>omega);have C:aL (rest.length:Int) (px c out (rest++[m]) W).2.2.1.1=W:=oW.2 (by show _/\_<(((rest++[m]).length:Nat):Int);simp<;>omega);have E:eo (au (rest.length:Int)) (px c out (rest++[m]) W).2.2.1.1=W:=by show decide (rest.length<(rest++[m]).length)=W;simp
 have F:fX 0 (rest.length:Int) (aq (px c out (rest++[m]) W).2.2.1.1)=W:=Sz.2 (by show _/\_/\_<=(((rest++[m]).length:Nat):Int);simp<;>omega);have I:aL m (px c out (rest++[m]) W).1.1=W:=oW.2 (by show _/\_<((out.length:Nat):Int);omega);have K:eo (au m) (px c out (rest++[m]) W).1.1=W:=by show decide (m.toNat<out.length)=W;simp<;>omega
 have P:aL m (px c out (rest++[m]) W).2.1.1=W:=oW.2 (by show _/\_<((c.dA.length:Nat):Int);omega);rw[B,C,E,F,I,K,P];rfl;refine bI λn=>?_;rw[y];exact z n n
structure PK(c:aB)(x:PX):Prop where
 st:∃out todo,x=px c out todo W/\PJ c (λ_=>False) out todo/\∀f∈c.cW,eK out f=cg 0 1
def PQ(c:aB)(o:PO):Prop:=(∃out todo,o=.out 0 (px c out todo W)/\Ok c out)\/(∃out todo,o=.out 0 (px c out todo J)/\NoD c)
theorem ahB(k:zn c){x':PX}(h:PK c x'):∃o,ic (λn=>TF n n) x' o/\PQ c o:=by
 refine ic.inv (F:=λn=>TF n n) (PK c) (λx=>2*qt x.1.1+x.2.2.1.1.length) (PQ c) (λx t=>?_) x' h;obtain⟨out,todo,rfl,d,e⟩:=t.st;obtain rfl|⟨rest,m,rfl⟩:=List.eq_nil_or_concat todo
 .refine .inr ⟨.out 0 (px c out [] W),(λy h=>by cases h),bI λn=>?_,.inl ⟨out,[],rfl,?_⟩⟩;rfl
  .exact PI.done (d.pi.mono λq l=>by
    simp_all) e
 rw[List.concat_eq_append]at *
 obtain⟨o,p,l⟩:=ahc k d;obtain⟨b,a,rfl,g⟩|⟨b,a,rfl,i⟩:=l
 have r:=d.td m (by simp);refine .inl ⟨_,p,⟨⟨b,a,rfl,g.pj.ag7 λy s=>?_,λf j=>?_⟩⟩,?_⟩;rw[g.keep m r.1 r.2.2]at s;have:=g.all y s
 simp_all
 rw[g.keep f (k.o4 f j).1 (by rw[e f j];rfl)];exact e f j;have:=g.le;show 2*qt b+a.length<2*qt out+(rest++[m]).length
 grind
 exact .inr ⟨_,(λy h=>by cases h),p,.inr ⟨b,a,rfl,i⟩⟩
abbrev QX:=Int×((L ax)×U)×CB×((L Int)×U)×U
abbrev QS:=((L ax)×U)×CB×((L Int)×U)×U
noncomputable def LU(c:aB)(n a:Nat)(e:QX):O (LO QX (Int×U) QS Any):=
 aj (aD e.1 (aq c.3)) (aU (aL e.1 c.3) (ai (F152 n (0,1,())) λg=>ai (dZ n (a+5) (aX c.3 (au e.1) 0,g.1.1,e.2)) λh=>aj (ak h.1.1) (Z (X h.2 (e.1,()))) (Z (N (aC .i64 e.1 1,h.2))))) (Z (H 0 e))
structure QK(c:aB)(x:QX):Prop where
 st:∃(k:Nat)(out:List ax)(todo:List Int),x=((k:Int),(out,()),cb c,(todo,()),())/\k<=c.cW.length/\PJ c (λ_=>False) out todo/\∀j:Nat,j<k->eK out (c.cW.getD j 0)=cg 0 1
def QQ(c:aB)(o:LO QX (Int×U) QS Any):Prop:=
 (∃(k:Int)(out:L ax)(todo:L Int),o=.out 0 (k,(out,()),cb c,(todo,()),())/\PJ c (λ_=>False) out todo/\∀f∈c.cW,eK out f=cg 0 1)\/∃(s:QS)(k:Nat),o=.ret s ((k:Int),())/\NoD c
theorem ahC(e:zn c){x:QX}(h:QK c x):∃o,ic (λn=>LU c n n) x o/\QQ c o:=by
 refine ic.inv (F:=λn=>LU c n n) (QK c) (λx=>c.cW.length-x.1.toNat) (QQ c) (λx t=>?_) x h;obtain⟨k,out,todo,rfl,z,r,u⟩:=t.st;have v:=e.fl;by_cases i:k=c.cW.length;subst i;refine .inr ⟨.out 0 ((c.cW.length:Int),(out,()),cb c,(todo,()),()),(λy h=>by cases h),bI λn=>?_,.inl ⟨(c.cW.length:Int),out,todo,rfl,r,λf w=>?_⟩⟩;unfold LU;simp(disch:=omega)only[bL]<;>rfl;obtain⟨j,l,rfl⟩:=p8 w
 simp_all
 .have m:k<c.cW.length:=by omega
  have s:c.cW.getD k 0∈c.cW:=cN _ m;have b:∀n,LU c n n ((k:Int),(out,()),cb c,(todo,()),())=ai (dZ n (n+5) (rx c (c.cW.getD k 0) (cg 0 1) out todo)) λh=>aj (ak h.1.1) (Z (X h.2 ((k:Int),()))) (Z (N (aC .i64 (k:Int) 1,h.2))):=by intro n;unfold LU;rw[show aD (k:Int) (aq c.3)=W from DE.2 (by simp only[aq];omega),show aL (k:Int) c.3=W from oW.2 (by omega)];rfl
  obtain⟨d,a,h1,g⟩|⟨h1,g⟩:=yC e r (.root s) ⟨rfl,Cl _,show(0:Int)<=1 by decide⟩ (e.o4 _ s).1
  have a1:aC .i64 (k:Int) 1=((k+1:Nat):Int):=by grind[bX]
  refine .inl ⟨(((k+1:Nat):Int),(d,()),cb c,(a,()),()),bI λn=>?_,⟨k+1,d,a,rfl,by omega,g.pj,λj l=>?_⟩,by omega⟩;rw[b,h1 n (n+4),<-a1];rfl;by_cases p:j=k;subst p;exact(g.all _ (tN _)).2.2.1;have q:c.cW.getD j 0∈c.cW:=cN _ (by omega);have:=u j (by omega);rw[g.keep _ (e.o4 _ q).1 (by rw[this];rfl)];exact this;refine .inr ⟨.ret ((out,()),cb c,(todo,()),()) ((k:Int),()),(λy h=>by cases h),bI λn=>?_,.inr ⟨_,k,rfl,h1⟩⟩;rw[b,g n (n+4)];rfl
end
section
variable {n:Nat}{c:aB}{out:List ax}{todo:List Int}
theorem PJ.zero:PJ c (λ_=>False) (List.replicate c.dA.length aT) []:=by
 have a:∀q:Int,eK (List.replicate c.dA.length aT) q=aT:=λq=>by unfold eK;rw[oc,List.getElem?_replicate];split<;>rfl
 refine⟨⟨by simp,λq _ _ r=>?_,λq _ _ r=>?_,λq _ _ _=>a q⟩,λq b=>(by cases b),?_,λq _ _ r=>?_⟩;rw[a]at r;cases r;rw[a]at r;cases r
 grind[MI,List.replicate,aT,List.length_replicate,List.length_nil]
 rw[a]at r;cases r
theorem e99(g:zn c)(a:Ev (λn=>F147 n (c,())) ((0,()),())):(∃D,Ok c D/\Ev (λn=>F99 n (c,())) ((D,0,()),()))\/(NoD c/\Ev (λn=>F99 n (c,())) (([],7,()),())):=by
 have p:=g.len;have h:n7 (O8 (aq c.1)) (iW (aq c.1) (aq c.1))=W:=by
  have:O8 (aq c.1)=W:=by
   unfold O8 aq
   grind
  rw[this];simp[n7,iW]
 obtain⟨o,i,q⟩:=ahC g (x:=(0,(List.replicate c.dA.length aT,()),cb c,([],()),())) ⟨⟨0,_,[],rfl,Hp _,PJ.zero,λj l=>absurd l (Nat.not_lt_zero _)⟩⟩;obtain⟨k,out,todo,rfl,l,r⟩|⟨s,k,rfl,d⟩:=q
 obtain⟨u,f,m⟩:=ahB g (x':=px c out todo W) ⟨⟨out,todo,rfl,l,r⟩⟩;obtain⟨b,e,rfl,t⟩|⟨b,e,rfl,d⟩:=m
 refine .inl ⟨b,t,?_⟩;unfold F99 G99;refine Ev.ai a ?_;show Ev (λn=>TL.aU (n7 (O8 (aq c.1)) (iW (aq c.1) (aq c.1))) _) _;rw[h];show Ev (λn=>ai _ _) _;refine Ev.bh (F:=λn=>LU c n n) i _ _ ?_;show Ev (λn=>ai _ _) _;refine Ev.bh (F:=λn=>TF n n) f _ _ ?_;exact cE;refine .inr ⟨d,?_⟩;unfold F99 G99;refine Ev.ai a ?_;show Ev (λn=>TL.aU (n7 (O8 (aq c.1)) (iW (aq c.1) (aq c.1))) _) _;rw[h];show Ev (λn=>ai _ _) _;refine Ev.bh (F:=λn=>LU c n n) i _ _ ?_;show Ev (λn=>ai _ _) _;refine Ev.bh (F:=λn=>TF n n) f _ _ ?_;exact cE;refine .inr ⟨d,?_⟩;unfold F99 G99;refine Ev.ai a ?_;show Ev (λn=>TL.aU (n7 (O8 (aq c.1)) (iW (aq c.1) (aq c.1))) _) _;rw[h];show Ev (λn=>ai _ _) _;refine Ev.bh (F:=λn=>LU c n n) i _ _ ?_;refine bI λn=>?_;rfl
end
theorem EM:∀q:aM,1<=pw q
 |⟨_,_,_,_⟩=>by unfold pw;omega
theorem Dw:∀qs:L aM,qs.length<=vz qs
 |[]=>Hp _|q::qs=>by unfold vz;have:=Dw qs;grind[EM,List.length_cons]
def fL(left:Int)(k:Nat):Int:=if left<0 then -1 else if(k:Int)<=left then left-k else -1
theorem sP{left:Int}{k:Nat}(h:left<0):fL left k=-1:=bO h
theorem nN{left:Int}{k:Nat}(h:(k:Int)<=left):fL left k=left-k:=by unfold fL;rw[cm (by omega),bO h]
theorem qq{left:Int}{k:Nat}(h:left<(k:Int)):fL left k=-1:=by
 simp_all[fL,bO,cm]
theorem MH{left:Int}{a:Nat}(b:1<=a)(h:0<=left):fL left a<=left-1/\-1<=fL left a:=by
 grind[nN,qq]
theorem w5{left:Int}{a b:Nat}:fL (fL left a) b=fL left (a+b):=by
 grind[nN,qq,sP]
theorem Fg{left:Int}(h:-1<=left):fL left 0=left:=by
 grind[sP,nN]
theorem YV(n k:Nat):R94 n (k+1)=B94 n (R94 n k):=rfl
def Qv(q:aM):Prop:=∀left:Int,-1<=left->left<=1000->Lr R94 (q,left,()) ((fL left (pw q),()),())
def DZ{P:Type}(d:Nat):∀(qs pre:L aM)(left:Int),-1<=left->(pre.length:Int)+left<=1000->(∀q∈qs,Qv q)->
  ∀F:Nat->Int×Int×U->O (LO (Int×Int×U) (Int×U) U P),
  (∀n b,F n b=aj (aD b.2.1 (aq (pre++qs))) (aj (br 0 b.1) (aU (aL b.2.1 (pre++qs)) (ai (R94 n (n-d) (@aX aM (pre++qs) (au b.2.1) aS,b.1,())) λe=>Z (N (e.1.1,aC .i64 b.2.1 1,())))) (Z (H 0 b))) (Z (H 0 b)))->
  ∃j,ic F (left,(pre.length:Int),()) (.out 0 (fL left (vz qs),j,()))
 |[],pre,left,h1,h2,f,F,c=>by refine⟨(pre.length:Int),.out (bI λn=>?_)⟩;rw[c];have e:fL left (vz [])=left:=Fg h1;rw[e];simp(disch:=omega)only[bL,tK]<;>rfl
 |q::qs,pre,left,h1,h2,f,F,c=>by
  by_cases l:left<0;refine⟨(pre.length:Int),.out (bI λn=>?_)⟩;rw[c];have e:fL left (vz (q::qs))=left:=by rw[sP l];omega
  rw[e];simp(disch:=omega)only[bL]<;>rfl
  .have m:(pre++q::qs).getD pre.length aS=q:=vT ..;have o:=EM q;have p:=f q fQ left h1 (by omega);have g:=MH (left:=left) o (by omega);obtain⟨j,k⟩:=DZ d qs (pre++[q]) (fL left (pw q)) g.2 (by simp;omega) (λr h=>f r (hJ _ h)) F (λn e=>by rw[c];simp only[vw,OU]<;>rfl);have e:fL (fL left (pw q)) (vz qs)=fL left (vz (q::qs)):=w5;rw[e]at k;refine⟨j,.next (y:=((fL left (pw q)),((pre++[q]).length:Int),())) ?_ k⟩;obtain⟨a,s⟩:=p d;refine⟨a,λn i=>?_⟩;show F n _=_;rw[c];simp(disch:=first|omega|simp only[lnsq];omega)only[bL,m,bX,ff,fe,A4];exact(lq (λx=>ai x _) (s n i)).trans rfl
theorem VI:∀q:aM,Qv q
 |⟨a,n0,text,parts⟩=>by
  intro left h1 h2;refine Lr.step YV λd=>?_;by_cases h3:left<1;rw[qq (by grind[EM])];refine bI λn=>?_;unfold B94;simp(disch:=omega)only[bL]<;>rfl
  .obtain ⟨j,f⟩:=DZ (P:=Any) d parts [] (left-1) (by omega) (by simp;omega) (Rd parts) _ (λn e=>rfl);have e:fL (left-1) (vz parts)=fL left (pw ⟨a,n0,text,parts⟩):=by rw[show left-1=fL left 1 from(nN (k:=1) (Int.not_lt.1 h3)).symm,w5];rfl
   rw[<-e];have hB:∀n,B94 n (R94 n (n-d)) (⟨a,n0,text,parts⟩,left,())=ai (iter (λb=>aj (aD b.2.1 (aq parts)) (aj (br 0 b.1) (aU (aL b.2.1 parts) (ai (R94 n (n-d) (@aX aM parts (au b.2.1) aS,b.1,())) λe=>Z (N (e.1.1,aC .i64 b.2.1 1,())))) (Z (H 0 b))) (Z (H 0 b))) n (left-1,0,())) λe=>bq (B:=U) (P:=Any) e (λ_ g=>Z ((g.1,()),())) (λ_ g=>Z (g,())) λ_ _=>Y:=by intro n;unfold B94;simp(disch:=omega)only[bL,ec]<;>rfl
   exact Ev.oI hB (Ev.bh f (λn e=>_) _ cE)
where
 Rd:∀c:L aM,∀q∈c,Qv q
 |[],_,h=>by cases h
 |q::c,i,h=>by
  obtain h|h:=fF.1 h
  rw[h];exact VI q;exact Rd c i h
def e94(q:aM){left:Int}(h1:1<=left)(h2:left<=1000):Ev (λn=>F94 n (q,left,())) ((fL left (pw q),()),()):=by exact VI q left (by omega) h2 0
mutual
def sp:aM->aa
 |⟨_,_,text,parts⟩=>sps parts&&decide (text.length<=30)
def sps:L aM->aa
 |[]=>W|q::a=>sp q&&sps a
end
theorem Jw:∀{qs:L aM},sps qs=W↔∀q∈qs,sp q=W
 |[]=>by simp[sps]
 |q::qs=>by simp[sps,Jw (qs:=qs)]
theorem YU(n k:Nat):R95 n (k+1)=B95 n (R95 n k):=rfl
theorem short:∀q:aM,pw q<=1000->Lr R95 (q,()) ((sp q,()),())
 |⟨c,n0,text,parts⟩,k=>by
  unfold pw at k;have u:=Dw parts;have l:=VX parts (by omega);refine Lr.step YU λd=>?_;unfold B95;have m:∀(i:Nat)(y:Int×U),(X () (J,()):LO (Int×U) (aa×U) U Any)≠.next y:=λ_ _ h=>by cases h
  have step:∀i,i<parts.length->Ev (λn=>aj (aD (i:Int) (aq parts)) (aU (aL (i:Int) parts) (ai (R95 n (n-d) (@aX aM parts (au (i:Int)) aS,())) λe=>aj (ak e.1.1) (Z (X () (J,()))) (Z (N (aC .i64 (i:Int) 1,()))))) (Z (H 0 ((i:Int),())))) (bif sp (parts.getD i aS)then .next (((i+1:Nat):Int),())else(X () (J,()):LO (Int×U) (aa×U) U Any)):=by intro i f;obtain⟨b,o⟩:=l _ (cN aS f) d;refine⟨b,λn p=>?_⟩;show TL.aj _ _ _=_;simp(disch:=omega)only[bL,bX,ff,fe,A4];refine(lq (λx=>ai x _) (o n p)).trans ?_;cases v:sp (parts.getD i aS)<;>rfl
  rcases lV (F:=λn g=>aj (aD g.1 (aq parts)) (aU (aL g.1 parts) (ai (R95 n (n-d) (@aX aM parts (au g.1) aS,())) λe=>aj (ak e.1.1) (Z (X () (J,()))) (Z (N (aC .i64 g.1 1,()))))) (Z (H 0 g)))
   parts.length (λi=>((i:Int),())) (λi=>sp (parts.getD i aS)) (λ_=>(X () (J,()):LO (Int×U) (aa×U) U Any)) 0 m (λi f _=>step i f) (λ_=>bI λn=>by simp(disch:=omega)only[bL]<;>rfl)with⟨a,r⟩|⟨i,f,a,_,r⟩
  have e:sp ⟨c,n0,text,parts⟩=decide (text.length<=30):=by unfold sp;rw[Jw.2 λq k=>?_,p7];obtain⟨i,f,rfl⟩:=p8 k;have:=a i f;rwa [oc,iu f]at this
  rw[e];refine Ev.bh r (λn e=>_) _ (bI λn=>?_);show Z ((br (aq text) 30,()),())=_;simp only[br,aq]
  grind
  have e:sp ⟨c,n0,text,parts⟩=J:=by
   grind[sp,sps,Jw,cN,aS]
  rw[e];exact Ev.bh r (λn e=>_) _ cE
where
 VX:∀j:L aM,vz j<=1000->∀q∈j,Lr R95 (q,()) ((sp q,()),())
 |[],_,_,h=>by cases h
 |q::j,s,t,h=>by
  unfold vz at s;obtain h|h:=fF.1 h
  rw[h];exact short q (by omega);exact VX j (by omega) t h
def Em(q:aM):aa:=decide (pw q<=16)&&sp q
def Np(q:aM):aM.mk q.1 q.2 q.3 q.4=q:=by cases q;rfl
def e41(q:aM):Ev (λn=>F41 n (q,())) ((Em q,()),()):=by
 unfold F41;simp only[Np];refine Ev.ai (e94 q (by omega) (by omega)) ?_;unfold Em;by_cases h:pw q<=16;have a:((pw q:Nat):Int)<=16:=by omega
 rw[nN a,jc h,p7];simp(disch:=omega)only[bL];exact Ev.ai (short q (by omega) 0) (Ev.pure _);have a:¬((pw q:Nat):Int)<=16:=by omega
 simp_all[qq,gX,oN,bI,bL]
theorem gU{R B P:Type}(len:Nat)(q:Nat->aa)(bad:Nat->LO (Int×U) R B P){F:Nat->Int×U->O (LO (Int×U) R B P)}(c:∀i y,bad i≠.next y)
  (h:∀i,i<len->Ev (λn=>F n ((i:Int),())) (bif q i then .next (((i+1:Nat):Int),())else bad i)) (d:∀n,F n ((len:Int),())=Z (.out 0 ((len:Int),()))) :
  ((∀i,i<len->q i=W)/\ic F (0,()) (.out 0 ((len:Int),())))\/∃i,i<len/\q i=J/\ic F (0,()) (bad i):=by
 obtain⟨a,r⟩|⟨i,b,a,_,r⟩:=lV len (λi=>((i:Int),())) q bad 0 c (λi b _=>h i b) (λ_=>bI d)
 simp_all
 grind
structure Small(c:aB):Prop where
 ins:c.dA.length<=1600
 pl:c.ez.length<=120
 o4:c.cW.length<=320
 cl:c.Cons.length<=30
 names:∀k∈c.Cons,k.Name.length<=30
 pats:∀q∈c.ez,pw q<=16
def eR{α:Type}{l:L α}{d:α}{Q:α->Prop}(h:∀i,i<l.length->Q (l.getD i d)):∀a∈l,Q a:=by intro a c;obtain⟨i,b,rfl⟩:=p8 c;have:=h i b;rwa [oc,iu b]at this
def AG{α:Type}{l:L α}{d:α}{q:α->aa}(h:∀i,i<l.length->q (l.getD i d)=W):l.all q=W:=j5.2 (eR (d:=d) h)
theorem oT{α:Type}{l:L α}{d:α}{q:α->aa}{i:Nat}(hi:i<l.length)(h:q (l.getD i d)=J):l.all q=J:=by
 grind
def e11(c:aB):∃b,Ev (λn=>F11 n (c,())) ((b,()),())/\(b=W->Small c):=by
 unfold F11;by_cases h1:1600<c.dA.length;exact⟨J,bI λn=>by simp(disch:=omega)only[bL]<;>rfl,λh=>by cases h⟩;by_cases h2:120<c.ez.length;exact⟨J,bI λn=>by simp(disch:=omega)only[bL]<;>rfl,λh=>by cases h⟩;by_cases h3:320<c.cW.length;exact⟨J,bI λn=>by simp(disch:=omega)only[bL]<;>rfl,λh=>by cases h⟩;by_cases h4:30<c.Cons.length;exact⟨J,bI λn=>by simp(disch:=omega)only[bL]<;>rfl,λh=>by cases h⟩;simp(disch:=omega)only[bL];have j:∀{P:Type}(i:Nat)(y:Int×U),(X () (J,()):LO (Int×U) (aa×U) U P)≠.next y:=λ_ _ h=>by cases h
 rcases gU c.ez.length (λi=>Em (c.ez.getD i aS)) (λ_=>(X () (J,()):LO (Int×U) (aa×U) U Any)) (F:=λn g=>aj (aD g.1 (c.ez.length:Int)) (aU (aL g.1 c.ez) (ai (F41 n (c.ez.getD g.1.toNat aS,())) λd=>aj d.1.1 (Z (N (aC .i64 g.1 1,()))) (Z (X () (J,()))))) (Z (H 0 g))) j
  (λi e=>by
   simp(disch:=omega)only[bL];refine Ev.ai (e41 _) (bI λn=>?_);cases Em (c.ez.getD i aS)<;>simp(disch:=omega)only[bL,bX,ff,fe]) (λn=>by simp(disch:=omega)only[bL])with⟨a,r⟩|⟨i,e,a,r⟩
 .rcases gU c.Cons.length (λi=>decide ((c.Cons.getD i bn).Name.length<=30)) (λ_=>(X () (J,()):LO (Int×U) (aa×U) U Any)) (F:=λn g=>aj (aD g.1 (c.Cons.length:Int)) (aU (aL g.1 c.Cons) (aj (aD 30 ((c.Cons.getD g.1.toNat bn).Name.length:Int)) (Z (X () (J,()))) (Z (N (aC .i64 g.1 1,()))))) (Z (H 0 g))) j
   (λi e=>bI λn=>by
    by_cases k:(c.Cons.getD i bn).Name.length<=30;simp(disch:=omega)only[bL,jc k,bX,ff,fe];simp(disch:=omega)only[bL,gX k]) (λn=>by simp(disch:=omega)only[bL])with⟨l,f⟩|⟨i,e,l,f⟩
  refine⟨W,?_,λ_=>⟨by omega,by omega,by omega,by omega,eR (d:=bn) λi e=>Ml (l i e),eR (d:=aS) λi e=>?_⟩⟩;refine Ev.bh r _ _ ?_;refine Ev.bh f _ _ ?_;exact cE
  simp_all[Em,eM,sC]
  refine⟨J,?_,λh=>by cases h⟩;refine Ev.bh r _ _ ?_;refine Ev.bh f _ _ ?_;exact cE
 refine⟨J,?_,λh=>by cases h⟩;refine Ev.bh r _ _ ?_;exact cE
theorem Vm(n k:Nat):R228 n (k+1)=B228 n (R228 n k):=rfl
def af9(q:aM):Prop:=∀left:Int,0<=left->left<=1000->Lr R228 (q,left,()) ((fL left (pw q),()),())
def Nf{P:Type}(d:Nat):∀(qs pre:L aM)(left:Int),-1<=left->(pre.length:Int)+left<=1000->(∀q∈qs,af9 q)->
  ∀F:Nat->Int×Int×U->O (LO (Int×Int×U) (Int×U) U P),
  (∀n b,F n b=aj (aD b.2.1 (aq (pre++qs))) (aU (aL b.2.1 (pre++qs)) (aj (aD b.1 0) (Z (H 0 b)) (ai (R228 n (n-d) (@aX aM (pre++qs) (au b.2.1) aS,b.1,())) λe=>Z (N (e.1.1,aC .i64 b.2.1 1,()))))) (Z (H 0 b)))->
  ∃j,ic F (left,(pre.length:Int),()) (.out 0 (fL left (vz qs),j,()))
 |[],pre,left,h1,h2,f,F,c=>by refine⟨(pre.length:Int),.out (bI λn=>?_)⟩;rw[c];have e:fL left (vz [])=left:=Fg h1;rw[e];simp(disch:=omega)only[bL,tK]<;>rfl
 |q::qs,pre,left,h1,h2,f,F,c=>by
  by_cases m:left<0;refine⟨(pre.length:Int),.out (bI λn=>?_)⟩;rw[c];have e:fL left (vz (q::qs))=left:=by rw[sP m];omega
  rw[e];simp(disch:=first|omega|simp only[lnsq];omega)only[bL]<;>rfl
  .have o:(pre++q::qs).getD pre.length aS=q:=vT ..;have p:=EM q;have r:=f q fQ left (by omega) (by omega);have i:=MH (left:=left) p (by omega);obtain⟨j,l⟩:=Nf d qs (pre++[q]) (fL left (pw q)) i.2 (by simp;omega) (λs h=>f s (hJ _ h)) F (λn e=>by rw[c];simp only[vw,OU]<;>rfl);have e:fL (fL left (pw q)) (vz qs)=fL left (vz (q::qs)):=w5;rw[e]at l;refine⟨j,.next (y:=((fL left (pw q)),((pre++[q]).length:Int),())) ?_ l⟩;obtain⟨a,t⟩:=r d;refine⟨a,λn k=>?_⟩;show F n _=_;rw[c];simp(disch:=first|omega|simp only[lnsq];omega)only[bL,o,bX,ff,fe,A4];exact(lq (λx=>ai x _) (t n k)).trans rfl
theorem ajJ:∀q:aM,af9 q
 |⟨a,n0,text,parts⟩=>by
  intro left h1 h2;refine Lr.step Vm λd=>?_;obtain⟨j,f⟩:=Nf (P:=Any) d parts [] (left-1) (by omega) (by simp;omega) (adg parts) _ (λn e=>rfl);have e:fL (left-1) (vz parts)=fL left (pw ⟨a,n0,text,parts⟩):=by by_cases h3:left<1;rw[sP (by omega),qq (by grind[EM])];rw[show left-1=fL left 1 from(nN (k:=1) (Int.not_lt.1 h3)).symm,w5];rfl
  rw[<-e];have hB:∀n,B228 n (R228 n (n-d)) (⟨a,n0,text,parts⟩,left,())=ai (iter (λb=>aj (aD b.2.1 (aq parts)) (aU (aL b.2.1 parts) (aj (aD b.1 0) (Z (H 0 b)) (ai (R228 n (n-d) (@aX aM parts (au b.2.1) aS,b.1,())) λe=>Z (N (e.1.1,aC .i64 b.2.1 1,()))))) (Z (H 0 b))) n (left-1,0,())) λe=>bq (B:=U) (P:=Any) e (λ_ g=>Z ((g.1,()),())) (λ_ g=>Z (g,())) λ_ _=>Y:=by intro n;unfold B228 GR;simp(disch:=omega)only[bL,ec,Np]<;>rfl
  exact Ev.oI hB (Ev.bh f (λn e=>_) _ cE)
where
 adg:∀c:L aM,∀q∈c,af9 q
 |[],_,h=>by cases h
 |q::c,i,h=>by
  obtain h|h:=fF.1 h
  rw[h];exact ajJ q;exact adg c i h
def apQ(q:aM){left:Int}(h1:0<=left)(h2:left<=1000):Ev (λn=>F228 n (q,left,())) ((fL left (pw q),()),()):=ajJ q left h1 h2 0
section
def aaH(cons:L ck)(a n:Int)(k:Nat):aa:=
 if a=1\/a=2\/a=5 then decide (n=0)&&decide (k=0)
 else if a=3 then rS n&&decide (k=0)
 else if a=4 then decide (0<=n/\n<=1)&&decide (k=0)
 else if a=6 then decide (0<=n/\n<cons.length)&&decide ((k:Int)=(cons.getD n.toNat bn).mL)
 else J
mutual
def oP(cons:L ck):aM->aa
 |⟨a,n,text,parts⟩=>(decide (text=[])&&oF cons parts)&&aaH cons a n parts.length
def oF(cons:L ck):L aM->aa
 |[]=>W|q::a=>oP cons q&&oF cons a
end
theorem A8{cons:L ck}:∀{qs:L aM},oF cons qs=W↔∀q∈qs,oP cons q=W
 |[]=>by simp[oF]
 |q::qs=>by simp[oF,A8 (qs:=qs)]
def rng(n:Nat)(a lo hi:Int):(aj (br lo a) (Z ((br a hi,()),())) (Z ((J,()),())))=(Z ((decide (lo<=a/\a<=hi),()),()):O ((aa×U)×U)):=by
 by_cases h1:lo<=a
 simp_all[bL,br]
 simp(disch:=omega)only[bL];simp[h1]
variable {n:Nat}{cons:List ck}
def qB(a lo hi:Int):F223 n (a,lo,hi,())=Z ((decide (lo<=a/\a<=hi),()),()):=rng n a lo hi
def UU(a lo hi:Int):F241 n (a,lo,hi,())=Z ((decide (lo<=a/\a<=hi),()),()):=rng n a lo hi
def v5(a lo hi:Int):F104 n (a,lo,hi,())=Z ((decide (lo<=a/\a<=hi),()),()):=rng n a lo hi
theorem jL(l:L UInt8):ga l []=decide (l=[]):=by cases l<;>rfl
theorem Vo(n k:Nat):R159 n (k+1)=B159 n (R159 n k):=rfl
def Qx(cons:L ck)(q:aM):Prop:=Lr R159 (q,cons,()) ((oP cons q,()),())
def Ru{R B P:Type}{cons:L ck}(d:Nat):∀(qs pre:L aM)(b:aa),pre.length+qs.length<=1000->(∀q∈qs,Qx cons q)->
  ∀(F:Nat->aa×Int×U->O (LO (aa×Int×U) R B P)),
  (∀n i,F n i=aj (aD i.2.1 (aq (pre++qs))) (aj i.1 (aU (aL i.2.1 (pre++qs)) (ai (R159 n (n-d) (@aX aM (pre++qs) (au i.2.1) aS,cons,())) λj=>Z (N (j.1.1,aC .i64 i.2.1 1,())))) (Z (H 0 i))) (Z (H 0 i)))->
  ∃j,ic F (b,(pre.length:Int),()) (.out 0 (b&&oF cons qs,j,()))
 |[],pre,b,h3,f,F,c=>by refine⟨(pre.length:Int),.out (bI λn=>?_)⟩;rw[c];simp(disch:=omega)only[bL,tK,oF,EK]<;>rfl
 |q::qs,pre,b,h3,f,F,c=>by simp only[qP]at h3;cases b with|false=>refine⟨(pre.length:Int),.out (bI λn=>?_)⟩;rw[c];simp(disch:=omega)only[bL,oN]<;>rfl|true=>have k:(pre++q::qs).getD pre.length aS=q:=vT ..;obtain⟨j,p⟩:=Ru d qs (pre++[q]) (oP cons q) (by simp;omega) (λl h=>f l (hJ _ h)) F (λn e=>by rw[c];simp only[vw,OU]<;>rfl);refine⟨j,.next (y:=(oP cons q,((pre++[q]).length:Int),())) ?_ (by simp_all[oF,p7])⟩;obtain⟨a,m⟩:=f q fQ d;refine⟨a,λn g=>?_⟩;show F n _=_;rw[c];simp(disch:=first|omega|simp only[lnsq];omega)only[bL,k,bX,ff,fe,A4];exact(lq (λx=>ai x _) (m n g)).trans rfl
def WQ(s:cons.length<=1000):∀q:aM,pw q<=1000->Qx cons q
 |⟨a,n0,text,parts⟩,t=>by
  unfold pw at t;have x:=Dw parts;have u:=WN parts (by omega);refine Lr.step Vo λd=>?_;have run:∀b:aa,Ev (λn=>ai (iter (GV n (R159 n (n-d)) (⟨a,n0,text,parts⟩,cons,())) n (b,0,())) (GU n (R159 n (n-d)))) ((b&&oF cons parts,()),()):=by intro b;obtain⟨j,k⟩:=Ru (cons:=cons) d parts [] b (by simp;omega) u _ (λn e=>rfl);exact Ev.bh (F:=λn c=>_) k (λn e=>_) _ cE
  have f:∀b:aa,Ev (λn=>aj b (ai (iter (GV n (R159 n (n-d)) (⟨a,n0,text,parts⟩,cons,())) n (decide (text=[]),0,())) (GU n (R159 n (n-d)))) (ai (iter (GV n (R159 n (n-d)) (⟨a,n0,text,parts⟩,cons,())) n (J,0,())) (GU n (R159 n (n-d))))) (((decide (text=[])&&oF cons parts)&&b,()),()):=by intro b;cases b with|true=>rw[EK];exact run _|false=>rw[JK];exact run J
  unfold oP aaH;have i:(af n0 0)=decide (n0=0):=by by_cases h:n0=0<;>simp[af,h]
  unfold B159;by_cases l:a=1\/a=2\/a=5;rw[bO l];by_cases g:parts.length=0;rw[jc g,EK];obtain c|c|c:=l<;>subst c<;>simp(disch:=omega)only[bL,cz,i,jL]<;>exact f _
  rw[gX g,JK];obtain c|c|c:=l<;>subst c<;>simp(disch:=omega)only[bL,cz,i,jL]<;>exact f J
  rw[cm l];by_cases o:a=3;rw[bO o];subst o;by_cases g:parts.length=0;rw[jc g,EK];simp(disch:=omega)only[bL,cz,UU,jL];have:=f (rS n0);simp only[rS,Bool.decide_and]at this ⊢;exact this;rw[gX g,JK];simp(disch:=omega)only[bL,cz,jL];exact f J;rw[cm o];by_cases p:a=4;rw[bO p];subst p;by_cases g:parts.length=0;rw[jc g,EK];simp(disch:=omega)only[bL,cz,UU,jL];exact f _;rw[gX g,JK];simp(disch:=omega)only[bL,cz,jL];exact f J;rw[cm p];by_cases r:a=6;rw[bO r];subst r;by_cases k:0<=n0/\n0<cons.length;rw[jc k,p7];simp(disch:=omega)only[bL,cz,UU,ec,jc (show 0<=n0/\n0<=(cons.length:Int)-1 by omega),jL];rw[show af (parts.length:Int) (cons.getD n0.toNat bn).mL=decide ((parts.length:Int)=(cons.getD n0.toNat bn).mL)by rfl];exact f _;rw[gX k,oN];simp(disch:=omega)only[bL,cz,UU,ec,gX (show ¬(0<=n0/\n0<=(cons.length:Int)-1)by omega),jL];exact f J;rw[cm r];simp(disch:=omega)only[bL,cz,jL];exact f J
where
 WN:∀m:L aM,vz m<=1000->∀q∈m,Qx cons q
 |[],_,_,h=>by cases h
 |q::m,v,w,h=>by
  unfold vz at v;obtain h|h:=fF.1 h
  rw[h];exact WQ s q (by omega);exact WN m (by omega) w h
def ap6(a:cons.length<=1000)(q:aM)(b:pw q<=1000):Ev (λn=>F106 n (q,cons,())) ((oP cons q,()),()):=by unfold F106;simp only[Np];exact Ev.ai (WQ a q b 0) (Ev.pure _)
end
theorem Vl(n k:Nat):R229 n (k+1)=B229 n (R229 n k):=rfl
theorem WO{cons:L ck}(z:cons.length<=1000):∀q:aM,pw q<=1000->Lr R229 (q,cons,()) ((oP cons q,()),())
 |⟨g,n0,text,parts⟩,K=>by
  unfold pw at K;have hl:=Dw parts;have P:=WN parts (by omega);refine Lr.step Vl λd=>?_;have Q:∀(i:Nat)(y:Int×U),(X () ((i:Int),()):LO (Int×U) (Int×U) U Any)≠.next y:=λ_ _ h=>by cases h
  have m:Ev (λn=>Q5 n (R229 n (n-d)) (⟨g,n0,text,parts⟩,cons,())) ((oF cons parts,()),()):=by
   have step:∀i,i<parts.length->Ev (λn=>aj (aD (i:Int) (aq parts)) (aU (aL (i:Int) parts) (ai (R229 n (n-d) (aM.mk (@aX aM parts (au (i:Int)) aS).1 (@aX aM parts (au (i:Int)) aS).2 (@aX aM parts (au (i:Int)) aS).3 (@aX aM parts (au (i:Int)) aS).4,cons,())) λe=>aj (ak e.1.1) (Z (X () ((i:Int),()))) (Z (N (aC .i64 (i:Int) 1,()))))) (Z (H 0 ((i:Int),())))) (bif oP cons (parts.getD i aS)then .next (((i+1:Nat):Int),())else(X () ((i:Int),()):LO (Int×U) (Int×U) U Any)):=by intro i s;obtain⟨f,R⟩:=P _ (cN aS s) d;refine⟨f,λn S=>?_⟩;show TL.aj _ _ _=_;simp(disch:=omega)only[bL,Np,bX,ff,fe,A4];refine(lq (λx=>ai x _) (R n S)).trans ?_;cases z:oP cons (parts.getD i aS)<;>rfl
   rcases gU (F:=λn l=>aj (aD l.1 (aq parts)) (aU (aL l.1 parts) (ai (R229 n (n-d) (aM.mk (@aX aM parts (au l.1) aS).1 (@aX aM parts (au l.1) aS).2 (@aX aM parts (au l.1) aS).3 (@aX aM parts (au l.1) aS).4,cons,())) λe=>aj (ak e.1.1) (Z (X () l)) (Z (N (aC .i64 l.1 1,()))))) (Z (H 0 l)))
    parts.length (λi=>oP cons (parts.getD i aS)) (λi=>(X () ((i:Int),()):LO (Int×U) (Int×U) U Any)) Q step (λn=>by simp(disch:=omega)only[bL]<;>rfl)with⟨a,r⟩|⟨i,s,a,r⟩
   rw[A8.2 (eR (d:=aS) a)];refine Ev.bh r _ _ (bI λn=>?_);rfl;have e:oF cons parts=J:=by
    grind[oF,A8,cN,aS]
   rw[e];refine Ev.bh r _ _ (bI λn=>?_);rfl
  have A:∀{k:aa}{F:Nat->O ((aa×U)×U)},Ev F ((k,()),())->∀t:aa,Ev (λn=>aj t (F n) (Z ((J,()),()))) ((t&&k,()),()):=by intro k F h t;cases t with|true=>exact h|false=>exact Ev.pure _
  have j:Ev (λn=>GQ n (R229 n (n-d)) (⟨g,n0,text,parts⟩,cons,())) ((decide (text=[])&&(decide (parts.length=0)&&oF cons parts),()),()):=by
   unfold GQ sr;have k0:(af (aq parts) 0)=decide (parts.length=0):=by by_cases h:parts.length=0<;>simp[af,h,aq]
   grind[jL]
  unfold oP aaH;have u:∀t k p b:aa,(t&&(k&&p))=((t&&p)&&(W&&k)):=λt k p b=>by cases t<;>cases k<;>cases p<;>rfl
  unfold B229;by_cases v:g=1\/g=2\/g=5;rw[bO v];by_cases o:n0=0;rw[jc o,<-u _ _ _ W];obtain c|c|c:=v<;>subst c<;>simp(disch:=omega)only[bL,cz,o]<;>(subst o;exact j)
  rw[gX o,oN,JK];obtain c|c|c:=v<;>subst c<;>simp(disch:=omega)only[bL,cz,o]<;>exact Ev.pure _
  rw[cm v];by_cases B:g=3
  .rw[bO B];have s:(decide (-1000000000<=n0/\n0<=1000000000))=rS n0:=by simp only[rS,Bool.decide_and]
   simp(disch:=omega)only[bL,cz,qB,s];cases rS n0 with|true=>rw[<-u _ _ _ W];exact j|false=>rw[oN,JK];exact Ev.pure _
  rw[cm B];by_cases C:g=4
  .rw[bO C];simp(disch:=omega)only[bL,cz,qB];cases decide (0<=n0/\n0<=1)with|true=>rw[<-u _ _ _ W];exact j|false=>rw[oN,JK];exact Ev.pure _
  rw[cm C];by_cases E:g=6;rw[bO E];by_cases I:0<=n0/\n0<cons.length;rw[jc I,<-u _ _ _ W];simp(disch:=omega)only[bL,cz,qB,ec,jc (show 0<=n0/\n0<=(cons.length:Int)-1 by omega),jL];exact A (A m _) _;rw[gX I,oN,JK];simp(disch:=omega)only[bL,cz,qB,ec,gX (show ¬(0<=n0/\n0<=(cons.length:Int)-1)by omega)];exact Ev.pure _;rw[cm E,JK];simp(disch:=omega)only[bL,cz];exact Ev.pure _
where
 WN:∀w:L aM,vz w<=1000->∀q∈w,Lr R229 (q,cons,()) ((oP cons q,()),())
 |[],_,_,h=>by cases h
 |q::w,hp,q',h=>by
  unfold vz at hp;obtain h|h:=fF.1 h
  rw[h];exact WO z q (by omega);exact WN w (by omega) q' h
section
variable {n:Nat}{c:aB}{i:bW}
def Li(x:Int×Int)(a:Int):aa:=decide (x.1<=a/\a<=x.2)
def fA(c:aB)(op:Int):Int×Int:=
 if op=1 then(-1000000000,1000000000)else if op=2 then(0,1)else if op=4 then(0,29)else if op=5 then(0,(c.cW.length:Int)-1)
 else if op=6\/op=11\/op=12\/op=31\/op=32 then(0,(c.dA.length:Int)-1)else if op=10 then(1,30)else if op=18 then(0,(c.Cons.length:Int)-1)
 else if op=19 then(0,(c.ez.length:Int)-1)else if op=29 then(0,3)else(0,0)
def fB(c:aB)(op:Int):Int×Int:=if op=19 then(0,(c.dA.length:Int)-1)else(0,0)
def vN(c:aB)(i:bW):aa:=decide (1<=i.Op/\i.Op<=34)&&(Li (fA c i.Op) i.A&&Li (fB c i.Op) i.B)
theorem ap5(hs:Small c):F107 n (c,i,())=Z ((vN c i,()),()):=by
 have h1:=hs.ins;have h2:=hs.o4;have h3:=hs.cl;have h4:=hs.pl;obtain⟨op,A,B⟩:=i;have t:∀x y:Int,decide (x=y)=Li (y,y) x:=λx y=>by unfold Li;by_cases h:x=y<;>simp[h]<;>omega
 have d0:∀x:Int,af x 0=Li (0,0) x:=λx=>by simp_all[af,Bool.beq_eq_decide_eq]
 by_cases Fo:op=19;subst Fo;have r:vN c ⟨19,A,B⟩=(decide (0<=A/\A<=(c.ez.length:Int)-1)&&decide (0<=B/\B<=(c.dA.length:Int)-1)):=rfl;rw[r];unfold F107 La GN;simp(disch:=omega)only[bL,cz,v5,ec];cases decide (0<=A/\A<=(c.ez.length:Int)-1)<;>simp only[bL,p7,oN];have u:fB c op=(0,0):=cm Fo;by_cases hB:B=0;subst hB;have v:∀b:aa,(b&&Li (0,0) 0)=b:=λb=>by cases b<;>rfl
 have r:vN c ⟨op,A,0⟩=(decide (1<=op/\op<=34)&&Li (fA c op) A):=by
  unfold vN
  grind
 rw[r];unfold F107 La GN;by_cases f:op=1;subst f;simp(disch:=omega)only[bL,cz,v5]<;>rfl;by_cases g:op=2;subst g;simp(disch:=omega)only[bL,cz,v5]<;>rfl;by_cases j:op=4;subst j;simp(disch:=omega)only[bL,cz,v5]<;>rfl;by_cases k:op=5;subst k;simp(disch:=omega)only[bL,cz,v5,ec]<;>rfl;by_cases a:op=6\/op=11\/op=12\/op=31\/op=32;obtain h|h|h|h|h:=a<;>subst h<;>simp(disch:=omega)only[bL,cz,v5,ec]<;>rfl
 by_cases d:op=10;subst d;simp(disch:=omega)only[bL,cz,v5]<;>rfl;by_cases Xp:op=18;subst Xp;simp(disch:=omega)only[bL,cz,v5,ec]<;>rfl;by_cases e:op=29;subst e;simp(disch:=omega)only[bL,cz,v5]<;>rfl;have q:fA c op=(0,0):=by unfold fA;rw[cm f,cm g,cm j,cm k,cm a,cm d,cm Xp,cm Fo,cm e]
 rw[q];have s:op≠6:=λh=>a (.inl h);have l:op≠11:=λh=>a (.inr (.inl h));have m:op≠12:=λh=>a (.inr (.inr (.inl h)));have o:op≠31:=λh=>a (.inr (.inr (.inr (.inl h))));have p:op≠32:=λh=>a (.inr (.inr (.inr (.inr h))));simp(disch:=omega)only[bL,cz,v5,Fo,f,g,j,k,s,l,m,o,p,d,Xp,e,d0];cases decide (1<=op/\op<=34)<;>rfl;have r:vN c ⟨op,A,B⟩=J:=by
  unfold vN
  grind
 rw[r];unfold F107;simp(disch:=omega)only[bL,Fo,hB]<;>rfl
end
section
variable {n:Nat}{c:aB}{op:Int}
def apP(hs:Small c):∃x y,∀n,F232 n (c,op,())=Z ((⟨(fA c op).1,(fA c op).2,x⟩,⟨(fB c op).1,(fB c op).2,y⟩,decide (1<=op/\op<=34),()),()):=by
 have h1:=hs.ins;have h2:=hs.o4;have h3:=hs.cl;have h4:=hs.pl;by_cases Fo:op=19;subst Fo;exact⟨W,W,λn=>by unfold F232 iS nt;simp(disch:=omega)only[bL,cz,qB,ec]<;>rfl⟩;by_cases e:op=1;subst e;exact⟨W,J,λn=>by unfold F232 iS nt;simp only[bL,cz,qB]<;>rfl⟩;by_cases f:op=2;subst f;exact⟨W,J,λn=>by unfold F232 iS nt;simp(disch:=omega)only[bL,cz,qB]<;>rfl⟩;by_cases g:op=4;subst g;exact⟨W,J,λn=>by unfold F232 iS nt;simp(disch:=omega)only[bL,cz,qB]<;>rfl⟩;by_cases i:op=5;subst i;exact⟨W,J,λn=>by unfold F232 iS nt;simp(disch:=omega)only[bL,cz,qB,ec]<;>rfl⟩;by_cases a:op=6\/op=11\/op=12\/op=31\/op=32;obtain h|h|h|h|h:=a<;>subst h<;>exact⟨W,J,λn=>by unfold F232 iS nt;simp(disch:=omega)only[bL,cz,qB,ec]<;>rfl⟩
 by_cases b:op=10;subst b;exact⟨W,J,λn=>by unfold F232 iS nt;simp(disch:=omega)only[bL,cz,qB]<;>rfl⟩;by_cases Xp:op=18;subst Xp;exact⟨W,J,λn=>by unfold F232 iS nt;simp(disch:=omega)only[bL,cz,qB,ec]<;>rfl⟩;by_cases d:op=29;subst d;exact⟨W,J,λn=>by unfold F232 iS nt;simp(disch:=omega)only[bL,cz,qB]<;>rfl⟩;have o:fA c op=(0,0):=by unfold fA;rw[cm e,cm f,cm g,cm i,cm a,cm b,cm Xp,cm Fo,cm d]
 have p:fB c op=(0,0):=cm Fo;rw[o,p];have q:op≠6:=λh=>a (.inl h);have j:op≠11:=λh=>a (.inr (.inl h));have k:op≠12:=λh=>a (.inr (.inr (.inl h)));have l:op≠31:=λh=>a (.inr (.inr (.inr (.inl h))));have m:op≠32:=λh=>a (.inr (.inr (.inr (.inr h))));exact⟨J,J,λn=>by
  unfold F232 iS nt;simp(disch:=omega)only[bL,cz,qB,Fo,e,f,g,i,q,j,k,l,m,b,Xp,d]<;>rfl⟩
def afx(hs:Small c):Ev (λn=>KX n (c,())) ((bif c.dA.all (vN c)then 0 else 2,()),()):=by
 have h1:=hs.ins;have f:∀(i:Nat)(y:Int×U),(X () ((i:Int),()):LO (Int×U) (Int×U) U Any)≠.next y:=λ_ _ h=>by cases h
 unfold KX nu;rcases gU (F:=λn(o:Int×U)=>aj (aD o.1 (aq c.1)) (aU (aL o.1 c.1) (ai (F232 n (c,(aX c.1 (au o.1) bM).1,())) λp=>aj p.1.2.2.1 (ai (F223 n ((aX c.1 (au o.1) bM).2,p.1.1.1,p.1.1.2,())) λq=>aj q.1.1 (ai (F223 n ((aX c.1 (au o.1) bM).3,p.1.2.1.1,p.1.2.1.2,())) λr=>aj (ak r.1.1) (Z (X () o)) (Z (N (aC .i64 o.1 1,())))) (Z (X () o))) (Z (X () o)))) (Z (H 0 o)))
  c.dA.length (λi=>vN c (c.dA.getD i bM)) (λi=>(X () ((i:Int),()):LO (Int×U) (Int×U) U Any)) f
  (λi e=>by
   obtain⟨x,y,b⟩:=apP (op:=(c.dA.getD i bM).Op) hs;refine bI λn=>?_;simp(disch:=omega)only[bL,b,qB,bX,ff,fe,A4];unfold vN Li;cases decide (1<=(c.dA.getD i bM).Op/\(c.dA.getD i bM).Op<=34)with
   |false=>rfl|true=>
    cases decide ((fA c (c.dA.getD i bM).Op).1<=(c.dA.getD i bM).A/\(c.dA.getD i bM).A<=(fA c (c.dA.getD i bM).Op).2)with
    |false=>rfl|true=>
     cases decide ((fB c (c.dA.getD i bM).Op).1<=(c.dA.getD i bM).B/\(c.dA.getD i bM).B<=(fB c (c.dA.getD i bM).Op).2)<;>rfl) (λn=>by simp(disch:=omega)only[bL]<;>rfl)with⟨a,r⟩|⟨i,e,a,r⟩
 rw[AG (d:=bM) a];refine Ev.bh r _ _ (bI λn=>?_);rfl;rw[oT (d:=bM) e a];refine Ev.bh r _ _ (bI λn=>?_);rfl
end
section
def Fb(b:UInt8):aa:=decide (97<=b.toNat/\b.toNat<=122)
def yS(s:L UInt8):aa:=match s with
 |[]=>J|a::l=>(decide (l.length<=7)&&decide (65<=a.toNat/\a.toNat<=90))&&l.all Fb
theorem qY(a:UInt8)(l:L UInt8):yS (a::l)=((decide (l.length<=7)&&decide (65<=a.toNat/\a.toNat<=90))&&l.all Fb):=rfl
theorem JC(l:L UInt8)(i:Nat):l5 l i=((l.getD i 0).toNat:Int):=rfl
variable {l:List UInt8}
def apK(hl:l.length<=1000):Ev (λn=>F275 n (l,())) ((l.all Fb,()),()):=by
 unfold F275;have e:∀(i:Nat)(y:Int×U),(X () (J,()):LO (Int×U) (aa×U) U Any)≠.next y:=λ_ _ h=>by cases h
 rcases gU (F:=λn c=>aj (aD c.1 (aq l)) (aU (aL c.1 l) (aj (aD (l5 l c.1) 97) (Z (X () (J,()))) (aU (aL c.1 l) (aj (aD 122 (l5 l c.1)) (Z (X () (J,()))) (Z (N (aC .i64 c.1 1,()))))))) (Z (H 0 c))) l.length (λi=>Fb (l.getD i 0)) (λ_=>(X () (J,()):LO (Int×U) (aa×U) U Any)) e (λi b=>bI λn=>by
   unfold Fb;by_cases h1:97<=(l.getD i 0).toNat;by_cases h2:(l.getD i 0).toNat<=122;simp(disch:=omega)only[bL,JC,jc (And.intro h1 h2),bX,ff,fe];simp(disch:=omega)only[bL,JC,gX (λh:97<=(l.getD i 0).toNat/\(l.getD i 0).toNat<=122=>h2 h.2)];simp(disch:=omega)only[bL,JC,gX (λh:97<=(l.getD i 0).toNat/\(l.getD i 0).toNat<=122=>h1 h.1)]) (λn=>by simp(disch:=omega)only[bL]<;>rfl)with⟨a,r⟩|⟨i,b,a,r⟩
 rw[AG (d:=(0:UInt8)) a];exact Ev.bh r (λn c=>_) _ cE;rw[oT (d:=(0:UInt8)) b a];exact Ev.bh r (λn c=>_) _ cE
theorem V3(l:L UInt8)(pos:Nat)(h:pos<l.length):(Fb l[pos]=W/\uK l pos=(l[pos].toNat:Int)/\Hf l pos=1)\/(Fb l[pos]=J/\(uK l pos<97\/122<uK l pos)):=by
 have a:pos<(cR l).size:=by simpa[cR,ByteArray.size]using h
 have b:(cR l)[pos]'a=l[pos]:=rfl;unfold Fb uK Hf;by_cases h1:l[pos].toNat<128;have c:=decode_ascii (cR l) pos a (by grind)
 grind
 grind[decode_high,cR,decide_eq_false]
def Et(F:Nat->(L UInt8×Nat)×U->O (LO ((L UInt8×Nat)×U) (aa×U) ((L UInt8×Nat)×U) Any))
  (e:∀n c,F n c=aj (OZ c.1.2 c.1.1) (aj (aD (uK c.1.1 c.1.2) 97) (KM n c) (aj (aD 122 (uK c.1.1 c.1.2)) (KM n c) (Z (N ((c.1.1,acj c.1.2 (Hf c.1.1 c.1.2)),()))))) (Z (H 0 c))) :
  ∀(k:Nat)(l:L UInt8)(pos:Nat),pos+k=l.length->((l.drop pos).all Fb=W/\∃c,ic F ((l,pos),()) (.out 0 c))\/((l.drop pos).all Fb=J/\∃c,ic F ((l,pos),()) (.ret c (J,())))
 |0,l,pos,h=>by
  refine .inl ⟨by simp_all,((l,pos),()),.out (bI λn=>?_)⟩
  simp_all[OZ,gX,bL]
 |k+1,l,pos,h=>by
  have f:pos<l.length:=by omega
  have i:l.drop pos=l[pos]::l.drop (pos+1):=Wg f;have d:OZ pos l=W:=jc f;rw[i,List.all_cons];obtain⟨a,b,c⟩|⟨a,b⟩:=V3 l pos f
  .have j:97<=l[pos].toNat/\l[pos].toNat<=122:=Ml a;rw[a,p7];have g:Ev (λn=>F n ((l,pos),())) (.next ((l,pos+1),())):=bI λn=>by rw[e];simp(disch:=omega)only[bL,d,b,c];rfl
   obtain⟨x,y,z⟩|⟨x,y,z⟩:=Et F e k l (pos+1) (by omega)
   .exact .inl ⟨x,y,.next g z⟩
   .exact .inr ⟨x,y,.next g z⟩
  rw[a,oN];refine .inr ⟨rfl,((l,acj pos (Hf l pos)),()),.ret (bI λn=>?_)⟩;rw[e];obtain b|b:=b
  simp(disch:=omega)only[bL,d]<;>rfl;by_cases m:uK l pos<97;simp(disch:=omega)only[bL,d]<;>rfl;simp(disch:=omega)only[bL,d]<;>rfl
def PE{G:Nat->L UInt8->O ((aa×U)×U)}{a:UInt8}(h:Ev (λn=>G n l) ((l.all Fb,()),()))(hl:l.length<=7) :
  Ev (λn=>aU (aL 0 (a::l)) (aj (br 65 (l5 (a::l) 0)) (aU (aL 0 (a::l)) (aj (br (l5 (a::l) 0) 90) (aU (fX 1 (aq (a::l)) (aq (a::l))) (ai (G n (dD (a::l) 1 (aq (a::l)))) λc=>Z c)) (Z ((J,()),())))) (Z ((J,()),())))) ((yS (a::l),()),()):=by
 rw[qY,jc hl,p7];have e:l5 (a::l) 0=(a.toNat:Int):=rfl;by_cases h1:65<=a.toNat;by_cases h2:a.toNat<=90;rw[jc (And.intro h1 h2),p7];simp(disch:=first|omega|simp only[lnsq];omega)only[bL,e,HR];exact Ev.ai h (Ev.pure _);rw[gX (λh:65<=a.toNat/\a.toNat<=90=>h2 h.2),oN];exact bI λn=>by simp(disch:=first|omega|simp only[lnsq];omega)only[bL,e]
 rw[gX (λh:65<=a.toNat/\a.toNat<=90=>h1 h.1),oN];exact bI λn=>by simp(disch:=first|omega|simp only[lnsq];omega)only[bL,e]
def apN{s:L UInt8}(hs:s.length<=1000):Ev (λn=>F240 n (s,())) ((yS s,()),()):=by
 unfold F240;cases s with
 |nil=>exact bI λn=>by simp(disch:=omega)only[bL]<;>rfl
 |cons a l=>simp only[qP]at hs;by_cases h:l.length<=7;have:=PE (G:=λn l=>F275 n (l,())) (a:=a) (apK (l:=l) (by omega)) h;refine Ev.oI (λn=>?_) this;simp only[aq,qP];rw[OG (by omega),OG (by omega)];rw[qY,gX h,oN,oN];exact bI λn=>by simp(disch:=omega)only[bL]
def Kr(c:ck):aa:=yS c.Name&&decide (0<=c.mL/\c.mL<=3)
theorem take_succ{α:Type}{l:L α}{i:Nat}(d:α)(h:i<l.length):l.take i++[l.getD i d]=l.take (i+1):=by
 simp_all
theorem qf{α:Type}{l:L α}{i:Nat}(d:α)(h:i<l.length):(l.take (i+1)).Nodup↔(l.take i).Nodup/\l.getD i d∉l.take i:=by
 rw[<-take_succ d h,List.nodup_append]
 grind
theorem ap0{l:L (L UInt8)}{s:L UInt8}(hl:l.length<=1000):Ev (λn=>F141 n (l,s,())) ((decide (s∈l),()),()):=by
 unfold F141;have b:∀(i:Nat)(y:Int×U),(X () (W,()):LO (Int×U) (aa×U) U Any)≠.next y:=λ_ _ h=>by cases h
 rcases gU (F:=λn c=>aj (aD c.1 (aq l)) (aU (aL c.1 l) (aj (ga (aX l (au c.1) []) s) (Z (X () (W,()))) (Z (N (aC .i64 c.1 1,()))))) (Z (H 0 c))) l.length (λi=>!(ga (l.getD i []) s)) (λ_=>(X () (W,()):LO (Int×U) (aa×U) U Any)) b (λi e=>bI λn=>by
   cases f:ga (l.getD i []) s<;>simp(disch:=omega)only[bL,f,bX,ff,fe,JJ,Ma]) (λn=>by simp(disch:=omega)only[bL]<;>rfl)with⟨a,r⟩|⟨i,e,a,r⟩
 have:s∉l:=by intro g;have:=eR (d:=([]:L UInt8)) (Q:=λx=>(!(ga x s))=W) a s g;simp[ga]at this
 rw[gX this];exact Ev.bh r (λn c=>_) _ cE;have:s∈l:=by
  grind[ga,cN]
 rw[jc this];exact Ev.bh r (λn c=>_) _ cE
theorem ap1{l:L (L UInt8)}(hl:l.length<=1000):∃b,Ev (λn=>F139 n (l,())) ((b,()),())/\(b=W↔l.Nodup):=by
 unfold F139;have e:∀(i:Nat)(y:Int×U),(X () (J,()):LO (Int×U) (aa×U) U Any)≠.next y:=λ_ _ h=>by cases h
 rcases gU (F:=λn c=>aj (aD c.1 (aq l)) (aU (fX 0 c.1 (aq l)) (aU (aL c.1 l) (ai (F141 n (dD l 0 c.1,aX l (au c.1) [],())) λd=>aj d.1.1 (Z (X () (J,()))) (Z (N (aC .i64 c.1 1,())))))) (Z (H 0 c))) l.length (λi=>!(decide (l.getD i []∈l.take i))) (λ_=>(X () (J,()):LO (Int×U) (aa×U) U Any)) e (λi f=>by
   simp(disch:=omega)only[bL,Ju];refine Ev.ai (ap0 (by grind)) (bI λn=>?_);cases j:decide (l.getD i []∈l.take i)<;>simp(disch:=omega)only[bL,bX,ff,fe,JJ,Ma]) (λn=>by simp(disch:=omega)only[bL]<;>rfl)with⟨a,r⟩|⟨i,f,a,r⟩
 refine⟨W,Ev.bh r (λn c=>_) _ cE,λ_=>?_,λ_=>rfl⟩;have:∀i,i<=l.length->(l.take i).Nodup:=by
  intro i
  induction i with
  |zero=>intro _;simp
  |succ i k=>
   grind[qf,decide_eq_true]
 have:=this l.length (cM _);rwa [tL]at this;refine⟨J,Ev.bh r (λn c=>_) _ cE,(λh=>by cases h),λg=>?_⟩;have h1:(l.take (i+1)).Nodup:=List.Nodup.sublist (List.take_sublist _ _) g
 grind[h2,qf,decide_eq_false]
end
def apJ(s:L UInt8):Ev (λn=>F284 n (s,())) ((yS s,()),()):=by
 unfold F284;cases s with
 |nil=>exact cE|cons a l=>
  have d:ga (a::l) []=J:=rfl;have e:l5 (a::l) 0=(a.toNat:Int):=rfl;by_cases h:l.length<=7;rw[qY,jc h,p7];by_cases h1:65<=a.toNat;by_cases h2:a.toNat<=90;rw[jc (And.intro h1 h2),p7];simp(disch:=first|omega|simp only[lnsq];omega)only[bL,d,e,HR];obtain⟨a,c,r⟩|⟨a,c,r⟩:=Et _ (λn c=>rfl) l.length l 0 (by omega)
  rw[List.drop_zero]at a;rw[a];exact Ev.bh (F:=λn c=>_) r (λn c=>_) _ cE;rw[List.drop_zero]at a;rw[a];exact Ev.bh (F:=λn c=>_) r (λn c=>_) _ cE;rw[gX (λh:65<=a.toNat/\a.toNat<=90=>h2 h.2),oN];exact bI λn=>by simp(disch:=first|omega|simp only[lnsq];omega)only[bL,d,e]
  rw[gX (λh:65<=a.toNat/\a.toNat<=90=>h1 h.1),oN];exact bI λn=>by simp(disch:=first|omega|simp only[lnsq];omega)only[bL,d,e]
  rw[qY,gX h,oN,oN];exact bI λn=>by simp(disch:=omega)only[bL,d]
theorem fJ{X R B P α:Type}(j:Nat)(x:X)(f:Nat->X->O α)(g:B->R->O α)(h:B->P->O α):bq (.out j x) f g h=f j x:=rfl
theorem apX{l:L ck}(hl:l.length<=1000)(hs:∀c∈l,c.Name.length<=1000):∃b,Ev (λn=>F158 n (l,())) ((b,()),())/\(b=W↔(∀c∈l,Kr c=W)/\l.length<=20/\(l.map ck.Name).Nodup):=by
 unfold F158;have p:∀(i:Nat)(y:L (L UInt8)×Int×U),(X () (J,()):LO (L (L UInt8)×Int×U) (aa×U) U Any)≠.next y:=λ_ _ h=>by cases h
 rcases lV (F:=λn c=>aj (aD c.2.1 (aq l)) (aU (aL c.2.1 l) (ai (F240 n ((aX l (au c.2.1) bn).1,())) λd=>aj (ak d.1.1) (Z (X () (J,()))) (aU (aL c.2.1 l) (ai (F241 n ((aX l (au c.2.1) bn).2,0,3,())) λe=>aj (ak e.1.1) (Z (X () (J,()))) (aU (aL c.2.1 l) (aU (dJ c.1 [(aX l (au c.2.1) bn).1]) (Z (N (di c.1 [(aX l (au c.2.1) bn).1],aC .i64 c.2.1 1,()))))))))) (Z (H 0 c)))
  l.length (λi=>((l.take i).map ck.Name,(i:Int),())) (λi=>Kr (l.getD i bn)) (λ_=>(X () (J,()):LO (L (L UInt8)×Int×U) (aa×U) U Any)) 0 p (λi k _=>by
   simp(disch:=omega)only[bL];refine Ev.ai (apN (hs _ (cN bn k))) ?_;unfold Kr;cases yS (l.getD i bn).Name with
   |false=>simp_all[bI,bL,oN]|true=>
    refine bI λn=>?_;have f:dJ (List.map ck.Name (List.take i l)) [(l.getD i bn).Name]=W:=Ng.2 (by simp;omega);cases m:decide (0<=(l.getD i bn).mL/\(l.getD i bn).mL<=3)with
    |false=>simp only[bL,UU,m,p7]|true=>
     simp(disch:=omega)only[bL,UU,m,p7,f,bX,ff,fe]
     grind[take_succ,bn]) (λ_=>bI λn=>by simp(disch:=omega)only[bL]<;>rfl)with⟨a,r⟩|⟨i,k,a,_,r⟩
 rw[tL]at r;obtain⟨b,g,q⟩:=ap1 (l:=l.map ck.Name) (by simp_all);have o:∀c∈l,Kr c=W:=eR (d:=bn) a;by_cases j:l.length<=20;refine⟨b,Ev.bh r (λn c=>_) _ ?_,by simp_all⟩;refine Ev.oI (λn=>fJ ..) ?_;simp(disch:=omega)only[bL];exact Ev.ai g (Ev.pure _);refine⟨J,Ev.bh r (λn c=>_) _ (bI λn=>?_),(λh=>by cases h),λh=>absurd h.2.1 j⟩;rw[fJ];simp(disch:=omega)only[bL];refine⟨J,Ev.bh r (λn c=>_) _ cE,(λh=>by cases h),λh=>?_⟩
 simp_all
def aa6(k l:L UInt8):Fj (A:=sg.A) Ty.str k l=decide (k=l):=by show ga k l=_;by_cases h:k=l<;>simp[ga,h]
def RW{k:L UInt8}:∀m:L (L UInt8×aa),(∀q∈m,q.2=W)->AQ (A:=sg.A) Ty.str J k m=decide (k∈m.map Prod.fst)
 |[],_=>by simp[AQ]
 |q::m,h=>by
  unfold AQ;rw[aa6];by_cases a:k=q.1
  simp_all
  rw[gX a];simp only[gJ];rw[RW m λx b=>h x (hJ _ b)];simp[a]
theorem MM{k:L UInt8}:∀m:L (L UInt8×aa),(∀q∈m,q.2=W)->∀q∈gY (A:=sg.A) Ty.str k W m,q.2=W
 |[],_,q,a=>by unfold gY at a;rw[sE.1 a]
 |x::m,h,q,a=>by
  unfold gY at a;cases b:Fj (A:=sg.A) Ty.str k x.1 with
  |true=>
   grind
  |false=>
   rw[b]at a;simp only[gJ]at a;obtain a|a:=fF.1 a
   simp_all
   exact MM m (λy c=>h y (hJ _ c)) q a
theorem MN{k:L UInt8}:∀m:L (L UInt8×aa),((gY (A:=sg.A) Ty.str k W m).map Prod.fst)=if k∈m.map Prod.fst then m.map Prod.fst else m.map Prod.fst++[k]
 |[]=>by simp[gY]
 |q::m=>by
  have a:Fj (A:=sg.A) Ty.str k q.1=decide (k=q.1):=by show ga k q.1=_;by_cases h:k=q.1<;>simp[ga,h]
  unfold gY;rw[a];by_cases h:k=q.1
  simp_all
  rw[gX h];simp only[gJ,mh];rw[MN m]
  grind
structure KF(l:List (List UInt8))(i:Nat)(m:List (List UInt8×aa)):Prop where
 mem:∀x,x∈m.map Prod.fst↔x∈l.take i
 le:m.length<=i
 eq:m.length=i↔(l.take i).Nodup
theorem KF.step{l:L (L UInt8)}{i:Nat}{m:L (L UInt8×aa)}(h:KF l i m)(hi:i<l.length):KF l (i+1) (gY (A:=sg.A) Ty.str (l.getD i []) W m):=by
 have d:=MN (k:=l.getD i []) m;have a:(gY (A:=sg.A) Ty.str (l.getD i []) W m).length=if l.getD i []∈m.map Prod.fst then m.length else m.length+1:=by have:=lq List.length d;rw[rM]at this;rw[this];split<;>simp
 have e:=qf ([]:L UInt8) hi;refine⟨λx=>?_,?_,?_⟩;rw[d,<-take_succ [] hi,eN,sE];split;rename_i c;rw[h.mem];exact⟨.inl,λb=>b.elim id λb=>by rw[b];exact(h.mem _).1 c⟩;rw[eN,sE,h.mem];rw[a];have:=h.le;split<;>omega;rw[a,e];have:=h.le;by_cases c:l.getD i []∈m.map Prod.fst;rw[bO c];exact⟨λb=>by omega,λb=>absurd ((h.mem _).1 c) b.2⟩;rw[cm c];have f:l.getD i []∉l.take i:=λb=>c ((h.mem _).2 b);rw[<-h.eq]
 simp_all
theorem apR{l:L ck}(hl:l.length<=1000):∃b,Ev (λn=>F224 n (l,())) ((b,()),())/\(b=W↔(∀c∈l,Kr c=W)/\l.length<=20/\(l.map ck.Name).Nodup):=by
 unfold F224 KP;by_cases k:l.length<=20
 .let g:Nat->L (L UInt8×aa):=λi=>Nat.rec [] (λi m=>gY (A:=sg.A) Ty.str (l.getD i bn).Name W m) i
  have t:∀i,i<l.length->(l.map ck.Name).getD i []=(l.getD i bn).Name:=λi j=>by
   simp_all
  have s:∀i,i<=l.length->KF (l.map ck.Name) i (g i)/\∀q∈g i,q.2=W:=by
   intro i
   induction i with
   |zero=>intro _;rw[show g 0=[]from rfl];exact⟨⟨by simp,by simp,by simp⟩,λq u=>by cases u⟩
   |succ i o=>
    intro j;obtain⟨h1,h2⟩:=o (by omega);refine⟨?_,MM (g i) h2⟩;have:=h1.step (by grind)
    grind
  have p:∀i,i<l.length->AQ (A:=sg.A) Ty.str J (l.getD i bn).Name (g i)=decide ((l.getD i bn).Name∈(l.map ck.Name).take i):=λi j=>by rw[RW (g i) (s i (by omega)).2];exact decide_eq_decide.2 ((s i (by omega)).1.mem _)
  rcases lV (F:=λn(c:Int×L (L UInt8×aa)×U)=>aj (aD c.1 (aq l)) (aU (aL c.1 l) (ai (F284 n ((aX l (au c.1) bn).1,())) λd=>aj d.1.1 (ai (F223 n ((aX l (au c.1) bn).2,0,3,())) λe=>aj e.1.1 (aj (ak (ak (AQ (A:=sg.A) Ty.str J (aX l (au c.1) bn).1 c.2.1))) (Z (X (gY (A:=sg.A) Ty.str (aX l (au c.1) bn).1 W c.2.1,()) (c.1,()))) (Z (N (aC .i64 c.1 1,gY (A:=sg.A) Ty.str (aX l (au c.1) bn).1 W c.2.1,())))) (Z (X (gY (A:=sg.A) Ty.str (aX l (au c.1) bn).1 W c.2.1,()) (c.1,())))) (Z (X (gY (A:=sg.A) Ty.str (aX l (au c.1) bn).1 W c.2.1,()) (c.1,())))))
   (Z (H 0 c)))
   l.length (λi=>((i:Int),g i,())) (λi=>Kr (l.getD i bn)&&!decide ((l.getD i bn).Name∈(l.map ck.Name).take i)) (λi=>(X (g (i+1),()) ((i:Int),()):LO (Int×L (L UInt8×aa)×U) (Int×U) (L (L UInt8×aa)×U) Any)) 0 (λ_ _ h=>by cases h) (λi j _=>by
    simp(disch:=omega)only[bL];refine Ev.ai (apJ _) ?_;unfold Kr;cases yS (l.getD i bn).Name with
    |false=>exact cE|true=>
     refine bI λn=>?_;simp(disch:=omega)only[bL,qB,p i j,bX];cases decide (0<=(l.getD i bn).mL/\(l.getD i bn).mL<=3)<;>cases decide ((l.getD i bn).Name∈(l.map ck.Name).take i)<;>rfl) (λ_=>bI λn=>by simp(disch:=omega)only[bL]<;>rfl)with⟨a,r⟩|⟨i,j,a,_,r⟩
  refine⟨W,?_,λ_=>⟨?_,k,?_⟩,λ_=>rfl⟩;have:br (aq l) 20=W:=jc (show(l.length:Int)<=20 by omega);simp only[this,Rp];refine Ev.bh r _ _ (bI λn=>?_);rfl;exact eR (d:=bn) λi j=>by simp_all
  have key:∀i,i<=l.length->((l.map ck.Name).take i).Nodup:=by
   intro i
   induction i with
   |zero=>intro _;simp
   |succ i o=>
    intro j;refine(qf [] (by grind)).2 ⟨o (by omega),?_⟩
    grind
  have:=key l.length (cM _);rwa [<-rM (f:=ck.Name),tL]at this;refine⟨J,?_,(λh=>by cases h),λh=>?_⟩;have:br (aq l) 20=W:=jc (show(l.length:Int)<=20 by omega);simp only[this,Rp];refine Ev.bh r _ _ (bI λn=>?_);rfl;rw[h.1 _ (cN bn j),p7]at a;have v:=(List.take_sublist (i+1) _).nodup h.2.2
  grind[qf,List.length_map,decide_eq_false]
 refine⟨J,bI λn=>?_,(λh=>by cases h),λh=>absurd h.2.1 k⟩;rw[show br (aq l) 20=J from gX (show ¬(l.length:Int)<=20 by omega)];rfl
section
variable {c:aB}
structure CF(c:aB):Prop where
 ins:1<=c.dA.length/\c.dA.length<=1500
 pl:c.ez.length<=100
 cons:∀k∈c.Cons,Kr k=W
 Sr:c.Cons.length<=20
 names:(c.Cons.map ck.Name).Nodup
 fl:1<=c.cW.length/\c.cW.length<=300
 main:0<=c.Main/\c.Main<c.cW.length
 pats:∀q∈c.ez,pw q<=12/\oP c.Cons q=W
 o4:∀f∈c.cW,0<=f/\f<c.dA.length
 all:∀i∈c.dA,vN c i=W
mutual
theorem WM{cons:L ck}:∀q:aM,oP cons q=W->xP cons q
 |⟨a,n,text,parts⟩,h=>by
  unfold oP aaH at h;unfold xP;simp only[eM,sC]at h;obtain⟨⟨h1,h2⟩,h3⟩:=h;have h4:=RI parts h2;split at h3
  simp_all
  grind
theorem RI{cons:L ck}:∀qs:L aM,oF cons qs=W->vD cons qs
 |[],_=>trivial|q::qs,h=>by unfold oF at h;simp only[eM]at h;exact⟨WM q h.1,RI qs h.2⟩
end
theorem CF.ok(h:CF c):zn c:=by
 refine⟨h.ins,λi b=>?_,λq a=>⟨WM q (h.pats q a).2,(h.pats q a).1⟩,h.pl,h.o4,h.fl,h.main,λk d=>?_⟩;have:=h.all i b;unfold vN Li at this;simp only[eM,sC]at this;obtain⟨⟨h1,h2⟩,h3,h4⟩:=this;unfold fB at h4;unfold fA at h3;refine⟨h1,h2,λk=>?_,λk=>?_,λk=>?_,λk=>?_,λk=>?_,λk=>?_,λk=>?_,λk=>?_,λk=>?_⟩<;>simp[k]at h3 h4<;>first|omega|(simp[rS];omega)|grind
 have:=h.cons k d
 simp_all[Kr,eM,sC]
end
section
variable {c:aB}
def apA{X B P α:Type}(i:Nat)(b:B)(f:Nat->X->O α)(u v:O α)(h:B->P->O α):bq (.ret b ((i:Int),())) f (λ_(q:Int×U)=>aj (ak (ak (br 0 q.1))) u v) h=u:=by rfl
def afw(hs:Small c):Ev (λn=>KW n (c,())) ((bif (c.ez.all λq=>decide (pw q<=12)&&oP c.Cons q)&&c.dA.all (vN c)then 0 else 2,()),()):=by
 have h1:=hs.pl;have h2:=hs.cl;have e:∀(i:Nat)(y:Int×U),(X () ((i:Int),()):LO (Int×U) (Int×U) U Any)≠.next y:=λ_ _ h=>by cases h
 unfold KW uD;simp only[Np];rcases gU (F:=λn(k:Int×U)=>aj (aD k.1 (aq c.2)) (aU (aL k.1 c.2) (ai (F228 n (aX c.2 (au k.1) aS,12,())) λl=>aj (br 0 l.1.1) (ai (F229 n (aX c.2 (au k.1) aS,c.5,())) λm=>aj (ak m.1.1) (Z (X () k)) (Z (N (aC .i64 k.1 1,())))) (Z (X () k)))) (Z (H 0 k)))
  c.ez.length (λi=>decide (pw (c.ez.getD i aS)<=12)&&oP c.Cons (c.ez.getD i aS)) (λi=>(X () ((i:Int),()):LO (Int×U) (Int×U) U Any)) e
  (λi b=>by
   have f:=hs.pats _ (cN aS b);simp(disch:=omega)only[bL];refine Ev.ai (apQ (c.ez.getD i aS) (by omega) (by omega)) ?_;by_cases h:pw (c.ez.getD i aS)<=12;rw[nN (left:=12) (k:=pw (c.ez.getD i aS)) (by omega),jc h,p7];simp(disch:=omega)only[bL];refine Ev.ai (WO (by omega) (c.ez.getD i aS) (by omega) 0) (bI λn=>?_);cases oP c.Cons (c.ez.getD i aS)<;>simp(disch:=omega)only[bL,bX,ff,fe];rw[qq (left:=12) (k:=pw (c.ez.getD i aS)) (by omega),gX h,oN]
   simp_all[bI,bL]) (λn=>by simp(disch:=omega)only[bL]<;>rfl)with⟨a,r⟩|⟨i,b,a,r⟩
 rw[AG (d:=aS) a,p7];refine Ev.bh r _ _ ?_;exact afx hs;rw[oT (d:=aS) b a,oN];refine Ev.bh r _ _ (bI λn=>?_);rfl
end
section
variable {c:aB}
def Iq{F:Nat->O ((Int×U)×U)}(hn:¬CF c)(h:Ev F ((2,()),())):∃r:Int,Ev F ((r,()),())/\(r=0\/r=2)/\(r=0↔CF c):=
 ⟨2,h,.inr rfl,(λh=>by cases h),λh=>absurd h hn⟩
theorem apZ(hs:Small c):∃r:Int,Ev (λn=>F147 n (c,())) ((r,()),())/\(r=0\/r=2)/\(r=0↔CF c):=by
 have h1:=hs.ins;have h2:=hs.o4;have h3:=hs.cl;unfold F147 nu;by_cases j:¬(1<=c.dA.length/\c.dA.length<=1500);exact Iq (λh=>j h.ins) (bI λn=>by simp only[bL,qB,gX (show ¬((1:Int)<=(c.dA.length:Int)/\(c.dA.length:Int)<=1500)by omega)]<;>rfl);have j:=OS.1 j;have d1:=jc (show(1:Int)<=(c.dA.length:Int)/\(c.dA.length:Int)<=1500 by omega);by_cases z:100<c.ez.length;exact Iq (λh=>by have:=h.pl;omega) (bI λn=>by simp(disch:=omega)only[bL,qB,d1]<;>rfl);obtain⟨b,e,g⟩:=apR (l:=c.Cons) (by omega);simp(disch:=omega)only[bL,qB,d1];cases b with
 |false=>exact Iq (λh=>by have:=g.2 ⟨h.cons,h.Sr,h.names⟩;cases this) (Ev.ai e cE)
 |true=>
  obtain⟨t,u,v⟩:=g.1 rfl;by_cases k:¬(1<=c.cW.length/\c.cW.length<=300);exact Iq (λh=>k h.fl) (Ev.ai e (bI λn=>by simp only[bL,qB,gX (show ¬((1:Int)<=(c.cW.length:Int)/\(c.cW.length:Int)<=300)by omega)]<;>rfl));have k:=OS.1 k;have d3:=jc (show(1:Int)<=(c.cW.length:Int)/\(c.cW.length:Int)<=300 by omega);by_cases m:¬(0<=c.Main/\c.Main<c.cW.length);exact Iq (λh=>m h.main) (Ev.ai e (bI λn=>by simp(disch:=omega)only[bL,qB,d3,ec,gX (show ¬((0:Int)<=c.Main/\c.Main<=(c.cW.length:Int)-1)by omega)]<;>rfl));have m:=OS.1 m;have d4:=jc (show(0:Int)<=c.Main/\c.Main<=(c.cW.length:Int)-1 by omega);have w:∀(i:Nat)(y:Int×U),(X () ((i:Int),()):LO (Int×U) (Int×U) U Any)≠.next y:=λ_ _ h=>by cases h
  have o:=afw hs;rcases gU (F:=λn(h:Int×U)=>aj (aD h.1 (c.cW.length:Int)) (aU (aL h.1 c.cW) (aj (decide (0<=c.cW.getD h.1.toNat 0/\c.cW.getD h.1.toNat 0<=bH .i64 (c.dA.length:Int) 1)) (Z (N (aC .i64 h.1 1,()))) (Z (X () h)))) (Z (H 0 h)))
   c.cW.length (λi=>decide (0<=c.cW.getD i 0/\c.cW.getD i 0<=(c.dA.length:Int)-1)) (λi=>(X () ((i:Int),()):LO (Int×U) (Int×U) U Any)) w
   (λi p=>bI λn=>by
    simp(disch:=omega)only[bL,ec];cases decide (0<=c.cW.getD i 0/\c.cW.getD i 0<=(c.dA.length:Int)-1)<;>simp(disch:=omega)only[bL,bX,ff,fe]) (λn=>by simp(disch:=omega)only[bL]<;>rfl)with⟨a,r⟩|⟨i,p,a,r⟩
  have x:∀f∈c.cW,0<=f/\f<c.dA.length:=eR (d:=(0:Int)) λi p=>by grind
  have goal:∀r:Int,r=(bif (c.ez.all λq=>decide (pw q<=12)&&oP c.Cons q)&&c.dA.all (vN c)then 0 else 2)->(r=0\/r=2)/\(r=0↔CF c):=by
   intro r A;have s:((c.ez.all λq=>decide (pw q<=12)&&oP c.Cons q)&&c.dA.all (vN c))=W↔CF c:=by simp only[eM,j5,sC];exact⟨λh=>⟨j,by omega,t,u,v,k,m,h.1,x,h.2⟩,λh=>⟨h.pats,h.all⟩⟩
   grind
  refine⟨_,?_,goal _ rfl⟩;refine Ev.ai e ?_;simp only[qB,d3,d4,bL,ec (show -9223372036854775808<=(c.cW.length:Int)-1 by omega) (show(c.cW.length:Int)-1<=9223372036854775807 by omega)];refine Ev.bh r _ _ ?_;exact o;refine Iq (λh=>?_) (Ev.ai e ?_);have:=h.o4 _ (cN (0:Int) p)
  grind
  simp only[qB,d3,d4,bL,ec (show -9223372036854775808<=(c.cW.length:Int)-1 by omega) (show(c.cW.length:Int)-1<=9223372036854775807 by omega)];refine Ev.bh r _ _ (bI λn=>?_);rfl
end
section
variable {α β R B P:Type}
def Ev.all{l:L α}(d:α)(q:α->aa)(bad:Nat->LO (Int×U) R B P){F:Nat->Int×U->O (LO (Int×U) R B P)}{g:Nat->LO (Int×U) R B P->O β}{r:β}
  (e:∀i y,bad i≠.next y)
  (hs:∀i,i<l.length->Ev (λn=>F n ((i:Int),())) (bif q (l.getD i d)then .next (((i+1:Nat):Int),())else bad i))
  (f:∀n,F n ((l.length:Int),())=Z (.out 0 ((l.length:Int),())))
  (h1:l.all q=W->Ev (λn=>g n (.out 0 ((l.length:Int),()))) r) (h2:∀i,i<l.length->l.all q=J->Ev (λn=>g n (bad i)) r) :
  Ev (λn=>ai (iter (F n) n (0,())) (g n)) r:=by
 obtain⟨a,b⟩|⟨i,c,a,b⟩:=gU l.length (λi=>q (l.getD i d)) bad e hs f
 exact Ev.bh b g _ (h1 (AG (d:=d) a));exact Ev.bh b g _ (h2 i c (oT (d:=d) c a))
def Ev.allI{X:Type}(len:Nat)(s:Nat->X)(q:Nat->aa)(bad:Nat->LO X R B P){F:Nat->X->O (LO X R B P)}{g:Nat->LO X R B P->O β}{r:β}(c:∀i y,bad i≠.next y)
  (hs:∀i,i<len->(∀j,j<i->q j=W)->Ev (λn=>F n (s i)) (bif q i then .next (s (i+1))else bad i)) (d:∀n,F n (s len)=Z (.out 0 (s len)))
  (h1:(∀i,i<len->q i=W)->Ev (λn=>g n (.out 0 (s len))) r) (h2:∀i,i<len->q i=J->Ev (λn=>g n (bad i)) r):Ev (λn=>ai (iter (F n) n (s 0)) (g n)) r:=by
 obtain⟨a,b⟩|⟨i,e,a,_,b⟩:=lV len s q bad 0 c hs (λ_=>bI d)
 exact Ev.bh b g _ (h1 a);exact Ev.bh b g _ (h2 i e a)
def yB{X R B P:Type}{b:B}{r:X->R}:∀(c y:X),(LO.ret b (r c):LO X R B P)≠.next y:=λ_ _ h=>by cases h
def aht(i:Nat):ak (br 0 (i:Int))=J:=by rfl
def IB(a lo hi:Int):aa:=decide (lo<=a)&&decide (a<=hi)
theorem gK{a lo hi:Int}:IB a lo hi=W↔lo<=a/\a<=hi:=by simp[IB]
theorem kf{a b:Int}:af a b=W↔a=b:=by simp[af]
variable {b a:Int}
def yR(h:af a b=J):a≠b:=λe=>by rw[u9 e]at h;cases h
theorem z6{a b:Int}(h:br a b=W):a<=b:=by simpa[br]using h
def z7(h:br a b=J):b<a:=by simpa[br]using h
def z5(h:aD a b=W):a<b:=by simpa[aD]using h
def Bp(h:aD a b=J):b<=a:=by simpa[aD]using h
end
def aW{α:Type}(F:Nat->O α)(P:Prop)(x y:α):Prop:=(P/\Ev F x)\/(¬P/\Ev F y)
abbrev FB:=Nat->O ((aa×U)×U)
abbrev ep(F:FB)(P:Prop):Prop:=aW F P ((W,()),()) ((J,()),())
section
variable {α:Type}{F G f g:Nat->Option α}{x y:α}{P Q:Prop}
def aW.no(hn:¬P)(h:Ev F y):aW F P x y:=.inr ⟨hn,h⟩
def aW.yes(a:P)(h:Ev F x):aW F P x y:=.inl ⟨a,h⟩
def aW.iff(e:P↔Q)(h:aW F P x y):aW F Q x y:=by
 simp_all
def aW.congr(e:∀n,F n=G n)(h:aW G P x y):aW F P x y:=by
 obtain⟨a,b⟩|⟨a,b⟩:=h
 exact .inl ⟨a,Ev.oI e b⟩;exact .inr ⟨a,Ev.oI e b⟩
theorem aW.aj{b:aa}(h1:b=W->aW f P x y)(h2:b=J->aW g P x y):aW (λn=>TL.aj b (f n) (g n)) P x y:=by cases b;exact h2 rfl;exact h1 rfl
def aW.aU{b:aa}(a:b=W)(h:aW f P x y):aW (λn=>TL.aU b (f n)) P x y:=by subst a;exact h
theorem aW.ai{f:FB}{g:Nat->(aa×U)×U->O α}(h:ep f P)(h1:P->aW (λn=>g n ((W,()),())) Q x y)(h2:¬P->aW (λn=>g n ((J,()),())) Q x y):aW (λn=>TL.ai (f n) (g n)) Q x y:=by
 obtain⟨a,b⟩|⟨a,b⟩:=h
 obtain⟨c,d⟩|⟨c,d⟩:=h1 a
 exact .inl ⟨c,Ev.ai b d⟩;exact .inr ⟨c,Ev.ai b d⟩;obtain⟨c,d⟩|⟨c,d⟩:=h2 a
 exact .inl ⟨c,Ev.ai b d⟩;exact .inr ⟨c,Ev.ai b d⟩
def aW.ifN{f:FB}{bad rest:Nat->O α}(h:ep f P)(h1:P->aW rest Q x y)(h2:¬P->aW bad Q x y):aW (λn=>TL.ai (f n) λz=>TL.aj (ak z.1.1) (bad n) (rest n)) Q x y:=aW.ai h h1 h2
def aW.ifP{f:FB}{bad rest:Nat->O α}(h:ep f P)(h1:P->aW rest Q x y)(h2:¬P->aW bad Q x y):aW (λn=>TL.ai (f n) λz=>TL.aj z.1.1 (rest n) (bad n)) Q x y:=aW.ai h h1 h2
def aW.aqd{β:Type}{f:Nat->O β}{a:β}{g:Nat->β->O α}(h:Ev f a)(c:aW (λn=>g n a) P x y):aW (λn=>TL.ai (f n) (g n)) P x y:=by
 obtain⟨a,b⟩|⟨a,b⟩:=c
 exact .inl ⟨a,Ev.ai h b⟩;exact .inr ⟨a,Ev.ai h b⟩
def ep.mk{F:FB}{b:aa}(h:Ev F ((b,()),()))(e:b=W↔P):ep F P:=by cases b;exact .inr ⟨(λh=>by simp_all),h⟩;exact .inl ⟨e.1 rfl,h⟩
theorem ep.get{F:FB}(h:ep F P):∃b,Ev F ((b,()),())/\(b=W↔P):=by
 obtain⟨a,b⟩|⟨a,b⟩:=h
 simp_all
 simp_all
def ep.of_eq{F:FB}{b:aa}(h:∀n,F n=Z ((b,()),()))(e:b=W↔P):ep F P:=ep.mk (bI h) e
def ep.tail{f:FB}(h:ep f P):ep (λn=>TL.ai (f n) λx=>Z x) P:=by
 obtain⟨a,b⟩|⟨a,b⟩:=h
 exact .inl ⟨a,Ev.ai b (Ev.pure _)⟩;exact .inr ⟨a,Ev.ai b (Ev.pure _)⟩
end
section
variable {α β R B P:Type}{Q:Prop}{Pa:α->Prop}{x y:β}
def aW.loop{X:Type}(len:Nat)(s:Nat->X)(q:Nat->Prop)(bad:Nat->LO X R B P){F:Nat->X->O (LO X R B P)}{g:Nat->LO X R B P->O β}(f:∀i y,bad i≠.next y)
  (hs:∀i,i<len->(∀j,j<i->q j)->aW (λn=>F n (s i)) (q i) (.next (s (i+1))) (bad i)) (k:∀n,F n (s len)=Z (.out 0 (s len)))
  (h1:(∀i,i<len->q i)->aW (λn=>g n (.out 0 (s len))) Q x y) (h2:∀i,i<len->¬q i->aW (λn=>g n (bad i)) Q x y):aW (λn=>TL.ai (iter (F n) n (s 0)) (g n)) Q x y:=by
 haveI:∀i,Decidable (q i):=λi=>Classical.propDecidable _
 rcases lV (F:=F) len s (λi=>decide (q i)) bad 0 f (λi c l=>by
  obtain⟨a,b⟩|⟨a,b⟩:=hs i c (λj h=>Ml (l j h))
  simp_all
  simp_all) (λ_=>bI k)with⟨a,d⟩|⟨i,c,a,_,d⟩
 obtain⟨b,e⟩|⟨b,e⟩:=h1 λi c=>Ml (a i c)
 exact .inl ⟨b,Ev.bh d g _ e⟩;exact .inr ⟨b,Ev.bh d g _ e⟩;obtain⟨b,e⟩|⟨b,e⟩:=h2 i c (of_decide_eq_false a)
 exact .inl ⟨b,Ev.bh d g _ e⟩;exact .inr ⟨b,Ev.bh d g _ e⟩
def aW.all{l:L α}(d:α)(Pa:α->Prop)(bad:Nat->LO (Int×U) R B P){F:Nat->Int×U->O (LO (Int×U) R B P)}{g:Nat->LO (Int×U) R B P->O β}(c:∀i y,bad i≠.next y)
  (hs:∀i,i<l.length->aW (λn=>F n ((i:Int),())) (Pa (l.getD i d)) (.next (((i+1:Nat):Int),())) (bad i)) (e:∀n,F n ((l.length:Int),())=Z (.out 0 ((l.length:Int),())))
  (h1:(∀a∈l,Pa a)->aW (λn=>g n (.out 0 ((l.length:Int),()))) Q x y) (h2:¬(∀a∈l,Pa a)->∀i:Nat,aW (λn=>g n (bad i)) Q x y):aW (λn=>TL.ai (iter (F n) n (0,())) (g n)) Q x y:=
 aW.loop l.length (λi=>((i:Int),())) (λi=>Pa (l.getD i d)) bad c (λi b _=>hs i b) e (λh=>h1 (eR (d:=d) h)) (λi b h=>h2 (λf=>h (f _ (cN d b))) i)
def aW.KB{l:L α}(d:α)(Pa:α->Prop)(T:Nat->α->O ((aa×U)×U))(bad:Int×U->LO (Int×U) R B P){F:Nat->Int×U->O (LO (Int×U) R B P)}{g:Nat->LO (Int×U) R B P->O β}
  (j:∀n c,F n c=TL.aj (aD c.1 (aq l)) (TL.aU (aL c.1 l) (TL.ai (T n (aX l (au c.1) d)) λx=>TL.aj (ak x.1.1) (Z (bad c)) (Z (N (aC .i64 c.1 1,()))))) (Z (H 0 c)))
  (hl:l.length<=1000000) (k:∀c y,bad c≠.next y) (m:∀a∈l,ep (λn=>T n a) (Pa a))
  (h1:(∀a∈l,Pa a)->aW (λn=>g n (.out 0 ((l.length:Int),()))) Q x y) (h2:¬(∀a∈l,Pa a)->∀i:Nat,aW (λn=>g n (bad ((i:Int),()))) Q x y) :
  aW (λn=>TL.ai (iter (F n) n (0,())) (g n)) Q x y:=by
 refine aW.all d Pa (λi=>bad ((i:Int),())) (λi y=>k _ y) (λi o=>?_) (λn=>by simp_all[bL]) h1 h2;obtain⟨b,h,e⟩:=(m _ (cN d o)).get;have f:Ev (λn=>F n ((i:Int),())) (bif b then .next (((i+1:Nat):Int),())else bad ((i:Int),())):=by refine Ev.oI (λn=>j n _) ?_;simp(disch:=omega)only[bL];refine Ev.ai h (bI λn=>?_);cases b<;>simp(disch:=omega)only[bL,bX,ff,fe]
 cases b with|true=>exact .inl ⟨e.1 rfl,f⟩|false=>exact .inr ⟨(λh=>by simp_all),f⟩
end
section
variable {c:aB}
theorem e50(hs:Small c):ep (λn=>F50 n (c,())) (CF c):=by
 have h1:=hs.ins;have h2:=hs.o4;have h3:=hs.cl;have h4:=hs.pl;unfold F50 Ji;by_cases m:¬(1<=c.dA.length/\c.dA.length<=1500);exact aW.no (λh=>m h.ins) (bI λn=>by simp only[bL,v5,gX (show ¬((1:Int)<=(c.dA.length:Int)/\(c.dA.length:Int)<=1500)by omega)]<;>rfl);have m:=OS.1 m;have d1:=jc (show(1:Int)<=(c.dA.length:Int)/\(c.dA.length:Int)<=1500 by omega);by_cases x:100<c.ez.length;exact aW.no (λh=>by have:=h.pl;omega) (bI λn=>by simp(disch:=omega)only[bL,v5,d1]<;>rfl);obtain⟨b,g,j⟩:=apX (l:=c.Cons) (by omega) (λk s=>by have:=hs.names k s;omega);have d:Ev (λn=>F105 n (c.Cons,())) ((b,()),()):=by unfold F105;exact Ev.ai g (Ev.pure _)
 simp(disch:=omega)only[bL,v5,d1];cases b with
 |false=>exact aW.no (λh=>by have:=j.2 ⟨h.cons,h.Sr,h.names⟩;cases this) (Ev.ai d cE)
 |true=>
  obtain⟨t,u,v⟩:=j.1 rfl;by_cases o:¬(1<=c.cW.length/\c.cW.length<=300);exact aW.no (λh=>o h.fl) (Ev.ai d (bI λn=>by simp only[bL,v5,gX (show ¬((1:Int)<=(c.cW.length:Int)/\(c.cW.length:Int)<=300)by omega)]<;>rfl));have o:=OS.1 o;have d3:=jc (show(1:Int)<=(c.cW.length:Int)/\(c.cW.length:Int)<=300 by omega);by_cases p:¬(0<=c.Main/\c.Main<c.cW.length);exact aW.no (λh=>p h.main) (Ev.ai d (bI λn=>by simp(disch:=omega)only[bL,v5,d3,ec,gX (show ¬((0:Int)<=c.Main/\c.Main<=(c.cW.length:Int)-1)by omega)]<;>rfl));have p:=OS.1 p;have d4:=jc (show(0:Int)<=c.Main/\c.Main<=(c.cW.length:Int)-1 by omega);have w:=ec (show -9223372036854775808<=(c.cW.length:Int)-1 by omega) (show(c.cW.length:Int)-1<=9223372036854775807 by omega);have goal:((c.ez.all λq=>decide (pw q<=12)&&oP c.Cons q)&&(c.cW.all (λf=>decide (0<=f/\f<=(c.dA.length:Int)-1))&&c.dA.all (vN c)))=W↔CF c:=by simp only[eM,j5,sC];exact⟨λh=>⟨m,by omega,t,u,v,o,p,h.1,λf r=>by grind,h.2.2⟩,λh=>⟨h.pats,λf r=>by have:=h.o4 f r;omega,h.all⟩⟩
  refine ep.mk (Ev.ai d ?_) goal;simp only[v5,d3,d4,bL,w];refine Ev.all (l:=c.ez) aS (λq=>decide (pw q<=12)&&oP c.Cons q) (λ_=>.ret () (J,())) (λ_ _ h=>by cases h) (λi e=>?_) (λn=>by simp(disch:=omega)only[bL]) (λa=>?_) (λi e a=>?_);have a:=hs.pats _ (cN aS e);simp(disch:=omega)only[bL];refine Ev.ai (e94 (c.ez.getD i aS) (by omega) (by omega)) ?_;by_cases h:pw (c.ez.getD i aS)<=12;rw[nN (left:=12) (k:=pw (c.ez.getD i aS)) (by omega),jc h,p7];simp(disch:=omega)only[bL];refine Ev.ai (ap6 (by omega) (c.ez.getD i aS) (by omega)) (bI λn=>?_);cases oP c.Cons (c.ez.getD i aS)<;>simp(disch:=omega)only[bL,bX,ff,fe];rw[qq (left:=12) (k:=pw (c.ez.getD i aS)) (by omega),gX h,oN]
  simp_all[bI,bL]
  rw[a,p7];refine Ev.oI (λn=>fJ ..) ?_;refine Ev.all (l:=c.cW) 0 (λf=>decide (0<=f/\f<=(c.dA.length:Int)-1)) (λ_=>.ret () (J,())) (λ_ _ h=>by cases h) (λi e=>bI λn=>?_) (λn=>by simp(disch:=omega)only[bL]) (λa=>?_) (λi e a=>?_);simp(disch:=omega)only[bL,ec,v5];cases decide (0<=c.cW.getD i 0/\c.cW.getD i 0<=(c.dA.length:Int)-1)<;>simp(disch:=omega)only[bL,bX,ff,fe];rw[a,p7];refine Ev.oI (λn=>fJ ..) ?_;refine Ev.all (l:=c.dA) bM (vN c) (λ_=>.ret () (J,())) (λ_ _ h=>by cases h) (λi e=>bI λn=>?_) (λn=>by simp(disch:=omega)only[bL]) (λa=>?_) (λi e a=>?_);simp(disch:=omega)only[bL,ap5 hs];cases vN c (c.dA.getD i bM)<;>simp(disch:=omega)only[bL,bX,ff,fe];rw[a];exact cE;rw[a];exact cE;rw[a];exact cE;rw[a];exact cE
end
section
variable {c:aB}{dd:List ax}{w:aI}{mm:List (Int×aa)}{k:Nat}
def vB(c:aB)(k:Nat)(v:aQ):aa:=
 bif af v.Kind 1 then IB v.N (-1000000000) 1000000000 else bif af v.Kind 2 then IB v.N 0 1 else bif af v.Kind 3 then af v.N 0
 else bif af v.Kind 4 then IB v.N 0 (c.cW.length-1)else bif af v.Kind 5 then IB v.N 0 (k-1)else J
theorem Js{v:aQ}:vB c k v=W↔gz c k v:=by
 let ⟨a,b⟩:=v
 unfold vB gz
 grind[af,IB,rS]
def e63(n:Nat)(a lo hi:Int):F63 n (a,lo,hi,())=Z ((IB a lo hi,()),()):=by unfold F63 IB;by_cases h1:lo<=a<;>by_cases h2:a<=hi<;>simp[aj,br,h1,h2]
def apS(n:Nat)(a:c.cW.length<=1000)(b:w.bZ.length<=1000)(v:aQ):F171 n (⟨c,dd⟩,w,v,())=Z ((vB c w.bZ.length v,()),()):=by unfold F171 vB;simp(disch:=omega)only[bL,ec,e63];cases af v.Kind 1<;>cases af v.Kind 2<;>cases af v.Kind 3<;>cases af v.Kind 4<;>cases af v.Kind 5<;>rfl
def rgl(a:Int)(k:Nat):(aj (br 0 a) (Z ((aD a (k:Int),()),())) (Z ((J,()),())))=(Z ((IB a 0 (k-1),()),()):O ((aa×U)×U)):=by unfold IB;by_cases h1:0<=a<;>by_cases h2:a<k<;>simp[aj,br,aD,h1,h2]<;>omega
def rgi(a lo hi:Int):(aj (br lo a) (Z ((br a hi,()),())) (Z ((J,()),())))=(Z ((IB a lo hi,()),()):O ((aa×U)×U)):=by unfold IB;by_cases h1:lo<=a<;>by_cases h2:a<=hi<;>simp[aj,br,h1,h2]
theorem afu(n:Nat)(v:aQ):F245 n (⟨w,c,dd,mm⟩,v,())=Z ((vB c w.bZ.length v,()),()):=by
 unfold F245 vB;simp only[eW,rgl,rgi]
 grind[af,gK,aj,oh]
def PT(a:c.cW.length<=1000)(d:w.bZ.length<=1000){l:L aQ}(hl:l.length<=1000){m:Int}:ep (λn=>F118 n (⟨c,dd⟩,w,l,m,())) ((l.length:Int)=m/\∀v∈l,gz c w.bZ.length v):=by
 by_cases h:(l.length:Int)=m;subst h;refine aW.iff (P:=∀v∈l,gz c w.bZ.length v) ⟨λh=>⟨rfl,h⟩,λh=>h.2⟩ (aW.congr (λn=>show F118 n (⟨c,dd⟩,w,l,(l.length:Int),())=_ by unfold F118;exact lq (λb=>aj (ak b) _ _) (u9 rfl)) ?_);exact aW.KB (l:=l) aR (gz c w.bZ.length) (λn v=>F171 n (⟨c,dd⟩,w,v,())) (λ_=>.ret () (J,())) (λn c=>rfl) (by omega) (λ_ _ h=>by cases h) (λv _=>ep.of_eq (λn=>apS n a d v) Js) (λh=>aW.yes h cE) (λh i=>aW.no h cE);exact aW.no (λe=>h e.1) (bI λn=>by
  unfold F118;rw[show af (aq l) m=J from oh h];rfl)
structure Bd(c:aB)(dd:List ax)(w:aI):Prop where
 ok:Gy c dd
 cl:c.Cons.length<=1000
 wl:w.bZ.length<=1000
def Bd.fl(h:Bd c dd w):c.cW.length<=1000:=by have:=h.ok.fl;omega
def Bd.nl(h:Bd c dd w):c.dA.length<=1500:=h.ok.len.2
def Bd.dl(h:Bd c dd w):dd.length=c.dA.length:=h.ok.dep.len
def Gy.cok(h:Gy c dd):zn c:=⟨h.len,h.ins,h.pats,h.pl,h.o4,h.fl,h.main,h.cons⟩
theorem Ok.lo(h:Ok c dd)(f:zn c){n:Int}{d:ax}(g:Jo c n d):Lo d:=by
 induction g with
 |root _=>exact⟨rfl,by decide,by decide⟩
 | @next n d x i j k=>
  let ⟨a,b,e,r⟩:=h.Bb f.o4 i
  have:=h.ok n a b (by grind);rw[e]at this;exact(E3 f a b this.2.2 k j).2
theorem Bd.lo(h:Bd c dd w){n:Int}(a:0<=n)(h1:n<c.dA.length)(b:(eK dd n).Reached=W):Lo (eK dd n)/\(eK dd n).Stack<=60/\(eK dd n).Env<=30:=by have:=h.ok.dep.ok n a h1 b;exact⟨h.ok.dep.lo h.ok.cok (h.ok.dep.der n a h1 b),this.1,this.2.1⟩
def nO(l:L aJ)(last:aa)(i:Nat):Int:=if last=W/\i+1=l.length then 0 else 1
structure SmF(l:List aJ):Prop where
 len:l.length<=1000
 env:∀f∈l,f.Env.length<=1000
 stack:∀f∈l,f.Stack.length<=1000
def ajV(b:Bd c dd w){l:L aJ}(sm:SmF l){last:aa}:ep (λn=>F117 n (⟨c,dd⟩,w,l,last,())) ((1<=l.length/\l.length<=40)/\∀i,i<l.length->ej c dd w.bZ.length (nO l last i) (l.getD i aA)):=by
 have F:=sm.len;have I:=b.nl;have K:=b.dl;unfold F117 BV;refine aW.ifN (P:=1<=l.length/\l.length<=40) (ep.of_eq (λn=>e63 n _ _ _) (gK.trans (by simp[eW];omega))) (λh1=>?_) (λh1=>aW.no (λh=>h1 h.1) cE);refine aW.loop l.length (λi=>((i:Int),())) (λi=>ej c dd w.bZ.length (nO l last i) (l.getD i aA)) (λ_=>.ret () (J,())) (λ_ _ h=>by cases h) (λi k _=>?_) (λn=>by simp(disch:=omega) [bL]) (λh=>aW.yes ⟨h1,h⟩ cE) (λi k h=>aW.no (λz=>h (z.2 i k)) cE);have s:=sm.env _ (cN aA k);have t:=sm.stack _ (cN aA k);generalize A:l.getD i aA=f at s t;have q:aX l (au (i:Int)) aA=f:=A;unfold QO KZ BU;simp only[q];simp(disch:=omega)only[bL,e63,ec];cases h1:IB f.At 0 ((c.dA.length:Int)-1)with
 |false=>exact aW.no (λh=>by rw[gK.2 ⟨h.lo,by have:=h.hi;omega⟩]at h1;cases h1) cE
 |true=>
 have u:=gK.1 h1;have e:f.At<c.dA.length:=by omega
 simp(disch:=omega)only[bL];rw[show dd.getD f.At.toNat aT=eK dd f.At from rfl];cases h2:(eK dd f.At).Reached with
 |false=>exact aW.no (λh=>by have:=h.re;simp_all) cE
 |true=>
 let ⟨lo,B,C⟩:=b.lo u.1 e h2
 have E:=lo.s;have d:∀(a m:Int),m=(eK dd f.At).Stack-a->aW (λn=>ai (F118 n (⟨c,dd⟩,w,f.Env,(eK dd f.At).Env,())) λx=>aj x.1.1 (aj (aD m 0) (Z (X () (J,()))) (ai (F118 n (⟨c,dd⟩,w,f.Stack,m,())) λj=>aj j.1.1 (Z (N (aC .i64 (i:Int) 1,()))) (Z (X () (J,()))))) (Z (X () (J,()))))
   (ej c dd w.bZ.length a f) (N (((i+1:Nat):Int),()):LO (Int×U) (aa×U) U Any) (X () (J,())):=by
  intro a m v;refine aW.ifP (PT b.fl b.wl s) (λo=>?_) (λo=>aW.no (λh=>o ⟨h.el,h.env⟩) cE);refine aW.aj (λy=>aW.no (λh=>by have:=h.sl;have:=z5 y;omega) cE) (λy=>?_);refine aW.ifP (PT b.fl b.wl t) (λp=>aW.yes ⟨u.1,e,h2,o.1,o.2,by rw[p.1,v],p.2⟩ (bI λn=>?_)) (λp=>aW.no (λh=>p ⟨by rw[h.sl,v],h.stack⟩) cE);simp(disch:=omega) [bX,ff,fe]
 have g:bH .i64 (eK dd f.At).Stack 1=(eK dd f.At).Stack-1:=ec (by omega) (by omega);rw[g];cases last with|false=>rw[show nO l J i=1 from cm (by simp_all)];exact d 1 _ rfl|true=>by_cases r:i+1=l.length;rw[show nO l W i=0 from bO ⟨rfl,r⟩];rw[show aD (i:Int) ((l.length:Int)-1)=J from ahz (by omega)];exact d 0 _ (by omega);rw[show nO l W i=1 from cm (by omega)];rw[show aD (i:Int) ((l.length:Int)-1)=W from ahy (by omega)];exact d 1 _ rfl
end
section
variable {c:aB}{dd:List ax}{w:aI}{k:Nat}{s n fo:Int}{vs:List aQ}{fs:List aJ}
def Oa(c:aB)(dd:L ax)(k:Nat)(last:aa)(l:L aJ):Prop:=(1<=l.length/\l.length<=40)/\∀i,i<l.length->ej c dd k (nO l last i) (l.getD i aA)
def Ki(h:Oa c dd k J fs):∀f∈fs,ej c dd k 1 f:=eR (d:=aA) λi a=>by
 have:=h.2 i a
 simp_all[nO,cm]
theorem MK:l7 c dd k ⟨5,s,vs,fs⟩↔s=0/\vs=[]/\Oa c dd k J fs/\(fs.getD 0 aA).mE=W:=by
 constructor
 .intro h;cases h with
  |Uk a b d=>
   rename_i f l;refine⟨rfl,rfl,⟨⟨by simp,by grind⟩,λi g=>?_⟩,d⟩;rw[show nO (f::l) J i=1 from cm (by simp_all)]
   grind
 rintro⟨rfl,rfl,h,e⟩
 have h1:=h.1;have h2:=Ki h
 match fs,h1,h2,e with
 |f::l,h1,h2,e=>exact .Uk (by grind) h2 e
def M3:l7 c dd k ⟨6,0,vs,fs⟩↔vs=[]/\Oa c dd k W fs:=by
 constructor
 .intro h;generalize m:(0:Int)=s at h;cases h with
  |M4 a b d=>rename_i l f;refine⟨rfl,⟨by simp,by simp only[xu,EH];omega⟩,λi g=>?_⟩;simp only[xu,EH]at g;by_cases j:i=l.length;subst j;rw[show nO (l++[f]) W l.length=0 from bO ⟨rfl,by simp⟩,show(l++[f]).getD l.length aA=f by simp[oc]];exact d;rw[show nO (l++[f]) W i=1 from cm (by rintro⟨_,h⟩;simp at h;omega),show(l++[f]).getD i aA=l.getD i aA by simp[oc,Wf (show i<l.length by omega)]];exact b _ (cN aA (by omega))
  |done=>cases m
  |dead h=>omega
 rintro⟨rfl,h1,h2⟩
 have e:fs≠[]:=by rintro rfl;simp at h1
 rw[<-List.dropLast_concat_getLast e]at h1 h2 ⊢;generalize fs.dropLast=l at *
 generalize fs.getLast e=f at *
 simp only[xu,EH]at h1 h2;refine .M4 (by omega) (eR (d:=aA) λi g=>?_) ?_;have:=h2 i (by omega);rw[show nO (l++[f]) W i=1 from cm (by rintro⟨_,h⟩;simp at h;omega),show(l++[f]).getD i aA=l.getD i aA by simp[oc,Wf g]]at this;exact this;have:=h2 l.length (by omega);rw[show nO (l++[f]) W l.length=0 from bO ⟨rfl,by simp⟩,show(l++[f]).getD l.length aA=f by simp[oc]]at this;exact this
theorem Nz:l7 c dd k ⟨6,1,vs,fs⟩↔fs=[]/\(vs.length:Int)=1/\∀v∈vs,gz c k v:=by
 constructor
 .intro h;generalize a:(1:Int)=s at h;cases h with
  |M4=>cases a
  |done h=>simp_all|dead h=>omega
 .rintro ⟨rfl,b,d⟩
  match vs,b with
  |[v],_=>exact .done (d v (by simp))
  |[],h=>simp at h|_::_::_,h=>grind
theorem NB(b:s≠0)(h1:s≠1):l7 c dd k ⟨6,s,vs,fs⟩↔(2<=s/\s<=4)/\fs=[]/\vs=[]:=by
 constructor
 .intro h;cases h with|M4=>omega|done=>omega|dead h=>grind
 rintro⟨a,rfl,rfl⟩
 exact .dead (by omega)
def NC:l7 c dd k ⟨1,n,vs,fs⟩↔fs=[]/\(0<=n/\n<c.Cons.length)/\(vs.length:Int)=rq c n/\∀v∈vs,gz c k v:=by
 constructor
 .intro h;cases h with|data a b e f=>simp_all
 rintro⟨rfl,⟨a,b⟩,e,f⟩
 exact .data a b e f
def M6:l7 c dd k ⟨2,n,vs,fs⟩↔fs=[]/\ru c dd n/\(vs.length:Int)=(eK dd n).Env-1/\∀v∈vs,gz c k v:=by
 constructor
 .intro h;cases h with|func a e f=>simp_all
 rintro⟨rfl,a,e,f⟩
 exact .func a e f
theorem NH:l7 c dd k ⟨3,n,vs,fs⟩↔fs=[]/\n=0/\(vs.length:Int)=1/\∀v∈vs,gz c k v:=by
 constructor
 .intro h;cases h with|cell h=>simp_all
 rintro⟨rfl,rfl,b,d⟩
 match vs,b with
 |[v],_=>exact .cell (d v (by simp))
 |[],h=>simp at h|_::_::_,h=>grind
theorem NG:l7 c dd k ⟨4,n,vs,fs⟩↔fs=[]/\n=0/\(vs.length:Int)<=4/\∀v∈vs,gz c k v:=by
 constructor
 .intro h;cases h with|chan a b=>grind
 rintro⟨rfl,rfl,b,d⟩
 exact .chan (by omega) d
theorem WY(h5:fo≠5)(h6:fo≠6)(h:l7 c dd k ⟨fo,n,vs,fs⟩):fs=[]/\(fo=1\/fo=2\/fo=3\/fo=4):=by cases h with|data=>simp_all|func=>simp_all|cell=>simp_all|chan=>simp_all|Uk=>omega|M4=>omega|done=>omega|dead=>omega
theorem l7.VL{o:bK}(h:l7 c dd k o):∀v∈o.jH,gz c k v:=by cases h with|data _ _ _ h=>exact h|func _ _ h=>exact h|cell h=>simp_all|chan _ h=>exact h|Uk=>simp_all|M4=>simp_all|done h=>simp_all|dead=>simp_all
theorem ap2(b:Bd c dd w){x:Int}:ep (λn=>F119 n (⟨c,dd⟩,x,())) (ru c dd x):=by
 have g:=b.nl;have k:=b.dl;unfold F119;refine aW.loop c.dA.length (λi=>((i:Int),())) (λi=>¬((bC c (i:Int)).Op=6/\(eK dd (i:Int)).Reached=W/\(bC c (i:Int)).A=x)) (λ_=>.ret () (W,())) (λ_ _ h=>by cases h) (λi a _=>?_) (λn=>by simp(disch:=omega)only[bL]) (λh=>aW.no (λ⟨i,d,h1,h2⟩=>?_) cE) (λi a h=>aW.yes ⟨(i:Int),by omega,by omega,OS.1 h⟩ cE)
 .have e:c.dA.getD i bM=bC c (i:Int):=rfl;have f:dd.getD i aT=eK dd (i:Int):=rfl;simp(disch:=omega)only[bL,e,f];cases h1:af (bC c (i:Int)).Op 6 with
  |false=>exact aW.yes (λh=>by rw[u9 h.1]at h1;cases h1) (bI λn=>by simp(disch:=omega)only[bL,bX,ff,fe])
  |true=>
  cases h2:(eK dd (i:Int)).Reached with
  |false=>exact aW.yes (λh=>by cases h.2.1) (bI λn=>by simp(disch:=omega)only[bL,bX,ff,fe])
  |true=>
  cases h3:af (bC c (i:Int)).A x with|false=>exact aW.yes (λh=>by rw[u9 h.2.2]at h3;cases h3) (bI λn=>by simp(disch:=omega)only[bL,bX,ff,fe])|true=>exact aW.no (λh=>h ⟨kf.1 h1,rfl,kf.1 h3⟩) cE
 obtain⟨j,rfl⟩:∃j:Nat,i=j:=⟨_,(JN d).symm⟩
 grind
theorem IZ(b:Bd c dd w){x:Int}(h:ru c dd x):0<=x/\x<c.dA.length/\1<=(eK dd x).Env/\(eK dd x).Env<=31:=by
 obtain⟨i,a,h1,h2,h3,h4⟩:=h;obtain⟨lo,d,e⟩:=b.lo a h1 h3;have:=b.ok.dep.step i a h1 h3 (x,cg 0 ((eK dd i).Env+1)) (by simp[fV,h2,h4]);obtain⟨f,g,j⟩:=this;have k:=lo.e
 grind[cg]
structure SmO(o:bK):Prop where
 vals:o.jH.length<=1000
 frs:SmF o.Frames
theorem eI{α:Type}{l:L α}:af (l.length:Int) 0=W↔l=[]:=by grind[kf,List.eq_nil_of_length_eq_zero]
def e65(b:Bd c dd w){o:bK}(sm:SmO o):ep (λn=>F65 n (⟨c,dd⟩,w,o,())) (l7 c dd w.bZ.length o):=by
 have i:=b.cl;have j:=b.nl;have k:=b.dl;obtain⟨fo,s,vs,fs⟩:=o;obtain⟨e,f⟩:=sm;simp only at e f;have a:∀{P:Prop},¬P->ep (λn=>qK n) P:=λh=>aW.no h cE;unfold F65 Zk;by_cases h5:fo=5;subst h5;refine aW.iff MK.symm ?_;simp only[bL];refine aW.aj (λh1=>?_) (λh1=>a λh=>yR h1 h.1);refine aW.aj (λh2=>?_) (λh2=>a λh=>by rw[eI.2 h.2.1]at h2;cases h2);refine aW.ifP (ajV b f) (λh3=>?_) (λh3=>a λh=>h3 h.2.2.1);have:=h3.1;refine aW.aU (by simp[aL];omega) (ep.of_eq (λn=>rfl) ?_);exact⟨λh=>⟨kf.1 h1,eI.1 h2,h3,h⟩,λh=>h.2.2.2⟩;by_cases h6:fo=6;subst h6;simp(disch:=omega)only[bL];by_cases g:s=0;subst g;refine aW.iff M3.symm ?_;simp only[bL];refine aW.aj (λh2=>?_) (λh2=>a λh=>by rw[eI.2 h.1]at h2;cases h2);exact aW.iff ⟨λh=>⟨eI.1 h2,h⟩,λh=>h.2⟩ (ep.tail (ajV b f));by_cases h1:s=1;subst h1;refine aW.iff Nz.symm ?_;simp(disch:=omega)only[bL];refine aW.aj (λh2=>?_) (λh2=>a λh=>by rw[eI.2 h.1]at h2;cases h2);exact aW.iff ⟨λh=>⟨eI.1 h2,h⟩,λh=>h.2⟩ (ep.tail (PT b.fl b.wl e));refine aW.iff (NB g h1).symm ?_;simp(disch:=omega)only[bL,e63];refine aW.aj (λh2=>?_) (λh2=>a λh=>by rw[gK.2 h.1]at h2;cases h2);refine aW.aj (λh3=>?_) (λh3=>a λh=>by rw[eI.2 h.2.1]at h3;cases h3);exact ep.of_eq (λn=>rfl) (eI.trans ⟨λh=>⟨gK.1 h2,eI.1 h3,h⟩,λh=>h.2.2⟩)
 simp(disch:=omega)only[bL];by_cases d:fs=[];rotate_left;have:¬fs.length=0:=λh=>d (Da h);simp(disch:=omega)only[bL];exact a λh=>d (WY h5 h6 h).1;subst d;simp(disch:=omega)only[bL,List.length_nil,Int.natCast_zero];by_cases h1:fo=1;subst h1;refine aW.iff NC.symm ?_;simp(disch:=omega)only[bL,e63,ec];refine aW.aj (λh1=>?_) (λh1=>a λh=>by rw[gK.2 ⟨h.2.1.1,by omega⟩]at h1;cases h1);have l:=gK.1 h1;refine aW.aU (by simp[aL];omega) ?_;exact aW.iff ⟨λh=>⟨trivial,by omega,h⟩,λh=>h.2.2⟩ (ep.tail (PT b.fl b.wl e));by_cases h2:fo=2;subst h2;refine aW.iff M6.symm ?_;simp(disch:=omega)only[bL];refine aW.ifP (ap2 b) (λh1=>?_) (λh1=>a λh=>h1 h.2.1);obtain⟨m,p,q,r⟩:=IZ b h1;refine aW.aU (by simp[aL];omega) ?_;refine aW.iff ⟨λh=>⟨trivial,h1,h⟩,λh=>h.2.2⟩ (ep.tail (aW.congr (λn=>?_) (PT (dd:=dd) b.fl b.wl e)));rw[show dd.getD s.toNat aT=eK dd s from rfl,ec (by omega) (by omega)];by_cases h3:fo=3;subst h3;refine aW.iff NH.symm ?_;simp(disch:=omega)only[bL];refine aW.aj (λh1=>?_) (λh1=>a λh=>yR h1 h.2.1);exact aW.iff ⟨λh=>⟨trivial,kf.1 h1,h⟩,λh=>h.2.2⟩ (ep.tail (PT b.fl b.wl e));by_cases h4:fo=4;subst h4;refine aW.iff NG.symm ?_;simp(disch:=omega)only[bL];refine aW.aj (λh1=>?_) (λh1=>a λh=>yR h1 h.2.1);refine aW.aj (λh2=>?_) (λh2=>a λh=>absurd h.2.2.1 (by have:=z7 h2;omega))
 exact aW.iff ⟨λh=>⟨trivial,kf.1 h1,z6 h2,h.2⟩,λh=>⟨rfl,h.2.2.2⟩⟩ (ep.tail (PT b.fl b.wl e));simp(disch:=omega)only[bL];exact a λh=>by have:=(WY h5 h6 h).2;omega
end
theorem zy:∀{T S:L Int},T.Nodup->(∀x∈T,x∈S)->T.length<=S.length
 |[],_,_,_=>Hp _|t::T,S,a,h=>by
  have a:=JL.1 a;have h1:=zy (S:=S.erase t) a.2 (λx b=>(List.mem_erase_of_ne (λe=>a.1 (by simp_all))).2 (h x (hJ _ b)))
  grind
theorem MC{l:L Int}:l.Nodup↔∀i,i<l.length->(l.take i).contains (l.getD i 0)=J:=by
 rw[List.Nodup,TS];constructor
 grind[List.contains_iff_mem,List.getElem_of_mem,List.length_take,List.getElem?_eq_getElem,absurd]
 intro h i j c a b e;have:=h j a;rw[oc,iu a,OR,<-e]at this;have d:l[i]∈l.take j:=List.mem_take_iff_getElem.2 ⟨i,by omega,rfl⟩
 simp_all
section
variable {w:aI}
structure Dm(w:aI):Prop where
 PV:w.bN.Nodup
 task:∀t∈w.bN,0<=t/\t<w.bZ.length/\(gf w t).Form=6
 all:∀i:Nat,i<w.bZ.length->(gf w i).Form=6->(i:Int)∈w.bN
def AW(w:aI):L Int:=((List.range w.bZ.length).filter λi:Nat=>af (gf w i).Form 6).map λi:Nat=>(i:Int)
theorem qn{x:Int}:x∈AW w↔0<=x/\x<w.bZ.length/\(gf w x).Form=6:=by
 unfold AW;simp only[tJ,List.mem_filter,List.mem_range,kf];constructor
 grind
 rintro⟨h1,h2,h3⟩
 obtain⟨i,rfl⟩:∃i:Nat,x=i:=⟨_,(JN h1).symm⟩
 grind
theorem Ed:(AW w).Nodup:=by
 grind[AW,List.nodup_range]
theorem VR:(AW w).length=w.bZ.countP λo=>af o.Form 6:=by
 unfold AW;rw[rM,<-List.countP_eq_length_filter];have e:w.bZ=(List.range w.bZ.length).map λi:Nat=>gf w (i:Int):=by
  apply List.ext_getElem;simp
  grind[h1,h2,gf,List.getElem?_eq_getElem]
 conv=>rhs;rw[e,List.countP_map]
 rfl
theorem Dm.len(h:Dm w):w.bN.length=(AW w).length:=Nat.le_antisymm (zy h.PV λx a=>qn.2 (h.task x a)) (zy Ed λx a=>by
 obtain⟨h1,h2,h3⟩:=qn.1 a;obtain⟨i,rfl⟩:∃i:Nat,x=i:=⟨_,(JN h1).symm⟩;exact h.all i (by omega) h3)
theorem Dm.aej(h1:w.bN.Nodup)(h2:∀t∈w.bN,0<=t/\t<w.bZ.length/\(gf w t).Form=6)(h3:w.bN.length=(AW w).length):Dm w:=by
 refine⟨h1,h2,λi c d=>We λb=>?_⟩;have:=zy (T:=(i:Int)::w.bN) (S:=AW w) (JL.2 ⟨b,h1⟩) (λx a=>by
  obtain rfl|a:=fF.1 a
  grind[qn]
  exact qn.2 (h2 x a))
 grind
theorem Dm.tl(h:Dm w):w.bN.length<=w.bZ.length:=by
 rw[h.len]
 grind[AW,List.length_map,Nat.le_trans,List.length_filter_le]
def VO(w:aI)(i:Nat):aa:=IB (w.bN.getD i 0) 0 (w.bZ.length-1)&&(af (gf w (w.bN.getD i 0)).Form 6&&!(w.bN.take i).contains (w.bN.getD i 0))
theorem zq:(∀i,i<w.bN.length->VO w i=W)↔w.bN.Nodup/\∀t∈w.bN,0<=t/\t<w.bZ.length/\(gf w t).Form=6:=by
 rw[MC];unfold VO;simp only[eM,gK,kf,Mb];constructor;intro h;exact⟨λi a=>(h i a).2.2,eR (d:=0) λi a=>⟨(h i a).1.1,by grind,(h i a).2.1⟩⟩
 grind
def ajW{l:L Int}{x:Int}(hl:l.length<=1000):Ev (λn=>F116 n (l,x,())) ((l.contains x,()),()):=by
 unfold F116;refine Ev.all (l:=l) 0 (λa=>!(af a x)) (λ_=>.ret () (W,())) (λ_ _ h=>by cases h) (λi d=>bI λn=>?_) (λn=>by simp(disch:=omega)only[bL]) (λb=>?_) (λi d b=>?_);simp(disch:=omega)only[bL];cases af (l.getD i 0) x<;>simp(disch:=omega)only[bL,bX,ff,fe,JJ,Ma];rw[show l.contains x=J from ?_];exact cE
 .cases c:l.contains x with|false=>rfl|true=>have:=j5.1 b x (JO.1 c);rw[u9 rfl]at this;cases this
 rw[show l.contains x=W from ?_];exact cE;rw[List.all_eq_false]at b;obtain⟨a,e,h⟩:=b;rw[JO];have:af a x=W:=by cases c:af a x with|true=>rfl|false=>rw[c]at h;exact absurd rfl h
 rw[<-kf.1 this];exact e
theorem e64(q:w.bZ.length<=1000)(r:w.bN.length<=1000):∃b,Ev (λn=>F64 n (w,())) ((b,()),())/\(b=W↔Dm w):=by
 have a:∀i,i<w.bZ.length->(w.bZ.take (i+1)).countP (λo=>af o.Form 6)=(w.bZ.take i).countP (λo=>af o.Form 6)+(bif af (w.bZ.getD i bA).Form 6 then 1 else 0):=by intro i d;rw[acS d,List.countP_append,List.countP_singleton];rw[oc,iu d,OR,Bool.cond_eq_ite]
 have run:=gD (F:=λn(c:Int×Int×U)=>aj (aD c.2.1 (aq w.bZ)) (aU (aL c.2.1 w.bZ) (aj (af (aX w.bZ (au c.2.1) bA).Form 6) (Z (N (R:=aa×U) (B:=U) (P:=Any) (aC .i64 c.1 1,aC .i64 c.2.1 1,()))) (Z (N (c.1,aC .i64 c.2.1 1,()))))) (Z (H 0 c)))
  w.bZ.length (λi=>((((w.bZ.take i).countP λo=>af o.Form 6:Nat):Int),(i:Int),())) 0 (λi d=>bI λn=>by
   have h1:=List.countP_le_length (p:=λo:bK=>af o.Form 6) (l:=w.bZ.take i);rw[xq]at h1;simp only[a i d];cases m:af (w.bZ.getD i bA).Form 6<;>simp(disch:=omega)only[bL,m,bX,ff,fe,Int.natCast_zero,EI,Nat.add_zero]) (bI λn=>by simp(disch:=omega)only[bL])
 simp only[List.take_zero,List.countP_nil,tL,<-VR]at run;by_cases f:w.bN.length=(AW w).length;have g:∀{b:aa},(b=W↔∀i,i<w.bN.length->VO w i=W)->(b=W↔Dm w):=λ{b}h=>h.trans ⟨λh=>Dm.aej (zq.1 h).1 (zq.1 h).2 f,λh=>zq.2 ⟨h.PV,h.task⟩⟩;have step:∀b:aa,((∀i,i<w.bN.length->VO w i=W)->b=W)->((∃i,i<w.bN.length/\VO w i=J)->b=J)->Ev (λn=>F64 n (w,())) ((b,()),()):=by
  intro b j k;unfold F64;refine Ev.bh run (λn c=>_) _ (Ev.oI (λn=>fJ ..) ?_);rw[<-f];simp only[bL];refine Ev.allI w.bN.length (λi=>((i:Int),())) (VO w) (λ_=>.ret () (J,())) (λ_ _ h=>by cases h) (λi d _=>?_) (λn=>by simp(disch:=omega)only[bL]) (λe=>?_) (λi d e=>?_)
  .unfold VO Oe;simp(disch:=omega)only[bL,e63,ec];cases h1:IB (w.bN.getD i 0) 0 ((w.bZ.length:Int)-1)with
   |false=>simp_all[bL,oN,Ev.pure]|true=>
    have s:=gK.1 h1;simp(disch:=omega)only[bL,p7];rw[show w.bZ.getD (w.bN.getD i 0).toNat bA=gf w (w.bN.getD i 0)from rfl];cases af (gf w (w.bN.getD i 0)).Form 6 with|false=>simp_all[bL,oN,Ev.pure]|true=>simp only[bL,p7,Ju];refine Ev.ai (ajW (by grind)) (bI λn=>?_);cases(w.bN.take i).contains (w.bN.getD i 0)<;>simp(disch:=omega)only[bL,bX,ff,fe,JJ,Ma]
  rw[j e];exact cE;rw[k ⟨i,d,e⟩];exact cE
 by_cases e:∀i,i<w.bN.length->VO w i=W
 simp_all
 exact⟨J,step J (λh=>absurd h e) (λ_=>rfl),g ⟨(λh=>by cases h),λh=>absurd h e⟩⟩;unfold F64;refine⟨J,Ev.bh run (λn c=>_) _ (bI λn=>?_),(λh=>by cases h),λh=>absurd h.len f⟩;rw[fJ];simp(disch:=omega)only[bL]
end
section
variable {w:aI}{c:aB}{dd:List ax}{mm:List (Int×aa)}
abbrev VA(x:Int)(l:L (Int×aa)):aa:=AQ (A:=sg.A) (Ty.int .i64) J x l
abbrev Pg(x:Int)(l:L (Int×aa)):L (Int×aa):=gY (A:=sg.A) (Ty.int .i64) x W l
abbrev ajX(x:Int)(l:L (Int×aa)):L (Int×aa):=Kp (A:=sg.A) (Ty.int .i64) x l
def Xc(x k:Int):∀l:L (Int×aa),VA x (Pg k l)=(af x k||VA x l)
 |[]=>by show(bif af x k then W else J)=(af x k||J);cases af x k<;>rfl
 |q::l=>by
  have a:=Xc x k l;show VA x (bif af k q.1 then(k,W)::l else q::Pg k l)=(af x k||(bif af x q.1 then q.2 else VA x l));cases h1:af k q.1 with
  |true=>have h1:=kf.1 h1;show(bif af x k then W else VA x l)=_;rw[<-h1];cases af x k<;>rfl
  |false=>
   show(bif af x q.1 then q.2 else VA x (Pg k l))=_;rw[a];cases h2:af x q.1 with|false=>rfl|true=>rw[kf.1 h2,show af q.1 k=J from oh λe=>by rw[e,u9 rfl]at h1;cases h1];rfl
def tg(l:L Int):L (Int×aa):=l.map λx=>(x,W)
def acZ(x:Int):∀l,VA x (tg l)=l.contains x
 |[]=>rfl|a::l=>by show(bif af x a then W else VA x (tg l))=_;rw[acZ x l,List.contains_cons];rfl
def Xv{x:Int}:∀{l:L Int},x∉l->Pg x (tg l)=tg (l++[x])
 |[],_=>rfl|a::l,h=>by have h1:x≠a:=λe=>h (by simp_all);show(bif af x a then(x,W)::tg l else(a,W)::Pg x (tg l))=_;rw[oh h1,gJ,Xv λb=>h (hJ _ b)];rfl
theorem Ym{x:Int}:∀{l:L Int},ajX x (tg l)=tg (l.erase x)
 |[]=>rfl|a::l=>by show(bif af x a then tg l else(a,W)::ajX x (tg l))=_;rw[Ym,List.erase_cons];by_cases h:x=a;rw[u9 h,bO (by simp[h])];rfl;rw[oh h,cm (by grind)];rfl
def zw(w:aI)(i:Nat):L Int:=((List.range i).filter λi:Nat=>af (gf w i).Form 6).map λi:Nat=>(i:Int)
def Ow(i:Nat):zw w (i+1)=bif af (gf w (i:Int)).Form 6 then zw w i++[(i:Int)]else zw w i:=by unfold zw;rw[List.range_succ,List.filter_append];cases h:af (gf w (i:Int)).Form 6<;>simp[h]
theorem Tl{i:Nat}{x:Int}(h:x∈zw w i):x<i:=by
 unfold zw at h
 grind
def oE(w:aI):Nat->L Int
 |0=>AW w|i+1=>(oE w i).erase (w.bN.getD i 0)
def Cf:∀i,(oE w i).Nodup
 |0=>Ed|i+1=>(Cf i).erase _
theorem wU{x:Int}:∀i,i<=w.bN.length->(x∈oE w i↔x∈AW w/\x∉w.bN.take i)
 |0,_=>by simp[oE]
 |i+1,h=>by
  have a:=wU (x:=x) i (by omega);show x∈(oE w i).erase _↔_;rw[(Cf i).mem_erase_iff,a,acS (by omega),oc,iu (by omega),OR]
  grind
theorem Lz{i:Nat}(h:i<w.bN.length):VO w i=W↔w.bN.getD i 0∈oE w i:=by
 rw[wU i (by omega),qn];unfold VO;simp only[eM,gK,kf,Mb]
 grind
theorem apU(s:w.bZ.length<=1000)(t:w.bN.length<=1000):ep (λn=>F167 n (⟨w,c,dd,mm⟩,())) (Dm w):=by
 refine aW.aqd (Ev.iter (F:=λn c=>_) (gD w.bZ.length (λi=>((i:Int),tg (zw w i),())) 0 (λi f=>bI λn=>?_) (bI λn=>by simp(disch:=omega)only[bL]))) ?_
 .have k:aX w.bZ (au (i:Int)) bA=gf w (i:Int):=rfl;rw[Ow];simp only[k];cases h1:af (gf w (i:Int)).Form 6 with
  |false=>simp(disch:=omega)only[bL,h1,bX,ff,fe]|true=>
   have f:gY (A:=sg.A) (Ty.int .i64) (i:Int) W (tg (zw w i))=tg (zw w i++[(i:Int)]):=Xv λh=>by have:=Tl h;omega
   simp(disch:=omega)only[bL,h1,f,bX,ff,fe]
 refine aW.congr (λn=>fJ ..) ?_;refine aW.loop w.bN.length (λi=>((i:Int),tg (oE w i),())) (λi=>VO w i=W) (λi=>.ret (tg (oE w i),()) (J,())) (λ_ _ h=>by cases h) (λi f _=>?_) (λn=>by simp(disch:=omega)only[bL]) (λh=>?_) (λi f h=>aW.no (λg=>h (zq.2 ⟨g.PV,g.task⟩ i f)) cE)
 .have l:AQ (A:=sg.A) (Ty.int .i64) J (w.bN.getD i 0) (tg (oE w i))=(oE w i).contains (w.bN.getD i 0):=acZ _ _;have m:Kp (A:=sg.A) (Ty.int .i64) (w.bN.getD i 0) (tg (oE w i))=tg (oE w (i+1)):=Ym;simp(disch:=omega)only[bL,l,m,bX,ff,fe];cases h:(oE w i).contains (w.bN.getD i 0)with|true=>exact aW.yes ((Lz f).2 (JO.1 h)) cE|false=>exact aW.no (λg=>by grind[List.contains_iff_mem,Lz]) cE
 obtain⟨o,p⟩:=zq.1 h;refine ep.of_eq (λn=>rfl) ?_;rw[kf];have e:aq (tg (oE w w.bN.length))=((oE w w.bN.length).length:Int):=by unfold tg aq;rw[rM]
 rw[e];constructor;intro j;refine⟨o,p,λi f q=>We λu=>?_⟩;have:=(wU (w:=w) (x:=(i:Int)) w.bN.length (cM _)).2 ⟨qn.2 ⟨by omega,by omega,q⟩,by simp_all⟩
 simp_all
 intro j;have:oE w w.bN.length=[]:=by rw[List.eq_nil_iff_forall_not_mem];intro x r;have:=(wU (w:=w) (x:=x) w.bN.length (cM _)).1 r;rw[tL]at this;obtain⟨a,b,d⟩:=qn.1 this.1;obtain⟨i,rfl⟩:∃i:Nat,x=i:=⟨_,(JN a).symm⟩;exact this.2 (j.all i (by omega) d)
 rw[this];rfl
end
section
variable {c:aB}{dd:List ax}{w:aI}{mm:List (Int×aa)}{k:Nat}{s n fo:Int}{vs:List aQ}{fs:List aJ}
variable {b:aa}{f:aJ}
def bnT(h:ak b=W):b=J:=by cases b<;>first|rfl|cases h
def bnF(h:ak b=J):b=W:=by cases b<;>first|rfl|cases h
def IA{α:Type}{l:L α}{i:Int}(a:0<=i)(h1:i<l.length):aL i l=W:=by simp[aL];omega
def Sx{X B P α:Type}(i:Nat)(b:B)(f:Nat->X->O α)(u v:O α)(h:B->P->O α):bq (.ret b ((i:Int),())) f (λ_(q:Int×U)=>aj (ak (br 0 q.1)) u v) h=v:=by rfl
theorem ajQ(b:Bd c dd w){f:aJ}(p:f.Env.length<=1000)(hs:f.Stack.length<=1000){a:Int}(hl:0<=a/\a<=1):ep (λn=>F296 n (⟨w,c,dd,mm⟩,f,a,())) (ej c dd w.bZ.length a f):=by
 have g:=b.dl;have e:∀{P:Prop},¬P->ep (λn=>wI n) P:=λh=>aW.no h cE;unfold F296;refine aW.aj (λh=>e λd=>by have:=d.lo;have:=z5 h;grind) (λh1=>?_);refine aW.aj (λh=>e λd=>by have:=d.hi;have:=z6 h;simp only[eW]at this;omega) (λh2=>?_);have h1:0<=f.At:=Bp h1;have h2:f.At<dd.length:=z7 h2;refine aW.aU (IA h1 h2) ?_;refine aW.aj (λh=>e λd=>by have:=d.re;rw[show(eK dd f.At).Reached=J from bnT h]at this;cases this) (λh3=>?_);have h3:(eK dd f.At).Reached=W:=bnF h3;obtain⟨lo,j,k⟩:=b.lo h1 (by omega) h3;have m:=lo.s;refine aW.aU (IA h1 h2) ?_;refine aW.aj (λh4=>?_) (λh=>e λd=>yR h d.el);refine aW.aj (λh5=>?_) (λh=>e λd=>yR h (d.sl.trans (ec (show -9223372036854775808<=(eK dd f.At).Stack-a by omega) (show(eK dd f.At).Stack-a<=9223372036854775807 by omega)).symm));have h4:(f.Env.length:Int)=(eK dd f.At).Env:=kf.1 h4;have h5:(f.Stack.length:Int)=(eK dd f.At).Stack-a:=(kf.1 h5).trans (ec (show -9223372036854775808<=(eK dd f.At).Stack-a by omega) (show(eK dd f.At).Stack-a<=9223372036854775807 by omega));refine aW.KB (l:=f.Env) aR (gz c w.bZ.length) (λn v=>F245 n (⟨w,c,dd,mm⟩,v,())) (λx=>.ret () x) (λn c=>rfl) (by omega) yB (λv _=>ep.of_eq (λn=>afu n v) Js) (λh6=>?_) (λh i=>aW.no (λd=>h d.env) (bI λn=>?_));show ep (λn=>KL n (⟨w,c,dd,mm⟩,f,a,())) _
 unfold KL;refine aW.KB (l:=f.Stack) aR (gz c w.bZ.length) (λn v=>F245 n (⟨w,c,dd,mm⟩,v,())) (λx=>.ret () x) (λn c=>rfl) (by omega) yB (λv _=>ep.of_eq (λn=>afu n v) Js) (λo=>aW.yes ⟨h1,by omega,h3,h4,h6,h5,o⟩ cE) (λh i=>aW.no (λd=>h d.stack) (bI λn=>?_));show Z ((ak (br 0 (i:Int)),()),())=_;rw[aht];rfl
def ajR(b:Bd c dd w)(a:f.Env.length<=1000)(hs:f.Stack.length<=1000):ep (λn=>F247 n (⟨w,c,dd,mm⟩,f,())) (ej c dd w.bZ.length 1 f):=by
 simp_all[F247,ep.tail,ajQ]
def apI(b:Bd c dd w)(a:f.Env.length<=1000)(hs:f.Stack.length<=1000):ep (λn=>F297 n (⟨w,c,dd,mm⟩,f,())) (ej c dd w.bZ.length 0 f):=by
 simp_all[F297,ep.tail,ajQ]
def IJ{α:Type}{l:L α}{k i:Nat}{d:α}(h:i<k):(l.take k).getD i d=l.getD i d:=by
 simp_all
def M7:Oa c dd k W fs↔(1<=fs.length/\fs.length<=40)/\(∀f∈fs.take (fs.length-1),ej c dd k 1 f)/\ej c dd k 0 (fs.getD (fs.length-1) aA):=by
 constructor;intro h;have a:=h.1;refine⟨a,eR (d:=aA) λi e=>?_,?_⟩;rw[xq]at e;have:=h.2 i (by omega);rw[show nO fs W i=1 from cm (by rintro⟨_,h⟩;omega)]at this;rw[IJ (by omega)];exact this;have:=h.2 (fs.length-1) (by omega);rw[show nO fs W (fs.length-1)=0 from bO ⟨rfl,by omega⟩]at this;exact this
 rintro⟨a,h1,h2⟩
 refine⟨a,λi e=>?_⟩;by_cases b:i=fs.length-1;rw[b,show nO fs W (fs.length-1)=0 from bO ⟨rfl,by omega⟩];exact h2;rw[show nO fs W i=1 from cm (by rintro⟨_,h⟩;omega)];have:=h1 _ (cN aA (show i<(fs.take (fs.length-1)).length by rw[xq];omega));rw[IJ (by omega)]at this;exact this
def abP:Oa c dd k J fs↔(1<=fs.length/\fs.length<=40)/\∀f∈fs,ej c dd k 1 f:=by
 constructor;intro h;exact⟨h.1,Ki h⟩
 rintro⟨h1,h2⟩
 refine⟨h1,λi a=>?_⟩
 simp_all[nO,cm,cN,aA]
def apM(b:Bd c dd w)(p:vs.length<=1000)(hf:SmF fs)(e:∀v∈vs,gz c w.bZ.length v):ep (λn=>F248 n (⟨w,c,dd,mm⟩,⟨6,s,vs,fs⟩,())) (l7 c dd w.bZ.length ⟨6,s,vs,fs⟩):=by
 have q:=hf.len;have a:∀{P:Prop},¬P->ep (λn=>se n) P:=λh=>aW.no h cE;unfold F248 QL ze;simp only;by_cases g:s=0;subst g;refine aW.iff M3.symm ?_;refine aW.aj (λ_=>?_) (λh=>absurd rfl (yR h));simp only[eW];refine aW.aj (λh1=>?_) (λh1=>a λh=>by rw[eI.2 h.1]at h1;cases h1);refine aW.aj (λh2=>?_) (λh2=>a λh=>by have:=z7 h2;have:=h.2.1;omega);refine aW.aj (λh3=>?_) (λh3=>a λh=>by have:=z7 h3;have:=h.2.1;omega);have h2:=z6 h2;have h3:=z6 h3;have j:bH .i64 (fs.length:Int) 1=((fs.length-1:Nat):Int):=by rw[ec (by omega) (by omega)];omega
 have d:fX 0 ((fs.length-1:Nat):Int) (fs.length:Int)=W:=by simp[fX]<;>omega
 simp only[j,d,Ju,RD];refine aW.aU rfl ?_;refine aW.iff (P:=(∀f∈fs.take (fs.length-1),ej c dd w.bZ.length 1 f)/\ej c dd w.bZ.length 0 (fs.getD (fs.length-1) aA)) ⟨λh=>⟨eI.1 h1,M7.2 ⟨⟨by omega,by omega⟩,h⟩⟩,λh=>(M7.1 h.2).2⟩ ?_;refine aW.KB (l:=fs.take (fs.length-1)) aA (ej c dd w.bZ.length 1) (λn f=>F247 n (⟨w,c,dd,mm⟩,f,())) (λx=>.ret () x) (λn c=>rfl) (by rw[xq];omega) yB (λf k=>ajR b (hf.env f (Wa k)) (hf.stack f (Wa k))) (λh4=>?_) (λh i=>aW.congr (λn=>Sx i () _ _ _ _) (a λo=>h o.1));refine aW.iff (P:=ej c dd w.bZ.length 0 (fs.getD (fs.length-1) aA)) ⟨λh=>⟨h4,h⟩,λh=>h.2⟩ ?_;have m:fs.length-1<fs.length:=by omega
 refine aW.aU (IA (by omega) (by omega)) ?_;exact ep.tail (apI b (hf.env _ (cN aA m)) (hf.stack _ (cN aA m)));by_cases h1:s=1;subst h1;refine aW.iff Nz.symm ?_;simp(disch:=omega)only[bL];refine aW.aj (λh2=>?_) (λh2=>a λh=>yR h2 h.2.1);exact ep.of_eq (λn=>rfl) (eI.trans ⟨λh=>⟨h,kf.1 h2,e⟩,λh=>h.1⟩);refine aW.iff (NB g h1).symm ?_;have key:2<=s/\s<=4->ep (λn=>aj (af (aq vs) 0) (Z ((af (aq fs) 0,()),())) (se n)) ((2<=s/\s<=4)/\fs=[]/\vs=[]):=λj=>
  aW.aj (λh2=>ep.of_eq (λn=>rfl) (eI.trans ⟨λh=>⟨j,h,eI.1 h2⟩,λh=>h.2.1⟩)) (λh2=>a λh=>by rw[show af (aq vs) 0=W from eI.2 h.2.2]at h2;cases h2)
 simp only[oh g,oh h1,HX];by_cases h2:s=2;subst h2;exact aW.congr (λn=>rfl) (key (by omega));by_cases h3:s=3;subst h3;exact aW.congr (λn=>rfl) (key (by omega));by_cases h4:s=4;subst h4;exact aW.congr (λn=>rfl) (key (by omega));simp only[oh h2,oh h3,oh h4,HX];exact a λh=>by omega
theorem apV(b:Bd c dd w){o:bK}(sm:SmO o)(k:∀x,VA x mm=W↔ru c dd x):ep (λn=>F166 n (⟨w,c,dd,mm⟩,o,())) (l7 c dd w.bZ.length o):=by
 have y:=b.cl;have z:=b.nl;have A:=b.dl;have a:∀{P:Prop},¬P->ep (λn=>iT n) P:=λh=>aW.no h cE;obtain⟨fo,s,vs,fs⟩:=o;obtain⟨t,m⟩:=sm;simp only at t m;unfold F166;refine aW.KB (l:=vs) aR (gz c w.bZ.length) (λn v=>F245 n (⟨w,c,dd,mm⟩,v,())) (λx=>.ret () x) (λn c=>rfl) (by omega) yB (λv _=>ep.of_eq (λn=>afu n v) Js) (λg=>?_) (λh i=>aW.congr (G:=λn=>iT n) (λn=>apA i () _ _ _ _) (a λp=>h p.VL));show ep (λn=>KV n (⟨w,c,dd,mm⟩,⟨fo,s,vs,fs⟩,())) _;unfold KV QN;simp only;by_cases h1:fo=1;subst h1;refine aW.iff NC.symm ?_;refine aW.aj (λ_=>?_) (λh=>absurd rfl (yR h));refine aW.aj (λe=>?_) (λe=>a λh=>by grind[af,aq,eI]);refine aW.aj (λd=>?_) (λd=>a λh=>by have:=h.2.1.1;have:=z7 d;omega);refine aW.aj (λj=>?_) (λj=>a λh=>by have:=h.2.1.2;have:=Bp j;simp only[eW]at this;omega);have d:=z6 d;have j:=z5 j;simp only[eW]at j;refine aW.aU (IA d j) (ep.of_eq (λn=>rfl) ?_);rw[kf];exact⟨λh=>⟨eI.1 e,⟨d,j⟩,h,g⟩,λh=>h.2.2.1⟩;by_cases h2:fo=2;subst h2;refine aW.iff M6.symm ?_;refine aW.aj (λh=>absurd (kf.1 h) (by decide)) (λ_=>?_);refine aW.aj (λ_=>?_) (λh=>absurd rfl (yR h));refine aW.aj (λe=>?_) (λe=>a λh=>by grind[af,aq,eI]);refine aW.aj (λd=>?_) (λd=>a λh=>by grind)
 have d:ru c dd s:=(k s).1 d;obtain⟨B,E,F,I⟩:=IZ b d;refine aW.aU (IA B (by omega)) (ep.of_eq (λn=>rfl) ?_);rw[kf,show aX dd (au s) aT=eK dd s from rfl,ec (by omega) (by omega)];exact⟨λh=>⟨eI.1 e,d,h,g⟩,λh=>h.2.2.1⟩;by_cases h3:fo=3;subst h3;refine aW.iff NH.symm ?_;refine aW.aj (λh=>absurd (kf.1 h) (by decide)) (λ_=>?_);refine aW.aj (λh=>absurd (kf.1 h) (by decide)) (λ_=>?_);refine aW.aj (λ_=>?_) (λh=>absurd rfl (yR h));refine aW.aj (λe=>?_) (λe=>a λh=>by grind[af,aq,eI]);refine aW.aj (λd=>?_) (λd=>a λh=>yR d h.2.1);exact ep.of_eq (λn=>rfl) (kf.trans ⟨λh=>⟨eI.1 e,kf.1 d,h,g⟩,λh=>h.2.2.1⟩);by_cases h4:fo=4;subst h4;refine aW.iff NG.symm ?_;(iterate 3 refine aW.aj (λh=>absurd (kf.1 h) (by decide)) (λ_=>?_));refine aW.aj (λ_=>?_) (λh=>absurd rfl (yR h));refine aW.aj (λe=>?_) (λe=>a λh=>by grind[af,aq,eI]);refine aW.aj (λd=>?_) (λd=>a λh=>yR d h.2.1);refine ep.of_eq (λn=>rfl) ?_;exact⟨λh=>⟨eI.1 e,kf.1 d,z6 h,g⟩,λh=>ahF h.2.2.1⟩;simp only[oh h1,oh h2,oh h3,oh h4,HX];by_cases h5:fo=5;subst h5;refine aW.iff MK.symm ?_;refine aW.aj (λ_=>?_) (λh=>absurd rfl (yR h))
 refine aW.aj (λe=>?_) (λe=>a λh=>by have:=h.2.2.1.1.1;have:=z7 e;simp only[eW]at this;omega);refine aW.aj (λd=>?_) (λd=>a λh=>by have:=h.2.2.1.1.2;have:=z7 d;simp only[eW]at this;omega);refine aW.aj (λj=>?_) (λj=>a λh=>yR j h.1);refine aW.aj (λu=>?_) (λu=>a λh=>by grind[af,aq,eI]);have e:=z6 e;have d:=z6 d;simp only[eW]at e d;have q:1<=fs.length:=by omega
 have r:fs.length<=40:=by omega
 refine aW.KB (l:=fs) aA (ej c dd w.bZ.length 1) (λn f=>F247 n (⟨w,c,dd,mm⟩,f,())) (λx=>.ret () x) (λn c=>rfl) (by omega) yB (λf k=>ajR b (m.env f k) (m.stack f k)) (λC=>?_) (λh i=>aW.congr (λn=>Sx i () _ _ _ _) (a λp=>h (Ki p.2.2.1)));refine aW.aU (IA (by omega) (by omega)) (ep.of_eq (λn=>rfl) ?_);exact⟨λh=>⟨kf.1 j,eI.1 u,abP.2 ⟨⟨q,r⟩,C⟩,h⟩,λh=>h.2.2.2⟩;simp only[oh h5,HX];by_cases h6:fo=6;subst h6;exact ep.tail (apM b t m g);simp only[oh h6,HX]
 grind[WY]
end
section
variable {c:aB}{dd:List ax}{w:aI}{mm:List (Int×aa)}
structure oq(w:aI):Prop where
 aek:w.bZ.length<=130
 tasks:w.bN.length<=130
 outs:w.jI.length<=110
 ins:w.dA.length<=60
 parts:∀o∈w.bZ,o.jH.length<=40/\o.Frames.length<=50/\∀f∈o.Frames,f.Env.length<=40/\f.Stack.length<=70
theorem oq.sm(h:oq w){o:bK}(c:o∈w.bZ):SmO o:=by obtain⟨a,b,d⟩:=h.parts o c;exact⟨by omega,⟨by omega,λf e=>by grind,λf e=>by grind⟩⟩
def e31(w:aI):ep (λn=>F31 n (w,())) (oq w):=by
 refine aW.aj (λh=>aW.no (λa=>by have:=a.aek;have:=z5 h;simp only[eW]at this;omega) (Ev.pure _)) (λh1=>?_);refine aW.aj (λh=>aW.no (λa=>by have:=a.tasks;have:=z5 h;simp only[eW]at this;omega) (Ev.pure _)) (λh2=>?_);refine aW.aj (λh=>aW.no (λa=>by have:=a.outs;have:=z5 h;simp only[eW]at this;omega) (Ev.pure _)) (λh3=>?_);refine aW.aj (λh=>aW.no (λa=>by have:=a.ins;have:=z5 h;simp only[eW]at this;omega) (Ev.pure _)) (λh4=>?_);have h1:=Bp h1;have h2:=Bp h2;have h3:=Bp h3;have h4:=Bp h4;simp only[eW]at h1 h2 h3 h4;refine aW.all (l:=w.bZ) bA (λo=>o.jH.length<=40/\o.Frames.length<=50/\∀f∈o.Frames,f.Env.length<=40/\f.Stack.length<=70) (λ_=>.ret () (J,())) (λ_ _ h=>by cases h) (λi k=>?_) (λn=>by simp(disch:=omega)only[bL])
  (λh=>aW.yes ⟨by omega,by omega,by omega,by omega,h⟩ cE) (λh i=>aW.no (λa=>h a.parts) cE)
 generalize g:w.bZ.getD i bA=o;simp(disch:=omega)only[bL,g];refine aW.aj (λh=>aW.no (λa=>by have:=z5 h;omega) (Ev.pure _)) (λb=>?_);refine aW.aj (λh=>aW.no (λa=>by have:=z5 h;omega) (Ev.pure _)) (λc=>?_);have b:=Bp b;have c:=Bp c;refine aW.all (l:=o.Frames) aA (λf=>f.Env.length<=40/\f.Stack.length<=70) (λ_=>.ret () (J,())) (λ_ _ h=>by cases h) (λj m=>?_) (λn=>by simp(disch:=omega)only[bL])
  (λh=>aW.yes ⟨by omega,by omega,h⟩ (bI λn=>by simp(disch:=omega)only[bL,fJ,bX,ff,fe])) (λh j=>aW.no (λa=>h a.2.2) cE)
 simp(disch:=omega)only[bL];refine aW.aj (λh=>aW.no (λa=>by have:=z5 h;omega) (Ev.pure _)) (λd=>?_);refine aW.aj (λh=>aW.no (λa=>by have:=z5 h;omega) (Ev.pure _)) (λe=>?_);have d:=Bp d;have e:=Bp e;exact aW.yes ⟨by omega,by omega⟩ (bI λn=>by simp(disch:=omega)only[bL,bX,ff,fe])
def e19(c:aB)(w:aI):∃b,Ev (λn=>F19 n (c,w,())) ((b,()),())/\(b=W->Small c/\oq w):=by
 obtain⟨a,h1,e⟩:=e11 c;obtain⟨d,h2,f⟩:=(e31 w).get;refine⟨a&&d,?_,λh=>?_⟩
 .refine Ev.ai h1 ?_;cases a with
  |false=>exact cE|true=>exact Ev.ai h2 (Ev.pure _)
 simp_all
def SZ(o:eJ):Prop:=0<=o.Port/\o.Port<=3/\rS o.N=W
def Zc(l:L Int):Prop:=l.length<=50/\∀i∈l,rS i=W
theorem qv{a:Int}:rS a=W↔-1000000000<=a/\a<=1000000000:=by unfold rS;simp
def e52(n:Nat)(a lo hi:Int):F52 n (a,lo,hi,())=Z ((IB a lo hi,()),()):=e63 n a lo hi
theorem e15{l:L Int}(hl:l.length<=1000):ep (λn=>F15 n (l,50,())) (Zc l):=by
 by_cases h:l.length<=50
 .refine aW.iff (P:=∀i∈l,rS i=W) ⟨λb=>⟨h,b⟩,λh=>h.2⟩ ?_;refine aW.all (l:=l) 0 (λi=>rS i=W) (λ_=>.ret () (J,())) (λ_ _ h=>by cases h) (λi e=>?_) (λn=>by simp(disch:=omega)only[bL]) (λb=>aW.yes b (bI λn=>by simp(disch:=omega)only[bL,fJ])) (λb i=>aW.no b cE);simp(disch:=omega)only[bL,e52];cases h1:IB (l.getD i 0) (-1000000000) 1000000000 with|true=>exact aW.yes (qv.2 (gK.1 h1)) (bI λn=>by simp(disch:=omega)only[bL,bX,ff,fe])|false=>exact aW.no (λh=>by grind[gK,qv]) cE
 .refine aW.no (λb=>h b.1) ?_;rcases lV (F:=λn(c:Int×U)=>aj (aD c.1 (aq l)) (aj (br c.1 50) (aU (aL c.1 l) (ai (F52 n (aX l (au c.1) 0,(-1000000000),1000000000,())) λd=>aj (ak d.1.1) (Z (X (P:=Any) () (J,()))) (Z (N (aC .i64 c.1 1,()))))) (Z (H 0 c))) (Z (H 0 c)))
   51 (λi=>((i:Int),())) (λi=>IB (l.getD i 0) (-1000000000) 1000000000) (λ_=>.ret () (J,())) 0 (λ_ _ h=>by cases h) (λi e _=>bI λn=>by
    simp(disch:=omega)only[bL,e52];cases IB (l.getD i 0) (-1000000000) 1000000000<;>simp(disch:=omega)only[bL,bX,ff,fe]) (λ_=>bI λn=>by
    simp(disch:=omega)only[bL];cases aD ((51:Nat):Int) (l.length:Int)<;>rfl)with⟨a,r⟩|⟨i,e,a,_,r⟩
  exact Ev.bh r (λn c=>_) _ (bI λn=>by
   show Z ((br (l.length:Int) 50,()),())=_;rw[ahG (by omega)])
  exact Ev.bh r (λn c=>_) _ cE
def e45{l:L Int}(hl:l.length<=1000):ep (λn=>F45 n (l,())) (Zc l):=by
 refine aW.aj (λh=>?_) (λh=>aW.no (λa=>by have:=a.1;have:=z7 h;simp only[eW]at this;omega) (Ev.pure _));have h:=z6 h;simp only[eW]at h;refine aW.iff (P:=∀i∈l,rS i=W) ⟨λa=>⟨by omega,a⟩,λh=>h.2⟩ ?_;refine aW.all (l:=l) 0 (λi=>rS i=W) (λi=>.ret () ((i:Int),())) (λ_ _ h=>by cases h) (λi b=>?_) (λn=>by simp(disch:=omega)only[bL]) (λa=>aW.yes a cE) (λa i=>aW.no a (bI λn=>by
  show Z ((ak (br 0 (i:Int)),()),())=_;rw[aht]))
 simp(disch:=omega)only[bL];refine aW.aj (λh1=>aW.aj (λh2=>?_) (λh2=>?_)) (λh1=>aW.no (λa=>by have:=z7 h1;have:=qv.1 a;omega) (Ev.pure _));exact aW.yes (qv.2 ⟨z6 h1,z6 h2⟩) (bI λn=>by simp(disch:=omega)only[bL,bX,ff,fe])
 simp_all[aW.no,z7,qv,Ev.pure]
theorem apW(o:eJ):ep (λn=>F164 n (o,())) (SZ o):=by refine aW.aj (λh1=>?_) (λh1=>aW.no (λh=>by have:=h.1;have:=z7 h1;grind) (Ev.pure _));refine aW.aj (λh2=>?_) (λh2=>aW.no (λh=>by have:=h.2.1;have:=Bp h2;grind) (Ev.pure _));have h1:=z6 h1;have h2:=z5 h2;simp only at h1 h2;refine ep.of_eq (λn=>rgi o.N (-1000000000) 1000000000) ?_;exact⟨λh=>⟨h1,by omega,h⟩,λh=>h.2.2⟩
def SW:Dl c dd w↔w.bZ.length<=120/\(∀o∈w.bZ,l7 c dd w.bZ.length o)/\Dm w/\w.jI.length<=100/\(∀o∈w.jI,SZ o)/\Zc w.dA/\(0<=w.Used/\w.Used<=1000000000):=by
 constructor;intro h;exact⟨h.len,h.obs,⟨h.PV,h.task,h.all⟩,h.outs,h.out,⟨h.ins,h.inn⟩,h.used⟩
 rintro⟨a,b,d,e,f,g,u⟩
 exact⟨a,b,e,f,g.1,g.2,u,d.PV,d.tl,d.task,d.all⟩
def e32(o:Gy c dd)(hs:Small c)(k:oq w):ep (λn=>F32 n (⟨c,dd⟩,w,())) (Dl c dd w):=by
 have t:=k.aek;have p:Bd c dd w:=⟨o,by have:=hs.cl;omega,by omega⟩;refine aW.iff SW.symm ?_;have d:∀{P:Prop},¬P->ep (λn=>Jk n) P:=λh=>aW.no h cE;refine aW.aj (λh=>d λf=>by have:=z5 h;simp only[eW]at this;omega) (λh1=>?_);refine aW.aj (λh=>d λf=>by have:=z5 h;simp only[eW]at this;omega) (λh2=>?_);have h1:=Bp h1;have h2:=Bp h2;simp only[eW]at h1 h2;refine aW.ifN (e15 (l:=w.dA) (by have:=k.ins;omega)) (λh3=>?_) (λh3=>d λh=>h3 h.2.2.2.2.2.1);refine aW.ifN (P:=0<=w.Used/\w.Used<=1000000000) (ep.of_eq (λn=>e63 n _ _ _) gK) (λh4=>?_) (λh4=>d λh=>h4 h.2.2.2.2.2.2);refine aW.ifN (P:=Dm w) (by obtain⟨b,q,e⟩:=e64 (w:=w) (by omega) (by have:=k.tasks;omega);exact ep.mk q e) (λh5=>?_) (λh5=>d λh=>h5 h.2.2.1);refine aW.KB (l:=w.bZ) bA (l7 c dd w.bZ.length) (λn a=>F65 n (⟨c,dd⟩,w,a,())) (λ_=>.ret () (J,())) (λn c=>rfl) (by omega) (λ_ _ h=>by cases h) (λa r=>e65 p (k.sm r)) (λh6=>?_) (λh i=>aW.no (λf=>h f.2.1) cE);refine aW.congr (λn=>fJ ..) ?_;refine aW.all (l:=w.jI) gj SZ (λ_=>.ret () (J,())) (λ_ _ h=>by cases h) (λj u=>?_) (λn=>by simp(disch:=omega)only[bL]) (λs=>aW.yes ⟨by omega,h6,h5,by omega,s,h3,h4⟩ cE) (λh i=>aW.no (λf=>h f.2.2.2.2.1) cE);simp(disch:=omega)only[bL,e63]
 refine aW.aj (λg=>?_) (λg=>aW.no (λh=>by rw[gK.2 ⟨h.1,h.2.1⟩]at g;cases g) (Ev.pure _));refine aW.aj (λm=>?_) (λm=>aW.no (λh=>by rw[gK.2 (qv.1 h.2.2)]at m;cases m) (Ev.pure _));exact aW.yes ⟨(gK.1 g).1,(gK.1 g).2,qv.2 (gK.1 m)⟩ (bI λn=>by simp(disch:=omega)only[bL,bX,ff,fe])
theorem ap4(g:Gy c dd)(hs:Small c)(e:oq w)(j:∀x,VA x mm=W↔ru c dd x):ep (λn=>F111 n (⟨w,c,dd,mm⟩,())) (Dl c dd w):=by
 have m:=e.aek;have k:Bd c dd w:=⟨g,by have:=hs.cl;omega,by omega⟩;refine aW.iff SW.symm ?_;have b:∀{P:Prop},¬P->ep (λn=>sk n) P:=λh=>aW.no h cE;refine aW.aj (λh1=>?_) (λh=>b λd=>by have:=z7 h;simp only[eW]at this;omega);simp only[eW]at h1;refine aW.KB (l:=w.bZ) bA (l7 c dd w.bZ.length) (λn a=>F166 n (⟨w,c,dd,mm⟩,a,())) (λx=>.ret () x) (λn c=>rfl) (by omega) yB (λa f=>apV k (e.sm f) j) (λh2=>?_) (λh i=>aW.congr (λn=>Sx i () _ _ _ _) (b λd=>h d.2.1));refine aW.ifP (apU (by omega) (by have:=e.tasks;omega)) (λh3=>?_) (λh3=>b λh=>h3 h.2.2.1);refine aW.aj (λh4=>?_) (λh=>b λd=>by have:=z7 h;simp only[eW]at this;omega);have h4:=z6 h4;simp only[eW]at h4;refine aW.KB (l:=w.jI) gj SZ (λn a=>F164 n (a,())) (λx=>.ret () x) (λn c=>rfl) (by omega) yB (λa f=>apW a) (λh5=>?_) (λh i=>aW.congr (λn=>Sx i () _ _ _ _) (b λd=>h d.2.2.2.2.1));refine aW.ifP (e45 (l:=w.dA) (by have:=e.ins;omega)) (λh6=>?_) (λh6=>b λh=>h6 h.2.2.2.2.2.1);refine aW.aj (λo=>?_) (λh=>b λd=>by have:=z7 h;grind);refine ep.of_eq (λn=>rfl) ?_
 grind[z6,br]
end
section
variable {c:aB}{dd:List ax}{w:aI}
structure Rt(c:aB)(dd:List ax):Prop where
 cf:CF c
 dep:Ok c dd
theorem Rt.ok(h:Rt c dd):Gy c dd:=h.cf.ok.pok h.dep
theorem Rt.uniq{D E:L ax}(h:Rt c D)(a:Rt c E):D=E:=h.dep.uniq a.dep h.cf.ok.o4
def apB(hs:Small c):(∃D,Rt c D/\Ev (λn=>F99 n (c,())) ((D,0,()),()))\/((¬∃D,Rt c D)/\∃e:Int,e≠0/\Ev (λn=>F99 n (c,())) (([],e,()),())):=by
 obtain⟨r,h1,h2,h3⟩:=apZ hs;obtain rfl|rfl:=h2
 have a:=h3.1 rfl;obtain⟨D,b,h⟩|⟨d,h⟩:=e99 a.ok h1
 exact .inl ⟨D,⟨a,b⟩,h⟩;exact .inr ⟨λ⟨D,h⟩=>d ⟨D,h.dep⟩,7,by decide,h⟩;refine .inr ⟨(λ⟨D,h⟩=>by have:=h3.2 h.cf;cases this),2,by decide,?_⟩;exact Ev.ai h1 cE
def e14(hs:Small c):(∃D,Rt c D/\Ev (λn=>F14 n (c,())) ((⟨c,D⟩,W,()),()))\/((¬∃D,Rt c D)/\∃m,Ev (λn=>F14 n (c,())) ((m,J,()),())):=by
 obtain⟨a,b⟩|⟨a,b⟩:=e50 hs
 obtain⟨D,d,h⟩|⟨e,h⟩:=d51 a.ok
 exact .inl ⟨D,⟨a,d⟩,Ev.ai b (Ev.ai h (Ev.pure _))⟩;exact .inr ⟨λ⟨D,h⟩=>e ⟨D,h.dep⟩,_,Ev.ai b (Ev.ai h (Ev.pure _))⟩;exact .inr ⟨λ⟨D,h⟩=>a h.cf,_,Ev.ai b (Ev.pure _)⟩
def Ks(c:aB)(dd:L ax):Nat->L (Int×aa)
 |0=>[]|i+1=>bif (eK dd (i:Int)).Reached&&af (bC c (i:Int)).Op 6 then Pg (bC c (i:Int)).A (Ks c dd i)else Ks c dd i
theorem Yr{x:Int}:∀i:Nat,VA x (Ks c dd i)=W↔∃j:Nat,j<i/\(bC c (j:Int)).Op=6/\(eK dd (j:Int)).Reached=W/\(bC c (j:Int)).A=x
 |0=>⟨(λh=>by cases h),λ⟨j,h,_⟩=>by omega⟩
 |i+1=>by
  have a:=Yr (x:=x) i;unfold Ks;cases h:(eK dd (i:Int)).Reached&&af (bC c (i:Int)).Op 6 with
  |false=>
   grind[h1,h2,h3,h4,u9]
  |true=>
   simp only[eM,kf]at h;rw[gn,Xc,nI,a,kf]
   grind
abbrev Ys(c:aB)(dd:L ax):L (Int×aa):=Ks c dd c.dA.length
theorem afD{x:Int}:VA x (Ys c dd)=W↔ru c dd x:=by
 rw[Yr];constructor
 rintro⟨j,h1,h2,h3,h4⟩
 exact⟨(j:Int),by omega,by omega,h2,h3,h4⟩
 rintro⟨i,a,h1,h2,h3,h4⟩
 obtain⟨j,rfl⟩:∃j:Nat,i=j:=⟨_,(JN a).symm⟩
 grind
def Yq{β R B P:Type}(hl:c.dA.length<=1500)(f:dd.length=c.dA.length){F:Nat->Int×L (Int×aa)×U->O (LO (Int×L (Int×aa)×U) R B P)}{g:Nat->LO (Int×L (Int×aa)×U) R B P->O β}{r:β}
  (a:∀n d,F n d=aj (aD d.1 (aq c.1)) (aU (aL d.1 dd) (aj (aX dd (au d.1) aT).1 (aU (aL d.1 c.1) (aj (af (aX c.1 (au d.1) bM).1 6) (aU (aL d.1 c.1) (Z (N (aC .i64 d.1 1,gY (A:=sg.A) (Ty.int .i64) (aX c.1 (au d.1) bM).2 W d.2.1,())))) (Z (N (aC .i64 d.1 1,d.2))))) (Z (N (aC .i64 d.1 1,d.2))))) (Z (H 0 d)))
  (h:Ev (λn=>g n (.out 0 ((c.dA.length:Int),Ys c dd,()))) r):Ev (λn=>ai (iter (F n) n (0,[],())) (g n)) r:=by
 refine Ev.bh (gD c.dA.length (λi=>((i:Int),Ks c dd i,())) 0 (λi j=>bI λn=>?_) (bI λn=>by simp_all[bL])) g _ h;have b:aX dd (au (i:Int)) aT=eK dd (i:Int):=rfl;have e:aX c.1 (au (i:Int)) bM=bC c (i:Int):=rfl;rw[a];simp only[b,e];rw[show Ks c dd (i+1)=bif (eK dd (i:Int)).Reached&&af (bC c (i:Int)).Op 6 then Pg (bC c (i:Int)).A (Ks c dd i)else Ks c dd i from rfl];cases h1:(eK dd (i:Int)).Reached<;>cases h2:af (bC c (i:Int)).Op 6<;>simp(disch:=omega)only[bL,h1,h2,bX,ff,fe,p7,oN]
def Tz(hs:Small c){α:Type}{bad:Nat->O α}{rest:Nat->(L ax×Int×U)×U->Int×L (Int×aa)×U->O α}{z:Nat->aa×U->O α}{r:α}
  (h1:∀D,Rt c D->Ev (λn=>rest n ((D,0,()),()) ((c.dA.length:Int),Ys c D,())) r) (h2:(¬∃D,Rt c D)->Ev bad r) :
  Ev (λn=>ai (F99 n (c,())) λx=>aj (ak (af x.1.2.1 0)) (bad n) (ai (iter (λd:Int×L (Int×aa)×U=>aj (aD d.1 (aq c.1)) (aU (aL d.1 x.1.1) (aj (aX x.1.1 (au d.1) aT).1 (aU (aL d.1 c.1) (aj (af (aX c.1 (au d.1) bM).1 6) (aU (aL d.1 c.1) (Z (N (R:=aa×U) (B:=L (Int×aa)×U) (P:=Any) (aC .i64 d.1 1,gY (A:=sg.A) (Ty.int .i64) (aX c.1 (au d.1) bM).2 W d.2.1,())))) (Z (N (aC .i64 d.1 1,d.2))))) (Z (N (aC .i64 d.1 1,d.2))))) (Z (H 0 d))) n (0,[],())) λd=>bq d (λ_ g=>rest n x g) (λ_ g=>z n g) λ_ _=>Y)) r:=by
 obtain⟨D,a,h⟩|⟨b,e,f,h⟩:=apB hs
 refine Ev.ai h ?_;exact Yq a.ok.len.2 a.dep.len (λn d=>rfl) (h1 D a);refine Ev.ai h (Ev.oI (λn=>?_) (h2 b));rw[oh f];rfl
def Gc(hs:Small c)(f:oq w){α:Type}{bad:Nat->O α}{rest:Nat->(L ax×Int×U)×U->Int×L (Int×aa)×U->O α}{z:Nat->aa×U->O α}{r:α}
  (h1:∀D,Rt c D->Dl c D w->Ev (λn=>rest n ((D,0,()),()) ((c.dA.length:Int),Ys c D,())) r) (h2:(¬∃D,Rt c D/\Dl c D w)->Ev bad r) :
  Ev (λn=>ai (F99 n (c,())) λx=>aj (ak (af x.1.2.1 0)) (bad n) (ai (iter (λd:Int×L (Int×aa)×U=>aj (aD d.1 (aq c.1)) (aU (aL d.1 x.1.1) (aj (aX x.1.1 (au d.1) aT).1 (aU (aL d.1 c.1) (aj (af (aX c.1 (au d.1) bM).1 6) (aU (aL d.1 c.1) (Z (N (R:=aa×U) (B:=L (Int×aa)×U) (P:=Any) (aC .i64 d.1 1,gY (A:=sg.A) (Ty.int .i64) (aX c.1 (au d.1) bM).2 W d.2.1,())))) (Z (N (aC .i64 d.1 1,d.2))))) (Z (N (aC .i64 d.1 1,d.2))))) (Z (H 0 d))) n (0,[],())) λd=>bq d (λ_ g=>ai (F111 n (cJ.mk w c x.1.1 g.2.1,())) λh=>aj (ak h.1.1) (bad n) (rest n x g)) (λ_ g=>z n g) λ_ _=>Y)) r:=by
 refine Tz hs (rest:=λn x g=>ai (F111 n (cJ.mk w c x.1.1 g.2.1,())) λh=>aj (ak h.1.1) (bad n) (rest n x g)) (λD e=>?_) (λh=>h2 λ⟨D,a,_⟩=>h ⟨D,a⟩);obtain⟨a,b⟩|⟨a,b⟩:=ap4 e.ok hs f (λx=>afD)
 exact Ev.ai b (h1 D e a);exact Ev.ai b (h2 λ⟨E,i,j⟩=>a (e.uniq i▸j))
end
section
variable {p:aB}{dd:List ax}{M:MP}{w:aI}{at_:Int}
end
section
variable {p:aB}{dd:List ax}{M:MP}{w:aI}{at_:Int}
end
section
variable {n:Nat}{p:aB}{dd:List ax}{w:aI}
theorem ej.sm{k:Nat}{l:Int}(b:Gy p dd)(hl:0<=l){g:aJ}(a:ej p dd k l g):g.Env.length<=30/\g.Stack.length<=60:=by have h1:=a.el;have h2:=a.sl;have:=b.dep.ok g.At a.lo a.hi a.re;omega
theorem l7.small(e:Gy p dd){k:Nat}{o:bK}(h:l7 p dd k o):o.jH.length<=40/\o.Frames.length<=50/\∀g∈o.Frames,g.Env.length<=40/\g.Stack.length<=70:=by
 have r:∀{g:aJ}{l:Int},0<=l->ej p dd k l g->g.Env.length<=40/\g.Stack.length<=70:=λj m=>by have:=m.sm e j;omega
 cases h with
 | @data n q a b c d=>
  have:=(e.cons _ (cN bn (show n.toNat<p.Cons.length by omega))).2
  grind[rq]
 | @func n q a b c=>
  obtain⟨i,f,h1,h2,h3,h4⟩:=a;have s:=e.dep.ok i f h1 h3;have:=e.dep.step i f h1 h3 (n,cg 0 ((eK dd i).Env+1)) (by simp[fV,h2,h4])
  grind[cg]
 |cell a=>simp_all|chan a b=>grind|Uk a b c=>grind|M4 a b c=>
  grind
 |done a=>simp_all|dead a=>simp_all
def HV{R B P:Type}(len:Nat)(hl:len<=1000000){F:Nat->Int×U->O (LO (Int×U) R B P)}(h:∀i,i<len->Ev (λn=>F n ((i:Int),())) (.next (((i+1:Nat):Int),())))(a:∀n,F n ((len:Int),())=Z (.out 0 ((len:Int),()))) :
  ic F (0,()) (.out 0 ((len:Int),())):=gD (s:=λi=>((i:Int),())) len 0 h (bI a)
def e35{l:L Int}(hl:l.length<=1000):Ev (λn=>F35 n (l,l,())) ((W,()),()):=by
 unfold F35;simp only[bL];refine Ev.bh (F:=λn c=>_) (HV l.length (by omega) (λi a=>bI λn=>?_) λn=>?_) (λn c=>_) _ cE;simp(disch:=omega)only[bL,bX,ff,fe]<;>rfl
 simp_all[bL]
def e54{l:L eJ}(hl:l.length<=1000):Ev (λn=>F54 n (l,l,())) ((W,()),()):=by
 unfold F54;simp only[bL];refine Ev.bh (F:=λn c=>_) (HV l.length (by omega) (λi a=>bI λn=>?_) λn=>?_) (λn c=>_) _ cE;simp(disch:=omega)only[bL,bX,ff,fe]<;>rfl
 simp_all[bL]
def e16:Ev (λn=>F16 n (cV,())) ((W,()),()):=by unfold F16 F18;refine Ev.ai (a:=((W,()),())) ?_ (Ev.pure _);have z:aq cV.1=0:=rfl;have b:af cV.5 cV.5=W:=rfl;simp only[z,b];simp only[bL];refine Ev.ai (e35 (l:=[]) (by simp)) ?_;simp only[bL];refine Ev.ai (e54 (l:=[]) (by simp)) ?_;simp only[bL];refine Ev.ai (e35 (l:=[]) (by simp)) ?_;simp only[bL];refine Ev.bh (F:=λn c=>_) (ic.out (j:=0) (y:=(0,())) (bI λn=>?_)) (λn c=>_) _ cE;rfl
def e21(hs:Small p)(d:oq w):(∃D,Rt p D/\Dl p D w/\Ev (λn=>F21 n (p,w,())) ((⟨p,D⟩,W,()),()))\/((¬∃D,Rt p D/\Dl p D w)/\∃m,Ev (λn=>F21 n (p,w,())) ((m,J,()),())):=by
 unfold F21;obtain⟨D,c,h⟩|⟨e,m,h⟩:=e14 hs
 obtain⟨a,b⟩|⟨a,b⟩:=e32 c.ok hs d
 exact .inl ⟨D,c,a,Ev.ai h (Ev.ai b (Ev.pure _))⟩;exact .inr ⟨λ⟨E,f,g⟩=>a (c.uniq f▸g),_,Ev.ai h (Ev.ai b (Ev.pure _))⟩;exact .inr ⟨λ⟨D,a,_⟩=>e ⟨D,a⟩,_,Ev.ai h (Ev.pure _)⟩
end
section
variable {n:Nat}{p:aB}{dd:List ax}{w:aI}{M:MP}
def VZ{α:Type}{l:L α}{i:Nat}{d x:α}(h:i<l.length)(a:x=l.getD i d):l.set i x=l:=by
 simp_all
end
section
variable {p:aB}{dd:List ax}{M:MP}{w w':aI}{left:List aJ}{f:aJ}{at_ t n:Int}{v u:aQ}{i:bW}{l:List aQ}
end
section
variable {p:aB}{dd:List ax}{M:MP}{w:aI}
end
section
variable {p:aB}{w:aI}{dd:List ax}
def rE(p:aB)(w:aI):Prop:=∃D,Rt p D/\Dl p D w
def e25(hs:Small p)(a:oq w){r:(Int×U)×U}(h1:rE p w->((0,()),())=r)(h2:¬rE p w->((2,()),())=r):Ev (λn=>F25 n (p,w,())) r:=by unfold F25;refine Gc (bad:=λn=>Z ((2,()),())) hs a (λD b c=>?_) (λh=>by rw[<-h2 h];exact Ev.pure _);rw[<-h1 ⟨D,b,c⟩];exact Ev.pure _
end
section
def p9(l:L Int)(x:Int):L Int:=bif l.contains x then l else l++[x]
def dX(l ns:L Int):L Int:=ns.foldl p9 l
def dc:L aQ->L Int
 |[]=>[]|v::l=>bif af v.Kind 5 then v.N::dc l else dc l
def gI:L aJ->L Int
 |[]=>[]|f::l=>dc f.Env++(dc f.Stack++gI l)
def lK(o:bK):L Int:=dc o.jH++gI o.Frames
def iH:L Int->Int->Nat
 |[],_=>0|a::l,x=>bif af a x then 0 else iH l x+1
def gS(g:Int->Int)(v:aQ):aQ:=bif af v.Kind 5 then⟨v.Kind,g v.N⟩else v
def sN(g:Int->Int)(f:aJ):aJ:=⟨f.At,f.Env.map (gS g),f.Stack.map (gS g),f.mE⟩
def qi(g:Int->Int)(o:bK):bK:=⟨o.Form,o.N,o.jH.map (gS g),o.Frames.map (sN g)⟩
def EE(a:L bK):Nat->Nat->L Int->L Int
 |0,_,l=>l|m+1,i,l=>if i<l.length then EE a m (i+1) (dX l (lK (a.getD (l.getD i 0).toNat bA)))else l
def rK(w:aI):L Int:=EE w.bZ (w.bZ.length+1) 0 (dX [] w.bN)
def nK(w:aI):aI:=⟨(rK w).map (λn=>qi (λx=>iH (rK w) x) (gf w n)),w.bN.map (λn=>(iH (rK w) n:Int)),w.jI,w.dA,w.Used⟩
def wY(l a b:L Int):dX l (a++b)=dX (dX l a) b:=List.foldl_append ..
def OY(l a:L Int)(x:Int):dX l (a++[x])=p9 (dX l a) x:=by rw[wY];rfl
def H7:∀l:L aQ,(dc l).length<=l.length
 |[]=>cM _|v::l=>by have:=H7 l;unfold dc;cases af v.Kind 5<;>simp<;>omega
def wV:∀a b:L aQ,dc (a++b)=dc a++dc b
 |[],b=>rfl|v::a,b=>by show(bif af v.Kind 5 then v.N::dc (a++b)else dc (a++b))=(bif af v.Kind 5 then v.N::dc a else dc a)++dc b;rw[wV a b];cases af v.Kind 5<;>rfl
theorem H6(v:aQ):dc [v]=bif af v.Kind 5 then[v.N]else[]:=rfl
def EA:∀a b:L aJ,gI (a++b)=gI a++gI b
 |[],b=>rfl|f::a,b=>by show dc f.Env++(dc f.Stack++gI (a++b))=(dc f.Env++(dc f.Stack++gI a))++gI b;rw[EA a b,vw,vw]
def ON(f:aJ):gI [f]=dc f.Env++dc f.Stack:=by simp[gI]
variable {l:List Int}{vs:List aQ}
def ap3(h:vs.length<=1000)(e:∀i,(dX l (dc (vs.take i))).length<=1000):Ev (λn=>F115 n (l,vs,())) ((dX l (dc vs),()),()):=by
 unfold F115;refine Ev.bh (F:=λn c=>_) (o:=.out 0 (dX l (dc (vs.take vs.length)),(vs.length:Int),())) (gD (s:=λi=>(dX l (dc (vs.take i)),(i:Int),())) vs.length 0 (λi g=>?_) (bI λn=>?_)) (λn c=>_) _ (bI λn=>?_)
 .have d:dX l (dc (vs.take (i+1)))=bif af (vs.getD i aR).Kind 5 then p9 (dX l (dc (vs.take i))) (vs.getD i aR).N else dX l (dc (vs.take i)):=by rw[<-take_succ aR g,wV,H6];cases af (vs.getD i aR).Kind 5 with|true=>rw[gn,gn,OY]|false=>rw[gJ,gJ,tK]
  have f:=e i;rw[d];generalize dX l (dc (vs.take i))=q at f ⊢;simp(disch:=first|omega|(simp only[lnsq]<;>omega)|fail)only[bL];cases j:af (vs.getD i aR).Kind 5 with
  |false=>exact bI λn=>by simp(disch:=first|omega|(simp only[lnsq]<;>omega)|fail)only[bL,bX,ff,fe]
  |true=>simp(disch:=first|omega|(simp only[lnsq]<;>omega)|fail)only[bL];refine Ev.ai (ajW f) (bI λn=>?_);unfold p9;cases q.contains (vs.getD i aR).N<;>simp(disch:=first|omega|(simp only[lnsq]<;>omega)|fail)only[bL,bX,ff,fe]
 simp(disch:=first|omega|(simp only[lnsq]<;>omega)|fail)only[bL]<;>rfl;rw[fJ,tL]
def Sf:∀{l:L Int}{x:Int}{i:Nat},i<l.length->l.getD i 0=x->(∀j,j<i->l.getD j 0≠x)->iH l x=i
 |[],_,i,h,_,_=>absurd h (Nat.not_lt_zero _)|a::l,x,0,_,h,_=>by have h:a=x:=h;unfold iH;rw[u9 h];rfl
 |a::l,x,i+1,c,h,b=>by have d:a≠x:=b 0 (by omega);unfold iH;rw[oh d,gJ,Sf (l:=l) (x:=x) (i:=i) (by simpa using c) (by simpa using h) (λj e=>by have:=b (j+1) (by omega);simpa using this)]
def IC:∀{l:L Int}{x:Int},(∀j,j<l.length->l.getD j 0≠x)->iH l x=l.length
 |[],_,_=>rfl|a::l,x,c=>by have d:a≠x:=c 0 (by simp);unfold iH;rw[oh d,gJ,IC (l:=l) (x:=x) (λj b=>by have:=c (j+1) (by simpa using b);simpa using this),qP]
def e61{x:Int}(hl:l.length<=1000):Ev (λn=>F61 n (l,x,())) (((iH l x:Int),()),()):=by
 unfold F61;rcases lV (R:=Int×U) (B:=U) (P:=Any) (F:=λn c=>aj (aD c.1 (aq l)) (aU (aL c.1 l) (aj (ak (af (aX l (au c.1) 0) x)) (Z (N (aC .i64 c.1 1,()))) (Z (H 0 c)))) (Z (H 0 c))) l.length (λi=>((i:Int),())) (λi=>!(af (l.getD i 0) x)) (λi=>.out 0 ((i:Int),())) 0 (λ_ _ h=>by cases h)
  (λi g _=>bI λn=>by
   simp(disch:=first|omega|(simp only[lnsq]<;>omega)|fail)only[bL];cases af (l.getD i 0) x<;>simp(disch:=first|omega|(simp only[lnsq]<;>omega)|fail)only[bL,bX,ff,fe,JJ,Ma]) (λ_=>bI λn=>by simp(disch:=first|omega|(simp only[lnsq]<;>omega)|fail)only[bL]<;>rfl)with⟨a,r⟩|⟨i,g,a,b,r⟩
 refine Ev.bh r (λn c=>_) _ (bI λn=>?_);rw[fJ,IC (λj f h=>by have:=a j f;rw[u9 h]at this;cases this)];refine Ev.bh r (λn c=>_) _ (bI λn=>?_);have h1:l.getD i 0=x:=by cases k:af (l.getD i 0) x with|true=>exact jk.1 k|false=>rw[k]at a;cases a
 rw[fJ,Sf g h1 (λj f h=>by have:=b j f;rw[u9 h]at this;cases this)]
def e60{a:L Int}(hl:vs.length<=1000)(j:a.length<=1000):Ev (λn=>F60 n (vs,a,())) ((vs.map (gS λx=>iH a x),()),()):=by
 unfold F60;have k:∀i,i<vs.length->(vs.take (i+1)).map (gS λx=>iH a x)=(vs.take i).map (gS λx=>iH a x)++[gS (λx=>iH a x) (vs.getD i aR)]:=λi h=>by rw[<-take_succ aR h,A5];rfl
 refine Ev.bh (F:=λn c=>_) (o:=.out 0 ((vs.take vs.length).map (gS λx=>iH a x),(vs.length:Int),())) (gD (s:=λi=>((vs.take i).map (gS λx=>iH a x),(i:Int),())) vs.length 0 (λi h=>?_) (bI λn=>?_)) (λn c=>_) _ (bI λn=>?_)
 .rw[k i h];have l:((vs.take i).map (gS λx=>iH a x)).length<=1000:=by rw[rM,xq];omega
  by_cases h5:(vs.getD i aR).Kind=5
  .refine Ev.oI (g:=λn=>ai (ai (F61 n (a,(vs.getD i aR).N,())) λd=>Z (N (W,((vs.getD i aR).Kind,d.1),()))) λ(d:LO (aa×(Int×Int×U)×U) ((L aQ)×U) ((Int×Int×U)×U) Any)=>cF d (λe=>aU (dJ ((vs.take i).map (gS λx=>iH a x)) [aQ.mk e.2.1.1 e.2.1.2.1]) (Z (N (di ((vs.take i).map (gS λx=>iH a x)) [aQ.mk e.2.1.1 e.2.1.2.1],((i+1:Nat):Int),())))) (λ_ _=>Y) (λ_ g=>Z (X () g)) λ_ _=>Y) (λn=>?_) ?_;simp(disch:=first|omega|(simp only[lnsq]<;>omega)|fail)only[bL,bX,ff,fe]
   .refine Ev.ai (Ev.ai (e61 j) cE) (bI λn=>?_);show aU (dJ _ [_]) (Z (N (di _ [_],_)))=_;rw[SJ (by simp only[EH];omega),SK];unfold gS;rw[u9 h5];rfl
  refine bI λn=>?_;simp(disch:=first|omega|(simp only[lnsq]<;>omega)|fail)only[bL,h5,bX,ff,fe];unfold gS;rw[oh h5];rfl
 simp(disch:=first|omega|(simp only[lnsq]<;>omega)|fail)only[bL]<;>rfl;rw[fJ,tL]
end
section
def Jd(k:Nat)(l:L Int):Prop:=l.Nodup/\∀x∈l,0<=x/\x<k
theorem Jd.len{k:Nat}{l:L Int}(h:Jd k l):l.length<=k:=by
 have:=zy (S:=(List.range k).map Int.ofNat) h.1 (λx c=>by
  obtain⟨a,b⟩:=h.2 x c;exact tJ.2 ⟨x.toNat,List.mem_range.2 (by omega),by show((x.toNat:Nat):Int)=x;omega⟩)
 simpa using this
theorem Jd.put{k:Nat}{l:L Int}(h:Jd k l){x:Int}(h1:0<=x/\x<k):Jd k (p9 l x):=by
 unfold p9;cases e:l.contains x with
 |true=>exact h|false=>
  have f:x∉l:=λg=>by rw[JO.2 g]at e;cases e
  refine⟨List.nodup_append.2 ⟨h.1,by simp,λa i b j c=>?_⟩,λy d=>?_⟩;rw[sE.1 j]at c;exact f (c▸i);obtain d|d:=eN.1 d
  exact h.2 y d;rw[sE.1 d];exact h1
def Jd.Mo{k:Nat}:∀{ns l:L Int},Jd k l->(∀x∈ns,0<=x/\x<k)->Jd k (dX l ns)
 |[],_,h,_=>h|x::ns,l,h,a=>Jd.Mo (ns:=ns) (h.put (a x fQ)) (λy b=>a y (hJ _ b))
def aaF(l:L Int)(x:Int):l.length<=(p9 l x).length:=by unfold p9;cases l.contains x<;>simp
def EO:∀(ns l:L Int),l.length<=(dX l ns).length
 |[],l=>cM _|x::ns,l=>fP (aaF l x) (EO ns (p9 l x))
def kR{p:aB}{k:Nat}:∀{vs:L aQ},(∀v∈vs,gz p k v)->∀x∈dc vs,0<=x/\x<k
 |[],_,x,a=>by cases a
 |v::vs,h,x,a=>by
  have c:=kR (vs:=vs) (λv d=>h v (hJ _ d));unfold dc at a;cases b:af v.Kind 5 with
  |true=>
   rw[b,gn]at a;obtain rfl|a:=fF.1 a
   have h5:=jk.1 b;obtain h|h|h|h|h:=h v fQ<;>omega
   exact c x a
  |false=>rw[b,gJ]at a;exact c x a
def OM(vs:L aQ)(i:Nat):∀x∈dc (vs.take i),x∈dc vs:=λx a=>by
 have:dc vs=dc (vs.take i)++dc (vs.drop i):=by rw[<-wV,Wj]
 rw[this];exact eL _ a
structure Sm(p:aB)(k:Nat)(o:bK):Prop where
 v:∀v∈o.jH,gz p k v
 f:∀f∈o.Frames,(∀v∈f.Env,gz p k v)/\∀v∈f.Stack,gz p k v
 vl:o.jH.length<=1000
 fl:o.Frames.length<=1000
 el:∀f∈o.Frames,f.Env.length<=1000/\f.Stack.length<=1000
theorem l7.sm{p:aB}{dd:L ax}(g:Gy p dd){k:Nat}{o:bK}(h:l7 p dd k o):Sm p k o:=by
 obtain⟨a,b,c⟩:=h.small g;refine⟨h.VL,?_,by omega,by omega,λf e=>by have:=c f e;omega⟩;have key:∀{f:aJ}{l:Int},ej p dd k l f->(∀v∈f.Env,gz p k v)/\∀v∈f.Stack,gz p k v:=λh=>⟨h.env,h.stack⟩;cases h with
 |data=>exact λv d=>by cases d
 |func=>exact λv d=>by cases d
 |cell=>exact λv d=>by cases d
 |chan=>exact λv d=>by cases d
 |Uk _ h=>exact λf e=>key (h f e)|M4 _ h i=>
  intro f e;obtain e|e:=eN.1 e
  exact key (h f e);rw[sE.1 e];exact key i
 |done=>exact λv d=>by cases d
 |dead=>exact λv d=>by cases d
def A1{p:aB}{k:Nat}:∀{b:L aJ},(∀f∈b,(∀v∈f.Env,gz p k v)/\∀v∈f.Stack,gz p k v)->∀x∈gI b,0<=x/\x<k
 |[],_,x,a=>by cases a
 |f::b,h,x,a=>by
  unfold gI at a;obtain a|a:=eN.1 a
  exact kR (h f fQ).1 x a;obtain a|a:=eN.1 a
  exact kR (h f fQ).2 x a;exact A1 (λf c=>h f (hJ _ c)) x a
variable {k i:Nat}{l:List Int}
def Sm.refs{p:aB}{o:bK}(h:Sm p k o):∀x∈lK o,0<=x/\x<k:=λx a=>by
 obtain a|a:=eN.1 a
 exact kR h.v x a;exact A1 h.f x a
section
variable {p:aB}{dd:List ax}{w:aI}
def Yf(a:k<=1000){vs:L aQ}(b:vs.length<=1000)(hl:Jd k l)(h:∀v∈vs,gz p k v):Ev (λn=>F115 n (l,vs,())) ((dX l (dc vs),()),()):=
 ap3 b λi=>fP (hl.Mo (λx c=>kR h x (OM vs i x c))).len a
def V9(n:Nat)(b:aI×U)(g:L Int×Int×U):O (LO (L Int×Int×U) (L Int×U) U Any):=
 aj (aD g.2.1 (aq g.1)) (aU (aL g.2.1 g.1) (aU (eo (au g.2.1) g.1) (aU (aL (aX g.1 (au g.2.1) 0) b.1.1) (ai (F115 n (g.1,(aX b.1.1 (au (aX g.1 (au g.2.1) 0)) bA).3,())) λh=>ai (@iter (L Int×Int×U) (L Int×U) U Any (λi=>aj (aD i.2.1 (aq (aX b.1.1 (au (aX g.1 (au g.2.1) 0)) bA).4)) (aU (aL i.2.1 (aX b.1.1 (au (aX g.1 (au g.2.1) 0)) bA).4) (aU (aL i.2.1 (aX b.1.1 (au (aX g.1 (au g.2.1) 0)) bA).4) (ai (F115 n (i.1,(aX (aX b.1.1 (au (aX g.1 (au g.2.1) 0)) bA).4 (au i.2.1) aA).2,())) λj=>ai (F115 n (j.1.1,(aX (aX b.1.1 (au (aX g.1 (au g.2.1) 0)) bA).4 (au i.2.1) aA).3,())) λk=>Z (N (k.1.1,aC .i64 i.2.1 1,()))))) (Z (H 0 i))) n (h.1.1,0,())) λi=>bq i (λ_ k=>Z (N (k.1,aC .i64 g.2.1 1,()))) (λ_ k=>Z (X () k)) λ_ _=>Y)))) (Z (H 0 g))
def Be(hl:Jd w.bZ.length l)(hi:i<l.length):0<=l.getD i 0/\l.getD i 0<w.bZ.length:=hl.2 _ (cN 0 hi)
def Bc(a:Gy p dd)(b:Dl p dd w){x:Int}(h:0<=x/\x<w.bZ.length):Sm p w.bZ.length (w.bZ.getD x.toNat bA):=(b.obs _ (cN bA (by omega))).sm a
def V8(t:Gy p dd)(m:Dl p dd w)(hl:Jd w.bZ.length l)(hi:i<l.length) :
  Ev (λn=>V9 n (w,()) (l,(i:Int),())) (.next (dX l (lK (w.bZ.getD (l.getD i 0).toNat bA)),((i+1:Nat):Int),())):=by
 have z:=m.len;have u:=Be hl hi;have d:=Bc t m u;have v:=hl.len;generalize x:w.bZ.getD (l.getD i 0).toNat bA=o at d;have h1:Jd w.bZ.length (dX l (dc o.jH)):=hl.Mo (kR d.v);have k:∀j,Jd w.bZ.length (dX (dX l (dc o.jH)) (gI (o.Frames.take j))):=λj=>h1.Mo (A1 λf k=>d.f f (Wa k));unfold V9;simp(disch:=first|omega|(simp only[lnsq]<;>omega)|fail)only[bL,x];refine Ev.ai (Yf (by omega) d.vl hl d.v) ?_;refine Ev.bh (F:=λn c=>_) (o:=.out 0 (dX (dX l (dc o.jH)) (gI (o.Frames.take o.Frames.length)),(o.Frames.length:Int),())) (gD (s:=λj=>(dX (dX l (dc o.jH)) (gI (o.Frames.take j)),(j:Int),())) o.Frames.length 0 (λj q=>?_) (bI λn=>?_)) (λn c=>_) _ (bI λn=>?_);have y:=d.fl;have r:=cN aA q;have g:=d.f _ r;have h:=d.el _ r;have e:dX (dX l (dc o.jH)) (gI (o.Frames.take (j+1)))=dX (dX (dX (dX l (dc o.jH)) (gI (o.Frames.take j))) (dc (o.Frames.getD j aA).Env)) (dc (o.Frames.getD j aA).Stack):=by rw[<-take_succ aA q,EA,wY,ON,wY]
 rw[e];simp(disch:=first|omega|(simp only[lnsq]<;>omega)|fail)only[bL];refine Ev.ai (Yf (by omega) h.1 (k j) g.1) (Ev.ai (Yf (by omega) h.2 ((k j).Mo (kR g.1)) g.2) (bI λn=>?_));simp(disch:=first|omega|(simp only[lnsq]<;>omega)|fail)only[bL,bX,ff,fe];simp(disch:=first|omega|(simp only[lnsq]<;>omega)|fail)only[bL]<;>rfl;rw[fJ,tL];simp(disch:=first|omega|(simp only[lnsq]<;>omega)|fail)only[bL,bX,ff,fe];rw[<-wY];rfl
def ED(e:Gy p dd)(d:Dl p dd w):∀(m i:Nat)(l:L Int),Jd w.bZ.length l->i<=l.length->w.bZ.length+1<=i+m->
  Jd w.bZ.length (EE w.bZ m i l)/\ic (λn g=>V9 n (w,()) g) (l,(i:Int),()) (.out 0 (EE w.bZ m i l,((EE w.bZ m i l).length:Int),()))
 |0,i,l,c,j,k=>by have:=c.len;omega
 |m+1,i,l,c,j,k=>by
  unfold EE;by_cases h:i<l.length
  .rw[bO h];have o:=Be c h;have q:=Bc e d o;have s:=EO (lK (w.bZ.getD (l.getD i 0).toNat bA)) l;obtain⟨a,b⟩:=ED e d m (i+1) _ (c.Mo q.refs) (by omega) (by omega);exact⟨a,.next (V8 e d c h) b⟩
  rw[cm h];have:i=l.length:=by omega
  subst this;refine⟨c,.out (bI λn=>?_)⟩;unfold V9;have:=c.len;have:=d.len;simp(disch:=first|omega|(simp only[lnsq]<;>omega)|fail)only[bL]
def Ef(b:Dl p dd w)(i:Nat):Jd w.bZ.length (dX [] (w.bN.take i)):=
 Jd.Mo ⟨.nil,λx a=>by cases a⟩ λx a=>by have:=b.task x (Wa a);exact⟨this.1,this.2.1⟩
def H9(b:Gy p dd)(a:Dl p dd w):Jd w.bZ.length (rK w):=by have:=Ef a w.bN.length;rw[tL]at this;exact(ED b a (w.bZ.length+1) 0 _ this (Hp _) (by omega)).1
def Cn:∀{ns l:L Int},ns.Nodup->(∀x∈ns,x∉l)->dX l ns=l++ns
 |[],l,_,_=>by simp[dX]
 |x::ns,l,h,c=>by
  have d:=JL.1 h;have e:p9 l x=l++[x]:=by unfold p9;cases f:l.contains x with|true=>exact absurd (JO.1 f) (c x fQ)|false=>rfl
  show dX (p9 l x) ns=_;rw[e,Cn d.2 λy b a=>by
   obtain a|a:=eN.1 a
   exact c y (hJ _ b) a;rw[sE.1 a]at b;exact d.1 b]
  simp
def Ee(a:Dl p dd w):dX [] w.bN=w.bN:=Cn a.PV λx _ h=>by cases h
def e59(d:Gy p dd)(a:Dl p dd w):Ev (λn=>F59 n (w,())) ((rK w,()),()):=by have g:=a.len;have f:=a.tl;have b:=Ef a w.bN.length;rw[tL]at b;unfold F59;show Ev (λn=>ai (iter (V9 n (w,())) n (w.bN,0,())) λc=>bq c (λ_ e=>Z ((e.1,()),())) (λ_ e=>Z (e,())) λ_ _=>Y) _;have:=(ED d a (w.bZ.length+1) 0 _ b (Hp _) (by omega)).2;rw[Ee a]at this;refine Ev.bh this (λn c=>_) _ (bI λn=>?_);unfold rK;rw[Ee a];rfl
end
end
section
variable {p:aB}{dd:List ax}{w:aI}
def e26(t:Gy p dd)(h:Dl p dd w):Ev (λn=>F26 n (w,())) ((nK w,()),()):=by
 have I:=h.len;have y:=h.tl;have g:=H9 t h;have k:=g.len;unfold F26;refine Ev.ai (e59 t h) ?_;generalize l:rK w=b at g k;refine Ev.bh (F:=λn c=>_) (o:=.out 0 ((b.length:Int),((b.take b.length).map (λn=>qi (λx=>iH b x) (gf w n)),[],w.jI,w.dA,w.Used,()),()))
  (gD (s:=λi=>((i:Int),((b.take i).map (λn=>qi (λx=>iH b x) (gf w n)),[],w.jI,w.dA,w.Used,()),())) b.length 0 (λi q=>?_) (bI λn=>?_)) (λn c=>_) _ ?_
 have z:=Be g q;have r:=Bc t h z;have f:((b.take i).map (λn=>qi (λx=>iH b x) (gf w n))).length<=1000:=by rw[rM,xq];omega
 rw[<-take_succ 0 q,A5,show List.map (λn=>qi (λx=>iH b x) (gf w n)) [b.getD i 0]=[qi (λx=>iH b x) (w.bZ.getD (b.getD i 0).toNat bA)]from rfl];generalize(b.take i).map (λn=>qi (λx=>iH b x) (gf w n))=u at f;simp(disch:=first|omega|(simp only[lnsq]<;>omega)|fail)only[bL,GH];generalize A:w.bZ.getD (b.getD i 0).toNat bA=o at r;refine Ev.ai (e60 r.vl (by omega)) ?_;refine Ev.bh (F:=λn c=>_) (o:=.out 0 ((o.Frames.length:Int),(o.Form,o.N,o.jH.map (gS λx=>iH b x),(o.Frames.take o.Frames.length).map (sN λx=>iH b x),()),()))
  (gD (s:=λj=>((j:Int),(o.Form,o.N,o.jH.map (gS λx=>iH b x),(o.Frames.take j).map (sN λx=>iH b x),()),())) o.Frames.length 0 (λj v=>?_) (bI λn=>?_)) (λn c=>_) _ (bI λn=>?_)
 have B:=r.fl;have m:=r.el _ (cN aA v);have C:((o.Frames.take j).map (sN λx=>iH b x)).length<=1000:=by rw[rM,xq];omega
 rw[<-take_succ aA v,A5];have E:∀a,GG (w,()) ((b,()),()) ((i:Int),(u,[],w.jI,w.dA,w.Used,()),()) ((j:Int),a)=o.Frames.getD j aA:=λa=>by rw[<-A];rfl
 simp(disch:=first|omega|(simp only[lnsq]<;>omega)|fail)only[bL,E];refine Ev.ai (e60 m.1 (by omega)) (Ev.ai (e60 m.2 (by omega)) (bI λn=>?_));simp(disch:=first|omega|(simp only[lnsq]<;>omega)|fail)only[bL,bX,ff,fe];rfl;simp(disch:=first|omega|(simp only[lnsq]<;>omega)|fail)only[bL]<;>rfl;rw[fJ,tL];simp(disch:=first|omega|(simp only[lnsq]<;>omega)|fail)only[bL,bX,ff,fe];rfl;simp(disch:=first|omega|(simp only[lnsq]<;>omega)|fail)only[bL]<;>rfl;rw[tL];refine Ev.oI (λn=>fJ ..) ?_;refine Ev.bh (F:=λn c=>_) (o:=.out 0 ((w.bN.length:Int),(b.map (λn=>qi (λx=>iH b x) (gf w n)),(w.bN.take w.bN.length).map (λn=>(iH b n:Int)),w.jI,w.dA,w.Used,()),()))
  (gD (s:=λi=>((i:Int),(b.map (λn=>qi (λx=>iH b x) (gf w n)),(w.bN.take i).map (λn=>(iH b n:Int)),w.jI,w.dA,w.Used,()),())) w.bN.length 0 (λi q=>?_) (bI λn=>?_)) (λn c=>_) _ (bI λn=>?_)
 have f:((w.bN.take i).map (λn=>(iH b n:Int))).length<=1000:=by rw[rM,xq];omega
 rw[<-take_succ 0 q,A5];simp(disch:=first|omega|(simp only[lnsq]<;>omega)|fail)only[bL];refine Ev.ai (e61 (by omega)) (bI λn=>?_);simp(disch:=first|omega|(simp only[lnsq]<;>omega)|fail)only[bL,bX,ff,fe];rfl;simp(disch:=first|omega|(simp only[lnsq]<;>omega)|fail)only[bL]<;>rfl;rw[fJ,tL];unfold nK;rw[l]
end
abbrev z9(x:Int)(m:L (Int×Int)):aa:=xC (A:=sg.A) (Ty.int .i64) x m
abbrev l8(x:Int)(m:L (Int×Int)):Int:=AQ (A:=sg.A) (Ty.int .i64) (0:Int) x m
abbrev J8(x v:Int)(m:L (Int×Int)):L (Int×Int):=gY (A:=sg.A) (Ty.int .i64) x v m
def M1(x k v:Int):∀m:L (Int×Int),z9 x (J8 k v m)=(af x k||z9 x m)
 |[]=>by show(bif af x k then W else J)=(af x k||J);cases af x k<;>rfl
 |q::m=>by
  have a:=M1 x k v m;show z9 x (bif af k q.1 then(k,v)::m else q::J8 k v m)=(af x k||(bif af x q.1 then W else z9 x m));cases h1:af k q.1 with
  |true=>have h1:=kf.1 h1;show(bif af x k then W else z9 x m)=_;rw[<-h1];cases af x k<;>rfl
  |false=>show(bif af x q.1 then W else z9 x (J8 k v m))=_;rw[a];cases af x k<;>cases af x q.1<;>rfl
def RZ(x k v:Int):∀m:L (Int×Int),l8 x (J8 k v m)=bif af x k then v else l8 x m
 |[]=>rfl|q::m=>by
  have a:=RZ x k v m;show l8 x (bif af k q.1 then(k,v)::m else q::J8 k v m)=(bif af x k then v else(bif af x q.1 then q.2 else l8 x m));cases h1:af k q.1 with
  |true=>have h1:=kf.1 h1;show(bif af x k then v else l8 x m)=_;rw[<-h1];cases af x k<;>rfl
  |false=>
   show(bif af x q.1 then q.2 else l8 x (J8 k v m))=_;rw[a];cases h2:af x q.1 with|false=>rfl|true=>rw[kf.1 h2,show af q.1 k=J from oh λe=>by rw[e,u9 rfl]at h1;cases h1];rfl
def pT(s:L (Int×Int)×L Int)(x:Int):L (Int×Int)×L Int:=bif z9 x s.1 then s else(J8 x s.2.length s.1,s.2++[x])
def kS(s:L (Int×Int)×L Int)(ns:L Int):L (Int×Int)×L Int:=ns.foldl pT s
def vA(s:L (Int×Int)×L Int)(a b:L Int):kS s (a++b)=kS (kS s a) b:=List.foldl_append ..
def wH(s:L (Int×Int)×L Int):Prop:=∀x,z9 x s.1=s.2.contains x/\(x∈s.2->l8 x s.1=iH s.2 x)
def MQ:∀{l:L Int}{x y:Int},x∈l->iH (l++[y]) x=iH l x
 |[],_,_,h=>by cases h
 |a::l,x,y,h=>by
  show(bif af a x then 0 else iH (l++[y]) x+1)=(bif af a x then 0 else iH l x+1);cases b:af a x with
  |true=>rfl|false=>
   obtain h|h:=fF.1 h
   rw[u9 h.symm]at b;cases b;rw[gJ,gJ,MQ h]
def MO:∀{l:L Int}{x:Int},x∉l->iH (l++[x]) x=l.length
 |[],x,_=>by show(bif af x x then 0 else _)=0;rw[u9 rfl];rfl
 |a::l,x,h=>by show(bif af a x then 0 else iH (l++[x]) x+1)=_;rw[oh λe=>h (by rw[e];exact fQ),gJ,MO λb=>h (hJ _ b),qP]
theorem wH.step{s:L (Int×Int)×L Int}(h:wH s)(x:Int):wH (pT s x)/\(pT s x).2=p9 s.2 x:=by
 unfold pT p9;rw[(h x).1];cases c:s.2.contains x with
 |true=>exact⟨h,rfl⟩|false=>
  have d:x∉s.2:=λe=>by rw[JO.2 e]at c;cases c
  refine⟨λy=>?_,rfl⟩;rw[gJ];refine⟨?_,λa=>?_⟩;show z9 y (J8 x s.2.length s.1)=_;rw[M1,(h y).1,Bool.eq_iff_iff];simp only[nI,kf,JO,eN,sE];exact or_comm;show l8 y (J8 x s.2.length s.1)=_;rw[RZ];have a:y∈s.2++[x]:=a;by_cases b:y=x;subst b;rw[u9 rfl,gn,MO d];rw[oh b,gJ];obtain a|a:=eN.1 a
  rw[(h y).2 a,MQ a];exact absurd (sE.1 a) b
def wH.pts:∀(ns:L Int){s:L (Int×Int)×L Int},wH s->wH (kS s ns)/\(kS s ns).2=dX s.2 ns
 |[],s,h=>⟨h,rfl⟩|x::ns,s,h=>by obtain⟨a,b⟩:=h.step x;obtain⟨c,d⟩:=wH.pts ns a;refine⟨c,?_⟩;show(kS (pT s x) ns).2=dX (p9 s.2 x) ns;rw[d,b]
def Tq(s:L (Int×Int)×L Int)(x:Int):(pT s x).2.length<=s.2.length+1:=by unfold pT;cases z9 x s.1<;>simp
def Mu:∀(ns:L Int)(s:L (Int×Int)×L Int),(kS s ns).2.length<=s.2.length+ns.length
 |[],s=>cM _|x::ns,s=>by have h1:=Mu ns (pT s x);have h2:=Tq s x;show(kS (pT s x) ns).2.length<=_;rw[qP];omega
abbrev RS:=Int×L (Int×Int)×(L Int×U)×U
def JE{R B P:Type}{vs:L aQ}{s:L (Int×Int)×L Int}(hl:s.2.length<=1000)(g:vs.length<=1000)(F:Nat->RS->O (LO RS R B P))
  (c:∀n d,F n d=aj (aD d.1 (aq vs)) (aU (aL d.1 vs) (aj (af (aX vs (au d.1) aR).1 5) (aj (ak (xC (A:=sg.A) (Ty.int .i64) (aX vs (au d.1) aR).2 d.2.1)) (aU (dJ d.2.2.1.1 [(aX vs (au d.1) aR).2]) (Z (N (aC .i64 d.1 1,gY (A:=sg.A) (Ty.int .i64) (aX vs (au d.1) aR).2 (aq d.2.2.1.1) d.2.1,(di d.2.2.1.1 [(aX vs (au d.1) aR).2],()),())))) (Z (N (aC .i64 d.1 1,d.2)))) (Z (N (aC .i64 d.1 1,d.2))))) (Z (H 0 d))) :
  ic F (0,s.1,(s.2,()),()) (.out 0 ((vs.length:Int),(kS s (dc vs)).1,((kS s (dc vs)).2,()),())):=by
 have e:dc vs=dc (vs.take vs.length):=by rw[tL]
 rw[e];refine gD (s:=λi=>((i:Int),(kS s (dc (vs.take i))).1,((kS s (dc (vs.take i))).2,()),())) vs.length 0 (λi f=>bI λn=>?_) (bI λn=>by rw[c];simp(disch:=first|omega|(simp only[lnsq]<;>omega)|fail)only[bL]);have h1:=Mu (dc (vs.take i)) s;have h2:=H7 (vs.take i);rw[xq]at h2;rw[<-take_succ aR f,wV,vA,H6,c];generalize kS s (dc (vs.take i))=q at h1;obtain⟨m,l⟩:=q;simp only at h1;simp(disch:=first|omega|(simp only[lnsq]<;>omega)|fail)only[bL];cases h5:af (vs.getD i aR).Kind 5 with
 |false=>simp(disch:=first|omega|(simp only[lnsq]<;>omega)|fail)only[bL,bX,ff,fe];rfl
 |true=>
  show TL.aj W (TL.aj (z9 (vs.getD i aR).N m) _ _) _=Z (N (((i+1:Nat):Int),(pT (m,l) (vs.getD i aR).N).1,((pT (m,l) (vs.getD i aR).N).2,()),()));unfold pT;cases h:z9 (vs.getD i aR).N m with|true=>simp(disch:=first|omega|(simp only[lnsq]<;>omega)|fail)only[bL,bX,ff,fe]|false=>simp(disch:=first|omega|(simp only[lnsq]<;>omega)|fail)only[bL,bX,ff,fe]
section
variable {p:aB}{dd:List ax}{M:MP}{w:aI}
structure St2(k:Nat)(s:List (Int×Int)×List Int):Prop where
 m:wH s
 l:Jd k s.2
def St2.pts{k:Nat}{s:L (Int×Int)×L Int}(h:St2 k s){ns:L Int}(hn:∀x∈ns,0<=x/\x<k):St2 k (kS s ns):=by obtain⟨a,b⟩:=wH.pts ns h.m;exact⟨a,by rw[b];exact h.l.Mo hn⟩
def ahd{k:Nat}(A:k<=1000){a b:Int}{vs:L aQ}{e:L aJ}(r:e.length<=1000)(hf:∀f∈e,(∀v∈f.Env,gz p k v)/\∀v∈f.Stack,gz p k v)(j:∀f∈e,f.Env.length<=1000/\f.Stack.length<=1000) :
  ∀(m i:Nat)(s:L (Int×Int)×L Int),i+m=e.length->St2 k s->∃c,∀n,c<=n->∀g,m+4<=g->
   uB n g ((i:Int),(a,b,vs,e,()),s.1,(s.2,()),())=Z ((W,()),(a,b,vs,e,()),(kS s (gI (e.drop i))).1,((kS s (gI (e.drop i))).2,()),())
 |0,i,s,C,t=>⟨0,λn _ g u=>by
  obtain⟨q,rfl⟩:∃q,g=q+4:=⟨g-4,by omega⟩;rw[yf];unfold zk;have:i=e.length:=by omega
  subst this;rw[List.drop_length];simp(disch:=first|omega|(simp only[lnsq]<;>omega)|fail)only[bL];rfl⟩
 |m+1,i,s,C,t=>by
  have h:i<e.length:=by omega
  have z:=cN aA h;obtain⟨F,I⟩:=j _ z;obtain⟨K,Q⟩:=hf _ z;have l:=t.pts (kR K);have w:=l.pts (kR Q);have u:gI (e.drop i)=dc (e.getD i aA).Env++(dc (e.getD i aA).Stack++gI (e.drop (i+1))):=by rw[Wg h,oc,iu h];rfl
  rw[u,vA,vA];obtain⟨S,h1⟩:=ahd A (a:=a) (b:=b) (vs:=vs) r hf j m (i+1) _ (by omega) w;have l0:=t.l.len;have l1:=l.l.len;have r1:=JE (R:=U) (B:=L (Int×Int)×(L Int×U)×U) (P:=Any) (vs:=(e.getD i aA).Env) (s:=s) (by omega) F _ (λn d=>rfl);have r2:=JE (R:=U) (B:=L (Int×Int)×(L Int×U)×U) (P:=Any) (vs:=(e.getD i aA).Stack) (s:=kS s (dc (e.getD i aA).Env)) (by omega) I _ (λn d=>rfl);obtain⟨N2,h2⟩:=Ev.iter r1;obtain⟨N3,h3⟩:=Ev.iter r2;refine⟨S+N2+N3,λn hn g u=>?_⟩;obtain⟨q,rfl⟩:∃q,g=q+4:=⟨g-4,by omega⟩;have h1:=h1 n (by omega) (q+3) (by omega);have h2:=h2 n (by omega);have h3:=h3 n (by omega);rw[yf];unfold zk mK;have o:aC .i64 (i:Int) 1=((i+1:Nat):Int):=by rw[bX (by omega) (by omega)];omega
  have x1:aL (i:Int) e=W:=by simp[aL];omega
  have e1:aX e (au (i:Int)) aA=e.getD i aA:=rfl;refine(lf (show ¬(i:Int)=(e.length:Int)by omega) _ _).trans ?_;refine(Ku (show(0:Int)<=(i:Int)by omega) (show(i:Int)<(e.length:Int)by omega) _).trans ?_;show ai (iter _ n (0,s.1,(s.2,()),())) _=_;refine(lq (λx=>ai x _) h2).trans ?_;rw[oJ,fJ];refine(Ku (show(0:Int)<=(i:Int)by omega) (show(i:Int)<(e.length:Int)by omega) _).trans ?_;refine(lq (λx=>ai x _) h3).trans ?_;rw[oJ,fJ,o];refine(lq (λx=>ai x _) h1).trans ?_;rfl
variable {k i:Nat}{s:List (Int×Int)×List Int}{l:List Int}
def apT(f:k<=1000){o:bK}(e:Sm p k o)(hs:St2 k s) :
  Ev (λn=>uC n (n+10) ((o.Form,o.N,o.jH,o.Frames,()),s.1,(s.2,()),())) ((),(o.Form,o.N,o.jH,o.Frames,()),(kS s (lK o)).1,((kS s (lK o)).2,()),()):=by
 refine Ev.oI (λn=>congrFun (HL n (n+6)) _) ?_;have i:=hs.l.len;have h1:=hs.pts (kR e.v);unfold GS;have g:=JE (R:=U) (B:=L (Int×Int)×(L Int×U)×U) (P:=Any) (vs:=o.jH) (s:=s) (by omega) e.vl _ (λn d=>rfl);refine Ev.bh g (λn d=>_) _ ?_;refine Ev.oI (λn=>fJ ..) ?_;obtain⟨c,h⟩:=ahd f (a:=o.Form) (b:=o.N) (vs:=o.jH) e.fl e.f e.el o.Frames.length 0 _ (by omega) h1;refine Ev.ai (a:=((W,()),(o.Form,o.N,o.jH,o.Frames,()),(kS s (lK o)).1,((kS s (lK o)).2,()),())) ⟨c+1000,λn j=>?_⟩ cE;have:=h n (by omega) (n+9) (by have:=e.fl;omega);rw[List.drop_zero,<-vA]at this;exact this
noncomputable def aas(n:Nat)(c:MB×MP×U)(h:Int×(L (Int×Int))×((L Int)×U)×U):O (LO (Int×(L (Int×Int))×((L Int)×U)×U) U ((L (Int×Int))×((L Int)×U)×U) Any):=
 aj (aD h.1 (aq h.2.2.1.1)) (aU (aL h.1 h.2.2.1.1) (aU (eo (au h.1) h.2.2.1.1) (aU (aL (aX h.2.2.1.1 (au h.1) 0) c.1.1.1) (ai (uC n (n+10) (((AM c h).1,(AM c h).2,(AM c h).3,(AM c h).4,()),h.2)) λi=>Z (N (aC .i64 h.1 1,i.2.2)))))) (Z (H 0 h))
def TJ(d:Gy p dd)(c:Dl p dd w)(hs:St2 w.bZ.length s)(hi:i<s.2.length) :
  Ev (λn=>aas n (mb p dd w,M,()) ((i:Int),s.1,(s.2,()),())) (.next (((i+1:Nat):Int),(kS s (lK (w.bZ.getD (s.2.getD i 0).toNat bA))).1,((kS s (lK (w.bZ.getD (s.2.getD i 0).toNat bA))).2,()),())):=by
 have h:=c.len;have e:=Be hs.l hi;have f:=Bc d c e;have g:=hs.l.len;unfold aas;simp(disch:=first|omega|(simp only[lnsq]<;>omega)|fail)only[bL,AM];refine Ev.ai (apT (by omega) f hs) (bI λn=>?_);simp(disch:=first|omega|(simp only[lnsq]<;>omega)|fail)only[bL,bX,ff,fe]
def BX(a:L bK)(i:Nat)(l:L Int):Prop:=∀j,j<i->j<l.length->∀x∈lK (a.getD (l.getD j 0).toNat bA),x∈l
def WE{x:Int}:x∈p9 l x:=by unfold p9;cases a:l.contains x with|true=>exact JO.1 a|false=>exact kz _ (sE.2 rfl)
def WD(l:L Int)(x:Int):∃t,p9 l x=l++t:=by unfold p9;cases l.contains x with|true=>exact⟨[],by simp⟩|false=>exact⟨[x],rfl⟩
def wX:∀(ns l:L Int),∃t,dX l ns=l++t
 |[],l=>⟨[],by simp[dX]⟩
 |x::ns,l=>by obtain⟨t,h⟩:=WD l x;obtain⟨a,b⟩:=wX ns (p9 l x);exact⟨t++a,by show dX (p9 l x) ns=_;rw[b,h,vw]⟩
def A6:∀{ns l:L Int}{x:Int},x∈ns->x∈dX l ns
 |[],_,_,h=>by cases h
 |y::ns,l,x,h=>by
  show x∈dX (p9 l y) ns;obtain rfl|h:=fF.1 h
  obtain⟨t,a⟩:=wX ns (p9 l x);rw[a];exact eL _ WE;exact A6 h
def BX.next{a:L bK}(h:BX a i l)(hi:i<l.length):BX a (i+1) (dX l (lK (a.getD (l.getD i 0).toNat bA))):=by
 intro j e k x b;obtain⟨t,f⟩:=wX (lK (a.getD (l.getD i 0).toNat bA)) l;have g:∀j,j<l.length->(dX l (lK (a.getD (l.getD i 0).toNat bA))).getD j 0=l.getD j 0:=λj e=>by rw[f,oc,Wf e,<-oc]
 by_cases c:j=i;subst c;rw[g j hi]at b;exact A6 b;have d:j<i:=by omega
 rw[g j (by omega)]at b;have:=h j d (by omega) x b;rw[f];exact eL _ this
def LX:∀(a:L bK)(m i:Nat)(l:L Int),∃t,EE a m i l=l++t
 |_,0,_,l=>⟨[],by simp[EE]⟩
 |a,m+1,i,l=>by unfold EE;split;obtain⟨t,h⟩:=wX (lK (a.getD (l.getD i 0).toNat bA)) l;obtain⟨b,c⟩:=LX a m (i+1) (dX l (lK (a.getD (l.getD i 0).toNat bA)));exact⟨t++b,by rw[c,h,vw]⟩;exact⟨[],by simp⟩
def Ia(g:Gy p dd)(f:Dl p dd w):∀(m i:Nat)(s:L (Int×Int)×L Int),St2 w.bZ.length s->i<=s.2.length->BX w.bZ i s.2->w.bZ.length+1<=i+m->
  ∃s',St2 w.bZ.length s'/\s'.2=EE w.bZ m i s.2/\BX w.bZ s'.2.length s'.2/\ic (λn h=>aas n (mb p dd w,M,()) h) ((i:Int),s.1,(s.2,()),()) (.out 0 ((s'.2.length:Int),s'.1,(s'.2,()),()))
 |0,i,s,e,l,_,o=>by have:=e.l.len;omega
 |m+1,i,s,e,l,j,o=>by
  unfold EE;by_cases h:i<s.2.length
  .rw[bO h];have q:=Be e.l h;have r:=Bc g f q;have u:=EO (lK (w.bZ.getD (s.2.getD i 0).toNat bA)) s.2;have h2:=(wH.pts (lK (w.bZ.getD (s.2.getD i 0).toNat bA)) e.m).2;obtain⟨s',a,b,c,d⟩:=Ia g f m (i+1) (kS s (lK (w.bZ.getD (s.2.getD i 0).toNat bA))) (e.pts r.refs) (by rw[h2];omega) (by rw[h2];exact j.next h) (by omega);rw[h2]at b;exact⟨s',a,b,c,.next (TJ g f e h) d⟩
  rw[cm h];have:i=s.2.length:=by omega
  subst this;refine⟨s,e,rfl,j,.out (bI λn=>?_)⟩;unfold aas;have:=e.l.len;have:=f.len;simp(disch:=first|omega|(simp only[lnsq]<;>omega)|fail)only[bL]
end
section
variable {α:Type}{g:α->α}{vs:List α}{i:Nat}
def rZ(g:α->α)(vs:L α)(i:Nat):L α:=(vs.take i).map g++vs.drop i
def DN:(rZ g vs i).length=vs.length:=by unfold rZ;rw[xu,rM,xq,List.length_drop];omega
def SC(d:α)(h:i<vs.length):(rZ g vs i).getD i d=vs.getD i d:=by
 have a:((vs.take i).map g).length=i:=by rw[rM,xq];omega
 unfold rZ;rw[oc,List.getElem?_append_right (by omega),a,Nat.sub_self,TK,Nat.add_zero,oc]
def SA(d:α)(h:i<vs.length):(rZ g vs i).set i (g (vs.getD i d))=rZ g vs (i+1):=by
 have a:((vs.take i).map g).length=i:=by rw[rM,xq];omega
 unfold rZ;rw[List.set_append_right _ _ (by omega),a,Nat.sub_self,Wg h,List.set_cons_zero,<-take_succ d h,A5,vw];rfl
def SD:rZ g vs vs.length=vs.map g:=by unfold rZ;rw[tL,List.drop_length,tK]
end
section
variable {p:aB}{dd:List ax}{w:aI}
abbrev VS:=L aQ×Int×U
def JW{R B P:Type}{vs:L aQ}{m:L (Int×Int)}(hl:vs.length<=1000)(F:Nat->VS->O (LO VS R B P))
  (f:∀n e,F n e=aj (aD e.2.1 (aq vs)) (aU (aL e.2.1 e.1) (aU (eo (au e.2.1) e.1) (aj (af (aX e.1 (au e.2.1) aR).1 5) (aU (aL e.2.1 e.1) (aU (eo (au e.2.1) e.1) (Z (N (oO e.1 (au e.2.1) (aQ.mk (aX e.1 (au e.2.1) aR).1 (AQ (A:=sg.A) (Ty.int .i64) 0 (aX e.1 (au e.2.1) aR).2 m)),aC .i64 e.2.1 1,()))))) (Z (N (e.1,aC .i64 e.2.1 1,())))))) (Z (H 0 e))) :
  ic F (vs,0,()) (.out 0 (vs.map (gS λx=>l8 x m),(vs.length:Int),())):=by
 have h1:(vs.map (gS λx=>l8 x m),(vs.length:Int),())=(rZ (gS λx=>l8 x m) vs vs.length,(vs.length:Int),()):=by rw[SD]
 rw[h1];refine gD (s:=λi=>(rZ (gS λx=>l8 x m) vs i,(i:Int),())) vs.length 0 (λi h=>bI λn=>?_) (bI λn=>?_);have a:(rZ (gS λx=>l8 x m) vs i).length=vs.length:=DN;have dN:(rZ (gS λx=>l8 x m) vs i).getD i aR=vs.getD i aR:=SC aR h;have u7:=SA (g:=gS λx=>l8 x m) aR h;have c:i<(rZ (gS λx=>l8 x m) vs i).length:=by omega
 generalize j:rZ (gS λx=>l8 x m) vs i=k at a dN u7 c;rw[<-u7,f];by_cases h5:(vs.getD i aR).Kind=5;simp(disch:=first|omega|(simp only[lnsq]<;>omega)|fail)only[bL,dN,h5,bX,ff,fe]
 congr 4
 unfold gS;rw[u9 h5,h5];rfl;simp(disch:=first|omega|(simp only[lnsq]<;>omega)|fail)only[bL,dN,h5,bX,ff,fe];rw[show gS (λx=>l8 x m) (vs.getD i aR)=vs.getD i aR from by unfold gS;rw[oh h5];rfl,VZ c dN.symm];have a:(rZ (gS λx=>l8 x m) vs vs.length).length=vs.length:=DN;rw[f];simp(disch:=first|omega|(simp only[lnsq]<;>omega)|fail)only[bL]<;>rfl
def ahx{m:L (Int×Int)}{a b:Int}{vs:L aQ}{f:L aJ}(hf:f.length<=1000)(hs:∀g∈f,g.Env.length<=1000/\g.Stack.length<=1000) :
  ∀k i:Nat,i+k=f.length->∃d,∀n,d<=n->∀j,k+4<=j->xj n j ((i:Int),(a,b,vs,rZ (sN λx=>l8 x m) f i,()),m,())=Z ((W,()),(a,b,vs,f.map (sN λx=>l8 x m),()),m,())
 |0,i,C=>⟨0,λn _ j E=>by
  obtain⟨q,rfl⟩:∃q,j=q+4:=⟨j-4,by omega⟩;rw[GA];unfold DV;have:i=f.length:=by omega
  subst this;have l:(rZ (sN λx=>l8 x m) f f.length).length=f.length:=DN;rw[<-SD (g:=sN λx=>l8 x m) (vs:=f)];simp(disch:=first|omega|(simp only[lnsq]<;>omega)|fail)only[bL]⟩
 |k+1,i,C=>by
  have o:i<f.length:=by omega
  obtain⟨I,h1⟩:=ahx (m:=m) (a:=a) (b:=b) (vs:=vs) hf hs k (i+1) (by omega);obtain⟨K,Q⟩:=hs _ (cN aA o);have l:(rZ (sN λx=>l8 x m) f i).length=f.length:=DN;have dN:(rZ (sN λx=>l8 x m) f i).getD i aA=f.getD i aA:=SC aA o;have u7:=SA (g:=sN λx=>l8 x m) aA o;rw[<-u7]at h1;generalize u:rZ (sN λx=>l8 x m) f i=h at l dN u7 h1;obtain⟨S,h2⟩:=Ev.iter (JW (R:=U) (B:=U) (P:=Any) (m:=m) K _ (λn e=>rfl));obtain⟨N3,h3⟩:=Ev.iter (JW (R:=U) (B:=U) (P:=Any) (m:=m) Q _ (λn e=>rfl));refine⟨I+S+N3,λn hn j E=>?_⟩;obtain⟨q,rfl⟩:∃q,j=q+4:=⟨j-4,by omega⟩;have h1:=h1 n (by omega) (q+3) (by omega)
  let c:Int×(Int×Int×L aQ×L aJ×U)×L (Int×Int)×U:=((i:Int),(a,b,vs,h,()),m,())
  have h2:tn n c (((f.getD i aA).Env,()),())=_:=h2 n (by omega);have h3:tn n c (((f.getD i aA).Stack,()),())=_:=h3 n (by omega);have v:tq c=f.getD i aA:=dN;have s:i<h.length:=by omega
  let p:L aQ×Int×U:=((f.getD i aA).Env.map (gS λx=>l8 x m),((f.getD i aA).Env.length:Int),())
  have w:kr c p=h.set i (aJ.mk (f.getD i aA).At ((f.getD i aA).Env.map (gS λx=>l8 x m)) (f.getD i aA).Stack (f.getD i aA).mE):=by unfold kr;rw[v];rfl
  have e4:nw c p=aJ.mk (f.getD i aA).At ((f.getD i aA).Env.map (gS λx=>l8 x m)) (f.getD i aA).Stack (f.getD i aA).mE:=by unfold nw;rw[w];show(h.set i _).getD i aA=_;rw[oc,TP s];rfl
  have e5:oO (h.set i (aJ.mk (f.getD i aA).At ((f.getD i aA).Env.map (gS λx=>l8 x m)) (f.getD i aA).Stack (f.getD i aA).mE)) i (aJ.mk (f.getD i aA).At ((f.getD i aA).Env.map (gS λx=>l8 x m)) ((f.getD i aA).Stack.map (gS λx=>l8 x m)) (f.getD i aA).mE)=h.set i (sN (λx=>l8 x m) (f.getD i aA)):=by show(h.set i _).set i _=_;rw[List.set_set];rfl
  rw[GA];have r:aC .i64 (i:Int) 1=((i+1:Nat):Int):=by rw[bX (by omega) (by omega)];omega
  have x1:aL (i:Int) h=W:=by simp[aL];omega
  have y:eo i h=W:=by simp[eo];omega
  have y1:∀z,aL (i:Int) (h.set i z)=W:=λz=>by simp[aL];omega
  have A:∀z,eo i (h.set i z)=W:=λz=>by simp[eo];omega
  show DV n q c=_;unfold DV;refine(lf (show ¬(i:Int)=(h.length:Int)by omega) _ _).trans ?_;refine(lq (λx=>aU x _) x1).trans ?_;rw[CR];refine(lq (λx=>aU x _) y).trans ?_;rw[CR,v,afv,oJ,h2,oJ,fJ];refine(lq (λx=>aU x _) y).trans ?_;rw[CR];show aU (aL (i:Int) (kr c p)) (aU (eo i (kr c p)) (ai (F239 n ((nw c p).3,())) _))=_;rw[w,e4,y1,CR,A,CR,afv,oJ];show ai (tn n c (((f.getD i aA).Stack,()),())) _=_;rw[h3,oJ,fJ];show aU (eo i (h.set i _)) _=_;rw[A,CR];have h5:xj n (q+3) (aC .i64 (i:Int) 1,(a,b,vs,oO (h.set i (aJ.mk (f.getD i aA).At ((f.getD i aA).Env.map (gS λx=>l8 x m)) (f.getD i aA).Stack (f.getD i aA).mE)) i (aJ.mk (f.getD i aA).At ((f.getD i aA).Env.map (gS λx=>l8 x m)) ((f.getD i aA).Stack.map (gS λx=>l8 x m)) (f.getD i aA).mE),()),m,())=Z ((W,()),(a,b,vs,f.map (sN λx=>l8 x m),()),m,()):=by rw[e5,r];exact h1
  show ai (xj n (q+3) (aC .i64 (i:Int) 1,(a,b,vs,oO (h.set i (aJ.mk (f.getD i aA).At ((f.getD i aA).Env.map (gS λx=>l8 x m)) (f.getD i aA).Stack (f.getD i aA).mE)) i (aJ.mk (f.getD i aA).At ((f.getD i aA).Env.map (gS λx=>l8 x m)) ((f.getD i aA).Stack.map (gS λx=>l8 x m)) (f.getD i aA).mE),()),m,())) (λx=>Z x)=_;rw[h5];rfl
variable {m:List (Int×Int)}{o:bK}{g':Int->Int}
def ajT{k:Nat}(f:Sm p k o) :
  Ev (λn=>KG n (n+8) ((o.Form,o.N,o.jH,o.Frames,()),m,())) ((),(o.Form,o.N,o.jH.map (gS λx=>l8 x m),o.Frames.map (sN λx=>l8 x m),()),m,()):=by
 refine Ev.oI (λn=>congrFun (QC n (n+4)) _) ?_;unfold Tc;refine Ev.ai (bI λn=>afv o.jH) ?_;refine Ev.bh (JW (R:=U) (B:=U) (P:=Any) (m:=m) f.vl _ (λn e=>rfl)) (λn d=>_) _ ?_;refine Ev.oI (λn=>fJ ..) ?_;obtain⟨c,h⟩:=ahx (m:=m) (a:=o.Form) (b:=o.N) (vs:=o.jH.map (gS λx=>l8 x m)) f.fl f.el o.Frames.length 0 (by omega);refine Ev.ai (a:=((W,()),(o.Form,o.N,o.jH.map (gS λx=>l8 x m),o.Frames.map (sN λx=>l8 x m),()),m,())) ⟨c+1000,λn g=>?_⟩ cE;exact h n (by omega) (n+7) (by have:=f.fl;omega)
def qh{g g':Int->Int}:∀{vs:L aQ},(∀x∈dc vs,g x=g' x)->vs.map (gS g)=vs.map (gS g')
 |[],_=>rfl|v::vs,h=>by
  rw[mh,mh];have b:dc (v::vs)=bif af v.Kind 5 then v.N::dc vs else dc vs:=rfl
  rw[b]at h;unfold gS;cases a:af v.Kind 5 with
  |true=>
   rw[a,gn]at h;rw[gn,gn,h v.N fQ]
   congr 1
   exact qh λx c=>h x (hJ _ c)
  |false=>
   rw[a,gJ]at h;rw[gJ,gJ]
   congr 1
   exact qh h
def E4{g g':Int->Int}:∀{a:L aJ},(∀x∈gI a,g x=g' x)->a.map (sN g)=a.map (sN g')
 |[],_=>rfl|f::a,h=>by
  rw[mh,mh];have c:gI (f::a)=dc f.Env++(dc f.Stack++gI a):=rfl;rw[c]at h;unfold sN;rw[qh (vs:=f.Env) λx b=>h x (eL _ b),qh (vs:=f.Stack) λx b=>h x (kz _ (eL _ b))]
  congr 1
  exact E4 λx b=>h x (kz _ (kz _ b))
def O7{g:Int->Int}(h:∀x∈lK o,g x=g' x):qi g o=qi g' o:=by unfold qi;rw[qh λx a=>h x (eL _ a),E4 λx a=>h x (kz _ a)]
end
section
variable {p:aB}{dd:List ax}{M:MP}{w:aI}
def Mt(c:Dl p dd w)(i:Nat):St2 w.bZ.length (kS ([],[]) (w.bN.take i))/\(kS ([],[]) (w.bN.take i)).2=dX [] (w.bN.take i):=by obtain⟨a,b⟩:=wH.pts (w.bN.take i) (s:=([],[])) (λx=>⟨rfl,λh=>by cases h⟩);exact⟨⟨a,by rw[b];exact Ef c i⟩,b⟩
def aee(i:Gy p dd)(k:Dl p dd w){s:L (Int×Int)×L Int}(hs:St2 w.bZ.length s)(d:s.2=rK w)(f:BX w.bZ s.2.length s.2) :
  (⟨s.2.map (λn=>qi (λx=>l8 x s.1) (gf w n)),w.bN.map (λn=>l8 n s.1),w.jI,w.dA,w.Used⟩:aI)=nK w:=by
 have e:∀x∈s.2,l8 x s.1=iH s.2 x:=λx a=>(hs.m x).2 a;unfold nK;rw[<-d]
 congr 1
 refine OV λn b=>O7 λx a=>e x ?_;obtain⟨j,c,rfl⟩:=p8 b;refine f j c c x ?_;have g:s.2.getD j 0=s.2[j]:=by rw[oc,iu c];rfl
 rw[g];exact a;refine OV λn b=>e n ?_;rw[d];unfold rK;obtain⟨t,h⟩:=LX w.bZ (w.bZ.length+1) 0 (dX [] w.bN);rw[h];exact eL _ (A6 b)
def apE(k:Gy p dd)(e:Dl p dd w):Ev (λn=>G58 n n (mb p dd w,M,())) ((nK w,()),mb p dd w,M,()):=by
 have P:=e.len;have A:=e.tl;have l:=Mt e w.bN.length;rw[tL]at l;unfold G58;refine Ev.bh (F:=λn c=>_) (o:=.out 0 ((w.bN.length:Int),(kS ([],[]) (w.bN.take w.bN.length)).1,((kS ([],[]) (w.bN.take w.bN.length)).2,()),()))
  (gD (s:=λi=>((i:Int),(kS ([],[]) (w.bN.take i)).1,((kS ([],[]) (w.bN.take i)).2,()),())) w.bN.length 0 (λi f=>bI λn=>?_) (bI λn=>?_)) (λn c=>_) _ ?_
 .have B:=(Mt e i).1.l.len;rw[<-take_succ 0 f,vA];generalize kS ([],[]) (w.bN.take i)=s at B;show _=Z (N (((i+1:Nat):Int),(pT s (w.bN.getD i 0)).1,((pT s (w.bN.getD i 0)).2,()),()));have C:Og (mb p dd w,M,()) ((i:Int),s.1,(s.2,()),())=w.bN.getD i 0:=rfl;simp(disch:=first|omega|(simp only[lnsq]<;>omega)|fail)only[bL,C];show aj (z9 (w.bN.getD i 0) s.1) _ _=_;unfold pT;cases Q:z9 (w.bN.getD i 0) s.1 with|true=>simp(disch:=first|omega|(simp only[lnsq]<;>omega)|fail)only[bL,bX,ff,fe]|false=>simp(disch:=first|omega|(simp only[lnsq]<;>omega)|fail)only[bL,bX,ff,fe]
 simp(disch:=first|omega|(simp only[lnsq]<;>omega)|fail)only[bL]<;>rfl;rw[tL];refine Ev.oI (λn=>fJ ..) ?_;obtain⟨s,r,h,E,g⟩:=Ia k e (w.bZ.length+1) 0 (kS ([],[]) w.bN) l.1 (Hp _) (λj R=>by omega) (by omega);refine Ev.bh g (λn c=>_) _ ?_;refine Ev.oI (λn=>fJ ..) ?_;rw[l.2]at h;have h:s.2=rK w:=h;rw[<-aee k e r h E];have I:=r.l.len;refine Ev.ai (bI λn=>apY w.jI) (Ev.ai (bI λn=>e47 w.dA) ?_);refine Ev.bh (F:=λn c=>_) (o:=.out 0 ((s.2.length:Int),((s.2.take s.2.length).map (λn=>qi (λx=>l8 x s.1) (gf w n)),[],w.jI,w.dA,w.Used,()),s.1,()))
  (gD (s:=λi=>((i:Int),((s.2.take i).map (λn=>qi (λx=>l8 x s.1) (gf w n)),[],w.jI,w.dA,w.Used,()),s.1,())) s.2.length 0 (λi f=>?_) (bI λn=>?_)) (λn c=>_) _ ?_
 have K:=Be r.l f;have y:=Bc k e K;have d:((s.2.take i).map (λn=>qi (λx=>l8 x s.1) (gf w n))).length<=1000:=by rw[rM,xq];omega
 rw[<-take_succ 0 f,A5,show List.map (λn=>qi (λx=>l8 x s.1) (gf w n)) [s.2.getD i 0]=[qi (λx=>l8 x s.1) (w.bZ.getD (s.2.getD i 0).toNat bA)]from rfl];generalize(s.2.take i).map (λn=>qi (λx=>l8 x s.1) (gf w n))=t at d;have z:Of (mb p dd w,M,()) ((s.2.length:Int),s.1,(s.2,()),()) ((i:Int),(t,[],w.jI,w.dA,w.Used,()),s.1,())=w.bZ.getD (s.2.getD i 0).toNat bA:=rfl;generalize u:w.bZ.getD (s.2.getD i 0).toNat bA=o at y z;simp(disch:=first|omega|(simp only[lnsq]<;>omega)|fail)only[bL,u];simp only[z];refine Ev.ai (bI λn=>apO o.Frames) (Ev.ai (ajT (m:=s.1) y) (bI λn=>?_));simp(disch:=first|omega|(simp only[lnsq]<;>omega)|fail)only[bL,bX,ff,fe];rfl;simp(disch:=first|omega|(simp only[lnsq]<;>omega)|fail)only[bL]<;>rfl;rw[tL];refine Ev.oI (λn=>fJ ..) ?_;refine Ev.bh (F:=λn c=>_) (o:=.out 0 ((w.bN.length:Int),(s.2.map (λn=>qi (λx=>l8 x s.1) (gf w n)),(w.bN.take w.bN.length).map (λn=>l8 n s.1),w.jI,w.dA,w.Used,()),()))
  (gD (s:=λi=>((i:Int),(s.2.map (λn=>qi (λx=>l8 x s.1) (gf w n)),(w.bN.take i).map (λn=>l8 n s.1),w.jI,w.dA,w.Used,()),())) w.bN.length 0 (λi f=>bI λn=>?_) (bI λn=>?_)) (λn c=>_) _ (bI λn=>?_)
 have d:((w.bN.take i).map (λn=>l8 n s.1)).length<=1000:=by rw[rM,xq];omega
 have v:∀q,Zl (mb p dd w,M,()) ((i:Int),q,())=w.bN.getD i 0:=λq=>rfl;rw[<-take_succ 0 f,A5];simp(disch:=first|omega|(simp only[lnsq]<;>omega)|fail)only[bL,v,bX,ff,fe];rfl;simp(disch:=first|omega|(simp only[lnsq]<;>omega)|fail)only[bL]<;>rfl;rw[fJ,tL]
def e58(a:Gy p dd)(b:Dl p dd w):Ev (λn=>F58 n (mb p dd w,M,())) ((nK w,()),mb p dd w,M,()):=apE a b
def Z5(hs:Small p)(c:oq w){r:(aI×Int×U)×U}(h1:rE p w->((nK w,0,()),())=r)(h2:¬rE p w->((cV,2,()),())=r):Ev (λn=>F24 n (p,w,())) r:=by unfold F24;refine Gc (bad:=λn=>Z ((cV,2,()),())) hs c (λD a b=>?_) (λh=>by rw[<-h2 h];exact Ev.pure _);rw[<-h1 ⟨D,a,b⟩];exact Ev.ai (e58 (M:=Ys p D) a.ok b) (Ev.pure _)
end
section
section
variable {α β:Type}
def aaZ{l m:L α}(d:α)(hl:l.length=m.length)(h:∀i,i<l.length->l.getD i d=m.getD i d):l=m:=by refine List.ext_getElem hl λi h1 h2=>?_;have:=h i h1;rwa [oc,oc,iu h1,iu h2]at this
abbrev LOE:=LO (Int×U) (aa×U) U Any
def Ev.US{l m:L α}(d:α){F:Nat->Int×U->O LOE}(T:Nat->α->α->Int×U->O LOE)
  (u:∀n c,F n c=aj (aD c.1 (aq l)) (aU (aL c.1 l) (aU (aL c.1 m) (T n (aX l (au c.1) d) (aX m (au c.1) d) c))) (Z (H 0 c))) (hl:l.length<=1000)
  (v:∀a∈l,∀b∈m,∃e:aa,(e=W↔a=b)/\∀i:Nat,i<=1000->Ev (λn=>T n a b ((i:Int),())) (bif e then .next (((i+1:Nat):Int),())else .ret () (J,())))
  {A:Nat->O β} {g:Nat->LOE->O β} {r:β} (h1:l=m->Ev (λn=>g n (.out 0 ((l.length:Int),()))) r) (h2:l≠m->Ev A r/\Ev (λn=>g n (.ret () (J,()))) r) :
  Ev (λn=>aj (ak (af (aq l) (aq m))) (A n) (ai (iter (F n) n (0,())) (g n))) r:=by
 by_cases j:l.length=m.length
 .refine Ev.oI (λn=>(eV _ _ _).trans (pW (show aq l=aq m by simp only[aq];omega) _ _)) ?_;have p:∀i,i<l.length->∃e:aa,(e=W↔l.getD i d=m.getD i d)/\Ev (λn=>F n ((i:Int),())) (bif e then .next (((i+1:Nat):Int),())else .ret () (J,())):=λi f=>by obtain⟨e,a,b⟩:=v _ (cN d f) _ (cN d (show i<m.length by omega));refine⟨e,a,Ev.oI (λn=>?_) (b i (by omega))⟩;rw[u];simp(disch:=first|omega|(simp only[lnsq]<;>omega)|fail)only[bL]
  let q:Nat->aa:=λi=>if h:i<l.length then Classical.choose (p i h)else W
  have k:∀i,i<l.length->(q i=W↔l.getD i d=m.getD i d)/\Ev (λn=>F n ((i:Int),())) (bif q i then .next (((i+1:Nat):Int),())else .ret () (J,())):=λi f=>by have:q i=Classical.choose (p i f):=dif_pos f;rw[this];exact Classical.choose_spec (p i f)
  rcases gU l.length q (λ_=>.ret () (J,())) (λ_ _ h=>by cases h) (λi f=>(k i f).2) (λn=>by rw[u];simp(disch:=first|omega|(simp only[lnsq]<;>omega)|fail)only[bL])with⟨a,t⟩|⟨i,f,a,t⟩;exact Ev.bh t g _ (h1 (aaZ d j λi f=>(k i f).1.1 (a i f)));refine Ev.bh t g _ (h2 λh=>?_).2;subst h;rw[(k i f).1.2 rfl]at a;cases a
 refine Ev.oI (λn=>(eV _ _ _).trans (lf (show aq l≠aq m by simp only[aq];omega) _ _)) (h2 λh=>j (by rw[h])).1
end
def aac{a b:aQ}:bQ (af a.1 b.1) (bQ (af a.2 b.2) W)=W↔a=b:=by obtain⟨x,y⟩:=a;obtain⟨c,d⟩:=b;simp[bQ,af]
def ahn{a b:eJ}:bQ (af a.1 b.1) (bQ (af a.2 b.2) W)=W↔a=b:=by obtain⟨x,y⟩:=a;obtain⟨c,d⟩:=b;simp[bQ,af]
def iJ(e:aa)(i:Nat)(hi:i<=1000):Ev (λ_:Nat=>aj (ak e) (Z (X () (J,()))) (Z (N (aC .i64 (i:Int) 1,())))) ((bif e then .next (((i+1:Nat):Int),())else .ret () (J,())):LOE):=by refine bI λn=>?_;cases e<;>simp(disch:=first|omega|(simp only[lnsq]<;>omega)|fail)only[bL,bX,ff,fe]<;>rfl
def ajP{l m:L Int}(hl:l.length<=1000):∃b,Ev (λn=>F35 n (l,m,())) ((b,()),())/\(b=W↔l=m):=by refine⟨@decide (l=m) (Classical.propDecidable _),?_,by simp⟩;unfold F35;refine Ev.US (0:Int) (λn a b c=>aj (ak (af a b)) (Z (X () (J,()))) (Z (N (aC .i64 c.1 1,())))) (λn c=>rfl) hl (λa _ b _=>⟨af a b,jk,λi d=>iJ _ i d⟩) (λh=>?_) (λh=>?_);rw[@jc _ (_) h];exact cE;rw[@gX _ (_) h];exact⟨cE,cE⟩
def apG{l m:L eJ}(hl:l.length<=1000):∃b,Ev (λn=>F54 n (l,m,())) ((b,()),())/\(b=W↔l=m):=by refine⟨@decide (l=m) (Classical.propDecidable _),?_,by simp⟩;unfold F54;refine Ev.US gj (λn a b c=>aj (ak (bQ (af a.1 b.1) (bQ (af a.2 b.2) W))) (Z (X () (J,()))) (Z (N (aC .i64 c.1 1,())))) (λn c=>rfl) hl (λa _ b _=>⟨_,ahn,λi d=>iJ _ i d⟩) (λh=>?_) (λh=>?_);rw[@jc _ (_) h];exact cE;rw[@gX _ (_) h];exact⟨cE,cE⟩
def Yg{l m:L aQ}(hl:l.length<=1000):∃b,Ev (λn=>F110 n (l,m,())) ((b,()),())/\(b=W↔l=m):=by refine⟨@decide (l=m) (Classical.propDecidable _),?_,by simp⟩;unfold F110;refine Ev.US aR (λn a b c=>aj (ak (bQ (af a.1 b.1) (bQ (af a.2 b.2) W))) (Z (X () (J,()))) (Z (N (aC .i64 c.1 1,())))) (λn c=>rfl) hl (λa _ b _=>⟨_,aac,λi d=>iJ _ i d⟩) (λh=>?_) (λh=>?_);rw[@jc _ (_) h];exact cE;rw[@gX _ (_) h];exact⟨cE,cE⟩
structure SmE(o:bK):Prop where
 v:o.jH.length<=1000
 f:o.Frames.length<=1000
 e:∀g∈o.Frames,g.Env.length<=1000/\g.Stack.length<=1000
def X2{a b:aJ}:a=b↔a.At=b.At/\a.Env=b.Env/\a.Stack=b.Stack/\a.mE=b.mE:=by obtain⟨x,y,z,u⟩:=a;obtain⟨c,d,e,f⟩:=b;simp
variable {a b:aa}{w:aI}
def aj1:j3 a b=W↔a=b:=by cases a<;>cases b<;>simp[j3]
def Rq{α:Type}(h:a=b)(x y:O α):aj (j3 a b) x y=x:=by rw[aj1.2 h];rfl
def LK{α:Type}(h:¬a=b)(x y:O α):aj (j3 a b) x y=y:=by cases c:j3 a b with|true=>exact absurd (aj1.1 c) h|false=>rfl
def ahp{a b:bK}:a=b↔a.Form=b.Form/\a.N=b.N/\a.jH=b.jH/\a.Frames=b.Frames:=by obtain⟨x,y,z,u⟩:=a;obtain⟨c,d,e,f⟩:=b;simp
def VH{a b:aI}:a=b↔a.bZ=b.bZ/\a.bN=b.bN/\a.jI=b.jI/\a.dA=b.dA/\a.Used=b.Used:=by obtain⟨x,y,z,u,v⟩:=a;obtain⟨c,d,e,f,g⟩:=b;simp
def apF{o q:bK}(t:SmE o):∃b,Ev (λn=>F55 n (o,q,())) ((b,()),())/\(b=W↔o=q):=by
 have yes:∀{r:aa×U},o=q->r=(W,())->((@decide (o=q) (Classical.propDecidable _),()),())=(r,()):=λh A=>by rw[@jc _ (_) h,A]
 have no:¬o=q->(((@decide (o=q) (Classical.propDecidable _)),()),())=((J,()),()):=λh=>by rw[@gX _ (_) h]
 refine⟨@decide (o=q) (Classical.propDecidable _),?_,by simp⟩;unfold F55;by_cases h1:o.Form=q.Form;rotate_left;rw[no λh=>h1 (by rw[h])];exact bI λn=>(eV _ _ _).trans ((lf h1 _ _).trans rfl);refine Ev.oI (λn=>(eV _ _ _).trans (pW h1 _ _)) ?_;by_cases h2:o.N=q.N;rotate_left;rw[no λh=>h2 (by rw[h])];exact bI λn=>(eV _ _ _).trans ((lf h2 _ _).trans rfl);refine Ev.oI (λn=>(eV _ _ _).trans (pW h2 _ _)) ?_;obtain⟨b,u,j⟩:=Yg (l:=o.jH) (m:=q.jH) t.v;refine Ev.ai u ?_;cases b with
 |false=>rw[no λh=>by have:=j.2 (by rw[h]);cases this];exact cE
 |true=>
  have h3:=j.1 rfl;refine Ev.oI (λn=>eV W _ _) ?_;refine Ev.US (l:=o.Frames) (m:=q.Frames) aA (λn a b d=>aj (ak (af a.1 b.1)) (Z (X () (J,()))) (aj (ak (j3 a.4 b.4)) (Z (X () (J,()))) (ai (F110 n (a.2,b.2,())) λe=>aj (ak e.1.1) (Z (X () (J,()))) (ai (F110 n (a.3,b.3,())) λg=>aj (ak g.1.1) (Z (X () (J,()))) (Z (N (aC .i64 d.1 1,()))))))) (λn c=>rfl) t.f (λa B b K=>?_) (λh=>?_) (λh=>?_)
  .refine ⟨@decide (a=b) (Classical.propDecidable _),by simp,λi C=>?_⟩;have f:¬a=b->(bif @decide (a=b) (Classical.propDecidable _)then .next (((i+1:Nat):Int),())else .ret () (J,()):LOE)=.ret () (J,()):=λh=>by rw[@gX _ (_) h];rfl
   have y:=t.e a B;by_cases p:a.At=b.At;rotate_left;rw[f λh=>p (by rw[h])];exact bI λn=>(eV _ _ _).trans ((lf p _ _).trans rfl);refine Ev.oI (λn=>(eV _ _ _).trans (pW p _ _)) ?_;by_cases s:a.mE=b.mE;rotate_left;rw[f λh=>s (by rw[h])];exact bI λn=>(eV _ _ _).trans ((LK s _ _).trans rfl);refine Ev.oI (λn=>(eV _ _ _).trans (Rq s _ _)) ?_;obtain⟨E,v,k⟩:=Yg (l:=a.Env) (m:=b.Env) y.1;refine Ev.ai v ?_;cases E with
   |false=>rw[f λh=>by have:=k.2 (by rw[h]);cases this];exact cE
   |true=>
    refine Ev.oI (λn=>eV W _ _) ?_;obtain⟨z,w,x⟩:=Yg (l:=a.Stack) (m:=b.Stack) y.2;refine Ev.ai w ?_;have F:z=@decide (a=b) (Classical.propDecidable _):=by rw[Bool.eq_iff_iff,x,@decide_eq_true_iff _ (Classical.propDecidable _),X2];exact⟨λh=>⟨p,k.1 rfl,h,s⟩,λh=>h.2.2.1⟩
    rw[<-F];exact iJ z i C
  rw[@jc _ (_) (ahp.2 ⟨h1,h2,h3,h⟩)];exact cE;rw[no λI=>h (by rw[I])];exact⟨cE,cE⟩
structure YT(w:aI):Prop where
 o:w.bZ.length<=1000
 t:w.bN.length<=1000
 u:w.jI.length<=1000
 i:w.dA.length<=1000
 s:∀o∈w.bZ,SmE o
def ajS{x:aI}(d:YT w):∃b,Ev (λn=>F18 n (w,x,())) ((b,()),())/\(b=W↔w=x):=by
 have no:¬w=x->(((@decide (w=x) (Classical.propDecidable _)),()),())=((J,()),()):=λh=>by rw[@gX _ (_) h]
 refine⟨@decide (w=x) (Classical.propDecidable _),?_,by simp⟩;unfold F18;by_cases p:w.bZ.length=x.bZ.length;rotate_left;rw[no λh=>p (by rw[h])];exact bI λn=>(eV _ _ _).trans ((lf (show aq w.1≠aq x.1 by simp only[aq];omega) _ _).trans rfl);have f:aq w.1=aq x.1:=by simp only[aq];omega
 refine Ev.oI (λn=>(eV _ _ _).trans (pW f _ _)) ?_;obtain⟨s,t1,t2⟩:=ajP (l:=w.bN) (m:=x.bN) d.t;refine Ev.ai t1 ?_;cases s with
 |false=>rw[no λh=>by have:=t2.2 (by rw[h]);cases this];exact cE
 |true=>
 refine Ev.oI (λn=>eV W _ _) ?_;obtain⟨t,u,j⟩:=apG (l:=w.jI) (m:=x.jI) d.u;refine Ev.ai u ?_;cases t with
 |false=>rw[no λh=>by have:=j.2 (by rw[h]);cases this];exact cE
 |true=>
 refine Ev.oI (λn=>eV W _ _) ?_;obtain⟨v,y,k⟩:=ajP (l:=w.dA) (m:=x.dA) d.i;refine Ev.ai y ?_;cases v with
 |false=>rw[no λh=>by have:=k.2 (by rw[h]);cases this];exact cE
 |true=>
 refine Ev.oI (λn=>eV W _ _) ?_;by_cases h5:w.Used=x.Used;rotate_left;rw[no λh=>h5 (by rw[h])];exact bI λn=>(eV _ _ _).trans ((lf h5 _ _).trans rfl);refine Ev.oI (λn=>(eV _ _ _).trans (pW h5 _ _)) ?_;have key:=Ev.US (l:=w.bZ) (m:=x.bZ) (β:=(aa×U)×U) bA (λn a b c=>ai (F55 n (a,b,())) λh=>aj (ak h.1.1) (Z (X () (J,()))) (Z (N (aC .i64 c.1 1,())))) (λn c=>rfl) d.o (λa z b I=>by
   obtain⟨e,B,C⟩:=apF (o:=a) (q:=b) (d.s a z);exact⟨e,C,λi E=>Ev.ai B (iJ e i E)⟩) (A:=λn=>Jl n) (g:=λn g=>bq g (λ_ _=>Z ((W,()),())) (λ_ i=>Z (i,())) λ_ _=>Y) (r:=((@decide (w=x) (Classical.propDecidable _),()),()))
  (λh=>by rw[@jc _ (_) (VH.2 ⟨h,t2.1 rfl,j.1 rfl,k.1 rfl,h5⟩)];exact cE)
  (λh=>by rw[no λF=>h (by rw[F])];exact⟨cE,cE⟩)
 exact Ev.oI (λn=>((eV _ _ _).trans (pW f _ _)).symm) key
def T7{n:Int}(a:0<=n)(h1:n<w.bZ.length):gf w n∈w.bZ:=by
 have h:n.toNat<w.bZ.length:=by omega
 show w.bZ.getD n.toNat bA∈_;rw[oc,iu h];exact JM h
def O1{p:aB}{dd:L ax}(e:Gy p dd)(d:Dl p dd w):YT (nK w):=by have s:=d.len;have i:=d.tl;have h:=H9 e d;have j:=h.len;refine⟨?_,?_,?_,?_,?_⟩;simp only[nK,rM];omega;simp only[nK,rM];omega;exact fP d.outs (by omega);exact fP d.ins (by omega);intro o k;obtain⟨n,l,rfl⟩:=tJ.1 k;obtain⟨m,h1⟩:=h.2 n l;obtain⟨a,b,c⟩:=(d.obs _ (T7 m h1)).small e;refine⟨by simp only[qi,rM];omega,by simp only[qi,rM];omega,λg q=>?_⟩;obtain⟨f,r,rfl⟩:=tJ.1 q;simp only[sN,rM];have:=c f r;omega
end
section
def iW:L bW->L (Int×Int×Int)->aa
 |[],[]=>W|x::l,y::m=>af x.Op y.1&&(af x.A y.2.1&&(af x.B y.2.2&&iW l m))|_,_=>J
def eqF:L Int->L Int->aa
 |[],[]=>W|x::l,y::m=>af x y&&eqF l m|_,_=>J
def mkP(l:L (Int×Int×Int))(f:L Int)(m:Int):aB:=⟨l.map λy=>⟨y.1,y.2.1,y.2.2⟩,[],f,m,[]⟩
def isP(c:aB)(l:L (Int×Int×Int))(f:L Int)(m:Int):aa:=iW c.dA l&&(c.ez.isEmpty&&(eqF c.cW f&&(af c.Main m&&c.Cons.isEmpty)))
def Ya:∀{l:L bW}{m:L (Int×Int×Int)},iW l m=W->l=m.map λy=>⟨y.1,y.2.1,y.2.2⟩
 |[],[],_=>rfl|⟨a,b,c⟩::l,y::m,h=>by simp only[iW,eM,jk]at h;simp only[mh,h.1,h.2.1,h.2.2.1,Ya h.2.2.2]
 |[],_::_,h=>by cases h
 |_::_,[],h=>by cases h
def Yb:∀{l m:L Int},eqF l m=W->l=m
 |[],[],_=>rfl|x::l,y::m,h=>by simp only[eqF,eM,jk]at h;rw[h.1,Yb h.2]
 |[],_::_,h=>by cases h
 |_::_,[],h=>by cases h
variable {l:List (Int×Int×Int)}{f:List Int}{m:Int}
def aeA{c:aB}(h:isP c l f m=W):c=mkP l f m:=by
 let ⟨a,b,g,n,k⟩:=c
 simp only[isP,eM,jk,List.isEmpty_iff]at h;obtain⟨h1,h2,h3,h4,h5⟩:=h;simp only[mkP,Ya h1,h2,Yb h3,h4,h5]
def SH{n:Nat}{s:L UInt8}(h:(ai (F42 n (s,())) λr=>Z (isP r.1.1 l f m))=Z W):F42 n (s,())=Z ((mkP l f m,()),()):=by
 obtain⟨r,h1,h2⟩:=iQ h;injection h2 with h2
 rw[h1,<-aeA h2]
def tB:L UInt8:=[109,111,100,117,108,101,32,98,32,123,32,102,117,110,32,119,111,114,107,40,99,32,58,32,99,104,97,110,32,105,110,116,41,32,58,32,117,110,105,116,32,61,32,108,101,116,32,120,32,61,32,115,101,110,100,40,99,44,32,53,41,32,105,110,32,115,101,110,100,40,99,44,32,54,41,59,32,102,117,110,32,109,97,105,110,40,117,32,58,32,117,110,105,116,41,32,58,32,105,110,116,32,61,32,108,101,116,32,99,32,61,32,99,104,97,110,32,105,110,32,108,101,116,32,116,32,61,32,115,112,97,119,110,40,102,117,110,32,117,32,61,62,32,119,111,114,107,32,99,41,32,105,110,32,116,97,107,101,40,99,41,32,43,32,114,101,115,101,116,40,49,32,43,32,40,115,104,105,102,116,32,107,32,61,62,32,107,32,40,107,32,49,48,41,41,41,59,32,125]
def tA:L UInt8:=[109,111,100,117,108,101,32,97,32,123,32,102,117,110,32,109,97,105,110,40,117,32,58,32,117,110,105,116,41,32,58,32,105,110,116,32,61,32,108,101,116,32,99,32,61,32,99,101,108,108,40,49,41,32,105,110,32,108,101,116,32,120,32,61,32,111,117,116,40,48,44,32,103,101,116,40,99,41,41,32,105,110,32,108,101,116,32,121,32,61,32,112,117,116,40,99,44,32,105,110,112,117,116,41,32,105,110,32,103,101,116,40,99,41,32,43,32,49,59,32,125]
def cB:aB:=mkP [(4,0,0),(1,5,0),(27,0,0),(9,0,0),(4,0,0),(1,6,0),(27,0,0),(34,0,0),(26,0,0),(9,0,0),(6,18,0),(24,0,0),(9,0,0),(4,1,0),(28,0,0),(31,21,0),(13,0,0),(34,0,0),(5,0,0),(4,1,0),(8,0,0),(1,1,0),(32,25,0),(13,0,0),(34,0,0),(4,3,0),(4,3,0),(1,10,0),(7,0,0),(8,0,0)] [0,8] 1
def cA:aB:=mkP [(1,1,0),(21,0,0),(9,0,0),(4,1,0),(22,0,0),(29,0,0),(9,0,0),(4,1,0),(30,0,0),(23,0,0),(9,0,0),(4,1,0),(22,0,0),(1,1,0),(13,0,0),(34,0,0)] [0] 0
def hB:F42 300 (tB,())=Z ((cB,()),()):=SH (by kernel_rfl)
def hA:ZA 300=Z ((cA,()),()):=SH (s:=tA) (by kernel_rfl)
def Rs(e:bG)(t op n k m:Int):aa:=bQ (af e.1 t) (bQ (af e.2 op) (bQ (af e.3 n) (bQ (af e.4.1 k) (bQ (af e.4.2 m) W))))
noncomputable def gB(n:Nat):O aa:=ai (F13 n (cB,[],())) λd=>ai (F20 n (cB,d.1.1,[0,0,1,1,0,0,1],())) λe=>ai (F24 n (cB,e.1.1,())) λg=>
 Z (af d.1.2.1 0&&(af e.1.2.2.1 0&&(af g.1.2.1 0&&(af (aq e.1.2.1) 7&&(Rs (Jn e) 1 22 0 1 5&&(Rs (Jm e) 0 0 1 1 17&&af (aq g.1.1.1) 2))))))
noncomputable def gA(n:Nat):O aa:=ai (F13 n (cA,[],())) λi=>ai (F28 n (cA,i.1.1,0,())) λk=>
 Z (af i.1.2.1 0&&(af k.1.2.2.2.1 0&&(Rs k.1.2.1 0 16 0 1 1&&af k.1.2.2.1 3)))
def abN:gB 300=Z W:=by kernel_rfl
def abO:gA 300=Z W:=by kernel_rfl
def Pe:F12 300 ()=Z ((W,()),()):=by have a:=abN;have b:=abO;unfold gB at a;unfold gA at b;obtain⟨d,h2,a⟩:=iQ a;obtain⟨e,h3,a⟩:=iQ a;obtain⟨g,h4,a⟩:=iQ a;obtain⟨i,h6,b⟩:=iQ b;obtain⟨k,l,b⟩:=iQ b;simp only[gC,eM]at b a;obtain⟨n,o,p,c,f,h,q⟩:=a;obtain⟨a1,a2,j,r⟩:=b;unfold Rs at f h j;have s:(e.1.2.1.length:Int)=7:=jk.1 c;unfold F12;show ai (F42 300 (tB,())) _=_;rw[hB,oJ,h2,oJ,h3,oJ,h4,oJ,hA,oJ,h6,oJ,oJ,l,oJ];have t:aL 2 e.1.2.1=W:=oW.2 (by omega);have u:aL 5 e.1.2.1=W:=oW.2 (by omega);have f43:∀m:Int,F43 300 (m,())=Z ((⟨1,m⟩,()),()):=λ_=>rfl;simp only[n,o,p,c,q,a1,a2,r,eV,Rp,t,u,CR,f43,oJ,f,h,j]
def kn:Fn [] K4 J:=λ_=>Z ((W,()),())
abbrev cK:kD sg:=⟨[],K4,J,kn⟩
def CK:bz prog 12 cK:=by
 have h:=(k12 300).h;have e:F12 300=kn:=funext λx=>by cases x;exact Pe
 have h:bz prog 12 (⟨[],K4,J,F12 300⟩:kD sg):=h;rw[e]at h;exact h
end
def afJ:L TypeId:=[27,26,22,137,136,135,3,23,90,89,88,9,24,25,92,91,33,32,30,106,105,99,101,64,63,62,104,103,102,4,31,128,127]
noncomputable def ZW(t:TypeId):O Ty:=bif afJ.contains t then Tj.get t else Y
noncomputable def ahg(t:TypeId):aa:=match Tj.get t with|some τ=>rdT sg prog ZW t τ|none=>W
def ad6:afJ.all ahg=W:=by kernel_rfl
def acM(t:TypeId)(τ:Ty)(h:ZW t=Z τ):rdT sg prog ZW t τ=W:=by
 unfold ZW at h;cases a:afJ.contains t with
 |false=>rw[a]at h;cases h
 |true=>rw[a,gn]at h;have:=j5.1 ad6 t (by simpa using a);unfold ahg at this;rw[h]at this;exact this
def laid:laidOutB prog=W:=by kernel_rfl
def own:ownKnob prog.godebug=Y:=by kernel_rfl
end Mn
end
