import Derived.Test.YthlenkomcaiomaaGreatRows
import Derived.WalkKit
import Derived.ProofKit
import Derived.OpenShut
import Derived.KernelRfl
import Derived.Test.YthlenkomcaiomaaGreatE5
set_option linter.all false
set_option maxRecDepth 100000
set_option maxHeartbeats 0
noncomputable section
open Option renaming some->Z,none->Y
open Bool renaming true->W,false->J
open Nat renaming beq->Nq,ble->Nl,blt->Nt,succ->Ns,add->Na
open TL.LO renaming next->N,ret->X,out->H
open TL.Rx renaming ok->G,iN->M
namespace Mn
open Go TL
section
variable {p:aB}{dd:List ax}{M:MP}{w:ai}{at_:Int}
variable {r:Option (ai×Option aE)}{q:Int->aa}{n:Int}
def YG:af (Uu r) 2=!r.isSome:=by
 match r with
 |none=>rfl|some (_,Y)=>rfl|some (_,Z _)=>rfl
def Wo:av (af (Uu r) 2)=r.isSome:=by rw[YG];cases r<;>rfl
def acX:(JZ p dd M w r).2.2=(M,()):=by
 match r with
 |none=>rfl|some (_,Y)=>rfl|some (_,Z _)=>rfl
def oH(n:Nat):L Int:=(List.range n).map λi:Nat=>(i:Int)
def wV(n:Nat):(oH n).length=n:=by simp[oH]
def Ko(n:Nat):oH (n+1)=oH n++[(n:Int)]:=by simp[oH,List.range_succ]
theorem Zy{n i:Nat}(h:i<n):(oH n).getD i 0=(i:Int):=by
 grind[oH,List.getElem?_range]
def gm(p:aB)(w:ai):L Int:=(oH w.aY.length).filter λi=>(ig p w i).isSome
theorem RR{x:Int}:x∈gm p w↔0<=x/\x<w.aY.length/\(ig p w x).isSome=W:=by
 unfold gm oH;simp only[List.mem_filter,wP,List.mem_range];constructor
 grind
 rintro⟨h1,h2,h3⟩
 exact⟨⟨x.toNat,by omega,by omega⟩,h3⟩
def GD:(gm p w).length<=w.aY.length:=gE (List.length_filter_le _ _) (by rw[wV];omega)
def KL(i:Nat):(oH (i+1)).filter q=(oH i).filter q++(bif q (i:Int)then[(i:Int)]else[]):=by rw[Ko,List.filter_append];cases h:q (i:Int)<;>simp[h]
def PL(i:Nat):((oH i).filter q).length<=i:=gE (List.length_filter_le _ _) (by rw[wV];omega)
def e66(d:pX p dd)(b:jr p dd w):Ev (λn=>F66 n (mb p dd w,M,())) ((gm p w,()),mb p dd w,M,()):=by have f:=b.tl;have e:=b.len;unfold F66;refine Ev.bp (kG w.aY.length (λi=>((oH i).filter λi=>(ig p w i).isSome,(i:Int),mb p dd w,M,())) 0 (λi g=>?_) (bC λn=>uL (show(w.aY.length:Int)<=(w.aY.length:Int)by omega) _ _)) (λn c=>_) _ dg;have h:=PL (q:=λi=>(ig p w i).isSome) i;rw[KL];refine Ev.n9 (λn=>nR (show(i:Int)<(w.aY.length:Int)by omega) _ _) ?_;refine Ev.aj (e67 (M:=M) (a:=(i:Int)) d b (by omega) (show(i:Int)<w.aY.length by omega)) (Ev.aj (Vt (w:=w)) (bC λn=>?_));simp only[Wo,acX];cases(ig p w (i:Int)).isSome<;>simp(disch:=first|omega|simp only[hY];omega)only[aV,bQ,fK,fM,iP,Jt,Mc]
def aa3:af (Dm w r).afj 2=!r.isSome:=by
 match r with
 |none=>rfl|some (_,Y)=>rfl|some (_,Z _)=>rfl
def e36(b:pX p dd)(a:jr p dd w):Ev (λn=>F36 n (⟨p,dd⟩,w,())) ((gm p w,()),()):=by have e:=a.tl;have d:=a.len;unfold F36;refine Ev.bp (kG w.aY.length (λi=>((oH i).filter λi=>(ig p w i).isSome,(i:Int),())) 0 (λi f=>?_) (bC λn=>by simp(disch:=omega)only[aV])) (λn c=>_) _ dg;have g:=PL (q:=λi=>(ig p w i).isSome) i;rw[KL];refine Ev.n9 (λn=>nR (show(i:Int)<(w.aY.length:Int)by omega) _ _) ?_;refine Ev.aj (d37 b a (by omega) (show(i:Int)<w.aY.length by omega)) (bC λn=>?_);simp only[aa3];cases(ig p w (i:Int)).isSome<;>simp(disch:=first|omega|simp only[hY];omega)only[aV,bQ,fK,fM,iP,Jt,Mc]
def Ms(a n:Int):Int:=bif aG (a.tmod n) 0 then a.tmod n+n else a.tmod n
theorem Sr(a:Int){n:Int}(h:0<n):0<=Ms a n/\Ms a n<n:=by
 have h1:=Int.tmod_lt_of_pos a h;have h2:=Int.lt_tmod_of_pos a h;unfold Ms;cases b:aG (a.tmod n) 0 with
 |true=>have:=yD.1 b;grind|false=>
  rw[jP]
  grind[adF]
def adw(a:Int)(h:0<n)(b:n<=1000)(c:aG (a.tmod n) 0=W):aJ .i64 (a.tmod n) n=a.tmod n+n:=by have h1:=Int.tmod_lt_of_pos a h;have h2:=Int.lt_tmod_of_pos a h;exact bQ (by omega) (by omega)
inductive VH where
 |Bj|idle (w:ai)|ok (w:ai) (e:aE) (s:Nat)
def UI(p:aB)(w:ai)(pick:Int):Int:=(gm p w).getD (Ms pick (gm p w).length).toNat 0
def jz(p:aB)(w:ai)(pick:Int):VH:=match ej p w.aY.length 0 w 0 with
 |none=>.Bj|some (a,d)=>if gm p a=[]then .idle a else match ig p a (UI p a pick)with
  |none=>.idle a|some (b,e)=>match ej p b.aY.length 0 b (d+1)with
   |none=>.Bj|some (f,c)=>if 5000<c then .Bj else .ok f (e.getD bP) c
def GV{pick:Int}(h:gm p w≠[]):0<=UI p w pick/\UI p w pick<w.aY.length/\∃r,ig p w (UI p w pick)=Z r:=by have d:0<(gm p w).length:=Mf.2 h;have e:=Sr pick (n:=((gm p w).length:Int)) (by omega);obtain⟨a,b,c⟩:=RR.1 (bV (l:=gm p w) (0:Int) (i:=(Ms pick (gm p w).length).toNat) (by omega));exact⟨a,b,afE.1 c⟩
def gj(a:pX p dd)(b:jr p dd w){s:Nat}{w':ai}{s':Nat}(h:ej p w.aY.length 0 w s=Z (w',s')):jr p dd w'/\w'.aY=w.aY/\s<=s'/\(s'<=s\/s'<=5000):=
 Gp a _ 0 w s w' s' b (by omega) h
theorem AJ(h:pX p dd)(n:jr p dd w){pick:Int}:match jz p w pick with
  |.Bj=>True|.idle g=>jr p dd g/\g.aY=w.aY/\∃s,ej p w.aY.length 0 w 0=Z (g,s)|.ok i e s=>jr p dd i/\∃f o,jr p dd f/\ej p f.aY.length 0 f o=Z (i,s):=by
 unfold jz;cases h1:ej p w.aY.length 0 w 0 with
 |none=>trivial|some r=>
  obtain⟨g,j⟩:=r;obtain⟨a,b,c,d⟩:=gj h n h1;simp only;by_cases k:gm p g=[]
  simp_all
  rw[bS k];obtain⟨q,t,r,l⟩:=GV (pick:=pick) k;rw[l];obtain⟨f,e⟩:=r;obtain⟨m,_,_⟩:=si h a q t l;simp only;cases h2:ej p f.aY.length 0 f (j+1)with
  |none=>trivial|some r=>
   obtain⟨i,u⟩:=r;simp only;by_cases h5:5000<u
   simp_all
   rw[bS h5];exact⟨(gj h m h2).1,f,j+1,m,h2⟩
def y5(p:aB)(dd:L ax)(M:MP)(R:MB×MP×U):VH->(aE×Int×Int×U)×MB×MP×U
 |.Bj=>((bP,0,8,()),R)|.idle a=>((bP,0,5,()),mb p dd a,M,())|.ok b e s=>((e,(s:Int),0,()),mb p dd b,M,())
def Tc{α:Type}{a:Int}(h:a≠0)(x:O α):aS (nzI a) x=x:=by simp[nzI,aS,h]
def ac5(a:Int)(h:0<n)(c:n<=1000):uD (aJ .i64 (uD a n) n) n=Ms a n:=by
 have h1:=Int.tmod_lt_of_pos a h;have h2:=Int.lt_tmod_of_pos a h;show(aJ .i64 (a.tmod n) n).tmod n=_;rw[bQ (by omega) (by omega)];unfold Ms;cases b:aG (a.tmod n) 0 with
 |true=>have:=yD.1 b;rw[iq,Int.tmod_eq_of_lt (by omega) (by omega)]
 |false=>
  rw[jP];have:¬a.tmod n<0:=λh=>by rw[adF h]at b;cases b
  rw[Int.tmod_eq_emod_of_nonneg (by omega),Int.add_emod_right,Int.emod_eq_of_lt (by omega) (by omega)]
theorem e57(d:pX p dd)(q:jr p dd w)(pick:Int):∃R,Ev (λn=>F57 n (mb p dd w,M,pick,())) (y5 p dd M R (jz p w pick)):=by
 unfold jz;obtain⟨c,k,a,b⟩|⟨a,R,b⟩:=e48 (M:=M) d q (s:=0) (by omega)
 rotate_left;rw[a];exact⟨R,Ev.aj b dg⟩;rw[a];simp only;obtain⟨f,I,K,P⟩:=gj d q a;have S:=f.tl;have B:=f.len;have C:=GD (p:=p) (w:=c);by_cases i:gm p c=[];rw[bH i];refine⟨(mb p dd w,M,()),Ev.aj b (Ev.aj (e66 d f) (bC λn=>?_))⟩;simp only[i];rfl;rw[bS i];obtain⟨t,u,r,o⟩:=GV (pick:=pick) i;rw[o];obtain⟨E,e⟩:=r;obtain⟨v,_,_⟩:=si d f t u o;have x:0<(gm p c).length:=Mf.2 i;have y:=Sr pick (n:=((gm p c).length:Int)) (by omega);have j:aJ .i64 (k:Int) 1=((k+1:Nat):Int):=by grind[bQ]
 have key:∀{R:(aE×Int×Int×U)×MB×MP×U},(Ev (λn=>aj (F48 n (mb p dd E,M,((k+1:Nat):Int),())) λg=>ak (av g.1.2.1) (Rg n g) (ak (aG 5000 g.1.1) (Rg n g) (Z ((e.getD bP,g.1.1,0,()),g.2)))) R)->Ev (λn=>F57 n (mb p dd w,M,pick,())) R:=by intro R h;unfold F57;refine Ev.aj b (Ev.aj (e66 d f) ?_);refine Ev.n9 (λn=>Fq (show ¬((gm p c).length:Int)=0 by omega) _ _) ?_;refine Ev.n9 (λn=>Tc (show((gm p c).length:Int)≠0 by omega) _) ?_;refine Ev.n9 (λn=>Tc (show((gm p c).length:Int)≠0 by omega) _) ?_;simp only[eZ,ac5 pick (show 0<((gm p c).length:Int)by omega) (show((gm p c).length:Int)<=1000 by omega)];refine Ev.n9 (λn=>BL y.1 y.2 _) ?_;have z:=e67 (M:=M) d f t u;rw[o]at z;refine Ev.aj z ?_;refine Ev.n9 (λn=>?_) h;simp only[j];cases e<;>rfl
 obtain⟨A,F,l,m⟩|⟨l,R,m⟩:=e48 (M:=M) d v (s:=k+1) (by omega)
 simp only[l];have h3:=(gj d v l).2.2;by_cases h5:5000<F;rw[bH h5];exact⟨(mb p dd A,M,()),key (Ev.aj m (bC λn=>by simp(disch:=omega)only[aV]<;>rfl))⟩;rw[bS h5];exact⟨(mb p dd A,M,()),key (Ev.aj m (bC λn=>by simp(disch:=omega)only[aV]<;>rfl))⟩;simp only[l];exact⟨R,key (Ev.aj m dg)⟩
def e62(n:Nat)(a:Int){m:Int}(h:0<m)(b:m<=1000):F62 n (a,m,())=Z ((Ms a m,()),()):=by unfold F62 Ms;rw[show uD (a,m,()).1 (a,m,()).2.1=a.tmod m from rfl];refine(Tc (show m≠0 by omega) _).trans ?_;cases c:aG (a.tmod m) 0 with|true=>rw[iq,<-adw a h b c];rfl|false=>rfl
def Ui(a:ai):VH->(ai×aE×Int×Int×U)×U
 |.Bj=>((a,bP,0,8,()),())|.idle b=>((b,bP,0,5,()),())|.ok c e s=>((c,e,(s:Int),0,()),())
theorem e30(f:pX p dd)(t:jr p dd w)(pick:Int):∃c,Ev (λn=>F30 n (⟨p,dd⟩,w,pick,())) (Ui c (jz p w pick)):=by
 unfold jz;obtain⟨d,i,a,b⟩|⟨a,d,i,b⟩:=e29 f t (s:=0) (by omega)
 rotate_left;rw[a];exact⟨d,Ev.aj b dg⟩;rw[a];simp only;obtain⟨g,I,K,P⟩:=gj f t a;have S:=g.tl;have C:=g.len;have E:=GD (p:=p) (w:=d);by_cases j:gm p d=[];rw[bH j];refine⟨w,Ev.aj b (Ev.aj (e36 f g) (bC λn=>?_))⟩;simp only[j];rfl;rw[bS j];obtain⟨u,v,r,q⟩:=GV (pick:=pick) j;rw[q];obtain⟨F,e⟩:=r;obtain⟨x,_,_⟩:=si f g u v q;have y:0<(gm p d).length:=Mf.2 j;have z:=Sr pick (n:=((gm p d).length:Int)) (by omega);have k:aJ .i64 (i:Int) 1=((i+1:Nat):Int):=by grind[bQ]
 have key:∀{R:(ai×aE×Int×Int×U)×U},(Ev (λn=>aj (F29 n (⟨p,dd⟩,F,((i+1:Nat):Int),())) λh=>ak (av h.1.2.2.1) (Rj n h) (ak (aG 5000 h.1.2.1) (Rj n h) (Z ((h.1.1,e.getD bP,h.1.2.1,0,()),())))) R)->Ev (λn=>F30 n (⟨p,dd⟩,w,pick,())) R:=by intro R h;refine Ev.aj b (Ev.aj (e36 f g) ?_);refine Ev.n9 (λn=>Fq (show ¬((gm p d).length:Int)=0 by omega) _ _) ?_;refine Ev.aj (bC λn=>e62 n pick (show 0<((gm p d).length:Int)by omega) (show((gm p d).length:Int)<=1000 by omega)) ?_;refine Ev.n9 (λn=>BL z.1 z.2 _) ?_;have A:=d37 f g u v;rw[q]at A;refine Ev.aj A ?_;refine Ev.n9 (λn=>?_) h;simp only[k];cases e<;>rfl
 obtain⟨l,B,m,o⟩|⟨m,l,B,o⟩:=e29 f x (s:=i+1) (by omega)
 simp only[m];have h3:=(gj f x m).2.2;by_cases h5:5000<B;rw[bH h5];exact⟨l,key (Ev.aj o (bC λn=>by simp(disch:=omega)only[aV]<;>rfl))⟩;rw[bS h5];exact⟨l,key (Ev.aj o (bC λn=>by simp(disch:=omega)only[aV]<;>rfl))⟩;simp only[m];exact⟨l,key (Ev.aj o dg)⟩
end
section
variable {n:Nat}{p:aB}{dd:List ax}{w:ai}
theorem dB.sm{k:Nat}{l:Int}(b:pX p dd)(hl:0<=l){g:aq}(a:dB p dd k l g):g.Env.length<=30/\g.Stack.length<=60:=by have h1:=a.el;have h2:=a.sl;have:=b.dep.ok g.At a.lo a.hi a.re;omega
theorem fX.small(e:pX p dd){k:Nat}{o:bG}(h:fX p dd k o):o.fL.length<=40/\o.Frames.length<=50/\∀g∈o.Frames,g.Env.length<=40/\g.Stack.length<=70:=by
 have fr:∀{g:aq}{l:Int},0<=l->dB p dd k l g->g.Env.length<=40/\g.Stack.length<=70:=λj m=>by have:=m.sm e j;omega
 cases h with
 | @data n q a b c d=>
  have:=(e.cons _ (bV br (show n.toNat<p.Cons.length by omega))).2
  grind[lz]
 | @func n q a b c=>
  obtain⟨i,f,h1,h2,h3,h4⟩:=a;have r:=e.dep.ok i f h1 h3;have:=e.dep.step i f h1 h3 (n,cm 0 ((ee dd i).Env+1)) (by simp[dV,h2,h4])
  grind[cm]
 |cell a=>simp_all|chan a b=>grind|Bo a b c=>grind|se a b c=>
  grind
 |done a=>simp_all|dead a=>simp_all
def tN{R B P:Type}(len:Nat)(hl:len<=1000000){F:Nat->Int×U->O (LO (Int×U) R B P)}(h:∀i,i<len->Ev (λn=>F n ((i:Int),())) (.next (((i+1:Nat):Int),())))(a:∀n,F n ((len:Int),())=Z (.out 0 ((len:Int),()))) :
  fu F (0,()) (.out 0 ((len:Int),())):=kG (s:=λi=>((i:Int),())) len 0 h (bC a)
def e35{l:L Int}(hl:l.length<=1000):Ev (λn=>F35 n (l,l,())) ((W,()),()):=by
 unfold F35;simp only[aV];refine Ev.bp (F:=λn c=>_) (tN l.length (by omega) (λi a=>bC λn=>?_) λn=>?_) (λn c=>_) _ dg;simp(disch:=omega)only[aV,bQ,fK,fM]<;>rfl
 simp_all[aV]
def e54{l:L ec}(hl:l.length<=1000):Ev (λn=>F54 n (l,l,())) ((W,()),()):=by
 unfold F54;simp only[aV];refine Ev.bp (F:=λn c=>_) (tN l.length (by omega) (λi a=>bC λn=>?_) λn=>?_) (λn c=>_) _ dg;simp(disch:=omega)only[aV,bQ,fK,fM]<;>rfl
 simp_all[aV]
theorem aiO(b:aa):bR W b=b:=rfl
def aiB{l:L aA}(hl:l.length<=1000):Ev (λn=>F110 n (l,l,())) ((W,()),()):=by
 unfold F110;simp only[aV];refine Ev.bp (F:=λn c=>_) (tN l.length (by omega) (λi a=>bC λn=>?_) λn=>?_) (λn c=>_) _ dg;simp(disch:=omega)only[aV,aiO,Nb,bQ,fK,fM]<;>rfl
 simp_all[aV]
def e55{o:bG}(h1:o.fL.length<=40)(h2:o.Frames.length<=50)(h3:∀g∈o.Frames,g.Env.length<=40/\g.Stack.length<=70):Ev (λn=>F55 n (o,o,())) ((W,()),()):=by
 unfold F55 Ri Rh;have d:∀b,pZ b b=W:=λb=>by cases b<;>rfl
 simp only[aV];refine Ev.aj (aiB (by omega)) ?_;simp only[aV];refine Ev.bp (F:=λn c=>_) (tN o.Frames.length (by omega) (λi e=>?_) λn=>?_) (λn c=>_) _ dg;have a:=h3 _ (bV aT e);simp(disch:=omega)only[aV,d];refine Ev.aj (aiB (gE a.1 (by decide))) ?_;simp only[aV];refine Ev.aj (aiB (gE a.2 (by decide))) (bC λn=>?_);simp(disch:=omega)only[aV,bQ,fK,fM]<;>rfl
 simp_all[aV]
def e18(d:pX p dd)(a:jr p dd w):Ev (λn=>F18 n (w,w,())) ((W,()),()):=by
 have e:=a.len;have f:=a.tl;have g:=a.outs;have b:=a.ins;unfold F18;simp only[aV];refine Ev.aj (e35 (by omega)) ?_;simp only[aV];refine Ev.aj (e54 (by omega)) ?_;simp only[aV];refine Ev.aj (e35 (by omega)) ?_;simp only[aV];refine Ev.bp (F:=λn c=>_) (tN w.aQ.length (by omega) (λi b=>?_) λn=>?_) (λn c=>_) _ dg;obtain⟨h1,h2,h3⟩:=(a.obs _ (bV bD b)).small d;simp(disch:=omega)only[aV];refine Ev.aj (e55 h1 h2 h3) (bC λn=>?_);simp(disch:=omega)only[aV,bQ,fK,fM]<;>rfl
 simp_all[aV]
def e16:Ev (λn=>F16 n (cX,())) ((W,()),()):=by unfold F16 F18;refine Ev.aj (a:=((W,()),())) ?_ (Ev.pure _);have z:au cX.1=0:=rfl;have b:af cX.5 cX.5=W:=rfl;simp only[z,b];simp only[aV];refine Ev.aj (e35 (l:=[]) (by simp)) ?_;simp only[aV];refine Ev.aj (e54 (l:=[]) (by simp)) ?_;simp only[aV];refine Ev.aj (e35 (l:=[]) (by simp)) ?_;simp only[aV];refine Ev.bp (F:=λn c=>_) (fu.out (j:=0) (y:=(0,())) (bC λn=>?_)) (λn c=>_) _ dg;rfl
def e23{l:L aE}(hl:l.length<=1000):Ev (λn=>F23 n (l,l,())) ((W,()),()):=by
 unfold F23;refine Ev.n9 (λn=>(Fp ..).trans (RJ rfl _ _)) ?_;refine Ev.all (l:=l) bP (λ_=>W) (λ_=>.ret () (J,())) (λ_ _ h=>by cases h) (λi a=>bC λn=>?_) (λn=>by simp(disch:=omega)only[aV]) (λb=>dg) (λi a b=>?_);unfold LA;simp(disch:=omega)only[aV,bR,Ma,bQ,fK,fM]
 simp_all
def e21(hs:Small p)(d:pI w):(∃D,Rt p D/\jr p D w/\Ev (λn=>F21 n (p,w,())) ((⟨p,D⟩,W,()),()))\/((¬∃D,Rt p D/\jr p D w)/\∃m,Ev (λn=>F21 n (p,w,())) ((m,J,()),())):=by
 unfold F21;obtain⟨D,c,h⟩|⟨e,m,h⟩:=e14 hs
 obtain⟨a,b⟩|⟨a,b⟩:=e32 c.ok hs d
 exact .inl ⟨D,c,a,Ev.aj h (Ev.aj b (Ev.pure _))⟩;exact .inr ⟨λ⟨E,f,g⟩=>a (c.uniq f▸g),_,Ev.aj h (Ev.aj b (Ev.pure _))⟩;exact .inr ⟨λ⟨D,a,_⟩=>e ⟨D,a⟩,_,Ev.aj h (Ev.pure _)⟩
end
section
variable {n:Nat}{p:aB}{dd:List ax}{w:ai}{M:MP}
theorem am0(k:Int):F103 n (k,())=Z ((k,()),()):=rfl
variable {i:Nat}
def Of{α:Type}{l:L α}{d x:α}(h:i<l.length)(a:x=l.getD i d):l.set i x=l:=by
 simp_all
def Dq{l:L aA}(hl:l.length<=1000):Ev (λn=>mW n ((l,()),())) (.out 0 (l,(l.length:Int),())):=by
 unfold mW;refine Ev.iter (F:=λn c=>_) (kG (s:=λi=>(l,(i:Int),())) l.length 0 (λi a=>bC λn=>?_) (bC λn=>?_));by_cases h5:(l.getD i bA).Kind=5;simp(disch:=omega)only[aV,h5,am0,bQ,fK,fM];rw[Of a (by rw[<-h5])];simp(disch:=omega)only[aV,h5,bQ,fK,fM]<;>rfl
 simp_all[aV]
def tU{fs:L aq}(hi:i<fs.length):lM fs i (aq.mk (fs.getD i aT).At (fs.getD i aT).Env (fs.getD i aT).Stack (fs.getD i aT).dO)=fs:=Of hi rfl
theorem Qo{a b:Int}{vs:L aA}{fs:L aq}(hf:fs.length<=1000)(hs:∀g∈fs,g.Env.length<=1000/\g.Stack.length<=1000) :
  ∀m i:Nat,i+m=fs.length->∃c,∀n,c<=n->∀d,m+4<=d->Ch n d ((i:Int),(a,b,vs,fs,()),())=Z ((W,()),(a,b,vs,fs,()),())
 |0,i,h=>⟨0,λn _ d j=>by
  obtain⟨k,rfl⟩:∃k,d=k+4:=⟨d-4,by omega⟩
  simp_all[IT,NM,aV]⟩
 |m+1,i,h=>by
  have e:i<fs.length:=by omega
  obtain⟨l,h1⟩:=Qo (a:=a) (b:=b) (vs:=vs) hf hs m (i+1) (by omega);obtain⟨o,p⟩:=hs _ (bV aT e);obtain⟨q,h2⟩:=Dq o;obtain⟨r,h3⟩:=Dq p;refine⟨l+q+r,λn t d j=>?_⟩;obtain⟨k,rfl⟩:∃k,d=k+4:=⟨d-4,by omega⟩;have h1:=h1 n (by omega) (k+3) (by omega);have h2:mW n (((fs.getD i aT).Env,()),())=_:=h2 n (by omega);have h3:mW n (((fs.getD i aT).Stack,()),())=_:=h3 n (by omega);have u:uE ((i:Int),(a,b,vs,fs,()),())=fs.getD i aT:=rfl;have s:qP ((i:Int),(a,b,vs,fs,()),()) ((fs.getD i aT).Env,((fs.getD i aT).Env.length:Int),())=fs:=tU e;have v:qO ((i:Int),(a,b,vs,fs,()),()) ((fs.getD i aT).Env,((fs.getD i aT).Env.length:Int),())=fs.getD i aT:=by unfold qO;rw[s];rfl
  have w:lM fs i (aq.mk (fs.getD i aT).At (fs.getD i aT).Env (fs.getD i aT).Stack (fs.getD i aT).dO)=fs:=tU e;rw[IT];unfold NM;have f:aJ .i64 (i:Int) 1=((i+1:Nat):Int):=by grind[bQ]
  have x:aM (i:Int) fs=W:=by simp[aM];omega
  have y:ei i fs=W:=by simp[ei];omega
  refine(Fq (show ¬(i:Int)=(fs.length:Int)by omega) _ _).trans ?_
  simp_all[ZF,abd,aeJ,uy,lP]
theorem e49(q:pX p dd)(e:jr p dd w):Ev (λn=>F49 n (mb p dd w,M,())) ((w,()),mb p dd w,M,()):=by
 have F:=e.len;have r:=e.tl;unfold F49 G49;have t:fu (R:=U) (B:=U) (P:=Any) (λn d=>ak (aG d.2.1 (au w.aQ)) (aS (dI d.1 [d.2.1]) (Z (N (dx d.1 [d.2.1],aJ .i64 d.2.1 1,())))) (Z (H 0 d))) ([],0,()) (.out 0 (oH w.aQ.length,(w.aQ.length:Int),())):=by refine kG (s:=λi=>(oH i,(i:Int),())) w.aQ.length 0 (λi c=>bC λn=>?_) (bC λn=>by simp(disch:=omega)only[aV]);have u:=wV i;simp(disch:=first|omega|simp only[hY];omega)only[aV,bQ,fK,fM,Ko]
 refine Ev.bp t (λn d=>_) _ ?_;refine Ev.n9 (λn=>lP ..) ?_;have v:fu (R:=U) (B:=(L bG×L Int×L ec×L Int×Int×U)×U) (P:=Any) (λn(j:Int×(L bG×L Int×L ec×L Int×Int×U)×U)=>ak (aG j.1 (au (oH w.aQ.length))) (aS (aM j.1 (oH w.aQ.length)) (aS (ei (aC j.1) (oH w.aQ.length)) (aS (aM (bE (oH w.aQ.length) (aC j.1) 0) w.aQ) (aj (F238 n ((zy (mb p dd w,M,()) (oH w.aQ.length,(w.aQ.length:Int),()) j).4,())) λk=>aj (FP n (n+8) (((zy (mb p dd w,M,()) (oH w.aQ.length,(w.aQ.length:Int),()) j).1,(zy (mb p dd w,M,()) (oH w.aQ.length,(w.aQ.length:Int),()) j).2,(zy (mb p dd w,M,()) (oH w.aQ.length,(w.aQ.length:Int),()) j).3,k.1),())) λl=>aS (dI j.2.1.1 [bG.mk l.2.1.1 l.2.1.2.1 l.2.1.2.2.1 l.2.1.2.2.2.1]) (Z (N (aJ .i64 j.1 1,(dx j.2.1.1 [bG.mk l.2.1.1 l.2.1.2.1 l.2.1.2.2.1 l.2.1.2.2.2.1],j.2.1.2),()))))))) (Z (H 0 j)))
   (0,([],[],w.mg,w.dJ,w.Used,()),()) (.out 0 ((w.aQ.length:Int),(w.aQ.take w.aQ.length,[],w.mg,w.dJ,w.Used,()),())):=by
  refine kG (s:=λi=>((i:Int),(w.aQ.take i,[],w.mg,w.dJ,w.Used,()),())) w.aQ.length 0 (λi c=>?_) (bC λn=>?_);obtain⟨h1,h2,h3⟩:=(e.obs _ (bV bD c)).small q;obtain⟨x,f⟩:=Dq (l:=(w.aQ.getD i bD).fL) (by omega);obtain⟨y,h⟩:=Qo (a:=(w.aQ.getD i bD).Form) (b:=(w.aQ.getD i bD).N) (vs:=(w.aQ.getD i bD).fL) (fs:=(w.aQ.getD i bD).Frames) (by omega) (λg I=>by grind) (w.aQ.getD i bD).Frames.length 0 (by omega);refine⟨x+y+1000,λn u=>?_⟩;have f:mW n (((w.aQ.getD i bD).fL,()),())=_:=f n (by omega);have h:Ch n (n+7) (0,((w.aQ.getD i bD).Form,(w.aQ.getD i bD).N,(w.aQ.getD i bD).fL,(w.aQ.getD i bD).Frames,()),())=_:=h n (by omega) (n+7) (by omega);have z:FP n (n+8) (((w.aQ.getD i bD).Form,(w.aQ.getD i bD).N,(w.aQ.getD i bD).fL,(w.aQ.getD i bD).Frames,()),())=Z ((),((w.aQ.getD i bD).Form,(w.aQ.getD i bD).N,(w.aQ.getD i bD).fL,(w.aQ.getD i bD).Frames,()),()):=by
   rw[show n+8=(n+4)+4 from rfl,TK]
   grind[VT,aeJ,uy,aj,mW,bD,lP]
  have e0:bE (oH w.aQ.length) (aC (i:Int)) 0=(i:Int):=Zy c;have A:zy (mb p dd w,M,()) (oH w.aQ.length,(w.aQ.length:Int),()) ((i:Int),(w.aQ.take i,[],w.mg,w.dJ,w.Used,()),())=w.aQ.getD i bD:=by unfold zy;simp only[e0];rfl
  have C:=wV w.aQ.length;simp only[A,aeK,uy,z,e0];simp(disch:=first|omega|simp only[hY];omega)only[aV,bQ,fK,fM];rw[show bG.mk (w.aQ.getD i bD).Form (w.aQ.getD i bD).N (w.aQ.getD i bD).fL (w.aQ.getD i bD).Frames=w.aQ.getD i bD from rfl,take_succ bD c]
  simp_all[wV,aV]
 have E:fu (R:=U) (B:=(L bG×L Int×L ec×L Int×Int×U)×U) (P:=Any) (λn(m:Int×(L bG×L Int×L ec×L Int×Int×U)×U)=>ak (aG m.1 (au w.aY)) (aS (aM m.1 w.aY) (aj (F103 n (bE w.aY (aC m.1) 0,())) λo=>aS (dI m.2.1.2.1 [o.1.1]) (Z (N (aJ .i64 m.1 1,(m.2.1.1,dx m.2.1.2.1 [o.1.1],m.2.1.2.2),()))))) (Z (H 0 m)))
   (0,(w.aQ.take w.aQ.length,[],w.mg,w.dJ,w.Used,()),()) (.out 0 ((w.aY.length:Int),(w.aQ.take w.aQ.length,w.aY.take w.aY.length,w.mg,w.dJ,w.Used,()),())):=by
  refine kG (s:=λi=>((i:Int),(w.aQ.take w.aQ.length,w.aY.take i,w.mg,w.dJ,w.Used,()),())) w.aY.length 0 (λi c=>bC λn=>?_) (bC λn=>by simp(disch:=omega)only[aV]);simp(disch:=first|omega|simp only[hY];omega)only[aV,am0,bQ,fK,fM];rw[take_succ 0 c]
 refine Ev.aj (bC λn=>atI w.mg) (Ev.aj (bC λn=>e47 w.dJ) ?_);refine Ev.bp v (λn d=>_) _ ?_;refine Ev.n9 (λn=>lP ..) ?_;refine Ev.bp E (λn d=>_) _ (bC λn=>?_);rw[lP];simp only[RW];rfl
end
section
variable {p:aB}{dd:List ax}{M:MP}{w w':ai}{left:List aq}{f:aq}{at_ t n:Int}{v u:aA}{i:bT}{l:List aA}
structure Ex(w w':ai)(t:Int):Prop where
 le:w.aQ.length<=w'.aQ.length
 same:∀x:Int,0<=x->x<w.aQ.length->x≠t->cN w' x=cN w x
 f1:(cN w t).Form=6
 f2:(cN w' t).Form=6
def Pl(r:tq):Prop:=∃w fr,r=.go w fr Y
structure Q(w:ai)(r r':tq):Prop where
 one:∀w1 fr,r=.go w1 fr Y->w1=w\/∃o,w1=gr w o
 two:Pl r'->Pl r
theorem Q.Mq{r a:tq}(h:¬Pl r)(b:¬Pl a):Q w r a:=⟨λc fr e=>absurd ⟨_,_,e⟩ h,λe=>absurd e b⟩
theorem fN{s:Int}:¬Pl (.fail s):=λ⟨_,_,h⟩=>by cases h
def Be:¬Pl .waits:=λ⟨_,_,h⟩=>by cases h
variable {e:aE}{o:bG}
def wW{w:ai}{fr:L aq}:¬Pl (.go w fr (Z e)):=λ⟨_,_,h⟩=>by cases h
theorem adt:¬Pl (.done v):=λ⟨_,_,h⟩=>by cases h
theorem Q.go{fr fr':L aq}:Q w (.go w fr Y) (.go w' fr' Y):=⟨λa fr e=>by simp_all,λ_=>⟨_,_,rfl⟩⟩
theorem Q.made(a:Ex w w' t){o:bG}{f b:aq}:Q w (l9 w left f o) (l9 w' left b o):=by have:=a.le;unfold l9;by_cases h:120<=w.aQ.length;rw[bH h,bH (by omega)];exact Q.Mq fN fN;rw[bS h];exact⟨λc fr e=>by cases e;grind,λ_=>⟨_,_,rfl⟩⟩
def UO{f:aq}:¬Pl (l9 w left f o (Z e)):=by unfold l9;split;exact fN;exact wW
theorem Q.enter{l a:L aq}(h:a.length=l.length):Q w (jl w left l) (jl w' left a):=by
 grind[jl,Q.Mq,fN,Q.go]
def Mm(d:Ex w w' t)(f:cC p w.aQ.length v){c:Int}(hf:c≠6):gH w' v c=gH w v c:=by
 unfold gH;by_cases h5:v.Kind=5;obtain⟨a,b⟩:=f.ref h5;by_cases e:v.N=t;rw[e,bS (by rw[d.f2];omega),bS (by rw[d.f1];omega)];rw[d.same _ a b e]
 simp_all
def abl(a:Ex w w' t)(b:cC p w.aQ.length v):iB p w' v u=iB p w v u:=by unfold iB;rw[Mm a b (by decide)]
mutual
def O6(a:jr p dd w)(b:Ex w w' t):∀(q:aI)(v:aA),cC p w.aQ.length v->iA w' q v=iA w q v
 |⟨c,n,text,parts⟩,v,d=>by unfold iA;rw[Mm b d (by decide)];cases e:gH w v 1 with|none=>rfl|some o=>simp only[Hr a b parts o.fL (ez a d e).2.1.vals]
def Hr(a:jr p dd w)(b:Ex w w' t):∀(qs:L aI)(vs:L aA),(∀v∈vs,cC p w.aQ.length v)->fO w' qs vs=fO w qs vs
 |[],vs,_=>by cases vs<;>rfl
 |_::_,[],_=>rfl|q::qs,v::vs,h=>by unfold fO;rw[O6 a b q v (h v eN),Hr a b qs vs (λv c=>h v (ie _ c))]
end
def ae2(a:Ex w w' t)(b:cC p w.aQ.length u){r:aa}:Q w (od p w left u v r) (od p w' left u v r):=by unfold od;rw[abl a b];split;exact Q.enter rfl;rw[Mm a b (by decide)];split;exact Q.enter rfl;exact Q.Mq fN fN
theorem akr(x:Cx p dd w left i f l n)(a:Ex w w' t):Q w (l7 p w at_ left i f l) (l7 p w' at_ left i f l):=by
 have j:=a.le;have io:=x.io;have h1:=io.lo;have h2:=io.hi;obtain⟨k,b⟩:∃k:Nat,i.Op=k:=⟨_,(zR (by omega)).symm⟩;have c:1<=k:=by omega
 have d:k<=34:=by omega
 have tl:k≠18->l.length=lI.getD k 0:=λh=>by rw[x.tl b (by omega)];rfl
 unfold l7;simp only[b,uP]
 match k,b,c,d,tl with
 |1,_,_,_,_|2,_,_,_,_|3,_,_,_,_|4,_,_,_,_|5,_,_,_,_|9,_,_,_,_|10,_,_,_,_|11,_,_,_,_=>exact Q.go|6,_,_,_,_|18,_,_,_,_=>exact Q.made a|7,_,_,_,tl|8,_,_,_,tl=>have g:=tl (by decide);simp[lI]at g;exact ae2 a (x.val (by omega))
 |12,_,_,_,_=>
  grind[Q.Mq,fN,Q.go]
 |13,_,_,_,_|14,_,_,_,_|15,_,_,_,_|16,_,_,_,_|17,_,_,_,_=>
  simp only;unfold rT;simp only
  repeat' split
  all_goals first|exact Q.go|exact Q.Mq fN fN
 |19,_,_,_,tl=>have g:=tl (by decide);simp[lI]at g;simp only;rw[O6 x.hw a _ _ (x.val (by omega))];split<;>exact Q.go
 |20,_,_,_,_=>exact Q.Mq fN fN|21,_,_,_,_|26,_,_,_,_=>exact Q.Mq UO UO|22,_,_,_,_=>
  simp only;unfold E4;refine Q.Mq ?_ ?_<;>split<;>first|exact fN|exact wW
 |23,_,_,_,_=>
  simp only;unfold jb;refine Q.Mq ?_ ?_<;>split<;>first|exact fN|exact wW
 |24,_,_,_,_=>
  simp only;unfold zK;refine Q.Mq ?_ ?_<;>(repeat' split)<;>first|exact fN|exact wW
 |25,_,_,_,_=>
  simp only;unfold HF;refine Q.Mq ?_ ?_<;>(repeat' split)<;>first|exact fN|exact wW|exact Be
 |27,_,_,_,_=>
  simp only;unfold Gq;refine Q.Mq ?_ ?_<;>(repeat' split)<;>first|exact fN|exact wW|exact Be
 |28,_,_,_,_=>
  simp only;unfold Gc;refine Q.Mq ?_ ?_<;>(repeat' split)<;>first|exact fN|exact wW|exact Be
 |29,_,_,_,_=>
  simp only;unfold Sk;refine Q.Mq ?_ ?_<;>(repeat' split)<;>first|exact fN|exact wW|exact Be
 |30,_,_,_,_=>
  simp only;unfold inS;refine Q.Mq ?_ ?_<;>(repeat' split)<;>first|exact fN|exact wW|exact Be
 |31,_,_,_,_=>exact Q.enter rfl|32,_,_,_,_=>simp only;unfold CA;split;exact Q.Mq fN fN;by_cases h:120<=w.aQ.length;rw[bH h,bH (by omega)];exact Q.Mq fN fN;rw[bS h];exact⟨λm fr e=>by grind,λ_=>⟨_,_,rfl⟩⟩
 |33,_,_,_,_=>exact Q.Mq wW wW|34,_,_,_,_=>
  simp only;unfold ac3
  grind[Q.Mq,adt,Q.go]
 |k+35,_,_,h,_=>omega
theorem Ex.refl(h:(cN w t).Form=6):Ex w w t:=⟨eP _,λ_ _ _ _=>rfl,h,h⟩
def af2(a:pX p dd)(b:jr p dd w)(hf:o.Form=6)(hn:o.N=0)(c:fX p dd w.aQ.length o)(d:Ex w w' t):Q w (goS p w at_ o) (goS p w' at_ o):=by obtain⟨e,f,rfl,h1,h2,h3⟩:=Bu c hf hn;rw[HR,HR];exact akr (Vn a b h1 h2 h3) d
def rj(p:aB)(w:ai)(i:Int):Prop:=∃x,ig p w i=Z (x,Y)
def OU(b:cN w (bu w at_)=o):rj p w at_↔o.N=0/\Pl (goS p w at_ o):=by
 subst b;unfold rj ig;simp only;constructor
 rintro⟨x,h⟩
 split at h;cases h;refine⟨by omega,?_⟩;split at h;(iterate 3 cases h);rename_i c fr e a;cases h;exact⟨_,_,a⟩
 rintro⟨h1,c,fr,a⟩
 simp_all
theorem yj{x:Int}{o:bG}(a:0<=t)(b:0<=x):cN (gw w t o) x=if x=t/\x<w.aQ.length then o else cN w x:=by
 unfold cN gw
 grind
def Zk(f:pX p dd)(d:jr p dd w)(i:0<=at_)(h1:at_<w.aY.length)(hs:ig p w at_=Z (w',Y)):w'.aY=w.aY/\Ex w w' (bu w at_):=by
 refine⟨(si f d i h1 hs).2.2 rfl,?_⟩;have j:=d.task _ (bV 0 (show at_.toNat<w.aY.length by omega));obtain⟨t1,t2,t3⟩:=j;have g:=d.ob t1 t2;change 0<=bu w at_ at t1;change bu w at_<_ at t2;change(cN w (bu w at_)).Form=6 at t3;change fX p dd _ (cN w (bu w at_))at g;unfold ig at hs;simp only at hs;split at hs;cases hs;have q:=af2 (at_:=at_) (w':=w) f d t3 (by omega) g (Ex.refl t3);split at hs;(iterate 3 cases hs);rename_i e k;cases hs;obtain rfl|⟨o,rfl⟩:=q.one _ _ k
 refine⟨by simp[gw],λx a b c=>?_,t3,?_⟩;rw[yj t1 a,bS (λh=>c h.1)];rw[yj t1 t1,bH ⟨rfl,t2⟩];have e:∀x:Int,0<=x->x<w.aQ.length->cN (gr w o) x=cN w x:=λx a b=>by unfold cN gr;simp only[wB];rw[YK (by omega)]
 refine⟨by simp[gw,gr],λx a b c=>?_,t3,?_⟩;rw[yj t1 a,bS (λh=>c h.1),e x a b];rw[yj t1 t1,bH ⟨rfl,by simp[gr];omega⟩]
theorem Sf(i:pX p dd)(b:jr p dd w)(k:w'.aY=w.aY)(f:Ex w w' (bu w at_)){j:Int}(m:0<=at_)(h1:at_<w.aY.length)(n:0<=j)(o:j<w.aY.length)(q:j≠at_)(h:rj p w' j):rj p w j:=by
 have l:=b.task _ (bV 0 (show j.toNat<w.aY.length by omega));obtain⟨t1,t2,t3⟩:=l;have g:=b.ob t1 t2;change 0<=bu w j at t1;change bu w j<_ at t2;change(cN w (bu w j)).Form=6 at t3;change fX p dd _ (cN w (bu w j))at g;have d:bu w j≠bu w at_:=by
  unfold bu;intro e;rw[wB,wB,iZ (show j.toNat<w.aY.length by omega),iZ (show at_.toNat<w.aY.length by omega)]at e;have:=(Sc.1 b.E6)
  grind
 have e:cN w' (bu w' j)=cN w (bu w j):=by rw[show bu w' j=bu w j by unfold bu;rw[k]];exact f.same _ t1 t2 d
 obtain⟨a,c⟩:=(OU e).1 h;exact(OU rfl).2 ⟨a,(af2 i b t3 a g f).two c⟩
theorem Gu(d:pX p dd):∀(k:Nat)(w:ai)(s:Nat)(w':ai)(s':Nat),jr p dd w->0<=at_->at_<w.aY.length->A0 p at_ k w s=Z (w',s')->
  ¬rj p w' at_/\∀j:Int,0<=j->j<w.aY.length->j≠at_->¬rj p w j->¬rj p w' j
 |0,_,_,_,_,_,_,_,h=>by cases h
 |k+1,w,s,w',s',g,f,h1,h=>by
  unfold A0 at h;cases c:ig p w at_ with
  |none=>rw[c]at h;cases h;exact⟨(λ⟨x,i⟩=>by simp_all),λ_ _ _ _ h=>h⟩
  |some r=>
   obtain⟨l,e⟩:=r;rw[c]at h;cases e with
   |some e=>cases h;exact⟨(λ⟨x,i⟩=>by simp_all),λ_ _ _ _ h=>h⟩
   |none=>
    obtain⟨m,_,_⟩:=si d g f h1 c;obtain⟨n,i⟩:=Zk d g f h1 c;simp only at h;split at h;cases h;obtain⟨a,b⟩:=Gu d k l (s+1) w' s' m f (by grind) h
    grind[Sf]
theorem y6(e:pX p dd):∀(m i:Nat)(w:ai)(s:Nat)(w':ai)(s':Nat),jr p dd w->i+m<=w.aY.length->ej p m i w s=Z (w',s')->
  (∀j:Int,0<=j->j<i->¬rj p w j)->∀j:Int,0<=j->j<i+m->¬rj p w' j
 |0,i,w,s,w',s',f,o,h,l=>by cases h;simpa using l
 |m+1,i,w,s,w',s',f,o,h,l=>by
  unfold ej at h;split at h;cases h;rename_i g k n;obtain⟨a,b,_,_⟩:=Fs e _ w s g k f (by omega) (by omega) n;obtain⟨c,d⟩:=Gu e _ w s g k f (by omega) (by omega) n;have:=y6 e m (i+1) g k w' s' a (by rw[b];omega) h (λj q r=>by
   grind)
  grind
def Ce(p:aB)(w:ai):Prop:=∀j:Int,0<=j->j<w.aY.length->¬rj p w j
theorem p7(c:pX p dd)(d:jr p dd w){s s':Nat}(h:ej p w.aY.length 0 w s=Z (w',s')):Ce p w':=by obtain⟨a,b,_,_⟩:=gj c d h;have:=y6 c _ 0 w s w' s' d (by omega) h (λj a b=>by omega);exact λj e f=>this j e (by grind)
def Wp(h:¬rj p w at_)(k s:Nat):A0 p at_ (k+1) w s=Z (w,s):=by
 unfold A0;cases a:ig p w at_ with
 |none=>rfl|some r=>
  obtain⟨b,e⟩:=r;cases e with|some e=>rfl|none=>exact absurd ⟨b,a⟩ h
theorem A5(a:Ce p w):∀(m i s:Nat),i+m<=w.aY.length->ej p m i w s=Z (w,s)
 |0,_,_,_=>rfl|m+1,i,s,h=>by unfold ej;rw[Wp (a (i:Int) (by omega) (by omega)) 5001 s];exact A5 a m (i+1) s (by omega)
end
section
variable {p:aB}{dd:List ax}{M:MP}{w:ai}
theorem Ry(a:pX p dd)(b:jr p dd w)(c:Ce p w){k:Int}{w1:ai}(h:jz p w k=.idle w1):w1=w:=by
 grind[AJ,A5]
theorem zI(a:pX p dd)(b:jr p dd w){k:Int}{w1:ai}{e:aE}{s:Nat}(h:jz p w k=.ok w1 e s):jr p dd w1/\Ce p w1:=by
 grind[AJ,p7]
def wQ(p:aB):L Int->ai->O (ai×L aE)
 |[],w=>Z (w,[])|k::a,w=>match jz p w k with
  |.Bj=>Y|.idle _=>Z (w,[])|.ok b e _=>match wQ p a b with
   |none=>Y|some (x,l)=>Z (x,e::l)
def GU(g:pX p dd):∀(f:L Int){w x:ai}{l:L aE},jr p dd w->Ce p w->wQ p f w=Z (x,l)->jr p dd x/\Ce p x/\l.length<=f.length
 |[],w,x,l,i,o,h=>by cases h;simp_all
 |k::f,w,x,l,i,o,h=>by
  unfold wQ at h;cases j:jz p w k with
  |Bj=>simp_all|idle m=>simp_all|ok m e s=>
   obtain⟨a,b⟩:=zI g i j;rw[j]at h;simp only at h;cases n:wQ p f m with
   |none=>simp_all|some r=>
    obtain⟨q,t⟩:=r;rw[n]at h;cases h;obtain⟨c,d,e⟩:=GU g f a b n
    simp_all
def GS(p:aB)(w:ai)(a:L Int):O (ai×L aE):=match ej p w.aY.length 0 w 0 with
 |none=>Y|some (b,_)=>wQ p a b
def Zj(a:pX p dd)(d:jr p dd w){b:L Int}{x:ai}{l:L aE}(h:GS p w b=Z (x,l)):jr p dd x/\Ce p x/\l.length<=b.length:=by unfold GS at h;cases c:ej p w.aY.length 0 w 0 with|none=>simp_all|some r=>obtain⟨e,s⟩:=r;rw[c]at h;exact GU a b (gj a d c).1 (p7 a d c) h
abbrev z5:Z5:=([],[],[],[],0,())
theorem Kg(m:pX p dd){P:Type}{dz:L Int}(t:dz.length<=1000)(F:Nat->L aE×Int×Z5×MB×MP×U->O (LO (L aE×Int×Z5×MB×MP×U) (L aE×Int×U) (Z5×MB×MP×U) P))
  (u:∀n g,F n g=ak (aG g.2.1 (au dz)) (aS (aM g.2.1 dz) (aj (F57 n (g.2.2.2.1,g.2.2.2.2.1,bE dz (aC g.2.1) 0,())) λh=>ak (af h.1.2.2.1 5) (Z (H 0 (g.1,g.2.1,([],[],[],[],g.2.2.1.2.2.2.2),h.2))) (ak (av (af h.1.2.2.1 0)) (Z (X (([],[],[],[],0,()),h.2) ([],h.1.2.2))) (aS (dI g.1 [h.1.1]) (Z (N (dx g.1 [h.1.1],aJ .i64 g.2.1 1,([],[],[],[],g.2.2.1.2.2.2.2),h.2))))))) (Z (H 0 (g.1,g.2.1,([],[],[],[],g.2.2.1.2.2.2.2),g.2.2.2)))) :
  ∀(d pre:L Int)(c:L aE)(w:ai),dz=pre++d->c.length<=pre.length->jr p dd w->Ce p w->
  (∃w' l i,wQ p d w=Z (w',l)/\fu F (c,(pre.length:Int),z5,mb p dd w,M,()) (.out 0 (c++l,i,z5,mb p dd w',M,())))\/
  (wQ p d w=Y/\∃R,fu F (c,(pre.length:Int),z5,mb p dd w,M,()) (.ret (z5,R) ([],8,())))
 |[],pre,c,w,f,B,q,v=>by refine .inl ⟨w,[],(pre.length:Int),rfl,?_⟩;rw[iP];refine .out (bC λn=>?_);rw[iP]at f;subst f;rw[u];simp(disch:=omega)only[aV]
 |k::d,pre,c,w,f,B,q,v=>by
  have z:pre.length<dz.length:=by rw[f];simp
  have C:dz.getD pre.length 0=k:=by simp_all
  obtain⟨R,E⟩:=e57 (M:=M) m q k;have step:∀{o:LO (L aE×Int×Z5×MB×MP×U) (L aE×Int×U) (Z5×MB×MP×U) P},Ev (λn=>TL.ak (af (y5 p dd M R (jz p w k)).1.2.2.1 5) (Z (H 0 (c,(pre.length:Int),z5,(y5 p dd M R (jz p w k)).2))) (TL.ak (av (af (y5 p dd M R (jz p w k)).1.2.2.1 0)) (Z (X (z5,(y5 p dd M R (jz p w k)).2) ([],(y5 p dd M R (jz p w k)).1.2.2))) (TL.aS (dI c [(y5 p dd M R (jz p w k)).1.1]) (Z (N (dx c [(y5 p dd M R (jz p w k)).1.1],aJ .i64 (pre.length:Int) 1,z5,(y5 p dd M R (jz p w k)).2)))))) o->Ev (λn=>F n (c,(pre.length:Int),z5,mb p dd w,M,())) o:=by intro o h;refine Ev.n9 (λn=>(u n _).trans (nR (show((pre.length:Nat):Int)<(dz.length:Int)by omega) _ _)) ?_;refine Ev.n9 (λn=>BL (show(0:Int)<=pre.length by omega) (by omega) _) ?_;have e:bE dz (aC ((pre.length:Nat):Int)) 0=k:=C;simp only[e];exact Ev.aj E h
  unfold wQ;cases j:jz p w k with
  |Bj=>rw[j]at step;exact .inr ⟨rfl,R,.ret (step dg)⟩|idle r=>rw[j]at step;have:=Ry m q v j;subst this;refine .inl ⟨r,[],(pre.length:Int),rfl,?_⟩;rw[iP];exact .out (step dg)|ok r e s=>
   rw[j]at step;obtain⟨a,b⟩:=zI m q j;have A:Ev (λn=>F n (c,(pre.length:Int),z5,mb p dd w,M,())) (.next (c++[e],((pre++[k]).length:Int),z5,mb p dd r,M,())):=by refine step (bC λn=>?_);have h1:([e]:L aE).length=1:=rfl;simp only[y5];simp(disch:=omega)only[aV,bQ,jR,m8,fK,fM]<;>rfl
   simp only;rcases Kg m t F u d (pre++[k]) (c++[e]) r (by rw[f];simp) (by simp;omega) a b with⟨w',l,i,x,y⟩|⟨x,R,y⟩
   .refine .inl ⟨w',e::l,i,by rw[x],.next A ?_⟩
    grind
   .exact .inr ⟨by rw[x],R,.next A y⟩
def akn:O (ai×L aE)->(ai×L aE×Int×U)×U
 |none=>((cX,[],8,()),())|some (w,l)=>((w,l,0,()),())
variable {dz:List Int}
def e20(hs:Small p)(k:pI w)(hl:dz.length<=1000){r:(ai×L aE×Int×U)×U}(h1:∀D,Rt p D->jr p D w->dz.length<=200->akn (GS p w dz)=r)
  (h2:(¬∃D,Rt p D/\jr p D w)\/200<dz.length->((cX,[],2,()),())=r):Ev (λn=>F20 n (p,w,dz,())) r:=by
 unfold F20;refine Aj hs k (λD j f=>?_) (λh=>by rw[<-h2 (.inl h)];exact Ev.pure _);have d:=j.ok;by_cases e:200<dz.length;refine Ev.n9 (λn=>nR (show(200:Int)<dz.length by omega) _ _) ?_;rw[<-h2 (.inr e)];exact Ev.pure _;refine Ev.n9 (λn=>uL (show(dz.length:Int)<=200 by omega) _ _) ?_;rw[<-h1 D j f (by omega)];unfold GS;obtain⟨m,o,a,b⟩|⟨a,R,b⟩:=e48 (M:=Qq p D) d f (s:=0) (by omega)
 rw[a];refine Ev.aj b ?_;have a1:=(gj d f a).1;have a2:=p7 d f a;simp only;obtain⟨q,l,i,x,y⟩|⟨x,R,y⟩:=Kg (M:=Qq p D) d (P:=_) (dz:=dz) (by omega) _ (λn g=>rfl) dz [] [] m rfl (eP _) a1 a2
 rw[x];refine Ev.bp y (λn c=>_) _ ?_;exact Ev.aj (e49 d (GU d dz a1 a2 x).1) (Ev.pure _);rw[x];exact Ev.bp y (λn c=>_) _ dg;rw[a];exact Ev.aj b dg
def Il(m:pX p dd){P:Type}{dz:L Int}(q:dz.length<=1000)(F:Nat->L aE×Int×Z5×Z5×U->O (LO (L aE×Int×Z5×Z5×U) (L aE×Int×U) (Z5×Z5×U) P))
  (A:∀n d,F n d=ak (aG d.2.1 (au dz)) (aS (aM d.2.1 dz) (aj (F30 n (⟨p,dd⟩,ace d,bE dz (aC d.2.1) 0,())) λe=>ak (af e.1.2.2.2.1 5) (Z (X (d.2.2.1,d.2.2.1,()) (d.1,0,()))) (ak (av (af e.1.2.2.2.1 0)) (Z (X (d.2.2.1,LB e,()) ([],e.1.2.2.2))) (aS (dI d.1 [e.1.2.1]) (Z (N (dx d.1 [e.1.2.1],aJ .i64 d.2.1 1,LB e,d.2.2.2))))))) (Z (H 0 d))) :
  ∀(g pre:L Int)(f:L aE)(w:ai),dz=pre++g->f.length<=pre.length->jr p dd w->Ce p w->
  (∃w' l,wQ p g w=Z (w',l)/\((∃i,fu F (f,(pre.length:Int),w5 w,z5,()) (.out 0 (f++l,i,w5 w',z5,())))\/∃x,fu F (f,(pre.length:Int),w5 w,z5,()) (.ret (x,w5 w',()) (f++l,0,()))))\/
  (wQ p g w=Y/\∃x c,fu F (f,(pre.length:Int),w5 w,z5,()) (.ret (x,w5 c,()) ([],8,())))
 |[],pre,f,w,r,C,t,E=>by
  refine .inl ⟨w,[],rfl,.inl ⟨(pre.length:Int),?_⟩⟩;rw[iP];refine .out (bC λn=>?_)
  simp_all[iP,aV]
 |k::g,pre,f,w,r,C,t,E=>by
  have B:pre.length<dz.length:=by rw[r];simp
  have I:dz.getD pre.length 0=k:=by simp_all
  obtain⟨c,K⟩:=e30 m t k;have step:∀{o:LO (L aE×Int×Z5×Z5×U) (L aE×Int×U) (Z5×Z5×U) P},Ev (λn=>(λe:(ai×aE×Int×Int×U)×U=>TL.ak (af e.1.2.2.2.1 5) (Z (X (w5 w,w5 w,()) (f,0,()))) (TL.ak (av (af e.1.2.2.2.1 0)) (Z (X (w5 w,LB e,()) ([],e.1.2.2.2))) (TL.aS (dI f [e.1.2.1]) (Z (N (dx f [e.1.2.1],aJ .i64 (pre.length:Int) 1,LB e,z5,())))))) (Ui c (jz p w k))) o->Ev (λn=>F n (f,(pre.length:Int),w5 w,z5,())) o:=by intro o h;refine Ev.n9 (λn=>(A n _).trans (nR (show((pre.length:Nat):Int)<(dz.length:Int)by omega) _ _)) ?_;refine Ev.n9 (λn=>BL (show(0:Int)<=pre.length by omega) (by omega) _) ?_;have e:bE dz (aC ((pre.length:Nat):Int)) 0=k:=I;simp only[e];exact Ev.aj K h
  unfold wQ;cases j:jz p w k with
  |Bj=>rw[j]at step;exact .inr ⟨rfl,w5 w,c,.ret (step dg)⟩|idle u=>rw[j]at step;refine .inl ⟨w,[],rfl,.inr ⟨w5 w,?_⟩⟩;rw[iP];exact .ret (step dg)|ok u e s=>
   rw[j]at step;obtain⟨a,b⟩:=zI m t j;have v:Ev (λn=>F n (f,(pre.length:Int),w5 w,z5,())) (.next (f++[e],((pre++[k]).length:Int),w5 u,z5,())):=by refine step (bC λn=>?_);have h1:([e]:L aE).length=1:=rfl;simp only[Ui];simp(disch:=omega)only[aV,bQ,jR,m8,fK,fM]<;>rfl
   simp only;rcases Il m q F A g (pre++[k]) (f++[e]) u (by rw[r];simp) (by simp;omega) a b with⟨w',l,x,y⟩|⟨x,z,c,y⟩
   .refine .inl ⟨w',e::l,by rw[x],?_⟩;rw[wv]at y;obtain⟨i,y⟩|⟨z,y⟩:=y
    .exact .inl ⟨i,.next v y⟩
    .exact .inr ⟨z,.next v y⟩
   .exact .inr ⟨by rw[x],z,c,.next v y⟩
def ako(a:ai):O (ai×L aE)->(ai×L aE×Int×U)×U
 |none=>((a,[],8,()),())|some (w,l)=>((w,l,0,()),())
def e22(e:pX p dd)(f:jr p dd w)(hl:dz.length<=200):∃d,Ev (λn=>F22 n (⟨p,dd⟩,w,dz,())) (ako d (GS p w dz)):=by
 unfold F22 GS;obtain⟨h,j,a,b⟩|⟨a,h,j,b⟩:=e29 e f (s:=0) (by omega)
 rw[a];have a1:=(gj e f a).1;have a2:=p7 e f a;simp only;obtain⟨k,l,x,⟨i,y⟩|⟨z,y⟩⟩|⟨x,z,d,y⟩:=Il e (P:=_) (dz:=dz) (by omega) _ (λn g=>rfl) dz [] [] h rfl (eP _) a1 a2
 rw[x];exact⟨w,Ev.aj b (Ev.bp y (λn c=>_) _ dg)⟩;rw[x];exact⟨w,Ev.aj b (Ev.bp y (λn c=>_) _ dg)⟩;rw[x];exact⟨d,Ev.aj b (Ev.bp y (λn c=>_) _ dg)⟩;rw[a];exact⟨h,Ev.aj b dg⟩
end
section
variable {p:aB}{w:ai}{dd:List ax}
def Q0(p:aB)(w:ai):Prop:=∃D,Rt p D/\jr p D w
def Wb(p:aB)(w:ai):(ai×Int×Int×U)×U:=match ej p w.aY.length 0 w 0 with
 |none=>((cX,0,8,()),())|some (a,s)=>((a,(s:Int),0,()),())
def e27(hs:Small p)(f:pI w){r:(ai×Int×Int×U)×U}(h1:Q0 p w->Wb p w=r)(h2:¬Q0 p w->((cX,0,2,()),())=r):Ev (λn=>F27 n (p,w,())) r:=by
 unfold F27;refine Aj hs f (λD e c=>?_) (λh=>by rw[<-h2 h];exact Ev.pure _);have d:=e.ok;rw[<-h1 ⟨D,e,c⟩];unfold Wb;obtain⟨g,i,a,b⟩|⟨a,R,b⟩:=e48 (M:=Qq p D) d c (s:=0) (by omega)
 rw[a];exact Ev.aj b (Ev.aj (e49 d (gj d c a).1) (Ev.pure _));rw[a];exact Ev.aj b dg
def afu:VH->(ai×aE×Int×Int×U)×U
 |.Bj=>((cX,bP,0,8,()),())|.idle _=>((cX,bP,0,5,()),())|.ok w e s=>((w,e,(s:Int),0,()),())
def e28(hs:Small p)(f:pI w){pick:Int}{r:(ai×aE×Int×Int×U)×U}(h1:Q0 p w->afu (jz p w pick)=r)(h2:¬Q0 p w->((cX,bP,0,2,()),())=r):Ev (λn=>F28 n (p,w,pick,())) r:=by
 unfold F28;refine Aj hs f (λD d b=>?_) (λh=>by rw[<-h2 h];exact Ev.pure _);have c:=d.ok;rw[<-h1 ⟨D,d,b⟩];obtain⟨R,g⟩:=e57 (M:=Qq p D) c b pick;have a:=AJ c b (pick:=pick);refine Ev.aj g ?_;cases i:jz p w pick with
 |Bj=>exact dg|idle j=>exact dg|ok j e s=>rw[i]at a;exact Ev.aj (e49 c a.1) (Ev.pure _)
end
section
def fZ:L bT->L (Int×Int×Int)->aa
 |[],[]=>W|x::l,y::m=>af x.Op y.1&&(af x.A y.2.1&&(af x.B y.2.2&&fZ l m))|_,_=>J
def eqF:L Int->L Int->aa
 |[],[]=>W|x::l,y::m=>af x y&&eqF l m|_,_=>J
def mkP(l:L (Int×Int×Int))(f:L Int)(m:Int):aB:=⟨l.map λy=>⟨y.1,y.2.1,y.2.2⟩,[],f,m,[]⟩
def isP(c:aB)(l:L (Int×Int×Int))(f:L Int)(m:Int):aa:=fZ c.dJ l&&(c.ey.isEmpty&&(eqF c.dh f&&(af c.Main m&&c.Cons.isEmpty)))
def aaT:∀{l:L bT}{m:L (Int×Int×Int)},fZ l m=W->l=m.map λy=>⟨y.1,y.2.1,y.2.2⟩
 |[],[],_=>rfl|⟨a,b,c⟩::l,y::m,h=>by simp only[fZ,eX,qo]at h;simp only[o7,h.1,h.2.1,h.2.2.1,aaT h.2.2.2]
 |[],_::_,h=>by cases h
 |_::_,[],h=>by cases h
def aaU:∀{l m:L Int},eqF l m=W->l=m
 |[],[],_=>rfl|x::l,y::m,h=>by simp only[eqF,eX,qo]at h;rw[h.1,aaU h.2]
 |[],_::_,h=>by cases h
 |_::_,[],h=>by cases h
variable {l:List (Int×Int×Int)}{f:List Int}{m:Int}
def ahy{c:aB}(h:isP c l f m=W):c=mkP l f m:=by
 let ⟨a,b,g,n,k⟩:=c
 simp only[isP,eX,qo,List.isEmpty_iff]at h;obtain⟨h1,h2,h3,h4,h5⟩:=h;simp only[mkP,aaT h1,h2,aaU h3,h4,h5]
def Vr{n:Nat}{s:L UInt8}(h:(aj (F42 n (s,())) λr=>Z (isP r.1.1 l f m))=Z W):F42 n (s,())=Z ((mkP l f m,()),()):=by
 obtain⟨r,h1,h2⟩:=jq h;injection h2 with h2
 rw[h1,<-ahy h2]
def tB:L UInt8:=[109,111,100,117,108,101,32,98,32,123,32,102,117,110,32,119,111,114,107,40,99,32,58,32,99,104,97,110,32,105,110,116,41,32,58,32,117,110,105,116,32,61,32,108,101,116,32,120,32,61,32,115,101,110,100,40,99,44,32,53,41,32,105,110,32,115,101,110,100,40,99,44,32,54,41,59,32,102,117,110,32,109,97,105,110,40,117,32,58,32,117,110,105,116,41,32,58,32,105,110,116,32,61,32,108,101,116,32,99,32,61,32,99,104,97,110,32,105,110,32,108,101,116,32,116,32,61,32,115,112,97,119,110,40,102,117,110,32,117,32,61,62,32,119,111,114,107,32,99,41,32,105,110,32,116,97,107,101,40,99,41,32,43,32,114,101,115,101,116,40,49,32,43,32,40,115,104,105,102,116,32,107,32,61,62,32,107,32,40,107,32,49,48,41,41,41,59,32,125]
def tA:L UInt8:=[109,111,100,117,108,101,32,97,32,123,32,102,117,110,32,109,97,105,110,40,117,32,58,32,117,110,105,116,41,32,58,32,105,110,116,32,61,32,108,101,116,32,99,32,61,32,99,101,108,108,40,49,41,32,105,110,32,108,101,116,32,120,32,61,32,111,117,116,40,48,44,32,103,101,116,40,99,41,41,32,105,110,32,108,101,116,32,121,32,61,32,112,117,116,40,99,44,32,105,110,112,117,116,41,32,105,110,32,103,101,116,40,99,41,32,43,32,49,59,32,125]
def cB:aB:=mkP [(4,0,0),(1,5,0),(27,0,0),(9,0,0),(4,0,0),(1,6,0),(27,0,0),(34,0,0),(26,0,0),(9,0,0),(6,18,0),(24,0,0),(9,0,0),(4,1,0),(28,0,0),(31,21,0),(13,0,0),(34,0,0),(5,0,0),(4,1,0),(8,0,0),(1,1,0),(32,25,0),(13,0,0),(34,0,0),(4,3,0),(4,3,0),(1,10,0),(7,0,0),(8,0,0)] [0,8] 1
def cA:aB:=mkP [(1,1,0),(21,0,0),(9,0,0),(4,1,0),(22,0,0),(29,0,0),(9,0,0),(4,1,0),(30,0,0),(23,0,0),(9,0,0),(4,1,0),(22,0,0),(1,1,0),(13,0,0),(34,0,0)] [0] 0
def hB:F42 300 (tB,())=Z ((cB,()),()):=Vr (by kernel_rfl)
def hA:acf 300=Z ((cA,()),()):=Vr (s:=tA) (by kernel_rfl)
def Ur(e:aE)(t op n k m:Int):aa:=bR (af e.1 t) (bR (af e.2 op) (bR (af e.3 n) (bR (af e.4.1 k) (bR (af e.4.2 m) W))))
noncomputable def gB(n:Nat):O aa:=aj (F13 n (cB,[],())) λd=>aj (F20 n (cB,d.1.1,[0,0,1,1,0,0,1],())) λe=>aj (F24 n (cB,e.1.1,())) λg=>
 Z (af d.1.2.1 0&&(af e.1.2.2.1 0&&(af g.1.2.1 0&&(af (au e.1.2.1) 7&&(Ur (LD e) 1 22 0 1 5&&(Ur (LC e) 0 0 1 1 17&&af (au g.1.1.1) 2))))))
noncomputable def gA(n:Nat):O aa:=aj (F13 n (cA,[],())) λi=>aj (F28 n (cA,i.1.1,0,())) λk=>
 Z (af i.1.2.1 0&&(af k.1.2.2.2.1 0&&(Ur k.1.2.1 0 16 0 1 1&&af k.1.2.2.1 3)))
def aex:gB 300=Z W:=by kernel_rfl
def aey:gA 300=Z W:=by kernel_rfl
def Sz:F12 300 ()=Z ((W,()),()):=by have a:=aex;have b:=aey;unfold gB at a;unfold gA at b;obtain⟨d,h2,a⟩:=jq a;obtain⟨e,h3,a⟩:=jq a;obtain⟨g,h4,a⟩:=jq a;obtain⟨i,h6,b⟩:=jq b;obtain⟨k,l,b⟩:=jq b;simp only[gV,eX]at b a;obtain⟨n,o,p,c,f,h,q⟩:=a;obtain⟨a1,a2,j,r⟩:=b;unfold Ur at f h j;have s:(e.1.2.1.length:Int)=7:=qo.1 c;unfold F12;show aj (F42 300 (tB,())) _=_;rw[hB,uy,h2,uy,h3,uy,h4,uy,hA,uy,h6,uy,uy,l,uy];have t:aM 2 e.1.2.1=W:=iw.2 (by omega);have u:aM 5 e.1.2.1=W:=iw.2 (by omega);have f43:∀m:Int,F43 300 (m,())=Z ((⟨1,m⟩,()),()):=λ_=>rfl;simp only[n,o,p,c,q,a1,a2,r,Fp,Og,t,u,abd,f43,uy,f,h,j]
def kn:Fn [] K4 J:=λ_=>Z ((W,()),())
abbrev cK:lT sg:=⟨[],K4,J,kn⟩
def CK:bN prog 12 cK:=by
 have h:=(k12 300).h;have e:F12 300=kn:=funext λx=>by cases x;exact Sz
 have h:bN prog 12 (⟨[],K4,J,F12 300⟩:lT sg):=h;rw[e]at h;exact h
end
def aiQ:L TypeId:=[27,26,22,137,136,135,3,23,90,89,88,9,24,25,92,91,33,32,30,106,105,99,101,64,63,62,104,103,102,4,31,128,127]
noncomputable def X6(t:TypeId):O Ty:=bif aiQ.contains t then V0.get t else Y
noncomputable def aki(t:TypeId):aa:=match V0.get t with|some τ=>rdT sg prog X6 t τ|none=>W
def agZ:aiQ.all aki=W:=by kernel_rfl
def afy(t:TypeId)(τ:Ty)(h:X6 t=Z τ):rdT sg prog X6 t τ=W:=by
 unfold X6 at h;cases a:aiQ.contains t with
 |false=>rw[a]at h;cases h
 |true=>rw[a,iq]at h;have:=kU.1 agZ t (by simpa using a);unfold aki at this;rw[h]at this;exact this
def laid:laidOutB prog=W:=by kernel_rfl
def own:ownKnob prog.godebug=Y:=by kernel_rfl
end Mn
end
