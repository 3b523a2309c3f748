import Derived.Test.YthlenkomcaiomaaGreatRows
import Derived.WalkKit
import Derived.ProofKit
import Derived.OpenShut
import Derived.KernelRfl
import Derived.Test.YthlenkomcaiomaaGreatG5
set_option linter.all false
set_option maxRecDepth 100000
set_option maxHeartbeats 0
noncomputable section
open Option renaming some->Z,none->Y
open Bool renaming true->W,false->J
open Nat renaming beq->Nq,ble->Nl,blt->Nt,succ->Ns,add->Na
open TL.LO renaming next->N,ret->X,out->H
open TL.Rx renaming ok->G,iE->M
section
namespace Mn
open Go TL
section
section
variable {p:ax}{dd:List aq}{M:MP}{w:aj}{at_:Int}
variable {r:Option (aj×Option aM)}{q:Int->Bool}
def Xb:aa (S6 r) 2=!r.isSome:=by
 match r with
 |none=>rfl|some (_,Y)=>rfl|some (_,Z _)=>rfl
def UT:ak (aa (S6 r) 2)=r.isSome:=by rw[Xb];cases r<;>rfl
def abj:(I5 p dd M w r).2.2=(M,()):=by
 match r with
 |none=>rfl|some (_,Y)=>rfl|some (_,Z _)=>rfl
def oI(n:Nat):L Int:=(List.range n).map λi:Nat=>(i:Int)
def wq(n:Nat):(oI n).length=n:=by simp[oI]
def Jp(n:Nat):oI (n+1)=oI n++[(n:Int)]:=by simp[oI,List.range_succ]
theorem XY{n i:Nat}(h:i<n):(oI n).getD i 0=(i:Int):=by
 grind[oI,List.getElem?_range]
def hY(p:ax)(w:aj):L Int:=(oI w.bg.length).filter λi=>(kN p w i).isSome
theorem Qq{x:Int}:x∈hY p w↔0<=x∧x<w.bg.length∧(kN p w x).isSome=W:=by
 unfold hY oI;simp only[List.mem_filter,v9,List.mem_range];constructor
 .grind
 .rintro ⟨h1,h2,h3⟩
  exact⟨⟨x.toNat,by omega,by omega⟩,h3⟩
def Qr:(hY p w).length<=w.bg.length:=fZ (List.length_filter_le _ _) (by rw[wq];omega)
def VU(i:Nat):(oI (i+1)).filter q=(oI i).filter q++(bif q (i:Int)then[(i:Int)]else[]):=by rw[Jp,List.filter_append];cases h:q (i:Int)<;>simp[h]
def Zg(i:Nat):((oI i).filter q).length<=i:=fZ (List.length_filter_le _ _) (by rw[wq];omega)
def e66(d:se p dd)(b:jD p dd w):Ev (λn=>F66 n (mb p dd w,M,())) ((hY p w,()),mb p dd w,M,()):=by have f:=b.tl;have e:=b.len;unfold F66;refine Ev.br (lE w.bg.length (λi=>((oI i).filter λi=>(kN p w i).isSome,(i:Int),mb p dd w,M,())) 0 (λi g=>?_) (bK λn=>rL (show(w.bg.length:Int)<=(w.bg.length:Int)by omega) _ _)) (λn c=>_) _ dz;have h:=Zg (q:=λi=>(kN p w i).isSome) i;rw[VU];refine Ev.r5 (λn=>uq (show(i:Int)<(w.bg.length:Int)by omega) _ _) ?_;refine Ev.ah (e67 (M:=M) (a:=(i:Int)) d b (by omega) (show(i:Int)<w.bg.length by omega)) (Ev.ah (T2 (w:=w)) (bK λn=>?_));simp only[UT,abj];cases(kN p w (i:Int)).isSome<;>simp(disch:=first|omega|simp only[mK];omega)only[bu,bQ,gj,gq,jB,KH,Nc]
def QO(a n:Int):Int:=bif aC (a.tmod n) 0 then a.tmod n+n else a.tmod n
theorem X6(a:Int){n:Int}(h:0<n):0<=QO a n∧QO a n<n:=by
 have h1:=Int.tmod_lt_of_pos a h;have h2:=Int.lt_tmod_of_pos a h;unfold QO;cases b:aC (a.tmod n) 0 with
 |true=>have:=xT.1 b;grind|false=>
  rw[jo]
  grind[abW]
inductive aeC where
 |IC|idle (w:aj)|ok (w:aj) (e:aM) (s:Nat)
def Ti(p:ax)(w:aj)(pick:Int):Int:=(hY p w).getD (QO pick (hY p w).length).toNat 0
def kM(p:ax)(w:aj)(pick:Int):aeC:=match eG p w.bg.length 0 w 0 with
 |none=>.IC|some (a,d)=>if hY p a=[]then .idle a else match kN p a (Ti p a pick)with
  |none=>.idle a|some (b,e)=>match eG p b.bg.length 0 b (d+1)with
   |none=>.IC|some (f,c)=>if 5000<c then .IC else .ok f (e.getD cZ) c
def FT{pick:Int}(h:hY p w≠[]):0<=Ti p w pick∧Ti p w pick<w.bg.length∧∃r,kN p w (Ti p w pick)=Z r:=by have d:0<(hY p w).length:=Ni.2 h;have e:=X6 pick (n:=((hY p w).length:Int)) (by omega);obtain⟨a,b,c⟩:=Qq.1 (bT (l:=hY p w) (0:Int) (i:=(QO pick (hY p w).length).toNat) (by omega));exact⟨a,b,ad2.1 c⟩
def ij(a:se p dd)(b:jD p dd w){s:Nat}{w':aj}{s':Nat}(h:eG p w.bg.length 0 w s=Z (w',s')):jD p dd w'∧w'.bg=w.bg∧s<=s'∧(s'<=s∨s'<=5000):=
 Fu a _ 0 w s w' s' b (by omega) h
theorem MI(h:se p dd)(n:jD p dd w){pick:Int}:match kM p w pick with
  |.IC=>True|.idle g=>jD p dd g∧g.bg=w.bg∧∃s,eG p w.bg.length 0 w 0=Z (g,s)|.ok i e s=>jD p dd i∧∃f o,jD p dd f∧eG p f.bg.length 0 f o=Z (i,s):=by
 unfold kM;cases h1:eG p w.bg.length 0 w 0 with
 |none=>trivial|some r=>
  obtain⟨g,j⟩:=r;obtain⟨a,b,c,d⟩:=ij h n h1;simp only;by_cases k:hY p g=[]
  .simp_all
  rw[bL k];obtain⟨q,t,r,l⟩:=FT (pick:=pick) k;rw[l];obtain⟨f,e⟩:=r;obtain⟨m,_,_⟩:=xG h a q t l;simp only;cases h2:eG p f.bg.length 0 f (j+1)with
  |none=>trivial|some r=>
   obtain⟨i,u⟩:=r;simp only;by_cases h5:5000<u
   .simp_all
   .rw[bL h5];exact⟨(ij h m h2).1,f,j+1,m,h2⟩
def yD(p:ax)(dd:L aq)(M:MP)(R:MB×MP×U):aeC->(aM×Int×Int×U)×MB×MP×U
 |.IC=>((cZ,0,8,()),R)|.idle a=>((cZ,0,5,()),mb p dd a,M,())|.ok b e s=>((e,(s:Int),0,()),mb p dd b,M,())
def ZI{α:Type}{a:Int}(h:a≠0)(x:O α):aT (nzI a) x=x:=by simp[nzI,aT,h]
def abt(a:Int){n:Int}(h:0<n)(c:n<=1000):BJ (aF .i64 (BJ a n) n) n=QO a n:=by
 have h1:=Int.tmod_lt_of_pos a h;have h2:=Int.lt_tmod_of_pos a h;show(aF .i64 (a.tmod n) n).tmod n=_;rw[bQ (by omega) (by omega)];unfold QO;cases b:aC (a.tmod n) 0 with
 |true=>have:=xT.1 b;rw[gY,Int.tmod_eq_of_lt (by omega) (by omega)]
 |false=>
  rw[jo];have:¬a.tmod n<0:=λh=>by rw[abW h]at b;cases b
  rw[Int.tmod_eq_emod_of_nonneg (by omega),Int.add_emod_right,Int.emod_eq_of_lt (by omega) (by omega)]
theorem e57(d:se p dd)(q:jD p dd w)(pick:Int):∃R,Ev (λn=>F57 n (mb p dd w,M,pick,())) (yD p dd M R (kM p w pick)):=by
 unfold kM;obtain⟨c,k,a,b⟩|⟨a,R,b⟩:=e48 (M:=M) d q (s:=0) (by omega)
 rotate_left
 .rw[a];exact⟨R,Ev.ah b dz⟩
 rw[a];simp only;obtain⟨f,I,K,P⟩:=ij d q a;have S:=f.tl;have B:=f.len;have C:=Qr (p:=p) (w:=c);by_cases i:hY p c=[]
 .rw[bw i];refine⟨(mb p dd w,M,()),Ev.ah b (Ev.ah (e66 d f) (bK λn=>?_))⟩;simp only[i];rfl
 rw[bL i];obtain⟨t,u,r,o⟩:=FT (pick:=pick) i;rw[o];obtain⟨E,e⟩:=r;obtain⟨v,_,_⟩:=xG d f t u o;have x:0<(hY p c).length:=Ni.2 i;have y:=X6 pick (n:=((hY p c).length:Int)) (by omega);have j:aF .i64 (k:Int) 1=((k+1:Nat):Int):=by grind[bQ]
 have key:∀{R:(aM×Int×Int×U)×MB×MP×U},(Ev (λn=>ah (F48 n (mb p dd E,M,((k+1:Nat):Int),())) λg=>ai (ak g.1.2.1) (Px n g) (ai (aC 5000 g.1.1) (Px n g) (Z ((e.getD cZ,g.1.1,0,()),g.2)))) R)->Ev (λn=>F57 n (mb p dd w,M,pick,())) R:=by intro R h;unfold F57;refine Ev.ah b (Ev.ah (e66 d f) ?_);refine Ev.r5 (λn=>Kz (show ¬((hY p c).length:Int)=0 by omega) _ _) ?_;refine Ev.r5 (λn=>ZI (show((hY p c).length:Int)≠0 by omega) _) ?_;refine Ev.r5 (λn=>ZI (show((hY p c).length:Int)≠0 by omega) _) ?_;simp only[eO,abt pick (show 0<((hY p c).length:Int)by omega) (show((hY p c).length:Int)<=1000 by omega)];refine Ev.r5 (λn=>LG y.1 y.2 _) ?_;have z:=e67 (M:=M) d f t u;rw[o]at z;refine Ev.ah z ?_;refine Ev.r5 (λn=>?_) h;simp only[j];cases e<;>rfl
 obtain⟨A,F,l,m⟩|⟨l,R,m⟩:=e48 (M:=M) d v (s:=k+1) (by omega)
 .simp only[l];have h3:=(ij d v l).2.2;by_cases h5:5000<F
  .rw[bw h5];exact⟨(mb p dd A,M,()),key (Ev.ah m (bK λn=>by simp(disch:=omega)only[bu]<;>rfl))⟩
  .rw[bL h5];exact⟨(mb p dd A,M,()),key (Ev.ah m (bK λn=>by simp(disch:=omega)only[bu]<;>rfl))⟩
 .simp only[l];exact⟨R,key (Ev.ah m dz)⟩
end
end
section
section
variable {n:Nat}{p:ax}{dd:List aq}{w:aj}
theorem dm.sm{k:Nat}{l:Int}(b:se p dd)(hl:0<=l){g:au}(a:dm p dd k l g):g.Env.length<=30∧g.Stack.length<=60:=by have h1:=a.el;have h2:=a.sl;have:=b.dep.ok g.At a.lo a.hi a.re;omega
theorem fN.small(e:se p dd){k:Nat}{o:bI}(h:fN p dd k o):o.g9.length<=40∧o.Frames.length<=50∧∀g∈o.Frames,g.Env.length<=40∧g.Stack.length<=70:=by
 have fr:∀{g:au}{l:Int},0<=l->dm p dd k l g->g.Env.length<=40∧g.Stack.length<=70:=λj m=>by have:=m.sm e j;omega
 cases h with
 | @data n q a b c d=>
  have:=(e.cons _ (bT bf (show n.toNat<p.Cons.length by omega))).2
  grind[lK]
 | @func n q a b c=>
  obtain⟨i,f,h1,h2,h3,h4⟩:=a;have r:=e.dep.ok i f h1 h3;have:=e.dep.step i f h1 h3 (n,bV 0 ((dV dd i).Env+1)) (by simp[dM,h2,h4])
  grind[bV]
 |cell a=>simp_all|chan a b=>grind|Ci a b c=>grind|sB a b c=>
  grind
 |done a=>simp_all|dead a=>simp_all
theorem jD.small(a:se p dd)(h:jD p dd w):oQ w:=by have h1:=h.len;have h2:=h.tl;have h3:=h.outs;have h4:=h.ins;exact⟨by omega,by omega,by omega,by omega,λo b=>(h.obs o b).small a⟩
def s7{R B P:Type}(len:Nat)(hl:len<=1000000){F:Nat->Int×U->O (LO (Int×U) R B P)}(h:∀i,i<len->Ev (λn=>F n ((i:Int),())) (.next (((i+1:Nat):Int),())))(a:∀n,F n ((len:Int),())=Z (.out 0 ((len:Int),()))) :
  gJ F (0,()) (.out 0 ((len:Int),())):=lE (s:=λi=>((i:Int),())) len 0 h (bK a)
def e35{l:L Int}(hl:l.length<=1000):Ev (λn=>F35 n (l,l,())) ((W,()),()):=by
 unfold F35;simp only[bu];refine Ev.br (F:=λn c=>_) (s7 l.length (by omega) (λi a=>bK λn=>?_) λn=>?_) (λn c=>_) _ dz
 .simp (disch:=omega)only[bu,bQ,gj,gq]<;>rfl
 simp_all[bu]
def e54{l:L ei}(hl:l.length<=1000):Ev (λn=>F54 n (l,l,())) ((W,()),()):=by
 unfold F54;simp only[bu];refine Ev.br (F:=λn c=>_) (s7 l.length (by omega) (λi a=>bK λn=>?_) λn=>?_) (λn c=>_) _ dz
 .simp (disch:=omega)only[bu,bQ,gj,gq]<;>rfl
 simp_all[bu]
theorem ag3(b:Bool):cm W b=b:=rfl
def agT{l:L aA}(hl:l.length<=1000):Ev (λn=>F110 n (l,l,())) ((W,()),()):=by
 unfold F110;simp only[bu];refine Ev.br (F:=λn c=>_) (s7 l.length (by omega) (λi a=>bK λn=>?_) λn=>?_) (λn c=>_) _ dz
 .simp (disch:=omega)only[bu,ag3,ZR,bQ,gj,gq]<;>rfl
 simp_all[bu]
def e55{o:bI}(h1:o.g9.length<=40)(h2:o.Frames.length<=50)(h3:∀g∈o.Frames,g.Env.length<=40∧g.Stack.length<=70):Ev (λn=>F55 n (o,o,())) ((W,()),()):=by
 unfold F55 Pz Py;have d:∀b,o8 b b=W:=λb=>by cases b<;>rfl
 simp only[bu];refine Ev.ah (agT (by omega)) ?_;simp only[bu];refine Ev.br (F:=λn c=>_) (s7 o.Frames.length (by omega) (λi e=>?_) λn=>?_) (λn c=>_) _ dz
 .have a:=h3 _ (bT aS e);simp(disch:=omega)only[bu,d];refine Ev.ah (agT (fZ a.1 (by decide))) ?_;simp only[bu];refine Ev.ah (agT (fZ a.2 (by decide))) (bK λn=>?_);simp(disch:=omega)only[bu,bQ,gj,gq]<;>rfl
 simp_all[bu]
def e18(d:se p dd)(a:jD p dd w):Ev (λn=>F18 n (w,w,())) ((W,()),()):=by
 have e:=a.len;have f:=a.tl;have g:=a.outs;have b:=a.ins;unfold F18;simp only[bu];refine Ev.ah (e35 (by omega)) ?_;simp only[bu];refine Ev.ah (e54 (by omega)) ?_;simp only[bu];refine Ev.ah (e35 (by omega)) ?_;simp only[bu];refine Ev.br (F:=λn c=>_) (s7 w.aP.length (by omega) (λi b=>?_) λn=>?_) (λn c=>_) _ dz
 .obtain ⟨h1,h2,h3⟩:=(a.obs _ (bT bG b)).small d;simp(disch:=omega)only[bu];refine Ev.ah (e55 h1 h2 h3) (bK λn=>?_);simp(disch:=omega)only[bu,bQ,gj,gq]<;>rfl
 simp_all[bu]
def e23{l:L aM}(hl:l.length<=1000):Ev (λn=>F23 n (l,l,())) ((W,()),()):=by
 unfold F23;refine Ev.r5 (λn=>(Ky ..).trans (W1 rfl _ _)) ?_;refine Ev.all (l:=l) cZ (λ_=>W) (λ_=>.ret () (J,())) (λ_ _ h=>by cases h) (λi a=>bK λn=>?_) (λn=>by simp(disch:=omega)only[bu]) (λb=>dz) (λi a b=>?_)
 .unfold Kh;simp(disch:=omega)only[bu,cm,Dt,bQ,gj,gq]
 simp_all
def e21(hs:Small p)(d:oQ w):(∃D,Rt p D∧jD p D w∧Ev (λn=>F21 n (p,w,())) ((⟨p,D⟩,W,()),()))∨((¬∃D,Rt p D∧jD p D w)∧∃m,Ev (λn=>F21 n (p,w,())) ((m,J,()),())):=by
 unfold F21;obtain⟨D,c,h⟩|⟨e,m,h⟩:=e14 hs
 .obtain ⟨a,b⟩|⟨a,b⟩:=e32 c.ok hs d
  .exact .inl ⟨D,c,a,Ev.ah h (Ev.ah b (Ev.pure _))⟩
  .exact .inr ⟨λ⟨E,f,g⟩=>a (c.uniq f▸g),_,Ev.ah h (Ev.ah b (Ev.pure _))⟩
 .exact .inr ⟨λ⟨D,a,_⟩=>e ⟨D,a⟩,_,Ev.ah h (Ev.pure _)⟩
theorem ac7(h:oQ w):Ev (λn=>F31 n (w,())) ((W,()),()):=by
 obtain⟨a,b⟩|⟨a,b⟩:=e31 w
 .exact b
 grind
theorem ac6(c:se p dd)(hs:Small p)(h:jD p dd w):Ev (λn=>F32 n (⟨p,dd⟩,w,())) ((W,()),()):=by
 obtain⟨a,b⟩|⟨a,b⟩:=e32 c hs (h.small c)
 .exact b
 grind
end
end
section
section
variable {n:Nat}{p:ax}{dd:List aq}{w:aj}{M:MP}
theorem ak3(k:Int):F103 n (k,())=Z ((k,()),()):=rfl
variable {i:Nat}
def MW{α:Type}{l:L α}{d x:α}(h:i<l.length)(a:x=l.getD i d):l.set i x=l:=by
 simp_all
def CH{l:L aA}(hl:l.length<=1000):Ev (λn=>mz n ((l,()),())) (.out 0 (l,(l.length:Int),())):=by
 unfold mz;refine Ev.iter (F:=λn c=>_) (lE (s:=λi=>(l,(i:Int),())) l.length 0 (λi a=>bK λn=>?_) (bK λn=>?_))
 .by_cases h5:(l.getD i cB).Kind=5
  .simp (disch:=omega)only[bu,h5,ak3,bQ,gj,gq];rw[MW a (by rw[<-h5])]
  .simp (disch:=omega)only[bu,h5,bQ,gj,gq]<;>rfl
 simp_all[bu]
def tC{fs:L au}(hi:i<fs.length):rI fs i (au.mk (fs.getD i aS).At (fs.getD i aS).Env (fs.getD i aS).Stack (fs.getD i aS).ep)=fs:=MW hi rfl
theorem OP{a b:Int}{vs:L aA}{fs:L au}(hf:fs.length<=1000)(hs:∀g∈fs,g.Env.length<=1000∧g.Stack.length<=1000) :
  ∀m i:Nat,i+m=fs.length->∃c,∀n,c<=n->∀d,m+4<=d->BG n d ((i:Int),(a,b,vs,fs,()),())=Z ((W,()),(a,b,vs,fs,()),())
 |0,i,h=>⟨0,λn _ d j=>by
  obtain⟨k,rfl⟩:∃k,d=k+4:=⟨d-4,by omega⟩
  simp_all[HR,Mq,bu]⟩
 |m+1,i,h=>by
  have e:i<fs.length:=by omega
  obtain⟨l,h1⟩:=OP (a:=a) (b:=b) (vs:=vs) hf hs m (i+1) (by omega);obtain⟨o,p⟩:=hs _ (bT aS e);obtain⟨q,h2⟩:=CH o;obtain⟨r,h3⟩:=CH p;refine⟨l+q+r,λn t d j=>?_⟩;obtain⟨k,rfl⟩:∃k,d=k+4:=⟨d-4,by omega⟩;have h1:=h1 n (by omega) (k+3) (by omega);have h2:mz n (((fs.getD i aS).Env,()),())=_:=h2 n (by omega);have h3:mz n (((fs.getD i aS).Stack,()),())=_:=h3 n (by omega);have u:uf ((i:Int),(a,b,vs,fs,()),())=fs.getD i aS:=rfl;have s:qo ((i:Int),(a,b,vs,fs,()),()) ((fs.getD i aS).Env,((fs.getD i aS).Env.length:Int),())=fs:=tC e;have v:qn ((i:Int),(a,b,vs,fs,()),()) ((fs.getD i aS).Env,((fs.getD i aS).Env.length:Int),())=fs.getD i aS:=by unfold qn;rw[s];rfl
  have w:rI fs i (au.mk (fs.getD i aS).At (fs.getD i aS).Env (fs.getD i aS).Stack (fs.getD i aS).ep)=fs:=tC e;rw[HR];unfold Mq;have f:aF .i64 (i:Int) 1=((i+1:Nat):Int):=by grind[bQ]
  have x:aN (i:Int) fs=W:=by simp[aN];omega
  have y:eR i fs=W:=by simp[eR];omega
  refine(Kz (show ¬(i:Int)=(fs.length:Int)by omega) _ _).trans ?_
  simp_all[X5,ZH,ac9,tZ,lS]
theorem e49(q:se p dd)(e:jD p dd w):Ev (λn=>F49 n (mb p dd w,M,())) ((w,()),mb p dd w,M,()):=by
 have F:=e.len;have r:=e.tl;unfold F49 G49;have t:gJ (R:=U) (B:=U) (P:=Any) (λn d=>ai (aC d.2.1 (av w.aP)) (aT (dF d.1 [d.2.1]) (Z (N (di d.1 [d.2.1],aF .i64 d.2.1 1,())))) (Z (H 0 d))) ([],0,()) (.out 0 (oI w.aP.length,(w.aP.length:Int),())):=by refine lE (s:=λi=>(oI i,(i:Int),())) w.aP.length 0 (λi c=>bK λn=>?_) (bK λn=>by simp(disch:=omega)only[bu]);have u:=wq i;simp(disch:=first|omega|simp only[mK];omega)only[bu,bQ,gj,gq,Jp]
 refine Ev.br t (λn d=>_) _ ?_;refine Ev.r5 (λn=>lS ..) ?_;have v:gJ (R:=U) (B:=(L bI×L Int×L ei×L Int×Int×U)×U) (P:=Any) (λn(j:Int×(L bI×L Int×L ei×L Int×Int×U)×U)=>ai (aC j.1 (av (oI w.aP.length))) (aT (aN j.1 (oI w.aP.length)) (aT (eR (az j.1) (oI w.aP.length)) (aT (aN (bp (oI w.aP.length) (az j.1) 0) w.aP) (ah (F238 n ((y6 (mb p dd w,M,()) (oI w.aP.length,(w.aP.length:Int),()) j).4,())) λk=>ah (E4 n (n+8) (((y6 (mb p dd w,M,()) (oI w.aP.length,(w.aP.length:Int),()) j).1,(y6 (mb p dd w,M,()) (oI w.aP.length,(w.aP.length:Int),()) j).2,(y6 (mb p dd w,M,()) (oI w.aP.length,(w.aP.length:Int),()) j).3,k.1),())) λl=>aT (dF j.2.1.1 [bI.mk l.2.1.1 l.2.1.2.1 l.2.1.2.2.1 l.2.1.2.2.2.1]) (Z (N (aF .i64 j.1 1,(di j.2.1.1 [bI.mk l.2.1.1 l.2.1.2.1 l.2.1.2.2.1 l.2.1.2.2.2.1],j.2.1.2),()))))))) (Z (H 0 j)))
   (0,([],[],w.mU,w.dG,w.Used,()),()) (.out 0 ((w.aP.length:Int),(w.aP.take w.aP.length,[],w.mU,w.dG,w.Used,()),())):=by
  refine lE (s:=λi=>((i:Int),(w.aP.take i,[],w.mU,w.dG,w.Used,()),())) w.aP.length 0 (λi c=>?_) (bK λn=>?_)
  .obtain ⟨h1,h2,h3⟩:=(e.obs _ (bT bG c)).small q;obtain⟨x,f⟩:=CH (l:=(w.aP.getD i bG).g9) (by omega);obtain⟨y,h⟩:=OP (a:=(w.aP.getD i bG).Form) (b:=(w.aP.getD i bG).N) (vs:=(w.aP.getD i bG).g9) (fs:=(w.aP.getD i bG).Frames) (by omega) (λg I=>by grind) (w.aP.getD i bG).Frames.length 0 (by omega);refine⟨x+y+1000,λn u=>?_⟩;have f:mz n (((w.aP.getD i bG).g9,()),())=_:=f n (by omega);have h:BG n (n+7) (0,((w.aP.getD i bG).Form,(w.aP.getD i bG).N,(w.aP.getD i bG).g9,(w.aP.getD i bG).Frames,()),())=_:=h n (by omega) (n+7) (by omega);have z:E4 n (n+8) (((w.aP.getD i bG).Form,(w.aP.getD i bG).N,(w.aP.getD i bG).g9,(w.aP.getD i bG).Frames,()),())=Z ((),((w.aP.getD i bG).Form,(w.aP.getD i bG).N,(w.aP.getD i bG).g9,(w.aP.getD i bG).Frames,()),()):=by
    rw[show n+8=(n+4)+4 from rfl,Si]
    grind[Uo,ac9,tZ,ah,mz,bG,lS]
   have e0:bp (oI w.aP.length) (az (i:Int)) 0=(i:Int):=XY c;have A:y6 (mb p dd w,M,()) (oI w.aP.length,(w.aP.length:Int),()) ((i:Int),(w.aP.take i,[],w.mU,w.dG,w.Used,()),())=w.aP.getD i bG:=by unfold y6;simp only[e0];rfl
   have C:=wq w.aP.length;simp only[A,ada,tZ,z,e0];simp(disch:=first|omega|simp only[mK];omega)only[bu,bQ,gj,gq];rw[show bI.mk (w.aP.getD i bG).Form (w.aP.getD i bG).N (w.aP.getD i bG).g9 (w.aP.getD i bG).Frames=w.aP.getD i bG from rfl,take_succ bG c]
  simp_all[wq,bu]
 have E:gJ (R:=U) (B:=(L bI×L Int×L ei×L Int×Int×U)×U) (P:=Any) (λn(m:Int×(L bI×L Int×L ei×L Int×Int×U)×U)=>ai (aC m.1 (av w.bg)) (aT (aN m.1 w.bg) (ah (F103 n (bp w.bg (az m.1) 0,())) λo=>aT (dF m.2.1.2.1 [o.1.1]) (Z (N (aF .i64 m.1 1,(m.2.1.1,di m.2.1.2.1 [o.1.1],m.2.1.2.2),()))))) (Z (H 0 m)))
   (0,(w.aP.take w.aP.length,[],w.mU,w.dG,w.Used,()),()) (.out 0 ((w.bg.length:Int),(w.aP.take w.aP.length,w.bg.take w.bg.length,w.mU,w.dG,w.Used,()),())):=by
  refine lE (s:=λi=>((i:Int),(w.aP.take w.aP.length,w.bg.take i,w.mU,w.dG,w.Used,()),())) w.bg.length 0 (λi c=>bK λn=>?_) (bK λn=>by simp(disch:=omega)only[bu]);simp(disch:=first|omega|simp only[mK];omega)only[bu,ak3,bQ,gj,gq];rw[take_succ 0 c]
 refine Ev.ah (bK λn=>arz w.mU) (Ev.ah (bK λn=>e47 w.dG) ?_);refine Ev.br v (λn d=>_) _ ?_;refine Ev.r5 (λn=>lS ..) ?_;refine Ev.br E (λn d=>_) _ (bK λn=>?_);rw[lS];simp only[Qw];rfl
end
end
section
section
variable {p:ax}{dd:List aq}{M:MP}{w w':aj}{left:List au}{f:au}{at_ t n:Int}{v u:aA}{i:bO}{l:List aA}
structure Ex(w w':aj)(t:Int):Prop where
 le:w.aP.length<=w'.aP.length
 same:∀x:Int,0<=x->x<w.aP.length->x≠t->cO w' x=cO w x
 f1:(cO w t).Form=6
 f2:(cO w' t).Form=6
def Pl(r:sY):Prop:=∃w fr,r=.go w fr Y
structure Q(w:aj)(r r':sY):Prop where
 one:∀w1 fr,r=.go w1 fr Y->w1=w∨∃o,w1=gR w o
 two:Pl r'->Pl r
theorem Q.KS{r a:sY}(h:¬Pl r)(b:¬Pl a):Q w r a:=⟨λc fr e=>absurd ⟨_,_,e⟩ h,λe=>absurd e b⟩
theorem fu{s:Int}:¬Pl (.fail s):=λ⟨_,_,h⟩=>by cases h
def AP:¬Pl .waits:=λ⟨_,_,h⟩=>by cases h
variable {e:aM}{o:bI}
def wu{w:aj}{fr:L au}:¬Pl (.go w fr (Z e)):=λ⟨_,_,h⟩=>by cases h
theorem abM:¬Pl (.done v):=λ⟨_,_,h⟩=>by cases h
theorem Q.go{fr fr':L au}:Q w (.go w fr Y) (.go w' fr' Y):=⟨λa fr e=>by simp_all,λ_=>⟨_,_,rfl⟩⟩
theorem Q.made(a:Ex w w' t){o:bI}{f b:au}:Q w (o5 w left f o) (o5 w' left b o):=by
 have:=a.le;unfold o5;by_cases h:120<=w.aP.length
 .rw[bw h,bw (by omega)];exact Q.KS fu fu
 .rw[bL h];exact⟨λc fr e=>by cases e;grind,λ_=>⟨_,_,rfl⟩⟩
def Tn{f:au}:¬Pl (o5 w left f o (Z e)):=by
 unfold o5;split
 .exact fu
 .exact wu
theorem Q.enter{l a:L au}(h:a.length=l.length):Q w (oO w left l) (oO w' left a):=by
 grind[oO,Q.KS,fu,Q.go]
def KO(d:Ex w w' t)(f:cH p w.aP.length v){c:Int}(hf:c≠6):jU w' v c=jU w v c:=by
 unfold jU;by_cases h5:v.Kind=5
 .obtain ⟨a,b⟩:=f.ref h5;by_cases e:v.N=t
  .rw[e,bL (by rw[d.f2];omega),bL (by rw[d.f1];omega)]
  .rw[d.same _ a b e]
 simp_all
def ZQ(a:Ex w w' t)(b:cH p w.aP.length v):mS p w' v u=mS p w v u:=by unfold mS;rw[KO a b (by decide)]
mutual
def NV(a:jD p dd w)(b:Ex w w' t):∀(q:aD)(v:aA),cH p w.aP.length v->kW w' q v=kW w q v
 |⟨c,n,text,parts⟩,v,d=>by unfold kW;rw[KO b d (by decide)];cases e:jU w v 1 with|none=>rfl|some o=>simp only[Gj a b parts o.g9 (gO a d e).2.1.vals]
def Gj(a:jD p dd w)(b:Ex w w' t):∀(qs:L aD)(vs:L aA),(∀v∈vs,cH p w.aP.length v)->gZ w' qs vs=gZ w qs vs
 |[],vs,_=>by cases vs<;>rfl
 |_::_,[],_=>rfl|q::qs,v::vs,h=>by unfold gZ;rw[NV a b q v (h v eI),Gj a b qs vs (λv c=>h v (g7 _ c))]
end
def adt(a:Ex w w' t)(b:cH p w.aP.length u){r:Bool}:Q w (rq p w left u v r) (rq p w' left u v r):=by
 unfold rq;rw[ZQ a b];split
 .exact Q.enter rfl
 .rw[KO a b (by decide)];split
  .exact Q.enter rfl
  .exact Q.KS fu fu
theorem aiF(x:Cx p dd w left i f l n)(a:Ex w w' t):Q w (iF p w at_ left i f l) (iF p w' at_ left i f l):=by
 have j:=a.le;have io:=x.io;have h1:=io.lo;have h2:=io.hi;obtain⟨k,b⟩:∃k:Nat,i.Op=k:=⟨_,(BX (by omega)).symm⟩;have c:1<=k:=by omega
 have d:k<=34:=by omega
 have tl:k≠18->l.length=kT.getD k 0:=λh=>by rw[x.tl b (by omega)];rfl
 unfold iF;simp only[b,we]
 match k,b,c,d,tl with
 |1,_,_,_,_|2,_,_,_,_|3,_,_,_,_|4,_,_,_,_|5,_,_,_,_|9,_,_,_,_|10,_,_,_,_|11,_,_,_,_=>exact Q.go|6,_,_,_,_|18,_,_,_,_=>exact Q.made a|7,_,_,_,tl|8,_,_,_,tl=>have g:=tl (by decide);simp[kT]at g;exact adt a (x.val (by omega))
 |12,_,_,_,_=>
  grind[Q.KS,fu,Q.go]
 |13,_,_,_,_|14,_,_,_,_|15,_,_,_,_|16,_,_,_,_|17,_,_,_,_=>
  simp only;unfold uU;simp only
  repeat' split
  all_goals first|exact Q.go|exact Q.KS fu fu
 |19,_,_,_,tl=>have g:=tl (by decide);simp[kT]at g;simp only;rw[NV x.hw a _ _ (x.val (by omega))];split<;>exact Q.go
 |20,_,_,_,_=>exact Q.KS fu fu|21,_,_,_,_|26,_,_,_,_=>exact Q.KS Tn Tn|22,_,_,_,_=>
  simp only;unfold IF;refine Q.KS ?_ ?_<;>split<;>first|exact fu|exact wu
 |23,_,_,_,_=>
  simp only;unfold jq;refine Q.KS ?_ ?_<;>split<;>first|exact fu|exact wu
 |24,_,_,_,_=>
  simp only;unfold Fl;refine Q.KS ?_ ?_<;>(repeat' split)<;>first|exact fu|exact wu
 |25,_,_,_,_=>
  simp only;unfold N4;refine Q.KS ?_ ?_<;>(repeat' split)<;>first|exact fu|exact wu|exact AP
 |27,_,_,_,_=>
  simp only;unfold MX;refine Q.KS ?_ ?_<;>(repeat' split)<;>first|exact fu|exact wu|exact AP
 |28,_,_,_,_=>
  simp only;unfold MO;refine Q.KS ?_ ?_<;>(repeat' split)<;>first|exact fu|exact wu|exact AP
 |29,_,_,_,_=>
  simp only;unfold XT;refine Q.KS ?_ ?_<;>(repeat' split)<;>first|exact fu|exact wu|exact AP
 |30,_,_,_,_=>
  simp only;unfold inS;refine Q.KS ?_ ?_<;>(repeat' split)<;>first|exact fu|exact wu|exact AP
 |31,_,_,_,_=>exact Q.enter rfl|32,_,_,_,_=>
  simp only;unfold Kx;split
  .exact Q.KS fu fu
  .by_cases h:120<=w.aP.length
   .rw[bw h,bw (by omega)];exact Q.KS fu fu
   .rw[bL h];exact⟨λm fr e=>by grind,λ_=>⟨_,_,rfl⟩⟩
 |33,_,_,_,_=>exact Q.KS wu wu|34,_,_,_,_=>
  simp only;unfold abq
  grind[Q.KS,abM,Q.go]
 |k+35,_,_,h,_=>omega
theorem Ex.refl(h:(cO w t).Form=6):Ex w w t:=⟨eM _,λ_ _ _ _=>rfl,h,h⟩
def aep(a:se p dd)(b:jD p dd w)(hf:o.Form=6)(hn:o.N=0)(c:fN p dd w.aP.length o)(d:Ex w w' t):Q w (goS p w at_ o) (goS p w' at_ o):=by obtain⟨e,f,rfl,h1,h2,h3⟩:=GL c hf hn;rw[Ln,Ln];exact aiF (ZC a b h1 h2 h3) d
def qD(p:ax)(w:aj)(i:Int):Prop:=∃x,kN p w i=Z (x,Y)
def NJ(b:cO w (cg w at_)=o):qD p w at_↔o.N=0∧Pl (goS p w at_ o):=by
 subst b;unfold qD kN;simp only;constructor
 .rintro ⟨x,h⟩
  split at h
  .cases h
  .refine ⟨by omega,?_⟩;split at h
   .cases h
   .cases h
   .cases h
   .rename_i c fr e a;cases h;exact⟨_,_,a⟩
 .rintro ⟨h1,c,fr,a⟩
  simp_all
theorem xH{x:Int}{o:bI}(a:0<=t)(b:0<=x):cO (ku w t o) x=if x=t∧x<w.aP.length then o else cO w x:=by
 unfold cO ku
 grind
def XK(f:se p dd)(d:jD p dd w)(i:0<=at_)(h1:at_<w.bg.length)(hs:kN p w at_=Z (w',Y)):w'.bg=w.bg∧Ex w w' (cg w at_):=by
 refine⟨(xG f d i h1 hs).2.2 rfl,?_⟩;have j:=d.task _ (bT 0 (show at_.toNat<w.bg.length by omega));obtain⟨t1,t2,t3⟩:=j;have g:=d.ob t1 t2;change 0<=cg w at_ at t1;change cg w at_<_ at t2;change(cO w (cg w at_)).Form=6 at t3;change fN p dd _ (cO w (cg w at_))at g;unfold kN at hs;simp only at hs;split at hs
 .cases hs
 have q:=aep (at_:=at_) (w':=w) f d t3 (by omega) g (Ex.refl t3);split at hs
 .cases hs
 .cases hs
 .cases hs
 rename_i e k;cases hs;obtain rfl|⟨o,rfl⟩:=q.one _ _ k
 .refine ⟨by simp[ku],λx a b c=>?_,t3,?_⟩
  .rw[xH t1 a,bL (λh=>c h.1)]
  .rw[xH t1 t1,bw ⟨rfl,t2⟩]
 .have e:∀x:Int,0<=x->x<w.aP.length->cO (gR w o) x=cO w x:=λx a b=>by unfold cO gR;simp only[vR];rw[Xh (by omega)]
  refine⟨by simp[ku,gR],λx a b c=>?_,t3,?_⟩
  .rw[xH t1 a,bL (λh=>c h.1),e x a b]
  .rw[xH t1 t1,bw ⟨rfl,by simp[gR];omega⟩]
theorem QF(i:se p dd)(b:jD p dd w)(k:w'.bg=w.bg)(f:Ex w w' (cg w at_)){j:Int}(m:0<=at_)(h1:at_<w.bg.length)(n:0<=j)(o:j<w.bg.length)(q:j≠at_)(h:qD p w' j):qD p w j:=by
 have l:=b.task _ (bT 0 (show j.toNat<w.bg.length by omega));obtain⟨t1,t2,t3⟩:=l;have g:=b.ob t1 t2;change 0<=cg w j at t1;change cg w j<_ at t2;change(cO w (cg w j)).Form=6 at t3;change fN p dd _ (cO w (cg w j))at g;have d:cg w j≠cg w at_:=by
  unfold cg;intro e;rw[vR,vR,iR (show j.toNat<w.bg.length by omega),iR (show at_.toNat<w.bg.length by omega)]at e;have:=(QB.1 b.En)
  grind
 have e:cO w' (cg w' j)=cO w (cg w j):=by rw[show cg w' j=cg w j by unfold cg;rw[k]];exact f.same _ t1 t2 d
 obtain⟨a,c⟩:=(NJ e).1 h;exact(NJ rfl).2 ⟨a,(aep i b t3 a g f).two c⟩
theorem Fy(d:se p dd):∀(k:Nat)(w:aj)(s:Nat)(w':aj)(s':Nat),jD p dd w->0<=at_->at_<w.bg.length->Fz p at_ k w s=Z (w',s')->
  ¬qD p w' at_∧∀j:Int,0<=j->j<w.bg.length->j≠at_->¬qD p w j->¬qD p w' j
 |0,_,_,_,_,_,_,_,h=>by cases h
 |k+1,w,s,w',s',g,f,h1,h=>by
  unfold Fz at h;cases c:kN p w at_ with
  |none=>rw[c]at h;cases h;exact⟨(λ⟨x,i⟩=>by simp_all),λ_ _ _ _ h=>h⟩
  |some r=>
   obtain⟨l,e⟩:=r;rw[c]at h;cases e with
   |some e=>cases h;exact⟨(λ⟨x,i⟩=>by simp_all),λ_ _ _ _ h=>h⟩
   |none=>
    obtain⟨m,_,_⟩:=xG d g f h1 c;obtain⟨n,i⟩:=XK d g f h1 c;simp only at h;split at h
    .cases h
    .obtain ⟨a,b⟩:=Fy d k l (s+1) w' s' m f (by grind) h
     grind[QF]
theorem yE(e:se p dd):∀(m i:Nat)(w:aj)(s:Nat)(w':aj)(s':Nat),jD p dd w->i+m<=w.bg.length->eG p m i w s=Z (w',s')->
  (∀j:Int,0<=j->j<i->¬qD p w j)->∀j:Int,0<=j->j<i+m->¬qD p w' j
 |0,i,w,s,w',s',f,o,h,l=>by cases h;simpa using l
 |m+1,i,w,s,w',s',f,o,h,l=>by
  unfold eG at h;split at h
  .cases h
  .rename_i g k n;obtain⟨a,b,_,_⟩:=KD e _ w s g k f (by omega) (by omega) n;obtain⟨c,d⟩:=Fy e _ w s g k f (by omega) (by omega) n;have:=yE e m (i+1) g k w' s' a (by rw[b];omega) h (λj q r=>by
    grind)
   grind
def y4(p:ax)(w:aj):Prop:=∀j:Int,0<=j->j<w.bg.length->¬qD p w j
theorem o9(c:se p dd)(d:jD p dd w){s s':Nat}(h:eG p w.bg.length 0 w s=Z (w',s')):y4 p w':=by obtain⟨a,b,_,_⟩:=ij c d h;have:=yE c _ 0 w s w' s' d (by omega) h (λj a b=>by omega);exact λj e f=>this j e (by grind)
def UU(h:¬qD p w at_)(k s:Nat):Fz p at_ (k+1) w s=Z (w,s):=by
 unfold Fz;cases a:kN p w at_ with
 |none=>rfl|some r=>
  obtain⟨b,e⟩:=r;cases e with|some e=>rfl|none=>exact absurd ⟨b,a⟩ h
theorem pF(a:y4 p w):∀(m i s:Nat),i+m<=w.bg.length->eG p m i w s=Z (w,s)
 |0,_,_,_=>rfl|m+1,i,s,h=>by unfold eG;rw[UU (a (i:Int) (by omega) (by omega)) 5001 s];exact pF a m (i+1) s (by omega)
end
end
section
section
variable {p:ax}{dd:List aq}{M:MP}{w:aj}
theorem PT(a:se p dd)(b:jD p dd w)(c:y4 p w){k:Int}{w1:aj}(h:kM p w k=.idle w1):w1=w:=by
 grind[MI,pF]
theorem zd(a:se p dd)(b:jD p dd w){k:Int}{w1:aj}{e:aM}{s:Nat}(h:kM p w k=.ok w1 e s):jD p dd w1∧y4 p w1:=by
 grind[MI,o9]
def kO(p:ax):L Int->aj->O (aj×L aM)
 |[],w=>Z (w,[])|k::a,w=>match kM p w k with
  |.IC=>Y|.idle _=>Z (w,[])|.ok b e _=>match kO p a b with
   |none=>Y|some (x,l)=>Z (x,e::l)
def AI(f:se p dd):∀(ks:L Int){w x:aj}{l:L aM},jD p dd w->y4 p w->kO p ks w=Z (x,l)->jD p dd x∧y4 p x∧l.length<=ks.length
 |[],w,x,l,g,n,h=>by cases h;simp_all
 |k::ks,w,x,l,g,n,h=>by
  unfold kO at h;cases i:kM p w k with
  |IC=>simp_all|idle j=>simp_all|ok j e s=>
   obtain⟨a,b⟩:=zd f g i;rw[i]at h;simp only at h;cases m:kO p ks j with
   |none=>simp_all|some r=>
    obtain⟨o,q⟩:=r;rw[m]at h;cases h;obtain⟨c,d,e⟩:=AI f ks a b m
    simp_all
def wg(p:ax)(w:aj)(ks:L Int):O (aj×L aM):=match eG p w.bg.length 0 w 0 with
 |none=>Y|some (a,_)=>kO p ks a
def XJ(a:se p dd)(c:jD p dd w){ks:L Int}{x:aj}{l:L aM}(h:wg p w ks=Z (x,l)):jD p dd x∧y4 p x∧l.length<=ks.length:=by unfold wg at h;cases b:eG p w.bg.length 0 w 0 with|none=>simp_all|some r=>obtain⟨d,s⟩:=r;rw[b]at h;exact AI a ks (ij a c b).1 (o9 a c b) h
abbrev z5:Z5:=([],[],[],[],0,())
theorem Jh(j:se p dd){P:Type}{kP:L Int}(r:kP.length<=1000)(F:Nat->L aM×Int×Z5×MB×MP×U->O (LO (L aM×Int×Z5×MB×MP×U) (L aM×Int×U) (Z5×MB×MP×U) P))
  (t:∀n g,F n g=ai (aC g.2.1 (av kP)) (aT (aN g.2.1 kP) (ah (F57 n (g.2.2.2.1,g.2.2.2.2.1,bp kP (az g.2.1) 0,())) λh=>ai (aa h.1.2.2.1 5) (Z (H 0 (g.1,g.2.1,([],[],[],[],g.2.2.1.2.2.2.2),h.2))) (ai (ak (aa h.1.2.2.1 0)) (Z (X (([],[],[],[],0,()),h.2) ([],h.1.2.2))) (aT (dF g.1 [h.1.1]) (Z (N (di g.1 [h.1.1],aF .i64 g.2.1 1,([],[],[],[],g.2.2.1.2.2.2.2),h.2))))))) (Z (H 0 (g.1,g.2.1,([],[],[],[],g.2.2.1.2.2.2.2),g.2.2.2)))) :
  ∀(ks pre:L Int)(c:L aM)(w:aj),kP=pre++ks->c.length<=pre.length->jD p dd w->y4 p w->
  (∃w' l i,kO p ks w=Z (w',l)∧gJ F (c,(pre.length:Int),z5,mb p dd w,M,()) (.out 0 (c++l,i,z5,mb p dd w',M,())))∨
  (kO p ks w=Y∧∃R,gJ F (c,(pre.length:Int),z5,mb p dd w,M,()) (.ret (z5,R) ([],8,())))
 |[],pre,c,w,d,A,m,u=>by refine .inl ⟨w,[],(pre.length:Int),rfl,?_⟩;rw[jB];refine .out (bK λn=>?_);rw[jB]at d;subst d;rw[t];simp(disch:=omega)only[bu]
 |k::ks,pre,c,w,d,A,m,u=>by
  have v:pre.length<kP.length:=by rw[d];simp
  have B:kP.getD pre.length 0=k:=by simp_all
  obtain⟨R,C⟩:=e57 (M:=M) j m k;have step:∀{o:LO (L aM×Int×Z5×MB×MP×U) (L aM×Int×U) (Z5×MB×MP×U) P},Ev (λn=>TL.ai (aa (yD p dd M R (kM p w k)).1.2.2.1 5) (Z (H 0 (c,(pre.length:Int),z5,(yD p dd M R (kM p w k)).2))) (TL.ai (ak (aa (yD p dd M R (kM p w k)).1.2.2.1 0)) (Z (X (z5,(yD p dd M R (kM p w k)).2) ([],(yD p dd M R (kM p w k)).1.2.2))) (TL.aT (dF c [(yD p dd M R (kM p w k)).1.1]) (Z (N (di c [(yD p dd M R (kM p w k)).1.1],aF .i64 (pre.length:Int) 1,z5,(yD p dd M R (kM p w k)).2)))))) o->Ev (λn=>F n (c,(pre.length:Int),z5,mb p dd w,M,())) o:=by intro o h;refine Ev.r5 (λn=>(t n _).trans (uq (show((pre.length:Nat):Int)<(kP.length:Int)by omega) _ _)) ?_;refine Ev.r5 (λn=>LG (show(0:Int)<=pre.length by omega) (by omega) _) ?_;have e:bp kP (az ((pre.length:Nat):Int)) 0=k:=B;simp only[e];exact Ev.ah C h
  unfold kO;cases f:kM p w k with
  |IC=>rw[f]at step;exact .inr ⟨rfl,R,.ret (step dz)⟩|idle q=>rw[f]at step;have:=PT j m u f;subst this;refine .inl ⟨q,[],(pre.length:Int),rfl,?_⟩;rw[jB];exact .out (step dz)|ok q e s=>
   rw[f]at step;obtain⟨a,b⟩:=zd j m f;have z:Ev (λn=>F n (c,(pre.length:Int),z5,mb p dd w,M,())) (.next (c++[e],((pre++[k]).length:Int),z5,mb p dd q,M,())):=by refine step (bK λn=>?_);have h1:([e]:L aM).length=1:=rfl;simp only[yD];simp(disch:=omega)only[bu,bQ,mG,rH,gj,gq]<;>rfl
   simp only;rcases Jh j r F t ks (pre++[k]) (c++[e]) q (by rw[d];simp) (by simp;omega) a b with⟨w',l,i,x,y⟩|⟨x,R,y⟩
   .refine .inl ⟨w',e::l,i,by rw[x],.next z ?_⟩
    grind
   .exact .inr ⟨by rw[x],R,.next z y⟩
def ad5:O (aj×L aM)->(aj×L aM×Int×U)×U
 |none=>((dg,[],8,()),())|some (w,l)=>((w,l,0,()),())
def e20(hs:Small p)(k:oQ w){kP:L Int}(hl:kP.length<=1000){r:(aj×L aM×Int×U)×U}(h1:∀D,Rt p D->jD p D w->kP.length<=200->ad5 (wg p w kP)=r)
  (h2:(¬∃D,Rt p D∧jD p D w)∨200<kP.length->((dg,[],2,()),())=r):Ev (λn=>F20 n (p,w,kP,())) r:=by
 unfold F20;refine Hz hs k (λD j f=>?_) (λh=>by rw[<-h2 (.inl h)];exact Ev.pure _);have d:=j.ok;by_cases e:200<kP.length
 .refine Ev.r5 (λn=>uq (show(200:Int)<kP.length by omega) _ _) ?_;rw[<-h2 (.inr e)];exact Ev.pure _
 refine Ev.r5 (λn=>rL (show(kP.length:Int)<=200 by omega) _ _) ?_;rw[<-h1 D j f (by omega)];unfold wg;obtain⟨m,o,a,b⟩|⟨a,R,b⟩:=e48 (M:=Rz p D) d f (s:=0) (by omega)
 .rw[a];refine Ev.ah b ?_;have a1:=(ij d f a).1;have a2:=o9 d f a;simp only;obtain⟨q,l,i,x,y⟩|⟨x,R,y⟩:=Jh (M:=Rz p D) d (P:=_) (kP:=kP) (by omega) _ (λn g=>rfl) kP [] [] m rfl (eM _) a1 a2
  .rw[x];refine Ev.br y (λn c=>_) _ ?_;exact Ev.ah (e49 d (AI d kP a1 a2 x).1) (Ev.pure _)
  .rw[x];exact Ev.br y (λn c=>_) _ dz
 .rw[a];exact Ev.ah b dz
end
end
section
section
variable {p:ax}{w:aj}{dd:List aq}
def aeD(p:ax)(w:aj):Prop:=∃D,Rt p D∧jD p D w
def abl(p:ax)(w:aj):(aj×Int×Int×U)×U:=match eG p w.bg.length 0 w 0 with
 |none=>((dg,0,8,()),())|some (a,s)=>((a,(s:Int),0,()),())
def e27(hs:Small p)(f:oQ w){r:(aj×Int×Int×U)×U}(h1:aeD p w->abl p w=r)(h2:¬aeD p w->((dg,0,2,()),())=r):Ev (λn=>F27 n (p,w,())) r:=by
 unfold F27;refine Hz hs f (λD e c=>?_) (λh=>by rw[<-h2 h];exact Ev.pure _);have d:=e.ok;rw[<-h1 ⟨D,e,c⟩];unfold abl;obtain⟨g,i,a,b⟩|⟨a,R,b⟩:=e48 (M:=Rz p D) d c (s:=0) (by omega)
 .rw[a];exact Ev.ah b (Ev.ah (e49 d (ij d c a).1) (Ev.pure _))
 .rw[a];exact Ev.ah b dz
end
end
def tB:L UInt8:=[109,111,100,117,108,101,32,98,32,123,32,102,117,110,32,119,111,114,107,40,99,32,58,32,99,104,97,110,32,105,110,116,41,32,58,32,117,110,105,116,32,61,32,108,101,116,32,120,32,61,32,115,101,110,100,40,99,44,32,53,41,32,105,110,32,115,101,110,100,40,99,44,32,54,41,59,32,102,117,110,32,109,97,105,110,40,117,32,58,32,117,110,105,116,41,32,58,32,105,110,116,32,61,32,108,101,116,32,99,32,61,32,99,104,97,110,32,105,110,32,108,101,116,32,116,32,61,32,115,112,97,119,110,40,102,117,110,32,117,32,61,62,32,119,111,114,107,32,99,41,32,105,110,32,116,97,107,101,40,99,41,32,43,32,114,101,115,101,116,40,49,32,43,32,40,115,104,105,102,116,32,107,32,61,62,32,107,32,40,107,32,49,48,41,41,41,59,32,125]
def S3(e:aM)(t op n k m:Int):Bool:=cm (aa e.1 t) (cm (aa e.2 op) (cm (aa e.3 n) (cm (aa e.4.1 k) (cm (aa e.4.2 m) W))))
noncomputable def gB(n:Nat):O Bool:=ah (F42 n (tB,())) λc=>ah (F13 n (c.1.1,[],())) λd=>ah (F20 n (c.1.1,d.1.1,[0,0,1,1,0,0,1],())) λe=>ah (F24 n (c.1.1,e.1.1,())) λg=>
 Z (aa d.1.2.1 0&&(aa e.1.2.2.1 0&&(aa g.1.2.1 0&&(aa (av e.1.2.1) 7&&(S3 (Kj e) 1 22 0 1 5&&(S3 (Ki e) 0 0 1 1 17&&aa (av g.1.1.1) 2))))))
noncomputable def gA(n:Nat):O Bool:=ah (aaE n) λh=>ah (F13 n (h.1.1,[],())) λi=>ah (F28 n (h.1.1,i.1.1,0,())) λk=>
 Z (aa i.1.2.1 0&&(aa k.1.2.2.2.1 0&&(S3 k.1.2.1 0 16 0 1 1&&aa k.1.2.2.1 3)))
def acV:gB 300=Z W:=by kernel_rfl
def acW:gA 300=Z W:=by kernel_rfl
def QZ:F12 300 ()=Z ((W,()),()):=by have a:=acV;have b:=acW;unfold gB at a;unfold gA at b;obtain⟨c,h1,a⟩:=iy a;obtain⟨d,h2,a⟩:=iy a;obtain⟨e,h3,a⟩:=iy a;obtain⟨g,h4,a⟩:=iy a;obtain⟨h,h5,b⟩:=iy b;obtain⟨i,h6,b⟩:=iy b;obtain⟨k,o,b⟩:=iy b;simp only[gK,eZ]at b a;obtain⟨p,q,r,f,j,l,s⟩:=a;obtain⟨a1,a2,n,t⟩:=b;unfold S3 at j l n;have u:(e.1.2.1.length:Int)=7:=xU.1 f;unfold F12;show ah (F42 300 (tB,())) _=_;rw[h1,tZ,h2,tZ,h3,tZ,h4,tZ,h5,tZ,h6,tZ,tZ,o,tZ];have v:aN 2 e.1.2.1=W:=pQ.2 (by omega);have w:aN 5 e.1.2.1=W:=pQ.2 (by omega);have f43:∀m:Int,F43 300 (m,())=Z ((⟨1,m⟩,()),()):=λ_=>rfl;simp only[p,q,r,f,s,a1,a2,t,Ky,S1,v,w,ZH,f43,tZ,j,l,n]
def kn:Fn [] K4 J:=λ_=>Z ((W,()),())
abbrev cK:lz sg:=⟨[],K4,J,kn⟩
def CK:bA prog 12 cK:=by
 have h:=(k12 300).h;have e:F12 300=kn:=funext λx=>by cases x;exact QZ
 have h:bA prog 12 (⟨[],K4,J,F12 300⟩:lz sg):=h;rw[e]at h;exact h
def ag6:L TypeId:=[27,26,22,137,136,135,3,23,90,89,88,9,24,25,92,91,33,32,30,106,105,99,101,64,63,62,104,103,102,4,31,128,127]
noncomputable def tyL(t:TypeId):O Ty:=bif ag6.contains t then Uv.get t else Y
noncomputable def aix(t:TypeId):Bool:=match Uv.get t with|some τ=>rdT sg prog tyL t τ|none=>W
def afj:ag6.all aix=W:=by kernel_rfl
def aiv(t:TypeId)(τ:Ty)(h:tyL t=Z τ):rdT sg prog tyL t τ=W:=by
 unfold tyL at h;cases a:ag6.contains t with
 |false=>rw[a]at h;cases h
 |true=>rw[a,gY]at h;have:=kA.1 afj t (by simpa using a);unfold aix at this;rw[h]at this;exact this
def laid:laidOutB prog=W:=by kernel_rfl
def own:ownKnob prog.godebug=Y:=by kernel_rfl
end Mn
end
end
