import Derived.Laws.RangeAny
import Derived.KernelRfl
import Derived.Test.YtdddliieplcejaaGreatRows
import Derived.WalkKit
import Derived.ProofKit
import Derived.OpenShut
import Derived.Test.YtdddliieplcejaaGreatW4
set_option linter.all false
set_option maxRecDepth 100000
set_option maxHeartbeats 0
noncomputable section
open Option renaming some->Z,none->Y
open Bool renaming true->W,false->J
open Nat renaming beq->Nq,ble->Nl,blt->Nt,succ->Ns,add->Na
open TL.LO renaming next->N,ret->X,out->H
open TL.Rx renaming ok->G,hU->M
section
namespace Mn
open Go TL
section
structure Cx(p:az)(w:af)(left:List av)(f:av):Prop where
 hp:jk p
 hw:eE p w
 hf:eG p w.aJ.length f
 full:(f.bg.length:Int)=jr (nodeAt p f.Node)
 ll:left.length<40
 left:∀g∈left,eG p w.aJ.length g∧oG p g
section
variable {p:az}{w w':af}{left:List av}{f:av}{at_:Int}
def Cx.nd(c:Cx p w left f):RU p (nodeAt p f.Node):=c.hp.nd c.hf.lo c.hf.hi
theorem Cx.val(c:Cx p w left f){i:Nat}(h:i<f.bg.length):ct p w.aJ.length (bE f.bg i):=c.hf.vals _ (cg _ h)
theorem Cx.vl(c:Cx p w left f){k:Int}(h:(nodeAt p f.Node).Op=k)(a:k≠14):f.bg.length=dS.getD k.toNat 0:=by
 have:=c.full;unfold jr at this
 grind
def EF(n:bw):0<=jr n:=by unfold jr;split<;>omega
theorem Jw{n:Int}{o:aB}(hn:0<=n)(a:n<w.aJ.length){i:Nat}:bI (iN w n o) i=if(i:Int)=n then o else bI w i:=by
 unfold bI iN
 grind
theorem sJ{o:aB}{i:Nat}:bI (dZ w o) i=if i=w.aJ.length then o else bI w i:=by
 unfold bI dZ
 grind
theorem eE.set(h:eE p w){n:Int}{o:aB}(hn:0<=n)(f:n<w.aJ.length)(k:gu p w.aJ.length o)(hf:o.Form=6↔(bI w n).Form=6):eE p (iN w n o):=by
 have b:(iN w n o).aJ.length=w.aJ.length:=by unfold iN;simp
 have a:∀i:Nat,i<w.aJ.length->((bI (iN w n o) i).Form=6↔(bI w i).Form=6):=by
  intro i c;rw[Jw hn f]
  grind
 refine⟨by rw[b];exact h.len,λx d=>?_,h.outs,h.out,h.ins,h.inn,h.used,h.ug,by rw[b];exact h.tl,λt j=>?_,λi c g=>?_⟩
 .rw[b];obtain d|d:=Xs d
  .exact h.obs x d
  simp_all
 .let ⟨h1,h2,h3⟩:=h.task t j
  refine⟨h1,by omega,?_⟩;have e:((t.toNat:Nat):Int)=t:=by omega
  have:=(a t.toNat (by omega)).2 (by grind);rwa [e]at this
 .rw[b]at c;exact h.all i c ((a i c).1 g)
theorem eE.add(h:eE p w){o:aB}(hl:w.aJ.length<120)(d:gu p w.aJ.length o)(hf:o.Form≠6):eE p (dZ w o):=by
 have f:(dZ w o).aJ.length=w.aJ.length+1:=by unfold dZ;simp
 refine⟨by omega,λx b=>?_,h.outs,h.out,h.ins,h.inn,h.used,h.ug,by have:=h.tl;unfold dZ;simp;omega,λt g=>?_,λi j a=>?_⟩
 .obtain b|b:=dW.1 b
  .exact (h.obs x b).mono (by omega)
  .rw[oa.1 b];exact d.mono (by omega)
 .let ⟨h1,h2,h3⟩:=h.task t g
  refine⟨h1,by omega,?_⟩;have e:((t.toNat:Nat):Int)=t:=by omega
  rw[<-e,sJ,bJ (by omega),e];exact h3
 .rw[sJ]at a;by_cases c:i=w.aJ.length
  .simp_all
  .rw[bJ c]at a;exact h.all i (by omega) a
abbrev Be(w:af)(o:aB):af:=⟨w.aJ++[o],w.aM++[(w.aJ.length:Int)],w.ei,w.lK,w.Used⟩
theorem eE.spawn(h:eE p w){o:aB}(hl:w.aJ.length<120)(k:gu p w.aJ.length o)(hf:o.Form=6):eE p (Be w o):=by
 have l:(Be w o).aJ.length=w.aJ.length+1:=by simp
 have g:∀i:Nat,bI (Be w o) i=if i=w.aJ.length then o else bI w i:=λi=>sJ (w:=w) (o:=o) (i:=i)
 refine⟨by omega,λx d=>?_,h.outs,h.out,h.ins,h.inn,h.used,?_,by have:=h.tl;simp;omega,λt f=>?_,λi n c=>?_⟩
 .obtain d|d:=dW.1 d
  .exact (h.obs x d).mono (by omega)
  .rw[oa.1 d];exact k.mono (by omega)
 .refine Qr.2 ⟨h.ug,List.pairwise_singleton _ _,λa g b m=>?_⟩;rw[oa.1 m];have:=(h.task a g).2.1;omega
 .obtain f|f:=dW.1 f
  .let ⟨h1,h2,h3⟩:=h.task t f
   refine⟨h1,by omega,?_⟩;have e:((t.toNat:Nat):Int)=t:=by omega
   grind
  grind
 .rw[g]at c;by_cases j:i=w.aJ.length
  .simp_all
  .rw[bJ j]at c;exact fh _ (h.all i (by omega) c)
structure qM(p:az)(w w':af)(fr:List av)(bk:List aj)(e:Option aN):Prop where
 ok:eE p w'
 tk:∃l,w'.aM=w.aM++l
 tn:e=Y->w'.aM=w.aM
 ln:w.aJ.length<=w'.aJ.length
 fm:∀i:Nat,i<w.aJ.length->((bI w' i).Form=6↔(bI w i).Form=6)
 ob:gu p w'.aJ.length ⟨6,0,bk,fr⟩
def uR(p:az)(w:af):mV->Prop
 |.fail s=>s=2∨s=3∨s=4|.waits=>True|.go w' a b e=>qM p w w' a b e
def qM.same(h:eE p w){fr:L av}{bk:L aj}{e:O aN}(a:gu p w.aJ.length ⟨6,0,bk,fr⟩):qM p w w fr bk e:=
 ⟨h,⟨[],by simp⟩,λ_=>rfl,cu _,λ_ _=>uZ,a⟩
theorem qM.set(h:eE p w){fr:L av}{bk:L aj}{e:O aN}{n:Int}{o:aB}(hn:0<=n)(a:n<w.aJ.length)(c:gu p w.aJ.length o)(hf:o.Form≠6)(b:(bI w n).Form≠6)
  (d:gu p w.aJ.length ⟨6,0,bk,fr⟩):qM p w (iN w n o) fr bk e:=by
 have f:(iN w n o).aJ.length=w.aJ.length:=by unfold iN;simp
 refine⟨h.set hn a c ⟨λh=>absurd h hf,λh=>absurd h b⟩,⟨[],by simp[iN]⟩,λ_=>rfl,by omega,λi g=>?_,by grind⟩;rw[Jw hn a]
 grind
theorem qM.add(h:eE p w){fr:L av}{bk:L aj}{e:O aN}{o:aB}(hl:w.aJ.length<120)(a:gu p w.aJ.length o)(hf:o.Form≠6)
  (c:gu p (w.aJ.length+1) ⟨6,0,bk,fr⟩):qM p w (dZ w o) fr bk e:=by
 have b:(dZ w o).aJ.length=w.aJ.length+1:=by unfold dZ;simp
 refine⟨h.add hl a hf,⟨[],by simp[dZ]⟩,λ_=>rfl,by omega,λi d=>?_,by grind⟩;rw[sJ,bJ (by omega)]
variable {k k':Nat}{v u:aj}
def um(b:k<=k')(hl:left.length<=40)(h:∀g∈left,eG p k g∧oG p g)(c:ct p k' v):gu p k' ⟨6,0,[v],left⟩:=
 .back hl (λg a=>⟨(h g a).1.mono b,(h g a).2⟩) c
def YI{n:Int}(h:gT n=W):ct p k (gf n):=.inl ⟨rfl,h⟩
def RE{b:Bool}:ct p k (gK b):=.inr (.inl ⟨rfl,by cases b<;>simp[gK]⟩)
theorem yQ{k:Nat}:ct p k ej:=.inr (.inr (.inl ⟨rfl,rfl⟩))
def Xj(h:k<k'):ct p k' (pT k):=.inr (.inr (.inr (.inr ⟨rfl,by simp[pT],by simp[pT];omega⟩)))
def As(c:Cx p w left f){o:aB}(a:gu p w.aJ.length o)(hf:o.Form≠6):uR p w (jQ w left o):=by
 unfold jQ;split
 .exact .inr (.inr rfl)
 .exact qM.add c.hw (by omega) a hf (um (by omega) (by have:=c.ll;omega) c.left (Xj (by omega)))
def Zy{r:mV}{a b d:Int}(h:uR p w r):uR p w (Zz a b d v r):=by cases r with|go w' f g e=>exact⟨h.ok,h.tk,(λc=>by cases c),h.ln,h.fm,h.ob⟩|_=>exact h
theorem vK{k:Int}{env:L aj}{w1:af}(h1:∀fr,gu p w1.aJ.length ⟨6,0,[],fr⟩->qM p w w1 fr [] Y)(b:w.aJ.length<=w1.aJ.length)(hl:∀g∈left,eG p w.aJ.length g∧oG p g)
  (hn:0<=k∧k<p.bh.length) (c:∀v∈env,ct p w1.aJ.length v):uR p w (hG w1 left k env):=by
 unfold hG;split
 .exact .inr (.inr rfl)
 .exact h1 _ (.rP (by omega) (λg a=>⟨(hl g a).1.mono b,(hl g a).2⟩) ⟨hn.1,hn.2,by grind,c,EF _,λv d=>by cases d⟩)
theorem Cb{k:Nat}{l:L aj}{v:aj}(h:∀u∈l,ct p k u)(a:ct p k v):∀u∈l++[v],ct p k u:=by
 grind
def O4(f:jk p)(m:eE p w)(h:ct p w.aJ.length u)(i:ct p w.aJ.length v){b:av}(c:fI p w u v=Z b) :
  (0<=b.Node∧b.Node<p.bh.length)∧(∀x∈b.Env,ct p w.aJ.length x)∧b.bg=[]:=by
 unfold fI at c;split at c
 .rename_i h4;cases c
  let ⟨h1,h2⟩:=h.code h4
  exact⟨f.zj _ (cg _ (by omega)),Cb (l:=[]) (by simp) i,rfl⟩
 .split at c
  .rename_i n;cases c
   let ⟨h1,h2,_⟩:=ec m h n
   cases h2 with|func a b d e g=>have j:=f.nd a b;have k:=j.many (by omega) (by omega);rw[d]at k;exact⟨j.kids _ (cg _ (by rw[k];decide)),Cb g i,rfl⟩|_=>cases h1
  .cases c
mutual
theorem NT(b:eE p w):∀(q:aG)(v:aj)(l:L aj),ct p w.aJ.length v->fZ w q v=Z l->∀u∈l,ct p w.aJ.length u
 |⟨a,n,text,parts⟩,v,l,c,h=>by
  unfold fZ at h;by_cases h1:a=1
  .simp_all
  rw[bJ h1]at h;by_cases h2:a=2
  .grind
  rw[bJ h2]at h;by_cases h3:a=3
  .simp_all
  rw[bJ h3]at h;by_cases h4:a=4
  .simp_all
  rw[bJ h4]at h;by_cases h5:a=5
  .simp_all
  rw[bJ h5]at h;split at h
  .cases h
  .rename_i o d;split at h
   .cases h
   .exact FW b parts o.bg l (ec b c d).2.1.vals h
theorem FW(e:eE p w):∀(qs:L aG)(vs:L aj)(l:L aj),(∀v∈vs,ct p w.aJ.length v)->e8 w qs vs=Z l->∀u∈l,ct p w.aJ.length u
 |[],vs,l,b,h=>by grind[e8]
 |q::qs,[],l,b,h=>by grind[e8]
 |q::qs,v::vs,l,b,h=>by
  unfold e8 at h;split at h
  .cases h
  .rename_i f c;split at h
   .cases h
   .rename_i g d;cases h;intro u a;obtain a|a:=dW.1 a
    .exact NT e q v f (b v fA) c u a
    .exact FW e qs vs g (λx i=>b x (iB _ i)) d u a
end
def OW(c:Cx p w left f){u:aj}(d:ct p w.aJ.length u):∀(qs:L aG)(a:L Int),(∀k∈a,0<=k∧k<p.bh.length)->uR p w (jy w left f.Env u qs a)
 |[],a,_=>by cases a<;>exact .inr (.inl rfl)
 |q::qs,[],_=>.inr (.inl rfl)|q::qs,k::a,e=>by
  unfold jy;split
  .rename_i l g;refine vK (λj h=>qM.same c.hw h) (cu _) c.left (e k fA) λv b=>?_;obtain b|b:=dW.1 b
   .exact c.hf.env v b
   .exact NT c.hw q u l d g v b
  .exact OW c d qs a λx i=>e x (iB _ i)
def nD{op:mV}(c:Cx p w left f)(a:ct p w.aJ.length v):uR p w (fc w left v):=
 qM.same c.hw (um (cu _) (by have:=c.ll;omega) c.left a)
theorem Gg{α:Type}{q:α->Bool}:∀{l:L α}{k:Nat},gm q l=Z k->∃h:k<l.length,q l[k]=W
 |a::l,k,h=>by
  unfold gm at h;cases b:gm q l with
  |some j=>
   let ⟨h1,h2⟩:=Gg b
   grind
  |none=>
   grind
theorem afC(c:Cx p w left f):uR p w (iS p w at_ left f):=by
 have nd:=c.nd;have hlen:=c.hw.len;have hll:=c.ll;have h1:=nd.lo;have h2:=nd.hi;have q:∀{i:Nat},i<(nodeAt p f.Node).Kids.length->0<=(nodeAt p f.Node).Kids.getD i 0∧(nodeAt p f.Node).Kids.getD i 0<p.bh.length:=λh=>nd.kids _ (cg _ h);have many:∀k:Int,(nodeAt p f.Node).Op=k->k≠14->k≠15->(nodeAt p f.Node).Kids.length=sN.getD k.toNat 0:=by intro k h h14 h15;have:=nd.many (by omega) (by omega);rwa [h]at this
 have ref:∀{o:aB}{v:aj},ct p w.aJ.length v->uR p w (fc w left v):=λn=>nD (op:=.waits) c n;have same:∀{v:aj}{e:O aN},ct p w.aJ.length v->uR p w (.go w left [v] e):=λn=>qM.same c.hw (um (cu _) (by omega) c.left n);obtain⟨k,j⟩:∃k:Nat,(nodeAt p f.Node).Op=k:=⟨_,(xH (by omega)).symm⟩;have z:1<=k:=by omega
 have A:k<=28:=by omega
 unfold iS;simp only[j,Fl]
 match k,j,z,A with
 |1,j,_,_=>exact nD (op:=.waits) c (YI (nd.int j))|2,j,_,_=>exact nD (op:=.waits) c RE|3,j,_,_=>exact nD (op:=.waits) c yQ|4,j,_,_=>
  have hn:=nd.name j;simp only;split
  .refine nD (op:=.waits) c (.inr (.inr (.inr (.inl ⟨rfl,?_,?_⟩))))<;>simp only<;>omega
  .split
   .exact .inl rfl
   .exact nD (op:=.waits) c (c.hf.env _ (cg _ (by omega)))
 |5,j,_,_=>exact As c (.func c.hf.lo c.hf.hi j c.hf.el c.hf.env) (by simp)
 |6,j,_,_=>
  have n:=c.vl j (by decide);simp[dS]at n;have v0:=c.val (i:=0) (by omega);have v1:=c.val (i:=1) (by omega);simp only;unfold rW;split
  .rename_i o ho
   let ⟨h3,h4,_⟩:=ec c.hw v0 ho
   split
   .exact .inr (.inr rfl)
   .refine qM.same c.hw (.back (by simp_all) (λg hg=>?_) v1);obtain hg|hg:=dW.1 hg
    .exact c.left g hg
    .cases h4 with|vS a b d=>exact b g hg|_=>cases h3
  .split
   .exact .inl rfl
   .rename_i b B
    let ⟨h3,h4,h5⟩:=O4 c.hp c.hw v0 v1 B
    exact vK (λC h=>qM.same c.hw h) (cu _) c.left h3 h4
 |7,j,_,_=>have n:=c.vl j (by decide);simp[dS]at n;have s:=many _ j (by decide) (by decide);exact vK (λC h=>qM.same c.hw h) (cu _) c.left (q (by rw[s];decide)) (Cb c.hf.env (c.val (by omega)))
 |8,j,_,_=>
  have n:=c.vl j (by decide);simp[dS]at n;have s:=many _ j (by decide) (by decide);simp only;split
  .exact .inl rfl
  .rename_i h3;have:=(c.val (i:=0) (by omega)).WW (by omega);refine vK (λC h=>qM.same c.hw h) (cu _) c.left (q ?_) c.hf.env;rw[s];show _<3;omega
 |9,j,_,_|10,j,_,_|11,j,_,_|12,j,_,_|13,j,_,_=>
  simp only;have E:∀m:Int,uR p w (if gT m=W then fc w left (gf m)else .fail 4):=by
   intro m;split
   .exact nD (op:=.waits) c (YI (by assumption))
   .exact .inr (.inr rfl)
  unfold om;split
  .split
   .exact .inl rfl
   .exact nD (op:=.waits) c RE
  .split
   .exact .inl rfl
   .split
    .exact nD (op:=.waits) c RE
    .exact E _
 |14,j,_,_=>
  let ⟨a,b,d⟩:=nd.con j
  have F:=c.full;unfold jr at F;exact As c (.data a b (by omega) c.hf.vals) (by simp)
 |15,j,_,_=>have n:=c.vl j (by decide);simp[dS]at n;exact OW c (c.val (by omega)) _ _ λx I=>nd.kids _ (S4 I)
 |16,j,_,_=>have n:=c.vl j (by decide);simp[dS]at n;exact Zy (As c (.cell (c.val (by omega))) (by simp))
 |17,j,_,_=>
  have n:=c.vl j (by decide);simp[dS]at n;simp only;unfold Ol;split
  .exact .inl rfl
  .rename_i o ho
   let ⟨h3,h4,_⟩:=ec c.hw (c.val (by omega)) ho
   have:0<o.bg.length:=by cases h4<;>first|(cases h3;done)|simp
   exact same (h4.vals _ (cg _ this))
 |18,j,_,_=>
  have n:=c.vl j (by decide);simp[dS]at n;simp only;unfold iQ;split
  .exact .inl rfl
  .rename_i o ho
   let ⟨h3,h4,h5,h6,t,h8⟩:=ec c.hw (c.val (by omega)) ho
   exact qM.set c.hw h6 t (.cell (c.val (by omega))) (by simp) (by grind) (um (cu _) (by omega) c.left yQ)
 |19,j,_,_=>
  have n:=c.vl j (by decide);simp[dS]at n;have mk:∀{o:aB},gu p w.aJ.length o->o.Form=6->uR p w (if 120<=w.aJ.length then .fail 4 else .go (Be w o) left [pT w.aJ.length] (Z ⟨at_,19,0,ej⟩)):=by
   intro o ho F;split
   .exact .inr (.inr rfl)
   .refine ⟨c.hw.spawn (by omega) ho F,⟨_,rfl⟩,(λh=>by cases h),by simp,λi y=>?_,um (k:=w.aJ.length) (by simp) (by omega) c.left (Xj (by simp))⟩;rw[show bI (Be w o) i=if i=w.aJ.length then o else bI w i from sJ (w:=w) (o:=o) (i:=i),bJ (by omega)]
  unfold rD;simp only;split
  .rename_i o ho
   let ⟨h3,h4,_⟩:=ec c.hw (c.val (by omega)) ho
   cases h4 with|vS a b d=>exact mk (.back (by grind) b yQ) rfl|_=>cases h3
  .split
   .exact .inl rfl
   .rename_i b B
    let ⟨h3,h4,h5⟩:=O4 c.hp c.hw (c.val (by omega)) yQ B
    split
    .exact .inr (.inr rfl)
    .exact mk (.rP (fs:=[]) (by simp) (by simp) ⟨h3.1,h3.2,by omega,h4,by rw[h5];exact EF _,by rw[h5];simp⟩) rfl
 |20,j,_,_=>
  have n:=c.vl j (by decide);simp[dS]at n;simp only;unfold Dk;split
  .exact .inl rfl
  .rename_i o ho
   let ⟨h3,h4,_⟩:=ec c.hw (c.val (by omega)) ho
   split
   .trivial
   .split
    .cases h4 with|dead a=>exact a|done a=>simp_all|rP a b d=>simp_all|back a b d=>simp_all|_=>cases h3
    .have:0<o.bg.length:=by cases h4 with|done a=>grind|dead a=>simp_all|rP a b d=>simp_all|back a b d=>grind|_=>cases h3
     exact same (h4.vals _ (cg _ this))
 |21,j,_,_=>exact Zy (As c (.chan (by simp) (by simp)) (by simp))
 |22,j,_,_=>
  have n:=c.vl j (by decide);simp[dS]at n;simp only;unfold CP;split
  .exact .inl rfl
  .rename_i o ho
   let ⟨h3,h4,h5,h6,t,h8⟩:=ec c.hw (c.val (by omega)) ho
   split
   .trivial
   .exact qM.set c.hw h6 t (.chan (by grind) (Cb h4.vals (c.val (by omega)))) (by simp) (by grind) (um (cu _) (by omega) c.left yQ)
 |23,j,_,_=>
  have n:=c.vl j (by decide);simp[dS]at n;simp only;unfold CI;split
  .exact .inl rfl
  .rename_i o ho
   let ⟨h3,h4,h5,h6,t,h8⟩:=ec c.hw (c.val (by omega)) ho
   have r:=h4.vals;have K:o.bg.length<=4:=by cases h4<;>first|(cases h3;done)|assumption
   split
   .trivial
   .rename_i v l P;rw[P]at r K;exact qM.set c.hw h6 t (.chan (by grind) λu hu=>r u (iB _ hu)) (by simp) (by grind) (um (cu _) (by omega) c.left (r v fA))
 |24,j,_,_=>
  have n:=c.vl j (by decide);simp[dS]at n;have v0:=c.val (i:=0) (by omega);have hp:=nd.port j;simp only;unfold NH;split
  .exact .inl rfl
  .split
   .exact .inr (.inr rfl)
   .rename_i h3 h4;refine⟨⟨c.hw.len,c.hw.obs,by grind,λo ho=>?_,c.hw.ins,c.hw.inn,c.hw.used,c.hw.ug,c.hw.tl,c.hw.task,c.hw.all⟩,⟨[],by simp⟩,λ_=>rfl,cu _,λ_ _=>uZ,um (cu _) (by omega) c.left yQ⟩;obtain ho|ho:=dW.1 ho
    .exact c.hw.out o ho
    .rw[oa.1 ho];exact⟨hp.1,hp.2,v0.int (by omega)⟩
 |25,j,_,_=>
  have y:=c.hw.inn;have R:=c.hw.ins;have hu:=c.hw.used;simp only;unfold inS;split
  .trivial
  .rename_i i l hl;rw[hl]at y R;split
   .exact .inr (.inr rfl)
   .exact ⟨⟨c.hw.len,c.hw.obs,c.hw.outs,c.hw.out,by grind,λx I=>y x (iB _ I),by grind,c.hw.ug,c.hw.tl,c.hw.task,c.hw.all⟩,⟨[],by simp⟩,λ_=>rfl,cu _,λ_ _=>uZ,um (cu _) (by omega) c.left (YI (y i fA))⟩
 |26,j,_,_=>have n:=c.vl j (by decide);simp[dS]at n;exact nD (op:=.waits) c (c.val (by omega))
 |27,j,_,_=>
  have s:=many _ j (by decide) (by decide);simp only;unfold rE;split
  .exact .inr (.inl rfl)
  .rename_i k S
   let ⟨h3,h4⟩:=Gg S
   split
   .exact .inr (.inr rfl)
   .have hd:left.drop k=left[k]::left.drop (k+1):=Xt h3;have hko:gu p w.aJ.length ⟨5,0,[],left.drop k⟩:=by rw[hd];refine .vS (by grind) (λg hg=>?_) (by simpa using h4);exact c.left g (S4 (i:=k) (by grind))
    have hl1:(dZ w ⟨5,0,[],left.drop k⟩).aJ.length=w.aJ.length+1:=by simp[dZ]
    refine vK (λC h=>qM.add c.hw (by omega) hko (by simp) (by simp_all)) (by omega) (λg hg=>c.left g (Qv hg)) (q (by rw[s];decide)) ?_;exact Cb (λv n=>(c.hf.env v n).mono (by omega)) (Xj (by omega))
 |28,j,_,_=>exact same yQ|k+29,j,_,h=>omega
end
end
section
abbrev TB:=U×Int×L av×Int×L aj×L aj×Int×Int×L Int×L aG×L aj×U
abbrev RB:=L bw×L Int×Int×L cO×L aB×L Int×L ef×L Int×Int×U
abbrev tb(place:Int)(fr:L av)(node:Int)(env vals:L aj)(nd:bw)(bk:L aj):TB:=
 ((),place,fr,node,env,vals,nd.Op,nd.N,nd.Kids,nd.cN,bk,())
abbrev rb(p:az)(w:af):RB:=
 (p.bh,p.dM,p.Main,p.Cons,w.aJ,w.aM,w.ei,w.lK,w.Used,())
abbrev fl(s:Int):Any:=Any.a0 ⟨s⟩
section
variable {n:Nat}{place node:Int}{fr l:List av}{env vals bk:List aj}{nd:bw}{p:az}{w:af}{T:TB}{v u:aj}{form:Int}{o:aB}
def lH(b:Bool)(s:Int):F219 n (b,s,())=bif b then Z (.ok ((),()))else Z (.hU (fl s,())):=by cases b<;>rfl
theorem V0:F48 n ()=Z ((ej,()),()):=rfl
theorem V3(k:Int):F272 n (k,())=Z ((gf k,()),()):=rfl
def adp(b:Bool):F273 n (b,())=Z ((gK b,()),()):=by cases b<;>rfl
def akT(k:Int):F273 n (aa k 1,())=Z ((gK (k==1),()),()):=adp _
def ag7:F112 n (v,())=Z ((jo v,()),()):=by
 unfold F112 jo;by_cases h:v.Kind=4
 .simp[h,bf];rfl
 .by_cases a:v.Kind=5
  .simp[a,bf];rfl
  simp_all[bf]
def ads(l:L aB):F170 n (l,())=Z ((l,()),()):=by rfl
def ZK(l:L av):F160 n (l,())=Z ((l,()),()):=by rfl
theorem arI(s:Int):F114 n (⟨s⟩,())=Z ((⟨0,0,s,aA⟩,()),()):=rfl
def ZJ(h1:fr.length<=1000)(h2:l.length<=1000):F171 n (tb place fr node env vals nd bk,rb p w,l,())=
  if fr.length+l.length<=40 then Z (.ok ((),tb place (fr++l) node env vals nd bk,rb p w,()))else Z (.hU (fl 4,tb place fr node env vals nd bk,rb p w,())):=by
 unfold F171;split
 .simp (disch:=omega) [bf,lH,bF]
 .simp (disch:=omega) [bf,lH,bF]
def ZI{R:RB}(h1:T.2.2.1.length<=1000)(h2:l.length<=1000):F171 n (T,R,l,())=
  if T.2.2.1.length+l.length<=40 then Z (.ok ((),((),T.2.1,T.2.2.1++l,T.2.2.2),R,()))else Z (.hU (fl 4,T,R,())):=by
 unfold F171;split
 .simp (disch:=omega) [bf,lH,bF]
 .simp (disch:=omega) [bf,lH,bF]
theorem IQ:F271 n (tb place fr node env vals nd bk,rb p w,v,())=Z ((cx.a3 ⟨⟩,()),tb place fr node env vals nd [v],rb p w,()):=rfl
variable {k:Int}
def adq{a:L aj}(c:0<=k)(b:k<nd.Kids.length)(h1:fr.length<=1000):F174 n (tb place fr node env vals nd bk,rb p w,k,a,())=
  if fr.length+1<=40 then Z (.ok ((cx.a3 ⟨⟩,()),tb place (fr++[⟨nd.Kids.getD k.toNat 0,a,[]⟩]) node env vals nd bk,rb p w,()))else Z (.hU (fl 4,tb place fr node env vals nd bk,rb p w,())):=by
 unfold F174;split<;>rename_i h
 .simp_all[bf,ZJ]
 .simp (disch:=first|omega|simp only[lz];omega)only[bf,ZJ,h,ij]
def Rp{a b:L aj}(h1:a.length<=1000)(h2:b.length<=1000):F277 n (a,b,())=
  if a.length+b.length<=30 then Z (.ok ((a++b,()),()))else Z (.hU (fl 4,())):=by
 unfold F277;split
 .simp (disch:=omega) [bf,lH,bF]
 .simp (disch:=omega) [bf,lH,bF]
def bX:(∀(l:L aj)(k:Nat),l.getD k aA=bE l k)∧(∀(p:az)(k:Int),p.bh.getD k.toNat aW=nodeAt p k)∧(∀(w:af)(k:Int),w.aJ.getD k.toNat aO=bI w k):=
 ⟨λ_ _=>rfl,λ_ _=>rfl,λ_ _=>rfl⟩
def so{α:Type}(a:α)(l:L α)(k:Int)(b:k=((l.length+1:Nat):Int)):eZ (a::l) 1 k=l:=by subst b;simp[eZ]
def iD:O aB->aB×Bool×U
 |some o=>(o,W,())|none=>(aO,J,())
def V1(a:v.Kind=5->0<=v.N∧v.N<w.aJ.length):F298 n (T,rb p w,v,form,())=Z (iD (eV w v form),T,rb p w,()):=by
 unfold F298 eV bI;by_cases h:v.Kind=5
 .let ⟨h1,h2⟩:=a h
  by_cases b:(w.aJ.getD v.N.toNat aO).Form=form
  .simp_all[bf,iD]
  simp_all[bf,iD]
 simp_all[bf,iD]
def sU(a:v.Kind=5->0<=v.N∧v.N<w.aJ.length):F276 n (T,rb p w,v,form,())=match eV w v form with
  |some o=>Z (.ok ((o,()),T,rb p w,()))|none=>Z (.hU (fl 2,T,rb p w,())):=by
 unfold F276;rw[V1 a];cases eV w v form<;>simp only[bf,lH,iD]
theorem Cg:w.aJ.length<=1000->F274 n (T,rb p w,o,())=
  if w.aJ.length<120 then Z (.ok ((pT w.aJ.length,()),T,rb p (dZ w o),()))else Z (.hU (fl 4,T,rb p w,())):=by
 intro h1;unfold F274 uz;split
 .simp (disch:=first|omega|simp only[lz];omega)only[bf,lH,dZ,ep]
  grind[cZ,pT]
 .simp (disch:=omega) [bf,lH]
def OJ:F280 n (tb place fr node env vals nd bk,rb p w,v,u,())=
  Z ((cx.a1 ⟨⟨place,nd.Op,if nd.Op=24 then nd.N else 0,jo u⟩⟩,()),tb place fr node env vals nd [v],rb p w,()):=by
 unfold F280 Mh;rw[ag7];by_cases h:nd.Op=24
 .simp[bf,h,ku,tb]
 simp_all[bf]
def TM{at_:Int}{fr:L av}{R:RB}:F280 n (tb at_ fr node env vals nd bk,R,v,u,())=
  Z ((cx.a1 ⟨⟨at_,nd.Op,if nd.Op=24 then nd.N else 0,jo u⟩⟩,()),tb at_ fr node env vals nd [v],R,()):=by
 unfold F280 Mh;rw[ag7];by_cases h:nd.Op=24
 .simp[bf,h,ku,tb]
 simp_all[bf]
def ag1(b:0<=k)(a:k<w.aJ.length):F281 n (T,rb p w,k,o,())=Z ((),T,rb p (iN w k o),()):=by
 simp_all[F281,bf,ads,iN]
def V2(hl:2<=vals.length):F278 n (tb place fr node env vals nd bk,rb p w,())=
  if(bE vals 0).Kind=1∧(bE vals 1).Kind=1 then Z (.ok (((bE vals 0).N,(bE vals 1).N,()),tb place fr node env vals nd bk,rb p w,()))else Z (.hU (fl 2,tb place fr node env vals nd bk,rb p w,())):=by
 unfold F278 Sd bE;by_cases h:(vals.getD 0 aA).Kind=1
 .by_cases a:(vals.getD 1 aA).Kind=1
  .simp (disch:=omega)only[bf,h,a,and_self,ku,lH]
  .simp (disch:=omega)only[bf,a,and_false,ij,lH]
 .simp (disch:=omega)only[bf,h,false_and,ij,lH]
def GY(hf:u.Kind=4->0<=u.N∧u.N<p.dM.length)(a:u.Kind=5->0<=u.N∧u.N<w.aJ.length)
  (hn:∀o,eV w u 2=Z o->0<=o.N∧o.N<p.bh.length∧0<(nodeAt p o.N).Kids.length∧o.bg.length<=1000) :
  F275 n (T,rb p w,u,v,())=match fI p w u v with
   |none=>Z (.ok ((aH,J,()),T,rb p w,()))|some b=>if b.Env.length<=30 then Z (.ok ((b,W,()),T,rb p w,()))else Z (.hU (fl 4,T,rb p w,())):=by
 unfold F275 fI;by_cases h:u.Kind=4
 .simp_all[bf]
 .simp (disch:=omega)only[bf,h,ij];rw[V1 a];cases c:eV w u 2 with
  |none=>rfl|some o=>
   let ⟨h1,h2,h3,h4⟩:=hn o c
   unfold nodeAt at h3 ⊢;simp(disch:=omega)only[bf,iD];rw[Rp (by omega) (by simp)];by_cases h5:o.bg.length+1<=30
   .simp_all[bf]
   .simp[h5,ij,bf]
end
end
section
def agY:O aN->cx
 |none=>cx.a3 ⟨⟩|some e=>cx.a1 ⟨e⟩
abbrev Out:=Rx ((cx×U)×TB×RB×U) (Any×TB×RB×U)
def LX(p:az)(w:af)(r:mV)(y:Out):Prop:=match r with
 |.fail s=>∃T w1,y=.hU (fl s,T,rb p w1,())|.waits=>∃T,y=.ok ((cx.a0 ⟨⟩,()),T,rb p w,())|.go w' fr bk e=>∃pl node env vals nd,y=.ok ((agY e,()),tb pl fr node env vals nd bk,rb p w',())
def gL(p:az)(w:af)(r:mV)(f:Nat->O Out):Prop:=∃y,Ev f y∧LX p w r y
theorem gL.of_eq{p:az}{w:af}{r:mV}{f:Nat->O Out}{y:Out}(h:∀n,f n=Z y)(a:LX p w r y):gL p w r f:=⟨y,aY h,a⟩
section
variable {p:az}{w:af}{left:List av}{f:av}{at_:Int}
abbrev zN(at_:Int)(left:L av)(p:az)(f:av):TB:=tb at_ left f.Node f.Env f.bg (nodeAt p f.Node) []
variable {pl node:Int}{env vals:List aj}{nd:bw}
def Et{k:Nat->O ((cx×U)×TB×RB×U)}{v:aj}
  (h:∀n,k n=Z ((cx.a3 ⟨⟩,()),tb pl left node env vals nd [v],rb p w,())):gL p w (fc w left v) (λn=>ai (k n) λg=>Z (G g)):=
 .of_eq (y:=.ok ((cx.a3 ⟨⟩,()),tb pl left node env vals nd [v],rb p w,())) (λn=>by rw[h n];rfl) ⟨_,_,_,_,_,rfl⟩
def afN(c:Cx p w left f)(a:(nodeAt p f.Node).Op=1∨(nodeAt p f.Node).Op=2∨(nodeAt p f.Node).Op=3) :
  gL p w (iS p w at_ left f) (λn=>ai (F221 n (zN at_ left p f,rb p w,())) λg=>Z (G g)):=by
 unfold iS F221 Mj;obtain h|h|h:=a
 .simp[h,Int.reduceToNat];exact Et λn=>by simp only[bf,V3,IQ];rfl
 .simp[h,Int.reduceToNat];exact Et λn=>by simp(disch:=omega)only[bf,adp,IQ];rfl
 .simp[h,Int.reduceToNat];exact Et λn=>by simp(disch:=omega)only[bf,V0,IQ];rfl
def anS(c:Cx p w left f)(h:(nodeAt p f.Node).Op=4):gL p w (iS p w at_ left f) (λn=>F222 n (zN at_ left p f,rb p w,())):=by
 have a:=c.nd.name h;have b:=c.hp.fl;unfold iS F222;simp[h,Int.reduceToNat];by_cases h1:(nodeAt p f.Node).N<0
 .rw[cn h1];exact .of_eq (λn=>by simp(disch:=omega)only[bf,IQ,cZ]<;>rfl) ⟨_,_,_,_,_,rfl⟩
 .rw[bJ h1];by_cases h2:(f.Env.length:Int)<=(nodeAt p f.Node).N
  .rw[cn h2];exact .of_eq (λn=>by simp(disch:=omega)only[bf,lH]<;>rfl) ⟨_,_,rfl⟩
  .rw[bJ h2];exact .of_eq (λn=>by simp(disch:=omega)only[bf,bX,lH,IQ]<;>rfl) ⟨_,_,_,_,_,rfl⟩
def Ym{o:aB}{F:Nat->O Out}{bk:L aj}(a:eE p w)
  (h:∀n,F n=ai (F274 n (tb pl left node env vals nd bk,rb p w,o,())) λc=>cC c (λd=>ai (F271 n (d.2.1,d.2.2.1,d.1)) λe=>Z (G e)) λd=>Z (M d)) :
  gL p w (jQ w left o) F:=by
 have:=a.len;unfold jQ;by_cases h1:120<=w.aJ.length
 .rw[cn h1];exact .of_eq (λn=>by rw[h,Cg (by omega),bJ (by omega)];rfl) ⟨_,_,rfl⟩
 .rw[bJ h1];exact .of_eq (λn=>by rw[h,Cg (by omega),cn (by omega)];simp only[bf,IQ]<;>rfl) ⟨_,_,_,_,_,rfl⟩
def anR(c:Cx p w left f)(h:(nodeAt p f.Node).Op=5):gL p w (iS p w at_ left f) (λn=>F223 n (zN at_ left p f,rb p w,())):=by unfold iS;simp[h,Int.reduceToNat];exact Ym c.hw λn=>rfl
def anL(c:Cx p w left f)(h:(nodeAt p f.Node).Op=14):gL p w (iS p w at_ left f) (λn=>F230 n (zN at_ left p f,rb p w,())):=by unfold iS;simp[h,Int.reduceToNat];exact Ym c.hw λn=>rfl
def QM{k:Int}{a:L aj}{F:Nat->O Out}(pl node:Int)(env vals:L aj){w':af}(h1:left.length<=1000)(h2:a.length<=30)(c:0<=k)(b:k<nd.Kids.length)
  (h:∀n,F n=ai (F174 n (tb pl left node env vals nd [],rb p w',k,a,())) λe=>cC e (λg=>Z (G g)) λg=>Z (M g)) :
  gL p w (hG w' left (nd.Kids.getD k.toNat 0) a) F:=by
 unfold hG;by_cases h3:40<=left.length
 .rw[cn (.inl h3)];exact .of_eq (λn=>by rw[h,adq c b h1,bJ (by omega)];rfl) ⟨_,_,rfl⟩
 .rw[bJ (by omega)];exact .of_eq (λn=>by rw[h,adq c b h1,cn (by omega)];rfl) ⟨_,_,_,_,_,rfl⟩
def anP(c:Cx p w left f)(h:(nodeAt p f.Node).Op=7):gL p w (iS p w at_ left f) (λn=>F225 n (zN at_ left p f,rb p w,())):=by
 have a:=c.nd.many (by omega) (by omega);have b:=c.vl h (by decide);have e:=c.hf.el;have d:=c.ll;rw[h]at a;simp[sN]at a;simp[dS]at b;unfold iS F225;simp only[h,Int.reduceToNat];by_cases h1:f.Env.length+1<=30
 .refine QM (k:=1) at_ f.Node f.Env f.bg (by omega) (by simp;omega) (by omega) (by omega) λn=>?_;simp(disch:=first|omega|simp only[lz];omega)only[bf,bX,Rp,h1,ku]<;>rfl
 .unfold hG;rw[cn (by simp;omega)];exact .of_eq (λn=>by simp(disch:=first|omega|simp only[lz];omega)only[bf,Rp,h1,ij]<;>rfl) ⟨_,_,rfl⟩
def anO(c:Cx p w left f)(h:(nodeAt p f.Node).Op=8):gL p w (iS p w at_ left f) (λn=>F226 n (zN at_ left p f,rb p w,())):=by
 have a:=c.nd.many (by omega) (by omega);have b:=c.vl h (by decide);have d:=c.hf.el;have e:=c.ll;rw[h]at a;simp[sN]at a;simp[dS]at b;have v0:=c.val (i:=0) (by omega);unfold iS F226;simp only[h,Int.reduceToNat];by_cases h1:(bE f.bg 0).Kind=2
 .rw[bJ (by omega)];have g:=v0.WW h1;refine QM (k:=2-(bE f.bg 0).N) at_ f.Node f.Env f.bg (by omega) d (by omega) (by omega) λn=>?_;simp(disch:=omega)only[bf,bX,lH,cZ]<;>rfl
 .rw[cn h1];exact .of_eq (λn=>by simp(disch:=omega)only[bf,bX,lH]<;>rfl) ⟨_,_,rfl⟩
theorem anQ(c:Cx p w left f)(h:(nodeAt p f.Node).Op=6):gL p w (iS p w at_ left f) (λn=>F224 n (zN at_ left p f,rb p w,())):=by
 have s:=c.vl h (by decide);simp[dS]at s;have t:=c.ll;have v0:=c.val (i:=0) (by omega);have k:∀o,eV w (bE f.bg 0) 2=Z o->0<=o.N∧o.N<p.bh.length∧0<(nodeAt p o.N).Kids.length∧o.bg.length<=1000:=by
  intro o u
  let ⟨h1,h2,_⟩:=ec c.hw v0 u
  cases h2 with
  |func a b d e g=>
   refine⟨a,b,?_,by grind⟩;have:=(c.hp.nd a b).many (by omega) (by omega);rw[this,d]
   decide
  |_=>cases h1
 unfold iS F224 rW;simp[h,Int.reduceToNat];cases l:eV w (bE f.bg 0) 5 with
 |some o=>
  dsimp only
  let ⟨h1,h2,h3,h4,h5,h6⟩:=ec c.hw v0 l
  have j:fI p w (bE f.bg 0) (bE f.bg 1)=Y:=by unfold fI eV;rw[bJ (by omega),<-h6,bJ (by omega)]
  have v:o.Frames.length<=40:=by cases h2<;>first|(simp;done)|(simp only[qH,Fm,List.length_nil];omega)
  by_cases m:40<left.length+o.Frames.length
  .rw[cn m];exact .of_eq (λn=>by simp(disch:=omega)only[bf,bX,GY (v0.code) (v0.ref) k,j,sU (v0.ref),l,ZJ,bJ (Fq.2 m)]<;>rfl) ⟨_,_,rfl⟩
  .rw[bJ m];exact .of_eq (λn=>by simp(disch:=omega)only[bf,bX,GY (v0.code) (v0.ref) k,j,sU (v0.ref),l,ZJ,cn (CU.1 m),IQ]<;>rfl) ⟨_,_,_,_,_,rfl⟩
 |none=>
  cases j:fI p w (bE f.bg 0) (bE f.bg 1)with
  |none=>exact .of_eq (λn=>by simp(disch:=omega)only[bf,bX,GY (v0.code) (v0.ref) k,j,sU (v0.ref),l]<;>rfl) ⟨_,_,rfl⟩
  |some b=>
   dsimp only;by_cases r:b.Env.length<=30
   .unfold hG;by_cases x:40<=left.length
    .omega
    .rw[bJ (by omega)];have q:b.bg=[]:=by
      grind[fI]
     let ⟨y,z,A⟩:=b
     subst q;exact .of_eq (λn=>by simp(disch:=first|omega|simp only[lz];omega)only[bf,bX,GY (v0.code) (v0.ref) k,j,cn r,ZJ,cn (show left.length+1<=40 by omega)]<;>rfl) ⟨_,_,_,_,_,rfl⟩
   .unfold hG;rw[cn (by omega)];exact .of_eq (λn=>by simp(disch:=omega)only[bf,bX,GY (v0.code) (v0.ref) k,j,bJ r]<;>rfl) ⟨_,_,rfl⟩
def anN(c:Cx p w left f)(h:(nodeAt p f.Node).Op=12):gL p w (iS p w at_ left f) (λn=>F228 n (zN at_ left p f,rb p w,())):=by
 have a:=c.vl h (by decide);simp[dS]at a;unfold iS F228 om;simp only[h,Int.reduceToNat,Int.reduceEq,ij,ku];by_cases h1:(bE f.bg 0).Kind=1∧(bE f.bg 1).Kind=1
 .rw[bJ (by omega)];exact .of_eq (λn=>by simp(disch:=omega)only[bf,V2,cn h1,adp,IQ]<;>rfl) ⟨_,_,_,_,_,rfl⟩
 .rw[cn (by omega)];exact .of_eq (λn=>by simp(disch:=omega)only[bf,V2,bJ h1]<;>rfl) ⟨_,_,rfl⟩
theorem bN{X R B P α:Type}(x:X)(e:X->O α)(f:Nat->X->O α)(g:B->R->O α)(h:B->P->O α):ck (.next x) e f g h=e x:=rfl
theorem af3{X R B P α:Type}(b:B)(q:P)(e:X->O α)(f:Nat->X->O α)(g:B->R->O α)(h:B->P->O α):ck (.hU b q) e f g h=h b q:=rfl
def e69{n:Nat}(a:Int):F69 n (a,(-1000000000),1000000000,())=Z ((gT a,()),()):=by unfold F69 gT;by_cases h1:-1000000000<=a<;>by_cases h2:a<=1000000000<;>simp[au,bA,h1,h2]
def aiR{a b:Int}(h1:gT a=W)(h2:gT b=W):-1000000000000000000<=a*b∧a*b<=1000000000000000000:=by
 simp[gT,eK,nP]at h1 h2;have h3:(a*b).natAbs<=1000000000*1000000000:=by rw[Int.natAbs_mul];exact Nk (by omega) (by omega)
 omega
def afM(c:Cx p w left f)(a:(nodeAt p f.Node).Op=9∨(nodeAt p f.Node).Op=10∨(nodeAt p f.Node).Op=11):gL p w (iS p w at_ left f) (λn=>ai (F227 n (zN at_ left p f,rb p w,())) λg=>cC g (λh=>Z (G h)) λh=>Z (M h)):=by
 have m:f.bg.length=2:=by obtain h|h|h:=a<;>exact c.vl h (by decide)
 have v0:=c.val (i:=0) (by omega);have v1:=c.val (i:=1) (by omega);unfold iS F227 om;by_cases h1:(bE f.bg 0).Kind=1∧(bE f.bg 1).Kind=1
 .have d:=v0.int h1.1;have e:=v1.int h1.2;have o:=aiR d e;simp[gT,eK,nP]at d e;have b:∀k,∀F:Nat->O Out,(∀n,F n=bif gT k then Z (.ok ((cx.a3 ⟨⟩,()),tb at_ left f.Node f.Env f.bg (nodeAt p f.Node) [gf k],rb p w,()))else Z (.hU (fl 4,zN at_ left p f,rb p w,())))->
    gL p w (if gT k=W then fc w left (gf k)else .fail 4) F:=by
   intro k F j;cases l:gT k with|true=>exact .of_eq (λn=>by rw[j,l];rfl) ⟨_,_,_,_,_,rfl⟩|false=>exact .of_eq (λn=>by rw[j,l];rfl) ⟨_,_,rfl⟩
  obtain h|h|h:=a
  .simp only[h,Int.reduceToNat,Int.reduceEq,ij,ku];rw[bJ (by omega)];refine b _ _ λn=>?_;simp(disch:=omega) [bf,V2,cn h1,bN,bF,e69,lH];cases gT ((bE f.bg 0).N+(bE f.bg 1).N)<;>simp only[bf,V3,gf,h,tb,zN]<;>rfl
  .simp only[h,Int.reduceToNat,Int.reduceEq,ij,ku];rw[bJ (by omega)];refine b _ _ λn=>?_;simp(disch:=omega) [bf,V2,cn h1,bN,cZ,e69,lH];cases gT ((bE f.bg 0).N-(bE f.bg 1).N)<;>simp only[bf,V3,gf,h,tb,zN]<;>rfl
  .simp only[h,Int.reduceToNat,Int.reduceEq,ij];rw[bJ (by omega)];refine b _ _ λn=>?_;simp(disch:=omega) [bf,V2,cn h1,bN,Yd,e69,lH];cases gT ((bE f.bg 0).N*(bE f.bg 1).N)<;>simp only[bf,V3,gf,h,tb,zN]<;>rfl
 .obtain h|h|h:=a
  all_goals
   simp only[h,Int.reduceToNat,Int.reduceEq,ij,ku];rw[cn (by omega)];exact .of_eq (λn=>by simp(disch:=omega)only[bf,bX,V2,bJ h1]<;>rfl) ⟨_,_,rfl⟩
def aaa(x:Bool):bP W x=x:=by cases x<;>rfl
def LQ(x:Bool):bP x W=x:=by cases x<;>rfl
def anM(c:Cx p w left f)(h:(nodeAt p f.Node).Op=13):gL p w (iS p w at_ left f) (λn=>F229 n (zN at_ left p f,rb p w,())):=by
 have a:=c.vl h (by decide);simp[dS]at a;unfold iS F229 Sf Si om;simp only[h,Int.reduceToNat,ku];by_cases h1:(bE f.bg 0).Kind=(bE f.bg 1).Kind
 .by_cases h2:(bE f.bg 0).Kind<=3
  .rw[bJ (by omega)];rw[show qF (bE f.bg 0) (bE f.bg 1)=aa (bE f.bg 0).N (bE f.bg 1).N by simp[qF,h1,beq_self_eq_true,eY];rfl];exact .of_eq (λn=>by simp(disch:=omega)only[bf,bX,aaa,LQ,lH,adp,IQ]<;>rfl) ⟨_,_,_,_,_,rfl⟩
  .rw[cn (by omega)];exact .of_eq (λn=>by simp(disch:=omega)only[bf,bX,lH]<;>rfl) ⟨_,_,rfl⟩
 .rw[cn (by omega)];exact .of_eq (λn=>by simp(disch:=omega)only[bf,bX,lH]<;>rfl) ⟨_,_,rfl⟩
def anz(c:Cx p w left f)(h:(nodeAt p f.Node).Op=26):gL p w (iS p w at_ left f) (λn=>ai (F242 n (zN at_ left p f,rb p w,())) λg=>Z (G g)):=by have a:=c.vl h (by decide);simp[dS]at a;unfold iS F242;simp[h,Int.reduceToNat];exact Et λn=>by simp(disch:=omega)only[bf,bX,IQ]<;>rfl
def anw(c:Cx p w left f)(h:(nodeAt p f.Node).Op=28):gL p w (iS p w at_ left f) (λn=>ai (F244 n (zN at_ left p f,rb p w,())) λg=>Z (G g)):=by unfold iS F244;simp[h,Int.reduceToNat];exact .of_eq (λn=>by simp only[bf,V0,OJ,h,Int.reduceEq,ij]<;>rfl) ⟨_,_,_,_,_,rfl⟩
end
end
section
section
variable {p:az}{w:af}{left:List av}{f:av}{at_:Int}
def anJ(c:Cx p w left f)(h:(nodeAt p f.Node).Op=16):gL p w (iS p w at_ left f) (λn=>F232 n (zN at_ left p f,rb p w,())):=by
 have a:=c.vl h (by decide);simp[dS]at a;have b:=c.hw.len;unfold iS F232 jQ;simp[h,Int.reduceToNat];by_cases h1:120<=w.aJ.length
 .rw[cn h1];exact .of_eq (λn=>by simp(disch:=omega)only[bf,Cg,bJ (CU.2 h1)]<;>rfl) ⟨_,_,rfl⟩
 .rw[bJ h1];exact .of_eq (λn=>by simp(disch:=omega)only[bf,bX,Cg,cn (Fq.1 h1),OJ,h,Int.reduceEq,ij]<;>rfl) ⟨_,_,_,_,_,rfl⟩
def anE(c:Cx p w left f)(h:(nodeAt p f.Node).Op=21):gL p w (iS p w at_ left f) (λn=>F237 n (zN at_ left p f,rb p w,())):=by
 have a:=c.hw.len;unfold iS F237 jQ;simp[h,Int.reduceToNat];by_cases h1:120<=w.aJ.length
 .rw[cn h1];exact .of_eq (λn=>by simp(disch:=omega)only[bf,Cg,bJ (CU.2 h1)]<;>rfl) ⟨_,_,rfl⟩
 .rw[bJ h1];exact .of_eq (λn=>by simp(disch:=omega)only[bf,Cg,cn (Fq.1 h1),V0,OJ,h,Int.reduceEq,ij]<;>rfl) ⟨_,_,_,_,_,rfl⟩
def anI(c:Cx p w left f)(h:(nodeAt p f.Node).Op=17):gL p w (iS p w at_ left f) (λn=>F233 n (zN at_ left p f,rb p w,())):=by
 have b:=c.vl h (by decide);simp[dS]at b;have v0:=c.val (i:=0) (by omega);unfold iS F233 Ol;simp[h,Int.reduceToNat];cases a:eV w (bE f.bg 0) 3 with
 |none=>exact .of_eq (λn=>by simp(disch:=omega)only[bf,bX,sU v0.ref,a]<;>rfl) ⟨_,_,rfl⟩
 |some o=>
  let ⟨h1,h2,h3,h4,h5,h6⟩:=ec c.hw v0 a
  have d:0<o.bg.length:=by cases h2<;>first|(cases h1;done)|simp
  exact .of_eq (λn=>by simp(disch:=omega)only[bf,bX,sU v0.ref,a,OJ,h,Int.reduceEq,ij]<;>rfl) ⟨_,_,_,_,_,rfl⟩
def anH(c:Cx p w left f)(h:(nodeAt p f.Node).Op=18):gL p w (iS p w at_ left f) (λn=>F234 n (zN at_ left p f,rb p w,())):=by
 have b:=c.vl h (by decide);simp[dS]at b;have v0:=c.val (i:=0) (by omega);unfold iS F234 iQ;simp[h,Int.reduceToNat];cases a:eV w (bE f.bg 0) 3 with
 |none=>exact .of_eq (λn=>by simp(disch:=omega)only[bf,bX,sU v0.ref,a]<;>rfl) ⟨_,_,rfl⟩
 |some o=>
  let ⟨h1,h2,h3,h4,h5,h6⟩:=ec c.hw v0 a
  exact .of_eq (λn=>by simp(disch:=omega)only[bf,bX,sU v0.ref,a,ag1,V0,OJ,h,Int.reduceEq,ij]<;>rfl) ⟨_,_,_,_,_,rfl⟩
def anD(c:Cx p w left f)(h:(nodeAt p f.Node).Op=22):gL p w (iS p w at_ left f) (λn=>F238 n (zN at_ left p f,rb p w,())):=by
 have g:=c.vl h (by decide);simp[dS]at g;have v0:=c.val (i:=0) (by omega);unfold iS F238 CP;simp[h,Int.reduceToNat];cases d:eV w (bE f.bg 0) 4 with
 |none=>exact .of_eq (λn=>by simp(disch:=omega)only[bf,bX,sU v0.ref,d]<;>rfl) ⟨_,_,rfl⟩
 |some o=>
  let ⟨h1,h2,h3,h4,h5,h6⟩:=ec c.hw v0 d
  cases h2 with
  |chan a b=>
   rename_i j;clear h6;by_cases e:4<=j.length
   .dsimp only;rw[cn e];exact .of_eq (λn=>by simp(disch:=omega)only[bf,bX,sU v0.ref,d]<;>rfl) ⟨_,rfl⟩
   .dsimp only;rw[bJ e];exact .of_eq (λn=>by simp(disch:=first|omega|simp only[lz];omega)only[bf,bX,sU v0.ref,d,ag1,V0,OJ,h,Int.reduceEq,ij]<;>rfl) ⟨_,_,_,_,_,rfl⟩
  |_=>cases h1
def anC(c:Cx p w left f)(h:(nodeAt p f.Node).Op=23):gL p w (iS p w at_ left f) (λn=>F239 n (zN at_ left p f,rb p w,())):=by
 have g:=c.vl h (by decide);simp[dS]at g;have v0:=c.val (i:=0) (by omega);unfold iS F239 CI;simp[h,Int.reduceToNat];cases d:eV w (bE f.bg 0) 4 with
 |none=>exact .of_eq (λn=>by simp(disch:=omega)only[bf,bX,sU v0.ref,d]<;>rfl) ⟨_,_,rfl⟩
 |some o=>
  let ⟨h1,h2,h3,h4,h5,h6⟩:=ec c.hw v0 d
  cases h2 with
  |chan a b=>
   rename_i e;clear h6;cases e with|nil=>exact .of_eq (λn=>by simp(disch:=omega)only[bf,bX,sU v0.ref,d]<;>rfl) ⟨_,rfl⟩|cons v e=>exact .of_eq (λn=>by simp(disch:=first|omega|simp only[lz];omega)only[bf,bX,sU v0.ref,d,so,ag1,OJ,h,Int.reduceEq,ij]<;>rfl) ⟨_,_,_,_,_,rfl⟩
  |_=>cases h1
def anF(c:Cx p w left f)(h:(nodeAt p f.Node).Op=20):gL p w (iS p w at_ left f) (λn=>F236 n (zN at_ left p f,rb p w,())):=by
 have d:=c.vl h (by decide);simp[dS]at d;have v0:=c.val (i:=0) (by omega);unfold iS F236 Dk;simp only[h,Int.reduceToNat];cases a:eV w (bE f.bg 0) 6 with
 |none=>exact .of_eq (λn=>by simp(disch:=omega)only[bf,bX,sU v0.ref,a]<;>rfl) ⟨_,_,rfl⟩
 |some o=>
  let ⟨h1,h2,h3,h4,h5,h6⟩:=ec c.hw v0 a
  dsimp only;by_cases b:o.N=0
  .rw[cn b];exact .of_eq (λn=>by simp(disch:=omega)only[bf,bX,sU v0.ref,a]<;>rfl) ⟨_,rfl⟩
  .rw[bJ b];by_cases e:o.N=1
   .have g:0<o.bg.length:=by cases h2<;>first|(cases h1;done)|exact Nat.one_pos|exact absurd rfl b|simp_all
    rw[bJ (by omega)];exact .of_eq (λn=>by simp(disch:=omega)only[bf,bX,sU v0.ref,a,OJ,h,Int.reduceEq,ij]<;>rfl) ⟨_,_,_,_,_,rfl⟩
   .rw[cn (by omega)];exact .of_eq (λn=>by simp(disch:=omega)only[bf,bX,sU v0.ref,a]<;>rfl) ⟨_,_,rfl⟩
def anB(c:Cx p w left f)(h:(nodeAt p f.Node).Op=24):gL p w (iS p w at_ left f) (λn=>F240 n (zN at_ left p f,rb p w,())):=by
 have a:=c.vl h (by decide);simp[dS]at a;unfold iS F240 HW wN NH;simp only[h,Int.reduceToNat];by_cases h1:(bE f.bg 0).Kind=1
 .rw[bJ (by omega)];by_cases h2:100<=w.ei.length
  .rw[cn h2];exact .of_eq (λn=>by simp(disch:=omega)only[bf,bX,lH]<;>rfl) ⟨_,_,rfl⟩
  .rw[bJ h2];exact .of_eq (λn=>by simp(disch:=first|omega|simp only[lz];omega)only[bf,bX,lH,V0,TM (at_:=at_),h,ku]<;>rfl) ⟨_,_,_,_,_,rfl⟩
 .rw[cn h1];exact .of_eq (λn=>by simp(disch:=omega)only[bf,bX,lH]<;>rfl) ⟨_,_,rfl⟩
def anA(c:Cx p w left f)(h:(nodeAt p f.Node).Op=25):gL p w (iS p w at_ left f) (λn=>F241 n (zN at_ left p f,rb p w,())):=by
 have d:=c.hw.used;have a:=c.hw.ins;unfold iS F241 HV inS;simp[h,Int.reduceToNat];cases b:w.lK with
 |nil=>exact .of_eq (λn=>by simp(disch:=omega)only[bf]<;>rfl) ⟨_,rfl⟩
 |cons i l=>
  dsimp only;by_cases h2:1000000000<=w.Used
  .rw[cn h2];exact .of_eq (λn=>by simp(disch:=omega)only[bf,lH]<;>rfl) ⟨_,_,rfl⟩
  .rw[bJ h2];rw[b]at a;exact .of_eq (λn=>by simp(disch:=first|omega|simp only[lz];omega)only[bf,lH,so,V3,bF,TM (at_:=at_),h,Int.reduceEq,ij]<;>rfl) ⟨_,_,_,_,_,rfl⟩
end
end
section
section
variable {p:az}{w:af}{left:List av}{f:av}{at_:Int}
theorem Ri(c:jk p)(f:eE p w){v:aj}(h:ct p w.aJ.length v):∀o,eV w v 2=Z o->0<=o.N∧o.N<p.bh.length∧0<(nodeAt p o.N).Kids.length∧o.bg.length<=1000:=by
 intro o i
 let ⟨h1,h2,_⟩:=ec f h i
 cases h2 with
 |func a b d e g=>
  refine⟨a,b,?_,by grind⟩;have:=(c.nd a b).many (by omega) (by omega);rw[this,d]
  decide
 |_=>cases h1
def anG(c:Cx p w left f)(h:(nodeAt p f.Node).Op=19):gL p w (iS p w at_ left f) (λn=>F235 n (zN at_ left p f,rb p w,())):=by
 have k:=c.vl h (by decide);simp[dS]at k;have v0:=c.val (i:=0) (by omega);have e:=Ri c.hp c.hw v0;have l:=c.hw.len;have m:=c.hw.tl;unfold iS F235 zC rD;simp[h,Int.reduceToNat];cases g:eV w (bE f.bg 0) 5 with
 |some o=>
  dsimp only
  let ⟨h1,h2,h3,h4,h5,h6⟩:=ec c.hw v0 g
  have d:fI p w (bE f.bg 0) ej=Y:=by unfold fI eV;rw[bJ (by omega),<-h6,bJ (by omega)]
  by_cases a:120<=w.aJ.length
  .rw[cn a];exact .of_eq (λn=>by simp(disch:=omega)only[bf,bX,V0,GY v0.code v0.ref e,d,sU v0.ref,g,bN,Cg,bJ (CU.2 a)]<;>rfl) ⟨_,_,rfl⟩
  .rw[bJ a];exact .of_eq (λn=>by simp(disch:=first|omega|simp only[lz];omega)only[bf,bX,V0,GY v0.code v0.ref e,d,sU v0.ref,g,bN,Cg,cn (Fq.1 a),pT,dZ,TM (at_:=at_),h,Int.reduceEq,ij]<;>rfl) ⟨_,_,_,_,_,rfl⟩
 |none=>
  cases d:fI p w (bE f.bg 0) ej with
  |none=>exact .of_eq (λn=>by simp(disch:=omega)only[bf,bX,V0,GY v0.code v0.ref e,d,sU v0.ref,g,af3]<;>rfl) ⟨_,_,rfl⟩
  |some b=>
   dsimp only;by_cases j:b.Env.length<=30
   .rw[bJ (by omega)];by_cases a:120<=w.aJ.length
    .rw[cn a];exact .of_eq (λn=>by simp(disch:=omega)only[bf,bX,V0,GY v0.code v0.ref e,d,cn j,bN,Cg,bJ (CU.2 a)]<;>rfl) ⟨_,_,rfl⟩
    .rw[bJ a];exact .of_eq (λn=>by simp(disch:=first|omega|simp only[lz];omega)only[bf,bX,V0,GY v0.code v0.ref e,d,cn j,bN,Cg,cn (Fq.1 a),pT,dZ,TM (at_:=at_),h,Int.reduceEq,ij]<;>rfl) ⟨_,_,_,_,_,rfl⟩
   .rw[cn (by omega)];exact .of_eq (λn=>by simp(disch:=omega)only[bf,bX,V0,GY v0.code v0.ref e,d,bJ j]<;>rfl) ⟨_,_,rfl⟩
def tR{α:Type}{q:α->Bool}:∀{l:L α},(∀j(h:j<l.length),q l[j]=J)->gm q l=Y
 |[],_=>rfl|a::l,h=>by
  unfold gm;rw[tR λj b=>h (j+1) (by simpa using b)];have:=h 0 (by simp)
  simp_all
def Aw{α:Type}{q:α->Bool}:∀{l:L α}{m:Nat}(c:m<l.length),q l[m]=W->(∀j(h:j<l.length),m<j->q l[j]=J)->gm q l=Z m
 |a::l,0,_,h1,h=>by
  unfold gm;rw[tR λj b=>h (j+1) (by simpa using b) (by omega)]
  simp_all
 |a::l,m+1,c,h1,h=>by unfold gm;rw[Aw (l:=l) (m:=m) (by simpa using c) (by simpa using h1) λj b d=>h (j+1) (by simpa using b) (by omega)]
theorem zc{α:Type}{q:α->Bool}:∀{l:L α}{k:Nat},gm q l=Z k->k<l.length
 |a::l,k,h=>by
  unfold gm at h;cases b:gm q l with
  |some j=>
   have:=zc b
   grind
  |none=>
   grind
theorem yT(hf:∀g∈left,0<=g.Node∧g.Node<p.bh.length)(hl:left.length<40){R B P:Type}{F:Nat->Int×U->O (LO (Int×U) R B P)}
  (a:∀n c,F n c=au (bA 0 c.1) (aK (aC c.1 left) (aK (aC (aZ left (ak c.1) aH).Node p.bh) (au (aq (aa (aZ p.bh (ak (aZ left (ak c.1) aH).Node) aW).Op 26)) (Z (.next (bS .i64 c.1 1,()))) (Z (.out 0 c))))) (Z (.out 0 c))) :
  ∀m:Nat,m<=left.length->(∀j(h:j<left.length),m<=j->(nodeAt p left[j].Node).Op≠26)->
  fj F ((m:Int)-1,()) (.out 0 (match gm (λf:av=>(nodeAt p f.Node).Op==26) left with|some k=>(k:Int)|none=>-1,()))
 |0,_,h=>by rw[tR λj d=>by simp_all];exact .out (aY λn=>by simp_all[bf])
 |m+1,o,h=>by
  have q:=hf left[m] (IA _);have e:left.getD m aH=left[m]:=by grind
  have i:(((m+1:Nat):Int)-1).toNat=m:=by omega
  by_cases l:(nodeAt p left[m].Node).Op=26
  .rw[Aw (m:=m) (by omega) (by simpa using l) λj d b=>by grind];refine .out (aY λn=>?_);rw[a];simp(disch:=omega)only[bf,bX,i,e];simp
  .refine .next (y:=((m:Int)-1,())) (aY λn=>?_) (yT hf hl a m (by omega) λj d b=>?_)
   .rw[a];simp(disch:=omega)only[bf,bX,i,e,cZ];simp
   grind
theorem anx(c:Cx p w left f)(h:(nodeAt p f.Node).Op=27):gL p w (iS p w at_ left f) (λn=>F243 n (zN at_ left p f,rb p w,())):=by
 have m:=c.nd.many (by omega) (by omega);rw[h]at m;simp[sN]at m;have C:=c.hw.len;have i:=c.ll;have E:=c.hf.el;have e0:bS .i64 (ax left) 1=(left.length:Int)-1:=cZ (by simp[ax];omega) (by simp[ax];omega);unfold iS F243 Se rE;simp only[h,Int.reduceToNat,e0];have d:=λ(R B P:Type)=>@yT p left (λg o=>⟨(c.left g o).1.lo,(c.left g o).1.hi⟩) i R B P _ (λn c=>rfl) left.length (cu _) (λj I u=>by omega);have b:∀(k:Int)(a:Nat->Int×U->O Out)(r:mV),(∃y,Ev (λn=>a n (k,())) y∧LX p w r y)->∀(R B P:Type)(F:Nat->Int×U->O (LO (Int×U) R B P))(q:Nat->B->R->O Out)(s:Nat->B->P->O Out)(x:Int×U),
   fj F x (.out 0 (k,()))->gL p w r (λn=>ai (iter (F n) n x) λc=>bp c (λ_ e=>a n e) (q n) (s n)):=by
  intro k a r ⟨y,h1,h2⟩ R B P F q s x v;exact⟨y,Ev.aT v _ _ h1,h2⟩
 cases l:gm (λf:av=>(nodeAt p f.Node).Op==26) left with
 |none=>simp[l]at d;refine b _ _ (.fail 3) ?_ _ _ _ _ _ _ _ (d _ _ _);exact⟨_,aY λn=>by simp(disch:=omega)only[bf,lH]<;>rfl,_,_,rfl⟩
 |some k=>
  have z:=zc l;simp[l]at d;refine b _ (λn e=>_) _ ?_ _ _ _ _ _ _ _ (d _ _ _);dsimp only;have A:(left.take (k+1)).length=k+1:=by grind
  have t:((k:Int)+1).toNat=k+1:=by omega
  by_cases h1:120<=w.aJ.length
  .rw[cn h1];exact⟨_,aY λn=>by simp(disch:=omega)only[bf,lH,ZK,Cg,bJ (CU.2 h1)]<;>rfl,_,_,rfl⟩
  .rw[bJ h1];unfold hG;by_cases h2:f.Env.length+1<=30
   .rw[bJ (by grind)];exact⟨_,aY λn=>by simp(disch:=first|omega|simp only[lz];omega)only[bf,lH,w8,oK,ZK,Cg,cn (Fq.1 h1),bF,t,pT,Rp,cn h2,adq,A,cn (show k+1+1<=40 by omega)]<;>rfl,_,_,_,_,_,rfl⟩
   .rw[cn (by grind)];exact⟨_,aY λn=>by simp(disch:=first|omega|simp only[lz];omega)only[bf,lH,w8,oK,ZK,Cg,cn (Fq.1 h1),bF,t,Rp,bJ h2]<;>rfl,_,_,rfl⟩
end
end
section
abbrev ahM:=(Bool×U)×TB×RB×(L aj×U)×U
def BX(T:TB)(R:RB)(l a:L aj):O (L aj)->ahM
 |some m=>((W,()),T,R,(l++m,()),())|none=>((J,()),T,R,(a,()),())
def Fits(p:az)(w:af)(T:TB)(q:aG):Prop:=∀(v:aj)(l:L aj),ct p w.aJ.length v->l.length+pw q<=1000->
 ∃a,yM R279 (T,rb p w,q,v,(l,()),()) (BX T (rb p w) l a (fZ w q v))
section
variable {p:az}{w:af}{T:TB}
theorem qf:∀(q:aG)(v:aj)(m:L aj),fZ w q v=Z m->m.length<=pw q
 |⟨c,n,text,parts⟩,v,m,h=>by
  unfold fZ at h;unfold pw;by_cases h1:c=1
  .simp_all
  rw[bJ h1]at h;by_cases h2:c=2
  .grind
  rw[bJ h2]at h;by_cases h3:c=3
  .simp_all
  rw[bJ h3]at h;by_cases h4:c=4
  .simp_all
  rw[bJ h4]at h;by_cases h5:c=5
  .simp_all
  rw[bJ h5]at h;split at h
  .cases h
  .split at h
   .cases h
   .have:=lens parts _ m h;omega
where
 lens:∀(d:L aG)(e:L aj)(m:L aj),e8 w d e=Z m->m.length<=se d
 |[],e,m,h=>by cases h;simp
 |q::d,[],m,h=>by cases h;simp
 |q::d,v::e,m,h=>by
  unfold e8 at h;unfold se;split at h
  .cases h
  .rename_i l f;split at h
   .cases h
   .rename_i g i;cases h;have a:=qf q v l f;have b:=lens d e g i
    grind
def j7{α:Type}(a:L α)(x:α)(b:L α)(d:α):(a++x::b).getD a.length d=x:=by
 simp_all
def VW(q:aG):aG.mk q.Form q.N q.Text q.DD=q:=by cases q;rfl
theorem JP{P:Type}:∀(qs:L aG)(vs:L aj)(pre:L aG)(b:L aj)(l:L aj),qs.length=vs.length->pre.length=b.length->pre.length+qs.length<=1000->
  (∀q∈qs,Fits p w T q)->(∀v∈vs,ct p w.aJ.length v)->l.length+se qs<=1000->
  ∃t,∀(d:Nat)(F:Nat->Int×TB×RB×(L aj×U)×U->O (LO (Int×TB×RB×(L aj×U)×U) (Bool×U) (TB×RB×(L aj×U)×U) P)),
  (∀n e,F n e=au (aD e.1 (ax (pre++qs))) (aK (aC e.1 (pre++qs)) (aK (aC e.1 (b++vs)) (ai (R279 n (n-d) (e.2.1,e.2.2.1,aG.mk (aZ (pre++qs) (ak e.1) aV).1 (aZ (pre++qs) (ak e.1) aV).2
   (aZ (pre++qs) (ak e.1) aV).3 (aZ (pre++qs) (ak e.1) aV).4,@aZ aj (b++vs) (ak e.1) aA,e.2.2.2)) λg=>au (aq g.1.1) (Z (X g.2 (J,()))) (Z (N (aE .i64 e.1 1,g.2)))))) (Z (H 0 e)))->
  fj F ((pre.length:Int),T,rb p w,(l,()),()) (match e8 w qs vs with
   |some m=>.out 0 (((pre++qs).length:Int),T,rb p w,(l++m,()),())|none=>.ret (T,rb p w,(t,()),()) (J,()))
 |[],[],pre,b,l,_,_,j,_,_,_=>by refine⟨[],λd F c=>?_⟩;unfold e8;refine .out (aY λn=>?_);rw[c];simp(disch:=omega) [bf,oN]<;>rfl
 |q::qs,v::vs,pre,b,l,u,K,j,k,o,z=>by
  unfold se at z;simp at j
  let ⟨A,h1⟩:=k q fA v l (o v fA) (by omega)
  have r:(pre++q::qs).getD pre.length aV=q:=j7 ..;have s:(b++v::vs).getD pre.length aA=v:=by simp_all
  unfold e8;cases f:fZ w q v with
  |none=>
   rw[f]at h1;refine⟨A,λd F c=>.ret ?_⟩
   let ⟨a,h1⟩:=h1 d
   refine⟨a,λn i=>?_⟩;have:=h1 n i;show F n _=_;rw[c];simp(disch:=first|omega|simp only[lz];omega)only[bf,r,s,VW];exact(pU (λx=>ai x _) this).trans rfl
  |some m=>
   rw[f]at h1;have B:=qf q v m f
   let ⟨C,h2⟩:=JP (P:=P) qs vs (pre++[q]) (b++[v]) (l++m) (by simpa using u) (by simp;omega) (by simp;omega) (λE h=>k E (iB _ h)) (λI h=>o I (iB _ h))
    (by simp;omega)
   refine⟨C,λd F c=>?_⟩;have h2:=h2 d F (λn e=>by rw[c];simp<;>rfl);refine(.next (y:=(((pre++[q]).length:Int),T,rb p w,(l++m,()),())) ?_ ?_)
   .let ⟨a,h1⟩:=h1 d
    refine⟨a,λn i=>?_⟩;have:=h1 n i;show F n _=_;rw[c];simp(disch:=first|omega|simp only[lz];omega)only[bf,r,s,VW,bF,ep,eu];exact(pU (λx=>ai x _) this).trans rfl
   grind
theorem l9(n k:Nat):R279 n (k+1)=B279 n (R279 n k):=rfl
theorem fits:∀(q:aG),pf q=W->pw q<=1000->∀(j:eE p w),Fits p w T q
 |⟨a,n0,text,parts⟩,c,r,j=>by
  intro v l k A;unfold pf at c;unfold pw at A r;simp at c
  let ⟨⟨B,C⟩,s⟩:=c
  unfold fZ;by_cases h1:a=1
  .refine ⟨[],yM.step l9 λd=>aY λn=>?_⟩;unfold B279;simp(disch:=omega) [bf,h1,ku,BX,oN]<;>rfl
  rw[bJ h1];by_cases h2:a=2
  .refine ⟨[],yM.step l9 λd=>aY λn=>?_⟩;unfold B279;simp(disch:=first|omega|simp[lz];omega) [bf,h2,ku,BX]<;>rfl
  rw[bJ h2];have cmp:∀u:aj,∃t,(if qF v u=W then Z ([]:L aj)else Y)=Y∧bP (aa v.Kind u.Kind) (bP (aa v.N u.N) W)=J∨(if qF v u=W then Z ([]:L aj)else Y)=Z []∧bP (aa v.Kind u.Kind) (bP (aa v.N u.N) W)=W∧t=l:=by
   intro u;have:bP (aa v.Kind u.Kind) (bP (aa v.N u.N) W)=qF v u:=by rw[LQ];rfl
   rw[this];refine⟨l,?_⟩;cases qF v u<;>simp
  by_cases h3:a=3
  .rw[cn h3];refine⟨l,yM.step l9 λd=>aY λn=>?_⟩;unfold B279 CF;obtain⟨_,⟨f,i⟩|⟨f,i,_⟩⟩:=cmp (gf n0)<;>rw[f]<;>simp(disch:=omega)only[bf,h3,V3,i,BX,oN]<;>rfl
  rw[bJ h3];by_cases h4:a=4
  .rw[cn h4];refine⟨l,yM.step l9 λd=>aY λn=>?_⟩;unfold B279 CF;obtain⟨_,⟨f,i⟩|⟨f,i,_⟩⟩:=cmp (gK (n0==1))<;>rw[f]<;>simp(disch:=omega)only[bf,h4,akT,i,BX,oN]<;>rfl
  rw[bJ h4];by_cases h5:a=5
  .rw[cn h5];refine⟨l,yM.step l9 λd=>aY λn=>?_⟩;unfold B279 CF;obtain⟨_,⟨f,i⟩|⟨f,i,_⟩⟩:=cmp ej<;>rw[f]<;>simp(disch:=omega)only[bf,h5,V0,i,BX,oN]<;>rfl
  rw[bJ h5];have h6:a=6:=by omega
  cases m:eV w v 1 with
  |none=>refine⟨l,yM.step l9 λd=>aY λn=>?_⟩;unfold B279 Ij;simp(disch:=omega) [bf,V1 k.ref,m,iD,BX]<;>rfl|some o=>
   dsimp only
   let ⟨_,E,_⟩:=ec j k m
   by_cases z:o.N≠n0∨o.bg.length≠parts.length
   .rw[cn z];refine⟨l,yM.step l9 λd=>aY λn=>?_⟩;unfold B279 Ij;by_cases h9:o.N=n0
    .simp (disch:=omega) [bf,V1 k.ref,m,iD,BX]<;>rfl
    .simp (disch:=omega) [bf,V1 k.ref,m,iD,BX]<;>rfl
   .rw[bJ z];have x:=E.vals;have F:parts.length<=se parts:=aiY parts
    let ⟨t,y⟩:=JP (p:=p) (w:=w) (T:=T) (P:=Any) parts o.bg [] [] l (by omega) rfl (by grind)
      (λq I=>aeC parts s (by omega) j q I) x (by omega)
    refine⟨t,yM.step l9 λd=>?_⟩;have K:∀n,B279 n (R279 n (n-d)) (T,rb p w,⟨a,n0,text,parts⟩,v,(l,()),())=ai (iter (λe=>au (aD e.1 (ax parts)) (aK (aC e.1 parts) (aK (aC e.1 o.bg) (ai (R279 n (n-d) (e.2.1,e.2.2.1,aG.mk (aZ parts (ak e.1) aV).1 (aZ parts (ak e.1) aV).2
   (aZ parts (ak e.1) aV).3 (aZ parts (ak e.1) aV).4,@aZ aj o.bg (ak e.1) aA,e.2.2.2)) λg=>au (aq g.1.1) (Z (X g.2 (J,()))) (Z (N (aE .i64 e.1 1,g.2)))))) (Z (H 0 e))) n (0,T,rb p w,(l,()),())) λe=>bp e (λ_ h=>Z ((W,()),h.2)) (λg h=>Z (h,g)) λ_(_:Any)=>Y:=by intro n;unfold B279;simp(disch:=omega)only[bf,h6,V1 k.ref,m,iD];rfl
    refine Ev.fR K (Ev.aT (y d _ λn e=>rfl) (λn e=>_) _ ?_);cases e8 w parts o.bg<;>exact bO
where
 aiY:∀b:L aG,b.length<=se b
 |[]=>Ag _|⟨_,_,_,_⟩::b=>by unfold se pw;have:=aiY b;grind
 aeC:∀(b:L aG),pfs b=W->se b<=1000->∀(j:eE p w),∀q∈b,Fits p w T q
 |[],_,_,_,_,h=>by cases h
 |q::b,c,R,j,S,h=>by
  unfold pfs at c;unfold se at R;simp at c;obtain h|h:=fy.1 h
  .rw[h];exact fits q c.1 (by omega) j
  .exact aeC b c.2 (by omega) j S h
def arj{q:aG}(hf:pf q=W)(b:pw q<=1000)(c:eE p w){v:aj}(d:ct p w.aJ.length v):∃a,Ev (λn=>F279 n (T,rb p w,q,v,([],()),())) (BX T (rb p w) [] a (fZ w q v)):=by
 let ⟨a,h⟩:=fits (T:=T) q hf b c v [] d (by simp_all)
 exact⟨a,h 0⟩
variable {left:List av}{f:av}{at_:Int}
abbrev afL(o:LO (Int×TB×RB×U) (cx×U) (TB×RB×U) Any):O Out:=bp o (λ_ e=>Z (M (Any.a0 (gD.mk 3),e.2))) (λd e=>Z (G (e,d))) λd e=>Z (M (e,d))
theorem FY(B:jk p)(x:eE p w){u:aj}{node:Int}{env vals:L aj}{nd:bw}(z:ct p w.aJ.length u)(hl:left.length<40)(C:env.length<=30)(E:0<vals.length)(f:bE vals 0=u)
  (F:Nat->Int×TB×RB×U->O (LO (Int×TB×RB×U) (cx×U) (TB×RB×U) Any))
  (r:∀n c,F n c=au (aD c.1 (ax nd.cN)) (aK (aC c.1 nd.cN) (aK (aC 0 c.2.1.2.2.2.2.2.1) (ai (F279 n (c.2.1,c.2.2.1,aG.mk (aZ nd.cN (ak c.1) aV).1 (aZ nd.cN (ak c.1) aV).2 (aZ nd.cN (ak c.1) aV).3 (aZ nd.cN (ak c.1) aV).4,
   @aZ aj c.2.1.2.2.2.2.2.1 (ak 0) aA,([],()),())) λd=>au d.1.1 (ai (F277 n (d.2.1.2.2.2.2.1,d.2.2.2.1)) λe=>cC e (λg=>ai (F174 n (d.2.1,d.2.2.1,aE .i64 c.1 1,g.1)) λh=>cC h (λi=>Z (X i.2 i.1)) λi=>Z (LO.hU i.2 i.1)) λg=>Z (LO.hU (d.2.1,d.2.2.1,()) g.1))
   (Z (N (aE .i64 c.1 1,d.2.1,d.2.2.1,())))))) (Z (H 0 c))) :
  ∀(qs:L aG)(b:L Int)(pre:L aG)(a:L Int),nd.cN=pre++qs->nd.Kids=a++b->a.length=pre.length+1->b.length=qs.length->pre.length+qs.length<=1000->(∀q∈qs,pw q<=12∧pf q=W)->
  ∃o y,fj F ((pre.length:Int),tb at_ left node env vals nd [],rb p w,()) o∧afL o=Z y∧LX p w (jy w left env u qs b) y
 |[],b,pre,a,h1,h2,h3,h4,h5,h6=>by
  refine⟨_,_,.out (j:=0) (y:=((pre.length:Int),tb at_ left node env vals nd [],rb p w,())) (aY λn=>?_),rfl,?_⟩
  .rw[r];simp(disch:=omega) [bf,h1]<;>rfl
  .cases b<;>exact⟨_,_,rfl⟩
 |q::qs,[],pre,a,h1,h2,h3,h4,h5,h6=>by simp at h4
 |q::qs,k::b,pre,a,h1,h2,h3,h4,h5,h6=>by
  simp only[qH]at h4 h5;have I:nd.cN.length=pre.length+(qs.length+1):=by rw[h1];simp
  have K:nd.Kids.length=a.length+(b.length+1):=by rw[h2];simp
  have P:nd.cN.getD pre.length aV=q:=by grind
  have R:nd.Kids.getD (pre.length+1) 0=k:=by grind
  let ⟨S,s⟩:=h6 q fA
  let ⟨l',l⟩:=arj (T:=tb at_ left node env vals nd []) s (by omega) x z
  have e1:((pre.length:Int)+1).toNat=pre.length+1:=by omega
  have t:∀n,F n ((pre.length:Int),tb at_ left node env vals nd [],rb p w,())=ai (F279 n (tb at_ left node env vals nd [],rb p w,q,u,([],()),())) λd=>au d.1.1 (ai (F277 n (d.2.1.2.2.2.2.1,d.2.2.2.1)) λe=>cC e (λg=>ai (F174 n (d.2.1,d.2.2.1,aE .i64 pre.length 1,g.1)) λh=>cC h (λi=>Z (X i.2 i.1)) λi=>Z (LO.hU i.2 i.1)) λg=>Z (LO.hU (d.2.1,d.2.2.1,()) g.1))
   (Z (N (aE .i64 pre.length 1,d.2.1,d.2.2.1,()))):=by
   intro n;rw[r];simp(disch:=omega)only[bf,P,bX,f,VW]<;>rfl
  unfold jy;cases v:fZ w q u with
  |none=>rw[v]at l;obtain⟨o,y,r1,r2,r3⟩:=FY B x z hl C E f F r qs b (pre++[q]) (a++[k]) (by rw[h1];simp) (by rw[h2];simp) (by simp;omega) (by omega) (by simp;omega) (λq' h=>h6 q' (iB _ h));refine⟨o,y,.next ?_ r1,r2,r3⟩;refine Ev.fR t (Ev.ai l (aY λn=>?_));simp(disch:=omega)only[bf,BX,bF,ep,eu]<;>rfl
  |some m=>
   rw[v]at l;have hml:=qf q u m v;dsimp only;unfold hG;by_cases A:env.length+m.length<=30
   .rw[bJ (by grind)];refine⟨.ret (tb at_ (left++[⟨k,env++m,[]⟩]) node env vals nd [],rb p w,()) (cx.a3 ⟨⟩,()),_,.ret ?_,rfl,_,_,_,_,_,rfl⟩;refine Ev.fR t (Ev.ai l (aY λn=>?_));simp(disch:=omega)only[bf,BX,KM,Rp,cn A,bF,adq,cn (show left.length+1<=40 by omega),e1,R]<;>rfl
   .rw[cn (by grind)];refine⟨.hU (tb at_ left node env vals nd [],rb p w,()) (fl 4),_,.hU ?_,rfl,_,_,rfl⟩;refine Ev.fR t (Ev.ai l (aY λn=>?_));simp(disch:=omega) [bf,BX,KM,Rp,bJ A]<;>rfl
theorem anK(c:Cx p w left f)(h:(nodeAt p f.Node).Op=15):gL p w (iS p w at_ left f) (λn=>F231 n (zN at_ left p f,rb p w,())):=by
 have g:=c.vl h (by decide);simp[dS]at g;have v0:=c.val (i:=0) (by omega)
 let ⟨s,j⟩:=c.nd.mat h
 have k:=c.nd.pats;unfold iS F231 HX;simp only[h,Int.reduceToNat];obtain⟨b,d⟩:∃b,(nodeAt p f.Node).Kids=[b]++(nodeAt p f.Node).Kids.drop 1:=by cases t:(nodeAt p f.Node).Kids with|nil=>grind|cons a l=>exact⟨a,rfl⟩
 let ⟨o,y,m,q,r⟩:=FY (at_:=at_) (node:=f.Node) c.hp c.hw v0 c.ll c.hf.el (vals:=f.bg) (by omega) rfl _ (λn e=>rfl) (nodeAt p f.Node).cN ((nodeAt p f.Node).Kids.drop 1) [] [b] rfl d rfl (by grind) (by grind) k
 exact⟨y,Ev.aT (F:=λn c=>_) m (λn c=>_) _ (aY λn=>q),r⟩
end
end
section
variable {n:Nat}
def adr(nd:bw)(h1:1<=nd.Op)(h2:nd.Op<=28):F173 n (nd,())=Z ((jr nd,()),()):=by
 let ⟨op,m,b,c⟩:=nd
 dsimp only at h1 h2;obtain⟨k,rfl⟩:∃k:Nat,op=k:=⟨_,(xH (by omega)).symm⟩;have a:k<=28:=by omega
 match k,a with
 |0,_=>omega|1,_|2,_|3,_|4,_|5,_|6,_|7,_|8,_|9,_|10,_|11,_|12,_|13,_|14,_|15,_|16,_|17,_|18,_|19,_|20,_|21,_|22,_|23,_|24,_|25,_|26,_|27,_|28,_=>rfl|k+29,h=>omega
section
variable {p:az}{w:af}{left:List av}{f:av}{at_:Int}
noncomputable def opF(k:Nat)(n:Nat)(x:TB×RB×U):O Out:=
 match k with
 |1|2|3=>ai (F221 n x) λg=>Z (G g)|9|10|11=>ai (F227 n x) λg=>cC g (λh=>Z (G h)) λh=>Z (M h)|26=>ai (F242 n x) λg=>Z (G g)|28=>ai (F244 n x) λg=>Z (G g)|4=>F222 n x|5=>F223 n x|6=>F224 n x|7=>F225 n x|8=>F226 n x|12=>F228 n x|13=>F229 n x|14=>F230 n x|15=>F231 n x|16=>F232 n x|17=>F233 n x|18=>F234 n x|19=>F235 n x|20=>F236 n x|21=>F237 n x|22=>F238 n x|23=>F239 n x|24=>F240 n x|25=>F241 n x|27=>F243 n x|_=>Y
def Vb(c:Cx p w left f):gL p w (iS p w at_ left f) (λn=>opF (nodeAt p f.Node).Op.toNat n (zN at_ left p f,rb p w,())):=by
 have h1:=c.nd.lo;have h2:=c.nd.hi;obtain⟨k,d⟩:∃k:Nat,(nodeAt p f.Node).Op=k:=⟨_,(xH (by omega)).symm⟩;have a:1<=k:=by omega
 have b:k<=28:=by omega
 rw[d,Fl]
 match k,d,a,b with
 |1,h,_,_=>exact afN c (.inl h)|2,h,_,_=>exact afN c (.inr (.inl h))|3,h,_,_=>exact afN c (.inr (.inr h))|4,h,_,_=>exact anS c h|5,h,_,_=>exact anR c h|6,h,_,_=>exact anQ c h|7,h,_,_=>exact anP c h|8,h,_,_=>exact anO c h|9,h,_,_=>exact afM c (.inl h)|10,h,_,_=>exact afM c (.inr (.inl h))|11,h,_,_=>exact afM c (.inr (.inr h))|12,h,_,_=>exact anN c h|13,h,_,_=>exact anM c h|14,h,_,_=>exact anL c h|15,h,_,_=>exact anK c h|16,h,_,_=>exact anJ c h|17,h,_,_=>exact anI c h|18,h,_,_=>exact anH c h|19,h,_,_=>exact anG c h|20,h,_,_=>exact anF c h|21,h,_,_=>exact anE c h|22,h,_,_=>exact anD c h|23,h,_,_=>exact anC c h|24,h,_,_=>exact anB c h|25,h,_,_=>exact anA c h|26,h,_,_=>exact anz c h|27,h,_,_=>exact anx c h|28,h,_,_=>exact anw c h|k+29,_,_,h=>omega
def ZT{α:Type}(x:Int)(h1:1<=x)(h2:x<=28)(g:Nat->O α) :
  au (iT x 1) (g 1) (au (iT x 2) (g 2) (au (iT x 3) (g 3) (au (iT x 4) (g 4) (au (iT x 5) (g 5) (au (iT x 6) (g 6) (au (iT x 7) (g 7) (au (iT x 8) (g 8)
  (au (iT x 9) (g 9) (au (iT x 10) (g 10) (au (iT x 11) (g 11) (au (iT x 12) (g 12) (au (iT x 13) (g 13) (au (iT x 14) (g 14) (au (iT x 15) (g 15)
  (au (iT x 16) (g 16) (au (iT x 17) (g 17) (au (iT x 18) (g 18) (au (iT x 19) (g 19) (au (iT x 20) (g 20) (au (iT x 21) (g 21) (au (iT x 22) (g 22)
  (au (iT x 23) (g 23) (au (iT x 24) (g 24) (au (iT x 25) (g 25) (au (iT x 26) (g 26) (au (iT x 27) (g 27) (au (iT x 28) (g 28) (aK J Y))))))))))))))))))))))))))))=g x.toNat:=by
 obtain⟨k,rfl⟩:∃k:Nat,x=k:=⟨_,(xH (by omega)).symm⟩;have a:1<=k:=by omega
 have b:k<=28:=by omega
 match k,a,b with
 |1,_,_|2,_,_|3,_,_|4,_,_|5,_,_|6,_,_|7,_,_|8,_,_|9,_,_|10,_,_|11,_,_|12,_,_|13,_,_|14,_,_|15,_,_|16,_,_|17,_,_|18,_,_|19,_,_|20,_,_|21,_,_|22,_,_|23,_,_|24,_,_|25,_,_|26,_,_|27,_,_|28,_,_=>rfl|k+29,_,h=>omega
def akL(c:O Out):(ai c λg=>cC g (λh=>Z (G h)) λh=>Z (M h))=c:=by cases c with|none=>rfl|some y=>cases y<;>rfl
abbrev T0(at_:Int):TB:=((),at_,[],0,[],[],0,0,[],[],[],())
def pG{l:L av}(h:l≠[]):l=l.take (l.length-1)++[l.getD (l.length-1) aH]:=by
 have a:l.length-1<l.length:=by have:=Fo.2 h;omega
 simp_all[List.getElem_length_sub_one_eq_getLast]
theorem pK{nd:bw}(h:RU p nd):jr nd<=nd.Kids.length:=by
 unfold jr;split
 .omega
 .rename_i b;by_cases a:nd.Op=15
  .have:=(h.mat a).1;rw[a,this];simp[dS];omega
  .rw[h.many b a];have h2:=h.hi;have:∀k,k<29->k≠15->dS.getD k 0<=sN.getD k 0:=by decide
   grind
theorem Ax{nd:bw}(f:jk p)(h:RU p nd):nd.Kids.length<=6:=by
 by_cases c:nd.Op=14
 .let ⟨a,b,d⟩:=h.con c
  have:=(f.cons _ (cg bM (show nd.N.toNat<p.Cons.length by omega))).2;omega
 .by_cases e:nd.Op=15
  .have:=h.mat e;omega
  .rw[h.many c e];have h2:=h.hi;have:∀k,k<29->sN.getD k 0<=6:=by decide
   grind
theorem sK{k:Nat}{l:L av}{g:av}:∀{o:aB},gu p k o->o.Form=6->o.N=0->o.Frames=l++[g]->
  eG p k g∧(∀x∈l,eG p k x∧oG p x)∧l.length<40∧(o.bg=[]∨∃v,o.bg=[v]∧ct p k v∧oG p g)
 |_,.rP a b c,_,_,h=>by
  simp_all
 |_,.back a b c,_,_,h=>by
  grind
 |_,.done _,_,h,_=>by cases h
 |_,.dead a,_,h,_=>by simp_all
 |_,.data ..,h,_,_=>by cases h
 |_,.func ..,h,_,_=>by cases h
 |_,.cell _,h,_,_=>by cases h
 |_,.chan ..,h,_,_=>by cases h
 |_,.vS ..,h,_,_=>by cases h
theorem anT(h:jk p)(C:eE p w){o:aB}(hf:o.Form=6)(hn:o.N=0)(i:o.Frames≠[])(E:gu p w.aJ.length o):gL p w (JK p w at_ o) (λn=>F115 n (T0 at_,rb p w,o,())):=by
 obtain⟨l,g,e⟩:∃l g,o.Frames=l++[g]:=⟨_,_,pG i⟩
 let ⟨d,F,m,q⟩:=sK E hf hn e
 have a:=h.nd d.lo d.hi;have f:(l++[g]).length-1=l.length:=by simp
 have b:(l++[g]).take l.length=l:=List.take_left;have dm:(l++[g]).getD l.length aH=g:=j7 ..;have I:uC (T0 at_,rb p w,o,())=(l.length:Int):=by unfold uC;simp[e];simp(disch:=omega)only[bf,cZ];omega
 have r:jg (T0 at_,rb p w,o,())=g:=by
  grind[jg,ZG,Yc]
 have s:zK (T0 at_,rb p w,o,())=nodeAt p g.Node:=by unfold zK;rw[r];rfl
 have K:g.bg.length<=1000:=by have h1:=d.vl;have h2:=pK a;have h3:=Ax h a;omega
 unfold JK F115;simp only[e,f,b,dm,I,r,s];obtain t|⟨v,t,P,R⟩:=q
 .simp only[t];by_cases B:(g.bg.length:Int)<jr (nodeAt p g.Node)
  .rw[cn B];have:=pK a;refine QM (k:=(g.bg.length:Int)) at_ 0 [] [] (left:=l++[g]) (by simp;omega) d.el (by omega) (by omega) λn=>?_;unfold Mx;simp[s];have u:=d.lo;have x:=d.hi;simp(disch:=first|omega|simp only[lz];omega)only[bf,adr _ a.lo a.hi,ZI,qG,KM,cn (show l.length+1<=40 by omega)]<;>rfl
  .rw[bJ B];have u:=d.lo;have x:=d.hi;have c:Cx p w l g:=⟨h,C,d,by have:=d.vl;omega,m,F⟩
   let ⟨y,h1,h2⟩:=Vb (at_:=at_) c
   refine⟨y,Ev.fR (λn=>?_) h1,h2⟩;have z:=a.lo;have A:=a.hi;rw[<-ZT (nodeAt p g.Node).Op z A (λj=>opF j n (zN at_ l p g,rb p w,()))];unfold Mx Mw Mv gE;simp[r,s];simp(disch:=first|omega|simp only[lz];omega)only[bf,adr _ a.lo a.hi,oK,b,ZI,qG,KM,cn (show l.length<=40 by omega)];simp only[akL,opF]
 .simp[t];exact .of_eq (λn=>by simp(disch:=first|omega|simp only[lz];omega)only[bf,oK,b,ZI,qG,KM,tF,List.getD_cons_zero,cn (show l.length<=40 by omega),cn (show l.length+1<=40 by omega)]<;>rfl) ⟨_,_,_,_,aW,rfl⟩
def MV(p:az)(w:af):O (af×O aN)->(cx×U)×RB×U
 |none=>((cx.a0 ⟨⟩,()),rb p w,())|some (a,e)=>((agY e,()),rb p a,())
theorem akP{n:Nat}:F71 n (cx.a0 ⟨⟩,())=Z ((2,()),()):=rfl
def ado(e:O aN):F71 n (agY e,())=Z ((match e with|none=>0|some _=>1,()),()):=by cases e<;>rfl
theorem Zm(s:jk p)(k:eE p w){o:aB}(hf:o.Form=6)(hn:o.N=0)(m:o.Frames≠[])(t:gu p w.aJ.length o):uR p w (JK p w at_ o):=by
 obtain⟨l,g,c⟩:∃l g,o.Frames=l++[g]:=⟨_,_,pG m⟩
 let ⟨a,n,d,q⟩:=sK t hf hn c
 have e:=s.nd a.lo a.hi;have f:(l++[g]).length-1=l.length:=by simp
 have b:(l++[g]).take l.length=l:=List.take_left;have dm:(l++[g]).getD l.length aH=g:=j7 ..;unfold JK;simp only[c,f,b,dm];obtain h|⟨v,h,r,u⟩:=q
 .simp only[h];split
  .rename_i y;have:=pK e;unfold hG;split
   .exact .inr (.inr rfl)
   .have i:=e.kids _ (cg 0 (show g.bg.length<(nodeAt p g.Node).Kids.length by omega));refine qM.same k (.rP (by omega) (λx j=>?_) ⟨i.1,i.2,a.el,a.env,EF _,λv h=>by cases h⟩);obtain j|j:=dW.1 j
    .exact n x j
    .rw[oa.1 j];exact⟨a,y⟩
  .exact afC ⟨s,k,a,by have:=a.vl;omega,d,n⟩
 .simp[h];refine qM.same k (.rP d n ⟨a.lo,a.hi,a.el,a.env,?_,Cb a.vals r⟩)
  grind[oG]
def He{k:Nat}:∀{o:aB},gu p k o->o.Form=6->o.N=0->o.Frames=[]->∃v,o.bg=[v]∧ct p k v
 |_,.rP a b c,_,_,h=>by simp at h
 |_,.back a b c,_,_,h=>⟨_,rfl,c⟩|_,.done a,_,_,h=>⟨_,rfl,a⟩|_,.dead a,_,h,_=>by simp_all
 |_,.data ..,h,_,_=>by cases h
 |_,.func ..,h,_,_=>by cases h
 |_,.cell _,h,_,_=>by cases h
 |_,.chan ..,h,_,_=>by cases h
 |_,.vS ..,h,_,_=>by cases h
def jW(i:jk p)(d:eE p w)(n:0<=at_)(h1:at_<w.aM.length){w':af}{e:O aN}(hs:eW p w at_=Z (w',e)) :
  eE p w'∧(∃l,w'.aM=w.aM++l)∧(e=Y->w'.aM=w.aM):=by
 have j:=d.task _ (cg 0 (show at_.toNat<w.aM.length by omega))
 let ⟨t1,t2,t3⟩:=j
 have f:=d.ob t1 t2;unfold eW at hs;simp only at hs;change 0<=bK w at_ at t1;change bK w at_<_ at t2;change(bI w (bK w at_)).Form=6 at t3;change gu p _ (bI w (bK w at_))at f;split at hs
 .cases hs
 .rename_i g;have g:(bI w (bK w at_)).N=0:=by omega
  split at hs
  .rename_i b;cases hs;refine⟨d.set t1 t2 (.done ?_) ⟨λ_=>t3,λ_=>rfl⟩,⟨[],by simp[iN]⟩,λ_=>rfl⟩
   let ⟨v,k,h⟩:=He f t3 g b
   rw[k];exact h
  .rename_i b;have a:=Zm (at_:=at_) i d t3 g b f;split at hs
   .cases hs
   .rename_i c;rw[c]at a;cases hs;exact⟨d.set t1 t2 (.dead a) ⟨λ_=>t3,λ_=>rfl⟩,⟨[],by simp[iN]⟩,λ_=>rfl⟩
   .rename_i c;rw[c]at a;cases hs;have m:=a.ln;have e0:(((bK w at_).toNat:Nat):Int)=bK w at_:=by omega
    refine⟨a.ok.set t1 (by omega) a.ob ⟨λ_=>?_,λ_=>rfl⟩,a.tk,a.tn⟩;have:=a.fm (bK w at_).toNat (by omega)
    simp_all
theorem e70(k:jk p)(f:eE p w)(B:0<=at_)(h1:at_<w.aM.length):Ev (λn=>F70 n (rb p w,at_,())) (MV p w (eW p w at_)):=by
 obtain⟨t1,t2,t3⟩:=f.task _ (cg 0 (show at_.toNat<w.aM.length by omega));have g:=f.ob t1 t2;change 0<=bK w at_ at t1;change bK w at_<_ at t2;change(bI w (bK w at_)).Form=6 at t3;change gu p _ (bI w (bK w at_))at g;have q:Bm (rb p w,at_,())=bK w at_:=rfl;have r:HS (rb p w,at_,())=bI w (bK w at_):=rfl;unfold eW F70;simp only[q,r];by_cases d:(bI w (bK w at_)).N=0
 .rw[bJ (by omega)];by_cases a:(bI w (bK w at_)).Frames=[]
  .rw[cn a];obtain⟨v,m,t⟩:=He g t3 d a;rw[m];exact aY λn=>by simp(disch:=first|omega|simp only[lz];omega)only[bf,d,a,m,ads,ag7]<;>rfl
  .rw[bJ a];obtain⟨y,h,b⟩:=anT (at_:=at_) k f t3 d a g;have o:0<(bI w (bK w at_)).Frames.length:=Fo.2 a;have i:=Zm (at_:=at_) k f t3 d a g;simp(disch:=omega)only[bf,d];refine Ev.ai h ?_;cases c:JK p w at_ (bI w (bK w at_))with
   |waits=>rw[c]at b;obtain⟨T,rfl⟩:=b;exact aY λn=>by simp only[bf,akP]<;>rfl
   |fail s=>rw[c]at b;obtain⟨T,j,rfl⟩:=b;exact aY λn=>by simp(disch:=omega)only[bf,ads,arI]<;>rfl
   |go j C E e=>
    rw[c]at b i;obtain⟨F,node,env,vals,nd,rfl⟩:=b;obtain⟨l,u⟩:=i.tk;have x:=i.ln;have z:j.aM.getD at_.toNat 0=bK w at_:=by rw[u,tH,Xr (by omega)];rfl
    have A:at_<j.aM.length:=by grind
    exact aY λn=>by cases e<;>simp(disch:=omega)only[bf,ado,ads,z]<;>rfl
 .rw[cn d];exact aY λn=>by simp(disch:=omega)only[bf]<;>rfl
end
end
section
def dY(w:af)(at_ t:Int):mV->aF
 |.fail s=>⟨iN w t ⟨6,s,[],[]⟩,1,⟨at_,0,s,aA⟩⟩|.waits=>⟨w,2,br⟩|.go a b c Y=>⟨iN a t ⟨6,0,c,b⟩,0,br⟩|.go a b c (Z e)=>⟨iN a t ⟨6,0,c,b⟩,1,e⟩
section
variable {n:Nat}{p:az}{w:af}{left:List av}{f:av}{at_:Int}{v u:aj}{form:Int}
theorem LF(k:Int):F117 n (k,())=Z ((pT k,()),()):=rfl
theorem TK:F97 n ()=Z ((ej,()),()):=rfl
theorem e25(k:Int):F25 n (k,())=Z ((gf k,()),()):=rfl
def ag6(b:Bool):F120 n (b,())=Z ((gK b,()),()):=by cases b<;>rfl
def aeG(k:Int):F120 n (aa k 1,())=Z ((gK (k==1),()),()):=ag6 _
def e73:F73 n (v,())=Z ((jo v,()),()):=by
 unfold F73 jo;by_cases h:v.Kind=4
 .simp[h,bf,LF]
 .by_cases a:v.Kind=5
  .simp[a,bf,LF]
  simp_all[bf]
def e74{l:L aj}(h:l.length<=1000):F74 n (l,v,())=Z ((l++[v],()),()):=by unfold F74;simp(disch:=first|omega|simp[lz];omega) [bf]
def e75(nd:bw)(h1:1<=nd.Op)(h2:nd.Op<=28):F75 n (nd,())=Z ((jr nd,()),()):=by
 let ⟨op,m,b,c⟩:=nd
 dsimp only at h1 h2;obtain⟨k,rfl⟩:∃k:Nat,op=k:=⟨_,(xH (by omega)).symm⟩;have a:k<=28:=by omega
 match k,a with
 |0,_=>omega|1,_|2,_|3,_|4,_|5,_|6,_|7,_|8,_|9,_|10,_|11,_|12,_|13,_|14,_|15,_|16,_|17,_|18,_|19,_|20,_|21,_|22,_|23,_|24,_|25,_|26,_|27,_|28,_=>rfl|k+29,h=>omega
variable {op:Int}
def xQ{d:aF}{k:Int}:F129 n (d,at_,op,k,v,())=if d.adU=1 then Z ((d,()),())else Z ((⟨d.W,1,⟨at_,op,k,jo v⟩⟩,()),()):=by
 unfold F129;split<;>rename_i h
 .simp[bf,h]
 simp_all[bf,e73]
def mJ(a:v.Kind=5->0<=v.N∧v.N<w.aJ.length):F176 n (w,v,form,())=Z (iD (eV w v form),()):=by
 unfold F176 eV bI;by_cases h:v.Kind=5
 .let ⟨h1,h2⟩:=a h
  by_cases b:(w.aJ.getD v.N.toNat aO).Form=form
  .simp_all[bf,iD]
  simp_all[bf,iD]
 simp_all[bf,iD]
def frR:O av->av×Bool×U
 |some b=>(b,W,())|none=>(aH,J,())
def V4(hf:u.Kind=4->0<=u.N∧u.N<p.dM.length)(a:u.Kind=5->0<=u.N∧u.N<w.aJ.length)
  (hn:∀o,eV w u 2=Z o->0<=o.N∧o.N<p.bh.length∧0<(nodeAt p o.N).Kids.length∧o.bg.length<=1000) :
  F177 n (p,w,u,v,())=Z (frR (fI p w u v),()):=by
 unfold F177 fI;by_cases h:u.Kind=4
 .simp_all[bf,frR]
 .simp (disch:=omega)only[bf,h,ij];rw[mJ a];cases b:eV w u 2 with
  |none=>rfl|some o=>
   let ⟨h1,h2,h3,h4⟩:=hn o b
   simp_all[nodeAt,bf,iD,e74,frR]
structure At(w:af)(at_:Int):Prop where
 lo:0<=at_
 hi:at_<w.aM.length
 tlo:0<=bK w at_
 thi:bK w at_<w.aJ.length
theorem dh(w:af)(k:Int):w.aM.getD k.toNat 0=bK w k:=rfl
def e76{node:Int}{env:L aj}(a:At w at_)(hl:left.length<=1000)(b:env.length<=1000):F76 n (w,at_,left,node,env,())=Z ((dY w at_ (bK w at_) (hG w left node env),()),()):=by
 let ⟨a1,a2,a3,c⟩:=a
 unfold F76 aaG hG;by_cases h1:40<=left.length
 .simp (disch:=omega)only[bf,dh,cn (show 40<=left.length∨30<env.length from .inl h1),dY]<;>rfl
 .by_cases h2:30<env.length
  .simp (disch:=omega)only[bf,dh,cn (show 40<=left.length∨30<env.length from .inr h2),dY]<;>rfl
  .simp (disch:=first|omega|simp only[lz];omega)only[bf,dh,bJ (show ¬(40<=left.length∨30<env.length)by omega),dY]<;>rfl
theorem arH(a:At w at_)(i:jk p)(g:eE p w)(c:ct p w.aJ.length u)(hl:left.length<=100):F122 n (p,w,at_,left,u,v,())=Z ((dY w at_ (bK w at_) (rW p w left u v),()),()):=by
 let ⟨a1,a2,a3,j⟩:=a
 unfold F122 Mu zJ rW;cases e:eV w u 5 with
 |some o=>
  let ⟨h1,h2,_⟩:=ec g c e
  have k:o.Frames.length<=40:=by cases h2<;>first|(simp;done)|(simp only[qH,Fm,List.length_nil];omega)
  by_cases h3:40<left.length+o.Frames.length
  .simp (disch:=omega)only[bf,mJ c.ref,e,iD,dh,cn h3,dY]<;>rfl
  .simp (disch:=omega)only[bf,mJ c.ref,e,iD,dh,bJ h3,dY,fc]<;>rfl
 |none=>
  have h:=Ri i g c;cases d:fI p w u v with
  |none=>simp(disch:=omega)only[bf,mJ c.ref,e,iD,dh,V4 c.code c.ref h,d,frR,dY]<;>rfl|some b=>
   have l:b.Env.length<=1000:=by
    unfold fI at d;split at d
    .cases d;simp
    .split at d
     .rename_i f;cases d;have h4:=(ec g c f).2.1;have h5:=(ec g c f).1;cases h4<;>first|(cases h5;done)|grind
     .cases d
   simp[bf,mJ c.ref,e,iD,V4 c.code c.ref h,d,frR,e76 ⟨a1,a2,a3,j⟩ (show left.length<=1000 by omega) l]<;>rfl
def e55(a:Int):F55 n (a,(-1000000000),1000000000,())=Z ((gT a,()),()):=by unfold F55 gT;by_cases h1:-1000000000<=a<;>by_cases h2:a<=1000000000<;>simp[au,bA,h1,h2]
def ZO(a:At w at_)(d:op=9∨op=10∨op=11∨op=12∨op=13)(j:ct p w.aJ.length u)(k:ct p w.aJ.length v):F123 n (w,at_,left,op,u,v,())=Z ((dY w at_ (bK w at_) (om w left op u v),()),()):=by
 let ⟨a1,a2,a3,l⟩:=a
 unfold F123 Ig Ms Mt zI om;by_cases b:op=13
 .subst b;rw[cn rfl];by_cases h1:u.Kind=v.Kind
  .by_cases h2:u.Kind<=3
   .rw[bJ (by omega),show qF u v=aa u.N v.N by simp[qF,h1,beq_self_eq_true,eY];rfl];simp(disch:=omega)only[bf,dh,aaa,LQ,ag6,dY,fc]<;>rfl
   .rw[cn (by omega)];simp(disch:=omega)only[bf,dh,dY]<;>rfl
  .rw[cn (by omega)];simp(disch:=omega)only[bf,dh,dY]<;>rfl
 .rw[bJ b];by_cases h1:u.Kind=1∧v.Kind=1
  .let ⟨c,e⟩:=h1
   have f:=j.int c;have g:=k.int e;have m:=aiR f g;simp[gT,eK,nP]at f g;rw[bJ (by omega)];obtain h|h|h|h|h:=d
   .subst h;simp;simp(disch:=omega)only[bf,dh,bN,bF,e55];cases i:gT (u.N+v.N)<;>simp only[bf,dh,e25,dY,fc,ij,ku,reduceCtorEq]<;>rfl
   .subst h;simp;simp(disch:=omega)only[bf,dh,bN,cZ,e55];cases i:gT (u.N-v.N)<;>simp only[bf,dh,e25,dY,fc,ij,ku,reduceCtorEq]<;>rfl
   .subst h;simp;simp(disch:=omega)only[bf,dh,bN,Yd,e55];cases i:gT (u.N*v.N)<;>simp only[bf,dh,e25,dY,fc,ij,ku,reduceCtorEq]<;>rfl
   .subst h;simp;simp(disch:=omega)only[bf,dh,ag6,dY,fc]<;>rfl
   omega
  .rw[cn (by omega)];by_cases c:u.Kind=1
   .simp (disch:=omega)only[bf,dh,dY]<;>rfl
   .simp (disch:=omega)only[bf,dh,dY]<;>rfl
end
end
section
section
variable {n:Nat}{p:az}{w:af}{left:List av}{f:av}{at_:Int}{v u:aj}{form:Int}
variable {vals:List aj}{nd:bw}
def V7(a:At w at_)(b:eE p w)(c:0<vals.length):F126 n (w,at_,left,16,vals,())=Z ((dY w at_ (bK w at_) (Zz at_ 16 0 (bE vals 0) (jQ w left ⟨3,0,[bE vals 0],[]⟩)),()),()):=by
 let ⟨a1,a2,a3,d⟩:=a
 unfold F126 zG CE jM qC jQ;by_cases h1:120<=w.aJ.length
 .simp (disch:=omega)only[bf,dh,xQ,dY,Zz,cn h1,ku]<;>rfl
 .simp (disch:=first|omega|simp only[lz];omega)only[bf,bX,dh,LF,cZ,xQ,dY,Zz,bJ h1,Int.reduceEq,ij,fc,qG,ep,eu,Qu]<;>rfl
def ZN(a:At w at_)(d:eE p w)(e:0<vals.length)(b:ct p w.aJ.length (bE vals 0)):F126 n (w,at_,left,17,vals,())=Z ((dY w at_ (bK w at_) (Ol w at_ left (bE vals 0)),()),()):=by
 let ⟨a1,a2,a3,f⟩:=a
 unfold F126 zG CE jM qC Ol;cases c:eV w (bE vals 0) 3 with
 |none=>simp(disch:=omega)only[bf,bX,dh,mJ b.ref,c,iD,dY]<;>rfl|some o=>
  let ⟨h1,h2,h3,h4,h5,h6⟩:=ec d b c
  have g:0<o.bg.length:=by cases h2<;>first|(cases h1;done)|simp
  simp(disch:=omega)only[bf,bX,dh,mJ b.ref,c,iD,xQ,Int.reduceEq,ij,dY]<;>rfl
def ZM(a:At w at_)(d:eE p w)(e:1<vals.length)(b:ct p w.aJ.length (bE vals 0)):F126 n (w,at_,left,18,vals,())=Z ((dY w at_ (bK w at_) (iQ w at_ left (bE vals 0) (bE vals 1)),()),()):=by
 let ⟨a1,a2,a3,f⟩:=a
 unfold F126 zG CE jM qC iQ;cases c:eV w (bE vals 0) 3 with
 |none=>simp(disch:=omega)only[bf,bX,dh,mJ b.ref,c,iD,dY]<;>rfl|some o=>
  let ⟨h1,h2,h3,h4,h5,h6⟩:=ec d b c
  simp(disch:=first|omega|simp only[lz];omega)only[bf,bX,dh,mJ b.ref,c,iD,TK,xQ,Int.reduceEq,ij,dY]<;>rfl
def arD(a:At w at_)(e:eE p w)(b:ct p w.aJ.length u):F128 n (w,at_,left,u,())=Z ((dY w at_ (bK w at_) (Dk w at_ left u),()),()):=by
 let ⟨a1,a2,a3,f⟩:=a
 unfold F128 Mp zF Dk;cases c:eV w u 6 with
 |none=>simp(disch:=omega)only[bf,dh,mJ b.ref,c,iD,dY]<;>rfl|some o=>
  let ⟨h1,h2,h3,h4,h5,h6⟩:=ec e b c
  by_cases d:o.N=0
  .simp (disch:=omega) [bf,mJ b.ref,c,iD,cn d,dY]<;>rfl
  .by_cases g:o.N=1
   .have h:0<o.bg.length:=by cases h2<;>first|(cases h1;done)|exact Nat.one_pos|exact absurd rfl d|simp_all
    simp(disch:=omega)only[bf,bX,dh,mJ b.ref,c,iD,bJ d,bJ (show ¬o.N≠1 by omega),xQ,Int.reduceEq,ij,dY]<;>rfl
   .simp (disch:=omega)only[bf,dh,mJ b.ref,c,iD,bJ d,cn (show o.N≠1 by omega),dY]<;>rfl
def V6(a:At w at_)(e:eE p w)(f:1<vals.length)(b:ct p w.aJ.length (bE vals 0)):F130 n (w,at_,left,22,vals,())=Z ((dY w at_ (bK w at_) (CP w at_ left (bE vals 0) (bE vals 1)),()),()):=by
 let ⟨a1,a2,a3,g⟩:=a
 unfold F130 H9 H8 qA CC CP;cases c:eV w (bE vals 0) 4 with
 |none=>simp(disch:=omega)only[bf,bX,dh,mJ b.ref,c,iD,dY]<;>rfl|some o=>
  let ⟨h1,h2,h3,h4,h5,h6⟩:=ec e b c
  by_cases d:4<=o.bg.length
  .simp (disch:=omega)only[bf,bX,mJ b.ref,c,iD,cn d,dY]<;>rfl
  .simp (disch:=first|omega|simp only[lz];omega)only[bf,bX,dh,mJ b.ref,c,iD,bJ d,e74,TK,xQ,Int.reduceEq,ij,dY]<;>rfl
def V5(a:At w at_)(e:eE p w)(f:0<vals.length)(c:ct p w.aJ.length (bE vals 0)):F130 n (w,at_,left,23,vals,())=Z ((dY w at_ (bK w at_) (CI w at_ left (bE vals 0)),()),()):=by
 let ⟨a1,a2,a3,g⟩:=a
 unfold F130 H9 H8 qA CC CI;cases d:eV w (bE vals 0) 4 with
 |none=>simp(disch:=omega)only[bf,bX,dh,mJ c.ref,d,iD,dY]<;>rfl|some o=>
  let ⟨h1,h2,h3,h4,h5,h6⟩:=ec e c d
  cases b:o.bg with|nil=>simp(disch:=omega)only[bf,bX,mJ c.ref,d,iD,b,dY]<;>rfl|cons v h=>simp(disch:=first|omega|simp only[lz];omega)only[bf,bX,dh,mJ c.ref,d,iD,b,so,xQ,Int.reduceEq,ij,dY]<;>rfl
def adt(a:At w at_)(b:eE p w)(h:nd.Op=25):F131 n (w,at_,left,nd,vals,())=Z ((dY w at_ (bK w at_) (inS w at_ left),()),()):=by
 let ⟨a1,a2,a3,e⟩:=a
 have f:=b.used;have d:=b.ins;unfold F131 Mo CB CA Cz zE inS;cases c:w.lK with
 |nil=>simp(disch:=omega) [bf,dY]<;>rfl|cons i l=>
  rw[c]at d;by_cases h2:1000000000<=w.Used
  .simp (disch:=first|omega|simp only[lz];omega)only[bf,dh,c,e25,cn h2,dY,iN]<;>rfl
  .simp (disch:=first|omega|simp only[lz];omega)only[bf,dh,e25,bJ h2,so,bF,xQ,h,Int.reduceEq,ij,dY]<;>rfl
def ZL(a:At w at_)(b:eE p w)(h:nd.Op=24)(c:0<vals.length):F131 n (w,at_,left,nd,vals,())=Z ((dY w at_ (bK w at_) (NH w at_ left nd.N (bE vals 0)),()),()):=by
 let ⟨a1,a2,a3,d⟩:=a
 unfold F131 Mo CB CA Cz zE NH;by_cases h1:(bE vals 0).Kind=1
 .by_cases h2:100<=w.ei.length
  .simp (disch:=omega)only[bf,bX,dh,bJ (show ¬(bE vals 0).Kind≠1 by omega),cn h2,dY]<;>rfl
  .simp (disch:=first|omega|simp only[lz];omega)only[bf,bX,dh,bJ (show ¬(bE vals 0).Kind≠1 by omega),bJ h2,TK,xQ,h,Int.reduceEq,ij,dY]<;>rfl
 .simp (disch:=omega)only[bf,bX,dh,cn h1,dY]<;>rfl
def arE(a:At w at_)(i:jk p)(h:eE p w)(c:ct p w.aJ.length u):F127 n (p,w,at_,left,u,())=Z ((dY w at_ (bK w at_) (rD p w at_ left u),()),()):=by
 let ⟨a1,a2,a3,j⟩:=a
 have f:=Ri i h c;have k:=h.len;have l:=h.tl;unfold F127 Ia Ib Sl Ic CD wR Mq Ie Sn rD;cases d:eV w u 5 with
 |some o=>
  by_cases e:120<=w.aJ.length
  .simp (disch:=omega)only[bf,dh,mJ c.ref,d,iD,TK,bN,xQ,cn e,ku,dY]<;>rfl
  .simp (disch:=first|omega|simp only[lz];omega)only[bf,dh,mJ c.ref,d,iD,TK,bN,LF,KN,cZ,xQ,bJ e,Int.reduceEq,ij,qG,ep,eu,Qu,dY]<;>rfl
 |none=>
  dsimp only;cases g:fI p w u ej with
  |none=>simp(disch:=first|omega|simp only[lz];omega)only[bf,dh,mJ c.ref,d,iD,TK,V4 c.code c.ref f,g,frR,dY]<;>rfl
  |some b=>
   dsimp only;by_cases m:b.Env.length<=30
   .rw[bJ (by omega)];by_cases e:120<=w.aJ.length
    .simp (disch:=omega)only[bf,dh,mJ c.ref,d,iD,TK,V4 c.code c.ref f,g,frR,bN,xQ,cn e,ku,dY]<;>rfl
    .simp (disch:=first|omega|simp only[lz];omega)only[bf,dh,mJ c.ref,d,iD,TK,V4 c.code c.ref f,g,frR,bN,LF,KN,cZ,xQ,bJ e,Int.reduceEq,ij,qG,ep,eu,Qu,dY]<;>rfl
   .rw[cn (by omega)];simp(disch:=first|omega|simp only[lz];omega)only[bf,dh,mJ c.ref,d,iD,TK,V4 c.code c.ref f,g,frR,dY]<;>rfl
theorem arF{b:Int}{env:L aj}(a:At w at_)(m:eE p w)(hl:left.length<40)(hf:∀g∈left,0<=g.Node∧g.Node<p.bh.length)(s:env.length<=900):Ev (λn=>F125 n (p,w,at_,left,b,env,())) ((dY w at_ (bK w at_) (rE p w left b env),()),()):=by
 have l:=m.len;have t:=a
 let ⟨a1,a2,a3,u⟩:=a
 have e0:bS .i64 (ax left) 1=(left.length:Int)-1:=cZ (by simp[ax];omega) (by simp[ax];omega);unfold F125 So Mr zH rE;simp[e0];have e:=λ(R B P:Type)=>@yT p left hf hl R B P _ (λn c=>rfl) left.length (cu _) (λj v o=>by omega);cases h:gm (λf:av=>(nodeAt p f.Node).Op==26) left with
 |none=>simp[h]at e;refine Ev.aT (F:=λn c=>_) (e _ _ _) (λn c=>_) _ (aY λn=>?_);show TL.au _ _ _=_;simp(disch:=omega)only[bf,dh,dY]<;>rfl|some k=>
  have q:=zc h;simp[h]at e;refine Ev.aT (F:=λn c=>_) (e _ _ _) (λn c=>_) _ (aY λn=>?_);show TL.au _ _ _=_;dsimp only;have x:(left.take (k+1)).length=k+1:=by grind
  have r:((k:Int)+1).toNat=k+1:=by omega
  by_cases h1:120<=w.aJ.length
  .simp (disch:=omega)only[bf,dh,cn h1,dY]<;>rfl
  .have i:At (dZ w ⟨5,0,[],left.drop k⟩) at_:=⟨a1,a2,a3,by grind[dZ,bK]⟩;have d:=e76 (n:=n) (left:=left.take (k+1)) (node:=b) (env:=env++[pT w.aJ.length]) i (by omega) (by simp;omega);unfold dZ at d;rw[bJ h1];simp(disch:=first|omega|simp only[lz];omega)only[bf,dh,w8,oK,bF,r,LF,cZ,qG,ep,eu,Qu,e74,d];unfold hG;by_cases h2:30<env.length+1
   .rw[cn (.inr (by simp_all)),cn (.inr (by simp_all))];simp only[bf,dY]<;>rfl
   .rw[bJ (by grind),bJ (by grind)];simp(disch:=omega)only[bf,dY]<;>rfl
end
end
section
abbrev as0:=(L aj×Bool×U)×U
def DR:O (L aj)->as0
 |some m=>((m,W,()),())|none=>(([],J,()),())
def ahL(p:az)(w:af)(q:aG):Prop:=∀(v:aj),ct p w.aJ.length v->yM R178 (w,q,v,()) (DR (fZ w q v))
section
variable {p:az}{w:af}{left:List av}{f:av}{at_:Int}{v u:aj}{form:Int}
theorem NU{B P:Type}(d:Nat):∀(qs:L aG)(vs:L aj)(pre:L aG)(b:L aj)(l:L aj),qs.length=vs.length->pre.length=b.length->pre.length+qs.length<=1000->
  (∀q∈qs,ahL p w q)->(∀v∈vs,ct p w.aJ.length v)->l.length+se qs<=1000->
  ∀(F:Nat->L aj×Int×U->O (LO (L aj×Int×U) (L aj×Bool×U) U P)),
  (∀n e,F n e=au (aD e.2.1 (ax (pre++qs))) (aK (aC e.2.1 (pre++qs)) (aK (aC e.2.1 (b++vs)) (ai (R178 n (n-d) (w,@aZ aG (pre++qs) (ak e.2.1) aV,@aZ aj (b++vs) (ak e.2.1) aA,())) λg=>au (aq g.1.2.1) (Z (X () ([],J,())))
   (aK (dB e.1 g.1.1) (Z (N (cX e.1 g.1.1,aE .i64 e.2.1 1,()))))))) (Z (H 0 e)))->
  fj F (l,(pre.length:Int),()) (match e8 w qs vs with
   |some m=>.out 0 (l++m,((pre++qs).length:Int),())|none=>.ret () ([],J,()))
 |[],[],pre,b,l,_,_,j,_,_,_,F,c=>by unfold e8;refine .out (aY λn=>?_);rw[c];simp(disch:=omega) [bf,oN]<;>rfl
 |q::qs,v::vs,pre,b,l,t,E,j,k,o,u,F,c=>by
  unfold se at u;simp at j;have h1:=k q fA v (o v fA);have r:(pre++q::qs).getD pre.length aV=q:=j7 ..;have s:(b++v::vs).getD pre.length aA=v:=by simp_all
  unfold e8;cases f:fZ w q v with
  |none=>
   rw[f]at h1;refine .ret ?_
   let ⟨a,h1⟩:=h1 d
   refine⟨a,λn i=>?_⟩;have:=h1 n i;show F n _=_;rw[c];simp(disch:=first|omega|simp only[lz];omega)only[bf,r,s];exact(pU (λx=>ai x _) this).trans rfl
  |some m=>
   rw[f]at h1;have z:=qf q v m f;have h2:=NU (B:=B) (P:=P) d qs vs (pre++[q]) (b++[v]) (l++m) (by simpa using t) (by simp;omega) (by simp;omega) (λA h=>k A (iB _ h)) (λC h=>o C (iB _ h))
    (by simp;omega) F (λn e=>by rw[c];simp<;>rfl)
   refine(.next (y:=(l++m,((pre++[q]).length:Int),())) ?_ ?_)
   .let ⟨a,h1⟩:=h1 d
    refine⟨a,λn i=>?_⟩;have:=h1 n i;show F n _=_;rw[c];simp(disch:=first|omega|simp only[lz];omega)only[bf,r,s,bF,ep,eu];refine(pU (λx=>ai x _) this).trans ?_;show TL.aK (dB l m) (Z (N (l++m,(pre.length:Int)+1,())))=_;rw[LI (by omega)];simp
   grind
theorem mb(n k:Nat):R178 n (k+1)=B178 n (R178 n k):=rfl
theorem aiV:∀(q:aG),pw q<=1000->∀(f:eE p w),ahL p w q
 |⟨form,n0,text,parts⟩,k,f=>by
  intro v i;unfold pw at k;unfold fZ;by_cases h1:form=1
  .refine yM.step mb λd=>aY λn=>?_;unfold B178;simp[bf,h1,ku,DR]<;>rfl
  rw[bJ h1];by_cases h2:form=2
  .refine yM.step mb λd=>aY λn=>?_;unfold B178;simp(disch:=omega) [bf,h2,ku,DR]<;>rfl
  rw[bJ h2];have cmp:∀u:aj,(if qF v u=W then Z ([]:L aj)else Y)=Y∧bP (aa v.Kind u.Kind) (bP (aa v.N u.N) W)=J∨(if qF v u=W then Z ([]:L aj)else Y)=Z []∧bP (aa v.Kind u.Kind) (bP (aa v.N u.N) W)=W:=by
   intro u;have:bP (aa v.Kind u.Kind) (bP (aa v.N u.N) W)=qF v u:=by rw[LQ];rfl
   rw[this];cases qF v u<;>simp
  by_cases h3:form=3
  .rw[cn h3];refine yM.step mb λd=>aY λn=>?_;unfold B178 CH;obtain⟨b,c⟩|⟨b,c⟩:=cmp (gf n0)<;>rw[b]<;>simp(disch:=omega)only[bf,h3,e25,c,DR]<;>rfl
  rw[bJ h3];by_cases h4:form=4
  .rw[cn h4];refine yM.step mb λd=>aY λn=>?_;unfold B178 CH;obtain⟨b,c⟩|⟨b,c⟩:=cmp (gK (n0==1))<;>rw[b]<;>simp(disch:=omega)only[bf,h4,aeG,c,DR]<;>rfl
  rw[bJ h4];by_cases h5:form=5
  .rw[cn h5];refine yM.step mb λd=>aY λn=>?_;unfold B178 CH;obtain⟨b,c⟩|⟨b,c⟩:=cmp ej<;>rw[b]<;>simp(disch:=omega)only[bf,h5,TK,c,DR]<;>rfl
  rw[bJ h5];cases j:eV w v 1 with
  |none=>refine yM.step mb λd=>aY λn=>?_;unfold B178;simp(disch:=omega) [bf,mJ i.ref,j,iD,DR]<;>rfl|some o=>
   dsimp only
   let ⟨_,r,_⟩:=ec f i j
   by_cases m:o.N≠n0∨o.bg.length≠parts.length
   .rw[cn m];refine yM.step mb λd=>aY λn=>?_;unfold B178;by_cases C:o.N=n0
    .simp (disch:=omega) [bf,mJ i.ref,j,iD,DR]<;>rfl
    .simp (disch:=omega) [bf,mJ i.ref,j,iD,DR]<;>rfl
   .rw[bJ m];have l:=r.vals;have s:parts.length<=se parts:=aer parts;refine yM.step mb λd=>?_;have t:=NU (p:=p) (w:=w) (B:=U) (P:=Any) d parts o.bg [] [] [] (by omega) rfl (by grind)
      (λq x=>aeq parts (by omega) f q x) l (by grind) _ (λn e=>rfl)
    have y:∀n,B178 n (R178 n (n-d)) (w,⟨form,n0,text,parts⟩,v,())=ai (iter (λe=>au (aD e.2.1 (ax parts)) (aK (aC e.2.1 parts) (aK (aC e.2.1 o.bg) (ai (R178 n (n-d) (w,@aZ aG parts (ak e.2.1) aV,@aZ aj o.bg (ak e.2.1) aA,())) λg=>au (aq g.1.2.1) (Z (X () ([],J,())))
   (aK (dB e.1 g.1.1) (Z (N (cX e.1 g.1.1,aE .i64 e.2.1 1,()))))))) (Z (H 0 e))) n ([],0,())) λe=>bp e (λ_ h=>Z ((h.1,W,()),())) (λ_ h=>Z (h,())) λ_(_:Any)=>Y:=by intro n;unfold B178;simp(disch:=omega)only[bf,mJ i.ref,j,iD]<;>rfl
    refine Ev.fR y (Ev.aT t (λn e=>_) _ ?_);cases e8 w parts o.bg<;>exact bO
where
 aer:∀a:L aG,a.length<=se a
 |[]=>Ag _|⟨_,_,_,_⟩::a=>by unfold se pw;have:=aer a;grind
 aeq:∀(a:L aG),se a<=1000->∀(f:eE p w),∀q∈a,ahL p w q
 |[],_,_,_,h=>by cases h
 |q::a,z,f,A,h=>by
  unfold se at z;obtain h|h:=fy.1 h
  .rw[h];exact aiV q (by omega) f
  .exact aeq a (by omega) f A h
def art{q:aG}(a:pw q<=1000)(b:eE p w){v:aj}(c:ct p w.aJ.length v):Ev (λn=>F178 n (w,q,v,())) (DR (fZ w q v)):=aiV q a b v c 0
abbrev Z12:=L aB×L Int×L ef×L Int×Int×Int×Int×Int×Int×Int×Int×U
def flat(d:aF):Z12:=(d.1.1,d.1.2,d.1.3,d.1.4,d.1.5,d.2,d.3.1,d.3.2,d.3.3,d.3.4.1,d.3.4.2,())
theorem Ht{P:Type}(a:At w at_)(o:eE p w)(s:ct p w.aJ.length u)(hl:left.length<40){env:L aj}(x:env.length<=30){nd:bw}{z:Z12}
  (F:Nat->Int×Z12×U->O (LO (Int×Z12×U) U (Z12×U) P))
  (j:∀n c,F n c=au (aD c.1 (ax nd.cN)) (aK (aC c.1 nd.cN) (ai (F178 n (w,@aZ aG nd.cN (ak c.1) aV,u,())) λd=>au d.1.2.1 (aK (aC (aE .i64 1 c.1) nd.Kids) (aK (dB env d.1.1) (ai (F76 n (w,at_,left,aZ nd.Kids (ak (aE .i64 1 c.1)) 0,cX env d.1.1,())) λe=>Z (X (flat e.1.1,()) ()))))
   (Z (N (aE .i64 c.1 1,c.2))))) (Z (H 0 c))) :
  ∀(qs:L aG)(f:L Int)(pre:L aG)(b:L Int),nd.cN=pre++qs->nd.Kids=b++f->b.length=pre.length+1->f.length=qs.length->pre.length+qs.length<=1000->(∀q∈qs,pw q<=12)->
  fj F ((pre.length:Int),z,()) (.out 0 ((nd.cN.length:Int),z,()))∧jy w left env u qs f=.fail 3∨fj F ((pre.length:Int),z,()) (.ret (flat (dY w at_ (bK w at_) (jy w left env u qs f)),()) ())
 |[],f,pre,b,h1,h2,h3,h4,h5,h6=>by
  have g:nd.cN.length=pre.length:=by rw[h1];simp
  refine .inl ⟨?_,by cases f<;>rfl⟩;rw[g];refine .out (aY λn=>?_);rw[j];simp(disch:=omega) [bf]<;>rfl
 |q::qs,[],pre,b,h1,h2,h3,h4,h5,h6=>by simp at h4
 |q::qs,k::f,pre,b,h1,h2,h3,h4,h5,h6=>by
  simp only[qH]at h4 h5;have g:nd.cN.length=pre.length+(qs.length+1):=by rw[h1];simp
  have y:nd.Kids.length=b.length+(f.length+1):=by rw[h2];simp
  have A:nd.cN.getD pre.length aV=q:=by simp_all
  have B:nd.Kids.getD (pre.length+1) 0=k:=by simp_all
  have C:=h6 q fA;have i:=art (p:=p) (show pw q<=1000 by omega) o s;have E:(1+(pre.length:Int)).toNat=pre.length+1:=by omega
  have t:∀n,F n ((pre.length:Int),z,())=ai (F178 n (w,q,u,())) λd=>au d.1.2.1 (aK (aC (aE .i64 1 pre.length) nd.Kids) (aK (dB env d.1.1) (ai (F76 n (w,at_,left,aZ nd.Kids (ak (aE .i64 1 pre.length)) 0,cX env d.1.1,())) λe=>Z (X (flat e.1.1,()) ()))))
   (Z (N (aE .i64 pre.length 1,z,()))):=by
   intro n;rw[j];simp(disch:=omega)only[bf,A]<;>rfl
  unfold jy;cases l:fZ w q u with
  |none=>
   rw[l]at i;have I:=Ht (z:=z) a o s hl x F j qs f (pre++[q]) (b++[k]) (by rw[h1];simp) (by rw[h2];simp) (by simp;omega) (by omega) (by simp;omega) (λK h=>h6 K (iB _ h));have v:Ev (λn=>F n ((pre.length:Int),z,())) (.next (((pre++[q]).length:Int),z,())):=by refine Ev.fR t (Ev.ai i (aY λn=>?_));simp(disch:=omega)only[bf,DR,bF,ep,eu]<;>rfl
   obtain⟨R,S⟩|r:=I
   .exact .inl ⟨.next v R,S⟩
   .exact .inr (.next v r)
  |some m=>rw[l]at i;have hml:=qf q u m l;dsimp only;refine .inr (.ret ?_);refine Ev.fR t (Ev.ai i (aY λn=>?_));simp(disch:=omega)only[bf,DR,bF,E,B,e76 a (show left.length<=1000 by omega) (show(env++m).length<=1000 by grind)]<;>rfl
theorem arG{nd:bw}{env:L aj}(a:At w at_)(r:jk p)(f:eE p w)(g:ct p w.aJ.length u)(hl:left.length<40)(i:env.length<=30)(hn:RU p nd)(h:nd.Op=15) :
  Ev (λn=>F124 n (w,at_,left,nd,env,u,())) ((dY w at_ (bK w at_) (jy w left env u nd.cN (nd.Kids.drop 1)),()),()):=by
 let ⟨s,j⟩:=hn.mat h
 obtain⟨b,d⟩:∃b,nd.Kids=[b]++nd.Kids.drop 1:=by cases t:nd.Kids with|nil=>grind|cons a l=>exact⟨a,rfl⟩
 have k:=λ(P:Type)=>Ht (P:=P) (nd:=nd) (z:=([],[],[],[],0,0,0,0,0,0,0,())) a f g hl i _ (λn c=>rfl) nd.cN (nd.Kids.drop 1) [] [b] rfl d rfl (by grind) (by grind) (λq m=>(hn.pats q m).1)
 let ⟨a1,a2,a3,v⟩:=a
 obtain⟨e,o⟩|e:=k Any
 .rw[o];refine Ev.aT (F:=λn c=>_) e (λn c=>_) _ (aY λn=>?_);show TL.aK _ _=_;simp(disch:=omega)only[bf,dh,dY]<;>rfl
 .exact Ev.aT (F:=λn c=>_) e (λn c=>_) _ bO
end
end
section
section
variable {p:az}{w:af}{left:List av}{f:av}{at_:Int}{v u:aj}{form:Int}
abbrev D77(p:az)(w:af)(at_:Int)(left:L av)(f:av):Prop:=Ev (λn=>F77 n (p,w,at_,left,f,())) ((dY w at_ (bK w at_) (iS p w at_ left f),()),())
def d77(c:Cx p w left f)(a:At w at_):D77 p w at_ left f:=by
 have nd:=c.nd;have j:=c.hw;have m:=c.hp;have t:=c.hw.len;have o:=c.ll;have h1:=nd.lo;have h2:=nd.hi;have x:=c.hf.lo;have y:=c.hf.hi;have q:=c.hf.el;have z:=m.fl;have e:=a
 let ⟨a1,a2,a3,E⟩:=a
 have many:∀k:Int,(nodeAt p f.Node).Op=k->k≠14->k≠15->(nodeAt p f.Node).Kids.length=sN.getD k.toNat 0:=by intro k h A B;have:=nd.many (by omega) (by omega);rwa [h]at this
 obtain⟨k,b⟩:∃k:Nat,(nodeAt p f.Node).Op=k:=⟨_,(xH (by omega)).symm⟩;have r:1<=k:=by omega
 have s:k<=28:=by omega
 unfold D77 iS;simp only[b,Fl]
 match k,b,r,s with
 |1,b,_,_=>have b:(nodeAt p f.Node).Op=1:=b;refine aY λn=>?_;unfold F77 s5 uU ry mX mY jf lf cI;simp(disch:=omega)only[bf,bX,e25,dh,dY,fc]<;>rfl|2,b,_,_=>have b:(nodeAt p f.Node).Op=2:=b;refine aY λn=>?_;unfold F77 s5 uU ry mX mY jf lf cI;simp(disch:=omega)only[bf,bX,aeG,dh,dY,fc]<;>rfl|3,b,_,_=>have b:(nodeAt p f.Node).Op=3:=b;refine aY λn=>?_;unfold F77 s5 uU ry mX mY jf lf cI;simp(disch:=omega)only[bf,bX,TK,dh,dY,fc]<;>rfl|4,b,_,_=>
  have b:(nodeAt p f.Node).Op=4:=b;have F:=nd.name b;refine aY λn=>?_;unfold F77 DH s5 uU ry mX mY jf lf cI;simp only;by_cases h3:(nodeAt p f.Node).N<0
  .rw[cn h3];simp(disch:=omega)only[bf,bX,b,cZ,dh,dY,fc]<;>rfl
  .rw[bJ h3];by_cases h4:(f.Env.length:Int)<=(nodeAt p f.Node).N
   .rw[cn h4];simp(disch:=omega)only[bf,bX,dh,dY]<;>rfl
   .rw[bJ h4];simp(disch:=omega)only[bf,bX,b,dh,dY,fc]<;>rfl
 |5,b,_,_=>
  have b:(nodeAt p f.Node).Op=5:=b;refine aY λn=>?_;unfold F77 HQ Ma HR DH s5 uU ry mX mY jf lf cI jQ;simp only;by_cases h3:120<=w.aJ.length
  .rw[cn h3];simp(disch:=omega)only[bf,bX,dh,dY]<;>rfl
  .rw[bJ h3];simp(disch:=first|omega|simp only[lz];omega)only[bf,bX,b,dh,LF,cZ,qG,ep,eu,Qu,dY,fc]<;>rfl
 |6,b,_,_=>have b:(nodeAt p f.Node).Op=6:=b;have d:=c.vl b (by decide);simp[dS]at d;refine aY λn=>?_;unfold F77 hY iL cI;simp(disch:=omega)only[bf,bX,arH e m j (c.val (i:=0) (by omega)) (show left.length<=100 by omega)]<;>rfl
 |7,b,_,_=>have b:(nodeAt p f.Node).Op=7:=b;have d:=c.vl b (by decide);simp[dS]at d;have l:=many _ b (by decide) (by decide);have l:(nodeAt p f.Node).Kids.length=2:=l;refine aY λn=>?_;unfold F77 hY iL cI;simp(disch:=omega)only[bf,bX,b,e74,e76 e (show left.length<=1000 by omega) (show(f.Env++[bE f.bg 0]).length<=1000 by simp;omega)]<;>rfl
 |8,b,_,_=>
  have b:(nodeAt p f.Node).Op=8:=b;have d:=c.vl b (by decide);simp[dS]at d;have l:=many _ b (by decide) (by decide);have l:(nodeAt p f.Node).Kids.length=3:=l;refine aY λn=>?_;unfold F77 hY iL DH s5 uU ry mX mY jf lf cI;simp only;by_cases h3:(bE f.bg 0).Kind=2
  .have:=(c.val (i:=0) (by omega)).WW h3;rw[bJ (by omega)];simp(disch:=omega)only[bf,bX,b,cZ,e76 e (show left.length<=1000 by omega) (show f.Env.length<=1000 by omega)]<;>rfl
  .rw[cn h3];simp(disch:=omega)only[bf,bX,b,dh,dY]<;>rfl
 |9,b,_,_=>have d:=c.vl b (by decide);simp[dS]at d;refine aY λn=>?_;unfold F77 gZ hY iL cI;simp(disch:=omega)only[bf,bX,b,bN,ZO (left:=left) (op:=((9:Nat):Int)) e (by omega) (c.val (i:=0) (by omega)) (c.val (i:=1) (by omega))]<;>rfl
 |10,b,_,_=>have d:=c.vl b (by decide);simp[dS]at d;refine aY λn=>?_;unfold F77 gZ hY iL cI;simp(disch:=omega)only[bf,bX,b,bN,ZO (left:=left) (op:=((10:Nat):Int)) e (by omega) (c.val (i:=0) (by omega)) (c.val (i:=1) (by omega))]<;>rfl
 |11,b,_,_=>have d:=c.vl b (by decide);simp[dS]at d;refine aY λn=>?_;unfold F77 gZ hY iL cI;simp(disch:=omega)only[bf,bX,b,bN,ZO (left:=left) (op:=((11:Nat):Int)) e (by omega) (c.val (i:=0) (by omega)) (c.val (i:=1) (by omega))]<;>rfl
 |12,b,_,_=>have d:=c.vl b (by decide);simp[dS]at d;refine aY λn=>?_;unfold F77 gZ hY iL cI;simp(disch:=omega)only[bf,bX,b,bN,ZO (left:=left) (op:=((12:Nat):Int)) e (by omega) (c.val (i:=0) (by omega)) (c.val (i:=1) (by omega))]<;>rfl
 |13,b,_,_=>have d:=c.vl b (by decide);simp[dS]at d;refine aY λn=>?_;unfold F77 gZ hY iL cI;simp(disch:=omega)only[bf,bX,b,bN,ZO (left:=left) (op:=((13:Nat):Int)) e (by omega) (c.val (i:=0) (by omega)) (c.val (i:=1) (by omega))]<;>rfl
 |14,b,_,_=>
  have b:(nodeAt p f.Node).Op=14:=b;refine aY λn=>?_;have C:=Ax m nd;have u:=c.full;unfold jr at u;rw[cn (show(nodeAt p f.Node).Op=14 from b)]at u;unfold F77 HP gZ Ma HR DH s5 uU ry mX mY jf lf cI jQ;simp only;by_cases h3:120<=w.aJ.length
  .rw[cn h3];simp(disch:=omega)only[bf,bX,b,bN,dh,dY]<;>rfl
  .rw[bJ h3];simp(disch:=first|omega|simp only[lz];omega)only[bf,bX,b,bN,dh,LF,cZ,qG,ep,eu,Qu,dY,fc]<;>rfl
 |15,b,_,_=>have d:=c.vl b (by decide);simp[dS]at d;unfold F77 gZ hY iL cI;simp(disch:=omega)only[bf,bX,b,bN];exact Ev.ai (arG e m j (c.val (i:=0) (by omega)) o q nd b) (Ev.pure _)
 |16,b,_,_=>have b:(nodeAt p f.Node).Op=16:=b;have d:=c.vl b (by decide);simp[dS]at d;refine aY λn=>?_;unfold F77 zA gZ cI;simp(disch:=omega)only[bf,bX,b,bN,V7 e j (show 0<f.bg.length by omega)]<;>rfl
 |17,b,_,_=>have b:(nodeAt p f.Node).Op=17:=b;have d:=c.vl b (by decide);simp[dS]at d;refine aY λn=>?_;unfold F77 zA gZ cI;simp(disch:=omega)only[bf,bX,b,bN,ZN e j (show 0<f.bg.length by omega) (c.val (i:=0) (by omega))]<;>rfl
 |18,b,_,_=>have b:(nodeAt p f.Node).Op=18:=b;have d:=c.vl b (by decide);simp[dS]at d;refine aY λn=>?_;unfold F77 zA gZ cI;simp(disch:=omega)only[bf,bX,b,bN,ZM e j (show 1<f.bg.length by omega) (c.val (i:=0) (by omega))]<;>rfl
 |19,b,_,_=>have b:(nodeAt p f.Node).Op=19:=b;have d:=c.vl b (by decide);simp[dS]at d;refine aY λn=>?_;unfold F77 gZ hY iL cI;simp(disch:=omega)only[bf,bX,b,bN,arE e m j (c.val (i:=0) (by omega))]<;>rfl
 |20,b,_,_=>have b:(nodeAt p f.Node).Op=20:=b;have d:=c.vl b (by decide);simp[dS]at d;refine aY λn=>?_;unfold F77 gZ hY iL cI;simp(disch:=omega)only[bf,bX,b,bN,arD e j (c.val (i:=0) (by omega))]<;>rfl
 |21,b,_,_=>
  have b:(nodeAt p f.Node).Op=21:=b;refine aY λn=>?_;unfold F77 HO gZ HR DH s5 uU ry mX mY jf lf cI jQ;simp only;by_cases h3:120<=w.aJ.length
  .rw[cn h3];simp(disch:=omega)only[bf,bX,bN,dh,TK,xQ,ku,dY]<;>rfl
  .rw[bJ h3];simp(disch:=first|omega|simp only[lz];omega)only[bf,bX,b,bN,dh,TK,LF,cZ,qG,ep,eu,Qu,xQ,Int.reduceEq,ij,dY,fc]<;>rfl
 |22,b,_,_=>have b:(nodeAt p f.Node).Op=22:=b;have d:=c.vl b (by decide);simp[dS]at d;refine aY λn=>?_;unfold F77 zA gZ cI;simp(disch:=omega)only[bf,bX,b,bN,V6 e j (show 1<f.bg.length by omega) (c.val (i:=0) (by omega))]<;>rfl
 |23,b,_,_=>have b:(nodeAt p f.Node).Op=23:=b;have d:=c.vl b (by decide);simp[dS]at d;refine aY λn=>?_;unfold F77 zA gZ cI;simp(disch:=omega)only[bf,bX,b,bN,V5 e j (show 0<f.bg.length by omega) (c.val (i:=0) (by omega))]<;>rfl
 |24,b,_,_=>have b:(nodeAt p f.Node).Op=24:=b;have d:=c.vl b (by decide);simp[dS]at d;refine aY λn=>?_;unfold F77 gZ cI;simp(disch:=omega)only[bf,bX,bN,ZL e j b (show 0<f.bg.length by omega)]<;>rfl
 |25,b,_,_=>have b:(nodeAt p f.Node).Op=25:=b;refine aY λn=>?_;unfold F77 gZ cI;simp(disch:=omega)only[bf,bX,bN,adt e j b]<;>rfl|26,b,_,_=>have b:(nodeAt p f.Node).Op=26:=b;have d:=c.vl b (by decide);simp[dS]at d;refine aY λn=>?_;unfold F77 gZ hY iL DH s5 uU ry mX mY jf lf cI;simp(disch:=omega)only[bf,bX,b,bN,dh,dY,fc]<;>rfl
 |27,b,_,_=>have l:=many _ b (by decide) (by decide);have l:(nodeAt p f.Node).Kids.length=1:=l;unfold F77 gZ cI;simp(disch:=omega)only[bf,bX,b,bN];exact Ev.ai (arF e j o (λg v=>⟨(c.left g v).1.lo,(c.left g v).1.hi⟩) (by omega)) (Ev.pure _)
 |28,b,_,_=>have b:(nodeAt p f.Node).Op=28:=b;refine aY λn=>?_;unfold F77 gZ s5 uU ry mX mY jf lf cI;simp(disch:=omega)only[bf,bX,b,bN,dh,TK,xQ,Int.reduceEq,ij,dY]<;>rfl|k+29,b,_,h=>omega
def Ch(w:af):O (af×O aN)->aF
 |none=>⟨w,2,br⟩|some (a,Y)=>⟨a,0,br⟩|some (a,Z e)=>⟨a,1,e⟩
def W9{l:L av}{g x:av}:(l++[g]).set l.length x=l++[x]:=by
 simp_all
theorem d40(z:jk p)(o:eE p w)(A:0<=at_)(h1:at_<w.aM.length):Ev (λn=>F40 n (p,w,at_,())) ((Ch w (eW p w at_),()),()):=by
 let ⟨t1,t2,t3⟩:=o.task _ (cg 0 (show at_.toNat<w.aM.length by omega))
 have q:=o.ob t1 t2;change 0<=bK w at_ at t1;change bK w at_<_ at t2;change(bI w (bK w at_)).Form=6 at t3;change gu p _ (bI w (bK w at_))at q;have i:mc (p,w,at_,())=(bK w at_).toNat:=rfl;have C:Ui (p,w,at_,())=aC (bK w at_) w.aJ:=rfl;unfold eW F40 Uh s6;simp only[C];by_cases r:(bI w (bK w at_)).N=0
 .rw[bJ (by omega)];by_cases d:(bI w (bK w at_)).Frames=[]
  .rw[cn d]
   let ⟨v,j,t⟩:=He q t3 r d
   have m:uV (p,w,at_,())=-1:=by unfold uV;simp[i];simp only[bf,bX,d];rfl
   refine aY λn=>?_;simp(disch:=first|omega|simp only[lz];omega)only[bf,i,bX,j,e73,List.getD_cons_zero]<;>rfl
  .rw[bJ d];obtain⟨l,g,a⟩:∃l g,(bI w (bK w at_)).Frames=l++[g]:=⟨_,_,pG d⟩
   let ⟨h,E,u,x⟩:=sK q t3 r a
   have b:=z.nd h.lo h.hi;have k:(l++[g]).length-1=l.length:=by simp
   have f:(l++[g]).take l.length=l:=List.take_left;have dm:(l++[g]).getD l.length aH=g:=j7 ..;have m:uV (p,w,at_,())=(l.length:Int):=by unfold uV;simp[i];simp(disch:=omega)only[bf,bX,a,cZ];omega
   have F:=h.lo;have I:=h.hi;have K:g.bg.length<=1000:=by
    have h1:=h.vl;have h2:=pK b
    grind[Ax]
   unfold JK;simp only[a,k,f,dm];obtain j|⟨v,j,t,P⟩:=x
   .by_cases B:(g.bg.length:Int)<jr (nodeAt p g.Node)
    .rw[cn B];have:=pK b;have y:=λn=>e76 (n:=n) (w:=w) (at_:=at_) (left:=l++[g]) (node:=(nodeAt p g.Node).Kids.getD g.bg.length 0) (env:=g.Env) ⟨A,h1,t1,t2⟩ (by simp;omega) (by have:=h.el;omega);refine aY λn=>?_;simp(disch:=first|omega|simp only[lz];omega)only[bf,i,m,bX,a,j,dm,e75 _ b.lo b.hi,y];unfold hG;split<;>rfl
    .rw[bJ B];have c:Cx p w l g:=⟨z,o,h,by have:=h.vl;omega,u,E⟩;have R:=d77 c ⟨A,h1,t1,t2⟩;simp(disch:=first|omega|simp only[lz];omega)only[bf,i,m,bX,a,j,dm,e75 _ b.lo b.hi,oK,f];refine Ev.ai R ?_;cases iS p w at_ l g with|waits=>exact Ev.pure _|fail s=>exact Ev.pure _|go S fr bk e=>cases e<;>exact Ev.pure _
   .simp[j];refine aY λn=>?_;simp(disch:=first|omega|simp only[lz];omega)only[bf,i,m,bX,a,j,dm,List.getD_cons_zero,e74,W9]<;>rfl
 .rw[cn r];refine aY λn=>?_;simp(disch:=omega)only[bf,i,bX]<;>rfl
end
end
section
def tC(p:az)(at_:Int):Nat->af->Nat->O (af×Nat)
 |0,_,_=>Y|k+1,w,s=>match eW p w at_ with
  |some (a,Y)=>if 5000<s+1 then Y else tC p at_ k a (s+1)|_=>Z (w,s)
def cW(p:az):Nat->Nat->af->Nat->O (af×Nat)
 |0,_,w,s=>Z (w,s)|m+1,i,w,s=>match tC p i 5002 w s with
  |none=>Y|some (a,b)=>cW p m (i+1) a b
section
variable {p:az}{w:af}{at_:Int}
theorem tB(g:jk p):∀(k:Nat)(w:af)(s:Nat)(w':af)(s':Nat),eE p w->0<=at_->at_<w.aM.length->tC p at_ k w s=Z (w',s')->eE p w'∧w'.aM=w.aM∧s<=s'∧(s'<=s∨s'<=5000)
 |0,w,s,w',s',i,f,h1,h=>by cases h
 |k+1,w,s,w',s',i,f,h1,h=>by
  unfold tC at h;cases j:eW p w at_ with
  |none=>simp_all|some r=>
   let ⟨l,e⟩:=r
   rw[j]at h;cases e with
   |some e=>simp_all|none=>
    let ⟨m,n,o⟩:=jW g i f h1 j
    simp only at h;split at h
    .cases h
    .rename_i h5
     let ⟨a,b,c,d⟩:=tB g k l (s+1) w' s' m f (by grind) h
     grind
theorem E1(e:jk p):∀(m i:Nat)(w:af)(s:Nat)(w':af)(s':Nat),eE p w->i+m<=w.aM.length->cW p m i w s=Z (w',s')->eE p w'∧w'.aM=w.aM∧s<=s'∧(s'<=s∨s'<=5000)
 |0,i,w,s,w',s',f,k,h=>by cases h;simp_all
 |m+1,i,w,s,w',s',f,k,h=>by
  unfold cW at h;split at h
  .cases h
  .rename_i g j l
   let ⟨a,b,c,d⟩:=tB e _ w s g j f (by omega) (by omega) l
   let ⟨n,o,q,r⟩:=E1 e m (i+1) g j w' s' a (by rw[b];omega) h
   grind
theorem M1(j:jk p)(F:Nat->Int×RB×U->O (LO (Int×RB×U) (Int×Bool×U) (RB×U) Any))
  (h:∀n d,F n d=ai (F70 n (d.2.1,at_,())) λe=>ai (F71 n e.1) λg=>au (aq (aa g.1.1 0)) (Z (H 0 d)) (au (aD 5000 (aE .i64 d.1 1)) (Z (X d.2 (0,J,()))) (Z (N (aE .i64 d.1 1,e.2))))) :
  ∀(k:Nat)(w:af)(s:Nat),eE p w->0<=at_->at_<w.aM.length->s<=5001->5002<=k+s->
  (∃w' s',tC p at_ k w s=Z (w',s')∧fj F ((s:Int),rb p w,()) (.out 0 ((s':Int),rb p w',())))∨
  (tC p at_ k w s=Y∧∃R,fj F ((s:Int),rb p w,()) (.ret R (0,J,())))
 |0,w,s,l,i,h1,q,t=>by omega
 |k+1,w,s,l,i,h1,q,t=>by
  have f:=e70 j l i h1;unfold tC;cases c:eW p w at_ with
  |none=>rw[c]at f;refine .inl ⟨w,s,rfl,.out ?_⟩;refine Ev.fR (λn=>h n _) (Ev.ai f (aY λn=>?_));simp(disch:=omega) [bf,MV,akP]<;>rfl|some r=>
   let ⟨m,e⟩:=r
   rw[c]at f;cases e with
   |some e=>refine .inl ⟨w,s,rfl,.out ?_⟩;refine Ev.fR (λn=>h n _) (Ev.ai f (aY λn=>?_));simp(disch:=omega) [bf,MV,ado]<;>rfl|none=>
    let ⟨u,v,x⟩:=jW j l i h1 c
    simp only;by_cases h5:5000<s+1
    .rw[cn h5];refine .inr ⟨rfl,(rb p w,()),.ret ?_⟩;refine Ev.fR (λn=>h n _) (Ev.ai f (aY λn=>?_));simp(disch:=omega) [bf,MV,ado,bF]<;>rfl
    .rw[bJ h5];have o:Ev (λn=>F n ((s:Int),rb p w,())) (.next (((s+1:Nat):Int),rb p m,())):=by refine Ev.fR (λn=>h n _) (Ev.ai f (aY λn=>?_));simp(disch:=omega) [bf,MV,ado,bF,ep,eu]<;>rfl
     obtain⟨w',s',a,b⟩|⟨a,R,b⟩:=M1 j F h k m (s+1) u i (by grind) (by omega) (by omega)
     .exact .inl ⟨w',s',a,.next o b⟩
     .exact .inr ⟨a,R,.next o b⟩
theorem dD{X R B P α:Type}(j:Nat)(x:X)(f:Nat->X->O α)(g:B->R->O α)(h:B->P->O α):bp (.out j x) f g h=f j x:=rfl
theorem wh{X R B P α:Type}(b:B)(r:R)(f:Nat->X->O α)(g:B->R->O α)(h:B->P->O α):bp (.ret b r) f g h=g b r:=rfl
theorem YE{X R B P α:Type}(b:B)(r:R)(e:X->O α)(f:Nat->X->O α)(g:B->R->O α)(h:B->P->O α):ck (.ret b r) e f g h=g b r:=rfl
theorem CM(j:jk p){N0:Nat}(F:Nat->Int×Int×RB×U->O (LO (Int×Int×RB×U) (Int×Bool×U) (RB×U) Any))
  (h:∀n c,F n c=au (aD c.2.1 (N0:Int)) (ai (iter (λd:Int×RB×U=>ai (F70 n (d.2.1,c.2.1,())) λe=>ai (F71 n e.1) λg=>au (aq (aa g.1.1 0)) (Z (H 0 d)) (au (aD 5000 (aE .i64 d.1 1)) (Z (X (P:=Any) d.2 (0,J,()))) (Z (N (aE .i64 d.1 1,e.2))))) n (c.1,c.2.2)) λd=>bp d (λ_ g=>Z (N (g.1,aE .i64 c.2.1 1,g.2))) (λe g=>Z (X e g)) λ_ _=>Y) (Z (H 0 c))) :
  ∀(m i:Nat)(w:af)(s:Nat),eE p w->i+m=N0->N0=w.aM.length->s<=5001->
  (∃w' s',cW p m i w s=Z (w',s')∧fj F ((s:Int),(i:Int),rb p w,()) (.out 0 ((s':Int),(N0:Int),rb p w',())))∨
  (cW p m i w s=Y∧∃R,fj F ((s:Int),(i:Int),rb p w,()) (.ret R (0,J,())))
 |0,i,w,s,f,r,t,o=>by
  refine .inl ⟨w,s,rfl,?_⟩;have:i=N0:=by omega
  subst this;refine .out (aY λn=>?_);rw[h];simp(disch:=omega) [bf]<;>rfl
 |m+1,i,w,s,f,r,t,o=>by
  have z:=f.tl;have u:=f.len;unfold cW;obtain⟨k,l,a,b⟩|⟨a,R,b⟩:=M1 (at_:=(i:Int)) j _ (λn d=>rfl) 5002 w s f (by omega) (by omega) o (by omega)
  .rw[a]
   let ⟨v,A,B,C⟩:=tB j _ w s k l f (by omega) (by omega) a
   have q:Ev (λn=>F n ((s:Int),(i:Int),rb p w,())) (.next ((l:Int),((i+1:Nat):Int),rb p k,())):=by refine Ev.fR (λn=>(h n _).trans (n7 (by grind) _ _)) ?_;refine Ev.aT b (λn c=>_) _ (aY λn=>?_);rw[dD];simp(disch:=omega) [bF,ep,eu]
   obtain⟨w',s',x,y⟩|⟨x,R,y⟩:=CM j F h m (i+1) k l v (by omega) (by grind) (by omega)
   .exact .inl ⟨w',s',x,.next q y⟩
   .exact .inr ⟨x,R,.next q y⟩
  .rw[a];refine .inr ⟨rfl,R,.ret ?_⟩;refine Ev.fR (λn=>(h n _).trans (n7 (by grind) _ _)) ?_;refine Ev.aT b (λn c=>_) _ (aY λn=>?_);rw[wh]
variable {s:Nat}
def e50(d:jk p)(e:eE p w)(hs:s<=5001) :
  (∃w' s',cW p w.aM.length 0 w s=Z (w',s')∧Ev (λn=>F50 n (rb p w,(s:Int),())) (((s':Int),W,()),rb p w',()))∨
  (cW p w.aM.length 0 w s=Y∧∃R,Ev (λn=>F50 n (rb p w,(s:Int),())) ((0,J,()),R)):=by
 obtain⟨w',s',a,b⟩|⟨a,R,b⟩:=CM d (N0:=w.aM.length) _ (λn c=>rfl) w.aM.length 0 w s e (by omega) rfl hs
 .exact .inl ⟨w',s',a,Ev.aT (F:=λn c=>_) b (λn c=>_) _ bO⟩
 .exact .inr ⟨a,R,Ev.aT (F:=λn c=>_) b (λn c=>_) _ bO⟩
abbrev Z5:=L aB×L Int×L ef×L Int×Int×U
abbrev w5(w:af):Z5:=(w.aJ,w.aM,w.ei,w.lK,w.Used,())
theorem ON(h:jk p){z:Z5}(F:Nat->Int×Z5×Z5×Z12×U->O (LO (Int×Z5×Z5×Z12×U) (Int×Bool×U) (Z5×Z5×Z12×U) Any))
  (d:∀n e,F n e=au (aa e.2.2.2.1.2.2.2.2.2.1 0) (au (aD 5000 (aE .i64 e.1 1)) (Z (X (e.2.1,e.2.1,e.2.2.2) (aE .i64 e.1 1,J,()))) (ai (F40 n (p,af.mk e.2.2.2.1.1 e.2.2.2.1.2.1 e.2.2.2.1.2.2.1 e.2.2.2.1.2.2.2.1 e.2.2.2.1.2.2.2.2.1,at_,())) λg=>Z (N (aE .i64 e.1 1,(e.2.2.2.1.1,e.2.2.2.1.2.1,e.2.2.2.1.2.2.1,e.2.2.2.1.2.2.2.1,e.2.2.2.1.2.2.2.2.1,()),e.2.2.1,Kk g)))) (Z (H 0 e))) :
  ∀(k:Nat)(w:af)(s:Nat),eE p w->0<=at_->at_<w.aM.length->s<=5001->5002<=k+s->
  (∃w' s' q,tC p at_ k w s=Z (w',s')∧fj F ((s:Int),w5 w,z,flat (Ch w (eW p w at_)),()) (.out 0 ((s':Int),w5 w',z,q,())))∨
  (tC p at_ k w s=Y∧∃R s',fj F ((s:Int),w5 w,z,flat (Ch w (eW p w at_)),()) (.ret R (s',J,())))
 |0,w,s,j,f,h1,o,t=>by omega
 |k+1,w,s,j,f,h1,o,t=>by
  unfold tC;cases i:eW p w at_ with
  |none=>refine .inl ⟨w,s,flat (Ch w Y),rfl,.out (aY λn=>?_)⟩;rw[d];simp(disch:=omega) [bf,flat,Ch]<;>rfl|some r=>
   let ⟨c,e⟩:=r
   cases e with
   |some e=>refine .inl ⟨w,s,flat (Ch w (Z (c,Z e))),rfl,.out (aY λn=>?_)⟩;rw[d];simp(disch:=omega) [bf,flat,Ch]<;>rfl|none=>
    let ⟨l,v,x⟩:=jW h j f h1 i
    simp only;by_cases h5:5000<s+1
    .rw[cn h5];refine .inr ⟨rfl,(w5 w,w5 w,flat (Ch w (Z (c,Y))),()),((s+1:Nat):Int),.ret (aY λn=>?_)⟩;rw[d];simp(disch:=omega) [bf,flat,Ch,bF,ep,eu]<;>rfl
    .rw[bJ h5];have u:=d40 h l f (show at_<c.aM.length by grind);have m:Ev (λn=>F n ((s:Int),w5 w,z,flat (Ch w (Z (c,Y))),())) (.next (((s+1:Nat):Int),w5 c,z,flat (Ch c (eW p c at_)),())):=by
      refine Ev.fR (g:=λn=>ai (F40 n (p,c,at_,())) λg=>Z (N ((s:Int)+1,w5 c,z,Kk g))) (λn=>?_) (Ev.ai u (aY λn=>?_))
      .rw[d];simp(disch:=omega) [bf,flat,Ch,bF]<;>rfl
      rfl
     obtain⟨w',s',q,a,b⟩|⟨a,R,s',b⟩:=ON h F d k c (s+1) l f (by grind) (by omega) (by omega)
     .exact .inl ⟨w',s',q,a,.next m b⟩
     .exact .inr ⟨a,R,s',.next m b⟩
theorem JW(k:jk p){N0:Nat}{z:Z5}(F:Nat->Int×Int×Z5×Z5×U->O (LO (Int×Int×Z5×Z5×U) (Int×Bool×U) (Z5×Z5×U) Any))
  (l:∀n c,F n c=au (aD c.2.1 (ax c.2.2.1.2.1)) (ai (F40 n (p,aaN c,c.2.1,())) λd=>ai (iter (λe:Int×Z5×Z5×Z12×U=>au (aa e.2.2.2.1.2.2.2.2.2.1 0) (au (aD 5000 (aE .i64 e.1 1)) (Z (X (P:=Any) (e.2.1,e.2.1,e.2.2.2) (aE .i64 e.1 1,J,()))) (ai (F40 n (p,af.mk e.2.2.2.1.1 e.2.2.2.1.2.1 e.2.2.2.1.2.2.1 e.2.2.2.1.2.2.2.1 e.2.2.2.1.2.2.2.2.1,c.2.1,())) λg=>Z (N (aE .i64 e.1 1,(e.2.2.2.1.1,e.2.2.2.1.2.1,e.2.2.2.1.2.2.1,e.2.2.2.1.2.2.2.1,e.2.2.2.1.2.2.2.2.1,()),e.2.2.1,Kk g)))) (Z (H 0 e))) n (c.1,c.2.2.1,c.2.2.2.1,Kk d)) λe=>bp e (λ_ h=>Z (N (h.1,aE .i64 c.2.1 1,h.2.1,h.2.2.1,()))) (λg h=>Z (X (g.1,g.2.1,()) h)) λ_ _=>Y) (Z (H 0 c))) :
  ∀(m i:Nat)(w:af)(s:Nat),eE p w->i+m=N0->N0=w.aM.length->s<=5001->
  (∃w' s',cW p m i w s=Z (w',s')∧fj F ((s:Int),(i:Int),w5 w,z,()) (.out 0 ((s':Int),(N0:Int),w5 w',z,())))∨
  (cW p m i w s=Y∧∃R s',fj F ((s:Int),(i:Int),w5 w,z,()) (.ret R (s',J,())))
 |0,i,w,s,f,v,A,r=>by
  refine .inl ⟨w,s,rfl,?_⟩;have:i=N0:=by omega
  subst this;refine .out (aY λn=>?_);rw[l];simp(disch:=omega) [bf]<;>rfl
 |m+1,i,w,s,f,v,A,r=>by
  have E:=f.tl;have B:=f.len;have t:=d40 (at_:=(i:Int)) k f (by omega) (by omega);unfold cW;obtain⟨o,j,q,a,b⟩|⟨a,R,j,b⟩:=ON (at_:=(i:Int)) (z:=z) k _ (λn d=>rfl) 5002 w s f (by omega) (by omega) r (by omega)
  .rw[a]
   let ⟨C,I,K,S⟩:=tB k _ w s o j f (by omega) (by omega) a
   have u:Ev (λn=>F n ((s:Int),(i:Int),w5 w,z,())) (.next ((j:Int),((i+1:Nat):Int),w5 o,z,())):=by refine Ev.fR (λn=>(l n _).trans (n7 (by simp only[ax];omega) _ _)) ?_;refine Ev.ai t ?_;refine Ev.aT b (λn c=>_) _ (aY λn=>?_);rw[dD];simp(disch:=omega) [bF,ep,eu]
   obtain⟨w',s',x,y⟩|⟨x,R,s',y⟩:=JW (N0:=N0) (z:=z) k F l m (i+1) o j C (by omega) (by grind) (by omega)
   .exact .inl ⟨w',s',x,.next u y⟩
   .exact .inr ⟨x,R,s',.next u y⟩
  .rw[a];refine .inr ⟨rfl,(R.1,R.2.1,()),j,.ret ?_⟩;refine Ev.fR (λn=>(l n _).trans (n7 (by simp only[ax];omega) _ _)) ?_;refine Ev.ai t ?_;refine Ev.aT b (λn c=>_) _ (aY λn=>?_);rw[wh]
def e33(d:jk p)(e:eE p w)(hs:s<=5001) :
  (∃w' s',cW p w.aM.length 0 w s=Z (w',s')∧Ev (λn=>F33 n (p,w,(s:Int),())) ((w',(s':Int),W,()),()))∨
  (cW p w.aM.length 0 w s=Y∧∃w' s',Ev (λn=>F33 n (p,w,(s:Int),())) ((w',s',J,()),())):=by
 obtain⟨w',s',a,b⟩|⟨a,R,s',b⟩:=JW d (N0:=w.aM.length) (z:=([],[],[],[],0,())) _ (λn c=>rfl) w.aM.length 0 w s e (by omega) rfl hs
 .exact .inl ⟨w',s',a,Ev.aT (F:=λn c=>_) b (λn c=>_) _ bO⟩
 .exact .inr ⟨a,_,s',Ev.aT (F:=λn c=>_) b (λn c=>_) _ bO⟩
end
end
section
section
variable {n:Nat}{p:az}{w:af}{at_:Int}
theorem e49(l:L Int):F49 n (l,())=Z ((l,()),()):=rfl
theorem e90(l:L ef):F90 n (l,())=Z ((l,()),()):=rfl
theorem e92(k:Int):F92 n (k,())=Z ((k,()),()):=rfl
def E2{α:Type}{l:L α}{i:Nat}{d x:α}(h:i<l.length)(a:x=l.getD i d):l.set i x=l:=by
 simp_all
theorem aq9(v:av):av.mk v.Node v.Env v.bg=v:=rfl
def Ci{l:L aj}(hl:l.length<=1000):Ev (λn=>wM n ((l,()),())) (.out 0 (l,(l.length:Int),())):=by
 refine Ev.iter (F:=λn c=>_) (gn (s:=λi=>(l,(i:Int),())) l.length 0 (λi a=>aY λn=>?_) (aY λn=>?_))
 .by_cases h5:(l.getD i aA).Kind=5
  .simp (disch:=omega)only[bf,h5,e92,bF,ep,eu];rw[E2 a (by rw[<-h5])]
  .simp (disch:=omega)only[bf,bF,ep,eu]<;>rfl
 simp_all[bf]
def OQ{l:L av}{a b:Int}{vs:L aj}(hl:l.length<=1000)(hf:∀g∈l,g.Env.length<=1000∧g.bg.length<=1000)(F:Nat->Int×(Int×Int×L aj×L av×U)×U->O (LO (Int×(Int×Int×L aj×L av×U)×U) U ((Int×Int×L aj×L av×U)×U) Any))
  (e:∀n m,F n m=au (aD m.1 (ax l)) (aK (aC m.1 m.2.1.2.2.2.1) (aK (cJ (ak m.1) m.2.1.2.2.2.1) (ai (F159 n ((yI m).2,())) λo=>ai (wM n o) λp=>bp p (λ_ r=>Ug n m r) (λ_ r=>Uf n m r) λ_ _=>Y))) (Z (H 0 m))) :
  fj F (0,(a,b,vs,l,()),()) (.out 0 ((l.length:Int),(a,b,vs,l,()),())):=by
 refine gn (s:=λi=>((i:Int),(a,b,vs,l,()),())) l.length 0 (λi c=>?_) (aY λn=>?_)
 .have d:=hf _ (cg aH c);refine Ev.fR (g:=λn=>ai (wM n (((l.getD i aH).Env,()),())) λp=>bp p (λ_ r=>Ug n ((i:Int),(a,b,vs,l,()),()) r) (λ_ r=>Uf n ((i:Int),(a,b,vs,l,()),()) r) λ_ _=>Y) (λn=>?_) ?_
  .rw[e];simp(disch:=omega)only[bf]<;>rfl
  .refine Ev.ai (Ci d.1) ?_;refine Ev.fR (g:=λn=>ai (wM n (((l.getD i aH).bg,()),())) λt=>bp t (λ_ v=>aaJ n ((i:Int),(a,b,vs,l,()),()) ((l.getD i aH).Env,((l.getD i aH).Env.length:Int),()) v) (λ_ v=>aeV n ((i:Int),(a,b,vs,l,()),()) ((l.getD i aH).Env,((l.getD i aH).Env.length:Int),()) v) λ_ _=>Y) (λn=>rfl) ?_;refine Ev.ai (Ci d.2) (aY λn=>?_);rw[dD];unfold aaJ yI;simp(disch:=omega)only[bf,bF,ep,eu,aq9];rw[E2 c rfl]
 simp_all[bf]
theorem gu.small(j:jk p){k:Nat}{o:aB}(h:gu p k o):o.bg.length<=1000∧o.Frames.length<=1000∧∀g∈o.Frames,g.Env.length<=1000∧g.bg.length<=1000:=by
 have l:∀{g:av},eG p k g->g.Env.length<=1000∧g.bg.length<=1000:=by intro g i;have h1:=i.vl;have f:=j.nd i.lo i.hi;have h2:=pK f;have h3:=Ax j f;have:=i.el;omega
 cases h with
 | @data n m a b c d=>
  have:=(j.cons _ (cg bM (show n.toNat<p.Cons.length by omega))).2
  grind
 |func a b c d e=>grind|cell a=>simp_all|chan a b=>grind|vS a b c=>grind|rP a b c=>
  grind
 |back a b c=>grind|done a=>simp_all|dead a=>simp_all
theorem take_succ{α:Type}{l:L α}{i:Nat}(d:α)(h:i<l.length):l.take i++[l.getD i d]=l.take (i+1):=by
 simp_all
theorem aq8(o:aB):aB.mk o.Form o.N o.bg o.Frames=o:=rfl
def e51(e:jk p)(c:eE p w):Ev (λn=>F51 n (rb p w,())) ((w,()),rb p w,()):=by
 have o:=c.len;have f:fj (λn g=>au (aD g.1 (ax w.aJ)) (aK (aC g.1 w.aJ) (ai (F159 n ((Bo (rb p w,()) g).3,())) λh=>ai (wM n h) λi=>bp i (λ_ k=>Mc n (rb p w,()) g k) (λ_ k=>RY n (rb p w,()) g k) λ_ _=>Y)) (Z (H 0 g)))
   (0,([],w.aM,w.ei,w.lK,w.Used,()),()) (.out 0 ((w.aJ.length:Int),(w.aJ.take w.aJ.length,w.aM,w.ei,w.lK,w.Used,()),())):=by
  refine gn (s:=λi=>((i:Int),(w.aJ.take i,w.aM,w.ei,w.lK,w.Used,()),())) w.aJ.length 0 (λi d=>?_) (aY λn=>?_)
  .have j:=(c.obs _ (cg aO d)).small e
   let ⟨h1,h2,h3⟩:=j
   refine Ev.fR (g:=λn=>ai (wM n (((w.aJ.getD i aO).bg,()),())) λk=>bp k (λ_ k=>Mc n (rb p w,()) ((i:Int),(w.aJ.take i,w.aM,w.ei,w.lK,w.Used,()),()) k) (λ_ k=>RY n (rb p w,()) ((i:Int),(w.aJ.take i,w.aM,w.ei,w.lK,w.Used,()),()) k) λ_ _=>Y) (λn=>?_) ?_
   .simp (disch:=omega)only[bf]<;>rfl
   .refine Ev.ai (Ci h1) ?_;refine Ev.fR (λn=>dD ..) ?_;unfold Mc;have l:Bo (rb p w,()) ((i:Int),(w.aJ.take i,w.aM,w.ei,w.lK,w.Used,()),())=w.aJ.getD i aO:=rfl;simp only[l];refine Ev.ai (aY λn=>ZK (w.aJ.getD i aO).Frames) ?_;refine Ev.aT (OQ (a:=(w.aJ.getD i aO).Form) (b:=(w.aJ.getD i aO).N) (vs:=(w.aJ.getD i aO).bg) h2 h3 _ (λn m=>rfl)) (λn m=>_) _ (aY λn=>?_);rw[dD];simp(disch:=first|omega|simp only[lz];omega)only[bf,bF,ep,eu,aq8];rw[take_succ aO d]
  simp_all[bf]
 refine Ev.ai (aY λn=>e49 w.aM) (Ev.ai (aY λn=>e90 w.ei) (Ev.ai (aY λn=>e49 w.lK) ?_));refine Ev.aT f (λn m=>_) _ (aY λn=>?_)
 simp_all[dD]
end
end
section
theorem Qy:∀q:aG,1<=pw q
 |⟨_,_,_,_⟩=>by unfold pw;omega
theorem Ah:∀qs:L aG,qs.length<=se qs
 |[]=>Ag _|q::qs=>by unfold se;have:=Ah qs;grind[Qy]
def jR(left:Int)(k:Nat):Int:=if left<0 then -1 else if(k:Int)<=left then left-k else -1
theorem JD{left:Int}{k:Nat}(h:left<0):jR left k=-1:=cn h
theorem sM{left:Int}{k:Nat}(h:(k:Int)<=left):jR left k=left-k:=by unfold jR;rw[bJ (by omega),cn h]
theorem vO{left:Int}{k:Nat}(h:left<(k:Int)):jR left k=-1:=by
 simp_all[jR,bJ]
theorem Yw{left:Int}{a:Nat}(b:1<=a)(h:0<=left):jR left a<=left-1∧-1<=jR left a:=by
 grind[sM,vO]
theorem JE{left:Int}{a b:Nat}:jR (jR left a) b=jR left (a+b):=by
 grind[sM,vO]
theorem QU{left:Int}(h:-1<=left):jR left 0=left:=by
 grind[JD,sM]
theorem aaw(n k:Nat):R83 n (k+1)=B83 n (R83 n k):=rfl
def RP(q:aG):Prop:=∀left:Int,-1<=left->left<=1000->yM R83 (q,left,()) ((jR left (pw q),()),())
def EK{P:Type}(d:Nat):∀(qs pre:L aG)(left:Int),-1<=left->(pre.length:Int)+left<=1000->(∀q∈qs,RP q)->
  ∀F:Nat->Int×Int×U->O (LO (Int×Int×U) (Int×U) U P),
  (∀n b,F n b=au (aD b.2.1 (ax (pre++qs))) (au (bA 0 b.1) (aK (aC b.2.1 (pre++qs)) (ai (R83 n (n-d) (@aZ aG (pre++qs) (ak b.2.1) aV,b.1,())) λe=>Z (N (e.1.1,aE .i64 b.2.1 1,())))) (Z (H 0 b))) (Z (H 0 b)))->
  ∃j,fj F (left,(pre.length:Int),()) (.out 0 (jR left (se qs),j,()))
 |[],pre,left,h1,h2,f,F,c=>by refine⟨(pre.length:Int),.out (aY λn=>?_)⟩;rw[c];have e:jR left (se [])=left:=QU h1;rw[e];simp(disch:=omega) [bf]<;>rfl
 |q::qs,pre,left,h1,h2,f,F,c=>by
  by_cases l:left<0
  .refine ⟨(pre.length:Int),.out (aY λn=>?_)⟩;rw[c];have e:jR left (se (q::qs))=left:=by rw[JD l];omega
   rw[e];simp(disch:=omega) [bf]<;>rfl
  .have m:(pre++q::qs).getD pre.length aV=q:=j7 ..;have o:=Qy q;have p:=f q fA left h1 (by omega);have g:=Yw (left:=left) o (by omega)
   let ⟨j,k⟩:=EK d qs (pre++[q]) (jR left (pw q)) g.2 (by simp;omega) (λr h=>f r (iB _ h)) F (λn e=>by rw[c];simp<;>rfl)
   have e:jR (jR left (pw q)) (se qs)=jR left (se (q::qs)):=JE;rw[e]at k;refine⟨j,.next (y:=((jR left (pw q)),((pre++[q]).length:Int),())) ?_ k⟩
   let ⟨a,s⟩:=p d
   refine⟨a,λn i=>?_⟩;show F n _=_;rw[c];simp(disch:=first|omega|simp only[lz];omega)only[bf,m,bF,ep,eu,qG];exact(pU (λx=>ai x _) (s n i)).trans rfl
theorem WN:∀q:aG,RP q
 |⟨a,n0,text,parts⟩=>by
  intro left h1 h2;refine yM.step aaw λd=>?_;by_cases h3:left<1
  .rw[vO (by grind[Qy])];refine aY λn=>?_;unfold B83;simp(disch:=omega) [bf]<;>rfl
  .let ⟨j,f⟩:=EK (P:=Any) d parts [] (left-1) (by omega) (by simp;omega) (SF parts) _ (λn e=>rfl)
   have e:jR (left-1) (se parts)=jR left (pw ⟨a,n0,text,parts⟩):=by rw[show left-1=jR left 1 from(sM (k:=1) (Int.not_lt.1 h3)).symm,JE];rfl
   rw[<-e];have i:∀n,B83 n (R83 n (n-d)) (⟨a,n0,text,parts⟩,left,())=ai (iter (λb=>au (aD b.2.1 (ax parts)) (au (bA 0 b.1) (aK (aC b.2.1 parts) (ai (R83 n (n-d) (@aZ aG parts (ak b.2.1) aV,b.1,())) λe=>Z (N (e.1.1,aE .i64 b.2.1 1,())))) (Z (H 0 b))) (Z (H 0 b))) n (left-1,0,())) λe=>bp (B:=U) (P:=Any) e (λ_ g=>Z ((g.1,()),())) (λ_ g=>Z (g,())) λ_ _=>Y:=by intro n;unfold B83;simp(disch:=omega)only[bf,cZ]<;>rfl
   exact Ev.fR i (Ev.aT f (λn e=>_) _ bO)
where
 SF:∀c:L aG,∀q∈c,RP q
 |[],_,h=>by cases h
 |q::c,l,h=>by
  obtain h|h:=fy.1 h
  .rw[h];exact WN q
  .exact SF c l h
def e83(q:aG){left:Int}(h1:1<=left)(h2:left<=1000):Ev (λn=>F83 n (q,left,())) ((jR left (pw q),()),()):=by exact WN q left (by omega) h2 0
mutual
def sp:aG->Bool
 |⟨_,_,text,parts⟩=>sps parts&&decide (text.length<=30)
def sps:L aG->Bool
 |[]=>W|q::a=>sp q&&sps a
end
theorem Ku:∀{qs:L aG},sps qs=W↔∀q∈qs,sp q=W
 |[]=>by simp[sps]
 |q::qs=>by simp[sps,Ku (qs:=qs)]
theorem aav(n k:Nat):R84 n (k+1)=B84 n (R84 n k):=rfl
theorem short:∀q:aG,pw q<=1000->yM R84 (q,()) ((sp q,()),())
 |⟨c,n0,text,parts⟩,k=>by
  unfold pw at k;have u:=Ah parts;have l:=W8 parts (by omega);refine yM.step aav λd=>?_;have m:∀(i:Nat)(y:Int×U),(X () (J,()):LO (Int×U) (Bool×U) U Any)≠.next y:=λ_ _ h=>by cases h
  have step:∀i,i<parts.length->Ev (λn=>au (aD (i:Int) (ax parts)) (aK (aC (i:Int) parts) (ai (R84 n (n-d) (@aZ aG parts (ak (i:Int)) aV,())) λe=>au (aq e.1.1) (Z (X () (J,()))) (Z (N (aE .i64 (i:Int) 1,()))))) (Z (H 0 ((i:Int),())))) (bif sp (parts.getD i aV)then .next (((i+1:Nat):Int),())else(X () (J,()):LO (Int×U) (Bool×U) U Any)):=by
   intro i f
   let ⟨b,o⟩:=l _ (cg aV f) d
   refine⟨b,λn p=>?_⟩;show TL.au _ _ _=_;simp(disch:=omega)only[bf,bF,ep,eu];refine(pU (λx=>ai x _) (o n p)).trans ?_;cases v:sp (parts.getD i aV)<;>rfl
  rcases pE (F:=λn g=>au (aD g.1 (ax parts)) (aK (aC g.1 parts) (ai (R84 n (n-d) (@aZ aG parts (ak g.1) aV,())) λe=>au (aq e.1.1) (Z (X () (J,()))) (Z (N (aE .i64 g.1 1,()))))) (Z (H 0 g)))
   parts.length (λi=>((i:Int),())) (λi=>sp (parts.getD i aV)) (λ_=>(X () (J,()):LO (Int×U) (Bool×U) U Any)) 0 m (λi f _=>step i f) (λ_=>aY λn=>by simp(disch:=omega) [bf]<;>rfl)with⟨a,r⟩|⟨i,f,a,_,r⟩
  .have e:sp ⟨c,n0,text,parts⟩=decide (text.length<=30):=by unfold sp;rw[Ku.2 λq k=>?_,eY];obtain⟨i,f,rfl⟩:=qI k;have:=a i f;rwa [tH,iZ f]at this
   refine Ev.aT r (λn e=>_) _ (aY λn=>?_);show Z ((bA (ax text) 30,()),())=_;simp only[bA,ax]
   grind
  .have e:sp ⟨c,n0,text,parts⟩=J:=by
    grind[sp,Ku]
   rw[e];exact Ev.aT r (λn e=>_) _ bO
where
 W8:∀j:L aG,se j<=1000->∀q∈j,yM R84 (q,()) ((sp q,()),())
 |[],_,_,h=>by cases h
 |q::j,s,t,h=>by
  unfold se at s;obtain h|h:=fy.1 h
  .rw[h];exact short q (by omega)
  .exact W8 j (by omega) t h
def Bt(q:aG):Bool:=decide (pw q<=16)&&sp q
def akJ(q:aG):aG.mk q.1 q.2 q.3 q.4=q:=by cases q;rfl
def e44(q:aG):Ev (λn=>F44 n (q,())) ((Bt q,()),()):=by
 unfold F44;simp[akJ];refine Ev.ai (e83 q (by omega) (by omega)) ?_;unfold Bt;by_cases h:pw q<=16
 .have a:((pw q:Nat):Int)<=16:=by omega
  rw[sM a,gw h,eY];simp(disch:=omega) [bf];exact Ev.ai (short q (by omega) 0) (Ev.pure _)
 .have a:¬((pw q:Nat):Int)<=16:=by omega
  simp_all[vO,gR,aY,bf]
end
section
theorem eC{R B P:Type}(len:Nat)(q:Nat->Bool)(bad:Nat->LO (Int×U) R B P){F:Nat->Int×U->O (LO (Int×U) R B P)}(c:∀i y,bad i≠.next y)
  (h:∀i,i<len->Ev (λn=>F n ((i:Int),())) (bif q i then .next (((i+1:Nat):Int),())else bad i)) (d:∀n,F n ((len:Int),())=Z (.out 0 ((len:Int),()))) :
  ((∀i,i<len->q i=W)∧fj F (0,()) (.out 0 ((len:Int),())))∨∃i,i<len∧q i=J∧fj F (0,()) (bad i):=by
 obtain⟨a,r⟩|⟨i,b,a,_,r⟩:=pE len (λi=>((i:Int),())) q bad 0 c (λi b _=>h i b) (λ_=>aY d)
 .simp_all
 grind
structure Small(p:az):Prop where
 nodes:p.bh.length<=320
 zj:p.dM.length<=320
 cons:p.Cons.length<=25
 names:∀c∈p.Cons,c.Name.length<=40
 nds:∀nd∈p.bh,nd.Kids.length<=10∧nd.cN.length<=10∧∀q∈nd.cN,pw q<=16
def ir{α:Type}{l:L α}{d:α}{Q:α->Prop}(h:∀i,i<l.length->Q (l.getD i d)):∀a∈l,Q a:=by intro a c;obtain⟨i,b,rfl⟩:=qI c;have:=h i b;rwa [tH,iZ b]at this
def mC(nd:bw):Bool:=(decide (nd.Kids.length<=10)&&decide (nd.cN.length<=10))&&nd.cN.all Bt
def s4{α:Type}{l:L α}{d:α}{q:α->Bool}(h:∀i,i<l.length->q (l.getD i d)=W):l.all q=W:=gY.2 (ir (d:=d) h)
theorem kD{α:Type}{l:L α}{d:α}{q:α->Bool}{i:Nat}(a:i<l.length)(h:q (l.getD i d)=J):l.all q=J:=by
 grind
abbrev G12(p:az)(n:Nat)(g:Int×U):O (LO (Int×U) (Bool×U) U Any):=
 au (aD g.1 (p.bh.length:Int)) (aK (aC g.1 p.bh) (au (aD 10 ((p.bh.getD g.1.toNat aW).Kids.length:Int)) (Z (X () (J,()))) (au (aD 10 ((p.bh.getD g.1.toNat aW).cN.length:Int)) (Z (X () (J,()))) (ai (iter (λh:Int×U=>au (aD h.1 ((p.bh.getD g.1.toNat aW).cN.length:Int)) (aK (aC h.1 (p.bh.getD g.1.toNat aW).cN) (ai (F44 n ((p.bh.getD g.1.toNat aW).cN.getD h.1.toNat aV,())) λi=>au i.1.1 (Z (N (aE .i64 h.1 1,()))) (Z (X (B:=U) (P:=Any) () (J,()))))) (Z (H 0 h))) n (0,())) λh=>bp h (λ_ _=>Z (N (aE .i64 g.1 1,()))) (λ_ j=>Z (X () j)) λ_ _=>Y)))) (Z (H 0 g))
def e12(p:az):∃b,Ev (λn=>F12 n (p,())) ((b,()),())∧(b=W->Small p):=by
 unfold F12;by_cases h1:320<p.bh.length
 .exact ⟨J,aY λn=>by simp(disch:=omega) [bf]<;>rfl,λh=>by cases h⟩
 by_cases h2:320<p.dM.length
 .exact ⟨J,aY λn=>by simp(disch:=omega) [bf]<;>rfl,λh=>by cases h⟩
 by_cases h3:25<p.Cons.length
 .exact ⟨J,aY λn=>by simp(disch:=omega) [bf]<;>rfl,λh=>by cases h⟩
 simp(disch:=omega)only[bf];have k:∀{P:Type}(i:Nat)(y:Int×U),(X () (J,()):LO (Int×U) (Bool×U) U P)≠.next y:=λ_ _ h=>by cases h
 rcases eC p.Cons.length (λi=>decide ((p.Cons.getD i bM).Name.length<=40)) (λ_=>(X () (J,()):LO (Int×U) (Bool×U) U Any)) (F:=λn c=>au (aD c.1 (p.Cons.length:Int)) (aK (aC c.1 p.Cons) (au (aD 40 ((p.Cons.getD c.1.toNat bM).Name.length:Int)) (Z (X () (J,()))) (Z (N (aE .i64 c.1 1,()))))) (Z (H 0 c))) k
  (λi e=>aY λn=>by
   by_cases l:(p.Cons.getD i bM).Name.length<=40
   .simp (disch:=omega)only[bf,gw l,bF,ep,eu]
   .simp (disch:=omega)only[bf,gR l]) (λn=>by simp(disch:=omega) [bf])with⟨a,r⟩|⟨i,e,a,r⟩
 .have step:∀g:Nat,g<p.bh.length->Ev (λn=>G12 p n ((g:Int),())) (bif mC (p.bh.getD g aW)then .next (((g+1:Nat):Int),())else(X () (J,()):LO (Int×U) (Bool×U) U Any)):=by
   intro g q;by_cases m:10<(p.bh.getD g aW).Kids.length
   .rw[show mC (p.bh.getD g aW)=J by simp_all[mC,gR]];exact aY λn=>by simp(disch:=omega)only[bf]
   by_cases o:10<(p.bh.getD g aW).cN.length
   .rw[show mC (p.bh.getD g aW)=J by simp_all[mC,gR]];exact aY λn=>by simp(disch:=omega)only[bf]
   rcases eC (p.bh.getD g aW).cN.length (λi=>Bt ((p.bh.getD g aW).cN.getD i aV)) (λ_=>(X () (J,()):LO (Int×U) (Bool×U) U Any)) (F:=λn h=>au (aD h.1 ((p.bh.getD g aW).cN.length:Int)) (aK (aC h.1 (p.bh.getD g aW).cN) (ai (F44 n ((p.bh.getD g aW).cN.getD h.1.toNat aV,())) λi=>au i.1.1 (Z (N (aE .i64 h.1 1,()))) (Z (X () (J,()))))) (Z (H 0 h))) k
    (λi e=>by
     simp(disch:=omega)only[bf];refine Ev.ai (e44 _) (aY λn=>?_);cases Bt ((p.bh.getD g aW).cN.getD i aV)<;>simp(disch:=omega)only[bf,bF,ep,eu]) (λn=>by simp(disch:=omega) [bf])with⟨j,f⟩|⟨i,e,j,f⟩
   .rw[show mC (p.bh.getD g aW)=W by simp only[mC,gw (CU.1 m),gw (CU.1 o),s4 j,Ab]];simp(disch:=omega)only[bf];refine Ev.aT f (λn c=>_) _ (aY λn=>?_);rw[dD];simp(disch:=omega) [bF,ep,eu]
   .rw[show mC (p.bh.getD g aW)=J by simp only[mC,kD e j,Iz]];simp(disch:=omega)only[bf];exact Ev.aT f (λn c=>_) _ bO
  obtain⟨j,f⟩|⟨i,e,j,f⟩:=eC p.bh.length (λg=>mC (p.bh.getD g aW)) (λ_=>(X () (J,()):LO (Int×U) (Bool×U) U Any)) (F:=λn g=>G12 p n g) k step (λn=>by simp(disch:=omega) [bf])
  .refine ⟨W,Ev.aT r (λn c=>_) _ ?_,λ_=>⟨by omega,by omega,by omega,ir (d:=bM) λi e=>S1 (a i e),ir (d:=aW) λi e=>?_⟩⟩
   .refine Ev.fR (λn=>dD ..) ?_;exact Ev.aT f (λn c=>_) _ bO
   .have:=j i e
    simp_all[mC,Bt]
  .refine ⟨J,Ev.aT r (λn c=>_) _ ?_,λh=>by cases h⟩;refine Ev.fR (λn=>dD ..) ?_;exact Ev.aT f (λn c=>_) _ bO
 .exact ⟨J,Ev.aT r (λn c=>_) _ bO,λh=>by cases h⟩
end
section
section
theorem Wr(n k:Nat):R202 n (k+1)=B202 n (R202 n k):=rfl
def ahG(k:Nat)(a r:Int):Prop:=((k:Int)<=a->r=k)∧(a<k->a<r)∧1<=r∧r<=k
def aat(q:aG):Prop:=∀a:Int,0<=a->a<=1000->∃r,yM R202 (q,a,()) ((r,()),())∧ahG (pw q) a r
def I9{R B P:Type}{b:Int}(o:0<=b)(g:b<=1000):∀(qs pre:L aG)(s:Int),1<=s->s+se qs<=1000->pre.length+qs.length<=1000->(∀q∈qs,aat q)->
  ∃r j,((s+se qs<=b->r=s+se qs)∧(b<s+se qs->b<r)∧s<=r∧r<=s+se qs)∧∀(d:Nat)(F:Nat->Int×Int×U->O (LO (Int×Int×U) R B P)),
  (∀n c,F n c=au (aD c.2.1 (ax (pre++qs))) (aK (aC c.2.1 (pre++qs)) (au (aD b c.1) (Z (H 0 c)) (ai (R202 n (n-d) (aG.mk (@aZ aG (pre++qs) (ak c.2.1) aV).1 (@aZ aG (pre++qs) (ak c.2.1) aV).2 (@aZ aG (pre++qs) (ak c.2.1) aV).3 (@aZ aG (pre++qs) (ak c.2.1) aV).4,bS .i64 b c.1,())) λe=>Z (N (aE .i64 c.1 e.1.1,aE .i64 c.2.1 1,()))))) (Z (H 0 c)))->
  fj F (s,(pre.length:Int),()) (.out 0 (r,j,()))
 |[],pre,s,h1,h2,h3,i=>by refine⟨s,(pre.length:Int),by simp[se],λd F f=>.out (aY λn=>?_)⟩;rw[f];simp(disch:=omega) [bf]<;>rfl
 |q::qs,pre,s,h1,h2,h3,i=>by
  have w:se (q::qs)=pw q+se qs:=rfl;simp at h3;by_cases z:b<s
  .refine ⟨s,(pre.length:Int),⟨by omega,by omega,by omega,by omega⟩,λd F f=>.out (aY λn=>?_)⟩;rw[f];simp(disch:=first|omega|simp[lz];omega) [bf]<;>rfl
  .have p:(pre++q::qs).getD pre.length aV=q:=j7 ..
   let ⟨k,l,A,C,E,I⟩:=i q fA (b-s) (by omega) (by omega)
   let ⟨r,j,⟨a1,a2,a3,K⟩,t⟩:=I9 (R:=R) (B:=B) (P:=P) o g qs (pre++[q]) (s+k) (by omega) (by omega) (by simp;omega) (λu h=>i u (iB _ h))
   refine⟨r,j,⟨by omega,by omega,by omega,by omega⟩,λd F f=>?_⟩;refine .next (y:=(s+k,((pre++[q]).length:Int),())) ?_ (t d F λn e=>by rw[f];simp<;>rfl)
   let ⟨a,v⟩:=l d
   refine⟨a,λn m=>?_⟩;show F n _=_;rw[f];simp(disch:=first|omega|simp only[lz];omega)only[bf,p,VW,cZ,bF,ep,eu,qG];refine(pU (λx=>ai x _) (v n m)).trans ?_;show Z (N (aE .i64 s k,_,()))=_;rw[bF (by omega) (by omega)]
def sizes:∀q:aG,pw q<=1000->aat q
 |⟨c,n0,text,parts⟩,g=>by
  intro f i b;unfold pw at g ⊢;have o:=Ah parts
  let ⟨r,j,⟨a1,a2,a3,p⟩,k⟩:=I9 (R:=Int×U) (B:=U) (P:=Any) i b parts [] 1 (by omega) (by omega) (by simp;omega) (W7 parts (by omega))
  refine⟨r,yM.step Wr λd=>?_,by omega,by omega,by omega,by omega⟩;exact Ev.aT (F:=λn e=>_) (k d _ λn e=>rfl) (λn e=>_) _ bO
where
 W7:∀a:L aG,se a<=1000->∀q∈a,aat q
 |[],_,_,h=>by cases h
 |q::a,l,m,h=>by
  unfold se at l;obtain h|h:=fy.1 h
  .rw[h];exact sizes q (by omega)
  .exact W7 a (by omega) m h
def U2(cons:L cO)(a n:Int)(k:Nat):Bool:=
 if a=1∨a=2∨a=5 then decide (n=0)&&decide (k=0)
 else if a=3 then gT n&&decide (k=0)
 else if a=4 then decide (0<=n∧n<=1)&&decide (k=0)
 else if a=6 then decide (0<=n∧n<cons.length)&&decide ((k:Int)=(cons.getD n.toNat bM).sd)
 else J
mutual
def pW(cons:L cO):aG->Bool
 |⟨a,n,text,parts⟩=>(decide (text=[])&&uL cons parts)&&U2 cons a n parts.length
def uL(cons:L cO):L aG->Bool
 |[]=>W|q::a=>pW cons q&&uL cons a
end
theorem BC{cons:L cO}:∀{qs:L aG},uL cons qs=W↔∀q∈qs,pW cons q=W
 |[]=>by simp[uL]
 |q::qs=>by simp[uL,BC (qs:=qs)]
theorem FC{cons:L cO}:∀q:aG,pW cons q=W->pf q=W
 |⟨a,n,text,parts⟩,h=>by
  unfold pW at h;simp only[eK]at h;unfold pf;have c:=go parts h.1.2;have:1<=a∧a<=6:=by
   have h2:=h.2;unfold U2 at h2
   grind
  simp_all
where
 go:∀b:L aG,uL cons b=W->pfs b=W
 |[],_=>rfl|q::b,h=>by unfold uL at h;simp at h;unfold pfs;rw[FC q h.1,go b h.2];rfl
variable {n:Nat}
def xP(a lo b:Int):F146 n (a,lo,b,())=Z ((decide (lo<=a∧a<=b),()),()):=by
 unfold F146;by_cases h1:lo<=a
 .simp_all[bf,bA]
 .simp (disch:=omega)only[bf];simp[h1]
def IP(a lo b:Int):F52 n (a,lo,b,())=Z ((decide (lo<=a∧a<=b),()),()):=xP (n:=n) a lo b
def akV(a:Int):F259 n (a,())=Z ((gT a,()),()):=by
 simp_all[F259,xP,bf,gT]
theorem Wq(n k:Nat):R203 n (k+1)=B203 n (R203 n k):=rfl
def su(l:L UInt8):gG l []=decide (l=[]):=by cases l<;>rfl
def ahg{f:_}{p:az}(o:p.Cons.length<=1000){a n0:Int}{text:L UInt8}{parts:L aG}(hl:parts.length<=1000) :
  CG n f (⟨p⟩,⟨a,n0,text,parts⟩,())=Z ((U2 p.Cons a n0 parts.length,()),()):=by
 unfold CG SA qD U2;have e:(aa (parts.length:Int) 0)=decide (parts.length=0):=by by_cases h:parts.length=0<;>simp[aa,h]
 have g:(aa n0 0)=decide (n0=0):=by by_cases h:n0=0<;>simp[aa,h]
 have d:∀b:Bool,au b (Z ((decide (parts.length=0),()),())) (Z ((J,()),()))=(Z ((b&&decide (parts.length=0),()),()):O ((Bool×U)×U)):=λb=>by cases b<;>rfl
 by_cases i:a=1∨a=2∨a=5
 .rw[cn i];obtain c|c|c:=i<;>subst c<;>simp(disch:=omega)only[bf,bN,e,g,d]
 .rw[bJ i];by_cases j:a=3
  .rw[cn j];simp(disch:=omega)only[bf,bN,akV,e,d]
  .rw[bJ j];by_cases k:a=4
   .rw[cn k];simp(disch:=omega)only[bf,bN,xP,e,d]
   .rw[bJ k];by_cases m:a=6
    .rw[cn m];by_cases l:0<=n0∧n0<p.Cons.length
     .rw[gw l,eY];simp(disch:=omega)only[bf,bN,xP,cZ,gw (show 0<=n0∧n0<=(p.Cons.length:Int)-1 by omega)];rw[show aa (parts.length:Int) (p.Cons.getD n0.toNat bM).sd=decide ((parts.length:Int)=(p.Cons.getD n0.toNat bM).sd)by rfl]
     .rw[gR l,jH];simp(disch:=omega) [bf,bN,xP,cZ,gR (show ¬(0<=n0∧n0<=(p.Cons.length:Int)-1)by omega)]
    simp_all[bf,bN]
end
end
section
section
variable {p:az}
theorem XX(k:p.Cons.length<=1000):∀q:aG,pw q<=1000->yM R203 (⟨p⟩,q,()) ((pW p.Cons q,()),())
 |⟨f,n0,text,parts⟩,o=>by
  unfold pw at o;have C:=Ah parts;have s:=XW parts (by omega);refine yM.step Wq λd=>?_;by_cases t:text=[]
  .subst t;have u:∀(i:Nat)(y:Int×U),(LO.ret () ((i:Int),()):LO (Int×U) (Int×U) U Any)≠.next y:=λ_ _ h=>by cases h
   have step:∀i,i<parts.length->Ev (λn=>au (aD (i:Int) (ax parts)) (aK (aC (i:Int) parts) (ai (R203 n (n-d) (⟨p⟩,aG.mk (@aZ aG parts (ak (i:Int)) aV).1 (@aZ aG parts (ak (i:Int)) aV).2 (@aZ aG parts (ak (i:Int)) aV).3 (@aZ aG parts (ak (i:Int)) aV).4,())) λe=>au (aq e.1.1) (Z (LO.ret () ((i:Int),()))) (Z (N (aE .i64 (i:Int) 1,()))))) (Z (H 0 ((i:Int),())))) (bif pW p.Cons (parts.getD i aV)then .next (((i+1:Nat):Int),())else(LO.ret () ((i:Int),()):LO (Int×U) (Int×U) U Any)):=by
    intro i l
    let ⟨b,v⟩:=s _ (cg aV l) d
    refine⟨b,λn w=>?_⟩;show TL.au _ _ _=_;simp(disch:=omega)only[bf,VW,bF,ep,eu];refine(pU (λx=>ai x _) (v n w)).trans ?_;cases k:pW p.Cons (parts.getD i aV)<;>rfl
   have m:∀n,B203 n (R203 n (n-d)) (⟨p⟩,⟨f,n0,[],parts⟩,())=ai (iter (λc=>au (aD c.1 (ax parts)) (aK (aC c.1 parts) (ai (R203 n (n-d) (⟨p⟩,aG.mk (@aZ aG parts (ak c.1) aV).1 (@aZ aG parts (ak c.1) aV).2 (@aZ aG parts (ak c.1) aV).3 (@aZ aG parts (ak c.1) aV).4,())) λe=>au (aq e.1.1) (Z (LO.ret () c)) (Z (N (aE .i64 c.1 1,()))))) (Z (H 0 c))) n (0,())) λc=>bp (X:=Int×U) (R:=Int×U) (B:=U) (P:=Any) c (λ_ _=>au (aq (aq J)) (qD n (R203 n (n-d))) (CG n (R203 n (n-d)) (⟨p⟩,⟨f,n0,[],parts⟩,()))) (λ_ g=>au (aq (aq (bA 0 g.1))) (qD n (R203 n (n-d))) (CG n (R203 n (n-d)) (⟨p⟩,⟨f,n0,[],parts⟩,()))) λ_ _=>Y:=λn=>rfl;rcases eC (F:=λn c=>au (aD c.1 (ax parts)) (aK (aC c.1 parts) (ai (R203 n (n-d) (⟨p⟩,aG.mk (@aZ aG parts (ak c.1) aV).1 (@aZ aG parts (ak c.1) aV).2 (@aZ aG parts (ak c.1) aV).3 (@aZ aG parts (ak c.1) aV).4,())) λe=>au (aq e.1.1) (Z (LO.ret () c)) (Z (N (aE .i64 c.1 1,()))))) (Z (H 0 c)))
    parts.length (λi=>pW p.Cons (parts.getD i aV)) (λi=>(LO.ret () ((i:Int),()):LO (Int×U) (Int×U) U Any)) u step (λn=>by simp(disch:=omega) [bf]<;>rfl)with⟨a,r⟩|⟨i,l,a,r⟩
   .have e:pW p.Cons ⟨f,n0,[],parts⟩=U2 p.Cons f n0 parts.length:=by unfold pW;rw[BC.2 (ir (d:=aV) a)];rfl
    rw[e];refine Ev.fR m (Ev.aT r (λn e=>_) _ (aY λn=>?_));exact ahg k (by omega)
   .have e:pW p.Cons ⟨f,n0,[],parts⟩=J:=by
     grind[pW,BC]
    rw[e];refine Ev.fR m (Ev.aT r (λn e=>_) _ (aY λn=>?_));rw[wh];simp(disch:=omega) [bf]<;>rfl
  simp_all[pW,aY,B203,qD,bf,su]
where
 XW:∀j:L aG,se j<=1000->∀q∈j,yM R203 (⟨p⟩,q,()) ((pW p.Cons q,()),())
 |[],_,_,h=>by cases h
 |q::j,z,A,h=>by
  unfold se at z;obtain h|h:=fy.1 h
  .rw[h];exact XX k q (by omega)
  .exact XW j (by omega) A h
theorem aau(n k:Nat):R95 n (k+1)=B95 n (R95 n k):=rfl
def aay(cons:L cO)(q:aG):Prop:=yM R95 (q,cons,()) ((pW cons q,()),())
def Xc{R B P:Type}{cons:L cO}(d:Nat):∀(qs pre:L aG)(b:Bool),pre.length+qs.length<=1000->(∀q∈qs,aay cons q)->
  ∀(F:Nat->Bool×Int×U->O (LO (Bool×Int×U) R B P)),
  (∀n i,F n i=au (aD i.2.1 (ax (pre++qs))) (au i.1 (aK (aC i.2.1 (pre++qs)) (ai (R95 n (n-d) (@aZ aG (pre++qs) (ak i.2.1) aV,cons,())) λj=>Z (N (j.1.1,aE .i64 i.2.1 1,())))) (Z (H 0 i))) (Z (H 0 i)))->
  ∃j,fj F (b,(pre.length:Int),()) (.out 0 (b&&uL cons qs,j,()))
 |[],pre,b,h3,f,F,c=>by refine⟨(pre.length:Int),.out (aY λn=>?_)⟩;rw[c];simp(disch:=omega) [bf,uL,Ab]<;>rfl
 |q::qs,pre,b,h3,f,F,c=>by
  simp at h3;cases b with
  |false=>refine⟨(pre.length:Int),.out (aY λn=>?_)⟩;rw[c];simp(disch:=omega) [bf,jH]<;>rfl|true=>
   have k:(pre++q::qs).getD pre.length aV=q:=j7 ..
   let ⟨j,o⟩:=Xc d qs (pre++[q]) (pW cons q) (by simp;omega) (λl h=>f l (iB _ h)) F (λn e=>by rw[c];simp<;>rfl)
   refine⟨j,.next (y:=(pW cons q,((pre++[q]).length:Int),())) ?_ (by simp_all[uL])⟩
   let ⟨a,m⟩:=f q fA d
   refine⟨a,λn g=>?_⟩;show F n _=_;rw[c];simp(disch:=first|omega|simp only[lz];omega)only[bf,k,bF,ep,eu,qG];exact(pU (λx=>ai x _) (m n g)).trans rfl
variable {cons:List cO}
def ael(s:cons.length<=1000):∀q:aG,pw q<=1000->aay cons q
 |⟨a,n0,text,parts⟩,t=>by
  unfold pw at t;have x:=Ah parts;have u:=XW parts (by omega);refine yM.step aau λd=>?_;have run:∀b:Bool,Ev (λn=>ai (iter (PJ n (R95 n (n-d)) (⟨a,n0,text,parts⟩,cons,())) n (b,0,())) (PI n (R95 n (n-d)))) ((b&&uL cons parts,()),()):=by intro b;obtain⟨j,k⟩:=Xc (cons:=cons) d parts [] b (by simp;omega) u _ (λn e=>rfl);exact Ev.aT (F:=λn c=>_) k (λn e=>_) _ bO
  have f:∀b:Bool,Ev (λn=>au b (ai (iter (PJ n (R95 n (n-d)) (⟨a,n0,text,parts⟩,cons,())) n (decide (text=[]),0,())) (PI n (R95 n (n-d)))) (ai (iter (PJ n (R95 n (n-d)) (⟨a,n0,text,parts⟩,cons,())) n (J,0,())) (PI n (R95 n (n-d))))) (((decide (text=[])&&uL cons parts)&&b,()),()):=by intro b;cases b with|true=>rw[Ab];exact run _|false=>rw[Iz];exact run J
  unfold pW U2;have i:(aa n0 0)=decide (n0=0):=by by_cases h:n0=0<;>simp[aa,h]
  unfold B95;by_cases m:a=1∨a=2∨a=5
  .by_cases g:parts.length=0
   .rw[gw g,Ab];obtain c|c|c:=m<;>subst c<;>simp(disch:=omega)only[bf,bN,i,su]<;>exact f _
   .rw[gR g,Iz];obtain c|c|c:=m<;>subst c<;>simp(disch:=omega)only[bf,bN,i,su]<;>exact f J
  .rw[bJ m];by_cases o:a=3
   .subst o;by_cases g:parts.length=0
    .rw[gw g,Ab];simp(disch:=omega)only[bf,bN,IP,su];have:=f (gT n0);simp[gT,Bool.decide_and]at this ⊢;exact this
    .rw[gR g,Iz];simp(disch:=omega)only[bf,bN];exact f J
   .rw[bJ o];by_cases p:a=4
    .subst p;by_cases g:parts.length=0
     .rw[gw g,Ab];simp(disch:=omega)only[bf,bN,IP,su];exact f _
     .rw[gR g,Iz];simp(disch:=omega)only[bf,bN];exact f J
    .rw[bJ p];by_cases r:a=6
     .subst r;by_cases k:0<=n0∧n0<cons.length
      .rw[gw k,eY];simp(disch:=omega)only[bf,bN,IP,cZ,gw (show 0<=n0∧n0<=(cons.length:Int)-1 by omega),su];exact f _
      .rw[gR k,jH];simp(disch:=omega)only[bf,bN,IP,cZ,gR (show ¬(0<=n0∧n0<=(cons.length:Int)-1)by omega)];exact f J
     .rw[bJ r];simp(disch:=omega)only[bf,bN];exact f J
where
 XW:∀l:L aG,se l<=1000->∀q∈l,aay cons q
 |[],_,_,h=>by cases h
 |q::l,v,w,h=>by
  unfold se at v;obtain h|h:=fy.1 h
  .rw[h];exact ael s q (by omega)
  .exact XW l (by omega) w h
end
end
section
section
variable {p:az}{nd:bw}
def QW(op:Int):dz:=if op=15 then .a0 ⟨⟩else if op=14 then .a2 ⟨⟩else if 1<=op∧op<=28 then .a1 (sN.getD op.toNat 0:Nat)else .none
variable {n:Nat}
def arp(op:Int):F200 n (op,())=Z ((QW op,()),()):=by
 by_cases h:1<=op∧op<=28
 .obtain ⟨k,rfl⟩:∃k:Nat,op=k:=⟨_,(xH (by omega)).symm⟩;have a:k<=28:=by omega
  match k,a with
  |0,_=>omega|1,_|2,_|3,_|4,_|5,_|6,_|7,_|8,_|9,_|10,_|11,_|12,_|13,_|14,_|15,_|16,_|17,_|18,_|19,_|20,_|21,_|22,_|23,_|24,_|25,_|26,_|27,_|28,_=>rfl|k+29,h=>omega
 .unfold F200 Cv wP wO QW;rw[bJ (by omega),bJ (by omega),bJ h];simp(disch:=omega) [bf,bN]
def DQ(p:az)(nd:bw):Bool:=
 if nd.Op=1 then gT nd.N else if nd.Op=2 then decide (0<=nd.N∧nd.N<=1)else if nd.Op=24 then decide (0<=nd.N∧nd.N<=3)
 else if nd.Op=4 then decide (-(p.dM.length:Int)<=nd.N∧nd.N<=29)else if nd.Op=14 then W else decide (nd.N=0)
def N3(p:az)(nd:bw):Bool:=
 if nd.Op=15 then decide (1<=(nd.cN.length:Int)∧(nd.cN.length:Int)<=5)&&decide ((nd.Kids.length:Int)=1+nd.cN.length)
 else if nd.Op=14 then decide (0<=nd.N∧nd.N<p.Cons.length)&&decide ((nd.Kids.length:Int)=(p.Cons.getD nd.N.toNat bM).sd)
 else if 1<=nd.Op∧nd.Op<=28 then decide ((nd.Kids.length:Int)=(sN.getD nd.Op.toNat 0:Nat))else J
def npB(nd:bw):Bool:=decide (nd.Op=15∨nd.cN.length=0)
def qB(p:az)(q:aG):Bool:=decide (pw q<=12)&&pW p.Cons q
def mQ(p:az)(nd:bw):Bool:=((npB nd&&N3 p nd)&&DQ p nd)&&nd.cN.all (qB p)
def nG(a b:Int):aa a b=decide (a=b):=by by_cases h:a=b<;>simp[aa,h]
def acH(b c:Bool):au b (Z ((c,()),())) (Z ((J,()),()))=(Z ((b&&c,()),()):O ((Bool×U)×U)):=by cases b<;>rfl
def aro(hf:p.dM.length<=1000):F204 n (⟨p⟩,nd,())=Z ((DQ p nd,()),()):=by
 have a:Ih .i64 (p.dM.length:Int)=-(p.dM.length:Int):=zQ (by omega) (by omega);unfold F204 DQ;by_cases h1:nd.Op=1
 .simp_all[bf,akV]
 rw[bJ h1];by_cases h2:nd.Op=2
 .simp_all[bf,xP]
 rw[bJ h2];by_cases h3:nd.Op=24
 .simp_all[bf,xP]
 rw[bJ h3];by_cases h4:nd.Op=4
 .simp_all[bf,xP]
 rw[bJ h4];by_cases h5:nd.Op=14
 .simp_all[bf]
 rw[bJ h5];simp(disch:=omega)only[bf];rw[nG]
def abZ(hs:Small p)(g:∀q∈nd.cN,pw q<=16)(hl:nd.cN.length<=10)(b:Bool):Ev (λn=>wQ n (⟨p⟩,nd,()) ((b,()),())) (((b&&DQ p nd)&&nd.cN.all (qB p),()),()):=by
 have s:=hs.zj;have t:=hs.cons;unfold wQ uA;cases b with
 |false=>simp_all[aY,bf]|true=>
  simp only[bf,aro (p:=p) (nd:=nd) (show p.dM.length<=1000 by omega),eY];cases l:DQ p nd with
  |false=>simp_all[aY,bf]|true=>
   have m:∀(i:Nat)(y:Int×U),(X () ((i:Int),()):LO (Int×U) (Int×U) U Any)≠.next y:=λ_ _ h=>by cases h
   rcases eC (F:=λn i=>au (aD i.1 (nd.cN.length:Int)) (aK (aC i.1 nd.cN) (ai (F202 n (aG.mk (nd.cN.getD i.1.toNat aV).1 (nd.cN.getD i.1.toNat aV).2 (nd.cN.getD i.1.toNat aV).3 (nd.cN.getD i.1.toNat aV).4,12,())) λj=>au (bA j.1.1 12) (ai (F203 n (⟨p⟩,aG.mk (nd.cN.getD i.1.toNat aV).1 (nd.cN.getD i.1.toNat aV).2 (nd.cN.getD i.1.toNat aV).3 (nd.cN.getD i.1.toNat aV).4,())) λk=>au k.1.1 (Z (N (aE .i64 i.1 1,()))) (Z (X () i))) (Z (X () i)))) (Z (H 0 i)))
    nd.cN.length (λi=>qB p (nd.cN.getD i aV)) (λi=>(X () ((i:Int),()):LO (Int×U) (Int×U) U Any)) m (λi f=>by
     have u:=g _ (cg aV f)
     let ⟨r,o,v,w,_,_⟩:=sizes (nd.cN.getD i aV) (by omega) 12 (by omega) (by omega)
     simp(disch:=omega)only[bf,VW];refine Ev.ai (o 0) ?_;unfold qB;by_cases e:pw (nd.cN.getD i aV)<=12
     .rw[gw e,eY];simp(disch:=omega)only[bf];refine Ev.ai (XX (p:=p) (by omega) (nd.cN.getD i aV) (by omega) 0) (aY λn=>?_);cases pW p.Cons (nd.cN.getD i aV)<;>simp(disch:=omega)only[bf,bF,ep,eu]
     .rw[gR e,jH];exact aY λn=>by simp(disch:=omega) [bf]) (λn=>by simp(disch:=omega) [bf])with⟨a,r⟩|⟨i,f,a,r⟩
   .rw[s4 (d:=aV) a];exact Ev.aT r (λn c=>_) _ bO
   .rw[kD (d:=aV) f a];refine Ev.aT r (λn c=>_) _ (aY λn=>?_);rw[wh];simp(disch:=omega)only[bf]<;>rfl
def arz(hs:Small p)(f:∀q∈nd.cN,pw q<=16)(hl:nd.cN.length<=10):Ev (λn=>F153 n (⟨p⟩,nd,())) ((mQ p nd,()),()):=by
 have i:=hs.cons;have d:=abZ hs f hl;unfold F153 uB mQ;simp[bf,arp];unfold QW N3 npB;by_cases c:nd.Op=15
 .rw[cn c,cn c,gw (Or.inl c),eY];have h1:isNil [(274,Ty.st 27),(297,Ty.int .i64),(298,Ty.st 28)] (gj 29 (dz.a0 ⟨⟩))=J:=rfl;have h2:jD [(274,Ty.st 27),(297,Ty.int .i64),(298,Ty.st 28)] 0 (gj 29 (dz.a0 ⟨⟩))=W:=rfl;refine Ev.fR (g:=λn=>wQ n (⟨p⟩,nd,()) ((decide (1<=(nd.cN.length:Int)∧(nd.cN.length:Int)<=5)&&decide ((nd.Kids.length:Int)=1+nd.cN.length),()),())) (λn=>?_) (d _);simp only[h1,h2];unfold F338;simp(disch:=omega) [bf,bN,xP,bF,nG,acH]
 .rw[bJ c,bJ c];by_cases h:nd.cN.length=0
  .rw[gw (Or.inr h),eY];by_cases a:nd.Op=14
   .rw[cn a,cn a];have h1:isNil [(274,Ty.st 27),(297,Ty.int .i64),(298,Ty.st 28)] (gj 29 (dz.a2 ⟨⟩))=J:=rfl;have h2:jD [(274,Ty.st 27),(297,Ty.int .i64),(298,Ty.st 28)] 0 (gj 29 (dz.a2 ⟨⟩))=J:=rfl;have h3:jD [(274,Ty.st 27),(297,Ty.int .i64),(298,Ty.st 28)] 1 (gj 29 (dz.a2 ⟨⟩))=J:=rfl;have h4:jD [(274,Ty.st 27),(297,Ty.int .i64),(298,Ty.st 28)] 2 (gj 29 (dz.a2 ⟨⟩))=W:=rfl;refine Ev.fR (g:=λn=>wQ n (⟨p⟩,nd,()) ((decide (0<=nd.N∧nd.N<p.Cons.length)&&decide ((nd.Kids.length:Int)=(p.Cons.getD nd.N.toNat bM).sd),()),())) (λn=>?_) (d _);simp only[h1,h2,h3,h4];unfold F340;by_cases e:0<=nd.N∧nd.N<p.Cons.length
    .rw[gw e,eY];simp(disch:=omega) [bf,bN,xP,cZ,gw (show 0<=nd.N∧nd.N<=(p.Cons.length:Int)-1 by omega),nG]
    .rw[gR e,jH];simp(disch:=omega) [bf,bN,xP,cZ,gR (show ¬(0<=nd.N∧nd.N<=(p.Cons.length:Int)-1)by omega)]
   .rw[bJ a,bJ a];by_cases b:1<=nd.Op∧nd.Op<=28
    .rw[cn b,cn b];generalize((sN.getD nd.Op.toNat 0:Nat):Int)=K;have h3:jD [(274,Ty.st 27),(297,Ty.int .i64),(298,Ty.st 28)] 1 (gj 29 (dz.a1 K))=W:=rfl;refine Ev.fR (g:=λn=>wQ n (⟨p⟩,nd,()) ((decide ((nd.Kids.length:Int)=K),()),())) (λn=>?_) (d _);simp(disch:=omega) [bf,bN,<-nG];rfl
    .rw[bJ b,bJ b];have h1:isNil [(274,Ty.st 27),(297,Ty.int .i64),(298,Ty.st 28)] (gj 29 dz.none)=W:=rfl;simp only[h1];exact aY λn=>by simp[bf,jH]
  .rw[show decide (nd.Op=15∨nd.cN.length=0)=J from gR (by omega),jH,jH,jH];by_cases a:nd.Op=14
   .rw[cn a];have h2:jD [(274,Ty.st 27),(297,Ty.int .i64),(298,Ty.st 28)] 0 (gj 29 (dz.a2 ⟨⟩))=J:=rfl;exact aY λn=>by simp(disch:=omega) [bf,YE]<;>rfl
   .rw[bJ a];by_cases b:1<=nd.Op∧nd.Op<=28
    .rw[cn b];generalize((sN.getD nd.Op.toNat 0:Nat):Int)=K;have h2:jD [(274,Ty.st 27),(297,Ty.int .i64),(298,Ty.st 28)] 0 (gj 29 (dz.a1 K))=J:=rfl;exact aY λn=>by simp(disch:=omega) [bf,YE]<;>rfl
    .rw[bJ b];have h1:isNil [(274,Ty.st 27),(297,Ty.int .i64),(298,Ty.st 28)] (gj 29 dz.none)=W:=rfl;simp[h1];exact aY λn=>by simp[bf]<;>rfl
end
end
section
section
variable {p:az}{nd:bw}
def ym(op a args:Int):Int:=if op=15 then 1+a else if op=14 then args else if 1<=op∧op<=28 then(sN.getD op.toNat 0:Nat)else -1
def e96{n:Nat}(op:Int){a args:Int}(h1:0<=a)(h2:a<=1000):F96 n (op,a,args,())=Z ((ym op a args,()),()):=by
 by_cases h:1<=op∧op<=28
 .by_cases b:op=15
  .subst b;unfold F96 HN Bl Bj ym;rw[cn rfl];simp(disch:=omega) [bf,bN,bF]
  .obtain ⟨k,rfl⟩:∃k:Nat,op=k:=⟨_,(xH (by omega)).symm⟩;have c:k<=28:=by omega
   match k,c,b with
   |0,_,_=>omega|1,_,_|2,_,_|3,_,_|4,_,_|5,_,_|6,_,_|7,_,_|8,_,_|9,_,_|10,_,_|11,_,_|12,_,_|13,_,_|14,_,_|16,_,_|17,_,_|18,_,_|19,_,_|20,_,_|21,_,_|22,_,_|23,_,_|24,_,_|25,_,_|26,_,_|27,_,_|28,_,_=>rfl|15,_,h=>omega|k+29,h,_=>omega
 .unfold F96 HN Bl Bj ym;rw[bJ (by omega),bJ (by omega),bJ h];simp(disch:=omega) [bf,bN]
def Xd{R B P:Type}{cons:L cO}(k:cons.length<=1000):∀(qs pre:L aG)(b:Bool),pre.length+qs.length<=1000->(∀q∈qs,pw q<=16)->
  ∀(F:Nat->Bool×Int×U->O (LO (Bool×Int×U) R B P)),
  (∀n h,F n h=au (aD h.2.1 (ax (pre++qs))) (au h.1 (aK (aC h.2.1 (pre++qs)) (ai (F83 n (@aZ aG (pre++qs) (ak h.2.1) aV,12,())) λi=>au (bA 0 i.1.1) (aK (aC h.2.1 (pre++qs)) (ai (F95 n (@aZ aG (pre++qs) (ak h.2.1) aV,cons,())) λj=>Z (N (j.1.1,aE .i64 h.2.1 1,())))) (Z (N (J,aE .i64 h.2.1 1,()))))) (Z (H 0 h))) (Z (H 0 h)))->
  ∃j,fj F (b,(pre.length:Int),()) (.out 0 (b&&qs.all (λq=>decide (pw q<=12)&&pW cons q),j,()))
 |[],pre,b,h3,f,F,a=>by refine⟨(pre.length:Int),.out (aY λn=>?_)⟩;rw[a];simp(disch:=omega) [bf,List.all_nil,Ab]<;>rfl
 |q::qs,pre,b,h3,f,F,a=>by
  simp at h3;cases b with
  |false=>refine⟨(pre.length:Int),.out (aY λn=>?_)⟩;rw[a];simp(disch:=omega) [bf,jH]<;>rfl|true=>
   have o:=f q fA;have l:(pre++q::qs).getD pre.length aV=q:=j7 ..
   let ⟨j,p⟩:=Xd k qs (pre++[q]) (decide (pw q<=12)&&pW cons q) (by simp;omega) (λm h=>f m (iB _ h)) F (λn e=>by rw[a];simp<;>rfl)
   refine⟨j,.next (y:=(decide (pw q<=12)&&pW cons q,((pre++[q]).length:Int),())) ?_ (by simp_all)⟩;refine Ev.fR (g:=λn=>ai (F83 n (q,12,())) λi=>au (bA 0 i.1.1) (ai (F95 n (q,cons,())) λj=>Z (N (j.1.1,(pre.length:Int)+1,()))) (Z (N (J,(pre.length:Int)+1,())))) (λn=>?_) (Ev.ai (e83 q (by omega) (by omega)) ?_)
   .rw[a];simp(disch:=first|omega|simp only[lz];omega)only[bf,l,bF]<;>rfl
   .by_cases c:pw q<=12
    .have d:((pw q:Nat):Int)<=12:=by omega
     rw[sM d,gw c,eY];simp(disch:=omega)only[bf];refine Ev.ai (ael k q (by omega) 0) (aY λn=>?_);rfl
    .rw[vO (by omega),gR c,jH]
     simp_all[aY,bf]
abbrev PY(p:az)(nd:bw)(args:Int)(n:Nat)(b:Bool):O ((Bool×U)×U):=
 ai (iter (λh:Bool×Int×U=>au (aD h.2.1 (ax nd.cN)) (au h.1 (aK (aC h.2.1 nd.cN) (ai (F83 n (@aZ aG nd.cN (ak h.2.1) aV,12,())) λi=>au (bA 0 i.1.1) (aK (aC h.2.1 nd.cN) (ai (F95 n (@aZ aG nd.cN (ak h.2.1) aV,p.Cons,())) λj=>Z (N (j.1.1,aE .i64 h.2.1 1,())))) (Z (N (J,aE .i64 h.2.1 1,()))))) (Z (H 0 h))) (Z (H 0 h))) n (b,0,()))
  λh=>bp (R:=Bool×U) (B:=U) (P:=Any) h (λ_ j=>au j.1 (ai (F96 n (nd.Op,ax nd.cN,args,())) λk=>Z ((aa (ax nd.Kids) k.1.1,()),())) (Z ((J,()),()))) (λ_ j=>Z (j,())) λ_ _=>Y
def ZH(hs:Small p)(a:∀q∈nd.cN,pw q<=16)(hl:nd.cN.length<=10)(args:Int)(b:Bool):Ev (λn=>PY p nd args n b) (((b&&nd.cN.all (qB p))&&decide ((nd.Kids.length:Int)=ym nd.Op nd.cN.length args),()),()):=by
 have e:=hs.cons
 let ⟨j,d⟩:=Xd (R:=Bool×U) (B:=U) (P:=Any) (cons:=p.Cons) (by omega) nd.cN [] b (by simp;omega) a _ (λn h=>rfl)
 refine Ev.aT (F:=λn h=>_) d (λn c=>_) _ (aY λn=>?_);show TL.au (b&&nd.cN.all (qB p)) _ _=_;cases b&&nd.cN.all (qB p)with|false=>rfl|true=>simp(disch:=omega) [bf,e96,nG,eY]
theorem e54(hs:Small p)(o:∀q∈nd.cN,pw q<=16)(hl:nd.cN.length<=10):Ev (λn=>F54 n (p,nd,())) ((mQ p nd,()),()):=by
 have v:=hs.cons;have w:=hs.zj;have s:Ih .i64 (p.dM.length:Int)=-(p.dM.length:Int):=zQ (by omega) (by omega);have d:aa (nd.cN.length:Int) 0=decide ((nd.cN.length:Int)=0):=nG ..;have t:=ZH (p:=p) (nd:=nd) hs o hl;have c:∀n args b,(ai (iter (λh:Bool×Int×U=>au (aD h.2.1 (nd.cN.length:Int)) (au h.1 (aK (aC h.2.1 nd.cN) (ai (F83 n (nd.cN.getD h.2.1.toNat aV,12,())) λi=>au (bA 0 i.1.1) (aK (aC h.2.1 nd.cN) (ai (F95 n (nd.cN.getD h.2.1.toNat aV,p.Cons,())) λj=>Z (N (j.1.1,aE .i64 h.2.1 1,())))) (Z (N (J,aE .i64 h.2.1 1,()))))) (Z (H 0 h))) (Z (H 0 h))) n (b,0,()))
  λh=>bp (R:=Bool×U) (B:=U) (P:=Any) h (λ_ j=>au j.1 (ai (F96 n (nd.Op,(nd.cN.length:Int),args,())) λk=>Z ((aa (nd.Kids.length:Int) k.1.1,()),())) (Z ((J,()),()))) (λ_ j=>Z (j,())) λ_ _=>Y)=PY p nd args n b:=λ_ _ _=>rfl
 have ev:∀{a:Nat->O ((Bool×U)×U)}(args:Int)(b r:Bool),(∀n,a n=PY p nd args n b)->((b&&nd.cN.all (qB p))&&decide ((nd.Kids.length:Int)=ym nd.Op nd.cN.length args))=r->Ev a ((r,()),()):=by
  grind[Ev.fR]
 unfold F54;by_cases u:nd.Op=15
 .refine ev 0 (decide (nd.N=0)&&decide (1<=(nd.cN.length:Int)∧(nd.cN.length:Int)<=5)) _ (λn=>?_) ?_
  .cases f:decide (nd.N=0)<;>(have l:aa nd.N 0=_:=(nG ..).trans f)<;>simp(disch:=omega)only[bf,bN,l,IP,jH,eY]<;>exact c ..
  .unfold mQ npB N3 DQ ym
   grind
 .have g:∀b:Bool,(b&&decide ((nd.cN.length:Int)=0))=(b&&npB nd):=by
   simp_all[npB]
  by_cases m:nd.Op=14
  .by_cases x:0<=nd.N∧nd.N<p.Cons.length
   .refine ev (p.Cons.getD nd.N.toNat bM).sd (decide ((nd.cN.length:Int)=0)) _ (λn=>?_) ?_
    .simp (disch:=omega)only[bf,bN,IP,cZ,gw (show 0<=nd.N∧nd.N<=(p.Cons.length:Int)-1 by omega),d];rfl
    .have:=g W;rw[eY,eY]at this;unfold mQ N3 DQ ym
     grind
   .refine ev 0 J _ (λn=>?_) ?_
    .simp (disch:=omega) [bf,bN,IP,cZ,gR (show ¬(0<=nd.N∧nd.N<=(p.Cons.length:Int)-1)by omega)];rfl
    .unfold mQ N3 DQ
     grind
  .have last:∀b:Bool,DQ p nd=b->((b&&decide ((nd.cN.length:Int)=0))&&nd.cN.all (qB p)&&decide ((nd.Kids.length:Int)=ym nd.Op nd.cN.length 0))=mQ p nd:=by
    intro b y;rw[g];unfold mQ;have z:N3 p nd=decide ((nd.Kids.length:Int)=ym nd.Op nd.cN.length 0):=by
     unfold N3 ym
     grind
    grind
   refine ev 0 (DQ p nd&&decide ((nd.cN.length:Int)=0)) _ (λn=>?_) (last _ rfl);unfold DQ;by_cases h1:nd.Op=1
   .rw[cn h1];have e:decide (-1000000000<=nd.N∧nd.N<=1000000000)=gT nd.N:=by simp[gT,Bool.decide_and]
    cases f:gT nd.N<;>simp(disch:=omega)only[bf,bN,IP,e,f,d,jH,eY]<;>exact c ..
   rw[bJ h1];by_cases h2:nd.Op=2
   .rw[cn h2];cases f:decide (0<=nd.N∧nd.N<=1)<;>simp(disch:=omega)only[bf,bN,IP,f,d,jH,eY]<;>exact c ..
   rw[bJ h2];by_cases h3:nd.Op=24
   .rw[cn h3];cases f:decide (0<=nd.N∧nd.N<=3)<;>simp(disch:=omega)only[bf,bN,IP,f,d,jH,eY]<;>exact c ..
   rw[bJ h3];by_cases h4:nd.Op=4
   .rw[cn h4];cases f:decide (-(p.dM.length:Int)<=nd.N∧nd.N<=29)<;>simp(disch:=omega)only[bf,s,bN,IP,f,d,jH,eY]<;>exact c ..
   rw[bJ h4,bJ m];cases f:decide (nd.N=0)<;>(have l:aa nd.N 0=_:=(nG ..).trans f)<;>simp(disch:=omega)only[bf,bN,l,d,jH,eY]<;>exact c ..
end
end
section
section
def DS(b:UInt8):Bool:=decide (97<=b.toNat∧b.toNat<=122)
def zg(s:L UInt8):Bool:=match s with
 |[]=>J|a::l=>(decide (l.length<=7)&&decide (65<=a.toNat∧a.toNat<=90))&&l.all DS
theorem vX(a:UInt8)(l:L UInt8):zg (a::l)=((decide (l.length<=7)&&decide (65<=a.toNat∧a.toNat<=90))&&l.all DS):=rfl
theorem KD(l:L UInt8)(i:Nat):mo l i=((l.getD i 0).toNat:Int):=rfl
variable {l:List UInt8}
def ary(hl:l.length<=1000):Ev (λn=>F161 n (l,())) ((l.all DS,()),()):=by
 have e:∀(i:Nat)(y:Int×U),(X () (J,()):LO (Int×U) (Bool×U) U Any)≠.next y:=λ_ _ h=>by cases h
 rcases eC (F:=λn c=>au (aD c.1 (ax l)) (aK (aC c.1 l) (au (aD (mo l c.1) 97) (Z (X () (J,()))) (aK (aC c.1 l) (au (aD 122 (mo l c.1)) (Z (X () (J,()))) (Z (N (aE .i64 c.1 1,()))))))) (Z (H 0 c))) l.length (λi=>DS (l.getD i 0)) (λ_=>(X () (J,()):LO (Int×U) (Bool×U) U Any)) e (λi b=>aY λn=>by
   unfold DS;by_cases h1:97<=(l.getD i 0).toNat
   .by_cases h2:(l.getD i 0).toNat<=122
    .simp (disch:=omega)only[bf,KD,gw (And.intro h1 h2),bF,ep,eu]
    .simp (disch:=omega)only[bf,KD,gR (λh:97<=(l.getD i 0).toNat∧(l.getD i 0).toNat<=122=>h2 h.2)]
   .simp (disch:=omega)only[bf,KD,gR (λh:97<=(l.getD i 0).toNat∧(l.getD i 0).toNat<=122=>h1 h.1)]) (λn=>by simp(disch:=omega) [bf]<;>rfl)with⟨a,r⟩|⟨i,b,a,r⟩
 .rw[s4 (d:=(0:UInt8)) a];exact Ev.aT r (λn c=>_) _ bO
 .rw[kD (d:=(0:UInt8)) b a];exact Ev.aT r (λn c=>_) _ bO
theorem Xe(l:L UInt8)(pos:Nat)(h:pos<l.length):(DS l[pos]=W∧uI l pos=(l[pos].toNat:Int)∧Ir l pos=1)∨(DS l[pos]=J∧(uI l pos<97∨122<uI l pos)):=by
 have a:pos<(bY l).size:=by simpa[bY,ByteArray.size]using h
 have b:(bY l)[pos]'a=l[pos]:=rfl;unfold DS uI Ir;by_cases h1:l[pos].toNat<128
 .have c:=decode_ascii (bY l) pos a (by grind)
  grind
 grind[decode_high]
def E6(F:Nat->(L UInt8×Nat)×U->O (LO ((L UInt8×Nat)×U) (Bool×U) ((L UInt8×Nat)×U) Any))
  (e:∀n c,F n c=au (QA c.1.2 c.1.1) (au (aD (uI c.1.1 c.1.2) 97) (Mi n c) (au (aD 122 (uI c.1.1 c.1.2)) (Mi n c) (Z (N ((c.1.1,adI c.1.2 (Ir c.1.1 c.1.2)),()))))) (Z (H 0 c))) :
  ∀(k:Nat)(l:L UInt8)(pos:Nat),pos+k=l.length->((l.drop pos).all DS=W∧∃c,fj F ((l,pos),()) (.out 0 c))∨((l.drop pos).all DS=J∧∃c,fj F ((l,pos),()) (.ret c (J,())))
 |0,l,pos,h=>by
  refine .inl ⟨by simp_all,((l,pos),()),.out (aY λn=>?_)⟩
  simp_all[QA,bf]
 |k+1,l,pos,h=>by
  have f:pos<l.length:=by omega
  have i:l.drop pos=l[pos]::l.drop (pos+1):=Xt f;have d:QA pos l=W:=gw f;rw[i,List.all_cons];obtain⟨a,b,c⟩|⟨a,b⟩:=Xe l pos f
  .have j:97<=l[pos].toNat∧l[pos].toNat<=122:=S1 a;rw[a,eY];have g:Ev (λn=>F n ((l,pos),())) (.next ((l,pos+1),())):=aY λn=>by rw[e];simp(disch:=omega)only[bf,d,c];rfl
   obtain⟨x,y,z⟩|⟨x,y,z⟩:=E6 F e k l (pos+1) (by omega)
   .exact .inl ⟨x,y,.next g z⟩
   .exact .inr ⟨x,y,.next g z⟩
  .rw[a,jH];refine .inr ⟨rfl,((l,adI pos (Ir l pos)),()),.ret (aY λn=>?_)⟩;rw[e];obtain b|b:=b
   .simp (disch:=omega) [bf,d]<;>rfl
   .by_cases m:uI l pos<97
    .simp (disch:=omega) [bf,d]<;>rfl
    .simp (disch:=omega) [bf,d]<;>rfl
def arl(l:L UInt8):Ev (λn=>F257 n (l,())) ((l.all DS,()),()):=by
 obtain⟨a,c,r⟩|⟨a,c,r⟩:=E6 _ (λn c=>rfl) l.length l 0 (by omega)
 .rw[List.drop_zero]at a;rw[a];exact Ev.aT (F:=λn c=>_) r (λn c=>_) _ bO
 .rw[List.drop_zero]at a;rw[a];exact Ev.aT (F:=λn c=>_) r (λn c=>_) _ bO
def GB{G:Nat->L UInt8->O ((Bool×U)×U)}{a:UInt8}(h:Ev (λn=>G n l) ((l.all DS,()),()))(hl:l.length<=7) :
  Ev (λn=>aK (aC 0 (a::l)) (au (bA 65 (mo (a::l) 0)) (aK (aC 0 (a::l)) (au (bA (mo (a::l) 0) 90) (aK (iJ 1 (ax (a::l)) (ax (a::l))) (ai (G n (eZ (a::l) 1 (ax (a::l)))) λc=>Z c)) (Z ((J,()),())))) (Z ((J,()),())))) ((zg (a::l),()),()):=by
 rw[vX,gw hl,eY];have e:mo (a::l) 0=(a.toNat:Int):=rfl;by_cases h1:65<=a.toNat
 .by_cases h2:a.toNat<=90
  .rw[gw (And.intro h1 h2),eY];simp(disch:=first|omega|simp only[lz];omega)only[bf,so];exact Ev.ai h (Ev.pure _)
  .rw[gR (λh:65<=a.toNat∧a.toNat<=90=>h2 h.2),jH];exact aY λn=>by simp(disch:=first|omega|simp only[lz];omega)only[bf]
 .rw[gR (λh:65<=a.toNat∧a.toNat<=90=>h1 h.1),jH];exact aY λn=>by simp(disch:=first|omega|simp only[lz];omega)only[bf]
def e93{s:L UInt8}(hs:s.length<=1000):Ev (λn=>F93 n (s,())) ((zg s,()),()):=by
 unfold F93;cases s with
 |nil=>exact aY λn=>by simp(disch:=omega)only[bf]<;>rfl
 |cons a l=>
  by_cases h:l.length<=7
  .have:=GB (G:=λn l=>F161 n (l,())) (a:=a) (ary (l:=l) (by omega)) h;refine Ev.fR (λn=>?_) this;simp only[ax,qH];rw[tu (by omega),tu (by omega)]
  .rw[vX,gR h,jH,jH];exact aY λn=>by simp(disch:=omega) [bf]
theorem ars{s:L UInt8}(hs:s.length<=1000):Ev (λn=>F197 n (s,())) ((zg s,()),()):=by
 unfold F197;cases s with
 |nil=>exact bO|cons a l=>
  have b:gG (a::l) []=J:=rfl;by_cases h:l.length<=7
  .have:=GB (G:=λn l=>F257 n (l,())) (a:=a) (arl l) h;refine Ev.fR (λn=>?_) this;simp[b];rw[dG,E4,tu (by grind[ax])]
  .rw[vX,gR h,jH,jH];exact aY λn=>by simp(disch:=omega) [bf,b]
def Hp(c:cO):Bool:=zg c.Name&&decide (0<=c.sd∧c.sd<=3)
def arB{c:cO}(hs:c.Name.length<=1000):Ev (λn=>F148 n (c,())) ((Hp c,()),()):=by unfold F148 Hp;refine Ev.ai (ars hs) (aY λn=>?_);cases zg c.Name<;>simp only[bf,xP,eY,jH]
theorem y7{α:Type}{l:L α}{i:Nat}(d:α)(h:i<l.length):(l.take (i+1)).Nodup↔(l.take i).Nodup∧l.getD i d∉l.take i:=by
 rw[<-take_succ d h,Qr]
 grind
theorem arC{l:L (L UInt8)}{s:L UInt8}(hl:l.length<=1000):Ev (λn=>F142 n (l,s,())) ((decide (s∈l),()),()):=by
 have b:∀(i:Nat)(y:Int×U),(X () (W,()):LO (Int×U) (Bool×U) U Any)≠.next y:=λ_ _ h=>by cases h
 rcases eC (F:=λn c=>au (aD c.1 (ax l)) (aK (aC c.1 l) (au (gG (aZ l (ak c.1) []) s) (Z (X () (W,()))) (Z (N (aE .i64 c.1 1,()))))) (Z (H 0 c))) l.length (λi=>!(gG (l.getD i []) s)) (λ_=>(X () (W,()):LO (Int×U) (Bool×U) U Any)) b (λi e=>aY λn=>by
   cases f:gG (l.getD i []) s<;>simp(disch:=omega)only[bf,f,bF,ep,eu,DN,KL]) (λn=>by simp(disch:=omega) [bf]<;>rfl)with⟨a,r⟩|⟨i,e,a,r⟩
 .have:s∉l:=by intro g;have:=ir (d:=([]:L UInt8)) (Q:=λx=>(!(gG x s))=W) a s g;simp[gG]at this
  rw[gR this];exact Ev.aT r (λn c=>_) _ bO
 .have:s∈l:=by
   grind[gG]
  rw[gw this];exact Ev.aT r (λn c=>_) _ bO
theorem e94{l:L (L UInt8)}(hl:l.length<=1000):∃b,Ev (λn=>F94 n (l,())) ((b,()),())∧(b=W↔l.Nodup):=by
 have e:∀(i:Nat)(y:Int×U),(X () (J,()):LO (Int×U) (Bool×U) U Any)≠.next y:=λ_ _ h=>by cases h
 rcases eC (F:=λn c=>au (aD c.1 (ax l)) (aK (iJ 0 c.1 (ax l)) (aK (aC c.1 l) (ai (F142 n (eZ l 0 c.1,aZ l (ak c.1) [],())) λd=>au d.1.1 (Z (X () (J,()))) (Z (N (aE .i64 c.1 1,())))))) (Z (H 0 c))) l.length (λi=>!(decide (l.getD i []∈l.take i))) (λ_=>(X () (J,()):LO (Int×U) (Bool×U) U Any)) e (λi f=>by
   simp(disch:=omega)only[bf,oK];refine Ev.ai (arC (by grind)) (aY λn=>?_);cases j:decide (l.getD i []∈l.take i)<;>simp(disch:=omega)only[bf,bF,ep,eu,DN,KL]) (λn=>by simp(disch:=omega) [bf]<;>rfl)with⟨a,r⟩|⟨i,f,a,r⟩
 .refine ⟨W,Ev.aT r (λn c=>_) _ bO,λ_=>?_,λ_=>rfl⟩;have:∀i,i<=l.length->(l.take i).Nodup:=by
   intro i
   induction i with
   |zero=>intro _;simp
   |succ i k=>
    grind[y7]
  have:=this l.length (cu _);rwa [tF]at this
 .refine ⟨J,Ev.aT r (λn c=>_) _ bO,(λh=>by cases h),λg=>?_⟩;have h1:(l.take (i+1)).Nodup:=List.Nodup.sublist (List.take_sublist _ _) g
  grind[y7]
end
end
section
def Own(n:Nat)(o:L Int)(a:L Int):Prop:=o.length=n∧∀i:Nat,i<n->o.getD i 0=(a.count (i:Int):Nat)
def I3(n:Nat)(u:L Bool)(a:L Int):Prop:=u.length=n∧∀i:Nat,i<n->(u.getD i J=W↔(i:Int)∈a)
theorem Own.step{n:Nat}{o c:L Int}(h:Own n o c){k:Int}(d:0<=k)(h1:k<n):Own n (o.set k.toNat (o.getD k.toNat 0+1)) (c++[k]):=by
 let ⟨a,b⟩:=h
 refine⟨by simp_all,λi e=>?_⟩
 grind
theorem I3.step{n:Nat}{u:L Bool}{c:L Int}(h:I3 n u c){k:Int}(d:0<=k)(h1:k<n):I3 n (u.set k.toNat W) (c++[k]):=by
 let ⟨a,b⟩:=h
 refine⟨by simp_all,λi e=>?_⟩
 grind
abbrev QD(N:Nat)(l:L Int)(lo:Int)(n:Nat)(c:L Int×Int×U):O (LO (L Int×Int×U) (Bool×U) U Any):=
 au (aD c.2.1 (ax l)) (aK (aC c.2.1 l) (ai (F146 n (aZ l (ak c.2.1) 0,lo,(N:Int)-1,())) λq=>au (aq q.1.1) (Z (X () (J,()))) (aK (aC (aZ l (ak c.2.1) 0) c.1) (aK (cJ (ak (aZ l (ak c.2.1) 0)) c.1) (aK (aC (aZ l (ak c.2.1) 0) c.1) (aK (cJ (ak (aZ l (ak c.2.1) 0)) c.1)
  (Z (LO.next (eg c.1 (ak (aZ l (ak c.2.1) 0)) (aE .i64 (aZ c.1 (ak (aZ l (ak c.2.1) 0)) 0) 1),aE .i64 c.2.1 1,()))))))))) (Z (H 0 c))
theorem FG{N:Nat}{lo:Int}(hlo:0<=lo):∀(l pre:L Int)(o d:L Int),Own N o d->d.length+l.length<=100000->pre.length+l.length<=100000->
  ((∀k∈l,lo<=k∧k<N)∧∃e,Own N e (d++l)∧fj (λn c=>QD N (pre++l) lo n c) (o,(pre.length:Int),()) (.out 0 (e,((pre++l).length:Int),())))∨
  (¬(∀k∈l,lo<=k∧k<N)∧fj (λn c=>QD N (pre++l) lo n c) (o,(pre.length:Int),()) (.ret () (J,())))
 |[],pre,o,d,f,h1,h2=>by
  refine .inl ⟨by simp,o,by simp_all,.out (aY λn=>?_)⟩
  simp_all[bf]
 |k::l,pre,o,d,f,h1,h2=>by
  simp at h1 h2;have g:(pre++k::l).getD pre.length 0=k:=j7 ..;have p:=f.1;by_cases i:lo<=k∧k<N
  .have r:=f.2 k.toNat (by omega);have q:=List.count_le_length (a:=((k.toNat:Nat):Int)) (l:=d);have j:Ev (λn=>QD N (pre++k::l) lo n (o,(pre.length:Int),())) (.next (o.set k.toNat (o.getD k.toNat 0+1),((pre++[k]).length:Int),())):=by refine aY λn=>?_;simp(disch:=first|omega|simp only[lz];omega)only[bf,QD,g,xP,gw (show lo<=k∧k<=(N:Int)-1 by omega),bF,ep,eu,qG]
   rcases FG hlo l (pre++[k]) _ (d++[k]) (f.step (by omega) i.2) (by simp;omega) (by simp;omega)with⟨a,e,b,c⟩|⟨a,c⟩
   .refine .inl ⟨λx m=>?_,e,by simp_all,.next j (by simp_all)⟩
    grind
   .exact .inr ⟨λh=>a λx m=>h x (iB _ m),.next j (by simp_all)⟩
  .refine .inr ⟨λh=>i (h k fA),.ret (aY λn=>?_)⟩;simp(disch:=first|omega|simp only[lz];omega)only[bf,QD,g,xP,gR (show ¬(lo<=k∧k<=(N:Int)-1)by omega)]
abbrev v8(N:Nat)(l:L Int)(lo:Int)(n:Nat)(c:L Bool×Int×U):O (LO (L Bool×Int×U) (Bool×U) U Any):=
 au (aD c.2.1 (ax l)) (aK (aC c.2.1 l) (ai (F52 n (aZ l (ak c.2.1) 0,lo,(N:Int)-1,())) λh=>au (aq h.1.1) (Z (X () (J,()))) (aK (aC (aZ l (ak c.2.1) 0) c.1) (aK (cJ (ak (aZ l (ak c.2.1) 0)) c.1) (au (aZ c.1 (ak (aZ l (ak c.2.1) 0)) J) (Z (X () (J,())))
  (aK (aC (aZ l (ak c.2.1) 0) c.1) (aK (cJ (ak (aZ l (ak c.2.1) 0)) c.1) (Z (LO.next (eg c.1 (ak (aZ l (ak c.2.1) 0)) W,aE .i64 c.2.1 1,())))))))))) (Z (H 0 c))
theorem BW{N:Nat}{lo:Int}(hlo:0<=lo):∀(l pre:L Int)(u:L Bool)(d:L Int),I3 N u d->d.Nodup->pre.length+l.length<=100000->
  (((∀k∈l,lo<=k∧k<N)∧(d++l).Nodup)∧∃j,I3 N j (d++l)∧fj (λn c=>v8 N (pre++l) lo n c) (u,(pre.length:Int),()) (.out 0 (j,((pre++l).length:Int),())))∨
  (¬((∀k∈l,lo<=k∧k<N)∧(d++l).Nodup)∧fj (λn c=>v8 N (pre++l) lo n c) (u,(pre.length:Int),()) (.ret () (J,())))
 |[],pre,u,d,f,m,h2=>by
  refine .inl ⟨⟨by simp,by simp_all⟩,u,by simp_all,.out (aY λn=>?_)⟩
  simp_all[bf]
 |k::l,pre,u,d,f,m,h2=>by
  simp at h2;have g:(pre++k::l).getD pre.length 0=k:=j7 ..;have t:=f.1;by_cases o:lo<=k∧k<N
  .have v:=f.2 k.toNat (by omega);rw[show((k.toNat:Nat):Int)=k by omega]at v;cases p:u.getD k.toNat J with
   |true=>
    refine .inr ⟨λh=>?_,.ret (aY λn=>?_)⟩
    .grind
    .simp (disch:=first|omega|simp only[lz];omega)only[bf,v8,g,IP,gw (show lo<=k∧k<=(N:Int)-1 by omega),p]
   |false=>
    have i:(d++[k]).Nodup:=Qr.2 ⟨m,List.pairwise_singleton _ _,λa y b z=>by
     grind⟩
    have q:Ev (λn=>v8 N (pre++k::l) lo n (u,(pre.length:Int),())) (.next (u.set k.toNat W,((pre++[k]).length:Int),())):=by refine aY λn=>?_;simp(disch:=first|omega|simp only[lz];omega)only[bf,v8,g,IP,gw (show lo<=k∧k<=(N:Int)-1 by omega),p,bF,ep,eu,qG]
    have e:d++[k]++l=d++k::l:=by simp
    rcases BW hlo l (pre++[k]) _ (d++[k]) (f.step (by omega) o.2) i (by simp;omega)with⟨⟨a,r⟩,w,b,c⟩|⟨a,c⟩
    .rw[e]at r b;refine .inl ⟨⟨λx s=>?_,r⟩,w,b,.next q (by simp_all)⟩
     grind
    .rw[e]at a;exact .inr ⟨λh=>a ⟨λx s=>h.1 x (iB _ s),h.2⟩,.next q (by simp_all)⟩
  .refine .inr ⟨λh=>o (h.1 k fA),.ret (aY λn=>?_)⟩;simp(disch:=first|omega|simp only[lz];omega)only[bf,v8,g,IP,gR (show ¬(lo<=k∧k<=(N:Int)-1)by omega)]
theorem Own.zero(N:Nat):Own N (KJ N 0) []:=⟨by simp[KJ],λi a=>by grind[KJ]⟩
theorem I3.zero(N:Nat):I3 N (KJ N J) []:=⟨by simp[KJ],λi a=>by grind[KJ]⟩
def rZ(N:Nat):Nat->L bw->Prop
 |_,[]=>True|i,nd::l=>(∀k∈nd.Kids,(i:Int)+1<=k∧k<N)∧rZ N (i+1) l
end
section
section
variable {p:az}
theorem N4{k:L UInt8}:∀m:L (L UInt8×Bool),((ni (A:=sg.A) Ty.str k W m).map Prod.fst)=if k∈m.map Prod.fst then m.map Prod.fst else m.map Prod.fst++[k]
 |[]=>by simp[ni]
 |q::m=>by
  have a:Lg (A:=sg.A) Ty.str k q.1=decide (k=q.1):=by show gG k q.1=_;by_cases h:k=q.1<;>simp[gG,h]
  unfold ni;rw[a];by_cases h:k=q.1
  .simp_all
  .rw[gR h];simp only[ez,kW];rw[N4 m]
   grind
structure LY(l:List (List UInt8))(i:Nat)(m:List (List UInt8×Bool)):Prop where
 mem:∀x,x∈m.map Prod.fst↔x∈l.take i
 le:m.length<=i
 eq:m.length=i↔(l.take i).Nodup
theorem LY.step{l:L (L UInt8)}{i:Nat}{m:L (L UInt8×Bool)}(h:LY l i m)(d:i<l.length):LY l (i+1) (ni (A:=sg.A) Ty.str (l.getD i []) W m):=by
 have e:=N4 (k:=l.getD i []) m;have a:(ni (A:=sg.A) Ty.str (l.getD i []) W m).length=if l.getD i []∈m.map Prod.fst then m.length else m.length+1:=by have:=pU List.length e;rw[rH]at this;rw[this];split<;>simp
 have f:=y7 ([]:L UInt8) d;refine⟨λx=>?_,?_,?_⟩
 .rw[e,<-take_succ [] d,dW,oa];split
  .rename_i c;rw[h.mem];exact⟨.inl,λb=>b.elim id λb=>by rw[b];exact(h.mem _).1 c⟩
  .rw[dW,oa,h.mem]
 .rw[a];have:=h.le;split<;>omega
 .rw[a,f];have:=h.le;by_cases c:l.getD i []∈m.map Prod.fst
  .rw[cn c];exact⟨λb=>by omega,λb=>absurd ((h.mem _).1 c) b.2⟩
  .have g:l.getD i []∉l.take i:=λb=>c ((h.mem _).2 b);rw[<-h.eq]
   simp_all
theorem arA{l:L (L UInt8)}(hl:l.length<=1000):∃b,Ev (λn=>F149 n (l,())) ((b,()),())∧(b=W↔l.Nodup):=by
 let a:Nat->L (L UInt8×Bool):=λi=>Nat.rec [] (λi m=>ni (A:=sg.A) Ty.str (l.getD i []) W m) i
 have d:∀i,i<=l.length->LY l i (a i):=by
  intro i
  induction i with|zero=>intro _;rw[show a 0=[]from rfl];exact⟨by simp,by simp,by simp⟩|succ i e=>intro f;exact(e (by omega)).step (by omega)
 have g:=gn (F:=λn c=>au (aD c.1 (ax l)) (aK (aC c.1 l) (Z (N (aE .i64 c.1 1,ni (A:=sg.A) Ty.str (aZ l (ak c.1) []) W c.2.1,())))) (Z (H (R:=Bool×U) (B:=L (L UInt8×Bool)×U) (P:=Any) 0 c))) l.length (λi=>((i:Int),a i,())) 0 (λi f=>aY λn=>by simp(disch:=omega)only[bf,bF,ep,eu]<;>rfl) (aY λn=>by simp(disch:=omega) [bf]<;>rfl);have h:=d l.length (cu _);refine⟨decide ((a l.length).length=l.length),Ev.aT g (λn c=>_) _ (aY λn=>?_),?_⟩
 .rw[dD];simp only[nG,ax]
  congr 3
  grind
 .rw[decide_eq_true_iff,h.eq,tF]
theorem e53{l:L cO}(hl:l.length<=1000)(hs:∀c∈l,c.Name.length<=1000):∃b,Ev (λn=>F53 n (l,())) ((b,()),())∧(b=W↔(∀c∈l,Hp c=W)∧l.length<=20∧(l.map cO.Name).Nodup):=by
 have p:∀(i:Nat)(y:L (L UInt8)×Int×U),(X () (J,()):LO (L (L UInt8)×Int×U) (Bool×U) U Any)≠.next y:=λ_ _ h=>by cases h
 rcases pE (F:=λn c=>au (aD c.2.1 (ax l)) (aK (aC c.2.1 l) (ai (F93 n ((aZ l (ak c.2.1) bM).1,())) λd=>au (aq d.1.1) (Z (X () (J,()))) (aK (aC c.2.1 l) (ai (F52 n ((aZ l (ak c.2.1) bM).2,0,3,())) λe=>au (aq e.1.1) (Z (X () (J,()))) (aK (aC c.2.1 l) (aK (dB c.1 [(aZ l (ak c.2.1) bM).1]) (Z (N (cX c.1 [(aZ l (ak c.2.1) bM).1],aE .i64 c.2.1 1,()))))))))) (Z (H 0 c)))
  l.length (λi=>((l.take i).map cO.Name,(i:Int),())) (λi=>Hp (l.getD i bM)) (λ_=>(X () (J,()):LO (L (L UInt8)×Int×U) (Bool×U) U Any)) 0 p (λi k _=>by
   simp(disch:=omega)only[bf];refine Ev.ai (e93 (hs _ (cg bM k))) ?_;unfold Hp;cases zg (l.getD i bM).Name with
   |false=>simp_all[aY,bf]|true=>
    refine aY λn=>?_;have f:dB (List.map cO.Name (List.take i l)) [(l.getD i bM).Name]=W:=GM.2 (by simp;omega);cases m:decide (0<=(l.getD i bM).sd∧(l.getD i bM).sd<=3)with
    |false=>simp only[bf,IP,m,eY]|true=>
     simp(disch:=omega)only[bf,IP,m,eY,f,bF,ep,eu]
     grind[take_succ]) (λ_=>aY λn=>by simp(disch:=omega) [bf]<;>rfl)with⟨a,r⟩|⟨i,k,a,_,r⟩
 .rw[tF]at r
  let ⟨b,g,q⟩:=e94 (l:=l.map cO.Name) (by simp_all)
  have o:∀c∈l,Hp c=W:=ir (d:=bM) a;by_cases j:l.length<=20
  .refine ⟨b,Ev.aT r (λn c=>_) _ ?_,by simp_all⟩;refine Ev.fR (λn=>dD ..) ?_;simp(disch:=omega) [bf];exact Ev.ai g (Ev.pure _)
  .refine ⟨J,Ev.aT r (λn c=>_) _ (aY λn=>?_),(λh=>by cases h),λh=>absurd h.2.1 j⟩;rw[dD];simp(disch:=omega) [bf]
 .refine ⟨J,Ev.aT r (λn c=>_) _ bO,(λh=>by cases h),λh=>?_⟩
  simp_all
structure FP(p:az):Prop where
 nodes:p.bh.length<=300
 zj:1<=p.dM.length∧p.dM.length<=p.bh.length
 main:0<=p.Main∧p.Main<p.dM.length
 TE:p.Cons.length<=20
 cons:∀c∈p.Cons,Hp c=W
 names:(p.Cons.map cO.Name).Nodup
 nds:∀nd∈p.bh,mQ p nd=W
 fr:∀k∈p.dM,0<=k∧k<p.bh.length
 kr:rZ p.bh.length 0 p.bh
 ug:(p.dM++p.bh.flatMap bw.Kids).Nodup
 all:∀i:Nat,i<p.bh.length->(i:Int)∈p.dM++p.bh.flatMap bw.Kids
abbrev Vr(p:az)(n:Nat)(s:L Int×Int×U):O (LO (L Int×Int×U) (Bool×U) U Any):=
 au (aD s.2.1 (ax p.bh)) (aK (aC s.2.1 p.bh) (ai (iter (QD p.bh.length (aZ p.bh (ak s.2.1) aW).3 (aE .i64 s.2.1 1) n) n (s.1,0,())) λt=>bp t (λ_ v=>Z (N (v.1,aE .i64 s.2.1 1,()))) (λ_ v=>Z (X () v)) λ_ _=>Y)) (Z (H 0 s))
def N2(hs:Small p):∀(g pre:L bw)(o i:L Int),p.bh=pre++g->Own p.bh.length o i->i.length+10*g.length<=100000->
  (rZ p.bh.length pre.length g∧∃l,Own p.bh.length l (i++g.flatMap bw.Kids)∧fj (λn c=>Vr p n c) (o,(pre.length:Int),()) (.out 0 (l,(p.bh.length:Int),())))∨
  (¬rZ p.bh.length pre.length g∧fj (λn c=>Vr p n c) (o,(pre.length:Int),()) (.ret () (J,())))
 |[],pre,o,i,j,k,m=>by
  have:p.bh.length=pre.length:=by rw[j];simp
  refine .inl ⟨trivial,o,by simpa using k,?_⟩;refine .out (aY λn=>?_)
  simp_all[bf]
 |nd::g,pre,o,i,j,k,m=>by
  have t:=hs.nodes;have w:p.bh.length=pre.length+(g.length+1):=by rw[j];simp
  have q:p.bh.getD pre.length aW=nd:=by simp_all
  have u:=(hs.nds nd (by rw[j];simp)).1;simp at m;rcases FG (N:=p.bh.length) (lo:=(pre.length:Int)+1) (by omega) nd.Kids [] o i k (by omega) (by simp;omega)with⟨a,r,b,c⟩|⟨a,c⟩
  .have s:Ev (λn=>Vr p n (o,(pre.length:Int),())) (.next (r,((pre++[nd]).length:Int),())):=by simp(disch:=omega)only[bf,Vr,q,bF];refine Ev.aT c (λn c=>_) _ (aY λn=>?_);rfl
   rcases N2 hs g (pre++[nd]) r (i++nd.Kids) (by rw[j];simp) b (by simp;omega)with⟨d,v,e,f⟩|⟨d,f⟩
   .rw[show(pre++[nd]).length=pre.length+1 by simp]at d;exact .inl ⟨⟨a,d⟩,v,by simp_all,.next s f⟩
   .rw[show(pre++[nd]).length=pre.length+1 by simp]at d;exact .inr ⟨λh=>d h.2,.next s f⟩
  .refine .inr ⟨λh=>a h.1,.ret ?_⟩;simp(disch:=omega)only[bf,Vr,q,bF];exact Ev.aT c (λn c=>_) _ bO
abbrev QX(p:az)(n:Nat)(j:L Bool×Int×U):O (LO (L Bool×Int×U) (Bool×U) U Any):=
 au (aD j.2.1 (ax p.bh)) (aK (aC j.2.1 p.bh) (ai (F54 n (p,aZ p.bh (ak j.2.1) aW,())) λk=>au (aq k.1.1) (Z (X () (J,()))) (ai (iter (v8 p.bh.length (aZ p.bh (ak j.2.1) aW).3 (aE .i64 j.2.1 1) n) n (j.1,0,())) λl=>bp l (λ_ o=>Z (N (o.1,aE .i64 j.2.1 1,()))) (λ_ o=>Z (X () o)) λ_ _=>Y))) (Z (H 0 j))
theorem JF(hs:Small p):∀(g pre:L bw)(u:L Bool)(i:L Int),p.bh=pre++g->I3 p.bh.length u i->i.Nodup->
  (((∀nd∈g,mQ p nd=W)∧rZ p.bh.length pre.length g∧(i++g.flatMap bw.Kids).Nodup)∧∃y,I3 p.bh.length y (i++g.flatMap bw.Kids)∧fj (λn c=>QX p n c) (u,(pre.length:Int),()) (.out 0 (y,(p.bh.length:Int),())))∨
  (¬((∀nd∈g,mQ p nd=W)∧rZ p.bh.length pre.length g∧(i++g.flatMap bw.Kids).Nodup)∧fj (λn c=>QX p n c) (u,(pre.length:Int),()) (.ret () (J,())))
 |[],pre,u,i,k,s,t=>by
  have:p.bh.length=pre.length:=by rw[k];simp
  refine .inl ⟨⟨by simp,trivial,by simpa using t⟩,u,by simpa using s,?_⟩;refine .out (aY λn=>?_)
  simp_all[bf]
 |nd::g,pre,u,i,k,s,t=>by
  have A:=hs.nodes;have K:p.bh.length=pre.length+(g.length+1):=by rw[k];simp
  have B:p.bh.getD pre.length aW=nd:=by simp_all
  let ⟨C,v,w⟩:=hs.nds nd (by rw[k];simp)
  have E:=e54 hs w v;have j:∀{o:LO (L Bool×Int×U) (Bool×U) U Any},Ev (λn=>au (aq (mQ p nd)) (Z (X () (J,()))) (ai (iter (v8 p.bh.length nd.Kids ((pre.length:Int)+1) n) n (u,0,())) λl=>bp l (λ_ o=>Z (LO.next (o.1,(pre.length:Int)+1,()))) (λ_ o=>Z (X () o)) λ_ _=>Y)) o->Ev (λn=>QX p n (u,(pre.length:Int),())) o:=by intro o h;simp(disch:=omega)only[bf,QX,B,bF];refine Ev.ai E ?_;simpa only[bf]using h
  cases m:mQ p nd with
  |false=>
   refine .inr ⟨λh=>?_,.ret (j ?_)⟩
   .simp_all
   .rw[m];exact bO
  |true=>
   rw[m]at j;rcases BW (N:=p.bh.length) (lo:=(pre.length:Int)+1) (by omega) nd.Kids [] u i s t (by simp;omega)with⟨⟨a,F⟩,z,b,c⟩|⟨a,c⟩
   .have q:Ev (λn=>QX p n (u,(pre.length:Int),())) (.next (z,((pre++[nd]).length:Int),())):=by refine j ?_;simp only[bf];refine Ev.aT c (λn c=>_) _ (aY λn=>?_);rfl
    have r:i++nd.Kids++g.flatMap bw.Kids=i++(nd::g).flatMap bw.Kids:=by simp
    rcases JF hs g (pre++[nd]) z (i++nd.Kids) (by rw[k];simp) b F with⟨⟨d1,d2,d3⟩,I,e,f⟩|⟨d,f⟩
    .rw[show(pre++[nd]).length=pre.length+1 by simp]at d2;rw[r]at d3 e;refine .inl ⟨⟨λx q=>?_,⟨a,d2⟩,d3⟩,I,e,.next q f⟩
     grind
    .rw[show(pre++[nd]).length=pre.length+1 by simp,r]at d;exact .inr ⟨λh=>d ⟨λx q=>h.1 x (iB _ q),h.2.1.2,h.2.2⟩,.next q f⟩
   .refine .inr ⟨λh=>a ⟨h.2.1.1,?_⟩,.ret (j ?_)⟩
    .grind
    .exact Ev.aT c (λn c=>_) _ bO
end
end
section
section
variable {p:az}
def u6{Q:Prop}{F:Nat->O ((Bool×U)×U)}(hn:¬Q)(h:Ev F ((J,()),())):∃b,Ev F ((b,()),())∧(b=W↔Q):=⟨J,h,λh=>(by cases h),λh=>absurd h hn⟩
theorem J0{b:L Int}{N:Nat}(c:∀k∈b,0<=k∧k<N):(∀i:Nat,i<N->b.count (i:Int)=1)↔b.Nodup∧∀i:Nat,i<N->(i:Int)∈b:=by
 constructor
 .intro h;refine⟨List.nodup_iff_count.2 λa=>?_,λi e=>List.count_pos_iff.1 (by grind)⟩;by_cases d:a∈b
  .have:=c a d;have:=h a.toNat (by omega)
   grind
  grind
 grind
theorem Gk{N:Nat}:∀{l:L bw}{i:Nat},rZ N i l->∀k∈l.flatMap bw.Kids,0<=k∧k<N
 |[],_,_,k,h=>by simp at h
 |nd::l,i,a,k,h=>by
  obtain h|h:=dW.1 h
  .have:=a.1 k h;omega
  .exact Gk a.2 k h
theorem akN(hs:Small p):∃b,Ev (λn=>Pu n (⟨p⟩,())) ((b,()),())∧(b=W↔(∀k∈p.dM,0<=k∧k<p.bh.length)∧rZ p.bh.length 0 p.bh∧(p.dM++p.bh.flatMap bw.Kids).Nodup∧∀i:Nat,i<p.bh.length->(i:Int)∈p.dM++p.bh.flatMap bw.Kids):=by
 have h1:=hs.nodes;have h2:=hs.zj;have A:bS .i64 (ax p.bh) 1=(p.bh.length:Int)-1:=cZ (a:=(p.bh.length:Int)) (by omega) (by omega);have mk:mkN (ax p.bh)=W:=by
  grind[mkN,ax]
 have C:ak (ax p.bh)=p.bh.length:=rfl;have start:∀{r:(Bool×U)×U},Ev (λn=>ai (iter (QD p.bh.length p.dM 0 n) n (KJ p.bh.length 0,0,())) λq=>bp q (λ_ r=>ai (iter (Vr p n) n (r.1,0,())) λs=>bp s (λ_ u=>ai (iter (λv:Int×U=>au (aD v.1 (ax u.1)) (aK (aC v.1 u.1) (aK (cJ (ak v.1) u.1) (ai (F155 n (aZ u.1 (ak v.1) 0,())) λw=>au (aq w.1.1) (Z (X (B:=U) (P:=Any) () v)) (Z (LO.next (aE .i64 v.1 1,())))))) (Z (H 0 v))) n (0,())) λv=>bp v (λ_ _=>Z ((aq J,()),())) (λ_ x=>Z ((aq (bA 0 x.1),()),())) λ_ _=>Y) (λ_ u=>Z (u,())) λ_ _=>Y) (λ_ r=>Z (r,())) λ_ _=>Y) r->Ev (λn=>Pu n (⟨p⟩,())) r:=by intro r h;refine Ev.fR (λn=>?_) h;unfold Pu DG Ud Pv;simp[mk,A,C];rw[LK,J2,LJ rfl]
 rcases FG (N:=p.bh.length) (lo:=0) (by omega) p.dM [] _ [] (Own.zero _) (by simp;omega) (by simp;omega)with⟨a,E,b,c⟩|⟨a,c⟩
 .rcases N2 hs p.bh [] E _ rfl b (by simp;omega)with⟨d,l,e,f⟩|⟨d,f⟩
  .have j:∀k∈p.dM++p.bh.flatMap bw.Kids,0<=k∧k<p.bh.length:=λk S=>by
    grind[Gk]
   have o:=e;rw[KM]at o;have I:∀(i:Nat)(y:Int×U),(X () ((i:Int),()):LO (Int×U) (Int×U) U Any)≠.next y:=λ_ _ h=>by cases h
   have K:=o.1;rcases eC (F:=λn v=>au (aD v.1 (ax l)) (aK (aC v.1 l) (aK (cJ (ak v.1) l) (ai (F155 n (aZ l (ak v.1) 0,())) λw=>au (aq w.1.1) (Z (X () v)) (Z (LO.next (aE .i64 v.1 1,())))))) (Z (H 0 v))) l.length (λi=>decide (l.getD i 0=1)) (λi=>(X () ((i:Int),()):LO (Int×U) (Int×U) U Any)) I (λi t=>aY λn=>by
     unfold F155;cases R:decide (l.getD i 0=1)<;>(have z:aa (l.getD i 0) 1=_:=(nG ..).trans R)<;>simp(disch:=omega)only[bf,z,bF,ep,eu]) (λn=>by simp(disch:=omega) [bf]<;>rfl)with⟨g,r⟩|⟨i,t,g,r⟩
   .have m:∀i:Nat,i<p.bh.length->(p.dM++p.bh.flatMap bw.Kids).count (i:Int)=1:=λi t=>by have h3:=S1 (g i (by omega));have h4:=o.2 i t;omega
    have:=(J0 j).1 m;refine⟨W,start (Ev.aT c (λn q=>_) _ ?_),λ_=>⟨a,d,this.1,this.2⟩,λ_=>rfl⟩;refine Ev.fR (λn=>dD ..) (Ev.aT f (λn q=>_) _ ?_);refine Ev.fR (λn=>dD ..) (Ev.aT r (λn q=>_) _ bO)
   .refine u6 (λh=>?_) (start (Ev.aT c (λn q=>_) _ ?_))
    .have h3:=(J0 j).2 ⟨h.2.2.1,h.2.2.2⟩ i (by omega);have h4:=o.2 i (by omega)
     simp_all
    .refine Ev.fR (λn=>dD ..) (Ev.aT f (λn q=>_) _ ?_);refine Ev.fR (λn=>dD ..) (Ev.aT r (λn q=>_) _ (aY λn=>?_));rw[wh];simp(disch:=omega)only[bf]<;>rfl
  .refine u6 (λh=>d h.2.1) (start (Ev.aT c (λn q=>_) _ ?_));exact Ev.fR (λn=>dD ..) (Ev.aT f (λn q=>_) _ bO)
 .exact u6 (λh=>a h.1) (start (Ev.aT c (λn q=>_) _ bO))
def akM(hs:Small p)(b:Bool):∃e,Ev (λn=>aaD n (⟨p⟩,()) ((b,()),())) ((e,()),())∧(e=W↔b=W∧(∀nd∈p.bh,mQ p nd=W)∧(∀k∈p.dM,0<=k∧k<p.bh.length)∧rZ p.bh.length 0 p.bh∧(p.dM++p.bh.flatMap bw.Kids).Nodup∧∀i:Nat,i<p.bh.length->(i:Int)∈p.dM++p.bh.flatMap bw.Kids):=by
 have h1:=hs.nodes;cases b with
 |false=>exact u6 (λh=>by cases h.1) bO
 |true=>
  have o:∀(i:Nat)(y:Int×U),(X () ((i:Int),()):LO (Int×U) (Int×U) U Any)≠.next y:=λ_ _ h=>by cases h
  have s:∀{Q:Prop}{c:Nat->O ((Bool×U)×U)},(∃b,Ev c ((b,()),())∧(b=W↔Q))->∃b,Ev (λn=>au (aq W) (oI n) (c n)) ((b,()),())∧(b=W↔Q):=λh=>h;refine s ?_;rcases eC (F:=λn l=>au (aD l.1 (ax p.bh)) (aK (aC l.1 p.bh) (ai (F153 n (⟨p⟩,aZ p.bh (ak l.1) aW,())) λm=>au (aq m.1.1) (Z (X () l)) (Z (N (aE .i64 l.1 1,()))))) (Z (H 0 l))) p.bh.length (λi=>mQ p (p.bh.getD i aW)) (λi=>(X () ((i:Int),()):LO (Int×U) (Int×U) U Any)) o (λi g=>by
    let ⟨_,t,u⟩:=hs.nds _ (cg aW g)
    simp(disch:=omega)only[bf];refine Ev.ai (arz hs u t) (aY λn=>?_);cases mQ p (p.bh.getD i aW)<;>simp(disch:=omega)only[bf,bF,ep,eu]) (λn=>by simp(disch:=omega) [bf]<;>rfl)with⟨a,r⟩|⟨i,g,a,r⟩
  .let ⟨e,f,v⟩:=akN hs
   have j:∀nd∈p.bh,mQ p nd=W:=ir (d:=aW) a;refine⟨e,Ev.aT r (λn q=>_) _ f,?_⟩
   simp_all
  .refine u6 (λh=>?_) (Ev.aT r (λn q=>_) _ (aY λn=>?_))
   .simp_all
   rfl
theorem e87(hs:Small p):∃b,Ev (λn=>F87 n (⟨p⟩,())) ((b,()),())∧(b=W↔FP p):=by
 have h1:=hs.nodes;have h2:=hs.zj;have h3:=hs.cons;unfold F87;by_cases c1:300<p.bh.length
 .exact u6 (λh=>by have:=h.nodes;omega) (aY λn=>by unfold oI;simp(disch:=omega) [bf])
 by_cases c2:p.dM.length<1
 .exact u6 (λh=>by have:=h.zj;omega) (aY λn=>by unfold oI;simp(disch:=omega) [bf])
 by_cases c3:p.bh.length<p.dM.length
 .exact u6 (λh=>by have:=h.zj;omega) (aY λn=>by unfold oI;simp(disch:=omega) [bf])
 by_cases c4:20<p.Cons.length
 .exact u6 (λh=>by have:=h.TE;omega) (aY λn=>by unfold oI;simp(disch:=omega) [bf])
 by_cases v:0<=p.Main∧p.Main<p.dM.length
 .have m:=gw (show 0<=p.Main∧p.Main<=(p.dM.length:Int)-1 by omega);have x:∀(i:Nat)(y:Int×U),(X () ((i:Int),()):LO (Int×U) (Int×U) U Any)≠.next y:=λ_ _ h=>by cases h
  simp(disch:=omega)only[bf,cZ,xP,m];rcases eC (F:=λn d=>au (aD d.1 (p.Cons.length:Int)) (aK (aC d.1 p.Cons) (ai (F148 n (p.Cons.getD d.1.toNat bM,())) λe=>au e.1.1 (Z (N (aE .i64 d.1 1,()))) (Z (X () d)))) (Z (H 0 d))) p.Cons.length (λi=>Hp (p.Cons.getD i bM)) (λi=>(X () ((i:Int),()):LO (Int×U) (Int×U) U Any)) x (λi k=>by
    have hn:=hs.names _ (cg bM k);simp(disch:=omega)only[bf];refine Ev.ai (arB (by omega)) (aY λn=>?_);cases Hp (p.Cons.getD i bM)<;>simp(disch:=omega)only[bf,bF,ep,eu]) (λn=>by simp(disch:=omega) [bf])with⟨a,r⟩|⟨i,k,a,r⟩
  .have f:∀c∈p.Cons,Hp c=W:=ir (d:=bM) a
   let ⟨b,o,s⟩:=arA (l:=p.Cons.map cO.Name) (by grind)
   let ⟨z,t,u⟩:=akM hs b
   refine⟨z,Ev.aT r (λn q=>_) _ ?_,?_⟩
   .refine Ev.fR (g:=λn=>aaC n (⟨p⟩,())) (λn=>rfl) ?_;have w:=gn (F:=λn h=>au (aD h.2.1 (ax p.Cons)) (aK (aC h.2.1 p.Cons) (ai (F151 n (aZ p.Cons (ak h.2.1) bM,())) λi=>aK (dB h.1 [i.1.1]) (Z (N (cX h.1 [i.1.1],aE .i64 h.2.1 1,()))))) (Z (H (R:=L (L UInt8)×U) (B:=U) (P:=Any) 0 h))) p.Cons.length (λi=>((p.Cons.take i).map cO.Name,(i:Int),())) 0 (λi k=>aY λn=>by
     unfold F151;have j:dB (List.map cO.Name (List.take i p.Cons)) [(p.Cons.getD i bM).Name]=W:=GM.2 (by simp;omega);simp(disch:=omega)only[bf,j,bF,ep,eu]
     grind[take_succ]) (aY λn=>by simp(disch:=omega) [bf]<;>rfl)
    rw[tF]at w;refine Ev.aT w (λn q=>_) _ ?_;exact Ev.ai o t
   .rw[u,s];exact⟨λ⟨A,C,E,I,K,S⟩=>⟨by omega,by omega,v,by omega,f,A,C,E,I,K,S⟩,λh=>⟨h.names,h.nds,h.fr,h.kr,h.ug,h.all⟩⟩
  .refine u6 (λh=>?_) (Ev.aT r (λn q=>_) _ (aY λn=>?_))
   .have:=h.cons _ (cg bM k)
    simp_all
   rfl
 .have m:=gR (show ¬(0<=p.Main∧p.Main<=(p.dM.length:Int)-1)by omega);exact u6 (λh=>v h.main) (aY λn=>by unfold oI;simp(disch:=omega) [bf,cZ,xP,m])
end
end
section
section
variable {p:az}
def e15(hs:Small p):∃b,Ev (λn=>F15 n (p,())) ((b,()),())∧(b=W↔FP p):=by
 have h1:=hs.nodes;have h2:=hs.zj;have h3:=hs.cons;have R:bS .i64 (ax p.bh) 1=(p.bh.length:Int)-1:=cZ (a:=(p.bh.length:Int)) (by omega) (by omega);have S:bS .i64 (ax p.dM) 1=(p.dM.length:Int)-1:=cZ (a:=(p.dM.length:Int)) (by omega) (by omega);have mk:mkN (ax p.bh)=W:=by unfold mkN ax;rw[gw (by omega),gw (by omega)];rfl
 have hN:ak (ax p.bh)=p.bh.length:=rfl;have t:ax p.bh=(p.bh.length:Int):=rfl;have hlF:ax p.dM=(p.dM.length:Int):=rfl;unfold F15 DK;simp only[mk,R,S,hN];by_cases c1:300<p.bh.length
 .exact u6 (λh=>by have:=h.nodes;omega) (aY λn=>by simp(disch:=omega)only[bf])
 by_cases E:1<=p.dM.length∧p.dM.length<=p.bh.length
 .have d2:=gw (show 1<=ax p.dM∧ax p.dM<=ax p.bh by omega);by_cases I:0<=p.Main∧p.Main<p.dM.length
  .have d5:=gw (show 0<=p.Main∧p.Main<=(p.dM.length:Int)-1 by omega)
   let ⟨b,A,w⟩:=e53 (l:=p.Cons) (by omega) (λc C=>by have:=hs.names c C;omega)
   have s1:∀{Q:Prop}{s:Nat->O ((Bool×U)×U)}{K:Nat->((Bool×U)×U)->O ((Bool×U)×U)},(∃u,Ev (λn=>K n ((b,()),())) ((u,()),())∧(u=W↔Q))->(∀n,s n=ai (F53 n (p.Cons,())) (K n))->∃u,Ev s ((u,()),())∧(u=W↔Q):=by intro Q s K ⟨u,x,y⟩ h;exact⟨u,Ev.fR h (Ev.ai A x),y⟩
   refine s1 ?_ (λn=>by
    rw[xb (by rw[t];omega),IP,d2,J6,dG,E3,IP,d5,J6,dG,E3])
   cases b with
   |false=>exact u6 (λh=>by have:=w.2 ⟨h.cons,h.TE,h.names⟩;cases this) bO
   |true=>
    let ⟨k1,k2,k3⟩:=w.1 rfl
    have s2:∀{Q:Prop}{s:Nat->O ((Bool×U)×U)},(∃b,Ev s ((b,()),())∧(b=W↔Q))->∃b,Ev (λn=>au (aq W) (Z ((J,()),())) (aK (Ec W (iT (ax p.bh) (ax p.bh))) (s n))) ((b,()),())∧(b=W↔Q):=by
     intro Q s h
     let ⟨b,x,y⟩:=h
     exact⟨b,Ev.fR (λn=>by rw[dG,E3,LK,J2,LJ rfl]) x,y⟩
    refine s2 ?_;have fF:∀n c,v8 p.bh.length p.dM 0 n c=au (aD c.2.1 (ax p.dM)) (aK (aC c.2.1 p.dM) (ai (F52 n (aZ p.dM (ak c.2.1) 0,0,(p.bh.length:Int)-1,())) λh=>au (aq h.1.1) (Z (X () (J,()))) (aK (aC c.2.1 p.dM) (aK (aC (aZ p.dM (ak c.2.1) 0) c.1) (aK (cJ (ak (aZ p.dM (ak c.2.1) 0)) c.1) (au (aZ c.1 (ak (aZ p.dM (ak c.2.1) 0)) J) (Z (X () (J,()))) (aK (aC c.2.1 p.dM) (aK (aC (aZ p.dM (ak c.2.1) 0) c.1) (aK (cJ (ak (aZ p.dM (ak c.2.1) 0)) c.1) (Z (LO.next (eg c.1 (ak (aZ p.dM (ak c.2.1) 0)) W,aE .i64 c.2.1 1,())))))))))))) (Z (H 0 c)):=by intro n c;unfold v8;cases hz:aC c.2.1 p.dM with|false=>rfl|true=>simp[J2]
    have fK:∀n j,QX p n j=au (aD j.2.1 (ax p.bh)) (aK (aC j.2.1 p.bh) (ai (F54 n (p,aZ p.bh (ak j.2.1) aW,())) λk=>au (aq k.1.1) (Z (X () (J,()))) (ai (iter (λl:L Bool×Int×U=>aK (aC j.2.1 p.bh) (au (aD l.2.1 (ax (aZ p.bh (ak j.2.1) aW).3)) (aK (aC j.2.1 p.bh) (aK (aC l.2.1 (aZ p.bh (ak j.2.1) aW).3) (ai (F52 n (aZ (aZ p.bh (ak j.2.1) aW).3 (ak l.2.1) 0,aE .i64 j.2.1 1,(p.bh.length:Int)-1,())) λm=>au (aq m.1.1) (Z (X () (J,()))) (aK (aC (aZ (aZ p.bh (ak j.2.1) aW).3 (ak l.2.1) 0) l.1) (aK (cJ (ak (aZ (aZ p.bh (ak j.2.1) aW).3 (ak l.2.1) 0)) l.1) (au (aZ l.1 (ak (aZ (aZ p.bh (ak j.2.1) aW).3 (ak l.2.1) 0)) J) (Z (X () (J,()))) (aK (aC (aZ (aZ p.bh (ak j.2.1) aW).3 (ak l.2.1) 0) l.1) (aK (cJ (ak (aZ (aZ p.bh (ak j.2.1) aW).3 (ak l.2.1) 0)) l.1) (Z (LO.next (eg l.1 (ak (aZ (aZ p.bh (ak j.2.1) aW).3 (ak l.2.1) 0)) W,aE .i64 l.2.1 1,()))))))))))) (Z (H (P:=Any) (B:=U) 0 l)))) n (j.1,0,())) λl=>bp l (λ_ o=>Z (LO.next (o.1,aE .i64 j.2.1 1,()))) (λ_ o=>Z (X () o)) λ_ _=>Y))) (Z (H 0 j)):=by intro n j;unfold QX v8;cases hz:aC j.2.1 p.bh with|false=>rfl|true=>simp[J2]
    simp only[<-fF,<-fK];rcases BW (N:=p.bh.length) (lo:=0) (by omega) p.dM [] _ [] (I3.zero _) (by simp) (by simp;omega)with⟨⟨a,a'⟩,u1,b,c⟩|⟨a,c⟩
    .obtain ⟨⟨d1,d2,d3⟩,z,e,f⟩|⟨d,f⟩:=JF hs p.bh [] u1 _ rfl b a'
     .have hb:∀(i:Nat)(y:Int×U),(X () (J,()):LO (Int×U) (Bool×U) U Any)≠.next y:=λ_ _ h=>by cases h
      have hul:=e.1;rcases eC (F:=λn m=>au (aD m.1 (ax p.bh)) (aK (aC m.1 z) (aK (cJ (ak m.1) z) (au (aq (aZ z (ak m.1) J)) (Z (X () (J,()))) (Z (LO.next (aE .i64 m.1 1,())))))) (Z (H 0 m))) p.bh.length (λi=>z.getD i J) (λ_=>(X () (J,()):LO (Int×U) (Bool×U) U Any)) hb (λi v=>aY λn=>by
        cases C:z.getD i J<;>simp(disch:=omega)only[bf,C,bF,ep,eu]) (λn=>by simp(disch:=omega) [bf]<;>rfl)with⟨g,r⟩|⟨i,v,g,r⟩
      .refine ⟨W,Ev.aT c (λn q=>_) _ ?_,λ_=>⟨by omega,E,I,k2,k1,k3,d1,a,d2,d3,λi v=>(e.2 i v).1 (g i v)⟩,λ_=>rfl⟩;refine Ev.fR (λn=>dD ..) (Ev.aT f (λn q=>_) _ ?_);refine Ev.fR (λn=>dD ..) (Ev.aT r (λn q=>_) _ bO)
      .refine u6 (λh=>?_) (Ev.aT c (λn q=>_) _ ?_)
       .have:=(e.2 i v).2 (h.all i v);rw[g]at this;cases this
       .refine Ev.fR (λn=>dD ..) (Ev.aT f (λn q=>_) _ ?_);refine Ev.fR (λn=>dD ..) (Ev.aT r (λn q=>_) _ bO)
     .refine u6 (λh=>d ⟨h.nds,h.kr,h.ug⟩) (Ev.aT c (λn q=>_) _ ?_);exact Ev.fR (λn=>dD ..) (Ev.aT f (λn q=>_) _ bO)
    .refine u6 (λh=>a ⟨h.fr,?_⟩) (Ev.aT c (λn q=>_) _ bO);exact(Qr.1 h.ug).1
  .have d5:=gR (show ¬(0<=p.Main∧p.Main<=(p.dM.length:Int)-1)by omega);refine u6 (λh=>I h.main) (aY λn=>?_);rw[xb (by rw[t];omega),IP,d2,J6,dG,E3,IP,d5,J6,dG,E4]
 .have d2:=gR (show ¬(1<=ax p.dM∧ax p.dM<=ax p.bh)by omega);refine u6 (λh=>E h.zj) (aY λn=>?_);rw[xb (by rw[t];omega),IP,d2,J6,dG,E4]
def e46{b:Bool}(h:Ev (λn=>F87 n (⟨p⟩,())) ((b,()),())):Ev (λn=>F46 n (p,())) ((if b=W then 0 else 2,()),()):=by unfold F46;refine Ev.ai h (aY λn=>?_);cases b<;>rfl
theorem FP.ok(h:FP p):jk p:=by
 have o:∀{l:L bw}{i:Nat},rZ p.bh.length i l->∀nd∈l,∀k∈nd.Kids,0<=k∧k<p.bh.length:=by
  intro l
  induction l with
  |nil=>simp_all|cons a l r=>
   intro i f nd b k d;obtain h|h:=fy.1 b
   .subst h;have:=f.1 k d;omega
   .exact r f.2 nd h k d
 refine⟨h.nodes,λnd b=>?_,h.fr,by have:=h.zj;have:=h.nodes;omega,h.main,λc s=>?_⟩
 .have g:=h.nds nd b;unfold mQ at g;simp only[eK]at g
  let ⟨⟨⟨y,t⟩,u⟩,v⟩:=g
  have j:∀q∈nd.cN,pw q<=12∧pf q=W:=λq w=>by have:=gY.1 v q w;unfold qB at this;simp at this;exact⟨this.1,FC q this.2⟩
  unfold N3 at t;unfold DQ at u;have e:1<=nd.Op∧nd.Op<=28:=by
   grind
  refine⟨e.1,e.2,λk f=>o h.kr nd b k f,λm n=>?_,λm=>?_,λn=>?_,λh1=>?_,λh2=>?_,λh4=>?_,λx=>?_,j⟩
  .grind
  .simp_all
  .grind
  .simp_all
  .grind
  .simp_all
  simp_all
 .have:=h.cons c s
  simp_all[Hp]
end
end
section
set_option maxRecDepth 1000000
def anV:F13 300 ()=Z ((W,()),()):=by kernel_rfl
def kn:Fn [] K4 J:=λ_=>Z ((W,()),())
abbrev cK:me sg:=⟨[],K4,J,kn⟩
theorem CK:bH prog 13 cK:=by
 have h:=(k13 300).h;have e:F13 300=kn:=funext λx=>by cases x;exact anV
 have h:bH prog 13 (⟨[],K4,J,F13 300⟩:me sg):=h;rw[e]at h;exact h
end
section
section
variable {p:az}
def BM(l:L Int):Bool:=decide (l.length<=50)&&l.all gT
variable {l:List Int}
def e47(hl:l.length<=60):Ev (λn=>F47 n (l,())) ((BM l,()),()):=by
 unfold F47 BM;by_cases h:l.length<=50
 .rw[gw h,eY];simp(disch:=omega)only[bf];have e:∀(i:Nat)(y:Int×U),(X () ((i:Int),()):LO (Int×U) (Int×U) U Any)≠.next y:=λ_ _ h=>by cases h
  rcases eC (F:=λn c=>au (aD c.1 (l.length:Int)) (aK (aC c.1 l) (ai (F69 n (l.getD c.1.toNat 0,(-1000000000),1000000000,())) λd=>au d.1.1 (Z (N (aE .i64 c.1 1,()))) (Z (X () c)))) (Z (H 0 c))) l.length (λi=>gT (l.getD i 0)) (λi=>(X () ((i:Int),()):LO (Int×U) (Int×U) U Any)) e (λi b=>aY λn=>by
    simp(disch:=omega)only[bf,e69];cases gT (l.getD i 0)<;>simp(disch:=omega)only[bf,bF,ep,eu]) (λn=>by simp(disch:=omega) [bf])with⟨a,r⟩|⟨i,b,a,r⟩
  .rw[s4 (d:=(0:Int)) a];exact Ev.aT r (λn c=>_) _ bO
  .rw[kD (d:=(0:Int)) b a];refine Ev.aT r (λn c=>_) _ (aY λn=>?_);rw[wh];simp(disch:=omega)only[bf]<;>rfl
 .rw[gR h,jH];exact aY λn=>by simp(disch:=omega) [bf]
def e16(hl:l.length<=60):Ev (λn=>F16 n (l,50,())) ((BM l,()),()):=by
 unfold F16 BM;have e:∀(i:Nat)(y:Int×U),(X () (J,()):LO (Int×U) (Bool×U) U Any)≠.next y:=λ_ _ h=>by cases h
 have step:∀i,i<l.length->i<=50->Ev (λn=>au (aD (i:Int) (ax l)) (au (bA (i:Int) 50) (aK (aC (i:Int) l) (ai (F55 n (aZ l (ak (i:Int)) 0,(-1000000000),1000000000,())) λd=>au (aq d.1.1) (Z (X () (J,()))) (Z (N (aE .i64 (i:Int) 1,()))))) (Z (H 0 ((i:Int),())))) (Z (H 0 ((i:Int),())))) (bif gT (l.getD i 0)then .next (((i+1:Nat):Int),())else(X () (J,()):LO (Int×U) (Bool×U) U Any)):=by intro i b f;refine aY λn=>?_;simp(disch:=omega)only[bf,e55];cases gT (l.getD i 0)<;>simp(disch:=omega)only[bf,bF,ep,eu]
 by_cases h:l.length<=50
 .rw[gw h,eY];rcases eC (F:=λn c=>au (aD c.1 (ax l)) (au (bA c.1 50) (aK (aC c.1 l) (ai (F55 n (aZ l (ak c.1) 0,(-1000000000),1000000000,())) λd=>au (aq d.1.1) (Z (X () (J,()))) (Z (N (aE .i64 c.1 1,()))))) (Z (H 0 c))) (Z (H 0 c))) l.length (λi=>gT (l.getD i 0)) (λi=>(X () (J,()):LO (Int×U) (Bool×U) U Any)) e (λi b=>step i b (by omega)) (λn=>by simp(disch:=omega) [bf]<;>rfl)with⟨a,r⟩|⟨i,b,a,r⟩
  .rw[s4 (d:=(0:Int)) a];refine Ev.aT r (λn c=>_) _ (aY λn=>?_);rw[dD];show Z ((bA (l.length:Int) 50,()),())=_;rw[afP (by omega)]
  .rw[kD (d:=(0:Int)) b a];exact Ev.aT r (λn c=>_) _ bO
 .rw[gR h,jH];rcases pE (F:=λn c=>au (aD c.1 (ax l)) (au (bA c.1 50) (aK (aC c.1 l) (ai (F55 n (aZ l (ak c.1) 0,(-1000000000),1000000000,())) λd=>au (aq d.1.1) (Z (X () (J,()))) (Z (N (aE .i64 c.1 1,()))))) (Z (H 0 c))) (Z (H 0 c))) 51 (λi=>((i:Int),())) (λi=>gT (l.getD i 0)) (λi=>(X () (J,()):LO (Int×U) (Bool×U) U Any)) 0 e (λi b _=>step i (by omega) (by omega)) (λ_=>aY λn=>by
    show TL.au (aD (51:Int) (l.length:Int)) (TL.au (bA (51:Int) 50) _ _) _=_;rw[KC (show(50:Int)<51 by decide)];cases aD (51:Int) (l.length:Int)<;>rfl)with⟨a,r⟩|⟨i,b,a,_,r⟩
  .refine Ev.aT r (λn c=>_) _ (aY λn=>?_);rw[dD];show Z ((bA (l.length:Int) 50,()),())=_;rw[afQ (by omega)]
  .exact Ev.aT r (λn c=>_) _ bO
end
end
section
variable {m:Int}
section
variable {α β R B P:Type}
def Ev.all{l:L α}(d:α)(q:α->Bool)(bad:Nat->LO (Int×U) R B P){F:Nat->Int×U->O (LO (Int×U) R B P)}{g:Nat->LO (Int×U) R B P->O β}{r:β}
  (e:∀i y,bad i≠.next y)
  (hs:∀i,i<l.length->Ev (λn=>F n ((i:Int),())) (bif q (l.getD i d)then .next (((i+1:Nat):Int),())else bad i))
  (f:∀n,F n ((l.length:Int),())=Z (.out 0 ((l.length:Int),())))
  (h1:l.all q=W->Ev (λn=>g n (.out 0 ((l.length:Int),()))) r) (h2:∀i,i<l.length->l.all q=J->Ev (λn=>g n (bad i)) r) :
  Ev (λn=>ai (iter (F n) n (0,())) (g n)) r:=by
 obtain⟨a,b⟩|⟨i,c,a,b⟩:=eC l.length (λi=>q (l.getD i d)) bad e hs f
 .exact Ev.aT b g _ (h1 (s4 (d:=d) a))
 .exact Ev.aT b g _ (h2 i c (kD (d:=d) c a))
def Ev.Pc{l:L α}(d:α)(q:α->Bool)(T:Nat->α->O ((Bool×U)×U))(bad:Int×U->LO (Int×U) R B P){F:Nat->Int×U->O (LO (Int×U) R B P)}{g:Nat->LO (Int×U) R B P->O β}{r:β}
  (b:∀n c,F n c=au (aD c.1 (ax l)) (aK (aC c.1 l) (ai (T n (aZ l (ak c.1) d)) λx=>au (aq x.1.1) (Z (bad c)) (Z (N (aE .i64 c.1 1,()))))) (Z (H 0 c)))
  (hl:l.length<=1000000) (e:∀c y,bad c≠.next y) (f:∀a∈l,Ev (λn=>T n a) ((q a,()),()))
  (h1:l.all q=W->Ev (λn=>g n (.out 0 ((l.length:Int),()))) r) (h2:l.all q=J->∀i:Nat,Ev (λn=>g n (bad ((i:Int),()))) r) :
  Ev (λn=>ai (iter (F n) n (0,())) (g n)) r:=by
 refine Ev.all d q (λi=>bad ((i:Int),())) (λi y=>e _ y) (λi j=>?_) (λn=>by simp_all[bf]) h1 (λi _ h=>h2 h i);refine Ev.fR (λn=>b n _) ?_;simp(disch:=omega)only[bf];refine Ev.ai (f _ (cg d j)) (aY λn=>?_);cases q (l.getD i d)<;>simp(disch:=omega)only[bf,bF,ep,eu]
def Ev.cap{l:L α}(d:α)(q:α->Bool)(o:0<=m)(p:m<=1000000){F:Nat->Int×U->O (LO (Int×U) (Bool×U) U P)}
  (hs:∀i,i<l.length->(i:Int)<=m->Ev (λn=>F n ((i:Int),())) (bif q (l.getD i d)then .next (((i+1:Nat):Int),())else .ret () (J,())))
  (g:∀n(i:Nat),l.length<=i∨m<i->F n ((i:Int),())=Z (.out 0 ((i:Int),()))) :
  Ev (λn=>ai (iter (F n) n (0,())) λc=>bp c (λ_ _=>Z ((bA (ax l) m,()),())) (λ_ e=>Z (e,())) λ_ _=>Y) ((decide ((l.length:Int)<=m)&&l.all q,()),()):=by
 have j:∀(i:Nat)(y:Int×U),(X () (J,()):LO (Int×U) (Bool×U) U P)≠.next y:=λ_ _ h=>by cases h
 by_cases h:(l.length:Int)<=m
 .rw[gw h,eY];refine Ev.all d q (λ_=>.ret () (J,())) j (λi b=>hs i b (by omega)) (λn=>g n _ (.inl (cu _))) (λf=>?_) (λi b f=>?_)
  .refine aY λn=>?_;rw[dD,f,Eu,afP h]
  .rw[f];exact bO
 .rw[gR h,jH];obtain⟨k,rfl⟩:∃k:Nat,m=k:=⟨_,(xH o).symm⟩;obtain⟨a,r⟩|⟨i,b,a,_,r⟩:=pE (F:=F) (k+1) (λi=>((i:Int),())) (λi=>q (l.getD i d)) (λi=>.ret () (J,())) 0 j (λi b _=>hs i (by omega) (by omega)) (λ_=>aY λn=>g n (k+1) (.inr (by omega)))
  .refine Ev.aT r (λn c=>_) _ (aY λn=>?_);rw[dD,Eu,afQ (by omega)]
  .exact Ev.aT r (λn c=>_) _ bO
end
def yo(a lo b:Int):Bool:=decide (lo<=a)&&decide (a<=b)
theorem iq{a lo b:Int}:yo a lo b=W↔lo<=a∧a<=b:=by simp[yo]
def LD(n:Nat)(a lo b:Int):F55 n (a,lo,b,())=Z ((yo a lo b,()),()):=by unfold F55 yo;by_cases h1:lo<=a<;>by_cases h2:a<=b<;>simp[au,bA,h1,h2]
def VZ(n:Nat)(a lo b:Int):F69 n (a,lo,b,())=Z ((yo a lo b,()),()):=LD n a lo b
section
variable {p:az}{w:af}{v:aj}{f:av}{o:aB}
def vB(p:az)(k:Nat)(v:aj):Bool:=
 bif aa v.Kind 1 then yo v.N (-1000000000) 1000000000 else bif aa v.Kind 2 then yo v.N 0 1 else bif aa v.Kind 3 then aa v.N 0
 else bif aa v.Kind 4 then yo v.N 0 (p.dM.length-1)else bif aa v.Kind 5 then yo v.N 0 (k-1)else J
theorem WT{k:Nat}:vB p k v=W↔ct p k v:=by
 let ⟨a,b⟩:=v
 unfold vB ct
 grind[aa,yo,gT]
def akX(n:Nat)(a:p.dM.length<=1000)(b:w.aJ.length<=1000)(v:aj):F169 n (p,w,v,())=Z ((vB p w.aJ.length v,()),()):=by unfold F169 vB;simp(disch:=omega)only[bf,cZ,LD];cases aa v.Kind 1<;>cases aa v.Kind 2<;>cases aa v.Kind 3<;>cases aa v.Kind 4<;>cases aa v.Kind 5<;>rfl
def ag4(n:Nat)(a:p.dM.length<=1000)(b:w.aJ.length<=1000)(v:aj):F211 n (⟨p,w⟩,v,())=Z ((vB p w.aJ.length v,()),()):=akX n a b v
def OL(b:p.dM.length<=1000)(c:w.aJ.length<=1000){l:L aj}(d:0<=m)(a:m<=1000000):Ev (λn=>F109 n (p,w,l,m,())) ((decide ((l.length:Int)<=m)&&l.all (vB p w.aJ.length),()),()):=by
 refine Ev.cap (l:=l) aA _ d a (λi g e=>aY λn=>?_) (λn i h=>?_)
 .simp (disch:=omega)only[bf,akX n b c];cases vB p w.aJ.length (l.getD i aA)<;>simp(disch:=omega)only[bf,bF,ep,eu]
 .obtain h|h:=h
  .simp (disch:=omega) [bf]
  .cases f:aD (i:Int) (l.length:Int)<;>simp(disch:=omega)only[bf,f]
end
end
section
section
variable {p:az}{w:af}{f:av}{o:aB}{k:Nat}
def T1(i:jk p){n:bw}(h:RU p n):jr n<=3:=by
 unfold jr;split
 .rename_i d
  let ⟨a,b,c⟩:=h.con d
  have:=(i.cons _ (cg bM (show n.N.toNat<p.Cons.length by omega))).2;omega
 .have h1:=h.lo;have h2:=h.hi
  let ⟨op,m,f,g⟩:=n
  dsimp only at h1 h2 ⊢;obtain⟨j,rfl⟩:∃j:Nat,op=j:=⟨_,(xH (by omega)).symm⟩;have e:j<=28:=by omega
  match j,e with
  |0,_|1,_|2,_|3,_|4,_|5,_|6,_|7,_|8,_|9,_|10,_|11,_|12,_|13,_|14,_|15,_|16,_|17,_|18,_|19,_|20,_|21,_|22,_|23,_|24,_|25,_|26,_|27,_|28,_=>decide|j+29,h=>omega
def PR(p:az)(k:Nat)(f:av):Bool:=
 yo f.Node 0 (p.bh.length-1)&&((decide ((f.Env.length:Int)<=30)&&f.Env.all (vB p k))&&(decide ((f.bg.length:Int)<=jr (nodeAt p f.Node))&&f.bg.all (vB p k)))
def Te(p:az)(f:av):Bool:=decide ((f.bg.length:Int)<jr (nodeAt p f.Node))
def AK:PR p k f=W↔eG p k f:=by unfold PR;simp[eK,iq,nP,gY,WT];exact⟨λ⟨⟨a,b⟩,⟨c,d⟩,e,g⟩=>⟨a,by omega,by omega,d,e,g⟩,λh=>⟨⟨h.lo,by have:=h.hi;omega⟩,⟨by have:=h.el;omega,h.env⟩,h.vl,h.vals⟩⟩
def ab6:Te p f=W↔oG p f:=by simp_all[Te,oG]
variable {l:List av}
def On:l.all (PR p k)=W↔∀f∈l,eG p k f:=by simp[gY,AK]
def NK:l.all (Te p)=W↔∀f∈l,oG p f:=by simp[gY,ab6]
def mg{l:L aj}:l.all (vB p k)=W↔∀v∈l,ct p k v:=by simp[gY,WT]
def Ok(p:az)(k:Nat)(o:aB):Bool:=
 ((decide ((o.Frames.length:Int)<=40)&&o.Frames.all (PR p k))&&(decide ((o.bg.length:Int)<=1)&&o.bg.all (vB p k)))&&(decide (0<o.Frames.length+o.bg.length)&&(o.Frames.take (o.Frames.length-(1-o.bg.length))).all (Te p))
theorem VJ{vs:L aj}{fs:L av}:Ok p k ⟨6,0,vs,fs⟩=W↔gu p k ⟨6,0,vs,fs⟩:=by
 unfold Ok;simp only[eK,nP,On,NK,mg];constructor
 .rintro ⟨⟨⟨a,b⟩,c,d⟩,e,g⟩
  match vs,c with
  |[],_=>
   have i:fs≠[]:=by grind
   rw[<-List.dropLast_concat_getLast i]at a b g ⊢;simp only[Fm,List.length_singleton,List.length_nil]at a e g;rw[show fs.dropLast.length+1-(1-0)=fs.dropLast.length by omega,List.take_left]at g;exact .rP (by omega) (λq f=>⟨b q (fh _ f),g q f⟩) (b _ (by simp))
  |[v],_=>simp at g;exact .back (by omega) (λq f=>⟨b q f,g q f⟩) (d v (by simp))
  |_::_::_,h=>grind
 .intro h;cases h with
  |rP a b c=>
   grind
  |back a b c=>
   grind
  |dead h=>omega
def ER(p:az)(k:Nat)(o:aB):Bool:=
 bif aa o.N 0 then Ok p k o else bif aa o.N 1 then aa o.Frames.length 0&&(aa o.bg.length 1&&o.bg.all (vB p k))
 else(aa o.N 2||(aa o.N 3||aa o.N 4))&&(aa o.Frames.length 0&&aa o.bg.length 0)
def Tf(p:az)(k:Nat)(o:aB):Bool:=
 bif aa o.Form 6 then ER p k o
 else bif aa o.Form 5 then aa o.N 0&&(aa o.bg.length 0&&(aD 0 o.Frames.length&&((decide ((o.Frames.length:Int)<=40)&&o.Frames.all (PR p k))&&(o.Frames.all (Te p)&&aa (nodeAt p (o.Frames.getD 0 aH).Node).Op 26))))
 else aa o.Frames.length 0&&(bif aa o.Form 1 then yo o.N 0 (p.Cons.length-1)&&(aa o.bg.length (p.Cons.getD o.N.toNat bM).sd&&o.bg.all (vB p k))
 else bif aa o.Form 2 then yo o.N 0 (p.bh.length-1)&&(aa (nodeAt p o.N).Op 5&&(decide ((o.bg.length:Int)<=30)&&o.bg.all (vB p k)))
 else bif aa o.Form 3 then aa o.N 0&&(aa o.bg.length 1&&o.bg.all (vB p k))
 else bif aa o.Form 4 then aa o.N 0&&(decide ((o.bg.length:Int)<=4)&&o.bg.all (vB p k))else J)
def oU{a b:Int}:aa a b=W↔a=b:=by simp[aa]
theorem Uv{s:Int}{vs:L aj}{fs:L av}:ER p k ⟨6,s,vs,fs⟩=W↔gu p k ⟨6,s,vs,fs⟩:=by
 unfold ER;by_cases d:s=0
 .subst d;exact VJ
 rw[jh d,ez];by_cases h1:s=1
 .subst h1;rw[og rfl,eP];simp only[eK,oU,mg];constructor
  .rintro ⟨a,b,c⟩
   obtain rfl:=xJ (show fs.length=0 by omega)
   match vs,b with
   |[v],_=>exact .done (c v (by simp))
   |[],h=>simp at h|_::_::_,h=>grind
  .intro h;cases h with|done h=>simp_all|dead h=>omega
 rw[jh h1,ez];simp only[eK,m7,oU];constructor
 .rintro ⟨a,b,c⟩
  obtain rfl:=xJ (show fs.length=0 by omega);obtain rfl:=xJ (show vs.length=0 by omega);exact .dead a
 .intro h;cases h with|rP=>omega|back=>omega|done=>omega|dead h=>simp_all
theorem Er:Tf p k o=W↔gu p k o:=by
 let ⟨i,s,l,j⟩:=o
 unfold Tf;by_cases h6:i=6
 .subst h6;exact Uv
 rw[jh h6,ez];by_cases h5:i=5
 .subst h5;rw[og rfl,eP];simp only[eK,oU,On,NK,nP,xu];constructor
  .rintro ⟨rfl,b,c,⟨d,e⟩,g,h⟩
   obtain rfl:=xJ (show l.length=0 by omega)
   match j,c with
   |f::j,_=>exact .vS (by grind) (λq m=>⟨e q m,g q m⟩) h
   |[],h=>simp at h
  .intro h;cases h with|vS a b c=>grind
 rw[jh h5,ez];simp only[eK,oU];constructor
 .rintro ⟨a,b⟩
  obtain rfl:=xJ (show j.length=0 by omega);by_cases h1:i=1
  .subst h1;simp only[og,eP,eK,oU,mg,iq]at b;exact .data b.1.1 (by omega) b.2.1 b.2.2
  rw[jh h1,ez]at b;by_cases h2:i=2
  .subst h2;simp only[og,eP,eK,oU,mg,iq,nP]at b;exact .func b.1.1 (by omega) b.2.1 (by omega) b.2.2.2
  rw[jh h2,ez]at b;by_cases h3:i=3
  .subst h3;simp only[og,eP,eK,oU,mg]at b;obtain⟨rfl,b,c⟩:=b
   match l,b with
   |[v],_=>exact .cell (c v (by simp))
   |[],h=>simp at h|_::_::_,h=>grind
  rw[jh h3,ez]at b;by_cases h4:i=4
  .subst h4;simp only[og,eP,eK,oU,mg,nP]at b;obtain⟨rfl,b,c⟩:=b;exact .chan (by omega) c
  rw[jh h4]at b;cases b
 .intro h;cases h with|data a b c d=>exact⟨rfl,by simp only[og,eP,eK,oU,mg,iq];grind⟩|func a b c d e=>exact⟨rfl,by rw[jh (by decide),ez];simp only[og,eP,eK,oU,mg,iq,nP];grind⟩|cell a=>exact⟨rfl,by rw[jh (by decide),ez,jh (by decide),ez];simp only[og,eP,eK,oU,mg];simp_all⟩|chan a b=>exact⟨rfl,by rw[jh (by decide),ez,jh (by decide),ez,jh (by decide),ez];simp only[og,eP,eK,mg,nP];grind⟩|vS=>omega|rP=>omega|back=>omega|done=>omega|dead=>omega
end
end
section
def VK{α:Type}{l:L α}{k i:Nat}{d:α}(h:i<k):(l.take k).getD i d=l.getD i d:=by
 simp_all
section
variable {p:az}{w:af}{f:av}{o:aB}
structure Bd(p:az)(w:af):Prop where
 ok:jk p
 cl:p.Cons.length<=1000
 wl:w.aJ.length<=1000
def Bd.fl(h:Bd p w):p.dM.length<=1000:=by have:=h.ok.fl;omega
def Bd.nl(h:Bd p w):p.bh.length<=1000:=by have:=h.ok.len;omega
def ak0(b:Bd p w)(l:L av):Ev (λn=>F107 n (p,w,l,())) ((decide ((l.length:Int)<=40)&&l.all (PR p w.aJ.length),()),()):=by
 have c:=b.ok;have o:=b.nl;refine Ev.cap (l:=l) aH _ (by decide) (by decide) (λi r f=>?_) (λn i h=>?_)
 .generalize s:l.getD i aH=g;refine Ev.fR (g:=λn=>ai (F55 n (g.Node,0,bS .i64 (ax p.bh) 1,())) λd=>au (aq d.1.1) (Z (X () (J,()))) (ai (F109 n (p,w,g.Env,30,())) λe=>au (aq e.1.1) (Z (X () (J,()))) (aK (aC g.Node p.bh) (ai (F75 n (aZ p.bh (ak g.Node) aW,())) λq=>ai (F109 n (p,w,g.bg,q.1)) λh=>au (aq h.1.1) (Z (X () (J,()))) (Z (N (aE .i64 (i:Int) 1,()))))))) (λn=>?_) ?_
  .simp_all[bf]
  .unfold PR;simp(disch:=omega)only[bf,cZ,LD];cases h1:yo g.Node 0 ((p.bh.length:Int)-1)with
   |false=>simp_all[bf,Ev.pure]|true=>
    have j:=iq.1 h1;have a:=c.nd j.1 (show g.Node<p.bh.length by omega);simp(disch:=omega)only[bf,eY];refine Ev.ai (OL b.fl b.wl (by decide) (by decide)) ?_;cases h2:decide ((g.Env.length:Int)<=30)&&g.Env.all (vB p w.aJ.length)with|false=>simp_all[bf,Ev.pure]|true=>simp only[bf,eY];simp only[show p.bh.getD g.Node.toNat aW=nodeAt p g.Node from rfl];refine Ev.ai (aY λn=>e75 _ a.lo a.hi) ?_;refine Ev.ai (OL (m:=jr (nodeAt p g.Node)) b.fl b.wl (EF _) (by have:=T1 c a;omega)) (aY λn=>?_);cases decide ((g.bg.length:Int)<=jr (nodeAt p g.Node))&&g.bg.all (vB p w.aJ.length)<;>simp(disch:=omega)only[bf,bF,ep,eu]
 .obtain h|h:=h
  .simp (disch:=omega) [bf]
  .cases k:aD (i:Int) (l.length:Int)<;>simp(disch:=omega)only[bf,k]
theorem akZ(b:Bd p w){l:L av}{m:Nat}(q:m<=l.length)(hl:l.length<=1000)(h:l.all (PR p w.aJ.length)=W):Ev (λn=>F108 n (p,l,(m:Int),())) (((l.take m).all (Te p),()),()):=by
 have j:=b.ok;refine Ev.all (l:=l.take m) aH (Te p) (λ_=>.ret () (J,())) (λ_ _ h=>by cases h) (λi k=>aY λn=>?_) (λn=>?_) (λc=>?_) (λi k c=>?_)
 .have d:i<m:=by grind
  rw[VK d];have g:=AK.1 (gY.1 h _ (cg aH (show i<l.length by omega)));have e:=g.lo;have f:=g.hi;have a:=j.nd e f;simp(disch:=omega)only[bf];rw[show p.bh.getD (l.getD i aH).Node.toNat aW=nodeAt p (l.getD i aH).Node from rfl,e75 _ a.lo a.hi];unfold Te;by_cases o:((l.getD i aH).bg.length:Int)<jr (nodeAt p (l.getD i aH).Node)
  .simp (disch:=omega)only[bf,gw o,bF,ep,eu]
  simp_all[bf,gR]
 .simp_all[bf]
 .rw[c];exact bO
 .rw[c];exact bO
def arK(b:Bd p w){o:aB}(h:o.bg.length<=1000):Ev (λn=>F106 n (p,w,o,())) ((ER p w.aJ.length o,()),()):=by
 let ⟨j,s,d,c⟩:=o
 have i:∀{f:Bool},Ev (λn=>wS n) ((f&&J,()),()):=λ{f}=>aY λn=>by rw[Iz];rfl
 unfold F106 ER;simp only at h ⊢;by_cases g:s=0
 .subst g;unfold Ok;refine Ev.ai (ak0 b c) ?_;cases h1:decide ((c.length:Int)<=40)&&c.all (PR p w.aJ.length)with
  |false=>exact bO|true=>
   refine Ev.ai (OL b.fl b.wl (by decide) (by decide)) ?_;cases h2:decide ((d.length:Int)<=1)&&d.all (vB p w.aJ.length)with
   |false=>exact bO|true=>
    simp only[eK,nP]at h1 h2;simp(disch:=omega) [bf,eY,bF,cZ];by_cases h3:0<c.length+d.length
    .rw[gw h3,eY];simp(disch:=omega) [bf];have e:QK (c.length:Int) (FV 0 ((c.length:Int)-1+(d.length:Int)))=((c.length-(1-d.length):Nat):Int):=by simp[QK,FV,aD,Bool.cond_decide];omega
     rw[e];exact Ev.ai (akZ b (by omega) (by omega) h1.2) (Ev.pure _)
    simp_all[bf]
 rw[jh g,ez];by_cases h1:s=1
 .subst h1;simp[bf];by_cases a:c.length=0
  .rw[og (show((c.length:Nat):Int)=0 by omega),eY];by_cases k:d.length=1
   .rw[og (show((d.length:Nat):Int)=1 by omega),eY];simp[bf];refine Ev.ai (OL b.fl b.wl (by decide) (by decide)) (aY λn=>?_);rw[gw (show(d.length:Int)<=1 by omega),eY]
   .rw[jh (show ¬((d.length:Nat):Int)=1 by omega)];exact bO
  .rw[jh (show ¬((c.length:Nat):Int)=0 by omega)];exact bO
 rw[jh h1,ez];refine aY λn=>?_;simp[bf];cases aa s 2<;>cases aa s 3<;>cases aa s 4<;>cases aa (c.length:Int) 0<;>cases aa (d.length:Int) 0<;>rfl
def e67(b:Bd p w){o:aB}(g:o.bg.length<=1000)(e:o.Frames.length<=1000):Ev (λn=>F67 n (p,w,o,())) ((Tf p w.aJ.length o,()),()):=by
 have h:=b.cl;have i:=b.nl
 let ⟨c,s,d,a⟩:=o
 unfold F67 Tf;by_cases h6:c=6
 .subst h6;exact Ev.ai (arK b g) (Ev.pure _)
 rw[jh h6,ez];by_cases h5:c=5
 .subst h5;simp only[bf];cases aa s 0 with
  |false=>exact bO|true=>
  cases aa (d.length:Int) 0 with
  |false=>exact bO|true=>
  cases h3:aD 0 (a.length:Int)with
  |false=>exact bO|true=>
  refine Ev.ai (ak0 b a) ?_;cases h1:decide ((a.length:Int)<=40)&&a.all (PR p w.aJ.length)with
  |false=>exact bO|true=>
  simp only[eK,nP]at h1;refine Ev.ai (akZ b (cu _) e h1.2) ?_;rw[tF];cases h2:a.all (Te p)with
  |false=>exact bO|true=>have h3:=xu.1 h3;have f:=AK.1 (gY.1 h1.2 _ (cg aH (show 0<a.length by omega)));have j:=f.lo;have k:=f.hi;simp(disch:=omega)only[bf,eY];exact bO
 rw[jh h5,ez];simp only[bf];cases aa (a.length:Int) 0 with
 |false=>exact bO|true=>
 by_cases h1:c=1
 .subst h1;simp(disch:=omega)only[bf,cZ,LD];cases h1:yo s 0 ((p.Cons.length:Int)-1)with
  |false=>exact bO|true=>
  have l:=iq.1 h1;have m:=b.ok.cons _ (cg bM (show s.toNat<p.Cons.length by omega));simp(disch:=omega)only[bf,eY];cases h2:aa (d.length:Int) (p.Cons.getD s.toNat bM).sd with
  |false=>exact bO|true=>
  have h2:=oU.1 h2;simp[bf,eY];refine Ev.ai (OL b.fl b.wl (by decide) (by decide)) (aY λn=>?_);rw[gw (show(d.length:Int)<=3 by omega),eY]
 rw[jh h1,ez];by_cases h2:c=2
 .subst h2;simp(disch:=omega)only[bf,cZ,LD];cases h1:yo s 0 ((p.bh.length:Int)-1)with
  |false=>exact bO|true=>
  have l:=iq.1 h1;simp(disch:=omega)only[bf,eY];rw[show p.bh.getD s.toNat aW=nodeAt p s from rfl];cases aa (nodeAt p s).Op 5 with
  |false=>exact bO|true=>exact Ev.ai (OL b.fl b.wl (by decide) (by decide)) (Ev.pure _)
 rw[jh h2,ez];by_cases h3:c=3
 .subst h3;cases aa s 0 with
  |false=>exact bO|true=>
  cases h2:aa (d.length:Int) 1 with
  |false=>exact bO|true=>
  have h2:=oU.1 h2;simp[bf,eY];refine Ev.ai (OL b.fl b.wl (by decide) (by decide)) (aY λn=>?_);rw[gw (show(d.length:Int)<=1 by omega),eY]
 rw[jh h3,ez];by_cases h4:c=4
 .subst h4;cases aa s 0 with
  |false=>exact bO|true=>exact Ev.ai (OL b.fl b.wl (by decide) (by decide)) (Ev.pure _)
 rw[jh h4,ez];exact bO
end
end
section
def Ev.allI{β R B P X:Type}(len:Nat)(s:Nat->X)(q:Nat->Bool)(bad:Nat->LO X R B P){F:Nat->X->O (LO X R B P)}{g:Nat->LO X R B P->O β}{r:β}(c:∀i y,bad i≠.next y)
  (hs:∀i,i<len->(∀j,j<i->q j=W)->Ev (λn=>F n (s i)) (bif q i then .next (s (i+1))else bad i)) (d:∀n,F n (s len)=Z (.out 0 (s len)))
  (h1:(∀i,i<len->q i=W)->Ev (λn=>g n (.out 0 (s len))) r) (h2:∀i,i<len->q i=J->Ev (λn=>g n (bad i)) r):Ev (λn=>ai (iter (F n) n (s 0)) (g n)) r:=by
 obtain⟨a,b⟩|⟨i,e,a,_,b⟩:=pE len s q bad 0 c hs (λ_=>aY d)
 .exact Ev.aT b g _ (h1 a)
 .exact Ev.aT b g _ (h2 i e a)
theorem tj:∀{T S:L Int},T.Nodup->(∀x∈T,x∈S)->T.length<=S.length
 |[],_,_,_=>Ag _|t::T,S,a,h=>by
  have a:=Nf.1 a;have h1:=tj (S:=S.erase t) a.2 (λx b=>(List.mem_erase_of_ne (λe=>a.1 (by simp_all))).2 (h x (iB _ b)))
  grind
theorem NP{l:L Int}:l.Nodup↔∀i,i<l.length->(l.take i).contains (l.getD i 0)=J:=by
 rw[List.Nodup,Ni];constructor
 .grind[List.getElem_of_mem]
 .intro h i j c a b e;have:=h j a;have d:l[i]∈l.take j:=List.mem_take_iff_getElem.2 ⟨i,by omega,rfl⟩
  simp_all
section
variable {p:az}{w:af}
structure Ed(w:af):Prop where
 ug:w.aM.Nodup
 task:∀t∈w.aM,0<=t∧t<w.aJ.length∧(bI w t).Form=6
 all:∀i:Nat,i<w.aJ.length->(bI w i).Form=6->(i:Int)∈w.aM
def EP(w:af):L Int:=((List.range w.aJ.length).filter λi:Nat=>aa (bI w i).Form 6).map λi:Nat=>(i:Int)
theorem Ar{x:Int}:x∈EP w↔0<=x∧x<w.aJ.length∧(bI w x).Form=6:=by
 unfold EP;simp[nO,List.mem_filter,Nd,oU];constructor
 .grind
 .rintro ⟨h1,h2,h3⟩
  obtain⟨i,rfl⟩:∃i:Nat,x=i:=⟨_,(xH h1).symm⟩
  grind
theorem PV:(EP w).Nodup:=by
 grind[EP,List.nodup_range]
theorem WZ:(EP w).length=w.aJ.countP λo=>aa o.Form 6:=by
 unfold EP;rw[rH,<-List.countP_eq_length_filter];have e:w.aJ=(List.range w.aJ.length).map λi:Nat=>bI w (i:Int):=by
  apply List.ext_getElem
  .simp
  grind[bI]
 conv=>rhs;rw[e,List.countP_map]
 rfl
theorem Ed.len(h:Ed w):w.aM.length=(EP w).length:=Nat.le_antisymm (tj h.ug λx a=>Ar.2 (h.task x a)) (tj PV λx a=>by
 let ⟨h1,h2,h3⟩:=Ar.1 a
 obtain⟨i,rfl⟩:∃i:Nat,x=i:=⟨_,(xH h1).symm⟩;exact h.all i (by omega) h3)
theorem Ed.afE(h1:w.aM.Nodup)(h2:∀t∈w.aM,0<=t∧t<w.aJ.length∧(bI w t).Form=6)(h3:w.aM.length=(EP w).length):Ed w:=by
 refine⟨h1,h2,λi c d=>S6 λb=>?_⟩;have:=tj (T:=(i:Int)::w.aM) (S:=EP w) (Nf.2 ⟨b,h1⟩) (λx a=>by
  obtain rfl|a:=fy.1 a
  .grind[Ar]
  .exact Ar.2 (h2 x a))
 grind
theorem Ed.tl(h:Ed w):w.aM.length<=w.aJ.length:=by
 rw[h.len]
 grind[EP]
def Us(w:af)(i:Nat):Bool:=yo (w.aM.getD i 0) 0 (w.aJ.length-1)&&(aa (bI w (w.aM.getD i 0)).Form 6&&!(w.aM.take i).contains (w.aM.getD i 0))
theorem w6:(∀i,i<w.aM.length->Us w i=W)↔w.aM.Nodup∧∀t∈w.aM,0<=t∧t<w.aJ.length∧(bI w t).Form=6:=by
 rw[NP];unfold Us;simp only[eK,iq,oU,Qs];constructor
 .intro h;exact⟨λi a=>(h i a).2.2,ir (d:=0) λi a=>⟨(h i a).1.1,by grind,(h i a).2.1⟩⟩
 grind
def ak1{l:L Int}{x:Int}(hl:l.length<=1000):Ev (λn=>F105 n (l,x,())) ((l.contains x,()),()):=by
 refine Ev.all (l:=l) 0 (λa=>!(aa a x)) (λ_=>.ret () (W,())) (λ_ _ h=>by cases h) (λi d=>aY λn=>?_) (λn=>by simp(disch:=omega) [bf]) (λb=>?_) (λi d b=>?_)
 .simp (disch:=omega)only[bf];cases aa (l.getD i 0) x<;>simp(disch:=omega)only[bf,bF,ep,eu,DN,KL]
 .rw[show l.contains x=J from ?_]
  .exact bO
  .cases c:l.contains x with|false=>rfl|true=>have:=gY.1 b x (Qw.1 c);rw[og rfl]at this;cases this
 .rw[show l.contains x=W from ?_]
  .exact bO
  .rw[List.all_eq_false]at b
   let ⟨a,e,h⟩:=b
   rw[Qw];have:aa a x=W:=by cases c:aa a x with|true=>rfl|false=>rw[c]at h;exact absurd rfl h
   rw[<-oU.1 this];exact e
theorem e66(q:w.aJ.length<=1000)(r:w.aM.length<=1000):∃b,Ev (λn=>F66 n (w,())) ((b,()),())∧(b=W↔Ed w):=by
 have a:∀i,i<w.aJ.length->(w.aJ.take (i+1)).countP (λo=>aa o.Form 6)=(w.aJ.take i).countP (λo=>aa o.Form 6)+(bif aa (w.aJ.getD i aO).Form 6 then 1 else 0):=by intro i d;rw[List.take_succ_eq_append_getElem d,List.countP_append,List.countP_singleton];rw[tH,iZ d,Jo,Bool.cond_eq_ite]
 have run:=gn (F:=λn(c:Int×Int×U)=>au (aD c.2.1 (ax w.aJ)) (aK (aC c.2.1 w.aJ) (au (aa (aZ w.aJ (ak c.2.1) aO).Form 6) (Z (N (R:=Bool×U) (B:=U) (P:=Any) (aE .i64 c.1 1,aE .i64 c.2.1 1,()))) (Z (N (c.1,aE .i64 c.2.1 1,()))))) (Z (H 0 c)))
  w.aJ.length (λi=>((((w.aJ.take i).countP λo=>aa o.Form 6:Nat):Int),(i:Int),())) 0 (λi d=>aY λn=>by
   have h1:=List.countP_le_length (p:=λo:aB=>aa o.Form 6) (l:=w.aJ.take i);rw[SY]at h1;simp only[a i d];cases m:aa (w.aJ.getD i aO).Form 6<;>simp(disch:=omega)only[bf,m,bF,ep,eu,Int.natCast_zero,Int.add_zero,Nat.add_zero]) (aY λn=>by simp(disch:=omega) [bf])
 simp only[List.take_zero,List.countP_nil,tF,<-WZ]at run;by_cases f:w.aM.length=(EP w).length
 .have g:∀{b:Bool},(b=W↔∀i,i<w.aM.length->Us w i=W)->(b=W↔Ed w):=λ{b}h=>h.trans ⟨λh=>Ed.afE (w6.1 h).1 (w6.1 h).2 f,λh=>w6.2 ⟨h.ug,h.task⟩⟩;have step:∀b:Bool,((∀i,i<w.aM.length->Us w i=W)->b=W)->((∃i,i<w.aM.length∧Us w i=J)->b=J)->Ev (λn=>F66 n (w,())) ((b,()),()):=by
   intro b j k;refine Ev.aT run (λn c=>_) _ (Ev.fR (λn=>dD ..) ?_);rw[<-f];simp only[bf];refine Ev.allI w.aM.length (λi=>((i:Int),())) (Us w) (λ_=>.ret () (J,())) (λ_ _ h=>by cases h) (λi d _=>?_) (λn=>by simp(disch:=omega) [bf]) (λe=>?_) (λi d e=>?_)
   .unfold Us Px;simp(disch:=omega)only[bf,LD,cZ];cases h1:yo (w.aM.getD i 0) 0 ((w.aJ.length:Int)-1)with
    |false=>simp_all[bf,Ev.pure]|true=>
     have s:=iq.1 h1;simp(disch:=omega)only[bf,eY];rw[show w.aJ.getD (w.aM.getD i 0).toNat aO=bI w (w.aM.getD i 0)from rfl];cases aa (bI w (w.aM.getD i 0)).Form 6 with|false=>simp_all[bf,Ev.pure]|true=>simp only[bf,eY,oK];refine Ev.ai (ak1 (by grind)) (aY λn=>?_);cases(w.aM.take i).contains (w.aM.getD i 0)<;>simp(disch:=omega)only[bf,bF,ep,eu,DN,KL]
   .rw[j e];exact bO
   .rw[k ⟨i,d,e⟩];exact bO
  by_cases e:∀i,i<w.aM.length->Us w i=W
  .simp_all
  .exact ⟨J,step J (λh=>absurd h e) (λ_=>rfl),g ⟨(λh=>by cases h),λh=>absurd h e⟩⟩
 .refine ⟨J,Ev.aT run (λn c=>_) _ (aY λn=>?_),(λh=>by cases h),λh=>absurd h.len f⟩;rw[dD];simp(disch:=omega) [bf]
end
end
section
section
variable {p:az}{w:af}
structure nw(w:af):Prop where
 afF:w.aJ.length<=130
 tasks:w.aM.length<=130
 outs:w.ei.length<=110
 ins:w.lK.length<=60
 parts:∀o∈w.aJ,o.bg.length<=40∧o.Frames.length<=50∧∀f∈o.Frames,f.Env.length<=40∧f.bg.length<=40
def Zt(f:av):Bool:=decide ((f.Env.length:Int)<=40)&&decide ((f.bg.length:Int)<=40)
def X4(o:aB):Bool:=decide ((o.bg.length:Int)<=40)&&(decide ((o.Frames.length:Int)<=50)&&o.Frames.all Zt)
theorem e65(n:Nat)(l:L aj):F65 n (l,())=Z ((decide ((l.length:Int)<=40),()),()):=rfl
theorem e35(w:af):∃b,Ev (λn=>F35 n (w,())) ((b,()),())∧(b=W↔nw w):=by
 have no:¬nw w->(J=W↔nw w):=λh=>⟨(λh=>by cases h),λd=>absurd d h⟩;by_cases h1:130<w.aJ.length
 .exact ⟨J,aY λn=>by unfold F35;simp(disch:=omega) [bf],no λh=>by have:=h.afF;omega⟩
 by_cases h2:130<w.aM.length
 .exact ⟨J,aY λn=>by unfold F35;simp(disch:=omega) [bf],no λh=>by have:=h.tasks;omega⟩
 by_cases h3:110<w.ei.length
 .exact ⟨J,aY λn=>by unfold F35;simp(disch:=omega) [bf],no λh=>by have:=h.outs;omega⟩
 by_cases h4:60<w.lK.length
 .exact ⟨J,aY λn=>by unfold F35;simp(disch:=omega) [bf],no λh=>by have:=h.ins;omega⟩
 refine⟨w.aJ.all X4,?_,λh=>⟨by omega,by omega,by omega,by omega,λo c=>?_⟩,λh=>gY.2 λo c=>?_⟩
 .unfold F35;simp(disch:=omega)only[bf];refine Ev.all (l:=w.aJ) aO X4 (λ_=>.ret () (J,())) (λ_ _ h=>by cases h) (λi e=>?_) (λn=>by simp(disch:=omega) [bf]) (λa=>?_) (λi e a=>?_)
  .generalize f:w.aJ.getD i aO=o;unfold X4;simp(disch:=omega)only[bf,f,e65];cases decide ((o.bg.length:Int)<=40)with
   |false=>simp_all[bf,Ev.pure]|true=>
   by_cases h5:50<o.Frames.length
   .rw[gR (show ¬(o.Frames.length:Int)<=50 by omega)];simp(disch:=omega) [bf,jH,Iz];exact Ev.pure _
   .rw[gw (show(o.Frames.length:Int)<=50 by omega)];simp(disch:=omega)only[bf,eY];refine Ev.all (l:=o.Frames) aH Zt (λ_=>.ret () (J,())) (λ_ _ h=>by cases h) (λj g=>aY λn=>?_) (λn=>by simp(disch:=omega) [bf]) (λa=>?_) (λj g a=>?_)
    .unfold Zt;simp(disch:=omega)only[bf];cases decide (((o.Frames.getD j aH).Env.length:Int)<=40)<;>cases decide (((o.Frames.getD j aH).bg.length:Int)<=40)<;>simp(disch:=omega)only[bf,bF,ep,eu,eY,jH]
    .rw[a,dD];exact aY λn=>by simp(disch:=omega) [bf,bF,ep,eu]
    .rw[a];exact bO
  .rw[a];exact bO
  .rw[a];exact bO
 .have:=gY.1 h o c;simp[X4,Zt,eK,nP,gY]at this
  grind
 .have:=h.parts o c;simp[X4,Zt,eK,nP,gY]
  grind
def e20(p:az)(w:af):∃b,Ev (λn=>F20 n (p,w,())) ((b,()),())∧(b=W->Small p∧nw w):=by
 let ⟨a,h1,d⟩:=e12 p
 let ⟨c,h2,e⟩:=e35 w
 refine⟨a&&c,?_,λh=>?_⟩
 .refine Ev.ai h1 ?_;cases a with
  |false=>exact bO|true=>exact Ev.ai h2 (Ev.pure _)
 simp_all
def FI(o:ef):Bool:=yo o.Port 0 3&&yo o.N (-1000000000) 1000000000
def Gr{l:L Int}:BM l=W↔l.length<=50∧∀i∈l,gT i=W:=by
 simp_all[BM]
def NI{o:ef}:FI o=W↔0<=o.Port∧o.Port<=3∧gT o.N=W:=by
 simp_all[FI,gT,iq,and_assoc]
def T9:eE p w↔w.aJ.length<=120∧(∀o∈w.aJ,gu p w.aJ.length o)∧Ed w∧w.ei.length<=100∧(∀o∈w.ei,FI o=W)∧BM w.lK=W∧yo w.Used 0 1000000000=W:=by
 constructor
 .intro h;exact⟨h.len,h.obs,⟨h.ug,h.task,h.all⟩,h.outs,λo i=>NI.2 (h.out o i),Gr.2 ⟨h.ins,h.inn⟩,iq.2 h.used⟩
 .rintro ⟨a,b,c,d,e,f,g⟩
  exact⟨a,b,d,λo i=>NI.1 (e o i),(Gr.1 f).1,(Gr.1 f).2,iq.1 g,c.ug,c.tl,c.task,c.all⟩
theorem e36(z:jk p)(hs:Small p)(o:nw w):∃b,Ev (λn=>F36 n (p,w,())) ((b,()),())∧(b=W↔eE p w):=by
 have F:=o.afF;have I:=o.outs;have A:Bd p w:=⟨z,by have:=hs.cons;omega,by omega⟩;have bad:∀{q:Prop},¬q->(J=W↔q):=λh=>⟨(λh=>by cases h),λB=>absurd B h⟩
 let ⟨C,t,u⟩:=e66 (w:=w) (by omega) (by have:=o.tasks;omega)
 rw[T9];by_cases h1:120<w.aJ.length
 .exact ⟨J,aY λn=>by unfold F36;simp(disch:=omega) [bf]<;>rfl,bad λh=>by omega⟩
 by_cases h2:100<w.ei.length
 .exact ⟨J,aY λn=>by unfold F36;simp(disch:=omega) [bf]<;>rfl,bad λh=>by omega⟩
 have start:∀{r:(Bool×U)×U},Ev (λn=>ai (F16 n (w.lK,50,())) λc=>au (aq c.1.1) (yK n) (ai (F55 n (w.Used,0,1000000000,())) λd=>au (aq d.1.1) (yK n) (ai (F66 n (w,())) λe=>au (aq e.1.1) (yK n) (ai (iter (λg:Int×U=>au (aD g.1 (ax w.aJ)) (aK (aC g.1 w.aJ) (ai (F67 n (p,w,aZ w.aJ (ak g.1) aO,())) λh=>au (aq h.1.1) (Z (X () (J,()))) (Z (N (aE .i64 g.1 1,()))))) (Z (H 0 g))) n (0,())) λg=>bp g (λ_ _=>ai (iter (λj:Int×U=>au (aD j.1 (ax w.ei)) (aK (aC j.1 w.ei) (ai (F55 n ((aZ w.ei (ak j.1) eS).1,0,3,())) λk=>au (aq k.1.1) (Z (X () (J,()))) (aK (aC j.1 w.ei) (ai (F55 n ((aZ w.ei (ak j.1) eS).2,(-1000000000),1000000000,())) λl=>au (aq l.1.1) (Z (X () (J,()))) (Z (N (aE .i64 j.1 1,()))))))) (Z (H 0 j))) n (0,())) λj=>bp j (λ_ _=>Z ((W,()),())) (λ_ l=>Z (l,())) λ_(_:Any)=>Y) (λ_ i=>Z (i,())) λ_(_:Any)=>Y)))) r->Ev (λn=>F36 n (p,w,())) r:=λh=>Ev.fR (λn=>by unfold F36;simp(disch:=omega) [bf]<;>rfl) h;cases v:BM w.lK with
 |false=>exact⟨J,start (Ev.ai (e16 o.ins) (aY λn=>by rw[v];rfl)),bad λh=>by have:=h.2.2.2.2.2.1;cases this⟩
 |true=>
 cases x:yo w.Used 0 1000000000 with
 |false=>exact⟨J,start (Ev.ai (e16 o.ins) (aY λn=>by rw[v];simp[bf,LD,x]<;>rfl)),bad λh=>by have:=h.2.2.2.2.2.2;cases this⟩
 |true=>
 have m:∀{f:Nat->O ((Bool×U)×U)}{r:(Bool×U)×U},Ev f r->Ev (λn=>au (aq (BM w.lK)) (yK n) (ai (F55 n (w.Used,0,1000000000,())) λd=>au (aq d.1.1) (yK n) (f n))) r:=λ{f r}h=>by simp[bf,v,LD,x];exact h
 cases C with
 |false=>exact⟨J,start (Ev.ai (e16 o.ins) (m (Ev.ai t bO))),bad λh=>by have:=u.2 h.2.2.1;cases this⟩
 |true=>
 refine⟨w.aJ.all (Tf p w.aJ.length)&&w.ei.all FI,start (Ev.ai (e16 o.ins) (m (Ev.ai t ?_))),?_⟩
 .refine Ev.Pc (l:=w.aJ) aO (Tf p w.aJ.length) (λn a=>F67 n (p,w,a,())) (λ_=>.ret () (J,())) (λn c=>by rfl) (by omega) (λ_ _ h=>by cases h) (λa y=>e67 A (by have:=(o.parts a y).1;omega) (by have:=(o.parts a y).2.1;omega)) (λs=>?_) (λs i=>?_)
  .rw[s,eY];refine Ev.fR (λn=>dD ..) ?_;refine Ev.all (l:=w.ei) eS FI (λ_=>.ret () (J,())) (λ_ _ h=>by cases h) (λj E=>aY λn=>?_) (λn=>by simp(disch:=omega) [bf]) (λs=>?_) (λj E s=>?_)
   .unfold FI;simp(disch:=omega)only[bf,LD];cases yo (w.ei.getD j eS).Port 0 3<;>cases yo (w.ei.getD j eS).N (-1000000000) 1000000000<;>simp(disch:=omega)only[bf,bF,ep,eu,eY,jH]
   .rw[s];exact bO
   .rw[s];exact bO
  .rw[s];exact bO
 .simp only[eK,gY,Er];exact⟨λ⟨a,b⟩=>⟨by omega,a,u.1 rfl,by omega,b,trivial,trivial⟩,λ⟨_,a,_,_,b,_⟩=>⟨a,b⟩⟩
def e22(hs:Small p)(d:nw w):∃b,Ev (λn=>F22 n (p,w,())) ((b,()),())∧(b=W↔FP p∧eE p w):=by
 let ⟨e,h1,f⟩:=e15 hs
 cases e with
 |false=>exact⟨J,by exact Ev.ai h1 bO,(λh=>by cases h),λh=>by simp_all⟩
 |true=>
  have a:=f.1 rfl
  let ⟨g,h2,c⟩:=e36 a.ok hs d
  exact⟨g,by exact Ev.ai h1 (Ev.ai h2 (Ev.pure _)),λh=>⟨a,c.1 h⟩,λh=>c.2 h.2⟩
end
end
section
section
variable {p:az}{w:af}
def yV{X R B P:Type}{b:B}{r:X->R}:∀(c y:X),(LO.ret b (r c):LO X R B P)≠.next y:=λ_ _ h=>by cases h
theorem afI(i:Nat):aq (bA 0 (i:Int))=J:=by rfl
theorem ark(b:Bd p w){f:av}(hl:f.Env.length<=1000)(g:f.bg.length<=1000):Ev (λn=>F266 n (⟨p,w⟩,f,())) ((PR p w.aJ.length f,()),()):=by
 have h:=b.nl;unfold F266 PR;simp(disch:=omega)only[bf,VZ,cZ];cases h1:yo f.Node 0 ((p.bh.length:Int)-1)with
 |false=>exact bO|true=>
 have e:=iq.1 h1;have d:=b.ok.nd e.1 (show f.Node<p.bh.length by omega);by_cases h2:f.Env.length<=30
 .rw[gw (show(f.Env.length:Int)<=30 by omega)];simp(disch:=omega)only[bf,eY,show p.bh.getD f.Node.toNat aW=nodeAt p f.Node from rfl,adr _ d.lo d.hi];by_cases h3:(f.bg.length:Int)<=jr (nodeAt p f.Node)
  .rw[gw h3,eY];refine Ev.fR (λn=>tu h3 _ _) ?_;refine Ev.Pc (l:=f.Env) aA (vB p w.aJ.length) (λn v=>F211 n (⟨p,w⟩,v,())) (λc=>.ret () c) (λn c=>rfl) (by omega) yV (λv _=>aY λn=>ag4 n b.fl b.wl v) (λa=>?_) (λa i=>?_)
   .rw[a,eY];refine Ev.Pc (l:=f.bg) aA (vB p w.aJ.length) (λn v=>F211 n (⟨p,w⟩,v,())) (λc=>.ret () c) (λn c=>rfl) (by omega) yV (λv _=>aY λn=>ag4 n b.fl b.wl v) (λa=>?_) (λa i=>?_)
    .rw[a];exact bO
    grind[aY,wh,afI]
   .rw[a];exact aY λn=>(tu (Int.natCast_nonneg i) _ _).trans rfl
  .rw[gR h3];simp only[jH,Iz];exact Ev.fR (λn=>KC (by omega) _ _) bO
 .rw[gR (show ¬(f.Env.length:Int)<=30 by omega)];simp(disch:=omega) [bf,jH];exact bO
theorem akW(b:Bd p w){l:L av}{m:Nat}(q:m<=1)(hl:l.length<=1000)(hf:∀f∈l,f.Env.length<=1000∧f.bg.length<=1000) :
  Ev (λn=>F212 n (⟨p,w⟩,l,(m:Int),())) (((decide ((l.length:Int)<=40)&&l.all (PR p w.aJ.length))&&(l.take (l.length-m)).all (Te p),()),()):=by
 unfold F212;by_cases h1:l.length<=40
 .rw[gw (show(l.length:Int)<=40 by omega)];simp(disch:=omega)only[bf,eY];refine Ev.Pc (l:=l) aH (PR p w.aJ.length) (λn v=>F266 n (⟨p,w⟩,v,())) (λc=>.ret () c) (λn c=>rfl) (by omega) yV (λv g=>ark b (hf v g).1 (hf v g).2) (λa=>?_) (λa i=>?_)
  .rw[a,eY];have e:FV 0 (bS .i64 (ax l) (m:Int))=((l.length-m:Nat):Int):=by rw[Eu,cZ (by omega) (by omega)];simp only[FV,aD,Bool.cond_decide];omega
   have o:HZ ((⟨p,w⟩:cP),l,(m:Int),())=l.take (l.length-m):=by
    grind[HZ,oK]
   unfold Sj;rw[o,e];simp(disch:=omega)only[bf];refine Ev.Pc (l:=l.take (l.length-m)) aH (Te p) (λn v=>F267 n (⟨p,w⟩,v,())) (λc=>.ret () c) (λn c=>by rfl) (by grind) yV (λv g=>aY λn=>?_) (λa=>?_) (λa i=>?_)
   .have k:=AK.1 (gY.1 a v (Qv g));have h:=k.lo;have j:=k.hi;have d:=b.ok.nd h j;unfold F267 Te;simp(disch:=omega)only[bf,show p.bh.getD v.Node.toNat aW=nodeAt p v.Node from rfl,adr _ d.lo d.hi];rfl
   .rw[a];exact bO
   grind[aY,wh,afI]
  .rw[a];exact aY λn=>(tu (Int.natCast_nonneg i) _ _).trans rfl
 .rw[gR (show ¬(l.length:Int)<=40 by omega)];simp(disch:=omega) [bf,jH];exact bO
def ahJ(o:aB):Prop:=o.bg.length<=1000∧o.Frames.length<=1000∧∀f∈o.Frames,f.Env.length<=1000∧f.bg.length<=1000
variable {o:aB}
def arn(b:Bd p w)(hs:ahJ o)(d:o.bg.all (vB p w.aJ.length)=W):Ev (λn=>F213 n (⟨p,w⟩,o,())) ((ER p w.aJ.length o,()),()):=by
 let ⟨h,s,a,c⟩:=o
 let ⟨i,e,f⟩:=hs
 unfold F213 ER;simp only at d i e f ⊢;by_cases g:s=0
 .subst g;unfold Ok;simp[d,Ab];by_cases h1:1<a.length
  .rw[gR (show ¬(a.length:Int)<=1 by omega)];simp(disch:=omega) [bf,Iz,jH];exact bO
  rw[gw (show(a.length:Int)<=1 by omega),Ab];simp(disch:=omega) [bf];have go:Ev (λn=>Ml n (⟨p,w⟩,⟨h,0,a,c⟩,())) (((decide ((c.length:Int)<=40)&&c.all (PR p w.aJ.length))&&(c.take (c.length-(1-a.length))).all (Te p),()),()):=by unfold Ml;simp(disch:=omega) [bf,cZ];rw[show(1:Int)-(a.length:Int)=((1-a.length:Nat):Int)by omega];exact Ev.ai (akW b (by omega) e f) (Ev.pure _)
  by_cases h2:0<c.length+a.length
  .by_cases h3:c.length=0
   .have h4:¬a.length=0:=by omega
    simp_all[bf]
   simp_all[bf]
  .rw[gR h2,jH,Iz];simp(disch:=omega) [bf];exact bO
 rw[jh g,ez];by_cases h1:s=1
 .subst h1;rw[og rfl,eP,d,Ab];simp[bf];refine aY λn=>?_;cases aa (c.length:Int) 0<;>cases aa (a.length:Int) 1<;>rfl
 rw[jh h1,ez];refine aY λn=>?_;simp[bf];cases aa s 2<;>cases aa s 3<;>cases aa s 4<;>cases aa (c.length:Int) 0<;>cases aa (a.length:Int) 0<;>rfl
def arx(b:Bd p w)(hs:ahJ o):Ev (λn=>F163 n (⟨p,w⟩,o,())) ((Tf p w.aJ.length o,()),()):=by
 have j:=b.cl;have k:=b.nl;unfold F163;refine Ev.Pc (l:=o.bg) aA (vB p w.aJ.length) (λn v=>F211 n (⟨p,w⟩,v,())) (λc=>.ret () c) (λn c=>rfl) (by have:=hs.1;omega) yV (λv _=>aY λn=>ag4 n b.fl b.wl v) (λd=>?_) (λd i=>?_);rotate_left
 .rw[show Tf p w.aJ.length o=J from ?_]
  .refine aY λn=>?_;rfl
  .cases q:Tf p w.aJ.length o with|false=>rfl|true=>rw[mg.2 (Er.1 q).vals]at d;cases d
 show Ev (λn=>Mm n (⟨p,w⟩,o,())) _;have r:=arn b hs d
 let ⟨e,s,t,a⟩:=o
 let ⟨u,f,g⟩:=hs
 unfold Mm Tf;simp only at d u f g ⊢;by_cases h6:e=6
 .subst h6;exact Ev.ai r (Ev.pure _)
 rw[jh h6,ez];by_cases h5:e=5
 .subst h5;simp(disch:=omega)only[bf];cases aa s 0 with
  |false=>exact bO|true=>
  cases aa (t.length:Int) 0 with
  |false=>exact bO|true=>
  cases h3:aD 0 (a.length:Int)with
  |false=>exact bO|true=>
  refine Ev.ai (akW (m:=0) b (by omega) f g) ?_;rw[Nat.sub_zero,tF];cases h1:decide ((a.length:Int)<=40)&&a.all (PR p w.aJ.length)with
  |false=>exact bO|true=>
  cases h2:a.all (Te p)with
  |false=>exact bO|true=>have h3:=xu.1 h3;simp only[eK,nP]at h1;have h:=AK.1 (gY.1 h1.2 _ (cg aH (show 0<a.length by omega)));have x:=h.lo;have y:=h.hi;simp(disch:=omega)only[bf,eY];exact bO
 rw[jh h5,ez];refine aY λn=>?_;simp only[bf,d,Ab];by_cases h1:e=1
 .subst h1;simp(disch:=omega)only[bf,cZ,VZ];cases aa (a.length:Int) 0 with
  |false=>rfl|true=>
  cases h1:yo s 0 ((p.Cons.length:Int)-1)with
  |false=>rfl|true=>
  have z:=iq.1 h1;simp(disch:=omega) [bf,eY]
 rw[jh h1,ez];by_cases h2:e=2
 .subst h2;simp(disch:=omega)only[bf,cZ,VZ];cases aa (a.length:Int) 0 with
  |false=>rfl|true=>
  cases h1:yo s 0 ((p.bh.length:Int)-1)with
  |false=>rfl|true=>
  have z:=iq.1 h1;simp(disch:=omega)only[bf,eY];rw[show p.bh.getD s.toNat aW=nodeAt p s from rfl];cases aa (nodeAt p s).Op 5<;>rfl
 rw[jh h2,ez];by_cases h3:e=3
 .subst h3;rw[og rfl,eP];simp[bf];cases aa (a.length:Int) 0<;>cases aa s 0<;>rfl
 rw[jh h3,ez];by_cases h4:e=4
 .subst h4;rw[og rfl,eP];simp[bf];cases aa (a.length:Int) 0<;>cases aa s 0<;>rfl
 rw[jh h4,ez];simp only[bf];cases aa (a.length:Int) 0<;>rfl
end
end
section
section
variable {p:az}{w:af}
abbrev Yr(x:Int)(l:L (Int×Bool)):Bool:=Io (A:=sg.A) (Ty.int .i64) J x l
abbrev YJ(x:Int)(l:L (Int×Bool)):L (Int×Bool):=ni (A:=sg.A) (Ty.int .i64) x W l
def Yq(x k:Int):∀l:L (Int×Bool),Yr x (YJ k l)=(aa x k||Yr x l)
 |[]=>by show(bif aa x k then W else J)=(aa x k||J);cases aa x k<;>rfl
 |q::l=>by
  have a:=Yq x k l;show Yr x (bif aa k q.1 then(k,W)::l else q::YJ k l)=(aa x k||(bif aa x q.1 then q.2 else Yr x l));cases h1:aa k q.1 with
  |true=>have h1:=oU.1 h1;show(bif aa x k then W else Yr x l)=_;rw[<-h1];cases aa x k<;>rfl
  |false=>
   show(bif aa x q.1 then q.2 else Yr x (YJ k l))=_;rw[a];cases h2:aa x q.1 with|false=>rfl|true=>rw[oU.1 h2,show aa q.1 k=J from jh λe=>by rw[e,og rfl]at h1;cases h1];rfl
def met(w:af):Nat->L (Int×Bool)
 |0=>[]|i+1=>YJ (w.aM.getD i 0) (met w i)
def Lb(x:Int):∀i,i<=w.aM.length->Yr x (met w i)=(w.aM.take i).contains x
 |0,_=>rfl|i+1,h=>by show Yr x (YJ (w.aM.getD i 0) (met w i))=_;rw[Yq,Lb x i (by omega),List.take_succ_eq_append_getElem (by omega),tH,iZ (by omega),Jo];rw[Nn];simp only[m7,oU,Qw,dW,oa];exact or_comm
def rJ(n:Nat):L Int:=(List.range n).map λi:Nat=>(i:Int)
def Ao(n:Nat):(rJ n).length=n:=by simp[rJ]
def Jx(n:Nat):rJ (n+1)=rJ n++[(n:Int)]:=by simp[rJ,List.range_succ]
theorem NO{n i:Nat}(h:i<n):(rJ n).getD i 0=(i:Int):=by
 grind[rJ]
def arw(v:w.aJ.length<=1000)(y:w.aM.length<=1000):∃b,Ev (λn=>F164 n (⟨p,w⟩,())) ((b,()),())∧(b=W↔Ed w):=by
 let f:Int->Bool:=λx=>Yr x (met w w.aM.length)||!(aa (bI w x).Form 6)
 have key:∀b:Bool,((∀i,i<w.aM.length->Us w i=W)->b=(rJ w.aJ.length).all f)->((∃i,i<w.aM.length∧Us w i=J)->b=J)->Ev (λn=>F164 n (⟨p,w⟩,())) ((b,()),()):=by
  intro b m o;refine Ev.allI w.aM.length (λi=>((i:Int),met w i,())) (Us w) (λi=>.ret (met w i,()) (J,())) (λ_ _ h=>by cases h) (λi d _=>aY λn=>?_) (λn=>by simp(disch:=omega) [bf]) (λa=>?_) (λi d a=>?_)
  .unfold Us Cy;simp(disch:=omega)only[bf,VZ,cZ];cases h1:yo (w.aM.getD i 0) 0 ((w.aJ.length:Int)-1)with
   |false=>rfl|true=>
    have z:=iq.1 h1;simp(disch:=omega)only[bf,eY];rw[show w.aJ.getD (w.aM.getD i 0).toNat aO=bI w (w.aM.getD i 0)from rfl];cases aa (bI w (w.aM.getD i 0)).Form 6 with|false=>rfl|true=>rw[show Io (A:=sg.A) (Ty.int .i64) J (w.aM.getD i 0) (met w i)=_ from Lb _ i (by omega)];cases(w.aM.take i).contains (w.aM.getD i 0)<;>simp(disch:=omega)only[bf,bF,ep,eu,DN,KL,eY];rfl
  .rw[m a];refine Ev.fR (λn=>dD ..) ?_;refine Ev.aT (gn w.aJ.length (λi=>((i:Int),(rJ i,()),())) 0 (λi d=>aY λn=>?_) (aY λn=>?_)) (λn c=>_) _ ?_
   .have q:=Ao i;simp(disch:=first|omega|simp[lz];omega) [bf,bF,ep,eu,Jx]
   .simp (disch:=omega) [bf]
   .refine Ev.fR (λn=>dD ..) ?_;refine Ev.all (l:=rJ w.aJ.length) 0 f (λj=>.ret () ((j:Int),())) (λ_ _ h=>by cases h) (λj k=>aY λn=>?_) (λn=>by simp(disch:=omega) [bf]) (λa=>?_) (λj k a=>?_)
    .have q:=Ao w.aJ.length;rw[q]at k;rw[NO k];show _=Z (bif Yr (j:Int) (met w w.aM.length)||!(aa (bI w (j:Int)).Form 6)then _ else _);have r:aZ (rJ w.aJ.length) (ak (j:Int)) 0=(j:Int):=NO k;have s:aZ w.aJ (ak (j:Int)) aO=bI w (j:Int):=rfl;unfold H6;simp only[r,s];cases e:Yr (j:Int) (met w w.aM.length)with|true=>simp(disch:=omega) [bf,e,bF,ep,eu,Bool.true_or]|false=>have e:Io (A:=sg.A) (Ty.int .i64) J (j:Int) (met w w.aM.length)=J:=e;cases t:aa (bI w (j:Int)).Form 6<;>simp(disch:=omega)only[bf,e,t,bF,ep,eu,Bool.false_or,DN,KL]
    .rw[a];exact bO
    .rw[a];exact aY λn=>by show Z ((aq (bA 0 (j:Int)),()),())=_;rw[afI]
  .rw[o ⟨i,d,a⟩];exact bO
 have g:(rJ w.aJ.length).all f=W↔∀i:Nat,i<w.aJ.length->(bI w i).Form=6->(i:Int)∈w.aM:=by
  simp only[gY,rJ,nO,Nd];constructor
  .intro h i d u;have:=h i ⟨i,d,rfl⟩;simp[f,Lb _ _ (cu _),tF,og u,DN,Bool.or_false,Qw]at this;exact this
  .rintro h x ⟨i,d,rfl⟩
   simp only[f,Lb _ _ (cu _),tF,m7,Qw];cases e:aa (bI w (i:Int)).Form 6 with|false=>exact .inr rfl|true=>exact .inl (h i d (oU.1 e))
 by_cases a:∀i,i<w.aM.length->Us w i=W
 .refine ⟨_,key _ (λ_=>rfl) (λ⟨i,d,h⟩=>by simp_all),g.trans ⟨λh=>⟨(w6.1 a).1,(w6.1 a).2,h⟩,λh=>h.all⟩⟩
 .exact ⟨J,key J (λh=>absurd h a) (λ_=>rfl),(λh=>by cases h),λh=>absurd (w6.2 ⟨h.ug,h.task⟩) a⟩
def arv(n:Nat)(o:ef):F166 n (o,())=Z ((FI o,()),()):=by unfold F166 FI;simp[bf,VZ];cases yo o.Port 0 3<;>rfl
theorem e99(u:jk p)(hs:Small p)(d:nw w):∃b,Ev (λn=>F99 n (⟨p,w⟩,())) ((b,()),())∧(b=W↔eE p w):=by
 have E:=d.afF;have v:Bd p w:=⟨u,by have:=hs.cons;omega,by omega⟩;have bad:∀{q:Prop},¬q->(J=W↔q):=λh=>⟨(λh=>by cases h),λx=>absurd x h⟩
 let ⟨y,e,z⟩:=arw (p:=p) (w:=w) (by omega) (by have:=d.tasks;omega)
 have sm:∀o∈w.aJ,ahJ o:=λo j=>⟨by have:=(d.parts o j).1;omega,by have:=(d.parts o j).2.1;omega,λf m=>⟨by have:=((d.parts o j).2.2 f m).1;omega,by have:=((d.parts o j).2.2 f m).2;omega⟩⟩;rw[T9];by_cases h1:120<w.aJ.length
 .exact ⟨J,aY λn=>by unfold F99;simp(disch:=omega) [bf]<;>rfl,bad λh=>by omega⟩
 have go:∀{r:(Bool×U)×U},(w.aJ.all (Tf p w.aJ.length)=W->Ev (λn=>Ub n (⟨p,w⟩,())) r)->(w.aJ.all (Tf p w.aJ.length)=J->((J,()),())=r)->Ev (λn=>F99 n (⟨p,w⟩,())) r:=by intro r A B;refine Ev.fR (λn=>tu (show(w.aJ.length:Int)<=120 by omega) _ _) ?_;refine Ev.Pc (l:=w.aJ) aO (Tf p w.aJ.length) (λn a=>F163 n (⟨p,w⟩,a,())) (λc=>.ret () c) (λn c=>rfl) (by omega) yV (λa s=>arx v (sm a s)) (λg=>A g) (λg i=>?_);rw[<-B g];exact aY λn=>by rfl
 cases j:w.aJ.all (Tf p w.aJ.length)with
 |false=>exact⟨J,go (λh=>by simp_all) (λ_=>rfl),bad λh=>by grind[Er]⟩
 |true=>
 have t:∀o∈w.aJ,gu p w.aJ.length o:=λo C=>Er.1 (gY.1 j o C)
 suffices h:∃b,Ev (λn=>Ub n (⟨p,w⟩,())) ((b,()),())∧(b=W↔Ed w∧w.ei.length<=100∧(∀o∈w.ei,FI o=W)∧BM w.lK=W∧yo w.Used 0 1000000000=W)by
  grind
 cases y with
 |false=>exact⟨J,by exact Ev.ai e bO,bad λh=>by simp_all⟩
 |true=>
 by_cases h2:100<w.ei.length
 .exact ⟨J,by exact Ev.ai e (aY λn=>by simp(disch:=omega) [bf]<;>rfl),bad λh=>by omega⟩
 have k:Ev (λn=>Uc n (⟨p,w⟩,())) ((BM w.lK&&yo w.Used 0 1000000000,()),()):=by unfold Uc;refine Ev.ai (e47 d.ins) (aY λn=>?_);simp[bf,VZ];cases BM w.lK<;>rfl
 refine⟨w.ei.all FI&&(BM w.lK&&yo w.Used 0 1000000000),?_,?_⟩
 .refine Ev.ai e (Ev.fR (λn=>tu (show(w.ei.length:Int)<=100 by omega) _ _) ?_);refine Ev.Pc (l:=w.ei) eS FI (λn a=>F166 n (a,())) (λc=>.ret () c) (λn c=>rfl) (by omega) yV (λa s=>aY λn=>arv n a) (λg=>?_) (λg i=>?_)
  .rw[g,eY];exact k
  .rw[g,jH];exact aY λn=>by rfl
 simp_all
end
end
section
section
variable {p:az}{w:af}{at_:Int}
def aef:O (af×O aN)->Int
 |none=>2|some (_,Y)=>0|some (_,Z _)=>1
variable {r:Option (af×Option aN)}{q:Int->Bool}
def Xm:aa (aef r) 2=!r.isSome:=by
 match r with
 |none=>rfl|some (_,Y)=>rfl|some (_,Z _)=>rfl
def arJ(a:jk p)(b:eE p w)(c:0<=at_)(h1:at_<w.aM.length):Ev (λn=>F110 n (⟨p,w⟩,at_,())) ((aef (eW p w at_),()),()):=by
 unfold F110;refine Ev.ai (e70 a b c h1) (aY λn=>?_)
 match eW p w at_ with
 |none=>rfl|some (_,Y)=>rfl|some (_,Z _)=>rfl
def ek(p:az)(w:af):L Int:=(rJ w.aM.length).filter λi=>(eW p w i).isSome
theorem Qn{x:Int}:x∈ek p w↔0<=x∧x<w.aM.length∧(eW p w x).isSome=W:=by
 unfold ek rJ;simp;constructor
 .grind
 .rintro ⟨h1,h2,h3⟩
  exact⟨⟨x.toNat,by omega,by omega⟩,h3⟩
def Fh:(ek p w).length<=w.aM.length:=gk (List.length_filter_le _ _) (by rw[Ao];omega)
def JQ(i:Nat):(rJ (i+1)).filter q=(rJ i).filter q++(bif q (i:Int)then[(i:Int)]else[]):=by rw[Jx,List.filter_append];cases h:q (i:Int)<;>simp[h]
def Ov(i:Nat):((rJ i).filter q).length<=i:=gk (List.length_filter_le _ _) (by rw[Ao];omega)
def e68(b:jk p)(a:eE p w):Ev (λn=>F68 n (rb p w,())) ((ek p w,()),rb p w,()):=by have e:=a.tl;have d:=a.len;unfold F68;refine Ev.aT (gn w.aM.length (λi=>((rJ i).filter λi=>(eW p w i).isSome,(i:Int),())) 0 (λi f=>?_) (aY λn=>by simp(disch:=omega) [bf])) (λn c=>_) _ bO;have g:=Ov (q:=λi=>(eW p w i).isSome) i;rw[JQ];refine Ev.fR (λn=>n7 (show(i:Int)<(w.aM.length:Int)by omega) _ _) ?_;refine Ev.ai (arJ b a (by omega) (show(i:Int)<w.aM.length by omega)) (aY λn=>?_);simp only[Xm];cases(eW p w (i:Int)).isSome<;>simp(disch:=first|omega|simp only[lz];omega)only[bf,bF,ep,eu,oN,DN,KL]
def ZU:aa (Ch w r).adU 2=!r.isSome:=by
 match r with
 |none=>rfl|some (_,Y)=>rfl|some (_,Z _)=>rfl
def e39(b:jk p)(a:eE p w):Ev (λn=>F39 n (p,w,())) ((ek p w,()),()):=by have e:=a.tl;have d:=a.len;unfold F39;refine Ev.aT (gn w.aM.length (λi=>((rJ i).filter λi=>(eW p w i).isSome,(i:Int),())) 0 (λi f=>?_) (aY λn=>by simp(disch:=omega) [bf])) (λn c=>_) _ bO;have g:=Ov (q:=λi=>(eW p w i).isSome) i;rw[JQ];refine Ev.fR (λn=>n7 (show(i:Int)<(w.aM.length:Int)by omega) _ _) ?_;refine Ev.ai (d40 b a (by omega) (show(i:Int)<w.aM.length by omega)) (aY λn=>?_);simp only[ZU];cases(eW p w (i:Int)).isSome<;>simp(disch:=first|omega|simp only[lz];omega)only[bf,bF,ep,eu,oN,DN,KL]
def KW(a n:Int):Int:=bif aD (a.tmod n) 0 then a.tmod n+n else a.tmod n
theorem QJ(a:Int){n:Int}(h:0<n):0<=KW a n∧KW a n<n:=by
 have h1:=Int.tmod_lt_of_pos a h;have h2:=Int.lt_tmod_of_pos a h;unfold KW;cases b:aD (a.tmod n) 0 with
 |true=>have:=xu.1 b;grind|false=>
  grind[aiW]
def Ti(a:Int){n:Int}(h:0<n)(b:n<=1000)(c:aD (a.tmod n) 0=W):aE .i64 (a.tmod n) n=a.tmod n+n:=by have h1:=Int.tmod_lt_of_pos a h;have h2:=Int.lt_tmod_of_pos a h;exact bF (by omega) (by omega)
inductive aar where
 |BJ|idle (w:af)|ok (w:af) (e:aN) (s:Nat)
def FB(p:az)(w:af)(pick:Int):Int:=(ek p w).getD (KW pick (ek p w).length).toNat 0
def iW(p:az)(w:af)(pick:Int):aar:=match cW p w.aM.length 0 w 0 with
 |none=>.BJ|some (a,d)=>if ek p a=[]then .idle a else match eW p a (FB p a pick)with
  |none=>.idle a|some (b,e)=>match cW p b.aM.length 0 b (d+1)with
   |none=>.BJ|some (f,c)=>if 5000<c then .BJ else .ok f (e.getD br) c
def Aj{pick:Int}(h:ek p w≠[]):0<=FB p w pick∧FB p w pick<w.aM.length∧∃r,eW p w (FB p w pick)=Z r:=by
 have d:0<(ek p w).length:=Fo.2 h;have e:=QJ pick (n:=((ek p w).length:Int)) (by omega)
 let ⟨a,b,c⟩:=Qn.1 (cg (l:=ek p w) (0:Int) (i:=(KW pick (ek p w).length).toNat) (by omega))
 exact⟨a,b,aei.1 c⟩
def gQ(a:jk p)(b:eE p w){s:Nat}{w':af}{s':Nat}(h:cW p w.aM.length 0 w s=Z (w',s')):eE p w'∧w'.aM=w.aM∧s<=s'∧(s'<=s∨s'<=5000):=
 E1 a _ 0 w s w' s' b (by omega) h
theorem MP(h:jk p)(n:eE p w){pick:Int}:match iW p w pick with
  |.BJ=>True|.idle g=>eE p g∧g.aM=w.aM∧∃s,cW p w.aM.length 0 w 0=Z (g,s)|.ok i e s=>eE p i∧∃f o,eE p f∧cW p f.aM.length 0 f o=Z (i,s):=by
 unfold iW;cases h1:cW p w.aM.length 0 w 0 with
 |none=>trivial|some r=>
  let ⟨g,j⟩:=r
  let ⟨a,b,c,d⟩:=gQ h n h1
  simp only;by_cases k:ek p g=[]
  .simp_all
  rw[bJ k]
  let ⟨q,t,r,l⟩:=Aj (pick:=pick) k
  rw[l]
  let ⟨f,e⟩:=r
  let ⟨m,_,_⟩:=jW h a q t l
  simp only;cases h2:cW p f.aM.length 0 f (j+1)with
  |none=>trivial|some r=>
   let ⟨i,u⟩:=r
   simp only;by_cases h5:5000<u
   .simp_all
   .rw[bJ h5];exact⟨(gQ h m h2).1,f,j+1,m,h2⟩
def xV(p:az)(R:RB×U):aar->(aN×Int×Int×U)×RB×U
 |.BJ=>((br,0,8,()),R)|.idle a=>((br,0,5,()),rb p a,())|.ok b e s=>((e,(s:Int),0,()),rb p b,())
def Z0{α:Type}{a:Int}(h:a≠0)(x:O α):aK (nzI a) x=x:=by simp[nzI,aK,h]
theorem e59(d:jk p)(q:eE p w)(pick:Int):∃R,Ev (λn=>F59 n (rb p w,pick,())) (xV p R (iW p w pick)):=by
 unfold iW;obtain⟨c,k,a,b⟩|⟨a,R,b⟩:=e50 d q (s:=0) (by omega)
 rotate_left
 .rw[a];exact⟨R,Ev.ai b bO⟩
 rw[a];simp only
 let ⟨f,k2,k3,k4⟩:=gQ d q a
 have hl:=f.tl;have C:=f.len;have E:=Fh (p:=p) (w:=c);by_cases l:ek p c=[]
 .refine ⟨(rb p w,()),Ev.ai b (Ev.ai (e68 d f) (aY λn=>?_))⟩;simp[l];rfl
 rw[bJ l]
 let ⟨t,u,r,o⟩:=Aj (pick:=pick) l
 rw[o]
 let ⟨F,e⟩:=r
 let ⟨I,_,_⟩:=jW d f t u o
 have v:0<(ek p c).length:=Fo.2 l;have x:=QJ pick (n:=((ek p c).length:Int)) (by omega);have g:aE .i64 (k:Int) 1=((k+1:Nat):Int):=by grind[bF]
 have key:∀{R:(aN×Int×Int×U)×RB×U},(Ev (λn=>ai (F50 n (rb p F,((k+1:Nat):Int),())) λi=>au (aq i.1.2.1) (PA n i) (au (aD 5000 i.1.1) (PA n i) (Z ((e.getD br,i.1.1,0,()),i.2)))) R)->Ev (λn=>F59 n (rb p w,pick,())) R:=by
  intro R h;unfold F59;refine Ev.ai b (Ev.ai (e68 d f) ?_);have j:∀{R B P:Type},∃y,(TL.au (aD (rA pick (ax (ek p c))) 0) (Z (N (R:=R) (B:=B) (P:=P) (aE .i64 (rA pick (ax (ek p c))) (ax (ek p c)),W,()))) (Z (N (rA pick (ax (ek p c)),J,()))))=Z (N (KW pick (ek p c).length,y,())):=by intro R B P;unfold KW;rw[show rA pick (ax (ek p c))=pick.tmod (ek p c).length from rfl];cases K:aD (pick.tmod (ek p c).length) 0 with|true=>exact⟨W,by rw[eP,<-Ti pick (by omega) (by omega) K];rfl⟩|false=>exact⟨J,rfl⟩
  refine Ev.fR (λn=>lq (show ¬((ek p c).length:Int)=0 by omega) _ _) ?_;refine Ev.fR (λn=>Z0 (show((ek p c).length:Int)≠0 by omega) _) ?_;obtain⟨y,S⟩:=j;refine Ev.ai (aY λn=>S) ?_;refine Ev.fR (λn=>bN ..) ?_;refine Ev.fR (λn=>A0 x.1 x.2 _) ?_;have z:=e70 d f t u;rw[o]at z;refine Ev.ai z ?_;refine Ev.fR (λn=>?_) h;simp only[g];cases e<;>rfl
 obtain⟨A,s3,a3,m⟩|⟨a3,R,m⟩:=e50 d I (s:=k+1) (by omega)
 .simp only[a3];by_cases h5:5000<s3
  .rw[cn h5];exact⟨(rb p A,()),key (Ev.ai m (aY λn=>by simp(disch:=omega) [bf]<;>rfl))⟩
  .rw[bJ h5];exact⟨(rb p A,()),key (Ev.ai m (aY λn=>by simp(disch:=omega)only[bf]<;>rfl))⟩
 .simp only[a3];exact⟨R,key (Ev.ai m bO)⟩
def e64(n:Nat)(a:Int){m:Int}(h:0<m)(b:m<=1000):F64 n (a,m,())=Z ((KW a m,()),()):=by unfold F64 KW;rw[show rA (a,m,()).1 (a,m,()).2.1=a.tmod m from rfl];refine(Z0 (show m≠0 by omega) _).trans ?_;cases c:aD (a.tmod m) 0 with|true=>rw[eP,<-Ti a h b c];rfl|false=>rfl
def ad8(a:af):aar->(af×aN×Int×Int×U)×U
 |.BJ=>((a,br,0,8,()),())|.idle b=>((b,br,0,5,()),())|.ok c e s=>((c,e,(s:Int),0,()),())
theorem e34(f:jk p)(q:eE p w)(pick:Int):∃c,Ev (λn=>F34 n (p,w,pick,())) (ad8 c (iW p w pick)):=by
 unfold iW;obtain⟨d,i,a,b⟩|⟨a,d,i,b⟩:=e33 f q (s:=0) (by omega)
 rotate_left
 .rw[a];exact⟨d,Ev.ai b bO⟩
 rw[a];simp only
 let ⟨g,F,I,K⟩:=gQ f q a
 have P:=g.tl;have A:=g.len;have B:=Fh (p:=p) (w:=d);by_cases k:ek p d=[]
 .refine ⟨w,Ev.ai b (Ev.ai (e39 f g) (aY λn=>?_))⟩;simp[k];rfl
 rw[bJ k]
 let ⟨t,u,r,o⟩:=Aj (pick:=pick) k
 rw[o]
 let ⟨C,e⟩:=r
 let ⟨E,_,_⟩:=jW f g t u o
 have v:0<(ek p d).length:=Fo.2 k;have x:=QJ pick (n:=((ek p d).length:Int)) (by omega);have j:aE .i64 (i:Int) 1=((i+1:Nat):Int):=by grind[bF]
 have key:∀{R:(af×aN×Int×Int×U)×U},(Ev (λn=>ai (F33 n (p,C,((i+1:Nat):Int),())) λh=>au (aq h.1.2.2.1) (PC n h) (au (aD 5000 h.1.2.1) (PC n h) (Z ((h.1.1,e.getD br,h.1.2.1,0,()),())))) R)->Ev (λn=>F34 n (p,w,pick,())) R:=by intro R h;refine Ev.ai b (Ev.ai (e39 f g) ?_);refine Ev.fR (λn=>lq (show ¬((ek p d).length:Int)=0 by omega) _ _) ?_;refine Ev.ai (aY λn=>e64 n pick (show 0<((ek p d).length:Int)by omega) (show((ek p d).length:Int)<=1000 by omega)) ?_;refine Ev.fR (λn=>A0 x.1 x.2 _) ?_;have y:=d40 f g t u;rw[o]at y;refine Ev.ai y ?_;refine Ev.fR (λn=>?_) h;simp only[j];cases e<;>rfl
 obtain⟨l,z,a3,m⟩|⟨a3,l,z,m⟩:=e33 f E (s:=i+1) (by omega)
 .simp[a3];by_cases h5:5000<z
  .rw[cn h5];exact⟨l,key (Ev.ai m (aY λn=>by simp(disch:=omega) [bf]<;>rfl))⟩
  .rw[bJ h5];exact⟨l,key (Ev.ai m (aY λn=>by simp(disch:=omega)only[bf]<;>rfl))⟩
 .simp[a3];exact⟨l,key (Ev.ai m bO)⟩
end
end
section
section
variable {p:az}{w w':af}{left:List av}{f:av}{at_ t:Int}{v u:aj}
structure Ex(w w':af)(t:Int):Prop where
 le:w.aJ.length<=w'.aJ.length
 same:∀x:Int,0<=x->x<w.aJ.length->x≠t->bI w' x=bI w x
 f1:(bI w t).Form=6
 f2:(bI w' t).Form=6
def Pl(r:mV):Prop:=∃w fr bk,r=.go w fr bk Y
structure Q(w:af)(r r':mV):Prop where
 one:∀w1 fr bk,r=.go w1 fr bk Y->w1=w∨∃o,w1=dZ w o
 two:Pl r'->Pl r
theorem Q.Il{r a:mV}(h:¬Pl r)(b:¬Pl a):Q w r a:=⟨λc d f e=>absurd ⟨_,_,_,e⟩ h,λe=>absurd e b⟩
theorem er{s:Int}:¬Pl (.fail s):=λ⟨_,_,_,h⟩=>by cases h
def Ap:¬Pl .waits:=λ⟨_,_,_,h⟩=>by cases h
def yf{w:af}{fr:L av}{bk:L aj}{e:aN}:¬Pl (.go w fr bk (Z e)):=λ⟨_,_,_,h⟩=>by cases h
def X5{op n:Int}{r:mV}:¬Pl (Zz at_ op n v r):=λ⟨_,_,_,h⟩=>by cases r<;>cases h
theorem Q.back{v b:aj}{a:L av}:Q w (fc w left v) (fc w' a b):=⟨λc d f e=>by cases e;exact .inl rfl,λ_=>⟨_,_,_,rfl⟩⟩
theorem Q.tM{node:Int}{env a:L aj}(h:a.length=env.length):Q w (hG w left node env) (hG w' left node a):=by
 unfold hG;rw[h];split
 .exact Q.Il er er
 .exact ⟨λb c d e=>by simp_all,λ_=>⟨_,_,_,rfl⟩⟩
theorem Q.made(a:Ex w w' t){o:aB}:Q w (jQ w left o) (jQ w' left o):=by
 have:=a.le;unfold jQ;by_cases h:120<=w.aJ.length
 .rw[cn h,cn (by omega)];exact Q.Il er er
 .rw[bJ h];exact⟨λb c d e=>by cases e;grind,λ_=>⟨_,_,_,rfl⟩⟩
def An(d:Ex w w' t)(f:ct p w.aJ.length v){c:Int}(hf:c≠6):eV w' v c=eV w v c:=by
 unfold eV;by_cases h5:v.Kind=5
 .let ⟨a,b⟩:=f.ref h5
  by_cases e:v.N=t
  .rw[e,bJ (by rw[d.f2];omega),bJ (by rw[d.f1];omega)]
  .rw[d.same _ a b e]
 simp_all
def HB(a:Ex w w' t)(b:ct p w.aJ.length v):fI p w' v u=fI p w v u:=by unfold fI;rw[An a b (by decide)]
mutual
def FZ(a:eE p w)(b:Ex w w' t):∀(q:aG)(v:aj),ct p w.aJ.length v->fZ w' q v=fZ w q v
 |⟨c,n,text,parts⟩,v,d=>by unfold fZ;rw[An b d (by decide)];cases e:eV w v 1 with|none=>rfl|some o=>simp[FX a b parts o.bg (ec a d e).2.1.vals]
def FX(a:eE p w)(b:Ex w w' t):∀(qs:L aG)(vs:L aj),(∀v∈vs,ct p w.aJ.length v)->e8 w' qs vs=e8 w qs vs
 |[],vs,_=>by cases vs<;>rfl
 |_::_,[],_=>rfl|q::qs,v::vs,h=>by unfold e8;rw[FZ a b q v (h v fA),FX a b qs vs (λv c=>h v (iB _ c))]
end
def TW(b:eE p w)(c:Ex w w' t)(d:ct p w.aJ.length u){env:L aj}:∀(qs:L aG)(a:L Int),Q w (jy w left env u qs a) (jy w' left env u qs a)
 |[],a=>by cases a<;>exact Q.Il er er
 |_::_,[]=>Q.Il er er|q::qs,k::a=>by unfold jy;rw[FZ b c q u d];cases fZ w q u with|some l=>exact Q.tM rfl|none=>exact TW b c d qs a
theorem aiL(c:Cx p w left f)(b:Ex w w' t):Q w (iS p w at_ left f) (iS p w' at_ left f):=by
 have l:=b.le;have nd:=c.nd;have h1:=nd.lo;have h2:=nd.hi;obtain⟨k,a⟩:∃k:Nat,(nodeAt p f.Node).Op=k:=⟨_,(xH (by omega)).symm⟩;have d:1<=k:=by omega
 have g:k<=28:=by omega
 unfold iS;simp only[a,Fl]
 match k,a,d,g with
 |1,_,_,_|2,_,_,_|3,_,_,_|26,_,_,_=>exact Q.back|4,_,_,_=>
  grind[Q.back,Q.Il,er]
 |5,_,_,_|14,_,_,_=>exact Q.made b|6,a,_,_=>
  have j:=c.vl a (by decide);simp[dS]at j;have v0:=c.val (i:=0) (by omega);simp only;unfold rW;rw[An b v0 (by decide),HB b v0];split
  .grind[Q.Il,er,Q.back]
  .split
   .exact Q.Il er er
   .exact Q.tM rfl
 |7,_,_,_=>exact Q.tM rfl|8,_,_,_=>
  simp only;split
  .exact Q.Il er er
  .exact Q.tM rfl
 |9,_,_,_|10,_,_,_|11,_,_,_|12,_,_,_|13,_,_,_=>
  simp only;unfold om;simp only
  repeat' split
  all_goals first|exact Q.back|exact Q.Il er er
 |15,a,_,_=>have j:=c.vl a (by decide);simp[dS]at j;exact TW c.hw b (c.val (i:=0) (by omega)) _ _
 |16,_,_,_|21,_,_,_=>exact Q.Il X5 X5|17,_,_,_=>
  simp only;unfold Ol;refine Q.Il ?_ ?_<;>split<;>first|exact er|exact yf
 |18,_,_,_=>
  simp only;unfold iQ;refine Q.Il ?_ ?_<;>split<;>first|exact er|exact yf
 |19,_,_,_=>
  simp only;unfold rD;refine Q.Il ?_ ?_<;>(repeat' split)<;>first|exact er|exact yf
 |20,_,_,_=>
  simp only;unfold Dk;refine Q.Il ?_ ?_<;>(repeat' split)<;>first|exact er|exact yf|exact Ap
 |22,_,_,_=>
  simp only;unfold CP;refine Q.Il ?_ ?_<;>(repeat' split)<;>first|exact er|exact yf|exact Ap
 |23,_,_,_=>
  simp only;unfold CI;refine Q.Il ?_ ?_<;>(repeat' split)<;>first|exact er|exact yf|exact Ap
 |24,_,_,_=>
  simp only;unfold NH;refine Q.Il ?_ ?_<;>(repeat' split)<;>first|exact er|exact yf|exact Ap
 |25,_,_,_=>
  simp only;unfold inS;refine Q.Il ?_ ?_<;>(repeat' split)<;>first|exact er|exact yf|exact Ap
 |27,_,_,_=>
  simp only;unfold rE;split
  .exact Q.Il er er
  .rename_i m n;by_cases h:120<=w.aJ.length
   .rw[cn h,cn (by omega)];exact Q.Il er er
   .rw[bJ h];unfold hG;by_cases o:40<=(left.take (m+1)).length∨30<(f.Env++[pT w.aJ.length]).length
    .simp_all[Q.Il,er]
    .rw[bJ o];exact⟨λq r s e=>by grind,λ_=>⟨_,_,_,rfl⟩⟩
 |28,_,_,_=>exact Q.Il yf yf|k+29,_,_,h=>omega
theorem Ex.refl(h:(bI w t).Form=6):Ex w w t:=⟨cu _,λ_ _ _ _=>rfl,h,h⟩
variable {o:aB}
def Zn(i:jk p)(j:eE p w)(hf:o.Form=6)(hn:o.N=0)(d:o.Frames≠[])(k:gu p w.aJ.length o)(m:Ex w w' t):Q w (JK p w at_ o) (JK p w' at_ o):=by
 obtain⟨l,g,b⟩:∃l g,o.Frames=l++[g]:=⟨_,_,pG d⟩
 let ⟨h,n,f,a⟩:=sK k hf hn b
 have q:o.Frames.length-1=l.length:=by rw[b];simp
 have r:o.Frames.getD l.length aH=g:=by rw[b];simp
 have s:o.Frames.take l.length=l:=by rw[b];simp
 unfold JK;simp only[q,r,s];obtain a|⟨v,a,_⟩:=a
 .rw[a];by_cases c:(g.bg.length:Int)<jr (nodeAt p g.Node)
  .simp_all[Q.tM]
  .rw[bJ c,bJ c];exact aiL ⟨i,j,h,by have:=h.vl;omega,f,n⟩ m
 .rw[a];exact⟨λu x y e=>by simp_all,λ_=>⟨_,_,_,rfl⟩⟩
def pV(p:az)(w:af)(i:Int):Prop:=∃x,eW p w i=Z (x,Y)
def NB(b:bI w (bK w at_)=o):pV p w at_↔o.N=0∧o.Frames≠[]∧Pl (JK p w at_ o):=by
 subst b;unfold pV eW;simp only;constructor
 .rintro ⟨x,h⟩
  split at h
  .cases h
  .split at h
   .cases h
   .rename_i c;refine⟨by omega,c,?_⟩;split at h
    .cases h
    .cases h
    .rename_i d f g e a;cases h;exact⟨_,_,_,a⟩
 .rintro ⟨h1,h2,d,f,g,a⟩
  simp_all
theorem sr{x:Int}{o:aB}(a:0<=t)(b:0<=x):bI (iN w t o) x=if x=t∧x<w.aJ.length then o else bI w x:=by
 unfold bI iN
 grind
def NC(f:jk p)(d:eE p w)(g:0<=at_)(h1:at_<w.aM.length)(hs:eW p w at_=Z (w',Y)):w'.aM=w.aM∧Ex w w' (bK w at_):=by
 refine⟨(jW f d g h1 hs).2.2 rfl,?_⟩;have i:=d.task _ (cg 0 (show at_.toNat<w.aM.length by omega))
 let ⟨t1,t2,t3⟩:=i
 have j:=d.ob t1 t2;change 0<=bK w at_ at t1;change bK w at_<_ at t2;change(bI w (bK w at_)).Form=6 at t3;unfold eW at hs;simp only at hs;split at hs
 .cases hs
 split at hs
 .cases hs
 rename_i k;have q:=Zn (at_:=at_) (w':=w) f d t3 (by omega) k j (Ex.refl t3);split at hs
 .cases hs
 .cases hs
 rename_i e l;cases hs;obtain rfl|⟨o,rfl⟩:=q.one _ _ _ l
 .refine ⟨by simp[iN],λx a b c=>?_,t3,?_⟩
  .rw[sr t1 a,bJ (λh=>c h.1)]
  simp_all[sr]
 .have e:∀x:Int,0<=x->x<w.aJ.length->bI (dZ w o) x=bI w x:=λx a b=>by unfold bI dZ;simp;rw[Xr (by omega)]
  refine⟨by simp[iN,dZ],λx a b c=>?_,t3,?_⟩
  .rw[sr t1 a,bJ (λh=>c h.1),e x a b]
  .rw[sr t1 t1,cn ⟨rfl,by simp[dZ];omega⟩]
theorem QB(i:jk p)(d:eE p w)(k:w'.aM=w.aM)(g:Ex w w' (bK w at_)){j:Int}(n:0<=at_)(h1:at_<w.aM.length)(o:0<=j)(q:j<w.aM.length)(r:j≠at_)(h:pV p w' j):pV p w j:=by
 have l:=d.task _ (cg 0 (show j.toNat<w.aM.length by omega))
 let ⟨t1,t2,t3⟩:=l
 have m:=d.ob t1 t2;have f:bK w j≠bK w at_:=by
  unfold bK;intro e;have:=(Ni.1 d.ug)
  grind
 have e:bI w' (bK w' j)=bI w (bK w j):=by rw[show bK w' j=bK w j by unfold bK;rw[k]];exact g.same _ t1 t2 f
 let ⟨a,b,c⟩:=(NB e).1 h
 exact(NB rfl).2 ⟨a,b,(Zn i d t3 a b m g).two c⟩
theorem Fa(d:jk p):∀(k:Nat)(w:af)(s:Nat)(w':af)(s':Nat),eE p w->0<=at_->at_<w.aM.length->tC p at_ k w s=Z (w',s')->
  ¬pV p w' at_∧∀j:Int,0<=j->j<w.aM.length->j≠at_->¬pV p w j->¬pV p w' j
 |0,_,_,_,_,_,_,_,h=>by cases h
 |k+1,w,s,w',s',g,f,h1,h=>by
  unfold tC at h;cases c:eW p w at_ with
  |none=>rw[c]at h;cases h;exact⟨(λ⟨x,i⟩=>by simp_all),λ_ _ _ _ h=>h⟩
  |some r=>
   let ⟨l,e⟩:=r
   rw[c]at h;cases e with
   |some e=>cases h;exact⟨(λ⟨x,i⟩=>by simp_all),λ_ _ _ _ h=>h⟩
   |none=>
    let ⟨m,_,_⟩:=jW d g f h1 c
    let ⟨n,i⟩:=NC d g f h1 c
    simp only at h;split at h
    .cases h
    .let ⟨a,b⟩:=Fa d k l (s+1) w' s' m f (by grind) h
     grind[QB]
theorem xX(e:jk p):∀(m i:Nat)(w:af)(s:Nat)(w':af)(s':Nat),eE p w->i+m<=w.aM.length->cW p m i w s=Z (w',s')->
  (∀j:Int,0<=j->j<i->¬pV p w j)->∀j:Int,0<=j->j<i+m->¬pV p w' j
 |0,i,w,s,w',s',f,o,h,l=>by cases h;simpa using l
 |m+1,i,w,s,w',s',f,o,h,l=>by
  unfold cW at h;split at h
  .cases h
  .rename_i g k n
   let ⟨a,b,_,_⟩:=tB e _ w s g k f (by omega) (by omega) n
   let ⟨c,d⟩:=Fa e _ w s g k f (by omega) (by omega) n
   have:=xX e m (i+1) g k w' s' a (by rw[b];omega) h (λj q r=>by
    grind)
   grind
def wJ(p:az)(w:af):Prop:=∀j:Int,0<=j->j<w.aM.length->¬pV p w j
theorem mh(c:jk p)(d:eE p w){s s':Nat}(h:cW p w.aM.length 0 w s=Z (w',s')):wJ p w':=by
 let ⟨a,b,_,_⟩:=gQ c d h
 have:=xX c _ 0 w s w' s' d (by omega) h (λj a b=>by omega);exact λj e f=>this j e (by grind)
def UN(h:¬pV p w at_)(k s:Nat):tC p at_ (k+1) w s=Z (w,s):=by
 unfold tC;cases a:eW p w at_ with
 |none=>rfl|some r=>
  let ⟨b,e⟩:=r
  cases e with|some e=>rfl|none=>exact absurd ⟨b,a⟩ h
theorem tE(a:wJ p w):∀(m i s:Nat),i+m<=w.aM.length->cW p m i w s=Z (w,s)
 |0,_,_,_=>rfl|m+1,i,s,h=>by unfold cW;rw[UN (a (i:Int) (by omega) (by omega)) 5001 s];exact tE a m (i+1) s (by omega)
end
end
section
section
variable {p:az}{w:af}
theorem PU(a:jk p)(b:eE p w)(c:wJ p w){k:Int}{w1:af}(h:iW p w k=.idle w1):w1=w:=by
 grind[MP,tE]
theorem td(a:jk p)(b:eE p w){k:Int}{w1:af}{e:aN}{s:Nat}(h:iW p w k=.ok w1 e s):eE p w1∧wJ p w1:=by
 grind[MP,mh]
def uK(p:az):L Int->af->O (af×L aN)
 |[],w=>Z (w,[])|k::a,w=>match iW p w k with
  |.BJ=>Y|.idle _=>Z (w,[])|.ok b e _=>match uK p a b with
   |none=>Y|some (x,l)=>Z (x,e::l)
def Fz(g:jk p):∀(f:L Int){w x:af}{l:L aN},eE p w->wJ p w->uK p f w=Z (x,l)->eE p x∧wJ p x∧l.length<=f.length
 |[],w,x,l,i,o,h=>by cases h;simp_all
 |k::f,w,x,l,i,o,h=>by
  unfold uK at h;cases j:iW p w k with
  |BJ=>simp_all|idle m=>simp_all|ok m e s=>
   let ⟨a,b⟩:=td g i j
   rw[j]at h;simp only at h;cases n:uK p f m with
   |none=>simp_all|some r=>
    let ⟨q,t⟩:=r
    rw[n]at h;cases h
    let ⟨c,d,e⟩:=Fz g f a b n
    simp_all
def uJ(p:az)(w:af)(a:L Int):O (af×L aN):=match cW p w.aM.length 0 w 0 with
 |none=>Y|some (b,_)=>uK p a b
variable {l:List aN}{di:List Int}
def Nz(a:jk p)(d:eE p w){b:L Int}{x:af}(h:uJ p w b=Z (x,l)):eE p x∧wJ p x∧l.length<=b.length:=by
 unfold uJ at h;cases c:cW p w.aM.length 0 w 0 with
 |none=>simp_all|some r=>
  let ⟨e,s⟩:=r
  rw[c]at h;exact Fz a b (gQ a d c).1 (mh a d c) h
abbrev z5:Z5:=([],[],[],[],0,())
def Jp(j:jk p){P:Type}{di:L Int}(t:di.length<=1000)(F:Nat->L aN×Int×Z5×RB×U->O (LO (L aN×Int×Z5×RB×U) (L aN×Int×U) (Z5×RB×U) P))
  (u:∀n g,F n g=au (aD g.2.1 (ax di)) (aK (aC g.2.1 di) (ai (F59 n (g.2.2.2.1,aZ di (ak g.2.1) 0,())) λh=>au (aa h.1.2.2.1 5) (Z (H 0 (g.1,g.2.1,([],[],[],[],g.2.2.1.2.2.2.2),h.2))) (au (aq (aa h.1.2.2.1 0)) (Z (X (([],[],[],[],0,()),h.2) ([],h.1.2.2))) (aK (dB g.1 [h.1.1]) (Z (N (cX g.1 [h.1.1],aE .i64 g.2.1 1,([],[],[],[],g.2.2.1.2.2.2.2),h.2))))))) (Z (H 0 (g.1,g.2.1,([],[],[],[],g.2.2.1.2.2.2.2),g.2.2.2)))) :
  ∀(d pre:L Int)(c:L aN)(w:af),di=pre++d->c.length<=pre.length->eE p w->wJ p w->
  (∃w' l i,uK p d w=Z (w',l)∧fj F (c,(pre.length:Int),z5,rb p w,()) (.out 0 (c++l,i,z5,rb p w',())))∨
  (uK p d w=Y∧∃R,fj F (c,(pre.length:Int),z5,rb p w,()) (.ret (z5,R) ([],8,())))
 |[],pre,c,w,m,B,q,v=>by refine .inl ⟨w,[],(pre.length:Int),rfl,?_⟩;rw[oN];refine .out (aY λn=>?_);subst m;rw[u];simp(disch:=omega) [bf]
 |k::d,pre,c,w,m,B,q,v=>by
  have z:pre.length<di.length:=by rw[m];simp
  have C:di.getD pre.length 0=k:=by simp_all
  let ⟨R,E⟩:=e59 j q k
  have step:∀{o:LO (L aN×Int×Z5×RB×U) (L aN×Int×U) (Z5×RB×U) P},Ev (λn=>TL.au (aa (xV p R (iW p w k)).1.2.2.1 5) (Z (H 0 (c,(pre.length:Int),z5,(xV p R (iW p w k)).2))) (TL.au (aq (aa (xV p R (iW p w k)).1.2.2.1 0)) (Z (X (z5,(xV p R (iW p w k)).2) ([],(xV p R (iW p w k)).1.2.2))) (TL.aK (dB c [(xV p R (iW p w k)).1.1]) (Z (N (cX c [(xV p R (iW p w k)).1.1],aE .i64 (pre.length:Int) 1,z5,(xV p R (iW p w k)).2)))))) o->Ev (λn=>F n (c,(pre.length:Int),z5,rb p w,())) o:=by intro o h;refine Ev.fR (λn=>(u n _).trans (n7 (show((pre.length:Nat):Int)<(di.length:Int)by omega) _ _)) ?_;refine Ev.fR (λn=>A0 (show(0:Int)<=pre.length by omega) (by omega) _) ?_;have e:aZ di (ak ((pre.length:Nat):Int)) 0=k:=C;simp[e];exact Ev.ai E h
  unfold uK;cases f:iW p w k with
  |BJ=>rw[f]at step;exact .inr ⟨rfl,R,.ret (step bO)⟩|idle r=>rw[f]at step;have:=PU j q v f;subst this;refine .inl ⟨r,[],(pre.length:Int),rfl,?_⟩;rw[oN];exact .out (step bO)|ok r e s=>
   rw[f]at step
   let ⟨a,b⟩:=td j q f
   have A:Ev (λn=>F n (c,(pre.length:Int),z5,rb p w,())) (.next (c++[e],((pre++[k]).length:Int),z5,rb p r,())):=by refine step (aY λn=>?_);have h1:([e]:L aN).length=1:=rfl;simp only[xV];simp(disch:=omega)only[bf,bF,ep,eu]<;>rfl
   simp only;rcases Jp j t F u d (pre++[k]) (c++[e]) r (by rw[m];simp) (by simp;omega) a b with⟨w',l,i,x,y⟩|⟨x,R,y⟩
   .refine .inl ⟨w',e::l,i,by rw[x],.next A ?_⟩
    simp_all
   .exact .inr ⟨by rw[x],R,.next A y⟩
def aek:O (af×L aN)->(af×L aN×Int×U)×U
 |none=>((dF,[],8,()),())|some (w,l)=>((w,l,0,()),())
def ag3(d:jk p)(e:Ev (λn=>F46 n (p,())) ((0,()),()))(f:Ev (λn=>F99 n (⟨p,w⟩,())) ((W,()),()))(h:eE p w)(hl:di.length<=200) :
  Ev (λn=>F21 n (p,w,di,())) (aek (uJ p w di)):=by
 unfold F21 uJ;refine Ev.ai e (Ev.ai f ?_);refine Ev.fR (λn=>xb (show(di.length:Int)<=200 by omega) _ _) ?_;obtain⟨j,k,a,b⟩|⟨a,R,b⟩:=e50 d h (s:=0) (by omega)
 .rw[a];refine Ev.ai b ?_;have a1:=(gQ d h a).1;have a2:=mh d h a;simp only;obtain⟨m,l,i,x,y⟩|⟨x,R,y⟩:=Jp d (P:=_) (di:=di) (by omega) _ (λn g=>rfl) di [] [] j rfl (cu _) a1 a2
  .rw[x];refine Ev.aT y (λn c=>_) _ ?_;exact Ev.ai (e51 d (Fz d di a1 a2 x).1) (Ev.pure _)
  .rw[x];exact Ev.aT y (λn c=>_) _ bO
 .rw[a];exact Ev.ai b bO
def e24(hl:l.length<=1000):Ev (λn=>F24 n (l,l,())) ((W,()),()):=by
 refine Ev.fR (λn=>(dG ..).trans (n8 rfl _ _)) ?_;refine Ev.all (l:=l) br (λ_=>W) (λ_=>.ret () (J,())) (λ_ _ h=>by cases h) (λi a=>aY λn=>?_) (λn=>by simp(disch:=omega) [bf]) (λb=>bO) (λi a b=>?_)
 .unfold Kl;simp(disch:=omega) [bf,bP,Ab,bF,ep,eu]
 simp_all
end
end
section
section
variable {p:az}{w:af}
def OK(hs:Small p)(j:nw w)(e:FP p)(i:eE p w){di:L Int}(hl:di.length<=200):Ev (λn=>F21 n (p,w,di,())) (aek (uJ p w di)):=by
 let ⟨c,f,g⟩:=e87 hs
 have a:=e46 f;rw[g.2 e]at a
 let ⟨b,d,h⟩:=e99 e.ok hs j
 rw[h.2 i]at d;exact ag3 e.ok a d i hl
end
end
section
section
variable {p:az}{w:af}
def UE(hs:Small p)(k:nw w){α:Type}{bad rest:Nat->O α}{r:α}(h1:FP p∧eE p w->Ev rest r)(h2:¬(FP p∧eE p w)->Ev bad r) :
  Ev (λn=>ai (F46 n (p,())) λc=>au (aq (aa c.1.1 0)) (bad n) (ai (F99 n (⟨p,w⟩,())) λd=>au (aq d.1.1) (bad n) (rest n))) r:=by
 let ⟨c,e,f⟩:=e87 hs
 have a:=e46 e;cases c with
 |false=>exact Ev.ai a (h2 λh=>by simp_all)
 |true=>
  have j:=f.1 rfl
  let ⟨b,g,i⟩:=e99 j.ok hs k
  refine Ev.ai a (Ev.ai g ?_);cases b with
  |false=>exact h2 λh=>by simp_all
  |true=>exact h1 ⟨j,i.1 rfl⟩
theorem eE.small(i:jk p)(h:eE p w):nw w:=by
 have h1:=h.len;have h2:=h.tl;have h3:=h.outs;have h4:=h.ins;have l:∀{f:av},eG p w.aJ.length f->f.Env.length<=40∧f.bg.length<=40:=λg=>by have a:=g.el;have b:=g.vl;have c:=T1 i (i.nd g.lo g.hi);omega
 refine⟨by omega,by omega,by omega,by omega,λo k=>?_⟩;have j:=h.obs o k;cases j with
 | @data n m a b c d=>
  have:=(i.cons _ (cg bM (show n.toNat<p.Cons.length by omega))).2
  grind
 |func a b c d e=>grind|cell a=>simp_all|chan a b=>grind|vS a b c=>grind|rP a b c=>
  grind
 |back a b c=>grind|done a=>simp_all|dead a=>simp_all
end
end
section
def mP(l:L Int)(x:Int):L Int:=bif l.contains x then l else l++[x]
def dH(l ns:L Int):L Int:=ns.foldl mP l
def cF:L aj->L Int
 |[]=>[]|v::l=>bif aa v.Kind 5 then v.N::cF l else cF l
def eH:L av->L Int
 |[]=>[]|f::l=>cF f.Env++(cF f.bg++eH l)
def jX(o:aB):L Int:=cF o.bg++eH o.Frames
def nS:L Int->Int->Nat
 |[],_=>0|a::l,x=>bif aa a x then 0 else nS l x+1
def de(g:Int->Int)(v:aj):aj:=bif aa v.Kind 5 then⟨v.Kind,g v.N⟩else v
def eF(g:Int->Int)(f:av):av:=⟨f.Node,f.Env.map (de g),f.bg.map (de g)⟩
def fN(g:Int->Int)(o:aB):aB:=⟨o.Form,o.N,o.bg.map (de g),o.Frames.map (eF g)⟩
def gX(a:L aB):Nat->Nat->L Int->L Int
 |0,_,l=>l|m+1,i,l=>if i<l.length then gX a m (i+1) (dH l (jX (a.getD (l.getD i 0).toNat aO)))else l
def fu(w:af):L Int:=gX w.aJ (w.aJ.length+1) 0 (dH [] w.aM)
def kC(w:af):af:=⟨(fu w).map (λn=>fN (λx=>nS (fu w) x) (bI w n)),w.aM.map (λn=>(nS (fu w) n:Int)),w.ei,w.lK,w.Used⟩
def xl(l a b:L Int):dH l (a++b)=dH (dH l a) b:=List.foldl_append ..
def Qz(l a:L Int)(x:Int):dH l (a++[x])=mP (dH l a) x:=by rw[xl];rfl
theorem Bx:∀a b:L aj,cF (a++b)=cF a++cF b
 |[],b=>rfl|v::a,b=>by show(bif aa v.Kind 5 then v.N::cF (a++b)else cF (a++b))=(bif aa v.Kind 5 then v.N::cF a else cF a)++cF b;rw[Bx a b];cases aa v.Kind 5<;>rfl
theorem UJ(v:aj):cF [v]=bif aa v.Kind 5 then[v.N]else[]:=rfl
def yW:∀a b:L av,eH (a++b)=eH a++eH b
 |[],b=>rfl|f::a,b=>by show cF f.Env++(cF f.bg++eH (a++b))=(cF f.Env++(cF f.bg++eH a))++eH b;rw[yW a b,KO,KO]
def Fe(f:av):eH [f]=cF f.Env++cF f.bg:=by simp[eH]
variable {l:List Int}
def arM{x:Int}(a:l.length<=1000):Ev (λn=>F103 n (l,x,())) ((mP l x,()),()):=by
 unfold F103 mP;refine Ev.ai (ak1 a) ?_;cases l.contains x with
 |true=>exact bO|false=>exact aY λn=>by simp(disch:=first|omega|simp[lz];omega) [bf]
def arL{vs:L aj}(h:vs.length<=1000)(b:∀i,(dH l (cF (vs.take i))).length<=1000):Ev (λn=>F104 n (l,vs,())) ((dH l (cF vs),()),()):=by
 unfold F104;have e:fj (R:=(L Int)×U) (B:=U) (P:=Any) (λn c=>au (aD c.2.1 (ax vs)) (aK (aC c.2.1 vs) (au (aa (aZ vs (ak c.2.1) aA).1 5) (aK (aC c.2.1 vs) (ai (F103 n (c.1,(aZ vs (ak c.2.1) aA).2,())) λd=>Z (N (d.1.1,aE .i64 c.2.1 1,())))) (Z (N (c.1,aE .i64 c.2.1 1,()))))) (Z (H 0 c)))
   (l,0,()) (.out 0 (dH l (cF (vs.take vs.length)),(vs.length:Int),())):=by
  refine gn (s:=λi=>(dH l (cF (vs.take i)),(i:Int),())) vs.length 0 (λi f=>?_) (aY λn=>?_)
  .have a:dH l (cF (vs.take (i+1)))=bif aa (vs.getD i aA).Kind 5 then mP (dH l (cF (vs.take i))) (vs.getD i aA).N else dH l (cF (vs.take i)):=by rw[<-take_succ aA f,Bx,UJ];cases aa (vs.getD i aA).Kind 5 with|true=>rw[eP,eP,Qz]|false=>rw[ez,ez,oN]
   rw[a];refine Ev.fR (g:=λn=>au (aa (vs.getD i aA).Kind 5) (ai (F103 n (dH l (cF (vs.take i)),(vs.getD i aA).N,())) λd=>Z (N (d.1.1,(((i+1:Nat):Int)),()))) (Z (N (dH l (cF (vs.take i)),((i+1:Nat):Int),())))) (λn=>?_) ?_
   .simp (disch:=omega) [bf,bF,ep,eu]
   .cases aa (vs.getD i aA).Kind 5 with|true=>exact Ev.ai (arM (b i)) bO|false=>exact bO
  simp_all[bf]
 refine Ev.aT e (λn c=>_) _ (aY λn=>?_);rw[dD,tF]
theorem Tt:∀{l:L Int}{x:Int}{i:Nat},i<l.length->l.getD i 0=x->(∀j,j<i->l.getD j 0≠x)->nS l x=i
 |[],_,i,h,_,_=>absurd h (Nat.not_lt_zero _)|a::l,x,0,_,h,_=>by
  grind[nS,og]
 |a::l,x,i+1,b,h,c=>by have d:a≠x:=c 0 (by omega);unfold nS;rw[jh d,ez,Tt (l:=l) (x:=x) (i:=i) (by simpa using b) (by simpa using h) (λj e=>by grind)]
end
section
def Ef(k:Nat)(l:L Int):Prop:=l.Nodup∧∀x∈l,0<=x∧x<k
theorem Ef.len{k:Nat}{l:L Int}(h:Ef k l):l.length<=k:=by
 have:=tj (S:=(List.range k).map Int.ofNat) h.1 (λx c=>by
  let ⟨a,b⟩:=h.2 x c
  exact nO.2 ⟨x.toNat,Nd.2 (by omega),by grind⟩)
 grind
theorem Ef.put{k:Nat}{l:L Int}(h:Ef k l){x:Int}(h1:0<=x∧x<k):Ef k (mP l x):=by
 unfold mP;cases e:l.contains x with
 |true=>exact h|false=>
  refine⟨Qr.2 ⟨h.1,by simp,λa f b g d=>?_⟩,λy c=>?_⟩
  .simp_all
  .obtain c|c:=dW.1 c
   .exact h.2 y c
   simp_all
def Ef.DO{k:Nat}:∀{ns l:L Int},Ef k l->(∀x∈ns,0<=x∧x<k)->Ef k (dH l ns)
 |[],_,h,_=>h|x::ns,l,h,a=>Ef.DO (ns:=ns) (h.put (a x fA)) (λy b=>a y (iB _ b))
def abX(l:L Int)(x:Int):l.length<=(mP l x).length:=by unfold mP;cases l.contains x<;>simp
def Fv:∀(ns l:L Int),l.length<=(dH l ns).length
 |[],l=>cu _|x::ns,l=>gk (abX l x) (Fv ns (mP l x))
theorem mz{p:az}{k:Nat}:∀{vs:L aj},(∀v∈vs,ct p k v)->∀x∈cF vs,0<=x∧x<k
 |[],_,x,a=>by cases a
 |v::vs,h,x,a=>by
  have d:=mz (vs:=vs) (λv c=>h v (iB _ c));unfold cF at a;cases b:aa v.Kind 5 with
  |true=>
   rw[b,eP]at a;obtain rfl|a:=fy.1 a
   .have h5:=lA.1 b;obtain h|h|h|h|h:=h v fA<;>omega
   grind
  |false=>
   simp_all
theorem Qm(vs:L aj)(i:Nat):∀x∈cF (vs.take i),x∈cF vs:=λx a=>by
 grind[Bx,List.take_append_drop]
structure Sm(p:az)(k:Nat)(o:aB):Prop where
 v:∀v∈o.bg,ct p k v
 f:∀f∈o.Frames,(∀v∈f.Env,ct p k v)∧∀v∈f.bg,ct p k v
 vl:o.bg.length<=1000
 fl:o.Frames.length<=1000
 el:∀f∈o.Frames,f.Env.length<=1000∧f.bg.length<=1000
theorem gu.sm{p:az}(d:jk p){k:Nat}{o:aB}(h:gu p k o):Sm p k o:=by
 let ⟨a,b,c⟩:=h.small d
 refine⟨?_,?_,a,b,c⟩
 .cases h with|data _ _ _ h=>exact h|func _ _ _ _ h=>exact h|cell h=>simp_all|chan _ h=>exact h|vS=>simp_all|rP=>simp_all|back _ _ h=>simp_all|done h=>simp_all|dead=>simp_all
 .have key:∀{f:av},eG p k f->(∀v∈f.Env,ct p k v)∧∀v∈f.bg,ct p k v:=λh=>⟨h.env,h.vals⟩;cases h with
  |data=>simp_all|func=>simp_all|cell=>simp_all|chan=>simp_all|vS _ h=>grind|rP _ h e=>
   grind
  |back _ h=>grind|done=>simp_all|dead=>simp_all
def xg{p:az}{k:Nat}:∀{fs:L av},(∀f∈fs,(∀v∈f.Env,ct p k v)∧∀v∈f.bg,ct p k v)->∀x∈eH fs,0<=x∧x<k
 |[],_,x,a=>by cases a
 |f::fs,h,x,a=>by
  obtain a|a:=dW.1 a
  .exact mz (h f fA).1 x a
  .obtain a|a:=dW.1 a
   .exact mz (h f fA).2 x a
   .exact xg (λf b=>h f (iB _ b)) x a
variable {k i:Nat}{l:List Int}
def Sm.refs{p:az}{o:aB}(h:Sm p k o):∀x∈jX o,0<=x∧x<k:=λx a=>by
 obtain a|a:=dW.1 a
 .exact mz h.v x a
 .exact xg h.f x a
section
variable {p:az}{w:af}
def ZP(a:k<=1000){vs:L aj}(b:vs.length<=1000)(hl:Ef k l)(h:∀v∈vs,ct p k v):Ev (λn=>F104 n (l,vs,())) ((dH l (cF vs),()),()):=
 arL b λi=>gk (hl.DO (λx c=>mz h x (Qm vs i x c))).len a
def abK(n:Nat)(b:af×U)(g:L Int×Int×U):O (LO (L Int×Int×U) (L Int×U) U Any):=
 au (aD g.2.1 (ax g.1)) (aK (aC g.2.1 g.1) (aK (cJ (ak g.2.1) g.1) (aK (aC (aZ g.1 (ak g.2.1) 0) b.1.1) (ai (F104 n (g.1,(aZ b.1.1 (ak (aZ g.1 (ak g.2.1) 0)) aO).3,())) λh=>ai (@iter (L Int×Int×U) (L Int×U) U Any (λi=>au (aD i.2.1 (ax (aZ b.1.1 (ak (aZ g.1 (ak g.2.1) 0)) aO).4)) (aK (aC i.2.1 (aZ b.1.1 (ak (aZ g.1 (ak g.2.1) 0)) aO).4) (aK (aC i.2.1 (aZ b.1.1 (ak (aZ g.1 (ak g.2.1) 0)) aO).4) (ai (F104 n (i.1,(aZ (aZ b.1.1 (ak (aZ g.1 (ak g.2.1) 0)) aO).4 (ak i.2.1) aH).2,())) λj=>ai (F104 n (j.1.1,(aZ (aZ b.1.1 (ak (aZ g.1 (ak g.2.1) 0)) aO).4 (ak i.2.1) aH).3,())) λk=>Z (N (k.1.1,aE .i64 i.2.1 1,()))))) (Z (H 0 i))) n (h.1.1,0,())) λi=>bp i (λ_ k=>Z (N (k.1,aE .i64 g.2.1 1,()))) (λ_ k=>Z (X () k)) λ_ _=>Y)))) (Z (H 0 g))
def BF(hl:Ef w.aJ.length l)(a:i<l.length):0<=l.getD i 0∧l.getD i 0<w.aJ.length:=hl.2 _ (cg 0 a)
def BE(a:jk p)(b:eE p w){x:Int}(h:0<=x∧x<w.aJ.length):Sm p w.aJ.length (w.aJ.getD x.toNat aO):=(b.obs _ (cg aO (by omega))).sm a
def Xl(q:jk p)(h:eE p w)(hl:Ef w.aJ.length l)(r:i<l.length) :
  Ev (λn=>abK n (w,()) (l,(i:Int),())) (.next (dH l (jX (w.aJ.getD (l.getD i 0).toNat aO)),((i+1:Nat):Int),())):=by
 have y:=h.len;have t:=BF hl r;have a:=BE q h t;have u:=hl.len;generalize v:w.aJ.getD (l.getD i 0).toNat aO=o at a;have h1:Ef w.aJ.length (dH l (cF o.bg)):=hl.DO (mz a.v);have g:∀j,Ef w.aJ.length (dH (dH l (cF o.bg)) (eH (o.Frames.take j))):=λj=>h1.DO (xg λf g=>a.f f (Qv g));unfold abK;simp(disch:=omega)only[bf,v];refine Ev.ai (ZP (by omega) a.vl hl a.v) ?_;refine Ev.aT (F:=λn c=>_) (o:=.out 0 (dH (dH l (cF o.bg)) (eH (o.Frames.take o.Frames.length)),(o.Frames.length:Int),())) (gn (s:=λj=>(dH (dH l (cF o.bg)) (eH (o.Frames.take j)),(j:Int),())) o.Frames.length 0 (λj k=>?_) (aY λn=>?_)) (λn c=>_) _ (aY λn=>?_)
 .have x:=a.fl;have m:=cg aH k;have b:=a.f _ m;have d:=a.el _ m;have e:dH (dH l (cF o.bg)) (eH (o.Frames.take (j+1)))=dH (dH (dH (dH l (cF o.bg)) (eH (o.Frames.take j))) (cF (o.Frames.getD j aH).Env)) (cF (o.Frames.getD j aH).bg):=by rw[<-take_succ aH k,yW,xl,Fe,xl]
  rw[e];simp(disch:=omega)only[bf];refine Ev.ai (ZP (by omega) d.1 (g j) b.1) (Ev.ai (ZP (by omega) d.2 ((g j).DO (mz b.1)) b.2) (aY λn=>?_));simp(disch:=omega) [bF,ep,eu]
 .simp (disch:=omega) [bf]<;>rfl
 .rw[dD,tF];simp(disch:=omega)only[bF,ep,eu];rw[<-xl];rfl
def M9(d:jk p)(e:eE p w):∀(m i:Nat)(l:L Int),Ef w.aJ.length l->i<=l.length->w.aJ.length+1<=i+m->
  Ef w.aJ.length (gX w.aJ m i l)∧fj (λn g=>abK n (w,()) g) (l,(i:Int),()) (.out 0 (gX w.aJ m i l,((gX w.aJ m i l).length:Int),()))
 |0,i,l,c,f,j=>by have:=c.len;omega
 |m+1,i,l,c,f,j=>by
  unfold gX;by_cases h:i<l.length
  .rw[cn h];have k:=BF c h;have o:=BE d e k;have q:=Fv (jX (w.aJ.getD (l.getD i 0).toNat aO)) l
   let ⟨a,b⟩:=M9 d e m (i+1) _ (c.DO o.refs) (by omega) (by omega)
   exact⟨a,.next (Xl d e c h) b⟩
  .rw[bJ h];have:i=l.length:=by omega
   refine⟨c,.out (aY λn=>?_)⟩
   simp_all[abK,bf]
def MU(b:eE p w)(i:Nat):Ef w.aJ.length (dH [] (w.aM.take i)):=
 Ef.DO ⟨.nil,λx a=>by cases a⟩ λx a=>by have:=b.task x (Qv a);omega
def Ji(b:jk p)(a:eE p w):Ef w.aJ.length (fu w):=by have:=MU a w.aM.length;rw[tF]at this;exact(M9 b a (w.aJ.length+1) 0 _ this (Ag _) (by omega)).1
end
end
section
section
variable {p:az}{w:af}
end
abbrev DW(x:Int)(m:L (Int×Int)):Bool:=BS (A:=sg.A) (Ty.int .i64) x m
abbrev si(x:Int)(m:L (Int×Int)):Int:=Io (A:=sg.A) (Ty.int .i64) (0:Int) x m
abbrev IE(x v:Int)(m:L (Int×Int)):L (Int×Int):=ni (A:=sg.A) (Ty.int .i64) x v m
def Oj(x k v:Int):∀m:L (Int×Int),DW x (IE k v m)=(aa x k||DW x m)
 |[]=>by show(bif aa x k then W else J)=(aa x k||J);cases aa x k<;>rfl
 |q::m=>by
  have a:=Oj x k v m;show DW x (bif aa k q.1 then(k,v)::m else q::IE k v m)=(aa x k||(bif aa x q.1 then W else DW x m));cases h1:aa k q.1 with
  |true=>have h1:=oU.1 h1;show(bif aa x k then W else DW x m)=_;rw[<-h1];cases aa x k<;>rfl
  |false=>show(bif aa x q.1 then W else DW x (IE k v m))=_;rw[a];cases aa x k<;>cases aa x q.1<;>rfl
def Tl(x k v:Int):∀m:L (Int×Int),si x (IE k v m)=bif aa x k then v else si x m
 |[]=>rfl|q::m=>by
  have a:=Tl x k v m;show si x (bif aa k q.1 then(k,v)::m else q::IE k v m)=(bif aa x k then v else(bif aa x q.1 then q.2 else si x m));cases h1:aa k q.1 with
  |true=>have h1:=oU.1 h1;show(bif aa x k then v else si x m)=_;rw[<-h1];cases aa x k<;>rfl
  |false=>
   show(bif aa x q.1 then q.2 else si x (IE k v m))=_;rw[a];cases h2:aa x q.1 with|false=>rfl|true=>rw[oU.1 h2,show aa q.1 k=J from jh λe=>by rw[e,og rfl]at h1;cases h1];rfl
def uG(s:L (Int×Int)×L Int)(x:Int):L (Int×Int)×L Int:=bif DW x s.1 then s else(IE x s.2.length s.1,s.2++[x])
def iR(s:L (Int×Int)×L Int)(ns:L Int):L (Int×Int)×L Int:=ns.foldl uG s
def Ai(s:L (Int×Int)×L Int)(a b:L Int):iR s (a++b)=iR (iR s a) b:=List.foldl_append ..
def wL(s:L (Int×Int)×L Int):Prop:=∀x,DW x s.1=s.2.contains x∧(x∈s.2->si x s.1=nS s.2 x)
def Gw:∀{l:L Int}{x y:Int},x∈l->nS (l++[y]) x=nS l x
 |[],_,_,h=>by cases h
 |a::l,x,y,h=>by
  show(bif aa a x then 0 else nS (l++[y]) x+1)=(bif aa a x then 0 else nS l x+1);cases b:aa a x with
  |true=>rfl|false=>
   obtain h|h:=fy.1 h
   .rw[og h.symm]at b;cases b
   .rw[ez,ez,Gw h]
def AD:∀{l:L Int}{x:Int},x∉l->nS (l++[x]) x=l.length
 |[],x,_=>by show(bif aa x x then 0 else _)=0;rw[og rfl];rfl
 |a::l,x,h=>by show(bif aa a x then 0 else nS (l++[x]) x+1)=_;rw[jh λe=>h (by simp_all),ez,AD λb=>h (iB _ b),qH]
theorem wL.step{s:L (Int×Int)×L Int}(h:wL s)(x:Int):wL (uG s x)∧(uG s x).2=mP s.2 x:=by
 unfold uG mP;rw[(h x).1];cases d:s.2.contains x with
 |true=>grind|false=>
  have c:x∉s.2:=λe=>by simp_all
  refine⟨λy=>?_,rfl⟩;rw[ez];refine⟨?_,λa=>?_⟩
  .rw[Oj,(h y).1,Nn]
   simp_all[oU,or_comm]
  .rw[Tl];by_cases b:y=x
   .subst b;rw[og rfl,eP,AD c]
   .rw[jh b,ez];obtain a|a:=dW.1 a
    .rw[(h y).2 a,Gw a]
    simp_all
def wL.pts:∀(ns:L Int){s:L (Int×Int)×L Int},wL s->wL (iR s ns)∧(iR s ns).2=dH s.2 ns
 |[],s,h=>⟨h,rfl⟩|x::ns,s,h=>by
  let ⟨a,b⟩:=h.step x
  let ⟨c,d⟩:=wL.pts ns a
  refine⟨c,?_⟩;show(iR (uG s x) ns).2=dH (mP s.2 x) ns;rw[d,b]
theorem ajv:∀(vs:L aj)(s:L (Int×Int)×L Int)(n a:Nat),s.2.length+vs.length<=1000000->vs.length<=a->
  Eh n (a+3) (vs,s.1,(s.2,()),())=Z ((W,()),(iR s (cF vs)).1,((iR s (cF vs)).2,()),())
 |[],s,n,a,_,_=>by rfl
 |v::vs,s,n,0,_,h=>by simp at h
 |v::vs,s,n,a+1,h1,h2=>by
  simp only[qH]at h1 h2;have d:=λc(h:c.2.length+vs.length<=1000000)=>ajv vs c n a h (by omega);rw[adX];unfold B168;have e0:aZ (v::vs) (ak 0) aA=v:=rfl;have e:eZ (v::vs) 1 (ax (v::vs))=vs:=by show eZ (v::vs) 1 ((v::vs).length:Int)=_;rw[w8];rfl
  have f:aC (0:Int) (v::vs)=W:=Tq.2 ⟨by omega,by simp_all⟩;have g:iJ 1 (ax (v::vs)) (ax (v::vs))=W:=TN.2 ⟨by omega,by grind[ax,List.length_cons],by omega⟩;have i:aa (ax (v::vs)) 0=J:=jh (by grind[ax,List.length_cons]);simp only[e0,e,f,g,i,E4,J2,dG];show au (aa v.Kind 5) _ _=_;cases h5:aa v.Kind 5 with
  |false=>
   grind[cF,aa,E4,ai,Eh]
  |true=>
   have j:cF (v::vs)=v.N::cF vs:=by show(bif aa v.Kind 5 then _ else _)=_;rw[h5];rfl
   rw[E3,j];have k:iR s (v.N::cF vs)=iR (uG s v.N) (cF vs):=rfl;rw[k];show au (DW v.N s.1) _ _=_;cases l:DW v.N s.1 with
   |true=>
    grind[E3,ai,Eh,uG]
   |false=>
    rw[E4,LI (by grind)];have b:uG s v.N=(IE v.N s.2.length s.1,s.2++[v.N]):=by unfold uG;rw[l];rfl
    show ai (Eh n (a+3) (vs,(IE v.N s.2.length s.1,s.2++[v.N]).1,((IE v.N s.2.length s.1,s.2++[v.N]).2,()),())) _=_;rw[<-b,d _ (by grind)];rfl
def ag5{vs:L aj}{s:L (Int×Int)×L Int}(h:s.2.length+vs.length<=1000000):Ev (λn=>Eh n (n+9) (vs,s.1,(s.2,()),())) ((W,()),(iR s (cF vs)).1,((iR s (cF vs)).2,()),()):=
 ⟨vs.length,λn a=>ajv vs s n (n+6) h (by omega)⟩
end
section
section
variable {p:az}{w:af}
structure St2(k:Nat)(s:List (Int×Int)×List Int):Prop where
 m:wL s
 l:Ef k s.2
def St2.pts{k:Nat}{s:L (Int×Int)×L Int}(h:St2 k s){ns:L Int}(hn:∀x∈ns,0<=x∧x<k):St2 k (iR s ns):=by
 let ⟨a,b⟩:=wL.pts ns h.m
 exact⟨a,by rw[b];exact h.l.DO hn⟩
variable {k:Nat}{s:List (Int×Int)×List Int}
def aru(q:k<=1000){o:aB}(a:Sm p k o)(hs:St2 k s) :
  Ev (λn=>adZ n (n+10) ((o.Form,o.N,o.bg,o.Frames,()),s.1,(s.2,()),())) ((),(o.Form,o.N,o.bg,o.Frames,()),(iR s (jX o)).1,((iR s (jX o)).2,()),()):=by
 refine Ev.fR (λn=>congrFun (adY n (n+9)) _) ?_;have r:=hs.l.len;have i:=a.vl;refine Ev.ai (ag5 (vs:=o.bg) (by omega)) ?_;have h1:=hs.pts (mz a.v);have b:∀j,St2 k (iR (iR s (cF o.bg)) (eH (o.Frames.take j))):=λj=>h1.pts (xg λf b=>a.f f (Qv b));refine Ev.fR (λn=>dG W _ _) ?_;refine Ev.aT (F:=λn c=>_) (o:=.out 0 ((o.Frames.length:Int),(iR (iR s (cF o.bg)) (eH (o.Frames.take o.Frames.length))).1,((iR (iR s (cF o.bg)) (eH (o.Frames.take o.Frames.length))).2,()),()))
  (gn (s:=λj=>((j:Int),(iR (iR s (cF o.bg)) (eH (o.Frames.take j))).1,((iR (iR s (cF o.bg)) (eH (o.Frames.take j))).2,()),())) o.Frames.length 0 (λj g=>?_) (aY λn=>?_)) (λn c=>_) _ (aY λn=>?_)
 .have l:=a.fl;have h:=cg aH g;have d:=a.f _ h;have m:=a.el _ h;have h2:=b j;have h3:=h2.pts (mz d.1);have t:=h2.l.len;have u:=h3.l.len;have e:iR (iR s (cF o.bg)) (eH (o.Frames.take (j+1)))=iR (iR (iR (iR s (cF o.bg)) (eH (o.Frames.take j))) (cF (o.Frames.getD j aH).Env)) (cF (o.Frames.getD j aH).bg):=by rw[<-take_succ aH g,yW,Ai,Fe,Ai]
  rw[e];simp(disch:=omega)only[bf];refine Ev.ai (ag5 (by omega)) ?_;refine Ev.ai (ag5 (by omega)) (aY λn=>?_);simp(disch:=omega) [bf,bF,ep,eu]
 .simp (disch:=omega) [bf]<;>rfl
 .rw[dD,tF,<-Ai];rfl
noncomputable def abJ(n:Nat)(c:RB×U)(h:Int×(L (Int×Int))×((L Int)×U)×U):O (LO (Int×(L (Int×Int))×((L Int)×U)×U) U ((L (Int×Int))×((L Int)×U)×U) Any):=
 au (aD h.1 (ax h.2.2.1.1)) (aK (aC h.1 h.2.2.1.1) (aK (cJ (ak h.1) h.2.2.1.1) (aK (aC (aZ h.2.2.1.1 (ak h.1) 0) c.1.2.2.2.2.1) (ai (adZ n (n+10) (((Bn c h).1,(Bn c h).2,(Bn c h).3,(Bn c h).4,()),h.2)) λi=>Z (N (aE .i64 h.1 1,i.2.2)))))) (Z (H 0 h))
def UM(b:jk p)(a:eE p w)(hs:St2 w.aJ.length s){i:Nat}(c:i<s.2.length) :
  Ev (λn=>abJ n (rb p w,()) ((i:Int),s.1,(s.2,()),())) (.next (((i+1:Nat):Int),(iR s (jX (w.aJ.getD (s.2.getD i 0).toNat aO))).1,((iR s (jX (w.aJ.getD (s.2.getD i 0).toNat aO))).2,()),())):=by
 have g:=a.len;have d:=BF hs.l c;have e:=BE b a d;have f:=hs.l.len;unfold abJ;simp(disch:=omega)only[bf,Bn];refine Ev.ai (aru (by omega) e hs) (aY λn=>?_);simp(disch:=omega) [bF,ep,eu]
def r9(a:L aB)(i:Nat)(l:L Int):Prop:=∀j,j<i->j<l.length->∀x∈jX (a.getD (l.getD j 0).toNat aO),x∈l
theorem XP{l:L Int}{x:Int}:x∈mP l x:=by
 unfold mP
 grind
def XO(l:L Int)(x:Int):∃t,mP l x=l++t:=by unfold mP;cases l.contains x with|true=>simp_all|false=>simp_all
theorem xj:∀(ns l:L Int),∃t,dH l ns=l++t
 |[],l=>⟨[],by simp[dH]⟩
 |x::ns,l=>by
  let ⟨t,h⟩:=XO l x
  let ⟨a,b⟩:=xj ns (mP l x)
  grind[dH]
theorem xk:∀{ns l:L Int}{x:Int},x∈ns->x∈dH l ns
 |[],_,_,h=>by cases h
 |y::ns,l,x,h=>by
  show x∈dH (mP l y) ns;obtain rfl|h:=fy.1 h
  .let ⟨t,a⟩:=xj ns (mP l x)
   grind[XP]
  .exact xk h
theorem r9.next{a:L aB}{i:Nat}{l:L Int}(h:r9 a i l)(m:i<l.length):r9 a (i+1) (dH l (jX (a.getD (l.getD i 0).toNat aO))):=by
 intro j c e x d
 let ⟨t,f⟩:=xj (jX (a.getD (l.getD i 0).toNat aO)) l
 have g:∀j,j<l.length->(dH l (jX (a.getD (l.getD i 0).toNat aO))).getD j 0=l.getD j 0:=λj c=>by rw[f,tH,Xr c,<-tH]
 by_cases k:j=i
 .grind[xk]
 .have b:j<i:=by omega
  rw[g j (by omega)]at d;have:=h j b (by omega) x d
  simp_all
def yY:∀(a:L aB)(m i:Nat)(l:L Int),∃t,gX a m i l=l++t
 |_,0,_,l=>⟨[],by simp[gX]⟩
 |a,m+1,i,l=>by
  unfold gX;split
  .let ⟨t,h⟩:=xj (jX (a.getD (l.getD i 0).toNat aO)) l
   let ⟨b,c⟩:=yY a m (i+1) (dH l (jX (a.getD (l.getD i 0).toNat aO)))
   simp_all
  simp_all
def Jj(f:jk p)(g:eE p w):∀(m i:Nat)(s:L (Int×Int)×L Int),St2 w.aJ.length s->i<=s.2.length->r9 w.aJ i s.2->w.aJ.length+1<=i+m->
  ∃s',St2 w.aJ.length s'∧s'.2=gX w.aJ m i s.2∧r9 w.aJ s'.2.length s'.2∧fj (λn h=>abJ n (rb p w,()) h) ((i:Int),s.1,(s.2,()),()) (.out 0 ((s'.2.length:Int),s'.1,(s'.2,()),()))
 |0,i,s,e,k,_,l=>by have:=e.l.len;omega
 |m+1,i,s,e,k,j,l=>by
  unfold gX;by_cases h:i<s.2.length
  .rw[cn h];have o:=BF e.l h;have q:=BE f g o;have r:=Fv (jX (w.aJ.getD (s.2.getD i 0).toNat aO)) s.2;have h2:=(wL.pts (jX (w.aJ.getD (s.2.getD i 0).toNat aO)) e.m).2
   let ⟨s',a,b,c,d⟩:=Jj f g m (i+1) (iR s (jX (w.aJ.getD (s.2.getD i 0).toNat aO))) (e.pts q.refs) (by rw[h2];omega) (by rw[h2];exact j.next h) (by omega)
   rw[h2]at b;exact⟨s',a,b,c,.next (UM f g e h) d⟩
  .rw[bJ h];have:i=s.2.length:=by omega
   subst this;refine⟨s,e,rfl,j,.out (aY λn=>?_)⟩
   simp_all[abJ,bf]
end
end
section
section
variable {α:Type}{g:α->α}{vs:List α}{i:Nat}
def qK(g:α->α)(vs:L α)(i:Nat):L α:=(vs.take i).map g++vs.drop i
theorem TP:(qK g vs i).length=vs.length:=by
 grind[qK]
theorem TQ(d:α)(h:i<vs.length):(qK g vs i).getD i d=vs.getD i d:=by
 have a:((vs.take i).map g).length=i:=by grind
 unfold qK;rw[tH,List.getElem?_append_right (by omega),a,Nat.sub_self,UP,Nat.add_zero,tH]
theorem TO(d:α)(h:i<vs.length):(qK g vs i).set i (g (vs.getD i d))=qK g vs (i+1):=by
 have a:((vs.take i).map g).length=i:=by grind
 unfold qK;rw[List.set_append_right _ _ (by omega),a,Nat.sub_self,Xt h,List.set_cons_zero,<-take_succ d h,u0,KO];rfl
def TR:qK g vs vs.length=vs.map g:=by unfold qK;rw[tF,List.drop_length,oN]
end
section
variable {p:az}{w:af}
theorem Ga{vs:L aj}{j:Int×(L (Int×Int))×((L Int)×U)×U}(hl:vs.length<=1000):Ev (λn=>yH n j ((vs,()),())) (.out 0 (vs.map (de λx=>si x j.2.1),(vs.length:Int),())):=by
 have h1:(vs.map (de λx=>si x j.2.1),(vs.length:Int),())=(qK (de λx=>si x j.2.1) vs vs.length,(vs.length:Int),()):=by rw[TR]
 rw[h1];refine Ev.iter (F:=λn c=>_) (gn (s:=λi=>(qK (de λx=>si x j.2.1) vs i,(i:Int),())) vs.length 0 (λi d=>aY λn=>?_) (aY λn=>?_))
 .have a:(qK (de λx=>si x j.2.1) vs i).length=vs.length:=TP;have dm:(qK (de λx=>si x j.2.1) vs i).getD i aA=vs.getD i aA:=TQ aA d;have u9:=TO (g:=de λx=>si x j.2.1) aA d;have b:i<(qK (de λx=>si x j.2.1) vs i).length:=by omega
  generalize e:qK (de λx=>si x j.2.1) vs i=f at a dm u9 b;rw[<-u9];by_cases h5:(vs.getD i aA).Kind=5
  .simp (disch:=omega)only[bf,dm,h5,bF,ep,eu]
   grind[de,og]
  .simp (disch:=omega)only[bf,dm,bF,ep,eu];rw[show de (λx=>si x j.2.1) (vs.getD i aA)=vs.getD i aA from by unfold de;rw[jh h5];rfl,E2 b dm.symm]
 simp_all[qK,bf]
def QL{l:L av}{a b:Int}{vs:L aj}{j:Int×(L (Int×Int))×((L Int)×U)×U}(hl:l.length<=1000)(hf:∀g∈l,g.Env.length<=1000∧g.bg.length<=1000)(F:Nat->Int×(Int×Int×L aj×L av×U)×U->O (LO (Int×(Int×Int×L aj×L av×U)×U) U ((Int×Int×L aj×L av×U)×U) Any))
  (p:∀n t,F n t=au (aD t.1 (ax l)) (aK (aC t.1 t.2.1.2.2.2.1) (aK (cJ (ak t.1) t.2.1.2.2.2.1) (ai (F159 n ((yG t).2,())) λu=>ai (yH n j u) λv=>bp v (λ_ x=>Py n j t x) (λ_ x=>Mb n j t x) λ_ _=>Y))) (Z (H 0 t))) :
  fj F (0,(a,b,vs,l,()),()) (.out 0 ((l.length:Int),(a,b,vs,l.map (eF λx=>si x j.2.1),()),())):=by
 have h1:(a,b,vs,l.map (eF λx=>si x j.2.1),())=(a,b,vs,qK (eF λx=>si x j.2.1) l l.length,()):=by rw[TR]
 rw[h1];refine gn (s:=λi=>((i:Int),(a,b,vs,qK (eF λx=>si x j.2.1) l i,()),())) l.length 0 (λi e=>?_) (aY λn=>?_)
 .have m:=hf _ (cg aH e);have d:(qK (eF λx=>si x j.2.1) l i).length=l.length:=TP;have dm:(qK (eF λx=>si x j.2.1) l i).getD i aH=l.getD i aH:=TQ aH e;have u9:=TO (g:=eF λx=>si x j.2.1) aH e;have f:i<(qK (eF λx=>si x j.2.1) l i).length:=by omega
  generalize o:qK (eF λx=>si x j.2.1) l i=c at d dm u9 f;rw[<-u9];have h:yG ((i:Int),(a,b,vs,c,()),())=l.getD i aH:=dm;refine Ev.fR (g:=λn=>ai (yH n j (((l.getD i aH).Env,()),())) λv=>bp v (λ_ x=>Py n j ((i:Int),(a,b,vs,c,()),()) x) (λ_ x=>Mb n j ((i:Int),(a,b,vs,c,()),()) x) λ_ _=>Y) (λn=>?_) ?_
  .rw[p];simp(disch:=omega)only[bf,h];rfl
  .refine Ev.ai (Ga m.1) ?_;refine Ev.fR (g:=λn=>ai (yH n j (((l.getD i aH).bg,()),())) λz=>bp z (λ_ k=>aaH n ((i:Int),(a,b,vs,c,()),()) ((l.getD i aH).Env.map (de λx=>si x j.2.1),((l.getD i aH).Env.length:Int),()) k) (λ_ k=>aeU n ((i:Int),(a,b,vs,c,()),()) ((l.getD i aH).Env.map (de λx=>si x j.2.1),((l.getD i aH).Env.length:Int),()) k) λ_ _=>Y) (λn=>?_) ?_
   .unfold Py;rw[h];rfl
   .refine Ev.ai (Ga m.2) (aY λn=>?_);unfold aaH;simp(disch:=omega)only[bf,h,bF,ep,eu];rfl
 simp_all[bf]
def p8{g g':Int->Int}:∀{vs:L aj},(∀x∈cF vs,g x=g' x)->vs.map (de g)=vs.map (de g')
 |[],_=>rfl|v::vs,h=>by
  rw[kW,kW];have b:cF (v::vs)=bif aa v.Kind 5 then v.N::cF vs else cF vs:=rfl
  rw[b]at h;unfold de;cases a:aa v.Kind 5 with
  |true=>
   rw[a,eP]at h;rw[eP,eP,h v.N fA]
   congr 1
   exact p8 λx c=>h x (iB _ c)
  |false=>
   rw[a,ez]at h
   congr 1
   exact p8 h
def FO{g g':Int->Int}:∀{fs:L av},(∀x∈eH fs,g x=g' x)->fs.map (eF g)=fs.map (eF g')
 |[],_=>rfl|f::fs,h=>by
  rw[kW,kW];have b:eH (f::fs)=cF f.Env++(cF f.bg++eH fs):=rfl;unfold eF;rw[p8 (vs:=f.Env) λx a=>h x (fh _ a),p8 (vs:=f.bg) λx a=>h x (eO _ (fh _ a))]
  congr 1
  exact FO λx a=>h x (eO _ (eO _ a))
variable {g':Int->Int}
def FN{g:Int->Int}{o:aB}(h:∀x∈jX o,g x=g' x):fN g o=fN g' o:=by unfold fN;rw[p8 λx a=>h x (fh _ a),FO λx a=>h x (eO _ a)]
end
end
section
section
variable {p:az}{w:af}
def Ny(c:eE p w)(i:Nat):St2 w.aJ.length (iR ([],[]) (w.aM.take i))∧(iR ([],[]) (w.aM.take i)).2=dH [] (w.aM.take i):=by
 let ⟨a,b⟩:=wL.pts (w.aM.take i) (s:=([],[])) (λx=>⟨rfl,λh=>by cases h⟩)
 exact⟨⟨a,by rw[b];exact MU c i⟩,b⟩
theorem afx(h:jk p)(i:eE p w){s:L (Int×Int)×L Int}(hs:St2 w.aJ.length s)(b:s.2=fu w)(f:r9 w.aJ s.2.length s.2) :
  (⟨s.2.map (λn=>fN (λx=>si x s.1) (bI w n)),w.aM.map (λn=>si n s.1),w.ei,w.lK,w.Used⟩:af)=kC w:=by
 have c:∀x∈s.2,si x s.1=nS s.2 x:=λx a=>(hs.m x).2 a;unfold kC;rw[<-b]
 congr 1
 .refine Af λn d=>FN λx a=>c x ?_;obtain⟨j,e,rfl⟩:=qI d;refine f j e e x ?_;have g:s.2.getD j 0=s.2[j]:=by grind
  rw[g];exact a
 .refine Af λn d=>c n ?_;rw[b];unfold fu
  let ⟨t,k⟩:=yY w.aJ (w.aJ.length+1) 0 (dH [] w.aM)
  grind[xk]
theorem arc(u:jk p)(e:eE p w):Ev (λn=>G60 n n (rb p w,())) ((kC w,()),rb p w,()):=by
 have S:=e.len;have C:=e.tl;have v:=Ny e w.aM.length;rw[tF]at v;unfold G60;refine Ev.aT (F:=λn c=>_) (o:=.out 0 ((w.aM.length:Int),(iR ([],[]) (w.aM.take w.aM.length)).1,((iR ([],[]) (w.aM.take w.aM.length)).2,()),()))
  (gn (s:=λi=>((i:Int),(iR ([],[]) (w.aM.take i)).1,((iR ([],[]) (w.aM.take i)).2,()),())) w.aM.length 0 (λi h=>aY λn=>?_) (aY λn=>?_)) (λn c=>_) _ ?_
 .have E:=(Ny e i).1.l.len;rw[<-take_succ 0 h,Ai];generalize iR ([],[]) (w.aM.take i)=s at E;show _=Z (N (((i+1:Nat):Int),(uG s (w.aM.getD i 0)).1,((uG s (w.aM.getD i 0)).2,()),()));have I:Pz (rb p w,()) ((i:Int),s.1,(s.2,()),())=w.aM.getD i 0:=rfl;simp(disch:=first|omega|simp only[lz];omega)only[bf,I];show au (DW (w.aM.getD i 0) s.1) _ _=_;unfold uG;cases hh:DW (w.aM.getD i 0) s.1 with|true=>simp(disch:=omega)only[bf,bF,ep,eu]|false=>simp(disch:=omega)only[bf,bF,ep,eu]
 .simp (disch:=omega)only[bf]<;>rfl
 rw[tF];refine Ev.fR (λn=>dD ..) ?_;obtain⟨s,y,l,K,k⟩:=Jj u e (w.aJ.length+1) 0 (iR ([],[]) w.aM) v.1 (Ag _) (λj hj=>by omega) (by omega);refine Ev.aT k (λn c=>_) _ ?_;refine Ev.fR (λn=>dD ..) ?_;rw[v.2]at l;have l:s.2=fu w:=l;rw[<-afx u e y l K];have P:=y.l.len;refine Ev.ai (aY λn=>e90 w.ei) (Ev.ai (aY λn=>e49 w.lK) ?_);refine Ev.aT (F:=λn c=>_) (o:=.out 0 ((s.2.length:Int),((s.2.take s.2.length).map (λn=>fN (λx=>si x s.1) (bI w n)),[],w.ei,w.lK,w.Used,()),()))
  (gn (s:=λi=>((i:Int),((s.2.take i).map (λn=>fN (λx=>si x s.1) (bI w n)),[],w.ei,w.lK,w.Used,()),())) s.2.length 0 (λi h=>?_) (aY λn=>?_)) (λn c=>_) _ ?_
 .have R:=BF y.l h;have t:=BE u e R;have d:((s.2.take i).map (λn=>fN (λx=>si x s.1) (bI w n))).length<=1000:=by grind
  rw[<-take_succ 0 h,u0,show List.map (λn=>fN (λx=>si x s.1) (bI w n)) [s.2.getD i 0]=[fN (λx=>si x s.1) (w.aJ.getD (s.2.getD i 0).toNat aO)]from rfl];generalize(s.2.take i).map (λn=>fN (λx=>si x s.1) (bI w n))=f at d;have z:DI (rb p w,()) ((s.2.length:Int),s.1,(s.2,()),()) ((i:Int),(f,[],w.ei,w.lK,w.Used,()),())=w.aJ.getD (s.2.getD i 0).toNat aO:=rfl;generalize A:w.aJ.getD (s.2.getD i 0).toNat aO=o at t z;refine Ev.fR (g:=λn=>ai (yH n ((s.2.length:Int),s.1,(s.2,()),()) ((o.bg,()),())) λq=>bp q (λ_ r=>RX n (rb p w,()) ((s.2.length:Int),s.1,(s.2,()),()) ((i:Int),(f,[],w.ei,w.lK,w.Used,()),()) r) (λ_ r=>aaI n (rb p w,()) ((s.2.length:Int),s.1,(s.2,()),()) ((i:Int),(f,[],w.ei,w.lK,w.Used,()),()) r) λ_ _=>Y) (λn=>?_) ?_
  .simp (disch:=omega)only[bf,A];rw[z];rfl
  .refine Ev.ai (Ga t.vl) ?_;refine Ev.fR (λn=>dD ..) ?_;unfold RX;simp only[z];refine Ev.ai (aY λn=>ZK o.Frames) ?_;refine Ev.aT (QL (j:=((s.2.length:Int),s.1,(s.2,()),())) (a:=o.Form) (b:=o.N) t.fl t.el _ (λn m=>rfl)) (λn m=>_) _ (aY λn=>?_);rw[dD];simp(disch:=first|omega|simp only[lz];omega)only[bf,bF,ep,eu];rfl
 .simp (disch:=omega)only[bf]<;>rfl
 rw[tF];refine Ev.fR (λn=>dD ..) ?_;refine Ev.aT (F:=λn c=>_) (o:=.out 0 ((w.aM.length:Int),(s.2.map (λn=>fN (λx=>si x s.1) (bI w n)),(w.aM.take w.aM.length).map (λn=>si n s.1),w.ei,w.lK,w.Used,()),()))
  (gn (s:=λi=>((i:Int),(s.2.map (λn=>fN (λx=>si x s.1) (bI w n)),(w.aM.take i).map (λn=>si n s.1),w.ei,w.lK,w.Used,()),())) w.aM.length 0 (λi h=>aY λn=>?_) (aY λn=>?_)) (λn c=>_) _ (aY λn=>?_)
 .have d:((w.aM.take i).map (λn=>si n s.1)).length<=1000:=by grind
  have B:∀q,RW (rb p w,()) ((i:Int),q,())=w.aM.getD i 0:=λq=>rfl;rw[<-take_succ 0 h,u0];simp(disch:=first|omega|simp only[lz];omega)only[bf,B,bF,ep,eu];rfl
 .simp (disch:=omega)only[bf]<;>rfl
 .rw[dD,tF]
def e60(a:jk p)(b:eE p w):Ev (λn=>F60 n (rb p w,())) ((kC w,()),rb p w,()):=arc a b
def e28(hs:Small p)(a:nw w){r:(af×Int×U)×U}(h1:FP p∧eE p w->((kC w,0,()),())=r)(h2:¬(FP p∧eE p w)->((dF,2,()),())=r):Ev (λn=>F28 n (p,w,())) r:=by refine UE hs a (λh=>?_) (λh=>by rw[<-h2 h];exact Ev.pure _);rw[<-h1 h];exact Ev.ai (e60 h.1.ok h.2) (Ev.pure _)
end
end
section
section
variable {α β:Type}
def aco{l m:L α}(d:α)(hl:l.length=m.length)(h:∀i,i<l.length->l.getD i d=m.getD i d):l=m:=by refine List.ext_getElem hl λi h1 h2=>?_;have:=h i h1;rwa [tH,tH,iZ h1,iZ h2]at this
abbrev LOE:=LO (Int×U) (Bool×U) U Any
theorem Ev.VX{l m:L α}(d:α){F:Nat->Int×U->O LOE}(T:Nat->α->α->Int×U->O LOE)
  (t:∀n c,F n c=au (aD c.1 (ax l)) (aK (aC c.1 l) (aK (aC c.1 m) (T n (aZ l (ak c.1) d) (aZ m (ak c.1) d) c))) (Z (H 0 c))) (hl:l.length<=1000)
  (p:∀a∈l,∀b∈m,∃e:Bool,(e=W↔a=b)∧∀i:Nat,i<=1000->Ev (λn=>T n a b ((i:Int),())) (bif e then .next (((i+1:Nat):Int),())else .ret () (J,())))
  {A:Nat->O β} {g:Nat->LOE->O β} {r:β} (h1:l=m->Ev (λn=>g n (.out 0 ((l.length:Int),()))) r) (h2:l≠m->Ev A r∧Ev (λn=>g n (.ret () (J,()))) r) :
  Ev (λn=>au (aq (aa (ax l) (ax m))) (A n) (ai (iter (F n) n (0,())) (g n))) r:=by
 by_cases j:l.length=m.length
 .refine Ev.fR (λn=>(dG _ _ _).trans (n8 (show ax l=ax m by simp[ax];omega) _ _)) ?_;have s:∀i,i<l.length->∃e:Bool,(e=W↔l.getD i d=m.getD i d)∧Ev (λn=>F n ((i:Int),())) (bif e then .next (((i+1:Nat):Int),())else .ret () (J,())):=λi f=>by
   let ⟨e,a,b⟩:=p _ (cg d f) _ (cg d (show i<m.length by omega))
   refine⟨e,a,Ev.fR (λn=>?_) (b i (by omega))⟩
   simp_all[bf]
  let q:Nat->Bool:=λi=>if h:i<l.length then Classical.choose (s i h)else W
  have k:∀i,i<l.length->(q i=W↔l.getD i d=m.getD i d)∧Ev (λn=>F n ((i:Int),())) (bif q i then .next (((i+1:Nat):Int),())else .ret () (J,())):=λi f=>by
   grind
  obtain⟨a,o⟩|⟨i,f,a,o⟩:=eC l.length q (λ_=>.ret () (J,())) (λ_ _ h=>by cases h) (λi f=>(k i f).2) (λn=>by simp_all[bf])
  .exact Ev.aT o g _ (h1 (aco d j λi f=>(k i f).1.1 (a i f)))
  .refine Ev.aT o g _ (h2 λh=>?_).2
   simp_all
 grind[Ev.fR,dG,lq,ax]
end
def abv{a b:aj}:bP (aa a.1 b.1) (bP (aa a.2 b.2) W)=W↔a=b:=by
 let ⟨x,y⟩:=a
 let ⟨c,d⟩:=b
 simp[bP,aa]
def aiK{a b:ef}:bP (aa a.1 b.1) (bP (aa a.2 b.2) W)=W↔a=b:=by
 let ⟨x,y⟩:=a
 let ⟨c,d⟩:=b
 simp[bP,aa]
def iY(e:Bool)(i:Nat)(a:i<=1000):Ev (λ_:Nat=>au (aq e) (Z (X () (J,()))) (Z (N (aE .i64 (i:Int) 1,())))) ((bif e then .next (((i+1:Nat):Int),())else .ret () (J,())):LOE):=by refine aY λn=>?_;cases e<;>simp(disch:=omega)only[bf,bF,ep,eu]<;>rfl
def akU{l m:L Int}(hl:l.length<=1000):∃b,Ev (λn=>F26 n (l,m,())) ((b,()),())∧(b=W↔l=m):=by
 refine⟨@decide (l=m) (Classical.propDecidable _),?_,by simp⟩;refine Ev.VX (0:Int) (λn a b c=>au (aq (aa a b)) (Z (X () (J,()))) (Z (N (aE .i64 c.1 1,())))) (λn c=>rfl) hl (λa _ b _=>⟨aa a b,lA,λi d=>iY _ i d⟩) (λh=>?_) (λh=>?_)
 .rw[@gw _ (_) h];exact bO
 .rw[@gR _ (_) h];exact⟨bO,bO⟩
def ari{l m:L ef}(hl:l.length<=1000):∃b,Ev (λn=>F27 n (l,m,())) ((b,()),())∧(b=W↔l=m):=by
 refine⟨@decide (l=m) (Classical.propDecidable _),?_,by simp⟩;refine Ev.VX eS (λn a b c=>au (aq (bP (aa a.1 b.1) (bP (aa a.2 b.2) W))) (Z (X () (J,()))) (Z (N (aE .i64 c.1 1,())))) (λn c=>rfl) hl (λa _ b _=>⟨_,aiK,λi d=>iY _ i d⟩) (λh=>?_) (λh=>?_)
 .rw[@gw _ (_) h];exact bO
 .rw[@gR _ (_) h];exact⟨bO,bO⟩
def ag0{l m:L aj}(hl:l.length<=1000):∃b,Ev (λn=>F98 n (l,m,())) ((b,()),())∧(b=W↔l=m):=by
 refine⟨@decide (l=m) (Classical.propDecidable _),?_,by simp⟩;refine Ev.VX aA (λn a b c=>au (aq (bP (aa a.1 b.1) (bP (aa a.2 b.2) W))) (Z (X () (J,()))) (Z (N (aE .i64 c.1 1,())))) (λn c=>rfl) hl (λa _ b _=>⟨_,abv,λi d=>iY _ i d⟩) (λh=>?_) (λh=>?_)
 .rw[@gw _ (_) h];exact bO
 .rw[@gR _ (_) h];exact⟨bO,bO⟩
structure SmO(o:aB):Prop where
 v:o.bg.length<=1000
 f:o.Frames.length<=1000
 e:∀g∈o.Frames,g.Env.length<=1000∧g.bg.length<=1000
def Zr{a b:av}:a=b↔a.Node=b.Node∧a.Env=b.Env∧a.bg=b.bg:=by
 let ⟨x,y,z⟩:=a
 let ⟨c,d,e⟩:=b
 simp
def aiN{a b:aB}:a=b↔a.Form=b.Form∧a.N=b.N∧a.bg=b.bg∧a.Frames=b.Frames:=by
 let ⟨x,y,z,u⟩:=a
 let ⟨c,d,e,f⟩:=b
 simp
def WM{a b:af}:a=b↔a.aJ=b.aJ∧a.aM=b.aM∧a.ei=b.ei∧a.lK=b.lK∧a.Used=b.Used:=by
 let ⟨x,y,z,u,v⟩:=a
 let ⟨c,d,e,f,g⟩:=b
 simp
def ard{o q:aB}(j:SmO o):∃b,Ev (λn=>F57 n (o,q,())) ((b,()),())∧(b=W↔o=q):=by
 have no:¬o=q->(((@decide (o=q) (Classical.propDecidable _)),()),())=((J,()),()):=λh=>by rw[@gR _ (_) h]
 refine⟨@decide (o=q) (Classical.propDecidable _),?_,by simp⟩;unfold F57;by_cases h1:o.Form=q.Form;rotate_left
 .rw[no λh=>h1 (by rw[h])]
  simp_all[aY,dG,lq]
 refine Ev.fR (λn=>(dG _ _ _).trans (n8 h1 _ _)) ?_;by_cases h2:o.N=q.N;rotate_left
 .rw[no λh=>h2 (by rw[h])]
  simp_all[aY,dG,lq]
 refine Ev.fR (λn=>(dG _ _ _).trans (n8 h2 _ _)) ?_
 let ⟨b,k,p⟩:=ag0 (l:=o.bg) (m:=q.bg) j.v
 refine Ev.ai k ?_;cases b with
 |false=>rw[no λh=>by simp_all];exact bO
 |true=>
  have h3:=p.1 rfl;refine Ev.fR (λn=>dG W _ _) ?_;refine Ev.VX (l:=o.Frames) (m:=q.Frames) aH (λn a b d=>au (aq (aa a.1 b.1)) (Z (X () (J,()))) (ai (F98 n (a.2,b.2,())) λe=>au (aq e.1.1) (Z (X () (J,()))) (ai (F98 n (a.3,b.3,())) λg=>au (aq g.1.1) (Z (X () (J,()))) (Z (N (aE .i64 d.1 1,())))))) (λn c=>rfl) j.f (λa x b E=>?_) (λh=>?_) (λh=>?_)
  .refine ⟨@decide (a=b) (Classical.propDecidable _),by simp,λi y=>?_⟩;have f:¬a=b->(bif @decide (a=b) (Classical.propDecidable _)then .next (((i+1:Nat):Int),())else .ret () (J,()):LOE)=.ret () (J,()):=λh=>by simp_all
   have u:=j.e a x;by_cases v:a.Node=b.Node;rotate_left
   .rw[f λh=>v (by rw[h])]
    simp_all[aY,dG,lq]
   refine Ev.fR (λn=>(dG _ _ _).trans (n8 v _ _)) ?_
   let ⟨z,r,A⟩:=ag0 (l:=a.Env) (m:=b.Env) u.1
   refine Ev.ai r ?_;cases z with
   |false=>rw[f λh=>by simp_all];exact bO
   |true=>
    refine Ev.fR (λn=>dG W _ _) ?_
    let ⟨w,s,t⟩:=ag0 (l:=a.bg) (m:=b.bg) u.2
    refine Ev.ai s ?_;have B:w=@decide (a=b) (Classical.propDecidable _):=by
     rw[Nn,t,@decide_eq_true_iff _ (Classical.propDecidable _),Zr]
     simp_all
    rw[<-B];exact iY w i y
  .rw[@gw _ (_) (aiN.2 ⟨h1,h2,h3,h⟩)];exact bO
  .rw[no λC=>h (by rw[C])];exact⟨bO,bO⟩
structure aas(w:af):Prop where
 o:w.aJ.length<=1000
 t:w.aM.length<=1000
 u:w.ei.length<=1000
 i:w.lK.length<=1000
 s:∀o∈w.aJ,SmO o
theorem arq{w x:af}(d:aas w):∃b,Ev (λn=>F19 n (w,x,())) ((b,()),())∧(b=W↔w=x):=by
 have no:¬w=x->(((@decide (w=x) (Classical.propDecidable _)),()),())=((J,()),()):=λh=>by rw[@gR _ (_) h]
 refine⟨@decide (w=x) (Classical.propDecidable _),?_,by simp⟩;by_cases j:w.aJ.length=x.aJ.length;rotate_left
 .rw[no λh=>j (by rw[h])];exact aY λn=>(dG _ _ _).trans ((lq (show ax w.1≠ax x.1 by simp only[ax];omega) _ _).trans rfl)
 have f:ax w.1=ax x.1:=by simp[ax];omega
 refine Ev.fR (λn=>(dG _ _ _).trans (n8 f _ _)) ?_
 let ⟨k,t1,t2⟩:=akU (l:=w.aM) (m:=x.aM) d.t
 refine Ev.ai t1 ?_;cases k with
 |false=>rw[no λh=>by simp_all];exact bO
 |true=>
 refine Ev.fR (λn=>dG W _ _) ?_
 let ⟨p,s,t⟩:=ari (l:=w.ei) (m:=x.ei) d.u
 refine Ev.ai s ?_;cases p with
 |false=>rw[no λh=>by simp_all];exact bO
 |true=>
 refine Ev.fR (λn=>dG W _ _) ?_
 let ⟨u,v,y⟩:=akU (l:=w.lK) (m:=x.lK) d.i
 refine Ev.ai v ?_;cases u with
 |false=>rw[no λh=>by simp_all];exact bO
 |true=>
 refine Ev.fR (λn=>dG W _ _) ?_;by_cases h5:w.Used=x.Used;rotate_left
 .rw[no λh=>h5 (by rw[h])];exact aY λn=>(dG _ _ _).trans ((lq h5 _ _).trans rfl)
 refine Ev.fR (λn=>(dG _ _ _).trans (n8 h5 _ _)) ?_;have key:=Ev.VX (l:=w.aJ) (m:=x.aJ) (β:=(Bool×U)×U) aO (λn a b c=>ai (F57 n (a,b,())) λh=>au (aq h.1.1) (Z (X () (J,()))) (Z (N (aE .i64 c.1 1,())))) (λn c=>rfl) d.o (λa z b I=>by
   let ⟨e,B,C⟩:=ard (o:=a) (q:=b) (d.s a z)
   exact⟨e,C,λi E=>Ev.ai B (iY e i E)⟩) (A:=λn=>Km n) (g:=λn g=>bp g (λ_ _=>Z ((W,()),())) (λ_ i=>Z (i,())) λ_ _=>Y) (r:=((@decide (w=x) (Classical.propDecidable _),()),()))
  (λh=>by rw[@gw _ (_) (WM.2 ⟨h,t2.1 rfl,t.1 rfl,y.1 rfl,h5⟩)];exact bO)
  (λh=>by rw[no λF=>h (by rw[F])];exact⟨bO,bO⟩)
 grind[dG,n8]
def Vc{w:af}{n:Int}(a:0<=n)(h1:n<w.aJ.length):bI w n∈w.aJ:=by
 show w.aJ.getD n.toNat aO∈_
 simp_all
theorem X0{p:az}{w:af}(e:jk p)(d:eE p w):aas (kC w):=by
 have r:=d.len;have i:=d.tl;have h:=Ji e d;have j:=h.len;refine⟨?_,?_,?_,?_,?_⟩
 .grind[kC]
 .grind[kC]
 .exact gk d.outs (by omega)
 .exact gk d.ins (by omega)
 .intro o k;obtain⟨n,l,rfl⟩:=nO.1 k
  let ⟨m,h1⟩:=h.2 n l
  let ⟨a,b,c⟩:=(d.obs _ (Vc m h1)).small e
  refine⟨by grind[fN],by grind[fN],λg q=>?_⟩;obtain⟨f,s,rfl⟩:=nO.1 q
  grind[eF]
end
def ahi:L TypeId:=[26,22,85,48,3,23,83,89,87,9,24,82,32,29,100,93,95,51,49,98,97,30,55]
noncomputable def tyL(t:TypeId):O Ty:=bif ahi.contains t then Ur.get t else Y
noncomputable def aiE(t:TypeId):Bool:=match Ur.get t with|some τ=>rdT sg prog tyL t τ|none=>W
theorem afu:ahi.all aiE=W:=by kernel_rfl
theorem aiD(t:TypeId)(τ:Ty)(h:tyL t=Z τ):rdT sg prog tyL t τ=W:=by
 unfold tyL at h;cases a:ahi.contains t with
 |false=>simp_all|true=>
  grind[afu,aiE]
def laid:laidOutB prog=W:=by kernel_rfl
def own:ownKnob prog.godebug=Y:=by kernel_rfl
end Mn
end
end
