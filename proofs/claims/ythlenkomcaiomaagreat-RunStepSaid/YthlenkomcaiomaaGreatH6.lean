import Derived.Test.YthlenkomcaiomaaGreatRows
import Derived.WalkKit
import Derived.ProofKit
import Derived.OpenShut
import Derived.KernelRfl
import Derived.Test.YthlenkomcaiomaaGreatH5
set_option linter.all false
set_option maxRecDepth 100000
set_option maxHeartbeats 0
noncomputable section
open Option renaming some->Z,none->Y
open Bool renaming true->W,false->J
open Nat renaming beq->Nq,ble->Nl,blt->Nt,succ->Ns,add->Na
open TL.LO renaming next->N,ret->X,out->H
open TL.Rx renaming ok->G,iJ->M
section
namespace Mn
open Go TL
section
section
variable {c:aA}{dd:List au}{w:av}{mm:List (Int×Bool)}{k:Nat}{s n fo:Int}{vs:List az}{fs:List aj}
variable {b:Bool}{f:aj}
def bnT(h:aq b=W):b=J:=by cases b<;>first|rfl|cases h
def bnF(h:aq b=J):b=W:=by cases b<;>first|rfl|cases h
def JR{α:Type}{l:L α}{i:Int}(a:0<=i)(h1:i<l.length):aF i l=W:=by simp[aF];omega
def Ub{X B P α:Type}(i:Nat)(b:B)(f:Nat->X->O α)(u v:O α)(h:B->P->O α):bK (.ret b ((i:Int),())) f (λ_(q:Int×U)=>ai (aq (br 0 q.1)) u v) h=v:=by rfl
theorem alK(b:Bd c dd w){f:aj}(p:f.Env.length<=1000)(hs:f.Stack.length<=1000){a:Int}(hl:0<=a/\a<=1):eC (λn=>F296 n (⟨w,c,dd,mm⟩,f,a,())) (dw c dd w.aN.length a f):=by
 have g:=b.dl;have e:∀{P:Prop},¬P->eC (λn=>xo n) P:=λh=>aX.no h dB;unfold F296;refine aX.ai (λh=>e λd=>by have:=d.lo;have:=AP h;grind) (λh1=>?_);refine aX.ai (λh=>e λd=>by have:=d.hi;have:=AQ h;simp only[ff]at this;omega) (λh2=>?_);have h1:0<=f.At:=Cl h1;have h2:f.At<dd.length:=AR h2;refine aX.aO (JR h1 h2) ?_;refine aX.ai (λh=>e λd=>by have:=d.re;rw[show(dW dd f.At).Reached=J from bnT h]at this;cases this) (λh3=>?_);have h3:(dW dd f.At).Reached=W:=bnF h3;obtain⟨lo,j,k⟩:=b.lo h1 (by omega) h3;have m:=lo.s;refine aX.aO (JR h1 h2) ?_;refine aX.ai (λh4=>?_) (λh=>e λd=>zA h d.el);refine aX.ai (λh5=>?_) (λh=>e λd=>zA h (d.sl.trans (cW (show -9223372036854775808<=(dW dd f.At).Stack-a by omega) (show(dW dd f.At).Stack-a<=9223372036854775807 by omega)).symm));have h4:(f.Env.length:Int)=(dW dd f.At).Env:=mQ.1 h4;have h5:(f.Stack.length:Int)=(dW dd f.At).Stack-a:=(mQ.1 h5).trans (cW (show -9223372036854775808<=(dW dd f.At).Stack-a by omega) (show(dW dd f.At).Stack-a<=9223372036854775807 by omega));refine aX.Mj (l:=f.Env) bu (cG c w.aN.length) (λn v=>F245 n (⟨w,c,dd,mm⟩,v,())) (λx=>.ret () x) (λn c=>rfl) (by omega) zg (λv _=>eC.of_eq (λn=>ahe n v) KJ) (λh6=>?_) (λh i=>aX.no (λd=>h d.env) (bF λn=>?_));show eC (λn=>Mx n (⟨w,c,dd,mm⟩,f,a,())) _
 unfold Mx;refine aX.Mj (l:=f.Stack) bu (cG c w.aN.length) (λn v=>F245 n (⟨w,c,dd,mm⟩,v,())) (λx=>.ret () x) (λn c=>rfl) (by omega) zg (λv _=>eC.of_eq (λn=>ahe n v) KJ) (λo=>aX.yes ⟨h1,by omega,h3,h4,h6,h5,o⟩ dB) (λh i=>aX.no (λd=>h d.stack) (bF λn=>?_));show Z ((aq (br 0 (i:Int)),()),())=_;rw[ajg];rfl
def alM(b:Bd c dd w)(a:f.Env.length<=1000)(hs:f.Stack.length<=1000):eC (λn=>F247 n (⟨w,c,dd,mm⟩,f,())) (dw c dd w.aN.length 1 f):=by
 simp_all[F247,eC.tail,alK]
def ar8(b:Bd c dd w)(a:f.Env.length<=1000)(hs:f.Stack.length<=1000):eC (λn=>F297 n (⟨w,c,dd,mm⟩,f,())) (dw c dd w.aN.length 0 f):=by
 simp_all[F297,eC.tail,alK]
def JZ{α:Type}{l:L α}{k i:Nat}{d:α}(h:i<k):(l.take k).getD i d=l.getD i d:=by
 simp_all
def OA:PM c dd k W fs↔(1<=fs.length/\fs.length<=40)/\(∀f∈fs.take (fs.length-1),dw c dd k 1 f)/\dw c dd k 0 (fs.getD (fs.length-1) aR):=by
 constructor;intro h;have a:=h.1;refine⟨a,e8 (d:=aR) λi e=>?_,?_⟩;rw[Le]at e;have:=h.2 i (by omega);rw[show oA fs W i=1 from bQ (by rintro⟨_,h⟩;omega)]at this;rw[JZ (by omega)];exact this;have:=h.2 (fs.length-1) (by omega);rw[show oA fs W (fs.length-1)=0 from bD ⟨rfl,by omega⟩]at this;exact this
 rintro⟨a,h1,h2⟩
 refine⟨a,λi e=>?_⟩;by_cases b:i=fs.length-1;rw[b,show oA fs W (fs.length-1)=0 from bD ⟨rfl,by omega⟩];exact h2;rw[show oA fs W i=1 from bQ (by rintro⟨_,h⟩;omega)];have:=h1 _ (bW aR (show i<(fs.take (fs.length-1)).length by rw[Le];omega));rw[JZ (by omega)]at this;exact this
def adl:PM c dd k J fs↔(1<=fs.length/\fs.length<=40)/\∀f∈fs,dw c dd k 1 f:=by
 constructor;intro h;exact⟨h.1,LM h⟩
 rintro⟨h1,h2⟩
 refine⟨h1,λi a=>?_⟩
 simp_all[oA,bQ,bW,aR]
def asc(b:Bd c dd w)(p:vs.length<=1000)(hf:SmF fs)(e:∀v∈vs,cG c w.aN.length v):eC (λn=>F248 n (⟨w,c,dd,mm⟩,⟨6,s,vs,fs⟩,())) (gf c dd w.aN.length ⟨6,s,vs,fs⟩):=by
 have q:=hf.len;have a:∀{P:Prop},¬P->eC (λn=>sV n) P:=λh=>aX.no h dB;unfold F248 SJ zX;simp only;by_cases g:s=0;subst g;refine aX.iff Ox.symm ?_;refine aX.ai (λ_=>?_) (λh=>absurd rfl (zA h));simp only[ff];refine aX.ai (λh1=>?_) (λh1=>a λh=>by rw[eT.2 h.1]at h1;cases h1);refine aX.ai (λh2=>?_) (λh2=>a λh=>by have:=AR h2;have:=h.2.1;omega);refine aX.ai (λh3=>?_) (λh3=>a λh=>by have:=AR h3;have:=h.2.1;omega);have h2:=AQ h2;have h3:=AQ h3;have j:aZ .i64 (fs.length:Int) 1=((fs.length-1:Nat):Int):=by rw[cW (by omega) (by omega)];omega
 have d:ez 0 ((fs.length-1:Nat):Int) (fs.length:Int)=W:=by simp[ez]<;>omega
 simp only[j,d,xG,vT];refine aX.aO rfl ?_;refine aX.iff (P:=(∀f∈fs.take (fs.length-1),dw c dd w.aN.length 1 f)/\dw c dd w.aN.length 0 (fs.getD (fs.length-1) aR)) ⟨λh=>⟨eT.1 h1,OA.2 ⟨⟨by omega,by omega⟩,h⟩⟩,λh=>(OA.1 h.2).2⟩ ?_;refine aX.Mj (l:=fs.take (fs.length-1)) aR (dw c dd w.aN.length 1) (λn f=>F247 n (⟨w,c,dd,mm⟩,f,())) (λx=>.ret () x) (λn c=>rfl) (by rw[Le];omega) zg (λf k=>alM b (hf.env f (Ve k)) (hf.stack f (Ve k))) (λh4=>?_) (λh i=>aX.congr (λn=>Ub i () _ _ _ _) (a λo=>h o.1));refine aX.iff (P:=dw c dd w.aN.length 0 (fs.getD (fs.length-1) aR)) ⟨λh=>⟨h4,h⟩,λh=>h.2⟩ ?_;have m:fs.length-1<fs.length:=by omega
 refine aX.aO (JR (by omega) (by omega)) ?_;exact eC.tail (ar8 b (hf.env _ (bW aR m)) (hf.stack _ (bW aR m)));by_cases h1:s=1;subst h1;refine aX.iff OX.symm ?_;simp(disch:=omega)only[aU];refine aX.ai (λh2=>?_) (λh2=>a λh=>zA h2 h.2.1);exact eC.of_eq (λn=>rfl) (eT.trans ⟨λh=>⟨h,mQ.1 h2,e⟩,λh=>h.1⟩);refine aX.iff (OZ g h1).symm ?_;have key:2<=s/\s<=4->eC (λn=>ai (aa (ak vs) 0) (Z ((aa (ak fs) 0,()),())) (sV n)) ((2<=s/\s<=4)/\fs=[]/\vs=[]):=λj=>
  aX.ai (λh2=>eC.of_eq (λn=>rfl) (eT.trans ⟨λh=>⟨j,h,eT.1 h2⟩,λh=>h.2.1⟩)) (λh2=>a λh=>by rw[show aa (ak vs) 0=W from eT.2 h.2.2]at h2;cases h2)
 simp only[vZ g,vZ h1,Jn];by_cases h2:s=2;subst h2;exact aX.congr (λn=>rfl) (key (by omega));by_cases h3:s=3;subst h3;exact aX.congr (λn=>rfl) (key (by omega));by_cases h4:s=4;subst h4;exact aX.congr (λn=>rfl) (key (by omega));simp only[vZ h2,vZ h3,vZ h4,Jn];exact a λh=>by omega
theorem asl(b:Bd c dd w){o:bB}(sm:SmO o)(k:∀x,WX x mm=W↔qc c dd x):eC (λn=>F166 n (⟨w,c,dd,mm⟩,o,())) (gf c dd w.aN.length o):=by
 have y:=b.cl;have z:=b.nl;have A:=b.dl;have a:∀{P:Prop},¬P->eC (λn=>jm n) P:=λh=>aX.no h dB;obtain⟨fo,s,vs,fs⟩:=o;obtain⟨t,m⟩:=sm;simp only at t m;unfold F166;refine aX.Mj (l:=vs) bu (cG c w.aN.length) (λn v=>F245 n (⟨w,c,dd,mm⟩,v,())) (λx=>.ret () x) (λn c=>rfl) (by omega) zg (λv _=>eC.of_eq (λn=>ahe n v) KJ) (λg=>?_) (λh i=>aX.congr (G:=λn=>jm n) (λn=>ar5 i () _ _ _ _) (a λp=>h p.uu));show eC (λn=>MD n (⟨w,c,dd,mm⟩,⟨fo,s,vs,fs⟩,())) _;unfold MD SK;simp only;by_cases h1:fo=1;subst h1;refine aX.iff O0.symm ?_;refine aX.ai (λ_=>?_) (λh=>absurd rfl (zA h));refine aX.ai (λe=>?_) (λe=>a λh=>by grind[aa,ak,eT]);refine aX.ai (λd=>?_) (λd=>a λh=>by have:=h.2.1.1;have:=AR d;omega);refine aX.ai (λj=>?_) (λj=>a λh=>by have:=h.2.1.2;have:=Cl j;simp only[ff]at this;omega);have d:=AQ d;have j:=AP j;simp only[ff]at j;refine aX.aO (JR d j) (eC.of_eq (λn=>rfl) ?_);rw[mQ];exact⟨λh=>⟨eT.1 e,⟨d,j⟩,h,g⟩,λh=>h.2.2.1⟩;by_cases h2:fo=2;subst h2;refine aX.iff Oz.symm ?_;refine aX.ai (λh=>absurd (mQ.1 h) (by decide)) (λ_=>?_);refine aX.ai (λ_=>?_) (λh=>absurd rfl (zA h));refine aX.ai (λe=>?_) (λe=>a λh=>by grind[aa,ak,eT]);refine aX.ai (λd=>?_) (λd=>a λh=>by grind)
 have d:qc c dd s:=(k s).1 d;obtain⟨B,E,F,I⟩:=Kf b d;refine aX.aO (JR B (by omega)) (eC.of_eq (λn=>rfl) ?_);rw[mQ,show bh dd (ax s) aT=dW dd s from rfl,cW (by omega) (by omega)];exact⟨λh=>⟨eT.1 e,d,h,g⟩,λh=>h.2.2.1⟩;by_cases h3:fo=3;subst h3;refine aX.iff O5.symm ?_;refine aX.ai (λh=>absurd (mQ.1 h) (by decide)) (λ_=>?_);refine aX.ai (λh=>absurd (mQ.1 h) (by decide)) (λ_=>?_);refine aX.ai (λ_=>?_) (λh=>absurd rfl (zA h));refine aX.ai (λe=>?_) (λe=>a λh=>by grind[aa,ak,eT]);refine aX.ai (λd=>?_) (λd=>a λh=>zA d h.2.1);exact eC.of_eq (λn=>rfl) (mQ.trans ⟨λh=>⟨eT.1 e,mQ.1 d,h,g⟩,λh=>h.2.2.1⟩);by_cases h4:fo=4;subst h4;refine aX.iff O4.symm ?_;refine aX.ai (λh=>absurd (mQ.1 h) (by decide)) (λ_=>?_);refine aX.ai (λh=>absurd (mQ.1 h) (by decide)) (λ_=>?_);refine aX.ai (λh=>absurd (mQ.1 h) (by decide)) (λ_=>?_);refine aX.ai (λ_=>?_) (λh=>absurd rfl (zA h));refine aX.ai (λe=>?_) (λe=>a λh=>by grind[aa,ak,eT]);refine aX.ai (λd=>?_) (λd=>a λh=>zA d h.2.1);refine eC.of_eq (λn=>rfl) ?_;exact⟨λh=>⟨eT.1 e,mQ.1 d,AQ h,g⟩,λh=>ajr h.2.2.1⟩;simp only[vZ h1,vZ h2,vZ h3,vZ h4,Jn];by_cases h5:fo=5;subst h5;refine aX.iff Oh.symm ?_;refine aX.ai (λ_=>?_) (λh=>absurd rfl (zA h))
 refine aX.ai (λe=>?_) (λe=>a λh=>by have:=h.2.2.1.1.1;have:=AR e;simp only[ff]at this;omega);refine aX.ai (λd=>?_) (λd=>a λh=>by have:=h.2.2.1.1.2;have:=AR d;simp only[ff]at this;omega);refine aX.ai (λj=>?_) (λj=>a λh=>zA j h.1);refine aX.ai (λu=>?_) (λu=>a λh=>by grind[aa,ak,eT]);have e:=AQ e;have d:=AQ d;simp only[ff]at e d;have q:1<=fs.length:=by omega
 have r:fs.length<=40:=by omega
 refine aX.Mj (l:=fs) aR (dw c dd w.aN.length 1) (λn f=>F247 n (⟨w,c,dd,mm⟩,f,())) (λx=>.ret () x) (λn c=>rfl) (by omega) zg (λf k=>alM b (m.env f k) (m.stack f k)) (λC=>?_) (λh i=>aX.congr (λn=>Ub i () _ _ _ _) (a λp=>h (LM p.2.2.1)));refine aX.aO (JR (by omega) (by omega)) (eC.of_eq (λn=>rfl) ?_);exact⟨λh=>⟨mQ.1 j,eT.1 u,adl.2 ⟨⟨q,r⟩,C⟩,h⟩,λh=>h.2.2.2⟩;simp only[vZ h5,Jn];by_cases h6:fo=6;subst h6;exact eC.tail (asc b t m g);simp only[vZ h6,Jn]
 grind[Yj]
end
end
section
section
variable {c:aA}{dd:List au}{w:av}{mm:List (Int×Bool)}
structure rH(w:av):Prop where
 af2:w.aN.length<=130
 tasks:w.bI.length<=130
 outs:w.mo.length<=110
 ins:w.dF.length<=60
 parts:∀o∈w.aN,o.fP.length<=40/\o.Frames.length<=50/\∀f∈o.Frames,f.Env.length<=40/\f.Stack.length<=70
theorem rH.sm(h:rH w){o:bB}(c:o∈w.aN):SmO o:=by obtain⟨a,b,d⟩:=h.parts o c;exact⟨by omega,⟨by omega,λf e=>by grind,λf e=>by grind⟩⟩
def e31(w:av):eC (λn=>F31 n (w,())) (rH w):=by
 refine aX.ai (λh=>aX.no (λa=>by have:=a.af2;have:=AP h;simp only[ff]at this;omega) (Ev.pure _)) (λh1=>?_);refine aX.ai (λh=>aX.no (λa=>by have:=a.tasks;have:=AP h;simp only[ff]at this;omega) (Ev.pure _)) (λh2=>?_);refine aX.ai (λh=>aX.no (λa=>by have:=a.outs;have:=AP h;simp only[ff]at this;omega) (Ev.pure _)) (λh3=>?_);refine aX.ai (λh=>aX.no (λa=>by have:=a.ins;have:=AP h;simp only[ff]at this;omega) (Ev.pure _)) (λh4=>?_);have h1:=Cl h1;have h2:=Cl h2;have h3:=Cl h3;have h4:=Cl h4;simp only[ff]at h1 h2 h3 h4;refine aX.all (l:=w.aN) bw (λo=>o.fP.length<=40/\o.Frames.length<=50/\∀f∈o.Frames,f.Env.length<=40/\f.Stack.length<=70) (λ_=>.ret () (J,())) (λ_ _ h=>by cases h) (λi k=>?_) (λn=>by simp(disch:=omega)only[aU])
  (λh=>aX.yes ⟨by omega,by omega,by omega,by omega,h⟩ dB) (λh i=>aX.no (λa=>h a.parts) dB)
 generalize g:w.aN.getD i bw=o;simp(disch:=omega)only[aU,g];refine aX.ai (λh=>aX.no (λa=>by have:=AP h;omega) (Ev.pure _)) (λb=>?_);refine aX.ai (λh=>aX.no (λa=>by have:=AP h;omega) (Ev.pure _)) (λc=>?_);have b:=Cl b;have c:=Cl c;refine aX.all (l:=o.Frames) aR (λf=>f.Env.length<=40/\f.Stack.length<=70) (λ_=>.ret () (J,())) (λ_ _ h=>by cases h) (λj m=>?_) (λn=>by simp(disch:=omega)only[aU])
  (λh=>aX.yes ⟨by omega,by omega,h⟩ (bF λn=>by simp(disch:=omega)only[aU,me,bZ,gG,gM])) (λh j=>aX.no (λa=>h a.2.2) dB)
 simp(disch:=omega)only[aU];refine aX.ai (λh=>aX.no (λa=>by have:=AP h;omega) (Ev.pure _)) (λd=>?_);refine aX.ai (λh=>aX.no (λa=>by have:=AP h;omega) (Ev.pure _)) (λe=>?_);have d:=Cl d;have e:=Cl e;exact aX.yes ⟨by omega,by omega⟩ (bF λn=>by simp(disch:=omega)only[aU,bZ,gG,gM])
def e19(c:aA)(w:av):∃b,Ev (λn=>F19 n (c,w,())) ((b,()),())/\(b=W->Small c/\rH w):=by
 obtain⟨a,h1,e⟩:=e11 c;obtain⟨d,h2,f⟩:=(e31 w).get;refine⟨a&&d,?_,λh=>?_⟩
 .refine Ev.ah h1 ?_;cases a with
  |false=>exact dB|true=>exact Ev.ah h2 (Ev.pure _)
 simp_all
def Uv(o:eg):Prop:=0<=o.Port/\o.Port<=3/\jd o.N=W
def aaH(l:L Int):Prop:=l.length<=50/\∀i∈l,jd i=W
theorem ri{a:Int}:jd a=W↔-1000000000<=a/\a<=1000000000:=by unfold jd;simp
def e52(n:Nat)(a lo hi:Int):F52 n (a,lo,hi,())=Z ((JS a lo hi,()),()):=e63 n a lo hi
theorem e15{l:L Int}(hl:l.length<=1000):eC (λn=>F15 n (l,50,())) (aaH l):=by
 by_cases h:l.length<=50
 .refine aX.iff (P:=∀i∈l,jd i=W) ⟨λb=>⟨h,b⟩,λh=>h.2⟩ ?_;refine aX.all (l:=l) 0 (λi=>jd i=W) (λ_=>.ret () (J,())) (λ_ _ h=>by cases h) (λi e=>?_) (λn=>by simp(disch:=omega)only[aU]) (λb=>aX.yes b (bF λn=>by simp(disch:=omega)only[aU,me])) (λb i=>aX.no b dB);simp(disch:=omega)only[aU,e52];cases h1:JS (l.getD i 0) (-1000000000) 1000000000 with|true=>exact aX.yes (ri.2 (gT.1 h1)) (bF λn=>by simp(disch:=omega)only[aU,bZ,gG,gM])|false=>exact aX.no (λh=>by grind[gT,ri]) dB
 .refine aX.no (λb=>h b.1) ?_;rcases nP (F:=λn(c:Int×U)=>ai (aD c.1 (ak l)) (ai (br c.1 50) (aO (aF c.1 l) (ah (F52 n (bh l (ax c.1) 0,(-1000000000),1000000000,())) λd=>ai (aq d.1.1) (Z (X (P:=Any) () (J,()))) (Z (N (aG .i64 c.1 1,()))))) (Z (H 0 c))) (Z (H 0 c)))
   51 (λi=>((i:Int),())) (λi=>JS (l.getD i 0) (-1000000000) 1000000000) (λ_=>.ret () (J,())) 0 (λ_ _ h=>by cases h) (λi e _=>bF λn=>by
    simp(disch:=omega)only[aU,e52];cases JS (l.getD i 0) (-1000000000) 1000000000<;>simp(disch:=omega)only[aU,bZ,gG,gM]) (λ_=>bF λn=>by
    simp(disch:=omega)only[aU];cases aD ((51:Nat):Int) (l.length:Int)<;>rfl)with⟨a,r⟩|⟨i,e,a,_,r⟩
  exact Ev.bz r (λn c=>_) _ (bF λn=>by
   show Z ((br (l.length:Int) 50,()),())=_;rw[ajs (by omega)])
  exact Ev.bz r (λn c=>_) _ dB
def e45{l:L Int}(hl:l.length<=1000):eC (λn=>F45 n (l,())) (aaH l):=by
 refine aX.ai (λh=>?_) (λh=>aX.no (λa=>by have:=a.1;have:=AR h;simp only[ff]at this;omega) (Ev.pure _));have h:=AQ h;simp only[ff]at h;refine aX.iff (P:=∀i∈l,jd i=W) ⟨λa=>⟨by omega,a⟩,λh=>h.2⟩ ?_;refine aX.all (l:=l) 0 (λi=>jd i=W) (λi=>.ret () ((i:Int),())) (λ_ _ h=>by cases h) (λi b=>?_) (λn=>by simp(disch:=omega)only[aU]) (λa=>aX.yes a dB) (λa i=>aX.no a (bF λn=>by
  show Z ((aq (br 0 (i:Int)),()),())=_;rw[ajg]))
 simp(disch:=omega)only[aU];refine aX.ai (λh1=>aX.ai (λh2=>?_) (λh2=>?_)) (λh1=>aX.no (λa=>by have:=AR h1;have:=ri.1 a;omega) (Ev.pure _));exact aX.yes (ri.2 ⟨AQ h1,AQ h2⟩) (bF λn=>by simp(disch:=omega)only[aU,bZ,gG,gM])
 simp_all[aX.no,AR,ri,Ev.pure]
theorem asm(o:eg):eC (λn=>F164 n (o,())) (Uv o):=by refine aX.ai (λh1=>?_) (λh1=>aX.no (λh=>by have:=h.1;have:=AR h1;grind) (Ev.pure _));refine aX.ai (λh2=>?_) (λh2=>aX.no (λh=>by have:=h.2.1;have:=Cl h2;grind) (Ev.pure _));have h1:=AQ h1;have h2:=AP h2;simp only at h1 h2;refine eC.of_eq (λn=>rgi o.N (-1000000000) 1000000000) ?_;exact⟨λh=>⟨h1,by omega,h⟩,λh=>h.2.2⟩
def Ut:oX c dd w↔w.aN.length<=120/\(∀o∈w.aN,gf c dd w.aN.length o)/\EB w/\w.mo.length<=100/\(∀o∈w.mo,Uv o)/\aaH w.dF/\(0<=w.Used/\w.Used<=1000000000):=by
 constructor;intro h;exact⟨h.len,h.obs,⟨h.Hu,h.task,h.all⟩,h.outs,h.out,⟨h.ins,h.inn⟩,h.used⟩
 rintro⟨a,b,d,e,f,g,u⟩
 exact⟨a,b,e,f,g.1,g.2,u,d.Hu,d.tl,d.task,d.all⟩
def e32(o:Bx c dd)(hs:Small c)(k:rH w):eC (λn=>F32 n (⟨c,dd⟩,w,())) (oX c dd w):=by
 have t:=k.af2;have p:Bd c dd w:=⟨o,by have:=hs.cl;omega,by omega⟩;refine aX.iff Ut.symm ?_;have d:∀{P:Prop},¬P->eC (λn=>KD n) P:=λh=>aX.no h dB;refine aX.ai (λh=>d λf=>by have:=AP h;simp only[ff]at this;omega) (λh1=>?_);refine aX.ai (λh=>d λf=>by have:=AP h;simp only[ff]at this;omega) (λh2=>?_);have h1:=Cl h1;have h2:=Cl h2;simp only[ff]at h1 h2;refine aX.ifN (e15 (l:=w.dF) (by have:=k.ins;omega)) (λh3=>?_) (λh3=>d λh=>h3 h.2.2.2.2.2.1);refine aX.ifN (P:=0<=w.Used/\w.Used<=1000000000) (eC.of_eq (λn=>e63 n _ _ _) gT) (λh4=>?_) (λh4=>d λh=>h4 h.2.2.2.2.2.2);refine aX.ifN (P:=EB w) (by obtain⟨b,q,e⟩:=e64 (w:=w) (by omega) (by have:=k.tasks;omega);exact eC.mk q e) (λh5=>?_) (λh5=>d λh=>h5 h.2.2.1);refine aX.Mj (l:=w.aN) bw (gf c dd w.aN.length) (λn a=>F65 n (⟨c,dd⟩,w,a,())) (λ_=>.ret () (J,())) (λn c=>rfl) (by omega) (λ_ _ h=>by cases h) (λa r=>e65 p (k.sm r)) (λh6=>?_) (λh i=>aX.no (λf=>h f.2.1) dB);refine aX.congr (λn=>me ..) ?_;refine aX.all (l:=w.mo) kI Uv (λ_=>.ret () (J,())) (λ_ _ h=>by cases h) (λj u=>?_) (λn=>by simp(disch:=omega)only[aU]) (λs=>aX.yes ⟨by omega,h6,h5,by omega,s,h3,h4⟩ dB) (λh i=>aX.no (λf=>h f.2.2.2.2.1) dB);simp(disch:=omega)only[aU,e63]
 refine aX.ai (λg=>?_) (λg=>aX.no (λh=>by rw[gT.2 ⟨h.1,h.2.1⟩]at g;cases g) (Ev.pure _));refine aX.ai (λm=>?_) (λm=>aX.no (λh=>by rw[gT.2 (ri.1 h.2.2)]at m;cases m) (Ev.pure _));exact aX.yes ⟨(gT.1 g).1,(gT.1 g).2,ri.2 (gT.1 m)⟩ (bF λn=>by simp(disch:=omega)only[aU,bZ,gG,gM])
theorem asu(g:Bx c dd)(hs:Small c)(e:rH w)(j:∀x,WX x mm=W↔qc c dd x):eC (λn=>F111 n (⟨w,c,dd,mm⟩,())) (oX c dd w):=by
 have m:=e.af2;have k:Bd c dd w:=⟨g,by have:=hs.cl;omega,by omega⟩;refine aX.iff Ut.symm ?_;have b:∀{P:Prop},¬P->eC (λn=>sX n) P:=λh=>aX.no h dB;refine aX.ai (λh1=>?_) (λh=>b λd=>by have:=AR h;simp only[ff]at this;omega);simp only[ff]at h1;refine aX.Mj (l:=w.aN) bw (gf c dd w.aN.length) (λn a=>F166 n (⟨w,c,dd,mm⟩,a,())) (λx=>.ret () x) (λn c=>rfl) (by omega) zg (λa f=>asl k (e.sm f) j) (λh2=>?_) (λh i=>aX.congr (λn=>Ub i () _ _ _ _) (b λd=>h d.2.1));refine aX.ifP (asj (by omega) (by have:=e.tasks;omega)) (λh3=>?_) (λh3=>b λh=>h3 h.2.2.1);refine aX.ai (λh4=>?_) (λh=>b λd=>by have:=AR h;simp only[ff]at this;omega);have h4:=AQ h4;simp only[ff]at h4;refine aX.Mj (l:=w.mo) kI Uv (λn a=>F164 n (a,())) (λx=>.ret () x) (λn c=>rfl) (by omega) zg (λa f=>asm a) (λh5=>?_) (λh i=>aX.congr (λn=>Ub i () _ _ _ _) (b λd=>h d.2.2.2.2.1));refine aX.ifP (e45 (l:=w.dF) (by have:=e.ins;omega)) (λh6=>?_) (λh6=>b λh=>h6 h.2.2.2.2.2.1);refine aX.ai (λo=>?_) (λh=>b λd=>by have:=AR h;grind);refine eC.of_eq (λn=>rfl) ?_
 grind[AQ,br]
end
end
section
section
variable {c:aA}{dd:List au}{w:av}
structure Rt(c:aA)(dd:List au):Prop where
 cf:CF c
 dep:Qj c dd
theorem Rt.ok(h:Rt c dd):Bx c dd:=h.cf.ok.pok h.dep
theorem Rt.uniq{D E:L au}(h:Rt c D)(a:Rt c E):D=E:=h.dep.uniq a.dep h.cf.ok.oV
def ar6(hs:Small c):(∃D,Rt c D/\Ev (λn=>F99 n (c,())) ((D,0,()),()))\/((¬∃D,Rt c D)/\∃e:Int,e≠0/\Ev (λn=>F99 n (c,())) (([],e,()),())):=by
 obtain⟨r,h1,h2,h3⟩:=asp hs;obtain rfl|rfl:=h2
 have a:=h3.1 rfl;obtain⟨D,b,h⟩|⟨d,h⟩:=e99 a.ok h1
 exact .inl ⟨D,⟨a,b⟩,h⟩;exact .inr ⟨λ⟨D,h⟩=>d ⟨D,h.dep⟩,7,by decide,h⟩;refine .inr ⟨(λ⟨D,h⟩=>by have:=h3.2 h.cf;cases this),2,by decide,?_⟩;exact Ev.ah h1 dB
def e14(hs:Small c):(∃D,Rt c D/\Ev (λn=>F14 n (c,())) ((⟨c,D⟩,W,()),()))\/((¬∃D,Rt c D)/\∃m,Ev (λn=>F14 n (c,())) ((m,J,()),())):=by
 obtain⟨a,b⟩|⟨a,b⟩:=e50 hs
 obtain⟨D,d,h⟩|⟨e,h⟩:=d51 a.ok
 exact .inl ⟨D,⟨a,d⟩,Ev.ah b (Ev.ah h (Ev.pure _))⟩;exact .inr ⟨λ⟨D,h⟩=>e ⟨D,h.dep⟩,_,Ev.ah b (Ev.ah h (Ev.pure _))⟩;exact .inr ⟨λ⟨D,h⟩=>a h.cf,_,Ev.ah b (Ev.pure _)⟩
def LZ(c:aA)(dd:L au):Nat->L (Int×Bool)
 |0=>[]|i+1=>bif (dW dd (i:Int)).Reached&&aa (aW c (i:Int)).Op 6 then Rf (aW c (i:Int)).A (LZ c dd i)else LZ c dd i
theorem Z4{x:Int}:∀i:Nat,WX x (LZ c dd i)=W↔∃j:Nat,j<i/\(aW c (j:Int)).Op=6/\(dW dd (j:Int)).Reached=W/\(aW c (j:Int)).A=x
 |0=>⟨(λh=>by cases h),λ⟨j,h,_⟩=>by omega⟩
 |i+1=>by
  have a:=Z4 (x:=x) i;unfold LZ;cases h:(dW dd (i:Int)).Reached&&aa (aW c (i:Int)).Op 6 with
  |false=>
   grind[h1,h2,h3,h4,IY]
  |true=>
   simp only[eW,mQ]at h;rw[iq,YA,oQ,a,mQ]
   grind
abbrev Wo(c:aA)(dd:L au):L (Int×Bool):=LZ c dd c.dF.length
theorem ahr{x:Int}:WX x (Wo c dd)=W↔qc c dd x:=by
 rw[Z4];constructor
 rintro⟨j,h1,h2,h3,h4⟩
 exact⟨(j:Int),by omega,by omega,h2,h3,h4⟩
 rintro⟨i,a,h1,h2,h3,h4⟩
 obtain⟨j,rfl⟩:∃j:Nat,i=j:=⟨_,(Ay a).symm⟩
 grind
def Z3{β R B P:Type}(hl:c.dF.length<=1500)(f:dd.length=c.dF.length){F:Nat->Int×L (Int×Bool)×U->O (LO (Int×L (Int×Bool)×U) R B P)}{g:Nat->LO (Int×L (Int×Bool)×U) R B P->O β}{r:β}
  (a:∀n d,F n d=ai (aD d.1 (ak c.1)) (aO (aF d.1 dd) (ai (bh dd (ax d.1) aT).1 (aO (aF d.1 c.1) (ai (aa (bh c.1 (ax d.1) bP).1 6) (aO (aF d.1 c.1) (Z (N (aG .i64 d.1 1,iV (A:=sg.A) (Ty.int .i64) (bh c.1 (ax d.1) bP).2 W d.2.1,())))) (Z (N (aG .i64 d.1 1,d.2))))) (Z (N (aG .i64 d.1 1,d.2))))) (Z (H 0 d)))
  (h:Ev (λn=>g n (.out 0 ((c.dF.length:Int),Wo c dd,()))) r):Ev (λn=>ah (iter (F n) n (0,[],())) (g n)) r:=by
 refine Ev.bz (kA c.dF.length (λi=>((i:Int),LZ c dd i,())) 0 (λi j=>bF λn=>?_) (bF λn=>by simp_all[aU])) g _ h;have b:bh dd (ax (i:Int)) aT=dW dd (i:Int):=rfl;have e:bh c.1 (ax (i:Int)) bP=aW c (i:Int):=rfl;rw[a];simp only[b,e];rw[show LZ c dd (i+1)=bif (dW dd (i:Int)).Reached&&aa (aW c (i:Int)).Op 6 then Rf (aW c (i:Int)).A (LZ c dd i)else LZ c dd i from rfl];cases h1:(dW dd (i:Int)).Reached<;>cases h2:aa (aW c (i:Int)).Op 6<;>simp(disch:=omega)only[aU,h1,h2,bZ,gG,gM,qL,pO]
def U1(hs:Small c){α:Type}{bad:Nat->O α}{rest:Nat->(L au×Int×U)×U->Int×L (Int×Bool)×U->O α}{z:Nat->Bool×U->O α}{r:α}
  (h1:∀D,Rt c D->Ev (λn=>rest n ((D,0,()),()) ((c.dF.length:Int),Wo c D,())) r) (h2:(¬∃D,Rt c D)->Ev bad r) :
  Ev (λn=>ah (F99 n (c,())) λx=>ai (aq (aa x.1.2.1 0)) (bad n) (ah (iter (λd:Int×L (Int×Bool)×U=>ai (aD d.1 (ak c.1)) (aO (aF d.1 x.1.1) (ai (bh x.1.1 (ax d.1) aT).1 (aO (aF d.1 c.1) (ai (aa (bh c.1 (ax d.1) bP).1 6) (aO (aF d.1 c.1) (Z (N (R:=Bool×U) (B:=L (Int×Bool)×U) (P:=Any) (aG .i64 d.1 1,iV (A:=sg.A) (Ty.int .i64) (bh c.1 (ax d.1) bP).2 W d.2.1,())))) (Z (N (aG .i64 d.1 1,d.2))))) (Z (N (aG .i64 d.1 1,d.2))))) (Z (H 0 d))) n (0,[],())) λd=>bK d (λ_ g=>rest n x g) (λ_ g=>z n g) λ_ _=>Y)) r:=by
 obtain⟨D,a,h⟩|⟨b,e,f,h⟩:=ar6 hs
 refine Ev.ah h ?_;exact Z3 a.ok.len.2 a.dep.len (λn d=>rfl) (h1 D a);refine Ev.ah h (Ev.v5 (λn=>?_) (h2 b));rw[vZ f];rfl
def HE(hs:Small c)(f:rH w){α:Type}{bad:Nat->O α}{rest:Nat->(L au×Int×U)×U->Int×L (Int×Bool)×U->O α}{z:Nat->Bool×U->O α}{r:α}
  (h1:∀D,Rt c D->oX c D w->Ev (λn=>rest n ((D,0,()),()) ((c.dF.length:Int),Wo c D,())) r) (h2:(¬∃D,Rt c D/\oX c D w)->Ev bad r) :
  Ev (λn=>ah (F99 n (c,())) λx=>ai (aq (aa x.1.2.1 0)) (bad n) (ah (iter (λd:Int×L (Int×Bool)×U=>ai (aD d.1 (ak c.1)) (aO (aF d.1 x.1.1) (ai (bh x.1.1 (ax d.1) aT).1 (aO (aF d.1 c.1) (ai (aa (bh c.1 (ax d.1) bP).1 6) (aO (aF d.1 c.1) (Z (N (R:=Bool×U) (B:=L (Int×Bool)×U) (P:=Any) (aG .i64 d.1 1,iV (A:=sg.A) (Ty.int .i64) (bh c.1 (ax d.1) bP).2 W d.2.1,())))) (Z (N (aG .i64 d.1 1,d.2))))) (Z (N (aG .i64 d.1 1,d.2))))) (Z (H 0 d))) n (0,[],())) λd=>bK d (λ_ g=>ah (F111 n (cJ.mk w c x.1.1 g.2.1,())) λh=>ai (aq h.1.1) (bad n) (rest n x g)) (λ_ g=>z n g) λ_ _=>Y)) r:=by
 refine U1 hs (rest:=λn x g=>ah (F111 n (cJ.mk w c x.1.1 g.2.1,())) λh=>ai (aq h.1.1) (bad n) (rest n x g)) (λD e=>?_) (λh=>h2 λ⟨D,a,_⟩=>h ⟨D,a⟩);obtain⟨a,b⟩|⟨a,b⟩:=asu e.ok hs f (λx=>ahr)
 exact Ev.ah b (h1 D e a);exact Ev.ah b (h2 λ⟨E,i,j⟩=>a (e.uniq i▸j))
end
end
section
section
variable {p:aA}{dd:List au}{M:MP}{w:av}{at_:Int}
def Xz:O (av×O aP)->Int
 |none=>2|some (_,Y)=>0|some (_,Z _)=>1
def Uh{r:O (av×O aP)}{w:av}:Ev (λn=>F68 n (Xj p dd M w r).1) ((Xz r,()),()):=by
 match r with
 |none=>exact dB|some (_,Y)=>exact dB|some (_,Z _)=>exact dB
end
end
section
section
variable {p:aA}{dd:List au}{M:MP}{w:av}{at_:Int}
variable {r:Option (av×Option aP)}{q:Int->Bool}
def Xy:aa (Xz r) 2=!r.isSome:=by
 match r with
 |none=>rfl|some (_,Y)=>rfl|some (_,Z _)=>rfl
def Vb:aq (aa (Xz r) 2)=r.isSome:=by rw[Xy];cases r<;>rfl
def abN:(Xj p dd M w r).2.2=(M,()):=by
 match r with
 |none=>rfl|some (_,Y)=>rfl|some (_,Z _)=>rfl
def oS(n:Nat):L Int:=(List.range n).map λi:Nat=>(i:Int)
def wv(n:Nat):(oS n).length=n:=by simp[oS]
def JF(n:Nat):oS (n+1)=oS n++[(n:Int)]:=by simp[oS,List.range_succ]
theorem Yk{n i:Nat}(h:i<n):(oS n).getD i 0=(i:Int):=by
 grind[oS,List.getElem?_range]
def BS(p:aA)(w:av):L Int:=(oS w.bI.length).filter λi=>(o9 p w i).isSome
def QI:(BS p w).length<=w.bI.length:=gk (List.length_filter_le _ _) (by rw[wv];omega)
def J3(i:Nat):(oS (i+1)).filter q=(oS i).filter q++(bif q (i:Int)then[(i:Int)]else[]):=by rw[JF,List.filter_append];cases h:q (i:Int)<;>simp[h]
def OG(i:Nat):((oS i).filter q).length<=i:=gk (List.length_filter_le _ _) (by rw[wv];omega)
def e66(d:Bx p dd)(b:oX p dd w):Ev (λn=>F66 n (mb p dd w,M,())) ((BS p w,()),mb p dd w,M,()):=by have f:=b.tl;have e:=b.len;unfold F66;refine Ev.bz (kA w.bI.length (λi=>((oS i).filter λi=>(o9 p w i).isSome,(i:Int),mb p dd w,M,())) 0 (λi g=>?_) (bF λn=>xH (show(w.bI.length:Int)<=(w.bI.length:Int)by omega) _ _)) (λn c=>_) _ dB;have h:=OG (q:=λi=>(o9 p w i).isSome) i;rw[J3];refine Ev.v5 (λn=>Fz (show(i:Int)<(w.bI.length:Int)by omega) _ _) ?_;refine Ev.ah (e67 (M:=M) (a:=(i:Int)) d b (by omega) (show(i:Int)<w.bI.length by omega)) (Ev.ah (Uh (w:=w)) (bF λn=>?_));simp only[Vb,abN];cases(o9 p w (i:Int)).isSome<;>simp(disch:=first|omega|simp only[g7];omega)only[aU,bZ,gG,gM,jQ,IL,Lc]
def ZU:aa (ahm w r).ad6 2=!r.isSome:=by
 match r with
 |none=>rfl|some (_,Y)=>rfl|some (_,Z _)=>rfl
def e36(b:Bx p dd)(a:oX p dd w):Ev (λn=>F36 n (⟨p,dd⟩,w,())) ((BS p w,()),()):=by have e:=a.tl;have d:=a.len;unfold F36;refine Ev.bz (kA w.bI.length (λi=>((oS i).filter λi=>(o9 p w i).isSome,(i:Int),())) 0 (λi f=>?_) (bF λn=>by simp(disch:=omega)only[aU])) (λn c=>_) _ dB;have g:=OG (q:=λi=>(o9 p w i).isSome) i;rw[J3];refine Ev.v5 (λn=>Fz (show(i:Int)<(w.bI.length:Int)by omega) _ _) ?_;refine Ev.ah (d37 b a (by omega) (show(i:Int)<w.bI.length by omega)) (bF λn=>?_);simp only[ZU];cases(o9 p w (i:Int)).isSome<;>simp(disch:=first|omega|simp only[g7];omega)only[aU,bZ,gG,gM,jQ,IL,Lc]
end
end
section
section
variable {n:Nat}{p:aA}{dd:List au}{w:av}
theorem dw.sm{k:Nat}{l:Int}(b:Bx p dd)(hl:0<=l){g:aj}(a:dw p dd k l g):g.Env.length<=30/\g.Stack.length<=60:=by have h1:=a.el;have h2:=a.sl;have:=b.dep.ok g.At a.lo a.hi a.re;omega
theorem gf.small(e:Bx p dd){k:Nat}{o:bB}(h:gf p dd k o):o.fP.length<=40/\o.Frames.length<=50/\∀g∈o.Frames,g.Env.length<=40/\g.Stack.length<=70:=by
 have fr:∀{g:aj}{l:Int},0<=l->dw p dd k l g->g.Env.length<=40/\g.Stack.length<=70:=λj m=>by have:=m.sm e j;omega
 cases h with
 | @data n q a b c d=>
  have:=(e.cons _ (bW bg (show n.toNat<p.Cons.length by omega))).2
  grind[kY]
 | @func n q a b c=>
  obtain⟨i,f,h1,h2,h3,h4⟩:=a;have r:=e.dep.ok i f h1 h3;have:=e.dep.step i f h1 h3 (n,bY 0 ((dW dd i).Env+1)) (by simp[dO,h2,h4])
  grind[bY]
 |cell a=>simp_all|chan a b=>grind|AN a b c=>grind|rR a b c=>
  grind
 |done a=>simp_all|dead a=>simp_all
theorem oX.small(a:Bx p dd)(h:oX p dd w):rH w:=by have h1:=h.len;have h2:=h.tl;have h3:=h.outs;have h4:=h.ins;exact⟨by omega,by omega,by omega,by omega,λo b=>(h.obs o b).small a⟩
def tj{R B P:Type}(len:Nat)(hl:len<=1000000){F:Nat->Int×U->O (LO (Int×U) R B P)}(h:∀i,i<len->Ev (λn=>F n ((i:Int),())) (.next (((i+1:Nat):Int),())))(a:∀n,F n ((len:Int),())=Z (.out 0 ((len:Int),()))) :
  gV F (0,()) (.out 0 ((len:Int),())):=kA (s:=λi=>((i:Int),())) len 0 h (bF a)
def e35{l:L Int}(hl:l.length<=1000):Ev (λn=>F35 n (l,l,())) ((W,()),()):=by
 unfold F35;simp only[aU];refine Ev.bz (F:=λn c=>_) (tj l.length (by omega) (λi a=>bF λn=>?_) λn=>?_) (λn c=>_) _ dB;simp(disch:=omega)only[aU,bZ,gG,gM]<;>rfl
 simp_all[aU]
def e54{l:L eg}(hl:l.length<=1000):Ev (λn=>F54 n (l,l,())) ((W,()),()):=by
 unfold F54;simp only[aU];refine Ev.bz (F:=λn c=>_) (tj l.length (by omega) (λi a=>bF λn=>?_) λn=>?_) (λn c=>_) _ dB;simp(disch:=omega)only[aU,bZ,gG,gM]<;>rfl
 simp_all[aU]
theorem ahu(b:Bool):bS W b=b:=rfl
def ahi{l:L az}(hl:l.length<=1000):Ev (λn=>F110 n (l,l,())) ((W,()),()):=by
 unfold F110;simp only[aU];refine Ev.bz (F:=λn c=>_) (tj l.length (by omega) (λi a=>bF λn=>?_) λn=>?_) (λn c=>_) _ dB;simp(disch:=omega)only[aU,ahu,Mf,bZ,gG,gM]<;>rfl
 simp_all[aU]
def e55{o:bB}(h1:o.fP.length<=40)(h2:o.Frames.length<=50)(h3:∀g∈o.Frames,g.Env.length<=40/\g.Stack.length<=70):Ev (λn=>F55 n (o,o,())) ((W,()),()):=by
 unfold F55 Qe Qd;have d:∀b,pJ b b=W:=λb=>by cases b<;>rfl
 simp only[aU];refine Ev.ah (ahi (by omega)) ?_;simp only[aU];refine Ev.bz (F:=λn c=>_) (tj o.Frames.length (by omega) (λi e=>?_) λn=>?_) (λn c=>_) _ dB;have a:=h3 _ (bW aR e);simp(disch:=omega)only[aU,d];refine Ev.ah (ahi (gk a.1 (by decide))) ?_;simp only[aU];refine Ev.ah (ahi (gk a.2 (by decide))) (bF λn=>?_);simp(disch:=omega)only[aU,bZ,gG,gM]<;>rfl
 simp_all[aU]
def e18(d:Bx p dd)(a:oX p dd w):Ev (λn=>F18 n (w,w,())) ((W,()),()):=by
 have e:=a.len;have f:=a.tl;have g:=a.outs;have b:=a.ins;unfold F18;simp only[aU];refine Ev.ah (e35 (by omega)) ?_;simp only[aU];refine Ev.ah (e54 (by omega)) ?_;simp only[aU];refine Ev.ah (e35 (by omega)) ?_;simp only[aU];refine Ev.bz (F:=λn c=>_) (tj w.aN.length (by omega) (λi b=>?_) λn=>?_) (λn c=>_) _ dB;obtain⟨h1,h2,h3⟩:=(a.obs _ (bW bw b)).small d;simp(disch:=omega)only[aU];refine Ev.ah (e55 h1 h2 h3) (bF λn=>?_);simp(disch:=omega)only[aU,bZ,gG,gM]<;>rfl
 simp_all[aU]
def e16:Ev (λn=>F16 n (cX,())) ((W,()),()):=by unfold F16 F18;refine Ev.ah (a:=((W,()),())) ?_ (Ev.pure _);have z:ak cX.1=0:=rfl;have b:aa cX.5 cX.5=W:=rfl;simp only[z,b];simp only[aU];refine Ev.ah (e35 (l:=[]) (by simp)) ?_;simp only[aU];refine Ev.ah (e54 (l:=[]) (by simp)) ?_;simp only[aU];refine Ev.ah (e35 (l:=[]) (by simp)) ?_;simp only[aU];refine Ev.bz (F:=λn c=>_) (gV.out (j:=0) (y:=(0,())) (bF λn=>?_)) (λn c=>_) _ dB;rfl
def e21(hs:Small p)(d:rH w):(∃D,Rt p D/\oX p D w/\Ev (λn=>F21 n (p,w,())) ((⟨p,D⟩,W,()),()))\/((¬∃D,Rt p D/\oX p D w)/\∃m,Ev (λn=>F21 n (p,w,())) ((m,J,()),())):=by
 unfold F21;obtain⟨D,c,h⟩|⟨e,m,h⟩:=e14 hs
 obtain⟨a,b⟩|⟨a,b⟩:=e32 c.ok hs d
 exact .inl ⟨D,c,a,Ev.ah h (Ev.ah b (Ev.pure _))⟩;exact .inr ⟨λ⟨E,f,g⟩=>a (c.uniq f▸g),_,Ev.ah h (Ev.ah b (Ev.pure _))⟩;exact .inr ⟨λ⟨D,a,_⟩=>e ⟨D,a⟩,_,Ev.ah h (Ev.pure _)⟩
theorem adu(c:Bx p dd)(hs:Small p)(h:oX p dd w):Ev (λn=>F32 n (⟨p,dd⟩,w,())) ((W,()),()):=by
 obtain⟨a,b⟩|⟨a,b⟩:=e32 c hs (h.small c)
 exact b
 grind
end
end
section
section
variable {n:Nat}{p:aA}{dd:List au}{w:av}{M:MP}
theorem alP(k:Int):F103 n (k,())=Z ((k,()),()):=rfl
variable {i:Nat}
def Ni{α:Type}{l:L α}{d x:α}(h:i<l.length)(a:x=l.getD i d):l.set i x=l:=by
 simp_all
def CA{l:L az}(hl:l.length<=1000):Ev (λn=>mO n ((l,()),())) (.out 0 (l,(l.length:Int),())):=by
 unfold mO;refine Ev.iter (F:=λn c=>_) (kA (s:=λi=>(l,(i:Int),())) l.length 0 (λi a=>bF λn=>?_) (bF λn=>?_));by_cases h5:(l.getD i bu).Kind=5;simp(disch:=omega)only[aU,h5,alP,bZ,gG,gM];rw[Ni a (by rw[<-h5])];simp(disch:=omega)only[aU,h5,bZ,gG,gM]<;>rfl
 simp_all[aU]
def tF{fs:L aj}(hi:i<fs.length):lF fs i (aj.mk (fs.getD i aR).At (fs.getD i aR).Env (fs.getD i aR).Stack (fs.getD i aR).dI)=fs:=Ni hi rfl
theorem O2{a b:Int}{vs:L az}{fs:L aj}(hf:fs.length<=1000)(hs:∀g∈fs,g.Env.length<=1000/\g.Stack.length<=1000) :
  ∀m i:Nat,i+m=fs.length->∃c,∀n,c<=n->∀d,m+4<=d->Bz n d ((i:Int),(a,b,vs,fs,()),())=Z ((W,()),(a,b,vs,fs,()),())
 |0,i,h=>⟨0,λn _ d j=>by
  obtain⟨k,rfl⟩:∃k,d=k+4:=⟨d-4,by omega⟩
  simp_all[HX,MM,aU]⟩
 |m+1,i,h=>by
  have e:i<fs.length:=by omega
  obtain⟨l,h1⟩:=O2 (a:=a) (b:=b) (vs:=vs) hf hs m (i+1) (by omega);obtain⟨o,p⟩:=hs _ (bW aR e);obtain⟨q,h2⟩:=CA o;obtain⟨r,h3⟩:=CA p;refine⟨l+q+r,λn t d j=>?_⟩;obtain⟨k,rfl⟩:∃k,d=k+4:=⟨d-4,by omega⟩;have h1:=h1 n (by omega) (k+3) (by omega);have h2:mO n (((fs.getD i aR).Env,()),())=_:=h2 n (by omega);have h3:mO n (((fs.getD i aR).Stack,()),())=_:=h3 n (by omega);have u:uj ((i:Int),(a,b,vs,fs,()),())=fs.getD i aR:=rfl;have s:qA ((i:Int),(a,b,vs,fs,()),()) ((fs.getD i aR).Env,((fs.getD i aR).Env.length:Int),())=fs:=tF e;have v:qz ((i:Int),(a,b,vs,fs,()),()) ((fs.getD i aR).Env,((fs.getD i aR).Env.length:Int),())=fs.getD i aR:=by unfold qz;rw[s];rfl
  have w:lF fs i (aj.mk (fs.getD i aR).At (fs.getD i aR).Env (fs.getD i aR).Stack (fs.getD i aR).dI)=fs:=tF e;rw[HX];unfold MM;have f:aG .i64 (i:Int) 1=((i+1:Nat):Int):=by grind[bZ]
  have x:aF (i:Int) fs=W:=by simp[aF];omega
  have y:dX i fs=W:=by simp[dX];omega
  refine(Th (show ¬(i:Int)=(fs.length:Int)by omega) _ _).trans ?_
  simp_all[Yr,Z5,adw,ud,me]
theorem e49(q:Bx p dd)(e:oX p dd w):Ev (λn=>F49 n (mb p dd w,M,())) ((w,()),mb p dd w,M,()):=by
 have F:=e.len;have r:=e.tl;unfold F49 G49;have t:gV (R:=U) (B:=U) (P:=Any) (λn d=>ai (aD d.2.1 (ak w.aN)) (aO (dg d.1 [d.2.1]) (Z (N (dc d.1 [d.2.1],aG .i64 d.2.1 1,())))) (Z (H 0 d))) ([],0,()) (.out 0 (oS w.aN.length,(w.aN.length:Int),())):=by refine kA (s:=λi=>(oS i,(i:Int),())) w.aN.length 0 (λi c=>bF λn=>?_) (bF λn=>by simp(disch:=omega)only[aU]);have u:=wv i;simp(disch:=first|omega|simp only[g7];omega)only[aU,bZ,gG,gM,JF]
 refine Ev.bz t (λn d=>_) _ ?_;refine Ev.v5 (λn=>me ..) ?_;have v:gV (R:=U) (B:=(L bB×L Int×L eg×L Int×Int×U)×U) (P:=Any) (λn(j:Int×(L bB×L Int×L eg×L Int×Int×U)×U)=>ai (aD j.1 (ak (oS w.aN.length))) (aO (aF j.1 (oS w.aN.length)) (aO (dX (ax j.1) (oS w.aN.length)) (aO (aF (bh (oS w.aN.length) (ax j.1) 0) w.aN) (ah (F238 n ((y4 (mb p dd w,M,()) (oS w.aN.length,(w.aN.length:Int),()) j).4,())) λk=>ah (E7 n (n+8) (((y4 (mb p dd w,M,()) (oS w.aN.length,(w.aN.length:Int),()) j).1,(y4 (mb p dd w,M,()) (oS w.aN.length,(w.aN.length:Int),()) j).2,(y4 (mb p dd w,M,()) (oS w.aN.length,(w.aN.length:Int),()) j).3,k.1),())) λl=>aO (dg j.2.1.1 [bB.mk l.2.1.1 l.2.1.2.1 l.2.1.2.2.1 l.2.1.2.2.2.1]) (Z (N (aG .i64 j.1 1,(dc j.2.1.1 [bB.mk l.2.1.1 l.2.1.2.1 l.2.1.2.2.1 l.2.1.2.2.2.1],j.2.1.2),()))))))) (Z (H 0 j)))
   (0,([],[],w.mo,w.dF,w.Used,()),()) (.out 0 ((w.aN.length:Int),(w.aN.take w.aN.length,[],w.mo,w.dF,w.Used,()),())):=by
  refine kA (s:=λi=>((i:Int),(w.aN.take i,[],w.mo,w.dF,w.Used,()),())) w.aN.length 0 (λi c=>?_) (bF λn=>?_);obtain⟨h1,h2,h3⟩:=(e.obs _ (bW bw c)).small q;obtain⟨x,f⟩:=CA (l:=(w.aN.getD i bw).fP) (by omega);obtain⟨y,h⟩:=O2 (a:=(w.aN.getD i bw).Form) (b:=(w.aN.getD i bw).N) (vs:=(w.aN.getD i bw).fP) (fs:=(w.aN.getD i bw).Frames) (by omega) (λg I=>by grind) (w.aN.getD i bw).Frames.length 0 (by omega);refine⟨x+y+1000,λn u=>?_⟩;have f:mO n (((w.aN.getD i bw).fP,()),())=_:=f n (by omega);have h:Bz n (n+7) (0,((w.aN.getD i bw).Form,(w.aN.getD i bw).N,(w.aN.getD i bw).fP,(w.aN.getD i bw).Frames,()),())=_:=h n (by omega) (n+7) (by omega);have z:E7 n (n+8) (((w.aN.getD i bw).Form,(w.aN.getD i bw).N,(w.aN.getD i bw).fP,(w.aN.getD i bw).Frames,()),())=Z ((),((w.aN.getD i bw).Form,(w.aN.getD i bw).N,(w.aN.getD i bw).fP,(w.aN.getD i bw).Frames,()),()):=by
   rw[show n+8=(n+4)+4 from rfl,Sy]
   grind[UG,adw,ud,ah,mO,bw,me]
  have e0:bh (oS w.aN.length) (ax (i:Int)) 0=(i:Int):=Yk c;have A:y4 (mb p dd w,M,()) (oS w.aN.length,(w.aN.length:Int),()) ((i:Int),(w.aN.take i,[],w.mo,w.dF,w.Used,()),())=w.aN.getD i bw:=by unfold y4;simp only[e0];rfl
  have C:=wv w.aN.length;simp only[A,adx,ud,z,e0];simp(disch:=first|omega|simp only[g7];omega)only[aU,bZ,gG,gM];rw[show bB.mk (w.aN.getD i bw).Form (w.aN.getD i bw).N (w.aN.getD i bw).fP (w.aN.getD i bw).Frames=w.aN.getD i bw from rfl,take_succ bw c]
  simp_all[wv,aU]
 have E:gV (R:=U) (B:=(L bB×L Int×L eg×L Int×Int×U)×U) (P:=Any) (λn(m:Int×(L bB×L Int×L eg×L Int×Int×U)×U)=>ai (aD m.1 (ak w.bI)) (aO (aF m.1 w.bI) (ah (F103 n (bh w.bI (ax m.1) 0,())) λo=>aO (dg m.2.1.2.1 [o.1.1]) (Z (N (aG .i64 m.1 1,(m.2.1.1,dc m.2.1.2.1 [o.1.1],m.2.1.2.2),()))))) (Z (H 0 m)))
   (0,(w.aN.take w.aN.length,[],w.mo,w.dF,w.Used,()),()) (.out 0 ((w.bI.length:Int),(w.aN.take w.aN.length,w.bI.take w.bI.length,w.mo,w.dF,w.Used,()),())):=by
  refine kA (s:=λi=>((i:Int),(w.aN.take w.aN.length,w.bI.take i,w.mo,w.dF,w.Used,()),())) w.bI.length 0 (λi c=>bF λn=>?_) (bF λn=>by simp(disch:=omega)only[aU]);simp(disch:=first|omega|simp only[g7];omega)only[aU,alP,bZ,gG,gM];rw[take_succ 0 c]
 refine Ev.ah (bF λn=>aso w.mo) (Ev.ah (bF λn=>e47 w.dF) ?_);refine Ev.bz v (λn d=>_) _ ?_;refine Ev.v5 (λn=>me ..) ?_;refine Ev.bz E (λn d=>_) _ (bF λn=>?_);rw[me];simp only[QN];rfl
end
end
section
section
variable {p:aA}{dd:List au}{M:MP}{w w':av}{left:List aj}{f:aj}{at_ t n:Int}{v u:az}{i:bR}{l:List az}
end
end
section
section
variable {p:aA}{dd:List au}{M:MP}{w:av}
end
end
section
section
variable {p:aA}{w:av}{dd:List au}
def PF(p:aA)(w:av):Prop:=∃D,Rt p D/\oX p D w
def e33(hs:Small p)(c:rH w){r:(L Int×Int×U)×U}(h1:PF p w->((BS p w,0,()),())=r)(h2:¬PF p w->(([],2,()),())=r):Ev (λn=>F33 n (p,w,())) r:=by unfold F33;refine HE (bad:=λn=>Z (([],2,()),())) hs c (λD a b=>?_) (λh=>by rw[<-h2 h];exact Ev.pure _);rw[<-h1 ⟨D,a,b⟩];exact Ev.ah (e66 (M:=Wo p D) a.ok b) (Ev.pure _)
def aen:O (av×O aP)->(av×aP×Int×U)×U
 |none=>((cX,ct,5,()),())|some (w,e)=>((w,e.getD ct,0,()),())
def e34(hs:Small p)(j:rH w){k:Int}{r:(av×aP×Int×U)×U}(h1:PF p w->0<=k->k<w.bI.length->aen (o9 p w k)=r)(h2:¬PF p w\/¬(0<=k/\k<w.bI.length)->((cX,ct,2,()),())=r):Ev (λn=>F34 n (p,w,k,())) r:=by
 unfold F34;refine HE hs j (λD i a=>?_) (λh=>by rw[<-h2 (.inl h)];exact Ev.pure _);have b:=i.ok;have q:=a.tl;have l:=a.len;by_cases m:k<0;refine Ev.v5 (λn=>Fz m _ _) ?_;rw[<-h2 (.inr λh=>by omega)];exact Ev.pure _;refine Ev.v5 (λn=>xH (show(0:Int)<=k by omega) _ _) ?_;by_cases o:(w.bI.length:Int)<=k;refine Ev.v5 (λn=>FA o _ _) ?_;rw[<-h2 (.inr λh=>by omega)];exact Ev.pure _;refine Ev.v5 (λn=>KT (show k<(w.bI.length:Int)by omega) _ _) ?_;have c:0<=k:=by omega
 have d:k<w.bI.length:=by omega
 rw[<-h1 ⟨D,i,a⟩ c d];refine Ev.ah (e67 (M:=Wo p D) b a c d) (Ev.ah (Uh (w:=w)) ?_);cases f:o9 p w k with
 |none=>exact dB|some r=>obtain⟨s,e⟩:=r;have g:=(Te b a c d f).1;cases e<;>exact Ev.ah (e49 b g) dB
end
end
def tB:L UInt8:=[109,111,100,117,108,101,32,98,32,123,32,102,117,110,32,119,111,114,107,40,99,32,58,32,99,104,97,110,32,105,110,116,41,32,58,32,117,110,105,116,32,61,32,108,101,116,32,120,32,61,32,115,101,110,100,40,99,44,32,53,41,32,105,110,32,115,101,110,100,40,99,44,32,54,41,59,32,102,117,110,32,109,97,105,110,40,117,32,58,32,117,110,105,116,41,32,58,32,105,110,116,32,61,32,108,101,116,32,99,32,61,32,99,104,97,110,32,105,110,32,108,101,116,32,116,32,61,32,115,112,97,119,110,40,102,117,110,32,117,32,61,62,32,119,111,114,107,32,99,41,32,105,110,32,116,97,107,101,40,99,41,32,43,32,114,101,115,101,116,40,49,32,43,32,40,115,104,105,102,116,32,107,32,61,62,32,107,32,40,107,32,49,48,41,41,41,59,32,125]
def Tj(e:aP)(t op n k m:Int):Bool:=bS (aa e.1 t) (bS (aa e.2 op) (bS (aa e.3 n) (bS (aa e.4.1 k) (bS (aa e.4.2 m) W))))
noncomputable def gB(n:Nat):O Bool:=ah (F42 n (tB,())) λc=>ah (F13 n (c.1.1,[],())) λd=>ah (F20 n (c.1.1,d.1.1,[0,0,1,1,0,0,1],())) λe=>ah (F24 n (c.1.1,e.1.1,())) λg=>
 Z (aa d.1.2.1 0&&(aa e.1.2.2.1 0&&(aa g.1.2.1 0&&(aa (ak e.1.2.1) 7&&(Tj (KF e) 1 22 0 1 5&&(Tj (KE e) 0 0 1 1 17&&aa (ak g.1.1.1) 2))))))
noncomputable def gA(n:Nat):O Bool:=ah (aa3 n) λh=>ah (F13 n (h.1.1,[],())) λi=>ah (F28 n (h.1.1,i.1.1,0,())) λk=>
 Z (aa i.1.2.1 0&&(aa k.1.2.2.2.1 0&&(Tj k.1.2.1 0 16 0 1 1&&aa k.1.2.2.1 3)))
def adj:gB 300=Z W:=by kernel_rfl
def adk:gA 300=Z W:=by kernel_rfl
def Rc:F12 300 ()=Z ((W,()),()):=by have a:=adj;have b:=adk;unfold gB at a;unfold gA at b;obtain⟨c,h1,a⟩:=TL.fN a;obtain⟨d,h2,a⟩:=TL.fN a;obtain⟨e,h3,a⟩:=TL.fN a;obtain⟨g,h4,a⟩:=TL.fN a;obtain⟨h,h5,b⟩:=TL.fN b;obtain⟨i,h6,b⟩:=TL.fN b;obtain⟨k,o,b⟩:=TL.fN b;simp only[gP,eW]at b a;obtain⟨p,q,r,f,j,l,s⟩:=a;obtain⟨a1,a2,n,t⟩:=b;unfold Tj at j l n;have u:(e.1.2.1.length:Int)=7:=xT.1 f;unfold F12;show ah (F42 300 (tB,())) _=_;rw[h1,ud,h2,ud,h3,ud,h4,ud,h5,ud,h6,ud,ud,o,ud];have v:aF 2 e.1.2.1=W:=ie.2 (by omega);have w:aF 5 e.1.2.1=W:=ie.2 (by omega);have f43:∀m:Int,F43 300 (m,())=Z ((⟨1,m⟩,()),()):=λ_=>rfl;simp only[p,q,r,f,s,a1,a2,t,Tg,Nj,v,w,Z5,f43,ud,j,l,n]
def kn:Fn [] K4 J:=λ_=>Z ((W,()),())
abbrev cK:lJ sg:=⟨[],K4,J,kn⟩
def CK:bG prog 12 cK:=by
 have h:=(k12 300).h;have e:F12 300=kn:=funext λx=>by cases x;exact Rc
 have h:bG prog 12 (⟨[],K4,J,F12 300⟩:lJ sg):=h;rw[e]at h;exact h
def ahx:L TypeId:=[27,26,22,137,136,135,3,23,90,89,88,9,24,25,92,91,33,32,30,106,105,99,101,64,63,62,104,103,102,4,31,128,127]
noncomputable def tyL(t:TypeId):O Ty:=bif ahx.contains t then UN.get t else Y
noncomputable def ai5(t:TypeId):Bool:=match UN.get t with|some τ=>rdT sg prog tyL t τ|none=>W
def afO:ahx.all ai5=W:=by kernel_rfl
def ai3(t:TypeId)(τ:Ty)(h:tyL t=Z τ):rdT sg prog tyL t τ=W:=by
 unfold tyL at h;cases a:ahx.contains t with
 |false=>rw[a]at h;cases h
 |true=>rw[a,iq]at h;have:=kP.1 afO t (by simpa using a);unfold ai5 at this;rw[h]at this;exact this
def laid:laidOutB prog=W:=by kernel_rfl
def own:ownKnob prog.godebug=Y:=by kernel_rfl
end Mn
end
end
