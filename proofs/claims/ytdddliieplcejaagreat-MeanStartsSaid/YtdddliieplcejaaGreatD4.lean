import Derived.Laws.StructEq
import Derived.Room.BridgeHanded
import Derived.DataElems
import Derived.WideKeyArgs
import Derived.SizedLaws
import Derived.RowKit3
import Derived.Test.YtdddliieplcejaaGreatProg
import Derived.KernelRfl
import Derived.Test.YtdddliieplcejaaGreatD3
set_option linter.all false
set_option maxRecDepth 100000
set_option maxHeartbeats 0
noncomputable section
section
namespace TL
open Go
variable {S:Sg}
section
variable {o:Op}{ops:List Oper}{v a:V S}{b:Bool}{x y r r':pJ S}{args:List (V S)}
section
variable {fr fr':bV S}{s s':bq S}
def qc:∀{l:List Operand},(∀x∈l,cm fr x=cm fr' x)->jX fr l=jX fr' l
 |[],_=>rfl
 |x::l,h=>by simp only[jX,h x eC,qc λy hy=>h y (gL _ hy)]
def jO:∀{l:List (Nat×Operand)},(∀x∈l.map (·.2),cm fr x=cm fr' x)->iq fr l=iq fr' l
 |[],_=>rfl
 |(k,x)::l,h=>by simp only[iq,h x (by simp),jO λy hy=>h y (by simp at hy ⊢;exact .inr hy)]
def xR:∀{x:Option Operand},(∀y∈x.toList,cm fr y=cm fr' y)->Jy fr x=Jy fr' x
 |none,_=>rfl
 |some x,h=>by simp only[Jy,h x (by simp)]
def Ov(E:gA)(s:bq S)(o:Op)(h:∀x∈o.operands.toList,cm fr x=cm fr' x):cn E fr s o=cn E fr' s o:=by
 cases o with
 |buildSlice t n ps=>simp only[Op.operands]at h;simp only[cn,jO (fr:=fr) (fr':=fr') (l:=ps.toList) (by simpa using h)]
 |build t ps=>simp only[Op.operands]at h;simp only[cn,jO (fr:=fr) (fr':=fr') (l:=ps.toList) (by simpa using h)]
 |makeFunc f a b=>simp only[Op.operands,GN,eg]at h;simp only[cn,qc (l:=a.toList) λx hx=>h x (.inl hx),qc (l:=b.toList) λx hx=>h x (.inr hx)]
 |slice t x l hh m=>
  simp only[Op.operands,GN,eg,Option.toArray]at h;simp only[cn,h x (by simp),xR (fr:=fr) (fr':=fr') (x:=l) λy hy=>h y (by cases l<;>simp_all),
   xR (fr:=fr) (fr':=fr') (x:=hh) λy hy=>h y (by cases hh<;>simp_all),xR (fr:=fr) (fr':=fr') (x:=m) λy hy=>h y (by cases m<;>simp_all)]
 |alloc=>rfl
 |box t x=>simp[Op.operands]at h;simp only[cn,h]
 |move x=>simp[Op.operands]at h;simp only[cn,h]
 |assign x=>simp[Op.operands]at h;simp only[cn,h]
 |pick x y z=>simp[Op.operands]at h;simp only[cn,h]
 |load t x=>simp[Op.operands]at h;simp only[cn,h]
 |store t x y=>simp[Op.operands]at h;simp only[cn,h]
 |nilCheck x=>simp[Op.operands]at h;simp only[cn,h]
 |binOp op t x y u=>simp[Op.operands]at h;simp only[cn,h]
 |unOp op t x=>simp[Op.operands]at h;simp only[cn,h]
 |convert t u x=>simp[Op.operands]at h;simp only[cn,h]
 |makeInterface t x=>simp[Op.operands]at h;simp only[cn,h]
 |extract x k=>simp[Op.operands]at h;simp only[cn,h]
 |fieldAddr t x k=>simp[Op.operands]at h;simp only[cn,h]
 |field t x k=>simp[Op.operands]at h;simp only[cn,h]
 |indexAddr t x k=>simp[Op.operands]at h;simp only[cn,h]
 |index t x k=>simp[Op.operands]at h;simp only[cn,h]
 |typeAssert x t u ok=>simp[Op.operands]at h;simp only[cn,h]
 |_=>rfl
def MK:∀{x:Option Operand},(∀y∈x.toList,cm fr y=cm fr' y)->ML fr x=ML fr' x
 |none,_=>rfl
 |some x,h=>by simp only[ML,h x (by simp)]
def SY(E:gA)(s:bq S)(o:Op)(h:∀x∈o.operands.toList,cm fr x=cm fr' x):rC E fr s o=rC E fr' s o:=by
 cases o with
 |makeMap t r=>simp only[rC,MK (fr:=fr) (fr':=fr') (x:=r) λy hy=>h y (by cases r<;>simp_all [Op.operands])]
 |lookup t x ix ok=>simp[Op.operands]at h;simp only[rC,h]
 |mapUpdate t x ix y=>simp[Op.operands]at h;simp only[rC,h]
 |insert t x ix y=>simp[Op.operands]at h;simp only[rC,h]
 |makeSlice t n c=>simp[Op.operands]at h;simp only[rC,h]
 |range t x=>simp[Op.operands]at h;simp only[rC,h]
 |nilCheck x=>simp[Op.operands]at h;simp only[rC,h]
 |typeAssert x t u ok=>simp[Op.operands]at h;simp only[rC,h]
 |build t ps=>simp only[Op.operands]at h;simp only[rC,jO (fr:=fr) (fr':=fr') (l:=ps.toList) (by simpa using h)]
 |binOp op t x y u=>
  have hx:cm fr x=cm fr' x:=h x (by simp[Op.operands]);cases op<;>first
   |rfl
   |(
     cases y with
     |const v=>
      cases v with
      |nilIface=>simp only[rC,hx]
      |slice a n m=>cases a<;>cases n<;>cases m<;>first|rfl|simp only[rC,hx]
      |_=>rfl
     |_=>rfl)
 |_=>rfl
def S1(E:gA)(s:bq S)(o:Op)(h:∀x∈o.operands.toList,cm fr x=cm fr' x):AN E fr s o=AN E fr' s o:=by
 cases o with
 |indexAddr t x ix=>simp[Op.operands]at h;simp only[AN,h]
 |load t a=>simp[Op.operands]at h;simp only[AN,h]
 |store t a x=>
  simp[Op.operands]at h;cases x with|tmp k=>have h2:fr.get k=fr'.get k:=h.2;simp only[AN,h.1,h2]|_=>rfl
 |buildSlice t n ps=>
  simp only[AN];split
  .rename_i kx hps;have h2:fr.get kx=fr'.get kx:=h (.tmp kx) (by
    have:(Op.buildSlice t n ps).operands.toList=ps.toList.map (·.2):=by simp[Op.operands]
    rw[this,hps];simp)
   simp only[h2]
  .rfl
  .rfl
 |_=>rfl
def H6(E:gA)(s:bq S)(o:Op)(h:∀x∈o.operands.toList,cm fr x=cm fr' x):zu E fr s o=zu E fr' s o:=by unfold zu;rw[S1 E s o h,Ov E s o h,SY E s o h]
def H7(E:gA)(s:bq S)(o:Op)(h:∀x∈o.operands.toList,cm fr x=cm fr' x):jc E fr s o=jc E fr' s o:=by
 cases o with
 |next it b=>simp[Op.operands]at h;cases b<;>first|rfl|simp only[jc,h]
 |lookup t x ix ok=>simp[Op.operands]at h;simp only[jc,h]
 |index t x ix=>simp[Op.operands]at h;simp only[jc,h]
 |_=>rfl
def Bj{c:Call}(h:∀x∈c.operands.toList,cm fr x=cm fr' x):jX fr c.args.toList=jX fr' c.args.toList∧(∀f,c.callee=.value f->cm fr f=cm fr' f)∧∀x m,c.callee=.invoke x m->cm fr x=cm fr' x:=by simp only[Call.operands,GN,eg]at h;exact⟨qc λx hx=>h x (.inr hx),λf hf=>h f (.inl (by rw[hf];simp)),λx m hx=>h x (.inl (by rw[hx];simp))⟩
def zV(E:ga S)(call:iB S)(o:Oper)(s:bq S){ω:Type}(kp:V S->bq S->Option ω)(k:V S->bq S->List Nat->Option ω)(h:∀x∈o.op.operands.toList,cm fr x=cm fr' x) :
  sU E call o fr s kp k=sU E call o fr' s kp k:=by
 unfold sU;have hop:=H6 E.T s o.op h;have hos:=H7 E.T s o.op h;cases hc:o.op with
 |call c=>
  rw[hc]at h;simp only[Op.operands]at h;obtain⟨h1,h2,h3⟩:=Bj h;dsimp only;rw[h1];cases hcc:c.callee with|value f=>simp only[h2 f hcc]|builtin b=>rfl|invoke x m=>simp only[h3 x m hcc]
 |panic x=>rw[hc]at h;simp[Op.operands]at h;simp only[h]
 |_=>rw[hc]at hop hos;simp only[hop,hos]
def gZ(E:ga S)(g:Option Bool)(o:Oper)(s:bq S){ω:Type}(k:V S->Option ω)(h:∀x∈o.op.operands.toList,cm fr x=cm fr' x) :
  ez E g fr s o k=ez E g fr' s o k:=by
 unfold ez;have hop:=H6 E.T s o.op h;have hos:=H7 E.T s o.op h;cases hc:o.op with
 |call c=>
  rw[hc]at h;simp only[Op.operands]at h;obtain⟨h1,h2,h3⟩:=Bj h;dsimp only;rw[h1];cases hcc:c.callee with|value f=>simp only[h2 f hcc]|builtin b=>rfl|invoke=>rfl
 |buildSlice t n ps=>rw[hc]at h hop;simp only[Op.operands]at h;simp only[hop,jO (fr:=fr) (fr':=fr') (l:=ps.toList) (by simpa using h)]
 |slice t x l hh m=>rw[hc]at h hop;simp only[hop,h x (by simp[Op.operands])]
 |_=>first|rfl|(rw[hc]at hop hos;simp only[hop,hos])
def Jn(E:ga S)(o:Oper)(h:∀x∈o.op.operands.toList,cm fr x=cm fr' x):AF E fr o=AF E fr' o:=by
 unfold AF;cases hc:o.op with
 |call c=>
  rw[hc]at h;simp only[Op.operands]at h;obtain⟨h1,h2,h3⟩:=Bj h;dsimp only;rw[h1];cases hcc:c.callee with|value f=>simp only[h2 f hcc]|builtin b=>rfl|invoke=>rfl
 |buildSlice t n ps=>rw[hc]at h;simp only[Op.operands]at h;simp only[jO (fr:=fr) (fr':=fr') (l:=ps.toList) (by simpa using h)]
 |slice t x l hh m=>rw[hc]at h;simp only[h x (by simp[Op.operands])]
 |_=>rfl
def tmpsOf(o:Op):List Nat:=o.operands.toList.filterMap λx=>match x with|.tmp k=>some k|_=>none
def iH(h:∀k∈tmpsOf o,fr.get k=fr'.get k):∀x∈o.operands.toList,cm fr x=cm fr' x:=by intro x hx;cases x with|tmp k=>exact h k (wz.2 ⟨.tmp k,hx,rfl⟩)|_=>rfl
def qg(hb:∀k∈tmpsOf o,k<bA)(h:∀k∈tmpsOf o,fr.get k=fr'.get k):∀k∈tmpsOf o,(nk fr o).get k=(nk fr' o).get k:=by
 unfold nk;have key:∀(l:List Operand)(f f':bV S),(∀k,.tmp k∈l->k∈tmpsOf o)->(∀k∈tmpsOf o,f.get k=f'.get k)->∀k∈tmpsOf o,
   (l.foldl (λf x=>match x with
    | .tmp k=>match fr.get k with
     |some (.gd _ v)=>f.put k v
     |_=>f
    |_=>f) f).get k=(l.foldl (λf x=>match x with
    | .tmp k=>match fr'.get k with
     |some (.gd _ v)=>f.put k v
     |_=>f
    |_=>f) f').get k:=by
  intro l
  induction l with
  |nil=>intro f f' _ hf k hk;exact hf k hk
  |cons x l ih=>
   intro f f' hl hf k hk;simp only[LD];refine ih _ _ (λk hk=>hl k (gL _ hk)) (λk hk=>?_) k hk;cases x with
   |tmp j=>
    have hj:=hl j eC;simp only[<-h j hj];split
    .rw[bV.iR _ _ _ _ (hb j hj),bV.iR _ _ _ _ (hb j hj),hf k hk]
    .exact hf k hk
   |_=>exact hf k hk
 exact key _ _ _ (λk hk=>wz.2 ⟨.tmp k,hk,rfl⟩) h
def sP(c:Bool)(h:∀k∈tmpsOf o,fr.get k=fr'.get k):J2 c fr o=J2 c fr' o:=by
 unfold J2;have key:∀(l:List Operand)(q:Bool),(∀k,.tmp k∈l->k∈tmpsOf o)->
   l.foldl (λp x=>match x with
    | .tmp k=>match fr.get k with
     |some (.gd g _)=>p&&imp c g
     |_=>p
    |_=>p) q=l.foldl (λp x=>match x with
    | .tmp k=>match fr'.get k with
     |some (.gd g _)=>p&&imp c g
     |_=>p
    |_=>p) q:=by
  intro l
  induction l with
  |nil=>intro q _;rfl
  |cons x l ih=>
   intro q hl;have hj:∀j,x=.tmp j->fr.get j=fr'.get j:=λj hj=>h j (hl j (hj▸eC));have hl':∀k,.tmp k∈l->k∈tmpsOf o:=λk hk=>hl k (gL _ hk);clear hl;simp only[LD];cases x with|tmp j=>simp only[<-hj j rfl];exact ih _ hl'|_=>exact ih _ hl'
 exact key _ _ (λk hk=>wz.2 ⟨.tmp k,hk,rfl⟩)
def ni(ops:List Oper)(o:Oper):Option Nat:=match o.guard with
 |none=>none
 |some (j,_)=>(nth ops j).bind (·.dst)
def n7{o:Oper}(h:∀k,ni ops o=some k->fr.get k=fr'.get k):gY ops fr o=gY ops fr' o:=by
 unfold gY;cases hg:o.guard with
 |none=>rfl
 |some p=>
  obtain⟨j,want⟩:=p;dsimp only;cases hd:(nth ops j).bind (·.dst)with|none=>rfl|some k=>simp only[Jq];rw[h k (by simp only[ni,hg,hd])]
def pY{o:Oper}(h:∀k,ni ops o=some k->fr.get k=fr'.get k):tD ops fr o=tD ops fr' o:=by
 unfold tD;cases hg:o.guard with
 |none=>rfl
 |some p=>
  obtain⟨j,want⟩:=p;dsimp only;cases hd:(nth ops j).bind (·.dst)with|none=>rfl|some k=>simp only[Jq];rw[h k (by simp only[ni,hg,hd])]
def Hi(E:ga S)(call:iB S){o:Oper}(s:bq S){ω:Type}(kp:V S->bq S->Option ω)(k:V S->bq S->List Nat->Option ω)(hn:fr.n=fr'.n)(hb:∀k∈tmpsOf o.op,k<bA)
  (h:∀k∈tmpsOf o.op,fr.get k=fr'.get k) (hg:∀k,ni ops o=some k->fr.get k=fr'.get k):mU E call ops o fr s kp k=mU E call ops o fr' s kp k:=by
 unfold mU;have h1:fX fr o.dst=fX fr' o.dst:=by cases o.dst<;>simp only[fX,hn]
 have h2:=iH h;have h3:=iH (qg hb h);rw[h1,n7 hg,pY hg];simp only[zV E call o s kp k h2,zV E call o s kp k h3,Jn E o h3,sP (o:=o.op) _ h];have h4:∀c,ez E (some c) (nk fr o.op) s o (λt=>k (.gd c t) s [])=ez E (some c) (nk fr' o.op) s o (λt=>k (.gd c t) s []):=λc=>gZ E _ o s _ h3;simp only[h4]
end
def FN{ω:Type}(k:V S->Option ω){D:Option ω}{D':Option (V S)}(h:D=D'.bind k):∀l:List (Bool×V S×bq S),tL k D l=(tL some D' l).bind k
 |[]=>h
 |p::l=>by simp only[tL,FN k h l];cases p.1<;>rfl
def zT(E:ga S)(g:Option Bool)(fr:bV S)(s:bq S)(o:Oper){ω:Type}(k:V S->Option ω):ez E g fr s o k=(ez E g fr s o some).bind k:=by
 have gk:∀(p:Bool)(t:V S),yo g p (k t)=(yo g p (some t)).bind k:=by
  intro p t;cases g with
  |none=>cases p<;>rfl
  |some c=>cases c<;>cases p<;>rfl
 unfold ez;split
 .split
  .rfl
  .split
   .rename_i b _;cases zf b with
    |false=>rfl
    |true=>
     simp only[dM];split
     .exact gk _ _
     .rfl
   .split
    .rfl
    .split
     .rfl
     .rename_i c _;cases(bR c.ps&&(jk c.rs&&(iX _&&!c.pn)))with
      |false=>rfl
      |true=>
       simp only[dM];split
       .unfold ak;split
        .rename_i r _;dsimp only;generalize RT.res c.pn r=q;cases q<;>rfl
        .rfl
       .rfl
   .rfl
 iterate 11
  .rfl
 .split
  .rename_i l _;cases iX (l.map (·.2))with
   |false=>rfl
   |true=>
    simp only[dM];split
    .rfl
    .exact gk _ _
  .rfl
 .split
  .rename_i v _;cases rG v with
   |false=>rfl
   |true=>
    simp only[dM];split
    .rfl
    .exact gk _ _
  .rfl
 .split
  .exact FN k (gk _ _) _
  .split
   .rfl
   .exact gk _ _
def Sm(s s':bq S)(v:V S):Prop:=∀o,cC (Nat.beq o) v=true->s'.ob.get o=s.ob.get o
def Sms(s s':bq S)(l:List (V S)):Prop:=∀o,gX (Nat.beq o) l=true->s'.ob.get o=s.ob.get o
def Sms.cons{s s':bq S}{l:List (V S)}(h:Sms s s' (v::l)):Sm s s' v∧Sms s s' l:=
 ⟨λo ho=>h o (by simp[gX,ho]),λo ho=>h o (by simp[gX,ho])⟩
def AB{s s':bq S}(h:Sm s s' v)(e:Ty):I9 s' e v=I9 s e v:=by
 cases v with
 |sh o r=>simp only[I9,h o (by simp[cC])]
 |ty t x=>cases t<;>rfl
 |_=>rfl
def RN{s s':bq S}{o:Nat}(h:s'.ob.get o=s.ob.get o)(e:Nat):Kn s' o e=Kn s o e:=by simp only[Kn,h]
mutual
def yZ{s s':bq S}:∀(t:Ty)(v:V S),Sm s s' v->rG v=true->bM s' t v=bM s t v
 |t,.agg cs,h,hn=>by cases t with|st n=>simp only[bM,Li (S.fs n) cs h hn]|_=>simp only[bM]
 |t,.cR u v,h,hn=>by
  cases t with
  |cR n=>
   simp only[bM];cases pI (S.alts n) u with|none=>rfl|some i=>simp only[yZ (l9 (S.alts n) i) v h hn]
  |_=>simp only[bM]
 |t,.sh o r,_,hn=>by simp[rG]at hn
 |t,.qF _ _ _ _,_,hn=>by simp[rG]at hn
 |t,.n9 _ _ _,_,_=>by cases t<;>simp only[bM]
 |t,.ty _ _,_,_=>by simp only[bM]
 |t,.kb _,_,_=>by cases t<;>simp only[bM]
 |t,.kn _ _,_,_=>by cases t<;>simp only[bM]
 |t,.dat d,_,_=>by
  cases t with
  |cR n=>
   cases d with
   |lit v=>cases v<;>simp only[bM]
   |_=>simp only[bM]
  |_=>simp only[bM]
 |t,.ptr _ _,_,_=>by cases t<;>simp only[bM]
 |t,.mV _ _ _,_,_=>by cases t<;>simp only[bM]
 |t,.kL _ _ _ _,_,_=>by cases t<;>simp only[bM]
 |t,.emp,_,_=>by cases t<;>simp only[bM]
 |t,.jI _ _ _,_,_=>by cases t<;>simp only[bM]
 |t,.fn _ _ _,_,_=>by cases t<;>simp only[bM]
 |t,.gq _,_,_=>by cases t<;>simp only[bM]
 |t,.gd _ _,_,_=>by cases t<;>simp only[bM]
 |t,.mp _,_,_=>by cases t<;>simp only[bM]
 |t,.rZ _,_,_=>by cases t<;>simp only[bM]
 |t,.rY _,_,_=>by cases t<;>simp only[bM]
 |t,.ub _,_,_=>by cases t<;>simp only[bM]
def Li{s s':bq S}:∀(ts:List Ty)(l:List (V S)),Sms s s' l->iX l=true->mZ s' ts l=mZ s ts l
 |[],[],_,_=>rfl
 |t::ts,v::l,h,hn=>by simp only[iX,eE]at hn;simp only[mZ,yZ t v h.cons.1 hn.1,Li ts l h.cons.2 hn.2]
 |[],_::_,_,_=>rfl
 |_::_,[],_,_=>rfl
end
def fP(r:pJ S):Option (Bool×V S):=match r with
 |some (c,t,_)=>some (c,t)
 |none=>none
def oz(h:b=true->fP x=fP y):fP (bif b then x else none)=fP (bif b then y else none):=by cases b with|true=>exact h rfl|false=>rfl
def Pv{x' y':pJ S}(h:fP x=fP x')(h':fP y=fP y'):fP (bif b then x else y)=fP (bif b then x' else y'):=by cases b with|true=>exact h|false=>exact h'
def fO{α:Type}(x:Option α)(f g:α->Bool×V S×bq S)(h:∀a,(f a).1=(g a).1∧(f a).2.1=(g a).2.1):fP (x.map f)=fP (x.map g):=by cases x with|none=>rfl|some a=>simp only[fP,dX,(h a).1,(h a).2]
section
variable {fr:bV S}{s s':bq S}
def V2(i:TI)(τ:Option Ty)(h:Sm s s' a):fP (w8 i τ s' a)=fP (w8 i τ s a):=by
 cases a with
 |ptr o off=>
  simp only[w8,h o (by simp[cC])];cases s.ob.get o with
  |none=>rfl
  |some ob=>
   cases ob with
   |box cs=>
    dsimp only;cases Nat.beq (cA ((cs.drop off).take i.size)) i.size with|false=>rfl|true=>exact fO _ _ _ λ_=>⟨rfl,rfl⟩
   |_=>rfl
 |mV t x off=>exact fO _ _ _ λ_=>⟨rfl,rfl⟩
 |kL o e k off=>
  simp only[w8,RN (h o (by simp[cC]))];cases Kn s o e with|none=>rfl|some x=>exact fO _ _ _ λ_=>⟨rfl,rfl⟩
 |_=>rfl
def GS(i:TI)(τ:Option Ty){b:V S}(h:Sm s s' a):fP (jB i τ s' a b)=fP (jB i τ s a b):=by
 unfold jB;split
 .rename_i e n hk _;cases a with
  |sh o r=>
   simp only[RN (h o (by simp[cC]))];cases Kn s o r with|none=>rfl|some x=>dsimp only;cases r6 x.1 e<;>rfl
  |ty t x=>dsimp only;rw[AB h];cases I9 s e (.ty t x)<;>rfl
  |emp=>rfl
  |jI n t l=>dsimp only;rw[AB h];cases I9 s e (.jI n t l)<;>rfl
  |n9 n t l=>dsimp only;rw[AB h];cases I9 s e (.n9 n t l)<;>rfl
  |_=>rfl
 .rfl
def ZL(E:gA)(o:Op)(hq:oR o=false)(hm:∀x∈o.operands.toList,∀v,cm fr x=some v->Sm s s' v):fP (cn E fr s' o)=fP (cn E fr s o):=by
 cases o with
 |alloc=>cases hq
 |box=>cases hq
 |store=>cases hq
 |buildSlice=>cases hq
 |slice=>cases hq
 |move x=>exact fO _ _ _ λ_=>⟨rfl,rfl⟩
 |assign x=>exact fO _ _ _ λ_=>⟨rfl,rfl⟩
 |pick x y z=>
  simp only[cn];split
  .exact fO _ _ _ λ_=>⟨rfl,rfl⟩
  .rfl
 |build t ps=>
  simp only[cn];split
  .split
   .exact fO _ _ _ λ_=>⟨rfl,rfl⟩
   .rfl
  .rfl
 |load t x=>
  simp only[cn];split
  .rename_i i a h1 h2;exact V2 _ _ (hm x (by simp[Op.operands]) _ h2)
  .rfl
 |nilCheck x=>
  simp only[cn];split<;>first|rfl|(split<;>rfl)
 |binOp op t x y u=>
  simp only[cn];split
  .exact fO _ _ _ λ_=>⟨rfl,rfl⟩
  .rfl
 |unOp op t x=>
  simp only[cn];split
  .exact fO _ _ _ λ_=>⟨rfl,rfl⟩
  .rfl
 |convert t u x=>
  simp only[cn];split
  .unfold RI;split
   .exact fO _ _ _ λ_=>⟨rfl,rfl⟩
   .exact fO _ _ _ λ_=>⟨rfl,rfl⟩
   .rfl
  .rfl
 |makeInterface t x=>
  simp only[cn];split
  .split<;>rfl
  .rfl
 |makeFunc f a b=>simp only[cn];split<;>rfl
 |extract x k=>
  simp only[cn];split
  .unfold zR;split
   .exact fO _ _ _ λ_=>⟨rfl,rfl⟩
   .rfl
  .rfl
 |fieldAddr t x k=>
  simp only[cn];split
  .unfold o7;split
   .split
    .rename_i off size ag _;cases Nat.beq size 0 with
     |true=>rfl
     |false=>
      first|rfl|(simp only[gE];split<;>rfl)
    .rfl
   .rfl
  .rfl
 |field t x k=>
  simp only[cn];split
  .unfold A7;split
   .split
    .rename_i off size ag cs _ _;dsimp only;cases(Nat.beq (cA ((cs.drop off).take size)) size&&!(Nat.beq size 0))with|false=>rfl|true=>exact fO _ _ _ λ_=>⟨rfl,rfl⟩
    .rfl
   .rfl
  .rfl
 |indexAddr t x ix=>
  simp only[cn];split
  .rename_i i v n h1 h2 h3;exact GS _ _ (hm x (by simp[Op.operands]) _ h2)
  .rfl
 |index t x ix=>
  simp only[cn];split
  .unfold AU;split<;>rfl
  .rfl
 |typeAssert x a t ok=>
  simp only[cn];split
  .rename_i i v h1 h2;unfold Ds;split
   .rfl
   .rename_i u v _;cases Nat.beq u t with|true=>rfl|false=>exact fO _ _ _ λ_=>⟨rfl,rfl⟩
   .rename_i u v _;cases Nat.beq u t<;>rfl
   .rfl
  .rfl
 |_=>rfl
end
section
variable {fr:bV S}{s s':bq S}
def kX(h:fP r=fP r'):r=none↔r'=none:=by cases r<;>cases r'<;>simp_all [fP]
def ZQ{s s':bq S}{kt vt:Ty}(h:Sm s s' v):VY s' kt vt v=VY s kt vt v:=by
 unfold VY;split
 .rename_i o;rw[h o (by simp[cC])]
 .rfl
 .rfl
def ade(E:gA)(o:Op)(hq:oR o=false)(hm:∀x∈o.operands.toList,∀v,cm fr x=some v->Sm s s' v):fP (rC E fr s' o)=fP (rC E fr s o):=by
 cases o with
 |makeMap=>cases hq
 |mapUpdate=>cases hq
 |insert=>cases hq
 |makeSlice=>cases hq
 |range=>cases hq
 |lookup t x ix ok=>
  simp only[rC];split
  .rename_i m xv kv h1 h2 h3;have:=hm x (by simp[Op.operands]) _ h2;simp only[ZQ this];split
   .split<;>rfl
   .rfl
  .rfl
 |nilCheck x=>simp only[rC];split<;>rfl
 |typeAssert x t u ok=>
  simp only[rC];split
  .rename_i i τ n y _ _ _;split
   .rfl
   .rename_i j _ _;cases r6 (l9 (S.alts n) j) τ<;>cases ok<;>rfl
   .cases ok<;>rfl
  .rfl
 |build t ps=>
  simp only[rC];split
  .split
   .exact fO _ _ _ λ_=>⟨rfl,rfl⟩
   .rfl
  .rfl
 |binOp op t x y u=>
  cases op<;>first
   |rfl
   |(
     cases y with
     |const v=>
      cases v with
      |nilIface=>simp only[rC];split<;>first|rfl|(split<;>rfl)
      |slice a n m=>
       cases a<;>cases n<;>cases m<;>first
        |rfl
        |(
         simp only[rC];split
         .rename_i h2;have:=hm x (by simp[Op.operands]) _ h2;simp only[AB this];split<;>rfl
         .rfl)
      |_=>rfl
     |_=>rfl)
 |_=>rfl
def adi(E:gA)(o:Op)(hq:oR o=false)(hm:∀x∈o.operands.toList,∀v,cm fr x=some v->Sm s s' v):fP (AN E fr s' o)=fP (AN E fr s o):=by
 cases o with
 |store=>cases hq
 |buildSlice=>cases hq
 |indexAddr t x ix=>
  simp only[AN];split
  .rename_i o r h1;rw[hm x (by simp[Op.operands]) _ h1 o (by simp[cC])];split
   .split
    .split
     .exact oz λ_=>rfl
     .rfl
    .rfl
   .rfl
  .rfl
 |load t a=>
  simp only[AN];split
  .rename_i o e k off h1;rw[hm a (by simp[Op.operands]) _ h1 o (by simp[cC])];split
   .split
    .exact oz λ_=>Pv (oz λ_=>rfl) (oz λ_=>fO _ _ _ λ_=>⟨rfl,rfl⟩)
    .rfl
   .rfl
  .rfl
 |_=>rfl
def Q7(E:gA)(h0:fP (AN E fr s' o)=fP (AN E fr s o))(h1:fP (cn E fr s' o)=fP (cn E fr s o))(h2:fP (rC E fr s' o)=fP (rC E fr s o)):fP (zu E fr s' o)=fP (zu E fr s o):=by
 unfold zu;cases h5:AN E fr s o with
 |some r=>
  cases h4:AN E fr s' o with
  |none=>rw[(kX h0).1 h4]at h5;cases h5
  |some r'=>rw[h5,h4]at h0;exact h0
 |none=>
 rw[(kX h0).2 h5];dsimp only;cases h3:cn E fr s o with
 |none=>rw[(kX h1).2 h3];exact h2
 |some r=>
  cases h4:cn E fr s' o with
  |none=>rw[(kX h1).1 h4]at h3;cases h3
  |some r'=>rw[h3,h4]at h1;exact h1
def adf(E:gA)(o:Op)(hq:oR o=false)(hm:∀x∈o.operands.toList,∀v,cm fr x=some v->Sm s s' v):fP (zu E fr s' o)=fP (zu E fr s o):=by have h1:=ZL E o hq hm;have h2:=ade E o hq hm;have h0:=adi E o hq hm;exact Q7 E h0 h1 h2
def Hq(Bq:List (Bool×V S×bq S)):List (Bool×V S):=Bq.map λp=>(p.1,p.2.1)
def IM{ω:Type}(k:V S->Option ω)(d:Option ω):∀{l m:List (Bool×V S×bq S)},Hq l=Hq m->tL k d l=tL k d m
 |[],[],_=>rfl
 |p::l,q::m,h=>by simp only[Hq,lZ,LU,bB]at h;simp only[tL,h.1.1,h.1.2,IM k d (l:=l) (m:=m) h.2]
 |[],_::_,h=>by simp[Hq]at h
 |_::_,[],h=>by simp[Hq]at h
def Xz(r:Option (List (Bool×V S×bq S)×Bool×V S×bq S)):Option (List (Bool×V S)×Bool×V S):=match r with
 |none=>none
 |some (l,p,d,_)=>some (Hq l,p,d)
def FO(n:Int)(ag:Bool)(sz:Nat)(cs:List (V S))(s s':bq S):∀l:List Nat,Hq (yC n ag sz cs s' l)=Hq (yC n ag sz cs s l)
 |[]=>rfl
 |j::l=>by
  simp only[yC];split
  .simp only[Hq,lZ,LU,true_and];exact FO n ag sz cs s s' l
  .rfl
def adg(E:gA)(o:Op)(hq:oR o=false)(hm:∀x∈o.operands.toList,∀v,cm fr x=some v->Sm s s' v):Xz (jc E fr s' o)=Xz (jc E fr s o):=by
 cases o with
 |next=>cases hq
 |lookup t x ix ok=>
  simp only[jc];split
  .rename_i m iD kv h1 h2 h3;have:=hm x (by simp[Op.operands]) _ h2 iD (by simp[cC]);rw[this];split
   .split
    .simp only[Xz,Hq,List.map_map];rfl
    .rfl
   .rfl
  .rfl
 |index t x ix=>
  simp only[jc];split
  .rename_i i cs kv _ _ _;split
   .cases Nat.beq (cA cs) i.size with|false=>rfl|true=>simp only[dM,Xz,FO _ _ _ _ s s']
   .rfl
  .rfl
 |_=>rfl
end
def Iz{s s':bq S}{e:Ty}:∀{ps:List (Nat×V S)}{es:List (den S.A e)},(∀p∈ps,Sm s s' p.2)->(∀p∈ps,rG p.2=true)->mF s' e es ps=mF s e es ps
 |[],es,_,_=>rfl
 |(k,v)::ps,es,h,hn=>by simp only[mF,yZ e v (h _ eC) (hn _ eC)];cases bM s e v with|none=>rfl|some x=>dsimp only;rw[Iz (λp hp=>h p (gL _ hp)) (λp hp=>hn p (gL _ hp))]
def Ek{fr:bV S}:∀{ps:List (Nat×Operand)}{l:List (Nat×V S)},iq fr ps=some l->∀p∈l,∃x∈ps.map (·.2),cm fr x=some p.2
 |[],l,h,p,hp=>by simp only[iq,bf]at h;subst h;cases hp
 |(k,x)::ps,l,h,p,hp=>by
  simp only[iq]at h;split at h
  .rename_i t r h1 h2;simp only[bf]at h;subst h;rcases fc.1 hp with rfl|hp
   .exact ⟨x,by simp,h1⟩
   .obtain ⟨y,hy,h⟩:=Ek h2 p hp;exact⟨y,by simp at hy ⊢;exact .inr hy,h⟩
  .cases h
def HZ{fr:bV S}:∀{ps:List Operand}{l:List (V S)},jX fr ps=some l->∀v∈l,∃x∈ps,cm fr x=some v
 |[],l,h,p,hp=>by simp only[jX,bf]at h;subst h;cases hp
 |x::ps,l,h,p,hp=>by
  simp only[jX]at h;split at h
  .rename_i t r h1 h2;simp only[bf]at h;subst h;rcases fc.1 hp with rfl|hp
   .exact ⟨x,by simp,h1⟩
   .obtain ⟨y,hy,h⟩:=HZ h2 p hp;exact⟨y,gL _ hy,h⟩
  .cases h
def Sw(i:TI)(τ:Option Ty){s s':bq S}(hs:∀e,I9 s' e v=I9 s e v)(hown:Mm v=[])(l h m:Option (V S)):fP (uu i τ s' v l h m)=fP (uu i τ s v l h m):=by
 unfold uu;rw[hown];simp only[dz,hs];split
 .split
  .split<;>rfl
  .rfl
 .rename_i e lo _;cases i.kd with
  |slice a b c d=>
   cases I9 s e v with
   |none=>rfl
   |some es=>
    dsimp only;cases Bo (aq es) h with
    |none=>rfl
    |some hi=>
     cases m with
     |none=>rfl
     |some y=>
      cases h with
      |none=>rfl
      |some z=>
       dsimp only;cases y with
       |kn k n=>
        cases k with
        |i64=>cases n with
         |ofNat n=>cases n<;>rfl
         |negSucc n=>rfl
        |_=>rfl
       |ty t x=>dsimp only;cases gF .i64 (V.ty (S:=S) t x)<;>rfl
       |_=>rfl
  |_=>rfl
 .rfl
def HY{s s':bq S}:∀{ps:List Pk}{l:List (V S)},bR ps=true->(∀v∈l,Sm s s' v)->iX l=true->dY s' ps l=dY s ps l
 |[],[],_,_,_=>rfl
 | .one (.dat t)::ps,v::l,ho,h,hn=>by simp only[iX,eE]at hn;simp only[dY,l6,yZ t v (h v eC) hn.1,HY (ps:=ps) (by simpa[bR]using ho) (λv hv=>h v (gL _ hv)) hn.2]
 | .one (.own _)::_,_,ho,_,_=>by simp[bR]at ho
 | .one (.jy ..)::_,_,ho,_,_=>by simp[bR]at ho
 | .one (.nil _)::_,_,ho,_,_=>by simp[bR]at ho
 | .one (.ptr _)::_,_,ho,_,_=>by simp[bR]at ho
 | .box _::_,_,ho,_,_=>by simp[bR]at ho
 |[],_::_,_,_,_=>rfl
 | .one _::_,[],_,_,_=>rfl
def xU{p:Nat->Bool}:∀{l:List (V S)}{v:V S},v∈l->cC p v=true->gX p l=true
 |a::l,v,h,hm=>by
  rcases fc.1 h with rfl|h
  .simp[gX,hm]
  .simp[gX,xU h hm]
def CT(E:gA){s s':bq S}{ts:Array TypeId}(h:∀v∈args,Sm s s' v):fP (e8 E s' .len ts args)=fP (e8 E s .len ts args):=by
 unfold e8;split
 .rename_i x _;split
  .split<;>rfl
  .split
   .rw[AB (h _ (by simp))];exact fO _ _ _ λ_=>⟨rfl,rfl⟩
   .rfl
  .rfl
 .rename Builtin.len=Builtin.append=>hh
  cases hh
 .rfl
def Bl(E:gA){s s':bq S}{b:Builtin}(hb:zf b=true){ts:Array TypeId}(h:∀v∈args,Sm s s' v):fP (kC E s' b ts args)=fP (kC E s b ts args):=by
 have h1:fP (e8 E s' b ts args)=fP (e8 E s b ts args):=by cases b with|len=>exact CT E h|max=>simp[e8]|min=>simp[e8]|_=>cases hb
 have h2:fP (rS E s' b ts args)=fP (rS E s b ts args):=by
  unfold rS;split
  .rename_i o;rw[h (.mp o) (by simp) o (by simp[cC])];split<;>rfl
  .split<;>rfl
  .split<;>rfl
  .rfl
 have h0:fP (jJ E s' b ts args)=fP (jJ E s b ts args):=by
  unfold jJ;split
  .rename_i o r;rw[h (.sh o r) (by simp) o (by simp[cC])];split
   .split
    .split
     .exact oz λ_=>rfl
     .rfl
    .rfl
   .rfl
  .cases hb
  .cases hb
  .rfl
 unfold kC;cases h5:jJ E s b ts args with
 |some r=>
  cases h4:jJ E s' b ts args with
  |none=>rw[(kX h0).1 h4]at h5;cases h5
  |some r'=>rw[h5,h4]at h0;exact h0
 |none=>
 rw[(kX h0).2 h5];dsimp only;cases h3:e8 E s b ts args with
 |none=>rw[(kX h1).2 h3];exact h2
 |some r=>
  cases h4:e8 E s' b ts args with
  |none=>rw[(kX h1).1 h4]at h3;cases h3
  |some r'=>rw[h3,h4]at h1;exact h1
def acW{α:Type}(f:Bool->V S->Option α)(r:pJ S):Option α:=match r with
 |none=>none
 |some (p,t,_)=>f p t
def z5{α:Type}(h:fP r=fP r')(f:Bool->V S->Option α):acW f r=acW f r':=by
 cases r with
 |none=>cases r' with|none=>rfl|some x=>cases h
 |some x=>cases r' with
  |none=>cases h
  |some y=>simp only[fP,bf,bB]at h;simp only[acW];rw[h.1,h.2]
def E9(E:ga S)(g:Option Bool){fr:bV S}{s s':bq S}(o:Oper){ω:Type}(k:V S->Option ω)(hm:∀x∈o.op.operands.toList,∀v,cm fr x=some v->Sm s s' v) :
  ez E g fr s' o k=ez E g fr s o k:=by
 unfold ez;have hop:oR o.op=false->fP (zu E.T fr s' o.op)=fP (zu E.T fr s o.op):=λhq=>adf E.T o.op hq hm;cases hc:o.op with
 |call c=>
  rw[hc]at hm;simp only[Op.operands,Call.operands,GN,eg]at hm;dsimp only;cases ha:jX fr c.args.toList with
  |none=>rfl
  |some args=>
   dsimp only;have hargs:∀v∈args,Sm s s' v:=λv hv=>by obtain⟨x,hx,h⟩:=HZ ha v hv;exact hm x (.inr hx) v h
   cases hcc:c.callee with
   |value f=>
    dsimp only;cases hf:cm fr f with
    |none=>rfl
    |some v=>
     simp only[Jq];have hv:=hm f (.inl (by rw[hcc];simp)) v hf;cases uQ:oc v args with
     |none=>rfl
     |some q=>
      obtain⟨f',args'⟩:=q;dsimp only;cases hg:E.Hh f' with
      |none=>rfl
      |some c'=>
       dsimp only;have yg:∀v∈args',Sm s s' v:=by
        unfold oc at uQ;split at uQ
        .simp only[bf,bB]at uQ;obtain⟨_,rfl⟩:=uQ;intro u hu;simp only[eg]at hu;rcases hu with(hu|hu)|hu
         .exact λo ho=>hv o (by simp[cC,xU hu ho])
         .exact hargs u hu
         .exact λo ho=>hv o (by simp[cC,xU hu ho])
        .cases uQ
       cases l8:bR c'.ps with
       |false=>rfl
       |true=>
        cases hns:iX args' with|false=>simp|true=>rw[HY l8 yg hns]
   |builtin b=>
    dsimp only;cases hb:zf b with
    |false=>rfl
    |true=>
     simp only[dM];have:=z5 (Bl E.T hb (ts:=c.argTypes) hargs) (λp t=>yo g p (k t));cases h1:kC E.T s' b c.argTypes args with
     |none=>cases h2:kC E.T s b c.argTypes args with|none=>rfl|some y=>rw[h1,h2]at this;exact this
     |some x=>cases h2:kC E.T s b c.argTypes args with|none=>rw[h1,h2]at this;exact this|some y=>rw[h1,h2]at this;exact this
   |invoke=>rfl
 |buildSlice t n ps=>
  rw[hc]at hm;simp only[Op.operands]at hm;dsimp only;cases hl:iq fr ps.toList with
  |none=>rfl
  |some l=>
   dsimp only;cases hn:iX (l.map (·.2))with
   |false=>rfl
   |true=>
    refine z5 ?_ (λp t=>yo g p (k t));refine Q7 E.T ?_ ?_ rfl
    .simp only[AN];split
     .rename_i kx hps;split
      .split
       .split
        .refine oz λ_=>?_;have Za:=hm (.tmp kx) (by rw[hps];simp);rename_i hx _ _ _ _ _ _ _ _ _ _ _ _;rw[hps]at hl;simp only[iq,cm,hx,bf]at hl;subst hl;simp only[lZ,HO,iX,DY]at hn;rw[yZ _ _ (Za _ hx) hn];split
         .rename_i As;have:=rF _ _ _ hn As;subst this;rfl
         .rfl
        .rfl
       .rfl
      .rfl
     .split
      .split
       .cases Nat.beq n 0<;>rfl
       .rfl
      .rfl
     .rfl
    simp only[cn,hl];split
    .rename_i i e ps' h1 h2 h3;cases h3;split
     .rename_i sz _ _ _ _;cases Nat.ble (Nat.mul n sz) 16777216 with
      |false=>rfl
      |true=>
       simp only[dM];rw[Iz (λp hp=>by
        obtain⟨x,hx,h⟩:=Ek hl p hp;exact hm x (by simpa using hx) _ h) (Ew hn)]
       cases hel:mF s e (List.replicate n (S.zero e)) l with|none=>rfl|some q=>obtain⟨es,os⟩:=q;have:=Bd (Ew hn) hel;subst this;rfl
     .rfl
    .rfl
 |slice t x lo hi mx=>
  rw[hc]at hm;dsimp only;cases hv:cm fr x with
  |none=>rfl
  |some v=>
   dsimp only;cases hn:rG v with
   |false=>rfl
   |true=>
    refine z5 ?_ (λp t=>yo g p (k t));have hsm:=hm x (by simp[Op.operands]) v hv;have hown:Mm v=[]:=by cases v<;>first|rfl|simp[rG]at hn
    rw[Dh rfl rfl,Dh rfl rfl];simp only[cn,hv];split
    .rename_i i a l1 l2 l3 _ ha _ _ _;cases ha;exact Sw i _ (λe=>AB hsm e) hown _ _ _
    .rfl
 |store=>rfl
 |alloc=>rfl
 |box=>rfl
 |panic=>rfl
 |makeMap=>rfl
 |mapUpdate=>rfl
 |insert=>rfl
 |makeSlice=>rfl
 |range=>rfl
 |next=>rfl
 |defer=>rfl
 |_=>
  have hos:=adg E.T o.op (by rw[hc];rfl) hm;rw[hc]at hop hos;dsimp only;have h2:=z5 (hop rfl) (λp t=>yo g p (k t));generalize hx:jc E.T fr s' _=x at hos;generalize hy:jc E.T fr s _=y at hos;cases x with
  |none=>cases y with|none=>exact h2|some y=>cases hos
  |some x=>cases y with
   |none=>cases hos
   |some y=>simp only[Xz,bf,bB]at hos;obtain⟨q1,q2,q3⟩:=hos;dsimp only;rw[q2,q3];exact IM k _ q1
end
section
def Kj(e j:Nat):(1 <<< e).testBit j=decide (e=j):=by rw[Nat.shiftLeft_eq,DX,Nat.testBit_two_pow]
def Iu(f:Nat->Nat)(j:Nat):∀(l:List Nat)(z:Nat),(l.foldl (λb e=>b||| (1 <<< e||| f e)) z).testBit j=(z.testBit j||l.any λe=>decide (e=j)||(f e).testBit j)
 |[],z=>by simp
 |e::l,z=>by rw[LD,Iu f j l];simp only[zh,Kj,List.any_cons,Bool.or_assoc]
def vw:∀(l:List Oper)(acc:List Nat)(i:Nat),i<acc.length->(Nw l acc).getD i 0=acc.getD i 0
 |[],_,_,_=>rfl
 |o::l,acc,i,h=>by rw[Nw,vw l _ i (by rw[jg];omega)];simp only[pQ,QZ h]
def any_eq{α:Type}{f g:α->Bool}:∀{l:List α},(∀e∈l,f e=g e)->l.any f=l.any g
 |[],_=>rfl
 |a::l,h=>by rw[List.any_cons,List.any_cons,h a eC,any_eq λe he=>h e (gL _ he)]
def RL:∀(l:List Oper)(acc:List Nat)(k:Nat)(o:Oper),l[k]?=some o->tJ l acc.length=true->∀j,
  ((Nw l acc).getD (acc.length+k) 0).testBit j=(wM o).any λe=>decide (e=j)||((Nw l acc).getD e 0).testBit j
 |[],acc,k,o,h,_,j=>by simp at h
 |p::l,acc,k,o,h,hb,j=>by
  simp only[tJ,eE]at hb;cases k with
  |zero=>simp only[sr,bf]at h;subst h;rw[Nw,vw _ _ _ (by rw[jg];simp)];simp only[Ec,pQ,VE (bT _),Nat.sub_self,sr,Jp];rw[Iu];simp only[Nat.zero_testBit,LM];refine any_eq λe he=>?_;have he':e<acc.length:=fQ (gr.1 hb.1 e he);have:=vw l (acc++[(wM p).foldl (λb e=>b||| (1 <<< e||| acc.getD e 0)) 0]) e (by rw[jg];omega);simp only[pQ,QZ he']at this ⊢;rw[this]
  |succ k=>rw[Nw];have:=RL l (acc++[(wM p).foldl (λb e=>b||| (1 <<< e||| acc.getD e 0)) 0]) k o (by simpa using h) (by simpa using hb.2) j;rw[jg,qC,show acc.length+1+k=acc.length+(k+1)by omega]at this;exact this
section
variable {ops:List Oper}
def Pre(ops:List Oper)(i j:Nat):Prop:=((vu ops).getD i 0).testBit j=true
variable {i d:Nat}{o:Oper}
def De(hb:tJ ops 0=true)(h:ops[i]?=some o)(j:Nat):Pre ops i j↔∃e∈wM o,e=j∨Pre ops e j:=by have:=RL ops [] i o h hb j;rw[AG,ju]at this;unfold Pre vu;rw[this,LW];simp only[lA,qA]
def Ae:∀{l:List Oper}{n:Nat},tJ l n=true->∀{k:Nat}{o:Oper},l[k]?=some o->∀e∈wM o,e<n+k
 |[],_,_,k,o,h,_,_=>by simp at h
 |p::l,n,hb,k,o,h,e,he=>by simp only[tJ,eE]at hb;cases k with|zero=>simp only[sr,bf]at h;subst h;exact fQ (gr.1 hb.1 e he)|succ k=>have:=Ae hb.2 (k:=k) (by simpa using h) e he;omega
def Oq(hb:tJ ops 0=true):∀{i:Nat}{o:Oper},ops[i]?=some o->∀j,Pre ops i j->j<i:=by
 intro i
 induction i using Nat.strongRecOn with
 |_ i ih=>
  intro o h j hp;obtain⟨e,he,WW⟩:=(De hb h j).1 hp;have hlt:=Ae hb h e he;rcases WW with rfl|WW
  .omega
  .have hei:e<ops.length:=by have:=(tW.1 h).1;omega
   have:=ih e (by omega) (gm hei) j WW;omega
def SP(hb:tJ ops 0=true):∀{i:Nat}{o:Oper},ops[i]?=some o->∀{j k:Nat},Pre ops i j->Pre ops j k->Pre ops i k:=by
 intro i
 induction i using Nat.strongRecOn with
 |_ i ih=>
  intro o h j k hp hq;obtain⟨e,he,WW⟩:=(De hb h j).1 hp;refine(De hb h k).2 ⟨e,he,.inr ?_⟩;rcases WW with rfl|WW
  .exact hq
  .have hlt:=Ae hb h e he;have hei:e<ops.length:=by have:=(tW.1 h).1;omega
   exact ih e (by omega) (gm hei) WW hq
def mu(hb:tJ ops 0=true){L:Nat->Prop}(hL:∀i o,ops[i]?=some o->L i->∀e∈wM o,L e):∀{i:Nat}{o:Oper},ops[i]?=some o->(∀e∈wM o,L e)->∀j,Pre ops i j->L j:=by
 intro i
 induction i using Nat.strongRecOn with
 |_ i ih=>
  intro o h hd j hp;obtain⟨e,he,WW⟩:=(De hb h j).1 hp;rcases WW with rfl|WW
  .exact hd _ he
  .have hlt:=Ae hb h e he;have hei:e<ops.length:=by have:=(tW.1 h).1;omega
   exact ih e (by omega) (gm hei) (hL e _ (gm hei) (hd e he)) j WW
def y5{a b:Nat}:Su a b=true↔∀j,a.testBit j=true->b.testBit j=true:=by
 unfold Su;constructor
 .intro h j hj;have h:a&&& b=a:=nT h;have:=nB (λn=>n.testBit j) h;simp only[Nat.testBit_and,hj,iL]at this;exact this
 .intro h;have:a&&& b=a:=Nat.eq_of_testBit_eq λj=>by rw[Nat.testBit_and];cases hj:a.testBit j with|false=>rfl|true=>rw[h j hj];rfl
  rw[this];simp
def qE(ops:List Oper):Uo:=ops.zipIdx.map λp=>(p.2,p.1)
def iP:(i,o)∈qE ops↔ops[i]?=some o:=by
 unfold qE;rw[zg];constructor
 .rintro ⟨⟨p,k⟩,hm,he⟩
  simp only[bB]at he;obtain⟨rfl,rfl⟩:=he;exact Jv.1 hm
 .intro h;exact⟨(o,i),Jv.2 h,rfl⟩
def sY(h:aa2 ops (vu ops)=true)(hi:ops[i]?=some o)(hd:o.dst=some d) :
  d<bA∧d∉tmpsOf o.op∧∀{j:Nat}{p:Oper},ops[j]?=some p->i≠j->p.dst≠some d∧(d∈tmpsOf p.op->Pre ops j i∨Pre ops i j):=by
 unfold aa2 at h;have h1:=gr.1 h (o,i) (Jv.2 hi);simp only[hd,eE]at h1;have aal:∀{p:Oper},d∈tmpsOf p.op->Lc p d=true:=by intro p hm;obtain⟨x,hx,Ik⟩:=wz.1 hm;refine LW.2 ⟨x,hx,?_⟩;cases x with|tmp k=>simp only[bf]at Ik;subst Ik;simp|_=>cases Ik
 refine⟨fQ h1.1,λhm=>?_,λ{j p}hj hne=>?_⟩
 .have h2:=gr.1 h1.2 (o,i) (Jv.2 hi);have e:Nat.beq i i=true:=by simp
  simp only[e,dM,aal hm]at h2;cases h2
 .have h2:=gr.1 h1.2 (p,j) (Jv.2 hj);have e:Nat.beq i j=false:=by cases hb:Nat.beq i j with|false=>rfl|true=>exact absurd (nT hb) hne
  simp only[e,gE,eE,lA]at h2;refine⟨λCO=>?_,λhm=>?_⟩
  .have h3:=h2.1;rw[CO]at h3;simp at h3
  .rcases h2.2 with h3|h3
   .rw[aal hm]at h3;cases h3
   .exact h3
def antiP(ops:List Oper)(i:Nat):Prop:=∃o,ops[i]?=some o∧∃d,o.dst=some d∧∃j p,ops[j]?=some p∧d∈tmpsOf p.op∧Pre ops i j
def XK(hi:ops[i]?=some o)(h:RQ ops (vu ops) i o=false):¬antiP ops i:=by
 rintro⟨o',ho',d,hd,j,p,hj,hm,hp⟩
 have:o=o':=eI (hi.symm.trans ho');subst this;unfold RQ at h;rw[hd]at h;have h1:=LX.1 h (p,j) (Jv.2 hj);have aal:Lc p d=true:=by obtain⟨x,hx,Ik⟩:=wz.1 hm;refine LW.2 ⟨x,hx,?_⟩;cases x with|tmp k=>simp only[bf]at Ik;subst Ik;simp|_=>cases Ik
 refine h1 ?_;simp only[aal,iL];exact hp
def W6(h:J1 ops (vu ops)=true)(hi:ops[i]?=some o)(hd:ni ops o=some d):∃j p,ops[j]?=some p∧p.dst=some d∧Pre ops i j:=by
 unfold J1 at h;have h1:=gr.1 h (o,i) (Jv.2 hi);unfold ni at hd;cases hg:o.guard with
 |none=>rw[hg]at hd;cases hd
 |some q=>obtain⟨j,want⟩:=q;simp only[hg]at hd h1;rw[jx,sq]at hd;obtain⟨p,hp,CO⟩:=hd;exact⟨j,p,hp,CO,h1⟩
def DB(h:acV ops=true)(hi:ops[i]?=some o):∀k∈tmpsOf o.op,k<bA:=by intro k hk;obtain⟨x,hx,Ik⟩:=wz.1 hk;have h1:=gr.1 h o (gW hi);have h2:=gr.1 h1 x hx;cases x with|tmp j=>simp only[bf]at Ik;subst Ik;exact fQ h2|_=>cases Ik
def XL{E:gA}{n:Nat}(h:PN E n ops=true)(hi:ops[i]?=some o)(ha:eH o=true):o.guard=none∧(∃t ti,o.op=.alloc t∧E.E.ti t=some ti)∧∀d,o.dst=some d->d<n:=by
 have h1:=gr.1 h o (gW hi);simp only[ha,dM,eE]at h1;unfold eH at ha;split at ha
 .rename_i t hop;rw[hop]at h1;have h2:(E.E.ti t).isSome=true:=h1.1;refine⟨by simpa using ha,⟨t,?_⟩,λd hd=>?_⟩
  .cases MH:E.E.ti t with
   |none=>rw[MH]at h2;cases h2
   |some ti=>exact⟨ti,hop,rfl⟩
  .have h3:=h1.2;rw[hd]at h3;exact fQ h3
 .cases ha
def HX(done:Nat):∀(l:Uo)(z j:Nat),(l.foldl (λb(i,o)=>bif eH o&&!(done.testBit i)then b||| 1 <<< i else b) z).testBit j=(z.testBit j||l.any λ(i,o)=>eH o&&!(done.testBit i)&&decide (i=j))
 |[],z,j=>by simp
 |(i,o)::l,z,j=>by rw[LD,HX done l,List.any_cons];cases h:(eH o&&!(done.testBit i))with|false=>simp only[h,gE,jr,LM]|true=>simp only[h,dM,zh,Kj,iL,Bool.or_assoc]
def ux(done j:Nat):(w4 (qE ops) done).testBit j=true↔∃o,ops[j]?=some o∧eH o=true∧done.testBit j=false:=by
 unfold w4;rw[HX,Nat.zero_testBit,LM,LW];constructor
 .rintro ⟨⟨i,o⟩,hm,h⟩
  simp only[eE,GL,qA]at h;obtain⟨⟨h1,h2⟩,rfl⟩:=h;exact⟨o,iP.1 hm,h1,h2⟩
 .rintro ⟨o,ho,h1,h2⟩
  exact⟨(j,o),iP.2 ho,by simp[h1,h2]⟩
end
end
section
structure Hz(g:Gh)(w0 w:World)(b:Nat)(z:Array Value):Prop where
 new:w0.heap.size<=b
 lt:b<w.heap.size
 bz:¬g.bz b
 own:∀o,¬bK g o b
 mem:∃ty,w.heap[b]?=some (.cells z ty (0,0))
section
variable {g g':Gh}{w0 w w':World}{b:Nat}{z:Array Value}
def Hz.Ax(h:Hz g w0 w b z){ow:List Nat}{s s':bq S}(ha:cN ow s g w s' g' w')(hfl:s.fl=0):Hz g' w0 w' b z:=by
 obtain⟨ty,hm⟩:=h.mem;refine⟨h.new,dy h.lt ha.ext.size,λhi=>?_,λo hO=>?_,ty,?_⟩
 .rcases ha.ext.uJ b hi with hi|hi|⟨o,_,hO⟩
  .exact h.bz hi
  .have:=h.lt;omega
  .exact h.own o hO
 .rcases ha.ext.own o b (by omega) hO with⟨o',_,yh⟩|hi
  .exact h.own o' yh
  .have:=h.lt;omega
 .rw[ha.ext.heap b h.lt λo _=>h.own o];exact hm
def bg.XM{s:St}(hs:bg g s w)(hn:s.aH<bA)(hf:Hz g w0 w b z){cs:List T}(hl:cs.length=z.size)
  (hr:∀(j:Nat)(t:T)(v:Value),cs[j]?=some t->z[j]?=some v->aJ g w t v) :
  bg (g.dj s.aH b) (ec s (.box cs)).2 w∧oh g (g.dj s.aH b)∧(∀k c,bK (g.dj s.aH b) k c->bK g k c∨(k=s.aH∧c=b)):=by
 have hnone:=hs.ak s.aH (bT _);have hold:∀o c,g.cj o=some c->(g.dj s.aH b).cj o=some c:=λo c h=>by
  have:o≠s.aH:=λe=>by rw[e,hnone.1]at h;cases h
  simp[Gh.dj,this,h]
 have hle:oh g (g.dj s.aH b):=⟨hold,λ_ _ _ h=>h,λ_ h=>h⟩;have hown:∀k c,bK (g.dj s.aH b) k c->bK g k c∨(k=s.aH∧c=b):=by
  rintro o c ⟨h1,h2|h2⟩
  .by_cases ho:o=s.aH
   .subst ho;simp[Gh.dj]at h2;exact .inr ⟨rfl,h2.symm⟩
   .simp[Gh.dj,ho]at h2;exact .inl ⟨h1,.inl h2⟩
  .exact .inl ⟨h1,.inr h2⟩
 obtain⟨ty,hm⟩:=hf.mem;refine⟨⟨by simp only[ec];omega,λo ho=>?_,λo c hb=>?_,λo e x hx=>?_,hs.bz,λo o' c h h'=>?_⟩,hle,hown⟩
 .simp only[ec]at ho;have h1:o≠s.aH:=by omega
  simp only[Gh.dj,h1,eO];exact hs.ak o (by omega)
 .by_cases ho:o=s.aH
  .subst ho;have hbe:c=b:=by simp[Gh.dj]at hb;exact hb.symm
   subst hbe;refine⟨hf.bz,hf.lt,λob cB=>⟨_,hm,?_⟩⟩;simp only[ec]at cB;rw[Tr.aT _ _ _ _ hn,bL rfl]at cB;obtain rfl:=eI cB;exact .box cs z ty hl λj t v ht hv=>(hr j t v ht hv).le hle
  .have hb':g.cj o=some c:=by simpa[Gh.dj,ho]using hb
   exact(hs.box o c hb').le hle rfl (by simp only[ec];rw[Tr.aT _ _ _ _ hn,bw ho])
 .have hx':g.arr o e=some x:=hx;have ho:o≠s.aH:=λh=>by rw[h,hnone.2 e]at hx';cases hx'
  exact(hs.arr o e x hx').le rfl (by simp only[ec];rw[Tr.aT _ _ _ _ hn,bw ho]) (λ_ _ _ h=>h) (λ_=>rfl)
 .rcases hown o c h with h1|⟨h1,h3⟩<;>rcases hown o' c h' with h2|⟨h2,h4⟩
  .exact hs.mj o o' c h1 h2
  .subst h4;exact absurd h1 (hf.own o)
  .subst h3;exact absurd h2 (hf.own o')
  .rw[h1,h2]
def Hz.keep{o c:Nat}{zc:Array Value}(h:Hz g w0 w b z)(hc:Hz g w0 w c zc)(hne:b≠c)(hle:∀k e,bK (g.dj o c) k e->bK g k e∨(k=o∧e=c)):Hz (g.dj o c) w0 w b z:=
 ⟨h.new,h.lt,h.bz,λk hO=>by
  rcases hle k b hO with hO|⟨_,rfl⟩
  .exact h.own k hO
  .exact hne rfl,h.mem⟩
end
def YG(E:gA)(g:Gh)(w0 w:World)(a:Act)(o:Oper)(b:Nat):Prop:=
 ∀t ti d,o.op=.alloc t->E.E.ti t=some ti->o.dst=some d->∃z,a.tmps[d]?=some (.pointer (some ⟨b,0,none⟩))∧Hz g w0 w b z∧ZOk ti.zero z
structure Adp(E:gA)(which:Nat)(l:Uo)(fr:bV S)(s:bq S)(g:Gh)(w:World)(a:Act)(fr':bV S)(s':bq S)(g':Gh):Prop where
 rel:bg g' (aF s') w
 le:oh g g'
 bz:g'.bz=g.bz
 fl:s'.fl=s.fl
 lo:s'.lo=s.lo
 wr:s'.wr=s.wr
 dr:s'.dr=s.dr
 aH:s.aH<=s'.aH
 ob:∀o,o<s.aH->s'.ob.get o=s.ob.get o
 n:fr'.n=fr.n
 Kb:fr'.df=fr.df
 old:∀k,(∀p∈l,which.testBit p.1=true->p.2.dst≠some k)->fr'.get k=fr.get k
 new:∀k,(∃p∈l,which.testBit p.1=true∧p.2.dst=some k)->∀t,fr'.get k=some t->∃v,a.tmps[k]?=some v∧aJ g' w (low t) v
 own:∀k b,bK g' k b->bK g k b∨∃p∈l,which.testBit p.1=true∧∃d,p.2.dst=some d∧a.tmps[d]?=some (.pointer (some ⟨b,0,none⟩))
 aa1:∀p∈l,which.testBit p.1=true->∃t ti d,p.2.op=.alloc t∧E.E.ti t=some ti∧p.2.dst=some d∧d<fr.n
def ND{E:gA}{which:Nat}{w0 w:World}{a:Act}{bl:Nat->Nat}:∀{l:Uo}{fr fr':bV S}{s s':bq S}{g:Gh},tN E which l fr s=some (fr',s')->fr.n<=bA->bg g (aF s) w->
  (∀p∈l,which.testBit p.1=true->YG E g w0 w a p.2 (bl p.1))->(l.map (·.1)).Nodup->(∀p∈l,∀q∈l,which.testBit p.1=true->which.testBit q.1=true->p.1≠q.1->bl p.1≠bl q.1)->
  (∀p∈l,∀q∈l,p.1≠q.1->∀d,p.2.dst=some d->q.2.dst≠some d)->∃g',Adp E which l fr s g w a fr' s' g':=by
 intro l
 induction l with
 |nil=>intro fr fr' s s' g h _ hs _ _ _ _;simp only[tN,bf,bB]at h;obtain⟨rfl,rfl⟩:=h;exact⟨g,hs,oh.refl _,rfl,rfl,rfl,rfl,rfl,bT _,λ_ _=>rfl,rfl,rfl,λ_ _=>rfl,λk⟨p,hp,_⟩=>by(cases hp),λ_ _ h=>.inl h,λp hp=>by(cases hp)⟩
 |cons p l ih=>
  intro fr fr' s s' g h hn hs he l5 qf hds;obtain⟨i,o⟩:=p;simp only[tN]at h;rw[lZ,List.nodup_cons]at l5;have ahZ:∀q∈l,i≠q.1:=λq hq e=>l5.1 (zg.2 ⟨q,hq,e.symm⟩);rcases af h with⟨hw,h1⟩|⟨hw,h1⟩
  .clear h;split at h1
   .rename_i t d hop O8;split at h1
    .rename_i ti MH;rcases af h1 with⟨hb,h⟩|⟨_,h⟩;rotate_left
     .cases h
     rw[eE]at hb;have hn':s.aH<bA:=fQ hb.1;have hd':d<fr.n:=fQ hb.2;obtain⟨z,YY,hfree,hz⟩:=he (i,o) eC hw t ti d hop MH O8;obtain⟨z1,z2⟩:=qV (g:=g) (w:=w) hz;obtain⟨fq,aot,abR⟩:=hs.XM hn' hfree z1 z2;have adO:bg (g.dj s.aH (bl i)) (aF (dn s (.box (ti.zero.map zeroV)))) w:=by rw[gu];simp only[cQ,mh];exact fq
     have hE:∀q∈l,which.testBit q.1=true->YG E (g.dj s.aH (bl i)) w0 w a q.2 (bl q.1):=by intro q hq hw' t' ti' d' q1 q2 q3;obtain⟨z',r1,r2,r3⟩:=he q (gL _ hq) hw' t' ti' d' q1 q2 q3;exact⟨z',r1,r2.keep hfree (qf q (gL _ hq) (i,o) eC hw' hw (λe=>ahZ q hq e.symm)) abR,r3⟩
     obtain⟨g',k⟩:=ih h (by exact hn) adO hE l5.2 (λq hq r hr=>qf q (gL _ hq) r (gL _ hr)) (λq hq r hr=>hds q (gL _ hq) r (gL _ hr))
     .have MN:∀q∈l,which.testBit q.1=true->q.2.dst≠some d:=λq hq _=>hds (i,o) eC q (gL _ hq) (ahZ q hq) d O8;refine⟨g',k.rel,aot.trans k.le,k.bz,k.fl,k.lo,k.wr,k.dr,fS (Eb _) k.aH,λj hj=>?_,k.n,k.Kb,λj hj=>?_,λj⟨q,hq,N4,GY⟩t' ht'=>?_,λj c hO=>?_,λq hq N4=>?_⟩
      .rw[k.ob j (Nat.lt_succ_of_lt hj)];simp only[dn];rw[Tr.aT _ _ _ _ hn',bw (by omega)]
      .rw[k.old j (λq hq=>hj q (gL _ hq)),bV.iR _ _ _ _ (dy hd' hn),bw];intro e;subst e;exact hj (i,o) eC hw O8
      .rcases fc.1 hq with rfl|hq
       .have hjd:j=d:=by have GY:o.dst=some j:=GY;rw[O8]at GY;exact(eI GY).symm
        subst hjd;rw[k.old j MN,bV.iR _ _ _ _ (dy hd' hn),bL rfl]at ht';cases ht';refine⟨_,YY,?_⟩;simp only[low];exact .ptr _ _ _ (k.le.cj _ _ (by simp[Gh.dj]))
       .exact k.new j ⟨q,hq,N4,GY⟩ t' ht'
      .rcases k.own j c hO with hO|⟨q,hq,N4,GY⟩
       .rcases abR j c hO with hO|⟨_,rfl⟩
        .exact .inl hO
        .exact .inr ⟨(i,o),eC,hw,d,O8,YY⟩
       .exact .inr ⟨q,gL _ hq,N4,GY⟩
      .rcases fc.1 hq with rfl|hq
       .exact ⟨t,ti,d,hop,MH,O8,hd'⟩
       .exact k.aa1 q hq N4
    .cases h1
   .cases h1
  .obtain ⟨g',k⟩:=ih h1 hn hs (λq hq=>he q (gL _ hq)) l5.2 (λq hq r hr=>qf q (gL _ hq) r (gL _ hr)) (λq hq r hr=>hds q (gL _ hq) r (gL _ hr));have hnw:∀q∈(i,o)::l,which.testBit q.1=true->q∈l:=λq hq N4=>by
    rcases fc.1 hq with rfl|hq
    .rw[hw]at N4;cases N4
    .exact hq
   refine⟨g',k.rel,k.le,k.bz,k.fl,k.lo,k.wr,k.dr,k.aH,k.ob,k.n,k.Kb,λj hj=>k.old j λq hq=>hj q (gL _ hq),λj⟨q,hq,N4,GY⟩=>k.new j ⟨q,hnw q hq N4,N4,GY⟩,λj c hO=>(k.own j c hO).imp id λ⟨q,hq,h⟩=>⟨q,gL _ hq,h⟩,λq hq N4=>k.aa1 q (hnw q hq N4) N4⟩
end
section
def mb(listed:Array Bool)(i:Nat):Prop:=listed.getD i false=true
def Dw(E:ga S)(ops:List Oper)(fr:bV S)(s:bq S)(o:Oper):Prop:=
 fX fr o.dst=true∧((tD ops fr o=true∧∀d,o.dst=some d->∀t',fr.get d=some t'->t'=ff)∨(gY ops fr o=some none∧∃t,ez E none fr s o some=some t∧∀d,o.dst=some d->∀t',fr.get d=some t'->X5 t t')∨
  ∃c,gY ops fr o=some (some c)∧J2 c fr o.op=true∧∃t,ez E (some c) (nk fr o.op) s o some=some t∧∀d,o.dst=some d->∀t',fr.get d=some t'->t'=.gd c t)
variable {s':bq S}{o:Oper}{k i:Nat}
def Er{p:Nat->Bool}{fr:bV S}{s:bq S}{o:Op}(h:jo p fr o=false)(hs:∀x,p x=false->s'.ob.get x=s.ob.get x):∀x∈o.operands.toList,∀v,cm fr x=some v->Sm s s' v:=by
 intro x hx v hv j hj;apply hs;have h1:cC p v=false:=by unfold jo at h;have:=LX.1 h x hx;rw[hv]at this;simpa using this
 cases hp:p j with|false=>rfl|true=>have:=ep (p:=Nat.beq j) (q:=p) (λy hy=>by rw[<-nT hy];exact hp) v hj;rw[h1]at this;cases this
def zS(E:ga S)(g:Option Bool){fr:bV S}(o:Oper)(s s':bq S){ω:Type}(k:V S->Option ω)(hp:Mh o.op=true):ez E g fr s o k=ez E g fr s' o k:=by
 unfold ez;cases hc:o.op with
 |move x=>simp only[jc,zu,AN,cn];cases cm fr x<;>simp[rC]
 |assign x=>simp only[jc,zu,AN,cn];cases cm fr x<;>simp[rC]
 |nilCheck x=>
  simp only[jc,zu,AN,cn];cases h:cm fr x with
  |none=>simp[rC,h]
  |some v=>
   cases v with
   |ty t y=>cases t<;>simp[rC,h]
   |fn f a b=>cases f<;>simp[rC,h]
   |_=>simp[rC,h]
 |fieldAddr t x n=>
  simp only[jc,zu,AN,cn];cases E.T.E.ti t with
  |none=>simp[rC]
  |some ti=>
   cases cm fr x with
   |none=>simp[rC]
   |some v=>
    simp only[o7];cases ti.kd with
    |struct fs=>
     dsimp only;cases nth fs n with
     |none=>simp[rC]
     |some q=>
      obtain⟨off,size,ag⟩:=q;dsimp only;cases Nat.beq size 0 with|true=>simp[rC]|false=>cases v<;>simp[rC]
    |_=>simp[rC]
 |_=>simp[hc,Mh]at hp
def Dw.move{E:ga S}{ops:List Oper}{fr fr':bV S}{s:bq S}(h:Dw E ops fr s o)(hn:fr'.n=fr.n)(hb:∀k∈tmpsOf o.op,k<bA)(ht:∀k∈tmpsOf o.op,fr'.get k=fr.get k)(hg:∀k,ni ops o=some k->fr'.get k=fr.get k)
  (hd:∀d,o.dst=some d->∀t,fr'.get d=some t->fr.get d=some t) {p:Nat->Bool}
  (hs:s'=s∨(jo p fr o.op=false∧jo p (nk fr o.op) o.op=false∧∀x,p x=false->s'.ob.get x=s.ob.get x)∨Mh o.op=true):Dw E ops fr' s' o:=by
 obtain⟨h0,h⟩:=h;have e1:gY ops fr' o=gY ops fr o:=n7 hg;refine⟨by cases l8:o.dst<;>simp only[l8,fX,hn]at h0 ⊢;exact h0,?_⟩;rcases h with⟨h1,h3⟩|⟨h1,t,h2,h3⟩|⟨c,h1,h4,t,h2,h3⟩
 .exact .inl ⟨(pY hg).trans h1,λd l8 t' ht'=>h3 d l8 t' (hd d l8 t' ht')⟩
 .refine .inr (.inl ⟨e1.trans h1,t,?_,λd l8 t' ht'=>h3 d l8 t' (hd d l8 t' ht')⟩);rw[gZ E none o s' some (iH ht)];rcases hs with rfl|⟨hm,_,hs⟩|hp
  .exact h2
  .rw[E9 E none o some (Er hm hs)];exact h2
  .rw[zS E none o s' s some hp];exact h2
 .refine .inr (.inr ⟨c,e1.trans h1,by rw[sP c ht];exact h4,t,?_,λd l8 t' ht'=>h3 d l8 t' (hd d l8 t' ht')⟩);rw[gZ E (some c) o s' some (iH (qg hb ht))];rcases hs with rfl|⟨_,hm,hs⟩|hp
  .exact h2
  .rw[E9 E (some c) o some (Er hm hs)];exact h2
  .rw[zS E (some c) o s' s some hp];exact h2
structure xE(E:ga S)(ops:Array Oper)(n:Nat):Prop where
 bk:tJ ops.toList 0=true
 ds:aa2 ops.toList (vu ops.toList)=true
 gd:J1 ops.toList (vu ops.toList)=true
 us:acV ops.toList=true
 al:PN E.T n ops.toList=true
def At(ops:Array Oper)(i:Nat)(o:Oper):Prop:=ops.toList[i]?=some o
structure qP(E:ga S)(ops:Array Oper)(jF:bV S)(s0:bq S)(g0:Gh)(w0:World)(done:Nat)(fr:bV S)(s:bq S)(bl:Nat->Nat)(listed:Array Bool)(g:Gh)(a:Act)(w:World):Prop where
 JF:listed.size=ops.size
 n:fr.n=jF.n
 nb:fr.n<=bA
 T4:a.tmps.size=fr.n
 df:j9 g w (bx fr).df a.defers
 tm:∀k t,fr.get k=some t->(∀i o,At ops i o->o.dst=some k->(mb listed i↔done.testBit i=true))->∃v,a.tmps[k]?=some v∧aJ g w (low t) v
 Tb:∀i o,At ops i o->mb listed i->∀e∈wM o,mb listed e
 Xx:∀i o,At ops i o->done.testBit i=true->∀j,Pre ops.toList i j->done.testBit j=true
 ld:∀i o,At ops i o->mb listed i->done.testBit i=true∨eH o=true
 fo:∀i o,At ops i o->done.testBit i=true->¬mb listed i->eH o=false∧Dw E ops.toList fr s o
 ea:∀i o,At ops i o->mb listed i->done.testBit i=false->YG E.T g w0 w a o (bl i)∧bl i<w.heap.size
 eb:∀i j,mb listed i->mb listed j->done.testBit i=false->done.testBit j=false->i≠j->i<ops.size->j<ops.size->bl i≠bl j
 Ax:fA s0 g0 w0 s g w
 fk:eK (ops.toList.filterMap (·.dst)) jF fr s.dr s0.aH
 fl:s.fl=0
 an:∀j,antiP ops.toList j->done.testBit j=true->mb listed j
structure Sf(E:ga S)(ops:Array Oper)(jF:bV S)(s0:bq S)(g0:Gh)(w0:World)(done:Nat)(fr:bV S)(s:bq S)(listed:Array Bool)(g:Gh)(a:Act)(w:World):Prop where
 n:fr.n=jF.n
 nb:fr.n<=bA
 T4:a.tmps.size=fr.n
 df:j9 g w (bx fr).df a.defers
 tm:∀k t,fr.get k=some t->(∀i o,At ops i o->o.dst=some k->(mb listed i↔done.testBit i=true))->∃v,a.tmps[k]?=some v∧aJ g w (low t) v
 Xx:∀i o,At ops i o->done.testBit i=true->∀j,Pre ops.toList i j->done.testBit j=true
 Ax:fA s0 g0 w0 s g w
section
variable {E:ga S}{ops:Array Oper}{jF:bV S}{s0:bq S}{g0:Gh}{w0:World}{done:Nat}{fr:bV S}{s:bq S}{bl:Nat->Nat}{listed:Array Bool}{g:Gh}{a:Act}{w:World}
def Dd(fr:bV S)(d:Option Nat)(t:V S):(fr.ij d t).df=fr.df:=by cases d<;>rfl
theorem ED(fr:bV S):(bx fr).df=fr.df.map rH:=rfl
def n8(done i j:Nat):(done||| 1 <<< i).testBit j=true↔done.testBit j=true∨i=j:=by rw[zh,Kj,lA,qA]
def Is{d:Option Nat}{t:V S}(h:fX fr d=true)(hn:fr.n<=bA):(fr.ij d t).get k=if d=some k then some t else fr.get k:=by
 cases d with
 |none=>simp[bV.ij]
 |some d=>
  have h:d<fr.n:=fQ h;simp only[bV.ij];rw[bV.iR _ _ _ _ (by omega)];by_cases hk:k=d
  .subst hk;simp
  .rw[bw hk,bw (by simpa using λe=>hk e.symm)]
def I3(hst:xE E ops jF.n)(ho:At ops i o)(hk:k∈tmpsOf o.op∨ni ops.toList o=some k){j:Nat}{p:Oper}(hp:At ops j p)(hd:p.dst=some k):i≠j∧(Pre ops.toList i j∨(Pre ops.toList j i∧antiP ops.toList j)):=by
 obtain⟨_,h2,h3⟩:=sY hst.ds hp hd;rcases hk with hk|hk
 .have hne:i≠j:=by
   rintro rfl
   have:o=p:=eI (ho.symm.trans hp);subst this;exact h2 hk
  exact⟨hne,((h3 ho (Ne.symm hne)).2 hk).imp id λh=>⟨h,p,hp,k,hd,i,o,ho,hk,h⟩⟩
 .obtain ⟨j',p',hp',hd',hpre⟩:=W6 hst.gd ho hk;have hjj:j=j':=VC λhne=>(h3 hp' hne).1 hd';subst hjj;refine⟨λe=>?_,.inl hpre⟩;subst e;exact absurd (Oq hst.bk ho _ hpre) (Nat.lt_irrefl _)
def qP.float(hst:xE E ops jF.n)(h:qP E ops jF s0 g0 w0 done fr s bl listed g a w)(ho:At ops i o)(l5:done.testBit i=false)(hna:eH o=false)(han:¬antiP ops.toList i)(hpre:∀j,Pre ops.toList i j->done.testBit j=true)
  (hd:fX fr o.dst=true) {t:V S} (hf:(tD ops.toList fr o=true∧t=ff)∨(gY ops.toList fr o=some none∧∃t0,ez E none fr s o some=some t0∧X5 t0 t)∨∃c t1,gY ops.toList fr o=some (some c)∧J2 c fr o.op=true∧ez E (some c) (nk fr o.op) s o some=some t1∧t=.gd c t1) :
  qP E ops jF s0 g0 w0 (done||| 1 <<< i) (fr.ij o.dst t) s bl listed g a w:=by
 have cJ:∀k,(fr.ij o.dst t).get k=if o.dst=some k then some t else fr.get k:=λk=>Is hd h.nb
 have hnl:¬mb listed i:=λhl=>by
  rcases h.ld i o ho hl with h1|h1
  .rw[l5]at h1;cases h1
  .rw[hna]at h1;cases h1
 have WC:(fr.ij o.dst t).n=fr.n:=by cases o.dst<;>rfl
 have hsame:∀{j:Nat}{p:Oper},At ops j p->(j=i∨¬Pre ops.toList j i)->∀k,k∈tmpsOf p.op∨ni ops.toList p=some k->(fr.ij o.dst t).get k=fr.get k:=by
  intro j p hp hj k hk;rw[cJ,bw];intro hdk;obtain⟨h1,h2⟩:=I3 hst hp hk ho hdk;rcases hj with rfl|hj
  .exact h1 rfl
  .exact h2.elim hj λh=>han h.2
 refine⟨h.JF,WC.trans h.n,by rw[WC];exact h.nb,by rw[WC];exact h.T4,by rw[ED,Dd];exact h.df,λk t' hk hc=>?_,h.Tb,λj p hp hj m hm=>?_,λj p hp hl=>?_,λj p hp hj hl=>?_,λj p hp hl hj=>?_,λj m hj hm h1 h2=>?_,h.Ax,?_,h.fl,λj ha hj=>?_⟩
 .have hdk:o.dst≠some k:=λe=>hnl ((hc i o ho e).2 ((n8 done i i).2 (.inr rfl)));rw[cJ,bw hdk]at hk;refine h.tm k t' hk λj p hp CO=>?_;have hij:i≠j:=by
   rintro rfl
   have:o=p:=eI (ho.symm.trans hp);subst this;exact absurd CO hdk
  exact(hc j p hp CO).trans ((n8 done i j).trans ⟨λh=>h.resolve_right hij,.inl⟩)
 .rw[n8]at hj ⊢;rcases hj with hj|rfl
  .exact .inl (h.Xx j p hp hj m hm)
  .exact .inl (hpre m hm)
 .rw[n8];exact(h.ld j p hp hl).imp .inl id
 .rw[n8]at hj;rcases hj with hj|rfl
  .obtain ⟨h1,h2⟩:=h.fo j p hp hj hl;have hnp:¬Pre ops.toList j i:=λhpr=>by have:=h.Xx j p hp hj i hpr;rw[l5]at this;cases this
   refine⟨h1,h2.move WC (DB hst.us hp) (λk hk=>hsame hp (.inr hnp) k (.inl hk)) (λk hk=>hsame hp (.inr hnp) k (.inr hk)) (λd CO t' ht'=>?_) (p:=λ_=>false) (.inl rfl)⟩;rw[cJ,bw]at ht'
   .exact ht'
   .intro l8;have hij:i≠j:=λe=>by subst e;rw[l5]at hj;cases hj
    exact((sY hst.ds ho l8).2.2 hp hij).1 CO
  .have:o=p:=eI (ho.symm.trans hp);subst this;have hu:=DB hst.us ho;have ht:∀k∈tmpsOf o.op,(fr.ij o.dst t).get k=fr.get k:=λk hk=>hsame ho (.inl rfl) k (.inl hk);have hgd:gY ops.toList (fr.ij o.dst t) o=gY ops.toList fr o:=n7 λk hk=>hsame ho (.inl rfl) k (.inr hk);refine⟨hna,by cases l8:o.dst<;>simp only[l8,fX,bV.ij,bV.put]at hd ⊢;exact hd,?_⟩;rcases hf with⟨f1,rfl⟩|⟨f1,t0,f2,f3⟩|⟨c,t1,f1,f2,f3,rfl⟩
   .refine .inl ⟨(pY λk hk=>hsame ho (.inl rfl) k (.inr hk)).trans f1,λd l8 t' ht'=>?_⟩;rw[cJ,bL l8]at ht';exact(eI ht').symm
   .refine .inr (.inl ⟨hgd.trans f1,t0,by rw[gZ E none o s some (iH ht)];exact f2,λd l8 t' ht'=>?_⟩);rw[cJ,bL l8]at ht';rw[<-eI ht'];exact f3
   .refine .inr (.inr ⟨c,hgd.trans f1,by rw[sP c ht];exact f2,t1,by rw[gZ E (some c) o s some (iH (qg hu ht))];exact f3,λd l8 t' ht'=>?_⟩);rw[cJ,bL l8]at ht';exact(eI ht').symm
 .have hj':done.testBit j=false:=by cases uP:done.testBit j with|false=>rfl|true=>have:=(n8 done i j).2 (.inl uP);rw[hj]at this;cases this
  exact h.ea j p hp hl hj'
 .have hd':∀j,(done||| 1 <<< i).testBit j=false->done.testBit j=false:=λj hj=>by cases uP:done.testBit j with|false=>rfl|true=>have:=(n8 done i j).2 (.inl uP);rw[hj]at this;cases this
  exact h.eb j m hj hm (hd' j h1) (hd' m h2)
 .refine ⟨λk v hk hv=>?_,by rw[Dd];exact h.fk.df⟩;rcases h.fk.tm k v hk hv with h1|h1
  .left
   rw[cJ,bw]
   .exact h1
   .intro l8;exact hk (wz.2 ⟨o,gW ho,l8⟩)
  .exact .inr h1
 .rcases (n8 done i j).1 hj with hj|rfl
  .exact h.an j ha hj
  .exact absurd ha han
end
end
section
variable {i k:Nat}{o:Oper}{dst:Option Tmp}{v:Value}{g':Gh}{w':World}
def eT{listed:Array Bool}{j:Nat}(hi:i<listed.size):mb (listed.setIfInBounds i true) j↔mb listed j∨i=j:=by
 unfold mb;by_cases h:i=j
 .subst h;simp[hi]
 .rw[getD_set_ne false h];simp[h]
section
variable {E:ga S}{ops:Array Oper}{jF:bV S}{s0:bq S}{g0:Gh}{w0:World}{done:Nat}{fr:bV S}{s:bq S}{bl:Nat->Nat}{listed:Array Bool}{g:Gh}{a:Act}{w:World}
def tK(h:At ops i o):i<ops.size:=by have:=(tW.1 h).1;simpa using this
def FL(h:At ops i o):ops[i]?=some o:=by unfold At at h;simpa using h
def sE:∀t:T,dD [] t=false:=by
 intro t
 induction t using T.rec (motive_2:=λl=>iO [] l=false)with|fn f a b JR ihb=>simp[dD,JR,ihb]|cR t v ih=>simp[dD,ih]|agg cs ih=>simp[dD,ih]|gq cs ih=>simp[dD,ih]|gd c v ih=>simp[dD,ih]|nil=>rfl|cons a l JR ihl=>simp[iO,JR,ihl]|_=>simp[dD]
def dead(ops:List Oper)(done:Nat)(listed:Array Bool):List Nat:=ops.zipIdx.filterMap λ(o,i)=>if listed.getD i false=done.testBit i then none else o.dst
def Ez:k∈dead ops.toList done listed↔∃i o,At ops i o∧o.dst=some k∧¬(mb listed i↔done.testBit i=true):=by
 have hb:∀i,(listed.getD i false=done.testBit i)↔(mb listed i↔done.testBit i=true):=λi=>by unfold mb;cases listed.getD i false<;>cases done.testBit i<;>simp
 unfold dead;rw[wz];constructor
 .rintro ⟨⟨o,i⟩,hm,h⟩
  dsimp only at h;split at h
  .cases h
  .rename_i hc;exact⟨i,o,Jv.1 hm,h,λhh=>hc ((hb i).2 hh)⟩
 .rintro ⟨i,o,hi,hd,hc⟩
  refine⟨(o,i),Jv.2 hi,?_⟩;dsimp only;rw[bw λhh=>hc ((hb i).1 hh)];exact hd
def rfr(ks:List Nat)(fr:bV S):bV S:={fr with tm:=ks.foldl (λt k=>t.del aI k) fr.tm}
def qP.core(h:qP E ops jF s0 g0 w0 done fr s bl listed g a w):Sf E ops jF s0 g0 w0 done fr s listed g a w:=⟨h.n,h.nb,h.T4,h.df,h.tm,h.Xx,h.Ax⟩
def Sf.aiz(hst:xE E ops jF.n)(h:Sf E ops jF s0 g0 w0 done fr s listed g a w):cE g (bx (rfr (dead ops.toList done listed) fr)) a w∧(rfr (dead ops.toList done listed) fr).n=fr.n∧
  ∀{i:Nat}{o:Oper},At ops i o->(∀j,Pre ops.toList i j->mb listed j∧done.testBit j=true)->(∀j,antiP ops.toList j->Pre ops.toList j i->¬mb listed j∧done.testBit j=false)->∀k,k∈tmpsOf o.op∨ni ops.toList o=some k->fr.get k=(rfr (dead ops.toList done listed) fr).get k:=by
 have cJ:∀k,(rfr (dead ops.toList done listed) fr).get k=if k∈dead ops.toList done listed then none else fr.get k:=λk=>Tr.rM _ _ _ λb hb=>by obtain⟨i,o,hi,hd,_⟩:=Ez.1 hb;exact(sY hst.ds hi hd).1
 refine⟨⟨h.T4,h.df,λk t hk=>?_⟩,rfl,λ{i o}ho hp hq k hk=>?_⟩
 .rw[bO,eA]at hk;obtain⟨v,hv,rfl⟩:=hk;rw[cJ]at hv;split at hv
  .cases hv
  .rename_i l5;exact h.tm k v hv λi o hi hd=>VC λhc=>l5 (Ez.2 ⟨i,o,hi,hd,hc⟩)
 .rw[cJ,bw];intro hm;obtain⟨j,p,hj,hd,hc⟩:=Ez.1 hm;rcases(I3 hst ho hk hj hd).2 with h1|⟨h1,h2⟩
  .exact hc ⟨λ_=>(hp j h1).2,λ_=>(hp j h1).1⟩
  .obtain ⟨h3,h4⟩:=hq j h2 h1;exact hc ⟨λh=>absurd h h3,λh=>by rw[h4]at h;cases h⟩
def wm{a:Act}(h:dst≠some k):(a.put dst v).tmps[k]?=a.tmps[k]?:=by cases dst with|none=>rfl|some d=>have:d≠k:=λe=>h (by rw[e]);simp[Act.put,VF this]
def Eg{a:Act}{d:Nat}(h:d<a.tmps.size):(a.put (some d) v).tmps[d]?=some v:=by simp[Act.put,h]
def ry{a:Act}:(a.put dst v).tmps.size=a.tmps.size∧(a.put dst v).defers=a.defers:=by cases dst<;>simp[Act.put]
def cN.Kb{s s':bq S}{g:Gh}{w:World}(h:cN [] s g w s' g' w'){l:List Df}{m:List Deferred}(hd:j9 g w l m):j9 g' w' l m:=
 hd.imp (λt v ht=>h.tr t v ht (sE t)) λo b hb=>by have:=h.tr _ _ (.ptr o 0 b hb) (sE _);cases this with|ptr _ _ _ hb'=>exact hb'
def qP.meet(hst:xE E ops jF.n)(h:qP E ops jF s0 g0 w0 done fr s bl listed g a w)(ho:At ops i o)(hd:done.testBit i=true)(hl:∀e∈wM o,mb listed e)(hok:fX fr o.dst=true)
  (ha:cN [] s g w s g' w') (hv:∀d,o.dst=some d->∀t,fr.get d=some t->aJ g' w' (low t) v):qP E ops jF s0 g0 w0 done fr s bl (listed.setIfInBounds i true) g' (a.put o.dst v) w':=by
 have hi:i<listed.size:=by rw[h.JF];exact tK ho
 have hne:∀{j:Nat}{p:Oper}{k:Nat},At ops j p->j≠i->p.dst=some k->o.dst≠some k:=λhp hne CO l8=>((sY hst.ds ho l8).2.2 hp (Ne.symm hne)).1 CO;refine⟨by simpa using h.JF,h.n,h.nb,ry.1.trans h.T4,by rw[ry.2];exact ha.Kb h.df,λk t hk hc=>?_,λj p hp hj e he=>?_,h.Xx,λj p hp hj=>?_,λj p hp hj hn=>?_,λj p hp hj hn=>?_,λj m hj hm h1 h2=>?_,h.Ax.trans ha.toW,h.fk,h.fl,λj ha hj=>(eT hi).2 (.inl (h.an j ha hj))⟩
 .by_cases l8:o.dst=some k
  .have hk':k<fr.n:=by rw[l8]at hok;exact fQ hok
   exact⟨v,by rw[l8];exact Eg (by rw[h.T4];exact hk'),hv k l8 t hk⟩
  .obtain ⟨u,hu,ht⟩:=h.tm k t hk λj p hp CO=>by have h1:=hc j p hp CO;rw[eT hi]at h1;refine Iff.trans ⟨.inl,λh=>h.elim id λe=>?_⟩ h1;subst e;have:o=p:=eI (ho.symm.trans hp);subst this;exact absurd CO l8
   exact⟨u,by rw[wm l8];exact hu,ha.tr _ _ ht (sE _)⟩
 .rw[eT hi]at hj ⊢;rcases hj with hj|rfl
  .exact .inl (h.Tb j p hp hj e he)
  .have:o=p:=eI (ho.symm.trans hp);subst this;exact .inl (hl e he)
 .rw[eT hi]at hj;rcases hj with hj|rfl
  .exact h.ld j p hp hj
  .exact .inl hd
 .exact h.fo j p hp hj λhl=>hn ((eT hi).2 (.inl hl))
 .rw[eT hi]at hj;have hij:j≠i:=λe=>by subst e;rw[hd]at hn;cases hn
  have hj:mb listed j:=hj.elim id λe=>absurd e.symm hij;obtain⟨h1,h2⟩:=h.ea j p hp hj hn;refine⟨λt ti d q1 q2 q3=>?_,dy h2 ha.ext.size⟩;obtain⟨z,r1,r2,r3⟩:=h1 t ti d q1 q2 q3;exact⟨z,by rw[wm (hne hp hij q3)];exact r1,r2.Ax ha h.fl,r3⟩
 .rw[eT hi]at hj hm;have hj:mb listed j:=hj.elim id λe=>by subst e;rw[hd]at h1;cases h1
  have hm:mb listed m:=hm.elim id λe=>by subst e;rw[hd]at h2;cases h2
  exact h.eb j m hj hm h1 h2
def at_mem{ops:Array Oper}(h:At ops i o):o∈ops.toList:=gW (show ops.toList[i]?=some o from by rw[Mb];exact FL h)
def qP.abG(hE:eL E)(hst:xE E ops jF.n)(h:qP E ops jF s0 g0 w0 done fr s bl listed g a w)(ho:At ops i o)(hd:done.testBit i=true)(hnl:¬mb listed i)(hl:∀e∈wM o,mb listed e)
  {K:Act->World->Prop} {Q:Exit->Act->World->Prop} (hK:∀g' a' w',qP E ops jF s0 g0 w0 done fr s bl (listed.setIfInBounds i true) g' a' w'->K a' w') {rr:Option Nat} (AX:rr≠none->∀o∈ops.toList,∀c,o.op≠.defer c):Bt rr E.T.E.P ops Q i K a w:=by
 have Tl:rr≠none->∀c,o.op≠.defer c:=λhr=>AX hr o (at_mem ho);obtain⟨hna,hok,hf⟩:=h.fo i o ho hd hnl;obtain⟨hfr,hfn,pP⟩:=h.core.aiz hst;have qS:∀j,Pre ops.toList i j->mb listed j∧done.testBit j=true:=λj hj=>⟨mu hst.bk (λi o hi hl=>h.Tb i o hi hl) ho hl j hj,h.Xx i o ho hd j hj⟩;have Pb:=pP ho qS λj ha hji=>by
  have hnj:¬mb listed j:=λhlj=>by obtain⟨q,hq,_⟩:=ha;exact hnl (mu hst.bk (λi o hi hl=>h.Tb i o hi hl) hq (h.Tb j q hq hlj) i hji)
  refine⟨hnj,?_⟩;cases uP:done.testBit j with|false=>rfl|true=>exact absurd (h.an j ha uP) hnj
 have hgv:gY ops.toList fr o=gY ops.toList (rfr (dead ops.toList done listed) fr) o:=n7 λk hk=>Pb k (.inr hk);have YY:∀k∈tmpsOf o.op,fr.get k=(rfr (dead ops.toList done listed) fr).get k:=λk hk=>Pb k (.inl hk);unfold Bt;simp only[FL ho];rcases hf with⟨f1,f3⟩|⟨f1,t,f2,f3⟩|⟨c,f1,f4,t,f2,f3⟩
 .rw[pY (fr':=rfr (dead ops.toList done listed) fr) λk hk=>Pb k (.inr hk)]at f1;rw[bw (by rw[BP hfr f1];exact Bool.noConfusion)];exact hK _ _ _ (h.meet hst ho hd hl hok (cN.refl h.Ax.rel) λd l8 t' ht'=>by rw[f3 d l8 t' ht'];exact Ld)
 .rw[hgv]at f1;have hw:=n6 hfr f1;simp only at hw;rw[bL hw];refine .of_wp Tl (.inl ?_);rw[gZ E none o s some (iH YY)]at f2;refine qI hE hfr h.Ax.rel (.inl rfl) f2 (λt' g' v w' hk bX ht=>?_);cases hk;exact hK _ _ _ (h.meet hst ho hd hl hok bX λd l8 t' ht'=>(f3 d l8 t' ht').rel ht)
 .rw[hgv]at f1;have hw:=n6 hfr f1;simp only at hw;rw[gZ E (some c) o s some (iH (qg (DB hst.us ho) YY))]at f2;cases c with
  |true=>rw[bL hw];refine .of_wp Tl (.inl ?_);rw[sP true YY]at f4;obtain⟨hff,aaC⟩:=uT hfr (by rw[hfn];exact h.nb) f4;refine qI hE hff h.Ax.rel (.inr rfl) f2 (λt' g' v w' hk bX ht=>?_);cases hk;exact hK _ _ _ (h.meet hst ho hd hl hok bX λd l8 t' ht'=>by rw[f3 d l8 t' ht'];simp only[low];exact .gd _ _ _ λ_=>ht)
  |false=>rw[bw (by rw[hw];exact Bool.noConfusion)];exact hK _ _ _ (h.meet hst ho hd hl hok (cN.refl h.Ax.rel) λd l8 t' ht'=>by rw[f3 d l8 t' ht'];simp only[low];exact .gd _ _ _ λh=>by cases h)
def qP.abH(hE:eL E)(hst:xE E ops jF.n)(h:qP E ops jF s0 g0 w0 done fr s bl listed g a w)(ho:At ops i o)(hd:done.testBit i=false)(hna:eH o=true)(hnl:¬mb listed i)(hl:∀e∈wM o,mb listed e)
  {K:Act->World->Prop} {Q:Exit->Act->World->Prop} (hK:∀Aw a' w',qP E ops jF s0 g0 w0 done fr s Aw (listed.setIfInBounds i true) g a' w'->K a' w') {rr:Option Nat} (AX:rr≠none->∀o∈ops.toList,∀c,o.op≠.defer c):Bt rr E.T.E.P ops Q i K a w:=by
 have Tl:rr≠none->∀c,o.op≠.defer c:=λhr=>AX hr o (at_mem ho);obtain⟨hg,⟨t,ti,hop,MH⟩,hdn⟩:=XL hst.al ho hna;obtain⟨xi,dd,z,xb,_,_,_,hz,nE,_⟩:=(hE.Uv.ti _ _ MH).all;unfold Bt;simp only[FL ho];rw[bL (by simp[Region.wanted,hg])];refine .of_wp Tl (.inl ?_);unfold Oper.wp;have hrun:(execOp a.eval o).run E.T.E.P w=.ok (.value (.pointer (some ⟨w.heap.size,0,none⟩))) (w.alloc (.cells z.cells t)):=by simp[execOp,hop,Instr.alloc,ef xb hz,newVar,newRow]
 rw[hrun];simp only[Oper.upon];have hi:i<listed.size:=by rw[h.JF];exact tK ho
 have hs:=h.Ax.rel;have hsz:(w.alloc (.cells z.cells t)).heap.size=w.heap.size+1:=by simp
 obtain⟨hs',he⟩:=hs.grow (fl:=s.fl) (I:=g.bz) (w':=w.alloc (.cells z.cells t)) (λ_ h=>h) (λ_ h=>.inl h) (λb hb=>by have:=hs.bz b hb;omega) (by omega) (λb hb=>oC w _ b hb) rfl rfl;have hne:∀{j:Nat}{p:Oper}{k:Nat},At ops j p->j≠i->p.dst=some k->o.dst≠some k:=λhp hne CO l8=>((sY hst.ds ho l8).2.2 hp (Ne.symm hne)).1 CO;refine hK (λj=>if j=i then w.heap.size else bl j) _ _ ⟨by simpa using h.JF,h.n,h.nb,ry.1.trans h.T4,by rw[ry.2];exact h.df.imp (λt v ht=>ht.ext he hs.bz) (λ_ _ h=>h),λk t' hk hc=>?_,λj p hp hj e he=>?_,h.Xx,λj p hp hj=>?_,λj p hp hj hn=>?_,λj p hp hj hn=>?_,λj m hj hm h1 h2 WJ pS O3=>?_,?_,h.fk,h.fl,λj ha hj=>(eT hi).2 (.inl (h.an j ha hj))⟩
 .have l8:o.dst≠some k:=λe=>by have:=(hc i o ho e).1 ((eT hi).2 (.inr rfl));rw[hd]at this;cases this
  obtain⟨u,hu,ht⟩:=h.tm k t' hk λj p hp CO=>by have h1:=hc j p hp CO;rw[eT hi]at h1;refine Iff.trans ⟨.inl,λh=>h.elim id λe=>?_⟩ h1;subst e;have:o=p:=eI (ho.symm.trans hp);subst this;exact absurd CO l8
  exact⟨u,by rw[wm l8];exact hu,ht.ext he hs.bz⟩
 .rw[eT hi]at hj ⊢;rcases hj with hj|rfl
  .exact .inl (h.Tb j p hp hj e he)
  .have:o=p:=eI (ho.symm.trans hp);subst this;exact .inl (hl e he)
 .rw[eT hi]at hj;rcases hj with hj|rfl
  .exact h.ld j p hp hj
  .have:o=p:=eI (ho.symm.trans hp);subst this;exact .inr hna
 .exact h.fo j p hp hj λhl=>hn ((eT hi).2 (.inl hl))
 .by_cases hij:j=i
  .subst hij;have:o=p:=eI (ho.symm.trans hp);subst this;simp only[fR];refine⟨λt' ti' d q1 q2 q3=>?_,by omega⟩;rw[hop]at q1;cases q1;rw[MH]at q2;cases q2;have MN:d<a.tmps.size:=by rw[h.T4,h.n];exact hdn d q3
   refine⟨z.cells,by rw[q3];exact Eg MN,⟨h.Ax.ext.size,by omega,λjt=>?_,λk hO=>?_,t,wh w _⟩,nE⟩
   .have:=hs.bz _ jt;omega
   .have:=(hs.rB hO).1;omega
  .rw[eT hi]at hj;have hj:mb listed j:=hj.elim id λe=>absurd e.symm hij;obtain⟨h1,h2⟩:=h.ea j p hp hj hn;simp only[bw hij];refine⟨λt ti d q1 q2 q3=>?_,by omega⟩;obtain⟨z',r1,r2,r3⟩:=h1 t ti d q1 q2 q3;obtain⟨ty,r4⟩:=r2.mem;exact⟨z',by rw[wm (hne hp hij q3)];exact r1,⟨r2.new,by have:=r2.lt;omega,r2.bz,r2.own,ty,by rw[oC w _ _ r2.lt];exact r4⟩,r3⟩
 .have hlt:∀j,mb listed j->done.testBit j=false->j<ops.size->bl j<w.heap.size:=λj hj uP pS=>by
   have lE:At ops j ops[j]:=by simp[At,pS]
   exact(h.ea j _ lE hj uP).2
  rw[eT hi]at hj hm;by_cases hji:j=i<;>by_cases hmi:m=i
  .omega
  .rw[bL hji,bw hmi];have:=hlt m (hm.elim id λe=>absurd e.symm hmi) h2 O3;omega
  .rw[bw hji,bL hmi];have:=hlt j (hj.elim id λe=>absurd e.symm hji) h1 pS;omega
  .rw[bw hji,bw hmi];exact h.eb j m (hj.elim id λe=>absurd e.symm hji) (hm.elim id λe=>absurd e.symm hmi) h1 h2 WJ pS O3
 .have hx:pW s.lo s.fl g w g (w.alloc (.cells z.cells t)):=Ext.HG s.lo he;exact⟨hs',h.Ax.ext.trans (h.Ax.fl▸h.Ax.lo▸hx),h.Ax.fl,h.Ax.lo,h.Ax.aH,h.Ax.vS,h.Ax.same,h.Ax.Hp⟩
end
end
section
section
variable {E:ga S}{ops:Array Oper}{jF:bV S}{s0:bq S}{g0:Gh}{w0:World}{done:Nat}{fr:bV S}{s:bq S}{bl:Nat->Nat}{listed:Array Bool}{g:Gh}{a:Act}{w:World}
def S3(l:List Oper):((qE l).map (·.1)).Nodup:=by
 have:(qE l).map (·.1)=List.range l.length:=by unfold qE;rw[List.map_map];have:((λx:Nat×Oper=>x.1)∘λp:Oper×Nat=>(p.2,p.1))=Prod.snd:=rfl;rw[this,List.zipIdx_map_snd];simp[List.range_eq_range']
 rw[this];exact List.nodup_range
def qP.tN(hst:xE E ops jF.n)(h:qP E ops jF s0 g0 w0 done fr s bl listed g a w){which:Nat}{qi:bV S}{s1:bq S}(had:tN E.T which (qE ops.toList) fr s=some (qi,s1))
  (hwh:∀j,which.testBit j=true->mb listed j∧(w4 (qE ops.toList) done).testBit j=true) (hcl:∀j,which.testBit j=true->∀m,Pre ops.toList j m->done.testBit m=true∨which.testBit m=true) :
  ∃g1,Adp E.T which (qE ops.toList) fr s g w a qi s1 g1∧Sf E ops jF s0 g0 w0 (done||| which) qi s1 listed g1 a w:=by
 have Rm:∀{j:Nat}{o:Oper},At ops j o->which.testBit j=true->mb listed j∧eH o=true∧done.testBit j=false:=λ{j o}ho hj=>by obtain⟨h1,h2⟩:=hwh j hj;obtain⟨o',ho',h3,h4⟩:=(ux done j).1 h2;have:o=o':=eI (ho.symm.trans ho');subst this;exact⟨h1,h3,h4⟩
 have hmem:∀{p:Nat×Oper},p∈qE ops.toList->At ops p.1 p.2:=λ{p}hp=>iP.1 hp;obtain⟨g1,hA⟩:=ND (w0:=w0) (bl:=bl) had h.nb h.Ax.rel (λp hp hw=>by
   obtain⟨h1,_,h3⟩:=Rm (hmem hp) hw;exact(h.ea p.1 p.2 (hmem hp) h1 h3).1) (S3 _) (λp hp q hq dc N4 hne=>by
   obtain⟨h1,_,h3⟩:=Rm (hmem hp) dc;obtain⟨h4,_,h6⟩:=Rm (hmem hq) N4;exact h.eb p.1 q.1 h1 h4 h3 h6 hne (tK (hmem hp)) (tK (hmem hq))) (λp hp q hq hne d hd=>((sY hst.ds (hmem hp) hd).2.2 (hmem hq) hne).1)
 refine⟨g1,hA,⟨hA.n.trans h.n,by rw[hA.n];exact h.nb,by rw[hA.n];exact h.T4,by rw[ED,hA.Kb];exact h.df.imp (λ_ _ ht=>ht.le hA.le) hA.le.cj,λk t hk hc=>?_,λj p hp hj m hm=>?_,?_⟩⟩
 .by_cases hex:∃p∈qE ops.toList,which.testBit p.1=true∧p.2.dst=some k
  .exact hA.new k hex t hk
  .rw[hA.old k λp hp hw hd=>hex ⟨p,hp,hw,hd⟩]at hk;obtain⟨v,hv,ht⟩:=h.tm k t hk λi o hi hd=>by have h1:=hc i o hi hd;rw[zh,lA]at h1;exact h1.trans ⟨λh=>h.elim id λhw=>absurd ⟨(i,o),iP.2 hi,hw,hd⟩ hex,.inl⟩
   exact⟨v,hv,ht.le hA.le⟩
 .rw[zh,lA]at hj ⊢;rcases hj with hj|hj
  .exact .inl (h.Xx j p hp hj m hm)
  .exact hcl j hj m hm
 .have ha:=h.Ax;refine⟨hA.rel,⟨λo b e=>hA.le.cj o b (ha.ext.cj o b e),λo e x hl k=>hA.le.arr o e x (ha.ext.arr o e x hl k),λb hb=>hA.le.bz b (ha.ext.bz b hb),ha.ext.size,ha.ext.heap,λo b hl hO=>?_,λb hb=>ha.ext.uJ b (by rw[hA.bz]at hb;exact hb),ha.ext.os,ha.ext.output⟩,hA.fl.trans ha.fl,hA.lo.trans ha.lo,fS ha.aH hA.aH,λo ho=>by rw[hA.wr];exact ha.vS o ho,λo ho hn=>?_,λo ho=>by rw[hA.dr];exact ha.Hp o ho⟩
  .rcases hA.own o b hO with hO|⟨p,hp,hw,d,hd,YY⟩
   .exact ha.ext.own o b hl hO
   .obtain ⟨h1,_,h3⟩:=Rm (hmem hp) hw;obtain⟨t,ti,d',e1,e2,e3,_⟩:=hA.aa1 p hp hw;obtain⟨z,r1,r2,_⟩:=(h.ea p.1 p.2 (hmem hp) h1 h3).1 t ti d' e1 e2 e3;have:d=d':=eI (hd.symm.trans e3);subst this;rw[YY]at r1;cases r1;exact .inr r2.new
  .rw[hA.ob o (dy ho ha.aH)];exact ha.same o ho (by rw[hA.wr]at hn;exact hn)
variable {ow:List Nat}{k:Nat}{v:V S}
def uV(h:(dV ow fr).get k=some v):fr.get k=some v∧dD ow (low v)=false:=by cases ow with|nil=>exact⟨h,sE _⟩|cons o ow=>simp only[dV,bV.get,Tr.o5]at h;rw[Q0]at h;refine⟨h.1,?_⟩;have:=h.2;rw[jR];simpa using this
def zQ(h:fr.get k=some v)(hm:gR ow v=false):(dV ow fr).get k=some v:=by cases ow with|nil=>exact h|cons o ow=>simp only[dV,bV.get,Tr.o5];rw[Q0];exact⟨h,by simp[hm]⟩
def MX{call:iB S}{l:List Oper}{o:Oper}{ω:Type}{kp:V S->bq S->Option ω}{k:V S->bq S->List Nat->Option ω}{r:ω}(h:mU E call l o fr s kp k=some r):fX fr o.dst=true:=by
 unfold mU at h;rcases af h with⟨hd,_⟩|⟨_,h⟩
 .exact hd
 .cases h
def UX{done i:Nat}{aH:Nat}{wr:List Nat}:∀{l:Uo},DH ops.toList (vu ops.toList) done i fr aH wr ow l=true->∀{j:Nat}{p:Oper},(j,p)∈l->done.testBit j=true->eH p=false->¬Pre ops.toList i j->
  (jo (eD wr aH) fr p.op=false∧jo (eD wr aH) (nk fr p.op) p.op=false)∨(Mh p.op=true∧jo (λx=>ow.contains x) fr p.op=false∧jo (λx=>ow.contains x) (nk fr p.op) p.op=false):=by
 intro l
 induction l with
 |nil=>intro _ j p hm;cases hm
 |cons q l ih=>
  intro h j p hm hd hna hnp;obtain⟨j',p'⟩:=q;simp only[DH,eE]at h;rcases fc.1 hm with he|hm
  .cases he;have h1:=h.1;simp only[hd,hna,LN,LM]at h1;rw[lA]at h1;rcases h1 with h1|h1
   .exact absurd h1 hnp
   .simpa using h1
  .exact ih h.2 hm hd hna hnp
end
end
section
section
variable {E:ga S}{ops:Array Oper}{jF:bV S}{s0:bq S}{g0:Gh}{w0:World}{done:Nat}{fr:bV S}{s:bq S}{bl:Nat->Nat}{listed:Array Bool}{g:Gh}{a:Act}{w:World}
variable {o:Oper}{k:Nat}{v:V S}
def Cc{p:Nat->Bool}{o:Op}(h:jo p fr o=false)(hk:k∈tmpsOf o)(hv:fr.get k=some v):cC p v=false:=by obtain⟨x,hx,Ik⟩:=wz.1 hk;cases x with|tmp j=>simp only[bf]at Ik;subst Ik;unfold jo at h;have:=LX.1 h _ hx;have e:cm fr (.tmp j)=some v:=hv;rw[e]at this;simpa using this|_=>cases Ik
def S5{ow wr:List Nat}{aH:Nat}(hsub:∀o∈ow,o∈wr)(h:cC (eD wr aH) v=false):gR ow v=false:=by
 cases hm:gR ow v with
 |false=>rfl
 |true=>
  rw[nY]at hm;have:=ep (q:=eD wr aH) (λo ho=>by
   have:o∈ow:=by simpa using ho
   simp[eD,hsub o this]) v hm
  rw[h]at this;cases this
def Lq{ops:List Oper}{fr:bV S}(h:tD ops fr o=true)(hk:ni ops o=some k)(hv:fr.get k=some v):(∃b,v=.kb b)∨∃l,v=.dat (.lit (.tuple l)):=by
 unfold tD at h;unfold ni at hk;cases hg:o.guard with
 |none=>rw[hg]at hk;cases hk
 |some q=>
  obtain⟨j,want⟩:=q;simp only[hg]at h hk;rw[hk,Jq,hv]at h;split at h
  .rename_i b hb;cases hb;exact .inl ⟨b,rfl⟩
  .rename_i l hl;cases hl;exact .inr ⟨l,rfl⟩
  .cases h
def qP.step(hE:eL E){call:iB S}(dU:fV E.T.E.P call)(hst:xE E ops jF.n)(h:qP E ops jF s0 g0 w0 done fr s bl listed g a w){i:Nat}(ho:At ops i o)(hd:done.testBit i=false)(hnl:¬mb listed i)(hl:∀e∈wM o,mb listed e)
  (hsub:∀j,Pre ops.toList i j->done.testBit j=true∨(w4 (qE ops.toList) done).testBit j=true) {qi:bV S} {s1:bq S} (had:TL.tN E.T (w4 (qE ops.toList) done&&& (vu ops.toList).getD i 0) (qE ops.toList) fr s=some (qi,s1))
  {ω:Type} {kp:bV S->V S->bq S->Option ω} {k:Nat->bV S->bq S->Option ω} {r:ω}
  (hev:mU E call ops.toList o qi {s1 with wr:=[]} (λt s'=>kp (aeM ops.toList qi) t {s' with wr:=s'.wr++s1.wr}) (λt s' ow=>bif DH ops.toList (vu ops.toList) done i fr s.aH s'.wr ow (qE ops.toList)then
   k (done||| (w4 (qE ops.toList) done&&& (vu ops.toList).getD i 0)||| 1 <<< i) ((dV ow qi).ij o.dst t) {s' with wr:=s'.wr++s1.wr}else none)=some r)
  {K:Act->World->Prop} {Q:Exit->Act->World->Prop}
  (hK:∀done' fr' s' g' a' w',k done' fr' s'=some r->qP E ops jF s0 g0 w0 done' fr' s' bl (listed.setIfInBounds i true) g' a' w'->K a' w')
  (hP:∀fr' t s' g' a' v w',kp fr' t s'=some r->fr'.n=jF.n->cE g' (bx fr') a' w'->fA s0 g0 w0 s' g' w'->eK (ops.toList.filterMap (·.dst)) jF fr' s'.dr s0.aH->aJ g' w' (low t) v->Q (.panic [{v,recovered:=false}]) a' w') {rr:Option Nat} (AX:rr≠none->∀o∈ops.toList,∀c,o.op≠.defer c):Bt rr E.T.E.P ops Q i K a w:=by
 have Tl:rr≠none->∀c,o.op≠.defer c:=λhr=>AX hr o (at_mem ho);have hi:i<listed.size:=by rw[h.JF];exact tK ho
 have qS:∀j,Pre ops.toList i j->mb listed j:=mu hst.bk (λi o hi hl=>h.Tb i o hi hl) ho hl;generalize hwe:w4 (qE ops.toList) done&&& (vu ops.toList).getD i 0=which at had hev;have hwb:∀j,which.testBit j=true↔(w4 (qE ops.toList) done).testBit j=true∧Pre ops.toList i j:=λj=>by rw[<-hwe,Nat.testBit_and,eE];rfl
 obtain⟨g1,hA,hC⟩:=h.tN hst had (λj hj=>⟨qS j ((hwb j).1 hj).2,((hwb j).1 hj).1⟩) (λj hj m hm=>by
  have hpm:=SP hst.bk ho ((hwb j).1 hj).2 hm;exact(hsub m hpm).imp id λhp=>(hwb m).2 ⟨hp,hpm⟩)
 have CO:∀j,Pre ops.toList i j->(done||| which).testBit j=true:=λj hj=>by rw[zh,lA];exact(hsub j hj).imp id λhp=>(hwb j).2 ⟨hp,hj⟩
 have hwd:∀{j:Nat}{q:Oper},At ops j q->which.testBit j=true->mb listed j∧eH q=true∧done.testBit j=false:=λ{j q}hq hj=>by obtain⟨o',ho',h3,h4⟩:=(ux done j).1 ((hwb j).1 hj).1;have:q=o':=eI (hq.symm.trans ho');subst this;exact⟨qS j ((hwb j).1 hj).2,h3,h4⟩
 have hwi:which.testBit i=false:=by cases hh:which.testBit i with|false=>rfl|true=>exact absurd (Oq hst.bk ho i ((hwb i).1 hh).2) (Nat.lt_irrefl _)
 have Rt:fX qi o.dst=true:=MX hev;have O8:fX (dV (S:=S) [] qi) o.dst=true:=Rt;obtain⟨hfr,hfn,pP⟩:=hC.aiz hst;have Pb:=pP ho (λj hj=>⟨qS j hj,CO j hj⟩) λj ha hji=>by
  obtain⟨q,hq,_⟩:=ha;have hnj:¬mb listed j:=λhlj=>hnl (mu hst.bk (λi o hi hl=>h.Tb i o hi hl) hq (h.Tb j q hq hlj) i hji);refine⟨hnj,?_⟩;cases uP:(done||| which).testBit j with
  |false=>rfl
  |true=>
   rw[zh,lA]at uP;rcases uP with uP|uP
   .have:=h.Xx j q hq uP i hji;rw[hd]at this;cases this
   .exact absurd (hwd hq uP).1 hnj
 rw[Hi E call _ _ _ hfn.symm (DB hst.us ho) (λk hk=>Pb k (.inl hk)) (λk hk=>Pb k (.inr hk))]at hev;have fq:bg g1 (aF {s1 with wr:=[]}) w:=hC.Ax.rel;unfold Bt;simp only[FL ho];refine(qH hE dU (by rw[hfn];exact hC.nb) hfr fq hev (λt s' ow g' v w' hk ht bX=>?_) (λt s' g' v w' hk bX ht=>?_) Tl).2
 .rcases af hk with⟨Rl,hk⟩|⟨_,hk⟩;rotate_left
  .cases hk
  refine hK _ _ _ g' _ w' hk ?_;have JW:s1.fl=0:=hA.fl.trans h.fl;have hnf:∀Uw:List Nat,(dV Uw qi).n=qi.n:=λUw=>v9 Uw qi;have an8:fX (dV ow qi) o.dst=true:=zw Rt;have cJ:∀k,((dV ow qi).ij o.dst t).get k=if o.dst=some k then some t else(dV ow qi).get k:=λk=>Is an8 (by rw[hnf];exact hC.nb)
  have WC:((dV ow qi).ij o.dst t).n=qi.n:=by
   have:((dV ow qi).ij o.dst t).n=(dV ow qi).n:=by cases o.dst<;>rfl
   rw[this,hnf]
  have air:fA s1 g1 w {s' with wr:=s'.wr++s1.wr} g' w':=
   ⟨bX.rel,bX.ext,bX.fl,bX.lo,bX.aH,λo ho=>iW _ ho,λo ho hn=>bX.same o ho (λhm=>hn (eJ _ hm)),bX.Hp⟩
  have hne:∀{j:Nat}{p:Oper}{k:Nat},At ops j p->j≠i->p.dst=some k->o.dst≠some k:=λhp hne CO l8=>((sY hst.ds ho l8).2.2 hp (Ne.symm hne)).1 CO;have hd':∀j,(done||| which||| 1 <<< i).testBit j=true↔(done.testBit j=true∨which.testBit j=true)∨i=j:=λj=>by rw[n8,zh,lA]
  refine⟨by simpa using h.JF,WC.trans hC.n,by rw[WC];exact hC.nb,by rw[ry.1,WC];exact hC.T4,?_,λk t' hk' hc=>?_,λj p hp hj e he=>?_,λj p hp hj m hm=>?_,λj p hp hj=>?_,λj p hp hj hn=>?_,λj p hp hj hn=>?_,λj m hj hm h1 h2 WJ pS O3=>?_,hC.Ax.trans air,?_,bX.fl.trans JW,λj ha hj=>?_⟩
  .rw[ry.2,ED,Dd];cases ow with|nil=>exact bX.Kb hC.df|cons x ow=>exact(oa (λv=>jR _ v) qi.df).rel bX.tr hC.df
  .rw[cJ]at hk';by_cases l8:o.dst=some k
   .rw[bL l8]at hk';cases hk';have hk2:k<qi.n:=by rw[l8]at Rt;exact fQ Rt
    exact⟨v,by rw[l8];exact Eg (by rw[hC.T4];exact hk2),ht⟩
   .rw[bw l8]at hk';obtain⟨h1,h2⟩:=uV hk';obtain⟨u,hu,htu⟩:=hC.tm k t' h1 λj p hp CO=>by
     have c1:=hc j p hp CO;have hji:j≠i:=λe=>by subst e;have:o=p:=eI (ho.symm.trans hp);subst this;exact l8 CO
     rw[eT hi,hd']at c1;rw[zh,lA];exact⟨λh=>(c1.1 (.inl h)).elim id λe=>absurd e.symm hji,λh=>(c1.2 (.inl h)).elim id λe=>absurd e.symm hji⟩
    exact⟨u,by rw[wm l8];exact hu,bX.tr _ _ htu h2⟩
  .rw[eT hi]at hj ⊢;rcases hj with hj|rfl
   .exact .inl (h.Tb j p hp hj e he)
   .have:o=p:=eI (ho.symm.trans hp);subst this;exact .inl (hl e he)
  .rw[hd']at hj ⊢;rcases hj with hj|rfl
   .left
    have:=hC.Xx j p hp (by rw[zh,lA];exact hj) m hm;rwa [zh,lA]at this
   .left
    have:=CO m hm;rwa [zh,lA]at this
  .rw[eT hi]at hj;rw[hd'];rcases hj with hj|rfl
   .exact (h.ld j p hp hj).imp (λh=>.inl (.inl h)) id
   .exact .inl (.inr rfl)
  ·
   have hji:j≠i:=λe=>hn ((eT hi).2 (.inr e.symm));have hnl:¬mb listed j:=λhl=>hn ((eT hi).2 (.inl hl));have uP:done.testBit j=true:=by
    rcases(hd' j).1 hj with(hj|hj)|hj
    .exact hj
    .exact absurd (hwd hp hj).1 hnl
    .exact absurd hj.symm hji
   obtain⟨hna,hfo⟩:=h.fo j p hp uP hnl;have hnp:¬Pre ops.toList i j:=λhpr=>hnl (qS j hpr);have Za:=UX Rl (iP.2 hp) uP hna hnp;have hpi:∀{m:Nat}{q:Oper}{k:Nat},At ops m q->(m=i∨which.testBit m=true)->(k∈tmpsOf p.op∨ni ops.toList p=some k)->q.dst≠some k:=by
    intro m q k hq hm hk GY;have hpre:Pre ops.toList j m:=by
     rcases(I3 hst hp hk hq GY).2 with h1|⟨h1,_⟩
     .exact h1
     .exfalso;rcases hm with rfl|hm
      .exact hnp h1
      .exact hnl (mu hst.bk (λi o hi hl=>h.Tb i o hi hl) hq (h.Tb m q hq (hwd hq hm).1) j h1)
    have:=h.Xx j p hp uP m hpre;rcases hm with rfl|hm
    .rw[hd]at this;cases this
    .rw[(hwd hq hm).2.2]at this;cases this
   have hold:∀k,(k∈tmpsOf p.op∨ni ops.toList p=some k)->qi.get k=fr.get k:=λk hk=>hA.old k λq hq hw=>hpi (iP.1 hq) (.inr hw) hk;have hput:∀k,(k∈tmpsOf p.op∨ni ops.toList p=some k)->((dV ow qi).ij o.dst t).get k=(dV ow qi).get k:=λk hk=>by rw[cJ,bw (hpi ho (.inl rfl) hk)]
   have ahH:∀o∈ow,o∈s'.wr:=bX.oww;have hkeep:∀k,fr.get k=qi.get k->(∀v,fr.get k=some v->gR ow v=false)->(dV ow qi).get k=fr.get k:=λk he hm=>by
    cases hfk:fr.get k with
    |some v=>exact zQ (he▸hfk) (hm v hfk)
    |none=>
     cases aoF:(dV ow qi).get k with|none=>rfl|some v=>have:=(uV aoF).1;rw[<-he,hfk]at this;cases this
   have hno:∀k v,k∈tmpsOf p.op->fr.get k=some v->gR ow v=false:=λk v hk hv=>by
    rcases Za with⟨WD,_⟩|⟨_,WD,_⟩
    .exact S5 ahH (Cc WD hk hv)
    .rw[nY];exact Cc WD hk hv
   have hsame:∀x,eD s'.wr s.aH x=false->({s' with wr:=s'.wr++s1.wr}:bq S).ob.get x=s.ob.get x:=λx hx=>by
    simp only[eD,wA]at hx;have hx1:x∉s'.wr:=by simpa using hx.1
    have hx2:x<s.aH:=by
     rcases zm x s.aH with h|h
     .exact h
     .have:=GO h;rw[hx.2]at this;cases this
    have:=bX.same x (dy hx2 hA.aH) hx1;exact this.trans (hA.ob x hx2)
   refine⟨hna,hfo.move (WC.trans hA.n) (DB hst.us hp) (λk hk=>?_) (λk hk=>?_) (λd ahQ t' ht'=>?_) (p:=eD s'.wr s.aH) (.inr (Za.imp (λh=>⟨h.1,h.2,hsame⟩) (λh=>h.1)))⟩
   .rw[hput k (.inl hk)];exact hkeep k (hold k (.inl hk)).symm λv hv=>hno k v hk hv
   .rw[hput k (.inr hk)];refine hkeep k (hold k (.inr hk)).symm λv hv=>?_;rcases hfo.2 with⟨f1,_⟩|kA
    .rcases Lq f1 hk hv with⟨b,rfl⟩|⟨l,rfl⟩<;>rfl
    have hgv:∃b,iw v=some b:=by
     have hsome:∃c,gY ops.toList fr p=some (some c)∨gY ops.toList fr p=some none:=by
      rcases kA with⟨f1,_⟩|⟨c,f1,_⟩
      .exact ⟨true,.inr f1⟩
      .exact ⟨c,.inl f1⟩
     obtain⟨c,hsome⟩:=hsome;unfold ni at hk;unfold gY at hsome;cases hpg:p.guard with
     |none=>rw[hpg]at hk;cases hk
     |some q=>
      obtain⟨m,want⟩:=q;simp only[hpg]at hk hsome;rw[hk,Jq,hv]at hsome;cases hb:iw v with
      |some b=>exact⟨b,rfl⟩
      |none=>
       exfalso;cases v<;>first|(cases hb;done)|(simp only[hb]at hsome;rcases hsome with h|h<;>cases h)
    obtain⟨b,hb⟩:=hgv;cases v<;>first|rfl|simp[iw]at hb
   .rw[cJ,bw (hne hp hji ahQ)]at ht';have h1:=(uV ht').1;rw[hA.old d λq hq hw GY=>?_]at h1
    .exact h1
    .have YZ:At ops q.1 q.2:=iP.1 hq;have hjq:j≠q.1:=λe=>by have:=(hwd YZ hw).2.2;rw[<-e,uP]at this;cases this
     exact((sY hst.ds hp ahQ).2.2 YZ hjq).1 GY
  .have hji:j≠i:=λe=>by have:=(hd' j).2 (.inr e.symm);rw[hn]at this;cases this
   have uP:done.testBit j=false:=by cases hh:done.testBit j with|false=>rfl|true=>have:=(hd' j).2 (.inl (.inl hh));rw[hn]at this;cases this
   have hwj:which.testBit j=false:=by cases hh:which.testBit j with|false=>rfl|true=>have:=(hd' j).2 (.inl (.inr hh));rw[hn]at this;cases this
   rw[eT hi]at hj;have hlj:mb listed j:=hj.elim id λe=>absurd e.symm hji;obtain⟨h1,h2⟩:=h.ea j p hp hlj uP;refine⟨λt2 ti d q1 q2 q3=>?_,dy h2 bX.ext.size⟩;obtain⟨z,r1,r2,r3⟩:=h1 t2 ti d q1 q2 q3;have aeb:Hz g1 w0 w (bl j) z:=⟨r2.new,r2.lt,by rw[hA.bz];exact r2.bz,λx hO=>by
    rcases hA.own x (bl j) hO with hO|⟨q,hq,hw,d2,hd2,YY⟩
    .exact r2.own x hO
    .have YZ:At ops q.1 q.2:=iP.1 hq;obtain⟨l1,_,l3⟩:=hwd YZ hw;obtain⟨t3,ti3,d3,e1,e2,e3,_⟩:=hA.aa1 q hq hw;obtain⟨z3,u1,_,_⟩:=(h.ea q.1 q.2 YZ l1 l3).1 t3 ti3 d3 e1 e2 e3;have:d2=d3:=eI (hd2.symm.trans e3);subst this;rw[YY]at u1;have EX:bl j=bl q.1:=by have:=eI u1;simp only[Value.pointer.injEq,bf,Addr.mk.injEq]at this;exact this.1
     have hjq:j≠q.1:=λe=>by rw[<-e,hwj]at hw;cases hw
     exact h.eb j q.1 hlj l1 uP l3 hjq (tK hp) (tK YZ) EX,r2.mem⟩
   exact⟨z,by rw[wm (hne hp hji q3)];exact r1,aeb.Ax bX JW,r3⟩
  .have hx:∀j,(done||| which||| 1 <<< i).testBit j=false->done.testBit j=false∧i≠j:=λj hj=>by
    refine⟨?_,λe=>?_⟩
    .cases hh:done.testBit j with|false=>rfl|true=>have:=(hd' j).2 (.inl (.inl hh));rw[hj]at this;cases this
    .have:=(hd' j).2 (.inr e);rw[hj]at this;cases this
   rw[eT hi]at hj hm;exact h.eb j m (hj.elim id λe=>absurd e (hx j h1).2) (hm.elim id λe=>absurd e (hx m h2).2) (hx j h1).1 (hx m h2).1 WJ pS O3
  .refine ⟨λk v hk hv=>?_,?_⟩;rotate_left
   .rw[Dd];have h0:ug (eD s'.dr s0.aH) jF.df qi.df:=by rw[hA.Kb];exact h.fk.df.mono (ir (λx hx=>bX.Hp x (by rw[show({s1 with wr:=[]}:bq S).dr=s1.dr from rfl,hA.dr];exact hx)) (bT _))
    cases ow with|nil=>exact h0|cons x ow=>refine h0.trans (s5 (p:=(x::ow).contains) (λo' ho'=>?_) (λv=>nY _ v) _).ok;have:=bX.owd o' (by simpa using ho');simp[eD,this]
   have dO:∀{m:Nat}{q:Oper},At ops m q->q.dst≠some k:=λhq GY=>hk (wz.2 ⟨_,gW hq,GY⟩);rcases h.fk.tm k v hk hv with h1|h1
   .rw[cJ,bw (dO ho)];rw[<-hA.old k λq hq _=>dO (iP.1 hq)]at h1;cases hm:gR ow v with
    |false=>exact .inl (zQ h1 hm)
    |true=>
     rw[nY]at hm;refine .inr (ep (λx hx=>?_) v hm);have:x∈ow:=by simpa using hx
     have:=bX.owd x this;simp[eD,this]
   .exact .inr (ep (ir (λx hx=>bX.Hp x (by rw[show({s1 with wr:=[]}:bq S).dr=s1.dr from rfl,hA.dr];exact hx)) (bT _)) v h1)
  .rw[eT hi];rcases(hd' j).1 hj with(hj|hj)|hj
   .exact .inl (h.an j ha hj)
   .obtain ⟨q,hq,_⟩:=ha;exact .inl (hwd hq hj).1
   .exact .inr hj
 .have hds:∀d∈ops.toList.filterMap (·.dst),d<bA:=λd hd=>by obtain⟨q,hq,GY⟩:=wz.1 hd;obtain⟨m,hm⟩:=SK hq;exact(sY hst.ds hm GY).1
  have hgd:∀k,(aeM ops.toList qi).get k=if k∈ops.toList.filterMap (·.dst)then none else qi.get k:=λk=>Tr.rM _ _ _ hds
  have Tv:∀x,eD s.dr s0.aH x=true->eD s'.dr s0.aH x=true:=ir (λx hx=>bX.Hp x (by rw[show({s1 with wr:=[]}:bq S).dr=s1.dr from rfl,hA.dr];exact hx)) (bT _);refine hP _ t _ g' _ v w' hk hC.n ⟨hC.T4,bX.Kb hC.df,λk t' hk'=>?_⟩ (hC.Ax.trans ⟨bX.rel,bX.ext,bX.fl,bX.lo,bX.aH,λo ho=>iW _ ho,λo ho hn=>bX.same o ho (λhm=>hn (eJ _ hm)),bX.Hp⟩) ⟨λk v hk hv=>?_,?_⟩ ht
  .rw[bO,hgd]at hk';split at hk'
   .cases hk'
   .rename_i hnk;rw[eA]at hk';obtain⟨u,hu,rfl⟩:=hk';obtain⟨v',yS,ht'⟩:=hC.tm k u hu λi o hi l8=>absurd (wz.2 ⟨o,gW hi,l8⟩) hnk;exact⟨v',yS,bX.tr _ _ ht' (ov _)⟩
  .rcases h.fk.tm k v hk hv with h1|h1
   .left
    rw[hgd,bw hk,hA.old k λq hq _ GY=>hk (wz.2 ⟨_,gW (iP.1 hq),GY⟩)];exact h1
   .exact .inr (ep Tv v h1)
  .show ug _ jF.df qi.df;rw[hA.Kb];exact h.fk.df.mono Tv
end
end
section
def BU{E:ga S}{ops:List Oper}{rU:List Nat}{done:Nat}{fr:bV S}{i:Nat}{o:Oper}:∀{l:Uo},Jl E ops rU done fr l=some (i,o)->(i,o)∈l∧done.testBit i=false∧eH o=false∧RQ ops rU i o=false∧Su (rU.getD i 0) done=true
 |[],h=>by cases h
 |(j,p)::l,h=>by
  simp only[Jl]at h;rcases af h with⟨hb,h⟩|⟨_,h⟩
  .cases h;simp only[eE,GL]at hb;exact⟨eC,hb.1,hb.2.2.1.1,hb.2.2.1.2,hb.2.1⟩
  .obtain ⟨h1,h2⟩:=BU h;exact⟨gL _ h1,h2⟩
def BV{rU:List Nat}{done oO:Nat}{i:Nat}{o:Oper}:∀{l:Uo},Jm rU done oO l=some (i,o)->(i,o)∈l∧done.testBit i=false∧eH o=false∧Su (rU.getD i 0) (done||| oO)=true
 |[],h=>by cases h
 |(j,p)::l,h=>by
  simp only[Jm]at h;rcases af h with⟨hb,h⟩|⟨_,h⟩
  .cases h;simp only[eE,GL]at hb;exact⟨eC,hb.1,hb.2.1,hb.2.2⟩
  .obtain ⟨h1,h2⟩:=BV h;exact⟨gL _ h1,h2⟩
variable {rU:List Nat}{done i j:Nat}{o:Oper}{call:iB S}
section
variable {ops:Array Oper}{listed:Array Bool}
def DU(hsz:listed.size=ops.size)(h:j∈Region.ready .any ops listed):∃o,At ops j o∧¬mb listed j∧∀e∈wM o,mb listed e:=by
 obtain⟨h1,o,ho,h2⟩:=mem_ready.1 h;have hj:j<listed.size:=by rw[hsz];exact(Ju.1 ho).1
 refine⟨o,by unfold At;simpa using ho,λhl=>?_,λe he=>?_⟩
 .unfold mb at hl;simp only[Array.getD,hj,dite_true]at h1 hl;rw[h1]at hl;cases hl
 .obtain ⟨d,hd,rfl⟩:=zg.1 he;rw[List.mem_filter]at hd;exact h2 d (by simpa using hd.1) hd.2
def Vf(hsz:listed.size=ops.size)(ho:At ops j o)(hn:¬mb listed j)(hd:∀e∈wM o,mb listed e):j∈Region.ready .any ops listed:=by
 have hj:j<listed.size:=by rw[hsz];exact tK ho
 refine mem_ready.2 ⟨?_,o,FL ho,λe he hb=>hd e.on (zg.2 ⟨e,List.mem_filter.2 ⟨by simpa using he,hb⟩,rfl⟩)⟩;unfold mb at hn;simp only[Array.getD,hj,dite_true]at hn ⊢;simpa using hn
def HN(hb:tJ ops.toList 0=true)(hsz:listed.size=ops.size)(h:Region.ready .any ops listed=[]):∀j o,At ops j o->mb listed j:=by
 intro j
 induction j using Nat.strongRecOn with
 |_ j ih=>
  intro o ho;refine VC λhn=>?_;have:j∈Region.ready .any ops listed:=Vf hsz ho hn λe he=>by
   have hlt:=Ae hb ho e he;have hj:=tK ho;have lE:At ops e (ops[e]'(by omega)):=by unfold At;rw[Mb];exact oN (by omega)
   exact ih e (by omega) _ lE
  rw[h]at this;cases this
def Fu(hsz:listed.size=ops.size)(h:listed.toList.count false<=0)(ho:At ops j o):mb listed j:=by
 have hj:j<listed.size:=by rw[hsz];exact tK ho
 have h0:listed.toList.count false=0:=by omega
 rw[List.count_eq_zero]at h0;unfold mb;simp only[Array.getD,hj,dite_true];cases hh:listed[j]with|true=>exact hh|false=>refine absurd ?_ h0;rw[<-hh];simp
def count_set(hsz:listed.size=ops.size){m j:Nat}{o:Oper}(ho:At ops j o)(hn:¬mb listed j)(h:listed.toList.count false<=m+1):(listed.setIfInBounds j true).toList.count false<=m:=by
 have hj:j<listed.size:=by rw[hsz];exact tK ho
 have hf:listed[j]=false:=by unfold mb at hn;simp only[Array.getD,hj,dite_true]at hn;simpa using hn
 rw[Array.toList_setIfInBounds,List.count_set (by simpa using hj)];simp[hf];have:0<listed.toList.count false:=by rw[List.count_pos_iff,<-hf];simp
 simp at this h ⊢;omega
end
section
variable {E:ga S}{ops:Array Oper}{jF:bV S}{s0:bq S}{g0:Gh}{w0:World}
def Pr(hE:eL E)(dU:fV E.T.E.P call)(hst:xE E ops jF.n){ω:Type}{kp:bV S->V S->bq S->Option ω}{kk:bV S->bq S->Option ω}{r:ω}{Q:Exit->Act->World->Prop}
  (hN:∀fr' s' g' a' w',kk fr' s'=some r->fr'.n=jF.n->cE g' (bx fr') a' w'->fA s0 g0 w0 s' g' w'->eK (ops.toList.filterMap (·.dst)) jF fr' s'.dr s0.aH->Q .normal a' w')
  (hP:∀fr' t s' g' a' v w',kp fr' t s'=some r->fr'.n=jF.n->cE g' (bx fr') a' w'->fA s0 g0 w0 s' g' w'->eK (ops.toList.filterMap (·.dst)) jF fr' s'.dr s0.aH->aJ g' w' (low t) v->Q (.panic [{v,recovered:=false}]) a' w') {rr:Option Nat} (AX:rr≠none->∀o∈ops.toList,∀c,o.op≠.defer c) :
  ∀(n done:Nat)(fr:bV S)(s:bq S),sV E call ops.toList (vu ops.toList) (qE ops.toList) kp kk n done fr s=some r->∀(m:Nat)(listed:Array Bool)(bl:Nat->Nat)(g:Gh)(a:Act)(w:World),
   qP E ops jF s0 g0 w0 done fr s bl listed g a w->listed.toList.count false<=m->abz rr E.T.E.P ops Q m listed a w:=by
 intro n
 induction n with
 |zero=>intro done fr s h;cases h
 |succ n ih=>
  intro done fr s h;simp only[sV]at h;split at h
  ·
   rename_i i o hq;obtain⟨hm,l5,hna,han,hsub⟩:=BU hq;have ho:At ops i o:=iP.1 hm
   replace han:¬antiP ops.toList i:=XK ho han
   rcases af h with⟨hd,h2⟩|⟨_,h2⟩;rotate_left
   .cases h2
   clear h;intro m listed bl g a w hinv hc;rcases af h2 with⟨hsk,h3⟩|⟨_,h2⟩
   .exact ih _ _ _ h3 m listed bl g a w (hinv.float hst ho l5 hna han (y5.1 hsub) hd (.inl ⟨hsk,rfl⟩)) hc
   split at h2
   .cases h2
   .rename_i hg;rw[zT]at h2;obtain⟨t,e1,h3⟩:=sq.1 h2;obtain⟨t',hkb,h3⟩:=Sv h3;exact ih _ _ _ h3 m listed bl g a w (hinv.float hst ho l5 hna han (y5.1 hsub) hd (.inr (.inl ⟨hg,t,e1,hkb⟩))) hc
   .rename_i c hg;obtain⟨hok,h2⟩:=nr h2;rw[zT]at h2;obtain⟨t,e1,h3⟩:=sq.1 h2;exact ih _ _ _ h3 m listed bl g a w (hinv.float hst ho l5 hna han (y5.1 hsub) hd (.inr (.inr ⟨c,t,hg,hok,e1,rfl⟩))) hc
  .split at h
   ·
    rename_i i o hq;obtain⟨hm,l5,hna,hsub⟩:=BV hq;have ho:At ops i o:=iP.1 hm;rcases af h with⟨hall,h2⟩|⟨_,h2⟩;rotate_left
    .cases h2
    clear h;split at h2
    .cases h2
    rename_i qi s1 had;intro m
    induction m with
    |zero=>
     intro listed bl g a w hinv hc;exfalso;rcases hinv.ld i o ho (Fu hinv.JF hc ho)with h1|h1
     .rw[l5]at h1;cases h1
     .rw[hna]at h1;cases h1
    |succ m ihm=>
     intro listed bl g a w hinv hc;have hnl:¬mb listed i:=λhl=>by
      rcases hinv.ld i o ho hl with h1|h1
      .rw[l5]at h1;cases h1
      .rw[hna]at h1;cases h1
     refine⟨λhr=>absurd (HN hst.bk hinv.JF hr i o ho) hnl,λj hj=>?_⟩;obtain⟨p,hp,hjl,hjd⟩:=DU hinv.JF hj;cases uP:done.testBit j with
     |true=>exact hinv.abG hE hst hp uP hjl hjd (λg' a' w' hinv'=>ihm _ bl g' a' w' hinv' (count_set hinv.JF hp hjl hc)) AX
     |false=>
      cases haj:eH p with
      |true=>exact hinv.abH hE hst hp uP haj hjl hjd (λAw a' w' hinv'=>ihm _ Aw g a' w' hinv' (count_set hinv.JF hp hjl hc)) AX
      |false=>
       have hji:i=j:=by
        have:=gr.1 hall (j,p) (iP.2 hp);simp only[uP,haj,LM,lA]at this;rcases this with h1|h1
        .exact nT h1
        .exact absurd (mu hst.bk (λi o hi hl=>hinv.Tb i o hi hl) hp hjd i h1) hnl
       subst hji;have:o=p:=eI (ho.symm.trans hp);subst this;refine hinv.step hE dU hst ho l5 hjl hjd (λj hj=>?_) had (kp:=kp) (k:=λdone fr s=>sV E call ops.toList (vu ops.toList) (qE ops.toList) kp kk n done fr s) h2 (λdone' fr' s' g' a' w' hk hinv'=>ih _ _ _ hk m _ bl g' a' w' hinv' (count_set hinv.JF ho hjl hc)) hP AX;have:=y5.1 hsub j hj;rwa [zh,lA]at this
   ·
    split at h
    .cases h
    rename_i qi s1 had;rcases af h with⟨hall,h2⟩|⟨_,h2⟩;rotate_left
    .cases h2
    have hda:∀{j:Nat}{p:Oper},At ops j p->done.testBit j=true∨eH p=true:=λ{j p}hp=>by have:=gr.1 hall (j,p) (iP.2 hp);simpa using this
    have hend:∀(listed:Array Bool)(bl:Nat->Nat)(g:Gh)(a:Act)(w:World),qP E ops jF s0 g0 w0 done fr s bl listed g a w->(∀j o,At ops j o->mb listed j)->Q .normal a w:=by
     intro listed bl g a w hinv hl;have hdp:∀{j:Nat}{p:Oper},At ops j p->done.testBit j=true∨(w4 (qE ops.toList) done).testBit j=true:=λ{j p}hp=>by cases uP:done.testBit j with|true=>exact .inl rfl|false=>exact .inr ((ux done j).2 ⟨p,hp,(hda hp).resolve_left (by rw[uP];exact Bool.noConfusion),uP⟩)
     obtain⟨g1,hA,hC⟩:=hinv.tN hst had (λj hj=>by
       obtain⟨p,hp,_⟩:=(ux done j).1 hj;exact⟨hl j p hp,hj⟩) (λj hj x hx=>by
       obtain⟨p,hp,_⟩:=(ux done j).1 hj;have hlt:=Oq hst.bk hp x hx;have pS:=tK (ops:=ops) hp;have lE:At ops x (ops[x]'(by omega)):=by unfold At;rw[Mb];exact oN (by omega)
       exact hdp lE)
     refine hN qi s1 g1 a w h2 hC.n ⟨hC.T4,hC.df,λk t hk=>?_⟩ hC.Ax ⟨λk v hk hv=>?_,by rw[hA.Kb,hA.dr];exact hinv.fk.df⟩
     .rw[bO,eA]at hk;obtain⟨u,hu,rfl⟩:=hk;exact hC.tm k u hu λi o hi _=>⟨λ_=>by rw[zh,lA];exact hdp hi,λ_=>hl i o hi⟩
     .rcases hinv.fk.tm k v hk hv with h1|h1
      .left
       rw[hA.old k λq hq _ GY=>hk (wz.2 ⟨_,gW (iP.1 hq),GY⟩)];exact h1
      .rw[hA.dr];exact .inr h1
    intro m
    induction m with
    |zero=>
     intro listed bl g a w hinv hc;have hl:∀j o,At ops j o->mb listed j:=λj o ho=>Fu hinv.JF hc ho;refine⟨?_,hend listed bl g a w hinv hl⟩;cases hr:Region.ready .any ops listed with|nil=>rfl|cons j l=>obtain⟨p,hp,hjl,_⟩:=DU hinv.JF (j:=j) (by rw[hr];exact eC);exact absurd (hl j p hp) hjl
    |succ m ihm=>
     intro listed bl g a w hinv hc;refine⟨λhr=>hend listed bl g a w hinv (HN hst.bk hinv.JF hr),λj hj=>?_⟩;obtain⟨p,hp,hjl,hjd⟩:=DU hinv.JF hj;cases uP:done.testBit j with|true=>exact hinv.abG hE hst hp uP hjl hjd (λg' a' w' hinv'=>ihm _ bl g' a' w' hinv' (count_set hinv.JF hp hjl hc)) AX|false=>exact hinv.abH hE hst hp uP ((hda hp).resolve_left (by rw[uP];exact Bool.noConfusion)) hjl hjd (λAw a' w' hinv'=>ihm _ Aw g a' w' hinv' (count_set hinv.JF hp hjl hc)) AX
def aeL(hE:eL E)(hm:E.T.E.P.follows .mixedOrders=true)(dU:fV E.T.E.P call):qO E call:=by
 intro id ops ω kp k r fr s hb h hn g a w hf hs Q hN hP rr anW;have AX:rr≠none->∀o∈ops.toList,∀c,o.op≠.defer c:=λhr=>QS (anW hr);unfold Xt at hb;simp only[eE]at hb;obtain⟨b1,b2,b3,b4,b5,b6⟩:=hb;have hst:xE E ops fr.n:=⟨b1,b2,b3,b4,b5⟩;have hfl:s.fl=0:=nT b6;refine LB hm ?_;obtain⟨hs',he⟩:=hs.grow (fl:=s.fl) (I:=g.bz) (w':={w with drawn:=w.drawn+1}) (λ_ h=>h) (λ_ h=>.inl h) hs.bz (bT _) (λ_ _=>rfl) rfl rfl;have aoX:fA s g w s g {w with drawn:=w.drawn+1}:=
  ⟨hs',⟨λ_ _ h=>h,λ_ _ _ _ h=>h,λ_ h=>h,bT _,λ_ _ _=>rfl,λo b hl hO=>.inl ⟨o,hl,hO⟩,λ_ h=>.inl h,rfl,rfl⟩,rfl,rfl,bT _,λ_ h=>h,λ_ _ _=>rfl,λ_ h=>h⟩
 have hL:∀i,¬mb (Array.replicate ops.size false) i:=λi hl=>by
  unfold mb at hl;by_cases hi:i<ops.size
  .simp[Array.getD,hi]at hl
  .simp[Array.getD,hi]at hl
 refine Pr hE dU hst (s0:=s) (g0:=g) (w0:=w) (kp:=kp) (kk:=k) (r:=r) (λfr' s' g' a' w' h1 h2 h3 h4 h5=>hN fr' s' g' a' w' h1 h2 h3 h4 ?_) (λfr' t s' g' a' v w' h1 h2 h3 h4 h5 h6=>hP fr' t s' g' a' v w' h1 h2 h3 h4 h5 h6) AX _ 0 fr s h ops.size _ (λ_=>0) g a _
  ⟨by simp,rfl,hn,hf.size,hf.df.imp (λ_ _ ht=>ht.ext he hs.bz) he.cj,λk t hk _=>?_,λi _ _ hl=>absurd hl (hL i),λi _ _ hd=>by simp at hd,λi _ _ hl=>absurd hl (hL i),λi _ _ hd=>by simp at hd,λi _ _ hl=>absurd hl (hL i),λi _ hl=>absurd hl (hL i),aoX,eK.refl _ _ _ _,hfl,λj _ hj=>by simp at hj⟩ (by simp)
 .exact h5
 .obtain ⟨v,hv,ht⟩:=hf.tm k (low t) (by rw[bO,hk];rfl);exact⟨v,hv,ht.ext he hs.bz⟩
def ace{E:ga S}(hE:eL E)(hm:E.T.E.P.follows .mixedOrders=true){f:FuncId}{fn:Func}{c:Code}(hfn:E.T.E.UG f=some fn)(hc:fn.body=some c)(n d:Nat)(ps:List Pk)(rs:List Ck) :
  bC E.T.E.P f ⟨ps,rs,E.pn,Fa E n d f ps rs⟩:=Fv hE (λ_=>aeL hE hm) hfn hc n d ps rs
end
end
section
def zD:Value->D
 | .slice none 0 0=>.sl []
 |v=>.lit v
def Uu(z:Value):List D:=z.cells.toList.map zD
def agt(v:Value):aeY (zD v) v:=by
 unfold zD;split
 .exact .inl ⟨rfl,rfl⟩
 .exact .inr rfl
def UN(z:Value):ZOk (Uu z) z.cells:=by refine⟨by simp[Uu],λj d v h1 h2=>?_⟩;simp only[Uu,gQ,eA]at h1;obtain⟨u,hu,rfl⟩:=h1;rw[Mb]at hu;have:u=v:=eI (hu.symm.trans h2);subst this;exact agt u
def aeP:D->Nat
 | .lit (.string _)=>16
 | .sl _=>24
 |_=>8
def m6:List D->Nat
 |[]=>0
 |d::l=>Nat.add (aeP d) (m6 l)
def Fj(agg:Bool)(zs:List D):Nat:=bif agg then m6 zs else match zs with
 |[.lit (.int .i8 _)]|[.lit (.int .u8 _)]|[.lit (.bool _)]=>1
 |[.lit (.int .i16 _)]|[.lit (.int .u16 _)]=>2
 |[.lit (.int .i32 _)]|[.lit (.int .u32 _)]=>4
 |zs=>m6 zs
def RC(P:Program)(f:Field):Option (Nat×Nat×Bool):=match P.info? f.type,P.underlying f.type with
 |some j,some d=>some (f.offset,j.size,dP d)
 |_,_=>none
def fieldsOf(P:Program):List Field->Option (List (Nat×Nat×Bool))
 |[]=>some []
 |f::l=>match RC P f,fieldsOf P l with
  |some x,some r=>some (x::r)
  |_,_=>none
def Cm{P:Program}:∀{l:List Field}{fs:List (Nat×Nat×Bool)},fieldsOf P l=some fs->l.length=fs.length∧∀(k:Nat)off size ag,fs[k]?=some (off,size,ag)->
  ∃f j d',l[k]?=some f∧f.offset=off∧P.info? f.type=some j∧j.size=size∧P.underlying f.type=some d'∧ag=dP d'
 |[],fs,h=>by simp only[fieldsOf,bf]at h;subst h;exact⟨rfl,λk _ _ _ h=>by simp at h⟩
 |f::l,fs,h=>by
  simp only[fieldsOf]at h;split at h
  .rename_i x r h1 h2;simp only[bf]at h;subst h;obtain⟨k1,k2⟩:=Cm h2;refine⟨by simp[k1],λk off size ag hk=>?_⟩;cases k with
   |zero=>
    simp only[sr,bf]at hk;subst hk;unfold RC at h1;split at h1
    .rename_i j d e1 e2;simp only[bf,bB]at h1;obtain⟨rfl,rfl,rfl⟩:=h1;exact⟨f,j,d,rfl,rfl,e1,rfl,e2,rfl⟩
    .cases h1
   |succ k=>exact k2 k off size ag (by simpa using hk)
  .cases h
def Wb(P:Program):TypeDesc->Kd
 | .int k=>.leaf (.int k)
 | .bool=>.leaf .bool
 | .string=>.leaf .str
 | .pointer _=>.ptr
 | .interface _=>.iface
 | .slice e=>match P.info? e,P.underlying e with
  |some j,some d=>match j.zero with
   |some z=>bif Nat.ble j.bytes 4096&&(Nat.blt 0 j.size&&(Nat.ble j.bytes (Fj (dP d) (Uu z))&&(Nat.ble (Fj (dP d) (Uu z)) (Nat.mul 2 j.bytes)&&(Nat.blt 0 j.bytes&&Nat.beq (cA (Uu z)) j.size))))then
     .slice j.size (dP d) (Fj (dP d) (Uu z)) (Uu z)else .other
   |none=>.other
  |_,_=>.other
 | .struct fields=>match fieldsOf P fields.toList with
  |some fs=>.struct fs
  |none=>.other
 | .array len e=>match P.info? e,P.underlying e with
  |some j,some d=>.array len j.size (dP d)
  |_,_=>.other
 |_=>.other
def Z2(P:Program)(d:TypeDesc):NN P (Wb P d) d:=by
 cases d with
 |slice e=>
  simp only[Wb];split
  .rename_i j d h1 h2;split
   .rename_i z hz;cases hb:(Nat.ble j.bytes 4096&&(Nat.blt 0 j.size&&(Nat.ble j.bytes (Fj (dP d) (Uu z))&&(Nat.ble (Fj (dP d) (Uu z)) (Nat.mul 2 j.bytes)&&(Nat.blt 0 j.bytes&&Nat.beq (cA (Uu z)) j.size)))))with|false=>trivial|true=>simp only[eE]at hb;obtain⟨b1,b2,b3,b4,b5,b6⟩:=hb;exact⟨e,j,d,z,rfl,h1,rfl,h2,rfl,hz,UN z,fQ b1,fQ b2,fQ b3,fQ b4,fQ b5,by rw[<-bH];exact nT b6⟩
   .trivial
  .trivial
 |struct fields=>
  simp only[Wb];split
  .rename_i fs h;obtain⟨k1,k2⟩:=Cm h;exact⟨fields,rfl,by simpa using k1,λk off size ag hk=>by
    obtain⟨f,j,d',h1,h2⟩:=k2 k off size ag hk;exact⟨f,j,d',by simpa using h1,h2⟩⟩
  .trivial
 |array len e=>
  simp only[Wb];split
  .rename_i j d h1 h2;exact⟨e,j,d,rfl,h1,rfl,h2,rfl⟩
  .trivial
 |int k=>exact rfl
 |bool=>exact rfl
 |string=>exact rfl
 |pointer e=>exact⟨e,rfl⟩
 |interface ms=>exact⟨ms,rfl⟩
 |_=>trivial
def Wj:Value->Bool
 | .agg _=>true
 |_=>false
def Zn(P:Program)(eqk:TypeId->List Lk)(t:TypeId):Option TI:=match P.info? t,P.underlying t with
 |some x,some d=>match x.zero with
  |some z=>bif (bif dP d then Wj z else !(Wj z))then some ⟨x.size,dP d,Uu z,bif dP d then eqk t else[],Wb P d⟩else none
  |none=>none
 |_,_=>none
variable {P:Program}
def Zm{eqk:TypeId->List Lk}(he:∀t,eqk t≠[]->afF P t (eqk t)){t:TypeId}{i:TI}(h:Zn P eqk t=some i):nu P t i:=by
 unfold Zn at h;split at h
 .rename_i x d hx hd;split at h
  .rename_i z hz;rcases af h with⟨hb,h⟩|⟨_,h⟩
   .simp only[bf]at h;subst h;refine⟨λha hne=>?_,λms O3=>?_,λx' z' hx' GV=>?_,x,d,z,hx,hd,rfl,rfl,hz,UN z,Z2 P d⟩
    .dsimp only at ha hne ⊢;rw[ha]at hne ⊢;exact he t hne
    .rw[hd]at O3;cases O3;rfl
    .rw[hx]at hx';cases hx';rw[hz]at GV;cases GV;refine⟨λha=>?_,λha=>?_⟩
     .dsimp only at ha;rw[ha,dM]at hb;cases z<;>first|exact⟨_,rfl⟩|cases hb
     .dsimp only at ha;rw[ha,gE]at hb;cases z<;>first|rfl|cases hb
   .cases h
  .cases h
 .cases h
end
section
def E4(P:Program)(fk:TypeId->Option (List Lk)):List Field->Nat->Option (List Lk)
 |[],_=>some []
 |f::l,off=>match fk f.type,P.info? f.type with
  |some ks,some j=>bif (f.name != "_")&&(Nat.beq f.offset off&&Nat.beq j.size (cA ks))then(E4 P fk l (Nat.add off (cA ks))).map λr=>ks++r else none
  |_,_=>none
def Cj(P:Program):Nat->TypeId->Option (List Lk)
 |0,_=>none
 |d+1,t=>match P.underlying t with
  |some (.int k)=>some [.int k]
  |some .bool=>some [.bool]
  |some .string=>some [.str]
  |some (.struct fs)=>bif P.stoodInHeld t then none else E4 P (Cj P d) fs.toList 0
  |_=>none
def xk:∀{a b c d:List Value},a.length=b.length->kK (a++c) (b++d)=(kK a b&&kK c d)
 |[],[],c,d,_=>by simp[kK]
 |x::a,y::b,c,d,h=>by simp only[List.cons_append,kK,xk (a:=a) (b:=b) (by simpa using h),Bool.and_assoc]
 |[],_::_,_,_,h=>by simp at h
 |_::_,[],_,_,h=>by simp at h
def tq(ks:List Lk)(l:List Value):Prop:=l.length=ks.length∧∀(j:Nat)(k:Lk)(v:Value),ks[j]?=some k->l[j]?=some v->Aj k v
variable {ks:List Lk}
def tq.split{ks':List Lk}{l:List Value}(h:tq (ks++ks') l):tq ks (l.take ks.length)∧tq ks' (l.drop ks.length):=by
 have hl:=h.1;rw[jg]at hl;refine⟨⟨by rw[LG];omega,λj k v h1 h2=>?_⟩,⟨by rw[LF];omega,λj k v h1 h2=>?_⟩⟩
 .have hj:j<ks.length:=(tW.1 h1).1;exact h.2 j k v (by rw[QZ hj];exact h1) (by rw[xO,bL hj]at h2;exact h2)
 .exact h.2 (ks.length+j) k v (by rw[VE (by omega),Nat.add_sub_cancel_left];exact h1) (by rw[DZ]at h2;exact h2)
section
variable {P:Program}
def Mk(P:Program)(t:TypeId)(l:List Value)(v:Value):Prop:=∃u,P.underlying t=some u∧((dP u=true∧v=.agg l.toArray)∨(dP u=false∧l=[v]))
def aaP{d:Nat}{t:TypeId}(h:Cj P d t=some ks):∃u,P.underlying t=some u∧(dP u=true∨(dP u=false∧ks.length=1)):=by
 cases d with
 |zero=>cases h
 |succ d=>
  simp only[Cj]at h;split at h
  .rename_i k hu;simp only[bf]at h;exact⟨_,hu,.inr ⟨rfl,by rw[<-h];rfl⟩⟩
  .rename_i hu;simp only[bf]at h;exact⟨_,hu,.inr ⟨rfl,by rw[<-h];rfl⟩⟩
  .rename_i hu;simp only[bf]at h;exact⟨_,hu,.inr ⟨rfl,by rw[<-h];rfl⟩⟩
  .rename_i fs hu;exact⟨_,hu,.inl rfl⟩
  .cases h
def aaO:∀(d:Nat)(t:TypeId)(ks:List Lk),Cj P d t=some ks->∀(D:Nat),d<=D->∀(w:World)(xs ys:List Value)(x y:Value),tq ks xs->tq ks ys->Mk P t xs x->Mk P t ys y->
  (Op.equalIn D t x y).run P w=.ok (kK xs ys) w:=by
 intro d
 induction d with
 |zero=>intro t ks h;cases h
 |succ d ih=>
  intro t ks h D hD w xs ys x y hx hy mx my;obtain⟨D,rfl⟩:∃D',D=D'+1:=⟨D-1,by omega⟩;simp only[Cj]at h;obtain⟨u,hu,mx⟩:=mx;obtain⟨u',Gy,my⟩:=my;rw[hu]at Gy;cases Gy;rw[hu]at h;have one:∀{k:Lk},ks=[k]->dP u=false->xs=[x]∧ys=[y]∧Aj k x∧Aj k y:=by
   rintro k rfl ha
   rcases mx with⟨h1,_⟩|⟨_,rfl⟩
   .rw[ha]at h1;cases h1
   rcases my with⟨h1,_⟩|⟨_,rfl⟩
   .rw[ha]at h1;cases h1
   exact⟨rfl,rfl,hx.2 0 _ _ rfl rfl,hy.2 0 _ _ rfl rfl⟩
  split at h
  .rename_i k he;cases he;simp only[bf]at h;obtain⟨rfl,rfl,⟨a,rfl⟩,⟨b,rfl⟩⟩:=one h.symm rfl;rw[run_equalIn_int w D t k k a b hu];simp[kK,Fe]
  .rename_i he;cases he;simp only[bf]at h;obtain⟨rfl,rfl,⟨a,rfl⟩,⟨b,rfl⟩⟩:=one h.symm rfl;rw[run_equalIn_bool' w D t a b hu];simp[kK,Fe]
  .rename_i he;cases he;simp only[bf]at h;obtain⟨rfl,rfl,⟨a,rfl⟩,⟨b,rfl⟩⟩:=one h.symm rfl;rw[run_equalIn_string w D t a b hu,<-beq_toListBytes];simp[kK,Fe]
  .rename_i fs he;cases he;rcases af h with⟨_,h⟩|⟨hst,h⟩
   .cases h
   rcases mx with⟨_,rfl⟩|⟨h1,_⟩;rotate_left
   .cases h1
   rcases my with⟨_,rfl⟩|⟨h1,_⟩;rotate_left
   .cases h1
   have hfo:P.fieldsOf t=fs:=by simp[Program.fieldsOf,hu]
   rw[run_equalIn_struct w D t _ _ (by rw[hfo];exact hu) hst,hfo];have key:∀(l:List Field)(off:Nat)(ks':List Lk),E4 P (Cj P d) l off=some ks'->tq ks' (xs.drop off)->tq ks' (ys.drop off)->off<=xs.length->off<=ys.length->
     (Op.eqFields D xs.toArray ys.toArray l).run P w=.ok (kK (xs.drop off) (ys.drop off)) w:=by
    intro l
    induction l with
    |nil=>intro off ks' h kx ky _ _;simp only[E4,bf]at h;subst h;have e1:=AJ kx.1;rw[e1];simp[Op.eqFields,kK]
    |cons f l ihl=>
     intro off ks' h kx ky ox oy;simp only[E4]at h;split at h
     .rename_i Uy j h1 h2;rcases af h with⟨hb,h⟩|⟨_,h⟩;rotate_left
      .cases h
      simp only[eE]at hb;obtain⟨hnm,hoff,hsz⟩:=hb;have hoff:=nT hoff;have hsz:=nT hsz;rw[bH]at hsz h;simp only[eA]at h;obtain⟨r,hr,rfl⟩:=h;obtain⟨kx1,kx2⟩:=kx.split;obtain⟨ky1,ky2⟩:=ky.split;rw[LQ]at kx2 ky2;have hlx:=kx.1;have hly:=ky.1;rw[jg,LF]at hlx hly;have hpart:∀(zs:List Value),tq Uy ((zs.drop off).take Uy.length)->∃v,(part f.type zs.toArray f.offset).run P w=.ok v w∧Mk P f.type ((zs.drop off).take Uy.length) v:=by
       intro zs hz;obtain⟨u,Gy,pP⟩:=aaP h1;rcases pP with pP|⟨pP,h1l⟩
       .refine ⟨.agg ((zs.drop off).take Uy.length).toArray,?_,u,Gy,.inl ⟨pP,rfl⟩⟩;simp only[part,Sem.run_bind,si Gy,pP,Result.andThen_ok,fR,dB h2,Sem.run_pure,hoff,hsz];simp[VD]
       .have hlz:=hz.1;rw[h1l]at hlz;obtain⟨v,hv⟩:=Md.1 hlz;refine⟨v,?_,u,Gy,.inr ⟨pP,by rw[h1l];exact hv⟩⟩;have hvv:zs[off]?=some v:=by have:=nB (λl=>l[0]?) hv;simpa[xO]using this
        simp only[part,Sem.run_bind,si Gy,pP,Result.andThen_ok,hoff];simp[hvv]
      obtain⟨v1,e1,m1⟩:=hpart xs kx1;obtain⟨v2,e2,m2⟩:=hpart ys ky1;have GX:=ih f.type Uy h1 D (by omega) w _ _ v1 v2 kx1 ky1 m1 m2;have kA:=ihl (off+Uy.length) r hr kx2 ky2 (by omega) (by omega);have aoh:f.name≠ "_":=by simpa using hnm
      have hsx:xs.drop off=(xs.drop off).take Uy.length++xs.drop (off+Uy.length):=by rw[<-LQ];exact(Mc _ _).symm
      have hsy:ys.drop off=(ys.drop off).take Uy.length++ys.drop (off+Uy.length):=by rw[<-LQ];exact(Mc _ _).symm
      rw[hsx,hsy,xk (by rw[kx1.1,ky1.1])];simp only[Op.eqFields,aoh,ne_eq,not_false_eq_true,fR,Sem.run_bind,e1,e2,GX,Result.andThen_ok];cases hq:kK ((xs.drop off).take Uy.length) ((ys.drop off).take Uy.length)with|true=>simpa using kA|false=>simp
     .cases h
   have:=key fs.toList 0 ks h (by simpa using hx) (by simpa using hy) (wZ _) (wZ _);simpa using this
  .cases h
def MU(P:Program)(t:TypeId):List Lk:=bif P.eqGuardType P.depth t then[]else match Cj P 100 t with
 |some ks=>match P.underlying t with
  |some u=>bif dP u then ks else[]
  |none=>[]
 |none=>[]
def Xb(t:TypeId)(h:MU P t≠[]):afF P t (MU P t):=by
 unfold MU at h ⊢;cases hg:P.eqGuardType P.depth t with
 |true=>rw[hg]at h;exact absurd rfl h
 |false=>
  rw[hg]at h;simp only[gE]at h ⊢;cases hk:Cj P 100 t with
  |none=>rw[hk]at h;exact absurd rfl h
  |some ks=>
   rw[hk]at h;dsimp only at h ⊢;cases hu:P.underlying t with
   |none=>rw[hu]at h;exact absurd rfl h
   |some u=>
    rw[hu]at h;dsimp only at h ⊢;cases ha:dP u with
    |false=>rw[ha]at h;exact absurd rfl h
    |true=>
     simp only[dM];intro w op x y xs ys hx hy kx ky;refine⟨run_eqGuard_agg w op t x y xs ys hg,?_⟩;have:=aaO 100 t ks hk Op.maxDepth (by decide) w xs.toList ys.toList (.agg xs) (.agg ys) ⟨by simpa using hx,λj k v h1 h2=>kx j k v h1 (by simpa using h2)⟩ ⟨by simpa using hy,λj k v h1 h2=>ky j k v h1 (by simpa using h2)⟩
      ⟨u,hu,.inl ⟨ha,rfl⟩⟩ ⟨u,hu,.inl ⟨ha,rfl⟩⟩
     exact this
end
end
section
def cS{l:List Ty}(h:l.all (λt=>!(js t))=true):∀t∈l,js t=false:=by intro t ht;rw[gr]at h;simpa using h t ht
namespace Tr
variable {α β:Type}
def mapKey(f:Nat->α->β):Tr α->Tr β
 | .nil=>.nil
 | .node v l r=>.node (match v with|some x=>some (f 0 x)|none=>none) (mapKey (λj=>f (Nat.succ (Nat.mul 2 j))) l) (mapKey (λj=>f (Nat.succ (Nat.succ (Nat.mul 2 j)))) r)
def ym:∀(t:Tr α)(f:Nat->α->β)(k:Nat),(t.mapKey f).get k=(t.get k).map (f k)
 | .nil,f,k=>by have:(Tr.nil:Tr α).mapKey f=.nil:=rfl;rw[this,Tr.get_nil,Tr.get_nil];rfl
 | .node v l r,f,0=>by simp only[mapKey,Tr.fN];cases v<;>rfl
 | .node v l r,f,k+1=>by
  simp only[mapKey,Tr.cP];by_cases hk:k%2=0
  .rw[bL hk,bL hk,ym l];have:Nat.succ (Nat.mul 2 (k/2))=k+1:=by show 2*(k/2)+1=k+1;omega
   rw[this]
  .rw[bw hk,bw hk,ym r];have:Nat.succ (Nat.succ (Nat.mul 2 (k/2)))=k+1:=by show 2*(k/2)+1+1=k+1;omega
   rw[this]
def ou{t:Tr α}{f g:Nat->α->β}(h:t.mapKey f=t.mapKey g){k:Nat}{v:α}(hv:t.get k=some v):f k v=g k v:=by have:=nB (λt=>t.get k) h;simp only[ym,hv,dX,bf]at this;exact this
end Tr
end
section
def Mw:List (String×FuncId)->String->Option FuncId
 |[],_=>none
 |p::l,m=>bif p.1==m then some p.2 else Mw l m
def mkE(P:Program)(N9:Tr TI)(Sp:Tr Ty)(YV:Tr MT)(uD:Tr (List (String×FuncId)))(rN:Tr Func)(nst:Nat->Option Nat):gA:=
 ⟨⟨P,λk=>N9.get k,λk=>rN.get k,λ_=>none⟩,λk=>Sp.get k,λk=>YV.get k,λt m=>match uD.get t with|some l=>Mw l m|none=>none,nst⟩
section
variable (S:Sg)(P:Program)
def mN(τ:Ty):List D:=bif js τ then(match enc S τ (S.zero τ)with|.agg l=>l|_=>[])else[enc S τ (S.zero τ)]
def Ji(τ:Ty)(i:TI):Kd×Bool×Nat×Bool×List D:=match τ with
 | .int k=>(.leaf (.int k),false,1,true,mN S τ)
 | .bool=>(.leaf .bool,false,1,true,mN S τ)
 | .str=>(.leaf .str,false,1,true,mN S τ)
 | .sl e=>(.slice (S.width e) (js e) (vn S e) (mN S e),false,1,true,mN S τ)
 | .st n=>(i.kd,true,cA (S.fs n),true,mN S τ)
 | .cR _=>(.iface,false,1,true,mN S τ)
def Jh(τ:Ty)(i:TI):Kd×Bool×Nat×Bool×List D:=(i.kd,i.agg,i.size,(match τ with|.sl e=>Nat.blt 0 (S.width e)|_=>true),i.zero)
def Dz(τ:Ty):bif js τ then D.agg (mN S τ)=enc S τ (S.zero τ)else mN S τ=[enc S τ (S.zero τ)]:=by cases τ<;>rfl
def ac6{τ:Ty}{i:TI}(h:Ji S τ i=Jh S τ i):xy S i τ∧PO S i τ:=by
 have hz:i.zero=mN S τ->PO S i τ:=by intro e;unfold PO;rw[e];exact Dz S τ
 cases τ with
 |int k=>simp only[Ji,Jh,bB]at h;obtain⟨h1,h2,h3,_,h5⟩:=h;exact⟨⟨h1.symm,h2.symm,h3.symm⟩,hz h5.symm⟩
 |bool=>simp only[Ji,Jh,bB]at h;obtain⟨h1,h2,h3,_,h5⟩:=h;exact⟨⟨h1.symm,h2.symm,h3.symm⟩,hz h5.symm⟩
 |str=>simp only[Ji,Jh,bB]at h;obtain⟨h1,h2,h3,_,h5⟩:=h;exact⟨⟨h1.symm,h2.symm,h3.symm⟩,hz h5.symm⟩
 |sl e=>simp only[Ji,Jh,bB]at h;obtain⟨h1,h2,h3,h4,h5⟩:=h;exact⟨⟨⟨_,h1.symm,Dz S e⟩,h2.symm,h3.symm,fQ h4.symm⟩,hz h5.symm⟩
 |st n=>simp only[Ji,Jh,bB]at h;obtain⟨_,h2,h3,_,h5⟩:=h;exact⟨⟨h2.symm,by rw[<-h3,bH]⟩,hz h5.symm⟩
 |cR n=>simp only[Ji,Jh,bB]at h;obtain⟨h1,h2,h3,_,h5⟩:=h;exact⟨⟨h1.symm,h2.symm,h3.symm⟩,hz h5.symm⟩
def agP:Ty->TypeDesc->Bool
 | .int k,.int j=>nD j k
 | .bool,.bool=>true
 | .str,.string=>true
 |_,_=>false
def Z1{t:Ty}{d:TypeDesc}(h:agP t d=true):ia t d:=by
 cases t<;>cases d<;>first|exact rfl|(cases h;done)|skip
 rename_i k j;have:j=k:=by cases j<;>cases k<;>first|rfl|cases h
 rw[this];exact rfl
def mtB(E:gA)(t:Nat)(m:MT):Bool:=match E.E.P.underlying t with
 |some (.map tY el)=>Nat.beq el m.el&&((match E.E.P.underlying tY with|some d=>agP m.kt d|none=>false)&&((match E.E.P.info? m.el with|some x=>x.zero.isSome|none=>false)&&
   (match m.vt with|some vt=>(match E.ty m.el with|some t'=>r6 t' vt|none=>false)&&(E.E.ti m.el).isSome|none=>true)))
 |_=>false
variable {t:Nat}
def adj{E:gA}{m:MT}(h:mtB E t m=true):∃tY d,E.E.P.underlying t=some (.map tY m.el)∧E.E.P.underlying tY=some d∧ia m.kt d∧(∃x z,E.E.P.info? m.el=some x∧x.zero=some z)∧
  ∀vt,m.vt=some vt->E.ty m.el=some vt∧∃i,E.E.ti m.el=some i:=by
 unfold mtB at h;split at h
 .rename_i tY el hu;simp only[eE]at h;obtain⟨h1,h2,h3,h4⟩:=h;have:=nT h1;subst this;cases hk:E.E.P.underlying tY with
  |none=>rw[hk]at h2;cases h2
  |some d=>
   rw[hk]at h2;cases hx:E.E.P.info? m.el with
   |none=>rw[hx]at h3;cases h3
   |some x=>
    rw[hx]at h3;obtain⟨z,hz⟩:=Option.isSome_iff_exists.1 h3;refine⟨tY,d,hu,hk,Z1 h2,⟨x,z,rfl,hz⟩,λvt hvt=>?_⟩;rw[hvt]at h4;dsimp only at h4;rw[eE]at h4;cases ht:E.ty m.el with
    |none=>rw[ht]at h4;cases h4.1
    |some t'=>rw[ht]at h4;exact⟨by rw[fG h4.1],Option.isSome_iff_exists.1 h4.2⟩
 .cases h
def Wi:TypeDesc->Bool
 | .pointer _=>true
 |_=>false
def Rd(P:Program)(t:Nat)(p:String×FuncId):Bool:=match P.info? t,P.underlying t with
 |some x,some d=>match x.methods.find? (·.name==p.1)with
  |some mm=>match mm.path.toList,mm.func with
   |[],some (f,b)=>Nat.beq f p.2&&(bif b then Wi d else !(Wi d))
   |_,_=>false
  |none=>false
 |_,_=>false
def VX{P:Program}{p:String×FuncId}(h:Rd P t p=true):∃x mm d,P.info? t=some x∧x.methods.find? (·.name==p.1)=some mm∧mm.path=#[]∧P.underlying t=some d∧
  ((mm.func=some (p.2,false)∧∀e,d≠.pointer e)∨(mm.func=some (p.2,true)∧∃e,d=.pointer e)):=by
 unfold Rd at h;split at h
 .rename_i x d hx hd;split at h
  .rename_i mm hm;split at h
   .rename_i f b h1 h2;rw[eE]at h;have:=nT h.1;subst this;refine⟨x,mm,d,hx,hm,by simpa using h1,hd,?_⟩;cases b with
    |false=>refine .inl ⟨h2,λe he=>?_⟩;subst he;exact Bool.noConfusion h.2
    |true=>
     refine .inr ⟨h2,?_⟩;cases d<;>first|exact⟨_,rfl⟩|exact Bool.noConfusion h.2
   .cases h
  .cases h
 .cases h
def Ib:∀{l:List (String×FuncId)}{m:String}{f:FuncId},Mw l m=some f->(m,f)∈l
 |[],_,_,h=>by cases h
 |p::l,m,f,h=>by
  simp only[Mw]at h;rcases af h with⟨hb,h⟩|⟨_,h⟩
  .have:p.1=m:=by simpa using hb
   simp only[bf]at h;subst h;subst this;exact eC
  .exact gL _ (Ib h)
end
def Xj{S:Sg}(hS:fy S){P:Program}{N9:Tr TI}{Sp:Tr Ty}{YV:Tr MT}{uD:Tr (List (String×FuncId))}{rN:Tr Func}{nst:Nat->Option Nat}
  (h1:N9.mapKey (λk _=>Zn P (MU P) k)=N9.mapKey λ_ i=>some i)
  (h2:rN.mapKey (λk _=>P.funcs[k]?)=rN.mapKey λ_ f=>some f)
  (h3:Sp.mapKey (λk τ=>(N9.get k).map (Ji S τ))=Sp.mapKey λk τ=>(N9.get k).map (Jh S τ))
  (h4:rN.mapKey (λ_ f=>f.name== "runtime.NumGoroutine")=rN.mapKey λ_ _=>false)
  (h5:YV.mapKey (λk m=>mtB (mkE P N9 Sp YV uD rN nst) k m)=YV.mapKey λ_ _=>true)
  (h6:uD.mapKey (λk l=>l.all (Rd P k))=uD.mapKey λ_ _=>true) (Hh:FuncId->Option (lF S)) (sh:FuncId->Nat->Option LSh) (hg:∀f c,Hh f=some c->bC P f c) (pn:Bool) :
  eL (⟨mkE P N9 Sp YV uD rN nst,Hh,sh,pn⟩:ga S):=by
 have hrow:∀k i τ,N9.get k=some i->Sp.get k=some τ->xy S i τ∧PO S i τ:=by intro k i τ hi hτ;have:=Tr.ou h3 hτ;simp only[hi,dX,bf]at this;exact ac6 S this
 refine⟨hS,⟨λk i hi=>?_,λf fn hf=>?_⟩,⟨λk i τ hi hτ=>(hrow k i τ hi hτ).1⟩,λf fn hf=>Tr.ou h4 hf,λ_=>rfl,⟨λk i τ hi hτ=>(hrow k i τ hi hτ).2,λt m hm=>?_,λt nm f hf=>?_⟩,hg⟩
 .exact Zm (λt h=>Xb t h) (Tr.ou h1 hi)
 .exact Tr.ou h2 hf
 .exact adj (Tr.ou h5 hm)
 .have hf':(match uD.get t with|some l=>Mw l nm|none=>none)=some f:=hf;split at hf'
  .rename_i l hl;have h7:=Tr.ou h6 hl;rw[gr]at h7;exact VX (h7 _ (Ib hf'))
  .cases hf'
end
section
def Rx.el{R P α:Type}(x:Rx R P)(f:R->Option α)(g:P->Option α):Option α:=match x with
 | .ok r=>f r
 | .dm p=>g p
def LO.el{X R B P α:Type}(o:LO X R B P)(f:Nat->X->Option α)(g:B->R->Option α)(h:B->P->Option α):Option α:=match o with
 | .next _=>none
 | .out j x=>f j x
 | .ret b r=>g b r
 | .dm b p=>h b p
def LO.jn{X R B P α:Type}(o:LO X R B P)(e:X->Option α)(f:Nat->X->Option α)(g:B->R->Option α)(h:B->P->Option α):Option α:=match o with
 | .next x=>e x
 | .out j x=>f j x
 | .ret b r=>g b r
 | .dm b p=>h b p
def Jk{α:Type}(n:Nat)(a:α):List α:=List.replicate n a
def CV(a b:Bool):Bool:=a&&b
def abh(a b:Nat):Nat:=Nat.add a b
def Ss(l:List (FuncId×lF S))(f:FuncId):Option (lF S):=match l with
 |[]=>none
 |p::l=>bif Nat.beq p.1 f then some p.2 else Ss l f
def OkL(P:Program):List (FuncId×lF S)->Prop
 |[]=>True
 |p::l=>bC P p.1 p.2∧OkL P l
def QI{P:Program}:∀{l:List (FuncId×lF S)},OkL P l->∀f c,Ss l f=some c->bC P f c
 |[],_,_,_,h=>by cases h
 |p::l,⟨hp,hl⟩,f,c,h=>by
  unfold Ss at h;cases hb:Nat.beq p.1 f with
  |true=>
   rw[hb]at h;have:p.1=f:=nT hb;injection h with h
   rw[<-h,<-this];exact hp
  |false=>rw[hb]at h;exact QI hl f c h
variable {P:Program}
def bY{f:FuncId}{ps:List Pk}{rs:List Ck}{pn:Bool}(h:mM P f):bC P f (⟨ps,rs,pn,λ_=>none⟩:lF S):=
 ⟨h,λ_ _ h=>by cases h⟩
def rV{α:Type}(b:List α×Unit):Hv (YX b.1) (some (([],()),())) (some (b,()))=some (b,()):=by obtain⟨l,u⟩:=b;cases l with|nil=>simp[Hv,YX]|cons a l=>rfl
end
section
def lQ(S:Sg):Ty->List Ty
 | .st m=>S.fs m
 | τ=>[τ]
def QD:List Ty->List Ty->Bool
 |[],[]=>true
 |a::l,b::m=>r6 a b&&QD l m
 |_,_=>false
def Lf:∀{l m:List Ty},QD l m=true->l=m
 |[],[],_=>rfl
 |a::l,b::m,h=>by simp only[QD,eE]at h;rw[fG h.1,Lf h.2]
 |[],_::_,h=>by cases h
 |_::_,[],h=>by cases h
def Dn(S:Sg)(P:Program)(ty:TypeId->Option Ty):List Field->Nat->List Ty->Bool
 |[],_,[]=>true
 |f::l,off,ts=>match ty f.type with
  |some τ=>Nat.beq f.offset off&&(Nat.beq (P.cellsOf f.type) (cA (lQ S τ))&&(QD (ts.take (cA (lQ S τ))) (lQ S τ)&&Dn S P ty l (off+cA (lQ S τ)) (ts.drop (cA (lQ S τ)))))
  |none=>false
 |_,_,_=>false
def rdT(S:Sg)(P:Program)(ty:TypeId->Option Ty)(t:TypeId)(τ:Ty):Bool:=match P.underlying t,τ with
 |some .bool,.bool=>true
 |some (.int k),.int k'=>nD k k'
 |some .string,.str=>true
 |some (.slice e),.sl τ'=>match ty e with
  |some KU=>r6 KU τ'&&(Nat.beq (P.cellsOf e) (S.width τ')&&(Nat.ble (vn S τ') (Nat.mul 2 (P.bytesOf e))&&Nat.blt 0 (S.width τ')))
  |none=>false
 |some (.struct fs),.st n=>Nat.beq (P.cellsOf t) (cA (S.fs n))&&Dn S P ty fs.toList 0 (S.fs n)
 |_,_=>false
section
variable {P:Program}{w:World}{I:Nat->Prop}
def Ut(I:Nat->Prop)(w:World)(ds:List D)(vs:List Value):Prop:=PW (dZ I w) ds vs
def mapM_some{α β:Type}{f:α->Option β}:∀{l:List α}{r:List β},l.mapM f=some r->r.length=l.length∧∀(i:Nat)(a:α),l[i]?=some a->∃b,r[i]?=some b∧f a=some b
 |[],r,h=>by simp only[List.mapM_nil,Option.pure_def,bf]at h;subst h;exact⟨rfl,λi a h=>by simp at h⟩
 |x::l,r,h=>by simp only[List.mapM_cons,Option.bind_eq_bind,sq,Option.pure_def,bf]at h;obtain⟨b,hb,r',hr,rfl⟩:=h;obtain⟨h1,h2⟩:=mapM_some hr;refine⟨by simp[h1],λi a hi=>?_⟩;cases i with|zero=>simp only[sr,bf]at hi;subst hi;exact⟨b,rfl,hb⟩|succ i=>simpa using h2 i a (by simpa using hi)
variable {a:Addr}{v:Value}{fuel:Nat}{cs:List Value}{ps:List MemPlace}
def Pz{n:Nat}{vs:List Value}(h:w.cells? 0 a n=some vs):vs.length=n∧∀j,j<n->∃v,vs[j]?=some v∧w.cell? (a.add j)=some v:=by unfold World.cells? at h;rw[bL (wZ _)]at h;obtain⟨h1,h2⟩:=mapM_some h;rw[List.length_range]at h1;refine⟨h1,λj hj=>?_⟩;exact h2 j j (by rw[SJ hj])
def aba(h:w.cell? a=some v):a.block<w.heap.size:=by
 unfold World.cell? at h;split at h
 .rename_i hb;exact(Ju.1 hb).1
 .cases h
def Cw{α:Type}(p:Nat->α->Prop):∀n,(∀i,i<n->∃x,p i x)->∃l:List α,l.length=n∧∀i x,l[i]?=some x->p i x
 |0,_=>⟨[],rfl,λi x h=>by simp at h⟩
 |n+1,h=>by
  obtain⟨l,h1,h2⟩:=Cw p n (λi hi=>h i (by omega));obtain⟨x,hx⟩:=h n (by omega);refine⟨l++[x],by simp[h1],λi y hi=>?_⟩;rw[lI]at hi;split at hi
  .exact h2 i y hi
  .rename_i hge;have:i=n:=by have:=(tW.1 hi).1;simp at this;omega
   subst this;simp[h1]at hi;subst hi;exact hx
def Ef{d:D}(h:dZ I w d v):Ut I w [d] [v]:=⟨rfl,λj a b h1 h2=>by
 cases j with
 |zero=>simp at h1 h2;subst h1;subst h2;exact h
 |succ j=>simp at h1⟩
variable {H:Type}{M9:TypeId×Value->H}{held:Bool}
def trod_bool{t:TypeId}{d:DataW H}(hu:P.underlying t=some .bool)(h:DataW.trod M9 P w 0 (λ_=>true) held fuel t cs=some (d,ps)):∃b,cs=[.bool b]:=by
 cases fuel with
 |zero=>simp[DataW.trod]at h
 |succ n=>
  rcases cs with _|⟨c,_|⟨c2,cs⟩⟩
  .simp[DataW.trod,hu]at h
  .cases c<;>simp[DataW.trod,hu]at h;exact⟨_,rfl⟩
  .simp[DataW.trod,hu]at h
def trod_int{t:TypeId}{k:IntKind}{d:DataW H}(hu:P.underlying t=some (.int k))(h:DataW.trod M9 P w 0 (λ_=>true) held fuel t cs=some (d,ps)):∃n,cs=[.int k n]:=by
 cases fuel with
 |zero=>simp[DataW.trod]at h
 |succ n=>
  rcases cs with _|⟨c,_|⟨c2,cs⟩⟩
  .simp[DataW.trod,hu]at h
  .cases c<;>simp[DataW.trod,hu]at h;obtain⟨⟨rfl,_⟩,_⟩:=h;exact⟨_,rfl⟩
  .simp[DataW.trod,hu]at h
def UU{t:TypeId}{d:DataW H}(hu:P.underlying t=some .string)(h:DataW.trod M9 P w 0 (λ_=>true) held fuel t cs=some (d,ps)):∃b,cs=[.string b]:=by
 cases fuel with
 |zero=>simp[DataW.trod]at h
 |succ n=>
  rcases cs with _|⟨c,_|⟨c2,cs⟩⟩
  .simp[DataW.trod,hu]at h
  .cases c<;>simp[DataW.trod,hu]at h;exact⟨_,rfl⟩
  .simp[DataW.trod,hu]at h
def trod_slice{t e:TypeId}{d:DataW H}(hu:P.underlying t=some (.slice e))(h:DataW.trod M9 P w 0 (λ_=>true) held (fuel+1) t cs=some (d,ps)) :
  cs=[.slice none 0 0]∨∃(a:Addr)(len cap:Nat)(elems rest:List (DataW H)),cs=[.slice (some a) len cap]∧len<=cap∧d=.slice elems rest∧elems.length=len∧
   ∀i,i<len->∃vs di pi,w.cells? 0 (a.add (i*P.cellsOf e)) (P.cellsOf e)=some vs∧DataW.trod M9 P w 0 (λ_=>true) held fuel e vs=some (di,pi)∧elems[i]?=some di:=by
 rcases cs with _|⟨c,_|⟨c2,cs⟩⟩
 .simp[DataW.trod,hu]at h
 .cases c with
  |slice a len cap=>
   cases a with
   |none=>
    rcases len with _|len
    .rcases cap with _|cap
     .exact .inl rfl
     .simp[DataW.trod,hu]at h
    .simp[DataW.trod,hu]at h
   |some a=>
    right
    simp only[DataW.trod,hu]at h;split at h
    .rename_i hc;rw[sq]at h;obtain⟨els,h1,h2⟩:=h;rw[eA]at h2;obtain⟨rest,_,h3⟩:=h2;simp only[bB]at h3;obtain⟨rfl,_⟩:=h3;obtain⟨h4,h5⟩:=mapM_some h1;rw[List.length_range]at h4;refine⟨a,len,cap,_,_,rfl,hc.2.1,rfl,by simpa using h4,λi hi=>?_⟩;obtain⟨b,hb,hf⟩:=h5 i i (by rw[SJ hi]);rw[sq]at hf;obtain⟨vs,hv,ht⟩:=hf;exact⟨vs,b.1,b.2,hv,ht,by rw[gQ,hb];rfl⟩
    .cases h
  |_=>simp[DataW.trod,hu]at h
 .simp[DataW.trod,hu]at h
def trod_struct{t:TypeId}{fs:Array Field}{d:DataW H}(hu:P.underlying t=some (.struct fs))(h:DataW.trod M9 P w 0 (λ_=>true) held (fuel+1) t cs=some (d,ps)) :
  cs.length=P.cellsOf t∧∃parts:List (DataW H),d=.agg parts∧parts.length=fs.toList.length∧
   ∀(i:Nat)(f:Field),fs.toList[i]?=some f->∃di pi,DataW.trod M9 P w 0 (λ_=>true) held fuel f.type ((cs.drop f.offset).take (P.cellsOf f.type))=some (di,pi)∧parts[i]?=some di:=by
 simp only[DataW.trod,hu]at h;split at h
 .rename_i hc;rw[eA]at h;obtain⟨xs,h1,h2⟩:=h;simp only[bB]at h2;obtain⟨rfl,_⟩:=h2;obtain⟨h4,h5⟩:=mapM_some h1;refine⟨hc,_,rfl,by simpa using h4,λi f hf=>?_⟩;obtain⟨b,hb,ht⟩:=h5 i f hf;exact⟨b.1,b.2,ht,by rw[gQ,hb];rfl⟩
 .cases h
def TO(hS:fy S):∀(τ:Ty)(x:den S.A τ),∃h:lP S.A (lQ S τ),gw S (lQ S τ) h=(enc S τ x).cells
 | .st n,x=>⟨S.get n x,by simp only[enc,D.cells];exact(hS.cells n x).symm⟩
 | .int k,x=>⟨(x,()),rfl⟩
 | .bool,x=>⟨(x,()),rfl⟩
 | .str,x=>⟨(x,()),rfl⟩
 | .sl e,x=>⟨(x,()),rfl⟩
 | .cR n,x=>⟨(x,()),(mB _).symm⟩
def Cs:∀(l m:List Ty)(h:lP S.A l)(k:lP S.A m),∃r:lP S.A (l++m),gw S (l++m) r=gw S l h++gw S m k
 |[],m,_,k=>⟨k,rfl⟩
 |t::l,m,h,k=>by obtain⟨r,hr⟩:=Cs l m h.2 k;exact⟨(h.1,r),by simp only[List.cons_append,gw,hr]⟩
def GC{ts:List TypeId}{ds:List (DataW H)}(h:(DataW.weightsEach P ts ds).all (·<=reachBytes)=true):∀(i:Nat)(t:TypeId)(d:DataW H),ts[i]?=some t->ds[i]?=some d->(d.weights P t).all (·<=reachBytes)=true:=by
 induction ts generalizing ds with
 |nil=>intro i t d h1;simp at h1
 |cons a ts ih=>
  intro i t d h1 h2;cases ds with
  |nil=>simp at h2
  |cons b ds=>
   simp only[DataW.weightsEach,LS,eE]at h;cases i with|zero=>simp at h1 h2;subst h1;subst h2;exact h.1|succ i=>exact ih h.2 i t d (by simpa using h1) (by simpa using h2)
def I1{e:TypeId}{ds:List (DataW H)}(h:(DataW.weightsAll P e ds).all (·<=reachBytes)=true):∀d∈ds,(d.weights P e).all (·<=reachBytes)=true:=by
 induction ds with
 |nil=>intro d hd;cases hd
 |cons a ds ih=>
  simp only[DataW.weightsAll,LS,eE]at h;intro d hd;rcases fc.1 hd with rfl|hd
  .exact h.1
  .exact ih h.2 d hd
def Lh(hS:fy S){ty:TypeId->Option Ty}
  (ih:∀(t:TypeId)(τ:Ty)(cs:List Value)(d:DataW H)(ps:List MemPlace),ty t=some τ->DataW.trod M9 P w 0 (λ_=>true) held fuel t cs=some (d,ps)->(d.weights P t).all (·<=reachBytes)=true->∃x:den S.A τ,Ut I w (enc S τ x).cells cs) :
  ∀(fs:List Field)(off:Nat)(ts:List Ty)(parts:List (DataW H)),Dn S P ty fs off ts=true->off+ts.length=cs.length->(DataW.weightsEach P (fs.map (·.type)) parts).all (·<=reachBytes)=true->parts.length=fs.length->
   (∀(i:Nat)(f:Field),fs[i]?=some f->∃di pi,DataW.trod M9 P w 0 (λ_=>true) held fuel f.type ((cs.drop f.offset).take (P.cellsOf f.type))=some (di,pi)∧parts[i]?=some di)->
   ∃h:lP S.A ts,Ut I w (gw S ts h) (cs.drop off):=by
 intro fs
 induction fs with
 |nil=>
  intro off ts parts h1 h2 _ _ _;cases ts with|nil=>exact⟨(),by simp[gw];rw[List.drop_eq_nil_of_le (by simp at h2;omega)];exact⟨rfl,λj a b h=>by simp at h⟩⟩|cons t ts=>cases h1
 |cons f fs ihf=>
  intro off ts parts h1 h2 h3 h4 h5;simp only[Dn]at h1;split at h1;rotate_left
  .cases h1
  rename_i τ hτ;simp only[eE,bH]at h1;obtain⟨e1,e2,e3,h1⟩:=h1;have e1:=nT e1;have e2:=nT e2;have e3:=Lf e3;obtain⟨d,pi,hd,hp⟩:=h5 0 f rfl;cases parts with
  |nil=>simp at hp
  |cons p parts=>
  simp only[sr,bf]at hp;subst hp;have hw:=GC h3 0 f.type p rfl rfl;obtain⟨x,hx⟩:=ih _ _ _ _ _ hτ hd hw;obtain⟨k,hk⟩:=TO hS τ x;simp only[lZ,DataW.weightsEach,LS,eE]at h3;have hlen:(lQ S τ).length<=ts.length:=by have:=nB List.length e3;rw[LG]at this;omega
  obtain⟨r,hr⟩:=ihf (off+(lQ S τ).length) (ts.drop (lQ S τ).length) parts h1 (by rw[LF];omega) h3.2 (by simpa using h4) (λi f hf=>by
   obtain⟨di,pi,q1,q2⟩:=h5 (i+1) f (by simpa using hf);exact⟨di,pi,q1,by simpa using q2⟩)
  obtain⟨m,hm⟩:=Cs (lQ S τ) (ts.drop (lQ S τ).length) k r;have hts:lQ S τ++ts.drop (lQ S τ).length=ts:=by
   conv=>rhs;rw[<-Mc (lQ S τ).length ts]
   rw[e3]
  rw[e1,e2]at hx;rw[<-hk]at hx;have hcs:cs.drop off=(cs.drop off).take (lQ S τ).length++cs.drop (off+(lQ S τ).length):=by rw[<-LQ,Mc]
  have He:∃m:lP S.A (lQ S τ++ts.drop (lQ S τ).length),Ut I w (gw S _ m) (cs.drop off):=⟨m,by
   rw[hm,hcs];exact PW.append hx hr⟩
  rw[hts]at He;exact He
def Zl(hS:fy S){ty:TypeId->Option Ty}(hR:∀t τ,ty t=some τ->rdT S P ty t τ=true)(hI:∀b,b<w.heap.size->I b) :
  ∀(fuel:Nat)(t:TypeId)(τ:Ty)(cs:List Value)(d:DataW H)(ps:List MemPlace),ty t=some τ->DataW.trod M9 P w 0 (λ_=>true) held fuel t cs=some (d,ps)->(d.weights P t).all (·<=reachBytes)=true->
   ∃x:den S.A τ,Ut I w (enc S τ x).cells cs:=by
 intro fuel
 induction fuel with
 |zero=>intro t τ cs d ps _ h;simp[DataW.trod]at h
 |succ fuel ih=>
  intro t τ cs d ps hτ h Tk;have hr:=hR t τ hτ;unfold rdT at hr;split at hr
  .rename_i hu;obtain⟨b,rfl⟩:=trod_bool hu h;exact⟨b,Ef (.lit _)⟩
  .rename_i k k' hu;obtain⟨n,rfl⟩:=trod_int hu h;obtain rfl:k=k':=by cases k<;>cases k'<;>first|rfl|cases hr
   exact⟨n,Ef (.lit _)⟩
  .rename_i hu;obtain⟨b,rfl⟩:=UU hu h;refine⟨ofBytes b,Ef ?_⟩;have:enc S .str (ofBytes b)=.lit (.string b):=by simp only[enc,bF,ofBytes]
   rw[this];exact .lit _
  .rename_i e τ' hu;split at hr;rotate_left
   .cases hr
   rename_i KU hτe;simp only[eE]at hr;obtain⟨h1,h2,h3,h4⟩:=hr;obtain rfl:=fG h1;have h2:=nT h2;have h3:=fQ h3;have h4:0<S.width KU:=fQ h4;rcases trod_slice hu h with rfl|⟨a,len,cap,elems,rest,rfl,hlc,rfl,hel,hall⟩
   .refine ⟨[],Ef ?_⟩;exact .sl [] none 0 0 (λ_ _=>undef) (bT _) (λd hd=>by cases hd) (λd hd=>by cases hd) (λh=>absurd rfl h) (λi j d c hd=>by simp at hd)
   .simp only[DataW.weights,hu,Ed,LS,eE,qA]at Tk;have hev:=I1 Tk.2.1;obtain⟨xs,hxl,hxs⟩:=Cw (λi(x:den S.A KU)=>∃vs,w.cells? 0 (a.add (i*P.cellsOf e)) (P.cellsOf e)=some vs∧Ut I w (enc S KU x).cells vs) len (λi hi=>by
     obtain⟨vs,di,pi,q1,q2,q3⟩:=hall i hi;obtain⟨x,hx⟩:=ih e KU vs di pi hτe q2 (hev di (gW q3));exact⟨x,vs,q1,hx⟩)
    have hcell:∀(i j:Nat)(x:den S.A KU)(c:D),xs[i]?=some x->(enc S KU x).cells[j]?=some c->∃v,w.cell? (a.add (i*S.width KU+j))=some v∧dZ I w c v:=by
     intro i j x c hx hc;obtain⟨vs,q1,q2⟩:=hxs i x hx;obtain⟨q3,q4⟩:=Pz q1;have hj:j<P.cellsOf e:=by have:=(tW.1 hc).1;rw[jU hS]at this;omega
     obtain⟨v,hv,hcv⟩:=q4 j hj;rw[Addr.add_add,h2]at hcv;exact⟨v,hcv,q2.2 j c v hc hv⟩
    refine⟨xs,Ef ?_⟩;have tF:enc S (.sl KU) xs=.sl (xs.map (enc S KU)):=rfl;rw[tF];have hlen:(xs.map (enc S KU)).length=len:=by simp[hxl]
    rw[show(Value.slice (some a) len cap)=.slice (some a) (xs.map (enc S KU)).length cap by rw[hlen]];refine .sl _ (some a) cap (S.width KU) (λi j=>(w.cell? (a.add (i*S.width KU+j))).getD undef) (by rw[hlen];exact hlc) (rq hS xs) (λd hd=>?_) (λhne=>?_) (λi j d c hd hc=>?_)
    .obtain ⟨x,_,rfl⟩:=zg.1 hd;rw[Ba hS,hlen];have hw1:=Tk.1;rw[hel]at hw1;have:len*P.bytesOf e<=reachBytes:=fS (wB _ (Nat.le_add_right _ _)) hw1;have hb:len*vn S KU<=2*(len*P.bytesOf e):=by
      calc len*vn S KU<=len*(2*P.bytesOf e):=Nat.mul_le_mul_left _ h3
       _=2*(len*P.bytesOf e):=by rw[Nat.mul_left_comm]
     unfold reachBytes at this;omega
    .have hpos:0<xs.length:=by cases xs with|nil=>exact absurd rfl hne|cons=>simp
     obtain⟨x,hx⟩:∃x,xs[0]?=some x:=⟨_,gm hpos⟩;obtain⟨c,hc⟩:∃c,(enc S KU x).cells[0]?=some c:=⟨_,gm (by rw[jU hS];exact h4)⟩;obtain⟨v,hv,_⟩:=hcell 0 0 x c hx hc;refine⟨a,rfl,hI _ ?_,λi j d c hd hc=>?_⟩
     .have:=aba hv;rwa [kZ]at this
     .rw[gQ,eA]at hd;obtain⟨x,hx,rfl⟩:=hd;obtain⟨v,hv,_⟩:=hcell i j x c hx hc;rw[hv];rfl
    .rw[gQ,eA]at hd;obtain⟨x,hx,rfl⟩:=hd;obtain⟨v,hv,hd⟩:=hcell i j x c hx hc;simp only[hv,Jp];exact hd
  .rename_i fs n hu;simp only[eE]at hr;obtain⟨h1,h2⟩:=hr;have h1:=nT h1;rw[bH]at h1;obtain⟨hl,parts,rfl,qS,hall⟩:=trod_struct hu h;simp only[DataW.weights,hu]at Tk;obtain⟨k,hk⟩:=Lh hS ih fs.toList 0 (S.fs n) parts h2 (by omega) Tk qS hall;refine⟨S.VV n k,?_⟩;simp only[enc,D.cells];rw[show S.cells n (S.VV n k)=_ from hS.cells n _,hS.uS];simpa using hk
  .cases hr
end
end
section
section
variable {P:Program}{w:World}{H:Type}{M9:TypeId×Value->H}
variable {base:Nat}{w':World}
def UT(hS:fy S){ty:TypeId->Option Ty}(hR:∀t τ,ty t=some τ->rdT S P ty t τ=true){t:TypeId}{τ:Ty}(hτ:ty t=some τ){v:Value}{d:DataW H}{ps:List MemPlace}(hv:Value.okWide P w .any base t v)
  (h:DataW.Trod M9 P w 0 (λ_=>true) true t v d ps) (Tk:(d.weights P t).all (·<=reachBytes)=true):∃x:den S.A τ,dZ (λb=>b<w.heap.size) w (enc S τ x) v:=by
 obtain⟨fuel,h⟩:=h;obtain⟨x,hx⟩:=Zl (I:=λb=>b<w.heap.size) hS hR (λ_ h=>h) fuel t τ _ d ps hτ h Tk;refine⟨x,?_⟩;have hr:=hR t τ hτ;unfold rdT at hr;split at hr
 .rename_i hu;obtain⟨b,rfl⟩:=WideShapes.okWide_bool hu hv;exact hx.2 0 _ _ rfl rfl
 .rename_i k k' hu;obtain⟨n,rfl⟩:=WideShapes.okWide_int hu hv;exact hx.2 0 _ _ rfl rfl
 .rename_i hu;obtain⟨b,rfl⟩:=WideShapes.okWide_string hu hv;exact hx.2 0 _ _ rfl rfl
 .rename_i e τ' hu;obtain⟨a,n,m,rfl⟩:=WideShapes.okWide_slice hu hv;exact hx.2 0 _ _ rfl rfl
 .rename_i fs n hu;obtain⟨cs,rfl,_⟩:=WideShapes.okWide_struct hu hv;refine .agg _ _ (by have:=hx.1;simp only[enc,D.cells,Value.cells]at this;simpa using this) ?_ (λj c u h1 h2=>hx.2 j c u h1 (by simpa[Value.cells]using h2));intro c hc;have:=M6 hS (t:=.st n) x;simp only[enc,D.flat,D.cells,gr]at this;exact this c hc
 .cases hr
def HF(hS:fy S){ty:TypeId->Option Ty}(hR:∀t τ,ty t=some τ->rdT S P ty t τ=true){base:Nat}:∀(ts:List TypeId)(τs:List Ty)(vs:List Value)(ds:List (DataW H))(ps:List MemPlace),
  PW (λt τ=>ty t=some τ) ts τs->(∀(j:Nat)t v,ts[j]?=some t->vs[j]?=some v->Value.okWide P w .any base t v)->DataW.TrodAll M9 P w 0 (λ_=>true) true ts vs ds ps->
  (DataW.weightsEach P ts ds).all (·<=reachBytes)=true->∃x:fW S.A (τs.map λτ=>.one (.dat τ)),pK S (λb=>b<w.heap.size) w (τs.map λτ=>.one (.dat τ)) x vs [] []
 |[],[],vs,ds,ps,_,_,h,_=>by cases vs with|nil=>exact⟨(),.nil⟩|cons v vs=>cases ds<;>simp[DataW.TrodAll]at h
 |t::ts,τ::τs,vs,ds,ps,hp,hv,h,hw=>by
  cases vs with
  |nil=>cases ds<;>simp[DataW.TrodAll]at h
  |cons v vs=>
  cases ds with
  |nil=>simp[DataW.TrodAll]at h
  |cons d ds=>
  simp only[DataW.TrodAll]at h;obtain⟨p,q,h1,h2,_⟩:=h;simp only[DataW.weightsEach,LS,eE]at hw;obtain⟨x,hx⟩:=UT hS hR (hp.2 0 t τ rfl rfl) (hv 0 t v rfl rfl) h1 hw.1;obtain⟨k,hk⟩:=HF hS hR ts τs vs ds q ⟨by simpa using hp.1,λj a b ha hb=>hp.2 (j+1) a b (by simpa using ha) (by simpa using hb)⟩ (λj t v ha hb=>hv (j+1) t v (by simpa using ha) (by simpa using hb)) h2 hw.2;exact⟨(x,k),.one (.dat hx .nil) hk⟩
 |[],τ::τs,_,_,_,hp,_,_,_=>by have:=hp.1;simp at this
 |t::ts,[],_,_,_,hp,_,_,_=>by have:=hp.1;simp at this
def DD{w':World}(hl:laidOutB P=true)(hk:∀b,b<w.heap.size->w'.heap[b]?=w.heap[b]?):∀(ts:List TypeId)(vs:List Value)(ds:List (DataW H))(ps:List MemPlace),(∀t∈ts,P.readableRec t=true∧t<P.types.size)->
  DataW.TrodAll M9 P w 0 (λ_=>true) true ts vs ds ps->(∀p∈ps,p.block<w.heap.size)->DataW.TrodAll M9 P w' 0 (λb=>decide (b<w.heap.size)) true ts vs ds ps
 |[],[],[],ps,_,h,_=>h
 |t::ts,v::vs,d::ds,ps,hr,h,hb=>by simp only[DataW.TrodAll]at h ⊢;obtain⟨p,q,h1,h2,rfl⟩:=h;refine⟨p,q,WideElems.Trod_stays hl (hr t eC).1 (hr t eC).2 h1 (λx hx=>?_) (λx hx=>by simpa using hb x (eJ _ hx)),DD hl hk ts vs ds q (λt ht=>hr t (gL _ ht)) h2 λx hx=>hb x (iW _ hx),rfl⟩;have:=hk x.block (hb x (eJ _ hx));cases x with|cell b off=>show w'.cell? _=w.cell? _;unfold World.cell?;rw[show w'.heap[b]?=w.heap[b]? from this]|map b=>exact this
 |[],[],_::_,_,_,h,_=>by simp[DataW.TrodAll]at h
 |[],_::_,_,_,_,h,_=>by simp[DataW.TrodAll]at h
 |_::_,[],_,_,_,h,_=>by simp[DataW.TrodAll]at h
 |_::_,_::_,[],_,_,h,_=>by simp[DataW.TrodAll]at h
def JL(hos:w'.os=w.os)(hout:w'.output=w.output)(hk:∀b,b<w.heap.size->w'.heap[b]?=w.heap[b]?)(may:MemPlace->Prop):w.keptBut w' may:=by
 refine⟨hos,hout,λi hi=>?_⟩;rw[hk i hi];split
 .rename_i h1 h2;rw[h1]at h2;cases h2;exact⟨rfl,rfl,rfl,λ_ _=>rfl⟩
 .rename_i h1 h2;rw[h1]at h2;cases h2;exact .inr ⟨rfl,rfl⟩
 .rfl
def Tc(hS:fy S){ty:TypeId->Option Ty}(hR:∀t τ,ty t=some τ->rdT S P ty t τ=true)(hl:laidOutB P=true){f:FuncId}{fn:Func}{s:ChangeSpec}{apart fresh handsOn:Bool}{τs:List Ty}{tb:TypeId}
  (hτ:PW (λt τ=>ty t=some τ) fn.params.toList τs) (hrd:∀t∈fn.params.toList,P.readableRec t=true∧t<P.types.size) (hres:fn.resultTypes=#[tb]) (hb:P.underlying tb=some .bool) (hvars:s.vars=[])
  (hspec:∀ds:List (DataW H),ds.length=τs.length->(s.fn H ds).results=[.lit (.bool true)]∧(s.fn H ds).args=ds∧(s.fn H ds).vars=[])
  (hF:∀x:fW S.A (τs.map λτ=>Pk.one (.dat τ)),∃F r,bC P f (⟨τs.map λτ=>.one (.dat τ),[.dat .bool],false,F⟩:lF S)∧F x=some r∧r.1.1=true)
  {W:World} {base:Nat} {args:Array Value} {ds gs:List (DataW H)} {before:List MemPlace}
  (hval:∀(j:Nat)t v,fn.params[j]?=some t->args[j]?=some v->Value.okWide P W .any base t v) (hW:DataW.Whole M9 P fn.params.toList s.vars apart W args.toList ds gs before)
  (Tk:(DataW.weightsEach P (fn.params.toList++s.plain.varTypes P) (ds++gs)).all (·<=reachBytes)=true) :
  Calls P f args W λe W'=>∃v,e=.returned v∧s.post M9 P fn apart fresh handsOn false W args v W':=by
 rw[hvars]at hW;have hW0:=hW;obtain⟨p,q,hA,hV,rfl,hfz,l5⟩:=hW;have hgs:gs=[]∧q=[]:=by cases gs with|nil=>exact⟨rfl,hV⟩|cons g gs=>simp[DataW.TrodVars]at hV
 obtain⟨rfl,rfl⟩:=hgs;have hvt:s.plain.varTypes P=[]:=by simp[ChangeSpec.plain,DataSpec.varTypes,hvars]
 rw[hvt,lB,lB]at Tk;obtain⟨x,hx⟩:=HF hS hR fn.params.toList τs args.toList ds p hτ (λj t v h1 h2=>hval j t v (by simpa using h1) (by simpa using h2)) hA Tk;obtain⟨F,r,MO,hr,Wr⟩:=hF x;have hlen:ds.length=τs.length:=by
  rw[<-hτ.1];clear hval hW0 Tk hfz l5 hV hx hτ hrd;generalize fn.params.toList=ts at hA;generalize args.toList=vs at hA
  induction ts generalizing vs ds p with
  |nil=>cases vs<;>cases ds<;>simp_all [DataW.TrodAll]
  |cons t ts ih=>
   cases vs with
   |nil=>cases ds<;>simp[DataW.TrodAll]at hA
   |cons v vs=>
    cases ds with|nil=>simp[DataW.TrodAll]at hA|cons d ds=>simp only[DataW.TrodAll]at hA;obtain⟨_,q,_,h2,_⟩:=hA;simp[ih _ _ h2]
 refine(MO.2 x r hr _ W args [] [] hx (λ_ h=>h) .nil (by simp) (by simp)).mono λe W' he=>?_;cases e with
 |panicked ch=>exact he.elim
 |outgrown=>exact he.elim
 |returned v=>
 obtain⟨I',vs,vC,wk,_,_,_,hsz,hkeep,hos,hout,rfl,_,hH,_⟩:=he;have hv:valOf vs=.bool true:=by
  generalize r.1=y at hH Wr;obtain⟨b,u⟩:=y;cases hH with
  |dat hd hr=>
  cases hr;cases hd;simp only at Wr;rw[Wr];rfl
 rw[hv];refine⟨_,rfl,?_⟩;obtain⟨s1,s2,s3⟩:=hspec ds hlen;have WG:∀b,b<W.heap.size->W'.heap[b]?=W.heap[b]?:=λb hb=>hkeep b hb (by simp) (by simp);have hlt:∀x∈p,x.block<W.heap.size:=λx hx=>hW0.lt x (by simpa using hx);rw[lB]at hW0;unfold ChangeSpec.post;rw[hvars];refine⟨ds,[],p,[],p,[],hW0,?_,?_,?_,JL hos hout WG _,λh=>by cases h⟩
 .rw[lB,s1,hres];simp only[Value.resultList];refine⟨[],[],⟨1,?_⟩,rfl,rfl⟩;simp[DataW.trod,hb,Value.cells]
 .rw[lB,s2];exact DD hl WG _ _ _ _ hrd hA hlt
 .rw[lB,s3];rfl
end
end
end TL
end
section
namespace Mn
open Go TL
section
open Proofs.Tryz
def z0:TI:=⟨1,false,[.lit .nilFunc],[],.other⟩
abbrev n1{α:Type}(x:α)(l r:Tr α):Tr α:=.node (some x) l r
abbrev n0{α:Type}(l r:Tr α):Tr α:=.node none l r
abbrev e0{α:Type}:Tr α:=.nil
abbrev br{α:Type}(x:α):Tr α:=.node (some x) .nil .nil
abbrev cF(l r:Tr TI):Tr TI:=.node (some z0) l r
abbrev bP:Tr TI:=.node (some z0) .nil .nil
abbrev aP:D:=.lit (.int .i64 0)
abbrev dw:D:=.lit (.string ⟨#[]⟩)
abbrev kF:D:=.lit (.pointer none)
abbrev eS:D:=.lit .nilFunc
abbrev UY:Kd:=.struct [(0,1,false)]
abbrev wS:Kd:=.struct [(0,1,false),(1,1,false)]
abbrev BO:Kd:=.struct [(0,1,false),(1,1,false),(2,1,false)]
abbrev pX:Kd:=.struct [(0,1,false),(1,1,false),(2,1,false),(3,1,false)]
abbrev QK:Kd:=.struct [(0,1,false),(1,1,false),(2,1,false),(3,1,false),(4,1,false)]
structure aC where
 Form:Int
 N:Int
 Text:List UInt8
 CA:List aC
structure bp where
 Op:Int
 N:Int
 Kids:List Int
 cx:List aC
structure cz where
 Name:List UInt8
 qQ:Int
structure aG where
 aW:List bp
 dH:List Int
 Main:Int
 Cons:List cz
structure au where
 Kind:Int
 N:Int
structure ax where
 Node:Int
 Env:List au
 bZ:List au
structure aE where
 Form:Int
 N:Int
 bZ:List au
 Frames:List ax
structure dW where
 Port:Int
 N:Int
structure ai where
 bI:List aE
 cU:List Int
 nw:List dW
 CY:List Int
 Used:Int
structure aS where
 Task:Int
 Do:Int
 N:Int
 V:au
structure aA where
 W:ai
 afm:Int
 E:aS
structure cr where
 aG:aG
 ai:ai
structure iy where
structure gB where
 aS:aS
structure fY where
 state:Int
structure jf where
inductive cg where
 |a0 (x:iy)
 |a1 (x:gB)
 |a2 (x:fY)
 |a3 (x:jf)
 |none
structure ck where
 NK:Int
 N:Int
 Text:List UInt8
 CA:List ck
structure g9 where
 Name:List UInt8
 qQ:List ck
structure jK where
 Name:List UInt8
 Cons:List g9
structure Term where
 Op:Int
 N:Int
 Text:List UInt8
 Kids:List Term
 cx:List aC
structure cD where
 Name:List UInt8
 Param:List UInt8
 NO:ck
 To:ck
 Body:Term
structure dS where
 Name:List UInt8
 acA:List jK
 dH:List cD
structure cV where
 aG:aG
structure dA where
 wI:List (List UInt8)
 cons:List cz
 nodes:List bp
structure e9 where
 Kind:Int
 Text:List UInt8
 N:Int
 At:Int
structure bD where
 l_:List e9
 at_:Int
 bad:Bool
structure jL where
structure mL where
inductive cI where
 |a0 (x:jL)
 |a1 (x:Int)
 |a2 (x:mL)
 |none
inductive Any where
 |a0 (x:fY)
 |none
def aK:aC:=⟨0,0,[],[]⟩
def aQ:bp:=⟨0,0,[],[]⟩
def bE:cz:=⟨[],0⟩
def kW:aG:=⟨[],[],0,[]⟩
def az:au:=⟨0,0⟩
def aX:ax:=⟨0,[],[]⟩
def aR:aE:=⟨0,0,[],[]⟩
def lT:dW:=⟨0,0⟩
def bS:ai:=⟨[],[],[],[],0⟩
def aZ:aS:=⟨0,0,0,az⟩
def jb:aA:=⟨bS,0,aZ⟩
def Cu:cr:=⟨kW,bS⟩
def Fo:iy:=⟨⟩
def IC:gB:=⟨aZ⟩
def Cv:fY:=⟨0⟩
def Fp:jf:=⟨⟩
def Xy:cg:=.none
def mG:ck:=⟨0,0,[],[]⟩
def gT:g9:=⟨[],[]⟩
def kV:jK:=⟨[],[]⟩
def ql:Term:=⟨0,0,[],[],[]⟩
def dG:cD:=⟨[],[],mG,mG,ql⟩
def jH:dS:=⟨[],[],[]⟩
def zZ:cV:=⟨kW⟩
def pE:dA:=⟨[],[],[]⟩
def dx:e9:=⟨0,[],0,0⟩
def pz:bD:=⟨[],0,false⟩
def z4:jL:=⟨⟩
def Fq:mL:=⟨⟩
def TX:cI:=.none
def apP:Any:=.none
mutual
def u9:aC->List D
 | .mk x0 x1 x2 x3=>[.lit (.int .i64 x0),.lit (.int .i64 x1),.lit (.string (bF x2)),.sl (mH x3)]
def mH:List aC->List D
 |[]=>[]
 |y::l=>.agg (u9 y)::mH l
end
def kB:∀l:List aC,mH l=l.map (λy=>.agg (u9 y))
 |[]=>rfl
 |y::l=>by simp only[mH,lZ,kB l]
def mJ(x:bp):List D:=[.lit (.int .i64 x.Op),.lit (.int .i64 x.N),.sl (List.map (λy=>.lit (.int .i64 y)) x.Kids),.sl (mH x.cx)]
def vk(x:cz):List D:=[.lit (.string (bF x.Name)),.lit (.int .i64 x.qQ)]
def T1(x:aG):List D:=[.sl (List.map (λy=>.agg (mJ y)) x.aW),.sl (List.map (λy=>.lit (.int .i64 y)) x.dH),.lit (.int .i64 x.Main),.sl (List.map (λy=>.agg (vk y)) x.Cons)]
def z8(x:au):List D:=[.lit (.int .i64 x.Kind),.lit (.int .i64 x.N)]
def FF(x:ax):List D:=[.lit (.int .i64 x.Node),.sl (List.map (λy=>.agg (z8 y)) x.Env),.sl (List.map (λy=>.agg (z8 y)) x.bZ)]
def Aa(x:aE):List D:=[.lit (.int .i64 x.Form),.lit (.int .i64 x.N),.sl (List.map (λy=>.agg (z8 y)) x.bZ),.sl (List.map (λy=>.agg (FF y)) x.Frames)]
def z9(x:dW):List D:=[.lit (.int .i64 x.Port),.lit (.int .i64 x.N)]
def PC(x:ai):List D:=[.sl (List.map (λy=>.agg (Aa y)) x.bI),.sl (List.map (λy=>.lit (.int .i64 y)) x.cU),.sl (List.map (λy=>.agg (z9 y)) x.nw),.sl (List.map (λy=>.lit (.int .i64 y)) x.CY),.lit (.int .i64 x.Used)]
def PD(x:aS):List D:=[.lit (.int .i64 x.Task),.lit (.int .i64 x.Do),.lit (.int .i64 x.N),.lit (.int .i64 x.V.Kind),.lit (.int .i64 x.V.N)]
def CS(x:aA):List D:=[.sl (List.map (λy=>.agg (Aa y)) x.W.bI),.sl (List.map (λy=>.lit (.int .i64 y)) x.W.cU),.sl (List.map (λy=>.agg (z9 y)) x.W.nw),.sl (List.map (λy=>.lit (.int .i64 y)) x.W.CY),.lit (.int .i64 x.W.Used),.lit (.int .i64 x.afm),.lit (.int .i64 x.E.Task),.lit (.int .i64 x.E.Do),.lit (.int .i64 x.E.N),.lit (.int .i64 x.E.V.Kind),.lit (.int .i64 x.E.V.N)]
def Ns(x:cr):List D:=[.sl (List.map (λy=>.agg (mJ y)) x.aG.aW),.sl (List.map (λy=>.lit (.int .i64 y)) x.aG.dH),.lit (.int .i64 x.aG.Main),.sl (List.map (λy=>.agg (vk y)) x.aG.Cons),.sl (List.map (λy=>.agg (Aa y)) x.ai.bI),.sl (List.map (λy=>.lit (.int .i64 y)) x.ai.cU),.sl (List.map (λy=>.agg (z9 y)) x.ai.nw),.sl (List.map (λy=>.lit (.int .i64 y)) x.ai.CY),.lit (.int .i64 x.ai.Used)]
def FB(x:iy):List D:=[]
def II(x:gB):List D:=[.lit (.int .i64 x.aS.Task),.lit (.int .i64 x.aS.Do),.lit (.int .i64 x.aS.N),.lit (.int .i64 x.aS.V.Kind),.lit (.int .i64 x.aS.V.N)]
def vg(x:fY):List D:=[.lit (.int .i64 x.state)]
def FD(x:jf):List D:=[]
def MF:cg->Option (TypeId×D)
 | .a0 x=>some (170,.agg (FB x))
 | .a1 x=>some (173,.agg (II x))
 | .a2 x=>some (175,.agg (vg x))
 | .a3 x=>some (181,.agg (FD x))
 | .none=>none
def XE(x:cg):List D:=[N3 (MF x)]
mutual
def rR:ck->List D
 | .mk x0 x1 x2 x3=>[.lit (.int .i64 x0),.lit (.int .i64 x1),.lit (.string (bF x2)),.sl (kN x3)]
def kN:List ck->List D
 |[]=>[]
 |y::l=>.agg (rR y)::kN l
end
def lU:∀l:List ck,kN l=l.map (λy=>.agg (rR y))
 |[]=>rfl
 |y::l=>by simp only[kN,lZ,lU l]
def qo(x:g9):List D:=[.lit (.string (bF x.Name)),.sl (kN x.qQ)]
def IG(x:jK):List D:=[.lit (.string (bF x.Name)),.sl (List.map (λy=>.agg (qo y)) x.Cons)]
mutual
def Nr:Term->List D
 | .mk x0 x1 x2 x3 x4=>[.lit (.int .i64 x0),.lit (.int .i64 x1),.lit (.string (bF x2)),.sl (Ft x3),.sl (mH x4)]
def Ft:List Term->List D
 |[]=>[]
 |y::l=>.agg (Nr y)::Ft l
end
def yu:∀l:List Term,Ft l=l.map (λy=>.agg (Nr y))
 |[]=>rfl
 |y::l=>by simp only[Ft,lZ,yu l]
def qn(x:cD):List D:=[.lit (.string (bF x.Name)),.lit (.string (bF x.Param)),.lit (.int .i64 x.NO.NK),.lit (.int .i64 x.NO.N),.lit (.string (bF x.NO.Text)),.sl (kN x.NO.CA),.lit (.int .i64 x.To.NK),.lit (.int .i64 x.To.N),.lit (.string (bF x.To.Text)),.sl (kN x.To.CA),.lit (.int .i64 x.Body.Op),.lit (.int .i64 x.Body.N),.lit (.string (bF x.Body.Text)),.sl (Ft x.Body.Kids),.sl (mH x.Body.cx)]
def Nq(x:dS):List D:=[.lit (.string (bF x.Name)),.sl (List.map (λy=>.agg (IG y)) x.acA),.sl (List.map (λy=>.agg (qn y)) x.dH)]
def Kh(x:cV):List D:=[.sl (List.map (λy=>.agg (mJ y)) x.aG.aW),.sl (List.map (λy=>.lit (.int .i64 y)) x.aG.dH),.lit (.int .i64 x.aG.Main),.sl (List.map (λy=>.agg (vk y)) x.aG.Cons)]
def yB(x:dA):List D:=[.sl (List.map (λy=>.lit (.string (bF y))) x.wI),.sl (List.map (λy=>.agg (vk y)) x.cons),.sl (List.map (λy=>.agg (mJ y)) x.nodes)]
def FC(x:e9):List D:=[.lit (.int .i64 x.Kind),.lit (.string (bF x.Text)),.lit (.int .i64 x.N),.lit (.int .i64 x.At)]
def yA(x:bD):List D:=[.sl (List.map (λy=>.agg (FC y)) x.l_),.lit (.int .i64 x.at_),.lit (.bool x.bad)]
def z7(x:jL):List D:=[]
def FE(x:mL):List D:=[]
def Ij:cI->Option (TypeId×D)
 | .a0 x=>some (274,.agg (z7 x))
 | .a1 x=>some (297,.lit (.int .i64 x))
 | .a2 x=>some (298,.agg (FE x))
 | .none=>none
def TZ(x:cI):List D:=[N3 (Ij x)]
def ahu:Any->Option (TypeId×D)
 | .a0 x=>some (175,.agg (vg x))
 | .none=>none
def apQ(x:Any):List D:=[N3 (ahu x)]
def Nn:Nat->Type
 |0=>aC
 |1=>bp
 |2=>cz
 |3=>aG
 |4=>au
 |5=>ax
 |6=>aE
 |7=>dW
 |8=>ai
 |9=>aS
 |10=>aA
 |11=>cr
 |12=>iy
 |13=>gB
 |14=>fY
 |15=>jf
 |16=>cg
 |17=>ck
 |18=>g9
 |19=>jK
 |20=>Term
 |21=>cD
 |22=>dS
 |23=>cV
 |24=>dA
 |25=>e9
 |26=>bD
 |27=>jL
 |28=>mL
 |29=>cI
 |30=>Any
 |_+31=>Unit
def fields:Nat->List Ty
 |0=>[.int .i64,.int .i64,.str,.sl (.st 0)]
 |1=>[.int .i64,.int .i64,.sl (.int .i64),.sl (.st 0)]
 |2=>[.str,.int .i64]
 |3=>[.sl (.st 1),.sl (.int .i64),.int .i64,.sl (.st 2)]
 |4=>[.int .i64,.int .i64]
 |5=>[.int .i64,.sl (.st 4),.sl (.st 4)]
 |6=>[.int .i64,.int .i64,.sl (.st 4),.sl (.st 5)]
 |7=>[.int .i64,.int .i64]
 |8=>[.sl (.st 6),.sl (.int .i64),.sl (.st 7),.sl (.int .i64),.int .i64]
 |9=>[.int .i64,.int .i64,.int .i64,.int .i64,.int .i64]
 |10=>[.sl (.st 6),.sl (.int .i64),.sl (.st 7),.sl (.int .i64),.int .i64,.int .i64,.int .i64,.int .i64,.int .i64,.int .i64,.int .i64]
 |11=>[.sl (.st 1),.sl (.int .i64),.int .i64,.sl (.st 2),.sl (.st 6),.sl (.int .i64),.sl (.st 7),.sl (.int .i64),.int .i64]
 |12=>[]
 |13=>[.int .i64,.int .i64,.int .i64,.int .i64,.int .i64]
 |14=>[.int .i64]
 |15=>[]
 |16=>[.cR 16]
 |17=>[.int .i64,.int .i64,.str,.sl (.st 17)]
 |18=>[.str,.sl (.st 17)]
 |19=>[.str,.sl (.st 18)]
 |20=>[.int .i64,.int .i64,.str,.sl (.st 20),.sl (.st 0)]
 |21=>[.str,.str,.int .i64,.int .i64,.str,.sl (.st 17),.int .i64,.int .i64,.str,.sl (.st 17),.int .i64,.int .i64,.str,.sl (.st 20),.sl (.st 0)]
 |22=>[.str,.sl (.st 19),.sl (.st 21)]
 |23=>[.sl (.st 1),.sl (.int .i64),.int .i64,.sl (.st 2)]
 |24=>[.sl (.str),.sl (.st 2),.sl (.st 1)]
 |25=>[.int .i64,.str,.int .i64,.int .i64]
 |26=>[.sl (.st 25),.int .i64,.bool]
 |27=>[]
 |28=>[]
 |29=>[.cR 29]
 |30=>[.cR 30]
 |_+31=>[]
def dflt:(n:Nat)->Nn n
 |0=>aK
 |1=>aQ
 |2=>bE
 |3=>kW
 |4=>az
 |5=>aX
 |6=>aR
 |7=>lT
 |8=>bS
 |9=>aZ
 |10=>jb
 |11=>Cu
 |12=>Fo
 |13=>IC
 |14=>Cv
 |15=>Fp
 |16=>Xy
 |17=>mG
 |18=>gT
 |19=>kV
 |20=>ql
 |21=>dG
 |22=>jH
 |23=>zZ
 |24=>pE
 |25=>dx
 |26=>pz
 |27=>z4
 |28=>Fq
 |29=>TX
 |30=>apP
 |_+31=>()
def aaL:(n:Nat)->Nn n->lP Nn (fields n)
 |0,x=>(aC.Form x,aC.N x,aC.Text x,aC.CA x,())
 |1,x=>(bp.Op x,bp.N x,bp.Kids x,bp.cx x,())
 |2,x=>(cz.Name x,cz.qQ x,())
 |3,x=>(aG.aW x,aG.dH x,aG.Main x,aG.Cons x,())
 |4,x=>(au.Kind x,au.N x,())
 |5,x=>(ax.Node x,ax.Env x,ax.bZ x,())
 |6,x=>(aE.Form x,aE.N x,aE.bZ x,aE.Frames x,())
 |7,x=>(dW.Port x,dW.N x,())
 |8,x=>(ai.bI x,ai.cU x,ai.nw x,ai.CY x,ai.Used x,())
 |9,x=>(aS.Task x,aS.Do x,aS.N x,(aS.V x).Kind,(aS.V x).N,())
 |10,x=>((aA.W x).bI,(aA.W x).cU,(aA.W x).nw,(aA.W x).CY,(aA.W x).Used,aA.afm x,(aA.E x).Task,(aA.E x).Do,(aA.E x).N,(aA.E x).V.Kind,(aA.E x).V.N,())
 |11,x=>((cr.aG x).aW,(cr.aG x).dH,(cr.aG x).Main,(cr.aG x).Cons,(cr.ai x).bI,(cr.ai x).cU,(cr.ai x).nw,(cr.ai x).CY,(cr.ai x).Used,())
 |12,_=>()
 |13,x=>((gB.aS x).Task,(gB.aS x).Do,(gB.aS x).N,(gB.aS x).V.Kind,(gB.aS x).V.N,())
 |14,x=>(fY.state x,())
 |15,_=>()
 |16,x=>(x,())
 |17,x=>(ck.NK x,ck.N x,ck.Text x,ck.CA x,())
 |18,x=>(g9.Name x,g9.qQ x,())
 |19,x=>(jK.Name x,jK.Cons x,())
 |20,x=>(Term.Op x,Term.N x,Term.Text x,Term.Kids x,Term.cx x,())
 |21,x=>(cD.Name x,cD.Param x,(cD.NO x).NK,(cD.NO x).N,(cD.NO x).Text,(cD.NO x).CA,(cD.To x).NK,(cD.To x).N,(cD.To x).Text,(cD.To x).CA,(cD.Body x).Op,(cD.Body x).N,(cD.Body x).Text,(cD.Body x).Kids,(cD.Body x).cx,())
 |22,x=>(dS.Name x,dS.acA x,dS.dH x,())
 |23,x=>((cV.aG x).aW,(cV.aG x).dH,(cV.aG x).Main,(cV.aG x).Cons,())
 |24,x=>(dA.wI x,dA.cons x,dA.nodes x,())
 |25,x=>(e9.Kind x,e9.Text x,e9.N x,e9.At x,())
 |26,x=>(bD.l_ x,bD.at_ x,bD.bad x,())
 |27,_=>()
 |28,_=>()
 |29,x=>(x,())
 |30,x=>(x,())
 |_+31,_=>()
def VZ:(n:Nat)->lP Nn (fields n)->Nn n
 |0,(x0,x1,x2,x3,())=>(⟨x0,x1,x2,x3⟩:aC)
 |1,(x0,x1,x2,x3,())=>(⟨x0,x1,x2,x3⟩:bp)
 |2,(x0,x1,())=>(⟨x0,x1⟩:cz)
 |3,(x0,x1,x2,x3,())=>(⟨x0,x1,x2,x3⟩:aG)
 |4,(x0,x1,())=>(⟨x0,x1⟩:au)
 |5,(x0,x1,x2,())=>(⟨x0,x1,x2⟩:ax)
 |6,(x0,x1,x2,x3,())=>(⟨x0,x1,x2,x3⟩:aE)
 |7,(x0,x1,())=>(⟨x0,x1⟩:dW)
 |8,(x0,x1,x2,x3,x4,())=>(⟨x0,x1,x2,x3,x4⟩:ai)
 |9,(x0,x1,x2,x3,x4,())=>(⟨x0,x1,x2,⟨x3,x4⟩⟩:aS)
 |10,(x0,x1,x2,x3,x4,x5,x6,x7,x8,x9,x10,())=>(⟨⟨x0,x1,x2,x3,x4⟩,x5,⟨x6,x7,x8,⟨x9,x10⟩⟩⟩:aA)
 |11,(x0,x1,x2,x3,x4,x5,x6,x7,x8,())=>(⟨⟨x0,x1,x2,x3⟩,⟨x4,x5,x6,x7,x8⟩⟩:cr)
 |12,_=>(⟨⟩:iy)
 |13,(x0,x1,x2,x3,x4,())=>(⟨⟨x0,x1,x2,⟨x3,x4⟩⟩⟩:gB)
 |14,(x0,())=>(⟨x0⟩:fY)
 |15,_=>(⟨⟩:jf)
 |16,(x,())=>x
 |17,(x0,x1,x2,x3,())=>(⟨x0,x1,x2,x3⟩:ck)
 |18,(x0,x1,())=>(⟨x0,x1⟩:g9)
 |19,(x0,x1,())=>(⟨x0,x1⟩:jK)
 |20,(x0,x1,x2,x3,x4,())=>(⟨x0,x1,x2,x3,x4⟩:Term)
 |21,(x0,x1,x2,x3,x4,x5,x6,x7,x8,x9,x10,x11,x12,x13,x14,())=>(⟨x0,x1,⟨x2,x3,x4,x5⟩,⟨x6,x7,x8,x9⟩,⟨x10,x11,x12,x13,x14⟩⟩:cD)
 |22,(x0,x1,x2,())=>(⟨x0,x1,x2⟩:dS)
 |23,(x0,x1,x2,x3,())=>(⟨⟨x0,x1,x2,x3⟩⟩:cV)
 |24,(x0,x1,x2,())=>(⟨x0,x1,x2⟩:dA)
 |25,(x0,x1,x2,x3,())=>(⟨x0,x1,x2,x3⟩:e9)
 |26,(x0,x1,x2,())=>(⟨x0,x1,x2⟩:bD)
 |27,_=>(⟨⟩:jL)
 |28,_=>(⟨⟩:mL)
 |29,(x,())=>x
 |30,(x,())=>x
 |_+31,_=>()
def XD:(n:Nat)->Nn n->List D
 |0,x=>u9 x
 |1,x=>mJ x
 |2,x=>vk x
 |3,x=>T1 x
 |4,x=>z8 x
 |5,x=>FF x
 |6,x=>Aa x
 |7,x=>z9 x
 |8,x=>PC x
 |9,x=>PD x
 |10,x=>CS x
 |11,x=>Ns x
 |12,x=>FB x
 |13,x=>II x
 |14,x=>vg x
 |15,x=>FD x
 |16,x=>XE x
 |17,x=>rR x
 |18,x=>qo x
 |19,x=>IG x
 |20,x=>Nr x
 |21,x=>qn x
 |22,x=>Nq x
 |23,x=>Kh x
 |24,x=>yB x
 |25,x=>FC x
 |26,x=>yA x
 |27,x=>z7 x
 |28,x=>FE x
 |29,x=>TZ x
 |30,x=>apQ x
 |_+31,_=>[]
def IQ:Nat->List (TypeId×Ty)
 |16=>[(170,.st 12),(173,.st 13),(175,.st 14),(181,.st 15)]
 |29=>[(274,.st 27),(297,.int .i64),(298,.st 28)]
 |30=>[(175,.st 14)]
 |_=>[]
def eM:(n:Nat)->Nn n->wE Nn (IQ n)
 |0,_=>()
 |1,_=>()
 |2,_=>()
 |3,_=>()
 |4,_=>()
 |5,_=>()
 |6,_=>()
 |7,_=>()
 |8,_=>()
 |9,_=>()
 |10,_=>()
 |11,_=>()
 |12,_=>()
 |13,_=>()
 |14,_=>()
 |15,_=>()
 |16,.a0 x=>.inl x
 |16,.a1 x=>.inr (.inl x)
 |16,.a2 x=>.inr (.inr (.inl x))
 |16,.a3 x=>.inr (.inr (.inr (.inl x)))
 |16,.none=>.inr (.inr (.inr (.inr (()))))
 |17,_=>()
 |18,_=>()
 |19,_=>()
 |20,_=>()
 |21,_=>()
 |22,_=>()
 |23,_=>()
 |24,_=>()
 |25,_=>()
 |26,_=>()
 |27,_=>()
 |28,_=>()
 |29,.a0 x=>.inl x
 |29,.a1 x=>.inr (.inl x)
 |29,.a2 x=>.inr (.inr (.inl x))
 |29,.none=>.inr (.inr (.inr (())))
 |30,.a0 x=>.inl x
 |30,.none=>.inr (())
 |_+31,_=>()
def ahr:(n:Nat)->wE Nn (IQ n)->Nn n
 |0,_=>aK
 |1,_=>aQ
 |2,_=>bE
 |3,_=>kW
 |4,_=>az
 |5,_=>aX
 |6,_=>aR
 |7,_=>lT
 |8,_=>bS
 |9,_=>aZ
 |10,_=>jb
 |11,_=>Cu
 |12,_=>Fo
 |13,_=>IC
 |14,_=>Cv
 |15,_=>Fp
 |16,.inl x=>(cg.a0 x)
 |16,.inr (.inl x)=>(cg.a1 x)
 |16,.inr (.inr (.inl x))=>(cg.a2 x)
 |16,.inr (.inr (.inr (.inl x)))=>(cg.a3 x)
 |16,.inr (.inr (.inr (.inr (_))))=>cg.none
 |17,_=>mG
 |18,_=>gT
 |19,_=>kV
 |20,_=>ql
 |21,_=>dG
 |22,_=>jH
 |23,_=>zZ
 |24,_=>pE
 |25,_=>dx
 |26,_=>pz
 |27,_=>z4
 |28,_=>Fq
 |29,.inl x=>(cI.a0 x)
 |29,.inr (.inl x)=>(cI.a1 x)
 |29,.inr (.inr (.inl x))=>(cI.a2 x)
 |29,.inr (.inr (.inr (_)))=>cI.none
 |30,.inl x=>(Any.a0 x)
 |30,.inr (_)=>Any.none
 |_+31,_=>()
def Wo:(n:Nat)->Nn n->Option (TypeId×D)
 |16,x=>MF x
 |29,x=>Ij x
 |30,x=>ahu x
 |_,_=>none
def sg:Sg:=⟨Nn,fields,dflt,aaL,VZ,XD,IQ,eM,ahr,Wo,.cR 30⟩
def uS:(n:Nat)->(h:lP Nn (fields n))->aaL n (VZ n h)=h
 |0,(x0,x1,x2,x3,())=>rfl
 |1,(x0,x1,x2,x3,())=>rfl
 |2,(x0,x1,())=>rfl
 |3,(x0,x1,x2,x3,())=>rfl
 |4,(x0,x1,())=>rfl
 |5,(x0,x1,x2,())=>rfl
 |6,(x0,x1,x2,x3,())=>rfl
 |7,(x0,x1,())=>rfl
 |8,(x0,x1,x2,x3,x4,())=>rfl
 |9,(x0,x1,x2,x3,x4,())=>rfl
 |10,(x0,x1,x2,x3,x4,x5,x6,x7,x8,x9,x10,())=>rfl
 |11,(x0,x1,x2,x3,x4,x5,x6,x7,x8,())=>rfl
 |12,()=>rfl
 |13,(x0,x1,x2,x3,x4,())=>rfl
 |14,(x0,())=>rfl
 |15,()=>rfl
 |16,(x0,())=>rfl
 |17,(x0,x1,x2,x3,())=>rfl
 |18,(x0,x1,())=>rfl
 |19,(x0,x1,())=>rfl
 |20,(x0,x1,x2,x3,x4,())=>rfl
 |21,(x0,x1,x2,x3,x4,x5,x6,x7,x8,x9,x10,x11,x12,x13,x14,())=>rfl
 |22,(x0,x1,x2,())=>rfl
 |23,(x0,x1,x2,x3,())=>rfl
 |24,(x0,x1,x2,())=>rfl
 |25,(x0,x1,x2,x3,())=>rfl
 |26,(x0,x1,x2,())=>rfl
 |27,()=>rfl
 |28,()=>rfl
 |29,(x0,())=>rfl
 |30,(x0,())=>rfl
 |_+31,()=>rfl
def VU:(n:Nat)->(x:Nn n)->VZ n (aaL n x)=x
 |0,⟨x0,x1,x2,x3⟩=>rfl
 |1,⟨x0,x1,x2,x3⟩=>rfl
 |2,⟨x0,x1⟩=>rfl
 |3,⟨x0,x1,x2,x3⟩=>rfl
 |4,⟨x0,x1⟩=>rfl
 |5,⟨x0,x1,x2⟩=>rfl
 |6,⟨x0,x1,x2,x3⟩=>rfl
 |7,⟨x0,x1⟩=>rfl
 |8,⟨x0,x1,x2,x3,x4⟩=>rfl
 |9,⟨x0,x1,x2,⟨x3,x4⟩⟩=>rfl
 |10,⟨⟨x0,x1,x2,x3,x4⟩,x5,⟨x6,x7,x8,⟨x9,x10⟩⟩⟩=>rfl
 |11,⟨⟨x0,x1,x2,x3⟩,⟨x4,x5,x6,x7,x8⟩⟩=>rfl
 |12,.mk=>rfl
 |13,⟨⟨x0,x1,x2,⟨x3,x4⟩⟩⟩=>rfl
 |14,⟨x0⟩=>rfl
 |15,.mk=>rfl
 |16,_=>rfl
 |17,⟨x0,x1,x2,x3⟩=>rfl
 |18,⟨x0,x1⟩=>rfl
 |19,⟨x0,x1⟩=>rfl
 |20,⟨x0,x1,x2,x3,x4⟩=>rfl
 |21,⟨x0,x1,⟨x2,x3,x4,x5⟩,⟨x6,x7,x8,x9⟩,⟨x10,x11,x12,x13,x14⟩⟩=>rfl
 |22,⟨x0,x1,x2⟩=>rfl
 |23,⟨⟨x0,x1,x2,x3⟩⟩=>rfl
 |24,⟨x0,x1,x2⟩=>rfl
 |25,⟨x0,x1,x2,x3⟩=>rfl
 |26,⟨x0,x1,x2⟩=>rfl
 |27,.mk=>rfl
 |28,.mk=>rfl
 |29,_=>rfl
 |30,_=>rfl
 |_+31,()=>rfl
def XC:(n:Nat)->(x:Nn n)->XD n x=gw sg (fields n) (aaL n x)
 |0,.mk x0 x1 x2 x3=>by show u9 _=_;simp only[u9,kB];rfl
 |1,x=>by show mJ x=_;simp only[mJ,kB];rfl
 |2,_=>rfl
 |3,_=>rfl
 |4,_=>rfl
 |5,_=>rfl
 |6,_=>rfl
 |7,_=>rfl
 |8,_=>rfl
 |9,_=>rfl
 |10,_=>rfl
 |11,_=>rfl
 |12,_=>rfl
 |13,_=>rfl
 |14,_=>rfl
 |15,_=>rfl
 |16,_=>rfl
 |17,.mk x0 x1 x2 x3=>by show rR _=_;simp only[rR,lU];rfl
 |18,x=>by show qo x=_;simp only[qo,lU];rfl
 |19,_=>rfl
 |20,.mk x0 x1 x2 x3 x4=>by show Nr _=_;simp only[Nr,yu,kB];rfl
 |21,x=>by show qn x=_;simp only[qn,yu,kB,lU];rfl
 |22,_=>rfl
 |23,_=>rfl
 |24,_=>rfl
 |25,_=>rfl
 |26,_=>rfl
 |27,_=>rfl
 |28,_=>rfl
 |29,_=>rfl
 |30,_=>rfl
 |_+31,()=>rfl
def ZY:(n:Nat)->∀t∈fields n,js t=false
 |0=>λt h=>cS (l:=fields 0) rfl t h
 |1=>λt h=>cS (l:=fields 1) rfl t h
 |2=>λt h=>cS (l:=fields 2) rfl t h
 |3=>λt h=>cS (l:=fields 3) rfl t h
 |4=>λt h=>cS (l:=fields 4) rfl t h
 |5=>λt h=>cS (l:=fields 5) rfl t h
 |6=>λt h=>cS (l:=fields 6) rfl t h
 |7=>λt h=>cS (l:=fields 7) rfl t h
 |8=>λt h=>cS (l:=fields 8) rfl t h
 |9=>λt h=>cS (l:=fields 9) rfl t h
 |10=>λt h=>cS (l:=fields 10) rfl t h
 |11=>λt h=>cS (l:=fields 11) rfl t h
 |12=>λt h=>cS (l:=fields 12) rfl t h
 |13=>λt h=>cS (l:=fields 13) rfl t h
 |14=>λt h=>cS (l:=fields 14) rfl t h
 |15=>λt h=>cS (l:=fields 15) rfl t h
 |16=>λt h=>cS (l:=fields 16) rfl t h
 |17=>λt h=>cS (l:=fields 17) rfl t h
 |18=>λt h=>cS (l:=fields 18) rfl t h
 |19=>λt h=>cS (l:=fields 19) rfl t h
 |20=>λt h=>cS (l:=fields 20) rfl t h
 |21=>λt h=>cS (l:=fields 21) rfl t h
 |22=>λt h=>cS (l:=fields 22) rfl t h
 |23=>λt h=>cS (l:=fields 23) rfl t h
 |24=>λt h=>cS (l:=fields 24) rfl t h
 |25=>λt h=>cS (l:=fields 25) rfl t h
 |26=>λt h=>cS (l:=fields 26) rfl t h
 |27=>λt h=>cS (l:=fields 27) rfl t h
 |28=>λt h=>cS (l:=fields 28) rfl t h
 |29=>λt h=>cS (l:=fields 29) rfl t h
 |30=>λt h=>cS (l:=fields 30) rfl t h
 |_+31=>λ_ h=>by cases h
def Dk:(n:Nat)->(h:wE Nn (IQ n))->eM n (ahr n h)=h
 |0,()=>rfl
 |1,()=>rfl
 |2,()=>rfl
 |3,()=>rfl
 |4,()=>rfl
 |5,()=>rfl
 |6,()=>rfl
 |7,()=>rfl
 |8,()=>rfl
 |9,()=>rfl
 |10,()=>rfl
 |11,()=>rfl
 |12,()=>rfl
 |13,()=>rfl
 |14,()=>rfl
 |15,()=>rfl
 |16,.inl x=>rfl
 |16,.inr (.inl x)=>rfl
 |16,.inr (.inr (.inl x))=>rfl
 |16,.inr (.inr (.inr (.inl x)))=>rfl
 |16,.inr (.inr (.inr (.inr (()))))=>rfl
 |17,()=>rfl
 |18,()=>rfl
 |19,()=>rfl
 |20,()=>rfl
 |21,()=>rfl
 |22,()=>rfl
 |23,()=>rfl
 |24,()=>rfl
 |25,()=>rfl
 |26,()=>rfl
 |27,()=>rfl
 |28,()=>rfl
 |29,.inl x=>rfl
 |29,.inr (.inl x)=>rfl
 |29,.inr (.inr (.inl x))=>rfl
 |29,.inr (.inr (.inr (())))=>rfl
 |30,.inl x=>rfl
 |30,.inr (())=>rfl
 |_+31,()=>rfl
def Wn:(n:Nat)->(x:Nn n)->Wo n x=sX sg (IQ n) (eM n x)
 |0,_=>rfl
 |1,_=>rfl
 |2,_=>rfl
 |3,_=>rfl
 |4,_=>rfl
 |5,_=>rfl
 |6,_=>rfl
 |7,_=>rfl
 |8,_=>rfl
 |9,_=>rfl
 |10,_=>rfl
 |11,_=>rfl
 |12,_=>rfl
 |13,_=>rfl
 |14,_=>rfl
 |15,_=>rfl
 |16,x=>by cases x<;>rfl
 |17,_=>rfl
 |18,_=>rfl
 |19,_=>rfl
 |20,_=>rfl
 |21,_=>rfl
 |22,_=>rfl
 |23,_=>rfl
 |24,_=>rfl
 |25,_=>rfl
 |26,_=>rfl
 |27,_=>rfl
 |28,_=>rfl
 |29,x=>by cases x<;>rfl
 |30,x=>by cases x<;>rfl
 |_+31,()=>rfl
def abf:(n:Nat)->NA (IQ n)=true
 |0=>rfl
 |1=>rfl
 |2=>rfl
 |3=>rfl
 |4=>rfl
 |5=>rfl
 |6=>rfl
 |7=>rfl
 |8=>rfl
 |9=>rfl
 |10=>rfl
 |11=>rfl
 |12=>rfl
 |13=>rfl
 |14=>rfl
 |15=>rfl
 |16=>rfl
 |17=>rfl
 |18=>rfl
 |19=>rfl
 |20=>rfl
 |21=>rfl
 |22=>rfl
 |23=>rfl
 |24=>rfl
 |25=>rfl
 |26=>rfl
 |27=>rfl
 |28=>rfl
 |29=>rfl
 |30=>rfl
 |_+31=>rfl
def abA:fy sg:=⟨uS,VU,XC,ZY,Dk,Wn,abf⟩
noncomputable def N9:Tr (TI):=(n0 (cF (n1 ⟨1,false,[aP],[],.leaf (.int .i64)⟩ (n1 ⟨4,true,[aP,aP,.lit (.bool false),.lit (.int .u8 0)],[.int .i64,.int .i64,.bool,.int .u8],pX⟩ (n1 ⟨1,false,[kF],[],.ptr⟩ (n1 ⟨5,true,[.sl [],.sl [],.sl [],.sl [],aP],[],QK⟩ (cF (cF bP e0) (cF bP e0)) (n1 ⟨1,false,[.sl []],[],.slice 2 true 16 [aP,aP]⟩ (n1 ⟨1,false,[.lit (.map none)],[],.other⟩ bP e0) bP)) (cF (cF (cF (br ⟨1,false,[.lit .nilIface],[],.iface⟩) e0) bP) (cF (n1 ⟨1,true,[aP],[.int .i64],UY⟩ bP e0) bP))) (n1 ⟨1,false,[.sl []],[],.slice 1 false 8 [aP]⟩ (cF (cF (cF bP e0) (cF bP e0)) (n1 ⟨9,true,[.sl [],.sl [],aP,.sl [],.sl [],.sl [],.sl [],.sl [],aP],[],.struct [(0,4,true),(4,5,true)]⟩ (cF bP e0) bP)) (n1 ⟨2,true,[aP,aP],[.int .i64,.int .i64],wS⟩ (n1 ⟨1,false,[aP],[],.leaf (.int .i64)⟩ (cF bP e0) (n1 ⟨5,true,[aP,aP,dw,.sl [],.sl []],[],QK⟩ bP e0)) (cF (cF bP e0) e0)))) (n0 (n0 (cF (cF (cF bP e0) (cF bP e0)) (n1 ⟨4,true,[aP,aP,.sl [],.sl []],[],pX⟩ (cF bP e0) bP)) (n1 ⟨2,true,[aP,aP],[.int .i64,.int .i64],wS⟩ (n1 ⟨1,false,[.sl []],[],.slice 4 true 56 [aP,aP,dw,.sl []]⟩ (n1 ⟨4,true,[.sl [],.sl [],aP,.sl []],[],.struct [(0,4,true)]⟩ bP e0) (n1 ⟨4,true,[aP,aP,dw,.sl []],[],pX⟩ bP e0)) (cF (n1 ⟨11,true,[kF,aP,.sl [],aP,.sl [],.sl [],aP,aP,.sl [],.sl [],.sl []],[],.struct [(0,1,false),(1,1,false),(2,1,false),(3,3,true),(6,4,true),(10,1,false)]⟩ bP e0) bP))) (cF (n1 ⟨1,false,[.sl []],[],.slice 5 true 40 [aP,aP,aP,aP,aP]⟩ (n1 ⟨11,true,[.sl [],.sl [],.sl [],.sl [],aP,aP,aP,aP,aP,aP,aP],[],.struct [(0,5,true),(5,1,false),(6,5,true)]⟩ (n1 ⟨1,false,[.sl []],[],.slice 15 true 224 [dw,dw,aP,aP,dw,.sl [],aP,aP,dw,.sl [],aP,aP,dw,.sl [],.sl []]⟩ bP e0) (cF bP e0)) (cF (cF bP e0) bP)) (cF (cF (cF bP e0) bP) (cF (cF bP e0) bP))))) (n1 ⟨1,false,[.lit (.int .u8 0)],[],.leaf (.int .u8)⟩ (n1 ⟨1,false,[dw],[],.leaf .str⟩ (n1 ⟨1,false,[kF],[],.ptr⟩ (n1 ⟨1,false,[aP],[],.leaf (.int .i64)⟩ (cF (cF (br ⟨2,true,[dw,.sl []],[],wS⟩) e0) (cF bP e0)) (n1 ⟨3,true,[aP,.sl [],.sl []],[],BO⟩ (cF bP e0) bP)) (n1 ⟨1,false,[aP],[],.leaf (.int .i64)⟩ (n1 ⟨2,true,[dw,aP],[.str,.int .i64],wS⟩ (cF bP e0) (n1 ⟨1,false,[aP],[],.leaf (.int .i64)⟩ (br ⟨0,true,[],[],.struct [(0,0,true)]⟩) e0)) (cF (n1 ⟨1,false,[kF],[],.ptr⟩ bP e0) bP))) (n1 ⟨4,true,[.sl [],.sl [],aP,.sl []],[],pX⟩ (cF (cF (cF (br ⟨2,true,[dw,.sl []],[],wS⟩) e0) (n1 ⟨1,false,[kF],[],.ptr⟩ bP e0)) (n0 (n1 ⟨0,true,[],[],.struct []⟩ (br ⟨1,false,[aP],[],.leaf (.int .i64)⟩) e0) bP)) (cF (n1 ⟨4,true,[aP,aP,dw,.sl []],[],pX⟩ (n1 ⟨1,false,[.sl []],[],.slice 1 false 16 [dw]⟩ (br ⟨1,false,[.lit (.map none)],[],.other⟩) e0) (br ⟨15,true,[dw,dw,aP,aP,dw,.sl [],aP,aP,dw,.sl [],aP,aP,dw,.sl [],.sl []],[],.struct [(0,1,false),(1,1,false),(2,4,true),(6,4,true),(10,5,true)]⟩)) (cF (cF bP e0) (br ⟨3,true,[.sl [],aP,.lit (.bool false)],[],BO⟩))))) (n0 (n1 ⟨1,false,[.lit (.int .i32 0)],[],.leaf (.int .i32)⟩ (cF (cF (cF bP e0) (n0 bP e0)) (n1 ⟨1,false,[kF],[],.ptr⟩ (cF bP e0) bP)) (n1 ⟨5,true,[aP,aP,aP,aP,aP],[.int .i64,.int .i64,.int .i64,.int .i64,.int .i64],.struct [(0,1,false),(1,1,false),(2,1,false),(3,2,true)]⟩ (n1 ⟨4,true,[aP,aP,.sl [],.sl []],[],pX⟩ (cF bP e0) (br ⟨1,false,[.sl []],[],.slice 5 true 80 [aP,aP,dw,.sl [],.sl []]⟩)) (cF (br ⟨0,true,[],[],.struct []⟩) bP))) (n1 ⟨1,false,[.sl []],[],.slice 4 true 64 [aP,aP,.sl [],.sl []]⟩ (cF (cF (n1 ⟨3,true,[dw,.sl [],.sl []],[],BO⟩ bP e0) (n1 ⟨3,true,[.sl [],.sl [],.sl []],[],BO⟩ bP e0)) (cF (n1 ⟨5,true,[aP,aP,aP,aP,aP],[.int .i64,.int .i64,.int .i64,.int .i64,.int .i64],.struct [(0,5,true)]⟩ bP e0) bP)) (cF (n1 ⟨1,false,[aP],[],.leaf (.int .i64)⟩ (cF bP e0) bP) (n1 ⟨1,false,[.lit .nilIface],[],.iface⟩ (cF bP e0) (br ⟨4,true,[aP,dw,aP,aP],[.int .i64,.str,.int .i64,.int .i64],pX⟩))))))) (n1 ⟨1,false,[aP],[],.leaf (.int .i64)⟩ (n1 ⟨1,false,[.lit (.bool false)],[],.leaf .bool⟩ (n0 (n1 ⟨1,false,[kF],[],.ptr⟩ (n1 ⟨5,true,[.sl [],.sl [],.sl [],.sl [],aP],[],QK⟩ (n0 (cF (br ⟨1,false,[.sl []],[],.slice 2 true 40 [dw,.sl []]⟩) e0) (cF bP e0)) (n1 ⟨3,true,[aP,.sl [],.sl []],[],BO⟩ (cF bP e0) bP)) (n1 ⟨1,false,[aP],[],.leaf (.int .i64)⟩ (cF (n0 (br ⟨1,false,[.lit .nilIface],[],.iface⟩) e0) (cF (br ⟨0,true,[],[],.array 0 1 false⟩) e0)) (cF (n0 bP e0) e0))) (n1 ⟨1,false,[.sl []],[],.slice 2 true 24 [dw,aP]⟩ (cF (n0 (cF (br ⟨2,true,[dw,.sl []],[],wS⟩) e0) (cF bP e0)) (n1 ⟨9,true,[.sl [],.sl [],aP,.sl [],.sl [],.sl [],.sl [],.sl [],aP],[],.struct [(0,4,true),(4,5,true)]⟩ (cF bP e0) bP)) (cF (n1 ⟨4,true,[aP,aP,dw,.sl []],[],pX⟩ (cF bP e0) (n1 ⟨15,true,[dw,dw,aP,aP,dw,.sl [],aP,aP,dw,.sl [],aP,aP,dw,.sl [],.sl []],[],.struct [(0,1,false),(1,1,false),(2,4,true),(6,4,true),(10,5,true)]⟩ (br ⟨1,false,[kF],[],.ptr⟩) e0)) (cF (cF (br ⟨1,false,[kF],[],.ptr⟩) e0) bP)))) (n1 ⟨1,false,[.lit (.int .u64 0)],[],.leaf (.int .u64)⟩ (n1 ⟨1,false,[.lit .nilIface],[],.iface⟩ (cF (cF (cF bP e0) (n1 ⟨1,false,[kF],[],.ptr⟩ bP e0)) (n1 ⟨4,true,[aP,aP,.sl [],.sl []],[],pX⟩ (cF bP e0) bP)) (n1 ⟨5,true,[aP,aP,aP,aP,aP],[.int .i64,.int .i64,.int .i64,.int .i64,.int .i64],.struct [(0,1,false),(1,1,false),(2,1,false),(3,2,true)]⟩ (n1 ⟨4,true,[aP,aP,.sl [],.sl []],[],pX⟩ (cF bP e0) (n1 ⟨4,true,[aP,aP,dw,.sl []],[],pX⟩ (br ⟨1,false,[.lit (.int .u32 0)],[],.leaf (.int .u32)⟩) e0)) (n0 (cF bP e0) e0))) (cF (n0 (n1 ⟨11,true,[.sl [],.sl [],.sl [],.sl [],aP,aP,aP,aP,aP,aP,aP],[],.struct [(0,5,true),(5,1,false),(6,5,true)]⟩ (n1 ⟨3,true,[dw,.sl [],.sl []],[],BO⟩ bP e0) (n1 ⟨3,true,[.sl [],.sl [],.sl []],[],BO⟩ bP e0)) (cF (n1 ⟨5,true,[aP,aP,aP,aP,aP],[.int .i64,.int .i64,.int .i64,.int .i64,.int .i64],.struct [(0,5,true)]⟩ bP e0) bP)) (cF (cF (cF bP e0) bP) (cF (cF bP e0) (br ⟨1,false,[aP],[],.leaf (.int .i64)⟩)))))) (n0 (n0 (n1 ⟨1,true,[kF],[],UY⟩ (n0 (n0 (cF (br ⟨2,true,[dw,.sl []],[],wS⟩) e0) (cF bP e0)) (n1 ⟨1,false,[.sl []],[],.slice 3 true 56 [aP,.sl [],.sl []]⟩ (cF bP e0) bP)) (n1 ⟨2,true,[aP,aP],[.int .i64,.int .i64],wS⟩ (n1 ⟨2,true,[dw,aP],[.str,.int .i64],wS⟩ (n1 ⟨4,true,[.sl [],.sl [],aP,.sl []],[],.struct [(0,4,true)]⟩ (br ⟨0,true,[],[],.struct []⟩) e0) (br ⟨1,false,[.sl []],[],.slice 4 true 56 [aP,aP,dw,.sl []]⟩)) (n0 (n1 ⟨11,true,[kF,aP,.sl [],aP,.sl [],.sl [],aP,aP,.sl [],.sl [],.sl []],[],.struct [(0,1,false),(1,1,false),(2,1,false),(3,3,true),(6,4,true),(10,1,false)]⟩ bP e0) e0))) (n1 ⟨4,true,[.sl [],.sl [],aP,.sl []],[],pX⟩ (cF (cF (n1 ⟨1,false,[.sl []],[],.slice 2 true 40 [dw,.sl []]⟩ bP e0) bP) (cF (n1 ⟨0,true,[],[],.struct []⟩ (br ⟨0,true,[],[],.struct []⟩) e0) bP)) (cF (cF (cF bP e0) bP) (cF (cF bP e0) (br ⟨3,true,[.sl [],aP,.lit (.bool false)],[],BO⟩))))) (n0 (n1 ⟨1,false,[.sl []],[],.slice 4 true 64 [aP,aP,.sl [],.sl []]⟩ (n0 (n0 (cF bP e0) (cF bP e0)) (cF (cF bP e0) bP)) (n1 ⟨2,true,[aP,aP],[.int .i64,.int .i64],wS⟩ (cF (cF bP e0) (br ⟨5,true,[aP,aP,dw,.sl [],.sl []],[],QK⟩)) (cF (cF bP e0) (br ⟨1,false,[.sl []],[],.slice 4 true 40 [aP,dw,aP,aP]⟩)))) (n1 ⟨1,false,[.sl []],[],.slice 2 true 16 [aP,aP]⟩ (cF (n0 (n0 (br ⟨1,false,[.lit (.map none)],[],.other⟩) e0) (cF (br ⟨4,true,[kF,kF,kF,dw],[],pX⟩) e0)) (n1 ⟨1,false,[.sl []],[],.slice 1 false 1 [.lit (.bool false)]⟩ (n1 ⟨1,true,[aP],[.int .i64],UY⟩ bP e0) (br ⟨29,true,[eS,eS,eS,eS,eS,eS,eS,eS,eS,eS,eS,eS,eS,eS,eS,eS,eS,eS,eS,eS,eS,eS,eS,eS,eS,eS,eS,eS,eS],[],.array 29 1 false⟩))) (n0 (cF bP bP) (n1 ⟨1,false,[.lit .nilIface],[],.iface⟩ (cF bP e0) (br ⟨4,true,[aP,dw,aP,aP],[.int .i64,.str,.int .i64,.int .i64],pX⟩))))))))
noncomputable def Sp:Tr (Ty):=(n0 (n0 (n1 (.int .i64) (n0 (n0 (n0 e0 (br (.sl (.st 4)))) (n0 e0 (n0 (br (.st 14)) e0))) (n1 (.sl (.int .i64)) e0 (n1 (.st 7) (n1 (.int .i64) e0 (br (.st 20))) e0))) (n0 (n0 e0 (n1 (.st 4) (n1 (.sl (.st 0)) (br (.st 23)) e0) e0)) (n0 (n1 (.sl (.st 9)) (n0 (br (.sl (.st 21))) e0) e0) e0))) (n1 (.int .u8) (n1 (.str) (n0 (n1 (.int .i64) e0 (br (.st 5))) (n1 (.int .i64) (n0 e0 (br (.int .i64))) e0)) (n0 (n0 (n0 (n0 (br (.st 18)) e0) e0) (n0 (n0 (br (.int .i64)) e0) e0)) (n0 (n1 (.st 0) (br (.sl (.str))) (br (.st 21))) e0))) (n0 (n1 (.int .i32) e0 (n1 (.st 9) (n1 (.st 1) e0 (br (.sl (.st 20)))) (n0 (br (.st 15)) e0))) (n1 (.sl (.st 6)) (n0 (n0 (br (.st 22)) (br (.st 24))) (n0 (br (.st 13)) e0)) (n0 (br (.int .i64)) e0))))) (n1 (.int .i64) (n1 (.bool) (n0 (n0 (n1 (.st 8) (n0 (n0 (br (.sl (.st 18))) e0) e0) e0) (n1 (.int .i64) (n0 (n0 (br (.cR 29)) e0) e0) e0)) (n1 (.sl (.st 2)) (n0 e0 (br (.st 11))) e0)) (n1 (.int .u64) (n1 (.cR 30) (n0 e0 (br (.st 6))) (n0 (n0 e0 (n1 (.st 17) (br (.int .u32)) e0)) e0)) (n0 (n0 (br (.st 10)) e0) (n0 e0 (n0 e0 (br (.int .i64))))))) (n0 (n0 (n0 (n0 (n0 (n0 (br (.st 19)) e0) e0) (br (.sl (.st 5)))) (n0 (n1 (.st 2) (n0 (br (.st 27)) e0) (br (.sl (.st 17)))) e0)) (n1 (.st 3) (n0 (n0 (br (.sl (.st 19))) e0) (n0 (n1 (.st 12) (br (.st 28)) e0) e0)) (n0 e0 (n0 e0 (br (.st 26)))))) (n0 (n1 (.sl (.st 1)) e0 (n0 e0 (n0 e0 (br (.sl (.st 25)))))) (n1 (.sl (.st 7)) (n0 e0 (br (.sl (.bool)))) (n0 e0 (n1 (.cR 16) e0 (br (.st 25)))))))))
noncomputable def YV:Tr (MT):=(n0 (n0 (n0 (n0 (n0 (n0 e0 (n0 (br ⟨.int .i64,some (.int .i64),3⟩) e0)) e0) e0) e0) (n0 (n0 e0 (n0 e0 (n0 (n0 (n0 (br ⟨.int .i64,some (.bool),4⟩) e0) e0) e0))) e0)) (n0 e0 (n0 e0 (n0 e0 (n0 (n0 (n0 (n0 (br ⟨.str,some (.bool),4⟩) e0) e0) e0) e0)))))
noncomputable def uD:Tr (List (String×FuncId)):=(n0 (n0 (n0 (n0 (n1 [("Error",328),("RuntimeError",329)] e0 (n0 e0 (n0 (n1 [("hearth/mean.event",114)] e0 e0) e0))) e0) (n1 [("Error",324),("RuntimeError",325)] (n1 [("Error",333),("RuntimeError",334)] e0 (n0 (n0 (n1 [("hearth/bind.formed",87),("hearth/bind.node",153),("hearth/bind.number",204),("hearth/bind.pat",203)] e0 e0) e0) e0)) e0)) (n0 (n0 (n1 [("Align",332)] e0 e0) (n0 (n0 (n0 e0 (n1 [("hearth/hearthref05.known",143),("hearth/hearthref05.knownPat",191),("hearth/hearthref05.pattern",194),("hearth/hearthref05.put",145)] e0 e0)) (n0 (n0 (n1 [("hearth/bind.fine",339)] e0 e0) e0) e0)) e0)) (n0 (n0 (n0 e0 (n1 [("hearth/mean.copied",51),("hearth/mean.finish",111),("hearth/mean.frame",266),("hearth/mean.frames",212),("hearth/mean.next",110),("hearth/mean.object",163),("hearth/mean.open",267),("hearth/mean.ordered",60),("hearth/mean.ready",68),("hearth/mean.settle",50),("hearth/mean.step",70),("hearth/mean.task",213),("hearth/mean.tasks",164),("hearth/mean.turn",59),("hearth/mean.value",211),("hearth/mean.world",99)] e0 e0)) (n0 e0 (n0 (n1 [("hearth/mean.event",337)] e0 e0) e0))) (n0 (n0 e0 (n0 (n1 [("hearth/mean.event",336)] e0 e0) e0)) e0)))) (n0 (n0 (n1 [("Error",320),("RuntimeError",321)] (n1 [("Error",330),("RuntimeError",331)] e0 e0) e0) (n0 (n0 (n0 (n0 e0 (n1 [("hearth/hearthref02.applied",312),("hearth/hearthref02.atom",313),("hearth/hearthref02.begins",314),("hearth/hearthref02.call",317),("hearth/hearthref02.cases",316),("hearth/hearthref02.data",183),("hearth/hearthref02.function",184),("hearth/hearthref02.has",182),("hearth/hearthref02.is",246),("hearth/hearthref02.kind",248),("hearth/hearthref02.module",136),("hearth/hearthref02.of",306),("hearth/hearthref02.pat",319),("hearth/hearthref02.product",307),("hearth/hearthref02.sees",247),("hearth/hearthref02.simple",286),("hearth/hearthref02.sum",288),("hearth/hearthref02.take",181),("hearth/hearthref02.term",249),("hearth/hearthref02.terms",315),("hearth/hearthref02.under",287),("hearth/hearthref02.want",180),("hearth/hearthref02.whole",137)] e0 e0)) e0) e0) e0)) (n0 (n1 [("Error",322),("RuntimeError",323)] (n0 e0 (n0 (n0 (n0 (n1 [("hearth/bind.fine",338)] e0 e0) e0) e0) e0)) (n0 (n0 e0 (n0 (n1 [("hearth/mean.event",335)] (n1 [("hearth/bind.fine",340)] e0 e0) e0) e0)) e0)) (n1 [("Error",326),("RuntimeError",327)] (n0 e0 (n0 (n0 e0 (n0 (n1 [("String",341)] e0 e0) e0)) e0)) e0))))
noncomputable def rN:Tr (Func):=(n1 f0 (n1 f1 (n1 f3 (n1 f7 (n1 f15 (n1 f31 (n1 f63 (n1 f127 (br f255) e0) (n1 f191 (br f319) e0)) (n1 f95 (n1 f159 (br f287) e0) (br f223))) (n1 f47 (n1 f79 (n1 f143 (br f271) e0) (n1 f207 (br f335) e0)) (n1 f111 (n1 f175 (br f303) e0) (br f239)))) (n1 f23 (n1 f39 (n1 f71 (n1 f135 (br f263) e0) (n1 f199 (br f327) e0)) (n1 f103 (n1 f167 (br f295) e0) (br f231))) (n1 f55 (n1 f87 (n1 f151 (br f279) e0) (br f215)) (n1 f119 (n1 f183 (br f311) e0) (br f247))))) (n1 f11 (n1 f19 (n1 f35 (n1 f67 (n1 f131 (br f259) e0) (n1 f195 (br f323) e0)) (n1 f99 (n1 f163 (br f291) e0) (br f227))) (n1 f51 (n1 f83 (n1 f147 (br f275) e0) (n1 f211 (br f339) e0)) (n1 f115 (n1 f179 (br f307) e0) (br f243)))) (n1 f27 (n1 f43 (n1 f75 (n1 f139 (br f267) e0) (n1 f203 (br f331) e0)) (n1 f107 (n1 f171 (br f299) e0) (br f235))) (n1 f59 (n1 f91 (n1 f155 (br f283) e0) (br f219)) (n1 f123 (n1 f187 (br f315) e0) (br f251)))))) (n1 f5 (n1 f9 (n1 f17 (n1 f33 (n1 f65 (n1 f129 (br f257) e0) (n1 f193 (br f321) e0)) (n1 f97 (n1 f161 (br f289) e0) (br f225))) (n1 f49 (n1 f81 (n1 f145 (br f273) e0) (n1 f209 (br f337) e0)) (n1 f113 (n1 f177 (br f305) e0) (br f241)))) (n1 f25 (n1 f41 (n1 f73 (n1 f137 (br f265) e0) (n1 f201 (br f329) e0)) (n1 f105 (n1 f169 (br f297) e0) (br f233))) (n1 f57 (n1 f89 (n1 f153 (br f281) e0) (br f217)) (n1 f121 (n1 f185 (br f313) e0) (br f249))))) (n1 f13 (n1 f21 (n1 f37 (n1 f69 (n1 f133 (br f261) e0) (n1 f197 (br f325) e0)) (n1 f101 (n1 f165 (br f293) e0) (br f229))) (n1 f53 (n1 f85 (n1 f149 (br f277) e0) (n1 f213 (br f341) e0)) (n1 f117 (n1 f181 (br f309) e0) (br f245)))) (n1 f29 (n1 f45 (n1 f77 (n1 f141 (br f269) e0) (n1 f205 (br f333) e0)) (n1 f109 (n1 f173 (br f301) e0) (br f237))) (n1 f61 (n1 f93 (n1 f157 (br f285) e0) (br f221)) (n1 f125 (n1 f189 (br f317) e0) (br f253))))))) (n1 f2 (n1 f4 (n1 f8 (n1 f16 (n1 f32 (n1 f64 (n1 f128 (br f256) e0) (n1 f192 (br f320) e0)) (n1 f96 (n1 f160 (br f288) e0) (br f224))) (n1 f48 (n1 f80 (n1 f144 (br f272) e0) (n1 f208 (br f336) e0)) (n1 f112 (n1 f176 (br f304) e0) (br f240)))) (n1 f24 (n1 f40 (n1 f72 (n1 f136 (br f264) e0) (n1 f200 (br f328) e0)) (n1 f104 (n1 f168 (br f296) e0) (br f232))) (n1 f56 (n1 f88 (n1 f152 (br f280) e0) (br f216)) (n1 f120 (n1 f184 (br f312) e0) (br f248))))) (n1 f12 (n1 f20 (n1 f36 (n1 f68 (n1 f132 (br f260) e0) (n1 f196 (br f324) e0)) (n1 f100 (n1 f164 (br f292) e0) (br f228))) (n1 f52 (n1 f84 (n1 f148 (br f276) e0) (n1 f212 (br f340) e0)) (n1 f116 (n1 f180 (br f308) e0) (br f244)))) (n1 f28 (n1 f44 (n1 f76 (n1 f140 (br f268) e0) (n1 f204 (br f332) e0)) (n1 f108 (n1 f172 (br f300) e0) (br f236))) (n1 f60 (n1 f92 (n1 f156 (br f284) e0) (br f220)) (n1 f124 (n1 f188 (br f316) e0) (br f252)))))) (n1 f6 (n1 f10 (n1 f18 (n1 f34 (n1 f66 (n1 f130 (br f258) e0) (n1 f194 (br f322) e0)) (n1 f98 (n1 f162 (br f290) e0) (br f226))) (n1 f50 (n1 f82 (n1 f146 (br f274) e0) (n1 f210 (br f338) e0)) (n1 f114 (n1 f178 (br f306) e0) (br f242)))) (n1 f26 (n1 f42 (n1 f74 (n1 f138 (br f266) e0) (n1 f202 (br f330) e0)) (n1 f106 (n1 f170 (br f298) e0) (br f234))) (n1 f58 (n1 f90 (n1 f154 (br f282) e0) (br f218)) (n1 f122 (n1 f186 (br f314) e0) (br f250))))) (n1 f14 (n1 f22 (n1 f38 (n1 f70 (n1 f134 (br f262) e0) (n1 f198 (br f326) e0)) (n1 f102 (n1 f166 (br f294) e0) (br f230))) (n1 f54 (n1 f86 (n1 f150 (br f278) e0) (br f214)) (n1 f118 (n1 f182 (br f310) e0) (br f246)))) (n1 f30 (n1 f46 (n1 f78 (n1 f142 (br f270) e0) (n1 f206 (br f334) e0)) (n1 f110 (n1 f174 (br f302) e0) (br f238))) (n1 f62 (n1 f94 (n1 f158 (br f286) e0) (br f222)) (n1 f126 (n1 f190 (br f318) e0) (br f254))))))))
noncomputable def prog:Program:=Go.Proofs.Tryz.prog
noncomputable def Pj:gA:=mkE prog N9 Sp YV uD rN λn=>bif Nat.beq n 1 then some 2 else none
end
def h1:N9.mapKey (λk _=>Zn prog (MU prog) k)=N9.mapKey λ_ i=>some i:=by kernel_rfl
def h2:rN.mapKey (λk _=>prog.funcs[k]?)=rN.mapKey λ_ f=>some f:=by kernel_rfl
def h3:Sp.mapKey (λk τ=>(N9.get k).map (Ji sg τ))=Sp.mapKey λk τ=>(N9.get k).map (Jh sg τ):=by kernel_rfl
def h4:rN.mapKey (λ_ f=>f.name== "runtime.NumGoroutine")=rN.mapKey λ_ _=>false:=by kernel_rfl
def h5:YV.mapKey (λk m=>mtB Pj k m)=YV.mapKey λ_ _=>true:=by kernel_rfl
def h6:uD.mapKey (λk l=>l.all (Rd prog k))=uD.mapKey λ_ _=>true:=by kernel_rfl
def ab9(Hh:FuncId->Option (lF sg))(sh:FuncId->Nat->Option LSh)(hg:∀f c,Hh f=some c->bC prog f c)(pn:Bool):eL (⟨Pj,Hh,sh,pn⟩:ga sg):=
 Xj abA h1 h2 h3 h4 h5 h6 Hh sh hg pn
def YU(l:List (Nat×Nat×LSh))(f b:Nat):Option LSh:=match l with
 |[]=>none
 |p::l=>bif Nat.beq p.1 f&&Nat.beq p.2.1 b then some p.2.2 else YU l f b
def mixed:prog.follows .mixedOrders=true:=by kernel_rfl
def S4(l:List (FuncId×lF sg))(hl:OkL prog l)(sh:FuncId->Nat->Option LSh)(pn:Bool)(n d:Nat)(f:FuncId)(ps:List Pk)(rs:List Ck)(hb:((rN.get f).bind (·.body)).isSome=true)
  {F:fW sg.A ps->Option (RT pn (gp sg.A rs×iE sg.A ps) (den sg.A sg.pt×iE sg.A ps))} (h:(λx=>Fa (⟨Pj,Ss l,sh,pn⟩:ga sg) n d f ps rs x)=F):bC prog f (⟨ps,rs,pn,F⟩:lF sg):=by
 cases h1:rN.get f with
 |none=>rw[h1]at hb;cases hb
 |some fn=>
  rw[h1]at hb;cases h2:fn.body with
  |none=>rw[show(some fn:Option Func).bind (·.body)=fn.body from rfl,h2]at hb;cases hb
  |some c=>have:=ace (E:=(⟨Pj,Ss l,sh,pn⟩:ga sg)) (ab9 (Ss l) sh (QI hl) pn) mixed (f:=f) (fn:=fn) (c:=c) h1 h2 n d ps rs;rw[<-h];exact this
structure OC where
 f:FuncId
 c:lF sg
 h:bC prog f c
def Oc(l:List OC)(f:FuncId):Option (lF sg):=match l with
 |[]=>none
 |k::l=>bif Nat.beq k.f f then some k.c else Oc l f
def QH:∀{l:List OC}(f:FuncId)(c:lF sg),Oc l f=some c->bC prog f c
 |[],_,_,h=>by cases h
 |k::l,f,c,h=>by
  unfold Oc at h;cases hb:Nat.beq k.f f with
  |true=>
   rw[hb]at h;have e:k.f=f:=nT hb;injection h with h
   rw[<-h,<-e];exact k.h
  |false=>rw[hb]at h;exact QH f c h
def cq(l:List OC)(sh:List (Nat×Nat×LSh)){pn:Bool}(n d:Nat)(f:FuncId){ps:List Pk}{rs:List Ck}
  {F:fW sg.A ps->Option (RT pn (gp sg.A rs×iE sg.A ps) (den sg.A sg.pt×iE sg.A ps))} (h:(((rN.get f).bind (·.body)).isSome,λx=>Fa (⟨Pj,Oc l,YU sh,pn⟩:ga sg) n d f ps rs x)=(true,F):=by kernel_rfl):bC prog f (⟨ps,rs,pn,F⟩:lF sg):=by
 have hb:((rN.get f).bind (·.body)).isSome=true:=nB Prod.fst h;have h:(λx=>Fa (⟨Pj,Oc l,YU sh,pn⟩:ga sg) n d f ps rs x)=F:=nB Prod.snd h;cases h1:rN.get f with
 |none=>rw[h1]at hb;cases hb
 |some fn=>
  rw[h1]at hb;cases h2:fn.body with
  |none=>rw[show(some fn:Option Func).bind (·.body)=fn.body from rfl,h2]at hb;cases hb
  |some c=>have:=ace (E:=(⟨Pj,Oc l,YU sh,pn⟩:ga sg)) (ab9 (Oc l) (YU sh) QH pn) mixed (f:=f) (fn:=fn) (c:=c) h1 h2 n d ps rs;rw[<-h];exact this
def enters(f:FuncId)(hb:((rN.get f).bind (·.body)).isSome=true):mM prog f:=
 (S4 [] trivial (λ_ _=>none) false 0 0 f [] [] hb rfl).1
abbrev aiS:Ck:=.dat (.sl (.st 25))
abbrev Km:Ck:=.dat (.sl (.st 7))
abbrev XI:Ck:=.dat (.sl (.st 6))
abbrev wO:Ck:=.dat (.sl (.st 5))
abbrev s7:Ck:=.dat (.sl (.st 4))
abbrev b8y:Ck:=.dat (.sl (.st 2))
abbrev b7y:Ck:=.dat (.sl (.st 1))
abbrev b6y:Ck:=.dat (.sl (.st 0))
abbrev CU:Ck:=.dat (.sl (.int .i64))
abbrev Zg:Ck:=.dat (.bool)
abbrev lD:Ck:=.dat (.int .i64)
abbrev cZ:Pk:=.one (Zg)
abbrev cW:Pk:=.one (lD)
abbrev aeR:Pk:=.box (.cells [.own (.int .i64)])
abbrev aiU:Pk:=.box (.cells [.dat (.str),.own (.st 17)])
abbrev aiV:Pk:=.box (.cells [.dat (.str),.own (.st 19),.own (.st 21)])
abbrev wN:Pk:=.box (.cells [aiS,lD,Zg])
abbrev T3:Pk:=.box (.cells [.dat (.sl (.str)),b8y,.jy 1 2 (.int .i64)])
abbrev aeT:Pk:=.box (.cells [lD,lD,.dat (.str),.own (.st 0)])
abbrev aiW:Pk:=.box (.cells [.nil (.st 1),.nil (.int .i64),lD,.nil (.st 2)])
abbrev abd:Pk:=.box (.cells [lD,.dat (.str),lD,lD])
abbrev abe:Pk:=.box (.cells [lD,lD,.nil (.int .i64),.own (.st 0)])
abbrev aeU:Pk:=.box (.cells [lD,lD,s7,.own (.st 5)])
abbrev aiX:Pk:=.box (.cells [lD,lD,s7,wO])
abbrev b7z:Pk:=.box (.cells [lD,lD,.dat (.str),.dat (.sl (.st 20)),b6y])
abbrev b6z:Pk:=.box (.cells [.own (.st 6),.own (.int .i64),Km,CU,lD])
abbrev b4z:Pk:=.box (.cells [XI,CU,Km,CU,lD])
abbrev UJ:Pk:=.hid (.cells [b7y,CU,lD,b8y,XI,CU,Km,CU,lD])
abbrev b2z:Pk:=.box (.cells [b7y,CU,lD,b8y,XI,CU,Km,CU,lD])
abbrev UK:Pk:=.box (.link [] [lD,wO,lD,s7,s7,lD,lD,CU,b6y,s7])
abbrev b0z:Pk:=.box (.cells [XI,CU,Km,CU,lD,lD,lD,lD,lD,lD,lD])
abbrev P1:List Pk:=[.one (.dat (.st 0)),cW]
abbrev K2:List Ck:=[lD]
abbrev P3:List Pk:=[.one (.dat (.st 0))]
abbrev K4:List Ck:=[Zg]
abbrev P5:List Pk:=[.one (.dat (.st 3))]
abbrev P6:List Pk:=[cW,cW,cW]
abbrev P7:List Pk:=[.one (.dat (.str))]
abbrev P8:List Pk:=[.one (.dat (.st 2))]
abbrev P9:List Pk:=[.one (.dat (.sl (.str)))]
abbrev K10:List Ck:=[.dat (.str)]
abbrev P11:List Pk:=[cW]
abbrev K12:List Ck:=[.dat (.cR 29)]
abbrev P13:List Pk:=[.one (.dat (.st 23)),.one (.dat (.st 0))]
abbrev P14:List Pk:=[.one (.dat (.st 23)),.one (.dat (.st 1))]
abbrev P15:List Pk:=[.one (.dat (.st 23))]
abbrev P16:List Pk:=[.one (CU)]
abbrev K17:List Ck:=[.dat (.st 4)]
abbrev K18:List Ck:=[.own (.int .i64)]
abbrev P19:List Pk:=[.one (.dat (.cR 16))]
abbrev P20:List Pk:=[.one (XI)]
abbrev K21:List Ck:=[.own (.st 6)]
abbrev P22:List Pk:=[.one (.dat (.st 4))]
abbrev P23:List Pk:=[.one (.dat (.st 14))]
abbrev K24:List Ck:=[.dat (.st 9)]
abbrev P25:List Pk:=[cZ,cW]
abbrev P26:List Pk:=[UK,UJ,.one (wO)]
abbrev P27:List Pk:=[.one (.dat (.st 1))]
abbrev P28:List Pk:=[UK,UJ,cW,.one (s7)]
abbrev K29:List Ck:=[.dat (.cR 16)]
abbrev P30:List Pk:=[UK,UJ,.one (.dat (.st 4))]
abbrev P31:List Pk:=[cZ]
abbrev CW:List Pk:=[UK,UJ]
abbrev P33:List Pk:=[UK,UJ,.one (.dat (.st 6))]
abbrev P34:List Pk:=[.one (s7),.one (s7)]
abbrev K35:List Ck:=[s7]
abbrev P36:List Pk:=[UK,UJ,.one (.dat (.st 4)),cW]
abbrev K37:List Ck:=[.dat (.st 6),Zg]
abbrev P38:List Pk:=[UK,UJ,.one (.dat (.st 4)),.one (.dat (.st 4))]
abbrev K39:List Ck:=[.dat (.st 5),Zg]
abbrev K40:List Ck:=[.dat (.st 6)]
abbrev K41:List Ck:=[lD,lD]
abbrev P42:List Pk:=[UK,UJ,.one (.dat (.st 0)),.one (.dat (.st 4)),.box (.cells [.own (.st 4)])]
abbrev P43:List Pk:=[UK,UJ,cW,.one (.dat (.st 6))]
abbrev P44:List Pk:=[.one (wO)]
abbrev K45:List Ck:=[.own (.st 5)]
abbrev P46:List Pk:=[b2z,cW]
abbrev K47:List Ck:=[lD,Zg]
abbrev P48:List Pk:=[.one (Km)]
abbrev K49:List Ck:=[.own (.st 7)]
abbrev P50:List Pk:=[.one (s7)]
abbrev K51:List Ck:=[.own (.st 4)]
abbrev P52:List Pk:=[b2z]
abbrev K53:List Ck:=[.dat (.st 8)]
abbrev P54:List Pk:=[.one (.dat (.st 3)),.one (CU)]
abbrev K55:List Ck:=[.dat (.st 8),lD]
abbrev P56:List Pk:=[.one (.ptr (.st 11)),.one (.dat (.st 4))]
abbrev P57:List Pk:=[.one (.ptr (.st 11)),.one (.dat (.st 5))]
abbrev P58:List Pk:=[.one (.ptr (.st 11)),.one (wO),cW]
abbrev P59:List Pk:=[.one (.ptr (.st 11)),.one (.dat (.st 6))]
abbrev P60:List Pk:=[.one (.ptr (.st 11))]
abbrev P61:List Pk:=[.one (.dat (.st 7))]
abbrev P62:List Pk:=[.one (.ptr (.st 11)),cW]
abbrev K63:List Ck:=[CU]
abbrev K64:List Ck:=[.dat (.st 9),lD,lD]
abbrev P65:List Pk:=[.one (.dat (.st 3)),.one (.dat (.st 8)),.one (CU)]
abbrev K66:List Ck:=[.dat (.st 8),.dat (.sl (.st 9)),lD]
abbrev P67:List Pk:=[.one (.dat (.st 3)),.one (.dat (.st 8))]
abbrev P68:List Pk:=[.one (.dat (.st 3)),.one (.dat (.st 8)),cW]
abbrev K69:List Ck:=[.dat (.st 8),.dat (.st 9),lD,lD]
abbrev P70:List Pk:=[.one (.dat (.str)),cW]
abbrev P71:List Pk:=[.one (.dat (.sl (.str))),.one (.dat (.str))]
abbrev K72:List Ck:=[.dat (.sl (.str))]
abbrev P73:List Pk:=[.one (.dat (.int .u8))]
abbrev P74:List Pk:=[.one (.dat (.str)),cW,cZ]
abbrev K75:List Ck:=[.dat (.st 25)]
abbrev K76:List Ck:=[aiS,lD]
abbrev P77:List Pk:=[.one (.ptr (.st 26)),.one (.dat (.str))]
abbrev P78:List Pk:=[wN,.one (.dat (.str))]
abbrev P79:List Pk:=[.one (.ptr (.st 26)),cW]
abbrev NL:List Pk:=[wN,cW]
abbrev kO:List Pk:=[wN]
abbrev K82:List Ck:=[.dat (.st 17)]
abbrev K83:List Ck:=[.dat (.st 19)]
abbrev P84:List Pk:=[cW,.one (.dat (.st 20)),.one (.dat (.st 20))]
abbrev K85:List Ck:=[.dat (.st 20)]
abbrev K86:List Ck:=[.dat (.st 0)]
abbrev P87:List Pk:=[.one (.ptr (.st 26))]
abbrev K88:List Ck:=[.dat (.sl (.st 20))]
abbrev K89:List Ck:=[.dat (.st 21)]
abbrev K90:List Ck:=[.dat (.st 22)]
abbrev P91:List Pk:=[.one (.dat (.st 17)),cW]
abbrev P92:List Pk:=[.one (.dat (.st 17)),cZ]
abbrev P93:List Pk:=[.one (.dat (.st 17))]
abbrev P94:List Pk:=[.one (.dat (.st 19))]
abbrev P95:List Pk:=[.one (.dat (.st 20)),cW,cW]
abbrev P96:List Pk:=[.one (.dat (.st 20)),cZ,cZ,cZ]
abbrev P97:List Pk:=[.one (.dat (.st 20))]
abbrev P98:List Pk:=[.one (.dat (.st 22))]
abbrev K99:List Ck:=[.dat (.st 22),lD]
abbrev K100:List Ck:=[b8y]
abbrev ajM:List Pk:=[.one (b8y)]
abbrev aqV:List Pk:=[.one (b8y),.one (.dat (.str))]
abbrev Un:List Pk:=[.one (.ptr (.st 24)),.one (.dat (.st 0))]
abbrev aqU:List Pk:=[.one (.dat (.sl (.str))),.one (.dat (.sl (.str)))]
abbrev aqT:List Pk:=[.one (.dat (.st 20)),cW]
abbrev Um:List Pk:=[.one (.ptr (.st 24)),.one (.dat (.st 20)),.one (.dat (.sl (.str)))]
abbrev Ul:List Pk:=[T3,.one (.dat (.st 0))]
abbrev Uk:List Pk:=[T3,.one (.dat (.st 20)),.one (.dat (.sl (.str)))]
abbrev K109:List Ck:=[.dat (.st 3),lD]
abbrev K110:List Ck:=[.dat (.st 3)]
abbrev Uj:List Pk:=[.one (.dat (.st 0)),.one (b8y)]
abbrev aqS:List Pk:=[.one (.dat (.st 3)),.one (.dat (.st 1))]
abbrev afp:List Pk:=[.one (CU),cW]
abbrev aqR:List Pk:=[.one (CU),.one (CU)]
abbrev aqQ:List Pk:=[.one (Km),.one (Km)]
abbrev aqP:List Pk:=[.one (.dat (.st 6)),.one (.dat (.st 6))]
abbrev aqO:List Pk:=[.one (.dat (.st 8)),.one (.dat (.st 8))]
abbrev X1:List Pk:=[.one (.dat (.st 8))]
abbrev aqN:List Pk:=[.one (s7),.one (.dat (.st 4))]
abbrev afo:List Pk:=[.one (.dat (.st 8)),cW,.one (wO),cW,.one (s7)]
abbrev K121:List Ck:=[.dat (.st 10)]
abbrev aqM:List Pk:=[.one (.dat (.st 8)),.one (.dat (.st 4)),cW]
abbrev aqL:List Pk:=[.one (.dat (.st 3)),.one (.dat (.st 8)),.one (.dat (.st 4)),.one (.dat (.st 4))]
abbrev aqK:List Pk:=[.one (.dat (.st 3)),.one (.dat (.st 8)),cW,.one (wO),.one (.dat (.st 4)),.one (.dat (.st 4))]
abbrev aqJ:List Pk:=[.one (.dat (.st 8)),cW,.one (wO),cW,.one (.dat (.st 4)),.one (.dat (.st 4))]
abbrev Ui:List Pk:=[.one (.dat (.st 8)),.one (.dat (.st 0)),.one (.dat (.st 4))]
abbrev K127:List Ck:=[s7,Zg]
abbrev aqI:List Pk:=[.one (.dat (.st 8)),cW,.one (wO),.one (.dat (.st 1)),.one (s7),.one (.dat (.st 4))]
abbrev aqH:List Pk:=[.one (.dat (.st 3)),.one (.dat (.st 8)),cW,.one (wO),cW,.one (s7)]
abbrev aqG:List Pk:=[.one (.dat (.st 10)),cW,cW,cW,.one (.dat (.st 4))]
abbrev aqF:List Pk:=[.one (.dat (.st 3)),.one (.dat (.st 8)),cW,.one (wO),.one (.dat (.st 4))]
abbrev aqE:List Pk:=[.one (.dat (.st 8)),cW,.one (wO),.one (.dat (.st 4))]
abbrev aqD:List Pk:=[.one (.dat (.st 8)),cW,.one (wO),.one (.dat (.st 1)),.one (s7)]
abbrev aqC:List Pk:=[.one (.dat (.st 3)),.one (.dat (.st 8)),cW,.one (wO),.one (.dat (.st 5))]
abbrev K135:List Ck:=[.dat (.st 8),lD,Zg]
abbrev K136:List Ck:=[.dat (.st 8),Zg]
abbrev aqB:List Pk:=[.one (.dat (.st 3)),.one (.dat (.st 8)),.one (.dat (.st 4))]
abbrev aqA:List Pk:=[.one (.dat (.st 3)),.one (.dat (.st 8)),.one (s7),cW]
abbrev aqz:List Pk:=[.one (.dat (.st 3)),.one (.dat (.st 8)),.one (wO)]
abbrev aqy:List Pk:=[.one (.dat (.st 3)),.one (wO),cW]
abbrev ajL:List Pk:=[.one (.dat (.st 3)),.one (.dat (.st 8)),.one (.dat (.st 6))]
abbrev aqx:List Pk:=[cW,cW]
abbrev aqw:List Pk:=[.one (.dat (.sl (.st 9))),.one (.dat (.sl (.st 9)))]
abbrev aqv:List Pk:=[.one (.own (.int .i64)),cW]
abbrev aqu:List Pk:=[.one (.own (.int .i64)),.one (s7)]
abbrev aqt:List Pk:=[.one (s7),.one (CU)]
abbrev K147:List Ck:=[.dat (.st 8),lD,lD]
abbrev P148:List Pk:=[.one (.dat (.st 3)),.one (.dat (.st 8)),.one (CU),.one (CU)]
abbrev K149:List Ck:=[CU,lD]
abbrev K150:List Ck:=[.dat (.st 8),.dat (.st 9),lD]
abbrev P151:List Pk:=[.one (.dat (.st 5)),.one (.dat (.st 5))]
abbrev P152:List Pk:=[.one (.dat (.st 3)),.one (.dat (.st 8)),.one (.dat (.st 8))]
abbrev K153:List Ck:=[Zg,lD]
abbrev aqs:List Pk:=[.one (.dat (.st 12))]
abbrev aqr:List Pk:=[.one (.dat (.st 13))]
abbrev aqq:List Pk:=[.one (.dat (.st 15))]
abbrev aqp:List Pk:=[.one (.dat (.st 27)),.one (.dat (.st 23)),.one (.dat (.st 1))]
abbrev aqo:List Pk:=[cW,.one (.dat (.st 23)),.one (.dat (.st 1))]
abbrev aqn:List Pk:=[.one (.dat (.st 28)),.one (.dat (.st 23)),.one (.dat (.st 1))]
abbrev Fn(ps:List Pk)(rs:List Ck)(pn:Bool):Type:=fW sg.A ps->Option (RT pn (gp sg.A rs×iE sg.A ps) (den sg.A sg.pt×iE sg.A ps))
abbrev Y1:=Unit×Int×List ax×Int×List au×List au×Int×Int×List Int×List aC×List au×Unit
abbrev Y2:=List bp×List Int×Int×List cz×List aE×List Int×List dW×List Int×Int×Unit
abbrev Y3:=(cg×Unit)×Y1×Y2×Unit
abbrev Y4:=Any×Y1×Y2×Unit
abbrev Y5:=Nat->Y1×Y2×Unit->Option (Rx Y3 Y4)
abbrev Y6:=LO (Int×Bool×Unit) (cg×Unit) Unit Any
abbrev Y7:=List e9×Int×Bool×Unit
abbrev Y8:=(aC×Unit)×Y7×Unit
abbrev Y9:=Int×Int×List UInt8×List aC×Unit
abbrev fe:=(Bool×Unit)×Unit
abbrev Y11:=Nat->aC×Unit->Option fe
abbrev Y12:=dA×aC×Unit
abbrev KY:=LO (Bool×Bool×Unit) (Bool×Unit) Unit Any
abbrev PS:=LO (Bool×Unit) (Int×Unit) Unit Any
abbrev Dv:=Option ((Int×Unit)×Unit)
abbrev Y16:=Nat->bp×Unit->Dv
abbrev Y17:=aG×ai×Unit
abbrev Y18:=(List Int×Unit)×Unit
abbrev N7:=List Int×Int×Unit
abbrev Y20:=Rx (Unit×Unit) (Any×Unit)
abbrev Y21:=Nat->Y17->Option fe
abbrev Y22:=List ax×Unit
abbrev Ah:=List (List UInt8)×List cz×List bp×Unit
abbrev Y24:=Int×Ah×Y9×Unit
abbrev Y25:=(aC×Unit)×Ah×Unit
abbrev Y26:=Ah×aC×Unit
abbrev Ua:=(au×Unit)×Unit
abbrev Y28:=Nat->Y1×Y2×Unit->Option Y3
abbrev Y29:=aG×List Int×Unit
abbrev Y30:=(ai×Int×Unit)×Unit
abbrev Y31:=aG×ai×Int×Unit
abbrev IS:=(aA×Unit)×Unit
abbrev Y33:=Nat->List UInt8×Unit->Option fe
abbrev Y34:=aE×Bool×Unit
abbrev Y35:=List aS×List aS×Unit
abbrev Y36:=Nat->Int×Unit->Option fe
abbrev Y37:=Nat->(aC×Unit->Option fe)->aC×Unit->Option fe
abbrev Y38:=Option ((ai×Unit)×Unit)
abbrev Y39:=(aS×Unit)×Unit
abbrev uk:=Int×List (Int×Int)×(List Int×Unit)×Unit
abbrev Y41:=Option (LO (Int×Unit) Unit Unit Any)
abbrev Y42:=List (Int×Int)×(List Int×Unit)×Unit
abbrev ua:=List aE×List Int×List dW×List Int×Int×Unit
abbrev Y44:=(List au×Unit)×Unit
abbrev NF:=List au×Int×Unit
abbrev Y46:=Option (LO NF (List au×Unit) Unit Any)
abbrev yU:=Int×Int×List au×List ax×Unit
abbrev UL:=Option (LO (Int×yU×Unit) Unit (yU×Unit) Any)
abbrev Y49:=Option (LO (Int×ua×Unit) Unit (ua×Unit) Any)
abbrev Y50:=(ai×Unit)×Y2×Unit
abbrev Y51:=Nat->Y2×Unit->Option Y50
abbrev Y52:=aC×List cz×Unit
abbrev Y53:=LO (Bool×Int×Unit) (Bool×Unit) Unit Any
abbrev FW:=LO (Bool×Unit) (Bool×Unit) Unit Any
abbrev Y55:=Y1×Y2×au×au×Unit
abbrev Y56:=ax×Bool×Unit
abbrev Y57:=Term×Int×Int×Unit
abbrev Y58:=Nat->aG×ai×aE×Unit->Option fe
abbrev Y59:=Nat->Unit->Option Ua
abbrev Y60:=List e9×Int×Unit
abbrev Y61:=Nat->List UInt8×Unit->Option (Y60×Unit)
abbrev Y62:=Nat->au×Unit->Option Ua
abbrev Y63:=ax×ax×Unit
abbrev Y64:=List UInt8×Int×Unit
abbrev Y65:=Int×List UInt8×Int×Int×Unit
abbrev Y66:=Option ((e9×Unit)×Unit)
abbrev Y67:=LO (Bool×Y65×Unit) Unit (Y65×Unit) Any
abbrev Y68:=Int×Int×Int×Unit
abbrev Y69:=Nat->Y68->Option fe
abbrev Y70:=LO (Int×Bool×Bool×Unit) (Bool×Unit) Unit Any
abbrev Y71:=Int×Int×ua×ua×Unit
abbrev Y72:=List aE×List Int×List dW×List Int×Int×Int×Int×Int×Int×Int×Int×Unit
abbrev Y73:=(ai×Int×Bool×Unit)×Unit
abbrev Y74:=Bool×Int×ua×Unit
abbrev Y75:=(ai×aS×Int×Int×Unit)×Unit
abbrev Y76:=aG×ai×List Int×Unit
abbrev Y77:=Nat->Y76->Option fe
abbrev Y78:=cr×aE×Unit
abbrev Y79:=Nat->Y78->Option fe
abbrev Y80:=(ai×List aS×Int×Unit)×Unit
abbrev Y81:=List dW×Int×Int×Unit
abbrev Y82:=(List UInt8×Nat)×Unit
abbrev Y83:=Nat->aG×Unit->Option fe
abbrev T9:=List (List UInt8)×Unit
abbrev Y85:=Nat->Unit->Option (T9×Unit)
abbrev Y86:=Nat->Term×Unit->Option fe
abbrev XO:=ai×Int×List ax×Int×List au×Unit
abbrev Y88:=Nat->XO->Option IS
abbrev Y89:=Nat->bD×Unit->Option fe
abbrev Y90:=Nat->ai×Unit->Option fe
abbrev Y91:=(Bool×Int×Unit)×Unit
abbrev Y92:=aG×ai×ai×Unit
abbrev Y93:=aC×Int×Unit
abbrev Y94:=Nat->(Y93->Dv)->Y93->Dv
abbrev Y95:=(ck×Unit)×Y7×Unit
abbrev Y96:=Y7×Unit->Option Y95
abbrev Y97:=cV×aC×Unit
abbrev Y98:=Option (Rx ((Int×Int×Unit)×Y1×Y2×Unit) Y4)
abbrev Y99:=List au×List au×Unit
abbrev PT:=Y1×Y2×aC×au×(List au×Unit)×Unit
abbrev Ue:=Option ((Bool×Unit)×Y1×Y2×(List au×Unit)×Unit)
abbrev ajG:=Y34×Y1×Y2×Unit
abbrev ajF:=Int×Y1×Y2×(List au×Unit)×Unit
abbrev ue:=(Term×Unit)×Y7×Unit
abbrev ud:=Y7×Unit->Option ue
abbrev afk:=Option ((List Term×Unit)×Y7×Unit)
abbrev afj:=Y7×Int×Unit->afk
abbrev qL:=Int×Int×List UInt8×List Term×List aC×Unit
abbrev ajE:=Bool×Y7×qL×Unit
abbrev ajD:=Nat->Y76->Option Y80
abbrev ajC:=List aS×Int×Unit
abbrev afi:=(au×Unit)×Y1×Y2×Unit
abbrev Ud:=LO (Int×Unit) (Int×Unit) Unit Any
abbrev ajB:=Y7×List UInt8×Unit
abbrev afh:=(Bool×Unit)×Y7×Unit
abbrev ajA:=List UInt8×List g9×Unit
abbrev afg:=List UInt8×List ck×Unit
abbrev ajz:=Bool×Y7×afg×Unit
abbrev ajy:=Nat->N7->Option fe
abbrev aff:=Term×Bool×Bool×Bool×Unit
abbrev Kp:=LO (Bool×Unit) (cI×Unit) Unit Any
abbrev Uc:=List (List UInt8)×Int×Unit
abbrev Ub:=ai×Int×List ax×bp×List au×Unit
abbrev ajx:=ck×Bool×Unit
abbrev ajw:=Nat->Y31->Option Y75
abbrev XU:=(Term×Unit)×Unit
abbrev abt:=LO (Int×Bool×Unit) Unit Unit Any
abbrev abr:=Nat->ud->Y7×Unit->Option ue
abbrev abq:=ai×aC×au×Unit
abbrev ajv:=List au×Bool×Unit
abbrev abp:=Option (ajv×Unit)
abbrev aju:=Y1×Y2×au×Int×Unit
abbrev Ko:=List bp×List Int×Int×List cz×Unit
abbrev ajt:=Term×List (List UInt8)×Unit
abbrev afe:=Int×Ko×Ah×Unit
abbrev abo:=List cz×Int×Unit
abbrev abn:=aG×ai×Int×List ax×Int×List au×Unit
abbrev ajs:=List (List UInt8)×List UInt8×Unit
abbrev afd:=(Int×Bool×Unit)×Y2×Unit
abbrev afc:=Option ((aS×Int×Int×Unit)×Y2×Unit)
abbrev ajr:=Nat->Bool×Unit->Option Ua
abbrev Hx:=Y1×Y2×aE×Unit
abbrev ajq:=Y7×Int×Unit->Option Y95
abbrev aqe:=Nat->ai×ai×Unit->Option fe
abbrev afb:=cV×bp×Unit
abbrev ajp:=Nat->afb->Option fe
abbrev NJ:=Int×Int×List Int×List aC×Unit
abbrev afa:=Int×Ah×NJ×Unit
abbrev NI:=Ah×Term×List (List UInt8)×Unit
abbrev PR:=(Int×Unit)×Ah×Unit
abbrev ae9:=Int×Unit->Option PR
abbrev ae8:=LO (Bool×NJ×Unit) (Int×Unit) (NJ×Unit) Any
abbrev abm:=Option (Unit×Y7×Unit)
abbrev ajo:=(cD×Unit)×Y7×Unit
abbrev ae7:=Nat->Int×Unit->Option Ua
abbrev ajn:=(Int×Int×Unit)×Unit
abbrev abl:=Y7×(List UInt8×List jK×List cD×Unit)×Unit
abbrev ae6:=aG×ai×Int×List ax×au×au×Unit
abbrev ajm:=Int×Y1×Y2×Unit
abbrev ajl:=dA×Term×List (List UInt8)×Unit
abbrev aqd:=aE×aE×Unit
abbrev aqc:=Nat->aqd->Option fe
abbrev ajk:=cr×ax×Unit
abbrev ajj:=Nat->ajk->Option fe
abbrev aji:=Option ((aG×Unit)×Unit)
abbrev ajh:=Option ((List UInt8×Unit)×Unit)
abbrev ajg:=List UInt8×Int×Bool×Unit
abbrev ajf:=List aS×Int×ua×ua×Unit
abbrev XT:=ai×Int×List ax×Int×au×au×Unit
abbrev XS:=Unit×Y1×Y2×Unit
abbrev XR:=List Bool×Int×Unit
abbrev NH:=LO (Bool×Unit) Unit Unit Any
abbrev NG:=aG×ai×Int×List ax×au×Unit
abbrev abk:=Bool×Y72×yU×Unit
abbrev ajd:=Nat->cr×Unit->Option fe
abbrev XQ:=LO (Bool×Y7×Unit) (List Term×Unit) (Y7×Unit) Any
abbrev XP:=List Term×Y7×Unit
abbrev ajc:=Nat->T9->Option fe
abbrev Y179:=(ai×aS×Int×Unit)×Unit
abbrev aqb:=Nat->Y31->Option fe
abbrev uc:=aG×ai×Int×List ax×ax×Unit
abbrev ajb:=List (List UInt8×Bool)
abbrev aja:=ck×Int×Unit
abbrev ai9:=Int×List (Int×Bool)×Unit
abbrev ae4:=cr×List ax×Int×Unit
abbrev ae3:=ai×Int×List ax×au×Unit
def F2:Nat->Unit->Option (Unit×Unit):=
 λn _=>none
def k2(n:Nat):OC:=⟨2,⟨[],[],false,F2 n⟩,cq [] [] n 10 2⟩
abbrev q83(F:Fn P1 K2 false):lF sg:=⟨P1,K2,false,F⟩
def B83:Y94:=
 λn f83 c=>aj (D.bN c.2.1 1) (some (((-1),()),())) (ak (@iter (Int×Int×Unit) (Int×Unit) (Unit) (Any) (λd=>aj (D.bN d.2.1 (aq
 c.1.4)) (aj (D.eu 0 d.1) (aB (av d.2.1 c.1.4) (ak (f83 (aN c.1.4 (ah d.2.1) aK,d.1,())) λe=>some (LO.next (e.1.1,D.add .i64
 d.2.1 1,())))) (some (LO.out 0 d))) (some (LO.out 0 d))) n (D.dN .i64 c.2.1 1,0,())) λd=>LO.el d (λ_ g=>some ((g.1,()),())) (λ_ g
 =>some (g,())) λ_ _=>none)
def D83(n:Nat)(f83:Fn P1 K2 false)(h83:bC prog 83 (q83 f83)):bC prog 83 (q83 (B83 n f83)):=cq [⟨83,q83 f83,h83⟩] [(83,0,⟨[(1,cW),(5,cW)],[],[],0⟩)] n 10 83
def R83(n k:Nat):(Fn P1 K2 false):=Nat.rec (motive:=λ_=>(Fn P1 K2 false)) (λ_=>none) (λ_ r=>B83 n r) k
def F83(n:Nat):Fn P1 K2 false:=(R83 n n)
def aj0(n:Nat):∀k,bC prog 83 (q83 (R83 n k))
 |0=>bY (enters 83 (by kernel_rfl))
 |k+1=>have ih:=aj0 n k
  D83 n _ ih
def k83(n:Nat):OC:=⟨83,q83 (F83 n),(aj0 n n)⟩
abbrev q84(F:Fn P3 K4 false):lF sg:=⟨P3,K4,false,F⟩
def B84:Y37:=
 λn f84 c=>ak (@iter (Int×Unit) (Bool×Unit) (Unit) (Any) (λd=>aj (D.bN d.1 (aq c.1.4)) (aB (av d.1 c.1.4) (ak (f84 (aN c.1.4
 (ah d.1) aK,())) λe=>aj (D.aM e.1.1) (some (LO.ret () (false,()))) (some (LO.next (D.add .i64 d.1 1,()))))) (some (LO.out 0 d))) n
 (0,())) λd=>LO.el d (λ_ _=>some ((D.eu (aq c.1.3) 30,()),())) (λ_ g=>some (g,())) λ_ _=>none
def D84(n:Nat)(f84:Fn P3 K4 false)(h84:bC prog 84 (q84 f84)):bC prog 84 (q84 (B84 n f84)):=cq [⟨84,q84 f84,h84⟩] [(84,0,⟨[(3,cW)],[],[],0⟩)] n 10 84
def R84(n k:Nat):(Fn P3 K4 false):=Nat.rec (motive:=λ_=>(Fn P3 K4 false)) (λ_=>none) (λ_ r=>B84 n r) k
def F84(n:Nat):Fn P3 K4 false:=(R84 n n)
def ajZ(n:Nat):∀k,bC prog 84 (q84 (R84 n k))
 |0=>bY (enters 84 (by kernel_rfl))
 |k+1=>have ih:=ajZ n k
  D84 n _ ih
def k84(n:Nat):OC:=⟨84,q84 (F84 n),(ajZ n n)⟩
def F44:Y11:=
 λn b=>ak (F83 n (aC.mk b.1.1 b.1.2 b.1.3 b.1.4,16,())) λc=>aj (D.eu 0 c.1.1) (ak (F84 n (aC.mk b.1.1 b.1.2 b.1.3 b.1.4,()))
 λd=>some d) (some ((false,()),()))
def k44(n:Nat):OC:=⟨44,⟨P3,K4,false,F44 n⟩,cq [k83 n,k84 n] [] n 10 44⟩
def F12:Y83:=
 λn b=>aj (D.bN 320 (aq b.1.1)) (some ((false,()),())) (aj (D.bN 320 (aq b.1.2)) (some ((false,()),())) (aj (D.bN 25 (aq b.1.4))
 (some ((false,()),())) (ak (@iter (Int×Unit) (Bool×Unit) (Unit) (Any) (λc=>aj (D.bN c.1 (aq b.1.4)) (aB (av c.1 b.1.4) (aj (D.bN
 40 (aq (aN b.1.4 (ah c.1) bE).1)) (some (LO.ret () (false,()))) (some (LO.next (D.add .i64 c.1 1,()))))) (some (LO.out 0 c))) n (0,()))
 λc=>LO.el c (λ_ _=>ak (@iter (Int×Unit) (Bool×Unit) (Unit) (Any) (λg=>aj (D.bN g.1 (aq b.1.1)) (aB (av g.1 b.1.1) (aj
 (D.bN 10 (aq (aN b.1.1 (ah g.1) aQ).3)) (some (LO.ret () (false,()))) (aj (D.bN 10 (aq (aN b.1.1 (ah g.1) aQ).4)) (some
 (LO.ret () (false,()))) (ak (@iter (Int×Unit) (Bool×Unit) (Unit) (Any) (λh=>aj (D.bN h.1 (aq (aN b.1.1 (ah g.1) aQ).4)) (aB
 (av h.1 (aN b.1.1 (ah g.1) aQ).4) (ak (F44 n (aN (aN b.1.1 (ah g.1) aQ).4 (ah h.1) aK,())) λi=>aj (D.aM i.1.1)
 (some (LO.ret () (false,()))) (some (LO.next (D.add .i64 h.1 1,()))))) (some (LO.out 0 h))) n (0,())) λh=>LO.el h (λ_ _=>some (LO.next
 (D.add .i64 g.1 1,()))) (λ_ j=>some (LO.ret () j)) λ_ _=>none)))) (some (LO.out 0 g))) n (0,())) λg=>LO.el g (λ_ _=>some ((true,
 ()),())) (λ_ i=>some (i,())) λ_ _=>none) (λ_ e=>some (e,())) λ_ _=>none)))
def k12(n:Nat):OC:=⟨12,⟨P5,K4,false,F12 n⟩,cq [k44 n] [(12,0,⟨[(3,cW)],[],[],0⟩),(12,2,⟨[(4,cW)],[],[],0⟩),(12,4,⟨[(6,cW)],[],[],0⟩)] n 10 12⟩
def F146:Y69:=
 λn b=>aj (D.eu b.2.1 b.1) (some ((D.eu b.1 b.2.2.1,()),())) (some ((false,()),()))
def OL(n:Nat):OC:=⟨146,⟨P6,K4,false,F146 n⟩,cq [] [] n 10 146⟩
def KD(n:Nat)(c:Y82):Option (LO Y82 (Bool×Unit) Y82 Any):=
 some (LO.ret ((c.1.1,abh c.1.2 (GB c.1.1 c.1.2)),()) (false,()))
def F257:Y33:=
 λn b=>ak (@iter (Y82) (Bool×Unit) (Y82) (Any) (λc=>aj (Ot c.1.2 c.1.1) (aj (D.bN (tE c.1.1 c.1.2) 97) (KD n c) (aj (D.bN 122
 (tE c.1.1 c.1.2)) (KD n c) (some (LO.next ((c.1.1,abh c.1.2 (GB c.1.1 c.1.2)),()))))) (some (LO.out 0 c))) n ((b.1,0),())) λc=>LO.el
 c (λ_ _=>some ((true,()),())) (λ_ e=>some (e,())) λ_ _=>none
def amk(n:Nat):OC:=⟨257,⟨P7,K4,false,F257 n⟩,cq [] [(257,0,⟨[(0,.box (.pO))],[.slot 6],[],0⟩)] n 10 257⟩
def F197:Y33:=
 λn b=>aj (D.aM (gf b.1 [])) (aj (D.eu (aq b.1) 8) (aB (av 0 b.1) (aj (D.eu 65 (lH b.1 0)) (aB (av 0 b.1) (aj (D.eu (lH b.1
 0) 90) (aB (eW 1 (aq b.1) (aq b.1)) (ak (F257 n (eo b.1 1 (aq b.1),())) λc=>some c)) (some ((false,()),())))) (some ((false,()),
 ())))) (some ((false,()),()))) (some ((false,()),()))
def amV(n:Nat):OC:=⟨197,⟨P7,K4,false,F197 n⟩,cq [amk n] [] n 10 197⟩
def F148:Nat->cz×Unit->Option fe:=
 λn b=>ak (F197 n (b.1.1,())) λc=>aj c.1.1 (ak (F146 n (b.1.2,0,3,())) λd=>some d) (some ((false,()),()))
def anf(n:Nat):OC:=⟨148,⟨P8,K4,false,F148 n⟩,cq [OL n,amV n] [] n 10 148⟩
def F149:ajc:=
 λn b=>ak (@iter (Int×ajb×Unit) (Bool×Unit) (ajb×Unit) (Any) (λc=>aj (D.bN c.1 (aq b.1)) (aB (av c.1 b.1) (some (LO.next
 (D.add .i64 c.1 1,n3 (A:=sg.A) Ty.str (aN b.1 (ah c.1) []) true c.2.1,())))) (some (LO.out 0 c))) n (0,[],())) λc=>LO.el c (λ_ e=>
 some ((D.aO (aq e.2.1) (aq b.1),()),())) (λ_ e=>some (e,())) λ_ _=>none
def ane(n:Nat):OC:=⟨149,⟨P9,K4,false,F149 n⟩,cq [] [(149,0,⟨[(9,cW),(0,.box (.map (.str) (.bool)))],[.slot 6],[],0⟩)] n 10 149⟩
def F151:Nat->cz×Unit->ajh:=
 λn b=>some ((b.1.1,()),())
def anb(n:Nat):OC:=⟨151,⟨P8,K10,false,F151 n⟩,cq [] [] n 10 151⟩
def BC(n:Nat):Kp->Option Kp:=
 λc=>LO.jn c (λd=>some (LO.next d)) (λ_ _=>none) (λ_ e=>some (LO.ret () e)) λ_ _=>none
def vJ(n:Nat):Kp->Option Kp:=
 λe=>LO.jn e (λg=>some (LO.next g)) (λ_ _=>none) (λ_ h=>some (LO.ret () h)) λ_ _=>none
def vI(n:Nat):Kp->Option Kp:=
 λh=>LO.jn h (λi=>some (LO.next i)) (λ_ _=>none) (λ_ j=>some (LO.ret () j)) λ_ _=>none
def F200:Nat->Int×Unit->Option ((cI×Unit)×Unit):=
 λn b=>ak (aj (D.aO b.1 1) (some (LO.next (true,()))) (ak (aj (D.aO b.1 2) (some (LO.next (true,()))) (ak (aj (D.aO b.1 3) (some
 (LO.next (true,()))) (ak (aj (D.aO b.1 4) (some (LO.next (true,()))) (ak (aj (D.aO b.1 21) (some (LO.next (true,()))) (ak (aj (D.aO b.1 25)
 (some (LO.next (true,()))) (some (LO.next (D.aO b.1 28,())))) (BC n))) (BC n))) (BC n))) (BC n))) (BC n))) λ(c:Kp)=>
 LO.jn c (λd=>aj d.1 (some ((cI.a1 0,()),())) (ak (aj (D.aO b.1 5) (some (LO.next (true,()))) (ak (aj (D.aO b.1 27) (some (LO.next
 (true,()))) (ak (aj (D.aO b.1 16) (some (LO.next (true,()))) (ak (aj (D.aO b.1 17) (some (LO.next (true,()))) (ak (aj (D.aO b.1 19) (some
 (LO.next (true,()))) (ak (aj (D.aO b.1 20) (some (LO.next (true,()))) (ak (aj (D.aO b.1 23) (some (LO.next (true,()))) (ak (aj (D.aO b.1
 24) (some (LO.next (true,()))) (some (LO.next (D.aO b.1 26,())))) (vJ n))) (vJ n))) (vJ n))) (vJ n))) (vJ n))) (vJ n)))
 (vJ n))) λ(e:Kp)=>LO.jn e (λg=>aj g.1 (some ((cI.a1 1,()),())) (ak (aj (D.aO b.1 6) (some (LO.next (true,()))) (ak (aj
 (D.aO b.1 7) (some (LO.next (true,()))) (ak (aj (D.aO b.1 9) (some (LO.next (true,()))) (ak (aj (D.aO b.1 10) (some (LO.next (true,()))) (ak
 (aj (D.aO b.1 11) (some (LO.next (true,()))) (ak (aj (D.aO b.1 12) (some (LO.next (true,()))) (ak (aj (D.aO b.1 13) (some (LO.next (true,
 ()))) (ak (aj (D.aO b.1 18) (some (LO.next (true,()))) (some (LO.next (D.aO b.1 22,())))) (vI n))) (vI n))) (vI n))) (vI n)))
 (vI n))) (vI n))) (vI n))) λ(h:Kp)=>LO.jn h (λi=>aj i.1 (some ((cI.a1 2,()),())) (aj (D.aO b.1 8) (some
 ((cI.a1 3,()),())) (aj (D.aO b.1 14) (some ((cI.a2 mL.mk,()),())) (aj (D.aO b.1 15) (some ((cI.a0 jL.mk,()),
 ())) (some ((cI.none,()),())))))) (λ_ _=>none) (λ_ j=>some (j,())) λ_ _=>none)) (λ_ _=>none) (λ_ h=>some (h,())) λ
 _ _=>none)) (λ_ _=>none) (λ_ e=>some (e,())) λ_ _=>none
def amU(n:Nat):OC:=⟨200,⟨P11,K12,false,F200 n⟩,cq [] [(200,1000003,⟨[(4,cZ)],[],[],0⟩),(200,1000004,⟨[(4,cZ)],[],[],0⟩),(200,1000005,⟨[(4,cZ)],[],[],0⟩),(200,1000006,⟨[(4,cZ)],[],[],0⟩),(200,1000007,⟨[(4,cZ)],[],[],0⟩),(200,1000008,⟨[(4,cZ)],[],[],0⟩),(200,1000011,⟨[(13,cZ)],[],[],0⟩),(200,1000012,⟨[(13,cZ)],[],[],0⟩),(200,1000013,⟨[(13,cZ)],[],[],0⟩),(200,1000014,⟨[(13,cZ)],[],[],0⟩),(200,1000015,⟨[(13,cZ)],[],[],0⟩),(200,1000016,⟨[(13,cZ)],[],[],0⟩),(200,1000017,⟨[(13,cZ)],[],[],0⟩),(200,1000018,⟨[(13,cZ)],[],[],0⟩),(200,1000021,⟨[(24,cZ)],[],[],0⟩),(200,1000022,⟨[(24,cZ)],[],[],0⟩),(200,1000023,⟨[(24,cZ)],[],[],0⟩),(200,1000024,⟨[(24,cZ)],[],[],0⟩),(200,1000025,⟨[(24,cZ)],[],[],0⟩),(200,1000026,⟨[(24,cZ)],[],[],0⟩),(200,1000027,⟨[(24,cZ)],[],[],0⟩),(200,1000028,⟨[(24,cZ)],[],[],0⟩)] n 10 200⟩
abbrev Vs(F:Fn P1 K2 false):lF sg:=⟨P1,K2,false,F⟩
def KT(c:Y93)(d:Int×Int×Unit):aC:=
 aN c.1.4 (ah d.2.1) aK
def B202:Y94:=
 λn f202 c=>ak (@iter (Int×Int×Unit) (Int×Unit) (Unit) (Any) (λd=>aj (D.bN d.2.1 (aq c.1.4)) (aB (av d.2.1 c.1.4) (aj (D.bN
 c.2.1 d.1) (some (LO.out 0 d)) (ak (f202 (aC.mk (KT c d).1 (KT c d).2 (KT c d).3 (KT c d).4,D.dN .i64 c.2.1 d.1,())) λe=>
 some (LO.next (D.add .i64 d.1 e.1.1,D.add .i64 d.2.1 1,()))))) (some (LO.out 0 d))) n (1,0,())) λd=>LO.el d (λ_ g=>some ((g.1,()),()))
 (λ_ g=>some (g,())) λ_ _=>none
def D202(n:Nat)(f202:Fn P1 K2 false)(apg:bC prog 202 (Vs f202)):bC prog 202 (Vs (B202 n f202)):=cq [⟨202,Vs f202,apg⟩] [(202,0,⟨[(5,cW),(11,cW)],[],[],0⟩)] n 10 202
def R202(n k:Nat):(Fn P1 K2 false):=Nat.rec (motive:=λ_=>(Fn P1 K2 false)) (λ_=>none) (λ_ r=>B202 n r) k
def F202(n:Nat):Fn P1 K2 false:=(R202 n n)
def acN(n:Nat):∀k,bC prog 202 (Vs (R202 n k))
 |0=>bY (enters 202 (by kernel_rfl))
 |k+1=>have ih:=acN n k
  D202 n _ ih
def amT(n:Nat):OC:=⟨202,Vs (F202 n),(acN n n)⟩
def F259:Y36:=
 λn b=>ak (F146 n (b.1,(-1000000000),1000000000,())) λc=>some c
def ag0(n:Nat):OC:=⟨259,⟨P11,K4,false,F259 n⟩,cq [OL n] [] n 10 259⟩
abbrev Vr(F:Fn P13 K4 false):lF sg:=⟨P13,K4,false,F⟩
def pN(n:Nat)(f203:Y97->Option fe):Option fe:=
 some ((false,()),())
def KS(c:Y97)(d:Int×Unit):aC:=
 aN c.2.1.4 (ah d.1) aK
def Qu(n:Nat)(f203:Y97->Option fe)(c:Y97):fe->Option fe:=
 λj=>aj j.1.1 (some ((D.aO (aq c.2.1.4) 0,()),())) (pN n f203)
def BM(n:Nat)(f203:Y97->Option fe)(c:Y97):Option fe:=
 ak (aj (D.aO c.2.1.1 1) (some (LO.next (true,()))) (ak (aj (D.aO c.2.1.1 2) (some (LO.next (true,()))) (some (LO.next (D.aO c.2.1.1 5,()))))
 λ(h:FW)=>LO.jn h (λi=>some (LO.next i)) (λ_ _=>none) (λ_ j=>some (LO.ret () j)) λ_ _=>none)) λ(h:FW)=>LO.jn h (λ
 i=>aj i.1 (aj (D.aO c.2.1.2 0) (some ((D.aO (aq c.2.1.4) 0,()),())) (pN n f203)) (aj (D.aO c.2.1.1 3) (ak (F259 n (c.2.1.2,()))
 (Qu n f203 c)) (aj (D.aO c.2.1.1 4) (ak (F146 n (c.2.1.2,0,1,())) (Qu n f203 c)) (aj (D.aO c.2.1.1 6) (ak (F146 n (c.2.1.2,0,D.dN .i64
 (aq c.1.1.4) 1,())) λj=>aj j.1.1 (aB (av c.2.1.2 c.1.1.4) (some ((D.aO (aq c.2.1.4) (aN c.1.1.4 (ah c.2.1.2) bE).2,()),())))
 (pN n f203)) (pN n f203))))) (λ_ _=>none) (λ_ j=>some (j,())) λ_ _=>none
def B203:Nat->(Y97->Option fe)->Y97->Option fe:=
 λn f203 c=>aj (D.aM (gf c.2.1.3 [])) (pN n f203) (ak (@iter (Int×Unit) (Int×Unit) (Unit) (Any) (λd=>aj (D.bN d.1 (aq
 c.2.1.4)) (aB (av d.1 c.2.1.4) (ak (f203 (c.1,aC.mk (KS c d).1 (KS c d).2 (KS c d).3 (KS c d).4,())) λe=>aj (D.aM
 e.1.1) (some (LO.ret () d)) (some (LO.next (D.add .i64 d.1 1,()))))) (some (LO.out 0 d))) n (0,())) λd=>LO.el d (λ_ _=>aj (D.aM (D.aM
 false)) (pN n f203) (BM n f203 c)) (λ_ g=>aj (D.aM (D.aM (D.eu 0 g.1))) (pN n f203) (BM n f203 c)) λ_ _=>none)
def D203(n:Nat)(f203:Fn P13 K4 false)(apf:bC prog 203 (Vr f203)):bC prog 203 (Vr (B203 n f203)):=cq [OL n,⟨203,Vr f203,apf⟩,ag0 n] [(203,1000005,⟨[(18,cZ)],[],[],0⟩),(203,1000006,⟨[(18,cZ)],[],[],0⟩),(293,0,⟨[(8,cW)],[],[],0⟩)] n 10 203
def R203(n k:Nat):(Fn P13 K4 false):=Nat.rec (motive:=λ_=>(Fn P13 K4 false)) (λ_=>none) (λ_ r=>B203 n r) k
def F203(n:Nat):Fn P13 K4 false:=(R203 n n)
def acM(n:Nat):∀k,bC prog 203 (Vr (R203 n k))
 |0=>bY (enters 203 (by kernel_rfl))
 |k+1=>have ih:=acM n k
  D203 n _ ih
def amS(n:Nat):OC:=⟨203,Vr (F203 n),(acM n n)⟩
def F204:ajp:=
 λn b=>aj (D.aO b.2.1.1 1) (ak (F259 n (b.2.1.2,())) λc=>some c) (aj (D.aO b.2.1.1 2) (ak (F146 n (b.2.1.2,0,1,())) λc=>some c)
 (aj (D.aO b.2.1.1 24) (ak (F146 n (b.2.1.2,0,3,())) λc=>some c) (aj (D.aO b.2.1.1 4) (ak (F146 n (b.2.1.2,D.neg .i64 (aq b.1.1.2),29,
 ())) λc=>some c) (aj (D.aO b.2.1.1 14) (some ((true,()),())) (some ((D.aO b.2.1.2 0,()),()))))))
def amR(n:Nat):OC:=⟨204,⟨P14,K4,false,F204 n⟩,cq [OL n,ag0 n] [] n 10 204⟩
def F338:Nat->jL×cV×bp×Unit->Option fe:=
 λn b=>ak (F146 n (aq b.2.2.1.4,1,5,())) λc=>aj c.1.1 (some ((D.aO (aq b.2.2.1.3) (D.add .i64 1 (aq b.2.2.1.4)),()),())) (some
 ((false,()),()))
def alX(n:Nat):OC:=⟨338,⟨aqp,K4,false,F338 n⟩,cq [OL n] [] n 10 338⟩
def F339:Nat->Int×cV×bp×Unit->Option fe:=
 λn b=>some ((D.aO (aq b.2.2.1.3) b.1,()),())
def alW(n:Nat):OC:=⟨339,⟨aqo,K4,false,F339 n⟩,cq [] [] n 10 339⟩
def F340:Nat->mL×cV×bp×Unit->Option fe:=
 λn b=>ak (F146 n (b.2.2.1.2,0,D.dN .i64 (aq b.2.1.1.4) 1,())) λc=>aj c.1.1 (aB (av b.2.2.1.2 b.2.1.1.4) (some ((D.aO (aq
 b.2.2.1.3) (aN b.2.1.1.4 (ah b.2.2.1.2) bE).2,()),()))) (some ((false,()),()))
def alV(n:Nat):OC:=⟨340,⟨aqn,K4,false,F340 n⟩,cq [OL n] [] n 10 340⟩
def tB:List (Nat×Ty):=
 [(274,Ty.st 27),(297,Ty.int .i64),(298,Ty.st 28)]
def tA(b:afb)(i:Int×Unit):aC:=
 aN b.2.1.4 (ah i.1) aK
def vK(n:Nat)(b:afb):fe->Option fe:=
 λg=>aj g.1.1 (ak (F204 n b) λh=>aj h.1.1 (ak (@iter (Int×Unit) (Int×Unit) (Unit) (Any) (λi=>aj (D.bN i.1 (aq b.2.1.4)) (aB
 (av i.1 b.2.1.4) (ak (F202 n (aC.mk (tA b i).1 (tA b i).2 (tA b i).3 (tA b i).4,12,())) λj=>aj (D.eu j.1.1 12) (ak
 (F203 n (b.1,aC.mk (tA b i).1 (tA b i).2 (tA b i).3 (tA b i).4,())) λk=>aj (D.aM k.1.1) (some (LO.ret () i)) (some
 (LO.next (D.add .i64 i.1 1,())))) (some (LO.ret () i)))) (some (LO.out 0 i))) n (0,())) λi=>LO.el i (λ_ _=>some ((D.aM false,()),()))
 (λ_ k=>some ((D.aM (D.eu 0 k.1),()),())) λ_ _=>none) (some ((false,()),()))) (some ((false,()),()))
def F153:ajp:=
 λn b=>ak (F200 n (b.2.1.1,())) λc=>aj (isNil tB (eM 29 c.1.1)) (some ((false,()),())) (ak (aj (iI tB 0 (eM 29 c.1.1))
 (some (LO.next (false,true,()))) (aj (D.bN 0 (aq b.2.1.4)) (some (LO.ret () (false,()))) (some (LO.next (false,false,()))))) λ(d:KY)=>
 LO.jn d (λ_=>aj (iI tB 0 (eM 29 c.1.1)) (ak (F338 n (jE (Sg.zero sg) tB 0 (eM 29 c.1.1),b)) (vK n b)) (aj (iI
 tB 1 (eM 29 c.1.1)) (ak (F339 n (jE (Sg.zero sg) tB 1 (eM 29 c.1.1),b)) (vK n b)) (aj (iI tB 2 (eM 29 c.1.1)) (ak
 (F340 n (jE (Sg.zero sg) tB 2 (eM 29 c.1.1),b)) (vK n b)) none))) (λ_ _=>none) (λ_ g=>some (g,())) λ_ _=>none)
def ana(n:Nat):OC:=⟨153,⟨P14,K4,false,F153 n⟩,cq [amU n,amT n,amS n,amR n,alX n,alW n,alV n] [(153,1000003,⟨[(4,cZ),(17,cZ)],[],[],0⟩),(293,0,⟨[(8,cW)],[],[],0⟩)] n 10 153⟩
def F155:Y36:=
 λn b=>some ((D.aO b.1 1,()),())
def am9(n:Nat):OC:=⟨155,⟨P11,K4,false,F155 n⟩,cq [] [] n 10 155⟩
def mc(n:Nat):Option fe:=
 some ((false,()),())
def acr(h:Uc):Int×Unit:=
 (D.add .i64 h.2.1 1,())
def NQ(b:cV×Unit)(p:N7):Nat:=
 ah (aN b.1.1.2 (ah p.2.1) 0)
def RV(p:N7):Int×Unit:=
 (D.add .i64 p.2.1 1,())
def CC(b:cV×Unit)(s:N7)(t:N7):Int:=
 aN (aN b.1.1.1 (ah s.2.1) aQ).3 (ah t.2.1) 0
def NP(n:Nat)(b:cV×Unit):Option fe:=
 aB (CV (ZP (aq b.1.1.1)) (hU (aq b.1.1.1) (aq b.1.1.1))) (ak (@iter (N7) (Bool×Unit) (Unit) (Any) (λp=>aj (D.bN p.2.1 (aq
 b.1.1.2)) (aB (av p.2.1 b.1.1.2) (ak (F146 n (aN b.1.1.2 (ah p.2.1) 0,0,D.dN .i64 (aq b.1.1.1) 1,())) λq=>aj (D.aM q.1.1) (some
 (LO.ret () (false,()))) (aB (av (aN b.1.1.2 (ah p.2.1) 0) p.1) (aB (cw (NQ b p) p.1) (aB (av (aN b.1.1.2 (ah p.2.1) 0) p.1) (aB
 (cw (NQ b p) p.1) (some (LO.next (dQ p.1 (NQ b p) (D.add .i64 (aN p.1 (NQ b p) 0) 1),RV p))))))))) (some (LO.out 0 p))) n (Jk (ah
 (aq b.1.1.1)) 0,0,())) λp=>LO.el p (λ_ r=>ak (@iter (N7) (Bool×Unit) (Unit) (Any) (λs=>aj (D.bN s.2.1 (aq b.1.1.1)) (aB
 (av s.2.1 b.1.1.1) (ak (@iter (N7) (Bool×Unit) (Unit) (Any) (λt=>aj (D.bN t.2.1 (aq (aN b.1.1.1 (ah s.2.1) aQ).3)) (aB (av
 t.2.1 (aN b.1.1.1 (ah s.2.1) aQ).3) (ak (F146 n (CC b s t,D.add .i64 s.2.1 1,D.dN .i64 (aq b.1.1.1) 1,())) λu=>aj (D.aM
 u.1.1) (some (LO.ret () (false,()))) (aB (av (CC b s t) t.1) (aB (cw (ah (CC b s t)) t.1) (aB (av (CC b s t) t.1) (aB (cw (ah
 (CC b s t)) t.1) (some (LO.next (dQ t.1 (ah (CC b s t)) (D.add .i64 (aN t.1 (ah (CC b s t)) 0) 1),RV t))))))))) (some (LO.out 0
 t))) n (s.1,0,())) λt=>LO.el t (λ_ v=>some (LO.next (v.1,RV s))) (λ_ v=>some (LO.ret () v)) λ_ _=>none)) (some (LO.out 0 s)))
 n (r.1,0,())) λs=>LO.el s (λ_ u=>ak (@iter (Int×Unit) (Int×Unit) (Unit) (Any) (λv=>aj (D.bN v.1 (aq u.1)) (aB (av v.1 u.1)
 (aB (cw (ah v.1) u.1) (ak (F155 n (aN u.1 (ah v.1) 0,())) λw=>aj (D.aM w.1.1) (some (LO.ret () v)) (some (LO.next (D.add .i64 v.1 1,
 ())))))) (some (LO.out 0 v))) n (0,())) λv=>LO.el v (λ_ _=>some ((D.aM false,()),())) (λ_ x=>some ((D.aM (D.eu 0 x.1),()),()))
 λ_ _=>none) (λ_ u=>some (u,())) λ_ _=>none) (λ_ r=>some (r,())) λ_ _=>none)
def RU(n:Nat)(b:cV×Unit):fe->Option fe:=
 λk=>aj (D.aM k.1.1) (mc n) (ak (@iter (Int×Unit) (Int×Unit) (Unit) (Any) (λl=>aj (D.bN l.1 (aq b.1.1.1)) (aB (av l.1
 b.1.1.1) (ak (F153 n (b.1,aN b.1.1.1 (ah l.1) aQ,())) λm=>aj (D.aM m.1.1) (some (LO.ret () l)) (some (LO.next (D.add .i64 l.1 1,
 ()))))) (some (LO.out 0 l))) n (0,())) λl=>LO.el l (λ_ _=>aj (D.aM (D.aM false)) (mc n) (NP n b)) (λ_ o=>aj (D.aM (D.aM
 (D.eu 0 o.1))) (mc n) (NP n b)) λ_ _=>none)
def RS(n:Nat)(b:cV×Unit):Option fe:=
 ak (@iter (Uc) (T9) (Unit) (Any) (λh=>aj (D.bN h.2.1 (aq b.1.1.4)) (aB (av h.2.1 b.1.1.4) (ak (F151 n (aN b.1.1.4 (ah h.2.1)
 bE,())) λi=>aB (cY h.1 [i.1.1]) (some (LO.next (cM h.1 [i.1.1],acr h))))) (some (LO.out 0 h))) n ([],0,())) λh=>LO.el h (λ
 _ j=>ak (F149 n (j.1,())) (RU n b)) (λ_ j=>ak (F149 n j) (RU n b)) λ_ _=>none
def F87:Nat->cV×Unit->Option fe:=
 λn b=>aj (D.bN 300 (aq b.1.1.1)) (mc n) (aj (D.bN (aq b.1.1.2) 1) (mc n) (aj (D.bN (aq b.1.1.1) (aq b.1.1.2)) (mc n) (aj
 (D.bN 20 (aq b.1.1.4)) (mc n) (ak (F146 n (b.1.1.3,0,D.dN .i64 (aq b.1.1.2) 1,())) λc=>aj (D.aM c.1.1) (mc n) (ak (@iter (Int
 ×Unit) (Int×Unit) (Unit) (Any) (λd=>aj (D.bN d.1 (aq b.1.1.4)) (aB (av d.1 b.1.1.4) (ak (F148 n (aN b.1.1.4 (ah d.1) bE,()))
 λe=>aj (D.aM e.1.1) (some (LO.ret () d)) (some (LO.next (D.add .i64 d.1 1,()))))) (some (LO.out 0 d))) n (0,())) λd=>LO.el d (λ_ _=>
 aj (D.aM (D.aM false)) (mc n) (RS n b)) (λ_ g=>aj (D.aM (D.aM (D.eu 0 g.1))) (mc n) (RS n b)) λ_ _=>none)))))
def k87(n:Nat):OC:=⟨87,⟨P15,K4,false,F87 n⟩,cq [OL n,anf n,ane n,anb n,ana n,am9 n] [(87,0,⟨[(4,.one (.own (.int .i64))),(79,cW)],[],[],0⟩),(87,2,⟨[(4,.one (.own (.int .i64))),(99,cW)],[],[],0⟩),(87,4,⟨[(4,.one (.own (.int .i64))),(107,cW)],[],[],0⟩),(150,0,⟨[(5,.one (.own (.str))),(10,cW)],[],[],0⟩),(207,0,⟨[(8,cW)],[],[],0⟩),(256,0,⟨[(8,cW)],[],[],0⟩),(258,0,⟨[(8,cW)],[],[],0⟩)] n 10 87⟩
def F46:Nat->aG×Unit->Dv:=
 λn b=>ak (F87 n (cV.mk b.1,())) λc=>aj (D.aM c.1.1) (some ((2,()),())) (some ((0,()),()))
def k46(n:Nat):OC:=⟨46,⟨P5,K2,false,F46 n⟩,cq [k87 n] [] n 10 46⟩
def F69:Y69:=
 λn b=>aj (D.eu b.2.1 b.1) (some ((D.eu b.1 b.2.2.1,()),())) (some ((false,()),()))
def k69(n:Nat):OC:=⟨69,⟨P6,K4,false,F69 n⟩,cq [] [] n 10 69⟩
def F47:Nat->List Int×Unit->Option fe:=
 λn b=>aj (D.eu (aq b.1) 50) (ak (@iter (Int×Unit) (Int×Unit) (Unit) (Any) (λc=>aj (D.bN c.1 (aq b.1)) (aB (av c.1 b.1) (ak
 (F69 n (aN b.1 (ah c.1) 0,(-1000000000),1000000000,())) λd=>aj (D.aM d.1.1) (some (LO.ret () c)) (some (LO.next (D.add .i64 c.1 1,
 ()))))) (some (LO.out 0 c))) n (0,())) λc=>LO.el c (λ_ _=>some ((D.aM false,()),())) (λ_ e=>some ((D.aM (D.eu 0 e.1),()),()))
 λ_ _=>none) (some ((false,()),()))
def k47(n:Nat):OC:=⟨47,⟨P16,K4,false,F47 n⟩,cq [k69 n] [(207,0,⟨[(8,cW)],[],[],0⟩)] n 10 47⟩
def F48:Y59:=
 λn _=>some ((au.mk 3 0,()),())
def Z3(n:Nat):OC:=⟨48,⟨[],K17,false,F48 n⟩,cq [] [] n 10 48⟩
def F49:Nat->List Int×Unit->Option Y18:=λn b=>some (b,())
def C49(n:Nat):bC prog 49 (⟨P16,K18,false,F49 n⟩:lF sg):=S4 [] trivial (YU []) false n 10 49 P16 K18 (by kernel_rfl) (Eq.trans (by kernel_rfl:_=λb:List Int×Unit=>Hv (YX b.1) (some (([],()),())) (some (b,()))) (funext rV))
def k49(n:Nat):OC:=⟨49,⟨P16,K18,false,F49 n⟩,C49 n⟩
def acs:List (Nat×Ty):=
 [(170,Ty.st 12),(173,Ty.st 13),(175,Ty.st 14),(181,Ty.st 15)]
def F71:Nat->cg×Unit->Dv:=
 λn b=>aj (iI acs 3 (eM 16 b.1)) (some ((0,()),())) (aj (iI acs 0 (eM 16 b.1)) (some ((2,()),())) (some ((1,()),())))
def k71(n:Nat):OC:=⟨71,⟨P19,K2,false,F71 n⟩,cq [] [] n 10 71⟩
def F170:Nat->List aE×Unit->Option ((List aE×Unit)×Unit):=λn b=>some (b,())
def C170(n:Nat):bC prog 170 (⟨P20,K21,false,F170 n⟩:lF sg):=S4 [] trivial (YU []) false n 10 170 P20 K21 (by kernel_rfl) (Eq.trans (by kernel_rfl:_=λb:List aE×Unit=>Hv (YX b.1) (some (([],()),())) (some (b,()))) (funext rV))
def aha(n:Nat):OC:=⟨170,⟨P20,K21,false,F170 n⟩,C170 n⟩
def F112:Y62:=
 λn b=>aj (D.aO b.1.1 4) (some ((au.mk 5 0,()),())) (aj (D.aO b.1.1 5) (some ((au.mk 5 0,()),())) (some (b,())))
def ahh(n:Nat):OC:=⟨112,⟨P22,K17,false,F112 n⟩,cq [] [] n 10 112⟩
def F114:Nat->fY×Unit->Option Y39:=
 λn b=>some ((aS.mk 0 0 b.1.1 az,()),())
def ahg(n:Nat):OC:=⟨114,⟨P23,K24,false,F114 n⟩,cq [] [] n 10 114⟩
def F219:Nat->Bool×Int×Unit->Option Y20:=
 λn b=>aj (D.aM b.1) (some (Rx.dm (Any.a0 (fY.mk b.2.1),()))) (some (Rx.ok ((),())))
def CN(n:Nat):OC:=⟨219,⟨P25,[],true,F219 n⟩,cq [] [] n 10 219⟩
def F171:Nat->Y1×Y2×List ax×Unit->Option (Rx XS Y4):=
 λn b=>ak (F219 n (D.eu (D.add .i64 (aq b.1.2.2.1) (aq b.2.2.1)) 40,4,())) λc=>Rx.el c (λ_=>aB (CV (eW 0 (aq b.1.2.2.1)
 (aq b.1.2.2.1)) (hU (aq b.1.2.2.1) (aq b.1.2.2.1))) (aB (cY (eo b.1.2.2.1 0 (aq b.1.2.2.1)) b.2.2.1) (some (Rx.ok ((),((),b.1.2.1,cM
 (eo b.1.2.2.1 0 (aq b.1.2.2.1)) b.2.2.1,b.1.2.2.2),b.2.1,()))))) λd=>some (Rx.dm (d.1,b.1,b.2.1,()))
def adx(n:Nat):OC:=⟨171,⟨P26,[],true,F171 n⟩,cq [CN n] [] n 10 171⟩
def BD(n:Nat):PS->Option PS:=
 λc=>LO.jn c (λd=>some (LO.next d)) (λ_ _=>none) (λ_ e=>some (LO.ret () e)) λ_ _=>none
def qN(n:Nat):Dv:=
 some ((1,()),())
def F173:Y16:=
 λn b=>ak (aj (D.aO b.1.1 6) (some (LO.next (true,()))) (ak (aj (D.aO b.1.1 9) (some (LO.next (true,()))) (ak (aj (D.aO b.1.1 10) (some
 (LO.next (true,()))) (ak (aj (D.aO b.1.1 11) (some (LO.next (true,()))) (ak (aj (D.aO b.1.1 12) (some (LO.next (true,()))) (ak (aj (D.aO
 b.1.1 13) (some (LO.next (true,()))) (ak (aj (D.aO b.1.1 18) (some (LO.next (true,()))) (some (LO.next (D.aO b.1.1 22,())))) (BD n)))
 (BD n))) (BD n))) (BD n))) (BD n))) (BD n))) λ(c:PS)=>LO.jn c (λd=>aj d.1 (some ((2,()),())) (aj (D.aO b.1.1 14)
 (some ((aq b.1.3,()),())) (aj (D.aO b.1.1 7) (qN n) (aj (D.aO b.1.1 8) (qN n) (aj (D.aO b.1.1 15) (qN n) (aj (D.aO b.1.1 16)
 (qN n) (aj (D.aO b.1.1 17) (qN n) (aj (D.aO b.1.1 19) (qN n) (aj (D.aO b.1.1 20) (qN n) (aj (D.aO b.1.1 23) (qN n) (aj
 (D.aO b.1.1 24) (qN n) (aj (D.aO b.1.1 26) (qN n) (some ((0,()),())))))))))))))) (λ_ _=>none) (λ_ e=>some (e,())) λ_ _=>
 none
def adw(n:Nat):OC:=⟨173,⟨P27,K2,false,F173 n⟩,cq [] [(173,1000003,⟨[(5,cZ)],[],[],0⟩),(173,1000004,⟨[(5,cZ)],[],[],0⟩),(173,1000005,⟨[(5,cZ)],[],[],0⟩),(173,1000006,⟨[(5,cZ)],[],[],0⟩),(173,1000007,⟨[(5,cZ)],[],[],0⟩),(173,1000008,⟨[(5,cZ)],[],[],0⟩),(173,1000009,⟨[(5,cZ)],[],[],0⟩)] n 10 173⟩
def F174:Nat->Y1×Y2×Int×List au×Unit->Option (Rx Y3 Y4):=
 λn b=>aB (av b.2.2.1 b.1.2.2.2.2.2.2.2.2.1) (ak (F171 n (b.1,b.2.1,[ax.mk (aN b.1.2.2.2.2.2.2.2.2.1 (ah b.2.2.1) 0) b.2.2.2.1 []],
 ())) λc=>Rx.el c (λd=>some (Rx.ok ((cg.a3 jf.mk,()),d.2))) λd=>some (Rx.dm d))
def Wd(n:Nat):OC:=⟨174,⟨P28,K29,true,F174 n⟩,cq [adx n] [] n 10 174⟩
def F271:Nat->Y1×Y2×au×Unit->Option Y3:=
 λn b=>some ((cg.a3 jf.mk,()),((),b.1.2.1,b.1.2.2.1,b.1.2.2.2.1,b.1.2.2.2.2.1,b.1.2.2.2.2.2.1,b.1.2.2.2.2.2.2.1,
 b.1.2.2.2.2.2.2.2.1,b.1.2.2.2.2.2.2.2.2.1,b.1.2.2.2.2.2.2.2.2.2.1,[b.2.2.1],()),b.2.1,())
def JM(n:Nat):OC:=⟨271,⟨P30,K29,false,F271 n⟩,cq [] [] n 10 271⟩
def F272:ae7:=
 λn b=>some ((au.mk 1 b.1,()),())
def Z8(n:Nat):OC:=⟨272,⟨P11,K17,false,F272 n⟩,cq [] [] n 10 272⟩
def F273:ajr:=
 λn b=>aj b.1 (some ((au.mk 2 1,()),())) (some ((au.mk 2 0,()),()))
def Z7(n:Nat):OC:=⟨273,⟨P31,K17,false,F273 n⟩,cq [] [] n 10 273⟩
def KE(n:Nat)(b:Y1×Y2×Unit):Ua->Option Y3:=
 λc=>ak (F271 n (b.1,b.2.1,c.1)) λd=>some d
def F221:Y28:=
 λn b=>aj (D.aO b.1.2.2.2.2.2.2.1 1) (ak (F272 n (b.1.2.2.2.2.2.2.2.1,())) (KE n b)) (aj (D.aO b.1.2.2.2.2.2.2.1 2) (ak (F273 n (D.aO
 b.1.2.2.2.2.2.2.2.1 1,())) (KE n b)) (ak (F48 n ()) (KE n b)))
def amO(n:Nat):OC:=⟨221,⟨CW,K29,false,F221 n⟩,cq [Z3 n,JM n,Z8 n,Z7 n] [] n 10 221⟩
def F222:Y5:=
 λn b=>aj (D.bN b.1.2.2.2.2.2.2.2.1 0) (ak (F271 n (b.1,b.2.1,au.mk 4 (D.dN .i64 (-1) b.1.2.2.2.2.2.2.2.1),())) λc=>some (Rx.ok
 c)) (ak (F219 n (D.bN b.1.2.2.2.2.2.2.2.1 (aq b.1.2.2.2.2.1),2,())) λc=>Rx.el c (λ_=>aB (av b.1.2.2.2.2.2.2.2.1 b.1.2.2.2.2.1) (ak
 (F271 n (b.1,b.2.1,aN b.1.2.2.2.2.1 (ah b.1.2.2.2.2.2.2.2.1) az,())) λe=>some (Rx.ok e))) λd=>some (Rx.dm (d.1,b)))
def amN(n:Nat):OC:=⟨222,⟨CW,K29,true,F222 n⟩,cq [CN n,JM n] [] n 10 222⟩
def tw(b:Hx):Int:=
 aq b.2.1.2.2.2.2.1
def F274:Nat->Hx->Option (Rx afi Y4):=
 λn b=>ak (F219 n (D.bN (tw b) 120,4,())) λc=>Rx.el c (λ_=>aB (CV (eW 0 (tw b) (tw b)) (hU (tw b) (tw b)))
 (aB (cY (eo b.2.1.2.2.2.2.1 0 (tw b)) [b.2.2.1]) (some (Rx.ok ((au.mk 5 (D.dN .i64 (aq (cM (eo b.2.1.2.2.2.2.1 0 (tw b))
 [b.2.2.1])) 1),()),b.1,(b.2.1.1,b.2.1.2.1,b.2.1.2.2.1,b.2.1.2.2.2.1,cM (eo b.2.1.2.2.2.2.1 0 (tw b)) [b.2.2.1],b.2.1.2.2.2.2.2),
 ()))))) λd=>some (Rx.dm (d.1,b.1,b.2.1,()))
def Te(n:Nat):OC:=⟨274,⟨P33,K17,true,F274 n⟩,cq [CN n] [] n 10 274⟩
def F223:Y5:=
 λn b=>ak (F274 n (b.1,b.2.1,aE.mk 2 b.1.2.2.2.1 b.1.2.2.2.2.1 [],())) λc=>Rx.el c (λd=>ak (F271 n (d.2.1,d.2.2.1,d.1)) λe
 =>some (Rx.ok e)) λd=>some (Rx.dm d)
def amM(n:Nat):OC:=⟨223,⟨CW,K29,true,F223 n⟩,cq [JM n,Te n] [] n 10 223⟩
def F277:Nat->Y99->Option (Rx Y44 (Any×Unit)):=
 λn b=>ak (F219 n (D.eu (D.add .i64 (aq b.1) (aq b.2.1)) 30,4,())) λc=>Rx.el c (λ_=>aB (CV (eW 0 (aq b.1) (aq b.1)) (hU
 (aq b.1) (aq b.1))) (aB (cY (eo b.1 0 (aq b.1)) b.2.1) (some (Rx.ok ((cM (eo b.1 0 (aq b.1)) b.2.1,()),()))))) λd=>some (Rx.dm
 d)
def Z6(n:Nat):OC:=⟨277,⟨P34,K35,true,F277 n⟩,cq [CN n] [] n 10 277⟩
def F298:Nat->aju->Option ajG:=
 λn b=>aj (D.aM (D.aO b.2.2.1.1 5)) (some ((aR,false,()),b.1,b.2.1,())) (aB (av b.2.2.1.2 b.2.1.2.2.2.2.1) (aj (D.aM (D.aO
 (aN b.2.1.2.2.2.2.1 (ah b.2.2.1.2) aR).1 b.2.2.2.1)) (some ((aR,false,()),b.1,b.2.1,())) (aB (av b.2.2.1.2 b.2.1.2.2.2.2.1)
 (some ((aN b.2.1.2.2.2.2.1 (ah b.2.2.1.2) aR,true,()),b.1,b.2.1,())))))
def adq(n:Nat):OC:=⟨298,⟨P36,K37,false,F298 n⟩,cq [] [] n 10 298⟩
def F275:Nat->Y55->Option (Rx (Y56×Y1×Y2×Unit) Y4):=
 λn b=>aj (D.aO b.2.2.1.1 4) (aB (av b.2.2.1.2 b.2.1.2.1) (some (Rx.ok ((ax.mk (aN b.2.1.2.1 (ah b.2.2.1.2) 0) [b.2.2.2.1] [],true,
 ()),b.1,b.2.1,())))) (ak (F298 n (b.1,b.2.1,b.2.2.1,2,())) λc=>aj (D.aM c.1.2.1) (some (Rx.ok ((aX,false,()),c.2))) (aB
 (av c.1.1.2 c.2.2.1.1) (aB (av 0 (aN c.2.2.1.1 (ah c.1.1.2) aQ).3) (ak (F277 n (c.1.1.3,[b.2.2.2.1],())) λd=>Rx.el d (λe=>
 some (Rx.ok ((ax.mk (aN (aN c.2.2.1.1 (ah c.1.1.2) aQ).3 (ah 0) 0) e.1.1 [],true,()),c.2))) λe=>some (Rx.dm (e.1,
 c.2))))))
def agZ(n:Nat):OC:=⟨275,⟨P38,K39,true,F275 n⟩,cq [Z6 n,adq n] [] n 10 275⟩
def F276:Nat->aju->Option (Rx ((aE×Unit)×Y1×Y2×Unit) Y4):=
 λn b=>ak (F298 n b) λc=>ak (F219 n (c.1.2.1,2,())) λd=>Rx.el d (λ_=>some (Rx.ok ((c.1.1,()),c.2))) λe=>some (Rx.dm
 (e.1,c.2))
def OJ(n:Nat):OC:=⟨276,⟨P36,K40,true,F276 n⟩,cq [CN n,adq n] [] n 10 276⟩
def F224:Y5:=
 λn b=>aB (av 0 b.1.2.2.2.2.2.1) (aB (av 1 b.1.2.2.2.2.2.1) (ak (F275 n (b.1,b.2.1,aN b.1.2.2.2.2.2.1 (ah 0) az,aN
 b.1.2.2.2.2.2.1 (ah 1) az,())) λc=>Rx.el c (λd=>aj d.1.2.1 (ak (F171 n (d.2.1,d.2.2.1,[d.1.1],())) λe=>Rx.el e (λg=>
 some (Rx.ok ((cg.a3 jf.mk,()),g.2))) λg=>some (Rx.dm g)) (aB (av 0 d.2.1.2.2.2.2.2.1) (ak (F276 n (d.2.1,d.2.2.1,aN
 d.2.1.2.2.2.2.2.1 (ah 0) az,5,())) λe=>Rx.el e (λg=>ak (F171 n (g.2.1,g.2.2.1,g.1.1.4,())) λh=>Rx.el h (λi=>aB (av
 1 i.2.1.2.2.2.2.2.1) (ak (F271 n (i.2.1,i.2.2.1,aN i.2.1.2.2.2.2.2.1 (ah 1) az,())) λj=>some (Rx.ok j))) λi=>some (Rx.dm i))
 λg=>some (Rx.dm g)))) λd=>some (Rx.dm d)))
def amL(n:Nat):OC:=⟨224,⟨CW,K29,true,F224 n⟩,cq [adx n,JM n,agZ n,OJ n] [] n 10 224⟩
def F225:Y5:=
 λn b=>aB (av 0 b.1.2.2.2.2.2.1) (ak (F277 n (b.1.2.2.2.2.1,[aN b.1.2.2.2.2.2.1 (ah 0) az],())) λc=>Rx.el c (λd=>ak (F174
 n (b.1,b.2.1,1,d.1)) λe=>Rx.el e (λg=>some (Rx.ok g)) λg=>some (Rx.dm g)) λd=>some (Rx.dm (d.1,b)))
def amK(n:Nat):OC:=⟨225,⟨CW,K29,true,F225 n⟩,cq [Wd n,Z6 n] [] n 10 225⟩
def F226:Y5:=
 λn b=>aB (av 0 b.1.2.2.2.2.2.1) (ak (F219 n (D.aO (aN b.1.2.2.2.2.2.1 (ah 0) az).1 2,2,())) λc=>Rx.el c (λ_=>aB (av 0
 b.1.2.2.2.2.2.1) (ak (F174 n (b.1,b.2.1,D.dN .i64 2 (aN b.1.2.2.2.2.2.1 (ah 0) az).2,b.1.2.2.2.2.1,())) λe=>Rx.el e (λg=>some
 (Rx.ok g)) λg=>some (Rx.dm g))) λd=>some (Rx.dm (d.1,b)))
def amJ(n:Nat):OC:=⟨226,⟨CW,K29,true,F226 n⟩,cq [Wd n,CN n] [] n 10 226⟩
def Qe(n:Nat)(b:Y1×Y2×Unit):Y20->Y98:=
 λc=>Rx.el c (λ_=>aB (av 0 b.1.2.2.2.2.2.1) (aB (av 1 b.1.2.2.2.2.2.1) (some (Rx.ok (((aN b.1.2.2.2.2.2.1 (ah 0) az).2,(aN
 b.1.2.2.2.2.2.1 (ah 1) az).2,()),b))))) λd=>some (Rx.dm (d.1,b))
def F278:Nat->Y1×Y2×Unit->Y98:=
 λn b=>aB (av 0 b.1.2.2.2.2.2.1) (aj (D.aO (aN b.1.2.2.2.2.2.1 (ah 0) az).1 1) (aB (av 1 b.1.2.2.2.2.2.1) (ak (F219 n (D.aO (aN
 b.1.2.2.2.2.2.1 (ah 1) az).1 1,2,())) (Qe n b))) (ak (F219 n (false,2,())) (Qe n b)))
def agY(n:Nat):OC:=⟨278,⟨CW,K41,true,F278 n⟩,cq [CN n] [] n 10 278⟩
def F227:Y5:=
 λn b=>ak (F278 n b) λc=>Rx.el c (λd=>ak (aj (D.aO d.2.1.2.2.2.2.2.2.1 10) (some (LO.next (D.dN .i64 d.1.1 d.1.2.1,true,())))
 (ak (aj (D.aO d.2.1.2.2.2.2.2.2.1 11) (some (LO.next (D.mul .i64 d.1.1 d.1.2.1,true,()))) (some (LO.next (D.add .i64 d.1.1 d.1.2.1,false,()))))
 λ(e:Y6)=>LO.jn e (λg=>some (LO.next (g.1,false,()))) (λ_ _=>none) (λ_ h=>some (LO.ret () h)) λ_ h=>some (LO.dm () h)))
 λ(e:Y6)=>LO.jn e (λg=>ak (F69 n (g.1,(-1000000000),1000000000,())) λh=>ak (F219 n (h.1.1,4,())) λi=>Rx.el i (λ_=>ak
 (F272 n (g.1,())) λk=>ak (F271 n (d.2.1,d.2.2.1,k.1)) λl=>some (Rx.ok l)) λj=>some (Rx.dm (j.1,d.2))) (λ_ _=>none) (λ_ h
 =>some (Rx.ok (h,d.2))) λ_ h=>some (Rx.dm (h,d.2))) λd=>some (Rx.dm d)
def amI(n:Nat):OC:=⟨227,⟨CW,K29,true,F227 n⟩,cq [k69 n,CN n,JM n,Z8 n,agY n] [(227,1000005,⟨[(5,cW),(19,cZ)],[],[],0⟩),(227,1000007,⟨[(5,cW),(24,cZ)],[],[],0⟩)] n 10 227⟩
def F228:Y5:=
 λn b=>ak (F278 n b) λc=>Rx.el c (λd=>ak (F273 n (D.bN d.1.1 d.1.2.1,())) λe=>ak (F271 n (d.2.1,d.2.2.1,e.1)) λg=>some
 (Rx.ok g)) λd=>some (Rx.dm d)
def amH(n:Nat):OC:=⟨228,⟨CW,K29,true,F228 n⟩,cq [JM n,Z7 n,agY n] [] n 10 228⟩
def Qh(b:Y1×Y2×Unit):Bool:=
 D.aO (aN b.1.2.2.2.2.2.1 (ah 0) az).1 (aN b.1.2.2.2.2.2.1 (ah 1) az).1
def Qg(n:Nat)(b:Y1×Y2×Unit):Y20->Option (Rx Y3 Y4):=
 λc=>Rx.el c (λ_=>ak (F273 n (D.ey (Qh b) (D.ey (D.aO (aN b.1.2.2.2.2.2.1 (ah 0) az).2 (aN b.1.2.2.2.2.2.1 (ah 1)
 az).2) true),())) λe=>ak (F271 n (b.1,b.2.1,e.1)) λg=>some (Rx.ok g)) λd=>some (Rx.dm (d.1,b))
def F229:Y5:=
 λn b=>aB (av 0 b.1.2.2.2.2.2.1) (aB (av 1 b.1.2.2.2.2.2.1) (aj (Qh b) (ak (F219 n (D.eu (aN b.1.2.2.2.2.2.1 (ah 0) az).1 3,
 2,())) (Qg n b)) (ak (F219 n (false,2,())) (Qg n b))))
def amG(n:Nat):OC:=⟨229,⟨CW,K29,true,F229 n⟩,cq [CN n,JM n,Z7 n] [] n 10 229⟩
def F230:Y5:=
 λn b=>ak (F274 n (b.1,b.2.1,aE.mk 1 b.1.2.2.2.2.2.2.2.1 b.1.2.2.2.2.2.1 [],())) λc=>Rx.el c (λd=>ak (F271 n (d.2.1,d.2.2.1,
 d.1)) λe=>some (Rx.ok e)) λd=>some (Rx.dm d)
def amF(n:Nat):OC:=⟨230,⟨CW,K29,true,F230 n⟩,cq [JM n,Te n] [] n 10 230⟩
abbrev Vl(F:Fn P42 K4 false):lF sg:=⟨P42,K4,false,F⟩
def BL(n:Nat)(f279:PT->Ue)(c:PT):Ua->Ue:=
 λd=>some ((D.ey (D.aO c.2.2.2.1.1 d.1.1.1) (D.ey (D.aO c.2.2.2.1.2 d.1.1.2) true),()),c.1,c.2.1,c.2.2.2.2)
def Gv(n:Nat)(f279:PT->Ue)(c:PT)(d:ajG):Ue:=
 some ((false,()),d.2.1,d.2.2.1,c.2.2.2.2)
def KR(c:PT)(e:ajF):aC:=
 aN c.2.2.1.4 (ah e.1) aK
def B279:Nat->(PT->Ue)->PT->Ue:=
 λn f279 c=>aj (D.aO c.2.2.1.1 2) (aB (cY c.2.2.2.2.1.1 [c.2.2.2.1]) (some ((true,()),c.1,c.2.1,(cM c.2.2.2.2.1.1 [c.2.2.2.1],()),
 ()))) (aj (D.aO c.2.2.1.1 3) (ak (F272 n (c.2.2.1.2,())) (BL n f279 c)) (aj (D.aO c.2.2.1.1 4) (ak (F273 n (D.aO c.2.2.1.2 1,())) (BL
 n f279 c)) (aj (D.aO c.2.2.1.1 5) (ak (F48 n ()) (BL n f279 c)) (aj (D.aO c.2.2.1.1 6) (ak (F298 n (c.1,c.2.1,c.2.2.2.1,1,())) λd=>
 aj (D.aM d.1.2.1) (Gv n f279 c d) (aj (D.aM (D.aO d.1.1.2 c.2.2.1.2)) (Gv n f279 c d) (aj (D.aM (D.aO (aq d.1.1.3) (aq
 c.2.2.1.4))) (Gv n f279 c d) (ak (@iter (ajF) (Bool×Unit) (Y1×Y2×(List au×Unit)×Unit) (Any) (λe=>aj (D.bN e.1 (aq
 c.2.2.1.4)) (aB (av e.1 c.2.2.1.4) (aB (av e.1 d.1.1.3) (ak (f279 (e.2.1,e.2.2.1,aC.mk (KR c e).1 (KR c e).2 (KR c e).3
 (KR c e).4,aN d.1.1.3 (ah e.1) az,e.2.2.2)) λg=>aj (D.aM g.1.1) (some (LO.ret g.2 (false,()))) (some (LO.next (D.add .i64 e.1
 1,g.2)))))) (some (LO.out 0 e))) n (0,d.2.1,d.2.2.1,c.2.2.2.2)) λe=>LO.el e (λ_ h=>some ((true,()),h.2)) (λg h=>some (h,g)) λ_
 _=>none)))) (some ((true,()),c.1,c.2.1,c.2.2.2.2))))))
def D279(n:Nat)(f279:Fn P42 K4 false)(ao9:bC prog 279 (Vl f279)):bC prog 279 (Vl (B279 n f279)):=cq [Z3 n,Z8 n,Z7 n,⟨279,Vl f279,ao9⟩,adq n] [(279,1,⟨[(74,cW),(0,UK),(0,UJ),(0,.box (.cells [.own (.st 4)]))],[.slot 0,.cell (.slot 0) 0,.slot 3],[],0⟩)] n 10 279
def R279(n k:Nat):(Fn P42 K4 false):=Nat.rec (motive:=λ_=>(Fn P42 K4 false)) (λ_=>none) (λ_ r=>B279 n r) k
def F279(n:Nat):Fn P42 K4 false:=(R279 n n)
def acE(n:Nat):∀k,bC prog 279 (Vl (R279 n k))
 |0=>bY (enters 279 (by kernel_rfl))
 |k+1=>have ih:=acE n k
  D279 n _ ih
def amh(n:Nat):OC:=⟨279,Vl (F279 n),(acE n n)⟩
def Gj(b:Y1×Y2×Unit)(c:ajm):aC:=
 aN b.1.2.2.2.2.2.2.2.2.2.1 (ah c.1) aK
def F231:Y5:=
 λn b=>ak (@iter (ajm) (cg×Unit) (Y1×Y2×Unit) (Any) (λc=>aj (D.bN c.1 (aq b.1.2.2.2.2.2.2.2.2.2.1)) (aB (av c.1
 b.1.2.2.2.2.2.2.2.2.2.1) (aB (av 0 c.2.1.2.2.2.2.2.1) (ak (F279 n (c.2.1,c.2.2.1,aC.mk (Gj b c).1 (Gj b c).2 (Gj b c).3 (Gj
 b c).4,aN c.2.1.2.2.2.2.2.1 (ah 0) az,([],()),())) λd=>aj d.1.1 (ak (F277 n (d.2.1.2.2.2.2.1,d.2.2.2.1)) λe=>Rx.el e (λg
 =>ak (F174 n (d.2.1,d.2.2.1,D.add .i64 c.1 1,g.1)) λh=>Rx.el h (λi=>some (LO.ret i.2 i.1)) λi=>some (LO.dm i.2 i.1)) λg=>some
 (LO.dm (d.2.1,d.2.2.1,()) g.1)) (some (LO.next (D.add .i64 c.1 1,d.2.1,d.2.2.1,())))))) (some (LO.out 0 c))) n (0,b)) λc=>LO.el c (λ_ e
 =>some (Rx.dm (Any.a0 (fY.mk 3),e.2))) (λd e=>some (Rx.ok (e,d))) λd e=>some (Rx.dm (e,d))
def amE(n:Nat):OC:=⟨231,⟨CW,K29,true,F231 n⟩,cq [Wd n,Z6 n,amh n] [(231,0,⟨[(12,cW),(0,UK),(0,UJ)],[.slot 0,.cell (.slot 0) 0],[],0⟩)] n 10 231⟩
def KC(b:Y55):Y1×Y2×Unit:=
 (((),b.1.2.1,b.1.2.2.1,b.1.2.2.2.1,b.1.2.2.2.2.1,b.1.2.2.2.2.2.1,b.1.2.2.2.2.2.2.1,b.1.2.2.2.2.2.2.2.1,b.1.2.2.2.2.2.2.2.2.1,
 b.1.2.2.2.2.2.2.2.2.2.1,[b.2.2.1],()),b.2.1,())
def F280:Nat->Y55->Option Y3:=
 λn b=>ak (F112 n b.2.2.2) λc=>aj (D.aO b.1.2.2.2.2.2.2.1 24) (some ((cg.a1 (gB.mk (aS.mk b.1.2.1 b.1.2.2.2.2.2.2.1
 b.1.2.2.2.2.2.2.2.1 c.1.1)),()),KC b)) (some ((cg.a1 (gB.mk (aS.mk b.1.2.1 b.1.2.2.2.2.2.2.1 0 c.1.1)),()),KC b))
def EK(n:Nat):OC:=⟨280,⟨P38,K29,false,F280 n⟩,cq [ahh n] [] n 10 280⟩
def F232:Y5:=
 λn b=>aB (av 0 b.1.2.2.2.2.2.1) (ak (F274 n (b.1,b.2.1,aE.mk 3 0 [aN b.1.2.2.2.2.2.1 (ah 0) az] [],())) λc=>Rx.el c (λ
 d=>ak (F280 n (d.2.1,d.2.2.1,d.1.1,aN b.1.2.2.2.2.2.1 (ah 0) az,())) λe=>some (Rx.ok e)) λd=>some (Rx.dm d))
def amD(n:Nat):OC:=⟨232,⟨CW,K29,true,F232 n⟩,cq [Te n,EK n] [] n 10 232⟩
def F233:Y5:=
 λn b=>aB (av 0 b.1.2.2.2.2.2.1) (ak (F276 n (b.1,b.2.1,aN b.1.2.2.2.2.2.1 (ah 0) az,3,())) λc=>Rx.el c (λd=>aB (av 0
 d.1.1.3) (ak (F280 n (d.2.1,d.2.2.1,aN d.1.1.3 (ah 0) az,aN d.1.1.3 (ah 0) az,())) λe=>some (Rx.ok e))) λd=>some
 (Rx.dm d))
def amC(n:Nat):OC:=⟨233,⟨CW,K29,true,F233 n⟩,cq [OJ n,EK n] [] n 10 233⟩
def F281:Nat->Y1×Y2×Int×aE×Unit->Option XS:=
 λn b=>ak (F170 n (b.2.1.2.2.2.2.1,())) λc=>aB (av b.2.2.1 c.1.1) (aB (cw (ah b.2.2.1) c.1.1) (some ((),b.1,(b.2.1.1,b.2.1.2.1,
 b.2.1.2.2.1,b.2.1.2.2.2.1,dQ c.1.1 (ah b.2.2.1) b.2.2.2.1,b.2.1.2.2.2.2.2),())))
def adr(n:Nat):OC:=⟨281,⟨P43,[],false,F281 n⟩,cq [aha n] [] n 10 281⟩
def F234:Y5:=
 λn b=>aB (av 0 b.1.2.2.2.2.2.1) (ak (F276 n (b.1,b.2.1,aN b.1.2.2.2.2.2.1 (ah 0) az,3,())) λc=>Rx.el c (λd=>aB (av 0
 d.2.1.2.2.2.2.2.1) (aB (av 1 d.2.1.2.2.2.2.2.1) (ak (F281 n (d.2.1,d.2.2.1,(aN d.2.1.2.2.2.2.2.1 (ah 0) az).2,aE.mk 3 0 [aN
 d.2.1.2.2.2.2.2.1 (ah 1) az] [],())) λe=>ak (F48 n ()) λg=>aB (av 1 e.2.1.2.2.2.2.2.1) (ak (F280 n (e.2.1,e.2.2.1,g.1.1,aN
 e.2.1.2.2.2.2.2.1 (ah 1) az,())) λh=>some (Rx.ok h))))) λd=>some (Rx.dm d))
def amB(n:Nat):OC:=⟨234,⟨CW,K29,true,F234 n⟩,cq [Z3 n,OJ n,EK n,adr n] [] n 10 234⟩
def yH(j:afi):Int:=
 aq j.2.2.1.2.2.2.2.2.1
def F235:Y5:=
 λn b=>aB (av 0 b.1.2.2.2.2.2.1) (ak (F48 n ()) λc=>ak (F275 n (b.1,b.2.1,aN b.1.2.2.2.2.2.1 (ah 0) az,c.1)) λd=>Rx.el d
 (λe=>ak (aj e.1.2.1 (some (LO.next (true,e.2.1,e.2.2.1,(6,0,[],[e.1.1],()),()))) (aB (av 0 e.2.1.2.2.2.2.2.1) (ak (F276 n (e.2.1,
 e.2.2.1,aN e.2.1.2.2.2.2.2.1 (ah 0) az,5,())) λg=>Rx.el g (λh=>ak (F48 n ()) λi=>some (LO.next (false,h.2.1,h.2.2.1,(6,
 0,[i.1.1],h.1.1.4,()),()))) λh=>some (LO.dm (h.2.1,h.2.2.1,(6,0,[],[],()),()) h.1)))) λ(g:LO (Bool×Y1×Y2×yU×Unit)
 (cg×Unit) (Y1×Y2×yU×Unit) Any)=>LO.jn g (λh=>ak (F274 n (h.2.1,h.2.2.1,aE.mk h.2.2.2.1.1 h.2.2.2.1.2.1 h.2.2.2.1.2.2.1
 h.2.2.2.1.2.2.2.1,())) λi=>Rx.el i (λj=>aB (CV (eW 0 (yH j) (yH j)) (hU (yH j) (yH j))) (aB (cY (eo
 j.2.2.1.2.2.2.2.2.1 0 (yH j)) [j.1.1.2]) (ak (F48 n ()) λk=>ak (F280 n (j.2.1,(j.2.2.1.1,j.2.2.1.2.1,j.2.2.1.2.2.1,j.2.2.1.2.2.2.1,
 j.2.2.1.2.2.2.2.1,cM (eo j.2.2.1.2.2.2.2.2.1 0 (yH j)) [j.1.1.2],j.2.2.1.2.2.2.2.2.2),j.1.1,k.1)) λl=>some (Rx.ok l)))) λj=>some
 (Rx.dm j)) (λ_ _=>none) (λh i=>some (Rx.ok (i,h.1,h.2.1,()))) λh i=>some (Rx.dm (i,h.1,h.2.1,()))) λe=>some (Rx.dm e))
def amA(n:Nat):OC:=⟨235,⟨CW,K29,true,F235 n⟩,cq [Z3 n,Te n,agZ n,OJ n,EK n] [(235,1000004,⟨[(21,cZ),(0,UK),(0,UJ),(0,aiX)],[.slot 0,.cell (.slot 0) 0,.slot 3],[],0⟩)] n 10 235⟩
def F236:Y5:=
 λn b=>aB (av 0 b.1.2.2.2.2.2.1) (ak (F276 n (b.1,b.2.1,aN b.1.2.2.2.2.2.1 (ah 0) az,6,())) λc=>Rx.el c (λd=>aj (D.aO
 d.1.1.2 0) (some (Rx.ok ((cg.a0 iy.mk,()),d.2))) (aj (D.aO d.1.1.2 1) (aB (av 0 d.1.1.3) (aB (av 0 d.1.1.3) (ak (F280 n (d.2.1,
 d.2.2.1,aN d.1.1.3 (ah 0) az,aN d.1.1.3 (ah 0) az,())) λe=>some (Rx.ok e)))) (some (Rx.dm (Any.a0 (fY.mk d.1.1.2),
 d.2))))) λd=>some (Rx.dm d))
def amz(n:Nat):OC:=⟨236,⟨CW,K29,true,F236 n⟩,cq [OJ n,EK n] [] n 10 236⟩
def F237:Y5:=
 λn b=>ak (F274 n (b.1,b.2.1,aE.mk 4 0 [] [],())) λc=>Rx.el c (λd=>ak (F48 n ()) λe=>ak (F280 n (d.2.1,d.2.2.1,d.1.1,
 e.1)) λg=>some (Rx.ok g)) λd=>some (Rx.dm d)
def amy(n:Nat):OC:=⟨237,⟨CW,K29,true,F237 n⟩,cq [Z3 n,Te n,EK n] [] n 10 237⟩
def F238:Y5:=
 λn b=>aB (av 0 b.1.2.2.2.2.2.1) (ak (F276 n (b.1,b.2.1,aN b.1.2.2.2.2.2.1 (ah 0) az,4,())) λc=>Rx.el c (λd=>aj (D.aO
 (aq d.1.1.3) 4) (some (Rx.ok ((cg.a0 iy.mk,()),d.2))) (aB (av 1 d.2.1.2.2.2.2.2.1) (aB (CV (eW 0 (aq d.1.1.3) (aq d.1.1.3))
 (hU (aq d.1.1.3) (aq d.1.1.3))) (aB (cY (eo d.1.1.3 0 (aq d.1.1.3)) [aN d.2.1.2.2.2.2.2.1 (ah 1) az]) (aB (av 0
 d.2.1.2.2.2.2.2.1) (ak (F281 n (d.2.1,d.2.2.1,(aN d.2.1.2.2.2.2.2.1 (ah 0) az).2,aE.mk d.1.1.1 d.1.1.2 (cM (eo d.1.1.3 0 (aq
 d.1.1.3)) [aN d.2.1.2.2.2.2.2.1 (ah 1) az]) d.1.1.4,())) λe=>ak (F48 n ()) λg=>aB (av 1 e.2.1.2.2.2.2.2.1) (ak (F280 n (e.2.1,
 e.2.2.1,g.1.1,aN e.2.1.2.2.2.2.2.1 (ah 1) az,())) λh=>some (Rx.ok h)))))))) λd=>some (Rx.dm d))
def amx(n:Nat):OC:=⟨238,⟨CW,K29,true,F238 n⟩,cq [Z3 n,OJ n,EK n,adr n] [] n 10 238⟩
def F239:Y5:=
 λn b=>aB (av 0 b.1.2.2.2.2.2.1) (ak (F276 n (b.1,b.2.1,aN b.1.2.2.2.2.2.1 (ah 0) az,4,())) λc=>Rx.el c (λd=>aj (D.aO
 (aq d.1.1.3) 0) (some (Rx.ok ((cg.a0 iy.mk,()),d.2))) (aB (av 0 d.1.1.3) (aB (eW 1 (aq d.1.1.3) (aq d.1.1.3)) (aB (av 0
 d.2.1.2.2.2.2.2.1) (ak (F281 n (d.2.1,d.2.2.1,(aN d.2.1.2.2.2.2.2.1 (ah 0) az).2,aE.mk d.1.1.1 d.1.1.2 (eo d.1.1.3 1 (aq
 d.1.1.3)) d.1.1.4,())) λe=>ak (F280 n (e.2.1,e.2.2.1,aN d.1.1.3 (ah 0) az,aN d.1.1.3 (ah 0) az,())) λg=>some (Rx.ok
 g)))))) λd=>some (Rx.dm d))
def amw(n:Nat):OC:=⟨239,⟨CW,K29,true,F239 n⟩,cq [OJ n,EK n,adr n] [] n 10 239⟩
def Gi(b:Y1×Y2×Unit):au:=
 aN b.1.2.2.2.2.2.1 (ah 0) az
def vH(b:Y1×Y2×Unit):Int:=
 aq b.2.1.2.2.2.2.2.2.1
def F240:Y5:=
 λn b=>aB (av 0 b.1.2.2.2.2.2.1) (ak (F219 n (D.aO (Gi b).1 1,2,())) λc=>Rx.el c (λ_=>ak (F219 n (D.bN (vH b) 100,4,
 ())) λe=>Rx.el e (λ_=>aB (CV (eW 0 (vH b) (vH b)) (hU (vH b) (vH b))) (aB (cY (eo b.2.1.2.2.2.2.2.2.1 0 (vH
 b)) [dW.mk b.1.2.2.2.2.2.2.2.1 (Gi b).2]) (ak (F48 n ()) λh=>ak (F280 n (b.1,(b.2.1.1,b.2.1.2.1,b.2.1.2.2.1,b.2.1.2.2.2.1,
 b.2.1.2.2.2.2.1,b.2.1.2.2.2.2.2.1,cM (eo b.2.1.2.2.2.2.2.2.1 0 (vH b)) [dW.mk b.1.2.2.2.2.2.2.2.1 (Gi b).2],b.2.1.2.2.2.2.2.2.2),
 h.1.1,Gi b,())) λi=>some (Rx.ok i)))) λg=>some (Rx.dm (g.1,b))) λd=>some (Rx.dm (d.1,b)))
def amv(n:Nat):OC:=⟨240,⟨CW,K29,true,F240 n⟩,cq [Z3 n,CN n,EK n] [] n 10 240⟩
def Gg(b:Y1×Y2×Unit):Int:=
 aq b.2.1.2.2.2.2.2.2.2.1
def F241:Y5:=
 λn b=>aj (D.aO (Gg b) 0) (some (Rx.ok ((cg.a0 iy.mk,()),b))) (ak (F219 n (D.bN b.2.1.2.2.2.2.2.2.2.2.1 1000000000,4,()))
 λc=>Rx.el c (λ_=>aB (av 0 b.2.1.2.2.2.2.2.2.2.1) (ak (F272 n (aN b.2.1.2.2.2.2.2.2.2.1 (ah 0) 0,())) λe=>aB (eW 1 (Gg b)
 (Gg b)) (ak (F280 n (b.1,(b.2.1.1,b.2.1.2.1,b.2.1.2.2.1,b.2.1.2.2.2.1,b.2.1.2.2.2.2.1,b.2.1.2.2.2.2.2.1,b.2.1.2.2.2.2.2.2.1,eo
 b.2.1.2.2.2.2.2.2.2.1 1 (Gg b),D.add .i64 b.2.1.2.2.2.2.2.2.2.2.1 1,()),e.1.1,e.1)) λg=>some (Rx.ok g)))) λd=>some (Rx.dm (d.1,b)))
def amu(n:Nat):OC:=⟨241,⟨CW,K29,true,F241 n⟩,cq [CN n,Z8 n,EK n] [] n 10 241⟩
def F242:Y28:=
 λn b=>aB (av 0 b.1.2.2.2.2.2.1) (ak (F271 n (b.1,b.2.1,aN b.1.2.2.2.2.2.1 (ah 0) az,())) λc=>some c)
def amt(n:Nat):OC:=⟨242,⟨CW,K29,false,F242 n⟩,cq [JM n] [] n 10 242⟩
def F160:Nat->Y22->Option (Y22×Unit):=λn b=>some (b,())
def C160(n:Nat):bC prog 160 (⟨P44,K45,false,F160 n⟩:lF sg):=S4 [] trivial (YU []) false n 10 160 P44 K45 (by kernel_rfl) (Eq.trans (by kernel_rfl:_=λb:Y22=>Hv (YX b.1) (some (([],()),())) (some (b,()))) (funext rV))
def adz(n:Nat):OC:=⟨160,⟨P44,K45,false,F160 n⟩,C160 n⟩
def Qf(e:Int×Unit)(k:afi):Y1:=
 ((),k.2.1.2.1,eo k.2.1.2.2.1 0 (D.add .i64 e.1 1),k.2.1.2.2.2)
def F243:Y5:=
 λn b=>ak (@iter (Int×Unit) (cg×Unit) (Unit) (Any) (λc=>aj (D.eu 0 c.1) (aB (av c.1 b.1.2.2.1) (aB (av (aN b.1.2.2.1 (ah
 c.1) aX).1 b.2.1.1) (aj (D.aM (D.aO (aN b.2.1.1 (ah (aN b.1.2.2.1 (ah c.1) aX).1) aQ).1 26)) (some (LO.next (D.dN .i64
 c.1 1,()))) (some (LO.out 0 c))))) (some (LO.out 0 c))) n (D.dN .i64 (aq b.1.2.2.1) 1,())) λc=>LO.el c (λ_ e=>ak (F219 n (D.eu 0 e.1,
 3,())) λg=>Rx.el g (λ_=>aB (eW e.1 (aq b.1.2.2.1) (aq b.1.2.2.1)) (ak (F160 n (eo b.1.2.2.1 e.1 (aq b.1.2.2.1),())) λi=>
 ak (F274 n (b.1,b.2.1,aE.mk 5 0 [] i.1.1,())) λj=>Rx.el j (λk=>aB (eW 0 (D.add .i64 e.1 1) (aq k.2.1.2.2.1)) (ak (F277 n
 (k.2.1.2.2.2.2.1,[k.1.1],())) λl=>Rx.el l (λm=>ak (F174 n (Qf e k,k.2.2.1,0,m.1)) λo=>Rx.el o (λp=>some (Rx.ok p)) λp
 =>some (Rx.dm p)) λm=>some (Rx.dm (m.1,Qf e k,k.2.2)))) λk=>some (Rx.dm k))) λh=>some (Rx.dm (h.1,b))) (λ_ e=>some
 (Rx.ok (e,b))) λ_ e=>some (Rx.dm (e,b))
def ams(n:Nat):OC:=⟨243,⟨CW,K29,true,F243 n⟩,cq [adz n,Wd n,CN n,Te n,Z6 n] [(243,0,⟨[(3,cW)],[],[],0⟩)] n 10 243⟩
def F244:Y28:=
 λn b=>ak (F48 n ()) λc=>ak (F48 n ()) λd=>ak (F280 n (b.1,b.2.1,c.1.1,d.1)) λe=>some e
def amr(n:Nat):OC:=⟨244,⟨CW,K29,false,F244 n⟩,cq [Z3 n,EK n] [] n 10 244⟩
def tC(b:Hx):Int:=
 D.dN .i64 (aq b.2.2.1.4) 1
def iA(b:Hx):ax:=
 aN b.2.2.1.4 (ah (tC b)) aX
def yO(b:Hx):bp:=
 aN b.2.1.1 (ah (iA b).1) aQ
def KP(b:Hx):Y1:=
 ((),b.1.2.1,b.1.2.2.1,b.1.2.2.2.1,b.1.2.2.2.2.1,b.1.2.2.2.2.2.1,(yO b).1,(yO b).2,(yO b).3,(yO b).4,b.1.2.2.2.2.2.2.2.2.2.2)
def fZ(b:Hx)(e:XS):Y1×Y2×Unit:=
 (((),e.2.1.2.1,e.2.1.2.2.1,(iA b).1,(iA b).2,(iA b).3,e.2.1.2.2.2.2.2.2),e.2.2)
def KO(n:Nat)(b:Hx)(e:XS):Option (Rx Y3 Y4):=
 ak (F221 n (fZ b e)) λg=>some (Rx.ok g)
def KN(n:Nat)(b:Hx)(e:XS):Option (Rx Y3 Y4):=
 ak (F227 n (fZ b e)) λg=>Rx.el g (λh=>some (Rx.ok h)) λh=>some (Rx.dm h)
def F115:Nat->Hx->Option (Rx Y3 Y4):=
 λn b=>aj (D.bN 0 (aq b.2.2.1.3)) (aB (av (tC b) b.2.2.1.4) (aB (eW 0 (tC b) (aq b.2.2.1.4)) (ak (F171 n (b.1,b.2.1,eo
 b.2.2.1.4 0 (tC b),())) λc=>Rx.el c (λd=>aB (av 0 b.2.2.1.3) (aB (CV (eW 0 (aq (iA b).3) (aq (iA b).3)) (hU (aq
 (iA b).3) (aq (iA b).3))) (aB (cY (eo (iA b).3 0 (aq (iA b).3)) [aN b.2.2.1.3 (ah 0) az]) (ak (F171 n (d.2.1,
 d.2.2.1,[ax.mk (iA b).1 (iA b).2 (cM (eo (iA b).3 0 (aq (iA b).3)) [aN b.2.2.1.3 (ah 0) az])],())) λe=>
 Rx.el e (λg=>some (Rx.ok ((cg.a3 jf.mk,()),g.2))) λg=>some (Rx.dm g))))) λd=>some (Rx.dm d)))) (aB (av (tC b)
 b.2.2.1.4) (aB (av (iA b).1 b.2.1.1) (ak (F173 n (yO b,())) λc=>aj (D.bN (aq (iA b).3) c.1.1) (ak (F171 n (KP b,b.2.1,
 b.2.2.1.4,())) λd=>Rx.el d (λe=>ak (F174 n (e.2.1,e.2.2.1,aq (iA b).3,(iA b).2,())) λg=>Rx.el g (λh=>some (Rx.ok
 h)) λh=>some (Rx.dm h)) λe=>some (Rx.dm e)) (aB (eW 0 (tC b) (aq b.2.2.1.4)) (ak (F171 n (KP b,b.2.1,eo b.2.2.1.4 0
 (tC b),())) λd=>Rx.el d (λe=>aj (hU e.2.1.2.2.2.2.2.2.1 0) none (aj (hU e.2.1.2.2.2.2.2.2.1 1) (KO n b e) (aj (hU
 e.2.1.2.2.2.2.2.2.1 2) (KO n b e) (aj (hU e.2.1.2.2.2.2.2.2.1 3) (KO n b e) (aj (hU e.2.1.2.2.2.2.2.2.1 4) (ak (F222 n (fZ b e)) λg
 =>Rx.el g (λh=>some (Rx.ok h)) λh=>some (Rx.dm h)) (aj (hU e.2.1.2.2.2.2.2.2.1 5) (ak (F223 n (fZ b e)) λg=>Rx.el g (λh=>
 some (Rx.ok h)) λh=>some (Rx.dm h)) (aj (hU e.2.1.2.2.2.2.2.2.1 6) (ak (F224 n (fZ b e)) λg=>Rx.el g (λh=>some (Rx.ok h)) λh
 =>some (Rx.dm h)) (aj (hU e.2.1.2.2.2.2.2.2.1 7) (ak (F225 n (fZ b e)) λg=>Rx.el g (λh=>some (Rx.ok h)) λh=>some (Rx.dm h))
 (aj (hU e.2.1.2.2.2.2.2.2.1 8) (ak (F226 n (fZ b e)) λg=>Rx.el g (λh=>some (Rx.ok h)) λh=>some (Rx.dm h)) (aj (hU
 e.2.1.2.2.2.2.2.2.1 9) (KN n b e) (aj (hU e.2.1.2.2.2.2.2.2.1 10) (KN n b e) (aj (hU e.2.1.2.2.2.2.2.2.1 11) (KN n b e) (aj (hU
 e.2.1.2.2.2.2.2.2.1 12) (ak (F228 n (fZ b e)) λg=>Rx.el g (λh=>some (Rx.ok h)) λh=>some (Rx.dm h)) (aj (hU e.2.1.2.2.2.2.2.2.1
 13) (ak (F229 n (fZ b e)) λg=>Rx.el g (λh=>some (Rx.ok h)) λh=>some (Rx.dm h)) (aj (hU e.2.1.2.2.2.2.2.2.1 14) (ak (F230 n
 (fZ b e)) λg=>Rx.el g (λh=>some (Rx.ok h)) λh=>some (Rx.dm h)) (aj (hU e.2.1.2.2.2.2.2.2.1 15) (ak (F231 n (fZ b e)) λg
 =>Rx.el g (λh=>some (Rx.ok h)) λh=>some (Rx.dm h)) (aj (hU e.2.1.2.2.2.2.2.2.1 16) (ak (F232 n (fZ b e)) λg=>Rx.el g (λh=>
 some (Rx.ok h)) λh=>some (Rx.dm h)) (aj (hU e.2.1.2.2.2.2.2.2.1 17) (ak (F233 n (fZ b e)) λg=>Rx.el g (λh=>some (Rx.ok h)) λh
 =>some (Rx.dm h)) (aj (hU e.2.1.2.2.2.2.2.2.1 18) (ak (F234 n (fZ b e)) λg=>Rx.el g (λh=>some (Rx.ok h)) λh=>some (Rx.dm h))
 (aj (hU e.2.1.2.2.2.2.2.2.1 19) (ak (F235 n (fZ b e)) λg=>Rx.el g (λh=>some (Rx.ok h)) λh=>some (Rx.dm h)) (aj (hU
 e.2.1.2.2.2.2.2.2.1 20) (ak (F236 n (fZ b e)) λg=>Rx.el g (λh=>some (Rx.ok h)) λh=>some (Rx.dm h)) (aj (hU e.2.1.2.2.2.2.2.2.1
 21) (ak (F237 n (fZ b e)) λg=>Rx.el g (λh=>some (Rx.ok h)) λh=>some (Rx.dm h)) (aj (hU e.2.1.2.2.2.2.2.2.1 22) (ak (F238 n
 (fZ b e)) λg=>Rx.el g (λh=>some (Rx.ok h)) λh=>some (Rx.dm h)) (aj (hU e.2.1.2.2.2.2.2.2.1 23) (ak (F239 n (fZ b e)) λg
 =>Rx.el g (λh=>some (Rx.ok h)) λh=>some (Rx.dm h)) (aj (hU e.2.1.2.2.2.2.2.2.1 24) (ak (F240 n (fZ b e)) λg=>Rx.el g (λh=>
 some (Rx.ok h)) λh=>some (Rx.dm h)) (aj (hU e.2.1.2.2.2.2.2.2.1 25) (ak (F241 n (fZ b e)) λg=>Rx.el g (λh=>some (Rx.ok h)) λh
 =>some (Rx.dm h)) (aj (hU e.2.1.2.2.2.2.2.2.1 26) (ak (F242 n (fZ b e)) λg=>some (Rx.ok g)) (aj (hU e.2.1.2.2.2.2.2.2.1 27) (ak (F243
 n (fZ b e)) λg=>Rx.el g (λh=>some (Rx.ok h)) λh=>some (Rx.dm h)) (aj (hU e.2.1.2.2.2.2.2.2.1 28) (ak (F244 n (fZ b e)) λg
 =>some (Rx.ok g)) (aB false none)))))))))))))))))))))))))))))) λe=>some (Rx.dm e))))))
def anz(n:Nat):OC:=⟨115,⟨P33,K29,true,F115 n⟩,cq [adx n,adw n,Wd n,amO n,amN n,amM n,amL n,amK n,amJ n,amI n,amH n,amG n,amF n,amE n,amD n,amC n,amB n,amA n,amz n,amy n,amx n,amw n,amv n,amu n,amt n,ams n,amr n] [] n 10 115⟩
def An(b:Y2×Int×Unit):Int:=
 aN b.1.2.2.2.2.2.1 (ah b.2.1) 0
def Gc(b:Y2×Int×Unit):aE:=
 aN b.1.2.2.2.2.1 (ah (An b)) aR
def F70:Nat->Y2×Int×Unit->Option ((cg×Unit)×Y2×Unit):=
 λn b=>aB (av b.2.1 b.1.2.2.2.2.2.1) (aB (av (An b) b.1.2.2.2.2.1) (aj (D.aM (D.aO (Gc b).2 0)) (some ((cg.a0 iy.mk,
 ()),b.1,())) (aj (D.aO (aq (Gc b).4) 0) (ak (F170 n (b.1.2.2.2.2.1,())) λc=>aB (av b.2.1 b.1.2.2.2.2.2.1) (aB (av (An b)
 c.1.1) (aB (cw (ah (An b)) c.1.1) (aB (av 0 (Gc b).3) (ak (F112 n (aN (Gc b).3 (ah 0) az,())) λd=>some ((cg.a1
 (gB.mk (aS.mk b.2.1 0 1 d.1.1)),()),(b.1.1,b.1.2.1,b.1.2.2.1,b.1.2.2.2.1,dQ c.1.1 (ah (An b)) (aE.mk 6 1 (Gc b).3
 []),b.1.2.2.2.2.2),())))))) (ak (F115 n (((),b.2.1,[],0,[],[],0,0,[],[],[],()),b.1,Gc b,())) λc=>Rx.el c (λd=>ak (F71 n
 d.1) λe=>aj (D.aM (D.aO e.1.1 2)) (ak (F170 n (d.2.2.1.2.2.2.2.1,())) λg=>aB (av b.2.1 d.2.2.1.2.2.2.2.2.1) (aB (av (aN
 d.2.2.1.2.2.2.2.2.1 (ah b.2.1) 0) g.1.1) (aB (cw (ah (aN d.2.2.1.2.2.2.2.2.1 (ah b.2.1) 0)) g.1.1) (some (d.1,(d.2.2.1.1,d.2.2.1.2.1,
 d.2.2.1.2.2.1,d.2.2.1.2.2.2.1,dQ g.1.1 (ah (aN d.2.2.1.2.2.2.2.2.1 (ah b.2.1) 0)) (aE.mk 6 0 d.2.1.2.2.2.2.2.2.2.2.2.2.1 d.2.1.2.2.1),
 d.2.2.1.2.2.2.2.2),()))))) (some (d.1,d.2.2))) λd=>aj (D.aM (isNil [(175,Ty.st 14)] (eM 30 d.1))) (ak (aj (D.aM (iI [(175,Ty.st
 14)] 0 (eM 30 d.1))) none (some (LO.next (false,())))) λ(e:NH)=>LO.jn e (λ_=>ak (F170 n (b.1.2.2.2.2.1,())) λh=>aB (av
 b.2.1 b.1.2.2.2.2.2.1) (aB (av (An b) h.1.1) (aB (cw (ah (An b)) h.1.1) (ak (F114 n (jE (Sg.zero sg) [(175,Ty.st 14)] 0 (eM 30
 d.1),())) λi=>some ((cg.a1 (gB.mk (aS.mk b.2.1 i.1.1.2 i.1.1.3 i.1.1.4)),()),(d.2.2.1.1,d.2.2.1.2.1,d.2.2.1.2.2.1,
 d.2.2.1.2.2.2.1,dQ h.1.1 (ah (An b)) (aE.mk 6 (jE (Sg.zero sg) [(175,Ty.st 14)] 0 (eM 30 d.1)).1 [] []),b.1.2.2.2.2.2),())))))
 (λ_ _=>none) (λ_ _=>some ((cg.none,()),d.2.2)) λ_ _=>none) (some ((cg.none,()),d.2.2))))))
def k70(n:Nat):OC:=⟨70,⟨P46,K29,false,F70 n⟩,cq [k71 n,ahh n,ahg n,anz n,aha n] [(113,1000004,⟨[(17,cZ)],[],[],0⟩)] n 10 70⟩
def F50:Nat->Y2×Int×Unit->Option afd:=
 λn b=>ak (@iter (Int×Int×Y2×Unit) (Int×Bool×Unit) (Y2×Unit) (Any) (λc=>aj (D.bN c.2.1 (aq b.1.2.2.2.2.2.1)) (ak (@iter (Int
 ×Y2×Unit) (Int×Bool×Unit) (Y2×Unit) (Any) (λd=>ak (F70 n (d.2.1,c.2.1,())) λe=>ak (F71 n e.1) λg=>aj (D.aM (D.aO g.1.1
 0)) (some (LO.out 0 d)) (aj (D.bN 5000 (D.add .i64 d.1 1)) (some (LO.ret d.2 (0,false,()))) (some (LO.next (D.add .i64 d.1 1,e.2))))) n (c.1,
 c.2.2)) λd=>LO.el d (λ_ g=>some (LO.next (g.1,D.add .i64 c.2.1 1,g.2))) (λe g=>some (LO.ret e g)) λ_ _=>none) (some (LO.out 0
 c))) n (b.2.1,0,b.1,())) λc=>LO.el c (λ_ e=>some ((e.1,true,()),e.2.2)) (λd e=>some (e,d)) λ_ _=>none
def k50(n:Nat):OC:=⟨50,⟨P46,K47,false,F50 n⟩,cq [k70 n,k71 n] [(50,0,⟨[(1,cW),(14,cW),(0,b2z)],[.slot 0],[],0⟩),(50,2,⟨[(1,cW),(0,b2z)],[.slot 0],[],0⟩)] n 10 50⟩
def F90:Nat->List dW×Unit->Option ((List dW×Unit)×Unit):=λn b=>some (b,())
def C90(n:Nat):bC prog 90 (⟨P48,K49,false,F90 n⟩:lF sg):=S4 [] trivial (YU []) false n 10 90 P48 K49 (by kernel_rfl) (Eq.trans (by kernel_rfl:_=λb:List dW×Unit=>Hv (YX b.1) (some (([],()),())) (some (b,()))) (funext rV))
def k90(n:Nat):OC:=⟨90,⟨P48,K49,false,F90 n⟩,C90 n⟩
def F159:Nat->List au×Unit->Option Y44:=λn b=>some (b,())
def C159(n:Nat):bC prog 159 (⟨P50,K51,false,F159 n⟩:lF sg):=S4 [] trivial (YU []) false n 10 159 P50 K51 (by kernel_rfl) (Eq.trans (by kernel_rfl:_=λb:List au×Unit=>Hv (YX b.1) (some (([],()),())) (some (b,()))) (funext rV))
def ahd(n:Nat):OC:=⟨159,⟨P50,K51,false,F159 n⟩,C159 n⟩
def F92:Nat->Int×Unit->Dv:=
 λn b=>some (b,())
def k92(n:Nat):OC:=⟨92,⟨P11,K2,false,F92 n⟩,cq [] [] n 10 92⟩
def Ao(b:Y2×Unit)(g:Int×ua×Unit):aE:=
 aN b.1.2.2.2.2.1 (ah g.1) aR
def tS(n:Nat)(h:Y44):Y46:=
 @iter (NF) (List au×Unit) (Unit) (Any) (λi=>aj (D.bN i.2.1 (aq h.1.1)) (aB (av i.2.1 i.1) (aB (cw (ah i.2.1) i.1) (aj (D.aO
 (aN i.1 (ah i.2.1) az).1 5) (ak (F92 n ((aN i.1 (ah i.2.1) az).2,())) λj=>aB (av i.2.1 i.1) (aB (cw (ah i.2.1) i.1)
 (some (LO.next (dQ i.1 (ah i.2.1) (au.mk (aN i.1 (ah i.2.1) az).1 j.1.1),D.add .i64 i.2.1 1,()))))) (some (LO.next (i.1,D.add .i64
 i.2.1 1,())))))) (some (LO.out 0 i))) n (h.1.1,0,())
def xA(m:Int×yU×Unit):ax:=
 aN m.2.1.2.2.2.1 (ah m.1) aX
def Yn(n:Nat)(m:Int×yU×Unit)(r:NF)(v:NF):UL:=
 aB (av m.1 m.2.1.2.2.2.1) (aB (cw (ah m.1) m.2.1.2.2.2.1) (some (LO.next (D.add .i64 m.1 1,(m.2.1.1,m.2.1.2.1,m.2.1.2.2.1,dQ
 m.2.1.2.2.2.1 (ah m.1) (ax.mk (xA m).1 r.1 v.1),()),()))))
def acv(n:Nat)(m:Int×yU×Unit)(r:NF)(v:List au×Unit):UL:=
 aB (av m.1 m.2.1.2.2.2.1) (aB (cw (ah m.1) m.2.1.2.2.2.1) (some (LO.next (D.add .i64 m.1 1,(m.2.1.1,m.2.1.2.1,m.2.1.2.2.1,dQ
 m.2.1.2.2.2.1 (ah m.1) (ax.mk (xA m).1 r.1 v.1),()),()))))
def Sc(n:Nat)(m:Int×yU×Unit)(r:NF):UL:=
 ak (F159 n ((xA m).3,())) λs=>ak (tS n s) λt=>LO.el t (λ_ v=>Yn n m r v) (λ_ v=>acv n m r v) λ_ _=>none
def ajU(n:Nat)(m:Int×yU×Unit)(r:List au×Unit)(v:NF):UL:=
 aB (av m.1 m.2.1.2.2.2.1) (aB (cw (ah m.1) m.2.1.2.2.2.1) (some (LO.next (D.add .i64 m.1 1,(m.2.1.1,m.2.1.2.1,m.2.1.2.2.1,dQ
 m.2.1.2.2.2.1 (ah m.1) (ax.mk (xA m).1 r.1 v.1),()),()))))
def ajT(n:Nat)(m:Int×yU×Unit)(r:List au×Unit)(v:List au×Unit):UL:=
 aB (av m.1 m.2.1.2.2.2.1) (aB (cw (ah m.1) m.2.1.2.2.2.1) (some (LO.next (D.add .i64 m.1 1,(m.2.1.1,m.2.1.2.1,m.2.1.2.2.1,dQ
 m.2.1.2.2.2.1 (ah m.1) (ax.mk (xA m).1 r.1 v.1),()),()))))
def Sb(n:Nat)(m:Int×yU×Unit)(r:List au×Unit):UL:=
 ak (F159 n ((xA m).3,())) λs=>ak (tS n s) λt=>LO.el t (λ_ v=>ajU n m r v) (λ_ v=>ajT n m r v) λ_ _=>none
def Kx(n:Nat)(b:Y2×Unit)(g:Int×ua×Unit)(k:NF):Y49:=
 ak (F160 n ((Ao b g).4,())) λl=>ak (@iter (Int×yU×Unit) (Unit) (yU×Unit) (Any) (λm=>aj (D.bN m.1 (aq l.1.1)) (aB (av m.1
 m.2.1.2.2.2.1) (aB (cw (ah m.1) m.2.1.2.2.2.1) (ak (F159 n ((xA m).2,())) λo=>ak (tS n o) λp=>LO.el p (λ_ r=>Sc n m r)
 (λ_ r=>Sb n m r) λ_ _=>none))) (some (LO.out 0 m))) n (0,((Ao b g).1,(Ao b g).2,k.1,l.1),())) λm=>LO.el m (λ_ p=>aB
 (cY g.2.1.1 [aE.mk p.2.1.1 p.2.1.2.1 p.2.1.2.2.1 p.2.1.2.2.2.1]) (some (LO.next (D.add .i64 g.1 1,(cM g.2.1.1 [aE.mk p.2.1.1 p.2.1.2.1
 p.2.1.2.2.1 p.2.1.2.2.2.1],g.2.1.2),())))) (λ_ _=>aB (cY g.2.1.1 [aR]) (some (LO.next (D.add .i64 g.1 1,(cM g.2.1.1 [aR],
 g.2.1.2),())))) λ_ _=>none
def PZ(n:Nat)(b:Y2×Unit)(g:Int×ua×Unit)(k:List au×Unit):Y49:=
 ak (F160 n ((Ao b g).4,())) λl=>ak (@iter (Int×yU×Unit) (Unit) (yU×Unit) (Any) (λm=>aj (D.bN m.1 (aq l.1.1)) (aB (av m.1
 m.2.1.2.2.2.1) (aB (cw (ah m.1) m.2.1.2.2.2.1) (ak (F159 n ((xA m).2,())) λo=>ak (tS n o) λp=>LO.el p (λ_ r=>Sc n m r)
 (λ_ r=>Sb n m r) λ_ _=>none))) (some (LO.out 0 m))) n (0,((Ao b g).1,(Ao b g).2,k.1,l.1),())) λm=>LO.el m (λ_ p=>aB
 (cY g.2.1.1 [aE.mk p.2.1.1 p.2.1.2.1 p.2.1.2.2.1 p.2.1.2.2.2.1]) (some (LO.next (D.add .i64 g.1 1,(cM g.2.1.1 [aE.mk p.2.1.1 p.2.1.2.1
 p.2.1.2.2.1 p.2.1.2.2.2.1],g.2.1.2),())))) (λ_ _=>aB (cY g.2.1.1 [aR]) (some (LO.next (D.add .i64 g.1 1,(cM g.2.1.1 [aR],
 g.2.1.2),())))) λ_ _=>none
def F51:Y51:=
 λn b=>ak (F49 n (b.1.2.2.2.2.2.1,())) λc=>ak (F90 n (b.1.2.2.2.2.2.2.1,())) λd=>ak (F49 n (b.1.2.2.2.2.2.2.2.1,())) λe=>ak
 (@iter (Int×ua×Unit) (Unit) (ua×Unit) (Any) (λg=>aj (D.bN g.1 (aq b.1.2.2.2.2.1)) (aB (av g.1 b.1.2.2.2.2.1) (ak (F159 n ((Ao b
 g).3,())) λh=>ak (tS n h) λi=>LO.el i (λ_ k=>Kx n b g k) (λ_ k=>PZ n b g k) λ_ _=>none)) (some (LO.out 0 g))) n
 (0,([],c.1.1,d.1.1,e.1.1,b.1.2.2.2.2.2.2.2.2),())) λg=>LO.el g (λ_ i=>some ((ai.mk i.2.1.1 i.2.1.2.1 i.2.1.2.2.1 i.2.1.2.2.2.1
 i.2.1.2.2.2.2.1,()),b)) (λ_ _=>some ((bS,()),b)) λ_ _=>none
def k51(n:Nat):OC:=⟨51,⟨P52,K53,false,F51 n⟩,cq [k49 n,k90 n,k92 n,ahd n,adz n] [(51,0,⟨[(36,cW),(0,.box (.cells [.own (.st 6),CU,Km,CU,lD]))],[.slot 3],[],0⟩),(91,0,⟨[(21,cW),(0,aeU)],[.slot 2],[(19,1002003)],0⟩),(158,0,⟨[(0,.one (.own (.st 4))),(10,cW)],[],[(8,0)],0⟩)] n 10 51⟩
def F14:Nat->Y29->Option Y30:=
 λn b=>ak (F46 n (b.1,())) λc=>aj (D.aM (D.aO c.1.1 0)) (some ((bS,2,()),())) (ak (F47 n b.2) λd=>aj (D.aM d.1.1)
 (some ((bS,2,()),())) (aB (av b.1.3 b.1.2) (ak (F48 n ()) λe=>ak (F49 n b.2) λg=>ak (F50 n ((b.1.1,b.1.2,b.1.3,b.1.4,
 [aE.mk 6 0 [] [ax.mk (aN b.1.2 (ah b.1.3) 0) [e.1.1] []]],[0],[],g.1.1,0,()),0,())) λh=>aj (D.aM h.1.2.1) (some
 ((bS,8,()),())) (ak (F51 n h.2) λi=>some ((i.1.1,0,()),())))))
def k14(n:Nat):OC:=⟨14,⟨P54,K55,false,F14 n⟩,cq [k46 n,k47 n,Z3 n,k49 n,k50 n,k51 n] [] n 10 14⟩
def F211:Nat->cr×au×Unit->Option fe:=
 λn b=>aj (D.aO b.2.1.1 1) (ak (F69 n (b.2.1.2,(-1000000000),1000000000,())) λc=>some c) (aj (D.aO b.2.1.1 2) (ak (F69 n (b.2.1.2,0,
 1,())) λc=>some c) (aj (D.aO b.2.1.1 3) (some ((D.aO b.2.1.2 0,()),())) (aj (D.aO b.2.1.1 4) (ak (F69 n (b.2.1.2,0,D.dN .i64 (aq
 b.1.1.2) 1,())) λc=>some c) (aj (D.aO b.2.1.1 5) (ak (F69 n (b.2.1.2,0,D.dN .i64 (aq b.1.2.1) 1,())) λc=>some c) (some ((false,
 ()),()))))))
def ag5(n:Nat):OC:=⟨211,⟨P56,K4,false,F211 n⟩,cq [k69 n] [] n 10 211⟩
def Yx(n:Nat)(e:Int×Unit):fe->Option Ud:=
 λg=>aj (D.aM g.1.1) (some (LO.ret () e)) (some (LO.next (D.add .i64 e.1 1,())))
def Yw(n:Nat)(b:ajk):Option fe:=
 ak (@iter (Int×Unit) (Int×Unit) (Unit) (Any) (λi=>aj (D.bN i.1 (aq b.2.1.3)) (aB (av i.1 b.2.1.3) (ak (F211 n (b.1,aN b.2.1.3 (ah
 i.1) az,())) (Yx n i))) (some (LO.out 0 i))) n (0,())) λi=>LO.el i (λ_ _=>some ((D.aM false,()),())) (λ_ k=>some
 ((D.aM (D.eu 0 k.1),()),())) λ_ _=>none
def Gf(n:Nat):Option fe:=
 some ((false,()),())
def F266:ajj:=
 λn b=>ak (F69 n (b.2.1.1,0,D.dN .i64 (aq b.1.1.1) 1,())) λc=>aj c.1.1 (aj (D.eu (aq b.2.1.2) 30) (aB (av b.2.1.1 b.1.1.1)
 (ak (F173 n (aN b.1.1.1 (ah b.2.1.1) aQ,())) λd=>aj (D.eu (aq b.2.1.3) d.1.1) (ak (@iter (Int×Unit) (Int×Unit) (Unit) (Any)
 (λe=>aj (D.bN e.1 (aq b.2.1.2)) (aB (av e.1 b.2.1.2) (ak (F211 n (b.1,aN b.2.1.2 (ah e.1) az,())) (Yx n e))) (some (LO.out
 0 e))) n (0,())) λe=>LO.el e (λ_ _=>aj (D.aM false) (Yw n b) (Gf n)) (λ_ h=>aj (D.aM (D.eu 0 h.1)) (Yw n b) (Gf
 n)) λ_ _=>none) (Gf n))) (Gf n)) (Gf n)
def amj(n:Nat):OC:=⟨266,⟨P57,K4,false,F266 n⟩,cq [k69 n,adw n,ag5 n] [(294,0,⟨[(8,cW)],[],[],0⟩)] n 10 266⟩
def F267:ajj:=
 λn b=>aB (av b.2.1.1 b.1.1.1) (ak (F173 n (aN b.1.1.1 (ah b.2.1.1) aQ,())) λc=>some ((D.bN (aq b.2.1.3) c.1.1,()),()))
def ami(n:Nat):OC:=⟨267,⟨P57,K4,false,F267 n⟩,cq [adw n] [] n 10 267⟩
def YB(n:Nat)(c:Int×Unit):fe->Option Ud:=
 λd=>aj (D.aM d.1.1) (some (LO.ret () c)) (some (LO.next (D.add .i64 c.1 1,())))
def Qi(b:ae4):List ax:=
 eo b.2.1 0 (Oy 0 (D.dN .i64 (aq b.2.1) b.2.2.1))
def YA(n:Nat)(b:ae4):Option fe:=
 aB (eW 0 (Oy 0 (D.dN .i64 (aq b.2.1) b.2.2.1)) (aq b.2.1)) (ak (@iter (Int×Unit) (Int×Unit) (Unit) (Any) (λg=>aj (D.bN g.1 (aq
 (Qi b))) (aB (av g.1 (Qi b)) (ak (F267 n (b.1,aN (Qi b) (ah g.1) aX,())) (YB n g))) (some (LO.out 0 g))) n (0,()))
 λg=>LO.el g (λ_ _=>some ((D.aM false,()),())) (λ_ i=>some ((D.aM (D.eu 0 i.1),()),())) λ_ _=>none)
def F212:Nat->ae4->Option fe:=
 λn b=>aj (D.eu (aq b.2.1) 40) (ak (@iter (Int×Unit) (Int×Unit) (Unit) (Any) (λc=>aj (D.bN c.1 (aq b.2.1)) (aB (av c.1 b.2.1)
 (ak (F266 n (b.1,aN b.2.1 (ah c.1) aX,())) (YB n c))) (some (LO.out 0 c))) n (0,())) λc=>LO.el c (λ_ _=>aj (D.aM false)
 (YA n b) (some ((false,()),()))) (λ_ e=>aj (D.aM (D.eu 0 e.1)) (YA n b) (some ((false,()),()))) λ_ _=>none) (some ((false,
 ()),()))
def ag4(n:Nat):OC:=⟨212,⟨P58,K4,false,F212 n⟩,cq [amj n,ami n] [(310,0,⟨[(8,cW)],[],[],0⟩)] n 10 212⟩
def Gk(n:Nat):Option fe:=
 some ((false,()),())
def Yz(n:Nat)(b:Y78):Option fe:=
 ak (F212 n (b.1,b.2.1.4,D.dN .i64 1 (aq b.2.1.3),())) λc=>some c
def F213:Y79:=
 λn b=>aj (D.aO b.2.1.2 0) (aj (D.bN 1 (aq b.2.1.3)) (Gk n) (aj (D.aO (aq b.2.1.4) 0) (aj (D.aO (aq b.2.1.3) 0) (Gk n)
 (Yz n b)) (Yz n b))) (aj (D.aO b.2.1.2 1) (aj (D.aO (aq b.2.1.3) 1) (some ((D.aO (aq b.2.1.4) 0,()),())) (Gk n)) (ak (aj
 (D.aO b.2.1.2 2) (some (LO.next (true,()))) (ak (aj (D.aO b.2.1.2 3) (some (LO.next (true,()))) (some (LO.next (D.aO b.2.1.2 4,())))) λ(c :
 FW)=>LO.jn c (λd=>some (LO.next d)) (λ_ _=>none) (λ_ e=>some (LO.ret () e)) λ_ _=>none)) λ(c:FW)=>LO.jn c (λd=>aj
 d.1 (aj (D.aO (aq b.2.1.3) 0) (some ((D.aO (aq b.2.1.4) 0,()),())) (Gk n)) (Gk n)) (λ_ _=>none) (λ_ e=>some (e,())) λ_ _
 =>none))
def amP(n:Nat):OC:=⟨213,⟨P59,K4,false,F213 n⟩,cq [ag4 n] [(213,1000009,⟨[(45,cZ)],[],[],0⟩),(213,1000010,⟨[(45,cZ)],[],[],0⟩)] n 10 213⟩
def j8(n:Nat):Option fe:=
 some ((false,()),())
def YD(n:Nat)(b:Y78):Option fe:=
 aj (D.aO b.2.1.1 1) (aj (D.aO (aq b.2.1.4) 0) (ak (F69 n (b.2.1.2,0,D.dN .i64 (aq b.1.1.4) 1,())) λg=>aj g.1.1 (aB (av b.2.1.2
 b.1.1.4) (some ((D.aO (aq b.2.1.3) (aN b.1.1.4 (ah b.2.1.2) bE).2,()),()))) (j8 n)) (j8 n)) (aj (D.aO b.2.1.1 2) (aj (D.aO
 (aq b.2.1.4) 0) (ak (F69 n (b.2.1.2,0,D.dN .i64 (aq b.1.1.1) 1,())) λg=>aj g.1.1 (aB (av b.2.1.2 b.1.1.1) (aj (D.aO (aN b.1.1.1
 (ah b.2.1.2) aQ).1 5) (some ((D.eu (aq b.2.1.3) 30,()),())) (j8 n))) (j8 n)) (j8 n)) (aj (D.aO b.2.1.1 3) (aj (D.aO (aq
 b.2.1.4) 0) (aj (D.aO b.2.1.2 0) (some ((D.aO (aq b.2.1.3) 1,()),())) (j8 n)) (j8 n)) (aj (D.aO b.2.1.1 4) (aj (D.aO (aq b.2.1.4)
 0) (aj (D.aO b.2.1.2 0) (some ((D.eu (aq b.2.1.3) 4,()),())) (j8 n)) (j8 n)) (aj (D.aO b.2.1.1 5) (aj (D.aO b.2.1.2 0) (aj (D.aO
 (aq b.2.1.3) 0) (aj (D.bN 0 (aq b.2.1.4)) (ak (F212 n (b.1,b.2.1.4,0,())) λg=>aj g.1.1 (aB (av 0 b.2.1.4) (aB (av (aN b.2.1.4
 (ah 0) aX).1 b.1.1.1) (some ((D.aO (aN b.1.1.1 (ah (aN b.2.1.4 (ah 0) aX).1) aQ).1 26,()),())))) (j8 n)) (j8
 n)) (j8 n)) (j8 n)) (aj (D.aO b.2.1.1 6) (ak (F213 n b) λg=>some g) (j8 n))))))
def F163:Y79:=
 λn b=>ak (@iter (Int×Unit) (Int×Unit) (Unit) (Any) (λc=>aj (D.bN c.1 (aq b.2.1.3)) (aB (av c.1 b.2.1.3) (ak (F211 n (b.1,aN
 b.2.1.3 (ah c.1) az,())) λd=>aj (D.aM d.1.1) (some (LO.ret () c)) (some (LO.next (D.add .i64 c.1 1,()))))) (some (LO.out 0 c))) n (0,
 ())) λc=>LO.el c (λ_ _=>aj (D.aM (D.aM false)) (j8 n) (YD n b)) (λ_ e=>aj (D.aM (D.aM (D.eu 0 e.1))) (j8 n)
 (YD n b)) λ_ _=>none
def am7(n:Nat):OC:=⟨163,⟨P59,K4,false,F163 n⟩,cq [k69 n,ag5 n,ag4 n,amP n] [(294,0,⟨[(8,cW)],[],[],0⟩)] n 10 163⟩
def Gl(b:cr×Unit)(c:ai9):Int:=
 aN b.1.2.2 (ah c.1) 0
def KF(n:Nat)(j:Int×Unit):Option Ud:=
 some (LO.next (D.add .i64 j.1 1,()))
def YC(n:Nat):Ud->Option fe:=
 λj=>LO.el j (λ_ _=>some ((D.aM false,()),())) (λ_ l=>some ((D.aM (D.eu 0 l.1),()),())) λ_ _=>none
def F164:ajd:=
 λn b=>ak (@iter (ai9) (Bool×Unit) (List (Int×Bool)×Unit) (Any) (λc=>aj (D.bN c.1 (aq b.1.2.2)) (aB (av c.1 b.1.2.2) (ak (F69
 n (Gl b c,0,D.dN .i64 (aq b.1.2.1) 1,())) λd=>aj (D.aM d.1.1) (some (LO.ret c.2 (false,()))) (aB (av (Gl b c) b.1.2.1) (aj
 (D.aM (D.aO (aN b.1.2.1 (ah (Gl b c)) aR).1 6)) (some (LO.ret c.2 (false,()))) (aj (KV (A:=sg.A) (Ty.int .i64) false (Gl b c)
 c.2.1) (some (LO.ret c.2 (false,()))) (some (LO.next (D.add .i64 c.1 1,n3 (A:=sg.A) (Ty.int .i64) (Gl b c) true c.2.1,())))))))) (some
 (LO.out 0 c))) n (0,[],())) λc=>LO.el c (λ_ e=>ak (@iter (Int×(List Int×Unit)×Unit) (Unit) (Y18) (Any) (λg=>aj (D.bN g.1
 (aq b.1.2.1)) (aB (cY g.2.1.1 [g.1]) (some (LO.next (D.add .i64 g.1 1,(cM g.2.1.1 [g.1],()),())))) (some (LO.out 0 g))) n (0,([],()),()))
 λg=>LO.el g (λ_ i=>ak (@iter (Int×Unit) (Int×Unit) (Unit) (Any) (λj=>aj (D.bN j.1 (aq i.2.1.1)) (aB (av j.1 i.2.1.1) (aB
 (cw (ah j.1) i.2.1.1) (aj (KV (A:=sg.A) (Ty.int .i64) false (aN i.2.1.1 (ah j.1) 0) e.2.1) (KF n j) (aB (av (aN i.2.1.1 (ah j.1)
 0) b.1.2.1) (aj (D.aM (D.aM (D.aO (aN b.1.2.1 (ah (aN i.2.1.1 (ah j.1) 0)) aR).1 6))) (some (LO.ret () j)) (KF n j)))))) (some
 (LO.out 0 j))) n (0,())) (YC n)) (λh _=>ak (@iter (Int×Unit) (Int×Unit) (Unit) (Any) (λj=>aj (D.bN j.1 (aq h.1.1)) (aB (av
 j.1 h.1.1) (aB (cw (ah j.1) h.1.1) (aj (KV (A:=sg.A) (Ty.int .i64) false (aN h.1.1 (ah j.1) 0) e.2.1) (KF n j) (aB (av (aN h.1.1
 (ah j.1) 0) b.1.2.1) (aj (D.aM (D.aM (D.aO (aN b.1.2.1 (ah (aN h.1.1 (ah j.1) 0)) aR).1 6))) (some (LO.ret () j)) (KF n j))))))
 (some (LO.out 0 j))) n (0,())) (YC n)) λ_ _=>none) (λ_ e=>some (e,())) λ_ _=>none
def am6(n:Nat):OC:=⟨164,⟨P60,K4,false,F164 n⟩,cq [k69 n] [(164,0,⟨[(13,cW),(0,.box (.map (.int .i64) (.bool)))],[.cell (.slot 3) 0],[],0⟩),(207,0,⟨[(8,cW)],[],[],0⟩),(269,0,⟨[(5,cW),(0,aeR)],[.rnd (.slot 0) 2],[],0⟩)] n 10 164⟩
def F166:Nat->dW×Unit->Option fe:=
 λn b=>ak (F69 n (b.1.1,0,3,())) λc=>aj c.1.1 (ak (F69 n (b.1.2,(-1000000000),1000000000,())) λd=>some d) (some ((false,()),
 ()))
def am5(n:Nat):OC:=⟨166,⟨P61,K4,false,F166 n⟩,cq [k69 n] [] n 10 166⟩
def CB(n:Nat):Option fe:=
 some ((false,()),())
def acq(n:Nat)(b:cr×Unit):Option fe:=
 ak (F47 n (b.1.2.4,())) λk=>aj k.1.1 (ak (F69 n (b.1.2.5,0,1000000000,())) λl=>some l) (CB n)
def acp(n:Nat)(b:cr×Unit):Option fe:=
 ak (F164 n b) λg=>aj g.1.1 (aj (D.eu (aq b.1.2.3) 100) (ak (@iter (Int×Unit) (Int×Unit) (Unit) (Any) (λh=>aj (D.bN h.1 (aq
 b.1.2.3)) (aB (av h.1 b.1.2.3) (ak (F166 n (aN b.1.2.3 (ah h.1) lT,())) λi=>aj (D.aM i.1.1) (some (LO.ret () h)) (some (LO.next
 (D.add .i64 h.1 1,()))))) (some (LO.out 0 h))) n (0,())) λh=>LO.el h (λ_ _=>aj (D.aM false) (acq n b) (CB n)) (λ_ j=>aj
 (D.aM (D.eu 0 j.1)) (acq n b) (CB n)) λ_ _=>none) (CB n)) (CB n)
def F99:ajd:=
 λn b=>aj (D.eu (aq b.1.2.1) 120) (ak (@iter (Int×Unit) (Int×Unit) (Unit) (Any) (λc=>aj (D.bN c.1 (aq b.1.2.1)) (aB (av c.1
 b.1.2.1) (ak (F163 n (b.1,aN b.1.2.1 (ah c.1) aR,())) λd=>aj (D.aM d.1.1) (some (LO.ret () c)) (some (LO.next (D.add .i64 c.1 1,
 ()))))) (some (LO.out 0 c))) n (0,())) λc=>LO.el c (λ_ _=>aj (D.aM false) (acp n b) (CB n)) (λ_ e=>aj (D.aM (D.eu 0 e.1))
 (acp n b) (CB n)) λ_ _=>none) (CB n)
def k99(n:Nat):OC:=⟨99,⟨P60,K4,false,F99 n⟩,cq [k47 n,k69 n,am7 n,am6 n,am5 n] [(262,0,⟨[(8,cW)],[],[],0⟩),(270,0,⟨[(8,cW)],[],[],0⟩)] n 10 99⟩
def F110:Nat->cr×Int×Unit->Dv:=
 λn b=>ak (F70 n ((b.1.1.1,b.1.1.2,b.1.1.3,b.1.1.4,b.1.2.1,b.1.2.2,b.1.2.3,b.1.2.4,b.1.2.5,()),b.2)) λc=>ak (F71 n c.1) λd=>
 some d
def anA(n:Nat):OC:=⟨110,⟨P62,K2,false,F110 n⟩,cq [k70 n,k71 n] [] n 10 110⟩
def F68:Nat->Y2×Unit->Option ((List Int×Unit)×Y2×Unit):=
 λn b=>ak (@iter (N7) (List Int×Unit) (Unit) (Any) (λc=>aj (D.bN c.2.1 (aq b.1.2.2.2.2.2.1)) (ak (F110 n (cr.mk (aG.mk
 b.1.1 b.1.2.1 b.1.2.2.1 b.1.2.2.2.1) (ai.mk b.1.2.2.2.2.1 b.1.2.2.2.2.2.1 b.1.2.2.2.2.2.2.1 b.1.2.2.2.2.2.2.2.1 b.1.2.2.2.2.2.2.2.2.1),c.2))
 λd=>aj (D.aM (D.aO d.1.1 2)) (aB (cY c.1 [c.2.1]) (some (LO.next (cM c.1 [c.2.1],D.add .i64 c.2.1 1,())))) (some (LO.next (c.1,D.add .i64
 c.2.1 1,())))) (some (LO.out 0 c))) n ([],0,())) λc=>LO.el c (λ_ e=>some ((e.1,()),b)) (λ_ e=>some (e,b)) λ_ _=>none
def k68(n:Nat):OC:=⟨68,⟨P52,K63,false,F68 n⟩,cq [anA n] [(68,0,⟨[(3,.one (.own (.int .i64))),(11,cW)],[],[],0⟩)] n 10 68⟩
def F335:Nat->iy×Unit->Option Y39:=
 λn _=>some ((aZ,()),())
def al0(n:Nat):OC:=⟨335,⟨aqs,K24,false,F335 n⟩,cq [] [] n 10 335⟩
def F336:Nat->gB×Unit->Option Y39:=
 λn b=>some ((b.1.1,()),())
def alZ(n:Nat):OC:=⟨336,⟨aqr,K24,false,F336 n⟩,cq [] [] n 10 336⟩
def F337:Nat->jf×Unit->Option Y39:=
 λn _=>some ((aZ,()),())
def alY(n:Nat):OC:=⟨337,⟨aqq,K24,false,F337 n⟩,cq [] [] n 10 337⟩
def Ym(n:Nat)(c:afd):afc:=
 some ((aZ,0,8,()),c.2)
def CE:List (Nat×Ty):=
 [(170,Ty.st 12),(173,Ty.st 13),(175,Ty.st 14),(181,Ty.st 15)]
def Sa(n:Nat)(i:afd):Y39->afc:=
 λj=>some ((j.1.1,i.1.1,0,()),i.2)
def F59:Nat->Y2×Int×Unit->afc:=
 λn b=>ak (F50 n (b.1,0,())) λc=>aj (D.aM c.1.2.1) (Ym n c) (ak (F68 n c.2) λd=>aj (D.aO (aq d.1.1) 0) (some ((aZ,
 0,5,()),d.2)) (aB (nzI (aq d.1.1)) (ak (aj (D.bN (D.rem b.2.1 (aq d.1.1)) 0) (some (LO.next (D.add .i64 (D.rem b.2.1 (aq d.1.1)) (aq
 d.1.1),true,()))) (some (LO.next (D.rem b.2.1 (aq d.1.1),false,())))) λ(e:LO (Int×Bool×Unit) (Int×Int×Unit) Unit Any)=>LO.jn e
 (λg=>aB (av g.1 d.1.1) (ak (F70 n (d.2.1,aN d.1.1 (ah g.1) 0,())) λh=>ak (F50 n (h.2.1,D.add .i64 c.1.1 1,())) λi=>aj
 (D.aM i.1.2.1) (Ym n i) (aj (D.bN 5000 i.1.1) (Ym n i) (aj (iI CE 0 (eM 16 h.1.1)) (ak (F335 n (jE (Sg.zero sg) CE 0 (eM
 16 h.1.1),())) (Sa n i)) (aj (iI CE 1 (eM 16 h.1.1)) (ak (F336 n (jE (Sg.zero sg) CE 1 (eM 16 h.1.1),())) (Sa n i)) (aj
 (iI CE 2 (eM 16 h.1.1)) (ak (F114 n (jE (Sg.zero sg) CE 2 (eM 16 h.1.1),())) (Sa n i)) (aj (iI CE 3 (eM 16 h.1.1))
 (ak (F337 n (jE (Sg.zero sg) CE 3 (eM 16 h.1.1),())) (Sa n i)) none))))))) (λ_ _=>none) (λ_ h=>some ((aZ,h),d.2))
 λ_ _=>none)))
def k59(n:Nat):OC:=⟨59,⟨P46,K64,false,F59 n⟩,cq [k50 n,k68 n,k70 n,ahg n,al0 n,alZ n,alY n] [(59,1000009,⟨[(10,cW),(31,cZ)],[],[],0⟩)] n 10 59⟩
def Yy(n:Nat):Option Y80:=
 some ((bS,[],2,()),())
def F21:ajD:=
 λn b=>ak (F46 n (b.1,())) λc=>aj (D.aM (D.aO c.1.1 0)) (Yy n) (ak (F99 n (cr.mk b.1 b.2.1,())) λd=>aj (D.aM d.1.1)
 (Yy n) (aj (D.bN 200 (aq b.2.2.1)) (Yy n) (ak (F50 n ((b.1.1,b.1.2,b.1.3,b.1.4,b.2.1.1,b.2.1.2,b.2.1.3,b.2.1.4,b.2.1.5,()),0,()))
 λe=>aj (D.aM e.1.2.1) (some ((bS,[],8,()),())) (ak (@iter (List aS×Int×ua×Y2×Unit) (ajC) (ua×Y2×Unit) (Any)
 (λg=>aj (D.bN g.2.1 (aq b.2.2.1)) (aB (av g.2.1 b.2.2.1) (ak (F59 n (g.2.2.2.1,aN b.2.2.1 (ah g.2.1) 0,())) λh=>aj (D.aO
 h.1.2.2.1 5) (some (LO.out 0 (g.1,g.2.1,([],[],[],[],g.2.2.1.2.2.2.2),h.2))) (aj (D.aM (D.aO h.1.2.2.1 0)) (some (LO.ret (([],[],[],[],
 0,()),h.2) ([],h.1.2.2))) (aB (cY g.1 [h.1.1]) (some (LO.next (cM g.1 [h.1.1],D.add .i64 g.2.1 1,([],[],[],[],g.2.2.1.2.2.2.2),
 h.2))))))) (some (LO.out 0 (g.1,g.2.1,([],[],[],[],g.2.2.1.2.2.2.2),g.2.2.2)))) n ([],0,([],[],[],[],0,()),e.2)) λg=>LO.el g (λ_
 i=>ak (F51 n i.2.2.2) λj=>some ((j.1.1,i.1,0,()),())) (λh i=>some ((ai.mk [] [] [] [] h.1.2.2.2.2.1,i),())) λ_ _=>
 none))))
def k21(n:Nat):OC:=⟨21,⟨P65,K66,false,F21 n⟩,cq [k46 n,k50 n,k51 n,k59 n,k99 n] [(21,0,⟨[(13,.one (.own (.st 9))),(43,cW),(0,.box (.cells [.nil (.st 6),.nil (.int .i64),.nil (.st 7),.nil (.int .i64),lD])),(0,b2z)],[.slot 6,.slot 23],[],0⟩)] n 10 21⟩
def F25:ae7:=
 λn b=>some ((au.mk 1 b.1,()),())
def k25(n:Nat):OC:=⟨25,⟨P11,K17,false,F25 n⟩,cq [] [] n 10 25⟩
end Mn
end
end
