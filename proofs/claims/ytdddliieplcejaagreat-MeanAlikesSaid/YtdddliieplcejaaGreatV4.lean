import Derived.Laws.StructEq
import Derived.Room.BridgeHanded
import Derived.DataElems
import Derived.WideKeyArgs
import Derived.SizedLaws
import Derived.RowKit3
import Derived.Test.YtdddliieplcejaaGreatProg
import Derived.KernelRfl
import Derived.Test.YtdddliieplcejaaGreatV3
set_option linter.all false
set_option maxRecDepth 100000
set_option maxHeartbeats 0
noncomputable section
open Option renaming some->Z,none->Y
open Bool renaming true->W,false->J
section
namespace TL
open Go
variable {S:Sg}
section
variable {o:Op}{ops:List Oper}{v a:V S}{b:Bool}{x y r r':oC S}{args:List (V S)}
section
variable {fr fr':bI S}{s s':aW S}
def oR:∀{l:L Operand},(∀x∈l,bT fr x=bT fr' x)->jw fr l=jw fr' l
 |[],_=>rfl
 |x::l,h=>by simp only[jw,h x dX,oR λy a=>h y (gl _ a)]
def jk:∀{l:L (Nat×Operand)},(∀x∈l.map (·.2),bT fr x=bT fr' x)->gW fr l=gW fr' l
 |[],_=>rfl
 |(k,x)::l,h=>by simp only[gW,h x (by simp),jk λy a=>h y (by simp at a ⊢;exact .inr a)]
def vW:∀{x:O Operand},(∀y∈x.toList,bT fr y=bT fr' y)->GQ fr x=GQ fr' x
 |none,_=>rfl
 |some x,h=>by simp only[GQ,h x (by simp)]
def Lv(E:fX)(s:aW S)(o:Op)(h:∀x∈o.operands.toList,bT fr x=bT fr' x):bV E fr s o=bV E fr' s o:=by
 cases o with
 |buildSlice t n c=>simp only[Op.operands]at h;simp only[bV,jk (fr:=fr) (fr':=fr') (l:=c.toList) (by simpa using h)]
 |build t c=>simp only[Op.operands]at h;simp only[bV,jk (fr:=fr) (fr':=fr') (l:=c.toList) (by simpa using h)]
 |makeFunc f a b=>simp only[Op.operands,Ej,dy]at h;simp only[bV,oR (l:=a.toList) λx d=>h x (.inl d),oR (l:=b.toList) λx d=>h x (.inr d)]
 |slice t x l e m=>
  simp only[Op.operands,Ej,dy,Option.toArray]at h;simp only[bV,h x (by simp),vW (fr:=fr) (fr':=fr') (x:=l) λy g=>h y (by cases l<;>simp_all),
   vW (fr:=fr) (fr':=fr') (x:=e) λy g=>h y (by cases e<;>simp_all),vW (fr:=fr) (fr':=fr') (x:=m) λy g=>h y (by cases m<;>simp_all)]
 |alloc=>rfl
 |box t x=>simp[Op.operands]at h;simp only[bV,h]
 |move x=>simp[Op.operands]at h;simp only[bV,h]
 |assign x=>simp[Op.operands]at h;simp only[bV,h]
 |pick x y z=>simp[Op.operands]at h;simp only[bV,h]
 |load t x=>simp[Op.operands]at h;simp only[bV,h]
 |store t x y=>simp[Op.operands]at h;simp only[bV,h]
 |nilCheck x=>simp[Op.operands]at h;simp only[bV,h]
 |binOp op t x y u=>simp[Op.operands]at h;simp only[bV,h]
 |unOp op t x=>simp[Op.operands]at h;simp only[bV,h]
 |convert t u x=>simp[Op.operands]at h;simp only[bV,h]
 |makeInterface t x=>simp[Op.operands]at h;simp only[bV,h]
 |extract x k=>simp[Op.operands]at h;simp only[bV,h]
 |fieldAddr t x k=>simp[Op.operands]at h;simp only[bV,h]
 |field t x k=>simp[Op.operands]at h;simp only[bV,h]
 |indexAddr t x k=>simp[Op.operands]at h;simp only[bV,h]
 |index t x k=>simp[Op.operands]at h;simp only[bV,h]
 |typeAssert x t u ok=>simp[Op.operands]at h;simp only[bV,h]
 |_=>rfl
def Jz:∀{x:O Operand},(∀y∈x.toList,bT fr y=bT fr' y)->JA fr x=JA fr' x
 |none,_=>rfl
 |some x,h=>by simp only[JA,h x (by simp)]
def Pz(E:fX)(s:aW S)(o:Op)(h:∀x∈o.operands.toList,bT fr x=bT fr' x):qm E fr s o=qm E fr' s o:=by
 cases o with
 |makeMap t r=>simp only[qm,Jz (fr:=fr) (fr':=fr') (x:=r) λy f=>h y (by cases r<;>simp_all [Op.operands])]
 |lookup t x b ok=>simp[Op.operands]at h;simp only[qm,h]
 |mapUpdate t x b y=>simp[Op.operands]at h;simp only[qm,h]
 |insert t x b y=>simp[Op.operands]at h;simp only[qm,h]
 |makeSlice t n c=>simp[Op.operands]at h;simp only[qm,h]
 |range t x=>simp[Op.operands]at h;simp only[qm,h]
 |nilCheck x=>simp[Op.operands]at h;simp only[qm,h]
 |typeAssert x t u ok=>simp[Op.operands]at h;simp only[qm,h]
 |build t e=>simp only[Op.operands]at h;simp only[qm,jk (fr:=fr) (fr':=fr') (l:=e.toList) (by simpa using h)]
 |binOp op t x y u=>
  have d:bT fr x=bT fr' x:=h x (by simp[Op.operands]);cases op<;>first
   |rfl
   |(
     cases y with
     |const v=>
      cases v with
      |nilIface=>simp only[qm,d]
      |slice a n m=>cases a<;>cases n<;>cases m<;>first|rfl|simp only[qm,d]
      |_=>rfl
     |_=>rfl)
 |_=>rfl
def PC(E:fX)(s:aW S)(o:Op)(h:∀x∈o.operands.toList,bT fr x=bT fr' x):yG E fr s o=yG E fr' s o:=by
 cases o with
 |indexAddr t x e=>simp[Op.operands]at h;simp only[yG,h]
 |load t a=>simp[Op.operands]at h;simp only[yG,h]
 |store t a x=>
  simp[Op.operands]at h;cases x with|tmp k=>have h2:fr.get k=fr'.get k:=h.2;simp only[yG,h.1,h2]|_=>rfl
 |buildSlice t n d=>
  simp only[yG];split
  .rename_i b c;have h2:fr.get b=fr'.get b:=h (.tmp b) (by
    have:(Op.buildSlice t n d).operands.toList=d.toList.map (·.2):=by simp[Op.operands]
    rw[this,c];simp)
   simp only[h2]
  .rfl
  .rfl
 |_=>rfl
def Fh(E:fX)(s:aW S)(o:Op)(h:∀x∈o.operands.toList,bT fr x=bT fr' x):w8 E fr s o=w8 E fr' s o:=by unfold w8;rw[PC E s o h,Lv E s o h,Pz E s o h]
def Fi(E:fX)(s:aW S)(o:Op)(h:∀x∈o.operands.toList,bT fr x=bT fr' x):Fj E fr s o=Fj E fr' s o:=by
 cases o with
 |next c b=>simp[Op.operands]at h;cases b<;>first|rfl|simp only[Fj,h]
 |lookup t x a ok=>simp[Op.operands]at h;simp only[Fj,h]
 |index t x a=>simp[Op.operands]at h;simp only[Fj,h]
 |_=>rfl
def za{c:Call}(h:∀x∈c.operands.toList,bT fr x=bT fr' x):jw fr c.args.toList=jw fr' c.args.toList∧(∀f,c.callee=.value f->bT fr f=bT fr' f)∧∀x m,c.callee=.invoke x m->bT fr x=bT fr' x:=by simp only[Call.operands,Ej,dy]at h;exact⟨oR λx a=>h x (.inr a),λf b=>h f (.inl (by rw[b];simp)),λx m a=>h x (.inl (by rw[a];simp))⟩
def xG(E:fA S)(call:gm S)(o:Oper)(s:aW S){ω:Type}(kp:V S->aW S->O ω)(k:V S->aW S->L Nat->O ω)(h:∀x∈o.op.operands.toList,bT fr x=bT fr' x) :
  rD E call o fr s kp k=rD E call o fr' s kp k:=by
 unfold rD;have a:=Fh E.T s o.op h;have d:=Fi E.T s o.op h;cases g:o.op with
 |call c=>
  rw[g]at h;simp only[Op.operands]at h;obtain⟨h1,h2,h3⟩:=za h;dsimp only;rw[h1];cases e:c.callee with|value f=>simp only[h2 f e]|builtin b=>rfl|invoke x m=>simp only[h3 x m e]
 |panic x=>rw[g]at h;simp[Op.operands]at h;simp only[h]
 |_=>rw[g]at a d;simp only[a,d]
def gJ(E:fA S)(g:O Bool)(o:Oper)(s:aW S){ω:Type}(k:V S->O ω)(h:∀x∈o.op.operands.toList,bT fr x=bT fr' x) :
  ek E g fr s o k=ek E g fr' s o k:=by
 unfold ek;have a:=Fh E.T s o.op h;have d:=Fi E.T s o.op h;cases e:o.op with
 |call c=>
  rw[e]at h;simp only[Op.operands]at h;obtain⟨h1,h2,h3⟩:=za h;dsimp only;rw[h1];cases i:c.callee with|value f=>simp only[h2 f i]|builtin b=>rfl|invoke=>rfl
 |buildSlice t n j=>rw[e]at h a;simp only[Op.operands]at h;simp only[a,jk (fr:=fr) (fr':=fr') (l:=j.toList) (by simpa using h)]
 |slice t x l p m=>rw[e]at h a;simp only[a,h x (by simp[Op.operands])]
 |_=>first|rfl|(rw[e]at a d;simp only[a,d])
def GI(E:fA S)(o:Oper)(h:∀x∈o.op.operands.toList,bT fr x=bT fr' x):yz E fr o=yz E fr' o:=by
 unfold yz;cases a:o.op with
 |call c=>
  rw[a]at h;simp only[Op.operands]at h;obtain⟨h1,h2,h3⟩:=za h;dsimp only;rw[h1];cases d:c.callee with|value f=>simp only[h2 f d]|builtin b=>rfl|invoke=>rfl
 |buildSlice t n e=>rw[a]at h;simp only[Op.operands]at h;simp only[jk (fr:=fr) (fr':=fr') (l:=e.toList) (by simpa using h)]
 |slice t x l g m=>rw[a]at h;simp only[h x (by simp[Op.operands])]
 |_=>rfl
def tmpsOf(o:Op):L Nat:=o.operands.toList.filterMap λx=>match x with|.tmp k=>Z k|_=>Y
def g8(h:∀k∈tmpsOf o,fr.get k=fr'.get k):∀x∈o.operands.toList,bT fr x=bT fr' x:=by intro x a;cases x with|tmp k=>exact h k (uE.2 ⟨.tmp k,a,rfl⟩)|_=>rfl
def oW(e:∀k∈tmpsOf o,k<bg)(h:∀k∈tmpsOf o,fr.get k=fr'.get k):∀k∈tmpsOf o,(mg fr o).get k=(mg fr' o).get k:=by
 unfold mg;have key:∀(l:L Operand)(f c:bI S),(∀k,.tmp k∈l->k∈tmpsOf o)->(∀k∈tmpsOf o,f.get k=c.get k)->∀k∈tmpsOf o,
   (l.foldl (λf x=>match x with
    | .tmp k=>match fr.get k with
     |some (.gd _ v)=>f.put k v
     |_=>f
    |_=>f) f).get k=(l.foldl (λf x=>match x with
    | .tmp k=>match fr'.get k with
     |some (.gd _ v)=>f.put k v
     |_=>f
    |_=>f) c).get k:=by
  intro l
  induction l with
  |nil=>intro f c _ b k a;exact b k a
  |cons x l i=>
   intro f c g b k a;simp only[zF];refine i _ _ (λk a=>g k (gl _ a)) (λk a=>?_) k a;cases x with
   |tmp j=>
    have d:=g j dX;simp only[<-h j d];split
    .rw[bI.ie _ _ _ _ (e j d),bI.ie _ _ _ _ (e j d),b k a]
    .exact b k a
   |_=>exact b k a
 exact key _ _ _ (λk a=>uE.2 ⟨.tmp k,a,rfl⟩) h
def rA(c:Bool)(h:∀k∈tmpsOf o,fr.get k=fr'.get k):Hx c fr o=Hx c fr' o:=by
 unfold Hx;have key:∀(l:L Operand)(q:Bool),(∀k,.tmp k∈l->k∈tmpsOf o)->
   l.foldl (λp x=>match x with
    | .tmp k=>match fr.get k with
     |some (.gd g _)=>p&&imp c g
     |_=>p
    |_=>p) q=l.foldl (λp x=>match x with
    | .tmp k=>match fr'.get k with
     |some (.gd g _)=>p&&imp c g
     |_=>p
    |_=>p) q:=by
  intro l
  induction l with
  |nil=>intro q _;rfl
  |cons x l f=>
   intro q b;have d:∀j,x=.tmp j->fr.get j=fr'.get j:=λj d=>h j (b j (d▸dX));have a:∀k,.tmp k∈l->k∈tmpsOf o:=λk e=>b k (gl _ e);clear b;simp only[zF];cases x with|tmp j=>simp only[<-d j rfl];exact f _ a|_=>exact f _ a
 exact key _ _ (λk e=>uE.2 ⟨.tmp k,e,rfl⟩)
def me(ops:L Oper)(o:Oper):O Nat:=match o.guard with
 |none=>Y
 |some (j,_)=>(nth ops j).bind (·.dst)
def nc{o:Oper}(h:∀k,me ops o=Z k->fr.get k=fr'.get k):gI ops fr o=gI ops fr' o:=by
 unfold gI;cases b:o.guard with
 |none=>rfl
 |some p=>
  obtain⟨j,a⟩:=p;dsimp only;cases c:(nth ops j).bind (·.dst)with|none=>rfl|some k=>simp only[GJ];rw[h k (by simp only[me,b,c])]
def oN{o:Oper}(h:∀k,me ops o=Z k->fr.get k=fr'.get k):rW ops fr o=rW ops fr' o:=by
 unfold rW;cases b:o.guard with
 |none=>rfl
 |some p=>
  obtain⟨j,a⟩:=p;dsimp only;cases c:(nth ops j).bind (·.dst)with|none=>rfl|some k=>simp only[GJ];rw[h k (by simp only[me,b,c])]
def Et(E:fA S)(call:gm S){o:Oper}(s:aW S){ω:Type}(kp:V S->aW S->O ω)(k:V S->aW S->L Nat->O ω)(hn:fr.n=fr'.n)(b:∀k∈tmpsOf o.op,k<bg)
  (h:∀k∈tmpsOf o.op,fr.get k=fr'.get k) (a:∀k,me ops o=Z k->fr.get k=fr'.get k):lQ E call ops o fr s kp k=lQ E call ops o fr' s kp k:=by
 unfold lQ;have h1:fM fr o.dst=fM fr' o.dst:=by cases o.dst<;>simp only[fM,hn]
 have h2:=g8 h;have h3:=g8 (oW b h);rw[h1,nc a,oN a];simp only[xG E call o s kp k h2,xG E call o s kp k h3,GI E o h3,rA (o:=o.op) _ h];have h4:∀c,ek E (Z c) (mg fr o.op) s o (λt=>k (.gd c t) s [])=ek E (Z c) (mg fr' o.op) s o (λt=>k (.gd c t) s []):=λc=>gJ E _ o s _ h3;simp only[h4]
end
def Dy{ω:Type}(k:V S->O ω){D:O ω}{a:O (V S)}(h:D=a.bind k):∀l:L (Bool×V S×aW S),r9 k D l=(r9 Z a l).bind k
 |[]=>h
 |p::l=>by simp only[r9,Dy k h l];cases p.1<;>rfl
def xE(E:fA S)(g:O Bool)(fr:bI S)(s:aW S)(o:Oper){ω:Type}(k:V S->O ω):ek E g fr s o k=(ek E g fr s o Z).bind k:=by
 have a:∀(p:Bool)(t:V S),wh g p (k t)=(wh g p (Z t)).bind k:=by
  intro p t;cases g with
  |none=>cases p<;>rfl
  |some c=>cases c<;>cases p<;>rfl
 unfold ek;split
 .split
  .rfl
  .split
   .rename_i b _;cases wV b with
    |false=>rfl
    |true=>
     simp only[cn];split
     .exact a _ _
     .rfl
   .split
    .rfl
    .split
     .rfl
     .rename_i c _;cases(bN c.ps&&(iE c.rs&&(iu _&&!c.pn)))with
      |false=>rfl
      |true=>
       simp only[cn];split
       .unfold af;split
        .rename_i r _;dsimp only;generalize RT.res c.pn r=q;cases q<;>rfl
        .rfl
       .rfl
   .rfl
 iterate 11
  .rfl
 .split
  .rename_i l _;cases iu (l.map (·.2))with
   |false=>rfl
   |true=>
    simp only[cn];split
    .rfl
    .exact a _ _
  .rfl
 .split
  .rename_i v _;cases qq v with
   |false=>rfl
   |true=>
    simp only[cn];split
    .rfl
    .exact a _ _
  .rfl
 .split
  .exact Dy k (a _ _) _
  .split
   .rfl
   .exact a _ _
def Sm(s s':aW S)(v:V S):Prop:=∀o,bQ (Nat.beq o) v=W->s'.ob.get o=s.ob.get o
def Sms(s s':aW S)(l:L (V S)):Prop:=∀o,gH (Nat.beq o) l=W->s'.ob.get o=s.ob.get o
def Sms.cons{s s':aW S}{l:L (V S)}(h:Sms s s' (v::l)):Sm s s' v∧Sms s s' l:=
 ⟨λo a=>h o (by simp[gH,a]),λo a=>h o (by simp[gH,a])⟩
def yu{s s':aW S}(h:Sm s s' v)(e:Ty):Gt s' e v=Gt s e v:=by
 cases v with
 |sh o r=>simp only[Gt,h o (by simp[bQ])]
 |ty t x=>cases t<;>rfl
 |_=>rfl
def Ox{s s':aW S}{o:Nat}(h:s'.ob.get o=s.ob.get o)(e:Nat):HQ s' o e=HQ s o e:=by simp only[HQ,h]
mutual
def wI{s s':aW S}:∀(t:Ty)(v:V S),Sm s s' v->qq v=W->bH s' t v=bH s t v
 |t,.agg b,h,a=>by cases t with|st n=>simp only[bH,It (S.fs n) b h a]|_=>simp only[bH]
 |t,.cE u v,h,a=>by
  cases t with
  |cE n=>
   simp only[bH];cases oA (S.alts n) u with|none=>rfl|some i=>simp only[wI (kV (S.alts n) i) v h a]
  |_=>simp only[bH]
 |t,.sh o r,_,a=>by simp[qq]at a
 |t,.pL _ _ _ _,_,a=>by simp[qq]at a
 |t,.nk _ _ _,_,_=>by cases t<;>simp only[bH]
 |t,.ty _ _,_,_=>by simp only[bH]
 |t,.kb _,_,_=>by cases t<;>simp only[bH]
 |t,.kn _ _,_,_=>by cases t<;>simp only[bH]
 |t,.dat d,_,_=>by
  cases t with
  |cE n=>
   cases d with
   |lit v=>cases v<;>simp only[bH]
   |_=>simp only[bH]
  |_=>simp only[bH]
 |t,.ptr _ _,_,_=>by cases t<;>simp only[bH]
 |t,.lR _ _ _,_,_=>by cases t<;>simp only[bH]
 |t,.jV _ _ _ _,_,_=>by cases t<;>simp only[bH]
 |t,.emp,_,_=>by cases t<;>simp only[bH]
 |t,.ja _ _ _,_,_=>by cases t<;>simp only[bH]
 |t,.fn _ _ _,_,_=>by cases t<;>simp only[bH]
 |t,.fQ _,_,_=>by cases t<;>simp only[bH]
 |t,.gd _ _,_,_=>by cases t<;>simp only[bH]
 |t,.mp _,_,_=>by cases t<;>simp only[bH]
 |t,.pz _,_,_=>by cases t<;>simp only[bH]
 |t,.qF _,_,_=>by cases t<;>simp only[bH]
 |t,.ub _,_,_=>by cases t<;>simp only[bH]
def It{s s':aW S}:∀(ts:L Ty)(l:L (V S)),Sms s s' l->iu l=W->lW s' ts l=lW s ts l
 |[],[],_,_=>rfl
 |t::ts,v::l,h,a=>by simp only[iu,dI]at a;simp only[lW,wI t v h.cons.1 a.1,It ts l h.cons.2 a.2]
 |[],_::_,_,_=>rfl
 |_::_,[],_,_=>rfl
end
def fE(r:oC S):O (Bool×V S):=match r with
 |some (c,t,_)=>Z (c,t)
 |none=>Y
def nD(h:b=W->fE x=fE y):fE (bif b then x else Y)=fE (bif b then y else Y):=by cases b with|true=>exact h rfl|false=>rfl
def Mr{x' a:oC S}(h:fE x=fE x')(c:fE y=fE a):fE (bif b then x else y)=fE (bif b then x' else a):=by cases b with|true=>exact h|false=>exact c
def fD{α:Type}(x:O α)(f g:α->Bool×V S×aW S)(h:∀a,(f a).1=(g a).1∧(f a).2.1=(g a).2.1):fE (x.map f)=fE (x.map g):=by cases x with|none=>rfl|some a=>simp only[fE,dG,(h a).1,(h a).2]
section
variable {fr:bI S}{s s':aW S}
def SI(i:TI)(τ:O Ty)(h:Sm s s' a):fE (u0 i τ s' a)=fE (u0 i τ s a):=by
 cases a with
 |ptr o off=>
  simp only[u0,h o (by simp[bQ])];cases s.ob.get o with
  |none=>rfl
  |some ob=>
   cases ob with
   |box b=>
    dsimp only;cases Nat.beq (bU ((b.drop off).take i.size)) i.size with|false=>rfl|true=>exact fD _ _ _ λ_=>⟨rfl,rfl⟩
   |_=>rfl
 |lR t x off=>exact fD _ _ _ λ_=>⟨rfl,rfl⟩
 |jV o e k off=>
  simp only[u0,Ox (h o (by simp[bQ]))];cases HQ s o e with|none=>rfl|some x=>exact fD _ _ _ λ_=>⟨rfl,rfl⟩
 |_=>rfl
def Em(i:TI)(τ:O Ty){b:V S}(h:Sm s s' a):fE (iV i τ s' a b)=fE (iV i τ s a b):=by
 unfold iV;split
 .rename_i e n c _;cases a with
  |sh o r=>
   simp only[Ox (h o (by simp[bQ]))];cases HQ s o r with|none=>rfl|some x=>dsimp only;cases qI x.1 e<;>rfl
  |ty t x=>dsimp only;rw[yu h];cases Gt s e (.ty t x)<;>rfl
  |emp=>rfl
  |ja n t l=>dsimp only;rw[yu h];cases Gt s e (.ja n t l)<;>rfl
  |nk n t l=>dsimp only;rw[yu h];cases Gt s e (.nk n t l)<;>rfl
  |_=>rfl
 .rfl
def VP(E:fX)(o:Op)(c:nZ o=J)(d:∀x∈o.operands.toList,∀v,bT fr x=Z v->Sm s s' v):fE (bV E fr s' o)=fE (bV E fr s o):=by
 cases o with
 |alloc=>cases c
 |box=>cases c
 |store=>cases c
 |buildSlice=>cases c
 |slice=>cases c
 |move x=>exact fD _ _ _ λ_=>⟨rfl,rfl⟩
 |assign x=>exact fD _ _ _ λ_=>⟨rfl,rfl⟩
 |pick x y z=>
  simp only[bV];split
  .exact fD _ _ _ λ_=>⟨rfl,rfl⟩
  .rfl
 |build t j=>
  simp only[bV];split
  .split
   .exact fD _ _ _ λ_=>⟨rfl,rfl⟩
   .rfl
  .rfl
 |load t x=>
  simp only[bV];split
  .rename_i i a h1 h2;exact SI _ _ (d x (by simp[Op.operands]) _ h2)
  .rfl
 |nilCheck x=>
  simp only[bV];split<;>first|rfl|(split<;>rfl)
 |binOp op t x y u=>
  simp only[bV];split
  .exact fD _ _ _ λ_=>⟨rfl,rfl⟩
  .rfl
 |unOp op t x=>
  simp only[bV];split
  .exact fD _ _ _ λ_=>⟨rfl,rfl⟩
  .rfl
 |convert t u x=>
  simp only[bV];split
  .unfold Oo;split
   .exact fD _ _ _ λ_=>⟨rfl,rfl⟩
   .exact fD _ _ _ λ_=>⟨rfl,rfl⟩
   .rfl
  .rfl
 |makeInterface t x=>
  simp only[bV];split
  .split<;>rfl
  .rfl
 |makeFunc f a b=>simp only[bV];split<;>rfl
 |extract x k=>
  simp only[bV];split
  .unfold xC;split
   .exact fD _ _ _ λ_=>⟨rfl,rfl⟩
   .rfl
  .rfl
 |fieldAddr t x k=>
  simp only[bV];split
  .unfold oe;split
   .split
    .rename_i off size e _;cases Nat.beq size 0 with
     |true=>rfl
     |false=>
      first|rfl|(simp only[cM];split<;>rfl)
    .rfl
   .rfl
  .rfl
 |field t x k=>
  simp only[bV];split
  .unfold yY;split
   .split
    .rename_i off size e g _ _;dsimp only;cases(Nat.beq (bU ((g.drop off).take size)) size&&!(Nat.beq size 0))with|false=>rfl|true=>exact fD _ _ _ λ_=>⟨rfl,rfl⟩
    .rfl
   .rfl
  .rfl
 |indexAddr t x h=>
  simp only[bV];split
  .rename_i i v n h1 h2 h3;exact Em _ _ (d x (by simp[Op.operands]) _ h2)
  .rfl
 |index t x h=>
  simp only[bV];split
  .unfold yR;split<;>rfl
  .rfl
 |typeAssert x a t ok=>
  simp only[bV];split
  .rename_i i v h1 h2;unfold A7;split
   .rfl
   .rename_i u v _;cases Nat.beq u t with|true=>rfl|false=>exact fD _ _ _ λ_=>⟨rfl,rfl⟩
   .rename_i u v _;cases Nat.beq u t<;>rfl
   .rfl
  .rfl
 |_=>rfl
end
section
variable {fr:bI S}{s s':aW S}
def kf(h:fE r=fE r'):r=Y↔r'=Y:=by cases r<;>cases r'<;>simp_all [fE]
def VY{s s':aW S}{a b:Ty}(h:Sm s s' v):SE s' a b v=SE s a b v:=by
 unfold SE;split
 .rename_i o;rw[h o (by simp[bQ])]
 .rfl
 .rfl
def YW(E:fX)(o:Op)(b:nZ o=J)(c:∀x∈o.operands.toList,∀v,bT fr x=Z v->Sm s s' v):fE (qm E fr s' o)=fE (qm E fr s o):=by
 cases o with
 |makeMap=>cases b
 |mapUpdate=>cases b
 |insert=>cases b
 |makeSlice=>cases b
 |range=>cases b
 |lookup t x d ok=>
  simp only[qm];split
  .rename_i m e f h1 h2 h3;have:=c x (by simp[Op.operands]) _ h2;simp only[VY this];split
   .split<;>rfl
   .rfl
  .rfl
 |nilCheck x=>simp only[qm];split<;>rfl
 |typeAssert x t u ok=>
  simp only[qm];split
  .rename_i i τ n y _ _ _;split
   .rfl
   .rename_i j _ _;cases qI (kV (S.alts n) j) τ<;>cases ok<;>rfl
   .cases ok<;>rfl
  .rfl
 |build t g=>
  simp only[qm];split
  .split
   .exact fD _ _ _ λ_=>⟨rfl,rfl⟩
   .rfl
  .rfl
 |binOp op t x y u=>
  cases op<;>first
   |rfl
   |(
     cases y with
     |const v=>
      cases v with
      |nilIface=>simp only[qm];split<;>first|rfl|(split<;>rfl)
      |slice a n m=>
       cases a<;>cases n<;>cases m<;>first
        |rfl
        |(
         simp only[qm];split
         .rename_i h2;have:=c x (by simp[Op.operands]) _ h2;simp only[yu this];split<;>rfl
         .rfl)
      |_=>rfl
     |_=>rfl)
 |_=>rfl
def YZ(E:fX)(o:Op)(b:nZ o=J)(c:∀x∈o.operands.toList,∀v,bT fr x=Z v->Sm s s' v):fE (yG E fr s' o)=fE (yG E fr s o):=by
 cases o with
 |store=>cases b
 |buildSlice=>cases b
 |indexAddr t x d=>
  simp only[yG];split
  .rename_i o r h1;rw[c x (by simp[Op.operands]) _ h1 o (by simp[bQ])];split
   .split
    .split
     .exact nD λ_=>rfl
     .rfl
    .rfl
   .rfl
  .rfl
 |load t a=>
  simp only[yG];split
  .rename_i o e k off h1;rw[c a (by simp[Op.operands]) _ h1 o (by simp[bQ])];split
   .split
    .exact nD λ_=>Mr (nD λ_=>rfl) (nD λ_=>fD _ _ _ λ_=>⟨rfl,rfl⟩)
    .rfl
   .rfl
  .rfl
 |_=>rfl
def NR(E:fX)(a:fE (yG E fr s' o)=fE (yG E fr s o))(h1:fE (bV E fr s' o)=fE (bV E fr s o))(h2:fE (qm E fr s' o)=fE (qm E fr s o)):fE (w8 E fr s' o)=fE (w8 E fr s o):=by
 unfold w8;cases h5:yG E fr s o with
 |some r=>
  cases h4:yG E fr s' o with
  |none=>rw[(kf a).1 h4]at h5;cases h5
  |some r'=>rw[h5,h4]at a;exact a
 |none=>
 rw[(kf a).2 h5];dsimp only;cases h3:bV E fr s o with
 |none=>rw[(kf h1).2 h3];exact h2
 |some r=>
  cases h4:bV E fr s' o with
  |none=>rw[(kf h1).1 h4]at h3;cases h3
  |some r'=>rw[h3,h4]at h1;exact h1
def YX(E:fX)(o:Op)(a:nZ o=J)(b:∀x∈o.operands.toList,∀v,bT fr x=Z v->Sm s s' v):fE (w8 E fr s' o)=fE (w8 E fr s o):=by have h1:=VP E o a b;have h2:=YW E o a b;have c:=YZ E o a b;exact NR E c h1 h2
def EB(a:L (Bool×V S×aW S)):L (Bool×V S):=a.map λp=>(p.1,p.2.1)
def FV{ω:Type}(k:V S->O ω)(d:O ω):∀{l m:L (Bool×V S×aW S)},EB l=EB m->r9 k d l=r9 k d m
 |[],[],_=>rfl
 |p::l,q::m,h=>by simp only[EB,jh,IU,bq]at h;simp only[r9,h.1.1,h.1.2,FV k d (l:=l) (m:=m) h.2]
 |[],_::_,h=>by simp[EB]at h
 |_::_,[],h=>by simp[EB]at h
def TT(r:O (L (Bool×V S×aW S)×Bool×V S×aW S)):O (L (Bool×V S)×Bool×V S):=match r with
 |none=>Y
 |some (l,p,d,_)=>Z (EB l,p,d)
def Dz(n:Int)(ag:Bool)(sz:Nat)(cs:L (V S))(s s':aW S):∀l:L Nat,EB (wv n ag sz cs s' l)=EB (wv n ag sz cs s l)
 |[]=>rfl
 |j::l=>by
  simp only[wv];split
  .simp only[EB,jh,IU,true_and];exact Dz n ag sz cs s s' l
  .rfl
def YY(E:fX)(o:Op)(b:nZ o=J)(c:∀x∈o.operands.toList,∀v,bT fr x=Z v->Sm s s' v):TT (Fj E fr s' o)=TT (Fj E fr s o):=by
 cases o with
 |next=>cases b
 |lookup t x d ok=>
  simp only[Fj];split
  .rename_i m a e h1 h2 h3;have:=c x (by simp[Op.operands]) _ h2 a (by simp[bQ]);rw[this];split
   .split
    .simp only[TT,EB,List.map_map];rfl
    .rfl
   .rfl
  .rfl
 |index t x d=>
  simp only[Fj];split
  .rename_i i f e _ _ _;split
   .cases Nat.beq (bU f) i.size with|false=>rfl|true=>simp only[cn,TT,Dz _ _ _ _ s s']
   .rfl
  .rfl
 |_=>rfl
end
def FI{s s':aW S}{e:Ty}:∀{ps:L (Nat×V S)}{es:L (den S.A e)},(∀p∈ps,Sm s s' p.2)->(∀p∈ps,qq p.2=W)->lB s' e es ps=lB s e es ps
 |[],es,_,_=>rfl
 |(k,v)::ps,es,h,b=>by simp only[lB,wI e v (h _ dX) (b _ dX)];cases bH s e v with|none=>rfl|some x=>dsimp only;rw[FI (λp a=>h p (gl _ a)) (λp a=>b p (gl _ a))]
def BZ{fr:bI S}:∀{ps:L (Nat×Operand)}{l:L (Nat×V S)},gW fr ps=Z l->∀p∈l,∃x∈ps.map (·.2),bT fr x=Z p.2
 |[],l,h,p,a=>by simp only[gW,aV]at h;subst h;cases a
 |(k,x)::ps,l,h,p,a=>by
  simp only[gW]at h;split at h
  .rename_i t r h1 h2;simp only[aV]at h;subst h;rcases ej.1 a with rfl|a
   .exact ⟨x,by simp,h1⟩
   .obtain ⟨y,b,h⟩:=BZ h2 p a;exact⟨y,by simp at b ⊢;exact .inr b,h⟩
  .cases h
def Fg{fr:bI S}:∀{ps:L Operand}{l:L (V S)},jw fr ps=Z l->∀v∈l,∃x∈ps,bT fr x=Z v
 |[],l,h,p,a=>by simp only[jw,aV]at h;subst h;cases a
 |x::ps,l,h,p,a=>by
  simp only[jw]at h;split at h
  .rename_i t r h1 h2;simp only[aV]at h;subst h;rcases ej.1 a with rfl|a
   .exact ⟨x,by simp,h1⟩
   .obtain ⟨y,b,h⟩:=Fg h2 p a;exact⟨y,gl _ b,h⟩
  .cases h
def O5(i:TI)(τ:O Ty){s s':aW S}(hs:∀e,Gt s' e v=Gt s e v)(f:I9 v=[])(l h m:O (V S)):fE (sL i τ s' v l h m)=fE (sL i τ s v l h m):=by
 unfold sL;rw[f];simp only[cY,hs];split
 .split
  .split<;>rfl
  .rfl
 .rename_i e lo _;cases i.kd with
  |slice a b c d=>
   cases Gt s e v with
   |none=>rfl
   |some g=>
    dsimp only;cases ze (aj g) h with
    |none=>rfl
    |some j=>
     cases m with
     |none=>rfl
     |some y=>
      cases h with
      |none=>rfl
      |some z=>
       dsimp only;cases y with
       |kn k n=>
        cases k with
        |i64=>cases n with
         |ofNat n=>cases n<;>rfl
         |negSucc n=>rfl
        |_=>rfl
       |ty t x=>dsimp only;cases kI .i64 (V.ty (S:=S) t x)<;>rfl
       |_=>rfl
  |_=>rfl
 .rfl
def Fe{s s':aW S}:∀{ps:L Pk}{l:L (V S)},bN ps=W->(∀v∈l,Sm s s' v)->iu l=W->dL s' ps l=dL s ps l
 |[],[],_,_,_=>rfl
 | .one (.dat t)::ps,v::l,a,h,b=>by simp only[iu,dI]at b;simp only[dL,kD,wI t v (h v dX) b.1,Fe (ps:=ps) (by simpa[bN]using a) (λv c=>h v (gl _ c)) b.2]
 | .one (.own _)::_,_,a,_,_=>by simp[bN]at a
 | .one (.iJ ..)::_,_,a,_,_=>by simp[bN]at a
 | .one (.nil _)::_,_,a,_,_=>by simp[bN]at a
 | .one (.ptr _)::_,_,a,_,_=>by simp[bN]at a
 | .box _::_,_,a,_,_=>by simp[bN]at a
 |[],_::_,_,_,_=>rfl
 | .one _::_,[],_,_,_=>rfl
def vZ{p:Nat->Bool}:∀{l:L (V S)}{v:V S},v∈l->bQ p v=W->gH p l=W
 |a::l,v,h,b=>by
  rcases ej.1 h with rfl|h
  .simp[gH,b]
  .simp[gH,vZ h b]
def AG(E:fX){s s':aW S}{ts:Array TypeId}(h:∀v∈args,Sm s s' v):fE (eL E s' .len ts args)=fE (eL E s .len ts args):=by
 unfold eL;split
 .rename_i x _;split
  .split<;>rfl
  .split
   .rw[yu (h _ (by simp))];exact fD _ _ _ λ_=>⟨rfl,rfl⟩
   .rfl
  .rfl
 .rename Builtin.len=Builtin.append=>a
  cases a
 .rfl
def zb(E:fX){s s':aW S}{b:Builtin}(c:wV b=W){ts:Array TypeId}(h:∀v∈args,Sm s s' v):fE (jN E s' b ts args)=fE (jN E s b ts args):=by
 have h1:fE (eL E s' b ts args)=fE (eL E s b ts args):=by cases b with|len=>exact AG E h|max=>simp[eL]|min=>simp[eL]|_=>cases c
 have h2:fE (qz E s' b ts args)=fE (qz E s b ts args):=by
  unfold qz;split
  .rename_i o;rw[h (.mp o) (by simp) o (by simp[bQ])];split<;>rfl
  .split<;>rfl
  .split<;>rfl
  .rfl
 have a:fE (jb E s' b ts args)=fE (jb E s b ts args):=by
  unfold jb;split
  .rename_i o r;rw[h (.sh o r) (by simp) o (by simp[bQ])];split
   .split
    .split
     .exact nD λ_=>rfl
     .rfl
    .rfl
   .rfl
  .cases c
  .cases c
  .rfl
 unfold jN;cases h5:jb E s b ts args with
 |some r=>
  cases h4:jb E s' b ts args with
  |none=>rw[(kf a).1 h4]at h5;cases h5
  |some r'=>rw[h5,h4]at a;exact a
 |none=>
 rw[(kf a).2 h5];dsimp only;cases h3:eL E s b ts args with
 |none=>rw[(kf h1).2 h3];exact h2
 |some r=>
  cases h4:eL E s' b ts args with
  |none=>rw[(kf h1).1 h4]at h3;cases h3
  |some r'=>rw[h3,h4]at h1;exact h1
def YF{α:Type}(f:Bool->V S->O α)(r:oC S):O α:=match r with
 |none=>Y
 |some (p,t,_)=>f p t
def xN{α:Type}(h:fE r=fE r')(f:Bool->V S->O α):YF f r=YF f r':=by
 cases r with
 |none=>cases r' with|none=>rfl|some x=>cases h
 |some x=>cases r' with
  |none=>cases h
  |some y=>simp only[fE,aV,bq]at h;simp only[YF];rw[h.1,h.2]
def CS(E:fA S)(g:O Bool){fr:bI S}{s s':aW S}(o:Oper){ω:Type}(k:V S->O ω)(m:∀x∈o.op.operands.toList,∀v,bT fr x=Z v->Sm s s' v) :
  ek E g fr s' o k=ek E g fr s o k:=by
 unfold ek;have F:nZ o.op=J->fE (w8 E.T fr s' o.op)=fE (w8 E.T fr s o.op):=λhq=>YX E.T o.op hq m;cases G:o.op with
 |call c=>
  rw[G]at m;simp only[Op.operands,Call.operands,Ej,dy]at m;dsimp only;cases M:jw fr c.args.toList with
  |none=>rfl
  |some args=>
   dsimp only;have r:∀v∈args,Sm s s' v:=λv A=>by obtain⟨x,B,h⟩:=Fg M v A;exact m x (.inr B) v h
   cases N:c.callee with
   |value f=>
    dsimp only;cases hf:bT fr f with
    |none=>rfl
    |some v=>
     simp only[GJ];have A:=m f (.inl (by rw[N];simp)) v hf;cases d:nq v args with
     |none=>rfl
     |some q=>
      obtain⟨f',w⟩:=q;dsimp only;cases hg:E.Es f' with
      |none=>rfl
      |some c'=>
       dsimp only;have z:∀v∈w,Sm s s' v:=by
        unfold nq at d;split at d
        .simp only[aV,bq]at d;obtain⟨_,rfl⟩:=d;intro u hu;simp only[dy]at hu;rcases hu with(hu|hu)|hu
         .exact λo P=>A o (by simp[bQ,vZ hu P])
         .exact r u hu
         .exact λo P=>A o (by simp[bQ,vZ hu P])
        .cases d
       cases Q:bN c'.ps with
       |false=>rfl
       |true=>
        cases R:iu w with|false=>simp|true=>rw[Fe Q z R]
   |builtin b=>
    dsimp only;cases hb:wV b with
    |false=>rfl
    |true=>
     simp only[cn];have:=xN (zb E.T hb (ts:=c.argTypes) r) (λp t=>wh g p (k t));cases h1:jN E.T s' b c.argTypes args with
     |none=>cases h2:jN E.T s b c.argTypes args with|none=>rfl|some y=>rw[h1,h2]at this;exact this
     |some x=>cases h2:jN E.T s b c.argTypes args with|none=>rw[h1,h2]at this;exact this|some y=>rw[h1,h2]at this;exact this
   |invoke=>rfl
 |buildSlice t n ps=>
  rw[G]at m;simp only[Op.operands]at m;dsimp only;cases H:gW fr ps.toList with
  |none=>rfl
  |some l=>
   dsimp only;cases C:iu (l.map (·.2))with
   |false=>rfl
   |true=>
    refine xN ?_ (λp t=>wh g p (k t));refine NR E.T ?_ ?_ rfl
    .simp only[yG];split
     .rename_i kx I;split
      .split
       .split
        .refine nD λ_=>?_;have X:=m (.tmp kx) (by rw[I];simp);rename_i B _ _ _ _ _ _ _ _ _ _ _ _;rw[I]at H;simp only[gW,bT,B,aV]at H;subst H;simp only[jh,E2,iu,vR]at C;rw[wI _ _ (X _ B) C];split
         .rename_i Jv;have:=qo _ _ _ C Jv;subst this;rfl
         .rfl
        .rfl
       .rfl
      .rfl
     .split
      .split
       .cases Nat.beq n 0<;>rfl
       .rfl
      .rfl
     .rfl
    simp only[bV,H];split
    .rename_i i e ps' h1 h2 h3;cases h3;split
     .rename_i sz _ _ _ _;cases Nat.ble (Nat.mul n sz) 16777216 with
      |false=>rfl
      |true=>
       simp only[cn];rw[FI (λp hp=>by
        obtain⟨x,B,h⟩:=BZ H p hp;exact m x (by simpa using B) _ h) (Ch C)]
       cases hel:lB s e (List.replicate n (S.zero e)) l with|none=>rfl|some q=>obtain⟨es,os⟩:=q;have:=y7 (Ch C) hel;subst this;rfl
     .rfl
    .rfl
 |slice t x lo hi mx=>
  rw[G]at m;dsimp only;cases A:bT fr x with
  |none=>rfl
  |some v=>
   dsimp only;cases C:qq v with
   |false=>rfl
   |true=>
    refine xN ?_ (λp t=>wh g p (k t));have hsm:=m x (by simp[Op.operands]) v A;have K:I9 v=[]:=by cases v<;>first|rfl|simp[qq]at C
    rw[AV rfl rfl,AV rfl rfl];simp only[bV,A];split
    .rename_i i a l1 l2 l3 _ M _ _ _;cases M;exact O5 i _ (λe=>yu hsm e) K _ _ _
    .rfl
 |store=>rfl
 |alloc=>rfl
 |box=>rfl
 |panic=>rfl
 |makeMap=>rfl
 |mapUpdate=>rfl
 |insert=>rfl
 |makeSlice=>rfl
 |range=>rfl
 |next=>rfl
 |defer=>rfl
 |_=>
  have j:=YY E.T o.op (by rw[G];rfl) m;rw[G]at F j;dsimp only;have h2:=xN (F rfl) (λp t=>wh g p (k t));generalize B:Fj E.T fr s' _=x at j;generalize hy:Fj E.T fr s _=y at j;cases x with
  |none=>cases y with|none=>exact h2|some y=>cases j
  |some x=>cases y with
   |none=>cases j
   |some y=>simp only[TT,aV,bq]at j;obtain⟨q1,q2,q3⟩:=j;dsimp only;rw[q2,q3];exact FV k _ q1
end
section
def HM(e j:Nat):(1 <<< e).testBit j=decide (e=j):=by rw[Nat.shiftLeft_eq,sN,Nat.testBit_two_pow]
def FE(f:Nat->Nat)(j:Nat):∀(l:L Nat)(z:Nat),(l.foldl (λb e=>b||| (1 <<< e||| f e)) z).testBit j=(z.testBit j||l.any λe=>decide (e=j)||(f e).testBit j)
 |[],z=>by simp
 |e::l,z=>by rw[zF,FE f j l];simp only[wW,HM,List.any_cons,Bool.or_assoc]
def tH:∀(l:L Oper)(a:L Nat)(i:Nat),i<a.length->(Kf l a).getD i 0=a.getD i 0
 |[],_,_,_=>rfl
 |o::l,a,i,h=>by rw[Kf,tH l _ i (by rw[su];omega)];simp only[jO,NJ h]
def any_eq{α:Type}{f g:α->Bool}:∀{l:L α},(∀e∈l,f e=g e)->l.any f=l.any g
 |[],_=>rfl
 |a::l,h=>by rw[List.any_cons,List.any_cons,h a dX,any_eq λe b=>h e (gl _ b)]
def Ov:∀(l:L Oper)(acc:L Nat)(k:Nat)(o:Oper),l[k]?=Z o->r7 l acc.length=W->∀j,
  ((Kf l acc).getD (acc.length+k) 0).testBit j=(uK o).any λe=>decide (e=j)||((Kf l acc).getD e 0).testBit j
 |[],acc,k,o,h,_,j=>by simp at h
 |p::l,acc,k,o,h,a,j=>by
  simp only[r7,dI]at a;cases k with
  |zero=>simp only[qT,aV]at h;subst h;rw[Kf,tH _ _ _ (by rw[su];simp)];simp only[wZ,jO,NM (bS _),E1,qT,Aq];rw[FE];simp only[Nat.zero_testBit,E5];refine any_eq λe d=>?_;have c:e<acc.length:=eN (dU.1 a.1 e d);have:=tH l (acc++[(uK p).foldl (λb e=>b||| (1 <<< e||| acc.getD e 0)) 0]) e (by rw[su];omega);simp only[jO,NJ c]at this ⊢;rw[this]
  |succ k=>rw[Kf];have:=Ov l (acc++[(uK p).foldl (λb e=>b||| (1 <<< e||| acc.getD e 0)) 0]) k o (by simpa using h) (by simpa using a.2) j;rw[su,IK,show acc.length+1+k=acc.length+(k+1)by omega]at this;exact this
section
variable {ops:List Oper}
def Pre(ops:L Oper)(i j:Nat):Prop:=((tG ops).getD i 0).testBit j=W
variable {i d:Nat}{o:Oper}
def AU(a:r7 ops 0=W)(h:ops[i]?=Z o)(j:Nat):Pre ops i j↔∃e∈uK o,e=j∨Pre ops e j:=by have:=Ov ops [] i o h a j;rw[BO,lY]at this;unfold Pre tG;rw[this,IV];simp only[ir,kj]
def xX:∀{l:L Oper}{n:Nat},r7 l n=W->∀{k:Nat}{o:Oper},l[k]?=Z o->∀e∈uK o,e<n+k
 |[],_,_,k,o,h,_,_=>by simp at h
 |p::l,n,a,k,o,h,e,b=>by simp only[r7,dI]at a;cases k with|zero=>simp only[qT,aV]at h;subst h;exact eN (dU.1 a.1 e b)|succ k=>have:=xX a.2 (k:=k) (by simpa using h) e b;omega
def Lr(b:r7 ops 0=W):∀{i:Nat}{o:Oper},ops[i]?=Z o->∀j,Pre ops i j->j<i:=by
 intro i
 induction i using Nat.strongRecOn with
 |_ i c=>
  intro o h j d;obtain⟨e,f,Th⟩:=(AU b h j).1 d;have g:=xX b h e f;rcases Th with rfl|Th
  .omega
  .have a:e<ops.length:=by have:=(sv.1 h).1;omega
   have:=c e (by omega) (eS a) j Th;omega
def Pq(a:r7 ops 0=W):∀{i:Nat}{o:Oper},ops[i]?=Z o->∀{j k:Nat},Pre ops i j->Pre ops j k->Pre ops i k:=by
 intro i
 induction i using Nat.strongRecOn with
 |_ i f=>
  intro o h j k g c;obtain⟨e,d,Th⟩:=(AU a h j).1 g;refine(AU a h k).2 ⟨e,d,.inr ?_⟩;rcases Th with rfl|Th
  .exact c
  .have l:=xX a h e d;have b:e<ops.length:=by have:=(sv.1 h).1;omega
   exact f e (by omega) (eS b) Th c
def lf(d:r7 ops 0=W){a:Nat->Prop}(g:∀i o,ops[i]?=Z o->a i->∀e∈uK o,a e):∀{i:Nat}{o:Oper},ops[i]?=Z o->(∀e∈uK o,a e)->∀j,Pre ops i j->a j:=by
 intro i
 induction i using Nat.strongRecOn with
 |_ i k=>
  intro o h f j l;obtain⟨e,c,Th⟩:=(AU d h j).1 l;rcases Th with rfl|Th
  .exact f _ c
  .have m:=xX d h e c;have b:e<ops.length:=by have:=(sv.1 h).1;omega
   exact k e (by omega) (eS b) (g e _ (eS b) (f e c)) j Th
def wM{a b:Nat}:O0 a b=W↔∀j,a.testBit j=W->b.testBit j=W:=by
 unfold O0;constructor
 .intro h j c;have h:a&&& b=a:=mV h;have:=oI (λn=>n.testBit j) h;simp only[Nat.testBit_and,c,dF]at this;exact this
 .intro h;have:a&&& b=a:=Nat.eq_of_testBit_eq λj=>by rw[Nat.testBit_and];cases c:a.testBit j with|false=>rfl|true=>rw[h j c];rfl
  rw[this];simp
def pJ(ops:L Oper):Q0:=ops.zipIdx.map λp=>(p.2,p.1)
def ia:(i,o)∈pJ ops↔ops[i]?=Z o:=by
 unfold pJ;rw[sr];constructor
 .rintro ⟨⟨p,k⟩,b,a⟩
  simp only[bq]at a;obtain⟨rfl,rfl⟩:=a;exact GN.1 b
 .intro h;exact⟨(o,i),GN.2 h,rfl⟩
def rI(h:W3 ops (tG ops)=W)(l:ops[i]?=Z o)(m:o.dst=Z d) :
  d<bg∧d∉tmpsOf o.op∧∀{j:Nat}{p:Oper},ops[j]?=Z p->i≠j->p.dst≠Z d∧(d∈tmpsOf p.op->Pre ops j i∨Pre ops i j):=by
 unfold W3 at h;have h1:=dU.1 h (o,i) (GN.2 l);simp only[m,dI]at h1;have a:∀{p:Oper},d∈tmpsOf p.op->Im p d=W:=by intro p c;obtain⟨x,n,b⟩:=uE.1 c;refine IV.2 ⟨x,n,?_⟩;cases x with|tmp k=>simp only[aV]at b;subst b;simp|_=>cases b
 refine⟨eN h1.1,λc=>?_,λ{j p}q f=>?_⟩
 .have h2:=dU.1 h1.2 (o,i) (GN.2 l);have e:Nat.beq i i=W:=by simp
  simp only[e,cn,a c]at h2;cases h2
 .have h2:=dU.1 h1.2 (p,j) (GN.2 q);have e:Nat.beq i j=J:=by cases r:Nat.beq i j with|false=>rfl|true=>exact absurd (mV r) f
  simp only[e,cM,dI,ir]at h2;refine⟨λg=>?_,λc=>?_⟩
  .have h3:=h2.1;rw[g]at h3;simp at h3
  .rcases h2.2 with h3|h3
   .rw[a c]at h3;cases h3
   .exact h3
def antiP(ops:L Oper)(i:Nat):Prop:=∃o,ops[i]?=Z o∧∃d,o.dst=Z d∧∃j p,ops[j]?=Z p∧d∈tmpsOf p.op∧Pre ops i j
def T5(e:ops[i]?=Z o)(h:OA ops (tG ops) i o=J):¬antiP ops i:=by
 rintro⟨f,c,d,g,j,p,l,m,n⟩
 have:o=f:=ew (e.symm.trans c);subst this;unfold OA at h;rw[g]at h;have h1:=NA.1 h (p,j) (GN.2 l);have b:Im p d=W:=by obtain⟨x,q,a⟩:=uE.1 m;refine IV.2 ⟨x,q,?_⟩;cases x with|tmp k=>simp only[aV]at a;subst a;simp|_=>cases a
 refine h1 ?_;simp only[b,dF];exact n
def Tv(h:Hw ops (tG ops)=W)(f:ops[i]?=Z o)(a:me ops o=Z d):∃j p,ops[j]?=Z p∧p.dst=Z d∧Pre ops i j:=by
 unfold Hw at h;have h1:=dU.1 h (o,i) (GN.2 f);unfold me at a;cases c:o.guard with
 |none=>rw[c]at a;cases a
 |some q=>obtain⟨j,e⟩:=q;simp only[c]at a h1;rw[iR,qS]at a;obtain⟨p,g,b⟩:=a;exact⟨j,p,g,b,h1⟩
def Bf(h:YE ops=W)(b:ops[i]?=Z o):∀k∈tmpsOf o.op,k<bg:=by intro k c;obtain⟨x,d,a⟩:=uE.1 c;have h1:=dU.1 h o (gk b);have h2:=dU.1 h1 x d;cases x with|tmp j=>simp only[aV]at a;subst a;exact eN h2|_=>cases a
def T7{E:fX}{n:Nat}(h:MI E n ops=W)(f:ops[i]?=Z o)(a:ey o=W):o.guard=Y∧(∃t c,o.op=.alloc t∧E.E.ti t=Z c)∧∀d,o.dst=Z d->d<n:=by
 have h1:=dU.1 h o (gk f);simp only[a,cn,dI]at h1;unfold ey at a;split at a
 .rename_i t b;rw[b]at h1;have h2:(E.E.ti t).isSome=W:=h1.1;refine⟨by simpa using a,⟨t,?_⟩,λd g=>?_⟩
  .cases e:E.E.ti t with
   |none=>rw[e]at h2;cases h2
   |some c=>exact⟨c,b,rfl⟩
  .have h3:=h1.2;rw[g]at h3;exact eN h3
 .cases a
def Fc(done:Nat):∀(l:Q0)(z j:Nat),(l.foldl (λb(i,o)=>bif ey o&&!(done.testBit i)then b||| 1 <<< i else b) z).testBit j=(z.testBit j||l.any λ(i,o)=>ey o&&!(done.testBit i)&&decide (i=j))
 |[],z,j=>by simp
 |(i,o)::l,z,j=>by rw[zF,Fc done l,List.any_cons];cases h:(ey o&&!(done.testBit i))with|false=>simp only[h,cM,fu,E5]|true=>simp only[h,cn,wW,HM,dF,Bool.or_assoc]
def sO(done j:Nat):(uX (pJ ops) done).testBit j=W↔∃o,ops[j]?=Z o∧ey o=W∧done.testBit j=J:=by
 unfold uX;rw[Fc,Nat.zero_testBit,E5,IV];constructor
 .rintro ⟨⟨i,o⟩,a,h⟩
  simp only[dI,As,kj]at h;obtain⟨⟨h1,h2⟩,rfl⟩:=h;exact⟨o,ia.1 a,h1,h2⟩
 .rintro ⟨o,b,h1,h2⟩
  exact⟨(j,o),ia.2 b,by simp[h1,h2]⟩
end
end
section
structure EJ(g:Gh)(w0 w:World)(b:Nat)(z:Array Value):Prop where
 new:w0.heap.size<=b
 lt:b<w.heap.size
 bf:¬g.bf b
 own:∀o,¬br g o b
 mem:∃ty,w.heap[b]?=Z (.cells z ty (0,0))
section
variable {g g':Gh}{w0 w w':World}{b:Nat}{z:Array Value}
def EJ.ym(h:EJ g w0 w b z){ow:L Nat}{s s':aW S}(c:cr ow s g w s' g' w')(f:s.fl=0):EJ g' w0 w' b z:=by
 obtain⟨ty,i⟩:=h.mem;refine⟨h.new,gN h.lt c.ext.size,λa=>?_,λo d=>?_,ty,?_⟩
 .rcases c.ext.pN b a with a|a|⟨o,_,d⟩
  .exact h.bf a
  .have:=h.lt;omega
  .exact h.own o d
 .rcases c.ext.own o b (by omega) d with⟨j,_,e⟩|a
  .exact h.own j e
  .have:=h.lt;omega
 .rw[c.ext.heap b h.lt λo _=>h.own o];exact i
def aU.T8{s:St}(hs:aU g s w)(hn:s.au<bg)(hf:EJ g w0 w b z){cs:L T}(hl:cs.length=z.size)
  (y:∀(j:Nat)(t:T)(v:Value),cs[j]?=Z t->z[j]?=Z v->aC g w t v) :
  aU (g.cU s.au b) (dO s (.box cs)).2 w∧lH g (g.cU s.au b)∧(∀k c,br (g.cU s.au b) k c->br g k c∨(k=s.au∧c=b)):=by
 have a:=hs.af s.au (bS _);have n:∀o c,g.bG o=Z c->(g.cU s.au b).bG o=Z c:=λo c h=>by
  have:o≠s.au:=λe=>by rw[e,a.1]at h;cases h
  simp[Gh.cU,this,h]
 have i:lH g (g.cU s.au b):=⟨n,λ_ _ _ h=>h,λ_ h=>h⟩;have d:∀k c,br (g.cU s.au b) k c->br g k c∨(k=s.au∧c=b):=by
  rintro o c ⟨h1,h2|h2⟩
  .by_cases f:o=s.au
   .subst f;simp[Gh.cU]at h2;exact .inr ⟨rfl,h2.symm⟩
   .simp[Gh.cU,f]at h2;exact .inl ⟨h1,.inl h2⟩
  .exact .inl ⟨h1,.inr h2⟩
 obtain⟨ty,A⟩:=hf.mem;refine⟨⟨by simp only[dO];omega,λo f=>?_,λo c p=>?_,λo e x B=>?_,hs.bf,λo q c h C=>?_⟩,i,d⟩
 .simp only[dO]at f;have h1:o≠s.au:=by omega
  simp only[Gh.cU,h1,if_false];exact hs.af o (by omega)
 .by_cases f:o=s.au
  .subst f;have r:c=b:=by simp[Gh.cU]at p;exact p.symm
   subst r;refine⟨hf.bf,hf.lt,λob l=>⟨_,A,?_⟩⟩;simp only[dO]at l;rw[Tr.aO _ _ _ _ hn,aY rfl]at l;obtain rfl:=ew l;exact .box cs z ty hl λj t v E F=>(y j t v E F).le i
  .have u:g.bG o=Z c:=by simpa[Gh.cU,f]using p
   exact(hs.box o c u).le i rfl (by simp only[dO];rw[Tr.aO _ _ _ _ hn,bK f])
 .have m:g.arr o e=Z x:=B;have f:o≠s.au:=λh=>by rw[h,a.2 e]at m;cases m
  exact(hs.arr o e x m).le rfl (by simp only[dO];rw[Tr.aO _ _ _ _ hn,bK f]) (λ_ _ _ h=>h) (λ_=>rfl)
 .rcases d o c h with h1|⟨h1,h3⟩<;>rcases d q c C with h2|⟨h2,h4⟩
  .exact hs.jv o q c h1 h2
  .subst h4;exact absurd h1 (hf.own o)
  .subst h3;exact absurd h2 (hf.own q)
  .rw[h1,h2]
def EJ.keep{o c:Nat}{i:Array Value}(h:EJ g w0 w b z)(j:EJ g w0 w c i)(a:b≠c)(d:∀k e,br (g.cU o c) k e->br g k e∨(k=o∧e=c)):EJ (g.cU o c) w0 w b z:=
 ⟨h.new,h.lt,h.bf,λk f=>by
  rcases d k b f with f|⟨_,rfl⟩
  .exact h.own k f
  .exact a rfl,h.mem⟩
end
def UO(E:fX)(g:Gh)(w0 w:World)(a:Act)(o:Oper)(b:Nat):Prop:=
 ∀t c d,o.op=.alloc t->E.E.ti t=Z c->o.dst=Z d->∃z,a.tmps[d]?=Z (.pointer (Z ⟨b,0,Y⟩))∧EJ g w0 w b z∧ZOk c.zero z
structure Adp(E:fX)(which:Nat)(l:Q0)(fr:bI S)(s:aW S)(g:Gh)(w:World)(a:Act)(fr':bI S)(s':aW S)(g':Gh):Prop where
 rel:aU g' (aq s') w
 le:lH g g'
 bf:g'.bf=g.bf
 fl:s'.fl=s.fl
 lo:s'.lo=s.lo
 wr:s'.wr=s.wr
 dr:s'.dr=s.dr
 au:s.au<=s'.au
 ob:∀o,o<s.au->s'.ob.get o=s.ob.get o
 n:fr'.n=fr.n
 J0:fr'.df=fr.df
 old:∀k,(∀p∈l,which.testBit p.1=W->p.2.dst≠Z k)->fr'.get k=fr.get k
 new:∀k,(∃p∈l,which.testBit p.1=W∧p.2.dst=Z k)->∀t,fr'.get k=Z t->∃v,a.tmps[k]?=Z v∧aC g' w (low t) v
 own:∀k b,br g' k b->br g k b∨∃p∈l,which.testBit p.1=W∧∃d,p.2.dst=Z d∧a.tmps[d]?=Z (.pointer (Z ⟨b,0,Y⟩))
 W1:∀p∈l,which.testBit p.1=W->∃t ti d,p.2.op=.alloc t∧E.E.ti t=Z ti∧p.2.dst=Z d∧d<fr.n
def Kn{E:fX}{f:Nat}{w0 w:World}{a:Act}{bl:Nat->Nat}:∀{l:Q0}{fr fr':bI S}{s s':aW S}{g:Gh},si E f l fr s=Z (fr',s')->fr.n<=bg->aU g (aq s) w->
  (∀p∈l,f.testBit p.1=W->UO E g w0 w a p.2 (bl p.1))->(l.map (·.1)).Nodup->(∀p∈l,∀q∈l,f.testBit p.1=W->f.testBit q.1=W->p.1≠q.1->bl p.1≠bl q.1)->
  (∀p∈l,∀q∈l,p.1≠q.1->∀d,p.2.dst=Z d->q.2.dst≠Z d)->∃g',Adp E f l fr s g w a fr' s' g':=by
 intro l
 induction l with
 |nil=>intro fr fr' s s' g h _ hs _ _ _ _;simp only[si,aV,bq]at h;obtain⟨rfl,rfl⟩:=h;exact⟨g,hs,lH.refl _,rfl,rfl,rfl,rfl,rfl,bS _,λ_ _=>rfl,rfl,rfl,λ_ _=>rfl,λk⟨p,hp,_⟩=>by(cases hp),λ_ _ h=>.inl h,λp hp=>by(cases hp)⟩
 |cons p l ih=>
  intro fr fr' s s' g h hn hs he y B C;obtain⟨i,o⟩:=p;simp only[si]at h;rw[jh,Eh]at y;have A:∀q∈l,i≠q.1:=λq b e=>y.1 (sr.2 ⟨q,b,e.symm⟩);rcases aa h with⟨K,h1⟩|⟨K,h1⟩
  .clear h;split at h1
   .rename_i t d N n;split at h1
    .rename_i ti P;rcases aa h1 with⟨hb,h⟩|⟨_,h⟩;rotate_left
     .cases h
     rw[dI]at hb;have Q:s.au<bg:=eN hb.1;have F:d<fr.n:=eN hb.2;obtain⟨z,R,v,hz⟩:=he (i,o) dX K t ti d N P n;obtain⟨z1,z2⟩:=p7 (g:=g) (w:=w) hz;obtain⟨Eo,X,x⟩:=hs.T8 Q v z1 z2;have ZB:aU (g.cU s.au (bl i)) (aq (cJ s (.box (ti.zero.map zeroV)))) w:=by rw[fU];simp only[cz,kY];exact Eo
     have hE:∀q∈l,f.testBit q.1=W->UO E (g.cU s.au (bl i)) w0 w a q.2 (bl q.1):=by intro q b hw' t' ti' d' q1 q2 q3;obtain⟨z',r1,r2,r3⟩:=he q (gl _ b) hw' t' ti' d' q1 q2 q3;exact⟨z',r1,r2.keep v (B q (gl _ b) (i,o) dX hw' K (λe=>A q b e.symm)) x,r3⟩
     obtain⟨g',k⟩:=ih h (by exact hn) ZB hE y.2 (λq b r G=>B q (gl _ b) r (gl _ G)) (λq b r G=>C q (gl _ b) r (gl _ G))
     .have hdl:∀q∈l,f.testBit q.1=W->q.2.dst≠Z d:=λq b _=>C (i,o) dX q (gl _ b) (A q b) d n;refine⟨g',k.rel,X.trans k.le,k.bf,k.fl,k.lo,k.wr,k.dr,eO (zC _) k.au,λj M=>?_,k.n,k.J0,λj M=>?_,λj⟨q,b,m,u⟩t' H=>?_,λj c I=>?_,λq b m=>?_⟩
      .rw[k.ob j (Nat.lt_succ_of_lt M)];simp only[cJ];rw[Tr.aO _ _ _ _ Q,bK (by omega)]
      .rw[k.old j (λq b=>M q (gl _ b)),bI.ie _ _ _ _ (gN F hn),bK];intro e;subst e;exact M (i,o) dX K n
      .rcases ej.1 b with rfl|b
       .have hjd:j=d:=by have u:o.dst=Z j:=u;rw[n]at u;exact(ew u).symm
        subst hjd;rw[k.old j hdl,bI.ie _ _ _ _ (gN F hn),aY rfl]at H;cases H;refine⟨_,R,?_⟩;simp only[low];exact .ptr _ _ _ (k.le.bG _ _ (by simp[Gh.cU]))
       .exact k.new j ⟨q,b,m,u⟩ t' H
      .rcases k.own j c I with I|⟨q,b,m,u⟩
       .rcases x j c I with I|⟨_,rfl⟩
        .exact .inl I
        .exact .inr ⟨(i,o),dX,K,d,n,R⟩
       .exact .inr ⟨q,gl _ b,m,u⟩
      .rcases ej.1 b with rfl|b
       .exact ⟨t,ti,d,N,P,n,F⟩
       .exact k.W1 q b m
    .cases h1
   .cases h1
  .obtain ⟨g',k⟩:=ih h1 hn hs (λq b=>he q (gl _ b)) y.2 (λq b r G=>B q (gl _ b) r (gl _ G)) (λq b r G=>C q (gl _ b) r (gl _ G));have hnw:∀q∈(i,o)::l,f.testBit q.1=W->q∈l:=λq b m=>by
    rcases ej.1 b with rfl|b
    .rw[K]at m;cases m
    .exact b
   refine⟨g',k.rel,k.le,k.bf,k.fl,k.lo,k.wr,k.dr,k.au,k.ob,k.n,k.J0,λj M=>k.old j λq b=>M q (gl _ b),λj⟨q,b,m,u⟩=>k.new j ⟨q,hnw q b m,m,u⟩,λj c I=>(k.own j c I).imp id λ⟨q,b,h⟩=>⟨q,gl _ b,h⟩,λq b m=>k.W1 q (hnw q b m) m⟩
end
section
def kW(listed:Array Bool)(i:Nat):Prop:=listed.getD i J=W
def A9(E:fA S)(ops:L Oper)(fr:bI S)(s:aW S)(o:Oper):Prop:=
 fM fr o.dst=W∧((rW ops fr o=W∧∀d,o.dst=Z d->∀a,fr.get d=Z a->a=lU)∨(gI ops fr o=Z Y∧∃t,ek E Y fr s o Z=Z t∧∀d,o.dst=Z d->∀a,fr.get d=Z a->Ur t a)∨
  ∃c,gI ops fr o=Z (Z c)∧Hx c fr o.op=W∧∃t,ek E (Z c) (mg fr o.op) s o Z=Z t∧∀d,o.dst=Z d->∀a,fr.get d=Z a->a=.gd c t)
variable {s':aW S}{o:Oper}{k i:Nat}
def Cf{p:Nat->Bool}{fr:bI S}{s:aW S}{o:Op}(h:iH p fr o=J)(hs:∀x,p x=J->s'.ob.get x=s.ob.get x):∀x∈o.operands.toList,∀v,bT fr x=Z v->Sm s s' v:=by
 intro x a v b j c;apply hs;have h1:bQ p v=J:=by unfold iH at h;have:=NA.1 h x a;rw[b]at this;simpa using this
 cases d:p j with|false=>rfl|true=>have:=dJ (p:=Nat.beq j) (q:=p) (λy e=>by rw[<-mV e];exact d) v c;rw[h1]at this;cases this
def xD(E:fA S)(g:O Bool){fr:bI S}(o:Oper)(s s':aW S){ω:Type}(k:V S->O ω)(c:I5 o.op=W):ek E g fr s o k=ek E g fr s' o k:=by
 unfold ek;cases d:o.op with
 |move x=>simp only[Fj,w8,yG,bV];cases bT fr x<;>simp[qm]
 |assign x=>simp only[Fj,w8,yG,bV];cases bT fr x<;>simp[qm]
 |nilCheck x=>
  simp only[Fj,w8,yG,bV];cases h:bT fr x with
  |none=>simp[qm,h]
  |some v=>
   cases v with
   |ty t y=>cases t<;>simp[qm,h]
   |fn f a b=>cases f<;>simp[qm,h]
   |_=>simp[qm,h]
 |fieldAddr t x n=>
  simp only[Fj,w8,yG,bV];cases E.T.E.ti t with
  |none=>simp[qm]
  |some e=>
   cases bT fr x with
   |none=>simp[qm]
   |some v=>
    simp only[oe];cases e.kd with
    |struct i=>
     dsimp only;cases nth i n with
     |none=>simp[qm]
     |some q=>
      obtain⟨off,size,j⟩:=q;dsimp only;cases Nat.beq size 0 with|true=>simp[qm]|false=>cases v<;>simp[qm]
    |_=>simp[qm]
 |_=>simp[d,I5]at c
def A9.move{E:fA S}{ops:L Oper}{fr fr':bI S}{s:aW S}(h:A9 E ops fr s o)(hn:fr'.n=fr.n)(q:∀k∈tmpsOf o.op,k<bg)(f:∀k∈tmpsOf o.op,fr'.get k=fr.get k)(l:∀k,me ops o=Z k->fr'.get k=fr.get k)
  (g:∀d,o.dst=Z d->∀t,fr'.get d=Z t->fr.get d=Z t) {p:Nat->Bool}
  (hs:s'=s∨(iH p fr o.op=J∧iH p (mg fr o.op) o.op=J∧∀x,p x=J->s'.ob.get x=s.ob.get x)∨I5 o.op=W):A9 E ops fr' s' o:=by
 obtain⟨m,h⟩:=h;have n:gI ops fr' o=gI ops fr o:=nc l;refine⟨by cases a:o.dst<;>simp only[a,fM,hn]at m ⊢;exact m,?_⟩;rcases h with⟨h1,h3⟩|⟨h1,t,h2,h3⟩|⟨c,h1,h4,t,h2,h3⟩
 .exact .inl ⟨(oN l).trans h1,λd a e b=>h3 d a e (g d a e b)⟩
 .refine .inr (.inl ⟨n.trans h1,t,?_,λd a e b=>h3 d a e (g d a e b)⟩);rw[gJ E Y o s' Z (g8 f)];rcases hs with rfl|⟨i,_,hs⟩|j
  .exact h2
  .rw[CS E Y o Z (Cf i hs)];exact h2
  .rw[xD E Y o s' s Z j];exact h2
 .refine .inr (.inr ⟨c,n.trans h1,by rw[rA c f];exact h4,t,?_,λd a e b=>h3 d a e (g d a e b)⟩);rw[gJ E (Z c) o s' Z (g8 (oW q f))];rcases hs with rfl|⟨_,i,hs⟩|j
  .exact h2
  .rw[CS E (Z c) o Z (Cf i hs)];exact h2
  .rw[xD E (Z c) o s' s Z j];exact h2
structure vI(E:fA S)(ops:Array Oper)(n:Nat):Prop where
 bk:r7 ops.toList 0=W
 ds:W3 ops.toList (tG ops.toList)=W
 gd:Hw ops.toList (tG ops.toList)=W
 us:YE ops.toList=W
 al:MI E.T n ops.toList=W
def At(ops:Array Oper)(i:Nat)(o:Oper):Prop:=ops.toList[i]?=Z o
structure pY(E:fA S)(ops:Array Oper)(iL:bI S)(s0:aW S)(g0:Gh)(w0:World)(done:Nat)(fr:bI S)(s:aW S)(bl:Nat->Nat)(listed:Array Bool)(g:Gh)(a:Act)(w:World):Prop where
 GY:listed.size=ops.size
 n:fr.n=iL.n
 nb:fr.n<=bg
 QG:a.tmps.size=fr.n
 df:ei g w (bh fr).df a.defers
 tm:∀k t,fr.get k=Z t->(∀i o,At ops i o->o.dst=Z k->(kW listed i↔done.testBit i=W))->∃v,a.tmps[k]?=Z v∧aC g w (low t) v
 PR:∀i o,At ops i o->kW listed i->∀e∈uK o,kW listed e
 TR:∀i o,At ops i o->done.testBit i=W->∀j,Pre ops.toList i j->done.testBit j=W
 ld:∀i o,At ops i o->kW listed i->done.testBit i=W∨ey o=W
 fo:∀i o,At ops i o->done.testBit i=W->¬kW listed i->ey o=J∧A9 E ops.toList fr s o
 ea:∀i o,At ops i o->kW listed i->done.testBit i=J->UO E.T g w0 w a o (bl i)∧bl i<w.heap.size
 eb:∀i j,kW listed i->kW listed j->done.testBit i=J->done.testBit j=J->i≠j->i<ops.size->j<ops.size->bl i≠bl j
 ym:eC s0 g0 w0 s g w
 fk:fe (ops.toList.filterMap (·.dst)) iL fr s.dr s0.au
 fl:s.fl=0
 an:∀j,antiP ops.toList j->done.testBit j=W->kW listed j
structure OO(E:fA S)(ops:Array Oper)(iL:bI S)(s0:aW S)(g0:Gh)(w0:World)(done:Nat)(fr:bI S)(s:aW S)(listed:Array Bool)(g:Gh)(a:Act)(w:World):Prop where
 n:fr.n=iL.n
 nb:fr.n<=bg
 QG:a.tmps.size=fr.n
 df:ei g w (bh fr).df a.defers
 tm:∀k t,fr.get k=Z t->(∀i o,At ops i o->o.dst=Z k->(kW listed i↔done.testBit i=W))->∃v,a.tmps[k]?=Z v∧aC g w (low t) v
 TR:∀i o,At ops i o->done.testBit i=W->∀j,Pre ops.toList i j->done.testBit j=W
 ym:eC s0 g0 w0 s g w
section
variable {E:fA S}{ops:Array Oper}{iL:bI S}{s0:aW S}{g0:Gh}{w0:World}{done:Nat}{fr:bI S}{s:aW S}{bl:Nat->Nat}{listed:Array Bool}{g:Gh}{a:Act}{w:World}
def AT(fr:bI S)(d:O Nat)(t:V S):(fr.iO d t).df=fr.df:=by cases d<;>rfl
theorem Cs(fr:bI S):(bh fr).df=fr.df.map iU:=rfl
def nh(done i j:Nat):(done||| 1 <<< i).testBit j=W↔done.testBit j=W∨i=j:=by rw[wW,HM,ir,kj]
def FC{d:O Nat}{t:V S}(h:fM fr d=W)(hn:fr.n<=bg):(fr.iO d t).get k=if d=Z k then Z t else fr.get k:=by
 cases d with
 |none=>simp[bI.iO]
 |some d=>
  have h:d<fr.n:=eN h;simp only[bI.iO];rw[bI.ie _ _ _ _ (by omega)];by_cases a:k=d
  .subst a;simp
  .rw[bK a,bK (by simpa using λe=>a e.symm)]
def Gk(c:vI E ops iL.n)(f:At ops i o)(d:k∈tmpsOf o.op∨me ops.toList o=Z k){j:Nat}{p:Oper}(g:At ops j p)(q:p.dst=Z k):i≠j∧(Pre ops.toList i j∨(Pre ops.toList j i∧antiP ops.toList j)):=by
 obtain⟨_,h2,h3⟩:=rI c.ds g q;rcases d with d|d
 .have a:i≠j:=by
   rintro rfl
   have:o=p:=ew (f.symm.trans g);subst this;exact h2 d
  exact⟨a,((h3 f (Ne.symm a)).2 d).imp id λh=>⟨h,p,g,k,q,i,o,f,d,h⟩⟩
 .obtain ⟨r,s,l,m,b⟩:=Tv c.gd f d;have n:j=r:=NI λa=>(h3 l a).1 m;subst n;refine⟨λe=>?_,.inl b⟩;subst e;exact absurd (Lr c.bk f _ b) (Nat.lt_irrefl _)
def pY.float(x:vI E ops iL.n)(h:pY E ops iL s0 g0 w0 done fr s bl listed g a w)(u:At ops i o)(B:done.testBit i=J)(H:ey o=J)(I:¬antiP ops.toList i)(K:∀j,Pre ops.toList i j->done.testBit j=W)
  (X:fM fr o.dst=W) {t:V S} (hf:(rW ops.toList fr o=W∧t=lU)∨(gI ops.toList fr o=Z Y∧∃t0,ek E Y fr s o Z=Z t0∧Ur t0 t)∨∃c t1,gI ops.toList fr o=Z (Z c)∧Hx c fr o.op=W∧ek E (Z c) (mg fr o.op) s o Z=Z t1∧t=.gd c t1) :
  pY E ops iL s0 g0 w0 (done||| 1 <<< i) (fr.iO o.dst t) s bl listed g a w:=by
 have cC:∀k,(fr.iO o.dst t).get k=if o.dst=Z k then Z t else fr.get k:=λk=>FC X h.nb
 have hnl:¬kW listed i:=λC=>by
  rcases h.ld i o u C with h1|h1
  .rw[B]at h1;cases h1
  .rw[H]at h1;cases h1
 have y:(fr.iO o.dst t).n=fr.n:=by cases o.dst<;>rfl
 have f:∀{j:Nat}{p:Oper},At ops j p->(j=i∨¬Pre ops.toList j i)->∀k,k∈tmpsOf p.op∨me ops.toList p=Z k->(fr.iO o.dst t).get k=fr.get k:=by
  intro j p q b k r;rw[cC,bK];intro z;obtain⟨h1,h2⟩:=Gk x q r u z;rcases b with rfl|b
  .exact h1 rfl
  .exact h2.elim b λh=>I h.2
 refine⟨h.GY,y.trans h.n,by rw[y];exact h.nb,by rw[y];exact h.QG,by rw[Cs,AT];exact h.df,λk M r hc=>?_,h.PR,λj p q b m R=>?_,λj p q C=>?_,λj p q b C=>?_,λj p q C b=>?_,λj m b R h1 h2=>?_,h.ym,?_,h.fl,λj ha b=>?_⟩
 .have z:o.dst≠Z k:=λe=>hnl ((hc i o u e).2 ((nh done i i).2 (.inr rfl)));rw[cC,bK z]at r;refine h.tm k M r λj p q A=>?_;have F:i≠j:=by
   rintro rfl
   have:o=p:=ew (u.symm.trans q);subst this;exact absurd A z
  exact(hc j p q A).trans ((nh done i j).trans ⟨λh=>h.resolve_right F,.inl⟩)
 .rw[nh]at b ⊢;rcases b with b|rfl
  .exact .inl (h.TR j p q b m R)
  .exact .inl (K m R)
 .rw[nh];exact(h.ld j p q C).imp .inl id
 .rw[nh]at b;rcases b with b|rfl
  .obtain ⟨h1,h2⟩:=h.fo j p q b C;have N:¬Pre ops.toList j i:=λhpr=>by have:=h.TR j p q b i hpr;rw[B]at this;cases this
   refine⟨h1,h2.move y (Bf x.us q) (λk r=>f q (.inr N) k (.inl r)) (λk r=>f q (.inr N) k (.inr r)) (λd A M l=>?_) (p:=λ_=>J) (.inl rfl)⟩;rw[cC,bK]at l
   .exact l
   .intro n;have F:i≠j:=λe=>by subst e;rw[B]at b;cases b
    exact((rI x.ds u n).2.2 q F).1 A
  .have:o=p:=ew (u.symm.trans q);subst this;have hu:=Bf x.us u;have ht:∀k∈tmpsOf o.op,(fr.iO o.dst t).get k=fr.get k:=λk r=>f u (.inl rfl) k (.inl r);have P:gI ops.toList (fr.iO o.dst t) o=gI ops.toList fr o:=nc λk r=>f u (.inl rfl) k (.inr r);refine⟨H,by cases n:o.dst<;>simp only[n,fM,bI.iO,bI.put]at X ⊢;exact X,?_⟩;rcases hf with⟨f1,rfl⟩|⟨f1,t0,f2,f3⟩|⟨c,t1,f1,f2,f3,rfl⟩
   .refine .inl ⟨(oN λk r=>f u (.inl rfl) k (.inr r)).trans f1,λd n M l=>?_⟩;rw[cC,aY n]at l;exact(ew l).symm
   .refine .inr (.inl ⟨P.trans f1,t0,by rw[gJ E Y o s Z (g8 ht)];exact f2,λd n M l=>?_⟩);rw[cC,aY n]at l;rw[<-ew l];exact f3
   .refine .inr (.inr ⟨c,P.trans f1,by rw[rA c ht];exact f2,t1,by rw[gJ E (Z c) o s Z (g8 (oW hu ht))];exact f3,λd n M l=>?_⟩);rw[cC,aY n]at l;exact(ew l).symm
 .have hj':done.testBit j=J:=by cases G:done.testBit j with|false=>rfl|true=>have:=(nh done i j).2 (.inl G);rw[b]at this;cases this
  exact h.ea j p q C hj'
 .have Q:∀j,(done||| 1 <<< i).testBit j=J->done.testBit j=J:=λj b=>by cases G:done.testBit j with|false=>rfl|true=>have:=(nh done i j).2 (.inl G);rw[b]at this;cases this
  exact h.eb j m b R (Q j h1) (Q m h2)
 .refine ⟨λk v r hv=>?_,by rw[AT];exact h.fk.df⟩;rcases h.fk.tm k v r hv with h1|h1
  .left
   rw[cC,bK]
   .exact h1
   .intro n;exact r (uE.2 ⟨o,gk u,n⟩)
  .exact .inr h1
 .rcases (nh done i j).1 b with b|rfl
  .exact h.an j ha b
  .exact absurd ha I
end
end
section
variable {i k:Nat}{o:Oper}{dst:Option Tmp}{v:Value}{g':Gh}{w':World}
def eF{listed:Array Bool}{j:Nat}(a:i<listed.size):kW (listed.setIfInBounds i W) j↔kW listed j∨i=j:=by
 unfold kW;by_cases h:i=j
 .subst h;simp[a]
 .rw[getD_set_ne J h];simp[h]
section
variable {E:fA S}{ops:Array Oper}{iL:bI S}{s0:aW S}{g0:Gh}{w0:World}{done:Nat}{fr:bI S}{s:aW S}{bl:Nat->Nat}{listed:Array Bool}{g:Gh}{a:Act}{w:World}
def r8(h:At ops i o):i<ops.size:=by have:=(sv.1 h).1;simpa using this
def Dw(h:At ops i o):ops[i]?=Z o:=by unfold At at h;simpa using h
def rf:∀t:T,cO [] t=J:=by
 intro t
 induction t using T.rec (motive_2:=λl=>gG [] l=J)with|fn f a b d g=>simp[cO,d,g]|cE t v e=>simp[cO,e]|agg i e=>simp[cO,e]|fQ i e=>simp[cO,e]|gd c v e=>simp[cO,e]|nil=>rfl|cons a l d h=>simp[gG,d,h]|_=>simp[cO]
def dead(ops:L Oper)(done:Nat)(listed:Array Bool):L Nat:=ops.zipIdx.filterMap λ(o,i)=>if listed.getD i J=done.testBit i then Y else o.dst
def Cn:k∈dead ops.toList done listed↔∃i o,At ops i o∧o.dst=Z k∧¬(kW listed i↔done.testBit i=W):=by
 have c:∀i,(listed.getD i J=done.testBit i)↔(kW listed i↔done.testBit i=W):=λi=>by unfold kW;cases listed.getD i J<;>cases done.testBit i<;>simp
 unfold dead;rw[uE];constructor
 .rintro ⟨⟨o,i⟩,d,h⟩
  dsimp only at h;split at h
  .cases h
  .rename_i a;exact⟨i,o,GN.1 d,h,λb=>a ((c i).2 b)⟩
 .rintro ⟨i,o,e,f,a⟩
  refine⟨(o,i),GN.2 e,?_⟩;dsimp only;rw[bK λb=>a ((c i).1 b)];exact f
def YP(a:L Nat)(fr:bI S):bI S:={fr with tm:=a.foldl (λt k=>t.del aA k) fr.tm}
def pY.core(h:pY E ops iL s0 g0 w0 done fr s bl listed g a w):OO E ops iL s0 g0 w0 done fr s listed g a w:=⟨h.n,h.nb,h.QG,h.df,h.tm,h.TR,h.ym⟩
def OO.adX(c:vI E ops iL.n)(h:OO E ops iL s0 g0 w0 done fr s listed g a w):cg g (bh (YP (dead ops.toList done listed) fr)) a w∧(YP (dead ops.toList done listed) fr).n=fr.n∧
  ∀{i:Nat}{o:Oper},At ops i o->(∀j,Pre ops.toList i j->kW listed j∧done.testBit j=W)->(∀j,antiP ops.toList j->Pre ops.toList j i->¬kW listed j∧done.testBit j=J)->∀k,k∈tmpsOf o.op∨me ops.toList o=Z k->fr.get k=(YP (dead ops.toList done listed) fr).get k:=by
 have cC:∀k,(YP (dead ops.toList done listed) fr).get k=if k∈dead ops.toList done listed then Y else fr.get k:=λk=>Tr.mb _ _ _ λb r=>by obtain⟨i,o,m,d,_⟩:=Cn.1 r;exact(rI c.ds m d).1
 refine⟨⟨h.QG,h.df,λk t e=>?_⟩,rfl,λ{i o}u q x k e=>?_⟩
 .rw[bF,ec]at e;obtain⟨v,f,rfl⟩:=e;rw[cC]at f;split at f
  .cases f
  .rename_i n;exact h.tm k v f λi o m d=>NI λl=>n (Cn.2 ⟨i,o,m,d,l⟩)
 .rw[cC,bK];intro y;obtain⟨j,p,z,d,l⟩:=Cn.1 y;rcases(Gk c u e z d).2 with h1|⟨h1,h2⟩
  .exact l ⟨λ_=>(q j h1).2,λ_=>(q j h1).1⟩
  .obtain ⟨h3,h4⟩:=x j h2 h1;exact l ⟨λh=>absurd h h3,λh=>by rw[h4]at h;cases h⟩
def uA{a:Act}(h:dst≠Z k):(a.put dst v).tmps[k]?=a.tmps[k]?:=by cases dst with|none=>rfl|some d=>have:d≠k:=λe=>h (by rw[e]);simp[Act.put,Sf this]
def BU{a:Act}{d:Nat}(h:d<a.tmps.size):(a.put (Z d) v).tmps[d]?=Z v:=by simp[Act.put,h]
def qi{a:Act}:(a.put dst v).tmps.size=a.tmps.size∧(a.put dst v).defers=a.defers:=by cases dst<;>simp[Act.put]
def cr.J0{s s':aW S}{g:Gh}{w:World}(h:cr [] s g w s' g' w'){l:L Df}{m:L Deferred}(c:ei g w l m):ei g' w' l m:=
 c.imp (λt v d=>h.tr t v d (rf t)) λo b e=>by have:=h.tr _ _ (.ptr o 0 b e) (rf _);cases this with|ptr _ _ _ a=>exact a
def pY.meet(G:vI E ops iL.n)(h:pY E ops iL s0 g0 w0 done fr s bl listed g a w)(B:At ops i o)(C:done.testBit i=W)(hl:∀e∈uK o,kW listed e)(x:fM fr o.dst=W)
  (n:cr [] s g w s g' w') (N:∀d,o.dst=Z d->∀t,fr.get d=Z t->aC g' w' (low t) v):pY E ops iL s0 g0 w0 done fr s bl (listed.setIfInBounds i W) g' (a.put o.dst v) w':=by
 have q:i<listed.size:=by rw[h.GY];exact r8 B
 have r:∀{j:Nat}{p:Oper}{k:Nat},At ops j p->j≠i->p.dst=Z k->o.dst≠Z k:=λf r l c=>((rI G.ds B c).2.2 f (Ne.symm r)).1 l;refine⟨by simpa using h.GY,h.n,h.nb,qi.1.trans h.QG,by rw[qi.2];exact n.J0 h.df,λk t I P=>?_,λj p f b e K=>?_,h.TR,λj p f b=>?_,λj p f b y=>?_,λj p f b y=>?_,λj m b F h1 h2=>?_,h.ym.trans n.Vm,h.fk,h.fl,λj n b=>(eF q).2 (.inl (h.an j n b))⟩
 .by_cases c:o.dst=Z k
  .have H:k<fr.n:=by rw[c]at x;exact eN x
   exact⟨v,by rw[c];exact BU (by rw[h.QG];exact H),N k c t I⟩
  .obtain ⟨u,Q,R⟩:=h.tm k t I λj p f l=>by have h1:=P j p f l;rw[eF q]at h1;refine Iff.trans ⟨.inl,λh=>h.elim id λe=>?_⟩ h1;subst e;have:o=p:=ew (B.symm.trans f);subst this;exact absurd l c
   exact⟨u,by rw[uA c];exact Q,n.tr _ _ R (rf _)⟩
 .rw[eF q]at b ⊢;rcases b with b|rfl
  .exact .inl (h.PR j p f b e K)
  .have:o=p:=ew (B.symm.trans f);subst this;exact .inl (hl e K)
 .rw[eF q]at b;rcases b with b|rfl
  .exact h.ld j p f b
  .exact .inl C
 .exact h.fo j p f b λhl=>y ((eF q).2 (.inl hl))
 .rw[eF q]at b;have A:j≠i:=λe=>by subst e;rw[C]at y;cases y
  have b:kW listed j:=b.elim id λe=>absurd e.symm A;obtain⟨h1,h2⟩:=h.ea j p f b y;refine⟨λt S d X q2 M=>?_,gN h2 n.ext.size⟩;obtain⟨z,r1,r2,r3⟩:=h1 t S d X q2 M;exact⟨z,by rw[uA (r f A M)];exact r1,r2.ym n h.fl,r3⟩
 .rw[eF q]at b F;have b:kW listed j:=b.elim id λe=>by subst e;rw[C]at h1;cases h1
  have F:kW listed m:=F.elim id λe=>by subst e;rw[C]at h2;cases h2
  exact h.eb j m b F h1 h2
def at_mem{ops:Array Oper}(h:At ops i o):o∈ops.toList:=gk (show ops.toList[i]?=Z o from by rw[Pj];exact Dw h)
def pY.XJ(hE:eA E)(b:vI E ops iL.n)(h:pY E ops iL s0 g0 w0 done fr s bl listed g a w)(m:At ops i o)(B:done.testBit i=W)(F:¬kW listed i)(hl:∀e∈uK o,kW listed e)
  {K:Act->World->Prop} {Q:Exit->Act->World->Prop} (I:∀g' a' w',pY E ops iL s0 g0 w0 done fr s bl (listed.setIfInBounds i W) g' a' w'->K a' w') {rr:O Nat} (M:rr≠Y->∀o∈ops.toList,∀c,o.op≠.defer c):zi rr E.T.E.P ops Q i K a w:=by
 have z:rr≠Y->∀c,o.op≠.defer c:=λhr=>M hr o (at_mem m);obtain⟨hna,u,hf⟩:=h.fo i o m B F;obtain⟨n,N,P⟩:=h.core.adX b;have R:∀j,Pre ops.toList i j->kW listed j∧done.testBit j=W:=λj hj=>⟨lf b.bk (λi o S hl=>h.PR i o S hl) m hl j hj,h.TR i o m B j hj⟩;have p:=P m R λj ha X=>by
  have G:¬kW listed j:=λhlj=>by obtain⟨q,hq,_⟩:=ha;exact F (lf b.bk (λi o S hl=>h.PR i o S hl) hq (h.PR j q hq hlj) i X)
  refine⟨G,?_⟩;cases FB:done.testBit j with|false=>rfl|true=>exact absurd (h.an j ha FB) G
 have H:gI ops.toList fr o=gI ops.toList (YP (dead ops.toList done listed) fr) o:=nc λk x=>p k (.inr x);have A:∀k∈tmpsOf o.op,fr.get k=(YP (dead ops.toList done listed) fr).get k:=λk x=>p k (.inl x);unfold zi;simp only[Dw m];rcases hf with⟨f1,f3⟩|⟨f1,t,f2,f3⟩|⟨c,f1,f4,t,f2,f3⟩
 .rw[oN (fr':=YP (dead ops.toList done listed) fr) λk x=>p k (.inr x)]at f1;rw[bK (by rw[zu n f1];exact Bool.noConfusion)];exact I _ _ _ (h.meet b m B hl u (cr.refl h.ym.rel) λd f y l=>by rw[f3 d f y l];exact Io)
 .rw[H]at f1;have C:=m9 n f1;simp only at C;rw[aY C];refine .of_wp z (.inl ?_);rw[gJ E Y o s Z (g8 A)]at f2;refine pP hE n h.ym.rel (.inl rfl) f2 (λy g' v w' x r ht=>?_);cases x;exact I _ _ _ (h.meet b m B hl u r λd f y l=>(f3 d f y l).rel ht)
 .rw[H]at f1;have C:=m9 n f1;simp only at C;rw[gJ E (Z c) o s Z (g8 (oW (Bf b.us m) A))]at f2;cases c with
  |true=>rw[aY C];refine .of_wp z (.inl ?_);rw[rA W A]at f4;obtain⟨hff,hfn'⟩:=s8 n (by rw[N];exact h.nb) f4;refine pP hE hff h.ym.rel (.inr rfl) f2 (λy g' v w' x r ht=>?_);cases x;exact I _ _ _ (h.meet b m B hl u r λd f y l=>by rw[f3 d f y l];simp only[low];exact .gd _ _ _ λ_=>ht)
  |false=>rw[bK (by rw[C];exact Bool.noConfusion)];exact I _ _ _ (h.meet b m B hl u (cr.refl h.ym.rel) λd f y l=>by rw[f3 d f y l];simp only[low];exact .gd _ _ _ λh=>by cases h)
def pY.XK(hE:eA E)(N:vI E ops iL.n)(h:pY E ops iL s0 g0 w0 done fr s bl listed g a w)(r:At ops i o)(hd:done.testBit i=J)(P:ey o=W)(hnl:¬kW listed i)(hl:∀e∈uK o,kW listed e)
  {K:Act->World->Prop} {Q:Exit->Act->World->Prop} (hK:∀Ke a' w',pY E ops iL s0 g0 w0 done fr s Ke (listed.setIfInBounds i W) g a' w'->K a' w') {rr:O Nat} (hrr:rr≠Y->∀o∈ops.toList,∀c,o.op≠.defer c):zi rr E.T.E.P ops Q i K a w:=by
 have R:rr≠Y->∀c,o.op≠.defer c:=λhr=>hrr hr o (at_mem r);obtain⟨hg,⟨t,ti,S,X⟩,hdn⟩:=T7 N.al r P;obtain⟨xi,dd,z,LS,_,_,_,hz,xm,_⟩:=(hE.OZ.ti _ _ X).all;unfold zi;simp only[Dw r];rw[aY (by simp[Region.wanted,hg])];refine .of_wp R (.inl ?_);unfold Oper.wp;have hrun:(execOp a.eval o).run E.T.E.P w=.ok (.value (.pointer (Z ⟨w.heap.size,0,Y⟩))) (w.alloc (.cells z.cells t)):=by simp[execOp,S,Instr.alloc,dQ LS hz,newVar,newRow]
 rw[hrun];simp only[Oper.upon];have C:i<listed.size:=by rw[h.GY];exact r8 r
 have G:=h.ym.rel;have hsz:(w.alloc (.cells z.cells t)).heap.size=w.heap.size+1:=by simp
 obtain⟨hs',H⟩:=G.grow (fl:=s.fl) (I:=g.bf) (w':=w.alloc (.cells z.cells t)) (λ_ h=>h) (λ_ h=>.inl h) (λb hb=>by have:=G.bf b hb;omega) (by omega) (λb hb=>nF w _ b hb) rfl rfl;have F:∀{j:Nat}{p:Oper}{k:Nat},At ops j p->j≠i->p.dst=Z k->o.dst≠Z k:=λl F x y=>((rI N.ds r y).2.2 l (Ne.symm F)).1 x;refine hK (λj=>if j=i then w.heap.size else bl j) _ _ ⟨by simpa using h.GY,h.n,h.nb,qi.1.trans h.QG,by rw[qi.2];exact h.df.imp (λt v ht=>ht.ext H G.bf) (λ_ _ h=>h),λk t' hk hc=>?_,λj p l f e H=>?_,h.TR,λj p l f=>?_,λj p l f hn=>?_,λj p l f hn=>?_,λj m f hm h1 h2 WB A ZO=>?_,?_,h.fk,h.fl,λj ha f=>(eF C).2 (.inl (h.an j ha f))⟩
 .have y:o.dst≠Z k:=λe=>by have:=(hc i o r e).1 ((eF C).2 (.inr rfl));rw[hd]at this;cases this
  obtain⟨u,hu,ht⟩:=h.tm k t' hk λj p l x=>by have h1:=hc j p l x;rw[eF C]at h1;refine Iff.trans ⟨.inl,λh=>h.elim id λe=>?_⟩ h1;subst e;have:o=p:=ew (r.symm.trans l);subst this;exact absurd x y
  exact⟨u,by rw[uA y];exact hu,ht.ext H G.bf⟩
 .rw[eF C]at f ⊢;rcases f with f|rfl
  .exact .inl (h.PR j p l f e H)
  .have:o=p:=ew (r.symm.trans l);subst this;exact .inl (hl e H)
 .rw[eF C]at f;rcases f with f|rfl
  .exact h.ld j p l f
  .have:o=p:=ew (r.symm.trans l);subst this;exact .inr P
 .exact h.fo j p l f λhl=>hn ((eF C).2 (.inl hl))
 .by_cases B:j=i
  .subst B;have:o=p:=ew (r.symm.trans l);subst this;simp only[qg];refine⟨λt' ti' d q1 q2 q3=>?_,by omega⟩;rw[S]at q1;cases q1;rw[X]at q2;cases q2;have hdl:d<a.tmps.size:=by rw[h.QG,h.n];exact hdn d q3
   refine⟨z.cells,by rw[q3];exact BU hdl,⟨h.ym.ext.size,by omega,λPZ=>?_,λk hO=>?_,t,uy w _⟩,xm⟩
   .have:=G.bf _ PZ;omega
   .have:=(G.nX hO).1;omega
  .rw[eF C]at f;have f:kW listed j:=f.elim id λe=>absurd e.symm B;obtain⟨h1,h2⟩:=h.ea j p l f hn;simp only[bK B];refine⟨λt ti d q1 q2 q3=>?_,by omega⟩;obtain⟨z',r1,M,r3⟩:=h1 t ti d q1 q2 q3;obtain⟨ty,r4⟩:=M.mem;exact⟨z',by rw[uA (F l B q3)];exact r1,⟨M.new,by have:=M.lt;omega,M.bf,M.own,ty,by rw[nF w _ _ M.lt];exact r4⟩,r3⟩
 .have hlt:∀j,kW listed j->done.testBit j=J->j<ops.size->bl j<w.heap.size:=λj f FB A=>by
   have A1:At ops j ops[j]:=by simp[At,A]
   exact(h.ea j _ A1 f FB).2
  rw[eF C]at f hm;by_cases n:j=i<;>by_cases q:m=i
  .omega
  .rw[aY n,bK q];have:=hlt m (hm.elim id λe=>absurd e.symm q) h2 ZO;omega
  .rw[bK n,aY q];have:=hlt j (f.elim id λe=>absurd e.symm n) h1 A;omega
  .rw[bK n,bK q];exact h.eb j m (f.elim id λe=>absurd e.symm n) (hm.elim id λe=>absurd e.symm q) h1 h2 WB A ZO
 .have hx:mz s.lo s.fl g w g (w.alloc (.cells z.cells t)):=Ext.Eb s.lo H;exact⟨hs',h.ym.ext.trans (h.ym.fl▸h.ym.lo▸hx),h.ym.fl,h.ym.lo,h.ym.au,h.ym.rU,h.ym.same,h.ym.Ey⟩
end
end
section
section
variable {E:fA S}{ops:Array Oper}{iL:bI S}{s0:aW S}{g0:Gh}{w0:World}{done:Nat}{fr:bI S}{s:aW S}{bl:Nat->Nat}{listed:Array Bool}{g:Gh}{a:Act}{w:World}
def PF(l:L Oper):((pJ l).map (·.1)).Nodup:=by
 have:(pJ l).map (·.1)=List.range l.length:=by unfold pJ;rw[List.map_map];have:((λx:Nat×Oper=>x.1)∘λp:Oper×Nat=>(p.2,p.1))=Prod.snd:=rfl;rw[this,List.zipIdx_map_snd];simp[List.range_eq_range']
 rw[this];exact List.nodup_range
def pY.si(M:vI E ops iL.n)(h:pY E ops iL s0 g0 w0 done fr s bl listed g a w){c:Nat}{qv:bI S}{s1:aW S}(N:si E.T c (pJ ops.toList) fr s=Z (qv,s1))
  (P:∀j,c.testBit j=W->kW listed j∧(uX (pJ ops.toList) done).testBit j=W) (Q:∀j,c.testBit j=W->∀m,Pre ops.toList j m->done.testBit m=W∨c.testBit m=W) :
  ∃H,Adp E.T c (pJ ops.toList) fr s g w a qv s1 H∧OO E ops iL s0 g0 w0 (done||| c) qv s1 listed H a w:=by
 have n:∀{j:Nat}{o:Oper},At ops j o->c.testBit j=W->kW listed j∧ey o=W∧done.testBit j=J:=λ{j o}y A=>by obtain⟨h1,h2⟩:=P j A;obtain⟨o',R,h3,h4⟩:=(sO done j).1 h2;have:o=o':=ew (y.symm.trans R);subst this;exact⟨h1,h3,h4⟩
 have f:∀{p:Nat×Oper},p∈pJ ops.toList->At ops p.1 p.2:=λ{p}r=>ia.1 r;obtain⟨H,l⟩:=Kn (w0:=w0) (bl:=bl) N h.nb h.ym.rel (λp r B=>by
   obtain⟨h1,_,h3⟩:=n (f r) B;exact(h.ea p.1 p.2 (f r) h1 h3).1) (PF _) (λp r q I X hqw F=>by
   obtain⟨h1,_,h3⟩:=n (f r) X;obtain⟨h4,_,h6⟩:=n (f I) hqw;exact h.eb p.1 q.1 h1 h4 h3 h6 F (r8 (f r)) (r8 (f I))) (λp r q I F d C=>((rI M.ds (f r) C).2.2 (f I) F).1)
 refine⟨H,l,⟨l.n.trans h.n,by rw[l.n];exact h.nb,by rw[l.n];exact h.QG,by rw[Cs,l.J0];exact h.df.imp (λ_ _ ht=>ht.le l.le) l.le.bG,λk t hk hc=>?_,λj p r A m hm=>?_,?_⟩⟩
 .by_cases G:∃p∈pJ ops.toList,c.testBit p.1=W∧p.2.dst=Z k
  .exact l.new k G t hk
  .rw[l.old k λp r B C=>G ⟨p,r,B,C⟩]at hk;obtain⟨v,hv,ht⟩:=h.tm k t hk λi o hi C=>by have h1:=hc i o hi C;rw[wW,ir]at h1;exact h1.trans ⟨λh=>h.elim id λB=>absurd ⟨(i,o),ia.2 hi,B,C⟩ G,.inl⟩
   exact⟨v,hv,ht.le l.le⟩
 .rw[wW,ir]at A ⊢;rcases A with A|A
  .exact .inl (h.TR j p r A m hm)
  .exact Q j A m hm
 .have u:=h.ym;refine⟨l.rel,⟨λo b e=>l.le.bG o b (u.ext.bG o b e),λo e x hl k=>l.le.arr o e x (u.ext.arr o e x hl k),λb K=>l.le.bf b (u.ext.bf b K),u.ext.size,u.ext.heap,λo b hl hO=>?_,λb K=>u.ext.pN b (by rw[l.bf]at K;exact K),u.ext.os,u.ext.output⟩,l.fl.trans u.fl,l.lo.trans u.lo,eO u.au l.au,λo y=>by rw[l.wr];exact u.rU o y,λo y hn=>?_,λo y=>by rw[l.dr];exact u.Ey o y⟩
  .rcases l.own o b hO with hO|⟨p,r,B,d,C,Zw⟩
   .exact u.ext.own o b hl hO
   .obtain ⟨h1,_,h3⟩:=n (f r) B;obtain⟨t,ti,d',e1,e2,e3,_⟩:=l.W1 p r B;obtain⟨z,r1,r2,_⟩:=(h.ea p.1 p.2 (f r) h1 h3).1 t ti d' e1 e2 e3;have:d=d':=ew (C.symm.trans e3);subst this;rw[Zw]at r1;cases r1;exact .inr r2.new
  .rw[l.ob o (gN y u.au)];exact u.same o y (by rw[l.wr]at hn;exact hn)
variable {ow:List Nat}{k:Nat}{v:V S}
def tc(h:(cQ ow fr).get k=Z v):fr.get k=Z v∧cO ow (low v)=J:=by cases ow with|nil=>exact⟨h,rf _⟩|cons o ow=>simp only[cQ,bI.get,Tr.l9]at h;rw[I0]at h;refine⟨h.1,?_⟩;have:=h.2;rw[jq];simpa using this
def xB(h:fr.get k=Z v)(a:gw ow v=J):(cQ ow fr).get k=Z v:=by cases ow with|nil=>exact h|cons o ow=>simp only[cQ,bI.get,Tr.l9];rw[I0];exact⟨h,by simp[a]⟩
def JL{call:gm S}{l:L Oper}{o:Oper}{ω:Type}{kp:V S->aW S->O ω}{k:V S->aW S->L Nat->O ω}{r:ω}(h:lQ E call l o fr s kp k=Z r):fM fr o.dst=W:=by
 unfold lQ at h;rcases aa h with⟨a,_⟩|⟨_,h⟩
 .exact a
 .cases h
def Ro{done i:Nat}{au:Nat}{wr:L Nat}:∀{l:Q0},Bm ops.toList (tG ops.toList) done i fr au wr ow l=W->∀{j:Nat}{p:Oper},(j,p)∈l->done.testBit j=W->ey p=J->¬Pre ops.toList i j->
  (iH (cS wr au) fr p.op=J∧iH (cS wr au) (mg fr p.op) p.op=J)∨(I5 p.op=W∧iH (λx=>ow.contains x) fr p.op=J∧iH (λx=>ow.contains x) (mg fr p.op) p.op=J):=by
 intro l
 induction l with
 |nil=>intro _ j p hm;cases hm
 |cons q l d=>
  intro h j p hm c a b;obtain⟨f,g⟩:=q;simp only[Bm,dI]at h;rcases ej.1 hm with e|hm
  .cases e;have h1:=h.1;simp only[c,a,BG,E5]at h1;rw[ir]at h1;rcases h1 with h1|h1
   .exact absurd h1 b
   .simpa using h1
  .exact d h.2 hm c a b
end
end
section
section
variable {E:fA S}{ops:Array Oper}{iL:bI S}{s0:aW S}{g0:Gh}{w0:World}{done:Nat}{fr:bI S}{s:aW S}{bl:Nat->Nat}{listed:Array Bool}{g:Gh}{a:Act}{w:World}
variable {o:Oper}{k:Nat}{v:V S}
def zM{p:Nat->Bool}{o:Op}(h:iH p fr o=J)(b:k∈tmpsOf o)(c:fr.get k=Z v):bQ p v=J:=by obtain⟨x,d,a⟩:=uE.1 b;cases x with|tmp j=>simp only[aV]at a;subst a;unfold iH at h;have:=NA.1 h _ d;have e:bT fr (.tmp j)=Z v:=c;rw[e]at this;simpa using this|_=>cases a
def PJ{ow wr:L Nat}{au:Nat}(a:∀o∈ow,o∈wr)(h:bQ (cS wr au) v=J):gw ow v=J:=by
 cases b:gw ow v with
 |false=>rfl
 |true=>
  rw[m6]at b;have:=dJ (q:=cS wr au) (λo c=>by
   have:o∈ow:=by simpa using c
   simp[cS,a o this]) v b
  rw[h]at this;cases this
def Ix{ops:L Oper}{fr:bI S}(h:rW ops fr o=W)(a:me ops o=Z k)(e:fr.get k=Z v):(∃b,v=.kb b)∨∃l,v=.dat (.lit (.tuple l)):=by
 unfold rW at h;unfold me at a;cases c:o.guard with
 |none=>rw[c]at a;cases a
 |some q=>
  obtain⟨j,d⟩:=q;simp only[c]at h a;rw[a,GJ,e]at h;split at h
  .rename_i b f;cases f;exact .inl ⟨b,rfl⟩
  .rename_i l g;cases g;exact .inr ⟨l,rfl⟩
  .cases h
def pY.step(hE:eA E){call:gm S}(u6:fL E.T.E.P call)(C:vI E ops iL.n)(h:pY E ops iL s0 g0 w0 done fr s bl listed g a w){i:Nat}(H:At ops i o)(hd:done.testBit i=J)(hnl:¬kW listed i)(hl:∀e∈uK o,kW listed e)
  (hsub:∀j,Pre ops.toList i j->done.testBit j=W∨(uX (pJ ops.toList) done).testBit j=W) {qv:bI S} {s1:aW S} (had:TL.si E.T (uX (pJ ops.toList) done&&& (tG ops.toList).getD i 0) (pJ ops.toList) fr s=Z (qv,s1))
  {ω:Type} {kp:bI S->V S->aW S->O ω} {k:Nat->bI S->aW S->O ω} {r:ω}
  (hev:lQ E call ops.toList o qv {s1 with wr:=[]} (λt s'=>kp (aaq ops.toList qv) t {s' with wr:=s'.wr++s1.wr}) (λt s' ow=>bif Bm ops.toList (tG ops.toList) done i fr s.au s'.wr ow (pJ ops.toList)then
   k (done||| (uX (pJ ops.toList) done&&& (tG ops.toList).getD i 0)||| 1 <<< i) ((cQ ow qv).iO o.dst t) {s' with wr:=s'.wr++s1.wr}else Y)=Z r)
  {K:Act->World->Prop} {Q:Exit->Act->World->Prop}
  (hK:∀done' fr' s' g' a' w',k done' fr' s'=Z r->pY E ops iL s0 g0 w0 done' fr' s' bl (listed.setIfInBounds i W) g' a' w'->K a' w')
  (hP:∀fr' t s' g' a' v w',kp fr' t s'=Z r->fr'.n=iL.n->cg g' (bh fr') a' w'->eC s0 g0 w0 s' g' w'->fe (ops.toList.filterMap (·.dst)) iL fr' s'.dr s0.au->aC g' w' (low t) v->Q (.panic [{v,recovered:=J}]) a' w') {rr:O Nat} (hrr:rr≠Y->∀o∈ops.toList,∀c,o.op≠.defer c):zi rr E.T.E.P ops Q i K a w:=by
 have aik:rr≠Y->∀c,o.op≠.defer c:=λhr=>hrr hr o (at_mem H);have hi:i<listed.size:=by rw[h.GY];exact r8 H
 have Fy:∀j,Pre ops.toList i j->kW listed j:=lf C.bk (λi o hi hl=>h.PR i o hi hl) H hl;generalize hwe:uX (pJ ops.toList) done&&& (tG ops.toList).getD i 0=which at had hev;have X:∀j,which.testBit j=W↔(uX (pJ ops.toList) done).testBit j=W∧Pre ops.toList i j:=λj=>by rw[<-hwe,Nat.testBit_and,dI];rfl
 obtain⟨g1,hA,R⟩:=h.si C had (λj hj=>⟨Fy j ((X j).1 hj).2,((X j).1 hj).1⟩) (λj hj m hm=>by
  have hpm:=Pq C.bk H ((X j).1 hj).2 hm;exact(hsub m hpm).imp id λB=>(X m).2 ⟨B,hpm⟩)
 have ZF:∀j,Pre ops.toList i j->(done||| which).testBit j=W:=λj hj=>by rw[wW,ir];exact(hsub j hj).imp id λB=>(X j).2 ⟨B,hj⟩
 have Zu:∀{j:Nat}{q:Oper},At ops j q->which.testBit j=W->kW listed j∧ey q=W∧done.testBit j=J:=λ{j q}A hj=>by obtain⟨o',ho',h3,h4⟩:=(sO done j).1 ((X j).1 hj).1;have:q=o':=ew (A.symm.trans ho');subst this;exact⟨Fy j ((X j).1 hj).2,h3,h4⟩
 have hwi:which.testBit i=J:=by cases hh:which.testBit i with|false=>rfl|true=>exact absurd (Lr C.bk H i ((X i).1 hh).2) (Nat.lt_irrefl _)
 have N:fM qv o.dst=W:=JL hev;have hdst:fM (cQ (S:=S) [] qv) o.dst=W:=N;obtain⟨hfr,hfn,XZ⟩:=R.adX C;have aab:=XZ H (λj hj=>⟨Fy j hj,ZF j hj⟩) λj ha F=>by
  obtain⟨q,A,_⟩:=ha;have hnj:¬kW listed j:=λhlj=>hnl (lf C.bk (λi o hi hl=>h.PR i o hi hl) A (h.PR j q A hlj) i F);refine⟨hnj,?_⟩;cases FB:(done||| which).testBit j with
  |false=>rfl
  |true=>
   rw[wW,ir]at FB;rcases FB with FB|FB
   .have:=h.TR j q A FB i F;rw[hd]at this;cases this
   .exact absurd (Zu A FB).1 hnj
 rw[Et E call _ _ _ hfn.symm (Bf C.us H) (λk n=>aab k (.inl n)) (λk n=>aab k (.inr n))]at hev;have Eo:aU g1 (aq {s1 with wr:=[]}) w:=R.ym.rel;unfold zi;simp only[Dw H];refine(pO hE u6 (by rw[hfn];exact R.nb) hfr Eo hev (λt s' ow g' v w' n ht f=>?_) (λt s' g' v w' n f ht=>?_) aik).2
 .rcases aa n with⟨ac0,n⟩|⟨_,n⟩;rotate_left
  .cases n
  refine hK _ _ _ g' _ w' n ?_;have adw:s1.fl=0:=hA.fl.trans h.fl;have hnf:∀ow':L Nat,(cQ ow' qv).n=qv.n:=λow'=>qw ow' qv;have aiB:fM (cQ ow qv) o.dst=W:=w9 N;have cC:∀k,((cQ ow qv).iO o.dst t).get k=if o.dst=Z k then Z t else(cQ ow qv).get k:=λk=>FC aiB (by rw[hnf];exact R.nb)
  have hnn:((cQ ow qv).iO o.dst t).n=qv.n:=by
   have:((cQ ow qv).iO o.dst t).n=(cQ ow qv).n:=by cases o.dst<;>rfl
   rw[this,hnf]
  have adN:eC s1 g1 w {s' with wr:=s'.wr++s1.wr} g' w':=
   ⟨f.rel,f.ext,f.fl,f.lo,f.au,λo H=>gp _ H,λo H hn=>f.same o H (λhm=>hn (dH _ hm)),f.Ey⟩
  have hne:∀{j:Nat}{p:Oper}{k:Nat},At ops j p->j≠i->p.dst=Z k->o.dst≠Z k:=λB hne ZF I=>((rI C.ds H I).2.2 B (Ne.symm hne)).1 ZF;have M:∀j,(done||| which||| 1 <<< i).testBit j=W↔(done.testBit j=W∨which.testBit j=W)∨i=j:=λj=>by rw[nh,wW,ir]
  refine⟨by simpa using h.GY,hnn.trans R.n,by rw[hnn];exact R.nb,by rw[qi.1,hnn];exact R.QG,?_,λk t' G hc=>?_,λj p B hj e he=>?_,λj p B hj m hm=>?_,λj p B hj=>?_,λj p B hj hn=>?_,λj p B hj hn=>?_,λj m hj hm h1 h2 WB Jy ZO=>?_,R.ym.trans adN,?_,f.fl.trans adw,λj ha hj=>?_⟩
  .rw[qi.2,Cs,AT];cases ow with|nil=>exact f.J0 R.df|cons x ow=>exact(fR (λv=>jq _ v) (λ_ _=>rfl) qv.df).rel f.tr R.df
  .rw[cC]at G;by_cases I:o.dst=Z k
   .rw[aY I]at G;cases G;have hk2:k<qv.n:=by rw[I]at N;exact eN N
    exact⟨v,by rw[I];exact BU (by rw[R.QG];exact hk2),ht⟩
   .rw[bK I]at G;obtain⟨h1,h2⟩:=tc G;obtain⟨u,hu,htu⟩:=R.tm k t' h1 λj p B ZF=>by
     have c1:=hc j p B ZF;have F:j≠i:=λe=>by subst e;have:o=p:=ew (H.symm.trans B);subst this;exact I ZF
     rw[eF hi,M]at c1;rw[wW,ir];exact⟨λh=>(c1.1 (.inl h)).elim id λe=>absurd e.symm F,λh=>(c1.2 (.inl h)).elim id λe=>absurd e.symm F⟩
    exact⟨u,by rw[uA I];exact hu,f.tr _ _ htu h2⟩
  .rw[eF hi]at hj ⊢;rcases hj with hj|rfl
   .exact .inl (h.PR j p B hj e he)
   .have:o=p:=ew (H.symm.trans B);subst this;exact .inl (hl e he)
  .rw[M]at hj ⊢;rcases hj with hj|rfl
   .left
    have:=R.TR j p B (by rw[wW,ir];exact hj) m hm;rwa [wW,ir]at this
   .left
    have:=ZF m hm;rwa [wW,ir]at this
  .rw[eF hi]at hj;rw[M];rcases hj with hj|rfl
   .exact (h.ld j p B hj).imp (λh=>.inl (.inl h)) id
   .exact .inl (.inr rfl)
  ·
   have F:j≠i:=λe=>hn ((eF hi).2 (.inr e.symm));have hnl:¬kW listed j:=λhl=>hn ((eF hi).2 (.inl hl));have FB:done.testBit j=W:=by
    rcases(M j).1 hj with(hj|hj)|hj
    .exact hj
    .exact absurd (Zu B hj).1 hnl
    .exact absurd hj.symm F
   obtain⟨hna,hfo⟩:=h.fo j p B FB hnl;have hnp:¬Pre ops.toList i j:=λhpr=>hnl (Fy j hpr);have hmm:=Ro ac0 (ia.2 B) FB hna hnp;have hpi:∀{m:Nat}{q:Oper}{k:Nat},At ops m q->(m=i∨which.testBit m=W)->(k∈tmpsOf p.op∨me ops.toList p=Z k)->q.dst≠Z k:=by
    intro m q k A hm n P;have hpre:Pre ops.toList j m:=by
     rcases(Gk C B n A P).2 with h1|⟨h1,_⟩
     .exact h1
     .exfalso;rcases hm with rfl|hm
      .exact hnp h1
      .exact hnl (lf C.bk (λi o hi hl=>h.PR i o hi hl) A (h.PR m q A (Zu A hm).1) j h1)
    have:=h.TR j p B FB m hpre;rcases hm with rfl|hm
    .rw[hd]at this;cases this
    .rw[(Zu A hm).2.2]at this;cases this
   have hold:∀k,(k∈tmpsOf p.op∨me ops.toList p=Z k)->qv.get k=fr.get k:=λk n=>hA.old k λq A hw=>hpi (ia.1 A) (.inr hw) n;have hput:∀k,(k∈tmpsOf p.op∨me ops.toList p=Z k)->((cQ ow qv).iO o.dst t).get k=(cQ ow qv).get k:=λk n=>by rw[cC,bK (hpi H (.inl rfl) n)]
   have acZ:∀o∈ow,o∈s'.wr:=f.oww;have hkeep:∀k,fr.get k=qv.get k->(∀v,fr.get k=Z v->gw ow v=J)->(cQ ow qv).get k=fr.get k:=λk he hm=>by
    cases hfk:fr.get k with
    |some v=>exact xB (he▸hfk) (hm v hfk)
    |none=>
     cases ai7:(cQ ow qv).get k with|none=>rfl|some v=>have:=(tc ai7).1;rw[<-he,hfk]at this;cases this
   have hno:∀k v,k∈tmpsOf p.op->fr.get k=Z v->gw ow v=J:=λk v n hv=>by
    rcases hmm with⟨Tb,_⟩|⟨_,Tb,_⟩
    .exact PJ acZ (zM Tb n hv)
    .rw[m6];exact zM Tb n hv
   have hsame:∀x,cS s'.wr s.au x=J->({s' with wr:=s'.wr++s1.wr}:aW S).ob.get x=s.ob.get x:=λx hx=>by
    simp only[cS,vT]at hx;have hx1:x∉s'.wr:=by simpa using hx.1
    have hx2:x<s.au:=by
     rcases uW x s.au with h|h
     .exact h
     .have:=Av h;rw[hx.2]at this;cases this
    have:=f.same x (gN hx2 hA.au) hx1;exact this.trans (hA.ob x hx2)
   refine⟨hna,hfo.move (hnn.trans hA.n) (Bf C.us B) (λk n=>?_) (λk n=>?_) (λd ac3 t' ht'=>?_) (p:=cS s'.wr s.au) (.inr (hmm.imp (λh=>⟨h.1,h.2,hsame⟩) (λh=>h.1)))⟩
   .rw[hput k (.inl n)];exact hkeep k (hold k (.inl n)).symm λv hv=>hno k v n hv
   .rw[hput k (.inr n)];refine hkeep k (hold k (.inr n)).symm λv hv=>?_;rcases hfo.2 with⟨f1,_⟩|S9
    .rcases Ix f1 n hv with⟨b,rfl⟩|⟨l,rfl⟩<;>rfl
    have hgv:∃b,o6 v=Z b:=by
     have y:∃c,gI ops.toList fr p=Z (Z c)∨gI ops.toList fr p=Z Y:=by
      rcases S9 with⟨f1,_⟩|⟨c,f1,_⟩
      .exact ⟨W,.inr f1⟩
      .exact ⟨c,.inl f1⟩
     obtain⟨c,y⟩:=y;unfold me at n;unfold gI at y;cases hpg:p.guard with
     |none=>rw[hpg]at n;cases n
     |some q=>
      obtain⟨m,want⟩:=q;simp only[hpg]at n y;rw[n,GJ,hv]at y;cases hb:o6 v with
      |some b=>exact⟨b,rfl⟩
      |none=>
       exfalso;cases v<;>first|(cases hb;done)|(simp only[hb]at y;rcases y with h|h<;>cases h)
    obtain⟨b,hb⟩:=hgv;cases v<;>first|rfl|simp[o6]at hb
   .rw[cC,bK (hne B F ac3)]at ht';have h1:=(tc ht').1;rw[hA.old d λq A hw P=>?_]at h1
    .exact h1
    .have U9:At ops q.1 q.2:=ia.1 A;have hjq:j≠q.1:=λe=>by have:=(Zu U9 hw).2.2;rw[<-e,FB]at this;cases this
     exact((rI C.ds B ac3).2.2 U9 hjq).1 P
  .have F:j≠i:=λe=>by have:=(M j).2 (.inr e.symm);rw[hn]at this;cases this
   have FB:done.testBit j=J:=by cases hh:done.testBit j with|false=>rfl|true=>have:=(M j).2 (.inl (.inl hh));rw[hn]at this;cases this
   have hwj:which.testBit j=J:=by cases hh:which.testBit j with|false=>rfl|true=>have:=(M j).2 (.inl (.inr hh));rw[hn]at this;cases this
   rw[eF hi]at hj;have hlj:kW listed j:=hj.elim id λe=>absurd e.symm F;obtain⟨h1,h2⟩:=h.ea j p B hlj FB;refine⟨λt2 ti d q1 q2 q3=>?_,gN h2 f.ext.size⟩;obtain⟨z,r1,r2,r3⟩:=h1 t2 ti d q1 q2 q3;have ZV:EJ g1 w0 w (bl j) z:=⟨r2.new,r2.lt,by rw[hA.bf];exact r2.bf,λx hO=>by
    rcases hA.own x (bl j) hO with hO|⟨q,A,hw,d2,hd2,Zw⟩
    .exact r2.own x hO
    .have U9:At ops q.1 q.2:=ia.1 A;obtain⟨l1,_,l3⟩:=Zu U9 hw;obtain⟨t3,ti3,d3,e1,e2,e3,_⟩:=hA.W1 q A hw;obtain⟨z3,u1,_,_⟩:=(h.ea q.1 q.2 U9 l1 l3).1 t3 ti3 d3 e1 e2 e3;have:d2=d3:=ew (hd2.symm.trans e3);subst this;rw[Zw]at u1;have hbb:bl j=bl q.1:=by have:=ew u1;simp only[Value.pointer.injEq,aV,Addr.mk.injEq]at this;exact this.1
     have hjq:j≠q.1:=λe=>by rw[<-e,hwj]at hw;cases hw
     exact h.eb j q.1 hlj l1 FB l3 hjq (r8 B) (r8 U9) hbb,r2.mem⟩
   exact⟨z,by rw[uA (hne B F q3)];exact r1,ZV.ym f adw,r3⟩
  .have hx:∀j,(done||| which||| 1 <<< i).testBit j=J->done.testBit j=J∧i≠j:=λj hj=>by
    refine⟨?_,λe=>?_⟩
    .cases hh:done.testBit j with|false=>rfl|true=>have:=(M j).2 (.inl (.inl hh));rw[hj]at this;cases this
    .have:=(M j).2 (.inr e);rw[hj]at this;cases this
   rw[eF hi]at hj hm;exact h.eb j m (hj.elim id λe=>absurd e (hx j h1).2) (hm.elim id λe=>absurd e (hx m h2).2) (hx j h1).1 (hx m h2).1 WB Jy ZO
  .refine ⟨λk v n hv=>?_,?_⟩;rotate_left
   .rw[AT];have h0:uO (cS s'.dr s0.au) iL.df qv.df:=by rw[hA.J0];exact h.fk.df.mono (gX (λx hx=>f.Ey x (by rw[show({s1 with wr:=[]}:aW S).dr=s1.dr from rfl,hA.dr];exact hx)) (bS _))
    cases ow with|nil=>exact h0|cons x ow=>refine h0.trans (rL (p:=(x::ow).contains) (λo' ho'=>?_) (λv=>m6 _ v) _).ok;have:=f.owd o' (by simpa using ho');simp[cS,this]
   have rY:∀{m:Nat}{q:Oper},At ops m q->q.dst≠Z k:=λA P=>n (uE.2 ⟨_,gk A,P⟩);rcases h.fk.tm k v n hv with h1|h1
   .rw[cC,bK (rY H)];rw[<-hA.old k λq A _=>rY (ia.1 A)]at h1;cases hm:gw ow v with
    |false=>exact .inl (xB h1 hm)
    |true=>
     rw[m6]at hm;refine .inr (dJ (λx hx=>?_) v hm);have:x∈ow:=by simpa using hx
     have:=f.owd x this;simp[cS,this]
   .exact .inr (dJ (gX (λx hx=>f.Ey x (by rw[show({s1 with wr:=[]}:aW S).dr=s1.dr from rfl,hA.dr];exact hx)) (bS _)) v h1)
  .rw[eF hi];rcases(M j).1 hj with(hj|hj)|hj
   .exact .inl (h.an j ha hj)
   .obtain ⟨q,A,_⟩:=ha;exact .inl (Zu A hj).1
   .exact .inr hj
 .have hds:∀d∈ops.toList.filterMap (·.dst),d<bg:=λd hd=>by obtain⟨q,A,P⟩:=uE.1 hd;obtain⟨m,hm⟩:=Fa A;exact(rI C.ds hm P).1
  have hgd:∀k,(aaq ops.toList qv).get k=if k∈ops.toList.filterMap (·.dst)then Y else qv.get k:=λk=>Tr.mb _ _ _ hds
  have Tj:∀x,cS s.dr s0.au x=W->cS s'.dr s0.au x=W:=gX (λx hx=>f.Ey x (by rw[show({s1 with wr:=[]}:aW S).dr=s1.dr from rfl,hA.dr];exact hx)) (bS _);refine hP _ t _ g' _ v w' n R.n ⟨R.QG,f.J0 R.df,λk t' G=>?_⟩ (R.ym.trans ⟨f.rel,f.ext,f.fl,f.lo,f.au,λo H=>gp _ H,λo H hn=>f.same o H (λhm=>hn (dH _ hm)),f.Ey⟩) ⟨λk v n hv=>?_,?_⟩ ht
  .rw[bF,hgd]at G;split at G
   .cases G
   .rename_i hnk;rw[ec]at G;obtain⟨u,hu,rfl⟩:=G;obtain⟨v',hv',ht'⟩:=R.tm k u hu λi o hi I=>absurd (uE.2 ⟨o,gk hi,I⟩) hnk;exact⟨v',hv',f.tr _ _ ht' (j6 _)⟩
  .rcases h.fk.tm k v n hv with h1|h1
   .left
    rw[hgd,bK n,hA.old k λq A _ P=>n (uE.2 ⟨_,gk (ia.1 A),P⟩)];exact h1
   .exact .inr (dJ Tj v h1)
  .show uO _ iL.df qv.df;rw[hA.J0];exact h.fk.df.mono Tj
end
end
section
def zA{E:fA S}{ops:L Oper}{bef:L Nat}{done:Nat}{fr:bI S}{i:Nat}{o:Oper}:∀{l:Q0},GG E ops bef done fr l=Z (i,o)->(i,o)∈l∧done.testBit i=J∧ey o=J∧OA ops bef i o=J∧O0 (bef.getD i 0) done=W
 |[],h=>by cases h
 |(j,p)::l,h=>by
  simp only[GG]at h;rcases aa h with⟨a,h⟩|⟨_,h⟩
  .cases h;simp only[dI,As]at a;exact⟨dX,a.1,a.2.2.1.1,a.2.2.1.2,a.2.1⟩
  .obtain ⟨h1,h2⟩:=zA h;exact⟨gl _ h1,h2⟩
def zB{bef:L Nat}{done sw:Nat}{i:Nat}{o:Oper}:∀{l:Q0},GH bef done sw l=Z (i,o)->(i,o)∈l∧done.testBit i=J∧ey o=J∧O0 (bef.getD i 0) (done||| sw)=W
 |[],h=>by cases h
 |(j,p)::l,h=>by
  simp only[GH]at h;rcases aa h with⟨a,h⟩|⟨_,h⟩
  .cases h;simp only[dI,As]at a;exact⟨dX,a.1,a.2.1,a.2.2⟩
  .obtain ⟨h1,h2⟩:=zB h;exact⟨gl _ h1,h2⟩
variable {bef:List Nat}{done i j:Nat}{o:Oper}{call:gm S}
section
variable {ops:Array Oper}{listed:Array Bool}
def BB(b:listed.size=ops.size)(h:j∈Region.ready .any ops listed):∃o,At ops j o∧¬kW listed j∧∀e∈uK o,kW listed e:=by
 obtain⟨h1,o,f,h2⟩:=mem_ready.1 h;have g:j<listed.size:=by rw[b];exact(GM.1 f).1
 refine⟨o,by unfold At;simpa using f,λa=>?_,λe i=>?_⟩
 .unfold kW at a;simp only[Array.getD,g,dite_true]at h1 a;rw[h1]at a;cases a
 .obtain ⟨d,c,rfl⟩:=sr.1 i;rw[List.mem_filter]at c;exact h2 d (by simpa using c.1) c.2
def RJ(a:listed.size=ops.size)(b:At ops j o)(hn:¬kW listed j)(c:∀e∈uK o,kW listed e):j∈Region.ready .any ops listed:=by
 have d:j<listed.size:=by rw[a];exact r8 b
 refine mem_ready.2 ⟨?_,o,Dw b,λe f g=>c e.on (sr.2 ⟨e,List.mem_filter.2 ⟨by simpa using f,g⟩,rfl⟩)⟩;unfold kW at hn;simp only[Array.getD,d,dite_true]at hn ⊢;simpa using hn
def EY(d:r7 ops.toList 0=W)(a:listed.size=ops.size)(h:Region.ready .any ops listed=[]):∀j o,At ops j o->kW listed j:=by
 intro j
 induction j using Nat.strongRecOn with
 |_ j f=>
  intro o b;refine NI λg=>?_;have:j∈Region.ready .any ops listed:=RJ a b g λe i=>by
   have k:=xX d b e i;have l:=r8 b;have c:At ops e (ops[e]'(by omega)):=by unfold At;rw[Pj];exact nT (by omega)
   exact f e (by omega) _ c
  rw[h]at this;cases this
def Dh(a:listed.size=ops.size)(h:listed.toList.count J<=0)(d:At ops j o):kW listed j:=by
 have e:j<listed.size:=by rw[a];exact r8 d
 have b:listed.toList.count J=0:=by omega
 rw[List.count_eq_zero]at b;unfold kW;simp only[Array.getD,e,dite_true];cases c:listed[j]with|true=>exact c|false=>refine absurd ?_ b;rw[<-c];simp
def count_set(a:listed.size=ops.size){m j:Nat}{o:Oper}(d:At ops j o)(hn:¬kW listed j)(h:listed.toList.count J<=m+1):(listed.setIfInBounds j W).toList.count J<=m:=by
 have b:j<listed.size:=by rw[a];exact r8 d
 have c:listed[j]=J:=by unfold kW at hn;simp only[Array.getD,b,dite_true]at hn;simpa using hn
 rw[Array.toList_setIfInBounds,List.count_set (by simpa using b)];simp[c];have:0<listed.toList.count J:=by rw[List.count_pos_iff,<-c];simp
 simp at this h ⊢;omega
end
section
variable {E:fA S}{ops:Array Oper}{iL:bI S}{s0:aW S}{g0:Gh}{w0:World}
def Mp(hE:eA E)(u6:fL E.T.E.P call)(e:vI E ops iL.n){ω:Type}{kp:bI S->V S->aW S->O ω}{kk:bI S->aW S->O ω}{r:ω}{Q:Exit->Act->World->Prop}
  (hN:∀fr' s' g' a' w',kk fr' s'=Z r->fr'.n=iL.n->cg g' (bh fr') a' w'->eC s0 g0 w0 s' g' w'->fe (ops.toList.filterMap (·.dst)) iL fr' s'.dr s0.au->Q .normal a' w')
  (hP:∀fr' t s' g' a' v w',kp fr' t s'=Z r->fr'.n=iL.n->cg g' (bh fr') a' w'->eC s0 g0 w0 s' g' w'->fe (ops.toList.filterMap (·.dst)) iL fr' s'.dr s0.au->aC g' w' (low t) v->Q (.panic [{v,recovered:=J}]) a' w') {rr:O Nat} (I:rr≠Y->∀o∈ops.toList,∀c,o.op≠.defer c) :
  ∀(n done:Nat)(fr:bI S)(s:aW S),rE E call ops.toList (tG ops.toList) (pJ ops.toList) kp kk n done fr s=Z r->∀(m:Nat)(listed:Array Bool)(bl:Nat->Nat)(g:Gh)(a:Act)(w:World),
   pY E ops iL s0 g0 w0 done fr s bl listed g a w->listed.toList.count J<=m->Xy rr E.T.E.P ops Q m listed a w:=by
 intro n
 induction n with
 |zero=>intro done fr s h;cases h
 |succ n ih=>
  intro done fr s h;simp only[rE]at h;split at h
  ·
   rename_i i o hq;obtain⟨hm,B,H,K,A⟩:=zA hq;have F:At ops i o:=ia.1 hm
   replace K:¬antiP ops.toList i:=T5 F K
   rcases aa h with⟨hd,h2⟩|⟨_,h2⟩;rotate_left
   .cases h2
   clear h;intro m listed bl g a w b G;rcases aa h2 with⟨hsk,h3⟩|⟨_,h2⟩
   .exact ih _ _ _ h3 m listed bl g a w (b.float e F B H K (wM.1 A) hd (.inl ⟨hsk,rfl⟩)) G
   split at h2
   .cases h2
   .rename_i hg;rw[xE]at h2;obtain⟨t,e1,h3⟩:=qS.1 h2;obtain⟨t',hkb,h3⟩:=O4 h3;exact ih _ _ _ h3 m listed bl g a w (b.float e F B H K (wM.1 A) hd (.inr (.inl ⟨hg,t,e1,hkb⟩))) G
   .rename_i c hg;obtain⟨hok,h2⟩:=mq h2;rw[xE]at h2;obtain⟨t,e1,h3⟩:=qS.1 h2;exact ih _ _ _ h3 m listed bl g a w (b.float e F B H K (wM.1 A) hd (.inr (.inr ⟨c,t,hg,hok,e1,rfl⟩))) G
  .split at h
   ·
    rename_i i o hq;obtain⟨hm,B,H,A⟩:=zB hq;have F:At ops i o:=ia.1 hm;rcases aa h with⟨M,h2⟩|⟨_,h2⟩;rotate_left
    .cases h2
    clear h;split at h2
    .cases h2
    rename_i qv s1 had;intro m
    induction m with
    |zero=>
     intro listed bl g a w b G;exfalso;rcases b.ld i o F (Dh b.GY G F)with h1|h1
     .rw[B]at h1;cases h1
     .rw[H]at h1;cases h1
    |succ m N=>
     intro listed bl g a w b G;have hnl:¬kW listed i:=λR=>by
      rcases b.ld i o F R with h1|h1
      .rw[B]at h1;cases h1
      .rw[H]at h1;cases h1
     refine⟨λhr=>absurd (EY e.bk b.GY hr i o F) hnl,λj P=>?_⟩;obtain⟨p,y,f,C⟩:=BB b.GY P;cases z:done.testBit j with
     |true=>exact b.XJ hE e y z f C (λg' a' w' d=>N _ bl g' a' w' d (count_set b.GY y f G)) I
     |false=>
      cases haj:ey p with
      |true=>exact b.XK hE e y z haj f C (λKe a' w' d=>N _ Ke g a' w' d (count_set b.GY y f G)) I
      |false=>
       have hji:i=j:=by
        have:=dU.1 M (j,p) (ia.2 y);simp only[z,haj,E5,ir]at this;rcases this with h1|h1
        .exact mV h1
        .exact absurd (lf e.bk (λi o hi R=>b.PR i o hi R) y C i h1) hnl
       subst hji;have:o=p:=ew (F.symm.trans y);subst this;refine b.step hE u6 e F B f C (λj P=>?_) had (kp:=kp) (k:=λdone fr s=>rE E call ops.toList (tG ops.toList) (pJ ops.toList) kp kk n done fr s) h2 (λdone' fr' s' g' a' w' hk d=>ih _ _ _ hk m _ bl g' a' w' d (count_set b.GY F f G)) hP I;have:=wM.1 A j P;rwa [wW,ir]at this
   ·
    split at h
    .cases h
    rename_i qv s1 had;rcases aa h with⟨M,h2⟩|⟨_,h2⟩;rotate_left
    .cases h2
    have hda:∀{j:Nat}{p:Oper},At ops j p->done.testBit j=W∨ey p=W:=λ{j p}y=>by have:=dU.1 M (j,p) (ia.2 y);simpa using this
    have X:∀(listed:Array Bool)(bl:Nat->Nat)(g:Gh)(a:Act)(w:World),pY E ops iL s0 g0 w0 done fr s bl listed g a w->(∀j o,At ops j o->kW listed j)->Q .normal a w:=by
     intro listed bl g a w b R;have hdp:∀{j:Nat}{p:Oper},At ops j p->done.testBit j=W∨(uX (pJ ops.toList) done).testBit j=W:=λ{j p}y=>by cases z:done.testBit j with|true=>exact .inl rfl|false=>exact .inr ((sO done j).2 ⟨p,y,(hda y).resolve_left (by rw[z];exact Bool.noConfusion),z⟩)
     obtain⟨g1,hA,hC⟩:=b.si e had (λj P=>by
       obtain⟨p,y,_⟩:=(sO done j).1 P;exact⟨R j p y,P⟩) (λj P x hx=>by
       obtain⟨p,y,_⟩:=(sO done j).1 P;have hlt:=Lr e.bk y x hx;have Jy:=r8 (ops:=ops) y;have A1:At ops x (ops[x]'(by omega)):=by unfold At;rw[Pj];exact nT (by omega)
       exact hdp A1)
     refine hN qv s1 g1 a w h2 hC.n ⟨hC.QG,hC.df,λk t hk=>?_⟩ hC.ym ⟨λk v hk hv=>?_,by rw[hA.J0,hA.dr];exact b.fk.df⟩
     .rw[bF,ec]at hk;obtain⟨u,hu,rfl⟩:=hk;exact hC.tm k u hu λi o hi _=>⟨λ_=>by rw[wW,ir];exact hdp hi,λ_=>R i o hi⟩
     .rcases b.fk.tm k v hk hv with h1|h1
      .left
       rw[hA.old k λq hq _ hqd=>hk (uE.2 ⟨_,gk (ia.1 hq),hqd⟩)];exact h1
      .rw[hA.dr];exact .inr h1
    intro m
    induction m with
    |zero=>
     intro listed bl g a w b G;have R:∀j o,At ops j o->kW listed j:=λj o F=>Dh b.GY G F;refine⟨?_,X listed bl g a w b R⟩;cases hr:Region.ready .any ops listed with|nil=>rfl|cons j l=>obtain⟨p,y,f,_⟩:=BB b.GY (j:=j) (by rw[hr];exact dX);exact absurd (R j p y) f
    |succ m N=>
     intro listed bl g a w b G;refine⟨λhr=>X listed bl g a w b (EY e.bk b.GY hr),λj P=>?_⟩;obtain⟨p,y,f,C⟩:=BB b.GY P;cases z:done.testBit j with|true=>exact b.XJ hE e y z f C (λg' a' w' d=>N _ bl g' a' w' d (count_set b.GY y f G)) I|false=>exact b.XK hE e y z ((hda y).resolve_left (by rw[z];exact Bool.noConfusion)) f C (λKe a' w' d=>N _ Ke g a' w' d (count_set b.GY y f G)) I
def aao(R:eA E)(S:E.T.E.P.follows .mixedOrders=W)(e:fL E.T.E.P call):pX E call:=by
 intro id ops ω kp k r N s u h X g a w x p Q hN hP rr m;have y:rr≠Y->∀o∈ops.toList,∀c,o.op≠.defer c:=λhr=>Nw (m hr);unfold TN at u;simp only[dI]at u;obtain⟨b1,b2,b3,b4,b5,b6⟩:=u;have z:vI E ops N.n:=⟨b1,b2,b3,b4,b5⟩;have A:s.fl=0:=mV b6;refine IE S ?_;obtain⟨B,C⟩:=p.grow (fl:=s.fl) (I:=g.bf) (w':={w with drawn:=w.drawn+1}) (λ_ h=>h) (λ_ h=>.inl h) p.bf (bS _) (λ_ _=>rfl) rfl rfl;have n:eC s g w s g {w with drawn:=w.drawn+1}:=
  ⟨B,⟨λ_ _ h=>h,λ_ _ _ _ h=>h,λ_ h=>h,bS _,λ_ _ _=>rfl,λo b d hO=>.inl ⟨o,d,hO⟩,λ_ h=>.inl h,rfl,rfl⟩,rfl,rfl,bS _,λ_ h=>h,λ_ _ _=>rfl,λ_ h=>h⟩
 have q:∀i,¬kW (Array.replicate ops.size J) i:=λi d=>by
  unfold kW at d;by_cases P:i<ops.size
  .simp[Array.getD,P]at d
  .simp[Array.getD,P]at d
 refine Mp R e z (s0:=s) (g0:=g) (w0:=w) (kp:=kp) (kk:=k) (r:=r) (λl F G H w' h1 h2 h3 h4 h5=>hN l F G H w' h1 h2 h3 h4 ?_) (λl t F G H v w' h1 h2 h3 h4 h5 h6=>hP l t F G H v w' h1 h2 h3 h4 h5 h6) y _ 0 N s h ops.size _ (λ_=>0) g a _
  ⟨by simp,rfl,X,x.size,x.df.imp (λ_ _ K=>K.ext C p.bf) C.bG,λk t hk _=>?_,λi _ _ d=>absurd d (q i),λi _ _ M=>by simp at M,λi _ _ d=>absurd d (q i),λi _ _ M=>by simp at M,λi _ _ d=>absurd d (q i),λi _ d=>absurd d (q i),n,fe.refl _ _ _ _,A,λj _ hj=>by simp at hj⟩ (by simp)
 .exact h5
 .obtain ⟨v,hv,K⟩:=x.tm k (low t) (by rw[bF,hk];rfl);exact⟨v,hv,K.ext C p.bf⟩
def X4{E:fA S}(e:eA E)(g:E.T.E.P.follows .mixedOrders=W){f:FuncId}{fn:Func}{c:Code}(a:E.T.E.Od f=Z fn)(h:fn.body=Z c)(n d:Nat)(ps:L Pk)(b:L Ck) :
  bw E.T.E.P f ⟨ps,b,E.pn,xH E n d f ps b⟩:=Di e (λ_=>aao e g) a h n d ps b
end
end
section
def zD:Value->D
 | .slice Y 0 0=>.sl []
 |v=>.lit v
def Q4(z:Value):L D:=z.cells.toList.map zD
def abK(v:Value):aaC (zD v) v:=by
 unfold zD;split
 .exact .inl ⟨rfl,rfl⟩
 .exact .inr rfl
def Rd(z:Value):ZOk (Q4 z) z.cells:=by refine⟨by simp[Q4],λj d v h1 h2=>?_⟩;simp only[Q4,gj,ec]at h1;obtain⟨u,a,rfl⟩:=h1;rw[Pj]at a;have:u=v:=ew (a.symm.trans h2);subst this;exact abK u
def aat:D->Nat
 | .lit (.string _)=>16
 | .sl _=>24
 |_=>8
def lX:L D->Nat
 |[]=>0
 |d::l=>Nat.add (aat d) (lX l)
def CZ(agg:Bool)(a:L D):Nat:=bif agg then lX a else match a with
 |[.lit (.int .i8 _)]|[.lit (.int .u8 _)]|[.lit (.bool _)]=>1
 |[.lit (.int .i16 _)]|[.lit (.int .u16 _)]=>2
 |[.lit (.int .i32 _)]|[.lit (.int .u32 _)]=>4
 |a=>lX a
def Oe(P:Program)(f:Field):O (Nat×Nat×Bool):=match P.info? f.type,P.underlying f.type with
 |some j,Z d=>Z (f.offset,j.size,dD d)
 |_,_=>Y
def fieldsOf(P:Program):L Field->O (L (Nat×Nat×Bool))
 |[]=>Z []
 |f::l=>match Oe P f,fieldsOf P l with
  |some x,Z r=>Z (x::r)
  |_,_=>Y
def zX{P:Program}:∀{l:L Field}{a:L (Nat×Nat×Bool)},fieldsOf P l=Z a->l.length=a.length∧∀(k:Nat)off size ag,a[k]?=Z (off,size,ag)->
  ∃f j c,l[k]?=Z f∧f.offset=off∧P.info? f.type=Z j∧j.size=size∧P.underlying f.type=Z c∧ag=dD c
 |[],a,h=>by simp only[fieldsOf,aV]at h;subst h;exact⟨rfl,λk _ _ _ h=>by simp at h⟩
 |f::l,a,h=>by
  simp only[fieldsOf]at h;split at h
  .rename_i x r h1 h2;simp only[aV]at h;subst h;obtain⟨e,g⟩:=zX h2;refine⟨by simp[e],λk off size ag b=>?_⟩;cases k with
   |zero=>
    simp only[qT,aV]at b;subst b;unfold Oe at h1;split at h1
    .rename_i j d i m;simp only[aV,bq]at h1;obtain⟨rfl,rfl,rfl⟩:=h1;exact⟨f,j,d,rfl,rfl,i,rfl,m,rfl⟩
    .cases h1
   |succ k=>exact g k off size ag (by simpa using b)
  .cases h
def SV(P:Program):TypeDesc->Kd
 | .int k=>.leaf (.int k)
 | .bool=>.leaf .bool
 | .string=>.leaf .str
 | .pointer _=>.ptr
 | .interface _=>.iface
 | .slice e=>match P.info? e,P.underlying e with
  |some j,Z d=>match j.zero with
   |some z=>bif Nat.ble j.bytes 4096&&(Nat.blt 0 j.size&&(Nat.ble j.bytes (CZ (dD d) (Q4 z))&&(Nat.ble (CZ (dD d) (Q4 z)) (Nat.mul 2 j.bytes)&&(Nat.blt 0 j.bytes&&Nat.beq (bU (Q4 z)) j.size))))then
     .slice j.size (dD d) (CZ (dD d) (Q4 z)) (Q4 z)else .other
   |none=>.other
  |_,_=>.other
 | .struct fields=>match fieldsOf P fields.toList with
  |some a=>.struct a
  |none=>.other
 | .array len e=>match P.info? e,P.underlying e with
  |some j,Z d=>.array len j.size (dD d)
  |_,_=>.other
 |_=>.other
def Wb(P:Program)(d:TypeDesc):Kv P (SV P d) d:=by
 cases d with
 |slice e=>
  simp only[SV];split
  .rename_i j d h1 h2;split
   .rename_i z b;cases a:(Nat.ble j.bytes 4096&&(Nat.blt 0 j.size&&(Nat.ble j.bytes (CZ (dD d) (Q4 z))&&(Nat.ble (CZ (dD d) (Q4 z)) (Nat.mul 2 j.bytes)&&(Nat.blt 0 j.bytes&&Nat.beq (bU (Q4 z)) j.size)))))with|false=>trivial|true=>simp only[dI]at a;obtain⟨c,g,i,l,m,n⟩:=a;exact⟨e,j,d,z,rfl,h1,rfl,h2,rfl,b,Rd z,eN c,eN g,eN i,eN l,eN m,by rw[<-bA];exact mV n⟩
   .trivial
  .trivial
 |struct fields=>
  simp only[SV];split
  .rename_i u h;obtain⟨o,p⟩:=zX h;exact⟨fields,rfl,by simpa using o,λk off size q r=>by
    obtain⟨f,j,s,h1,h2⟩:=p k off size q r;exact⟨f,j,s,by simpa using h1,h2⟩⟩
  .trivial
 |array len e=>
  simp only[SV];split
  .rename_i j d h1 h2;exact⟨e,j,d,rfl,h1,rfl,h2,rfl⟩
  .trivial
 |int k=>exact rfl
 |bool=>exact rfl
 |string=>exact rfl
 |pointer e=>exact⟨e,rfl⟩
 |interface t=>exact⟨t,rfl⟩
 |_=>trivial
def S2:Value->Bool
 | .agg _=>W
 |_=>J
def Vo(P:Program)(a:TypeId->L Lk)(t:TypeId):O TI:=match P.info? t,P.underlying t with
 |some x,Z d=>match x.zero with
  |some z=>bif (bif dD d then S2 z else !(S2 z))then Z ⟨x.size,dD d,Q4 z,bif dD d then a t else[],SV P d⟩else Y
  |none=>Y
 |_,_=>Y
variable {P:Program}
def Vn{b:TypeId->L Lk}(n:∀t,b t≠[]->aa2 P t (b t)){t:TypeId}{i:TI}(h:Vo P b t=Z i):mw P t i:=by
 unfold Vo at h;split at h
 .rename_i x d k l;split at h
  .rename_i z m;rcases aa h with⟨j,h⟩|⟨_,h⟩
   .simp only[aV]at h;subst h;refine⟨λa c=>?_,λo e=>?_,λp q f g=>?_,x,d,z,k,l,rfl,rfl,m,Rd z,Wb P d⟩
    .dsimp only at a c ⊢;rw[a]at c ⊢;exact n t c
    .rw[l]at e;cases e;rfl
    .rw[k]at f;cases f;rw[m]at g;cases g;refine⟨λa=>?_,λa=>?_⟩
     .dsimp only at a;rw[a,cn]at j;cases z<;>first|exact⟨_,rfl⟩|cases j
     .dsimp only at a;rw[a,cM]at j;cases z<;>first|rfl|cases j
   .cases h
  .cases h
 .cases h
end
section
def CN(P:Program)(a:TypeId->O (L Lk)):L Field->Nat->O (L Lk)
 |[],_=>Z []
 |f::l,off=>match a f.type,P.info? f.type with
  |some ks,Z j=>bif (f.name != "_")&&(Nat.beq f.offset off&&Nat.beq j.size (bU ks))then(CN P a l (Nat.add off (bU ks))).map λr=>ks++r else Y
  |_,_=>Y
def zV(P:Program):Nat->TypeId->O (L Lk)
 |0,_=>Y
 |d+1,t=>match P.underlying t with
  |some (.int k)=>Z [.int k]
  |some .bool=>Z [.bool]
  |some .string=>Z [.str]
  |some (.struct a)=>bif P.stoodInHeld t then Y else CN P (zV P d) a.toList 0
  |_=>Y
def u9:∀{a b c d:L Value},a.length=b.length->jU (a++c) (b++d)=(jU a b&&jU c d)
 |[],[],c,d,_=>by simp[jU]
 |x::a,y::b,c,d,h=>by simp only[List.cons_append,jU,u9 (a:=a) (b:=b) (by simpa using h),Bool.and_assoc]
 |[],_::_,_,_,h=>by simp at h
 |_::_,[],_,_,h=>by simp at h
def rR(ks:L Lk)(l:L Value):Prop:=l.length=ks.length∧∀(j:Nat)(k:Lk)(v:Value),ks[j]?=Z k->l[j]?=Z v->yc k v
variable {ks:List Lk}
def rR.split{a:L Lk}{l:L Value}(h:rR (ks++a) l):rR ks (l.take ks.length)∧rR a (l.drop ks.length):=by
 have c:=h.1;rw[su]at c;refine⟨⟨by rw[qh];omega,λj k v h1 h2=>?_⟩,⟨by rw[BP];omega,λj k v h1 h2=>?_⟩⟩
 .have b:j<ks.length:=(sv.1 h1).1;exact h.2 j k v (by rw[NJ b];exact h1) (by rw[uF,aY b]at h2;exact h2)
 .exact h.2 (ks.length+j) k v (by rw[NM (by omega),Nat.add_sub_cancel_left];exact h1) (by rw[Au]at h2;exact h2)
section
variable {P:Program}
def Mk(P:Program)(t:TypeId)(l:L Value)(v:Value):Prop:=∃u,P.underlying t=Z u∧((dD u=W∧v=.agg l.toArray)∨(dD u=J∧l=[v]))
def WV{d:Nat}{t:TypeId}(h:zV P d t=Z ks):∃u,P.underlying t=Z u∧(dD u=W∨(dD u=J∧ks.length=1)):=by
 cases d with
 |zero=>cases h
 |succ d=>
  simp only[zV]at h;split at h
  .rename_i k a;simp only[aV]at h;exact⟨_,a,.inr ⟨rfl,by rw[<-h];rfl⟩⟩
  .rename_i a;simp only[aV]at h;exact⟨_,a,.inr ⟨rfl,by rw[<-h];rfl⟩⟩
  .rename_i a;simp only[aV]at h;exact⟨_,a,.inr ⟨rfl,by rw[<-h];rfl⟩⟩
  .rename_i b a;exact⟨_,a,.inl rfl⟩
  .cases h
def WU:∀(d:Nat)(t:TypeId)(ks:L Lk),zV P d t=Z ks->∀(D:Nat),d<=D->∀(w:World)(i ys:L Value)(x y:Value),rR ks i->rR ks ys->Mk P t i x->Mk P t ys y->
  (Op.equalIn D t x y).run P w=.ok (jU i ys) w:=by
 intro d
 induction d with
 |zero=>intro t ks h;cases h
 |succ d ih=>
  intro t ks h D hD w i ys x y hx hy N Q;obtain⟨D,rfl⟩:∃D',D=D'+1:=⟨D-1,by omega⟩;simp only[zV]at h;obtain⟨u,q,N⟩:=N;obtain⟨u',e,Q⟩:=Q;rw[q]at e;cases e;rw[q]at h;have one:∀{k:Lk},ks=[k]->dD u=J->i=[x]∧ys=[y]∧yc k x∧yc k y:=by
   rintro k rfl ha
   rcases N with⟨h1,_⟩|⟨_,rfl⟩
   .rw[ha]at h1;cases h1
   rcases Q with⟨h1,_⟩|⟨_,rfl⟩
   .rw[ha]at h1;cases h1
   exact⟨rfl,rfl,hx.2 0 _ _ rfl rfl,hy.2 0 _ _ rfl rfl⟩
  split at h
  .rename_i k s;cases s;simp only[aV]at h;obtain⟨rfl,rfl,⟨a,rfl⟩,⟨b,rfl⟩⟩:=one h.symm rfl;rw[run_equalIn_int w D t k k a b q];simp[jU,CU]
  .rename_i s;cases s;simp only[aV]at h;obtain⟨rfl,rfl,⟨a,rfl⟩,⟨b,rfl⟩⟩:=one h.symm rfl;rw[run_equalIn_bool' w D t a b q];simp[jU,CU]
  .rename_i s;cases s;simp only[aV]at h;obtain⟨rfl,rfl,⟨a,rfl⟩,⟨b,rfl⟩⟩:=one h.symm rfl;rw[run_equalIn_string w D t a b q,<-beq_toListBytes];simp[jU,CU]
  .rename_i fs s;cases s;rcases aa h with⟨_,h⟩|⟨S,h⟩
   .cases h
   rcases N with⟨_,rfl⟩|⟨h1,_⟩;rotate_left
   .cases h1
   rcases Q with⟨_,rfl⟩|⟨h1,_⟩;rotate_left
   .cases h1
   have E:P.fieldsOf t=fs:=by simp[Program.fieldsOf,q]
   rw[run_equalIn_struct w D t _ _ (by rw[E];exact q) S,E];have key:∀(l:L Field)(off:Nat)(n:L Lk),CN P (zV P d) l off=Z n->rR n (i.drop off)->rR n (ys.drop off)->off<=i.length->off<=ys.length->
     (Op.eqFields D i.toArray ys.toArray l).run P w=.ok (jU (i.drop off) (ys.drop off)) w:=by
    intro l
    induction l with
    |nil=>intro off n h R X _ _;simp only[CN,aV]at h;subst h;have e1:=qU R.1;rw[e1];simp[Op.eqFields,jU]
    |cons f l ihl=>
     intro off n h R X ox oy;simp only[CN]at h;split at h
     .rename_i c j h1 h2;rcases aa h with⟨hb,h⟩|⟨_,h⟩;rotate_left
      .cases h
      simp only[dI]at hb;obtain⟨hnm,m,p⟩:=hb;have m:=mV m;have p:=mV p;rw[bA]at p h;simp only[ec]at h;obtain⟨r,hr,rfl⟩:=h;obtain⟨z,F⟩:=R.split;obtain⟨A,G⟩:=X.split;rw[IP]at F G;have hlx:=R.1;have hly:=X.1;rw[su,BP]at hlx hly;have o:∀(C:L Value),rR c ((C.drop off).take c.length)->∃v,(part f.type C.toArray f.offset).run P w=.ok v w∧Mk P f.type ((C.drop off).take c.length) v:=by
       intro C hz;obtain⟨u,e,g⟩:=WV h1;rcases g with g|⟨g,H⟩
       .refine ⟨.agg ((C.drop off).take c.length).toArray,?_,u,e,.inl ⟨g,rfl⟩⟩;simp only[part,Sem.run_bind,qN e,g,Result.andThen_ok,qg,de h2,Sem.run_pure,m,p];simp[Se]
       .have I:=hz.1;rw[H]at I;obtain⟨v,hv⟩:=IZ.1 I;refine⟨v,?_,u,e,.inr ⟨g,by rw[H];exact hv⟩⟩;have Zv:C[off]?=Z v:=by have:=oI (λl=>l[0]?) hv;simpa[uF]using this
        simp only[part,Sem.run_bind,qN e,g,Result.andThen_ok,m];simp[Zv]
      obtain⟨v1,e1,m1⟩:=o i z;obtain⟨v2,e2,m2⟩:=o ys A;have K:=ih f.type c h1 D (by omega) w _ _ v1 v2 z A m1 m2;have B:=ihl (off+c.length) r hr F G (by omega) (by omega);have M:f.name≠ "_":=by simpa using hnm
      have hsx:i.drop off=(i.drop off).take c.length++i.drop (off+c.length):=by rw[<-IP];exact(Ll _ _).symm
      have hsy:ys.drop off=(ys.drop off).take c.length++ys.drop (off+c.length):=by rw[<-IP];exact(Ll _ _).symm
      rw[hsx,hsy,u9 (by rw[z.1,A.1])];simp only[Op.eqFields,M,ne_eq,not_false_eq_true,qg,Sem.run_bind,e1,e2,K,Result.andThen_ok];cases hq:jU ((i.drop off).take c.length) ((ys.drop off).take c.length)with|true=>simpa using B|false=>simp
     .cases h
   have:=key fs.toList 0 ks h (by simpa using hx) (by simpa using hy) (yA _) (yA _);simpa using this
  .cases h
def JJ(P:Program)(t:TypeId):L Lk:=bif P.eqGuardType P.depth t then[]else match zV P 100 t with
 |some ks=>match P.underlying t with
  |some u=>bif dD u then ks else[]
  |none=>[]
 |none=>[]
def TC(t:TypeId)(h:JJ P t≠[]):aa2 P t (JJ P t):=by
 unfold JJ at h ⊢;cases b:P.eqGuardType P.depth t with
 |true=>rw[b]at h;exact absurd rfl h
 |false=>
  rw[b]at h;simp only[cM]at h ⊢;cases c:zV P 100 t with
  |none=>rw[c]at h;exact absurd rfl h
  |some ks=>
   rw[c]at h;dsimp only at h ⊢;cases a:P.underlying t with
   |none=>rw[a]at h;exact absurd rfl h
   |some u=>
    rw[a]at h;dsimp only at h ⊢;cases d:dD u with
    |false=>rw[d]at h;exact absurd rfl h
    |true=>
     simp only[cn];intro w op x y e f g i l m;refine⟨run_eqGuard_agg w op t x y e f b,?_⟩;have:=WU 100 t ks c Op.maxDepth (by decide) w e.toList f.toList (.agg e) (.agg f) ⟨by simpa using g,λj k v h1 h2=>l j k v h1 (by simpa using h2)⟩ ⟨by simpa using i,λj k v h1 h2=>m j k v h1 (by simpa using h2)⟩
      ⟨u,a,.inl ⟨d,rfl⟩⟩ ⟨u,a,.inl ⟨d,rfl⟩⟩
     exact this
end
end
section
def cH{l:L Ty}(h:l.all (λt=>!(iK t))=W):∀t∈l,iK t=J:=by intro t a;rw[dU]at h;simpa using h t a
namespace Tr
variable {α β:Type}
def mapKey(f:Nat->α->β):Tr α->Tr β
 | .nil=>.nil
 | .node v l r=>.node (match v with|some x=>Z (f 0 x)|none=>Y) (mapKey (λj=>f (Nat.succ (Nat.mul 2 j))) l) (mapKey (λj=>f (Nat.succ (Nat.succ (Nat.mul 2 j)))) r)
def wg:∀(t:Tr α)(f:Nat->α->β)(k:Nat),(t.mapKey f).get k=(t.get k).map (f k)
 | .nil,f,k=>by have:(Tr.nil:Tr α).mapKey f=.nil:=rfl;rw[this,Tr.get_nil,Tr.get_nil];rfl
 | .node v l r,f,0=>by simp only[mapKey,Tr.fC];cases v<;>rfl
 | .node v l r,f,k+1=>by
  simp only[mapKey,Tr.cD];by_cases a:k%2=0
  .rw[aY a,aY a,wg l];have:Nat.succ (Nat.mul 2 (k/2))=k+1:=by show 2*(k/2)+1=k+1;omega
   rw[this]
  .rw[bK a,bK a,wg r];have:Nat.succ (Nat.succ (Nat.mul 2 (k/2)))=k+1:=by show 2*(k/2)+1+1=k+1;omega
   rw[this]
def nA{t:Tr α}{f g:Nat->α->β}(h:t.mapKey f=t.mapKey g){k:Nat}{v:α}(a:t.get k=Z v):f k v=g k v:=by have:=oI (λt=>t.get k) h;simp only[wg,a,dG,aV]at this;exact this
end Tr
end
section
def Jl:L (String×FuncId)->String->O FuncId
 |[],_=>Y
 |p::l,m=>bif p.1==m then Z p.2 else Jl l m
def mkE(P:Program)(KV:Tr TI)(OU:Tr Ty)(U7:Tr MT)(sR:Tr (L (String×FuncId)))(oc:Tr Func)(a:Nat->O Nat):fX:=
 ⟨⟨P,λk=>KV.get k,λk=>oc.get k,λ_=>Y⟩,λk=>OU.get k,λk=>U7.get k,λt m=>match sR.get t with|some l=>Jl l m|none=>Y,a⟩
section
variable (S:Sg)(P:Program)
def lI(τ:Ty):L D:=bif iK τ then(match enc S τ (S.zero τ)with|.agg l=>l|_=>[])else[enc S τ (S.zero τ)]
def GC(τ:Ty)(i:TI):Kd×Bool×Nat×Bool×L D:=match τ with
 | .int k=>(.leaf (.int k),J,1,W,lI S τ)
 | .bool=>(.leaf .bool,J,1,W,lI S τ)
 | .str=>(.leaf .str,J,1,W,lI S τ)
 | .sl e=>(.slice (S.width e) (iK e) (tE S e) (lI S e),J,1,W,lI S τ)
 | .st n=>(i.kd,W,bU (S.fs n),W,lI S τ)
 | .cE _=>(.iface,J,1,W,lI S τ)
def GB(τ:Ty)(i:TI):Kd×Bool×Nat×Bool×L D:=(i.kd,i.agg,i.size,(match τ with|.sl e=>Nat.blt 0 (S.width e)|_=>W),i.zero)
def Bc(τ:Ty):bif iK τ then D.agg (lI S τ)=enc S τ (S.zero τ)else lI S τ=[enc S τ (S.zero τ)]:=by cases τ<;>rfl
def YN{τ:Ty}{i:TI}(h:GC S τ i=GB S τ i):vz S i τ∧MJ S i τ:=by
 have a:i.zero=lI S τ->MJ S i τ:=by intro e;unfold MJ;rw[e];exact Bc S τ
 cases τ with
 |int k=>simp only[GC,GB,bq]at h;obtain⟨h1,h2,h3,_,h5⟩:=h;exact⟨⟨h1.symm,h2.symm,h3.symm⟩,a h5.symm⟩
 |bool=>simp only[GC,GB,bq]at h;obtain⟨h1,h2,h3,_,h5⟩:=h;exact⟨⟨h1.symm,h2.symm,h3.symm⟩,a h5.symm⟩
 |str=>simp only[GC,GB,bq]at h;obtain⟨h1,h2,h3,_,h5⟩:=h;exact⟨⟨h1.symm,h2.symm,h3.symm⟩,a h5.symm⟩
 |sl e=>simp only[GC,GB,bq]at h;obtain⟨h1,h2,h3,h4,h5⟩:=h;exact⟨⟨⟨_,h1.symm,Bc S e⟩,h2.symm,h3.symm,eN h4.symm⟩,a h5.symm⟩
 |st n=>simp only[GC,GB,bq]at h;obtain⟨_,h2,h3,_,h5⟩:=h;exact⟨⟨h2.symm,by rw[<-h3,bA]⟩,a h5.symm⟩
 |cE n=>simp only[GC,GB,bq]at h;obtain⟨h1,h2,h3,_,h5⟩:=h;exact⟨⟨h1.symm,h2.symm,h3.symm⟩,a h5.symm⟩
def ab6:Ty->TypeDesc->Bool
 | .int k,.int j=>mG j k
 | .bool,.bool=>W
 | .str,.string=>W
 |_,_=>J
def Wa{t:Ty}{d:TypeDesc}(h:ab6 t d=W):gS t d:=by
 cases t<;>cases d<;>first|exact rfl|(cases h;done)|skip
 rename_i k j;have:j=k:=by cases j<;>cases k<;>first|rfl|cases h
 rw[this];exact rfl
def mtB(E:fX)(t:Nat)(m:MT):Bool:=match E.E.P.underlying t with
 |some (.map a el)=>Nat.beq el m.el&&((match E.E.P.underlying a with|some d=>ab6 m.kt d|none=>J)&&((match E.E.P.info? m.el with|some x=>x.zero.isSome|none=>J)&&
   (match m.vt with|some b=>(match E.ty m.el with|some c=>qI c b|none=>J)&&(E.E.ti m.el).isSome|none=>W)))
 |_=>J
variable {t:Nat}
def Zc{E:fX}{m:MT}(h:mtB E t m=W):∃a d,E.E.P.underlying t=Z (.map a m.el)∧E.E.P.underlying a=Z d∧gS m.kt d∧(∃x z,E.E.P.info? m.el=Z x∧x.zero=Z z)∧
  ∀b,m.vt=Z b->E.ty m.el=Z b∧∃i,E.E.ti m.el=Z i:=by
 unfold mtB at h;split at h
 .rename_i a el j;simp only[dI]at h;obtain⟨h1,h2,h3,h4⟩:=h;have:=mV h1;subst this;cases c:E.E.P.underlying a with
  |none=>rw[c]at h2;cases h2
  |some d=>
   rw[c]at h2;cases f:E.E.P.info? m.el with
   |none=>rw[f]at h3;cases h3
   |some x=>
    rw[f]at h3;obtain⟨z,k⟩:=Option.isSome_iff_exists.1 h3;refine⟨a,d,j,c,Wa h2,⟨x,z,rfl,k⟩,λb e=>?_⟩;rw[e]at h4;dsimp only at h4;rw[dI]at h4;cases g:E.ty m.el with
    |none=>rw[g]at h4;cases h4.1
    |some l=>rw[g]at h4;exact⟨by rw[fq h4.1],Option.isSome_iff_exists.1 h4.2⟩
 .cases h
def S1:TypeDesc->Bool
 | .pointer _=>W
 |_=>J
def NY(P:Program)(t:Nat)(p:String×FuncId):Bool:=match P.info? t,P.underlying t with
 |some x,Z d=>match x.methods.find? (·.name==p.1)with
  |some a=>match a.path.toList,a.func with
   |[],Z (f,b)=>Nat.beq f p.2&&(bif b then S1 d else !(S1 d))
   |_,_=>J
  |none=>J
 |_,_=>J
def SD{P:Program}{p:String×FuncId}(h:NY P t p=W):∃x a d,P.info? t=Z x∧x.methods.find? (·.name==p.1)=Z a∧a.path=#[]∧P.underlying t=Z d∧
  ((a.func=Z (p.2,J)∧∀e,d≠.pointer e)∨(a.func=Z (p.2,W)∧∃e,d=.pointer e)):=by
 unfold NY at h;split at h
 .rename_i x d c g;split at h
  .rename_i a i;split at h
   .rename_i f b h1 h2;rw[dI]at h;have:=mV h.1;subst this;refine⟨x,a,d,c,i,by simpa using h1,g,?_⟩;cases b with
    |false=>refine .inl ⟨h2,λe j=>?_⟩;subst j;exact Bool.noConfusion h.2
    |true=>
     refine .inr ⟨h2,?_⟩;cases d<;>first|exact⟨_,rfl⟩|exact Bool.noConfusion h.2
   .cases h
  .cases h
 .cases h
def Fm:∀{l:L (String×FuncId)}{m:String}{f:FuncId},Jl l m=Z f->(m,f)∈l
 |[],_,_,h=>by cases h
 |p::l,m,f,h=>by
  simp only[Jl]at h;rcases aa h with⟨a,h⟩|⟨_,h⟩
  .have:p.1=m:=by simpa using a
   simp only[aV]at h;subst h;subst this;exact dX
  .exact gl _ (Fm h)
end
def TH{S:Sg}(o:eR S){P:Program}{KV:Tr TI}{OU:Tr Ty}{U7:Tr MT}{sR:Tr (L (String×FuncId))}{oc:Tr Func}{e:Nat->O Nat}
  (h1:KV.mapKey (λk _=>Vo P (JJ P) k)=KV.mapKey λ_ i=>Z i)
  (h2:oc.mapKey (λk _=>P.funcs[k]?)=oc.mapKey λ_ f=>Z f)
  (h3:OU.mapKey (λk τ=>(KV.get k).map (GC S τ))=OU.mapKey λk τ=>(KV.get k).map (GB S τ))
  (h4:oc.mapKey (λ_ f=>f.name== "runtime.NumGoroutine")=oc.mapKey λ_ _=>J)
  (h5:U7.mapKey (λk m=>mtB (mkE P KV OU U7 sR oc e) k m)=U7.mapKey λ_ _=>W)
  (h6:sR.mapKey (λk l=>l.all (NY P k))=sR.mapKey λ_ _=>W) (Es:FuncId->O (j0 S)) (sh:FuncId->Nat->O Xo) (p:∀f c,Es f=Z c->bw P f c) (q:Bool) (r:FuncId->O Xp) :
  eA (⟨mkE P KV OU U7 sR oc e,Es,sh,q,r⟩:fA S):=by
 have a:∀k i τ,KV.get k=Z i->OU.get k=Z τ->vz S i τ∧MJ S i τ:=by intro k i τ b g;have:=Tr.nA h3 g;simp only[b,dG,aV]at this;exact YN S this
 refine⟨o,⟨λk i b=>?_,λf fn j=>?_⟩,⟨λk i τ b g=>(a k i τ b g).1⟩,λf fn j=>Tr.nA h4 j,λ_=>rfl,⟨λk i τ b g=>(a k i τ b g).2,λt m s=>?_,λt u f j=>?_⟩,p⟩
 .exact Vn (λt h=>TC t h) (Tr.nA h1 b)
 .exact Tr.nA h2 j
 .exact Zc (Tr.nA h5 s)
 .have d:(match sR.get t with|some l=>Jl l u|none=>Y)=Z f:=j;split at d
  .rename_i l v;have n:=Tr.nA h6 v;rw[dU]at n;exact SD (n _ (Fm d))
  .cases d
end
section
def Rx.el{R P α:Type}(x:Rx R P)(f:R->O α)(g:P->O α):O α:=match x with
 | .ok r=>f r
 | .dP p=>g p
def LO.el{X R B P α:Type}(o:LO X R B P)(f:Nat->X->O α)(g:B->R->O α)(h:B->P->O α):O α:=match o with
 | .next _=>Y
 | .out j x=>f j x
 | .ret b r=>g b r
 | .dP b p=>h b p
def LO.jn{X R B P α:Type}(o:LO X R B P)(e:X->O α)(f:Nat->X->O α)(g:B->R->O α)(h:B->P->O α):O α:=match o with
 | .next x=>e x
 | .out j x=>f j x
 | .ret b r=>g b r
 | .dP b p=>h b p
def GF{α:Type}(n:Nat)(a:α):L α:=List.replicate n a
def AI(a b:Bool):Bool:=a&&b
def Xj(a b:Nat):Nat:=Nat.add a b
def trL{α:Type}:L (Nat×α)->Tr α
 |[]=>.nil
 |p::l=>(trL l).set aA p.1 p.2
def RG:Code->L (Code×Code)
 | .seq a b=>RG a++RG b
 | .cond _ a b=>RG a++RG b
 | .block _ b=>RG b
 | .loop b=>RG b
 | .rangeFunc _ _ a b=>(a,b)::(RG a++RG b)
 | .scope b=>RG b
 |_=>[]
def rgN(l:L (Code×Code))(i:Nat):Code×Code:=match l with
 |[]=>(.skip,.skip)
 |a::l=>match i with
  |0=>a
  |i+1=>rgN l i
def lpR(a n:Nat)(ps:L Nat)(c:Code×Code)(l:L (Nat×V S)):sj S:=.lp ⟨.ready,Y,a,JG (rV c.1++rV c.2) {n:=n,tm:=trL l},ps,c.1,c.2⟩
def KX(l:L (FuncId×j0 S))(f:FuncId):O (j0 S):=match l with
 |[]=>Y
 |p::l=>bif Nat.beq p.1 f then Z p.2 else KX l f
def OkL(P:Program):L (FuncId×j0 S)->Prop
 |[]=>True
 |p::l=>bw P p.1 p.2∧OkL P l
def Nr{P:Program}:∀{l:L (FuncId×j0 S)},OkL P l->∀f c,KX l f=Z c->bw P f c
 |[],_,_,_,h=>by cases h
 |p::l,⟨b,d⟩,f,c,h=>by
  unfold KX at h;cases a:Nat.beq p.1 f with
  |true=>
   rw[a]at h;have:p.1=f:=mV a;injection h with h
   rw[<-h,<-this];exact b
  |false=>rw[a]at h;exact Nr d f c h
variable {P:Program}
def bW{f:FuncId}{ps:L Pk}{a:L Ck}{b:Bool}(h:jZ P f):bw P f (⟨ps,a,b,λ_=>Y⟩:j0 S):=
 ⟨h,λ_ _ h=>by cases h⟩
def qC{α:Type}(b:L α×U):EG (U8 b.1) (Z (([],()),())) (Z (b,()))=Z (b,()):=by obtain⟨l,u⟩:=b;cases l with|nil=>simp[EG,U8]|cons a l=>rfl
end
section
def kL(S:Sg):Ty->L Ty
 | .st m=>S.fs m
 | τ=>[τ]
def Nm:L Ty->L Ty->Bool
 |[],[]=>W
 |a::l,b::m=>qI a b&&Nm l m
 |_,_=>J
def Iq:∀{l m:L Ty},Nm l m=W->l=m
 |[],[],_=>rfl
 |a::l,b::m,h=>by simp only[Nm,dI]at h;rw[fq h.1,Iq h.2]
 |[],_::_,h=>by cases h
 |_::_,[],h=>by cases h
def A2(S:Sg)(P:Program)(ty:TypeId->O Ty):L Field->Nat->L Ty->Bool
 |[],_,[]=>W
 |f::l,off,a=>match ty f.type with
  |some τ=>Nat.beq f.offset off&&(Nat.beq (P.cellsOf f.type) (bU (kL S τ))&&(Nm (a.take (bU (kL S τ))) (kL S τ)&&A2 S P ty l (off+bU (kL S τ)) (a.drop (bU (kL S τ)))))
  |none=>J
 |_,_,_=>J
def XC(S:Sg)(P:Program)(ty:TypeId->O Ty)(t:TypeId)(τ:Ty):Bool:=match P.underlying t,τ with
 |some .bool,.bool=>W
 |some (.int k),.int c=>mG k c
 |some .string,.str=>W
 |some (.slice e),.sl a=>match ty e with
  |some b=>qI b a&&(Nat.beq (P.cellsOf e) (S.width a)&&(Nat.ble (tE S a) (Nat.mul 2 (P.bytesOf e))&&Nat.blt 0 (S.width a)))
  |none=>J
 |some (.struct d),.st n=>Nat.beq (P.cellsOf t) (bU (S.fs n))&&A2 S P ty d.toList 0 (S.fs n)
 |_,_=>J
section
variable {P:Program}{w:World}{I:Nat->Prop}
def Q3(I:Nat->Prop)(w:World)(ds:L D)(vs:L Value):Prop:=PW (dM I w) ds vs
def mapM_some{α β:Type}{f:α->O β}:∀{l:L α}{r:L β},l.mapM f=Z r->r.length=l.length∧∀(i:Nat)(a:α),l[i]?=Z a->∃b,r[i]?=Z b∧f a=Z b
 |[],r,h=>by simp only[List.mapM_nil,Option.pure_def,aV]at h;subst h;exact⟨rfl,λi a h=>by simp at h⟩
 |x::l,r,h=>by simp only[List.mapM_cons,Option.bind_eq_bind,qS,Option.pure_def,aV]at h;obtain⟨b,d,g,e,rfl⟩:=h;obtain⟨h1,h2⟩:=mapM_some e;refine⟨by simp[h1],λi a c=>?_⟩;cases i with|zero=>simp only[qT,aV]at c;subst c;exact⟨b,rfl,d⟩|succ i=>simpa using h2 i a (by simpa using c)
variable {a:Addr}{v:Value}{fuel:Nat}{cs:List Value}{ps:List MemPlace}
def Mv{n:Nat}{vs:L Value}(h:w.cells? 0 a n=Z vs):vs.length=n∧∀j,j<n->∃v,vs[j]?=Z v∧w.cell? (a.add j)=Z v:=by unfold World.cells? at h;rw[aY (yA _)]at h;obtain⟨h1,h2⟩:=mapM_some h;rw[List.length_range]at h1;refine⟨h1,λj b=>?_⟩;exact h2 j j (by rw[Lj b])
def Xa(h:w.cell? a=Z v):a.block<w.heap.size:=by
 unfold World.cell? at h;split at h
 .rename_i b;exact(GM.1 b).1
 .cases h
def Ab{α:Type}(p:Nat->α->Prop):∀n,(∀i,i<n->∃x,p i x)->∃l:L α,l.length=n∧∀i x,l[i]?=Z x->p i x
 |0,_=>⟨[],rfl,λi x h=>by simp at h⟩
 |n+1,h=>by
  obtain⟨l,h1,h2⟩:=Ab p n (λi a=>h i (by omega));obtain⟨x,b⟩:=h n (by omega);refine⟨l++[x],by simp[h1],λi y a=>?_⟩;rw[kR]at a;split at a
  .exact h2 i y a
  .rename_i c;have:i=n:=by have:=(sv.1 a).1;simp at this;omega
   subst this;simp[h1]at a;subst a;exact b
def BR{d:D}(h:dM I w d v):Q3 I w [d] [v]:=⟨rfl,λj a b h1 h2=>by
 cases j with
 |zero=>simp at h1 h2;subst h1;subst h2;exact h
 |succ j=>simp at h1⟩
variable {H:Type}{JX:TypeId×Value->H}{held:Bool}
def trod_bool{t:TypeId}{d:DataW H}(a:P.underlying t=Z .bool)(h:DataW.trod JX P w 0 (λ_=>W) held fuel t cs=Z (d,ps)):∃b,cs=[.bool b]:=by
 cases fuel with
 |zero=>simp[DataW.trod]at h
 |succ n=>
  rcases cs with _|⟨c,_|⟨e,cs⟩⟩
  .simp[DataW.trod,a]at h
  .cases c<;>simp[DataW.trod,a]at h;exact⟨_,rfl⟩
  .simp[DataW.trod,a]at h
def trod_int{t:TypeId}{k:IntKind}{d:DataW H}(a:P.underlying t=Z (.int k))(h:DataW.trod JX P w 0 (λ_=>W) held fuel t cs=Z (d,ps)):∃n,cs=[.int k n]:=by
 cases fuel with
 |zero=>simp[DataW.trod]at h
 |succ n=>
  rcases cs with _|⟨c,_|⟨b,cs⟩⟩
  .simp[DataW.trod,a]at h
  .cases c<;>simp[DataW.trod,a]at h;obtain⟨⟨rfl,_⟩,_⟩:=h;exact⟨_,rfl⟩
  .simp[DataW.trod,a]at h
def Rl{t:TypeId}{d:DataW H}(a:P.underlying t=Z .string)(h:DataW.trod JX P w 0 (λ_=>W) held fuel t cs=Z (d,ps)):∃b,cs=[.string b]:=by
 cases fuel with
 |zero=>simp[DataW.trod]at h
 |succ n=>
  rcases cs with _|⟨c,_|⟨e,cs⟩⟩
  .simp[DataW.trod,a]at h
  .cases c<;>simp[DataW.trod,a]at h;exact⟨_,rfl⟩
  .simp[DataW.trod,a]at h
def trod_slice{t e:TypeId}{d:DataW H}(g:P.underlying t=Z (.slice e))(h:DataW.trod JX P w 0 (λ_=>W) held (fuel+1) t cs=Z (d,ps)) :
  cs=[.slice Y 0 0]∨∃(a:Addr)(len cap:Nat)(f rest:L (DataW H)),cs=[.slice (Z a) len cap]∧len<=cap∧d=.slice f rest∧f.length=len∧
   ∀i,i<len->∃vs j l,w.cells? 0 (a.add (i*P.cellsOf e)) (P.cellsOf e)=Z vs∧DataW.trod JX P w 0 (λ_=>W) held fuel e vs=Z (j,l)∧f[i]?=Z j:=by
 rcases cs with _|⟨c,_|⟨s,cs⟩⟩
 .simp[DataW.trod,g]at h
 .cases c with
  |slice a len cap=>
   cases a with
   |none=>
    rcases len with _|len
    .rcases cap with _|cap
     .exact .inl rfl
     .simp[DataW.trod,g]at h
    .simp[DataW.trod,g]at h
   |some a=>
    right
    simp only[DataW.trod,g]at h;split at h
    .rename_i m;rw[qS]at h;obtain⟨n,h1,h2⟩:=h;rw[ec]at h2;obtain⟨rest,_,h3⟩:=h2;simp only[bq]at h3;obtain⟨rfl,_⟩:=h3;obtain⟨h4,h5⟩:=mapM_some h1;rw[List.length_range]at h4;refine⟨a,len,cap,_,_,rfl,m.2.1,rfl,by simpa using h4,λi o=>?_⟩;obtain⟨b,p,k⟩:=h5 i i (by rw[Lj o]);rw[qS]at k;obtain⟨vs,q,r⟩:=k;exact⟨vs,b.1,b.2,q,r,by rw[gj,p];rfl⟩
    .cases h
  |_=>simp[DataW.trod,g]at h
 .simp[DataW.trod,g]at h
def trod_struct{t:TypeId}{a:Array Field}{d:DataW H}(e:P.underlying t=Z (.struct a))(h:DataW.trod JX P w 0 (λ_=>W) held (fuel+1) t cs=Z (d,ps)) :
  cs.length=P.cellsOf t∧∃parts:L (DataW H),d=.agg parts∧parts.length=a.toList.length∧
   ∀(i:Nat)(f:Field),a.toList[i]?=Z f->∃c g,DataW.trod JX P w 0 (λ_=>W) held fuel f.type ((cs.drop f.offset).take (P.cellsOf f.type))=Z (c,g)∧parts[i]?=Z c:=by
 simp only[DataW.trod,e]at h;split at h
 .rename_i j;rw[ec]at h;obtain⟨n,h1,h2⟩:=h;simp only[bq]at h2;obtain⟨rfl,_⟩:=h2;obtain⟨h4,h5⟩:=mapM_some h1;refine⟨j,_,rfl,by simpa using h4,λi f k=>?_⟩;obtain⟨b,l,m⟩:=h5 i f k;exact⟨b.1,b.2,m,by rw[gj,l];rfl⟩
 .cases h
def Qx(a:eR S):∀(τ:Ty)(x:den S.A τ),∃h:kK S.A (kL S τ),fV S (kL S τ) h=(enc S τ x).cells
 | .st n,x=>⟨S.get n x,by simp only[enc,D.cells];exact(a.cells n x).symm⟩
 | .int k,x=>⟨(x,()),rfl⟩
 | .bool,x=>⟨(x,()),rfl⟩
 | .str,x=>⟨(x,()),rfl⟩
 | .sl e,x=>⟨(x,()),rfl⟩
 | .cE n,x=>⟨(x,()),(lA _).symm⟩
def z7:∀(l m:L Ty)(h:kK S.A l)(k:kK S.A m),∃r:kK S.A (l++m),fV S (l++m) r=fV S l h++fV S m k
 |[],m,_,k=>⟨k,rfl⟩
 |t::l,m,h,k=>by obtain⟨r,a⟩:=z7 l m h.2 k;exact⟨(h.1,r),by simp only[List.cons_append,fV,a]⟩
def DZ{ts:L TypeId}{ds:L (DataW H)}(h:(DataW.weightsEach P ts ds).all (·<=reachBytes)=W):∀(i:Nat)(t:TypeId)(d:DataW H),ts[i]?=Z t->ds[i]?=Z d->(d.weights P t).all (·<=reachBytes)=W:=by
 induction ts generalizing ds with
 |nil=>intro i t d h1;simp at h1
 |cons a ts c=>
  intro i t d h1 h2;cases ds with
  |nil=>simp at h2
  |cons b ds=>
   simp only[DataW.weightsEach,IT,dI]at h;cases i with|zero=>simp at h1 h2;subst h1;subst h2;exact h.1|succ i=>exact c h.2 i t d (by simpa using h1) (by simpa using h2)
def Gj{e:TypeId}{ds:L (DataW H)}(h:(DataW.weightsAll P e ds).all (·<=reachBytes)=W):∀d∈ds,(d.weights P e).all (·<=reachBytes)=W:=by
 induction ds with
 |nil=>intro d b;cases b
 |cons a ds c=>
  simp only[DataW.weightsAll,IT,dI]at h;intro d b;rcases ej.1 b with rfl|b
  .exact h.1
  .exact c h.2 d b
def Is(B:eR S){ty:TypeId->O Ty}
  (C:∀(t:TypeId)(τ:Ty)(cs:L Value)(d:DataW H)(ps:L MemPlace),ty t=Z τ->DataW.trod JX P w 0 (λ_=>W) held fuel t cs=Z (d,ps)->(d.weights P t).all (·<=reachBytes)=W->∃x:den S.A τ,Q3 I w (enc S τ x).cells cs) :
  ∀(e:L Field)(off:Nat)(ts:L Ty)(parts:L (DataW H)),A2 S P ty e off ts=W->off+ts.length=cs.length->(DataW.weightsEach P (e.map (·.type)) parts).all (·<=reachBytes)=W->parts.length=e.length->
   (∀(i:Nat)(f:Field),e[i]?=Z f->∃g l,DataW.trod JX P w 0 (λ_=>W) held fuel f.type ((cs.drop f.offset).take (P.cellsOf f.type))=Z (g,l)∧parts[i]?=Z g)->
   ∃h:kK S.A ts,Q3 I w (fV S ts h) (cs.drop off):=by
 intro e
 induction e with
 |nil=>
  intro off ts parts h1 h2 _ _ _;cases ts with|nil=>exact⟨(),by simp[fV];rw[List.drop_eq_nil_of_le (by simp at h2;omega)];exact⟨rfl,λj a b h=>by simp at h⟩⟩|cons t ts=>cases h1
 |cons f e o=>
  intro off ts parts h1 h2 h3 h4 h5;simp only[A2]at h1;split at h1;rotate_left
  .cases h1
  rename_i τ E;simp only[dI,bA]at h1;obtain⟨q,s,n,h1⟩:=h1;have q:=mV q;have s:=mV s;have n:=Iq n;obtain⟨d,l,F,u⟩:=h5 0 f rfl;cases parts with
  |nil=>simp at u
  |cons p parts=>
  simp only[qT,aV]at u;subst u;have G:=DZ h3 0 f.type p rfl rfl;obtain⟨x,v⟩:=C _ _ _ _ _ E F G;obtain⟨k,K⟩:=Qx B τ x;simp only[jh,DataW.weightsEach,IT,dI]at h3;have A:(kL S τ).length<=ts.length:=by have:=oI List.length n;rw[qh]at this;omega
  obtain⟨r,M⟩:=o (off+(kL S τ).length) (ts.drop (kL S τ).length) parts h1 (by rw[BP];omega) h3.2 (by simpa using h4) (λi f N=>by
   obtain⟨g,l,Q,R⟩:=h5 (i+1) f (by simpa using N);exact⟨g,l,Q,by simpa using R⟩)
  obtain⟨m,X⟩:=z7 (kL S τ) (ts.drop (kL S τ).length) k r;have y:kL S τ++ts.drop (kL S τ).length=ts:=by
   conv=>rhs;rw[<-Ll (kL S τ).length ts]
   rw[n]
  rw[q,s]at v;rw[<-K]at v;have z:cs.drop off=(cs.drop off).take (kL S τ).length++cs.drop (off+(kL S τ).length):=by rw[<-IP,Ll]
  have c:∃m:kK S.A (kL S τ++ts.drop (kL S τ).length),Q3 I w (fV S _ m) (cs.drop off):=⟨m,by
   rw[X,z];exact PW.append v M⟩
  rw[y]at c;exact c
def Vl(z:eR S){ty:TypeId->O Ty}(hR:∀t τ,ty t=Z τ->XC S P ty t τ=W)(hI:∀b,b<w.heap.size->I b) :
  ∀(fuel:Nat)(t:TypeId)(τ:Ty)(cs:L Value)(d:DataW H)(ps:L MemPlace),ty t=Z τ->DataW.trod JX P w 0 (λ_=>W) held fuel t cs=Z (d,ps)->(d.weights P t).all (·<=reachBytes)=W->
   ∃x:den S.A τ,Q3 I w (enc S τ x).cells cs:=by
 intro fuel
 induction fuel with
 |zero=>intro t τ cs d ps _ h;simp[DataW.trod]at h
 |succ fuel ih=>
  intro t τ cs d ps hτ h m;have r:=hR t τ hτ;unfold XC at r;split at r
  .rename_i o;obtain⟨b,rfl⟩:=trod_bool o h;exact⟨b,BR (.lit _)⟩
  .rename_i k k' o;obtain⟨n,rfl⟩:=trod_int o h;obtain rfl:k=k':=by cases k<;>cases k'<;>first|rfl|cases r
   exact⟨n,BR (.lit _)⟩
  .rename_i o;obtain⟨b,rfl⟩:=Rl o h;refine⟨ofBytes b,BR ?_⟩;have:enc S .str (ofBytes b)=.lit (.string b):=by simp only[enc,bD,ofBytes]
   rw[this];exact .lit _
  .rename_i e τ' o;split at r;rotate_left
   .cases r
   rename_i f G;simp only[dI]at r;obtain⟨h1,h2,h3,h4⟩:=r;obtain rfl:=fq h1;have h2:=mV h2;have h3:=eN h3;have h4:0<S.width f:=eN h4;rcases trod_slice o h with rfl|⟨a,len,cap,K,rest,rfl,M,rfl,N,p⟩
   .refine ⟨[],BR ?_⟩;exact .sl [] Y 0 0 (λ_ _=>undef) (bS _) (λd g=>by cases g) (λd g=>by cases g) (λh=>absurd rfl h) (λi j d c g=>by simp at g)
   .simp only[DataW.weights,o,BM,IT,dI,kj]at m;have Q:=Gj m.2.1;obtain⟨s,R,X⟩:=Ab (λi(x:den S.A f)=>∃B,w.cells? 0 (a.add (i*P.cellsOf e)) (P.cellsOf e)=Z B∧Q3 I w (enc S f x).cells B) len (λi hi=>by
     obtain⟨B,di,pi,q1,q2,q3⟩:=p i hi;obtain⟨x,u⟩:=ih e f B di pi G q2 (Q di (gk q3));exact⟨x,B,q1,u⟩)
    have l:∀(i j:Nat)(x:den S.A f)(c:D),s[i]?=Z x->(enc S f x).cells[j]?=Z c->∃v,w.cell? (a.add (i*S.width f+j))=Z v∧dM I w c v:=by
     intro i j x c u y;obtain⟨B,q1,q2⟩:=X i x u;obtain⟨q3,q4⟩:=Mv q1;have hj:j<P.cellsOf e:=by have:=(sv.1 y).1;rw[js z]at this;omega
     obtain⟨v,A,C⟩:=q4 j hj;rw[Addr.add_add,h2]at C;exact⟨v,C,q2.2 j c v y A⟩
    refine⟨s,BR ?_⟩;have Ws:enc S (.sl f) s=.sl (s.map (enc S f)):=rfl;rw[Ws];have q:(s.map (enc S f)).length=len:=by simp[R]
    rw[show(Value.slice (Z a) len cap)=.slice (Z a) (s.map (enc S f)).length cap by rw[q]];refine .sl _ (Z a) cap (S.width f) (λi j=>(w.cell? (a.add (i*S.width f+j))).getD undef) (by rw[q];exact M) (qf z s) (λd g=>?_) (λhne=>?_) (λi j d c g y=>?_)
    .obtain ⟨x,_,rfl⟩:=sr.1 g;rw[y4 z,q];have E:=m.1;rw[N]at E;have:len*P.bytesOf e<=reachBytes:=eO (uG _ (Nat.le_add_right _ _)) E;have hb:len*tE S f<=2*(len*P.bytesOf e):=by
      calc len*tE S f<=len*(2*P.bytesOf e):=Nat.mul_le_mul_left _ h3
       _=2*(len*P.bytesOf e):=by rw[Nat.mul_left_comm]
     unfold reachBytes at this;omega
    .have F:0<s.length:=by cases s with|nil=>exact absurd rfl hne|cons=>simp
     obtain⟨x,u⟩:∃x,s[0]?=Z x:=⟨_,eS F⟩;obtain⟨c,y⟩:∃c,(enc S f x).cells[0]?=Z c:=⟨_,eS (by rw[js z];exact h4)⟩;obtain⟨v,A,_⟩:=l 0 0 x c u y;refine⟨a,rfl,hI _ ?_,λi j d c g y=>?_⟩
     .have:=Xa A;rwa [ki]at this
     .rw[gj,ec]at g;obtain⟨x,u,rfl⟩:=g;obtain⟨v,A,_⟩:=l i j x c u y;rw[A];rfl
    .rw[gj,ec]at g;obtain⟨x,u,rfl⟩:=g;obtain⟨v,A,g⟩:=l i j x c u y;simp only[A,Aq];exact g
  .rename_i fs n o;simp only[dI]at r;obtain⟨h1,h2⟩:=r;have h1:=mV h1;rw[bA]at h1;obtain⟨hl,parts,rfl,Fy,p⟩:=trod_struct o h;simp only[DataW.weights,o]at m;obtain⟨k,hk⟩:=Is z ih fs.toList 0 (S.fs n) parts h2 (by omega) m Fy p;refine⟨S.SC n k,?_⟩;simp only[enc,D.cells];rw[show S.cells n (S.SC n k)=_ from z.cells n _,z.s7];simpa using hk
  .cases r
end
end
section
section
variable {P:Program}{w:World}{H:Type}{JX:TypeId×Value->H}
variable {base:Nat}{w':World}
def Rk(p:eR S){ty:TypeId->O Ty}(q:∀t τ,ty t=Z τ->XC S P ty t τ=W){t:TypeId}{τ:Ty}(r:ty t=Z τ){v:Value}{d:DataW H}{ps:L MemPlace}(i:Value.okWide P w .any base t v)
  (h:DataW.Trod JX P w 0 (λ_=>W) W t v d ps) (l:(d.weights P t).all (·<=reachBytes)=W):∃x:den S.A τ,dM (λb=>b<w.heap.size) w (enc S τ x) v:=by
 obtain⟨fuel,h⟩:=h;obtain⟨x,g⟩:=Vl (I:=λb=>b<w.heap.size) p q (λ_ h=>h) fuel t τ _ d ps r h l;refine⟨x,?_⟩;have o:=q t τ r;unfold XC at o;split at o
 .rename_i f;obtain⟨b,rfl⟩:=WideShapes.okWide_bool f i;exact g.2 0 _ _ rfl rfl
 .rename_i k y f;obtain⟨n,rfl⟩:=WideShapes.okWide_int f i;exact g.2 0 _ _ rfl rfl
 .rename_i f;obtain⟨b,rfl⟩:=WideShapes.okWide_string f i;exact g.2 0 _ _ rfl rfl
 .rename_i e z f;obtain⟨a,n,m,rfl⟩:=WideShapes.okWide_slice f i;exact g.2 0 _ _ rfl rfl
 .rename_i A n f;obtain⟨B,rfl,_⟩:=WideShapes.okWide_struct f i;refine .agg _ _ (by have:=g.1;simp only[enc,D.cells,Value.cells]at this;simpa using this) ?_ (λj c u h1 h2=>g.2 j c u h1 (by simpa[Value.cells]using h2));intro c s;have:=JU p (t:=.st n) x;simp only[enc,D.flat,D.cells,dU]at this;exact this c s
 .cases o
def EP(i:eR S){ty:TypeId->O Ty}(l:∀t τ,ty t=Z τ->XC S P ty t τ=W){base:Nat}:∀(ts:L TypeId)(τs:L Ty)(vs:L Value)(ds:L (DataW H))(ps:L MemPlace),
  PW (λt τ=>ty t=Z τ) ts τs->(∀(j:Nat)t v,ts[j]?=Z t->vs[j]?=Z v->Value.okWide P w .any base t v)->DataW.TrodAll JX P w 0 (λ_=>W) W ts vs ds ps->
  (DataW.weightsEach P ts ds).all (·<=reachBytes)=W->∃x:fj S.A (τs.map λτ=>.one (.dat τ)),oD S (λb=>b<w.heap.size) w (τs.map λτ=>.one (.dat τ)) x vs [] []
 |[],[],vs,ds,ps,_,_,h,_=>by cases vs with|nil=>exact⟨(),.nil⟩|cons v vs=>cases ds<;>simp[DataW.TrodAll]at h
 |t::ts,τ::τs,vs,ds,ps,c,m,h,e=>by
  cases vs with
  |nil=>cases ds<;>simp[DataW.TrodAll]at h
  |cons v vs=>
  cases ds with
  |nil=>simp[DataW.TrodAll]at h
  |cons d ds=>
  simp only[DataW.TrodAll]at h;obtain⟨p,q,h1,h2,_⟩:=h;simp only[DataW.weightsEach,IT,dI]at e;obtain⟨x,n⟩:=Rk i l (c.2 0 t τ rfl rfl) (m 0 t v rfl rfl) h1 e.1;obtain⟨k,o⟩:=EP i l ts τs vs ds q ⟨by simpa using c.1,λj a b f g=>c.2 (j+1) a b (by simpa using f) (by simpa using g)⟩ (λj t v f g=>m (j+1) t v (by simpa using f) (by simpa using g)) h2 e.2;exact⟨(x,k),.one (.dat n .nil) o⟩
 |[],τ::τs,_,_,_,c,_,_,_=>by have:=c.1;simp at this
 |t::ts,[],_,_,_,c,_,_,_=>by have:=c.1;simp at this
def Bg{w':World}(hl:laidOutB P=W)(f:∀b,b<w.heap.size->w'.heap[b]?=w.heap[b]?):∀(ts:L TypeId)(vs:L Value)(ds:L (DataW H))(ps:L MemPlace),(∀t∈ts,P.readableRec t=W∧t<P.types.size)->
  DataW.TrodAll JX P w 0 (λ_=>W) W ts vs ds ps->(∀p∈ps,p.block<w.heap.size)->DataW.TrodAll JX P w' 0 (λb=>decide (b<w.heap.size)) W ts vs ds ps
 |[],[],[],ps,_,h,_=>h
 |t::ts,v::vs,d::ds,ps,c,h,e=>by simp only[DataW.TrodAll]at h ⊢;obtain⟨p,q,h1,h2,rfl⟩:=h;refine⟨p,q,WideElems.Trod_stays hl (c t dX).1 (c t dX).2 h1 (λx a=>?_) (λx a=>by simpa using e x (dH _ a)),Bg hl f ts vs ds q (λt g=>c t (gl _ g)) h2 λx a=>e x (gp _ a),rfl⟩;have:=f x.block (e x (dH _ a));cases x with|cell b off=>show w'.cell? _=w.cell? _;unfold World.cell?;rw[show w'.heap[b]?=w.heap[b]? from this]|map b=>exact this
 |[],[],_::_,_,_,h,_=>by simp[DataW.TrodAll]at h
 |[],_::_,_,_,_,h,_=>by simp[DataW.TrodAll]at h
 |_::_,[],_,_,_,h,_=>by simp[DataW.TrodAll]at h
 |_::_,_::_,[],_,_,h,_=>by simp[DataW.TrodAll]at h
def Hi(c:w'.os=w.os)(a:w'.output=w.output)(e:∀b,b<w.heap.size->w'.heap[b]?=w.heap[b]?)(d:MemPlace->Prop):w.keptBut w' d:=by
 refine⟨c,a,λi f=>?_⟩;rw[e i f];split
 .rename_i h1 h2;rw[h1]at h2;cases h2;exact⟨rfl,rfl,rfl,λ_ _=>rfl⟩
 .rename_i h1 h2;rw[h1]at h2;cases h2;exact .inr ⟨rfl,rfl⟩
 .rfl
def Fs(hS:eR S){ty:TypeId->O Ty}(hR:∀t τ,ty t=Z τ->XC S P ty t τ=W)(hl:laidOutB P=W){f:FuncId}{fn:Func}{s:ChangeSpec}{apart fresh l:Bool}{τs:L Ty}{tb:TypeId}
  (R:PW (λt τ=>ty t=Z τ) fn.params.toList τs) (E:∀t∈fn.params.toList,P.readableRec t=W∧t<P.types.size) (G:fn.resultTypes=#[tb]) (X:P.underlying tb=Z .bool) (c:s.vars=[])
  (z:∀ds:L (DataW H),ds.length=τs.length->(s.fn H ds).results=[.lit (.bool W)]∧(s.fn H ds).args=ds∧(s.fn H ds).vars=[])
  (hF:∀x:fj S.A (τs.map λτ=>Pk.one (.dat τ)),∃F r,bw P f (⟨τs.map λτ=>.one (.dat τ),[.dat .bool],J,F⟩:j0 S)∧F x=Z r∧r.1.1=W)
  {a:World} {base:Nat} {args:Array Value} {ds I:L (DataW H)} {m:L MemPlace}
  (o:∀(j:Nat)t v,fn.params[j]?=Z t->args[j]?=Z v->Value.okWide P a .any base t v) (hW:DataW.Whole JX P fn.params.toList s.vars apart a args.toList ds I m)
  (A:(DataW.weightsEach P (fn.params.toList++s.plain.varTypes P) (ds++I)).all (·<=reachBytes)=W) :
  Calls P f args a λe W'=>∃v,e=.returned v∧s.post JX P fn apart fresh l J a args v W':=by
 rw[c]at hW;have n:=hW;obtain⟨p,q,w,hV,rfl,hfz,hnd⟩:=hW;have hgs:I=[]∧q=[]:=by cases I with|nil=>exact⟨rfl,hV⟩|cons g I=>simp[DataW.TrodVars]at hV
 obtain⟨rfl,rfl⟩:=hgs;have hvt:s.plain.varTypes P=[]:=by simp[ChangeSpec.plain,DataSpec.varTypes,c]
 rw[hvt,mD,mD]at A;obtain⟨x,Q⟩:=EP hS hR fn.params.toList τs args.toList ds p R (λj t v h1 h2=>o j t v (by simpa using h1) (by simpa using h2)) w A;obtain⟨F,r,K,hr,i⟩:=hF x;have M:ds.length=τs.length:=by
  rw[<-R.1];clear o n A hfz hnd hV Q R E;generalize fn.params.toList=ts at w;generalize args.toList=C at w
  induction ts generalizing C ds p with
  |nil=>cases C<;>cases ds<;>simp_all [DataW.TrodAll]
  |cons t ts ih=>
   cases C with
   |nil=>cases ds<;>simp[DataW.TrodAll]at w
   |cons v C=>
    cases ds with|nil=>simp[DataW.TrodAll]at w|cons d ds=>simp only[DataW.TrodAll]at w;obtain⟨_,q,_,h2,_⟩:=w;simp[ih _ _ h2]
 refine(K.2 x r hr _ a args [] [] Q (λ_ h=>h) .nil (by simp) (by simp)).mono λe W' he=>?_;cases e with
 |panicked ch=>exact he.elim
 |outgrown=>exact he.elim
 |returned v=>
 obtain⟨I',C,xZ,yj,_,_,_,hsz,B,hos,N,rfl,_,hH,_⟩:=he;have hv:valOf C=.bool W:=by
  generalize r.1=y at hH i;obtain⟨b,u⟩:=y;cases hH with
  |dat hd hr=>
  cases hr;cases hd;simp only at i;rw[i];rfl
 rw[hv];refine⟨_,rfl,?_⟩;obtain⟨s1,s2,s3⟩:=z ds M;have k:∀b,b<a.heap.size->W'.heap[b]?=a.heap[b]?:=λb X=>B b X (by simp) (by simp);have hlt:∀x∈p,x.block<a.heap.size:=λx Q=>n.lt x (by simpa using Q);rw[mD]at n;unfold ChangeSpec.post;rw[c];refine⟨ds,[],p,[],p,[],n,?_,?_,?_,Hi hos N k _,λh=>by cases h⟩
 .rw[mD,s1,G];simp only[Value.resultList];refine⟨[],[],⟨1,?_⟩,rfl,rfl⟩;simp[DataW.trod,X,Value.cells]
 .rw[mD,s2];exact Bg hl k _ _ _ _ E w hlt
 .rw[mD,s3];rfl
end
end
end TL
end
section
namespace Mn
open Go TL
section
open Proofs.Tryz
def z0:TI:=⟨1,J,[.lit .nilFunc],[],.other⟩
abbrev n1{α:Type}(x:α)(l r:Tr α):Tr α:=.node (Z x) l r
abbrev n0{α:Type}(l r:Tr α):Tr α:=.node Y l r
abbrev e0{α:Type}:Tr α:=.nil
abbrev bn{α:Type}(x:α):Tr α:=.node (Z x) .nil .nil
abbrev cu(l r:Tr TI):Tr TI:=.node (Z z0) l r
abbrev bJ:Tr TI:=.node (Z z0) .nil .nil
abbrev aL:D:=.lit (.int .i64 0)
abbrev cW:D:=.lit (.string ⟨#[]⟩)
abbrev jS:D:=.lit (.pointer Y)
abbrev eE:D:=.lit .nilFunc
abbrev Rp:Kd:=.struct [(0,1,J)]
abbrev uP:Kd:=.struct [(0,1,J),(1,1,J)]
abbrev zq:Kd:=.struct [(0,1,J),(1,1,J),(2,1,J)]
abbrev oM:Kd:=.struct [(0,1,J),(1,1,J),(2,1,J),(3,1,J)]
abbrev Nt:Kd:=.struct [(0,1,J),(1,1,J),(2,1,J),(3,1,J),(4,1,J)]
structure aG where
 Form:Int
 N:Int
 Text:List UInt8
 Af:List aG
structure bp where
 Op:Int
 N:Int
 Kids:List Int
 cN:List aG
structure ck where
 Name:List UInt8
 oF:Int
structure av where
 aQ:List bp
 dw:List Int
 Main:Int
 Cons:List ck
structure aJ where
 Kind:Int
 N:Int
structure aD where
 Node:Int
 Env:List aJ
 cw:List aJ
structure aZ where
 Form:Int
 N:Int
 cw:List aJ
 Frames:List aD
structure dW where
 Port:Int
 N:Int
structure ak where
 bC:List aZ
 bz:List Int
 fI:List dW
 qG:List Int
 Used:Int
structure bL where
 Task:Int
 Do:Int
 N:Int
 V:aJ
structure cB where
 W:ak
 ae3:Int
 E:bL
structure bY where
 av:av
 ak:ak
structure g6 where
structure fY where
 bL:bL
structure fW where
 state:Int
structure iC where
inductive dx where
 |a0 (x:g6)
 |a1 (x:fY)
 |a2 (x:fW)
 |a3 (x:iC)
 |none
structure bR where
 Ks:Int
 N:Int
 Text:List UInt8
 Af:List bR
structure gL where
 Name:List UInt8
 oF:List bR
structure jd where
 Name:List UInt8
 Cons:List gL
structure Term where
 Op:Int
 N:Int
 Text:List UInt8
 Kids:List Term
 cN:List aG
structure cq where
 Name:List UInt8
 Param:List UInt8
 Kw:bR
 To:bR
 Body:Term
structure dK where
 Name:List UInt8
 Yk:List jd
 dw:List cq
structure cI where
 av:av
structure cZ where
 xu:List (List UInt8)
 cons:List ck
 nodes:List bp
structure eM where
 Kind:Int
 Text:List UInt8
 N:Int
 At:Int
structure bB where
 l_:List eM
 at_:Int
 bad:Bool
structure je where
structure lG where
inductive cA where
 |a0 (x:je)
 |a1 (x:Int)
 |a2 (x:lG)
 |none
inductive Any where
 |a0 (x:fW)
 |none
def aR:aG:=⟨0,0,[],[]⟩
def aN:bp:=⟨0,0,[],[]⟩
def bu:ck:=⟨[],0⟩
def ke:av:=⟨[],[],0,[]⟩
def aB:aJ:=⟨0,0⟩
def aF:aD:=⟨0,[],[]⟩
def aS:aZ:=⟨0,0,[],[]⟩
def eg:dW:=⟨0,0⟩
def cm:ak:=⟨[],[],[],[],0⟩
def eG:bL:=⟨0,0,0,aB⟩
def r5:cB:=⟨cm,0,eG⟩
def z9:bY:=⟨ke,cm⟩
def Db:g6:=⟨⟩
def FJ:fY:=⟨eG⟩
def Aa:fW:=⟨0⟩
def Dc:iC:=⟨⟩
def TS:dx:=.none
def lC:bR:=⟨0,0,[],[]⟩
def gA:gL:=⟨[],[]⟩
def j9:jd:=⟨[],[]⟩
def oZ:Term:=⟨0,0,[],[],[]⟩
def dh:cq:=⟨[],[],lC,lC,oZ⟩
def iZ:dK:=⟨[],[],[]⟩
def xL:cI:=⟨ke⟩
def ot:cZ:=⟨[],[],[]⟩
def cX:eM:=⟨0,[],0,0⟩
def oq:bB:=⟨[],0,J⟩
def xM:je:=⟨⟩
def Dd:lG:=⟨⟩
def QA:cA:=.none
def ajX:Any:=.none
mutual
def tB:aG->L D
 | .mk x0 x1 x2 x3=>[.lit (.int .i64 x0),.lit (.int .i64 x1),.lit (.string (bD x2)),.sl (lD x3)]
def lD:L aG->L D
 |[]=>[]
 |y::l=>.agg (tB y)::lD l
end
def jM:∀l:L aG,lD l=l.map (λy=>.agg (tB y))
 |[]=>rfl
 |y::l=>by simp only[lD,jh,jM l]
def lF(x:bp):L D:=[.lit (.int .i64 x.Op),.lit (.int .i64 x.N),.sl (List.map (λy=>.lit (.int .i64 y)) x.Kids),.sl (lD x.cN)]
def tD(x:ck):L D:=[.lit (.string (bD x.Name)),.lit (.int .i64 x.oF)]
def QD(x:av):L D:=[.sl (List.map (λy=>.agg (lF y)) x.aQ),.sl (List.map (λy=>.lit (.int .i64 y)) x.dw),.lit (.int .i64 x.Main),.sl (List.map (λy=>.agg (tD y)) x.Cons)]
def xQ(x:aJ):L D:=[.lit (.int .i64 x.Kind),.lit (.int .i64 x.N)]
def Ds(x:aD):L D:=[.lit (.int .i64 x.Node),.sl (List.map (λy=>.agg (xQ y)) x.Env),.sl (List.map (λy=>.agg (xQ y)) x.cw)]
def xS(x:aZ):L D:=[.lit (.int .i64 x.Form),.lit (.int .i64 x.N),.sl (List.map (λy=>.agg (xQ y)) x.cw),.sl (List.map (λy=>.agg (Ds y)) x.Frames)]
def xR(x:dW):L D:=[.lit (.int .i64 x.Port),.lit (.int .i64 x.N)]
def My(x:ak):L D:=[.sl (List.map (λy=>.agg (xS y)) x.bC),.sl (List.map (λy=>.lit (.int .i64 y)) x.bz),.sl (List.map (λy=>.agg (xR y)) x.fI),.sl (List.map (λy=>.lit (.int .i64 y)) x.qG),.lit (.int .i64 x.Used)]
def Mz(x:bL):L D:=[.lit (.int .i64 x.Task),.lit (.int .i64 x.Do),.lit (.int .i64 x.N),.lit (.int .i64 x.V.Kind),.lit (.int .i64 x.V.N)]
def AF(x:cB):L D:=[.sl (List.map (λy=>.agg (xS y)) x.W.bC),.sl (List.map (λy=>.lit (.int .i64 y)) x.W.bz),.sl (List.map (λy=>.agg (xR y)) x.W.fI),.sl (List.map (λy=>.lit (.int .i64 y)) x.W.qG),.lit (.int .i64 x.W.Used),.lit (.int .i64 x.ae3),.lit (.int .i64 x.E.Task),.lit (.int .i64 x.E.Do),.lit (.int .i64 x.E.N),.lit (.int .i64 x.E.V.Kind),.lit (.int .i64 x.E.V.N)]
def Ka(x:bY):L D:=[.sl (List.map (λy=>.agg (lF y)) x.av.aQ),.sl (List.map (λy=>.lit (.int .i64 y)) x.av.dw),.lit (.int .i64 x.av.Main),.sl (List.map (λy=>.agg (tD y)) x.av.Cons),.sl (List.map (λy=>.agg (xS y)) x.ak.bC),.sl (List.map (λy=>.lit (.int .i64 y)) x.ak.bz),.sl (List.map (λy=>.agg (xR y)) x.ak.fI),.sl (List.map (λy=>.lit (.int .i64 y)) x.ak.qG),.lit (.int .i64 x.ak.Used)]
def Dn(x:g6):L D:=[]
def FQ(x:fY):L D:=[.lit (.int .i64 x.bL.Task),.lit (.int .i64 x.bL.Do),.lit (.int .i64 x.bL.N),.lit (.int .i64 x.bL.V.Kind),.lit (.int .i64 x.bL.V.N)]
def tC(x:fW):L D:=[.lit (.int .i64 x.state)]
def Dq(x:iC):L D:=[]
def Ju:dx->O (TypeId×D)
 | .a0 x=>Z (170,.agg (Dn x))
 | .a1 x=>Z (173,.agg (FQ x))
 | .a2 x=>Z (175,.agg (tC x))
 | .a3 x=>Z (181,.agg (Dq x))
 | .none=>Y
def TZ(x:dx):L D:=[KO (Ju x)]
mutual
def qy:bR->L D
 | .mk x0 x1 x2 x3=>[.lit (.int .i64 x0),.lit (.int .i64 x1),.lit (.string (bD x2)),.sl (jW x3)]
def jW:L bR->L D
 |[]=>[]
 |y::l=>.agg (qy y)::jW l
end
def kN:∀l:L bR,jW l=l.map (λy=>.agg (qy y))
 |[]=>rfl
 |y::l=>by simp only[jW,jh,kN l]
def o5(x:gL):L D:=[.lit (.string (bD x.Name)),.sl (jW x.oF)]
def FO(x:jd):L D:=[.lit (.string (bD x.Name)),.sl (List.map (λy=>.agg (o5 y)) x.Cons)]
mutual
def J9:Term->L D
 | .mk x0 x1 x2 x3 x4=>[.lit (.int .i64 x0),.lit (.int .i64 x1),.lit (.string (bD x2)),.sl (Dg x3),.sl (lD x4)]
def Dg:L Term->L D
 |[]=>[]
 |y::l=>.agg (J9 y)::Dg l
end
def wk:∀l:L Term,Dg l=l.map (λy=>.agg (J9 y))
 |[]=>rfl
 |y::l=>by simp only[Dg,jh,wk l]
def o4(x:cq):L D:=[.lit (.string (bD x.Name)),.lit (.string (bD x.Param)),.lit (.int .i64 x.Kw.Ks),.lit (.int .i64 x.Kw.N),.lit (.string (bD x.Kw.Text)),.sl (jW x.Kw.Af),.lit (.int .i64 x.To.Ks),.lit (.int .i64 x.To.N),.lit (.string (bD x.To.Text)),.sl (jW x.To.Af),.lit (.int .i64 x.Body.Op),.lit (.int .i64 x.Body.N),.lit (.string (bD x.Body.Text)),.sl (Dg x.Body.Kids),.sl (lD x.Body.cN)]
def J8(x:dK):L D:=[.lit (.string (bD x.Name)),.sl (List.map (λy=>.agg (FO y)) x.Yk),.sl (List.map (λy=>.agg (o4 y)) x.dw)]
def HK(x:cI):L D:=[.sl (List.map (λy=>.agg (lF y)) x.av.aQ),.sl (List.map (λy=>.lit (.int .i64 y)) x.av.dw),.lit (.int .i64 x.av.Main),.sl (List.map (λy=>.agg (tD y)) x.av.Cons)]
def wu(x:cZ):L D:=[.sl (List.map (λy=>.lit (.string (bD y))) x.xu),.sl (List.map (λy=>.agg (tD y)) x.cons),.sl (List.map (λy=>.agg (lF y)) x.nodes)]
def Dp(x:eM):L D:=[.lit (.int .i64 x.Kind),.lit (.string (bD x.Text)),.lit (.int .i64 x.N),.lit (.int .i64 x.At)]
def wq(x:bB):L D:=[.sl (List.map (λy=>.agg (Dp y)) x.l_),.lit (.int .i64 x.at_),.lit (.bool x.bad)]
def xP(x:je):L D:=[]
def Dr(x:lG):L D:=[]
def Fw:cA->O (TypeId×D)
 | .a0 x=>Z (274,.agg (xP x))
 | .a1 x=>Z (297,.lit (.int .i64 x))
 | .a2 x=>Z (298,.agg (Dr x))
 | .none=>Y
def QC(x:cA):L D:=[KO (Fw x)]
def acK:Any->O (TypeId×D)
 | .a0 x=>Z (175,.agg (tC x))
 | .none=>Y
def aj0(x:Any):L D:=[KO (acK x)]
def J6:Nat->Type
 |0=>aG
 |1=>bp
 |2=>ck
 |3=>av
 |4=>aJ
 |5=>aD
 |6=>aZ
 |7=>dW
 |8=>ak
 |9=>bL
 |10=>cB
 |11=>bY
 |12=>g6
 |13=>fY
 |14=>fW
 |15=>iC
 |16=>dx
 |17=>bR
 |18=>gL
 |19=>jd
 |20=>Term
 |21=>cq
 |22=>dK
 |23=>cI
 |24=>cZ
 |25=>eM
 |26=>bB
 |27=>je
 |28=>lG
 |29=>cA
 |30=>Any
 |_+31=>U
def fields:Nat->L Ty
 |0=>[.int .i64,.int .i64,.str,.sl (.st 0)]
 |1=>[.int .i64,.int .i64,.sl (.int .i64),.sl (.st 0)]
 |2=>[.str,.int .i64]
 |3=>[.sl (.st 1),.sl (.int .i64),.int .i64,.sl (.st 2)]
 |4=>[.int .i64,.int .i64]
 |5=>[.int .i64,.sl (.st 4),.sl (.st 4)]
 |6=>[.int .i64,.int .i64,.sl (.st 4),.sl (.st 5)]
 |7=>[.int .i64,.int .i64]
 |8=>[.sl (.st 6),.sl (.int .i64),.sl (.st 7),.sl (.int .i64),.int .i64]
 |9=>[.int .i64,.int .i64,.int .i64,.int .i64,.int .i64]
 |10=>[.sl (.st 6),.sl (.int .i64),.sl (.st 7),.sl (.int .i64),.int .i64,.int .i64,.int .i64,.int .i64,.int .i64,.int .i64,.int .i64]
 |11=>[.sl (.st 1),.sl (.int .i64),.int .i64,.sl (.st 2),.sl (.st 6),.sl (.int .i64),.sl (.st 7),.sl (.int .i64),.int .i64]
 |12=>[]
 |13=>[.int .i64,.int .i64,.int .i64,.int .i64,.int .i64]
 |14=>[.int .i64]
 |15=>[]
 |16=>[.cE 16]
 |17=>[.int .i64,.int .i64,.str,.sl (.st 17)]
 |18=>[.str,.sl (.st 17)]
 |19=>[.str,.sl (.st 18)]
 |20=>[.int .i64,.int .i64,.str,.sl (.st 20),.sl (.st 0)]
 |21=>[.str,.str,.int .i64,.int .i64,.str,.sl (.st 17),.int .i64,.int .i64,.str,.sl (.st 17),.int .i64,.int .i64,.str,.sl (.st 20),.sl (.st 0)]
 |22=>[.str,.sl (.st 19),.sl (.st 21)]
 |23=>[.sl (.st 1),.sl (.int .i64),.int .i64,.sl (.st 2)]
 |24=>[.sl (.str),.sl (.st 2),.sl (.st 1)]
 |25=>[.int .i64,.str,.int .i64,.int .i64]
 |26=>[.sl (.st 25),.int .i64,.bool]
 |27=>[]
 |28=>[]
 |29=>[.cE 29]
 |30=>[.cE 30]
 |_+31=>[]
def dflt:(n:Nat)->J6 n
 |0=>aR
 |1=>aN
 |2=>bu
 |3=>ke
 |4=>aB
 |5=>aF
 |6=>aS
 |7=>eg
 |8=>cm
 |9=>eG
 |10=>r5
 |11=>z9
 |12=>Db
 |13=>FJ
 |14=>Aa
 |15=>Dc
 |16=>TS
 |17=>lC
 |18=>gA
 |19=>j9
 |20=>oZ
 |21=>dh
 |22=>iZ
 |23=>xL
 |24=>ot
 |25=>cX
 |26=>oq
 |27=>xM
 |28=>Dd
 |29=>QA
 |30=>ajX
 |_+31=>()
def WO:(n:Nat)->J6 n->kK J6 (fields n)
 |0,x=>(aG.Form x,aG.N x,aG.Text x,aG.Af x,())
 |1,x=>(bp.Op x,bp.N x,bp.Kids x,bp.cN x,())
 |2,x=>(ck.Name x,ck.oF x,())
 |3,x=>(av.aQ x,av.dw x,av.Main x,av.Cons x,())
 |4,x=>(aJ.Kind x,aJ.N x,())
 |5,x=>(aD.Node x,aD.Env x,aD.cw x,())
 |6,x=>(aZ.Form x,aZ.N x,aZ.cw x,aZ.Frames x,())
 |7,x=>(dW.Port x,dW.N x,())
 |8,x=>(ak.bC x,ak.bz x,ak.fI x,ak.qG x,ak.Used x,())
 |9,x=>(bL.Task x,bL.Do x,bL.N x,(bL.V x).Kind,(bL.V x).N,())
 |10,x=>((cB.W x).bC,(cB.W x).bz,(cB.W x).fI,(cB.W x).qG,(cB.W x).Used,cB.ae3 x,(cB.E x).Task,(cB.E x).Do,(cB.E x).N,(cB.E x).V.Kind,(cB.E x).V.N,())
 |11,x=>((bY.av x).aQ,(bY.av x).dw,(bY.av x).Main,(bY.av x).Cons,(bY.ak x).bC,(bY.ak x).bz,(bY.ak x).fI,(bY.ak x).qG,(bY.ak x).Used,())
 |12,_=>()
 |13,x=>((fY.bL x).Task,(fY.bL x).Do,(fY.bL x).N,(fY.bL x).V.Kind,(fY.bL x).V.N,())
 |14,x=>(fW.state x,())
 |15,_=>()
 |16,x=>(x,())
 |17,x=>(bR.Ks x,bR.N x,bR.Text x,bR.Af x,())
 |18,x=>(gL.Name x,gL.oF x,())
 |19,x=>(jd.Name x,jd.Cons x,())
 |20,x=>(Term.Op x,Term.N x,Term.Text x,Term.Kids x,Term.cN x,())
 |21,x=>(cq.Name x,cq.Param x,(cq.Kw x).Ks,(cq.Kw x).N,(cq.Kw x).Text,(cq.Kw x).Af,(cq.To x).Ks,(cq.To x).N,(cq.To x).Text,(cq.To x).Af,(cq.Body x).Op,(cq.Body x).N,(cq.Body x).Text,(cq.Body x).Kids,(cq.Body x).cN,())
 |22,x=>(dK.Name x,dK.Yk x,dK.dw x,())
 |23,x=>((cI.av x).aQ,(cI.av x).dw,(cI.av x).Main,(cI.av x).Cons,())
 |24,x=>(cZ.xu x,cZ.cons x,cZ.nodes x,())
 |25,x=>(eM.Kind x,eM.Text x,eM.N x,eM.At x,())
 |26,x=>(bB.l_ x,bB.at_ x,bB.bad x,())
 |27,_=>()
 |28,_=>()
 |29,x=>(x,())
 |30,x=>(x,())
 |_+31,_=>()
def SF:(n:Nat)->kK J6 (fields n)->J6 n
 |0,(x0,x1,x2,x3,())=>(⟨x0,x1,x2,x3⟩:aG)
 |1,(x0,x1,x2,x3,())=>(⟨x0,x1,x2,x3⟩:bp)
 |2,(x0,x1,())=>(⟨x0,x1⟩:ck)
 |3,(x0,x1,x2,x3,())=>(⟨x0,x1,x2,x3⟩:av)
 |4,(x0,x1,())=>(⟨x0,x1⟩:aJ)
 |5,(x0,x1,x2,())=>(⟨x0,x1,x2⟩:aD)
 |6,(x0,x1,x2,x3,())=>(⟨x0,x1,x2,x3⟩:aZ)
 |7,(x0,x1,())=>(⟨x0,x1⟩:dW)
 |8,(x0,x1,x2,x3,x4,())=>(⟨x0,x1,x2,x3,x4⟩:ak)
 |9,(x0,x1,x2,x3,x4,())=>(⟨x0,x1,x2,⟨x3,x4⟩⟩:bL)
 |10,(x0,x1,x2,x3,x4,x5,x6,x7,x8,x9,YD,())=>(⟨⟨x0,x1,x2,x3,x4⟩,x5,⟨x6,x7,x8,⟨x9,YD⟩⟩⟩:cB)
 |11,(x0,x1,x2,x3,x4,x5,x6,x7,x8,())=>(⟨⟨x0,x1,x2,x3⟩,⟨x4,x5,x6,x7,x8⟩⟩:bY)
 |12,_=>(⟨⟩:g6)
 |13,(x0,x1,x2,x3,x4,())=>(⟨⟨x0,x1,x2,⟨x3,x4⟩⟩⟩:fY)
 |14,(x0,())=>(⟨x0⟩:fW)
 |15,_=>(⟨⟩:iC)
 |16,(x,())=>x
 |17,(x0,x1,x2,x3,())=>(⟨x0,x1,x2,x3⟩:bR)
 |18,(x0,x1,())=>(⟨x0,x1⟩:gL)
 |19,(x0,x1,())=>(⟨x0,x1⟩:jd)
 |20,(x0,x1,x2,x3,x4,())=>(⟨x0,x1,x2,x3,x4⟩:Term)
 |21,(x0,x1,x2,x3,x4,x5,x6,x7,x8,x9,YD,x11,x12,x13,x14,())=>(⟨x0,x1,⟨x2,x3,x4,x5⟩,⟨x6,x7,x8,x9⟩,⟨YD,x11,x12,x13,x14⟩⟩:cq)
 |22,(x0,x1,x2,())=>(⟨x0,x1,x2⟩:dK)
 |23,(x0,x1,x2,x3,())=>(⟨⟨x0,x1,x2,x3⟩⟩:cI)
 |24,(x0,x1,x2,())=>(⟨x0,x1,x2⟩:cZ)
 |25,(x0,x1,x2,x3,())=>(⟨x0,x1,x2,x3⟩:eM)
 |26,(x0,x1,x2,())=>(⟨x0,x1,x2⟩:bB)
 |27,_=>(⟨⟩:je)
 |28,_=>(⟨⟩:lG)
 |29,(x,())=>x
 |30,(x,())=>x
 |_+31,_=>()
def TX:(n:Nat)->J6 n->L D
 |0,x=>tB x
 |1,x=>lF x
 |2,x=>tD x
 |3,x=>QD x
 |4,x=>xQ x
 |5,x=>Ds x
 |6,x=>xS x
 |7,x=>xR x
 |8,x=>My x
 |9,x=>Mz x
 |10,x=>AF x
 |11,x=>Ka x
 |12,x=>Dn x
 |13,x=>FQ x
 |14,x=>tC x
 |15,x=>Dq x
 |16,x=>TZ x
 |17,x=>qy x
 |18,x=>o5 x
 |19,x=>FO x
 |20,x=>J9 x
 |21,x=>o4 x
 |22,x=>J8 x
 |23,x=>HK x
 |24,x=>wu x
 |25,x=>Dp x
 |26,x=>wq x
 |27,x=>xP x
 |28,x=>Dr x
 |29,x=>QC x
 |30,x=>aj0 x
 |_+31,_=>[]
def FY:Nat->L (TypeId×Ty)
 |16=>[(170,.st 12),(173,.st 13),(175,.st 14),(181,.st 15)]
 |29=>[(274,.st 27),(297,.int .i64),(298,.st 28)]
 |30=>[(175,.st 14)]
 |_=>[]
def eB:(n:Nat)->J6 n->uI J6 (FY n)
 |0,_=>()
 |1,_=>()
 |2,_=>()
 |3,_=>()
 |4,_=>()
 |5,_=>()
 |6,_=>()
 |7,_=>()
 |8,_=>()
 |9,_=>()
 |10,_=>()
 |11,_=>()
 |12,_=>()
 |13,_=>()
 |14,_=>()
 |15,_=>()
 |16,.a0 x=>.inl x
 |16,.a1 x=>.inr (.inl x)
 |16,.a2 x=>.inr (.inr (.inl x))
 |16,.a3 x=>.inr (.inr (.inr (.inl x)))
 |16,.none=>.inr (.inr (.inr (.inr (()))))
 |17,_=>()
 |18,_=>()
 |19,_=>()
 |20,_=>()
 |21,_=>()
 |22,_=>()
 |23,_=>()
 |24,_=>()
 |25,_=>()
 |26,_=>()
 |27,_=>()
 |28,_=>()
 |29,.a0 x=>.inl x
 |29,.a1 x=>.inr (.inl x)
 |29,.a2 x=>.inr (.inr (.inl x))
 |29,.none=>.inr (.inr (.inr (())))
 |30,.a0 x=>.inl x
 |30,.none=>.inr (())
 |_+31,_=>()
def acI:(n:Nat)->uI J6 (FY n)->J6 n
 |0,_=>aR
 |1,_=>aN
 |2,_=>bu
 |3,_=>ke
 |4,_=>aB
 |5,_=>aF
 |6,_=>aS
 |7,_=>eg
 |8,_=>cm
 |9,_=>eG
 |10,_=>r5
 |11,_=>z9
 |12,_=>Db
 |13,_=>FJ
 |14,_=>Aa
 |15,_=>Dc
 |16,.inl x=>(dx.a0 x)
 |16,.inr (.inl x)=>(dx.a1 x)
 |16,.inr (.inr (.inl x))=>(dx.a2 x)
 |16,.inr (.inr (.inr (.inl x)))=>(dx.a3 x)
 |16,.inr (.inr (.inr (.inr (_))))=>dx.none
 |17,_=>lC
 |18,_=>gA
 |19,_=>j9
 |20,_=>oZ
 |21,_=>dh
 |22,_=>iZ
 |23,_=>xL
 |24,_=>ot
 |25,_=>cX
 |26,_=>oq
 |27,_=>xM
 |28,_=>Dd
 |29,.inl x=>(cA.a0 x)
 |29,.inr (.inl x)=>(cA.a1 x)
 |29,.inr (.inr (.inl x))=>(cA.a2 x)
 |29,.inr (.inr (.inr (_)))=>cA.none
 |30,.inl x=>(Any.a0 x)
 |30,.inr (_)=>Any.none
 |_+31,_=>()
def S7:(n:Nat)->J6 n->O (TypeId×D)
 |16,x=>Ju x
 |29,x=>Fw x
 |30,x=>acK x
 |_,_=>Y
def sg:Sg:=⟨J6,fields,dflt,WO,SF,TX,FY,eB,acI,S7,.cE 30⟩
def s7:(n:Nat)->(h:kK J6 (fields n))->WO n (SF n h)=h
 |0,(x0,x1,x2,x3,())=>rfl
 |1,(x0,x1,x2,x3,())=>rfl
 |2,(x0,x1,())=>rfl
 |3,(x0,x1,x2,x3,())=>rfl
 |4,(x0,x1,())=>rfl
 |5,(x0,x1,x2,())=>rfl
 |6,(x0,x1,x2,x3,())=>rfl
 |7,(x0,x1,())=>rfl
 |8,(x0,x1,x2,x3,x4,())=>rfl
 |9,(x0,x1,x2,x3,x4,())=>rfl
 |10,(x0,x1,x2,x3,x4,x5,x6,x7,x8,x9,YD,())=>rfl
 |11,(x0,x1,x2,x3,x4,x5,x6,x7,x8,())=>rfl
 |12,()=>rfl
 |13,(x0,x1,x2,x3,x4,())=>rfl
 |14,(x0,())=>rfl
 |15,()=>rfl
 |16,(x0,())=>rfl
 |17,(x0,x1,x2,x3,())=>rfl
 |18,(x0,x1,())=>rfl
 |19,(x0,x1,())=>rfl
 |20,(x0,x1,x2,x3,x4,())=>rfl
 |21,(x0,x1,x2,x3,x4,x5,x6,x7,x8,x9,YD,x11,x12,x13,x14,())=>rfl
 |22,(x0,x1,x2,())=>rfl
 |23,(x0,x1,x2,x3,())=>rfl
 |24,(x0,x1,x2,())=>rfl
 |25,(x0,x1,x2,x3,())=>rfl
 |26,(x0,x1,x2,())=>rfl
 |27,()=>rfl
 |28,()=>rfl
 |29,(x0,())=>rfl
 |30,(x0,())=>rfl
 |_+31,()=>rfl
def SB:(n:Nat)->(x:J6 n)->SF n (WO n x)=x
 |0,⟨x0,x1,x2,x3⟩=>rfl
 |1,⟨x0,x1,x2,x3⟩=>rfl
 |2,⟨x0,x1⟩=>rfl
 |3,⟨x0,x1,x2,x3⟩=>rfl
 |4,⟨x0,x1⟩=>rfl
 |5,⟨x0,x1,x2⟩=>rfl
 |6,⟨x0,x1,x2,x3⟩=>rfl
 |7,⟨x0,x1⟩=>rfl
 |8,⟨x0,x1,x2,x3,x4⟩=>rfl
 |9,⟨x0,x1,x2,⟨x3,x4⟩⟩=>rfl
 |10,⟨⟨x0,x1,x2,x3,x4⟩,x5,⟨x6,x7,x8,⟨x9,YD⟩⟩⟩=>rfl
 |11,⟨⟨x0,x1,x2,x3⟩,⟨x4,x5,x6,x7,x8⟩⟩=>rfl
 |12,.mk=>rfl
 |13,⟨⟨x0,x1,x2,⟨x3,x4⟩⟩⟩=>rfl
 |14,⟨x0⟩=>rfl
 |15,.mk=>rfl
 |16,_=>rfl
 |17,⟨x0,x1,x2,x3⟩=>rfl
 |18,⟨x0,x1⟩=>rfl
 |19,⟨x0,x1⟩=>rfl
 |20,⟨x0,x1,x2,x3,x4⟩=>rfl
 |21,⟨x0,x1,⟨x2,x3,x4,x5⟩,⟨x6,x7,x8,x9⟩,⟨YD,x11,x12,x13,x14⟩⟩=>rfl
 |22,⟨x0,x1,x2⟩=>rfl
 |23,⟨⟨x0,x1,x2,x3⟩⟩=>rfl
 |24,⟨x0,x1,x2⟩=>rfl
 |25,⟨x0,x1,x2,x3⟩=>rfl
 |26,⟨x0,x1,x2⟩=>rfl
 |27,.mk=>rfl
 |28,.mk=>rfl
 |29,_=>rfl
 |30,_=>rfl
 |_+31,()=>rfl
def TW:(n:Nat)->(x:J6 n)->TX n x=fV sg (fields n) (WO n x)
 |0,.mk x0 x1 x2 x3=>by show tB _=_;simp only[tB,jM];rfl
 |1,x=>by show lF x=_;simp only[lF,jM];rfl
 |2,_=>rfl
 |3,_=>rfl
 |4,_=>rfl
 |5,_=>rfl
 |6,_=>rfl
 |7,_=>rfl
 |8,_=>rfl
 |9,_=>rfl
 |10,_=>rfl
 |11,_=>rfl
 |12,_=>rfl
 |13,_=>rfl
 |14,_=>rfl
 |15,_=>rfl
 |16,_=>rfl
 |17,.mk x0 x1 x2 x3=>by show qy _=_;simp only[qy,kN];rfl
 |18,x=>by show o5 x=_;simp only[o5,kN];rfl
 |19,_=>rfl
 |20,.mk x0 x1 x2 x3 x4=>by show J9 _=_;simp only[J9,wk,jM];rfl
 |21,x=>by show o4 x=_;simp only[o4,wk,jM,kN];rfl
 |22,_=>rfl
 |23,_=>rfl
 |24,_=>rfl
 |25,_=>rfl
 |26,_=>rfl
 |27,_=>rfl
 |28,_=>rfl
 |29,_=>rfl
 |30,_=>rfl
 |_+31,()=>rfl
def V6:(n:Nat)->∀t∈fields n,iK t=J
 |0=>λt h=>cH (l:=fields 0) rfl t h
 |1=>λt h=>cH (l:=fields 1) rfl t h
 |2=>λt h=>cH (l:=fields 2) rfl t h
 |3=>λt h=>cH (l:=fields 3) rfl t h
 |4=>λt h=>cH (l:=fields 4) rfl t h
 |5=>λt h=>cH (l:=fields 5) rfl t h
 |6=>λt h=>cH (l:=fields 6) rfl t h
 |7=>λt h=>cH (l:=fields 7) rfl t h
 |8=>λt h=>cH (l:=fields 8) rfl t h
 |9=>λt h=>cH (l:=fields 9) rfl t h
 |10=>λt h=>cH (l:=fields 10) rfl t h
 |11=>λt h=>cH (l:=fields 11) rfl t h
 |12=>λt h=>cH (l:=fields 12) rfl t h
 |13=>λt h=>cH (l:=fields 13) rfl t h
 |14=>λt h=>cH (l:=fields 14) rfl t h
 |15=>λt h=>cH (l:=fields 15) rfl t h
 |16=>λt h=>cH (l:=fields 16) rfl t h
 |17=>λt h=>cH (l:=fields 17) rfl t h
 |18=>λt h=>cH (l:=fields 18) rfl t h
 |19=>λt h=>cH (l:=fields 19) rfl t h
 |20=>λt h=>cH (l:=fields 20) rfl t h
 |21=>λt h=>cH (l:=fields 21) rfl t h
 |22=>λt h=>cH (l:=fields 22) rfl t h
 |23=>λt h=>cH (l:=fields 23) rfl t h
 |24=>λt h=>cH (l:=fields 24) rfl t h
 |25=>λt h=>cH (l:=fields 25) rfl t h
 |26=>λt h=>cH (l:=fields 26) rfl t h
 |27=>λt h=>cH (l:=fields 27) rfl t h
 |28=>λt h=>cH (l:=fields 28) rfl t h
 |29=>λt h=>cH (l:=fields 29) rfl t h
 |30=>λt h=>cH (l:=fields 30) rfl t h
 |_+31=>λ_ h=>by cases h
def AZ:(n:Nat)->(h:uI J6 (FY n))->eB n (acI n h)=h
 |0,()=>rfl
 |1,()=>rfl
 |2,()=>rfl
 |3,()=>rfl
 |4,()=>rfl
 |5,()=>rfl
 |6,()=>rfl
 |7,()=>rfl
 |8,()=>rfl
 |9,()=>rfl
 |10,()=>rfl
 |11,()=>rfl
 |12,()=>rfl
 |13,()=>rfl
 |14,()=>rfl
 |15,()=>rfl
 |16,.inl x=>rfl
 |16,.inr (.inl x)=>rfl
 |16,.inr (.inr (.inl x))=>rfl
 |16,.inr (.inr (.inr (.inl x)))=>rfl
 |16,.inr (.inr (.inr (.inr (()))))=>rfl
 |17,()=>rfl
 |18,()=>rfl
 |19,()=>rfl
 |20,()=>rfl
 |21,()=>rfl
 |22,()=>rfl
 |23,()=>rfl
 |24,()=>rfl
 |25,()=>rfl
 |26,()=>rfl
 |27,()=>rfl
 |28,()=>rfl
 |29,.inl x=>rfl
 |29,.inr (.inl x)=>rfl
 |29,.inr (.inr (.inl x))=>rfl
 |29,.inr (.inr (.inr (())))=>rfl
 |30,.inl x=>rfl
 |30,.inr (())=>rfl
 |_+31,()=>rfl
def S6:(n:Nat)->(x:J6 n)->S7 n x=rG sg (FY n) (eB n x)
 |0,_=>rfl
 |1,_=>rfl
 |2,_=>rfl
 |3,_=>rfl
 |4,_=>rfl
 |5,_=>rfl
 |6,_=>rfl
 |7,_=>rfl
 |8,_=>rfl
 |9,_=>rfl
 |10,_=>rfl
 |11,_=>rfl
 |12,_=>rfl
 |13,_=>rfl
 |14,_=>rfl
 |15,_=>rfl
 |16,x=>by cases x<;>rfl
 |17,_=>rfl
 |18,_=>rfl
 |19,_=>rfl
 |20,_=>rfl
 |21,_=>rfl
 |22,_=>rfl
 |23,_=>rfl
 |24,_=>rfl
 |25,_=>rfl
 |26,_=>rfl
 |27,_=>rfl
 |28,_=>rfl
 |29,x=>by cases x<;>rfl
 |30,x=>by cases x<;>rfl
 |_+31,()=>rfl
def Xh:(n:Nat)->Kj (FY n)=W
 |0=>rfl
 |1=>rfl
 |2=>rfl
 |3=>rfl
 |4=>rfl
 |5=>rfl
 |6=>rfl
 |7=>rfl
 |8=>rfl
 |9=>rfl
 |10=>rfl
 |11=>rfl
 |12=>rfl
 |13=>rfl
 |14=>rfl
 |15=>rfl
 |16=>rfl
 |17=>rfl
 |18=>rfl
 |19=>rfl
 |20=>rfl
 |21=>rfl
 |22=>rfl
 |23=>rfl
 |24=>rfl
 |25=>rfl
 |26=>rfl
 |27=>rfl
 |28=>rfl
 |29=>rfl
 |30=>rfl
 |_+31=>rfl
def Ru:eR sg:=⟨s7,SB,TW,V6,AZ,S6,Xh⟩
noncomputable def KV:Tr (TI):=(n0 (cu (n1 ⟨1,J,[aL],[],.leaf (.int .i64)⟩ (n1 ⟨4,W,[aL,aL,.lit (.bool J),.lit (.int .u8 0)],[.int .i64,.int .i64,.bool,.int .u8],oM⟩ (n1 ⟨1,J,[jS],[],.ptr⟩ (n1 ⟨5,W,[.sl [],.sl [],.sl [],.sl [],aL],[],Nt⟩ (cu (cu bJ e0) (cu bJ e0)) (n1 ⟨1,J,[.sl []],[],.slice 2 W 16 [aL,aL]⟩ (n1 ⟨1,J,[.lit (.map Y)],[],.other⟩ bJ e0) bJ)) (cu (cu (cu (bn ⟨1,J,[.lit .nilIface],[],.iface⟩) e0) bJ) (cu (n1 ⟨1,W,[aL],[.int .i64],Rp⟩ bJ e0) bJ))) (n1 ⟨1,J,[.sl []],[],.slice 1 J 8 [aL]⟩ (cu (cu (cu bJ e0) (cu bJ e0)) (n1 ⟨9,W,[.sl [],.sl [],aL,.sl [],.sl [],.sl [],.sl [],.sl [],aL],[],.struct [(0,4,W),(4,5,W)]⟩ (cu bJ e0) bJ)) (n1 ⟨2,W,[aL,aL],[.int .i64,.int .i64],uP⟩ (n1 ⟨1,J,[aL],[],.leaf (.int .i64)⟩ (cu bJ e0) (n1 ⟨5,W,[aL,aL,cW,.sl [],.sl []],[],Nt⟩ bJ e0)) (cu (cu bJ e0) e0)))) (n0 (n0 (cu (cu (cu bJ e0) (cu bJ e0)) (n1 ⟨4,W,[aL,aL,.sl [],.sl []],[],oM⟩ (cu bJ e0) bJ)) (n1 ⟨2,W,[aL,aL],[.int .i64,.int .i64],uP⟩ (n1 ⟨1,J,[.sl []],[],.slice 4 W 56 [aL,aL,cW,.sl []]⟩ (n1 ⟨4,W,[.sl [],.sl [],aL,.sl []],[],.struct [(0,4,W)]⟩ bJ e0) (n1 ⟨4,W,[aL,aL,cW,.sl []],[],oM⟩ bJ e0)) (cu (n1 ⟨11,W,[jS,aL,.sl [],aL,.sl [],.sl [],aL,aL,.sl [],.sl [],.sl []],[],.struct [(0,1,J),(1,1,J),(2,1,J),(3,3,W),(6,4,W),(10,1,J)]⟩ bJ e0) bJ))) (cu (n1 ⟨1,J,[.sl []],[],.slice 5 W 40 [aL,aL,aL,aL,aL]⟩ (n1 ⟨11,W,[.sl [],.sl [],.sl [],.sl [],aL,aL,aL,aL,aL,aL,aL],[],.struct [(0,5,W),(5,1,J),(6,5,W)]⟩ (n1 ⟨1,J,[.sl []],[],.slice 15 W 224 [cW,cW,aL,aL,cW,.sl [],aL,aL,cW,.sl [],aL,aL,cW,.sl [],.sl []]⟩ bJ e0) (cu bJ e0)) (cu (cu bJ e0) bJ)) (cu (cu (cu bJ e0) bJ) (cu (cu bJ e0) bJ))))) (n1 ⟨1,J,[.lit (.int .u8 0)],[],.leaf (.int .u8)⟩ (n1 ⟨1,J,[cW],[],.leaf .str⟩ (n1 ⟨1,J,[jS],[],.ptr⟩ (n1 ⟨1,J,[aL],[],.leaf (.int .i64)⟩ (cu (cu (bn ⟨2,W,[cW,.sl []],[],uP⟩) e0) (cu bJ e0)) (n1 ⟨3,W,[aL,.sl [],.sl []],[],zq⟩ (cu bJ e0) bJ)) (n1 ⟨1,J,[aL],[],.leaf (.int .i64)⟩ (n1 ⟨2,W,[cW,aL],[.str,.int .i64],uP⟩ (cu bJ e0) (n1 ⟨1,J,[aL],[],.leaf (.int .i64)⟩ (bn ⟨0,W,[],[],.struct [(0,0,W)]⟩) e0)) (cu (n1 ⟨1,J,[jS],[],.ptr⟩ bJ e0) bJ))) (n1 ⟨4,W,[.sl [],.sl [],aL,.sl []],[],oM⟩ (cu (cu (cu (bn ⟨2,W,[cW,.sl []],[],uP⟩) e0) (n1 ⟨1,J,[jS],[],.ptr⟩ bJ e0)) (n0 (n1 ⟨0,W,[],[],.struct []⟩ (bn ⟨1,J,[aL],[],.leaf (.int .i64)⟩) e0) bJ)) (cu (n1 ⟨4,W,[aL,aL,cW,.sl []],[],oM⟩ (n1 ⟨1,J,[.sl []],[],.slice 1 J 16 [cW]⟩ (bn ⟨1,J,[.lit (.map Y)],[],.other⟩) e0) (bn ⟨15,W,[cW,cW,aL,aL,cW,.sl [],aL,aL,cW,.sl [],aL,aL,cW,.sl [],.sl []],[],.struct [(0,1,J),(1,1,J),(2,4,W),(6,4,W),(10,5,W)]⟩)) (cu (cu bJ e0) (bn ⟨3,W,[.sl [],aL,.lit (.bool J)],[],zq⟩))))) (n0 (n1 ⟨1,J,[.lit (.int .i32 0)],[],.leaf (.int .i32)⟩ (cu (cu (cu bJ e0) (n0 bJ e0)) (n1 ⟨1,J,[jS],[],.ptr⟩ (cu bJ e0) bJ)) (n1 ⟨5,W,[aL,aL,aL,aL,aL],[.int .i64,.int .i64,.int .i64,.int .i64,.int .i64],.struct [(0,1,J),(1,1,J),(2,1,J),(3,2,W)]⟩ (n1 ⟨4,W,[aL,aL,.sl [],.sl []],[],oM⟩ (cu bJ e0) (bn ⟨1,J,[.sl []],[],.slice 5 W 80 [aL,aL,cW,.sl [],.sl []]⟩)) (cu (bn ⟨0,W,[],[],.struct []⟩) bJ))) (n1 ⟨1,J,[.sl []],[],.slice 4 W 64 [aL,aL,.sl [],.sl []]⟩ (cu (cu (n1 ⟨3,W,[cW,.sl [],.sl []],[],zq⟩ bJ e0) (n1 ⟨3,W,[.sl [],.sl [],.sl []],[],zq⟩ bJ e0)) (cu (n1 ⟨5,W,[aL,aL,aL,aL,aL],[.int .i64,.int .i64,.int .i64,.int .i64,.int .i64],.struct [(0,5,W)]⟩ bJ e0) bJ)) (cu (n1 ⟨1,J,[aL],[],.leaf (.int .i64)⟩ (cu bJ e0) bJ) (n1 ⟨1,J,[.lit .nilIface],[],.iface⟩ (cu bJ e0) (bn ⟨4,W,[aL,cW,aL,aL],[.int .i64,.str,.int .i64,.int .i64],oM⟩))))))) (n1 ⟨1,J,[aL],[],.leaf (.int .i64)⟩ (n1 ⟨1,J,[.lit (.bool J)],[],.leaf .bool⟩ (n0 (n1 ⟨1,J,[jS],[],.ptr⟩ (n1 ⟨5,W,[.sl [],.sl [],.sl [],.sl [],aL],[],Nt⟩ (n0 (cu (bn ⟨1,J,[.sl []],[],.slice 2 W 40 [cW,.sl []]⟩) e0) (cu bJ e0)) (n1 ⟨3,W,[aL,.sl [],.sl []],[],zq⟩ (cu bJ e0) bJ)) (n1 ⟨1,J,[aL],[],.leaf (.int .i64)⟩ (cu (n0 (bn ⟨1,J,[.lit .nilIface],[],.iface⟩) e0) (cu (bn ⟨0,W,[],[],.array 0 1 J⟩) e0)) (cu (n0 bJ e0) e0))) (n1 ⟨1,J,[.sl []],[],.slice 2 W 24 [cW,aL]⟩ (cu (n0 (cu (bn ⟨2,W,[cW,.sl []],[],uP⟩) e0) (cu bJ e0)) (n1 ⟨9,W,[.sl [],.sl [],aL,.sl [],.sl [],.sl [],.sl [],.sl [],aL],[],.struct [(0,4,W),(4,5,W)]⟩ (cu bJ e0) bJ)) (cu (n1 ⟨4,W,[aL,aL,cW,.sl []],[],oM⟩ (cu bJ e0) (n1 ⟨15,W,[cW,cW,aL,aL,cW,.sl [],aL,aL,cW,.sl [],aL,aL,cW,.sl [],.sl []],[],.struct [(0,1,J),(1,1,J),(2,4,W),(6,4,W),(10,5,W)]⟩ (bn ⟨1,J,[jS],[],.ptr⟩) e0)) (cu (cu (bn ⟨1,J,[jS],[],.ptr⟩) e0) bJ)))) (n1 ⟨1,J,[.lit (.int .u64 0)],[],.leaf (.int .u64)⟩ (n1 ⟨1,J,[.lit .nilIface],[],.iface⟩ (cu (cu (cu bJ e0) (n1 ⟨1,J,[jS],[],.ptr⟩ bJ e0)) (n1 ⟨4,W,[aL,aL,.sl [],.sl []],[],oM⟩ (cu bJ e0) bJ)) (n1 ⟨5,W,[aL,aL,aL,aL,aL],[.int .i64,.int .i64,.int .i64,.int .i64,.int .i64],.struct [(0,1,J),(1,1,J),(2,1,J),(3,2,W)]⟩ (n1 ⟨4,W,[aL,aL,.sl [],.sl []],[],oM⟩ (cu bJ e0) (n1 ⟨4,W,[aL,aL,cW,.sl []],[],oM⟩ (bn ⟨1,J,[.lit (.int .u32 0)],[],.leaf (.int .u32)⟩) e0)) (n0 (cu bJ e0) e0))) (cu (n0 (n1 ⟨11,W,[.sl [],.sl [],.sl [],.sl [],aL,aL,aL,aL,aL,aL,aL],[],.struct [(0,5,W),(5,1,J),(6,5,W)]⟩ (n1 ⟨3,W,[cW,.sl [],.sl []],[],zq⟩ bJ e0) (n1 ⟨3,W,[.sl [],.sl [],.sl []],[],zq⟩ bJ e0)) (cu (n1 ⟨5,W,[aL,aL,aL,aL,aL],[.int .i64,.int .i64,.int .i64,.int .i64,.int .i64],.struct [(0,5,W)]⟩ bJ e0) bJ)) (cu (cu (cu bJ e0) bJ) (cu (cu bJ e0) (bn ⟨1,J,[aL],[],.leaf (.int .i64)⟩)))))) (n0 (n0 (n1 ⟨1,W,[jS],[],Rp⟩ (n0 (n0 (cu (bn ⟨2,W,[cW,.sl []],[],uP⟩) e0) (cu bJ e0)) (n1 ⟨1,J,[.sl []],[],.slice 3 W 56 [aL,.sl [],.sl []]⟩ (cu bJ e0) bJ)) (n1 ⟨2,W,[aL,aL],[.int .i64,.int .i64],uP⟩ (n1 ⟨2,W,[cW,aL],[.str,.int .i64],uP⟩ (n1 ⟨4,W,[.sl [],.sl [],aL,.sl []],[],.struct [(0,4,W)]⟩ (bn ⟨0,W,[],[],.struct []⟩) e0) (bn ⟨1,J,[.sl []],[],.slice 4 W 56 [aL,aL,cW,.sl []]⟩)) (n0 (n1 ⟨11,W,[jS,aL,.sl [],aL,.sl [],.sl [],aL,aL,.sl [],.sl [],.sl []],[],.struct [(0,1,J),(1,1,J),(2,1,J),(3,3,W),(6,4,W),(10,1,J)]⟩ bJ e0) e0))) (n1 ⟨4,W,[.sl [],.sl [],aL,.sl []],[],oM⟩ (cu (cu (n1 ⟨1,J,[.sl []],[],.slice 2 W 40 [cW,.sl []]⟩ bJ e0) bJ) (cu (n1 ⟨0,W,[],[],.struct []⟩ (bn ⟨0,W,[],[],.struct []⟩) e0) bJ)) (cu (cu (cu bJ e0) bJ) (cu (cu bJ e0) (bn ⟨3,W,[.sl [],aL,.lit (.bool J)],[],zq⟩))))) (n0 (n1 ⟨1,J,[.sl []],[],.slice 4 W 64 [aL,aL,.sl [],.sl []]⟩ (n0 (n0 (cu bJ e0) (cu bJ e0)) (cu (cu bJ e0) bJ)) (n1 ⟨2,W,[aL,aL],[.int .i64,.int .i64],uP⟩ (cu (cu bJ e0) (bn ⟨5,W,[aL,aL,cW,.sl [],.sl []],[],Nt⟩)) (cu (cu bJ e0) (bn ⟨1,J,[.sl []],[],.slice 4 W 40 [aL,cW,aL,aL]⟩)))) (n1 ⟨1,J,[.sl []],[],.slice 2 W 16 [aL,aL]⟩ (cu (n0 (n0 (bn ⟨1,J,[.lit (.map Y)],[],.other⟩) e0) (cu (bn ⟨4,W,[jS,jS,jS,cW],[],oM⟩) e0)) (n1 ⟨1,J,[.sl []],[],.slice 1 J 1 [.lit (.bool J)]⟩ (n1 ⟨1,W,[aL],[.int .i64],Rp⟩ bJ e0) (bn ⟨29,W,[eE,eE,eE,eE,eE,eE,eE,eE,eE,eE,eE,eE,eE,eE,eE,eE,eE,eE,eE,eE,eE,eE,eE,eE,eE,eE,eE,eE,eE],[],.array 29 1 J⟩))) (n0 (cu bJ bJ) (n1 ⟨1,J,[.lit .nilIface],[],.iface⟩ (cu bJ e0) (bn ⟨4,W,[aL,cW,aL,aL],[.int .i64,.str,.int .i64,.int .i64],oM⟩))))))))
noncomputable def OU:Tr (Ty):=(n0 (n0 (n1 (.int .i64) (n0 (n0 (n0 e0 (bn (.sl (.st 4)))) (n0 e0 (n0 (bn (.st 14)) e0))) (n1 (.sl (.int .i64)) e0 (n1 (.st 7) (n1 (.int .i64) e0 (bn (.st 20))) e0))) (n0 (n0 e0 (n1 (.st 4) (n1 (.sl (.st 0)) (bn (.st 23)) e0) e0)) (n0 (n1 (.sl (.st 9)) (n0 (bn (.sl (.st 21))) e0) e0) e0))) (n1 (.int .u8) (n1 (.str) (n0 (n1 (.int .i64) e0 (bn (.st 5))) (n1 (.int .i64) (n0 e0 (bn (.int .i64))) e0)) (n0 (n0 (n0 (n0 (bn (.st 18)) e0) e0) (n0 (n0 (bn (.int .i64)) e0) e0)) (n0 (n1 (.st 0) (bn (.sl (.str))) (bn (.st 21))) e0))) (n0 (n1 (.int .i32) e0 (n1 (.st 9) (n1 (.st 1) e0 (bn (.sl (.st 20)))) (n0 (bn (.st 15)) e0))) (n1 (.sl (.st 6)) (n0 (n0 (bn (.st 22)) (bn (.st 24))) (n0 (bn (.st 13)) e0)) (n0 (bn (.int .i64)) e0))))) (n1 (.int .i64) (n1 (.bool) (n0 (n0 (n1 (.st 8) (n0 (n0 (bn (.sl (.st 18))) e0) e0) e0) (n1 (.int .i64) (n0 (n0 (bn (.cE 29)) e0) e0) e0)) (n1 (.sl (.st 2)) (n0 e0 (bn (.st 11))) e0)) (n1 (.int .u64) (n1 (.cE 30) (n0 e0 (bn (.st 6))) (n0 (n0 e0 (n1 (.st 17) (bn (.int .u32)) e0)) e0)) (n0 (n0 (bn (.st 10)) e0) (n0 e0 (n0 e0 (bn (.int .i64))))))) (n0 (n0 (n0 (n0 (n0 (n0 (bn (.st 19)) e0) e0) (bn (.sl (.st 5)))) (n0 (n1 (.st 2) (n0 (bn (.st 27)) e0) (bn (.sl (.st 17)))) e0)) (n1 (.st 3) (n0 (n0 (bn (.sl (.st 19))) e0) (n0 (n1 (.st 12) (bn (.st 28)) e0) e0)) (n0 e0 (n0 e0 (bn (.st 26)))))) (n0 (n1 (.sl (.st 1)) e0 (n0 e0 (n0 e0 (bn (.sl (.st 25)))))) (n1 (.sl (.st 7)) (n0 e0 (bn (.sl (.bool)))) (n0 e0 (n1 (.cE 16) e0 (bn (.st 25)))))))))
noncomputable def U7:Tr (MT):=(n0 (n0 (n0 (n0 (n0 (n0 e0 (n0 (bn ⟨.int .i64,Z (.int .i64),3⟩) e0)) e0) e0) e0) (n0 (n0 e0 (n0 e0 (n0 (n0 (n0 (bn ⟨.int .i64,Z (.bool),4⟩) e0) e0) e0))) e0)) (n0 e0 (n0 e0 (n0 e0 (n0 (n0 (n0 (n0 (bn ⟨.str,Z (.bool),4⟩) e0) e0) e0) e0)))))
noncomputable def sR:Tr (L (String×FuncId)):=(n0 (n0 (n0 (n0 (n1 [("Error",328),("RuntimeError",329)] e0 (n0 e0 (n0 (n1 [("hearth/mean.event",114)] e0 e0) e0))) e0) (n1 [("Error",324),("RuntimeError",325)] (n1 [("Error",333),("RuntimeError",334)] e0 (n0 (n0 (n1 [("hearth/bind.formed",87),("hearth/bind.node",153),("hearth/bind.number",204),("hearth/bind.pat",203)] e0 e0) e0) e0)) e0)) (n0 (n0 (n1 [("Align",332)] e0 e0) (n0 (n0 (n0 e0 (n1 [("hearth/hearthref05.known",143),("hearth/hearthref05.knownPat",191),("hearth/hearthref05.pattern",194),("hearth/hearthref05.put",145)] e0 e0)) (n0 (n0 (n1 [("hearth/bind.fine",339)] e0 e0) e0) e0)) e0)) (n0 (n0 (n0 e0 (n1 [("hearth/mean.copied",51),("hearth/mean.finish",111),("hearth/mean.frame",266),("hearth/mean.frames",212),("hearth/mean.next",110),("hearth/mean.object",163),("hearth/mean.open",267),("hearth/mean.ordered",60),("hearth/mean.ready",68),("hearth/mean.settle",50),("hearth/mean.step",70),("hearth/mean.task",213),("hearth/mean.tasks",164),("hearth/mean.turn",59),("hearth/mean.value",211),("hearth/mean.world",99)] e0 e0)) (n0 e0 (n0 (n1 [("hearth/mean.event",337)] e0 e0) e0))) (n0 (n0 e0 (n0 (n1 [("hearth/mean.event",336)] e0 e0) e0)) e0)))) (n0 (n0 (n1 [("Error",320),("RuntimeError",321)] (n1 [("Error",330),("RuntimeError",331)] e0 e0) e0) (n0 (n0 (n0 (n0 e0 (n1 [("hearth/hearthref02.applied",312),("hearth/hearthref02.atom",313),("hearth/hearthref02.begins",314),("hearth/hearthref02.call",317),("hearth/hearthref02.cases",316),("hearth/hearthref02.data",183),("hearth/hearthref02.function",184),("hearth/hearthref02.has",182),("hearth/hearthref02.is",246),("hearth/hearthref02.kind",248),("hearth/hearthref02.module",136),("hearth/hearthref02.of",306),("hearth/hearthref02.pat",319),("hearth/hearthref02.product",307),("hearth/hearthref02.sees",247),("hearth/hearthref02.simple",286),("hearth/hearthref02.sum",288),("hearth/hearthref02.take",181),("hearth/hearthref02.term",249),("hearth/hearthref02.terms",315),("hearth/hearthref02.under",287),("hearth/hearthref02.want",180),("hearth/hearthref02.whole",137)] e0 e0)) e0) e0) e0)) (n0 (n1 [("Error",322),("RuntimeError",323)] (n0 e0 (n0 (n0 (n0 (n1 [("hearth/bind.fine",338)] e0 e0) e0) e0) e0)) (n0 (n0 e0 (n0 (n1 [("hearth/mean.event",335)] (n1 [("hearth/bind.fine",340)] e0 e0) e0) e0)) e0)) (n1 [("Error",326),("RuntimeError",327)] (n0 e0 (n0 (n0 e0 (n0 (n1 [("String",341)] e0 e0) e0)) e0)) e0))))
noncomputable def oc:Tr (Func):=(n1 f0 (n1 f1 (n1 f3 (n1 f7 (n1 f15 (n1 f31 (n1 f63 (n1 f127 (bn f255) e0) (n1 f191 (bn f319) e0)) (n1 f95 (n1 f159 (bn f287) e0) (bn f223))) (n1 f47 (n1 f79 (n1 f143 (bn f271) e0) (n1 f207 (bn f335) e0)) (n1 f111 (n1 f175 (bn f303) e0) (bn f239)))) (n1 f23 (n1 f39 (n1 f71 (n1 f135 (bn f263) e0) (n1 f199 (bn f327) e0)) (n1 f103 (n1 f167 (bn f295) e0) (bn f231))) (n1 f55 (n1 f87 (n1 f151 (bn f279) e0) (bn f215)) (n1 f119 (n1 f183 (bn f311) e0) (bn f247))))) (n1 f11 (n1 f19 (n1 f35 (n1 f67 (n1 f131 (bn f259) e0) (n1 f195 (bn f323) e0)) (n1 f99 (n1 f163 (bn f291) e0) (bn f227))) (n1 f51 (n1 f83 (n1 f147 (bn f275) e0) (n1 f211 (bn f339) e0)) (n1 f115 (n1 f179 (bn f307) e0) (bn f243)))) (n1 f27 (n1 f43 (n1 f75 (n1 f139 (bn f267) e0) (n1 f203 (bn f331) e0)) (n1 f107 (n1 f171 (bn f299) e0) (bn f235))) (n1 f59 (n1 f91 (n1 f155 (bn f283) e0) (bn f219)) (n1 f123 (n1 f187 (bn f315) e0) (bn f251)))))) (n1 f5 (n1 f9 (n1 f17 (n1 f33 (n1 f65 (n1 f129 (bn f257) e0) (n1 f193 (bn f321) e0)) (n1 f97 (n1 f161 (bn f289) e0) (bn f225))) (n1 f49 (n1 f81 (n1 f145 (bn f273) e0) (n1 f209 (bn f337) e0)) (n1 f113 (n1 f177 (bn f305) e0) (bn f241)))) (n1 f25 (n1 f41 (n1 f73 (n1 f137 (bn f265) e0) (n1 f201 (bn f329) e0)) (n1 f105 (n1 f169 (bn f297) e0) (bn f233))) (n1 f57 (n1 f89 (n1 f153 (bn f281) e0) (bn f217)) (n1 f121 (n1 f185 (bn f313) e0) (bn f249))))) (n1 f13 (n1 f21 (n1 f37 (n1 f69 (n1 f133 (bn f261) e0) (n1 f197 (bn f325) e0)) (n1 f101 (n1 f165 (bn f293) e0) (bn f229))) (n1 f53 (n1 f85 (n1 f149 (bn f277) e0) (n1 f213 (bn f341) e0)) (n1 f117 (n1 f181 (bn f309) e0) (bn f245)))) (n1 f29 (n1 f45 (n1 f77 (n1 f141 (bn f269) e0) (n1 f205 (bn f333) e0)) (n1 f109 (n1 f173 (bn f301) e0) (bn f237))) (n1 f61 (n1 f93 (n1 f157 (bn f285) e0) (bn f221)) (n1 f125 (n1 f189 (bn f317) e0) (bn f253))))))) (n1 f2 (n1 f4 (n1 f8 (n1 f16 (n1 f32 (n1 f64 (n1 f128 (bn f256) e0) (n1 f192 (bn f320) e0)) (n1 f96 (n1 f160 (bn f288) e0) (bn f224))) (n1 f48 (n1 f80 (n1 f144 (bn f272) e0) (n1 f208 (bn f336) e0)) (n1 f112 (n1 f176 (bn f304) e0) (bn f240)))) (n1 f24 (n1 f40 (n1 f72 (n1 f136 (bn f264) e0) (n1 f200 (bn f328) e0)) (n1 f104 (n1 f168 (bn f296) e0) (bn f232))) (n1 f56 (n1 f88 (n1 f152 (bn f280) e0) (bn f216)) (n1 f120 (n1 f184 (bn f312) e0) (bn f248))))) (n1 f12 (n1 f20 (n1 f36 (n1 f68 (n1 f132 (bn f260) e0) (n1 f196 (bn f324) e0)) (n1 f100 (n1 f164 (bn f292) e0) (bn f228))) (n1 f52 (n1 f84 (n1 f148 (bn f276) e0) (n1 f212 (bn f340) e0)) (n1 f116 (n1 f180 (bn f308) e0) (bn f244)))) (n1 f28 (n1 f44 (n1 f76 (n1 f140 (bn f268) e0) (n1 f204 (bn f332) e0)) (n1 f108 (n1 f172 (bn f300) e0) (bn f236))) (n1 f60 (n1 f92 (n1 f156 (bn f284) e0) (bn f220)) (n1 f124 (n1 f188 (bn f316) e0) (bn f252)))))) (n1 f6 (n1 f10 (n1 f18 (n1 f34 (n1 f66 (n1 f130 (bn f258) e0) (n1 f194 (bn f322) e0)) (n1 f98 (n1 f162 (bn f290) e0) (bn f226))) (n1 f50 (n1 f82 (n1 f146 (bn f274) e0) (n1 f210 (bn f338) e0)) (n1 f114 (n1 f178 (bn f306) e0) (bn f242)))) (n1 f26 (n1 f42 (n1 f74 (n1 f138 (bn f266) e0) (n1 f202 (bn f330) e0)) (n1 f106 (n1 f170 (bn f298) e0) (bn f234))) (n1 f58 (n1 f90 (n1 f154 (bn f282) e0) (bn f218)) (n1 f122 (n1 f186 (bn f314) e0) (bn f250))))) (n1 f14 (n1 f22 (n1 f38 (n1 f70 (n1 f134 (bn f262) e0) (n1 f198 (bn f326) e0)) (n1 f102 (n1 f166 (bn f294) e0) (bn f230))) (n1 f54 (n1 f86 (n1 f150 (bn f278) e0) (bn f214)) (n1 f118 (n1 f182 (bn f310) e0) (bn f246)))) (n1 f30 (n1 f46 (n1 f78 (n1 f142 (bn f270) e0) (n1 f206 (bn f334) e0)) (n1 f110 (n1 f174 (bn f302) e0) (bn f238))) (n1 f62 (n1 f94 (n1 f158 (bn f286) e0) (bn f222)) (n1 f126 (n1 f190 (bn f318) e0) (bn f254))))))))
noncomputable def prog:Program:=Go.Proofs.Tryz.prog
noncomputable def Ew:fX:=mkE prog KV OU U7 sR oc λn=>bif Nat.beq n 1 then Z 2 else Y
end
def h1:KV.mapKey (λk _=>Vo prog (JJ prog) k)=KV.mapKey λ_ i=>Z i:=by kernel_rfl
def h2:oc.mapKey (λk _=>prog.funcs[k]?)=oc.mapKey λ_ f=>Z f:=by kernel_rfl
def h3:OU.mapKey (λk τ=>(KV.get k).map (GC sg τ))=OU.mapKey λk τ=>(KV.get k).map (GB sg τ):=by kernel_rfl
def h4:oc.mapKey (λ_ f=>f.name== "runtime.NumGoroutine")=oc.mapKey λ_ _=>J:=by kernel_rfl
def h5:U7.mapKey (λk m=>mtB Ew k m)=U7.mapKey λ_ _=>W:=by kernel_rfl
def h6:sR.mapKey (λk l=>l.all (NY prog k))=sR.mapKey λ_ _=>W:=by kernel_rfl
def X3(Es:FuncId->O (j0 sg))(sh:FuncId->Nat->O Xo)(d:∀f c,Es f=Z c->bw prog f c)(a:Bool)(b:FuncId->O Xp):eA (⟨Ew,Es,sh,a,b⟩:fA sg):=
 TH Ru h1 h2 h3 h4 h5 h6 Es sh d a b
section
def Vr(l:L (Nat×Nat×Xo))(f b:Nat):O Xo:=match l with
 |[]=>Y
 |p::l=>bif Nat.beq p.1 f&&Nat.beq p.2.1 b then Z p.2.2 else Vr l f b
def mixed:prog.follows .mixedOrders=W:=by kernel_rfl
def ab1(l:L (FuncId×j0 sg))(hl:OkL prog l)(sh:FuncId->Nat->O Xo)(pn:Bool)(b:FuncId->O Xp)(n d:Nat)(f:FuncId)(ps:L Pk)(rs:L Ck)(a:((oc.get f).bind (·.body)).isSome=W)
  {F:fj sg.A ps->O (RT pn (fH sg.A rs×gB sg.A ps) (den sg.A sg.pt×gB sg.A ps))} (h:(λx=>xH (⟨Ew,KX l,sh,pn,b⟩:fA sg) n d f ps rs x)=F):bw prog f (⟨ps,rs,pn,F⟩:j0 sg):=by
 cases h1:oc.get f with
 |none=>rw[h1]at a;cases a
 |some fn=>
  rw[h1]at a;cases h2:fn.body with
  |none=>rw[show(Z fn:O Func).bind (·.body)=fn.body from rfl,h2]at a;cases a
  |some c=>have:=X4 (E:=(⟨Ew,KX l,sh,pn,b⟩:fA sg)) (X3 (KX l) sh (Nr hl) pn b) mixed (f:=f) (fn:=fn) (c:=c) h1 h2 n d ps rs;rw[<-h];exact this
def PI(l:L (FuncId×j0 sg))(hl:OkL prog l)(sh:FuncId->Nat->O Xo)(pn:Bool)(n d:Nat)(f:FuncId)(ps:L Pk)(rs:L Ck)(a:((oc.get f).bind (·.body)).isSome=W)
  {F:fj sg.A ps->O (RT pn (fH sg.A rs×gB sg.A ps) (den sg.A sg.pt×gB sg.A ps))} (h:(λx=>xH (⟨Ew,KX l,sh,pn,λ_=>Y⟩:fA sg) n d f ps rs x)=F):bw prog f (⟨ps,rs,pn,F⟩:j0 sg):=
 ab1 l hl sh pn _ n d f ps rs a h
noncomputable def X6(f:Nat):Code:=match(oc.get f).bind (·.body)with
 |some c=>c
 |none=>.skip
def cjL(l:L (Nat×Xp))(f:Nat):O Xp:=match l with
 |[]=>Y
 |p::l=>bif Nat.beq p.1 f then Z p.2 else cjL l f
structure OC where
 f:FuncId
 c:j0 sg
 h:bw prog f c
def Gm(l:L OC)(f:FuncId):O (j0 sg):=match l with
 |[]=>Y
 |k::l=>bif Nat.beq k.f f then Z k.c else Gm l f
def Nq:∀{l:L OC}(f:FuncId)(c:j0 sg),Gm l f=Z c->bw prog f c
 |[],_,_,h=>by cases h
 |k::l,f,c,h=>by
  unfold Gm at h;cases a:Nat.beq k.f f with
  |true=>
   rw[a]at h;have e:k.f=f:=mV a;injection h with h
   rw[<-h,<-e];exact k.h
  |false=>rw[a]at h;exact Nq f c h
variable {pn:Bool}{ps:List Pk}{rs:List Ck}
def ab2(l:L OC)(sh:FuncId->Nat->O Xo)(b:FuncId->O Xp)(n d:Nat)(f:FuncId)
  {F:fj sg.A ps->O (RT pn (fH sg.A rs×gB sg.A ps) (den sg.A sg.pt×gB sg.A ps))} (h:(((oc.get f).bind (·.body)).isSome,λx=>xH (⟨Ew,Gm l,sh,pn,b⟩:fA sg) n d f ps rs x)=(W,F):=by kernel_rfl):bw prog f (⟨ps,rs,pn,F⟩:j0 sg):=by
 have a:((oc.get f).bind (·.body)).isSome=W:=oI Prod.fst h;have h:(λx=>xH (⟨Ew,Gm l,sh,pn,b⟩:fA sg) n d f ps rs x)=F:=oI Prod.snd h;cases h1:oc.get f with
 |none=>rw[h1]at a;cases a
 |some fn=>
  rw[h1]at a;cases h2:fn.body with
  |none=>rw[show(Z fn:O Func).bind (·.body)=fn.body from rfl,h2]at a;cases a
  |some c=>have:=X4 (E:=(⟨Ew,Gm l,sh,pn,b⟩:fA sg)) (X3 (Gm l) sh Nq pn b) mixed (f:=f) (fn:=fn) (c:=c) h1 h2 n d ps rs;rw[<-h];exact this
def cx(l:L OC)(sh:L (Nat×Nat×Xo))(n d:Nat)(f:FuncId)
  {F:fj sg.A ps->O (RT pn (fH sg.A rs×gB sg.A ps) (den sg.A sg.pt×gB sg.A ps))} (h:(((oc.get f).bind (·.body)).isSome,λx=>xH (⟨Ew,Gm l,Vr sh,pn,λ_=>Y⟩:fA sg) n d f ps rs x)=(W,F):=by kernel_rfl):bw prog f (⟨ps,rs,pn,F⟩:j0 sg):=ab2 l (Vr sh) (λ_=>Y) n d f h
def enters(f:FuncId)(a:((oc.get f).bind (·.body)).isSome=W):jZ prog f:=
 (PI [] trivial (λ_ _=>Y) J 0 0 f [] [] a rfl).1
end
abbrev aek:Ck:=.dat (.sl (.st 25))
abbrev HP:Ck:=.dat (.sl (.st 7))
abbrev T2:Ck:=.dat (.sl (.st 6))
abbrev uM:Ck:=.dat (.sl (.st 5))
abbrev oL:Ck:=.dat (.sl (.st 4))
abbrev X7:Ck:=.dat (.sl (.st 2))
abbrev b7y:Ck:=.dat (.sl (.st 1))
abbrev b6y:Ck:=.dat (.sl (.st 0))
abbrev AH:Ck:=.dat (.sl (.int .i64))
abbrev Ve:Ck:=.dat (.bool)
abbrev kq:Ck:=.dat (.int .i64)
abbrev cV:Pk:=.one (Ve)
abbrev cR:Pk:=.one (kq)
abbrev ED:Pk:=.box (.cells [.own (.int .i64)])
abbrev HO:Pk:=.box (.map (.int .i64) (.int .i64))
abbrev aem:Pk:=.box (.cells [.dat (.str),.own (.st 17)])
abbrev aen:Pk:=.box (.cells [.dat (.str),.own (.st 19),.own (.st 21)])
abbrev uL:Pk:=.box (.cells [aek,kq,Ve])
abbrev QF:Pk:=.box (.cells [.dat (.sl (.str)),X7,.iJ 1 2 (.int .i64)])
abbrev aay:Pk:=.box (.cells [kq,kq,.dat (.str),.own (.st 0)])
abbrev aeo:Pk:=.box (.cells [.nil (.st 1),.nil (.int .i64),kq,.nil (.st 2)])
abbrev Xc:Pk:=.box (.cells [kq,.dat (.str),kq,kq])
abbrev Xd:Pk:=.box (.cells [kq,kq,.nil (.int .i64),.own (.st 0)])
abbrev aaz:Pk:=.box (.cells [kq,kq,oL,.own (.st 5)])
abbrev Xe:Pk:=.box (.cells [kq,kq,oL,uM])
abbrev b7z:Pk:=.box (.cells [kq,kq,.dat (.str),.dat (.sl (.st 20)),b6y])
abbrev b6z:Pk:=.box (.cells [.own (.st 6),.own (.int .i64),HP,AH,kq])
abbrev b4z:Pk:=.box (.cells [T2,AH,HP,AH,kq])
abbrev Q9:Pk:=.hid (.cells [b7y,AH,kq,X7,T2,AH,HP,AH,kq])
abbrev b2z:Pk:=.box (.cells [b7y,AH,kq,X7,T2,AH,HP,AH,kq])
abbrev Ra:Pk:=.box (.link [] [kq,uM,kq,oL,oL,kq,kq,AH,b6y,oL])
abbrev b0z:Pk:=.box (.cells [T2,AH,HP,AH,kq,kq,kq,kq,kq,kq,kq])
abbrev P1:L Pk:=[.one (.dat (.st 0)),cR]
abbrev K2:L Ck:=[kq]
abbrev P3:L Pk:=[.one (.dat (.st 0))]
abbrev K4:L Ck:=[Ve]
abbrev P5:L Pk:=[.one (.dat (.st 3))]
abbrev P6:L Pk:=[cR,cR,cR]
abbrev P7:L Pk:=[.one (.dat (.str))]
abbrev P8:L Pk:=[.one (.dat (.st 2))]
abbrev P9:L Pk:=[.one (.dat (.sl (.str)))]
abbrev K10:L Ck:=[.dat (.str)]
abbrev P11:L Pk:=[cR]
abbrev K12:L Ck:=[.dat (.cE 29)]
abbrev P13:L Pk:=[.one (.dat (.st 23)),.one (.dat (.st 0))]
abbrev P14:L Pk:=[.one (.dat (.st 23)),.one (.dat (.st 1))]
abbrev P15:L Pk:=[.one (.dat (.st 23))]
abbrev P16:L Pk:=[.one (AH)]
abbrev K17:L Ck:=[.dat (.st 4)]
abbrev K18:L Ck:=[.own (.int .i64)]
abbrev P19:L Pk:=[.one (.dat (.cE 16))]
abbrev P20:L Pk:=[.one (T2)]
abbrev K21:L Ck:=[.own (.st 6)]
abbrev P22:L Pk:=[.one (.dat (.st 4))]
abbrev P23:L Pk:=[.one (.dat (.st 14))]
abbrev K24:L Ck:=[.dat (.st 9)]
abbrev P25:L Pk:=[cV,cR]
abbrev P26:L Pk:=[Ra,Q9,.one (uM)]
abbrev P27:L Pk:=[.one (.dat (.st 1))]
abbrev P28:L Pk:=[Ra,Q9,cR,.one (oL)]
abbrev K29:L Ck:=[.dat (.cE 16)]
abbrev P30:L Pk:=[Ra,Q9,.one (.dat (.st 4))]
abbrev P31:L Pk:=[cV]
abbrev AK:L Pk:=[Ra,Q9]
abbrev P33:L Pk:=[Ra,Q9,.one (.dat (.st 6))]
abbrev P34:L Pk:=[.one (oL),.one (oL)]
abbrev K35:L Ck:=[oL]
abbrev P36:L Pk:=[Ra,Q9,.one (.dat (.st 4)),cR]
abbrev K37:L Ck:=[.dat (.st 6),Ve]
abbrev P38:L Pk:=[Ra,Q9,.one (.dat (.st 4)),.one (.dat (.st 4))]
abbrev K39:L Ck:=[.dat (.st 5),Ve]
abbrev K40:L Ck:=[.dat (.st 6)]
abbrev K41:L Ck:=[kq,kq]
abbrev P42:L Pk:=[Ra,Q9,.one (.dat (.st 0)),.one (.dat (.st 4)),.box (.cells [.own (.st 4)])]
abbrev P43:L Pk:=[Ra,Q9,cR,.one (.dat (.st 6))]
abbrev P44:L Pk:=[.one (uM)]
abbrev K45:L Ck:=[.own (.st 5)]
abbrev P46:L Pk:=[b2z,cR]
abbrev K47:L Ck:=[kq,Ve]
abbrev P48:L Pk:=[.one (HP)]
abbrev K49:L Ck:=[.own (.st 7)]
abbrev P50:L Pk:=[.one (oL)]
abbrev K51:L Ck:=[.own (.st 4)]
abbrev P52:L Pk:=[b2z]
abbrev K53:L Ck:=[.dat (.st 8)]
abbrev P54:L Pk:=[.one (.dat (.st 3)),.one (AH)]
abbrev K55:L Ck:=[.dat (.st 8),kq]
abbrev P56:L Pk:=[.one (.ptr (.st 11)),.one (.dat (.st 4))]
abbrev P57:L Pk:=[.one (.ptr (.st 11)),.one (.dat (.st 5))]
abbrev P58:L Pk:=[.one (.ptr (.st 11)),.one (uM),cR]
abbrev P59:L Pk:=[.one (.ptr (.st 11)),.one (.dat (.st 6))]
abbrev P60:L Pk:=[.one (.ptr (.st 11))]
abbrev P61:L Pk:=[.one (.dat (.st 7))]
abbrev P62:L Pk:=[.one (.ptr (.st 11)),cR]
abbrev K63:L Ck:=[AH]
abbrev K64:L Ck:=[.dat (.st 9),kq,kq]
abbrev P65:L Pk:=[.one (.dat (.st 3)),.one (.dat (.st 8)),.one (AH)]
abbrev K66:L Ck:=[.dat (.st 8),.dat (.sl (.st 9)),kq]
abbrev P67:L Pk:=[.one (.dat (.st 3)),.one (.dat (.st 8))]
abbrev P68:L Pk:=[.one (.dat (.st 3)),.one (.dat (.st 8)),cR]
abbrev K69:L Ck:=[.dat (.st 8),.dat (.st 9),kq,kq]
abbrev P70:L Pk:=[.one (.dat (.str)),cR]
abbrev P71:L Pk:=[.one (.dat (.sl (.str))),.one (.dat (.str))]
abbrev K72:L Ck:=[.dat (.sl (.str))]
abbrev P73:L Pk:=[.one (.dat (.int .u8))]
abbrev P74:L Pk:=[.one (.dat (.str)),cR,cV]
abbrev K75:L Ck:=[.dat (.st 25)]
abbrev K76:L Ck:=[aek,kq]
abbrev P77:L Pk:=[.one (.ptr (.st 26)),.one (.dat (.str))]
abbrev P78:L Pk:=[uL,.one (.dat (.str))]
abbrev P79:L Pk:=[.one (.ptr (.st 26)),cR]
abbrev Kt:L Pk:=[uL,cR]
abbrev jX:L Pk:=[uL]
abbrev K82:L Ck:=[.dat (.st 17)]
abbrev K83:L Ck:=[.dat (.st 19)]
abbrev P84:L Pk:=[cR,.one (.dat (.st 20)),.one (.dat (.st 20))]
abbrev K85:L Ck:=[.dat (.st 20)]
abbrev K86:L Ck:=[.dat (.st 0)]
abbrev P87:L Pk:=[.one (.ptr (.st 26))]
abbrev K88:L Ck:=[.dat (.sl (.st 20))]
abbrev K89:L Ck:=[.dat (.st 21)]
abbrev K90:L Ck:=[.dat (.st 22)]
abbrev P91:L Pk:=[.one (.dat (.st 17)),cR]
abbrev P92:L Pk:=[.one (.dat (.st 17)),cV]
abbrev P93:L Pk:=[.one (.dat (.st 17))]
abbrev P94:L Pk:=[.one (.dat (.st 19))]
abbrev P95:L Pk:=[.one (.dat (.st 20)),cR,cR]
abbrev P96:L Pk:=[.one (.dat (.st 20)),cV,cV,cV]
abbrev Yc:L Pk:=[.one (.dat (.st 20))]
abbrev P98:L Pk:=[.one (.dat (.st 22))]
abbrev K99:L Ck:=[.dat (.st 22),kq]
abbrev K100:L Ck:=[X7]
abbrev afa:L Pk:=[.one (X7)]
abbrev akQ:L Pk:=[.one (X7),.one (.dat (.str))]
abbrev QZ:L Pk:=[.one (.ptr (.st 24)),.one (.dat (.st 0))]
abbrev akP:L Pk:=[.one (.dat (.sl (.str))),.one (.dat (.sl (.str)))]
abbrev akO:L Pk:=[.one (.dat (.st 20)),cR]
abbrev QY:L Pk:=[.one (.ptr (.st 24)),.one (.dat (.st 20)),.one (.dat (.sl (.str)))]
abbrev QX:L Pk:=[QF,.one (.dat (.st 0))]
abbrev QW:L Pk:=[QF,.one (.dat (.st 20)),.one (.dat (.sl (.str)))]
abbrev K109:L Ck:=[.dat (.st 3),kq]
abbrev K110:L Ck:=[.dat (.st 3)]
abbrev QV:L Pk:=[.one (.dat (.st 0)),.one (X7)]
abbrev akN:L Pk:=[.one (.dat (.st 3)),.one (.dat (.st 1))]
abbrev aaW:L Pk:=[.one (AH),cR]
abbrev akM:L Pk:=[.one (AH),.one (AH)]
abbrev akL:L Pk:=[.one (HP),.one (HP)]
abbrev ae9:L Pk:=[.one (.dat (.st 6)),.one (.dat (.st 6))]
abbrev ae8:L Pk:=[.one (.dat (.st 8)),.one (.dat (.st 8))]
abbrev Un:L Pk:=[.one (.dat (.st 8))]
abbrev P119:L Pk:=[.one (oL),.one (.dat (.st 4))]
abbrev P120:L Pk:=[.one (.dat (.st 8)),cR,.one (uM),cR,.one (oL)]
abbrev K121:L Ck:=[.dat (.st 10)]
abbrev P122:L Pk:=[.one (.dat (.st 8)),.one (.dat (.st 4)),cR]
abbrev P123:L Pk:=[.one (.dat (.st 3)),.one (.dat (.st 8)),.one (.dat (.st 4)),.one (.dat (.st 4))]
abbrev P124:L Pk:=[.one (.dat (.st 3)),.one (.dat (.st 8)),cR,.one (uM),.one (.dat (.st 4)),.one (.dat (.st 4))]
abbrev P125:L Pk:=[.one (.dat (.st 8)),cR,.one (uM),cR,.one (.dat (.st 4)),.one (.dat (.st 4))]
abbrev P126:L Pk:=[.one (.dat (.st 8)),.one (.dat (.st 0)),.one (.dat (.st 4))]
abbrev K127:L Ck:=[oL,Ve]
abbrev P128:L Pk:=[.one (.dat (.st 8)),cR,.one (uM),.one (.dat (.st 1)),.one (oL),.one (.dat (.st 4))]
abbrev P129:L Pk:=[.one (.dat (.st 3)),.one (.dat (.st 8)),cR,.one (uM),cR,.one (oL)]
abbrev P130:L Pk:=[.one (.dat (.st 10)),cR,cR,cR,.one (.dat (.st 4))]
abbrev P131:L Pk:=[.one (.dat (.st 3)),.one (.dat (.st 8)),cR,.one (uM),.one (.dat (.st 4))]
abbrev P132:L Pk:=[.one (.dat (.st 8)),cR,.one (uM),.one (.dat (.st 4))]
abbrev P133:L Pk:=[.one (.dat (.st 8)),cR,.one (uM),.one (.dat (.st 1)),.one (oL)]
abbrev P134:L Pk:=[.one (.dat (.st 3)),.one (.dat (.st 8)),cR,.one (uM),.one (.dat (.st 5))]
abbrev K135:L Ck:=[.dat (.st 8),kq,Ve]
abbrev K136:L Ck:=[.dat (.st 8),Ve]
abbrev akK:L Pk:=[.one (.dat (.st 3)),.one (.dat (.st 8)),.one (.dat (.st 4))]
abbrev akJ:L Pk:=[.one (.dat (.st 3)),.one (.dat (.st 8)),.one (oL),cR]
abbrev akI:L Pk:=[.one (.dat (.st 3)),.one (.dat (.st 8)),.one (uM)]
abbrev akH:L Pk:=[.one (.dat (.st 3)),.one (uM),cR]
abbrev ae7:L Pk:=[.one (.dat (.st 3)),.one (.dat (.st 8)),.one (.dat (.st 6))]
abbrev P142:L Pk:=[cR,cR]
abbrev P143:L Pk:=[.one (.dat (.sl (.st 9))),.one (.dat (.sl (.st 9)))]
abbrev akG:L Pk:=[.one (.own (.int .i64)),cR]
abbrev akF:L Pk:=[.one (.own (.int .i64)),.one (oL)]
abbrev akE:L Pk:=[.one (oL),.one (AH)]
abbrev K147:L Ck:=[.dat (.st 8),kq,kq]
abbrev P148:L Pk:=[.one (.dat (.st 3)),.one (.dat (.st 8)),.one (AH),.one (AH)]
abbrev K149:L Ck:=[AH,kq]
abbrev K150:L Ck:=[.dat (.st 8),.dat (.st 9),kq]
abbrev akD:L Pk:=[.one (.dat (.st 5)),.one (.dat (.st 5))]
abbrev ae6:L Pk:=[.one (.dat (.st 3)),.one (.dat (.st 8)),.one (.dat (.st 8))]
abbrev K153:L Ck:=[Ve,kq]
abbrev akC:L Pk:=[.one (.dat (.st 12))]
abbrev akB:L Pk:=[.one (.dat (.st 13))]
abbrev akA:L Pk:=[.one (.dat (.st 15))]
abbrev akz:L Pk:=[.one (.dat (.st 27)),.one (.dat (.st 23)),.one (.dat (.st 1))]
abbrev aky:L Pk:=[cR,.one (.dat (.st 23)),.one (.dat (.st 1))]
abbrev akx:L Pk:=[.one (.dat (.st 28)),.one (.dat (.st 23)),.one (.dat (.st 1))]
abbrev Fn(ps:L Pk)(rs:L Ck)(pn:Bool):Type:=fj sg.A ps->O (RT pn (fH sg.A rs×gB sg.A ps) (den sg.A sg.pt×gB sg.A ps))
abbrev Y1:=U×Int×L aD×Int×L aJ×L aJ×Int×Int×L Int×L aG×L aJ×U
abbrev Y2:=L bp×L Int×Int×L ck×L aZ×L Int×L dW×L Int×Int×U
abbrev Y3:=(dx×U)×Y1×Y2×U
abbrev Y4:=Any×Y1×Y2×U
abbrev Y5:=Nat->Y1×Y2×U->O (Rx Y3 Y4)
abbrev Y6:=LO (Int×Bool×U) (dx×U) U Any
abbrev Y7:=L eM×Int×Bool×U
abbrev Y8:=(aG×U)×Y7×U
abbrev Y9:=Int×Int×L UInt8×L aG×U
abbrev fm:=(Bool×U)×U
abbrev Y11:=Nat->aG×U->O fm
abbrev Y12:=cZ×aG×U
abbrev Ij:=LO (Bool×Bool×U) (Bool×U) U Any
abbrev MM:=LO (Bool×U) (Int×U) U Any
abbrev DF:=O ((Int×U)×U)
abbrev Y16:=Nat->bp×U->DF
abbrev Y17:=av×ak×U
abbrev Y18:=(L Int×U)×U
abbrev MK:=L Int×Int×U
abbrev Y20:=Rx (U×U) (Any×U)
abbrev Y21:=Nat->Y17->O fm
abbrev Y22:=L aD×U
abbrev ya:=L (L UInt8)×L ck×L bp×U
abbrev Y24:=Int×ya×Y9×U
abbrev Y25:=(aG×U)×ya×U
abbrev Y26:=ya×aG×U
abbrev Y27:=(aJ×U)×U
abbrev Y28:=Nat->Y1×Y2×U->O Y3
abbrev Y29:=av×L Int×U
abbrev Ya:=(ak×Int×U)×U
abbrev Y31:=av×ak×Int×U
abbrev Y32:=(cB×U)×U
abbrev Y33:=Nat->L UInt8×U->O fm
abbrev Y34:=aZ×Bool×U
abbrev Y35:=L bL×L bL×U
abbrev Y36:=Nat->Int×U->O fm
abbrev Y37:=Nat->(aG×U->O fm)->aG×U->O fm
abbrev Y38:=O ((ak×U)×U)
abbrev Y39:=(bL×U)×U
abbrev uN:=Int×Int×L aJ×L aD×U
abbrev Ua:=Int×L (Int×Int)×(L Int×U)×U
abbrev Y42:=L (Int×Int)×(L Int×U)×U
abbrev zh:=L aZ×L Int×L dW×L Int×Int×U
abbrev Y44:=(L aJ×U)×U
abbrev KS:=L aJ×Int×U
abbrev Y46:=O (LO KS (L aJ×U) U Any)
abbrev Rb:=O (LO (Int×uN×U) U (uN×U) Any)
abbrev Y48:=O (LO (Int×zh×U) U (zh×U) Any)
abbrev Y49:=(ak×U)×Y2×U
abbrev Y50:=aG×L ck×U
abbrev Y51:=LO (Bool×Int×U) (Bool×U) U Any
abbrev DE:=LO (Bool×U) (Bool×U) U Any
abbrev Y53:=Y1×Y2×aJ×aJ×U
abbrev Y54:=aD×Bool×U
abbrev Y55:=Term×Int×Int×U
abbrev Y56:=Nat->av×ak×aZ×U->O fm
abbrev Y57:=Nat->U->O Y27
abbrev Y58:=L eM×Int×U
abbrev Y59:=Nat->L UInt8×U->O (Y58×U)
abbrev Y60:=Nat->aJ×U->O Y27
abbrev Y61:=aD×aD×U
abbrev Y62:=L UInt8×Int×U
abbrev Y63:=Int×L UInt8×Int×Int×U
abbrev Y64:=O ((eM×U)×U)
abbrev Y65:=LO (Bool×Y63×U) U (Y63×U) Any
abbrev Y66:=Int×Int×Int×U
abbrev Y67:=Nat->Y66->O fm
abbrev Y68:=LO (Int×Bool×Bool×U) (Bool×U) U Any
abbrev Y69:=Int×Int×zh×zh×U
abbrev Y70:=L aZ×L Int×L dW×L Int×Int×Int×Int×Int×Int×Int×Int×U
abbrev Y71:=(ak×Int×Bool×U)×U
abbrev Y72:=Bool×Int×zh×U
abbrev Y73:=(ak×bL×Int×Int×U)×U
abbrev Y74:=av×ak×L Int×U
abbrev Y75:=Nat->Y74->O fm
abbrev Y76:=bY×aZ×U
abbrev Y77:=Nat->Y76->O fm
abbrev Y78:=(ak×L bL×Int×U)×U
abbrev Y79:=L dW×Int×Int×U
abbrev Y80:=(L UInt8×Nat)×U
abbrev Y81:=Nat->av×U->O fm
abbrev QL:=L (L UInt8)×U
abbrev Y83:=Nat->U->O (QL×U)
abbrev Y84:=Nat->Term×U->O fm
abbrev Y85:=ak×Int×L aD×Int×L aJ×U
abbrev Y86:=Nat->Y85->O Y32
abbrev Y87:=Nat->bB×U->O fm
abbrev Y88:=Nat->ak×U->O fm
abbrev Y89:=(Bool×Int×U)×U
abbrev Y90:=av×ak×ak×U
abbrev Y91:=aG×Int×U
abbrev Y92:=Nat->(Y91->DF)->Y91->DF
abbrev X9:=(bR×U)×Y7×U
abbrev Y94:=Y7×U->O X9
abbrev X8:=cI×aG×U
abbrev Y96:=O (Rx ((Int×Int×U)×Y1×Y2×U) Y4)
abbrev Y97:=L aJ×L aJ×U
abbrev Y98:=Y1×Y2×aG×aJ×(L aJ×U)×U
abbrev Y99:=O ((Bool×U)×Y1×Y2×(L aJ×U)×U)
abbrev ae2:=Y34×Y1×Y2×U
abbrev ae1:=Int×Y1×Y2×(L aJ×U)×U
abbrev sE:=(Term×U)×Y7×U
abbrev sC:=Y7×U->O sE
abbrev aaT:=O ((L Term×U)×Y7×U)
abbrev aaS:=Y7×Int×U->aaT
abbrev pT:=Int×Int×L UInt8×L Term×L aG×U
abbrev ae0:=Bool×Y7×pT×U
abbrev ako:=Nat->Y74->O Y78
abbrev akn:=L bL×Int×U
abbrev aaR:=(aJ×U)×Y1×Y2×U
abbrev QN:=LO (Int×U) (Int×U) U Any
abbrev aeZ:=Y7×L UInt8×U
abbrev aaQ:=(Bool×U)×Y7×U
abbrev aeY:=L UInt8×L gL×U
abbrev aaP:=L UInt8×L bR×U
abbrev aeX:=Bool×Y7×aaP×U
abbrev aeW:=Nat->MK->O fm
abbrev aaO:=Term×Bool×Bool×Bool×U
abbrev HS:=LO (Bool×U) (cA×U) U Any
abbrev QM:=L (L UInt8)×Int×U
abbrev Y121:=ak×Int×L aD×bp×L aJ×U
abbrev aeV:=bR×Bool×U
abbrev akm:=Nat->Y31->O Y73
abbrev Uf:=(Term×U)×U
abbrev akl:=LO (Int×Bool×U) U U Any
abbrev Xn:=Nat->sC->Y7×U->O sE
abbrev Y127:=ak×aG×aJ×U
abbrev akk:=L aJ×Bool×U
abbrev Y129:=O (akk×U)
abbrev aeU:=Y1×Y2×aJ×Int×U
abbrev HR:=L bp×L Int×Int×L ck×U
abbrev aeT:=Term×L (L UInt8)×U
abbrev aaN:=Int×HR×ya×U
abbrev Xm:=L ck×Int×U
abbrev Y135:=av×ak×Int×L aD×Int×L aJ×U
abbrev aeS:=L (L UInt8)×L UInt8×U
abbrev aaM:=(Int×Bool×U)×Y2×U
abbrev aaL:=O ((bL×Int×Int×U)×Y2×U)
abbrev akj:=Nat->Bool×U->O Y27
abbrev EH:=Y1×Y2×aZ×U
abbrev aeR:=Y7×Int×U->O X9
abbrev aeQ:=Nat->ak×ak×U->O fm
abbrev aaK:=cI×bp×U
abbrev aeP:=Nat->aaK->O fm
abbrev Kr:=Int×Int×L Int×L aG×U
abbrev aaJ:=Int×ya×Kr×U
abbrev Kq:=ya×Term×L (L UInt8)×U
abbrev ML:=(Int×U)×ya×U
abbrev aaI:=Int×U->O ML
abbrev aaH:=LO (Bool×Kr×U) (Int×U) (Kr×U) Any
abbrev Xl:=O (U×Y7×U)
abbrev aeO:=(cq×U)×Y7×U
abbrev aeN:=Nat->Int×U->O Y27
abbrev aeM:=(Int×Int×U)×U
abbrev Xk:=Y7×(L UInt8×L jd×L cq×U)×U
abbrev Y156:=av×ak×Int×L aD×aJ×aJ×U
abbrev aeL:=Int×Y1×Y2×U
abbrev aeK:=cZ×Term×L (L UInt8)×U
abbrev aeJ:=aZ×aZ×U
abbrev aeI:=Nat->aeJ->O fm
abbrev aeH:=bY×aD×U
abbrev aeG:=Nat->aeH->O fm
abbrev aeF:=O ((av×U)×U)
abbrev aeE:=O ((L UInt8×U)×U)
abbrev aeD:=L UInt8×Int×Bool×U
abbrev Y166:=L bL×Int×zh×zh×U
abbrev Y167:=ak×Int×L aD×Int×aJ×aJ×U
abbrev Ue:=U×Y1×Y2×U
abbrev Ud:=L Bool×Int×U
abbrev akh:=LO (Bool×U) U U Any
abbrev Y171:=av×ak×Int×L aD×aJ×U
abbrev Y172:=Bool×Y70×uN×U
abbrev aeC:=Nat->bY×U->O fm
abbrev Uc:=LO (Bool×Y7×U) (L Term×U) (Y7×U) Any
abbrev Ub:=L Term×Y7×U
abbrev aeB:=Nat->QL->O fm
abbrev Y177:=(ak×bL×Int×U)×U
abbrev Y178:=Nat->Y31->O fm
abbrev Y179:=av×ak×Int×L aD×aD×U
abbrev aeA:=L (L UInt8×Bool)
abbrev aez:=bR×Int×U
abbrev aey:=Int×L (Int×Bool)×U
abbrev aaG:=bY×L aD×Int×U
abbrev Y184:=ak×Int×L aD×aJ×U
abbrev q83(F:Fn P1 K2 J):j0 sg:=⟨P1,K2,J,F⟩
def B83:Y92:=
 λn f83 c=>ah (D.bM c.2.1 1) (Z (((-1),()),())) (af (@iter (Int×Int×U) (Int×U) (U) (Any) (λd=>ah (D.bM d.2.1 (aj
 c.1.4)) (ah (D.eu 0 d.1) (aP (az d.2.1 c.1.4) (af (f83 (aT c.1.4 (ai d.2.1) aR,d.1,())) λe=>Z (LO.next (e.1.1,D.add .i64
 d.2.1 1,())))) (Z (LO.out 0 d))) (Z (LO.out 0 d))) n (D.eD .i64 c.2.1 1,0,())) λd=>LO.el d (λ_ g=>Z ((g.1,()),())) (λ_ g
 =>Z (g,())) λ_ _=>Y)
def D83(n:Nat)(f83:Fn P1 K2 J)(a:bw prog 83 (q83 f83)):bw prog 83 (q83 (B83 n f83)):=cx [⟨83,q83 f83,a⟩] [(83,0,⟨[(1,cR),(5,cR)],[],[],0⟩)] n 10 83
def R83(n k:Nat):(Fn P1 K2 J):=Nat.rec (motive:=λ_=>(Fn P1 K2 J)) (λ_=>Y) (λ_ r=>B83 n r) k
def F83(n:Nat):Fn P1 K2 J:=(R83 n n)
def afq(n:Nat):∀k,bw prog 83 (q83 (R83 n k))
 |0=>bW (enters 83 (by kernel_rfl))
 |k+1=>have a:=afq n k
  D83 n _ a
def k83(n:Nat):OC:=⟨83,q83 (F83 n),(afq n n)⟩
abbrev q84(F:Fn P3 K4 J):j0 sg:=⟨P3,K4,J,F⟩
def B84:Y37:=
 λn f84 c=>af (@iter (Int×U) (Bool×U) (U) (Any) (λd=>ah (D.bM d.1 (aj c.1.4)) (aP (az d.1 c.1.4) (af (f84 (aT c.1.4
 (ai d.1) aR,())) λe=>ah (D.aK e.1.1) (Z (LO.ret () (J,()))) (Z (LO.next (D.add .i64 d.1 1,()))))) (Z (LO.out 0 d))) n
 (0,())) λd=>LO.el d (λ_ _=>Z ((D.eu (aj c.1.3) 30,()),())) (λ_ g=>Z (g,())) λ_ _=>Y
def D84(n:Nat)(f84:Fn P3 K4 J)(a:bw prog 84 (q84 f84)):bw prog 84 (q84 (B84 n f84)):=cx [⟨84,q84 f84,a⟩] [(84,0,⟨[(3,cR)],[],[],0⟩)] n 10 84
def R84(n k:Nat):(Fn P3 K4 J):=Nat.rec (motive:=λ_=>(Fn P3 K4 J)) (λ_=>Y) (λ_ r=>B84 n r) k
def F84(n:Nat):Fn P3 K4 J:=(R84 n n)
def afp(n:Nat):∀k,bw prog 84 (q84 (R84 n k))
 |0=>bW (enters 84 (by kernel_rfl))
 |k+1=>have a:=afp n k
  D84 n _ a
def k84(n:Nat):OC:=⟨84,q84 (F84 n),(afp n n)⟩
def F44:Y11:=
 λn b=>af (F83 n (aG.mk b.1.1 b.1.2 b.1.3 b.1.4,16,())) λc=>ah (D.eu 0 c.1.1) (af (F84 n (aG.mk b.1.1 b.1.2 b.1.3 b.1.4,()))
 λd=>Z d) (Z ((J,()),()))
def k44(n:Nat):OC:=⟨44,⟨P3,K4,J,F44 n⟩,cx [k83 n,k84 n] [] n 10 44⟩
def F12:Y81:=
 λn b=>ah (D.bM 320 (aj b.1.1)) (Z ((J,()),())) (ah (D.bM 320 (aj b.1.2)) (Z ((J,()),())) (ah (D.bM 25 (aj b.1.4))
 (Z ((J,()),())) (af (@iter (Int×U) (Bool×U) (U) (Any) (λc=>ah (D.bM c.1 (aj b.1.4)) (aP (az c.1 b.1.4) (ah (D.bM
 40 (aj (aT b.1.4 (ai c.1) bu).1)) (Z (LO.ret () (J,()))) (Z (LO.next (D.add .i64 c.1 1,()))))) (Z (LO.out 0 c))) n (0,()))
 λc=>LO.el c (λ_ _=>af (@iter (Int×U) (Bool×U) (U) (Any) (λg=>ah (D.bM g.1 (aj b.1.1)) (aP (az g.1 b.1.1) (ah
 (D.bM 10 (aj (aT b.1.1 (ai g.1) aN).3)) (Z (LO.ret () (J,()))) (ah (D.bM 10 (aj (aT b.1.1 (ai g.1) aN).4)) (Z
 (LO.ret () (J,()))) (af (@iter (Int×U) (Bool×U) (U) (Any) (λh=>ah (D.bM h.1 (aj (aT b.1.1 (ai g.1) aN).4)) (aP
 (az h.1 (aT b.1.1 (ai g.1) aN).4) (af (F44 n (aT (aT b.1.1 (ai g.1) aN).4 (ai h.1) aR,())) λi=>ah (D.aK i.1.1)
 (Z (LO.ret () (J,()))) (Z (LO.next (D.add .i64 h.1 1,()))))) (Z (LO.out 0 h))) n (0,())) λh=>LO.el h (λ_ _=>Z (LO.next
 (D.add .i64 g.1 1,()))) (λ_ j=>Z (LO.ret () j)) λ_ _=>Y)))) (Z (LO.out 0 g))) n (0,())) λg=>LO.el g (λ_ _=>Z ((W,
 ()),())) (λ_ i=>Z (i,())) λ_ _=>Y) (λ_ e=>Z (e,())) λ_ _=>Y)))
def k12(n:Nat):OC:=⟨12,⟨P5,K4,J,F12 n⟩,cx [k44 n] [(12,0,⟨[(3,cR)],[],[],0⟩),(12,2,⟨[(4,cR)],[],[],0⟩),(12,4,⟨[(6,cR)],[],[],0⟩)] n 10 12⟩
def F146:Y67:=
 λn b=>ah (D.eu b.2.1 b.1) (Z ((D.eu b.1 b.2.2.1,()),())) (Z ((J,()),()))
def LM(n:Nat):OC:=⟨146,⟨P6,K4,J,F146 n⟩,cx [] [] n 10 146⟩
def HZ(n:Nat)(c:Y80):O (LO Y80 (Bool×U) Y80 Any):=
 Z (LO.ret ((c.1.1,Xj c.1.2 (DY c.1.1 c.1.2)),()) (J,()))
def F257:Y33:=
 λn b=>af (@iter (Y80) (Bool×U) (Y80) (Any) (λc=>ah (Ls c.1.2 c.1.1) (ah (D.bM (rX c.1.1 c.1.2) 97) (HZ n c) (ah (D.bM 122
 (rX c.1.1 c.1.2)) (HZ n c) (Z (LO.next ((c.1.1,Xj c.1.2 (DY c.1.1 c.1.2)),()))))) (Z (LO.out 0 c))) n ((b.1,0),())) λc=>LO.el
 c (λ_ _=>Z ((W,()),())) (λ_ e=>Z (e,())) λ_ _=>Y
def agV(n:Nat):OC:=⟨257,⟨P7,K4,J,F257 n⟩,cx [] [(257,0,⟨[(0,.box (.oG))],[.slot 6],[],0⟩)] n 10 257⟩
def F197:Y33:=
 λn b=>ah (D.aK (fO b.1 [])) (ah (D.eu (aj b.1) 8) (aP (az 0 b.1) (ah (D.eu 65 (kA b.1 0)) (aP (az 0 b.1) (ah (D.eu (kA b.1
 0) 90) (aP (iz 1 (aj b.1) (aj b.1)) (af (F257 n (eZ b.1 1 (aj b.1),())) λc=>Z c)) (Z ((J,()),())))) (Z ((J,()),
 ())))) (Z ((J,()),()))) (Z ((J,()),()))
def ahv(n:Nat):OC:=⟨197,⟨P7,K4,J,F197 n⟩,cx [agV n] [] n 10 197⟩
def F148:Nat->ck×U->O fm:=
 λn b=>af (F197 n (b.1.1,())) λc=>ah c.1.1 (af (F146 n (b.1.2,0,3,())) λd=>Z d) (Z ((J,()),()))
def ahM(n:Nat):OC:=⟨148,⟨P8,K4,J,F148 n⟩,cx [LM n,ahv n] [] n 10 148⟩
def F149:aeB:=
 λn b=>af (@iter (Int×aeA×U) (Bool×U) (aeA×U) (Any) (λc=>ah (D.bM c.1 (aj b.1)) (aP (az c.1 b.1) (Z (LO.next
 (D.add .i64 c.1 1,lz (A:=sg.A) Ty.str (aT b.1 (ai c.1) []) W c.2.1,())))) (Z (LO.out 0 c))) n (0,[],())) λc=>LO.el c (λ_ e=>
 Z ((D.aH (aj e.2.1) (aj b.1),()),())) (λ_ e=>Z (e,())) λ_ _=>Y
def ahL(n:Nat):OC:=⟨149,⟨P9,K4,J,F149 n⟩,cx [] [(149,0,⟨[(9,cR),(0,.box (.map (.str) (.bool)))],[.slot 6],[],0⟩)] n 10 149⟩
def F151:Nat->ck×U->aeE:=
 λn b=>Z ((b.1.1,()),())
def ahK(n:Nat):OC:=⟨151,⟨P8,K10,J,F151 n⟩,cx [] [] n 10 151⟩
def zl(n:Nat):HS->O HS:=
 λc=>LO.jn c (λd=>Z (LO.next d)) (λ_ _=>Y) (λ_ e=>Z (LO.ret () e)) λ_ _=>Y
def tR(n:Nat):HS->O HS:=
 λe=>LO.jn e (λg=>Z (LO.next g)) (λ_ _=>Y) (λ_ h=>Z (LO.ret () h)) λ_ _=>Y
def tQ(n:Nat):HS->O HS:=
 λh=>LO.jn h (λi=>Z (LO.next i)) (λ_ _=>Y) (λ_ j=>Z (LO.ret () j)) λ_ _=>Y
def F200:Nat->Int×U->O ((cA×U)×U):=
 λn b=>af (ah (D.aH b.1 1) (Z (LO.next (W,()))) (af (ah (D.aH b.1 2) (Z (LO.next (W,()))) (af (ah (D.aH b.1 3) (Z
 (LO.next (W,()))) (af (ah (D.aH b.1 4) (Z (LO.next (W,()))) (af (ah (D.aH b.1 21) (Z (LO.next (W,()))) (af (ah (D.aH b.1 25)
 (Z (LO.next (W,()))) (Z (LO.next (D.aH b.1 28,())))) (zl n))) (zl n))) (zl n))) (zl n))) (zl n))) λ(c:HS)=>
 LO.jn c (λd=>ah d.1 (Z ((cA.a1 0,()),())) (af (ah (D.aH b.1 5) (Z (LO.next (W,()))) (af (ah (D.aH b.1 27) (Z (LO.next
 (W,()))) (af (ah (D.aH b.1 16) (Z (LO.next (W,()))) (af (ah (D.aH b.1 17) (Z (LO.next (W,()))) (af (ah (D.aH b.1 19) (Z
 (LO.next (W,()))) (af (ah (D.aH b.1 20) (Z (LO.next (W,()))) (af (ah (D.aH b.1 23) (Z (LO.next (W,()))) (af (ah (D.aH b.1
 24) (Z (LO.next (W,()))) (Z (LO.next (D.aH b.1 26,())))) (tR n))) (tR n))) (tR n))) (tR n))) (tR n))) (tR n)))
 (tR n))) λ(e:HS)=>LO.jn e (λg=>ah g.1 (Z ((cA.a1 1,()),())) (af (ah (D.aH b.1 6) (Z (LO.next (W,()))) (af (ah
 (D.aH b.1 7) (Z (LO.next (W,()))) (af (ah (D.aH b.1 9) (Z (LO.next (W,()))) (af (ah (D.aH b.1 10) (Z (LO.next (W,()))) (af
 (ah (D.aH b.1 11) (Z (LO.next (W,()))) (af (ah (D.aH b.1 12) (Z (LO.next (W,()))) (af (ah (D.aH b.1 13) (Z (LO.next (W,
 ()))) (af (ah (D.aH b.1 18) (Z (LO.next (W,()))) (Z (LO.next (D.aH b.1 22,())))) (tQ n))) (tQ n))) (tQ n))) (tQ n)))
 (tQ n))) (tQ n))) (tQ n))) λ(h:HS)=>LO.jn h (λi=>ah i.1 (Z ((cA.a1 2,()),())) (ah (D.aH b.1 8) (Z
 ((cA.a1 3,()),())) (ah (D.aH b.1 14) (Z ((cA.a2 lG.mk,()),())) (ah (D.aH b.1 15) (Z ((cA.a0 je.mk,()),
 ())) (Z ((cA.none,()),())))))) (λ_ _=>Y) (λ_ j=>Z (j,())) λ_ _=>Y)) (λ_ _=>Y) (λ_ h=>Z (h,())) λ
 _ _=>Y)) (λ_ _=>Y) (λ_ e=>Z (e,())) λ_ _=>Y
def ahu(n:Nat):OC:=⟨200,⟨P11,K12,J,F200 n⟩,cx [] [(200,1000003,⟨[(4,cV)],[],[],0⟩),(200,1000004,⟨[(4,cV)],[],[],0⟩),(200,1000005,⟨[(4,cV)],[],[],0⟩),(200,1000006,⟨[(4,cV)],[],[],0⟩),(200,1000007,⟨[(4,cV)],[],[],0⟩),(200,1000008,⟨[(4,cV)],[],[],0⟩),(200,1000011,⟨[(13,cV)],[],[],0⟩),(200,1000012,⟨[(13,cV)],[],[],0⟩),(200,1000013,⟨[(13,cV)],[],[],0⟩),(200,1000014,⟨[(13,cV)],[],[],0⟩),(200,1000015,⟨[(13,cV)],[],[],0⟩),(200,1000016,⟨[(13,cV)],[],[],0⟩),(200,1000017,⟨[(13,cV)],[],[],0⟩),(200,1000018,⟨[(13,cV)],[],[],0⟩),(200,1000021,⟨[(24,cV)],[],[],0⟩),(200,1000022,⟨[(24,cV)],[],[],0⟩),(200,1000023,⟨[(24,cV)],[],[],0⟩),(200,1000024,⟨[(24,cV)],[],[],0⟩),(200,1000025,⟨[(24,cV)],[],[],0⟩),(200,1000026,⟨[(24,cV)],[],[],0⟩),(200,1000027,⟨[(24,cV)],[],[],0⟩),(200,1000028,⟨[(24,cV)],[],[],0⟩)] n 10 200⟩
abbrev RX(F:Fn P1 K2 J):j0 sg:=⟨P1,K2,J,F⟩
def Ii(c:Y91)(d:Int×Int×U):aG:=
 aT c.1.4 (ai d.2.1) aR
def B202:Y92:=
 λn f202 c=>af (@iter (Int×Int×U) (Int×U) (U) (Any) (λd=>ah (D.bM d.2.1 (aj c.1.4)) (aP (az d.2.1 c.1.4) (ah (D.bM
 c.2.1 d.1) (Z (LO.out 0 d)) (af (f202 (aG.mk (Ii c d).1 (Ii c d).2 (Ii c d).3 (Ii c d).4,D.eD .i64 c.2.1 d.1,())) λe=>
 Z (LO.next (D.add .i64 d.1 e.1.1,D.add .i64 d.2.1 1,()))))) (Z (LO.out 0 d))) n (1,0,())) λd=>LO.el d (λ_ g=>Z ((g.1,()),()))
 (λ_ g=>Z (g,())) λ_ _=>Y
def D202(n:Nat)(f202:Fn P1 K2 J)(a:bw prog 202 (RX f202)):bw prog 202 (RX (B202 n f202)):=cx [⟨202,RX f202,a⟩] [(202,0,⟨[(5,cR),(11,cR)],[],[],0⟩)] n 10 202
def R202(n k:Nat):(Fn P1 K2 J):=Nat.rec (motive:=λ_=>(Fn P1 K2 J)) (λ_=>Y) (λ_ r=>B202 n r) k
def F202(n:Nat):Fn P1 K2 J:=(R202 n n)
def Yx(n:Nat):∀k,bw prog 202 (RX (R202 n k))
 |0=>bW (enters 202 (by kernel_rfl))
 |k+1=>have a:=Yx n k
  D202 n _ a
def aht(n:Nat):OC:=⟨202,RX (F202 n),(Yx n n)⟩
def F259:Y36:=
 λn b=>af (F146 n (b.1,(-1000000000),1000000000,())) λc=>Z c
def aci(n:Nat):OC:=⟨259,⟨P11,K4,J,F259 n⟩,cx [LM n] [] n 10 259⟩
abbrev RW(F:Fn P13 K4 J):j0 sg:=⟨P13,K4,J,F⟩
def oE(n:Nat)(f203:X8->O fm):O fm:=
 Z ((J,()),())
def Ih(c:X8)(d:Int×U):aG:=
 aT c.2.1.4 (ai d.1) aR
def Nc(n:Nat)(f203:X8->O fm)(c:X8):fm->O fm:=
 λj=>ah j.1.1 (Z ((D.aH (aj c.2.1.4) 0,()),())) (oE n f203)
def zp(n:Nat)(f203:X8->O fm)(c:X8):O fm:=
 af (ah (D.aH c.2.1.1 1) (Z (LO.next (W,()))) (af (ah (D.aH c.2.1.1 2) (Z (LO.next (W,()))) (Z (LO.next (D.aH c.2.1.1 5,()))))
 λ(h:DE)=>LO.jn h (λi=>Z (LO.next i)) (λ_ _=>Y) (λ_ j=>Z (LO.ret () j)) λ_ _=>Y)) λ(h:DE)=>LO.jn h (λ
 i=>ah i.1 (ah (D.aH c.2.1.2 0) (Z ((D.aH (aj c.2.1.4) 0,()),())) (oE n f203)) (ah (D.aH c.2.1.1 3) (af (F259 n (c.2.1.2,()))
 (Nc n f203 c)) (ah (D.aH c.2.1.1 4) (af (F146 n (c.2.1.2,0,1,())) (Nc n f203 c)) (ah (D.aH c.2.1.1 6) (af (F146 n (c.2.1.2,0,D.eD .i64
 (aj c.1.1.4) 1,())) λj=>ah j.1.1 (aP (az c.2.1.2 c.1.1.4) (Z ((D.aH (aj c.2.1.4) (aT c.1.1.4 (ai c.2.1.2) bu).2,()),())))
 (oE n f203)) (oE n f203))))) (λ_ _=>Y) (λ_ j=>Z (j,())) λ_ _=>Y
def B203:Nat->(X8->O fm)->X8->O fm:=
 λn f203 c=>ah (D.aK (fO c.2.1.3 [])) (oE n f203) (af (@iter (Int×U) (Int×U) (U) (Any) (λd=>ah (D.bM d.1 (aj
 c.2.1.4)) (aP (az d.1 c.2.1.4) (af (f203 (c.1,aG.mk (Ih c d).1 (Ih c d).2 (Ih c d).3 (Ih c d).4,())) λe=>ah (D.aK
 e.1.1) (Z (LO.ret () d)) (Z (LO.next (D.add .i64 d.1 1,()))))) (Z (LO.out 0 d))) n (0,())) λd=>LO.el d (λ_ _=>ah (D.aK (D.aK
 J)) (oE n f203) (zp n f203 c)) (λ_ g=>ah (D.aK (D.aK (D.eu 0 g.1))) (oE n f203) (zp n f203 c)) λ_ _=>Y)
def D203(n:Nat)(f203:Fn P13 K4 J)(a:bw prog 203 (RW f203)):bw prog 203 (RW (B203 n f203)):=cx [LM n,⟨203,RW f203,a⟩,aci n] [(203,1000005,⟨[(18,cV)],[],[],0⟩),(203,1000006,⟨[(18,cV)],[],[],0⟩),(293,0,⟨[(8,cR)],[],[],0⟩)] n 10 203
def R203(n k:Nat):(Fn P13 K4 J):=Nat.rec (motive:=λ_=>(Fn P13 K4 J)) (λ_=>Y) (λ_ r=>B203 n r) k
def F203(n:Nat):Fn P13 K4 J:=(R203 n n)
def Yw(n:Nat):∀k,bw prog 203 (RW (R203 n k))
 |0=>bW (enters 203 (by kernel_rfl))
 |k+1=>have a:=Yw n k
  D203 n _ a
def ahs(n:Nat):OC:=⟨203,RW (F203 n),(Yw n n)⟩
def F204:aeP:=
 λn b=>ah (D.aH b.2.1.1 1) (af (F259 n (b.2.1.2,())) λc=>Z c) (ah (D.aH b.2.1.1 2) (af (F146 n (b.2.1.2,0,1,())) λc=>Z c)
 (ah (D.aH b.2.1.1 24) (af (F146 n (b.2.1.2,0,3,())) λc=>Z c) (ah (D.aH b.2.1.1 4) (af (F146 n (b.2.1.2,D.neg .i64 (aj b.1.1.2),29,
 ())) λc=>Z c) (ah (D.aH b.2.1.1 14) (Z ((W,()),())) (Z ((D.aH b.2.1.2 0,()),()))))))
def ahr(n:Nat):OC:=⟨204,⟨P14,K4,J,F204 n⟩,cx [LM n,aci n] [] n 10 204⟩
def F338:Nat->je×cI×bp×U->O fm:=
 λn b=>af (F146 n (aj b.2.2.1.4,1,5,())) λc=>ah c.1.1 (Z ((D.aH (aj b.2.2.1.3) (D.add .i64 1 (aj b.2.2.1.4)),()),())) (Z
 ((J,()),()))
def agz(n:Nat):OC:=⟨338,⟨akz,K4,J,F338 n⟩,cx [LM n] [] n 10 338⟩
def F339:Nat->Int×cI×bp×U->O fm:=
 λn b=>Z ((D.aH (aj b.2.2.1.3) b.1,()),())
def agy(n:Nat):OC:=⟨339,⟨aky,K4,J,F339 n⟩,cx [] [] n 10 339⟩
def F340:Nat->lG×cI×bp×U->O fm:=
 λn b=>af (F146 n (b.2.2.1.2,0,D.eD .i64 (aj b.2.1.1.4) 1,())) λc=>ah c.1.1 (aP (az b.2.2.1.2 b.2.1.1.4) (Z ((D.aH (aj
 b.2.2.1.3) (aT b.2.1.1.4 (ai b.2.2.1.2) bu).2,()),()))) (Z ((J,()),()))
def agx(n:Nat):OC:=⟨340,⟨akx,K4,J,F340 n⟩,cx [LM n] [] n 10 340⟩
def rT:L (Nat×Ty):=
 [(274,Ty.st 27),(297,Ty.int .i64),(298,Ty.st 28)]
def rS(b:aaK)(i:Int×U):aG:=
 aT b.2.1.4 (ai i.1) aR
def tS(n:Nat)(b:aaK):fm->O fm:=
 λg=>ah g.1.1 (af (F204 n b) λh=>ah h.1.1 (af (@iter (Int×U) (Int×U) (U) (Any) (λi=>ah (D.bM i.1 (aj b.2.1.4)) (aP
 (az i.1 b.2.1.4) (af (F202 n (aG.mk (rS b i).1 (rS b i).2 (rS b i).3 (rS b i).4,12,())) λj=>ah (D.eu j.1.1 12) (af
 (F203 n (b.1,aG.mk (rS b i).1 (rS b i).2 (rS b i).3 (rS b i).4,())) λk=>ah (D.aK k.1.1) (Z (LO.ret () i)) (Z
 (LO.next (D.add .i64 i.1 1,())))) (Z (LO.ret () i)))) (Z (LO.out 0 i))) n (0,())) λi=>LO.el i (λ_ _=>Z ((D.aK J,()),()))
 (λ_ k=>Z ((D.aK (D.eu 0 k.1),()),())) λ_ _=>Y) (Z ((J,()),()))) (Z ((J,()),()))
def F153:aeP:=
 λn b=>af (F200 n (b.2.1.1,())) λc=>ah (isNil rT (eB 29 c.1.1)) (Z ((J,()),())) (af (ah (g9 rT 0 (eB 29 c.1.1))
 (Z (LO.next (J,W,()))) (ah (D.bM 0 (aj b.2.1.4)) (Z (LO.ret () (J,()))) (Z (LO.next (J,J,()))))) λ(d:Ij)=>
 LO.jn d (λ_=>ah (g9 rT 0 (eB 29 c.1.1)) (af (F338 n (iX (Sg.zero sg) rT 0 (eB 29 c.1.1),b)) (tS n b)) (ah (g9
 rT 1 (eB 29 c.1.1)) (af (F339 n (iX (Sg.zero sg) rT 1 (eB 29 c.1.1),b)) (tS n b)) (ah (g9 rT 2 (eB 29 c.1.1)) (af
 (F340 n (iX (Sg.zero sg) rT 2 (eB 29 c.1.1),b)) (tS n b)) Y))) (λ_ _=>Y) (λ_ g=>Z (g,())) λ_ _=>Y)
def ahJ(n:Nat):OC:=⟨153,⟨P14,K4,J,F153 n⟩,cx [ahu n,aht n,ahs n,ahr n,agz n,agy n,agx n] [(153,1000003,⟨[(4,cV),(17,cV)],[],[],0⟩),(293,0,⟨[(8,cR)],[],[],0⟩)] n 10 153⟩
def F155:Y36:=
 λn b=>Z ((D.aH b.1 1,()),())
def ahI(n:Nat):OC:=⟨155,⟨P11,K4,J,F155 n⟩,cx [] [] n 10 155⟩
def kX(n:Nat):O fm:=
 Z ((J,()),())
def Ye(h:QM):Int×U:=
 (D.add .i64 h.2.1 1,())
def Kz(b:cI×U)(p:MK):Nat:=
 ai (aT b.1.1.2 (ai p.2.1) 0)
def OI(p:MK):Int×U:=
 (D.add .i64 p.2.1 1,())
def Ah(b:cI×U)(s:MK)(t:MK):Int:=
 aT (aT b.1.1.1 (ai s.2.1) aN).3 (ai t.2.1) 0
def Ky(n:Nat)(b:cI×U):O fm:=
 aP (AI (VW (aj b.1.1.1)) (kT (aj b.1.1.1) (aj b.1.1.1))) (af (@iter (MK) (Bool×U) (U) (Any) (λp=>ah (D.bM p.2.1 (aj
 b.1.1.2)) (aP (az p.2.1 b.1.1.2) (af (F146 n (aT b.1.1.2 (ai p.2.1) 0,0,D.eD .i64 (aj b.1.1.1) 1,())) λq=>ah (D.aK q.1.1) (Z
 (LO.ret () (J,()))) (aP (az (aT b.1.1.2 (ai p.2.1) 0) p.1) (aP (ef (Kz b p) p.1) (aP (az (aT b.1.1.2 (ai p.2.1) 0) p.1) (aP
 (ef (Kz b p) p.1) (Z (LO.next (jP p.1 (Kz b p) (D.add .i64 (aT p.1 (Kz b p) 0) 1),OI p))))))))) (Z (LO.out 0 p))) n (GF (ai
 (aj b.1.1.1)) 0,0,())) λp=>LO.el p (λ_ r=>af (@iter (MK) (Bool×U) (U) (Any) (λs=>ah (D.bM s.2.1 (aj b.1.1.1)) (aP
 (az s.2.1 b.1.1.1) (af (@iter (MK) (Bool×U) (U) (Any) (λt=>ah (D.bM t.2.1 (aj (aT b.1.1.1 (ai s.2.1) aN).3)) (aP (az
 t.2.1 (aT b.1.1.1 (ai s.2.1) aN).3) (af (F146 n (Ah b s t,D.add .i64 s.2.1 1,D.eD .i64 (aj b.1.1.1) 1,())) λu=>ah (D.aK
 u.1.1) (Z (LO.ret () (J,()))) (aP (az (Ah b s t) t.1) (aP (ef (ai (Ah b s t)) t.1) (aP (az (Ah b s t) t.1) (aP (ef (ai
 (Ah b s t)) t.1) (Z (LO.next (jP t.1 (ai (Ah b s t)) (D.add .i64 (aT t.1 (ai (Ah b s t)) 0) 1),OI t))))))))) (Z (LO.out 0
 t))) n (s.1,0,())) λt=>LO.el t (λ_ v=>Z (LO.next (v.1,OI s))) (λ_ v=>Z (LO.ret () v)) λ_ _=>Y)) (Z (LO.out 0 s)))
 n (r.1,0,())) λs=>LO.el s (λ_ u=>af (@iter (Int×U) (Int×U) (U) (Any) (λv=>ah (D.bM v.1 (aj u.1)) (aP (az v.1 u.1)
 (aP (ef (ai v.1) u.1) (af (F155 n (aT u.1 (ai v.1) 0,())) λw=>ah (D.aK w.1.1) (Z (LO.ret () v)) (Z (LO.next (D.add .i64 v.1 1,
 ())))))) (Z (LO.out 0 v))) n (0,())) λv=>LO.el v (λ_ _=>Z ((D.aK J,()),())) (λ_ x=>Z ((D.aK (D.eu 0 x.1),()),()))
 λ_ _=>Y) (λ_ u=>Z (u,())) λ_ _=>Y) (λ_ r=>Z (r,())) λ_ _=>Y)
def OH(n:Nat)(b:cI×U):fm->O fm:=
 λk=>ah (D.aK k.1.1) (kX n) (af (@iter (Int×U) (Int×U) (U) (Any) (λl=>ah (D.bM l.1 (aj b.1.1.1)) (aP (az l.1
 b.1.1.1) (af (F153 n (b.1,aT b.1.1.1 (ai l.1) aN,())) λm=>ah (D.aK m.1.1) (Z (LO.ret () l)) (Z (LO.next (D.add .i64 l.1 1,
 ()))))) (Z (LO.out 0 l))) n (0,())) λl=>LO.el l (λ_ _=>ah (D.aK (D.aK J)) (kX n) (Ky n b)) (λ_ o=>ah (D.aK (D.aK
 (D.eu 0 o.1))) (kX n) (Ky n b)) λ_ _=>Y)
def OG(n:Nat)(b:cI×U):O fm:=
 af (@iter (QM) (QL) (U) (Any) (λh=>ah (D.bM h.2.1 (aj b.1.1.4)) (aP (az h.2.1 b.1.1.4) (af (F151 n (aT b.1.1.4 (ai h.2.1)
 bu,())) λi=>aP (dR h.1 [i.1.1]) (Z (LO.next (dj h.1 [i.1.1],Ye h))))) (Z (LO.out 0 h))) n ([],0,())) λh=>LO.el h (λ
 _ j=>af (F149 n (j.1,())) (OH n b)) (λ_ j=>af (F149 n j) (OH n b)) λ_ _=>Y
def F87:Nat->cI×U->O fm:=
 λn b=>ah (D.bM 300 (aj b.1.1.1)) (kX n) (ah (D.bM (aj b.1.1.2) 1) (kX n) (ah (D.bM (aj b.1.1.1) (aj b.1.1.2)) (kX n) (ah
 (D.bM 20 (aj b.1.1.4)) (kX n) (af (F146 n (b.1.1.3,0,D.eD .i64 (aj b.1.1.2) 1,())) λc=>ah (D.aK c.1.1) (kX n) (af (@iter (Int
 ×U) (Int×U) (U) (Any) (λd=>ah (D.bM d.1 (aj b.1.1.4)) (aP (az d.1 b.1.1.4) (af (F148 n (aT b.1.1.4 (ai d.1) bu,()))
 λe=>ah (D.aK e.1.1) (Z (LO.ret () d)) (Z (LO.next (D.add .i64 d.1 1,()))))) (Z (LO.out 0 d))) n (0,())) λd=>LO.el d (λ_ _=>
 ah (D.aK (D.aK J)) (kX n) (OG n b)) (λ_ g=>ah (D.aK (D.aK (D.eu 0 g.1))) (kX n) (OG n b)) λ_ _=>Y)))))
def k87(n:Nat):OC:=⟨87,⟨P15,K4,J,F87 n⟩,cx [LM n,ahM n,ahL n,ahK n,ahJ n,ahI n] [(87,0,⟨[(4,.one (.own (.int .i64))),(79,cR)],[],[],0⟩),(87,2,⟨[(4,.one (.own (.int .i64))),(99,cR)],[],[],0⟩),(87,4,⟨[(4,.one (.own (.int .i64))),(107,cR)],[],[],0⟩),(150,0,⟨[(5,.one (.own (.str))),(10,cR)],[],[],0⟩),(207,0,⟨[(8,cR)],[],[],0⟩),(256,0,⟨[(8,cR)],[],[],0⟩),(258,0,⟨[(8,cR)],[],[],0⟩)] n 10 87⟩
def F46:Nat->av×U->DF:=
 λn b=>af (F87 n (cI.mk b.1,())) λc=>ah (D.aK c.1.1) (Z ((2,()),())) (Z ((0,()),()))
def k46(n:Nat):OC:=⟨46,⟨P5,K2,J,F46 n⟩,cx [k87 n] [] n 10 46⟩
def F69:Y67:=
 λn b=>ah (D.eu b.2.1 b.1) (Z ((D.eu b.1 b.2.2.1,()),())) (Z ((J,()),()))
def XL(n:Nat):OC:=⟨69,⟨P6,K4,J,F69 n⟩,cx [] [] n 10 69⟩
def F47:Nat->L Int×U->O fm:=
 λn b=>ah (D.eu (aj b.1) 50) (af (@iter (Int×U) (Int×U) (U) (Any) (λc=>ah (D.bM c.1 (aj b.1)) (aP (az c.1 b.1) (af
 (F69 n (aT b.1 (ai c.1) 0,(-1000000000),1000000000,())) λd=>ah (D.aK d.1.1) (Z (LO.ret () c)) (Z (LO.next (D.add .i64 c.1 1,
 ()))))) (Z (LO.out 0 c))) n (0,())) λc=>LO.el c (λ_ _=>Z ((D.aK J,()),())) (λ_ e=>Z ((D.aK (D.eu 0 e.1),()),()))
 λ_ _=>Y) (Z ((J,()),()))
def k47(n:Nat):OC:=⟨47,⟨P16,K4,J,F47 n⟩,cx [XL n] [(207,0,⟨[(8,cR)],[],[],0⟩)] n 10 47⟩
def F48:Y57:=
 λn _=>Z ((aJ.mk 3 0,()),())
def Wc(n:Nat):OC:=⟨48,⟨[],K17,J,F48 n⟩,cx [] [] n 10 48⟩
def F49:Nat->L Int×U->O Y18:=λn b=>Z (b,())
def C49(n:Nat):bw prog 49 (⟨P16,K18,J,F49 n⟩:j0 sg):=PI [] trivial (Vr []) J n 10 49 P16 K18 (by kernel_rfl) (Eq.trans (by kernel_rfl:_=λb:L Int×U=>EG (U8 b.1) (Z (([],()),())) (Z (b,()))) (funext qC))
def k49(n:Nat):OC:=⟨49,⟨P16,K18,J,F49 n⟩,C49 n⟩
def Yf:L (Nat×Ty):=
 [(170,Ty.st 12),(173,Ty.st 13),(175,Ty.st 14),(181,Ty.st 15)]
def F71:Nat->dx×U->DF:=
 λn b=>ah (g9 Yf 3 (eB 16 b.1)) (Z ((0,()),())) (ah (g9 Yf 0 (eB 16 b.1)) (Z ((2,()),())) (Z ((1,()),())))
def k71(n:Nat):OC:=⟨71,⟨P19,K2,J,F71 n⟩,cx [] [] n 10 71⟩
def F170:Nat->L aZ×U->O ((L aZ×U)×U):=λn b=>Z (b,())
def C170(n:Nat):bw prog 170 (⟨P20,K21,J,F170 n⟩:j0 sg):=PI [] trivial (Vr []) J n 10 170 P20 K21 (by kernel_rfl) (Eq.trans (by kernel_rfl:_=λb:L aZ×U=>EG (U8 b.1) (Z (([],()),())) (Z (b,()))) (funext qC))
def acs(n:Nat):OC:=⟨170,⟨P20,K21,J,F170 n⟩,C170 n⟩
def F112:Y60:=
 λn b=>ah (D.aH b.1.1 4) (Z ((aJ.mk 5 0,()),())) (ah (D.aH b.1.1 5) (Z ((aJ.mk 5 0,()),())) (Z (b,())))
def acz(n:Nat):OC:=⟨112,⟨P22,K17,J,F112 n⟩,cx [] [] n 10 112⟩
def F114:Nat->fW×U->O Y39:=
 λn b=>Z ((bL.mk 0 0 b.1.1 aB,()),())
def acy(n:Nat):OC:=⟨114,⟨P23,K24,J,F114 n⟩,cx [] [] n 10 114⟩
def F219:Nat->Bool×Int×U->O Y20:=
 λn b=>ah (D.aK b.1) (Z (Rx.dP (Any.a0 (fW.mk b.2.1),()))) (Z (Rx.ok ((),())))
def Az(n:Nat):OC:=⟨219,⟨P25,[],W,F219 n⟩,cx [] [] n 10 219⟩
def F171:Nat->Y1×Y2×L aD×U->O (Rx Ue Y4):=
 λn b=>af (F219 n (D.eu (D.add .i64 (aj b.1.2.2.1) (aj b.2.2.1)) 40,4,())) λc=>Rx.el c (λ_=>aP (AI (iz 0 (aj b.1.2.2.1)
 (aj b.1.2.2.1)) (kT (aj b.1.2.2.1) (aj b.1.2.2.1))) (aP (dR (eZ b.1.2.2.1 0 (aj b.1.2.2.1)) b.2.2.1) (Z (Rx.ok ((),((),b.1.2.1,dj
 (eZ b.1.2.2.1 0 (aj b.1.2.2.1)) b.2.2.1,b.1.2.2.2),b.2.1,()))))) λd=>Z (Rx.dP (d.1,b.1,b.2.1,()))
def Zo(n:Nat):OC:=⟨171,⟨P26,[],W,F171 n⟩,cx [Az n] [] n 10 171⟩
def zm(n:Nat):MM->O MM:=
 λc=>LO.jn c (λd=>Z (LO.next d)) (λ_ _=>Y) (λ_ e=>Z (LO.ret () e)) λ_ _=>Y
def pW(n:Nat):DF:=
 Z ((1,()),())
def F173:Y16:=
 λn b=>af (ah (D.aH b.1.1 6) (Z (LO.next (W,()))) (af (ah (D.aH b.1.1 9) (Z (LO.next (W,()))) (af (ah (D.aH b.1.1 10) (Z
 (LO.next (W,()))) (af (ah (D.aH b.1.1 11) (Z (LO.next (W,()))) (af (ah (D.aH b.1.1 12) (Z (LO.next (W,()))) (af (ah (D.aH
 b.1.1 13) (Z (LO.next (W,()))) (af (ah (D.aH b.1.1 18) (Z (LO.next (W,()))) (Z (LO.next (D.aH b.1.1 22,())))) (zm n)))
 (zm n))) (zm n))) (zm n))) (zm n))) (zm n))) λ(c:MM)=>LO.jn c (λd=>ah d.1 (Z ((2,()),())) (ah (D.aH b.1.1 14)
 (Z ((aj b.1.3,()),())) (ah (D.aH b.1.1 7) (pW n) (ah (D.aH b.1.1 8) (pW n) (ah (D.aH b.1.1 15) (pW n) (ah (D.aH b.1.1 16)
 (pW n) (ah (D.aH b.1.1 17) (pW n) (ah (D.aH b.1.1 19) (pW n) (ah (D.aH b.1.1 20) (pW n) (ah (D.aH b.1.1 23) (pW n) (ah
 (D.aH b.1.1 24) (pW n) (ah (D.aH b.1.1 26) (pW n) (Z ((0,()),())))))))))))))) (λ_ _=>Y) (λ_ e=>Z (e,())) λ_ _=>
 Y
def Zn(n:Nat):OC:=⟨173,⟨P27,K2,J,F173 n⟩,cx [] [(173,1000003,⟨[(5,cV)],[],[],0⟩),(173,1000004,⟨[(5,cV)],[],[],0⟩),(173,1000005,⟨[(5,cV)],[],[],0⟩),(173,1000006,⟨[(5,cV)],[],[],0⟩),(173,1000007,⟨[(5,cV)],[],[],0⟩),(173,1000008,⟨[(5,cV)],[],[],0⟩),(173,1000009,⟨[(5,cV)],[],[],0⟩)] n 10 173⟩
def F174:Nat->Y1×Y2×Int×L aJ×U->O (Rx Y3 Y4):=
 λn b=>aP (az b.2.2.1 b.1.2.2.2.2.2.2.2.2.1) (af (F171 n (b.1,b.2.1,[aD.mk (aT b.1.2.2.2.2.2.2.2.2.1 (ai b.2.2.1) 0) b.2.2.2.1 []],
 ())) λc=>Rx.el c (λd=>Z (Rx.ok ((dx.a3 iC.mk,()),d.2))) λd=>Z (Rx.dP d))
def SX(n:Nat):OC:=⟨174,⟨P28,K29,W,F174 n⟩,cx [Zo n] [] n 10 174⟩
def F271:Nat->Y1×Y2×aJ×U->O Y3:=
 λn b=>Z ((dx.a3 iC.mk,()),((),b.1.2.1,b.1.2.2.1,b.1.2.2.2.1,b.1.2.2.2.2.1,b.1.2.2.2.2.2.1,b.1.2.2.2.2.2.2.1,
 b.1.2.2.2.2.2.2.2.1,b.1.2.2.2.2.2.2.2.2.1,b.1.2.2.2.2.2.2.2.2.2.1,[b.2.2.1],()),b.2.1,())
def Hj(n:Nat):OC:=⟨271,⟨P30,K29,J,F271 n⟩,cx [] [] n 10 271⟩
def F272:aeN:=
 λn b=>Z ((aJ.mk 1 b.1,()),())
def Wg(n:Nat):OC:=⟨272,⟨P11,K17,J,F272 n⟩,cx [] [] n 10 272⟩
def F273:akj:=
 λn b=>ah b.1 (Z ((aJ.mk 2 1,()),())) (Z ((aJ.mk 2 0,()),()))
def Wf(n:Nat):OC:=⟨273,⟨P31,K17,J,F273 n⟩,cx [] [] n 10 273⟩
def MY(n:Nat)(b:Y1×Y2×U):Y27->O Y3:=
 λc=>af (F271 n (b.1,b.2.1,c.1)) λd=>Z d
def F221:Y28:=
 λn b=>ah (D.aH b.1.2.2.2.2.2.2.1 1) (af (F272 n (b.1.2.2.2.2.2.2.2.1,())) (MY n b)) (ah (D.aH b.1.2.2.2.2.2.2.1 2) (af (F273 n (D.aH
 b.1.2.2.2.2.2.2.2.1 1,())) (MY n b)) (af (F48 n ()) (MY n b)))
def ahp(n:Nat):OC:=⟨221,⟨AK,K29,J,F221 n⟩,cx [Wc n,Hj n,Wg n,Wf n] [] n 10 221⟩
def F222:Y5:=
 λn b=>ah (D.bM b.1.2.2.2.2.2.2.2.1 0) (af (F271 n (b.1,b.2.1,aJ.mk 4 (D.eD .i64 (-1) b.1.2.2.2.2.2.2.2.1),())) λc=>Z (Rx.ok
 c)) (af (F219 n (D.bM b.1.2.2.2.2.2.2.2.1 (aj b.1.2.2.2.2.1),2,())) λc=>Rx.el c (λ_=>aP (az b.1.2.2.2.2.2.2.2.1 b.1.2.2.2.2.1) (af
 (F271 n (b.1,b.2.1,aT b.1.2.2.2.2.1 (ai b.1.2.2.2.2.2.2.2.1) aB,())) λe=>Z (Rx.ok e))) λd=>Z (Rx.dP (d.1,b)))
def aho(n:Nat):OC:=⟨222,⟨AK,K29,W,F222 n⟩,cx [Az n,Hj n] [] n 10 222⟩
def tP(b:EH):Int:=
 aj b.2.1.2.2.2.2.1
def F274:Nat->EH->O (Rx aaR Y4):=
 λn b=>af (F219 n (D.bM (tP b) 120,4,())) λc=>Rx.el c (λ_=>aP (AI (iz 0 (tP b) (tP b)) (kT (tP b) (tP b)))
 (aP (dR (eZ b.2.1.2.2.2.2.1 0 (tP b)) [b.2.2.1]) (Z (Rx.ok ((aJ.mk 5 (D.eD .i64 (aj (dj (eZ b.2.1.2.2.2.2.1 0 (tP b))
 [b.2.2.1])) 1),()),b.1,(b.2.1.1,b.2.1.2.1,b.2.1.2.2.1,b.2.1.2.2.2.1,dj (eZ b.2.1.2.2.2.2.1 0 (tP b)) [b.2.2.1],b.2.1.2.2.2.2.2),
 ()))))) λd=>Z (Rx.dP (d.1,b.1,b.2.1,()))
def PT(n:Nat):OC:=⟨274,⟨P33,K17,W,F274 n⟩,cx [Az n] [] n 10 274⟩
def F223:Y5:=
 λn b=>af (F274 n (b.1,b.2.1,aZ.mk 2 b.1.2.2.2.1 b.1.2.2.2.2.1 [],())) λc=>Rx.el c (λd=>af (F271 n (d.2.1,d.2.2.1,d.1)) λe
 =>Z (Rx.ok e)) λd=>Z (Rx.dP d)
def ahn(n:Nat):OC:=⟨223,⟨AK,K29,W,F223 n⟩,cx [Hj n,PT n] [] n 10 223⟩
def F277:Nat->Y97->O (Rx Y44 (Any×U)):=
 λn b=>af (F219 n (D.eu (D.add .i64 (aj b.1) (aj b.2.1)) 30,4,())) λc=>Rx.el c (λ_=>aP (AI (iz 0 (aj b.1) (aj b.1)) (kT
 (aj b.1) (aj b.1))) (aP (dR (eZ b.1 0 (aj b.1)) b.2.1) (Z (Rx.ok ((dj (eZ b.1 0 (aj b.1)) b.2.1,()),()))))) λd=>Z (Rx.dP
 d)
def We(n:Nat):OC:=⟨277,⟨P34,K35,W,F277 n⟩,cx [Az n] [] n 10 277⟩
def F298:Nat->aeU->O ae2:=
 λn b=>ah (D.aK (D.aH b.2.2.1.1 5)) (Z ((aS,J,()),b.1,b.2.1,())) (aP (az b.2.2.1.2 b.2.1.2.2.2.2.1) (ah (D.aK (D.aH
 (aT b.2.1.2.2.2.2.1 (ai b.2.2.1.2) aS).1 b.2.2.2.1)) (Z ((aS,J,()),b.1,b.2.1,())) (aP (az b.2.2.1.2 b.2.1.2.2.2.2.1)
 (Z ((aT b.2.1.2.2.2.2.1 (ai b.2.2.1.2) aS,W,()),b.1,b.2.1,())))))
def Zi(n:Nat):OC:=⟨298,⟨P36,K37,J,F298 n⟩,cx [] [] n 10 298⟩
def F275:Nat->Y53->O (Rx (Y54×Y1×Y2×U) Y4):=
 λn b=>ah (D.aH b.2.2.1.1 4) (aP (az b.2.2.1.2 b.2.1.2.1) (Z (Rx.ok ((aD.mk (aT b.2.1.2.1 (ai b.2.2.1.2) 0) [b.2.2.2.1] [],W,
 ()),b.1,b.2.1,())))) (af (F298 n (b.1,b.2.1,b.2.2.1,2,())) λc=>ah (D.aK c.1.2.1) (Z (Rx.ok ((aF,J,()),c.2))) (aP
 (az c.1.1.2 c.2.2.1.1) (aP (az 0 (aT c.2.2.1.1 (ai c.1.1.2) aN).3) (af (F277 n (c.1.1.3,[b.2.2.2.1],())) λd=>Rx.el d (λe=>
 Z (Rx.ok ((aD.mk (aT (aT c.2.2.1.1 (ai c.1.1.2) aN).3 (ai 0) 0) e.1.1 [],W,()),c.2))) λe=>Z (Rx.dP (e.1,
 c.2))))))
def ach(n:Nat):OC:=⟨275,⟨P38,K39,W,F275 n⟩,cx [We n,Zi n] [] n 10 275⟩
def F276:Nat->aeU->O (Rx ((aZ×U)×Y1×Y2×U) Y4):=
 λn b=>af (F298 n b) λc=>af (F219 n (c.1.2.1,2,())) λd=>Rx.el d (λ_=>Z (Rx.ok ((c.1.1,()),c.2))) λe=>Z (Rx.dP
 (e.1,c.2))
def LL(n:Nat):OC:=⟨276,⟨P36,K40,W,F276 n⟩,cx [Az n,Zi n] [] n 10 276⟩
def F224:Y5:=
 λn b=>aP (az 0 b.1.2.2.2.2.2.1) (aP (az 1 b.1.2.2.2.2.2.1) (af (F275 n (b.1,b.2.1,aT b.1.2.2.2.2.2.1 (ai 0) aB,aT
 b.1.2.2.2.2.2.1 (ai 1) aB,())) λc=>Rx.el c (λd=>ah d.1.2.1 (af (F171 n (d.2.1,d.2.2.1,[d.1.1],())) λe=>Rx.el e (λg=>
 Z (Rx.ok ((dx.a3 iC.mk,()),g.2))) λg=>Z (Rx.dP g)) (aP (az 0 d.2.1.2.2.2.2.2.1) (af (F276 n (d.2.1,d.2.2.1,aT
 d.2.1.2.2.2.2.2.1 (ai 0) aB,5,())) λe=>Rx.el e (λg=>af (F171 n (g.2.1,g.2.2.1,g.1.1.4,())) λh=>Rx.el h (λi=>aP (az
 1 i.2.1.2.2.2.2.2.1) (af (F271 n (i.2.1,i.2.2.1,aT i.2.1.2.2.2.2.2.1 (ai 1) aB,())) λj=>Z (Rx.ok j))) λi=>Z (Rx.dP i))
 λg=>Z (Rx.dP g)))) λd=>Z (Rx.dP d)))
def ahm(n:Nat):OC:=⟨224,⟨AK,K29,W,F224 n⟩,cx [Zo n,Hj n,ach n,LL n] [] n 10 224⟩
def F225:Y5:=
 λn b=>aP (az 0 b.1.2.2.2.2.2.1) (af (F277 n (b.1.2.2.2.2.1,[aT b.1.2.2.2.2.2.1 (ai 0) aB],())) λc=>Rx.el c (λd=>af (F174
 n (b.1,b.2.1,1,d.1)) λe=>Rx.el e (λg=>Z (Rx.ok g)) λg=>Z (Rx.dP g)) λd=>Z (Rx.dP (d.1,b)))
def ahl(n:Nat):OC:=⟨225,⟨AK,K29,W,F225 n⟩,cx [SX n,We n] [] n 10 225⟩
def F226:Y5:=
 λn b=>aP (az 0 b.1.2.2.2.2.2.1) (af (F219 n (D.aH (aT b.1.2.2.2.2.2.1 (ai 0) aB).1 2,2,())) λc=>Rx.el c (λ_=>aP (az 0
 b.1.2.2.2.2.2.1) (af (F174 n (b.1,b.2.1,D.eD .i64 2 (aT b.1.2.2.2.2.2.1 (ai 0) aB).2,b.1.2.2.2.2.1,())) λe=>Rx.el e (λg=>Z
 (Rx.ok g)) λg=>Z (Rx.dP g))) λd=>Z (Rx.dP (d.1,b)))
def ahk(n:Nat):OC:=⟨226,⟨AK,K29,W,F226 n⟩,cx [SX n,Az n] [] n 10 226⟩
def UC(n:Nat)(b:Y1×Y2×U):Y20->Y96:=
 λc=>Rx.el c (λ_=>aP (az 0 b.1.2.2.2.2.2.1) (aP (az 1 b.1.2.2.2.2.2.1) (Z (Rx.ok (((aT b.1.2.2.2.2.2.1 (ai 0) aB).2,(aT
 b.1.2.2.2.2.2.1 (ai 1) aB).2,()),b))))) λd=>Z (Rx.dP (d.1,b))
def F278:Nat->Y1×Y2×U->Y96:=
 λn b=>aP (az 0 b.1.2.2.2.2.2.1) (ah (D.aH (aT b.1.2.2.2.2.2.1 (ai 0) aB).1 1) (aP (az 1 b.1.2.2.2.2.2.1) (af (F219 n (D.aH (aT
 b.1.2.2.2.2.2.1 (ai 1) aB).1 1,2,())) (UC n b))) (af (F219 n (J,2,())) (UC n b)))
def acg(n:Nat):OC:=⟨278,⟨AK,K41,W,F278 n⟩,cx [Az n] [] n 10 278⟩
def F227:Y5:=
 λn b=>af (F278 n b) λc=>Rx.el c (λd=>af (ah (D.aH d.2.1.2.2.2.2.2.2.1 10) (Z (LO.next (D.eD .i64 d.1.1 d.1.2.1,W,())))
 (af (ah (D.aH d.2.1.2.2.2.2.2.2.1 11) (Z (LO.next (D.mul .i64 d.1.1 d.1.2.1,W,()))) (Z (LO.next (D.add .i64 d.1.1 d.1.2.1,J,()))))
 λ(e:Y6)=>LO.jn e (λg=>Z (LO.next (g.1,J,()))) (λ_ _=>Y) (λ_ h=>Z (LO.ret () h)) λ_ h=>Z (LO.dP () h)))
 λ(e:Y6)=>LO.jn e (λg=>af (F69 n (g.1,(-1000000000),1000000000,())) λh=>af (F219 n (h.1.1,4,())) λi=>Rx.el i (λ_=>af
 (F272 n (g.1,())) λk=>af (F271 n (d.2.1,d.2.2.1,k.1)) λl=>Z (Rx.ok l)) λj=>Z (Rx.dP (j.1,d.2))) (λ_ _=>Y) (λ_ h
 =>Z (Rx.ok (h,d.2))) λ_ h=>Z (Rx.dP (h,d.2))) λd=>Z (Rx.dP d)
def ahj(n:Nat):OC:=⟨227,⟨AK,K29,W,F227 n⟩,cx [XL n,Az n,Hj n,Wg n,acg n] [(227,1000005,⟨[(5,cR),(19,cV)],[],[],0⟩),(227,1000007,⟨[(5,cR),(24,cV)],[],[],0⟩)] n 10 227⟩
def F228:Y5:=
 λn b=>af (F278 n b) λc=>Rx.el c (λd=>af (F273 n (D.bM d.1.1 d.1.2.1,())) λe=>af (F271 n (d.2.1,d.2.2.1,e.1)) λg=>Z
 (Rx.ok g)) λd=>Z (Rx.dP d)
def ahi(n:Nat):OC:=⟨228,⟨AK,K29,W,F228 n⟩,cx [Hj n,Wf n,acg n] [] n 10 228⟩
def UH(b:Y1×Y2×U):Bool:=
 D.aH (aT b.1.2.2.2.2.2.1 (ai 0) aB).1 (aT b.1.2.2.2.2.2.1 (ai 1) aB).1
def UG(n:Nat)(b:Y1×Y2×U):Y20->O (Rx Y3 Y4):=
 λc=>Rx.el c (λ_=>af (F273 n (D.eJ (UH b) (D.eJ (D.aH (aT b.1.2.2.2.2.2.1 (ai 0) aB).2 (aT b.1.2.2.2.2.2.1 (ai 1)
 aB).2) W),())) λe=>af (F271 n (b.1,b.2.1,e.1)) λg=>Z (Rx.ok g)) λd=>Z (Rx.dP (d.1,b))
def F229:Y5:=
 λn b=>aP (az 0 b.1.2.2.2.2.2.1) (aP (az 1 b.1.2.2.2.2.2.1) (ah (UH b) (af (F219 n (D.eu (aT b.1.2.2.2.2.2.1 (ai 0) aB).1 3,
 2,())) (UG n b)) (af (F219 n (J,2,())) (UG n b))))
def ahh(n:Nat):OC:=⟨229,⟨AK,K29,W,F229 n⟩,cx [Az n,Hj n,Wf n] [] n 10 229⟩
def F230:Y5:=
 λn b=>af (F274 n (b.1,b.2.1,aZ.mk 1 b.1.2.2.2.2.2.2.2.1 b.1.2.2.2.2.2.1 [],())) λc=>Rx.el c (λd=>af (F271 n (d.2.1,d.2.2.1,
 d.1)) λe=>Z (Rx.ok e)) λd=>Z (Rx.dP d)
def ahg(n:Nat):OC:=⟨230,⟨AK,K29,W,F230 n⟩,cx [Hj n,PT n] [] n 10 230⟩
abbrev RP(F:Fn P42 K4 J):j0 sg:=⟨P42,K4,J,F⟩
def Na(n:Nat)(f279:Y98->Y99)(c:Y98):Y27->Y99:=
 λd=>Z ((D.eJ (D.aH c.2.2.2.1.1 d.1.1.1) (D.eJ (D.aH c.2.2.2.1.2 d.1.1.2) W),()),c.1,c.2.1,c.2.2.2.2)
def M9(n:Nat)(f279:Y98->Y99)(c:Y98)(d:ae2):Y99:=
 Z ((J,()),d.2.1,d.2.2.1,c.2.2.2.2)
def Ig(c:Y98)(e:ae1):aG:=
 aT c.2.2.1.4 (ai e.1) aR
def B279:Nat->(Y98->Y99)->Y98->Y99:=
 λn f279 c=>ah (D.aH c.2.2.1.1 2) (aP (dR c.2.2.2.2.1.1 [c.2.2.2.1]) (Z ((W,()),c.1,c.2.1,(dj c.2.2.2.2.1.1 [c.2.2.2.1],()),
 ()))) (ah (D.aH c.2.2.1.1 3) (af (F272 n (c.2.2.1.2,())) (Na n f279 c)) (ah (D.aH c.2.2.1.1 4) (af (F273 n (D.aH c.2.2.1.2 1,())) (Na
 n f279 c)) (ah (D.aH c.2.2.1.1 5) (af (F48 n ()) (Na n f279 c)) (ah (D.aH c.2.2.1.1 6) (af (F298 n (c.1,c.2.1,c.2.2.2.1,1,())) λd=>
 ah (D.aK d.1.2.1) (M9 n f279 c d) (ah (D.aK (D.aH d.1.1.2 c.2.2.1.2)) (M9 n f279 c d) (ah (D.aK (D.aH (aj d.1.1.3) (aj
 c.2.2.1.4))) (M9 n f279 c d) (af (@iter (ae1) (Bool×U) (Y1×Y2×(L aJ×U)×U) (Any) (λe=>ah (D.bM e.1 (aj
 c.2.2.1.4)) (aP (az e.1 c.2.2.1.4) (aP (az e.1 d.1.1.3) (af (f279 (e.2.1,e.2.2.1,aG.mk (Ig c e).1 (Ig c e).2 (Ig c e).3
 (Ig c e).4,aT d.1.1.3 (ai e.1) aB,e.2.2.2)) λg=>ah (D.aK g.1.1) (Z (LO.ret g.2 (J,()))) (Z (LO.next (D.add .i64 e.1
 1,g.2)))))) (Z (LO.out 0 e))) n (0,d.2.1,d.2.2.1,c.2.2.2.2)) λe=>LO.el e (λ_ h=>Z ((W,()),h.2)) (λg h=>Z (h,g)) λ_
 _=>Y)))) (Z ((W,()),c.1,c.2.1,c.2.2.2.2))))))
def D279(n:Nat)(f279:Fn P42 K4 J)(a:bw prog 279 (RP f279)):bw prog 279 (RP (B279 n f279)):=cx [Wc n,Wg n,Wf n,⟨279,RP f279,a⟩,Zi n] [(279,1,⟨[(74,cR),(0,Ra),(0,Q9),(0,.box (.cells [.own (.st 4)]))],[.slot 0,.cell (.slot 0) 0,.slot 3],[],0⟩)] n 10 279
def R279(n k:Nat):(Fn P42 K4 J):=Nat.rec (motive:=λ_=>(Fn P42 K4 J)) (λ_=>Y) (λ_ r=>B279 n r) k
def F279(n:Nat):Fn P42 K4 J:=(R279 n n)
def Yo(n:Nat):∀k,bw prog 279 (RP (R279 n k))
 |0=>bW (enters 279 (by kernel_rfl))
 |k+1=>have a:=Yo n k
  D279 n _ a
def agS(n:Nat):OC:=⟨279,RP (F279 n),(Yo n n)⟩
def H8(b:Y1×Y2×U)(c:aeL):aG:=
 aT b.1.2.2.2.2.2.2.2.2.2.1 (ai c.1) aR
def F231:Y5:=
 λn b=>af (@iter (aeL) (dx×U) (Y1×Y2×U) (Any) (λc=>ah (D.bM c.1 (aj b.1.2.2.2.2.2.2.2.2.2.1)) (aP (az c.1
 b.1.2.2.2.2.2.2.2.2.2.1) (aP (az 0 c.2.1.2.2.2.2.2.1) (af (F279 n (c.2.1,c.2.2.1,aG.mk (H8 b c).1 (H8 b c).2 (H8 b c).3 (H8
 b c).4,aT c.2.1.2.2.2.2.2.1 (ai 0) aB,([],()),())) λd=>ah d.1.1 (af (F277 n (d.2.1.2.2.2.2.1,d.2.2.2.1)) λe=>Rx.el e (λg
 =>af (F174 n (d.2.1,d.2.2.1,D.add .i64 c.1 1,g.1)) λh=>Rx.el h (λi=>Z (LO.ret i.2 i.1)) λi=>Z (LO.dP i.2 i.1)) λg=>Z
 (LO.dP (d.2.1,d.2.2.1,()) g.1)) (Z (LO.next (D.add .i64 c.1 1,d.2.1,d.2.2.1,())))))) (Z (LO.out 0 c))) n (0,b)) λc=>LO.el c (λ_ e
 =>Z (Rx.dP (Any.a0 (fW.mk 3),e.2))) (λd e=>Z (Rx.ok (e,d))) λd e=>Z (Rx.dP (e,d))
def ahf(n:Nat):OC:=⟨231,⟨AK,K29,W,F231 n⟩,cx [SX n,We n,agS n] [(231,0,⟨[(12,cR),(0,Ra),(0,Q9)],[.slot 0,.cell (.slot 0) 0],[],0⟩)] n 10 231⟩
def UB(b:Y53):Y1×Y2×U:=
 (((),b.1.2.1,b.1.2.2.1,b.1.2.2.2.1,b.1.2.2.2.2.1,b.1.2.2.2.2.2.1,b.1.2.2.2.2.2.2.1,b.1.2.2.2.2.2.2.2.1,b.1.2.2.2.2.2.2.2.2.1,
 b.1.2.2.2.2.2.2.2.2.2.1,[b.2.2.1],()),b.2.1,())
def F280:Nat->Y53->O Y3:=
 λn b=>af (F112 n b.2.2.2) λc=>ah (D.aH b.1.2.2.2.2.2.2.1 24) (Z ((dx.a1 (fY.mk (bL.mk b.1.2.1 b.1.2.2.2.2.2.2.1
 b.1.2.2.2.2.2.2.2.1 c.1.1)),()),UB b)) (Z ((dx.a1 (fY.mk (bL.mk b.1.2.1 b.1.2.2.2.2.2.2.1 0 c.1.1)),()),UB b))
def Cz(n:Nat):OC:=⟨280,⟨P38,K29,J,F280 n⟩,cx [acz n] [] n 10 280⟩
def F232:Y5:=
 λn b=>aP (az 0 b.1.2.2.2.2.2.1) (af (F274 n (b.1,b.2.1,aZ.mk 3 0 [aT b.1.2.2.2.2.2.1 (ai 0) aB] [],())) λc=>Rx.el c (λ
 d=>af (F280 n (d.2.1,d.2.2.1,d.1.1,aT b.1.2.2.2.2.2.1 (ai 0) aB,())) λe=>Z (Rx.ok e)) λd=>Z (Rx.dP d))
def ahe(n:Nat):OC:=⟨232,⟨AK,K29,W,F232 n⟩,cx [PT n,Cz n] [] n 10 232⟩
def F233:Y5:=
 λn b=>aP (az 0 b.1.2.2.2.2.2.1) (af (F276 n (b.1,b.2.1,aT b.1.2.2.2.2.2.1 (ai 0) aB,3,())) λc=>Rx.el c (λd=>aP (az 0
 d.1.1.3) (af (F280 n (d.2.1,d.2.2.1,aT d.1.1.3 (ai 0) aB,aT d.1.1.3 (ai 0) aB,())) λe=>Z (Rx.ok e))) λd=>Z
 (Rx.dP d))
def ahd(n:Nat):OC:=⟨233,⟨AK,K29,W,F233 n⟩,cx [LL n,Cz n] [] n 10 233⟩
def F281:Nat->Y1×Y2×Int×aZ×U->O Ue:=
 λn b=>af (F170 n (b.2.1.2.2.2.2.1,())) λc=>aP (az b.2.2.1 c.1.1) (aP (ef (ai b.2.2.1) c.1.1) (Z ((),b.1,(b.2.1.1,b.2.1.2.1,
 b.2.1.2.2.1,b.2.1.2.2.2.1,jP c.1.1 (ai b.2.2.1) b.2.2.2.1,b.2.1.2.2.2.2.2),())))
def Zj(n:Nat):OC:=⟨281,⟨P43,[],J,F281 n⟩,cx [acs n] [] n 10 281⟩
def F234:Y5:=
 λn b=>aP (az 0 b.1.2.2.2.2.2.1) (af (F276 n (b.1,b.2.1,aT b.1.2.2.2.2.2.1 (ai 0) aB,3,())) λc=>Rx.el c (λd=>aP (az 0
 d.2.1.2.2.2.2.2.1) (aP (az 1 d.2.1.2.2.2.2.2.1) (af (F281 n (d.2.1,d.2.2.1,(aT d.2.1.2.2.2.2.2.1 (ai 0) aB).2,aZ.mk 3 0 [aT
 d.2.1.2.2.2.2.2.1 (ai 1) aB] [],())) λe=>af (F48 n ()) λg=>aP (az 1 e.2.1.2.2.2.2.2.1) (af (F280 n (e.2.1,e.2.2.1,g.1.1,aT
 e.2.1.2.2.2.2.2.1 (ai 1) aB,())) λh=>Z (Rx.ok h))))) λd=>Z (Rx.dP d))
def ahc(n:Nat):OC:=⟨234,⟨AK,K29,W,F234 n⟩,cx [Wc n,LL n,Cz n,Zj n] [] n 10 234⟩
def zk(j:aaR):Int:=
 aj j.2.2.1.2.2.2.2.2.1
def F235:Y5:=
 λn b=>aP (az 0 b.1.2.2.2.2.2.1) (af (F48 n ()) λc=>af (F275 n (b.1,b.2.1,aT b.1.2.2.2.2.2.1 (ai 0) aB,c.1)) λd=>Rx.el d
 (λe=>af (ah e.1.2.1 (Z (LO.next (W,e.2.1,e.2.2.1,(6,0,[],[e.1.1],()),()))) (aP (az 0 e.2.1.2.2.2.2.2.1) (af (F276 n (e.2.1,
 e.2.2.1,aT e.2.1.2.2.2.2.2.1 (ai 0) aB,5,())) λg=>Rx.el g (λh=>af (F48 n ()) λi=>Z (LO.next (J,h.2.1,h.2.2.1,(6,
 0,[i.1.1],h.1.1.4,()),()))) λh=>Z (LO.dP (h.2.1,h.2.2.1,(6,0,[],[],()),()) h.1)))) λ(g:LO (Bool×Y1×Y2×uN×U)
 (dx×U) (Y1×Y2×uN×U) Any)=>LO.jn g (λh=>af (F274 n (h.2.1,h.2.2.1,aZ.mk h.2.2.2.1.1 h.2.2.2.1.2.1 h.2.2.2.1.2.2.1
 h.2.2.2.1.2.2.2.1,())) λi=>Rx.el i (λj=>aP (AI (iz 0 (zk j) (zk j)) (kT (zk j) (zk j))) (aP (dR (eZ
 j.2.2.1.2.2.2.2.2.1 0 (zk j)) [j.1.1.2]) (af (F48 n ()) λk=>af (F280 n (j.2.1,(j.2.2.1.1,j.2.2.1.2.1,j.2.2.1.2.2.1,j.2.2.1.2.2.2.1,
 j.2.2.1.2.2.2.2.1,dj (eZ j.2.2.1.2.2.2.2.2.1 0 (zk j)) [j.1.1.2],j.2.2.1.2.2.2.2.2.2),j.1.1,k.1)) λl=>Z (Rx.ok l)))) λj=>Z
 (Rx.dP j)) (λ_ _=>Y) (λh i=>Z (Rx.ok (i,h.1,h.2.1,()))) λh i=>Z (Rx.dP (i,h.1,h.2.1,()))) λe=>Z (Rx.dP e))
def ahb(n:Nat):OC:=⟨235,⟨AK,K29,W,F235 n⟩,cx [Wc n,PT n,ach n,LL n,Cz n] [(235,1000004,⟨[(21,cV),(0,Ra),(0,Q9),(0,Xe)],[.slot 0,.cell (.slot 0) 0,.slot 3],[],0⟩)] n 10 235⟩
def F236:Y5:=
 λn b=>aP (az 0 b.1.2.2.2.2.2.1) (af (F276 n (b.1,b.2.1,aT b.1.2.2.2.2.2.1 (ai 0) aB,6,())) λc=>Rx.el c (λd=>ah (D.aH
 d.1.1.2 0) (Z (Rx.ok ((dx.a0 g6.mk,()),d.2))) (ah (D.aH d.1.1.2 1) (aP (az 0 d.1.1.3) (aP (az 0 d.1.1.3) (af (F280 n (d.2.1,
 d.2.2.1,aT d.1.1.3 (ai 0) aB,aT d.1.1.3 (ai 0) aB,())) λe=>Z (Rx.ok e)))) (Z (Rx.dP (Any.a0 (fW.mk d.1.1.2),
 d.2))))) λd=>Z (Rx.dP d))
def aha(n:Nat):OC:=⟨236,⟨AK,K29,W,F236 n⟩,cx [LL n,Cz n] [] n 10 236⟩
def F237:Y5:=
 λn b=>af (F274 n (b.1,b.2.1,aZ.mk 4 0 [] [],())) λc=>Rx.el c (λd=>af (F48 n ()) λe=>af (F280 n (d.2.1,d.2.2.1,d.1.1,
 e.1)) λg=>Z (Rx.ok g)) λd=>Z (Rx.dP d)
def ag9(n:Nat):OC:=⟨237,⟨AK,K29,W,F237 n⟩,cx [Wc n,PT n,Cz n] [] n 10 237⟩
def F238:Y5:=
 λn b=>aP (az 0 b.1.2.2.2.2.2.1) (af (F276 n (b.1,b.2.1,aT b.1.2.2.2.2.2.1 (ai 0) aB,4,())) λc=>Rx.el c (λd=>ah (D.aH
 (aj d.1.1.3) 4) (Z (Rx.ok ((dx.a0 g6.mk,()),d.2))) (aP (az 1 d.2.1.2.2.2.2.2.1) (aP (AI (iz 0 (aj d.1.1.3) (aj d.1.1.3))
 (kT (aj d.1.1.3) (aj d.1.1.3))) (aP (dR (eZ d.1.1.3 0 (aj d.1.1.3)) [aT d.2.1.2.2.2.2.2.1 (ai 1) aB]) (aP (az 0
 d.2.1.2.2.2.2.2.1) (af (F281 n (d.2.1,d.2.2.1,(aT d.2.1.2.2.2.2.2.1 (ai 0) aB).2,aZ.mk d.1.1.1 d.1.1.2 (dj (eZ d.1.1.3 0 (aj
 d.1.1.3)) [aT d.2.1.2.2.2.2.2.1 (ai 1) aB]) d.1.1.4,())) λe=>af (F48 n ()) λg=>aP (az 1 e.2.1.2.2.2.2.2.1) (af (F280 n (e.2.1,
 e.2.2.1,g.1.1,aT e.2.1.2.2.2.2.2.1 (ai 1) aB,())) λh=>Z (Rx.ok h)))))))) λd=>Z (Rx.dP d))
def ag8(n:Nat):OC:=⟨238,⟨AK,K29,W,F238 n⟩,cx [Wc n,LL n,Cz n,Zj n] [] n 10 238⟩
def F239:Y5:=
 λn b=>aP (az 0 b.1.2.2.2.2.2.1) (af (F276 n (b.1,b.2.1,aT b.1.2.2.2.2.2.1 (ai 0) aB,4,())) λc=>Rx.el c (λd=>ah (D.aH
 (aj d.1.1.3) 0) (Z (Rx.ok ((dx.a0 g6.mk,()),d.2))) (aP (az 0 d.1.1.3) (aP (iz 1 (aj d.1.1.3) (aj d.1.1.3)) (aP (az 0
 d.2.1.2.2.2.2.2.1) (af (F281 n (d.2.1,d.2.2.1,(aT d.2.1.2.2.2.2.2.1 (ai 0) aB).2,aZ.mk d.1.1.1 d.1.1.2 (eZ d.1.1.3 1 (aj
 d.1.1.3)) d.1.1.4,())) λe=>af (F280 n (e.2.1,e.2.2.1,aT d.1.1.3 (ai 0) aB,aT d.1.1.3 (ai 0) aB,())) λg=>Z (Rx.ok
 g)))))) λd=>Z (Rx.dP d))
def ag7(n:Nat):OC:=⟨239,⟨AK,K29,W,F239 n⟩,cx [LL n,Cz n,Zj n] [] n 10 239⟩
def H7(b:Y1×Y2×U):aJ:=
 aT b.1.2.2.2.2.2.1 (ai 0) aB
def wB(b:Y1×Y2×U):Int:=
 aj b.2.1.2.2.2.2.2.2.1
def F240:Y5:=
 λn b=>aP (az 0 b.1.2.2.2.2.2.1) (af (F219 n (D.aH (H7 b).1 1,2,())) λc=>Rx.el c (λ_=>af (F219 n (D.bM (wB b) 100,4,
 ())) λe=>Rx.el e (λ_=>aP (AI (iz 0 (wB b) (wB b)) (kT (wB b) (wB b))) (aP (dR (eZ b.2.1.2.2.2.2.2.2.1 0 (wB
 b)) [dW.mk b.1.2.2.2.2.2.2.2.1 (H7 b).2]) (af (F48 n ()) λh=>af (F280 n (b.1,(b.2.1.1,b.2.1.2.1,b.2.1.2.2.1,b.2.1.2.2.2.1,
 b.2.1.2.2.2.2.1,b.2.1.2.2.2.2.2.1,dj (eZ b.2.1.2.2.2.2.2.2.1 0 (wB b)) [dW.mk b.1.2.2.2.2.2.2.2.1 (H7 b).2],b.2.1.2.2.2.2.2.2.2),
 h.1.1,H7 b,())) λi=>Z (Rx.ok i)))) λg=>Z (Rx.dP (g.1,b))) λd=>Z (Rx.dP (d.1,b)))
def ag6(n:Nat):OC:=⟨240,⟨AK,K29,W,F240 n⟩,cx [Wc n,Az n,Cz n] [] n 10 240⟩
def H6(b:Y1×Y2×U):Int:=
 aj b.2.1.2.2.2.2.2.2.2.1
def F241:Y5:=
 λn b=>ah (D.aH (H6 b) 0) (Z (Rx.ok ((dx.a0 g6.mk,()),b))) (af (F219 n (D.bM b.2.1.2.2.2.2.2.2.2.2.1 1000000000,4,()))
 λc=>Rx.el c (λ_=>aP (az 0 b.2.1.2.2.2.2.2.2.2.1) (af (F272 n (aT b.2.1.2.2.2.2.2.2.2.1 (ai 0) 0,())) λe=>aP (iz 1 (H6 b)
 (H6 b)) (af (F280 n (b.1,(b.2.1.1,b.2.1.2.1,b.2.1.2.2.1,b.2.1.2.2.2.1,b.2.1.2.2.2.2.1,b.2.1.2.2.2.2.2.1,b.2.1.2.2.2.2.2.2.1,eZ
 b.2.1.2.2.2.2.2.2.2.1 1 (H6 b),D.add .i64 b.2.1.2.2.2.2.2.2.2.2.1 1,()),e.1.1,e.1)) λg=>Z (Rx.ok g)))) λd=>Z (Rx.dP (d.1,b)))
def ag5(n:Nat):OC:=⟨241,⟨AK,K29,W,F241 n⟩,cx [Az n,Wg n,Cz n] [] n 10 241⟩
def F242:Y28:=
 λn b=>aP (az 0 b.1.2.2.2.2.2.1) (af (F271 n (b.1,b.2.1,aT b.1.2.2.2.2.2.1 (ai 0) aB,())) λc=>Z c)
def ag4(n:Nat):OC:=⟨242,⟨AK,K29,J,F242 n⟩,cx [Hj n] [] n 10 242⟩
def F160:Nat->Y22->O (Y22×U):=λn b=>Z (b,())
def C160(n:Nat):bw prog 160 (⟨P44,K45,J,F160 n⟩:j0 sg):=PI [] trivial (Vr []) J n 10 160 P44 K45 (by kernel_rfl) (Eq.trans (by kernel_rfl:_=λb:Y22=>EG (U8 b.1) (Z (([],()),())) (Z (b,()))) (funext qC))
def Wi(n:Nat):OC:=⟨160,⟨P44,K45,J,F160 n⟩,C160 n⟩
def UF(e:Int×U)(k:aaR):Y1:=
 ((),k.2.1.2.1,eZ k.2.1.2.2.1 0 (D.add .i64 e.1 1),k.2.1.2.2.2)
def F243:Y5:=
 λn b=>af (@iter (Int×U) (dx×U) (U) (Any) (λc=>ah (D.eu 0 c.1) (aP (az c.1 b.1.2.2.1) (aP (az (aT b.1.2.2.1 (ai
 c.1) aF).1 b.2.1.1) (ah (D.aK (D.aH (aT b.2.1.1 (ai (aT b.1.2.2.1 (ai c.1) aF).1) aN).1 26)) (Z (LO.next (D.eD .i64
 c.1 1,()))) (Z (LO.out 0 c))))) (Z (LO.out 0 c))) n (D.eD .i64 (aj b.1.2.2.1) 1,())) λc=>LO.el c (λ_ e=>af (F219 n (D.eu 0 e.1,
 3,())) λg=>Rx.el g (λ_=>aP (iz e.1 (aj b.1.2.2.1) (aj b.1.2.2.1)) (af (F160 n (eZ b.1.2.2.1 e.1 (aj b.1.2.2.1),())) λi=>
 af (F274 n (b.1,b.2.1,aZ.mk 5 0 [] i.1.1,())) λj=>Rx.el j (λk=>aP (iz 0 (D.add .i64 e.1 1) (aj k.2.1.2.2.1)) (af (F277 n
 (k.2.1.2.2.2.2.1,[k.1.1],())) λl=>Rx.el l (λm=>af (F174 n (UF e k,k.2.2.1,0,m.1)) λo=>Rx.el o (λp=>Z (Rx.ok p)) λp
 =>Z (Rx.dP p)) λm=>Z (Rx.dP (m.1,UF e k,k.2.2)))) λk=>Z (Rx.dP k))) λh=>Z (Rx.dP (h.1,b))) (λ_ e=>Z
 (Rx.ok (e,b))) λ_ e=>Z (Rx.dP (e,b))
def ag3(n:Nat):OC:=⟨243,⟨AK,K29,W,F243 n⟩,cx [Wi n,SX n,Az n,PT n,We n] [(243,0,⟨[(3,cR)],[],[],0⟩)] n 10 243⟩
def F244:Y28:=
 λn b=>af (F48 n ()) λc=>af (F48 n ()) λd=>af (F280 n (b.1,b.2.1,c.1.1,d.1)) λe=>Z e
def ag2(n:Nat):OC:=⟨244,⟨AK,K29,J,F244 n⟩,cx [Wc n,Cz n] [] n 10 244⟩
def wC(b:EH):Int:=
 D.eD .i64 (aj b.2.2.1.4) 1
def iG(b:EH):aD:=
 aT b.2.2.1.4 (ai (wC b)) aF
def DR(b:EH):bp:=
 aT b.2.1.1 (ai (iG b).1) aN
def UN(b:EH):Y1:=
 ((),b.1.2.1,b.1.2.2.1,b.1.2.2.2.1,b.1.2.2.2.2.1,b.1.2.2.2.2.2.1,(DR b).1,(DR b).2,(DR b).3,(DR b).4,b.1.2.2.2.2.2.2.2.2.2.2)
def fT(b:EH)(e:Ue):Y1×Y2×U:=
 (((),e.2.1.2.1,e.2.1.2.2.1,(iG b).1,(iG b).2,(iG b).3,e.2.1.2.2.2.2.2.2),e.2.2)
def M0(n:Nat)(b:EH)(e:Ue):O (Rx Y3 Y4):=
 af (F221 n (fT b e)) λg=>Z (Rx.ok g)
def MZ(n:Nat)(b:EH)(e:Ue):O (Rx Y3 Y4):=
 af (F227 n (fT b e)) λg=>Rx.el g (λh=>Z (Rx.ok h)) λh=>Z (Rx.dP h)
def F115:Nat->EH->O (Rx Y3 Y4):=
 λn b=>ah (D.bM 0 (aj b.2.2.1.3)) (aP (az (wC b) b.2.2.1.4) (aP (iz 0 (wC b) (aj b.2.2.1.4)) (af (F171 n (b.1,b.2.1,eZ
 b.2.2.1.4 0 (wC b),())) λc=>Rx.el c (λd=>aP (az 0 b.2.2.1.3) (aP (AI (iz 0 (aj (iG b).3) (aj (iG b).3)) (kT (aj
 (iG b).3) (aj (iG b).3))) (aP (dR (eZ (iG b).3 0 (aj (iG b).3)) [aT b.2.2.1.3 (ai 0) aB]) (af (F171 n (d.2.1,
 d.2.2.1,[aD.mk (iG b).1 (iG b).2 (dj (eZ (iG b).3 0 (aj (iG b).3)) [aT b.2.2.1.3 (ai 0) aB])],())) λe=>
 Rx.el e (λg=>Z (Rx.ok ((dx.a3 iC.mk,()),g.2))) λg=>Z (Rx.dP g))))) λd=>Z (Rx.dP d)))) (aP (az (wC b)
 b.2.2.1.4) (aP (az (iG b).1 b.2.1.1) (af (F173 n (DR b,())) λc=>ah (D.bM (aj (iG b).3) c.1.1) (af (F171 n (UN b,b.2.1,
 b.2.2.1.4,())) λd=>Rx.el d (λe=>af (F174 n (e.2.1,e.2.2.1,aj (iG b).3,(iG b).2,())) λg=>Rx.el g (λh=>Z (Rx.ok
 h)) λh=>Z (Rx.dP h)) λe=>Z (Rx.dP e)) (aP (iz 0 (wC b) (aj b.2.2.1.4)) (af (F171 n (UN b,b.2.1,eZ b.2.2.1.4 0
 (wC b),())) λd=>Rx.el d (λe=>ah (kT e.2.1.2.2.2.2.2.2.1 0) Y (ah (kT e.2.1.2.2.2.2.2.2.1 1) (M0 n b e) (ah (kT
 e.2.1.2.2.2.2.2.2.1 2) (M0 n b e) (ah (kT e.2.1.2.2.2.2.2.2.1 3) (M0 n b e) (ah (kT e.2.1.2.2.2.2.2.2.1 4) (af (F222 n (fT b e)) λg
 =>Rx.el g (λh=>Z (Rx.ok h)) λh=>Z (Rx.dP h)) (ah (kT e.2.1.2.2.2.2.2.2.1 5) (af (F223 n (fT b e)) λg=>Rx.el g (λh=>
 Z (Rx.ok h)) λh=>Z (Rx.dP h)) (ah (kT e.2.1.2.2.2.2.2.2.1 6) (af (F224 n (fT b e)) λg=>Rx.el g (λh=>Z (Rx.ok h)) λh
 =>Z (Rx.dP h)) (ah (kT e.2.1.2.2.2.2.2.2.1 7) (af (F225 n (fT b e)) λg=>Rx.el g (λh=>Z (Rx.ok h)) λh=>Z (Rx.dP h))
 (ah (kT e.2.1.2.2.2.2.2.2.1 8) (af (F226 n (fT b e)) λg=>Rx.el g (λh=>Z (Rx.ok h)) λh=>Z (Rx.dP h)) (ah (kT
 e.2.1.2.2.2.2.2.2.1 9) (MZ n b e) (ah (kT e.2.1.2.2.2.2.2.2.1 10) (MZ n b e) (ah (kT e.2.1.2.2.2.2.2.2.1 11) (MZ n b e) (ah (kT
 e.2.1.2.2.2.2.2.2.1 12) (af (F228 n (fT b e)) λg=>Rx.el g (λh=>Z (Rx.ok h)) λh=>Z (Rx.dP h)) (ah (kT e.2.1.2.2.2.2.2.2.1
 13) (af (F229 n (fT b e)) λg=>Rx.el g (λh=>Z (Rx.ok h)) λh=>Z (Rx.dP h)) (ah (kT e.2.1.2.2.2.2.2.2.1 14) (af (F230 n
 (fT b e)) λg=>Rx.el g (λh=>Z (Rx.ok h)) λh=>Z (Rx.dP h)) (ah (kT e.2.1.2.2.2.2.2.2.1 15) (af (F231 n (fT b e)) λg
 =>Rx.el g (λh=>Z (Rx.ok h)) λh=>Z (Rx.dP h)) (ah (kT e.2.1.2.2.2.2.2.2.1 16) (af (F232 n (fT b e)) λg=>Rx.el g (λh=>
 Z (Rx.ok h)) λh=>Z (Rx.dP h)) (ah (kT e.2.1.2.2.2.2.2.2.1 17) (af (F233 n (fT b e)) λg=>Rx.el g (λh=>Z (Rx.ok h)) λh
 =>Z (Rx.dP h)) (ah (kT e.2.1.2.2.2.2.2.2.1 18) (af (F234 n (fT b e)) λg=>Rx.el g (λh=>Z (Rx.ok h)) λh=>Z (Rx.dP h))
 (ah (kT e.2.1.2.2.2.2.2.2.1 19) (af (F235 n (fT b e)) λg=>Rx.el g (λh=>Z (Rx.ok h)) λh=>Z (Rx.dP h)) (ah (kT
 e.2.1.2.2.2.2.2.2.1 20) (af (F236 n (fT b e)) λg=>Rx.el g (λh=>Z (Rx.ok h)) λh=>Z (Rx.dP h)) (ah (kT e.2.1.2.2.2.2.2.2.1
 21) (af (F237 n (fT b e)) λg=>Rx.el g (λh=>Z (Rx.ok h)) λh=>Z (Rx.dP h)) (ah (kT e.2.1.2.2.2.2.2.2.1 22) (af (F238 n
 (fT b e)) λg=>Rx.el g (λh=>Z (Rx.ok h)) λh=>Z (Rx.dP h)) (ah (kT e.2.1.2.2.2.2.2.2.1 23) (af (F239 n (fT b e)) λg
 =>Rx.el g (λh=>Z (Rx.ok h)) λh=>Z (Rx.dP h)) (ah (kT e.2.1.2.2.2.2.2.2.1 24) (af (F240 n (fT b e)) λg=>Rx.el g (λh=>
 Z (Rx.ok h)) λh=>Z (Rx.dP h)) (ah (kT e.2.1.2.2.2.2.2.2.1 25) (af (F241 n (fT b e)) λg=>Rx.el g (λh=>Z (Rx.ok h)) λh
 =>Z (Rx.dP h)) (ah (kT e.2.1.2.2.2.2.2.2.1 26) (af (F242 n (fT b e)) λg=>Z (Rx.ok g)) (ah (kT e.2.1.2.2.2.2.2.2.1 27) (af (F243
 n (fT b e)) λg=>Rx.el g (λh=>Z (Rx.ok h)) λh=>Z (Rx.dP h)) (ah (kT e.2.1.2.2.2.2.2.2.1 28) (af (F244 n (fT b e)) λg
 =>Z (Rx.ok g)) (aP J Y)))))))))))))))))))))))))))))) λe=>Z (Rx.dP e))))))
def ahV(n:Nat):OC:=⟨115,⟨P33,K29,W,F115 n⟩,cx [Zo n,Zn n,SX n,ahp n,aho n,ahn n,ahm n,ahl n,ahk n,ahj n,ahi n,ahh n,ahg n,ahf n,ahe n,ahd n,ahc n,ahb n,aha n,ag9 n,ag8 n,ag7 n,ag6 n,ag5 n,ag4 n,ag3 n,ag2 n] [] n 10 115⟩
def Ai(b:Y2×Int×U):Int:=
 aT b.1.2.2.2.2.2.1 (ai b.2.1) 0
def Gd(b:Y2×Int×U):aZ:=
 aT b.1.2.2.2.2.1 (ai (Ai b)) aS
def F70:Nat->Y2×Int×U->O ((dx×U)×Y2×U):=
 λn b=>aP (az b.2.1 b.1.2.2.2.2.2.1) (aP (az (Ai b) b.1.2.2.2.2.1) (ah (D.aK (D.aH (Gd b).2 0)) (Z ((dx.a0 g6.mk,
 ()),b.1,())) (ah (D.aH (aj (Gd b).4) 0) (af (F170 n (b.1.2.2.2.2.1,())) λc=>aP (az b.2.1 b.1.2.2.2.2.2.1) (aP (az (Ai b)
 c.1.1) (aP (ef (ai (Ai b)) c.1.1) (aP (az 0 (Gd b).3) (af (F112 n (aT (Gd b).3 (ai 0) aB,())) λd=>Z ((dx.a1
 (fY.mk (bL.mk b.2.1 0 1 d.1.1)),()),(b.1.1,b.1.2.1,b.1.2.2.1,b.1.2.2.2.1,jP c.1.1 (ai (Ai b)) (aZ.mk 6 1 (Gd b).3
 []),b.1.2.2.2.2.2),())))))) (af (F115 n (((),b.2.1,[],0,[],[],0,0,[],[],[],()),b.1,Gd b,())) λc=>Rx.el c (λd=>af (F71 n
 d.1) λe=>ah (D.aK (D.aH e.1.1 2)) (af (F170 n (d.2.2.1.2.2.2.2.1,())) λg=>aP (az b.2.1 d.2.2.1.2.2.2.2.2.1) (aP (az (aT
 d.2.2.1.2.2.2.2.2.1 (ai b.2.1) 0) g.1.1) (aP (ef (ai (aT d.2.2.1.2.2.2.2.2.1 (ai b.2.1) 0)) g.1.1) (Z (d.1,(d.2.2.1.1,d.2.2.1.2.1,
 d.2.2.1.2.2.1,d.2.2.1.2.2.2.1,jP g.1.1 (ai (aT d.2.2.1.2.2.2.2.2.1 (ai b.2.1) 0)) (aZ.mk 6 0 d.2.1.2.2.2.2.2.2.2.2.2.2.1 d.2.1.2.2.1),
 d.2.2.1.2.2.2.2.2),()))))) (Z (d.1,d.2.2))) λd=>ah (D.aK (isNil [(175,Ty.st 14)] (eB 30 d.1))) (af (ah (D.aK (g9 [(175,Ty.st
 14)] 0 (eB 30 d.1))) Y (Z (LO.next (J,())))) λ(e:akh)=>LO.jn e (λ_=>af (F170 n (b.1.2.2.2.2.1,())) λh=>aP (az
 b.2.1 b.1.2.2.2.2.2.1) (aP (az (Ai b) h.1.1) (aP (ef (ai (Ai b)) h.1.1) (af (F114 n (iX (Sg.zero sg) [(175,Ty.st 14)] 0 (eB 30
 d.1),())) λi=>Z ((dx.a1 (fY.mk (bL.mk b.2.1 i.1.1.2 i.1.1.3 i.1.1.4)),()),(d.2.2.1.1,d.2.2.1.2.1,d.2.2.1.2.2.1,
 d.2.2.1.2.2.2.1,jP h.1.1 (ai (Ai b)) (aZ.mk 6 (iX (Sg.zero sg) [(175,Ty.st 14)] 0 (eB 30 d.1)).1 [] []),b.1.2.2.2.2.2),())))))
 (λ_ _=>Y) (λ_ _=>Z ((dx.none,()),d.2.2)) λ_ _=>Y) (Z ((dx.none,()),d.2.2))))))
def k70(n:Nat):OC:=⟨70,⟨P46,K29,J,F70 n⟩,cx [k71 n,acz n,acy n,ahV n,acs n] [(113,1000004,⟨[(17,cV)],[],[],0⟩)] n 10 70⟩
def F50:Nat->Y2×Int×U->O aaM:=
 λn b=>af (@iter (Int×Int×Y2×U) (Int×Bool×U) (Y2×U) (Any) (λc=>ah (D.bM c.2.1 (aj b.1.2.2.2.2.2.1)) (af (@iter (Int
 ×Y2×U) (Int×Bool×U) (Y2×U) (Any) (λd=>af (F70 n (d.2.1,c.2.1,())) λe=>af (F71 n e.1) λg=>ah (D.aK (D.aH g.1.1
 0)) (Z (LO.out 0 d)) (ah (D.bM 5000 (D.add .i64 d.1 1)) (Z (LO.ret d.2 (0,J,()))) (Z (LO.next (D.add .i64 d.1 1,e.2))))) n (c.1,
 c.2.2)) λd=>LO.el d (λ_ g=>Z (LO.next (g.1,D.add .i64 c.2.1 1,g.2))) (λe g=>Z (LO.ret e g)) λ_ _=>Y) (Z (LO.out 0
 c))) n (b.2.1,0,b.1,())) λc=>LO.el c (λ_ e=>Z ((e.1,W,()),e.2.2)) (λd e=>Z (e,d)) λ_ _=>Y
def k50(n:Nat):OC:=⟨50,⟨P46,K47,J,F50 n⟩,cx [k70 n,k71 n] [(50,0,⟨[(1,cR),(14,cR),(0,b2z)],[.slot 0],[],0⟩),(50,2,⟨[(1,cR),(0,b2z)],[.slot 0],[],0⟩)] n 10 50⟩
def F90:Nat->L dW×U->O ((L dW×U)×U):=λn b=>Z (b,())
def C90(n:Nat):bw prog 90 (⟨P48,K49,J,F90 n⟩:j0 sg):=PI [] trivial (Vr []) J n 10 90 P48 K49 (by kernel_rfl) (Eq.trans (by kernel_rfl:_=λb:L dW×U=>EG (U8 b.1) (Z (([],()),())) (Z (b,()))) (funext qC))
def k90(n:Nat):OC:=⟨90,⟨P48,K49,J,F90 n⟩,C90 n⟩
def F159:Nat->L aJ×U->O Y44:=λn b=>Z (b,())
def C159(n:Nat):bw prog 159 (⟨P50,K51,J,F159 n⟩:j0 sg):=PI [] trivial (Vr []) J n 10 159 P50 K51 (by kernel_rfl) (Eq.trans (by kernel_rfl:_=λb:L aJ×U=>EG (U8 b.1) (Z (([],()),())) (Z (b,()))) (funext qC))
def Zp(n:Nat):OC:=⟨159,⟨P50,K51,J,F159 n⟩,C159 n⟩
def F92:Nat->Int×U->DF:=
 λn b=>Z (b,())
def k92(n:Nat):OC:=⟨92,⟨P11,K2,J,F92 n⟩,cx [] [] n 10 92⟩
def DK(b:Y2×U)(g:Int×zh×U):aZ:=
 aT b.1.2.2.2.2.1 (ai g.1) aS
def KE(n:Nat)(h:Y44):Y46:=
 @iter (KS) (L aJ×U) (U) (Any) (λi=>ah (D.bM i.2.1 (aj h.1.1)) (aP (az i.2.1 i.1) (aP (ef (ai i.2.1) i.1) (ah (D.aH
 (aT i.1 (ai i.2.1) aB).1 5) (af (F92 n ((aT i.1 (ai i.2.1) aB).2,())) λj=>aP (az i.2.1 i.1) (aP (ef (ai i.2.1) i.1)
 (Z (LO.next (jP i.1 (ai i.2.1) (aJ.mk (aT i.1 (ai i.2.1) aB).1 j.1.1),D.add .i64 i.2.1 1,()))))) (Z (LO.next (i.1,D.add .i64
 i.2.1 1,())))))) (Z (LO.out 0 i))) n (h.1.1,0,())
def Al(m:Int×uN×U):aD:=
 aT m.2.1.2.2.2.1 (ai m.1) aF
def afm(n:Nat)(m:Int×uN×U)(r:KS)(v:KS):Rb:=
 aP (az m.1 m.2.1.2.2.2.1) (aP (ef (ai m.1) m.2.1.2.2.2.1) (Z (LO.next (D.add .i64 m.1 1,(m.2.1.1,m.2.1.2.1,m.2.1.2.2.1,jP
 m.2.1.2.2.2.1 (ai m.1) (aD.mk (Al m).1 r.1 v.1),()),()))))
def afl(n:Nat)(m:Int×uN×U)(r:KS)(v:L aJ×U):Rb:=
 aP (az m.1 m.2.1.2.2.2.1) (aP (ef (ai m.1) m.2.1.2.2.2.1) (Z (LO.next (D.add .i64 m.1 1,(m.2.1.1,m.2.1.2.1,m.2.1.2.2.1,jP
 m.2.1.2.2.2.1 (ai m.1) (aD.mk (Al m).1 r.1 v.1),()),()))))
def Yi(n:Nat)(m:Int×uN×U)(r:KS):Rb:=
 af (F159 n ((Al m).3,())) λs=>af (KE n s) λt=>LO.el t (λ_ v=>afm n m r v) (λ_ v=>afl n m r v) λ_ _=>Y
def afk(n:Nat)(m:Int×uN×U)(r:L aJ×U)(v:KS):Rb:=
 aP (az m.1 m.2.1.2.2.2.1) (aP (ef (ai m.1) m.2.1.2.2.2.1) (Z (LO.next (D.add .i64 m.1 1,(m.2.1.1,m.2.1.2.1,m.2.1.2.2.1,jP
 m.2.1.2.2.2.1 (ai m.1) (aD.mk (Al m).1 r.1 v.1),()),()))))
def afj(n:Nat)(m:Int×uN×U)(r:L aJ×U)(v:L aJ×U):Rb:=
 aP (az m.1 m.2.1.2.2.2.1) (aP (ef (ai m.1) m.2.1.2.2.2.1) (Z (LO.next (D.add .i64 m.1 1,(m.2.1.1,m.2.1.2.1,m.2.1.2.2.1,jP
 m.2.1.2.2.2.1 (ai m.1) (aD.mk (Al m).1 r.1 v.1),()),()))))
def Yh(n:Nat)(m:Int×uN×U)(r:L aJ×U):Rb:=
 af (F159 n ((Al m).3,())) λs=>af (KE n s) λt=>LO.el t (λ_ v=>afk n m r v) (λ_ v=>afj n m r v) λ_ _=>Y
def aa1(n:Nat)(b:Y2×U)(g:Int×zh×U)(k:KS):Y48:=
 af (F160 n ((DK b g).4,())) λl=>af (@iter (Int×uN×U) (U) (uN×U) (Any) (λm=>ah (D.bM m.1 (aj l.1.1)) (aP (az m.1
 m.2.1.2.2.2.1) (aP (ef (ai m.1) m.2.1.2.2.2.1) (af (F159 n ((Al m).2,())) λo=>af (KE n o) λp=>LO.el p (λ_ r=>Yi n m r)
 (λ_ r=>Yh n m r) λ_ _=>Y))) (Z (LO.out 0 m))) n (0,((DK b g).1,(DK b g).2,k.1,l.1),())) λm=>LO.el m (λ_ p=>aP
 (dR g.2.1.1 [aZ.mk p.2.1.1 p.2.1.2.1 p.2.1.2.2.1 p.2.1.2.2.2.1]) (Z (LO.next (D.add .i64 g.1 1,(dj g.2.1.1 [aZ.mk p.2.1.1 p.2.1.2.1
 p.2.1.2.2.1 p.2.1.2.2.2.1],g.2.1.2),())))) (λ_ _=>aP (dR g.2.1.1 [aS]) (Z (LO.next (D.add .i64 g.1 1,(dj g.2.1.1 [aS],
 g.2.1.2),())))) λ_ _=>Y
def aa0(n:Nat)(b:Y2×U)(g:Int×zh×U)(k:L aJ×U):Y48:=
 af (F160 n ((DK b g).4,())) λl=>af (@iter (Int×uN×U) (U) (uN×U) (Any) (λm=>ah (D.bM m.1 (aj l.1.1)) (aP (az m.1
 m.2.1.2.2.2.1) (aP (ef (ai m.1) m.2.1.2.2.2.1) (af (F159 n ((Al m).2,())) λo=>af (KE n o) λp=>LO.el p (λ_ r=>Yi n m r)
 (λ_ r=>Yh n m r) λ_ _=>Y))) (Z (LO.out 0 m))) n (0,((DK b g).1,(DK b g).2,k.1,l.1),())) λm=>LO.el m (λ_ p=>aP
 (dR g.2.1.1 [aZ.mk p.2.1.1 p.2.1.2.1 p.2.1.2.2.1 p.2.1.2.2.2.1]) (Z (LO.next (D.add .i64 g.1 1,(dj g.2.1.1 [aZ.mk p.2.1.1 p.2.1.2.1
 p.2.1.2.2.1 p.2.1.2.2.2.1],g.2.1.2),())))) (λ_ _=>aP (dR g.2.1.1 [aS]) (Z (LO.next (D.add .i64 g.1 1,(dj g.2.1.1 [aS],
 g.2.1.2),())))) λ_ _=>Y
def F51:Nat->Y2×U->O Y49:=
 λn b=>af (F49 n (b.1.2.2.2.2.2.1,())) λc=>af (F90 n (b.1.2.2.2.2.2.2.1,())) λd=>af (F49 n (b.1.2.2.2.2.2.2.2.1,())) λe=>af
 (@iter (Int×zh×U) (U) (zh×U) (Any) (λg=>ah (D.bM g.1 (aj b.1.2.2.2.2.1)) (aP (az g.1 b.1.2.2.2.2.1) (af (F159 n ((DK b
 g).3,())) λh=>af (KE n h) λi=>LO.el i (λ_ k=>aa1 n b g k) (λ_ k=>aa0 n b g k) λ_ _=>Y)) (Z (LO.out 0 g))) n
 (0,([],c.1.1,d.1.1,e.1.1,b.1.2.2.2.2.2.2.2.2),())) λg=>LO.el g (λ_ i=>Z ((ak.mk i.2.1.1 i.2.1.2.1 i.2.1.2.2.1 i.2.1.2.2.2.1
 i.2.1.2.2.2.2.1,()),b)) (λ_ _=>Z ((cm,()),b)) λ_ _=>Y
def k51(n:Nat):OC:=⟨51,⟨P52,K53,J,F51 n⟩,cx [k49 n,k90 n,k92 n,Zp n,Wi n] [(51,0,⟨[(36,cR),(0,.box (.cells [.own (.st 6),AH,HP,AH,kq]))],[.slot 3],[],0⟩),(91,0,⟨[(21,cR),(0,aaz)],[.slot 2],[(19,1002003)],0⟩),(158,0,⟨[(0,.one (.own (.st 4))),(10,cR)],[],[(8,0)],0⟩)] n 10 51⟩
def F14:Nat->Y29->O Ya:=
 λn b=>af (F46 n (b.1,())) λc=>ah (D.aK (D.aH c.1.1 0)) (Z ((cm,2,()),())) (af (F47 n b.2) λd=>ah (D.aK d.1.1)
 (Z ((cm,2,()),())) (aP (az b.1.3 b.1.2) (af (F48 n ()) λe=>af (F49 n b.2) λg=>af (F50 n ((b.1.1,b.1.2,b.1.3,b.1.4,
 [aZ.mk 6 0 [] [aD.mk (aT b.1.2 (ai b.1.3) 0) [e.1.1] []]],[0],[],g.1.1,0,()),0,())) λh=>ah (D.aK h.1.2.1) (Z
 ((cm,8,()),())) (af (F51 n h.2) λi=>Z ((i.1.1,0,()),())))))
def k14(n:Nat):OC:=⟨14,⟨P54,K55,J,F14 n⟩,cx [k46 n,k47 n,Wc n,k49 n,k50 n,k51 n] [] n 10 14⟩
def F211:Nat->bY×aJ×U->O fm:=
 λn b=>ah (D.aH b.2.1.1 1) (af (F69 n (b.2.1.2,(-1000000000),1000000000,())) λc=>Z c) (ah (D.aH b.2.1.1 2) (af (F69 n (b.2.1.2,0,
 1,())) λc=>Z c) (ah (D.aH b.2.1.1 3) (Z ((D.aH b.2.1.2 0,()),())) (ah (D.aH b.2.1.1 4) (af (F69 n (b.2.1.2,0,D.eD .i64 (aj
 b.1.1.2) 1,())) λc=>Z c) (ah (D.aH b.2.1.1 5) (af (F69 n (b.2.1.2,0,D.eD .i64 (aj b.1.2.1) 1,())) λc=>Z c) (Z ((J,
 ()),()))))))
def aco(n:Nat):OC:=⟨211,⟨P56,K4,J,F211 n⟩,cx [XL n] [] n 10 211⟩
def UE(n:Nat)(e:Int×U):fm->O QN:=
 λg=>ah (D.aK g.1.1) (Z (LO.ret () e)) (Z (LO.next (D.add .i64 e.1 1,())))
def UD(n:Nat)(b:aeH):O fm:=
 af (@iter (Int×U) (Int×U) (U) (Any) (λi=>ah (D.bM i.1 (aj b.2.1.3)) (aP (az i.1 b.2.1.3) (af (F211 n (b.1,aT b.2.1.3 (ai
 i.1) aB,())) (UE n i))) (Z (LO.out 0 i))) n (0,())) λi=>LO.el i (λ_ _=>Z ((D.aK J,()),())) (λ_ k=>Z
 ((D.aK (D.eu 0 k.1),()),())) λ_ _=>Y
def DM(n:Nat):O fm:=
 Z ((J,()),())
def F266:aeG:=
 λn b=>af (F69 n (b.2.1.1,0,D.eD .i64 (aj b.1.1.1) 1,())) λc=>ah c.1.1 (ah (D.eu (aj b.2.1.2) 30) (aP (az b.2.1.1 b.1.1.1)
 (af (F173 n (aT b.1.1.1 (ai b.2.1.1) aN,())) λd=>ah (D.eu (aj b.2.1.3) d.1.1) (af (@iter (Int×U) (Int×U) (U) (Any)
 (λe=>ah (D.bM e.1 (aj b.2.1.2)) (aP (az e.1 b.2.1.2) (af (F211 n (b.1,aT b.2.1.2 (ai e.1) aB,())) (UE n e))) (Z (LO.out
 0 e))) n (0,())) λe=>LO.el e (λ_ _=>ah (D.aK J) (UD n b) (DM n)) (λ_ h=>ah (D.aK (D.eu 0 h.1)) (UD n b) (DM
 n)) λ_ _=>Y) (DM n))) (DM n)) (DM n)
def agU(n:Nat):OC:=⟨266,⟨P57,K4,J,F266 n⟩,cx [XL n,Zn n,aco n] [(294,0,⟨[(8,cR)],[],[],0⟩)] n 10 266⟩
def F267:aeG:=
 λn b=>aP (az b.2.1.1 b.1.1.1) (af (F173 n (aT b.1.1.1 (ai b.2.1.1) aN,())) λc=>Z ((D.bM (aj b.2.1.3) c.1.1,()),()))
def agT(n:Nat):OC:=⟨267,⟨P57,K4,J,F267 n⟩,cx [Zn n] [] n 10 267⟩
def UJ(n:Nat)(c:Int×U):fm->O QN:=
 λd=>ah (D.aK d.1.1) (Z (LO.ret () c)) (Z (LO.next (D.add .i64 c.1 1,())))
def DO(b:aaG):L aD:=
 eZ b.2.1 0 (Cp 0 (D.eD .i64 (aj b.2.1) b.2.2.1))
def Ia(n:Nat)(b:aaG):O fm:=
 aP (iz 0 (Cp 0 (D.eD .i64 (aj b.2.1) b.2.2.1)) (aj b.2.1)) (af (@iter (Int×U) (Int×U) (U) (Any) (λg=>ah (D.bM g.1 (aj
 (DO b))) (aP (az g.1 (DO b)) (af (F267 n (b.1,aT (DO b) (ai g.1) aF,())) (UJ n g))) (Z (LO.out 0 g))) n (0,()))
 λg=>LO.el g (λ_ _=>Z ((D.aK J,()),())) (λ_ i=>Z ((D.aK (D.eu 0 i.1),()),())) λ_ _=>Y)
def F212:Nat->aaG->O fm:=
 λn b=>ah (D.eu (aj b.2.1) 40) (af (@iter (Int×U) (Int×U) (U) (Any) (λc=>ah (D.bM c.1 (aj b.2.1)) (aP (az c.1 b.2.1)
 (af (F266 n (b.1,aT b.2.1 (ai c.1) aF,())) (UJ n c))) (Z (LO.out 0 c))) n (0,())) λc=>LO.el c (λ_ _=>ah (D.aK J)
 (Ia n b) (Z ((J,()),()))) (λ_ e=>ah (D.aK (D.eu 0 e.1)) (Ia n b) (Z ((J,()),()))) λ_ _=>Y) (Z ((J,
 ()),()))
def acn(n:Nat):OC:=⟨212,⟨P58,K4,J,F212 n⟩,cx [agU n,agT n] [(310,0,⟨[(8,cR)],[],[],0⟩)] n 10 212⟩
def DN(n:Nat):O fm:=
 Z ((J,()),())
def H9(n:Nat)(b:Y76):O fm:=
 af (F212 n (b.1,b.2.1.4,D.eD .i64 1 (aj b.2.1.3),())) λc=>Z c
def F213:Y77:=
 λn b=>ah (D.aH b.2.1.2 0) (ah (D.bM 1 (aj b.2.1.3)) (DN n) (ah (D.aH (aj b.2.1.4) 0) (ah (D.aH (aj b.2.1.3) 0) (DN n)
 (H9 n b)) (H9 n b))) (ah (D.aH b.2.1.2 1) (ah (D.aH (aj b.2.1.3) 1) (Z ((D.aH (aj b.2.1.4) 0,()),())) (DN n)) (af (ah
 (D.aH b.2.1.2 2) (Z (LO.next (W,()))) (af (ah (D.aH b.2.1.2 3) (Z (LO.next (W,()))) (Z (LO.next (D.aH b.2.1.2 4,())))) λ(c :
 DE)=>LO.jn c (λd=>Z (LO.next d)) (λ_ _=>Y) (λ_ e=>Z (LO.ret () e)) λ_ _=>Y)) λ(c:DE)=>LO.jn c (λd=>ah
 d.1 (ah (D.aH (aj b.2.1.3) 0) (Z ((D.aH (aj b.2.1.4) 0,()),())) (DN n)) (DN n)) (λ_ _=>Y) (λ_ e=>Z (e,())) λ_ _
 =>Y))
def ahq(n:Nat):OC:=⟨213,⟨P59,K4,J,F213 n⟩,cx [acn n] [(213,1000009,⟨[(45,cV)],[],[],0⟩),(213,1000010,⟨[(45,cV)],[],[],0⟩)] n 10 213⟩
def jB(n:Nat):O fm:=
 Z ((J,()),())
def Ib(n:Nat)(b:Y76):O fm:=
 ah (D.aH b.2.1.1 1) (ah (D.aH (aj b.2.1.4) 0) (af (F69 n (b.2.1.2,0,D.eD .i64 (aj b.1.1.4) 1,())) λg=>ah g.1.1 (aP (az b.2.1.2
 b.1.1.4) (Z ((D.aH (aj b.2.1.3) (aT b.1.1.4 (ai b.2.1.2) bu).2,()),()))) (jB n)) (jB n)) (ah (D.aH b.2.1.1 2) (ah (D.aH
 (aj b.2.1.4) 0) (af (F69 n (b.2.1.2,0,D.eD .i64 (aj b.1.1.1) 1,())) λg=>ah g.1.1 (aP (az b.2.1.2 b.1.1.1) (ah (D.aH (aT b.1.1.1
 (ai b.2.1.2) aN).1 5) (Z ((D.eu (aj b.2.1.3) 30,()),())) (jB n))) (jB n)) (jB n)) (ah (D.aH b.2.1.1 3) (ah (D.aH (aj
 b.2.1.4) 0) (ah (D.aH b.2.1.2 0) (Z ((D.aH (aj b.2.1.3) 1,()),())) (jB n)) (jB n)) (ah (D.aH b.2.1.1 4) (ah (D.aH (aj b.2.1.4)
 0) (ah (D.aH b.2.1.2 0) (Z ((D.eu (aj b.2.1.3) 4,()),())) (jB n)) (jB n)) (ah (D.aH b.2.1.1 5) (ah (D.aH b.2.1.2 0) (ah (D.aH
 (aj b.2.1.3) 0) (ah (D.bM 0 (aj b.2.1.4)) (af (F212 n (b.1,b.2.1.4,0,())) λg=>ah g.1.1 (aP (az 0 b.2.1.4) (aP (az (aT b.2.1.4
 (ai 0) aF).1 b.1.1.1) (Z ((D.aH (aT b.1.1.1 (ai (aT b.2.1.4 (ai 0) aF).1) aN).1 26,()),())))) (jB n)) (jB
 n)) (jB n)) (jB n)) (ah (D.aH b.2.1.1 6) (af (F213 n b) λg=>Z g) (jB n))))))
def F163:Y77:=
 λn b=>af (@iter (Int×U) (Int×U) (U) (Any) (λc=>ah (D.bM c.1 (aj b.2.1.3)) (aP (az c.1 b.2.1.3) (af (F211 n (b.1,aT
 b.2.1.3 (ai c.1) aB,())) λd=>ah (D.aK d.1.1) (Z (LO.ret () c)) (Z (LO.next (D.add .i64 c.1 1,()))))) (Z (LO.out 0 c))) n (0,
 ())) λc=>LO.el c (λ_ _=>ah (D.aK (D.aK J)) (jB n) (Ib n b)) (λ_ e=>ah (D.aK (D.aK (D.eu 0 e.1))) (jB n)
 (Ib n b)) λ_ _=>Y
def ahH(n:Nat):OC:=⟨163,⟨P59,K4,J,F163 n⟩,cx [XL n,aco n,acn n,ahq n] [(294,0,⟨[(8,cR)],[],[],0⟩)] n 10 163⟩
def zn(b:bY×U)(c:aey):Int:=
 aT b.1.2.2 (ai c.1) 0
def DP(n:Nat)(j:Int×U):O QN:=
 Z (LO.next (D.add .i64 j.1 1,()))
def UK(n:Nat):QN->O fm:=
 λj=>LO.el j (λ_ _=>Z ((D.aK J,()),())) (λ_ l=>Z ((D.aK (D.eu 0 l.1),()),())) λ_ _=>Y
def F164:aeC:=
 λn b=>af (@iter (aey) (Bool×U) (L (Int×Bool)×U) (Any) (λc=>ah (D.bM c.1 (aj b.1.2.2)) (aP (az c.1 b.1.2.2) (af (F69
 n (zn b c,0,D.eD .i64 (aj b.1.2.1) 1,())) λd=>ah (D.aK d.1.1) (Z (LO.ret c.2 (J,()))) (aP (az (zn b c) b.1.2.1) (ah
 (D.aK (D.aH (aT b.1.2.1 (ai (zn b c)) aS).1 6)) (Z (LO.ret c.2 (J,()))) (ah (Ct (A:=sg.A) (Ty.int .i64) J (zn b c)
 c.2.1) (Z (LO.ret c.2 (J,()))) (Z (LO.next (D.add .i64 c.1 1,lz (A:=sg.A) (Ty.int .i64) (zn b c) W c.2.1,())))))))) (Z
 (LO.out 0 c))) n (0,[],())) λc=>LO.el c (λ_ e=>af (@iter (Int×(L Int×U)×U) (U) (Y18) (Any) (λg=>ah (D.bM g.1
 (aj b.1.2.1)) (aP (dR g.2.1.1 [g.1]) (Z (LO.next (D.add .i64 g.1 1,(dj g.2.1.1 [g.1],()),())))) (Z (LO.out 0 g))) n (0,([],()),()))
 λg=>LO.el g (λ_ i=>af (@iter (Int×U) (Int×U) (U) (Any) (λj=>ah (D.bM j.1 (aj i.2.1.1)) (aP (az j.1 i.2.1.1) (aP
 (ef (ai j.1) i.2.1.1) (ah (Ct (A:=sg.A) (Ty.int .i64) J (aT i.2.1.1 (ai j.1) 0) e.2.1) (DP n j) (aP (az (aT i.2.1.1 (ai j.1)
 0) b.1.2.1) (ah (D.aK (D.aK (D.aH (aT b.1.2.1 (ai (aT i.2.1.1 (ai j.1) 0)) aS).1 6))) (Z (LO.ret () j)) (DP n j)))))) (Z
 (LO.out 0 j))) n (0,())) (UK n)) (λh _=>af (@iter (Int×U) (Int×U) (U) (Any) (λj=>ah (D.bM j.1 (aj h.1.1)) (aP (az
 j.1 h.1.1) (aP (ef (ai j.1) h.1.1) (ah (Ct (A:=sg.A) (Ty.int .i64) J (aT h.1.1 (ai j.1) 0) e.2.1) (DP n j) (aP (az (aT h.1.1
 (ai j.1) 0) b.1.2.1) (ah (D.aK (D.aK (D.aH (aT b.1.2.1 (ai (aT h.1.1 (ai j.1) 0)) aS).1 6))) (Z (LO.ret () j)) (DP n j))))))
 (Z (LO.out 0 j))) n (0,())) (UK n)) λ_ _=>Y) (λ_ e=>Z (e,())) λ_ _=>Y
def ahG(n:Nat):OC:=⟨164,⟨P60,K4,J,F164 n⟩,cx [XL n] [(164,0,⟨[(13,cR),(0,.box (.map (.int .i64) (.bool)))],[.cell (.slot 3) 0],[],0⟩),(207,0,⟨[(8,cR)],[],[],0⟩),(269,0,⟨[(5,cR),(0,ED)],[.Pe (.slot 0) 2],[],0⟩)] n 10 164⟩
def F166:Nat->dW×U->O fm:=
 λn b=>af (F69 n (b.1.1,0,3,())) λc=>ah c.1.1 (af (F69 n (b.1.2,(-1000000000),1000000000,())) λd=>Z d) (Z ((J,()),
 ()))
def ahF(n:Nat):OC:=⟨166,⟨P61,K4,J,F166 n⟩,cx [XL n] [] n 10 166⟩
def vA(n:Nat):O fm:=
 Z ((J,()),())
def Kx(n:Nat)(b:bY×U):O fm:=
 af (F47 n (b.1.2.4,())) λk=>ah k.1.1 (af (F69 n (b.1.2.5,0,1000000000,())) λl=>Z l) (vA n)
def Ag(n:Nat)(b:bY×U):O fm:=
 af (F164 n b) λg=>ah g.1.1 (ah (D.eu (aj b.1.2.3) 100) (af (@iter (Int×U) (Int×U) (U) (Any) (λh=>ah (D.bM h.1 (aj
 b.1.2.3)) (aP (az h.1 b.1.2.3) (af (F166 n (aT b.1.2.3 (ai h.1) eg,())) λi=>ah (D.aK i.1.1) (Z (LO.ret () h)) (Z (LO.next
 (D.add .i64 h.1 1,()))))) (Z (LO.out 0 h))) n (0,())) λh=>LO.el h (λ_ _=>ah (D.aK J) (Kx n b) (vA n)) (λ_ j=>ah
 (D.aK (D.eu 0 j.1)) (Kx n b) (vA n)) λ_ _=>Y) (vA n)) (vA n)
def F99:aeC:=
 λn b=>ah (D.eu (aj b.1.2.1) 120) (af (@iter (Int×U) (Int×U) (U) (Any) (λc=>ah (D.bM c.1 (aj b.1.2.1)) (aP (az c.1
 b.1.2.1) (af (F163 n (b.1,aT b.1.2.1 (ai c.1) aS,())) λd=>ah (D.aK d.1.1) (Z (LO.ret () c)) (Z (LO.next (D.add .i64 c.1 1,
 ()))))) (Z (LO.out 0 c))) n (0,())) λc=>LO.el c (λ_ _=>ah (D.aK J) (Ag n b) (vA n)) (λ_ e=>ah (D.aK (D.eu 0 e.1))
 (Ag n b) (vA n)) λ_ _=>Y) (vA n)
def k99(n:Nat):OC:=⟨99,⟨P60,K4,J,F99 n⟩,cx [k47 n,XL n,ahH n,ahG n,ahF n] [(262,0,⟨[(8,cR)],[],[],0⟩),(270,0,⟨[(8,cR)],[],[],0⟩)] n 10 99⟩
def F110:Nat->bY×Int×U->DF:=
 λn b=>af (F70 n ((b.1.1.1,b.1.1.2,b.1.1.3,b.1.1.4,b.1.2.1,b.1.2.2,b.1.2.3,b.1.2.4,b.1.2.5,()),b.2)) λc=>af (F71 n c.1) λd=>
 Z d
def ahW(n:Nat):OC:=⟨110,⟨P62,K2,J,F110 n⟩,cx [k70 n,k71 n] [] n 10 110⟩
def F68:Nat->Y2×U->O ((L Int×U)×Y2×U):=
 λn b=>af (@iter (MK) (L Int×U) (U) (Any) (λc=>ah (D.bM c.2.1 (aj b.1.2.2.2.2.2.1)) (af (F110 n (bY.mk (av.mk
 b.1.1 b.1.2.1 b.1.2.2.1 b.1.2.2.2.1) (ak.mk b.1.2.2.2.2.1 b.1.2.2.2.2.2.1 b.1.2.2.2.2.2.2.1 b.1.2.2.2.2.2.2.2.1 b.1.2.2.2.2.2.2.2.2.1),c.2))
 λd=>ah (D.aK (D.aH d.1.1 2)) (aP (dR c.1 [c.2.1]) (Z (LO.next (dj c.1 [c.2.1],D.add .i64 c.2.1 1,())))) (Z (LO.next (c.1,D.add .i64
 c.2.1 1,())))) (Z (LO.out 0 c))) n ([],0,())) λc=>LO.el c (λ_ e=>Z ((e.1,()),b)) (λ_ e=>Z (e,b)) λ_ _=>Y
def k68(n:Nat):OC:=⟨68,⟨P52,K63,J,F68 n⟩,cx [ahW n] [(68,0,⟨[(3,.one (.own (.int .i64))),(11,cR)],[],[],0⟩)] n 10 68⟩
def F335:Nat->g6×U->O Y39:=
 λn _=>Z ((eG,()),())
def agC(n:Nat):OC:=⟨335,⟨akC,K24,J,F335 n⟩,cx [] [] n 10 335⟩
def F336:Nat->fY×U->O Y39:=
 λn b=>Z ((b.1.1,()),())
def agB(n:Nat):OC:=⟨336,⟨akB,K24,J,F336 n⟩,cx [] [] n 10 336⟩
def F337:Nat->iC×U->O Y39:=
 λn _=>Z ((eG,()),())
def agA(n:Nat):OC:=⟨337,⟨akA,K24,J,F337 n⟩,cx [] [] n 10 337⟩
def Uv(n:Nat)(c:aaM):aaL:=
 Z ((eG,0,8,()),c.2)
def Ak:L (Nat×Ty):=
 [(170,Ty.st 12),(173,Ty.st 13),(175,Ty.st 14),(181,Ty.st 15)]
def OK(n:Nat)(i:aaM):Y39->aaL:=
 λj=>Z ((j.1.1,i.1.1,0,()),i.2)
def F59:Nat->Y2×Int×U->aaL:=
 λn b=>af (F50 n (b.1,0,())) λc=>ah (D.aK c.1.2.1) (Uv n c) (af (F68 n c.2) λd=>ah (D.aH (aj d.1.1) 0) (Z ((eG,
 0,5,()),d.2)) (aP (nzI (aj d.1.1)) (af (ah (D.bM (D.rem b.2.1 (aj d.1.1)) 0) (Z (LO.next (D.add .i64 (D.rem b.2.1 (aj d.1.1)) (aj
 d.1.1),W,()))) (Z (LO.next (D.rem b.2.1 (aj d.1.1),J,())))) λ(e:LO (Int×Bool×U) (Int×Int×U) U Any)=>LO.jn e
 (λg=>aP (az g.1 d.1.1) (af (F70 n (d.2.1,aT d.1.1 (ai g.1) 0,())) λh=>af (F50 n (h.2.1,D.add .i64 c.1.1 1,())) λi=>ah
 (D.aK i.1.2.1) (Uv n i) (ah (D.bM 5000 i.1.1) (Uv n i) (ah (g9 Ak 0 (eB 16 h.1.1)) (af (F335 n (iX (Sg.zero sg) Ak 0 (eB
 16 h.1.1),())) (OK n i)) (ah (g9 Ak 1 (eB 16 h.1.1)) (af (F336 n (iX (Sg.zero sg) Ak 1 (eB 16 h.1.1),())) (OK n i)) (ah
 (g9 Ak 2 (eB 16 h.1.1)) (af (F114 n (iX (Sg.zero sg) Ak 2 (eB 16 h.1.1),())) (OK n i)) (ah (g9 Ak 3 (eB 16 h.1.1))
 (af (F337 n (iX (Sg.zero sg) Ak 3 (eB 16 h.1.1),())) (OK n i)) Y))))))) (λ_ _=>Y) (λ_ h=>Z ((eG,h),d.2))
 λ_ _=>Y)))
def k59(n:Nat):OC:=⟨59,⟨P46,K64,J,F59 n⟩,cx [k50 n,k68 n,k70 n,acy n,agC n,agB n,agA n] [(59,1000009,⟨[(10,cR),(31,cV)],[],[],0⟩)] n 10 59⟩
def UI(n:Nat):O Y78:=
 Z ((cm,[],2,()),())
def F21:ako:=
 λn b=>af (F46 n (b.1,())) λc=>ah (D.aK (D.aH c.1.1 0)) (UI n) (af (F99 n (bY.mk b.1 b.2.1,())) λd=>ah (D.aK d.1.1)
 (UI n) (ah (D.bM 200 (aj b.2.2.1)) (UI n) (af (F50 n ((b.1.1,b.1.2,b.1.3,b.1.4,b.2.1.1,b.2.1.2,b.2.1.3,b.2.1.4,b.2.1.5,()),0,()))
 λe=>ah (D.aK e.1.2.1) (Z ((cm,[],8,()),())) (af (@iter (L bL×Int×zh×Y2×U) (akn) (zh×Y2×U) (Any)
 (λg=>ah (D.bM g.2.1 (aj b.2.2.1)) (aP (az g.2.1 b.2.2.1) (af (F59 n (g.2.2.2.1,aT b.2.2.1 (ai g.2.1) 0,())) λh=>ah (D.aH
 h.1.2.2.1 5) (Z (LO.out 0 (g.1,g.2.1,([],[],[],[],g.2.2.1.2.2.2.2),h.2))) (ah (D.aK (D.aH h.1.2.2.1 0)) (Z (LO.ret (([],[],[],[],
 0,()),h.2) ([],h.1.2.2))) (aP (dR g.1 [h.1.1]) (Z (LO.next (dj g.1 [h.1.1],D.add .i64 g.2.1 1,([],[],[],[],g.2.2.1.2.2.2.2),
 h.2))))))) (Z (LO.out 0 (g.1,g.2.1,([],[],[],[],g.2.2.1.2.2.2.2),g.2.2.2)))) n ([],0,([],[],[],[],0,()),e.2)) λg=>LO.el g (λ_
 i=>af (F51 n i.2.2.2) λj=>Z ((j.1.1,i.1,0,()),())) (λh i=>Z ((ak.mk [] [] [] [] h.1.2.2.2.2.1,i),())) λ_ _=>
 Y))))
def k21(n:Nat):OC:=⟨21,⟨P65,K66,J,F21 n⟩,cx [k46 n,k50 n,k51 n,k59 n,k99 n] [(21,0,⟨[(13,.one (.own (.st 9))),(43,cR),(0,.box (.cells [.nil (.st 6),.nil (.int .i64),.nil (.st 7),.nil (.int .i64),kq])),(0,b2z)],[.slot 6,.slot 23],[],0⟩)] n 10 21⟩
def F25:aeN:=
 λn b=>Z ((aJ.mk 1 b.1,()),())
def k25(n:Nat):OC:=⟨25,⟨P11,K17,J,F25 n⟩,cx [] [] n 10 25⟩
abbrev E60(n:Nat):fA sg:=⟨Ew,Gm [k49 n,k90 n,Zp n,Wi n],Vr [(60,0,⟨[(24,cR),(0,HO),(0,ED)],[.cell (.slot 3) 0,.slot 4],[],0⟩),(60,2,⟨[(8,cR),(0,HO),(0,ED)],[.cell (.slot 3) 0,.slot 4],[],0⟩),(60,6,⟨[(75,cR),(0,b6z)],[.slot 11],[],0⟩),(60,8,⟨[(101,cR),(0,b6z)],[.slot 11],[],0⟩),(91,0,⟨[(21,cR),(0,aaz)],[.slot 2],[(19,1002003)],0⟩),(158,0,⟨[(0,.one (.own (.st 4))),(10,cR)],[],[(8,0)],0⟩),(167,0,⟨[(15,cR),(0,HO),(0,ED)],[.cell (.cap (.cell (.Pe (.cell (.slot 2) 0) 5) 0) 0) 0,.cap (.cell (.Pe (.cell (.slot 2) 0) 5) 0) 1],[],0⟩)],J,cjL [(167,⟨[(0,Xe),(0,HO),(0,ED)],[.slot 1,.cell (.cap (.cell (.Pe (.slot 0) 5) 0) 0) 0,.cap (.cell (.Pe (.slot 0) 5) 0) 1],[.slot 0,.Pe (.slot 0) 5,.cap (.cell (.Pe (.slot 0) 5) 0) 0],[]⟩),(168,⟨[(0,.one (oL)),(0,HO),(0,ED)],[.cell (.cap (.cell (.Pe (.cell (.slot 1) 0) 5) 0) 0) 0,.cap (.cell (.Pe (.cell (.slot 1) 0) 5) 0) 1],[.slot 1,.cell (.slot 1) 0,.Pe (.cell (.slot 1) 0) 5,.cap (.cell (.Pe (.cell (.slot 1) 0) 5) 0) 0,.slot 2],[.dat .bool]⟩)]⟩
def Xr:Nat->Nat->uN×L (Int×Int)×(L Int×U)×U->O (U×uN×L (Int×Int)×(L Int×U)×U):=λn a x=>Vw (Ad (E60 n) n a) 167 [(0,Xe),(0,HO),(0,ED)] [] [9,2,4] [11,5,3] (WT ([9,2,4]++[11,5,3]) [(0,Xe),(0,HO),(0,ED)] (TB [.pz 11,.ptr 9 0])) (stJ [9,2,4] [11,5,3] ⟨trL [(11,lpR 60 115 [50] (rgN (RG (X6 60)) 0) [(5,.ptr 5 0)]),(5,.box [.fn (.func 100) [] [.ptr 3 0,.ptr 4 0]]),(3,.box [.mp 2])],0,0,0,[],[]⟩) x
def AN:Nat->Nat->L aJ×L (Int×Int)×(L Int×U)×U->O ((Bool×U)×L (Int×Int)×(L Int×U)×U):=λn a x=>Vw (Ad (E60 n) n a) 168 [(0,.one (oL)),(0,HO),(0,ED)] [.dat .bool] [2,4] [13,11,5,3,14] (WT ([2,4]++[13,11,5,3,14]) [(0,.one (oL)),(0,HO),(0,ED)] (TB [.emp,.ptr 13 0,.ptr 14 0])) (stJ [2,4] [13,11,5,3,14] ⟨trL [(11,lpR 60 115 [50] (rgN (RG (X6 60)) 0) [(5,.ptr 5 0)]),(5,.box [.fn (.func 100) [] [.ptr 3 0,.ptr 4 0]]),(3,.box [.mp 2]),(13,.box [.pz 11]),(14,.box [.fn (.func 168) [] [.ptr 13 0,.ptr 14 0]])],0,0,0,[],[]⟩) x
def B167:Nat->Nat->uN×L (Int×Int)×(L Int×U)×U->O (U×uN×L (Int×Int)×(L Int×U)×U):=
 λn a c=>af (AN n a (c.1.2.2.1,c.2)) λd=>ah (D.aK d.1.1) (Z ((),c.1,d.2)) (af (@iter (Ua) (U) (Y42) (Any) (λe=>ah
 (D.bM e.1 (aj c.1.2.2.2.1)) (aP (az e.1 c.1.2.2.2.1) (af (AN n a ((aT c.1.2.2.2.1 (ai e.1) aF).2,e.2)) λg=>ah (D.aK
 g.1.1) (Z (LO.ret g.2 ())) (af (AN n a ((aT c.1.2.2.2.1 (ai e.1) aF).3,g.2)) λh=>ah (D.aK h.1.1) (Z (LO.ret h.2 ()))
 (Z (LO.next (D.add .i64 e.1 1,h.2)))))) (Z (LO.out 0 e))) n (0,d.2)) λe=>LO.el e (λ_ h=>Z ((),c.1,h.2)) (λg _=>Z ((),
 c.1,g)) λ_ _=>Y)
def Xq(n a:Nat):Xr n (a+1)=B167 n a:=by kernel_rfl
def B168:Nat->Nat->L aJ×L (Int×Int)×(L Int×U)×U->O ((Bool×U)×L (Int×Int)×(L Int×U)×U):=
 λn a c=>ah (D.aH (aj c.1) 0) (Z ((W,()),c.2)) (aP (az 0 c.1) (ah (D.aK (D.aH (aT c.1 (ai 0) aB).1 5)) (aP (iz 1
 (aj c.1) (aj c.1)) (af (AN n (a+2) (eZ c.1 1 (aj c.1),c.2)) λd=>Z d)) (aP (az 0 c.1) (ah (D.aK (yT (A:=sg.A) (Ty.int .i64)
 (aT c.1 (ai 0) aB).2 c.2.1)) (aP (dR c.2.2.1.1 [(aT c.1 (ai 0) aB).2]) (aP (iz 1 (aj c.1) (aj c.1)) (af (AN n (a+2) (eZ
 c.1 1 (aj c.1),lz (A:=sg.A) (Ty.int .i64) (aT c.1 (ai 0) aB).2 (aj c.2.2.1.1) c.2.1,(dj c.2.2.1.1 [(aT c.1 (ai 0) aB).2],
 ()),())) λd=>Z d))) (aP (iz 1 (aj c.1) (aj c.1)) (af (AN n (a+2) (eZ c.1 1 (aj c.1),c.2)) λd=>Z d))))))
def OF(n a:Nat):AN n (a+3)=B168 n a:=by kernel_rfl
def KD(c:Y2×U)(d:Ua):Int:=
 aT c.1.2.2.2.2.2.1 (ai d.1) 0
def yg(c:Y2×U)(h:Ua):aZ:=
 aT c.1.2.2.2.2.1 (ai (aT h.2.2.1.1 (ai h.1) 0)) aS
def Aj(c:Y2×U)(j:Ua)(m:Int×zh×U):aZ:=
 aT c.1.2.2.2.2.1 (ai (aT j.2.2.1.1 (ai m.1) 0)) aS
def tO(n:Nat)(j:Ua)(o:Y44):Y46:=
 @iter (KS) (L aJ×U) (U) (Any) (λp=>ah (D.bM p.2.1 (aj o.1.1)) (aP (az p.2.1 p.1) (aP (ef (ai p.2.1) p.1) (ah (D.aH
 (aT p.1 (ai p.2.1) aB).1 5) (aP (az p.2.1 p.1) (aP (ef (ai p.2.1) p.1) (Z (LO.next (jP p.1 (ai p.2.1) (aJ.mk (aT p.1
 (ai p.2.1) aB).1 (Ct (A:=sg.A) (Ty.int .i64) 0 (aT p.1 (ai p.2.1) aB).2 j.2.1)),D.add .i64 p.2.1 1,()))))) (Z (LO.next (p.1,
 D.add .i64 p.2.1 1,())))))) (Z (LO.out 0 p))) n (o.1.1,0,())
def vD(t:Int×uN×U):aD:=
 aT t.2.1.2.2.2.1 (ai t.1) aF
def Ut(n:Nat)(t:Int×uN×U)(x:KS)(a:KS):Rb:=
 aP (az t.1 t.2.1.2.2.2.1) (aP (ef (ai t.1) t.2.1.2.2.2.1) (Z (LO.next (D.add .i64 t.1 1,(t.2.1.1,t.2.1.2.1,t.2.1.2.2.1,jP
 t.2.1.2.2.2.1 (ai t.1) (aD.mk (vD t).1 x.1 a.1),()),()))))
def Yg(n:Nat)(t:Int×uN×U)(x:KS)(a:L aJ×U):Rb:=
 aP (az t.1 t.2.1.2.2.2.1) (aP (ef (ai t.1) t.2.1.2.2.2.1) (Z (LO.next (D.add .i64 t.1 1,(t.2.1.1,t.2.1.2.1,t.2.1.2.2.1,jP
 t.2.1.2.2.2.1 (ai t.1) (aD.mk (vD t).1 x.1 a.1),()),()))))
def KC(n:Nat)(j:Ua)(t:Int×uN×U)(x:KS):Rb:=
 af (F159 n ((vD t).3,())) λy=>af (tO n j y) λz=>LO.el z (λ_ a=>Ut n t x a) (λ_ a=>Yg n t x a) λ_ _=>Y
def afi(n:Nat)(t:Int×uN×U)(x:L aJ×U)(a:KS):Rb:=
 aP (az t.1 t.2.1.2.2.2.1) (aP (ef (ai t.1) t.2.1.2.2.2.1) (Z (LO.next (D.add .i64 t.1 1,(t.2.1.1,t.2.1.2.1,t.2.1.2.2.1,jP
 t.2.1.2.2.2.1 (ai t.1) (aD.mk (vD t).1 x.1 a.1),()),()))))
def aaZ(n:Nat)(t:Int×uN×U)(x:L aJ×U)(a:L aJ×U):Rb:=
 aP (az t.1 t.2.1.2.2.2.1) (aP (ef (ai t.1) t.2.1.2.2.2.1) (Z (LO.next (D.add .i64 t.1 1,(t.2.1.1,t.2.1.2.1,t.2.1.2.2.1,jP
 t.2.1.2.2.2.1 (ai t.1) (aD.mk (vD t).1 x.1 a.1),()),()))))
def HU(n:Nat)(j:Ua)(t:Int×uN×U)(x:L aJ×U):Rb:=
 af (F159 n ((vD t).3,())) λy=>af (tO n j y) λz=>LO.el z (λ_ a=>afi n t x a) (λ_ a=>aaZ n t x a) λ_ _=>Y
def MS(n:Nat)(c:Y2×U)(j:Ua)(m:Int×zh×U)(r:KS):Y48:=
 af (F160 n ((Aj c j m).4,())) λs=>af (@iter (Int×uN×U) (U) (uN×U) (Any) (λt=>ah (D.bM t.1 (aj s.1.1)) (aP (az
 t.1 t.2.1.2.2.2.1) (aP (ef (ai t.1) t.2.1.2.2.2.1) (af (F159 n ((vD t).2,())) λu=>af (tO n j u) λv=>LO.el v (λ_ x=>KC n
 j t x) (λ_ x=>HU n j t x) λ_ _=>Y))) (Z (LO.out 0 t))) n (0,((Aj c j m).1,(Aj c j m).2,r.1,s.1),())) λt=>LO.el t
 (λ_ v=>aP (dR m.2.1.1 [aZ.mk v.2.1.1 v.2.1.2.1 v.2.1.2.2.1 v.2.1.2.2.2.1]) (Z (LO.next (D.add .i64 m.1 1,(dj m.2.1.1 [aZ.mk
 v.2.1.1 v.2.1.2.1 v.2.1.2.2.1 v.2.1.2.2.2.1],m.2.1.2),())))) (λ_ _=>aP (dR m.2.1.1 [aS]) (Z (LO.next (D.add .i64 m.1 1,(dj
 m.2.1.1 [aS],m.2.1.2),())))) λ_ _=>Y
def Uu(n:Nat)(c:Y2×U)(j:Ua)(m:Int×zh×U)(r:L aJ×U):Y48:=
 af (F160 n ((Aj c j m).4,())) λs=>af (@iter (Int×uN×U) (U) (uN×U) (Any) (λt=>ah (D.bM t.1 (aj s.1.1)) (aP (az
 t.1 t.2.1.2.2.2.1) (aP (ef (ai t.1) t.2.1.2.2.2.1) (af (F159 n ((vD t).2,())) λu=>af (tO n j u) λv=>LO.el v (λ_ x=>KC n
 j t x) (λ_ x=>HU n j t x) λ_ _=>Y))) (Z (LO.out 0 t))) n (0,((Aj c j m).1,(Aj c j m).2,r.1,s.1),())) λt=>LO.el t
 (λ_ v=>aP (dR m.2.1.1 [aZ.mk v.2.1.1 v.2.1.2.1 v.2.1.2.2.1 v.2.1.2.2.2.1]) (Z (LO.next (D.add .i64 m.1 1,(dj m.2.1.1 [aZ.mk
 v.2.1.1 v.2.1.2.1 v.2.1.2.2.1 v.2.1.2.2.2.1],m.2.1.2),())))) (λ_ _=>aP (dR m.2.1.1 [aS]) (Z (LO.next (D.add .i64 m.1 1,(dj
 m.2.1.1 [aS],m.2.1.2),())))) λ_ _=>Y
def MR(c:Y2×U)(q:Int×zh×U):Int:=
 aT c.1.2.2.2.2.2.1 (ai q.1) 0
def G60:Nat->Nat->Y2×U->O Y49:=
 λn a c=>af (@iter (Ua) (U) (Y42) (Any) (λd=>ah (D.bM d.1 (aj c.1.2.2.2.2.2.1)) (aP (az d.1 c.1.2.2.2.2.2.1) (ah (D.aK (yT
 (A:=sg.A) (Ty.int .i64) (KD c d) d.2.1)) (aP (dR d.2.2.1.1 [KD c d]) (Z (LO.next (D.add .i64 d.1 1,lz (A:=sg.A) (Ty.int .i64) (KD
 c d) (aj d.2.2.1.1) d.2.1,(dj d.2.2.1.1 [KD c d],()),())))) (Z (LO.next (D.add .i64 d.1 1,d.2))))) (Z (LO.out 0 d))) n (0,[],([],
 ()),())) λd=>LO.el d (λ_ g=>af (@iter (Ua) (U) (Y42) (Any) (λh=>ah (D.bM h.1 (aj h.2.2.1.1)) (aP (az h.1 h.2.2.1.1) (aP
 (ef (ai h.1) h.2.2.1.1) (aP (az (aT h.2.2.1.1 (ai h.1) 0) c.1.2.2.2.2.1) (af (Xr n (a+10) (((yg c h).1,(yg c h).2,(yg c h).3,
 (yg c h).4,()),h.2)) λi=>Z (LO.next (D.add .i64 h.1 1,i.2.2)))))) (Z (LO.out 0 h))) n (0,g.2)) λh=>LO.el h (λ_ j=>af (F90
 n (c.1.2.2.2.2.2.2.1,())) λk=>af (F49 n (c.1.2.2.2.2.2.2.2.1,())) λl=>af (@iter (Int×zh×U) (U) (zh×U) (Any) (λm=>
 ah (D.bM m.1 (aj j.2.2.1.1)) (aP (az m.1 j.2.2.1.1) (aP (ef (ai m.1) j.2.2.1.1) (aP (az (aT j.2.2.1.1 (ai m.1) 0) c.1.2.2.2.2.1) (af
 (F159 n ((Aj c j m).3,())) λo=>af (tO n j o) λp=>LO.el p (λ_ r=>MS n c j m r) (λ_ r=>Uu n c j m r) λ_ _=>
 Y)))) (Z (LO.out 0 m))) n (0,([],[],k.1.1,l.1.1,c.1.2.2.2.2.2.2.2.2),())) λm=>LO.el m (λ_ p=>af (@iter (Int×zh×U) (U)
 (zh×U) (Any) (λq=>ah (D.bM q.1 (aj c.1.2.2.2.2.2.1)) (aP (az q.1 c.1.2.2.2.2.2.1) (aP (dR q.2.1.2.1 [Ct (A:=sg.A) (Ty.int .i64)
 0 (MR c q) j.2.1]) (Z (LO.next (D.add .i64 q.1 1,(q.2.1.1,dj q.2.1.2.1 [Ct (A:=sg.A) (Ty.int .i64) 0 (MR c q) j.2.1],q.2.1.2.2),
 ()))))) (Z (LO.out 0 q))) n (0,p.2)) λq=>LO.el q (λ_ s=>Z ((ak.mk s.2.1.1 s.2.1.2.1 s.2.1.2.2.1 s.2.1.2.2.2.1 s.2.1.2.2.2.2.1,
 ()),c)) (λ_ _=>Z ((cm,()),c)) λ_ _=>Y) (λ_ _=>Z ((cm,()),c)) λ_ _=>Y) (λ_ _=>Z
 ((cm,()),c)) λ_ _=>Y) (λ_ _=>Z ((cm,()),c)) λ_ _=>Y
def F60(n:Nat):Fn P52 K53 J:=G60 n n
def k60(n:Nat):OC:=⟨60,⟨P52,K53,J,F60 n⟩,ab2 [k49 n,k90 n,Zp n,Wi n] (E60 n).sh (E60 n).cj n (n+10) 60⟩
def F28:Nat->Y17->O Ya:=
 λn b=>af (F46 n (b.1,())) λc=>ah (D.aK (D.aH c.1.1 0)) (Z ((cm,2,()),())) (af (F99 n (bY.mk b.1 b.2.1,())) λ
 d=>ah (D.aK d.1.1) (Z ((cm,2,()),())) (af (F60 n ((b.1.1,b.1.2,b.1.3,b.1.4,b.2.1.1,b.2.1.2,b.2.1.3,b.2.1.4,b.2.1.5,()),
 ())) λe=>Z ((e.1.1,0,()),())))
def k28(n:Nat):OC:=⟨28,⟨P67,K55,J,F28 n⟩,cx [k46 n,k60 n,k99 n] [] n 10 28⟩
def F32:akm:=
 λn b=>af (F46 n (b.1,())) λc=>ah (D.aK (D.aH c.1.1 0)) (Z ((cm,eG,0,2,()),())) (af (F99 n (bY.mk b.1
 b.2.1,())) λd=>ah (D.aK d.1.1) (Z ((cm,eG,0,2,()),())) (af (F59 n ((b.1.1,b.1.2,b.1.3,b.1.4,b.2.1.1,b.2.1.2,
 b.2.1.3,b.2.1.4,b.2.1.5,()),b.2.2)) λe=>ah (D.aK (D.aH e.1.2.2.1 0)) (Z ((cm,eG,0,e.1.2.2),())) (af (F51 n e.2)
 λg=>Z ((g.1.1,e.1.1,e.1.2.1,0,()),()))))
def k32(n:Nat):OC:=⟨32,⟨P68,K69,J,F32 n⟩,cx [k46 n,k51 n,k59 n,k99 n] [] n 10 32⟩
def HY(n:Nat)(c:Int×U):O QN:=
 Z (LO.next (D.add .i64 c.1 1,()))
def F284:Nat->Y62->DF:=
 λn b=>af (@iter (Int×U) (Int×U) (U) (Any) (λc=>ah (D.bM c.1 (aj b.1)) (aP (az c.1 b.1) (ah (D.aH (kA b.1 c.1) 32)
 (HY n c) (aP (az c.1 b.1) (ah (D.aH (kA b.1 c.1) 9) (HY n c) (aP (az c.1 b.1) (ah (D.aH (kA b.1 c.1) 10) (HY n c) (ah (D.eu
 2 (D.eD .i64 (aj b.1) c.1)) (aP (iz c.1 (D.add .i64 c.1 2) (aj b.1)) (ah (fO (eZ b.1 c.1 (D.add .i64 c.1 2)) [47,47]) (af (@iter (Int×
 U) (Int×U) (U) (Any) (λd=>ah (D.bM d.1 (aj b.1)) (aP (az d.1 b.1) (ah (D.aK (D.aH (kA b.1 d.1) 10)) (HY n d) (Z
 (LO.out 0 d)))) (Z (LO.out 0 d))) n c) λd=>LO.el d (λ_ g=>Z (LO.next g)) (λ_ g=>Z (LO.ret () g)) λ_ _=>Y) (Z (LO.ret
 () c)))) (Z (LO.ret () c))))))))) (Z (LO.out 0 c))) n b.2) λc=>LO.el c (λ_ e=>Z (e,())) (λ_ e=>Z (e,())) λ_ _=>Y
def agQ(n:Nat):OC:=⟨284,⟨P70,K2,J,F284 n⟩,cx [] [(284,0,⟨[(1,cR)],[],[],0⟩),(284,2,⟨[(1,cR)],[],[],0⟩)] n 10 284⟩
def F142:Nat->aeS->O fm:=
 λn b=>af (@iter (Int×U) (Bool×U) (U) (Any) (λc=>ah (D.bM c.1 (aj b.1)) (aP (az c.1 b.1) (ah (fO (aT b.1 (ai c.1)
 []) b.2.1) (Z (LO.ret () (W,()))) (Z (LO.next (D.add .i64 c.1 1,()))))) (Z (LO.out 0 c))) n (0,())) λc=>LO.el c (λ_ _=>Z
 ((J,()),())) (λ_ e=>Z (e,())) λ_ _=>Y
def Wj(n:Nat):OC:=⟨142,⟨P71,K4,J,F142 n⟩,cx [] [(142,0,⟨[(5,cR)],[],[],0⟩)] n 10 142⟩
def F290:Y83:=
 λn _=>Z (([[98,111,111,108],[99,101,108,108],[99,104,97,110],[101,108,115,101],[102,97,108,115,101],[102,117,110],[103,
 101,116],[105,102],[105,110],[105,110,112,117,116],[105,110,116],[106,111,105,110],[108,101,116],[109,97,116,99,104],[109,
 111,100,117,108,101],[111,117,116],[112,97,117,115,101],[112,117,116],[114,101,115,101,116],[115,101,110,100],[115,104,105,
 102,116],[115,112,97,119,110],[116,97,107,101],[116,97,115,107],[116,104,101,110],[116,114,117,101],[116,121,112,101],[117,
 110,105,116]],()),())
def agO(n:Nat):OC:=⟨290,⟨[],K72,J,F290 n⟩,cx [] [] n 10 290⟩
def F250:Y33:=
 λn b=>af (F290 n ()) λc=>af (F142 n (c.1.1,b)) λd=>Z d
def ack(n:Nat):OC:=⟨250,⟨P7,K4,J,F250 n⟩,cx [Wj n,agO n] [] n 10 250⟩
def F299:Y36:=
 λn b=>ah (D.eu 97 b.1) (Z ((D.eu b.1 122,()),())) (Z ((J,()),()))
def acf(n:Nat):OC:=⟨299,⟨P73,K4,J,F299 n⟩,cx [] [] n 10 299⟩
def F302:Y36:=
 λn b=>ah (D.eu 48 b.1) (Z ((D.eu b.1 57,()),())) (Z ((J,()),()))
def acd(n:Nat):OC:=⟨302,⟨P73,K4,J,F302 n⟩,cx [] [] n 10 302⟩
def Uy(n:Nat)(b:aeD)(c:Int×U):O QN:=
 ah (D.aK b.2.2.1) (aP (az c.1 b.1) (af (F299 n (kA b.1 c.1,())) λe=>ah e.1.1 (Z (LO.next (D.add .i64 c.1 1,()))) (Z (LO.out 0
 c)))) (Z (LO.out 0 c))
def F300:Nat->aeD->DF:=
 λn b=>af (@iter (Int×U) (Int×U) (U) (Any) (λc=>ah (D.bM c.1 (aj b.1)) (ah b.2.2.1 (aP (az c.1 b.1) (af (F302 n (kA
 b.1 c.1,())) λd=>ah d.1.1 (Z (LO.next (D.add .i64 c.1 1,()))) (Uy n b c))) (Uy n b c)) (Z (LO.out 0 c))) n (b.2.1,())) λc=>
 LO.el c (λ_ e=>Z ((D.eD .i64 e.1 b.2.1,()),())) (λ_ e=>Z (e,())) λ_ _=>Y
def ace(n:Nat):OC:=⟨300,⟨P74,K2,J,F300 n⟩,cx [acf n,acd n] [(300,0,⟨[(7,cR)],[],[],0⟩)] n 10 300⟩
def F301:Y36:=
 λn b=>ah (D.eu 65 b.1) (Z ((D.eu b.1 90,()),())) (Z ((J,()),()))
def agL(n:Nat):OC:=⟨301,⟨P73,K4,J,F301 n⟩,cx [] [] n 10 301⟩
def F303:Nat->Y62->DF:=
 λn b=>aP (az b.2.1 b.1) (af (ah (D.aH (kA b.1 b.2.1) 126) (Z (LO.next (D.add .i64 b.2.1 1,W,()))) (Z (LO.next (b.2.1,J,
 ())))) λ(c:LO (Int×Bool×U) (Int×U) U Any)=>LO.jn c (λd=>af (F300 n (b.1,d.1,W,())) λe=>ah (D.aH e.1.1 0) (Z
 ((0,()),())) (ah (D.bM 10 e.1.1) (Z ((0,()),())) (aP (az d.1 b.1) (ah (D.aH (kA b.1 d.1) 48) (ah (D.bM 1 e.1.1) (Z ((0,()),()))
 (ah (D.bM b.2.1 d.1) (Z ((0,()),())) (Z ((D.add .i64 (D.eD .i64 d.1 b.2.1) e.1.1,()),())))) (Z ((D.add .i64 (D.eD .i64 d.1 b.2.1)
 e.1.1,()),())))))) (λ_ _=>Y) (λ_ e=>Z (e,())) λ_ _=>Y)
def agK(n:Nat):OC:=⟨303,⟨P70,K2,J,F303 n⟩,cx [ace n] [(303,1000003,⟨[(5,cR),(11,cV)],[],[],0⟩)] n 10 303⟩
abbrev RO(F:Fn P7 K2 J):j0 sg:=⟨P7,K2,J,F⟩
def B304:Nat->(L UInt8×U->DF)->L UInt8×U->DF:=
 λn f304 c=>aP (az 0 c.1) (ah (D.aH (kA c.1 0) 126) (aP (iz 1 (aj c.1) (aj c.1)) (af (f304 (eZ c.1 1 (aj c.1),())) λd=>
 Z ((D.neg .i64 d.1.1,()),()))) (af (@iter (Int×Int×U) (Int×U) (U) (Any) (λd=>ah (D.bM d.2.1 (aj c.1)) (aP (az d.2.1
 c.1) (Z (LO.next (D.add .i64 (D.mul .i64 10 d.1) (D.conv .i64 (D.eD .u8 (kA c.1 d.2.1) 48)),D.add .i64 d.2.1 1,())))) (Z (LO.out 0 d))) n
 (0,0,())) λd=>LO.el d (λ_ g=>Z ((g.1,()),())) (λ_ g=>Z (g,())) λ_ _=>Y))
def D304(n:Nat)(f304:Fn P7 K2 J)(a:bw prog 304 (RO f304)):bw prog 304 (RO (B304 n f304)):=cx [⟨304,RO f304,a⟩] [(304,0,⟨[(3,cR),(4,cR)],[],[],0⟩)] n 10 304
def R304(n k:Nat):(Fn P7 K2 J):=Nat.rec (motive:=λ_=>(Fn P7 K2 J)) (λ_=>Y) (λ_ r=>B304 n r) k
def F304(n:Nat):Fn P7 K2 J:=(R304 n n)
def Yn(n:Nat):∀k,bw prog 304 (RO (R304 n k))
 |0=>bW (enters 304 (by kernel_rfl))
 |k+1=>have a:=Yn n k
  D304 n _ a
def agJ(n:Nat):OC:=⟨304,RO (F304 n),(Yn n n)⟩
def F311:Y83:=
 λn _=>Z (([[61,62],[61,61],[45,62],[61],[60],[43],[45],[42],[40],[41],[123],[125],[124],[44],[59],[58],[95],[63]],()),())
def agF(n:Nat):OC:=⟨311,⟨[],K72,J,F311 n⟩,cx [] [] n 10 311⟩
end Mn
end
end
