import Derived.WideKeyArgs
import Derived.SizedLaws
import Derived.RowKit3
import Derived.Test.YtdddliieplcejaaGreatProg
import Derived.KernelRfl
import Derived.Test.YtdddliieplcejaaGreatW3
set_option linter.all false
set_option maxRecDepth 100000
set_option maxHeartbeats 0
noncomputable section
open Option renaming some->Z,none->Y
open Bool renaming true->W,false->J
open Nat renaming beq->Nq,ble->Nl,blt->Nt,succ->Ns,add->Na
open TL.LO renaming next->N,ret->X,out->H
open TL.Rx renaming ok->G,hU->M
section
namespace TL
open Go
variable {S:Sg}
section
section
variable {P:Program}{w:World}{H:Type}{OI:TypeId×Value->H}
theorem WX(p:fO S){ty:TypeId->O Ty}(l:∀t τ,ty t=Z τ->rdT S P ty t τ=W){t:TypeId}{τ:Ty}(o:ty t=Z τ){v:Value}{d:DataW H}{ps:L MemPlace}{base:Nat}(g:Value.okWide P w .any base t v)
  (h:DataW.Trod OI P w 0 (λ_=>W) W t v d ps) (i:(d.weights P t).all (·<=reachBytes)=W):∃x:den S.A τ,ew (λb=>b<w.heap.size) w (enc S τ x) v:=by
 let ⟨fuel,h⟩:=h
 let ⟨x,f⟩:=aby (I:=λb=>b<w.heap.size) p l (λ_ h=>h) fuel t τ _ d ps o h i
 refine⟨x,?_⟩;have k:=l t τ o;unfold rdT at k;split at k
 .rename_i e;obtain⟨b,rfl⟩:=WideShapes.okWide_bool e g;exact f.2 0 _ _ rfl rfl
 .rename_i e;obtain⟨n,rfl⟩:=WideShapes.okWide_int e g;exact f.2 0 _ _ rfl rfl
 .rename_i e;obtain⟨b,rfl⟩:=WideShapes.okWide_string e g;exact f.2 0 _ _ rfl rfl
 .rename_i e;obtain⟨a,n,m,rfl⟩:=WideShapes.okWide_slice e g;exact f.2 0 _ _ rfl rfl
 .rename_i e;obtain⟨q,rfl,_⟩:=WideShapes.okWide_struct e g;refine .agg _ _ (by have:=f.1;grind[enc,D.cells,Value.cells]) ?_ (λj c u h1 h2=>f.2 j c u h1 (by simpa[Value.cells]using h2))
  grind[OF,enc,D.flat,D.cells]
 .cases k
def I7(i:fO S){ty:TypeId->O Ty}(l:∀t τ,ty t=Z τ->rdT S P ty t τ=W){base:Nat}:∀(ts:L TypeId)(τs:L Ty)(vs:L Value)(ds:L (DataW H))(ps:L MemPlace),
  PW (λt τ=>ty t=Z τ) ts τs->(∀(j:Nat)t v,ts[j]?=Z t->vs[j]?=Z v->Value.okWide P w .any base t v)->DataW.TrodAll OI P w 0 (λ_=>W) W ts vs ds ps->
  (DataW.weightsEach P ts ds).all (·<=reachBytes)=W->∃x:fX S.A (τs.map λτ=>.one (.dat τ)),qy S (λb=>b<w.heap.size) w (τs.map λτ=>.one (.dat τ)) x vs [] []
 |[],[],vs,ds,ps,_,_,h,_=>by cases vs with|nil=>exact⟨(),.nil⟩|cons v vs=>cases ds<;>simp[DataW.TrodAll]at h
 |t::ts,τ::τs,vs,ds,ps,c,m,h,e=>by
  cases vs with
  |nil=>cases ds<;>simp[DataW.TrodAll]at h
  |cons v vs=>
  cases ds with
  |nil=>simp[DataW.TrodAll]at h|cons d ds=>
  let ⟨p,q,h1,h2,_⟩:=h
  simp only[DataW.weightsEach,No,eK]at e
  let ⟨x,n⟩:=WX i l (c.2 0 t τ rfl rfl) (m 0 t v rfl rfl) h1 e.1
  let ⟨k,o⟩:=I7 i l ts τs vs ds q ⟨by simpa using c.1,λj a b f g=>c.2 (j+1) a b (by simpa using f) (by simpa using g)⟩ (λj t v f g=>m (j+1) t v (by simpa using f) (by simpa using g)) h2 e.2
  exact⟨(x,k),.one (.dat n .nil) o⟩
 |[],τ::τs,_,_,_,c,_,_,_=>by have:=c.1;simp at this
 |t::ts,[],_,_,_,c,_,_,_=>by have:=c.1;simp at this
theorem EO{w':World}(hl:laidOutB P=W)(e:∀b,b<w.heap.size->w'.heap[b]?=w.heap[b]?):∀(ts:L TypeId)(vs:L Value)(ds:L (DataW H))(ps:L MemPlace),(∀t∈ts,P.readableRec t=W∧t<P.types.size)->
  DataW.TrodAll OI P w 0 (λ_=>W) W ts vs ds ps->(∀p∈ps,p.block<w.heap.size)->DataW.TrodAll OI P w' 0 (λb=>decide (b<w.heap.size)) W ts vs ds ps
 |[],[],[],ps,_,h,_=>h|t::ts,v::vs,d::ds,ps,c,h,f=>by obtain⟨p,q,h1,h2,rfl⟩:=h;refine⟨p,q,WideElems.Trod_stays hl (c t fA).1 (c t fA).2 h1 (λx a=>?_) (λx a=>by simp_all),EO hl e ts vs ds q (λt g=>c t (iB _ g)) h2 λx a=>f x (eO _ a),rfl⟩;have:=e x.block (f x (fh _ a));cases x with|cell b off=>show w'.cell? _=w.cell? _;unfold World.cell?;rw[show w'.heap[b]?=w.heap[b]? from this]|map b=>exact this
 |[],[],_::_,_,_,h,_=>by simp[DataW.TrodAll]at h
 |[],_::_,_,_,_,h,_=>by simp[DataW.TrodAll]at h
 |_::_,[],_,_,_,h,_=>by simp[DataW.TrodAll]at h
 |_::_,_::_,[],_,_,h,_=>by simp[DataW.TrodAll]at h
theorem Lh{w':World}(c:w'.os=w.os)(a:w'.output=w.output)(e:∀b,b<w.heap.size->w'.heap[b]?=w.heap[b]?)(d:MemPlace->Prop):w.keptBut w' d:=by
 refine⟨c,a,λi f=>?_⟩
 grind
theorem Vp(hS:fO S){ty:TypeId->O Ty}(hR:∀t τ,ty t=Z τ->rdT S P ty t τ=W)(hl:laidOutB P=W){f:FuncId}{fn:Func}{s:ChangeSpec}{apart fresh i:Bool}{τs:L Ty}{tb:TypeId}
  (hτ:PW (λt τ=>ty t=Z τ) fn.params.toList τs) (hrd:∀t∈fn.params.toList,P.readableRec t=W∧t<P.types.size) (C:fn.resultTypes=#[tb]) (hb:P.underlying tb=Z .bool) (k:s.vars=[])
  (w:∀ds:L (DataW H),ds.length=τs.length->(s.fn H ds).results=[.lit (.bool W)]∧(s.fn H ds).args=ds∧(s.fn H ds).vars=[])
  (hF:∀x:fX S.A (τs.map λτ=>Pk.one (.dat τ)),∃F r,bH P f (⟨τs.map λτ=>.one (.dat τ),[.dat .bool],J,F⟩:me S)∧F x=Z r∧r.1.1=W)
  {a:World} {base:Nat} {args:Array Value} {ds E:L (DataW H)} {l:L MemPlace}
  (o:∀(j:Nat)t v,fn.params[j]?=Z t->args[j]?=Z v->Value.okWide P a .any base t v) (hW:DataW.Whole OI P fn.params.toList s.vars apart a args.toList ds E l)
  (z:(DataW.weightsEach P (fn.params.toList++s.plain.varTypes P) (ds++E)).all (·<=reachBytes)=W) :
  Calls P f args a λe W'=>∃v,e=.returned v∧s.post OI P fn apart fresh i J a args v W':=by
 rw[k]at hW;have m:=hW;obtain⟨p,q,I,hV,rfl,hfz,hnd⟩:=hW;have hgs:E=[]∧q=[]:=by cases E with|nil=>exact⟨rfl,hV⟩|cons g E=>simp[DataW.TrodVars]at hV
 obtain⟨rfl,rfl⟩:=hgs;have hvt:s.plain.varTypes P=[]:=by grind[ChangeSpec.plain,DataSpec.varTypes]
 rw[hvt,oN,oN]at z
 let ⟨x,hx⟩:=I7 hS hR fn.params.toList τs args.toList ds p hτ (λj t v h1 h2=>o j t v (by simpa using h1) (by simpa using h2)) I z
 let ⟨F,r,K,hr,c⟩:=hF x
 have R:ds.length=τs.length:=by
  rw[<-hτ.1];clear o m z hfz hnd hV hx hτ hrd;generalize fn.params.toList=ts at I;generalize args.toList=B at I
  induction ts generalizing B ds p with
  |nil=>cases B<;>cases ds<;>simp_all [DataW.TrodAll]
  |cons t ts ih=>
   cases B with
   |nil=>cases ds<;>simp[DataW.TrodAll]at I
   |cons v B=>
    cases ds with
    |nil=>simp[DataW.TrodAll]at I|cons d ds=>
     grind[DataW.TrodAll]
 refine(K.2 x r hr _ a args [] [] hx (λ_ h=>h) .nil (by simp) (by simp)).mono λe W' he=>?_;cases e with
 |panicked ch=>exact he.elim|outgrown=>exact he.elim|returned v=>
 obtain⟨I',B,DC,Bc,_,_,_,hsz,A,hos,hout,rfl,_,hH,_⟩:=he;have hv:valOf B=.bool W:=by
  generalize r.1=y at hH c
  let ⟨b,u⟩:=y
  cases hH with
  |dat hd hr=>
  cases hr;cases hd;simp only at c;rw[c];rfl
 rw[hv];refine⟨_,rfl,?_⟩
 let ⟨s1,s2,s3⟩:=w ds R
 have n:∀b,b<a.heap.size->W'.heap[b]?=a.heap[b]?:=λb hb=>A b hb (by simp) (by simp);have hlt:∀x∈p,x.block<a.heap.size:=λx hx=>m.lt x (by simpa using hx);rw[oN]at m;unfold ChangeSpec.post;rw[k];refine⟨ds,[],p,[],p,[],m,?_,?_,?_,Lh hos hout n _,λh=>by cases h⟩
 .rw[oN,s1,C];refine⟨[],[],⟨1,?_⟩,rfl,rfl⟩;simp[DataW.trod,hb,Value.cells]
 .grind[EO]
 .rw[oN,s3];rfl
end
end
end TL
end
section
namespace Mn
open Go TL
section
open Proofs.Tryz
def z0:TI:=⟨1,J,[.lit .nilFunc],[],.other⟩
abbrev n1{α:Type}(x:α)(l r:Tr α):Tr α:=.node (Z x) l r
abbrev n0{α:Type}(l r:Tr α):Tr α:=.node Y l r
abbrev e0{α:Type}:Tr α:=.nil
abbrev bD{α:Type}(x:α):Tr α:=.node (Z x) .nil .nil
abbrev cS(l r:Tr TI):Tr TI:=.node (Z z0) l r
abbrev bZ:Tr TI:=.node (Z z0) .nil .nil
abbrev aX:D:=.lit (.int .i64 0)
abbrev dK:D:=.lit (.string ⟨#[]⟩)
abbrev lE:D:=.lit (.pointer Y)
abbrev fB:D:=.lit .nilFunc
abbrev W4:Kd:=.struct [(0,1,J)]
abbrev xW:Kd:=.struct [(0,1,J),(1,1,J)]
abbrev CJ:Kd:=.struct [(0,1,J),(1,1,J),(2,1,J)]
abbrev qN:Kd:=.struct [(0,1,J),(1,1,J),(2,1,J),(3,1,J)]
abbrev SR:Kd:=.struct [(0,1,J),(1,1,J),(2,1,J),(3,1,J),(4,1,J)]
structure aG where
 Form:Int
 N:Int
 Text:List UInt8
 DD:List aG
structure bw where
 Op:Int
 N:Int
 Kids:List Int
 cN:List aG
structure cO where
 Name:List UInt8
 sd:Int
structure az where
 bh:List bw
 dM:List Int
 Main:Int
 Cons:List cO
structure aj where
 Kind:Int
 N:Int
structure av where
 Node:Int
 Env:List aj
 bg:List aj
structure aB where
 Form:Int
 N:Int
 bg:List aj
 Frames:List av
structure ef where
 Port:Int
 N:Int
structure af where
 aJ:List aB
 aM:List Int
 ei:List ef
 lK:List Int
 Used:Int
structure aN where
 Task:Int
 Do:Int
 N:Int
 V:aj
structure aF where
 W:af
 adU:Int
 E:aN
structure cP where
 az:az
 af:af
structure je where
structure g6 where
 aN:aN
structure gD where
 state:Int
structure jG where
inductive cx where
 |a0 (x:je)|a1 (x:g6)|a2 (x:gD)|a3 (x:jG)|none
structure cz where
 Po:Int
 N:Int
 Text:List UInt8
 DD:List cz
structure iK where
 Name:List UInt8
 sd:List cz
structure ki where
 Name:List UInt8
 Cons:List iK
structure Term where
 Op:Int
 N:Int
 Text:List UInt8
 Kids:List Term
 cN:List aG
structure cQ where
 Name:List UInt8
 Param:List UInt8
 Pr:cz
 To:cz
 Body:Term
structure eo where
 Name:List UInt8
 aeX:List ki
 dM:List cQ
structure cY where
 az:az
structure dO where
 zj:List (List UInt8)
 cons:List cO
 nodes:List bw
structure fM where
 Kind:Int
 Text:List UInt8
 N:Int
 At:Int
structure bL where
 l_:List fM
 at_:Int
 bad:Bool
structure kj where
structure ny where
inductive dz where
 |a0 (x:kj)|a1 (x:Int)|a2 (x:ny)|none
inductive Any where
 |a0 (x:gD)|none
def aV:aG:=⟨0,0,[],[]⟩
def aW:bw:=⟨0,0,[],[]⟩
def bM:cO:=⟨[],0⟩
def l6:az:=⟨[],[],0,[]⟩
def aA:aj:=⟨0,0⟩
def aH:av:=⟨0,[],[]⟩
def aO:aB:=⟨0,0,[],[]⟩
def eS:ef:=⟨0,0⟩
def dF:af:=⟨[],[],[],[],0⟩
def br:aN:=⟨0,0,0,aA⟩
def jE:aF:=⟨dF,0,br⟩
def Dw:cP:=⟨l6,dF⟩
def Hf:je:=⟨⟩
def JY:g6:=⟨br⟩
def Dx:gD:=⟨0⟩
def Hg:jG:=⟨⟩
def ZX:cx:=.none
def nr:cz:=⟨0,0,[],[]⟩
def iu:iK:=⟨[],[]⟩
def l5:ki:=⟨[],[]⟩
def qZ:Term:=⟨0,0,[],[],[]⟩
def dR:cQ:=⟨[],[],nr,nr,qZ⟩
def ke:eo:=⟨[],[],[]⟩
def AW:cY:=⟨l6⟩
def qt:dO:=⟨[],[],[]⟩
def dL:fM:=⟨0,[],0,0⟩
def qq:bL:=⟨[],0,J⟩
def AX:kj:=⟨⟩
def Hh:ny:=⟨⟩
def V9:dz:=.none
def arO:Any:=.none
mutual
def wu:aG->L D
 |.mk x0 x1 x2 x3=>[.lit (.int .i64 x0),.lit (.int .i64 x1),.lit (.string (bY x2)),.sl (nt x3)]
def nt:L aG->L D
 |[]=>[]|y::l=>.agg (wu y)::nt l
end
def kY:∀l:L aG,nt l=l.map (λy=>.agg (wu y))
 |[]=>rfl|y::l=>by simp only[nt,kW,kY l]
def nu(x:bw):L D:=[.lit (.int .i64 x.Op),.lit (.int .i64 x.N),.sl (List.map (λy=>.lit (.int .i64 y)) x.Kids),.sl (nt x.cN)]
def wz(x:cO):L D:=[.lit (.string (bY x.Name)),.lit (.int .i64 x.sd)]
def Wc(x:az):L D:=[.sl (List.map (λy=>.agg (nu y)) x.bh),.sl (List.map (λy=>.lit (.int .i64 y)) x.dM),.lit (.int .i64 x.Main),.sl (List.map (λy=>.agg (wz y)) x.Cons)]
def A2(x:aj):L D:=[.lit (.int .i64 x.Kind),.lit (.int .i64 x.N)]
def Hy(x:av):L D:=[.lit (.int .i64 x.Node),.sl (List.map (λy=>.agg (A2 y)) x.Env),.sl (List.map (λy=>.agg (A2 y)) x.bg)]
def A4(x:aB):L D:=[.lit (.int .i64 x.Form),.lit (.int .i64 x.N),.sl (List.map (λy=>.agg (A2 y)) x.bg),.sl (List.map (λy=>.agg (Hy y)) x.Frames)]
def A3(x:ef):L D:=[.lit (.int .i64 x.Port),.lit (.int .i64 x.N)]
def RA(x:af):L D:=[.sl (List.map (λy=>.agg (A4 y)) x.aJ),.sl (List.map (λy=>.lit (.int .i64 y)) x.aM),.sl (List.map (λy=>.agg (A3 y)) x.ei),.sl (List.map (λy=>.lit (.int .i64 y)) x.lK),.lit (.int .i64 x.Used)]
def RC(x:aN):L D:=[.lit (.int .i64 x.Task),.lit (.int .i64 x.Do),.lit (.int .i64 x.N),.lit (.int .i64 x.V.Kind),.lit (.int .i64 x.V.N)]
def DZ(x:aF):L D:=[.sl (List.map (λy=>.agg (A4 y)) x.W.aJ),.sl (List.map (λy=>.lit (.int .i64 y)) x.W.aM),.sl (List.map (λy=>.agg (A3 y)) x.W.ei),.sl (List.map (λy=>.lit (.int .i64 y)) x.W.lK),.lit (.int .i64 x.W.Used),.lit (.int .i64 x.adU),.lit (.int .i64 x.E.Task),.lit (.int .i64 x.E.Do),.lit (.int .i64 x.E.N),.lit (.int .i64 x.E.V.Kind),.lit (.int .i64 x.E.V.N)]
def O1(x:cP):L D:=[.sl (List.map (λy=>.agg (nu y)) x.az.bh),.sl (List.map (λy=>.lit (.int .i64 y)) x.az.dM),.lit (.int .i64 x.az.Main),.sl (List.map (λy=>.agg (wz y)) x.az.Cons),.sl (List.map (λy=>.agg (A4 y)) x.af.aJ),.sl (List.map (λy=>.lit (.int .i64 y)) x.af.aM),.sl (List.map (λy=>.agg (A3 y)) x.af.ei),.sl (List.map (λy=>.lit (.int .i64 y)) x.af.lK),.lit (.int .i64 x.af.Used)]
def Hu(x:je):L D:=[]
def J5(x:g6):L D:=[.lit (.int .i64 x.aN.Task),.lit (.int .i64 x.aN.Do),.lit (.int .i64 x.aN.N),.lit (.int .i64 x.aN.V.Kind),.lit (.int .i64 x.aN.V.N)]
def wv(x:gD):L D:=[.lit (.int .i64 x.state)]
def Hw(x:jG):L D:=[]
def Oa:cx->O (TypeId×D)
 |.a0 x=>Z (170,.agg (Hu x))|.a1 x=>Z (173,.agg (J5 x))|.a2 x=>Z (175,.agg (wv x))|.a3 x=>Z (181,.agg (Hw x))|.none=>Y
def Z6(x:cx):L D:=[PM (Oa x)]
mutual
def sW:cz->L D
 |.mk x0 x1 x2 x3=>[.lit (.int .i64 x0),.lit (.int .i64 x1),.lit (.string (bY x2)),.sl (lI x3)]
def lI:L cz->L D
 |[]=>[]|y::l=>.agg (sW y)::lI l
end
def mK:∀l:L cz,lI l=l.map (λy=>.agg (sW y))
 |[]=>rfl|y::l=>by simp only[lI,kW,mK l]
def rj(x:iK):L D:=[.lit (.string (bY x.Name)),.sl (lI x.sd)]
def J4(x:ki):L D:=[.lit (.string (bY x.Name)),.sl (List.map (λy=>.agg (rj y)) x.Cons)]
mutual
def O0:Term->L D
 |.mk x0 x1 x2 x3 x4=>[.lit (.int .i64 x0),.lit (.int .i64 x1),.lit (.string (bY x2)),.sl (Hj x3),.sl (nt x4)]
def Hj:L Term->L D
 |[]=>[]|y::l=>.agg (O0 y)::Hj l
end
def zm:∀l:L Term,Hj l=l.map (λy=>.agg (O0 y))
 |[]=>rfl|y::l=>by simp only[Hj,kW,zm l]
def ri(x:cQ):L D:=[.lit (.string (bY x.Name)),.lit (.string (bY x.Param)),.lit (.int .i64 x.Pr.Po),.lit (.int .i64 x.Pr.N),.lit (.string (bY x.Pr.Text)),.sl (lI x.Pr.DD),.lit (.int .i64 x.To.Po),.lit (.int .i64 x.To.N),.lit (.string (bY x.To.Text)),.sl (lI x.To.DD),.lit (.int .i64 x.Body.Op),.lit (.int .i64 x.Body.N),.lit (.string (bY x.Body.Text)),.sl (Hj x.Body.Kids),.sl (nt x.Body.cN)]
def OZ(x:eo):L D:=[.lit (.string (bY x.Name)),.sl (List.map (λy=>.agg (J4 y)) x.aeX),.sl (List.map (λy=>.agg (ri y)) x.dM)]
def LL(x:cY):L D:=[.sl (List.map (λy=>.agg (nu y)) x.az.bh),.sl (List.map (λy=>.lit (.int .i64 y)) x.az.dM),.lit (.int .i64 x.az.Main),.sl (List.map (λy=>.agg (wz y)) x.az.Cons)]
def zq(x:dO):L D:=[.sl (List.map (λy=>.lit (.string (bY y))) x.zj),.sl (List.map (λy=>.agg (wz y)) x.cons),.sl (List.map (λy=>.agg (nu y)) x.nodes)]
def Hv(x:fM):L D:=[.lit (.int .i64 x.Kind),.lit (.string (bY x.Text)),.lit (.int .i64 x.N),.lit (.int .i64 x.At)]
def zp(x:bL):L D:=[.sl (List.map (λy=>.agg (Hv y)) x.l_),.lit (.int .i64 x.at_),.lit (.bool x.bad)]
def A1(x:kj):L D:=[]
def Hx(x:ny):L D:=[]
def JG:dz->O (TypeId×D)
 |.a0 x=>Z (274,.agg (A1 x))|.a1 x=>Z (297,.lit (.int .i64 x))|.a2 x=>Z (298,.agg (Hx x))|.none=>Y
def Wb(x:dz):L D:=[PM (JG x)]
def ajB:Any->O (TypeId×D)
 |.a0 x=>Z (175,.agg (wv x))|.none=>Y
def arS(x:Any):L D:=[PM (ajB x)]
def OX:Nat->Type
 |0=>aG|1=>bw|2=>cO|3=>az|4=>aj|5=>av|6=>aB|7=>ef|8=>af|9=>aN|10=>aF|11=>cP|12=>je|13=>g6|14=>gD|15=>jG|16=>cx|17=>cz|18=>iK|19=>ki|20=>Term|21=>cQ|22=>eo|23=>cY|24=>dO|25=>fM|26=>bL|27=>kj|28=>ny|29=>dz|30=>Any|_+31=>U
def fields:Nat->L Ty
 |0=>[.int .i64,.int .i64,.str,.sl (.st 0)]|1=>[.int .i64,.int .i64,.sl (.int .i64),.sl (.st 0)]|2=>[.str,.int .i64]|3=>[.sl (.st 1),.sl (.int .i64),.int .i64,.sl (.st 2)]|4=>[.int .i64,.int .i64]|5=>[.int .i64,.sl (.st 4),.sl (.st 4)]|6=>[.int .i64,.int .i64,.sl (.st 4),.sl (.st 5)]|7=>[.int .i64,.int .i64]|8=>[.sl (.st 6),.sl (.int .i64),.sl (.st 7),.sl (.int .i64),.int .i64]|9=>[.int .i64,.int .i64,.int .i64,.int .i64,.int .i64]|10=>[.sl (.st 6),.sl (.int .i64),.sl (.st 7),.sl (.int .i64),.int .i64,.int .i64,.int .i64,.int .i64,.int .i64,.int .i64,.int .i64]|11=>[.sl (.st 1),.sl (.int .i64),.int .i64,.sl (.st 2),.sl (.st 6),.sl (.int .i64),.sl (.st 7),.sl (.int .i64),.int .i64]|12=>[]|13=>[.int .i64,.int .i64,.int .i64,.int .i64,.int .i64]|14=>[.int .i64]|15=>[]|16=>[.cT 16]|17=>[.int .i64,.int .i64,.str,.sl (.st 17)]|18=>[.str,.sl (.st 17)]|19=>[.str,.sl (.st 18)]|20=>[.int .i64,.int .i64,.str,.sl (.st 20),.sl (.st 0)]|21=>[.str,.str,.int .i64,.int .i64,.str,.sl (.st 17),.int .i64,.int .i64,.str,.sl (.st 17),.int .i64,.int .i64,.str,.sl (.st 20),.sl (.st 0)]|22=>[.str,.sl (.st 19),.sl (.st 21)]|23=>[.sl (.st 1),.sl (.int .i64),.int .i64,.sl (.st 2)]|24=>[.sl (.str),.sl (.st 2),.sl (.st 1)]|25=>[.int .i64,.str,.int .i64,.int .i64]|26=>[.sl (.st 25),.int .i64,.bool]|27=>[]|28=>[]|29=>[.cT 29]|30=>[.cT 30]|_+31=>[]
def dflt:(n:Nat)->OX n
 |0=>aV|1=>aW|2=>bM|3=>l6|4=>aA|5=>aH|6=>aO|7=>eS|8=>dF|9=>br|10=>jE|11=>Dw|12=>Hf|13=>JY|14=>Dx|15=>Hg|16=>ZX|17=>nr|18=>iu|19=>l5|20=>qZ|21=>dR|22=>ke|23=>AW|24=>qt|25=>dL|26=>qq|27=>AX|28=>Hh|29=>V9|30=>arO|_+31=>()
def ade:(n:Nat)->OX n->mG OX (fields n)
 |0,x=>(aG.Form x,aG.N x,aG.Text x,aG.DD x,())|1,x=>(bw.Op x,bw.N x,bw.Kids x,bw.cN x,())|2,x=>(cO.Name x,cO.sd x,())|3,x=>(az.bh x,az.dM x,az.Main x,az.Cons x,())|4,x=>(aj.Kind x,aj.N x,())|5,x=>(av.Node x,av.Env x,av.bg x,())|6,x=>(aB.Form x,aB.N x,aB.bg x,aB.Frames x,())|7,x=>(ef.Port x,ef.N x,())|8,x=>(af.aJ x,af.aM x,af.ei x,af.lK x,af.Used x,())|9,x=>(aN.Task x,aN.Do x,aN.N x,(aN.V x).Kind,(aN.V x).N,())|10,x=>((aF.W x).aJ,(aF.W x).aM,(aF.W x).ei,(aF.W x).lK,(aF.W x).Used,aF.adU x,(aF.E x).Task,(aF.E x).Do,(aF.E x).N,(aF.E x).V.Kind,(aF.E x).V.N,())|11,x=>((cP.az x).bh,(cP.az x).dM,(cP.az x).Main,(cP.az x).Cons,(cP.af x).aJ,(cP.af x).aM,(cP.af x).ei,(cP.af x).lK,(cP.af x).Used,())|12,_=>()|13,x=>((g6.aN x).Task,(g6.aN x).Do,(g6.aN x).N,(g6.aN x).V.Kind,(g6.aN x).V.N,())|14,x=>(gD.state x,())|15,_=>()|16,x=>(x,())|17,x=>(cz.Po x,cz.N x,cz.Text x,cz.DD x,())|18,x=>(iK.Name x,iK.sd x,())|19,x=>(ki.Name x,ki.Cons x,())|20,x=>(Term.Op x,Term.N x,Term.Text x,Term.Kids x,Term.cN x,())|21,x=>(cQ.Name x,cQ.Param x,(cQ.Pr x).Po,(cQ.Pr x).N,(cQ.Pr x).Text,(cQ.Pr x).DD,(cQ.To x).Po,(cQ.To x).N,(cQ.To x).Text,(cQ.To x).DD,(cQ.Body x).Op,(cQ.Body x).N,(cQ.Body x).Text,(cQ.Body x).Kids,(cQ.Body x).cN,())|22,x=>(eo.Name x,eo.aeX x,eo.dM x,())|23,x=>((cY.az x).bh,(cY.az x).dM,(cY.az x).Main,(cY.az x).Cons,())|24,x=>(dO.zj x,dO.cons x,dO.nodes x,())|25,x=>(fM.Kind x,fM.Text x,fM.N x,fM.At x,())|26,x=>(bL.l_ x,bL.at_ x,bL.bad x,())|27,_=>()|28,_=>()|29,x=>(x,())|30,x=>(x,())|_+31,_=>()
def Yl:(n:Nat)->mG OX (fields n)->OX n
 |0,(x0,x1,x2,x3,())=>(⟨x0,x1,x2,x3⟩:aG)|1,(x0,x1,x2,x3,())=>(⟨x0,x1,x2,x3⟩:bw)|2,(x0,x1,())=>(⟨x0,x1⟩:cO)|3,(x0,x1,x2,x3,())=>(⟨x0,x1,x2,x3⟩:az)|4,(x0,x1,())=>(⟨x0,x1⟩:aj)|5,(x0,x1,x2,())=>(⟨x0,x1,x2⟩:av)|6,(x0,x1,x2,x3,())=>(⟨x0,x1,x2,x3⟩:aB)|7,(x0,x1,())=>(⟨x0,x1⟩:ef)|8,(x0,x1,x2,x3,x4,())=>(⟨x0,x1,x2,x3,x4⟩:af)|9,(x0,x1,x2,x3,x4,())=>(⟨x0,x1,x2,⟨x3,x4⟩⟩:aN)|10,(x0,x1,x2,x3,x4,x5,x6,x7,x8,x9,x10,())=>(⟨⟨x0,x1,x2,x3,x4⟩,x5,⟨x6,x7,x8,⟨x9,x10⟩⟩⟩:aF)|11,(x0,x1,x2,x3,x4,x5,x6,x7,x8,())=>(⟨⟨x0,x1,x2,x3⟩,⟨x4,x5,x6,x7,x8⟩⟩:cP)|12,_=>(⟨⟩:je)|13,(x0,x1,x2,x3,x4,())=>(⟨⟨x0,x1,x2,⟨x3,x4⟩⟩⟩:g6)|14,(x0,())=>(⟨x0⟩:gD)|15,_=>(⟨⟩:jG)|16,(x,())=>x|17,(x0,x1,x2,x3,())=>(⟨x0,x1,x2,x3⟩:cz)|18,(x0,x1,())=>(⟨x0,x1⟩:iK)|19,(x0,x1,())=>(⟨x0,x1⟩:ki)|20,(x0,x1,x2,x3,x4,())=>(⟨x0,x1,x2,x3,x4⟩:Term)|21,(x0,x1,x2,x3,x4,x5,x6,x7,x8,x9,x10,x11,x12,x13,x14,())=>(⟨x0,x1,⟨x2,x3,x4,x5⟩,⟨x6,x7,x8,x9⟩,⟨x10,x11,x12,x13,x14⟩⟩:cQ)|22,(x0,x1,x2,())=>(⟨x0,x1,x2⟩:eo)|23,(x0,x1,x2,x3,())=>(⟨⟨x0,x1,x2,x3⟩⟩:cY)|24,(x0,x1,x2,())=>(⟨x0,x1,x2⟩:dO)|25,(x0,x1,x2,x3,())=>(⟨x0,x1,x2,x3⟩:fM)|26,(x0,x1,x2,())=>(⟨x0,x1,x2⟩:bL)|27,_=>(⟨⟩:kj)|28,_=>(⟨⟩:ny)|29,(x,())=>x|30,(x,())=>x|_+31,_=>()
def Z3:(n:Nat)->OX n->L D
 |0,x=>wu x|1,x=>nu x|2,x=>wz x|3,x=>Wc x|4,x=>A2 x|5,x=>Hy x|6,x=>A4 x|7,x=>A3 x|8,x=>RA x|9,x=>RC x|10,x=>DZ x|11,x=>O1 x|12,x=>Hu x|13,x=>J5 x|14,x=>wv x|15,x=>Hw x|16,x=>Z6 x|17,x=>sW x|18,x=>rj x|19,x=>J4 x|20,x=>O0 x|21,x=>ri x|22,x=>OZ x|23,x=>LL x|24,x=>zq x|25,x=>Hv x|26,x=>zp x|27,x=>A1 x|28,x=>Hx x|29,x=>Wb x|30,x=>arS x|_+31,_=>[]
def Ke:Nat->L (TypeId×Ty)
 |16=>[(170,.st 12),(173,.st 13),(175,.st 14),(181,.st 15)]|29=>[(274,.st 27),(297,.int .i64),(298,.st 28)]|30=>[(175,.st 14)]|_=>[]
def gj:(n:Nat)->OX n->xN OX (Ke n)
 |0,_=>()|1,_=>()|2,_=>()|3,_=>()|4,_=>()|5,_=>()|6,_=>()|7,_=>()|8,_=>()|9,_=>()|10,_=>()|11,_=>()|12,_=>()|13,_=>()|14,_=>()|15,_=>()|16,.a0 x=>.inl x|16,.a1 x=>.inr (.inl x)|16,.a2 x=>.inr (.inr (.inl x))|16,.a3 x=>.inr (.inr (.inr (.inl x)))|16,.none=>.inr (.inr (.inr (.inr (()))))|17,_=>()|18,_=>()|19,_=>()|20,_=>()|21,_=>()|22,_=>()|23,_=>()|24,_=>()|25,_=>()|26,_=>()|27,_=>()|28,_=>()|29,.a0 x=>.inl x|29,.a1 x=>.inr (.inl x)|29,.a2 x=>.inr (.inr (.inl x))|29,.none=>.inr (.inr (.inr (())))|30,.a0 x=>.inl x|30,.none=>.inr (())|_+31,_=>()
def ajy:(n:Nat)->xN OX (Ke n)->OX n
 |0,_=>aV|1,_=>aW|2,_=>bM|3,_=>l6|4,_=>aA|5,_=>aH|6,_=>aO|7,_=>eS|8,_=>dF|9,_=>br|10,_=>jE|11,_=>Dw|12,_=>Hf|13,_=>JY|14,_=>Dx|15,_=>Hg|16,.inl x=>(cx.a0 x)|16,.inr (.inl x)=>(cx.a1 x)|16,.inr (.inr (.inl x))=>(cx.a2 x)|16,.inr (.inr (.inr (.inl x)))=>(cx.a3 x)|16,.inr (.inr (.inr (.inr (_))))=>cx.none|17,_=>nr|18,_=>iu|19,_=>l5|20,_=>qZ|21,_=>dR|22,_=>ke|23,_=>AW|24,_=>qt|25,_=>dL|26,_=>qq|27,_=>AX|28,_=>Hh|29,.inl x=>(dz.a0 x)|29,.inr (.inl x)=>(dz.a1 x)|29,.inr (.inr (.inl x))=>(dz.a2 x)|29,.inr (.inr (.inr (_)))=>dz.none|30,.inl x=>(Any.a0 x)|30,.inr (_)=>Any.none|_+31,_=>()
def YN:(n:Nat)->OX n->O (TypeId×D)
 |16,x=>Oa x|29,x=>JG x|30,x=>ajB x|_,_=>Y
def sg:Sg:=⟨OX,fields,dflt,ade,Yl,Z3,Ke,gj,ajy,YN,.cT 30⟩
def vY:(n:Nat)->(h:mG OX (fields n))->ade n (Yl n h)=h
 |0,(x0,x1,x2,x3,())=>rfl|1,(x0,x1,x2,x3,())=>rfl|2,(x0,x1,())=>rfl|3,(x0,x1,x2,x3,())=>rfl|4,(x0,x1,())=>rfl|5,(x0,x1,x2,())=>rfl|6,(x0,x1,x2,x3,())=>rfl|7,(x0,x1,())=>rfl|8,(x0,x1,x2,x3,x4,())=>rfl|9,(x0,x1,x2,x3,x4,())=>rfl|10,(x0,x1,x2,x3,x4,x5,x6,x7,x8,x9,x10,())=>rfl|11,(x0,x1,x2,x3,x4,x5,x6,x7,x8,())=>rfl|12,()=>rfl|13,(x0,x1,x2,x3,x4,())=>rfl|14,(x0,())=>rfl|15,()=>rfl|16,(x0,())=>rfl|17,(x0,x1,x2,x3,())=>rfl|18,(x0,x1,())=>rfl|19,(x0,x1,())=>rfl|20,(x0,x1,x2,x3,x4,())=>rfl|21,(x0,x1,x2,x3,x4,x5,x6,x7,x8,x9,x10,x11,x12,x13,x14,())=>rfl|22,(x0,x1,x2,())=>rfl|23,(x0,x1,x2,x3,())=>rfl|24,(x0,x1,x2,())=>rfl|25,(x0,x1,x2,x3,())=>rfl|26,(x0,x1,x2,())=>rfl|27,()=>rfl|28,()=>rfl|29,(x0,())=>rfl|30,(x0,())=>rfl|_+31,()=>rfl
def Yg:(n:Nat)->(x:OX n)->Yl n (ade n x)=x
 |0,⟨x0,x1,x2,x3⟩=>rfl|1,⟨x0,x1,x2,x3⟩=>rfl|2,⟨x0,x1⟩=>rfl|3,⟨x0,x1,x2,x3⟩=>rfl|4,⟨x0,x1⟩=>rfl|5,⟨x0,x1,x2⟩=>rfl|6,⟨x0,x1,x2,x3⟩=>rfl|7,⟨x0,x1⟩=>rfl|8,⟨x0,x1,x2,x3,x4⟩=>rfl|9,⟨x0,x1,x2,⟨x3,x4⟩⟩=>rfl|10,⟨⟨x0,x1,x2,x3,x4⟩,x5,⟨x6,x7,x8,⟨x9,x10⟩⟩⟩=>rfl|11,⟨⟨x0,x1,x2,x3⟩,⟨x4,x5,x6,x7,x8⟩⟩=>rfl|12,.mk=>rfl|13,⟨⟨x0,x1,x2,⟨x3,x4⟩⟩⟩=>rfl|14,⟨x0⟩=>rfl|15,.mk=>rfl|16,_=>rfl|17,⟨x0,x1,x2,x3⟩=>rfl|18,⟨x0,x1⟩=>rfl|19,⟨x0,x1⟩=>rfl|20,⟨x0,x1,x2,x3,x4⟩=>rfl|21,⟨x0,x1,⟨x2,x3,x4,x5⟩,⟨x6,x7,x8,x9⟩,⟨x10,x11,x12,x13,x14⟩⟩=>rfl|22,⟨x0,x1,x2⟩=>rfl|23,⟨⟨x0,x1,x2,x3⟩⟩=>rfl|24,⟨x0,x1,x2⟩=>rfl|25,⟨x0,x1,x2,x3⟩=>rfl|26,⟨x0,x1,x2⟩=>rfl|27,.mk=>rfl|28,.mk=>rfl|29,_=>rfl|30,_=>rfl|_+31,()=>rfl
def Z2:(n:Nat)->(x:OX n)->Z3 n x=gU sg (fields n) (ade n x)
 |0,.mk x0 x1 x2 x3=>by show wu _=_;simp only[wu,kY];rfl
 |1,x=>by show nu x=_;simp only[nu,kY];rfl
 |2,_=>rfl|3,_=>rfl|4,_=>rfl|5,_=>rfl|6,_=>rfl|7,_=>rfl|8,_=>rfl|9,_=>rfl|10,_=>rfl|11,_=>rfl|12,_=>rfl|13,_=>rfl|14,_=>rfl|15,_=>rfl|16,_=>rfl|17,.mk x0 x1 x2 x3=>by show sW _=_;simp only[sW,mK];rfl
 |18,x=>by show rj x=_;simp only[rj,mK];rfl
 |19,_=>rfl|20,.mk x0 x1 x2 x3 x4=>by show O0 _=_;simp only[O0,zm,kY];rfl
 |21,x=>by show ri x=_;simp only[ri,zm,kY,mK];rfl
 |22,_=>rfl|23,_=>rfl|24,_=>rfl|25,_=>rfl|26,_=>rfl|27,_=>rfl|28,_=>rfl|29,_=>rfl|30,_=>rfl|_+31,()=>rfl
def acs:(n:Nat)->∀t∈fields n,j4 t=J
 |0=>λt h=>cV (l:=fields 0) rfl t h|1=>λt h=>cV (l:=fields 1) rfl t h|2=>λt h=>cV (l:=fields 2) rfl t h|3=>λt h=>cV (l:=fields 3) rfl t h|4=>λt h=>cV (l:=fields 4) rfl t h|5=>λt h=>cV (l:=fields 5) rfl t h|6=>λt h=>cV (l:=fields 6) rfl t h|7=>λt h=>cV (l:=fields 7) rfl t h|8=>λt h=>cV (l:=fields 8) rfl t h|9=>λt h=>cV (l:=fields 9) rfl t h|10=>λt h=>cV (l:=fields 10) rfl t h|11=>λt h=>cV (l:=fields 11) rfl t h|12=>λt h=>cV (l:=fields 12) rfl t h|13=>λt h=>cV (l:=fields 13) rfl t h|14=>λt h=>cV (l:=fields 14) rfl t h|15=>λt h=>cV (l:=fields 15) rfl t h|16=>λt h=>cV (l:=fields 16) rfl t h|17=>λt h=>cV (l:=fields 17) rfl t h|18=>λt h=>cV (l:=fields 18) rfl t h|19=>λt h=>cV (l:=fields 19) rfl t h|20=>λt h=>cV (l:=fields 20) rfl t h|21=>λt h=>cV (l:=fields 21) rfl t h|22=>λt h=>cV (l:=fields 22) rfl t h|23=>λt h=>cV (l:=fields 23) rfl t h|24=>λt h=>cV (l:=fields 24) rfl t h|25=>λt h=>cV (l:=fields 25) rfl t h|26=>λt h=>cV (l:=fields 26) rfl t h|27=>λt h=>cV (l:=fields 27) rfl t h|28=>λt h=>cV (l:=fields 28) rfl t h|29=>λt h=>cV (l:=fields 29) rfl t h|30=>λt h=>cV (l:=fields 30) rfl t h|_+31=>λ_ h=>by cases h
def Ew:(n:Nat)->(h:xN OX (Ke n))->gj n (ajy n h)=h
 |0,()=>rfl|1,()=>rfl|2,()=>rfl|3,()=>rfl|4,()=>rfl|5,()=>rfl|6,()=>rfl|7,()=>rfl|8,()=>rfl|9,()=>rfl|10,()=>rfl|11,()=>rfl|12,()=>rfl|13,()=>rfl|14,()=>rfl|15,()=>rfl|16,.inl x=>rfl|16,.inr (.inl x)=>rfl|16,.inr (.inr (.inl x))=>rfl|16,.inr (.inr (.inr (.inl x)))=>rfl|16,.inr (.inr (.inr (.inr (()))))=>rfl|17,()=>rfl|18,()=>rfl|19,()=>rfl|20,()=>rfl|21,()=>rfl|22,()=>rfl|23,()=>rfl|24,()=>rfl|25,()=>rfl|26,()=>rfl|27,()=>rfl|28,()=>rfl|29,.inl x=>rfl|29,.inr (.inl x)=>rfl|29,.inr (.inr (.inl x))=>rfl|29,.inr (.inr (.inr (())))=>rfl|30,.inl x=>rfl|30,.inr (())=>rfl|_+31,()=>rfl
def YM:(n:Nat)->(x:OX n)->YN n x=ud sg (Ke n) (gj n x)
 |0,_=>rfl|1,_=>rfl|2,_=>rfl|3,_=>rfl|4,_=>rfl|5,_=>rfl|6,_=>rfl|7,_=>rfl|8,_=>rfl|9,_=>rfl|10,_=>rfl|11,_=>rfl|12,_=>rfl|13,_=>rfl|14,_=>rfl|15,_=>rfl|16,x=>by cases x<;>rfl
 |17,_=>rfl|18,_=>rfl|19,_=>rfl|20,_=>rfl|21,_=>rfl|22,_=>rfl|23,_=>rfl|24,_=>rfl|25,_=>rfl|26,_=>rfl|27,_=>rfl|28,_=>rfl|29,x=>by cases x<;>rfl
 |30,x=>by cases x<;>rfl
 |_+31,()=>rfl
def adG:(n:Nat)->Pa (Ke n)=W
 |0=>rfl|1=>rfl|2=>rfl|3=>rfl|4=>rfl|5=>rfl|6=>rfl|7=>rfl|8=>rfl|9=>rfl|10=>rfl|11=>rfl|12=>rfl|13=>rfl|14=>rfl|15=>rfl|16=>rfl|17=>rfl|18=>rfl|19=>rfl|20=>rfl|21=>rfl|22=>rfl|23=>rfl|24=>rfl|25=>rfl|26=>rfl|27=>rfl|28=>rfl|29=>rfl|30=>rfl|_+31=>rfl
def aea:fO sg:=⟨vY,Yg,Z2,acs,Ew,YM,adG⟩
noncomputable def PX:Tr (TI):=(n0 (cS (n1 ⟨1,J,[aX],[],.leaf (.int .i64)⟩ (n1 ⟨4,W,[aX,aX,.lit (.bool J),.lit (.int .u8 0)],[.int .i64,.int .i64,.bool,.int .u8],qN⟩ (n1 ⟨1,J,[lE],[],.ptr⟩ (n1 ⟨5,W,[.sl [],.sl [],.sl [],.sl [],aX],[],SR⟩ (cS (cS bZ e0) (cS bZ e0)) (n1 ⟨1,J,[.sl []],[],.slice 2 W 16 [aX,aX]⟩ (n1 ⟨1,J,[.lit (.map Y)],[],.other⟩ bZ e0) bZ)) (cS (cS (cS (bD ⟨1,J,[.lit .nilIface],[],.iface⟩) e0) bZ) (cS (n1 ⟨1,W,[aX],[.int .i64],W4⟩ bZ e0) bZ))) (n1 ⟨1,J,[.sl []],[],.slice 1 J 8 [aX]⟩ (cS (cS (cS bZ e0) (cS bZ e0)) (n1 ⟨9,W,[.sl [],.sl [],aX,.sl [],.sl [],.sl [],.sl [],.sl [],aX],[],.struct [(0,4,W),(4,5,W)]⟩ (cS bZ e0) bZ)) (n1 ⟨2,W,[aX,aX],[.int .i64,.int .i64],xW⟩ (n1 ⟨1,J,[aX],[],.leaf (.int .i64)⟩ (cS bZ e0) (n1 ⟨5,W,[aX,aX,dK,.sl [],.sl []],[],SR⟩ bZ e0)) (cS (cS bZ e0) e0)))) (n0 (n0 (cS (cS (cS bZ e0) (cS bZ e0)) (n1 ⟨4,W,[aX,aX,.sl [],.sl []],[],qN⟩ (cS bZ e0) bZ)) (n1 ⟨2,W,[aX,aX],[.int .i64,.int .i64],xW⟩ (n1 ⟨1,J,[.sl []],[],.slice 4 W 56 [aX,aX,dK,.sl []]⟩ (n1 ⟨4,W,[.sl [],.sl [],aX,.sl []],[],.struct [(0,4,W)]⟩ bZ e0) (n1 ⟨4,W,[aX,aX,dK,.sl []],[],qN⟩ bZ e0)) (cS (n1 ⟨11,W,[lE,aX,.sl [],aX,.sl [],.sl [],aX,aX,.sl [],.sl [],.sl []],[],.struct [(0,1,J),(1,1,J),(2,1,J),(3,3,W),(6,4,W),(10,1,J)]⟩ bZ e0) bZ))) (cS (n1 ⟨1,J,[.sl []],[],.slice 5 W 40 [aX,aX,aX,aX,aX]⟩ (n1 ⟨11,W,[.sl [],.sl [],.sl [],.sl [],aX,aX,aX,aX,aX,aX,aX],[],.struct [(0,5,W),(5,1,J),(6,5,W)]⟩ (n1 ⟨1,J,[.sl []],[],.slice 15 W 224 [dK,dK,aX,aX,dK,.sl [],aX,aX,dK,.sl [],aX,aX,dK,.sl [],.sl []]⟩ bZ e0) (cS bZ e0)) (cS (cS bZ e0) bZ)) (cS (cS (cS bZ e0) bZ) (cS (cS bZ e0) bZ))))) (n1 ⟨1,J,[.lit (.int .u8 0)],[],.leaf (.int .u8)⟩ (n1 ⟨1,J,[dK],[],.leaf .str⟩ (n1 ⟨1,J,[lE],[],.ptr⟩ (n1 ⟨1,J,[aX],[],.leaf (.int .i64)⟩ (cS (cS (bD ⟨2,W,[dK,.sl []],[],xW⟩) e0) (cS bZ e0)) (n1 ⟨3,W,[aX,.sl [],.sl []],[],CJ⟩ (cS bZ e0) bZ)) (n1 ⟨1,J,[aX],[],.leaf (.int .i64)⟩ (n1 ⟨2,W,[dK,aX],[.str,.int .i64],xW⟩ (cS bZ e0) (n1 ⟨1,J,[aX],[],.leaf (.int .i64)⟩ (bD ⟨0,W,[],[],.struct [(0,0,W)]⟩) e0)) (cS (n1 ⟨1,J,[lE],[],.ptr⟩ bZ e0) bZ))) (n1 ⟨4,W,[.sl [],.sl [],aX,.sl []],[],qN⟩ (cS (cS (cS (bD ⟨2,W,[dK,.sl []],[],xW⟩) e0) (n1 ⟨1,J,[lE],[],.ptr⟩ bZ e0)) (n0 (n1 ⟨0,W,[],[],.struct []⟩ (bD ⟨1,J,[aX],[],.leaf (.int .i64)⟩) e0) bZ)) (cS (n1 ⟨4,W,[aX,aX,dK,.sl []],[],qN⟩ (n1 ⟨1,J,[.sl []],[],.slice 1 J 16 [dK]⟩ (bD ⟨1,J,[.lit (.map Y)],[],.other⟩) e0) (bD ⟨15,W,[dK,dK,aX,aX,dK,.sl [],aX,aX,dK,.sl [],aX,aX,dK,.sl [],.sl []],[],.struct [(0,1,J),(1,1,J),(2,4,W),(6,4,W),(10,5,W)]⟩)) (cS (cS bZ e0) (bD ⟨3,W,[.sl [],aX,.lit (.bool J)],[],CJ⟩))))) (n0 (n1 ⟨1,J,[.lit (.int .i32 0)],[],.leaf (.int .i32)⟩ (cS (cS (cS bZ e0) (n0 bZ e0)) (n1 ⟨1,J,[lE],[],.ptr⟩ (cS bZ e0) bZ)) (n1 ⟨5,W,[aX,aX,aX,aX,aX],[.int .i64,.int .i64,.int .i64,.int .i64,.int .i64],.struct [(0,1,J),(1,1,J),(2,1,J),(3,2,W)]⟩ (n1 ⟨4,W,[aX,aX,.sl [],.sl []],[],qN⟩ (cS bZ e0) (bD ⟨1,J,[.sl []],[],.slice 5 W 80 [aX,aX,dK,.sl [],.sl []]⟩)) (cS (bD ⟨0,W,[],[],.struct []⟩) bZ))) (n1 ⟨1,J,[.sl []],[],.slice 4 W 64 [aX,aX,.sl [],.sl []]⟩ (cS (cS (n1 ⟨3,W,[dK,.sl [],.sl []],[],CJ⟩ bZ e0) (n1 ⟨3,W,[.sl [],.sl [],.sl []],[],CJ⟩ bZ e0)) (cS (n1 ⟨5,W,[aX,aX,aX,aX,aX],[.int .i64,.int .i64,.int .i64,.int .i64,.int .i64],.struct [(0,5,W)]⟩ bZ e0) bZ)) (cS (n1 ⟨1,J,[aX],[],.leaf (.int .i64)⟩ (cS bZ e0) bZ) (n1 ⟨1,J,[.lit .nilIface],[],.iface⟩ (cS bZ e0) (bD ⟨4,W,[aX,dK,aX,aX],[.int .i64,.str,.int .i64,.int .i64],qN⟩))))))) (n1 ⟨1,J,[aX],[],.leaf (.int .i64)⟩ (n1 ⟨1,J,[.lit (.bool J)],[],.leaf .bool⟩ (n0 (n1 ⟨1,J,[lE],[],.ptr⟩ (n1 ⟨5,W,[.sl [],.sl [],.sl [],.sl [],aX],[],SR⟩ (n0 (cS (bD ⟨1,J,[.sl []],[],.slice 2 W 40 [dK,.sl []]⟩) e0) (cS bZ e0)) (n1 ⟨3,W,[aX,.sl [],.sl []],[],CJ⟩ (cS bZ e0) bZ)) (n1 ⟨1,J,[aX],[],.leaf (.int .i64)⟩ (cS (n0 (bD ⟨1,J,[.lit .nilIface],[],.iface⟩) e0) (cS (bD ⟨0,W,[],[],.array 0 1 J⟩) e0)) (cS (n0 bZ e0) e0))) (n1 ⟨1,J,[.sl []],[],.slice 2 W 24 [dK,aX]⟩ (cS (n0 (cS (bD ⟨2,W,[dK,.sl []],[],xW⟩) e0) (cS bZ e0)) (n1 ⟨9,W,[.sl [],.sl [],aX,.sl [],.sl [],.sl [],.sl [],.sl [],aX],[],.struct [(0,4,W),(4,5,W)]⟩ (cS bZ e0) bZ)) (cS (n1 ⟨4,W,[aX,aX,dK,.sl []],[],qN⟩ (cS bZ e0) (n1 ⟨15,W,[dK,dK,aX,aX,dK,.sl [],aX,aX,dK,.sl [],aX,aX,dK,.sl [],.sl []],[],.struct [(0,1,J),(1,1,J),(2,4,W),(6,4,W),(10,5,W)]⟩ (bD ⟨1,J,[lE],[],.ptr⟩) e0)) (cS (cS (bD ⟨1,J,[lE],[],.ptr⟩) e0) bZ)))) (n1 ⟨1,J,[.lit (.int .u64 0)],[],.leaf (.int .u64)⟩ (n1 ⟨1,J,[.lit .nilIface],[],.iface⟩ (cS (cS (cS bZ e0) (n1 ⟨1,J,[lE],[],.ptr⟩ bZ e0)) (n1 ⟨4,W,[aX,aX,.sl [],.sl []],[],qN⟩ (cS bZ e0) bZ)) (n1 ⟨5,W,[aX,aX,aX,aX,aX],[.int .i64,.int .i64,.int .i64,.int .i64,.int .i64],.struct [(0,1,J),(1,1,J),(2,1,J),(3,2,W)]⟩ (n1 ⟨4,W,[aX,aX,.sl [],.sl []],[],qN⟩ (cS bZ e0) (n1 ⟨4,W,[aX,aX,dK,.sl []],[],qN⟩ (bD ⟨1,J,[.lit (.int .u32 0)],[],.leaf (.int .u32)⟩) e0)) (n0 (cS bZ e0) e0))) (cS (n0 (n1 ⟨11,W,[.sl [],.sl [],.sl [],.sl [],aX,aX,aX,aX,aX,aX,aX],[],.struct [(0,5,W),(5,1,J),(6,5,W)]⟩ (n1 ⟨3,W,[dK,.sl [],.sl []],[],CJ⟩ bZ e0) (n1 ⟨3,W,[.sl [],.sl [],.sl []],[],CJ⟩ bZ e0)) (cS (n1 ⟨5,W,[aX,aX,aX,aX,aX],[.int .i64,.int .i64,.int .i64,.int .i64,.int .i64],.struct [(0,5,W)]⟩ bZ e0) bZ)) (cS (cS (cS bZ e0) bZ) (cS (cS bZ e0) (bD ⟨1,J,[aX],[],.leaf (.int .i64)⟩)))))) (n0 (n0 (n1 ⟨1,W,[lE],[],W4⟩ (n0 (n0 (cS (bD ⟨2,W,[dK,.sl []],[],xW⟩) e0) (cS bZ e0)) (n1 ⟨1,J,[.sl []],[],.slice 3 W 56 [aX,.sl [],.sl []]⟩ (cS bZ e0) bZ)) (n1 ⟨2,W,[aX,aX],[.int .i64,.int .i64],xW⟩ (n1 ⟨2,W,[dK,aX],[.str,.int .i64],xW⟩ (n1 ⟨4,W,[.sl [],.sl [],aX,.sl []],[],.struct [(0,4,W)]⟩ (bD ⟨0,W,[],[],.struct []⟩) e0) (bD ⟨1,J,[.sl []],[],.slice 4 W 56 [aX,aX,dK,.sl []]⟩)) (n0 (n1 ⟨11,W,[lE,aX,.sl [],aX,.sl [],.sl [],aX,aX,.sl [],.sl [],.sl []],[],.struct [(0,1,J),(1,1,J),(2,1,J),(3,3,W),(6,4,W),(10,1,J)]⟩ bZ e0) e0))) (n1 ⟨4,W,[.sl [],.sl [],aX,.sl []],[],qN⟩ (cS (cS (n1 ⟨1,J,[.sl []],[],.slice 2 W 40 [dK,.sl []]⟩ bZ e0) bZ) (cS (n1 ⟨0,W,[],[],.struct []⟩ (bD ⟨0,W,[],[],.struct []⟩) e0) bZ)) (cS (cS (cS bZ e0) bZ) (cS (cS bZ e0) (bD ⟨3,W,[.sl [],aX,.lit (.bool J)],[],CJ⟩))))) (n0 (n1 ⟨1,J,[.sl []],[],.slice 4 W 64 [aX,aX,.sl [],.sl []]⟩ (n0 (n0 (cS bZ e0) (cS bZ e0)) (cS (cS bZ e0) bZ)) (n1 ⟨2,W,[aX,aX],[.int .i64,.int .i64],xW⟩ (cS (cS bZ e0) (bD ⟨5,W,[aX,aX,dK,.sl [],.sl []],[],SR⟩)) (cS (cS bZ e0) (bD ⟨1,J,[.sl []],[],.slice 4 W 40 [aX,dK,aX,aX]⟩)))) (n1 ⟨1,J,[.sl []],[],.slice 2 W 16 [aX,aX]⟩ (cS (n0 (n0 (bD ⟨1,J,[.lit (.map Y)],[],.other⟩) e0) (cS (bD ⟨4,W,[lE,lE,lE,dK],[],qN⟩) e0)) (n1 ⟨1,J,[.sl []],[],.slice 1 J 1 [.lit (.bool J)]⟩ (n1 ⟨1,W,[aX],[.int .i64],W4⟩ bZ e0) (bD ⟨29,W,[fB,fB,fB,fB,fB,fB,fB,fB,fB,fB,fB,fB,fB,fB,fB,fB,fB,fB,fB,fB,fB,fB,fB,fB,fB,fB,fB,fB,fB],[],.array 29 1 J⟩))) (n0 (cS bZ bZ) (n1 ⟨1,J,[.lit .nilIface],[],.iface⟩ (cS bZ e0) (bD ⟨4,W,[aX,dK,aX,aX],[.int .i64,.str,.int .i64,.int .i64],qN⟩))))))))
noncomputable def Ur:Tr (Ty):=(n0 (n0 (n1 (.int .i64) (n0 (n0 (n0 e0 (bD (.sl (.st 4)))) (n0 e0 (n0 (bD (.st 14)) e0))) (n1 (.sl (.int .i64)) e0 (n1 (.st 7) (n1 (.int .i64) e0 (bD (.st 20))) e0))) (n0 (n0 e0 (n1 (.st 4) (n1 (.sl (.st 0)) (bD (.st 23)) e0) e0)) (n0 (n1 (.sl (.st 9)) (n0 (bD (.sl (.st 21))) e0) e0) e0))) (n1 (.int .u8) (n1 (.str) (n0 (n1 (.int .i64) e0 (bD (.st 5))) (n1 (.int .i64) (n0 e0 (bD (.int .i64))) e0)) (n0 (n0 (n0 (n0 (bD (.st 18)) e0) e0) (n0 (n0 (bD (.int .i64)) e0) e0)) (n0 (n1 (.st 0) (bD (.sl (.str))) (bD (.st 21))) e0))) (n0 (n1 (.int .i32) e0 (n1 (.st 9) (n1 (.st 1) e0 (bD (.sl (.st 20)))) (n0 (bD (.st 15)) e0))) (n1 (.sl (.st 6)) (n0 (n0 (bD (.st 22)) (bD (.st 24))) (n0 (bD (.st 13)) e0)) (n0 (bD (.int .i64)) e0))))) (n1 (.int .i64) (n1 (.bool) (n0 (n0 (n1 (.st 8) (n0 (n0 (bD (.sl (.st 18))) e0) e0) e0) (n1 (.int .i64) (n0 (n0 (bD (.cT 29)) e0) e0) e0)) (n1 (.sl (.st 2)) (n0 e0 (bD (.st 11))) e0)) (n1 (.int .u64) (n1 (.cT 30) (n0 e0 (bD (.st 6))) (n0 (n0 e0 (n1 (.st 17) (bD (.int .u32)) e0)) e0)) (n0 (n0 (bD (.st 10)) e0) (n0 e0 (n0 e0 (bD (.int .i64))))))) (n0 (n0 (n0 (n0 (n0 (n0 (bD (.st 19)) e0) e0) (bD (.sl (.st 5)))) (n0 (n1 (.st 2) (n0 (bD (.st 27)) e0) (bD (.sl (.st 17)))) e0)) (n1 (.st 3) (n0 (n0 (bD (.sl (.st 19))) e0) (n0 (n1 (.st 12) (bD (.st 28)) e0) e0)) (n0 e0 (n0 e0 (bD (.st 26)))))) (n0 (n1 (.sl (.st 1)) e0 (n0 e0 (n0 e0 (bD (.sl (.st 25)))))) (n1 (.sl (.st 7)) (n0 e0 (bD (.sl (.bool)))) (n0 e0 (n1 (.cT 16) e0 (bD (.st 25)))))))))
noncomputable def mtT:Tr (MT):=(n0 (n0 (n0 (n0 (n0 (n0 e0 (n0 (bD ⟨.int .i64,Z (.int .i64),3⟩) e0)) e0) e0) e0) (n0 (n0 e0 (n0 e0 (n0 (n0 (n0 (bD ⟨.int .i64,Z (.bool),4⟩) e0) e0) e0))) e0)) (n0 e0 (n0 e0 (n0 e0 (n0 (n0 (n0 (n0 (bD ⟨.str,Z (.bool),4⟩) e0) e0) e0) e0)))))
noncomputable def vM:Tr (L (String×FuncId)):=(n0 (n0 (n0 (n0 (n1 [("Error",328),("RuntimeError",329)] e0 (n0 e0 (n0 (n1 [("hearth/mean.event",114)] e0 e0) e0))) e0) (n1 [("Error",324),("RuntimeError",325)] (n1 [("Error",333),("RuntimeError",334)] e0 (n0 (n0 (n1 [("hearth/bind.formed",87),("hearth/bind.node",153),("hearth/bind.number",204),("hearth/bind.pat",203)] e0 e0) e0) e0)) e0)) (n0 (n0 (n1 [("Align",332)] e0 e0) (n0 (n0 (n0 e0 (n1 [("hearth/hearthref05.known",143),("hearth/hearthref05.knownPat",191),("hearth/hearthref05.pattern",194),("hearth/hearthref05.put",145)] e0 e0)) (n0 (n0 (n1 [("hearth/bind.fine",339)] e0 e0) e0) e0)) e0)) (n0 (n0 (n0 e0 (n1 [("hearth/mean.copied",51),("hearth/mean.finish",111),("hearth/mean.frame",266),("hearth/mean.frames",212),("hearth/mean.next",110),("hearth/mean.object",163),("hearth/mean.open",267),("hearth/mean.ordered",60),("hearth/mean.ready",68),("hearth/mean.settle",50),("hearth/mean.step",70),("hearth/mean.task",213),("hearth/mean.tasks",164),("hearth/mean.turn",59),("hearth/mean.value",211),("hearth/mean.world",99)] e0 e0)) (n0 e0 (n0 (n1 [("hearth/mean.event",337)] e0 e0) e0))) (n0 (n0 e0 (n0 (n1 [("hearth/mean.event",336)] e0 e0) e0)) e0)))) (n0 (n0 (n1 [("Error",320),("RuntimeError",321)] (n1 [("Error",330),("RuntimeError",331)] e0 e0) e0) (n0 (n0 (n0 (n0 e0 (n1 [("hearth/hearthref02.applied",312),("hearth/hearthref02.atom",313),("hearth/hearthref02.begins",314),("hearth/hearthref02.call",317),("hearth/hearthref02.cases",316),("hearth/hearthref02.data",183),("hearth/hearthref02.function",184),("hearth/hearthref02.has",182),("hearth/hearthref02.is",246),("hearth/hearthref02.kind",248),("hearth/hearthref02.module",136),("hearth/hearthref02.of",306),("hearth/hearthref02.pat",319),("hearth/hearthref02.product",307),("hearth/hearthref02.sees",247),("hearth/hearthref02.simple",286),("hearth/hearthref02.sum",288),("hearth/hearthref02.take",181),("hearth/hearthref02.term",249),("hearth/hearthref02.terms",315),("hearth/hearthref02.under",287),("hearth/hearthref02.want",180),("hearth/hearthref02.whole",137)] e0 e0)) e0) e0) e0)) (n0 (n1 [("Error",322),("RuntimeError",323)] (n0 e0 (n0 (n0 (n0 (n1 [("hearth/bind.fine",338)] e0 e0) e0) e0) e0)) (n0 (n0 e0 (n0 (n1 [("hearth/mean.event",335)] (n1 [("hearth/bind.fine",340)] e0 e0) e0) e0)) e0)) (n1 [("Error",326),("RuntimeError",327)] (n0 e0 (n0 (n0 e0 (n0 (n1 [("String",341)] e0 e0) e0)) e0)) e0))))
noncomputable def qj:Tr (Func):=(n1 f0 (n1 f1 (n1 f3 (n1 f7 (n1 f15 (n1 f31 (n1 f63 (n1 f127 (bD f255) e0) (n1 f191 (bD f319) e0)) (n1 f95 (n1 f159 (bD f287) e0) (bD f223))) (n1 f47 (n1 f79 (n1 f143 (bD f271) e0) (n1 f207 (bD f335) e0)) (n1 f111 (n1 f175 (bD f303) e0) (bD f239)))) (n1 f23 (n1 f39 (n1 f71 (n1 f135 (bD f263) e0) (n1 f199 (bD f327) e0)) (n1 f103 (n1 f167 (bD f295) e0) (bD f231))) (n1 f55 (n1 f87 (n1 f151 (bD f279) e0) (bD f215)) (n1 f119 (n1 f183 (bD f311) e0) (bD f247))))) (n1 f11 (n1 f19 (n1 f35 (n1 f67 (n1 f131 (bD f259) e0) (n1 f195 (bD f323) e0)) (n1 f99 (n1 f163 (bD f291) e0) (bD f227))) (n1 f51 (n1 f83 (n1 f147 (bD f275) e0) (n1 f211 (bD f339) e0)) (n1 f115 (n1 f179 (bD f307) e0) (bD f243)))) (n1 f27 (n1 f43 (n1 f75 (n1 f139 (bD f267) e0) (n1 f203 (bD f331) e0)) (n1 f107 (n1 f171 (bD f299) e0) (bD f235))) (n1 f59 (n1 f91 (n1 f155 (bD f283) e0) (bD f219)) (n1 f123 (n1 f187 (bD f315) e0) (bD f251)))))) (n1 f5 (n1 f9 (n1 f17 (n1 f33 (n1 f65 (n1 f129 (bD f257) e0) (n1 f193 (bD f321) e0)) (n1 f97 (n1 f161 (bD f289) e0) (bD f225))) (n1 f49 (n1 f81 (n1 f145 (bD f273) e0) (n1 f209 (bD f337) e0)) (n1 f113 (n1 f177 (bD f305) e0) (bD f241)))) (n1 f25 (n1 f41 (n1 f73 (n1 f137 (bD f265) e0) (n1 f201 (bD f329) e0)) (n1 f105 (n1 f169 (bD f297) e0) (bD f233))) (n1 f57 (n1 f89 (n1 f153 (bD f281) e0) (bD f217)) (n1 f121 (n1 f185 (bD f313) e0) (bD f249))))) (n1 f13 (n1 f21 (n1 f37 (n1 f69 (n1 f133 (bD f261) e0) (n1 f197 (bD f325) e0)) (n1 f101 (n1 f165 (bD f293) e0) (bD f229))) (n1 f53 (n1 f85 (n1 f149 (bD f277) e0) (n1 f213 (bD f341) e0)) (n1 f117 (n1 f181 (bD f309) e0) (bD f245)))) (n1 f29 (n1 f45 (n1 f77 (n1 f141 (bD f269) e0) (n1 f205 (bD f333) e0)) (n1 f109 (n1 f173 (bD f301) e0) (bD f237))) (n1 f61 (n1 f93 (n1 f157 (bD f285) e0) (bD f221)) (n1 f125 (n1 f189 (bD f317) e0) (bD f253))))))) (n1 f2 (n1 f4 (n1 f8 (n1 f16 (n1 f32 (n1 f64 (n1 f128 (bD f256) e0) (n1 f192 (bD f320) e0)) (n1 f96 (n1 f160 (bD f288) e0) (bD f224))) (n1 f48 (n1 f80 (n1 f144 (bD f272) e0) (n1 f208 (bD f336) e0)) (n1 f112 (n1 f176 (bD f304) e0) (bD f240)))) (n1 f24 (n1 f40 (n1 f72 (n1 f136 (bD f264) e0) (n1 f200 (bD f328) e0)) (n1 f104 (n1 f168 (bD f296) e0) (bD f232))) (n1 f56 (n1 f88 (n1 f152 (bD f280) e0) (bD f216)) (n1 f120 (n1 f184 (bD f312) e0) (bD f248))))) (n1 f12 (n1 f20 (n1 f36 (n1 f68 (n1 f132 (bD f260) e0) (n1 f196 (bD f324) e0)) (n1 f100 (n1 f164 (bD f292) e0) (bD f228))) (n1 f52 (n1 f84 (n1 f148 (bD f276) e0) (n1 f212 (bD f340) e0)) (n1 f116 (n1 f180 (bD f308) e0) (bD f244)))) (n1 f28 (n1 f44 (n1 f76 (n1 f140 (bD f268) e0) (n1 f204 (bD f332) e0)) (n1 f108 (n1 f172 (bD f300) e0) (bD f236))) (n1 f60 (n1 f92 (n1 f156 (bD f284) e0) (bD f220)) (n1 f124 (n1 f188 (bD f316) e0) (bD f252)))))) (n1 f6 (n1 f10 (n1 f18 (n1 f34 (n1 f66 (n1 f130 (bD f258) e0) (n1 f194 (bD f322) e0)) (n1 f98 (n1 f162 (bD f290) e0) (bD f226))) (n1 f50 (n1 f82 (n1 f146 (bD f274) e0) (n1 f210 (bD f338) e0)) (n1 f114 (n1 f178 (bD f306) e0) (bD f242)))) (n1 f26 (n1 f42 (n1 f74 (n1 f138 (bD f266) e0) (n1 f202 (bD f330) e0)) (n1 f106 (n1 f170 (bD f298) e0) (bD f234))) (n1 f58 (n1 f90 (n1 f154 (bD f282) e0) (bD f218)) (n1 f122 (n1 f186 (bD f314) e0) (bD f250))))) (n1 f14 (n1 f22 (n1 f38 (n1 f70 (n1 f134 (bD f262) e0) (n1 f198 (bD f326) e0)) (n1 f102 (n1 f166 (bD f294) e0) (bD f230))) (n1 f54 (n1 f86 (n1 f150 (bD f278) e0) (bD f214)) (n1 f118 (n1 f182 (bD f310) e0) (bD f246)))) (n1 f30 (n1 f46 (n1 f78 (n1 f142 (bD f270) e0) (n1 f206 (bD f334) e0)) (n1 f110 (n1 f174 (bD f302) e0) (bD f238))) (n1 f62 (n1 f94 (n1 f158 (bD f286) e0) (bD f222)) (n1 f126 (n1 f190 (bD f318) e0) (bD f254))))))))
noncomputable def prog:Program:=Go.Proofs.Tryz.prog
noncomputable def IN:gi:=mkE prog PX Ur mtT vM qj λn=>bif Nq n 1 then Z 2 else Y
end
def h1:PX.mapKey (λk _=>abB prog (Ou prog) k)=PX.mapKey λ_ i=>Z i:=by kernel_rfl
def h2:qj.mapKey (λk _=>prog.funcs[k]?)=qj.mapKey λ_ f=>Z f:=by kernel_rfl
def h3:Ur.mapKey (λk τ=>(PX.get k).map (KH sg τ))=Ur.mapKey λk τ=>(PX.get k).map (KG sg τ):=by kernel_rfl
def h4:qj.mapKey (λ_ f=>f.name== "runtime.NumGoroutine")=qj.mapKey λ_ _=>J:=by kernel_rfl
def h5:mtT.mapKey (λk m=>mtB IN k m)=mtT.mapKey λ_ _=>W:=by kernel_rfl
def h6:vM.mapKey (λk l=>l.all (Tj prog k))=vM.mapKey λ_ _=>W:=by kernel_rfl
def aeF(IK:FuncId->O (me sg))(sh:FuncId->Nat->O LSh)(d:∀f c,IK f=Z c->bH prog f c)(a:Bool)(b:FuncId->O JSh):fq (⟨IN,IK,sh,a,b⟩:eT sg):=
 ZE aea h1 h2 h3 h4 h5 h6 IK sh d a b
section
def shL(l:L (Nat×Nat×LSh))(f b:Nat):O LSh:=match l with
 |[]=>Y|p::l=>bif Nq p.1 f&&Nq p.2.1 b then Z p.2.2 else shL l f b
def mixed:prog.follows .mixedOrders=W:=by kernel_rfl
def aiT(l:L (FuncId×me sg))(hl:OkL prog l)(sh:FuncId->Nat->O LSh)(pn:Bool)(a:FuncId->O JSh)(n d:Nat)(f:FuncId)(ps:L Pk)(rs:L Ck)(b:((qj.get f).bind (·.body)).isSome=W)
  {F:fX sg.A ps->O (RT pn (gr sg.A rs×iw sg.A ps) (den sg.A sg.pt×iw sg.A ps))} (h:(λx=>AS (⟨IN,PZ l,sh,pn,a⟩:eT sg) n d f ps rs x)=F):bH prog f (⟨ps,rs,pn,F⟩:me sg):=by
 cases h1:qj.get f with
 |none=>simp_all|some fn=>
  cases h2:fn.body with|none=>simp_all|some c=>have:=aeH (E:=(⟨IN,PZ l,sh,pn,a⟩:eT sg)) (aeF (PZ l) sh (SP hl) pn a) mixed (f:=f) (fn:=fn) (c:=c) h1 h2 n d ps rs;rw[<-h];exact this
def Vg(l:L (FuncId×me sg))(hl:OkL prog l)(sh:FuncId->Nat->O LSh)(pn:Bool)(n d:Nat)(f:FuncId)(ps:L Pk)(rs:L Ck)(a:((qj.get f).bind (·.body)).isSome=W)
  {F:fX sg.A ps->O (RT pn (gr sg.A rs×iw sg.A ps) (den sg.A sg.pt×iw sg.A ps))} (h:(λx=>AS (⟨IN,PZ l,sh,pn,λ_=>Y⟩:eT sg) n d f ps rs x)=F):bH prog f (⟨ps,rs,pn,F⟩:me sg):=
 aiT l hl sh pn _ n d f ps rs a h
noncomputable def aeJ(f:Nat):Code:=match(qj.get f).bind (·.body)with
 |some c=>c|none=>.skip
def cjL(l:L (Nat×JSh))(f:Nat):O JSh:=match l with
 |[]=>Y|p::l=>bif Nq p.1 f then Z p.2 else cjL l f
structure OC where
 f:FuncId
 c:me sg
 h:bH prog f c
def Ks(l:L OC)(f:FuncId):O (me sg):=match l with
 |[]=>Y|k::l=>bif Nq k.f f then Z k.c else Ks l f
def SO:∀{l:L OC}(f:FuncId)(c:me sg),Ks l f=Z c->bH prog f c
 |[],_,_,h=>by cases h
 |k::l,f,c,h=>by
  unfold Ks at h;cases a:Nq k.f f with
  |true=>
   rw[a]at h;have e:k.f=f:=xI a;injection h with h
   rw[<-h,<-e];exact k.h
  |false=>rw[a]at h;exact SO f c h
variable {pn:Bool}{ps:List Pk}{rs:List Ck}
def aiU(l:L OC)(sh:FuncId->Nat->O LSh)(b:FuncId->O JSh)(n d:Nat)(f:FuncId)
  {F:fX sg.A ps->O (RT pn (gr sg.A rs×iw sg.A ps) (den sg.A sg.pt×iw sg.A ps))} (h:(((qj.get f).bind (·.body)).isSome,λx=>AS (⟨IN,Ks l,sh,pn,b⟩:eT sg) n d f ps rs x)=(W,F):=by kernel_rfl):bH prog f (⟨ps,rs,pn,F⟩:me sg):=by
 have a:((qj.get f).bind (·.body)).isSome=W:=pU Prod.fst h;have h:(λx=>AS (⟨IN,Ks l,sh,pn,b⟩:eT sg) n d f ps rs x)=F:=pU Prod.snd h;cases h1:qj.get f with
 |none=>rw[h1]at a;cases a
 |some fn=>
  rw[h1]at a;cases h2:fn.body with
  |none=>rw[show(Z fn:O Func).bind (·.body)=fn.body from rfl,h2]at a;cases a
  |some c=>have:=aeH (E:=(⟨IN,Ks l,sh,pn,b⟩:eT sg)) (aeF (Ks l) sh SO pn b) mixed (f:=f) (fn:=fn) (c:=c) h1 h2 n d ps rs;rw[<-h];exact this
def cM(l:L OC)(sh:L (Nat×Nat×LSh))(n d:Nat)(f:FuncId)
  {F:fX sg.A ps->O (RT pn (gr sg.A rs×iw sg.A ps) (den sg.A sg.pt×iw sg.A ps))} (h:(((qj.get f).bind (·.body)).isSome,λx=>AS (⟨IN,Ks l,shL sh,pn,λ_=>Y⟩:eT sg) n d f ps rs x)=(W,F):=by kernel_rfl):bH prog f (⟨ps,rs,pn,F⟩:me sg):=aiU l (shL sh) (λ_=>Y) n d f h
def enters(f:FuncId)(a:((qj.get f).bind (·.body)).isSome=W):lN prog f:=
 (Vg [] trivial (λ_ _=>Y) J 0 0 f [] [] a rfl).1
end
abbrev ak4:Ck:=.dat (.sl (.st 25))
abbrev LS:Ck:=.dat (.sl (.st 7))
abbrev aab:Ck:=.dat (.sl (.st 6))
abbrev xT:Ck:=.dat (.sl (.st 5))
abbrev qL:Ck:=.dat (.sl (.st 4))
abbrev b8y:Ck:=.dat (.sl (.st 2))
abbrev b7y:Ck:=.dat (.sl (.st 1))
abbrev b6y:Ck:=.dat (.sl (.st 0))
abbrev Eb:Ck:=.dat (.sl (.int .i64))
abbrev b4y:Ck:=.dat (.bool)
abbrev mN:Ck:=.dat (.int .i64)
abbrev dn:Pk:=.one (b4y)
abbrev dj:Pk:=.one (mN)
abbrev IV:Pk:=.box (.cells [.own (.int .i64)])
abbrev LR:Pk:=.box (.map (.int .i64) (.int .i64))
abbrev ak6:Pk:=.box (.cells [.dat (.str),.own (.st 17)])
abbrev ak7:Pk:=.box (.cells [.dat (.str),.own (.st 19),.own (.st 21)])
abbrev xS:Pk:=.box (.cells [ak4,mN,b4y])
abbrev We:Pk:=.box (.cells [.dat (.sl (.str)),b8y,.j0 1 2 (.int .i64)])
abbrev ahh:Pk:=.box (.cells [mN,mN,.dat (.str),.own (.st 0)])
abbrev ak8:Pk:=.box (.cells [.nil (.st 1),.nil (.int .i64),mN,.nil (.st 2)])
abbrev adE:Pk:=.box (.cells [mN,.dat (.str),mN,mN])
abbrev adF:Pk:=.box (.cells [mN,mN,.nil (.int .i64),.own (.st 0)])
abbrev ak9:Pk:=.box (.cells [mN,mN,qL,.own (.st 5)])
abbrev aac:Pk:=.box (.cells [mN,mN,qL,xT])
abbrev b7z:Pk:=.box (.cells [mN,mN,.dat (.str),.dat (.sl (.st 20)),b6y])
abbrev b6z:Pk:=.box (.cells [.own (.st 6),.own (.int .i64),LS,Eb,mN])
abbrev b4z:Pk:=.box (.cells [aab,Eb,LS,Eb,mN])
abbrev WG:Pk:=.hid (.cells [b7y,Eb,mN,b8y,aab,Eb,LS,Eb,mN])
abbrev b2z:Pk:=.box (.cells [b7y,Eb,mN,b8y,aab,Eb,LS,Eb,mN])
abbrev WH:Pk:=.box (.link [] [mN,xT,mN,qL,qL,mN,mN,Eb,b6y,qL])
abbrev b0z:Pk:=.box (.cells [aab,Eb,LS,Eb,mN,mN,mN,mN,mN,mN,mN])
abbrev P1:L Pk:=[.one (.dat (.st 0)),dj]
abbrev K2:L Ck:=[mN]
abbrev P3:L Pk:=[.one (.dat (.st 0))]
abbrev K4:L Ck:=[b4y]
abbrev P5:L Pk:=[.one (.dat (.st 3))]
abbrev P6:L Pk:=[dj,dj,dj]
abbrev P7:L Pk:=[.one (.dat (.str))]
abbrev P8:L Pk:=[.one (.dat (.st 2))]
abbrev P9:L Pk:=[.one (.dat (.sl (.str)))]
abbrev K10:L Ck:=[.dat (.str)]
abbrev P11:L Pk:=[dj]
abbrev K12:L Ck:=[.dat (.cT 29)]
abbrev P13:L Pk:=[.one (.dat (.st 23)),.one (.dat (.st 0))]
abbrev P14:L Pk:=[.one (.dat (.st 23)),.one (.dat (.st 1))]
abbrev P15:L Pk:=[.one (.dat (.st 23))]
abbrev P16:L Pk:=[.one (Eb)]
abbrev K17:L Ck:=[.dat (.st 4)]
abbrev K18:L Ck:=[.own (.int .i64)]
abbrev P19:L Pk:=[.one (.dat (.cT 16))]
abbrev P20:L Pk:=[.one (aab)]
abbrev K21:L Ck:=[.own (.st 6)]
abbrev P22:L Pk:=[.one (.dat (.st 4))]
abbrev P23:L Pk:=[.one (.dat (.st 14))]
abbrev K24:L Ck:=[.dat (.st 9)]
abbrev P25:L Pk:=[dn,dj]
abbrev P26:L Pk:=[WH,WG,.one (xT)]
abbrev P27:L Pk:=[.one (.dat (.st 1))]
abbrev P28:L Pk:=[WH,WG,dj,.one (qL)]
abbrev K29:L Ck:=[.dat (.cT 16)]
abbrev P30:L Pk:=[WH,WG,.one (.dat (.st 4))]
abbrev P31:L Pk:=[dn]
abbrev Ee:L Pk:=[WH,WG]
abbrev P33:L Pk:=[WH,WG,.one (.dat (.st 6))]
abbrev P34:L Pk:=[.one (qL),.one (qL)]
abbrev K35:L Ck:=[qL]
abbrev P36:L Pk:=[WH,WG,.one (.dat (.st 4)),dj]
abbrev K37:L Ck:=[.dat (.st 6),b4y]
abbrev P38:L Pk:=[WH,WG,.one (.dat (.st 4)),.one (.dat (.st 4))]
abbrev K39:L Ck:=[.dat (.st 5),b4y]
abbrev K40:L Ck:=[.dat (.st 6)]
abbrev K41:L Ck:=[mN,mN]
abbrev P42:L Pk:=[WH,WG,.one (.dat (.st 0)),.one (.dat (.st 4)),.box (.cells [.own (.st 4)])]
abbrev P43:L Pk:=[WH,WG,dj,.one (.dat (.st 6))]
abbrev P44:L Pk:=[.one (xT)]
abbrev K45:L Ck:=[.own (.st 5)]
abbrev P46:L Pk:=[b2z,dj]
abbrev K47:L Ck:=[mN,b4y]
abbrev P48:L Pk:=[.one (LS)]
abbrev K49:L Ck:=[.own (.st 7)]
abbrev P50:L Pk:=[.one (qL)]
abbrev K51:L Ck:=[.own (.st 4)]
abbrev P52:L Pk:=[b2z]
abbrev K53:L Ck:=[.dat (.st 8)]
abbrev P54:L Pk:=[.one (.dat (.st 3)),.one (Eb)]
abbrev K55:L Ck:=[.dat (.st 8),mN]
abbrev P56:L Pk:=[.one (.ptr (.st 11)),.one (.dat (.st 4))]
abbrev P57:L Pk:=[.one (.ptr (.st 11)),.one (.dat (.st 5))]
abbrev P58:L Pk:=[.one (.ptr (.st 11)),.one (xT),dj]
abbrev P59:L Pk:=[.one (.ptr (.st 11)),.one (.dat (.st 6))]
abbrev P60:L Pk:=[.one (.ptr (.st 11))]
abbrev P61:L Pk:=[.one (.dat (.st 7))]
abbrev P62:L Pk:=[.one (.ptr (.st 11)),dj]
abbrev K63:L Ck:=[Eb]
abbrev K64:L Ck:=[.dat (.st 9),mN,mN]
abbrev P65:L Pk:=[.one (.dat (.st 3)),.one (.dat (.st 8)),.one (Eb)]
abbrev K66:L Ck:=[.dat (.st 8),.dat (.sl (.st 9)),mN]
abbrev P67:L Pk:=[.one (.dat (.st 3)),.one (.dat (.st 8))]
abbrev P68:L Pk:=[.one (.dat (.st 3)),.one (.dat (.st 8)),dj]
abbrev K69:L Ck:=[.dat (.st 8),.dat (.st 9),mN,mN]
abbrev P70:L Pk:=[.one (.dat (.str)),dj]
abbrev P71:L Pk:=[.one (.dat (.sl (.str))),.one (.dat (.str))]
abbrev K72:L Ck:=[.dat (.sl (.str))]
abbrev P73:L Pk:=[.one (.dat (.int .u8))]
abbrev P74:L Pk:=[.one (.dat (.str)),dj,dn]
abbrev K75:L Ck:=[.dat (.st 25)]
abbrev K76:L Ck:=[ak4,mN]
abbrev P77:L Pk:=[.one (.ptr (.st 26)),.one (.dat (.str))]
abbrev P78:L Pk:=[xS,.one (.dat (.str))]
abbrev P79:L Pk:=[.one (.ptr (.st 26)),dj]
abbrev Pp:L Pk:=[xS,dj]
abbrev lJ:L Pk:=[xS]
abbrev K82:L Ck:=[.dat (.st 17)]
abbrev K83:L Ck:=[.dat (.st 19)]
abbrev P84:L Pk:=[dj,.one (.dat (.st 20)),.one (.dat (.st 20))]
abbrev K85:L Ck:=[.dat (.st 20)]
abbrev K86:L Ck:=[.dat (.st 0)]
abbrev P87:L Pk:=[.one (.ptr (.st 26))]
abbrev K88:L Ck:=[.dat (.sl (.st 20))]
abbrev K89:L Ck:=[.dat (.st 21)]
abbrev K90:L Ck:=[.dat (.st 22)]
abbrev P91:L Pk:=[.one (.dat (.st 17)),dj]
abbrev P92:L Pk:=[.one (.dat (.st 17)),dn]
abbrev P93:L Pk:=[.one (.dat (.st 17))]
abbrev P94:L Pk:=[.one (.dat (.st 19))]
abbrev P95:L Pk:=[.one (.dat (.st 20)),dj,dj]
abbrev P96:L Pk:=[.one (.dat (.st 20)),dn,dn,dn]
abbrev P97:L Pk:=[.one (.dat (.st 20))]
abbrev P98:L Pk:=[.one (.dat (.st 22))]
abbrev K99:L Ck:=[.dat (.st 22),mN]
abbrev K100:L Ck:=[b8y]
abbrev al0:L Pk:=[.one (b8y)]
abbrev asZ:L Pk:=[.one (b8y),.one (.dat (.str))]
abbrev Wx:L Pk:=[.one (.ptr (.st 24)),.one (.dat (.st 0))]
abbrev asY:L Pk:=[.one (.dat (.sl (.str))),.one (.dat (.sl (.str)))]
abbrev asX:L Pk:=[.one (.dat (.st 20)),dj]
abbrev Ww:L Pk:=[.one (.ptr (.st 24)),.one (.dat (.st 20)),.one (.dat (.sl (.str)))]
abbrev Wv:L Pk:=[We,.one (.dat (.st 0))]
abbrev Wu:L Pk:=[We,.one (.dat (.st 20)),.one (.dat (.sl (.str)))]
abbrev K109:L Ck:=[.dat (.st 3),mN]
abbrev K110:L Ck:=[.dat (.st 3)]
abbrev Wt:L Pk:=[.one (.dat (.st 0)),.one (b8y)]
abbrev asW:L Pk:=[.one (.dat (.st 3)),.one (.dat (.st 1))]
abbrev alZ:L Pk:=[.one (Eb),dj]
abbrev asV:L Pk:=[.one (Eb),.one (Eb)]
abbrev asU:L Pk:=[.one (LS),.one (LS)]
abbrev alY:L Pk:=[.one (.dat (.st 6)),.one (.dat (.st 6))]
abbrev asT:L Pk:=[.one (.dat (.st 8)),.one (.dat (.st 8))]
abbrev alX:L Pk:=[.one (.dat (.st 8))]
abbrev asS:L Pk:=[.one (qL),.one (.dat (.st 4))]
abbrev ahH:L Pk:=[.one (.dat (.st 8)),dj,.one (xT),dj,.one (qL)]
abbrev K121:L Ck:=[.dat (.st 10)]
abbrev asR:L Pk:=[.one (.dat (.st 8)),.one (.dat (.st 4)),dj]
abbrev asQ:L Pk:=[.one (.dat (.st 3)),.one (.dat (.st 8)),.one (.dat (.st 4)),.one (.dat (.st 4))]
abbrev asP:L Pk:=[.one (.dat (.st 3)),.one (.dat (.st 8)),dj,.one (xT),.one (.dat (.st 4)),.one (.dat (.st 4))]
abbrev asO:L Pk:=[.one (.dat (.st 8)),dj,.one (xT),dj,.one (.dat (.st 4)),.one (.dat (.st 4))]
abbrev Ws:L Pk:=[.one (.dat (.st 8)),.one (.dat (.st 0)),.one (.dat (.st 4))]
abbrev K127:L Ck:=[qL,b4y]
abbrev asN:L Pk:=[.one (.dat (.st 8)),dj,.one (xT),.one (.dat (.st 1)),.one (qL),.one (.dat (.st 4))]
abbrev asM:L Pk:=[.one (.dat (.st 3)),.one (.dat (.st 8)),dj,.one (xT),dj,.one (qL)]
abbrev asL:L Pk:=[.one (.dat (.st 10)),dj,dj,dj,.one (.dat (.st 4))]
abbrev asK:L Pk:=[.one (.dat (.st 3)),.one (.dat (.st 8)),dj,.one (xT),.one (.dat (.st 4))]
abbrev asJ:L Pk:=[.one (.dat (.st 8)),dj,.one (xT),.one (.dat (.st 4))]
abbrev asI:L Pk:=[.one (.dat (.st 8)),dj,.one (xT),.one (.dat (.st 1)),.one (qL)]
abbrev asH:L Pk:=[.one (.dat (.st 3)),.one (.dat (.st 8)),dj,.one (xT),.one (.dat (.st 5))]
abbrev K135:L Ck:=[.dat (.st 8),mN,b4y]
abbrev K136:L Ck:=[.dat (.st 8),b4y]
abbrev asG:L Pk:=[.one (.dat (.st 3)),.one (.dat (.st 8)),.one (.dat (.st 4))]
abbrev asF:L Pk:=[.one (.dat (.st 3)),.one (.dat (.st 8)),.one (qL),dj]
abbrev asE:L Pk:=[.one (.dat (.st 3)),.one (.dat (.st 8)),.one (xT)]
abbrev asD:L Pk:=[.one (.dat (.st 3)),.one (xT),dj]
abbrev alW:L Pk:=[.one (.dat (.st 3)),.one (.dat (.st 8)),.one (.dat (.st 6))]
abbrev asC:L Pk:=[dj,dj]
abbrev asB:L Pk:=[.one (.dat (.sl (.st 9))),.one (.dat (.sl (.st 9)))]
abbrev P144:L Pk:=[.one (.own (.int .i64)),dj]
abbrev P145:L Pk:=[.one (.own (.int .i64)),.one (qL)]
abbrev P146:L Pk:=[.one (qL),.one (Eb)]
abbrev K147:L Ck:=[.dat (.st 8),mN,mN]
abbrev P148:L Pk:=[.one (.dat (.st 3)),.one (.dat (.st 8)),.one (Eb),.one (Eb)]
abbrev K149:L Ck:=[Eb,mN]
abbrev K150:L Ck:=[.dat (.st 8),.dat (.st 9),mN]
abbrev asA:L Pk:=[.one (.dat (.st 5)),.one (.dat (.st 5))]
abbrev asy:L Pk:=[.one (.dat (.st 3)),.one (.dat (.st 8)),.one (.dat (.st 8))]
abbrev K153:L Ck:=[b4y,mN]
abbrev asx:L Pk:=[.one (.dat (.st 12))]
abbrev asw:L Pk:=[.one (.dat (.st 13))]
abbrev asv:L Pk:=[.one (.dat (.st 15))]
abbrev asu:L Pk:=[.one (.dat (.st 27)),.one (.dat (.st 23)),.one (.dat (.st 1))]
abbrev ast:L Pk:=[dj,.one (.dat (.st 23)),.one (.dat (.st 1))]
abbrev ass:L Pk:=[.one (.dat (.st 28)),.one (.dat (.st 23)),.one (.dat (.st 1))]
abbrev Fn(ps:L Pk)(rs:L Ck)(pn:Bool):Type:=fX sg.A ps->O (RT pn (gr sg.A rs×iw sg.A ps) (den sg.A sg.pt×iw sg.A ps))
abbrev Y1:=U×Int×L av×Int×L aj×L aj×Int×Int×L Int×L aG×L aj×U
abbrev Y2:=L bw×L Int×Int×L cO×L aB×L Int×L ef×L Int×Int×U
abbrev Y3:=(cx×U)×Y1×Y2×U
abbrev Y4:=Any×Y1×Y2×U
abbrev Y5:=Nat->Y1×Y2×U->O (Rx Y3 Y4)
abbrev Y6:=LO (Int×Bool×U) (cx×U) U Any
abbrev Y7:=L fM×Int×Bool×U
abbrev Y8:=(aG×U)×Y7×U
abbrev Y9:=Int×Int×L UInt8×L aG×U
abbrev fW:=(Bool×U)×U
abbrev Y11:=Nat->aG×U->O fW
abbrev Y12:=dO×aG×U
abbrev MI:=LO (Bool×Bool×U) (Bool×U) U Any
abbrev RO:=LO (Bool×U) (Int×U) U Any
abbrev Iq:=O ((Int×U)×U)
abbrev Y16:=Nat->bw×U->Iq
abbrev Y17:=az×af×U
abbrev Y18:=(L Int×U)×U
abbrev WJ:=L Int×Int×U
abbrev Y20:=Rx (U×U) (Any×U)
abbrev Y21:=Nat->Y17->O fW
abbrev Y22:=L av×U
abbrev Bf:=L (L UInt8)×L cO×L bw×U
abbrev Y24:=Int×Bf×Y9×U
abbrev Y25:=(aG×U)×Bf×U
abbrev Y26:=Bf×aG×U
abbrev Wl:=(aj×U)×U
abbrev Y28:=Nat->Y1×Y2×U->O Y3
abbrev Y29:=az×L Int×U
abbrev Y30:=(af×Int×U)×U
abbrev Y31:=az×af×Int×U
abbrev Kf:=(aF×U)×U
abbrev Y33:=Nat->L UInt8×U->O fW
abbrev Y34:=aB×Bool×U
abbrev Y35:=L aN×L aN×U
abbrev Y36:=Nat->Int×U->O fW
abbrev Y37:=Nat->(aG×U->O fW)->aG×U->O fW
abbrev Y38:=O ((af×U)×U)
abbrev Y39:=(aN×U)×U
abbrev yD:=Int×Int×L aj×L av×U
abbrev Y41:=Int×L (Int×Int)×(L Int×U)×U
abbrev Y42:=L (Int×Int)×(L Int×U)×U
abbrev zy:=L aB×L Int×L ef×L Int×Int×U
abbrev Y44:=(L aj×U)×U
abbrev PT:=L aj×Int×U
abbrev Y46:=O (LO PT (L aj×U) U Any)
abbrev WI:=O (LO (Int×yD×U) U (yD×U) Any)
abbrev Y48:=O (LO (Int×zy×U) U (zy×U) Any)
abbrev Y49:=(af×U)×Y2×U
abbrev Y50:=aG×L cO×U
abbrev Y51:=LO (Bool×Int×U) (Bool×U) U Any
abbrev HK:=LO (Bool×U) (Bool×U) U Any
abbrev Y53:=Y1×Y2×aj×aj×U
abbrev Y54:=av×Bool×U
abbrev Y55:=Term×Int×Int×U
abbrev Y56:=Nat->az×af×aB×U->O fW
abbrev Y57:=Nat->U->O Wl
abbrev Y58:=L fM×Int×U
abbrev Y59:=Nat->L UInt8×U->O (Y58×U)
abbrev Y60:=Nat->aj×U->O Wl
abbrev Y61:=av×av×U
abbrev Y62:=L UInt8×Int×U
abbrev Y63:=Int×L UInt8×Int×Int×U
abbrev Y64:=O ((fM×U)×U)
abbrev Y65:=LO (Bool×Y63×U) U (Y63×U) Any
abbrev Y66:=Int×Int×Int×U
abbrev Y67:=Nat->Y66->O fW
abbrev Y68:=LO (Int×Bool×Bool×U) (Bool×U) U Any
abbrev Y69:=Int×Int×zy×zy×U
abbrev Y70:=L aB×L Int×L ef×L Int×Int×Int×Int×Int×Int×Int×Int×U
abbrev Y71:=(af×Int×Bool×U)×U
abbrev Y72:=Bool×Int×zy×U
abbrev Y73:=(af×aN×Int×Int×U)×U
abbrev Y74:=az×af×L Int×U
abbrev Y75:=Nat->Y74->O fW
abbrev Y76:=cP×aB×U
abbrev Y77:=Nat->Y76->O fW
abbrev Y78:=(af×L aN×Int×U)×U
abbrev Y79:=L ef×Int×Int×U
abbrev Y80:=(L UInt8×Nat)×U
abbrev Y81:=Nat->az×U->O fW
abbrev Wk:=L (L UInt8)×U
abbrev Y83:=Nat->U->O (Wk×U)
abbrev Y84:=Nat->Term×U->O fW
abbrev Y85:=af×Int×L av×Int×L aj×U
abbrev Y86:=Nat->Y85->O Kf
abbrev Y87:=Nat->bL×U->O fW
abbrev Y88:=Nat->af×U->O fW
abbrev Y89:=(Bool×Int×U)×U
abbrev Y90:=az×af×af×U
abbrev Y91:=aG×Int×U
abbrev Y92:=Nat->(Y91->Iq)->Y91->Iq
abbrev Y93:=(cz×U)×Y7×U
abbrev Y94:=Y7×U->O Y93
abbrev Y95:=cY×aG×U
abbrev Y96:=O (Rx ((Int×Int×U)×Y1×Y2×U) Y4)
abbrev Y97:=L aj×L aj×U
abbrev Y98:=Y1×Y2×aG×aj×(L aj×U)×U
abbrev Y99:=O ((Bool×U)×Y1×Y2×(L aj×U)×U)
abbrev alT:=Y34×Y1×Y2×U
abbrev alS:=Int×Y1×Y2×(L aj×U)×U
abbrev vo:=(Term×U)×Y7×U
abbrev vn:=Y7×U->O vo
abbrev ahE:=O ((L Term×U)×Y7×U)
abbrev ahD:=Y7×Int×U->ahE
abbrev rX:=Int×Int×L UInt8×L Term×L aG×U
abbrev alR:=Bool×Y7×rX×U
abbrev ash:=Nat->Y74->O Y78
abbrev asf:=L aN×Int×U
abbrev ahC:=(aj×U)×Y1×Y2×U
abbrev Wo:=LO (Int×U) (Int×U) U Any
abbrev alQ:=Y7×L UInt8×U
abbrev ahB:=(Bool×U)×Y7×U
abbrev alP:=L UInt8×L iK×U
abbrev ahA:=L UInt8×L cz×U
abbrev alO:=Bool×Y7×ahA×U
abbrev alN:=Nat->WJ->O fW
abbrev ahz:=Term×Bool×Bool×Bool×U
abbrev LW:=LO (Bool×U) (dz×U) U Any
abbrev Wn:=L (L UInt8)×Int×U
abbrev Wm:=af×Int×L av×bw×L aj×U
abbrev alM:=cz×Bool×U
abbrev alL:=Nat->Y31->O Y73
abbrev aaq:=(Term×U)×U
abbrev adT:=LO (Int×Bool×U) U U Any
abbrev adS:=Nat->vn->Y7×U->O vo
abbrev adR:=af×aG×aj×U
abbrev alK:=L aj×Bool×U
abbrev adQ:=O (alK×U)
abbrev alJ:=Y1×Y2×aj×Int×U
abbrev LV:=L bw×L Int×Int×L cO×U
abbrev alI:=Term×L (L UInt8)×U
abbrev ahy:=Int×LV×Bf×U
abbrev adP:=L cO×Int×U
abbrev adO:=az×af×Int×L av×Int×L aj×U
abbrev alH:=L (L UInt8)×L UInt8×U
abbrev ahx:=(Int×Bool×U)×Y2×U
abbrev ahw:=O ((aN×Int×Int×U)×Y2×U)
abbrev alG:=Nat->Bool×U->O Wl
abbrev I0:=Y1×Y2×aB×U
abbrev alF:=Y7×Int×U->O Y93
abbrev ase:=Nat->af×af×U->O fW
abbrev ahv:=cY×bw×U
abbrev alE:=Nat->ahv->O fW
abbrev Pn:=Int×Int×L Int×L aG×U
abbrev ahu:=Int×Bf×Pn×U
abbrev Pm:=Bf×Term×L (L UInt8)×U
abbrev RN:=(Int×U)×Bf×U
abbrev aht:=Int×U->O RN
abbrev ahs:=LO (Bool×Pn×U) (Int×U) (Pn×U) Any
abbrev adN:=O (U×Y7×U)
abbrev alD:=(cQ×U)×Y7×U
abbrev ahr:=Nat->Int×U->O Wl
abbrev asd:=(Int×Int×U)×U
abbrev adM:=Y7×(L UInt8×L ki×L cQ×U)×U
abbrev ahq:=az×af×Int×L av×aj×aj×U
abbrev alC:=Int×Y1×Y2×U
abbrev alB:=dO×Term×L (L UInt8)×U
abbrev alA:=aB×aB×U
abbrev alz:=Nat->alA->O fW
abbrev aly:=cP×av×U
abbrev alx:=Nat->aly->O fW
abbrev alw:=O ((az×U)×U)
abbrev alv:=O ((L UInt8×U)×U)
abbrev alu:=L UInt8×Int×Bool×U
abbrev Y166:=L aN×Int×zy×zy×U
abbrev aap:=af×Int×L av×Int×aj×aj×U
abbrev aao:=U×Y1×Y2×U
abbrev aan:=L Bool×Int×U
abbrev Pj:=LO (Bool×U) U U Any
abbrev Ph:=az×af×Int×L av×aj×U
abbrev adL:=Bool×Y70×yD×U
abbrev alq:=Nat->cP×U->O fW
abbrev aam:=LO (Bool×Y7×U) (L Term×U) (Y7×U) Any
abbrev aal:=L Term×Y7×U
abbrev alp:=Nat->Wk->O fW
abbrev Y177:=(af×aN×Int×U)×U
abbrev Y178:=Nat->Y31->O fW
abbrev vk:=az×af×Int×L av×av×U
abbrev alm:=L (L UInt8×Bool)
abbrev alk:=cz×Int×U
abbrev alj:=Int×L (Int×Bool)×U
abbrev ahp:=cP×L av×Int×U
abbrev aho:=af×Int×L av×aj×U
abbrev aQ(A B C:Type):=@iter A B C Any
abbrev q83(F:Fn P1 K2 J):me sg:=⟨P1,K2,J,F⟩
def B83:Y92:=
 λn f83 c=>au (aD c.2.1 1) (Z (((-1),()),())) (ai (aQ (Int×Int×U) (Int×U) (U) (λd=>au (aD d.2.1 (ax
 c.1.4)) (au (bA 0 d.1) (aK (aC d.2.1 c.1.4) (ai (f83 (aZ c.1.4 (ak d.2.1) aV,d.1,())) λe=>Z (N (e.1.1,aE .i64
 d.2.1 1,())))) (Z (H 0 d))) (Z (H 0 d))) n (bS .i64 c.2.1 1,0,())) λd=>bp d (λ_ g=>Z ((g.1,()),())) (λ_ g
 =>Z (g,())) λ_ _=>Y)
def D83(n:Nat)(f83:Fn P1 K2 J)(a:bH prog 83 (q83 f83)):bH prog 83 (q83 (B83 n f83)):=cM [⟨83,q83 f83,a⟩] [(83,0,⟨[(1,dj),(5,dj)],[],[],0⟩)] n 10 83
def R83(n k:Nat):(Fn P1 K2 J):=Nat.rec (motive:=λ_=>(Fn P1 K2 J)) (λ_=>Y) (λ_ r=>B83 n r) k
def F83(n:Nat):Fn P1 K2 J:=(R83 n n)
def amj(n:Nat):∀k,bH prog 83 (q83 (R83 n k))
 |0=>cw (enters 83 (by kernel_rfl))
 |k+1=>have a:=amj n k
  D83 n _ a
def k83(n:Nat):OC:=⟨83,q83 (F83 n),(amj n n)⟩
abbrev q84(F:Fn P3 K4 J):me sg:=⟨P3,K4,J,F⟩
def B84:Y37:=
 λn f84 c=>ai (aQ (Int×U) (Bool×U) (U) (λd=>au (aD d.1 (ax c.1.4)) (aK (aC d.1 c.1.4) (ai (f84 (aZ c.1.4
 (ak d.1) aV,())) λe=>au (aq e.1.1) (Z (X () (J,()))) (Z (N (aE .i64 d.1 1,()))))) (Z (H 0 d))) n
 (0,())) λd=>bp d (λ_ _=>Z ((bA (ax c.1.3) 30,()),())) (λ_ g=>Z (g,())) λ_ _=>Y
def D84(n:Nat)(f84:Fn P3 K4 J)(a:bH prog 84 (q84 f84)):bH prog 84 (q84 (B84 n f84)):=cM [⟨84,q84 f84,a⟩] [(84,0,⟨[(3,dj)],[],[],0⟩)] n 10 84
def R84(n k:Nat):(Fn P3 K4 J):=Nat.rec (motive:=λ_=>(Fn P3 K4 J)) (λ_=>Y) (λ_ r=>B84 n r) k
def F84(n:Nat):Fn P3 K4 J:=(R84 n n)
def ami(n:Nat):∀k,bH prog 84 (q84 (R84 n k))
 |0=>cw (enters 84 (by kernel_rfl))
 |k+1=>have a:=ami n k
  D84 n _ a
def k84(n:Nat):OC:=⟨84,q84 (F84 n),(ami n n)⟩
def F44:Y11:=
 λn b=>ai (F83 n (aG.mk b.1.1 b.1.2 b.1.3 b.1.4,16,())) λc=>au (bA 0 c.1.1) (ai (F84 n (aG.mk b.1.1 b.1.2 b.1.3 b.1.4,()))
 λd=>Z d) (Z ((J,()),()))
def k44(n:Nat):OC:=⟨44,⟨P3,K4,J,F44 n⟩,cM [k83 n,k84 n] [] n 10 44⟩
def F12:Y81:=
 λn b=>au (aD 320 (ax b.1.1)) (Z ((J,()),())) (au (aD 320 (ax b.1.2)) (Z ((J,()),())) (au (aD 25 (ax b.1.4))
 (Z ((J,()),())) (ai (aQ (Int×U) (Bool×U) (U) (λc=>au (aD c.1 (ax b.1.4)) (aK (aC c.1 b.1.4) (au (aD
 40 (ax (aZ b.1.4 (ak c.1) bM).1)) (Z (X () (J,()))) (Z (N (aE .i64 c.1 1,()))))) (Z (H 0 c))) n (0,()))
 λc=>bp c (λ_ _=>ai (aQ (Int×U) (Bool×U) (U) (λg=>au (aD g.1 (ax b.1.1)) (aK (aC g.1 b.1.1) (au
 (aD 10 (ax (aZ b.1.1 (ak g.1) aW).3)) (Z (X () (J,()))) (au (aD 10 (ax (aZ b.1.1 (ak g.1) aW).4)) (Z
 (X () (J,()))) (ai (aQ (Int×U) (Bool×U) (U) (λh=>au (aD h.1 (ax (aZ b.1.1 (ak g.1) aW).4)) (aK
 (aC h.1 (aZ b.1.1 (ak g.1) aW).4) (ai (F44 n (aZ (aZ b.1.1 (ak g.1) aW).4 (ak h.1) aV,())) λi=>au (aq i.1.1)
 (Z (X () (J,()))) (Z (N (aE .i64 h.1 1,()))))) (Z (H 0 h))) n (0,())) λh=>bp h (λ_ _=>Z (N
 (aE .i64 g.1 1,()))) (λ_ j=>Z (X () j)) λ_ _=>Y)))) (Z (H 0 g))) n (0,())) λg=>bp g (λ_ _=>Z ((W,
 ()),())) (λ_ i=>Z (i,())) λ_ _=>Y) (λ_ e=>Z (e,())) λ_ _=>Y)))
def k12(n:Nat):OC:=⟨12,⟨P5,K4,J,F12 n⟩,cM [k44 n] [(12,0,⟨[(3,dj)],[],[],0⟩),(12,2,⟨[(4,dj)],[],[],0⟩),(12,4,⟨[(6,dj)],[],[],0⟩)] n 10 12⟩
def F146:Y67:=
 λn b=>au (bA b.2.1 b.1) (Z ((bA b.1 b.2.2.1,()),())) (Z ((J,()),()))
def Q0(n:Nat):OC:=⟨146,⟨P6,K4,J,F146 n⟩,cM [] [] n 10 146⟩
def Mi(n:Nat)(c:Y80):O (LO Y80 (Bool×U) Y80 Any):=
 Z (X ((c.1.1,adI c.1.2 (Ir c.1.1 c.1.2)),()) (J,()))
def F257:Y33:=
 λn b=>ai (aQ (Y80) (Bool×U) (Y80) (λc=>au (QA c.1.2 c.1.1) (au (aD (uI c.1.1 c.1.2) 97) (Mi n c) (au (aD 122
 (uI c.1.1 c.1.2)) (Mi n c) (Z (N ((c.1.1,adI c.1.2 (Ir c.1.1 c.1.2)),()))))) (Z (H 0 c))) n ((b.1,0),())) λc=>bp
 c (λ_ _=>Z ((W,()),())) (λ_ e=>Z (e,())) λ_ _=>Y
def aot(n:Nat):OC:=⟨257,⟨P7,K4,J,F257 n⟩,cM [] [(257,0,⟨[(0,.box (.qE))],[.slot 6],[],0⟩)] n 10 257⟩
def F197:Y33:=
 λn b=>au (aq (gG b.1 [])) (au (bA (ax b.1) 8) (aK (aC 0 b.1) (au (bA 65 (mo b.1 0)) (aK (aC 0 b.1) (au (bA (mo b.1
 0) 90) (aK (iJ 1 (ax b.1) (ax b.1)) (ai (F257 n (eZ b.1 1 (ax b.1),())) λc=>Z c)) (Z ((J,()),())))) (Z ((J,()),
 ())))) (Z ((J,()),()))) (Z ((J,()),()))
def ao3(n:Nat):OC:=⟨197,⟨P7,K4,J,F197 n⟩,cM [aot n] [] n 10 197⟩
def F148:Nat->cO×U->O fW:=
 λn b=>ai (F197 n (b.1.1,())) λc=>au c.1.1 (ai (F146 n (b.1.2,0,3,())) λd=>Z d) (Z ((J,()),()))
def apk(n:Nat):OC:=⟨148,⟨P8,K4,J,F148 n⟩,cM [Q0 n,ao3 n] [] n 10 148⟩
def F149:alp:=
 λn b=>ai (aQ (Int×alm×U) (Bool×U) (alm×U) (λc=>au (aD c.1 (ax b.1)) (aK (aC c.1 b.1) (Z (N
 (aE .i64 c.1 1,ni (A:=sg.A) Ty.str (aZ b.1 (ak c.1) []) W c.2.1,())))) (Z (H 0 c))) n (0,[],())) λc=>bp c (λ_ e=>
 Z ((aa (ax e.2.1) (ax b.1),()),())) (λ_ e=>Z (e,())) λ_ _=>Y
def apj(n:Nat):OC:=⟨149,⟨P9,K4,J,F149 n⟩,cM [] [(149,0,⟨[(9,dj),(0,.box (.map (.str) (.bool)))],[.slot 6],[],0⟩)] n 10 149⟩
def F151:Nat->cO×U->alv:=
 λn b=>Z ((b.1.1,()),())
def api(n:Nat):OC:=⟨151,⟨P8,K10,J,F151 n⟩,cM [] [] n 10 151⟩
def Cv(n:Nat):LW->O LW:=
 λc=>ck c (λd=>Z (N d)) (λ_ _=>Y) (λ_ e=>Z (X () e)) λ_ _=>Y
def wP(n:Nat):LW->O LW:=
 λe=>ck e (λg=>Z (N g)) (λ_ _=>Y) (λ_ h=>Z (X () h)) λ_ _=>Y
def wO(n:Nat):LW->O LW:=
 λh=>ck h (λi=>Z (N i)) (λ_ _=>Y) (λ_ j=>Z (X () j)) λ_ _=>Y
def F200:Nat->Int×U->O ((dz×U)×U):=
 λn b=>ai (au (aa b.1 1) (Z (N (W,()))) (ai (au (aa b.1 2) (Z (N (W,()))) (ai (au (aa b.1 3) (Z
 (N (W,()))) (ai (au (aa b.1 4) (Z (N (W,()))) (ai (au (aa b.1 21) (Z (N (W,()))) (ai (au (aa b.1 25)
 (Z (N (W,()))) (Z (N (aa b.1 28,())))) (Cv n))) (Cv n))) (Cv n))) (Cv n))) (Cv n))) λ(c:LW)=>
 ck c (λd=>au d.1 (Z ((dz.a1 0,()),())) (ai (au (aa b.1 5) (Z (N (W,()))) (ai (au (aa b.1 27) (Z (N
 (W,()))) (ai (au (aa b.1 16) (Z (N (W,()))) (ai (au (aa b.1 17) (Z (N (W,()))) (ai (au (aa b.1 19) (Z
 (N (W,()))) (ai (au (aa b.1 20) (Z (N (W,()))) (ai (au (aa b.1 23) (Z (N (W,()))) (ai (au (aa b.1
 24) (Z (N (W,()))) (Z (N (aa b.1 26,())))) (wP n))) (wP n))) (wP n))) (wP n))) (wP n))) (wP n)))
 (wP n))) λ(e:LW)=>ck e (λg=>au g.1 (Z ((dz.a1 1,()),())) (ai (au (aa b.1 6) (Z (N (W,()))) (ai (au
 (aa b.1 7) (Z (N (W,()))) (ai (au (aa b.1 9) (Z (N (W,()))) (ai (au (aa b.1 10) (Z (N (W,()))) (ai
 (au (aa b.1 11) (Z (N (W,()))) (ai (au (aa b.1 12) (Z (N (W,()))) (ai (au (aa b.1 13) (Z (N (W,
 ()))) (ai (au (aa b.1 18) (Z (N (W,()))) (Z (N (aa b.1 22,())))) (wO n))) (wO n))) (wO n))) (wO n)))
 (wO n))) (wO n))) (wO n))) λ(h:LW)=>ck h (λi=>au i.1 (Z ((dz.a1 2,()),())) (au (aa b.1 8) (Z
 ((dz.a1 3,()),())) (au (aa b.1 14) (Z ((dz.a2 ny.mk,()),())) (au (aa b.1 15) (Z ((dz.a0 kj.mk,()),
 ())) (Z ((dz.none,()),())))))) (λ_ _=>Y) (λ_ j=>Z (j,())) λ_ _=>Y)) (λ_ _=>Y) (λ_ h=>Z (h,())) λ
 _ _=>Y)) (λ_ _=>Y) (λ_ e=>Z (e,())) λ_ _=>Y
def ao2(n:Nat):OC:=⟨200,⟨P11,K12,J,F200 n⟩,cM [] [(200,1000003,⟨[(4,dn)],[],[],0⟩),(200,1000004,⟨[(4,dn)],[],[],0⟩),(200,1000005,⟨[(4,dn)],[],[],0⟩),(200,1000006,⟨[(4,dn)],[],[],0⟩),(200,1000007,⟨[(4,dn)],[],[],0⟩),(200,1000008,⟨[(4,dn)],[],[],0⟩),(200,1000011,⟨[(13,dn)],[],[],0⟩),(200,1000012,⟨[(13,dn)],[],[],0⟩),(200,1000013,⟨[(13,dn)],[],[],0⟩),(200,1000014,⟨[(13,dn)],[],[],0⟩),(200,1000015,⟨[(13,dn)],[],[],0⟩),(200,1000016,⟨[(13,dn)],[],[],0⟩),(200,1000017,⟨[(13,dn)],[],[],0⟩),(200,1000018,⟨[(13,dn)],[],[],0⟩),(200,1000021,⟨[(24,dn)],[],[],0⟩),(200,1000022,⟨[(24,dn)],[],[],0⟩),(200,1000023,⟨[(24,dn)],[],[],0⟩),(200,1000024,⟨[(24,dn)],[],[],0⟩),(200,1000025,⟨[(24,dn)],[],[],0⟩),(200,1000026,⟨[(24,dn)],[],[],0⟩),(200,1000027,⟨[(24,dn)],[],[],0⟩),(200,1000028,⟨[(24,dn)],[],[],0⟩)] n 10 200⟩
abbrev XG(F:Fn P1 K2 J):me sg:=⟨P1,K2,J,F⟩
def MD(c:Y91)(d:Int×Int×U):aG:=
 aZ c.1.4 (ak d.2.1) aV
def B202:Y92:=
 λn f202 c=>ai (aQ (Int×Int×U) (Int×U) (U) (λd=>au (aD d.2.1 (ax c.1.4)) (aK (aC d.2.1 c.1.4) (au (aD
 c.2.1 d.1) (Z (H 0 d)) (ai (f202 (aG.mk (MD c d).1 (MD c d).2 (MD c d).3 (MD c d).4,bS .i64 c.2.1 d.1,())) λe=>
 Z (N (aE .i64 d.1 e.1.1,aE .i64 d.2.1 1,()))))) (Z (H 0 d))) n (1,0,())) λd=>bp d (λ_ g=>Z ((g.1,()),()))
 (λ_ g=>Z (g,())) λ_ _=>Y
def D202(n:Nat)(f202:Fn P1 K2 J)(a:bH prog 202 (XG f202)):bH prog 202 (XG (B202 n f202)):=cM [⟨202,XG f202,a⟩] [(202,0,⟨[(5,dj),(11,dj)],[],[],0⟩)] n 10 202
def R202(n k:Nat):(Fn P1 K2 J):=Nat.rec (motive:=λ_=>(Fn P1 K2 J)) (λ_=>Y) (λ_ r=>B202 n r) k
def F202(n:Nat):Fn P1 K2 J:=(R202 n n)
def afa(n:Nat):∀k,bH prog 202 (XG (R202 n k))
 |0=>cw (enters 202 (by kernel_rfl))
 |k+1=>have a:=afa n k
  D202 n _ a
def ao1(n:Nat):OC:=⟨202,XG (F202 n),(afa n n)⟩
def F259:Y36:=
 λn b=>ai (F146 n (b.1,(-1000000000),1000000000,())) λc=>Z c
def ajb(n:Nat):OC:=⟨259,⟨P11,K4,J,F259 n⟩,cM [Q0 n] [] n 10 259⟩
abbrev XF(F:Fn P13 K4 J):me sg:=⟨P13,K4,J,F⟩
def qD(n:Nat)(f203:Y95->O fW):O fW:=
 Z ((J,()),())
def MC(c:Y95)(d:Int×U):aG:=
 aZ c.2.1.4 (ak d.1) aV
def SA(n:Nat)(f203:Y95->O fW)(c:Y95):fW->O fW:=
 λj=>au j.1.1 (Z ((aa (ax c.2.1.4) 0,()),())) (qD n f203)
def CG(n:Nat)(f203:Y95->O fW)(c:Y95):O fW:=
 ai (au (aa c.2.1.1 1) (Z (N (W,()))) (ai (au (aa c.2.1.1 2) (Z (N (W,()))) (Z (N (aa c.2.1.1 5,()))))
 λ(h:HK)=>ck h (λi=>Z (N i)) (λ_ _=>Y) (λ_ j=>Z (X () j)) λ_ _=>Y)) λ(h:HK)=>ck h (λ
 i=>au i.1 (au (aa c.2.1.2 0) (Z ((aa (ax c.2.1.4) 0,()),())) (qD n f203)) (au (aa c.2.1.1 3) (ai (F259 n (c.2.1.2,()))
 (SA n f203 c)) (au (aa c.2.1.1 4) (ai (F146 n (c.2.1.2,0,1,())) (SA n f203 c)) (au (aa c.2.1.1 6) (ai (F146 n (c.2.1.2,0,bS .i64
 (ax c.1.1.4) 1,())) λj=>au j.1.1 (aK (aC c.2.1.2 c.1.1.4) (Z ((aa (ax c.2.1.4) (aZ c.1.1.4 (ak c.2.1.2) bM).2,()),())))
 (qD n f203)) (qD n f203))))) (λ_ _=>Y) (λ_ j=>Z (j,())) λ_ _=>Y
def B203:Nat->(Y95->O fW)->Y95->O fW:=
 λn f203 c=>au (aq (gG c.2.1.3 [])) (qD n f203) (ai (aQ (Int×U) (Int×U) (U) (λd=>au (aD d.1 (ax
 c.2.1.4)) (aK (aC d.1 c.2.1.4) (ai (f203 (c.1,aG.mk (MC c d).1 (MC c d).2 (MC c d).3 (MC c d).4,())) λe=>au (aq
 e.1.1) (Z (X () d)) (Z (N (aE .i64 d.1 1,()))))) (Z (H 0 d))) n (0,())) λd=>bp d (λ_ _=>au (aq (aq
 J)) (qD n f203) (CG n f203 c)) (λ_ g=>au (aq (aq (bA 0 g.1))) (qD n f203) (CG n f203 c)) λ_ _=>Y)
def D203(n:Nat)(f203:Fn P13 K4 J)(a:bH prog 203 (XF f203)):bH prog 203 (XF (B203 n f203)):=cM [Q0 n,⟨203,XF f203,a⟩,ajb n] [(203,1000005,⟨[(18,dn)],[],[],0⟩),(203,1000006,⟨[(18,dn)],[],[],0⟩),(293,0,⟨[(8,dj)],[],[],0⟩)] n 10 203
def R203(n k:Nat):(Fn P13 K4 J):=Nat.rec (motive:=λ_=>(Fn P13 K4 J)) (λ_=>Y) (λ_ r=>B203 n r) k
def F203(n:Nat):Fn P13 K4 J:=(R203 n n)
def ae9(n:Nat):∀k,bH prog 203 (XF (R203 n k))
 |0=>cw (enters 203 (by kernel_rfl))
 |k+1=>have a:=ae9 n k
  D203 n _ a
def ao0(n:Nat):OC:=⟨203,XF (F203 n),(ae9 n n)⟩
def F204:alE:=
 λn b=>au (aa b.2.1.1 1) (ai (F259 n (b.2.1.2,())) λc=>Z c) (au (aa b.2.1.1 2) (ai (F146 n (b.2.1.2,0,1,())) λc=>Z c)
 (au (aa b.2.1.1 24) (ai (F146 n (b.2.1.2,0,3,())) λc=>Z c) (au (aa b.2.1.1 4) (ai (F146 n (b.2.1.2,Ih .i64 (ax b.1.1.2),29,
 ())) λc=>Z c) (au (aa b.2.1.1 14) (Z ((W,()),())) (Z ((aa b.2.1.2 0,()),()))))))
def aoZ(n:Nat):OC:=⟨204,⟨P14,K4,J,F204 n⟩,cM [Q0 n,ajb n] [] n 10 204⟩
def F338:Nat->kj×cY×bw×U->O fW:=
 λn b=>ai (F146 n (ax b.2.2.1.4,1,5,())) λc=>au c.1.1 (Z ((aa (ax b.2.2.1.3) (aE .i64 1 (ax b.2.2.1.4)),()),())) (Z
 ((J,()),()))
def an7(n:Nat):OC:=⟨338,⟨asu,K4,J,F338 n⟩,cM [Q0 n] [] n 10 338⟩
def F339:Nat->Int×cY×bw×U->O fW:=
 λn b=>Z ((aa (ax b.2.2.1.3) b.1,()),())
def an6(n:Nat):OC:=⟨339,⟨ast,K4,J,F339 n⟩,cM [] [] n 10 339⟩
def F340:Nat->ny×cY×bw×U->O fW:=
 λn b=>ai (F146 n (b.2.2.1.2,0,bS .i64 (ax b.2.1.1.4) 1,())) λc=>au c.1.1 (aK (aC b.2.2.1.2 b.2.1.1.4) (Z ((aa (ax
 b.2.2.1.3) (aZ b.2.1.1.4 (ak b.2.2.1.2) bM).2,()),()))) (Z ((J,()),()))
def an5(n:Nat):OC:=⟨340,⟨ass,K4,J,F340 n⟩,cM [Q0 n] [] n 10 340⟩
def uB:L (Nat×Ty):=
 [(274,Ty.st 27),(297,Ty.int .i64),(298,Ty.st 28)]
def uA(b:ahv)(i:Int×U):aG:=
 aZ b.2.1.4 (ak i.1) aV
def wQ(n:Nat)(b:ahv):fW->O fW:=
 λg=>au g.1.1 (ai (F204 n b) λh=>au h.1.1 (ai (aQ (Int×U) (Int×U) (U) (λi=>au (aD i.1 (ax b.2.1.4)) (aK
 (aC i.1 b.2.1.4) (ai (F202 n (aG.mk (uA b i).1 (uA b i).2 (uA b i).3 (uA b i).4,12,())) λj=>au (bA j.1.1 12) (ai
 (F203 n (b.1,aG.mk (uA b i).1 (uA b i).2 (uA b i).3 (uA b i).4,())) λk=>au (aq k.1.1) (Z (X () i)) (Z
 (N (aE .i64 i.1 1,())))) (Z (X () i)))) (Z (H 0 i))) n (0,())) λi=>bp i (λ_ _=>Z ((aq J,()),()))
 (λ_ k=>Z ((aq (bA 0 k.1),()),())) λ_ _=>Y) (Z ((J,()),()))) (Z ((J,()),()))
def F153:alE:=
 λn b=>ai (F200 n (b.2.1.1,())) λc=>au (isNil uB (gj 29 c.1.1)) (Z ((J,()),())) (ai (au (jD uB 0 (gj 29 c.1.1))
 (Z (N (J,W,()))) (au (aD 0 (ax b.2.1.4)) (Z (X () (J,()))) (Z (N (J,J,()))))) λ(d:MI)=>
 ck d (λ_=>au (jD uB 0 (gj 29 c.1.1)) (ai (F338 n (j8 (Sg.zero sg) uB 0 (gj 29 c.1.1),b)) (wQ n b)) (au (jD
 uB 1 (gj 29 c.1.1)) (ai (F339 n (j8 (Sg.zero sg) uB 1 (gj 29 c.1.1),b)) (wQ n b)) (au (jD uB 2 (gj 29 c.1.1)) (ai
 (F340 n (j8 (Sg.zero sg) uB 2 (gj 29 c.1.1),b)) (wQ n b)) Y))) (λ_ _=>Y) (λ_ g=>Z (g,())) λ_ _=>Y)
def aph(n:Nat):OC:=⟨153,⟨P14,K4,J,F153 n⟩,cM [ao2 n,ao1 n,ao0 n,aoZ n,an7 n,an6 n,an5 n] [(153,1000003,⟨[(4,dn),(17,dn)],[],[],0⟩),(293,0,⟨[(8,dj)],[],[],0⟩)] n 10 153⟩
def F155:Y36:=
 λn b=>Z ((aa b.1 1,()),())
def apg(n:Nat):OC:=⟨155,⟨P11,K4,J,F155 n⟩,cM [] [] n 10 155⟩
def oI(n:Nat):O fW:=
 Z ((J,()),())
def al9(h:Wn):Int×U:=
 (aE .i64 h.2.1 1,())
def Pv(b:cY×U)(p:WJ):Nat:=
 ak (aZ b.1.1.2 (ak p.2.1) 0)
def Ud(p:WJ):Int×U:=
 (aE .i64 p.2.1 1,())
def DG(b:cY×U)(s:WJ)(t:WJ):Int:=
 aZ (aZ b.1.1.1 (ak s.2.1) aW).3 (ak t.2.1) 0
def Pu(n:Nat)(b:cY×U):O fW:=
 aK (Ec (mkN (ax b.1.1.1)) (iT (ax b.1.1.1) (ax b.1.1.1))) (ai (aQ (WJ) (Bool×U) (U) (λp=>au (aD p.2.1 (ax
 b.1.1.2)) (aK (aC p.2.1 b.1.1.2) (ai (F146 n (aZ b.1.1.2 (ak p.2.1) 0,0,bS .i64 (ax b.1.1.1) 1,())) λq=>au (aq q.1.1) (Z
 (X () (J,()))) (aK (aC (aZ b.1.1.2 (ak p.2.1) 0) p.1) (aK (cJ (Pv b p) p.1) (aK (aC (aZ b.1.1.2 (ak p.2.1) 0) p.1) (aK
 (cJ (Pv b p) p.1) (Z (N (eg p.1 (Pv b p) (aE .i64 (aZ p.1 (Pv b p) 0) 1),Ud p))))))))) (Z (H 0 p))) n (KJ (ak
 (ax b.1.1.1)) 0,0,())) λp=>bp p (λ_ r=>ai (aQ (WJ) (Bool×U) (U) (λs=>au (aD s.2.1 (ax b.1.1.1)) (aK
 (aC s.2.1 b.1.1.1) (ai (aQ (WJ) (Bool×U) (U) (λt=>au (aD t.2.1 (ax (aZ b.1.1.1 (ak s.2.1) aW).3)) (aK (aC
 t.2.1 (aZ b.1.1.1 (ak s.2.1) aW).3) (ai (F146 n (DG b s t,aE .i64 s.2.1 1,bS .i64 (ax b.1.1.1) 1,())) λu=>au (aq
 u.1.1) (Z (X () (J,()))) (aK (aC (DG b s t) t.1) (aK (cJ (ak (DG b s t)) t.1) (aK (aC (DG b s t) t.1) (aK (cJ (ak
 (DG b s t)) t.1) (Z (N (eg t.1 (ak (DG b s t)) (aE .i64 (aZ t.1 (ak (DG b s t)) 0) 1),Ud t))))))))) (Z (H 0
 t))) n (s.1,0,())) λt=>bp t (λ_ v=>Z (N (v.1,Ud s))) (λ_ v=>Z (X () v)) λ_ _=>Y)) (Z (H 0 s)))
 n (r.1,0,())) λs=>bp s (λ_ u=>ai (aQ (Int×U) (Int×U) (U) (λv=>au (aD v.1 (ax u.1)) (aK (aC v.1 u.1)
 (aK (cJ (ak v.1) u.1) (ai (F155 n (aZ u.1 (ak v.1) 0,())) λw=>au (aq w.1.1) (Z (X () v)) (Z (N (aE .i64 v.1 1,
 ())))))) (Z (H 0 v))) n (0,())) λv=>bp v (λ_ _=>Z ((aq J,()),())) (λ_ x=>Z ((aq (bA 0 x.1),()),()))
 λ_ _=>Y) (λ_ u=>Z (u,())) λ_ _=>Y) (λ_ r=>Z (r,())) λ_ _=>Y)
def aaD(n:Nat)(b:cY×U):fW->O fW:=
 λk=>au (aq k.1.1) (oI n) (ai (aQ (Int×U) (Int×U) (U) (λl=>au (aD l.1 (ax b.1.1.1)) (aK (aC l.1
 b.1.1.1) (ai (F153 n (b.1,aZ b.1.1.1 (ak l.1) aW,())) λm=>au (aq m.1.1) (Z (X () l)) (Z (N (aE .i64 l.1 1,
 ()))))) (Z (H 0 l))) n (0,())) λl=>bp l (λ_ _=>au (aq (aq J)) (oI n) (Pu n b)) (λ_ o=>au (aq (aq
 (bA 0 o.1))) (oI n) (Pu n b)) λ_ _=>Y)
def aaC(n:Nat)(b:cY×U):O fW:=
 ai (aQ (Wn) (Wk) (U) (λh=>au (aD h.2.1 (ax b.1.1.4)) (aK (aC h.2.1 b.1.1.4) (ai (F151 n (aZ b.1.1.4 (ak h.2.1)
 bM,())) λi=>aK (dB h.1 [i.1.1]) (Z (N (cX h.1 [i.1.1],al9 h))))) (Z (H 0 h))) n ([],0,())) λh=>bp h (λ
 _ j=>ai (F149 n (j.1,())) (aaD n b)) (λ_ j=>ai (F149 n j) (aaD n b)) λ_ _=>Y
def F87:Nat->cY×U->O fW:=
 λn b=>au (aD 300 (ax b.1.1.1)) (oI n) (au (aD (ax b.1.1.2) 1) (oI n) (au (aD (ax b.1.1.1) (ax b.1.1.2)) (oI n) (au
 (aD 20 (ax b.1.1.4)) (oI n) (ai (F146 n (b.1.1.3,0,bS .i64 (ax b.1.1.2) 1,())) λc=>au (aq c.1.1) (oI n) (ai (aQ (Int
 ×U) (Int×U) (U) (λd=>au (aD d.1 (ax b.1.1.4)) (aK (aC d.1 b.1.1.4) (ai (F148 n (aZ b.1.1.4 (ak d.1) bM,()))
 λe=>au (aq e.1.1) (Z (X () d)) (Z (N (aE .i64 d.1 1,()))))) (Z (H 0 d))) n (0,())) λd=>bp d (λ_ _=>
 au (aq (aq J)) (oI n) (aaC n b)) (λ_ g=>au (aq (aq (bA 0 g.1))) (oI n) (aaC n b)) λ_ _=>Y)))))
def k87(n:Nat):OC:=⟨87,⟨P15,K4,J,F87 n⟩,cM [Q0 n,apk n,apj n,api n,aph n,apg n] [(87,0,⟨[(4,.one (.own (.int .i64))),(79,dj)],[],[],0⟩),(87,2,⟨[(4,.one (.own (.int .i64))),(99,dj)],[],[],0⟩),(87,4,⟨[(4,.one (.own (.int .i64))),(107,dj)],[],[],0⟩),(150,0,⟨[(5,.one (.own (.str))),(10,dj)],[],[],0⟩),(207,0,⟨[(8,dj)],[],[],0⟩),(256,0,⟨[(8,dj)],[],[],0⟩),(258,0,⟨[(8,dj)],[],[],0⟩)] n 10 87⟩
def F46:Nat->az×U->Iq:=
 λn b=>ai (F87 n (cY.mk b.1,())) λc=>au (aq c.1.1) (Z ((2,()),())) (Z ((0,()),()))
def k46(n:Nat):OC:=⟨46,⟨P5,K2,J,F46 n⟩,cM [k87 n] [] n 10 46⟩
def F69:Y67:=
 λn b=>au (bA b.2.1 b.1) (Z ((bA b.1 b.2.2.1,()),())) (Z ((J,()),()))
def k69(n:Nat):OC:=⟨69,⟨P6,K4,J,F69 n⟩,cM [] [] n 10 69⟩
def F47:Nat->L Int×U->O fW:=
 λn b=>au (bA (ax b.1) 50) (ai (aQ (Int×U) (Int×U) (U) (λc=>au (aD c.1 (ax b.1)) (aK (aC c.1 b.1) (ai
 (F69 n (aZ b.1 (ak c.1) 0,(-1000000000),1000000000,())) λd=>au (aq d.1.1) (Z (X () c)) (Z (N (aE .i64 c.1 1,
 ()))))) (Z (H 0 c))) n (0,())) λc=>bp c (λ_ _=>Z ((aq J,()),())) (λ_ e=>Z ((aq (bA 0 e.1),()),()))
 λ_ _=>Y) (Z ((J,()),()))
def k47(n:Nat):OC:=⟨47,⟨P16,K4,J,F47 n⟩,cM [k69 n] [(207,0,⟨[(8,dj)],[],[],0⟩)] n 10 47⟩
def F48:Y57:=
 λn _=>Z ((aj.mk 3 0,()),())
def k48(n:Nat):OC:=⟨48,⟨[],K17,J,F48 n⟩,cM [] [] n 10 48⟩
def F49:Nat->L Int×U->O Y18:=λn b=>Z (b,())
def C49(n:Nat):bH prog 49 (⟨P16,K18,J,F49 n⟩:me sg):=Vg [] trivial (shL []) J n 10 49 P16 K18 (by kernel_rfl) (Eq.trans (by kernel_rfl:_=λb:L Int×U=>IZ (isE b.1) (Z (([],()),())) (Z (b,()))) (funext sZ))
def k49(n:Nat):OC:=⟨49,⟨P16,K18,J,F49 n⟩,C49 n⟩
def aeT:L (Nat×Ty):=
 [(170,Ty.st 12),(173,Ty.st 13),(175,Ty.st 14),(181,Ty.st 15)]
def F71:Nat->cx×U->Iq:=
 λn b=>au (jD aeT 3 (gj 16 b.1)) (Z ((0,()),())) (au (jD aeT 0 (gj 16 b.1)) (Z ((2,()),())) (Z ((1,()),())))
def k71(n:Nat):OC:=⟨71,⟨P19,K2,J,F71 n⟩,cM [] [] n 10 71⟩
def F170:Nat->L aB×U->O ((L aB×U)×U):=λn b=>Z (b,())
def C170(n:Nat):bH prog 170 (⟨P20,K21,J,F170 n⟩:me sg):=Vg [] trivial (shL []) J n 10 170 P20 K21 (by kernel_rfl) (Eq.trans (by kernel_rfl:_=λb:L aB×U=>IZ (isE b.1) (Z (([],()),())) (Z (b,()))) (funext sZ))
def ajm(n:Nat):OC:=⟨170,⟨P20,K21,J,F170 n⟩,C170 n⟩
def F112:Y60:=
 λn b=>au (aa b.1.1 4) (Z ((aj.mk 5 0,()),())) (au (aa b.1.1 5) (Z ((aj.mk 5 0,()),())) (Z (b,())))
def ajr(n:Nat):OC:=⟨112,⟨P22,K17,J,F112 n⟩,cM [] [] n 10 112⟩
def F114:Nat->gD×U->O Y39:=
 λn b=>Z ((aN.mk 0 0 b.1.1 aA,()),())
def ajq(n:Nat):OC:=⟨114,⟨P23,K24,J,F114 n⟩,cM [] [] n 10 114⟩
def F219:Nat->Bool×Int×U->O Y20:=
 λn b=>au (aq b.1) (Z (M (Any.a0 (gD.mk b.2.1),()))) (Z (G ((),())))
def DU(n:Nat):OC:=⟨219,⟨P25,[],W,F219 n⟩,cM [] [] n 10 219⟩
def F171:Nat->Y1×Y2×L av×U->O (Rx aao Y4):=
 λn b=>ai (F219 n (bA (aE .i64 (ax b.1.2.2.1) (ax b.2.2.1)) 40,4,())) λc=>cC c (λ_=>aK (Ec (iJ 0 (ax b.1.2.2.1)
 (ax b.1.2.2.1)) (iT (ax b.1.2.2.1) (ax b.1.2.2.1))) (aK (dB (eZ b.1.2.2.1 0 (ax b.1.2.2.1)) b.2.2.1) (Z (G ((),((),b.1.2.1,cX
 (eZ b.1.2.2.1 0 (ax b.1.2.2.1)) b.2.2.1,b.1.2.2.2),b.2.1,()))))) λd=>Z (M (d.1,b.1,b.2.1,()))
def afZ(n:Nat):OC:=⟨171,⟨P26,[],W,F171 n⟩,cM [DU n] [] n 10 171⟩
def Cw(n:Nat):RO->O RO:=
 λc=>ck c (λd=>Z (N d)) (λ_ _=>Y) (λ_ e=>Z (X () e)) λ_ _=>Y
def r5(n:Nat):Iq:=
 Z ((1,()),())
def F173:Y16:=
 λn b=>ai (au (aa b.1.1 6) (Z (N (W,()))) (ai (au (aa b.1.1 9) (Z (N (W,()))) (ai (au (aa b.1.1 10) (Z
 (N (W,()))) (ai (au (aa b.1.1 11) (Z (N (W,()))) (ai (au (aa b.1.1 12) (Z (N (W,()))) (ai (au (aa
 b.1.1 13) (Z (N (W,()))) (ai (au (aa b.1.1 18) (Z (N (W,()))) (Z (N (aa b.1.1 22,())))) (Cw n)))
 (Cw n))) (Cw n))) (Cw n))) (Cw n))) (Cw n))) λ(c:RO)=>ck c (λd=>au d.1 (Z ((2,()),())) (au (aa b.1.1 14)
 (Z ((ax b.1.3,()),())) (au (aa b.1.1 7) (r5 n) (au (aa b.1.1 8) (r5 n) (au (aa b.1.1 15) (r5 n) (au (aa b.1.1 16)
 (r5 n) (au (aa b.1.1 17) (r5 n) (au (aa b.1.1 19) (r5 n) (au (aa b.1.1 20) (r5 n) (au (aa b.1.1 23) (r5 n) (au
 (aa b.1.1 24) (r5 n) (au (aa b.1.1 26) (r5 n) (Z ((0,()),())))))))))))))) (λ_ _=>Y) (λ_ e=>Z (e,())) λ_ _=>
 Y
def afY(n:Nat):OC:=⟨173,⟨P27,K2,J,F173 n⟩,cM [] [(173,1000003,⟨[(5,dn)],[],[],0⟩),(173,1000004,⟨[(5,dn)],[],[],0⟩),(173,1000005,⟨[(5,dn)],[],[],0⟩),(173,1000006,⟨[(5,dn)],[],[],0⟩),(173,1000007,⟨[(5,dn)],[],[],0⟩),(173,1000008,⟨[(5,dn)],[],[],0⟩),(173,1000009,⟨[(5,dn)],[],[],0⟩)] n 10 173⟩
def F174:Nat->Y1×Y2×Int×L aj×U->O (Rx Y3 Y4):=
 λn b=>aK (aC b.2.2.1 b.1.2.2.2.2.2.2.2.2.1) (ai (F171 n (b.1,b.2.1,[av.mk (aZ b.1.2.2.2.2.2.2.2.2.1 (ak b.2.2.1) 0) b.2.2.2.1 []],
 ())) λc=>cC c (λd=>Z (G ((cx.a3 jG.mk,()),d.2))) λd=>Z (M d))
def YB(n:Nat):OC:=⟨174,⟨P28,K29,W,F174 n⟩,cM [afZ n] [] n 10 174⟩
def F271:Nat->Y1×Y2×aj×U->O Y3:=
 λn b=>Z ((cx.a3 jG.mk,()),((),b.1.2.1,b.1.2.2.1,b.1.2.2.2.1,b.1.2.2.2.2.1,b.1.2.2.2.2.2.1,b.1.2.2.2.2.2.2.1,
 b.1.2.2.2.2.2.2.2.1,b.1.2.2.2.2.2.2.2.2.1,b.1.2.2.2.2.2.2.2.2.2.1,[b.2.2.1],()),b.2.1,())
def Li(n:Nat):OC:=⟨271,⟨P30,K29,J,F271 n⟩,cM [] [] n 10 271⟩
def F272:ahr:=
 λn b=>Z ((aj.mk 1 b.1,()),())
def acD(n:Nat):OC:=⟨272,⟨P11,K17,J,F272 n⟩,cM [] [] n 10 272⟩
def F273:alG:=
 λn b=>au b.1 (Z ((aj.mk 2 1,()),())) (Z ((aj.mk 2 0,()),()))
def acC(n:Nat):OC:=⟨273,⟨P31,K17,J,F273 n⟩,cM [] [] n 10 273⟩
def Mj(n:Nat)(b:Y1×Y2×U):Wl->O Y3:=
 λc=>ai (F271 n (b.1,b.2.1,c.1)) λd=>Z d
def F221:Y28:=
 λn b=>au (aa b.1.2.2.2.2.2.2.1 1) (ai (F272 n (b.1.2.2.2.2.2.2.2.1,())) (Mj n b)) (au (aa b.1.2.2.2.2.2.2.1 2) (ai (F273 n (aa
 b.1.2.2.2.2.2.2.2.1 1,())) (Mj n b)) (ai (F48 n ()) (Mj n b)))
def aoX(n:Nat):OC:=⟨221,⟨Ee,K29,J,F221 n⟩,cM [k48 n,Li n,acD n,acC n] [] n 10 221⟩
def F222:Y5:=
 λn b=>au (aD b.1.2.2.2.2.2.2.2.1 0) (ai (F271 n (b.1,b.2.1,aj.mk 4 (bS .i64 (-1) b.1.2.2.2.2.2.2.2.1),())) λc=>Z (G
 c)) (ai (F219 n (aD b.1.2.2.2.2.2.2.2.1 (ax b.1.2.2.2.2.1),2,())) λc=>cC c (λ_=>aK (aC b.1.2.2.2.2.2.2.2.1 b.1.2.2.2.2.1) (ai
 (F271 n (b.1,b.2.1,aZ b.1.2.2.2.2.1 (ak b.1.2.2.2.2.2.2.2.1) aA,())) λe=>Z (G e))) λd=>Z (M (d.1,b)))
def aoW(n:Nat):OC:=⟨222,⟨Ee,K29,W,F222 n⟩,cM [DU n,Li n] [] n 10 222⟩
def uz(b:I0):Int:=
 ax b.2.1.2.2.2.2.1
def F274:Nat->I0->O (Rx ahC Y4):=
 λn b=>ai (F219 n (aD (uz b) 120,4,())) λc=>cC c (λ_=>aK (Ec (iJ 0 (uz b) (uz b)) (iT (uz b) (uz b)))
 (aK (dB (eZ b.2.1.2.2.2.2.1 0 (uz b)) [b.2.2.1]) (Z (G ((aj.mk 5 (bS .i64 (ax (cX (eZ b.2.1.2.2.2.2.1 0 (uz b))
 [b.2.2.1])) 1),()),b.1,(b.2.1.1,b.2.1.2.1,b.2.1.2.2.1,b.2.1.2.2.2.1,cX (eZ b.2.1.2.2.2.2.1 0 (uz b)) [b.2.2.1],b.2.1.2.2.2.2.2),
 ()))))) λd=>Z (M (d.1,b.1,b.2.1,()))
def Vs(n:Nat):OC:=⟨274,⟨P33,K17,W,F274 n⟩,cM [DU n] [] n 10 274⟩
def F223:Y5:=
 λn b=>ai (F274 n (b.1,b.2.1,aB.mk 2 b.1.2.2.2.1 b.1.2.2.2.2.1 [],())) λc=>cC c (λd=>ai (F271 n (d.2.1,d.2.2.1,d.1)) λe
 =>Z (G e)) λd=>Z (M d)
def aoV(n:Nat):OC:=⟨223,⟨Ee,K29,W,F223 n⟩,cM [Li n,Vs n] [] n 10 223⟩
def F277:Nat->Y97->O (Rx Y44 (Any×U)):=
 λn b=>ai (F219 n (bA (aE .i64 (ax b.1) (ax b.2.1)) 30,4,())) λc=>cC c (λ_=>aK (Ec (iJ 0 (ax b.1) (ax b.1)) (iT
 (ax b.1) (ax b.1))) (aK (dB (eZ b.1 0 (ax b.1)) b.2.1) (Z (G ((cX (eZ b.1 0 (ax b.1)) b.2.1,()),()))))) λd=>Z (M
 d)
def acB(n:Nat):OC:=⟨277,⟨P34,K35,W,F277 n⟩,cM [DU n] [] n 10 277⟩
def F298:Nat->alJ->O alT:=
 λn b=>au (aq (aa b.2.2.1.1 5)) (Z ((aO,J,()),b.1,b.2.1,())) (aK (aC b.2.2.1.2 b.2.1.2.2.2.2.1) (au (aq (aa
 (aZ b.2.1.2.2.2.2.1 (ak b.2.2.1.2) aO).1 b.2.2.2.1)) (Z ((aO,J,()),b.1,b.2.1,())) (aK (aC b.2.2.1.2 b.2.1.2.2.2.2.1)
 (Z ((aZ b.2.1.2.2.2.2.1 (ak b.2.2.1.2) aO,W,()),b.1,b.2.1,())))))
def afT(n:Nat):OC:=⟨298,⟨P36,K37,J,F298 n⟩,cM [] [] n 10 298⟩
def F275:Nat->Y53->O (Rx (Y54×Y1×Y2×U) Y4):=
 λn b=>au (aa b.2.2.1.1 4) (aK (aC b.2.2.1.2 b.2.1.2.1) (Z (G ((av.mk (aZ b.2.1.2.1 (ak b.2.2.1.2) 0) [b.2.2.2.1] [],W,
 ()),b.1,b.2.1,())))) (ai (F298 n (b.1,b.2.1,b.2.2.1,2,())) λc=>au (aq c.1.2.1) (Z (G ((aH,J,()),c.2))) (aK
 (aC c.1.1.2 c.2.2.1.1) (aK (aC 0 (aZ c.2.2.1.1 (ak c.1.1.2) aW).3) (ai (F277 n (c.1.1.3,[b.2.2.2.1],())) λd=>cC d (λe=>
 Z (G ((av.mk (aZ (aZ c.2.2.1.1 (ak c.1.1.2) aW).3 (ak 0) 0) e.1.1 [],W,()),c.2))) λe=>Z (M (e.1,
 c.2))))))
def aja(n:Nat):OC:=⟨275,⟨P38,K39,W,F275 n⟩,cM [acB n,afT n] [] n 10 275⟩
def F276:Nat->alJ->O (Rx ((aB×U)×Y1×Y2×U) Y4):=
 λn b=>ai (F298 n b) λc=>ai (F219 n (c.1.2.1,2,())) λd=>cC d (λ_=>Z (G ((c.1.1,()),c.2))) λe=>Z (M
 (e.1,c.2))
def QY(n:Nat):OC:=⟨276,⟨P36,K40,W,F276 n⟩,cM [DU n,afT n] [] n 10 276⟩
def F224:Y5:=
 λn b=>aK (aC 0 b.1.2.2.2.2.2.1) (aK (aC 1 b.1.2.2.2.2.2.1) (ai (F275 n (b.1,b.2.1,aZ b.1.2.2.2.2.2.1 (ak 0) aA,aZ
 b.1.2.2.2.2.2.1 (ak 1) aA,())) λc=>cC c (λd=>au d.1.2.1 (ai (F171 n (d.2.1,d.2.2.1,[d.1.1],())) λe=>cC e (λg=>
 Z (G ((cx.a3 jG.mk,()),g.2))) λg=>Z (M g)) (aK (aC 0 d.2.1.2.2.2.2.2.1) (ai (F276 n (d.2.1,d.2.2.1,aZ
 d.2.1.2.2.2.2.2.1 (ak 0) aA,5,())) λe=>cC e (λg=>ai (F171 n (g.2.1,g.2.2.1,g.1.1.4,())) λh=>cC h (λi=>aK (aC
 1 i.2.1.2.2.2.2.2.1) (ai (F271 n (i.2.1,i.2.2.1,aZ i.2.1.2.2.2.2.2.1 (ak 1) aA,())) λj=>Z (G j))) λi=>Z (M i))
 λg=>Z (M g)))) λd=>Z (M d)))
def aoU(n:Nat):OC:=⟨224,⟨Ee,K29,W,F224 n⟩,cM [afZ n,Li n,aja n,QY n] [] n 10 224⟩
def F225:Y5:=
 λn b=>aK (aC 0 b.1.2.2.2.2.2.1) (ai (F277 n (b.1.2.2.2.2.1,[aZ b.1.2.2.2.2.2.1 (ak 0) aA],())) λc=>cC c (λd=>ai (F174
 n (b.1,b.2.1,1,d.1)) λe=>cC e (λg=>Z (G g)) λg=>Z (M g)) λd=>Z (M (d.1,b)))
def aoT(n:Nat):OC:=⟨225,⟨Ee,K29,W,F225 n⟩,cM [YB n,acB n] [] n 10 225⟩
def F226:Y5:=
 λn b=>aK (aC 0 b.1.2.2.2.2.2.1) (ai (F219 n (aa (aZ b.1.2.2.2.2.2.1 (ak 0) aA).1 2,2,())) λc=>cC c (λ_=>aK (aC 0
 b.1.2.2.2.2.2.1) (ai (F174 n (b.1,b.2.1,bS .i64 2 (aZ b.1.2.2.2.2.2.1 (ak 0) aA).2,b.1.2.2.2.2.1,())) λe=>cC e (λg=>Z
 (G g)) λg=>Z (M g))) λd=>Z (M (d.1,b)))
def aoS(n:Nat):OC:=⟨226,⟨Ee,K29,W,F226 n⟩,cM [YB n,DU n] [] n 10 226⟩
def Sd(n:Nat)(b:Y1×Y2×U):Y20->Y96:=
 λc=>cC c (λ_=>aK (aC 0 b.1.2.2.2.2.2.1) (aK (aC 1 b.1.2.2.2.2.2.1) (Z (G (((aZ b.1.2.2.2.2.2.1 (ak 0) aA).2,(aZ
 b.1.2.2.2.2.2.1 (ak 1) aA).2,()),b))))) λd=>Z (M (d.1,b))
def F278:Nat->Y1×Y2×U->Y96:=
 λn b=>aK (aC 0 b.1.2.2.2.2.2.1) (au (aa (aZ b.1.2.2.2.2.2.1 (ak 0) aA).1 1) (aK (aC 1 b.1.2.2.2.2.2.1) (ai (F219 n (aa (aZ
 b.1.2.2.2.2.2.1 (ak 1) aA).1 1,2,())) (Sd n b))) (ai (F219 n (J,2,())) (Sd n b)))
def ai9(n:Nat):OC:=⟨278,⟨Ee,K41,W,F278 n⟩,cM [DU n] [] n 10 278⟩
def F227:Y5:=
 λn b=>ai (F278 n b) λc=>cC c (λd=>ai (au (aa d.2.1.2.2.2.2.2.2.1 10) (Z (N (bS .i64 d.1.1 d.1.2.1,W,())))
 (ai (au (aa d.2.1.2.2.2.2.2.2.1 11) (Z (N (Ii .i64 d.1.1 d.1.2.1,W,()))) (Z (N (aE .i64 d.1.1 d.1.2.1,J,()))))
 λ(e:Y6)=>ck e (λg=>Z (N (g.1,J,()))) (λ_ _=>Y) (λ_ h=>Z (X () h)) λ_ h=>Z (LO.hU () h)))
 λ(e:Y6)=>ck e (λg=>ai (F69 n (g.1,(-1000000000),1000000000,())) λh=>ai (F219 n (h.1.1,4,())) λi=>cC i (λ_=>ai
 (F272 n (g.1,())) λk=>ai (F271 n (d.2.1,d.2.2.1,k.1)) λl=>Z (G l)) λj=>Z (M (j.1,d.2))) (λ_ _=>Y) (λ_ h
 =>Z (G (h,d.2))) λ_ h=>Z (M (h,d.2))) λd=>Z (M d)
def aoR(n:Nat):OC:=⟨227,⟨Ee,K29,W,F227 n⟩,cM [k69 n,DU n,Li n,acD n,ai9 n] [(227,1000005,⟨[(5,dj),(19,dn)],[],[],0⟩),(227,1000007,⟨[(5,dj),(24,dn)],[],[],0⟩)] n 10 227⟩
def F228:Y5:=
 λn b=>ai (F278 n b) λc=>cC c (λd=>ai (F273 n (aD d.1.1 d.1.2.1,())) λe=>ai (F271 n (d.2.1,d.2.2.1,e.1)) λg=>Z
 (G g)) λd=>Z (M d)
def aoQ(n:Nat):OC:=⟨228,⟨Ee,K29,W,F228 n⟩,cM [Li n,acC n,ai9 n] [] n 10 228⟩
def Si(b:Y1×Y2×U):Bool:=
 aa (aZ b.1.2.2.2.2.2.1 (ak 0) aA).1 (aZ b.1.2.2.2.2.2.1 (ak 1) aA).1
def Sf(n:Nat)(b:Y1×Y2×U):Y20->O (Rx Y3 Y4):=
 λc=>cC c (λ_=>ai (F273 n (bP (Si b) (bP (aa (aZ b.1.2.2.2.2.2.1 (ak 0) aA).2 (aZ b.1.2.2.2.2.2.1 (ak 1)
 aA).2) W),())) λe=>ai (F271 n (b.1,b.2.1,e.1)) λg=>Z (G g)) λd=>Z (M (d.1,b))
def F229:Y5:=
 λn b=>aK (aC 0 b.1.2.2.2.2.2.1) (aK (aC 1 b.1.2.2.2.2.2.1) (au (Si b) (ai (F219 n (bA (aZ b.1.2.2.2.2.2.1 (ak 0) aA).1 3,
 2,())) (Sf n b)) (ai (F219 n (J,2,())) (Sf n b))))
def aoP(n:Nat):OC:=⟨229,⟨Ee,K29,W,F229 n⟩,cM [DU n,Li n,acC n] [] n 10 229⟩
def F230:Y5:=
 λn b=>ai (F274 n (b.1,b.2.1,aB.mk 1 b.1.2.2.2.2.2.2.2.1 b.1.2.2.2.2.2.1 [],())) λc=>cC c (λd=>ai (F271 n (d.2.1,d.2.2.1,
 d.1)) λe=>Z (G e)) λd=>Z (M d)
def aoO(n:Nat):OC:=⟨230,⟨Ee,K29,W,F230 n⟩,cM [Li n,Vs n] [] n 10 230⟩
abbrev Xz(F:Fn P42 K4 J):me sg:=⟨P42,K4,J,F⟩
def CF(n:Nat)(f279:Y98->Y99)(c:Y98):Wl->Y99:=
 λd=>Z ((bP (aa c.2.2.2.1.1 d.1.1.1) (bP (aa c.2.2.2.1.2 d.1.1.2) W),()),c.1,c.2.1,c.2.2.2.2)
def Ij(n:Nat)(f279:Y98->Y99)(c:Y98)(d:alT):Y99:=
 Z ((J,()),d.2.1,d.2.2.1,c.2.2.2.2)
def MB(c:Y98)(e:alS):aG:=
 aZ c.2.2.1.4 (ak e.1) aV
def B279:Nat->(Y98->Y99)->Y98->Y99:=
 λn f279 c=>au (aa c.2.2.1.1 2) (aK (dB c.2.2.2.2.1.1 [c.2.2.2.1]) (Z ((W,()),c.1,c.2.1,(cX c.2.2.2.2.1.1 [c.2.2.2.1],()),
 ()))) (au (aa c.2.2.1.1 3) (ai (F272 n (c.2.2.1.2,())) (CF n f279 c)) (au (aa c.2.2.1.1 4) (ai (F273 n (aa c.2.2.1.2 1,())) (CF
 n f279 c)) (au (aa c.2.2.1.1 5) (ai (F48 n ()) (CF n f279 c)) (au (aa c.2.2.1.1 6) (ai (F298 n (c.1,c.2.1,c.2.2.2.1,1,())) λd=>
 au (aq d.1.2.1) (Ij n f279 c d) (au (aq (aa d.1.1.2 c.2.2.1.2)) (Ij n f279 c d) (au (aq (aa (ax d.1.1.3) (ax
 c.2.2.1.4))) (Ij n f279 c d) (ai (aQ (alS) (Bool×U) (Y1×Y2×(L aj×U)×U) (λe=>au (aD e.1 (ax
 c.2.2.1.4)) (aK (aC e.1 c.2.2.1.4) (aK (aC e.1 d.1.1.3) (ai (f279 (e.2.1,e.2.2.1,aG.mk (MB c e).1 (MB c e).2 (MB c e).3
 (MB c e).4,aZ d.1.1.3 (ak e.1) aA,e.2.2.2)) λg=>au (aq g.1.1) (Z (X g.2 (J,()))) (Z (N (aE .i64 e.1
 1,g.2)))))) (Z (H 0 e))) n (0,d.2.1,d.2.2.1,c.2.2.2.2)) λe=>bp e (λ_ h=>Z ((W,()),h.2)) (λg h=>Z (h,g)) λ_
 _=>Y)))) (Z ((W,()),c.1,c.2.1,c.2.2.2.2))))))
def D279(n:Nat)(f279:Fn P42 K4 J)(a:bH prog 279 (Xz f279)):bH prog 279 (Xz (B279 n f279)):=cM [k48 n,acD n,acC n,⟨279,Xz f279,a⟩,afT n] [(279,1,⟨[(74,dj),(0,WH),(0,WG),(0,.box (.cells [.own (.st 4)]))],[.slot 0,.cell (.slot 0) 0,.slot 3],[],0⟩)] n 10 279
def R279(n k:Nat):(Fn P42 K4 J):=Nat.rec (motive:=λ_=>(Fn P42 K4 J)) (λ_=>Y) (λ_ r=>B279 n r) k
def F279(n:Nat):Fn P42 K4 J:=(R279 n n)
def ae1(n:Nat):∀k,bH prog 279 (Xz (R279 n k))
 |0=>cw (enters 279 (by kernel_rfl))
 |k+1=>have a:=ae1 n k
  D279 n _ a
def aoq(n:Nat):OC:=⟨279,Xz (F279 n),(ae1 n n)⟩
def HX(b:Y1×Y2×U)(c:alC):aG:=
 aZ b.1.2.2.2.2.2.2.2.2.2.1 (ak c.1) aV
def F231:Y5:=
 λn b=>ai (aQ (alC) (cx×U) (Y1×Y2×U) (λc=>au (aD c.1 (ax b.1.2.2.2.2.2.2.2.2.2.1)) (aK (aC c.1
 b.1.2.2.2.2.2.2.2.2.2.1) (aK (aC 0 c.2.1.2.2.2.2.2.1) (ai (F279 n (c.2.1,c.2.2.1,aG.mk (HX b c).1 (HX b c).2 (HX b c).3 (HX
 b c).4,aZ c.2.1.2.2.2.2.2.1 (ak 0) aA,([],()),())) λd=>au d.1.1 (ai (F277 n (d.2.1.2.2.2.2.1,d.2.2.2.1)) λe=>cC e (λg
 =>ai (F174 n (d.2.1,d.2.2.1,aE .i64 c.1 1,g.1)) λh=>cC h (λi=>Z (X i.2 i.1)) λi=>Z (LO.hU i.2 i.1)) λg=>Z
 (LO.hU (d.2.1,d.2.2.1,()) g.1)) (Z (N (aE .i64 c.1 1,d.2.1,d.2.2.1,())))))) (Z (H 0 c))) n (0,b)) λc=>bp c (λ_ e
 =>Z (M (Any.a0 (gD.mk 3),e.2))) (λd e=>Z (G (e,d))) λd e=>Z (M (e,d))
def aoN(n:Nat):OC:=⟨231,⟨Ee,K29,W,F231 n⟩,cM [YB n,acB n,aoq n] [(231,0,⟨[(12,dj),(0,WH),(0,WG)],[.slot 0,.cell (.slot 0) 0],[],0⟩)] n 10 231⟩
def Mh(b:Y53):Y1×Y2×U:=
 (((),b.1.2.1,b.1.2.2.1,b.1.2.2.2.1,b.1.2.2.2.2.1,b.1.2.2.2.2.2.1,b.1.2.2.2.2.2.2.1,b.1.2.2.2.2.2.2.2.1,b.1.2.2.2.2.2.2.2.2.1,
 b.1.2.2.2.2.2.2.2.2.2.1,[b.2.2.1],()),b.2.1,())
def F280:Nat->Y53->O Y3:=
 λn b=>ai (F112 n b.2.2.2) λc=>au (aa b.1.2.2.2.2.2.2.1 24) (Z ((cx.a1 (g6.mk (aN.mk b.1.2.1 b.1.2.2.2.2.2.2.1
 b.1.2.2.2.2.2.2.2.1 c.1.1)),()),Mh b)) (Z ((cx.a1 (g6.mk (aN.mk b.1.2.1 b.1.2.2.2.2.2.2.1 0 c.1.1)),()),Mh b))
def Gl(n:Nat):OC:=⟨280,⟨P38,K29,J,F280 n⟩,cM [ajr n] [] n 10 280⟩
def F232:Y5:=
 λn b=>aK (aC 0 b.1.2.2.2.2.2.1) (ai (F274 n (b.1,b.2.1,aB.mk 3 0 [aZ b.1.2.2.2.2.2.1 (ak 0) aA] [],())) λc=>cC c (λ
 d=>ai (F280 n (d.2.1,d.2.2.1,d.1.1,aZ b.1.2.2.2.2.2.1 (ak 0) aA,())) λe=>Z (G e)) λd=>Z (M d))
def aoM(n:Nat):OC:=⟨232,⟨Ee,K29,W,F232 n⟩,cM [Vs n,Gl n] [] n 10 232⟩
def F233:Y5:=
 λn b=>aK (aC 0 b.1.2.2.2.2.2.1) (ai (F276 n (b.1,b.2.1,aZ b.1.2.2.2.2.2.1 (ak 0) aA,3,())) λc=>cC c (λd=>aK (aC 0
 d.1.1.3) (ai (F280 n (d.2.1,d.2.2.1,aZ d.1.1.3 (ak 0) aA,aZ d.1.1.3 (ak 0) aA,())) λe=>Z (G e))) λd=>Z
 (M d))
def aoL(n:Nat):OC:=⟨233,⟨Ee,K29,W,F233 n⟩,cM [QY n,Gl n] [] n 10 233⟩
def F281:Nat->Y1×Y2×Int×aB×U->O aao:=
 λn b=>ai (F170 n (b.2.1.2.2.2.2.1,())) λc=>aK (aC b.2.2.1 c.1.1) (aK (cJ (ak b.2.2.1) c.1.1) (Z ((),b.1,(b.2.1.1,b.2.1.2.1,
 b.2.1.2.2.1,b.2.1.2.2.2.1,eg c.1.1 (ak b.2.2.1) b.2.2.2.1,b.2.1.2.2.2.2.2),())))
def afU(n:Nat):OC:=⟨281,⟨P43,[],J,F281 n⟩,cM [ajm n] [] n 10 281⟩
def F234:Y5:=
 λn b=>aK (aC 0 b.1.2.2.2.2.2.1) (ai (F276 n (b.1,b.2.1,aZ b.1.2.2.2.2.2.1 (ak 0) aA,3,())) λc=>cC c (λd=>aK (aC 0
 d.2.1.2.2.2.2.2.1) (aK (aC 1 d.2.1.2.2.2.2.2.1) (ai (F281 n (d.2.1,d.2.2.1,(aZ d.2.1.2.2.2.2.2.1 (ak 0) aA).2,aB.mk 3 0 [aZ
 d.2.1.2.2.2.2.2.1 (ak 1) aA] [],())) λe=>ai (F48 n ()) λg=>aK (aC 1 e.2.1.2.2.2.2.2.1) (ai (F280 n (e.2.1,e.2.2.1,g.1.1,aZ
 e.2.1.2.2.2.2.2.1 (ak 1) aA,())) λh=>Z (G h))))) λd=>Z (M d))
def aoK(n:Nat):OC:=⟨234,⟨Ee,K29,W,F234 n⟩,cM [k48 n,QY n,Gl n,afU n] [] n 10 234⟩
def zC(j:ahC):Int:=
 ax j.2.2.1.2.2.2.2.2.1
def F235:Y5:=
 λn b=>aK (aC 0 b.1.2.2.2.2.2.1) (ai (F48 n ()) λc=>ai (F275 n (b.1,b.2.1,aZ b.1.2.2.2.2.2.1 (ak 0) aA,c.1)) λd=>cC d
 (λe=>ai (au e.1.2.1 (Z (N (W,e.2.1,e.2.2.1,(6,0,[],[e.1.1],()),()))) (aK (aC 0 e.2.1.2.2.2.2.2.1) (ai (F276 n (e.2.1,
 e.2.2.1,aZ e.2.1.2.2.2.2.2.1 (ak 0) aA,5,())) λg=>cC g (λh=>ai (F48 n ()) λi=>Z (N (J,h.2.1,h.2.2.1,(6,
 0,[i.1.1],h.1.1.4,()),()))) λh=>Z (LO.hU (h.2.1,h.2.2.1,(6,0,[],[],()),()) h.1)))) λ(g:LO (Bool×Y1×Y2×yD×U)
 (cx×U) (Y1×Y2×yD×U) Any)=>ck g (λh=>ai (F274 n (h.2.1,h.2.2.1,aB.mk h.2.2.2.1.1 h.2.2.2.1.2.1 h.2.2.2.1.2.2.1
 h.2.2.2.1.2.2.2.1,())) λi=>cC i (λj=>aK (Ec (iJ 0 (zC j) (zC j)) (iT (zC j) (zC j))) (aK (dB (eZ
 j.2.2.1.2.2.2.2.2.1 0 (zC j)) [j.1.1.2]) (ai (F48 n ()) λk=>ai (F280 n (j.2.1,(j.2.2.1.1,j.2.2.1.2.1,j.2.2.1.2.2.1,j.2.2.1.2.2.2.1,
 j.2.2.1.2.2.2.2.1,cX (eZ j.2.2.1.2.2.2.2.2.1 0 (zC j)) [j.1.1.2],j.2.2.1.2.2.2.2.2.2),j.1.1,k.1)) λl=>Z (G l)))) λj=>Z
 (M j)) (λ_ _=>Y) (λh i=>Z (G (i,h.1,h.2.1,()))) λh i=>Z (M (i,h.1,h.2.1,()))) λe=>Z (M e))
def aoJ(n:Nat):OC:=⟨235,⟨Ee,K29,W,F235 n⟩,cM [k48 n,Vs n,aja n,QY n,Gl n] [(235,1000004,⟨[(21,dn),(0,WH),(0,WG),(0,aac)],[.slot 0,.cell (.slot 0) 0,.slot 3],[],0⟩)] n 10 235⟩
def F236:Y5:=
 λn b=>aK (aC 0 b.1.2.2.2.2.2.1) (ai (F276 n (b.1,b.2.1,aZ b.1.2.2.2.2.2.1 (ak 0) aA,6,())) λc=>cC c (λd=>au (aa
 d.1.1.2 0) (Z (G ((cx.a0 je.mk,()),d.2))) (au (aa d.1.1.2 1) (aK (aC 0 d.1.1.3) (aK (aC 0 d.1.1.3) (ai (F280 n (d.2.1,
 d.2.2.1,aZ d.1.1.3 (ak 0) aA,aZ d.1.1.3 (ak 0) aA,())) λe=>Z (G e)))) (Z (M (Any.a0 (gD.mk d.1.1.2),
 d.2))))) λd=>Z (M d))
def aoI(n:Nat):OC:=⟨236,⟨Ee,K29,W,F236 n⟩,cM [QY n,Gl n] [] n 10 236⟩
def F237:Y5:=
 λn b=>ai (F274 n (b.1,b.2.1,aB.mk 4 0 [] [],())) λc=>cC c (λd=>ai (F48 n ()) λe=>ai (F280 n (d.2.1,d.2.2.1,d.1.1,
 e.1)) λg=>Z (G g)) λd=>Z (M d)
def aoH(n:Nat):OC:=⟨237,⟨Ee,K29,W,F237 n⟩,cM [k48 n,Vs n,Gl n] [] n 10 237⟩
def F238:Y5:=
 λn b=>aK (aC 0 b.1.2.2.2.2.2.1) (ai (F276 n (b.1,b.2.1,aZ b.1.2.2.2.2.2.1 (ak 0) aA,4,())) λc=>cC c (λd=>au (aa
 (ax d.1.1.3) 4) (Z (G ((cx.a0 je.mk,()),d.2))) (aK (aC 1 d.2.1.2.2.2.2.2.1) (aK (Ec (iJ 0 (ax d.1.1.3) (ax d.1.1.3))
 (iT (ax d.1.1.3) (ax d.1.1.3))) (aK (dB (eZ d.1.1.3 0 (ax d.1.1.3)) [aZ d.2.1.2.2.2.2.2.1 (ak 1) aA]) (aK (aC 0
 d.2.1.2.2.2.2.2.1) (ai (F281 n (d.2.1,d.2.2.1,(aZ d.2.1.2.2.2.2.2.1 (ak 0) aA).2,aB.mk d.1.1.1 d.1.1.2 (cX (eZ d.1.1.3 0 (ax
 d.1.1.3)) [aZ d.2.1.2.2.2.2.2.1 (ak 1) aA]) d.1.1.4,())) λe=>ai (F48 n ()) λg=>aK (aC 1 e.2.1.2.2.2.2.2.1) (ai (F280 n (e.2.1,
 e.2.2.1,g.1.1,aZ e.2.1.2.2.2.2.2.1 (ak 1) aA,())) λh=>Z (G h)))))))) λd=>Z (M d))
def aoG(n:Nat):OC:=⟨238,⟨Ee,K29,W,F238 n⟩,cM [k48 n,QY n,Gl n,afU n] [] n 10 238⟩
def F239:Y5:=
 λn b=>aK (aC 0 b.1.2.2.2.2.2.1) (ai (F276 n (b.1,b.2.1,aZ b.1.2.2.2.2.2.1 (ak 0) aA,4,())) λc=>cC c (λd=>au (aa
 (ax d.1.1.3) 0) (Z (G ((cx.a0 je.mk,()),d.2))) (aK (aC 0 d.1.1.3) (aK (iJ 1 (ax d.1.1.3) (ax d.1.1.3)) (aK (aC 0
 d.2.1.2.2.2.2.2.1) (ai (F281 n (d.2.1,d.2.2.1,(aZ d.2.1.2.2.2.2.2.1 (ak 0) aA).2,aB.mk d.1.1.1 d.1.1.2 (eZ d.1.1.3 1 (ax
 d.1.1.3)) d.1.1.4,())) λe=>ai (F280 n (e.2.1,e.2.2.1,aZ d.1.1.3 (ak 0) aA,aZ d.1.1.3 (ak 0) aA,())) λg=>Z (G
 g)))))) λd=>Z (M d))
def aoF(n:Nat):OC:=⟨239,⟨Ee,K29,W,F239 n⟩,cM [QY n,Gl n,afU n] [] n 10 239⟩
def HW(b:Y1×Y2×U):aj:=
 aZ b.1.2.2.2.2.2.1 (ak 0) aA
def wN(b:Y1×Y2×U):Int:=
 ax b.2.1.2.2.2.2.2.2.1
def F240:Y5:=
 λn b=>aK (aC 0 b.1.2.2.2.2.2.1) (ai (F219 n (aa (HW b).1 1,2,())) λc=>cC c (λ_=>ai (F219 n (aD (wN b) 100,4,
 ())) λe=>cC e (λ_=>aK (Ec (iJ 0 (wN b) (wN b)) (iT (wN b) (wN b))) (aK (dB (eZ b.2.1.2.2.2.2.2.2.1 0 (wN
 b)) [ef.mk b.1.2.2.2.2.2.2.2.1 (HW b).2]) (ai (F48 n ()) λh=>ai (F280 n (b.1,(b.2.1.1,b.2.1.2.1,b.2.1.2.2.1,b.2.1.2.2.2.1,
 b.2.1.2.2.2.2.1,b.2.1.2.2.2.2.2.1,cX (eZ b.2.1.2.2.2.2.2.2.1 0 (wN b)) [ef.mk b.1.2.2.2.2.2.2.2.1 (HW b).2],b.2.1.2.2.2.2.2.2.2),
 h.1.1,HW b,())) λi=>Z (G i)))) λg=>Z (M (g.1,b))) λd=>Z (M (d.1,b)))
def aoE(n:Nat):OC:=⟨240,⟨Ee,K29,W,F240 n⟩,cM [k48 n,DU n,Gl n] [] n 10 240⟩
def HV(b:Y1×Y2×U):Int:=
 ax b.2.1.2.2.2.2.2.2.2.1
def F241:Y5:=
 λn b=>au (aa (HV b) 0) (Z (G ((cx.a0 je.mk,()),b))) (ai (F219 n (aD b.2.1.2.2.2.2.2.2.2.2.1 1000000000,4,()))
 λc=>cC c (λ_=>aK (aC 0 b.2.1.2.2.2.2.2.2.2.1) (ai (F272 n (aZ b.2.1.2.2.2.2.2.2.2.1 (ak 0) 0,())) λe=>aK (iJ 1 (HV b)
 (HV b)) (ai (F280 n (b.1,(b.2.1.1,b.2.1.2.1,b.2.1.2.2.1,b.2.1.2.2.2.1,b.2.1.2.2.2.2.1,b.2.1.2.2.2.2.2.1,b.2.1.2.2.2.2.2.2.1,eZ
 b.2.1.2.2.2.2.2.2.2.1 1 (HV b),aE .i64 b.2.1.2.2.2.2.2.2.2.2.1 1,()),e.1.1,e.1)) λg=>Z (G g)))) λd=>Z (M (d.1,b)))
def aoD(n:Nat):OC:=⟨241,⟨Ee,K29,W,F241 n⟩,cM [DU n,acD n,Gl n] [] n 10 241⟩
def F242:Y28:=
 λn b=>aK (aC 0 b.1.2.2.2.2.2.1) (ai (F271 n (b.1,b.2.1,aZ b.1.2.2.2.2.2.1 (ak 0) aA,())) λc=>Z c)
def aoC(n:Nat):OC:=⟨242,⟨Ee,K29,J,F242 n⟩,cM [Li n] [] n 10 242⟩
def F160:Nat->Y22->O (Y22×U):=λn b=>Z (b,())
def C160(n:Nat):bH prog 160 (⟨P44,K45,J,F160 n⟩:me sg):=Vg [] trivial (shL []) J n 10 160 P44 K45 (by kernel_rfl) (Eq.trans (by kernel_rfl:_=λb:Y22=>IZ (isE b.1) (Z (([],()),())) (Z (b,()))) (funext sZ))
def acF(n:Nat):OC:=⟨160,⟨P44,K45,J,F160 n⟩,C160 n⟩
def Se(e:Int×U)(k:ahC):Y1:=
 ((),k.2.1.2.1,eZ k.2.1.2.2.1 0 (aE .i64 e.1 1),k.2.1.2.2.2)
def F243:Y5:=
 λn b=>ai (aQ (Int×U) (cx×U) (U) (λc=>au (bA 0 c.1) (aK (aC c.1 b.1.2.2.1) (aK (aC (aZ b.1.2.2.1 (ak
 c.1) aH).1 b.2.1.1) (au (aq (aa (aZ b.2.1.1 (ak (aZ b.1.2.2.1 (ak c.1) aH).1) aW).1 26)) (Z (N (bS .i64
 c.1 1,()))) (Z (H 0 c))))) (Z (H 0 c))) n (bS .i64 (ax b.1.2.2.1) 1,())) λc=>bp c (λ_ e=>ai (F219 n (bA 0 e.1,
 3,())) λg=>cC g (λ_=>aK (iJ e.1 (ax b.1.2.2.1) (ax b.1.2.2.1)) (ai (F160 n (eZ b.1.2.2.1 e.1 (ax b.1.2.2.1),())) λi=>
 ai (F274 n (b.1,b.2.1,aB.mk 5 0 [] i.1.1,())) λj=>cC j (λk=>aK (iJ 0 (aE .i64 e.1 1) (ax k.2.1.2.2.1)) (ai (F277 n
 (k.2.1.2.2.2.2.1,[k.1.1],())) λl=>cC l (λm=>ai (F174 n (Se e k,k.2.2.1,0,m.1)) λo=>cC o (λp=>Z (G p)) λp
 =>Z (M p)) λm=>Z (M (m.1,Se e k,k.2.2)))) λk=>Z (M k))) λh=>Z (M (h.1,b))) (λ_ e=>Z
 (G (e,b))) λ_ e=>Z (M (e,b))
def aoB(n:Nat):OC:=⟨243,⟨Ee,K29,W,F243 n⟩,cM [acF n,YB n,DU n,Vs n,acB n] [(243,0,⟨[(3,dj)],[],[],0⟩)] n 10 243⟩
def F244:Y28:=
 λn b=>ai (F48 n ()) λc=>ai (F48 n ()) λd=>ai (F280 n (b.1,b.2.1,c.1.1,d.1)) λe=>Z e
def aoA(n:Nat):OC:=⟨244,⟨Ee,K29,J,F244 n⟩,cM [k48 n,Gl n] [] n 10 244⟩
def uC(b:I0):Int:=
 bS .i64 (ax b.2.2.1.4) 1
def jg(b:I0):av:=
 aZ b.2.2.1.4 (ak (uC b)) aH
def zK(b:I0):bw:=
 aZ b.2.1.1 (ak (jg b).1) aW
def Mx(b:I0):Y1:=
 ((),b.1.2.1,b.1.2.2.1,b.1.2.2.2.1,b.1.2.2.2.2.1,b.1.2.2.2.2.2.1,(zK b).1,(zK b).2,(zK b).3,(zK b).4,b.1.2.2.2.2.2.2.2.2.2.2)
def gE(b:I0)(e:aao):Y1×Y2×U:=
 (((),e.2.1.2.1,e.2.1.2.2.1,(jg b).1,(jg b).2,(jg b).3,e.2.1.2.2.2.2.2.2),e.2.2)
def Mw(n:Nat)(b:I0)(e:aao):O (Rx Y3 Y4):=
 ai (F221 n (gE b e)) λg=>Z (G g)
def Mv(n:Nat)(b:I0)(e:aao):O (Rx Y3 Y4):=
 ai (F227 n (gE b e)) λg=>cC g (λh=>Z (G h)) λh=>Z (M h)
def F115:Nat->I0->O (Rx Y3 Y4):=
 λn b=>au (aD 0 (ax b.2.2.1.3)) (aK (aC (uC b) b.2.2.1.4) (aK (iJ 0 (uC b) (ax b.2.2.1.4)) (ai (F171 n (b.1,b.2.1,eZ
 b.2.2.1.4 0 (uC b),())) λc=>cC c (λd=>aK (aC 0 b.2.2.1.3) (aK (Ec (iJ 0 (ax (jg b).3) (ax (jg b).3)) (iT (ax
 (jg b).3) (ax (jg b).3))) (aK (dB (eZ (jg b).3 0 (ax (jg b).3)) [aZ b.2.2.1.3 (ak 0) aA]) (ai (F171 n (d.2.1,
 d.2.2.1,[av.mk (jg b).1 (jg b).2 (cX (eZ (jg b).3 0 (ax (jg b).3)) [aZ b.2.2.1.3 (ak 0) aA])],())) λe=>
 cC e (λg=>Z (G ((cx.a3 jG.mk,()),g.2))) λg=>Z (M g))))) λd=>Z (M d)))) (aK (aC (uC b)
 b.2.2.1.4) (aK (aC (jg b).1 b.2.1.1) (ai (F173 n (zK b,())) λc=>au (aD (ax (jg b).3) c.1.1) (ai (F171 n (Mx b,b.2.1,
 b.2.2.1.4,())) λd=>cC d (λe=>ai (F174 n (e.2.1,e.2.2.1,ax (jg b).3,(jg b).2,())) λg=>cC g (λh=>Z (G
 h)) λh=>Z (M h)) λe=>Z (M e)) (aK (iJ 0 (uC b) (ax b.2.2.1.4)) (ai (F171 n (Mx b,b.2.1,eZ b.2.2.1.4 0
 (uC b),())) λd=>cC d (λe=>au (iT e.2.1.2.2.2.2.2.2.1 0) Y (au (iT e.2.1.2.2.2.2.2.2.1 1) (Mw n b e) (au (iT
 e.2.1.2.2.2.2.2.2.1 2) (Mw n b e) (au (iT e.2.1.2.2.2.2.2.2.1 3) (Mw n b e) (au (iT e.2.1.2.2.2.2.2.2.1 4) (ai (F222 n (gE b e)) λg
 =>cC g (λh=>Z (G h)) λh=>Z (M h)) (au (iT e.2.1.2.2.2.2.2.2.1 5) (ai (F223 n (gE b e)) λg=>cC g (λh=>
 Z (G h)) λh=>Z (M h)) (au (iT e.2.1.2.2.2.2.2.2.1 6) (ai (F224 n (gE b e)) λg=>cC g (λh=>Z (G h)) λh
 =>Z (M h)) (au (iT e.2.1.2.2.2.2.2.2.1 7) (ai (F225 n (gE b e)) λg=>cC g (λh=>Z (G h)) λh=>Z (M h))
 (au (iT e.2.1.2.2.2.2.2.2.1 8) (ai (F226 n (gE b e)) λg=>cC g (λh=>Z (G h)) λh=>Z (M h)) (au (iT
 e.2.1.2.2.2.2.2.2.1 9) (Mv n b e) (au (iT e.2.1.2.2.2.2.2.2.1 10) (Mv n b e) (au (iT e.2.1.2.2.2.2.2.2.1 11) (Mv n b e) (au (iT
 e.2.1.2.2.2.2.2.2.1 12) (ai (F228 n (gE b e)) λg=>cC g (λh=>Z (G h)) λh=>Z (M h)) (au (iT e.2.1.2.2.2.2.2.2.1
 13) (ai (F229 n (gE b e)) λg=>cC g (λh=>Z (G h)) λh=>Z (M h)) (au (iT e.2.1.2.2.2.2.2.2.1 14) (ai (F230 n
 (gE b e)) λg=>cC g (λh=>Z (G h)) λh=>Z (M h)) (au (iT e.2.1.2.2.2.2.2.2.1 15) (ai (F231 n (gE b e)) λg
 =>cC g (λh=>Z (G h)) λh=>Z (M h)) (au (iT e.2.1.2.2.2.2.2.2.1 16) (ai (F232 n (gE b e)) λg=>cC g (λh=>
 Z (G h)) λh=>Z (M h)) (au (iT e.2.1.2.2.2.2.2.2.1 17) (ai (F233 n (gE b e)) λg=>cC g (λh=>Z (G h)) λh
 =>Z (M h)) (au (iT e.2.1.2.2.2.2.2.2.1 18) (ai (F234 n (gE b e)) λg=>cC g (λh=>Z (G h)) λh=>Z (M h))
 (au (iT e.2.1.2.2.2.2.2.2.1 19) (ai (F235 n (gE b e)) λg=>cC g (λh=>Z (G h)) λh=>Z (M h)) (au (iT
 e.2.1.2.2.2.2.2.2.1 20) (ai (F236 n (gE b e)) λg=>cC g (λh=>Z (G h)) λh=>Z (M h)) (au (iT e.2.1.2.2.2.2.2.2.1
 21) (ai (F237 n (gE b e)) λg=>cC g (λh=>Z (G h)) λh=>Z (M h)) (au (iT e.2.1.2.2.2.2.2.2.1 22) (ai (F238 n
 (gE b e)) λg=>cC g (λh=>Z (G h)) λh=>Z (M h)) (au (iT e.2.1.2.2.2.2.2.2.1 23) (ai (F239 n (gE b e)) λg
 =>cC g (λh=>Z (G h)) λh=>Z (M h)) (au (iT e.2.1.2.2.2.2.2.2.1 24) (ai (F240 n (gE b e)) λg=>cC g (λh=>
 Z (G h)) λh=>Z (M h)) (au (iT e.2.1.2.2.2.2.2.2.1 25) (ai (F241 n (gE b e)) λg=>cC g (λh=>Z (G h)) λh
 =>Z (M h)) (au (iT e.2.1.2.2.2.2.2.2.1 26) (ai (F242 n (gE b e)) λg=>Z (G g)) (au (iT e.2.1.2.2.2.2.2.2.1 27) (ai (F243
 n (gE b e)) λg=>cC g (λh=>Z (G h)) λh=>Z (M h)) (au (iT e.2.1.2.2.2.2.2.2.1 28) (ai (F244 n (gE b e)) λg
 =>Z (G g)) (aK J Y)))))))))))))))))))))))))))))) λe=>Z (M e))))))
def apD(n:Nat):OC:=⟨115,⟨P33,K29,W,F115 n⟩,cM [afZ n,afY n,YB n,aoX n,aoW n,aoV n,aoU n,aoT n,aoS n,aoR n,aoQ n,aoP n,aoO n,aoN n,aoM n,aoL n,aoK n,aoJ n,aoI n,aoH n,aoG n,aoF n,aoE n,aoD n,aoC n,aoB n,aoA n] [] n 10 115⟩
def Bm(b:Y2×Int×U):Int:=
 aZ b.1.2.2.2.2.2.1 (ak b.2.1) 0
def HS(b:Y2×Int×U):aB:=
 aZ b.1.2.2.2.2.1 (ak (Bm b)) aO
def F70:Nat->Y2×Int×U->O ((cx×U)×Y2×U):=
 λn b=>aK (aC b.2.1 b.1.2.2.2.2.2.1) (aK (aC (Bm b) b.1.2.2.2.2.1) (au (aq (aa (HS b).2 0)) (Z ((cx.a0 je.mk,
 ()),b.1,())) (au (aa (ax (HS b).4) 0) (ai (F170 n (b.1.2.2.2.2.1,())) λc=>aK (aC b.2.1 b.1.2.2.2.2.2.1) (aK (aC (Bm b)
 c.1.1) (aK (cJ (ak (Bm b)) c.1.1) (aK (aC 0 (HS b).3) (ai (F112 n (aZ (HS b).3 (ak 0) aA,())) λd=>Z ((cx.a1
 (g6.mk (aN.mk b.2.1 0 1 d.1.1)),()),(b.1.1,b.1.2.1,b.1.2.2.1,b.1.2.2.2.1,eg c.1.1 (ak (Bm b)) (aB.mk 6 1 (HS b).3
 []),b.1.2.2.2.2.2),())))))) (ai (F115 n (((),b.2.1,[],0,[],[],0,0,[],[],[],()),b.1,HS b,())) λc=>cC c (λd=>ai (F71 n
 d.1) λe=>au (aq (aa e.1.1 2)) (ai (F170 n (d.2.2.1.2.2.2.2.1,())) λg=>aK (aC b.2.1 d.2.2.1.2.2.2.2.2.1) (aK (aC (aZ
 d.2.2.1.2.2.2.2.2.1 (ak b.2.1) 0) g.1.1) (aK (cJ (ak (aZ d.2.2.1.2.2.2.2.2.1 (ak b.2.1) 0)) g.1.1) (Z (d.1,(d.2.2.1.1,d.2.2.1.2.1,
 d.2.2.1.2.2.1,d.2.2.1.2.2.2.1,eg g.1.1 (ak (aZ d.2.2.1.2.2.2.2.2.1 (ak b.2.1) 0)) (aB.mk 6 0 d.2.1.2.2.2.2.2.2.2.2.2.2.1 d.2.1.2.2.1),
 d.2.2.1.2.2.2.2.2),()))))) (Z (d.1,d.2.2))) λd=>au (aq (isNil [(175,Ty.st 14)] (gj 30 d.1))) (ai (au (aq (jD [(175,Ty.st
 14)] 0 (gj 30 d.1))) Y (Z (N (J,())))) λ(e:Pj)=>ck e (λ_=>ai (F170 n (b.1.2.2.2.2.1,())) λh=>aK (aC
 b.2.1 b.1.2.2.2.2.2.1) (aK (aC (Bm b) h.1.1) (aK (cJ (ak (Bm b)) h.1.1) (ai (F114 n (j8 (Sg.zero sg) [(175,Ty.st 14)] 0 (gj 30
 d.1),())) λi=>Z ((cx.a1 (g6.mk (aN.mk b.2.1 i.1.1.2 i.1.1.3 i.1.1.4)),()),(d.2.2.1.1,d.2.2.1.2.1,d.2.2.1.2.2.1,
 d.2.2.1.2.2.2.1,eg h.1.1 (ak (Bm b)) (aB.mk 6 (j8 (Sg.zero sg) [(175,Ty.st 14)] 0 (gj 30 d.1)).1 [] []),b.1.2.2.2.2.2),())))))
 (λ_ _=>Y) (λ_ _=>Z ((cx.none,()),d.2.2)) λ_ _=>Y) (Z ((cx.none,()),d.2.2))))))
def k70(n:Nat):OC:=⟨70,⟨P46,K29,J,F70 n⟩,cM [k71 n,ajr n,ajq n,apD n,ajm n] [(113,1000004,⟨[(17,dn)],[],[],0⟩)] n 10 70⟩
def F50:Nat->Y2×Int×U->O ahx:=
 λn b=>ai (aQ (Int×Int×Y2×U) (Int×Bool×U) (Y2×U) (λc=>au (aD c.2.1 (ax b.1.2.2.2.2.2.1)) (ai (aQ (Int
 ×Y2×U) (Int×Bool×U) (Y2×U) (λd=>ai (F70 n (d.2.1,c.2.1,())) λe=>ai (F71 n e.1) λg=>au (aq (aa g.1.1
 0)) (Z (H 0 d)) (au (aD 5000 (aE .i64 d.1 1)) (Z (X d.2 (0,J,()))) (Z (N (aE .i64 d.1 1,e.2))))) n (c.1,
 c.2.2)) λd=>bp d (λ_ g=>Z (N (g.1,aE .i64 c.2.1 1,g.2))) (λe g=>Z (X e g)) λ_ _=>Y) (Z (H 0
 c))) n (b.2.1,0,b.1,())) λc=>bp c (λ_ e=>Z ((e.1,W,()),e.2.2)) (λd e=>Z (e,d)) λ_ _=>Y
def k50(n:Nat):OC:=⟨50,⟨P46,K47,J,F50 n⟩,cM [k70 n,k71 n] [(50,0,⟨[(1,dj),(14,dj),(0,b2z)],[.slot 0],[],0⟩),(50,2,⟨[(1,dj),(0,b2z)],[.slot 0],[],0⟩)] n 10 50⟩
def F90:Nat->L ef×U->O ((L ef×U)×U):=λn b=>Z (b,())
def C90(n:Nat):bH prog 90 (⟨P48,K49,J,F90 n⟩:me sg):=Vg [] trivial (shL []) J n 10 90 P48 K49 (by kernel_rfl) (Eq.trans (by kernel_rfl:_=λb:L ef×U=>IZ (isE b.1) (Z (([],()),())) (Z (b,()))) (funext sZ))
def k90(n:Nat):OC:=⟨90,⟨P48,K49,J,F90 n⟩,C90 n⟩
def F159:Nat->L aj×U->O Y44:=λn b=>Z (b,())
def C159(n:Nat):bH prog 159 (⟨P50,K51,J,F159 n⟩:me sg):=Vg [] trivial (shL []) J n 10 159 P50 K51 (by kernel_rfl) (Eq.trans (by kernel_rfl:_=λb:L aj×U=>IZ (isE b.1) (Z (([],()),())) (Z (b,()))) (funext sZ))
def af0(n:Nat):OC:=⟨159,⟨P50,K51,J,F159 n⟩,C159 n⟩
def F92:Nat->Int×U->Iq:=
 λn b=>Z (b,())
def k92(n:Nat):OC:=⟨92,⟨P11,K2,J,F92 n⟩,cM [] [] n 10 92⟩
def Bo(b:Y2×U)(g:Int×zy×U):aB:=
 aZ b.1.2.2.2.2.1 (ak g.1) aO
def wM(n:Nat)(h:Y44):Y46:=
 aQ (PT) (L aj×U) (U) (λi=>au (aD i.2.1 (ax h.1.1)) (aK (aC i.2.1 i.1) (aK (cJ (ak i.2.1) i.1) (au (aa
 (aZ i.1 (ak i.2.1) aA).1 5) (ai (F92 n ((aZ i.1 (ak i.2.1) aA).2,())) λj=>aK (aC i.2.1 i.1) (aK (cJ (ak i.2.1) i.1)
 (Z (N (eg i.1 (ak i.2.1) (aj.mk (aZ i.1 (ak i.2.1) aA).1 j.1.1),aE .i64 i.2.1 1,()))))) (Z (N (i.1,aE .i64
 i.2.1 1,())))))) (Z (H 0 i))) n (h.1.1,0,())
def yI(m:Int×yD×U):av:=
 aZ m.2.1.2.2.2.1 (ak m.1) aH
def aaJ(n:Nat)(m:Int×yD×U)(r:PT)(v:PT):WI:=
 aK (aC m.1 m.2.1.2.2.2.1) (aK (cJ (ak m.1) m.2.1.2.2.2.1) (Z (N (aE .i64 m.1 1,(m.2.1.1,m.2.1.2.1,m.2.1.2.2.1,eg
 m.2.1.2.2.2.1 (ak m.1) (av.mk (yI m).1 r.1 v.1),()),()))))
def aeV(n:Nat)(m:Int×yD×U)(r:PT)(v:L aj×U):WI:=
 aK (aC m.1 m.2.1.2.2.2.1) (aK (cJ (ak m.1) m.2.1.2.2.2.1) (Z (N (aE .i64 m.1 1,(m.2.1.1,m.2.1.2.1,m.2.1.2.2.1,eg
 m.2.1.2.2.2.1 (ak m.1) (av.mk (yI m).1 r.1 v.1),()),()))))
def Ug(n:Nat)(m:Int×yD×U)(r:PT):WI:=
 ai (F159 n ((yI m).3,())) λs=>ai (wM n s) λt=>bp t (λ_ v=>aaJ n m r v) (λ_ v=>aeV n m r v) λ_ _=>Y
def ame(n:Nat)(m:Int×yD×U)(r:L aj×U)(v:PT):WI:=
 aK (aC m.1 m.2.1.2.2.2.1) (aK (cJ (ak m.1) m.2.1.2.2.2.1) (Z (N (aE .i64 m.1 1,(m.2.1.1,m.2.1.2.1,m.2.1.2.2.1,eg
 m.2.1.2.2.2.1 (ak m.1) (av.mk (yI m).1 r.1 v.1),()),()))))
def amd(n:Nat)(m:Int×yD×U)(r:L aj×U)(v:L aj×U):WI:=
 aK (aC m.1 m.2.1.2.2.2.1) (aK (cJ (ak m.1) m.2.1.2.2.2.1) (Z (N (aE .i64 m.1 1,(m.2.1.1,m.2.1.2.1,m.2.1.2.2.1,eg
 m.2.1.2.2.2.1 (ak m.1) (av.mk (yI m).1 r.1 v.1),()),()))))
def Uf(n:Nat)(m:Int×yD×U)(r:L aj×U):WI:=
 ai (F159 n ((yI m).3,())) λs=>ai (wM n s) λt=>bp t (λ_ v=>ame n m r v) (λ_ v=>amd n m r v) λ_ _=>Y
def Mc(n:Nat)(b:Y2×U)(g:Int×zy×U)(k:PT):Y48:=
 ai (F160 n ((Bo b g).4,())) λl=>ai (aQ (Int×yD×U) (U) (yD×U) (λm=>au (aD m.1 (ax l.1.1)) (aK (aC m.1
 m.2.1.2.2.2.1) (aK (cJ (ak m.1) m.2.1.2.2.2.1) (ai (F159 n ((yI m).2,())) λo=>ai (wM n o) λp=>bp p (λ_ r=>Ug n m r)
 (λ_ r=>Uf n m r) λ_ _=>Y))) (Z (H 0 m))) n (0,((Bo b g).1,(Bo b g).2,k.1,l.1),())) λm=>bp m (λ_ p=>aK
 (dB g.2.1.1 [aB.mk p.2.1.1 p.2.1.2.1 p.2.1.2.2.1 p.2.1.2.2.2.1]) (Z (N (aE .i64 g.1 1,(cX g.2.1.1 [aB.mk p.2.1.1 p.2.1.2.1
 p.2.1.2.2.1 p.2.1.2.2.2.1],g.2.1.2),())))) (λ_ _=>aK (dB g.2.1.1 [aO]) (Z (N (aE .i64 g.1 1,(cX g.2.1.1 [aO],
 g.2.1.2),())))) λ_ _=>Y
def RY(n:Nat)(b:Y2×U)(g:Int×zy×U)(k:L aj×U):Y48:=
 ai (F160 n ((Bo b g).4,())) λl=>ai (aQ (Int×yD×U) (U) (yD×U) (λm=>au (aD m.1 (ax l.1.1)) (aK (aC m.1
 m.2.1.2.2.2.1) (aK (cJ (ak m.1) m.2.1.2.2.2.1) (ai (F159 n ((yI m).2,())) λo=>ai (wM n o) λp=>bp p (λ_ r=>Ug n m r)
 (λ_ r=>Uf n m r) λ_ _=>Y))) (Z (H 0 m))) n (0,((Bo b g).1,(Bo b g).2,k.1,l.1),())) λm=>bp m (λ_ p=>aK
 (dB g.2.1.1 [aB.mk p.2.1.1 p.2.1.2.1 p.2.1.2.2.1 p.2.1.2.2.2.1]) (Z (N (aE .i64 g.1 1,(cX g.2.1.1 [aB.mk p.2.1.1 p.2.1.2.1
 p.2.1.2.2.1 p.2.1.2.2.2.1],g.2.1.2),())))) (λ_ _=>aK (dB g.2.1.1 [aO]) (Z (N (aE .i64 g.1 1,(cX g.2.1.1 [aO],
 g.2.1.2),())))) λ_ _=>Y
def F51:Nat->Y2×U->O Y49:=
 λn b=>ai (F49 n (b.1.2.2.2.2.2.1,())) λc=>ai (F90 n (b.1.2.2.2.2.2.2.1,())) λd=>ai (F49 n (b.1.2.2.2.2.2.2.2.1,())) λe=>ai
 (aQ (Int×zy×U) (U) (zy×U) (λg=>au (aD g.1 (ax b.1.2.2.2.2.1)) (aK (aC g.1 b.1.2.2.2.2.1) (ai (F159 n ((Bo b
 g).3,())) λh=>ai (wM n h) λi=>bp i (λ_ k=>Mc n b g k) (λ_ k=>RY n b g k) λ_ _=>Y)) (Z (H 0 g))) n
 (0,([],c.1.1,d.1.1,e.1.1,b.1.2.2.2.2.2.2.2.2),())) λg=>bp g (λ_ i=>Z ((af.mk i.2.1.1 i.2.1.2.1 i.2.1.2.2.1 i.2.1.2.2.2.1
 i.2.1.2.2.2.2.1,()),b)) (λ_ _=>Z ((dF,()),b)) λ_ _=>Y
def k51(n:Nat):OC:=⟨51,⟨P52,K53,J,F51 n⟩,cM [k49 n,k90 n,k92 n,af0 n,acF n] [(51,0,⟨[(36,dj),(0,.box (.cells [.own (.st 6),Eb,LS,Eb,mN]))],[.slot 3],[],0⟩),(91,0,⟨[(21,dj),(0,ak9)],[.slot 2],[(19,1002003)],0⟩),(158,0,⟨[(0,.one (.own (.st 4))),(10,dj)],[],[(8,0)],0⟩)] n 10 51⟩
def F14:Nat->Y29->O Y30:=
 λn b=>ai (F46 n (b.1,())) λc=>au (aq (aa c.1.1 0)) (Z ((dF,2,()),())) (ai (F47 n b.2) λd=>au (aq d.1.1)
 (Z ((dF,2,()),())) (aK (aC b.1.3 b.1.2) (ai (F48 n ()) λe=>ai (F49 n b.2) λg=>ai (F50 n ((b.1.1,b.1.2,b.1.3,b.1.4,
 [aB.mk 6 0 [] [av.mk (aZ b.1.2 (ak b.1.3) 0) [e.1.1] []]],[0],[],g.1.1,0,()),0,())) λh=>au (aq h.1.2.1) (Z
 ((dF,8,()),())) (ai (F51 n h.2) λi=>Z ((i.1.1,0,()),())))))
def k14(n:Nat):OC:=⟨14,⟨P54,K55,J,F14 n⟩,cM [k46 n,k47 n,k48 n,k49 n,k50 n,k51 n] [] n 10 14⟩
def F211:Nat->cP×aj×U->O fW:=
 λn b=>au (aa b.2.1.1 1) (ai (F69 n (b.2.1.2,(-1000000000),1000000000,())) λc=>Z c) (au (aa b.2.1.1 2) (ai (F69 n (b.2.1.2,0,
 1,())) λc=>Z c) (au (aa b.2.1.1 3) (Z ((aa b.2.1.2 0,()),())) (au (aa b.2.1.1 4) (ai (F69 n (b.2.1.2,0,bS .i64 (ax
 b.1.1.2) 1,())) λc=>Z c) (au (aa b.2.1.1 5) (ai (F69 n (b.2.1.2,0,bS .i64 (ax b.1.2.1) 1,())) λc=>Z c) (Z ((J,
 ()),()))))))
def ajh(n:Nat):OC:=⟨211,⟨P56,K4,J,F211 n⟩,cM [k69 n] [] n 10 211⟩
def aaU(n:Nat)(e:Int×U):fW->O Wo:=
 λg=>au (aq g.1.1) (Z (X () e)) (Z (N (aE .i64 e.1 1,())))
def aaT(n:Nat)(b:aly):O fW:=
 ai (aQ (Int×U) (Int×U) (U) (λi=>au (aD i.1 (ax b.2.1.3)) (aK (aC i.1 b.2.1.3) (ai (F211 n (b.1,aZ b.2.1.3 (ak
 i.1) aA,())) (aaU n i))) (Z (H 0 i))) n (0,())) λi=>bp i (λ_ _=>Z ((aq J,()),())) (λ_ k=>Z
 ((aq (bA 0 k.1),()),())) λ_ _=>Y
def HU(n:Nat):O fW:=
 Z ((J,()),())
def F266:alx:=
 λn b=>ai (F69 n (b.2.1.1,0,bS .i64 (ax b.1.1.1) 1,())) λc=>au c.1.1 (au (bA (ax b.2.1.2) 30) (aK (aC b.2.1.1 b.1.1.1)
 (ai (F173 n (aZ b.1.1.1 (ak b.2.1.1) aW,())) λd=>au (bA (ax b.2.1.3) d.1.1) (ai (aQ (Int×U) (Int×U) (U)
 (λe=>au (aD e.1 (ax b.2.1.2)) (aK (aC e.1 b.2.1.2) (ai (F211 n (b.1,aZ b.2.1.2 (ak e.1) aA,())) (aaU n e))) (Z (H
 0 e))) n (0,())) λe=>bp e (λ_ _=>au (aq J) (aaT n b) (HU n)) (λ_ h=>au (aq (bA 0 h.1)) (aaT n b) (HU
 n)) λ_ _=>Y) (HU n))) (HU n)) (HU n)
def aos(n:Nat):OC:=⟨266,⟨P57,K4,J,F266 n⟩,cM [k69 n,afY n,ajh n] [(294,0,⟨[(8,dj)],[],[],0⟩)] n 10 266⟩
def F267:alx:=
 λn b=>aK (aC b.2.1.1 b.1.1.1) (ai (F173 n (aZ b.1.1.1 (ak b.2.1.1) aW,())) λc=>Z ((aD (ax b.2.1.3) c.1.1,()),()))
def aor(n:Nat):OC:=⟨267,⟨P57,K4,J,F267 n⟩,cM [afY n] [] n 10 267⟩
def aaW(n:Nat)(c:Int×U):fW->O Wo:=
 λd=>au (aq d.1.1) (Z (X () c)) (Z (N (aE .i64 c.1 1,())))
def HZ(b:ahp):L av:=
 eZ b.2.1 0 (FV 0 (bS .i64 (ax b.2.1) b.2.2.1))
def Sj(n:Nat)(b:ahp):O fW:=
 aK (iJ 0 (FV 0 (bS .i64 (ax b.2.1) b.2.2.1)) (ax b.2.1)) (ai (aQ (Int×U) (Int×U) (U) (λg=>au (aD g.1 (ax
 (HZ b))) (aK (aC g.1 (HZ b)) (ai (F267 n (b.1,aZ (HZ b) (ak g.1) aH,())) (aaW n g))) (Z (H 0 g))) n (0,()))
 λg=>bp g (λ_ _=>Z ((aq J,()),())) (λ_ i=>Z ((aq (bA 0 i.1),()),())) λ_ _=>Y)
def F212:Nat->ahp->O fW:=
 λn b=>au (bA (ax b.2.1) 40) (ai (aQ (Int×U) (Int×U) (U) (λc=>au (aD c.1 (ax b.2.1)) (aK (aC c.1 b.2.1)
 (ai (F266 n (b.1,aZ b.2.1 (ak c.1) aH,())) (aaW n c))) (Z (H 0 c))) n (0,())) λc=>bp c (λ_ _=>au (aq J)
 (Sj n b) (Z ((J,()),()))) (λ_ e=>au (aq (bA 0 e.1)) (Sj n b) (Z ((J,()),()))) λ_ _=>Y) (Z ((J,
 ()),()))
def ajg(n:Nat):OC:=⟨212,⟨P58,K4,J,F212 n⟩,cM [aos n,aor n] [(310,0,⟨[(8,dj)],[],[],0⟩)] n 10 212⟩
def HY(n:Nat):O fW:=
 Z ((J,()),())
def Ml(n:Nat)(b:Y76):O fW:=
 ai (F212 n (b.1,b.2.1.4,bS .i64 1 (ax b.2.1.3),())) λc=>Z c
def F213:Y77:=
 λn b=>au (aa b.2.1.2 0) (au (aD 1 (ax b.2.1.3)) (HY n) (au (aa (ax b.2.1.4) 0) (au (aa (ax b.2.1.3) 0) (HY n)
 (Ml n b)) (Ml n b))) (au (aa b.2.1.2 1) (au (aa (ax b.2.1.3) 1) (Z ((aa (ax b.2.1.4) 0,()),())) (HY n)) (ai (au
 (aa b.2.1.2 2) (Z (N (W,()))) (ai (au (aa b.2.1.2 3) (Z (N (W,()))) (Z (N (aa b.2.1.2 4,())))) λ(c :
 HK)=>ck c (λd=>Z (N d)) (λ_ _=>Y) (λ_ e=>Z (X () e)) λ_ _=>Y)) λ(c:HK)=>ck c (λd=>au
 d.1 (au (aa (ax b.2.1.3) 0) (Z ((aa (ax b.2.1.4) 0,()),())) (HY n)) (HY n)) (λ_ _=>Y) (λ_ e=>Z (e,())) λ_ _
 =>Y))
def aoY(n:Nat):OC:=⟨213,⟨P59,K4,J,F213 n⟩,cM [ajg n] [(213,1000009,⟨[(45,dn)],[],[],0⟩),(213,1000010,⟨[(45,dn)],[],[],0⟩)] n 10 213⟩
def kQ(n:Nat):O fW:=
 Z ((J,()),())
def Mm(n:Nat)(b:Y76):O fW:=
 au (aa b.2.1.1 1) (au (aa (ax b.2.1.4) 0) (ai (F69 n (b.2.1.2,0,bS .i64 (ax b.1.1.4) 1,())) λg=>au g.1.1 (aK (aC b.2.1.2
 b.1.1.4) (Z ((aa (ax b.2.1.3) (aZ b.1.1.4 (ak b.2.1.2) bM).2,()),()))) (kQ n)) (kQ n)) (au (aa b.2.1.1 2) (au (aa
 (ax b.2.1.4) 0) (ai (F69 n (b.2.1.2,0,bS .i64 (ax b.1.1.1) 1,())) λg=>au g.1.1 (aK (aC b.2.1.2 b.1.1.1) (au (aa (aZ b.1.1.1
 (ak b.2.1.2) aW).1 5) (Z ((bA (ax b.2.1.3) 30,()),())) (kQ n))) (kQ n)) (kQ n)) (au (aa b.2.1.1 3) (au (aa (ax
 b.2.1.4) 0) (au (aa b.2.1.2 0) (Z ((aa (ax b.2.1.3) 1,()),())) (kQ n)) (kQ n)) (au (aa b.2.1.1 4) (au (aa (ax b.2.1.4)
 0) (au (aa b.2.1.2 0) (Z ((bA (ax b.2.1.3) 4,()),())) (kQ n)) (kQ n)) (au (aa b.2.1.1 5) (au (aa b.2.1.2 0) (au (aa
 (ax b.2.1.3) 0) (au (aD 0 (ax b.2.1.4)) (ai (F212 n (b.1,b.2.1.4,0,())) λg=>au g.1.1 (aK (aC 0 b.2.1.4) (aK (aC (aZ b.2.1.4
 (ak 0) aH).1 b.1.1.1) (Z ((aa (aZ b.1.1.1 (ak (aZ b.2.1.4 (ak 0) aH).1) aW).1 26,()),())))) (kQ n)) (kQ
 n)) (kQ n)) (kQ n)) (au (aa b.2.1.1 6) (ai (F213 n b) λg=>Z g) (kQ n))))))
def F163:Y77:=
 λn b=>ai (aQ (Int×U) (Int×U) (U) (λc=>au (aD c.1 (ax b.2.1.3)) (aK (aC c.1 b.2.1.3) (ai (F211 n (b.1,aZ
 b.2.1.3 (ak c.1) aA,())) λd=>au (aq d.1.1) (Z (X () c)) (Z (N (aE .i64 c.1 1,()))))) (Z (H 0 c))) n (0,
 ())) λc=>bp c (λ_ _=>au (aq (aq J)) (kQ n) (Mm n b)) (λ_ e=>au (aq (aq (bA 0 e.1))) (kQ n)
 (Mm n b)) λ_ _=>Y
def apf(n:Nat):OC:=⟨163,⟨P59,K4,J,F163 n⟩,cM [k69 n,ajh n,ajg n,aoY n] [(294,0,⟨[(8,dj)],[],[],0⟩)] n 10 163⟩
def Cy(b:cP×U)(c:alj):Int:=
 aZ b.1.2.2 (ak c.1) 0
def H6(n:Nat)(j:Int×U):O Wo:=
 Z (N (aE .i64 j.1 1,()))
def aaX(n:Nat):Wo->O fW:=
 λj=>bp j (λ_ _=>Z ((aq J,()),())) (λ_ l=>Z ((aq (bA 0 l.1),()),())) λ_ _=>Y
def F164:alq:=
 λn b=>ai (aQ (alj) (Bool×U) (L (Int×Bool)×U) (λc=>au (aD c.1 (ax b.1.2.2)) (aK (aC c.1 b.1.2.2) (ai (F69
 n (Cy b c,0,bS .i64 (ax b.1.2.1) 1,())) λd=>au (aq d.1.1) (Z (X c.2 (J,()))) (aK (aC (Cy b c) b.1.2.1) (au
 (aq (aa (aZ b.1.2.1 (ak (Cy b c)) aO).1 6)) (Z (X c.2 (J,()))) (au (Io (A:=sg.A) (Ty.int .i64) J (Cy b c)
 c.2.1) (Z (X c.2 (J,()))) (Z (N (aE .i64 c.1 1,ni (A:=sg.A) (Ty.int .i64) (Cy b c) W c.2.1,())))))))) (Z
 (H 0 c))) n (0,[],())) λc=>bp c (λ_ e=>ai (aQ (Int×(L Int×U)×U) (U) (Y18) (λg=>au (aD g.1
 (ax b.1.2.1)) (aK (dB g.2.1.1 [g.1]) (Z (N (aE .i64 g.1 1,(cX g.2.1.1 [g.1],()),())))) (Z (H 0 g))) n (0,([],()),()))
 λg=>bp g (λ_ i=>ai (aQ (Int×U) (Int×U) (U) (λj=>au (aD j.1 (ax i.2.1.1)) (aK (aC j.1 i.2.1.1) (aK
 (cJ (ak j.1) i.2.1.1) (au (Io (A:=sg.A) (Ty.int .i64) J (aZ i.2.1.1 (ak j.1) 0) e.2.1) (H6 n j) (aK (aC (aZ i.2.1.1 (ak j.1)
 0) b.1.2.1) (au (aq (aq (aa (aZ b.1.2.1 (ak (aZ i.2.1.1 (ak j.1) 0)) aO).1 6))) (Z (X () j)) (H6 n j)))))) (Z
 (H 0 j))) n (0,())) (aaX n)) (λh _=>ai (aQ (Int×U) (Int×U) (U) (λj=>au (aD j.1 (ax h.1.1)) (aK (aC
 j.1 h.1.1) (aK (cJ (ak j.1) h.1.1) (au (Io (A:=sg.A) (Ty.int .i64) J (aZ h.1.1 (ak j.1) 0) e.2.1) (H6 n j) (aK (aC (aZ h.1.1
 (ak j.1) 0) b.1.2.1) (au (aq (aq (aa (aZ b.1.2.1 (ak (aZ h.1.1 (ak j.1) 0)) aO).1 6))) (Z (X () j)) (H6 n j))))))
 (Z (H 0 j))) n (0,())) (aaX n)) λ_ _=>Y) (λ_ e=>Z (e,())) λ_ _=>Y
def ape(n:Nat):OC:=⟨164,⟨P60,K4,J,F164 n⟩,cM [k69 n] [(164,0,⟨[(13,dj),(0,.box (.map (.int .i64) (.bool)))],[.cell (.slot 3) 0],[],0⟩),(207,0,⟨[(8,dj)],[],[],0⟩),(269,0,⟨[(5,dj),(0,IV)],[.Qk (.slot 0) 2],[],0⟩)] n 10 164⟩
def F166:Nat->ef×U->O fW:=
 λn b=>ai (F69 n (b.1.1,0,3,())) λc=>au c.1.1 (ai (F69 n (b.1.2,(-1000000000),1000000000,())) λd=>Z d) (Z ((J,()),
 ()))
def apd(n:Nat):OC:=⟨166,⟨P61,K4,J,F166 n⟩,cM [k69 n] [] n 10 166⟩
def DF(n:Nat):O fW:=
 Z ((J,()),())
def Uc(n:Nat)(b:cP×U):O fW:=
 ai (F47 n (b.1.2.4,())) λk=>au k.1.1 (ai (F69 n (b.1.2.5,0,1000000000,())) λl=>Z l) (DF n)
def Ub(n:Nat)(b:cP×U):O fW:=
 ai (F164 n b) λg=>au g.1.1 (au (bA (ax b.1.2.3) 100) (ai (aQ (Int×U) (Int×U) (U) (λh=>au (aD h.1 (ax
 b.1.2.3)) (aK (aC h.1 b.1.2.3) (ai (F166 n (aZ b.1.2.3 (ak h.1) eS,())) λi=>au (aq i.1.1) (Z (X () h)) (Z (N
 (aE .i64 h.1 1,()))))) (Z (H 0 h))) n (0,())) λh=>bp h (λ_ _=>au (aq J) (Uc n b) (DF n)) (λ_ j=>au
 (aq (bA 0 j.1)) (Uc n b) (DF n)) λ_ _=>Y) (DF n)) (DF n)
def F99:alq:=
 λn b=>au (bA (ax b.1.2.1) 120) (ai (aQ (Int×U) (Int×U) (U) (λc=>au (aD c.1 (ax b.1.2.1)) (aK (aC c.1
 b.1.2.1) (ai (F163 n (b.1,aZ b.1.2.1 (ak c.1) aO,())) λd=>au (aq d.1.1) (Z (X () c)) (Z (N (aE .i64 c.1 1,
 ()))))) (Z (H 0 c))) n (0,())) λc=>bp c (λ_ _=>au (aq J) (Ub n b) (DF n)) (λ_ e=>au (aq (bA 0 e.1))
 (Ub n b) (DF n)) λ_ _=>Y) (DF n)
def k99(n:Nat):OC:=⟨99,⟨P60,K4,J,F99 n⟩,cM [k47 n,k69 n,apf n,ape n,apd n] [(262,0,⟨[(8,dj)],[],[],0⟩),(270,0,⟨[(8,dj)],[],[],0⟩)] n 10 99⟩
def F110:Nat->cP×Int×U->Iq:=
 λn b=>ai (F70 n ((b.1.1.1,b.1.1.2,b.1.1.3,b.1.1.4,b.1.2.1,b.1.2.2,b.1.2.3,b.1.2.4,b.1.2.5,()),b.2)) λc=>ai (F71 n c.1) λd=>
 Z d
def apE(n:Nat):OC:=⟨110,⟨P62,K2,J,F110 n⟩,cM [k70 n,k71 n] [] n 10 110⟩
def F68:Nat->Y2×U->O ((L Int×U)×Y2×U):=
 λn b=>ai (aQ (WJ) (L Int×U) (U) (λc=>au (aD c.2.1 (ax b.1.2.2.2.2.2.1)) (ai (F110 n (cP.mk (az.mk
 b.1.1 b.1.2.1 b.1.2.2.1 b.1.2.2.2.1) (af.mk b.1.2.2.2.2.1 b.1.2.2.2.2.2.1 b.1.2.2.2.2.2.2.1 b.1.2.2.2.2.2.2.2.1 b.1.2.2.2.2.2.2.2.2.1),c.2))
 λd=>au (aq (aa d.1.1 2)) (aK (dB c.1 [c.2.1]) (Z (N (cX c.1 [c.2.1],aE .i64 c.2.1 1,())))) (Z (N (c.1,aE .i64
 c.2.1 1,())))) (Z (H 0 c))) n ([],0,())) λc=>bp c (λ_ e=>Z ((e.1,()),b)) (λ_ e=>Z (e,b)) λ_ _=>Y
def k68(n:Nat):OC:=⟨68,⟨P52,K63,J,F68 n⟩,cM [apE n] [(68,0,⟨[(3,.one (.own (.int .i64))),(11,dj)],[],[],0⟩)] n 10 68⟩
def F335:Nat->je×U->O Y39:=
 λn _=>Z ((br,()),())
def aoa(n:Nat):OC:=⟨335,⟨asx,K24,J,F335 n⟩,cM [] [] n 10 335⟩
def F336:Nat->g6×U->O Y39:=
 λn b=>Z ((b.1.1,()),())
def an9(n:Nat):OC:=⟨336,⟨asw,K24,J,F336 n⟩,cM [] [] n 10 336⟩
def F337:Nat->jG×U->O Y39:=
 λn _=>Z ((br,()),())
def an8(n:Nat):OC:=⟨337,⟨asv,K24,J,F337 n⟩,cM [] [] n 10 337⟩
def PA(n:Nat)(c:ahx):ahw:=
 Z ((br,0,8,()),c.2)
def DJ:L (Nat×Ty):=
 [(170,Ty.st 12),(173,Ty.st 13),(175,Ty.st 14),(181,Ty.st 15)]
def Ue(n:Nat)(i:ahx):Y39->ahw:=
 λj=>Z ((j.1.1,i.1.1,0,()),i.2)
def F59:Nat->Y2×Int×U->ahw:=
 λn b=>ai (F50 n (b.1,0,())) λc=>au (aq c.1.2.1) (PA n c) (ai (F68 n c.2) λd=>au (aa (ax d.1.1) 0) (Z ((br,
 0,5,()),d.2)) (aK (nzI (ax d.1.1)) (ai (au (aD (rA b.2.1 (ax d.1.1)) 0) (Z (N (aE .i64 (rA b.2.1 (ax d.1.1)) (ax
 d.1.1),W,()))) (Z (N (rA b.2.1 (ax d.1.1),J,())))) λ(e:LO (Int×Bool×U) (Int×Int×U) U Any)=>ck e
 (λg=>aK (aC g.1 d.1.1) (ai (F70 n (d.2.1,aZ d.1.1 (ak g.1) 0,())) λh=>ai (F50 n (h.2.1,aE .i64 c.1.1 1,())) λi=>au
 (aq i.1.2.1) (PA n i) (au (aD 5000 i.1.1) (PA n i) (au (jD DJ 0 (gj 16 h.1.1)) (ai (F335 n (j8 (Sg.zero sg) DJ 0 (gj
 16 h.1.1),())) (Ue n i)) (au (jD DJ 1 (gj 16 h.1.1)) (ai (F336 n (j8 (Sg.zero sg) DJ 1 (gj 16 h.1.1),())) (Ue n i)) (au
 (jD DJ 2 (gj 16 h.1.1)) (ai (F114 n (j8 (Sg.zero sg) DJ 2 (gj 16 h.1.1),())) (Ue n i)) (au (jD DJ 3 (gj 16 h.1.1))
 (ai (F337 n (j8 (Sg.zero sg) DJ 3 (gj 16 h.1.1),())) (Ue n i)) Y))))))) (λ_ _=>Y) (λ_ h=>Z ((br,h),d.2))
 λ_ _=>Y)))
def k59(n:Nat):OC:=⟨59,⟨P46,K64,J,F59 n⟩,cM [k50 n,k68 n,k70 n,ajq n,aoa n,an9 n,an8 n] [(59,1000009,⟨[(10,dj),(31,dn)],[],[],0⟩)] n 10 59⟩
def aaV(n:Nat):O Y78:=
 Z ((dF,[],2,()),())
def F21:ash:=
 λn b=>ai (F46 n (b.1,())) λc=>au (aq (aa c.1.1 0)) (aaV n) (ai (F99 n (cP.mk b.1 b.2.1,())) λd=>au (aq d.1.1)
 (aaV n) (au (aD 200 (ax b.2.2.1)) (aaV n) (ai (F50 n ((b.1.1,b.1.2,b.1.3,b.1.4,b.2.1.1,b.2.1.2,b.2.1.3,b.2.1.4,b.2.1.5,()),0,()))
 λe=>au (aq e.1.2.1) (Z ((dF,[],8,()),())) (ai (aQ (L aN×Int×zy×Y2×U) (asf) (zy×Y2×U)
 (λg=>au (aD g.2.1 (ax b.2.2.1)) (aK (aC g.2.1 b.2.2.1) (ai (F59 n (g.2.2.2.1,aZ b.2.2.1 (ak g.2.1) 0,())) λh=>au (aa
 h.1.2.2.1 5) (Z (H 0 (g.1,g.2.1,([],[],[],[],g.2.2.1.2.2.2.2),h.2))) (au (aq (aa h.1.2.2.1 0)) (Z (X (([],[],[],[],
 0,()),h.2) ([],h.1.2.2))) (aK (dB g.1 [h.1.1]) (Z (N (cX g.1 [h.1.1],aE .i64 g.2.1 1,([],[],[],[],g.2.2.1.2.2.2.2),
 h.2))))))) (Z (H 0 (g.1,g.2.1,([],[],[],[],g.2.2.1.2.2.2.2),g.2.2.2)))) n ([],0,([],[],[],[],0,()),e.2)) λg=>bp g (λ_
 i=>ai (F51 n i.2.2.2) λj=>Z ((j.1.1,i.1,0,()),())) (λh i=>Z ((af.mk [] [] [] [] h.1.2.2.2.2.1,i),())) λ_ _=>
 Y))))
def k21(n:Nat):OC:=⟨21,⟨P65,K66,J,F21 n⟩,cM [k46 n,k50 n,k51 n,k59 n,k99 n] [(21,0,⟨[(13,.one (.own (.st 9))),(43,dj),(0,.box (.cells [.nil (.st 6),.nil (.int .i64),.nil (.st 7),.nil (.int .i64),mN])),(0,b2z)],[.slot 6,.slot 23],[],0⟩)] n 10 21⟩
def F25:ahr:=
 λn b=>Z ((aj.mk 1 b.1,()),())
def k25(n:Nat):OC:=⟨25,⟨P11,K17,J,F25 n⟩,cM [] [] n 10 25⟩
abbrev E60(n:Nat):eT sg:=⟨IN,Ks [k49 n,k90 n,af0 n,acF n],shL [(60,0,⟨[(24,dj),(0,LR),(0,IV)],[.cell (.slot 3) 0,.slot 4],[],0⟩),(60,2,⟨[(8,dj),(0,LR),(0,IV)],[.cell (.slot 3) 0,.slot 4],[],0⟩),(60,6,⟨[(75,dj),(0,b6z)],[.slot 11],[],0⟩),(60,8,⟨[(101,dj),(0,b6z)],[.slot 11],[],0⟩),(91,0,⟨[(21,dj),(0,ak9)],[.slot 2],[(19,1002003)],0⟩),(158,0,⟨[(0,.one (.own (.st 4))),(10,dj)],[],[(8,0)],0⟩),(167,0,⟨[(15,dj),(0,LR),(0,IV)],[.cell (.cap (.cell (.Qk (.cell (.slot 2) 0) 5) 0) 0) 0,.cap (.cell (.Qk (.cell (.slot 2) 0) 5) 0) 1],[],0⟩)],J,cjL [(167,⟨[(0,aac),(0,LR),(0,IV)],[.slot 1,.cell (.cap (.cell (.Qk (.slot 0) 5) 0) 0) 0,.cap (.cell (.Qk (.slot 0) 5) 0) 1],[.slot 0,.Qk (.slot 0) 5,.cap (.cell (.Qk (.slot 0) 5) 0) 0],[]⟩),(168,⟨[(0,.one (qL)),(0,LR),(0,IV)],[.cell (.cap (.cell (.Qk (.cell (.slot 1) 0) 5) 0) 0) 0,.cap (.cell (.Qk (.cell (.slot 1) 0) 5) 0) 1],[.slot 1,.cell (.slot 1) 0,.Qk (.cell (.slot 1) 0) 5,.cap (.cell (.Qk (.cell (.slot 1) 0) 5) 0) 0,.slot 2],[.dat .bool]⟩)]⟩
def adZ:Nat->Nat->yD×L (Int×Int)×(L Int×U)×U->O (U×yD×L (Int×Int)×(L Int×U)×U):=λn a x=>abH (DA (E60 n) n a) 167 [(0,aac),(0,LR),(0,IV)] [] [9,2,4] [11,5,3] (adh ([9,2,4]++[11,5,3]) [(0,aac),(0,LR),(0,IV)] (Zu [.rB 11,.ptr 9 0])) (stJ [9,2,4] [11,5,3] ⟨trL [(11,lpR 60 115 [50] (rgN (Xg (aeJ 60)) 0) [(5,.ptr 5 0)]),(5,.box [.fn (.func 100) [] [.ptr 3 0,.ptr 4 0]]),(3,.box [.mp 2])],0,0,0,[],[]⟩) x
def Eh:Nat->Nat->L aj×L (Int×Int)×(L Int×U)×U->O ((Bool×U)×L (Int×Int)×(L Int×U)×U):=λn a x=>abH (DA (E60 n) n a) 168 [(0,.one (qL)),(0,LR),(0,IV)] [.dat .bool] [2,4] [13,11,5,3,14] (adh ([2,4]++[13,11,5,3,14]) [(0,.one (qL)),(0,LR),(0,IV)] (Zu [.emp,.ptr 13 0,.ptr 14 0])) (stJ [2,4] [13,11,5,3,14] ⟨trL [(11,lpR 60 115 [50] (rgN (Xg (aeJ 60)) 0) [(5,.ptr 5 0)]),(5,.box [.fn (.func 100) [] [.ptr 3 0,.ptr 4 0]]),(3,.box [.mp 2]),(13,.box [.rB 11]),(14,.box [.fn (.func 168) [] [.ptr 13 0,.ptr 14 0]])],0,0,0,[],[]⟩) x
def B167:Nat->Nat->yD×L (Int×Int)×(L Int×U)×U->O (U×yD×L (Int×Int)×(L Int×U)×U):=
 λn a c=>ai (Eh n a (c.1.2.2.1,c.2)) λd=>au (aq d.1.1) (Z ((),c.1,d.2)) (ai (aQ (Y41) (U) (Y42) (λe=>au
 (aD e.1 (ax c.1.2.2.2.1)) (aK (aC e.1 c.1.2.2.2.1) (ai (Eh n a ((aZ c.1.2.2.2.1 (ak e.1) aH).2,e.2)) λg=>au (aq
 g.1.1) (Z (X g.2 ())) (ai (Eh n a ((aZ c.1.2.2.2.1 (ak e.1) aH).3,g.2)) λh=>au (aq h.1.1) (Z (X h.2 ()))
 (Z (N (aE .i64 e.1 1,h.2)))))) (Z (H 0 e))) n (0,d.2)) λe=>bp e (λ_ h=>Z ((),c.1,h.2)) (λg _=>Z ((),
 c.1,g)) λ_ _=>Y)
def adY(n a:Nat):adZ n (a+1)=B167 n a:=by kernel_rfl
def B168:Nat->Nat->L aj×L (Int×Int)×(L Int×U)×U->O ((Bool×U)×L (Int×Int)×(L Int×U)×U):=
 λn a c=>au (aa (ax c.1) 0) (Z ((W,()),c.2)) (aK (aC 0 c.1) (au (aq (aa (aZ c.1 (ak 0) aA).1 5)) (aK (iJ 1
 (ax c.1) (ax c.1)) (ai (Eh n (a+2) (eZ c.1 1 (ax c.1),c.2)) λd=>Z d)) (aK (aC 0 c.1) (au (aq (BS (A:=sg.A) (Ty.int .i64)
 (aZ c.1 (ak 0) aA).2 c.2.1)) (aK (dB c.2.2.1.1 [(aZ c.1 (ak 0) aA).2]) (aK (iJ 1 (ax c.1) (ax c.1)) (ai (Eh n (a+2) (eZ
 c.1 1 (ax c.1),ni (A:=sg.A) (Ty.int .i64) (aZ c.1 (ak 0) aA).2 (ax c.2.2.1.1) c.2.1,(cX c.2.2.1.1 [(aZ c.1 (ak 0) aA).2],
 ()),())) λd=>Z d))) (aK (iJ 1 (ax c.1) (ax c.1)) (ai (Eh n (a+2) (eZ c.1 1 (ax c.1),c.2)) λd=>Z d))))))
def adX(n a:Nat):Eh n (a+3)=B168 n a:=by kernel_rfl
def Pz(c:Y2×U)(d:Y41):Int:=
 aZ c.1.2.2.2.2.2.1 (ak d.1) 0
def Bn(c:Y2×U)(h:Y41):aB:=
 aZ c.1.2.2.2.2.1 (ak (aZ h.2.2.1.1 (ak h.1) 0)) aO
def DI(c:Y2×U)(j:Y41)(m:Int×zy×U):aB:=
 aZ c.1.2.2.2.2.1 (ak (aZ j.2.2.1.1 (ak m.1) 0)) aO
def yH(n:Nat)(j:Y41)(o:Y44):Y46:=
 aQ (PT) (L aj×U) (U) (λp=>au (aD p.2.1 (ax o.1.1)) (aK (aC p.2.1 p.1) (aK (cJ (ak p.2.1) p.1) (au (aa
 (aZ p.1 (ak p.2.1) aA).1 5) (aK (aC p.2.1 p.1) (aK (cJ (ak p.2.1) p.1) (Z (N (eg p.1 (ak p.2.1) (aj.mk (aZ p.1
 (ak p.2.1) aA).1 (Io (A:=sg.A) (Ty.int .i64) 0 (aZ p.1 (ak p.2.1) aA).2 j.2.1)),aE .i64 p.2.1 1,()))))) (Z (N (p.1,
 aE .i64 p.2.1 1,())))))) (Z (H 0 p))) n (o.1.1,0,())
def yG(t:Int×yD×U):av:=
 aZ t.2.1.2.2.2.1 (ak t.1) aH
def aaH(n:Nat)(t:Int×yD×U)(x:PT)(a:PT):WI:=
 aK (aC t.1 t.2.1.2.2.2.1) (aK (cJ (ak t.1) t.2.1.2.2.2.1) (Z (N (aE .i64 t.1 1,(t.2.1.1,t.2.1.2.1,t.2.1.2.2.1,eg
 t.2.1.2.2.2.1 (ak t.1) (av.mk (yG t).1 x.1 a.1),()),()))))
def aeU(n:Nat)(t:Int×yD×U)(x:PT)(a:L aj×U):WI:=
 aK (aC t.1 t.2.1.2.2.2.1) (aK (cJ (ak t.1) t.2.1.2.2.2.1) (Z (N (aE .i64 t.1 1,(t.2.1.1,t.2.1.2.1,t.2.1.2.2.1,eg
 t.2.1.2.2.2.1 (ak t.1) (av.mk (yG t).1 x.1 a.1),()),()))))
def Py(n:Nat)(j:Y41)(t:Int×yD×U)(x:PT):WI:=
 ai (F159 n ((yG t).3,())) λy=>ai (yH n j y) λz=>bp z (λ_ a=>aaH n t x a) (λ_ a=>aeU n t x a) λ_ _=>Y
def amc(n:Nat)(t:Int×yD×U)(x:L aj×U)(a:PT):WI:=
 aK (aC t.1 t.2.1.2.2.2.1) (aK (cJ (ak t.1) t.2.1.2.2.2.1) (Z (N (aE .i64 t.1 1,(t.2.1.1,t.2.1.2.1,t.2.1.2.2.1,eg
 t.2.1.2.2.2.1 (ak t.1) (av.mk (yG t).1 x.1 a.1),()),()))))
def ahN(n:Nat)(t:Int×yD×U)(x:L aj×U)(a:L aj×U):WI:=
 aK (aC t.1 t.2.1.2.2.2.1) (aK (cJ (ak t.1) t.2.1.2.2.2.1) (Z (N (aE .i64 t.1 1,(t.2.1.1,t.2.1.2.1,t.2.1.2.2.1,eg
 t.2.1.2.2.2.1 (ak t.1) (av.mk (yG t).1 x.1 a.1),()),()))))
def Mb(n:Nat)(j:Y41)(t:Int×yD×U)(x:L aj×U):WI:=
 ai (F159 n ((yG t).3,())) λy=>ai (yH n j y) λz=>bp z (λ_ a=>amc n t x a) (λ_ a=>ahN n t x a) λ_ _=>Y
def RX(n:Nat)(c:Y2×U)(j:Y41)(m:Int×zy×U)(r:PT):Y48:=
 ai (F160 n ((DI c j m).4,())) λs=>ai (aQ (Int×yD×U) (U) (yD×U) (λt=>au (aD t.1 (ax s.1.1)) (aK (aC
 t.1 t.2.1.2.2.2.1) (aK (cJ (ak t.1) t.2.1.2.2.2.1) (ai (F159 n ((yG t).2,())) λu=>ai (yH n j u) λv=>bp v (λ_ x=>Py n
 j t x) (λ_ x=>Mb n j t x) λ_ _=>Y))) (Z (H 0 t))) n (0,((DI c j m).1,(DI c j m).2,r.1,s.1),())) λt=>bp t
 (λ_ v=>aK (dB m.2.1.1 [aB.mk v.2.1.1 v.2.1.2.1 v.2.1.2.2.1 v.2.1.2.2.2.1]) (Z (N (aE .i64 m.1 1,(cX m.2.1.1 [aB.mk
 v.2.1.1 v.2.1.2.1 v.2.1.2.2.1 v.2.1.2.2.2.1],m.2.1.2),())))) (λ_ _=>aK (dB m.2.1.1 [aO]) (Z (N (aE .i64 m.1 1,(cX
 m.2.1.1 [aO],m.2.1.2),())))) λ_ _=>Y
def aaI(n:Nat)(c:Y2×U)(j:Y41)(m:Int×zy×U)(r:L aj×U):Y48:=
 ai (F160 n ((DI c j m).4,())) λs=>ai (aQ (Int×yD×U) (U) (yD×U) (λt=>au (aD t.1 (ax s.1.1)) (aK (aC
 t.1 t.2.1.2.2.2.1) (aK (cJ (ak t.1) t.2.1.2.2.2.1) (ai (F159 n ((yG t).2,())) λu=>ai (yH n j u) λv=>bp v (λ_ x=>Py n
 j t x) (λ_ x=>Mb n j t x) λ_ _=>Y))) (Z (H 0 t))) n (0,((DI c j m).1,(DI c j m).2,r.1,s.1),())) λt=>bp t
 (λ_ v=>aK (dB m.2.1.1 [aB.mk v.2.1.1 v.2.1.2.1 v.2.1.2.2.1 v.2.1.2.2.2.1]) (Z (N (aE .i64 m.1 1,(cX m.2.1.1 [aB.mk
 v.2.1.1 v.2.1.2.1 v.2.1.2.2.1 v.2.1.2.2.2.1],m.2.1.2),())))) (λ_ _=>aK (dB m.2.1.1 [aO]) (Z (N (aE .i64 m.1 1,(cX
 m.2.1.1 [aO],m.2.1.2),())))) λ_ _=>Y
def RW(c:Y2×U)(q:Int×zy×U):Int:=
 aZ c.1.2.2.2.2.2.1 (ak q.1) 0
def G60:Nat->Nat->Y2×U->O Y49:=
 λn a c=>ai (aQ (Y41) (U) (Y42) (λd=>au (aD d.1 (ax c.1.2.2.2.2.2.1)) (aK (aC d.1 c.1.2.2.2.2.2.1) (au (aq (BS
 (A:=sg.A) (Ty.int .i64) (Pz c d) d.2.1)) (aK (dB d.2.2.1.1 [Pz c d]) (Z (N (aE .i64 d.1 1,ni (A:=sg.A) (Ty.int .i64) (Pz
 c d) (ax d.2.2.1.1) d.2.1,(cX d.2.2.1.1 [Pz c d],()),())))) (Z (N (aE .i64 d.1 1,d.2))))) (Z (H 0 d))) n (0,[],([],
 ()),())) λd=>bp d (λ_ g=>ai (aQ (Y41) (U) (Y42) (λh=>au (aD h.1 (ax h.2.2.1.1)) (aK (aC h.1 h.2.2.1.1) (aK
 (cJ (ak h.1) h.2.2.1.1) (aK (aC (aZ h.2.2.1.1 (ak h.1) 0) c.1.2.2.2.2.1) (ai (adZ n (a+10) (((Bn c h).1,(Bn c h).2,(Bn c h).3,
 (Bn c h).4,()),h.2)) λi=>Z (N (aE .i64 h.1 1,i.2.2)))))) (Z (H 0 h))) n (0,g.2)) λh=>bp h (λ_ j=>ai (F90
 n (c.1.2.2.2.2.2.2.1,())) λk=>ai (F49 n (c.1.2.2.2.2.2.2.2.1,())) λl=>ai (aQ (Int×zy×U) (U) (zy×U) (λm=>
 au (aD m.1 (ax j.2.2.1.1)) (aK (aC m.1 j.2.2.1.1) (aK (cJ (ak m.1) j.2.2.1.1) (aK (aC (aZ j.2.2.1.1 (ak m.1) 0) c.1.2.2.2.2.1) (ai
 (F159 n ((DI c j m).3,())) λo=>ai (yH n j o) λp=>bp p (λ_ r=>RX n c j m r) (λ_ r=>aaI n c j m r) λ_ _=>
 Y)))) (Z (H 0 m))) n (0,([],[],k.1.1,l.1.1,c.1.2.2.2.2.2.2.2.2),())) λm=>bp m (λ_ p=>ai (aQ (Int×zy×U) (U) (zy×U) (λq=>au (aD q.1 (ax c.1.2.2.2.2.2.1)) (aK (aC q.1 c.1.2.2.2.2.2.1) (aK (dB q.2.1.2.1 [Io (A:=sg.A) (Ty.int .i64)
 0 (RW c q) j.2.1]) (Z (N (aE .i64 q.1 1,(q.2.1.1,cX q.2.1.2.1 [Io (A:=sg.A) (Ty.int .i64) 0 (RW c q) j.2.1],q.2.1.2.2),
 ()))))) (Z (H 0 q))) n (0,p.2)) λq=>bp q (λ_ s=>Z ((af.mk s.2.1.1 s.2.1.2.1 s.2.1.2.2.1 s.2.1.2.2.2.1 s.2.1.2.2.2.2.1,
 ()),c)) (λ_ _=>Z ((dF,()),c)) λ_ _=>Y) (λ_ _=>Z ((dF,()),c)) λ_ _=>Y) (λ_ _=>Z
 ((dF,()),c)) λ_ _=>Y) (λ_ _=>Z ((dF,()),c)) λ_ _=>Y
def F60(n:Nat):Fn P52 K53 J:=G60 n n
def k60(n:Nat):OC:=⟨60,⟨P52,K53,J,F60 n⟩,aiU [k49 n,k90 n,af0 n,acF n] (E60 n).sh (E60 n).cj n (n+10) 60⟩
def F28:Nat->Y17->O Y30:=
 λn b=>ai (F46 n (b.1,())) λc=>au (aq (aa c.1.1 0)) (Z ((dF,2,()),())) (ai (F99 n (cP.mk b.1 b.2.1,())) λ
 d=>au (aq d.1.1) (Z ((dF,2,()),())) (ai (F60 n ((b.1.1,b.1.2,b.1.3,b.1.4,b.2.1.1,b.2.1.2,b.2.1.3,b.2.1.4,b.2.1.5,()),
 ())) λe=>Z ((e.1.1,0,()),())))
def k28(n:Nat):OC:=⟨28,⟨P67,K55,J,F28 n⟩,cM [k46 n,k60 n,k99 n] [] n 10 28⟩
def F32:alL:=
 λn b=>ai (F46 n (b.1,())) λc=>au (aq (aa c.1.1 0)) (Z ((dF,br,0,2,()),())) (ai (F99 n (cP.mk b.1
 b.2.1,())) λd=>au (aq d.1.1) (Z ((dF,br,0,2,()),())) (ai (F59 n ((b.1.1,b.1.2,b.1.3,b.1.4,b.2.1.1,b.2.1.2,
 b.2.1.3,b.2.1.4,b.2.1.5,()),b.2.2)) λe=>au (aq (aa e.1.2.2.1 0)) (Z ((dF,br,0,e.1.2.2),())) (ai (F51 n e.2)
 λg=>Z ((g.1.1,e.1.1,e.1.2.1,0,()),()))))
def k32(n:Nat):OC:=⟨32,⟨P68,K69,J,F32 n⟩,cM [k46 n,k51 n,k59 n,k99 n] [] n 10 32⟩
def Mg(n:Nat)(c:Int×U):O Wo:=
 Z (N (aE .i64 c.1 1,()))
def F284:Nat->Y62->Iq:=
 λn b=>ai (aQ (Int×U) (Int×U) (U) (λc=>au (aD c.1 (ax b.1)) (aK (aC c.1 b.1) (au (aa (mo b.1 c.1) 32)
 (Mg n c) (aK (aC c.1 b.1) (au (aa (mo b.1 c.1) 9) (Mg n c) (aK (aC c.1 b.1) (au (aa (mo b.1 c.1) 10) (Mg n c) (au (bA
 2 (bS .i64 (ax b.1) c.1)) (aK (iJ c.1 (aE .i64 c.1 2) (ax b.1)) (au (gG (eZ b.1 c.1 (aE .i64 c.1 2)) [47,47]) (ai (aQ (Int×
 U) (Int×U) (U) (λd=>au (aD d.1 (ax b.1)) (aK (aC d.1 b.1) (au (aq (aa (mo b.1 d.1) 10)) (Mg n d) (Z
 (H 0 d)))) (Z (H 0 d))) n c) λd=>bp d (λ_ g=>Z (N g)) (λ_ g=>Z (X () g)) λ_ _=>Y) (Z (X
 () c)))) (Z (X () c))))))))) (Z (H 0 c))) n b.2) λc=>bp c (λ_ e=>Z (e,())) (λ_ e=>Z (e,())) λ_ _=>Y
def aoo(n:Nat):OC:=⟨284,⟨P70,K2,J,F284 n⟩,cM [] [(284,0,⟨[(1,dj)],[],[],0⟩),(284,2,⟨[(1,dj)],[],[],0⟩)] n 10 284⟩
def F142:Nat->alH->O fW:=
 λn b=>ai (aQ (Int×U) (Bool×U) (U) (λc=>au (aD c.1 (ax b.1)) (aK (aC c.1 b.1) (au (gG (aZ b.1 (ak c.1)
 []) b.2.1) (Z (X () (W,()))) (Z (N (aE .i64 c.1 1,()))))) (Z (H 0 c))) n (0,())) λc=>bp c (λ_ _=>Z
 ((J,()),())) (λ_ e=>Z (e,())) λ_ _=>Y
def acG(n:Nat):OC:=⟨142,⟨P71,K4,J,F142 n⟩,cM [] [(142,0,⟨[(5,dj)],[],[],0⟩)] n 10 142⟩
def F290:Y83:=
 λn _=>Z (([[98,111,111,108],[99,101,108,108],[99,104,97,110],[101,108,115,101],[102,97,108,115,101],[102,117,110],[103,
 101,116],[105,102],[105,110],[105,110,112,117,116],[105,110,116],[106,111,105,110],[108,101,116],[109,97,116,99,104],[109,
 111,100,117,108,101],[111,117,116],[112,97,117,115,101],[112,117,116],[114,101,115,101,116],[115,101,110,100],[115,104,105,
 102,116],[115,112,97,119,110],[116,97,107,101],[116,97,115,107],[116,104,101,110],[116,114,117,101],[116,121,112,101],[117,
 110,105,116]],()),())
def aom(n:Nat):OC:=⟨290,⟨[],K72,J,F290 n⟩,cM [] [] n 10 290⟩
def F250:Y33:=
 λn b=>ai (F290 n ()) λc=>ai (F142 n (c.1.1,b)) λd=>Z d
def ajd(n:Nat):OC:=⟨250,⟨P7,K4,J,F250 n⟩,cM [acG n,aom n] [] n 10 250⟩
def F299:Y36:=
 λn b=>au (bA 97 b.1) (Z ((bA b.1 122,()),())) (Z ((J,()),()))
def ai8(n:Nat):OC:=⟨299,⟨P73,K4,J,F299 n⟩,cM [] [] n 10 299⟩
def F302:Y36:=
 λn b=>au (bA 48 b.1) (Z ((bA b.1 57,()),())) (Z ((J,()),()))
def ai6(n:Nat):OC:=⟨302,⟨P73,K4,J,F302 n⟩,cM [] [] n 10 302⟩
def aaQ(n:Nat)(b:alu)(c:Int×U):O Wo:=
 au (aq b.2.2.1) (aK (aC c.1 b.1) (ai (F299 n (mo b.1 c.1,())) λe=>au e.1.1 (Z (N (aE .i64 c.1 1,()))) (Z (H 0
 c)))) (Z (H 0 c))
def F300:Nat->alu->Iq:=
 λn b=>ai (aQ (Int×U) (Int×U) (U) (λc=>au (aD c.1 (ax b.1)) (au b.2.2.1 (aK (aC c.1 b.1) (ai (F302 n (mo
 b.1 c.1,())) λd=>au d.1.1 (Z (N (aE .i64 c.1 1,()))) (aaQ n b c))) (aaQ n b c)) (Z (H 0 c))) n (b.2.1,())) λc=>
 bp c (λ_ e=>Z ((bS .i64 e.1 b.2.1,()),())) (λ_ e=>Z (e,())) λ_ _=>Y
def ai7(n:Nat):OC:=⟨300,⟨P74,K2,J,F300 n⟩,cM [ai8 n,ai6 n] [(300,0,⟨[(7,dj)],[],[],0⟩)] n 10 300⟩
def F301:Y36:=
 λn b=>au (bA 65 b.1) (Z ((bA b.1 90,()),())) (Z ((J,()),()))
def aoj(n:Nat):OC:=⟨301,⟨P73,K4,J,F301 n⟩,cM [] [] n 10 301⟩
def F303:Nat->Y62->Iq:=
 λn b=>aK (aC b.2.1 b.1) (ai (au (aa (mo b.1 b.2.1) 126) (Z (N (aE .i64 b.2.1 1,W,()))) (Z (N (b.2.1,J,
 ())))) λ(c:LO (Int×Bool×U) (Int×U) U Any)=>ck c (λd=>ai (F300 n (b.1,d.1,W,())) λe=>au (aa e.1.1 0) (Z
 ((0,()),())) (au (aD 10 e.1.1) (Z ((0,()),())) (aK (aC d.1 b.1) (au (aa (mo b.1 d.1) 48) (au (aD 1 e.1.1) (Z ((0,()),()))
 (au (aD b.2.1 d.1) (Z ((0,()),())) (Z ((aE .i64 (bS .i64 d.1 b.2.1) e.1.1,()),())))) (Z ((aE .i64 (bS .i64 d.1 b.2.1)
 e.1.1,()),())))))) (λ_ _=>Y) (λ_ e=>Z (e,())) λ_ _=>Y)
def aoi(n:Nat):OC:=⟨303,⟨P70,K2,J,F303 n⟩,cM [ai7 n] [(303,1000003,⟨[(5,dj),(11,dn)],[],[],0⟩)] n 10 303⟩
abbrev Xy(F:Fn P7 K2 J):me sg:=⟨P7,K2,J,F⟩
def B304:Nat->(L UInt8×U->Iq)->L UInt8×U->Iq:=
 λn f304 c=>aK (aC 0 c.1) (au (aa (mo c.1 0) 126) (aK (iJ 1 (ax c.1) (ax c.1)) (ai (f304 (eZ c.1 1 (ax c.1),())) λd=>
 Z ((Ih .i64 d.1.1,()),()))) (ai (aQ (Int×Int×U) (Int×U) (U) (λd=>au (aD d.2.1 (ax c.1)) (aK (aC d.2.1
 c.1) (Z (N (aE .i64 (Ii .i64 10 d.1) (Sr .i64 (bS .u8 (mo c.1 d.2.1) 48)),aE .i64 d.2.1 1,())))) (Z (H 0 d))) n
 (0,0,())) λd=>bp d (λ_ g=>Z ((g.1,()),())) (λ_ g=>Z (g,())) λ_ _=>Y))
def D304(n:Nat)(f304:Fn P7 K2 J)(a:bH prog 304 (Xy f304)):bH prog 304 (Xy (B304 n f304)):=cM [⟨304,Xy f304,a⟩] [(304,0,⟨[(3,dj),(4,dj)],[],[],0⟩)] n 10 304
def R304(n k:Nat):(Fn P7 K2 J):=Nat.rec (motive:=λ_=>(Fn P7 K2 J)) (λ_=>Y) (λ_ r=>B304 n r) k
def F304(n:Nat):Fn P7 K2 J:=(R304 n n)
def ae0(n:Nat):∀k,bH prog 304 (Xy (R304 n k))
 |0=>cw (enters 304 (by kernel_rfl))
 |k+1=>have a:=ae0 n k
  D304 n _ a
def aoh(n:Nat):OC:=⟨304,Xy (F304 n),(ae0 n n)⟩
def F311:Y83:=
 λn _=>Z (([[61,62],[61,61],[45,62],[61],[60],[43],[45],[42],[40],[41],[123],[125],[124],[44],[59],[58],[95],[63]],()),())
def aod(n:Nat):OC:=⟨311,⟨[],K72,J,F311 n⟩,cM [] [] n 10 311⟩
def F305:Nat->Y62->alv:=
 λn b=>ai (F311 n ()) λc=>ai (aQ (Int×U) (L UInt8×U) (U) (λd=>au (aD d.1 (ax c.1.1)) (aK (aC d.1
 c.1.1) (au (bA (ax (aZ c.1.1 (ak d.1) [])) (bS .i64 (ax b.1) b.2.1)) (aK (aC d.1 c.1.1) (aK (iJ b.2.1 (aE .i64 b.2.1 (ax (aZ
 c.1.1 (ak d.1) []))) (ax b.1)) (aK (aC d.1 c.1.1) (au (gG (eZ b.1 b.2.1 (aE .i64 b.2.1 (ax (aZ c.1.1 (ak d.1) [])))) (aZ c.1.1
 (ak d.1) [])) (aK (aC d.1 c.1.1) (Z (X () (aZ c.1.1 (ak d.1) [],())))) (Z (N (aE .i64 d.1 1,()))))))) (Z (N
 (aE .i64 d.1 1,()))))) (Z (H 0 d))) n (0,())) λd=>bp d (λ_ _=>Z (([],()),())) (λ_ g=>Z (g,())) λ_ _=>Y
def aog(n:Nat):OC:=⟨305,⟨P70,K10,J,F305 n⟩,cM [aod n] [(305,0,⟨[(6,dj)],[],[],0⟩)] n 10 305⟩
def Sc(b:Y62)(d:(Int×U)×U):Bool:=
 iJ b.2.1 (aE .i64 b.2.1 d.1.1) (ax b.1)
def zB(b:Y62)(d:(Int×U)×U):L UInt8:=
 eZ b.1 b.2.1 (aE .i64 b.2.1 d.1.1)
def Sb(n:Nat):Bool×Y63×U->Y64:=
 λh=>Z ((fM.mk h.2.1.1 h.2.1.2.1 h.2.1.2.2.1 h.2.1.2.2.2.1,()),())
def aaS(n:Nat)(b:Y62):Y64:=
 ai (F303 n b) λg=>ai (au (aD 0 g.1.1) (aK (Sc b g) (aK (Sc b g) (ai (F304 n (zB b g,())) λh=>Z (N (W,(4,
 zB b g,h.1.1,b.2),()))))) (Z (N (J,(0,[],0,b.2),())))) λ(h:Y65)=>ck h (Sb n) (λ_ _=>Y) (λ_ _=>Z
 ((dL,()),())) λ_ _=>Y
def F285:Nat->Y62->Y64:=
 λn b=>aK (aC b.2.1 b.1) (ai (F299 n (mo b.1 b.2.1,())) λc=>au c.1.1 (ai (F300 n (b.1,b.2.1,J,())) λd=>aK (Sc b d)
 (ai (F250 n (zB b d,())) λe=>ai (au e.1.1 (Z (N (W,(3,zB b d,0,b.2),()))) (ai (au (bA (ax (zB b d)) 8)
 (Z (N (W,(1,zB b d,0,b.2),()))) (Z (N (J,(0,zB b d,0,b.2),())))) λ(g:Y65)=>ck g (λh=>Z
 (N (J,h.2))) (λ_ _=>Y) (λh _=>Z (X h ())) λ_ _=>Y)) λ(g:Y65)=>ck g (Sb n) (λ_ _=>Y) (λ
 _ _=>Z ((dL,()),())) λ_ _=>Y)) (aK (aC b.2.1 b.1) (ai (F301 n (mo b.1 b.2.1,())) λd=>au d.1.1 (ai (F300 n (b.1,
 aE .i64 b.2.1 1,J,())) λe=>aK (iJ b.2.1 (aE .i64 (aE .i64 b.2.1 1) e.1.1) (ax b.1)) (ai (au (bA (ax (eZ b.1 b.2.1
 (aE .i64 (aE .i64 b.2.1 1) e.1.1))) 8) (Z (N (W,(2,eZ b.1 b.2.1 (aE .i64 (aE .i64 b.2.1 1) e.1.1),0,b.2),()))) (Z
 (N (J,(0,eZ b.1 b.2.1 (aE .i64 (aE .i64 b.2.1 1) e.1.1),0,b.2),())))) λ(g:Y65)=>ck g (Sb n) (λ_ _=>Y) (λ
 _ _=>Z ((dL,()),())) λ_ _=>Y)) (aK (aC b.2.1 b.1) (ai (F302 n (mo b.1 b.2.1,())) λe=>au e.1.1 (aaS n b) (aK
 (aC b.2.1 b.1) (au (aa (mo b.1 b.2.1) 126) (aaS n b) (ai (F305 n b) λg=>au (aq (gG g.1.1 [])) (Z ((fM.mk 5 g.1.1 0
 b.2.1,()),())) (Z ((fM.mk 0 g.1.1 0 b.2.1,()),()))))))))))
def aon(n:Nat):OC:=⟨285,⟨P70,K75,J,F285 n⟩,cM [ajd n,ai8 n,ai7 n,aoj n,ai6 n,aoi n,aoh n,aog n] [(285,1000005,⟨[(24,dn),(0,adE)],[.slot 5],[],0⟩),(285,1000007,⟨[(29,dn),(0,adE)],[.slot 5],[],0⟩),(285,1000012,⟨[(50,dn),(0,adE)],[.slot 5],[],0⟩),(285,1000017,⟨[(67,dn),(0,adE)],[.slot 5],[],0⟩)] n 10 285⟩
def F245:Y59:=
 λn b=>ai (F284 n (b.1,0,())) λc=>ai (aQ (Y58) (Y58) (U) (λd=>au (aD d.2.1 (ax b.1)) (ai (F285 n (b.1,d.2)) λe
 =>au (aa e.1.1.1 0) (Z (X () d)) (aK (dB d.1 [e.1.1]) (ai (F284 n (b.1,aE .i64 d.2.1 (ax e.1.1.2),())) λg=>Z (N
 (cX d.1 [e.1.1],g.1))))) (Z (H 0 d))) n ([],c.1)) λd=>bp d (λ_ g=>Z ((g.1,ax b.1,()),())) (λ_ g=>Z (g,()))
 λ_ _=>Y
def aoz(n:Nat):OC:=⟨245,⟨P7,K76,J,F245 n⟩,cM [aoo n,aon n] [(245,0,⟨[(4,.one (.own (.st 25))),(5,dj)],[],[],0⟩)] n 10 245⟩
def F179:Y59:=
 λn b=>au (aD 8000 (ax b.1)) (Z (([],3,()),())) (ai (F245 n b) λc=>au (aD c.1.2.1 (ax b.1)) (Z (([],4,()),())) (Z
 ((c.1.1,0,()),())))
def apa(n:Nat):OC:=⟨179,⟨P7,K76,J,F179 n⟩,cM [aoz n] [] n 10 179⟩
def F247:Nat->bL×L UInt8×U->O fW:=
 λn b=>au b.1.3 (Z ((J,()),())) (au (bA (ax b.1.1) b.1.2) (Z ((J,()),())) (aK (aC b.1.2 b.1.1) (au (aa (aZ b.1.1
 (ak b.1.2) dL).1 5) (Z ((gG (aZ b.1.1 (ak b.1.2) dL).2 b.2.1,()),())) (au (aa (aZ b.1.1 (ak b.1.2) dL).1 3)
 (Z ((gG (aZ b.1.1 (ak b.1.2) dL).2 b.2.1,()),())) (Z ((J,()),()))))))
def afV(n:Nat):OC:=⟨247,⟨P77,K4,J,F247 n⟩,cM [] [] n 10 247⟩
def F182:Nat->alQ->O ahB:=
 λn b=>ai (F247 n (bL.mk b.1.1 b.1.2.1 b.1.2.2.1,b.2)) λc=>au c.1.1 (Z (c.1,(b.1.1,aE .i64 b.1.2.1 1,b.1.2.2),()))
 (Z (c.1,b.1,()))
def Gm(n:Nat):OC:=⟨182,⟨P78,K4,J,F182 n⟩,cM [afV n] [] n 10 182⟩
def F180:Nat->alQ->adN:=
 λn b=>ai (F182 n b) λc=>au (aq c.1.1) (Z ((),(c.2.1.1,c.2.1.2.1,W,()),())) (Z ((),c.2))
def Gn(n:Nat):OC:=⟨180,⟨P78,[],J,F180 n⟩,cM [Gm n] [] n 10 180⟩
def F246:Nat->bL×Int×U->O fW:=
 λn b=>au (aq b.1.3) (au (aD b.1.2 (ax b.1.1)) (aK (aC b.1.2 b.1.1) (Z ((aa (aZ b.1.1 (ak b.1.2) dL).1 b.2.1,()),
 ()))) (Z ((J,()),()))) (Z ((J,()),()))
def afW(n:Nat):OC:=⟨246,⟨P79,K4,J,F246 n⟩,cM [] [] n 10 246⟩
def F181:Nat->Y7×Int×U->O ((fM×U)×Y7×U):=
 λn b=>ai (F246 n (bL.mk b.1.1 b.1.2.1 b.1.2.2.1,b.2)) λc=>au (aq c.1.1) (Z ((dL,()),(b.1.1,b.1.2.1,W,
 ()),())) (aK (aC b.1.2.1 b.1.1) (Z ((aZ b.1.1 (ak b.1.2.1) dL,()),(b.1.1,aE .i64 b.1.2.1 1,b.1.2.2),())))
def Lj(n:Nat):OC:=⟨181,⟨Pp,K75,J,F181 n⟩,cM [afW n] [] n 10 181⟩
abbrev Qx(F:Fn lJ K82 J):me sg:=⟨lJ,K82,J,F⟩
def Sz(e:Y93):cz:=
 cz.mk e.1.1.1 e.1.1.2 e.1.1.3 e.1.1.4
def B248:Nat->Y94->Y94->Y7×U->O Y93:=
 λn f248 f286 d=>ai (f286 d) λe=>ai (F182 n (e.2.1,[45,62],())) λg=>au g.1.1 (ai (f248 g.2) λh=>Z ((cz.mk 4 0 []
 [Sz e,Sz h],()),h.2)) (Z ((Sz e,()),g.2))
abbrev UW(F:Fn lJ K82 J):me sg:=⟨lJ,K82,J,F⟩
def Sy(n:Nat)(f248:Y94)(f306:alF):Y93->O Y93:=
 λj=>Z ((cz.mk j.1.1.1 j.1.1.2 j.1.1.3 j.1.1.4,()),j.2)
def B286:Nat->Y94->alF->Y7×U->O Y93:=
 λn f248 f306 d=>ai (F182 n (d.1,[105,110,116],())) λe=>au e.1.1 (Z ((cz.mk 1 0 [] [],()),e.2)) (ai (F182 n (e.2.1,[98,
 111,111,108],())) λg=>au g.1.1 (Z ((cz.mk 2 0 [] [],()),g.2)) (ai (F182 n (g.2.1,[117,110,105,116],())) λh=>au h.1.1
 (Z ((cz.mk 3 0 [] [],()),h.2)) (ai (F182 n (h.2.1,[99,101,108,108],())) λi=>au i.1.1 (ai (f306 (i.2.1,5,())) (Sy n f248
 f306)) (ai (F182 n (i.2.1,[99,104,97,110],())) λj=>au j.1.1 (ai (f306 (j.2.1,6,())) (Sy n f248 f306)) (ai (F182 n (j.2.1,[116,97,
 115,107],())) λk=>au k.1.1 (ai (f306 (k.2.1,7,())) (Sy n f248 f306)) (ai (F182 n (k.2.1,[63],())) λl=>au l.1.1 (ai (F181 n
 (l.2.1,4,())) λm=>Z ((cz.mk 9 m.1.1.3 [] [],()),m.2)) (ai (F182 n (l.2.1,[40],())) λm=>au m.1.1 (ai (f248 m.2) λo=>ai
 (F180 n (o.2.1,[41],())) λp=>Z ((cz.mk o.1.1.1 o.1.1.2 o.1.1.3 o.1.1.4,()),p.2)) (ai (F181 n (m.2.1,2,())) λo=>Z
 ((cz.mk 8 0 o.1.1.2 [],()),o.2)))))))))
abbrev abT(F:Fn Pp K82 J):me sg:=⟨Pp,K82,J,F⟩
def B306:Nat->Y94->Y7×Int×U->O Y93:=
 λn f286 c=>ai (f286 (c.1,())) λd=>Z ((cz.mk c.2.1 0 [] [cz.mk d.1.1.1 d.1.1.2 d.1.1.3 d.1.1.4],()),d.2)
def D248(n:Nat)(f248:Fn lJ K82 J)(f286:Fn lJ K82 J)(a:bH prog 248 (Qx f248))(b:bH prog 286 (UW f286)):bH prog 248 (Qx (B248 n f248 f286)):=cM [Gm n,⟨248,Qx f248,a⟩,⟨286,UW f286,b⟩] [] n 10 248
def D286(n:Nat)(f248:Fn lJ K82 J)(f306:Fn Pp K82 J)(a:bH prog 248 (Qx f248))(b:bH prog 306 (abT f306)):bH prog 286 (UW (B286 n f248 f306)):=cM [Gn n,Lj n,Gm n,⟨248,Qx f248,a⟩,⟨306,abT f306,b⟩] [] n 10 286
def D306(n:Nat)(f286:Fn lJ K82 J)(a:bH prog 286 (UW f286)):bH prog 306 (abT (B306 n f286)):=cM [⟨286,UW f286,a⟩] [] n 10 306
def R248(n k:Nat):(Fn lJ K82 J)×(Fn lJ K82 J)×(Fn Pp K82 J):=Nat.rec (motive:=λ_=>(Fn lJ K82 J)×(Fn lJ K82 J)×(Fn Pp K82 J)) ((λ_=>Y,λ_=>Y,λ_=>Y)) (λ_ r=>(B248 n r.1 r.2.1,B286 n r.1 r.2.2,B306 n r.2.1)) k
def F248(n:Nat):Fn lJ K82 J:=(R248 n n).1
def ae8(n:Nat):∀k,bH prog 248 (Qx (R248 n k).1)∧bH prog 286 (UW (R248 n k).2.1)∧bH prog 306 (abT (R248 n k).2.2)
 |0=>⟨cw (enters 248 (by kernel_rfl)),cw (enters 286 (by kernel_rfl)),cw (enters 306 (by kernel_rfl))⟩
 |k+1=>have a:=ae8 n k
  ⟨D248 n _ _ a.1 a.2.1,D286 n _ _ a.1 a.2.2,D306 n _ a.2.1⟩
def ajf(n:Nat):OC:=⟨248,Qx (F248 n),(ae8 n n).1⟩
def F183:Nat->Y7×U->O ((ki×U)×Y7×U):=
 λn b=>ai (F181 n (b.1,2,())) λc=>ai (F180 n (c.2.1,[61],())) λd=>ai (aQ (Bool×Y7×alP×U) (U) (Y7×alP×U) (λe=>au e.1 (au (aq e.2.1.2.2.1) (ai (F181 n (e.2.1,2,())) λg=>ai (F182 n (g.2.1,[40],())) λh=>ai (au h.1.1 (ai
 (aQ (alO) (U) (Y7×ahA×U) (λi=>au i.1 (au (aq i.2.1.2.2.1) (ai (F248 n (i.2.1,())) λj=>aK (dB i.2.2.1.2.1
 [cz.mk j.1.1.1 j.1.1.2 j.1.1.3 j.1.1.4]) (ai (F182 n (j.2.1,[44],())) λk=>Z (N (k.1.1,k.2.1,(i.2.2.1.1,cX i.2.2.1.2.1
 [cz.mk j.1.1.1 j.1.1.2 j.1.1.3 j.1.1.4],()),())))) (Z (H 0 i))) (Z (H 0 i))) n (W,h.2.1,(g.1.1.2,[],()),())) λi=>
 bp i (λ_ k=>ai (F180 n (k.2.1,[41],())) λl=>Z (N (W,l.2.1,k.2.2))) (λj _=>Z (X j ())) λ_ _=>Y) (Z
 (N (J,h.2.1,(g.1.1.2,[],()),())))) λ(i:LO alO U (Y7×ahA×U) Any)=>ck i (λj=>aK (dB e.2.2.1.2.1
 [iK.mk j.2.2.1.1 j.2.2.1.2.1]) (ai (F182 n (j.2.1,[124],())) λk=>Z (N (k.1.1,k.2.1,(e.2.2.1.1,cX e.2.2.1.2.1
 [iK.mk j.2.2.1.1 j.2.2.1.2.1],()),())))) (λ_ _=>Y) (λj _=>Z (X (j.1,e.2.2) ())) λ_ _=>Y) (Z (H 0 e)))
 (Z (H 0 e))) n (W,d.2.1,(c.1.1.2,[],()),())) λe=>bp e (λ_ h=>ai (F180 n (h.2.1,[59],())) λi=>Z ((ki.mk
 h.2.2.1.1 h.2.2.1.2.1,()),i.2)) (λg _=>Z ((l5,()),g.1,())) λ_ _=>Y
def ao9(n:Nat):OC:=⟨183,⟨lJ,K83,J,F183 n⟩,cM [Gn n,Lj n,Gm n,ajf n] [(183,0,⟨[(4,dn),(0,xS),(0,.box (.cells [.dat (.str),.own (.st 18)]))],[.slot 0,.slot 3],[],0⟩),(183,2,⟨[(6,dn),(0,xS),(0,ak6)],[.slot 0,.slot 5],[],0⟩),(183,1000007,⟨[(27,dn),(0,xS),(0,ak6)],[.slot 0,.slot 5],[],0⟩)] n 10 183⟩
def F289:Nat->Int×Term×Term×U->O aaq:=
 λn b=>Z ((Term.mk b.1 0 [] [Term.mk b.2.1.1 b.2.1.2 b.2.1.3 b.2.1.4 b.2.1.5,Term.mk b.2.2.1.1 b.2.2.1.2 b.2.2.1.3 b.2.2.1.4 b.2.2.1.5] [],
 ()),())
def acA(n:Nat):OC:=⟨289,⟨P84,K85,J,F289 n⟩,cM [] [] n 10 289⟩
abbrev Xw(F:Fn lJ K86 J):me sg:=⟨lJ,K86,J,F⟩
def B319:Nat->(Y7×U->O Y8)->Y7×U->O Y8:=
 λn f319 c=>ai (F182 n (c.1,[95],())) λd=>au d.1.1 (Z ((aG.mk 1 0 [] [],()),d.2)) (ai (F246 n (bL.mk d.2.1.1
 d.2.1.2.1 d.2.1.2.2.1,1,())) λe=>au e.1.1 (ai (F181 n (d.2.1,1,())) λg=>Z ((aG.mk 2 0 g.1.1.2 [],()),g.2)) (ai (F246 n
 (bL.mk d.2.1.1 d.2.1.2.1 d.2.1.2.2.1,4,())) λg=>au g.1.1 (ai (F181 n (d.2.1,4,())) λh=>Z ((aG.mk 3 h.1.1.3 []
 [],()),h.2)) (ai (F182 n (d.2.1,[116,114,117,101],())) λh=>au h.1.1 (Z ((aG.mk 4 1 [] [],()),h.2)) (ai (F182 n (h.2.1,[102,
 97,108,115,101],())) λi=>au i.1.1 (Z ((aG.mk 4 0 [] [],()),i.2)) (ai (F182 n (i.2.1,[40],())) λj=>au j.1.1 (ai (F180 n
 (j.2.1,[41],())) λk=>Z ((aG.mk 5 0 [] [],()),k.2)) (ai (F181 n (j.2.1,2,())) λk=>ai (F182 n (k.2.1,[40],())) λl=>au
 l.1.1 (ai (aQ (Bool×Y7×Y9×U) (U) (Y7×Y9×U) (λm=>au m.1 (au (aq m.2.1.2.2.1) (ai (f319 (m.2.1,())) λo=>
 aK (dB m.2.2.1.2.2.2.1 [aG.mk o.1.1.1 o.1.1.2 o.1.1.3 o.1.1.4]) (ai (F182 n (o.2.1,[44],())) λp=>Z (N (p.1.1,p.2.1,
 (m.2.2.1.1,m.2.2.1.2.1,m.2.2.1.2.2.1,cX m.2.2.1.2.2.2.1 [aG.mk o.1.1.1 o.1.1.2 o.1.1.3 o.1.1.4],()),())))) (Z (H 0 m))) (Z
 (H 0 m))) n (W,l.2.1,(6,0,k.1.1.2,[],()),())) λm=>bp m (λ_ p=>ai (F180 n (p.2.1,[41],())) λq=>Z ((aG.mk
 p.2.2.1.1 p.2.2.1.2.1 p.2.2.1.2.2.1 p.2.2.1.2.2.2.1,()),q.2)) (λo _=>Z ((aV,()),o.1,())) λ_ _=>Y) (Z ((aG.mk 6 0
 k.1.1.2 [],()),l.2))))))))
def D319(n:Nat)(f319:Fn lJ K86 J)(a:bH prog 319 (Xw f319)):bH prog 319 (Xw (B319 n f319)):=cM [Gn n,Lj n,Gm n,afW n,⟨319,Xw f319,a⟩] [(319,1,⟨[(4,dn),(0,xS),(0,ahh)],[.slot 0,.slot 3],[],0⟩)] n 10 319
def R319(n k:Nat):(Fn lJ K86 J):=Nat.rec (motive:=λ_=>(Fn lJ K86 J)) (λ_=>Y) (λ_ r=>B319 n r) k
def F319(n:Nat):Fn lJ K86 J:=(R319 n n)
def aeY(n:Nat):∀k,bH prog 319 (Xw (R319 n k))
 |0=>cw (enters 319 (by kernel_rfl))
 |k+1=>have a:=aeY n k
  D319 n _ a
def aob(n:Nat):OC:=⟨319,Xw (F319 n),(aeY n n)⟩
def F318:Nat->L UInt8×U->O asd:=
 λn b=>au (gG b.1 [99,101,108,108]) (Z ((16,1,()),())) (au (gG b.1 [103,101,116]) (Z ((17,1,()),())) (au (gG b.1 [112,
 117,116]) (Z ((18,2,()),())) (au (gG b.1 [115,112,97,119,110]) (Z ((19,1,()),())) (au (gG b.1 [106,111,105,110]) (Z ((20,
 1,()),())) (au (gG b.1 [99,104,97,110]) (Z ((21,0,()),())) (au (gG b.1 [115,101,110,100]) (Z ((22,2,()),())) (au (gG b.1
 [116,97,107,101]) (Z ((23,1,()),())) (au (gG b.1 [111,117,116]) (Z ((24,(-1),()),())) (au (gG b.1 [105,110,112,117,116])
 (Z ((25,0,()),())) (au (gG b.1 [114,101,115,101,116]) (Z ((26,1,()),())) (au (gG b.1 [112,97,117,115,101]) (Z ((28,0,
 ()),())) (Z ((0,0,()),())))))))))))))
def ai5(n:Nat):OC:=⟨318,⟨P7,K41,J,F318 n⟩,cM [] [] n 10 318⟩
def F314:Y87:=
 λn b=>au b.1.3 (Z ((J,()),())) (au (bA (ax b.1.1) b.1.2) (Z ((J,()),())) (aK (aC b.1.2 b.1.1) (au (aa (aZ b.1.1
 (ak b.1.2) dL).1 3) (ai (F318 n ((aZ b.1.1 (ak b.1.2) dL).2,())) λc=>au (aq (aa c.1.1 0)) (Z ((W,()),()))
 (au (gG (aZ b.1.1 (ak b.1.2) dL).2 [116,114,117,101]) (Z ((W,()),())) (au (gG (aZ b.1.1 (ak b.1.2) dL).2 [102,
 97,108,115,101]) (Z ((W,()),())) (Z ((gG (aZ b.1.1 (ak b.1.2) dL).2 [109,97,116,99,104],()),()))))) (au (aq
 (aa (aZ b.1.1 (ak b.1.2) dL).1 5)) (Z ((W,()),())) (Z ((gG (aZ b.1.1 (ak b.1.2) dL).2 [40],()),()))))))
def aoc(n:Nat):OC:=⟨314,⟨P87,K4,J,F314 n⟩,cM [ai5 n] [] n 10 314⟩
abbrev y4(F:Fn lJ K85 J):me sg:=⟨lJ,K85,J,F⟩
def oA(h:vo):Term:=
 Term.mk h.1.1.1 h.1.1.2 h.1.1.3 h.1.1.4 h.1.1.5
def abb(o:aaq):Term:=
 Term.mk o.1.1.1 o.1.1.2 o.1.1.3 o.1.1.4 o.1.1.5
def B249:Nat->vn->(Y7×Int×U->O vo)->vn->Y7×U->O vo:=
 λn f249 f287 f288 e=>ai (F182 n (e.1,[102,117,110],())) λg=>au g.1.1 (ai (f287 (g.2.1,5,())) λh=>Z ((oA h,()),h.2))
 (ai (F182 n (g.2.1,[115,104,105,102,116],())) λh=>au h.1.1 (ai (f287 (h.2.1,27,())) λi=>Z ((oA i,()),i.2)) (ai (F182 n
 (h.2.1,[108,101,116],())) λi=>au i.1.1 (ai (F181 n (i.2.1,1,())) λj=>ai (F180 n (j.2.1,[61],())) λk=>ai (f249 k.2) λl=>
 ai (F180 n (l.2.1,[105,110],())) λm=>ai (f249 m.2) λo=>Z ((Term.mk 7 0 j.1.1.2 [oA l,oA o] [],()),o.2)) (ai (F182 n
 (i.2.1,[105,102],())) λj=>au j.1.1 (ai (f249 j.2) λk=>ai (F180 n (k.2.1,[116,104,101,110],())) λl=>ai (f249 l.2) λm=>
 ai (F180 n (m.2.1,[101,108,115,101],())) λo=>ai (f249 o.2) λp=>Z ((Term.mk 8 0 [] [oA k,oA m,oA p] [],()),p.2))
 (ai (f288 j.2) λk=>ai (F182 n (k.2.1,[60],())) λl=>au l.1.1 (ai (f288 l.2) λm=>ai (F289 n (12,oA k,oA m,())) λo=>
 Z ((abb o,()),m.2)) (ai (F182 n (l.2.1,[61,61],())) λm=>au m.1.1 (ai (f288 m.2) λo=>ai (F289 n (13,oA k,oA o,()))
 λp=>Z ((abb p,()),o.2)) (Z ((oA k,()),m.2)))))))
abbrev abV(F:Fn Pp K85 J):me sg:=⟨Pp,K85,J,F⟩
def B287:Nat->vn->Y7×Int×U->O vo:=
 λn f249 c=>ai (F181 n (c.1,1,())) λd=>ai (F180 n (d.2.1,[61,62],())) λe=>ai (f249 e.2) λg=>Z ((Term.mk c.2.1 0 d.1.1.2
 [Term.mk g.1.1.1 g.1.1.2 g.1.1.3 g.1.1.4 g.1.1.5] [],()),g.2)
abbrev abU(F:Fn lJ K85 J):me sg:=⟨lJ,K85,J,F⟩
def aba(e:Y7×rX×U):Term:=
 Term.mk e.2.1.1 e.2.1.2.1 e.2.1.2.2.1 e.2.1.2.2.2.1 e.2.1.2.2.2.2.1
def ahY(l:aaq):rX×U:=
 ((l.1.1.1,l.1.1.2,l.1.1.3,l.1.1.4,l.1.1.5,()),())
def aa9(n:Nat)(f307:vn)(e:Y7×rX×U):O (LO (Y7×rX×U) U (Y7×rX×U) Any):=
 ai (F247 n (bL.mk e.1.1 e.1.2.1 e.1.2.2.1,[43],())) λh=>ai (au h.1.1 (Z (N (9,W,()))) (Z (N (10,J,
 ())))) λ(i:adT)=>ck i (λj=>ai (f307 ((e.1.1,aE .i64 e.1.2.1 1,e.1.2.2),())) λk=>ai (F289 n (j.1,aba e,Term.mk k.1.1.1
 k.1.1.2 k.1.1.3 k.1.1.4 k.1.1.5,())) λl=>Z (N (k.2.1,ahY l))) (λ_ _=>Y) (λ_ _=>Z (X e ())) λ_ _=>Y
def ahX(d:vo):rX×U:=
 ((d.1.1.1,d.1.1.2,d.1.1.3,d.1.1.4,d.1.1.5,()),())
def B288:adS:=
 λn f307 c=>ai (f307 c) λd=>ai (aQ (Y7×rX×U) (U) (Y7×rX×U) (λe=>au (aq e.1.2.2.1) (ai (F247 n
 (bL.mk e.1.1 e.1.2.1 e.1.2.2.1,[43],())) λg=>au g.1.1 (aa9 n f307 e) (ai (F247 n (bL.mk e.1.1 e.1.2.1
 e.1.2.2.1,[45],())) λh=>au h.1.1 (aa9 n f307 e) (Z (H 0 e)))) (Z (H 0 e))) n (d.2.1,ahX d)) λe=>bp e (λ_ h=>
 Z ((aba h,()),h.1,())) (λg _=>Z ((qZ,()),g.1,())) λ_ _=>Y
abbrev abS(F:Fn lJ K85 J):me sg:=⟨lJ,K85,J,F⟩
def aa8(e:Y7×rX×U):Term:=
 Term.mk e.2.1.1 e.2.1.2.1 e.2.1.2.2.1 e.2.1.2.2.2.1 e.2.1.2.2.2.2.1
def ahW(i:aaq):rX×U:=
 ((i.1.1.1,i.1.1.2,i.1.1.3,i.1.1.4,i.1.1.5,()),())
def ahV(d:vo):rX×U:=
 ((d.1.1.1,d.1.1.2,d.1.1.3,d.1.1.4,d.1.1.5,()),())
def B307:adS:=
 λn f312 c=>ai (f312 c) λd=>ai (aQ (Y7×rX×U) (U) (Y7×rX×U) (λe=>ai (F182 n (e.1,[42],())) λg=>au
 g.1.1 (ai (f312 g.2) λh=>ai (F289 n (11,aa8 e,Term.mk h.1.1.1 h.1.1.2 h.1.1.3 h.1.1.4 h.1.1.5,())) λi=>Z (N (h.2.1,ahW
 i))) (Z (H 0 (g.2.1,e.2)))) n (d.2.1,ahV d)) λe=>bp e (λ_ h=>Z ((aa8 h,()),h.1,())) (λg _=>Z ((qZ,()),
 g.1,())) λ_ _=>Y
abbrev abR(F:Fn lJ K85 J):me sg:=⟨lJ,K85,J,F⟩
def aa7(e:Y7×rX×U):Term:=
 Term.mk e.2.1.1 e.2.1.2.1 e.2.1.2.2.1 e.2.1.2.2.2.1 e.2.1.2.2.2.2.1
def ahU(i:aaq):rX×U:=
 ((i.1.1.1,i.1.1.2,i.1.1.3,i.1.1.4,i.1.1.5,()),())
def ahT(d:vo):rX×U:=
 ((d.1.1.1,d.1.1.2,d.1.1.3,d.1.1.4,d.1.1.5,()),())
def B312:adS:=
 λn f313 c=>ai (f313 c) λd=>ai (aQ (Y7×rX×U) (U) (Y7×rX×U) (λe=>ai (F314 n (bL.mk e.1.1
 e.1.2.1 e.1.2.2.1,())) λg=>au g.1.1 (ai (f313 (e.1,())) λh=>ai (F289 n (6,aa7 e,Term.mk h.1.1.1 h.1.1.2 h.1.1.3 h.1.1.4 h.1.1.5,
 ())) λi=>Z (N (h.2.1,ahU i))) (Z (H 0 e))) n (d.2.1,ahT d)) λe=>bp e (λ_ h=>Z ((aa7 h,()),h.1,()))
 (λg _=>Z ((qZ,()),g.1,())) λ_ _=>Y
abbrev abQ(F:Fn lJ K85 J):me sg:=⟨lJ,K85,J,F⟩
def Sx(g:Y7×U):bL:=
 bL.mk g.1.1 g.1.2.1 g.1.2.2.1
def aa6(n:Nat)(f249:vn)(f315:ahD)(f316:vn)(f317:vn):vo->O vo:=
 λo=>Z ((Term.mk o.1.1.1 o.1.1.2 o.1.1.3 o.1.1.4 o.1.1.5,()),o.2)
def B313:Nat->vn->ahD->vn->vn->Y7×U->O vo:=
 λn f249 f315 f316 f317 g=>ai (F246 n (Sx g,4,())) λh=>au h.1.1 (ai (F181 n (g.1,4,())) λi=>Z ((Term.mk 1 i.1.1.3 [] [] [],
 ()),i.2)) (ai (F246 n (Sx g,1,())) λi=>au i.1.1 (ai (F181 n (g.1,1,())) λj=>Z ((Term.mk 4 0 j.1.1.2 [] [],()),j.2)) (ai
 (F246 n (Sx g,2,())) λj=>au j.1.1 (ai (F181 n (g.1,2,())) λk=>ai (F247 n (bL.mk k.2.1.1 k.2.1.2.1 k.2.1.2.2.1,
 [40],())) λl=>ai (au l.1.1 (ai (f315 (k.2.1,(-1),())) λm=>Z (N (W,m.2.1,(14,0,k.1.1.2,m.1.1,[],()),()))) (Z
 (N (J,k.2.1,(14,0,k.1.1.2,[],[],()),())))) λ(m:LO alR U (Y7×rX×U) Any)=>ck m (λo=>Z ((Term.mk
 o.2.2.1.1 o.2.2.1.2.1 o.2.2.1.2.2.1 o.2.2.1.2.2.2.1 [],()),o.2.1,())) (λ_ _=>Y) (λo _=>Z ((qZ,()),o.1,())) λ_ _=>Y)
 (ai (F182 n (g.1,[116,114,117,101],())) λk=>au k.1.1 (Z ((Term.mk 2 1 [] [] [],()),k.2)) (ai (F182 n (k.2.1,[102,97,108,115,
 101],())) λl=>au l.1.1 (Z ((Term.mk 2 0 [] [] [],()),l.2)) (ai (F182 n (l.2.1,[109,97,116,99,104],())) λm=>au m.1.1 (ai (f316
 m.2) (aa6 n f249 f315 f316 f317)) (ai (F182 n (m.2.1,[40],())) λo=>au o.1.1 (ai (F182 n (o.2.1,[41],())) λp=>au p.1.1 (Z
 ((Term.mk 3 0 [] [] [],()),p.2)) (ai (f249 p.2) λq=>ai (F180 n (q.2.1,[41],())) λr=>Z ((Term.mk q.1.1.1 q.1.1.2 q.1.1.3 q.1.1.4
 q.1.1.5,()),r.2))) (ai (F246 n (bL.mk o.2.1.1 o.2.1.2.1 o.2.1.2.2.1,3,())) λp=>au p.1.1 (ai (f317 o.2) (aa6 n f249 f315
 f316 f317)) (Z ((qZ,()),(o.2.1.1,o.2.1.2.1,W,()),())))))))))
abbrev UU(F:Fn Pp K88 J):me sg:=⟨Pp,K88,J,F⟩
def MA(n:Nat)(f249:vn)(c:Y7×Int×U)(g:ahB):O aam:=
 au (aD 0 c.2.1) (ai (F180 n (g.2.1,[44],())) λh=>Z (N (W,h.2))) (Z (N (J,g.2)))
def oz(e:vo):L Term:=
 [Term.mk e.1.1.1 e.1.1.2 e.1.1.3 e.1.1.4 e.1.1.5]
def Sw(n:Nat)(f249:vn)(k:aal):aam->O (LO aal (L Term×U) (Y7×U) Any):=
 λm=>ck m (λo=>ai (f249 o.2) λp=>aK (dB k.1 (oz p)) (Z (N (cX k.1 (oz p),p.2)))) (λ_ _=>Y) (λo p=>
 Z (X o p)) λ_ _=>Y
def ahS(n:Nat)(f249:vn)(c:Y7×Int×U)(k:aal):O aam:=
 au (aD 0 c.2.1) (ai (F180 n (k.2.1,[44],())) λl=>Z (N (W,l.2))) (Z (N (J,k.2)))
def ahR(n:Nat)(m:aal):adN:=
 F180 n (m.2.1,[41],())
def Sv(n:Nat)(f249:vn)(c:Y7×Int×U)(e:vo):aam->ahE:=
 λh=>ck h (λi=>ai (f249 i.2) λj=>aK (dB (oz e) (oz j)) (ai (aQ (aal) (L Term×U) (Y7×U) (λk=>
 au (aD c.2.1 0) (ai (F182 n (k.2.1,[44],())) λl=>au l.1.1 (ai (MA n f249 c l) (Sw n f249 k)) (au (aD (ax k.1) c.2.1) (au
 (aq l.2.1.2.2.1) (ai (MA n f249 c l) (Sw n f249 k)) (Z (H 0 (k.1,l.2)))) (Z (H 0 (k.1,l.2))))) (au (aD (ax k.1)
 c.2.1) (au (aq k.2.1.2.2.1) (ai (ahS n f249 c k) (Sw n f249 k)) (Z (H 0 k))) (Z (H 0 k)))) n (cX (oz e) (oz j),
 j.2)) λk=>bp k (λ_ m=>ai (ahR n m) λo=>Z ((m.1,()),o.2)) (λl m=>Z (m,l)) λ_ _=>Y)) (λ_ _=>Y) (λi
 j=>Z (j,i)) λ_ _=>Y
def aa5(n:Nat)(g:ahB):adN:=
 F180 n (g.2.1,[41],())
def ahQ(n:Nat)(f249:vn)(c:Y7×Int×U)(e:vo):O aam:=
 au (aD 0 c.2.1) (ai (F180 n (e.2.1,[44],())) λg=>Z (N (W,g.2))) (Z (N (J,e.2)))
def aa4(n:Nat)(e:vo):adN:=
 F180 n (e.2.1,[41],())
def B315:Nat->vn->Y7×Int×U->ahE:=
 λn f249 c=>ai (F180 n (c.1,[40],())) λd=>ai (f249 d.2) λe=>au (aD c.2.1 0) (ai (F182 n (e.2.1,[44],())) λg=>au g.1.1
 (ai (MA n f249 c g) (Sv n f249 c e)) (au (aD (ax (oz e)) c.2.1) (au (aq g.2.1.2.2.1) (ai (MA n f249 c g) (Sv n f249 c
 e)) (ai (aa5 n g) λh=>Z ((oz e,()),h.2))) (ai (aa5 n g) λh=>Z ((oz e,()),h.2)))) (au (aD (ax (oz e))
 c.2.1) (au (aq e.2.1.2.2.1) (ai (ahQ n f249 c e) (Sv n f249 c e)) (ai (aa4 n e) λg=>Z ((oz e,()),g.2))) (ai (aa4 n
 e) λg=>Z ((oz e,()),g.2)))
abbrev abP(F:Fn lJ K85 J):me sg:=⟨lJ,K85,J,F⟩
def zM(d:vo):L Term:=
 [Term.mk d.1.1.1 d.1.1.2 d.1.1.3 d.1.1.4 d.1.1.5]
def Su(l:Y8):L aG:=
 [aG.mk l.1.1.1 l.1.1.2 l.1.1.3 l.1.1.4]
def B316:adS:=
 λn f249 c=>ai (f249 c) λd=>ai (F180 n (d.2.1,[123],())) λe=>au (aq e.2.1.2.2.1) (ai (F319 n e.2) λg=>ai (F180 n (g.2.1,
 [45,62],())) λh=>ai (f249 h.2) λi=>aK (dB (zM d) (zM i)) (ai (F182 n (i.2.1,[124],())) λj=>ai (aQ (alR) (U) (Y7
 ×rX×U) (λk=>au k.1 (au (aq k.2.1.2.2.1) (ai (F319 n (k.2.1,())) λl=>ai (F180 n (l.2.1,[45,62],())) λm=>ai
 (f249 m.2) λo=>aK (dB k.2.2.1.2.2.2.2.1 (Su l)) (aK (dB k.2.2.1.2.2.2.1 (zM o)) (ai (F182 n (o.2.1,[124],())) λp=>Z
 (N (p.1.1,p.2.1,(k.2.2.1.1,k.2.2.1.2.1,k.2.2.1.2.2.1,cX k.2.2.1.2.2.2.1 (zM o),cX k.2.2.1.2.2.2.2.1 (Su l),()),()))))) (Z
 (H 0 k))) (Z (H 0 k))) n (j.1.1,j.2.1,(15,0,[],cX (zM d) (zM i),Su g,()),())) λk=>bp k (λ_ m=>ai (F180
 n (m.2.1,[125],())) λo=>Z ((Term.mk m.2.2.1.1 m.2.2.1.2.1 m.2.2.1.2.2.1 m.2.2.1.2.2.2.1 m.2.2.1.2.2.2.2.1,()),o.2)) (λl _=>Z
 ((qZ,()),l.1,())) λ_ _=>Y)) (ai (F180 n (e.2.1,[125],())) λg=>Z ((Term.mk 15 0 [] (zM d) [],()),g.2))
abbrev abO(F:Fn lJ K85 J):me sg:=⟨lJ,K85,J,F⟩
def Ss(d:Y7×U):Y7:=
 (d.1.1,aE .i64 d.1.2.1 1,d.1.2.2)
def B317:Nat->vn->ahD->Y7×U->O vo:=
 λn f249 f315 d=>aK (aC d.1.2.1 d.1.1) (ai (F318 n ((aZ d.1.1 (ak d.1.2.1) dL).2,())) λe=>au (aa e.1.1 0) (Z ((qZ,
 ()),(d.1.1,d.1.2.1,W,()),())) (au (aD 0 e.1.2.1) (ai (f315 (Ss d,e.1.2)) λg=>Z ((Term.mk e.1.1 0 [] g.1.1 [],()),g.2)) (au
 (aD e.1.2.1 0) (ai (F180 n (Ss d,[40],())) λg=>ai (F181 n (g.2.1,4,())) λh=>ai (F180 n (h.2.1,[44],())) λi=>ai (f249
 i.2) λj=>ai (F180 n (j.2.1,[41],())) λk=>Z ((Term.mk e.1.1 h.1.1.3 [] [Term.mk j.1.1.1 j.1.1.2 j.1.1.3 j.1.1.4 j.1.1.5] [],()),k.2))
 (Z ((Term.mk e.1.1 0 [] [] [],()),Ss d,())))))
def D249(n:Nat)(f249:Fn lJ K85 J)(f287:Fn Pp K85 J)(f288:Fn lJ K85 J)(a:bH prog 249 (y4 f249))(b:bH prog 287 (abV f287))(c:bH prog 288 (abU f288)):bH prog 249 (y4 (B249 n f249 f287 f288)):=cM [Gn n,Lj n,Gm n,⟨249,y4 f249,a⟩,⟨287,abV f287,b⟩,⟨288,abU f288,c⟩,acA n] [] n 10 249
def D287(n:Nat)(f249:Fn lJ K85 J)(a:bH prog 249 (y4 f249)):bH prog 287 (abV (B287 n f249)):=cM [Gn n,Lj n,⟨249,y4 f249,a⟩] [] n 10 287
def D288(n:Nat)(f307:Fn lJ K85 J)(a:bH prog 307 (abS f307)):bH prog 288 (abU (B288 n f307)):=cM [afV n,acA n,⟨307,abS f307,a⟩] [(288,0,⟨[(0,xS),(0,b7z)],[.slot 0,.slot 3],[],0⟩),(288,1000005,⟨[(4,dj),(22,dn)],[],[],0⟩)] n 10 288
def D307(n:Nat)(f312:Fn lJ K85 J)(a:bH prog 312 (abR f312)):bH prog 307 (abS (B307 n f312)):=cM [Gm n,acA n,⟨312,abR f312,a⟩] [(307,0,⟨[(0,xS),(0,b7z)],[.slot 0,.slot 3],[],0⟩)] n 10 307
def D312(n:Nat)(f313:Fn lJ K85 J)(a:bH prog 313 (abQ f313)):bH prog 312 (abR (B312 n f313)):=cM [acA n,⟨313,abQ f313,a⟩,aoc n] [(312,0,⟨[(0,xS),(0,b7z)],[.slot 0,.slot 3],[],0⟩)] n 10 312
def D313(n:Nat)(f249:Fn lJ K85 J)(f315:Fn Pp K88 J)(f316:Fn lJ K85 J)(f317:Fn lJ K85 J)(a:bH prog 249 (y4 f249))(b:bH prog 315 (UU f315))(c:bH prog 316 (abP f316))(d:bH prog 317 (abO f317)):bH prog 313 (abQ (B313 n f249 f315 f316 f317)):=cM [Gn n,Lj n,Gm n,afW n,afV n,⟨249,y4 f249,a⟩,⟨315,UU f315,b⟩,⟨316,abP f316,c⟩,⟨317,abO f317,d⟩] [(313,1000008,⟨[(27,dn),(0,xS),(0,.box (.cells [mN,mN,.dat (.str),.dat (.sl (.st 20)),.nil (.st 0)]))],[.slot 0,.slot 3],[],0⟩)] n 10 313
def D315(n:Nat)(f249:Fn lJ K85 J)(a:bH prog 249 (y4 f249)):bH prog 315 (UU (B315 n f249)):=cM [Gn n,Gm n,⟨249,y4 f249,a⟩] [(315,0,⟨[(6,.one (.own (.st 20))),(0,xS)],[.slot 0],[],1⟩),(315,1000006,⟨[(34,dn),(0,xS)],[.slot 0],[],0⟩)] n 10 315
def D316(n:Nat)(f249:Fn lJ K85 J)(a:bH prog 249 (y4 f249)):bH prog 316 (abP (B316 n f249)):=cM [Gn n,Gm n,⟨249,y4 f249,a⟩,aob n] [(316,0,⟨[(5,dn),(0,xS),(0,.box (.cells [mN,mN,.dat (.str),.own (.st 20),.own (.st 0)]))],[.slot 0,.slot 4],[],1⟩)] n 10 316
def D317(n:Nat)(f249:Fn lJ K85 J)(f315:Fn Pp K88 J)(a:bH prog 249 (y4 f249))(b:bH prog 315 (UU f315)):bH prog 317 (abO (B317 n f249 f315)):=cM [Gn n,Lj n,⟨249,y4 f249,a⟩,⟨315,UU f315,b⟩,ai5 n] [] n 10 317
def R249(n k:Nat):(Fn lJ K85 J)×(Fn Pp K85 J)×(Fn lJ K85 J)×(Fn lJ K85 J)×(Fn lJ K85 J)×(Fn lJ K85 J)×(Fn Pp K88 J)×(Fn lJ K85 J)×(Fn lJ K85 J):=Nat.rec (motive:=λ_=>(Fn lJ K85 J)×(Fn Pp K85 J)×(Fn lJ K85 J)×(Fn lJ K85 J)×(Fn lJ K85 J)×(Fn lJ K85 J)×(Fn Pp K88 J)×(Fn lJ K85 J)×(Fn lJ K85 J)) ((λ_=>Y,λ_=>Y,λ_=>Y,λ_=>Y,λ_=>Y,λ_=>Y,λ_=>Y,λ_=>Y,λ_=>Y)) (λ_ r=>(B249 n r.1 r.2.1 r.2.2.1,B287 n r.1,B288 n r.2.2.2.1,B307 n r.2.2.2.2.1,B312 n r.2.2.2.2.2.1,B313 n r.1 r.2.2.2.2.2.2.1 r.2.2.2.2.2.2.2.1 r.2.2.2.2.2.2.2.2,B315 n r.1,B316 n r.1,B317 n r.1 r.2.2.2.2.2.2.1)) k
def F249(n:Nat):Fn lJ K85 J:=(R249 n n).1
def ae7(n:Nat):∀k,bH prog 249 (y4 (R249 n k).1)∧bH prog 287 (abV (R249 n k).2.1)∧bH prog 288 (abU (R249 n k).2.2.1)∧bH prog 307 (abS (R249 n k).2.2.2.1)∧bH prog 312 (abR (R249 n k).2.2.2.2.1)∧bH prog 313 (abQ (R249 n k).2.2.2.2.2.1)∧bH prog 315 (UU (R249 n k).2.2.2.2.2.2.1)∧bH prog 316 (abP (R249 n k).2.2.2.2.2.2.2.1)∧bH prog 317 (abO (R249 n k).2.2.2.2.2.2.2.2)
 |0=>⟨cw (enters 249 (by kernel_rfl)),cw (enters 287 (by kernel_rfl)),cw (enters 288 (by kernel_rfl)),cw (enters 307 (by kernel_rfl)),cw (enters 312 (by kernel_rfl)),cw (enters 313 (by kernel_rfl)),cw (enters 315 (by kernel_rfl)),cw (enters 316 (by kernel_rfl)),cw (enters 317 (by kernel_rfl))⟩
 |k+1=>have a:=ae7 n k
  ⟨D249 n _ _ _ a.1 a.2.1 a.2.2.1,D287 n _ a.1,D288 n _ a.2.2.2.1,D307 n _ a.2.2.2.2.1,D312 n _ a.2.2.2.2.2.1,D313 n _ _ _ _ a.1 a.2.2.2.2.2.2.1 a.2.2.2.2.2.2.2.1 a.2.2.2.2.2.2.2.2,D315 n _ a.1,D316 n _ a.1,D317 n _ _ a.1 a.2.2.2.2.2.2.1⟩
def aoy(n:Nat):OC:=⟨249,y4 (F249 n),(ae7 n n).1⟩
def F184:Nat->Y7×U->O alD:=
 λn b=>ai (F181 n (b.1,1,())) λc=>ai (F180 n (c.2.1,[40],())) λd=>ai (F181 n (d.2.1,1,())) λe=>ai (F180 n (e.2.1,[58],
 ())) λg=>ai (F248 n g.2) λh=>ai (F180 n (h.2.1,[41],())) λi=>ai (F180 n (i.2.1,[58],())) λj=>ai (F248 n j.2) λk=>ai
 (F180 n (k.2.1,[61],())) λl=>ai (F249 n l.2) λm=>ai (F180 n (m.2.1,[59],())) λo=>Z ((cQ.mk c.1.1.2 e.1.1.2 (cz.mk
 h.1.1.1 h.1.1.2 h.1.1.3 h.1.1.4) (cz.mk k.1.1.1 k.1.1.2 k.1.1.3 k.1.1.4) (Term.mk m.1.1.1 m.1.1.2 m.1.1.3 m.1.1.4 m.1.1.5),()),o.2)
def ao8(n:Nat):OC:=⟨184,⟨lJ,K89,J,F184 n⟩,cM [Gn n,Lj n,ajf n,aoy n] [] n 10 184⟩
def aaZ(l:alD):L cQ:=
 [cQ.mk l.1.1.1 l.1.1.2 (cz.mk l.1.1.3.1 l.1.1.3.2 l.1.1.3.3 l.1.1.3.4) (cz.mk l.1.1.4.1 l.1.1.4.2 l.1.1.4.3 l.1.1.4.4) (Term.mk
 l.1.1.5.1 l.1.1.5.2 l.1.1.5.3 l.1.1.5.4 l.1.1.5.5)]
def F136:Nat->Y7×U->O ((eo×U)×Y7×U):=
 λn b=>ai (F180 n (b.1,[109,111,100,117,108,101],())) λc=>ai (F181 n (c.2.1,1,())) λd=>ai (F180 n (d.2.1,[123],())) λe
 =>ai (aQ (adM) (U) (adM) (λg=>ai (F182 n (g.1,[116,121,112,101],())) λh=>au h.1.1 (ai (F183 n h.2) λi=>aK (dB
 g.2.1.2.1 [i.1.1]) (Z (N (i.2.1,(g.2.1.1,cX g.2.1.2.1 [i.1.1],g.2.1.2.2),())))) (Z (H 0 (h.2.1,g.2)))) n (e.2.1,(d.1.1.2,[],
 [],()),())) λg=>bp g (λ_ i=>ai (aQ (adM) (U) (adM) (λj=>ai (F182 n (j.1,[102,117,110],())) λk=>au k.1.1
 (ai (F184 n k.2) λl=>aK (dB j.2.1.2.2.1 (aaZ l)) (Z (N (l.2.1,(j.2.1.1,j.2.1.2.1,cX j.2.1.2.2.1 (aaZ l),()),())))) (Z
 (H 0 (k.2.1,j.2)))) n i) λj=>bp j (λ_ l=>ai (F180 n (l.1,[125],())) λm=>Z ((eo.mk l.2.1.1 l.2.1.2.1 l.2.1.2.2.1,
 ()),m.2)) (λk _=>Z ((ke,()),k.1,())) λ_ _=>Y) (λh _=>Z ((ke,()),h.1,())) λ_ _=>Y
def aps(n:Nat):OC:=⟨136,⟨lJ,K90,J,F136 n⟩,cM [Gn n,Lj n,Gm n,ao9 n,ao8 n] [(136,0,⟨[(0,xS),(0,ak7)],[.slot 0,.slot 3],[],0⟩),(136,2,⟨[(0,xS),(0,ak7)],[.slot 0,.slot 3],[],0⟩)] n 10 136⟩
def F137:Y87:=
 λn b=>au (aq b.1.3) (Z ((aa b.1.2 (ax b.1.1),()),())) (Z ((J,()),()))
def apr(n:Nat):OC:=⟨137,⟨P87,K4,J,F137 n⟩,cM [] [] n 10 137⟩
def F161:Y33:=
 λn b=>ai (aQ (Int×U) (Bool×U) (U) (λc=>au (aD c.1 (ax b.1)) (aK (aC c.1 b.1) (au (aD (mo b.1 c.1) 97)
 (Z (X () (J,()))) (aK (aC c.1 b.1) (au (aD 122 (mo b.1 c.1)) (Z (X () (J,()))) (Z (N (aE .i64 c.1 1,
 ()))))))) (Z (H 0 c))) n (0,())) λc=>bp c (λ_ _=>Z ((W,()),())) (λ_ e=>Z (e,())) λ_ _=>Y
def ajn(n:Nat):OC:=⟨161,⟨P7,K4,J,F161 n⟩,cM [] [(161,0,⟨[(3,dj)],[],[],0⟩)] n 10 161⟩
def F185:Y33:=
 λn b=>au (bA 1 (ax b.1)) (au (bA (ax b.1) 8) (ai (F161 n b) λc=>au c.1.1 (ai (F250 n b) λd=>Z ((aq d.1.1,()),
 ())) (Z ((J,()),()))) (Z ((J,()),()))) (Z ((J,()),()))
def afX(n:Nat):OC:=⟨185,⟨P7,K4,J,F185 n⟩,cM [ajn n,ajd n] [] n 10 185⟩
def F186:Y67:=
 λn b=>au (bA b.2.1 b.1) (Z ((bA b.1 b.2.2.1,()),())) (Z ((J,()),()))
def YA(n:Nat):OC:=⟨186,⟨P6,K4,J,F186 n⟩,cM [] [] n 10 186⟩
def F93:Y33:=
 λn b=>au (bA 1 (ax b.1)) (au (bA (ax b.1) 8) (aK (aC 0 b.1) (au (bA 65 (mo b.1 0)) (aK (aC 0 b.1) (au (bA (mo b.1 0)
 90) (aK (iJ 1 (ax b.1) (ax b.1)) (ai (F161 n (eZ b.1 1 (ax b.1),())) λc=>Z c)) (Z ((J,()),())))) (Z ((J,()),
 ())))) (Z ((J,()),()))) (Z ((J,()),()))
def k93(n:Nat):OC:=⟨93,⟨P7,K4,J,F93 n⟩,cM [ajn n] [] n 10 93⟩
abbrev XE(F:Fn P91 K2 J):me sg:=⟨P91,K2,J,F⟩
def B251:Nat->(alk->Iq)->alk->Iq:=
 λn f251 c=>au (aD c.2.1 1) (Z (((-1),()),())) (ai (aQ (Int×Int×U) (Int×U) (U) (λd=>au (aD d.2.1 (ax
 c.1.4)) (au (bA 0 d.1) (aK (aC d.2.1 c.1.4) (ai (f251 (aZ c.1.4 (ak d.2.1) nr,d.1,())) λe=>Z (N (e.1.1,aE .i64
 d.2.1 1,())))) (Z (H 0 d))) (Z (H 0 d))) n (bS .i64 c.2.1 1,0,())) λd=>bp d (λ_ g=>Z ((g.1,()),())) (λ_ g
 =>Z (g,())) λ_ _=>Y)
def D251(n:Nat)(f251:Fn P91 K2 J)(a:bH prog 251 (XE f251)):bH prog 251 (XE (B251 n f251)):=cM [⟨251,XE f251,a⟩] [(251,0,⟨[(1,dj),(5,dj)],[],[],0⟩)] n 10 251
def R251(n k:Nat):(Fn P91 K2 J):=Nat.rec (motive:=λ_=>(Fn P91 K2 J)) (λ_=>Y) (λ_ r=>B251 n r) k
def F251(n:Nat):Fn P91 K2 J:=(R251 n n)
def ae6(n:Nat):∀k,bH prog 251 (XE (R251 n k))
 |0=>cw (enters 251 (by kernel_rfl))
 |k+1=>have a:=ae6 n k
  D251 n _ a
def aox(n:Nat):OC:=⟨251,XE (F251 n),(ae6 n n)⟩
abbrev XD(F:Fn P92 K4 J):me sg:=⟨P92,K4,J,F⟩
def B252:Nat->(alM->O fW)->alM->O fW:=
 λn f252 c=>ai (au (aa c.1.1 1) (Z (N (W,()))) (ai (au (aa c.1.1 2) (Z (N (W,()))) (Z (N (aa c.1.1
 3,())))) λ(d:HK)=>ck d (λe=>Z (N e)) (λ_ _=>Y) (λ_ g=>Z (X () g)) λ_ _=>Y)) λ(d:HK)=>
 ck d (λe=>ai (au e.1 (au (aa (ax c.1.4) 0) (au (aa c.1.2 0) (Z (N (gG c.1.3 [],W,()))) (Z (N (J,W,
 ())))) (Z (N (J,W,())))) (ai (au (aa c.1.1 4) (au (aa (ax c.1.4) 2) (au (aa c.1.2 0) (Z (N (gG c.1.3 [],
 W,()))) (Z (N (J,W,())))) (Z (N (J,W,())))) (ai (au (aa c.1.1 5) (Z (N (W,()))) (ai (au
 (aa c.1.1 6) (Z (N (W,()))) (Z (N (aa c.1.1 7,())))) λ(g:HK)=>ck g (λh=>Z (N h)) (λ_ _=>
 Y) (λ_ i=>Z (X () i)) λ_ _=>Y)) λ(g:HK)=>ck g (λh=>ai (au h.1 (au (aa (ax c.1.4) 1) (au (aa c.1.2
 0) (Z (N (gG c.1.3 [],W,()))) (Z (N (J,W,())))) (Z (N (J,W,())))) (ai (au (aa c.1.1 8) (au
 (aa (ax c.1.4) 0) (au (aa c.1.2 0) (ai (F93 n (c.1.3,())) λi=>Z (N (i.1.1,W,()))) (Z (N (J,W,()))))
 (Z (N (J,W,())))) (ai (au (aa c.1.1 9) (au c.2.1 (au (aa (ax c.1.4) 0) (au (gG c.1.3 []) (ai (F186 n (c.1.2,0,99,
 ())) λi=>Z (N (i.1.1,W,()))) (Z (N (J,W,())))) (Z (N (J,W,())))) (Z (N (J,W,
 ())))) (Z (N (J,J,())))) λ(i:MI)=>ck i (λj=>Z (N (j.1,J,()))) (λ_ _=>Y) (λ_ k=>Z
 (X () k)) λ_ _=>Y)) λ(i:MI)=>ck i (λj=>Z (N (j.1,J,()))) (λ_ _=>Y) (λ_ k=>Z (X () k))
 λ_ _=>Y)) λ(i:MI)=>ck i (λj=>Z (N (j.1,J,()))) (λ_ _=>Y) (λ_ k=>Z (X () k)) λ_ _=>
 Y) (λ_ _=>Y) (λ_ i=>Z (X () i)) λ_ _=>Y)) λ(g:MI)=>ck g (λh=>Z (N (h.1,J,()))) (λ_ _
 =>Y) (λ_ i=>Z (X () i)) λ_ _=>Y)) λ(g:MI)=>ck g (λh=>ai (aQ (Bool×Int×U) (Bool×U) (U)
 (λi=>au (aD i.2.1 (ax c.1.4)) (au i.1 (aK (aC i.2.1 c.1.4) (ai (f252 (aZ c.1.4 (ak i.2.1) nr,c.2)) λj=>Z (N
 (j.1.1,aE .i64 i.2.1 1,())))) (Z (H 0 i))) (Z (H 0 i))) n (h.1,0,())) λi=>bp i (λ_ k=>Z ((k.1,()),())) (λ_
 k=>Z (k,())) λ_ _=>Y) (λ_ _=>Y) (λ_ i=>Z (i,())) λ_ _=>Y) (λ_ _=>Y) (λ_ g=>Z (g,())) λ_ _=>
 Y
def D252(n:Nat)(f252:Fn P92 K4 J)(a:bH prog 252 (XD f252)):bH prog 252 (XD (B252 n f252)):=cM [k93 n,YA n,⟨252,XD f252,a⟩] [(252,1,⟨[(6,dn),(7,dj)],[],[],0⟩),(252,1000005,⟨[(13,dn)],[],[],0⟩),(252,1000006,⟨[(13,dn)],[],[],0⟩),(252,1000007,⟨[(6,dn),(13,dn)],[],[],0⟩),(252,1000009,⟨[(6,dn),(29,dn)],[],[],0⟩),(252,1000011,⟨[(43,dn)],[],[],0⟩),(252,1000012,⟨[(43,dn)],[],[],0⟩),(252,1000013,⟨[(6,dn),(43,dn)],[],[],0⟩),(252,1000015,⟨[(6,dn),(59,dn)],[],[],0⟩),(252,1000017,⟨[(6,dn),(73,dn)],[],[],0⟩)] n 10 252
def R252(n k:Nat):(Fn P92 K4 J):=Nat.rec (motive:=λ_=>(Fn P92 K4 J)) (λ_=>Y) (λ_ r=>B252 n r) k
def F252(n:Nat):Fn P92 K4 J:=(R252 n n)
def ae5(n:Nat):∀k,bH prog 252 (XD (R252 n k))
 |0=>cw (enters 252 (by kernel_rfl))
 |k+1=>have a:=ae5 n k
  D252 n _ a
def aow(n:Nat):OC:=⟨252,XD (F252 n),(ae5 n n)⟩
def F188:Nat->cz×U->O fW:=
 λn b=>ai (F251 n (cz.mk b.1.1 b.1.2 b.1.3 b.1.4,12,())) λc=>au (bA 0 c.1.1) (ai (F252 n (cz.mk b.1.1 b.1.2 b.1.3 b.1.4,
 J,())) λd=>Z d) (Z ((J,()),()))
def ajk(n:Nat):OC:=⟨188,⟨P93,K4,J,F188 n⟩,cM [aox n,aow n] [] n 10 188⟩
def F187:Nat->ki×U->O fW:=
 λn b=>ai (F93 n (b.1.1,())) λc=>au (aq c.1.1) (Z ((J,()),())) (ai (F186 n (ax b.1.2,1,5,())) λd=>au (aq
 d.1.1) (Z ((J,()),())) (ai (aQ (Int×U) (Bool×U) (U) (λe=>au (aD e.1 (ax b.1.2)) (aK (aC e.1 b.1.2) (ai
 (F93 n ((aZ b.1.2 (ak e.1) iu).1,())) λg=>au (aq g.1.1) (Z (X () (J,()))) (au (aD 3 (ax (aZ b.1.2 (ak e.1)
 iu).2)) (Z (X () (J,()))) (ai (aQ (Int×U) (Bool×U) (U) (λh=>au (aD h.1 (ax (aZ b.1.2 (ak
 e.1) iu).2)) (aK (aC h.1 (aZ b.1.2 (ak e.1) iu).2) (ai (F188 n (aZ (aZ b.1.2 (ak e.1) iu).2 (ak h.1) nr,
 ())) λi=>au (aq i.1.1) (Z (X () (J,()))) (Z (N (aE .i64 h.1 1,()))))) (Z (H 0 h))) n (0,())) λh=>
 bp h (λ_ _=>Z (N (aE .i64 e.1 1,()))) (λ_ j=>Z (X () j)) λ_ _=>Y)))) (Z (H 0 e))) n (0,())) λe=>
 bp e (λ_ _=>Z ((W,()),())) (λ_ h=>Z (h,())) λ_ _=>Y))
def ao7(n:Nat):OC:=⟨187,⟨P94,K4,J,F187 n⟩,cM [k93 n,YA n,ajk n] [(187,0,⟨[(3,dj)],[],[],0⟩),(187,2,⟨[(5,dj)],[],[],0⟩)] n 10 187⟩
abbrev XC(F:Fn P95 K2 J):me sg:=⟨P95,K2,J,F⟩
def B253:Nat->(Y55->Iq)->Y55->Iq:=
 λn f253 c=>au (aD c.2.1 1) (Z (((-1),()),())) (au (aD c.2.2.1 1) (Z (((-1),()),())) (ai (aQ (Int×Int×U) (Int×U) (U) (λd=>au (aD d.2.1 (ax c.1.4)) (au (bA 0 d.1) (aK (aC d.2.1 c.1.4) (ai (f253 (aZ c.1.4 (ak d.2.1) qZ,d.1,bS .i64
 c.2.2.1 1,())) λe=>Z (N (e.1.1,aE .i64 d.2.1 1,())))) (Z (H 0 d))) (Z (H 0 d))) n (bS .i64 c.2.1 1,0,())) λ
 d=>bp d (λ_ g=>Z ((g.1,()),())) (λ_ g=>Z (g,())) λ_ _=>Y))
def D253(n:Nat)(f253:Fn P95 K2 J)(a:bH prog 253 (XC f253)):bH prog 253 (XC (B253 n f253)):=cM [⟨253,XC f253,a⟩] [(253,0,⟨[(1,dj),(7,dj)],[],[],0⟩)] n 10 253
def R253(n k:Nat):(Fn P95 K2 J):=Nat.rec (motive:=λ_=>(Fn P95 K2 J)) (λ_=>Y) (λ_ r=>B253 n r) k
def F253(n:Nat):Fn P95 K2 J:=(R253 n n)
def ae4(n:Nat):∀k,bH prog 253 (XC (R253 n k))
 |0=>cw (enters 253 (by kernel_rfl))
 |k+1=>have a:=ae4 n k
  D253 n _ a
def aov(n:Nat):OC:=⟨253,XC (F253 n),(ae4 n n)⟩
def aaP(n:Nat)(b:ahz):O fW:=
 au b.2.2.2.1 (Z ((W,()),())) (Z ((aa (ax b.1.5) 0,()),()))
def aaO(n:Nat)(b:ahz):O fW:=
 au b.2.2.1 (aaP n b) (au (gG b.1.3 []) (aaP n b) (Z ((J,()),())))
def F308:Nat->ahz->O fW:=
 λn b=>au b.2.1 (aaO n b) (au (aa b.1.2 0) (aaO n b) (Z ((J,()),())))
def aof(n:Nat):OC:=⟨308,⟨P96,K4,J,F308 n⟩,cM [] [] n 10 308⟩
def HT(b:Term×U):Term:=
 Term.mk b.1.1 b.1.2 b.1.3 b.1.4 b.1.5
def Sa(n:Nat)(b:Term×U):O fW:=
 F308 n (HT b,W,J,J,())
def jz(n:Nat):O fW:=
 Z ((J,()),())
def aaR(n:Nat):HK->O HK:=
 λc=>ck c (λd=>Z (N d)) (λ_ _=>Y) (λ_ e=>Z (X () e)) λ_ _=>Y
def Mf(n:Nat)(b:Term×U):O fW:=
 ai (F308 n (HT b,J,J,J,())) λe=>Z e
def RZ(n:Nat)(b:Term×U):O fW:=
 ai (F308 n (HT b,J,W,J,())) λe=>au e.1.1 (ai (F185 n (b.1.3,())) λg=>Z g) (jz n)
def Me(n:Nat):HK->O HK:=
 λh=>ck h (λi=>Z (N i)) (λ_ _=>Y) (λ_ j=>Z (X () j)) λ_ _=>Y
def Cu(n:Nat):HK->O HK:=
 λj=>ck j (λk=>Z (N k)) (λ_ _=>Y) (λ_ l=>Z (X () l)) λ_ _=>Y
def Md(n:Nat):U->Bool×U->O fW:=
 λ_ l=>Z (l,())
def F291:Y84:=
 λn b=>au (aa b.1.1 1) (au (aa (ax b.1.4) 0) (ai (Sa n b) λc=>au c.1.1 (ai (F186 n (b.1.2,(-1000000000),1000000000,()))
 λd=>Z d) (jz n)) (jz n)) (au (aa b.1.1 2) (au (aa (ax b.1.4) 0) (ai (Sa n b) λc=>au c.1.1 (ai (F186 n (b.1.2,0,
 1,())) λd=>Z d) (jz n)) (jz n)) (ai (au (aa b.1.1 3) (Z (N (W,()))) (ai (au (aa b.1.1 21) (Z (N (W,
 ()))) (ai (au (aa b.1.1 25) (Z (N (W,()))) (Z (N (aa b.1.1 28,())))) (aaR n))) (aaR n))) λ(c:HK)=>ck c
 (λd=>au d.1 (au (aa (ax b.1.4) 0) (Mf n b) (jz n)) (au (aa b.1.1 4) (au (aa (ax b.1.4) 0) (RZ n b) (jz n)) (ai
 (au (aa b.1.1 5) (Z (N (W,()))) (Z (N (aa b.1.1 27,())))) λ(e:HK)=>ck e (λg=>au g.1 (au (aa (ax
 b.1.4) 1) (RZ n b) (jz n)) (au (aa b.1.1 7) (au (aa (ax b.1.4) 2) (RZ n b) (jz n)) (au (aa b.1.1 8) (au (aa (ax
 b.1.4) 3) (Mf n b) (jz n)) (au (aa b.1.1 14) (au (bA (ax b.1.4) 3) (ai (F308 n (HT b,J,W,J,())) λh=>au
 h.1.1 (ai (F93 n (b.1.3,())) λi=>Z i) (jz n)) (jz n)) (au (aa b.1.1 15) (ai (F186 n (ax b.1.5,1,5,())) λh=>au h.1.1
 (au (aa (ax b.1.4) (aE .i64 1 (ax b.1.5))) (ai (F308 n (HT b,J,J,W,())) λi=>Z i) (jz n)) (jz n)) (ai
 (au (aa b.1.1 16) (Z (N (W,()))) (ai (au (aa b.1.1 17) (Z (N (W,()))) (ai (au (aa b.1.1 19) (Z (N
 (W,()))) (ai (au (aa b.1.1 20) (Z (N (W,()))) (ai (au (aa b.1.1 23) (Z (N (W,()))) (Z (N (aa b.1.1
 26,())))) (Me n))) (Me n))) (Me n))) (Me n))) λ(h:HK)=>ck h (λi=>au i.1 (au (aa (ax b.1.4) 1) (Mf n b)
 (jz n)) (au (aa b.1.1 24) (au (aa (ax b.1.4) 1) (ai (Sa n b) λj=>au j.1.1 (ai (F186 n (b.1.2,0,3,())) λk=>Z k)
 (jz n)) (jz n)) (ai (au (aa b.1.1 6) (Z (N (W,()))) (ai (au (aa b.1.1 9) (Z (N (W,()))) (ai (au (aa
 b.1.1 10) (Z (N (W,()))) (ai (au (aa b.1.1 11) (Z (N (W,()))) (ai (au (aa b.1.1 12) (Z (N (W,())))
 (ai (au (aa b.1.1 13) (Z (N (W,()))) (ai (au (aa b.1.1 18) (Z (N (W,()))) (Z (N (aa b.1.1 22,()))))
 (Cu n))) (Cu n))) (Cu n))) (Cu n))) (Cu n))) (Cu n))) λ(j:HK)=>ck j (λk=>au k.1 (au (aa (ax b.1.4) 2)
 (Mf n b) (jz n)) (jz n)) (λ_ _=>Y) (Md n) λ_ _=>Y))) (λ_ _=>Y) (Md n) λ_ _=>Y)))))) (λ_ _=>
 Y) (Md n) λ_ _=>Y))) (λ_ _=>Y) (Md n) λ_ _=>Y))
def aol(n:Nat):OC:=⟨291,⟨P97,K4,J,F291 n⟩,cM [k93 n,afX n,YA n,aof n] [(291,1000008,⟨[(35,dn)],[],[],0⟩),(291,1000009,⟨[(35,dn)],[],[],0⟩),(291,1000010,⟨[(35,dn)],[],[],0⟩),(291,1000015,⟨[(59,dn)],[],[],0⟩),(291,1000026,⟨[(125,dn)],[],[],0⟩),(291,1000027,⟨[(125,dn)],[],[],0⟩),(291,1000028,⟨[(125,dn)],[],[],0⟩),(291,1000029,⟨[(125,dn)],[],[],0⟩),(291,1000030,⟨[(125,dn)],[],[],0⟩),(291,1000035,⟨[(151,dn)],[],[],0⟩),(291,1000036,⟨[(151,dn)],[],[],0⟩),(291,1000037,⟨[(151,dn)],[],[],0⟩),(291,1000038,⟨[(151,dn)],[],[],0⟩),(291,1000039,⟨[(151,dn)],[],[],0⟩),(291,1000040,⟨[(151,dn)],[],[],0⟩),(291,1000041,⟨[(151,dn)],[],[],0⟩)] n 10 291⟩
def F94:alp:=
 λn b=>ai (aQ (Int×U) (Bool×U) (U) (λc=>au (aD c.1 (ax b.1)) (aK (iJ 0 c.1 (ax b.1)) (aK (aC c.1 b.1)
 (ai (F142 n (eZ b.1 0 c.1,aZ b.1 (ak c.1) [],())) λd=>au d.1.1 (Z (X () (J,()))) (Z (N (aE .i64 c.1 1,()))))))
 (Z (H 0 c))) n (0,())) λc=>bp c (λ_ _=>Z ((W,()),())) (λ_ e=>Z (e,())) λ_ _=>Y
def k94(n:Nat):OC:=⟨94,⟨P9,K4,J,F94 n⟩,cM [acG n] [(94,0,⟨[(3,dj)],[],[],0⟩)] n 10 94⟩
abbrev XA(F:Fn P3 K72 J):me sg:=⟨P3,K72,J,F⟩
def B255:Nat->(aG×U->O (Wk×U))->aG×U->O (Wk×U):=
 λn f255 c=>au (aa c.1.1 2) (Z (([c.1.3],()),())) (ai (aQ (Wn) (Wk) (U) (λd=>au (aD d.2.1 (ax c.1.4)) (aK
 (aC d.2.1 c.1.4) (ai (f255 (aZ c.1.4 (ak d.2.1) aV,())) λe=>aK (dB d.1 e.1.1) (Z (N (cX d.1 e.1.1,aE .i64 d.2.1 1,
 ()))))) (Z (H 0 d))) n ([],0,())) λd=>bp d (λ_ g=>Z ((g.1,()),())) (λ_ g=>Z (g,())) λ_ _=>Y)
def D255(n:Nat)(f255:Fn P3 K72 J)(a:bH prog 255 (XA f255)):bH prog 255 (XA (B255 n f255)):=cM [⟨255,XA f255,a⟩] [(255,0,⟨[(3,.one (.own (.str))),(4,dj)],[],[],0⟩)] n 10 255
def R255(n k:Nat):(Fn P3 K72 J):=Nat.rec (motive:=λ_=>(Fn P3 K72 J)) (λ_=>Y) (λ_ r=>B255 n r) k
def F255(n:Nat):Fn P3 K72 J:=(R255 n n)
def ae2(n:Nat):∀k,bH prog 255 (XA (R255 n k))
 |0=>cw (enters 255 (by kernel_rfl))
 |k+1=>have a:=ae2 n k
  D255 n _ a
def ajc(n:Nat):OC:=⟨255,XA (F255 n),(ae2 n n)⟩
abbrev Xx(F:Fn P3 K4 J):me sg:=⟨P3,K4,J,F⟩
def B309:Y37:=
 λn f309 c=>ai (au (aa c.1.1 1) (Z (N (W,()))) (Z (N (aa c.1.1 5,())))) λ(d:HK)=>ck d (λe=>ai (au
 e.1 (au (aa (ax c.1.4) 0) (au (aa c.1.2 0) (Z (N (gG c.1.3 [],W,()))) (Z (N (J,W,())))) (Z (N
 (J,W,())))) (ai (au (aa c.1.1 2) (au (aa (ax c.1.4) 0) (au (aa c.1.2 0) (ai (F185 n (c.1.3,())) λg=>Z (N
 (g.1.1,W,()))) (Z (N (J,W,())))) (Z (N (J,W,())))) (ai (au (aa c.1.1 3) (au (aa (ax c.1.4) 0) (au
 (gG c.1.3 []) (ai (F186 n (c.1.2,(-1000000000),1000000000,())) λg=>Z (N (g.1.1,W,()))) (Z (N (J,W,()))))
 (Z (N (J,W,())))) (ai (au (aa c.1.1 4) (au (aa (ax c.1.4) 0) (au (gG c.1.3 []) (ai (F186 n (c.1.2,0,1,())) λg=>
 Z (N (g.1.1,W,()))) (Z (N (J,W,())))) (Z (N (J,W,())))) (ai (au (aa c.1.1 6) (au (bA (ax
 c.1.4) 3) (au (aa c.1.2 0) (ai (F93 n (c.1.3,())) λg=>Z (N (g.1.1,W,()))) (Z (N (J,W,())))) (Z (N
 (J,W,())))) (Z (N (J,J,())))) λ(g:MI)=>ck g (λh=>Z (N (h.1,J,()))) (λ_ _=>Y) (λ_
 i=>Z (X () i)) λ_ _=>Y)) λ(g:MI)=>ck g (λh=>Z (N (h.1,J,()))) (λ_ _=>Y) (λ_ i=>Z
 (X () i)) λ_ _=>Y)) λ(g:MI)=>ck g (λh=>Z (N (h.1,J,()))) (λ_ _=>Y) (λ_ i=>Z (X () i))
 λ_ _=>Y)) λ(g:MI)=>ck g (λh=>Z (N (h.1,J,()))) (λ_ _=>Y) (λ_ i=>Z (X () i)) λ_ _=>
 Y)) λ(g:MI)=>ck g (λh=>ai (aQ (Bool×Int×U) (Bool×U) (U) (λi=>au (aD i.2.1 (ax c.1.4)) (au i.1
 (aK (aC i.2.1 c.1.4) (ai (f309 (aZ c.1.4 (ak i.2.1) aV,())) λj=>Z (N (j.1.1,aE .i64 i.2.1 1,())))) (Z (H 0
 i))) (Z (H 0 i))) n (h.1,0,())) λi=>bp i (λ_ k=>Z ((k.1,()),())) (λ_ k=>Z (k,())) λ_ _=>Y) (λ_ _=>
 Y) (λ_ i=>Z (i,())) λ_ _=>Y) (λ_ _=>Y) (λ_ g=>Z (g,())) λ_ _=>Y
def D309(n:Nat)(f309:Fn P3 K4 J)(a:bH prog 309 (Xx f309)):bH prog 309 (Xx (B309 n f309)):=cM [k93 n,afX n,YA n,⟨309,Xx f309,a⟩] [(309,1,⟨[(4,dn),(5,dj)],[],[],0⟩),(309,1000005,⟨[(11,dn)],[],[],0⟩),(309,1000006,⟨[(4,dn),(11,dn)],[],[],0⟩),(309,1000008,⟨[(4,dn),(26,dn)],[],[],0⟩),(309,1000010,⟨[(4,dn),(40,dn)],[],[],0⟩),(309,1000012,⟨[(4,dn),(54,dn)],[],[],0⟩),(309,1000014,⟨[(4,dn),(68,dn)],[],[],0⟩)] n 10 309
def R309(n k:Nat):(Fn P3 K4 J):=Nat.rec (motive:=λ_=>(Fn P3 K4 J)) (λ_=>Y) (λ_ r=>B309 n r) k
def F309(n:Nat):Fn P3 K4 J:=(R309 n n)
def aeZ(n:Nat):∀k,bH prog 309 (Xx (R309 n k))
 |0=>cw (enters 309 (by kernel_rfl))
 |k+1=>have a:=aeZ n k
  D309 n _ a
def aoe(n:Nat):OC:=⟨309,Xx (F309 n),(aeZ n n)⟩
def F292:Y11:=
 λn b=>ai (F83 n (aG.mk b.1.1 b.1.2 b.1.3 b.1.4,12,())) λc=>au (bA 0 c.1.1) (ai (F309 n (aG.mk b.1.1 b.1.2 b.1.3 b.1.4,()))
 λd=>au d.1.1 (ai (F255 n (aG.mk b.1.1 b.1.2 b.1.3 b.1.4,())) λe=>ai (F94 n e.1) λg=>Z g) (Z ((J,()),()))) (Z
 ((J,()),()))
def aok(n:Nat):OC:=⟨292,⟨P3,K4,J,F292 n⟩,cM [k83 n,k94 n,ajc n,aoe n] [] n 10 292⟩
abbrev XB(F:Fn P97 K4 J):me sg:=⟨P97,K4,J,F⟩
def B254:Nat->(Term×U->O fW)->Term×U->O fW:=
 λn f254 c=>ai (F291 n (Term.mk c.1.1 c.1.2 c.1.3 c.1.4 c.1.5,())) λd=>au (aq d.1.1) (Z ((J,()),())) (ai (aQ (Int×U) (Bool×U) (U) (λe=>au (aD e.1 (ax c.1.5)) (aK (aC e.1 c.1.5) (ai (F292 n (aZ c.1.5 (ak e.1) aV,())) λg=>au
 (aq g.1.1) (Z (X () (J,()))) (Z (N (aE .i64 e.1 1,()))))) (Z (H 0 e))) n (0,())) λe=>bp e (λ_ _=>
 ai (aQ (Int×U) (Bool×U) (U) (λi=>au (aD i.1 (ax c.1.4)) (aK (aC i.1 c.1.4) (ai (f254 (aZ c.1.4 (ak i.1) qZ,
 ())) λj=>au (aq j.1.1) (Z (X () (J,()))) (Z (N (aE .i64 i.1 1,()))))) (Z (H 0 i))) n (0,())) λi=>
 bp i (λ_ _=>Z ((W,()),())) (λ_ k=>Z (k,())) λ_ _=>Y) (λ_ h=>Z (h,())) λ_ _=>Y)
def D254(n:Nat)(f254:Fn P97 K4 J)(a:bH prog 254 (XB f254)):bH prog 254 (XB (B254 n f254)):=cM [⟨254,XB f254,a⟩,aol n,aok n] [(254,0,⟨[(3,dj)],[],[],0⟩),(254,2,⟨[(4,dj)],[],[],0⟩)] n 10 254
def R254(n k:Nat):(Fn P97 K4 J):=Nat.rec (motive:=λ_=>(Fn P97 K4 J)) (λ_=>Y) (λ_ r=>B254 n r) k
def F254(n:Nat):Fn P97 K4 J:=(R254 n n)
def ae3(n:Nat):∀k,bH prog 254 (XB (R254 n k))
 |0=>cw (enters 254 (by kernel_rfl))
 |k+1=>have a:=ae3 n k
  D254 n _ a
def aou(n:Nat):OC:=⟨254,XB (F254 n),(ae3 n n)⟩
def F189:Y84:=
 λn b=>ai (F253 n (Term.mk b.1.1 b.1.2 b.1.3 b.1.4 b.1.5,60,14,())) λc=>au (bA 0 c.1.1) (ai (F254 n (Term.mk b.1.1 b.1.2 b.1.3 b.1.4
 b.1.5,())) λd=>Z d) (Z ((J,()),()))
def ao6(n:Nat):OC:=⟨189,⟨P97,K4,J,F189 n⟩,cM [aov n,aou n] [] n 10 189⟩
def lM(b:eo×U)(i:Int×U):cQ:=
 aZ b.1.3 (ak i.1) dR
def H7(n:Nat):O (LO (Int×U) (Bool×U) U Any):=
 Z (X () (J,()))
def F138:Nat->eo×U->O fW:=
 λn b=>ai (F185 n (b.1.1,())) λc=>au (aq c.1.1) (Z ((J,()),())) (au (aD 4 (ax b.1.2)) (Z ((J,()),())) (ai
 (F186 n (ax b.1.3,1,5,())) λd=>au (aq d.1.1) (Z ((J,()),())) (ai (aQ (Int×U) (Bool×U) (U) (λe=>au
 (aD e.1 (ax b.1.2)) (aK (aC e.1 b.1.2) (ai (F187 n (aZ b.1.2 (ak e.1) l5,())) λg=>au (aq g.1.1) (Z (X () (J,
 ()))) (Z (N (aE .i64 e.1 1,()))))) (Z (H 0 e))) n (0,())) λe=>bp e (λ_ _=>ai (aQ (Int×U) (Bool×U) (U) (λi=>au (aD i.1 (ax b.1.3)) (aK (aC i.1 b.1.3) (ai (F185 n ((lM b i).1,())) λj=>au (aq j.1.1) (H7 n)
 (ai (F185 n ((lM b i).2,())) λk=>au (aq k.1.1) (H7 n) (ai (F188 n (cz.mk (lM b i).3.1 (lM b i).3.2 (lM b i).3.3
 (lM b i).3.4,())) λl=>au (aq l.1.1) (H7 n) (ai (F188 n (cz.mk (lM b i).4.1 (lM b i).4.2 (lM b i).4.3 (lM b
 i).4.4,())) λm=>au (aq m.1.1) (H7 n) (ai (F189 n (Term.mk (lM b i).5.1 (lM b i).5.2 (lM b i).5.3 (lM b i).5.4 (lM b
 i).5.5,())) λo=>au (aq o.1.1) (H7 n) (Z (N (aE .i64 i.1 1,()))))))))) (Z (H 0 i))) n (0,())) λi=>bp i (λ
 _ _=>Z ((W,()),())) (λ_ k=>Z (k,())) λ_ _=>Y) (λ_ h=>Z (h,())) λ_ _=>Y)))
def ajp(n:Nat):OC:=⟨138,⟨P98,K4,J,F138 n⟩,cM [afX n,YA n,ao7 n,ajk n,ao6 n] [(138,0,⟨[(3,dj)],[],[],0⟩),(138,2,⟨[(4,dj)],[],[],0⟩)] n 10 138⟩
def F85:Nat->L UInt8×U->O ((eo×Int×U)×U):=
 λn b=>ai (F179 n b) λc=>au (aq (aa c.1.2.1 0)) (Z ((ke,c.1.2),())) (ai (F136 n ((c.1.1,0,J,()),())) λd=>
 ai (F137 n (bL.mk d.2.1.1 d.2.1.2.1 d.2.1.2.2.1,())) λe=>au (aq e.1.1) (Z ((ke,4,()),())) (ai (F138 n d.1)
 λg=>au (aq g.1.1) (Z ((ke,2,()),())) (Z ((d.1.1,0,()),()))))
def k85(n:Nat):OC:=⟨85,⟨P7,K99,J,F85 n⟩,cM [aps n,apr n,ajp n,apa n] [] n 10 85⟩
def F139:Nat->eo×U->O (Wk×U):=
 λn b=>ai (aQ (Wn) (Wk) (U) (λc=>au (aD c.2.1 (ax b.1.3)) (aK (aC c.2.1 b.1.3) (aK (dB c.1 [(aZ b.1.3 (ak
 c.2.1) dR).1]) (Z (N (cX c.1 [(aZ b.1.3 (ak c.2.1) dR).1],aE .i64 c.2.1 1,()))))) (Z (H 0 c))) n ([],0,
 ())) λc=>bp c (λ_ e=>Z ((e.1,()),())) (λ_ e=>Z (e,())) λ_ _=>Y
def apq(n:Nat):OC:=⟨139,⟨P98,K72,J,F139 n⟩,cM [] [(139,0,⟨[(3,.one (.own (.str))),(4,dj)],[],[],0⟩)] n 10 139⟩
def aaY(b:eo×U)(c:adP)(d:adP):L cO:=
 [cO.mk (aZ (aZ b.1.2 (ak c.2.1) l5).2 (ak d.2.1) iu).1 (ax (aZ (aZ b.1.2 (ak c.2.1) l5).2 (ak d.2.1)
 iu).2)]
def F140:Nat->eo×U->O ((L cO×U)×U):=
 λn b=>ai (aQ (adP) (L cO×U) (U) (λc=>au (aD c.2.1 (ax b.1.2)) (ai (aQ (adP) (L cO×U) (U) (λd=>aK (aC c.2.1 b.1.2) (au (aD d.2.1 (ax (aZ b.1.2 (ak c.2.1) l5).2)) (aK (aC c.2.1 b.1.2) (aK (aC d.2.1
 (aZ b.1.2 (ak c.2.1) l5).2) (aK (dB d.1 (aaY b c d)) (Z (N (cX d.1 (aaY b c d),aE .i64 d.2.1 1,())))))) (Z
 (H 0 d)))) n (c.1,0,())) λd=>bp d (λ_ g=>Z (N (g.1,aE .i64 c.2.1 1,()))) (λ_ g=>Z (X () g)) λ_ _=>
 Y) (Z (H 0 c))) n ([],0,())) λc=>bp c (λ_ e=>Z ((e.1,()),())) (λ_ e=>Z (e,())) λ_ _=>Y
def apo(n:Nat):OC:=⟨140,⟨P98,K100,J,F140 n⟩,cM [] [(140,0,⟨[(3,.one (.own (.st 2))),(4,dj)],[],[],0⟩),(140,2,⟨[(3,.one (.own (.st 2))),(5,dj)],[],[],0⟩)] n 10 140⟩
def F141:Nat->L cO×U->O (Wk×U):=
 λn b=>ai (aQ (Wn) (Wk) (U) (λc=>au (aD c.2.1 (ax b.1)) (aK (aC c.2.1 b.1) (aK (dB c.1 [(aZ b.1 (ak c.2.1)
 bM).1]) (Z (N (cX c.1 [(aZ b.1 (ak c.2.1) bM).1],aE .i64 c.2.1 1,()))))) (Z (H 0 c))) n ([],0,())) λc=>
 bp c (λ_ e=>Z ((e.1,()),())) (λ_ e=>Z (e,())) λ_ _=>Y
def apn(n:Nat):OC:=⟨141,⟨al0,K72,J,F141 n⟩,cM [] [(141,0,⟨[(3,.one (.own (.str))),(4,dj)],[],[],0⟩)] n 10 141⟩
def F190:Nat->L cO×L UInt8×U->Iq:=
 λn b=>ai (aQ (Int×U) (Int×U) (U) (λc=>au (aD c.1 (ax b.1)) (aK (aC c.1 b.1) (au (gG (aZ b.1 (ak c.1)
 bM).1 b.2.1) (Z (X () c)) (Z (N (aE .i64 c.1 1,()))))) (Z (H 0 c))) n (0,())) λc=>bp c (λ_ _=>Z
 (((-1),()),())) (λ_ e=>Z (e,())) λ_ _=>Y
def acE(n:Nat):OC:=⟨190,⟨asZ,K2,J,F190 n⟩,cM [] [(190,0,⟨[(5,dj)],[],[],0⟩)] n 10 190⟩
abbrev XI(F:Fn Wx K4 J):me sg:=⟨Wx,K4,J,F⟩
def B191:Nat->(Y12->O fW)->Y12->O fW:=
 λn f191 c=>ai (au (aa c.2.1.1 6) (ai (F190 n (c.1.2,c.2.1.3,())) λd=>au (aD d.1.1 0) (Z (X () (J,()))) (aK (aC
 d.1.1 c.1.2) (au (aq (aa (aZ c.1.2 (ak d.1.1) bM).2 (ax c.2.1.4))) (Z (X () (J,()))) (Z (N (J,W,
 ())))))) (Z (N (J,J,())))) λ(d:MI)=>ck d (λ_=>ai (aQ (Int×U) (Bool×U) (U) (λg=>au
 (aD g.1 (ax c.2.1.4)) (aK (aC g.1 c.2.1.4) (ai (f191 (c.1,aZ c.2.1.4 (ak g.1) aV,())) λh=>au (aq h.1.1) (Z (X ()
 (J,()))) (Z (N (aE .i64 g.1 1,()))))) (Z (H 0 g))) n (0,())) λg=>bp g (λ_ _=>Z ((W,()),())) (λ_ i=>
 Z (i,())) λ_ _=>Y) (λ_ _=>Y) (λ_ g=>Z (g,())) λ_ _=>Y
def D191(n:Nat)(f191:Fn Wx K4 J)(a:bH prog 191 (XI f191)):bH prog 191 (XI (B191 n f191)):=cM [acE n,⟨191,XI f191,a⟩] [(191,0,⟨[(6,dj)],[],[],0⟩),(191,1000002,⟨[(4,dn),(9,dn)],[],[],0⟩)] n 10 191
def R191(n k:Nat):(Fn Wx K4 J):=Nat.rec (motive:=λ_=>(Fn Wx K4 J)) (λ_=>Y) (λ_ r=>B191 n r) k
def F191(n:Nat):Fn Wx K4 J:=(R191 n n)
def afc(n:Nat):∀k,bH prog 191 (XI (R191 n k))
 |0=>cw (enters 191 (by kernel_rfl))
 |k+1=>have a:=afc n k
  D191 n _ a
def ao5(n:Nat):OC:=⟨191,XI (F191 n),(afc n n)⟩
def F192:Nat->L (L UInt8)×L (L UInt8)×U->O (Wk×U):=
 λn b=>aK (dB b.1 b.2.1) (Z ((cX b.1 b.2.1,()),()))
def ajj(n:Nat):OC:=⟨192,⟨asY,K72,J,F192 n⟩,cM [] [] n 10 192⟩
def F193:Nat->Term×Int×U->O (Wk×U):=
 λn b=>ai (au (aa b.1.1 5) (Z (N (W,()))) (Z (N (aa b.1.1 27,())))) λ(c:LO (Bool×U) Wk U Any)=>ck
 c (λd=>au d.1 (Z (([b.1.3],()),())) (au (aa b.1.1 7) (au (aa b.2.1 1) (Z (([b.1.3],()),())) (Z (([],()),()))) (au (aa
 b.1.1 15) (au (aD 0 b.2.1) (aK (aC (bS .i64 b.2.1 1) b.1.5) (ai (F255 n (aZ b.1.5 (ak (bS .i64 b.2.1 1)) aV,())) λe=>
 Z e)) (Z (([],()),()))) (Z (([],()),()))))) (λ_ _=>Y) (λ_ e=>Z (e,())) λ_ _=>Y
def aji(n:Nat):OC:=⟨193,⟨asX,K72,J,F193 n⟩,cM [ajc n] [(193,1000003,⟨[(7,dn)],[],[],0⟩)] n 10 193⟩
abbrev XL(F:Fn Ww K4 J):me sg:=⟨Ww,K4,J,F⟩
def B143:Nat->(alB->O fW)->alB->O fW:=
 λn f143 c=>au (aa c.2.1.1 4) (ai (F142 n (c.2.2.1,c.2.1.3,())) λd=>au d.1.1 (Z ((W,()),())) (ai (F142 n (c.1.1,c.2.1.3,
 ())) λe=>Z e)) (ai (au (aa c.2.1.1 14) (ai (F190 n (c.1.2,c.2.1.3,())) λd=>au (aD d.1.1 0) (Z (X () (J,()))) (aK
 (aC d.1.1 c.1.2) (au (aq (aa (aZ c.1.2 (ak d.1.1) bM).2 (ax c.2.1.4))) (Z (X () (J,()))) (Z (N (J,W,
 ())))))) (Z (N (J,J,())))) λ(d:MI)=>ck d (λ_=>ai (aQ (Int×U) (Bool×U) (U) (λg=>au
 (aD g.1 (ax c.2.1.5)) (aK (aC g.1 c.2.1.5) (ai (F191 n (c.1,aZ c.2.1.5 (ak g.1) aV,())) λh=>au (aq h.1.1) (Z (X
 () (J,()))) (Z (N (aE .i64 g.1 1,()))))) (Z (H 0 g))) n (0,())) λg=>bp g (λ_ _=>ai (aQ (Int×U) (Bool×
 U) (U) (λj=>au (aD j.1 (ax c.2.1.4)) (aK (aC j.1 c.2.1.4) (ai (F193 n (Term.mk c.2.1.1 c.2.1.2 c.2.1.3 c.2.1.4 c.2.1.5,j))
 λk=>ai (F192 n (c.2.2.1,k.1)) λl=>ai (f143 (c.1,aZ c.2.1.4 (ak j.1) qZ,l.1)) λm=>au (aq m.1.1) (Z (X () (J,
 ()))) (Z (N (aE .i64 j.1 1,()))))) (Z (H 0 j))) n (0,())) λj=>bp j (λ_ _=>Z ((W,()),())) (λ_ l=>Z
 (l,())) λ_ _=>Y) (λ_ i=>Z (i,())) λ_ _=>Y) (λ_ _=>Y) (λ_ g=>Z (g,())) λ_ _=>Y)
def D143(n:Nat)(f143:Fn Ww K4 J)(a:bH prog 143 (XL f143)):bH prog 143 (XL (B143 n f143)):=cM [acG n,⟨143,XL f143,a⟩,acE n,ao5 n,ajj n,aji n] [(143,0,⟨[(8,dj)],[],[],0⟩),(143,2,⟨[(9,dj)],[],[],0⟩),(143,1000004,⟨[(6,dn),(28,dn)],[],[],0⟩)] n 10 143
def R143(n k:Nat):(Fn Ww K4 J):=Nat.rec (motive:=λ_=>(Fn Ww K4 J)) (λ_=>Y) (λ_ r=>B143 n r) k
def F143(n:Nat):Fn Ww K4 J:=(R143 n n)
def aff(n:Nat):∀k,bH prog 143 (XL (R143 n k))
 |0=>cw (enters 143 (by kernel_rfl))
 |k+1=>have a:=aff n k
  D143 n _ a
def apm(n:Nat):OC:=⟨143,XL (F143 n),(aff n n)⟩
def F144:Nat->alH->Iq:=
 λn b=>ai (aQ (Int×U) (Int×U) (U) (λc=>au (bA 0 c.1) (aK (aC c.1 b.1) (au (gG (aZ b.1 (ak c.1) []) b.2.1)
 (Z (X () c)) (Z (N (bS .i64 c.1 1,()))))) (Z (H 0 c))) n (bS .i64 (ax b.1) 1,())) λc=>bp c (λ_ _=>
 Z (((-1),()),())) (λ_ e=>Z (e,())) λ_ _=>Y
def ajo(n:Nat):OC:=⟨144,⟨P71,K2,J,F144 n⟩,cM [] [(144,0,⟨[(5,dj)],[],[],0⟩)] n 10 144⟩
abbrev XH(F:Fn Wv K86 J):me sg:=⟨Wv,K86,J,F⟩
def SB(g:Y24):Bf:=
 (g.2.1.1,g.2.1.2.1,kL (S:=sg) 1 2 (Ty.int .i64) g.2.1.2.2.1 (zn (S:=sg) 1 2 (Ty.int .i64) g.2.1.2.2.1),())
def ah0(h:Y25):Bf:=
 (h.2.1.1,h.2.1.2.1,kL (S:=sg) 1 2 (Ty.int .i64) h.2.1.2.2.1 (zn (S:=sg) 1 2 (Ty.int .i64) h.2.1.2.2.1),())
def abc(c:Y26):Bf:=
 (c.1.1,c.1.2.1,kL (S:=sg) 1 2 (Ty.int .i64) c.1.2.2.1 (zn (S:=sg) 1 2 (Ty.int .i64) c.1.2.2.1),())
def ahZ(h:Bf×Y9×U):Bf:=
 (h.1.1,h.1.2.1,kL (S:=sg) 1 2 (Ty.int .i64) h.1.2.2.1 (zn (S:=sg) 1 2 (Ty.int .i64) h.1.2.2.1),())
def B194:Nat->(Y26->O Y25)->Y26->O Y25:=
 λn f194 c=>ai (au (aa c.2.1.1 6) (ai (F190 n (c.1.2.1,c.2.1.3,())) λd=>Z (N (W,(c.2.1.1,d.1.1,[],[],()),()))) (Z
 (N (J,(c.2.1.1,c.2.1.2,[],[],()),())))) λ(d:LO (Bool×Y9×U) U (Y9×U) Any)=>ck d (λe=>ai (aQ (Y24) (U) (Bf×Y9×U) (λg=>au (aD g.1 (ax c.2.1.4)) (aK (aC g.1 c.2.1.4) (ai (f194 (SB g,aZ c.2.1.4 (ak g.1) aV,
 ())) λh=>aK (dB g.2.2.1.2.2.2.1 [h.1.1]) (Z (N (aE .i64 g.1 1,ah0 h,(g.2.2.1.1,g.2.2.1.2.1,g.2.2.1.2.2.1,cX
 g.2.2.1.2.2.2.1 [h.1.1],()),()))))) (Z (H 0 (g.1,SB g,g.2.2)))) n (0,abc c,e.2)) λg=>bp g (λ_ i=>Z ((aG.mk
 i.2.2.1.1 i.2.2.1.2.1 i.2.2.1.2.2.1 i.2.2.1.2.2.2.1,()),SB i,())) (λh _=>Z ((aV,()),ahZ h,())) λ_ _=>Y) (λ_ _=>
 Y) (λ_ _=>Z ((aV,()),abc c,())) λ_ _=>Y
def D194(n:Nat)(f194:Fn Wv K86 J)(a:bH prog 194 (XH f194)):bH prog 194 (XH (B194 n f194)):=cM [acE n,⟨194,XH f194,a⟩] [(194,0,⟨[(6,dj),(0,We),(0,ahh)],[.slot 0,.slot 5],[],0⟩),(194,1000003,⟨[(14,dn),(0,ahh)],[.slot 5],[],0⟩)] n 10 194
def R194(n k:Nat):(Fn Wv K86 J):=Nat.rec (motive:=λ_=>(Fn Wv K86 J)) (λ_=>Y) (λ_ r=>B194 n r) k
def F194(n:Nat):Fn Wv K86 J:=(R194 n n)
def afb(n:Nat):∀k,bH prog 194 (XH (R194 n k))
 |0=>cw (enters 194 (by kernel_rfl))
 |k+1=>have a:=afb n k
  D194 n _ a
def ao4(n:Nat):OC:=⟨194,XH (F194 n),(afb n n)⟩
abbrev XK(F:Fn Wu K2 J):me sg:=⟨Wu,K2,J,F⟩
def SE(g:Bool×Pn×U):Pn×U:=
 ((g.2.1.1,g.2.1.2.1,[],g.2.1.2.2.2),())
def SD(i:ahu):L (L Int):=
 zn (S:=sg) 1 2 (Ty.int .i64) i.2.1.2.2.1
def abe(i:ahu):Bf:=
 (i.2.1.1,i.2.1.2.1,kL (S:=sg) 1 2 (Ty.int .i64) i.2.1.2.2.1 (SD i),())
def ah3(j:Y25):L (L Int):=
 zn (S:=sg) 1 2 (Ty.int .i64) j.2.1.2.2.1
def ah2(j:Y25):Bf:=
 (j.2.1.1,j.2.1.2.1,kL (S:=sg) 1 2 (Ty.int .i64) j.2.1.2.2.1 (ah3 j),())
def abd(c:Pm):Bf:=
 (c.1.1,c.1.2.1,kL (S:=sg) 1 2 (Ty.int .i64) c.1.2.2.1 (zn (S:=sg) 1 2 (Ty.int .i64) c.1.2.2.1),())
def ah1(l:Int×Bf×U):L (L Int):=
 zn (S:=sg) 1 2 (Ty.int .i64) l.2.1.2.2.1
def SC(l:Int×Bf×U):Bf:=
 (l.2.1.1,l.2.1.2.1,kL (S:=sg) 1 2 (Ty.int .i64) l.2.1.2.2.1 (ah1 l),())
def wX(c:Pm):Nat:=
 ak (ax c.1.2.2.1)
def EI(p:RN):L (L Int):=
 zn (S:=sg) 1 2 (Ty.int .i64) p.2.1.2.2.1
def ad4(m:Bf×U):Bf:=
 (m.1.1,m.1.2.1,kL (S:=sg) 1 2 (Ty.int .i64) m.1.2.2.1 (zn (S:=sg) 1 2 (Ty.int .i64) m.1.2.2.1),())
def ad3(n:Nat)(f145:Pm->O RN)(m:Bf×U):aht:=
 λo=>Z (o,ad4 m,())
def ad2(j:Bf×Pn×U):Bf:=
 (j.1.1,j.1.2.1,kL (S:=sg) 1 2 (Ty.int .i64) j.1.2.2.1 (zn (S:=sg) 1 2 (Ty.int .i64) j.1.2.2.1),())
def ad1(n:Nat)(f145:Pm->O RN)(j:Bf×Pn×U):aht:=
 λk=>Z (k,ad2 j,())
def Ul(n:Nat)(f145:Pm->O RN)(c:Pm):aht:=
 λi=>Z (i,abd c,())
def B145:Nat->(Pm->O RN)->Pm->O RN:=
 λn f145 c=>ai (au (aa c.2.1.1 4) (ai (F144 n (c.2.2.1,c.2.1.3,())) λd=>ai (au (aD d.1.1 0) (ai (F144 n (c.1.1,c.2.1.3,()))
 λe=>Z (N (W,(c.2.1.1,bS .i64 (-1) e.1.1,[],[],()),()))) (Z (N (J,(c.2.1.1,d.1.1,[],[],()),())))) λ(e :
 ahs)=>ck e (λg=>Z (N (W,SE g))) (λ_ _=>Y) (λg h=>Z (X ((g.1.1,g.1.2.1,[],g.1.2.2.2),()) h)) λ_
 _=>Y) (Z (N (J,(c.2.1.1,c.2.1.2,[],[],()),())))) λ(d:ahs)=>ck d (λe=>ai (au (aa c.2.1.1 14) (ai (F190 n
 (c.1.2.1,c.2.1.3,())) λg=>Z (N (W,(e.2.1.1,g.1.1,[],e.2.1.2.2.2),()))) (Z (N (J,SE e)))) λ(g:ahs)=>
 ck g (λh=>ai (aQ (ahu) (Int×U) (Bf×Pn×U) (λi=>au (aD i.1 (ax c.2.1.5)) (aK (aC i.1 c.2.1.5) (ai (F194
 n (abe i,aZ c.2.1.5 (ak i.1) aV,())) λj=>aK (dB i.2.2.1.2.2.2.1 [j.1.1]) (Z (N (aE .i64 i.1 1,ah2 j,(i.2.2.1.1,
 i.2.2.1.2.1,[],cX i.2.2.1.2.2.2.1 [j.1.1],()),()))))) (Z (H 0 (i.1,abe i,(i.2.2.1.1,i.2.2.1.2.1,[],i.2.2.1.2.2.2),())))) n (0,
 abd c,SE h)) λi=>bp i (λ_ k=>aK (bP (acr k.2.1.2.2.1 (SD k)) (dB k.2.1.2.2.1 [bw.mk k.2.2.1.1 k.2.2.1.2.1 []
 k.2.2.1.2.2.2.1])) (ai (aQ (Int×Bf×U) (Int×U) (Bf×U) (λl=>au (aD l.1 (ax c.2.1.4)) (aK (aC l.1 c.2.1.4) (ai
 (F193 n (Term.mk c.2.1.1 c.2.1.2 c.2.1.3 c.2.1.4 c.2.1.5,l.1,())) λm=>ai (F192 n (c.2.2.1,m.1)) λo=>ai (f145 (SC l,aZ c.2.1.4
 (ak l.1) qZ,o.1)) λp=>aK (aC (ax c.1.2.2.1) p.2.1.2.2.1) (aK (cJ (wX c) p.2.1.2.2.1) (aK (bP (cJ (wX c) (EI p))
 (dB (aZ (EI p) (wX c) []) [p.1.1])) (aK (aC (ax c.1.2.2.1) p.2.1.2.2.1) (aK (YU (wX c) p.2.1.2.2.1 (wX c) (wX c))
 (Z (N (aE .i64 l.1 1,(p.2.1.1,p.2.1.2.1,kL (S:=sg) 1 2 (Ty.int .i64) p.2.1.2.2.1 (eg (EI p) (wX c) (cX (aZ (EI
 p) (wX c) []) [p.1.1])),()),()))))))))) (Z (H 0 (l.1,SC l,())))) n (0,(k.2.1.1,k.2.1.2.1,kL (S:=sg) 1 2 (Ty.int .i64) (cX
 k.2.1.2.2.1 [bw.mk k.2.2.1.1 k.2.2.1.2.1 [] k.2.2.1.2.2.2.1]) (cX (SD k) [[]]),()),())) λl=>bp l (λ_ o=>Z ((ax
 c.1.2.2.1,()),SC o,())) (λm=>ad3 n f145 m) λ_ _=>Y)) (λj=>ad1 n f145 j) λ_ _=>Y) (λ_ _=>Y) (λ_=>
 Ul n f145 c) λ_ _=>Y) (λ_ _=>Y) (λ_=>Ul n f145 c) λ_ _=>Y
def D145(n:Nat)(f145:Fn Wu K2 J)(a:bH prog 145 (XK f145)):bH prog 145 (XK (B145 n f145)):=cM [ajo n,⟨145,XK f145,a⟩,acE n,ajj n,aji n,ao4 n] [(145,0,⟨[(9,dj),(0,We),(0,adF)],[.slot 0,.slot 8],[],0⟩),(145,2,⟨[(10,dj),(0,We)],[.slot 0],[],0⟩),(145,1000004,⟨[(24,dn),(0,adF)],[.slot 8],[],0⟩),(145,1000006,⟨[(32,dn),(0,adF)],[.slot 8],[],0⟩),(145,1000008,⟨[(44,dn),(0,adF)],[.slot 8],[],0⟩)] n 10 145
def R145(n k:Nat):(Fn Wu K2 J):=Nat.rec (motive:=λ_=>(Fn Wu K2 J)) (λ_=>Y) (λ_ r=>B145 n r) k
def F145(n:Nat):Fn Wu K2 J:=(R145 n n)
def afe(n:Nat):∀k,bH prog 145 (XK (R145 n k))
 |0=>cw (enters 145 (by kernel_rfl))
 |k+1=>have a:=afe n k
  D145 n _ a
def apl(n:Nat):OC:=⟨145,XK (F145 n),(afe n n)⟩
def amb(b:eo×U)(k:Int×LV×U):alI:=
 (Term.mk (aZ b.1.3 (ak k.1) dR).5.1 (aZ b.1.3 (ak k.1) dR).5.2 (aZ b.1.3 (ak k.1) dR).5.3 (aZ b.1.3 (ak k.1)
 dR).5.4 (aZ b.1.3 (ak k.1) dR).5.5,[(aZ b.1.3 (ak k.1) dR).2],())
def Kh(k:Int×LV×U):LV×U:=
 (([],[],k.2.1.2.2.1,[],()),())
def aaE(p:ahy):L bw:=
 kL (S:=sg) 1 2 (Ty.int .i64) p.2.2.1.2.2.1 (zn (S:=sg) 1 2 (Ty.int .i64) p.2.2.1.2.2.1)
def ama(b:eo×U)(p:ahy):alI:=
 (Term.mk (aZ b.1.3 (ak p.1) dR).5.1 (aZ b.1.3 (ak p.1) dR).5.2 (aZ b.1.3 (ak p.1) dR).5.3 (aZ b.1.3 (ak p.1)
 dR).5.4 (aZ b.1.3 (ak p.1) dR).5.5,[(aZ b.1.3 (ak p.1) dR).2],())
def F86:Nat->eo×U->O ((az×Int×U)×U):=
 λn b=>ai (F138 n b) λc=>au (aq c.1.1) (Z ((l6,2,()),())) (ai (F139 n b) λd=>ai (F140 n b) λe=>ai (F94 n d.1)
 λg=>au (aq g.1.1) (Z ((l6,7,()),())) (ai (F141 n e.1) λh=>ai (F94 n h.1) λi=>au (aq i.1.1) (Z ((l6,
 7,()),())) (ai (F142 n (d.1.1,[109,97,105,110],())) λj=>au (aq j.1.1) (Z ((l6,7,()),())) (ai (aQ (Int×LV×U) (Int×U) (LV×U) (λk=>au (aD k.1 (ax b.1.3)) (aK (aC k.1 b.1.3) (aK (aC k.1 b.1.3) (ai (F143 n (dO.mk
 d.1.1 e.1.1 [],amb b k)) λl=>au (aq l.1.1) (Z (X (([],[],0,[],()),()) (7,()))) (Z (N (aE .i64 k.1 1,Kh
 k)))))) (Z (H 0 (k.1,Kh k)))) n (0,([],[],0,[],()),())) λk=>bp k (λ_ m=>ai (F144 n (d.1.1,[109,97,105,110],()))
 λo=>ai (aQ (ahy) (Int×U) (LV×Bf×U) (λp=>au (aD p.1 (ax b.1.3)) (aK (dB p.2.1.2.1 [ax p.2.2.1.2.2.1])
 (aK (aC p.1 b.1.3) (aK (aC p.1 b.1.3) (ai (F145 n ((p.2.2.1.1,p.2.2.1.2.1,aaE p,()),ama b p)) λq=>Z (N (aE .i64 p.1 1,
 ([],cX p.2.1.2.1 [ax p.2.2.1.2.2.1],p.2.1.2.2),(q.2.1.1,q.2.1.2.1,kL (S:=sg) 1 2 (Ty.int .i64) q.2.1.2.2.1 (zn (S:=sg) 1 2 (Ty.int .i64)
 q.2.1.2.2.1),()),())))))) (Z (H 0 (p.1,([],p.2.1.2),(p.2.2.1.1,p.2.2.1.2.1,aaE p,()),())))) n (0,([],[],o.1.1,e.1),(d.1.1,
 e.1.1,[],()),())) λp=>bp p (λ_ r=>ai (aQ (Int×LV×U) (Int×U) (LV×U) (λs=>au (aD s.1 (ax
 r.2.2.1.2.2.1)) (aK (aC s.1 r.2.2.1.2.2.1) (aK (cJ (ak s.1) r.2.2.1.2.2.1) (au (aa (aZ r.2.2.1.2.2.1 (ak s.1) aW).1 4) (aK (aC
 s.1 r.2.2.1.2.2.1) (aK (cJ (ak s.1) r.2.2.1.2.2.1) (au (bA 30 (aZ r.2.2.1.2.2.1 (ak s.1) aW).2) (Z (X (([],[],0,[],()),
 ()) (3,()))) (Z (N (aE .i64 s.1 1,Kh s)))))) (Z (N (aE .i64 s.1 1,Kh s)))))) (Z (H 0 (s.1,Kh s)))) n (0,
 Kh m)) λs=>bp s (λ_ _=>Z ((az.mk (aaE r) r.2.1.2.1 r.2.1.2.2.1 r.2.1.2.2.2.1,0,()),())) (λt u=>Z ((az.mk []
 [] t.1.2.2.1 [],u),())) λ_ _=>Y) (λ_ r=>Z ((az.mk [] [] m.2.1.2.2.1 [],r),())) λ_ _=>Y) (λl m=>Z
 ((az.mk [] [] l.1.2.2.1 [],m),())) λ_ _=>Y))))
def k86(n:Nat):OC:=⟨86,⟨P98,K109,J,F86 n⟩,cM [k94 n,ajp n,apq n,apo n,apn n,acG n,apm n,ajo n,apl n] [(86,0,⟨[(5,dj),(0,ak8)],[.slot 2],[],0⟩),(86,2,⟨[(7,dj),(0,.box (.cells [.nil (.st 1),.own (.int .i64),mN,b8y])),(0,We)],[.slot 6,.slot 18],[],0⟩),(86,4,⟨[(8,dj),(0,ak8)],[.slot 2],[],0⟩)] n 10 86⟩
def F45:Nat->L UInt8×U->alw:=
 λn b=>ai (F85 n b) λc=>ai (F86 n (c.1.1,())) λd=>Z ((d.1.1,()),())
def k45(n:Nat):OC:=⟨45,⟨P7,K110,J,F45 n⟩,cM [k85 n,k86 n] [] n 10 45⟩
def aeW(n:Nat):alw:=
 F45 n ([109,111,100,117,108,101,32,97,32,123,32,102,117,110,32,109,97,105,110,40,117,32,58,32,117,110,105,116,41,32,58,
 32,105,110,116,32,61,32,108,101,116,32,99,32,61,32,99,101,108,108,40,49,41,32,105,110,32,108,101,116,32,120,32,61,32,
 111,117,116,40,48,44,32,103,101,116,40,99,41,41,32,105,110,32,108,101,116,32,121,32,61,32,112,117,116,40,99,44,32,105,
 110,112,117,116,41,32,105,110,32,103,101,116,40,99,41,32,43,32,49,59,32,125],())
def yL(n:Nat):O fW:=
 Z ((J,()),())
def PE(e:Y78):aN:=
 aZ e.1.2.1 (ak 2) br
def PD(e:Y78):aN:=
 aZ e.1.2.1 (ak 5) br
def F13:Nat->U->O fW:=
 λn _=>ai (F45 n ([109,111,100,117,108,101,32,98,32,123,32,102,117,110,32,119,111,114,107,40,99,32,58,32,99,104,97,110,
 32,105,110,116,41,32,58,32,117,110,105,116,32,61,32,108,101,116,32,120,32,61,32,115,101,110,100,40,99,44,32,53,41,32,
 105,110,32,115,101,110,100,40,99,44,32,54,41,59,32,102,117,110,32,109,97,105,110,40,117,32,58,32,117,110,105,116,41,
 32,58,32,105,110,116,32,61,32,108,101,116,32,99,32,61,32,99,104,97,110,32,105,110,32,108,101,116,32,116,32,61,32,115,
 112,97,119,110,40,102,117,110,32,117,32,61,62,32,119,111,114,107,32,99,41,32,105,110,32,116,97,107,101,40,99,41,32,43,
 32,114,101,115,101,116,40,49,32,43,32,40,115,104,105,102,116,32,107,32,61,62,32,107,32,40,107,32,49,48,41,41,41,59,
 32,125],())) λc=>ai (F14 n (c.1.1,[],())) λd=>ai (F21 n (c.1.1,d.1.1,[0,0,1,1,0,0,1],())) λe=>ai (F28 n (c.1.1,e.1.1,
 ())) λg=>ai (aeW n) λh=>ai (F14 n (h.1.1,[],())) λi=>ai (aeW n) λj=>ai (F32 n (j.1.1,i.1.1,0,())) λk=>au (aq
 (aa d.1.2.1 0)) (yL n) (au (aq (aa e.1.2.2.1 0)) (yL n) (au (aq (aa g.1.2.1 0)) (yL n) (au (aq (aa i.1.2.1 0))
 (yL n) (au (aq (aa k.1.2.2.2.1 0)) (yL n) (au (aq (aa (ax e.1.2.1) 7)) (yL n) (aK (aC 2 e.1.2.1) (ai (F25 n (5,())) λ
 l=>au (bP (aa (PE e).1 1) (bP (aa (PE e).2 22) (bP (aa (PE e).3 0) (bP (aa (PE e).4.1 l.1.1.1) (bP
 (aa (PE e).4.2 l.1.1.2) W))))) (aK (aC 5 e.1.2.1) (ai (F25 n (17,())) λm=>au (bP (aa (PD e).1 0) (bP (aa (PD
 e).2 0) (bP (aa (PD e).3 1) (bP (aa (PD e).4.1 m.1.1.1) (bP (aa (PD e).4.2 m.1.1.2) W))))) (au (aa (ax g.1.1.1)
 2) (ai (F25 n (1,())) λo=>au (bP (aa k.1.2.1.1 0) (bP (aa k.1.2.1.2 16) (bP (aa k.1.2.1.3 0) (bP (aa k.1.2.1.4.1
 o.1.1.1) (bP (aa k.1.2.1.4.2 o.1.1.2) W))))) (Z ((aa k.1.2.2.1 8,()),())) (yL n)) (yL n)) (yL n))) (yL n))))))))
def k13(n:Nat):OC:=⟨13,⟨[],K4,J,F13 n⟩,cM [k14 n,k21 n,k25 n,k28 n,k32 n,k45 n] [] n 10 13⟩
def F52:Y67:=
 λn b=>au (bA b.2.1 b.1) (Z ((bA b.1 b.2.2.1,()),())) (Z ((J,()),()))
def k52(n:Nat):OC:=⟨52,⟨P6,K4,J,F52 n⟩,cM [] [] n 10 52⟩
def F53:Nat->L cO×U->O fW:=
 λn b=>ai (aQ (Wn) (Bool×U) (U) (λc=>au (aD c.2.1 (ax b.1)) (aK (aC c.2.1 b.1) (ai (F93 n ((aZ b.1 (ak c.2.1)
 bM).1,())) λd=>au (aq d.1.1) (Z (X () (J,()))) (aK (aC c.2.1 b.1) (ai (F52 n ((aZ b.1 (ak c.2.1) bM).2,0,
 3,())) λe=>au (aq e.1.1) (Z (X () (J,()))) (aK (aC c.2.1 b.1) (aK (dB c.1 [(aZ b.1 (ak c.2.1) bM).1]) (Z
 (N (cX c.1 [(aZ b.1 (ak c.2.1) bM).1],aE .i64 c.2.1 1,()))))))))) (Z (H 0 c))) n ([],0,())) λc=>bp c (λ_ e
 =>au (bA (ax b.1) 20) (ai (F94 n (e.1,())) λg=>Z g) (Z ((J,()),()))) (λ_ e=>Z (e,())) λ_ _=>Y
def k53(n:Nat):OC:=⟨53,⟨al0,K4,J,F53 n⟩,cM [k52 n,k93 n,k94 n] [(53,0,⟨[(3,.one (.own (.str))),(4,dj)],[],[],0⟩)] n 10 53⟩
abbrev q95(F:Fn Wt K4 J):me sg:=⟨Wt,K4,J,F⟩
def PJ(n:Nat)(f95:Y50->O fW)(c:Y50):Bool×Int×U->O Y51:=
 λi=>au (aD i.2.1 (ax c.1.4)) (au i.1 (aK (aC i.2.1 c.1.4) (ai (f95 (aZ c.1.4 (ak i.2.1) aV,c.2)) λj=>Z (N
 (j.1.1,aE .i64 i.2.1 1,())))) (Z (H 0 i))) (Z (H 0 i))
def PI(n:Nat)(f95:Y50->O fW):Y51->O fW:=
 λi=>bp i (λ_ k=>Z ((k.1,()),())) (λ_ k=>Z (k,())) λ_ _=>Y
def B95:Nat->(Y50->O fW)->Y50->O fW:=
 λn f95 c=>ai (au (aa c.1.1 1) (Z (N (W,()))) (ai (au (aa c.1.1 2) (Z (N (W,()))) (Z (N (aa c.1.1
 5,())))) λ(d:HK)=>ck d (λe=>Z (N e)) (λ_ _=>Y) (λ_ g=>Z (X () g)) λ_ _=>Y)) λ(d:HK)=>
 ck d (λe=>ai (au e.1 (au (aa (ax c.1.4) 0) (Z (N (aa c.1.2 0,W,()))) (Z (N (J,W,())))) (ai (au
 (aa c.1.1 3) (au (aa (ax c.1.4) 0) (ai (F52 n (c.1.2,(-1000000000),1000000000,())) λg=>Z (N (g.1.1,W,()))) (Z
 (N (J,W,())))) (ai (au (aa c.1.1 4) (au (aa (ax c.1.4) 0) (ai (F52 n (c.1.2,0,1,())) λg=>Z (N (g.1.1,W,
 ()))) (Z (N (J,W,())))) (ai (au (aa c.1.1 6) (ai (F52 n (c.1.2,0,bS .i64 (ax c.2.1) 1,())) λg=>au g.1.1 (aK
 (aC c.1.2 c.2.1) (Z (N (aa (ax c.1.4) (aZ c.2.1 (ak c.1.2) bM).2,W,())))) (Z (N (J,W,())))) (Z
 (N (J,J,())))) λ(g:MI)=>ck g (λh=>Z (N (h.1,J,()))) (λ_ _=>Y) (λ_ i=>Z (X () i))
 λ_ _=>Y)) λ(g:MI)=>ck g (λh=>Z (N (h.1,J,()))) (λ_ _=>Y) (λ_ i=>Z (X () i)) λ_ _=>
 Y)) λ(g:MI)=>ck g (λh=>Z (N (h.1,J,()))) (λ_ _=>Y) (λ_ i=>Z (X () i)) λ_ _=>Y)) λ(g :
 MI)=>ck g (λh=>au h.1 (ai (aQ (Bool×Int×U) (Bool×U) (U) (PJ n f95 c) n (gG c.1.3 [],0,())) (PI n f95))
 (ai (aQ (Bool×Int×U) (Bool×U) (U) (PJ n f95 c) n (J,0,())) (PI n f95))) (λ_ _=>Y) (λ_ i=>Z (i,
 ())) λ_ _=>Y) (λ_ _=>Y) (λ_ g=>Z (g,())) λ_ _=>Y
def D95(n:Nat)(f95:Fn Wt K4 J)(a:bH prog 95 (q95 f95)):bH prog 95 (q95 (B95 n f95)):=cM [k52 n,⟨95,q95 f95,a⟩] [(95,1,⟨[(5,dn),(7,dj)],[],[],0⟩),(95,1000005,⟨[(13,dn)],[],[],0⟩),(95,1000006,⟨[(13,dn)],[],[],0⟩),(95,1000007,⟨[(5,dn),(13,dn)],[],[],0⟩),(95,1000009,⟨[(5,dn),(24,dn)],[],[],0⟩),(95,1000011,⟨[(5,dn),(33,dn)],[],[],0⟩),(95,1000013,⟨[(5,dn),(42,dn)],[],[],0⟩)] n 10 95
def R95(n k:Nat):(Fn Wt K4 J):=Nat.rec (motive:=λ_=>(Fn Wt K4 J)) (λ_=>Y) (λ_ r=>B95 n r) k
def F95(n:Nat):Fn Wt K4 J:=(R95 n n)
def amh(n:Nat):∀k,bH prog 95 (q95 (R95 n k))
 |0=>cw (enters 95 (by kernel_rfl))
 |k+1=>have a:=amh n k
  D95 n _ a
def k95(n:Nat):OC:=⟨95,q95 (F95 n),(amh n n)⟩
def HN(n:Nat):RO->O RO:=
 λc=>ck c (λd=>Z (N d)) (λ_ _=>Y) (λ_ e=>Z (X () e)) λ_ _=>Y
def Bl(n:Nat):RO->O RO:=
 λe=>ck e (λg=>Z (N g)) (λ_ _=>Y) (λ_ h=>Z (X () h)) λ_ _=>Y
def Bj(n:Nat):RO->O RO:=
 λh=>ck h (λi=>Z (N i)) (λ_ _=>Y) (λ_ j=>Z (X () j)) λ_ _=>Y
def F96:Nat->Y66->Iq:=
 λn b=>ai (au (aa b.1 1) (Z (N (W,()))) (ai (au (aa b.1 2) (Z (N (W,()))) (ai (au (aa b.1 3) (Z
 (N (W,()))) (ai (au (aa b.1 4) (Z (N (W,()))) (ai (au (aa b.1 21) (Z (N (W,()))) (ai (au (aa b.1 25)
 (Z (N (W,()))) (Z (N (aa b.1 28,())))) (HN n))) (HN n))) (HN n))) (HN n))) (HN n))) λ(c:RO)=>ck c
 (λd=>au d.1 (Z ((0,()),())) (ai (au (aa b.1 5) (Z (N (W,()))) (ai (au (aa b.1 27) (Z (N (W,()))) (ai
 (au (aa b.1 16) (Z (N (W,()))) (ai (au (aa b.1 17) (Z (N (W,()))) (ai (au (aa b.1 19) (Z (N (W,
 ()))) (ai (au (aa b.1 20) (Z (N (W,()))) (ai (au (aa b.1 23) (Z (N (W,()))) (ai (au (aa b.1 26) (Z (N
 (W,()))) (Z (N (aa b.1 24,())))) (Bl n))) (Bl n))) (Bl n))) (Bl n))) (Bl n))) (Bl n))) (Bl n))) λ(e:RO)=>
 ck e (λg=>au g.1 (Z ((1,()),())) (ai (au (aa b.1 6) (Z (N (W,()))) (ai (au (aa b.1 7) (Z (N (W,())))
 (ai (au (aa b.1 9) (Z (N (W,()))) (ai (au (aa b.1 10) (Z (N (W,()))) (ai (au (aa b.1 11) (Z (N (W,
 ()))) (ai (au (aa b.1 12) (Z (N (W,()))) (ai (au (aa b.1 13) (Z (N (W,()))) (ai (au (aa b.1 18) (Z (N
 (W,()))) (Z (N (aa b.1 22,())))) (Bj n))) (Bj n))) (Bj n))) (Bj n))) (Bj n))) (Bj n))) (Bj n))) λ(h:RO)=>
 ck h (λi=>au i.1 (Z ((2,()),())) (au (aa b.1 8) (Z ((3,()),())) (au (aa b.1 15) (Z ((aE .i64 1 b.2.1,()),())) (au
 (aa b.1 14) (Z (b.2.2,())) (Z (((-1),()),())))))) (λ_ _=>Y) (λ_ j=>Z (j,())) λ_ _=>Y)) (λ_ _=>Y) (λ_ h
 =>Z (h,())) λ_ _=>Y)) (λ_ _=>Y) (λ_ e=>Z (e,())) λ_ _=>Y
def k96(n:Nat):OC:=⟨96,⟨P6,K2,J,F96 n⟩,cM [] [(96,1000003,⟨[(8,dn)],[],[],0⟩),(96,1000004,⟨[(8,dn)],[],[],0⟩),(96,1000005,⟨[(8,dn)],[],[],0⟩),(96,1000006,⟨[(8,dn)],[],[],0⟩),(96,1000007,⟨[(8,dn)],[],[],0⟩),(96,1000008,⟨[(8,dn)],[],[],0⟩),(96,1000011,⟨[(16,dn)],[],[],0⟩),(96,1000012,⟨[(16,dn)],[],[],0⟩),(96,1000013,⟨[(16,dn)],[],[],0⟩),(96,1000014,⟨[(16,dn)],[],[],0⟩),(96,1000015,⟨[(16,dn)],[],[],0⟩),(96,1000016,⟨[(16,dn)],[],[],0⟩),(96,1000017,⟨[(16,dn)],[],[],0⟩),(96,1000018,⟨[(16,dn)],[],[],0⟩),(96,1000021,⟨[(26,dn)],[],[],0⟩),(96,1000022,⟨[(26,dn)],[],[],0⟩),(96,1000023,⟨[(26,dn)],[],[],0⟩),(96,1000024,⟨[(26,dn)],[],[],0⟩),(96,1000025,⟨[(26,dn)],[],[],0⟩),(96,1000026,⟨[(26,dn)],[],[],0⟩),(96,1000027,⟨[(26,dn)],[],[],0⟩),(96,1000028,⟨[(26,dn)],[],[],0⟩)] n 10 96⟩
def F54:Nat->az×bw×U->O fW:=
 λn b=>ai (au (aa b.2.1.1 1) (ai (F52 n (b.2.1.2,(-1000000000),1000000000,())) λc=>Z (N (0,c.1.1,W,()))) (ai (au
 (aa b.2.1.1 2) (ai (F52 n (b.2.1.2,0,1,())) λc=>Z (N (0,c.1.1,W,()))) (ai (au (aa b.2.1.1 4) (ai (F52 n (b.2.1.2,
 Ih .i64 (ax b.1.2),29,())) λc=>Z (N (0,c.1.1,W,()))) (ai (au (aa b.2.1.1 24) (ai (F52 n (b.2.1.2,0,3,())) λc=>
 Z (N (0,c.1.1,W,()))) (ai (au (aa b.2.1.1 14) (ai (F52 n (b.2.1.2,0,bS .i64 (ax b.1.4) 1,())) λc=>ai (au c.1.1
 (aK (aC b.2.1.2 b.1.4) (Z (N ((aZ b.1.4 (ak b.2.1.2) bM).2,W,())))) (Z (N (0,J,())))) λ(d:LO (Int×Bool
 ×U) (Bool×U) U Any)=>ck d (λe=>Z (N (e.1,c.1.1,W,()))) (λ_ _=>Y) (λ_ g=>Z (X () g)) λ_ _
 =>Y) (Z (N (0,aa b.2.1.2 0,J,())))) λ(c:Y68)=>ck c (λd=>Z (N (d.1,d.2.1,J,()))) (λ_ _=>Y)
 (λ_ e=>Z (X () e)) λ_ _=>Y)) λ(c:Y68)=>ck c (λd=>Z (N (d.1,d.2.1,J,()))) (λ_ _=>Y) (λ_ e
 =>Z (X () e)) λ_ _=>Y)) λ(c:Y68)=>ck c (λd=>Z (N (d.1,d.2.1,J,()))) (λ_ _=>Y) (λ_ e=>Z
 (X () e)) λ_ _=>Y)) λ(c:Y68)=>ck c (λd=>Z (N (d.1,d.2.1,J,()))) (λ_ _=>Y) (λ_ e=>Z (X
 () e)) λ_ _=>Y)) λ(c:Y68)=>ck c (λd=>ai (au (aa b.2.1.1 15) (au d.2.1 (ai (F52 n (ax b.2.1.4,1,5,())) λe=>Z
 (N (e.1.1,W,()))) (Z (N (J,W,())))) (au d.2.1 (Z (N (aa (ax b.2.1.4) 0,J,()))) (Z (N (J,
 J,()))))) λ(e:MI)=>ck e (λg=>ai (aQ (Bool×Int×U) (Bool×U) (U) (λh=>au (aD h.2.1 (ax b.2.1.4))
 (au h.1 (aK (aC h.2.1 b.2.1.4) (ai (F83 n (aZ b.2.1.4 (ak h.2.1) aV,12,())) λi=>au (bA 0 i.1.1) (aK (aC h.2.1 b.2.1.4) (ai
 (F95 n (aZ b.2.1.4 (ak h.2.1) aV,b.1.4,())) λj=>Z (N (j.1.1,aE .i64 h.2.1 1,())))) (Z (N (J,aE .i64
 h.2.1 1,()))))) (Z (H 0 h))) (Z (H 0 h))) n (g.1,0,())) λh=>bp h (λ_ j=>au j.1 (ai (F96 n (b.2.1.1,ax b.2.1.4,
 d.1,())) λk=>Z ((aa (ax b.2.1.3) k.1.1,()),())) (Z ((J,()),()))) (λ_ j=>Z (j,())) λ_ _=>Y) (λ_ _=>Y)
 (λ_ h=>Z (h,())) λ_ _=>Y) (λ_ _=>Y) (λ_ e=>Z (e,())) λ_ _=>Y
def k54(n:Nat):OC:=⟨54,⟨asW,K4,J,F54 n⟩,cM [k52 n,k83 n,k95 n,k96 n] [(54,1,⟨[(6,dn),(7,dj)],[],[],0⟩),(54,1000005,⟨[(5,dj),(6,dn),(13,dn)],[],[],0⟩),(54,1000007,⟨[(5,dj),(6,dn),(18,dn)],[],[],0⟩),(54,1000009,⟨[(5,dj),(6,dn),(23,dn)],[],[],0⟩),(54,1000011,⟨[(5,dj),(6,dn),(32,dn)],[],[],0⟩),(54,1000013,⟨[(5,dj),(6,dn),(37,dn)],[],[],0⟩),(54,1000015,⟨[(5,dj),(46,dn)],[],[],0⟩),(54,1000017,⟨[(6,dn),(56,dn)],[],[],0⟩)] n 10 54⟩
def DK(b:az×U)(j:aan)(l:aan):Int:=
 aZ (aZ b.1.1 (ak j.2.1) aW).3 (ak l.2.1) 0
def F15:Y81:=
 λn b=>au (aD 300 (ax b.1.1)) (Z ((J,()),())) (ai (F52 n (ax b.1.2,1,ax b.1.1,())) λc=>au (aq c.1.1) (Z
 ((J,()),())) (ai (F52 n (b.1.3,0,bS .i64 (ax b.1.2) 1,())) λd=>au (aq d.1.1) (Z ((J,()),())) (ai (F53 n (b.1.4,
 ())) λe=>au (aq e.1.1) (Z ((J,()),())) (aK (Ec (mkN (ax b.1.1)) (iT (ax b.1.1) (ax b.1.1))) (ai (aQ (aan) (Bool×
 U) (U) (λg=>au (aD g.2.1 (ax b.1.2)) (aK (aC g.2.1 b.1.2) (ai (F52 n (aZ b.1.2 (ak g.2.1) 0,0,bS .i64 (ax b.1.1)
 1,())) λh=>au (aq h.1.1) (Z (X () (J,()))) (aK (aC g.2.1 b.1.2) (aK (aC (aZ b.1.2 (ak g.2.1) 0) g.1) (aK (cJ (ak
 (aZ b.1.2 (ak g.2.1) 0)) g.1) (au (aZ g.1 (ak (aZ b.1.2 (ak g.2.1) 0)) J) (Z (X () (J,()))) (aK (aC g.2.1 b.1.2) (aK
 (aC (aZ b.1.2 (ak g.2.1) 0) g.1) (aK (cJ (ak (aZ b.1.2 (ak g.2.1) 0)) g.1) (Z (N (eg g.1 (ak (aZ b.1.2 (ak g.2.1) 0))
 W,aE .i64 g.2.1 1,())))))))))))) (Z (H 0 g))) n (KJ (ak (ax b.1.1)) J,0,())) λg=>bp g (λ_ i=>ai (aQ (aan) (Bool×U) (U) (λj=>au (aD j.2.1 (ax b.1.1)) (aK (aC j.2.1 b.1.1) (ai (F54 n (b.1,aZ b.1.1 (ak j.2.1) aW,()))
 λk=>au (aq k.1.1) (Z (X () (J,()))) (ai (aQ (aan) (Bool×U) (U) (λl=>aK (aC j.2.1 b.1.1) (au (aD
 l.2.1 (ax (aZ b.1.1 (ak j.2.1) aW).3)) (aK (aC j.2.1 b.1.1) (aK (aC l.2.1 (aZ b.1.1 (ak j.2.1) aW).3) (ai (F52 n (DK b
 j l,aE .i64 j.2.1 1,bS .i64 (ax b.1.1) 1,())) λm=>au (aq m.1.1) (Z (X () (J,()))) (aK (aC (DK b j l) l.1) (aK
 (cJ (ak (DK b j l)) l.1) (au (aZ l.1 (ak (DK b j l)) J) (Z (X () (J,()))) (aK (aC (DK b j l) l.1) (aK (cJ (ak
 (DK b j l)) l.1) (Z (N (eg l.1 (ak (DK b j l)) W,aE .i64 l.2.1 1,()))))))))))) (Z (H 0 l)))) n (j.1,0,())) λl
 =>bp l (λ_ o=>Z (N (o.1,aE .i64 j.2.1 1,()))) (λ_ o=>Z (X () o)) λ_ _=>Y))) (Z (H 0 j))) n (i.1,0,
 ())) λj=>bp j (λ_ l=>ai (aQ (Int×U) (Bool×U) (U) (λm=>au (aD m.1 (ax b.1.1)) (aK (aC m.1 l.1) (aK
 (cJ (ak m.1) l.1) (au (aq (aZ l.1 (ak m.1) J)) (Z (X () (J,()))) (Z (N (aE .i64 m.1 1,())))))) (Z (H
 0 m))) n (0,())) λm=>bp m (λ_ _=>Z ((W,()),())) (λ_ p=>Z (p,())) λ_ _=>Y) (λ_ l=>Z (l,())) λ_ _=>
 Y) (λ_ i=>Z (i,())) λ_ _=>Y)))))
def k15(n:Nat):OC:=⟨15,⟨P5,K4,J,F15 n⟩,cM [k52 n,k53 n,k54 n] [(15,0,⟨[(4,.one (.own (.bool))),(5,dj)],[],[],0⟩),(15,2,⟨[(4,.one (.own (.bool))),(6,dj)],[],[],0⟩),(15,4,⟨[(4,.one (.own (.bool))),(7,dj)],[],[],0⟩),(15,6,⟨[(9,dj)],[],[],0⟩)] n 10 15⟩
def F55:Y67:=
 λn b=>au (bA b.2.1 b.1) (Z ((bA b.1 b.2.2.1,()),())) (Z ((J,()),()))
def k55(n:Nat):OC:=⟨55,⟨P6,K4,J,F55 n⟩,cM [] [] n 10 55⟩
def F16:alN:=
 λn b=>ai (aQ (Int×U) (Bool×U) (U) (λc=>au (aD c.1 (ax b.1)) (au (bA c.1 b.2.1) (aK (aC c.1 b.1) (ai (F55
 n (aZ b.1 (ak c.1) 0,(-1000000000),1000000000,())) λd=>au (aq d.1.1) (Z (X () (J,()))) (Z (N (aE .i64 c.1 1,
 ()))))) (Z (H 0 c))) (Z (H 0 c))) n (0,())) λc=>bp c (λ_ _=>Z ((bA (ax b.1) b.2.1,()),())) (λ_ e=>Z (e,
 ())) λ_ _=>Y
def k16(n:Nat):OC:=⟨16,⟨alZ,K4,J,F16 n⟩,cM [k55 n] [(16,0,⟨[(5,dj)],[],[],0⟩)] n 10 16⟩
def F26:Nat->L Int×L Int×U->O fW:=
 λn b=>au (aq (aa (ax b.1) (ax b.2.1))) (Z ((J,()),())) (ai (aQ (Int×U) (Bool×U) (U) (λc=>au
 (aD c.1 (ax b.1)) (aK (aC c.1 b.1) (aK (aC c.1 b.2.1) (au (aq (aa (aZ b.1 (ak c.1) 0) (aZ b.2.1 (ak c.1) 0))) (Z (X ()
 (J,()))) (Z (N (aE .i64 c.1 1,())))))) (Z (H 0 c))) n (0,())) λc=>bp c (λ_ _=>Z ((W,()),())) (λ_ e
 =>Z (e,())) λ_ _=>Y)
def k26(n:Nat):OC:=⟨26,⟨asV,K4,J,F26 n⟩,cM [] [(26,0,⟨[(5,dj)],[],[],0⟩)] n 10 26⟩
def F27:Nat->L ef×L ef×U->O fW:=
 λn b=>au (aq (aa (ax b.1) (ax b.2.1))) (Z ((J,()),())) (ai (aQ (Int×U) (Bool×U) (U) (λc=>au
 (aD c.1 (ax b.1)) (aK (aC c.1 b.1) (aK (aC c.1 b.2.1) (au (aq (bP (aa (aZ b.1 (ak c.1) eS).1 (aZ b.2.1 (ak c.1)
 eS).1) (bP (aa (aZ b.1 (ak c.1) eS).2 (aZ b.2.1 (ak c.1) eS).2) W))) (Z (X () (J,()))) (Z (N
 (aE .i64 c.1 1,())))))) (Z (H 0 c))) n (0,())) λc=>bp c (λ_ _=>Z ((W,()),())) (λ_ e=>Z (e,())) λ_ _=>
 Y)
def k27(n:Nat):OC:=⟨27,⟨asU,K4,J,F27 n⟩,cM [] [(27,0,⟨[(5,dj)],[],[],0⟩)] n 10 27⟩
def F98:Nat->Y97->O fW:=
 λn b=>au (aq (aa (ax b.1) (ax b.2.1))) (Z ((J,()),())) (ai (aQ (Int×U) (Bool×U) (U) (λc=>au
 (aD c.1 (ax b.1)) (aK (aC c.1 b.1) (aK (aC c.1 b.2.1) (au (aq (bP (aa (aZ b.1 (ak c.1) aA).1 (aZ b.2.1 (ak c.1)
 aA).1) (bP (aa (aZ b.1 (ak c.1) aA).2 (aZ b.2.1 (ak c.1) aA).2) W))) (Z (X () (J,()))) (Z (N
 (aE .i64 c.1 1,())))))) (Z (H 0 c))) n (0,())) λc=>bp c (λ_ _=>Z ((W,()),())) (λ_ e=>Z (e,())) λ_ _=>
 Y)
def k98(n:Nat):OC:=⟨98,⟨P34,K4,J,F98 n⟩,cM [] [(98,0,⟨[(5,dj)],[],[],0⟩)] n 10 98⟩
def F57:alz:=
 λn b=>au (aq (aa b.1.1 b.2.1.1)) (Z ((J,()),())) (au (aq (aa b.1.2 b.2.1.2)) (Z ((J,()),())) (ai (F98 n (b.1.3,
 b.2.1.3,())) λc=>au (aq c.1.1) (Z ((J,()),())) (au (aq (aa (ax b.1.4) (ax b.2.1.4))) (Z ((J,()),())) (ai
 (aQ (Int×U) (Bool×U) (U) (λd=>au (aD d.1 (ax b.1.4)) (aK (aC d.1 b.1.4) (aK (aC d.1 b.2.1.4) (au (aq (aa
 (aZ b.1.4 (ak d.1) aH).1 (aZ b.2.1.4 (ak d.1) aH).1)) (Z (X () (J,()))) (ai (F98 n ((aZ b.1.4 (ak d.1)
 aH).2,(aZ b.2.1.4 (ak d.1) aH).2,())) λe=>au (aq e.1.1) (Z (X () (J,()))) (ai (F98 n ((aZ b.1.4 (ak
 d.1) aH).3,(aZ b.2.1.4 (ak d.1) aH).3,())) λg=>au (aq g.1.1) (Z (X () (J,()))) (Z (N (aE .i64
 d.1 1,())))))))) (Z (H 0 d))) n (0,())) λd=>bp d (λ_ _=>Z ((W,()),())) (λ_ g=>Z (g,())) λ_ _=>Y))))
def k57(n:Nat):OC:=⟨57,⟨alY,K4,J,F57 n⟩,cM [k98 n] [(57,0,⟨[(5,dj)],[],[],0⟩)] n 10 57⟩
def Km(n:Nat):O fW:=
 Z ((J,()),())
def F19:ase:=
 λn b=>au (aq (aa (ax b.1.1) (ax b.2.1.1))) (Km n) (ai (F26 n (b.1.2,b.2.1.2,())) λc=>au (aq c.1.1) (Km n) (ai (F27
 n (b.1.3,b.2.1.3,())) λd=>au (aq d.1.1) (Km n) (ai (F26 n (b.1.4,b.2.1.4,())) λe=>au (aq e.1.1) (Km n) (au (aq
 (aa b.1.5 b.2.1.5)) (Km n) (ai (aQ (Int×U) (Bool×U) (U) (λg=>au (aD g.1 (ax b.1.1)) (aK (aC g.1 b.1.1) (aK
 (aC g.1 b.2.1.1) (ai (F57 n (aZ b.1.1 (ak g.1) aO,aZ b.2.1.1 (ak g.1) aO,())) λh=>au (aq h.1.1) (Z (X ()
 (J,()))) (Z (N (aE .i64 g.1 1,())))))) (Z (H 0 g))) n (0,())) λg=>bp g (λ_ _=>Z ((W,()),())) (λ_ i
 =>Z (i,())) λ_ _=>Y)))))
def k19(n:Nat):OC:=⟨19,⟨asT,K4,J,F19 n⟩,cM [k26 n,k27 n,k57 n] [(19,0,⟨[(5,dj)],[],[],0⟩)] n 10 19⟩
def F117:ahr:=
 λn b=>Z ((aj.mk 5 b.1,()),())
def YC(n:Nat):OC:=⟨117,⟨P11,K17,J,F117 n⟩,cM [] [] n 10 117⟩
def F73:Y60:=
 λn b=>au (aa b.1.1 4) (ai (F117 n (0,())) λc=>Z c) (au (aa b.1.1 5) (ai (F117 n (0,())) λc=>Z c) (Z (b,())))
def k73(n:Nat):OC:=⟨73,⟨P22,K17,J,F73 n⟩,cM [YC n] [] n 10 73⟩
def F74:Nat->L aj×aj×U->O Y44:=
 λn b=>aK (dB b.1 [b.2.1]) (Z ((cX b.1 [b.2.1],()),()))
def k74(n:Nat):OC:=⟨74,⟨asS,K35,J,F74 n⟩,cM [] [] n 10 74⟩
def Ki(n:Nat):RO->O RO:=
 λc=>ck c (λd=>Z (N d)) (λ_ _=>Y) (λ_ e=>Z (X () e)) λ_ _=>Y
def yF(n:Nat):Iq:=
 Z ((1,()),())
def F75:Y16:=
 λn b=>ai (au (aa b.1.1 6) (Z (N (W,()))) (ai (au (aa b.1.1 9) (Z (N (W,()))) (ai (au (aa b.1.1 10) (Z
 (N (W,()))) (ai (au (aa b.1.1 11) (Z (N (W,()))) (ai (au (aa b.1.1 12) (Z (N (W,()))) (ai (au (aa
 b.1.1 13) (Z (N (W,()))) (ai (au (aa b.1.1 18) (Z (N (W,()))) (Z (N (aa b.1.1 22,())))) (Ki n))) (Ki
 n))) (Ki n))) (Ki n))) (Ki n))) (Ki n))) λ(c:RO)=>ck c (λd=>au d.1 (Z ((2,()),())) (au (aa b.1.1 14) (Z ((ax
 b.1.3,()),())) (au (aa b.1.1 7) (yF n) (au (aa b.1.1 8) (yF n) (au (aa b.1.1 15) (yF n) (au (aa b.1.1 16) (yF n) (au
 (aa b.1.1 17) (yF n) (au (aa b.1.1 19) (yF n) (au (aa b.1.1 20) (yF n) (au (aa b.1.1 23) (yF n) (au (aa b.1.1 24) (yF
 n) (au (aa b.1.1 26) (yF n) (Z ((0,()),())))))))))))))) (λ_ _=>Y) (λ_ e=>Z (e,())) λ_ _=>Y
def k75(n:Nat):OC:=⟨75,⟨P27,K2,J,F75 n⟩,cM [] [(75,1000003,⟨[(5,dn)],[],[],0⟩),(75,1000004,⟨[(5,dn)],[],[],0⟩),(75,1000005,⟨[(5,dn)],[],[],0⟩),(75,1000006,⟨[(5,dn)],[],[],0⟩),(75,1000007,⟨[(5,dn)],[],[],0⟩),(75,1000008,⟨[(5,dn)],[],[],0⟩),(75,1000009,⟨[(5,dn)],[],[],0⟩)] n 10 75⟩
def aaG(n:Nat)(b:Y85):O Kf:=
 aK (aC b.2.1 b.1.2) (aK (aC (aZ b.1.2 (ak b.2.1) 0) b.1.1) (aK (cJ (ak (aZ b.1.2 (ak b.2.1) 0)) b.1.1) (Z ((aF.mk
 (af.mk (eg b.1.1 (ak (aZ b.1.2 (ak b.2.1) 0)) (aB.mk 6 4 [] [])) b.1.2 b.1.3 b.1.4 b.1.5) 1 (aN.mk b.2.1 0 4 aA),()),
 ()))))
def F76:Y86:=
 λn b=>au (bA 40 (ax b.2.2.1)) (aaG n b) (au (aD 30 (ax b.2.2.2.2.1)) (aaG n b) (aK (dB b.2.2.1 [av.mk b.2.2.2.1
 b.2.2.2.2.1 []]) (aK (aC b.2.1 b.1.2) (aK (aC (aZ b.1.2 (ak b.2.1) 0) b.1.1) (aK (cJ (ak (aZ b.1.2 (ak b.2.1) 0)) b.1.1) (Z
 ((aF.mk (af.mk (eg b.1.1 (ak (aZ b.1.2 (ak b.2.1) 0)) (aB.mk 6 0 [] (cX b.2.2.1 [av.mk b.2.2.2.1 b.2.2.2.2.1
 []]))) b.1.2 b.1.3 b.1.4 b.1.5) 0 br,()),())))))))
def k76(n:Nat):OC:=⟨76,⟨ahH,K121,J,F76 n⟩,cM [] [] n 10 76⟩
def F97:Y57:=
 λn _=>Z ((aj.mk 3 0,()),())
def k97(n:Nat):OC:=⟨97,⟨[],K17,J,F97 n⟩,cM [] [] n 10 97⟩
def F120:alG:=
 λn b=>au b.1 (Z ((aj.mk 2 1,()),())) (Z ((aj.mk 2 0,()),()))
def af1(n:Nat):OC:=⟨120,⟨P31,K17,J,F120 n⟩,cM [] [] n 10 120⟩
def F176:Nat->af×aj×Int×U->O (Y34×U):=
 λn b=>au (aq (aa b.2.1.1 5)) (Z ((aO,J,()),())) (aK (aC b.2.1.2 b.1.1) (au (aq (aa (aZ b.1.1 (ak b.2.1.2)
 aO).1 b.2.2.1)) (Z ((aO,J,()),())) (aK (aC b.2.1.2 b.1.1) (Z ((aZ b.1.1 (ak b.2.1.2) aO,W,()),())))))
def QZ(n:Nat):OC:=⟨176,⟨asR,K37,J,F176 n⟩,cM [] [] n 10 176⟩
def F177:Nat->az×af×aj×aj×U->O (Y54×U):=
 λn b=>au (aa b.2.2.1.1 4) (aK (aC b.2.2.1.2 b.1.2) (Z ((av.mk (aZ b.1.2 (ak b.2.2.1.2) 0) [b.2.2.2.1] [],W,()),())))
 (ai (F176 n (b.2.1,b.2.2.1,2,())) λc=>au (aq c.1.2.1) (Z ((aH,J,()),())) (aK (aC c.1.1.2 b.1.1) (aK (aC 0 (aZ
 b.1.1 (ak c.1.1.2) aW).3) (ai (F74 n (c.1.1.3,b.2.2.2)) λd=>Z ((av.mk (aZ (aZ b.1.1 (ak c.1.1.2) aW).3 (ak 0) 0)
 d.1.1 [],W,()),())))))
def ajl(n:Nat):OC:=⟨177,⟨asQ,K39,J,F177 n⟩,cM [k74 n,QZ n] [] n 10 177⟩
def Mu(b:ahq):Bool:=
 aC (aZ b.2.1.2 (ak b.2.2.1) 0) b.2.1.1
def zJ(b:ahq):Nat:=
 ak (aZ b.2.1.2 (ak b.2.2.1) 0)
def F122:Nat->ahq->O Kf:=
 λn b=>ai (F176 n (b.2.1,b.2.2.2.2.1,5,())) λc=>au c.1.2.1 (aK (dB b.2.2.2.1 c.1.1.4) (au (aD 40 (ax (cX b.2.2.2.1 c.1.1.4)))
 (aK (aC b.2.2.1 b.2.1.2) (aK (Mu b) (aK (cJ (zJ b) b.2.1.1) (Z ((aF.mk (af.mk (eg b.2.1.1 (zJ b) (aB.mk
 6 4 [] [])) b.2.1.2 b.2.1.3 b.2.1.4 b.2.1.5) 1 (aN.mk b.2.2.1 0 4 aA),()),()))))) (aK (aC b.2.2.1 b.2.1.2) (aK (Mu b) (aK (cJ
 (zJ b) b.2.1.1) (Z ((aF.mk (af.mk (eg b.2.1.1 (zJ b) (aB.mk 6 0 [b.2.2.2.2.2.1] (cX b.2.2.2.1 c.1.1.4))) b.2.1.2
 b.2.1.3 b.2.1.4 b.2.1.5) 0 br,()),()))))))) (ai (F177 n (b.1,b.2.1,b.2.2.2.2)) λd=>au (aq d.1.2.1) (aK (aC b.2.2.1 b.2.1.2)
 (aK (Mu b) (aK (cJ (zJ b) b.2.1.1) (Z ((aF.mk (af.mk (eg b.2.1.1 (zJ b) (aB.mk 6 2 [] [])) b.2.1.2 b.2.1.3
 b.2.1.4 b.2.1.5) 1 (aN.mk b.2.2.1 0 2 aA),()),()))))) (ai (F76 n (b.2.1,b.2.2.1,b.2.2.2.1,d.1.1.1,d.1.1.2,())) λe=>Z e))
def apC(n:Nat):OC:=⟨122,⟨asP,K121,J,F122 n⟩,cM [k76 n,QZ n,ajl n] [] n 10 122⟩
def Mt(b:aap):Bool:=
 aC (aZ b.1.2 (ak b.2.1) 0) b.1.1
def zI(b:aap):Nat:=
 ak (aZ b.1.2 (ak b.2.1) 0)
def Ig(n:Nat)(b:aap):O Kf:=
 aK (aC b.2.1 b.1.2) (aK (Mt b) (aK (cJ (zI b) b.1.1) (Z ((aF.mk (af.mk (eg b.1.1 (zI b) (aB.mk 6 2 []
 [])) b.1.2 b.1.3 b.1.4 b.1.5) 1 (aN.mk b.2.1 0 2 aA),()),()))))
def Ms(n:Nat)(b:aap):Wl->O Kf:=
 λc=>aK (aC b.2.1 b.1.2) (aK (Mt b) (aK (cJ (zI b) b.1.1) (Z ((aF.mk (af.mk (eg b.1.1 (zI b) (aB.mk
 6 0 [c.1.1] b.2.2.1)) b.1.2 b.1.3 b.1.4 b.1.5) 0 br,()),()))))
def F123:Nat->aap->O Kf:=
 λn b=>au (aa b.2.2.2.1 13) (au (aq (aa b.2.2.2.2.1.1 b.2.2.2.2.2.1.1)) (Ig n b) (au (aD 3 b.2.2.2.2.1.1) (Ig n b) (ai
 (F120 n (bP (aa b.2.2.2.2.1.1 b.2.2.2.2.2.1.1) (bP (aa b.2.2.2.2.1.2 b.2.2.2.2.2.1.2) W),())) (Ms n b)))) (au (aq (aa
 b.2.2.2.2.1.1 1)) (Ig n b) (au (aq (aa b.2.2.2.2.2.1.1 1)) (Ig n b) (au (aa b.2.2.2.1 12) (ai (F120 n (aD b.2.2.2.2.1.2
 b.2.2.2.2.2.1.2,())) (Ms n b)) (ai (au (aa b.2.2.2.1 9) (Z (N (aE .i64 b.2.2.2.2.1.2 b.2.2.2.2.2.1.2,W,()))) (ai (au
 (aa b.2.2.2.1 10) (Z (N (bS .i64 b.2.2.2.2.1.2 b.2.2.2.2.2.1.2,W,()))) (ai (au (aa b.2.2.2.1 11) (Z (N (Ii .i64
 b.2.2.2.2.1.2 b.2.2.2.2.2.1.2,W,()))) (Z (N (0,J,())))) λ(c:adT)=>ck c (λd=>Z (N (d.1,J,()))) (λ_
 _=>Y) (λ_ _=>Z (X () ())) λ_ _=>Y)) λ(c:adT)=>ck c (λd=>Z (N (d.1,J,()))) (λ_ _=>Y)
 (λ_ _=>Z (X () ())) λ_ _=>Y)) λ(c:adT)=>ck c (λd=>ai (F55 n (d.1,(-1000000000),1000000000,())) λe=>au
 (aq e.1.1) (aK (aC b.2.1 b.1.2) (aK (Mt b) (aK (cJ (zI b) b.1.1) (Z ((aF.mk (af.mk (eg b.1.1 (zI b)
 (aB.mk 6 4 [] [])) b.1.2 b.1.3 b.1.4 b.1.5) 1 (aN.mk b.2.1 0 4 aA),()),()))))) (ai (F25 n (d.1,())) (Ms n b))) (λ_ _=>
 Y) (λ_ _=>Z ((jE,()),())) λ_ _=>Y))))
def apB(n:Nat):OC:=⟨123,⟨asO,K121,J,F123 n⟩,cM [k25 n,k55 n,af1 n] [(123,1000012,⟨[(13,dj),(61,dn)],[],[],0⟩),(123,1000014,⟨[(13,dj),(68,dn)],[],[],0⟩),(123,1000016,⟨[(13,dj),(75,dn)],[],[],0⟩)] n 10 123⟩
abbrev XJ(F:Fn Ws K127 J):me sg:=⟨Ws,K127,J,F⟩
def CH(n:Nat)(f178:adR->adQ)(c:adR):Wl->adQ:=
 λd=>Z (([],bP (aa c.2.2.1.1 d.1.1.1) (bP (aa c.2.2.1.2 d.1.1.2) W),()),())
def B178:Nat->(adR->adQ)->adR->adQ:=
 λn f178 c=>au (aa c.2.1.1 1) (Z (([],W,()),())) (au (aa c.2.1.1 2) (Z (([c.2.2.1],W,()),())) (au (aa c.2.1.1 3) (ai
 (F25 n (c.2.1.2,())) (CH n f178 c)) (au (aa c.2.1.1 4) (ai (F120 n (aa c.2.1.2 1,())) (CH n f178 c)) (au (aa c.2.1.1 5) (ai (F97
 n ()) (CH n f178 c)) (ai (F176 n (c.1,c.2.2.1,1,())) λd=>au (aq d.1.2.1) (Z (([],J,()),())) (au (aq (aa d.1.1.2
 c.2.1.2)) (Z (([],J,()),())) (au (aq (aa (ax d.1.1.3) (ax c.2.1.4))) (Z (([],J,()),())) (ai (aQ (PT) (alK) (U) (λe=>au (aD e.2.1 (ax c.2.1.4)) (aK (aC e.2.1 c.2.1.4) (aK (aC e.2.1 d.1.1.3) (ai (f178 (c.1,aZ c.2.1.4 (ak e.2.1)
 aV,aZ d.1.1.3 (ak e.2.1) aA,())) λg=>au (aq g.1.2.1) (Z (X () ([],J,()))) (aK (dB e.1 g.1.1) (Z (N
 (cX e.1 g.1.1,aE .i64 e.2.1 1,()))))))) (Z (H 0 e))) n ([],0,())) λe=>bp e (λ_ h=>Z ((h.1,W,()),())) (λ_ h=>
 Z (h,())) λ_ _=>Y))))))))
def D178(n:Nat)(f178:Fn Ws K127 J)(a:bH prog 178 (XJ f178)):bH prog 178 (XJ (B178 n f178)):=cM [k25 n,k97 n,af1 n,QZ n,⟨178,XJ f178,a⟩] [(178,1,⟨[(10,.one (.own (.st 4))),(11,dj)],[],[],0⟩)] n 10 178
def R178(n k:Nat):(Fn Ws K127 J):=Nat.rec (motive:=λ_=>(Fn Ws K127 J)) (λ_=>Y) (λ_ r=>B178 n r) k
def F178(n:Nat):Fn Ws K127 J:=(R178 n n)
def afd(n:Nat):∀k,bH prog 178 (XJ (R178 n k))
 |0=>cw (enters 178 (by kernel_rfl))
 |k+1=>have a:=afd n k
  D178 n _ a
def apb(n:Nat):OC:=⟨178,XJ (F178 n),(afd n n)⟩
def F124:Nat->af×Int×L av×bw×L aj×aj×U->O Kf:=
 λn b=>ai (aQ (Int×Y70×U) (U) (Y70×U) (λc=>au (aD c.1 (ax b.2.2.2.1.4)) (aK (aC c.1 b.2.2.2.1.4) (ai (F178
 n (b.1,aZ b.2.2.2.1.4 (ak c.1) aV,b.2.2.2.2.2)) λd=>au d.1.2.1 (aK (aC (aE .i64 1 c.1) b.2.2.2.1.3) (aK (dB b.2.2.2.2.1
 d.1.1) (ai (F76 n (b.1,b.2.1,b.2.2.1,aZ b.2.2.2.1.3 (ak (aE .i64 1 c.1)) 0,cX b.2.2.2.2.1 d.1.1,())) λe=>Z (X ((e.1.1.1.1,
 e.1.1.1.2,e.1.1.1.3,e.1.1.1.4,e.1.1.1.5,e.1.1.2,e.1.1.3.1,e.1.1.3.2,e.1.1.3.3,e.1.1.3.4.1,e.1.1.3.4.2,()),()) ())))) (Z (N (aE .i64
 c.1 1,c.2))))) (Z (H 0 c))) n (0,([],[],[],[],0,0,0,0,0,0,0,()),())) λc=>bp c (λ_ _=>aK (aC b.2.1 b.1.2) (aK
 (aC (aZ b.1.2 (ak b.2.1) 0) b.1.1) (aK (cJ (ak (aZ b.1.2 (ak b.2.1) 0)) b.1.1) (Z ((aF.mk (af.mk (eg b.1.1 (ak
 (aZ b.1.2 (ak b.2.1) 0)) (aB.mk 6 3 [] [])) b.1.2 b.1.3 b.1.4 b.1.5) 1 (aN.mk b.2.1 0 3 aA),()),()))))) (λd _=>Z
 ((aF.mk (af.mk d.1.1 d.1.2.1 d.1.2.2.1 d.1.2.2.2.1 d.1.2.2.2.2.1) d.1.2.2.2.2.2.1 (aN.mk d.1.2.2.2.2.2.2.1
 d.1.2.2.2.2.2.2.2.1 d.1.2.2.2.2.2.2.2.2.1 (aj.mk d.1.2.2.2.2.2.2.2.2.2.1 d.1.2.2.2.2.2.2.2.2.2.2.1)),()),())) λ_ _=>Y
def apA(n:Nat):OC:=⟨124,⟨asN,K121,J,F124 n⟩,cM [k76 n,apb n] [(124,0,⟨[(13,dj),(0,b0z)],[.slot 12],[],0⟩)] n 10 124⟩
def Mr(b:adO):Bool:=
 aC (aZ b.2.1.2 (ak b.2.2.1) 0) b.2.1.1
def zH(b:adO):Nat:=
 ak (aZ b.2.1.2 (ak b.2.2.1) 0)
def So(b:adO)(e:Int×U):L aB:=
 cX b.2.1.1 [aB.mk 5 0 [] (eZ b.2.2.2.1 e.1 (ax b.2.2.2.1))]
def F125:Nat->adO->O Kf:=
 λn b=>ai (aQ (Int×U) (U) (U) (λc=>au (bA 0 c.1) (aK (aC c.1 b.2.2.2.1) (aK (aC (aZ b.2.2.2.1 (ak c.1)
 aH).1 b.1.1) (au (aq (aa (aZ b.1.1 (ak (aZ b.2.2.2.1 (ak c.1) aH).1) aW).1 26)) (Z (N (bS .i64 c.1 1,
 ()))) (Z (H 0 c))))) (Z (H 0 c))) n (bS .i64 (ax b.2.2.2.1) 1,())) λc=>bp c (λ_ e=>au (aD e.1 0) (aK (aC
 b.2.2.1 b.2.1.2) (aK (Mr b) (aK (cJ (zH b) b.2.1.1) (Z ((aF.mk (af.mk (eg b.2.1.1 (zH b) (aB.mk 6 3 []
 [])) b.2.1.2 b.2.1.3 b.2.1.4 b.2.1.5) 1 (aN.mk b.2.2.1 0 3 aA),()),()))))) (au (bA 120 (ax b.2.1.1)) (aK (aC b.2.2.1 b.2.1.2)
 (aK (Mr b) (aK (cJ (zH b) b.2.1.1) (Z ((aF.mk (af.mk (eg b.2.1.1 (zH b) (aB.mk 6 4 [] [])) b.2.1.2 b.2.1.3
 b.2.1.4 b.2.1.5) 1 (aN.mk b.2.2.1 0 4 aA),()),()))))) (aK (iJ e.1 (ax b.2.2.2.1) (ax b.2.2.2.1)) (aK (dB b.2.1.1 [aB.mk 5
 0 [] (eZ b.2.2.2.1 e.1 (ax b.2.2.2.1))]) (aK (iJ 0 (aE .i64 e.1 1) (ax b.2.2.2.1)) (ai (F117 n (bS .i64 (ax (So b e)) 1,()))
 λg=>ai (F74 n (b.2.2.2.2.2.1,g.1)) λh=>ai (F76 n (af.mk (So b e) b.2.1.2 b.2.1.3 b.2.1.4 b.2.1.5,b.2.2.1,eZ b.2.2.2.1 0
 (aE .i64 e.1 1),b.2.2.2.2.1,h.1)) λi=>au (aa i.1.1.2 1) (aK (aC b.2.2.1 b.2.1.2) (aK (Mr b) (aK (cJ (zH b) b.2.1.1) (Z
 ((aF.mk (af.mk (eg b.2.1.1 (zH b) (aB.mk 6 i.1.1.3.3 [] [])) b.2.1.2 b.2.1.3 b.2.1.4 b.2.1.5) 1 (aN.mk b.2.2.1 0
 i.1.1.3.3 aA),()),()))))) (Z i))))))) (λ_ _=>Z ((jE,()),())) λ_ _=>Y
def apz(n:Nat):OC:=⟨125,⟨asM,K121,J,F125 n⟩,cM [k74 n,k76 n,YC n] [(125,0,⟨[(13,dj)],[],[],0⟩)] n 10 125⟩
def F129:Nat->aF×Int×Int×Int×aj×U->O Kf:=
 λn b=>au (aa b.1.2 1) (Z ((b.1,()),())) (ai (F73 n b.2.2.2.2) λc=>Z ((aF.mk b.1.1 1 (aN.mk b.2.1 b.2.2.1
 b.2.2.2.1 c.1.1),()),()))
def Vt(n:Nat):OC:=⟨129,⟨asL,K121,J,F129 n⟩,cM [k73 n] [] n 10 129⟩
def jM(b:Y85):Int:=
 aZ b.1.2 (ak b.2.1) 0
def qC(b:Y85):aj:=
 aZ b.2.2.2.2.1 (ak 0) aA
def zG(b:Y85):L aB:=
 cX b.1.1 [aB.mk 3 0 [qC b] []]
def CE(b:Y85):L aB:=
 eg b.1.1 (ak (qC b).2) (aB.mk 3 0 [aZ b.2.2.2.2.1 (ak 1) aA] [])
def F126:Y86:=
 λn b=>au (aa b.2.2.2.1 16) (aK (aC 0 b.2.2.2.2.1) (aK (aC 0 b.2.2.2.2.1) (au (bA 120 (ax b.1.1)) (aK (aC b.2.1 b.1.2) (aK
 (aC (jM b) b.1.1) (aK (cJ (ak (jM b)) b.1.1) (ai (F129 n (aF.mk (af.mk (eg b.1.1 (ak (jM b)) (aB.mk 6 4
 [] [])) b.1.2 b.1.3 b.1.4 b.1.5) 1 (aN.mk b.2.1 0 4 aA),b.2.1,b.2.2.2.1,0,qC b,())) λc=>Z c)))) (aK (dB b.1.1
 [aB.mk 3 0 [qC b] []]) (ai (F117 n (bS .i64 (ax (zG b)) 1,())) λc=>aK (aC b.2.1 b.1.2) (aK (cJ (ak b.2.1) b.1.2) (aK
 (aC (jM b) (zG b)) (aK (cJ (ak (jM b)) (zG b)) (ai (F129 n (aF.mk (af.mk (eg (zG b) (ak (jM b))
 (aB.mk 6 0 [c.1.1] b.2.2.1)) b.1.2 b.1.3 b.1.4 b.1.5) 0 br,b.2.1,b.2.2.2.1,0,qC b,())) λd=>Z d))))))))) (aK (aC 0
 b.2.2.2.2.1) (ai (F176 n (b.1,qC b,3,())) λc=>au (aq c.1.2.1) (aK (aC b.2.1 b.1.2) (aK (aC (jM b) b.1.1) (aK (cJ (ak
 (jM b)) b.1.1) (Z ((aF.mk (af.mk (eg b.1.1 (ak (jM b)) (aB.mk 6 2 [] [])) b.1.2 b.1.3 b.1.4 b.1.5) 1
 (aN.mk b.2.1 0 2 aA),()),()))))) (au (aa b.2.2.2.1 17) (aK (aC 0 c.1.1.3) (aK (aC 0 c.1.1.3) (aK (aC b.2.1 b.1.2) (aK
 (aC (jM b) b.1.1) (aK (cJ (ak (jM b)) b.1.1) (ai (F129 n (aF.mk (af.mk (eg b.1.1 (ak (jM b)) (aB.mk 6 0
 [aZ c.1.1.3 (ak 0) aA] b.2.2.1)) b.1.2 b.1.3 b.1.4 b.1.5) 0 br,b.2.1,b.2.2.2.1,0,aZ c.1.1.3 (ak 0) aA,())) λd=>Z
 d)))))) (aK (aC 0 b.2.2.2.2.1) (aK (aC 1 b.2.2.2.2.1) (aK (aC (qC b).2 b.1.1) (aK (cJ (ak (qC b).2) b.1.1) (ai (F97 n ()) λd
 =>aK (aC 1 b.2.2.2.2.1) (aK (aC b.2.1 b.1.2) (aK (cJ (ak b.2.1) b.1.2) (aK (aC (jM b) (CE b)) (aK (cJ (ak (jM b))
 (CE b)) (ai (F129 n (aF.mk (af.mk (eg (CE b) (ak (jM b)) (aB.mk 6 0 [d.1.1] b.2.2.1)) b.1.2 b.1.3 b.1.4 b.1.5)
 0 br,b.2.1,b.2.2.2.1,0,aZ b.2.2.2.2.1 (ak 1) aA,())) λe=>Z e)))))))))))))
def apy(n:Nat):OC:=⟨126,⟨ahH,K121,J,F126 n⟩,cM [k97 n,YC n,Vt n,QZ n] [] n 10 126⟩
def Sn:Y70:=
 ([],[],[],[],0,0,0,0,0,0,0,())
def Ie(b:Ph):Bool:=
 aC b.2.2.1 b.2.1.2
def Mq(b:Ph):Bool:=
 aC (aZ b.2.1.2 (ak b.2.2.1) 0) b.2.1.1
def wR(b:Ph):Nat:=
 ak (aZ b.2.1.2 (ak b.2.2.1) 0)
def CD(b:Ph):L aB:=
 eg b.2.1.1 (wR b) (aB.mk 6 4 [] [])
def Ic(b:Ph)(g:Wl):Int×Int×Int×aj×U:=
 (b.2.2.1,19,0,g.1)
def Sl(e:adL):L aB:=
 [aB.mk e.2.2.1.1 e.2.2.1.2.1 e.2.2.1.2.2.1 e.2.2.1.2.2.2.1]
def Ib(b:Ph)(e:adL):L aB:=
 cX b.2.1.1 (Sl e)
def Ia(b:Ph)(e:adL)(g:Wl):L aB:=
 eg (Ib b e) (wR b) (aB.mk 6 0 [g.1.1] b.2.2.2.1)
def F127:Nat->Ph->O Kf:=
 λn b=>ai (F176 n (b.2.1,b.2.2.2.2.1,5,())) λc=>ai (au c.1.2.1 (ai (F97 n ()) λd=>Z (N (W,Sn,(6,0,[d.1.1],
 c.1.1.4,()),()))) (ai (F97 n ()) λd=>ai (F177 n (b.1,b.2.1,b.2.2.2.2.1,d.1)) λe=>au (aq e.1.2.1) (aK (Ie b) (aK (Mq b)
 (aK (cJ (wR b) b.2.1.1) (Z (X ((eg b.2.1.1 (wR b) (aB.mk 6 2 [] []),b.2.1.2,b.2.1.3,b.2.1.4,b.2.1.5,1,b.2.2.1,0,2,0,
 0,()),(6,0,[],[],()),()) ()))))) (au (aD 30 (ax e.1.1.2)) (aK (Ie b) (aK (Mq b) (aK (cJ (wR b) b.2.1.1) (Z (X
 ((CD b,b.2.1.2,b.2.1.3,b.2.1.4,b.2.1.5,1,b.2.2.1,0,4,0,0,()),(6,0,[],[],()),()) ()))))) (Z (N (J,Sn,(6,0,[],
 [e.1.1],()),())))))) λ(d:LO adL U (Y70×yD×U) Any)=>ck d (λe=>au (bA 120 (ax b.2.1.1)) (aK (Ie b) (aK (Mq
 b) (aK (cJ (wR b) b.2.1.1) (au (aq W) (aK (dB b.2.1.2 [bS .i64 (ax (CD b)) 1]) (ai (F97 n ()) λg=>ai (F129 n
 (aF.mk (af.mk (CD b) (cX b.2.1.2 [bS .i64 (ax (CD b)) 1]) b.2.1.3 b.2.1.4 b.2.1.5) 1 (aN.mk b.2.2.1 0 4
 aA),Ic b g)) λh=>Z h)) (ai (F97 n ()) λg=>ai (F129 n (aF.mk (af.mk (CD b) b.2.1.2 b.2.1.3 b.2.1.4
 b.2.1.5) 1 (aN.mk b.2.2.1 0 4 aA),Ic b g)) λh=>Z h))))) (aK (dB b.2.1.1 (Sl e)) (ai (F117 n (bS .i64 (ax
 (Ib b e)) 1,())) λg=>aK (Ie b) (aK (cJ (ak b.2.2.1) b.2.1.2) (aK (aC (aZ b.2.1.2 (ak b.2.2.1) 0) (Ib b e)) (aK (cJ
 (wR b) (Ib b e)) (au (aq J) (aK (dB b.2.1.2 [bS .i64 (ax (Ia b e g)) 1]) (ai (F97 n ()) λh=>ai (F129 n
 (aF.mk (af.mk (Ia b e g) (cX b.2.1.2 [bS .i64 (ax (Ia b e g)) 1]) b.2.1.3 b.2.1.4 b.2.1.5) 0 br,Ic b
 h)) λi=>Z i)) (ai (F97 n ()) λh=>ai (F129 n (aF.mk (af.mk (Ia b e g) b.2.1.2 b.2.1.3 b.2.1.4 b.2.1.5) 0
 br,Ic b h)) λi=>Z i)))))))) (λ_ _=>Y) (λe _=>Z ((aF.mk (af.mk e.1.1 e.1.2.1 e.1.2.2.1
 e.1.2.2.2.1 e.1.2.2.2.2.1) e.1.2.2.2.2.2.1 (aN.mk e.1.2.2.2.2.2.2.1 e.1.2.2.2.2.2.2.2.1 e.1.2.2.2.2.2.2.2.2.1 (aj.mk
 e.1.2.2.2.2.2.2.2.2.2.1 e.1.2.2.2.2.2.2.2.2.2.2.1)),()),())) λ_ _=>Y
def apx(n:Nat):OC:=⟨127,⟨asK,K121,J,F127 n⟩,cM [k97 n,YC n,Vt n,QZ n,ajl n] [(127,1000004,⟨[(24,dn),(0,b0z),(0,aac)],[.slot 10,.slot 11],[],0⟩)] n 10 127⟩
def Mp(b:aho):Bool:=
 aC (aZ b.1.2 (ak b.2.1) 0) b.1.1
def zF(b:aho):Nat:=
 ak (aZ b.1.2 (ak b.2.1) 0)
def F128:Nat->aho->O Kf:=
 λn b=>ai (F176 n (b.1,b.2.2.2.1,6,())) λc=>au (aq c.1.2.1) (aK (aC b.2.1 b.1.2) (aK (Mp b) (aK (cJ (zF b) b.1.1)
 (Z ((aF.mk (af.mk (eg b.1.1 (zF b) (aB.mk 6 2 [] [])) b.1.2 b.1.3 b.1.4 b.1.5) 1 (aN.mk b.2.1 0 2 aA),
 ()),()))))) (au (aa c.1.1.2 0) (Z ((aF.mk b.1 2 br,()),())) (au (aq (aa c.1.1.2 1)) (aK (aC b.2.1 b.1.2) (aK
 (Mp b) (aK (cJ (zF b) b.1.1) (Z ((aF.mk (af.mk (eg b.1.1 (zF b) (aB.mk 6 c.1.1.2 [] [])) b.1.2 b.1.3 b.1.4
 b.1.5) 1 (aN.mk b.2.1 0 c.1.1.2 aA),()),()))))) (aK (aC 0 c.1.1.3) (aK (aC 0 c.1.1.3) (aK (aC b.2.1 b.1.2) (aK (Mp b) (aK
 (cJ (zF b) b.1.1) (ai (F129 n (aF.mk (af.mk (eg b.1.1 (zF b) (aB.mk 6 0 [aZ c.1.1.3 (ak 0) aA] b.2.2.1))
 b.1.2 b.1.3 b.1.4 b.1.5) 0 br,b.2.1,20,0,aZ c.1.1.3 (ak 0) aA,())) λd=>Z d))))))))
def apw(n:Nat):OC:=⟨128,⟨asJ,K121,J,F128 n⟩,cM [Vt n,QZ n] [] n 10 128⟩
def qA(b:Y85):Int:=
 aZ b.1.2 (ak b.2.1) 0
def CC(b:Y85):Nat:=
 ak (aZ b.2.2.2.2.1 (ak 0) aA).2
def H9(b:Y85)(d:Y44):L aB:=
 eg b.1.1 (CC b) (aB.mk 4 0 d.1.1 [])
def H8(b:Y85)(c:Y34×U):L aB:=
 eg b.1.1 (CC b) (aB.mk 4 0 (eZ c.1.1.3 1 (ax c.1.1.3)) [])
def F130:Y86:=
 λn b=>aK (aC 0 b.2.2.2.2.1) (ai (F176 n (b.1,aZ b.2.2.2.2.1 (ak 0) aA,4,())) λc=>au (aq c.1.2.1) (aK (aC b.2.1 b.1.2)
 (aK (aC (qA b) b.1.1) (aK (cJ (ak (qA b)) b.1.1) (Z ((aF.mk (af.mk (eg b.1.1 (ak (qA b)) (aB.mk 6 2
 [] [])) b.1.2 b.1.3 b.1.4 b.1.5) 1 (aN.mk b.2.1 0 2 aA),()),()))))) (au (aa b.2.2.2.1 22) (au (bA 4 (ax c.1.1.3)) (Z
 ((aF.mk b.1 2 br,()),())) (aK (aC 0 b.2.2.2.2.1) (aK (aC 1 b.2.2.2.2.1) (ai (F74 n (c.1.1.3,aZ b.2.2.2.2.1 (ak 1)
 aA,())) λd=>aK (aC (aZ b.2.2.2.2.1 (ak 0) aA).2 b.1.1) (aK (cJ (CC b) b.1.1) (ai (F97 n ()) λe=>aK (aC 1
 b.2.2.2.2.1) (aK (aC b.2.1 b.1.2) (aK (cJ (ak b.2.1) b.1.2) (aK (aC (qA b) (H9 b d)) (aK (cJ (ak (qA b)) (H9 b d)) (ai
 (F129 n (aF.mk (af.mk (eg (H9 b d) (ak (qA b)) (aB.mk 6 0 [e.1.1] b.2.2.1)) b.1.2 b.1.3 b.1.4 b.1.5) 0 br,
 b.2.1,b.2.2.2.1,0,aZ b.2.2.2.2.1 (ak 1) aA,())) λg=>Z g))))))))))) (au (aa (ax c.1.1.3) 0) (Z ((aF.mk b.1 2
 br,()),())) (aK (aC 0 b.2.2.2.2.1) (aK (iJ 1 (ax c.1.1.3) (ax c.1.1.3)) (aK (aC (aZ b.2.2.2.2.1 (ak 0) aA).2 b.1.1)
 (aK (cJ (CC b) b.1.1) (aK (aC 0 c.1.1.3) (aK (aC 0 c.1.1.3) (aK (aC b.2.1 b.1.2) (aK (cJ (ak b.2.1) b.1.2) (aK (aC (qA b)
 (H8 b c)) (aK (cJ (ak (qA b)) (H8 b c)) (ai (F129 n (aF.mk (af.mk (eg (H8 b c) (ak (qA b)) (aB.mk
 6 0 [aZ c.1.1.3 (ak 0) aA] b.2.2.1)) b.1.2 b.1.3 b.1.4 b.1.5) 0 br,b.2.1,b.2.2.2.1,0,aZ c.1.1.3 (ak 0) aA,())) λd=>
 Z d))))))))))))))
def apv(n:Nat):OC:=⟨130,⟨ahH,K121,J,F130 n⟩,cM [k74 n,k97 n,Vt n,QZ n] [] n 10 130⟩
def CB(b:Wm):Bool:=
 cJ (ak b.2.1) b.1.2
def CA(b:Wm):Bool:=
 aC (aZ b.1.2 (ak b.2.1) 0) b.1.1
def zE(b:Wm):Nat:=
 ak (aZ b.1.2 (ak b.2.1) 0)
def Cz(b:Wm):Bool:=
 cJ (zE b) b.1.1
def Mo(n:Nat)(b:Wm):O Kf:=
 aK (aC b.2.1 b.1.2) (aK (CB b) (aK (CA b) (aK (Cz b) (Z ((aF.mk (af.mk (eg b.1.1 (zE b) (aB.mk 6 4
 [] [])) b.1.2 b.1.3 b.1.4 b.1.5) 1 (aN.mk b.2.1 0 4 aA),()),())))))
def F131:Nat->Wm->O Kf:=
 λn b=>au (aa b.2.2.2.1.1 25) (au (aa (ax b.1.4) 0) (Z ((aF.mk b.1 2 br,()),())) (aK (aC 0 b.1.4) (aK (cJ
 (ak 0) b.1.4) (ai (F25 n (aZ b.1.4 (ak 0) 0,())) λc=>au (bA 1000000000 b.1.5) (Mo n b) (aK (iJ 1 (ax b.1.4) (ax b.1.4)) (aK
 (aC b.2.1 b.1.2) (aK (CB b) (aK (CA b) (aK (Cz b) (ai (F129 n (aF.mk (af.mk (eg b.1.1 (zE b) (aB.mk 6 0
 [c.1.1] b.2.2.1)) b.1.2 b.1.3 (eZ b.1.4 1 (ax b.1.4)) (aE .i64 b.1.5 1)) 0 br,b.2.1,b.2.2.2.1.1,0,c.1)) λd=>Z d))))))))))
 (aK (aC 0 b.2.2.2.2.1) (au (aq (aa (aZ b.2.2.2.2.1 (ak 0) aA).1 1)) (aK (aC b.2.1 b.1.2) (aK (CB b) (aK (CA b) (aK
 (Cz b) (Z ((aF.mk (af.mk (eg b.1.1 (zE b) (aB.mk 6 2 [] [])) b.1.2 b.1.3 b.1.4 b.1.5) 1 (aN.mk b.2.1 0 2
 aA),()),())))))) (au (bA 100 (ax b.1.3)) (Mo n b) (aK (aC 0 b.2.2.2.2.1) (aK (dB b.1.3 [ef.mk b.2.2.2.1.2 (aZ b.2.2.2.2.1
 (ak 0) aA).2]) (ai (F97 n ()) λc=>aK (aC 0 b.2.2.2.2.1) (aK (aC b.2.1 b.1.2) (aK (CB b) (aK (CA b) (aK (Cz b) (ai
 (F129 n (aF.mk (af.mk (eg b.1.1 (zE b) (aB.mk 6 0 [c.1.1] b.2.2.1)) b.1.2 (cX b.1.3 [ef.mk b.2.2.2.1.2 (aZ
 b.2.2.2.2.1 (ak 0) aA).2]) b.1.4 b.1.5) 0 br,b.2.1,b.2.2.2.1.1,b.2.2.2.1.2,aZ b.2.2.2.2.1 (ak 0) aA,())) λd=>Z
 d)))))))))))
def apu(n:Nat):OC:=⟨131,⟨asI,K121,J,F131 n⟩,cM [k25 n,k97 n,Vt n] [] n 10 131⟩
def cI(b:vk):bw:=
 aZ b.1.1 (ak b.2.2.2.2.1.1) aW
def lf(b:vk):Bool:=
 aC b.2.2.1 b.2.1.2
def jf(b:vk):Int:=
 aZ b.2.1.2 (ak b.2.2.1) 0
def mY(b:vk):Bool:=
 aC (jf b) b.2.1.1
def mX(b:vk):Bool:=
 cJ (ak (jf b)) b.2.1.1
def ry(b:vk)(c:Wl):aB:=
 aB.mk 6 0 [c.1.1] b.2.2.2.1
def uU(b:vk)(c:Wl):aF:=
 aF.mk (af.mk (eg b.2.1.1 (ak (jf b)) (ry b c)) b.2.1.2 b.2.1.3 b.2.1.4 b.2.1.5) 0 br
def s5(n:Nat)(b:vk):Wl->O Kf:=
 λc=>aK (lf b) (aK (mY b) (aK (mX b) (Z ((uU b c,()),()))))
def DH(n:Nat)(b:vk):O Kf:=
 aK (lf b) (aK (mY b) (aK (mX b) (Z ((aF.mk (af.mk (eg b.2.1.1 (ak (jf b)) (aB.mk 6 2 [] [])) b.2.1.2
 b.2.1.3 b.2.1.4 b.2.1.5) 1 (aN.mk b.2.2.1 0 2 aA),()),()))))
def HR(b:vk):aF:=
 aF.mk (af.mk (eg b.2.1.1 (ak (jf b)) (aB.mk 6 4 [] [])) b.2.1.2 b.2.1.3 b.2.1.4 b.2.1.5) 1 (aN.mk b.2.2.1 0 4
 aA)
def Ma(n:Nat)(b:vk):O Kf:=
 aK (lf b) (aK (mY b) (aK (mX b) (Z ((HR b,()),()))))
def HQ(b:vk):L aB:=
 cX b.2.1.1 [aB.mk 2 b.2.2.2.2.1.1 b.2.2.2.2.1.2 []]
def iL(b:vk):Bool:=
 aC 0 b.2.2.2.2.1.3
def hY(b:vk):aj:=
 aZ b.2.2.2.2.1.3 (ak 0) aA
def gZ(n:Nat):Pj->O Pj:=
 λc=>ck c (λd=>Z (N d)) (λ_ _=>Y) (λ_ _=>Z (X () ())) λ_ _=>Y
def HP(b:vk):L aB:=
 cX b.2.1.1 [aB.mk 1 (cI b).2 b.2.2.2.2.1.3 []]
def zA(b:vk):Y85:=
 (b.2.1,b.2.2.1,b.2.2.2.1,(cI b).1,b.2.2.2.2.1.3,())
def HO(b:vk):L aB:=
 cX b.2.1.1 [aB.mk 4 0 [] []]
def LZ(n:Nat):U->U->O Kf:=
 λ_ _=>Z ((jE,()),())
def F77:Nat->vk->O Kf:=
 λn b=>aK (aC b.2.2.2.2.1.1 b.1.1) (au (aa (cI b).1 1) (ai (F25 n ((cI b).2,())) (s5 n b)) (au (aa (cI b).1 2) (ai (F120
 n (aa (cI b).2 1,())) (s5 n b)) (au (aa (cI b).1 3) (ai (F97 n ()) (s5 n b)) (au (aa (cI b).1 4) (au (aD (cI b).2 0)
 (aK (lf b) (aK (mY b) (aK (mX b) (Z ((aF.mk (af.mk (eg b.2.1.1 (ak (jf b)) (aB.mk 6 0 [aj.mk 4
 (bS .i64 (-1) (cI b).2)] b.2.2.2.1)) b.2.1.2 b.2.1.3 b.2.1.4 b.2.1.5) 0 br,()),()))))) (au (bA (ax b.2.2.2.2.1.2) (cI b).2)
 (DH n b) (aK (aC (cI b).2 b.2.2.2.2.1.2) (aK (lf b) (aK (mY b) (aK (mX b) (Z ((aF.mk (af.mk (eg b.2.1.1
 (ak (jf b)) (aB.mk 6 0 [aZ b.2.2.2.2.1.2 (ak (cI b).2) aA] b.2.2.2.1)) b.2.1.2 b.2.1.3 b.2.1.4 b.2.1.5) 0 br,()),
 ())))))))) (au (aa (cI b).1 5) (au (bA 120 (ax b.2.1.1)) (Ma n b) (aK (dB b.2.1.1 [aB.mk 2 b.2.2.2.2.1.1 b.2.2.2.2.1.2 []])
 (ai (F117 n (bS .i64 (ax (HQ b)) 1,())) λc=>aK (lf b) (aK (cJ (ak b.2.2.1) b.2.1.2) (aK (aC (jf b) (HQ b)) (aK
 (cJ (ak (jf b)) (HQ b)) (Z ((aF.mk (af.mk (eg (HQ b) (ak (jf b)) (ry b c)) b.2.1.2 b.2.1.3 b.2.1.4
 b.2.1.5) 0 br,()),())))))))) (au (aa (cI b).1 6) (aK (iL b) (aK (aC 1 b.2.2.2.2.1.3) (ai (F122 n (b.1,b.2.1,b.2.2.1,
 b.2.2.2.1,hY b,aZ b.2.2.2.2.1.3 (ak 1) aA,())) λc=>Z c))) (au (aa (cI b).1 7) (aK (aC 1 (cI b).3) (aK (iL b)
 (ai (F74 n (b.2.2.2.2.1.2,hY b,())) λc=>ai (F76 n (b.2.1,b.2.2.1,b.2.2.2.1,aZ (cI b).3 (ak 1) 0,c.1)) λd=>Z d))) (au
 (aa (cI b).1 8) (aK (iL b) (au (aq (aa (hY b).1 2)) (DH n b) (aK (iL b) (aK (aC (bS .i64 2 (hY b).2) (cI
 b).3) (ai (F76 n (b.2.1,b.2.2.1,b.2.2.2.1,aZ (cI b).3 (ak (bS .i64 2 (hY b).2)) 0,b.2.2.2.2.1.2,())) λc=>Z c))))) (ai (au
 (aa (cI b).1 9) (Z (N (W,()))) (ai (au (aa (cI b).1 10) (Z (N (W,()))) (ai (au (aa (cI b).1 11) (Z
 (N (W,()))) (ai (au (aa (cI b).1 12) (Z (N (W,()))) (Z (N (aa (cI b).1 13,())))) (gZ n))) (gZ
 n))) (gZ n))) λ(c:Pj)=>ck c (λd=>au d.1 (aK (iL b) (aK (aC 1 b.2.2.2.2.1.3) (ai (F123 n (b.2.1,b.2.2.1,b.2.2.2.1,
 (cI b).1,hY b,aZ b.2.2.2.2.1.3 (ak 1) aA,())) λe=>Z e))) (au (aa (cI b).1 14) (au (bA 120 (ax b.2.1.1)) (Ma
 n b) (aK (dB b.2.1.1 [aB.mk 1 (cI b).2 b.2.2.2.2.1.3 []]) (ai (F117 n (bS .i64 (ax (HP b)) 1,())) λe=>aK (lf b) (aK
 (cJ (ak b.2.2.1) b.2.1.2) (aK (aC (jf b) (HP b)) (aK (cJ (ak (jf b)) (HP b)) (Z ((aF.mk (af.mk (eg
 (HP b) (ak (jf b)) (ry b e)) b.2.1.2 b.2.1.3 b.2.1.4 b.2.1.5) 0 br,()),())))))))) (au (aa (cI b).1 15) (aK (iL b)
 (ai (F124 n (b.2.1,b.2.2.1,b.2.2.2.1,cI b,b.2.2.2.2.1.2,hY b,())) λe=>Z e)) (au (aa (cI b).1 26) (aK (iL b) (aK
 (lf b) (aK (mY b) (aK (mX b) (Z ((aF.mk (af.mk (eg b.2.1.1 (ak (jf b)) (aB.mk 6 0 [hY b] b.2.2.2.1))
 b.2.1.2 b.2.1.3 b.2.1.4 b.2.1.5) 0 br,()),())))))) (au (aa (cI b).1 27) (aK (aC 0 (cI b).3) (ai (F125 n (b.1,b.2.1,b.2.2.1,
 b.2.2.2.1,aZ (cI b).3 (ak 0) 0,b.2.2.2.2.1.2,())) λe=>Z e)) (ai (au (aa (cI b).1 16) (Z (N (W,()))) (ai (au
 (aa (cI b).1 17) (Z (N (W,()))) (Z (N (aa (cI b).1 18,())))) λ(e:Pj)=>ck e (λg=>Z (N g))
 (λ_ _=>Y) (λ_ _=>Z (X () ())) λ_ _=>Y)) λ(e:Pj)=>ck e (λg=>au g.1 (ai (F126 n (zA b)) λh=>Z
 h) (au (aa (cI b).1 19) (aK (iL b) (ai (F127 n (b.1,b.2.1,b.2.2.1,b.2.2.2.1,hY b,())) λh=>Z h)) (au (aa (cI b).1
 20) (aK (iL b) (ai (F128 n (b.2.1,b.2.2.1,b.2.2.2.1,hY b,())) λh=>Z h)) (au (aa (cI b).1 21) (au (bA 120 (ax
 b.2.1.1)) (aK (lf b) (aK (mY b) (aK (mX b) (ai (F97 n ()) λh=>ai (F129 n (HR b,b.2.2.1,(cI b).1,0,h.1)) λi=>Z
 i)))) (aK (dB b.2.1.1 [aB.mk 4 0 [] []]) (ai (F117 n (bS .i64 (ax (HO b)) 1,())) λh=>aK (lf b) (aK (cJ (ak b.2.2.1)
 b.2.1.2) (aK (aC (jf b) (HO b)) (aK (cJ (ak (jf b)) (HO b)) (ai (F97 n ()) λi=>ai (F129 n (aF.mk (af.mk
 (eg (HO b) (ak (jf b)) (ry b h)) b.2.1.2 b.2.1.3 b.2.1.4 b.2.1.5) 0 br,b.2.2.1,(cI b).1,0,i.1)) λj=>Z j)))))))
 (ai (au (aa (cI b).1 22) (Z (N (W,()))) (Z (N (aa (cI b).1 23,())))) λ(h:Pj)=>ck h (λi=>au i.1
 (ai (F130 n (zA b)) λj=>Z j) (ai (au (aa (cI b).1 24) (Z (N (W,()))) (Z (N (aa (cI b).1 25,())))) λ
 (j:Pj)=>ck j (λk=>au k.1 (ai (F131 n (b.2.1,b.2.2.1,b.2.2.2.1,cI b,b.2.2.2.2.1.3,())) λl=>Z l) (ai (F97 n ()) λl=>
 aK (lf b) (aK (mY b) (aK (mX b) (ai (F97 n ()) λm=>ai (F129 n (uU b l,b.2.2.1,28,0,m.1)) λo=>Z o))))) (λ_ _=>
 Y) (LZ n) λ_ _=>Y)) (λ_ _=>Y) (LZ n) λ_ _=>Y))))) (λ_ _=>Y) (LZ n) λ_ _=>Y)))))) (λ_ _=>
 Y) (LZ n) λ_ _=>Y)))))))))
def k77(n:Nat):OC:=⟨77,⟨asH,K121,J,F77 n⟩,cM [k25 n,k74 n,k76 n,k97 n,YC n,af1 n,apC n,apB n,apA n,apz n,apy n,apx n,apw n,Vt n,apv n,apu n] [(77,1000026,⟨[(146,dn)],[],[],0⟩),(77,1000027,⟨[(146,dn)],[],[],0⟩),(77,1000028,⟨[(146,dn)],[],[],0⟩),(77,1000029,⟨[(146,dn)],[],[],0⟩),(77,1000040,⟨[(208,dn)],[],[],0⟩),(77,1000041,⟨[(208,dn)],[],[],0⟩),(77,1000050,⟨[(250,dn)],[],[],0⟩),(77,1000053,⟨[(260,dn)],[],[],0⟩)] n 10 77⟩
def Ui(b:Y31):Bool:=
 aC (aZ b.2.1.2 (ak b.2.2.1) 0) b.2.1.1
def mc(b:Y31):Nat:=
 ak (aZ b.2.1.2 (ak b.2.2.1) 0)
def uV(b:Y31):Int:=
 bS .i64 (ax (aZ b.2.1.1 (mc b) aO).4) 1
def Uh(b:Y31):Bool:=
 aC (uV b) (aZ b.2.1.1 (mc b) aO).4
def s6(b:Y31):av:=
 aZ (aZ b.2.1.1 (mc b) aO).4 (ak (uV b)) aH
def F40:Nat->Y31->O Kf:=
 λn b=>aK (aC b.2.2.1 b.2.1.2) (aK (Ui b) (au (aq (aa (aZ b.2.1.1 (mc b) aO).2 0)) (Z ((aF.mk b.2.1 2
 br,()),())) (au (aa (ax (aZ b.2.1.1 (mc b) aO).3) 1) (aK (aC 0 (aZ b.2.1.1 (mc b) aO).3) (au (aD (uV b)
 0) (aK (aC b.2.2.1 b.2.1.2) (aK (Ui b) (aK (cJ (mc b) b.2.1.1) (ai (F73 n (aZ (aZ b.2.1.1 (mc b) aO).3 (ak 0) aA,()))
 λc=>Z ((aF.mk (af.mk (eg b.2.1.1 (mc b) (aB.mk 6 1 [aZ (aZ b.2.1.1 (mc b) aO).3 (ak 0) aA] []))
 b.2.1.2 b.2.1.3 b.2.1.4 b.2.1.5) 1 (aN.mk b.2.2.1 0 1 c.1.1),()),()))))) (aK (Uh b) (aK (cJ (ak (uV b)) (aZ b.2.1.1 (mc b)
 aO).4) (ai (F74 n ((s6 b).3,aZ (aZ b.2.1.1 (mc b) aO).3 (ak 0) aA,())) λc=>aK (Uh b) (aK (cJ (ak (uV
 b)) (aZ b.2.1.1 (mc b) aO).4) (aK (aC b.2.2.1 b.2.1.2) (aK (Ui b) (aK (cJ (mc b) b.2.1.1) (Z ((aF.mk
 (af.mk (eg b.2.1.1 (mc b) (aB.mk 6 0 [] (eg (aZ b.2.1.1 (mc b) aO).4 (ak (uV b)) (av.mk (s6 b).1 (s6
 b).2 c.1.1)))) b.2.1.2 b.2.1.3 b.2.1.4 b.2.1.5) 0 br,()),()))))))))))) (aK (Uh b) (aK (aC (s6 b).1 b.1.1) (ai (F75 n (aZ b.1.1
 (ak (s6 b).1) aW,())) λc=>au (aD (ax (s6 b).3) c.1.1) (aK (aC (ax (s6 b).3) (aZ b.1.1 (ak (s6 b).1)
 aW).3) (ai (F76 n (b.2.1,b.2.2.1,(aZ b.2.1.1 (mc b) aO).4,aZ (aZ b.1.1 (ak (s6 b).1) aW).3 (ak (ax (s6 b).3))
 0,(s6 b).2,())) λd=>Z d)) (aK (iJ 0 (uV b) (ax (aZ b.2.1.1 (mc b) aO).4)) (ai (F77 n (b.1,b.2.1,b.2.2.1,eZ (aZ
 b.2.1.1 (mc b) aO).4 0 (uV b),s6 b,())) λd=>Z d))))))))
def k40(n:Nat):OC:=⟨40,⟨P68,K121,J,F40 n⟩,cM [k73 n,k74 n,k75 n,k76 n,k77 n] [] n 10 40⟩
def aaN(c:Y69):af:=
 af.mk c.2.2.1.1 c.2.2.1.2.1 c.2.2.1.2.2.1 c.2.2.1.2.2.2.1 c.2.2.1.2.2.2.2.1
def Kk(g:Kf):Y70×U:=
 ((g.1.1.1.1,g.1.1.1.2,g.1.1.1.3,g.1.1.1.4,g.1.1.1.5,g.1.1.2,g.1.1.3.1,g.1.1.3.2,g.1.1.3.3,g.1.1.3.4.1,g.1.1.3.4.2,()),())
def F33:Nat->Y31->O Y71:=
 λn b=>ai (aQ (Y69) (Int×Bool×U) (zy×zy×U) (λc=>au (aD c.2.1 (ax c.2.2.1.2.1)) (ai (F40 n (b.1,aaN c,
 c.2.1,())) λd=>ai (aQ (Int×zy×zy×Y70×U) (Int×Bool×U) (zy×zy×Y70×U) (λe=>au (aa
 e.2.2.2.1.2.2.2.2.2.1 0) (au (aD 5000 (aE .i64 e.1 1)) (Z (X (e.2.1,e.2.1,e.2.2.2) (aE .i64 e.1 1,J,()))) (ai (F40 n (b.1,
 af.mk e.2.2.2.1.1 e.2.2.2.1.2.1 e.2.2.2.1.2.2.1 e.2.2.2.1.2.2.2.1 e.2.2.2.1.2.2.2.2.1,c.2.1,())) λg=>Z (N (aE .i64 e.1 1,
 (e.2.2.2.1.1,e.2.2.2.1.2.1,e.2.2.2.1.2.2.1,e.2.2.2.1.2.2.2.1,e.2.2.2.1.2.2.2.2.1,()),e.2.2.1,Kk g)))) (Z (H 0 e))) n (c.1,c.2.2.1,
 c.2.2.2.1,Kk d)) λe=>bp e (λ_ h=>Z (N (h.1,aE .i64 c.2.1 1,h.2.1,h.2.2.1,()))) (λg h=>Z (X (g.1,g.2.1,
 ()) h)) λ_ _=>Y) (Z (H 0 c))) n (b.2.2.1,0,(b.2.1.1,b.2.1.2,b.2.1.3,b.2.1.4,b.2.1.5,()),([],[],[],[],0,()),())) λc=>
 bp c (λ_ e=>Z ((aaN e,e.1,W,()),())) (λd e=>Z ((af.mk d.2.1.1 d.2.1.2.1 d.2.1.2.2.1 d.2.1.2.2.2.1 d.2.1.2.2.2.2.1,
 e),())) λ_ _=>Y
def k33(n:Nat):OC:=⟨33,⟨P68,K135,J,F33 n⟩,cM [k40 n] [(33,0,⟨[(2,dj),(9,dj),(0,b4z),(0,b4z)],[.slot 4,.slot 6],[],0⟩),(33,2,⟨[(2,dj),(0,b4z),(0,b4z),(0,b0z)],[.slot 4,.slot 6,.slot 10],[],0⟩)] n 10 33⟩
def F65:Nat->L aj×U->O fW:=
 λn b=>Z ((bA (ax b.1) 40,()),())
def k65(n:Nat):OC:=⟨65,⟨P50,K4,J,F65 n⟩,cM [] [] n 10 65⟩
def F35:Y88:=
 λn b=>au (aD 130 (ax b.1.1)) (Z ((J,()),())) (au (aD 130 (ax b.1.2)) (Z ((J,()),())) (au (aD 110 (ax b.1.3))
 (Z ((J,()),())) (au (aD 60 (ax b.1.4)) (Z ((J,()),())) (ai (aQ (Int×U) (Bool×U) (U) (λc=>au (aD
 c.1 (ax b.1.1)) (aK (aC c.1 b.1.1) (ai (F65 n ((aZ b.1.1 (ak c.1) aO).3,())) λd=>au (aq d.1.1) (Z (X () (J,())))
 (au (aD 50 (ax (aZ b.1.1 (ak c.1) aO).4)) (Z (X () (J,()))) (ai (aQ (Int×U) (Bool×U) (U) (λe=>
 au (aD e.1 (ax (aZ b.1.1 (ak c.1) aO).4)) (aK (aC e.1 (aZ b.1.1 (ak c.1) aO).4) (ai (F65 n ((aZ (aZ b.1.1 (ak c.1)
 aO).4 (ak e.1) aH).2,())) λg=>au (aq g.1.1) (Z (X () (J,()))) (aK (aC e.1 (aZ b.1.1 (ak c.1) aO).4)
 (ai (F65 n ((aZ (aZ b.1.1 (ak c.1) aO).4 (ak e.1) aH).3,())) λh=>au (aq h.1.1) (Z (X () (J,()))) (Z
 (N (aE .i64 e.1 1,()))))))) (Z (H 0 e))) n (0,())) λe=>bp e (λ_ _=>Z (N (aE .i64 c.1 1,()))) (λ_ h=>
 Z (X () h)) λ_ _=>Y)))) (Z (H 0 c))) n (0,())) λc=>bp c (λ_ _=>Z ((W,()),())) (λ_ e=>Z (e,()))
 λ_ _=>Y))))
def k35(n:Nat):OC:=⟨35,⟨alX,K4,J,F35 n⟩,cM [k65 n] [(35,0,⟨[(3,dj)],[],[],0⟩),(35,2,⟨[(5,dj)],[],[],0⟩)] n 10 35⟩
def F20:Y21:=
 λn b=>ai (F12 n (b.1,())) λc=>au c.1.1 (ai (F35 n b.2) λd=>Z d) (Z ((J,()),()))
def k20(n:Nat):OC:=⟨20,⟨P67,K4,J,F20 n⟩,cM [k12 n,k35 n] [] n 10 20⟩
def F105:alN:=
 λn b=>ai (aQ (Int×U) (Bool×U) (U) (λc=>au (aD c.1 (ax b.1)) (aK (aC c.1 b.1) (au (aa (aZ b.1 (ak c.1)
 0) b.2.1) (Z (X () (W,()))) (Z (N (aE .i64 c.1 1,()))))) (Z (H 0 c))) n (0,())) λc=>bp c (λ_ _=>Z
 ((J,()),())) (λ_ e=>Z (e,())) λ_ _=>Y
def apG(n:Nat):OC:=⟨105,⟨alZ,K4,J,F105 n⟩,cM [] [(105,0,⟨[(5,dj)],[],[],0⟩)] n 10 105⟩
def Px(b:af×U)(g:Int×U):Int:=
 aZ b.1.2 (ak g.1) 0
def F66:Y88:=
 λn b=>ai (aQ (Int×Int×U) (Bool×U) (U) (λc=>au (aD c.2.1 (ax b.1.1)) (aK (aC c.2.1 b.1.1) (au (aa (aZ
 b.1.1 (ak c.2.1) aO).1 6) (Z (N (aE .i64 c.1 1,aE .i64 c.2.1 1,()))) (Z (N (c.1,aE .i64 c.2.1 1,()))))) (Z
 (H 0 c))) n (0,0,())) λc=>bp c (λ_ e=>au (aq (aa (ax b.1.2) e.1)) (Z ((J,()),())) (ai (aQ (Int×U) (Bool
 ×U) (U) (λg=>au (aD g.1 e.1) (aK (aC g.1 b.1.2) (ai (F55 n (Px b g,0,bS .i64 (ax b.1.1) 1,())) λh=>au
 (aq h.1.1) (Z (X () (J,()))) (aK (aC (Px b g) b.1.1) (au (aq (aa (aZ b.1.1 (ak (Px b g)) aO).1 6)) (Z
 (X () (J,()))) (aK (iJ 0 g.1 (ax b.1.2)) (ai (F105 n (eZ b.1.2 0 g.1,Px b g,())) λi=>au i.1.1 (Z (X () (J,
 ()))) (Z (N (aE .i64 g.1 1,()))))))))) (Z (H 0 g))) n (0,())) λg=>bp g (λ_ _=>Z ((W,()),())) (λ_ i=>
 Z (i,())) λ_ _=>Y)) (λ_ e=>Z (e,())) λ_ _=>Y
def k66(n:Nat):OC:=⟨66,⟨alX,K4,J,F66 n⟩,cM [k55 n,apG n] [(66,0,⟨[(3,dj),(4,dj)],[],[],0⟩),(66,2,⟨[(5,dj)],[],[],0⟩)] n 10 66⟩
def F169:Nat->az×af×aj×U->O fW:=
 λn b=>au (aa b.2.2.1.1 1) (ai (F55 n (b.2.2.1.2,(-1000000000),1000000000,())) λc=>Z c) (au (aa b.2.2.1.1 2) (ai (F55 n
 (b.2.2.1.2,0,1,())) λc=>Z c) (au (aa b.2.2.1.1 3) (Z ((aa b.2.2.1.2 0,()),())) (au (aa b.2.2.1.1 4) (ai (F55 n (b.2.2.1.2,
 0,bS .i64 (ax b.1.2) 1,())) λc=>Z c) (au (aa b.2.2.1.1 5) (ai (F55 n (b.2.2.1.2,0,bS .i64 (ax b.2.1.1) 1,())) λc=>
 Z c) (Z ((J,()),()))))))
def apc(n:Nat):OC:=⟨169,⟨asG,K4,J,F169 n⟩,cM [k55 n] [] n 10 169⟩
def F109:Nat->az×af×L aj×Int×U->O fW:=
 λn b=>ai (aQ (Int×U) (Bool×U) (U) (λc=>au (aD c.1 (ax b.2.2.1)) (au (bA c.1 b.2.2.2.1) (aK (aC c.1
 b.2.2.1) (ai (F169 n (b.1,b.2.1,aZ b.2.2.1 (ak c.1) aA,())) λd=>au (aq d.1.1) (Z (X () (J,()))) (Z (N
 (aE .i64 c.1 1,()))))) (Z (H 0 c))) (Z (H 0 c))) n (0,())) λc=>bp c (λ_ _=>Z ((bA (ax b.2.2.1) b.2.2.2.1,
 ()),())) (λ_ e=>Z (e,())) λ_ _=>Y
def af2(n:Nat):OC:=⟨109,⟨asF,K4,J,F109 n⟩,cM [apc n] [(109,0,⟨[(9,dj)],[],[],0⟩)] n 10 109⟩
def F107:Nat->az×af×L av×U->O fW:=
 λn b=>ai (aQ (Int×U) (Bool×U) (U) (λc=>au (aD c.1 (ax b.2.2.1)) (au (bA c.1 40) (aK (aC c.1 b.2.2.1) (ai
 (F55 n ((aZ b.2.2.1 (ak c.1) aH).1,0,bS .i64 (ax b.1.1) 1,())) λd=>au (aq d.1.1) (Z (X () (J,()))) (ai
 (F109 n (b.1,b.2.1,(aZ b.2.2.1 (ak c.1) aH).2,30,())) λe=>au (aq e.1.1) (Z (X () (J,()))) (aK (aC (aZ b.2.2.1
 (ak c.1) aH).1 b.1.1) (ai (F75 n (aZ b.1.1 (ak (aZ b.2.2.1 (ak c.1) aH).1) aW,())) λg=>ai (F109 n (b.1,b.2.1,
 (aZ b.2.2.1 (ak c.1) aH).3,g.1)) λh=>au (aq h.1.1) (Z (X () (J,()))) (Z (N (aE .i64 c.1 1,()))))))))
 (Z (H 0 c))) (Z (H 0 c))) n (0,())) λc=>bp c (λ_ _=>Z ((bA (ax b.2.2.1) 40,()),())) (λ_ e=>Z (e,()))
 λ_ _=>Y
def ajt(n:Nat):OC:=⟨107,⟨asE,K4,J,F107 n⟩,cM [k55 n,k75 n,af2 n] [(107,0,⟨[(7,dj)],[],[],0⟩)] n 10 107⟩
def F108:Nat->az×L av×Int×U->O fW:=
 λn b=>ai (aQ (Int×U) (Bool×U) (U) (λc=>au (aD c.1 b.2.2.1) (aK (aC c.1 b.2.1) (aK (aC c.1 b.2.1) (aK (aC
 (aZ b.2.1 (ak c.1) aH).1 b.1.1) (ai (F75 n (aZ b.1.1 (ak (aZ b.2.1 (ak c.1) aH).1) aW,())) λd=>au (bA d.1.1
 (ax (aZ b.2.1 (ak c.1) aH).3)) (Z (X () (J,()))) (Z (N (aE .i64 c.1 1,()))))))) (Z (H 0 c))) n (0,()))
 λc=>bp c (λ_ _=>Z ((W,()),())) (λ_ e=>Z (e,())) λ_ _=>Y
def ajs(n:Nat):OC:=⟨108,⟨asD,K4,J,F108 n⟩,cM [k75 n] [(108,0,⟨[(7,dj)],[],[],0⟩)] n 10 108⟩
def wS(n:Nat):O fW:=
 Z ((J,()),())
def F106:Y56:=
 λn b=>au (aa b.2.2.1.2 0) (ai (F107 n (b.1,b.2.1,b.2.2.1.4,())) λc=>au c.1.1 (ai (F109 n (b.1,b.2.1,b.2.2.1.3,1,())) λd=>
 au d.1.1 (au (aD 0 (aE .i64 (ax b.2.2.1.4) (ax b.2.2.1.3))) (ai (F108 n (b.1,b.2.2.1.4,QK (ax b.2.2.1.4) (FV 0 (aE .i64 (bS .i64
 (ax b.2.2.1.4) 1) (ax b.2.2.1.3))),())) λe=>Z e) (wS n)) (wS n)) (wS n)) (au (aa b.2.2.1.2 1) (au (aa (ax b.2.2.1.4)
 0) (au (aa (ax b.2.2.1.3) 1) (ai (F109 n (b.1,b.2.1,b.2.2.1.3,1,())) λc=>Z c) (wS n)) (wS n)) (ai (au (aa b.2.2.1.2 2)
 (Z (N (W,()))) (ai (au (aa b.2.2.1.2 3) (Z (N (W,()))) (Z (N (aa b.2.2.1.2 4,())))) λ(c:HK)=>ck
 c (λd=>Z (N d)) (λ_ _=>Y) (λ_ e=>Z (X () e)) λ_ _=>Y)) λ(c:HK)=>ck c (λd=>au d.1 (au
 (aa (ax b.2.2.1.4) 0) (Z ((aa (ax b.2.2.1.3) 0,()),())) (wS n)) (wS n)) (λ_ _=>Y) (λ_ e=>Z (e,())) λ_ _=>
 Y))
def apF(n:Nat):OC:=⟨106,⟨alW,K4,J,F106 n⟩,cM [ajt n,ajs n,af2 n] [(106,1000008,⟨[(69,dn)],[],[],0⟩),(106,1000009,⟨[(69,dn)],[],[],0⟩)] n 10 106⟩
def rz(n:Nat):O fW:=
 Z ((J,()),())
def F67:Y56:=
 λn b=>au (aa b.2.2.1.1 6) (ai (F106 n b) λc=>Z c) (au (aa b.2.2.1.1 5) (au (aa b.2.2.1.2 0) (au (aa (ax b.2.2.1.3) 0)
 (au (aD 0 (ax b.2.2.1.4)) (ai (F107 n (b.1,b.2.1,b.2.2.1.4,())) λc=>au c.1.1 (ai (F108 n (b.1,b.2.2.1.4,ax b.2.2.1.4,())) λd
 =>au d.1.1 (aK (aC 0 b.2.2.1.4) (aK (aC (aZ b.2.2.1.4 (ak 0) aH).1 b.1.1) (Z ((aa (aZ b.1.1 (ak (aZ b.2.2.1.4 (ak 0)
 aH).1) aW).1 26,()),())))) (rz n)) (rz n)) (rz n)) (rz n)) (rz n)) (au (aq (aa (ax b.2.2.1.4) 0)) (rz n)
 (au (aa b.2.2.1.1 1) (ai (F55 n (b.2.2.1.2,0,bS .i64 (ax b.1.4) 1,())) λc=>au c.1.1 (aK (aC b.2.2.1.2 b.1.4) (au (aa (ax
 b.2.2.1.3) (aZ b.1.4 (ak b.2.2.1.2) bM).2) (ai (F109 n (b.1,b.2.1,b.2.2.1.3,3,())) λd=>Z d) (rz n))) (rz n)) (au (aa
 b.2.2.1.1 2) (ai (F55 n (b.2.2.1.2,0,bS .i64 (ax b.1.1) 1,())) λc=>au c.1.1 (aK (aC b.2.2.1.2 b.1.1) (au (aa (aZ b.1.1 (ak
 b.2.2.1.2) aW).1 5) (ai (F109 n (b.1,b.2.1,b.2.2.1.3,30,())) λd=>Z d) (rz n))) (rz n)) (au (aa b.2.2.1.1 3) (au (aa
 b.2.2.1.2 0) (au (aa (ax b.2.2.1.3) 1) (ai (F109 n (b.1,b.2.1,b.2.2.1.3,1,())) λc=>Z c) (rz n)) (rz n)) (au (aa b.2.2.1.1
 4) (au (aa b.2.2.1.2 0) (ai (F109 n (b.1,b.2.1,b.2.2.1.3,4,())) λc=>Z c) (rz n)) (rz n)))))))
def k67(n:Nat):OC:=⟨67,⟨alW,K4,J,F67 n⟩,cM [k55 n,apF n,ajt n,ajs n,af2 n] [] n 10 67⟩
def yK(n:Nat):O fW:=
 Z ((J,()),())
def F36:Y21:=
 λn b=>au (aD 120 (ax b.2.1.1)) (yK n) (au (aD 100 (ax b.2.1.3)) (yK n) (ai (F16 n (b.2.1.4,50,())) λc=>au (aq
 c.1.1) (yK n) (ai (F55 n (b.2.1.5,0,1000000000,())) λd=>au (aq d.1.1) (yK n) (ai (F66 n b.2) λe=>au (aq e.1.1) (yK n)
 (ai (aQ (Int×U) (Bool×U) (U) (λg=>au (aD g.1 (ax b.2.1.1)) (aK (aC g.1 b.2.1.1) (ai (F67 n (b.1,b.2.1,aZ
 b.2.1.1 (ak g.1) aO,())) λh=>au (aq h.1.1) (Z (X () (J,()))) (Z (N (aE .i64 g.1 1,()))))) (Z (H 0
 g))) n (0,())) λg=>bp g (λ_ _=>ai (aQ (Int×U) (Bool×U) (U) (λj=>au (aD j.1 (ax b.2.1.3)) (aK (aC j.1
 b.2.1.3) (ai (F55 n ((aZ b.2.1.3 (ak j.1) eS).1,0,3,())) λk=>au (aq k.1.1) (Z (X () (J,()))) (aK (aC j.1
 b.2.1.3) (ai (F55 n ((aZ b.2.1.3 (ak j.1) eS).2,(-1000000000),1000000000,())) λl=>au (aq l.1.1) (Z (X () (J,())))
 (Z (N (aE .i64 j.1 1,()))))))) (Z (H 0 j))) n (0,())) λj=>bp j (λ_ _=>Z ((W,()),())) (λ_ l=>Z (l,
 ())) λ_ _=>Y) (λ_ i=>Z (i,())) λ_ _=>Y)))))
def k36(n:Nat):OC:=⟨36,⟨P67,K4,J,F36 n⟩,cM [k16 n,k55 n,k66 n,k67 n] [(36,0,⟨[(5,dj)],[],[],0⟩),(36,2,⟨[(6,dj)],[],[],0⟩)] n 10 36⟩
def F22:Y21:=
 λn b=>ai (F15 n (b.1,())) λc=>au c.1.1 (ai (F36 n b) λd=>Z d) (Z ((J,()),()))
def k22(n:Nat):OC:=⟨22,⟨P67,K4,J,F22 n⟩,cM [k15 n,k36 n] [] n 10 22⟩
def F39:Nat->Y17->O Y18:=
 λn b=>ai (aQ (WJ) (L Int×U) (U) (λc=>au (aD c.2.1 (ax b.2.1.2)) (ai (F40 n (b.1,b.2.1,c.2)) λd=>au
 (aq (aa d.1.1.2 2)) (aK (dB c.1 [c.2.1]) (Z (N (cX c.1 [c.2.1],aE .i64 c.2.1 1,())))) (Z (N (c.1,aE .i64 c.2.1
 1,())))) (Z (H 0 c))) n ([],0,())) λc=>bp c (λ_ e=>Z ((e.1,()),())) (λ_ e=>Z (e,())) λ_ _=>Y
def k39(n:Nat):OC:=⟨39,⟨P67,K63,J,F39 n⟩,cM [k40 n] [(39,0,⟨[(5,.one (.own (.int .i64))),(6,dj)],[],[],0⟩)] n 10 39⟩
def F64:Nat->Int×Int×U->Iq:=
 λn b=>aK (nzI b.2.1) (au (aD (rA b.1 b.2.1) 0) (Z ((aE .i64 (rA b.1 b.2.1) b.2.1,()),())) (Z ((rA b.1 b.2.1,()),())))
def k64(n:Nat):OC:=⟨64,⟨asC,K2,J,F64 n⟩,cM [] [] n 10 64⟩
def PC(n:Nat)(c:Y71):O Y73:=
 Z ((c.1.1,br,0,8,()),())
def F34:alL:=
 λn b=>ai (F33 n (b.1,b.2.1,0,())) λc=>au (aq c.1.2.2.1) (PC n c) (ai (F39 n (b.1,c.1.1,())) λd=>au (aa (ax d.1.1)
 0) (Z ((c.1.1,br,0,5,()),())) (ai (F64 n (b.2.2.1,ax d.1.1,())) λe=>aK (aC e.1.1 d.1.1) (ai (F40 n (b.1,c.1.1,aZ d.1.1
 (ak e.1.1) 0,())) λg=>ai (F33 n (b.1,g.1.1.1,aE .i64 c.1.2.1 1,())) λh=>au (aq h.1.2.2.1) (PC n h) (au (aD 5000
 h.1.2.1) (PC n h) (Z ((h.1.1,g.1.1.3,h.1.2.1,0,()),()))))))
def k34(n:Nat):OC:=⟨34,⟨P68,K69,J,F34 n⟩,cM [k33 n,k39 n,k40 n,k64 n] [] n 10 34⟩
def Kl(b:Y35)(c:Int×U):aN:=
 aZ b.2.1 (ak c.1) br
def F24:Nat->Y35->O fW:=
 λn b=>au (aq (aa (ax b.1) (ax b.2.1))) (Z ((J,()),())) (ai (aQ (Int×U) (Bool×U) (U) (λc=>au
 (aD c.1 (ax b.1)) (aK (aC c.1 b.1) (aK (aC c.1 b.2.1) (au (aq (bP (aa (aZ b.1 (ak c.1) br).1 (Kl b c).1) (bP
 (aa (aZ b.1 (ak c.1) br).2 (Kl b c).2) (bP (aa (aZ b.1 (ak c.1) br).3 (Kl b c).3) (bP (aa (aZ b.1 (ak
 c.1) br).4.1 (Kl b c).4.1) (bP (aa (aZ b.1 (ak c.1) br).4.2 (Kl b c).4.2) W)))))) (Z (X () (J,())))
 (Z (N (aE .i64 c.1 1,())))))) (Z (H 0 c))) n (0,())) λc=>bp c (λ_ _=>Z ((W,()),())) (λ_ e=>Z (e,
 ())) λ_ _=>Y)
def k24(n:Nat):OC:=⟨24,⟨asB,K4,J,F24 n⟩,cM [] [(24,0,⟨[(5,dj)],[],[],0⟩)] n 10 24⟩
def F103:Nat->WJ->O Y18:=
 λn b=>ai (F105 n b) λc=>au c.1.1 (Z ((b.1,()),())) (aK (dB b.1 [b.2.1]) (Z ((cX b.1 [b.2.1],()),())))
def F104:Nat->L Int×L aj×U->O Y18:=
 λn b=>ai (aQ (WJ) (L Int×U) (U) (λc=>au (aD c.2.1 (ax b.2.1)) (aK (aC c.2.1 b.2.1) (au (aa (aZ b.2.1
 (ak c.2.1) aA).1 5) (aK (aC c.2.1 b.2.1) (ai (F103 n (c.1,(aZ b.2.1 (ak c.2.1) aA).2,())) λd=>Z (N (d.1.1,aE .i64
 c.2.1 1,())))) (Z (N (c.1,aE .i64 c.2.1 1,()))))) (Z (H 0 c))) n (b.1,0,())) λc=>bp c (λ_ e=>Z ((e.1,()),
 ())) (λ_ _=>Y) λ_ _=>Y
def Sk(n:Nat)(b:Y61):O fW:=
 au (aq (aa (ax b.1.3) (ax b.2.1.3))) (Z ((J,()),())) (ai (aQ (Int×U) (Bool×U) (U) (λg=>au (aD g.1
 (ax b.1.3)) (aK (aC g.1 b.1.3) (aK (aC g.1 b.2.1.3) (au (aq (bP (aa (aZ b.1.3 (ak g.1) aA).1 (aZ b.2.1.3 (ak g.1)
 aA).1) (bP (aa (aZ b.1.3 (ak g.1) aA).2 (aZ b.2.1.3 (ak g.1) aA).2) W))) (Z (X () (J,()))) (Z
 (N (aE .i64 g.1 1,())))))) (Z (H 0 g))) n (0,())) λg=>bp g (λ_ _=>Z ((W,()),())) (λ_ i=>Z (i,())) λ
 _ _=>Y)
def F134:Nat->Y61->O fW:=
 λn b=>au (aa b.1.1 b.2.1.1) (au (aq (aa (ax b.1.2) (ax b.2.1.2))) (Z ((J,()),())) (ai (aQ (Int×U) (Bool×U) (U) (λc=>au (aD c.1 (ax b.1.2)) (aK (aC c.1 b.1.2) (aK (aC c.1 b.2.1.2) (au (aq (bP (aa (aZ b.1.2 (ak c.1)
 aA).1 (aZ b.2.1.2 (ak c.1) aA).1) (bP (aa (aZ b.1.2 (ak c.1) aA).2 (aZ b.2.1.2 (ak c.1) aA).2) W))) (Z
 (X () (J,()))) (Z (N (aE .i64 c.1 1,())))))) (Z (H 0 c))) n (0,())) λc=>bp c (λ_ _=>Sk n b) (λ_ e
 =>au e.1 (Sk n b) (Z ((J,()),()))) λ_ _=>Y)) (Z ((J,()),()))
def apt(n:Nat):OC:=⟨134,⟨asA,K4,J,F134 n⟩,cM [] [(132,0,⟨[(13,dj)],[],[],0⟩)] n 10 134⟩
def Pw(n:Nat):O fW:=
 Z ((J,()),())
def aaF(n:Nat)(b:alA):O fW:=
 au (aq (aa (ax b.1.4) (ax b.2.1.4))) (Pw n) (ai (aQ (Int×U) (Bool×U) (U) (λg=>au (aD g.1 (ax b.1.4))
 (aK (aC g.1 b.1.4) (aK (aC g.1 b.2.1.4) (ai (F134 n (aZ b.1.4 (ak g.1) aH,aZ b.2.1.4 (ak g.1) aH,())) λh=>au
 (aq h.1.1) (Z (X () (J,()))) (Z (N (aE .i64 g.1 1,())))))) (Z (H 0 g))) n (0,())) λg=>bp g (λ_ _=>
 Z ((W,()),())) (λ_ i=>Z (i,())) λ_ _=>Y)
def F79:alz:=
 λn b=>au (aa b.1.1 b.2.1.1) (au (aa b.1.2 b.2.1.2) (au (aq (aa (ax b.1.3) (ax b.2.1.3))) (Pw n) (ai (aQ (Int×U) (Bool×U) (U) (λc=>au (aD c.1 (ax b.1.3)) (aK (aC c.1 b.1.3) (aK (aC c.1 b.2.1.3) (au (aq (bP (aa (aZ b.1.3
 (ak c.1) aA).1 (aZ b.2.1.3 (ak c.1) aA).1) (bP (aa (aZ b.1.3 (ak c.1) aA).2 (aZ b.2.1.3 (ak c.1) aA).2)
 W))) (Z (X () (J,()))) (Z (N (aE .i64 c.1 1,())))))) (Z (H 0 c))) n (0,())) λc=>bp c (λ_ _=>aaF n
 b) (λ_ e=>au e.1 (aaF n b) (Pw n)) λ_ _=>Y)) (Pw n)) (Pw n)
def k79(n:Nat):OC:=⟨79,⟨alY,K4,J,F79 n⟩,cM [apt n] [(132,0,⟨[(13,dj)],[],[],0⟩),(133,0,⟨[(17,dj)],[],[],0⟩)] n 10 79⟩
def yJ(n:Nat):O Y89:=
 Z ((J,0,()),())
def aaM(n:Nat)(c:Y30)(d:Y30):O Y89:=
 au (aq (aa (ax c.1.1.4) (ax d.1.1.4))) (yJ n) (ai (aQ (Int×U) (Bool×U) (U) (λp=>au (aD p.1 (ax
 c.1.1.4)) (aK (aC p.1 c.1.1.4) (aK (aC p.1 d.1.1.4) (au (aq (aa (aZ c.1.1.4 (ak p.1) 0) (aZ d.1.1.4 (ak p.1) 0))) (Z (X ()
 (J,()))) (Z (N (aE .i64 p.1 1,())))))) (Z (H 0 p))) n (0,())) λp=>bp p (λ_ _=>Z ((aa c.1.1.5 d.1.1.5,0,
 ()),())) (λ_ r=>au r.1 (Z ((aa c.1.1.5 d.1.1.5,0,()),())) (yJ n)) λ_ _=>Y)
def aaL(n:Nat)(c:Y30)(d:Y30):O Y89:=
 au (aq (aa (ax c.1.1.3) (ax d.1.1.3))) (yJ n) (ai (aQ (Int×U) (Bool×U) (U) (λl=>au (aD l.1 (ax
 c.1.1.3)) (aK (aC l.1 c.1.1.3) (aK (aC l.1 d.1.1.3) (au (aq (bP (aa (aZ c.1.1.3 (ak l.1) eS).1 (aZ d.1.1.3 (ak l.1)
 eS).1) (bP (aa (aZ c.1.1.3 (ak l.1) eS).2 (aZ d.1.1.3 (ak l.1) eS).2) W))) (Z (X () (J,()))) (Z
 (N (aE .i64 l.1 1,())))))) (Z (H 0 l))) n (0,())) λl=>bp l (λ_ _=>aaM n c d) (λ_ o=>au o.1 (aaM n c d) (yJ
 n)) λ_ _=>Y)
def PB(n:Nat)(c:Y30)(d:Y30):O Y89:=
 au (aq (aa (ax c.1.1.2) (ax d.1.1.2))) (yJ n) (ai (aQ (Int×U) (Bool×U) (U) (λi=>au (aD i.1 (ax
 c.1.1.2)) (aK (aC i.1 c.1.1.2) (aK (aC i.1 d.1.1.2) (au (aq (aa (aZ c.1.1.2 (ak i.1) 0) (aZ d.1.1.2 (ak i.1) 0))) (Z (X ()
 (J,()))) (Z (N (aE .i64 i.1 1,())))))) (Z (H 0 i))) n (0,())) λi=>bp i (λ_ _=>aaL n c d) (λ_ k=>au k.1
 (aaL n c d) (yJ n)) λ_ _=>Y)
def F41:Nat->Y90->O Y89:=
 λn b=>ai (F28 n (b.1,b.2.1,())) λc=>ai (F28 n (b.1,b.2.2)) λd=>au (aq (aa c.1.2.1 0)) (Z ((J,2,()),())) (au
 (aq (aa d.1.2.1 0)) (Z ((J,2,()),())) (au (aq (aa (ax c.1.1.1) (ax d.1.1.1))) (yJ n) (ai (aQ (Int×U) (Bool×
 U) (U) (λe=>au (aD e.1 (ax c.1.1.1)) (aK (aC e.1 c.1.1.1) (aK (aC e.1 d.1.1.1) (ai (F79 n (aZ c.1.1.1 (ak e.1)
 aO,aZ d.1.1.1 (ak e.1) aO,())) λg=>au (aq g.1.1) (Z (X () (J,()))) (Z (N (aE .i64 e.1 1,()))))))
 (Z (H 0 e))) n (0,())) λe=>bp e (λ_ _=>PB n c d) (λ_ h=>au h.1 (PB n c d) (yJ n)) λ_ _=>Y)))
def k41(n:Nat):OC:=⟨41,⟨asy,K153,J,F41 n⟩,cM [k28 n,k79 n] [(78,0,⟨[(17,dj)],[],[],0⟩),(80,0,⟨[(13,dj)],[],[],0⟩),(81,0,⟨[(13,dj)],[],[],0⟩)] n 10 41⟩
def F82:Y21:=
 λn b=>ai (aQ (Int×U) (Bool×U) (U) (λc=>au (aD c.1 (ax b.2.1.2)) (ai (F40 n (b.1,b.2.1,c)) λd=>au (aa
 d.1.1.2 1) (au (aa d.1.1.3.2 0) (au (aa d.1.1.3.3 4) (Z (X () (W,()))) (Z (N (aE .i64 c.1 1,())))) (Z (N
 (aE .i64 c.1 1,())))) (Z (N (aE .i64 c.1 1,())))) (Z (H 0 c))) n (0,())) λc=>bp c (λ_ _=>Z ((J,()),()))
 (λ_ e=>Z (e,())) λ_ _=>Y
def k82(n:Nat):OC:=⟨82,⟨P67,K4,J,F82 n⟩,cM [k40 n] [(82,0,⟨[(5,dj)],[],[],0⟩)] n 10 82⟩
def Kj(d:Y72):af:=
 af.mk d.2.2.1.1 d.2.2.1.2.1 d.2.2.1.2.2.1 d.2.2.1.2.2.2.1 d.2.2.1.2.2.2.2.1
def aaK(g:Y73):zy×U:=
 ((g.1.1.1,g.1.1.2,g.1.1.3,g.1.1.4,g.1.1.5,()),())
def amf(c:Y71):zy×U:=
 ((c.1.1.1,c.1.1.2,c.1.1.3,c.1.1.4,c.1.1.5,()),())
def F43:Y75:=
 λn b=>ai (F33 n (b.1,b.2.1,0,())) λc=>ai (aQ (Y72) (Bool×U) (zy×U) (λd=>au (aD d.2.1 (ax b.2.2.1)) (au
 d.1 (ai (F82 n (b.1,Kj d,())) λe=>au (aq e.1.1) (aK (aC d.2.1 b.2.2.1) (ai (F34 n (b.1,Kj d,aZ b.2.2.1 (ak d.2.1) 0,()))
 λg=>au (aa g.1.2.2.2.1 5) (Z (X d.2.2 (J,()))) (Z (N (aa g.1.2.2.2.1 0,aE .i64 d.2.1 1,aaK g))))) (Z
 (H 0 d))) (Z (H 0 d))) (Z (H 0 d))) n (c.1.2.2.1,0,amf c)) λd=>bp d (λ_ g=>au (aq g.1) (Z ((W,()),
 ())) (ai (F82 n (b.1,Kj g,())) λh=>Z h)) (λ_ g=>Z (g,())) λ_ _=>Y
def k43(n:Nat):OC:=⟨43,⟨P65,K4,J,F43 n⟩,cM [k33 n,k34 n,k82 n] [(43,0,⟨[(8,dn),(9,dj),(0,b4z)],[.slot 4],[],0⟩)] n 10 43⟩
end Mn
end
section
namespace TL
open Go
section
def Ev{α:Type}(f:Nat->O α)(r:α):Prop:=∃N,∀n,N<=n->f n=Z r
section
variable {α β γ:Type}
def Ev.pure(r:α):Ev (λ_=>Z r) r:=⟨0,λ_ _=>rfl⟩
theorem Ev.of_eq{f:Nat->O α}{r:α}(h:∀n,f n=Z r):Ev f r:=⟨0,λn _=>h n⟩
theorem Ev.fR{f g:Nat->O α}{r:α}(h:∀n,f n=g n)(a:Ev g r):Ev f r:=(funext h:f=g)▸a
theorem Ev.ai{f:Nat->O α}{a:α}{g:Nat->α->O β}{r:β}(h:Ev f a)(d:Ev (λn=>g n a) r):Ev (λn=>ai (f n) (g n)) r:=by
 let ⟨b,h⟩:=h
 let ⟨c,d⟩:=d
 refine⟨max b c,λn e=>?_⟩
 grind[TL.ai]
end
def yM{α β:Type}(f:Nat->Nat->α->O β)(x:α)(r:β):Prop:=∀d,Ev (λn=>f n (n-d) x) r
theorem yM.step{α β:Type}{f:Nat->Nat->α->O β}{g:Nat->(α->O β)->α->O β}{x:α}{r:β}(h:∀n k,f n (k+1)=g n (f n k))
  (b:∀d,Ev (λn=>g n (f n (n-d)) x) r):yM f x r:=by
 intro d
 let ⟨a,c⟩:=b (d+1)
 refine⟨max a (d+1),λn i=>?_⟩;have e:n-d=(n-(d+1))+1:=by omega
 grind
section
variable {X R B P:Type}
inductive fj(F:Nat->X->Option (LO X R B P)):X->LO X R B P->Prop
 |next {x y:X} {o:LO X R B P}:Ev (λn=>F n x) (.next y)->fj F y o->fj F x o|out {x y:X} {j:Nat}:Ev (λn=>F n x) (.out j y)->fj F x (.out j y)|ret {x:X} {b:B} {r:R}:Ev (λn=>F n x) (.ret b r)->fj F x (.ret b r)|hU {x:X} {b:B} {p:P}:Ev (λn=>F n x) (.hU b p)->fj F x (.hU b p)
def fj.last{F:Nat->X->O (LO X R B P)}{x:X}{o:LO X R B P}(h:Ev (λn=>F n x) o)(hn:∀y,o≠.next y):fj F x o:=by cases o with|next y=>simp_all|out j y=>exact .out h|ret b r=>exact .ret h|hU b p=>exact .hU h
theorem fj.fuel{F:Nat->X->O (LO X R B P)}{x:X}{o:LO X R B P}(h:fj F x o):∃NN,∀n k,NN<=n->NN<=k->iter (F n) k x=Z o:=by
 induction h with
 |next h _ d=>
  let ⟨NN,h⟩:=h
  let ⟨a,d⟩:=d
  refine⟨max NN a+1,λn k b c=>?_⟩;cases k with
  |zero=>omega|succ k=>
   grind[iter]
 |out h=>
  let ⟨NN,h⟩:=h
  refine⟨NN+1,λn k b c=>?_⟩;cases k with|zero=>omega|succ k=>unfold iter;rw[show F n _=_ from h n (by omega)]
 |ret h=>
  let ⟨NN,h⟩:=h
  refine⟨NN+1,λn k b c=>?_⟩;cases k with|zero=>omega|succ k=>unfold iter;rw[show F n _=_ from h n (by omega)]
 |hU h=>
  let ⟨NN,h⟩:=h
  refine⟨NN+1,λn k b c=>?_⟩;cases k with|zero=>omega|succ k=>unfold iter;rw[show F n _=_ from h n (by omega)]
theorem Ev.iter{F:Nat->X->O (LO X R B P)}{x:X}{o:LO X R B P}(h:fj F x o):Ev (λn=>TL.iter (F n) n x) o:=by
 let ⟨a,h⟩:=h.fuel
 exact⟨a,λn b=>h n n b b⟩
def Ev.aT{β:Type}{F:Nat->X->O (LO X R B P)}{x:X}{o:LO X R B P}(h:fj F x o)(g:Nat->LO X R B P->O β)(r:β)(a:Ev (λn=>g n o) r):Ev (λn=>TL.ai (TL.iter (F n) n x) (g n)) r:=(Ev.iter h).ai a
def fj.many{F:Nat->X->O (LO X R B P)}{o:LO X R B P}:∀(k:Nat)(s:Nat->X),(∀i,i<k->Ev (λn=>F n (s i)) (.next (s (i+1))))->fj F (s k) o->fj F (s 0) o
 |0,_,_,h=>h|k+1,s,a,h=>.next (a 0 (by omega)) (fj.many k (λi=>s (i+1)) (λi b=>a (i+1) (by omega)) h)
theorem pE{F:Nat->X->O (LO X R B P)}(len:Nat)(s:Nat->X)(q:Nat->Bool)(bad:Nat->LO X R B P)(g:Nat)(o:∀i y,bad i≠.next y)
  (h:∀i,i<len->(∀j,j<i->q j=W)->Ev (λn=>F n (s i)) (bif q i then .next (s (i+1))else bad i))
  (p:(∀j,j<len->q j=W)->Ev (λn=>F n (s len)) (.out g (s len))) :
  ((∀i,i<len->q i=W)∧fj F (s 0) (.out g (s len)))∨∃i,i<len∧q i=J∧(∀j,j<i->q j=W)∧fj F (s 0) (bad i):=by
 have key:∀m i,i+m=len->(∀j,j<i->q j=W)->((∀i,i<len->q i=W)∧fj F (s i) (.out g (s len)))∨∃k,k<len∧q k=J∧(∀j,j<k->q j=W)∧fj F (s i) (bad k):=by
  intro m
  induction m with
  |zero=>
   intro i r e;have:i=len:=by omega
   subst this;exact .inl ⟨e,.out (p e)⟩
  |succ m t=>
   intro i r e;have f:=h i (by omega) e;cases l:q i with
   |false=>rw[l]at f;exact .inr ⟨i,by omega,l,e,.last f (o i)⟩
   |true=>
    rw[l]at f;rcases t (i+1) (by omega) (λj u=>by
     grind)with⟨a,b⟩|⟨k,a,b,c,d⟩
    .exact .inl ⟨a,.next f b⟩
    .exact .inr ⟨k,a,b,c,.next f d⟩
 simp_all
def gn{F:Nat->X->O (LO X R B P)}(len:Nat)(s:Nat->X)(a:Nat)(h:∀i,i<len->Ev (λn=>F n (s i)) (.next (s (i+1))))(b:Ev (λn=>F n (s len)) (.out a (s len))):fj F (s 0) (.out a (s len)):=
 fj.many len s h (.out b)
end
section
theorem zQ{n:Int}(h1:-9223372036854775808<=n)(h2:n<=9223372036854775807):IntKind.wrap .i64 n=n:=by
 grind[IntKind.wrap,IntKind.bits,IntKind.signed]
theorem bF{a b:Int}(h1:-9223372036854775808<=a+b)(h2:a+b<=9223372036854775807):aE .i64 a b=a+b:=zQ h1 h2
theorem cZ{a b:Int}(h1:-9223372036854775808<=a-b)(h2:a-b<=9223372036854775807):bS .i64 a b=a-b:=zQ h1 h2
def Yd{a b:Int}(h1:-9223372036854775808<=a*b)(h2:a*b<=9223372036854775807):Ii .i64 a b=a*b:=zQ h1 h2
def Tq{α:Type}{n:Int}{l:L α}:aC n l=W↔0<=n∧n<l.length:=by simp[aC]
def YL{α:Type}{k:Nat}{l:L α}:cJ k l=W↔k<l.length:=by simp[cJ]
def TN{lo a len:Int}:iJ lo a len=W↔0<=lo∧lo<=a∧a<=len:=by simp[iJ]
def GM{α:Type}{a b:L α}:dB a b=W↔a.length+b.length<=17179869184:=by simp[dB]
theorem lA{a b:Int}:aa a b=W↔a=b:=by simp[aa]
def xu{a b:Int}:aD a b=W↔a<b:=by simp[aD]
end
section
variable {α β:Type}
theorem J6(a:α)(f:α->O β):ai (Z a) f=f a:=rfl
theorem akK{R P:Type}(r:R)(f:R->O α)(g:P->O α):cC (.ok r) f g=f r:=rfl
theorem agZ{R P:Type}(p:P)(f:R->O α)(g:P->O α):cC (.hU p) f g=g p:=rfl
theorem J2(x:O α):aK W x=x:=rfl
theorem E3(x y:O α):au W x y=x:=rfl
theorem E4(x y:O α):au J x y=y:=rfl
def A0{γ:Type}{i:Int}{l:L γ}(h1:0<=i)(h2:i<(l.length:Int))(x:O α):aK (aC i l) x=x:=by rw[Tq.2 ⟨h1,h2⟩];rfl
def Z1{γ:Type}{k:Nat}{l:L γ}(h:k<l.length)(x:O α):aK (cJ k l) x=x:=by rw[YL.2 h];rfl
def adA{a b c:Int}(h1:0<=a)(h2:a<=b)(h3:b<=c)(x:O α):aK (iJ a b c) x=x:=by rw[TN.2 ⟨h1,h2,h3⟩];rfl
theorem LI{γ:Type}{a b:L γ}(h:a.length+b.length<=17179869184)(x:O α):aK (dB a b) x=x:=by rw[GM.2 h];rfl
def LK(a b:Bool)(x:O α):aK (Ec a b) x=aK a (aK b x):=by cases a<;>rfl
def LJ{a b:Int}(h:a=b)(x:O α):aK (iT a b) x=x:=by subst h;simp[iT,aK]
def abE{a b:Int}(h:a=b)(x y:O α):au (iT a b) x y=x:=by subst h;simp[iT,au]
def Xa{a b:Int}(h:a≠b)(x y:O α):au (iT a b) x y=y:=by simp[iT,au,h]
theorem n7{a b:Int}(h:a<b)(x y:O α):au (aD a b) x y=x:=by rw[xu.2 h];rfl
def xb{a b:Int}(h:b<=a)(x y:O α):au (aD a b) x y=y:=by simp[au,aD,Int.not_lt.2 h]
def tu{a b:Int}(h:a<=b)(x y:O α):au (bA a b) x y=x:=by simp[au,bA,h]
def KC{a b:Int}(h:b<a)(x y:O α):au (bA a b) x y=y:=by simp[au,bA,Int.not_le.2 h]
theorem n8{a b:Int}(h:a=b)(x y:O α):au (aa a b) x y=x:=by rw[lA.2 h];rfl
theorem lq{a b:Int}(h:a≠b)(x y:O α):au (aa a b) x y=y:=by rw[show aa a b=J by simp[aa,h]];rfl
theorem dG(a:Bool)(x y:O α):au (aq a) x y=au a y x:=by cases a<;>rfl
theorem aiW{a b:Int}(h:a<b):aD a b=W:=xu.2 h
def anU{a b:Int}(h:b<=a):aD a b=J:=by simp[aD,Int.not_lt.2 h]
def afP{a b:Int}(h:a<=b):bA a b=W:=by simp[bA,h]
def afQ{a b:Int}(h:b<a):bA a b=J:=by simp[bA,Int.not_le.2 h]
theorem og{a b:Int}(h:a=b):aa a b=W:=lA.2 h
def jh{a b:Int}(h:a≠b):aa a b=J:=by simp[aa,h]
theorem ahb(x y:α):(bif W then x else y)=x:=rfl
theorem ahc(x y:α):(bif J then x else y)=y:=rfl
def W1(l:L α):eZ l 0 (l.length:Int)=l:=by simp[eZ]
def w8(l:L α)(k:Int):eZ l k (l.length:Int)=l.drop k.toNat:=by simp[eZ]
theorem oK(l:L α)(k:Int):eZ l 0 k=l.take k.toNat:=by simp[eZ]
theorem Yc(k:Nat):ak (k:Int)=k:=rfl
theorem Eu(l:L α):ax l=(l.length:Int):=rfl
theorem ZG(l:L α)(k:Nat)(z:α):aZ l k z=l.getD k z:=rfl
theorem acf(n:Int):ak n=n.toNat:=rfl
theorem adC(a b:L α):cX a b=a++b:=rfl
theorem abW(l:L α)(k:Nat)(x:α):eg l k x=l.set k x:=rfl
def acq(a b:L α):(a++b).length=a.length+b.length:=Fm
def Yv(a:α)(l:L α):(a::l).length=l.length+1:=qH
theorem acp:([]:L α).length=0:=rfl
def Yb(k:Nat):Int.toNat (k:Int)=k:=Fl k
theorem Ya:Int.toNat 0=0:=rfl
theorem ace:Int.toNat 1=1:=rfl
end
def lz:(∀{α:Type}(a b:L α),(a++b).length=a.length+b.length)∧(∀{α:Type}(a:α)(l:L α),(a::l).length=l.length+1)∧(∀{α:Type},([]:L α).length=0)∧
 (∀{α:Type}(k:Nat)(l:L α),(l.drop k).length=l.length-k)∧(∀{α:Type}(k:Nat)(l:L α),(l.take k).length=min k l.length)∧(∀{α:Type}(k:Nat)(x:α)(l:L α),(l.set k x).length=l.length):=
 ⟨λ_ _=>Fm,λ_ _=>rfl,rfl,λ_ _=>List.length_drop,λ_ _=>SY,λ_ _ _=>KN⟩
def bf:(∀{α:Type}{β:Type}(a:α)(f:α->O β),ai (Z a) f=f a)∧
 (∀{α:Type}{R P:Type}(r:R)(f:R->O α)(g:P->O α),cC (.ok r) f g=f r)∧
 (∀{α:Type}{R P:Type}(p:P)(f:R->O α)(g:P->O α),cC (.hU p) f g=g p)∧
 (∀{α:Type}(x:O α),aK W x=x)∧
 (∀{α:Type}(x y:O α),au W x y=x)∧
 (∀{α:Type}(x y:O α),au J x y=y)∧
 (∀{α:Type}{γ:Type}{i:Int}{l:L γ}(h1:0<=i)(h2:i<(l.length:Int))(x:O α),aK (aC i l) x=x)∧
 (∀{α:Type}{γ:Type}{k:Nat}{l:L γ}(h:k<l.length)(x:O α),aK (cJ k l) x=x)∧
 (∀{α:Type}{a b c:Int}(h1:0<=a)(h2:a<=b)(h3:b<=c)(x:O α),aK (iJ a b c) x=x)∧
 (∀{α:Type}{γ:Type}{a b:L γ}(h:a.length+b.length<=17179869184)(x:O α),aK (dB a b) x=x)∧
 (∀{α:Type}(a b:Bool)(x:O α),aK (Ec a b) x=aK a (aK b x))∧
 (∀{α:Type}{a b:Int}(h:a=b)(x:O α),aK (iT a b) x=x)∧
 (∀{α:Type}{a b:Int}(h:a=b)(x y:O α),au (iT a b) x y=x)∧
 (∀{α:Type}{a b:Int}(h:a≠b)(x y:O α),au (iT a b) x y=y)∧
 (∀{α:Type}{a b:Int}(h:a<b)(x y:O α),au (aD a b) x y=x)∧
 (∀{α:Type}{a b:Int}(h:b<=a)(x y:O α),au (aD a b) x y=y)∧
 (∀{α:Type}{a b:Int}(h:a<=b)(x y:O α),au (bA a b) x y=x)∧
 (∀{α:Type}{a b:Int}(h:b<a)(x y:O α),au (bA a b) x y=y)∧
 (∀{α:Type}{a b:Int}(h:a=b)(x y:O α),au (aa a b) x y=x)∧
 (∀{α:Type}{a b:Int}(h:a≠b)(x y:O α),au (aa a b) x y=y)∧
 (∀{α:Type}(a:Bool)(x y:O α),au (aq a) x y=au a y x)∧
 (∀{a b:Int}(h:a<b),aD a b=W)∧
 (∀{a b:Int}(h:b<=a),aD a b=J)∧
 (∀{a b:Int}(h:a<=b),bA a b=W)∧
 (∀{a b:Int}(h:b<a),bA a b=J)∧
 (∀{a b:Int}(h:a=b),aa a b=W)∧
 (∀{a b:Int}(h:a≠b),aa a b=J)∧
 (∀{α:Type}(x y:α),(bif W then x else y)=x)∧
 (∀{α:Type}(x y:α),(bif J then x else y)=y)∧
 (∀{α:Type}(l:L α),eZ l 0 (l.length:Int)=l)∧
 (∀{α:Type}(l:L α),ax l=(l.length:Int))∧
 (∀{α:Type}(l:L α)(k:Nat)(z:α),aZ l k z=l.getD k z)∧
 (∀(n:Int),ak n=n.toNat)∧
 (∀{α:Type}(a b:L α),cX a b=a++b)∧
 (∀{α:Type}(l:L α)(k:Nat)(x:α),eg l k x=l.set k x)∧
 (∀{α:Type}(a b:L α),(a++b).length=a.length+b.length)∧
 (∀{α:Type}(a:α)(l:L α),(a::l).length=l.length+1)∧
 (∀{α:Type},([]:L α).length=0)∧
 (∀(k:Nat),Int.toNat (k:Int)=k)∧
 (Int.toNat 0=0)∧
 (Int.toNat 1=1):=
 ⟨@J6,@akK,@agZ,@J2,@E3,@E4,@A0,@Z1,@adA,@LI,@LK,@LJ,@abE,@Xa,@n7,@xb,@tu,@KC,@n8,@lq,@dG,@aiW,@anU,@afP,@afQ,@og,@jh,@ahb,@ahc,@W1,@Eu,@ZG,@acf,@adC,@abW,@acq,@Yv,@acp,@Yb,@Ya,@ace⟩
theorem aY{α:Type}{f:Nat->O α}{r:α}(h:∀n,f n=Z r):Ev f r:=.of_eq h
theorem bO{α:Type}{f:Nat->O α}{r:α}(h:∀n,f n=Z r:=by intro n;rfl):Ev f r:=.of_eq h
end
end TL
end
section
namespace Mn
open Go TL
def qF(a b:aj):Bool:=a.Kind==b.Kind&&a.N==b.N
def gf(n:Int):aj:=⟨1,n⟩
def gK(b:Bool):aj:=⟨2,bif b then 1 else 0⟩
def ej:aj:=⟨3,0⟩
def pT(n:Int):aj:=⟨5,n⟩
def jo(v:aj):aj:=if v.Kind=4∨v.Kind=5 then pT 0 else v
def dS:L Nat:=[0,0,0,0,0,0,2,1,1,2,2,2,2,2,0,1,1,1,2,1,1,0,2,1,1,0,1,0,0]
def jr(n:bw):Int:=if n.Op=14 then n.Kids.length else(dS.getD n.Op.toNat 0:Nat)
def nodeAt(p:az)(n:Int):bw:=p.bh.getD n.toNat aW
def bI(w:af)(n:Int):aB:=w.aJ.getD n.toNat aO
def bK(w:af)(at_:Int):Int:=w.aM.getD at_.toNat 0
def bE(l:L aj)(n:Nat):aj:=l.getD n aA
def iN(w:af)(n:Int)(o:aB):af:=⟨w.aJ.set n.toNat o,w.aM,w.ei,w.lK,w.Used⟩
inductive mV where
 |fail (s:Int)|waits|go (w:af) (fr:List av) (bk:List aj) (e:Option aN)
def fc(w:af)(left:L av)(v:aj):mV:=.go w left [v] Y
def hG(w:af)(left:L av)(node:Int)(env:L aj):mV:=
 if 40<=left.length∨30<env.length then .fail 4 else .go w (left++[⟨node,env,[]⟩]) [] Y
def dZ(w:af)(o:aB):af:=⟨w.aJ++[o],w.aM,w.ei,w.lK,w.Used⟩
def jQ(w:af)(left:L av)(o:aB):mV:=
 if 120<=w.aJ.length then .fail 4 else fc (dZ w o) left (pT w.aJ.length)
def Zz(at_:Int)(op n:Int)(v:aj):mV->mV
 |.go w a b _=>.go w a b (Z ⟨at_,op,n,jo v⟩)|r=>r
def eV(w:af)(v:aj)(a:Int):O aB:=
 if v.Kind=5∧(bI w v.N).Form=a then Z (bI w v.N)else Y
def fI(p:az)(w:af)(f v:aj):O av:=
 if f.Kind=4 then Z ⟨p.dM.getD f.N.toNat 0,[v],[]⟩
 else match eV w f 2 with
  |some o=>Z ⟨(nodeAt p o.N).Kids.getD 0 0,o.bg++[v],[]⟩|none=>Y
def rW(p:az)(w:af)(left:L av)(f v:aj):mV:=
 match eV w f 5 with
 |some o=>if 40<left.length+o.Frames.length then .fail 4 else fc w (left++o.Frames) v|none=>match fI p w f v with
  |none=>.fail 2|some b=>hG w left b.Node b.Env
def gT(n:Int):Bool:=decide (-1000000000<=n)&&decide (n<=1000000000)
def om(w:af)(left:L av)(op:Int)(u v:aj):mV:=
 if op=13 then(if u.Kind≠v.Kind∨3<u.Kind then .fail 2 else fc w left (gK (qF u v)))
 else if u.Kind≠1∨v.Kind≠1 then .fail 2
 else if op=12 then fc w left (gK (decide (u.N<v.N)))
 else
  let n:=if op=9 then u.N+v.N else if op=10 then u.N-v.N else u.N*v.N
  if gT n=W then fc w left (gf n)else .fail 4
mutual
def fZ(w:af):aG->aj->O (L aj)
 |⟨a,n,text,parts⟩,v=>
  if a=1 then Z []else if a=2 then Z [v]
  else if a=3 then(if qF v (gf n)then Z []else Y)
  else if a=4 then(if qF v (gK (n==1))then Z []else Y)
  else if a=5 then(if qF v ej then Z []else Y)
  else match eV w v 1 with
   |none=>Y|some o=>if o.N≠n∨o.bg.length≠parts.length then Y else e8 w parts o.bg
def e8(w:af):L aG->L aj->O (L aj)
 |q::a,v::b=>match fZ w q v with
  |none=>Y|some l=>match e8 w a b with
   |none=>Y|some m=>Z (l++m)
 |_,_=>Z []
end
def jy(w:af)(left:L av)(env:L aj)(u:aj):L aG->L Int->mV
 |q::a,k::b=>match fZ w q u with
  |some l=>hG w left k (env++l)|none=>jy w left env u a b
 |_,_=>.fail 3
def gm{α:Type}(q:α->Bool):L α->O Nat
 |[]=>Y|a::l=>match gm q l with
  |some k=>Z (k+1)|none=>bif q a then Z 0 else Y
def rE(p:az)(w:af)(left:L av)(a:Int)(env:L aj):mV:=
 match gm (λf:av=>(nodeAt p f.Node).Op==26) left with
 |none=>.fail 3|some k=>if 120<=w.aJ.length then .fail 4
  else hG (dZ w ⟨5,0,[],left.drop k⟩) (left.take (k+1)) a (env++[pT w.aJ.length])
def rD(p:az)(w:af)(at_:Int)(left:L av)(f:aj):mV:=
 let mk (o:aB):mV:=if 120<=w.aJ.length then .fail 4
  else .go ⟨w.aJ++[o],w.aM++[(w.aJ.length:Int)],w.ei,w.lK,w.Used⟩ left [pT w.aJ.length] (Z ⟨at_,19,0,ej⟩)
 match eV w f 5 with
 |some k=>mk ⟨6,0,[ej],k.Frames⟩|none=>match fI p w f ej with
  |none=>.fail 2|some b=>if 30<b.Env.length then .fail 4 else mk ⟨6,0,[],[b]⟩
def Ol(w:af)(at_:Int)(left:L av)(v:aj):mV:=match eV w v 3 with
 |none=>.fail 2|some o=>.go w left [bE o.bg 0] (Z ⟨at_,17,0,jo (bE o.bg 0)⟩)
def iQ(w:af)(at_:Int)(left:L av)(c v:aj):mV:=match eV w c 3 with
 |none=>.fail 2|some o=>.go (iN w c.N ⟨3,0,[v],[]⟩) left [ej] (Z ⟨at_,18,0,jo v⟩)
def CP(w:af)(at_:Int)(left:L av)(c v:aj):mV:=match eV w c 4 with
 |none=>.fail 2|some o=>if 4<=o.bg.length then .waits else .go (iN w c.N ⟨4,0,o.bg++[v],[]⟩) left [ej] (Z ⟨at_,22,0,jo v⟩)
def CI(w:af)(at_:Int)(left:L av)(c:aj):mV:=match eV w c 4 with
 |none=>.fail 2|some o=>match o.bg with
  |[]=>.waits|v::l=>.go (iN w c.N ⟨4,0,l,[]⟩) left [v] (Z ⟨at_,23,0,jo v⟩)
def Dk(w:af)(at_:Int)(left:L av)(v:aj):mV:=match eV w v 6 with
 |none=>.fail 2|some o=>if o.N=0 then .waits else if o.N≠1 then .fail o.N else .go w left [bE o.bg 0] (Z ⟨at_,20,0,jo (bE o.bg 0)⟩)
def NH(w:af)(at_:Int)(left:L av)(a:Int)(v:aj):mV:=
 if v.Kind≠1 then .fail 2 else if 100<=w.ei.length then .fail 4
 else .go ⟨w.aJ,w.aM,w.ei++[⟨a,v.N⟩],w.lK,w.Used⟩ left [ej] (Z ⟨at_,24,a,jo v⟩)
def inS(w:af)(at_:Int)(left:L av):mV:=match w.lK with
 |[]=>.waits|i::l=>if 1000000000<=w.Used then .fail 4 else .go ⟨w.aJ,w.aM,w.ei,l,w.Used+1⟩ left [gf i] (Z ⟨at_,25,0,gf i⟩)
def iS(p:az)(w:af)(at_:Int)(left:L av)(f:av):mV:=
 let n:=nodeAt p f.Node
 let l:=f.bg
 match n.Op.toNat with
 |1=>fc w left (gf n.N)|2=>fc w left (gK (n.N==1))|3=>fc w left ej|4=>if n.N<0 then fc w left ⟨4,-1-n.N⟩else if f.Env.length<=n.N then .fail 2 else fc w left (bE f.Env n.N.toNat)|5=>jQ w left ⟨2,f.Node,f.Env,[]⟩|6=>rW p w left (bE l 0) (bE l 1)|7=>hG w left (n.Kids.getD 1 0) (f.Env++[bE l 0])|8=>if(bE l 0).Kind≠2 then .fail 2 else hG w left (n.Kids.getD (2-(bE l 0).N).toNat 0) f.Env|9|10|11|12|13=>om w left n.Op (bE l 0) (bE l 1)|14=>jQ w left ⟨1,n.N,l,[]⟩|15=>jy w left f.Env (bE l 0) n.cN (n.Kids.drop 1)|16=>Zz at_ 16 0 (bE l 0) (jQ w left ⟨3,0,[bE l 0],[]⟩)|17=>Ol w at_ left (bE l 0)|18=>iQ w at_ left (bE l 0) (bE l 1)|19=>rD p w at_ left (bE l 0)|20=>Dk w at_ left (bE l 0)|21=>Zz at_ 21 0 ej (jQ w left ⟨4,0,[],[]⟩)|22=>CP w at_ left (bE l 0) (bE l 1)|23=>CI w at_ left (bE l 0)|24=>NH w at_ left n.N (bE l 0)|25=>inS w at_ left|26=>fc w left (bE l 0)|27=>rE p w left (n.Kids.getD 0 0) f.Env|_=>.go w left [ej] (Z ⟨at_,28,0,ej⟩)
def JK(p:az)(w:af)(at_:Int)(o:aB):mV:=
 let top:=o.Frames.length-1
 let f:=o.Frames.getD top aH
 match o.bg with
 |v::_=>.go w (o.Frames.take top++[⟨f.Node,f.Env,f.bg++[v]⟩]) [] Y|[]=>if(f.bg.length:Int)<jr (nodeAt p f.Node)then hG w o.Frames ((nodeAt p f.Node).Kids.getD f.bg.length 0) f.Env
  else iS p w at_ (o.Frames.take top) f
def eW(p:az)(w:af)(at_:Int):O (af×O aN):=
 let t:=bK w at_
 let o:=bI w t
 if o.N≠0 then Y
 else if o.Frames=[]then Z (iN w t ⟨6,1,[bE o.bg 0],[]⟩,Z ⟨at_,0,1,jo (bE o.bg 0)⟩)
 else match JK p w at_ o with
  |.waits=>Y|.fail s=>Z (iN w t ⟨6,s,[],[]⟩,Z ⟨at_,0,s,aA⟩)|.go a b c e=>Z (iN a t ⟨6,0,c,b⟩,e)
section
def ct(p:az)(k:Nat)(v:aj):Prop:=
 (v.Kind=1∧gT v.N=W)∨(v.Kind=2∧(v.N=0∨v.N=1))∨(v.Kind=3∧v.N=0)∨(v.Kind=4∧0<=v.N∧v.N<p.dM.length)∨(v.Kind=5∧0<=v.N∧v.N<k)
structure eG(p:az)(k:Nat)(f:av):Prop where
 lo:0<=f.Node
 hi:f.Node<p.bh.length
 el:f.Env.length<=30
 env:∀v∈f.Env,ct p k v
 vl:(f.bg.length:Int)<=jr (nodeAt p f.Node)
 vals:∀v∈f.bg,ct p k v
def oG(p:az)(f:av):Prop:=(f.bg.length:Int)<jr (nodeAt p f.Node)
inductive gu(p:az)(k:Nat):aB->Prop
 |data {n:Int} {vs}:0<=n->n<p.Cons.length->(vs.length:Int)=(p.Cons.getD n.toNat bM).sd->(∀v∈vs,ct p k v)->gu p k ⟨1,n,vs,[]⟩|func {n:Int} {vs}:0<=n->n<p.bh.length->(nodeAt p n).Op=5->vs.length<=30->(∀v∈vs,ct p k v)->gu p k ⟨2,n,vs,[]⟩|cell {v}:ct p k v->gu p k ⟨3,0,[v],[]⟩|chan {vs}:vs.length<=4->(∀v∈vs,ct p k v)->gu p k ⟨4,0,vs,[]⟩|vS {f fs}:fs.length<40->(∀g∈f::fs,eG p k g∧oG p g)->(nodeAt p f.Node).Op=26->gu p k ⟨5,0,[],f::fs⟩|rP {fs f}:fs.length<40->(∀g∈fs,eG p k g∧oG p g)->eG p k f->gu p k ⟨6,0,[],fs++[f]⟩|back {fs v}:fs.length<=40->(∀g∈fs,eG p k g∧oG p g)->ct p k v->gu p k ⟨6,0,[v],fs⟩|done {v}:ct p k v->gu p k ⟨6,1,[v],[]⟩|dead {s}:s=2∨s=3∨s=4->gu p k ⟨6,s,[],[]⟩
structure eE(p:az)(w:af):Prop where
 len:w.aJ.length<=120
 obs:∀o∈w.aJ,gu p w.aJ.length o
 outs:w.ei.length<=100
 out:∀o∈w.ei,0<=o.Port∧o.Port<=3∧gT o.N=W
 ins:w.lK.length<=50
 inn:∀i∈w.lK,gT i=W
 used:0<=w.Used∧w.Used<=1000000000
 ug:w.aM.Nodup
 tl:w.aM.length<=w.aJ.length
 task:∀t∈w.aM,0<=t∧t<w.aJ.length∧(bI w t).Form=6
 all:∀i:Nat,i<w.aJ.length->(bI w i).Form=6->(i:Int)∈w.aM
mutual
def pw:aG->Nat
 |⟨_,_,_,parts⟩=>1+se parts
def se:L aG->Nat
 |[]=>0|q::a=>pw q+se a
end
mutual
def pf:aG->Bool
 |⟨a,_,_,parts⟩=>(decide (1<=a)&&decide (a<=6))&&pfs parts
def pfs:L aG->Bool
 |[]=>W|q::a=>pf q&&pfs a
end
def sN:L Nat:=[0,0,0,0,0,1,2,2,3,2,2,2,2,2,0,0,1,1,2,1,1,0,2,1,1,0,1,1,0]
structure RU(p:az)(n:bw):Prop where
 lo:1<=n.Op
 hi:n.Op<=28
 kids:∀k∈n.Kids,0<=k∧k<p.bh.length
 many:n.Op≠14->n.Op≠15->n.Kids.length=sN.getD n.Op.toNat 0
 con:n.Op=14->0<=n.N∧n.N<p.Cons.length∧(n.Kids.length:Int)=(p.Cons.getD n.N.toNat bM).sd
 mat:n.Op=15->n.Kids.length=1+n.cN.length∧n.cN.length<=5
 int:n.Op=1->gT n.N=W
 bool:n.Op=2->n.N=0∨n.N=1
 name:n.Op=4->-(p.dM.length:Int)<=n.N∧n.N<=29
 port:n.Op=24->0<=n.N∧n.N<=3
 pats:∀q∈n.cN,pw q<=12∧pf q=W
structure jk(p:az):Prop where
 len:p.bh.length<=300
 nds:∀n∈p.bh,RU p n
 zj:∀f∈p.dM,0<=f∧f<p.bh.length
 fl:p.dM.length<=300
 main:0<=p.Main∧p.Main<p.dM.length
 cons:∀c∈p.Cons,0<=c.sd∧c.sd<=3
def cg{α:Type}{l:L α}{i:Nat}(d:α)(h:i<l.length):l.getD i d∈l:=by
 simp_all
variable {p:az}{n:Int}{w:af}{v:aj}{o:aB}{k:Nat}
def jk.nd(h:jk p)(h1:0<=n)(h2:n<p.bh.length):RU p (nodeAt p n):=h.nds _ (cg _ (by omega))
def eE.ob(h:eE p w)(h1:0<=n)(h2:n<w.aJ.length):gu p w.aJ.length (bI w n):=h.obs _ (cg _ (by omega))
def ec(h:eE p w)(d:ct p w.aJ.length v){a:Int}(b:eV w v a=Z o) :
  o.Form=a∧gu p w.aJ.length o∧v.Kind=5∧0<=v.N∧v.N<w.aJ.length∧o=bI w v.N:=by
 unfold eV at b;split at b<;>rename_i c
 .cases b;have:0<=v.N∧v.N<w.aJ.length:=by obtain h|h|h|h|h:=d<;>first|exact h.2|(have:=h.1;have:=c.1;omega)
  exact⟨c.2,h.ob this.1 this.2,c.1,this.1,this.2,rfl⟩
 .cases b
def ct.ref(b:ct p k v)(h:v.Kind=5):0<=v.N∧v.N<k:=by obtain a|a|a|a|a:=b<;>first|exact a.2|(have:=a.1;omega)
def ct.code(b:ct p k v)(h:v.Kind=4):0<=v.N∧v.N<p.dM.length:=by obtain a|a|a|a|a:=b<;>first|exact a.2|(have:=a.1;omega)
def ct.WW(b:ct p k v)(h:v.Kind=2):v.N=0∨v.N=1:=by obtain a|a|a|a|a:=b<;>first|exact a.2|(have:=a.1;omega)
def ct.int(b:ct p k v)(h:v.Kind=1):gT v.N=W:=by obtain a|a|a|a|a:=b<;>first|exact a.2|(have:=a.1;omega)
theorem ct.mono{p:az}{k a:Nat}{v:aj}(c:k<=a)(b:ct p k v):ct p a v:=by
 obtain h|h|h|h|h:=b
 .exact .inl h
 .exact .inr (.inl h)
 .exact .inr (.inr (.inl h))
 .exact .inr (.inr (.inr (.inl h)))
 .exact .inr (.inr (.inr (.inr ⟨h.1,h.2.1,by omega⟩)))
theorem eG.mono{p:az}{k b:Nat}{f:av}(c:k<=b)(h:eG p k f):eG p b f:=
 ⟨h.lo,h.hi,h.el,λv a=>(h.env v a).mono c,h.vl,λv a=>(h.vals v a).mono c⟩
def gu.vals(h:gu p k o):∀v∈o.bg,ct p k v:=by
 have one:∀{u:aj},ct p k u->∀v∈[u],ct p k v:=λa v b=>by simp_all
 cases h with|data _ _ _ h=>exact h|func _ _ _ _ h=>exact h|cell h=>exact one h|chan _ h=>exact h|vS=>simp_all|rP=>simp_all|back _ _ h=>exact one h|done h=>exact one h|dead=>simp_all
theorem gu.mono{p:az}{k l:Nat}{o:aB}(f:k<=l)(h:gu p k o):gu p l o:=by
 cases h with
 |data a b c d=>exact .data a b c λv j=>(d v j).mono f|func a b c d e=>exact .func a b c d λv j=>(e v j).mono f|cell a=>exact .cell (a.mono f)|chan a b=>exact .chan a λv j=>(b v j).mono f|vS a b c=>exact .vS a (λg i=>⟨(b g i).1.mono f,(b g i).2⟩) c|rP a b c=>exact .rP a (λg i=>⟨(b g i).1.mono f,(b g i).2⟩) (c.mono f)|back a b c=>exact .back a (λg i=>⟨(b g i).1.mono f,(b g i).2⟩) (c.mono f)|done a=>exact .done (a.mono f)|dead a=>exact .dead a
end
end Mn
end
end
