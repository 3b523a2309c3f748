import Derived.Test.YtbaeajgfnoplaaaGreatDoorB5
import Derived.Laws.StructEq
import Derived.Test.YtbaeajgfnoplaaaGreatDoorProg
import Derived.Room.BridgeHanded
import Derived.DataElems
import Derived.WideKeyArgs
import Derived.SizedLaws
import Derived.RowKit3
import Derived.Test.YtbaeajgfnoplaaaGreatDoorRows
import Derived.WalkKit
import Derived.ProofKit
import Derived.OpenShut
import Derived.LaidMore
import Derived.KernelRfl
import Derived.Shelf.Strings.Count
import Derived.Shelf.Strings.LastIndex
import Derived.Shelf.Strconv.Itoa3
import Derived.Shelf.Strings.OnBuilder
import Derived.Shelf.Strings.BuilderK
import Derived.Maps.RangeRun
section
namespace TL
open Go
def flatFs (P:Program) (fk:TypeId->Option (List Lk)):List Field->Nat->Option (List Lk)
 |[],_=>some []
 |f ::l,off=>match fk f.type,P.info? f.type with
  |some ks,some j=>bif (f.name != "_")&&(Nat.beq f.offset off&&Nat.beq j.size (lenL ks)) then (flatFs P fk l (Nat.add off (lenL ks))).map λr=>ks++r else none
  |_,_=>none
def flatK (P:Program):Nat->TypeId->Option (List Lk)
 |0,_=>none
 |d+1,t=>match P.underlying t with
  |some (.int k)=>some [.int k]
  |some .bool=>some [.bool]
  |some .string=>some [.str]
  |some (.struct fs)=>bif P.stoodInHeld t then none else flatFs P (flatK P d) fs.toList 0
  |_=>none
theorem eqVals_append:∀{a b c d:List Value},a.length=b.length->eqVals (a++c) (b++d)=(eqVals a b&&eqVals c d)
 |[],[],c,d,_=>by rfl
 |x ::a,y ::b,c,d,h=>by
  simp[List.cons_append,eqVals,eqVals_append (a:=a) (b:=b) (by simpa using h),Bool.and_assoc]
 |[],_ ::_,_,_,h=>by simp at h
 |_ ::_,[],_,_,h=>by simp at h
def LkVals (ks:List Lk) (l:List Value):Prop:=l.length=ks.length∧∀(j:Nat) (k:Lk) (v:Value),ks[j]?=some k->l[j]?=some v->LkVal k v
theorem LkVals.split {ks ks':List Lk} {l:List Value} (h:LkVals (ks++ks') l):LkVals ks (l.take ks.length)∧LkVals ks' (l.drop ks.length):=by
 have hl:=h.1
 refine ⟨⟨by simp_all,λj k v h1 h2=>?_⟩,⟨by simp_all,λj k v h1 h2=>?_⟩⟩
 .exact h.2 j k v (by grind) (by grind)
 .exact h.2 (ks.length+j) k v (by grind) (by simp_all)
section
variable {P:Program}
def Mk (P:Program) (t:TypeId) (l:List Value) (v:Value):Prop:=∃u,P.underlying t=some u∧((aggDesc u=true∧v=.agg l.toArray)∨(aggDesc u=false∧l=[v]))
theorem flatK_u {d:Nat} {t:TypeId} {ks:List Lk} (h:flatK P d t=some ks):∃u,P.underlying t=some u∧(aggDesc u=true∨(aggDesc u=false∧ks.length=1)):=by
 cases d with
 |zero=>cases h
 |succ d=>
  simp[flatK] at h
  split at h
  .grind
  .grind
  .grind
  .rename_i fs hu
   exact ⟨_,hu,.inl rfl⟩
  .cases h
theorem flat_eq:∀(d:Nat) (t:TypeId) (ks:List Lk),flatK P d t=some ks->∀(D:Nat),d<=D->∀(w:World) (xs ys:List Value) (x y:Value),LkVals ks xs->LkVals ks ys->Mk P t xs x->Mk P t ys y->
  (Op.equalIn D t x y).run P w=.ok (eqVals xs ys) w:=by
 intro d
 induction d with
 |zero=>intro t ks h;cases h
 |succ d ih=>
  intro t ks h D hD w xs ys x y hx hy mx my
  obtain ⟨D,rfl⟩:∃D',D=D'+1:=⟨D-1,by omega⟩
  simp[flatK] at h
  let ⟨u,hu,mx⟩:=mx
  let ⟨u',hu',my⟩:=my
  rw[hu] at hu'
  cases hu'
  rw[hu] at h
  have one:∀{k:Lk},ks=[k]->aggDesc u=false->xs=[x]∧ys=[y]∧LkVal k x∧LkVal k y:=by
   rintro k rfl ha
   rcases mx with ⟨h1,_⟩|⟨_,rfl⟩
   .simp_all
   rcases my with ⟨h1,_⟩|⟨_,rfl⟩
   .simp_all
   exact ⟨rfl,rfl,hx.2 0 _ _ rfl rfl,hy.2 0 _ _ rfl rfl⟩
  split at h
  .rename_i k he
   cases he
   simp at h
   obtain ⟨rfl,rfl,⟨a,rfl⟩,⟨b,rfl⟩⟩:=one h.symm rfl
   grind[run_equalIn_int,eqVals,eqVal]
  .rename_i he
   cases he
   simp at h
   obtain ⟨rfl,rfl,⟨a,rfl⟩,⟨b,rfl⟩⟩:=one h.symm rfl
   grind[run_equalIn_bool',eqVals,eqVal]
  .rename_i he
   cases he
   simp at h
   obtain ⟨rfl,rfl,⟨a,rfl⟩,⟨b,rfl⟩⟩:=one h.symm rfl
   grind[run_equalIn_string,beq_toListBytes,eqVals,eqVal]
  .rename_i fs he
   cases he
   rcases cond_some h with ⟨_,h⟩|⟨hst,h⟩
   .cases h
   rcases mx with ⟨_,rfl⟩|⟨h1,_⟩
   rotate_left
   .cases h1
   rcases my with ⟨_,rfl⟩|⟨h1,_⟩
   rotate_left
   .cases h1
   have hfo:P.fieldsOf t=fs:=by simp[Program.fieldsOf,hu]
   rw[run_equalIn_struct w D t _ _ (by grind) hst,hfo]
   have key:∀(l:List Field) (off:Nat) (ks':List Lk),flatFs P (flatK P d) l off=some ks'->LkVals ks' (xs.drop off)->LkVals ks' (ys.drop off)->off<=xs.length->off<=ys.length->
     (Op.eqFields D xs.toArray ys.toArray l).run P w=.ok (eqVals (xs.drop off) (ys.drop off)) w:=by
    intro l
    induction l with
    |nil=>
     intro off ks' h kx ky _ _
     simp only[flatFs,Option.some.injEq] at h
     subst h
     have e1:=List.eq_nil_of_length_eq_zero kx.1
     rw[e1]
     rfl
    |cons f l ihl=>
     intro off ks' h kx ky ox oy
     simp only[flatFs] at h
     split at h
     .rename_i ks1 j h1 h2
      rcases cond_some h with ⟨hb,h⟩|⟨_,h⟩
      rotate_left
      .cases h
      simp only[Bool.and_eq_true] at hb
      let ⟨hnm,hoff,hsz⟩:=hb
      have hoff:=Nat.eq_of_beq_eq_true hoff
      rw[lenL_eq] at hsz h
      simp only[Option.map_eq_some_iff] at h
      obtain ⟨r,hr,rfl⟩:=h
      let ⟨kx1,kx2⟩:=kx.split
      let ⟨ky1,ky2⟩:=ky.split
      rw[List.drop_drop] at kx2 ky2
      have hlx:=kx.1
      have hly:=ky.1
      rw[List.length_append,List.length_drop] at hlx hly
      have hpart:∀(zs:List Value),LkVals ks1 ((zs.drop off).take ks1.length)->∃v,(part f.type zs.toArray f.offset).run P w=.ok v w∧Mk P f.type ((zs.drop off).take ks1.length) v:=by
       intro zs hz
       let ⟨u,hu',hag⟩:=flatK_u h1
       rcases hag with hag|⟨hag,h1l⟩
       .refine ⟨.agg ((zs.drop off).take ks1.length).toArray,?_,u,hu',.inl ⟨hag,rfl⟩⟩
        simp_all[part,run_isAgg',run_sizeOf']
       .have hlz:=hz.1
        rw[h1l] at hlz
        let ⟨v,hv⟩:=List.length_eq_one_iff.1 hlz
        refine ⟨v,?_,u,hu',.inr ⟨hag,by grind⟩⟩
        have hvv:zs[off]?=some v:=by
         have:=congrArg (λl=>l[0]?) hv
         grind
        simp_all[part,run_isAgg']
      let ⟨v1,e1,m1⟩:=hpart xs kx1
      let ⟨v2,e2,m2⟩:=hpart ys ky1
      have hrec:=ih f.type ks1 h1 D (by omega) w _ _ v1 v2 kx1 ky1 m1 m2
      have hrest:=ihl (off+ks1.length) r hr kx2 ky2 (by omega) (by omega)
      have hnm':f.name≠ "_":=by grind
      have hsx:xs.drop off=(xs.drop off).take ks1.length++xs.drop (off+ks1.length):=by
       grind[List.drop_drop,List.take_append_drop]
      have hsy:ys.drop off=(ys.drop off).take ks1.length++ys.drop (off+ks1.length):=by
       grind[List.drop_drop,List.take_append_drop]
      rw[hsx,hsy,eqVals_append (by rw[kx1.1,ky1.1])]
      simp only[Op.eqFields,hnm',ne_eq,not_false_eq_true,if_true,Sem.run_bind,e1,e2,hrec,Result.andThen_ok]
      cases hq:eqVals ((xs.drop off).take ks1.length) ((ys.drop off).take ks1.length) with
      |true=>grind
      |false=>simp
     .cases h
   grind
  .cases h
def flatL (P:Program) (t:TypeId):List Lk:=bif P.eqGuardType P.depth t then [] else match flatK P 100 t with
 |some ks=>match P.underlying t with
  |some u=>bif aggDesc u then ks else []
  |none=>[]
 |none=>[]
theorem flatL_ok (t:TypeId) (h:flatL P t≠[]):EqOk P t (flatL P t):=by
 unfold flatL at h ⊢
 cases hg:P.eqGuardType P.depth t with
 |true=>simp_all
 |false=>
  cases hk:flatK P 100 t with
  |none=>simp_all
  |some ks=>
   cases hu:P.underlying t with
   |none=>simp_all
   |some u=>
    dsimp only at h ⊢
    cases ha:aggDesc u with
    |false=>simp_all
    |true=>
     intro w op x y xs ys hx hy kx ky
     refine ⟨run_eqGuard_agg w op t x y xs ys hg,?_⟩
     have:=flat_eq 100 t ks hk Op.maxDepth (by decide) w xs.toList ys.toList (.agg xs) (.agg ys) ⟨by simpa using hx,λj k v h1 h2=>kx j k v h1 (by simpa using h2)⟩ ⟨by simpa using hy,λj k v h1 h2=>ky j k v h1 (by simpa using h2)⟩
      ⟨u,hu,.inl ⟨ha,rfl⟩⟩ ⟨u,hu,.inl ⟨ha,rfl⟩⟩
     exact this
end
end TL
end
section
namespace TL
open Go
theorem leafB_ok {l:List Ty} (h:l.all (λt=>!(isSt t))=true):∀t∈l,isSt t=false:=by
 simp_all
namespace Tr
variable {α β:Type}
def mapKey (f:Nat->α->β):Tr α->Tr β
 | .nil=>.nil
 | .node v l r=>.node (match v with|some x=>some (f 0 x)|none=>none) (mapKey (λj=>f (Nat.succ (Nat.mul 2 j))) l) (mapKey (λj=>f (Nat.succ (Nat.succ (Nat.mul 2 j)))) r)
theorem get_mapKey:∀(t:Tr α) (f:Nat->α->β) (k:Nat),(t.mapKey f).get k=(t.get k).map (f k)
 | .nil,f,k=>by
  rfl
 | .node v l r,f,0=>by
  simp[mapKey,Tr.get_zero]
  cases v<;>rfl
 | .node v l r,f,k+1=>by
  simp only[mapKey,Tr.get_succ]
  by_cases hk:k%2=0
  .rw[if_pos hk,if_pos hk,get_mapKey l]
   have:Nat.succ (Nat.mul 2 (k/2))=k+1:=by grind
   rw[this]
  .rw[if_neg hk,if_neg hk,get_mapKey r]
   have:Nat.succ (Nat.succ (Nat.mul 2 (k/2)))=k+1:=by grind
   rw[this]
theorem of_mapKey {t:Tr α} {f g:Nat->α->β} (h:t.mapKey f=t.mapKey g) {k:Nat} {v:α} (hv:t.get k=some v):f k v=g k v:=by
 have:=congrArg (λt=>t.get k) h
 grind[get_mapKey]
end Tr
end TL
end
section
namespace TL
open Go
def lookM:List (String×FuncId)->String->Option FuncId
 |[],_=>none
 |p ::l,m=>bif p.1==m then some p.2 else lookM l m
def mkE (P:Program) (tiT:Tr TI) (tyT:Tr Ty) (mtT:Tr MT) (methT:Tr (List (String×FuncId))) (fncT:Tr Func) (nst:Nat->Option Nat) (bt:Option (Nat×Nat):=none):EnvT:=
 ⟨⟨P,λk=>tiT.get k,λk=>fncT.get k,λ_=>none⟩,λk=>tyT.get k,λk=>mtT.get k,λt m=>match methT.get t with|some l=>lookM l m|none=>none,nst,λt=>match bt with|some p=>bif Nat.beq t p.1 then some p.2 else none|none=>none⟩
section
variable (S:Sg) (P:Program)
def zerosOf (τ:Ty):List D:=bif isSt τ then (match enc S τ (S.zero τ) with|.agg l=>l|_=>[]) else [enc S τ (S.zero τ)]
def rowL (τ:Ty) (i:TI):Kd×Bool×Nat×Bool×List D:=match τ with
 | .int k=>(.leaf (.int k),false,1,true,zerosOf S τ)
 | .bool=>(.leaf .bool,false,1,true,zerosOf S τ)
 | .str=>(.leaf .str,false,1,true,zerosOf S τ)
 | .sl e=>(.slice (S.width e) (isSt e) (byOf S e) (zerosOf S e),false,1,true,zerosOf S τ)
 | .st n=>(i.kd,true,lenL (S.fs n),true,zerosOf S τ)
 | .ifc _=>(.iface,false,1,true,zerosOf S τ)
 | .opt _=>(.ptr,false,1,true,zerosOf S τ)
 | .mp _ _=>(i.kd,false,1,true,zerosOf S τ)
def rowR (τ:Ty) (i:TI):Kd×Bool×Nat×Bool×List D:=(i.kd,i.agg,i.size,(match τ with|.sl e=>Nat.blt 0 (S.width e)|_=>true),i.zero)
theorem zerosOf_ok (τ:Ty):bif isSt τ then D.agg (zerosOf S τ)=enc S τ (S.zero τ) else zerosOf S τ=[enc S τ (S.zero τ)]:=by
 cases τ<;>rfl
theorem row_ok {τ:Ty} {i:TI} (h:rowL S τ i=rowR S τ i):TyRow S i τ∧ZRow S i τ:=by
 have hz:i.zero=zerosOf S τ->ZRow S i τ:=by
  grind[ZRow,zerosOf_ok]
 cases τ with
 |int k=>
  simp only[rowL,rowR,Prod.mk.injEq] at h
  let ⟨h1,h2,h3,_,h5⟩:=h
  exact ⟨⟨h1.symm,h2.symm,h3.symm⟩,hz h5.symm⟩
 |bool=>
  simp only[rowL,rowR,Prod.mk.injEq] at h
  let ⟨h1,h2,h3,_,h5⟩:=h
  exact ⟨⟨h1.symm,h2.symm,h3.symm⟩,hz h5.symm⟩
 |str=>
  simp only[rowL,rowR,Prod.mk.injEq] at h
  let ⟨h1,h2,h3,_,h5⟩:=h
  exact ⟨⟨h1.symm,h2.symm,h3.symm⟩,hz h5.symm⟩
 |sl e=>
  simp only[rowL,rowR,Prod.mk.injEq] at h
  let ⟨h1,h2,h3,h4,h5⟩:=h
  exact ⟨⟨⟨_,h1.symm,zerosOf_ok S e⟩,h2.symm,h3.symm,Nat.le_of_ble_eq_true h4.symm⟩,hz h5.symm⟩
 |st n=>
  simp only[rowL,rowR,Prod.mk.injEq] at h
  let ⟨_,h2,h3,_,h5⟩:=h
  exact ⟨⟨h2.symm,by rw[<-h3,lenL_eq]⟩,hz h5.symm⟩
 |ifc n=>
  simp only[rowL,rowR,Prod.mk.injEq] at h
  let ⟨h1,h2,h3,_,h5⟩:=h
  exact ⟨⟨h1.symm,h2.symm,h3.symm⟩,hz h5.symm⟩
 |opt n=>
  simp only[rowL,rowR,Prod.mk.injEq] at h
  let ⟨h1,h2,h3,_,h5⟩:=h
  exact ⟨⟨h1.symm,h2.symm,h3.symm⟩,hz h5.symm⟩
 |mp k v=>
  simp only[rowL,rowR,Prod.mk.injEq] at h
  let ⟨_,h2,h3,_,h5⟩:=h
  exact ⟨⟨trivial,h2.symm,h3.symm⟩,hz h5.symm⟩
def keyB:Ty->TypeDesc->Bool
 | .int k,.int j=>kindEq j k
 | .bool,.bool=>true
 | .str,.string=>true
 |_,_=>false
theorem keyB_ok {t:Ty} {d:TypeDesc} (h:keyB t d=true):keyDesc t d:=by
 cases t<;>cases d<;>first|exact rfl|(cases h;done)|skip
 rename_i k j
 have:j=k:=by cases j<;>cases k<;>first|rfl|cases h
 rw[this]
 exact rfl
def mtB (E:EnvT) (t:Nat) (m:MT):Bool:=match E.E.P.underlying t with
 |some (.map kid el)=>Nat.beq el m.el&&((match E.E.P.underlying kid with|some d=>keyB m.kt d|none=>false)&&((match E.E.P.info? m.el with|some x=>x.zero.isSome|none=>false)&&
   (match m.vt with|some vt=>(match E.ty m.el with|some t'=>tyEq t' vt|none=>false)&&(E.E.ti m.el).isSome|none=>true)))
 |_=>false
theorem mtB_ok {E:EnvT} {t:Nat} {m:MT} (h:mtB E t m=true):∃kid d,E.E.P.underlying t=some (.map kid m.el)∧E.E.P.underlying kid=some d∧keyDesc m.kt d∧(∃x z,E.E.P.info? m.el=some x∧x.zero=some z)∧
  ∀vt,m.vt=some vt->E.ty m.el=some vt∧∃i,E.E.ti m.el=some i:=by
 unfold mtB at h
 split at h
 .rename_i kid el hu
  simp only[Bool.and_eq_true] at h
  let ⟨h1,h2,h3,h4⟩:=h
  have:=Nat.eq_of_beq_eq_true h1
  subst this
  cases hk:E.E.P.underlying kid with
  |none=>simp_all
  |some d=>
   rw[hk] at h2
   cases hx:E.E.P.info? m.el with
   |none=>simp_all
   |some x=>
    rw[hx] at h3
    let ⟨z,hz⟩:=Option.isSome_iff_exists.1 h3
    refine ⟨kid,d,hu,hk,keyB_ok h2,⟨x,z,rfl,hz⟩,λvt hvt=>?_⟩
    rw[hvt] at h4
    grind[tyEq_eq,Option.isSome_iff_exists]
 .cases h
def isPtrD:TypeDesc->Bool
 | .pointer _=>true
 |_=>false
def methB (P:Program) (t:Nat) (p:String×FuncId):Bool:=match P.info? t,P.underlying t with
 |some x,some d=>match x.methods.find? (·.name==p.1) with
  |some mm=>match mm.path.toList,mm.func with
   |[],some (f,b)=>Nat.beq f p.2&&(bif b then isPtrD d else !(isPtrD d))
   |_,_=>false
  |none=>false
 |_,_=>false
theorem methB_ok {P:Program} {t:Nat} {p:String×FuncId} (h:methB P t p=true):∃x mm d,P.info? t=some x∧x.methods.find? (·.name==p.1)=some mm∧mm.path=#[]∧P.underlying t=some d∧
  ((mm.func=some (p.2,false)∧∀e,d≠.pointer e)∨(mm.func=some (p.2,true)∧∃e,d=.pointer e)):=by
 unfold methB at h
 split at h
 .rename_i x d hx hd
  split at h
  .rename_i mm hm
   split at h
   .rename_i f b h1 h2
    rw[Bool.and_eq_true] at h
    have:=Nat.eq_of_beq_eq_true h.1
    subst this
    refine ⟨x,mm,d,hx,hm,by simpa using h1,hd,?_⟩
    cases b with
    |false=>
     refine .inl ⟨h2,λe he=>?_⟩
     subst he
     exact Bool.noConfusion h.2
    |true=>
     refine .inr ⟨h2,?_⟩
     cases d<;>first|exact ⟨_,rfl⟩|exact Bool.noConfusion h.2
   .cases h
  .cases h
 .cases h
theorem lookM_mem:∀{l:List (String×FuncId)} {m:String} {f:FuncId},lookM l m=some f->(m,f)∈l
 |[],_,_,h=>by cases h
 |p ::l,m,f,h=>by
  rcases cond_some h with ⟨hb,h⟩|⟨_,h⟩
  .grind
  .exact List.mem_cons_of_mem _ (lookM_mem h)
end
def bldB (P:Program):Option (Nat×Nat)->Bool
 |none=>true
 |some p=>match P.info? p.1 with
  |some x=>match x.zero with
   |some (.agg a)=>match a.toList with
    |[.pointer none,.slice none 0 0]=>true
    |_=>false
   |_=>false
  |none=>false
theorem bldB_ok {P:Program} {t e:Nat}:∀{bt:Option (Nat×Nat)},bldB P bt=true->(match bt with|some p=>bif Nat.beq t p.1 then some p.2 else none|none=>none)=some e->∃xi,P.info? t=some xi∧xi.zero=some (.agg #[.pointer none,.slice none 0 0])
 |none,_,h=>by cases h
 |some p,hb,h=>by
  rcases cond_some h with ⟨h1,_⟩|⟨_,h1⟩
  rotate_left
  .cases h1
  have:=beq_iff'.1 h1
  subst this
  unfold bldB at hb
  dsimp only at hb
  split at hb
  .rename_i x hx
   split at hb
   .rename_i a ha
    split at hb
    .rename_i hl
     refine ⟨x,hx,ha.trans ?_⟩
     have:a=#[.pointer none,.slice none 0 0]:=Array.toList_inj.1 (by simpa using hl)
     rw[this]
    .cases hb
   .cases hb
  .cases hb
theorem envOk_of {S:Sg} (hS:SgOk S) {P:Program} {tiT:Tr TI} {tyT:Tr Ty} {mtT:Tr MT} {methT:Tr (List (String×FuncId))} {fncT:Tr Func} {nst:Nat->Option Nat} {bt:Option (Nat×Nat)}
  (h1:tiT.mapKey (λk _=>tiOf P (flatL P) k)=tiT.mapKey λ_ i=>some i)
  (h2:fncT.mapKey (λk _=>P.funcs[k]?)=fncT.mapKey λ_ f=>some f)
  (h3:tyT.mapKey (λk τ=>(tiT.get k).map (rowL S τ))=tyT.mapKey λk τ=>(tiT.get k).map (rowR S τ))
  (h4:fncT.mapKey (λ_ f=>f.name== "runtime.NumGoroutine")=fncT.mapKey λ_ _=>false)
  (h5:mtT.mapKey (λk m=>mtB (mkE P tiT tyT mtT methT fncT nst bt) k m)=mtT.mapKey λ_ _=>true)
  (h6:methT.mapKey (λk l=>l.all (methB P k))=methT.mapKey λ_ _=>true) (h7:bldB P bt=true) (gam:FuncId->Option (Con S)) (sh:FuncId->Nat->Option LSh) (hg:∀f c,gam f=some c->ConOk P f c) (pn:Bool) (cj:FuncId->List (V S)->Option JSh) :
  EnvVOk (⟨mkE P tiT tyT mtT methT fncT nst bt,gam,sh,pn,cj⟩:EnvV S):=by
 have hrow:∀k i τ,tiT.get k=some i->tyT.get k=some τ->TyRow S i τ∧ZRow S i τ:=by
  grind[Tr.of_mapKey,row_ok]
 refine ⟨hS,⟨λk i hi=>?_,λf fn hf=>?_⟩,⟨λk i τ hi hτ=>(hrow k i τ hi hτ).1⟩,λf fn hf=>Tr.of_mapKey h4 hf,λ_=>rfl,⟨λk i τ hi hτ=>(hrow k i τ hi hτ).2,λt m hm=>?_,λt nm f hf=>?_,λt e h=>bldB_ok h7 h⟩,hg⟩
 .exact tiOf_ok (λt h=>flatL_ok t h) (Tr.of_mapKey h1 hi)
 .exact Tr.of_mapKey h2 hf
 .exact mtB_ok (Tr.of_mapKey h5 hm)
 .have hf':(match methT.get t with|some l=>lookM l nm|none=>none)=some f:=hf
  split at hf'
  .rename_i l hl
   have h7:=Tr.of_mapKey h6 hl
   rw[List.all_eq_true] at h7
   exact methB_ok (h7 _ (lookM_mem hf'))
  .cases hf'
end TL
end
section
set_option maxRecDepth 10000
namespace Mn
open Go TL
abbrev boD (x:Bool):D:=.lit (.bool x)
abbrev inD (x:Int):D:=.lit (.int .i64 x)
abbrev stD (x:List UInt8):D:=.lit (.string (toBytes x))
abbrev isD (l:List Int):D:=.sl (List.map inD l)
abbrev agD {α:Type} (f:α->List D) (l:List α):D:=.sl (List.map (λy=>.agg (f y)) l)
structure TermPat where
 Form:Int
 N:Int
 Text:List UInt8
 Parts:List TermPat
structure Term where
 Op:Int
 N:Int
 Text:List UInt8
 Kids:List Term
 Pats:List TermPat
structure TermType where
 Sort_:Int
 N:Int
 Text:List UInt8
 Parts:List TermType
structure TermConDef where
 Name:List UInt8
 Args:List TermType
structure TermData where
 Name:List UInt8
 Cons:List TermConDef
structure TermFunDef where
 Name:List UInt8
 Param:List UInt8
 From:TermType
 To:TermType
 Body:Term
structure TermModule where
 Name:List UInt8
 Datas:List TermData
 Funs:List TermFunDef
structure ReadToken where
 Kind:Int
 Text:List UInt8
 N:Int
 At:Int
structure ReaderHearthref02 where
 l_:List ReadToken
 at_:Int
 bad:Bool
structure PieceRead where
 text:List UInt8
 tight:Bool
 bare:Bool
structure PrinterRead where
 list:List PieceRead
structure GaugeTerm where
 nodes:Int
 depth:Int
structure StopRead where
 at_:Int
structure ParserRead where
 list:List ReadToken
 next:Int
structure DataPartTerm where
 TermData:TermData
structure FunPartTerm where
 TermFunDef:TermFunDef
inductive PartTerm where
 |a0 (x:DataPartTerm)
 |a1 (x:FunPartTerm)
 |none
structure FlawTerm where
structure HasTerm where
 n:Bool
 text:Bool
 pats:Bool
 kids:Int
structure OperationRead where
 text:List UInt8
 level:Int
structure OneCaseRead where
 pat:TermPat
 body:Term
inductive Any where
 |a0 (x:StopRead)
 |none
def dTermPat:TermPat:=⟨0,0,[],[]⟩
def dTerm:Term:=⟨0,0,[],[],[]⟩
def dTermType:TermType:=⟨0,0,[],[]⟩
def dTermConDef:TermConDef:=⟨[],[]⟩
def dTermData:TermData:=⟨[],[]⟩
def dTermFunDef:TermFunDef:=⟨[],[],dTermType,dTermType,dTerm⟩
def dTermModule:TermModule:=⟨[],[],[]⟩
def dReadToken:ReadToken:=⟨0,[],0,0⟩
def dReaderHearthref02:ReaderHearthref02:=⟨[],0,false⟩
def dPieceRead:PieceRead:=⟨[],false,false⟩
def dPrinterRead:PrinterRead:=⟨[]⟩
def dGaugeTerm:GaugeTerm:=⟨0,0⟩
def dStopRead:StopRead:=⟨0⟩
def dParserRead:ParserRead:=⟨[],0⟩
def dDataPartTerm:DataPartTerm:=⟨dTermData⟩
def dFunPartTerm:FunPartTerm:=⟨dTermFunDef⟩
def dPartTerm:PartTerm:=.none
def dFlawTerm:FlawTerm:=⟨⟩
def dHasTerm:HasTerm:=⟨false,false,false,0⟩
def dOperationRead:OperationRead:=⟨[],0⟩
def dOneCaseRead:OneCaseRead:=⟨dTermPat,dTerm⟩
def dAny:Any:=.none
mutual
def cTermPat:TermPat->List D
 | .mk x0 x1 x2 x3=>[inD x0,inD x1,stD x2,.sl (csTermPat x3)]
def csTermPat:List TermPat->List D
 |[]=>[]
 |y ::l=>.agg (cTermPat y) ::csTermPat l
end
theorem csTermPat_map:∀l:List TermPat,csTermPat l=l.map (λy=>.agg (cTermPat y))
 |[]=>rfl
 |y ::l=>by simp only[csTermPat,List.map_cons,csTermPat_map l]
mutual
def cTerm:Term->List D
 | .mk x0 x1 x2 x3 x4=>[inD x0,inD x1,stD x2,.sl (csTerm x3),.sl (csTermPat x4)]
def csTerm:List Term->List D
 |[]=>[]
 |y ::l=>.agg (cTerm y) ::csTerm l
end
theorem csTerm_map:∀l:List Term,csTerm l=l.map (λy=>.agg (cTerm y))
 |[]=>rfl
 |y ::l=>by simp only[csTerm,List.map_cons,csTerm_map l]
mutual
def cTermType:TermType->List D
 | .mk x0 x1 x2 x3=>[inD x0,inD x1,stD x2,.sl (csTermType x3)]
def csTermType:List TermType->List D
 |[]=>[]
 |y ::l=>.agg (cTermType y) ::csTermType l
end
theorem csTermType_map:∀l:List TermType,csTermType l=l.map (λy=>.agg (cTermType y))
 |[]=>rfl
 |y ::l=>by simp only[csTermType,List.map_cons,csTermType_map l]
def cTermConDef (x:TermConDef):List D:=[stD x.Name,.sl (csTermType x.Args)]
def cTermData (x:TermData):List D:=[stD x.Name,agD cTermConDef x.Cons]
def cTermFunDef (x:TermFunDef):List D:=[stD x.Name,stD x.Param,inD x.From.Sort_,inD x.From.N,stD x.From.Text,.sl (csTermType x.From.Parts),inD x.To.Sort_,inD x.To.N,stD x.To.Text,.sl (csTermType x.To.Parts),inD x.Body.Op,inD x.Body.N,stD x.Body.Text,.sl (csTerm x.Body.Kids),.sl (csTermPat x.Body.Pats)]
def cTermModule (x:TermModule):List D:=[stD x.Name,agD cTermData x.Datas,agD cTermFunDef x.Funs]
def cReadToken (x:ReadToken):List D:=[inD x.Kind,stD x.Text,inD x.N,inD x.At]
def cReaderHearthref02 (x:ReaderHearthref02):List D:=[agD cReadToken x.l_,inD x.at_,boD x.bad]
def cPieceRead (x:PieceRead):List D:=[stD x.text,boD x.tight,boD x.bare]
def cPrinterRead (x:PrinterRead):List D:=[agD cPieceRead x.list]
def cGaugeTerm (x:GaugeTerm):List D:=[inD x.nodes,inD x.depth]
def cStopRead (x:StopRead):List D:=[inD x.at_]
def cParserRead (x:ParserRead):List D:=[agD cReadToken x.list,inD x.next]
def cDataPartTerm (x:DataPartTerm):List D:=[stD x.TermData.Name,agD cTermConDef x.TermData.Cons]
def cFunPartTerm (x:FunPartTerm):List D:=[stD x.TermFunDef.Name,stD x.TermFunDef.Param,inD x.TermFunDef.From.Sort_,inD x.TermFunDef.From.N,stD x.TermFunDef.From.Text,.sl (csTermType x.TermFunDef.From.Parts),inD x.TermFunDef.To.Sort_,inD x.TermFunDef.To.N,stD x.TermFunDef.To.Text,.sl (csTermType x.TermFunDef.To.Parts),inD x.TermFunDef.Body.Op,inD x.TermFunDef.Body.N,stD x.TermFunDef.Body.Text,.sl (csTerm x.TermFunDef.Body.Kids),.sl (csTermPat x.TermFunDef.Body.Pats)]
def iPartTerm:PartTerm->Option (TypeId×D)
 | .a0 x=>some (179,.agg (cDataPartTerm x))
 | .a1 x=>some (181,.agg (cFunPartTerm x))
 | .none=>none
def cPartTerm (x:PartTerm):List D:=[ifD (iPartTerm x)]
def cFlawTerm (_x:FlawTerm):List D:=[]
def cHasTerm (x:HasTerm):List D:=[boD x.n,boD x.text,boD x.pats,inD x.kids]
def cOperationRead (x:OperationRead):List D:=[stD x.text,inD x.level]
def cOneCaseRead (x:OneCaseRead):List D:=[inD x.pat.Form,inD x.pat.N,stD x.pat.Text,.sl (csTermPat x.pat.Parts),inD x.body.Op,inD x.body.N,stD x.body.Text,.sl (csTerm x.body.Kids),.sl (csTermPat x.body.Pats)]
def iAny:Any->Option (TypeId×D)
 | .a0 x=>some (163,.agg (cStopRead x))
 | .none=>none
def cAny (x:Any):List D:=[ifD (iAny x)]
def car:Nat->Type
 |0=>TermPat
 |1=>Term
 |2=>TermType
 |3=>TermConDef
 |4=>TermData
 |5=>TermFunDef
 |6=>TermModule
 |7=>ReadToken
 |8=>ReaderHearthref02
 |9=>PieceRead
 |10=>PrinterRead
 |11=>GaugeTerm
 |12=>StopRead
 |13=>ParserRead
 |14=>DataPartTerm
 |15=>FunPartTerm
 |16=>PartTerm
 |17=>FlawTerm
 |18=>HasTerm
 |19=>OperationRead
 |20=>OneCaseRead
 |21=>Any
 |_+22=>Unit
def fields:Nat->List Ty
 |0=>[.int .i64,.int .i64,.str,.sl (.st 0)]
 |1=>[.int .i64,.int .i64,.str,.sl (.st 1),.sl (.st 0)]
 |2=>[.int .i64,.int .i64,.str,.sl (.st 2)]
 |3=>[.str,.sl (.st 2)]
 |4=>[.str,.sl (.st 3)]
 |5=>[.str,.str,.int .i64,.int .i64,.str,.sl (.st 2),.int .i64,.int .i64,.str,.sl (.st 2),.int .i64,.int .i64,.str,.sl (.st 1),.sl (.st 0)]
 |6=>[.str,.sl (.st 4),.sl (.st 5)]
 |7=>[.int .i64,.str,.int .i64,.int .i64]
 |8=>[.sl (.st 7),.int .i64,.bool]
 |9=>[.str,.bool,.bool]
 |10=>[.sl (.st 9)]
 |11=>[.int .i64,.int .i64]
 |12=>[.int .i64]
 |13=>[.sl (.st 7),.int .i64]
 |14=>[.str,.sl (.st 3)]
 |15=>[.str,.str,.int .i64,.int .i64,.str,.sl (.st 2),.int .i64,.int .i64,.str,.sl (.st 2),.int .i64,.int .i64,.str,.sl (.st 1),.sl (.st 0)]
 |16=>[.ifc 16]
 |17=>[]
 |18=>[.bool,.bool,.bool,.int .i64]
 |19=>[.str,.int .i64]
 |20=>[.int .i64,.int .i64,.str,.sl (.st 0),.int .i64,.int .i64,.str,.sl (.st 1),.sl (.st 0)]
 |21=>[.ifc 21]
 |_+22=>[]
def dflt:(n:Nat)->car n
 |0=>dTermPat
 |1=>dTerm
 |2=>dTermType
 |3=>dTermConDef
 |4=>dTermData
 |5=>dTermFunDef
 |6=>dTermModule
 |7=>dReadToken
 |8=>dReaderHearthref02
 |9=>dPieceRead
 |10=>dPrinterRead
 |11=>dGaugeTerm
 |12=>dStopRead
 |13=>dParserRead
 |14=>dDataPartTerm
 |15=>dFunPartTerm
 |16=>dPartTerm
 |17=>dFlawTerm
 |18=>dHasTerm
 |19=>dOperationRead
 |20=>dOneCaseRead
 |21=>dAny
 |_+22=>()
def getS:(n:Nat)->car n->hden car (fields n)
 |0,x=>(TermPat.Form x,TermPat.N x,TermPat.Text x,TermPat.Parts x,())
 |1,x=>(Term.Op x,Term.N x,Term.Text x,Term.Kids x,Term.Pats x,())
 |2,x=>(TermType.Sort_ x,TermType.N x,TermType.Text x,TermType.Parts x,())
 |3,x=>(TermConDef.Name x,TermConDef.Args x,())
 |4,x=>(TermData.Name x,TermData.Cons x,())
 |5,x=>(TermFunDef.Name x,TermFunDef.Param x,(TermFunDef.From x).Sort_,(TermFunDef.From x).N,(TermFunDef.From x).Text,(TermFunDef.From x).Parts,(TermFunDef.To x).Sort_,(TermFunDef.To x).N,(TermFunDef.To x).Text,(TermFunDef.To x).Parts,(TermFunDef.Body x).Op,(TermFunDef.Body x).N,(TermFunDef.Body x).Text,(TermFunDef.Body x).Kids,(TermFunDef.Body x).Pats,())
 |6,x=>(TermModule.Name x,TermModule.Datas x,TermModule.Funs x,())
 |7,x=>(ReadToken.Kind x,ReadToken.Text x,ReadToken.N x,ReadToken.At x,())
 |8,x=>(ReaderHearthref02.l_ x,ReaderHearthref02.at_ x,ReaderHearthref02.bad x,())
 |9,x=>(PieceRead.text x,PieceRead.tight x,PieceRead.bare x,())
 |10,x=>(PrinterRead.list x,())
 |11,x=>(GaugeTerm.nodes x,GaugeTerm.depth x,())
 |12,x=>(StopRead.at_ x,())
 |13,x=>(ParserRead.list x,ParserRead.next x,())
 |14,x=>((DataPartTerm.TermData x).Name,(DataPartTerm.TermData x).Cons,())
 |15,x=>((FunPartTerm.TermFunDef x).Name,(FunPartTerm.TermFunDef x).Param,(FunPartTerm.TermFunDef x).From.Sort_,(FunPartTerm.TermFunDef x).From.N,(FunPartTerm.TermFunDef x).From.Text,(FunPartTerm.TermFunDef x).From.Parts,(FunPartTerm.TermFunDef x).To.Sort_,(FunPartTerm.TermFunDef x).To.N,(FunPartTerm.TermFunDef x).To.Text,(FunPartTerm.TermFunDef x).To.Parts,(FunPartTerm.TermFunDef x).Body.Op,(FunPartTerm.TermFunDef x).Body.N,(FunPartTerm.TermFunDef x).Body.Text,(FunPartTerm.TermFunDef x).Body.Kids,(FunPartTerm.TermFunDef x).Body.Pats,())
 |16,x=>(x,())
 |17,_=>()
 |18,x=>(HasTerm.n x,HasTerm.text x,HasTerm.pats x,HasTerm.kids x,())
 |19,x=>(OperationRead.text x,OperationRead.level x,())
 |20,x=>((OneCaseRead.pat x).Form,(OneCaseRead.pat x).N,(OneCaseRead.pat x).Text,(OneCaseRead.pat x).Parts,(OneCaseRead.body x).Op,(OneCaseRead.body x).N,(OneCaseRead.body x).Text,(OneCaseRead.body x).Kids,(OneCaseRead.body x).Pats,())
 |21,x=>(x,())
 |_+22,_=>()
def makeS:(n:Nat)->hden car (fields n)->car n
 |0,(x0,x1,x2,x3,())=>(⟨x0,x1,x2,x3⟩:TermPat)
 |1,(x0,x1,x2,x3,x4,())=>(⟨x0,x1,x2,x3,x4⟩:Term)
 |2,(x0,x1,x2,x3,())=>(⟨x0,x1,x2,x3⟩:TermType)
 |3,(x0,x1,())=>(⟨x0,x1⟩:TermConDef)
 |4,(x0,x1,())=>(⟨x0,x1⟩:TermData)
 |5,(x0,x1,x2,x3,x4,x5,x6,x7,x8,x9,x10,x11,x12,x13,x14,())=>(⟨x0,x1,⟨x2,x3,x4,x5⟩,⟨x6,x7,x8,x9⟩,⟨x10,x11,x12,x13,x14⟩⟩:TermFunDef)
 |6,(x0,x1,x2,())=>(⟨x0,x1,x2⟩:TermModule)
 |7,(x0,x1,x2,x3,())=>(⟨x0,x1,x2,x3⟩:ReadToken)
 |8,(x0,x1,x2,())=>(⟨x0,x1,x2⟩:ReaderHearthref02)
 |9,(x0,x1,x2,())=>(⟨x0,x1,x2⟩:PieceRead)
 |10,(x0,())=>(⟨x0⟩:PrinterRead)
 |11,(x0,x1,())=>(⟨x0,x1⟩:GaugeTerm)
 |12,(x0,())=>(⟨x0⟩:StopRead)
 |13,(x0,x1,())=>(⟨x0,x1⟩:ParserRead)
 |14,(x0,x1,())=>(⟨⟨x0,x1⟩⟩:DataPartTerm)
 |15,(x0,x1,x2,x3,x4,x5,x6,x7,x8,x9,x10,x11,x12,x13,x14,())=>(⟨⟨x0,x1,⟨x2,x3,x4,x5⟩,⟨x6,x7,x8,x9⟩,⟨x10,x11,x12,x13,x14⟩⟩⟩:FunPartTerm)
 |16,(x,())=>x
 |17,_=>(⟨⟩:FlawTerm)
 |18,(x0,x1,x2,x3,())=>(⟨x0,x1,x2,x3⟩:HasTerm)
 |19,(x0,x1,())=>(⟨x0,x1⟩:OperationRead)
 |20,(x0,x1,x2,x3,x4,x5,x6,x7,x8,())=>(⟨⟨x0,x1,x2,x3⟩,⟨x4,x5,x6,x7,x8⟩⟩:OneCaseRead)
 |21,(x,())=>x
 |_+22,_=>()
def cellsS:(n:Nat)->car n->List D
 |0,x=>cTermPat x
 |1,x=>cTerm x
 |2,x=>cTermType x
 |3,x=>cTermConDef x
 |4,x=>cTermData x
 |5,x=>cTermFunDef x
 |6,x=>cTermModule x
 |7,x=>cReadToken x
 |8,x=>cReaderHearthref02 x
 |9,x=>cPieceRead x
 |10,x=>cPrinterRead x
 |11,x=>cGaugeTerm x
 |12,x=>cStopRead x
 |13,x=>cParserRead x
 |14,x=>cDataPartTerm x
 |15,x=>cFunPartTerm x
 |16,x=>cPartTerm x
 |17,x=>cFlawTerm x
 |18,x=>cHasTerm x
 |19,x=>cOperationRead x
 |20,x=>cOneCaseRead x
 |21,x=>cAny x
 |_+22,_=>[]
def altsS:Nat->List (TypeId×Ty)
 |16=>[(179,.st 14),(181,.st 15)]
 |21=>[(163,.st 12)]
 |_=>[]
def igetS:(n:Nat)->car n->iden car (altsS n)
 |0,_=>()
 |1,_=>()
 |2,_=>()
 |3,_=>()
 |4,_=>()
 |5,_=>()
 |6,_=>()
 |7,_=>()
 |8,_=>()
 |9,_=>()
 |10,_=>()
 |11,_=>()
 |12,_=>()
 |13,_=>()
 |14,_=>()
 |15,_=>()
 |16,.a0 x=>.inl x
 |16,.a1 x=>.inr (.inl x)
 |16,.none=>.inr (.inr (()))
 |17,_=>()
 |18,_=>()
 |19,_=>()
 |20,_=>()
 |21,.a0 x=>.inl x
 |21,.none=>.inr (())
 |_+22,_=>()
def imkS:(n:Nat)->iden car (altsS n)->car n
 |0,_=>dTermPat
 |1,_=>dTerm
 |2,_=>dTermType
 |3,_=>dTermConDef
 |4,_=>dTermData
 |5,_=>dTermFunDef
 |6,_=>dTermModule
 |7,_=>dReadToken
 |8,_=>dReaderHearthref02
 |9,_=>dPieceRead
 |10,_=>dPrinterRead
 |11,_=>dGaugeTerm
 |12,_=>dStopRead
 |13,_=>dParserRead
 |14,_=>dDataPartTerm
 |15,_=>dFunPartTerm
 |16,.inl x=>(PartTerm.a0 x)
 |16,.inr (.inl x)=>(PartTerm.a1 x)
 |16,.inr (.inr (_))=>PartTerm.none
 |17,_=>dFlawTerm
 |18,_=>dHasTerm
 |19,_=>dOperationRead
 |20,_=>dOneCaseRead
 |21,.inl x=>(Any.a0 x)
 |21,.inr (_)=>Any.none
 |_+22,_=>()
def icellS:(n:Nat)->car n->Option (TypeId×D)
 |16,x=>iPartTerm x
 |21,x=>iAny x
 |_,_=>none
def sg:Sg:=⟨car,fields,dflt,getS,makeS,cellsS,altsS,igetS,imkS,icellS,.ifc 21⟩
theorem get_mk (n:Nat) (h:hden car (fields n)):getS n (makeS n h)=h:=by
 unfold makeS;split<;>rfl
theorem mk_get:(n:Nat)->(x:car n)->makeS n (getS n x)=x
 |0,.mk ..=>rfl
 |1,.mk ..=>rfl
 |2,.mk ..=>rfl
 |3,_=>rfl
 |4,_=>rfl
 |5,⟨_,_,.mk ..,.mk ..,.mk ..⟩=>rfl
 |6,_=>rfl
 |7,_=>rfl
 |8,_=>rfl
 |9,_=>rfl
 |10,_=>rfl
 |11,_=>rfl
 |12,_=>rfl
 |13,_=>rfl
 |14,_=>rfl
 |15,⟨⟨_,_,.mk ..,.mk ..,.mk ..⟩⟩=>rfl
 |16,_=>rfl
 |17,_=>rfl
 |18,_=>rfl
 |19,_=>rfl
 |20,⟨.mk ..,.mk ..⟩=>rfl
 |21,_=>rfl
 |_+22,_=>rfl
theorem cells_ok:(n:Nat)->(x:car n)->cellsS n x=encH sg (fields n) (getS n x)
 |0,.mk ..=>by show cTermPat _=_;simp only[cTermPat,csTermPat_map];rfl
 |1,.mk ..=>by show cTerm _=_;simp only[cTerm,csTerm_map,csTermPat_map];rfl
 |2,.mk ..=>by show cTermType _=_;simp only[cTermType,csTermType_map];rfl
 |3,_=>by show cTermConDef _=_;simp only[cTermConDef,csTermType_map];rfl
 |4,_=>rfl
 |5,_=>by show cTermFunDef _=_;simp only[cTermFunDef,csTerm_map,csTermPat_map,csTermType_map];rfl
 |6,_=>rfl
 |7,_=>rfl
 |8,_=>rfl
 |9,_=>rfl
 |10,_=>rfl
 |11,_=>rfl
 |12,_=>rfl
 |13,_=>rfl
 |14,_=>rfl
 |15,_=>by show cFunPartTerm _=_;simp only[cFunPartTerm,csTerm_map,csTermPat_map,csTermType_map];rfl
 |16,_=>rfl
 |17,_=>rfl
 |18,_=>rfl
 |19,_=>rfl
 |20,_=>by show cOneCaseRead _=_;simp only[cOneCaseRead,csTerm_map,csTermPat_map];rfl
 |21,_=>rfl
 |_+22,_=>rfl
theorem leaf_ok (n:Nat):∀t∈fields n,isSt t=false:=leafB_ok (l:=fields n) (by unfold fields;split<;>rfl)
theorem iget_mk (n:Nat) (h:iden car (altsS n)):igetS n (imkS n h)=h:=by
 unfold imkS;split<;>rfl
theorem icell_ok:(n:Nat)->(x:car n)->icellS n x=encI sg (altsS n) (igetS n x)
 |0,_=>rfl
 |1,_=>rfl
 |2,_=>rfl
 |3,_=>rfl
 |4,_=>rfl
 |5,_=>rfl
 |6,_=>rfl
 |7,_=>rfl
 |8,_=>rfl
 |9,_=>rfl
 |10,_=>rfl
 |11,_=>rfl
 |12,_=>rfl
 |13,_=>rfl
 |14,_=>rfl
 |15,_=>rfl
 |16,x=>by cases x<;>rfl
 |17,_=>rfl
 |18,_=>rfl
 |19,_=>rfl
 |20,_=>rfl
 |21,x=>by cases x<;>rfl
 |_+22,_=>rfl
theorem alts_ok (n:Nat):altsB (altsS n)=true:=by unfold altsS;split<;>rfl
theorem sg_ok:SgOk sg:=⟨get_mk,mk_get,cells_ok,leaf_ok,iget_mk,icell_ok,alts_ok⟩
noncomputable def tiT_1:Tr (TI):=.node (some ⟨1,false,[.lit (.pointer none)],[],.ptr⟩) (.node (some ⟨1,false,[.lit (.int .i64 0)],[],.leaf (.int .i64)⟩) (.node (some ⟨3,true,[.lit (.string ⟨#[]⟩),.sl [],.sl []],[],.struct [(0,1,false),(1,1,false),(2,1,false)]⟩) (.node (some ⟨15,true,[.lit (.string ⟨#[]⟩),.lit (.string ⟨#[]⟩),.lit (.int .i64 0),.lit (.int .i64 0),.lit (.string ⟨#[]⟩),.sl [],.lit (.int .i64 0),.lit (.int .i64 0),.lit (.string ⟨#[]⟩),.sl [],.lit (.int .i64 0),.lit (.int .i64 0),.lit (.string ⟨#[]⟩),.sl [],.sl []],[],.struct [(0,1,false),(1,1,false),(2,4,true),(6,4,true),(10,5,true)]⟩) (.node (some ⟨1,false,[.lit .nilFunc],[],.other⟩) .nil .nil) .nil) (.node (some ⟨1,false,[.lit .nilFunc],[],.other⟩) .nil .nil)) (.node (some ⟨1,false,[.lit (.int .i64 0)],[],.leaf (.int .i64)⟩) (.node none (.node (some ⟨1,false,[.lit .nilFunc],[],.other⟩) .nil .nil) .nil) (.node (some ⟨1,false,[.lit .nilFunc],[],.other⟩) .nil .nil))) (.node (some ⟨1,false,[.lit .nilFunc],[],.other⟩) (.node none (.node (some ⟨1,true,[.sl []],[],.struct [(0,1,false)]⟩) (.node (some ⟨1,false,[.lit .nilFunc],[],.other⟩) .nil .nil) .nil) (.node (some ⟨1,false,[.lit .nilFunc],[],.other⟩) .nil .nil)) (.node (some ⟨1,false,[.lit .nilFunc],[],.other⟩) (.node (some ⟨1,false,[.lit .nilFunc],[],.other⟩) (.node (some ⟨0,true,[],[],.struct [(0,0,true)]⟩) .nil .nil) .nil) (.node (some ⟨1,false,[.lit .nilFunc],[],.other⟩) .nil .nil)))
noncomputable def tiT_2:Tr (TI):=.node (some ⟨1,false,[.lit .nilFunc],[],.other⟩) (.node none (.node (some ⟨1,false,[.sl []],[],.slice 1 false 1 [.lit (.int .u8 0)]⟩) (.node (some ⟨1,false,[.lit .nilFunc],[],.other⟩) (.node (some ⟨1,false,[.lit .nilFunc],[],.other⟩) .nil .nil) .nil) (.node (some ⟨2,true,[.lit (.pointer none),.sl []],[],.struct [(0,1,false),(1,1,false)]⟩) .nil .nil)) (.node (some ⟨1,false,[.lit .nilFunc],[],.other⟩) (.node (some ⟨1,false,[.lit .nilFunc],[],.other⟩) (.node (some ⟨1,false,[.lit .nilFunc],[],.other⟩) .nil .nil) .nil) (.node (some ⟨0,true,[],[],.struct []⟩) .nil .nil))) (.node (some ⟨1,false,[.lit .nilFunc],[],.other⟩) (.node (some ⟨1,false,[.lit .nilFunc],[],.other⟩) (.node (some ⟨1,false,[.lit .nilFunc],[],.other⟩) (.node (some ⟨1,false,[.sl []],[],.slice 9 true 136 [.lit (.int .i64 0),.lit (.int .i64 0),.lit (.string ⟨#[]⟩),.sl [],.lit (.int .i64 0),.lit (.int .i64 0),.lit (.string ⟨#[]⟩),.sl [],.sl []]⟩) .nil .nil) .nil) (.node (some ⟨1,false,[.lit .nilFunc],[],.other⟩) .nil .nil)) (.node (some ⟨1,false,[.lit .nilFunc],[],.other⟩) (.node (some ⟨1,false,[.lit .nilIface],[],.iface⟩) .nil .nil) (.node (some ⟨1,false,[.lit .nilFunc],[],.other⟩) .nil .nil)))
noncomputable def tiT_3:Tr (TI):=.node none (.node (some ⟨5,true,[.lit (.int .i64 0),.lit (.int .i64 0),.lit (.string ⟨#[]⟩),.sl [],.sl []],[],.struct [(0,1,false),(1,1,false),(2,1,false),(3,1,false),(4,1,false)]⟩) (.node (some ⟨1,false,[.lit .nilFunc],[],.other⟩) (.node (some ⟨1,false,[.sl []],[],.slice 1 false 8 [.lit .nilFunc]⟩) .nil .nil) (.node (some ⟨1,false,[.lit .nilFunc],[],.other⟩) .nil .nil)) (.node (some ⟨1,false,[.lit .nilFunc],[],.other⟩) (.node (some ⟨1,true,[.lit (.int .i64 0)],[.int .i64],.struct [(0,1,false)]⟩) (.node (some ⟨1,false,[.lit .nilFunc],[],.other⟩) .nil .nil) .nil) (.node (some ⟨1,false,[.lit .nilFunc],[],.other⟩) .nil .nil))) (.node none (.node (some ⟨1,false,[.lit .nilFunc],[],.other⟩) (.node (some ⟨1,false,[.lit (.pointer none)],[],.ptr⟩) (.node (some ⟨1,false,[.lit .nilFunc],[],.other⟩) .nil .nil) .nil) (.node (some ⟨1,false,[.lit (.map none)],[],.other⟩) .nil .nil)) (.node (some ⟨1,false,[.sl []],[],.slice 1 false 8 [.lit (.int .i64 0)]⟩) (.node (some ⟨2,true,[.lit (.string ⟨#[]⟩),.sl []],[],.struct [(0,2,true)]⟩) (.node (some ⟨1,false,[.lit .nilFunc],[],.other⟩) .nil .nil) .nil) .nil))
noncomputable def tiT_4:Tr (TI):=.node (some ⟨1,false,[.lit .nilFunc],[],.other⟩) (.node (some ⟨1,false,[.sl []],[],.slice 4 true 56 [.lit (.int .i64 0),.lit (.int .i64 0),.lit (.string ⟨#[]⟩),.sl []]⟩) (.node (some ⟨1,false,[.lit .nilFunc],[],.other⟩) (.node (some ⟨1,false,[.lit .nilFunc],[],.other⟩) (.node (some ⟨1,false,[.lit (.map none)],[],.other⟩) .nil .nil) .nil) (.node (some ⟨1,false,[.lit .nilFunc],[],.other⟩) .nil .nil)) (.node (some ⟨1,false,[.lit .nilFunc],[],.other⟩) (.node (some ⟨1,false,[.lit .nilFunc],[],.other⟩) (.node (some ⟨64,true,[.lit (.int .u8 0),.lit (.int .u8 0),.lit (.int .u8 0),.lit (.int .u8 0),.lit (.int .u8 0),.lit (.int .u8 0),.lit (.int .u8 0),.lit (.int .u8 0),.lit (.int .u8 0),.lit (.int .u8 0),.lit (.int .u8 0),.lit (.int .u8 0),.lit (.int .u8 0),.lit (.int .u8 0),.lit (.int .u8 0),.lit (.int .u8 0),.lit (.int .u8 0),.lit (.int .u8 0),.lit (.int .u8 0),.lit (.int .u8 0),.lit (.int .u8 0),.lit (.int .u8 0),.lit (.int .u8 0),.lit (.int .u8 0),.lit (.int .u8 0),.lit (.int .u8 0),.lit (.int .u8 0),.lit (.int .u8 0),.lit (.int .u8 0),.lit (.int .u8 0),.lit (.int .u8 0),.lit (.int .u8 0),.lit (.int .u8 0),.lit (.int .u8 0),.lit (.int .u8 0),.lit (.int .u8 0),.lit (.int .u8 0),.lit (.int .u8 0),.lit (.int .u8 0),.lit (.int .u8 0),.lit (.int .u8 0),.lit (.int .u8 0),.lit (.int .u8 0),.lit (.int .u8 0),.lit (.int .u8 0),.lit (.int .u8 0),.lit (.int .u8 0),.lit (.int .u8 0),.lit (.int .u8 0),.lit (.int .u8 0),.lit (.int .u8 0),.lit (.int .u8 0),.lit (.int .u8 0),.lit (.int .u8 0),.lit (.int .u8 0),.lit (.int .u8 0),.lit (.int .u8 0),.lit (.int .u8 0),.lit (.int .u8 0),.lit (.int .u8 0),.lit (.int .u8 0),.lit (.int .u8 0),.lit (.int .u8 0),.lit (.int .u8 0)],[],.array 64 1 false⟩) .nil .nil) .nil) (.node (some ⟨4,true,[.lit (.bool false),.lit (.bool false),.lit (.bool false),.lit (.int .i64 0)],[.bool,.bool,.bool,.int .i64],.struct [(0,1,false),(1,1,false),(2,1,false),(3,1,false)]⟩) .nil .nil))) (.node (some ⟨1,false,[.lit .nilFunc],[],.other⟩) (.node (some ⟨1,false,[.lit .nilFunc],[],.other⟩) (.node (some ⟨1,false,[.lit .nilFunc],[],.other⟩) (.node (some ⟨1,false,[.lit .nilFunc],[],.other⟩) .nil .nil) .nil) (.node (some ⟨1,false,[.lit .nilFunc],[],.other⟩) .nil .nil)) (.node (some ⟨1,false,[.sl []],[],.slice 2 true 40 [.lit (.string ⟨#[]⟩),.sl []]⟩) (.node (some ⟨2,true,[.lit (.string ⟨#[]⟩),.sl []],[],.struct [(0,1,false),(1,1,false)]⟩) .nil .nil) (.node (some ⟨1,false,[.lit .nilFunc],[],.other⟩) .nil .nil)))
noncomputable def tiT_5:Tr (TI):=.node (some ⟨1,false,[.lit (.pointer none)],[],.ptr⟩) (.node (some ⟨1,false,[.sl []],[],.slice 4 true 56 [.lit (.int .i64 0),.lit (.int .i64 0),.lit (.string ⟨#[]⟩),.sl []]⟩) (.node none (.node (some ⟨1,false,[.lit .nilFunc],[],.other⟩) (.node (some ⟨1,false,[.lit .nilFunc],[],.other⟩) .nil .nil) .nil) (.node (some ⟨1,false,[.lit (.int .u32 0)],[],.leaf (.int .u32)⟩) .nil .nil)) (.node (some ⟨4,true,[.lit (.int .i64 0),.lit (.int .i64 0),.lit (.string ⟨#[]⟩),.sl []],[],.struct [(0,1,false),(1,1,false),(2,1,false),(3,1,false)]⟩) (.node (some ⟨1,false,[.lit .nilFunc],[],.other⟩) (.node (some ⟨1,false,[.lit .nilFunc],[],.other⟩) .nil .nil) .nil) (.node (some ⟨1,false,[.lit .nilFunc],[],.other⟩) .nil .nil))) (.node (some ⟨1,false,[.lit .nilFunc],[],.other⟩) (.node (some ⟨1,false,[.lit .nilFunc],[],.other⟩) (.node (some ⟨1,false,[.lit .nilFunc],[],.other⟩) (.node (some ⟨1,false,[.lit .nilFunc],[],.other⟩) .nil .nil) .nil) (.node (some ⟨1,false,[.lit .nilFunc],[],.other⟩) .nil .nil)) (.node (some ⟨3,true,[.sl [],.lit (.int .i64 0),.lit (.bool false)],[],.struct [(0,1,false),(1,1,false),(2,1,false)]⟩) (.node (some ⟨1,false,[.sl []],[],.slice 1 false 16 [.lit .nilIface]⟩) .nil .nil) (.node (some ⟨2,true,[.lit (.string ⟨#[]⟩),.lit (.int .i64 0)],[.str,.int .i64],.struct [(0,1,false),(1,1,false)]⟩) .nil .nil)))
noncomputable def tiT_6:Tr (TI):=.node (some ⟨1,false,[.lit (.int .i64 0)],[],.leaf (.int .i64)⟩) (.node (some ⟨1,false,[.lit .nilFunc],[],.other⟩) (.node (some ⟨1,false,[.lit .nilFunc],[],.other⟩) (.node (some ⟨1,false,[.lit .nilFunc],[],.other⟩) (.node (some ⟨1,false,[.lit (.map none)],[],.other⟩) .nil .nil) .nil) (.node (some ⟨1,false,[.lit .nilIface],[],.iface⟩) .nil .nil)) (.node none (.node (some ⟨1,false,[.lit .nilFunc],[],.other⟩) (.node (some ⟨1,false,[.lit .nilFunc],[],.other⟩) .nil .nil) .nil) .nil)) (.node (some ⟨1,false,[.lit (.int .i64 0)],[],.leaf (.int .i64)⟩) (.node (some ⟨1,false,[.lit .nilFunc],[],.other⟩) (.node (some ⟨1,false,[.lit .nilFunc],[],.other⟩) (.node (some ⟨9,true,[.lit (.int .i64 0),.lit (.int .i64 0),.lit (.string ⟨#[]⟩),.sl [],.lit (.int .i64 0),.lit (.int .i64 0),.lit (.string ⟨#[]⟩),.sl [],.sl []],[],.struct [(0,4,true),(4,5,true)]⟩) .nil .nil) .nil) (.node (some ⟨1,false,[.lit .nilFunc],[],.other⟩) .nil .nil)) (.node (some ⟨1,false,[.lit .nilFunc],[],.other⟩) (.node (some ⟨1,false,[.lit .nilFunc],[],.other⟩) .nil .nil) (.node (some ⟨1,false,[.lit .nilFunc],[],.other⟩) .nil .nil)))
noncomputable def tiT_7:Tr (TI):=.node (some ⟨1,false,[.lit (.int .i32 0)],[],.leaf (.int .i32)⟩) (.node none (.node (some ⟨4,true,[.lit (.int .i64 0),.lit (.string ⟨#[]⟩),.lit (.int .i64 0),.lit (.int .i64 0)],[.int .i64,.str,.int .i64,.int .i64],.struct [(0,1,false),(1,1,false),(2,1,false),(3,1,false)]⟩) (.node (some ⟨1,false,[.lit .nilFunc],[],.other⟩) (.node (some ⟨1,false,[.lit .nilFunc],[],.other⟩) .nil .nil) .nil) (.node (some ⟨1,false,[.lit (.pointer none)],[],.ptr⟩) .nil .nil)) (.node (some ⟨1,false,[.lit .nilFunc],[],.other⟩) (.node (some ⟨2,true,[.sl [],.lit (.int .i64 0)],[],.struct [(0,1,false),(1,1,false)]⟩) (.node (some ⟨20,true,[.lit (.int .u64 0),.lit (.int .u64 0),.lit (.int .u64 0),.lit (.int .u64 0),.lit (.int .u64 0),.lit (.int .u64 0),.lit (.int .u64 0),.lit (.int .u64 0),.lit (.int .u64 0),.lit (.int .u64 0),.lit (.int .u64 0),.lit (.int .u64 0),.lit (.int .u64 0),.lit (.int .u64 0),.lit (.int .u64 0),.lit (.int .u64 0),.lit (.int .u64 0),.lit (.int .u64 0),.lit (.int .u64 0),.lit (.int .u64 0)],[],.array 20 1 false⟩) .nil .nil) .nil) (.node (some ⟨1,false,[.lit (.int .u64 0)],[],.leaf (.int .u64)⟩) .nil .nil))) (.node none (.node (some ⟨1,false,[.lit (.pointer none)],[],.ptr⟩) (.node (some ⟨2,true,[.lit (.int .i64 0),.lit (.int .i64 0)],[.int .i64,.int .i64],.struct [(0,1,false),(1,1,false)]⟩) (.node (some ⟨1,false,[.lit .nilFunc],[],.other⟩) .nil .nil) .nil) (.node (some ⟨1,false,[.lit .nilFunc],[],.other⟩) .nil .nil)) (.node none (.node (some ⟨15,true,[.lit (.string ⟨#[]⟩),.lit (.string ⟨#[]⟩),.lit (.int .i64 0),.lit (.int .i64 0),.lit (.string ⟨#[]⟩),.sl [],.lit (.int .i64 0),.lit (.int .i64 0),.lit (.string ⟨#[]⟩),.sl [],.lit (.int .i64 0),.lit (.int .i64 0),.lit (.string ⟨#[]⟩),.sl [],.sl []],[],.struct [(0,15,true)]⟩) .nil .nil) (.node (some ⟨1,false,[.lit .nilFunc],[],.other⟩) .nil .nil)))
noncomputable def tiT_8:Tr (TI):=.node (some ⟨1,false,[.lit .nilFunc],[],.other⟩) (.node (some ⟨4,true,[.lit (.int .i64 0),.lit (.int .i64 0),.lit (.string ⟨#[]⟩),.sl []],[],.struct [(0,1,false),(1,1,false),(2,1,false),(3,1,false)]⟩) (.node (some ⟨1,false,[.lit .nilFunc],[],.other⟩) (.node (some ⟨1,false,[.sl []],[],.slice 3 true 32 [.lit (.string ⟨#[]⟩),.lit (.bool false),.lit (.bool false)]⟩) (.node (some ⟨1,false,[.lit .nilFunc],[],.other⟩) .nil .nil) .nil) (.node (some ⟨1,false,[.lit .nilFunc],[],.other⟩) .nil .nil)) (.node (some ⟨1,false,[.lit (.pointer none)],[],.ptr⟩) (.node (some ⟨1,false,[.lit .nilFunc],[],.other⟩) .nil .nil) .nil)) (.node (some ⟨1,false,[.sl []],[],.slice 2 true 40 [.lit (.string ⟨#[]⟩),.sl []]⟩) (.node (some ⟨1,false,[.lit (.pointer none)],[],.ptr⟩) (.node (some ⟨3,true,[.lit (.string ⟨#[]⟩),.lit (.bool false),.lit (.bool false)],[.str,.bool,.bool],.struct [(0,1,false),(1,1,false),(2,1,false)]⟩) (.node (some ⟨1,false,[.lit (.int .u64 0)],[],.leaf (.int .u64)⟩) .nil .nil) .nil) (.node (some ⟨1,false,[.lit .nilFunc],[],.other⟩) .nil .nil)) (.node (some ⟨2,true,[.lit (.string ⟨#[]⟩),.sl []],[],.struct [(0,1,false),(1,1,false)]⟩) (.node (some ⟨1,false,[.lit .nilFunc],[],.other⟩) .nil .nil) (.node (some ⟨1,false,[.lit .nilFunc],[],.other⟩) .nil .nil)))
noncomputable def tiT_9:Tr (TI):=.node (some ⟨1,false,[.lit (.pointer none)],[],.ptr⟩) (.node (some ⟨1,false,[.sl []],[],.slice 5 true 80 [.lit (.int .i64 0),.lit (.int .i64 0),.lit (.string ⟨#[]⟩),.sl [],.sl []]⟩) (.node (some ⟨3,true,[.lit (.string ⟨#[]⟩),.sl [],.sl []],[],.struct [(0,1,false),(1,1,false),(2,1,false)]⟩) (.node (some ⟨1,false,[.lit .nilFunc],[],.other⟩) (.node (some ⟨1,false,[.lit .nilFunc],[],.other⟩) .nil .nil) .nil) (.node (some ⟨1,false,[.lit .nilFunc],[],.other⟩) .nil .nil)) (.node (some ⟨4,true,[.lit (.int .i64 0),.lit (.int .i64 0),.lit (.string ⟨#[]⟩),.sl []],[],.struct [(0,1,false),(1,1,false),(2,1,false),(3,1,false)]⟩) (.node (some ⟨1,false,[.lit .nilFunc],[],.other⟩) .nil .nil) (.node (some ⟨1,false,[.lit .nilFunc],[],.other⟩) .nil .nil))) (.node none (.node (some ⟨1,false,[.lit .nilFunc],[],.other⟩) (.node (some ⟨1,false,[.lit .nilFunc],[],.other⟩) (.node (some ⟨1,false,[.lit .nilFunc],[],.other⟩) .nil .nil) .nil) (.node (some ⟨1,false,[.lit .nilFunc],[],.other⟩) .nil .nil)) (.node (some ⟨3,true,[.sl [],.lit (.int .i64 0),.lit (.bool false)],[],.struct [(0,1,false),(1,1,false),(2,1,false)]⟩) (.node (some ⟨1,false,[.lit .nilFunc],[],.other⟩) .nil .nil) (.node (some ⟨1,false,[.lit .nilFunc],[],.other⟩) .nil .nil)))
noncomputable def tiT_10:Tr (TI):=.node (some ⟨1,false,[.sl []],[],.slice 4 true 40 [.lit (.int .i64 0),.lit (.string ⟨#[]⟩),.lit (.int .i64 0),.lit (.int .i64 0)]⟩) (.node (some ⟨1,false,[.lit .nilFunc],[],.other⟩) (.node (some ⟨1,false,[.lit .nilFunc],[],.other⟩) (.node (some ⟨1,false,[.lit .nilFunc],[],.other⟩) (.node (some ⟨1,false,[.lit (.map none)],[],.other⟩) .nil .nil) .nil) (.node (some ⟨1,false,[.lit .nilFunc],[],.other⟩) .nil .nil)) (.node (some ⟨1,false,[.lit .nilFunc],[],.other⟩) (.node (some ⟨1,false,[.lit .nilFunc],[],.other⟩) (.node (some ⟨1,false,[.lit .nilFunc],[],.other⟩) .nil .nil) .nil) (.node (some ⟨0,true,[],[],.struct []⟩) .nil .nil))) (.node (some ⟨1,false,[.lit .nilFunc],[],.other⟩) (.node (some ⟨1,false,[.lit .nilFunc],[],.other⟩) (.node none (.node (some ⟨1,false,[.lit .nilFunc],[],.other⟩) .nil .nil) .nil) (.node (some ⟨1,false,[.lit .nilFunc],[],.other⟩) .nil .nil)) (.node (some ⟨1,false,[.lit .nilFunc],[],.other⟩) (.node (some ⟨1,false,[.lit .nilIface],[],.iface⟩) .nil .nil) (.node (some ⟨1,false,[.lit .nilFunc],[],.other⟩) .nil .nil)))
noncomputable def tiT_11:Tr (TI):=.node (some ⟨1,false,[.lit .nilIface],[],.iface⟩) (.node (some ⟨1,false,[.lit .nilFunc],[],.other⟩) (.node (some ⟨4,true,[.lit (.int .i64 0),.lit (.string ⟨#[]⟩),.lit (.int .i64 0),.lit (.int .i64 0)],[.int .i64,.str,.int .i64,.int .i64],.struct [(0,1,false),(1,1,false),(2,1,false),(3,1,false)]⟩) (.node (some ⟨1,false,[.lit .nilFunc],[],.other⟩) (.node (some ⟨1,false,[.lit .nilFunc],[],.other⟩) .nil .nil) .nil) (.node (some ⟨1,false,[.lit .nilFunc],[],.other⟩) .nil .nil)) (.node (some ⟨1,false,[.lit .nilFunc],[],.other⟩) (.node (some ⟨2,true,[.sl [],.lit (.int .i64 0)],[],.struct [(0,1,false),(1,1,false)]⟩) (.node (some ⟨1,false,[.lit .nilFunc],[],.other⟩) .nil .nil) .nil) (.node (some ⟨1,false,[.lit .nilFunc],[],.other⟩) .nil .nil))) (.node (some ⟨1,false,[.lit .nilFunc],[],.other⟩) (.node (some ⟨1,false,[.lit .nilFunc],[],.other⟩) (.node (some ⟨2,true,[.lit (.int .i64 0),.lit (.int .i64 0)],[.int .i64,.int .i64],.struct [(0,1,false),(1,1,false)]⟩) (.node (some ⟨1,false,[.lit .nilFunc],[],.other⟩) .nil .nil) .nil) (.node (some ⟨1,false,[.lit .nilFunc],[],.other⟩) .nil .nil)) (.node (some ⟨1,false,[.lit .nilFunc],[],.other⟩) (.node (some ⟨15,true,[.lit (.string ⟨#[]⟩),.lit (.string ⟨#[]⟩),.lit (.int .i64 0),.lit (.int .i64 0),.lit (.string ⟨#[]⟩),.sl [],.lit (.int .i64 0),.lit (.int .i64 0),.lit (.string ⟨#[]⟩),.sl [],.lit (.int .i64 0),.lit (.int .i64 0),.lit (.string ⟨#[]⟩),.sl [],.sl []],[],.struct [(0,15,true)]⟩) .nil .nil) (.node (some ⟨1,false,[.lit (.map none)],[],.other⟩) .nil .nil)))
noncomputable def tiT_12:Tr (TI):=.node none (.node (some ⟨4,true,[.lit (.int .i64 0),.lit (.int .i64 0),.lit (.string ⟨#[]⟩),.sl []],[],.struct [(0,1,false),(1,1,false),(2,1,false),(3,1,false)]⟩) (.node (some ⟨1,false,[.lit .nilFunc],[],.other⟩) (.node (some ⟨1,false,[.sl []],[],.slice 1 false 16 [.lit (.string ⟨#[]⟩)]⟩) (.node (some ⟨1,false,[.lit .nilFunc],[],.other⟩) .nil .nil) .nil) .nil) (.node (some ⟨1,false,[.lit .nilFunc],[],.other⟩) (.node (some ⟨1,false,[.lit .nilFunc],[],.other⟩) (.node (some ⟨4,true,[.lit (.pointer none),.lit (.pointer none),.lit (.pointer none),.lit (.string ⟨#[]⟩)],[],.struct [(0,1,false),(1,1,false),(2,1,false),(3,1,false)]⟩) .nil .nil) .nil) (.node (some ⟨4,true,[.lit (.bool false),.lit (.bool false),.lit (.bool false),.lit (.int .i64 0)],[.bool,.bool,.bool,.int .i64],.struct [(0,1,false),(1,1,false),(2,1,false),(3,1,false)]⟩) .nil .nil))) (.node (some ⟨1,false,[.lit .nilFunc],[],.other⟩) (.node (some ⟨1,false,[.lit .nilFunc],[],.other⟩) (.node (some ⟨1,false,[.lit .nilFunc],[],.other⟩) (.node (some ⟨24,true,[.lit (.int .u8 0),.lit (.int .u8 0),.lit (.int .u8 0),.lit (.int .u8 0),.lit (.int .u8 0),.lit (.int .u8 0),.lit (.int .u8 0),.lit (.int .u8 0),.lit (.int .u8 0),.lit (.int .u8 0),.lit (.int .u8 0),.lit (.int .u8 0),.lit (.int .u8 0),.lit (.int .u8 0),.lit (.int .u8 0),.lit (.int .u8 0),.lit (.int .u8 0),.lit (.int .u8 0),.lit (.int .u8 0),.lit (.int .u8 0),.lit (.int .u8 0),.lit (.int .u8 0),.lit (.int .u8 0),.lit (.int .u8 0)],[],.array 24 1 false⟩) .nil .nil) .nil) (.node (some ⟨1,false,[.lit .nilFunc],[],.other⟩) .nil .nil)) (.node (some ⟨2,true,[.lit (.string ⟨#[]⟩),.sl []],[],.struct [(0,1,false),(1,1,false)]⟩) (.node (some ⟨1,false,[.lit .nilFunc],[],.other⟩) .nil .nil) (.node (some ⟨1,false,[.lit .nilFunc],[],.other⟩) .nil .nil)))
noncomputable def tiT_13:Tr (TI):=.node (some ⟨1,true,[.lit (.pointer none)],[],.struct [(0,1,false)]⟩) (.node (some ⟨5,true,[.lit (.int .i64 0),.lit (.int .i64 0),.lit (.string ⟨#[]⟩),.sl [],.sl []],[],.struct [(0,1,false),(1,1,false),(2,1,false),(3,1,false),(4,1,false)]⟩) (.node (some ⟨1,false,[.lit .nilFunc],[],.other⟩) (.node (some ⟨1,false,[.lit .nilFunc],[],.other⟩) (.node (some ⟨1,false,[.lit .nilFunc],[],.other⟩) .nil .nil) .nil) .nil) (.node (some ⟨1,false,[.lit .nilFunc],[],.other⟩) (.node (some ⟨1,true,[.lit (.int .i64 0)],[.int .i64],.struct [(0,1,false)]⟩) (.node (some ⟨1,false,[.lit .nilFunc],[],.other⟩) .nil .nil) .nil) (.node (some ⟨1,false,[.lit .nilFunc],[],.other⟩) .nil .nil))) (.node (some ⟨1,false,[.lit .nilFunc],[],.other⟩) (.node (some ⟨1,false,[.lit .nilFunc],[],.other⟩) (.node (some ⟨1,false,[.lit .nilFunc],[],.other⟩) (.node (some ⟨1,false,[.lit .nilFunc],[],.other⟩) .nil .nil) .nil) .nil) (.node (some ⟨1,false,[.lit .nilFunc],[],.other⟩) (.node (some ⟨2,true,[.lit (.string ⟨#[]⟩),.sl []],[],.struct [(0,2,true)]⟩) .nil .nil) (.node (some ⟨2,true,[.lit (.string ⟨#[]⟩),.lit (.int .i64 0)],[.str,.int .i64],.struct [(0,1,false),(1,1,false)]⟩) .nil .nil)))
noncomputable def tiT_14:Tr (TI):=.node none (.node (some ⟨1,false,[.lit (.int .i64 0)],[],.leaf (.int .i64)⟩) (.node (some ⟨1,false,[.lit .nilFunc],[],.other⟩) (.node (some ⟨1,false,[.lit .nilFunc],[],.other⟩) (.node (some ⟨1,false,[.lit .nilFunc],[],.other⟩) .nil .nil) .nil) (.node (some ⟨1,false,[.lit .nilIface],[],.iface⟩) .nil .nil)) (.node (some ⟨1,false,[.lit .nilFunc],[],.other⟩) (.node (some ⟨1,false,[.lit .nilFunc],[],.other⟩) (.node (some ⟨32,true,[.lit (.int .u8 0),.lit (.int .u8 0),.lit (.int .u8 0),.lit (.int .u8 0),.lit (.int .u8 0),.lit (.int .u8 0),.lit (.int .u8 0),.lit (.int .u8 0),.lit (.int .u8 0),.lit (.int .u8 0),.lit (.int .u8 0),.lit (.int .u8 0),.lit (.int .u8 0),.lit (.int .u8 0),.lit (.int .u8 0),.lit (.int .u8 0),.lit (.int .u8 0),.lit (.int .u8 0),.lit (.int .u8 0),.lit (.int .u8 0),.lit (.int .u8 0),.lit (.int .u8 0),.lit (.int .u8 0),.lit (.int .u8 0),.lit (.int .u8 0),.lit (.int .u8 0),.lit (.int .u8 0),.lit (.int .u8 0),.lit (.int .u8 0),.lit (.int .u8 0),.lit (.int .u8 0),.lit (.int .u8 0)],[],.array 32 1 false⟩) .nil .nil) .nil) (.node (some ⟨1,false,[.lit .nilFunc],[],.other⟩) .nil .nil))) (.node none (.node (some ⟨1,false,[.lit .nilFunc],[],.other⟩) (.node (some ⟨1,false,[.lit .nilFunc],[],.other⟩) (.node (some ⟨9,true,[.lit (.int .i64 0),.lit (.int .i64 0),.lit (.string ⟨#[]⟩),.sl [],.lit (.int .i64 0),.lit (.int .i64 0),.lit (.string ⟨#[]⟩),.sl [],.sl []],[],.struct [(0,4,true),(4,5,true)]⟩) .nil .nil) .nil) (.node (some ⟨1,false,[.lit .nilFunc],[],.other⟩) .nil .nil)) (.node (some ⟨1,false,[.lit .nilFunc],[],.other⟩) (.node (some ⟨2,true,[.lit (.string ⟨#[]⟩),.sl []],[],.struct [(0,1,false),(1,1,false)]⟩) .nil .nil) (.node (some ⟨1,false,[.lit .nilFunc],[],.other⟩) .nil .nil)))
noncomputable def tiT_15:Tr (TI):=.node (some ⟨1,false,[.lit .nilFunc],[],.other⟩) (.node (some ⟨1,false,[.lit .nilFunc],[],.other⟩) (.node (some ⟨1,false,[.lit .nilFunc],[],.other⟩) (.node (some ⟨1,false,[.lit .nilFunc],[],.other⟩) (.node (some ⟨1,false,[.lit .nilFunc],[],.other⟩) .nil .nil) .nil) (.node (some ⟨2,true,[.lit (.pointer none),.sl []],[],.struct [(0,1,false),(1,1,false)]⟩) .nil .nil)) (.node (some ⟨1,false,[.lit .nilFunc],[],.other⟩) (.node (some ⟨1,false,[.lit .nilFunc],[],.other⟩) (.node (some ⟨65,true,[.lit (.int .u8 0),.lit (.int .u8 0),.lit (.int .u8 0),.lit (.int .u8 0),.lit (.int .u8 0),.lit (.int .u8 0),.lit (.int .u8 0),.lit (.int .u8 0),.lit (.int .u8 0),.lit (.int .u8 0),.lit (.int .u8 0),.lit (.int .u8 0),.lit (.int .u8 0),.lit (.int .u8 0),.lit (.int .u8 0),.lit (.int .u8 0),.lit (.int .u8 0),.lit (.int .u8 0),.lit (.int .u8 0),.lit (.int .u8 0),.lit (.int .u8 0),.lit (.int .u8 0),.lit (.int .u8 0),.lit (.int .u8 0),.lit (.int .u8 0),.lit (.int .u8 0),.lit (.int .u8 0),.lit (.int .u8 0),.lit (.int .u8 0),.lit (.int .u8 0),.lit (.int .u8 0),.lit (.int .u8 0),.lit (.int .u8 0),.lit (.int .u8 0),.lit (.int .u8 0),.lit (.int .u8 0),.lit (.int .u8 0),.lit (.int .u8 0),.lit (.int .u8 0),.lit (.int .u8 0),.lit (.int .u8 0),.lit (.int .u8 0),.lit (.int .u8 0),.lit (.int .u8 0),.lit (.int .u8 0),.lit (.int .u8 0),.lit (.int .u8 0),.lit (.int .u8 0),.lit (.int .u8 0),.lit (.int .u8 0),.lit (.int .u8 0),.lit (.int .u8 0),.lit (.int .u8 0),.lit (.int .u8 0),.lit (.int .u8 0),.lit (.int .u8 0),.lit (.int .u8 0),.lit (.int .u8 0),.lit (.int .u8 0),.lit (.int .u8 0),.lit (.int .u8 0),.lit (.int .u8 0),.lit (.int .u8 0),.lit (.int .u8 0),.lit (.int .u8 0)],[],.array 65 1 false⟩) .nil .nil) .nil) (.node (some ⟨1,false,[.lit (.pointer none)],[],.ptr⟩) .nil .nil))) (.node (some ⟨1,false,[.lit .nilFunc],[],.other⟩) (.node (some ⟨1,false,[.lit .nilFunc],[],.other⟩) (.node (some ⟨1,false,[.lit .nilFunc],[],.other⟩) (.node (some ⟨1,false,[.lit .nilFunc],[],.other⟩) .nil .nil) .nil) (.node (some ⟨1,false,[.lit .nilFunc],[],.other⟩) .nil .nil)) (.node (some ⟨1,false,[.lit .nilFunc],[],.other⟩) (.node (some ⟨1,false,[.lit .nilFunc],[],.other⟩) .nil .nil) .nil))
noncomputable def tiT_16:Tr (TI):=.node (some ⟨1,false,[.lit .nilFunc],[],.other⟩) (.node (some ⟨1,false,[.lit .nilFunc],[],.other⟩) (.node (some ⟨1,false,[.lit .nilFunc],[],.other⟩) (.node (some ⟨1,true,[.sl []],[],.struct [(0,1,false)]⟩) .nil .nil) (.node (some ⟨1,false,[.lit .nilFunc],[],.other⟩) .nil .nil)) (.node none (.node (some ⟨1,false,[.lit .nilFunc],[],.other⟩) (.node (some ⟨0,true,[],[],.array 0 1 false⟩) .nil .nil) .nil) (.node (some ⟨1,false,[.lit .nilFunc],[],.other⟩) .nil .nil))) (.node (some ⟨1,false,[.sl []],[],.slice 15 true 224 [.lit (.string ⟨#[]⟩),.lit (.string ⟨#[]⟩),.lit (.int .i64 0),.lit (.int .i64 0),.lit (.string ⟨#[]⟩),.sl [],.lit (.int .i64 0),.lit (.int .i64 0),.lit (.string ⟨#[]⟩),.sl [],.lit (.int .i64 0),.lit (.int .i64 0),.lit (.string ⟨#[]⟩),.sl [],.sl []]⟩) (.node (some ⟨1,false,[.lit .nilFunc],[],.other⟩) (.node (some ⟨3,true,[.lit (.string ⟨#[]⟩),.lit (.bool false),.lit (.bool false)],[.str,.bool,.bool],.struct [(0,1,false),(1,1,false),(2,1,false)]⟩) (.node (some ⟨1,false,[.lit .nilFunc],[],.other⟩) .nil .nil) .nil) (.node (some ⟨1,false,[.lit .nilFunc],[],.other⟩) .nil .nil)) (.node (some ⟨15,true,[.lit (.string ⟨#[]⟩),.lit (.string ⟨#[]⟩),.lit (.int .i64 0),.lit (.int .i64 0),.lit (.string ⟨#[]⟩),.sl [],.lit (.int .i64 0),.lit (.int .i64 0),.lit (.string ⟨#[]⟩),.sl [],.lit (.int .i64 0),.lit (.int .i64 0),.lit (.string ⟨#[]⟩),.sl [],.sl []],[],.struct [(0,1,false),(1,1,false),(2,4,true),(6,4,true),(10,5,true)]⟩) (.node (some ⟨1,false,[.lit .nilFunc],[],.other⟩) .nil .nil) .nil))
noncomputable def tiT:Tr (TI):=(.node none (.node (some ⟨1,false,[.lit .nilFunc],[],.other⟩) (.node (some ⟨1,false,[.lit (.int .i64 0)],[],.leaf (.int .i64)⟩) (.node (some ⟨4,true,[.lit (.int .i64 0),.lit (.int .i64 0),.lit (.bool false),.lit (.int .u8 0)],[.int .i64,.int .i64,.bool,.int .u8],.struct [(0,1,false),(1,1,false),(2,1,false),(3,1,false)]⟩) tiT_1 tiT_2) (.node none tiT_3 tiT_4)) (.node (some ⟨1,false,[.lit (.int .u8 0)],[],.leaf (.int .u8)⟩) (.node (some ⟨1,false,[.lit (.string ⟨#[]⟩)],[],.leaf .str⟩) tiT_5 tiT_6) (.node none tiT_7 tiT_8))) (.node (some ⟨1,false,[.lit (.int .i64 0)],[],.leaf (.int .i64)⟩) (.node (some ⟨1,false,[.lit (.bool false)],[],.leaf .bool⟩) (.node none tiT_9 tiT_10) (.node (some ⟨1,false,[.lit (.int .u64 0)],[],.leaf (.int .u64)⟩) tiT_11 tiT_12)) (.node none (.node none tiT_13 tiT_14) (.node none tiT_15 tiT_16))))
noncomputable def tyT_1:Tr (Ty):=.node none (.node (some (.int .i64)) (.node none (.node (some (.st 5)) .nil .nil) .nil) (.node (some (.int .i64)) .nil .nil)) (.node none (.node none (.node (some (.st 10)) .nil .nil) .nil) .nil)
noncomputable def tyT_2:Tr (Ty):=.node none (.node none (.node (some (.sl (.int .u8))) .nil .nil) .nil) (.node none (.node none (.node none (.node (some (.sl (.st 20))) .nil .nil) .nil) .nil) .nil)
noncomputable def tyT_3:Tr (Ty):=.node none (.node (some (.st 1)) .nil (.node none (.node (some (.st 12)) .nil .nil) .nil)) (.node none .nil (.node (some (.sl (.int .i64))) (.node (some (.st 14)) .nil .nil) .nil))
noncomputable def tyT_4:Tr (Ty):=.node none (.node (some (.sl (.st 2))) .nil .nil) (.node none .nil (.node (some (.sl (.st 3))) (.node (some (.st 3)) .nil .nil) .nil))
noncomputable def tyT_5:Tr (Ty):=.node none (.node (some (.sl (.st 0))) (.node none .nil (.node (some (.int .u32)) .nil .nil)) (.node (some (.st 0)) .nil .nil)) (.node none .nil (.node (some (.st 8)) (.node (some (.sl (.ifc 16))) .nil .nil) .nil))
noncomputable def tyT_6:Tr (Ty):=.node (some (.int .i64)) .nil (.node (some (.int .i64)) .nil .nil)
noncomputable def tyT_7:Tr (Ty):=.node (some (.int .i32)) (.node none (.node (some (.st 7)) .nil .nil) (.node none (.node (some (.st 13)) .nil .nil) (.node (some (.int .u64)) .nil .nil))) (.node none (.node none (.node (some (.st 11)) .nil .nil) .nil) (.node none (.node (some (.st 15)) .nil .nil) .nil))
noncomputable def tyT_8:Tr (Ty):=.node none (.node (some (.st 2)) (.node none (.node (some (.sl (.st 9))) .nil .nil) .nil) .nil) (.node (some (.sl (.st 4))) (.node none (.node none (.node (some (.int .u64)) .nil .nil) .nil) .nil) (.node (some (.st 4)) .nil .nil))
noncomputable def tyT_9:Tr (Ty):=.node none (.node (some (.sl (.st 1))) (.node (some (.st 6)) .nil .nil) .nil) .nil
noncomputable def tyT_10:Tr (Ty):=.node (some (.sl (.st 7))) (.node none .nil (.node none .nil (.node (some (.st 17)) .nil .nil))) (.node none .nil (.node none (.node (some (.ifc 16)) .nil .nil) .nil))
noncomputable def tyT_11:Tr (Ty):=.node (some (.ifc 21)) .nil .nil
noncomputable def tyT_12:Tr (Ty):=.node none (.node none (.node none (.node (some (.sl (.str))) .nil .nil) .nil) (.node none .nil (.node (some (.st 18)) .nil .nil))) .nil
noncomputable def tyT_13:Tr (Ty):=.node none .nil (.node none .nil (.node none .nil (.node (some (.st 19)) .nil .nil)))
noncomputable def tyT_14:Tr (Ty):=.node none (.node (some (.int .i64)) .nil .nil) (.node none (.node none (.node none (.node (some (.st 20)) .nil .nil) .nil) .nil) .nil)
noncomputable def tyT_15:Tr (Ty):=.node none .nil (.node (some (.sl (.st 5))) (.node none (.node (some (.st 9)) .nil .nil) .nil) .nil)
noncomputable def tyT:Tr (Ty):=(.node none (.node none (.node (some (.int .i64)) (.node none tyT_1 tyT_2) (.node none tyT_3 tyT_4)) (.node (some (.int .u8)) (.node (some (.str)) tyT_5 tyT_6) (.node none tyT_7 tyT_8))) (.node (some (.int .i64)) (.node (some (.bool)) (.node none tyT_9 tyT_10) (.node (some (.int .u64)) tyT_11 tyT_12)) (.node none (.node none tyT_13 tyT_14) (.node none .nil tyT_15))))
noncomputable def mtT_1:Tr (MT):=.node none .nil (.node none (.node none .nil (.node (some ⟨.str,none,92⟩) .nil .nil)) .nil)
noncomputable def mtT_2:Tr (MT):=.node none (.node none (.node none (.node none (.node (some ⟨.int .i64,some (.str),9⟩) .nil .nil) .nil) .nil) .nil) .nil
noncomputable def mtT_3:Tr (MT):=.node none (.node none (.node none (.node none (.node (some ⟨.str,some (.int .i64),31⟩) .nil .nil) .nil) .nil) .nil) .nil
noncomputable def mtT_4:Tr (MT):=.node none (.node none (.node none (.node none (.node (some ⟨.str,some (.bool),4⟩) .nil .nil) .nil) .nil) .nil) .nil
noncomputable def mtT_5:Tr (MT):=.node none .nil (.node none .nil (.node none .nil (.node (some ⟨.int .i64,some (.st 19),242⟩) .nil .nil)))
noncomputable def mtT:Tr (MT):=(.node none (.node none (.node none .nil (.node none mtT_1 mtT_2)) (.node none (.node none .nil mtT_3) .nil)) (.node none (.node none (.node none .nil mtT_4) (.node none mtT_5 .nil)) .nil))
noncomputable def methT:Tr (List (String×FuncId)):=.nil
noncomputable def fncT_1:Tr (Func):=.node (some Go.Proofs.Tryz.f15) (.node (some Go.Proofs.Tryz.f31) (.node (some Go.Proofs.Tryz.f63) (.node (some Go.Proofs.Tryz.f127) (.node (some Go.Proofs.Tryz.f255) .nil .nil) .nil) (.node (some Go.Proofs.Tryz.f191) (.node (some Go.Proofs.Tryz.f319) .nil .nil) .nil)) (.node (some Go.Proofs.Tryz.f95) (.node (some Go.Proofs.Tryz.f159) (.node (some Go.Proofs.Tryz.f287) .nil .nil) .nil) (.node (some Go.Proofs.Tryz.f223) .nil .nil))) (.node (some Go.Proofs.Tryz.f47) (.node (some Go.Proofs.Tryz.f79) (.node (some Go.Proofs.Tryz.f143) (.node (some Go.Proofs.Tryz.f271) .nil .nil) .nil) (.node (some Go.Proofs.Tryz.f207) (.node (some Go.Proofs.Tryz.f335) .nil .nil) .nil)) (.node (some Go.Proofs.Tryz.f111) (.node (some Go.Proofs.Tryz.f175) (.node (some Go.Proofs.Tryz.f303) .nil .nil) .nil) (.node (some Go.Proofs.Tryz.f239) .nil .nil)))
noncomputable def fncT_2:Tr (Func):=.node (some Go.Proofs.Tryz.f23) (.node (some Go.Proofs.Tryz.f39) (.node (some Go.Proofs.Tryz.f71) (.node (some Go.Proofs.Tryz.f135) (.node (some Go.Proofs.Tryz.f263) .nil .nil) .nil) (.node (some Go.Proofs.Tryz.f199) (.node (some Go.Proofs.Tryz.f327) .nil .nil) .nil)) (.node (some Go.Proofs.Tryz.f103) (.node (some Go.Proofs.Tryz.f167) (.node (some Go.Proofs.Tryz.f295) .nil .nil) .nil) (.node (some Go.Proofs.Tryz.f231) .nil .nil))) (.node (some Go.Proofs.Tryz.f55) (.node (some Go.Proofs.Tryz.f87) (.node (some Go.Proofs.Tryz.f151) (.node (some Go.Proofs.Tryz.f279) .nil .nil) .nil) (.node (some Go.Proofs.Tryz.f215) .nil .nil)) (.node (some Go.Proofs.Tryz.f119) (.node (some Go.Proofs.Tryz.f183) (.node (some Go.Proofs.Tryz.f311) .nil .nil) .nil) (.node (some Go.Proofs.Tryz.f247) .nil .nil)))
noncomputable def fncT_3:Tr (Func):=.node (some Go.Proofs.Tryz.f19) (.node (some Go.Proofs.Tryz.f35) (.node (some Go.Proofs.Tryz.f67) (.node (some Go.Proofs.Tryz.f131) (.node (some Go.Proofs.Tryz.f259) .nil .nil) .nil) (.node (some Go.Proofs.Tryz.f195) (.node (some Go.Proofs.Tryz.f323) .nil .nil) .nil)) (.node (some Go.Proofs.Tryz.f99) (.node (some Go.Proofs.Tryz.f163) (.node (some Go.Proofs.Tryz.f291) .nil .nil) .nil) (.node (some Go.Proofs.Tryz.f227) .nil .nil))) (.node (some Go.Proofs.Tryz.f51) (.node (some Go.Proofs.Tryz.f83) (.node (some Go.Proofs.Tryz.f147) (.node (some Go.Proofs.Tryz.f275) .nil .nil) .nil) (.node (some Go.Proofs.Tryz.f211) (.node (some Go.Proofs.Tryz.f339) .nil .nil) .nil)) (.node (some Go.Proofs.Tryz.f115) (.node (some Go.Proofs.Tryz.f179) (.node (some Go.Proofs.Tryz.f307) .nil .nil) .nil) (.node (some Go.Proofs.Tryz.f243) .nil .nil)))
noncomputable def fncT_4:Tr (Func):=.node (some Go.Proofs.Tryz.f27) (.node (some Go.Proofs.Tryz.f43) (.node (some Go.Proofs.Tryz.f75) (.node (some Go.Proofs.Tryz.f139) (.node (some Go.Proofs.Tryz.f267) .nil .nil) .nil) (.node (some Go.Proofs.Tryz.f203) (.node (some Go.Proofs.Tryz.f331) .nil .nil) .nil)) (.node (some Go.Proofs.Tryz.f107) (.node (some Go.Proofs.Tryz.f171) (.node (some Go.Proofs.Tryz.f299) .nil .nil) .nil) (.node (some Go.Proofs.Tryz.f235) .nil .nil))) (.node (some Go.Proofs.Tryz.f59) (.node (some Go.Proofs.Tryz.f91) (.node (some Go.Proofs.Tryz.f155) (.node (some Go.Proofs.Tryz.f283) .nil .nil) .nil) (.node (some Go.Proofs.Tryz.f219) .nil .nil)) (.node (some Go.Proofs.Tryz.f123) (.node (some Go.Proofs.Tryz.f187) (.node (some Go.Proofs.Tryz.f315) .nil .nil) .nil) (.node (some Go.Proofs.Tryz.f251) .nil .nil)))
noncomputable def fncT_5:Tr (Func):=.node (some Go.Proofs.Tryz.f17) (.node (some Go.Proofs.Tryz.f33) (.node (some Go.Proofs.Tryz.f65) (.node (some Go.Proofs.Tryz.f129) (.node (some Go.Proofs.Tryz.f257) .nil .nil) .nil) (.node (some Go.Proofs.Tryz.f193) (.node (some Go.Proofs.Tryz.f321) .nil .nil) .nil)) (.node (some Go.Proofs.Tryz.f97) (.node (some Go.Proofs.Tryz.f161) (.node (some Go.Proofs.Tryz.f289) .nil .nil) .nil) (.node (some Go.Proofs.Tryz.f225) .nil .nil))) (.node (some Go.Proofs.Tryz.f49) (.node (some Go.Proofs.Tryz.f81) (.node (some Go.Proofs.Tryz.f145) (.node (some Go.Proofs.Tryz.f273) .nil .nil) .nil) (.node (some Go.Proofs.Tryz.f209) (.node (some Go.Proofs.Tryz.f337) .nil .nil) .nil)) (.node (some Go.Proofs.Tryz.f113) (.node (some Go.Proofs.Tryz.f177) (.node (some Go.Proofs.Tryz.f305) .nil .nil) .nil) (.node (some Go.Proofs.Tryz.f241) .nil .nil)))
noncomputable def fncT_6:Tr (Func):=.node (some Go.Proofs.Tryz.f25) (.node (some Go.Proofs.Tryz.f41) (.node (some Go.Proofs.Tryz.f73) (.node (some Go.Proofs.Tryz.f137) (.node (some Go.Proofs.Tryz.f265) .nil .nil) .nil) (.node (some Go.Proofs.Tryz.f201) (.node (some Go.Proofs.Tryz.f329) .nil .nil) .nil)) (.node (some Go.Proofs.Tryz.f105) (.node (some Go.Proofs.Tryz.f169) (.node (some Go.Proofs.Tryz.f297) .nil .nil) .nil) (.node (some Go.Proofs.Tryz.f233) .nil .nil))) (.node (some Go.Proofs.Tryz.f57) (.node (some Go.Proofs.Tryz.f89) (.node (some Go.Proofs.Tryz.f153) (.node (some Go.Proofs.Tryz.f281) .nil .nil) .nil) (.node (some Go.Proofs.Tryz.f217) .nil .nil)) (.node (some Go.Proofs.Tryz.f121) (.node (some Go.Proofs.Tryz.f185) (.node (some Go.Proofs.Tryz.f313) .nil .nil) .nil) (.node (some Go.Proofs.Tryz.f249) .nil .nil)))
noncomputable def fncT_7:Tr (Func):=.node (some Go.Proofs.Tryz.f21) (.node (some Go.Proofs.Tryz.f37) (.node (some Go.Proofs.Tryz.f69) (.node (some Go.Proofs.Tryz.f133) (.node (some Go.Proofs.Tryz.f261) .nil .nil) .nil) (.node (some Go.Proofs.Tryz.f197) (.node (some Go.Proofs.Tryz.f325) .nil .nil) .nil)) (.node (some Go.Proofs.Tryz.f101) (.node (some Go.Proofs.Tryz.f165) (.node (some Go.Proofs.Tryz.f293) .nil .nil) .nil) (.node (some Go.Proofs.Tryz.f229) .nil .nil))) (.node (some Go.Proofs.Tryz.f53) (.node (some Go.Proofs.Tryz.f85) (.node (some Go.Proofs.Tryz.f149) (.node (some Go.Proofs.Tryz.f277) .nil .nil) .nil) (.node (some Go.Proofs.Tryz.f213) .nil .nil)) (.node (some Go.Proofs.Tryz.f117) (.node (some Go.Proofs.Tryz.f181) (.node (some Go.Proofs.Tryz.f309) .nil .nil) .nil) (.node (some Go.Proofs.Tryz.f245) .nil .nil)))
noncomputable def fncT_8:Tr (Func):=.node (some Go.Proofs.Tryz.f29) (.node (some Go.Proofs.Tryz.f45) (.node (some Go.Proofs.Tryz.f77) (.node (some Go.Proofs.Tryz.f141) (.node (some Go.Proofs.Tryz.f269) .nil .nil) .nil) (.node (some Go.Proofs.Tryz.f205) (.node (some Go.Proofs.Tryz.f333) .nil .nil) .nil)) (.node (some Go.Proofs.Tryz.f109) (.node (some Go.Proofs.Tryz.f173) (.node (some Go.Proofs.Tryz.f301) .nil .nil) .nil) (.node (some Go.Proofs.Tryz.f237) .nil .nil))) (.node (some Go.Proofs.Tryz.f61) (.node (some Go.Proofs.Tryz.f93) (.node (some Go.Proofs.Tryz.f157) (.node (some Go.Proofs.Tryz.f285) .nil .nil) .nil) (.node (some Go.Proofs.Tryz.f221) .nil .nil)) (.node (some Go.Proofs.Tryz.f125) (.node (some Go.Proofs.Tryz.f189) (.node (some Go.Proofs.Tryz.f317) .nil .nil) .nil) (.node (some Go.Proofs.Tryz.f253) .nil .nil)))
noncomputable def fncT_9:Tr (Func):=.node (some Go.Proofs.Tryz.f16) (.node (some Go.Proofs.Tryz.f32) (.node (some Go.Proofs.Tryz.f64) (.node (some Go.Proofs.Tryz.f128) (.node (some Go.Proofs.Tryz.f256) .nil .nil) .nil) (.node (some Go.Proofs.Tryz.f192) (.node (some Go.Proofs.Tryz.f320) .nil .nil) .nil)) (.node (some Go.Proofs.Tryz.f96) (.node (some Go.Proofs.Tryz.f160) (.node (some Go.Proofs.Tryz.f288) .nil .nil) .nil) (.node (some Go.Proofs.Tryz.f224) .nil .nil))) (.node (some Go.Proofs.Tryz.f48) (.node (some Go.Proofs.Tryz.f80) (.node (some Go.Proofs.Tryz.f144) (.node (some Go.Proofs.Tryz.f272) .nil .nil) .nil) (.node (some Go.Proofs.Tryz.f208) (.node (some Go.Proofs.Tryz.f336) .nil .nil) .nil)) (.node (some Go.Proofs.Tryz.f112) (.node (some Go.Proofs.Tryz.f176) (.node (some Go.Proofs.Tryz.f304) .nil .nil) .nil) (.node (some Go.Proofs.Tryz.f240) .nil .nil)))
noncomputable def fncT_10:Tr (Func):=.node (some Go.Proofs.Tryz.f24) (.node (some Go.Proofs.Tryz.f40) (.node (some Go.Proofs.Tryz.f72) (.node (some Go.Proofs.Tryz.f136) (.node (some Go.Proofs.Tryz.f264) .nil .nil) .nil) (.node (some Go.Proofs.Tryz.f200) (.node (some Go.Proofs.Tryz.f328) .nil .nil) .nil)) (.node (some Go.Proofs.Tryz.f104) (.node (some Go.Proofs.Tryz.f168) (.node (some Go.Proofs.Tryz.f296) .nil .nil) .nil) (.node (some Go.Proofs.Tryz.f232) .nil .nil))) (.node (some Go.Proofs.Tryz.f56) (.node (some Go.Proofs.Tryz.f88) (.node (some Go.Proofs.Tryz.f152) (.node (some Go.Proofs.Tryz.f280) .nil .nil) .nil) (.node (some Go.Proofs.Tryz.f216) .nil .nil)) (.node (some Go.Proofs.Tryz.f120) (.node (some Go.Proofs.Tryz.f184) (.node (some Go.Proofs.Tryz.f312) .nil .nil) .nil) (.node (some Go.Proofs.Tryz.f248) .nil .nil)))
noncomputable def fncT_11:Tr (Func):=.node (some Go.Proofs.Tryz.f20) (.node (some Go.Proofs.Tryz.f36) (.node (some Go.Proofs.Tryz.f68) (.node (some Go.Proofs.Tryz.f132) (.node (some Go.Proofs.Tryz.f260) .nil .nil) .nil) (.node (some Go.Proofs.Tryz.f196) (.node (some Go.Proofs.Tryz.f324) .nil .nil) .nil)) (.node (some Go.Proofs.Tryz.f100) (.node (some Go.Proofs.Tryz.f164) (.node (some Go.Proofs.Tryz.f292) .nil .nil) .nil) (.node (some Go.Proofs.Tryz.f228) .nil .nil))) (.node (some Go.Proofs.Tryz.f52) (.node (some Go.Proofs.Tryz.f84) (.node (some Go.Proofs.Tryz.f148) (.node (some Go.Proofs.Tryz.f276) .nil .nil) .nil) (.node (some Go.Proofs.Tryz.f212) (.node (some Go.Proofs.Tryz.f340) .nil .nil) .nil)) (.node (some Go.Proofs.Tryz.f116) (.node (some Go.Proofs.Tryz.f180) (.node (some Go.Proofs.Tryz.f308) .nil .nil) .nil) (.node (some Go.Proofs.Tryz.f244) .nil .nil)))
noncomputable def fncT_12:Tr (Func):=.node (some Go.Proofs.Tryz.f28) (.node (some Go.Proofs.Tryz.f44) (.node (some Go.Proofs.Tryz.f76) (.node (some Go.Proofs.Tryz.f140) (.node (some Go.Proofs.Tryz.f268) .nil .nil) .nil) (.node (some Go.Proofs.Tryz.f204) (.node (some Go.Proofs.Tryz.f332) .nil .nil) .nil)) (.node (some Go.Proofs.Tryz.f108) (.node (some Go.Proofs.Tryz.f172) (.node (some Go.Proofs.Tryz.f300) .nil .nil) .nil) (.node (some Go.Proofs.Tryz.f236) .nil .nil))) (.node (some Go.Proofs.Tryz.f60) (.node (some Go.Proofs.Tryz.f92) (.node (some Go.Proofs.Tryz.f156) (.node (some Go.Proofs.Tryz.f284) .nil .nil) .nil) (.node (some Go.Proofs.Tryz.f220) .nil .nil)) (.node (some Go.Proofs.Tryz.f124) (.node (some Go.Proofs.Tryz.f188) (.node (some Go.Proofs.Tryz.f316) .nil .nil) .nil) (.node (some Go.Proofs.Tryz.f252) .nil .nil)))
noncomputable def fncT_13:Tr (Func):=.node (some Go.Proofs.Tryz.f18) (.node (some Go.Proofs.Tryz.f34) (.node (some Go.Proofs.Tryz.f66) (.node (some Go.Proofs.Tryz.f130) (.node (some Go.Proofs.Tryz.f258) .nil .nil) .nil) (.node (some Go.Proofs.Tryz.f194) (.node (some Go.Proofs.Tryz.f322) .nil .nil) .nil)) (.node (some Go.Proofs.Tryz.f98) (.node (some Go.Proofs.Tryz.f162) (.node (some Go.Proofs.Tryz.f290) .nil .nil) .nil) (.node (some Go.Proofs.Tryz.f226) .nil .nil))) (.node (some Go.Proofs.Tryz.f50) (.node (some Go.Proofs.Tryz.f82) (.node (some Go.Proofs.Tryz.f146) (.node (some Go.Proofs.Tryz.f274) .nil .nil) .nil) (.node (some Go.Proofs.Tryz.f210) (.node (some Go.Proofs.Tryz.f338) .nil .nil) .nil)) (.node (some Go.Proofs.Tryz.f114) (.node (some Go.Proofs.Tryz.f178) (.node (some Go.Proofs.Tryz.f306) .nil .nil) .nil) (.node (some Go.Proofs.Tryz.f242) .nil .nil)))
noncomputable def fncT_14:Tr (Func):=.node (some Go.Proofs.Tryz.f26) (.node (some Go.Proofs.Tryz.f42) (.node (some Go.Proofs.Tryz.f74) (.node (some Go.Proofs.Tryz.f138) (.node (some Go.Proofs.Tryz.f266) .nil .nil) .nil) (.node (some Go.Proofs.Tryz.f202) (.node (some Go.Proofs.Tryz.f330) .nil .nil) .nil)) (.node (some Go.Proofs.Tryz.f106) (.node (some Go.Proofs.Tryz.f170) (.node (some Go.Proofs.Tryz.f298) .nil .nil) .nil) (.node (some Go.Proofs.Tryz.f234) .nil .nil))) (.node (some Go.Proofs.Tryz.f58) (.node (some Go.Proofs.Tryz.f90) (.node (some Go.Proofs.Tryz.f154) (.node (some Go.Proofs.Tryz.f282) .nil .nil) .nil) (.node (some Go.Proofs.Tryz.f218) .nil .nil)) (.node (some Go.Proofs.Tryz.f122) (.node (some Go.Proofs.Tryz.f186) (.node (some Go.Proofs.Tryz.f314) .nil .nil) .nil) (.node (some Go.Proofs.Tryz.f250) .nil .nil)))
noncomputable def fncT_15:Tr (Func):=.node (some Go.Proofs.Tryz.f22) (.node (some Go.Proofs.Tryz.f38) (.node (some Go.Proofs.Tryz.f70) (.node (some Go.Proofs.Tryz.f134) (.node (some Go.Proofs.Tryz.f262) .nil .nil) .nil) (.node (some Go.Proofs.Tryz.f198) (.node (some Go.Proofs.Tryz.f326) .nil .nil) .nil)) (.node (some Go.Proofs.Tryz.f102) (.node (some Go.Proofs.Tryz.f166) (.node (some Go.Proofs.Tryz.f294) .nil .nil) .nil) (.node (some Go.Proofs.Tryz.f230) .nil .nil))) (.node (some Go.Proofs.Tryz.f54) (.node (some Go.Proofs.Tryz.f86) (.node (some Go.Proofs.Tryz.f150) (.node (some Go.Proofs.Tryz.f278) .nil .nil) .nil) (.node (some Go.Proofs.Tryz.f214) .nil .nil)) (.node (some Go.Proofs.Tryz.f118) (.node (some Go.Proofs.Tryz.f182) (.node (some Go.Proofs.Tryz.f310) .nil .nil) .nil) (.node (some Go.Proofs.Tryz.f246) .nil .nil)))
noncomputable def fncT_16:Tr (Func):=.node (some Go.Proofs.Tryz.f30) (.node (some Go.Proofs.Tryz.f46) (.node (some Go.Proofs.Tryz.f78) (.node (some Go.Proofs.Tryz.f142) (.node (some Go.Proofs.Tryz.f270) .nil .nil) .nil) (.node (some Go.Proofs.Tryz.f206) (.node (some Go.Proofs.Tryz.f334) .nil .nil) .nil)) (.node (some Go.Proofs.Tryz.f110) (.node (some Go.Proofs.Tryz.f174) (.node (some Go.Proofs.Tryz.f302) .nil .nil) .nil) (.node (some Go.Proofs.Tryz.f238) .nil .nil))) (.node (some Go.Proofs.Tryz.f62) (.node (some Go.Proofs.Tryz.f94) (.node (some Go.Proofs.Tryz.f158) (.node (some Go.Proofs.Tryz.f286) .nil .nil) .nil) (.node (some Go.Proofs.Tryz.f222) .nil .nil)) (.node (some Go.Proofs.Tryz.f126) (.node (some Go.Proofs.Tryz.f190) (.node (some Go.Proofs.Tryz.f318) .nil .nil) .nil) (.node (some Go.Proofs.Tryz.f254) .nil .nil)))
noncomputable def fncT:Tr (Func):=(.node (some Go.Proofs.Tryz.f0) (.node (some Go.Proofs.Tryz.f1) (.node (some Go.Proofs.Tryz.f3) (.node (some Go.Proofs.Tryz.f7) fncT_1 fncT_2) (.node (some Go.Proofs.Tryz.f11) fncT_3 fncT_4)) (.node (some Go.Proofs.Tryz.f5) (.node (some Go.Proofs.Tryz.f9) fncT_5 fncT_6) (.node (some Go.Proofs.Tryz.f13) fncT_7 fncT_8))) (.node (some Go.Proofs.Tryz.f2) (.node (some Go.Proofs.Tryz.f4) (.node (some Go.Proofs.Tryz.f8) fncT_9 fncT_10) (.node (some Go.Proofs.Tryz.f12) fncT_11 fncT_12)) (.node (some Go.Proofs.Tryz.f6) (.node (some Go.Proofs.Tryz.f10) fncT_13 fncT_14) (.node (some Go.Proofs.Tryz.f14) fncT_15 fncT_16))))
noncomputable def prog:Program:=Go.Proofs.Tryz.prog
def btN:Option (Nat×Nat):=some (199,5)
noncomputable def envT:EnvT:=mkE prog tiT tyT mtT methT fncT (λ_n=>none) btN
end Mn
end
section
namespace Mn
open Go TL
set_option maxRecDepth 100000
set_option maxHeartbeats 0
theorem h1:tiT.mapKey (λk _=>tiOf prog (flatL prog) k)=tiT.mapKey λ_ i=>some i:=by kernel_rfl
theorem h2:fncT.mapKey (λk _=>prog.funcs[k]?)=fncT.mapKey λ_ f=>some f:=by kernel_rfl
theorem h3:tyT.mapKey (λk τ=>(tiT.get k).map (rowL sg τ))=tyT.mapKey λk τ=>(tiT.get k).map (rowR sg τ):=by kernel_rfl
theorem h4:fncT.mapKey (λ_ f=>f.name== "runtime.NumGoroutine")=fncT.mapKey λ_ _=>false:=by kernel_rfl
theorem h5:mtT.mapKey (λk m=>mtB envT k m)=mtT.mapKey λ_ _=>true:=by kernel_rfl
theorem h6:methT.mapKey (λk l=>l.all (methB prog k))=methT.mapKey λ_ _=>true:=by kernel_rfl
theorem h7:bldB prog btN=true:=by kernel_rfl
theorem envOk (gam:FuncId->Option (Con sg)) (sh:FuncId->Nat->Option LSh) (hg:∀f c,gam f=some c->ConOk prog f c) (pn:Bool) (cj:FuncId->List (V sg)->Option JSh):EnvVOk (⟨envT,gam,sh,pn,cj⟩:EnvV sg):=
 envOk_of sg_ok h1 h2 h3 h4 h5 h6 h7 gam sh hg pn cj
end Mn
end
section
namespace TL
open Go
def Rx.el {R P α:Type} (x:Rx R P) (f:R->Option α) (g:P->Option α):Option α:=match x with
 | .ok r=>f r
 | .pan p=>g p
def LO.el {X R B P α:Type} (o:LO X R B P) (f:Nat->X->Option α) (g:B->R->Option α) (h:B->P->Option α):Option α:=match o with
 | .next _=>none
 | .out j x=>f j x
 | .ret b r=>g b r
 | .pan b p=>h b p
def LO.jn {X R B P α:Type} (o:LO X R B P) (e:X->Option α) (f:Nat->X->Option α) (g:B->R->Option α) (h:B->P->Option α):Option α:=match o with
 | .next x=>e x
 | .out j x=>f j x
 | .ret b r=>g b r
 | .pan b p=>h b p
def repL {α:Type} (n:Nat) (a:α):List α:=List.replicate n a
def andS (a b:Bool):Bool:=a&&b
def addN (a b:Nat):Nat:=Nat.add a b
def trL {α:Type}:List (Nat×α)->Tr α
 |[]=>.nil
 |p ::l=>(trL l).set fuelTr p.1 p.2
def rgC:Code->List (Code×Code)
 | .seq a b=>rgC a++rgC b
 | .cond _ a b=>rgC a++rgC b
 | .block _ b=>rgC b
 | .loop b=>rgC b
 | .rangeFunc _ _ a b=>(a,b) ::(rgC a++rgC b)
 | .scope b=>rgC b
 |_=>[]
def rgN (l:List (Code×Code)) (i:Nat):Code×Code:=match l with
 |[]=>(.skip,.skip)
 |a ::l=>match i with
  |0=>a
  |i+1=>rgN l i
variable {S:Sg}
def lpR (fid n:Nat) (ps:List Nat) (c:Code×Code) (l:List (Nat×V S)):ObV S:=.lp ⟨.ready,none,fid,frUse (usesC c.1++usesC c.2) {n:=n,tm:=trL l},ps,c.1,c.2⟩
def tabC (l:List (FuncId×Con S)) (f:FuncId):Option (Con S):=match l with
 |[]=>none
 |p ::l=>bif Nat.beq p.1 f then some p.2 else tabC l f
def OkL (P:Program):List (FuncId×Con S)->Prop
 |[]=>True
 |p ::l=>ConOk P p.1 p.2∧OkL P l
theorem tabC_ok {P:Program}:∀{l:List (FuncId×Con S)},OkL P l->∀f c,tabC l f=some c->ConOk P f c
 |[],_,_,_,h=>by cases h
 |p ::l,⟨hp,hl⟩,f,c,h=>by
  unfold tabC at h
  cases hb:Nat.beq p.1 f with
  |true=>
   simp_all
  |false=>rw[hb] at h;exact tabC_ok hl f c h
theorem conOk_none {P:Program} {f:FuncId} {ps:List Pk} {rs:List Ck} {pn:Bool} (h:Enters P f):ConOk P f (⟨ps,rs,pn,λ_=>none⟩:Con S):=
 ⟨h,λ_ _ h=>by cases h⟩
theorem amb_clone {α:Type} (b:List α×Unit):ambS (isE b.1) (some (([],()),())) (some (b,()))=some (b,()):=by
 let ⟨l,u⟩:=b
 cases l with
 |nil=>simp[ambS]
 |cons a l=>rfl
end TL
end
section
namespace TL
open Go
variable {S:Sg}
def flatT (S:Sg):Ty->List Ty
 | .st m=>S.fs m
 | τ=>[τ]
def tysEq:List Ty->List Ty->Bool
 |[],[]=>true
 |a ::l,b ::m=>tyEq a b&&tysEq l m
 |_,_=>false
theorem tysEq_eq:∀{l m:List Ty},tysEq l m=true->l=m
 |[],[],_=>rfl
 |a ::l,b ::m,h=>by
  simp[tysEq,Bool.and_eq_true] at h
  rw[tyEq_eq h.1,tysEq_eq h.2]
 |[],_ ::_,h=>by cases h
 |_ ::_,[],h=>by cases h
def fieldsB (S:Sg) (P:Program) (ty:TypeId->Option Ty):List Field->Nat->List Ty->Bool
 |[],_,[]=>true
 |f ::l,off,ts=>match ty f.type with
  |some τ=>Nat.beq f.offset off&&(Nat.beq (P.cellsOf f.type) (lenL (flatT S τ))&&(tysEq (ts.take (lenL (flatT S τ))) (flatT S τ)&&fieldsB S P ty l (off+lenL (flatT S τ)) (ts.drop (lenL (flatT S τ)))))
  |none=>false
 |_,_,_=>false
def rdT (S:Sg) (P:Program) (ty:TypeId->Option Ty) (t:TypeId) (τ:Ty):Bool:=match P.underlying t,τ with
 |some .bool,.bool=>true
 |some (.int k),.int k'=>kindEq k k'
 |some .string,.str=>true
 |some (.slice e),.sl τ'=>match ty e with
  |some τ''=>tyEq τ'' τ'&&(Nat.beq (P.cellsOf e) (S.width τ')&&(Nat.ble (byOf S τ') (Nat.mul 2 (P.bytesOf e))&&Nat.blt 0 (S.width τ')))
  |none=>false
 |some (.struct fs),.st n=>Nat.beq (P.cellsOf t) (lenL (S.fs n))&&fieldsB S P ty fs.toList 0 (S.fs n)
 |_,_=>false
section
variable {P:Program} {w:World} {I:Nat->Prop}
def CRel (I:Nat->Prop) (w:World) (ds:List D) (vs:List Value):Prop:=PW (DRel I w) ds vs
theorem mapM_some {α β:Type} {f:α->Option β}:∀{l:List α} {r:List β},l.mapM f=some r->r.length=l.length∧∀(i:Nat) (a:α),l[i]?=some a->∃b,r[i]?=some b∧f a=some b
 |[],r,h=>by
  simp_all
 |x ::l,r,h=>by
  simp[List.mapM_cons,Option.bind_eq_bind,Option.bind_eq_some_iff,Option.pure_def,Option.some.injEq] at h
  obtain ⟨b,hb,r',hr,rfl⟩:=h
  let ⟨h1,h2⟩:=mapM_some hr
  grind
theorem cells_some {a:Addr} {n:Nat} {vs:List Value} (h:w.cells? 0 a n=some vs):vs.length=n∧∀j,j<n->∃v,vs[j]?=some v∧w.cell? (a.add j)=some v:=by
 unfold World.cells? at h
 let ⟨h1,h2⟩:=mapM_some h
 rw[List.length_range] at h1
 refine ⟨h1,λj hj=>?_⟩
 exact h2 j j (by rw[List.getElem?_range hj])
theorem cell_lt {a:Addr} {v:Value} (h:w.cell? a=some v):a.block<w.heap.size:=by
 grind[World.cell?]
theorem choose_list {α:Type} (p:Nat->α->Prop):∀n,(∀i,i<n->∃x,p i x)->∃l:List α,l.length=n∧∀i x,l[i]?=some x->p i x
 |0,_=>⟨[],rfl,λi x h=>by simp at h⟩
 |n+1,h=>by
  let ⟨l,h1,h2⟩:=choose_list p n (λi hi=>h i (by omega))
  let ⟨x,hx⟩:=h n (by omega)
  refine ⟨l++[x],by simp[h1],λi y hi=>?_⟩
  grind
theorem pw_one {d:D} {v:Value} (h:DRel I w d v):CRel I w [d] [v]:=⟨rfl,λj a b h1 h2=>by
 grind⟩
variable {H:Type} {enH:TypeId×Value->H} {held:Bool}
theorem trod_bool {fuel:Nat} {t:TypeId} {cs:List Value} {d:DataW H} {ps:List MemPlace} (hu:P.underlying t=some .bool) (h:DataW.trod enH P w 0 (λ_=>true) held fuel t cs=some (d,ps)):∃b,cs=[.bool b]:=by
 cases fuel with
 |zero=>simp[DataW.trod] at h
 |succ n=>
  rcases cs with _|⟨c,_|⟨c2,cs⟩⟩
  .simp[DataW.trod,hu] at h
  .cases c<;>simp[DataW.trod,hu] at h
   grind
  .simp[DataW.trod,hu] at h
theorem trod_int {fuel:Nat} {t:TypeId} {k:IntKind} {cs:List Value} {d:DataW H} {ps:List MemPlace} (hu:P.underlying t=some (.int k)) (h:DataW.trod enH P w 0 (λ_=>true) held fuel t cs=some (d,ps)):∃n,cs=[.int k n]:=by
 cases fuel with
 |zero=>simp[DataW.trod] at h
 |succ n=>
  rcases cs with _|⟨c,_|⟨c2,cs⟩⟩
  .simp[DataW.trod,hu] at h
  .cases c<;>simp[DataW.trod,hu] at h
   simp_all
  .simp[DataW.trod,hu] at h
theorem trod_str {fuel:Nat} {t:TypeId} {cs:List Value} {d:DataW H} {ps:List MemPlace} (hu:P.underlying t=some .string) (h:DataW.trod enH P w 0 (λ_=>true) held fuel t cs=some (d,ps)):∃b,cs=[.string b]:=by
 cases fuel with
 |zero=>simp[DataW.trod] at h
 |succ n=>
  rcases cs with _|⟨c,_|⟨c2,cs⟩⟩
  .simp[DataW.trod,hu] at h
  .cases c<;>simp[DataW.trod,hu] at h
   grind
  .simp[DataW.trod,hu] at h
theorem trod_slice {fuel:Nat} {t e:TypeId} {cs:List Value} {d:DataW H} {ps:List MemPlace} (hu:P.underlying t=some (.slice e)) (h:DataW.trod enH P w 0 (λ_=>true) held (fuel+1) t cs=some (d,ps)) :
  cs=[.slice none 0 0]∨∃(a:Addr) (len cap:Nat) (elems rest:List (DataW H)),cs=[.slice (some a) len cap]∧len<=cap∧d=.slice elems rest∧elems.length=len∧
   ∀i,i<len->∃vs di pi,w.cells? 0 (a.add (i*P.cellsOf e)) (P.cellsOf e)=some vs∧DataW.trod enH P w 0 (λ_=>true) held fuel e vs=some (di,pi)∧elems[i]?=some di:=by
 rcases cs with _|⟨c,_|⟨c2,cs⟩⟩
 .simp[DataW.trod,hu] at h
 .cases c with
  |slice a len cap=>
   cases a with
   |none=>
    rcases len with _|len
    .rcases cap with _|cap
     .exact .inl rfl
     .simp[DataW.trod,hu] at h
    .simp[DataW.trod,hu] at h
   |some a=>
    right
    simp only[DataW.trod,hu] at h
    split at h
    .rename_i hc
     rw[Option.bind_eq_some_iff] at h
     let ⟨els,h1,h2⟩:=h
     rw[Option.map_eq_some_iff] at h2
     let ⟨rest,_,h3⟩:=h2
     obtain ⟨rfl,_⟩:=h3
     let ⟨h4,h5⟩:=mapM_some h1
     refine ⟨a,len,cap,_,_,rfl,hc.2.1,rfl,by simpa using h4,λi hi=>?_⟩
     let ⟨b,hb,hf⟩:=h5 i i (by rw[List.getElem?_range hi])
     grind[Option.bind_eq_some_iff]
    .cases h
  |_=>simp[DataW.trod,hu] at h
 .simp[DataW.trod,hu] at h
theorem trod_struct {fuel:Nat} {t:TypeId} {fs:Array Field} {cs:List Value} {d:DataW H} {ps:List MemPlace} (hu:P.underlying t=some (.struct fs)) (h:DataW.trod enH P w 0 (λ_=>true) held (fuel+1) t cs=some (d,ps)) :
  cs.length=P.cellsOf t∧∃parts:List (DataW H),d=.agg parts∧parts.length=fs.toList.length∧
   ∀(i:Nat) (f:Field),fs.toList[i]?=some f->∃di pi,DataW.trod enH P w 0 (λ_=>true) held fuel f.type ((cs.drop f.offset).take (P.cellsOf f.type))=some (di,pi)∧parts[i]?=some di:=by
 simp only[DataW.trod,hu] at h
 split at h
 .rename_i hc
  rw[Option.map_eq_some_iff] at h
  let ⟨xs,h1,h2⟩:=h
  obtain ⟨rfl,_⟩:=h2
  let ⟨h4,h5⟩:=mapM_some h1
  grind
 .cases h
theorem enc_cells (τ:Ty) (hτ:isSt τ=false) (x:den S.A τ):(enc S τ x).cells=[enc S τ x]:=by
 cases τ with
 |st n=>cases hτ
 |ifc n=>exact ifD_cells _
 |opt n=>cases x<;>rfl
 |_=>rfl
theorem encH_flat (hS:SgOk S):∀(τ:Ty) (x:den S.A τ),∃h:hden S.A (flatT S τ),encH S (flatT S τ) h=(enc S τ x).cells
 | .st n,x=>⟨S.get n x,by exact (hS.cells n x).symm⟩
 | .int k,x=>⟨(x,()),rfl⟩
 | .bool,x=>⟨(x,()),rfl⟩
 | .str,x=>⟨(x,()),rfl⟩
 | .sl e,x=>⟨(x,()),rfl⟩
 | .ifc n,x=>⟨(x,()),(ifD_cells _).symm⟩
 | .opt n,none=>⟨(none,()),rfl⟩
 | .opt n,some y=>⟨(some y,()),rfl⟩
 | .mp k v,x=>⟨(x,()),rfl⟩
theorem encH_append:∀(l m:List Ty) (h:hden S.A l) (k:hden S.A m),∃r:hden S.A (l++m),encH S (l++m) r=encH S l h++encH S m k
 |[],m,_,k=>⟨k,rfl⟩
 |t ::l,m,h,k=>by
  let ⟨r,hr⟩:=encH_append l m h.2 k
  exact ⟨(h.1,r),by simp[List.cons_append,encH,hr]⟩
theorem weights_field {ts:List TypeId} {ds:List (DataW H)} (h:(DataW.weightsEach P ts ds).all (·<=reachBytes)=true):∀(i:Nat) (t:TypeId) (d:DataW H),ts[i]?=some t->ds[i]?=some d->(d.weights P t).all (·<=reachBytes)=true:=by
 induction ts generalizing ds with
 |nil=>simp_all
 |cons a ts ih=>
  intro i t d h1 h2
  cases ds with
  |nil=>simp at h2
  |cons b ds=>
   simp only[DataW.weightsEach,List.all_append,Bool.and_eq_true] at h
   grind
theorem weights_elem {e:TypeId} {ds:List (DataW H)} (h:(DataW.weightsAll P e ds).all (·<=reachBytes)=true):∀d∈ds,(d.weights P e).all (·<=reachBytes)=true:=by
 induction ds with
 |nil=>simp_all
 |cons a ds ih=>
  simp only[DataW.weightsAll,List.all_append,Bool.and_eq_true] at h
  grind
theorem trod_fields (hS:SgOk S) {ty:TypeId->Option Ty} {fuel:Nat} {cs:List Value}
  (ih:∀(t:TypeId) (τ:Ty) (cs:List Value) (d:DataW H) (ps:List MemPlace),ty t=some τ->DataW.trod enH P w 0 (λ_=>true) held fuel t cs=some (d,ps)->(d.weights P t).all (·<=reachBytes)=true->∃x:den S.A τ,CRel I w (enc S τ x).cells cs) :
  ∀(fs:List Field) (off:Nat) (ts:List Ty) (parts:List (DataW H)),fieldsB S P ty fs off ts=true->off+ts.length=cs.length->(DataW.weightsEach P (fs.map (·.type)) parts).all (·<=reachBytes)=true->parts.length=fs.length->
   (∀(i:Nat) (f:Field),fs[i]?=some f->∃di pi,DataW.trod enH P w 0 (λ_=>true) held fuel f.type ((cs.drop f.offset).take (P.cellsOf f.type))=some (di,pi)∧parts[i]?=some di)->
   ∃h:hden S.A ts,CRel I w (encH S ts h) (cs.drop off):=by
 intro fs
 induction fs with
 |nil=>
  intro off ts parts h1 h2 _ _ _
  cases ts with
  |nil=>exact ⟨(),by simp[encH];rw[List.drop_eq_nil_of_le (by grind)];exact ⟨rfl,λj a b h=>by simp at h⟩⟩
  |cons t ts=>cases h1
 |cons f fs ihf=>
  intro off ts parts h1 h2 h3 h4 h5
  simp[fieldsB] at h1
  split at h1
  rotate_left
  .cases h1
  rename_i τ hτ
  simp only[Bool.and_eq_true,lenL_eq] at h1
  let ⟨e1,e2,e3,h1⟩:=h1
  have e1:=Nat.eq_of_beq_eq_true e1
  have e2:=Nat.eq_of_beq_eq_true e2
  have e3:=tysEq_eq e3
  let ⟨d,pi,hd,hp⟩:=h5 0 f rfl
  cases parts with
  |nil=>simp at hp
  |cons p parts=>
  simp at hp
  subst hp
  have hw:=weights_field h3 0 f.type p rfl rfl
  let ⟨x,hx⟩:=ih _ _ _ _ _ hτ hd hw
  let ⟨k,hk⟩:=encH_flat hS τ x
  simp only[List.map_cons,DataW.weightsEach,List.all_append,Bool.and_eq_true] at h3
  let ⟨r,hr⟩:=ihf (off+(flatT S τ).length) (ts.drop (flatT S τ).length) parts h1 (by grind) h3.2 (by simpa using h4) (λi f hf=>by
   let ⟨di,pi,q1,q2⟩:=h5 (i+1) f (by simpa using hf)
   simp_all)
  let ⟨m,hm⟩:=encH_append (flatT S τ) (ts.drop (flatT S τ).length) k r
  have hts:flatT S τ++ts.drop (flatT S τ).length=ts:=by
   conv=>rhs;rw[<-List.take_append_drop (flatT S τ).length ts]
   rw[e3]
  rw[e1,e2] at hx
  rw[<-hk] at hx
  have hcs:cs.drop off=(cs.drop off).take (flatT S τ).length++cs.drop (off+(flatT S τ).length):=by
   rw[<-List.drop_drop,List.take_append_drop]
  have hfin:∃m:hden S.A (flatT S τ++ts.drop (flatT S τ).length),CRel I w (encH S _ m) (cs.drop off):=⟨m,by
   rw[hm,hcs]
   exact PW.append hx hr⟩
  grind
theorem trod_ty (hS:SgOk S) {ty:TypeId->Option Ty} (hR:∀t τ,ty t=some τ->rdT S P ty t τ=true) (hI:∀b,b<w.heap.size->I b) :
  ∀(fuel:Nat) (t:TypeId) (τ:Ty) (cs:List Value) (d:DataW H) (ps:List MemPlace),ty t=some τ->DataW.trod enH P w 0 (λ_=>true) held fuel t cs=some (d,ps)->(d.weights P t).all (·<=reachBytes)=true->
   ∃x:den S.A τ,CRel I w (enc S τ x).cells cs:=by
 intro fuel
 induction fuel with
 |zero=>simp_all[DataW.trod]
 |succ fuel ih=>
  intro t τ cs d ps hτ h hwt
  have hr:=hR t τ hτ
  unfold rdT at hr
  split at hr
  .rename_i hu
   obtain ⟨b,rfl⟩:=trod_bool hu h
   exact ⟨b,pw_one (.lit _)⟩
  .rename_i k k' hu
   obtain ⟨n,rfl⟩:=trod_int hu h
   obtain rfl:k=k':=by cases k<;>cases k'<;>first|rfl|cases hr
   exact ⟨n,pw_one (.lit _)⟩
  .rename_i hu
   obtain ⟨b,rfl⟩:=trod_str hu h
   refine ⟨ofBytes b,pw_one ?_⟩
   have:enc S .str (ofBytes b)=.lit (.string b):=by
    rfl
   exact .lit _
  .rename_i e τ' hu
   split at hr
   rotate_left
   .cases hr
   rename_i τ'' hτe
   simp only[Bool.and_eq_true] at hr
   let ⟨h1,h2,h3,h4⟩:=hr
   obtain rfl:=tyEq_eq h1
   have h2:=Nat.eq_of_beq_eq_true h2
   have h3:=Nat.le_of_ble_eq_true h3
   have h4:0<S.width τ'':=Nat.le_of_ble_eq_true h4
   rcases trod_slice hu h with rfl|⟨a,len,cap,elems,rest,rfl,hlc,rfl,hel,hall⟩
   .refine ⟨[],pw_one ?_⟩
    exact .sl [] none 0 0 (λ_ _=>undef) (Nat.le_refl _) (λd hd=>by cases hd) (λd hd=>by cases hd) (λh=>absurd rfl h) (λi j d c hd=>by simp at hd)
   .simp only[DataW.weights,hu,List.all_cons,List.all_append,Bool.and_eq_true,decide_eq_true_eq] at hwt
    have hev:=weights_elem hwt.2.1
    let ⟨xs,hxl,hxs⟩:=choose_list (λi (x:den S.A τ'')=>∃vs,w.cells? 0 (a.add (i*P.cellsOf e)) (P.cellsOf e)=some vs∧CRel I w (enc S τ'' x).cells vs) len (λi hi=>by
     grind)
    have hcell:∀(i j:Nat) (x:den S.A τ'') (c:D),xs[i]?=some x->(enc S τ'' x).cells[j]?=some c->∃v,w.cell? (a.add (i*S.width τ''+j))=some v∧DRel I w c v:=by
     intro i j x c hx hc
     let ⟨vs,q1,q2⟩:=hxs i x hx
     let ⟨q3,q4⟩:=cells_some q1
     have hj:j<P.cellsOf e:=by
      grind[enc_width]
     let ⟨v,hv,hcv⟩:=q4 j hj
     rw[Addr.add_add,h2] at hcv
     exact ⟨v,hcv,q2.2 j c v hc hv⟩
    refine ⟨xs,pw_one ?_⟩
    have hsl:enc S (.sl τ'') xs=.sl (xs.map (enc S τ'')):=rfl
    rw[hsl]
    have hlen:(xs.map (enc S τ'')).length=len:=by simp[hxl]
    rw[show (Value.slice (some a) len cap)=.slice (some a) (xs.map (enc S τ'')).length cap by rw[hlen]]
    refine .sl _ (some a) cap (S.width τ'') (λi j=>(w.cell? (a.add (i*S.width τ''+j))).getD undef) (by omega) (rows_map hS xs) (λd hd=>?_) (λhne=>?_) (λi j d c hd hc=>?_)
    .obtain ⟨x,_,rfl⟩:=List.mem_map.1 hd
     rw[enc_by hS,hlen]
     have hw1:=hwt.1
     rw[hel] at hw1
     have hb:len*byOf S τ''<=2*(len*P.bytesOf e):=by
      simp_all[Nat.mul_le_mul_left,Nat.mul_left_comm]
     grind[reachBytes]
    .have hpos:0<xs.length:=by
      grind
     obtain ⟨x,hx⟩:∃x,xs[0]?=some x:=⟨_,List.getElem?_eq_getElem hpos⟩
     obtain ⟨c,hc⟩:∃c,(enc S τ'' x).cells[0]?=some c:=⟨_,List.getElem?_eq_getElem (by rw[enc_width hS];exact h4)⟩
     let ⟨v,hv,_⟩:=hcell 0 0 x c hx hc
     refine ⟨a,rfl,hI _ ?_,λi j d c hd hc=>?_⟩
     .have:=cell_lt hv
      rwa [add_block] at this
     grind
    grind
  .rename_i fs n hu
   simp only[Bool.and_eq_true] at hr
   let ⟨h1,h2⟩:=hr
   have h1:=Nat.eq_of_beq_eq_true h1
   rw[lenL_eq] at h1
   obtain ⟨hl,parts,rfl,hpl,hall⟩:=trod_struct hu h
   simp only[DataW.weights,hu] at hwt
   let ⟨k,hk⟩:=trod_fields hS ih fs.toList 0 (S.fs n) parts h2 (by omega) hwt hpl hall
   refine ⟨S.mkS n k,?_⟩
   simp[enc,D.cells]
   rw[show S.cells n (S.mkS n k)=_ from hS.cells n _,hS.get_mk]
   simpa using hk
  .cases hr
end
end TL
end
section
namespace TL
open Go
variable {S:Sg}
section
variable {P:Program} {w:World} {H:Type} {enH:TypeId×Value->H}
def formB (P:Program) (t:TypeId) (τ:Ty):Bool:=match P.underlying t,τ with
 |some (.struct _),.st _=>true
 |some (.slice _),.sl _=>true
 |some (.int _),.int _=>true
 |some .bool,.bool=>true
 |some .string,.str=>true
 |_,_=>false
theorem trod_val (hS:SgOk S) {ty:TypeId->Option Ty} (hR:∀t τ,ty t=some τ->rdT S P ty t τ=true) {t:TypeId} {τ:Ty} (hτ:ty t=some τ) {v:Value} {d:DataW H} {ps:List MemPlace} {base:Nat} (hv:Value.okWide P w .any base t v)
  (h:DataW.Trod enH P w 0 (λ_=>true) true t v d ps) (hwt:(d.weights P t).all (·<=reachBytes)=true):∃x:den S.A τ,DRel (λb=>b<w.heap.size) w (enc S τ x) v:=by
 let ⟨fuel,h⟩:=h
 let ⟨x,hx⟩:=trod_ty (I:=λb=>b<w.heap.size) hS hR (λ_ h=>h) fuel t τ _ d ps hτ h hwt
 refine ⟨x,?_⟩
 have hr:=hR t τ hτ
 unfold rdT at hr
 split at hr
 .rename_i hu
  obtain ⟨b,rfl⟩:=WideShapes.okWide_bool hu hv
  exact hx.2 0 _ _ rfl rfl
 .rename_i k k' hu
  obtain ⟨n,rfl⟩:=WideShapes.okWide_int hu hv
  exact hx.2 0 _ _ rfl rfl
 .rename_i hu
  obtain ⟨b,rfl⟩:=WideShapes.okWide_string hu hv
  exact hx.2 0 _ _ rfl rfl
 .rename_i e τ' hu
  obtain ⟨a,n,m,rfl⟩:=WideShapes.okWide_slice hu hv
  exact hx.2 0 _ _ rfl rfl
 .rename_i fs n hu
  obtain ⟨cs,rfl,_⟩:=WideShapes.okWide_struct hu hv
  refine .agg _ _ (by have:=hx.1;grind[enc,D.cells,Value.cells]) ?_ (λj c u h1 h2=>hx.2 j c u h1 (by simpa[Value.cells] using h2))
  grind[enc_flat,enc,D.flat,D.cells]
 .cases hr
theorem trod_args (hS:SgOk S) {ty:TypeId->Option Ty} (hR:∀t τ,ty t=some τ->rdT S P ty t τ=true) {base:Nat}:∀(ts:List TypeId) (τs:List Ty) (vs:List Value) (ds:List (DataW H)) (ps:List MemPlace),
  PW (λt τ=>ty t=some τ) ts τs->(∀(j:Nat) t v,ts[j]?=some t->vs[j]?=some v->Value.okWide P w .any base t v)->DataW.TrodAll enH P w 0 (λ_=>true) true ts vs ds ps->
  (DataW.weightsEach P ts ds).all (·<=reachBytes)=true->∃x:pden S.A (τs.map λτ=>.one (.dat τ)),PRel S (λb=>b<w.heap.size) w (τs.map λτ=>.one (.dat τ)) x vs [] []
 |[],[],vs,ds,ps,_,_,h,_=>by
  cases vs with
  |nil=>exact ⟨(),.nil⟩
  |cons v vs=>cases ds<;>simp[DataW.TrodAll] at h
 |t ::ts,τ ::τs,vs,ds,ps,hp,hv,h,hw=>by
  cases vs with
  |nil=>cases ds<;>simp[DataW.TrodAll] at h
  |cons v vs=>
  cases ds with
  |nil=>simp[DataW.TrodAll] at h
  |cons d ds=>
  let ⟨p,q,h1,h2,_⟩:=h
  simp only[DataW.weightsEach,List.all_append,Bool.and_eq_true] at hw
  let ⟨x,hx⟩:=trod_val hS hR (hp.2 0 t τ rfl rfl) (hv 0 t v rfl rfl) h1 hw.1
  let ⟨k,hk⟩:=trod_args hS hR ts τs vs ds q ⟨by simpa using hp.1,λj a b ha hb=>hp.2 (j+1) a b (by simpa using ha) (by simpa using hb)⟩ (λj t v ha hb=>hv (j+1) t v (by simpa using ha) (by simpa using hb)) h2 hw.2
  exact ⟨(x,k),.one (.dat hx .nil) hk⟩
 |[],τ ::τs,_,_,_,hp,_,_,_=>by have:=hp.1;simp at this
 |t ::ts,[],_,_,_,hp,_,_,_=>by have:=hp.1;simp at this
theorem trod_again {w':World} (hl:laidOutB P=true) (hk:∀b,b<w.heap.size->w'.heap[b]?=w.heap[b]?):∀(ts:List TypeId) (vs:List Value) (ds:List (DataW H)) (ps:List MemPlace),(∀t∈ts,P.readableRec t=true∧t<P.types.size)->
  DataW.TrodAll enH P w 0 (λ_=>true) true ts vs ds ps->(∀p∈ps,p.block<w.heap.size)->DataW.TrodAll enH P w' 0 (λb=>decide (b<w.heap.size)) true ts vs ds ps
 |[],[],[],ps,_,h,_=>h
 |t ::ts,v ::vs,d ::ds,ps,hr,h,hb=>by
  obtain ⟨p,q,h1,h2,rfl⟩:=h
  refine ⟨p,q,WideElems.Trod_stays hl (hr t List.mem_cons_self).1 (hr t List.mem_cons_self).2 h1 (λx hx=>?_) (λx hx=>by simp_all),trod_again hl hk ts vs ds q (λt ht=>hr t (List.mem_cons_of_mem _ ht)) h2 λx hx=>hb x (List.mem_append_right _ hx),rfl⟩
  have:=hk x.block (hb x (List.mem_append_left _ hx))
  cases x with
  |cell b off=>show w'.cell? _=w.cell? _;unfold World.cell?;rw[show w'.heap[b]?=w.heap[b]? from this]
  |map b=>exact this
 |[],[],_ ::_,_,_,h,_=>by simp[DataW.TrodAll] at h
 |[],_ ::_,_,_,_,h,_=>by simp[DataW.TrodAll] at h
 |_ ::_,[],_,_,_,h,_=>by simp[DataW.TrodAll] at h
 |_ ::_,_ ::_,[],_,_,h,_=>by simp[DataW.TrodAll] at h
theorem kept_of_heap {w':World} (hos:w'.os=w.os) (hout:w'.output=w.output) (hk:∀b,b<w.heap.size->w'.heap[b]?=w.heap[b]?) (may:MemPlace->Prop):w.keptBut w' may:=by
 refine ⟨hos,hout,λi hi=>?_⟩
 grind
theorem law_calls (hS:SgOk S) {ty:TypeId->Option Ty} (hR:∀t τ,ty t=some τ->rdT S P ty t τ=true) (hl:laidOutB P=true) {f:FuncId} {fn:Func} {s:ChangeSpec} {apart fresh handsOn:Bool} {τs:List Ty} {tb:TypeId}
  (hτ:PW (λt τ=>ty t=some τ) fn.params.toList τs) (hrd:∀t∈fn.params.toList,P.readableRec t=true∧t<P.types.size) (hres:fn.resultTypes=#[tb]) (hb:P.underlying tb=some .bool) (hvars:s.vars=[])
  (hspec:∀ds:List (DataW H),ds.length=τs.length->(s.fn H ds).results=[.lit (.bool true)]∧(s.fn H ds).args=ds∧(s.fn H ds).vars=[])
  (hF:∀x:pden S.A (τs.map λτ=>Pk.one (.dat τ)),∃F r,ConOk P f (⟨τs.map λτ=>.one (.dat τ),[.dat .bool],false,F⟩:Con S)∧F x=some r∧r.1.1=true)
  {W:World} {base:Nat} {args:Array Value} {ds gs:List (DataW H)} {before:List MemPlace}
  (hval:∀(j:Nat) t v,fn.params[j]?=some t->args[j]?=some v->Value.okWide P W .any base t v) (hW:DataW.Whole enH P fn.params.toList s.vars apart W args.toList ds gs before)
  (hwt:(DataW.weightsEach P (fn.params.toList++s.plain.varTypes P) (ds++gs)).all (·<=reachBytes)=true) (hglo:GlOk (·<W.heap.size) W) :
  Calls P f args W λe W'=>∃v,e=.returned v∧s.post enH P fn apart fresh handsOn false W args v W':=by
 rw[hvars] at hW
 have hW0:=hW
 obtain ⟨p,q,hA,hV,rfl,hfz,hnd⟩:=hW
 have hgs:gs=[]∧q=[]:=by
  cases gs with
  |nil=>exact ⟨rfl,hV⟩
  |cons g gs=>simp[DataW.TrodVars] at hV
 obtain ⟨rfl,rfl⟩:=hgs
 have hvt:s.plain.varTypes P=[]:=by grind[ChangeSpec.plain,DataSpec.varTypes]
 rw[hvt,List.append_nil,List.append_nil] at hwt
 let ⟨x,hx⟩:=trod_args hS hR fn.params.toList τs args.toList ds p hτ (λj t v h1 h2=>hval j t v (by simpa using h1) (by simpa using h2)) hA hwt
 let ⟨F,r,hcon,hr,htrue⟩:=hF x
 have hlen:ds.length=τs.length:=by
  rw[<-hτ.1]
  clear hval hW0 hwt hfz hnd hV hx hτ hrd
  generalize fn.params.toList=ts at hA
  generalize args.toList=vs at hA
  induction ts generalizing vs ds p with
  |nil=>cases vs<;>cases ds<;>simp_all [DataW.TrodAll]
  |cons t ts ih=>
   cases vs with
   |nil=>cases ds<;>simp[DataW.TrodAll] at hA
   |cons v vs=>
    cases ds with
    |nil=>simp[DataW.TrodAll] at hA
    |cons d ds=>
     grind[DataW.TrodAll]
 refine (hcon.2 x r hr _ W args [] [] hx (λ_ h=>h) hglo .nil (by simp) (by simp)).mono λe W' he=>?_
 cases e with
 |panicked ch=>exact he.elim
 |outgrown=>exact he.elim
 |returned v=>
 obtain ⟨I',vs,al1,al2,_,_,_,hsz,hkeep,hos,hout,rfl,_,hH,_⟩:=he
 have hv:valOf vs=.bool true:=by
  generalize r.1=y at hH htrue
  let ⟨b,u⟩:=y
  cases hH with
  |dat hd hr=>
  cases hr
  cases hd
  simp only at htrue
  rw[htrue]
  rfl
 rw[hv]
 refine ⟨_,rfl,?_⟩
 let ⟨s1,s2,s3⟩:=hspec ds hlen
 have hkeep':∀b,b<W.heap.size->W'.heap[b]?=W.heap[b]?:=λb hb=>hkeep b hb (by simp) (by simp)
 have hlt:∀x∈p,x.block<W.heap.size:=λx hx=>hW0.lt x (by simpa using hx)
 rw[List.append_nil] at hW0
 unfold ChangeSpec.post
 rw[hvars]
 refine ⟨ds,[],p,[],p,[],hW0,?_,?_,?_,kept_of_heap hos hout hkeep' _,λh=>by cases h⟩
 .rw[List.append_nil,s1,hres]
  refine ⟨[],[],⟨1,?_⟩,rfl,rfl⟩
  simp[DataW.trod,hb,Value.cells]
 .grind[trod_again]
 .rw[List.append_nil,s3]
  rfl
end
end TL
end
section
namespace Mn
open Go TL
set_option maxRecDepth 100000
set_option maxHeartbeats 0
def argT:List TypeId:=[9]
noncomputable def tyL (t:TypeId):Option Ty:=bif argT.contains t then tyT.get t else none
noncomputable def rdB1 (t:TypeId):Bool:=match tyT.get t with|some τ=>rdT sg prog tyL t τ|none=>true
theorem rd_all:argT.all rdB1=true:=by kernel_rfl
theorem rd_ok (t:TypeId) (τ:Ty) (h:tyL t=some τ):rdT sg prog tyL t τ=true:=by
 unfold tyL at h
 cases hc:argT.contains t with
 |false=>rw[hc] at h;cases h
 |true=>
  rw[hc,cond_true] at h
  have:=List.all_eq_true.1 rd_all t (by simpa using hc)
  unfold rdB1 at this
  rw[h] at this
  exact this
theorem laid:laidOutB prog=true:=by kernel_rfl
theorem own:ownKnob prog.godebug=none:=by kernel_rfl
theorem gl_ok (I:Nat->Prop) (w:World):GlOk I w:=λp hp=>by cases hp
noncomputable abbrev laidR:List (String×DataW Unit):=[("math/bits.deBruijn32tab",Go.Proofs.YtbaeajgfnoplaaaGreatDoor.Rows.laid_math_bits_deBruijn32tab),("math/bits.deBruijn64tab",Go.Proofs.YtbaeajgfnoplaaaGreatDoor.Rows.laid_math_bits_deBruijn64tab),("internal/strconv.uint64pow10",Go.Proofs.YtbaeajgfnoplaaaGreatDoor.Rows.laid_internal_strconv_uint64pow10)]
theorem door_met (os:Os) (args:Array Value):laidMetH prog laidR ((World.doorLaid prog 24 os).forCall (λ_ _=>0) ⟨#[],args,[]⟩).memory:=
 laidMetH_of_parts3 (fuel:=8) (laidMet_of_run' 8 (by kernel_rfl) (by kernel_rfl)) (by kernel_rfl) (by kernel_rfl)
end Mn
end
section
namespace Mn
open Go TL
set_option maxRecDepth 100000
set_option maxHeartbeats 0
def shL (l:List (Nat×Nat×LSh)) (f b:Nat):Option LSh:=match l with
 |[]=>none
 |p ::l=>bif Nat.beq p.1 f&&Nat.beq p.2.1 b then some p.2.2 else shL l f b
theorem mixed:prog.follows .mixedOrders=true:=by kernel_rfl
theorem mkOkJ (l:List (FuncId×Con sg)) (hl:OkL prog l) (sh:FuncId->Nat->Option LSh) (pn:Bool) (cj:FuncId->List (V sg)->Option JSh) (n d:Nat) (f:FuncId) (ps:List Pk) (rs:List Ck) (hb:((fncT.get f).bind (·.body)).isSome=true)
  {F:pden sg.A ps->Option (RT pn (cden sg.A rs×bden sg.A ps) (den sg.A sg.pt×bden sg.A ps))} (h:(λx=>evFun (⟨envT,tabC l,sh,pn,cj⟩:EnvV sg) n d f ps rs x)=F):ConOk prog f (⟨ps,rs,pn,F⟩:Con sg):=by
 cases h1:fncT.get f with
 |none=>rw[h1] at hb;cases hb
 |some fn=>
  rw[h1] at hb
  cases h2:fn.body with
  |none=>rw[show (some fn:Option Func).bind (·.body)=fn.body from rfl,h2] at hb;cases hb
  |some c=>
   have:=conOk (E:=(⟨envT,tabC l,sh,pn,cj⟩:EnvV sg)) (envOk (tabC l) sh (tabC_ok hl) pn cj) mixed (f:=f) (fn:=fn) (c:=c) h1 h2 n d ps rs
   rw[<-h]
   exact this
theorem mkOk (l:List (FuncId×Con sg)) (hl:OkL prog l) (sh:FuncId->Nat->Option LSh) (pn:Bool) (n d:Nat) (f:FuncId) (ps:List Pk) (rs:List Ck) (hb:((fncT.get f).bind (·.body)).isSome=true)
  {F:pden sg.A ps->Option (RT pn (cden sg.A rs×bden sg.A ps) (den sg.A sg.pt×bden sg.A ps))} (h:(λx=>evFun (⟨envT,tabC l,sh,pn,λ_ _=>none⟩:EnvV sg) n d f ps rs x)=F):ConOk prog f (⟨ps,rs,pn,F⟩:Con sg):=
 mkOkJ l hl sh pn _ n d f ps rs hb h
noncomputable def txtC (l:List (FuncId×Con sg)) (sh:List (Nat×Nat×LSh)) (pn:Bool) (n f:Nat) (ps:List Pk) (rs:List Ck) (x:pden sg.A ps):Option (RT pn (cden sg.A rs×bden sg.A ps) (den sg.A sg.pt×bden sg.A ps)):=evFun (⟨envT,tabC l,shL sh,pn,λ_ _=>none⟩:EnvV sg) n 10 f ps rs x
noncomputable def bodyC (f:Nat):Code:=match (fncT.get f).bind (·.body) with
 |some c=>c
 |none=>.skip
def ptrIn (m:Nat) (l:List (V sg)):Bool:=Nat.beq m 0||l.any λv=>match v with
 | .ptr o 0=>Nat.beq o m
 |_=>false
def cjL (l:List (Nat×Nat×JSh)) (f:Nat) (args:List (V sg)):Option JSh:=match l with
 |[]=>none
 |p ::l=>bif Nat.beq p.1 f&&ptrIn p.2.1 args then some p.2.2 else cjL l f args
theorem enters (f:FuncId) (hb:((fncT.get f).bind (·.body)).isSome=true):Enters prog f:=
 (mkOk [] trivial (λ_ _=>none) false 0 0 f [] [] hb rfl).1
end Mn
end
section
namespace Mn
open Go TL
abbrev P1:List Pk:=[.one (.dat (.str))]
abbrev K2:List Ck:=[.dat (.bool)]
abbrev P3:List Pk:=[.one (.dat (.int .u8))]
abbrev K4:List Ck:=[.dat (.st 7),.dat (.bool)]
abbrev K5:List Ck:=[.dat (.sl (.str))]
abbrev P6:List Pk:=[.one (.dat (.str)),.one (.dat (.str))]
abbrev K7:List Ck:=[.dat (.int .i64)]
abbrev P8:List Pk:=[.one (.dat (.str)),.one (.dat (.int .u8))]
abbrev P9:List Pk:=[.one (.dat (.int .i64))]
abbrev K10:List Ck:=[.dat (.int .u32),.dat (.int .u32)]
abbrev K11:List Ck:=[.dat (.int .i64),.dat (.int .i64),.dat (.int .i64)]
abbrev P12:List Pk:=[.one (.ptr (.st 10))]
abbrev K13:List Ck:=[.dat (.str)]
abbrev P14:List Pk:=[.one (.dat (.sl (.str))),.one (.dat (.str))]
abbrev P15:List Pk:=[.one (.dat (.bool))]
abbrev P16:List Pk:=[.box (.cells [.dat (.int .i64),.dat (.int .i64)]),.one (.dat (.st 1)),.one (.dat (.int .i64))]
abbrev P17:List Pk:=[.one (.dat (.st 1))]
abbrev K18:List Ck:=[.dat (.st 18),.dat (.bool)]
abbrev P19:List Pk:=[.box (.cells [.dat (.int .i64),.dat (.int .i64)]),.one (.dat (.st 0))]
abbrev P20:List Pk:=[.one (.dat (.st 0))]
abbrev P21:List Pk:=[.one (.dat (.int .u64))]
abbrev P22:List Pk:=[.one (.dat (.sl (.int .u8))),.one (.dat (.int .u64))]
abbrev P23:List Pk:=[.one (.dat (.int .u32))]
abbrev P24:List Pk:=[.one (.own (.int .u8)),.one (.dat (.int .u64)),.one (.dat (.int .i64)),.one (.dat (.bool)),.one (.dat (.bool))]
abbrev K25:List Ck:=[.dat (.sl (.int .u8)),.dat (.str)]
abbrev P26:List Pk:=[.one (.dat (.int .i64)),.one (.dat (.int .i64))]
abbrev K27:List Ck:=[.dat (.str),.dat (.bool)]
abbrev P28:List Pk:=[.box (.cells [.dat (.sl (.st 9))]),.one (.dat (.st 0))]
abbrev P29:List Pk:=[.box (.cells [.dat (.sl (.st 9))]),.one (.dat (.st 1))]
abbrev P30:List Pk:=[.box (.cells [.dat (.sl (.st 9))]),.one (.dat (.st 1)),.one (.dat (.int .i64))]
abbrev P31:List Pk:=[.box (.cells [.own (.st 9)]),.one (.dat (.st 1))]
abbrev K32:List Ck:=[.dat (.str),.dat (.int .i64)]
abbrev K33:List Ck:=[.dat (.sl (.st 7)),.dat (.int .i64)]
abbrev P34:List Pk:=[.one (.ptr (.st 13)),.one (.dat (.str))]
abbrev P35:List Pk:=[.one (.dat (.int .i64)),.one (.dat (.sl (.st 1)))]
abbrev K36:List Ck:=[.dat (.st 1)]
abbrev P37:List Pk:=[.box (.cells [.dat (.sl (.st 7)),.dat (.int .i64)])]
abbrev K38:List Ck:=[.dat (.st 0)]
abbrev P39:List Pk:=[.one (.ptr (.st 13)),.one (.dat (.int .i64))]
abbrev K40:List Ck:=[.dat (.int .i64),.dat (.bool)]
abbrev P41:List Pk:=[.box (.cells [.dat (.sl (.st 7)),.dat (.int .i64)]),.one (.dat (.int .i64))]
abbrev K42:List Ck:=[.dat (.st 20)]
abbrev K43:List Ck:=[.dat (.st 1),.dat (.int .i64)]
abbrev P44:List Pk:=[.box (.cells [.dat (.int .i64),.dat (.int .i64)]),.one (.dat (.st 2))]
abbrev P45:List Pk:=[.one (.dat (.st 2)),.one (.dat (.bool))]
abbrev P46:List Pk:=[.one (.dat (.st 2))]
abbrev P47:List Pk:=[.box (.cells [.own (.st 9)]),.one (.dat (.st 2))]
abbrev P48:List Pk:=[.box (.cells [.dat (.sl (.st 9))]),.one (.dat (.st 2))]
abbrev P49:List Pk:=[.one (.dat (.int .i64)),.one (.dat (.sl (.st 2)))]
abbrev K50:List Ck:=[.dat (.st 2)]
abbrev K51:List Ck:=[.dat (.st 2),.dat (.int .i64)]
abbrev K52:List Ck:=[.dat (.int .i64),.dat (.int .i64)]
abbrev P53:List Pk:=[.one (.dat (.str)),.one (.dat (.int .i64)),.one (.dat (.bool))]
abbrev P54:List Pk:=[.one (.dat (.str)),.one (.dat (.int .i64))]
abbrev K55:List Ck:=[.dat (.st 7)]
abbrev P56:List Pk:=[.one (.dat (.sl (.st 7))),.one (.dat (.sl (.st 7))),.one (.dat (.bool))]
abbrev P57:List Pk:=[.one (.dat (.st 1)),.one (.dat (.int .i64)),.one (.dat (.int .i64))]
abbrev P58:List Pk:=[.one (.dat (.st 0)),.one (.dat (.int .i64))]
abbrev P59:List Pk:=[.one (.dat (.int .i64)),.one (.dat (.int .i64)),.one (.dat (.int .i64))]
abbrev P60:List Pk:=[.one (.dat (.st 1)),.one (.dat (.bool)),.one (.dat (.bool)),.one (.dat (.bool))]
abbrev P61:List Pk:=[.one (.dat (.sl (.str)))]
abbrev P62:List Pk:=[.one (.dat (.st 1)),.one (.dat (.bool))]
abbrev P63:List Pk:=[.one (.dat (.st 1)),.one (.dat (.int .i64)),.one (.dat (.bool))]
abbrev P64:List Pk:=[.one (.dat (.sl (.st 1)))]
abbrev P65:List Pk:=[.one (.dat (.st 0)),.one (.dat (.st 0))]
abbrev P66:List Pk:=[.one (.dat (.st 1)),.one (.dat (.st 1))]
abbrev P67:List Pk:=[.one (.dat (.st 2)),.one (.dat (.int .i64))]
abbrev P68:List Pk:=[.one (.dat (.st 2)),.one (.dat (.st 2))]
abbrev P69:List Pk:=[.one (.ptr (.st 8)),.one (.dat (.str))]
abbrev P70:List Pk:=[.box (.cells [.dat (.sl (.st 7)),.dat (.int .i64),.dat (.bool)]),.one (.dat (.str))]
abbrev P71:List Pk:=[.one (.ptr (.st 8)),.one (.dat (.int .i64))]
abbrev P72:List Pk:=[.box (.cells [.dat (.sl (.st 7)),.dat (.int .i64),.dat (.bool)]),.one (.dat (.int .i64))]
abbrev P73:List Pk:=[.box (.cells [.dat (.sl (.st 7)),.dat (.int .i64),.dat (.bool)])]
abbrev K74:List Ck:=[.dat (.st 4)]
abbrev P75:List Pk:=[.one (.dat (.int .i64)),.one (.dat (.st 1)),.one (.dat (.st 1))]
abbrev P76:List Pk:=[.one (.ptr (.st 8))]
abbrev K77:List Ck:=[.dat (.sl (.st 1))]
abbrev K78:List Ck:=[.dat (.st 5)]
abbrev K79:List Ck:=[.dat (.st 6)]
abbrev P80:List Pk:=[.one (.dat (.sl (.st 7))),.one (.dat (.int .i64))]
abbrev K81:List Ck:=[.dat (.str),.dat (.bool),.dat (.bool)]
abbrev P82:List Pk:=[.one (.dat (.st 1)),.one (.dat (.st 2)),.one (.dat (.int .u8))]
abbrev P83:List Pk:=[.one (.dat (.st 1)),.one (.dat (.st 1)),.one (.dat (.st 2)),.one (.dat (.st 2))]
abbrev P84:List Pk:=[.one (.dat (.st 3))]
abbrev P85:List Pk:=[.one (.dat (.ifc 16))]
abbrev P86:List Pk:=[.one (.dat (.st 6))]
abbrev K87:List Ck:=[.dat (.st 6),.dat (.int .i64)]
abbrev P88:List Pk:=[.one (.dat (.st 4))]
abbrev P89:List Pk:=[.one (.dat (.sl (.st 2))),.one (.dat (.sl (.st 2)))]
abbrev P90:List Pk:=[.one (.dat (.st 4)),.one (.dat (.st 4))]
abbrev P91:List Pk:=[.one (.dat (.st 6)),.one (.dat (.st 6))]
abbrev P92:List Pk:=[.one (.dat (.sl (.st 7))),.one (.dat (.sl (.int .u8)))]
abbrev P93:List Pk:=[.one (.dat (.str)),.one (.dat (.sl (.int .u8)))]
abbrev Fn (ps:List Pk) (rs:List Ck) (pn:Bool):Type:=pden sg.A ps->Option (RT pn (cden sg.A rs×bden sg.A ps) (den sg.A sg.pt×bden sg.A ps))
abbrev Y1:=List UInt8×Int×Unit
abbrev Y2:=Int×List UInt8×Int×Int×Unit
abbrev Y3:=Option ((ReadToken×Unit)×Unit)
abbrev Y4:=LO (Bool×Y2×Unit) Unit (Y2×Unit) Any
abbrev Y5:=(List UInt8×Nat)×Unit
abbrev Y6:=Option ((Bool×Unit)×Unit)
abbrev Y7:=Nat->List UInt8×Unit->Y6
abbrev Y8:=List UInt8×Int×Bool×Unit
abbrev Y9:=Option (LO (Int×Unit) (Int×Unit) Unit Any)
abbrev Y10:=Option ((Int×Unit)×Unit)
abbrev Y11:=Nat->List UInt8×Unit->Y10
abbrev Y12:=(Int×Int×Unit)×Unit
abbrev Y13:=Nat->List UInt8×Unit->Option Y12
abbrev Y14:=Int×Int×Int×Unit
abbrev Y15:=List UInt8×List UInt8×Unit
abbrev Y16:=Nat->Unit->Option ((List (List UInt8)×Unit)×Unit)
abbrev Y17:=Option ((ReadToken×Bool×Unit)×Unit)
abbrev Y18:=LO (Int×Bool×Unit) (Bool×Unit) Unit Any
abbrev Y19:=Nat->List UInt8×Unit->Y17
abbrev Y20:=List ReadToken×Int×Unit
abbrev Y21:=Nat->List UInt8×Unit->Option (Y20×Unit)
abbrev Y22:=Nat->Int×Unit->Y6
abbrev Y23:=List ReadToken×Unit
abbrev Y24:=Nat->List UInt8×Unit->Option (Y14×Unit)
abbrev Y25:=List ReadToken×List ReadToken×Bool×Unit
end Mn
end
section
namespace TL
open Go
variable {S:Sg}
def HandPost (S:Sg) (I:Nat->Prop) (w:World) (rs:List Ck) (r:cden S.A rs):Ending->World->Prop:=λe w'=>
 ∃(vs:List Value) (I':Nat->Prop),e=.returned (valOf vs)∧HRel S I' w' rs r vs []∧(∀b,I b->I' b)∧(∀b,I' b->I b∨w.heap.size<=b)∧(∀b,I' b->b<w'.heap.size)∧w.heap.size<=w'.heap.size∧
  (∀b,b<w.heap.size->w'.heap[b]?=w.heap[b]?)∧w'.os=w.os∧w'.output=w.output
theorem datArgs {I:Nat->Prop} {w:World}:∀{ps:List Pk} {x:pden S.A ps} {vs:List Value} {al:List ASl} {bl:List Nat},onlyDat ps=true->PRel S I w ps x vs al bl->al=[]∧bl=[]
 |[],_,_,_,_,_,h=>by cases h;exact ⟨rfl,rfl⟩
 | .one c ::ps,x,_,_,_,h,hp=>by
  cases hp with
  |one h1 h2=>
   cases c with
   |dat t=>
    cases h1 with
    |dat hd hr=>
     cases hr
     have ⟨a,b⟩:=datArgs (by simpa[onlyDat] using h) h2
     simp[a,b]
   |_=>simp[onlyDat] at h
 | .box k ::ps,_,_,_,_,h,_=>by simp[onlyDat] at h
 | .hid k ::ps,_,_,_,_,h,_=>by simp[onlyDat] at h
theorem conOk_hand {P:Program} {f:FuncId} {ps:List Pk} {rs:List Ck} {F:pden S.A ps->Option (cden S.A rs×bden S.A ps)} (he:Enters P f) (hp:onlyDat ps=true) (hb:∀(b:bden S.A ps) (I:Nat->Prop) (w:World),BRel S I w ps b [] [])
  (h:∀x r,F x=some r->∀(I:Nat->Prop) (w:World) (vs:Array Value),PRel S I w ps x vs.toList [] []->(∀b,I b->b<w.heap.size)->GlOk I w->Calls P f vs w (HandPost S I w rs r.1)) :
  ConOk P f (⟨ps,rs,false,F⟩:Con S):=by
 refine ⟨he,λx r hF I w vs al bl hP hI hgl _ _ _=>?_⟩
 obtain ⟨rfl,rfl⟩:=datArgs hp hP
 refine (h x r hF I w vs hP hI hgl).mono ?_
 rintro e w' ⟨rs',I',rfl,h1,h2,h3,h4,h5,h6,h7,h8⟩
 refine ⟨I',rs',[],[],h2,λb hb=>(h3 b hb).imp id .inl,h4,h5,λb hb _ _=>h6 b hb,h7,h8,rfl,hb _ _ _,h1,.nil,by simp,by simp⟩
theorem conOk_mono {P:Program} {f:FuncId} {ps:List Pk} {rs:List Ck} {pn:Bool} {F F':pden S.A ps->Option (RT pn (cden S.A rs×bden S.A ps) (den S.A S.pt×bden S.A ps))} (h:ConOk P f (⟨ps,rs,pn,F⟩:Con S)) (hF:∀x r,F' x=some r->F x=some r):ConOk P f (⟨ps,rs,pn,F'⟩:Con S):=
 ⟨h.1,λx r hr=>h.2 x r (hF x r hr)⟩
end TL
end
section
namespace TL
open Go Go.Proofs
variable {S:Sg}
theorem drel_s {I:Nat->Prop} {w:World} {s:List UInt8} {v:Value} (h:DRel I w (enc S .str s) v):v=.string (toBytes s):=by
 unfold enc at h;cases h;rfl
theorem drel_i {I:Nat->Prop} {w:World} {k:IntKind} {n:Int} {v:Value} (h:DRel I w (enc S (.int k) n) v):v=.int k n:=by
 unfold enc at h;cases h;rfl
theorem prel_dat {I:Nat->Prop} {w:World} {t:Ty} {ps:List Pk} {x:den S.A t} {y:pden S.A ps} {vl:List Value} {al:List ASl} {bl:List Nat} (h:PRel S I w (.one (.dat t) ::ps) (x,y) vl al bl) :
  ∃v vl',vl=v ::vl'∧DRel I w (enc S t x) v∧PRel S I w ps y vl' al bl:=by
 cases h with
 |one h1 h2=>
  cases h1 with
  |dat hd hr=>cases hr;exact ⟨_,_,rfl,hd,h2⟩
theorem prel_nil {I:Nat->Prop} {w:World} {y:pden S.A []} {vl:List Value} {al:List ASl} {bl:List Nat} (h:PRel S I w [] y vl al bl):vl=[]:=by
 cases h;rfl
theorem arr1 {vs:Array Value} {a:Value} (h:vs.toList=[a]):vs=#[a]:=by
 apply Array.toList_inj.1;simpa using h
theorem arr2 {vs:Array Value} {a b:Value} (h:vs.toList=[a,b]):vs=#[a,b]:=by
 apply Array.toList_inj.1;simpa using h
theorem handPost_same {I:Nat->Prop} {w:World} {rs:List Ck} {r:cden S.A rs} {vs:List Value} (hI:∀b,I b->b<w.heap.size) (h:HRel S I w rs r vs []):HandPost S I w rs r (.returned (valOf vs)) w:=
 ⟨vs,I,rfl,h,λ_ h=>h,λ_ h=>.inl h,hI,Nat.le_refl _,λ_ _=>rfl,rfl,rfl⟩
theorem enters_body {P:Program} {f:FuncId} {fn:Func} (h:P.funcs[f]?=some fn) (hb:fn.body.isSome=true) (hn:(fn.name== "runtime.NumGoroutine")=false):Enters P f:=⟨fn,h,hb,hn⟩
def countF (x:List UInt8×List UInt8×Unit):Option ((Int×Unit)×Unit):=match x.2.1 with
 |[c]=>some (((Lib.countByte x.1 c:Nat),()),())
 |_=>none
theorem count_ok {P:Program} {ρ:Shelf.Ren} (L:Lays.n138 P ρ):ConOk P (ρ.f 138) (⟨[.one (.dat .str),.one (.dat .str)],[.dat (.int .i64)],false,countF⟩:Con S):=by
 refine conOk_hand (enters_body L.f138 (by kernel_rfl) rfl) rfl (λ_ _ _=>.one (.one .nil)) λx r hF I w vs hP hI _=>?_
 obtain ⟨s,c,u⟩:=x
 obtain ⟨_,_,e1,d1,hP⟩:=prel_dat hP
 obtain ⟨_,_,e2,d2,hP⟩:=prel_dat hP
 have:=prel_nil hP
 subst this;subst e2;cases drel_s d1;cases drel_s d2
 rw[arr2 e1]
 unfold countF at hF
 dsimp only at hF
 split at hF
 .cases hF
  refine (Any.strings_Count_one L (toBytes s) _ w).mono ?_
  rintro e w' ⟨rfl,rfl⟩
  exact handPost_same (vs:=[_]) hI (.dat (.lit _) .nil)
 .cases hF
def lastF (x:List UInt8×List UInt8×Unit):Option ((Int×Unit)×Unit):=match x.2.1 with
 |[c]=>bif Nat.blt x.1.length 4294967296 then some ((Lib.lastIndexByte (toBytes x.1) (c.toNat:Int),()),()) else none
 |_=>none
theorem last_ok {P:Program} {ρ:Shelf.Ren} (L:Lays.n148 P ρ):ConOk P (ρ.f 148) (⟨[.one (.dat .str),.one (.dat .str)],[.dat (.int .i64)],false,lastF⟩:Con S):=by
 refine conOk_hand (enters_body L.f148 (by kernel_rfl) rfl) rfl (λ_ _ _=>.one (.one .nil)) λx r hF I w vs hP hI _=>?_
 obtain ⟨s,c,u⟩:=x
 obtain ⟨_,_,e1,d1,hP⟩:=prel_dat hP
 obtain ⟨_,_,e2,d2,hP⟩:=prel_dat hP
 have:=prel_nil hP
 subst this;subst e2;cases drel_s d1;cases drel_s d2
 rw[arr2 e1]
 unfold lastF at hF
 dsimp only at hF
 split at hF
 .cases hb:Nat.blt s.length 4294967296 with
  |false=>rw[hb] at hF;cases hF
  |true=>
   rw[hb] at hF
   cases hF
   have hl:=(Eq.mp Nat.blt_eq hb)
   refine (Any.strings_LastIndex_one L (toBytes s) (toBytes [_]) rfl (by show s.toArray.size<_;simp;omega) w).mono ?_
   rintro e w' ⟨rfl,rfl⟩
   exact handPost_same (vs:=[_]) hI (.dat (.lit _) .nil)
 .cases hF
def itoaF (x:Int×Unit):Option ((List UInt8×Unit)×Unit):=match x.1 with
 | .ofNat n=>bif Nat.blt n 100 then some ((Lib.decDigits n,()),()) else none
 | .negSucc _=>none
theorem itoa_ok {P:Program} {ρ:Shelf.Ren} (L:Lays.n171 P ρ):ConOk P (ρ.f 171) (⟨[.one (.dat (.int .i64))],[.dat .str],false,itoaF⟩:Con S):=by
 refine conOk_hand (enters_body L.f171 (by kernel_rfl) rfl) rfl (λ_ _ _=>.one .nil) λx r hF I w vs hP hI _=>?_
 obtain ⟨n,u⟩:=x
 obtain ⟨_,_,e1,d1,hP⟩:=prel_dat hP
 have:=prel_nil hP
 subst this;cases drel_i d1
 rw[arr1 e1]
 unfold itoaF at hF
 dsimp only at hF
 split at hF
 .rename_i n
  cases hb:Nat.blt n 100 with
  |false=>rw[hb] at hF;cases hF
  |true=>
   rw[hb] at hF
   cases hF
   refine (Any.strconv_Itoa_small L n ((Eq.mp Nat.blt_eq hb)) w).mono ?_
   rintro e w' ⟨rfl,rfl⟩
   exact handPost_same (vs:=[_]) hI (.dat (.lit _) .nil)
 .cases hF
end TL
end
section
namespace TL
open Go Go.Proofs Go.RowKit
variable {S:Sg}
theorem handPost_below {I:Nat->Prop} {w w':World} {rs:List Ck} {r:cden S.A rs} {vs:List Value} (hI:∀b,I b->b<w.heap.size) (hb:Below w.heap.size w w') (h:HRel S I w' rs r vs []):HandPost S I w rs r (.returned (valOf vs)) w':=
 ⟨vs,I,rfl,h,λ_ h=>h,λ_ h=>.inl h,λb h=>Nat.lt_of_lt_of_le (hI b h) hb.size,hb.size,λb h=>hb.block b h,hb.os,hb.output⟩
theorem drel_ss {I:Nat->Prop} {w:World} {l:List (List UInt8)} {v:Value} (h:DRel I w (enc S (.sl .str) l) v) :
  ∃a cap,v=.slice a l.length cap∧l.length<=cap∧(l≠[]->∃b o,a=some ⟨b,o,none⟩∧I b∧∀j x,l[j]?=some x->w.cell? ⟨b,o+j,none⟩=some (.string (toBytes x))):=by
 have e:enc S (.sl .str) l=.sl (l.map (enc S .str)):=by unfold enc;rfl
 rw[e] at h
 generalize hm:l.map (enc S .str)=es at h
 cases h with
 |sl _ a cap sz val hcap hsz hby ha hc=>
  subst hm
  have hlen:(l.map (enc S .str)).length=l.length:=List.length_map _
  refine ⟨a,cap,by rw[hlen],by omega,λhl=>?_⟩
  obtain ⟨ad,rfl,hI,hcell⟩:=ha (by simpa using hl)
  have key:∀j x,l[j]?=some x->w.cell? (ad.add (j*sz))=some (.string (toBytes x)):=by
   intro j x hx
   have h1:(l.map (enc S .str))[j]?=some (.lit (.string (toBytes x))):=by rw[List.getElem?_map,hx];simp[enc]
   have h2:(D.lit (.string (toBytes x))).cells[0]?=some (D.lit (.string (toBytes x))):=rfl
   have h3:=hcell j 0 _ _ h1 h2
   have h4:=hc j 0 _ _ h1 h2
   generalize val j 0=q at h3 h4
   cases h4
   exact h3
  have hs1:sz=1:=by
   obtain ⟨x,r,rfl⟩:=List.exists_cons_of_ne_nil hl
   have:=hsz (enc S .str x) (by simp)
   simpa[enc,D.cells,eq_comm] using this
  subst hs1
  have hsp:ad.spot=none:=by
   obtain ⟨x,r,rfl⟩:=List.exists_cons_of_ne_nil hl
   have h0:=key 0 x rfl
   rw[show ad.add (0*1)=ad from rfl] at h0
   unfold World.cell? at h0
   cases hsp:ad.spot with
   |none=>rfl
   |some k=>rw[hsp] at h0;split at h0<;>simp at h0
  obtain ⟨b,o,sp⟩:=ad
  cases hsp
  refine ⟨b,o,rfl,hI,λj x hx=>?_⟩
  have:=key j x hx
  rw[Nat.mul_one] at this
  unfold Addr.add at this
  split at this
  .rename_i h0;subst h0;exact this
  .exact this
def joinF (x:List (List UInt8)×List UInt8×Unit):Option ((List UInt8×Unit)×Unit):=
 bif Nat.blt x.1.length 4294967296&&Nat.blt (Lib.join x.1 x.2.1).length 4294967296 then some ((Lib.join x.1 x.2.1,()),()) else none
theorem join_ok {P:Program} {ρ:Shelf.Ren} (L:Lays.n156 P ρ) (X:Builder.Extra P ρ):ConOk P (ρ.f 156) (⟨[.one (.dat (.sl .str)),.one (.dat .str)],[.dat .str],false,joinF⟩:Con S):=by
 refine conOk_hand (enters_body L.f156 (by kernel_rfl) rfl) rfl (λ_ _ _=>.one (.one .nil)) λx r hF I w vs hP hI _=>?_
 obtain ⟨l,sep,u⟩:=x
 obtain ⟨_,_,e1,d1,hP⟩:=prel_dat hP
 obtain ⟨_,_,e2,d2,hP⟩:=prel_dat hP
 have:=prel_nil hP
 subst this;subst e2;cases drel_s d2
 obtain ⟨a,cap,rfl,hcap,hl⟩:=drel_ss d1
 rw[arr2 e1]
 unfold joinF at hF
 dsimp only at hF
 cases hb:Nat.blt l.length 4294967296&&Nat.blt (Lib.join l sep).length 4294967296 with
 |false=>rw[hb] at hF;cases hF
 |true=>
  rw[hb] at hF
  cases hF
  simp only[Bool.and_eq_true,Nat.blt_eq] at hb
  obtain ⟨hb1,hb2⟩:=hb
  have hx:(l.map toBytes).map (λb:ByteArray=>b.data.toList)=l:=by simp[toBytes,Function.comp_def]
  cases hl0:l with
  |nil=>
   refine (Any.strings_Join_none L X a cap (toBytes sep) w).mono ?_
   rintro e w' ⟨rfl,rfl⟩
   exact handPost_same (vs:=[_]) hI (.dat (.lit _) .nil)
  |cons x t=>
   obtain ⟨b,o,rfl,hIb,hc⟩:=hl (by rw[hl0];exact List.cons_ne_nil _ _)
   rw[<-hl0]
   have hj:=Any.strings_Join L X b o cap (l.map toBytes) (toBytes sep) w (by
    intro j y hy
    rw[List.getElem?_map] at hy
    cases hlj:l[j]? with
    |none=>rw[hlj] at hy;cases hy
    |some z=>rw[hlj] at hy;cases hy;exact hc j z hlj) (hI b hIb) (by rw[List.length_map];omega) (by rw[List.length_map];exact hcap) (by rw[hx];show (Lib.join l sep).length<=_;omega)
   rw[List.length_map,hx] at hj
   refine hj.mono ?_
   rintro e w' ⟨rfl,hw⟩
   exact handPost_below (vs:=[_]) hI hw (.dat (.lit _) .nil)
end TL
end
section
namespace TL
open Go Go.Proofs Go.Shelf Go.RowKit
variable {P:Program} {ρ:Ren}
structure Kx (b:Nat) (row:Option Nat) (w w':World):Prop where
 os:w'.os=w.os
 output:w'.output=w.output
 size:w.heap.size<=w'.heap.size
 block:∀k,k<w.heap.size->k≠b->some k≠row->w'.heap[k]?=w.heap[k]?
theorem setCell_other (w:World) (b j:Nat) (v:Value) (k:Nat) (h:k≠b):(w.setCell ⟨b,j,none⟩ v).heap[k]?=w.heap[k]?:=by
 simp only[World.setCell,Array.getElem?_modify]
 rw[if_neg (λe=>h e.symm)]
theorem Kx.setCell {b:Nat} {row:Option Nat} {w w':World} (h:Kx b row w w') (j:Nat) (v:Value):Kx b row w (w'.setCell ⟨b,j,none⟩ v):=
 ⟨h.os,h.output,by simpa[World.setCell] using h.size,λk h1 h2 h3=>(setCell_other _ b j v k h2).trans (h.block k h1 h2 h3)⟩
theorem Kx.refl (b:Nat) (row:Option Nat) (w:World):Kx b row w w:=⟨rfl,rfl,Nat.le_refl _,λ_ _ _ _=>rfl⟩
theorem Kx.grown {b:Nat} {row:Option Nat} {w w' w'':World} (h:Kx b row w w') (g:w'.grownBy w'' row):Kx b row w w'':=
 ⟨g.os.trans h.os,g.output.trans h.output,Nat.le_trans h.size g.size,λk h1 h2 h3=>(g.block k (Nat.lt_of_lt_of_le h1 h.size) h3).trans (h.block k h1 h2 h3)⟩
theorem Kx.alloc {b:Nat} {row:Option Nat} {w w':World} (h:Kx b row w w') (o:Obj):Kx b row w (w'.alloc o):=
 ⟨h.os,h.output,by have:=h.size;simp;omega,λk h1 h2 h3=>by rw[Go.Lib.alloc_old w' _ k (Nat.lt_of_lt_of_le h1 h.size)];exact h.block k h1 h2 h3⟩
def RowAt (w:World) (v v':Value):Prop:=∀k,v'.ownBlock=some k->v.ownBlock=some k∨w.heap.size<=k
theorem app_at_string (w:World) (t u ty e:TypeId) (i:TypeInfo) (ht:P.underlying t=some (.slice e)) (hu:P.underlying u=some .string) (hi:P.info? e=some i) (hz:i.zero=some (.int .u8 0)) (hsize:i.size=1) (hby:i.bytes=1)
  (v:Value) (n:Nat) (xs:List Value) (hown:w.ownsRowF 0 e 1 v n xs) (s:ByteArray) (h63:n+s.size<=maxLen) (hbytes:n+s.size<=140737488355328) {v':Value} {w':World}
  (hr:(Builtin.append_ #[t,u] ty #[v,.string s]).run P w=.ok v' w'):RowAt w v v':=by
 rcases hown.2 with ⟨rfl,rfl⟩|⟨g,cap,cur,fz,rfl,hbg,hg,hfz,hnc,hcm,hcs,htake⟩
 .obtain ⟨v2,w2,h1,h2,_⟩:=Go.Lib.run_append_own_stringF (P:=P) w w.heap.size t u ty e i ht hu hi hz hsize hby (.slice none 0 0) 0 xs ⟨hown.1,.inl ⟨rfl,rfl⟩⟩ s h63 hbytes (Nat.le_refl _)
  rw[h1] at hr
  cases hr
  exact λk hk=>.inr (h2.lt k hk).1
 .have hsmall:n+s.size<=9223372036854775807:=by simp only[maxLen] at h63;omega
  have hxl:xs.length=n:=by simpa using hown.1
  by_cases hroom:n+s.size<=cap
  .have hcs':cur.size=cap:=by simpa using hcs
   have h1:=Go.Lib.run_append_room_stringF (P:=P) w t u ty e i ht hu hi hsize g n cap cur fz hg (by simpa using hfz) s hroom (by omega)
   rw[h1] at hr
   cases hr
   exact λk hk=>.inl hk
  .have holds:∀j u,xs[j]?=some u->w.cell? ((⟨g,0,none⟩:Addr).add j)=some u:=hown.cells (g:=g) rfl
   have h1:=Go.Lib.run_append_grow_string (P:=P) w t u ty e i (.int .u8 0) ht hu hi hz ⟨g,0,none⟩ n cap xs (by rw[hsize];simpa using hxl) holds s (by omega) (by omega) (by rw[hby];exact growslice_fits (by omega) (by omega))
   rw[h1] at hr
   cases hr
   intro k hk
   cases hk
   exact .inr (Nat.le_refl _)
theorem app_at (w:World) (t ty e:TypeId) (i:TypeInfo) (z:Value) (ht:P.underlying t=some (.slice e)) (hi:P.info? e=some i) (hz:i.zero=some z) (hsize:i.size=1) (hby:i.bytes=1) (hzs:z.cells.size=1)
  (v:Value) (n:Nat) (xs:List Value) (hown:w.ownsRowF 0 e 1 v n xs) (a:Addr) (m c:Nat) (news:List Value) (hl:news.length=m*1) (hnews:∀j u,news[j]?=some u->w.cell? (a.add j)=some u) (h1:∀u∈news,u.oneCell'=true)
  (h63:n+m<=maxLen) (hbytes:n+m<=140737488355328) {v':Value} {w':World}
  (hr:(Builtin.append_ #[t,t] ty #[v,.slice (some a) m c]).run P w=.ok v' w'):RowAt w v v':=by
 rcases hown.2 with ⟨rfl,rfl⟩|⟨g,cap,cur,fz,rfl,hbg,hg,hfz,hnc,hcm,hcs,htake⟩
 .obtain ⟨v2,w2,h1,h2,_⟩:=run_append_ownF (P:=P) w w.heap.size t ty e i z 1 1 ht hi hz hsize hby hzs (by decide) (.slice none 0 0) 0 xs ⟨hown.1,.inl ⟨rfl,rfl⟩⟩ a m c news hl hnews h1 h63 (by omega) (Nat.le_refl _)
  rw[h1] at hr
  cases hr
  exact λk hk=>.inr (h2.lt k hk).1
 .have hsmall:n+m<=9223372036854775807:=by simp only[maxLen] at h63;omega
  by_cases hroom:n+m<=cap
  .have h1:=run_append_roomF (P:=P) w t ty e i ht hi g n cap cur fz hg (by rw[hsize];exact hfz) a m c news (by rw[hsize];exact hl) hnews h1 hroom (by rw[hsize,hl,hcs];omega)
   rw[h1] at hr
   cases hr
   exact λk hk=>.inl hk
  .have holds:∀j u,xs[j]?=some u->w.cell? ((⟨g,0,none⟩:Addr).add j)=some u:=hown.cells (g:=g) rfl
   have h1:=run_append_grow (P:=P) w t ty e i z ht hi hz ⟨g,0,none⟩ n cap xs (by rw[hsize];exact hown.1) holds a m c news (by rw[hsize];exact hl) hnews (by omega) (by omega) (growslice_fits (by omega) (by rw[hby];omega))
   rw[h1] at hr
   cases hr
   intro k hk
   cases hk
   exact .inr (Nat.le_refl _)
theorem wp_app_string {ops:Array Oper} {rest:List Oper} {o:Oper} {a:Act} {w:World} {Q:Exit->Act->World->Prop} (hgd:o.guard=none) (sl x:Operand) (t u:TypeId)
  (ho:o.op=.call {callee:=.builtin .append,args:=#[sl,x],argTypes:=#[t,u]}) (e:TypeId) (i:TypeInfo) (ht:P.underlying t=some (.slice e)) (hu:P.underlying u=some .string) (hi:P.info? e=some i) (hz:i.zero=some (.int .u8 0))
  (hsize:i.size=1) (hby:i.bytes=1) (v:Value) (n:Nat) (xs:List Value) (hs:a.eval sl=v) (hown:w.ownsRowF 0 e 1 v n xs) (s:ByteArray) (hx:a.eval x=.string s)
  (h63:n+s.size<=maxLen) (hbytes:n+s.size<=140737488355328)
  (h:∀v' w',w'.ownsRowF 0 e 1 v' (n+s.size) (xs++Go.Lib.strCells s)->w.grownBy w' v.ownBlock->(v'=.slice none 0 0↔v=.slice none 0 0∧s.size=0)->RowAt w v v'->wpList P ops Q rest (a.put o.dst v') w'):wpList P ops Q (o ::rest) a w:=by
 refine wpList_plain hgd λK hK=>?_
 obtain ⟨v',w',hr,h2,h3,h4⟩:=Go.Lib.run_append_own_stringF (P:=P) w 0 t u o.type e i ht hu hi hz hsize hby v n xs hown s h63 hbytes (Nat.zero_le _)
 have h5:=app_at_string w t u o.type e i ht hu hi hz hsize hby v n xs hown s h63 hbytes hr
 unfold Oper.wp execOp
 simp only[ho,resolve,invoke,builtin,Sem.run_bind,Sem.run_pure,Result.andThen_ok,List.map_toArray,List.map_cons,List.map_nil,hs,hx,hr]
 exact hK _ _ (h v' w' h2 h3 h4 h5)
theorem wp_app {ops:Array Oper} {rest:List Oper} {o:Oper} {a:Act} {w:World} {Q:Exit->Act->World->Prop} (hgd:o.guard=none) (s x:Operand) (t:TypeId)
  (ho:o.op=.call {callee:=.builtin .append,args:=#[s,x],argTypes:=#[t,t]}) (e:TypeId) (i:TypeInfo) (z:Value) (ht:P.underlying t=some (.slice e)) (hi:P.info? e=some i) (hz:i.zero=some z)
  (hsize:i.size=1) (hby:i.bytes=1) (hzs:z.cells.size=1) (v:Value) (n:Nat) (xs:List Value) (hs:a.eval s=v) (hown:w.ownsRowF 0 e 1 v n xs)
  (ad:Addr) (m c:Nat) (news:List Value) (hx:a.eval x=.slice (some ad) m c) (hl:news.length=m*1) (hnews:∀j u,news[j]?=some u->w.cell? (ad.add j)=some u) (h1:∀u∈news,u.oneCell'=true)
  (h63:n+m<=maxLen) (hbytes:n+m<=140737488355328)
  (h:∀v' w',w'.ownsRowF 0 e 1 v' (n+m) (xs++news)->w.grownBy w' v.ownBlock->(v'=.slice none 0 0↔v=.slice none 0 0∧m=0)->RowAt w v v'->wpList P ops Q rest (a.put o.dst v') w'):wpList P ops Q (o ::rest) a w:=by
 refine wpList_plain hgd λK hK=>?_
 obtain ⟨v',w',hr,h2,h3,h4⟩:=run_append_ownF (P:=P) w 0 t o.type e i z 1 1 ht hi hz hsize hby hzs (by decide) v n xs hown ad m c news hl hnews h1 h63 (by omega) (Nat.zero_le _)
 have h5:=app_at w t o.type e i z ht hi hz hsize hby hzs v n xs hown ad m c news hl hnews h1 h63 hbytes hr
 unfold Oper.wp execOp
 simp only[ho,resolve,invoke,builtin,Sem.run_bind,Sem.run_pure,Result.andThen_ok,List.map_toArray,List.map_cons,List.map_nil,hs,hx,hr]
 exact hK _ _ (h v' w' h2 h3 h4 h5)
structure BldAt (T e:TypeId) (b:Nat) (v:Value) (bs:List Value) (w:World):Prop where
 blk:w.heap[b]?=some (.cells #[.pointer none,v] T (0,0))∨w.heap[b]?=some (.cells #[.pointer (some ⟨b,0,none⟩),v] T (0,0))
 own:w.ownsRowF 0 e 1 v bs.length bs
 ne:v.ownBlock≠some b
theorem BldAt.is {T e:TypeId} {b:Nat} {v:Value} {bs:List Value} {w:World} (h:BldAt T e b v bs w):Go.Lib.IsBuilderF T e 0 b bs w:=
 h.blk.imp (λk=>⟨Nat.zero_le _,v,k,h.own,h.ne⟩) (λk=>⟨Nat.zero_le _,v,k,h.own,h.ne⟩)
theorem check_x (L:Lays.n240 P ρ) (X:Builder.X72 P ρ) (b:Nat) (v:Value) (bs:List Value) (w:World) (h:BldAt (ρ.t 72) (ρ.t 5) b v bs w) :
  Calls P (ρ.f 240) #[.pointer (some ⟨b,0,none⟩)] w λe w'=>e=.returned (.tuple #[])∧w'.heap[b]?=some (.cells #[.pointer (some ⟨b,0,none⟩),v] (ρ.t 72) (0,0))∧w'.ownsRowF 0 (ρ.t 5) 1 v bs.length bs∧Kx b none w w':=by
 rcases h.is with k|k
 .rcases h.blk with hb|hb
  .refine (Any.Builder_copyCheck_fresh L X b w k.cell0 k.shape k.frozen0).mono ?_
   rintro e w' ⟨rfl,rfl⟩
   refine ⟨rfl,by simp[World.setCell,Array.getElem?_modify,hb],?_,(Kx.refl b none w).setCell 0 _⟩
   have:=k.used (.pointer (some ⟨b,0,none⟩))
   obtain ⟨_,v2,h2,h3,_⟩:=this
   simp[World.setCell,Array.getElem?_modify,hb] at h2
   subst h2
   exact h3
  .obtain ⟨_,v2,h2,_⟩:=k
   rw[hb] at h2
   cases h2
 .rcases h.blk with hb|hb
  .obtain ⟨_,v2,h2,_⟩:=k
   rw[hb] at h2
   cases h2
  .refine (Any.Builder_copyCheck_used L X b w k.cell0).mono ?_
   rintro e w' ⟨rfl,rfl⟩
   exact ⟨rfl,hb,h.own,Kx.refl _ _ _⟩
def WrPost (T e:TypeId) (b:Nat) (v:Value) (n:Nat) (bs':List Value) (w w':World):Prop:=
 ∃v',w'.heap[b]?=some (.cells #[.pointer (some ⟨b,0,none⟩),v'] T (0,0))∧w'.ownsRowF 0 e 1 v' bs'.length bs'∧(v'=.slice none 0 0↔v=.slice none 0 0∧n=0)∧RowAt w v v'∧v'.ownBlock≠some b∧Kx b v.ownBlock w w'
set_option maxHeartbeats 2000000 in
set_option maxRecDepth 100000 in
theorem writeString_x (L:Lays.n166 P ρ) (X:Builder.Extra P ρ) (b:Nat) (v:Value) (bs:List Value) (s:ByteArray) (w:World) (h:BldAt (ρ.t 72) (ρ.t 5) b v bs w) (hlen:bs.length+s.size<=140737488355328) :
  Calls P (ρ.f 166) #[.pointer (some ⟨b,0,none⟩),.string s] w λe w'=>e=.returned (.tuple #[.int .i64 s.size,.nilIface])∧WrPost (ρ.t 72) (ρ.t 5) b v s.size (bs++Go.Lib.strCells s) w w':=by
 obtain ⟨i0,hi,hz0,hz1,hz2⟩:=info_parts X.infoByte
 have mixed:=L.mixed
 have t72:=L.t72;have a72:=L.a72;have z72:=L.z72;have v72:=L.v72;have u72:=run_underlying L.t72
 have t70:=L.t70;have a70:=L.a70;have z70:=L.z70;have v70:=L.v70;have u70:=run_underlying L.t70
 have t37:=L.t37;have a37:=L.a37;have z37:=L.z37;have v37:=L.v37;have u37:=run_underlying L.t37
 have t3:=L.t3;have a3:=L.a3;have z3:=L.z3;have v3:=L.v3;have u3:=run_underlying L.t3
 have t9:=L.t9;have a9:=L.a9;have z9:=L.z9;have v9:=L.v9;have u9:=run_underlying L.t9
 have t4:=L.t4;have a4:=L.a4;have z4:=L.z4;have v4:=L.v4;have u4:=run_underlying L.t4
 have t164:=L.t164;have a164:=L.a164;have z164:=L.z164;have v164:=L.v164;have u164:=run_underlying L.t164
 have t5:=X.t5;have a5:=X.a5;have z5:=X.z5;have v5:=X.v5;have u5:=run_underlying X.t5
 have e240:∀args w,(callFunc (ρ.f 240) args).run P w=.ok (.enter (ρ.f 240) args) w:=enters_of L.f240 (by kernel_rfl) rfl
 have hne:=h.ne
 go_enter L.f166,Body.n166_ntmps ρ
 go_wp2_with (go_at_fn (ρ.f 240);refine (check_x {L with} X.toX72 b v bs _ h).mono ?_)
 rintro e w1 ⟨rfl,hbk,hown,hk1⟩
 have c0:w1.cell? ⟨b,0,none⟩=some (.pointer (some ⟨b,0,none⟩)):=by rw[Go.Lib.cell_of_heap hbk];rfl
 have c1:w1.cell? ⟨b,1,none⟩=some v:=by rw[Go.Lib.cell_of_heap hbk];rfl
 go_wp2_with (at_builtin;refine wp_app_string rfl _ _ (ρ.t 37) (ρ.t 9) rfl (ρ.t 5) i0 L.t37 L.t9 hi hz0 hz1 hz2 _ _ _ rfl hown s rfl ?c3 ?c4 ?_)
 case c3=>unfold maxLen;omega
 case c4=>omega
 intro v' w2 hown' hgrow hnil hrow
 have hlt:b<w1.heap.size:=by
  rcases Nat.lt_or_ge b w1.heap.size with h'|h'
  .exact h'
  .simp[Array.getElem?_eq_none h'] at hbk
 have hb2:w2.heap[b]?=some (.cells #[.pointer (some ⟨b,0,none⟩),v] (ρ.t 72) (0,0)):=by
  rw[hgrow.block b hlt (λe=>hne e.symm)]
  exact hbk
 have hne':v'.ownBlock≠some b:=λe=>by
  rcases hrow b e with k|k
  .exact hne k
  .omega
 have d0:w2.cell? ⟨b,0,none⟩=some (.pointer (some ⟨b,0,none⟩)):=by rw[Go.Lib.cell_of_heap hb2];rfl
 have d1:w2.cell? ⟨b,1,none⟩=some v:=by rw[Go.Lib.cell_of_heap hb2];rfl
 have f1:w2.frozen? ⟨b,1,none⟩=false:=Go.Lib.frozen_of_heap hb2 1
 obtain ⟨ao,n',cap,rfl⟩:∃ao n' cap,v'=.slice ao n' cap:=by
  rcases hown'.2 with ⟨hv,_⟩|⟨g,cap,cur,fz,hv,_⟩
  .exact ⟨_,_,_,hv⟩
  .exact ⟨_,_,_,hv⟩
 go_wp2
 go_ret2
 refine ⟨rfl,.slice ao n' cap,?_,?_,by simpa using hnil,?_,hne',?_⟩
 .simp[World.setCell,Array.getElem?_modify,hb2]
 .have hl:(bs++Go.Lib.strCells s).length=bs.length+s.size:=by simp[Go.Lib.strCells_length]
  rw[hl]
  refine hown'.kept (row:=some b) ⟨rfl,rfl,rfl,by simp[World.setCell],λk _ hk=>setCell_other _ b 1 _ k (λe=>hk (by rw[e]))⟩ (.inr hne')
 .intro k hk
  exact (hrow k hk).imp id λh=>Nat.le_trans hk1.size h
 .have h0:Kx b v.ownBlock w w1:=⟨hk1.os,hk1.output,hk1.size,λk h1 h2 _=>hk1.block k h1 h2 (by simp)⟩
  exact (h0.grown hgrow).setCell 1 _
set_option maxHeartbeats 2000000 in
set_option maxRecDepth 100000 in
theorem writeByte_x (L:Lays.n167 P ρ) (X:Builder.Extra P ρ) (b:Nat) (v:Value) (bs:List Value) (c:Int) (w:World) (h:BldAt (ρ.t 72) (ρ.t 5) b v bs w) (hlen:bs.length+1<=140737488355328) :
  Calls P (ρ.f 167) #[.pointer (some ⟨b,0,none⟩),.int .u8 c] w λe w'=>e=.returned .nilIface∧WrPost (ρ.t 72) (ρ.t 5) b v 1 (bs++[.int .u8 c]) w w':=by
 obtain ⟨i0,hi,hz0,hz1,hz2⟩:=info_parts X.infoByte
 have mixed:=L.mixed
 have t72:=L.t72;have a72:=L.a72;have z72:=L.z72;have v72:=L.v72;have u72:=run_underlying L.t72
 have t70:=L.t70;have a70:=L.a70;have z70:=L.z70;have v70:=L.v70;have u70:=run_underlying L.t70
 have t5:=L.t5;have a5:=L.a5;have z5:=L.z5;have v5:=L.v5;have u5:=run_underlying L.t5
 have t37:=L.t37;have a37:=L.a37;have z37:=L.z37;have v37:=L.v37;have u37:=run_underlying L.t37
 have t9:=L.t9;have a9:=L.a9;have z9:=L.z9;have v9:=L.v9;have u9:=run_underlying L.t9
 have t4:=L.t4;have a4:=L.a4;have z4:=L.z4;have v4:=L.v4;have u4:=run_underlying L.t4
 have t164:=L.t164;have a164:=L.a164;have z164:=L.z164;have v164:=L.v164;have u164:=run_underlying L.t164
 have e240:∀args w,(callFunc (ρ.f 240) args).run P w=.ok (.enter (ρ.f 240) args) w:=enters_of L.f240 (by kernel_rfl) rfl
 have hne:=h.ne
 go_enter L.f167,Body.n167_ntmps ρ
 go_wp2_with (go_at_fn (ρ.f 240);refine (check_x {L with} X.toX72 b v bs _ h).mono ?_)
 rintro e w1 ⟨rfl,hbk,hown,hk1⟩
 have c0:w1.cell? ⟨b,0,none⟩=some (.pointer (some ⟨b,0,none⟩)):=by rw[Go.Lib.cell_of_heap hbk];rfl
 have c1:w1.cell? ⟨b,1,none⟩=some v:=by rw[Go.Lib.cell_of_heap hbk];rfl
 go_wp2_with (at_builtin;refine wp_app rfl _ _ (ρ.t 37) rfl (ρ.t 5) i0 (.int .u8 0) L.t37 hi hz0 hz1 hz2 rfl _ _ _ rfl (hown.alloc _) ⟨w1.heap.size,0,none⟩ 1 1 [.int .u8 c] rfl rfl ?c1 ?c2 ?c3 ?c4 ?_)
 case c1=>
  intro j u hj
  match j,hj with
  |0,hj=>simp at hj;subst hj;simp[Addr.add]
 case c2=>intro u hu;simp at hu;subst hu;rfl
 case c3=>unfold maxLen;omega
 case c4=>omega
 intro v' w2 hown' hgrow hnil hrow
 have hlt:b<w1.heap.size:=by
  rcases Nat.lt_or_ge b w1.heap.size with h'|h'
  .exact h'
  .simp[Array.getElem?_eq_none h'] at hbk
 have hb2:w2.heap[b]?=some (.cells #[.pointer (some ⟨b,0,none⟩),v] (ρ.t 72) (0,0)):=by
  rw[hgrow.block b (by simp;omega) (λe=>hne e.symm),Go.Lib.alloc_old w1 _ b hlt]
  exact hbk
 have hne':v'.ownBlock≠some b:=λe=>by
  rcases hrow b e with k|k
  .exact hne k
  .simp at k;omega
 have d0:w2.cell? ⟨b,0,none⟩=some (.pointer (some ⟨b,0,none⟩)):=by rw[Go.Lib.cell_of_heap hb2];rfl
 have d1:w2.cell? ⟨b,1,none⟩=some v:=by rw[Go.Lib.cell_of_heap hb2];rfl
 have f1:w2.frozen? ⟨b,1,none⟩=false:=Go.Lib.frozen_of_heap hb2 1
 obtain ⟨ao,n',cap,rfl⟩:∃ao n' cap,v'=.slice ao n' cap:=by
  rcases hown'.2 with ⟨hv,_⟩|⟨g,cap,cur,fz,hv,_⟩
  .exact ⟨_,_,_,hv⟩
  .exact ⟨_,_,_,hv⟩
 go_wp2
 go_ret
 refine ⟨rfl,.slice ao n' cap,?_,?_,by simpa using hnil,?_,hne',?_⟩
 .simp[World.setCell,Array.getElem?_modify,hb2]
 .have hl:(bs++[Value.int .u8 c]).length=bs.length+1:=by simp
  rw[hl]
  refine hown'.kept (row:=some b) ⟨rfl,rfl,rfl,by simp[World.setCell],λk _ hk=>setCell_other _ b 1 _ k (λe=>hk (by rw[e]))⟩ (.inr hne')
 .intro k hk
  refine (hrow k hk).imp id λh=>?_
  have:=hk1.size
  simp at h
  omega
 .have h0:Kx b v.ownBlock w w1:=⟨hk1.os,hk1.output,hk1.size,λk h1 h2 _=>hk1.block k h1 h2 (by simp)⟩
  exact ((h0.alloc _).grown hgrow).setCell 1 _
def StrPost (T e:TypeId) (b:Nat) (v:Value) (bs:List Value) (w w':World):Prop:=BldAt T e b v bs w'∧Kx b v.ownBlock w w'
set_option maxHeartbeats 2000000 in
set_option maxRecDepth 100000 in
theorem string_x (L:Lays.n169 P ρ) (X:Builder.Extra P ρ) (b:Nat) (v:Value) (l:List UInt8) (w:World) (h:BldAt (ρ.t 72) (ρ.t 5) b v (Go.Lib.byteCells l) w) (h0:l≠[]) :
  Calls P (ρ.f 169) #[.pointer (some ⟨b,0,none⟩)] w λe w'=>e=.returned (.string ⟨l.toArray⟩)∧StrPost (ρ.t 72) (ρ.t 5) b v (Go.Lib.byteCells l) w w':=by
 obtain ⟨p,hbk,hp⟩:∃p,w.heap[b]?=some (.cells #[p,v] (ρ.t 72) (0,0))∧(p=.pointer none∨p=.pointer (some ⟨b,0,none⟩)):=by
  rcases h.blk with h|h
  .exact ⟨_,h,.inl rfl⟩
  .exact ⟨_,h,.inr rfl⟩
 have hown:=h.own
 have hne:=h.ne
 have hl0:l.length≠0:=by simpa using h0
 rw[Go.Lib.byteCells_length] at hown
 obtain ⟨g,cap,cur,fz,rfl,hbg,hg,hfz,hnc,hcm,hcs,htake⟩:∃g cap cur fz,v=.slice (some ⟨g,0,none⟩) l.length cap∧0<=g∧w.heap[g]?=some (.cells cur (ρ.t 5) fz)∧fz.2<=l.length*1∧l.length<=cap∧cap<=maxLen∧cur.size=cap*1∧cur.toList.take (l.length*1)=Go.Lib.byteCells l:=by
  rcases hown.2 with ⟨_,hz⟩|⟨g,cap,cur,fz,hv,r⟩
  .exact absurd hz hl0
  .exact ⟨g,cap,cur,fz,hv,r⟩
 have c1:w.drew.cell? ⟨b,1,none⟩=some (.slice (some ⟨g,0,none⟩) l.length cap):=by
  have:w.drew.heap[b]?=some (.cells #[p,.slice (some ⟨g,0,none⟩) l.length cap] (ρ.t 72) (0,0)):=hbk
  rw[Go.Lib.cell_of_heap this];rfl
 have hSD:(Builtin.unsafeSliceData_ #[(ρ.t 37)] (ρ.t 127) #[.slice (some ⟨g,0,none⟩) l.length cap]).run P w.drew=.ok (.pointer (some ⟨g,0,none⟩)) w.drew:=
  Go.Lib.run_unsafeSliceData_row _ _ _ _ _ _ (by omega)
 have hUS:(Builtin.unsafeString_ #[(ρ.t 127),(ρ.t 3)] (ρ.t 9) #[.pointer (some ⟨g,0,none⟩),.int .i64 l.length]).run P w.drew=.ok (.string ⟨l.toArray⟩) (w.drew.freeze ⟨g,0,none⟩ l.length):=by
  refine Go.Lib.run_unsafeString_row w.drew (ρ.t 127) (ρ.t 3) (ρ.t 9) (ρ.t 5) L.t127 X.cellsByte g cur.size (by have hg':w.drew.heap[g]?=some (.cells cur (ρ.t 5) fz):=hg;simp[World.shape?,hg']) l h0 (by omega) (by unfold maxLen at hcm;omega) ?_
  intro j x hx
  have:=hown.cells (g:=g) rfl j (.int .u8 x.toNat) (by simp[Go.Lib.byteCells,hx])
  exact this
 have hkx:Kx b (some g) w (w.drew.freeze ⟨g,0,none⟩ l.length):=by
  unfold World.freeze
  rw[if_neg hl0]
  refine ⟨rfl,rfl,Nat.le_of_eq (by rw[Array.size_modify];rfl),λk _ _ h3=>?_⟩
  simp only[Array.getElem?_modify]
  rw[if_neg (λe=>h3 (by rw[e]))]
  rfl
 have hgb:g≠b:=λe=>hne (by rw[e];rfl)
 have hkeep:BldAt (ρ.t 72) (ρ.t 5) b (.slice (some ⟨g,0,none⟩) l.length cap) (Go.Lib.byteCells l) (w.drew.freeze ⟨g,0,none⟩ l.length):=by
  have hA:Go.Lib.BuilderAtF (ρ.t 72) (ρ.t 5) 0 b p (Go.Lib.byteCells l) w.drew:=⟨Nat.zero_le _,_,hbk,by rw[Go.Lib.byteCells_length];exact hown,hne⟩
  have hF:=hA.froze (g:=g) (cap:=cap) (by rw[Go.Lib.byteCells_length];exact c1)
  rw[Go.Lib.byteCells_length] at hF
  obtain ⟨_,v2,h2,h3,h4⟩:=hF
  have hb':(w.drew.freeze ⟨g,0,none⟩ l.length).heap[b]?=some (.cells #[p,.slice (some ⟨g,0,none⟩) l.length cap] (ρ.t 72) (0,0)):=by
   unfold World.freeze
   rw[if_neg hl0]
   simp only[Array.getElem?_modify]
   rw[if_neg hgb]
   exact hbk
  rw[hb'] at h2
  cases h2
  refine ⟨?_,h3,h4⟩
  rcases hp with rfl|rfl
  .exact .inl hb'
  .exact .inr hb'
 have mixed:=L.mixed
 have t72:=L.t72;have a72:=L.a72;have z72:=L.z72;have v72:=L.v72;have u72:=run_underlying L.t72
 have t70:=L.t70;have a70:=L.a70;have z70:=L.z70;have v70:=L.v70;have u70:=run_underlying L.t70
 have t37:=L.t37;have a37:=L.a37;have z37:=L.z37;have v37:=L.v37;have u37:=run_underlying L.t37
 have t127:=L.t127;have a127:=L.a127;have z127:=L.z127;have v127:=L.v127;have u127:=run_underlying L.t127
 have t3:=L.t3;have a3:=L.a3;have z3:=L.z3;have v3:=L.v3;have u3:=run_underlying L.t3
 have t9:=L.t9;have a9:=L.a9;have z9:=L.z9;have v9:=L.v9;have u9:=run_underlying L.t9
 have t5:=X.t5;have a5:=X.a5;have z5:=X.z5;have v5:=X.v5;have u5:=run_underlying X.t5
 go_enter L.f169,Body.n169_ntmps ρ
 go_wp2
 go_region_o
 all_goals (go_wp2;go_ret;exact ⟨rfl,hkeep,hkx⟩)
set_option maxHeartbeats 2000000 in
set_option maxRecDepth 100000 in
theorem string_nil_x (L:Lays.n169 P ρ) (X:Builder.Extra P ρ) (b:Nat) (w:World) (h:BldAt (ρ.t 72) (ρ.t 5) b (.slice none 0 0) [] w) :
  Calls P (ρ.f 169) #[.pointer (some ⟨b,0,none⟩)] w λe w'=>e=.returned (.string ⟨#[]⟩)∧StrPost (ρ.t 72) (ρ.t 5) b (.slice none 0 0) [] w w':=by
 obtain ⟨p,hbk⟩:∃p,w.heap[b]?=some (.cells #[p,.slice none 0 0] (ρ.t 72) (0,0)):=by
  rcases h.blk with h|h
  .exact ⟨_,h⟩
  .exact ⟨_,h⟩
 have hk:StrPost (ρ.t 72) (ρ.t 5) b (.slice none 0 0) [] w w.drew:=⟨⟨h.blk,h.own,h.ne⟩,⟨rfl,rfl,Nat.le_refl _,λ_ _ _ _=>rfl⟩⟩
 have hUS:=Any.unsafeString_none L X
 have c1:w.drew.cell? ⟨b,1,none⟩=some (.slice none 0 0):=by
  have:w.drew.heap[b]?=some (.cells #[p,.slice none 0 0] (ρ.t 72) (0,0)):=hbk
  rw[Go.Lib.cell_of_heap this];rfl
 have hSD:(Builtin.unsafeSliceData_ #[(ρ.t 37)] (ρ.t 127) #[.slice none 0 0]).run P w.drew=.ok (.pointer none) w.drew:=rfl
 have mixed:=L.mixed
 have t72:=L.t72;have a72:=L.a72;have z72:=L.z72;have v72:=L.v72;have u72:=run_underlying L.t72
 have t70:=L.t70;have a70:=L.a70;have z70:=L.z70;have v70:=L.v70;have u70:=run_underlying L.t70
 have t37:=L.t37;have a37:=L.a37;have z37:=L.z37;have v37:=L.v37;have u37:=run_underlying L.t37
 have t127:=L.t127;have a127:=L.a127;have z127:=L.z127;have v127:=L.v127;have u127:=run_underlying L.t127
 have t3:=L.t3;have a3:=L.a3;have z3:=L.z3;have v3:=L.v3;have u3:=run_underlying L.t3
 have t9:=L.t9;have a9:=L.a9;have z9:=L.z9;have v9:=L.v9;have u9:=run_underlying L.t9
 have t5:=X.t5;have a5:=X.a5;have z5:=X.z5;have v5:=X.v5;have u5:=run_underlying X.t5
 go_enter L.f169,Body.n169_ntmps ρ
 go_wp2
 go_region_o
 all_goals (go_wp2;go_ret;exact ⟨rfl,hk⟩)
end TL
end
section
namespace TL
open Go Go.Proofs Go.Shelf
variable {S:Sg} {P:Program} {ρ:Ren}
theorem BufOk.bld {I:Nat->Prop} {w:World} {T e:TypeId} {l:List UInt8} {x:ASl} {b:Nat} {p:Value} (hx:BufOk I w e l x) (hp:p=.pointer none∨p=.pointer (some ⟨b,0,none⟩)) (hh:w.heap[b]?=some (.cells #[p,.slice x.a x.len x.cap] T (0,0))) (hb:¬x.at b) :
  BldAt T e b (.slice x.a x.len x.cap) (Go.Lib.byteCells l) w:=by
 refine ⟨?_,by rw[Go.Lib.byteCells_length];exact hx.2,λh=>?_⟩
 .rcases hp with rfl|rfl
  .exact .inl hh
  .exact .inr hh
 .rcases hx.1 with ⟨_,h4,_⟩|⟨_,r,h4,h5,_⟩
  .rw[h4] at h;cases h
  .rw[h4] at h
   exact hb ⟨_,h4,Option.some.inj h,h5⟩
theorem wr_left {I:Nat->Prop} {w w':World} {T e:TypeId} {l l':List UInt8} {x:ASl} {b n:Nat} (hI:∀b,I b->b<w.heap.size) (hx:BufOk I w e l x) (hl:l'=[]↔l=[]∧n=0) (h:WrPost T e b (.slice x.a x.len x.cap) n (Go.Lib.byteCells l') w w') :
  ∃y:ASl,w'.heap[b]?=some (.cells #[.pointer (some ⟨b,0,none⟩),.slice y.a y.len y.cap] T (0,0))∧BufOk I w' e l' y∧(∀b',y.at b'->x.at b'∨w.heap.size<=b')∧¬y.at b:=by
 obtain ⟨v',h1,h2,h3,h4,h5,_⟩:=h
 rw[Go.Lib.byteCells_length] at h2
 have hrow:∀g,(Value.slice x.a x.len x.cap).ownBlock=some g->x.at g:=λg hg=>by
  rcases hx.1 with ⟨_,h4,_⟩|⟨_,r,h4,h5,_⟩
  .rw[h4] at hg;cases hg
  .rw[h4] at hg
   exact ⟨_,h4,Option.some.inj hg,h5⟩
 by_cases he:l'=[]
 .have hl0:=hl.1 he
  have hv:Value.slice x.a x.len x.cap=.slice none 0 0:=by
   rcases hx.1 with ⟨_,a1,a2,a3⟩|⟨a1,_⟩
   .rw[a1,a2,a3]
   .exact absurd hl0.1 a1
  have:=h3.2 ⟨hv,hl0.2⟩
  subst this
  refine ⟨⟨none,0,0,1⟩,h1,⟨.inl ⟨he,rfl,rfl,rfl⟩,h2⟩,λb' hb'=>?_,λhb'=>?_⟩
  .obtain ⟨ad,k1,_⟩:=hb';cases k1
  .obtain ⟨ad,k1,_⟩:=hb';cases k1
 .have hlen:l'.length≠0:=λh=>he (List.eq_nil_of_length_eq_zero h)
  have h2':=h2
  rcases h2.2 with ⟨_,hz⟩|⟨g,cap,cur,fz,rfl,hg0,hg,hfz,hnc,_⟩
  .exact absurd hz hlen
  have hyat:∀b',(⟨some ⟨g,0,none⟩,l'.length,cap,1⟩:ASl).at b'->b'=g:=λb' hb'=>by
   obtain ⟨ad,k1,k2,_⟩:=hb'
   cases k1
   exact k2.symm
  refine ⟨⟨some ⟨g,0,none⟩,l'.length,cap,1⟩,h1,⟨.inr ⟨he,g,rfl,by show cap≠0;omega,λhi=>?_⟩,h2'⟩,λb' hb'=>?_,λhb'=>?_⟩
  .rcases h4 g rfl with k|k
   .exact (hx.at (hrow g k)).1 hi
   .have:=hI g hi;omega
  .rw[hyat b' hb']
   exact (h4 g rfl).imp (hrow g) id
  .rw[hyat b hb'] at h5
   exact h5 rfl
theorem wr_end {I:Nat->Prop} {w w':World} {T e:TypeId} {l l':List UInt8} {x:ASl} {b n:Nat} {ps:List Pk} {rs:List Ck} {r:cden S.A rs} {vs:List Value} {bb:bden S.A ps} (hps:∀(y:ASl) (hx':Obj),w'.heap[b]?=some hx'->KRel S I w' b none (.bld T e) l' hx' [y]->BRel S I w' ps bb [b] [y])
  (hI:∀b,I b->b<w.heap.size) (hb:¬I b) (hx:BufOk I w e l x) (hl:l'=[]↔l=[]∧n=0) (h:WrPost T e b (.slice x.a x.len x.cap) n (Go.Lib.byteCells l') w w') (hr:HRel S I w' rs r vs []) :
  EndPost S I w ps rs (r,bb) [x] [b] (valOf vs) w':=by
 let ⟨y,k1,k2,k3,k4⟩:=wr_left hI hx hl h
 have hbb:=hps y _ k1 (.bld (.inr rfl) k2)
 obtain ⟨v',_,_,_,_,_,kx⟩:=h
 refine ⟨I,vs,[y],[],λ_ h=>h,λ_ h=>.inl h,λb hb=>Nat.lt_of_lt_of_le (hI b hb) kx.size,kx.size,λk hk hkb hka=>kx.block k hk (by simpa using hkb) (λe=>?_),kx.os,kx.output,rfl,hbb,hr,by simp[Apart],λa ha b' hb'=>?_,λb' hb'=>?_⟩
 .refine hka x (by simp) ?_
  rcases hx.1 with ⟨_,h4,_⟩|⟨_,r,h4,h5,_⟩
  .rw[h4] at e;cases e
  .rw[h4] at e
   exact ⟨_,h4,(Option.some.inj e).symm,h5⟩
 .have:a=y:=by simpa using ha
  subst this
  exact (k3 b' hb').imp (λh=>⟨x,by simp,h⟩) id
 .have:b'=b:=by simpa using hb'
  subst this
  exact ⟨hb,λa ha=>by have:a=y:=(by simpa using ha);subst this;exact k4⟩
def wsF (k:Nat) (x:List UInt8×List UInt8×Unit):Option ((Int×S.A k×Unit)×List UInt8×Unit):=
 bif Nat.ble (x.1.length+x.2.1.length) 140737488355328 then some (((x.2.1.length:Nat),S.imk k (nilI (S.alts k)),()),(x.1++x.2.1,())) else none
theorem ws_ok (L:Lays.n166 P ρ) (X:Builder.Extra P ρ) (k:Nat) (hk:S.icell k (S.imk k (nilI (S.alts k)))=none) :
  ConOk P (ρ.f 166) (⟨[.box (.bld (ρ.t 72) (ρ.t 5)),.one (.dat .str)],[.dat (.int .i64),.dat (.ifc k)],false,wsF k⟩:Con S):=by
 refine ⟨enters_body L.f166 (by kernel_rfl) rfl,λx r hF I w vs al bl hP hI hgl hap hnd hbl=>?_⟩
 obtain ⟨l,s,u⟩:=x
 generalize hvs:vs.toList=vl at hP
 cases hP with
 | @box _ _ _ _ b _ vs' al1 al2 bl' hh h1 h2=>
 obtain ⟨rfl,rfl⟩:=datArgs rfl h2
 obtain ⟨_,_,e1,d1,h2⟩:=prel_dat h2
 have:=prel_nil h2
 subst this;subst e1;cases drel_s d1
 cases h1 with
 | @bld _ _ _ p x hp hx=>
 obtain ⟨hb1,hb2,hb3⟩:=hbl b (by simp)
 rw[arr2 hvs]
 unfold wsF at hF
 dsimp only at hF
 rcases cond_some hF with ⟨hc,hF⟩|⟨_,hF⟩
 rotate_left
 .cases hF
 cases hF
 have hlen:=Nat.le_of_ble_eq_true hc
 have hbx:¬x.at b:=hb3 x (by simp)
 refine (writeString_x L X b _ (Go.Lib.byteCells l) (toBytes s) w (hx.bld hp hh hbx) (by rw[Go.Lib.byteCells_length];exact hlen)).mono ?_
 rintro e w' ⟨rfl,hpost⟩
 have hcells:Go.Lib.byteCells l++Go.Lib.strCells (toBytes s)=Go.Lib.byteCells (l++s):=by rw[Go.Lib.byteCells_append];rfl
 rw[hcells] at hpost
 refine wr_end (S:=S) (l:=l) (l':=l++s) (vs:=[.int .i64 ((toBytes s).size:Nat),.nilIface]) (λy hx' k1 k2=>.box k1 k2 (.one .nil)) hI hb2 hx ?_ hpost (.dat ?_ (.dat ?_ .nil))
 .show l++s=[]↔l=[]∧s.length=0
  simp
 .exact .lit _
 .show DRel I w' (enc S (.ifc k) _) _
  rw[enc,hk]
  exact .lit _
def wbF (k:Nat) (x:List UInt8×Int×Unit):Option ((S.A k×Unit)×List UInt8×Unit):=
 bif Nat.ble (x.1.length+1) 140737488355328&&(decide (0<=x.2.1)&&decide (x.2.1<256)) then some ((S.imk k (nilI (S.alts k)),()),(x.1++[UInt8.ofNat x.2.1.toNat],())) else none
theorem wb_ok (L:Lays.n167 P ρ) (X:Builder.Extra P ρ) (k:Nat) (hk:S.icell k (S.imk k (nilI (S.alts k)))=none) :
  ConOk P (ρ.f 167) (⟨[.box (.bld (ρ.t 72) (ρ.t 5)),.one (.dat (.int .u8))],[.dat (.ifc k)],false,wbF k⟩:Con S):=by
 refine ⟨enters_body L.f167 (by kernel_rfl) rfl,λx r hF I w vs al bl hP hI hgl hap hnd hbl=>?_⟩
 obtain ⟨l,c,u⟩:=x
 generalize hvs:vs.toList=vl at hP
 cases hP with
 | @box _ _ _ _ b _ vs' al1 al2 bl' hh h1 h2=>
 obtain ⟨rfl,rfl⟩:=datArgs rfl h2
 obtain ⟨_,_,e1,d1,h2⟩:=prel_dat h2
 have:=prel_nil h2
 subst this;subst e1;cases drel_i d1
 cases h1 with
 | @bld _ _ _ p x hp hx=>
 obtain ⟨hb1,hb2,hb3⟩:=hbl b (by simp)
 rw[arr2 hvs]
 unfold wbF at hF
 dsimp only at hF
 rcases cond_some hF with ⟨hc,hF⟩|⟨_,hF⟩
 rotate_left
 .cases hF
 cases hF
 simp only[Bool.and_eq_true,decide_eq_true_eq] at hc
 have hlen:=Nat.le_of_ble_eq_true hc.1
 have hbx:¬x.at b:=hb3 x (by simp)
 refine (writeByte_x L X b _ (Go.Lib.byteCells l) c w (hx.bld hp hh hbx) (by rw[Go.Lib.byteCells_length];exact hlen)).mono ?_
 rintro e w' ⟨rfl,hpost⟩
 have hcells:Go.Lib.byteCells l++[.int .u8 c]=Go.Lib.byteCells (l++[UInt8.ofNat c.toNat]):=by
  rw[Go.Lib.byteCells_append]
  congr 1
  show _=[Value.int .u8 ((UInt8.ofNat c.toNat).toNat:Nat)]
  have:(UInt8.ofNat c.toNat).toNat=c.toNat:=by
   rw[UInt8.toNat_ofNat']
   omega
  rw[this,Int.toNat_of_nonneg hc.2.1]
 rw[hcells] at hpost
 refine wr_end (S:=S) (l:=l) (l':=l++[UInt8.ofNat c.toNat]) (vs:=[.nilIface]) (λy hx' k1 k2=>.box k1 k2 (.one .nil)) hI hb2 hx (by simp) hpost (.dat ?_ .nil)
 show DRel I w' (enc S (.ifc k) _) _
 rw[enc,hk]
 exact .lit _
def sbF (x:List UInt8×Unit):Option ((List UInt8×Unit)×List UInt8×Unit):=some ((x.1,()),(x.1,()))
theorem sb_ok (L:Lays.n169 P ρ) (X:Builder.Extra P ρ):ConOk P (ρ.f 169) (⟨[.box (.bld (ρ.t 72) (ρ.t 5))],[.dat .str],false,sbF⟩:Con S):=by
 refine ⟨enters_body L.f169 (by kernel_rfl) rfl,λx r hF I w vs al bl hP hI hgl hap hnd hbl=>?_⟩
 obtain ⟨l,u⟩:=x
 generalize hvs:vs.toList=vl at hP
 cases hP with
 | @box _ _ _ _ b _ vs' al1 al2 bl' hh h1 h2=>
 obtain ⟨rfl,rfl⟩:=datArgs rfl h2
 have:=prel_nil h2
 subst this
 cases h1 with
 | @bld _ _ _ p x hp hx=>
 obtain ⟨hb1,hb2,hb3⟩:=hbl b (by simp)
 rw[arr1 hvs]
 cases hF
 have hbx:¬x.at b:=hb3 x (by simp)
 have hba:=hx.bld hp hh hbx
 have key:Calls P (ρ.f 169) #[.pointer (some ⟨b,0,none⟩)] w λe w'=>e=.returned (.string ⟨l.toArray⟩)∧StrPost (ρ.t 72) (ρ.t 5) b (.slice x.a x.len x.cap) (Go.Lib.byteCells l) w w':=by
  by_cases h0:l=[]
  .subst h0
   rcases hx.1 with ⟨_,a1,a2,a3⟩|⟨a1,_⟩
   .rw[a1,a2,a3] at hba ⊢
    exact string_nil_x L X b w hba
   .exact absurd rfl a1
  .exact string_x L X b _ l w hba h0
 refine key.mono ?_
 rintro e w' ⟨rfl,hk,kx⟩
 obtain ⟨p',hp',hb'⟩:∃p',(p'=.pointer none∨p'=.pointer (some ⟨b,0,none⟩))∧w'.heap[b]?=some (.cells #[p',.slice x.a x.len x.cap] (ρ.t 72) (0,0)):=by
  rcases hk.blk with h|h
  .exact ⟨_,.inl rfl,h⟩
  .exact ⟨_,.inr rfl,h⟩
 have hx':BufOk I w' (ρ.t 5) l x:=⟨hx.1,by have:=hk.own;rwa [Go.Lib.byteCells_length] at this⟩
 refine ⟨I,[.string (toBytes l)],[x],[],λ_ h=>h,λ_ h=>.inl h,λb hb=>Nat.lt_of_lt_of_le (hI b hb) kx.size,kx.size,λk hk hkb hka=>kx.block k hk (by simpa using hkb) (λe=>?_),kx.os,kx.output,rfl,.box hb' (.bld hp' hx') .nil,.dat (.lit _) .nil,by simp[Apart],λa ha b' hb2'=>?_,λb' hb2'=>?_⟩
 .refine hka x (by simp) ?_
  rcases hx.1 with ⟨_,h4,_⟩|⟨_,r,h4,h5,_⟩
  .rw[h4] at e;cases e
  .rw[h4] at e
   exact ⟨_,h4,(Option.some.inj e).symm,h5⟩
 .have:a=x:=by simpa using ha
  subst this
  exact .inl ⟨a,by simp,hb2'⟩
 .have:b'=b:=by simpa using hb2'
  subst this
  exact ⟨hb2,λa ha=>by have:a=x:=(by simpa using ha);subst this;exact hbx⟩
end TL
end
section
namespace Go.Proofs
open Go.Shelf
def Tryz.lays169_ren:Go.Shelf.Ren:=⟨fun|169=>182|n=>n,fun|70=>197|9=>9|0=>0|72=>199|37=>71|127=>230|3=>3|5=>5|n=>n,fun|n=>n⟩
theorem Tryz.lays169:Go.Proofs.Lays.n169 Tryz.prog Tryz.lays169_ren:={
 mixed:=by kernel_rfl
 f169:=Tryz.func182.trans (congrArg some (by kernel_rfl))
 t0:=Tryz.underlying0
 a0:=Tryz.isAgg0
 z0:=Tryz.sizeOf0
 v0:=Tryz.zeroValue0
 t3:=Tryz.underlying3
 a3:=Tryz.isAgg3
 z3:=Tryz.sizeOf3
 v3:=Tryz.zeroValue3
 t9:=Tryz.underlying9
 a9:=Tryz.isAgg9
 z9:=Tryz.sizeOf9
 v9:=Tryz.zeroValue9
 t37:=Tryz.underlying71
 a37:=Tryz.isAgg71
 z37:=Tryz.sizeOf71
 v37:=Tryz.zeroValue71
 t70:=Tryz.underlying197
 a70:=Tryz.isAgg197
 z70:=Tryz.sizeOf197
 v70:=Tryz.zeroValue197
 t72:=Tryz.underlying199
 a72:=Tryz.isAgg199
 z72:=Tryz.sizeOf199
 v72:=Tryz.zeroValue199
 t127:=Tryz.underlying230
 a127:=Tryz.isAgg230
 z127:=Tryz.sizeOf230
 v127:=Tryz.zeroValue230}
theorem Tryz.Builder_Extra_169:Builder.Extra Tryz.prog Tryz.lays169_ren:={
 sizeBuilder:=by kernel_rfl
 liesBuilder:=by kernel_rfl
 t5:=Tryz.underlying5
 a5:=Tryz.isAgg5
 z5:=Tryz.sizeOf5
 v5:=Tryz.zeroValue5
 infoByte:=by kernel_rfl
 cellsByte:=by kernel_rfl
 sizeByte:=by kernel_rfl
 neB5:=by decide}
def Tryz.lays156_ren:Go.Shelf.Ren:=⟨fun|156=>107|165=>183|166=>181|169=>182|240=>235|241=>236|276=>272|277=>273|n=>n,fun|31=>140|9=>9|3=>3|4=>4|0=>0|20=>20|72=>199|76=>204|70=>197|37=>71|75=>202|127=>230|164=>259|5=>5|80=>144|n=>n,fun|n=>n⟩
theorem Tryz.lays156:Go.Proofs.Lays.n156 Tryz.prog Tryz.lays156_ren:={
 mixed:=by kernel_rfl
 f156:=Tryz.func107.trans (congrArg some (by kernel_rfl))
 f165:=Tryz.func183.trans (congrArg some (by kernel_rfl))
 f166:=Tryz.func181.trans (congrArg some (by kernel_rfl))
 f169:=Tryz.func182.trans (congrArg some (by kernel_rfl))
 f240:=Tryz.func235.trans (congrArg some (by kernel_rfl))
 f241:=Tryz.func236.trans (congrArg some (by kernel_rfl))
 f276:=Tryz.func272.trans (congrArg some (by kernel_rfl))
 f277:=Tryz.func273.trans (congrArg some (by kernel_rfl))
 t0:=Tryz.underlying0
 a0:=Tryz.isAgg0
 z0:=Tryz.sizeOf0
 v0:=Tryz.zeroValue0
 t3:=Tryz.underlying3
 a3:=Tryz.isAgg3
 z3:=Tryz.sizeOf3
 v3:=Tryz.zeroValue3
 t4:=Tryz.underlying4
 a4:=Tryz.isAgg4
 z4:=Tryz.sizeOf4
 v4:=Tryz.zeroValue4
 t9:=Tryz.underlying9
 a9:=Tryz.isAgg9
 z9:=Tryz.sizeOf9
 v9:=Tryz.zeroValue9
 t20:=Tryz.underlying20
 a20:=Tryz.isAgg20
 z20:=Tryz.sizeOf20
 v20:=Tryz.zeroValue20
 t31:=Tryz.underlying140
 a31:=Tryz.isAgg140
 z31:=Tryz.sizeOf140
 v31:=Tryz.zeroValue140
 t37:=Tryz.underlying71
 a37:=Tryz.isAgg71
 z37:=Tryz.sizeOf71
 v37:=Tryz.zeroValue71
 t70:=Tryz.underlying197
 a70:=Tryz.isAgg197
 z70:=Tryz.sizeOf197
 v70:=Tryz.zeroValue197
 t72:=Tryz.underlying199
 a72:=Tryz.isAgg199
 z72:=Tryz.sizeOf199
 v72:=Tryz.zeroValue199
 t75:=Tryz.underlying202
 a75:=Tryz.isAgg202
 z75:=Tryz.sizeOf202
 v75:=Tryz.zeroValue202
 t76:=Tryz.underlying204
 a76:=Tryz.isAgg204
 z76:=Tryz.sizeOf204
 v76:=Tryz.zeroValue204
 t127:=Tryz.underlying230
 a127:=Tryz.isAgg230
 z127:=Tryz.sizeOf230
 v127:=Tryz.zeroValue230
 t164:=Tryz.underlying259
 a164:=Tryz.isAgg259
 z164:=Tryz.sizeOf259
 v164:=Tryz.zeroValue259}
theorem Tryz.Builder_Extra_156:Builder.Extra Tryz.prog Tryz.lays156_ren:={
 sizeBuilder:=by kernel_rfl
 liesBuilder:=by kernel_rfl
 t5:=Tryz.underlying5
 a5:=Tryz.isAgg5
 z5:=Tryz.sizeOf5
 v5:=Tryz.zeroValue5
 infoByte:=by kernel_rfl
 cellsByte:=by kernel_rfl
 sizeByte:=by kernel_rfl
 neB5:=by decide}
def Tryz.lays171_ren:Go.Shelf.Ren:=⟨fun|171=>200|243=>261|246=>289|283=>299|284=>300|285=>301|286=>302|129=>308|317=>307|318=>309|319=>310|320=>311|337=>314|338=>315|n=>n,fun|3=>3|9=>9|2=>2|4=>4|171=>284|0=>0|53=>285|37=>71|5=>5|173=>288|212=>293|51=>193|20=>20|213=>294|46=>229|232=>298|233=>299|n=>n,fun|17=>1|18=>2|19=>3|n=>n⟩
theorem Tryz.lays171:Go.Proofs.Lays.n171 Tryz.prog Tryz.lays171_ren:={
 mixed:=by kernel_rfl
 f129:=Tryz.func308.trans (congrArg some (by kernel_rfl))
 f171:=Tryz.func200.trans (congrArg some (by kernel_rfl))
 f243:=Tryz.func261.trans (congrArg some (by kernel_rfl))
 f246:=Tryz.func289.trans (congrArg some (by kernel_rfl))
 f283:=Tryz.func299.trans (congrArg some (by kernel_rfl))
 f284:=Tryz.func300.trans (congrArg some (by kernel_rfl))
 f285:=Tryz.func301.trans (congrArg some (by kernel_rfl))
 f286:=Tryz.func302.trans (congrArg some (by kernel_rfl))
 f317:=Tryz.func307.trans (congrArg some (by kernel_rfl))
 f318:=Tryz.func309.trans (congrArg some (by kernel_rfl))
 f319:=Tryz.func310.trans (congrArg some (by kernel_rfl))
 f320:=Tryz.func311.trans (congrArg some (by kernel_rfl))
 f337:=Tryz.func314.trans (congrArg some (by kernel_rfl))
 f338:=Tryz.func315.trans (congrArg some (by kernel_rfl))
 t0:=Tryz.underlying0
 a0:=Tryz.isAgg0
 z0:=Tryz.sizeOf0
 v0:=Tryz.zeroValue0
 t2:=Tryz.underlying2
 a2:=Tryz.isAgg2
 z2:=Tryz.sizeOf2
 v2:=Tryz.zeroValue2
 t3:=Tryz.underlying3
 a3:=Tryz.isAgg3
 z3:=Tryz.sizeOf3
 v3:=Tryz.zeroValue3
 t4:=Tryz.underlying4
 a4:=Tryz.isAgg4
 z4:=Tryz.sizeOf4
 v4:=Tryz.zeroValue4
 t5:=Tryz.underlying5
 a5:=Tryz.isAgg5
 z5:=Tryz.sizeOf5
 v5:=Tryz.zeroValue5
 t9:=Tryz.underlying9
 a9:=Tryz.isAgg9
 z9:=Tryz.sizeOf9
 v9:=Tryz.zeroValue9
 t20:=Tryz.underlying20
 a20:=Tryz.isAgg20
 z20:=Tryz.sizeOf20
 v20:=Tryz.zeroValue20
 t37:=Tryz.underlying71
 a37:=Tryz.isAgg71
 z37:=Tryz.sizeOf71
 v37:=Tryz.zeroValue71
 t46:=Tryz.underlying229
 a46:=Tryz.isAgg229
 z46:=Tryz.sizeOf229
 v46:=Tryz.zeroValue229
 t51:=Tryz.underlying193
 a51:=Tryz.isAgg193
 z51:=Tryz.sizeOf193
 v51:=Tryz.zeroValue193
 t53:=Tryz.underlying285
 a53:=Tryz.isAgg285
 z53:=Tryz.sizeOf285
 v53:=Tryz.zeroValue285
 t171:=Tryz.underlying284
 a171:=Tryz.isAgg284
 z171:=Tryz.sizeOf284
 v171:=Tryz.zeroValue284
 t173:=Tryz.underlying288
 a173:=Tryz.isAgg288
 z173:=Tryz.sizeOf288
 v173:=Tryz.zeroValue288
 t212:=Tryz.underlying293
 a212:=Tryz.isAgg293
 z212:=Tryz.sizeOf293
 v212:=Tryz.zeroValue293
 t213:=Tryz.underlying294
 a213:=Tryz.isAgg294
 z213:=Tryz.sizeOf294
 t232:=Tryz.underlying298
 a232:=Tryz.isAgg298
 z232:=Tryz.sizeOf298
 v232:=Tryz.zeroValue298
 t233:=Tryz.underlying299
 a233:=Tryz.isAgg299
 z233:=Tryz.sizeOf299
 v233:=Tryz.zeroValue299
 g17:=by kernel_rfl
 g18:=by kernel_rfl
 g19:=by kernel_rfl}
def Tryz.lays138_ren:Go.Shelf.Ren:=⟨fun|138=>50|195=>100|218=>101|143=>102|219=>175|217=>231|225=>232|224=>233|267=>234|266=>270|314=>271|n=>n,fun|9=>9|3=>3|4=>4|5=>5|0=>0|46=>229|146=>194|51=>193|n=>n,fun|1=>0|n=>n⟩
theorem Tryz.lays138:Go.Proofs.Lays.n138 Tryz.prog Tryz.lays138_ren:={
 mixed:=by kernel_rfl
 f138:=Tryz.func50.trans (congrArg some (by kernel_rfl))
 f143:=Tryz.func102.trans (congrArg some (by kernel_rfl))
 f195:=Tryz.func100.trans (congrArg some (by kernel_rfl))
 f217:=Tryz.func231.trans (congrArg some (by kernel_rfl))
 f218:=Tryz.func101.trans (congrArg some (by kernel_rfl))
 f219:=Tryz.func175.trans (congrArg some (by kernel_rfl))
 f224:=Tryz.func233.trans (congrArg some (by kernel_rfl))
 f225:=Tryz.func232.trans (congrArg some (by kernel_rfl))
 f266:=Tryz.func270.trans (congrArg some (by kernel_rfl))
 f267:=Tryz.func234.trans (congrArg some (by kernel_rfl))
 f314:=Tryz.func271.trans (congrArg some (by kernel_rfl))
 t0:=Tryz.underlying0
 a0:=Tryz.isAgg0
 z0:=Tryz.sizeOf0
 v0:=Tryz.zeroValue0
 t3:=Tryz.underlying3
 a3:=Tryz.isAgg3
 z3:=Tryz.sizeOf3
 v3:=Tryz.zeroValue3
 t4:=Tryz.underlying4
 a4:=Tryz.isAgg4
 z4:=Tryz.sizeOf4
 v4:=Tryz.zeroValue4
 t5:=Tryz.underlying5
 a5:=Tryz.isAgg5
 z5:=Tryz.sizeOf5
 v5:=Tryz.zeroValue5
 t9:=Tryz.underlying9
 a9:=Tryz.isAgg9
 z9:=Tryz.sizeOf9
 v9:=Tryz.zeroValue9
 t46:=Tryz.underlying229
 a46:=Tryz.isAgg229
 z46:=Tryz.sizeOf229
 v46:=Tryz.zeroValue229
 t51:=Tryz.underlying193
 a51:=Tryz.isAgg193
 z51:=Tryz.sizeOf193
 v51:=Tryz.zeroValue193
 t146:=Tryz.underlying194
 a146:=Tryz.isAgg194
 z146:=Tryz.sizeOf194
 v146:=Tryz.zeroValue194
 g1:=by kernel_rfl}
def Tryz.lays148_ren:Go.Shelf.Ren:=⟨fun|148=>51|222=>103|223=>104|269=>176|n=>n,fun|9=>9|3=>3|4=>4|5=>5|146=>194|51=>193|46=>229|n=>n,fun|n=>n⟩
theorem Tryz.lays148:Go.Proofs.Lays.n148 Tryz.prog Tryz.lays148_ren:={
 mixed:=by kernel_rfl
 f148:=Tryz.func51.trans (congrArg some (by kernel_rfl))
 f222:=Tryz.func103.trans (congrArg some (by kernel_rfl))
 f223:=Tryz.func104.trans (congrArg some (by kernel_rfl))
 f269:=Tryz.func176.trans (congrArg some (by kernel_rfl))
 t3:=Tryz.underlying3
 a3:=Tryz.isAgg3
 z3:=Tryz.sizeOf3
 v3:=Tryz.zeroValue3
 t4:=Tryz.underlying4
 a4:=Tryz.isAgg4
 z4:=Tryz.sizeOf4
 v4:=Tryz.zeroValue4
 t5:=Tryz.underlying5
 a5:=Tryz.isAgg5
 z5:=Tryz.sizeOf5
 v5:=Tryz.zeroValue5
 t9:=Tryz.underlying9
 a9:=Tryz.isAgg9
 z9:=Tryz.sizeOf9
 v9:=Tryz.zeroValue9
 t46:=Tryz.underlying229
 a46:=Tryz.isAgg229
 z46:=Tryz.sizeOf229
 v46:=Tryz.zeroValue229
 t51:=Tryz.underlying193
 a51:=Tryz.isAgg193
 z51:=Tryz.sizeOf193
 v51:=Tryz.zeroValue193
 t146:=Tryz.underlying194
 a146:=Tryz.isAgg194
 z146:=Tryz.sizeOf194
 v146:=Tryz.zeroValue194}
end Go.Proofs
end
section
namespace TL
open Go Go.Proofs Go.RowKit
variable {S:Sg} {P:Program}
abbrev sB (l:List UInt8):Value:=.string ⟨l.toArray⟩
theorem run_ins {β:Type} {w:World} {kt:Ty} {R:β->Value->Prop} {d:TypeDesc} (hd:keyDesc kt d) {t kid e:TypeId} (ht:P.underlying t=some (.map kid e)) (hu:P.underlying kid=some d)
  (k:den S.A kt) {l:List (den S.A kt×β)} {b c:Nat} {ms:Array MapEntry} (h:w.heap[b]?=some (.map ms c)) (hr:MapR kt R l ms) (hno:ixL kt k l=none) (v:Value) :
  (Instr.mapUpdate t (.map (some b)) (keyVal kt k) v).run P w=.ok () {w with heap:=w.heap.setIfInBounds b (.map (ms.push ⟨keyVal kt k,v,c⟩) (c+1))}:=by
 let ⟨hl,hk⟩:=hr
 have hf:=run_findKey (P:=P) hd hu k (l:=l) (es:=ms.toList) (by grind) (λj p m h1 h2=>(hk j p m h1 (by simpa using h2)).1) w
 rw[hno] at hf
 simp[Instr.mapUpdate,Sem.run_bind,run_underlying' ht,Result.andThen_ok,run_getMap h,run_checkKey hd hu,hf,Option.bind_none,run_setMap _ h]
theorem alloc_set (w:World) (o o':Obj):({w.alloc o with heap:=(w.alloc o).heap.setIfInBounds w.heap.size o'}:World)=w.alloc o':=by
 have:(w.heap.push o).setIfInBounds w.heap.size o'=w.heap.push o':=by
  apply Array.toList_inj.1
  simp
 show ({w.alloc o with heap:=(w.heap.push o).setIfInBounds w.heap.size o'}:World)=_
 rw[this]
 rfl
theorem ins_s (w:World) {t kid e:TypeId} (ht:P.underlying t=some (.map kid e)) (hu:P.underlying kid=some .string) (s:List UInt8) (v:Value):(Instr.mapUpdate t (.map (some w.heap.size)) (sB s) v).run P (w.alloc (.map #[] 0))=.ok () (w.alloc (.map #[⟨sB s,v,0⟩] 1)):=by
 have:=run_ins (P:=P) (S:=⟨λ_=>Unit,λ_=>[],λ_=>(),λ_ _=>(),λ_ _=>(),λ_ _=>[],λ_=>[],λ_ _=>(),λ_ _=>(),λ_ _=>none,.bool⟩) (β:=Unit) (kt:=.str) (R:=λ_ _=>True) (d:=.string) rfl ht hu s (l:=[]) (ms:=#[]) (c:=0) (alloc_new w (.map #[] 0)) ⟨rfl,by simp⟩ rfl v
 rw[alloc_set] at this
 exact this
theorem ins_s2 (w:World) {t kid e:TypeId} (ht:P.underlying t=some (.map kid e)) (hu:P.underlying kid=some .string) (s s1:List UInt8) (v v1:Value) (h:(s==s1)=false):(Instr.mapUpdate t (.map (some w.heap.size)) (sB s) v).run P (w.alloc (.map #[⟨sB s1,v1,0⟩] 1))=.ok () (w.alloc (.map #[⟨sB s1,v1,0⟩,⟨sB s,v,1⟩] 2)):=by
 have:=run_ins (P:=P) (S:=⟨λ_=>Unit,λ_=>[],λ_=>(),λ_ _=>(),λ_ _=>(),λ_ _=>[],λ_=>[],λ_ _=>(),λ_ _=>(),λ_ _=>none,.bool⟩) (β:=Unit) (kt:=.str) (R:=λ_ _=>True) (d:=.string) rfl ht hu s (l:=[(s1,())]) (ms:=#[⟨sB s1,v1,0⟩]) (c:=1) (alloc_new w (.map #[⟨sB s1,v1,0⟩] 1)) ⟨rfl,λj p m h1 h2=>by
  match j with
  |0=>simp at h1 h2;subst h1;subst h2;exact ⟨rfl,trivial⟩
  |j+1=>simp at h1⟩ (by simp[ixL,keq,seqL,h]) v
 rw[alloc_set] at this
 exact this
set_option maxRecDepth 100000 in
theorem bin1 (w:World):Calls Tryz.prog 277 #[.int .i64 1] w λe w'=>e=.returned (.map (some w.heap.size))∧w'=w.alloc (.map #[⟨sB [60],.int .i64 12,0⟩,⟨sB [61,61],.int .i64 13,1⟩] 2):=by
 have hmm:=@run_makeMap Tryz.prog
 have h1:=ins_s w Tryz.underlying265 Tryz.underlying9 [60] (.int .i64 12)
 have h2:=ins_s2 w Tryz.underlying265 Tryz.underlying9 [61,61] [60] (.int .i64 13) (.int .i64 12) (by decide)
 go_enter Tryz.func277,Tryz.ntmps277
 go_wp2
 go_ret
 exact ⟨rfl,rfl⟩
set_option maxRecDepth 100000 in
theorem bin2 (w:World):Calls Tryz.prog 277 #[.int .i64 2] w λe w'=>e=.returned (.map (some w.heap.size))∧w'=w.alloc (.map #[⟨sB [43],.int .i64 9,0⟩,⟨sB [45],.int .i64 10,1⟩] 2):=by
 have hmm:=@run_makeMap Tryz.prog
 have h1:=ins_s w Tryz.underlying265 Tryz.underlying9 [43] (.int .i64 9)
 have h2:=ins_s2 w Tryz.underlying265 Tryz.underlying9 [45] [43] (.int .i64 10) (.int .i64 9) (by decide)
 go_enter Tryz.func277,Tryz.ntmps277
 go_wp2
 go_ret
 exact ⟨rfl,rfl⟩
set_option maxRecDepth 100000 in
theorem bin3 (w:World):Calls Tryz.prog 277 #[.int .i64 3] w λe w'=>e=.returned (.map (some w.heap.size))∧w'=w.alloc (.map #[⟨sB [42],.int .i64 11,0⟩] 1):=by
 have hmm:=@run_makeMap Tryz.prog
 have h1:=ins_s w Tryz.underlying265 Tryz.underlying9 [42] (.int .i64 11)
 go_enter Tryz.func277,Tryz.ntmps277
 go_wp2
 go_ret
 exact ⟨rfl,rfl⟩
abbrev OpT:=Int×(List UInt8×Int)
def opE (lv:Int) (e:MapEntry):OpT:=((match e.val with|.int _ n=>n|_=>0),((match e.key with|.string b=>b.data.toList|_=>[]),lv))
def lvl:Nat->List OpT
 |0=>[(12,([60],1)),(13,([61,61],1))]
 |1=>[(9,([43],2)),(10,([45],2))]
 |2=>[(11,([42],3))]
 |_=>[]
def lvls:Nat->List OpT
 |0=>[]
 |k+1=>lvl k++lvls k
structure BsOk (k:Nat) (bs:Array MapEntry) (c:Nat):Prop where
 old:∀x∈bs.toList,x.born<c
 nd:(bs.toList.map (·.born)).Nodup
 val:∀x∈bs.toList,∃s n,x.key=sB s∧x.val=.int .i64 n
 eq:bs.toList.map (opE (k+1))=lvl k
theorem bin (k:Nat) (hk:k<3):∃bs c,BsOk k bs c∧∀w,Calls Tryz.prog 277 #[.int .i64 (k+1)] w λe w'=>e=.returned (.map (some w.heap.size))∧w'=w.alloc (.map bs c):=by
 match k,hk with
 |0,_=>exact ⟨_,_,⟨by simp,by simp,by simp,rfl⟩,bin1⟩
 |1,_=>exact ⟨_,_,⟨by simp,by simp,by simp,rfl⟩,bin2⟩
 |2,_=>exact ⟨_,_,⟨by simp,by simp,by simp,rfl⟩,bin3⟩
theorem left_step (L:List MapEntry) (hn:(L.map (·.born)).Nodup) (e:MapEntry) (he:e∈L):L.Perm (e ::L.filter λx=>!(x.born==e.born)):=by
 induction L with
 |nil=>cases he
 |cons x L ih=>
  have hn':=List.nodup_cons.1 hn
  by_cases hx:x.born=e.born
  .have hxe:x=e:=by
    rcases List.mem_cons.1 he with h|h
    .exact h.symm
    .exact absurd (List.mem_map.2 ⟨e,h,hx.symm⟩) hn'.1
   subst hxe
   have hf:(x ::L).filter (λy=>!(y.born==x.born))=L:=by
    rw[List.filter_cons_of_neg (by simp)]
    exact List.filter_eq_self.2 λy hy=>by
     have:y.born≠x.born:=λh=>hn'.1 (List.mem_map.2 ⟨y,hy,h⟩)
     simp[this]
   rw[hf]
  .rcases List.mem_cons.1 he with rfl|h
   .exact absurd rfl hx
   .rw[List.filter_cons_of_pos (by simp[hx])]
    exact ((ih hn'.2 h).cons x).trans (.swap _ _ _)
theorem left_push (bs:Array MapEntry) (seen:Array Nat) (e:MapEntry):(leftOf bs (seen.push e.born)).toList=(leftOf bs seen).toList.filter λx=>!(x.born==e.born):=by
 unfold leftOf
 simp only[Array.toList_filter,List.filter_filter]
 congr 1
 funext x
 rw[contains_push]
 cases h1:seen.contains x.born<;>cases h2:x.born==e.born<;>rfl
end TL
end
section
namespace TL
open Go Go.Proofs Go.RowKit
variable {S:Sg}
def OpV (x:List UInt8×Int) (v:Value):Prop:=v=.agg #[sB x.1,.int .i64 x.2]
theorem ixL_no {A:Nat->Type} {β:Type} (n:Int):∀{l:List (Int×β)},(∀p∈l,p.1≠n)->ixL (A:=A) (.int .i64) n l=none
 |[],_=>rfl
 |p ::l,h=>by
  have h1:(n==p.1)=false:=by
   have:=h p List.mem_cons_self
   simp[Ne.symm this]
  show (bif keq (A:=A) (.int .i64) n p.1 then some 0 else (ixL (A:=A) (.int .i64) n l).map Nat.succ)=none
  rw[show keq (A:=A) (.int .i64) n p.1=(n==p.1) from rfl,h1,ixL_no n λq hq=>h q (List.mem_cons_of_mem _ hq)]
  rfl
theorem lvls_nd (k:Nat) (hk:k<3):((lvls (k+1)).map (·.1)).Nodup:=by
 match k,hk with
 |0,_=>decide
 |1,_=>decide
 |2,_=>decide
theorem left_perm (bs:Array MapEntry) (hn:(bs.toList.map (·.born)).Nodup) (seen:Array Nat) (e:MapEntry) (he:e∈(leftOf bs seen).toList):(leftOf bs seen).toList.Perm (e ::(leftOf bs (seen.push e.born)).toList):=by
 rw[left_push]
 refine left_step _ ?_ e he
 unfold leftOf
 rw[Array.toList_filter]
 exact hn.sublist (List.filter_sublist.map _)
def rgLeft (w:World) (b r:Nat):Nat:=match w.heap[b]?,w.heap[r]? with
 |some (.map es _),some (.mapIter _ _ seen _)=>(leftOf es seen).size
 |_,_=>0
set_option maxRecDepth 100000 in
theorem ops_calls (w:World):Calls Tryz.prog 242 #[] w λe w'=>e=.returned (.map (some w.heap.size))∧(∃es n l,w'.heap[w.heap.size]?=some (.map es n)∧MapR (S:=S) (.int .i64) OpV l es∧l.Perm (lvls 3))∧Below w.heap.size w w':=by
 have hmm:=@run_makeMap Tryz.prog
 go_enter Tryz.func242,Tryz.ntmps242
 go_wp2
 go_loopw [2] (λv wr=>∃(k:Nat) (es:Array MapEntry) (n:Nat) (l:List OpT),k<=3∧v=.int .i64 (k+1)∧wr.heap[w.heap.size]?=some (.map es n)∧MapR (S:=S) (.int .i64) OpV l es∧l.Perm (lvls k)∧Below w.heap.size w wr)
  (λv wr=>4-(intOf v).toNat)
 case atStart=>exact ⟨0,#[],0,[],by omega,rfl,alloc_new _ _,⟨rfl,by simp⟩,.refl _,(Below.refl _ _).alloc (Nat.le_refl _) _⟩
 case round=>
  obtain ⟨k,es,n,l,hk,rfl,hM,hR,hP,hB⟩:=hrel
  by_cases hk3:k=3
  .subst hk3
   go_wp2
   go_ret
   exact ⟨rfl,⟨es,n,l,hM,hR,hP⟩,hB⟩
  .obtain ⟨wo,rfl⟩:∃x,x=wr:=⟨_,rfl⟩
   obtain ⟨bs,c,hbs,hbin⟩:=bin k (by omega)
   have hsz:w.heap.size<wo.heap.size:=(Array.getElem?_eq_some_iff.1 hM).1
   have hrg:=run_range_map (P:=Tryz.prog) (wo.alloc (.map bs c)) 265 9 31 wo.heap.size bs c Tryz.underlying265 (alloc_new _ _)
   go_wp2_with (go_at_call 277;refine (hbin _).mono ?_;rintro e w1 ⟨rfl,rfl⟩)
   have e1:(wo.alloc (.map bs c)).heap.size=wo.heap.size+1:=by simp
   rw[e1] at hrg
   go_wp2
   have hB1:Below w.heap.size w ((wo.alloc (.map bs c)).alloc (.mapIter (some wo.heap.size) c #[] c)):=(hB.alloc (by omega) _).alloc (by simp;omega) _
   go_loopw [3] (λv wr2=>∃(seen:Array Nat) (c0:Nat) (es2:Array MapEntry) (n2:Nat) (l2:List OpT),c<=c0∧wr2.heap[wo.heap.size+1]?=some (.mapIter (some wo.heap.size) c seen c0)∧wr2.heap[wo.heap.size]?=some (.map bs c)∧
     wr2.heap[w.heap.size]?=some (.map es2 n2)∧MapR (S:=S) (.int .i64) OpV l2 es2∧((leftOf bs seen).toList.map (opE (k+1))++l2).Perm (lvls (k+1))∧Below w.heap.size w wr2)
    (λv wr2=>rgLeft wr2 wo.heap.size (wo.heap.size+1))
   case atStart=>
    refine ⟨#[],c,es,n,l,Nat.le_refl _,by rw[<-e1];exact alloc_new _ _,?_,?_,hR,?_,hB1⟩
    .rw[alloc_old _ _ _ (by simp)];exact alloc_new _ _
    .rw[alloc_old _ _ _ (by simp;omega),alloc_old _ _ _ hsz];exact hM
    .have:(leftOf bs #[]).toList=bs.toList:=by
      unfold leftOf
      rw[Array.filter_eq_self.2 (by simp)]
     rw[this,hbs.eq]
     exact hP.append_left _
   case round=>
    obtain ⟨seen,c0,es2,n2,l2,hc0,hI,hb,hM2,hR2,hP2,hB2⟩:=hrel
    rcases run_next_at (P:=Tryz.prog) wr 0 (wo.heap.size+1) wo.heap.size c c0 seen bs c hI hb hbs.old hc0 with ⟨h0,hrun⟩|⟨e,he,w1,hal,hrun⟩
    .have hnx:∀ty,(Instr.next (.pointer (some ⟨wo.heap.size+1,0,none⟩)) false ty).run Tryz.prog wr=_:=λ_=>hrun
     go_wp2
     go_roundw
     case rel=>
      refine ⟨k+1,es2,n2,l2,by omega,?_,hM2,hR2,?_,hB2⟩
      .show Value.int .i64 _=Value.int .i64 _
       congr 1
      .have hz:(leftOf bs seen).toList=[]:=by
        have:(leftOf bs seen).toList.length=0:=by simpa using h0
        exact List.eq_nil_of_length_eq_zero this
       rw[hz] at hP2
       simpa using hP2
     case measure=>
      simp[intOf]
      omega
    .obtain ⟨hem,hes⟩:=mem_left he
     obtain ⟨sk,nv,hkey,hval⟩:=hbs.val e hem
     rw[hkey,hval] at hrun
     have hrlt:wo.heap.size+1<w1.heap.size:=by
      have:w1.heap=wr.heap:=by rcases hal with rfl|rfl<;>rfl
      rw[this];exact (Array.getElem?_eq_some_iff.1 hI).1
     have hw1:∀j:Nat,w1.heap[j]?=wr.heap[j]?:=λj=>by rcases hal with rfl|rfl<;>rfl
     generalize hW:ChangeMaps.setBlock w1 (wo.heap.size+1) (.mapIter (some wo.heap.size) c (seen.push e.born) c)=W2 at hrun
     have hW2:∀j:Nat,W2.heap[j]?=if j=wo.heap.size+1 then some (.mapIter (some wo.heap.size) c (seen.push e.born) c) else wr.heap[j]?:=λj=>by
      rw[<-hW,<-hw1]
      simp only[ChangeMaps.setBlock,Array.getElem?_setIfInBounds]
      split
      .rename_i h;subst h;simp
      .rename_i h;rw[if_neg (λe=>h e.symm)]
     have hI2:W2.heap[wo.heap.size+1]?=some (.mapIter (some wo.heap.size) c (seen.push e.born) c):=by rw[hW2,if_pos rfl]
     have hb2:W2.heap[wo.heap.size]?=some (.map bs c):=by rw[hW2,if_neg (by omega)];exact hb
     have hM3:W2.heap[w.heap.size]?=some (.map es2 n2):=by rw[hW2,if_neg (by omega)];exact hM2
     have hen:=run_entry_at (P:=Tryz.prog) W2 (wo.heap.size+1) wo.heap.size c seen bs c e hI2 hb2 hem hbs.nd
     rw[hkey,hval] at hen
     have hlp:=left_perm bs hbs.nd seen e he
     have hoe:opE (k+1) e=(nv,(sk,(k+1:Int))):=by unfold opE;rw[hkey,hval]
     have hP3:(((leftOf bs (seen.push e.born)).toList.map (opE (k+1)))++(l2++[(nv,(sk,(k+1:Int)))])).Perm (lvls (k+1)):=by
      refine List.Perm.trans ?_ hP2
      have h1:=(hlp.map (opE (k+1))).append_right l2
      rw[List.map_cons,hoe] at h1
      refine List.Perm.trans ?_ h1.symm
      rw[<-List.append_assoc]
      exact List.perm_append_comm
     have hnd:((((leftOf bs (seen.push e.born)).toList.map (opE (k+1)))++(l2++[(nv,(sk,(k+1:Int)))])).map (·.1)).Nodup:=((hP3.map (·.1)).nodup_iff).2 (lvls_nd k (by omega))
     have hix:ixL (A:=S.A) (.int .i64) nv l2=none:=ixL_no nv λp hp he=>by
      rw[List.map_append,List.nodup_append] at hnd
      have h2:=hnd.2.1
      rw[List.map_append,List.nodup_append] at h2
      exact h2.2.2 p.1 (List.mem_map_of_mem hp) nv (by simp) he
     have hup:=run_ins (P:=Tryz.prog) (S:=S) (kt:=.int .i64) (d:=.int .i64) rfl Tryz.underlying244 Tryz.underlying31 nv hM3 hR2 hix (.agg #[sB sk,.int .i64 (k+1)])
     have hMlt:w.heap.size<W2.heap.size:=(Array.getElem?_eq_some_iff.1 hM3).1
     have hB3:Below w.heap.size w {W2 with heap:=W2.heap.setIfInBounds w.heap.size (.map (es2.push ⟨.int .i64 nv,.agg #[sB sk,.int .i64 (k+1)],n2⟩) (n2+1))}:=by
      refine ⟨?_,?_,?_,?_,λj hj=>?_⟩
      .rw[<-hW];rcases hal with rfl|rfl<;>exact hB2.os
      .rw[<-hW];rcases hal with rfl|rfl<;>exact hB2.tape
      .rw[<-hW];rcases hal with rfl|rfl<;>exact hB2.output
      .rw[<-hW];rcases hal with rfl|rfl<;>simpa[ChangeMaps.setBlock] using hB2.size
      .simp only[Array.getElem?_setIfInBounds]
       rw[if_neg (by omega),hW2,if_neg (by omega)]
       exact hB2.block j hj
     generalize hW3:({W2 with heap:=W2.heap.setIfInBounds w.heap.size (.map (es2.push ⟨keyVal (.int .i64) nv,.agg #[sB sk,.int .i64 (k+1)],n2⟩) (n2+1))}:World)=W3 at hup
     have hB4:Below w.heap.size w W3:=by rw[<-hW3];exact hB3
     have hW4:∀j:Nat,W3.heap[j]?=if j=w.heap.size then some (.map (es2.push ⟨.int .i64 nv,.agg #[sB sk,.int .i64 (k+1)],n2⟩) (n2+1)) else W2.heap[j]?:=λj=>by
      rw[<-hW3]
      simp only[Array.getElem?_setIfInBounds]
      split
      .rename_i h;subst h;rw[if_pos rfl];first|rfl|(rw[if_pos hMlt];rfl)
      .rename_i h;rw[if_neg (λe=>h e.symm)]
     have hup':(Instr.mapUpdate 244 (.map (some w.heap.size)) (.int .i64 nv) (.agg #[sB sk,.int .i64 (k+1)])).run Tryz.prog W2=.ok () W3:=hup
     have hnx:∀ty,(Instr.next (.pointer (some ⟨wo.heap.size+1,0,none⟩)) false ty).run Tryz.prog wr=_:=λ_=>hrun
     go_wp2
     go_roundw
     case rel=>
      refine ⟨seen.push e.born,c,_,_,l2++[(nv,(sk,(k+1:Int)))],Nat.le_refl _,by rw[hW4,if_neg (by omega)];exact hI2,by rw[hW4,if_neg (by omega)];exact hb2,by rw[hW4,if_pos rfl],?_,hP3,hB4⟩
      refine ⟨by simp[hR2.1],λj p m h1 h2=>?_⟩
      rcases Nat.lt_trichotomy j l2.length with hj|hj|hj
      .rw[List.getElem?_append_left hj] at h1
       rw[Array.getElem?_push,if_neg (by have:=hR2.1;omega)] at h2
       exact hR2.2 j p m h1 h2
      .subst hj
       rw[List.getElem?_append_right (Nat.le_refl _)] at h1
       rw[hR2.1,Array.getElem?_push,if_pos rfl] at h2
       simp at h1
       cases h2
       subst h1
       exact ⟨rfl,rfl⟩
      .rw[List.getElem?_append_right (by omega)] at h1
       have:j-l2.length≠0:=by omega
       obtain ⟨q,hq⟩:=Nat.exists_eq_succ_of_ne_zero this
       rw[hq] at h1
       simp at h1
     case measure=>
      have h1:rgLeft W3 wo.heap.size (wo.heap.size+1)=(leftOf bs (seen.push e.born)).size:=by
       unfold rgLeft
       rw[hW4,if_neg (by omega),hW4,if_neg (by omega),hb2,hI2]
      have h2:rgLeft wr wo.heap.size (wo.heap.size+1)=(leftOf bs seen).size:=by
       unfold rgLeft
       rw[hb,hI]
      rw[h1,h2]
      exact left_shrinks bs seen e he
end TL
end
section
namespace Mn
open Go TL Go.Proofs Go.Shelf
set_option maxRecDepth 100000
theorem H50:ConOk prog 50 (⟨[.one (.dat .str),.one (.dat .str)],[.dat (.int .i64)],false,countF⟩:Con sg):=count_ok Tryz.lays138
theorem H51:ConOk prog 51 (⟨[.one (.dat .str),.one (.dat .str)],[.dat (.int .i64)],false,lastF⟩:Con sg):=last_ok Tryz.lays148
theorem H200:ConOk prog 200 (⟨[.one (.dat (.int .i64))],[.dat .str],false,itoaF⟩:Con sg):=itoa_ok Tryz.lays171
theorem H107:ConOk prog 107 (⟨[.one (.dat (.sl .str)),.one (.dat .str)],[.dat .str],false,joinF⟩:Con sg):=join_ok Tryz.lays156 Tryz.Builder_Extra_156
theorem H181:ConOk prog 181 (⟨[.box (.bld 199 5),.one (.dat .str)],[.dat (.int .i64),.dat (.ifc 21)],false,wsF 21⟩:Con sg):=ws_ok (ρ:=Tryz.lays156_ren) {Tryz.lays156 with} Tryz.Builder_Extra_156 21 (by kernel_rfl)
theorem H182:ConOk prog 182 (⟨[.box (.bld 199 5)],[.dat .str],false,sbF⟩:Con sg):=sb_ok (ρ:=Tryz.lays156_ren) {Tryz.lays156 with} Tryz.Builder_Extra_156
def renB:Ren:={Tryz.lays156_ren with f:=λx=>match x with|167=>180|x=>Tryz.lays156_ren.f x}
theorem lays167:Lays.n167 prog renB:={Tryz.lays156 with f167:=by kernel_rfl,f240:=by kernel_rfl,f276:=by kernel_rfl,t5:=Tryz.underlying5,a5:=Tryz.isAgg5,z5:=Tryz.sizeOf5,v5:=Tryz.zeroValue5}
theorem extraB:Builder.Extra prog renB:={Tryz.Builder_Extra_156 with}
theorem H180:ConOk prog 180 (⟨[.box (.bld 199 5),.one (.dat (.int .u8))],[.dat (.ifc 21)],false,wbF 21⟩:Con sg):=wb_ok (ρ:=renB) lays167 extraB 21 (by kernel_rfl)
def opsL:List (Int×OperationRead):=[(11,⟨[42],3⟩),(9,⟨[43],2⟩),(10,⟨[45],2⟩),(12,⟨[60],1⟩),(13,⟨[61,61],1⟩)]
theorem H242:ConOk prog 242 (⟨[],[.dat (.mp (.int .i64) (.st 19))],false,λ_=>some ((opsL,()),())⟩:Con sg):=by
 refine conOk_hand (enters_body (fn:=Tryz.f242) Tryz.func242 (by kernel_rfl) (by kernel_rfl)) rfl (λ_ _ _=>.nil) λx r hF I w vs hP hI _=>?_
 cases hF
 have hv:vs=#[]:=by
  have:=prel_nil hP
  exact Array.toList_inj.1 (by simpa using this)
 subst hv
 refine (ops_calls (S:=sg) w).mono ?_
 rintro e w' ⟨rfl,⟨es,n,l,hM,hR,hP⟩,hB⟩
 refine ⟨[_],λb=>I b∨b=w.heap.size,rfl,.dat ?_ .nil,λ_ h=>.inl h,λb h=>h.imp id λh=>by omega,λb h=>?_,hB.size,λb h=>hB.block b h,hB.os,hB.output⟩
 .show DRel _ w' (enc sg (.mp (.int .i64) (.st 19)) opsL) _
  have hl:w.heap.size<w'.heap.size:=(Array.getElem?_eq_some_iff.1 hM).1
  let toO:OpT->Int×OperationRead:=λp=>(p.1,⟨p.2.1,p.2.2⟩)
  have hO:opsL.Perm (l.map toO):=by
   refine List.Perm.trans ?_ (hP.map toO).symm
   exact List.Perm.refl _
  have henc:enc sg (.mp (.int .i64) (.st 19)) opsL=.mp (opsL.map λp=>enc sg (.int .i64) p.1) (opsL.map λp=>enc sg (.st 19) p.2):=by kernel_rfl
  rw[henc]
  refine .mpp _ _ ((l.map toO).map λp=>enc sg (.int .i64) p.1) ((l.map toO).map λp=>enc sg (.st 19) p.2) _ ?_ (by simp) (by simp) ?_ ?_
  .rw[List.zip_map',List.zip_map']
   exact hO.map _
  .simp only[opsL,List.map_cons,List.map_nil,enc]
   simp
  .refine .mp _ _ _ es n (.inr rfl) hM (by simp[hR.1]) (by simp[hR.1]) (λj c m h1 h2=>?_) (λj c m h1 h2=>?_)
   .simp only[List.getElem?_map,Option.map_eq_some_iff] at h1
    obtain ⟨q,⟨p,hp,rfl⟩,rfl⟩:=h1
    rw[(hR.2 j p m hp h2).1]
    exact .lit _
   .simp only[List.getElem?_map,Option.map_eq_some_iff] at h1
    obtain ⟨q,⟨p,hp,rfl⟩,rfl⟩:=h1
    have:=(hR.2 j p m hp h2).2
    unfold OpV at this
    rw[this]
    refine .agg _ _ rfl (λc hc=>?_) λq c v h3 h4=>?_
    .simp only[sg,cellsS,cOperationRead,List.mem_cons,List.mem_nil_iff,or_false] at hc
     rcases hc with rfl|rfl<;>rfl
    .match q with
     |0=>cases h3;cases h4;exact .lit _
     |1=>cases h3;cases h4;exact .lit _
     |q+2=>cases h3
 .rcases h with h|rfl
  .exact Nat.lt_of_lt_of_le (hI b h) hB.size
  .exact (Array.getElem?_eq_some_iff.1 hM).1
end Mn
end
section
namespace Mn
open Go TL
set_option maxRecDepth 100000
noncomputable def conR:List (FuncId×Con sg):=[(50,⟨[.one (.dat .str),.one (.dat .str)],[.dat (.int .i64)],false,countF⟩),(51,⟨[.one (.dat .str),.one (.dat .str)],[.dat (.int .i64)],false,lastF⟩),
 (200,⟨[.one (.dat (.int .i64))],[.dat .str],false,itoaF⟩),(107,⟨[.one (.dat (.sl .str)),.one (.dat .str)],[.dat .str],false,joinF⟩),
 (181,⟨[.box (.bld 199 5),.one (.dat .str)],[.dat (.int .i64),.dat (.ifc 21)],false,wsF 21⟩),(182,⟨[.box (.bld 199 5)],[.dat .str],false,sbF⟩),(180,⟨[.box (.bld 199 5),.one (.dat (.int .u8))],[.dat (.ifc 21)],false,wbF 21⟩),
 (242,⟨[],[.dat (.mp (.int .i64) (.st 19))],false,λ_=>some ((opsL,()),())⟩)]
theorem conR_ok:OkL prog conR:=⟨H50,H51,H200,H107,H181,H182,H180,H242,trivial⟩
def shP (_ b:Nat):Option LSh:=bif Nat.blt b 500000 then some ⟨[],[],[],1000,[]⟩ else none
noncomputable def txt (f:Nat) (ps:List Pk) (rs:List Ck) (x:pden sg.A ps):=evFun (⟨envT,tabC conR,shP,false,λ_ _=>none⟩:EnvV sg) 1001 100 f ps rs x
end Mn
end
section
namespace Mn
open Go TL
set_option maxRecDepth 100000
set_option maxHeartbeats 0
mutual
def eqT:Term->Term->Bool
 |⟨o,n,t,k,p⟩,⟨o',n',t',k',p'⟩=>o==o'&&(n==n'&&(t==t'&&(eqTs k k'&&(isE p&&isE p'))))
def eqTs:List Term->List Term->Bool
 |[],[]=>true
 |a ::l,b ::m=>eqT a b&&eqTs l m
 |_,_=>false
end
mutual
def eqY:TermType->TermType->Bool
 |⟨o,n,t,k⟩,⟨o',n',t',k'⟩=>o==o'&&(n==n'&&(t==t'&&eqYs k k'))
def eqYs:List TermType->List TermType->Bool
 |[],[]=>true
 |a ::l,b ::m=>eqY a b&&eqYs l m
 |_,_=>false
end
theorem isE_nil {α:Type}:∀{l:List α},isE l=true->l=[]
 |[],_=>rfl
 |_ ::_,h=>by cases h
mutual
theorem eqT_ok:∀a b,eqT a b=true->a=b
 |⟨o,n,t,k,p⟩,⟨o',n',t',k',p'⟩,h=>by
  simp only[eqT,Bool.and_eq_true,beq_iff_eq] at h
  obtain ⟨h1,h2,h3,h4,h5,h6⟩:=h
  rw[h1,h2,h3,eqTs_ok k k' h4,isE_nil h5,isE_nil h6]
theorem eqTs_ok:∀a b,eqTs a b=true->a=b
 |[],[],_=>rfl
 |a ::l,b ::m,h=>by
  simp only[eqTs,Bool.and_eq_true] at h
  rw[eqT_ok a b h.1,eqTs_ok l m h.2]
 |[],_ ::_,h=>by simp[eqTs] at h
 |_ ::_,[],h=>by simp[eqTs] at h
end
mutual
theorem eqY_ok:∀a b,eqY a b=true->a=b
 |⟨o,n,t,k⟩,⟨o',n',t',k'⟩,h=>by
  simp only[eqY,Bool.and_eq_true,beq_iff_eq] at h
  obtain ⟨h1,h2,h3,h4⟩:=h
  rw[h1,h2,h3,eqYs_ok k k' h4]
theorem eqYs_ok:∀a b,eqYs a b=true->a=b
 |[],[],_=>rfl
 |a ::l,b ::m,h=>by
  simp only[eqYs,Bool.and_eq_true] at h
  rw[eqY_ok a b h.1,eqYs_ok l m h.2]
 |[],_ ::_,h=>by simp[eqYs] at h
 |_ ::_,[],h=>by simp[eqYs] at h
end
def isTm (t:Term) (e:Int):Option ((Term×Int×Unit)×Unit)->Bool
 |some ((x,n,_),_)=>eqT x t&&n==e
 |none=>false
def isTy (t:TermType) (e:Int):Option ((TermType×Int×Unit)×Unit)->Bool
 |some ((x,n,_),_)=>eqY x t&&n==e
 |none=>false
def isSt2 (t:List UInt8) (e:Int):Option ((List UInt8×Int×Unit)×Unit)->Bool
 |some ((x,n,_),_)=>x==t&&n==e
 |none=>false
def isI2 (t:Int) (e:Int):Option ((Int×Int×Unit)×Unit)->Bool
 |some ((x,n,_),_)=>x==t&&n==e
 |none=>false
def isI3 (t u:Int) (e:Int):Option ((Int×Int×Int×Unit)×Unit)->Bool
 |some ((x,y,n,_),_)=>x==t&&(y==u&&n==e)
 |none=>false
theorem isTm_ok {t e}:∀{r},isTm t e r=true->r=some ((t,e,()),())
 |some ((x,n,_),_),h=>by simp only[isTm,Bool.and_eq_true,beq_iff_eq] at h;rw[eqT_ok x t h.1,h.2]
 |none,h=>by cases h
theorem isTy_ok {t e}:∀{r},isTy t e r=true->r=some ((t,e,()),())
 |some ((x,n,_),_),h=>by simp only[isTy,Bool.and_eq_true,beq_iff_eq] at h;rw[eqY_ok x t h.1,h.2]
 |none,h=>by cases h
theorem isSt2_ok {t e}:∀{r},isSt2 t e r=true->r=some ((t,e,()),())
 |some ((x,n,_),_),h=>by simp only[isSt2,Bool.and_eq_true,beq_iff_eq] at h;rw[h.1,h.2]
 |none,h=>by cases h
theorem isI2_ok {t e}:∀{r},isI2 t e r=true->r=some ((t,e,()),())
 |some ((x,n,_),_),h=>by simp only[isI2,Bool.and_eq_true,beq_iff_eq] at h;rw[h.1,h.2]
 |none,h=>by cases h
theorem isI3_ok {t u e}:∀{r},isI3 t u e r=true->r=some ((t,u,e,()),())
 |some ((x,y,n,_),_),h=>by simp only[isI3,Bool.and_eq_true,beq_iff_eq] at h;rw[h.1,h.2.1,h.2.2]
 |none,h=>by cases h
def s1:List UInt8:=[102,32,40,76,101,97,102,41,32,40,102,117,110,32,120,32,61,62,32,120,32,43,32,126,49,32,42,32,50,41]
def s2:List UInt8:=[102,117,110,32,120,32,61,62,32,41]
def s3:List UInt8:=[97,32,98,10,49,50,32,126,48]
def s4:List UInt8:=[109,111,100,117,108,101,32,109,32,123,32,102,117,110,32,102,40,120,32,58,32,105,110,116,41,32,58,32,105,110,116,32,61,32,120,32,43,32,59,32,125]
def s5:List UInt8:=[40,105,110,116,32,45,62,32,98,111,111,108,41,32,45,62,32,99,101,108,108,32,40,116,97,115,107,32,117,110,105,116,41]
def s6:List UInt8:=[40,105,110,116,32,45,62,32,98,111,111,108,41,32,45,62,32,99,101,108,108,32,116,97,115,107,32,117,110,105,116]
def t1:Term:=⟨6,0,[],[⟨6,0,[],[⟨4,0,[102],[],[]⟩,⟨14,0,[76,101,97,102],[],[]⟩],[]⟩,⟨5,0,[120],[⟨9,0,[],[⟨4,0,[120],[],[]⟩,⟨11,0,[],[⟨1,-1,[],[],[]⟩,⟨1,2,[],[],[]⟩],[]⟩],[]⟩],[]⟩],[]⟩
def t0:Term:=⟨0,0,[],[],[]⟩
def y1:TermType:=⟨4,0,[],[⟨4,0,[],[⟨1,0,[],[]⟩,⟨2,0,[],[]⟩]⟩,⟨5,0,[],[⟨7,0,[],[⟨3,0,[],[]⟩]⟩]⟩]⟩
end Mn
end
