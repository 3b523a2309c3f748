import Derived.Test.YtbaeajgfnoplaaaGreatDoorB2
import Derived.Laws.OwnMore
section
namespace TL
open Go
variable {S:Sg}
theorem toDs_append (s:St):∀(l m:List T) {p q:Prop} {ds es:List D} {os ps:List Nat},toDs s l=some (p,ds,os)->toDs s m=some (q,es,ps)->∃r,toDs s (l++m)=some (r,ds++es,os++ps)∧(p->q->r)
 |[],m,p,q,ds,es,os,ps,h,h'=>by
  simp only[toDs,Option.some.injEq,Prod.mk.injEq] at h
  grind
 |t ::l,m,p,q,ds,es,os,ps,h,h'=>by
  simp[toDs] at h
  split at h
  .rename_i p1 d os1 p2 ds2 os2 h1 h2
   obtain ⟨rfl,rfl,rfl⟩:=h
   let ⟨r,hr,hrr⟩:=toDs_append s l m h2 h'
   exact ⟨p1∧r,by grind[toDs],λhp hq=>⟨hp.1,hrr hp.2 hq⟩⟩
  .cases h
theorem encH_leafTys (hS:SgOk S):∀(t:Ty) (h:hden S.A (S.leafTys t)),(enc S t (ofLeaves t h)).cells=encH S (S.leafTys t) h
 | .st n,h=>(hS.cells n (S.mkS n h)).trans (congrArg _ (hS.get_mk n h))
 | .int _,_=>rfl
 | .bool,_=>rfl
 | .str,_=>rfl
 | .sl _,_=>rfl
 | .ifc _,h=>by rw[show (enc S (.ifc _) (ofLeaves _ h)).cells=[enc S (.ifc _) (ofLeaves _ h)] from ifD_cells _];rfl
 | .opt _,_=>(ptD_leaf _).2.2.1
 | .mp _ _,_=>rfl
theorem storeV_low (hS:SgOk S) {i:TI} {s s':StV S} {a x v:V S} {c:Bool} (h:storeV i s a x=some (c,v,s')) (hc:c=true) :
  ∃p,storeT i (lowSt s) (low a) (low x)=some (p,low v,lowSt s')∧p:=by
 unfold storeV at h
 split at h
 .cases h
 .rename_i l hl
  let ⟨p,hcl,hp⟩:=cellsV_low hS hl
  have hlen:lenL (lows l)=lenL l:=by rw[lenL_eq,lows_len,<-lenL_eq]
  split at h
  .rename_i o off
   split at h
   .rename_i cs ho
    rcases cond_some h with ⟨hb,h9⟩|⟨_,h9⟩
    .clear h
     simp only[Bool.and_eq_true] at hb
     obtain ⟨_,rfl,rfl⟩:=h9
     have hlen':lenL (lows cs)=lenL cs:=by rw[lenL_eq,lows_len,<-lenL_eq]
     have hb':(Nat.ble (lowSt s).fl o&&Nat.ble (Nat.add off (lenL l)) (lenL (lows cs)))=true:=by
      rw[hlen',Bool.and_eq_true]
      exact ⟨hb.1,hb.2.1⟩
     refine ⟨p∧leaves (lows l),?_,hp,leafsV_low hb.2.2⟩
     simp only[storeT,hcl,low,lowSt_get,ho,Option.map_some,lowOb,hb',cond_true,lowSt_set,lows_append,lows_take,lows_drop,hlen]
     rfl
    .cases h9
   .cases h
  .rename_i o e k off
   split at h
   .rename_i t _ _ _
    split at h
    .rename_i h0 os hos
     split at h
     .rename_i s1 hs1
      split at h
      .rename_i t2 es era ho
       split at h
       .rename_i h2 os2 hh2
        rcases cond_some h with ⟨hb,h9⟩|⟨_,h9⟩
        .clear h
         simp only[Bool.and_eq_true] at hb
         let ⟨hb1,hb2,hb3,hb4,hb5⟩:=hb
         obtain ⟨rfl,rfl,rfl⟩:=h9
         let ⟨q,hd,hq⟩:=toTys_low hS s _ l hos
         have hf:=freezeV_low hS os hs1
         have hk:=inbN_iff hc
         have hel:=el_map (enc S t2) es k (S.zero t2) hk
         let ⟨q2,hd2,_⟩:=toTys_low hS s _ _ hh2
         have hle:off+lenL l<=S.width t2:=Nat.le_of_ble_eq_true hb3
         have h1l:1<=lenL l:=Nat.le_of_ble_eq_true hb4
         generalize hds:encH S (List.take (lenL l) (List.drop off (S.leafTys t))) h0=ds at hd
         have hdl:ds.length=lenL l:=by
          have:∀(s:St) (l:List T) {p:Prop} {ds:List D} {os:List Nat},toDs s l=some (p,ds,os)->ds.length=l.length:=by
           intro s l
           induction l with
           |nil=>intro p ds os h;obtain ⟨_,rfl,_⟩:=h;rfl
           |cons t l ih=>
            intro p ds os h
            simp[toDs] at h
            split at h
            .rename_i h1 h2
             obtain ⟨_,rfl,_⟩:=h
             simp[ih h2]
            .cases h
          rw[this _ _ hd,lows_len,lenL_eq]
         have hnew:encH S (S.leafTys t2) h2=(enc S t2 (elL es k (S.zero t2))).cells.take off++ds++(enc S t2 (elL es k (S.zero t2))).cells.drop (Nat.add off (lenL l)):=by
          rw[lows_append,lows_append,lows_take,lows_drop,leavesOf_low hS,<-List.map_take,<-List.map_drop] at hd2
          let ⟨r1,e1,_⟩:=toDs_syms (lowSt s) ((enc S t2 (elL es k (S.zero t2))).cells.take off)
          let ⟨r2,e2,_⟩:=toDs_syms (lowSt s) ((enc S t2 (elL es k (S.zero t2))).cells.drop (Nat.add off (lenL l)))
          let ⟨r3,e3,_⟩:=toDs_append _ _ _ e1 hd
          let ⟨r4,e4,_⟩:=toDs_append _ _ _ e3 e2
          rw[e4] at hd2
          simp only[Option.some.injEq,Prod.mk.injEq] at hd2
          exact hd2.2.1.symm
         have hupd:D.upd (enc S t2 (elL es k (S.zero t2))) off ds=enc S t2 (ofLeaves t2 h2):=by
          have hc2:=encH_leafTys hS t2 h2
          rw[hnew] at hc2
          cases t2 with
          |st n=>
           simp only[enc,D.cells] at hc2
           simp only[enc,D.upd,hdl]
           rw[hc2]
           rfl
          |ifc n=>
           simp[Sg.width] at hle
           have hoff:off=0:=by omega
           have hl1:lenL l=1:=by omega
           rw[hl1] at hdl
           obtain ⟨d1,rfl⟩:=List.length_eq_one_iff.1 hdl
           subst hoff
           have hcx:∀y:S.A n,(enc S (.ifc n) y).cells=[enc S (.ifc n) y]:=λy=>ifD_cells _
           rw[hcx,hcx] at hc2
           simp[List.take_zero,List.nil_append,hl1,List.drop_succ_cons,List.drop_nil,List.append_nil,List.cons.injEq,and_true] at hc2
           have hux:∀y:S.A n,D.upd (enc S (.ifc n) y) 0 [d1]=d1:=λy=>by
            show D.upd (ifD (S.icell n y)) 0 [d1]=d1
            cases S.icell n y<;>rfl
           rw[hux]
           exact hc2.symm
          |opt n=>
           simp only[Sg.width] at hle
           have hoff:off=0:=by omega
           have hl1:lenL l=1:=by omega
           rw[hl1] at hdl
           obtain ⟨d1,rfl⟩:=List.length_eq_one_iff.1 hdl
           subst hoff
           have hcx:∀y,(enc S (.opt n) y).cells=[enc S (.opt n) y]:=λy=>(ptD_leaf _).2.2.1
           rw[hcx,hcx] at hc2
           simp[List.take_zero,List.nil_append,hl1,List.drop_succ_cons,List.drop_nil,List.append_nil,List.cons.injEq,and_true] at hc2
           have hux:∀y,D.upd (enc S (.opt n) y) 0 [d1]=d1:=λy=>by cases y<;>rfl
           rw[hux]
           exact hc2.symm
          |_=>
           simp only[Sg.width] at hle
           have hoff:off=0:=by omega
           have hl1:lenL l=1:=by omega
           rw[hl1] at hdl
           obtain ⟨d1,rfl⟩:=List.length_eq_one_iff.1 hdl
           subst hoff
           simp only[enc,D.cells,List.take_zero,List.nil_append,hl1,Nat.add_eq,Nat.zero_add,List.drop_succ_cons,List.drop_nil,List.append_nil,List.cons.injEq,and_true] at hc2
           simp only[enc,D.upd,List.getD,List.length_cons,List.length_nil,Nat.lt_add_one,getElem?_pos,List.getElem_cons_zero,Option.getD_some,Nat.zero_add]
           exact hc2.symm
         have htk:(D.el (es.map (enc S t2)) k).takes (S.width t2) off (lenL ds):=by
          rw[hel,lenL_eq,hdl]
          cases t2 with
          |st n=>
           left
           simp only[enc,D.isAgg,Sg.width,lenL_eq,hS.cells,encH_len,Bool.and_eq_true]
           refine ⟨beq_iff'.2 rfl,?_⟩
           rw[List.all_eq_true]
           exact encH_leaf _ _ (hS.leaf n)
          |ifc n=>
           simp[Sg.width] at hle
           exact .inr ⟨ifD_leaf _,rfl,by omega,by omega⟩
          |opt n=>
           simp[Sg.width] at hle
           exact .inr ⟨(ptD_leaf _).2.1,rfl,by omega,by omega⟩
          |_=>
           simp only[Sg.width] at hle
           exact .inr ⟨rfl,rfl,by omega,by omega⟩
         have hble:Nat.ble (Nat.add off (lenL ds)) (S.width t2)=true:=by rw[lenL_eq,hdl];exact hb3
         have hleafs:ds.all D.leaf=true:=by
          rw[List.all_eq_true]
          intro d hd'
          have:d∈encH S (S.leafTys t2) h2:=by rw[hnew];simp[hd']
          cases t2 with
          |st n=>exact encH_leaf _ _ (hS.leaf n) d this
          |ifc n=>
           simp[Sg.leafTys,encH] at this
           rw[this]
           exact ifD_leaf _
          |opt n=>
           simp[Sg.leafTys,encH] at this
           rw[this]
           exact (ptD_leaf _).2.1
          |_=>
           simp only[Sg.leafTys,encH,List.mem_singleton] at this
           rw[this]
           rfl
         have hby:((D.el (es.map (enc S t2)) k).upd off ds).by_=(D.el (es.map (enc S t2)) k).by_:=by
          rw[hel,hupd,enc_by hS,enc_by hS]
         have hb12:(Nat.ble (lowSt s1).fl o&&Nat.beq e era)=true:=by rw[Bool.and_eq_true];exact ⟨hb1,hb2⟩
         refine ⟨p∧q∧ds.all D.leaf=true∧D.inb (k:Int) (D.len (es.map (enc S t2)))∧(D.el (es.map (enc S t2)) k).takes (S.width t2) off (lenL ds)∧Nat.ble (Nat.add off (lenL ds)) (S.width t2)=true∧
          ((D.el (es.map (enc S t2)) k).upd off ds).by_=(D.el (es.map (enc S t2)) k).by_,?_,hp,hq,hleafs,?_,htk,hble,hby⟩
         .simp only[storeT,hcl,low,hd,hf,lowSt_get,ho,Option.map_some,lowOb,hb12,cond_true,lowSt_set,hel,hupd,D.put,putL,List.map_set]
          rfl
         .simp only[D.inb,D.len,List.length_map]
          omega
        .cases h9
       .cases h
      .cases h
     .cases h
    .cases h
   .cases h
  .cases h
theorem cutL_iff {lo hi len:Int} (h:cutL lo hi len=true):D.cut lo hi len:=by
 simpa[cutL,D.cut] using h
theorem len_map {α:Type} (f:α->D) (l:List α):D.len (l.map f)=lenI l:=by simp[D.len,lenI]
theorem sub_map {α:Type} (f:α->D) (l:List α) (lo hi:Int):D.sub (l.map f) lo hi=(subL l lo hi).map f:=by
 grind[D.sub,subL,List.map_drop,List.map_take]
theorem rows_map (hS:SgOk S) {e:Ty} (l:List (den S.A e)):D.rows (l.map (enc S e)) (S.width e):=by
 intro d hd
 obtain ⟨x,_,rfl⟩:=List.mem_map.1 hd
 exact enc_width hS x
theorem slen_bytes (b:List UInt8):D.slen (toBytes b)=lenI b:=by
 rfl
theorem ssub_bytes (b:List UInt8) {lo hi:Int} (h:D.cut lo hi (lenI b)):D.ssub (toBytes b) lo hi=toBytes (subL b lo hi):=by
 let ⟨h1,h2,h3⟩:=h
 unfold D.ssub toBytes subL
 apply ByteArray.ext
 grind[ByteArray.data_extract,List.drop_take]
theorem sliceV_low (hS:SgOk S) {i:TI} {τ:Option Ty} (hi:∀u,τ=some u->TyRow S i u) {s s':StV S} {x v:V S} {l h m:Option (V S)} {c:Bool} (he:sliceV i τ s x l h m=some (c,v,s')) (hc:c=true) :
  ∃p,sliceT i (lowSt s) (low x) (l.map low) (h.map low) (m.map low)=some (p,low v,lowSt s')∧p:=by
 unfold sliceV at he
 split at he
 .rename_i lo hlo
  let ⟨p,hp1,hp⟩:=boundV_low (d:=0) hlo
  have hp1:boundT D.zero (l.map low)=some (p,lo):=hp1
  let ⟨hkd,_,_⟩:=hi _ rfl
  split at he
  .rename_i b _ hb
   let ⟨q,hq1,hq⟩:=strV_low hb
   split at he
   .rename_i hi' hhi
    let ⟨r,hr1,hr⟩:=boundV_low hhi
    obtain ⟨rfl,rfl,rfl⟩:=he
    have hcut:=cutL_iff hc
    refine ⟨p∧q∧r∧D.cut lo hi' (D.slen (toBytes b)),?_,hp,hq,hr,by exact hcut⟩
    unfold sliceT
    rw[hkd,hp1]
    simp only[hq1,Option.map_none,slen_bytes,hr1,ssub_bytes b hcut]
    rfl
   .cases he
  .cases he
 .rename_i e lo hlo
  let ⟨p,hp1,hp⟩:=boundV_low (d:=0) hlo
  have hp1:boundT D.zero (l.map low)=some (p,lo):=hp1
  let ⟨⟨z,hkd,_⟩,_⟩:=hi _ rfl
  split at he
  .rename_i es s1 _ hsl hfz
   let ⟨q,hq1,hq⟩:=slV_low hsl
   have hf:=freezeV_low hS _ hfz
   rw[<-ownV_low] at hf
   split at he
   .rename_i _ hi' hhi
    let ⟨r,hr1,hr⟩:=boundV_low hhi
    obtain ⟨rfl,rfl,rfl⟩:=he
    have hcut:=cutL_iff hc
    refine ⟨p∧q∧r∧D.rows (es.map (enc S e)) (S.width e)∧D.cut lo hi' (D.len (es.map (enc S e))),?_,hp,hq,hr,rows_map hS es,by rw[len_map];exact hcut⟩
    unfold sliceT
    rw[hkd,hp1]
    simp only[hq1,hf,len_map,hr1,Option.map_none,sub_map]
    rfl
   .rename_i hi' y hv hhi
    let ⟨r,hr1,hr⟩:=boundV_low hhi
    simp at hr1
    split at he
    .obtain ⟨rfl,rfl,rfl⟩:=he
     simp[Bool.and_eq_true,eqI,decide_eq_true_eq] at hc
     refine ⟨p∧q∧r∧lo=D.zero∧hi'=D.zero,?_,hp,hq,hr,hc.1,hc.2⟩
     unfold sliceT
     rw[hkd,hp1]
     simp[hq1,hf,len_map,hr1,Option.map_some,low]
    .rename_i hno
     split at he
     .rename_i mx hmx
      let ⟨t,ht1,ht⟩:=intV_low hmx
      obtain ⟨rfl,rfl,rfl⟩:=he
      simp[Bool.and_eq_true,eqI,decide_eq_true_eq] at hc
      have hcut:=cutL_iff hc.1
      refine ⟨p∧q∧r∧t∧D.rows (es.map (enc S e)) (S.width e)∧D.cut lo hi' (D.len (es.map (enc S e)))∧mx=hi',?_,hp,hq,hr,ht,rows_map hS es,by rw[len_map];exact hcut,hc.2⟩
      unfold sliceT
      rw[hkd,hp1]
      simp[hq1,hf,len_map,hr1,Option.map_some,sub_map]
      have hnl:∀q,low y=.kn .i64 q->q≠0:=by
       intro q hq0 h0
       subst h0
       cases y with
       |ty t x=>cases t<;>simp[low,lowTy] at hq0
       |kn k n=>
        obtain ⟨rfl,rfl⟩:=hq0
        exact hno rfl
       |_=>simp[low] at hq0
      generalize low y=ly at ht1 hnl
      split
      .exact absurd rfl (hnl 0 rfl)
      .rw[ht1]
       rfl
     .cases he
   .cases he
  .cases he
 .cases he
theorem armV_low {v:V S} {g:Option Bool} {b:Bool} (h:armV v=some (g,b)):∃p,armT (low v)=some (p,b)∧(orT g=true->p):=by
 unfold armV at h
 split at h
 .rename_i g' v'
  split at h
  .rename_i y hy
   let ⟨p,hp1,hp⟩:=boolV_low hy
   obtain ⟨rfl,rfl⟩:=h
   exact ⟨g'=true∧p,by simp[low,armT,hp1],λhg=>⟨hg,hp⟩⟩
  .cases h
 .obtain ⟨rfl,rfl⟩:=h
  exact ⟨True,rfl,λ_=>trivial⟩
 .obtain ⟨rfl,rfl⟩:=h
  exact ⟨_,rfl,λ_=>rfl⟩
 .cases h
theorem pickV_low {c a b v:V S} {q:Bool} (h:pickV c a b=some (q,v)) (hq:q=true):∃p,pickT (low c) (low a) (low b)=some (p,low v)∧p:=by
 unfold pickV at h
 split at h
 .rename_i u
  split at h
  .rename_i p y h1
   obtain ⟨rfl,rfl⟩:=h
   let ⟨r,e,k⟩:=armV_low h1
   refine ⟨r,?_,k hq⟩
   have e':armT (bif u then low a else low b)=some (r,y):=by cases u<;>exact e
   simp only[low,pickT,e']
   rfl
  .cases h
 rename_i hkb
 split at h
 .rename_i t p x q' y h1 h2 h3
  let ⟨r1,e1,k1⟩:=boolV_low h1
  let ⟨r2,e2,k2⟩:=armV_low h2
  let ⟨r3,e3,k3⟩:=armV_low h3
  obtain ⟨rfl,rfl⟩:=h
  refine ⟨r1∧(t=true->r2)∧(t=false->r3),by
   have hlk:∀u,low c≠.kb u:=by
    intro u hu
    cases c with
    |kb b=>grind
    |ty t x=>cases t<;>cases hu
    |_=>cases hu
   unfold pickT
   split
   .simp_all
   .simp only[e1,e2,e3]
    rfl,k1,λht=>k2 ?_,λht=>k3 ?_⟩
  .simp_all
  simp_all
 .cases h
end TL
end
section
namespace TL
open Go
variable {S:Sg}
theorem low_sh {v:V S} {o r:Nat} (h:low v=.sh o r):v=.sh o r:=by
 cases v with
 |ty t x=>cases t<;>simp[low,lowTy] at h
 |sh a b=>simpa[low] using h
 |_=>simp[low] at h
theorem indexAddrV_low (hS:SgOk S) {i:TI} {τ:Option Ty} (hi:∀u,τ=some u->TyRow S i u) {s s':StV S} {x ix v:V S} {c:Bool} (he:indexAddrV i τ s x ix=some (c,v,s')) (hc:c=true) :
  s'=s∧∃p,indexAddrT i (lowSt s) (low x) (low ix)=some (p,low v,lowSt s')∧p:=by
 unfold indexAddrV at he
 split at he
 .rename_i sz ag bt zz e n hkd hn
  let ⟨p,hp1,hp⟩:=intV_low hn
  let ⟨⟨z,hkd',_⟩,_⟩:=hi _ rfl
  split at he
  .rename_i o r
   split at he
   .rename_i t l hl
    rcases cond_some he with ⟨hb,he9⟩|⟨_,he9⟩
    .clear he
     have:=tyEq_eq hb
     subst this
     obtain ⟨rfl,rfl,rfl⟩:=he9
     have hin:=inbL_iff hc
     have hbq:Nat.beq (S.width t) (S.width t)=true:=beq_iff'.2 rfl
     refine ⟨rfl,p∧D.inb n (D.len (l.map (enc S t))),?_,hp,by rw[len_map];exact hin⟩
     unfold indexAddrT
     rw[hkd',hp1]
     simp only[low,arrV_low hl,hbq,cond_true]
     rfl
    .cases he9
   .cases he
  .rename_i hno
   split at he
   .rename_i l hl
    obtain ⟨rfl,rfl,rfl⟩:=he
    let ⟨q,hq1,hq⟩:=slV_low hl
    have hin:=inbL_iff hc
    have hk:(natI n)<l.length:=by unfold natI;omega
    have hel:=el_map (enc S e) l (natI n) (S.zero e) hk
    refine ⟨rfl,p∧q∧D.inb n (D.len (l.map (enc S e)))∧(D.el (l.map (enc S e)) (D.nat n)).wide (S.width e),?_,hp,hq,by rw[len_map];exact hin,?_⟩
    .unfold indexAddrT
     rw[hkd',hp1]
     simp only
     split
     .rename_i o r hlow
      exact absurd (low_sh hlow) (hno o r)
     .rw[hq1]
      simp only[low]
      rw[show D.el (List.map (enc S e) l) (D.nat n)=_ from hel]
    .show (D.el (l.map (enc S e)) (natI n)).cells.length=_
     rw[hel,enc_width hS]
   .cases he
 .rename_i n sz ag hkd
  unfold arrAddrV at he
  split at he
  .rename_i t d b k
   rcases cond_some he with ⟨hb,h3⟩|⟨_,h3⟩
   .obtain ⟨rfl,rfl,rfl⟩:=h3
    refine ⟨rfl,True,?_,trivial⟩
    unfold indexAddrT
    rw[hkd]
    simp only[low,arrAddrT,hb,cond_true]
   .cases h3
  .cases he
 .cases he
theorem fieldAddrV_low {i:TI} {s s':StV S} {k:Nat} {x v:V S} {c:Bool} (he:fieldAddrV i s k x=some (c,v,s')):s'=s∧∃p,fieldAddrT i (lowSt s) k (low x)=some (p,low v,lowSt s')∧p:=by
 unfold fieldAddrV at he
 unfold fieldAddrT
 split at he
 .rename_i fs hkd
  try rw[hkd]
  try simp only
  split at he
  .rename_i off size ag hf
   try rw[hf]
   rcases cond_some he with ⟨_,h⟩|⟨hb,h⟩
   .cases h
   .simp only[hb,cond_false]
    split at h
    all_goals first
     |(cases h;done)
     |(
       simp only[Option.some.injEq,Prod.mk.injEq] at h
       obtain ⟨rfl,rfl,rfl⟩:=h
       exact ⟨rfl,True,rfl,trivial⟩)
  .cases he
 .cases he
theorem fieldV_low (hS:SgOk S) {i:TI} {s s':StV S} {k:Nat} {x v:V S} {c:Bool} (he:fieldV i s k x=some (c,v,s')):s'=s∧∃p,fieldT i (lowSt s) k (low x)=some (p,low v,lowSt s')∧p:=by
 unfold fieldV at he
 unfold fieldT
 split at he
 .rename_i fs hkd
  try rw[hkd]
  try simp only
  split at he
  .rename_i off size ag cs hf hc
   let ⟨p,hp1,hp⟩:=cellsV_low hS hc
   rcases cond_some he with ⟨hb,h⟩|⟨_,h⟩
   .simp only[Option.map_eq_some_iff,Prod.mk.injEq] at h
    obtain ⟨t,ht,_,rfl,rfl⟩:=h
    have hpk:=packV_low ht
    rw[lows_take,lows_drop] at hpk
    have hb':(Nat.beq (lenL (((lows cs).drop off).take size)) size&&!(Nat.beq size 0))=true:=by
     grind[lenL_eq,lows_len]
    exact ⟨rfl,p,by simp_all,hp⟩
   .cases h
  .cases he
 .cases he
theorem sat_bytes {b:List UInt8} {n:Int} (h:inbL n b=true):D.sat (toBytes b) n=satL b n:=by
 have hn:=inbL_iff h
 have hk:n.toNat<b.length:=by omega
 unfold D.sat satL
 have h1:(toBytes b).get! n.toNat=b.getD n.toNat 0:=by
  grind[toBytes,ByteArray.get!]
 rw[h1]
theorem indexV_low {i:TI} {s s':StV S} {x ix v:V S} {c:Bool} (he:indexV i s x ix=some (c,v,s')) (hc:c=true):s'=s∧∃p,indexT i (lowSt s) (low x) (low ix)=some (p,low v,lowSt s')∧p:=by
 unfold indexV at he
 split at he
 .rename_i n b hkd hn hb
  let ⟨p,hp1,hp⟩:=intV_low hn
  let ⟨q,hq1,hq⟩:=strV_low hb
  obtain ⟨rfl,rfl,rfl⟩:=he
  refine ⟨rfl,p∧q∧D.inb n (D.slen (toBytes b)),?_,hp,hq,by exact inbL_iff hc⟩
  grind[indexT,low,lowTy,enc,sat_bytes]
 .cases he
theorem zeroV_low (d:D):low (zeroV (S:=S) d)=ofZero d:=by
 unfold zeroV
 split
 .rfl
 .rfl
 .rfl
 .rfl
 .rename_i h1 h2 h3 h4
  unfold ofZero
  split
  .simp_all
  .simp_all
  .grind
  .rfl
theorem zeros_low:∀(l:List D),lows (l.map (zeroV (S:=S)))=l.map ofZero
 |[]=>rfl
 |d ::l=>by simp[List.map_cons,lows,zeroV_low,zeros_low l]
theorem assertT_ok {i:TI} (hno:i.kd=.iface->False) (s:St) (t u:TypeId) (v:T) :
  assertT i s t true (.ifc u v)=(bif Nat.beq u t then some (True,.tup [v,.kb true],s) else (packT i.agg (i.zero.map ofZero)).map λz=>(True,.tup [z,.kb false],s)):=by
 unfold assertT
 cases hk:i.kd<;>first|rfl|grind
theorem assertT_no {i:TI} (hno:i.kd=.iface->False) (s:St) (t u:TypeId) (v:T) :
  assertT i s t false (.ifc u v)=(bif Nat.beq u t then some (True,v,s) else none):=by
 unfold assertT
 cases hk:i.kd<;>first|rfl|grind
theorem assertV_low {i:TI} {s s':StV S} {t:TypeId} {ok:Bool} {x v:V S} {c:Bool} (he:assertV i s t ok x=some (c,v,s')):s'=s∧∃p,assertT i (lowSt s) t ok (low x)=some (p,low v,lowSt s')∧p:=by
 unfold assertV at he
 split at he
 .cases he
 .rename_i u w _ hno
  rw[low,assertT_ok hno]
  rcases cond_some he with ⟨hb,he⟩|⟨hb,he⟩
  .obtain ⟨rfl,rfl,rfl⟩:=he
   exact ⟨rfl,True,by rw[hb];rfl,trivial⟩
  .simp only[Option.map_eq_some_iff,Prod.mk.injEq] at he
   obtain ⟨z,hz,_,rfl,rfl⟩:=he
   have hpk:=packV_low hz
   rw[zeros_low] at hpk
   exact ⟨rfl,True,by rw[hb,cond_false,hpk];rfl,trivial⟩
 .rename_i u w _ hno
  rw[low,assertT_no hno]
  rcases cond_some he with ⟨hb,he⟩|⟨_,he⟩
  .obtain ⟨rfl,rfl,rfl⟩:=he
   exact ⟨rfl,True,by rw[hb];rfl,trivial⟩
  .cases he
 .cases he
theorem unV_low {i:TI} {op:UnOp} {x v:V S} (he:unV i op x=some v):∃p d,unT i op (low x)=some (p,d)∧p∧low v=.sym d:=by
 unfold unV at he
 split at he
 .rename_i hkd
  simp only[Option.map_eq_some_iff] at he
  obtain ⟨b,hb,rfl⟩:=he
  let ⟨p,hp1,hp⟩:=boolV_low hb
  exact ⟨p,_,by simp only[unT,hkd,hp1,Option.map_some];rfl,hp,rfl⟩
 .rename_i k hkd
  simp at he
  obtain ⟨b,hb,rfl⟩:=he
  let ⟨p,hp1,hp⟩:=intV_low hb
  exact ⟨p,_,by simp only[unT,hkd,hp1,Option.map_some];rfl,hp,rfl⟩
 .cases he
theorem convV_low {i j:TI} {s s':StV S} {x v:V S} {c:Bool} (he:convV i j s x=some (c,v,s')):s'=s∧∃p,convT i j (lowSt s) (low x)=some (p,low v,lowSt s')∧p:=by
 unfold convV at he
 split at he
 .rename_i k l h1 h2
  simp only[Option.map_eq_some_iff,Prod.mk.injEq] at he
  obtain ⟨n,hn,_,rfl,rfl⟩:=he
  let ⟨p,hp1,hp⟩:=intV_low hn
  exact ⟨rfl,p,by simp only[convT,h1,h2,hp1,Option.map_some];rfl,hp⟩
 .rename_i h1 h2
  simp only[Option.map_eq_some_iff,Prod.mk.injEq] at he
  obtain ⟨n,hn,_,rfl,rfl⟩:=he
  let ⟨p,hp1,hp⟩:=strV_low hn
  exact ⟨rfl,p,by grind[convT],hp⟩
 .cases he
theorem extractV_low {s s':StV S} {k:Nat} {x v:V S} {c:Bool} (he:extractV s k x=some (c,v,s')):s'=s∧∃p,extractT (lowSt s) k (low x)=some (p,low v,lowSt s')∧p:=by
 unfold extractV at he
 split at he
 .rename_i vs
  simp only[Option.map_eq_some_iff,Prod.mk.injEq] at he
  obtain ⟨t,ht,_,rfl,rfl⟩:=he
  exact ⟨rfl,True,by simp_all[low,extractT,nth_eq,lows_map],trivial⟩
 .cases he
theorem seq_bytes (a b:List UInt8):D.seq (toBytes a) (toBytes b)=seqL a b:=by
 show (a.toArray==b.toArray)=(a==b)
 simp
theorem eqLeafV_low {k:Lk} {a b:V S} {r:Bool} (h:eqLeafV k a b=some r):∃p,eqLeaf k (low a) (low b)=some (p,r)∧p:=by
 unfold eqLeafV at h
 split at h
 .split at h
  .rename_i h1 h2
   simp at h
   subst h
   let ⟨p,e1,hp⟩:=intV_low h1
   let ⟨q,e2,hq⟩:=intV_low h2
   exact ⟨p∧q,by simp[eqLeaf,e1,e2],hp,hq⟩
  .cases h
 .split at h
  .rename_i h1 h2
   simp at h
   subst h
   let ⟨p,e1,hp⟩:=boolV_low h1
   let ⟨q,e2,hq⟩:=boolV_low h2
   exact ⟨p∧q,by simp[eqLeaf,e1,e2],hp,hq⟩
  .cases h
 .split at h
  .rename_i h1 h2
   simp at h
   subst h
   let ⟨p,e1,hp⟩:=strV_low h1
   let ⟨q,e2,hq⟩:=strV_low h2
   exact ⟨p∧q,by simp[eqLeaf,e1,e2,seq_bytes],hp,hq⟩
  .cases h
 .cases h
theorem eqLeavesV_low:∀{ks:List Lk} {as bs:List (V S)} {r:Bool},eqLeavesV ks as bs=some r->∃p,eqLeaves ks (lows as) (lows bs)=some (p,r)∧p
 |[],[],[],r,h=>by simp only[eqLeavesV,Option.some.injEq] at h;subst h;exact ⟨True,rfl,trivial⟩
 |k ::ks,a ::as,b ::bs,r,h=>by
  simp[eqLeavesV] at h
  split at h
  .rename_i x y h1 h2
   simp at h
   subst h
   let ⟨p,e1,hp⟩:=eqLeafV_low h1
   let ⟨q,e2,hq⟩:=eqLeavesV_low h2
   exact ⟨p∧q,by simp[lows,eqLeaves,e1,e2],hp,hq⟩
  .cases h
 |[],[],_ ::_,_,h=>by simp[eqLeavesV] at h
 |[],_ ::_,_,_,h=>by simp[eqLeavesV] at h
 |_ ::_,[],_,_,h=>by simp[eqLeavesV] at h
 |_ ::_,_ ::_,[],_,h=>by simp[eqLeavesV] at h
theorem eqlV_low (hS:SgOk S) {i:TI} {a b:V S} {r:Bool} (h:eqlV i a b=some r):∃p,eqlT i (low a) (low b)=some (p,r)∧p:=by
 unfold eqlT
 rcases cond_some h with ⟨hag,h⟩|⟨hag,h⟩
 .grind[cellsV_low,eqLeavesV_low]
 .rw[hag]
  split at h
  .grind[eqLeafV_low]
  .rename_i hkd
   try rw[hkd]
   unfold eqPtrV at h
   split at h
   .simp only[Option.some.injEq] at h;subst h;exact ⟨True,rfl,trivial⟩
   .simp only[Option.some.injEq] at h;subst h;exact ⟨True,rfl,trivial⟩
   .cases h
  .rename_i hkd
   try rw[hkd]
   unfold eqIfcV at h
   split at h
   .simp only[Option.some.injEq] at h;subst h;exact ⟨True,rfl,trivial⟩
   .simp only[Option.some.injEq] at h;subst h;exact ⟨True,rfl,trivial⟩
   .cases h
  .cases h
theorem cmpV_low {op:BinOp} {k:IntKind} {m n:Int}:(cmpV (S:=S) op k m n).map low=(cmpT op k m n).map .sym:=by
 unfold cmpV cmpT
 cases op<;>rfl
theorem divV_low {op:BinOp} {k:IntKind} {m n:Int}:(divV (S:=S) op k m n).map low=(divT op k m n).map .sym:=by
 unfold divV divT
 cases op<;>rfl
theorem fit_bytes {a b:List UInt8} (h:fitL a b=true):D.sfit (toBytes a) (toBytes b):=by
 grind[fitL,D.sfit,toBytes,ByteArray.size]
theorem cat_bytes (a b:List UInt8):D.scat (toBytes a) (toBytes b)=toBytes (catL a b):=by
 rfl
theorem binV_low (hS:SgOk S) {i:TI} {op:BinOp} {a b v:V S} {c:Bool} (h:binV i op a b=some (c,v)) (hc:c=true):∃p d,binT i op (low a) (low b)=some (p,d)∧p∧low v=.sym d:=by
 have h0:=h
 unfold binV at h
 split at h
 .simp only[Option.map_eq_some_iff,Prod.mk.injEq] at h
  obtain ⟨r,hr,_,rfl⟩:=h
  let ⟨p,e,hp⟩:=eqlV_low hS hr
  exact ⟨p,_,by simp only[binT,e,Option.map_some];rfl,hp,rfl⟩
 .simp only[Option.map_eq_some_iff,Prod.mk.injEq] at h
  obtain ⟨r,hr,_,rfl⟩:=h
  let ⟨p,e,hp⟩:=eqlV_low hS hr
  exact ⟨p,_,by simp only[binT,e,Option.map_some];rfl,hp,rfl⟩
 .rename_i hne1 hne2
  cases hkd:i.kd with
  |leaf lk=>
   cases lk with
   |int k=>
    have hv:binV i op a b=(match intV k a,intV k b with
     |some m,some n=>match cmpV op k m n with
      |some d=>some (true,d)
      |none=>(divV op k m n).map λd=>(nzI n,d)
     |_,_=>none):=by
     clear h
     unfold binV
     cases op<;>first|exact (hne1 rfl).elim|exact (hne2 rfl).elim|(simp only[hkd];done)|(simp only[hkd];cases intV k a<;>cases intV k b<;>rfl)
    have ht:∀{p q:Prop} {m n:Int},intT k (low a)=some (p,m)->intT k (low b)=some (q,n)->binT i op (low a) (low b)=(match cmpT op k m n with
     |some d=>some (p∧q,d)
     |none=>(divT op k m n).map λd=>(p∧q∧D.nz n,d)):=by
     intro p q m n e1 e2
     clear h hv
     unfold binT
     cases op<;>first|exact (hne1 rfl).elim|exact (hne2 rfl).elim|(simp only[hkd,e1,e2];rfl)
    rw[hv] at h0
    split at h0
    .rename_i m n h1 h2
     let ⟨p,e1,hp⟩:=intV_low h1
     let ⟨q,e2,hq⟩:=intV_low h2
     have hcmp:=cmpV_low (S:=S) (op:=op) (k:=k) (m:=m) (n:=n)
     split at h0
     .grind
     .rename_i hd
      rw[hd] at hcmp
      simp only[Option.map_eq_some_iff,Prod.mk.injEq] at h0
      obtain ⟨d,hdv,rfl,rfl⟩:=h0
      grind[divV_low,Option.map_eq_some_iff,D.nz,nzI]
    .cases h0
   |str=>
    have hop:op=.add:=by
     clear h
     unfold binV at h0
     cases op<;>first|rfl|exact (hne1 rfl).elim|exact (hne2 rfl).elim|(simp only[hkd] at h0;cases h0)
    clear h
    subst hop
    have hv:binV i .add a b=(match strV a,strV b with
     |some m,some n=>some (fitL m n,.ty .str (catL m n))
     |_,_=>none):=by
     unfold binV
     simp[hkd]
     cases strV a<;>cases strV b<;>rfl
    rw[hv] at h0
    split at h0
    .rename_i m n h1 h2
     let ⟨p,e1,hp⟩:=strV_low h1
     let ⟨q,e2,hq⟩:=strV_low h2
     obtain ⟨rfl,rfl⟩:=h0
     refine ⟨p∧q∧D.sfit (toBytes m) (toBytes n),.lit (.string (D.scat (toBytes m) (toBytes n))),?_,⟨hp,hq,fit_bytes hc⟩,by rfl⟩
     simp_all[binT]
    .cases h0
   |bool=>
    clear h
    unfold binV at h0
    cases op<;>first|exact (hne1 rfl).elim|exact (hne2 rfl).elim|(simp only[hkd] at h0;cases h0)
   |no=>
    clear h
    unfold binV at h0
    cases op<;>first|exact (hne1 rfl).elim|exact (hne2 rfl).elim|(simp only[hkd] at h0;cases h0)
  |_=>
   clear h
   unfold binV at h0
   cases op<;>first|exact (hne1 rfl).elim|exact (hne2 rfl).elim|(simp only[hkd] at h0;cases h0)
theorem lowSt_newOb (s:StV S) (ob:ObV S):(newOb (lowSt s) (lowOb ob)).2=lowSt (newObV s ob):=(lowSt_new s ob).symm
theorem opV0_low (hS:SgOk S) {E:EnvT} (hE:TyOk S E) {fr:FrV S} {s s':StV S} {o:Op} {c:Bool} {v:V S} (h:opV0 E fr s o=some (c,v,s')) (hc:c=true) :
  ∃p,opT E.E (lowFr fr) (lowSt s) o=some (p,low v,lowSt s')∧p:=by
 cases o with
 |move x=>
  simp only[opV0,Option.map_eq_some_iff,Prod.mk.injEq] at h
  obtain ⟨t,ht,_,rfl,rfl⟩:=h
  exact ⟨True,by simp[opT,opdV_low ht,Option.map_some],trivial⟩
 |assign x=>
  simp only[opV0,Option.map_eq_some_iff,Prod.mk.injEq] at h
  obtain ⟨t,ht,_,rfl,rfl⟩:=h
  exact ⟨True,by simp[opT,opdV_low ht,Option.map_some],trivial⟩
 |pick x y z=>
  simp[opV0] at h
  split at h
  .rename_i a b d h1 h2 h3
   simp only[Option.map_eq_some_iff,Prod.mk.injEq] at h
   obtain ⟨⟨q,t⟩,ht,rfl,rfl,rfl⟩:=h
   let ⟨p,e,hp⟩:=pickV_low ht hc
   exact ⟨p,by simp[opT,opdV_low h1,opdV_low h2,opdV_low h3,e,Option.map_some],hp⟩
  .cases h
 |alloc t=>
  simp[opV0] at h
  split at h
  .rename_i i hi
   rcases cond_some h with ⟨hb,h⟩|⟨_,h⟩
   .obtain ⟨_,rfl,rfl⟩:=h
    refine ⟨True,?_,trivial⟩
    have hb':Nat.blt (lowSt s).nob bigN=true:=hb
    simp only[opT,hi,hb',cond_true,lowSt_new,lowOb,zeros_low]
    rfl
   .cases h
  .cases h
 |box t x=>
  simp[opV0] at h
  split at h
  .rename_i i v' hi hv
   rcases cond_some h with ⟨hb,h⟩|⟨_,h⟩
   .simp only[Option.map_eq_some_iff,Prod.mk.injEq] at h
    obtain ⟨cs,hcs,_,rfl,rfl⟩:=h
    let ⟨p,e,hp⟩:=cellsV_low hS hcs
    have hb':Nat.blt (lowSt s).nob bigN=true:=hb
    refine ⟨p,?_,hp⟩
    simp only[opT,hi,opdV_low hv,hb',cond_true,e,Option.map_some,lowSt_new,lowOb]
    rfl
   .cases h
  .cases h
 |build t ps=>
  simp[opV0] at h
  split at h
  .rename_i i ps' hi hps
   split at h
   .rename_i fs hkd
    simp only[Option.map_eq_some_iff,Prod.mk.injEq] at h
    obtain ⟨cs,hcs,_,rfl,rfl⟩:=h
    let ⟨p,e,hp⟩:=fillV_low hS hcs
    rw[zeros_low] at e
    refine ⟨p,?_,hp⟩
    simp only[opT,hi,partsV_low hps,hkd,low]
    exact congrArg (Option.map λq:Prop×List T=>(q.1,T.agg q.2,lowSt s)) e
   .cases h
  .cases h
 |buildSlice t n ps=>
  simp only[opV0] at h
  split at h
  .rename_i i e ps' hi hty hps
   split at h
   .rename_i sz ag bt zz hkd
    rcases cond_some h with ⟨hb,h⟩|⟨_,h⟩
    .split at h
     .rename_i es os hel
      simp only[Option.map_eq_some_iff,Prod.mk.injEq] at h
      obtain ⟨s1,hs1,_,rfl,rfl⟩:=h
      let ⟨⟨z,hkd',hz⟩,_,_,hpos⟩:=hE.row _ _ _ hi hty
      rw[hkd] at hkd'
      obtain ⟨rfl,rfl,rfl,rfl⟩:=Kd.slice.inj hkd'
      have hf:=freezeV_low hS os hs1
      have hzl:lenL zz=S.width e:=by
       cases e with
       |st m=>
        simp[isSt,cond_true,enc,D.agg.injEq] at hz
        rw[hz]
        simp[Sg.width,lenL_eq]
        rw[show S.cells m (S.zero (.st m))=_ from hS.cells m _,encH_len]
       |_=>
        simp only[isSt,cond_false] at hz
        rw[hz]
        rfl
      have hcond:((isSt e||Nat.beq (S.width e) 1)&&(Nat.beq (lenL zz) (S.width e)&&(!(Nat.beq (S.width e) 0)&&Nat.ble (Nat.mul n (S.width e)) 16777216)))=true:=by
       rw[hzl]
       simp only[Bool.and_eq_true,Bool.not_eq_true']
       refine ⟨?_,beq_iff'.2 rfl,?_,hb⟩
       .cases e<;>rfl
       .cases hq:Nat.beq (S.width e) 0 with
        |false=>rfl
        |true=>have:=beq_iff'.1 hq;omega
      have hrep:List.replicate n (bif isSt e then D.agg zz else zz.getD 0 default)=(List.replicate n (S.zero e)).map (enc S e):=by
       rw[List.map_replicate]
       congr 1
       cases e with
       |st m=>exact hz
       |_=>
        simp only[isSt,cond_false] at hz ⊢
        rw[hz]
        rfl
      let ⟨p,e1,hp⟩:=elemsV_low hS (i:={(default:TI) with size:=S.width e,agg:=isSt e}) ⟨rfl,λ_=>rfl⟩ hel
      refine ⟨p,?_,hp⟩
      simp only[opT,hi,partsV_low hps,hkd,hcond,cond_true,hrep,e1,hf,Option.map_some,low]
     .cases h
    .cases h
   .cases h
  .cases h
 |load t x=>
  simp[opV0] at h
  split at h
  .rename_i i a hi ha
   obtain ⟨rfl,p,e,hp⟩:=loadV_low hS (λu hu=>hE.row _ _ _ hi hu) h hc
   exact ⟨p,by simp[opT,hi,opdV_low ha,e],hp⟩
  .cases h
 |store t x y=>
  simp[opV0] at h
  split at h
  .rename_i i a b hi ha hb
   let ⟨p,e,hp⟩:=storeV_low hS h hc
   exact ⟨p,by simp[opT,hi,opdV_low ha,opdV_low hb,e],hp⟩
  .cases h
 |nilCheck x=>
  simp[opV0] at h
  split at h
  all_goals first
   |(cases h;done)
   |(
     rename_i hx
     simp only[Option.some.injEq,Prod.mk.injEq] at h
     obtain ⟨_,rfl,rfl⟩:=h
     have:=opdV_low hx
     simp only[low] at this
     exact ⟨True,by simp only[opT,this,low],trivial⟩)
 |binOp op t x y u=>
  simp[opV0] at h
  split at h
  .rename_i i a b hi ha hb
   simp only[Option.map_eq_some_iff,Prod.mk.injEq] at h
   obtain ⟨⟨q,d⟩,hd,rfl,rfl,rfl⟩:=h
   let ⟨p,d',e,hp,hl⟩:=binV_low hS hd hc
   exact ⟨p,by simp[opT,hi,opdV_low ha,opdV_low hb,e,Option.map_some,hl],hp⟩
  .cases h
 |unOp op t x=>
  simp[opV0] at h
  split at h
  .rename_i i a hi ha
   simp only[Option.map_eq_some_iff,Prod.mk.injEq] at h
   obtain ⟨d,hd,_,rfl,rfl⟩:=h
   let ⟨p,d',e,hp,hl⟩:=unV_low hd
   exact ⟨p,by simp[opT,hi,opdV_low ha,e,Option.map_some,hl],hp⟩
  .cases h
 |convert t u x=>
  simp[opV0] at h
  split at h
  .rename_i i j a hi hj ha
   obtain ⟨rfl,p,e,hp⟩:=convV_low h
   exact ⟨p,by simp[opT,hi,hj,opdV_low ha,e],hp⟩
  .cases h
 |makeInterface t x=>
  simp[opV0] at h
  split at h
  .rename_i i a hi ha
   split at h
   .cases h
   .rename_i hk
    obtain ⟨_,rfl,rfl⟩:=h
    refine ⟨True,?_,trivial⟩
    simp[opT,hi,opdV_low ha,low]
  .cases h
 |makeFunc f a b=>
  simp[opV0] at h
  split at h
  .rename_i x y hx hy
   obtain ⟨_,rfl,rfl⟩:=h
   exact ⟨True,by simp[opT,opdsV_low hx,opdsV_low hy,low],trivial⟩
  .cases h
 |extract x k=>
  simp[opV0] at h
  split at h
  .rename_i a ha
   obtain ⟨rfl,p,e,hp⟩:=extractV_low h
   exact ⟨p,by simp[opT,opdV_low ha,e],hp⟩
  .cases h
 |fieldAddr t x k=>
  simp[opV0] at h
  split at h
  .rename_i i a hi ha
   obtain ⟨rfl,p,e,hp⟩:=fieldAddrV_low h
   exact ⟨p,by simp[opT,hi,opdV_low ha,e],hp⟩
  .cases h
 |field t x k=>
  simp[opV0] at h
  split at h
  .rename_i i a hi ha
   obtain ⟨rfl,p,e,hp⟩:=fieldV_low hS h
   exact ⟨p,by simp[opT,hi,opdV_low ha,e],hp⟩
  .cases h
 |indexAddr t x y=>
  simp[opV0] at h
  split at h
  .rename_i i a b hi ha hb
   obtain ⟨rfl,p,e,hp⟩:=indexAddrV_low hS (λu hu=>hE.row _ _ _ hi hu) h hc
   exact ⟨p,by simp[opT,hi,opdV_low ha,opdV_low hb,e],hp⟩
  .cases h
 |index t x y=>
  simp[opV0] at h
  split at h
  .rename_i i a b hi ha hb
   obtain ⟨rfl,p,e,hp⟩:=indexV_low h hc
   exact ⟨p,by simp[opT,hi,opdV_low ha,opdV_low hb,e],hp⟩
  .cases h
 |slice t x lo hi mx=>
  simp[opV0] at h
  split at h
  .rename_i i a l1 l2 l3 hi' ha h1 h2 h3
   let ⟨p,e,hp⟩:=sliceV_low hS (λu hu=>hE.row _ _ _ hi' hu) h hc
   exact ⟨p,by simp[opT,hi',opdV_low ha,optV_low h1,optV_low h2,optV_low h3,e],hp⟩
  .cases h
 |typeAssert x t u ok=>
  simp[opV0] at h
  split at h
  .rename_i i a hi ha
   obtain ⟨rfl,p,e,hp⟩:=assertV_low h
   exact ⟨p,by simp[opT,hi,opdV_low ha,e],hp⟩
  .cases h
 |_=>simp[opV0] at h
end TL
end
section
namespace TL
open Go
variable {S:Sg}
theorem bys_map (hS:SgOk S) {e:Ty} (l:List (den S.A e)):D.bys (l.map (enc S e)) (byOf S e):=by
 intro d hd
 obtain ⟨x,_,rfl⟩:=List.mem_map.1 hd
 exact ⟨enc_by hS x,enc_flat hS x⟩
theorem app_map {α:Type} (f:α->D) (l m:List α):D.app (l.map f) (m.map f)=(catL l m).map f:=by
 simp[D.app,catL]
theorem few_map {α:Type} (f:α->D) {l m:List α} (h:fewL l m=true):D.few (l.map f) (m.map f):=by
 simpa[fewL,D.few] using h
theorem low_clp {v:V S} {n:Nat} {es:List D} (h:low v=.clp n es):∃t l,v=.clp n t l:=by
 cases v with
 |ty t x=>cases t<;>simp[low,lowTy] at h
 |clp a t l=>
  obtain ⟨rfl,_⟩:=h
  exact ⟨t,l,rfl⟩
 |_=>simp[low] at h
theorem appendV_low (hS:SgOk S) {i:TI} {e:Ty} (hi:TyRow S i (.sl e)) {s s':StV S} {x y v:V S} {c:Bool} (h:appendV i e s x y=some (c,v,s')) (hc:c=true) :
  ∃p,appendT i (lowSt s) (low x) (low y)=some (p,low v,lowSt s')∧p:=by
 rcases cond_some h with ⟨_,h9⟩|⟨hnb,h9⟩
 .cases h9
 clear h
 have hnb':(!(Nat.blt (lowSt s).nob bigN))=false:=hnb
 unfold appendT
 rw[hnb',cond_false]
 let ⟨⟨z,hkd,hz⟩,_⟩:=hi
 split at h9
 .rename_i sz ag bt zz new hkd' hnew
  rw[hkd] at hkd'
  obtain ⟨rfl,rfl,rfl,rfl⟩:=Kd.slice.inj hkd'
  let ⟨q,hq1,hq⟩:=slV_low hnew
  rw[hkd,hq1]
  have hrn:=rows_map hS new
  have hbn:=bys_map hS new
  split at h9
  .obtain ⟨_,rfl,rfl⟩:=h9
   refine ⟨q∧D.rows (new.map (enc S e)) (S.width e)∧D.bys (new.map (enc S e)) (byOf S e),?_,hq,hrn,hbn⟩
   simp only[low,lowSt_new,lowOb]
   rfl
  .rename_i n t es
   split at h9
   .rename_i es2 hcast
    obtain ⟨rfl,hh⟩:=castL_eq hcast
    cases hh
    have hra:=rows_map hS (catL es new)
    have hba:=bys_map hS (catL es new)
    rw[<-app_map] at hra hba
    split at h9
    .rename_i k t2 l2
     obtain ⟨rfl,rfl,rfl⟩:=h9
     refine ⟨q∧D.rows (D.app (es.map (enc S t)) (new.map (enc S t))) (S.width t)∧D.bys (D.app (es.map (enc S t)) (new.map (enc S t))) (byOf S t)∧D.few (es.map (enc S t)) (new.map (enc S t)),?_,hq,hra,hba,few_map _ hc⟩
     simp only[low,lowSt_new,lowOb,<-app_map]
     rfl
    .rename_i hno
     obtain ⟨rfl,rfl,rfl⟩:=h9
     refine ⟨q∧D.rows (D.app (es.map (enc S t)) (new.map (enc S t))) (S.width t)∧D.bys (D.app (es.map (enc S t)) (new.map (enc S t))) (byOf S t)∧D.few (es.map (enc S t)) (new.map (enc S t)),?_,hq,hra,hba,few_map _ hc⟩
     simp[low]
     split
     .rename_i k es' hl
      obtain ⟨t3,l3,rfl⟩:=low_clp hl
      grind
     .simp[lowTy,enc,<-app_map]
   .cases h9
  .rename_i o r
   split at h9
   .rename_i t es era ho
    split at h9
    .rename_i es2 hcast
     obtain ⟨rfl,hh⟩:=castL_eq hcast
     cases hh
     rcases cond_some h9 with ⟨hb,h8⟩|⟨_,h8⟩
     .clear h9
      simp only[Bool.and_eq_true] at hb
      obtain ⟨rfl,rfl,rfl⟩:=h8
      have hba:=bys_map hS (catL es new)
      rw[<-app_map] at hba
      refine ⟨q∧D.rows (new.map (enc S t)) (S.width t)∧D.bys (D.app (es.map (enc S t)) (new.map (enc S t))) (byOf S t)∧D.few (es.map (enc S t)) (new.map (enc S t)),?_,hq,hrn,hba,few_map _ hc⟩
      have hb':(Nat.ble (lowSt s).fl o&&Nat.beq r era&&Nat.beq (S.width t) (S.width t)&&!(ownSl (low y)).contains o)=true:=by
       rw[ownV_low]
       simp only[Bool.and_eq_true]
       exact ⟨⟨⟨hb.1,hb.2.1⟩,beq_iff'.2 rfl⟩,hb.2.2⟩
      simp only[low,lowSt_get,ho,Option.map_some,lowOb,hb',cond_true,lowSt_set,<-app_map]
     .cases h8
    .cases h9
   .cases h9
  .cases h9
 .cases h9
theorem builtinV0_low (hS:SgOk S) {E:EnvT} (hE:TyOk S E) {s s':StV S} {b:Builtin} {ats:Array TypeId} {args:List (V S)} {c:Bool} {v:V S} (h:builtinV0 E s b ats args=some (c,v,s')) (hc:c=true) :
  ∃p,builtinT E.E (lowSt s) b ats (lows args)=some (p,low v,lowSt s')∧p:=by
 unfold builtinV0 at h
 split at h
 .rename_i x
  split at h
  .rename_i i hi hty
   let ⟨k,hk1,hk2⟩:=Option.bind_eq_some_iff.1 hi
   let ⟨k',hk1',hk2'⟩:=Option.bind_eq_some_iff.1 hty
   rw[hk1] at hk1'
   cases hk1'
   let ⟨hkd,_⟩:=hE.row _ _ _ hk2 hk2'
   split at h
   .rename_i b' _ hb
    let ⟨p,e,hp⟩:=strV_low hb
    obtain ⟨_,rfl,rfl⟩:=h
    exact ⟨p,by simp only[lows,builtinT,e,hi,hkd,slen_bytes];rfl,hp⟩
   .cases h
  .rename_i i e hi hty
   let ⟨k,hk1,hk2⟩:=Option.bind_eq_some_iff.1 hi
   let ⟨k',hk1',hk2'⟩:=Option.bind_eq_some_iff.1 hty
   rw[hk1] at hk1'
   cases hk1'
   let ⟨⟨z,hkd,_⟩,_⟩:=hE.row _ _ _ hk2 hk2'
   split at h
   .simp only[Option.map_eq_some_iff,Prod.mk.injEq] at h
    obtain ⟨es,hes,_,rfl,rfl⟩:=h
    let ⟨p,e1,hp⟩:=slV_low hes
    refine ⟨p,?_,hp⟩
    simp[lows,builtinT]
    cases hst:strT (low x) with
    |none=>simp only[hi,hkd,e1,Option.map_some,len_map];rfl
    |some q=>simp only[hi,hkd,e1,Option.map_some,len_map];rfl
   .cases h
  .cases h
 .rename_i x y
  split at h
  .rename_i t u ht
   split at h
   .rename_i i j e hi hj hty
    split at h
    .rename_i hjk
     let ⟨p,e1,hp⟩:=appendV_low hS (hE.row _ _ _ hi hty) h hc
     grind[lows,builtinT]
    .cases h
   .cases h
  .cases h
 .cases h
end TL
end
section
namespace TL
open Go
section
variable {g g':Gh} {w w':World}
structure GhLe (g g':Gh):Prop where
 blk:∀o b,g.blk o=some b->g'.blk o=some b
 arr:∀o e x,g.arr o e=some x->g'.arr o e=some x
 imm:∀b,g.imm b->g'.imm b
theorem GhLe.refl (g:Gh):GhLe g g:=⟨λ_ _ h=>h,λ_ _ _ h=>h,λ_ h=>h⟩
theorem GhLe.trans {g g' g'':Gh} (h:GhLe g g') (k:GhLe g' g''):GhLe g g'':=⟨λo b e=>k.blk o b (h.blk o b e),λo e x k'=>k.arr o e x (h.arr o e x k'),λb e=>k.imm b (h.imm b e)⟩
theorem DRel.le {I I':Nat->Prop} (hI:∀b,I b->I' b) {d:D} {v:Value} (h:DRel I w d v):DRel I' w d v:=h.mono (λ_ _=>rfl) hI
theorem TRel.le (h:GhLe g g') {t:T} {v:Value} (ht:TRel g w t v):TRel g' w t v:=by
 induction ht with
 |sym d v hd=>exact .sym d v (hd.le h.imm)
 |kb b=>exact .kb b
 |kn k n=>exact .kn k n
 |ptr o off b hb=>exact .ptr o off b (h.blk o b hb)
 |ept d off ad val him hc hd=>exact .ept d off ad val (h.imm _ him) hc (λj c hj=>(hd j c hj).le h.imm)
 |epw o e i off len cap sz ad hx=>exact .epw o e i off len cap sz ad (h.arr _ _ _ hx)
 |sh o e len cap sz a hx=>exact .sh o e len cap sz a (h.arr _ _ _ hx)
 |emp a=>exact .emp a
 |clp n es a hn hd=>exact .clp n es a hn (hd.le h.imm)
 |fn f fs cs va vc hl hm _ _ ih ih'=>exact .fn f fs cs va vc hl hm ih ih'
 |ifc t x v _ ih=>exact .ifc t x v ih
 |agg cs vs hl _ ih=>exact .agg cs vs hl ih
 |tup cs vs hl _ ih=>exact .tup cs vs hl ih
 |gd c t v _ ih=>exact .gd c t v ih
 |mp o b hb=>exact .mp o b (h.blk o b hb)
 |yld o b hb=>exact .yld o b (h.blk o b hb)
 |slb o n b hb=>exact .slb o n b (h.blk o b hb)
 |itr o b hb=>exact .itr o b (h.blk o b hb)
 |ub e b h=>exact .ub e b h
 |nel o m r i len cap sz a hx=>exact .nel o m r i len cap sz a (h.arr _ _ _ hx)
 |cln j d c a hj hd=>exact .cln j d c a hj (hd.le h.imm)
theorem BoxOk.le {s s':St} {o b:Nat} (h:BoxOk g s w o b) (hle:GhLe g g') (hi:g'.imm=g.imm) (hs:s'.ob.get o=s.ob.get o):BoxOk g' s' w o b:=by
 refine ⟨by rw[hi];exact h.1,h.2.1,λob hob=>?_⟩
 rw[hs] at hob
 let ⟨x,h1,h2⟩:=h.2.2 ob hob
 exact ⟨x,h1,h2.imp (λ_ _ h=>h.le hle)⟩
theorem ArrOk.le {s s':St} {o e:Nat} {x:ASl} (h:ArrOk g s w o e x) (hi:g'.imm=g.imm) (hs:s'.ob.get o=s.ob.get o) (hle:∀k j y,g.arr k j=some y->g'.arr k j=some y) (ha:∀e',g'.arr o e'=g.arr o e'):ArrOk g' s' w o e x:=by
 refine ⟨h.1,λob hob=>?_⟩
 rw[hs] at hob
 exact (h.2 ob hob).tr (λh=>h.imm_eq hi) hle (funext ha) (λ_ _ _=>⟨rfl,by rw[hi]⟩)
theorem SRel.addArr {s:St} (hs:SRel g s w) (hn:s.nob<bigN) {sz:Nat} {es:List D} {x:ASl}
  (hx:∀b,x.at b->b<w.heap.size∧∀o,¬Owned g o b) (hok:AOk g w false sz es x) (hxs:x.sz=sz) :
  SRel (g.era s.nob 0 x) (newOb s (.arr sz es 0)).2 w∧GhLe g (g.era s.nob 0 x)∧(∀k b,Owned (g.era s.nob 0 x) k b->Owned g k b∨(k=s.nob∧x.at b)):=by
 have hnone:=hs.bnd s.nob (Nat.le_refl _)
 have harr:∀k j y,g.arr k j=some y->(g.era s.nob 0 x).arr k j=some y:=λk j y h=>by
  rw[Gh.era_other]
  .exact h
  grind
 have hle:GhLe g (g.era s.nob 0 x):=⟨λ_ _ h=>h,harr,λ_ h=>h⟩
 have hown:∀k b,Owned (g.era s.nob 0 x) k b->Owned g k b∨(k=s.nob∧x.at b):=by
  rintro k b ⟨h1,h2|⟨j,y,ad,h2,h3,h4,h5⟩⟩
  .exact .inl ⟨h1,.inl h2⟩
  .by_cases hkj:k=s.nob∧j=0
   .obtain ⟨rfl,rfl⟩:=hkj
    rw[Gh.era_same] at h2
    simp at h2
    subst h2
    exact .inr ⟨rfl,⟨ad,h3,h4,h5⟩⟩
   .rw[Gh.era_other _ _ _ _ _ _ hkj] at h2
    exact .inl ⟨h1,.inr ⟨j,y,ad,h2,h3,h4,h5⟩⟩
 refine ⟨⟨by simp only[newOb];omega,λk hk=>?_,λk b hb=>?_,λk j y hy=>?_,λb hb=>hs.imm b hb,λk k' b h h'=>?_,hs.glo⟩,hle,hown⟩
 .simp only[newOb] at hk
  refine ⟨(hs.bnd k (by omega)).1,λj=>?_⟩
  rw[Gh.era_other _ _ _ _ _ _ (by omega)]
  exact (hs.bnd k (by omega)).2 j
 .have hb':g.blk k=some b:=hb
  have hko:k≠s.nob:=λh=>by simp_all
  exact (hs.box k b hb').le hle rfl (by simp[newOb];rw[Tr.get_set64 _ _ _ _ hn,if_neg hko])
 .by_cases hkj:k=s.nob∧j=0
  .obtain ⟨rfl,rfl⟩:=hkj
   rw[Gh.era_same] at hy
   simp at hy
   subst hy
   refine ⟨λad ha hc=>(hx _ ⟨ad,ha,rfl,hc⟩).1,λob hob2=>.inl ⟨false,es,0,?_,Nat.le_refl _,λe' h=>?_,λ_=>hxs▸(hok.imm_eq rfl)⟩⟩
   .simp[newOb] at hob2
    rw[Tr.get_set64 _ _ _ _ hn,if_pos rfl] at hob2
    grind[arrOb]
   grind[Gh.era_other]
  .rw[Gh.era_other _ _ _ _ _ _ hkj] at hy
   have hko:k≠s.nob:=λh=>by simp_all
   exact (hs.arr k j y hy).le rfl (by simp[newOb];rw[Tr.get_set64 _ _ _ _ hn,if_neg hko]) harr (λe'=>Gh.era_other _ _ _ _ _ _ (λh=>hko h.1))
 .rcases hown k b h with h1|⟨h1,h3⟩<;>rcases hown k' b h' with h2|⟨h2,h4⟩
  .exact hs.uni k k' b h1 h2
  .simp_all
  .simp_all
  .rw[h1,h2]
theorem SRel.know {s:St} (hs:SRel g s w) {o b:Nat} (ho:g.blk o=some b) {ob:Ob} {x:Obj} (hh:w.heap[b]?=some x) (hr:ObRel g w b ob x) (harr:∀e,g.arr o e=none):SRel g {s with ob:=s.ob.set fuelTr o ob} w:=by
 have hlt:=hs.lt ho
 have hnb:=hs.nob
 have hget:∀k,(Tr.set fuelTr s.ob o ob).get k=if k=o then some ob else s.ob.get k:=λk=>Tr.get_set64 _ _ _ _ (by omega)
 refine ⟨hs.nob,hs.bnd,λk c hc=>?_,λk e x hx=>?_,hs.imm,hs.uni,hs.glo⟩
 .have hbox:=hs.box k c hc
  refine ⟨hbox.1,hbox.2.1,λob' hob=>?_⟩
  rw[hget] at hob
  by_cases hko:k=o
  .simp_all
  .rw[if_neg hko] at hob
   exact hbox.2.2 ob' hob
 .have hok:=hs.arr k e x hx
  have hko:k≠o:=λh=>by simp_all
  refine ⟨hok.1,λob' hob=>?_⟩
  rw[hget,if_neg hko] at hob
  exact hok.2 ob' hob
theorem SRel.step {s:St} (hs:SRel g s w) {I X:Nat->Prop} (hI:∀b,g.imm b->I b) (hIn:∀b,I b->g.imm b∨w.heap.size<=b∨X b) (hIs:∀b,I b->b<w'.heap.size) (hsize:w.heap.size<=w'.heap.size)
  (hheap:∀b,b<w.heap.size->¬X b->w'.heap[b]?=w.heap[b]?) (hX:∀o b,X b->Owned g o b->s.ob.get o=none∧¬I b) (hXi:∀b,X b->¬g.imm b) :
  SRel {g with imm:=I} s w':=by
 have hown:∀k b,Owned ({g with imm:=I}:Gh) k b->Owned g k b:=λk b h=>⟨λhi=>h.1 (hI b hi),h.2⟩
 have hk:Keeps g.imm w w':=λb hb=>hheap b (hs.imm b hb) (λhx=>hXi b hx hb)
 have hkeep:∀{t:T} {v:Value},TRel g w t v->TRel ({g with imm:=I}:Gh) w' t v:=by
  intro t v ht
  induction ht with
  |sym d v hd=>exact .sym d v (hd.mono hk hI)
  |kb b=>exact .kb b
  |kn k n=>exact .kn k n
  |ptr o off b hb=>exact .ptr o off b hb
  |ept d off ad val him hc hd=>
   exact .ept d off ad val (hI _ him) (λj c hj=>by rw[hk.cell (by rw[add_block];exact him)];grind) (λj c hj=>(hd j c hj).mono hk hI)
  |epw o e i off len cap sz ad hx=>exact .epw o e i off len cap sz ad hx
  |sh o e len cap sz a hx=>exact .sh o e len cap sz a hx
  |emp a=>exact .emp a
  |clp n es a hn hd=>exact .clp n es a hn (hd.mono hk hI)
  |fn f fs cs va vc hl hm _ _ ih ih'=>exact .fn f fs cs va vc hl hm ih ih'
  |ifc t x v _ ih=>exact .ifc t x v ih
  |agg cs vs hl _ ih=>exact .agg cs vs hl ih
  |tup cs vs hl _ ih=>exact .tup cs vs hl ih
  |gd c t v _ ih=>exact .gd c t v ih
  |mp o b hb=>exact .mp o b hb
  |yld o b hb=>exact .yld o b hb
  |slb o n b hb=>exact .slb o n b hb
  |itr o b hb=>exact .itr o b hb
  |ub e b h=>exact .ub e b h
  |nel o m r i len cap sz a hx=>exact .nel o m r i len cap sz a hx
  |cln j d c a hj hd=>exact .cln j d c a hj (hd.mono hk hI)
 have hnew:∀o b,Owned g o b->¬I b:=λo b hO hi=>by
  rcases hIn b hi with h|h|h
  .exact hO.1 h
  .have:=(hs.ownLt hO).1;omega
  grind
 refine ⟨hs.nob,hs.bnd,λk c hc=>?_,λk e x hx=>?_,hIs,λk k' b h h'=>hs.uni k k' b (hown k b h) (hown k' b h'),hs.glo.mono hk hI⟩
 .have hbox:=hs.box k c hc
  have hO:Owned g k c:=⟨hbox.1,.inl hc⟩
  refine ⟨hnew k c hO,Nat.lt_of_lt_of_le hbox.2.1 hsize,λob hob=>?_⟩
  let ⟨x,h2,h3⟩:=hbox.2.2 ob hob
  exact ⟨x,by grind,h3.imp (λ_ _ h=>hkeep h)⟩
 .have hok:=hs.arr k e x hx
  refine ⟨λad ha hc=>Nat.lt_of_lt_of_le (hok.1 ad ha hc) hsize,λob hob=>?_⟩
  refine (hok.2 ob hob).tr (λ{fz sz es} hA=>?_) (λ_ _ _ h=>h) rfl (λb k1 hc=>?_)
  rotate_left
  .have hb:b<w.heap.size:=hok.1 _ k1 hc
   by_cases him:g.imm b
   .grind
   .have hO:Owned g k b:=⟨him,.inr ⟨e,x,_,hx,k1,rfl,hc⟩⟩
    grind
  refine ⟨hA.len,hA.cap,hA.rows,hA.pos,hA.byt,λhc=>?_⟩
  let ⟨b,vs,ty,k1,k2,k3,k4,k5⟩:=hA.mem hc
  have hb:b<w.heap.size:=hok.1 _ k1 hc
  by_cases him:g.imm b
  .refine ⟨b,vs,ty,k1,⟨λ_=>hI b him,λ_=>k2.2 him⟩,by grind,k4,λi d j c hd hj=>?_⟩
   let ⟨v,hv,hr⟩:=k5 i d j c hd hj
   exact ⟨v,hv,hr.mono hk hI⟩
  .have hO:Owned g k b:=⟨him,.inr ⟨e,x,_,hx,k1,rfl,hc⟩⟩
   have hnx:¬X b:=λhxx=>by grind
   refine ⟨b,vs,ty,k1,⟨λhf=>absurd (k2.1 hf) him,λhi=>absurd hi (hnew k b hO)⟩,by simp_all,k4,λi d j c hd hj=>?_⟩
   let ⟨v,hv,hr⟩:=k5 i d j c hd hj
   exact ⟨v,hv,hr.mono hk hI⟩
def Gh.drop (g:Gh) (os:List Nat):Gh:={g with arr:=λo e=>if o∈os then none else g.arr o e}
theorem Gh.drop_arr {os:List Nat} {o e:Nat} {x:ASl} (h:(g.drop os).arr o e=some x):o∉os∧g.arr o e=some x:=by
 grind[Gh.drop]
theorem Gh.drop_owned {os:List Nat} {k b:Nat} (h:Owned (g.drop os) k b):Owned g k b:=by
 obtain ⟨h1,h2|⟨e,x,ad,h2,h3⟩⟩:=h
 .exact ⟨h1,.inl h2⟩
 .exact ⟨h1,.inr ⟨e,x,ad,(Gh.drop_arr h2).2,h3⟩⟩
mutual
def mentT (os:List Nat):T->Bool
 | .ptr o _=>os.contains o
 | .epw o _ _ _=>os.contains o
 | .sh o _=>os.contains o
 | .mp o=>os.contains o
 | .yld o=>os.contains o
 | .slb o _=>os.contains o
 | .itr o=>os.contains o
 | .fn _ a b=>mentTs os a||mentTs os b
 | .ifc _ v=>mentT os v
 | .agg cs=>mentTs os cs
 | .tup cs=>mentTs os cs
 | .gd _ v=>mentT os v
 | .nel o m _ _=>os.contains o||os.contains m
 |_=>false
def mentTs (os:List Nat):List T->Bool
 |[]=>false
 |v ::l=>mentT os v||mentTs os l
end
theorem mentTs_mem {os:List Nat}:∀{l:List T},mentTs os l=false->∀t∈l,mentT os t=false
 |[],_,t,ht=>by cases ht
 |a ::l,h,t,ht=>by
  simp[mentTs,Bool.or_eq_false_iff] at h
  rcases List.mem_cons.1 ht with rfl|ht
  .exact h.1
  .exact mentTs_mem h.2 t ht
theorem TRel.drop {os:List Nat} {t:T} {v:Value} (h:TRel g w t v) (hm:mentT os t=false):TRel (g.drop os) w t v:=by
 induction h with
 |sym d v hd=>exact .sym d v hd
 |kb b=>exact .kb b
 |kn k n=>exact .kn k n
 |ptr o off b h=>exact .ptr o off b h
 |ept d off ad val hi hc hd=>exact .ept d off ad val hi hc hd
 |epw o e i off len cap sz ad h=>
  simp[mentT,List.contains_eq_mem,decide_eq_false_iff_not] at hm
  exact .epw o e i off len cap sz ad (by simp[Gh.drop,if_neg hm];exact h)
 |sh o e len cap sz a h=>
  simp[mentT,List.contains_eq_mem,decide_eq_false_iff_not] at hm
  exact .sh o e len cap sz a (by simp[Gh.drop,if_neg hm];exact h)
 |emp a=>exact .emp a
 |clp k es a hn hd=>exact .clp k es a hn hd
 |fn f fs cs va vc hl hm' _ _ ih ih'=>
  simp[mentT,Bool.or_eq_false_iff] at hm
  exact .fn f fs cs va vc hl hm' (λj t v h1 h2=>ih j t v h1 h2 (mentTs_mem hm.1 t (List.mem_of_getElem? h1))) (λj t v h1 h2=>ih' j t v h1 h2 (mentTs_mem hm.2 t (List.mem_of_getElem? h1)))
 |ifc t x v _ ih=>exact .ifc t x v (ih hm)
 |agg cs vs hl _ ih=>exact .agg cs vs hl (λj t v h1 h2=>ih j t v h1 h2 (mentTs_mem hm t (List.mem_of_getElem? h1)))
 |tup cs vs hl _ ih=>exact .tup cs vs hl (λj t v h1 h2=>ih j t v h1 h2 (mentTs_mem hm t (List.mem_of_getElem? h1)))
 |gd c t v _ ih=>exact .gd c t v (λhc=>ih hc hm)
 |mp o b h=>exact .mp o b h
 |yld o b h=>exact .yld o b h
 |slb o n b h=>exact .slb o n b h
 |itr o b h=>exact .itr o b h
 |ub e b h=>exact .ub e b h
 |nel o m r i len cap sz a h=>
  simp[mentT,Bool.or_eq_false_iff,List.contains_eq_mem,decide_eq_false_iff_not] at hm
  exact .nel o m r i len cap sz a (by simp_all[Gh.drop])
 |cln j d c a hj hd=>exact .cln j d c a hj hd
def LeftOb (os:List Nat) (ob ob2:Ob):Prop:=LeftObP (mentT os) ob ob2
theorem SRel.drop {s s2:St} (hs:SRel g s w) {os:List Nat} (hn:s2.nob=s.nob) (hob:∀o ob2,s2.ob.get o=some ob2->∃ob,s.ob.get o=some ob∧LeftOb os ob ob2):SRel (g.drop os) s2 w:=by
 refine ⟨hn▸hs.nob,λo ho=>⟨(hs.bnd o (hn▸ho)).1,λe=>?_⟩,λo b hb=>?_,λo e x hx=>?_,hs.imm,λo o' b h h'=>hs.uni o o' b (Gh.drop_owned h) (Gh.drop_owned h'),hs.glo⟩
 .simp only[Gh.drop]
  split
  .rfl
  .exact (hs.bnd o (hn▸ho)).2 e
 .let ⟨h1,h2,h3⟩:=hs.box o b hb
  refine ⟨h1,h2,λob2 hob2=>?_⟩
  let ⟨ob,k1,k2⟩:=hob o ob2 hob2
  let ⟨x,h4,h5⟩:=h3 ob k1
  exact ⟨x,h4,h5.left (λt v ht hm=>ht.drop hm) k2⟩
 .let ⟨ho,hx'⟩:=Gh.drop_arr hx
  let ⟨h1,h2⟩:=hs.arr o e x hx'
  refine ⟨h1,λob2 hob2=>?_⟩
  let ⟨ob,k1,k2⟩:=hob o ob2 hob2
  refine (h2 ob k1).left k2 (λh=>h.imm_eq rfl) (λm j y hm h=>?_) (funext λe'=>by simp[Gh.drop,if_neg ho]) (λ_ _ _=>⟨rfl,Iff.rfl⟩)
  simp_all[mentT,Gh.drop]
end
end TL
end
section
namespace TL
open Go
variable {S:Sg}
def ghI (I:Nat->Prop):Gh:=⟨λ_=>none,λ_ _=>none,I⟩
def AOk0 (I:Nat->Prop) (w:World) (sz:Nat) (es:List D) (x:ASl):Prop:=AOk (ghI I) w false sz es x∧x.sz=sz
def NOk0 (S:Sg) (I:Nat->Prop) (w:World) (n j:Nat) (t:Ty) (l:List (S.A n)) (a:ASl) (rl:List ASl):Prop:=
 ∃hl:List Value,hl.length=l.length∧AOk0 I w (S.width (.st n)) (lits j (l.map (enc S (.st n))) hl) a∧rl.length=l.length∧
  (∀(i:Nat) (y:ASl),rl[i]?=some y->hl[i]?=some (.slice y.a y.len y.cap))∧(∀(i:Nat) (y:ASl) (x:S.A n),rl[i]?=some y->l[i]?=some x->AOk0 I w (S.width t) ((getC n j t x).map (enc S t)) y)∧colB S n j t=true
inductive HRel (S:Sg) (I:Nat->Prop) (w:World):(cs:List Ck)->cden S.A cs->List Value->List ASl->Prop where
 |nil:HRel S I w [] () [] []
 |dat {t:Ty} {cs:List Ck} {x:den S.A t} {h:cden S.A cs} {v:Value} {vs:List Value} {al:List ASl} (hd:DRel I w (enc S t x) v) (hr:HRel S I w cs h vs al):HRel S I w (.dat t ::cs) (x,h) (v ::vs) al
 |own {e:Ty} {cs:List Ck} {l:List (den S.A e)} {h:cden S.A cs} {a:ASl} {vs:List Value} {al:List ASl} (ho:AOk0 I w (S.width e) (l.map (enc S e)) a) (hr:HRel S I w cs h vs al) :
   HRel S I w (.own e ::cs) (l,h) (.slice a.a a.len a.cap ::vs) (a ::al)
 |nown {n j:Nat} {t:Ty} {cs:List Ck} {l:List (S.A n)} {h:cden S.A cs} {a:ASl} {rl:List ASl} {vs:List Value} {al:List ASl} (ho:NOk0 S I w n j t l a rl) (hr:HRel S I w cs h vs al) :
   HRel S I w (.nown n j t ::cs) (l,h) (.slice a.a a.len a.cap ::vs) (a ::(rl++al))
 |nl {e:Ty} {cs:List Ck} {h:cden S.A cs} {a:Option Addr} {vs:List Value} {al:List ASl} (hr:HRel S I w cs h vs al):HRel S I w (.nil e ::cs) ([],h) (.slice a 0 0 ::vs) al
 |ptr {t:Ty} {cs:List Ck} {x:den S.A t} {h:cden S.A cs} {ad:Addr} {val:Nat->Value} {vs:List Value} {al:List ASl} (hi:I ad.block) (hc:∀j c,(enc S t x).cells[j]?=some c->w.cell? (ad.add j)=some (val j))
   (hd:∀j c,(enc S t x).cells[j]?=some c->DRel I w c (val j)) (hr:HRel S I w cs h vs al):HRel S I w (.ptr t ::cs) (x,h) (.pointer (some (ad.add 0)) ::vs) al
inductive AL (g:Gh):List ASl->List Nat->Prop where
 |nil:AL g [] []
 |emp {a:ASl} {al:List ASl} {ow:List Nat} (h:a.cap=0) (hr:AL g al ow):AL g (a ::al) ow
 |own {a:ASl} {al:List ASl} {o e:Nat} {ow:List Nat} (h:g.arr o e=some a) (hr:AL g al ow):AL g (a ::al) (o ::ow)
 |rows {rl al:List ASl} {m:Nat} {ow:List Nat} (h:∀y∈rl,∃e,g.arr m e=some y) (hap:rl.Pairwise λx y=>∀b,x.at b->¬y.at b) (hr:AL g al ow):AL g (rl++al) (m ::ow)
theorem AL.append {g:Gh} {al al':List ASl} {ow ow':List Nat} (h:AL g al ow) (h':AL g al' ow'):AL g (al++al') (ow++ow'):=by
 induction h with
 |nil=>exact h'
 |emp h _ ih=>exact .emp h ih
 |own h _ ih=>exact .own h ih
 |rows h hap _ ih=>rw[List.append_assoc];exact .rows h hap ih
def Apart (al:List ASl):Prop:=al.Pairwise λx y=>∀b,x.at b->¬y.at b
theorem AL.owned {g:Gh} {al:List ASl} {ow:List Nat} (h:AL g al ow) (hi:∀a∈al,∀b,a.at b->¬g.imm b):∀a∈al,∀b,a.at b->∃o∈ow,Owned g o b:=by
 induction h with
 |nil=>simp_all
 |emp h _ ih=>
  intro a ha b hb
  rcases List.mem_cons.1 ha with rfl|ha
  .exact absurd h hb.choose_spec.2.2
  grind
 |own h _ ih=>
  intro a ha b hb
  rcases List.mem_cons.1 ha with rfl|ha
  .let ⟨ad,h1,h2,h3⟩:=hb
   exact ⟨_,List.mem_cons_self,hi _ List.mem_cons_self b ⟨ad,h1,h2,h3⟩,.inr ⟨_,_,ad,h,h1,h2,h3⟩⟩
  grind
 |rows h _ _ ih=>
  intro a ha b hb
  rcases List.mem_append.1 ha with ha|ha
  .let ⟨e,he⟩:=h a ha
   let ⟨ad,h1,h2,h3⟩:=hb
   exact ⟨_,List.mem_cons_self,hi _ (List.mem_append_left _ ha) b ⟨ad,h1,h2,h3⟩,.inr ⟨_,_,ad,he,h1,h2,h3⟩⟩
  grind
theorem AL.apart {g:Gh} {s:St} {w:World} (hs:SRel g s w) {al:List ASl} {ow:List Nat} (h:AL g al ow) (hn:ow.Nodup) (hi:∀a∈al,∀b,a.at b->¬g.imm b):Apart al:=by
 induction h with
 |nil=>exact .nil
 |emp h hr ih=>
  refine .cons (λa ha b hb=>absurd h hb.choose_spec.2.2) (ih hn (λa ha=>hi a (List.mem_cons_of_mem _ ha)))
 |own h hr ih=>
  rw[List.nodup_cons] at hn
  refine .cons (λa ha b hb hb'=>?_) (ih hn.2 (λa ha=>hi a (List.mem_cons_of_mem _ ha)))
  let ⟨o',ho',hO'⟩:=hr.owned (λa ha=>hi a (List.mem_cons_of_mem _ ha)) a ha b hb'
  let ⟨ad,h1,h2,h3⟩:=hb
  have hO:Owned g _ b:=⟨hO'.1,.inr ⟨_,_,ad,h,h1,h2,h3⟩⟩
  have:=hs.uni _ _ b hO hO'
  simp_all
 |rows h hap hr ih=>
  rw[List.nodup_cons] at hn
  refine List.pairwise_append.2 ⟨hap,ih hn.2 (λa ha=>hi a (List.mem_append_right _ ha)),λy hy a ha b hb hb'=>?_⟩
  let ⟨e,he⟩:=h y hy
  let ⟨o',ho',hO'⟩:=hr.owned (λa ha=>hi a (List.mem_append_right _ ha)) a ha b hb'
  let ⟨ad,h1,h2,h3⟩:=hb
  have hO:Owned g _ b:=⟨hO'.1,.inr ⟨_,_,ad,he,h1,h2,h3⟩⟩
  have:=hs.uni _ _ b hO hO'
  simp_all
theorem nodupN_iff:∀{l:List Nat},nodupN l=true->l.Nodup
 |[],_=>.nil
 |a ::l,h=>by
  simp[nodupN,Bool.and_eq_true,List.contains_eq_mem,decide_eq_false_iff_not] at h
  exact List.nodup_cons.2 ⟨h.1,nodupN_iff h.2⟩
theorem apartN_iff {l m:List Nat} (h:apartN l m=true):∀o∈l,o∉m:=by
 grind[apartN]
theorem AOk0.at_ {I:Nat->Prop} {w:World} {sz:Nat} {es:List D} {a:ASl} (h:AOk0 I w sz es a) {b:Nat} (hb:a.at b):¬I b∧b<w.heap.size:=by
 let ⟨h1,vs,ty,_,h3⟩:=h.1.at_ hb
 exact ⟨λhi=>Bool.noConfusion (h1.2 hi),(Array.getElem?_eq_some_iff.1 h3).1⟩
theorem NOk0.at_ {I:Nat->Prop} {w:World} {n j:Nat} {t:Ty} {l:List (S.A n)} {a:ASl} {rl:List ASl} (h:NOk0 S I w n j t l a rl):∀y∈a ::rl,∀b,y.at b->¬I b∧b<w.heap.size:=by
 let ⟨hl,_,h2,h3,_,h5,_⟩:=h
 intro y hy b hb
 rcases List.mem_cons.1 hy with rfl|hy
 .exact h2.at_ hb
 .let ⟨i,hi⟩:=List.getElem?_of_mem hy
  have:i<l.length:=by grind
  exact (h5 i y _ hi (List.getElem?_eq_getElem this)).at_ hb
theorem HRel.at_ {I:Nat->Prop} {w:World} {cs:List Ck} {x:cden S.A cs} {vs:List Value} {al:List ASl} (h:HRel S I w cs x vs al):∀a∈al,∀b,a.at b->¬I b∧b<w.heap.size:=by
 induction h with
 |nil=>simp_all
 |dat _ _ ih=>exact ih
 |own ho _ ih=>
  intro a ha b hb
  rcases List.mem_cons.1 ha with rfl|ha
  .exact ho.at_ hb
  grind
 |nown ho _ ih=>
  intro a ha b hb
  rw[<-List.cons_append] at ha
  rcases List.mem_append.1 ha with ha|ha
  .exact ho.at_ a ha b hb
  grind
 |nl _ ih=>exact ih
 |ptr _ _ _ _ ih=>exact ih
theorem HRel.notImm {I:Nat->Prop} {w:World} {cs:List Ck} {x:cden S.A cs} {vs:List Value} {al:List ASl} (h:HRel S I w cs x vs al):∀a∈al,∀b,a.at b->¬I b:=λa ha b hb=>(h.at_ a ha b hb).1
theorem HRel.lt {I:Nat->Prop} {w:World} {cs:List Ck} {x:cden S.A cs} {vs:List Value} {al:List ASl} (h:HRel S I w cs x vs al):∀a∈al,∀b,a.at b->b<w.heap.size:=λa ha b hb=>(h.at_ a ha b hb).2
theorem HRel.len {I:Nat->Prop} {w:World} {cs:List Ck} {x:cden S.A cs} {vs:List Value} {al:List ASl} (h:HRel S I w cs x vs al):vs.length=cs.length:=by
 induction h with
 |nil=>rfl
 |dat _ _ ih=>simp[ih]
 |own _ _ ih=>simp[ih]
 |nown _ _ ih=>simp[ih]
 |nl _ ih=>simp[ih]
 |ptr _ _ _ _ ih=>simp[ih]
theorem HRel.append {I:Nat->Prop} {w:World} {c:Ck} {cs:List Ck} {x:den S.A c.ty} {h:cden S.A cs} {v:Value} {vs:List Value} {al al':List ASl} (h1:HRel S I w [c] (x,()) [v] al) (h2:HRel S I w cs h vs al') :
  HRel S I w (c ::cs) (x,h) (v ::vs) (al++al'):=by
 cases h1 with
 |dat hd hr=>cases hr;exact .dat hd h2
 |own ho hr=>cases hr;exact .own ho h2
 |nown ho hr=>cases hr;rw[List.append_nil,List.cons_append];exact .nown ho h2
 |nl hr=>cases hr;exact .nl h2
 |ptr hi hc hd hr=>cases hr;exact .ptr hi hc hd h2
theorem trel_lowTy {g:Gh} {w:World} {t:Ty} {x:den S.A t} {v:Value} (h:DRel g.imm w (enc S t x) v):TRel g w (lowTy S t x) v:=by
 cases t with
 |st n=>
  cases h with
  |agg cs vs hl hf hr=>
   refine .agg _ vs (by simpa using hl) λj t v h1 h2=>?_
   rw[List.getElem?_map,Option.map_eq_some_iff] at h1
   obtain ⟨d,hd,rfl⟩:=h1
   exact .sym _ _ (hr j d v hd h2)
 |_=>exact .sym _ _ h
theorem Tr.get_set_ne {α:Type}:∀(n:Nat) (t:Tr α) (k j:Nat) (x:α),j≠k->(Tr.set n t k x).get j=t.get j
 |0,_,_,_,_,_=>rfl
 |n+1,t,0,j,x,h=>by
  cases j with
  |zero=>exact absurd rfl h
  |succ j=>
   cases t with
   |nil=>rw[Tr.set_zero_nil,Tr.get_succ,Tr.get_nil,Tr.get_nil];split<;>rfl
   |node v l r=>rw[Tr.set_zero_node,Tr.get_succ,Tr.get_succ]
 |n+1,t,k+1,j,x,h=>by
  cases t with
  |nil=>
   rw[Tr.set_succ_nil]
   cases j with
   |zero=>split<;>rw[Tr.get_zero,Tr.get_nil]
   |succ j=>
    by_cases hk2:k%2=0
    .rw[if_pos hk2,Tr.get_succ,Tr.get_nil,Tr.get_nil]
     by_cases hj2:j%2=0
     .rw[if_pos hj2,Tr.get_set_ne n _ _ _ _ (by omega),Tr.get_nil]
     .rw[if_neg hj2]
    .rw[if_neg hk2,Tr.get_succ,Tr.get_nil,Tr.get_nil]
     by_cases hj2:j%2=0
     .rw[if_pos hj2]
     .rw[if_neg hj2,Tr.get_set_ne n _ _ _ _ (by omega),Tr.get_nil]
  |node v l r=>
   rw[Tr.set_succ_node]
   cases j with
   |zero=>split<;>rw[Tr.get_zero,Tr.get_zero]
   |succ j=>
    by_cases hk2:k%2=0
    .rw[if_pos hk2,Tr.get_succ,Tr.get_succ]
     by_cases hj2:j%2=0
     .rw[if_pos hj2,if_pos hj2,Tr.get_set_ne n _ _ _ _ (by omega)]
     .rw[if_neg hj2,if_neg hj2]
    .rw[if_neg hk2,Tr.get_succ,Tr.get_succ]
     by_cases hj2:j%2=0
     .rw[if_pos hj2,if_pos hj2]
     .rw[if_neg hj2,if_neg hj2,Tr.get_set_ne n _ _ _ _ (by omega)]
theorem freeze_other:∀{os:List Nat} {s s':St},freeze s os=some s'->∀o,o∉os->s'.ob.get o=s.ob.get o
 |[],s,s',h,o,_=>by simp[freeze,Option.some.injEq] at h;rw[h]
 |k ::os,s,s',h,o,ho=>by
  have hk:o≠k:=λe=>ho (by simp_all)
  have ho':o∉os:=λhm=>ho (List.mem_cons_of_mem _ hm)
  obtain ⟨_,⟨_,_,_,_,h⟩|⟨_,_,_,_,h⟩|⟨_,h⟩|⟨nj,sz,es,e,m,r,rss,szr,_,_,_,⟨hm,_⟩,_,h⟩⟩:=freeze_cons h
  .rw[freeze_other h o ho']
   exact Tr.get_set_ne _ _ _ _ _ hk
  .exact freeze_other h o ho'
  .exact freeze_other h o ho'
  .rw[freeze_other h o ho']
   show ((s.ob.set fuelTr m _).set fuelTr k _).get o=_
   rw[Tr.get_set_ne _ _ _ _ _ hk,Tr.get_set_ne _ _ _ _ _ (λe=>ho' (by grind))]
def arrB:ObV S->Bool
 | .arr ..|.nar ..|.rws ..|.bbf ..=>true
 |_=>false
theorem arrB_isArr {ob:ObV S} (h:arrB ob=true):(lowOb ob).isArr=true:=by cases ob<;>first|rfl|cases h
theorem lits_fulls {nj:Nat}:∀{es:List D} {rss:List (List D)} {hl:List Value},es.length<=rss.length->lits nj (fulls nj es rss) hl=lits nj es hl
 |[],rss,hl,_=>by rfl
 |d ::es,[],hl,h=>by simp at h
 |d ::es,rs ::rss,[],_=>by rfl
 |d ::es,rs ::rss,v ::hl,h=>by
  have:=lits_fulls (nj:=nj) (es:=es) (rss:=rss) (hl:=hl) (by simpa using h)
  simp_all[lits,fulls,litD,fullD,D.cells]
theorem hget_hset:∀{ts:List Ty} {h:hden S.A ts} {j:Nat} {t:Ty} {y:den S.A t},nth ts j=some t->hget ts (hset ts h j t y) j t=y
 |[],_,_,_,_,h=>by simp[nth] at h
 | τ ::ts,h,0,t,y,e=>by
  grind[nth,hget,hset,castTy_self]
 | τ ::ts,h,j+1,t,y,e=>by
  simp[nth] at e
  simp[hget,hset,hget_hset e]
theorem getC_setC (hS:SgOk S) {n j:Nat} {t:Ty} (hc:colB S n j t=true) (x:S.A n) (y:List (den S.A t)):getC n j t (setC n j t x y)=y:=by
 rw[getC,setC,hS.get_mk,hget_hset (colB_iff hc)]
theorem packC_sound (hS:SgOk S) {g:Gh} {w:World} {s:StV S} (hs:SRel g (lowSt s) w) {c:Ck} {v:V S} {val:Value} {x:den S.A c.ty} {fz ow:List Nat} (h:packC s c v=some (x,fz,ow)) (hv:TRel g w (low v) val) :
  (∀o∈fz,Live g (lowSt s) o)∧(∀o∈ow,s.fl<=o∧s.lo<=o∧o<s.nob∧∃ob,s.ob.get o=some ob∧arrB ob=true)∧∀(g1:Gh) (s1:St) (fz':List Nat),SRel g1 s1 w->Ext s.fl g w g1 w->Frozen (lowSt s) s1 fz'->(∀o∈fz,o∈fz')->(∀o∈ow,s1.ob.get o=(lowSt s).ob.get o)->
   ∃al,HRel S g1.imm w [c] (x,()) [val] al∧AL g1 al ow:=by
 cases c with
 |dat t=>
  simp[packC] at h
  split at h
  .rename_i y os hy
   obtain ⟨rfl,rfl,rfl⟩:=h
   let ⟨p,hd,hp⟩:=toTy_low hS s t v hy
   let ⟨h1,h2⟩:=toD_sound hs (low v) hd hp hv
   refine ⟨h1,λo ho=>(by cases ho),λg1 s1 fz' hs1 he hf hsub _=>⟨[],.dat ?_ .nil,.nil⟩⟩
   exact h2 g1 s1 hs1 he (hf.sub hsub)
  .cases h
 |nil e=>
  cases v with
  |emp=>
   obtain ⟨rfl,rfl,rfl⟩:=h
   cases hv with
   |emp a=>exact ⟨λo ho=>(by cases ho),λo ho=>(by cases ho),λg1 s1 fz' hs1 he hf hsub _=>⟨[],.nl .nil,.nil⟩⟩
  |_=>simp[packC] at h
 |ptr t=>simp[packC] at h
 |own e=>
  cases v with
  |emp=>
   rcases cond_some h with ⟨hb,h⟩|⟨_,h⟩
   .obtain ⟨rfl,rfl,rfl⟩:=h
    have hpos:1<=S.width e:=Nat.le_of_ble_eq_true hb
    cases hv with
    |emp a=>
    refine ⟨λo ho=>(by cases ho),λo ho=>(by cases ho),λg1 s1 fz' hs1 he hf hsub _=>⟨[⟨a,0,0,S.width e⟩],?_,.emp rfl .nil⟩⟩
    refine HRel.own (a:=⟨a,0,0,S.width e⟩) ⟨⟨rfl,Nat.le_refl _,by simp,by omega,by simp,λh=>absurd rfl h⟩,rfl⟩ .nil
   .cases h
  |sh o r=>
   simp[packC] at h
   split at h
   .rename_i t l era ho
    rcases cond_some h with ⟨hb,h9⟩|⟨_,h9⟩
    .clear h
     split at h9
     .rename_i l' hl
      obtain ⟨rfl,hh⟩:=castL_eq hl
      cases hh
      simp only[Bool.and_eq_true] at hb
      have hre:=beq_iff'.1 hb.1
      subst hre
      obtain ⟨rfl,rfl,rfl⟩:=h9
      cases hv with
      |sh _ _ len cap sz a hx=>
      have holt:=hs.lt' hx
      refine ⟨λo ho=>(by cases ho),λk hk=>?_,λg1 s1 fz' hs1 he hf hsub hsame=>?_⟩
      .rw[List.mem_singleton] at hk
       subst hk
       exact ⟨Nat.le_of_ble_eq_true hb.2.1,Nat.le_of_ble_eq_true hb.2.2,holt,_,ho,rfl⟩
      .have hx1:=he.arr _ _ _ hx
       have ho1:s1.ob.get o=some (arrOb false (S.width t) (l.map (enc S t)) r):=by
        rw[hsame o (by simp),lowSt_get,ho]
        rfl
       let ⟨hok,hsz⟩:=hs1.arrNow ho1 hx1
       exact ⟨[_],HRel.own ⟨hok.imm_eq rfl,hsz⟩ .nil,.own hx1 .nil⟩
     .cases h9
    .cases h9
   .cases h
  |_=>simp[packC] at h
 |nown n j t=>
  cases v with
  |emp=>
   rcases cond_some h with ⟨hb,h⟩|⟨_,h⟩
   .obtain ⟨rfl,rfl,rfl⟩:=h
    simp only[Bool.and_eq_true] at hb
    have hpos:1<=S.width (.st n):=Nat.le_of_ble_eq_true hb.1
    cases hv with
    |emp a=>
    refine ⟨λo ho=>(by cases ho),λo ho=>(by cases ho),λg1 s1 fz' hs1 he hf hsub _=>⟨[⟨a,0,0,S.width (.st n)⟩],?_,.emp rfl .nil⟩⟩
    exact HRel.nown (a:=⟨a,0,0,S.width (.st n)⟩) (rl:=[]) ⟨[],rfl,⟨⟨rfl,Nat.le_refl _,by simp[lits],by omega,by simp[lits],λh=>absurd rfl h⟩,rfl⟩,rfl,by simp,by simp,hb.2.1⟩ .nil
   .cases h
  |sh o r=>
   simp[packC] at h
   split at h
   rotate_left
   .cases h
   rename_i n' j' l era m rera ho
   split at h
   rotate_left
   .cases h
   rename_i t' rss hrw
   rcases cond_some h with ⟨hb,h9⟩|⟨_,h9⟩
   rotate_left
   .cases h9
   clear h
   simp only[Bool.and_eq_true] at hb
   let ⟨b1,b2,b3,b4,b5,b6,b7,b8,b9⟩:=hb
   have hre:=beq_iff'.1 b1
   subst hre
   have hjj:=beq_iff'.1 b2
   subst hjj
   have htt:=tyEq_eq b9
   subst htt
   split at h9
   rotate_left
   .cases h9
   rename_i l' hl
   let ⟨e1,hh⟩:=castL_eq hl
   cases e1
   cases hh
   simp only[Option.some.injEq,Prod.mk.injEq] at h9
   obtain ⟨rfl,rfl,rfl⟩:=h9
   have hmlt:m<s.nob:=Nat.le_of_ble_eq_true b7
   cases hv with
   |sh _ _ len cap sz a hx=>
   have holt:=hs.lt' hx
   let ⟨szm,hm⟩:=rwsT_some (rwsV_low hrw)
   obtain ⟨obm,hobm,hobmB⟩:∃ob,s.ob.get m=some ob∧arrB ob=true:=by
    cases hq:s.ob.get m with
    |none=>rw[lowSt_get,hq] at hm;cases hm
    |some ob=>
     rw[lowSt_get,hq] at hm
     cases ob<;>first|exact ⟨_,rfl,rfl⟩|cases hm
   refine ⟨λo ho=>(by cases ho),λk hk=>?_,λg1 s1 fz' hs1 he hf hsub hsame=>?_⟩
   .simp at hk
    rcases hk with rfl|rfl
    .exact ⟨Nat.le_of_ble_eq_true b3,Nat.le_of_ble_eq_true b4,holt,_,ho,rfl⟩
    simp_all
   .have hx1:=he.arr _ _ _ hx
    have ho1:s1.ob.get o=some (.nar j (S.width (.st n)) (l.map (enc S (.st n))) r m rera none):=by
     rw[hsame o (by simp),lowSt_get,ho]
     rfl
    have hm1:s1.ob.get m=some (.rws szm (rss.map (·.map (enc S t'))) rera):=by
     rw[hsame m (by simp),hm]
    have hszm:szm=S.width t':=by
     have h1:=hrw
     unfold rwsV at h1
     split at h1
     .rename_i t0 rss0 r0 hq
      rcases cond_some h1 with ⟨_,h1⟩|⟨_,h1⟩
      .cases h1
       rw[lowSt_get,hq] at hm
       cases hm
       rfl
      .cases h1
     .cases h1
    let ⟨q1,q2,q3,q4⟩:=hs1.narNow ho1 hx1
    let ⟨hl0,q5,q6,q7⟩:=q4 rfl
    simp at q5
    have hrow:∀i,i<l.length->∃y rs,g1.arr m (rc rera i)=some y∧hl0[i]?=some (.slice y.a y.len y.cap)∧rss[i]?=some rs∧AOk g1 w false (S.width t') (rs.map (enc S t')) y∧y.sz=S.width t':=by
     intro i hi
     let ⟨y,hy,hv⟩:=q7.2 i _ (List.getElem?_eq_getElem (by omega)) (by simp)
     let ⟨k1,rs,k2,k3⟩:=(hs1.rwsNow hm1 hy).2.2 i rfl
     grind
    have hex:∀i:Nat,∃y:ASl,i<l.length->∃rs,g1.arr m (rc rera i)=some y∧hl0[i]?=some (.slice y.a y.len y.cap)∧rss[i]?=some rs∧AOk g1 w false (S.width t') (rs.map (enc S t')) y∧y.sz=S.width t':=λi=>by
     grind
    let ⟨ys,hys⟩:=Classical.axiomOfChoice hex
    have hget:∀(i:Nat) (y:ASl),((List.range l.length).map ys)[i]?=some y->i<l.length∧y=ys i:=λi y h=>by
     grind
    have hrl:l.length<=rss.length:=by
     grind
    have hlen:(fullL n j t' l rss).length=l.length:=by simp[fullL];omega
    refine ⟨_,HRel.nown (a:=⟨a,len,cap,sz⟩) (rl:=(List.range l.length).map ys) ⟨hl0,by omega,⟨?_,q1⟩,by grind,λi y hi=>?_,λi y x hi hx=>?_,b8⟩ .nil,?_⟩
    .rw[full_map hS b8,lits_fulls (by grind)]
     exact q6.imm_eq rfl
    .grind
    .obtain ⟨h1,rfl⟩:=hget i y hi
     let ⟨rs,_,_,h3,h4,h5⟩:=hys i h1
     have hxx:x=setC n j t' (l[i]) rs:=by
      grind[fullL]
     rw[hxx,getC_setC hS b8]
     exact ⟨h4.imm_eq rfl,h5⟩
    .refine .own hx1 ?_
     refine .rows (λy hy=>?_) ?_ .nil
     .grind
     .refine List.pairwise_iff_getElem.2 λi1 i2 l1 l2 hlt b hb1 hb2=>?_
      let ⟨h1,e1⟩:=hget i1 _ (List.getElem?_eq_getElem l1)
      let ⟨h2,e2⟩:=hget i2 _ (List.getElem?_eq_getElem l2)
      rw[e1] at hb1
      rw[e2] at hb2
      let ⟨_,k1,_⟩:=hys i1 h1
      let ⟨_,k2,_⟩:=hys i2 h2
      exact (hs1.rwsNow hm1 k1).2.1 i1 i2 _ _ (by omega) k1 k2 b hb1 hb2
  |_=>simp[packC] at h
theorem packCs_sound (hS:SgOk S) {g:Gh} {w:World} {s:StV S} (hs:SRel g (lowSt s) w):∀{cs:List Ck} {l:List (V S)} {vals:List Value} {x:cden S.A cs} {fz ow:List Nat},packCs s cs l=some (x,fz,ow)->PW (TRel g w) (lows l) vals->
  (∀o∈fz,Live g (lowSt s) o)∧(∀o∈ow,s.fl<=o∧s.lo<=o∧o<s.nob∧∃ob,s.ob.get o=some ob∧arrB ob=true)∧∀(g1:Gh) (s1:St) (fz':List Nat),SRel g1 s1 w->Ext s.fl g w g1 w->Frozen (lowSt s) s1 fz'->(∀o∈fz,o∈fz')->(∀o∈ow,s1.ob.get o=(lowSt s).ob.get o)->
   ∃al,HRel S g1.imm w cs x vals al∧AL g1 al ow
 |[],[],vals,x,fz,ow,h,hv=>by
  obtain ⟨_,rfl,rfl⟩:=h
  have:vals=[]:=List.eq_nil_of_length_eq_zero (by have:=hv.1;simpa[lows] using this.symm)
  subst this
  exact ⟨λo ho=>(by cases ho),λo ho=>(by cases ho),λ_ _ _ _ _ _ _ _=>⟨[],.nil,.nil⟩⟩
 |c ::cs,v ::l,vals,x,fz,ow,h,hv=>by
  simp[packCs] at h
  split at h
  .rename_i x1 a1 b1 h1 a2 b2 e1 e2
   simp at h
   obtain ⟨rfl,rfl,rfl⟩:=h
   match vals,hv with
   |val ::vals,hv=>
    have hv1:TRel g w (low v) val:=hv.2 0 _ _ rfl rfl
    have hv2:PW (TRel g w) (lows l) vals:=⟨by have:=hv.1;simpa[lows] using this,λj a b k1 k2=>hv.2 (j+1) a b (by simpa[lows] using k1) (by simpa using k2)⟩
    let ⟨p1,p2,p3⟩:=packC_sound hS hs e1 hv1
    let ⟨q1,q2,q3⟩:=packCs_sound hS hs e2 hv2
    refine ⟨λo ho=>(List.mem_append.1 ho).elim (p1 o) (q1 o),λo ho=>(List.mem_append.1 ho).elim (p2 o) (q2 o),λg1 s1 fz' hs1 he hf hsub hsame=>?_⟩
    let ⟨al1,k1,k2⟩:=p3 g1 s1 fz' hs1 he hf (λo ho=>hsub o (List.mem_append_left _ ho)) (λo ho=>hsame o (List.mem_append_left _ ho))
    let ⟨al2,k3,k4⟩:=q3 g1 s1 fz' hs1 he hf (λo ho=>hsub o (List.mem_append_right _ ho)) (λo ho=>hsame o (List.mem_append_right _ ho))
    exact ⟨_,k1.append k3,k2.append k4⟩
   |[],hv=>exact absurd hv.1 (by simp[lows])
  .cases h
 |[],_ ::_,_,_,_,_,h,_=>by simp[packCs] at h
 |_ ::_,[],_,_,_,_,h,_=>by simp[packCs] at h
structure Unp (g:Gh) (s:StV S) (w:World) (al:List ASl) (g':Gh) (s':StV S):Prop where
 rel:SRel g' (lowSt s') w
 le:GhLe g g'
 imm:g'.imm=g.imm
 own:∀k b,Owned g' k b->Owned g k b∨(s.nob<=k∧∃a∈al,a.at b)
 fl:s'.fl=s.fl
 lo:s'.lo=s.lo
 nob:s.nob<=s'.nob
 wr:s'.wr=s.wr
 dr:s'.dr=s.dr
 ob:∀o,o<s.nob->s'.ob.get o=s.ob.get o
 blk:g'.blk=g.blk
 arr:∀o,o<s.nob->∀e,g'.arr o e=g.arr o e
theorem Unp.refl {g:Gh} {s:StV S} {w:World} (h:SRel g (lowSt s) w):Unp g s w [] g s:=
 ⟨h,GhLe.refl _,rfl,λ_ _ h=>.inl h,rfl,rfl,Nat.le_refl _,rfl,rfl,λ_ _=>rfl,rfl,λ_ _ _=>rfl⟩
theorem Unp.trans {g g' g'':Gh} {s s' s'':StV S} {w:World} {al al':List ASl} (h:Unp g s w al g' s') (k:Unp g' s' w al' g'' s''):Unp g s w (al++al') g'' s'' where
 rel:=k.rel
 le:=h.le.trans k.le
 imm:=k.imm.trans h.imm
 own o b hO:=by
  rcases k.own o b hO with hO|⟨h1,a,h2,h3⟩
  .rcases h.own o b hO with hO|⟨h1,a,h2,h3⟩
   .exact .inl hO
   grind
  .exact .inr ⟨Nat.le_trans h.nob h1,a,List.mem_append_right _ h2,h3⟩
 fl:=k.fl.trans h.fl
 lo:=k.lo.trans h.lo
 nob:=Nat.le_trans h.nob k.nob
 wr:=k.wr.trans h.wr
 dr:=k.dr.trans h.dr
 ob o ho:=(k.ob o (Nat.lt_of_lt_of_le ho h.nob)).trans (h.ob o ho)
 blk:=k.blk.trans h.blk
 arr o ho e:=(k.arr o (Nat.lt_of_lt_of_le ho h.nob) e).trans (h.arr o ho e)
theorem unC_nob (s:StV S) (c:Ck) (x:den S.A c.ty):s.nob<=(unC s c x).2.nob:=by
 cases c with
 |dat t=>exact Nat.le_refl _
 |own e=>exact Nat.le_succ _
 |nown n j t=>exact Nat.le_succ_of_le (Nat.le_succ _)
 |nil e=>exact Nat.le_refl _
 |ptr t=>exact Nat.le_refl _
theorem unCs_nob:∀(cs:List Ck) (s:StV S) (x:cden S.A cs),s.nob<=(unCs s cs x).2.nob
 |[],_,_=>Nat.le_refl _
 |c ::cs,s,x=>Nat.le_trans (unC_nob s c x.1) (unCs_nob cs _ x.2)
theorem unCs_sound:∀{cs:List Ck} {x:cden S.A cs} {vals:List Value} {al:List ASl} {g:Gh} {w:World} {s:StV S},HRel S g.imm w cs x vals al->SRel g (lowSt s) w->(∀a∈al,∀b,a.at b->∀o,¬Owned g o b)->Apart al->
  (unCs s cs x).2.nob<=bigN->∃g',Unp g s w al g' (unCs s cs x).2∧PW (TRel g' w) (lows (unCs s cs x).1) vals:=by
 intro cs
 induction cs with
 |nil=>
  intro x vals al g w s h hs _ _ _
  cases h
  exact ⟨g,Unp.refl hs,rfl,λj t v h=>by simp_all⟩
 |cons c cs ih=>
  intro x vals al g w s h hs hfr hap hn
  cases h with
  | @dat t _ x h v vs al hd hr=>
   let ⟨g',hu,hpw⟩:=ih hr hs hfr hap hn
   refine ⟨g',hu,by simp only[unCs,unC,lows,List.length_cons];rw[hpw.1],λj t' v' k1 k2=>?_⟩
   cases j with
   |zero=>
    simp[unCs,unC,lows,Option.some.injEq] at k1 k2
    subst k1
    subst k2
    have:=trel_lowTy (g:=g) hd
    exact this.le hu.le
   |succ j=>exact hpw.2 j t' v' (by simpa[unCs,unC,lows] using k1) (by simpa using k2)
  | @nl e _ h a vs al hr=>
   let ⟨g',hu,hpw⟩:=ih hr hs hfr hap hn
   refine ⟨g',hu,by simp only[unCs,unC,lows,List.length_cons];rw[hpw.1],λj t' v' k1 k2=>?_⟩
   cases j with
   |zero=>
    simp[unCs,unC,lows,Option.some.injEq] at k1 k2
    subst k1
    subst k2
    exact .emp _
   |succ j=>exact hpw.2 j t' v' (by simpa[unCs,unC,lows] using k1) (by simpa using k2)
  | @ptr t _ x h ad val vs al hi hc hd hr=>
   let ⟨g',hu,hpw⟩:=ih hr hs hfr hap hn
   refine ⟨g',hu,by simp only[unCs,unC,lows,List.length_cons];rw[hpw.1],λj t' v' k1 k2=>?_⟩
   cases j with
   |zero=>
    simp[unCs,unC,lows,Option.some.injEq] at k1 k2
    subst k1
    subst k2
    have:TRel g w (low (V.ept t x 0)) (.pointer (some (ad.add 0))):=.ept _ 0 ad val hi hc hd
    exact this.le hu.le
   |succ j=>exact hpw.2 j t' v' (by simpa[unCs,unC,lows] using k1) (by simpa using k2)
  | @own e _ l h a vs al ho hr=>
   have hb0:=unCs_nob cs (newObV s (.arr e l 0)) h
   have hlt:s.nob<bigN:=by
    have h1:(newObV s (.arr e l 0)).nob=s.nob+1:=rfl
    have h2:(unCs (newObV s (.arr e l 0)) cs h).2.nob<=bigN:=hn
    omega
   have hself:∀b,a.at b->b<w.heap.size∧∀o,¬Owned g o b:=λb hb=>⟨(HRel.own (S:=S) ho hr).lt a List.mem_cons_self b hb,hfr a List.mem_cons_self b hb⟩
   let ⟨k1,k2,k3⟩:=hs.addArr hlt (sz:=S.width e) (es:=l.map (enc S e)) (x:=a) hself (ho.1.imm_eq rfl) ho.2
   have hst:(newOb (lowSt s) (Ob.arr (S.width e) (l.map (enc S e)) 0)).2=lowSt (newObV s (.arr e l 0)):=(lowSt_new s (.arr e l 0)).symm
   have e0:(lowSt s).nob=s.nob:=rfl
   rw[hst,e0] at k1
   rw[Apart,List.pairwise_cons] at hap
   let ⟨g',hu,hpw⟩:=ih (g:=g.era s.nob 0 a) (s:=newObV s (.arr e l 0)) hr k1 (λy hy b hb o hO=>by
    grind) hap.2 hn
   have hu1:Unp g s w [a] (g.era s.nob 0 a) (newObV s (.arr e l 0)):=by
    refine ⟨k1,k2,rfl,λk b hO=>?_,rfl,rfl,Nat.le_succ _,rfl,rfl,λo hlo=>?_,rfl,λo hlo e'=>Gh.era_other _ _ _ _ _ _ (λh=>by omega)⟩
    .grind
    .simp[newObV]
     rw[Tr.get_set64 _ _ _ _ hlt,if_neg (by omega)]
   refine ⟨g',hu1.trans hu,by simp only[unCs,unC,lows,List.length_cons];rw[hpw.1],λj t' v' q1 q2=>?_⟩
   cases j with
   |zero=>
    simp[unCs,unC,lows,Option.some.injEq] at q1 q2
    subst q1
    subst q2
    have:TRel (g.era s.nob 0 a) w (.sh s.nob 0) (.slice a.a a.len a.cap):=.sh _ _ _ _ a.sz _ (Gh.era_same _ _ _ _)
    exact this.le hu.le
   |succ j=>exact hpw.2 j t' v' (by simpa[unCs,unC,lows] using q1) (by simpa using q2)
  | @nown n j t0 _ l h a rl vs al ho hr=>
   have hb0:=unCs_nob cs (unC s (.nown n j t0) l).2 h
   have hnob2:(unC s (.nown n j t0) l).2.nob=s.nob+2:=rfl
   have hlt:s.nob+1<bigN:=by
    grind[unCs]
   have hatl:=ho.at_
   let ⟨hl,p1,p2,p3,p4,p5,p6⟩:=ho
   rw[<-List.cons_append] at hfr hap
   have hapA:=(List.pairwise_append.1 hap).1
   rw[List.pairwise_cons] at hapA
   let ⟨k1,k2,k3⟩:=hs.addArr (by show s.nob<bigN;omega) (sz:=S.width (.st n)) (es:=lits j (l.map (enc S (.st n))) hl) (x:=a) (λb hb=>⟨(hatl a List.mem_cons_self b hb).2,hfr a (by simp) b hb⟩) (p2.1.imm_eq rfl) p2.2
   have e0:(lowSt s).nob=s.nob:=rfl
   rw[e0] at k1 k2 k3
   have e1:(newOb (lowSt s) (Ob.arr (S.width (.st n)) (lits j (l.map (enc S (.st n))) hl) 0)).2.nob=s.nob+1:=rfl
   let ⟨r1,r2,r3⟩:=k1.addRws (by omega) (sz:=S.width t0) (rss:=(l.map (getC n j t0)).map (·.map (enc S t0))) (ys:=rl)
    (λy hy b hb=>⟨(hatl y (List.mem_cons_of_mem _ hy) b hb).2,λo hO=>by
     grind⟩)
    (λi y hi=>by
     have hil:i<l.length:=by grind
     have hk:=p5 i y _ hi (List.getElem?_eq_getElem hil)
     exact ⟨hk.2,_,by simp_all,hk.1.imm_eq rfl⟩) hapA.2
   rw[e1] at r1 r2 r3
   have hgetA:∀k,(newOb (newOb (lowSt s) (Ob.arr (S.width (.st n)) (lits j (l.map (enc S (.st n))) hl) 0)).2 (.rws (S.width t0) ((l.map (getC n j t0)).map (·.map (enc S t0))) 0)).2.ob.get k=if k=s.nob+1 then some (.rws (S.width t0) ((l.map (getC n j t0)).map (·.map (enc S t0))) 0) else if k=s.nob then some (.arr (S.width (.st n)) (lits j (l.map (enc S (.st n))) hl) 0) else (lowSt s).ob.get k:=λk=>by
    show (((lowSt s).ob.set fuelTr s.nob _).set fuelTr (s.nob+1) _).get k=_
    rw[Tr.get_set64 _ _ _ _ hlt,Tr.get_set64 _ _ _ _ (by omega)]
   have hL:Link ((g.era s.nob 0 a).addRows (s.nob+1) rl) (s.nob+1) 0 none hl:=by
    have hsl:∀i v,hl[i]?=some v->∃hil:i<rl.length,v=.slice (rl[i]).a (rl[i]).len (rl[i]).cap:=λi v hi=>by
     grind
    refine ⟨λi v hi=>let ⟨_,h⟩:=hsl i v hi;⟨_,_,_,h⟩,λi v hi _=>?_⟩
    grind[Gh.addRows_new]
   have u1:=r1.unview (o:=s.nob) (nj:=j) (es:=l.map (enc S (.st n))) (era:=0) (m:=s.nob+1) (rera:=0) (hole:=none) (hl:=hl) (by omega) (by rw[hgetA,if_neg (by omega),if_pos rfl]) (by simpa using p1) hL
   have u2:SRel ((g.era s.nob 0 a).addRows (s.nob+1) rl) (lowSt (unC s (.nown n j t0) l).2) w:=by
    refine u1.getEq rfl λk=>?_
    show (lowSt (newObV (newObV s (.nar n j l 0 (Nat.succ s.nob) 0 none)) (.rws t0 (colL n j t0 l) 0))).ob.get k=((newOb _ _).2.ob.set fuelTr s.nob _).get k
    rw[lowSt_new,lowSt_new,Tr.get_set64 _ _ _ _ (by omega),hgetA]
    show (((lowSt s).ob.set fuelTr s.nob _).set fuelTr (s.nob+1) _).get k=_
    rw[Tr.get_set64 _ _ _ _ hlt,Tr.get_set64 _ _ _ _ (by omega)]
    by_cases h1:k=s.nob
    .subst h1
     rw[if_neg (by omega),if_pos rfl,if_pos rfl]
     rfl
    .rw[if_neg h1,if_neg h1,if_neg h1]
     rfl
   have hle:GhLe g ((g.era s.nob 0 a).addRows (s.nob+1) rl):=k2.trans ⟨λ_ _ h=>h,r2,λ_ h=>h⟩
   let ⟨g',hu,hpw⟩:=ih (g:=(g.era s.nob 0 a).addRows (s.nob+1) rl) (s:=(unC s (.nown n j t0) l).2) hr u2 (λy hy b hb o hO=>by
    rcases r3 o b hO with hO|⟨_,y',hy',hb'⟩
    .rcases k3 o b hO with hO|⟨_,hb'⟩
     .grind
     .exact (List.pairwise_append.1 hap).2.2 a (by simp) y hy b hb' hb
    .exact (List.pairwise_append.1 hap).2.2 y' (by simp[hy']) y hy b hb' hb) (List.pairwise_append.1 hap).2.1 hn
   have hu1:Unp g s w (a ::rl) ((g.era s.nob 0 a).addRows (s.nob+1) rl) (unC s (.nown n j t0) l).2:=by
    refine ⟨u2,hle,rfl,λk b hO=>?_,rfl,rfl,by omega,rfl,rfl,λo hlo=>?_,rfl,λo hlo e'=>?_⟩
    .grind
    .show ((s.ob.set fuelTr s.nob _).set fuelTr (s.nob+1) _).get o=_
     rw[Tr.get_set64 _ _ _ _ hlt,if_neg (by omega),Tr.get_set64 _ _ _ _ (by omega),if_neg (by omega)]
    .rw[Gh.addRows_other (by omega)]
     grind[Gh.era_other]
   refine ⟨g',by exact hu1.trans hu,by have:=hpw.1;simp only[unCs,unC,lows,List.length_cons] at this ⊢;rw[this],λj' t' v' q1 q2=>?_⟩
   cases j' with
   |zero=>
    simp[unCs,unC,lows,Option.some.injEq] at q1 q2
    subst q1
    subst q2
    have:TRel ((g.era s.nob 0 a).addRows (s.nob+1) rl) w (.sh s.nob 0) (.slice a.a a.len a.cap):=.sh _ _ _ _ a.sz _ (by simp_all[Gh.era_same])
    exact this.le hu.le
   |succ j'=>exact hpw.2 j' t' v' (by simpa[unCs,unC,lows] using q1) (by simpa using q2)
theorem ty_rel {g:Gh} {w:World} {τ:Ty} {x:den S.A τ} {v:Value} (h:DRel g.imm w (enc S τ x) v):TRel g w (lowTy S τ x) v:=by
 cases τ with
 |st n=>
  cases h with
  |agg _ vs hl hf hr=>
   refine .agg _ _ (by simpa using hl) λj t v h1 h2=>?_
   simp at h1
   obtain ⟨c,hc,rfl⟩:=h1
   exact .sym _ _ (hr j c v hc h2)
 |_=>exact .sym _ _ h
theorem ty_drel {g:Gh} {w:World} (hS:SgOk S) {τ:Ty} {x:den S.A τ} {v:Value} (h:TRel g w (lowTy S τ x) v):DRel g.imm w (enc S τ x) v:=by
 cases τ with
 |st n=>
  cases h with
  |agg _ vs hl hr=>
   refine .agg _ _ (by simpa using hl) (λc hc=>?_) λj c v h1 h2=>?_
   .rw[hS.cells] at hc
    exact encH_leaf _ _ (hS.leaf n) c hc
   .have:=hr j (.sym c) v (by simp[h1]) h2
    cases this with
    |sym _ _ h=>exact h
 |_=>cases h with|sym _ _ h=>exact h
def lkVal:Bool->Nat->Value
 |true,b=>.map (some b)
 |false,b=>.pointer (some ⟨b,0,none⟩)
theorem lkO_eq {m:Bool} {x:Option (V S)} {o:Nat} (h:lkO m x=some o):x=some (lkV m o):=by
 unfold lkO at h
 split at h<;>cases h<;>rfl
theorem lkV_rel {g:Gh} {w:World} {o b:Nat} (h:g.blk o=some b):∀m,TRel g w (low (lkV m o:V S)) (lkVal m b)
 |true=>.mp o b h
 |false=>.ptr o 0 b h
theorem lkV_inv {g:Gh} {w:World} {o:Nat} {v:Value}:∀{m},TRel g w (low (lkV m o:V S)) v->∃b,g.blk o=some b∧v=lkVal m b
 |true,h=>by cases h with|mp _ b hb=>exact ⟨b,hb,rfl⟩
 |false,h=>by cases h with|ptr _ _ b hb=>exact ⟨b,hb,rfl⟩
inductive KRel (S:Sg) (I:Nat->Prop) (w:World) (b:Nat) (nb:Option Nat):(k:Bk)->kden S.A k->Obj->List ASl->Prop where
 |cells {cs:List Ck} {x:cden S.A cs} {cv:Array Value} {ty:TypeId} {al:List ASl} (h:HRel S I w cs x cv.toList al):KRel S I w b nb (.cells cs) x (.cells cv ty (0,0)) al
 |map {kt vt:Ty} {l:List (den S.A kt×den S.A vt)} {ms:Array MapEntry} {c:Nat} (hl:l.length=ms.size)
   (h:∀(j:Nat) (p:den S.A kt×den S.A vt) (m:MapEntry),l[j]?=some p->ms[j]?=some m->DRel I w (enc S kt p.1) m.key∧DRel I w (enc S vt p.2) m.val):KRel S I w b nb (.map kt vt) l (.map ms c) []
 |sit {x:List UInt8×Nat}:KRel S I w b nb .sit x (.stringIter (toBytes x.1) x.2) []
 |link {m:Bool} {pre post:List Ck} {x:cden S.A pre} {y:cden S.A post} {cv:Array Value} {ty:TypeId} {al al':List ASl} {vp vq:List Value} {b1:Nat} (hn:nb=some b1) (hv:cv.toList=vp++([lkVal m b1]++vq))
   (h1:HRel S I w pre x vp al) (h2:HRel S I w post y vq al'):KRel S I w b nb (.link m pre post) (x,y) (.cells cv ty (0,0)) (al++al')
 |bld {ty e:TypeId} {l:List UInt8} {p:Value} {x:ASl} (hp:p=.pointer none∨p=.pointer (some ⟨b,0,none⟩)) (hx:BufOk I w e l x):KRel S I w b nb (.bld ty e) l (.cells #[p,.slice x.a x.len x.cap] ty (0,0)) [x]
 |lpr {x:Option Nat} {u:Unit} {r:Loop} (h1:r.state=.done) (h2:r.pending=some (lprC x)):KRel S I w b nb (.lpr x) u (.loop r) []
theorem lprB_ok:∀{x:Option Nat} {st:LoopState} {pend:Option Code},lprB x st pend=true->st=.done∧pend=some (lprC x)
 |x,st,pend,h=>by
  unfold lprB at h
  split at h
  .exact ⟨rfl,rfl⟩
  .rw[Nat.eq_of_beq_eq_true h]
   exact ⟨rfl,rfl⟩
  .cases h
def kvalue:Bk->Nat->Value
 | .cells _,b=>.pointer (some ⟨b,0,none⟩)
 | .map _ _,b=>.map (some b)
 | .sit,b=>.pointer (some ⟨b,0,none⟩)
 | .link _ _ _,b=>.pointer (some ⟨b,0,none⟩)
 | .bld _ _,b=>.pointer (some ⟨b,0,none⟩)
 | .lpr _,b=>.func (.yield b) #[] #[]
theorem kptr_eq {k:Bk} {v:V S} {o:Nat} (h:kptr k v=some o):v=kval k o:=by
 cases k with
 |cells cs=>
  cases v with
  |ptr o' off=>cases off with
   |zero=>simp[kptr,Option.some.injEq] at h;subst h;rfl
   |succ=>simp[kptr] at h
  |_=>simp[kptr] at h
 |map kt vt=>cases v<;>simp[kptr] at h;subst h;rfl
 |sit=>cases v<;>simp[kptr] at h;subst h;rfl
 |lpr x=>cases v<;>simp[kptr] at h;subst h;rfl
 |link m pre post=>
  cases v with
  |ptr o' off=>cases off with
   |zero=>simp[kptr,Option.some.injEq] at h;subst h;rfl
   |succ=>simp[kptr] at h
  |_=>simp[kptr] at h
 |bld ty e=>
  cases v with
  |ptr o' off=>cases off with
   |zero=>simp[kptr,Option.some.injEq] at h;subst h;rfl
   |succ=>simp[kptr] at h
  |_=>simp[kptr] at h
theorem kptr_kval (k:Bk) (o:Nat):kptr k (kval k o:V S)=some o:=by cases k<;>rfl
theorem kval_rel {g:Gh} {w:World} {k:Bk} {o b:Nat} (h:g.blk o=some b):TRel g w (low (kval k o:V S)) (kvalue k b):=by
 cases k with
 |cells cs=>exact .ptr o 0 b h
 |map kt vt=>exact .mp o b h
 |sit=>exact .itr o b h
 |link m pre post=>exact .ptr o 0 b h
 |bld ty e=>exact .ptr o 0 b h
 |lpr x=>exact .yld o b h
theorem kval_inv {g:Gh} {w:World} {k:Bk} {o:Nat} {v:Value} (h:TRel g w (low (kval k o:V S)) v):∃b,g.blk o=some b∧v=kvalue k b:=by
 cases k with
 |cells cs=>cases h with|ptr _ _ b hb=>exact ⟨b,hb,rfl⟩
 |map kt vt=>cases h with|mp _ b hb=>exact ⟨b,hb,rfl⟩
 |sit=>cases h with|itr _ b hb=>exact ⟨b,hb,rfl⟩
 |link m pre post=>cases h with|ptr _ _ b hb=>exact ⟨b,hb,rfl⟩
 |bld ty e=>cases h with|ptr _ _ b hb=>exact ⟨b,hb,rfl⟩
 |lpr x=>cases h with|yld _ b hb=>exact ⟨b,hb,rfl⟩
theorem plain_arr {ob:ObV S} (h:plainOb ob=true) {fz:Bool} {sz:Nat} {es:List D} {e:Nat}:lowOb ob≠arrOb fz sz es e:=by
 cases ob<;>cases fz<;>simp[plainOb,lowOb,arrOb] at h ⊢
theorem plain_isArr {ob:ObV S} (h:plainOb ob=true):(lowOb ob).isArr=false:=by
 cases ob<;>first|rfl|(simp[plainOb] at h)
theorem plain_at {g:Gh} {w:World} {o e:Nat} {x:ASl} {ob:ObV S} (h:plainOb ob=true) (ha:ArrAt g w o e x (lowOb ob)):False:=by
 have:=ha.isArr
 rw[plain_isArr h] at this
 cases this
theorem castM_cast {kt vt kt' vt':Ty} {l:List (den S.A kt×den S.A vt)} {l':List (den S.A kt'×den S.A vt')} (h:castM kt vt kt' vt' l=some l'):∃(h1:kt=kt') (h2:vt=vt'),l'=h1▸h2▸l:=by
 grind[castM]
theorem bufAt_ok {g:Gh} {w:World} {o e:Nat} {x:ASl} {ty:TypeId} {l:List UInt8} (h:ArrAt g w o e x (.bbf ty l)):BufOk g.imm w ty l x:=by
 rcases h with ⟨fz,_,_,h,_⟩|⟨_,_,_,_,_,_,h,_⟩|⟨_,_,_,h,_⟩|h|⟨h,_⟩|⟨_,_,h,h2⟩
 .cases fz<;>cases h
 .cases h
 .cases h
 .cases h
 .cases h
 .cases h
  exact h2
theorem BufOk.at {I:Nat->Prop} {w:World} {ty:TypeId} {l:List UInt8} {x:ASl} (h:BufOk I w ty l x) {b:Nat} (hb:x.at b):¬I b∧b<w.heap.size:=by
 obtain ⟨ad,h1,rfl,h3⟩:=hb
 rcases h.1 with ⟨_,h4,_⟩|⟨_,b,h4,_,h5⟩
 .rw[h4] at h1;cases h1
 .rw[h4] at h1
  cases h1
  exact ⟨h5,(h.2.lt b (by rw[h4];rfl)).2⟩
theorem SRel.addBuf {g:Gh} {w:World} {s:St} (hs:SRel g s w) (hn:s.nob<bigN) {ty:TypeId} {l:List UInt8} {x:ASl}
  (hx:∀b,x.at b->b<w.heap.size∧∀o,¬Owned g o b) (hok:BufOk g.imm w ty l x) :
  SRel (g.era s.nob 0 x) (newOb s (.bbf ty l)).2 w∧GhLe g (g.era s.nob 0 x)∧(∀k b,Owned (g.era s.nob 0 x) k b->Owned g k b∨(k=s.nob∧x.at b)):=by
 have hnone:=hs.bnd s.nob (Nat.le_refl _)
 have harr:∀k j y,g.arr k j=some y->(g.era s.nob 0 x).arr k j=some y:=λk j y h=>by
  rw[Gh.era_other]
  .exact h
  grind
 have hle:GhLe g (g.era s.nob 0 x):=⟨λ_ _ h=>h,harr,λ_ h=>h⟩
 have hown:∀k b,Owned (g.era s.nob 0 x) k b->Owned g k b∨(k=s.nob∧x.at b):=by
  rintro k b ⟨h1,h2|⟨j,y,ad,h2,h3,h4,h5⟩⟩
  .exact .inl ⟨h1,.inl h2⟩
  .by_cases hkj:k=s.nob∧j=0
   .obtain ⟨rfl,rfl⟩:=hkj
    rw[Gh.era_same] at h2
    simp at h2
    subst h2
    exact .inr ⟨rfl,⟨ad,h3,h4,h5⟩⟩
   .rw[Gh.era_other _ _ _ _ _ _ hkj] at h2
    exact .inl ⟨h1,.inr ⟨j,y,ad,h2,h3,h4,h5⟩⟩
 refine ⟨⟨by simp only[newOb];omega,λk hk=>?_,λk b hb=>?_,λk j y hy=>?_,λb hb=>hs.imm b hb,λk k' b h h'=>?_,hs.glo⟩,hle,hown⟩
 .simp only[newOb] at hk
  refine ⟨(hs.bnd k (by omega)).1,λj=>?_⟩
  rw[Gh.era_other _ _ _ _ _ _ (by omega)]
  exact (hs.bnd k (by omega)).2 j
 .have hb':g.blk k=some b:=hb
  have hko:k≠s.nob:=λh=>by simp_all
  exact (hs.box k b hb').le hle rfl (by simp[newOb];rw[Tr.get_set64 _ _ _ _ hn,if_neg hko])
 .by_cases hkj:k=s.nob∧j=0
  .obtain ⟨rfl,rfl⟩:=hkj
   rw[Gh.era_same] at hy
   simp at hy
   subst hy
   refine ⟨λad ha hc=>(hx _ ⟨ad,ha,rfl,hc⟩).1,λob hob2=>.inr (.inr (.inr (.inr (.inr ⟨ty,l,?_,hok⟩))))⟩
   simp[newOb] at hob2
   rw[Tr.get_set64 _ _ _ _ hn,if_pos rfl] at hob2
   exact (Option.some.inj hob2).symm
  .rw[Gh.era_other _ _ _ _ _ _ hkj] at hy
   have hko:k≠s.nob:=λh=>by simp_all
   exact (hs.arr k j y hy).le rfl (by simp[newOb];rw[Tr.get_set64 _ _ _ _ hn,if_neg hko]) harr (λe'=>Gh.era_other _ _ _ _ _ _ (λh=>hko h.1))
 .rcases hown k b h with h1|⟨h1,h3⟩<;>rcases hown k' b h' with h2|⟨h2,h4⟩
  .exact hs.uni k k' b h1 h2
  .exact absurd h1 ((hx b h4).2 k)
  .exact absurd h2 ((hx b h3).2 k')
  .rw[h1,h2]
theorem packK_sound (hS:SgOk S) {g:Gh} {w:World} {s:StV S} (hs:SRel g (lowSt s) w) {k:Bk} {o b:Nat} (hb:g.blk o=some b) {x:kden S.A k} {fz ow:List Nat} {nx:Option Nat} (h:packK s k (s.ob.get o)=some (x,fz,ow,nx)) :
  (∃ob,s.ob.get o=some ob∧plainOb ob=true)∧∃hx,w.heap[b]?=some hx∧
  (∀o∈fz,Live g (lowSt s) o)∧(∀o∈ow,s.fl<=o∧s.lo<=o∧o<s.nob∧∃ob,s.ob.get o=some ob∧arrB ob=true)∧∀(g1:Gh) (s1:St) (fz':List Nat),SRel g1 s1 w->Ext s.fl g w g1 w->Frozen (lowSt s) s1 fz'->(∀o∈fz,o∈fz')->(∀o∈ow,s1.ob.get o=(lowSt s).ob.get o)->
   ∀nb,(∀o',nx=some o'->∃b',nb=some b'∧g1.blk o'=some b')->∃al,KRel S g1.imm w b nb k x hx al∧AL g1 al ow:=by
 cases ho:s.ob.get o with
 |none=>rw[ho] at h;cases k<;>simp[packK] at h
 |some ob=>
 rw[ho] at h
 let ⟨hx,hh,hr⟩:=(hs.box o b hb).2.2 (lowOb ob) (by rw[lowSt_get,ho];rfl)
 cases k with
 |cells cs=>
  cases ob with
  |box vs=>
   refine ⟨⟨_,rfl,rfl⟩,hx,hh,?_⟩
   cases hr with
   |box _ cv ty hl hr=>
   simp[packK] at h
   split at h
   rotate_left
   .cases h
   rename_i y1 a1 b1 hpc
   obtain ⟨rfl,rfl,rfl,rfl⟩:=h
   let ⟨p1,p2,p3⟩:=packCs_sound hS hs hpc (vals:=cv.toList) ⟨by simpa using hl,λj t v k1 k2=>hr j t v k1 (by simpa using k2)⟩
   refine ⟨p1,p2,λg1 s1 fz' a b c d e nb _=>?_⟩
   let ⟨al,k1,k2⟩:=p3 g1 s1 fz' a b c d e
   exact ⟨al,.cells k1,k2⟩
  |_=>simp[packK] at h
 |link m pre post=>
  cases ob with
  |box vs=>
   refine ⟨⟨_,rfl,rfl⟩,hx,hh,?_⟩
   cases hr with
   |box _ cv ty hl hr=>
   simp only[packK] at h
   split at h
   rotate_left
   .cases h
   rename_i x1 a1 b1 o1 y1 a2 b2 e1 e2 e3
   obtain ⟨rfl,rfl,rfl,rfl⟩:=h
   rw[lenL_eq] at e1 e2 e3
   have hsz:vs.length=cv.toList.length:=by rw[<-lows_len];simpa using hl
   have hat:∀j t v,vs[j]?=some t->cv.toList[j]?=some v->TRel g w (low t) v:=λj t v k1 k2=>hr j _ v (by rw[lows_map,List.getElem?_map,k1];rfl) (by simpa using k2)
   have hpre:PW (TRel g w) (lows (vs.take pre.length)) (cv.toList.take pre.length):=by
    refine ⟨by rw[lows_len];simp[hsz],λj t v k1 k2=>?_⟩
    rw[lows_map,List.getElem?_map,Option.map_eq_some_iff] at k1
    obtain ⟨t',k1,rfl⟩:=k1
    rw[List.getElem?_take] at k1 k2
    split at k1
    .rename_i hj
     rw[if_pos hj] at k2
     exact hat j t' v k1 k2
    .cases k1
   have hpost:PW (TRel g w) (lows (vs.drop (Nat.succ pre.length))) (cv.toList.drop (Nat.succ pre.length)):=by
    refine ⟨by rw[lows_len];simp[hsz],λj t v k1 k2=>?_⟩
    rw[lows_map,List.getElem?_map,Option.map_eq_some_iff] at k1
    obtain ⟨t',k1,rfl⟩:=k1
    rw[List.getElem?_drop] at k1 k2
    exact hat _ t' v k1 k2
   have e2:=lkO_eq e2
   rw[nth_eq] at e2
   have hlt:pre.length<cv.toList.length:=by rw[<-hsz];exact (List.getElem?_eq_some_iff.1 e2).1
   have hmid:=hat pre.length _ _ e2 (List.getElem?_eq_getElem hlt)
   generalize hvm:cv.toList[pre.length]=vm at hmid
   obtain ⟨b2,hb2,rfl⟩:=lkV_inv hmid
   have hsplit:cv.toList=cv.toList.take pre.length++([lkVal m b2]++cv.toList.drop (Nat.succ pre.length)):=by
    have h1:=(List.take_append_drop pre.length cv.toList).symm
    rw[List.drop_eq_getElem_cons hlt,hvm] at h1
    simpa using h1
   let ⟨p1,p2,p3⟩:=packCs_sound hS hs e1 hpre
   let ⟨q1,q2,q3⟩:=packCs_sound hS hs e3 hpost
   refine ⟨λo ho=>(List.mem_append.1 ho).elim (p1 o) (q1 o),λo ho=>(List.mem_append.1 ho).elim (p2 o) (q2 o),λg1 s1 fz' hs1 he hf hsub hsame nb hnb=>?_⟩
   let ⟨al1,k1,k2⟩:=p3 g1 s1 fz' hs1 he hf (λo ho=>hsub o (List.mem_append_left _ ho)) (λo ho=>hsame o (List.mem_append_left _ ho))
   let ⟨al2,k3,k4⟩:=q3 g1 s1 fz' hs1 he hf (λo ho=>hsub o (List.mem_append_right _ ho)) (λo ho=>hsame o (List.mem_append_right _ ho))
   let ⟨b',hb1,hb3⟩:=hnb _ rfl
   have:b'=b2:=Option.some.inj (hb3.symm.trans (he.blk _ _ hb2))
   subst this
   exact ⟨_,.link hb1 hsplit k1 k3,k2.append k4⟩
  |_=>simp[packK] at h
 |map kt vt=>
  cases ob with
  |map k v l=>
   simp[packK] at h
   split at h
   .rename_i l' hl
    obtain ⟨rfl,rfl,hh'⟩:=castM_cast hl
    cases hh'
    obtain ⟨rfl,rfl,rfl,rfl⟩:=h
    refine ⟨⟨_,rfl,rfl⟩,hx,hh,λo ho=>(by cases ho),λo ho=>(by cases ho),λg1 s1 fz' hs1 he hf _ _ nb _=>⟨[],?_,.nil⟩⟩
    cases hr with
    |map _ ms c hl hr=>
    refine .map (by simpa using hl) λj p m h1 h2=>?_
    obtain ⟨k1,k2⟩:=hr j _ m (by rw[List.getElem?_map,h1];rfl) h2
    exact ⟨ty_drel hS (k1.ext he hs.imm),ty_drel hS (k2.ext he hs.imm)⟩
   .cases h
  |_=>simp[packK] at h
 |sit=>
  cases ob with
  |sit bs n=>
   obtain ⟨rfl,rfl,rfl,rfl⟩:=h
   refine ⟨⟨_,rfl,rfl⟩,hx,hh,λo ho=>(by cases ho),λo ho=>(by cases ho),λg1 s1 fz' hs1 he hf _ _ nb _=>⟨[],?_,.nil⟩⟩
   cases hr
   exact .sit (x:=(bs,n))
  |_=>simp[packK] at h
 |lpr jx=>
  cases ob with
  |lp l=>
   simp only[packK] at h
   rcases cond_some h with ⟨hc,h⟩|⟨_,h⟩
   rotate_left
   .cases h
   obtain ⟨rfl,rfl,rfl,rfl⟩:=h
   obtain ⟨c1,c2⟩:=lprB_ok hc
   refine ⟨⟨_,rfl,rfl⟩,hx,hh,λo ho=>(by cases ho),λo ho=>(by cases ho),λg1 s1 fz' hs1 he hf _ _ nb _=>⟨[],?_,.nil⟩⟩
   cases hr with
   |lp _ r q1 q2=>exact .lpr (q1.trans c1) (q2.trans c2)
  |lpd st pend=>
   simp only[packK] at h
   rcases cond_some h with ⟨hc,h⟩|⟨_,h⟩
   rotate_left
   .cases h
   obtain ⟨rfl,rfl,rfl,rfl⟩:=h
   obtain ⟨c1,c2⟩:=lprB_ok hc
   refine ⟨⟨_,rfl,rfl⟩,hx,hh,λo ho=>(by cases ho),λo ho=>(by cases ho),λg1 s1 fz' hs1 he hf _ _ nb _=>⟨[],?_,.nil⟩⟩
   cases hr with
   |lpd _ _ r q1 q2=>exact .lpr (q1.trans c1) (q2.trans c2)
  |_=>simp[packK] at h
 |bld ty e=>
  cases ob with
  |bld ty' m=>
   simp only[packK] at h
   split at h
   rotate_left
   .cases h
   rename_i e' l hm
   rcases cond_some h with ⟨hc,h⟩|⟨_,h⟩
   rotate_left
   .cases h
   obtain ⟨rfl,rfl,rfl,rfl⟩:=h
   simp only[Bool.and_eq_true] at hc
   obtain ⟨c1,c2,c3,c4,c5⟩:=hc
   have:=beq_iff'.1 c1
   subst this
   have:=beq_iff'.1 c2
   subst this
   cases hr with
   |bld _ _ p v hp hv=>
   cases hv with
   |sh _ _ len cap sz a hx0=>
   have hmlow:(lowSt s).ob.get m=some (.bbf e x):=by rw[lowSt_get,hm];rfl
   refine ⟨⟨_,rfl,rfl⟩,_,hh,λo ho=>(by cases ho),λo ho=>?_,λg1 s1 fz' hs1 he hf _ hsame nb _=>?_⟩
   .rw[List.mem_singleton] at ho
    subst ho
    exact ⟨Nat.le_of_ble_eq_true c3,Nat.le_of_ble_eq_true c4,Nat.le_of_ble_eq_true c5,_,hm,rfl⟩
   .have hx1:=he.arr _ _ _ hx0
    have hat:=(hs1.arr _ _ _ hx1).2 _ ((hsame m (by simp)).trans hmlow)
    exact ⟨[⟨a,len,cap,sz⟩],.bld (x:=⟨a,len,cap,sz⟩) hp (bufAt_ok hat),.own hx1 .nil⟩
  |_=>simp[packK] at h
theorem KRel.notImm {I:Nat->Prop} {w:World} {b0:Nat} {nb:Option Nat} {k:Bk} {x:kden S.A k} {h:Obj} {al:List ASl} (hr:KRel S I w b0 nb k x h al):∀a∈al,∀b,a.at b->¬I b:=by
 cases hr with
 |cells h=>exact h.notImm
 |map=>simp_all
 |sit=>simp_all
 |lpr=>simp_all
 |bld _ hx=>
  intro a ha b hb
  rw[List.mem_singleton] at ha
  subst ha
  exact (hx.at hb).1
 |link _ _ h1 h2=>intro a ha;exact (List.mem_append.1 ha).elim (h1.notImm a) (h2.notImm a)
theorem unK_nob (k:Bk) (s:StV S) (nx:Option Nat) (x:kden S.A k):s.nob<=(unK s nx k x).2.nob:=by
 cases k with
 |cells cs=>exact unCs_nob cs s x
 |map kt vt=>exact Nat.le_refl _
 |sit=>exact Nat.le_refl _
 |bld ty e=>exact Nat.le_succ _
 |lpr x=>exact Nat.le_refl _
 |link m pre post=>exact Nat.le_trans (unCs_nob pre s x.1) (unCs_nob post _ x.2)
theorem unK_sound {k:Bk} {x:kden S.A k} {h:Obj} {al:List ASl} {g:Gh} {w:World} {s:StV S} {b0:Nat} {nb nx:Option Nat} (hr:KRel S g.imm w b0 nb k x h al) (hnx:∀b',nb=some b'->∃o',nx=some o'∧g.blk o'=some b') (hs:SRel g (lowSt s) w) (hfr:∀a∈al,∀b,a.at b->∀o,¬Owned g o b) (hap:Apart al)
  (hn:(unK s nx k x).2.nob<=bigN):∃g',Unp g s w al g' (unK s nx k x).2∧ObRel g' w b0 (lowOb (unK s nx k x).1) h:=by
 cases hr with
 |cells hr=>
  let ⟨g',hu,hpw⟩:=unCs_sound hr hs hfr hap hn
  exact ⟨g',hu,.box _ _ _ (by simpa using hpw.1) λj t v k1 k2=>hpw.2 j t v k1 (by simpa using k2)⟩
 | @map kt vt l ms c hl hr=>
  refine ⟨g,Unp.refl hs,.map _ _ _ (by simpa using hl) λj t m h1 h2=>?_⟩
  simp only[List.getElem?_map,Option.map_eq_some_iff] at h1
  obtain ⟨p,hp,rfl⟩:=h1
  grind[ty_rel]
 |sit=>exact ⟨g,Unp.refl hs,.sit _ _⟩
 |lpr h1 h2=>exact ⟨g,Unp.refl hs,.lpd _ _ _ h1 h2⟩
 | @bld ty e l p y hp hx=>
  have hlt:s.nob<bigN:=hn
  let ⟨k1,k2,k3⟩:=hs.addBuf hlt (λb hb=>⟨(hx.at hb).2,hfr y List.mem_cons_self b hb⟩) hx
  have e0:(lowSt s).nob=s.nob:=rfl
  rw[e0] at k1 k2 k3
  have hst:(newOb (lowSt s) (Ob.bbf e l)).2=lowSt (newObV s (.bbf e l)):=(lowSt_new s (.bbf e l)).symm
  rw[hst] at k1
  refine ⟨g.era s.nob 0 y,⟨k1,k2,rfl,λk b hO=>?_,rfl,rfl,Nat.le_succ _,rfl,rfl,λo hlo=>?_,rfl,λo hlo e'=>Gh.era_other _ _ _ _ _ _ (λh=>by omega)⟩,.bld ty s.nob p _ hp (.sh _ _ _ _ y.sz _ (Gh.era_same _ _ _ _))⟩
  .grind
  .simp[unK,newObV]
   rw[Tr.get_set64 _ _ _ _ hlt,if_neg (by omega)]
 | @link m pre post x y cv ty al al' vp vq b hb hv h1 h2=>
  obtain ⟨o',rfl,ho'⟩:=hnx b hb
  have hap':=List.pairwise_append.1 hap
  have hn1:(unCs s pre x).2.nob<=bigN:=Nat.le_trans (unCs_nob post _ y) hn
  let ⟨g1,hu1,hp1⟩:=unCs_sound h1 hs (λa ha=>hfr a (List.mem_append_left _ ha)) hap'.1 hn1
  let ⟨g2,hu2,hp2⟩:=unCs_sound (s:=(unCs s pre x).2) (hu1.imm▸h2) hu1.rel (λa ha b hb o hO=>by
    rcases hu1.own o b hO with hO|⟨_,a2,ha2,hb2⟩
    .grind
    grind) hap'.2.1 hn
  refine ⟨g2,hu1.trans hu2,?_⟩
  have hmid:TRel g2 w (low (lkV m o':V S)) (lkVal m b):=lkV_rel (by rw[hu2.blk,hu1.blk];exact ho') m
  have hall:PW (TRel g2 w) (lows ((unCs s pre x).1++(ptrsV m (some o')++(unCs (unCs s pre x).2 post y).1))) cv.toList:=by
   rw[hv,lows_append,lows_append]
   exact PW.append ⟨hp1.1,λj t v k1 k2=>(hp1.2 j t v k1 k2).le hu2.le⟩ (PW.append ⟨rfl,λj t v k1 k2=>by
    grind[lows,ptrsV]⟩ hp2)
  exact .box _ _ _ (by simpa using hall.1) λj t v k1 k2=>hall.2 j t v k1 (by simpa using k2)
end TL
end
section
namespace TL
open Go
variable {S:Sg}
theorem Tr.get_del {α:Type}:∀(n:Nat) (t:Tr α) (k j:Nat),k+1<2 ^ n->(Tr.del n t k).get j=if j=k then none else t.get j
 |0,t,k,j,h=>by simp at h
 |n+1,.nil,k,j,h=>by
  have:Tr.del (n+1) (.nil:Tr α) k=.nil:=rfl
  rw[this,Tr.get_nil]
  split<;>rfl
 |n+1,.node v l r,0,j,h=>by
  have:Tr.del (n+1) (.node v l r) 0=.node none l r:=rfl
  cases j with
  |zero=>rfl
  |succ j=>rfl
 |n+1,.node v l r,k+1,j,h=>by
  have hk':k/2+1<2 ^ n:=by
   omega
  have hdel:Tr.del (n+1) (.node v l r) (k+1)=if k%2=0 then .node v (Tr.del n l (k/2)) r else .node v l (Tr.del n r (k/2)):=by
   simp[Tr.del]
   by_cases h2:k%2=0
   .have:Nat.beq (Nat.mod k 2) 0=true:=by show Nat.beq (k%2) 0=true;rw[h2];rfl
    simp[this,h2]
    rfl
   .have:Nat.beq (Nat.mod k 2) 0=false:=by
     show Nat.beq (k%2) 0=false
     have:k%2=1:=by omega
     rw[this];rfl
    simp[this,h2]
    rfl
  rw[hdel]
  cases j with
  |zero=>split<;>simp[Tr.get_zero]
  |succ j=>
   by_cases hk2:k%2=0
   .rw[if_pos hk2,Tr.get_succ,Tr.get_succ]
    by_cases hj2:j%2=0
    .rw[if_pos hj2,if_pos hj2,Tr.get_del n _ _ _ hk']
     grind
    grind
   .rw[if_neg hk2,Tr.get_succ,Tr.get_succ]
    by_cases hj2:j%2=0
    .rw[if_pos hj2,if_pos hj2,if_neg (by omega)]
    .rw[if_neg hj2,if_neg hj2,Tr.get_del n _ _ _ hk']
     grind
theorem Tr.get_dels {α:Type}:∀(bs:List Nat) (t:Tr α) (j:Nat),(∀b∈bs,b<bigN)->(bs.foldl (λt o=>t.del fuelTr o) t).get j=if j∈bs then none else t.get j
 |[],t,j,_=>by simp
 |b ::bs,t,j,h=>by
  rw[List.foldl_cons,Tr.get_dels bs _ j (λc hc=>h c (by simp[hc])),Tr.get_del _ _ _ _ (by have:=h b (by simp);unfold fuelTr;unfold bigN at this;omega)]
  by_cases h1:j∈bs
  .simp[h1]
  .by_cases h2:j=b<;>simp[h1,h2]
theorem Tr.get_mapA {α:Type} (f:α->α):∀(t:Tr α) (k:Nat),(t.mapA f).get k=(t.get k).map f
 | .nil,k=>by
  rfl
 | .node v l r,0=>by
  have:(Tr.node v l r).mapA f=.node (match v with|some x=>some (f x)|none=>none) (l.mapA f) (r.mapA f):=rfl
  rw[this,Tr.get_zero,Tr.get_zero]
  cases v<;>rfl
 | .node v l r,k+1=>by
  have:(Tr.node v l r).mapA f=.node (match v with|some x=>some (f x)|none=>none) (l.mapA f) (r.mapA f):=rfl
  rw[this,Tr.get_succ,Tr.get_succ,Tr.get_mapA f l,Tr.get_mapA f r]
  split<;>rfl
theorem Tr.mem_keysOf {α:Type} (p:α->Bool):∀(t:Tr α) (k:Nat) (x:α),t.get k=some x->p x=true->k∈t.keysOf p
 | .nil,k,x,h,_=>by cases h
 | .node v l r,0,x,h,hp=>by
  grind[Tr.get_zero,Tr.keysOf]
 | .node v l r,k+1,x,h,hp=>by
  rw[Tr.get_succ] at h
  simp only[Tr.keysOf,List.mem_append,List.mem_map]
  by_cases hk:k%2=0
  .rw[if_pos hk] at h
   exact .inr (.inl ⟨k/2,Tr.mem_keysOf p l _ x h hp,by grind⟩)
  .rw[if_neg hk] at h
   exact .inr (.inr ⟨k/2,Tr.mem_keysOf p r _ x h hp,by grind⟩)
theorem Tr.get_keep {α:Type} (p:α->Bool):∀(t:Tr α) (k:Nat),(t.keep p).get k=(t.get k).filter p
 | .nil,k=>by
  rfl
 | .node v l r,0=>by
  have:(Tr.node v l r).keep p=.node (match v with|some x=>bif p x then some x else none|none=>none) (l.keep p) (r.keep p):=rfl
  grind[Tr.get_zero]
 | .node v l r,k+1=>by
  have:(Tr.node v l r).keep p=.node (match v with|some x=>bif p x then some x else none|none=>none) (l.keep p) (r.keep p):=rfl
  rw[this,Tr.get_succ,Tr.get_succ,Tr.get_keep p l,Tr.get_keep p r]
  split<;>rfl
mutual
theorem ments_low (os:List Nat):∀v:V S,mentT os (low v)=ments os v
 | .ty t x=>by
  have:∀l:List D,mentTs os (l.map .sym)=false:=by
   intro l
   induction l with
   |nil=>rfl
   |cons d l ih=>simp[mentTs,mentT,ih]
  cases t<;>simp[low,lowTy,ments,mentT,this]
 | .kb _=>rfl
 | .kn _ _=>rfl
 | .dat _=>rfl
 | .ptr _ _=>rfl
 | .ept _ _ _=>rfl
 | .epw _ _ _ _=>rfl
 | .sh _ _=>rfl
 | .emp=>rfl
 | .clp _ _ _=>rfl
 | .fn _ a b=>by simp[low,ments,mentT,mentsL_low os a,mentsL_low os b]
 | .ifc _ v=>by simp[low,ments,mentT,ments_low os v]
 | .agg cs=>by simp[low,ments,mentT,mentsL_low os cs]
 | .tup cs=>by simp[low,ments,mentT,mentsL_low os cs]
 | .gd _ v=>by simp[low,ments,mentT,ments_low os v]
 | .mp _=>rfl
 | .yld _=>rfl
 | .slb _ _=>rfl
 | .itr _=>rfl
 | .ub _=>rfl
 | .nel _ _ _ _=>rfl
 | .cln _ _ _=>rfl
theorem mentsL_low (os:List Nat):∀l:List (V S),mentTs os (lows l)=mentsL os l
 |[]=>rfl
 |v ::l=>by simp[lows,mentTs,mentsL,ments_low os v,mentsL_low os l]
end
theorem mentT_nil:∀t:T,mentT [] t=false:=by
 intro t
 induction t using T.rec (motive_2:=λl=>mentTs [] l=false) with
 |fn f a b iha ihb=>simp[mentT,iha,ihb]
 |ifc t v ih=>simp[mentT,ih]
 |agg cs ih=>simp[mentT,ih]
 |tup cs ih=>simp[mentT,ih]
 |gd c v ih=>simp[mentT,ih]
 |nil=>rfl
 |cons a l iha ihl=>simp[mentTs,iha,ihl]
 |_=>simp[mentT]
structure ExtV (lo fl:Nat) (g:Gh) (w:World) (g':Gh) (w':World):Prop where
 blk:∀o b,g.blk o=some b->g'.blk o=some b
 arr:∀o e x,o<lo->g.arr o e=some x->g'.arr o e=some x
 imm:∀b,g.imm b->g'.imm b
 size:w.heap.size<=w'.heap.size
 heap:∀b,b<w.heap.size->(∀o,fl<=o->¬Owned g o b)->w'.heap[b]?=w.heap[b]?
 own:∀o b,fl<=o->Owned g' o b->(∃o',fl<=o'∧Owned g o' b)∨w.heap.size<=b
 immn:∀b,g'.imm b->g.imm b∨w.heap.size<=b∨∃o,fl<=o∧Owned g o b
 os:w'.os=w.os
 output:w'.output=w.output
theorem ExtV.refl (lo fl:Nat) (g:Gh) (w:World):ExtV lo fl g w g w:=
 ⟨λ_ _ h=>h,λ_ _ _ _ h=>h,λ_ h=>h,Nat.le_refl _,λ_ _ _=>rfl,λo _ ho h=>.inl ⟨o,ho,h⟩,λ_ h=>.inl h,rfl,rfl⟩
theorem ExtV.trans {lo fl:Nat} {g g' g'':Gh} {w w' w'':World} (h:ExtV lo fl g w g' w') (k:ExtV lo fl g' w' g'' w''):ExtV lo fl g w g'' w'' where
 blk o b e:=k.blk o b (h.blk o b e)
 arr o e x hl e':=k.arr o e x hl (h.arr o e x hl e')
 imm b e:=k.imm b (h.imm b e)
 size:=Nat.le_trans h.size k.size
 heap b hb hn:=by
  rw[k.heap b (Nat.lt_of_lt_of_le hb h.size) (λo ho hO=>?_),h.heap b hb hn]
  rcases h.own o b ho hO with ⟨o',ho',hO'⟩|hO
  .grind
  .omega
 own o b ho hO:=by
  rcases k.own o b ho hO with ⟨o',ho',hO'⟩|hO
  .exact h.own o' b ho' hO'
  .exact .inr (Nat.le_trans h.size hO)
 immn b hb:=by
  rcases k.immn b hb with hb|hb|⟨o,ho,hO⟩
  .exact h.immn b hb
  .exact .inr (.inl (Nat.le_trans h.size hb))
  .rcases h.own o b ho hO with ⟨o',ho',hO'⟩|hO
   .grind
   omega
 os:=k.os.trans h.os
 output:=k.output.trans h.output
theorem Ext.toV {fl:Nat} (lo:Nat) {g g':Gh} {w w':World} (h:Ext fl g w g' w'):ExtV lo fl g w g' w':=
 ⟨λo b e=>h.blk o b e,λo e x _ k=>h.arr o e x k,h.imm,h.size,h.heap,λo b ho hO=>(h.own o b hO).imp (λh=>⟨o,ho,h⟩) id,h.immn,h.os,h.output⟩
structure AftV (ow:List Nat) (s:StV S) (g:Gh) (w:World) (s':StV S) (g':Gh) (w':World):Prop where
 rel:SRel g' (lowSt s') w'
 ext:ExtV s.lo s.fl g w g' w'
 fl:s'.fl=s.fl
 lo:s'.lo=s.lo
 nob:s.nob<=s'.nob
 wrm:∀o∈s.wr,o∈s'.wr
 same:∀o,o<s.nob->o∉s'.wr->s'.ob.get o=s.ob.get o
 tr:∀t v,TRel g w t v->mentT ow t=false->TRel g' w' t v
 oww:∀o∈ow,o∈s'.wr
 drm:∀o∈s.dr,o∈s'.dr
 owd:∀o∈ow,o∈s'.dr
inductive PRel (S:Sg) (I:Nat->Prop) (w:World):(ps:List Pk)->pden S.A ps->List Value->List ASl->List Nat->Prop where
 |nil:PRel S I w [] () [] [] []
 |one {c:Ck} {ps:List Pk} {x:den S.A c.ty} {h:pden S.A ps} {v:Value} {vs:List Value} {al al':List ASl} {bl:List Nat} (h1:HRel S I w [c] (x,()) [v] al) (h2:PRel S I w ps h vs al' bl) :
   PRel S I w (.one c ::ps) (x,h) (v ::vs) (al++al') bl
 |box {k:Bk} {ps:List Pk} {x:kden S.A k} {h:pden S.A ps} {b:Nat} {hx:Obj} {vs:List Value} {al al':List ASl} {bl:List Nat} (hh:w.heap[b]?=some hx)
   (h1:KRel S I w b (headN bl) k x hx al) (h2:PRel S I w ps h vs al' bl):PRel S I w (.box k ::ps) (x,h) (kvalue k b ::vs) (al++al') (b ::bl)
 |hid {k:Bk} {ps:List Pk} {x:kden S.A k} {h:pden S.A ps} {b:Nat} {hx:Obj} {vs:List Value} {al al':List ASl} {bl:List Nat} (hh:w.heap[b]?=some hx)
   (h1:KRel S I w b (headN bl) k x hx al) (h2:PRel S I w ps h vs al' bl):PRel S I w (.hid k ::ps) (x,h) vs (al++al') (b ::bl)
inductive BRel (S:Sg) (I:Nat->Prop) (w:World):(ps:List Pk)->bden S.A ps->List Nat->List ASl->Prop where
 |nil:BRel S I w [] () [] []
 |one {c:Ck} {ps:List Pk} {r:bden S.A ps} {bl:List Nat} {al:List ASl} (h:BRel S I w ps r bl al):BRel S I w (.one c ::ps) r bl al
 |box {k:Bk} {ps:List Pk} {x:kden S.A k} {r:bden S.A ps} {b:Nat} {hx:Obj} {bl:List Nat} {al al':List ASl} (hh:w.heap[b]?=some hx)
   (h1:KRel S I w b (headN bl) k x hx al) (h2:BRel S I w ps r bl al'):BRel S I w (.box k ::ps) (x,r) (b ::bl) (al++al')
 |hid {k:Bk} {ps:List Pk} {x:kden S.A k} {r:bden S.A ps} {b:Nat} {hx:Obj} {bl:List Nat} {al al':List ASl} (hh:w.heap[b]?=some hx)
   (h1:KRel S I w b (headN bl) k x hx al) (h2:BRel S I w ps r bl al'):BRel S I w (.hid k ::ps) (x,r) (b ::bl) (al++al')
def valOf:List Value->Value
 |[v]=>v
 |l=>.tuple l.toArray
def EndPost (S:Sg) (I:Nat->Prop) (w:World) (ps:List Pk) (rs:List Ck) (r:cden S.A rs×bden S.A ps) (al:List ASl) (bl:List Nat) (v:Value) (w':World):Prop:=∃(I':Nat->Prop) (vs:List Value) (al1 al2:List ASl),(∀b,I b->I' b)∧(∀b,I' b->I b∨w.heap.size<=b∨∃a∈al,a.at b)∧(∀b,I' b->b<w'.heap.size)∧w.heap.size<=w'.heap.size∧
   (∀b,b<w.heap.size->b∉bl->(∀a∈al,¬a.at b)->w'.heap[b]?=w.heap[b]?)∧w'.os=w.os∧w'.output=w.output∧v=valOf vs∧
   BRel S I' w' ps r.2 bl al1∧HRel S I' w' rs r.1 vs al2∧Apart (al1++al2)∧(∀a∈al1++al2,∀b,a.at b->(∃a'∈al,a'.at b)∨w.heap.size<=b)∧(∀b∈bl,¬I' b∧∀a∈al1++al2,¬a.at b)
def ConPost (S:Sg) (I:Nat->Prop) (w:World) (ps:List Pk) (rs:List Ck) (r:Rx (cden S.A rs×bden S.A ps) (den S.A S.pt×bden S.A ps)) (al:List ASl) (bl:List Nat):Ending->World->Prop
 | .returned v,w'=>match r with
  | .ok r=>EndPost S I w ps rs r al bl v w'
  | .pan _=>False
 | .panicked ch,w'=>match r with
  | .ok _=>False
  | .pan p=>∃v,ch=[{v,recovered:=false}]∧EndPost S I w ps [.dat S.pt] ((p.1,()),p.2) al bl v w'
 | .outgrown,_=>False
def ConOk (P:Program) (f:FuncId) (c:Con S):Prop:=
 Enters P f∧∀x r,c.F x=some r->∀(I:Nat->Prop) (w:World) (vs:Array Value) (al:List ASl) (bl:List Nat),PRel S I w c.ps x vs.toList al bl->(∀b,I b->b<w.heap.size)->GlOk I w->Apart al->bl.Nodup->
  (∀b∈bl,b<w.heap.size∧¬I b∧∀a∈al,¬a.at b)->Calls P f vs w (ConPost S I w c.ps c.rs (RT.res c.pn r) al bl)
theorem packK_nx {g:Gh} {w:World} {s:StV S} (hs:SRel g (lowSt s) w) {k:Bk} {o b:Nat} (hb:g.blk o=some b) {x:kden S.A k} {fz ow:List Nat} {nx:Option Nat} (h:packK s k (s.ob.get o)=some (x,fz,ow,nx)) :
  (∀o',nx=some o'->∃b',g.blk o'=some b')∧∀o',nx=some o'->∃m pre post,k=.link m pre post:=by
 cases ho:s.ob.get o with
 |none=>rw[ho] at h;cases k<;>simp[packK] at h
 |some ob=>
 rw[ho] at h
 let ⟨hx,hh,hr⟩:=(hs.box o b hb).2.2 (lowOb ob) (by rw[lowSt_get,ho];rfl)
 cases k with
 |link m pre post=>
  refine ⟨λo' hnx=>?_,λ_ _=>⟨m,pre,post,rfl⟩⟩
  cases ob with
  |box vs=>
   cases hr with
   |box _ cv ty hl hr=>
   simp only[packK] at h
   split at h
   rotate_left
   .cases h
   rename_i x1 a1 b1 o1 y1 a2 b2 e1 e2 e3
   obtain ⟨_,_,_,rfl⟩:=h
   have e2:=lkO_eq e2
   rw[nth_eq] at e2
   have hlt:lenL pre<cv.size:=by grind[lows_len]
   have hmid:=hr (lenL pre) _ _ (by rw[lows_map,List.getElem?_map,e2];rfl) (Array.getElem?_eq_getElem hlt)
   let ⟨b2,hb2,_⟩:=lkV_inv hmid
   grind
  |_=>simp[packK] at h
 |cells cs=>
  cases ob<;>simp only[packK] at h<;>try (cases h;done)
  grind
 |map kt vt=>
  cases ob<;>simp only[packK] at h<;>try (cases h;done)
  grind
 |sit=>
  cases ob<;>simp only[packK] at h<;>try (cases h;done)
  grind
 |lpr x=>
  cases ob<;>simp only[packK] at h<;>try (cases h;done)
  all_goals
   rcases cond_some h with ⟨_,h⟩|⟨_,h⟩
   rotate_left
   .cases h
   obtain ⟨_,_,_,rfl⟩:=h
   exact ⟨λo' h=>(by cases h),λo' h=>(by cases h)⟩
 |bld ty e=>
  cases ob<;>simp only[packK] at h<;>try (cases h;done)
  split at h
  rotate_left
  .cases h
  rcases cond_some h with ⟨_,h⟩|⟨_,h⟩
  rotate_left
  .cases h
  obtain ⟨_,_,_,rfl⟩:=h
  exact ⟨λo' h=>(by cases h),λo' h=>(by cases h)⟩
theorem packPs_head {g1:Gh} {s:StV S} {k:Bk} {ps:List Pk} {l:List (V S)} {nx:Option Nat} {h:pden S.A ps} {a b bs bl:List Nat} (hk:linkOk k ps=true) (hnx:∀o',nx=some o'->∃m pre post,k=.link m pre post) (e:packPs s ps l nx=some (h,a,b,bs)) (hp:PW (λo b=>g1.blk o=some b) bs bl) :
  ∀o',nx=some o'->∃b',headN bl=some b'∧g1.blk o'=some b':=by
 intro o' ho
 obtain ⟨m,pre,post,rfl⟩:=hnx o' ho
 subst ho
 match ps,hk with
 | .hid k' ::ps,_=>
  simp[packPs] at e
  rcases cond_some e with ⟨_,e⟩|⟨_,e⟩
  rotate_left
  .cases e
  split at e
  rotate_left
  .cases e
  split at e
  rotate_left
  .cases e
  simp at e
  obtain ⟨_,_,_,rfl⟩:=e
  match bl,hp with
  |b' ::bl,hp=>exact ⟨b',rfl,hp.2 0 _ _ rfl rfl⟩
  |[],hp=>exact absurd hp.1 (by simp)
theorem packPs_sound (hS:SgOk S) {g:Gh} {w:World} {s:StV S} (hs:SRel g (lowSt s) w):∀{ps:List Pk} {l:List (V S)} {vals:List Value} {x:pden S.A ps} {fz ow bs:List Nat} {nx0:Option Nat},packPs s ps l nx0=some (x,fz,ow,bs)->PW (TRel g w) (lows l) vals->(∀o,nx0=some o->∃b,g.blk o=some b)->
  (∀o∈fz,Live g (lowSt s) o)∧(∀o∈ow,s.fl<=o∧s.lo<=o∧o<s.nob∧∃ob,s.ob.get o=some ob∧arrB ob=true)∧(∀o∈bs,s.fl<=o∧∃ob,s.ob.get o=some ob∧plainOb ob=true)∧∀(g1:Gh) (s1:St) (fz':List Nat),SRel g1 s1 w->Ext s.fl g w g1 w->Frozen (lowSt s) s1 fz'->(∀o∈fz,o∈fz')->(∀o∈ow,s1.ob.get o=(lowSt s).ob.get o)->
   ∃al bl,PRel S g1.imm w ps x vals al bl∧AL g1 al ow∧PW (λo b=>g1.blk o=some b) bs bl
 |[],[],vals,x,fz,ow,bs,_,h,hv=>by
  intro _
  obtain ⟨_,rfl,rfl,rfl⟩:=h
  have:vals=[]:=List.eq_nil_of_length_eq_zero (by have:=hv.1;simpa[lows] using this.symm)
  subst this
  exact ⟨λo ho=>(by cases ho),λo ho=>(by cases ho),λo ho=>(by cases ho),λ_ _ _ _ _ _ _ _=>⟨[],[],.nil,.nil,rfl,λj a b h=>by simp at h⟩⟩
 | .one c ::ps,v ::l,vals,x,fz,ow,bs,_,h,hv=>by
  intro _
  simp[packPs] at h
  split at h
  .rename_i x1 a1 b1 h1 a2 b2 bs2 e1 e2
   simp at h
   obtain ⟨rfl,rfl,rfl,rfl⟩:=h
   match vals,hv with
   |val ::vals,hv=>
    have hv1:TRel g w (low v) val:=hv.2 0 _ _ rfl rfl
    have hv2:PW (TRel g w) (lows l) vals:=⟨by have:=hv.1;simpa[lows] using this,λj a b k1 k2=>hv.2 (j+1) a b (by simpa[lows] using k1) (by simpa using k2)⟩
    let ⟨p1,p2,p3⟩:=packC_sound hS hs e1 hv1
    let ⟨q1,q2,q4,q3⟩:=packPs_sound hS hs e2 hv2 (λo ho=>by cases ho)
    refine ⟨λo ho=>(List.mem_append.1 ho).elim (p1 o) (q1 o),λo ho=>(List.mem_append.1 ho).elim (p2 o) (q2 o),q4,λg1 s1 fz' hs1 he hf hsub hsame=>?_⟩
    let ⟨al1,k1,k2⟩:=p3 g1 s1 fz' hs1 he hf (λo ho=>hsub o (List.mem_append_left _ ho)) (λo ho=>hsame o (List.mem_append_left _ ho))
    let ⟨al2,bl,k3,k4,k5⟩:=q3 g1 s1 fz' hs1 he hf (λo ho=>hsub o (List.mem_append_right _ ho)) (λo ho=>hsame o (List.mem_append_right _ ho))
    exact ⟨_,bl,.one k1 k3,k2.append k4,k5⟩
   |[],hv=>exact absurd hv.1 (by simp[lows])
  .cases h
 | .box k ::ps,v ::l,vals,x,fz,ow,bs,nx0,h,hv=>by
  intro _
  simp[packPs] at h
  split at h
  .rename_i o hkp
   obtain rfl:=kptr_eq hkp
   rcases cond_some h with ⟨hb,h9⟩|⟨_,h9⟩
   .clear h
    rw[Bool.and_eq_true_iff] at hb
    split at h9
    rotate_left
    .cases h9
    rename_i x1 a1 b1 nx e1
    split at h9
    rotate_left
    .cases h9
    rename_i h1 a2 b2 bs2 e2
    simp at h9
    obtain ⟨rfl,rfl,rfl,rfl⟩:=h9
    match vals,hv with
    |val ::vals,hv=>
     have hv1:TRel g w (low (kval k o)) val:=hv.2 0 _ _ rfl rfl
     have hv2:PW (TRel g w) (lows l) vals:=⟨by have:=hv.1;simpa[lows] using this,λj a b k1 k2=>hv.2 (j+1) a b (by simpa[lows] using k1) (by simpa using k2)⟩
     obtain ⟨b,hbk,rfl⟩:=kval_inv hv1
     let ⟨p0,hx,hh,p1,p2,p3⟩:=packK_sound hS hs hbk e1
     let ⟨hpt,hnx⟩:=packK_nx hs hbk e1
     let ⟨q1,q2,q4,q3⟩:=packPs_sound hS hs e2 hv2 hpt
     refine ⟨λo ho=>(List.mem_append.1 ho).elim (p1 o) (q1 o),λo ho=>(List.mem_append.1 ho).elim (p2 o) (q2 o),λk hk=>?_,λg1 s1 fz' hs1 he hf hsub hsame=>?_⟩
     .rcases List.mem_cons.1 hk with rfl|hk
      .simp_all
      grind
     .let ⟨al2,bl,k3,k4,k5⟩:=q3 g1 s1 fz' hs1 he hf (λo ho=>hsub o (List.mem_append_right _ ho)) (λo ho=>hsame o (List.mem_append_right _ ho))
      let ⟨al1,k1,k2⟩:=p3 g1 s1 fz' hs1 he hf (λo ho=>hsub o (List.mem_append_left _ ho)) (λo ho=>hsame o (List.mem_append_left _ ho)) (headN bl) (packPs_head hb.2 hnx e2 k5)
      refine ⟨_,b ::bl,.box hh k1 k3,k2.append k4,by simp[k5.1],λj a c m1 m2=>?_⟩
      cases j with
      |zero=>simp at m1 m2;subst m1;subst m2;exact he.blk _ _ hbk
      |succ j=>exact k5.2 j a c (by simpa using m1) (by simpa using m2)
    |[],hv=>exact absurd hv.1 (by simp[lows])
   .cases h9
  .cases h
 | .hid k ::ps,l,vals,x,fz,ow,bs,some o,h,hv=>by
  intro hp0
  rcases cond_some h with ⟨hb,h9⟩|⟨_,h9⟩
  rotate_left
  .cases h9
  clear h
  rw[Bool.and_eq_true_iff] at hb
  split at h9
  rotate_left
  .cases h9
  rename_i x1 a1 b1 nx e1
  split at h9
  rotate_left
  .cases h9
  rename_i h1 a2 b2 bs2 e2
  obtain ⟨rfl,rfl,rfl,rfl⟩:=h9
  let ⟨b,hbk⟩:=hp0 o rfl
  let ⟨p0,hx,hh,p1,p2,p3⟩:=packK_sound hS hs hbk e1
  let ⟨hpt,hnx⟩:=packK_nx hs hbk e1
  let ⟨q1,q2,q4,q3⟩:=packPs_sound hS hs e2 hv hpt
  refine ⟨λo ho=>(List.mem_append.1 ho).elim (p1 o) (q1 o),λo ho=>(List.mem_append.1 ho).elim (p2 o) (q2 o),λk hk=>?_,λg1 s1 fz' hs1 he hf hsub hsame=>?_⟩
  .rcases List.mem_cons.1 hk with rfl|hk
   .simp_all
   grind
  .let ⟨al2,bl,k3,k4,k5⟩:=q3 g1 s1 fz' hs1 he hf (λo ho=>hsub o (List.mem_append_right _ ho)) (λo ho=>hsame o (List.mem_append_right _ ho))
   let ⟨al1,k1,k2⟩:=p3 g1 s1 fz' hs1 he hf (λo ho=>hsub o (List.mem_append_left _ ho)) (λo ho=>hsame o (List.mem_append_left _ ho)) (headN bl) (packPs_head hb.2 hnx e2 k5)
   refine ⟨_,b ::bl,.hid hh k1 k3,k2.append k4,by simp[k5.1],λj a c m1 m2=>?_⟩
   cases j with
   |zero=>simp at m1 m2;subst m1;subst m2;exact he.blk _ _ hbk
   |succ j=>exact k5.2 j a c (by simpa using m1) (by simpa using m2)
 |[],_ ::_,_,_,_,_,_,_,h,_=>by simp[packPs] at h
 | .one _ ::_,[],_,_,_,_,_,_,h,_=>by simp[packPs] at h
 | .box _ ::_,[],_,_,_,_,_,_,h,_=>by simp[packPs] at h
 | .hid _ ::_,_,_,_,_,_,_,none,h,_=>by simp[packPs] at h
end TL
end
section
namespace TL
open Go
variable {S:Sg}
theorem Gh.drop_nil (g:Gh):g.drop []=g:=by
 rfl
theorem mentsL_mem {os:List Nat}:∀{l:List (V S)},mentsL os l=false->∀v∈l,ments os v=false
 |[],_,v,hv=>by cases hv
 |a ::l,h,v,hv=>by
  simp[mentsL,Bool.or_eq_false_iff] at h
  rcases List.mem_cons.1 hv with rfl|hv
  .exact h.1
  .exact mentsL_mem h.2 v hv
theorem mentsP_mem {α:Type} {os:List Nat}:∀{l:List (α×V S)},mentsP os l=false->∀p∈l,ments os p.2=false
 |[],_,v,hv=>by cases hv
 |a ::l,h,v,hv=>by
  simp[mentsP,Bool.or_eq_false_iff] at h
  rcases List.mem_cons.1 hv with rfl|hv
  .exact h.1
  .exact mentsP_mem h.2 v hv
theorem mapA_id {p:V S->Bool} {f:V S->V S} (hf:∀v,p v=false->f v=v):∀{t:Tr (V S)},mentsTr p t=false->t.mapA f=t
 | .nil,_=>rfl
 | .node v l r,h=>by
  simp[mentsTr,Bool.or_eq_false_iff] at h
  simp only[Tr.mapA,mapA_id hf h.2.1,mapA_id hf h.2.2]
  grind
theorem cleanV_id {os:List Nat} {v:V S} (h:ments os v=false):cleanV os v=v:=by simp[cleanV,h,cond_false]
theorem cleanOb_id {os:List Nat} {ob:ObV S} (h:obMents os ob=false):cleanOb os ob=ob:=by
 cases ob with
 |box cs=>
  simp[cleanOb,ObV.box.injEq]
  have:∀v∈cs,cleanV os v=v:=λv hv=>cleanV_id (mentsL_mem h v hv)
  exact (List.map_congr_left this).trans (List.map_id _)
 |mpv kt l=>
  simp only[cleanOb]
  have:∀p∈l,((p.1,cleanV os p.2):den S.A kt×V S)=p:=λp hp=>by rw[cleanV_id (mentsP_mem h p hp)]
  rw[(List.map_congr_left this).trans (List.map_id _)]
 |lp l=>
  simp[cleanOb,mapA_id (λv=>cleanV_id) (show mentsTr (ments os) l.fr.tm=false from h)]
 |nar n j l era m rera hole=>
  have h:os.contains m=false:=h
  simp only[cleanOb,h,cond_false]
 |bld ty m=>
  have h:os.contains m=false:=h
  simp only[cleanOb,h,cond_false]
 |_=>rfl
theorem cleanV_left (os:List Nat) (v:V S):LeftT (mentT os) (low v) (low (cleanV os v)):=by
 cases hm:ments os v with
 |true=>exact .inr ⟨_,by simp[cleanV,hm,cond_true];rfl⟩
 |false=>exact .inl ⟨by simp[cleanV,hm,cond_false],by rw[ments_low];exact hm⟩
theorem ty_left (os:List Nat) (t:Ty) (x:den S.A t):LeftT (mentT os) (lowTy S t x) (lowTy S t x):=.inl ⟨rfl,ments_low (S:=S) os (.ty t x)⟩
theorem cleanOb_left (os:List Nat) (ob:ObV S):LeftOb os (lowOb ob) (lowOb (cleanOb os ob)):=by
 cases ob with
 |box cs=>
  refine ⟨by simp[lows_len],λj t u h1 h2=>?_⟩
  simp only[lows_map,List.getElem?_map,Option.map_eq_some_iff] at h1 h2
  obtain ⟨v,hv,rfl⟩:=h1
  obtain ⟨v',⟨v'',hv'',rfl⟩,rfl⟩:=h2
  grind[cleanV_left]
 |map kt vt l=>
  refine ⟨rfl,λj t u h1 h2=>?_⟩
  rw[h1] at h2
  cases h2
  simp only[List.getElem?_map,Option.map_eq_some_iff] at h1
  obtain ⟨p,_,rfl⟩:=h1
  grind[ty_left]
 |mpv kt l=>
  refine ⟨by simp,λj t u h1 h2=>?_⟩
  simp only[List.getElem?_map,Option.map_eq_some_iff] at h1 h2
  obtain ⟨v,hv,rfl⟩:=h1
  obtain ⟨v',⟨v'',hv'',rfl⟩,rfl⟩:=h2
  grind[ty_left,cleanV_left]
 |lp l=>
  refine ⟨rfl,rfl,λk u hk=>?_⟩
  have hk':((l.fr.tm.mapA (cleanV os)).map low).get k=some u:=hk
  rw[Tr.get_map,Tr.get_mapA,Option.map_map,Option.map_eq_some_iff] at hk'
  obtain ⟨v,hv,rfl⟩:=hk'
  exact ⟨low v,by show (l.fr.tm.map low).get k=_;rw[Tr.get_map,hv];rfl,cleanV_left os v⟩
 |arr=>rfl
 |frz=>rfl
 |sit=>rfl
 |dfr=>rfl
 |lpd=>rfl
 |rws=>rfl
 |gone=>rfl
 |mks=>rfl
 |nar n j l era m rera hole=>
  cases hm:os.contains m with
  |true=>exact .inr (by simp only[cleanOb,hm,cond_true];rfl)
  |false=>exact .inl ⟨by simp only[cleanOb,hm,cond_false];rfl,hm⟩
 |bbf=>rfl
 |bld ty m=>
  cases hm:os.contains m with
  |true=>exact .inr ⟨_,_,by simp only[cleanOb,hm,cond_true];rfl⟩
  |false=>exact .inl ⟨by simp only[cleanOb,hm,cond_false];rfl,hm⟩
theorem forget_get (os:List Nat) (s:StV S) (o:Nat):(forget os s).ob.get o=if os=[] then s.ob.get o else (s.ob.get o).map (cleanOb os):=by
 cases os with
 |nil=>rfl
 |cons a os=>exact Tr.get_mapA _ _ _
theorem forget_drop {g:Gh} {w:World} {s:StV S} (os:List Nat) (hs:SRel g (lowSt s) w):SRel (g.drop os) (lowSt (forget os s)) w:=by
 cases os with
 |nil=>exact hs
 |cons a os=>
  refine hs.drop rfl λo ob2 h=>?_
  rw[lowSt_get,forget_get,if_neg (by simp),Option.map_map,Option.map_eq_some_iff] at h
  obtain ⟨ob,hob,rfl⟩:=h
  exact ⟨lowOb ob,by rw[lowSt_get,hob];rfl,cleanOb_left _ ob⟩
theorem forget_same (os:List Nat) (s:StV S) (o:Nat) (h:o∉(forget os s).wr):(forget os s).ob.get o=s.ob.get o:=by
 rw[forget_get]
 split
 .rfl
 .rename_i hos
  cases hg:s.ob.get o with
  |none=>rfl
  |some ob=>
   cases hm:obMents os ob with
   |true=>
    exfalso
    apply h
    cases os with
    |nil=>simp_all
    |cons a os=>exact List.mem_append_left _ (Tr.mem_keysOf _ _ _ _ hg hm)
   |false=>rw[Option.map_some,cleanOb_id hm]
theorem forget_st (os:List Nat) (s:StV S):(forget os s).fl=s.fl∧(forget os s).lo=s.lo∧(forget os s).nob=s.nob∧(forget os s).dr=s.dr∧∀o∈s.wr,o∈(forget os s).wr:=by
 cases os with
 |nil=>exact ⟨rfl,rfl,rfl,rfl,λ_ h=>h⟩
 |cons a os=>exact ⟨rfl,rfl,rfl,rfl,λo h=>List.mem_append_right _ h⟩
theorem freezeV_st:∀{os:List Nat} {s s':StV S},freezeV s os=some s'->s'.fl=s.fl∧s'.lo=s.lo∧s'.nob=s.nob∧(∀o∈s.wr,o∈s'.wr)∧(∀o,o∉s'.wr->s'.ob.get o=s.ob.get o)∧(∀o,o∉os->s'.ob.get o=s.ob.get o)∧s'.dr=s.dr
 |[],s,s',h=>by
  simp[freezeV,Option.some.injEq] at h
  subst h
  exact ⟨rfl,rfl,rfl,λ_ h=>h,λ_ _=>rfl,λ_ _=>rfl,rfl⟩
 |k ::os,s,s',h=>by
  rcases cond_some h with ⟨_,h⟩|⟨_,h⟩
  .split at h
   .let ⟨h1,h2,h3,h4,h5,h6,h7⟩:=freezeV_st h
    refine ⟨h1,h2,h3,λo ho=>h4 o (List.mem_cons_of_mem _ ho),λo ho=>?_,λo ho=>?_,h7⟩
    .rw[h5 o ho]
     exact Tr.get_set_ne _ _ _ _ _ (λe=>ho (h4 o (by rw[e];exact List.mem_cons_self)))
    .rw[h6 o (λhm=>ho (List.mem_cons_of_mem _ hm))]
     exact Tr.get_set_ne _ _ _ _ _ (λe=>ho (by rw[e];exact List.mem_cons_self))
   .let ⟨h1,h2,h3,h4,h5,h6,h7⟩:=freezeV_st h
    exact ⟨h1,h2,h3,h4,h5,λo ho=>h6 o (λhm=>ho (List.mem_cons_of_mem _ hm)),h7⟩
   .split at h
    .rename_i m r _ _ _ _ _
     rcases cond_some h with ⟨hb,h⟩|⟨_,h⟩
     .simp only[Bool.and_eq_true,List.contains_eq_mem,decide_eq_true_eq] at hb
      let ⟨h1,h2,h3,h4,h5,h6,h7⟩:=freezeV_st h
      refine ⟨h1,h2,h3,λo ho=>h4 o (List.mem_cons_of_mem _ (List.mem_cons_of_mem _ ho)),λo ho=>?_,λo ho=>?_,h7⟩
      .rw[h5 o ho]
       show ((s.ob.set fuelTr _ _).set fuelTr k _).get o=_
       rw[Tr.get_set_ne _ _ _ _ _ (λe=>ho (h4 o (by rw[e];exact List.mem_cons_self))),Tr.get_set_ne _ _ _ _ _ (λe=>ho (h4 o (by rw[e];exact List.mem_cons_of_mem _ List.mem_cons_self)))]
      .rw[h6 o (λhm=>ho (List.mem_cons_of_mem _ hm))]
       show ((s.ob.set fuelTr _ _).set fuelTr k _).get o=_
       rw[Tr.get_set_ne _ _ _ _ _ (λe=>ho (by rw[e];exact List.mem_cons_self)),Tr.get_set_ne _ _ _ _ _ (λe=>ho (by rw[e];exact List.mem_cons_of_mem _ hb.1))]
     .cases h
    .cases h
   .let ⟨h1,h2,h3,h4,h5,h6,h7⟩:=freezeV_st h
    exact ⟨h1,h2,h3,h4,h5,λo ho=>h6 o (λhm=>ho (List.mem_cons_of_mem _ hm)),h7⟩
   .let ⟨h1,h2,h3,h4,h5,h6,h7⟩:=freezeV_st h
    exact ⟨h1,h2,h3,h4,h5,λo ho=>h6 o (λhm=>ho (List.mem_cons_of_mem _ hm)),h7⟩
   .cases h
  .cases h
structure PutR (bs:List Nat) (g:Gh) (s:StV S) (w:World) (al:List ASl) (g':Gh) (s':StV S):Prop where
 rel:SRel g' (lowSt s') w
 le:GhLe g g'
 imm:g'.imm=g.imm
 own:∀k b,Owned g' k b->Owned g k b∨(s.nob<=k∧∃a∈al,a.at b)
 fl:s'.fl=s.fl
 lo:s'.lo=s.lo
 nob:s.nob<=s'.nob
 wrm:∀o∈s.wr,o∈s'.wr
 wrb:∀o∈bs,o∈s'.wr
 dr:s'.dr=s.dr
 ob:∀o,o<s.nob->o∉bs->s'.ob.get o=s.ob.get o
 blk:g'.blk=g.blk
 arr:∀o,o<s.nob->∀e,g'.arr o e=g.arr o e
theorem putBs_nob:∀{ps:List Pk} {bs:List Nat} {r:bden S.A ps} {s s':StV S},putBs s ps bs r=some s'->s.nob<=s'.nob
 |[],[],r,s,s',h=>by simp_all[putBs,Option.some.injEq]
 | .one c ::ps,bs,r,s,s',h=>putBs_nob (ps:=ps) (by simpa only[putBs] using h)
 | .box cs ::ps,o ::bs,r,s,s',h=>by
  simp only[putBs] at h
  have h1:=putBs_nob h
  grind[Nat.le_trans,unK_nob]
 | .hid cs ::ps,o ::bs,r,s,s',h=>by
  simp only[putBs] at h
  have h1:=putBs_nob h
  grind[Nat.le_trans,unK_nob]
 |[],_ ::_,_,_,_,h=>by simp[putBs] at h
 | .box _ ::_,[],_,_,_,h=>by simp[putBs] at h
 | .hid _ ::_,[],_,_,_,h=>by simp[putBs] at h
theorem headN_pw {g:Gh} {bs bl:List Nat} (h:PW (λo b=>g.blk o=some b) bs bl):∀b',headN bl=some b'->∃o',headN bs=some o'∧g.blk o'=some b':=by
 intro b' hb
 match bl,bs,h with
 |b ::bl,o ::bs,h=>
  cases hb
  exact ⟨o,rfl,h.2 0 _ _ rfl rfl⟩
 |[],_,_=>cases hb
 |_ ::_,[],h=>exact absurd h.1 (by simp)
theorem putBs_sound:∀{ps:List Pk} {r:bden S.A ps} {bl:List Nat} {al:List ASl} {bs:List Nat} {g:Gh} {w:World} {s s2:StV S},BRel S g.imm w ps r bl al->SRel g (lowSt s) w->PW (λo b=>g.blk o=some b) bs bl->(∀o∈bs,∀e,g.arr o e=none)->
  (∀a∈al,∀b,a.at b->∀o,¬Owned g o b)->Apart al->putBs s ps bs r=some s2->s2.nob<=bigN->∃g',PutR bs g s w al g' s2:=by
 intro ps
 induction ps with
 |nil=>
  intro r bl al bs g w s s2 hb hs hpw _ _ _ h _
  cases hb
  cases bs with
  |nil=>
   simp[putBs,Option.some.injEq] at h
   subst h
   exact ⟨g,hs,GhLe.refl _,rfl,λ_ _ h=>.inl h,rfl,rfl,Nat.le_refl _,λ_ h=>h,λo ho=>(by cases ho),rfl,λ_ _ _=>rfl,rfl,λ_ _ _=>rfl⟩
  |cons o bs=>exact absurd hpw.1 (by simp)
 |cons p ps ih=>
  intro r bl al bs g w s s2 hb hs hpw hna hfr hap h hn
  cases hb with
  |one hb=>
   grind[putBs]
  | @box kd _ x r b hx bl al al' hh h1 h2=>
   cases bs with
   |nil=>exact absurd hpw.1 (by simp)
   |cons o bs=>
    simp[putBs] at h
    have hob:g.blk o=some b:=hpw.2 0 _ _ rfl rfl
    have hap':=List.pairwise_append.1 hap
    have hn0:=putBs_nob h
    have hn1:(unK s (headN bs) kd x).2.nob<=bigN:=Nat.le_trans hn0 hn
    let ⟨g1,hu,hpw1⟩:=unK_sound h1 (headN_pw (bs:=bs) (bl:=bl) ⟨by simpa using hpw.1,λj a c k1 k2=>hpw.2 (j+1) a c (by simpa using k1) (by simpa using k2)⟩) hs (λa ha=>hfr a (List.mem_append_left _ ha)) hap'.1 hn1
    have hol:o<s.nob:=hs.lt hob
    have hk:=hu.rel.know (o:=o) (b:=b) (by rw[hu.blk];exact hob) hh hpw1 (λe=>by rw[hu.arr o hol];simp_all)
    have hk2:SRel g1 (lowSt {(unK s (headN bs) kd x).2 with ob:=(unK s (headN bs) kd x).2.ob.set fuelTr o (unK s (headN bs) kd x).1,wr:=o ::(unK s (headN bs) kd x).2.wr}) w:=by
     rw[lowSt_set]
     exact hk
    let ⟨g2,hp⟩:=ih (bl:=bl) (al:=al') (bs:=bs) (g:=g1) (hu.imm▸h2) hk2 ⟨by simpa using hpw.1,λj a c k1 k2=>by rw[hu.blk];exact hpw.2 (j+1) a c (by simpa using k1) (by simpa using k2)⟩
     (λo' ho' e=>by
      have:o'<s.nob:=by
       obtain ⟨j,hj,rfl⟩:=List.getElem_of_mem ho'
       have hj':j<bl.length:=by have:=hpw.1;grind
       exact hs.lt (hpw.2 (j+1) bs[j] bl[j] (by simp) (by simp))
      rw[hu.arr o' this]
      simp_all)
     (λa ha b' hb' k hO=>by
      rcases hu.own k b' hO with hO|⟨_,a2,ha2,hb2⟩
      .grind
      grind) hap'.2.1 h hn
    refine ⟨g2,hp.rel,hu.le.trans hp.le,hp.imm.trans hu.imm,λk b' hO=>?_,hp.fl.trans hu.fl,hp.lo.trans hu.lo,Nat.le_trans hu.nob hp.nob,λo' ho'=>?_,λo' ho'=>?_,hp.dr.trans hu.dr,λo' hl ho'=>?_,hp.blk.trans hu.blk,λo' hl e=>?_⟩
    .rcases hp.own k b' hO with hO|⟨k1,a,k2,k3⟩
     .rcases hu.own k b' hO with hO|⟨k1,a,k2,k3⟩
      .exact .inl hO
      grind
     .exact .inr ⟨Nat.le_trans hu.nob k1,a,List.mem_append_right _ k2,k3⟩
    .exact hp.wrm o' (List.mem_cons_of_mem _ (by rw[hu.wr];exact ho'))
    .rcases List.mem_cons.1 ho' with rfl|ho'
     .exact hp.wrm _ List.mem_cons_self
     .exact hp.wrb o' ho'
    .have hne:o'≠o:=λe=>ho' (by simp_all)
     rw[hp.ob o' (Nat.lt_of_lt_of_le hl hu.nob) (λhm=>ho' (List.mem_cons_of_mem _ hm))]
     rw[Tr.get_set_ne _ _ _ _ _ hne]
     exact hu.ob o' hl
    .rw[hp.arr o' (Nat.lt_of_lt_of_le hl hu.nob)]
     exact hu.arr o' hl e
  | @hid kd _ x r b hx bl al al' hh h1 h2=>
   cases bs with
   |nil=>exact absurd hpw.1 (by simp)
   |cons o bs=>
    simp[putBs] at h
    have hob:g.blk o=some b:=hpw.2 0 _ _ rfl rfl
    have hap':=List.pairwise_append.1 hap
    have hn0:=putBs_nob h
    have hn1:(unK s (headN bs) kd x).2.nob<=bigN:=Nat.le_trans hn0 hn
    let ⟨g1,hu,hpw1⟩:=unK_sound h1 (headN_pw (bs:=bs) (bl:=bl) ⟨by simpa using hpw.1,λj a c k1 k2=>hpw.2 (j+1) a c (by simpa using k1) (by simpa using k2)⟩) hs (λa ha=>hfr a (List.mem_append_left _ ha)) hap'.1 hn1
    have hol:o<s.nob:=hs.lt hob
    have hk:=hu.rel.know (o:=o) (b:=b) (by rw[hu.blk];exact hob) hh hpw1 (λe=>by rw[hu.arr o hol];simp_all)
    have hk2:SRel g1 (lowSt {(unK s (headN bs) kd x).2 with ob:=(unK s (headN bs) kd x).2.ob.set fuelTr o (unK s (headN bs) kd x).1,wr:=o ::(unK s (headN bs) kd x).2.wr}) w:=by
     rw[lowSt_set]
     exact hk
    let ⟨g2,hp⟩:=ih (bl:=bl) (al:=al') (bs:=bs) (g:=g1) (hu.imm▸h2) hk2 ⟨by simpa using hpw.1,λj a c k1 k2=>by rw[hu.blk];exact hpw.2 (j+1) a c (by simpa using k1) (by simpa using k2)⟩
     (λo' ho' e=>by
      have:o'<s.nob:=by
       obtain ⟨j,hj,rfl⟩:=List.getElem_of_mem ho'
       have hj':j<bl.length:=by have:=hpw.1;grind
       exact hs.lt (hpw.2 (j+1) bs[j] bl[j] (by simp) (by simp))
      rw[hu.arr o' this]
      simp_all)
     (λa ha b' hb' k hO=>by
      rcases hu.own k b' hO with hO|⟨_,a2,ha2,hb2⟩
      .grind
      grind) hap'.2.1 h hn
    refine ⟨g2,hp.rel,hu.le.trans hp.le,hp.imm.trans hu.imm,λk b' hO=>?_,hp.fl.trans hu.fl,hp.lo.trans hu.lo,Nat.le_trans hu.nob hp.nob,λo' ho'=>?_,λo' ho'=>?_,hp.dr.trans hu.dr,λo' hl ho'=>?_,hp.blk.trans hu.blk,λo' hl e=>?_⟩
    .rcases hp.own k b' hO with hO|⟨k1,a,k2,k3⟩
     .rcases hu.own k b' hO with hO|⟨k1,a,k2,k3⟩
      .exact .inl hO
      grind
     .exact .inr ⟨Nat.le_trans hu.nob k1,a,List.mem_append_right _ k2,k3⟩
    .exact hp.wrm o' (List.mem_cons_of_mem _ (by rw[hu.wr];exact ho'))
    .rcases List.mem_cons.1 ho' with rfl|ho'
     .exact hp.wrm _ List.mem_cons_self
     .exact hp.wrb o' ho'
    .have hne:o'≠o:=λe=>ho' (by simp_all)
     rw[hp.ob o' (Nat.lt_of_lt_of_le hl hu.nob) (λhm=>ho' (List.mem_cons_of_mem _ hm))]
     rw[Tr.get_set_ne _ _ _ _ _ hne]
     exact hu.ob o' hl
    .rw[hp.arr o' (Nat.lt_of_lt_of_le hl hu.nob)]
     exact hu.arr o' hl e
theorem tupV_rel {g:Gh} {w:World} {l:List (V S)} {vs:List Value} (h:PW (TRel g w) (lows l) vs):TRel g w (low (tupV l)) (valOf vs):=by
 match l,vs,h with
 |[],[],_=>exact .tup _ _ rfl (λj t v h=>by grind)
 |[v],[x],h=>exact h.2 0 _ _ rfl rfl
 |v ::v' ::l,x ::x' ::vs,h=>exact .tup _ _ (by simpa using h.1) (λj t u k1 k2=>h.2 j t u k1 (by simpa using k2))
 |[],_ ::_,h=>exact absurd h.1 (by simp[lows])
 |_ ::_,[],h=>exact absurd h.1 (by simp[lows])
 |[_],_ ::_ ::_,h=>exact absurd h.1 (by simp[lows])
 |_ ::_ ::_,[_],h=>exact absurd h.1 (by simp[lows])
theorem PRel.notImm {I:Nat->Prop} {w:World} {ps:List Pk} {x:pden S.A ps} {vs:List Value} {al:List ASl} {bl:List Nat} (h:PRel S I w ps x vs al bl):∀a∈al,∀b,a.at b->¬I b:=by
 induction h with
 |nil=>simp_all
 |one h1 h2 ih=>
  intro a ha b hb
  rcases List.mem_append.1 ha with ha|ha
  .exact h1.notImm a ha b hb
  grind
 |box hh h1 h2 ih=>
  intro a ha b hb
  rcases List.mem_append.1 ha with ha|ha
  .exact h1.notImm a ha b hb
  grind
 |hid hh h1 h2 ih=>
  intro a ha b hb
  rcases List.mem_append.1 ha with ha|ha
  .exact h1.notImm a ha b hb
  grind
theorem bnd_some {α β:Type} {x:Option α} {f:α->Option β} {r:β} (h:bnd x f=some r):∃a,x=some a∧f a=some r:=by
 unfold bnd at h
 grind
theorem PRel.dats {I:Nat->Prop} {w:World} {ps:List Pk} {x:pden S.A ps} {vs:List Value} {al:List ASl} {bl:List Nat} (h:PRel S I w ps x vs al bl):onlyDat ps=true->al=[]∧bl=[]:=by
 induction h with
 |nil=>simp_all
 | @one c ps x h v vs al al' bl h1 h2 ih=>
  intro ho
  cases c with
  |own e=>simp[onlyDat] at ho
  |nown n j t=>simp[onlyDat] at ho
  |nil e=>simp[onlyDat] at ho
  |ptr t=>simp[onlyDat] at ho
  |dat t=>
   obtain ⟨rfl,rfl⟩:=ih (by simpa[onlyDat] using ho)
   cases h1 with
   |dat _ hr=>
    cases hr
    simp_all
 |box=>intro ho;simp[onlyDat] at ho
 |hid=>intro ho;simp[onlyDat] at ho
theorem packPs_dats {s:StV S}:∀{ps:List Pk} {l:List (V S)} {nx:Option Nat} {x:pden S.A ps} {fz ow bs:List Nat},onlyDat ps=true->packPs s ps l nx=some (x,fz,ow,bs)->ow=[]
 |[],[],_,x,fz,ow,bs,_,h=>by
  grind[packPs]
 | .one (.dat t) ::ps,v ::l,_,x,fz,ow,bs,ho,h=>by
  simp[packPs] at h
  split at h
  .rename_i x1 a1 b1 h1 a2 b2 bs2 e1 e2
   obtain ⟨_,_,rfl,_⟩:=h
   rw[packPs_dats (by simpa[onlyDat] using ho) e2]
   simp[packC] at e1
   grind
  .cases h
 | .one (.nown ..) ::_,_,_,_,_,_,_,ho,_=>by simp[onlyDat] at ho
 | .one (.nil _) ::_,_,_,_,_,_,_,ho,_=>by simp[onlyDat] at ho
 | .one (.ptr _) ::_,_,_,_,_,_,_,ho,_=>by simp[onlyDat] at ho
 | .one (.own _) ::_,_,_,_,_,_,_,ho,_=>by simp[onlyDat] at ho
 | .box _ ::_,_,_,_,_,_,_,ho,_=>by simp[onlyDat] at ho
 | .hid _ ::_,_,_,_,_,_,_,ho,_=>by simp[onlyDat] at ho
 |[],_ ::_,_,_,_,_,_,_,h=>by simp[packPs] at h
 | .one _ ::_,[],_,_,_,_,_,_,h=>by simp[packPs] at h
theorem datVs_rel {g:Gh} {I:Nat->Prop} {w w':World}:∀{cs:List Ck} {x:cden S.A cs} {vs:List Value} {al:List ASl},scalCs cs=true->HRel S I w cs x vs al->PW (TRel g w') (lows (datVs cs x)) vs
 |[],x,vs,al,_,h=>by
  cases h
  exact ⟨rfl,λj t v h=>by simp_all⟩
 | .dat t ::cs,x,vs,al,hs,h=>by
  cases h with
  | @dat _ _ y h v vs al hd hr=>
  simp[scalCs,Bool.and_eq_true] at hs
  let ⟨k1,k2⟩:=datVs_rel (g:=g) (w':=w') hs.2 hr
  refine ⟨by simp only[datVs,lows,List.length_cons];rw[k1],λj t' v' q1 q2=>?_⟩
  cases j with
  |zero=>
   simp[datVs,lows,Option.some.injEq] at q1 q2
   subst q1
   subst q2
   have:DRel g.imm w' (enc S t y) v:=by
    cases t with
    |int k=>cases hd;exact .lit _
    |bool=>cases hd;exact .lit _
    |str=>cases hd;exact .lit _
    |_=>simp[scalT] at hs
   exact trel_lowTy this
  |succ j=>grind[datVs,lows]
 | .own _ ::_,_,_,_,hs,_=>by simp[scalCs] at hs
 | .nown .. ::_,_,_,_,hs,_=>by simp[scalCs] at hs
 | .nil _ ::_,_,_,_,hs,_=>by simp[scalCs] at hs
 | .ptr _ ::_,_,_,_,hs,_=>by simp[scalCs] at hs
theorem rdTys_sound (hS:SgOk S) {g:Gh} {w:World} {s:StV S} (hs:SRel g (lowSt s) w):∀{ts:List Ty} {l:List (V S)} {vals:List Value} {x:hden S.A ts} {fz:List Nat},rdTys s ts l=some (x,fz)->PW (TRel g w) (lows l) vals->
  (∀o∈fz,Live g (lowSt s) o)∧∀(g1:Gh) (s1:St) (fz':List Nat),SRel g1 s1 w->Ext s.fl g w g1 w->Frozen (lowSt s) s1 fz'->(∀o∈fz,o∈fz')->∃B:Nat->Prop,(∀b,B b->b<w.heap.size)∧∀I:Nat->Prop,(∀b,g1.imm b∨B b->I b)->PW (DRel I w) (encH S ts x) vals
 |[],[],vals,x,fz,h,hv=>by
  simp only[rdTys,Option.some.injEq,Prod.mk.injEq] at h
  obtain ⟨_,rfl⟩:=h
  exact ⟨λo ho=>(by cases ho),λ_ _ _ _ _ _ _=>⟨λ_=>False,λ_ h=>h.elim,λ_ _=>⟨by have:=hv.1;simpa[lows,encH] using this,λj d v h=>by simp[encH] at h⟩⟩⟩
 |[],_ ::_,_,_,_,h,_=>by simp[rdTys] at h
 |_ ::_,[],_,_,_,h,_=>by simp[rdTys] at h
 |t ::ts,v ::l,[],x,fz,_,hv=>absurd hv.1 (by simp[lows])
 |t ::ts,v ::l,val ::vals,x,fz,h,hv=>by
  simp only[rdTys] at h
  split at h
  rotate_left
  .cases h
  rename_i y os y2 os2 h1 h2
  simp only[Option.some.injEq,Prod.mk.injEq] at h
  obtain ⟨rfl,rfl⟩:=h
  have hv1:TRel g w (low v) val:=hv.2 0 _ _ rfl rfl
  have hv2:PW (TRel g w) (lows l) vals:=⟨by have:=hv.1;simpa[lows] using this,λj a b k1 k2=>hv.2 (j+1) a b (by simpa[lows] using k1) (by simpa using k2)⟩
  obtain ⟨q3,q4⟩:=rdTys_sound hS hs h2 hv2
  have one:(∀o∈os,Live g (lowSt s) o)∧∀(g1:Gh) (s1:St) (fz':List Nat),SRel g1 s1 w->Ext s.fl g w g1 w->Frozen (lowSt s) s1 fz'->(∀o∈os,o∈fz')->∃B:Nat->Prop,(∀b,B b->b<w.heap.size)∧∀I:Nat->Prop,(∀b,g1.imm b∨B b->I b)->DRel I w (enc S t y) val:=by
   unfold rdTy at h1
   split at h1
   .rename_i k u o _
    split at h1
    rotate_left
    .cases h1
    rename_i k' v' m hob
    split at h1
    rotate_left
    .cases h1
    rename_i m' hm
    obtain ⟨rfl,rfl,hmm⟩:=castM_cast hm
    cases hmm
    simp only[Option.some.injEq,Prod.mk.injEq] at h1
    obtain ⟨rfl,rfl⟩:=h1
    obtain ⟨b,rfl,hb⟩:∃b,val=.map (some b)∧g.blk o=some b:=by cases hv1 with|mp _ b hb=>exact ⟨b,rfl,hb⟩
    obtain ⟨x0,hh,hr⟩:=(hs.box o b hb).2.2 _ (by rw[lowSt_get,hob];rfl)
    cases hr with
    |map _ ms c hl hr=>
    refine ⟨λo ho=>(by cases ho),λg1 s1 fz' hs1 he hf hsub=>⟨λb'=>b'=b,λb' hb'=>hb'▸(hs.box o b hb).2.1,λI hI=>?_⟩⟩
    have key:∀(j:Nat) p q,m[j]?=some p->ms[j]?=some q->DRel I w (enc S _ p.1) q.key∧DRel I w (enc S _ p.2) q.val:=λj p q h1 h2=>by
     obtain ⟨k1,k2⟩:=hr j _ q (by rw[List.getElem?_map,h1];rfl) h2
     exact ⟨(ty_drel hS (k1.ext he hs.imm)).le λb hb=>hI b (.inl hb),(ty_drel hS (k2.ext he hs.imm)).le λb hb=>hI b (.inl hb)⟩
    refine .mp _ _ b ms c (hI b (.inr rfl)) hh (by simpa using hl) (by simpa using hl) (λj d q h1 h2=>?_) (λj d q h1 h2=>?_)
    .simp only[List.getElem?_map,Option.map_eq_some_iff] at h1
     obtain ⟨p,hp,rfl⟩:=h1
     exact (key j p q hp h2).1
    .simp only[List.getElem?_map,Option.map_eq_some_iff] at h1
     obtain ⟨p,hp,rfl⟩:=h1
     exact (key j p q hp h2).2
   .obtain ⟨p,hd,hp⟩:=toTy_low hS s t v h1
    obtain ⟨q1,q2⟩:=toD_sound hs (low v) hd hp hv1
    exact ⟨q1,λg1 s1 fz' hs1 he hf hsub=>⟨λ_=>False,λ_ h=>h.elim,λI hI=>(q2 g1 s1 hs1 he (hf.sub hsub)).le λb hb=>hI b (.inl hb)⟩⟩
  refine ⟨λo ho=>(List.mem_append.1 ho).elim (one.1 o) (q3 o),λg1 s1 fz' hs1 he hf hsub=>?_⟩
  obtain ⟨B,hB,hr⟩:=q4 g1 s1 fz' hs1 he hf (λo ho=>hsub o (List.mem_append_right _ ho))
  obtain ⟨B',hB',hr'⟩:=one.2 g1 s1 fz' hs1 he hf (λo ho=>hsub o (List.mem_append_left _ ho))
  refine ⟨λb=>B b∨B' b,λb hb=>hb.elim (hB b) (hB' b),λI hI=>?_⟩
  have a1:=hr I λb hb=>hI b (hb.imp id .inl)
  have a2:=hr' I λb hb=>hI b (hb.imp id .inr)
  refine ⟨by simp[encH,a1.1],λj d u h1 h2=>?_⟩
  cases j with
  |zero=>simp[encH] at h1 h2;subst h1;subst h2;exact a2
  |succ j=>exact a1.2 j d u (by simpa[encH] using h1) (by simpa using h2)
theorem packRd_sound (hS:SgOk S) {g:Gh} {w:World} {s:StV S} (hs:SRel g (lowSt s) w):∀{ps:List Pk} {l:List (V S)} {vals:List Value} {x:pden S.A ps} {fz:List Nat},packRd s ps l=some (x,fz)->PW (TRel g w) (lows l) vals->
  (∀o∈fz,Live g (lowSt s) o)∧∀(g1:Gh) (s1:St) (fz':List Nat),SRel g1 s1 w->Ext s.fl g w g1 w->Frozen (lowSt s) s1 fz'->(∀o∈fz,o∈fz')->∃B:Nat->Prop,(∀b,B b->b<w.heap.size)∧∀I:Nat->Prop,(∀b,g1.imm b∨B b->I b)->PRel S I w ps x vals [] []
 |[],[],vals,x,fz,h,hv=>by
  obtain ⟨_,rfl⟩:=h
  have:vals=[]:=List.eq_nil_of_length_eq_zero (by have:=hv.1;simpa[lows] using this.symm)
  subst this
  exact ⟨λo ho=>(by cases ho),λ_ _ _ _ _ _ _=>⟨λ_=>False,λ_ h=>h.elim,λ_ _=>.nil⟩⟩
 |[],_ ::_,_,_,_,h,_=>by simp[packRd] at h
 | .one c ::_,[],_,_,_,h,_=>by cases c<;>simp[packRd] at h
 | .box _ ::_,[],_,_,_,h,_=>by simp[packRd] at h
 | .hid _ ::_,[],_,_,_,h,_=>by simp[packRd] at h
 | .box _ ::_,_ ::_,_,_,_,h,_=>by simp[packRd] at h
 | .hid _ ::_,_ ::_,_,_,_,h,_=>by simp[packRd] at h
 | .one (.own _) ::_,_ ::_,_,_,_,h,_=>by simp[packRd] at h
 | .one (.nown ..) ::_,_ ::_,_,_,_,h,_=>by simp[packRd] at h
 | .one (.nil _) ::_,_ ::_,_,_,_,h,_=>by simp[packRd] at h
 | .one (.dat t) ::ps,v ::l,[],x,fz,_,hv=>absurd hv.1 (by simp[lows])
 | .one (.ptr t) ::ps,v ::l,[],x,fz,_,hv=>absurd hv.1 (by simp[lows])
 | .one (.dat t) ::ps,v ::l,val ::vals,x,fz,h,hv=>by
  simp[packRd] at h
  split at h
  rotate_left
  .cases h
  rename_i y os y2 os2 h1 h2
  obtain ⟨rfl,rfl⟩:=h
  have hv1:TRel g w (low v) val:=hv.2 0 _ _ rfl rfl
  have hv2:PW (TRel g w) (lows l) vals:=⟨by have:=hv.1;simpa[lows] using this,λj a b k1 k2=>hv.2 (j+1) a b (by simpa[lows] using k1) (by simpa using k2)⟩
  let ⟨p,hd,hp⟩:=toTy_low hS s t v h1
  let ⟨q1,q2⟩:=toD_sound hs (low v) hd hp hv1
  let ⟨q3,q4⟩:=packRd_sound hS hs h2 hv2
  refine ⟨λo ho=>(List.mem_append.1 ho).elim (q1 o) (q3 o),λg1 s1 fz' hs1 he hf hsub=>?_⟩
  let ⟨B,hB,hr⟩:=q4 g1 s1 fz' hs1 he hf (λo ho=>hsub o (List.mem_append_right _ ho))
  have hx:=q2 g1 s1 hs1 he (hf.sub λo ho=>hsub o (List.mem_append_left _ ho))
  exact ⟨B,hB,λI hI=>PRel.one (al:=[]) (.dat (hx.le λb hb=>hI b (.inl hb)) .nil) (hr I hI)⟩
 | .one (.ptr t) ::ps,v ::l,val ::vals,x,fz,h,hv=>by
  simp[packRd] at h
  split at h
  rotate_left
  .cases h
  rename_i y os y2 os2 h1 h2
  obtain ⟨rfl,rfl⟩:=h
  have hv1:TRel g w (low v) val:=hv.2 0 _ _ rfl rfl
  have hv2:PW (TRel g w) (lows l) vals:=⟨by have:=hv.1;simpa[lows] using this,λj a b k1 k2=>hv.2 (j+1) a b (by simpa[lows] using k1) (by simpa using k2)⟩
  let ⟨q3,q4⟩:=packRd_sound hS hs h2 hv2
  unfold ptrRd at h1
  split at h1
  .rename_i u z
   split at h1
   rotate_left
   .cases h1
   rename_i z' hz
   obtain ⟨rfl,rfl⟩:=h1
   obtain ⟨rfl,hz⟩:=castTy_eq hz
   cases hz
   cases hv1 with
   |ept _ _ ad vv hi hc hd=>
   refine ⟨λo ho=>q3 o (by simpa using ho),λg1 s1 fz' hs1 he hf hsub=>?_⟩
   let ⟨B,hB,hr⟩:=q4 g1 s1 fz' hs1 he hf (λo ho=>hsub o (by simpa using ho))
   exact ⟨B,hB,λI hI=>PRel.one (al:=[]) (.ptr (hI _ (.inl (he.imm _ hi))) hc (λj c hj=>(hd j c hj).le λb hb=>hI _ (.inl (he.imm _ hb))) .nil) (hr I hI)⟩
  .rename_i o
   split at h1
   rotate_left
   .cases h1
   rename_i cs ho
   cases hv1 with
   |ptr _ _ b hb=>
   have ho':(lowSt s).ob.get o=some (.box (lows cs)):=by rw[lowSt_get,ho];rfl
   let ⟨vs,ty,hheap,hl,hcell⟩:=(hs.box o b hb).box ho'
   obtain ⟨n,rfl⟩:∃n,t=Ty.st n:=by cases t<;>first|exact ⟨_,rfl⟩|simp only[rdSt,reduceCtorEq] at h1
   simp only[rdSt] at h1
   obtain ⟨⟨yh,os1⟩,hrd⟩:∃r,rdTys s (S.fs n) cs=some r:=by
    cases hrd:rdTys s (S.fs n) cs with
    |none=>rw[hrd] at h1;cases h1
    |some r=>exact ⟨r,rfl⟩
   rw[hrd] at h1
   simp only[Option.some.injEq,Prod.mk.injEq] at h1
   obtain ⟨rfl,rfl⟩:=h1
   let ⟨q1,q2⟩:=rdTys_sound hS hs hrd (vals:=vs.toList) ⟨by simpa using hl,λj t v h1 h2=>hcell j t v h1 (by simpa using h2)⟩
   refine ⟨λo ho=>(List.mem_append.1 ho).elim (q1 o) (q3 o),λg1 s1 fz' hs1 he hf hsub=>?_⟩
   let ⟨B,hB,hr⟩:=q4 g1 s1 fz' hs1 he hf (λo ho=>hsub o (List.mem_append_right _ ho))
   let ⟨B',hB',hx⟩:=q2 g1 s1 fz' hs1 he hf (λo ho=>hsub o (List.mem_append_left _ ho))
   refine ⟨λb'=>B b'∨(b'=b∨B' b'),λb' hb'=>hb'.elim (hB b') λe=>e.elim (λe=>by grind) (hB' b'),λI hI=>PRel.one (al:=[]) ?_ (hr I λb' hb'=>hI b' (hb'.imp id .inl))⟩
   have hx:=hx I λb' hb'=>hI b' (hb'.imp id λh=>.inr (.inr h))
   have hl':enc S (.st n) (S.mkS n yh)=.agg (encH S (S.fs n) yh):=by show D.agg (S.cells n (S.mkS n yh))=_;rw[hS.cells,hS.get_mk]
   have hadd:∀j,(⟨b,0,none⟩:Addr).add j=⟨b,j,none⟩:=λj=>by
    grind[Addr.add]
   have hlen:(encH S (S.fs n) yh).length=vs.size:=by simpa using hx.1
   have:=HRel.ptr (S:=S) (I:=I) (w:=w) (t:=.st n) (cs:=[]) (x:=S.mkS n yh) (h:=()) (ad:=⟨b,0,none⟩) (val:=λj=>(vs[j]?).getD undef) (vs:=[]) (al:=[]) (hI _ (.inr (.inr (.inl rfl)))) (λj c hj=>?_) (λj c hj=>?_) .nil
   .simp_all
   .rw[hl'] at hj
    have hj:(encH S (S.fs n) yh)[j]?=some c:=hj
    grind[cell?_of_block]
   .rw[hl'] at hj
    have hj:(encH S (S.fs n) yh)[j]?=some c:=hj
    have hlt:j<vs.size:=by grind
    rw[Array.getElem?_eq_getElem hlt]
    exact hx.2 j c vs[j] hj (by simp[hlt])
  .cases h1
theorem evCon_sound (hS:SgOk S) {P:Program} {f:FuncId} {c:Con S} (hcon:ConOk P f c) {g:Gh} {w:World} {s:StV S} (hs:SRel g (lowSt s) w) {args:List (V S)} {vs:Array Value} (hpw:PW (TRel g w) (lows args) vs.toList)
  {ω:Type} {kp:V S->StV S->Option ω} {k:V S->StV S->List Nat->Option ω} {res:ω} (h:evCon s c args kp k=some res) :
  Enters P f∧Calls P f vs w λ
   | .returned v,w'=>∃t s' g' ow,k t s' ow=some res∧TRel g' w' (low t) v∧AftV ow s g w s' g' w'
   | .panicked ch,w'=>∃v t s' g',ch=[{v,recovered:=false}]∧kp t s'=some res∧TRel g' w' (low t) v∧AftV [] s g w s' g' w'
   | .outgrown,_=>False:=by
 unfold evCon at h
 rcases cond_some h with ⟨_,h0⟩|⟨_,h0⟩
 .clear h
  rcases cond_some h0 with ⟨hc,h1⟩|⟨_,h1⟩
  rotate_left
  .cases h1
  clear h0
  simp only[Bool.and_eq_true] at hc
  split at h1
  .cases h1
  rename_i x fz hpk
  split at h1
  .cases h1
  rename_i s1 hfz
  let ⟨p1,p2⟩:=packRd_sound hS hs hpk hpw
  let ⟨g1,hs1,he1,hfr⟩:=freeze_sound fz hs (freezeV_low hS _ hfz) p1
  let ⟨B,hB,hprel⟩:=p2 g1 (lowSt s1) fz hs1 he1 hfr (λo ho=>ho)
  let ⟨r0,hF,h2⟩:=bnd_some h1
  split at h2
  rotate_left
  .cases h2
  rename_i r hr
  refine ⟨hcon.1,(hcon.2 x r0 hF (λb=>g1.imm b∨B b) w vs [] [] (hprel _ λ_ h=>h) (λb hb=>hb.elim (hs1.imm b) (hB b)) (hs1.glo.mono (λ_ _=>rfl) λ_ h=>.inl h) .nil .nil (λb hb=>by cases hb)).mono λe w' he=>?_⟩
  rw[hr] at he
  cases e with
  |outgrown=>exact he.elim
  |panicked ch=>exact he.elim
  |returned v=>
   obtain ⟨I',vr,al1,al2,q1,q2,q3,q4,q5,q6,q7,rfl,q8,q9,_⟩:=he
   have hheap:∀b,b<w.heap.size->w'.heap[b]?=w.heap[b]?:=λb hb=>q5 b hb (by simp) (by simp)
   let ⟨hs',he'⟩:=hs.grow (fl:=s.fl) (I:=g.imm) (w':=w') (λ_ h=>h) (λ_ h=>.inl h) (λb hb=>Nat.lt_of_lt_of_le (hs.imm b hb) q4) q4 hheap q6 q7
   exact ⟨_,s,g,[],h2,tupV_rel (datVs_rel hc.2.1 q9),hs',he'.toV _,rfl,rfl,Nat.le_refl _,λ_ h=>h,λ_ _ _=>rfl,λt v ht _=>ht.ext he' hs.imm,λo ho=>(by cases ho),λ_ h=>h,λo ho=>(by cases ho)⟩
 clear h
 have h:=h0
 clear h0
 split at h
 .cases h
 rename_i x fz ow bs hpk
 split at h
 .cases h
 rename_i s1 hfz
 rcases cond_some h with ⟨hlend,h2⟩|⟨_,h⟩
 .let ⟨p1,_,_,p3⟩:=packPs_sound hS hs hpk hpw (λo ho=>by cases ho)
  let ⟨g1,hs1,he1,hfr⟩:=freeze_sound fz hs (freezeV_low hS _ hfz) p1
  simp only[lendB,Bool.and_eq_true] at hlend
  let ⟨f1,f2,f3,f4,f5,f6,f7⟩:=freezeV_st hfz
  let ⟨al,bl,hprel,_,_⟩:=p3 g1 (lowSt s1) fz hs1 he1 hfr (λo ho=>ho) (λo ho=>by grind[packPs_dats])
  obtain ⟨rfl,rfl⟩:=hprel.dats hlend.1
  clear h
  let ⟨r0,hF,h2⟩:=bnd_some h2
  split at h2
  rotate_left
  .cases h2
  rename_i r hr
  refine ⟨hcon.1,(hcon.2 x r0 hF g1.imm w vs [] [] hprel hs1.imm hs1.glo .nil .nil (λb hb=>by cases hb)).mono λe w' he=>?_⟩
  rw[hr] at he
  cases e with
  |outgrown=>exact he.elim
  |panicked ch=>exact he.elim
  |returned v=>
   obtain ⟨I',vr,al1,al2,q1,q2,q3,q4,q5,q6,q7,rfl,q8,q9,_⟩:=he
   have hheap:∀b,b<w.heap.size->w'.heap[b]?=w.heap[b]?:=λb hb=>q5 b hb (by simp) (by simp)
   let ⟨hs',he'⟩:=hs.grow (fl:=s.fl) (I:=g.imm) (w':=w') (λ_ h=>h) (λ_ h=>.inl h) (λb hb=>Nat.lt_of_lt_of_le (hs.imm b hb) q4) q4 hheap q6 q7
   refine ⟨_,s,g,[],h2,tupV_rel (datVs_rel hlend.2.1 q9),hs',he'.toV _,rfl,rfl,Nat.le_refl _,λ_ h=>h,λ_ _ _=>rfl,λt v ht _=>ht.ext he' hs.imm,λo ho=>(by cases ho),λ_ h=>h,λo ho=>(by cases ho)⟩
 rcases cond_some h with ⟨hb,h2⟩|⟨_,h2⟩
 rotate_left
 .cases h2
 clear h
 simp at hb
 have hnow:=nodupN_iff hb.1
 have hnbs:=nodupN_iff hb.2.1
 have hap:=apartN_iff hb.2.2
 unfold bnd at h2
 split at h2
 rotate_left
 .cases h2
 rename_i r hF
 dsimp only at h2
 let ⟨p1,p2,p4,p3⟩:=packPs_sound hS hs hpk hpw (λo ho=>by cases ho)
 have hfl:=freezeV_low hS _ hfz
 let ⟨g1,hs1,he1,hfr⟩:=freeze_sound fz hs hfl p1
 let ⟨f1,f2,f3,f4,f5,f6,f7⟩:=freezeV_st hfz
 let ⟨al,bl,hprel,hal,hbl⟩:=p3 g1 (lowSt s1) fz hs1 he1 hfr (λo ho=>ho) (λo ho=>by rw[lowSt_get,lowSt_get,f6 o (hap o ho)])
 have hbox1:∀o∈bs,∃ob,s1.ob.get o=some ob∧plainOb ob=true:=by
  intro o ho
  let ⟨_,ob',hvs,hpl⟩:=p4 o ho
  have hnf:o∉fz:=λhm=>by
   have:=(p1 o hm).isArr (by rw[lowSt_get,hvs];rfl)
   grind[plain_isArr]
  simp_all
 have hnoarr:∀o∈bs,∀e,g1.arr o e=none:=by
  intro o ho e
  let ⟨vs',hvs,hpl⟩:=hbox1 o ho
  cases hx:g1.arr o e with
  |none=>rfl
  |some x'=>
   exfalso
   let ⟨_,h2⟩:=hs1.arr o e x' hx
   exact plain_at hpl (h2 _ (by rw[lowSt_get,hvs];rfl))
 have hni:∀a∈al,∀b,a.at b->¬g1.imm b:=hprel.notImm
 have halO:=hal.owned hni
 have hapal:=hal.apart hs1 hnow hni
 have hblk:∀b∈bl,∃o∈bs,g1.blk o=some b:=by
  intro b hb
  obtain ⟨j,hj,rfl⟩:=List.getElem_of_mem hb
  have hj':j<bs.length:=by have:=hbl.1;omega
  exact ⟨bs[j],List.getElem_mem hj',hbl.2 j _ _ (List.getElem?_eq_getElem hj') (List.getElem?_eq_getElem hj)⟩
 have hbsb:∀o∈bs,∃b∈bl,g1.blk o=some b:=by
  intro o ho
  obtain ⟨j,hj,rfl⟩:=List.getElem_of_mem ho
  have hj':j<bl.length:=by have:=hbl.1;omega
  exact ⟨bl[j],List.getElem_mem hj',hbl.2 j _ _ (List.getElem?_eq_getElem hj) (List.getElem?_eq_getElem hj')⟩
 have hOb:∀o b,g1.blk o=some b->Owned g1 o b:=λo b h=>⟨(hs1.box o b h).1,.inl h⟩
 have hbln:bl.Nodup:=by
  refine List.pairwise_iff_getElem.2 λi j hi hj hij heq=>?_
  have hlen:=hbl.1
  have hi':i<bs.length:=by omega
  have hj':j<bs.length:=by omega
  have e1:=hbl.2 i _ _ (List.getElem?_eq_getElem hi') (List.getElem?_eq_getElem hi)
  have e2:=hbl.2 j _ _ (List.getElem?_eq_getElem hj') (List.getElem?_eq_getElem hj)
  rw[<-heq] at e2
  exact (List.pairwise_iff_getElem.1 hnbs i j hi' hj' hij) (hs1.uni _ _ _ (hOb _ _ e1) (hOb _ _ e2))
 have hblf:∀b∈bl,b<w.heap.size∧¬g1.imm b∧∀a∈al,¬a.at b:=by
  intro b hb
  let ⟨o,ho,hob⟩:=hblk b hb
  refine ⟨(hs1.box o b hob).2.1,(hs1.box o b hob).1,λa ha hat=>?_⟩
  let ⟨o',ho',hO'⟩:=halO a ha b hat
  have:=hs1.uni o o' b (hOb o b hob) hO'
  subst this
  let ⟨vs',hvs,hpl⟩:=hbox1 o ho
  let ⟨_,_,_,oba,hoba,hB⟩:=p2 o ho'
  rw[f6 o (hap o ho')] at hvs
  rw[hoba] at hvs
  cases hvs
  have:=arrB_isArr hB
  grind[plain_isArr]
 have core:∀(rs:List Ck) (r:cden S.A rs×bden S.A c.ps) (s2:StV S),putBs (delBs bs (forget ow {s1 with wr:=ow++s1.wr,dr:=ow++s1.dr})) c.ps bs r.2=some s2->(unCs s2 rs r.1).2.nob<=bigN->∀(v:Value) (w':World),EndPost S g1.imm w c.ps rs r al bl v w'->
   ∃g',TRel g' w' (low (tupV (unCs s2 rs r.1).1)) v∧AftV ow s g w (unCs s2 rs r.1).2 g' w':=by
  clear h2
  intro rs r s2 hput hlt3 v w' he
  obtain ⟨I',vr,al1,al2,q1,q2,q3,q4,q5,q6,q7,rfl,q8,q9,q10,q11,q12⟩:=he
  let sF:StV S:=forget ow {s1 with wr:=ow++s1.wr,dr:=ow++s1.dr}
  let sD:StV S:=delBs bs sF
  let ⟨t1,t2,t3,t5,t4⟩:=forget_st ow {s1 with wr:=ow++s1.wr,dr:=ow++s1.dr}
  have hs1':SRel g1 (lowSt {s1 with wr:=ow++s1.wr,dr:=ow++s1.dr}) w:=hs1
  have hsF:SRel (g1.drop ow) (lowSt sF) w:=forget_drop ow hs1'
  have hbsn:∀o∈bs,o<s1.nob:=λo ho=>by
   let ⟨b,_,hb⟩:=hbsb o ho
   exact hs1.lt hb
  have hnob1:s1.nob<=bigN:=hs1.nob
  have hgetD:∀o,sD.ob.get o=if o∈bs then none else sF.ob.get o:=λo=>Tr.get_dels bs _ o (λb hb=>by grind)
  have hsD:SRel (g1.drop ow) (lowSt sD) w:=by
   have hsub:∀o ob,(lowSt sD).ob.get o=some ob->(lowSt sF).ob.get o=some ob:=by
    grind[lowSt_get]
   refine ⟨hsF.nob,hsF.bnd,λo b h=>?_,λo e x h=>?_,hsF.imm,hsF.uni,hsF.glo⟩
   .let ⟨k1,k2,k3⟩:=hsF.box o b h
    exact ⟨k1,k2,λob hob=>k3 ob (hsub o ob hob)⟩
   .let ⟨k1,k2⟩:=hsF.arr o e x h
    exact ⟨k1,λob hob=>k2 ob (hsub o ob hob)⟩
  let X:Nat->Prop:=λb=>b∈bl∨∃a∈al,a.at b
  have hdropO:∀o b,Owned (g1.drop ow) o b->Owned g1 o b:=λo b h=>Gh.drop_owned h
  have halno:∀a∈al,∀b,a.at b->∀o,¬Owned (g1.drop ow) o b:=by
   intro a ha b hb o hO
   let ⟨o',ho',hO'⟩:=halO a ha b hb
   have:=hs1.uni o o' b (hdropO o b hO) hO'
   subst this
   obtain ⟨_,h|⟨e,x',ad,h,_⟩⟩:=hO
   .have h:g1.blk o=some b:=h
    let ⟨_,_,_,oba,hob,hB⟩:=p2 o ho'
    have hnb:=hs1.noBlk (o:=o) (ob:=lowOb oba) ((lowSt_get s1 o).trans (by simp_all)) (arrB_isArr hB)
    simp_all
   .exact (Gh.drop_arr h).1 ho'
  have hstep:SRel {g1.drop ow with imm:=I'} (lowSt sD) w':=by
   refine hsD.step (X:=X) q1 (λb hb=>?_) q3 q4 (λb hb hX=>q5 b hb (λh=>hX (.inl h)) (λa ha h=>hX (.inr ⟨a,ha,h⟩))) (λo b hX hO=>?_) (λb hX=>?_)
   .rcases q2 b hb with h|h|h
    .exact .inl h
    .omega
    grind
   .rcases hX with hX|⟨a,ha,hab⟩
    .let ⟨o',ho',hob'⟩:=hblk b hX
     have:=hs1.uni o o' b (hdropO o b hO) (hOb _ _ hob')
     simp_all[lowSt_get]
    grind
   .rcases hX with hX|⟨a,ha,hab⟩
    .exact (hblf b hX).2.1
    .exact hni a ha b hab
  have hown3:∀o b,Owned ({g1.drop ow with imm:=I'}:Gh) o b->Owned (g1.drop ow) o b:=λo b h=>⟨λhi=>h.1 (q1 b hi),h.2⟩
  have hfresh:∀a∈al1++al2,∀b,a.at b->∀o,¬Owned ({g1.drop ow with imm:=I'}:Gh) o b:=by
   intro a ha b hb o hO
   have hO:=hown3 o b hO
   rcases q11 a ha b hb with ⟨a',ha',hb'⟩|hge
   .grind
   .have:=(hsD.ownLt hO).1
    omega
  have hapr:=List.pairwise_append.1 q10
  have hs3n:s2.nob<=(unCs s2 rs r.1).2.nob:=unCs_nob _ _ _
  let ⟨g4,hp⟩:=putBs_sound (g:={g1.drop ow with imm:=I'}) (s:=sD) q8 hstep hbl (λo ho e=>by
    show (if o∈ow then none else g1.arr o e)=none
    simp_all) (λa ha=>hfresh a (List.mem_append_left _ ha)) hapr.1 hput (by omega)
  obtain ⟨g5,hu,hpw5⟩:=unCs_sound (g:=g4) (by rw[hp.imm];exact q9) hp.rel (λa ha b hb o hO=>by
    rcases hp.own o b hO with hO|⟨_,a2,ha2,hb2⟩
    .grind
    grind) hapr.2.1 hlt3
  have hle:GhLe ({g1.drop ow with imm:=I'}:Gh) g5:=hp.le.trans hu.le
  have himm5:g5.imm=I':=hu.imm.trans hp.imm
  have hnobD:sD.nob=s1.nob:=t3
  have hnob13:s1.nob<=(unCs s2 rs r.1).2.nob:=by
   have:=hp.nob
   omega
  have hown5:∀k b,Owned g5 k b->Owned g k b∨(s.fl<=k∧∃o',s.fl<=o'∧Owned g o' b)∨w.heap.size<=b:=by
   intro k b hO
   have hnewk:∀a∈al1++al2,a.at b->s1.nob<=k->Owned g k b∨(s.fl<=k∧∃o',s.fl<=o'∧Owned g o' b)∨w.heap.size<=b:=by
    intro a ha hab hk'
    rcases q11 a ha b hab with ⟨a',ha',hb'⟩|hge
    .let ⟨o',ho',hO'⟩:=halO a' ha' b hb'
     rcases he1.own o' b hO' with hO'|hge
     .grind
     omega
    omega
   rcases hu.own k b hO with hO|⟨h1,a,ha,hab⟩
   .rcases hp.own k b hO with hO|⟨h1,a,ha,hab⟩
    .rcases he1.own k b (hdropO k b (hown3 k b hO)) with hO|hge
     .exact .inl hO
     omega
    grind
   .have:=hp.nob
    grind
  refine ⟨g5,tupV_rel hpw5,hu.rel,⟨λo b hb=>?_,λo e y hl hy=>?_,λb hb=>?_,q4,λb hb hno=>?_,λo b ho hO=>?_,λb hb=>?_,q6,q7⟩,?_,?_,?_,λo ho=>?_,λo hl ho=>?_,λt v ht hm=>?_,λo ho=>?_,λo ho=>?_,λo ho=>?_⟩
  .rw[hu.blk,hp.blk]
   exact he1.blk o b hb
  .have hno:o∉ow:=λhm=>by grind
   have h1:({g1.drop ow with imm:=I'}:Gh).arr o e=some y:=by
    show (if o∈ow then none else g1.arr o e)=some y
    rw[if_neg hno]
    exact he1.arr o e y hy
   exact hle.arr o e y h1
  .rw[himm5]
   exact q1 b (he1.imm b hb)
  .refine q5 b hb (λhm=>?_) (λa ha hab=>?_)
   .let ⟨o,ho,hob⟩:=hblk b hm
    rcases he1.own o b (hOb o b hob) with hO|hge
    .simp_all
    .omega
   .let ⟨o,ho,hO⟩:=halO a ha b hab
    rcases he1.own o b hO with hO|hge
    .simp_all
    .omega
  .grind
  .rw[himm5] at hb
   rcases q2 b hb with h|h|⟨a,ha,hab⟩
   .exact he1.immn b h
   .omega
   .let ⟨o,ho,hO⟩:=halO a ha b hab
    rcases he1.own o b hO with hO|hge
    .grind
    omega
  .exact hu.fl.trans (hp.fl.trans (t1.trans f1))
  .exact hu.lo.trans (hp.lo.trans (t2.trans f2))
  .omega
  .rw[hu.wr]
   exact hp.wrm o (t4 o (List.mem_append_right _ (f4 o ho)))
  .rw[hu.wr] at ho
   have h1:o∉bs:=λhm=>ho (hp.wrb o hm)
   have h2:o∉sF.wr:=λhm=>ho (hp.wrm o hm)
   have h3:o∉s1.wr:=λhm=>h2 (t4 o (List.mem_append_right _ hm))
   rw[hu.ob o (by have:=hp.nob;omega),hp.ob o (by omega) h1,hgetD,if_neg h1,forget_same _ _ _ h2]
   exact f5 o h3
  .have h1:=ht.ext he1 hs.imm
   have h2:=h1.drop hm
   have hkp:Keeps (g1.drop ow).imm w w':=λb hb=>q5 b (hs1.imm b hb) (λhmm=>(hblf b hmm).2.1 hb) (λa ha hab=>hni a ha b hab hb)
   have h3:TRel ({g1.drop ow with imm:=I'}:Gh) w' t v:=by
    clear hm h1 ht
    induction h2 with
    |sym d v hd=>exact .sym d v (hd.mono hkp q1)
    |kb b=>exact .kb b
    |kn k n=>exact .kn k n
    |ptr o off b hb=>exact .ptr o off b hb
    |ept d off ad val him hc hd=>
     exact .ept d off ad val (q1 _ him) (λj c hj=>by rw[hkp.cell (by rw[add_block];exact him)];grind) (λj c hj=>(hd j c hj).mono hkp q1)
    |epw o e i off len cap sz ad hx=>exact .epw o e i off len cap sz ad hx
    |sh o e len cap sz a hx=>exact .sh o e len cap sz a hx
    |emp a=>exact .emp a
    |clp n es a hn hd=>exact .clp n es a hn (hd.mono hkp q1)
    |fn f fs cs va vc hl hm _ _ ih ih'=>exact .fn f fs cs va vc hl hm ih ih'
    |ifc t x v _ ih=>exact .ifc t x v ih
    |agg cs vs hl _ ih=>exact .agg cs vs hl ih
    |tup cs vs hl _ ih=>exact .tup cs vs hl ih
    |gd c t v _ ih=>exact .gd c t v ih
    |mp o b hb=>exact .mp o b hb
    |yld o b hb=>exact .yld o b hb
    |slb o n b hb=>exact .slb o n b hb
    |itr o b hb=>exact .itr o b hb
    |ub e b h=>exact .ub e b h
    |nel o m r i len cap sz a hx=>exact .nel o m r i len cap sz a hx
    |cln j d c a hj hd=>exact .cln j d c a hj (hd.mono hkp q1)
   exact h3.le hle
  .rw[hu.wr]
   exact hp.wrm o (t4 o (List.mem_append_left _ ho))
  .rw[hu.dr,hp.dr]
   show o∈sF.dr
   grind
  .rw[hu.dr,hp.dr]
   show o∈sF.dr
   grind
 refine ⟨hcon.1,(hcon.2 x r hF g1.imm w vs al bl hprel hs1.imm hs1.glo hapal hbln hblf).mono λe w' he=>?_⟩
 cases e with
 |outgrown=>exact he.elim
 |returned v=>
  simp[ConPost] at he
  split at he
  rotate_left
  .exact he.elim
  rename_i r' hr'
  rw[hr'] at h2
  dsimp only at h2
  split at h2
  .cases h2
  rename_i s2 hput
  rcases cond_some h2 with ⟨hlt,hk⟩|⟨_,hk⟩
  rotate_left
  .cases hk
  grind[Nat.le_of_ble_eq_true]
 |panicked ch=>
  simp[ConPost] at he
  split at he
  .exact he.elim
  rename_i p hp
  obtain ⟨v,rfl,he⟩:=he
  rw[hp] at h2
  dsimp only at h2
  split at h2
  .cases h2
  rename_i s2 hput
  split at h2
  rotate_left
  .cases h2
  rcases cond_some h2 with ⟨hlt,hk⟩|⟨_,hk⟩
  rotate_left
  .cases hk
  let ⟨g5,k1,k2⟩:=core [.dat S.pt] ((p.1,()),p.2) s2 hput (Nat.le_of_ble_eq_true hlt) v w' he
  exact ⟨v,_,_,g5,rfl,hk,k1,k2⟩
end TL
end
section
namespace TL
open Go
variable {S:Sg}
structure LogV (s s':StV S):Prop where
 wrm:∀o∈s.wr,o∈s'.wr
 same:∀o,o<s.nob->o∉s'.wr->s'.ob.get o=s.ob.get o
 dr:s'.dr=s.dr
theorem LogV.refl (s:StV S):LogV s s:=⟨λ_ h=>h,λ_ _ _=>rfl,rfl⟩
theorem AftV.ofExt {g g':Gh} {w w':World} {s s':StV S} (hs:SRel g (lowSt s) w) (h1:SRel g' (lowSt s') w') (h2:Ext s.fl g w g' w') (h3:s'.fl=s.fl) (h4:s'.lo=s.lo) (h5:s.nob<=s'.nob) (h6:LogV s s'):AftV [] s g w s' g' w':=
 ⟨h1,h2.toV _,h3,h4,h5,h6.wrm,h6.same,λ_ _ ht _=>ht.ext h2 hs.imm,λo ho=>(by cases ho),λo ho=>h6.dr▸ho,λo ho=>(by cases ho)⟩
theorem AftV.refl {g:Gh} {w:World} {s:StV S} (hs:SRel g (lowSt s) w):AftV [] s g w s g w:=
 AftV.ofExt hs hs (Ext.refl _ _ _) rfl rfl (Nat.le_refl _) (LogV.refl _)
theorem newObV_log (s:StV S) (ob:ObV S) (hn:s.nob<bigN):LogV s (newObV s ob):=
 ⟨λ_ h=>h,λo ho _=>by simp[newObV];rw[Tr.get_set64 _ _ _ _ hn,if_neg (by omega)],rfl⟩
theorem freezeV_log {os:List Nat} {s s':StV S} (h:freezeV s os=some s'):LogV s s':=by
 let ⟨_,_,_,h1,h2,_,h3⟩:=freezeV_st h
 exact ⟨h1,λo _ ho=>h2 o ho,h3⟩
theorem set_log (s:StV S) (o:Nat) (ob:ObV S):LogV s {s with ob:=s.ob.set fuelTr o ob,wr:=o ::s.wr}:=
 ⟨λ_ h=>List.mem_cons_of_mem _ h,λk _ hk=>Tr.get_set_ne _ _ _ _ _ (λe=>hk (by simp_all)),rfl⟩
theorem LogV.trans' {s s' s'':StV S} (h:LogV s s') (hn:s.nob<=s'.nob) (k:LogV s' s''):LogV s s'':=
 ⟨λo ho=>k.wrm o (h.wrm o ho),λo ho hno=>(k.same o (Nat.lt_of_lt_of_le ho hn) hno).trans (h.same o ho (λhm=>hno (k.wrm o hm))),k.dr.trans h.dr⟩
theorem storeV_log {i:TI} {s s':StV S} {a x v:V S} {c:Bool} (h:storeV i s a x=some (c,v,s')):LogV s s':=by
 unfold storeV at h
 split at h
 .cases h
 .split at h
  .split at h
   .rcases cond_some h with ⟨_,h⟩|⟨_,h⟩
    .obtain ⟨_,_,rfl⟩:=h
     exact set_log _ _ _
    .cases h
   .cases h
  .split at h
   .split at h
    .split at h
     .rename_i hfz
      split at h
      .split at h
       .rcases cond_some h with ⟨_,h⟩|⟨_,h⟩
        .obtain ⟨_,_,rfl⟩:=h
         exact (freezeV_log hfz).trans' (Nat.le_of_eq (freezeV_st hfz).2.2.1.symm) (set_log _ _ _)
        .cases h
       .cases h
      .cases h
     .cases h
    .cases h
   .cases h
  .cases h
theorem sliceV_log {i:TI} {τ:Option Ty} {s s':StV S} {x v:V S} {l h m:Option (V S)} {c:Bool} (he:sliceV i τ s x l h m=some (c,v,s')):s'=s∨freezeV s (ownV x)=some s':=by
 unfold sliceV at he
 repeat' split at he
 all_goals first
  |(cases he;done)
  |(
    simp only[Option.some.injEq,Prod.mk.injEq] at he
    obtain ⟨_,_,rfl⟩:=he
    first|exact .inl rfl|(right;assumption))
theorem opV0_log {E:EnvT} {fr:FrV S} {s s':StV S} {o:Op} {c:Bool} {v:V S} (h:opV0 E fr s o=some (c,v,s')):LogV s s':=by
 have same:s'=s->LogV s s':=λe=>e▸LogV.refl _
 cases o with
 |alloc t=>
  simp[opV0] at h
  split at h
  .rcases cond_some h with ⟨hb,h⟩|⟨_,h⟩
   .obtain ⟨_,_,rfl⟩:=h
    simp_all[newObV_log]
   .cases h
  .cases h
 |box t x=>
  simp[opV0] at h
  split at h
  .rcases cond_some h with ⟨hb,h⟩|⟨_,h⟩
   .simp only[Option.map_eq_some_iff,Prod.mk.injEq] at h
    obtain ⟨_,_,_,_,rfl⟩:=h
    simp_all[newObV_log]
   .cases h
  .cases h
 |buildSlice t n ps=>
  simp only[opV0] at h
  split at h
  .split at h
   .rcases cond_some h with ⟨_,h⟩|⟨_,h⟩
    .split at h
     .simp only[Option.map_eq_some_iff,Prod.mk.injEq] at h
      obtain ⟨s1,hs1,_,_,rfl⟩:=h
      exact freezeV_log hs1
     .cases h
    .cases h
   .cases h
  .cases h
 |store t x y=>
  grind[opV0,storeV_log]
 |slice t x lo hi mx=>
  simp[opV0] at h
  split at h
  .rcases sliceV_log h with rfl|h
   .grind
   .exact freezeV_log h
  .cases h
 |move x=>simp only[opV0,Option.map_eq_some_iff,Prod.mk.injEq] at h;grind
 |assign x=>simp only[opV0,Option.map_eq_some_iff,Prod.mk.injEq] at h;grind
 |pick x y z=>
  simp[opV0] at h
  split at h
  .simp only[Option.map_eq_some_iff,Prod.mk.injEq] at h
   grind
  .cases h
 |build t ps=>
  simp[opV0] at h
  split at h
  .split at h
   .simp only[Option.map_eq_some_iff,Prod.mk.injEq] at h
    grind
   .cases h
  .cases h
 |load t x=>
  simp[opV0] at h
  split at h
  .unfold loadV at h
   split at h
   .split at h
    .rcases cond_some h with ⟨_,h⟩|⟨_,h⟩
     .simp only[Option.map_eq_some_iff,Prod.mk.injEq] at h
      grind
     .cases h
    .cases h
   .simp only[Option.map_eq_some_iff,Prod.mk.injEq] at h
    grind
   .split at h
    .simp at h
     grind
    .cases h
   .cases h
  .cases h
 |nilCheck x=>
  simp[opV0] at h
  grind
 |binOp op t x y u=>
  simp[opV0] at h
  split at h
  .simp only[Option.map_eq_some_iff,Prod.mk.injEq] at h
   grind
  .cases h
 |unOp op t x=>
  simp[opV0] at h
  split at h
  .simp only[Option.map_eq_some_iff,Prod.mk.injEq] at h
   grind
  .cases h
 |convert t u x=>
  grind[opV0,convV_low]
 |makeInterface t x=>
  simp[opV0] at h
  grind
 |makeFunc f a b=>
  simp[opV0] at h
  grind
 |extract x k=>
  grind[opV0,extractV_low]
 |fieldAddr t x k=>
  grind[opV0,fieldAddrV_low]
 |field t x k=>
  simp[opV0] at h
  split at h
  .unfold fieldV at h
   split at h
   .split at h
    .rcases cond_some h with ⟨_,h⟩|⟨_,h⟩
     .simp only[Option.map_eq_some_iff,Prod.mk.injEq] at h
      grind
     .cases h
    .cases h
   .cases h
  .cases h
 |indexAddr t x y=>
  simp[opV0] at h
  split at h
  .unfold indexAddrV at h
   split at h
   .grind
   .have:=arrAddrV_st h
    grind
   .cases h
  .cases h
 |index t x y=>
  simp[opV0] at h
  split at h
  .unfold indexV at h
   grind
  .cases h
 |typeAssert x t u ok=>
  grind[opV0,assertV_low]
 |_=>simp[opV0] at h
theorem builtinV0_log {E:EnvT} {s s':StV S} {b:Builtin} {ats:Array TypeId} {args:List (V S)} {c:Bool} {v:V S} (h:builtinV0 E s b ats args=some (c,v,s')):LogV s s':=by
 unfold builtinV0 at h
 split at h
 .split at h
  .split at h
   .obtain ⟨_,_,rfl⟩:=h
    exact LogV.refl _
   .cases h
  .split at h
   .simp only[Option.map_eq_some_iff,Prod.mk.injEq] at h
    obtain ⟨_,_,_,_,rfl⟩:=h
    exact LogV.refl _
   .cases h
  .cases h
 .split at h
  .split at h
   .split at h
    .rcases cond_some h with ⟨_,h⟩|⟨hnb,h⟩
     .cases h
     .have hlt:s.nob<bigN:=by
       have:Nat.blt s.nob bigN=true:=by simpa using hnb
       exact Nat.le_of_ble_eq_true this
      split at h
      .split at h
       .obtain ⟨_,_,rfl⟩:=h
        exact newObV_log _ _ hlt
       .split at h
        .split at h
         .obtain ⟨_,_,rfl⟩:=h
          exact newObV_log _ _ hlt
         .obtain ⟨_,_,rfl⟩:=h
          exact LogV.refl _
        .cases h
       .split at h
        .split at h
         .rcases cond_some h with ⟨_,h⟩|⟨_,h⟩
          .obtain ⟨_,_,rfl⟩:=h
           exact set_log _ _ _
          .cases h
         .cases h
        .cases h
       .cases h
      .cases h
    .cases h
   .cases h
  .cases h
 .cases h
end TL
end
section
namespace TL
open Go
variable {S:Sg}
section
variable {g:Gh} {w w':World}
theorem SRel.setObj {s:St} (hs:SRel g s w) {o b:Nat} (hb:g.blk o=some b) {ob ob':Ob} (hsome:s.ob.get o=some ob) (hodd:ob.odd=true) (hfl:s.fl<=o) {x':Obj} (hr:ObRel g w b ob' x')
  (hsize:w'.heap.size=w.heap.size) (hother:∀b',b'≠b->w'.heap[b']?=w.heap[b']?) (hnew:w'.heap[b]?=some x') (hos:w'.os=w.os) (hout:w'.output=w.output) :
  SRel g {s with ob:=s.ob.set fuelTr o ob'} w'∧Ext s.fl g w g w':=by
 have hown:Owned g o b:=⟨(hs.box o b hb).1,.inl hb⟩
 have hob:o<bigN:=Nat.lt_of_lt_of_le (hs.lt hb) hs.nob
 have he:Ext s.fl g w g w':=
  ⟨λ_ _ h=>h,λ_ _ _ h=>h,λ_ h=>h,by omega,λb' _ hn=>hother b' (λe=>hn o hfl (e▸hown)),λ_ _ h=>.inl h,λ_ h=>.inl h,hos,hout⟩
 refine ⟨⟨hs.nob,hs.bnd,λo' b' hb'=>?_,λo' e x hx=>?_,λb' hb'=>by have:=hs.imm b' hb';omega,hs.uni,hs.gext he⟩,he⟩
 .by_cases hoo:o'=o
  .subst hoo
   rw[hb] at hb'
   simp at hb'
   subst hb'
   let ⟨h1,h2,_⟩:=hs.box o' b hb
   refine ⟨h1,by omega,λob2 hob2=>⟨x',hnew,?_⟩⟩
   rw[Tr.get_set64 _ _ _ _ hob,if_pos rfl] at hob2
   obtain rfl:=Option.some.inj hob2
   exact hr.ext he hs.imm
  .have hbb:b'≠b:=λe=>hoo (hs.uni o' o b (e▸⟨(hs.box o' b' hb').1,.inl hb'⟩) hown)
   exact (hs.box o' b' hb').ext he hs.imm (hother b' hbb) (by simp;rw[Tr.get_set64 _ _ _ _ hob,if_neg hoo]) (hs.box o' b' hb').1
 .have hoo:o'≠o:=by
   rintro rfl
   have h4:=((hs.arr o' e x hx).2 _ hsome).isArr
   cases ob<;>first|(cases hodd;done)|(cases h4;done)
  refine (hs.arr o' e x hx).ext he hs.imm (λb' hb' hc=>⟨hother b' ?_,Iff.rfl⟩) (by simp;rw[Tr.get_set64 _ _ _ _ hob,if_neg hoo]) rfl
  rintro rfl
  by_cases him:g.imm b'
  .exact hown.1 him
  .exact hoo (hs.uni o' o b' ⟨him,.inr ⟨e,x,_,hx,hb',rfl,hc⟩⟩ hown)
theorem SRel.wipe {s:St} (hs:SRel g s w) {o b:Nat} (hb:g.blk o=some b) {ob:Ob} (hsome:s.ob.get o=some ob) (hodd:ob.odd=true) (hfl:s.fl<=o)
  (hsize:w'.heap.size=w.heap.size) (hother:∀b',b'≠b->w'.heap[b']?=w.heap[b']?) (hos:w'.os=w.os) (hout:w'.output=w.output) :
  SRel g {s with ob:=s.ob.del fuelTr o} w'∧Ext s.fl g w g w':=by
 have hown:Owned g o b:=⟨(hs.box o b hb).1,.inl hb⟩
 have hob:o<bigN:=Nat.lt_of_lt_of_le (hs.lt hb) hs.nob
 have hget:∀k,(s.ob.del fuelTr o).get k=if k=o then none else s.ob.get k:=λk=>Tr.get_del _ _ _ _ (by grind[fuelTr,bigN])
 have he:Ext s.fl g w g w':=
  ⟨λ_ _ h=>h,λ_ _ _ h=>h,λ_ h=>h,by omega,λb' _ hn=>hother b' (λe=>hn o hfl (e▸hown)),λ_ _ h=>.inl h,λ_ h=>.inl h,hos,hout⟩
 refine ⟨⟨hs.nob,hs.bnd,λo' b' hb'=>?_,λo' e x hx=>?_,λb' hb'=>by have:=hs.imm b' hb';omega,hs.uni,hs.gext he⟩,he⟩
 .by_cases hoo:o'=o
  .subst hoo
   rw[hb] at hb'
   simp at hb'
   subst hb'
   let ⟨h1,h2,_⟩:=hs.box o' b hb
   refine ⟨h1,by omega,λob2 hob2=>?_⟩
   simp_all
  .have hbb:b'≠b:=λe=>hoo (hs.uni o' o b (e▸⟨(hs.box o' b' hb').1,.inl hb'⟩) hown)
   exact (hs.box o' b' hb').ext he hs.imm (hother b' hbb) (by simp;rw[hget,if_neg hoo]) (hs.box o' b' hb').1
 .have hoo:o'≠o:=by
   rintro rfl
   have h4:=((hs.arr o' e x hx).2 _ hsome).isArr
   cases ob<;>first|(cases hodd;done)|(cases h4;done)
  refine (hs.arr o' e x hx).ext he hs.imm (λb' hb' hc=>⟨hother b' ?_,Iff.rfl⟩) (by simp;rw[hget,if_neg hoo]) rfl
  rintro rfl
  by_cases him:g.imm b'
  .exact hown.1 him
  .exact hoo (hs.uni o' o b' ⟨him,.inr ⟨e,x,_,hx,hb',rfl,hc⟩⟩ hown)
def keyVal:(kt:Ty)->den S.A kt->Value
 | .int k,n=>.int k n
 | .bool,b=>.bool b
 | .str,s=>.string (toBytes s)
 |_,_=>undef
def keyDesc:Ty->TypeDesc->Prop
 | .int k,d=>d=.int k
 | .bool,d=>d=.bool
 | .str,d=>d=.string
 |_,_=>False
theorem keyV_sound {kt:Ty} {v:V S} {k:den S.A kt} {u:Value} (h:keyV kt v=some k) (ht:TRel g w (low v) u):u=keyVal kt k:=by
 cases kt with
 |int j=>
  let ⟨p,hp,hpp⟩:=intV_low (show intV j v=some k from h)
  exact intT_sound hp hpp ht
 |bool=>
  let ⟨p,hp,hpp⟩:=boolV_low (show boolV v=some k from h)
  exact boolT_sound hp hpp ht
 |str=>
  let ⟨p,hp,hpp⟩:=strV_low (show strV v=some k from h)
  exact strT_sound hp hpp ht
 |_=>cases h
theorem key_low {kt:Ty} {k:den S.A kt} {u:Value} {d:TypeDesc} (hd:keyDesc kt d) (ht:TRel g w (lowTy S kt k) u):u=keyVal kt k:=by
 cases kt with
 |int j=>cases ht with|sym _ _ hd=>cases hd;rfl
 |bool=>cases ht with|sym _ _ hd=>cases hd;rfl
 |str=>cases ht with|sym _ _ hd=>cases hd;rfl
 |_=>cases hd
theorem key_rel {kt:Ty} {k:den S.A kt} {d:TypeDesc} (hd:keyDesc kt d):TRel g w (lowTy S kt k) (keyVal kt k):=by
 cases kt with
 |int j=>exact .sym _ _ (.lit _)
 |bool=>exact .sym _ _ (.lit _)
 |str=>exact .sym _ _ (.lit _)
 |_=>cases hd
theorem sameNow_key {kt:Ty} {d:TypeDesc} (hd:keyDesc kt d) (a b:den S.A kt):Instr.sameNow d (keyVal kt a) (keyVal kt b)=some (keq kt a b):=by
 cases kt with
 |int j=>cases hd;simp[Instr.sameNow,keyVal,keq,D.ieq]
 |bool=>cases hd;rfl
 |str=>
  cases hd
  have:=seq_bytes a b
  grind[D.seq,Instr.sameNow,keyVal,keq]
 |_=>cases hd
theorem sameBits_key {kt:Ty} {d:TypeDesc} (hd:keyDesc kt d) {a b:den S.A kt} (h:keq kt a b=true) (n:Nat):Instr.sameBits n (keyVal kt b) (keyVal kt a)=true:=by
 cases kt with
 |int j=>
  have:a=b:=by simpa[keq,D.ieq] using h
  subst this
  cases n<;>simp[Instr.sameBits,keyVal]
 |bool=>
  have:a=b:=by simpa[keq,D.beq] using h
  subst this
  cases n<;>simp[Instr.sameBits,keyVal]
 |str=>
  have:a=b:=by simpa[keq,seqL] using h
  subst this
  have hh:(toBytes a==toBytes a)=true:=by
   have:=seq_bytes a a
   grind[D.seq,seqL]
  cases n<;>simp[Instr.sameBits,keyVal,hh]
 |_=>cases hd
def ixL {A:Nat->Type} {β:Type} (kt:Ty) (k:den A kt):List (den A kt×β)->Option Nat
 |[]=>none
 |p ::l=>bif keq kt k p.1 then some 0 else (ixL kt k l).map Nat.succ
theorem ixL_none {β:Type} {kt:Ty} {k:den S.A kt}:∀{l:List (den S.A kt×β)},ixL kt k l=none->(∀z,lkL kt z k l=z)∧hasL kt k l=false∧∀x,insL kt k x l=l++[(k,x)]
 |[],_=>⟨λ_=>rfl,rfl,λ_=>rfl⟩
 |p ::l,h=>by
  simp[ixL] at h
  cases hb:keq kt k p.1 with
  |true=>simp_all
  |false=>
   rw[hb] at h
   obtain ⟨h1,h2,h3⟩:=ixL_none (l:=l) (by simpa using h)
   grind[lkL,hasL,insL]
theorem ixL_some {β:Type} {kt:Ty} {k:den S.A kt}:∀{l:List (den S.A kt×β)} {j:Nat},ixL kt k l=some j->∃p,l[j]?=some p∧keq kt k p.1=true∧(∀z,lkL kt z k l=p.2)∧hasL kt k l=true∧∀x,insL kt k x l=l.set j (k,x)
 |[],j,h=>by cases h
 |p ::l,j,h=>by
  simp[ixL] at h
  cases hb:keq kt k p.1 with
  |true=>
   rw[hb] at h
   simp at h
   subst h
   exact ⟨p,rfl,hb,λz=>by simp[lkL,hb],by simp[hasL,hb],λx=>by simp[insL,hb]⟩
  |false=>
   rw[hb] at h
   simp only[cond_false,Option.map_eq_some_iff] at h
   obtain ⟨i,hi,rfl⟩:=h
   let ⟨q,h1,h2,h3,h4,h5⟩:=ixL_some hi
   exact ⟨q,by simpa using h1,h2,λz=>by simp[lkL,hb,h3],by simp[hasL,h4],λx=>by simp[insL,hb,h5]⟩
theorem delL_ix {β:Type} {kt:Ty} {k:den S.A kt}:∀{l:List (den S.A kt×β)},delL kt k l=match ixL kt k l with|some j=>l.eraseIdx j|none=>l
 |[]=>rfl
 |p ::l=>by
  simp only[delL,ixL]
  cases hb:keq kt k p.1 with
  |true=>rfl
  |false=>
   simp only[cond_false,delL_ix (l:=l)]
   cases ixL kt k l<;>rfl
theorem findNow_sound {β:Type} {kt:Ty} {d:TypeDesc} (hd:keyDesc kt d) (k:den S.A kt):∀(l:List (den S.A kt×β)) (es:List MapEntry) (i:Nat),es.length=l.length->
  (∀(j:Nat) p m,l[j]?=some p->es[j]?=some m->m.key=keyVal kt p.1)->Instr.findNow d (keyVal kt k) es i=some ((ixL kt k l).bind λj=>(es[j]?).map λm=>(i+j,m.val))
 |[],[],i,_,_=>rfl
 |p ::l,m ::es,i,hl,hk=>by
  simp[Instr.findNow,hk 0 p m rfl rfl,sameNow_key hd]
  cases hb:keq kt k p.1 with
  |true=>simp[ixL,hb]
  |false=>
   rw[findNow_sound hd k l es (i+1) (by simpa using hl) (λj p' m' h1 h2=>hk (j+1) p' m' (by simpa using h1) (by simpa using h2))]
   simp only[ixL,hb,cond_false]
   cases ixL kt k l with
   |none=>rfl
   |some j=>
    simp
    congr 1
    funext m
    rw[Nat.add_assoc,Nat.add_comm 1 j]
 |[],_ ::_,_,hl,_=>by simp at hl
 |_ ::_,[],_,hl,_=>by simp at hl
variable {P:Program}
theorem run_checkKey' {kt:Ty} {d:TypeDesc} (hd:keyDesc kt d) {t:TypeId} (hu:P.underlying t=some d) (b:Bool) (n:Nat) (v:Value) (w:World):(Instr.checkKey b (n+1) t v).run P w=.ok () w:=by
 cases kt with
 |int j=>cases hd;simp_all[Instr.checkKey,run_underlying']
 |bool=>cases hd;simp_all[Instr.checkKey,run_underlying']
 |str=>cases hd;simp_all[Instr.checkKey,run_underlying']
 |_=>cases hd
theorem run_checkKey {kt:Ty} {d:TypeDesc} (hd:keyDesc kt d) {t:TypeId} (hu:P.underlying t=some d) (b:Bool) (v:Value) (w:World):(Instr.checkKey b 10000 t v).run P w=.ok () w:=
 run_checkKey' hd hu b 9999 v w
theorem run_findKey {β:Type} {kt:Ty} {d:TypeDesc} (hd:keyDesc kt d) {t:TypeId} (hu:P.underlying t=some d) (k:den S.A kt) {l:List (den S.A kt×β)} {es:List MapEntry} (hl:es.length=l.length)
  (hk:∀(j:Nat) p m,l[j]?=some p->es[j]?=some m->m.key=keyVal kt p.1) (w:World) :
  (Instr.findKey t (keyVal kt k) es).run P w=.ok ((ixL kt k l).bind λj=>(es[j]?).map λm=>(j,m.val)) w:=by
 have:=findNow_sound hd k l es 0 hl hk
 simp_all[Instr.findKey,run_underlying']
theorem run_getMap {b c:Nat} {ms:Array MapEntry} (h:w.heap[b]?=some (.map ms c)):(getObj b).run P w=.ok (.map ms c) w:=by simp[getObj,Sem.run,h]
theorem run_setMap {b c:Nat} {ms:Array MapEntry} (o:Obj) (h:w.heap[b]?=some (.map ms c)):(setObj b o).run P w=.ok () {w with heap:=w.heap.setIfInBounds b o}:=by simp[setObj,Sem.run,h]
theorem run_lookup {β:Type} {kt:Ty} {d:TypeDesc} (hd:keyDesc kt d) {t kid e:TypeId} {uz:TypeInfo} {z:Value} (ht:P.underlying t=some (.map kid e)) (hu:P.underlying kid=some d) (hi:P.info? e=some uz) (hz:uz.zero=some z)
  (k:den S.A kt) {l:List (den S.A kt×β)} {b c:Nat} {ms:Array MapEntry} (h:w.heap[b]?=some (.map ms c)) (hl:l.length=ms.size) (hk:∀(j:Nat) p m,l[j]?=some p->ms[j]?=some m->m.key=keyVal kt p.1) (ok:Bool) :
  (Instr.lookup t (.map (some b)) (keyVal kt k) ok).run P w=.ok (match (ixL kt k l).bind λj=>(ms[j]?).map (·.val) with
   |some v=>if ok then .tuple #[v,.bool true] else v
   |none=>if ok then .tuple #[z,.bool false] else z) w:=by
 have hf:=run_findKey (P:=P) hd hu k (l:=l) (es:=ms.toList) (by grind) (λj p m h1 h2=>hk j p m h1 (by simpa using h2)) w
 simp only[Instr.lookup,Sem.run_bind,run_underlying' ht,Result.andThen_ok,run_getMap h,run_checkKey hd hu,hf,Sem.run_pure]
 cases hx:ixL kt k l with
 |none=>simp[run_zeroValue' hi hz]
 |some j=>
  cases hm:ms[j]? with
  |none=>simp[hm,run_zeroValue' hi hz]
  |some m=>simp[hm]
theorem run_lookup_nil {kt:Ty} {d:TypeDesc} (hd:keyDesc kt d) {t kid e:TypeId} {uz:TypeInfo} {z:Value} (ht:P.underlying t=some (.map kid e)) (hu:P.underlying kid=some d) (hi:P.info? e=some uz) (hz:uz.zero=some z)
  (k:den S.A kt) (ok:Bool):(Instr.lookup t (.map none) (keyVal kt k) ok).run P w=.ok (if ok then .tuple #[z,.bool false] else z) w:=by
 have hf:=run_findKey (P:=P) (β:=Unit) hd hu k (l:=[]) (es:=[]) rfl (λj p m h1=>by simp at h1) w
 simp only[Instr.lookup,Sem.run_bind,run_underlying' ht,Result.andThen_ok,run_checkKey hd hu,Sem.run_pure]
 simp_all[run_zeroValue']
end
end TL
end
section
namespace TL
open Go
variable {S:Sg}
section
variable {g:Gh} {w w':World} {P:Program}
def MapR {β:Type} (kt:Ty) (R:β->Value->Prop) (l:List (den S.A kt×β)) (ms:Array MapEntry):Prop:=
 l.length=ms.size∧∀(j:Nat) p m,l[j]?=some p->ms[j]?=some m->m.key=keyVal kt p.1∧R p.2 m.val
theorem run_mapUpdate {β:Type} {kt:Ty} {R:β->Value->Prop} {d:TypeDesc} (hd:keyDesc kt d) {t kid e:TypeId} (ht:P.underlying t=some (.map kid e)) (hu:P.underlying kid=some d)
  (k:den S.A kt) {l:List (den S.A kt×β)} {b c:Nat} {ms:Array MapEntry} (h:w.heap[b]?=some (.map ms c)) (hr:MapR kt R l ms) {x:β} {v:Value} (hx:R x v) :
  ∃ms' c',(Instr.mapUpdate t (.map (some b)) (keyVal kt k) v).run P w=.ok () {w with heap:=w.heap.setIfInBounds b (.map ms' c')}∧MapR kt R (insL kt k x l) ms':=by
 let ⟨hl,hk⟩:=hr
 have hf:=run_findKey (P:=P) hd hu k (l:=l) (es:=ms.toList) (by grind) (λj p m h1 h2=>(hk j p m h1 (by simpa using h2)).1) w
 cases hix:ixL kt k l with
 |none=>
  let ⟨_,_,hins⟩:=ixL_none hix
  rw[hix] at hf
  refine ⟨ms.push {key:=keyVal kt k,val:=v,born:=c},c+1,?_,by simp_all,λj p m h1 h2=>?_⟩
  .simp[Instr.mapUpdate,Sem.run_bind,run_underlying' ht,Result.andThen_ok,run_getMap h,run_checkKey hd hu,hf,Option.bind_none,run_setMap _ h]
  grind
 |some i=>
  let ⟨p,hp,hpk,_,_,hins⟩:=ixL_some hix
  have hi:i<ms.size:=by grind
  obtain ⟨m,hm⟩:∃m,ms[i]?=some m:=⟨ms[i],Array.getElem?_eq_getElem hi⟩
  have hf':(Instr.findKey kid (keyVal kt k) ms.toList).run P w=.ok (some (i,m.val)) w:=by
   simp_all
  refine ⟨ms.modify i λe=>{e with key:=keyVal kt k,val:=v},c,?_,by simp_all,λj q n h1 h2=>?_⟩
  .have hsb:Instr.sameBits 10000 m.key (keyVal kt k)=true:=by grind[sameBits_key]
   have hks:(Instr.keyThatStays m.key (keyVal kt k)).run P w=.ok (keyVal kt k) w:=by
    simp_all[Instr.keyThatStays]
   simp[Instr.mapUpdate,Sem.run_bind,run_underlying' ht,Result.andThen_ok,run_getMap h,run_checkKey hd hu,hf',hm,Option.map_some,Option.getD_some,hks,run_setMap _ h]
  grind
theorem run_delete {β:Type} {kt:Ty} {R:β->Value->Prop} {d:TypeDesc} (hd:keyDesc kt d) {t kid e:TypeId} (ht:P.underlying t=some (.map kid e)) (hu:P.underlying kid=some d)
  (k:den S.A kt) {l:List (den S.A kt×β)} {b c:Nat} {ms:Array MapEntry} (h:w.heap[b]?=some (.map ms c)) (hr:MapR kt R l ms) {ts:Array TypeId} (hts:ts[0]?=some t) {ty:TypeId} {args:Array Value} (ha0:args[0]?=some (.map (some b))) (ha1:args[1]?=some (keyVal kt k)) :
  ∃ms',(Builtin.delete_ ts ty args).run P w=.ok (.tuple #[]) {w with heap:=w.heap.setIfInBounds b (.map ms' c)}∧MapR kt R (delL kt k l) ms':=by
 let ⟨hl,hk⟩:=hr
 have hf:=run_findKey (P:=P) hd hu k (l:=l) (es:=ms.toList) (by grind) (λj p m h1 h2=>(hk j p m h1 (by simpa using h2)).1) w
 rw[delL_ix]
 cases hix:ixL kt k l with
 |none=>
  rw[hix] at hf
  refine ⟨ms,?_,hl,hk⟩
  simp[Builtin.delete_,Sem.run_bind,hts,ha0,ha1,run_underlying' ht,Result.andThen_ok,run_getMap h,run_checkKey hd hu,hf,Option.bind_none,run_setMap _ h]
 |some i=>
  let ⟨p,hp,_⟩:=ixL_some hix
  have hi:i<ms.size:=by grind
  have hf':(Instr.findKey kid (keyVal kt k) ms.toList).run P w=.ok (some (i,ms[i].val)) w:=by
   simp_all
  refine ⟨ms.eraseIdxIfInBounds i,?_,?_,λj q n h1 h2=>?_⟩
  .simp[Builtin.delete_,Sem.run_bind,hts,ha0,ha1,run_underlying' ht,Result.andThen_ok,run_getMap h,run_checkKey hd hu,hf',run_setMap _ h]
  .simp only[Array.eraseIdxIfInBounds,hi,dite_true,Array.size_eraseIdx,List.length_eraseIdx]
   grind
  .simp only[Array.eraseIdxIfInBounds,hi,dite_true,Array.getElem?_eraseIdx,List.getElem?_eraseIdx] at h1 h2
   grind
theorem ObRel.toMap {β:Type} {kt:Ty} {d:TypeDesc} (hd:keyDesc kt d) {f:β->T} {l:List (den S.A kt×β)} {x:Obj} {bq:Nat} (h:ObRel g w bq (.map (l.map λp=>(lowTy S kt p.1,f p.2))) x) :
  ∃ms c,x=.map ms c∧MapR kt (λy v=>TRel g w (f y) v) l ms:=by
 cases h with
 |map _ ms c hl hr=>
  refine ⟨ms,c,rfl,by simpa using hl,λj p m h1 h2=>?_⟩
  have:=hr j (lowTy S kt p.1,f p.2) m (by simp[h1]) h2
  exact ⟨key_low hd this.1,this.2⟩
theorem MapR.ob {β:Type} {kt:Ty} {d:TypeDesc} (hd:keyDesc kt d) {f:β->T} {l:List (den S.A kt×β)} {ms:Array MapEntry} (h:MapR kt (λy v=>TRel g w (f y) v) l ms) (c bq:Nat):ObRel g w bq (.map (l.map λp=>(lowTy S kt p.1,f p.2))) (.map ms c):=by
 refine .map _ ms c (by simpa using h.1) λj t m h1 h2=>?_
 simp only[List.getElem?_map,Option.map_eq_some_iff] at h1
 obtain ⟨p,hp,rfl⟩:=h1
 let ⟨h3,h4⟩:=h.2 j p m hp h2
 rw[h3]
 exact ⟨key_rel hd,h4⟩
def ZRow (S:Sg) (i:TI) (τ:Ty):Prop:=bif isSt τ then D.agg i.zero=enc S τ (S.zero τ) else i.zero=[enc S τ (S.zero τ)]
theorem zero_drel {I:Nat->Prop} (hS:SgOk S) {t:TypeId} {i:TI} (hi:TIok P t i) {τ:Ty} (hr:TyRow S i τ) (hz:ZRow S i τ) {x:TypeInfo} {z:Value} (hx:P.info? t=some x) (hxz:x.zero=some z):DRel I w (enc S τ (S.zero τ)) z:=by
 let ⟨x',d0,z',hx',hu,_,hag,hz',hzok,_⟩:=hi.all
 rw[hx] at hx'
 cases hx'
 rw[hxz] at hz'
 cases hz'
 let ⟨hza,hzn⟩:=hi.zag x z hx hxz
 unfold ZRow at hz
 cases hst:isSt τ with
 |true=>
  rw[hst,cond_true] at hz
  have hagt:i.agg=true:=by
   cases τ with
   |st n=>exact hr.1
   |_=>cases hst
  obtain ⟨vs,rfl⟩:=hza hagt
  rw[<-hz]
  refine .agg _ _ hzok.1 (λc hc=>?_) (λj c v h1 h2=>zval_drel (hzok.2 j c v h1 h2))
  cases τ with
  |st n=>
   have e:i.zero=S.cells n (S.zero (.st n)):=by
    have:D.agg i.zero=D.agg (S.cells n (S.zero (.st n))):=hz
    injection this
   rw[e,hS.cells] at hc
   exact encH_leaf _ _ (hS.leaf n) c hc
  |_=>cases hst
 |false=>
  rw[hst,cond_false] at hz
  have hagf:i.agg=false:=by
   cases τ with
   |st n=>cases hst
   |_=>exact hr.2.1
  have hzc:=hzn hagf
  have:=hzok.2 0 _ z (by rw[hz];rfl) (by rw[hzc];rfl)
  exact zval_drel this
structure XOk (S:Sg) (E:EnvT):Prop where
 zr:∀t i τ,E.E.ti t=some i->E.ty t=some τ->ZRow S i τ
 mt:∀t m,E.mt t=some m->∃kid d,E.E.P.underlying t=some (.map kid m.el)∧E.E.P.underlying kid=some d∧keyDesc m.kt d∧(∃x z,E.E.P.info? m.el=some x∧x.zero=some z)∧
  ∀vt,m.vt=some vt->E.ty m.el=some vt∧∃i,E.E.ti m.el=some i
 meth:∀t nm f,E.meth t nm=some f->∃x mm d,E.E.P.info? t=some x∧x.methods.find? (·.name==nm)=some mm∧mm.path=#[]∧E.E.P.underlying t=some d∧
  ((mm.func=some (f,false)∧∀e,d≠.pointer e)∨(mm.func=some (f,true)∧∃e,d=.pointer e))
 bt:∀t e,E.bt t=some e->∃xi,E.E.P.info? t=some xi∧xi.zero=some (.agg #[.pointer none,.slice none 0 0])
theorem opdV_rel {fr:FrV S} {a:Act} (hf:FRel g (lowFr fr) a w) {x:Operand} {v:V S} (h:opdV fr x=some v):TRel g w (low v) (a.eval x):=opdT_sound hf (opdV_low h)
theorem castM_eq {kt vt kt' vt':Ty} {l:List (den S.A kt×den S.A vt)} {l':List (den S.A kt'×den S.A vt')} (h:castM kt vt kt' vt' l=some l'):kt=kt'∧vt=vt'∧HEq l l':=by
 unfold castM at h
 grind
theorem castK_eq {β:Type} {kt kt':Ty} {l:List (den S.A kt×β)} {l':List (den S.A kt'×β)} (h:castK kt kt' l=some l'):kt=kt'∧HEq l l':=by
 unfold castK at h
 grind
theorem set_blk {w:World} {b:Nat} (x:Obj) (hb:b<w.heap.size):({w with heap:=w.heap.setIfInBounds b x}:World).heap.size=w.heap.size∧(∀b',b'≠b->({w with heap:=w.heap.setIfInBounds b x}:World).heap[b']?=w.heap[b']?)∧
  ({w with heap:=w.heap.setIfInBounds b x}:World).heap[b]?=some x:=by
 grind
theorem lookup_rel {β:Type} {f:β->T} {kt:Ty} {k:den S.A kt} {l:List (den S.A kt×β)} {ms:Array MapEntry} (hr:MapR kt (λy v=>TRel g w (f y) v) l ms) {z:β} {zv:Value} (hz:TRel g w (f z) zv) :
  TRel g w (f (lkL kt z k l)) (((ixL kt k l).bind λj=>(ms[j]?).map (·.val)).getD zv)∧(((ixL kt k l).bind λj=>(ms[j]?).map (·.val)).isSome=hasL kt k l):=by
 cases hix:ixL kt k l with
 |none=>
  let ⟨h1,h2,_⟩:=ixL_none hix
  rw[h1,h2]
  exact ⟨hz,rfl⟩
 |some j=>
  let ⟨p,hp,_,h1,h2,_⟩:=ixL_some hix
  rw[h1,h2]
  have hj:j<ms.size:=by rw[<-hr.1];exact getElem?_isSome_lt hp
  have hm:ms[j]?=some ms[j]:=Array.getElem?_eq_getElem hj
  simp[Option.bind_some,hm,Option.map_some,Option.getD_some,Option.isSome_some,and_true]
  exact (hr.2 j p _ hp hm).2
end
end TL
end
section
namespace TL
open Go
variable {S:Sg}
theorem encI_nilB:∀(l:List (TypeId×Ty)) (x:iden S.A l),isNil l x=(encI S l x).isNone
 |[],_=>rfl
 |_ ::_,.inl _=>rfl
 |_ ::l,.inr y=>encI_nilB l y
theorem encI_alt:∀(l:List (TypeId×Ty)) (t:TypeId) (j:Nat) (x:iden S.A l) (z:(t:Ty)->den S.A t),altsB l=true->altIx l t=some j->
  (isAlt l j x=true∧encI S l x=some (t,enc S (altTy l j) (getAlt z l j x)))∨(isAlt l j x=false∧getAlt z l j x=z (altTy l j)∧∀d,encI S l x≠some (t,d))
 |[],t,j,x,z,_,h=>by cases h
 |p ::l,t,j,x,z,ha,h=>by
  simp only[altsB,Bool.and_eq_true] at ha
  rcases cond_some h with ⟨hb,h⟩|⟨hb,h⟩
  .simp at h
   subst h
   have hpt:=Nat.eq_of_beq_eq_true hb
   cases x with
   |inl y=>left;exact ⟨rfl,by simp only[encI,hpt];rfl⟩
   |inr y=>
    right
    refine ⟨rfl,rfl,λd hd=>?_⟩
    simp[encI] at hd
    have hno:altIx l p.1=none:=by
     simp_all
    exact encI_none l y p.1 hno d (by grind)
  .split at h
   .rename_i i hi
    simp only[Option.some.injEq] at h
    subst h
    cases x with
    |inl y=>
     right
     refine ⟨rfl,rfl,λd hd=>?_⟩
     grind[encI]
    |inr y=>
     rcases encI_alt l t i y z ha.2 hi with ⟨h1,h2⟩|⟨h1,h2,h3⟩
     .exact .inl ⟨h1,h2⟩
     .exact .inr ⟨h1,h2,h3⟩
   .cases h
where
 encI_none:∀(l:List (TypeId×Ty)) (x:iden S.A l) (t:TypeId),altIx l t=none->∀d,encI S l x≠some (t,d)
  |[],_,_,_,_,h=>by cases h
  |p ::l,.inl y,t,hn,d,h=>by
   simp_all[altIx,encI]
  |p ::l,.inr y,t,hn,d,h=>by
   simp only[altIx] at hn
   cases hb:Nat.beq p.1 t with
   |true=>simp_all
   |false=>
    refine encI_none l y t ?_ d h
    grind
section
variable {g:Gh} {w:World} {P:Program}
theorem ifc_rel (hS:SgOk S) {n:Nat} {x:S.A n} {v:Value} (h:TRel g w (lowTy S (.ifc n) x) v) :
  (encI S (S.alts n) (S.iget n x)=none∧v=.nilIface)∨∃t d u,encI S (S.alts n) (S.iget n x)=some (t,d)∧v=.iface t u∧DRel g.imm w d u:=by
 have h':TRel g w (.sym (ifD (S.icell n x))) v:=h
 rw[hS.icell] at h'
 cases h' with
 |sym _ _ hd=>
  cases he:encI S (S.alts n) (S.iget n x) with
  |none=>
   rw[he] at hd
   cases hd
   simp_all
  |some p=>
   rw[he] at hd
   let ⟨t,d⟩:=p
   cases hd with
   |ifc _ _ u hu=>grind
theorem makeMap_does {s:StV S} (hs:SRel g (lowSt s) w) (hn:s.nob<bigN) {t:TypeId} {r:Option Value} {kid el:TypeId} (ht:P.underlying t=some (.map kid el)) (hr:∀v,r=some v->∃k n,v=.int k n) {ob:ObV S} (hob:lowOb ob=.map []) :
  ∃v w' g',(Instr.makeMap t r).run P w=.ok v w'∧TRel g' w' (low (.mp s.nob:V S)) v∧AftV [] s g w (newObV s ob) g' w':=by
 let ⟨hs',he⟩:=hs.newObj (ob0:=.map []) (x0:=.map #[] 0) hn (.map [] #[] 0 rfl (λj t m h=>by simp at h))
 refine ⟨.map (some w.heap.size),_,_,?_,.mp _ _ (by simp[Gh.newBox,lowSt]),AftV.ofExt hs (by rw[lowSt_new,hob];exact hs') he rfl rfl (Nat.le_succ _) (newObV_log s ob hn)⟩
 cases r with
 |none=>rfl
 |some v=>
  obtain ⟨k,n,rfl⟩:=hr v rfl
  simp_all[Instr.makeMap,run_underlying',asInt,asIntOf]
theorem range_does {s:StV S} (hs:SRel g (lowSt s) w) (hn:s.nob<bigN) {t:TypeId} (ht:P.underlying t=some .string) (b:List UInt8) :
  ∃v w' g',(Instr.range t (.string (toBytes b))).run P w=.ok v w'∧TRel g' w' (low (.itr s.nob:V S)) v∧AftV [] s g w (newObV s (.sit b 0)) g' w':=by
 let ⟨hs',he⟩:=hs.newObj (ob0:=.sit (toBytes b) 0) (x0:=.stringIter (toBytes b) 0) hn (.sit _ _)
 refine ⟨.pointer (some ⟨w.heap.size,0,none⟩),_,_,?_,.itr _ _ (by simp[Gh.newBox,lowSt]),AftV.ofExt hs (by rw[lowSt_new];exact hs') he rfl rfl (Nat.le_succ _) (newObV_log s _ hn)⟩
 simp[Instr.range,run_underlying' ht]
theorem makeSlice_does (hS:SgOk S) {s:StV S} (hs:SRel g (lowSt s) w) (hn:s.nob<bigN) {t:TypeId} {i:TI} (hi:TIok P t i) {e:Ty} (hr:TyRow S i (.sl e)) {n:Int} (hmk:mkN n=true) (k1 k2:IntKind) :
  ∃v w' g',(Instr.makeSlice t (.int k1 n) (.int k2 n)).run P w=.ok v w'∧TRel g' w' (low (.sh s.nob 0:V S)) v∧AftV [] s g w (newObV s (.arr e (List.replicate (natI n) (S.zero e)) 0)) g' w':=by
 let ⟨⟨z,hkd,hz⟩,_,_,hwd⟩:=hr
 let ⟨xi,d1,z1,hxi,hu1,_,hag,hzx,hzok,hk⟩:=hi.all
 rw[hkd] at hk
 obtain ⟨el,j,d',zv,rfl,hj,hjs,hju,hag',hjz,hjzok,hjb,hj0,hjb1,hjb2,hjb3,hjl⟩:=hk
 simp[mkN,Bool.and_eq_true,decide_eq_true_eq] at hmk
 obtain ⟨m,rfl⟩:∃m:Nat,n=(m:Int):=⟨n.toNat,by omega⟩
 have hm:m<=17179869184:=by omega
 have hbm:j.bytes*m<=4096*17179869184:=Nat.mul_le_mul hjb hm
 have hrun:=run_make (P:=P) w t el j zv hu1 hj hjz k1 k2 (m:Int) (m:Int) (by omega) (Int.le_refl _) (by
  have:((j.bytes*m:Nat):Int)<=281474976710656:=by omega
  rwa [Int.natCast_mul] at this) (by omega)
 have hzd:(bif isSt e then D.agg z else z.getD 0 default)=enc S e (S.zero e):=by
  grind
 have hrow:=zero_row (I:=g.imm) (w:=w.alloc (.cells (madeCells zv.cells (m*j.size)) el)) (ag:=isSt e) (sz:=S.width e) (len:=m) hjzok (by
  cases hst:isSt e with
  |true=>rfl
  |false=>
   simp_all) (by rw[lenL_eq];exact hjl)
 rw[hzd] at hrow
 have hes:(List.replicate m (S.zero e)).map (enc S e)=List.replicate m (enc S e (S.zero e)):=by simp
 let x:ASl:=⟨some ⟨w.heap.size,0,none⟩,m,m,S.width e⟩
 have hat:∀b,x.at b->b=w.heap.size:=by
  rintro b ⟨ad,h1,h2,_⟩
  grind
 have hnimm:¬g.imm w.heap.size:=λh=>by have:=hs.imm _ h;omega
 let ⟨hs',he⟩:=SRel.newArr (w':=w.alloc (.cells (madeCells zv.cells (m*j.size)) el)) hs hn (sz:=S.width e) (es:=List.replicate m (enc S e (S.zero e))) (x:=x) rfl rfl (by simp) (λb hb=>alloc_old w _ b hb)
  (λb hb=>by rw[hat b hb];simp)
  ⟨by simp[x],Nat.le_refl _,hrow.rows,hwd,λd hd=>by
    have hde:=List.eq_of_mem_replicate hd
    rw[hde,enc_by hS,List.length_replicate]
    have:m*byOf S e<=17179869184*(2*4096):=Nat.mul_le_mul hm (by omega)
    omega,λhc=>by
    refine ⟨w.heap.size,madeCells zv.cells (m*j.size),el,rfl,⟨λh=>(by cases h),λh=>absurd h hnimm⟩,alloc_new w _,by rw[size_madeCells,hjs];grind,λi d jj c h1 h2=>?_⟩
    let ⟨v,h3,h4⟩:=hrow.rel i jj d c h1 h2
    refine ⟨v,?_,h4⟩
    rw[<-hjs] at h3 ⊢
    exact h3⟩ rfl
 refine ⟨_,_,_,hrun,.sh _ _ _ _ (S.width e) _ (Gh.era_same _ _ _ _),AftV.ofExt hs ?_ he rfl rfl (Nat.le_succ _) (newObV_log s _ hn)⟩
 rw[lowSt_new]
 simp[lowOb,natI,Int.toNat_natCast,hes]
 exact hs'
end
end TL
end
section
namespace TL
open Go
variable {S:Sg}
section
variable {g:Gh} {w:World}
theorem TRel.inv_mp {o:Nat} {v:Value} (h:TRel g w (.mp o) v):∃b,v=.map (some b)∧g.blk o=some b:=by cases h;simp_all
theorem TRel.inv_itr {o:Nat} {v:Value} (h:TRel g w (.itr o) v):∃b,v=.pointer (some ⟨b,0,none⟩)∧g.blk o=some b:=by cases h;simp_all
theorem slb_inv {o n:Nat} {v:Value} (h:TRel g w (.slb o n) v):∃b,v=.slice (some ⟨b,0,none⟩) n n∧g.blk o=some b:=by
 cases h with
 |slb _ _ b h=>exact ⟨b,rfl,h⟩
theorem TRel.inv_kn {k:IntKind} {n:Int} {v:Value} (h:TRel g w (.kn k n) v):v=.int k n:=by cases h;rfl
theorem TRel.inv_lit {u v:Value} (h:TRel g w (.sym (.lit u)) v):v=u:=by cases h with|sym _ _ hd=>cases hd;rfl
theorem TRel.inv_agg {cs:List T} {v:Value} (h:TRel g w (.agg cs) v):∃vs,v=.agg vs∧PW (TRel g w) cs vs.toList:=by
 cases h with
 |agg _ vs hl hr=>exact ⟨vs,rfl,by simpa using hl,λj t v h1 h2=>hr j t v h1 (by simpa using h2)⟩
theorem run_eq_nn (P:Program) (d:Nat) {ty:TypeId} {ms:Array (String×TypeId)} (hu:P.underlying ty=some (.interface ms)):(Op.equalIn (d+1) ty .nilIface .nilIface).run P w=.ok true w:=by
 simp only[Op.equalIn,Sem.run_bind,run_underlying' hu,Result.andThen_ok];rfl
theorem run_eq_sl (P:Program) (d:Nat) {ty e:TypeId} (hu:P.underlying ty=some (.slice e)) (a:Option Addr) (n m:Nat):(Op.equalIn (d+1) ty (.slice a n m) (.slice none 0 0)).run P w=.ok a.isNone w:=by
 simp only[Op.equalIn,Sem.run_bind,run_underlying' hu,Result.andThen_ok]
 cases a<;>rfl
theorem ifc_nil (hS:SgOk S) {P:Program} {t:TypeId} {i:TI} (hi:TIok P t i) (hk:i.kd=.iface) {n:Nat} {x:S.A n} {v:Value} (h:TRel g w (lowTy S (.ifc n) x) v) (xo:Operand) :
  ((do eqGuard .eql t xo (.const .nilIface) v .nilIface;binOp .eql t v .nilIface:Sem Value)).run P w=.ok (.bool (isNil (S.alts n) (S.iget n x))) w∧
  ((do eqGuard .neq t xo (.const .nilIface) v .nilIface;binOp .neq t v .nilIface:Sem Value)).run P w=.ok (.bool (!(isNil (S.alts n) (S.iget n x)))) w:=by
 let ⟨_,d0,_,_,hu,_,_,_,_,hkd⟩:=hi.all
 rw[hk] at hkd
 obtain ⟨ms,rfl⟩:=hkd
 rw[encI_nilB]
 rcases ifc_rel hS h with ⟨he,rfl⟩|⟨t',d,u,he,rfl,_⟩
 .rw[he]
  refine run_cmp xo (.const .nilIface) rfl rfl (λop=>?_) (run_eq_nn P 9999 hu)
  unfold eqGuard
  cases op<;>cases xo<;>rfl
 .rw[he]
  refine run_cmp xo (.const .nilIface) rfl rfl (λop=>?_) (run_eq_ni 9999 hu t' u)
  unfold eqGuard
  cases op<;>rfl
theorem nil_nil {P:Program} {t:TypeId} {i:TI} (hi:TIok P t i) (hk:i.kd=.iface) {v:Value} (h:TRel g w (.sym (.lit .nilIface)) v) (xo:Operand) :
  ((do eqGuard .eql t xo (.const .nilIface) v .nilIface;binOp .eql t v .nilIface:Sem Value)).run P w=.ok (.bool true) w∧
  ((do eqGuard .neq t xo (.const .nilIface) v .nilIface;binOp .neq t v .nilIface:Sem Value)).run P w=.ok (.bool false) w:=by
 let ⟨_,d0,_,_,hu,_,_,_,_,hkd⟩:=hi.all
 rw[hk] at hkd
 obtain ⟨ms,rfl⟩:=hkd
 cases h with
 |sym _ _ h=>
 cases h
 refine run_cmp xo (.const .nilIface) rfl rfl (λop=>?_) (run_eq_nn P 9999 hu)
 unfold eqGuard
 cases op<;>cases xo<;>rfl
theorem run_eq_pq (P:Program) (d:Nat) {ty e:TypeId} (hu:P.underlying ty=some (.pointer e)) (a:Option Addr):(Op.equalIn (d+1) ty (.pointer a) (.pointer none)).run P w=.ok a.isNone w:=by
 simp only[Op.equalIn,Sem.run_bind,run_underlying' hu,Result.andThen_ok]
 cases a<;>rfl
theorem ptr_nil {P:Program} {t:TypeId} {i:TI} (hi:TIok P t i) (hk:i.kd=.ptr) {a:Option Addr} {v:Value} (hv:v=.pointer a) (xo:Operand) :
  ((do eqGuard .eql t xo (.const (.pointer none)) v (.pointer none);binOp .eql t v (.pointer none):Sem Value)).run P w=.ok (.bool a.isNone) w∧
  ((do eqGuard .neq t xo (.const (.pointer none)) v (.pointer none);binOp .neq t v (.pointer none):Sem Value)).run P w=.ok (.bool (!a.isNone)) w:=by
 subst hv
 let ⟨_,d0,_,_,hu,_,_,_,_,hkd⟩:=hi.all
 rw[hk] at hkd
 obtain ⟨e,rfl⟩:=hkd
 exact run_cmp xo (.const (.pointer none)) rfl rfl (λop=>by cases op<;>rfl) (run_eq_pq P 9999 hu a)
theorem opt_rel {n:Nat} {y:Option (S.A n)} {v:Value} (h:TRel g w (lowTy S (.opt n) y) v):∃a,v=.pointer a∧someB y=!a.isNone∧(someB y=true->∀z,TRel g w (.ept (enc S (.st n) (getO z y)) 0) v):=by
 cases h with
 |sym _ _ h=>
 cases y with
 |none=>cases h;exact ⟨none,rfl,rfl,λh=>by cases h⟩
 |some x=>
  cases h with
  |pt _ ad val hi hc hd=>exact ⟨some (ad.add 0),rfl,rfl,λ_ _=>.ept _ 0 ad val hi hc hd⟩
theorem sl_nil {P:Program} {t:TypeId} {i:TI} (hi:TIok P t i) {sz by_:Nat} {ag:Bool} {z:List D} (hk:i.kd=.slice sz ag by_ z) (a:Option Addr) (n m:Nat) (xo:Operand) :
  ((do eqGuard .eql t xo (.const (.slice none 0 0)) (.slice a n m) (.slice none 0 0);binOp .eql t (.slice a n m) (.slice none 0 0):Sem Value)).run P w=.ok (.bool a.isNone) w:=by
 let ⟨_,d0,_,_,hu,_,_,_,_,hkd⟩:=hi.all
 rw[hk] at hkd
 obtain ⟨el,j,d',zv,rfl,_⟩:=hkd
 refine (run_cmp xo (.const (.slice none 0 0)) rfl rfl (λop=>?_) (run_eq_sl P 9999 hu a n m)).1
 unfold eqGuard
 cases op<;>rfl
theorem sl_isE {s:StV S} (hs:SRel g (lowSt s) w) {e:Ty} {x:V S} {l:List (den S.A e)} (h:slV s e x=some l) {v:Value} (hv:TRel g w (low x) v):∃a n m,v=.slice a n m∧(a.isNone=true->isE l=true):=by
 unfold slV at h
 split at h
 .simp only[Option.some.injEq] at h
  subst h
  cases hv with
  |emp a=>exact ⟨a,0,0,rfl,λ_=>rfl⟩
 .rename_i t es
  obtain ⟨rfl,hh⟩:=castL_eq h
  cases hh
  cases hv with
  |clp n es' a hn hd=>
   refine ⟨a,_,_,rfl,λha=>?_⟩
   cases hd with
   |sl _ _ _ sz val hcap hsz hby hA hc=>
   cases es with
   |nil=>rfl
   |cons y es=>
    simp_all
 .let ⟨hte,hh⟩:=castL_eq h
  cases hte
  cases hh
  cases hv with
  |cln j d c a hj hd=>
   refine ⟨a,_,_,rfl,λha=>?_⟩
   grind[drel_sl]
 .rename_i t x'
  let ⟨hte,hh⟩:=castL_eq h
  subst hte
  cases hh
  cases hv with
  |sym _ _ hd=>
   cases hd with
   |sl _ a cap sz val hcap hsz hby hA hc=>
   refine ⟨a,_,_,rfl,λha=>?_⟩
   cases x' with
   |nil=>rfl
   |cons y es=>
    simp_all
 .rename_i o r
  have key:∀(fz:Bool) (t:Ty) (l0:List (den S.A t)) (era:Nat),s.ob.get o=some (if fz then .frz t l0 era else .arr t l0 era)->(bif Nat.beq r era then castL t e l0 else none)=some l->∃a n m,v=.slice a n m∧(a.isNone=true->isE l=true):=by
   intro fz t l0 era ho h
   rcases cond_some h with ⟨hb,h⟩|⟨_,h⟩
   .let ⟨hte,hh⟩:=castL_eq h
    subst hte
    cases hh
    have hre:=beq_iff'.1 hb
    subst hre
    cases hv with
    |sh _ _ len cap sz a hx=>
     have hlow:(lowSt s).ob.get o=some (arrOb fz (S.width t) (l0.map (enc S t)) r):=by
      rw[lowSt_get,ho]
      cases fz<;>rfl
     let ⟨hok,_⟩:=hs.arrNow hlow hx
     refine ⟨a,len,cap,rfl,λha=>?_⟩
     cases l0 with
     |nil=>rfl
     |cons y l0=>
      have h1:=hok.len
      have h2:=hok.cap
      have hc:(⟨a,len,cap,sz⟩:ASl).cap≠0:=by grind
      let ⟨b,vs,ty,h3,_⟩:=hok.mem hc
      simp_all
   .cases h
  split at h
  .simp_all
  .simp_all
  .cases h
 .cases h
theorem perm_lift {α β:Type} {f:α->β} {x m:List β} (h:x.Perm m):∀l:List α,l.map f=x->∃l':List α,l.Perm l'∧l'.map f=m:=by
 induction h with
 |nil=>exact λl h=>⟨l,.refl _,h⟩
 |cons a _ ih=>
  intro l h
  cases l with
  |nil=>cases h
  |cons b t=>
   simp only[List.map_cons,List.cons.injEq] at h
   obtain ⟨l',p,e⟩:=ih t h.2
   exact ⟨b ::l',p.cons b,by rw[List.map_cons,e,h.1]⟩
 |swap a b r=>
  intro l h
  match l,h with
  |p ::q ::t,h=>
   simp only[List.map_cons,List.cons.injEq] at h
   exact ⟨q ::p ::t,.swap _ _ _,by rw[List.map_cons,List.map_cons,h.1,h.2.1,h.2.2]⟩
 |trans _ _ ih1 ih2=>
  intro l h
  obtain ⟨l1,p1,e1⟩:=ih1 l h
  obtain ⟨l2,p2,e2⟩:=ih2 l1 e1
  exact ⟨l2,p1.trans p2,e2⟩
theorem mp_inv {I:Nat->Prop} {w:World} {d:D} {v:Value} (h:DRel I w d v):∀ks vs,d=.mp ks vs->∃(ks' vs':List D) (b:Nat) (ms:Array MapEntry) (n:Nat),v=.map (some b)∧w.heap[b]?=some (.map ms n)∧ks'.length=ms.size∧vs'.length=ms.size∧
  (∀(j:Nat) (c:D) (m:MapEntry),ks'[j]?=some c->ms[j]?=some m->DRel I w c m.key)∧(∀(j:Nat) (c:D) (m:MapEntry),vs'[j]?=some c->ms[j]?=some m->DRel I w c m.val)∧
  ((ks'=ks∧vs'=vs)∨(ks.Nodup∧(ks.zip vs).Perm (ks'.zip vs'))):=by
 induction h with
 |mp ks vs b ms n hi hb h1 h2 hk hv _ _=>
  intro ks1 vs1 e
  cases e
  exact ⟨ks,vs,b,ms,n,rfl,hb,h1,h2,hk,hv,.inl ⟨rfl,rfl⟩⟩
 |mpp ks vs ks' vs' b0 hp hl hl' hn _ ih=>
  intro ks1 vs1 e
  cases e
  obtain ⟨k2,v2,b,ms,n,e1,hb,h1,h2,hk,hv,hor⟩:=ih ks' vs' rfl
  refine ⟨k2,v2,b,ms,n,e1,hb,h1,h2,hk,hv,.inr ⟨hn,?_⟩⟩
  rcases hor with ⟨rfl,rfl⟩|⟨_,hp2⟩
  .exact hp
  .exact hp.trans hp2
 |_=>intro _ _ e;cases e
theorem keq_eq {kt:Ty} {d:TypeDesc} (hd:keyDesc kt d) {a b:den S.A kt} (h:keq kt a b=true):a=b:=by
 match kt,hd with
 | .int _,_=>simpa[keq,D.ieq] using h
 | .bool,_=>simpa[keq,D.beq] using h
 | .str,_=>simpa[keq,seqL] using h
theorem nodup_inj {α β:Type} {f:α->β}:∀{l:List α},(l.map f).Nodup->∀{p q:α},p∈l->q∈l->f p=f q->p=q
 |a ::t,h,p,q,hp,hq,e=>by
  rw[List.map_cons,List.nodup_cons] at h
  rcases List.mem_cons.1 hp with rfl|hp1
  .rcases List.mem_cons.1 hq with rfl|hq1
   .rfl
   .exact absurd (e▸List.mem_map_of_mem hq1) h.1
  .rcases List.mem_cons.1 hq with rfl|hq1
   .exact absurd (e▸List.mem_map_of_mem hp1) h.1
   .exact nodup_inj h.2 hp1 hq1 e
theorem lk_some {β:Type} {kt:Ty} {k:den S.A kt} {z:β}:∀{l:List (den S.A kt×β)},(∀p∈l,∀q∈l,keq kt k p.1=true->keq kt k q.1=true->p=q)->∀p∈l,keq kt k p.1=true->lkL kt z k l=p.2∧hasL kt k l=true
 |a ::t,hu,p,hp,hk=>by
  cases hb:keq kt k a.1 with
  |true=>
   have:=hu a List.mem_cons_self p hp hb hk
   subst this
   simp[lkL,hasL,hb]
  |false=>
   rcases List.mem_cons.1 hp with rfl|hp
   .rw[hb] at hk;cases hk
   .have:=lk_some (z:=z) (λp hp q hq=>hu p (List.mem_cons_of_mem _ hp) q (List.mem_cons_of_mem _ hq)) p hp hk
    simp[lkL,hasL,hb,this]
theorem lk_none {β:Type} {kt:Ty} {k:den S.A kt} {z:β}:∀{l:List (den S.A kt×β)},(∀p∈l,keq kt k p.1=false)->lkL kt z k l=z∧hasL kt k l=false
 |[],_=>⟨rfl,rfl⟩
 |a ::t,h=>by
  have h1:=h a List.mem_cons_self
  have:=lk_none (z:=z) (λp hp=>h p (List.mem_cons_of_mem _ hp))
  simp[lkL,hasL,h1,this]
theorem lk_perm {β:Type} {kt:Ty} {k:den S.A kt} {z:β} {l m:List (den S.A kt×β)} (hp:l.Perm m) (hu:∀p∈l,∀q∈l,keq kt k p.1=true->keq kt k q.1=true->p=q):lkL kt z k m=lkL kt z k l∧hasL kt k m=hasL kt k l:=by
 by_cases h:∃p∈l,keq kt k p.1=true
 .obtain ⟨p,hm,hk⟩:=h
  let ⟨a,b⟩:=lk_some (z:=z) hu p hm hk
  let ⟨c,d⟩:=lk_some (z:=z) (l:=m) (λp hp' q hq'=>hu p (hp.mem_iff.2 hp') q (hp.mem_iff.2 hq')) p (hp.mem_iff.1 hm) hk
  exact ⟨c.trans a.symm,d.trans b.symm⟩
 .have h0:∀p∈l,keq kt k p.1=false:=λp hm=>by
   cases hb:keq kt k p.1 with
   |false=>rfl
   |true=>exact absurd ⟨p,hm,hb⟩ h
  let ⟨a,b⟩:=lk_none (z:=z) h0
  let ⟨c,d⟩:=lk_none (z:=z) (l:=m) (λp hm=>h0 p (hp.mem_iff.2 hm))
  exact ⟨c.trans a.symm,d.trans b.symm⟩
theorem mp_typed {I:Nat->Prop} {w:World} {kt vt:Ty} {d:TypeDesc} (hkd:keyDesc kt d) {z:den S.A vt} (k:den S.A kt) {l:List (den S.A kt×den S.A vt)} {v:Value} (h:DRel I w (enc S (.mp kt vt) l) v) :
  ∃(l2:List (den S.A kt×den S.A vt)) (b:Nat) (ms:Array MapEntry) (n:Nat),v=.map (some b)∧w.heap[b]?=some (.map ms n)∧l2.length=ms.size∧
   (∀(j:Nat) p q,l2[j]?=some p->ms[j]?=some q->DRel I w (enc S kt p.1) q.key∧DRel I w (enc S vt p.2) q.val)∧lkL kt z k l2=lkL kt z k l∧hasL kt k l2=hasL kt k l:=by
 have e:enc S (.mp kt vt) l=.mp (l.map λp=>enc S kt p.1) (l.map λp=>enc S vt p.2):=by rw[enc]
 obtain ⟨ks,vs,b,ms,n,rfl,hb,h1,h2,hk,hv,hor⟩:=mp_inv h _ _ e
 rcases hor with ⟨rfl,rfl⟩|⟨hn,hp⟩
 .refine ⟨l,b,ms,n,rfl,hb,by simpa using h1,λj p q e1 e2=>⟨hk j _ q (by simp[e1]) e2,hv j _ q (by simp[e1]) e2⟩,rfl,rfl⟩
 .rw[List.zip_map'] at hp
  obtain ⟨l2,p2,e2⟩:=perm_lift hp l rfl
  have hu:∀p∈l,∀q∈l,keq kt k p.1=true->keq kt k q.1=true->p=q:=λp hp q hq h1 h2=>nodup_inj hn hp hq (by show enc S kt p.1=enc S kt q.1;rw[<-keq_eq hkd h1,<-keq_eq hkd h2])
  refine ⟨l2,b,ms,n,rfl,hb,?_,λj p q e1 e3=>?_,lk_perm p2 hu⟩
  .have:=congrArg List.length e2
   simp only[List.length_map,List.length_zip] at this
   omega
  .have:=congrArg (λx=>x[j]?) e2
   simp only[List.getElem?_map,e1,Option.map_some] at this
   have:=List.getElem?_zip_eq_some.1 this.symm
   exact ⟨hk j _ q this.1 e3,hv j _ q this.2 e3⟩
theorem mapUp_aft {E:EnvT} (hX:XOk S E) (hS:SgOk S) {fr:FrV S} {s s':StV S} {a:Act} (hf:FRel g (lowFr fr) a w) (hs:SRel g (lowSt s) w) (o:Oper) {ty:TypeId} {x ix y:Operand} (hop:o.op=.mapUpdate ty x ix y∨o.op=.insert ty x ix y) {c:Bool} {t:V S}
  (h:(match E.mt ty,opdV fr x,opdV fr ix,opdV fr y with
  |some m,some (.mp o),some k,some y=>match keyV m.kt k,s.ob.get o with
   |some k,some (.map kt vt l)=>match castM kt vt m.kt vt l,toTy s vt y with
    |some l,some (y,os)=>match freezeV s os with
     |some s1=>bif Nat.ble s.fl o&&tyIs m.vt vt then some (true,(unitV:V S),{s1 with ob:=s1.ob.set fuelTr o (.map m.kt vt (insL m.kt k y l)),wr:=o ::s1.wr}) else none
     |none=>none
    |_,_=>none
   |some k,some (.mpv kt l)=>match castK kt m.kt l with
    |some l=>bif Nat.ble s.fl o then some (true,unitV,{s with ob:=s.ob.set fuelTr o (.mpv m.kt (insL m.kt k y l)),wr:=o ::s.wr}) else none
    |none=>none
   |_,_=>none
  |_,_,_,_=>none)=some (c,t,s')) :
  ∃v w' g',((execOp a.eval o).run E.E.P w=.ok (.value v) w'∨((execOp a.eval o).run E.E.P w=.ok .skip w'∧v=undef))∧TRel g' w' (low t) v∧AftV [] s g w s' g' w':=by
 split at h
 rotate_left
 .cases h
 rename_i m oid kv yv hm hx hk hy
 let ⟨kid,d,ht,hu,hkd,_,_⟩:=hX.mt _ _ hm
 let ⟨b,hxe,hb⟩:=TRel.inv_mp (opdV_rel hf hx)
 have hrunop:∀w',(Instr.mapUpdate ty (a.eval x) (a.eval ix) (a.eval y)).run E.E.P w=.ok () w'->(execOp a.eval o).run E.E.P w=.ok .skip w':=by
  intro w' hr
  rcases hop with hop|hop<;>simp[execOp,hop,hr]
 split at h
 .rename_i k kt vt l hkey hob
  have hke:=keyV_sound hkey (opdV_rel hf hk)
  split at h
  rotate_left
  .cases h
  rename_i l' y' os hcm hty
  obtain ⟨rfl,_,hll⟩:=castM_eq hcm
  cases hll
  split at h
  rotate_left
  .cases h
  rename_i s1 hfz
  rcases cond_some h with ⟨hcd,h9⟩|⟨_,h9⟩
  rotate_left
  .cases h9
  clear h
  obtain ⟨_,rfl,rfl⟩:=h9
  rw[Bool.and_eq_true] at hcd
  have hfl:s.fl<=oid:=Nat.le_of_ble_eq_true hcd.1
  let ⟨p,hp,hpp⟩:=toTy_low hS s vt yv hty
  let ⟨hlive,hd⟩:=toD_sound hs _ hp hpp (opdV_rel hf hy)
  let ⟨g1,hs1,he1,hfr⟩:=freeze_sound os hs (freezeV_low hS _ hfz) hlive
  have hyd:=hd g1 _ hs1 he1 hfr
  let ⟨f1,f2,f3,f4,f5,f6,f7⟩:=freezeV_st hfz
  have hno:oid∉os:=λhmem=>by
   have:=(hlive oid hmem).isArr (by rw[lowSt_get,hob];rfl)
   cases this
  have hob1:(lowSt s1).ob.get oid=some (lowOb (.map m.kt vt l')):=by rw[lowSt_get,f6 oid hno,hob];rfl
  have hb1:g1.blk oid=some b:=he1.blk _ _ hb
  let ⟨x0,hh,hor⟩:=(hs1.box oid b hb1).2.2 _ hob1
  obtain ⟨ms,cl,rfl,hmr⟩:=ObRel.toMap hkd (f:=lowTy S vt) hor
  let ⟨ms',c',hrun,hmr'⟩:=run_mapUpdate (P:=E.E.P) hkd ht hu k hh hmr (x:=y') (ty_rel hyd)
  have hlt:=(hs1.box oid b hb1).2.1
  let ⟨q1,q2,q3⟩:=set_blk (.map ms' c') hlt
  let ⟨hs2,he2⟩:=hs1.setObj hb1 hob1 rfl (by show s1.fl<=oid;omega) (ob':=lowOb (.map m.kt vt (insL m.kt k y' l'))) (MapR.ob hkd (f:=lowTy S vt) hmr' c' _) q1 q2 q3 rfl rfl
  have hlog:LogV s {s1 with ob:=s1.ob.set fuelTr oid (.map m.kt vt (insL m.kt k y' l')),wr:=oid ::s1.wr}:=(freezeV_log hfz).trans' (Nat.le_of_eq f3.symm) (set_log _ _ _)
  refine ⟨undef,_,g1,.inr ⟨hrunop _ (by rw[hxe,hke];exact hrun),rfl⟩,.sym _ _ (.lit _),AftV.ofExt hs (by rw[lowSt_set];exact hs2) (he1.trans (by grind[lowSt])) f1 f2 (Nat.le_of_eq f3.symm) hlog⟩
 .rename_i k kt l hkey hob
  have hke:=keyV_sound hkey (opdV_rel hf hk)
  split at h
  rotate_left
  .cases h
  rename_i l' hck
  obtain ⟨rfl,hll⟩:=castK_eq hck
  cases hll
  rcases cond_some h with ⟨hcd,h9⟩|⟨_,h9⟩
  rotate_left
  .cases h9
  clear h
  obtain ⟨_,rfl,rfl⟩:=h9
  have hob1:(lowSt s).ob.get oid=some (lowOb (.mpv m.kt l')):=by rw[lowSt_get,hob];rfl
  let ⟨x0,hh,hor⟩:=(hs.box oid b hb).2.2 _ hob1
  obtain ⟨ms,cl,rfl,hmr⟩:=ObRel.toMap hkd (f:=low) hor
  let ⟨ms',c',hrun,hmr'⟩:=run_mapUpdate (P:=E.E.P) hkd ht hu k hh hmr (x:=yv) (opdV_rel hf hy)
  let ⟨q1,q2,q3⟩:=set_blk (.map ms' c') (hs.box oid b hb).2.1
  let ⟨hs2,he2⟩:=hs.setObj hb hob1 rfl (Nat.le_of_ble_eq_true hcd) (ob':=lowOb (.mpv m.kt (insL m.kt k yv l'))) (MapR.ob hkd (f:=low) hmr' c' _) q1 q2 q3 rfl rfl
  exact ⟨undef,_,g,.inr ⟨hrunop _ (by simp_all),rfl⟩,.sym _ _ (.lit _),AftV.ofExt hs (by rw[lowSt_set];exact hs2) he2 rfl rfl (Nat.le_refl _) (set_log _ _ _)⟩
 .cases h
theorem opX_aft {E:EnvT} (hS:SgOk S) (hT:TabOk E.E) (hTy:TyOk S E) (hX:XOk S E) {fr:FrV S} {s s':StV S} {a:Act} (hf:FRel g (lowFr fr) a w) (hs:SRel g (lowSt s) w) (o:Oper) {c:Bool} {t:V S} (h:opX E fr s o.op=some (c,t,s')) (hc:c=true) :
  ∃v w' g',((execOp a.eval o).run E.E.P w=.ok (.value v) w'∨((execOp a.eval o).run E.E.P w=.ok .skip w'∧v=undef))∧TRel g' w' (low t) v∧AftV [] s g w s' g' w':=by
 unfold opX at h
 split at h
 ·
  rename_i ty r hop
  rcases cond_some h with ⟨hb,h9⟩|⟨_,h9⟩
  rotate_left
  .cases h9
  clear h
  rw[Bool.and_eq_true] at hb
  have hn:s.nob<bigN:=Nat.le_of_ble_eq_true hb.1
  split at h9
  rotate_left
  .cases h9
  rename_i m hm
  let ⟨kid,d,ht,hu,hkd,_,_⟩:=hX.mt _ _ hm
  have hr:∀v,r.map a.eval=some v->∃k n,v=.int k n:=by
   intro v hv
   cases r with
   |none=>cases hv
   |some x=>
    simp at hv
    subst hv
    have hh:=hb.2
    simp[hintV] at hh
    split at hh
    .rename_i k n hx
     exact ⟨_,_,(opdV_rel hf hx).inv_kn⟩
    .rename_i k n hx
     exact ⟨_,_,TRel.inv_lit (opdV_rel hf hx)⟩
    .cases hh
  have fin:∀ob:ObV S,lowOb ob=.map []->(true,(.mp s.nob:V S),newObV s ob)=(c,t,s')->
    ∃v w' g',((execOp a.eval o).run E.E.P w=.ok (.value v) w'∨((execOp a.eval o).run E.E.P w=.ok .skip w'∧v=undef))∧TRel g' w' (low t) v∧AftV [] s g w s' g' w':=λob hob he=>by
   obtain ⟨_,rfl,rfl⟩:=he
   let ⟨v,w',g',h1,h2,h3⟩:=makeMap_does (P:=E.E.P) hs hn ht hr hob
   exact ⟨v,w',g',.inl (by simp[execOp,hop,h1]),h2,h3⟩
  split at h9
  .exact fin _ rfl (Option.some.inj h9)
  .exact fin _ rfl (Option.some.inj h9)
 ·
  rename_i ty x ix ok hop
  split at h
  rotate_left
  .cases h
  rename_i m xv kv hm hx hk
  split at h
  rotate_left
  .cases h
  rename_i vt hvt
  split at h
  rotate_left
  .cases h
  rename_i k l hkey hmap
  obtain ⟨_,rfl,rfl⟩:=h
  let ⟨kid,d,ht,hu,hkd,⟨xi,z,hxi,hz⟩,hvv⟩:=hX.mt _ _ hm
  let ⟨hety,i,hti⟩:=hvv vt hvt
  have hke:=keyV_sound hkey (opdV_rel hf hk)
  have hxr:=opdV_rel hf hx
  have hzr:TRel g w (lowTy S vt (S.zero vt)) z:=ty_rel (zero_drel hS (hT.ti _ _ hti) (hTy.row _ _ _ hti hety) (hX.zr _ _ _ hti hety) hxi hz)
  have fin:∀(u:Value) (b:Bool),(Instr.lookup ty (a.eval x) (a.eval ix) ok).run E.E.P w=.ok (if ok then .tuple #[u,.bool b] else u) w->TRel g w (lowTy S vt (lkL m.kt (S.zero vt) k l)) u->b=hasL m.kt k l->
    ∃v w' g',((execOp a.eval o).run E.E.P w=.ok (.value v) w'∨((execOp a.eval o).run E.E.P w=.ok .skip w'∧v=undef))∧
     TRel g' w' (low (bif ok then .tup [.ty vt (lkL m.kt (S.zero vt) k l),.ty .bool (hasL m.kt k l)] else .ty vt (lkL m.kt (S.zero vt) k l):V S)) v∧AftV [] s g w s g' w':=by
   intro u b hrun hu hbb
   refine ⟨_,w,g,.inl (by simp only[execOp,hop,Sem.run_bind,hrun,Result.andThen_ok,Sem.run_pure];rfl),?_,AftV.refl hs⟩
   cases ok with
   |false=>exact hu
   |true=>
    subst hbb
    refine .tup _ _ rfl λj t' v' h1 h2=>?_
    match j with
    |0=>simp[lows] at h1 h2;subst h1;subst h2;exact hu
    |1=>simp[lows] at h1 h2;subst h1;subst h2;exact .sym _ _ (.lit _)
    |j+2=>simp[lows] at h1
  unfold mapV at hmap
  split at hmap
  .rename_i oid
   split at hmap
   .rename_i kt' vt' l' hob
    obtain ⟨rfl,rfl,hll⟩:=castM_eq hmap
    cases hll
    let ⟨b,hxe,hb⟩:=TRel.inv_mp hxr
    obtain ⟨x0,hh,hor⟩:=(hs.box oid b hb).2.2 _ (by rw[lowSt_get,hob];rfl)
    obtain ⟨ms,cl,rfl,hmr⟩:=ObRel.toMap hkd (f:=lowTy S vt') hor
    have hlk:=run_lookup (P:=E.E.P) hkd ht hu hxi hz k hh hmr.1 (λj p q h1 h2=>(hmr.2 j p q h1 h2).1) ok
    let ⟨r1,r2⟩:=lookup_rel (f:=lowTy S vt') (k:=k) hmr hzr
    refine fin _ _ ?_ r1 r2
    rw[hke,hxe,hlk]
    cases hq:(ixL m.kt k l').bind λj=>(ms[j]?).map (·.val) with
    |none=>simp
    |some v=>simp
   .cases hmap
  .simp only[Option.some.injEq] at hmap
   subst hmap
   refine fin z false ?_ hzr rfl
   rw[hke,TRel.inv_lit hxr]
   exact run_lookup_nil hkd ht hu hxi hz k ok
  .rename_i kt' vt' l'
   obtain ⟨rfl,rfl,hll⟩:=castM_eq hmap
   cases hll
   cases hxr':a.eval x with
   |map mb=>
    rw[hxr'] at hxr
    cases hxr with
    |sym _ _ hd=>
    obtain ⟨l2,b,ms,cl,hv,hh,h1,hk1,hlk2,hha2⟩:=mp_typed hkd (z:=S.zero vt') k hd
    cases hv
    have hmr:MapR m.kt (λy v=>TRel g w (lowTy S vt' y) v) l2 ms:=⟨h1,λj p q e1 e2=>⟨key_low hkd (ty_rel (hk1 j p q e1 e2).1),ty_rel (hk1 j p q e1 e2).2⟩⟩
    have hlk:=run_lookup (P:=E.E.P) hkd ht hu hxi hz k hh hmr.1 (λj p q h1 h2=>(hmr.2 j p q h1 h2).1) ok
    let ⟨r1,r2⟩:=lookup_rel (f:=lowTy S vt') (k:=k) hmr hzr
    rw[hlk2] at r1
    rw[hha2] at r2
    refine fin _ _ ?_ r1 r2
    rw[hke,hxr',hlk]
    cases hq:(ixL m.kt k l2).bind λj=>(ms[j]?).map (·.val) with
    |none=>simp
    |some v=>simp
   |_=>
    rw[hxr'] at hxr
    cases hxr with
    |sym _ _ hd=>cases hd
  .cases hmap
 .exact mapUp_aft hX hS hf hs o (.inl ‹_›) h
 .exact mapUp_aft hX hS hf hs o (.inr ‹_›) h
 ·
  rename_i ty n cp hop
  split at h
  rotate_left
  .cases h
  rename_i i e nv cv hi he hn hcv
  split at h
  rotate_left
  .cases h
  rename_i n1 c1 hkd hn1 hc1
  rcases cond_some h with ⟨hb,h9⟩|⟨_,h9⟩
  rotate_left
  .cases h9
  obtain ⟨rfl,rfl,rfl⟩:=h9
  rw[Bool.and_eq_true] at hc
  have hcn:c1=n1:=by simpa[eqI] using hc.2
  subst hcn
  let ⟨p,hp,hpp⟩:=intV_low hn1
  let ⟨q,hq,hqq⟩:=intV_low hc1
  have e1:=intT_sound hp hpp (opdV_rel hf hn)
  have e2:=intT_sound hq hqq (opdV_rel hf hcv)
  let ⟨v,w',g',h1,h2,h3⟩:=makeSlice_does (P:=E.E.P) hS hs (Nat.le_of_ble_eq_true hb) (hT.ti _ _ hi) (hTy.row _ _ _ hi he) hc.1 .i64 .i64
  exact ⟨v,w',g',.inl (by simp[execOp,hop,e1,e2,h1]),h2,h3⟩
 ·
  rename_i ty x hop
  split at h
  rotate_left
  .cases h
  rename_i i xv hi hx
  split at h
  rotate_left
  .cases h
  rename_i b hkd hb
  rcases cond_some h with ⟨hn,h9⟩|⟨_,h9⟩
  rotate_left
  .cases h9
  obtain ⟨_,rfl,rfl⟩:=h9
  let ⟨p,hp,hpp⟩:=strV_low hb
  have e1:=strT_sound hp hpp (opdV_rel hf hx)
  let ⟨_,d0,_,_,hu,_,_,_,_,hk⟩:=(hT.ti _ _ hi).all
  rw[hkd] at hk
  cases hk
  let ⟨v,w',g',h1,h2,h3⟩:=range_does (P:=E.E.P) hs (Nat.le_of_ble_eq_true hn) hu b
  exact ⟨v,w',g',.inl (by simp[execOp,hop,e1,h1]),h2,h3⟩
 ·
  rename_i ty x u hop
  split at h
  rotate_left
  .rename_i i hi hx
   split at h
   rotate_left
   .cases h
   rename_i hkd
   obtain ⟨_,rfl,rfl⟩:=h
   have:=(nil_nil (w:=w) (hT.ti _ _ hi) hkd (opdV_rel hf hx) x).1
   exact ⟨_,w,g,.inl (by simp only[execOp,hop,Sem.run_bind] at this ⊢;simp only[Act.eval] at this ⊢;rw[this];rfl),.kb true,AftV.refl hs⟩
  .cases h
  rename_i i n y hi hx
  split at h
  rotate_left
  .cases h
  rename_i hkd
  obtain ⟨_,rfl,rfl⟩:=h
  have:=(ifc_nil (S:=S) hS (hT.ti _ _ hi) hkd (opdV_rel hf hx) x).1
  exact ⟨_,w,g,.inl (by simp only[execOp,hop,Sem.run_bind] at this ⊢;simp only[Act.eval] at this ⊢;rw[this];rfl),.sym _ _ (.lit _),AftV.refl hs⟩
 ·
  rename_i ty x u hop
  split at h
  rotate_left
  .rename_i i hi hx
   split at h
   rotate_left
   .cases h
   rename_i hkd
   obtain ⟨_,rfl,rfl⟩:=h
   have:=(nil_nil (w:=w) (hT.ti _ _ hi) hkd (opdV_rel hf hx) x).2
   exact ⟨_,w,g,.inl (by simp only[execOp,hop,Sem.run_bind] at this ⊢;simp only[Act.eval] at this ⊢;rw[this];rfl),.kb false,AftV.refl hs⟩
  .cases h
  rename_i i n y hi hx
  split at h
  rotate_left
  .cases h
  rename_i hkd
  obtain ⟨_,rfl,rfl⟩:=h
  have:=(ifc_nil (S:=S) hS (hT.ti _ _ hi) hkd (opdV_rel hf hx) x).2
  exact ⟨_,w,g,.inl (by simp only[execOp,hop,Sem.run_bind] at this ⊢;simp only[Act.eval] at this ⊢;rw[this];rfl),.sym _ _ (.lit _),AftV.refl hs⟩
 ·
  rename_i ty x u hop
  split at h
  rotate_left
  .cases h
  rename_i i e xv hi he hx
  split at h
  rotate_left
  .cases h
  rename_i l hkd hl
  obtain ⟨_,rfl,rfl⟩:=h
  let ⟨ad,n,m,hv,hE⟩:=sl_isE hs hl (opdV_rel hf hx)
  have:=sl_nil (w:=w) (hT.ti _ _ hi) hkd ad n m x
  exact ⟨_,w,g,.inl (by rw[<-hv] at this;simp only[execOp,hop,Sem.run_bind] at this ⊢;simp only[Act.eval] at this ⊢;rw[this];rfl),.ub _ _ hE,AftV.refl hs⟩
 ·
  rename_i x hop
  split at h
  rotate_left
  .rename_i n y hx
   obtain ⟨rfl,rfl,rfl⟩:=h
   let ⟨p,hv,hs1,hr⟩:=opt_rel (S:=S) (show TRel g w (lowTy S (.opt n) y) (a.eval x) from opdV_rel hf hx)
   have hne:p.isNone=false:=by rw[hc] at hs1;simpa using hs1
   refine ⟨_,w,g,.inl ?_,hr hc (S.dfl n),AftV.refl hs⟩
   cases p with
   |none=>cases hne
   |some q=>simp[execOp,hop,hv]
  .cases h
  rename_i n y hx
  obtain ⟨rfl,rfl,rfl⟩:=h
  have hr:=opdV_rel hf hx
  rw[encI_nilB] at hc
  rcases ifc_rel hS (show TRel g w (lowTy S (.ifc n) y) (a.eval x) from hr) with ⟨he,_⟩|⟨t',d,u,he,hv,_⟩
  .rw[he] at hc;cases hc
  .exact ⟨_,w,g,.inl (by simp[execOp,hop,hv]),hv▸hr,AftV.refl hs⟩
 ·
  rename_i ty x u hop
  split at h
  rotate_left
  .rename_i i hi hx
   split at h
   rotate_left
   .cases h
   rename_i hkd
   obtain ⟨_,rfl,rfl⟩:=h
   have:=(ptr_nil (w:=w) (hT.ti _ _ hi) hkd (TRel.inv_lit (opdV_rel hf hx)) x).1
   exact ⟨_,w,g,.inl (by simp only[execOp,hop,Sem.run_bind] at this ⊢;simp only[Act.eval] at this ⊢;rw[this];rfl),.kb true,AftV.refl hs⟩
  .cases h
  rename_i i n y hi hx
  split at h
  rotate_left
  .cases h
  rename_i hkd
  obtain ⟨_,rfl,rfl⟩:=h
  let ⟨p,hv,hs1,_⟩:=opt_rel (S:=S) (show TRel g w (lowTy S (.opt n) y) (a.eval x) from opdV_rel hf hx)
  have:=(ptr_nil (w:=w) (hT.ti _ _ hi) hkd hv x).1
  exact ⟨_,w,g,.inl (by simp only[execOp,hop,Sem.run_bind] at this ⊢;simp only[Act.eval] at this ⊢;rw[this];rfl),by rw[hs1];cases p<;>exact .sym _ _ (.lit _),AftV.refl hs⟩
 ·
  rename_i ty x u hop
  split at h
  rotate_left
  .rename_i i hi hx
   split at h
   rotate_left
   .cases h
   rename_i hkd
   obtain ⟨_,rfl,rfl⟩:=h
   have:=(ptr_nil (w:=w) (hT.ti _ _ hi) hkd (TRel.inv_lit (opdV_rel hf hx)) x).2
   exact ⟨_,w,g,.inl (by simp only[execOp,hop,Sem.run_bind] at this ⊢;simp only[Act.eval] at this ⊢;rw[this];rfl),.kb false,AftV.refl hs⟩
  .cases h
  rename_i i n y hi hx
  split at h
  rotate_left
  .cases h
  rename_i hkd
  obtain ⟨_,rfl,rfl⟩:=h
  let ⟨p,hv,hs1,_⟩:=opt_rel (S:=S) (show TRel g w (lowTy S (.opt n) y) (a.eval x) from opdV_rel hf hx)
  have:=(ptr_nil (w:=w) (hT.ti _ _ hi) hkd hv x).2
  exact ⟨_,w,g,.inl (by simp only[execOp,hop,Sem.run_bind] at this ⊢;simp only[Act.eval] at this ⊢;rw[this];rfl),by rw[hs1];exact .sym _ _ (.lit _),AftV.refl hs⟩
 ·
  rename_i x xt ty ok hop
  split at h
  rotate_left
  .cases h
  rename_i i τ n y hi he hx
  let ⟨xi,d1,z,hxi,hu1,_,hag,hzx,hzok,hk1⟩:=(hT.ti _ _ hi).all
  have hni:i.kd≠.iface->∀ms,d1≠.interface ms:=λhk ms hd=>hk ((hT.ti _ _ hi).nif ms (by rw[hu1,hd]))
  have hr:=ifc_rel hS (show TRel g w (lowTy S (.ifc n) y) (a.eval x) from opdV_rel hf hx)
  have hzr:TRel g w (lowTy S τ (S.zero τ)) z:=ty_rel (zero_drel hS (hT.ti _ _ hi) (hTy.row _ _ _ hi he) (hX.zr _ _ _ hi he) hxi hzx)
  have hno:i.kd≠.iface->(∀d,encI S (S.alts n) (S.iget n y)≠some (ty,d))->(Instr.typeAssert (a.eval x) xt ty true).run E.E.P w=.ok (.tuple #[z,.bool false]) w:=by
   intro hk hne
   rcases hr with ⟨_,hv⟩|⟨t',d,u,he',hv,_⟩
   .rw[hv]
    simp only[Instr.typeAssert,Sem.run_bind,run_underlying' hu1,Result.andThen_ok]
    cases d1 with
    |interface ms=>exact absurd rfl (hni hk ms)
    |_=>simp[run_zeroValue' hxi hzx]
   .have hne':t'≠ty:=λe=>hne d (e▸he')
    rw[hv]
    simp only[Instr.typeAssert,Sem.run_bind,run_underlying' hu1,Result.andThen_ok]
    cases d1 with
    |interface ms=>exact absurd rfl (hni hk ms)
    |_=>simp[hne',run_zeroValue' hxi hzx]
  split at h
  .cases h
  .rename_i j hj hk
   rcases cond_some h with ⟨hb,h9⟩|⟨_,h9⟩
   rotate_left
   .cases h9
   clear h
   have hte:=tyEq_eq hb
   have hk':i.kd≠.iface:=λe=>hk e
   rcases encI_alt (S.alts n) ty j (S.iget n y) S.zero (hS.alts n) hj with ⟨h1,h2⟩|⟨h1,h2,h3⟩
   ·
    rcases hr with ⟨he',_⟩|⟨t',d,u,he',hv,hd⟩
    .rw[he'] at h2;cases h2
    rw[he'] at h2
    simp at h2
    obtain ⟨rfl,rfl⟩:=h2
    have hrun:∀ok,(Instr.typeAssert (a.eval x) xt t' ok).run E.E.P w=.ok (if ok then .tuple #[u,.bool true] else u) w:=by
     intro ok
     rw[hv]
     simp only[Instr.typeAssert,Sem.run_bind,run_underlying' hu1,Result.andThen_ok]
     cases d1 with
     |interface ms=>exact absurd rfl (hni hk' ms)
     |_=>simp
    rcases cond_some h9 with ⟨hok,h9⟩|⟨hok,h9⟩
    .simp only[Option.some.injEq,Prod.mk.injEq] at h9
     obtain ⟨_,rfl,rfl⟩:=h9
     subst hok
     refine ⟨_,w,g,.inl (by simp only[execOp,hop,Sem.run_bind,hrun,Result.andThen_ok,Sem.run_pure];rfl),.tup _ _ rfl λq t v k1 k2=>?_,AftV.refl hs⟩
     match q with
     |0=>simp[lows] at k1 k2;subst k1;subst k2;exact ty_rel hd
     |1=>simp[lows] at k1 k2;subst k1;subst k2;rw[h1];exact .sym _ _ (.lit _)
     |q+2=>simp[lows] at k1
    .obtain ⟨_,rfl,rfl⟩:=h9
     subst hok
     exact ⟨_,w,g,.inl (by simp only[execOp,hop,Sem.run_bind,hrun,Result.andThen_ok,Sem.run_pure];rfl),ty_rel hd,AftV.refl hs⟩
   ·
    rcases cond_some h9 with ⟨hok,h9⟩|⟨hok,h9⟩
    .simp only[Option.some.injEq,Prod.mk.injEq] at h9
     obtain ⟨_,rfl,rfl⟩:=h9
     subst hok
     refine ⟨_,w,g,.inl (by simp only[execOp,hop,Sem.run_bind,hno hk' h3,Result.andThen_ok,Sem.run_pure];rfl),.tup _ _ rfl λq t v k1 k2=>?_,AftV.refl hs⟩
     match q with
     |0=>
      simp[lows] at k1 k2
      subst k1
      subst k2
      rw[h2]
      subst hte
      exact hzr
     |1=>simp[lows] at k1 k2;subst k1;subst k2;rw[h1];exact .sym _ _ (.lit _)
     |q+2=>simp[lows] at k1
    .obtain ⟨rfl,_⟩:=h9
     rw[h1] at hc
     cases hc
  .rename_i hj hk
   have hk':i.kd≠.iface:=λe=>hk e
   rcases cond_some h with ⟨hok,h9⟩|⟨hok,h9⟩
   rotate_left
   .cases h9
   simp only[Option.some.injEq,Prod.mk.injEq] at h9
   obtain ⟨_,rfl,rfl⟩:=h9
   subst hok
   refine ⟨_,w,g,.inl (by simp only[execOp,hop,Sem.run_bind,hno hk' (λd=>encI_alt.encI_none _ _ _ hj d),Result.andThen_ok,Sem.run_pure];rfl),.tup _ _ rfl λq t v k1 k2=>?_,AftV.refl hs⟩
   match q with
   |0=>simp[lows] at k1 k2;subst k1;subst k2;exact hzr
   |1=>simp[lows] at k1 k2;subst k1;subst k2;exact .kb _
   |q+2=>simp[lows] at k1
 ·
  rename_i ty ps hop
  split at h
  rotate_left
  .cases h
  rename_i i pv hi hps
  split at h
  rotate_left
  .cases h
  rename_i len sz ag hkd
  simp only[Option.map_eq_some_iff,Prod.mk.injEq] at h
  obtain ⟨cs,hcs,_,rfl,rfl⟩:=h
  let ⟨p,hfl,hp⟩:=fillV_low hS hcs
  rw[zeros_low] at hfl
  let ⟨xi,d1,z,hxi,hu1,_,hag,hzx,hzok,hk1⟩:=(hT.ti _ _ hi).all
  rw[hkd] at hk1
  obtain ⟨el,j,d',rfl,hj,hjs,hju,_⟩:=hk1
  have hzr:=zero_rel (g:=g) (w:=w) hzok
  obtain ⟨rs,h1,h2⟩:=fillT_sound (g:=g) (w:=w) (pl:=λk=>some (k*sz,sz)) (λk off ti hpl=>by
   obtain ⟨rfl,rfl⟩:=hpl
   rfl) _ _ hfl hp (partsT_sound hf (partsV_low hps)) ⟨by simpa using hzr.1,λj t v h1 h2=>hzr.2 j t v h1 (by simpa using h2)⟩
  refine ⟨.agg rs,w,g,.inl ?_,.agg _ _ (by simpa using h2.1) (λj t v h3 h4=>h2.2 j t v h3 (by simpa using h4)),AftV.refl hs⟩
  have hfold:Instr.fill (λi=>some (i*sz,sz)) z.cells (ps.map λ(i,x)=>(i,a.eval x)).toList=some rs:=by simpa using h1
  simp only[execOp,hop,Instr.build,Sem.run_bind,run_zeroValue' hxi hzx,run_underlying' hu1,run_sizeOf' hj,hjs,Result.andThen_ok,Sem.run_pure,hfold]
 ·
  rename_i ty len ps hop
  split at h
  rotate_left
  .cases h
  rename_i i pv hi _ hps
  split at h
  rotate_left
  .cases h
  rename_i sz ag bt zz hkd
  rcases cond_some h with ⟨hb,h9⟩|⟨_,h9⟩
  rotate_left
  .cases h9
  clear h
  split at h9
  rotate_left
  .cases h9
  rename_i cs hcs
  obtain ⟨_,rfl,rfl⟩:=h9
  simp only[Bool.and_eq_true,Bool.not_eq_true'] at hb
  obtain ⟨b1,b2,b3,b4,b5,b6⟩:=hb
  have hsz:=beq_iff'.1 b1
  subst hsz
  subst b2
  have hn:s.nob<bigN:=Nat.le_of_ble_eq_true b4
  have hl0:0<len:=Nat.le_of_ble_eq_true b5
  have hle:=Nat.le_of_ble_eq_true b6
  let ⟨p,hfl,hp⟩:=fillV_low hS hcs
  let ⟨xi,d1,z,hxi,hu1,_,hag,hzx,hzok,hk1⟩:=(hT.ti _ _ hi).all
  rw[hkd] at hk1
  obtain ⟨el,j,d',zv,rfl,hj,hjs,hju,hag',hjz,hjzok,_,_,_,_,_,hzl⟩:=hk1
  obtain ⟨d0,rfl⟩:∃d0,zz=[d0]:=by
   match zz,hzl with
   |[d0],_=>exact ⟨d0,rfl⟩
  have hcsz:zv.cells.size=1:=hjzok.1.symm
  obtain ⟨v0,hv0⟩:∃v0,zv.cells[0]?=some v0:=⟨zv.cells[0],by simp[hcsz]⟩
  have hz0:TRel g w (ofZero d0) v0:=(zero_rel hjzok).2 0 _ _ rfl hv0
  have hlows:lows (List.replicate len (zeroV (S:=S) ([d0].getD 0 default)))=List.replicate len (ofZero d0):=by
   rw[lows_map,List.map_replicate,zeroV_low]
   rfl
  rw[hlows] at hfl
  have hcells:(Array.range (len*1)).map (zv.cells[·%zv.cells.size]!)=Array.replicate len v0:=by
   obtain ⟨_,e⟩:=Array.getElem?_eq_some_iff.1 hv0
   apply Array.ext
   .simp
   .intro q h1 h2
    simp[hcsz,Nat.mod_one,e]
  obtain ⟨rs,h1,h2⟩:=fillT_sound (g:=g) (w:=w) (pl:=λk=>some (k*1,1)) (λk off ti hpl=>by
   obtain ⟨rfl,rfl⟩:=hpl
   rfl) _ _ hfl hp (partsT_sound hf (partsV_low hps)) (cs:=Array.replicate len v0) ⟨by simp,λq t v h1 h2=>by
    simp[List.getElem?_replicate] at h1 h2
    obtain ⟨_,rfl⟩:=h1
    obtain ⟨_,rfl⟩:=h2
    exact hz0⟩
  let ⟨hs',he⟩:=hs.newBox (cs:=lows cs) (vs:=rs) hn el (by simpa using h2.1) (λq t v h3 h4=>h2.2 q t v h3 (by simpa using h4))
  refine ⟨.slice (some ⟨w.heap.size,0,none⟩) len len,_,_,.inl ?_,.slb _ _ _ (by simp[Gh.newBox,lowSt]),AftV.ofExt hs (by rw[lowSt_new];exact hs') he rfl rfl (Nat.le_succ _) (newObV_log s _ hn)⟩
  have hfold:Instr.fill (λi=>some (i*1,1)) (Array.replicate len v0) (ps.map λ(i,x)=>(i,a.eval x)).toList=some rs:=by simpa using h1
  have hno:¬(len*1>2 ^ 24):=by omega
  have hl1:¬(len*1=0):=by omega
  simp only[execOp,hop,Instr.buildSlice,Sem.run_bind,run_underlying' hu1,run_sizeOf' hj,hjs,Result.andThen_ok,hno,hl1,if_false,run_zeroValue' hj hjz,Sem.run_pure,hcells,hfold,newRow]
  simp
 .cases h
end
end TL
end
