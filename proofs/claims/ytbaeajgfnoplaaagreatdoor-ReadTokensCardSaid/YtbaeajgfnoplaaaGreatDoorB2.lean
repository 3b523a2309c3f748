import Derived.Test.YtbaeajgfnoplaaaGreatDoorB1
import Derived.RangeFuncIn
import Derived.RangeFuncLeaves
import Derived.RangeFuncRecord
import Derived.Orders
section
namespace TL
open Go
section
variable {P:Program} {g:Gh} {w:World}
theorem push_old {o:Obj} {w':World} (hh:w'.heap=w.heap.push o) (b:Nat) (hb:b<w.heap.size):w'.heap[b]?=w.heap[b]?:=by
 rw[hh,Array.getElem?_push,if_neg (by omega)]
theorem push_new {o:Obj} {w':World} (hh:w'.heap=w.heap.push o):w'.heap[w.heap.size]?=some o:=by
 rw[hh]
 simp
theorem aok_new {g':Gh} (himm:g'.imm=g.imm) (hi:∀b,g.imm b->b<w.heap.size) {w':World} {sz cap:Nat} {es:List D} {vals:List Value} {zs:Array Value} {e:TypeId}
  (hh:w'.heap=w.heap.push (.cells (vals.toArray++zs) e)) (hv:VRow g.imm w sz es vals) (h0:0<sz) (hzs:zs.size=(cap-es.length)*sz) (hc:es.length<=cap) (_hne:es≠[])
  (hby:∀d∈es,es.length*d.by_<=281474976710656):AOk g' w' false sz es ⟨some ⟨w.heap.size,0,none⟩,es.length,cap,sz⟩:=by
 have hk:Keeps g.imm w w':=λb hb=>push_old hh b (hi b hb)
 refine ⟨rfl,hc,hv.rows,h0,hby,λ_=>⟨w.heap.size,_,e,rfl,⟨λh=>(by cases h),λh=>?_⟩,push_new hh,?_,λi d j c hd hj=>?_⟩⟩
 .rw[himm] at h
  grind
 .simp[Array.size_append,List.size_toArray,hv.len,hzs]
  rw[<-Nat.add_mul]
  simp_all
 .let ⟨v,hv',hr⟩:=hv.rel i j d c hd hj
  refine ⟨v,?_,hr.mono hk (λb hb=>by grind)⟩
  grind
theorem olds_hold {sz len cap:Nat} {base:Option Addr} {olds:List Value} (hl:olds.length=len*sz) (h:len≠0->∃ad,base=some ad∧∀k u,olds[k]?=some u->w.cell? (ad.add k)=some u) :
  (Builtin.firstCells sz len (.slice base len cap)).run P w.drew=.ok olds.toArray w.drew:=by
 by_cases h0:len=0
 .subst h0
  have:olds=[]:=List.eq_nil_of_length_eq_zero (by simpa using hl)
  subst this
  cases base with
  |none=>rfl
  |some ad=>grind[run_firstCells_some]
 .obtain ⟨ad,rfl,hc⟩:=h h0
  grind[run_firstCells_some,World.cell?_drew]
theorem AppOr.mono {t tx rt:TypeId} {vx vy:Value} {R R':Value->World->Prop} (h:AppOr P t tx rt vx vy w R) (hR:∀v w',R v w'->R' v w'):AppOr P t tx rt vx vy w R':=by
 let ⟨v,w',h1,h2⟩:=h
 exact ⟨v,w',h1,hR _ _ h2⟩
theorem VRow.drel {I:Nat->Prop} {sz:Nat} {es:List D} {vals:List Value} (h:VRow I w sz es vals) {b:Nat} {ty:TypeId} {fz:Nat×Nat} {cells:Array Value} (hb:w.heap[b]?=some (.cells cells ty fz)) (hI:I b)
  (hcells:∀(k:Nat) (v:Value),vals[k]?=some v->cells[k]?=some v) {cap:Nat} (hcap:es.length<=cap) (hby:∀d∈es,es.length*d.by_<=281474976710656):DRel I w (.sl es) (.slice (some ⟨b,0,none⟩) es.length cap):=by
 have hex:∀q:Nat×Nat,∃v,∀d c,es[q.1]?=some d->d.cells[q.2]?=some c->cells[q.1*sz+q.2]?=some v∧DRel I w c v:=by
  rintro ⟨i,j⟩
  by_cases hi:i<es.length
  .by_cases hj:j<(es[i]).cells.length
   .let ⟨v,hv,hr⟩:=h.rel i j _ _ (List.getElem?_eq_getElem hi) (List.getElem?_eq_getElem hj)
    refine ⟨v,λd c hd hc=>?_⟩
    grind
   .refine ⟨undef,λd c hd hc=>?_⟩
    simp_all
  simp_all
 let ⟨val,hval⟩:=Classical.axiomOfChoice hex
 refine .sl es _ cap sz (λi j=>val (i,j)) hcap h.rows hby (λ_=>⟨_,rfl,hI,λi j d c hd hj=>?_⟩) (λi j d c hd hj=>(hval (i,j) d c hd hj).2)
 rw[add_mk,cell?_of_block hb]
 simp_all
theorem few_fits {n cap by_:Nat} (hf:n<=17179869184) (hb:by_<=4096) (hg:cap<n):Builtin.nextslicecap n cap*by_<=281474976710656:=by
 have h1:=nextslicecap_le hg
 have:Builtin.nextslicecap n cap*by_<=(2*17179869184)*4096:=Nat.mul_le_mul (by omega) hb
 omega
theorem few_by {n bt by_:Nat} (hf:n<=17179869184) (hb:by_<=4096) (h:bt<=2*by_):n*bt<=281474976710656:=by
 have:n*bt<=17179869184*8192:=Nat.mul_le_mul hf (by omega)
 omega
theorem append_core {ty tx rt e e':TypeId} {bt:Nat} {ji:TypeInfo} {z:Value} (hu1:P.underlying ty=some (.slice e)) (hu2:P.underlying tx=some (.slice e')) (hji:P.info? e=some ji) (hjz:ji.zero=some z) (hzs:z.cells.size=ji.size) (h0:0<ji.size)
  (hb0:0<ji.bytes) (hb4:ji.bytes<=4096) (hb2:bt<=2*ji.bytes) (hI:∀b,g.imm b->b<w.heap.size) {es new:List D} {news:List Value} {x:ASl} {vy:Value}
  (hok:AOk g w false ji.size es x) (hxlt:∀b,x.at b->b<w.heap.size) (hbys:∀d∈D.app es new,d.by_=bt) (hrows:D.rows new ji.size)
  (hsrc:Src P ji.size tx vy new.length news w) (hv:VRow g.imm w ji.size new news) (hfew:D.few es new)
  (hy:new≠[]->∃ady cy,vy=.slice (some ady) new.length cy∧¬x.at ady.block∧∀k,k<new.length*ji.size->(w.cell? (ady.add k)).isSome=true) :
  AppOr P ty tx rt (.slice x.a x.len x.cap) vy w λv w'=>∃x',AppPost g w ji.size (D.app es new) x v w' x':=by
 let ⟨a,len,cap,xsz⟩:=x
 have hl1:=hok.len
 have hl2:=hok.cap
 simp only at hl1 hl2
 subst hl1
 by_cases hne:new=[]
 .subst hne
  have hnil:news=[]:=List.eq_nil_of_length_eq_zero (by simpa using hv.len)
  subst hnil
  have happ:D.app es []=es:=List.append_nil es
  rw[happ]
  exact ⟨_,_,app_none (P:=P) hu1 hji hsrc hl2,⟨a,es.length,cap,ji.size⟩,rfl,rfl,rfl,rfl,Nat.le_refl _,λ_ _ _=>rfl,λb hb=>⟨hxlt b hb,.inr hb⟩,⟨hok.len,hok.cap,hok.rows,hok.pos,hok.byt,hok.mem⟩⟩
 .have hpos:0<new.length:=List.length_pos_iff.2 hne
  obtain ⟨ady,cy,rfl,hyblk,hyc⟩:=hy hne
  by_cases hroom:es.length+new.length<=cap
  ·
   let ⟨b,vs,ety,hab,hfz,hh,hcs,hcells⟩:=hok.mem (by grind)
   simp only at hab hcs
   subst hab
   have hnimm:¬g.imm b:=λhim=>Bool.noConfusion (hfz.2 him)
   have hnl:news.length=new.length*ji.size:=hv.len
   have hfit:es.length*ji.size+news.length<=vs.size:=by
    have:(es.length+new.length)*ji.size<=cap*ji.size:=Nat.mul_le_mul_right _ hroom
    grind
   have hst:=run_storeCells_at (P:=P) b (0+es.length*ji.size) ety news 0 vs w hh (by omega) hsrc.one
   simp only[Nat.add_zero,Nat.zero_add] at hst
   have hrun:(Builtin.append_ #[ty,tx] rt #[.slice (some ⟨b,0,none⟩) es.length cap,.slice (some ady) new.length cy]).run P w=
     .ok (.slice (some ⟨b,0,none⟩) (es.length+new.length) cap) (w.setRow b (vs.toList.take (es.length*ji.size)++news++vs.toList.drop (es.length*ji.size+news.length)).toArray):=by
    simp[Builtin.append_,run_underlying' hu1,run_underlying' hu2,run_sizeOf' hji,hsrc.len,hroom,hsrc.cells,add_mk,hst]
   have hk:Keeps g.imm w (w.setRow b (vs.toList.take (es.length*ji.size)++news++vs.toList.drop (es.length*ji.size+news.length)).toArray):=
    λb' hb'=>setRow_other w b b' _ (λe=>hnimm (e▸hb'))
   have hat:(⟨some ⟨b,0,none⟩,es.length,cap,xsz⟩:ASl).at b:=⟨_,rfl,rfl,by grind⟩
   refine ⟨_,_,hrun,⟨some ⟨b,0,none⟩,es.length+new.length,cap,ji.size⟩,rfl,rfl,rfl,rfl,by simp,λb' _ hb'=>setRow_other w b b' _ (λe=>hb' (e▸hat)),λb' hb'=>?_,
    ⟨by simp[D.app],hroom,λd hd=>(by
      rcases List.mem_append.1 hd with hd|hd
      .exact hok.rows d hd
      .exact hrows d hd),h0,λd hd=>(by
      rw[hbys d hd]
      exact few_by (by simpa[D.app,D.few] using hfew) hb4 hb2),λ_=>⟨b,_,ety,rfl,hfz,setRow_heap w b vs _ ety _ hh,(by
       grind),λi d j c hd hj=>(by
       have hjs:j<ji.size:=by
        have hrw:d.cells.length=ji.size:=by
         rcases List.mem_append.1 (List.mem_of_getElem? hd) with hd|hd
         .exact hok.rows d hd
         .exact hrows d hd
        grind
       unfold D.app at hd
       rw[List.getElem?_append] at hd
       by_cases hi:i<es.length
       .rw[if_pos hi] at hd
        let ⟨v,hv',hr⟩:=hcells i d j c hd hj
        refine ⟨v,?_,hr.mono hk (λ_ h=>h)⟩
        have:=idx_lt hi hjs
        grind
       .rw[if_neg hi] at hd
        let ⟨v,hv',hr⟩:=hv.rel _ j d c hd hj
        refine ⟨v,?_,hr.mono hk (λ_ h=>h)⟩
        have hlt:=getElem?_isSome_lt hv'
        have hge:es.length*ji.size<=i*ji.size:=Nat.mul_le_mul_right _ (by omega)
        rw[Nat.sub_mul] at hv' hlt
        rw[List.getElem?_toArray,List.getElem?_append,if_pos (by simp;omega),List.getElem?_append,if_neg (by simp;omega)]
        grind)⟩⟩⟩
   let ⟨ad,k1,k2,k3⟩:=hb'
   simp at k1
   subst k1
   simp_all
  ·
   have hold:∃olds,VRow g.imm w ji.size es olds∧(es.length≠0->∃ad,a=some ad∧∀k u,olds[k]?=some u->w.cell? (ad.add k)=some u):=by
    by_cases hes:es=[]
    .subst hes
     exact ⟨[],.nil,λh=>absurd rfl h⟩
    .have hepos:0<es.length:=List.length_pos_iff.2 hes
     let ⟨b,vs,ety,hab,hfz,hh,hcs,hcells⟩:=hok.mem (by grind)
     subst hab
     have hle:es.length*ji.size<=vs.size:=Nat.le_trans (Nat.mul_le_mul_right _ hl2) hcs
     refine ⟨vs.toList.take (es.length*ji.size),⟨by simp;omega,hok.rows,λi j d c hd hj=>?_⟩,λ_=>⟨_,rfl,λk u hu=>?_⟩⟩
     .let ⟨v,hv',hr⟩:=hcells i d j c hd hj
      refine ⟨v,?_,hr⟩
      have hjs:j<ji.size:=by rw[<-hok.rows d (List.mem_of_getElem? hd)];grind
      simp_all[List.getElem?_take,idx_lt,getElem?_isSome_lt]
     .rw[add_mk,cell?_of_block hh]
      grind
   let ⟨olds,hvo,hold⟩:=hold
   refine (app_grow (P:=P) hu1 hu2 hji hjz hb0 (olds:=olds) (olds_hold hvo.len hold) hsrc (Nat.lt_of_not_le hroom) (few_fits hfew hb4 (Nat.lt_of_not_le hroom))).mono ?_
   rintro v w' ⟨cap',rfl,hc,rfl⟩
   have hzsz:(Builtin.zeroCells z.cells (cap'-(es.length+new.length))).size=(cap'-(es.length+new.length))*ji.size:=by simp[Builtin.zeroCells,hzs]
   have happl:(es++new).length=es.length+new.length:=List.length_append
   have hok':=aok_new (g:=g) (w:=w) (g':=g) rfl hI
    (w':=w.drew.alloc (.cells ((olds++news).toArray++Builtin.zeroCells z.cells (cap'-(es.length+new.length))) e)) rfl (hvo.append hv) h0 (by rw[happl];exact hzsz) (by omega)
    (λhh=>hne (List.append_eq_nil_iff.1 hh).2) (λd hd=>by
     rw[hbys d hd]
     exact few_by (by simpa[D.few] using hfew) hb4 hb2)
   rw[happl] at hok'
   refine ⟨⟨some ⟨w.heap.size,0,none⟩,es.length+new.length,cap',ji.size⟩,rfl,rfl,rfl,rfl,by simp_all,λb hb _=>push_old rfl b hb,λb hb=>?_,hok'⟩
   let ⟨ad,k1,k2,_⟩:=hb
   simp at k1
   subst k1
   simp_all
theorem appendT_sound {ty tx rt:TypeId} {i j:TI} (hi:TIok P ty i) (hj:TIok P tx j) (hjk:∃a b c d,j.kd=.slice a b c d) {s s':St} (hs:SRel g s w) {x y:T} {vx vy:Value} {p:Prop} {t:T}
  (h:appendT i s x y=some (p,t,s')) (hp:p) (hx:TRel g w x vx) (hy:TRel g w y vy) :
  AppOr P ty tx rt vx vy w λv w'=>∃g',SRel g' s' w'∧Ext s.fl g w g' w'∧TRel g' w' t v:=by
 let ⟨_,d1,_,_,hu1,_,_,_,_,hk1⟩:=hi.all
 let ⟨_,d2,_,_,hu2,_,_,_,_,hk2⟩:=hj.all
 let ⟨_,_,_,_,hjk⟩:=hjk
 rw[hjk] at hk2
 obtain ⟨e',_,_,_,rfl,_⟩:=hk2
 unfold appendT at h
 rcases cond_some h with ⟨_,h⟩|⟨hnb,h⟩
 .cases h
 have hn:s.nob<bigN:=by
  simp_all
 split at h
 .rename_i sz ag bt zero q new hkd hsl
  rw[hkd] at hk1
  obtain ⟨e,ji,d',z,rfl,hji,hjs,_,_,hjz,hzok,hb4,h0,hb1,hb2,hb0,hzl⟩:=hk1
  have hzs:z.cells.size=sz:=by rw[<-hzok.1,hzl]
  subst hjs
  have mkOwned:∀{es:List D} {vals:List Value} {cap:Nat} {v:Value} {w':World},VRow g.imm w ji.size es vals->es≠[]->D.bys es bt->v=.slice (some ⟨w.heap.size,0,none⟩) es.length cap->es.length<=cap->(∀d∈es,es.length*d.by_<=281474976710656)->
    w'=w.drew.alloc (.cells (vals.toArray++Builtin.zeroCells z.cells (cap-es.length)) e)->∃g',SRel g' (newOb s (.arr ji.size es 0)).2 w'∧Ext s.fl g w g' w'∧TRel g' w' (.sh s.nob 0) v:=by
   intro es vals cap v w' hv hne hbys hve hc hby hw
   subst hw
   subst hve
   have hzsz:(Builtin.zeroCells z.cells (cap-es.length)).size=(cap-es.length)*ji.size:=by simp[Builtin.zeroCells,hzs]
   have hok:=aok_new (g:=g) (w:=w) (g':=g.era s.nob 0 ⟨some ⟨w.heap.size,0,none⟩,es.length,cap,ji.size⟩) rfl hs.imm (w':=w.drew.alloc (.cells (vals.toArray++Builtin.zeroCells z.cells (cap-es.length)) e)) rfl hv h0 hzsz hc hne hby
   let ⟨hs',he⟩:=hs.newArr hn (w':=w.drew.alloc (.cells (vals.toArray++Builtin.zeroCells z.cells (cap-es.length)) e)) rfl rfl (by simp_all) (λb hb=>push_old rfl b hb)
    (x:=⟨some ⟨w.heap.size,0,none⟩,es.length,cap,ji.size⟩) (λb hb=>by
     let ⟨ad,h1,h2,_⟩:=hb
     simp at h1
     subst h1
     simp_all) hok rfl
   exact ⟨_,hs',he,.sh _ _ _ _ _ _ (Gh.era_same _ _ _ _)⟩
  cases hx with
  |emp a=>
   obtain ⟨rfl,rfl,rfl⟩:=h
   let ⟨hq,hrows,hbys⟩:=hp
   let ⟨news,hsrc,hv,hlen⟩:=slT_src hs hsl hq hy h0 hrows (λd hd=>(hbys d hd).2) hu2
   by_cases hne:new=[]
   .subst hne
    have hnil:news=[]:=List.eq_nil_of_length_eq_zero (by simpa using hv.len)
    subst hnil
    let ⟨hs',he⟩:=hs.newArr hn (w':=w) (sz:=ji.size) (es:=[]) (x:=⟨a,0,0,ji.size⟩) rfl rfl (Nat.le_refl _) (λb hb=>rfl) (λb hb=>by
     let ⟨_,_,_,h⟩:=hb
     grind) ⟨rfl,Nat.le_refl _,by simp,h0,by simp,λh=>absurd rfl h⟩ rfl
    exact ⟨_,_,app_none (P:=P) hu1 hji hsrc (Nat.le_refl _),_,hs',he,.sh _ _ _ _ _ _ (Gh.era_same _ _ _ _)⟩
   .have hpos:0<new.length:=List.length_pos_iff.2 hne
    let ⟨_,_,_,_,hby,_⟩:=slT_cells hs hsl hq hy h0 hrows
    have hfit:Builtin.nextslicecap (0+new.length) 0*ji.bytes<=281474976710656:=by
     rw[Nat.zero_add,nextslicecap_zero hpos]
     obtain ⟨d,ds,rfl⟩:=List.exists_cons_of_ne_nil hne
     have:=hby d (by simp)
     rw[(hbys d (by simp)).1] at this
     exact Nat.le_trans (Nat.mul_le_mul_left _ hb1) this
    refine (app_grow (P:=P) hu1 hu2 hji hjz hb0 (olds:=[]) (olds_hold (by simp) (λh=>absurd rfl h)) hsrc (by omega) hfit).mono ?_
    simp_all
  |clp m es a hm hd=>
   have hes:D.rows (D.app es new) ji.size->∃olds,VRow g.imm w ji.size es olds∧(es.length≠0->∃ad,a=some ad∧∀k u,olds[k]?=some u->w.cell? (ad.add k)=some u):=by
    intro hrows
    let ⟨a',cap',he,_,_,hrest⟩:=slT_cells (s:=s) (t:=.clp m es) (p:=True) (es:=es) hs rfl trivial (.clp m es a hm hd) h0 (λd hd=>hrows d (List.mem_append_left _ hd))
    obtain ⟨rfl,_,_⟩:=he
    by_cases hne:es=[]
    .subst hne
     exact ⟨[],.nil,λh=>absurd rfl h⟩
    .obtain ⟨ad,val,rfl,_,hc,hv⟩:=hrest hne
     refine ⟨_,hv,λ_=>⟨ad,rfl,λk u hu=>?_⟩⟩
     obtain ⟨i,j,hi,hj,rfl,rfl⟩:=rowVals_some h0 hu
     grind
   dsimp only at h
   split at h
   .rename_i k es2
    obtain ⟨rfl,rfl,rfl⟩:=h
    let ⟨hq,hrows,hbys,hfew⟩:=hp
    let ⟨news,hsrc,hv,hlen⟩:=slT_src hs hsl hq hy h0 (λd hd=>hrows d (List.mem_append_right _ hd)) (λd hd=>(hbys d (List.mem_append_right _ hd)).2) hu2
    let ⟨olds,hvo,hold⟩:=hes hrows
    have hpos:0<new.length:=by
     cases hy with
     |clp _ _ _ hk _=>
     grind[slT]
    refine (app_grow (P:=P) hu1 hu2 hji hjz hb0 (olds:=olds) (olds_hold hvo.len hold) hsrc (by omega) (few_fits hfew hb4 (by omega))).mono ?_
    rintro v w' ⟨cap',rfl,hc,rfl⟩
    have happl:(D.app es new).length=es.length+new.length:=List.length_append
    exact mkOwned (es:=D.app es new) (hvo.append hv) (λhh=>by
     grind) hbys (by rw[happl]) (by omega) (λd hd=>by rw[(hbys d hd).1,happl];exact few_by hfew hb4 hb2) (by rw[happl])
   .obtain ⟨rfl,rfl,rfl⟩:=h
    let ⟨hq,hrows,hbys,hfew⟩:=hp
    let ⟨news,hsrc,hv,hlen⟩:=slT_src hs hsl hq hy h0 (λd hd=>hrows d (List.mem_append_right _ hd)) (λd hd=>(hbys d (List.mem_append_right _ hd)).2) hu2
    let ⟨olds,hvo,hold⟩:=hes hrows
    by_cases hne:new=[]
    .subst hne
     have hnil:news=[]:=List.eq_nil_of_length_eq_zero (by simpa using hv.len)
     subst hnil
     refine ⟨_,_,app_none (P:=P) hu1 hji hsrc (Nat.le_refl _),g,hs,Ext.refl _ _ _,.sym _ _ ?_⟩
     grind[D.app]
    .have hpos:0<new.length:=List.length_pos_iff.2 hne
     refine (app_grow (P:=P) hu1 hu2 hji hjz hb0 (olds:=olds) (olds_hold hvo.len hold) hsrc (by omega) (few_fits hfew hb4 (by omega))).mono ?_
     rintro v w' ⟨cap',rfl,hc,rfl⟩
     let ⟨hs',he⟩:=hs.newImm (w':=w.drew.alloc (.cells ((olds++news).toArray++Builtin.zeroCells z.cells (cap'-(es.length+new.length))) e)) _ rfl rfl rfl
     refine ⟨_,hs',he,.sym _ _ ?_⟩
     have hvv:=(hvo.append hv).mono (he.keeps hs.imm) he.imm
     have:=hvv.drel (b:=w.heap.size) (push_new (w:=w) rfl) (.inr rfl) (λk v hk=>by
      grind) (cap:=cap') (by simp_all) (λd hd=>by
       rw[(hbys d hd).1,List.length_append]
       exact few_by hfew hb4 hb2)
     rw[List.length_append] at this
     exact this
  |sh o e2 len cap sz2 a hxa=>
   dsimp only at h
   split at h
   .rename_i z' es era ho
    rcases cond_some h with ⟨hb,h9⟩|⟨_,h9⟩
    .simp only[Bool.and_eq_true] at hb
     let ⟨⟨⟨hfl,hee⟩,hzz⟩,hno⟩:=hb
     have hfl:=Nat.le_of_ble_eq_true hfl
     have hee:=beq_iff'.1 hee
     have hzz:=beq_iff'.1 hzz
     subst hee
     subst hzz
     simp only[Option.some.injEq,Prod.mk.injEq] at h9
     obtain ⟨rfl,rfl,rfl⟩:=h9
     let ⟨hq,hrows,hbys,hfew⟩:=hp
     let ⟨hok,hszz⟩:=hs.arrNow (fz:=false) ho hxa
     simp only at hszz
     subst hszz
     let ⟨news,hsrc,hv,hlen⟩:=slT_src hs hsl hq hy h0 hrows (λd hd=>(hbys d (List.mem_append_right _ hd)).2) hu2
     obtain ⟨ay,cy,rfl,_,hyby,hyrest⟩:=slT_cells hs hsl hq hy h0 hrows
     have hlt:=(hs.arr o e2 _ hxa).1
     refine (append_core (rt:=rt) hu1 hu2 hji hjz hzs h0 hb0 hb4 hb2 hs.imm hok (λb hb=>?_) (λd hd=>(hbys d hd).1) hrows hsrc hv hfew (λhne=>?_)).mono ?_
     .let ⟨ad,k1,k2,k3⟩:=hb
      simp_all
     .obtain ⟨ady,valy,rfl,hyblk,hyc,_⟩:=hyrest hne
      refine ⟨ady,cy,rfl,λhat=>?_,λk hk=>?_⟩
      .have hown:Owned g o ady.block:=by
        let ⟨ad,k1,k2,k3⟩:=hat
        let ⟨b,vs,ety,hab,hfz,_⟩:=hok.mem k3
        rw[k1] at hab
        cases hab
        simp only at k2
        exact ⟨λhim=>Bool.noConfusion (hfz.2 (k2▸him)),.inr ⟨e2,_,_,hxa,k1,k2,k3⟩⟩
       rcases hyblk with him|⟨o',ho',hO⟩
       .exact hown.1 him
       .have:=hs.uni o o' _ hown hO
        simp_all
      .have h1:=hyc (k/ji.size) (k%ji.size) (Nat.div_lt_of_lt_mul (by grind)) (Nat.mod_lt _ h0)
       grind[Nat.div_add_mod]
     .rintro v w' ⟨x',hp⟩
      let ⟨hs',he⟩:=hs.bump ho hxa hfl hp.os hp.output hp.size hp.heap hp.at_ (hp.ok.imm_eq rfl) hp.sz
      have:=hp.val
      subst this
      exact ⟨_,hs',he,.sh _ _ _ _ x'.sz _ (Gh.era_same _ _ _ _)⟩
    .cases h9
   .cases h
  |_=>simp at h
 .cases h
end
end TL
end
section
namespace TL
open Go
def OpOk (fl:Nat) (g:Gh) (w:World) (t:T) (s':St) (r:Result Next):Prop:=
 ∃v w' g',(r=.ok (.value v) w'∨(r=.ok .skip w'∧v=undef))∧SRel g' s' w'∧Ext fl g w g' w'∧TRel g' w' t v
section
variable {P:Program} {g:Gh} {w:World}
theorem opok_same {s s':St} {t:T} {v:Value} {r:Result Next} (hs:SRel g s w) (hr:r=.ok (.value v) w) (ht:TRel g w t v) (he:s'=s):OpOk s.fl g w t s' r:=
 ⟨v,w,g,.inl hr,he▸hs,Ext.refl _ _ _,ht⟩
theorem freeze_same:∀{os:List Nat} {s s':St},freeze s os=some s'->s'.lo=s.lo∧s'.fl=s.fl∧s'.nob=s.nob
 |[],s,s',h=>by
  simp[freeze,Option.some.injEq] at h
  rw[h]
  exact ⟨rfl,rfl,rfl⟩
 |o ::os,s,s',h=>by
  obtain ⟨_,⟨_,_,_,_,h⟩|⟨_,_,_,_,h⟩|⟨_,h⟩|⟨_,_,_,_,_,_,_,_,_,_,_,_,_,h⟩⟩:=freeze_cons h<;>(have:=freeze_same h;exact this)
theorem freeze_lo {os:List Nat} {s s':St} (h:freeze s os=some s'):s'.lo=s.lo:=(freeze_same h).1
theorem freeze_fl {os:List Nat} {s s':St} (h:freeze s os=some s'):s'.fl=s.fl:=(freeze_same h).2.1
theorem freeze_nob {os:List Nat} {s s':St} (h:freeze s os=some s'):s'.nob=s.nob:=(freeze_same h).2.2
theorem sliceT_st {i:TI} {s s':St} {x:T} {l h m:Option T} {p:Prop} {t:T} (he:sliceT i s x l h m=some (p,t,s')):s'=s∨freeze s (ownSl x)=some s':=by
 unfold sliceT at he
 repeat' split at he
 all_goals first
  |(cases he;done)
  |(
    simp only[Option.map_eq_some_iff,Option.some.injEq,Prod.mk.injEq] at he
    first
     |(obtain ⟨_,_,_,_,rfl⟩:=he;first|exact .inl rfl|(right;assumption))
     |(obtain ⟨_,_,rfl⟩:=he;first|exact .inl rfl|(right;assumption)))
theorem sliceT_lo {i:TI} {s s':St} {x:T} {l h m:Option T} {p:Prop} {t:T} (he:sliceT i s x l h m=some (p,t,s')):s'.lo=s.lo:=by
 rcases sliceT_st he with rfl|h
 .rfl
 .exact freeze_lo h
structure TabOk (E:Env):Prop where
 ti:∀k i,E.ti k=some i->TIok E.P k i
 fnc:∀f fn,E.fnc f=some fn->E.P.funcs[f]?=some fn
theorem opT_sound {E:Env} (hE:TabOk E) {fr:Fr} {s s':St} {a:Act} (hf:FRel g fr a w) (hs:SRel g s w) (o:Oper) {p:Prop} {t:T} (h:opT E fr s o.op=some (p,t,s')) (hp:p) :
  OpOk s.fl g w t s' ((execOp a.eval o).run E.P w)∧s'.fl=s.fl∧s'.lo=s.lo∧s.nob<=s'.nob:=by
 cases hop:o.op with
 |move x=>
  rw[hop] at h
  simp only[opT,Option.map_eq_some_iff,Prod.mk.injEq] at h
  obtain ⟨t',ht,_,rfl,rfl⟩:=h
  exact ⟨opok_same hs (by simp[execOp,hop]) (opdT_sound hf ht) rfl,rfl,rfl,Nat.le_refl _⟩
 |assign x=>
  rw[hop] at h
  simp only[opT,Option.map_eq_some_iff,Prod.mk.injEq] at h
  obtain ⟨t',ht,_,rfl,rfl⟩:=h
  exact ⟨opok_same hs (by simp[execOp,hop]) (opdT_sound hf ht) rfl,rfl,rfl,Nat.le_refl _⟩
 |pick c x y=>
  rw[hop] at h
  simp[opT] at h
  split at h
  .rename_i c' x' y' hc hx hy
   simp only[Option.map_eq_some_iff,Prod.mk.injEq] at h
   obtain ⟨⟨q,u⟩,hu,rfl,rfl,rfl⟩:=h
   let ⟨b,hb,ht⟩:=pickT_sound hu hp (opdT_sound hf hc) (opdT_sound hf hx) (opdT_sound hf hy)
   exact ⟨opok_same hs (by simp[execOp,hop,hb,asBool]) ht rfl,rfl,rfl,Nat.le_refl _⟩
  .cases h
 |alloc ty=>
  rw[hop] at h
  simp[opT] at h
  split at h
  .rename_i i hi
   rcases cond_some h with ⟨hn,h⟩|⟨_,h⟩
   .obtain ⟨_,rfl,rfl⟩:=h
    have hn':s.nob<bigN:=Nat.le_of_ble_eq_true hn
    let ⟨xi,d,z,hxi,_,_,_,hz,hzok,_⟩:=(hE.ti _ _ hi).all
    let ⟨z1,z2⟩:=zero_rel (g:=g) (w:=w) hzok
    let ⟨hs',he⟩:=hs.newBox hn' ty z1 z2
    refine ⟨⟨_,_,_,.inl ?_,hs',he,.ptr s.nob 0 w.heap.size (by simp[Gh.newBox])⟩,rfl,rfl,by simp[newOb]⟩
    simp[execOp,hop,Instr.alloc,run_zeroValue' hxi hz,newVar,newRow]
   .cases h
  .cases h
 |box ty x=>
  rw[hop] at h
  simp[opT] at h
  split at h
  .rename_i i v hi hv
   rcases cond_some h with ⟨hn,h⟩|⟨_,h⟩
   .simp only[Option.map_eq_some_iff,Prod.mk.injEq] at h
    obtain ⟨⟨q,cs⟩,hc,rfl,rfl,rfl⟩:=h
    have hn':s.nob<bigN:=Nat.le_of_ble_eq_true hn
    let ⟨h1,h2,h3,_⟩:=cellsT_sound hc hp (opdT_sound hf hv)
    let ⟨hs',he⟩:=hs.newBox hn' ty (cs:=cs) (vs:=(a.eval x).cells) (by rw[h1,h2]) h3
    refine ⟨⟨_,_,_,.inl ?_,hs',he,.ptr s.nob 0 w.heap.size (by simp[Gh.newBox])⟩,rfl,rfl,by simp[newOb]⟩
    simp[execOp,hop,Instr.box,newVar,newRow]
   .cases h
  .cases h
 |build ty parts=>
  rw[hop] at h
  simp[opT] at h
  split at h
  .rename_i i ps hi hps
   split at h
   .rename_i fs hk
    simp only[Option.map_eq_some_iff,Prod.mk.injEq] at h
    obtain ⟨⟨q,cs⟩,hc,rfl,rfl,rfl⟩:=h
    have hpw:=partsT_sound hf hps
    let ⟨v,hv,ht⟩:=build_sound (w:=w) (g:=g) (hE.ti _ _ hi) hk (vs:=parts.map λ(i,x)=>(i,a.eval x)) (by simpa using hpw) hc hp
    exact ⟨opok_same hs (by simp[execOp,hop,hv]) ht rfl,rfl,rfl,Nat.le_refl _⟩
   .cases h
  .cases h
 |buildSlice ty len parts=>
  rw[hop] at h
  simp only[opT] at h
  split at h
  .rename_i i ps hi hps
   split at h
   .rename_i sz ag bt zero hk
    rcases cond_some h with ⟨hb,h⟩|⟨_,h⟩
    .split at h
     .rename_i q es os hel
      simp only[Option.map_eq_some_iff,Prod.mk.injEq] at h
      obtain ⟨s1,hfz,rfl,rfl,rfl⟩:=h
      have hpw:=partsT_sound hf hps
      rw[Bool.and_eq_true_iff] at hb
      let ⟨hb1,hb2⟩:=hb
      rw[Bool.and_eq_true_iff] at hb2
      let ⟨hb2,hb3⟩:=hb2
      rw[Bool.and_eq_true_iff] at hb3
      let ⟨hb3,hb4⟩:=hb3
      let ⟨w',g',v,hrun,hs',he,ht,hfl,hnob⟩:=buildSlice_sound (hE.ti _ _ hi) hs hk hb1 (beq_iff'.1 hb2) (λe=>by
       rw[e] at hb3
       cases hb3) (Nat.le_of_ble_eq_true hb4) (vs:=parts.map λ(i,x)=>(i,a.eval x)) (by simpa using hpw) hel hp hfz
      exact ⟨⟨v,w',g',.inl (by simp[execOp,hop,hrun]),hs',he,ht⟩,hfl,freeze_lo hfz,by omega⟩
     .cases h
    .cases h
   .cases h
  .cases h
 |load ty x=>
  rw[hop] at h
  simp[opT] at h
  split at h
  .rename_i i v hi hv
   obtain ⟨u,hu,ht,rfl⟩:=loadT_sound (hE.ti _ _ hi) hs (opdT_sound hf hv) h hp
   exact ⟨opok_same hs (by simp[execOp,hop,hu]) ht rfl,rfl,rfl,Nat.le_refl _⟩
  .cases h
 |store ty x y=>
  rw[hop] at h
  simp[opT] at h
  split at h
  .rename_i i v u hi hv hu
   obtain ⟨w',g',hrun,hs',he,rfl⟩:=storeT_sound (hE.ti _ _ hi) hs (opdT_sound hf hv) (opdT_sound hf hu) h hp
   refine ⟨⟨undef,w',g',.inr ⟨by simp[execOp,hop,hrun],rfl⟩,hs',he,.sym _ _ (.lit _)⟩,?_⟩
   unfold storeT at h
   split at h
   .cases h
   .split at h
    .split at h
     .rcases cond_some h with ⟨_,h⟩|⟨_,h⟩
      .obtain ⟨_,_,rfl⟩:=h
       exact ⟨rfl,rfl,Nat.le_refl _⟩
      .cases h
     .cases h
    .split at h
     .split at h
      .rename_i hfz
       split at h
       .rcases cond_some h with ⟨_,h⟩|⟨_,h⟩
        .obtain ⟨_,_,rfl⟩:=h
         have e1:=freeze_fl hfz
         have e2:=freeze_lo hfz
         have e3:=freeze_nob hfz
         exact ⟨e1,e2,Nat.le_of_eq e3.symm⟩
        .cases h
       .cases h
      .cases h
     .cases h
    .cases h
  .cases h
 |nilCheck x=>
  rw[hop] at h
  simp[opT] at h
  have hx:=λ{t} (e:opdT fr x=some t)=>opdT_sound hf e
  split at h
  all_goals try (cases h;done)
  all_goals
   rename_i hxe
   have hr:=hx hxe
   simp only[Option.some.injEq,Prod.mk.injEq] at h
   obtain ⟨rfl,rfl,rfl⟩:=h
  .generalize hv:a.eval x=v at hr
   cases hr with
   |ptr _ _ b hb=>exact ⟨opok_same hs (by simp[execOp,hop,hv]) (.ptr _ _ b hb) rfl,rfl,rfl,Nat.le_refl _⟩
  .generalize hv:a.eval x=v at hr
   cases hr with
   |ept _ _ ad val h1 h2 h3=>exact ⟨opok_same hs (by simp[execOp,hop,hv]) (.ept _ _ ad val h1 h2 h3) rfl,rfl,rfl,Nat.le_refl _⟩
  .generalize hv:a.eval x=v at hr
   cases hr with
   |epw _ _ _ _ _ _ _ _ h1=>exact ⟨opok_same hs (by simp[execOp,hop,hv]) (.epw _ _ _ _ _ _ _ _ h1) rfl,rfl,rfl,Nat.le_refl _⟩
  .generalize hv:a.eval x=v at hr
   cases hr with
   |ifc _ _ _ h1=>exact ⟨opok_same hs (by simp[execOp,hop,hv]) (.ifc _ _ _ h1) rfl,rfl,rfl,Nat.le_refl _⟩
  .generalize hv:a.eval x=v at hr
   cases hr with
   |fn _ _ _ _ _ h1 h2 h3 h4=>exact ⟨opok_same hs (by simp[execOp,hop,hv]) (.fn _ _ _ _ _ h1 h2 h3 h4) rfl,rfl,rfl,Nat.le_refl _⟩
  .generalize hv:a.eval x=v at hr
   cases hr with
   |sym d _ hd=>
    cases hd with
    |ifc _ _ _ h1=>exact ⟨opok_same hs (by simp[execOp,hop,hv]) (.sym _ _ (.ifc _ _ _ h1)) rfl,rfl,rfl,Nat.le_refl _⟩
    |_=>cases hp
 |binOp op ty x y yt=>
  rw[hop] at h
  simp[opT] at h
  split at h
  .rename_i i u v hi hu hv
   simp only[Option.map_eq_some_iff,Prod.mk.injEq] at h
   obtain ⟨⟨q,d⟩,hb,rfl,rfl,rfl⟩:=h
   let ⟨r,hr,ht⟩:=binT_sound (hE.ti _ _ hi) hb hp (opdT_sound hf hu) (opdT_sound hf hv) x y
   refine ⟨opok_same hs ?_ ht rfl,rfl,rfl,Nat.le_refl _⟩
   simp at hr
   simp only[execOp,hop,Sem.run_bind]
   rw[hr]
   rfl
  .cases h
 |unOp op ty x=>
  rw[hop] at h
  simp[opT] at h
  split at h
  .rename_i i u hi hu
   simp only[Option.map_eq_some_iff,Prod.mk.injEq] at h
   obtain ⟨⟨q,d⟩,hb,rfl,rfl,rfl⟩:=h
   let ⟨r,hr,ht⟩:=unT_sound (P:=E.P) hb hp (opdT_sound hf hu)
   exact ⟨opok_same hs (by simp[execOp,hop,hr]) ht rfl,rfl,rfl,Nat.le_refl _⟩
  .cases h
 |convert src dst x=>
  rw[hop] at h
  simp[opT] at h
  split at h
  .rename_i i j u hi hj hu
   obtain ⟨r,hr,ht,rfl⟩:=convT_sound (hE.ti _ _ hi) (hE.ti _ _ hj) h hp (opdT_sound hf hu)
   exact ⟨opok_same hs (by simp[execOp,hop,hr]) ht rfl,rfl,rfl,Nat.le_refl _⟩
  .cases h
 |makeInterface ty x=>
  rw[hop] at h
  simp[opT] at h
  split at h
  .rename_i i v hi hv
   have hti:=hE.ti _ _ hi
   let ⟨xi,d,z,hxi,hu,_⟩:=hti.all
   split at h
   .cases h
   .rename_i hk
    simp only[Option.some.injEq,Prod.mk.injEq] at h
    obtain ⟨rfl,rfl,rfl⟩:=h
    refine ⟨opok_same hs (v:=.iface ty (a.eval x)) ?_ (.ifc _ _ _ (opdT_sound hf hv)) rfl,rfl,rfl,Nat.le_refl _⟩
    have hni:∀ms,d≠.interface ms:=λms e=>hk (hti.nif ms (e▸hu))
    simp only[execOp,hop,Instr.makeInterface,Sem.run_bind,run_underlying' hu,Result.andThen_ok]
    cases d<;>first|rfl|exact absurd rfl (hni _)
  .cases h
 |makeFunc f first cap=>
  rw[hop] at h
  simp[opT] at h
  split at h
  .rename_i xs ys hx hy
   obtain ⟨rfl,rfl,rfl⟩:=h
   have h1:=opdsT_sound hf hx
   have h2:=opdsT_sound hf hy
   refine ⟨opok_same hs (v:=.func f (first.map a.eval) (cap.map a.eval)) (by simp[execOp,hop,Instr.makeFunc]) (.fn _ _ _ _ _ (by simpa using h1.1) (by simpa using h2.1) (λj t v k1 k2=>h1.2 j t v k1 (by simpa using k2)) (λj t v k1 k2=>h2.2 j t v k1 (by simpa using k2))) rfl,rfl,rfl,Nat.le_refl _⟩
  .cases h
 |extract x k=>
  rw[hop] at h
  simp[opT] at h
  split at h
  .rename_i v hv
   obtain ⟨r,hr,ht,rfl⟩:=extractT_sound (P:=E.P) h hp (opdT_sound hf hv)
   exact ⟨opok_same hs (by simp[execOp,hop,hr]) ht rfl,rfl,rfl,Nat.le_refl _⟩
  .cases h
 |fieldAddr ty x k=>
  rw[hop] at h
  simp[opT] at h
  split at h
  .rename_i i v hi hv
   obtain ⟨r,hr,ht,rfl⟩:=fieldAddrT_sound (hE.ti _ _ hi) h (opdT_sound hf hv)
   exact ⟨opok_same hs (by simp[execOp,hop,hr]) ht rfl,rfl,rfl,Nat.le_refl _⟩
  .cases h
 |field ty x k=>
  rw[hop] at h
  simp[opT] at h
  split at h
  .rename_i i v hi hv
   obtain ⟨r,hr,ht,rfl⟩:=fieldT_sound (hE.ti _ _ hi) h hp (opdT_sound hf hv)
   exact ⟨opok_same hs (by simp[execOp,hop,hr]) ht rfl,rfl,rfl,Nat.le_refl _⟩
  .cases h
 |indexAddr ty x ix=>
  rw[hop] at h
  simp[opT] at h
  split at h
  .rename_i i v n hi hv hn
   obtain ⟨r,hr,ht,rfl⟩:=indexAddrT_sound (hE.ti _ _ hi) hs h hp (opdT_sound hf hv) (opdT_sound hf hn)
   exact ⟨opok_same hs (by simp[execOp,hop,hr]) ht rfl,rfl,rfl,Nat.le_refl _⟩
  .cases h
 |index ty x ix=>
  rw[hop] at h
  simp[opT] at h
  split at h
  .rename_i i v n hi hv hn
   obtain ⟨r,hr,ht,rfl⟩:=indexT_sound (hE.ti _ _ hi) h hp (opdT_sound hf hv) (opdT_sound hf hn)
   exact ⟨opok_same hs (by simp[execOp,hop,hr]) ht rfl,rfl,rfl,Nat.le_refl _⟩
  .cases h
 |slice ty x lo hi mx=>
  rw[hop] at h
  simp[opT] at h
  split at h
  .rename_i i v l hh m h1 h2 h3 h4 h5
   let ⟨g',r,hr,hs',he,ht,hfl,hnob⟩:=sliceT_sound (hE.ti _ _ h1) hs h hp (opdT_sound hf h2) (optT_sound hf h3) (optT_sound hf h4) (optT_sound hf h5)
   exact ⟨⟨r,w,g',.inl (by simp[execOp,hop,hr]),hs',he,ht⟩,hfl,sliceT_lo h,by omega⟩
  .cases h
 |typeAssert x xt ty ok=>
  rw[hop] at h
  simp[opT] at h
  split at h
  .rename_i i v hi hv
   obtain ⟨r,hr,ht,rfl⟩:=assertT_sound (xt:=xt) (hE.ti _ _ hi) h (opdT_sound hf hv)
   exact ⟨opok_same hs (by simp[execOp,hop,hr]) ht rfl,rfl,rfl,Nat.le_refl _⟩
  .cases h
 |_=>
  rw[hop] at h
  simp[opT] at h
end
end TL
end
section
namespace TL
open Go
structure ExtL (lo fl:Nat) (g:Gh) (w:World) (g':Gh) (w':World):Prop where
 blk:∀o b,o<lo->g.blk o=some b->g'.blk o=some b
 arr:∀o e x,o<lo->g.arr o e=some x->g'.arr o e=some x
 imm:∀b,g.imm b->g'.imm b
 size:w.heap.size<=w'.heap.size
 heap:∀b,b<w.heap.size->(∀o,fl<=o->¬Owned g o b)->w'.heap[b]?=w.heap[b]?
 own:∀o b,Owned g' o b->Owned g o b∨w.heap.size<=b
 immn:∀b,g'.imm b->g.imm b∨w.heap.size<=b∨∃o,fl<=o∧Owned g o b
 os:w'.os=w.os
 output:w'.output=w.output
section
variable {g g' g'':Gh} {w w' w'':World} {lo fl:Nat}
theorem Ext.toL (lo:Nat) (h:Ext fl g w g' w'):ExtL lo fl g w g' w':=
 ⟨λo b _ e=>h.blk o b e,λo e x _ k=>h.arr o e x k,h.imm,h.size,h.heap,h.own,h.immn,h.os,h.output⟩
theorem ExtL.refl (lo fl:Nat) (g:Gh) (w:World):ExtL lo fl g w g w:=(Ext.refl fl g w).toL lo
theorem ExtL.trans (h:ExtL lo fl g w g' w') (k:ExtL lo fl g' w' g'' w''):ExtL lo fl g w g'' w'' where
 blk o b hl e:=k.blk o b hl (h.blk o b hl e)
 arr o e x hl e':=k.arr o e x hl (h.arr o e x hl e')
 imm b e:=k.imm b (h.imm b e)
 size:=Nat.le_trans h.size k.size
 heap b hb hn:=by
  rw[k.heap b (Nat.lt_of_lt_of_le hb h.size) (λo ho hO=>?_),h.heap b hb hn]
  rcases h.own o b hO with hO|hO
  .grind
  .omega
 own o b hO:=by
  rcases k.own o b hO with hO|hO
  .exact h.own o b hO
  .exact .inr (Nat.le_trans h.size hO)
 immn b hb:=by
  rcases k.immn b hb with hb|hb|⟨o,ho,hO⟩
  .exact h.immn b hb
  .exact .inr (.inl (Nat.le_trans h.size hb))
  .rcases h.own o b hO with hO|hO
   .grind
   omega
 os:=k.os.trans h.os
 output:=k.output.trans h.output
theorem ExtL.mono {lo':Nat} (h:ExtL lo fl g w g' w') (hl:lo'<=lo):ExtL lo' fl g w g' w':=
 {h with
  blk:=λo b ho=>h.blk o b (Nat.lt_of_lt_of_le ho hl)
  arr:=λo e x ho=>h.arr o e x (Nat.lt_of_lt_of_le ho hl)}
theorem ExtL.toExt (h:ExtL lo fl g w g' w') (h1:∀o b,g.blk o=some b->o<lo) (h2:∀o e x,g.arr o e=some x->o<lo):Ext fl g w g' w':=
 ⟨λo b e=>h.blk o b (h1 o b e) e,λo e x k=>h.arr o e x (h2 o e x k) k,h.imm,h.size,h.heap,h.own,h.immn,h.os,h.output⟩
theorem SRel.ext_of {s:St} (hs:SRel g s w) (h:ExtL s.nob fl g w g' w'):Ext fl g w g' w':=
 h.toExt (λ_ _ e=>hs.lt e) (λ_ _ _ e=>hs.lt' e)
theorem SRel.grow {s:St} (hs:SRel g s w) {I:Nat->Prop} (hI:∀b,g.imm b->I b) (hIn:∀b,I b->g.imm b∨w.heap.size<=b) (hIs:∀b,I b->b<w'.heap.size) (hsize:w.heap.size<=w'.heap.size)
  (hheap:∀b,b<w.heap.size->w'.heap[b]?=w.heap[b]?) (hos:w'.os=w.os) (hout:w'.output=w.output) :
  SRel {g with imm:=I} s w'∧Ext fl g w {g with imm:=I} w':=by
 have hown:∀k b,Owned ({g with imm:=I}:Gh) k b->Owned g k b:=λk b h=>⟨λhi=>h.1 (hI b hi),h.2⟩
 have he:Ext fl g w {g with imm:=I} w':=
  ⟨λ_ _ h=>h,λ_ _ _ h=>h,hI,hsize,λb hb _=>hheap b hb,λk b h=>.inl (hown k b h),λb h=>(hIn b h).imp id .inl,hos,hout⟩
 refine ⟨⟨hs.nob,hs.bnd,λk c hc=>?_,λk j y hy=>?_,hIs,λk k' b h h'=>hs.uni k k' b (hown k b h) (hown k' b h'),hs.gext he⟩,he⟩
 .have hbox:=hs.box k c hc
  refine hbox.ext he hs.imm (hheap c hbox.2.1) rfl λhim=>?_
  rcases hIn c him with h|h
  .exact hbox.1 h
  .have:=hbox.2.1
   omega
 .have hok:=hs.arr k j y hy
  refine hok.ext he hs.imm (λb hb hc=>⟨hheap b (hok.1 _ hb hc),⟨λh=>?_,hI b⟩⟩) rfl rfl
  rcases hIn b h with h|h
  .exact h
  .have:=hok.1 _ hb hc
   grind
end
def Enters (P:Program) (f:FuncId):Prop:=∃fn,P.funcs[f]?=some fn∧fn.body.isSome=true∧(fn.name== "runtime.NumGoroutine")=false
def PurePost (I:Nat->Prop) (w:World) (d:D):Ending->World->Prop
 | .returned v,w'=>∃I':Nat->Prop,(∀b,I b->I' b)∧(∀b,I' b->I b∨w.heap.size<=b)∧(∀b,I' b->b<w'.heap.size)∧w.heap.size<=w'.heap.size∧
   (∀b,b<w.heap.size->w'.heap[b]?=w.heap[b]?)∧w'.os=w.os∧w'.output=w.output∧DRel I' w' d v
 | .panicked _,_=>False
 | .outgrown,_=>False
def PureC (P:Program) (f:FuncId) (c:Contract):Prop:=
 Enters P f∧∀(I:Nat->Prop) (w:World) (ds:List D) (vs:Array Value),(∀b,I b->b<w.heap.size)->ds.length=vs.size->
  (∀(j:Nat) (d:D) (v:Value),ds[j]?=some d->vs[j]?=some v->DRel I w d v)->c.pre ds->Calls P f vs w (PurePost I w (c.f ds))
structure EnvOk (E:Env):Prop extends TabOk E where
 name:∀f fn,E.fnc f=some fn->(fn.name== "runtime.NumGoroutine")=false
 gam:∀f c,E.gam f=some c->PureC E.P f c
def CallPost (s:St) (g:Gh) (w:World) (k kp:T->St->Prop):Ending->World->Prop
 | .returned v,w'=>∃t s' g',k t s'∧TRel g' w' t v∧SRel g' s' w'∧Ext s.fl g w g' w'∧s'.fl=s.fl∧s'.lo=s.lo∧s.nob<=s'.nob
 | .panicked chain,w'=>∃v t s' g',chain=[{v,recovered:=false}]∧kp t s'∧TRel g' w' t v∧SRel g' s' w'∧Ext s.fl g w g' w'∧s'.fl=s.fl∧s'.lo=s.lo∧s.nob<=s'.nob
 | .outgrown,_=>False
def CallOk (P:Program) (call:CallW):Prop:=
 ∀(f:FuncId) (args:List T) (s:St) (k kp:T->St->Prop),call f args s k kp->∀(g:Gh) (w:World) (vs:Array Value),SRel g s w->PW (TRel g w) args vs.toList->
  Enters P f∧Calls P f vs w (CallPost s g w k kp)
section
variable {g:Gh} {w:World}
theorem gamT_sound {E:Env} (hE:EnvOk E) {s s':St} {f:FuncId} {args:List T} {p:Prop} {t:T} (h:gamT E s f args=some (p,t,s')) (hp:p) (hs:SRel g s w) {vs:Array Value} (hv:PW (TRel g w) args vs.toList) :
  Enters E.P f∧s'.lo=s.lo∧s'.fl=s.fl∧s'.nob=s.nob∧Calls E.P f vs w λ
   | .returned v,w'=>∃g',TRel g' w' t v∧SRel g' s' w'∧Ext s.fl g w g' w'
   | .panicked _,_=>False
   | .outgrown,_=>False:=by
 unfold gamT at h
 split at h
 .cases h
 .rename_i c hc
  split at h
  .cases h
  .rename_i q ds os hds
   simp only[Option.map_eq_some_iff,Prod.mk.injEq] at h
   obtain ⟨s1,hfz,rfl,rfl,rfl⟩:=h
   let ⟨h0,h1,h2⟩:=toDs_sound hs args hds hp.1 hv.1 hv.2
   let ⟨g1,hs1,he1,hfr⟩:=freeze_sound os hs hfz h1
   have hrel:=h2 g1 s1 hs1 he1 hfr
   let ⟨hent,hcall⟩:=hE.gam _ _ hc
   have hlo:s1.lo=s.lo:=freeze_lo hfz
   refine ⟨hent,hlo,hfr.fl,hfr.nob,(hcall g1.imm w ds vs hs1.imm (by rw[h0,hv.1];simp) (λj d v hd hv'=>hrel j d v hd (by grind)) hp.2).mono λe w' he=>?_⟩
   cases e with
   |returned v=>
    let ⟨I',a1,a2,a3,a4,a5,a6,a7,a8⟩:=he
    let ⟨hs2,he2⟩:=hs1.grow (fl:=s1.fl) a1 a2 a3 a4 a5 a6 a7
    exact ⟨_,.sym _ _ a8,hs2,he1.trans (hfr.fl▸he2)⟩
   |panicked ch=>exact he.elim
   |outgrown=>exact he.elim
end
end TL
end
section
namespace TL
open Go
def stays (fr:Fr):Op->Bool
 | .store ..|.alloc ..|.box ..|.buildSlice ..=>false
 | .slice _ x _ _ _=>match opdT fr x with
  |some (.sh _ _)=>false
  |_=>true
 |_=>true
section
variable {g:Gh} {w:World}
theorem opT_stays {E:Env} {fr:Fr} {s s':St} {o:Op} {p:Prop} {t:T} (h:opT E fr s o=some (p,t,s')) (hq:stays fr o=true):s'=s:=by
 cases o with
 |store=>cases hq
 |alloc=>cases hq
 |box=>cases hq
 |buildSlice=>cases hq
 |slice ty x lo hi mx=>
  simp[opT] at h
  split at h
  .rename_i i v l hh m h1 h2 h3 h4 h5
   rcases sliceT_st h with h|h
   .exact h
   .simp[stays,h2] at hq
    have hown:ownSl v=[]:=by
     cases v<;>first|rfl|cases hq
    grind[freeze]
  .cases h
 |load ty x=>
  simp[opT] at h
  split at h
  .unfold loadT at h
   repeat' split at h
   all_goals first
    |(cases h;done)
    |(rcases cond_some h with ⟨_,h⟩|⟨_,h⟩<;>first|(cases h;done)|(simp only[Option.map_eq_some_iff,Prod.mk.injEq] at h;grind))
    |(simp only[Option.map_eq_some_iff,Prod.mk.injEq] at h;obtain ⟨_,_,_,_,rfl⟩:=h;rfl)
  .cases h
 |build ty parts=>
  simp[opT] at h
  split at h
  .split at h
   .simp only[Option.map_eq_some_iff,Prod.mk.injEq] at h;grind
   .cases h
  .cases h
 |indexAddr ty x ix=>
  simp[opT] at h
  split at h
  .unfold indexAddrT at h
   split at h
   .grind
   .have:=arrAddrT_st h
    grind
   .cases h
  .cases h
 |fieldAddr ty x k=>
  simp[opT] at h
  split at h
  .unfold fieldAddrT at h
   grind
  .cases h
 |field ty x k=>
  simp[opT] at h
  split at h
  .unfold fieldT at h
   repeat' split at h
   all_goals first
    |(cases h;done)
    |(rcases cond_some h with ⟨_,h⟩|⟨_,h⟩<;>first|(cases h;done)|(simp only[Option.map_eq_some_iff,Prod.mk.injEq] at h;grind))
  .cases h
 |typeAssert x xt ty ok=>
  simp[opT] at h
  split at h
  .unfold assertT at h
   repeat' split at h
   all_goals first
    |(cases h;done)
    |(rcases cond_some h with ⟨_,h⟩|⟨_,h⟩<;>first|(cases h;done)|(simp only[Option.some.injEq,Prod.mk.injEq] at h;obtain ⟨_,_,rfl⟩:=h;rfl)|(simp only[Option.map_eq_some_iff,Prod.mk.injEq] at h;grind))
  .cases h
 |convert src dst x=>
  simp[opT] at h
  split at h
  .unfold convT at h
   repeat' split at h
   all_goals first
    |(cases h;done)
    |(simp only[Option.map_eq_some_iff,Prod.mk.injEq] at h;obtain ⟨_,_,_,_,rfl⟩:=h;rfl)
  .cases h
 |extract x k=>
  simp[opT] at h
  split at h
  .unfold extractT at h
   repeat' split at h
   all_goals first
    |(cases h;done)
    |(simp only[Option.some.injEq,Prod.mk.injEq] at h;simp_all)
    |(simp only[Option.map_eq_some_iff,Prod.mk.injEq] at h;grind)
  .cases h
 |index ty x ix=>
  simp[opT] at h
  split at h
  .unfold indexT at h
   grind
  .cases h
 |makeInterface ty x=>
  simp[opT] at h
  grind
 |_=>
  simp only[opT] at h
  repeat' split at h
  all_goals first
   |(cases h;done)
   |(simp only[Option.some.injEq,Prod.mk.injEq] at h;obtain ⟨_,_,rfl⟩:=h;rfl)
   |(simp only[Option.map_eq_some_iff,Prod.mk.injEq] at h;obtain ⟨_,_,_,_,rfl⟩:=h;rfl)
theorem appendT_st {i:TI} {s s':St} {x y:T} {p:Prop} {t:T} (h:appendT i s x y=some (p,t,s')):s'.fl=s.fl∧s'.lo=s.lo∧s.nob<=s'.nob:=by
 rcases cond_some h with ⟨_,h⟩|⟨_,h⟩
 .cases h
 .split at h
  .split at h
   .obtain ⟨_,_,rfl⟩:=h
    exact ⟨rfl,rfl,by simp[newOb]⟩
   .split at h
    .obtain ⟨_,_,rfl⟩:=h
     exact ⟨rfl,rfl,by simp[newOb]⟩
    simp_all
   .grind
   .cases h
  .cases h
theorem run_enter {P:Program} {f:FuncId} (h:Enters P f) (args:Array Value):(callFunc f args).run P w=.ok (.enter f args) w:=by
 let ⟨fn,h1,h2,h3⟩:=h
 have h4:fn.body≠none:=by
  grind
 simp_all[callFunc]
theorem run_execCall {P:Program} {o:Oper} {c:Call} (ho:o.op=.call c) {fv:Operand} (hc:c.callee=.value fv) {a:Act} {f:FuncId} {first cap:Array Value} (hv:a.eval fv=.func (.func f) first cap) (he:Enters P f) :
  (execOp a.eval o).run P w=.ok (.enter f (first++c.args.map a.eval++cap)) w:=by
 grind[execOp,resolve,Deferred.ofValue,invoke,run_enter]
theorem eval_putO {fr:Fr} {a:Act} (hf:FRel g fr a w) {dst:Option Nat} (hd:okDst fr dst=true) (hn:fr.n<=bigN) {t:T} {v:Value} (ht:TRel g w t v):FRel g (fr.putO dst t) (a.put dst v) w:=by
 cases dst with
 |none=>exact hf
 |some d=>
  have hlt:d<fr.n:=Nat.le_of_ble_eq_true hd
  refine ⟨by simp[Act.put,Fr.putO,Fr.put,hf.size],hf.df,λk t' hk=>?_⟩
  simp[Fr.putO,Fr.put,Fr.get] at hk
  rw[Tr.get_set64 _ _ _ _ (Nat.lt_of_lt_of_le hlt hn)] at hk
  by_cases hkd:k=d
  .subst hkd
   rw[if_pos rfl] at hk
   simp at hk
   subst hk
   exact ⟨v,by simp[Act.put,hf.size,hlt],ht⟩
  .rw[if_neg hkd] at hk
   let ⟨u,hu,hr⟩:=hf.tm k t' hk
   grind[Act.put]
structure Aft (s:St) (g:Gh) (w:World) (s':St) (g':Gh) (w':World):Prop where
 rel:SRel g' s' w'
 ext:Ext s.fl g w g' w'
 fl:s'.fl=s.fl
 lo:s'.lo=s.lo
 nob:s.nob<=s'.nob
theorem Aft.refl {s:St} (h:SRel g s w):Aft s g w s g w:=⟨h,Ext.refl _ _ _,rfl,rfl,Nat.le_refl _⟩
theorem builtin_sound {E:Env} (hE:EnvOk E) {fr:Fr} {s s':St} {a:Act} (hf:FRel g fr a w) (hs:SRel g s w) {o:Oper} {c:Call} (hop:o.op=.call c) {b:Builtin} (hb:c.callee=.builtin b) {args:List T}
  (hargs:opdsT fr c.args.toList=some args) {p:Prop} {t:T} (h:builtinT E s b c.argTypes args=some (p,t,s')) (hp:p) {k:T->St->Prop} (hk:k t s')
  {K:Act->World->Prop} {Q:Exit->Act->World->Prop} (hK:∀t s' g' v w',k t s'->Aft s g w s' g' w'->TRel g' w' t v->K (a.put o.dst v) w') :
  o.wp E.P a w K Q∨(o.asks E.P a w∧LetsOut Q):=by
 have hpw:=opdsT_sound hf hargs
 cases b with
 |len=>
  left
  match args,hargs,hpw,h with
  |[x],hargs,hpw,h=>
   have hl:c.args.size=1:=by have:=hpw.1;grind
   obtain ⟨arr,ha⟩:∃u,c.args=#[u]:=⟨c.args[0],by
    grind⟩
   have hx:TRel g w x (a.eval arr):=hpw.2 0 _ _ rfl (by simp[ha])
   obtain ⟨v,hv,ht,rfl⟩:=len_sound (rt:=o.type) hs hE.ti h hp hx
   unfold Oper.wp
   have hrun:(execOp a.eval o).run E.P w=.ok (.value v) w:=by
    simp_all[execOp,resolve,invoke,builtin]
   rw[hrun]
   exact hK t s' g v w hk (Aft.refl hs) ht
  |[],_,_,h=>simp[builtinT] at h
  |_ ::_ ::_,_,_,h=>simp[builtinT] at h
 |append=>
  match args,hargs,hpw,h with
  |[x,y],hargs,hpw,h=>
   have hl:c.args.size=2:=by have:=hpw.1;grind
   obtain ⟨u,v,ha⟩:∃u v,c.args=#[u,v]:=⟨c.args[0],c.args[1],by
    grind⟩
   have hx:TRel g w x (a.eval u):=hpw.2 0 _ _ rfl (by simp[ha])
   have hy:TRel g w y (a.eval v):=hpw.2 1 _ _ rfl (by simp[ha])
   simp[builtinT] at h
   split at h
   .rename_i ty tx hty
    split at h
    .rename_i i j hi hj
     split at h
     .rename_i hjk
      have hat:c.argTypes=#[ty,tx]:=by
       grind
      have hap:=appendT_sound (rt:=o.type) (hE.ti _ _ hi) (hE.ti _ _ hj) ⟨_,_,_,_,hjk⟩ hs h hp hx hy
      let ⟨r,w',hrun,g',h1,h2,h3⟩:=hap
      left
      unfold Oper.wp
      have hrun':(execOp a.eval o).run E.P w=.ok (.value r) w':=by
       simp_all[execOp,resolve,invoke,builtin]
      rw[hrun']
      let ⟨e1,e2,e3⟩:=appendT_st h
      exact hK t s' g' r w' hk ⟨h1,h2,e1,e2,e3⟩ h3
     .cases h
    .cases h
   .cases h
  |[],_,_,h=>simp[builtinT] at h
  |[_],_,_,h=>simp[builtinT] at h
  |_ ::_ ::_ ::_,_,_,h=>simp[builtinT] at h
 |_=>simp[builtinT] at h
theorem wpOper_sound {E:Env} (hE:EnvOk E) {call:CallW} (hcall:CallOk E.P call) {fr:Fr} {s:St} {a:Act} (hf:FRel g fr a w) (hs:SRel g s w) {o:Oper} {kp k:T->St->Prop} (h:wpOper E call o fr s kp k)
  {K:Act->World->Prop} {Q:Exit->Act->World->Prop} (hK:∀t s' g' v w',k t s'->Aft s g w s' g' w'->TRel g' w' t v->K (a.put o.dst v) w')
  (hP:∀t s' g' v w',kp t s'->Aft s g w s' g' w'->TRel g' w' t v->Q (.panic [{v,recovered:=false}]) a w') :
  o.wp E.P a w K Q∨(o.asks E.P a w∧LetsOut Q):=by
 have plain:(match opT E fr s o.op with|none=>False|some (p,t,s')=>p∧k t s')->o.wp E.P a w K Q:=by
  intro h
  split at h
  .exact h.elim
  .rename_i p t s' hop
   let ⟨⟨v,w',g',hr,hs',he,ht⟩,h1,h2,h3⟩:=opT_sound hE.toTabOk hf hs o hop h.1
   unfold Oper.wp
   rcases hr with hr|⟨hr,rfl⟩
   .rw[hr]
    exact hK t s' g' v w' h.2 ⟨hs',he,h1,h2,h3⟩ ht
   .rw[hr]
    exact hK t s' g' undef w' h.2 ⟨hs',he,h1,h2,h3⟩ ht
 unfold wpOper at h
 split at h
 .rename_i c hop
  split at h
  .exact h.elim
  .rename_i args hargs
   have hpw:=opdsT_sound hf hargs
   split at h
   ·
    rename_i b hb
    split at h
    .exact h.elim
    .rename_i p t s' hbt
     exact builtin_sound hE hf hs hop hb hargs hbt h.1 h.2 hK
   ·
    rename_i fv hfv
    split at h
    .exact h.elim
    .rename_i f args' hfa
     left
     simp[Option.bind_eq_some_iff] at hfa
     let ⟨tf,htf,hcal⟩:=hfa
     have hrf:=opdT_sound hf htf
     unfold calleeT at hcal
     split at hcal
     .rename_i f' first cap
      obtain ⟨rfl,rfl⟩:=hcal
      generalize hvf:a.eval fv=vf at hrf
      cases hrf with
      |fn _ _ _ va vc l1 l2 r1 r2=>
      have hall:PW (TRel g w) (first++args++cap) (va++c.args.map a.eval++vc).toList:=by
       simp only[Array.toList_append,Array.toList_map]
       exact PW.append (PW.append ⟨by simpa using l1,λj x y h1 h2=>r1 j x y h1 (by simpa using h2)⟩ hpw) ⟨by simpa using l2,λj x y h1 h2=>r2 j x y h1 (by simpa using h2)⟩
      split at h
      .rename_i p t s' hg
       let ⟨hent,hlo,hfl,hnob,hc⟩:=gamT_sound hE hg h.1 hs hall
       unfold Oper.wp
       rw[run_execCall hop hfv hvf hent]
       refine hc.mono λe w' he=>?_
       cases e with
       |returned v=>
        let ⟨g',h1,h2,h3⟩:=he
        exact hK t s' g' v w' h.2 ⟨h2,h3,hfl,hlo,by omega⟩ h1
       |panicked ch=>exact he.elim
       |outgrown=>exact he.elim
      .let ⟨hent,hc⟩:=hcall _ _ _ _ _ h g w _ hs hall
       unfold Oper.wp
       rw[run_execCall hop hfv hvf hent]
       refine hc.mono λe w' he=>?_
       cases e with
       |returned v=>
        let ⟨t,s',g',h1,h2,h3,h4,h5,h6,h7⟩:=he
        exact hK t s' g' v w' h1 ⟨h3,h4,h5,h6,h7⟩ h2
       |panicked ch=>
        obtain ⟨v,t,s',g',rfl,h1,h2,h3,h4,h5,h6,h7⟩:=he
        exact hP t s' g' v w' h1 ⟨h3,h4,h5,h6,h7⟩ h2
       |outgrown=>exact he.elim
     .cases hcal
   grind
 .rename_i x hop
  split at h
  .rename_i tt tv hx
   left
   have hr:=opdT_sound hf hx
   unfold Oper.wp
   generalize hv:a.eval x=v at hr
   cases hr with
   |ifc _ _ u hu=>
   have:(execOp a.eval o).run E.P w=.halt (.panic (.iface tt u)) w:=by
    simp_all[execOp,Instr.panic]
   rw[this]
   exact hP _ _ g _ w h (Aft.refl hs) (.ifc _ _ _ hu)
  grind
 grind
end
end TL
end
section
namespace TL
open Go
section
variable {g:Gh} {w:World}
theorem Aft.trans {s s' s'':St} {g' g'':Gh} {w' w'':World} (h:Aft s g w s' g' w') (k:Aft s' g' w' s'' g'' w''):Aft s g w s'' g'' w'':=
 ⟨k.rel,h.ext.trans (h.fl▸k.ext),k.fl.trans h.fl,k.lo.trans h.lo,Nat.le_trans h.nob k.nob⟩
theorem guardT_sound {ops:Array Oper} {fr:Fr} {a:Act} (hf:FRel g fr a w) {o:Oper} {r:Option (Prop×Bool)} (h:guardT ops fr o=some r) :
  match r with
  |none=>Region.wanted o (yielded ops a.tmps)=true
  |some (p,c)=>p->Region.wanted o (yielded ops a.tmps)=c:=by
 unfold guardT at h
 split at h
 .grind[Region.wanted]
 .rename_i j want hg
  split at h
  .rename_i t ht
   split at h
   .rename_i p b hb
    simp at h
    subst h
    intro hp
    simp only[Option.bind_eq_some_iff,nth_eq] at ht
    let ⟨d,⟨o',ho',hd⟩,hfr⟩:=ht
    let ⟨v,hv,hr⟩:=hf.tm d t hfr
    have hvb:=boolT_sound hb hp hr
    subst hvb
    have ho2:ops[j]?=some o':=by grind
    have hy:yielded ops a.tmps j=some b:=by simp[yielded,ho2,hd,hv]
    simp only[Region.wanted,hg,hy,D.beq]
    cases b<;>cases want<;>rfl
   .cases h
  .cases h
theorem gdFr_sound {fr:Fr} {a:Act} (hf:FRel g fr a w) (hn:fr.n<=bigN) {c:Bool} (hc:c=true) {o:Op} {p:Prop} {f:Fr} (h:gdFr c fr o=some (p,f)) (hp:p):FRel g f a w:=by
 have key:∀(l:List Operand) (q:Prop) (f0:Fr),f0.n=fr.n->(q->FRel g f0 a w)->
   ∀p f,l.foldl (λr x=>match r,x with
    |some (p,f),.tmp k=>match f.get k with
     |some (.gd g v)=>some (p∧(c=true->g=true),f.put k v)
     |_=>some (p,f)
    |r,_=>r) (some (q,f0))=some (p,f)->p->FRel g f a w:=by
  intro l
  induction l with
  |nil=>
   simp_all
  |cons x l ih=>
   intro q f0 hn0 hq p f h hp
   simp at h
   cases x with
   |tmp k=>
    simp at h
    split at h
    .rename_i gb v hget
     refine ih _ _ (by simpa[Fr.put] using hn0) (λhpq=>?_) p f h hp
     have hf0:=hq hpq.1
     let ⟨u,hu,hr⟩:=hf0.tm k _ hget
     have hklt:k<f0.n:=by
      rw[<-hf0.size]
      grind
     refine ⟨hf0.size,hf0.df,λk' t' hk'=>?_⟩
     simp[Fr.put,Fr.get] at hk'
     rw[Tr.get_set64 _ _ _ _ (Nat.lt_of_lt_of_le hklt (hn0▸hn))] at hk'
     by_cases hkk:k'=k
     .subst hkk
      rw[if_pos rfl] at hk'
      simp at hk'
      cases hr with
      |gd _ _ _ hrel=>simp_all
     .rw[if_neg hkk] at hk'
      exact hf0.tm k' t' hk'
    grind
   |const v=>grind
   |global v=>grind
   |func v=>grind
 exact key o.operands.toList True fr rfl (λ_=>hf) p f h hp
theorem len_wp {E:Env} (hE:EnvOk E) {fr:Fr} {s s':St} {a:Act} (hf:FRel g fr a w) (hs:SRel g s w) {o:Oper} {c:Call} (hop:o.op=.call c) (hb:c.callee=.builtin .len) {args:List T}
  (hargs:opdsT fr c.args.toList=some args) {p:Prop} {t:T} (h:builtinT E s .len c.argTypes args=some (p,t,s')) (hp:p) :
  s'=s∧∃v,(execOp a.eval o).run E.P w=.ok (.value v) w∧TRel g w t v:=by
 have hpw:=opdsT_sound hf hargs
 match args,hargs,hpw,h with
 |[x],hargs,hpw,h=>
  have hl:c.args.size=1:=by have:=hpw.1;simpa using this.symm
  obtain ⟨arr,ha⟩:∃u,c.args=#[u]:=⟨c.args[0],by
   apply Array.ext
   .simp[hl]
   .intro i h1 h2
    have:i=0:=by omega
    subst this
    rfl⟩
  have hx:TRel g w x (a.eval arr):=hpw.2 0 _ _ rfl (by simp[ha])
  obtain ⟨v,hv,ht,rfl⟩:=len_sound (rt:=o.type) hs hE.ti h hp hx
  exact ⟨rfl,v,by simp[execOp,hop,resolve,hb,invoke,builtin,ha,hv],ht⟩
 |[],_,_,h=>simp[builtinT] at h
 |_ ::_ ::_,_,_,h=>simp[builtinT] at h
theorem quietT_sound {E:Env} (hE:EnvOk E) {fr:Fr} {s:St} {a:Act} (hf:FRel g fr a w) (hs:SRel g s w) {o:Oper} {q:Prop} {t:T} (h:quietT E fr s o=some (q,t)) (hq:q)
  {K:Act->World->Prop} {Q:Exit->Act->World->Prop} (hK:∀g' v w',Aft s g w s g' w'->TRel g' w' t v->K (a.put o.dst v) w') :
  o.wp E.P a w K Q:=by
 have plain:stays fr o.op=true->(opT E fr s o.op).map (λ(p,t,_)=>(p,t))=some (q,t)->o.wp E.P a w K Q:=by
  intro hst h
  simp only[Option.map_eq_some_iff,Prod.mk.injEq] at h
  obtain ⟨⟨p',t',s'⟩,hop,rfl,rfl⟩:=h
  let ⟨⟨v,w',g',hr,hs',he,ht⟩,h1,h2,h3⟩:=opT_sound hE.toTabOk hf hs o hop hq
  have hss:=opT_stays hop hst
  subst hss
  unfold Oper.wp
  rcases hr with hr|⟨hr,rfl⟩
  .rw[hr]
   exact hK g' v w' ⟨hs',he,rfl,rfl,Nat.le_refl _⟩ ht
  .rw[hr]
   exact hK g' undef w' ⟨hs',he,rfl,rfl,Nat.le_refl _⟩ ht
 unfold quietT at h
 split at h
 .rename_i c hop
  split at h
  .cases h
  .rename_i args hargs
   split at h
   .rename_i hb
    simp only[Option.map_eq_some_iff,Prod.mk.injEq] at h
    obtain ⟨⟨p',t',s'⟩,hbt,rfl,rfl⟩:=h
    obtain ⟨rfl,v,hrun,ht⟩:=len_wp hE hf hs hop hb hargs hbt hq
    unfold Oper.wp
    rw[hrun]
    exact hK g v w (Aft.refl hs) ht
   .rename_i fv hfv
    split at h
    .cases h
    .rename_i f args' hfa
     split at h
     .rename_i cc p ds hgam hds
      obtain ⟨rfl,rfl⟩:=h
      have hg:gamT E s f args'=some (p∧cc.pre ds,.sym (cc.f ds),s):=by simp[gamT,hgam,hds,freeze]
      simp[Option.bind_eq_some_iff] at hfa
      let ⟨tf,htf,hcal⟩:=hfa
      have hrf:=opdT_sound hf htf
      have hpw:=opdsT_sound hf hargs
      unfold calleeT at hcal
      split at hcal
      .rename_i f' first cap
       obtain ⟨rfl,rfl⟩:=hcal
       generalize hvf:a.eval fv=vf at hrf
       cases hrf with
       |fn _ _ _ va vc l1 l2 r1 r2=>
       have hall:PW (TRel g w) (first++args++cap) (va++c.args.map a.eval++vc).toList:=by
        simp only[Array.toList_append,Array.toList_map]
        exact PW.append (PW.append ⟨by simpa using l1,λj x y h1 h2=>r1 j x y h1 (by simpa using h2)⟩ hpw) ⟨by simpa using l2,λj x y h1 h2=>r2 j x y h1 (by simpa using h2)⟩
       let ⟨hent,hlo,hfl,hnob,hc⟩:=gamT_sound hE hg hq hs hall
       unfold Oper.wp
       rw[run_execCall hop hfv hvf hent]
       refine hc.mono λe w' he=>?_
       cases e with
       |returned v=>
        let ⟨g',h1,h2,h3⟩:=he
        exact hK g' v w' ⟨h2,h3,rfl,rfl,Nat.le_refl _⟩ h1
       |panicked ch=>exact he.elim
       |outgrown=>exact he.elim
      .cases hcal
     .cases h
   .cases h
 .cases h
 .cases h
 .cases h
 .cases h
 .grind[stays]
 .rename_i op h1 h2 h3 h4 h5 h6
  refine plain ?_ h
  cases hop:o.op with
  |call c=>rfl
  |store x y z=>simp_all
  |alloc x=>simp_all
  |box x y=>simp_all
  |buildSlice x y z=>simp_all
  |slice x y z u v=>grind
  |_=>rfl
theorem wpOps_sound {E:Env} (hE:EnvOk E) {call:CallW} (hcall:CallOk E.P call) {ops:Array Oper} {kp:Fr->T->St->Prop} {kk:Fr->St->Prop} {Q:Exit->Act->World->Prop} :
  ∀(l:List Oper) (k:Nat),ops.toList.drop k=l->∀{fr:Fr} {s:St} {a:Act} {g:Gh} {w:World},fr.n<=bigN->TL.wpOps E call ops kp kk l fr s->FRel g fr a w->SRel g s w->
   (∀fr' s' g' a' w',kk fr' s'->fr'.n=fr.n->FRel g' fr' a' w'->Aft s g w s' g' w'->Q .normal a' w')->
   (∀fr' t s' g' a' v w',kp fr' t s'->fr'.n=fr.n->FRel g' fr' a' w'->Aft s g w s' g' w'->TRel g' w' t v->Q (.panic [{v,recovered:=false}]) a' w')->
   Go.wpOps E.P ops Q (List.range' k l.length) a w:=by
 intro l
 induction l with
 |nil=>
  intro k _ fr s a g w _ h hf hs hK _
  exact hK fr s g a w h rfl hf (Aft.refl hs)
 |cons o l ih=>
  intro k hd fr s a g w hn h hf hs hK hP
  have hk:ops[k]?=some o:=by
   have:=congrArg (λm=>m[0]?) hd
   grind
  have hd':ops.toList.drop (k+1)=l:=by
   have:=congrArg (List.drop 1) hd
   grind[List.drop_drop]
  have rest:∀t s' g' v w',okDst fr o.dst=true->TL.wpOps E call ops kp kk l (fr.putO o.dst t) s'->Aft s g w s' g' w'->TRel g' w' t v->Go.wpOps E.P ops Q (List.range' (k+1) l.length) (a.put o.dst v) w':=by
   intro t s' g' v w' hdst h' haft ht
   have hf':=eval_putO (hf.ext haft.ext hs.imm) hdst hn ht
   have hn':(fr.putO o.dst t).n=fr.n:=by cases o.dst<;>rfl
   exact ih (k+1) hd' (by omega) h' hf' haft.rel
    (λfr' s'' g'' a' w'' h1 h2 h3 h4=>hK fr' s'' g'' a' w'' h1 (h2.trans hn') h3 (haft.trans h4))
    (λfr' t' s'' g'' a' v' w'' h1 h2 h3 h4 h5=>hP fr' t' s'' g'' a' v' w'' h1 (h2.trans hn') h3 (haft.trans h4) h5)
  rw[List.length_cons,List.range'_succ]
  unfold Go.wpOps
  simp[hk]
  simp[TL.wpOps] at h
  split at h
  .exact h.elim
  .exact h.elim
  .rename_i hdst hg
   have hw:=guardT_sound hf hg
   rw[if_pos hw]
   exact wpOper_sound hE hcall hf hs h (λt s' g' v w' h1 h2 h3=>rest t s' g' v w' hdst h1 h2 h3)
    (λt s' g' v w' h1 h2 h3=>hP fr t s' g' a v w' h1 rfl (hf.ext h2.ext hs.imm) h2 h3)
  .rename_i pg c hdst hg
   have hw:=guardT_sound hf hg
   split at h
   .exact h.elim
   .rename_i p f hgd
    split at h
    .exact h.elim
    .rename_i q t hq
     let ⟨h1,h2,h3,h4⟩:=h
     have hw:=hw h1
     cases c with
     |true=>
      rw[if_pos hw]
      left
      have hff:=gdFr_sound hf hn rfl hgd h2
      refine quietT_sound hE hff hs hq (h3 rfl) (λg' v w' haft ht=>?_)
      exact rest (.gd true t) s g' v w' hdst h4 haft (.gd _ _ _ λ_=>ht)
     |false=>
      rw[if_neg (by simp_all)]
      exact rest (.gd false t) s g undef w hdst h4 (Aft.refl hs) (.gd _ _ _ λh=>Bool.noConfusion h)
end
end TL
end
section
namespace TL
open Go
abbrev WR (r:Option Nat):Fence:={Fence.wide with round:=r}
section
variable {P:Program} {r:Option Nat}
theorem stepsR {m m':Machine}:StepsIn (Machine.fenced P (WR r)) P m m'↔Steps P m m':=stepsIn_wide
theorem callsR {n:Nat} {f:FuncId} {args:Array Value} {w:World} {R:Ending->World->Prop}:CallsIn (WR r) n P f args w R↔Calls P f args w R:=
 (callsIn_wide (n:=n):CallsIn Fence.wide n P f args w R↔_)
theorem roomR (n:Nat):(WR r).room n:=room_wide n
theorem rowsR {n:Nat} {row:String} {args:Array Value} {w:World} {R:Value->World->Prop} (h:Rows P row args w R):RowsIn (WR r) n P row args w R:=
 λc cs _=>let ⟨v,w',hr,hs⟩:=h c cs;⟨v,w',hr,stepsR.2 hs⟩
def OpR (r:Option Nat) (P:Program) (o:Oper) (a:Act) (w:World) (next:Act->World->Prop) (Q:Exit->Act->World->Prop):Prop:=
 o.uponIn (WR r) 0 P a next Q ((o.semAt r a.eval).run P w)∨(o.asks P a w∧(r≠none->∀c,o.op≠.defer c)∧LetsOut Q)
theorem OpR.of_wp {o:Oper} {a:Act} {w:World} {next:Act->World->Prop} {Q:Exit->Act->World->Prop} (hd:r≠none->∀c,o.op≠.defer c) (h:o.wp P a w next Q∨(o.asks P a w∧LetsOut Q)):OpR r P o a w next Q:=by
 rcases h with h|⟨h1,h2⟩
 .left
  have hsem:o.semAt r a.eval=execOp a.eval o:=by
   cases r with
   |none=>rfl
   |some l=>grind[Oper.semAt_eq]
  rw[hsem]
  unfold Oper.wp at h
  generalize (execOp a.eval o).run P w=res at h
  cases res with
  |ok x w'=>cases x with
   |enter f args=>exact ⟨λh=>by simp[Fence.wide] at h,callsR.2 h⟩
   |row row args=>exact ⟨λh=>by simp[Fence.wide] at h,rowsR h⟩
   |value v=>exact h
   |skip=>exact h
   |defer d=>exact h
   |_=>exact h.elim
  |halt x w'=>cases x<;>exact h
 .exact .inr ⟨h1,hd,h2⟩
theorem OpR.mono {o:Oper} {a:Act} {w:World} {next next':Act->World->Prop} {Q:Exit->Act->World->Prop} (hn:∀a w,next a w->next' a w) (h:OpR r P o a w next Q):OpR r P o a w next' Q:=by
 rcases h with h|h
 .left
  generalize (o.semAt r a.eval).run P w=res at h
  cases res with
  |ok x w'=>cases x with
   |enter f args=>exact ⟨h.1,h.2.mono λe w'' he=>by cases e<;>first|exact hn _ _ he|exact he⟩
   |row row args=>exact ⟨h.1,h.2.mono λ_ _ he=>hn _ _ he⟩
   |round l f tmps assign body=>exact ⟨h.1,h.2.mono λe w'' he=>by cases e<;>first|exact hn _ _ he|exact he⟩
   |value v=>exact hn _ _ h
   |skip=>exact hn _ _ h
   |defer d=>exact hn _ _ h
   |_=>exact h
  |halt x w'=>cases x<;>exact h
 .exact .inr h
abbrev ArrR (r:Option Nat) (P:Program):=ArrivesIn (Machine.fenced P (WR r)) P
section
variable {b:Frame} {a:Act} {k:List Item} {cs:List Frame} {w:World} {ops:Array Oper} {i:Nat} {rest:List Nat} {o:Oper}
theorem outgrownR (hro:b.roundOf=r) (hd:r≠none->∀c,o.op≠.defer c) (ho:ops[i]?=some o) (hw:Region.wanted o (yielded ops a.tmps)=true) (hb:b.kind≠.early) (h:o.asks P a w) :
  Outgrown P (lone (b.atR a (.inRegion ops (i ::rest) ::k)) cs w):=by
 have hsem:o.semAt b.roundOf a.eval=execOp a.eval o:=by
  rw[hro]
  cases r with
  |none=>rfl
  |some l=>grind[Oper.semAt_eq]
 have hg:=stepGR_op (P:=P) (b:=b) (k:=k) (cs:=cs) (w:=w) (rest:=rest) ho hw
 rw[hsem] at hg
 have hes:noRoomEvent∈(stepG P true {frame:=b.atR a (.inRegion ops (i ::rest) ::k),callers:=cs,status:=.running,dying:=none} w).es:=by
  rw[hg]
  have hk:((b.atR a (.inRegion ops (i ::rest) ::k)).kind==CallKind.early)=false:=by simpa[Frame.atR] using hb
  have hm:noRoomEvent∈Sem.events P (execOp a.eval o) w #[]:=h.1
  simp only[stepG.apply,Sem.runT_eq,if_true,hk,Bool.false_eq_true,if_false]
  rw[GStep.es_after]
  refine Array.mem_append.2 (.inl (seen_keeps P _ _ ?_))
  have hen:=h.2
  grind
 refine Outgrown.now (o:={g:=0,fn:=(b.atR a (.inRegion ops (i ::rest) ::k)).fn,pos:=(b.atR a (.inRegion ops (i ::rest) ::k)).place,act:=.mark .noRoom}) ?_ rfl rfl
 rw[stepT,move_lone]
 refine runT_lists P _ 0 {frame:=b.atR a (.inRegion ops (i ::rest) ::k),callers:=cs,status:=.running,dying:=none} (by simp[lone]) _ ?_
 exact mem_ofEvents (e:=noRoomEvent) (by simpa[lone] using hes)
theorem opR_step {next:Act->World->Prop} {Q:Exit->Act->World->Prop} (hro:b.roundOf=r) (ho:ops[i]?=some o) (hw:Region.wanted o (yielded ops a.tmps)=true) (h:OpR r P o a w next Q) :
  (∃a' w',next a' w'∧Steps P (lone (b.atR a (.inRegion ops (i ::rest) ::k)) cs w) (lone (b.atR a' (.inRegion ops rest ::k)) cs w'))∨
  ∃e a' w',Q e a' w'∧ArrR r P (lone (b.atR a (.inRegion ops (i ::rest) ::k)) cs w) b k cs e a' w':=by
 rcases h with h|⟨h1,h2,a₀,w₀,hq⟩
 rotate_left
 .by_cases hk:b.kind=.early
  .exact .inr ⟨.outgrown,a₀,w₀,hq,.inl hk⟩
  .exact .inr ⟨.outgrown,a₀,w₀,hq,.inr (outgrownR hro h2 ho hw hk h1)⟩
 have hg:=stepGR_op (P:=P) (b:=b) (k:=k) (cs:=cs) (w:=w) (rest:=rest) ho hw
 rw[hro] at hg
 have hfin:∀v,(b.atR a (.inRegion ops (i ::rest) ::k)).finish v=b.atR (a.put o.dst v) (.inRegion ops rest ::k):=λv=>by rw[Frame.finish_atR,ho];rfl
 generalize hres:(o.semAt r a.eval).run P w=res at h
 have enter:∀{fr:Frame} {w1:World},(stepG P true {frame:=b.atR a (.inRegion ops (i ::rest) ::k),callers:=cs,status:=.running,dying:=none} w).bare=.go {frame:=fr,callers:=b.atR a (.inRegion ops (i ::rest) ::k) ::cs,status:=.running,dying:=none} w1->
   step P (lone (b.atR a (.inRegion ops (i ::rest) ::k)) cs w)=.next (lone fr (b.atR a (.inRegion ops (i ::rest) ::k) ::cs) w1):=λh=>step_lone_go h
 cases res with
 |ok x w1=>cases x with
  |value v=>exact .inl ⟨_,_,h,.one (step_lone_go (by simp_all[stepG.apply]))⟩
  |skip=>exact .inl ⟨_,_,h,.one (step_lone_go (by simp_all[stepG.apply]))⟩
  |defer d=>
   have hf2:=Frame.finish_atR b {a with defers:=d ::a.defers} ops i rest k undef
   rw[ho] at hf2
   refine .inl ⟨_,_,h,.one (step_lone_go ?_)⟩
   rw[hg]
   simp only[stepG.apply,Sem.runT_eq,hres,GStep.bare_after]
   exact congrArg (λfr=>GStep.go {frame:=fr,callers:=cs,status:=.running,dying:=none} w1) hf2
  |enter f args=>
   obtain ⟨e,w2,fr,hR,hsteps,_,hleave⟩:=callsR.1 h.2 (b.atR a (.inRegion ops (i ::rest) ::k) ::cs)
   have h1:=enter (fr:=Frame.enter P f args .normal) (w1:=w1) (by simp_all[stepG.apply,Frame.atR])
   cases e with
   |returned v=>exact .inl ⟨_,_,hR,.head h1 (hsteps.trans (.one (by grind[step_leave_returned])))⟩
   |panicked ch=>exact .inr ⟨.panic ch,a,w2,hR,.inRegion ops (i ::rest) ::k,stepsR.2 (.head h1 (hsteps.trans (.one (by rw[<-Frame.raise_atR];exact step_leave_panicked hleave))))⟩
   |outgrown=>
    obtain ⟨a₀,w₀,hq⟩:=hR
    exact .inr ⟨.outgrown,a₀,w₀,hq,.inr (Outgrown.of_steps (.one h1) hsteps)⟩
  |row row args=>
   obtain ⟨v,w2,hR,hsteps⟩:=h.2 (b.atR a (.inRegion ops (i ::rest) ::k)) cs (roomR _)
   have h1:=enter (fr:=Frame.ofRow P row args .normal) (w1:=w1) (by simp_all[stepG.apply,Frame.atR])
   exact .inl ⟨_,_,hR,.head h1 (by rw[<-hfin];exact stepsR.1 hsteps)⟩
  |round l f tmps assign body=>
   obtain ⟨e,w2,hR,hsteps⟩:=h.2.2 (b.atR a (.inRegion ops (i ::rest) ::k)) cs (roomR _)
   have h1:=enter (fr:=Frame.round l f tmps assign body .normal) (w1:=w1) (by simp_all[stepG.apply,Frame.atR])
   cases e with
   |returned v=>exact .inl ⟨_,_,hR,.head h1 (by rw[<-hfin];exact stepsR.1 hsteps)⟩
   |panicked ch=>exact .inr ⟨.panic ch,a,w2,hR,.inRegion ops (i ::rest) ::k,stepsR.2 (.head h1 (by rw[<-Frame.raise_atR];exact stepsR.1 hsteps))⟩
   |outgrown=>
    obtain ⟨a₀,w₀,hq⟩:=hR
    exact .inr ⟨.outgrown,a₀,w₀,hq,.inr (Outgrown.of_steps (.one h1) hsteps)⟩
  |_=>exact h.elim
 |halt x w1=>cases x with
  |panic v=>
   refine .inr ⟨_,a,w1,h,.inRegion ops (i ::rest) ::k,stepsR.2 (.one (step_lone_go ?_))⟩
   simp_all[Frame.raise_atR,stepG.apply]
  |_=>exact h.elim
end
def OpsR (r:Option Nat) (P:Program) (ops:Array Oper) (Q:Exit->Act->World->Prop):List Nat->Act->World->Prop
 |[],a,w=>Q .normal a w
 |i ::rest,a,w=>match ops[i]? with
  |none=>OpsR r P ops Q rest a w
  |some o=>if Region.wanted o (yielded ops a.tmps) then OpR r P o a w (OpsR r P ops Q rest) Q else OpsR r P ops Q rest (a.put o.dst undef) w
theorem opsR_sound {ops:Array Oper} {Q:Exit->Act->World->Prop}:∀(l:List Nat) (a:Act) (w:World),OpsR r P ops Q l a w->∀(b:Frame) (k:List Item) (cs:List Frame),b.roundOf=r->
  ∃e a' w',Q e a' w'∧ArrR r P (lone (b.atR a (.inRegion ops l ::k)) cs w) b k cs e a' w'
 |[],a,w,h,b,k,cs,_=>⟨.normal,a,w,h,stepsR.2 (.one stepR_region_end)⟩
 |i ::rest,a,w,h,b,k,cs,hro=>by
  simp only[OpsR] at h
  cases ho:ops[i]? with
  |none=>
   simp only[ho] at h
   obtain ⟨e,a',w',hq,harr⟩:=opsR_sound rest a w h b k cs hro
   have hs:=stepR_op_skip (P:=P) (b:=b) (a:=a) (k:=k) (cs:=cs) (w:=w) (ops:=ops) (i:=i) (rest:=rest) (by simp[ho])
   simp only[ho,Option.bind_none,Act.put] at hs
   exact ⟨e,a',w',hq,.of_steps (stepsR.2 (.one hs)) harr⟩
  |some o=>
   simp only[ho] at h
   by_cases hw:Region.wanted o (yielded ops a.tmps)=true
   .simp only[hw,if_true] at h
    rcases opR_step (k:=k) (cs:=cs) (rest:=rest) hro ho hw h with ⟨a1,w1,hn,hs⟩|hx
    .obtain ⟨e,a',w',hq,harr⟩:=opsR_sound rest a1 w1 hn b k cs hro
     exact ⟨e,a',w',hq,.of_steps (stepsR.2 hs) harr⟩
    .exact hx
   .simp only[hw,if_false,Bool.false_eq_true] at h
    obtain ⟨e,a',w',hq,harr⟩:=opsR_sound rest _ w h b k cs hro
    have hs:=stepR_op_skip (P:=P) (b:=b) (a:=a) (k:=k) (cs:=cs) (w:=w) (ops:=ops) (i:=i) (rest:=rest) (by simp_all)
    simp only[ho,Option.bind_some] at hs
    exact ⟨e,a',w',hq,.of_steps (stepsR.2 (.one hs)) harr⟩
theorem region_R {id:Nat} {ops:Array Oper} {Q:Exit->Act->World->Prop} {a:Act} {w:World} (h:OpsR r P ops Q (List.range ops.size) a w):(Code.region id ops false).wpIn (WR r) 0 P Q a w:=
 λb k cs hro _ _=>let ⟨e,a',w',hq,harr⟩:=opsR_sound _ a w h b k cs hro;⟨e,a',w',hq,.of_steps (stepsR.2 (.one stepR_region)) harr⟩
def OpAt (r:Option Nat) (P:Program) (ops:Array Oper) (Q:Exit->Act->World->Prop) (i:Nat) (K:Act->World->Prop) (a:Act) (w:World):Prop:=
 match ops[i]? with
 |none=>K a w
 |some o=>if Region.wanted o (yielded ops a.tmps) then OpR r P o a w K Q else K (a.put o.dst undef) w
theorem OpAt.mono {ops:Array Oper} {Q:Exit->Act->World->Prop} {i:Nat} {a:Act} {w:World} {K K':Act->World->Prop} (h:∀a w,K a w->K' a w) (hh:OpAt r P ops Q i K a w):OpAt r P ops Q i K' a w:=by
 unfold OpAt at *
 split
 .simp_all
 .rename_i o ho
  simp only[ho] at hh
  split
  .rename_i hw;simp only[hw,if_true] at hh;exact hh.mono h
  simp_all
def AnyR (r:Option Nat) (P:Program) (ops:Array Oper) (Q:Exit->Act->World->Prop):Nat->Array Bool->Act->World->Prop
 |0,listed,a,w=>Region.ready .any ops listed=[]∧Q .normal a w
 |fuel+1,listed,a,w=>(Region.ready .any ops listed=[]->Q .normal a w)∧
  ∀i∈Region.ready .any ops listed,OpAt r P ops Q i (AnyR r P ops Q fuel (listed.setIfInBounds i true)) a w
theorem opsR_cons {ops:Array Oper} {Q:Exit->Act->World->Prop} (i:Nat) (rest:List Nat) (a:Act) (w:World):OpsR r P ops Q (i ::rest) a w=OpAt r P ops Q i (OpsR r P ops Q rest) a w:=by
 cases h:ops[i]?<;>simp[OpsR,OpAt,h]
theorem anyR_sound {ops:Array Oper} {Q:Exit->Act->World->Prop}:∀(fuel t:Nat) (listed:Array Bool) (a:Act) (w:World),AnyR r P ops Q fuel listed a w->OpsR r P ops Q (Region.linearise.go .any ops fuel t listed []) a w
 |0,t,listed,a,w,h=>by simpa[Region.linearise.go,OpsR] using h.2
 |fuel+1,t,listed,a,w,h=>by
  obtain ⟨h₀,h₁⟩:=h
  simp only[Region.linearise.go]
  change OpsR r P ops Q (match (Region.ready .any ops listed)[t%(Region.ready .any ops listed).length]? with
   |some i=>Region.linearise.go .any ops fuel (t/(Region.ready .any ops listed).length) (listed.setIfInBounds i true) [i]
   |none=>[].reverse) a w
  generalize Region.ready .any ops listed=l at *
  cases l with
  |nil=>simpa[OpsR] using h₀ rfl
  |cons x xs=>
   have hlt:t%(x ::xs).length<(x ::xs).length:=Nat.mod_lt _ (by simp)
   rw[List.getElem?_eq_getElem hlt]
   dsimp only
   rw[linearise_go_acc,List.reverse_singleton,List.singleton_append,opsR_cons]
   exact (h₁ _ (List.getElem_mem hlt)).mono λa w=>anyR_sound fuel _ _ a w
theorem region_anyR {id:Nat} {ops:Array Oper} {Q:Exit->Act->World->Prop} {a:Act} {w:World} (hm:P.follows .mixedOrders=true)
  (h:AnyR r P ops Q ops.size (Array.replicate ops.size false) a {w with drawn:=w.drawn+1}):(Code.region id ops true).wpIn (WR r) 0 P Q a w:=by
 intro b k cs hro _ _
 have h2:∀t,OpsR r P ops Q (Region.schedule (P.follows .mixedOrders) ops t) a {w with drawn:=w.drawn+1}:=λt=>by
  simp only[Region.schedule,hm,Bool.true_or,if_true]
  exact anyR_sound ops.size t _ a _ h
 obtain ⟨e,a',w',hq,harr⟩:=opsR_sound _ a _ (h2 _) b k cs hro
 exact ⟨e,a',w',hq,.of_steps (stepsR.2 (.one stepR_region_draw)) harr⟩
def jumpX:Exit->Option (Option Code)
 | .normal=>some none
 | .ret=>some (some .ret)
 | .exit i=>some (some (.exit i))
 |_=>none
def roundEnd (P:Program) (l:Nat) (R:Ending->World->Prop) (e:Exit) (_:Act) (w:World):Prop:=
 (e=.outgrown∧R .outgrown w)∨∃j,jumpX e=some j∧∃v w',(Instr.endRound l j).run P w=.ok v w'∧R (.returned v) w'
theorem roundR {l:Nat} {f:FuncId} {tmps:Array Value} {assign body:Code} {w:World} {R:Ending->World->Prop}
  (h:assign.wpIn (WR (some l)) 0 P (Exit.then (λa₁ w₁=>∃w₂,(Instr.beginRound l).run P w₁=.ok () w₂∧body.wpIn (WR (some l)) 0 P (roundEnd P l R) a₁ w₂) (λe _ w=>e=.outgrown∧R .outgrown w)) {tmps:=tmps,defers:=[]} w) {n:Nat} :
  RoundIn (WR r) n P l f tmps assign body w R:=by
 refine ⟨trivial,λc cs _=>?_⟩
 let b:Frame:={(default:Frame) with fn:=f,kind:=.normal,roundOf:=some l}
 have hb0:Frame.round l f tmps assign body .normal=b.atR {tmps:=tmps,defers:=[]} [.code assign,.beginRound,.code body]:=by rfl
 obtain ⟨e,a₁,w₁,hq,harr⟩:=h b [.beginRound,.code body] (c ::cs) rfl trivial (roomR _)
 rw[<-hb0] at harr
 have out:∀{e:Exit} {a:Act} {w':World},(e=.outgrown∧R .outgrown w')->ArrR (some l) P (lone (Frame.round l f tmps assign body .normal) (c ::cs) w) b [.beginRound,.code body] (c ::cs) e a w'->
   ∃e w',R e w'∧ComesIn (Machine.fenced P (WR r)) P (lone (Frame.round l f tmps assign body .normal) (c ::cs) w) (match e with|.returned v=>lone (c.finish v) cs w'|.panicked chain=>lone (c.raise chain) cs w'|.outgrown=>lone c cs w') e:=by
  rintro e a w' ⟨rfl,hR⟩ harr
  exact ⟨.outgrown,w',hR,harr.resolve_left (by simp[b])⟩
 cases e with
 |normal=>
  obtain ⟨w₂,hbr,hbody⟩:=hq
  have s1:Steps P (lone (b.atR a₁ [.beginRound,.code body]) (c ::cs) w₁) (lone (b.atR a₁ [.code body]) (c ::cs) w₂):=.one (stepR_beginRound rfl hbr)
  obtain ⟨e₂,a₂,w₃,hq₂,harr₂⟩:=hbody b [] (c ::cs) rfl trivial (roomR _)
  rcases hq₂ with ⟨rfl,hq₂⟩|⟨j,hj,v,w₄,hend,hR⟩
  .exact ⟨.outgrown,w₃,hq₂,Outgrown.of_steps ((stepsR.1 harr).trans s1) (harr₂.resolve_left (by simp[b]))⟩
  cases e₂ with
  |normal=>
   cases hj
   exact ⟨.returned v,w₄,hR,stepsR.2 ((stepsR.1 harr).trans (s1.trans ((stepsR.1 harr₂).trans (.one (stepR_round_end rfl rfl hend)))))⟩
  |ret=>
   cases hj
   obtain ⟨k₁,hs⟩:=harr₂.2 rfl
   exact ⟨.returned v,w₄,hR,stepsR.2 ((stepsR.1 harr).trans (s1.trans ((stepsR.1 hs).trans (.one (stepR_round_ret rfl rfl hend)))))⟩
  |exit id=>
   cases hj
   obtain ⟨k₁,hk,hs⟩:=harr₂.2 rfl rfl
   exact ⟨.returned v,w₄,hR,stepsR.2 ((stepsR.1 harr).trans (s1.trans ((stepsR.1 hs).trans (.one (stepR_round_exit rfl rfl hk hend)))))⟩
  |_=>cases hj
 |_=>exact out hq harr
def LeavesM (P:Program) (fn:Func) (tmps:Array Value) (R:Ending->World->Prop):List Deferred->FrameMode->World->Prop
 |[],.returning,w=>∃v,(results fn tmps).run P w=.ok v w∧R (.returned v) w
 |[],.panicking chain,w=>R (.panicked chain) w
 |[],.run,_=>False
 |d ::ds,u,w=>u≠.run∧((∃b w',d.target=.collected b∧(Instr.takeDeferred b).run P w=.ok [] w'∧LeavesM P fn tmps R ds u w')∨
   ∃fv cap f args,d.target=.fn fv cap∧(invoke d.target d.args).run P w=.ok (.enter f args) w∧CallsD P f args u w λ
    | .returned _,u',w'=>LeavesM P fn tmps R ds (settle u') w'
    | .panicked chain,u',w'=>LeavesM P fn tmps R ds (raised u' chain) w'
    | .outgrown,_,w'=>R .outgrown w')
theorem leavesM_steps {fn:Func} {tmps:Array Value} {R:Ending->World->Prop}:∀(ds:List Deferred) (u:FrameMode) (w:World) (fr:Frame) (cs:List Frame),fr.mode=u->fr.defers=ds->fr.tmps=tmps->P.funcs[fr.fn]?=some fn->fr.kind=.normal->LeavesM P fn tmps R ds u w->
  ∃e w' fr',R e w'∧Comes P (lone fr cs w) (lone fr' cs w') e∧fr'.fn=fr.fn∧fr'.leaving P w' e:=by
 intro ds
 induction ds with
 |nil=>
  intro u w fr cs hu hd ht hf hk h
  cases u with
  |run=>exact h.elim
  |returning=>
   obtain ⟨v,hr,hR⟩:=h
   exact ⟨.returned v,w,fr,hR,Steps.refl P _,rfl,hu,hd,hk,fn,hf,ht▸hr⟩
  |panicking chain=>exact ⟨.panicked chain,w,fr,h,Steps.refl P _,rfl,hu,hd,fn,hf⟩
 |cons d ds ih=>
  intro u w fr cs hu hd ht hf hk h
  obtain ⟨hrun,h⟩:=h
  rcases h with ⟨b,w',htar,htake,hrest⟩|⟨fv,cap,f,args,htar,hinv,hcall⟩
  .have h1:=step_collected (cs:=cs) (hu▸hrun) hd htar htake
   obtain ⟨e',w2,fr',hR,hs,hfn,hl⟩:=ih u w' {fr with defers:=[]++ds} cs hu rfl ht hf hk hrest
   exact ⟨e',w2,fr',hR,Comes.of_steps (.one h1) hs,hfn,hl⟩
  .have h1:=step_defer (cs:=cs) (hu▸hrun) hd htar hinv
   obtain ⟨e,u',w',frX,hR,hsteps,hkX,hgo⟩:=hcall {fr with defers:=ds} cs hu
   cases e with
   |returned v=>
    have h2:=step_going_returned (c:={{fr with defers:=ds} with mode:=u'}) (cs:=cs) hkX hgo
    obtain ⟨e',w2,fr',hR',hs',hfn',hl'⟩:=ih (settle u') w' {{{fr with defers:=ds} with mode:=u'} with mode:=settle u'} cs rfl rfl ht hf hk hR
    exact ⟨e',w2,fr',hR',Comes.of_steps (.head h1 (Steps.trans hsteps (.one h2))) hs',hfn',hl'⟩
   |panicked chain=>
    have h2:=step_going_panicked (c:={{fr with defers:=ds} with mode:=u'}) (cs:=cs) hgo
    obtain ⟨e',w2,fr',hR',hs',hfn',hl'⟩:=ih (raised u' chain) w' {{{fr with defers:=ds} with mode:=u'} with mode:=raised u' chain} cs rfl rfl ht hf hk hR
    exact ⟨e',w2,fr',hR',Comes.of_steps (.head h1 (Steps.trans hsteps (.one h2))) hs',hfn',hl'⟩
   |outgrown=>exact ⟨.outgrown,w',fr,hR,Outgrown.of_steps (.one h1) hsteps,rfl,trivial⟩
def bodyM (P:Program) (fn:Func) (R:Ending->World->Prop):Exit->Act->World->Prop
 | .normal,a,w|.ret,a,w=>LeavesM P fn a.tmps R a.defers .returning w
 | .panic chain,a,w=>LeavesM P fn a.tmps R a.defers (.panicking chain) w
 | .outgrown,_,w=>R .outgrown w
 |_,_,_=>False
theorem calls_of_body {f:FuncId} {fn:Func} {c:Code} {args:Array Value} {w:World} {R:Ending->World->Prop} (hf:P.funcs[f]?=some fn) (hb:fn.body=some c)
  (h:c.wpIn (WR none) 0 P (bodyM P fn R) {tmps:=args++Array.replicate (fn.ntmps-args.size) undef,defers:=[]} w):Calls P f args w R:=by
 intro cs
 let b:Frame:={(default:Frame) with fn:=f,kind:=.normal}
 have henter:Frame.enter P f args .normal=b.at {tmps:=args++Array.replicate (fn.ntmps-args.size) undef,defers:=[]} [.code c]:=by simp[Frame.enter,Frame.at,hf,hb,b]
 obtain ⟨e,a',w',hq,harr⟩:=wpIn_wide.1 h b [] cs
 rw[<-henter] at harr
 cases e with
 |normal=>
  obtain ⟨e',w2,fr',hR,hs,hfn,hl⟩:=leavesM_steps a'.defers .returning w' {b.at a' [] with mode:=.returning} cs rfl rfl rfl hf rfl hq
  exact ⟨e',w2,fr',hR,Comes.of_steps (Steps.trans harr (.one step_end)) hs,hfn,hl⟩
 |ret=>
  obtain ⟨todo,hs₀⟩:=harr
  obtain ⟨e',w2,fr',hR,hs,hfn,hl⟩:=leavesM_steps a'.defers .returning w' {b.at a' todo with mode:=.returning} cs rfl rfl rfl hf rfl hq
  exact ⟨e',w2,fr',hR,Comes.of_steps hs₀ hs,hfn,hl⟩
 |panic chain=>
  obtain ⟨todo,hs₀⟩:=harr
  obtain ⟨e',w2,fr',hR,hs,hfn,hl⟩:=leavesM_steps a'.defers (.panicking chain) w' {b.at a' todo with mode:=.panicking chain} cs rfl rfl rfl hf rfl hq
  exact ⟨e',w2,fr',hR,Comes.of_steps hs₀ hs,hfn,hl⟩
 |exit id=>exact hq.elim
 |goto l=>exact hq.elim
 |outgrown=>exact ⟨.outgrown,w',b,hq,harr.resolve_left (by simp[b]),rfl,trivial⟩
end
end TL
end
section
namespace TL
open Go
section
variable {g:Gh} {w:World}
theorem loadT_addr {i:TI} {s:St} {x:T} {vx:Value} {r:Prop×T×St} (h:loadT i s x=some r) (hx:TRel g w x vx):∃ad,vx=.pointer (some ad):=by
 cases hx with
 |ptr o off b hb=>grind
 |ept=>grind
 |epw=>grind
 |_=>simp[loadT] at h
def resF (tmps:Array Value):ResultVar->Sem Value
 | .tmp t=>pure (tmps.getD t undef)
 | .cell a t=>do loadVar t (<-asAddr (tmps.getD a undef))
theorem resultsT_sound {E:Env} (hE:TabOk E) {fr:Fr} {s:St} {a:Act} (hf:FRel g fr a w) (hs:SRel g s w):∀{l:List ResultVar} {p:Prop} {ts:List T},resultsT E s fr l=some (p,ts)->p->
  ∃vs,(l.mapM (resF a.tmps)).run E.P w=.ok vs w∧PW (TRel g w) ts vs
 |[],p,ts,h,hp=>by
  obtain ⟨_,rfl⟩:=h
  exact ⟨[],rfl,rfl,λj t v h=>by simp at h⟩
 | .tmp t ::l,p,ts,h,hp=>by
  simp[resultsT] at h
  split at h
  .rename_i x q r hx hr
   obtain ⟨rfl,rfl⟩:=h
   let ⟨vs,h1,h2⟩:=resultsT_sound hE hf hs hr hp
   let ⟨v,hv,ht⟩:=hf.tm t x hx
   refine ⟨v ::vs,?_,by simp[h2.1],λj t' v' k1 k2=>?_⟩
   .simp_all[resF]
   .cases j with
    |zero=>simp_all
    |succ j=>exact h2.2 j t' v' (by simpa using k1) (by simpa using k2)
  .cases h
 | .cell ad t ::l,p,ts,h,hp=>by
  simp[resultsT] at h
  split at h
  .rename_i i x hi hx
   split at h
   .rename_i q y s' r ys hy hr
    obtain ⟨rfl,rfl⟩:=h
    let ⟨vs,h1,h2⟩:=resultsT_sound hE hf hs hr hp.2
    let ⟨v,hv,ht⟩:=hf.tm ad x hx
    let ⟨u,hu,htu,_⟩:=loadT_sound (hE.ti _ _ hi) hs ht hy hp.1
    obtain ⟨aa,rfl⟩:=loadT_addr hy ht
    have hu':(loadVar t aa).run E.P w=.ok u w:=by grind[Instr.loadAt,Instr.sureAddr]
    refine ⟨u ::vs,?_,by simp[h2.1],λj t' v' k1 k2=>?_⟩
    .simp_all[resF,asAddr]
    .cases j with
     |zero=>simp_all
     |succ j=>exact h2.2 j t' v' (by simpa using k1) (by simpa using k2)
   .cases h
  .cases h
theorem run_results {E:Env} (hE:TabOk E) {fr:Fr} {s:St} {a:Act} (hf:FRel g fr a w) (hs:SRel g s w) {fn:Func} {p:Prop} {ts:List T} (h:resultsT E s fr fn.results.toList=some (p,ts)) (hp:p) :
  ∃v,(results fn a.tmps).run E.P w=.ok v w∧TRel g w (tupT ts) v:=by
 let ⟨vs,h1,h2⟩:=resultsT_sound hE hf hs h hp
 refine ⟨if h:vs.toArray.size=1 then vs.toArray[0] else .tuple vs.toArray,?_,?_⟩
 .have e:results fn a.tmps=(do
    let vs <-fn.results.mapM (resF a.tmps)
    pure (if h:vs.size=1 then vs[0] else .tuple vs)):=by
   rfl
  simp_all[Array.mapM_eq_mapM_toList]
 .match ts,vs,h2 with
  |[],[],_=>exact .tup _ _ rfl (λj t v h=>by simp at h)
  |[t],[v],h2=>exact h2.2 0 t v rfl rfl
  |t ::t' ::ts,v ::v' ::vs,h2=>
   simp only[tupT,List.size_toArray,List.length_cons]
   exact .tup _ _ (by simpa using h2.1) (λj t v h3 h4=>h2.2 j t v h3 (by simpa using h4))
  |[],_ ::_,h2=>exact absurd h2.1 (by simp)
  |_ ::_,[],h2=>exact absurd h2.1 (by simp)
  |[_],_ ::_ ::_,h2=>exact absurd h2.1 (by simp)
  |_ ::_ ::_,[_],h2=>exact absurd h2.1 (by simp)
theorem initTm_get:∀(l:List T) (k:Nat) (t:Tr T),k+l.length<=bigN->∀j,(initTm l k t).get j=if k<=j∧j<k+l.length then l[j-k]? else t.get j
 |[],k,t,_,j=>by
  have:¬(k<=j∧j<k+([]:List T).length):=by simp
  rw[if_neg this]
  rfl
 |a ::l,k,t,h,j=>by
  simp at h
  simp only[initTm]
  rw[initTm_get l (k+1) _ (by omega),Tr.get_set64 _ _ _ _ (by omega)]
  grind
end
end TL
end
section
namespace TL
open Go
inductive Ty where
 |int (k:IntKind)|bool|str
 |sl (e:Ty)
 |st (n:Nat)
 |ifc (n:Nat)
 |opt (n:Nat)
 |mp (k v:Ty)
 deriving Inhabited
def tyEq:Ty->Ty->Bool
 | .int j,.int k=>kindEq j k
 | .bool,.bool=>true
 | .str,.str=>true
 | .sl a,.sl b=>tyEq a b
 | .st m,.st n=>Nat.beq m n
 | .ifc m,.ifc n=>Nat.beq m n
 | .opt m,.opt n=>Nat.beq m n
 | .mp a b,.mp c d=>tyEq a c&&tyEq b d
 |_,_=>false
theorem tyEq_eq {a:Ty}:∀{b:Ty},tyEq a b=true->a=b:=by
 induction a with
 |int j=>
  intro b h
  cases b with
  |int k=>
   have:j=k:=by cases j<;>cases k<;>first|rfl|cases h
   rw[this]
  |_=>cases h
 |bool=>intro b h;cases b<;>first|rfl|cases h
 |str=>intro b h;cases b<;>first|rfl|cases h
 |sl e ih=>
  intro b h
  cases b with
  |sl f=>rw[ih h]
  |_=>cases h
 |st m=>
  intro b h
  cases b with
  |st n=>rw[Nat.eq_of_beq_eq_true h]
  |_=>cases h
 |ifc m=>
  intro b h
  cases b with
  |ifc n=>rw[Nat.eq_of_beq_eq_true h]
  |_=>cases h
 |opt m=>
  intro b h
  cases b with
  |opt n=>rw[Nat.eq_of_beq_eq_true h]
  |_=>cases h
 |mp k v ih ih'=>
  intro b h
  cases b with
  |mp c d=>
   have h:=Bool.and_eq_true_iff.1 h
   rw[ih h.1,ih' h.2]
  |_=>cases h
@[reducible] def den (A:Nat->Type):Ty->Type
 | .int _=>Int
 | .bool=>Bool
 | .str=>List UInt8
 | .sl e=>List (den A e)
 | .st n=>A n
 | .ifc n=>A n
 | .opt n=>Option (A n)
 | .mp k v=>List (den A k×den A v)
@[reducible] def hden (A:Nat->Type):List Ty->Type
 |[]=>Unit
 |t ::l=>den A t×hden A l
@[reducible] def iden (A:Nat->Type):List (TypeId×Ty)->Type
 |[]=>Unit
 |p ::l=>Sum (den A p.2) (iden A l)
def altTy:List (TypeId×Ty)->Nat->Ty
 |[],_=>.bool
 |p ::_,0=>p.2
 |_ ::l,i+1=>altTy l i
def altIx:List (TypeId×Ty)->TypeId->Option Nat
 |[],_=>none
 |p ::l,t=>bif Nat.beq p.1 t then some 0 else match altIx l t with
  |some i=>some (Nat.succ i)
  |none=>none
def injI {A:Nat->Type}:(l:List (TypeId×Ty))->(i:Nat)->den A (altTy l i)->iden A l
 |[],_,_=>()
 |_ ::_,0,x=>.inl x
 |_ ::l,i+1,x=>.inr (injI l i x)
def nilI {A:Nat->Type}:(l:List (TypeId×Ty))->iden A l
 |[]=>()
 |_ ::l=>.inr (nilI l)
def isNil {A:Nat->Type}:(l:List (TypeId×Ty))->iden A l->Bool
 |[],_=>true
 |_ ::_,.inl _=>false
 |_ ::l,.inr y=>isNil l y
def isAlt {A:Nat->Type}:(l:List (TypeId×Ty))->Nat->iden A l->Bool
 |[],_,_=>false
 |_ ::_,0,.inl _=>true
 |_ ::_,0,.inr _=>false
 |_ ::_,_+1,.inl _=>false
 |_ ::l,i+1,.inr y=>isAlt l i y
def getAlt {A:Nat->Type} (z:(t:Ty)->den A t):(l:List (TypeId×Ty))->(i:Nat)->iden A l->den A (altTy l i)
 |[],_,_=>z .bool
 |_ ::_,0,.inl x=>x
 |p ::_,0,.inr _=>z p.2
 |_ ::l,i+1,.inl _=>z (altTy l i)
 |_ ::l,i+1,.inr y=>getAlt z l i y
structure Sg where
 A:Nat->Type
 fs:Nat->List Ty
 dfl:(n:Nat)->A n
 get:(n:Nat)->A n->hden A (fs n)
 mkS:(n:Nat)->hden A (fs n)->A n
 cells:(n:Nat)->A n->List D
 alts:Nat->List (TypeId×Ty)
 iget:(n:Nat)->A n->iden A (alts n)
 imk:(n:Nat)->iden A (alts n)->A n
 icell:(n:Nat)->A n->Option (TypeId×D)
 pt:Ty
variable {S:Sg}
def Sg.zero (S:Sg):(t:Ty)->den S.A t
 | .int _=>(0:Int)
 | .bool=>false
 | .str=>([]:List UInt8)
 | .sl _=>[]
 | .st n=>S.dfl n
 | .ifc n=>S.imk n (nilI (S.alts n))
 | .opt _=>none
 | .mp _ _=>[]
def toBytes (s:List UInt8):ByteArray:=⟨s.toArray⟩
def ofBytes (b:ByteArray):List UInt8:=b.data.toList
def ifD:Option (TypeId×D)->D
 |none=>.lit .nilIface
 |some p=>.ifc p.1 p.2
def ptD:Option D->D
 |none=>.lit (.pointer none)
 |some d=>.pt d
def enc (S:Sg):(t:Ty)->den S.A t->D
 | .int k,n=>.lit (.int k n)
 | .bool,b=>.lit (.bool b)
 | .str,s=>.lit (.string (toBytes s))
 | .sl e,l=>.sl (l.map (enc S e))
 | .st n,x=>.agg (S.cells n x)
 | .ifc n,x=>ifD (S.icell n x)
 | .opt n,x=>ptD (x.map λy=>.agg (S.cells n y))
 | .mp k v,l=>.mp (l.map λp=>enc S k p.1) (l.map λp=>enc S v p.2)
def encH (S:Sg):(ts:List Ty)->hden S.A ts->List D
 |[],_=>[]
 |t ::l,x=>enc S t x.1 ::encH S l x.2
def isSt:Ty->Bool|.st _=>true|_=>false
def Sg.width (S:Sg):Ty->Nat|.st n=>lenL (S.fs n)|_=>1
inductive V (S:Sg) where
 |ty (t:Ty) (x:den S.A t)
 |kb (b:Bool)
 |kn (k:IntKind) (n:Int)
 |dat (d:D)
 |ptr (o off:Nat)
 |ept (t:Ty) (x:den S.A t) (off:Nat)
 |epw (o e i off:Nat)
 |sh (o e:Nat)
 |emp
 |clp (n:Nat) (t:Ty) (l:List (den S.A t))
 |fn (f:Fn) (first cap:List (V S))
 |ifc (t:TypeId) (v:V S)
 |agg (cs:List (V S))
 |tup (vs:List (V S))
 |gd (c:Bool) (v:V S)
 |mp (o:Nat)
 |yld (o:Nat)
 |slb (o n:Nat)
 |itr (o:Nat)
 |ub (e:Bool)
 |nel (o m r i:Nat)
 |cln (n j:Nat) (x:S.A n)
inductive DfV (S:Sg) where
 |call (f:V S) (args:List (V S))
 |mark (o:Nat)
 |marks (o:Nat)
 |bads
 |bad
structure FrV (S:Sg) where
 n:Nat
 tm:Tr (V S)
 df:List (DfV S):=[]
structure LpV (S:Sg) where
 st:LoopState
 pend:Option Code
 fid:FuncId
 fr:FrV S
 params:List Nat
 assign:Code
 body:Code
inductive ObV (S:Sg) where
 |box (cs:List (V S))
 |arr (t:Ty) (l:List (den S.A t)) (era:Nat)
 |frz (t:Ty) (l:List (den S.A t)) (era:Nat)
 |map (kt vt:Ty) (l:List (den S.A kt×den S.A vt))
 |mpv (kt:Ty) (l:List (den S.A kt×V S))
 |sit (b:List UInt8) (pos:Nat)
 |lp (l:LpV S)
 |dfr
 |nar (n j:Nat) (l:List (S.A n)) (era m rera:Nat) (hole:Option Nat)
 |rws (t:Ty) (rss:List (List (den S.A t))) (rera:Nat)
 |gone
 |mks
 |bld (ty:TypeId) (m:Nat)
 |bbf (ty:TypeId) (l:List UInt8)
 |lpd (st:LoopState) (pend:Option Code)
structure StV (S:Sg) where
 ob:Tr (ObV S)
 nob:Nat
 fl:Nat
 lo:Nat
 wr:List Nat
 dr:List Nat
def FrV.get (fr:FrV S) (k:Nat):Option (V S):=fr.tm.get k
def FrV.put (fr:FrV S) (k:Nat) (v:V S):FrV S:={fr with tm:=fr.tm.set fuelTr k v}
def FrV.putO (fr:FrV S) (k:Option Nat) (v:V S):FrV S:=match k with|some k=>fr.put k v|none=>fr
def leavesV:(ts:List Ty)->hden S.A ts->List (V S)
 |[],_=>[]
 |t ::l,x=>.ty t x.1 ::leavesV l x.2
def leavesOf:(t:Ty)->den S.A t->List (V S)
 | .st n,x=>leavesV (S.fs n) (S.get n x)
 | .int k,x=>[.ty (.int k) x]
 | .bool,x=>[.ty .bool x]
 | .str,x=>[.ty .str x]
 | .sl e,x=>[.ty (.sl e) x]
 | .ifc n,x=>[.ty (.ifc n) x]
 | .opt n,x=>[.ty (.opt n) x]
 | .mp k v,x=>[.ty (.mp k v) x]
def constV:Value->Option (V S)
 | .bool b=>some (.kb b)
 | .int k n=>some (.kn k n)
 | .slice none 0 0=>some .emp
 | .func f a b=>match a.toList,b.toList with
  |[],[]=>some (.fn f [] [])
  |_,_=>none
 | .iface t v=>(ofVal v).map λd=>.dat (.ifc t d)
 | .string b=>some (.ty .str (ofBytes b))
 |v=>(ofVal v).map .dat
def zeroV:D->V S
 | .lit (.bool b)=>.kb b
 | .lit (.int k n)=>.kn k n
 | .lit (.string b)=>.ty .str (ofBytes b)
 | .sl []=>.emp
 |d=>.dat d
def leafV:V S->Bool
 | .ty t _=>!(isSt t)
 | .dat d=>d.leaf
 | .agg _|.tup _|.gd _ _=>false
 |_=>true
def leafsV:List (V S)->Bool
 |[]=>true
 |v ::l=>leafV v&&leafsV l
def cellsV (i:TI):V S->Option (List (V S))
 | .agg cs=>bif i.agg&&Nat.beq (lenL cs) i.size then some cs else none
 | .ty (.st n) x=>bif i.agg&&Nat.beq (lenL (S.fs n)) i.size then some (leavesV (S.fs n) (S.get n x)) else none
 | .dat d=>bif i.agg then none else bif Nat.beq i.size 1&&d.leaf then some [.dat d] else none
 | .tup _|.gd _ _=>none
 |v=>bif i.agg then none else bif Nat.beq i.size 1 then some [v] else none
def packV (agg:Bool) (cs:List (V S)):Option (V S):=
 bif agg then some (.agg cs) else match cs with
  |[x]=>some x
  |_=>none
def opdV (fr:FrV S):Operand->Option (V S)
 | .tmp k=>fr.get k
 | .const v=>constV v
 | .global _=>none
 | .func f=>some (.fn (.func f) [] [])
def opdsV (fr:FrV S):List Operand->Option (List (V S))
 |[]=>some []
 |x ::l=>match opdV fr x,opdsV fr l with
  |some t,some r=>some (t ::r)
  |_,_=>none
def intV (k:IntKind):V S->Option Int
 | .kn j n=>bif kindEq j k then some n else none
 | .ty (.int j) x=>bif kindEq j k then some x else none
 |_=>none
def boolV:V S->Option Bool
 | .kb b=>some b
 | .ty .bool x=>some x
 |_=>none
def strV:V S->Option (List UInt8)
 | .ty .str x=>some x
 |_=>none
def castTy (t u:Ty) (x:den S.A t):Option (den S.A u):=
 if h:tyEq t u=true then some (tyEq_eq h▸x) else none
def castL (t u:Ty) (x:List (den S.A t)):Option (List (den S.A u)):=
 if h:tyEq t u=true then some (tyEq_eq h▸x) else none
def hset:(ts:List Ty)->hden S.A ts->Nat->(t:Ty)->den S.A t->hden S.A ts
 |[],h,_,_,_=>h
 | τ ::_,h,0,t,y=>(match castTy t τ y with|some z=>z|none=>h.1,h.2)
 |_ ::ts,h,j+1,t,y=>(h.1,hset ts h.2 j t y)
def hget:(ts:List Ty)->hden S.A ts->Nat->(t:Ty)->den S.A t
 |[],_,_,t=>S.zero t
 | τ ::_,h,0,t=>match castTy τ t h.1 with|some z=>z|none=>S.zero t
 |_ ::ts,h,j+1,t=>hget ts h.2 j t
def setC (n j:Nat) (t:Ty) (x:S.A n) (y:List (den S.A t)):S.A n:=S.mkS n (hset (S.fs n) (S.get n x) j (.sl t) y)
def getC (n j:Nat) (t:Ty) (x:S.A n):List (den S.A t):=hget (S.fs n) (S.get n x) j (.sl t)
def colL (n j:Nat) (t:Ty) (l:List (S.A n)):List (List (den S.A t)):=l.map (getC n j t)
def fullL (n j:Nat) (t:Ty) (l:List (S.A n)) (rss:List (List (den S.A t))):List (S.A n):=List.zipWith (setC n j t) l rss
def colB (S:Sg) (n j:Nat) (t:Ty):Bool:=match nth (S.fs n) j with|some u=>tyEq u (.sl t)|none=>false
def rwsV (s:StV S) (m r:Nat):Option ((t:Ty)×List (List (den S.A t))):=match s.ob.get m with
 |some (.rws t rss r')=>bif Nat.beq r r' then some ⟨t,rss⟩ else none
 |_=>none
def slV (s:StV S) (e:Ty):V S->Option (List (den S.A e))
 | .emp=>some []
 | .clp _ t l=>castL t e l
 | .cln n _ x=>castL (.st n) e [x]
 | .ty (.sl t) x=>castL t e x
 | .sh o r=>match s.ob.get o with
  |some (.arr t l era)|some (.frz t l era)=>bif Nat.beq r era then castL t e l else none
  |_=>none
 |_=>none
mutual
def toTy (s:StV S):(t:Ty)->V S->Option (den S.A t×List Nat)
 |t,.ty u x=>match castTy u t x with
  |some y=>some (y,[])
  |none=>none
 | .bool,.kb b=>some (b,[])
 | .int k,.kn j n=>bif kindEq j k then some (n,[]) else none
 | .sl _,.emp=>some ([],[])
 | .sl e,.clp _ t l=>match castL t e l with
  |some l=>some (l,[])
  |none=>none
 | .sl e,.cln n _ x=>match castL (.st n) e [x] with
  |some l=>some (l,[])
  |none=>none
 | .sl e,.sh o r=>match s.ob.get o with
  |some (.arr t l era)=>bif Nat.beq r era then match castL t e l with|some l=>some (l,[o])|none=>none else none
  |some (.frz t l era)=>bif Nat.beq r era then match castL t e l with|some l=>some (l,[])|none=>none else none
  |some (.nar n j l era m r' none)=>match rwsV s m r' with
   |some ⟨t,rss⟩=>bif Nat.beq r era&&(Nat.blt m bigN&&colB S n j t) then match castL (.st n) e (fullL n j t l rss) with|some l=>some (l,[o,m])|none=>none else none
   |none=>none
  |_=>none
 | .st n,.agg cs=>match toTys s (S.fs n) cs with
  |some (h,os)=>some (S.mkS n h,os)
  |none=>none
 | .ifc n,.ifc t v=>match altIx (S.alts n) t with
  |some i=>match toTy s (altTy (S.alts n) i) v with
   |some (y,os)=>some (S.imk n (injI (S.alts n) i y),os)
   |none=>none
  |none=>none
 | .ifc n,.dat (.lit .nilIface)=>some (S.imk n (nilI (S.alts n)),[])
 | .opt _,.dat (.lit (.pointer none))=>some (none,[])
 |_,_=>none
def toTys (s:StV S):(ts:List Ty)->List (V S)->Option (hden S.A ts×List Nat)
 |[],[]=>some ((),[])
 |t ::ts,v ::l=>match toTy s t v,toTys s ts l with
  |some (x,os),some (h,ps)=>some ((x,h),os++ps)
  |_,_=>none
 |_,_=>none
end
def freezeV (s:StV S):List Nat->Option (StV S)
 |[]=>some s
 |o ::l=>
  bif Nat.ble s.fl o then match s.ob.get o with
   |some (.arr t es era)=>freezeV {s with ob:=s.ob.set fuelTr o (.frz t es era),wr:=o ::s.wr} l
   |some (.frz _ _ _)=>freezeV s l
   |some (.nar n j es era m r none)=>match rwsV s m r with
    |some ⟨t,rss⟩=>bif l.contains m&&(Nat.ble s.fl m&&(Nat.blt m bigN&&colB S n j t)) then freezeV {s with ob:=(s.ob.set fuelTr m .gone).set fuelTr o (.frz (.st n) (fullL n j t es rss) era),wr:=o ::m ::s.wr} l else none
    |none=>none
   |some (.rws ..)=>freezeV s l
   |some .gone=>freezeV s l
   |_=>none
  else none
def newObV (s:StV S) (o:ObV S):StV S:={s with ob:=s.ob.set fuelTr s.nob o,nob:=Nat.succ s.nob}
def seqL (a b:List UInt8):Bool:=a==b
def subL {α:Type} (l:List α) (lo hi:Int):List α:=(l.take hi.toNat).drop lo.toNat
def lenI {α:Type} (l:List α):Int:=l.length
def satL (b:List UInt8) (n:Int):Int:=(b.getD n.toNat 0).toNat
def catL {α:Type} (a b:List α):List α:=a++b
def inbL {α:Type} (n:Int) (l:List α):Bool:=decide (0<=n)&&decide (n<l.length)
def inbN {α:Type} (k:Nat) (l:List α):Bool:=decide (k<l.length)
def cutL (lo hi len:Int):Bool:=decide (0<=lo)&&(decide (lo<=hi)&&decide (hi<=len))
def fitL (a b:List UInt8):Bool:=decide (a.length+b.length<=4611686018427387904)
def fewL {α:Type} (a b:List α):Bool:=decide (a.length+b.length<=17179869184)
def nzI (a:Int):Bool:=decide (a≠0)
def elL {α:Type} (l:List α) (k:Nat) (z:α):α:=l.getD k z
def putL {α:Type} (l:List α) (k:Nat) (x:α):List α:=l.set k x
def lenB {α β:Type} (l:List α) (m:List β):Bool:=decide (l.length=m.length)
def holeB {α:Type} (k:Nat) (l:List α) (h i:Nat):Bool:=decide (k<l.length)&&(Nat.beq k h&&Nat.beq i h)
def eqI (a b:Int):Bool:=decide (a=b)
def natI (n:Int):Nat:=n.toNat
abbrev ResV (S:Sg):=Option (Bool×V S×StV S)
def eqLeafV:Lk->V S->V S->Option Bool
 | .int k,a,b=>match intV k a,intV k b with
  |some x,some y=>some (D.ieq x y)
  |_,_=>none
 | .bool,a,b=>match boolV a,boolV b with
  |some x,some y=>some (D.beq x y)
  |_,_=>none
 | .str,a,b=>match strV a,strV b with
  |some x,some y=>some (seqL x y)
  |_,_=>none
 | .no,_,_=>none
def eqLeavesV:List Lk->List (V S)->List (V S)->Option Bool
 |[],[],[]=>some true
 |k ::ks,a ::as,b ::bs=>match eqLeafV k a b,eqLeavesV ks as bs with
  |some x,some y=>some (D.band x y)
  |_,_=>none
 |_,_,_=>none
def eqPtrV:V S->V S->Option Bool
 | .dat (.lit (.pointer none)),.ptr _ _=>some false
 | .ptr _ _,.dat (.lit (.pointer none))=>some false
 |_,_=>none
def eqIfcV:V S->V S->Option Bool
 | .dat (.lit .nilIface),.ifc _ _=>some false
 | .ifc _ _,.dat (.lit .nilIface)=>some false
 |_,_=>none
def eqlV (i:TI) (a b:V S):Option Bool:=
 bif i.agg then match i.lks,cellsV i a,cellsV i b with
  |[],_,_=>none
  |k ::ks,some as,some bs=>eqLeavesV (k ::ks) as bs
  |_,_,_=>none
 else match i.kd with
  | .leaf k=>eqLeafV k a b
  | .ptr=>eqPtrV a b
  | .iface=>eqIfcV a b
  |_=>none
def cmpV (op:BinOp) (k:IntKind) (m n:Int):Option (V S):=
 match op with
 | .lss=>some (.ty .bool (D.ilt m n))
 | .leq=>some (.ty .bool (D.ile m n))
 | .gtr=>some (.ty .bool (D.ilt n m))
 | .geq=>some (.ty .bool (D.ile n m))
 | .add=>some (.ty (.int k) (D.add k m n))
 | .sub=>some (.ty (.int k) (D.sub_ k m n))
 | .mul=>some (.ty (.int k) (D.mul k m n))
 |_=>none
def divV (op:BinOp) (k:IntKind) (m n:Int):Option (V S):=
 match op with
 | .rem=>some (.ty (.int k) (D.rem m n))
 | .quo=>some (.ty (.int k) (D.quo k m n))
 |_=>none
def binV (i:TI) (op:BinOp) (a b:V S):Option (Bool×V S):=
 match op with
 | .eql=>(eqlV i a b).map λr=>(true,.ty .bool r)
 | .neq=>(eqlV i a b).map λr=>(true,.ty .bool (D.bnot r))
 |op=>match i.kd with
  | .leaf (.int k)=>match intV k a,intV k b with
   |some m,some n=>match cmpV op k m n with
    |some d=>some (true,d)
    |none=>(divV op k m n).map λd=>(nzI n,d)
   |_,_=>none
  | .leaf .str=>match op,strV a,strV b with
   | .add,some m,some n=>some (fitL m n,.ty .str (catL m n))
   |_,_,_=>none
  |_=>none
def arrV (s:StV S) (o e:Nat):Option ((t:Ty)×List (den S.A t)):=
 match s.ob.get o with
 |some (.arr t l era)=>bif Nat.beq e era then some ⟨t,l⟩ else none
 |some (.frz t l era)=>bif Nat.beq e era then some ⟨t,l⟩ else none
 |_=>none
def tyIs (τ:Option Ty) (t:Ty):Bool:=match τ with|some u=>tyEq u t|none=>false
def partV (i:TI) (τ:Option Ty) (t:Ty) (x:den S.A t) (off:Nat):Option (V S):=
 bif Nat.beq off 0&&tyIs τ t then some (.ty t x)
 else
  bif Nat.ble (Nat.add off i.size) (S.width t) then packV i.agg (((leavesOf t x).drop off).take i.size) else none
def unitV:V S:=.dat (.lit (.tuple #[]))
def loadV (i:TI) (τ:Option Ty) (s:StV S):V S->ResV S
 | .ptr o off=>match s.ob.get o with
  |some (.box cs)=>
   let l:=(cs.drop off).take i.size
   bif Nat.beq (lenL l) i.size then (packV i.agg l).map λt=>(true,t,s) else none
  |_=>none
 | .ept t x off=>(partV i τ t x off).map λv=>(true,v,s)
 | .epw o e k off=>match arrV s o e with
  |some ⟨t,l⟩=>(partV i τ t (elL l k (S.zero t)) off).map λv=>(inbN k l,v,s)
  |none=>none
 |_=>none
def Sg.leafTys (S:Sg):Ty->List Ty
 | .st n=>S.fs n
 |t=>[t]
def ofLeaves:(t:Ty)->hden S.A (S.leafTys t)->den S.A t
 | .st n,h=>S.mkS n h
 | .int _,h=>h.1
 | .bool,h=>h.1
 | .str,h=>h.1
 | .sl _,h=>h.1
 | .ifc _,h=>h.1
 | .opt _,h=>h.1
 | .mp _ _,h=>h.1
def storeV (i:TI) (s:StV S) (a x:V S):ResV S:=
 match cellsV i x with
 |none=>none
 |some l=>match a with
  | .ptr o off=>match s.ob.get o with
   |some (.box cs)=>
    bif Nat.ble s.fl o&&(Nat.ble (Nat.add off (lenL l)) (lenL cs)&&leafsV l) then
     some (true,unitV,{s with ob:=s.ob.set fuelTr o (.box (cs.take off++l++cs.drop (Nat.add off (lenL l)))),wr:=o ::s.wr})
    else none
   |_=>none
  | .epw o e k off=>match s.ob.get o with
   |some (.arr t _ _)=>match toTys s ((S.leafTys t).drop off |>.take (lenL l)) l with
    |some (_,os)=>match freezeV s os with
     |some s1=>match s1.ob.get o with
      |some (.arr t es era)=>match toTys s (S.leafTys t) ((leavesOf t (elL es k (S.zero t))).take off++l++(leavesOf t (elL es k (S.zero t))).drop (Nat.add off (lenL l))) with
       |some (h,_)=>
        bif Nat.ble s1.fl o&&(Nat.beq e era&&(Nat.ble (Nat.add off (lenL l)) (S.width t)&&(Nat.ble 1 (lenL l)&&leafsV l))) then
         some (inbN k es,unitV,{s1 with ob:=s1.ob.set fuelTr o (.arr t (putL es k (ofLeaves t h)) era),wr:=o ::s1.wr})
        else none
       |none=>none
      |_=>none
     |none=>none
    |none=>none
   |_=>none
  |_=>none
def fillV (place:Nat->Option (Nat×TI)) (cells:List (V S)):List (Nat×V S)->Option (List (V S))
 |[]=>some cells
 |(k,v) ::rest=>match place k with
  |none=>none
  |some (off,i)=>match cellsV i v with
   |none=>none
   |some l=>
    bif Nat.ble (Nat.add off (lenL l)) (lenL cells)&&leafsV l then fillV place (cells.take off++l++cells.drop (Nat.add off (lenL l))) rest else none
def partsV (fr:FrV S):List (Nat×Operand)->Option (List (Nat×V S))
 |[]=>some []
 |(k,x) ::l=>match opdV fr x,partsV fr l with
  |some t,some r=>some ((k,t) ::r)
  |_,_=>none
def elemsV (s:StV S) (e:Ty) (es:List (den S.A e)):List (Nat×V S)->Option (List (den S.A e)×List Nat)
 |[]=>some (es,[])
 |(k,v) ::rest=>match toTy s e v with
  |none=>none
  |some (x,os)=>
   bif Nat.blt k (lenL es) then
    match elemsV s e (es.set k x) rest with
    |some (r,ps)=>some (r,os++ps)
    |none=>none
   else none
def optV (fr:FrV S):Option Operand->Option (Option (V S))
 |none=>some none
 |some x=>(opdV fr x).map some
def boundV (dflt:Int):Option (V S)->Option Int
 |none=>some dflt
 |some t=>intV .i64 t
def ownV:V S->List Nat
 | .sh o _=>[o]
 |_=>[]
def sliceV (i:TI) (τ:Option Ty) (s:StV S) (v:V S) (l h m:Option (V S)):ResV S:=
 match τ,boundV 0 l with
 |some .str,some lo=>match i.kd,strV v,m with
  | .leaf .str,some b,none=>match boundV (lenI b) h with
   |some hi=>some (cutL lo hi (lenI b),.ty .str (subL b lo hi),s)
   |none=>none
  |_,_,_=>none
 |some (.sl e),some lo=>match i.kd,slV s e v,freezeV s (ownV v) with
  | .slice _ _ _ _,some es,some s'=>match boundV (lenI es) h,m,h with
   |some hi,none,_=>some (cutL lo hi (lenI es),.ty (.sl e) (subL es lo hi),s')
   |some hi,some y,some _=>match y with
    | .kn .i64 0=>some (eqI lo 0&&eqI hi 0,.emp,s)
    |y=>match intV .i64 y with
     |some mx=>some (cutL lo hi (lenI es)&&eqI mx hi,.clp 0 e (subL es lo hi),s')
     |none=>none
   |_,_,_=>none
  |_,_,_=>none
 |_,_=>none
def armV:V S->Option (Option Bool×Bool)
 | .gd g v=>match boolV v with
  |some y=>some (some g,y)
  |none=>none
 | .kb b=>some (none,b)
 | .ty .bool x=>some (none,x)
 |_=>none
def orT (g:Option Bool):Bool:=match g with|some g=>g|none=>true
def pickV (c a b:V S):Option (Bool×V S):=
 match c with
 | .kb u=>match armV (bif u then a else b) with
  |some (p,y)=>some (orT p,.ty .bool y)
  |none=>none
 |c=>match boolV c,armV a,armV b with
  |some t,some (p,x),some (q,y)=>some (bif t then orT p else orT q,.ty .bool (D.bif_ t x y))
  |_,_,_=>none
def arrAddrV (n sz:Nat) (s:StV S) (x ix:V S):ResV S:=match x,ix with
 | .ept t d b,.kn .i64 (.ofNat j)=>bif Nat.blt j n then some (true,.ept t d (Nat.add b (Nat.mul j sz)),s) else none
 |_,_=>none
theorem arrAddrV_st {n sz:Nat} {s s':StV S} {x ix t:V S} {p:Bool} (h:arrAddrV n sz s x ix=some (p,t,s')):s'=s:=by
 unfold arrAddrV at h
 split at h
 .rename_i t d b j
  cases hb:Nat.blt j n<;>rw[hb] at h<;>cases h
  rfl
 .cases h
def indexAddrV (i:TI) (τ:Option Ty) (s:StV S) (x ix:V S):ResV S:=
 match i.kd,τ,intV .i64 ix with
 | .slice _ _ _ _,some (.sl e),some n=>match x with
  | .sh o r=>match arrV s o r with
   |some ⟨t,l⟩=>bif tyEq t e then some (inbL n l,.epw o r (natI n) 0,s) else none
   |none=>none
  |v=>match slV s e v with
   |some l=>some (inbL n l,.ept e (elL l (natI n) (S.zero e)) 0,s)
   |none=>none
 | .array n sz _,_,_=>arrAddrV n sz s x ix
 |_,_,_=>none
def fieldAddrV (i:TI) (s:StV S) (k:Nat) (x:V S):ResV S:=
 match i.kd with
 | .struct fs=>match nth fs k with
  |some (off,size,_)=>bif Nat.beq size 0 then none else match x with
   | .ptr o b=>some (true,.ptr o (Nat.add b off),s)
   | .ept t d b=>some (true,.ept t d (Nat.add b off),s)
   | .epw o e j b=>some (true,.epw o e j (Nat.add b off),s)
   |_=>none
  |none=>none
 |_=>none
def fieldV (i:TI) (s:StV S) (k:Nat) (x:V S):ResV S:=
 match i.kd with
 | .struct fs=>match nth fs k,cellsV i x with
  |some (off,size,ag),some cs=>
   let l:=(cs.drop off).take size
   bif Nat.beq (lenL l) size&&!(Nat.beq size 0) then (packV ag l).map λt=>(true,t,s) else none
  |_,_=>none
 |_=>none
def indexV (i:TI) (s:StV S) (x ix:V S):ResV S:=
 match i.kd,intV .i64 ix,strV x with
 | .leaf .str,some n,some b=>some (inbL n b,.ty (.int .u8) (satL b n),s)
 |_,_,_=>none
def assertV (i:TI) (s:StV S) (t:TypeId) (ok:Bool) (x:V S):ResV S:=
 match i.kd,x,ok with
 | .iface,_,_=>none
 |_,.ifc u v,true=>bif Nat.beq u t then some (true,.tup [v,.kb true],s) else
   (packV i.agg (i.zero.map zeroV)).map λz=>(true,.tup [z,.kb false],s)
 |_,.ifc u v,false=>bif Nat.beq u t then some (true,v,s) else none
 |_,_,_=>none
def unV (i:TI) (op:UnOp) (v:V S):Option (V S):=
 match op,i.kd with
 | .not,.leaf .bool=>(boolV v).map λb=>.ty .bool (D.bnot b)
 | .neg,.leaf (.int k)=>(intV k v).map λn=>.ty (.int k) (D.neg k n)
 |_,_=>none
def convV (i j:TI) (s:StV S) (v:V S):ResV S:=
 match i.kd,j.kd with
 | .leaf (.int k),.leaf (.int l)=>(intV k v).map λn=>(true,.ty (.int l) (D.conv l n),s)
 | .leaf .str,.leaf .str=>(strV v).map λ_=>(true,v,s)
 |_,_=>none
def extractV (s:StV S) (k:Nat):V S->ResV S
 | .tup vs=>(nth vs k).map λt=>(true,t,s)
 |_=>none
structure MT where
 kt:Ty
 vt:Option Ty
 el:TypeId
structure EnvT where
 E:Env
 ty:Nat->Option Ty
 mt:Nat->Option MT:=λ_=>none
 meth:Nat->String->Option FuncId:=λ_ _=>none
 nst:Nat->Option Nat:=λ_=>none
 bt:Nat->Option Nat:=λ_=>none
def opV0 (E:EnvT) (fr:FrV S) (s:StV S) (o:Op):ResV S:=
 match o with
 | .move x=>(opdV fr x).map λt=>(true,t,s)
 | .assign x=>(opdV fr x).map λt=>(true,t,s)
 | .pick c a b=>match opdV fr c,opdV fr a,opdV fr b with
  |some c,some a,some b=>(pickV c a b).map λ(p,t)=>(p,t,s)
  |_,_,_=>none
 | .alloc t=>match E.E.ti t with
  |some i=>bif Nat.blt s.nob bigN then some (true,.ptr s.nob 0,newObV s (.box (i.zero.map zeroV))) else none
  |none=>none
 | .box t x=>match E.E.ti t,opdV fr x with
  |some i,some v=>bif Nat.blt s.nob bigN then (cellsV i v).map λcs=>(true,.ptr s.nob 0,newObV s (.box cs)) else none
  |_,_=>none
 | .build t parts=>match E.E.ti t,partsV fr parts.toList with
  |some i,some ps=>match i.kd with
   | .struct fs=>(fillV (λk=>match nth fs k with|some (off,size,ag)=>some (off,{(default:TI) with size:=size,agg:=ag})|none=>none) (i.zero.map zeroV) ps).map
     λcs=>(true,.agg cs,s)
   |_=>none
  |_,_=>none
 | .buildSlice t len parts=>match E.E.ti t,E.ty t,partsV fr parts.toList with
  |some i,some (.sl e),some ps=>match i.kd with
   | .slice sz _ _ _=>
    bif Nat.ble (Nat.mul len sz) 16777216 then
     match elemsV s e (List.replicate len (S.zero e)) ps with
     |some (es,os)=>(freezeV s os).map λs=>(true,.clp len e es,s)
     |none=>none
    else none
   |_=>none
  |_,_,_=>none
 | .load t a=>match E.E.ti t,opdV fr a with
  |some i,some a=>loadV i (E.ty t) s a
  |_,_=>none
 | .store t a x=>match E.E.ti t,opdV fr a,opdV fr x with
  |some i,some a,some x=>storeV i s a x
  |_,_,_=>none
 | .nilCheck x=>match opdV fr x with
  |some (.ptr o b)=>some (true,.ptr o b,s)
  |some (.ept t d b)=>some (true,.ept t d b,s)
  |some (.epw o e j b)=>some (true,.epw o e j b,s)
  |some (.ifc t v)=>some (true,.ifc t v,s)
  |some (.fn (.func f) a b)=>some (true,.fn (.func f) a b,s)
  |_=>none
 | .binOp op t x y _=>match E.E.ti t,opdV fr x,opdV fr y with
  |some i,some a,some b=>(binV i op a b).map λ(p,d)=>(p,d,s)
  |_,_,_=>none
 | .unOp op t x=>match E.E.ti t,opdV fr x with
  |some i,some v=>(unV i op v).map λd=>(true,d,s)
  |_,_=>none
 | .convert src dst x=>match E.E.ti src,E.E.ti dst,opdV fr x with
  |some i,some j,some v=>convV i j s v
  |_,_,_=>none
 | .makeInterface t x=>match E.E.ti t,opdV fr x with
  |some i,some v=>match i.kd with
   | .iface=>none
   |_=>some (true,.ifc t v,s)
  |_,_=>none
 | .makeFunc f first cap=>match opdsV fr first.toList,opdsV fr cap.toList with
  |some a,some b=>some (true,.fn f a b,s)
  |_,_=>none
 | .extract x k=>match opdV fr x with
  |some v=>extractV s k v
  |none=>none
 | .fieldAddr t x k=>match E.E.ti t,opdV fr x with
  |some i,some v=>fieldAddrV i s k v
  |_,_=>none
 | .field t x k=>match E.E.ti t,opdV fr x with
  |some i,some v=>fieldV i s k v
  |_,_=>none
 | .indexAddr t x ix=>match E.E.ti t,opdV fr x,opdV fr ix with
  |some i,some v,some n=>indexAddrV i (E.ty t) s v n
  |_,_,_=>none
 | .index t x ix=>match E.E.ti t,opdV fr x,opdV fr ix with
  |some i,some v,some n=>indexV i s v n
  |_,_,_=>none
 | .slice t x lo hi mx=>match E.E.ti t,opdV fr x,optV fr lo,optV fr hi,optV fr mx with
  |some i,some v,some l,some h,some m=>sliceV i (E.ty t) s v l h m
  |_,_,_,_,_=>none
 | .typeAssert x _ t ok=>match E.E.ti t,opdV fr x with
  |some i,some v=>assertV i s t ok v
  |_,_=>none
 |_=>none
def keyV:(kt:Ty)->V S->Option (den S.A kt)
 | .int k,v=>intV k v
 | .bool,v=>boolV v
 | .str,v=>strV v
 |_,_=>none
def keq {A:Nat->Type}:(kt:Ty)->den A kt->den A kt->Bool
 | .int _,a,b=>D.ieq a b
 | .bool,a,b=>D.beq a b
 | .str,a,b=>seqL a b
 |_,_,_=>false
def lkL {A:Nat->Type} {β:Type} (kt:Ty) (z:β) (k:den A kt):List (den A kt×β)->β
 |[]=>z
 |p ::l=>bif keq kt k p.1 then p.2 else lkL kt z k l
def hasL {A:Nat->Type} {β:Type} (kt:Ty) (k:den A kt):List (den A kt×β)->Bool
 |[]=>false
 |p ::l=>bif keq kt k p.1 then true else hasL kt k l
def insL {A:Nat->Type} {β:Type} (kt:Ty) (k:den A kt) (x:β):List (den A kt×β)->List (den A kt×β)
 |[]=>[(k,x)]
 |p ::l=>bif keq kt k p.1 then (k,x) ::l else p ::insL kt k x l
def castM (kt vt kt' vt':Ty) (l:List (den S.A kt×den S.A vt)):Option (List (den S.A kt'×den S.A vt')):=
 if h:tyEq kt kt'=true then if h':tyEq vt vt'=true then some (tyEq_eq h▸tyEq_eq h'▸l) else none else none
def castK {β:Type} (kt kt':Ty) (l:List (den S.A kt×β)):Option (List (den S.A kt'×β)):=
 if h:tyEq kt kt'=true then some (tyEq_eq h▸l) else none
def mapV (s:StV S) (kt vt:Ty):V S->Option (List (den S.A kt×den S.A vt))
 | .mp o=>match s.ob.get o with
  |some (.map k v l)=>castM k v kt vt l
  |_=>none
 | .dat (.lit (.map none))=>some []
 | .ty (.mp k v) l=>castM k v kt vt l
 |_=>none
def someB {α:Type}:Option α->Bool
 |none=>false
 |some _=>true
def getO {α:Type} (z:α):Option α->α
 |none=>z
 |some x=>x
def isE {α:Type} (l:List α):Bool:=match l with|[]=>true|_ ::_=>false
def mkN (n:Int):Bool:=decide (0<=n)&&decide (n<=17179869184)
def posB (pos:Nat) (b:List UInt8):Bool:=decide (pos<b.length)
def runeL (b:List UInt8) (pos:Nat):Int:=((Utf8.decode (toBytes b) pos).1:Nat)
def widL (b:List UInt8) (pos:Nat):Nat:=(Utf8.decode (toBytes b) pos).2
def hintV (fr:FrV S):Option Operand->Bool
 |none=>true
 |some x=>match opdV fr x with
  |some (.kn _ _)=>true
  |some (.ty (.int _) _)=>true
  |_=>false
def hasFn:List (Nat×V S)->Bool
 |(_,.fn _ _ _) ::_=>true
 |_=>false
def inbK (k:Int) (n:Nat):Bool:=decide (0<=k)&&decide (k<n)
def opX (E:EnvT) (fr:FrV S) (s:StV S) (o:Op):ResV S:=
 match o with
 | .makeMap t r=>bif Nat.blt s.nob bigN&&hintV fr r then match E.mt t with
  |some m=>match m.vt with
   |some vt=>some (true,.mp s.nob,newObV s (.map m.kt vt []))
   |none=>some (true,.mp s.nob,newObV s (.mpv m.kt []))
  |none=>none
  else none
 | .lookup t x ix ok=>match E.mt t,opdV fr x,opdV fr ix with
  |some m,some x,some k=>match m.vt with
   |some vt=>match keyV m.kt k,mapV s m.kt vt x with
    |some k,some l=>some (true,bif ok then .tup [.ty vt (lkL m.kt (S.zero vt) k l),.ty .bool (hasL m.kt k l)] else .ty vt (lkL m.kt (S.zero vt) k l),s)
    |_,_=>none
   |none=>none
  |_,_,_=>none
 | .mapUpdate t x ix y|.insert t x ix y=>match E.mt t,opdV fr x,opdV fr ix,opdV fr y with
  |some m,some (.mp o),some k,some y=>match keyV m.kt k,s.ob.get o with
   |some k,some (.map kt vt l)=>match castM kt vt m.kt vt l,toTy s vt y with
    |some l,some (y,os)=>match freezeV s os with
     |some s1=>bif Nat.ble s.fl o&&tyIs m.vt vt then some (true,unitV,{s1 with ob:=s1.ob.set fuelTr o (.map m.kt vt (insL m.kt k y l)),wr:=o ::s1.wr}) else none
     |none=>none
    |_,_=>none
   |some k,some (.mpv kt l)=>match castK kt m.kt l with
    |some l=>bif Nat.ble s.fl o then some (true,unitV,{s with ob:=s.ob.set fuelTr o (.mpv m.kt (insL m.kt k y l)),wr:=o ::s.wr}) else none
    |none=>none
   |_,_=>none
  |_,_,_,_=>none
 | .makeSlice t n c=>match E.E.ti t,E.ty t,opdV fr n,opdV fr c with
  |some i,some (.sl e),some n,some c=>match i.kd,intV .i64 n,intV .i64 c with
   | .slice _ _ _ _,some n,some c=>bif Nat.blt s.nob bigN then some (mkN n&&eqI c n,.sh s.nob 0,newObV s (.arr e (List.replicate (natI n) (S.zero e)) 0)) else none
   |_,_,_=>none
  |_,_,_,_=>none
 | .range t x=>match E.E.ti t,opdV fr x with
  |some i,some x=>match i.kd,strV x with
   | .leaf .str,some b=>bif Nat.blt s.nob bigN then some (true,.itr s.nob,newObV s (.sit b 0)) else none
   |_,_=>none
  |_,_=>none
 | .binOp .eql t x (.const .nilIface) _=>match E.E.ti t,opdV fr x with
  |some i,some (.ty (.ifc n) y)=>match i.kd with
   | .iface=>some (true,.ty .bool (isNil (S.alts n) (S.iget n y)),s)
   |_=>none
  |some i,some (.dat (.lit .nilIface))=>match i.kd with
   | .iface=>some (true,.kb true,s)
   |_=>none
  |_,_=>none
 | .binOp .neq t x (.const .nilIface) _=>match E.E.ti t,opdV fr x with
  |some i,some (.ty (.ifc n) y)=>match i.kd with
   | .iface=>some (true,.ty .bool (D.bnot (isNil (S.alts n) (S.iget n y))),s)
   |_=>none
  |some i,some (.dat (.lit .nilIface))=>match i.kd with
   | .iface=>some (true,.kb false,s)
   |_=>none
  |_,_=>none
 | .binOp .eql t x (.const (.slice none 0 0)) _=>match E.E.ti t,E.ty t,opdV fr x with
  |some i,some (.sl e),some x=>match i.kd,slV s e x with
   | .slice _ _ _ _,some l=>some (true,.ub (isE l),s)
   |_,_=>none
  |_,_,_=>none
 | .nilCheck x=>match opdV fr x with
  |some (.ty (.ifc n) y)=>some (D.bnot (isNil (S.alts n) (S.iget n y)),.ty (.ifc n) y,s)
  |some (.ty (.opt n) y)=>some (someB y,.ept (.st n) (getO (S.dfl n) y) 0,s)
  |_=>none
 | .binOp .eql t x (.const (.pointer none)) _=>match E.E.ti t,opdV fr x with
  |some i,some (.ty (.opt _) y)=>match i.kd with
   | .ptr=>some (true,.ty .bool (D.bnot (someB y)),s)
   |_=>none
  |some i,some (.dat (.lit (.pointer none)))=>match i.kd with
   | .ptr=>some (true,.kb true,s)
   |_=>none
  |_,_=>none
 | .binOp .neq t x (.const (.pointer none)) _=>match E.E.ti t,opdV fr x with
  |some i,some (.ty (.opt _) y)=>match i.kd with
   | .ptr=>some (true,.ty .bool (someB y),s)
   |_=>none
  |some i,some (.dat (.lit (.pointer none)))=>match i.kd with
   | .ptr=>some (true,.kb false,s)
   |_=>none
  |_,_=>none
 | .typeAssert x _ t ok=>match E.E.ti t,E.ty t,opdV fr x with
  |some i,some τ,some (.ty (.ifc n) y)=>match i.kd,altIx (S.alts n) t with
   | .iface,_=>none
   |_,some j=>bif tyEq (altTy (S.alts n) j) τ then
     let v:V S:=.ty (altTy (S.alts n) j) (getAlt S.zero (S.alts n) j (S.iget n y))
     let b:=isAlt (S.alts n) j (S.iget n y)
     bif ok then some (true,.tup [v,.ty .bool b],s) else some (b,v,s)
    else none
   |_,none=>bif ok then some (true,.tup [.ty τ (S.zero τ),.kb false],s) else none
  |_,_,_=>none
 | .build t parts=>match E.E.ti t,partsV fr parts.toList with
  |some i,some ps=>match i.kd with
   | .array _ sz ag=>(fillV (λk=>some (Nat.mul k sz,{(default:TI) with size:=sz,agg:=ag})) (i.zero.map zeroV) ps).map λcs=>(true,.agg cs,s)
   |_=>none
  |_,_=>none
 | .buildSlice t len parts=>match E.E.ti t,E.ty t,partsV fr parts.toList with
  |some i,none,some ps=>match i.kd with
   | .slice sz ag _ zz=>bif Nat.beq sz 1&&(!ag&&(hasFn ps&&(Nat.blt s.nob bigN&&(Nat.blt 0 len&&Nat.ble len 16777216)))) then
     match fillV (λk=>some (Nat.mul k sz,{(default:TI) with size:=sz,agg:=ag})) (List.replicate len (zeroV (zz.getD 0 default))) ps with
     |some cs=>some (true,.slb s.nob len,newObV s (.box cs))
     |none=>none
    else none
   |_=>none
  |_,_,_=>none
 |_=>none
def isNone {α:Type}:Option α->Bool|none=>true|some _=>false
def opN (E:EnvT) (fr:FrV S) (s:StV S) (o:Op):ResV S:=
 match o with
 | .indexAddr t x ix=>match opdV fr x with
  |some (.sh o r)=>match s.ob.get o with
   |some (.nar n _ l era _ _ _)=>match E.E.ti t,E.ty t,opdV fr ix with
    |some i,some (.sl (.st n')),some k=>match i.kd,intV .i64 k with
     | .slice _ _ _ _,some k=>bif Nat.beq r era&&Nat.beq n n' then some (inbL k l,.epw o r (natI k) 0,s) else none
     |_,_=>none
    |_,_,_=>none
   |_=>none
  |some (.slb o n)=>match E.E.ti t,opdV fr ix with
   |some i,some k=>match i.kd,intV .i64 k with
    | .slice sz _ _ _,some k=>bif Nat.beq sz 1 then some (inbK k n,.ptr o (natI k),s) else none
    |_,_=>none
   |_,_=>none
  |_=>none
 | .load t a=>match opdV fr a with
  |some (.epw o e k off)=>match s.ob.get o with
   |some (.nar n j l era m rera hole)=>match E.E.ti t with
    |some i=>bif Nat.beq e era then
      bif Nat.beq off j then
       bif Nat.beq i.size 1&&(!i.agg&&(isNone hole&&Nat.blt j (S.width (.st n)))) then some (inbN k l,.nel o m rera k,s) else none
      else bif Nat.ble (Nat.add off i.size) j||Nat.blt j off then (partV i none (.st n) (elL l k (S.zero (.st n))) off).map λv=>(inbN k l,v,s) else none
     else none
    |none=>none
   |_=>none
  |_=>none
 | .store t a (.tmp kx)=>match opdV fr a,fr.get kx with
  |some (.epw o e k off),some (.nel o' m' r i)=>match s.ob.get o with
   |some (.nar n j l era m rera (some h))=>match E.E.ti t with
    |some ti=>bif (Nat.beq e era&&(Nat.beq off j&&(Nat.beq o' o&&(Nat.beq m' m&&(Nat.beq r rera&&(Nat.beq ti.size 1&&(!ti.agg&&(Nat.ble s.fl o&&(Nat.blt j (S.width (.st n))&&Nat.blt kx bigN))))))))) then
      some (holeB k l h i,unitV,{s with ob:=s.ob.set fuelTr o (.nar n j l era m rera none),wr:=o ::s.wr})
     else none
    |none=>none
   |_=>none
  |_,_=>none
 | .buildSlice t len parts=>match parts.toList with
  |[(0,.tmp kx)]=>match E.E.ti t,E.ty t,fr.get kx with
   |some i,some (.sl (.st n)),some (.agg cs)=>match E.nst n with
    |some j=>match i.kd,nth cs j with
     | .slice sz _ _ _,some .emp=>bif Nat.beq len 1&&(Nat.ble sz 16777216&&Nat.blt kx bigN) then match toTy s (.st n) (.agg cs) with
      |some (x,os)=>(freezeV s os).map λs=>(true,.cln n j x,s)
      |none=>none
      else none
     |_,_=>none
    |none=>none
   |_,_,_=>none
  |[]=>match E.E.ti t,E.ty t with
   |some i,some (.sl _)=>match i.kd with
    | .slice _ _ _ _=>bif Nat.beq len 0 then some (true,.emp,s) else none
    |_=>none
   |_,_=>none
  |_=>none
 | .slice t x none (some hi) none=>match E.E.ti t,opdV fr x,opdV fr hi with
  |some i,some (.sh o r),some h=>match i.kd,s.ob.get o,intV .i64 h with
   | .slice _ _ _ _,some (.arr (.int .i64) l era),some h=>bif Nat.beq r era&&Nat.ble s.fl o then
     some (cutL 0 h (lenI l),.sh o (Nat.succ era),{s with ob:=s.ob.set fuelTr o (.arr (.int .i64) (subL l 0 h) (Nat.succ era)),wr:=o ::s.wr})
    else none
   |_,_,_=>none
  |_,_,_=>none
 | .alloc t=>match E.bt t with
  |some e=>bif Nat.blt (Nat.succ s.nob) bigN then some (true,.ptr (Nat.succ s.nob) 0,newObV (newObV s (.bbf e [])) (.bld t s.nob)) else none
  |none=>none
 |_=>none
def opV (E:EnvT) (fr:FrV S) (s:StV S) (o:Op):ResV S:=match opN E fr s o with
 |some r=>some r
 |none=>match opV0 E fr s o with
  |some r=>some r
  |none=>opX E fr s o
def armsIx (n:Int) (ag:Bool) (sz:Nat) (cs:List (V S)) (s:StV S):List Nat->List (Bool×V S×StV S)
 |[]=>[]
 |j ::l=>match bif Nat.beq (lenL ((cs.drop (Nat.mul j sz)).take sz)) sz&&Nat.blt 0 sz then packV ag ((cs.drop (Nat.mul j sz)).take sz) else none with
  |some v=>(eqI n (Int.ofNat j),v,s) ::armsIx n ag sz cs s l
  |none=>[]
def opS (E:EnvT) (fr:FrV S) (s:StV S) (o:Op):Option (List (Bool×V S×StV S)×Bool×V S×StV S):=
 match o with
 | .next it true=>match opdV fr it with
  |some (.itr o)=>match s.ob.get o with
   |some (.sit b pos)=>bif Nat.ble s.fl o then
     some ([(posB pos b,.tup [.kb true,.ty (.int .i64) (Int.ofNat pos),.ty (.int .i32) (runeL b pos)],{s with ob:=s.ob.set fuelTr o (.sit b (Nat.add pos (widL b pos))),wr:=o ::s.wr})],true,.tup [.kb false],s)
    else none
   |_=>none
  |_=>none
 | .lookup t x ix ok=>match E.mt t,opdV fr x,opdV fr ix with
  |some m,some (.mp o),some k=>match s.ob.get o,keyV m.kt k,E.E.ti m.el with
   |some (.mpv kt l),some k,some i=>match castK kt m.kt l,packV i.agg (i.zero.map zeroV) with
    |some l,some z=>some (l.map λp=>(keq m.kt k p.1,bif ok then .tup [p.2,.kb true] else p.2,s),true,bif ok then .tup [z,.kb false] else z,s)
    |_,_=>none
   |_,_,_=>none
  |_,_,_=>none
 | .index t x ix=>match E.E.ti t,opdV fr x,opdV fr ix with
  |some i,some (.agg cs),some k=>match i.kd,intV .i64 k with
   | .array len sz ag,some n=>bif Nat.beq (lenL cs) i.size then some (armsIx n ag sz cs s (List.range len),false,unitV,s) else none
   |_,_=>none
  |_,_,_=>none
 |_=>none
def appendV (i:TI) (e:Ty) (s:StV S) (x y:V S):ResV S:=
 bif !(Nat.blt s.nob bigN) then none else
 match i.kd,slV s e y with
 | .slice _ _ _ _,some new=>
  match x with
  | .emp=>some (true,.sh s.nob 0,newObV s (.arr e new 0))
  | .clp _ t es=>match castL t e es with
   |some es=>match y with
    | .clp (_+1) _ _=>some (fewL es new,.sh s.nob 0,newObV s (.arr e (catL es new) 0))
    |_=>some (fewL es new,.ty (.sl e) (catL es new),s)
   |none=>none
  | .sh o r=>match s.ob.get o with
   |some (.arr t es era)=>match castL t e es with
    |some es=>
     bif Nat.ble s.fl o&&(Nat.beq r era&&!(ownV y).contains o) then
      some (fewL es new,.sh o (Nat.succ era),{s with ob:=s.ob.set fuelTr o (.arr e (catL es new) (Nat.succ era)),wr:=o ::s.wr})
     else none
    |none=>none
   |_=>none
  |_=>none
 |_,_=>none
def builtinV0 (E:EnvT) (s:StV S) (b:Builtin) (argTypes:Array TypeId) (args:List (V S)):ResV S:=
 match b,args with
 | .len,[x]=>match (nth argTypes.toList 0).bind E.E.ti,(nth argTypes.toList 0).bind E.ty with
  |some i,some .str=>match i.kd,strV x with
   | .leaf .str,some b=>some (true,.ty (.int .i64) (lenI b),s)
   |_,_=>none
  |some i,some (.sl e)=>match i.kd with
   | .slice _ _ _ _=>(slV s e x).map λes=>(true,.ty (.int .i64) (lenI es),s)
   |_=>none
  |_,_=>none
 | .append,[x,y]=>match argTypes.toList with
  |[t,u]=>match E.E.ti t,E.E.ti u,E.ty t with
   |some i,some j,some (.sl e)=>match j.kd with
    | .slice _ _ _ _=>appendV i e s x y
    |_=>none
   |_,_,_=>none
  |_=>none
 |_,_=>none
def maxI (a b:Int):Int:=bif D.ilt a b then b else a
def minI (a b:Int):Int:=bif D.ilt b a then b else a
def builtinX (E:EnvT) (s:StV S) (b:Builtin) (argTypes:Array TypeId) (args:List (V S)):ResV S:=
 match b,args with
 | .len,[.mp o]=>match (nth argTypes.toList 0).bind E.mt,s.ob.get o with
  |some _,some (.map _ _ l)=>some (true,.ty (.int .i64) (lenI l),s)
  |some _,some (.mpv _ l)=>some (true,.ty (.int .i64) (lenI l),s)
  |_,_=>none
 | .max,[x,y]=>match intV .i64 x,intV .i64 y with
  |some m,some n=>some (true,.ty (.int .i64) (maxI m n),s)
  |_,_=>none
 | .min,[x,y]=>match intV .i64 x,intV .i64 y with
  |some m,some n=>some (true,.ty (.int .i64) (minI m n),s)
  |_,_=>none
 | .len,[.slb _ n]=>match (nth argTypes.toList 0).bind E.E.ti with
  |some i=>match i.kd with
   | .slice _ _ _ _=>some (true,.kn .i64 (Int.ofNat n),s)
   |_=>none
  |none=>none
 |_,_=>none
def builtinN (E:EnvT) (s:StV S) (b:Builtin) (argTypes:Array TypeId) (args:List (V S)):ResV S:=
 match b,args with
 | .len,[.sh o r]=>match s.ob.get o with
  |some (.nar n _ l era _ _ _)=>match (nth argTypes.toList 0).bind E.E.ti,(nth argTypes.toList 0).bind E.ty with
   |some i,some (.sl (.st n'))=>match i.kd with
    | .slice _ _ _ _=>bif Nat.beq r era&&Nat.beq n n' then some (true,.ty (.int .i64) (lenI l),s) else none
    |_=>none
   |_,_=>none
  |_=>none
 | .append,[.sh o r,.cln n' j' x]=>match s.ob.get o with
  |some (.nar n j l era m rera none)=>match argTypes.toList with
   |[t,u]=>match E.E.ti t,E.E.ti u,E.ty t,rwsV s m rera with
    |some i,some i',some (.sl (.st n'')),some ⟨t',rss⟩=>match i.kd,i'.kd,castL (.st n') (.st n) [x] with
     | .slice _ _ _ _,.slice _ _ _ _,some new=>bif Nat.beq r era&&(Nat.beq n n''&&(Nat.beq j j'&&(Nat.ble s.fl o&&(Nat.ble s.fl m&&(Nat.blt m s.nob&&(Nat.blt s.nob bigN&&(colB S n j t'&&Nat.ble 1 (S.width t')))))))) then
       some (D.band (lenB l rss) (fewL l new),.sh o (Nat.succ era),{s with ob:=(s.ob.set fuelTr m (.rws t' (catL rss [[]]) rera)).set fuelTr o (.nar n j (catL l new) (Nat.succ era) m rera none),wr:=o ::m ::s.wr})
      else none
     |_,_,_=>none
    |_,_,_,_=>none
   |_=>none
  |_=>none
 | .append,[.nel o m r k,y]=>match s.ob.get o,s.ob.get m with
  |some (.nar n j l era m' rera none),some (.rws t rss rera')=>match argTypes.toList with
   |[ta,u]=>match E.E.ti ta,E.E.ti u,E.ty ta,slV s t y with
    |some i,some i',some (.sl t'),some new=>match i.kd,i'.kd,y with
     |_,_,.sh _ _=>none
     | .slice _ _ _ _,.slice _ _ _ _,_=>bif Nat.beq m m'&&(Nat.beq r rera&&(Nat.beq r rera'&&(Nat.ble s.fl o&&(Nat.ble s.fl m&&(Nat.blt o bigN&&tyEq t' t))))) then
       some (D.band (inbN k rss) (fewL (elL rss k []) new),.nel o m (Nat.succ r) k,{s with ob:=(s.ob.set fuelTr m (.rws t (putL rss k (catL (elL rss k []) new)) (Nat.succ r))).set fuelTr o (.nar n j l era m (Nat.succ r) (some k)),wr:=o ::m ::s.wr})
      else none
     |_,_,_=>none
    |_,_,_,_=>none
   |_=>none
  |_,_=>none
 |_,_=>none
def delL {A:Nat->Type} {β:Type} (kt:Ty) (k:den A kt):List (den A kt×β)->List (den A kt×β)
 |[]=>[]
 |p ::l=>bif keq kt k p.1 then l else p ::delL kt k l
def builtinD (E:EnvT) (s:StV S) (b:Builtin) (argTypes:Array TypeId) (args:List (V S)):ResV S:=
 match b,args with
 | .delete,[.mp o,k]=>match (nth argTypes.toList 0).bind E.mt,s.ob.get o with
  |some m,some (.map kt vt l)=>match castK kt m.kt l,keyV m.kt k with
   |some l,some k=>bif Nat.ble s.fl o then some (true,unitV,{s with ob:=s.ob.set fuelTr o (.map m.kt vt (delL m.kt k l)),wr:=o ::s.wr}) else none
   |_,_=>none
  |_,_=>none
 |_,_=>none
def builtinV (E:EnvT) (s:StV S) (b:Builtin) (argTypes:Array TypeId) (args:List (V S)):ResV S:=match builtinN E s b argTypes args with
 |some r=>some r
 |none=>match builtinV0 E s b argTypes args with
  |some r=>some r
  |none=>match builtinX E s b argTypes args with
   |some r=>some r
   |none=>builtinD E s b argTypes args
end TL
end
section
namespace TL
open Go
variable {S:Sg}
def chk {α:Type} (c:Bool) (x:Option α):Option α:=bif c then x else none
def sel {α:Type} (c:Bool) (x y:Option α):Option α:=bif c then x else y
def bnd {α β:Type} (x:Option α) (f:α->Option β):Option β:=match x with|some a=>f a|none=>none
def imp (c p:Bool):Bool:=bif c then p else true
inductive Ck where
 |dat (t:Ty)|own (e:Ty)|nown (n j:Nat) (t:Ty)|nil (e:Ty)|ptr (t:Ty)
@[reducible] def Ck.ty:Ck->Ty|.dat t=>t|.own e=>.sl e|.nown n _ _=>.sl (.st n)|.nil e=>.sl e|.ptr t=>t
inductive Bk where
 |cells (cs:List Ck)|map (kt vt:Ty)|sit|link (m:Bool) (pre post:List Ck)|bld (ty e:TypeId)|lpr (x:Option Nat)
inductive Pk where
 |one (c:Ck)|box (k:Bk)|hid (k:Bk)
@[reducible] def cden (A:Nat->Type):List Ck->Type
 |[]=>Unit
 |c ::l=>den A c.ty×cden A l
@[reducible] def kden (A:Nat->Type):Bk->Type
 | .cells cs=>cden A cs
 | .map kt vt=>List (den A kt×den A vt)
 | .sit=>List UInt8×Nat
 | .bld _ _=>List UInt8
 | .lpr _=>Unit
 | .link _ pre post=>cden A pre×cden A post
@[reducible] def pden (A:Nat->Type):List Pk->Type
 |[]=>Unit
 | .one c ::l=>den A c.ty×pden A l
 | .box k ::l=>kden A k×pden A l
 | .hid k ::l=>kden A k×pden A l
@[reducible] def bden (A:Nat->Type):List Pk->Type
 |[]=>Unit
 | .one _ ::l=>bden A l
 | .box k ::l=>kden A k×bden A l
 | .hid k ::l=>kden A k×bden A l
inductive Rx (R P:Type) where
 |ok (r:R)|pan (p:P)
@[reducible] def RT:Bool->Type->Type->Type
 |false,R,_=>R
 |true,R,P=>Rx R P
def RT.res {R P:Type}:(pn:Bool)->RT pn R P->Rx R P
 |false,r=>Rx.ok r
 |true,r=>r
def RT.ok {R P:Type}:(pn:Bool)->R->RT pn R P
 |false,r=>r
 |true,r=>Rx.ok r
def RT.pan {R P:Type}:(pn:Bool)->P->Option (RT pn R P)
 |false,_=>none
 |true,p=>some (Rx.pan p)
structure Con (S:Sg) where
 ps:List Pk
 rs:List Ck
 pn:Bool
 F:pden S.A ps->Option (RT pn (cden S.A rs×bden S.A ps) (den S.A S.pt×bden S.A ps))
def packC (s:StV S):(c:Ck)->V S->Option (den S.A c.ty×List Nat×List Nat)
 | .dat t,v=>match toTy s t v with
  |some (x,os)=>some (x,os,[])
  |none=>none
 | .own e,.emp=>bif Nat.ble 1 (S.width e) then some ([],[],[]) else none
 | .own e,.sh o r=>match s.ob.get o with
  |some (.arr t l era)=>bif Nat.beq r era&&(Nat.ble s.fl o&&Nat.ble s.lo o) then match castL t e l with|some l=>some (l,[],[o])|none=>none else none
  |_=>none
 | .nil _,.emp=>some ([],[],[])
 | .nown n j t,.emp=>bif Nat.ble 1 (S.width (.st n))&&(colB S n j t&&Nat.blt j (S.width (.st n))) then some ([],[],[]) else none
 | .nown n j t,.sh o r=>match s.ob.get o with
  |some (.nar n' j' l era m rera none)=>match rwsV s m rera with
   |some ⟨t',rss⟩=>bif (Nat.beq r era&&(Nat.beq j j'&&(Nat.ble s.fl o&&(Nat.ble s.lo o&&(Nat.ble s.fl m&&(Nat.ble s.lo m&&(Nat.blt m s.nob&&(colB S n' j t'&&tyEq t' t)))))))) then match castL (.st n') (.st n) (fullL n' j t' l rss) with
     |some l=>some (l,[],[o,m])
     |none=>none
    else none
   |none=>none
  |_=>none
 |_,_=>none
def packCs (s:StV S):(cs:List Ck)->List (V S)->Option (cden S.A cs×List Nat×List Nat)
 |[],[]=>some ((),[],[])
 |c ::cs,v ::l=>match packC s c v,packCs s cs l with
  |some (x,a,b),some (h,a',b')=>some ((x,h),a++a',b++b')
  |_,_=>none
 |_,_=>none
def kval:Bk->Nat->V S
 | .cells _,o=>.ptr o 0
 | .map _ _,o=>.mp o
 | .sit,o=>.itr o
 | .bld _ _,o=>.ptr o 0
 | .lpr _,o=>.yld o
 | .link _ _ _,o=>.ptr o 0
def kptr:Bk->V S->Option Nat
 | .cells _,.ptr o 0=>some o
 | .map _ _,.mp o=>some o
 | .sit,.itr o=>some o
 | .bld _ _,.ptr o 0=>some o
 | .lpr _,.yld o=>some o
 | .link _ _ _,.ptr o 0=>some o
 |_,_=>none
def lkV:Bool->Nat->V S
 |true,o=>.mp o
 |false,o=>.ptr o 0
def lkO:Bool->Option (V S)->Option Nat
 |true,some (.mp o)=>some o
 |false,some (.ptr o 0)=>some o
 |_,_=>none
def lprC:Option Nat->Code
 |none=>.ret
 |some i=>.exit i
def lprB:Option Nat->LoopState->Option Code->Bool
 |none,.done,some .ret=>true
 |some i,.done,some (.exit j)=>Nat.beq i j
 |_,_,_=>false
def packK (s:StV S):(k:Bk)->Option (ObV S)->Option (kden S.A k×List Nat×List Nat×Option Nat)
 | .cells cs,some (.box vs)=>match packCs s cs vs with
  |some (x,a,b)=>some (x,a,b,none)
  |none=>none
 | .map kt vt,some (.map k v l)=>match castM k v kt vt l with
  |some l=>some (l,[],[],none)
  |none=>none
 | .sit,some (.sit b n)=>some ((b,n),[],[],none)
 | .bld ty e,some (.bld ty' m)=>match s.ob.get m with
  |some (.bbf e' l)=>bif Nat.beq ty ty'&&(Nat.beq e e'&&(Nat.ble s.fl m&&(Nat.ble s.lo m&&Nat.blt m s.nob))) then some (l,[],[m],none) else none
  |_=>none
 | .lpr x,some (.lp l)=>bif lprB x l.st l.pend then some ((),[],[],none) else none
 | .lpr x,some (.lpd st pend)=>bif lprB x st pend then some ((),[],[],none) else none
 | .link m pre post,some (.box vs)=>match packCs s pre (vs.take (lenL pre)),lkO m (nth vs (lenL pre)),packCs s post (vs.drop (Nat.succ (lenL pre))) with
  |some (x,a,b),some o,some (y,a',b')=>some ((x,y),a++a',b++b',some o)
  |_,_,_=>none
 |_,_=>none
def linkOk:Bk->List Pk->Bool
 | .link _ _ _,.hid _ ::_=>true
 | .link _ _ _,_=>false
 |_,_=>true
def packPs (s:StV S):(ps:List Pk)->List (V S)->Option Nat->Option (pden S.A ps×List Nat×List Nat×List Nat)
 |[],[],_=>some ((),[],[],[])
 | .one c ::ps,v ::l,_=>match packC s c v,packPs s ps l none with
  |some (x,a,b),some (h,a',b',bs)=>some ((x,h),a++a',b++b',bs)
  |_,_=>none
 | .box k ::ps,v ::l,_=>match kptr k v with
  |some o=>bif Nat.ble s.fl o&&linkOk k ps then match packK s k (s.ob.get o) with
   |some (x,a,b,nx)=>match packPs s ps l nx with
    |some (h,a',b',bs)=>some ((x,h),a++a',b++b',o ::bs)
    |none=>none
   |none=>none
   else none
  |none=>none
 | .hid k ::ps,l,some o=>bif Nat.ble s.fl o&&linkOk k ps then match packK s k (s.ob.get o) with
   |some (x,a,b,nx)=>match packPs s ps l nx with
    |some (h,a',b',bs)=>some ((x,h),a++a',b++b',o ::bs)
    |none=>none
   |none=>none
   else none
 |_,_,_=>none
def unC (s:StV S):(c:Ck)->den S.A c.ty->V S×StV S
 | .dat t,x=>(.ty t x,s)
 | .own e,l=>(.sh s.nob 0,newObV s (.arr e l 0))
 | .nil _,_=>(.emp,s)
 | .ptr t,x=>(.ept t x 0,s)
 | .nown n j t,l=>(.sh s.nob 0,newObV (newObV s (.nar n j l 0 (Nat.succ s.nob) 0 none)) (.rws t (colL n j t l) 0))
def unCs (s:StV S):(cs:List Ck)->cden S.A cs->List (V S)×StV S
 |[],_=>([],s)
 |c ::cs,x=>match unC s c x.1 with
  |(v,s)=>match unCs s cs x.2 with
   |(l,s)=>(v ::l,s)
def headN:List Nat->Option Nat
 |[]=>none
 |a ::_=>some a
def ptrsV (m:Bool):Option Nat->List (V S)
 |some o=>[lkV m o]
 |none=>[]
def unK (s:StV S) (nx:Option Nat):(k:Bk)->kden S.A k->ObV S×StV S
 | .cells cs,x=>match unCs s cs x with
  |(vs,s)=>(.box vs,s)
 | .map kt vt,l=>(.map kt vt l,s)
 | .sit,x=>(.sit x.1 x.2,s)
 | .bld ty e,l=>(.bld ty s.nob,newObV s (.bbf e l))
 | .lpr x,_=>(.lpd .done (some (lprC x)),s)
 | .link m pre post,x=>match unCs s pre x.1 with
  |(vs,s)=>match unCs s post x.2 with
   |(vs',s)=>(.box (vs++(ptrsV m nx++vs')),s)
def putBs (s:StV S):(ps:List Pk)->List Nat->bden S.A ps->Option (StV S)
 |[],[],_=>some s
 | .one _ ::ps,bs,h=>putBs s ps bs h
 | .box k ::ps,o ::bs,h=>match unK s (headN bs) k h.1 with
  |(ob,s)=>putBs {s with ob:=s.ob.set fuelTr o ob,wr:=o ::s.wr} ps bs h.2
 | .hid k ::ps,o ::bs,h=>match unK s (headN bs) k h.1 with
  |(ob,s)=>putBs {s with ob:=s.ob.set fuelTr o ob,wr:=o ::s.wr} ps bs h.2
 |_,_,_=>none
def nxOk (b:Nat):Option Nat->Bool
 |none=>true
 |some o=>Nat.beq o (Nat.succ b)
def packBs (s:StV S):Nat->(ps:List Pk)->Option (bden S.A ps×List Nat×List Nat)
 |_,[]=>some ((),[],[])
 |b,.one _ ::ps=>packBs s b ps
 |b,.box k ::ps=>match packK s k (s.ob.get b),packBs s (Nat.succ b) ps with
  |some (x,a,c,nx),some (h,a',c')=>bif nxOk b nx&&linkOk k ps then some ((x,h),a++a',c++c') else none
  |_,_=>none
 |b,.hid k ::ps=>match packK s k (s.ob.get b),packBs s (Nat.succ b) ps with
  |some (x,a,c,nx),some (h,a',c')=>bif nxOk b nx&&linkOk k ps then some ((x,h),a++a',c++c') else none
  |_,_=>none
def nodupN:List Nat->Bool
 |[]=>true
 |a ::l=>!(l.contains a)&&nodupN l
def apartN (l m:List Nat):Bool:=l.all λa=>!(m.contains a)
def tupV:List (V S)->V S
 |[x]=>x
 |l=>.tup l
inductive ExV (S:Sg) where
 |nrm
 |ext (id:Nat)
 |ret
 |pan (v:V S)
abbrev Sh:=List (Nat×Pk)
inductive Pt where
 |slot (k:Nat)|cell (p:Pt) (i:Nat)|cap (p:Pt) (i:Nat)|rnd (p:Pt) (k:Nat)
structure LSh where
 sh:Sh
 pts:List Pt:=[]
 al:List (Nat×Nat):=[]
 pl:Nat:=0
 lq:List (Pt×Option Nat):=[]
structure JSh where
 sh:Sh
 pts:List Pt:=[]
 ks:List Pt:=[]
 rs:List Ck:=[]
structure EnvV (S:Sg) where
 T:EnvT
 gam:FuncId->Option (Con S)
 sh:FuncId->Nat->Option LSh
 pn:Bool:=false
 cj:FuncId->List (V S)->Option JSh:=λ_ _=>none
def calleeV:V S->List (V S)->Option (FuncId×List (V S))
 | .fn (.func f) first cap,args=>some (f,first++args++cap)
 |_,_=>none
inductive Tgt where|fn (f:FuncId)|yl (o:Nat)|jn (f:FuncId)|yd (o:Nat)
abbrev CallV (S:Sg):=Tgt->List (V S)->StV S->{ω:Type}->(V S->StV S->Option ω)->(V S->StV S->Option ω)->Option ω
mutual
def ments (os:List Nat):V S->Bool
 | .ptr o _=>os.contains o
 | .epw o _ _ _=>os.contains o
 | .sh o _=>os.contains o
 | .mp o=>os.contains o
 | .yld o=>os.contains o
 | .slb o _=>os.contains o
 | .itr o=>os.contains o
 | .nel o m _ _=>os.contains o||os.contains m
 | .fn _ a b=>mentsL os a||mentsL os b
 | .ifc _ v=>ments os v
 | .agg cs=>mentsL os cs
 | .tup cs=>mentsL os cs
 | .gd _ v=>ments os v
 |_=>false
def mentsL (os:List Nat):List (V S)->Bool
 |[]=>false
 |v ::l=>ments os v||mentsL os l
end
def mentsP {α:Type} (os:List Nat):List (α×V S)->Bool
 |[]=>false
 |p ::l=>ments os p.2||mentsP os l
def mentsTr (p:V S->Bool):Tr (V S)->Bool
 | .nil=>false
 | .node v l r=>(match v with|some x=>p x|none=>false)||(mentsTr p l||mentsTr p r)
def obMents (os:List Nat):ObV S->Bool
 | .box cs=>mentsL os cs
 | .mpv _ l=>mentsP os l
 | .lp l=>mentsTr (ments os) l.fr.tm
 | .nar _ _ _ _ m _ _=>os.contains m
 | .bld _ m=>os.contains m
 |_=>false
namespace Tr
variable {α:Type}
def del:Nat->Tr α->Nat->Tr α
 |0,t,_=>t
 |_+1,.nil,_=>.nil
 |n+1,.node v l r,k=>match k with
  |0=>.node none l r
  |k+1=>match Nat.beq (Nat.mod k 2) 0 with
   |true=>.node v (del n l (Nat.div k 2)) r
   |false=>.node v l (del n r (Nat.div k 2))
def keep (p:α->Bool):Tr α->Tr α
 | .nil=>.nil
 | .node v l r=>.node (match v with|some x=>bif p x then some x else none|none=>none) (keep p l) (keep p r)
end Tr
namespace Tr
variable {α:Type}
def mapA (f:α->α):Tr α->Tr α
 | .nil=>.nil
 | .node v l r=>.node (match v with|some x=>some (f x)|none=>none) (mapA f l) (mapA f r)
def keysOf (p:α->Bool):Tr α->List Nat
 | .nil=>[]
 | .node v l r=>(match v with|some x=>bif p x then [0] else []|none=>[])++((keysOf p l).map (λk=>Nat.succ (Nat.mul 2 k))++(keysOf p r).map (λk=>Nat.succ (Nat.succ (Nat.mul 2 k))))
end Tr
def unitV':V S:=.gd false unitV
def cleanV (os:List Nat) (v:V S):V S:=bif ments os v then unitV' else v
def cleanOb (os:List Nat):ObV S->ObV S
 | .box cs=>.box (cs.map (cleanV os))
 | .mpv kt l=>.mpv kt (l.map λp=>(p.1,cleanV os p.2))
 | .lp l=>.lp {l with fr:={l.fr with tm:=l.fr.tm.mapA (cleanV os)}}
 | .nar n j l era m rera hole=>bif os.contains m then .gone else .nar n j l era m rera hole
 | .bld ty m=>bif os.contains m then .box [unitV',unitV'] else .bld ty m
 |o=>o
def forget (os:List Nat) (s:StV S):StV S:=match os with
 |[]=>s
 |_=>{s with ob:=s.ob.mapA (cleanOb os),wr:=s.ob.keysOf (obMents os)++s.wr}
def delBs (bs:List Nat) (s:StV S):StV S:={s with ob:=bs.foldl (λt o=>t.del fuelTr o) s.ob}
def DfV.one:DfV S->Bool
 | .marks _|.bads=>false
 |_=>true
def cleanDf (p:V S->Bool):DfV S->DfV S
 | .call f args=>bif p f||args.any p then .bad else .call f args
 | .mark o=>bif p (.ptr o 0) then .bad else .mark o
 | .marks o=>bif p (.sh o 0) then .bads else .marks o
 | .bads=>.bads
 | .bad=>.bad
def forgetF (os:List Nat) (fr:FrV S):FrV S:=match os with
 |[]=>fr
 |_=>{fr with tm:=fr.tm.keep λv=>!(ments os v),df:=fr.df.map (cleanDf (ments os))}
def allDat:List Ck->Bool
 |[]=>true
 | .dat _ ::l=>allDat l
 | .own _ ::_=>false
 | .nown .. ::_=>false
 | .nil _ ::_=>false
 | .ptr _ ::_=>false
def datVs:(cs:List Ck)->cden S.A cs->List (V S)
 |[],_=>[]
 |c ::cs,x=>.ty c.ty x.1 ::datVs cs x.2
def onlyDat:List Pk->Bool
 |[]=>true
 | .one (.dat _) ::l=>onlyDat l
 |_=>false
def scalT:Ty->Bool
 | .int _|.bool|.str=>true
 |_=>false
def scalCs:List Ck->Bool
 |[]=>true
 | .dat t ::l=>scalT t&&scalCs l
 | .own _ ::_=>false
 | .nown .. ::_=>false
 | .nil _ ::_=>false
 | .ptr _ ::_=>false
def hasPt:List Pk->Bool
 |[]=>false
 | .one (.ptr _) ::_=>true
 |_ ::l=>hasPt l
def onlyRd:List Pk->Bool
 |[]=>true
 | .one (.dat _) ::l=>onlyRd l
 | .one (.ptr _) ::l=>onlyRd l
 |_=>false
def rdTy (s:StV S):(t:Ty)->V S->Option (den S.A t×List Nat)
 | .mp k v,.mp o=>match s.ob.get o with
  |some (.map k' v' l)=>match castM k' v' k v l with
   |some l=>some (l,[])
   |none=>none
  |_=>none
 |t,v=>toTy s t v
def rdTys (s:StV S):(ts:List Ty)->List (V S)->Option (hden S.A ts×List Nat)
 |[],[]=>some ((),[])
 |t ::ts,v ::l=>match rdTy s t v,rdTys s ts l with
  |some (x,os),some (h,ps)=>some ((x,h),os++ps)
  |_,_=>none
 |_,_=>none
def rdSt (s:StV S):(t:Ty)->List (V S)->Option (den S.A t×List Nat)
 | .st n,cs=>match rdTys s (S.fs n) cs with
  |some (h,os)=>some (S.mkS n h,os)
  |none=>none
 |_,_=>none
def ptrRd (s:StV S) (t:Ty):V S->Option (den S.A t×List Nat)
 | .ept u y 0=>match castTy u t y with
  |some x=>some (x,[])
  |none=>none
 | .ptr o 0=>match s.ob.get o with
  |some (.box cs)=>rdSt s t cs
  |_=>none
 |_=>none
def packRd (s:StV S):(ps:List Pk)->List (V S)->Option (pden S.A ps×List Nat)
 |[],[]=>some ((),[])
 | .one (.dat t) ::ps,v ::l=>match toTy s t v,packRd s ps l with
  |some (x,os),some (h,os')=>some ((x,h),os++os')
  |_,_=>none
 | .one (.ptr t) ::ps,v ::l=>match ptrRd s t v,packRd s ps l with
  |some (x,os),some (h,os')=>some ((x,h),os++os')
  |_,_=>none
 |_,_=>none
def lendB (c:Con S):Bool:=onlyDat c.ps&&(scalCs c.rs&&!c.pn)
mutual
def mentP (p:Nat->Bool):V S->Bool
 | .ptr o _=>p o
 | .epw o _ _ _=>p o
 | .sh o _=>p o
 | .mp o=>p o
 | .yld o=>p o
 | .slb o _=>p o
 | .itr o=>p o
 | .nel o m _ _=>p o||p m
 | .fn _ a b=>mentPs p a||mentPs p b
 | .ifc _ v=>mentP p v
 | .agg cs=>mentPs p cs
 | .tup cs=>mentPs p cs
 | .gd _ v=>mentP p v
 |_=>false
def mentPs (p:Nat->Bool):List (V S)->Bool
 |[]=>false
 |v ::l=>mentP p v||mentPs p l
end
def outP (ow:List Nat) (nob:Nat) (o:Nat):Bool:=ow.contains o||Nat.ble nob o
def initTmV:List (V S)->Nat->Tr (V S)->Tr (V S)
 |[],_,t=>t
 |a ::l,k,t=>initTmV l (Nat.succ k) (t.set fuelTr k a)
def resL (rs:List Ck) (v:V S):List (V S):=match rs,v with|[_],v=>[v]|_,.tup l=>l|_,v=>[v]
def shPs (sh:Sh):List Pk:=sh.map (·.2)
def valP (fr:FrV S) (s:StV S):Pt->Option (V S)
 | .slot k=>fr.get k
 | .cell p i=>match valP fr s p with
  |some (.ptr o 0)=>match s.ob.get o with
   |some (.box cs)=>nth cs i
   |_=>none
  |_=>none
 | .cap p i=>match valP fr s p with
  |some (.fn _ _ cs)=>nth cs i
  |_=>none
 | .rnd p k=>match valP fr s p with
  |some (.yld o)=>match s.ob.get o with
   |some (.lp l)=>l.fr.get k
   |_=>none
  |_=>none
def objsV (fr:FrV S) (s:StV S):Sh->List Pt->Option (List Nat)
 |[],[]=>some []
 |(_,.one _) ::l,ps=>objsV fr s l ps
 |(_,.box k) ::l,p ::ps=>match valP fr s p with
  |some v=>match kptr k v,objsV fr s l ps with
   |some o,some r=>some (o ::r)
   |_,_=>none
  |none=>none
 |(_,.hid k) ::l,p ::ps=>match valP fr s p with
  |some v=>match kptr k v,objsV fr s l ps with
   |some o,some r=>some (o ::r)
   |_,_=>none
  |none=>none
 |_,_=>none
def shVs (fr:FrV S):Sh->List Nat->Option (List (V S))
 |[],[]=>some []
 |(k,.one _) ::l,bs=>match fr.get k,shVs fr l bs with
  |some v,some r=>some (v ::r)
  |_,_=>none
 |(_,.box k) ::l,o ::bs=>match shVs fr l bs with
  |some r=>some (kval k o ::r)
  |none=>none
 |(_,.hid _) ::l,_ ::bs=>shVs fr l bs
 |_,_=>none
def headV:(sh:Sh)->List Nat->pden S.A (shPs sh)->FrV S->StV S->Option (FrV S×StV S)
 |[],[],_,fr,s=>some (fr,s)
 |(k,.one c) ::l,bs,x,fr,s=>match unC s c x.1 with
  |(v,s)=>bif Nat.blt k fr.n&&Nat.ble s.nob bigN then headV l bs x.2 (fr.put k v) s else none
 |(_,.box k) ::l,o ::bs,x,fr,s=>match unK s (headN bs) k x.1 with
  |(ob,s)=>bif Nat.ble s.nob bigN then headV l bs x.2 fr {s with ob:=s.ob.set fuelTr o ob} else none
 |(_,.hid k) ::l,o ::bs,x,fr,s=>match unK s (headN bs) k x.1 with
  |(ob,s)=>bif Nat.ble s.nob bigN then headV l bs x.2 fr {s with ob:=s.ob.set fuelTr o ob} else none
 |_,_,_,_,_=>none
def mentPp {α:Type} (p:Nat->Bool):List (α×V S)->Bool
 |[]=>false
 |x ::l=>mentP p x.2||mentPp p l
def obMentP (p:Nat->Bool):ObV S->Bool
 | .box cs=>mentPs p cs
 | .mpv _ l=>mentPp p l
 | .lp l=>mentsTr (mentP p) l.fr.tm
 | .nar _ _ _ _ m _ _=>p m
 | .bld _ m=>p m
 |_=>false
def cleanPV (p:Nat->Bool) (v:V S):V S:=bif mentP p v then unitV' else v
def cleanPOb (p:Nat->Bool):ObV S->ObV S
 | .box cs=>.box (cs.map (cleanPV p))
 | .mpv kt l=>.mpv kt (l.map λx=>(x.1,cleanPV p x.2))
 | .lp l=>.lp {l with fr:={l.fr with tm:=l.fr.tm.mapA (cleanPV p)}}
 | .nar n j l era m rera hole=>bif p m then .gone else .nar n j l era m rera hole
 | .bld ty m=>bif p m then .box [unitV',unitV'] else .bld ty m
 |o=>o
def baseOf (ds ow bs:List Nat) (fr:FrV S) (s1:StV S):FrV S×StV S:=
 ({fr with tm:=(ds.foldl (λt k=>t.del fuelTr k) fr.tm).keep λv=>!(mentP (outP ow s1.nob) v),df:=fr.df.map (cleanDf (mentP (outP ow s1.nob)))},delBs bs {s1 with ob:=s1.ob.mapA (cleanPOb (outP ow s1.nob)),wr:=[],dr:=[]})
def shB:Sh->Sh
 |[]=>[]
 |(_,.one _) ::l=>shB l
 |(k,.box b) ::l=>(k,.box b) ::shB l
 |(k,.hid b) ::l=>(k,.hid b) ::shB l
def packSt (sh:Sh) (bs:List Nat) (fr:FrV S) (s:StV S):Option (pden S.A (shPs sh)×StV S×List Nat):=
 match shVs fr sh bs with
 |none=>none
 |some vs=>match packPs s (shPs sh) vs none with
  |none=>none
  |some (x,fz,ow,bs')=>match freezeV s fz with
   |none=>none
   |some s1=>bif nodupN ow&&(apartN ow fz&&(nodupN bs'&&(Nat.beq (lenL bs') (lenL bs)&&(bs'.zip bs).all λ(a,b)=>Nat.beq a b))) then some (x,s1,ow) else none
def plainOb:ObV S->Bool
 | .arr ..|.frz ..|.nar ..|.rws ..|.gone|.mks|.bbf ..=>false
 |_=>true
def ptO (fr:FrV S) (s:StV S) (p:Pt):Option Nat:=match valP fr s p with
 |some (.ptr o 0)=>some o
 |some (.mp o)=>some o
 |some (.yld o)=>some o
 |_=>none
def ptsO (fr:FrV S) (s:StV S):List Pt->Option (List Nat)
 |[]=>some []
 |p ::l=>match ptO fr s p,ptsO fr s l with
  |some o,some r=>some (o ::r)
  |_,_=>none
def maxN:List Nat->Nat
 |[]=>0
 |a ::l=>bif Nat.ble (maxN l) a then a else maxN l
def slotsS:Sh->List Nat
 |[]=>[]
 |(k,.one _) ::l=>k ::slotsS l
 |(_,.box _) ::l=>slotsS l
 |(_,.hid _) ::l=>slotsS l
def notP (l:List Nat) (o:Nat):Bool:=!(l.contains o)
def frJ (args:List (V S)):FrV S:={n:=lenL args,tm:=initTmV args 0 .nil}
def frJ0 (l:List Nat) (sh:Sh) (fr:FrV S):FrV S:={n:=fr.n,tm:=((slotsS sh).foldl (λt k=>t.del fuelTr k) fr.tm).keep λv=>!(mentP (notP l) v)}
def keepT (ob:Tr (ObV S)):List Nat->Tr (ObV S)
 |[]=>.nil
 |o ::l=>match ob.get o with
  |some x=>(keepT ob l).set fuelTr o x
  |none=>keepT ob l
def stJ (bs ks:List Nat) (s:StV S):StV S:=⟨keepT s.ob ks,Nat.succ (maxN (bs++ks)),s.fl,0,[],[]⟩
def frE:FrV S:={n:=0,tm:=.nil}
def getAll (fr:FrV S):Nat->Nat->Option (List (V S))
 |_,0=>some []
 |j,n+1=>match fr.get j,getAll fr (Nat.succ j) n with
  |some v,some l=>some (v ::l)
  |_,_=>none
def closedB (l ks:List Nat) (s:StV S):Bool:=ks.all λo=>match s.ob.get o with
 |some ob=>plainOb ob&&!(obMentP (notP l) ob)
 |none=>false
abbrev JT (S:Sg) (sh:Sh) (rs:List Ck):=cden S.A rs×pden S.A (shPs (shB sh))
def packJ (sh:Sh) (rs:List Ck) (bs ks:List Nat) (v:V S) (s:StV S):Option (JT S sh rs):=
 match packCs s rs (resL rs v),packSt (shB sh) bs frE s with
 |some (r,_,_),some (y,s2,_)=>bif ks.all (λo=>!(s2.wr.contains o)) then some (r,y) else none
 |_,_=>none
def runJ (call:CallV S) (f:FuncId) (sh:Sh) (rs:List Ck) (bs ks:List Nat) (fr:FrV S) (s:StV S) (x:pden S.A (shPs sh)):Option (JT S sh rs):=
 match headV sh bs x fr s with
 |none=>none
 |some (fr,s)=>match getAll fr 0 fr.n with
  |none=>none
  |some args=>call (.jn f) args s (packJ sh rs bs ks) (λ_ _=>none)
section
variable (E:EnvV S) (call:CallV S) {ω:Type}
def evLent (s:StV S) (c:Con S) (args:List (V S)) (k:V S->StV S->List Nat->Option ω):Option ω:=
 bif onlyRd c.ps&&(scalCs c.rs&&!c.pn) then match packRd s c.ps args with
  |none=>none
  |some (x,fz)=>match freezeV s fz with
   |none=>none
   |some _=>bnd (c.F x) λr=>match RT.res c.pn r with
    | .ok r=>k (tupV (datVs c.rs r.1)) s []
    | .pan _=>none
 else none
def evCon (s:StV S) (c:Con S) (args:List (V S)) (kp:V S->StV S->Option ω) (k:V S->StV S->List Nat->Option ω):Option ω:=bif hasPt c.ps then evLent s c args k else
 match packPs s c.ps args none with
 |none=>none
 |some (x,fz,ow,bs)=>match freezeV s fz with
  |none=>none
  |some s1=>bif lendB c then bnd (c.F x) λr=>match RT.res c.pn r with
     | .ok r=>k (tupV (datVs c.rs r.1)) s []
     | .pan _=>none
   else bif nodupN ow&&(nodupN bs&&apartN ow fz) then
    bnd (c.F x) λr=>match RT.res c.pn r with
     | .ok r=>match putBs (delBs bs (forget ow {s1 with wr:=ow++s1.wr,dr:=ow++s1.dr})) c.ps bs r.2 with
      |none=>none
      |some s2=>match unCs s2 c.rs r.1 with
       |(l,s3)=>bif Nat.ble s3.nob bigN then k (tupV l) s3 ow else none
     | .pan p=>match putBs (delBs bs (forget ow {s1 with wr:=ow++s1.wr,dr:=ow++s1.dr})) c.ps bs p.2 with
      |none=>none
      |some s2=>match ow with
       |[]=>bif Nat.ble s2.nob bigN then kp (.ty S.pt p.1) s2 else none
       |_ ::_=>none
   else none
def armsK (k:V S->StV S->Option ω) (d:Option ω):List (Bool×V S×StV S)->Option ω
 |[]=>d
 |p ::l=>sel p.1 (k p.2.1 p.2.2) (armsK k d l)
def evJ (J:JSh) (s:StV S) (f:FuncId) (args:List (V S)) (k:V S->StV S->List Nat->Option ω):Option ω:=
 match objsV (frJ args) s J.sh J.pts,ptsO (frJ args) s J.ks with
 |some bs,some ks=>match packSt J.sh bs (frJ args) s with
  |none=>none
  |some (x0,s1,ow)=>bif (Nat.blt (lenL args) bigN&&(slotsS J.sh).all λk=>Nat.blt k bigN)&&(scalCs J.rs&&(closedB (bs++ks) ks s1&&Nat.ble (Nat.succ (maxN (bs++ks))) s1.nob)) then
    bnd (runJ call f J.sh J.rs bs ks (frJ0 (bs++ks) J.sh (frJ args)) (stJ bs ks s1) x0) λy=>
     match headV (shB J.sh) bs y.2 frE (baseOf [] ow bs frE s1).2 with
     |none=>none
     |some (_,s2)=>k (tupV (datVs J.rs y.1)) {s2 with wr:=s1.ob.keysOf (obMentP (outP ow s1.nob))++(bs++(ow++s1.wr)),dr:=ow++s1.dr} ow
   else none
 |_,_=>none
def ydB:Bool:=(E.cj 1000000 []).isSome
def lowO (s:StV S):Nat->List Nat
 |0=>[]
 |n+1=>bif Nat.ble s.lo n&&!((s.ob.get n).any plainOb) then n ::lowO s n else lowO s n
def fdB (f:FuncId):Bool:=(E.cj (Nat.add 1000001 f) []).isSome
def evCall (s:StV S) (f:FuncId) (args:List (V S)) (kp:V S->StV S->Option ω) (k:V S->StV S->List Nat->Option ω):Option ω:=match E.gam f with
 |some c=>evCon s c args kp k
 |none=>match E.cj f args with
  |some J=>evJ call J s f args k
  |none=>bif fdB E f then call (.jn f) args s (λt s'=>k t {s' with wr:=lowO s s.nob++s'.wr,dr:=lowO s s.nob++s'.dr} (lowO s s.nob)) (λ_ _=>none) else call (.fn f) args s (λt s'=>k t s' []) kp
def evInv (s:StV S) (m:String) (args:List (V S)) (n:Nat) (x:den S.A (.ifc n)) (kp:V S->StV S->Option ω) (k:V S->StV S->List Nat->Option ω):List (TypeId×Ty)->Nat->Option ω
 |[],_=>none
 |p ::l,j=>sel (isAlt (S.alts n) j (S.iget n x)) (match E.T.meth p.1 m with
   |some f=>bif Nat.beq p.1 ((nth (S.alts n) j).elim 0 (·.1)) then evCall E call s f (.ty (altTy (S.alts n) j) (getAlt S.zero (S.alts n) j (S.iget n x)) ::args) kp k else none
   |none=>none) (evInv s m args n x kp k l (Nat.succ j))
def yldV:Option (V S)->Option Nat
 |some (.yld o)=>some o
 |_=>none
def evOper (o:Oper) (fr:FrV S) (s:StV S) (kp:V S->StV S->Option ω) (k:V S->StV S->List Nat->Option ω):Option ω:=
 match o.op with
 | .call c=>match opdsV fr c.args.toList with
  |none=>none
  |some args=>match c.callee with
   | .builtin b=>match builtinV E.T s b c.argTypes args with
    |none=>none
    |some (p,t,s')=>chk p (k t s' [])
   | .value f=>match yldV (opdV fr f) with
    |some o=>bif ydB E then call (.yd o) args s (λt s'=>k t {s' with wr:=lowO s s.nob++s'.wr,dr:=lowO s s.nob++s'.dr} (lowO s s.nob)) (λ_ _=>none) else call (.yl o) args s (λt s'=>k t s' []) kp
    |none=>match (opdV fr f).bind (calleeV · args) with
     |none=>none
     |some (f,args)=>evCall E call s f args kp k
   | .invoke x m=>match opdV fr x with
    |some (.ifc t v)=>match E.T.meth t m with
     |some f=>evCall E call s f (v ::args) kp k
     |none=>none
    |some (.ty (.ifc n) x)=>evInv E call s m args n x kp k (S.alts n) 0
    |_=>none
 | .panic x=>match opdV fr x with
  |some (.ifc t v)=>kp (.ifc t v) s
  |_=>none
 |op=>match opS E.T fr s op with
  |some (arms,p,d,s')=>armsK (λv s=>k v s []) (chk p (k d s' [])) arms
  |none=>match opV E.T fr s op with
   |none=>none
   |some (p,t,s')=>chk p (k t s' [])
def gchk (c:Option Bool) (p:Bool) (x:Option ω):Option ω:=match c with
 |none=>chk p x
 |some c=>chk (imp c p) x
def gsel {α:Type} (c:Option Bool) (x:Option α) (z:α):Option α:=match c with
 |none=>x
 |some c=>sel c x (some z)
def gdV (c:Option Bool) (v:V S):V S:=match c with
 |none=>v
 |some c=>.gd c v
mutual
def noSh:V S->Bool
 | .sh _ _=>false
 | .nel _ _ _ _=>false
 | .fn _ _ _=>false
 | .ifc _ v=>noSh v
 | .agg cs=>noShs cs
 | .tup cs=>noShs cs
 |_=>true
def noShs:List (V S)->Bool
 |[]=>true
 |v ::l=>noSh v&&noShs l
end
def zeroCs (S:Sg):(cs:List Ck)->cden S.A cs
 |[]=>()
 |c ::cs=>(S.zero c.ty,zeroCs S cs)
def noBs (A:Nat->Type):(ps:List Pk)->Option (bden A ps)
 |[]=>some ()
 | .one _ ::ps=>noBs A ps
 | .box _ ::_=>none
 | .hid _ ::_=>none
def quietBi:Builtin->Bool
 | .len|.max|.min=>true
 |_=>false
def armsQ (k:V S->Option ω) (d:Option ω):List (Bool×V S×StV S)->Option ω
 |[]=>d
 |p ::l=>sel p.1 (k p.2.1) (armsQ k d l)
def evQuiet (g:Option Bool) (fr:FrV S) (s:StV S) (o:Oper) (k:V S->Option ω):Option ω:=
 match o.op with
 | .call c=>match opdsV fr c.args.toList with
  |none=>none
  |some args=>match c.callee with
   | .builtin b=>bif quietBi b then match builtinV E.T s b c.argTypes args with
     |some (p,t,_)=>gchk g p (k t)
     |none=>none
    else none
   | .value f=>match (opdV fr f).bind (calleeV · args) with
    |none=>none
    |some (f,args)=>match E.gam f with
     |none=>none
     |some c=>bif onlyDat c.ps&&(allDat c.rs&&(noShs args&&!c.pn)) then
       match packPs s c.ps args none,noBs S.A c.ps with
       |some (x,_,_,_),some b=>bnd (gsel g (c.F x) (RT.ok c.pn (zeroCs S c.rs,b))) λr=>match RT.res c.pn r with
        | .ok r=>k (tupV (datVs c.rs r.1))
        | .pan _=>none
       |_,_=>none
      else none
   |_=>none
 | .store ..|.alloc ..|.box ..|.panic ..|.makeMap ..|.mapUpdate ..|.insert ..|.makeSlice ..|.range ..|.next ..|.defer ..=>none
 | .buildSlice t n ps=>match partsV fr ps.toList with
  |some l=>bif noShs (l.map (·.2)) then match opV E.T fr s (.buildSlice t n ps) with
   |none=>none
   |some (p,v,_)=>gchk g p (k v)
   else none
  |none=>none
 | .slice t x lo hi mx=>match opdV fr x with
  |some v=>bif noSh v then match opV E.T fr s (.slice t x lo hi mx) with
   |none=>none
   |some (p,v,_)=>gchk g p (k v)
   else none
  |none=>none
 |op=>match opS E.T fr s op with
  |some (arms,p,d,_)=>armsQ k (gchk g p (k d)) arms
  |none=>match opV E.T fr s op with
   |none=>none
   |some (p,v,_)=>gchk g p (k v)
def quietB (fr:FrV S) (o:Oper):Bool:=
 match o.op with
 | .call c=>match opdsV fr c.args.toList with
  |none=>false
  |some args=>match c.callee with
   | .builtin b=>quietBi b
   | .value f=>match (opdV fr f).bind (calleeV · args) with
    |none=>false
    |some (f,args)=>match E.gam f with
     |none=>false
     |some c=>onlyDat c.ps&&(allDat c.rs&&(noShs args&&!c.pn))
   |_=>false
 | .store ..|.alloc ..|.box ..|.panic ..|.makeMap ..|.mapUpdate ..|.insert ..|.makeSlice ..|.range ..|.next ..|.defer ..=>false
 | .buildSlice _ _ ps=>match partsV fr ps.toList with
  |some l=>noShs (l.map (·.2))
  |none=>false
 | .slice _ x _ _ _=>match opdV fr x with
  |some v=>noSh v
  |none=>false
 |_=>true
def gdFrV (fr:FrV S) (o:Op):FrV S:=
 o.operands.toList.foldl (λf x=>match x with
  | .tmp k=>match fr.get k with
   |some (.gd _ v)=>f.put k v
   |_=>f
  |_=>f) fr
def gdOk (c:Bool) (fr:FrV S) (o:Op):Bool:=
 o.operands.toList.foldl (λp x=>match x with
  | .tmp k=>match fr.get k with
   |some (.gd g _)=>p&&imp c g
   |_=>p
  |_=>p) true
def guardV (ops:List Oper) (fr:FrV S) (o:Oper):Option (Option Bool):=
 match o.guard with
 |none=>some none
 |some (j,want)=>match ((nth ops j).bind (·.dst)).bind fr.get with
  |some (.kb b)=>bif (bif b then want else !want) then some none else some (some false)
  |some t=>match boolV t with
   |some b=>some (some (D.beq b want))
   |none=>none
  |none=>none
def skipV (ops:List Oper) (fr:FrV S) (o:Oper):Bool:=
 match o.guard with
 |none=>false
 |some (j,want)=>match ((nth ops j).bind (·.dst)).bind fr.get with
  |some (.kb b)=>bif b then !want else want
  |some (.dat (.lit (.tuple _)))=>true
  |_=>false
def guardsB (ops:List Oper) (d:Option Nat):Bool:=match d with
 |none=>false
 |some d=>ops.any λo=>match o.guard with
  |none=>false
  |some (j,_)=>match (nth ops j).bind (·.dst) with
   |some e=>Nat.beq d e
   |none=>false
def splitV {ω:Type} (b:Bool) (t:V S) (k:V S->Option ω):Option ω:=bif b then match t with
  | .ty .bool x=>sel x (k (.kb true)) (k (.kb false))
  |t=>k t
 else k t
def okDstV (fr:FrV S):Option Nat->Bool
 |none=>true
 |some d=>Nat.blt d fr.n
def evStepV (ops:List Oper) (o:Oper) (fr:FrV S) (s:StV S) (kp:V S->StV S->Option ω) (k:V S->StV S->List Nat->Option ω):Option ω:=
 bif okDstV fr o.dst then bif skipV ops fr o then k unitV s [] else match guardV ops fr o with
  |none=>none
  |some none=>evOper E call o fr s kp k
  |some (some c)=>
   let f:=gdFrV fr o.op
   bif quietB E f o then chk (gdOk c fr o.op) (evQuiet E (some c) f s o λt=>k (.gd c t) s [])
   else sel c (chk (gdOk c fr o.op) (evOper E call o f s kp k)) (k (.gd false unitV) s [])
 else none
def deferV (fr:FrV S) (o:Oper):Option (DfV S):=match o.guard,o.op with
 |none,.defer c=>match c.callee with
  | .value f=>match opdV fr f,opdsV fr c.args.toList with
   |some (.fn f a b),some args=>some (.call (.fn f a b) args)
   |_,_=>none
  |_=>none
 |_,_=>none
def evStep (ops:List Oper) (o:Oper) (fr:FrV S) (s:StV S) (kp:V S->StV S->Option ω) (k:FrV S->StV S->Option ω):Option ω:=
 match deferV fr o with
 |some d=>bif okDstV fr o.dst then k {(fr.putO o.dst unitV') with df:=d ::fr.df} s else none
 |none=>evStepV E call ops o fr s kp λt s' ow=>splitV (guardsB ops o.dst) t λt=>k ((forgetF ow fr).putO o.dst t) s'
def evOps (ops:List Oper) (kp:FrV S->V S->StV S->Option ω) (k:FrV S->StV S->Option ω):List Oper->FrV S->StV S->Option ω
 |[],fr,s=>k fr s
 |o ::l,fr,s=>evStep E call ops o fr s (kp fr) λfr' s'=>evOps ops kp k l fr' s'
end
end TL
end
section
namespace TL
open Go
variable {S:Sg}
def dirs (o:Oper):List Nat:=(o.after.toList.filter (Region.binds .any)).map (·.on)
def befG:List Oper->List Nat->List Nat
 |[],acc=>acc
 |o ::l,acc=>befG l (acc++[(dirs o).foldl (λb e=>b||| (1 <<< e||| acc.getD e 0)) 0])
def befL (ops:List Oper):List Nat:=befG ops []
def backB:List Oper->Nat->Bool
 |[],_=>true
 |o ::l,n=>(dirs o).all (λe=>Nat.blt e n)&&backB l (Nat.succ n)
def usesB (o:Oper) (k:Nat):Bool:=o.op.operands.toList.any λx=>match x with|.tmp j=>Nat.beq j k|_=>false
def dstB (ops:List Oper) (bef:List Nat):Bool:=
 ops.zipIdx.all λ(o,i)=>match o.dst with
  |none=>true
  |some d=>Nat.blt d bigN&&ops.zipIdx.all λ(p,j)=>bif Nat.beq i j then !(usesB p d) else !(match p.dst with|some e=>Nat.beq e d|none=>false)&&(!(usesB p d)||((bef.getD j 0).testBit i||(bef.getD i 0).testBit j))
def antiB (ops:List Oper) (bef:List Nat) (i:Nat) (o:Oper):Bool:=match o.dst with
 |none=>false
 |some d=>ops.zipIdx.any λ(p,j)=>usesB p d&&(bef.getD i 0).testBit j
def useB (ops:List Oper):Bool:=ops.all λo=>o.op.operands.toList.all λx=>match x with|.tmp j=>Nat.blt j bigN|_=>true
def guardB (ops:List Oper) (bef:List Nat):Bool:=
 ops.zipIdx.all λ(o,i)=>match o.guard with
  |none=>true
  |some (j,_)=>(bef.getD i 0).testBit j
def isAlloc (o:Oper):Bool:=match o.op with|.alloc _=>o.guard.isNone|_=>false
def subN (a b:Nat):Bool:=Nat.beq (a&&& b) a
abbrev Num:=List (Nat×Oper)
section
variable (E:EnvV S) (call:CallV S) {ω:Type}
def readyQ (ops:List Oper) (bef:List Nat) (done:Nat) (fr:FrV S):Num->Option (Nat×Oper)
 |[]=>none
 |(i,o) ::l=>bif !(done.testBit i)&&(subN (bef.getD i 0) done&&((!(isAlloc o)&&!(antiB ops bef i o))&&(skipV ops fr o||(match guardV ops fr o with|some (some _)=>quietB E (gdFrV fr o.op) o|some none=>quietB E fr o|none=>false))))
   then some (i,o) else readyQ ops bef done fr l
def readyM (bef:List Nat) (done pend:Nat):Num->Option (Nat×Oper)
 |[]=>none
 |(i,o) ::l=>bif !(done.testBit i)&&(!(isAlloc o)&&subN (bef.getD i 0) (done||| pend)) then some (i,o) else readyM bef done pend l
def adopt (E:EnvT) (which:Nat):Num->FrV S->StV S->Option (FrV S×StV S)
 |[],fr,s=>some (fr,s)
 |(i,o) ::l,fr,s=>bif which.testBit i then match o.op,o.dst with
   | .alloc t,some d=>match E.E.ti t with
    |some ti=>bif Nat.blt s.nob bigN&&Nat.blt d fr.n then adopt E which l (fr.put d (.ptr s.nob 0)) (newObV s (.box (ti.zero.map zeroV))) else none
    |none=>none
   |_,_=>none
  else adopt E which l fr s
def opMents (p:Nat->Bool) (fr:FrV S) (o:Op):Bool:=o.operands.toList.any λx=>match opdV fr x with
 |some v=>mentP p v
 |none=>false
def pureB:Op->Bool
 | .move _|.assign _|.nilCheck _|.fieldAddr ..=>true
 |_=>false
def staysB (ops:List Oper) (bef:List Nat) (done i:Nat) (fr:FrV S) (nob:Nat) (wr ow:List Nat):Num->Bool
 |[]=>true
 |(j,o) ::l=>(!(done.testBit j)||(isAlloc o||((bef.getD i 0).testBit j||(!(opMents (outP wr nob) fr o.op||opMents (outP wr nob) (gdFrV fr o.op) o.op)||(pureB o.op&&!(opMents (λx=>ow.contains x) fr o.op||opMents (λx=>ow.contains x) (gdFrV fr o.op) o.op))))))&&staysB ops bef done i fr nob wr ow l
def pendN (all:Num) (done:Nat):Nat:=all.foldl (λb (i,o)=>bif isAlloc o&&!(done.testBit i) then b||| 1 <<< i else b) 0
def delD (ops:List Oper) (fr:FrV S):FrV S:={fr with tm:=(ops.filterMap (·.dst)).foldl (λt k=>t.del fuelTr k) fr.tm}
def evDraw (ops:List Oper) (bef:List Nat) (all:Num) (kp:FrV S->V S->StV S->Option ω) (k:FrV S->StV S->Option ω):Nat->Nat->FrV S->StV S->Option ω
 |0,_,_,_=>none
 |n+1,done,fr,s=>
  match readyQ E ops bef done fr all with
  |some (i,o)=>bif okDstV fr o.dst then bif skipV ops fr o then evDraw ops bef all kp k n (done||| 1 <<< i) (fr.putO o.dst unitV) s else match guardV ops fr o with
    |none=>none
    |some none=>evQuiet E none fr s o λt=>splitV (guardsB ops o.dst) t λt=>evDraw ops bef all kp k n (done||| 1 <<< i) (fr.putO o.dst t) s
    |some (some c)=>chk (gdOk c fr o.op) (evQuiet E (some c) (gdFrV fr o.op) s o λt=>evDraw ops bef all kp k n (done||| 1 <<< i) (fr.putO o.dst (.gd c t)) s)
   else none
  |none=>
   let pend:=pendN all done
   match readyM bef done pend all with
   |some (i,o)=>
    bif all.all (λ(j,p)=>done.testBit j||(isAlloc p||(Nat.beq i j||(bef.getD j 0).testBit i))) then
     match adopt E.T (pend&&& bef.getD i 0) all fr s with
     |none=>none
     |some (fr1,s1)=>
      evStepV E call ops o fr1 {s1 with wr:=[]} (λt s'=>kp (delD ops fr1) t {s' with wr:=s'.wr++s1.wr}) λt s' ow=>
       bif staysB ops bef done i fr s.nob s'.wr ow all then evDraw ops bef all kp k n (done||| (pend&&& bef.getD i 0)||| 1 <<< i) ((forgetF ow fr1).putO o.dst t) {s' with wr:=s'.wr++s1.wr} else none
    else none
   |none=>match adopt E.T pend all fr s with
    |none=>none
    |some (fr,s)=>bif all.all (λ(j,p)=>done.testBit j||isAlloc p) then k fr s else none
def allocB (E:EnvT) (n:Nat) (l:List Oper):Bool:=l.all λo=>bif isAlloc o then (match o.op with
  | .alloc t=>(E.E.ti t).isSome
  |_=>true)&&(match o.dst with|some d=>Nat.blt d n|none=>true)
 else true
def drawB (E:EnvV S) (fr:FrV S) (s:StV S) (l:List Oper) (bef:List Nat):Bool:=backB l 0&&(dstB l bef&&(guardB l bef&&(useB l&&(allocB E.T fr.n l&&Nat.beq s.fl 0))))
end
inductive LO (X R B P:Type) where
 |next (x:X)
 |out (j:Nat) (x:X)
 |ret (b:B) (r:R)
 |pan (b:B) (p:P)
def iter {X R B P:Type} (F:X->Option (LO X R B P)):Nat->X->Option (LO X R B P)
 |0,_=>none
 |n+1,x=>match F x with
  |none=>none
  |some (.next y)=>iter F n y
  |some (.out j y)=>some (.out j y)
  |some (.ret y r)=>some (.ret y r)
  |some (.pan y p)=>some (.pan y p)
def rdB:Code->Bool
 | .region _ ops _=>ops.toList.all λo=>match o.op with|.defer _=>false|_=>true
 | .seq a b=>rdB a&&rdB b
 | .cond _ a b=>rdB a&&rdB b
 | .block _ b=>rdB b
 | .loop b=>rdB b
 | .scope _=>false
 | .rangeFunc ..=>false
 |_=>true
def usesC:Code->List Nat
 | .region _ ops _=>ops.toList.foldl (λl o=>o.op.operands.toList.foldl (λl x=>match x with|.tmp k=>k ::l|_=>l) l) []
 | .seq a b=>usesC a++usesC b
 | .cond c a b=>(match c with|.tmp k=>[k]|_=>[])++(usesC a++usesC b)
 | .block _ b=>usesC b
 | .loop b=>usesC b
 |_=>[]
def frUse (l:List Nat) (fr:FrV S):FrV S:={n:=fr.n,tm:=l.foldl (λt k=>match fr.get k with|some v=>t.set fuelTr k v|none=>t) .nil,df:=[]}
def setTms:List Nat->List (V S)->Tr (V S)->Tr (V S)
 |k ::ks,v ::vs,t=>setTms ks vs (t.set fuelTr k v)
 |_,_,t=>t
def readyB:LoopState->Option Code->Bool
 | .ready,none=>true
 |_,_=>false
def outX {S:Sg}:LoopState->Option Code->Option (ExV S)
 | .ready,none=>some .nrm
 | .done,some (.exit i)=>some (.ext i)
 | .done,some .ret=>some .ret
 |_,_=>none
def condT:Operand->List Nat
 | .tmp k=>[k]
 |_=>[]
def dstsC:Code->List Nat
 | .region _ ops _=>ops.toList.filterMap (·.dst)
 | .seq a b=>dstsC a++dstsC b
 | .cond c a b=>condT c++(dstsC a++dstsC b)
 | .block _ b=>dstsC b
 | .loop b=>dstsC b
 | .rangeFunc _ _ a b=>dstsC a++dstsC b
 | .scope b=>dstsC b
 |_=>[]
def exitsC:Code->List Nat
 | .seq a b=>exitsC a++exitsC b
 | .cond _ a b=>exitsC a++exitsC b
 | .block i b=>(exitsC b).filter λj=>!(Nat.beq i j)
 | .loop b=>exitsC b
 | .rangeFunc _ _ a b=>exitsC a++exitsC b
 | .scope b=>exitsC b
 | .exit i=>[i]
 |_=>[]
def dedupN:List Nat->List Nat
 |[]=>[]
 |a ::l=>a ::(dedupN l).filter λb=>!(Nat.beq a b)
def shR (sh:Sh):List (Nat×Option Nat)->Sh
 |[]=>shB sh
 |p ::l=>(0,.box (.lpr p.2)) ::shR sh l
def bsR (bs:List Nat):List (Nat×Option Nat)->List Nat
 |[]=>bs
 |p ::l=>p.1 ::bsR bs l
def lqV (fr:FrV S) (s:StV S):List (Pt×Option Nat)->Option (List (Nat×Option Nat))
 |[]=>some []
 |p ::l=>match valP fr s p.1,lqV fr s l with
  |some (.yld o),some r=>bif Nat.ble s.fl o&&Nat.blt o s.nob then some ((o,p.2) ::r) else none
  |_,_=>none
abbrev LOQ (S:Sg) (sh:Sh) (lq:List (Nat×Option Nat)) (rs:List Ck):=LO (pden S.A (shPs sh)) (cden S.A rs) (pden S.A (shPs (shR sh lq))) (den S.A S.pt)
abbrev LOT (S:Sg) (sh:Sh) (rs:List Ck):=LOQ S sh [] rs
def exS (ds:List Nat):Sh->List Nat
 |[]=>[]
 |(k,.one (.own _)) ::l=>bif ds.contains k then exS ds l else k ::exS ds l
 |_ ::l=>exS ds l
def ownS:Sh->List Nat
 |[]=>[]
 |(k,.one (.own _)) ::l=>k ::ownS l
 |_ ::l=>ownS l
def srcV (fr:FrV S) (s:StV S) (c:Nat):Option (V S):=bif Nat.blt c 1000000 then fr.get c else match fr.get (Nat.div (Nat.sub c 1000000) 1000) with
 |some (.ptr o 0)=>match s.ob.get o with
  |some (.box cs)=>nth cs (Nat.mod (Nat.sub c 1000000) 1000)
  |_=>none
 |_=>none
def alOk (fr:FrV S) (s:StV S) (al:List (Nat×Nat)):Bool:=al.all λp=>match fr.get p.1,srcV fr s p.2 with
 |some (.sh o r),some (.sh o' r')=>Nat.beq o o'&&Nat.beq r r'
 |_,_=>false
def alOw (fr:FrV S) (ow:List Nat) (al:List (Nat×Nat)):Bool:=al.all λp=>match fr.get p.1 with
 |some (.sh o _)=>ow.contains o
 |_=>false
def putAl (s:StV S):List (Nat×Nat)->FrV S->FrV S
 |[],fr=>fr
 |p ::l,fr=>putAl s l (match srcV fr s p.2 with|some v=>fr.put p.1 v|none=>fr)
def exOk (fr:FrV S) (l:List Nat):Bool:=l.all λk=>match fr.get k with
 |some (.sh _ _)=>true
 |_=>false
def shOk (ds:List Nat) (sh:Sh):Bool:=sh.all λp=>match p.2 with
 | .one _=>ds.contains p.1
 | .box _=>true
 | .hid _=>true
abbrev Rv:=List (Nat×Ty)
def rvCs (rv:Rv):List Ck:=rv.map λp=>.dat p.2
def rvVs (fr:FrV S):Rv->Option (List (V S))
 |[]=>some []
 |(k,_) ::l=>match fr.get k,rvVs fr l with
  |some v,some r=>some (v ::r)
  |_,_=>none
def rvPut:(rv:Rv)->cden S.A (rvCs rv)->FrV S->FrV S
 |[],_,fr=>fr
 |(k,_) ::l,x,fr=>rvPut l x.2 (fr.put k (.ty _ x.1))
def FrV.know (fr:FrV S) (c:Operand) (b:Bool):FrV S:=match c with
 | .tmp k=>bif Nat.blt k fr.n then fr.put k (.kb b) else fr
 |_=>fr
noncomputable def ambS {ω:Type} (e:Bool) (x y:Option ω):Option ω:=bif e then (open Classical in if x=y then y else none) else y
def idxN (l:List Nat) (i:Nat):Nat:=match l with
 |[]=>0
 |a ::l=>bif Nat.beq a i then 0 else Nat.succ (idxN l i)
def wrOk (nob:Nat) (bs wr:List Nat):Bool:=wr.all λo=>Nat.ble nob o||bs.contains o
def backV {ω:Type} (sh:Sh) (bs:List Nat) (nob:Nat) (fr:FrV S) (s:StV S) (f:pden S.A (shPs sh)->Option ω):Option ω:=
 match packSt sh bs fr s with
 |some (x,s2,ow)=>bif wrOk nob bs s2.wr&&(ow.all (λo=>Nat.ble nob o)&&s2.dr.all (λo=>Nat.ble nob o)) then f x else none
 |none=>none
section
variable (E:EnvV S) (call:CallV S) (n:Nat) (fid:FuncId) (rv:Rv)
def exSeqV {ω:Type} (k:FrV S->StV S->Option ω) (Q:ExV S->FrV S->StV S->Option ω):ExV S->FrV S->StV S->Option ω
 | .nrm,fr,s=>k fr s
 | .ext i,fr,s=>Q (.ext i) fr s
 | .ret,fr,s=>Q .ret fr s
 | .pan v,fr,s=>Q (.pan v) fr s
def exBlockV {ω:Type} (i:Nat) (Q:ExV S->FrV S->StV S->Option ω):ExV S->FrV S->StV S->Option ω
 | .nrm,fr,s=>Q .nrm fr s
 | .ext j,fr,s=>match Nat.beq j i with
  |true=>Q .nrm fr s
  |false=>Q (.ext j) fr s
 | .ret,fr,s=>Q .ret fr s
 | .pan v,fr,s=>Q (.pan v) fr s
def outV {ω:Type} (Q:ExV S->FrV S->StV S->Option ω) (fr:FrV S) (s:StV S):List Nat->Nat->Option ω
 |[],_=>none
 |[i],_=>Q (.ext i) fr s
 |i ::l,j=>match j with
  |0=>Q (.ext i) fr s
  |j+1=>outV Q fr s l j
def marksV (nob:Nat) (s:StV S):List (DfV S)->Option (List Nat)
 |[]=>some []
 | .mark o ::l=>match s.ob.get o with
  |some .dfr=>bif Nat.ble nob o then (match marksV nob s l with|some r=>some (o ::r)|none=>none) else none
  |_=>none
 |_=>none
def mksB (fl nob:Nat) (base:FrV S×StV S):Bool:=match base.1.df with
 | .marks o ::_=>(match base.2.ob.get o with
  |some .mks=>Nat.blt o nob&&Nat.ble fl o
  |_=>false)
 |_=>false
def sameDf (nob:Nat) (base:FrV S×StV S) (fr':FrV S) (s':StV S):Bool:=
 match marksV nob s' (fr'.df.take (Nat.sub (lenL fr'.df) (lenL base.1.df))) with
 |some os=>nodupN os&&(Nat.beq (Nat.add (lenL os) (lenL base.1.df)) (lenL fr'.df)&&(Nat.beq (lenL os) 0||mksB s'.fl nob base))
 |none=>false
def roundE (sh:Sh) (lq:List (Nat×Option Nat)) (bs:List Nat) (nob:Nat) (exs:List Nat) (base base2:FrV S×StV S) (pn:Bool) (al:List (Nat×Nat)) (ex:ExV S) (fr':FrV S) (s':StV S):Option (LOQ S sh lq (rvCs rv)):=
 bif sameDf nob base fr' s' then match ex with
  | .nrm=>bif alOk fr' s' al then backV sh bs nob fr' s' (λy=>some (.next y)) else none
  | .ext j=>bif exs.contains j&&alOk fr' s' al then backV sh bs nob fr' s' (λy=>some (.out (idxN exs j) y)) else none
  | .ret=>bif sameDf nob base2 fr' s' then match rvVs fr' rv with
   |none=>none
   |some vs=>match packCs s' (rvCs rv) vs with
    |some (r,fz,_)=>match freezeV s' fz with
     |some s'=>backV (shR sh lq) (bsR bs lq) nob fr' s' (λy=>some (.ret y r))
     |none=>none
    |none=>none
   else none
  | .pan v=>bif pn&&sameDf nob base2 fr' s' then match packCs s' [.dat S.pt] [v] with
    |some (p,fz,_)=>match freezeV s' fz with
     |some s'=>backV (shR sh lq) (bsR bs lq) nob fr' s' (λy=>some (.pan y p.1))
     |none=>none
    |none=>none
   else none
  else none
def roundV (ev:{ω:Type}->(ExV S->FrV S->StV S->Option ω)->FrV S->StV S->Option ω) (sh:Sh) (lq:List (Nat×Option Nat)) (bs:List Nat) (nob:Nat) (exs:List Nat) (base base2:FrV S×StV S) (pn:Bool) (al:List (Nat×Nat)) (x:pden S.A (shPs sh)):Option (LOQ S sh lq (rvCs rv)):=
 match headV sh bs x base.1 base.2 with
 |none=>none
 |some (frh,sth)=>ev (λex fr' s'=>roundE rv sh lq bs nob exs base base2 pn al ex fr' {s' with lo:=base.2.lo}) (putAl sth al frh) {sth with lo:=nob}
def firstR:Code->Option Nat
 | .region id _ _=>some id
 | .seq a b=>match firstR a with
  |some k=>some k
  |none=>firstR b
 | .cond _ a b=>match firstR a with
  |some k=>some k
  |none=>firstR b
 | .block _ b=>firstR b
 | .loop b=>firstR b
 | .scope b=>firstR b
 |_=>none
def joinK (a b:Code):Nat:=match firstR a with
 |some k=>Nat.add 1000000 k
 |none=>match firstR b with
  |some k=>Nat.add 1000000 k
  |none=>999999
noncomputable def condV {ω:Type} (c:Operand) (A B:(ExV S->FrV S->StV S->Option ω)->FrV S->StV S->Option ω) (Q:ExV S->FrV S->StV S->Option ω) (fr:FrV S) (s:StV S):Option ω:=match opdV fr c with
  |some (.kb true)=>A Q fr s
  |some (.kb false)=>B Q fr s
  |some (.ub e)=>ambS e (A Q (fr.know c true) s) (B Q (fr.know c false) s)
  |some v=>match boolV v with
   |some t=>sel t (A Q (fr.know c true) s) (B Q (fr.know c false) s)
   |none=>none
  |none=>none
def joinV (ev:{ω:Type}->(ExV S->FrV S->StV S->Option ω)->FrV S->StV S->Option ω) {ω:Type} (sh:Sh) (pts:List Pt) (al:List (Nat×Nat)) (ds0 exs:List Nat) (Q:ExV S->FrV S->StV S->Option ω) (fr:FrV S) (s:StV S):Option ω:=
 match objsV fr s sh pts with
 |none=>none
 |some bs=>
  let ds:=ds0++(exS ds0 sh++al.map (·.1))
  match packSt sh bs fr s with
  |none=>none
  |some (x0,s1,ow)=>
   let base:=baseOf ds ow bs fr s1
   bif (shOk ds sh&&(exOk fr (exS ds0 sh)&&(alOk fr s al&&alOw fr ow al)))&&ds.all (λd=>Nat.blt d fr.n) then
    bnd (roundV rv ev sh [] bs s1.nob exs base base E.pn al x0) λ(o:LOT S sh (rvCs rv))=>match o with
     | .next x=>match headV sh bs x base.1 base.2 with
      |none=>none
      |some (frh,sth)=>Q .nrm (putAl sth al frh) {sth with wr:=s1.ob.keysOf (obMentP (outP ow s1.nob))++(bs++s1.wr),dr:=ow++s1.dr}
     | .out j x=>match headV sh bs x base.1 base.2 with
      |none=>none
      |some (frh,sth)=>outV Q (putAl sth al frh) {sth with wr:=s1.ob.keysOf (obMentP (outP ow s1.nob))++(bs++s1.wr),dr:=ow++s1.dr} exs j
     | .ret x r=>match headV (shB sh) bs x base.1 base.2 with
      |none=>none
      |some (frh,sth)=>Q .ret (rvPut rv r frh) {sth with wr:=s1.ob.keysOf (obMentP (outP ow s1.nob))++(bs++s1.wr),dr:=ow++s1.dr}
     | .pan y p=>bif E.pn then match headV (shB sh) bs y base.1 base.2 with
      |none=>none
      |some (frh,sth)=>Q (.pan (.ty S.pt p)) frh {sth with wr:=s1.ob.keysOf (obMentP (outP ow s1.nob))++(bs++s1.wr),dr:=ow++s1.dr}
      else none
   else none
def peelV {ω:Type} (ev:(ExV S->FrV S->StV S->Option ω)->FrV S->StV S->Option ω) (Q:ExV S->FrV S->StV S->Option ω) (fin:FrV S->StV S->Option ω):Nat->FrV S->StV S->Option ω
 |0,fr,s=>fin fr s
 |m+1,fr,s=>ev (exSeqV (peelV ev Q fin m) Q) fr s
def loopV (ev:{ω:Type}->(ExV S->FrV S->StV S->Option ω)->FrV S->StV S->Option ω) {ω:Type} (lqp:List (Pt×Option Nat)) (sh:Sh) (pts:List Pt) (al:List (Nat×Nat)) (ds0 exs:List Nat) (Q:ExV S->FrV S->StV S->Option ω) (fr:FrV S) (s:StV S):Option ω:=match lqV fr s lqp with
 |none=>none
 |some lq=>match objsV fr s sh pts with
  |none=>none
  |some bs=>
   let ds:=ds0++(exS ds0 sh++al.map (·.1))
   match packSt sh bs fr s with
   |none=>none
   |some (x0,s1,ow)=>
    let base:=baseOf ds ow bs fr s1
    bif (shOk ds sh&&(exOk fr (exS ds0 sh)&&(alOk fr s al&&alOw fr ow al)))&&ds.all (λd=>Nat.blt d fr.n) then
     bnd (iter (roundV rv ev sh lq bs s1.nob exs base (baseOf ds ow (bsR bs lq) fr s1) E.pn al) n x0) λ(o:LOQ S sh lq (rvCs rv))=>match o with
      | .next _=>none
      | .out j x=>match headV sh bs x base.1 base.2 with
       |none=>none
       |some (frh,sth)=>outV Q (putAl sth al frh) {sth with wr:=s1.ob.keysOf (obMentP (outP ow s1.nob))++(bs++s1.wr),dr:=ow++s1.dr} exs j
      | .ret x r=>match headV (shR sh lq) (bsR bs lq) x (baseOf ds ow (bsR bs lq) fr s1).1 (baseOf ds ow (bsR bs lq) fr s1).2 with
       |none=>none
       |some (frh,sth)=>Q .ret (rvPut rv r frh) {sth with wr:=s1.ob.keysOf (obMentP (outP ow s1.nob))++(bsR bs lq++s1.wr),dr:=ow++s1.dr}
      | .pan y p=>bif E.pn then match headV (shR sh lq) (bsR bs lq) y (baseOf ds ow (bsR bs lq) fr s1).1 (baseOf ds ow (bsR bs lq) fr s1).2 with
       |none=>none
       |some (frh,sth)=>Q (.pan (.ty S.pt p)) frh {sth with wr:=s1.ob.keysOf (obMentP (outP ow s1.nob))++(bsR bs lq++s1.wr),dr:=ow++s1.dr}
       else none
    else none
def rgB:Code->Bool
 | .seq a b=>rgB a||rgB b
 | .cond _ a b=>rgB a||rgB b
 | .block _ b=>rgB b
 | .loop b=>rgB b
 | .rangeFunc ..=>true
 | .scope b=>rgB b
 |_=>false
def mksV {ω:Type} (b:Bool) (k:FrV S->StV S->Option ω) (fr:FrV S) (s:StV S):Option ω:=
 bif b then (bif Nat.blt s.nob bigN then k {fr with df:=.marks s.nob ::fr.df} (newObV s .mks) else none) else k fr s
noncomputable def evC:Code->Nat->{ω:Type}->(ExV S->FrV S->StV S->Option ω)->FrV S->StV S->Option ω
 | .region _ ops false,_,_,Q,fr,s=>evOps E call ops.toList (λfr t s=>Q (.pan t) fr s) (Q .nrm) ops.toList fr s
 | .region _ ops true,_,_,Q,fr,s=>
  let l:=ops.toList
  let bef:=befL l
  let all:=l.zipIdx.map λp=>(p.2,p.1)
  bif drawB E fr s l bef then evDraw E call l bef all (λfr t s=>Q (.pan t) fr s) (Q .nrm) (Nat.succ (Nat.mul 2 (lenL l))) 0 fr s else none
 | .seq a b,i,_,Q,fr,s=>evC a i (exSeqV (evC b i Q) Q) fr s
 | .cond c a b,i,_,Q,fr,s=>match E.sh fid (joinK a b) with
  |none=>condV c (evC a i) (evC b i) Q fr s
  |some ⟨sh,pts,al,_,_⟩=>joinV E rv (λQ fr s=>condV c (evC a i) (evC b i) Q fr s) sh pts al (dstsC (.cond c a b)++rv.map (·.1)) (dedupN (exitsC (.cond c a b))) Q fr s
 | .block i b,_,_,Q,fr,s=>evC b i (exBlockV i Q) fr s
 | .loop b,i,_,Q,fr,s=>match E.sh fid i with
  |none=>none
  |some ⟨sh,pts,al,pl,lq⟩=>peelV (evC b i) Q (mksV (rgB b) λfr s=>loopV E n rv (evC b i) lq sh pts al (dstsC b++rv.map (·.1)) (dedupN (exitsC b)) Q fr s) pl fr s
 | .rangeFunc g ps asg body,_,_,Q,fr,s=>match (opdV fr g).bind (calleeV · [.yld (Nat.succ s.nob)]) with
  |none=>none
  |some (f,args)=>bif rdB asg&&(rdB body&&(Nat.ble s.fl (Nat.succ s.nob)&&Nat.blt (Nat.succ s.nob) bigN)) then
    evCall E call (newObV (newObV s .dfr) (.lp ⟨.ready,none,fid,frUse (usesC asg++usesC body) fr,ps.toList,asg,body⟩)) f args (λ_ _=>none) λ_ s' ow=>match s'.ob.get (Nat.succ s.nob) with
      |some (.lp l)=>match outX l.st l.pend with
       |some e=>Q e {(forgetF ow fr) with df:=.mark s.nob ::(forgetF ow fr).df} {s' with ob:=s'.ob.set fuelTr (Nat.succ s.nob) (.lp {l with st:=.exhausted})}
       |none=>none
      |some (.lpd st pend)=>match outX st pend with
       |some e=>Q e {(forgetF ow fr) with df:=.mark s.nob ::(forgetF ow fr).df} {s' with ob:=s'.ob.set fuelTr (Nat.succ s.nob) (.lpd .exhausted pend)}
       |none=>none
      |_=>none
   else none
 | .exit i,_,_,Q,fr,s=>Q (.ext i) fr s
 | .ret,_,_,Q,fr,s=>Q .ret fr s
 | .skip,_,_,Q,fr,s=>Q .nrm fr s
 | .label _,_,_,Q,fr,s=>Q .nrm fr s
 | .scope b,i,_,Q,fr,s=>evC b i Q fr s
 |_,_,_,_,_,_=>none
end
def resultsV (E:EnvT) (s:StV S) (fr:FrV S):List ResultVar->Option (List (V S))
 |[]=>some []
 | .tmp t ::l=>match fr.get t,resultsV E s fr l with
  |some x,some r=>some (x ::r)
  |_,_=>none
 | .cell a t ::l=>match E.E.ti t,fr.get a with
  |some i,some a=>match loadV i (E.ty t) s a,resultsV E s fr l with
   |some (p,x,_),some r=>bif p then some (x ::r) else none
   |_,_=>none
  |_,_=>none
def rvOf (E:EnvT):List ResultVar->List TypeId->Rv
 | .tmp k ::l,t ::ts=>match E.ty t with
  |some τ=>(k,τ) ::rvOf E l ts
  |none=>rvOf E l ts
 |_ ::l,_ ::ts=>rvOf E l ts
 |_,_=>[]
def isRec (o:Oper):Bool:=match o.guard,o.op with
 |none,.call c=>match c.callee with
  | .builtin .recover=>true
  |_=>false
 |_,_=>false
def recV (pv:Option (V S)):V S:=match pv with
 |some v=>v
 |none=>.dat (.lit .nilIface)
section
variable (E:EnvV S) (call:CallV S) (n:Nat) (pv:Option (V S)) {ω:Type}
noncomputable def evR (fid:FuncId) (rv:Rv):Code->Nat->(Bool->ExV S->FrV S->StV S->Option ω)->FrV S->StV S->Option ω
 | .region id ops false,i,Q,fr,s=>match ops.toList with
  |o ::l=>bif isRec o then (bif okDstV fr o.dst then evOps E call (o ::l) (λfr t s=>Q pv.isSome (.pan t) fr s) (Q pv.isSome .nrm) l (fr.putO o.dst (recV pv)) s else none)
   else evC E call n fid rv (.region id ops false) i (Q false) fr s
  |[]=>none
 | .seq a b,i,Q,fr,s=>evR fid rv a i (λrec ex fr s=>match ex with
  | .nrm=>evC E call n fid rv b i (Q rec) fr s
  |ex=>Q rec ex fr s) fr s
 |c,i,Q,fr,s=>evC E call n fid rv c i (Q false) fr s
noncomputable def evDfc (d:DfV S) (s:StV S) (k:Bool->StV S->Option ω):Option ω:=match d with
 | .call f args=>match calleeV f args with
  |none=>none
  |some (f,args)=>match E.T.E.fnc f with
   |none=>none
   |some fn=>match fn.body with
    |none=>none
    |some c=>bif Nat.ble (lenL args) fn.ntmps&&Nat.blt fn.ntmps bigN then
      evR E call n pv f (rvOf E.T fn.results.toList fn.resultTypes.toList) c 0 (λrec e fr s'=>match fr.df with
       |[]=>match e with
        | .nrm|.ret=>match resultsV E.T s' fr fn.results.toList with
         |some _=>k rec {s' with lo:=s.lo}
         |none=>none
        |_=>none
       |_ ::_=>none) {n:=fn.ntmps,tm:=initTmV args 0 .nil} {s with lo:=s.nob}
     else none
 | .mark o=>match s.ob.get o with
  |some .dfr=>bif Nat.ble s.fl o&&Nat.blt o bigN then k false {s with ob:=s.ob.del fuelTr o,wr:=o ::s.wr} else none
  |_=>none
 | .marks o=>match s.ob.get o with
  |some .mks=>bif Nat.ble s.fl o&&Nat.blt o bigN then k false {s with ob:=s.ob.del fuelTr o,wr:=o ::s.wr} else none
  |_=>none
 |_=>none
end
noncomputable def evDfs (E:EnvV S) (call:CallV S) (n:Nat) {ω:Type}:List (DfV S)->Option (V S)->StV S->(Option (V S)->StV S->Option ω)->Option ω
 |[],pv,s,k=>k pv s
 |d ::l,pv,s,k=>evDfc E call n pv d s λrec s'=>evDfs E call n l (bif rec then none else pv) s' k
def evFin (E:EnvT) {ω:Type} (rs:List ResultVar) (fr:FrV S) (k kp:V S->StV S->Option ω) (pv:Option (V S)) (s:StV S):Option ω:=match pv with
 |none=>match resultsV E s fr rs with
  |some l=>k (tupV l) s
  |none=>none
 |some v=>kp v s
noncomputable def evEnd (E:EnvV S) (call:CallV S) (n:Nat) {ω:Type} (rs:List ResultVar) (k kp:V S->StV S->Option ω):ExV S->FrV S->StV S->Option ω
 | .nrm,fr,s=>evDfs E call n fr.df none s (evFin E.T rs fr k kp)
 | .ret,fr,s=>evDfs E call n fr.df none s (evFin E.T rs fr k kp)
 | .pan v,fr,s=>evDfs E call n fr.df (some v) s (evFin E.T rs fr k kp)
 | .ext _,_,_=>none
def jumpV:ExV S->Option (Option Code)
 | .nrm=>some none
 | .ret=>some (some .ret)
 | .ext i=>some (some (.exit i))
 | .pan _=>none
def rdEnd (o:Nat) {ω:Type} (k:V S->StV S->Option ω) (e:ExV S) (_:FrV S) (s:StV S):Option ω:=match s.ob.get o,jumpV e with
 |some (.lp l),some none=>k (.kb true) {s with ob:=s.ob.set fuelTr o (.lp {l with st:=.ready,pend:=none})}
 |some (.lp l),some (some c)=>k (.kb false) {s with ob:=s.ob.set fuelTr o (.lp {l with st:=.done,pend:=some c}),wr:=o ::s.wr}
 |_,_=>none
noncomputable def rdMid (E:EnvV S) (call:CallV S) (n o:Nat) (fid:FuncId) (body:Code) {ω:Type} (k:V S->StV S->Option ω):ExV S->FrV S->StV S->Option ω
 | .nrm,fr,s=>match s.ob.get o with
  |some (.lp l)=>bif readyB l.st l.pend then evC E call n fid [] body 0 (rdEnd o k) fr {s with ob:=s.ob.set fuelTr o (.lp {l with st:=.busy})} else none
  |_=>none
 |_,_,_=>none
noncomputable def roundY (E:EnvV S) (call:CallV S) (n o:Nat) (args:List (V S)) (s:StV S) {ω:Type} (k:V S->StV S->Option ω):Option ω:=match s.ob.get o with
 |some (.lp l)=>bif readyB l.st l.pend&&(Nat.beq (lenL args) (lenL l.params)&&(l.params.all (λk=>Nat.blt k l.fr.n)&&(Nat.ble l.fr.n bigN&&(rdB l.assign&&(rdB l.body&&(Nat.ble s.fl o&&Nat.ble s.lo s.nob)))))) then
   evC E call n l.fid [] l.assign 0 (rdMid E call n o l.fid l.body k) {n:=l.fr.n,tm:=setTms l.params args l.fr.tm,df:=[]} s
  else none
 |_=>none
noncomputable def callT (E:EnvV S) (n:Nat) (call:CallV S):CallV S:=λtg args s {_} k kp=>match tg with
 | .yl o=>roundY E call n o args {s with lo:=s.nob} λt s'=>k t {s' with lo:=s.lo}
 | .yd o=>roundY E call n o args s k
 | .jn f=>match E.T.E.fnc f with
  |none=>none
  |some fn=>match fn.body with
   |none=>none
   |some c=>
    bif Nat.ble (lenL args) fn.ntmps&&(Nat.blt fn.ntmps bigN&&Nat.ble s.lo s.nob) then
     evC E call n f (rvOf E.T fn.results.toList fn.resultTypes.toList) c 0 (evEnd E call n fn.results.toList k kp) {n:=fn.ntmps,tm:=initTmV args 0 .nil} s
    else none
 | .fn f=>match E.T.E.fnc f with
  |none=>none
  |some fn=>match fn.body with
   |none=>none
   |some c=>
    bif Nat.ble (lenL args) fn.ntmps&&Nat.blt fn.ntmps bigN then
     evC E call n f (rvOf E.T fn.results.toList fn.resultTypes.toList) c 0 (evEnd E call n fn.results.toList (λv s'=>k v {s' with lo:=s.lo}) (λv s'=>kp v {s' with lo:=s.lo})) {n:=fn.ntmps,tm:=initTmV args 0 .nil} {s with lo:=s.nob}
    else none
noncomputable def callV (E:EnvV S) (n:Nat):Nat->CallV S
 |0=>λ_ _ _ {_} _ _=>none
 |d+1=>callT E n (callV E n d)
noncomputable def bodyV (E:EnvV S) (n d:Nat) (f:FuncId) (args:List (V S)) (s:StV S) {ω:Type} (k kp:V S->StV S->Option ω):Option ω:=match E.T.E.fnc f with
  |none=>none
  |some fn=>match fn.body with
   |none=>none
   |some c=>
    bif Nat.ble (lenL args) fn.ntmps&&Nat.blt fn.ntmps bigN then
     evC E (callV E n d) n f (rvOf E.T fn.results.toList fn.resultTypes.toList) c 0 (evEnd E (callV E n d) n fn.results.toList k kp) {n:=fn.ntmps,tm:=initTmV args 0 .nil} s
    else none
def inPs (b:Nat) (s:StV S):(ps:List Pk)->pden S.A ps->List (V S)×StV S
 |[],_=>([],s)
 | .one c ::ps,x=>match unC s c x.1 with
  |(v,s)=>match inPs b s ps x.2 with
   |(l,s)=>(v ::l,s)
 | .box k ::ps,x=>match unK s (some (Nat.succ b)) k x.1 with
  |(ob,s)=>match inPs (Nat.succ b) {s with ob:=s.ob.set fuelTr b ob} ps x.2 with
   |(l,s')=>(kval k b ::l,s')
 | .hid k ::ps,x=>match unK s (some (Nat.succ b)) k x.1 with
  |(ob,s)=>inPs (Nat.succ b) {s with ob:=s.ob.set fuelTr b ob} ps x.2
def boxesP:List Pk->Nat
 |[]=>0
 | .one _ ::l=>boxesP l
 | .box _ ::l=>Nat.succ (boxesP l)
 | .hid _ ::l=>Nat.succ (boxesP l)
def optCs (b:Nat):List Ck->Nat->List (Nat×Nat×Nat)
 |[],_=>[]
 | .dat (.opt n) ::l,i=>(b,i,n) ::optCs b l (Nat.succ i)
 |_ ::l,i=>optCs b l (Nat.succ i)
def optKs (b:Nat):Bk->List (Nat×Nat×Nat)
 | .cells cs=>optCs b cs 0
 | .link _ pre post=>optCs b pre 0++optCs b post (Nat.succ (lenL pre))
 |_=>[]
def optPs:List Pk->Nat->List (Nat×Nat×Nat)
 |[],_=>[]
 | .one _ ::l,b=>optPs l b
 | .box k ::l,b=>optKs b k++optPs l (Nat.succ b)
 | .hid k ::l,b=>optKs b k++optPs l (Nat.succ b)
def isE':List Nat->Bool
 |[]=>true
 |_ ::_=>false
def optOne (v:V S) (lim:Nat) (s:StV S) (q:Nat×Nat×Nat):StV S:=match s.ob.get q.1 with
 |some (.box vs)=>match nth vs q.2.1 with
  |some (.ptr o 0)=>match s.ob.get o with
   |some (.box us)=>match toTys s (S.fs q.2.2) us with
    |some (h,os)=>
     let p:=λk=>Nat.beq o k||Nat.ble s.nob k
     bif isE' os&&(Nat.ble lim o&&(Nat.blt q.1 lim&&!(mentP p v))) then
      {s with ob:=(s.ob.mapA (cleanPOb p)).set fuelTr q.1 (.box ((vs.map (cleanPV p)).set q.2.1 (.ty (.opt q.2.2) (some (S.mkS q.2.2 h)))))}
     else s
    |none=>s
   |_=>s
  |_=>s
 |_=>s
def finV (rs:List Ck) (ps:List Pk) (v:V S) (s0:StV S):Option (cden S.A rs×bden S.A ps):=
 let s':=(optPs ps 0).foldl (optOne v (boxesP ps)) s0
 match packCs s' rs (resL rs v),packBs s' 0 ps with
 |some (r,fz,ow),some (b,fz',ow')=>match freezeV s' (fz++fz') with
  |some _=>bif nodupN (ow++ow')&&apartN (ow++ow') (fz++fz') then some (r,b) else none
  |none=>none
 |_,_=>none
def finO (pn:Bool) (rs:List Ck) (ps:List Pk) (v:V S) (s':StV S):Option (RT pn (cden S.A rs×bden S.A ps) (den S.A S.pt×bden S.A ps)):=
 match finV rs ps v s' with
 |some r=>some (RT.ok pn r)
 |none=>none
def finP (pn:Bool) (rs:List Ck) (ps:List Pk) (v:V S) (s':StV S):Option (RT pn (cden S.A rs×bden S.A ps) (den S.A S.pt×bden S.A ps)):=
 match finV [.dat S.pt] ps v s' with
 |some r=>RT.pan pn (r.1.1,r.2)
 |none=>none
noncomputable def evFun (E:EnvV S) (n d:Nat) (f:FuncId) (ps:List Pk) (rs:List Ck) (x:pden S.A ps):Option (RT E.pn (cden S.A rs×bden S.A ps) (den S.A S.pt×bden S.A ps)):=
 match inPs 0 ⟨.nil,boxesP ps,0,boxesP ps,[],[]⟩ ps x with
 |(args,s)=>bif !(Nat.ble s.nob bigN) then none else bodyV E n d f args s (finO E.pn rs ps) (finP E.pn rs ps)
end TL
end
section
namespace TL
open Go
variable {S:Sg}
namespace Tr
variable {α β:Type}
def map (f:α->β):Tr α->Tr β
 | .nil=>.nil
 | .node v l r=>.node (v.map f) (map f l) (map f r)
theorem get_map (f:α->β):∀(t:Tr α) (k:Nat),(t.map f).get k=(t.get k).map f
 | .nil,k=>by rfl
 | .node v l r,0=>by rw[map,get_zero,get_zero]
 | .node v l r,k+1=>by
  rw[map,get_succ,get_succ,get_map f l,get_map f r]
  split<;>rfl
theorem set_map (f:α->β):∀(n:Nat) (t:Tr α) (k:Nat) (x:α),(Tr.set n t k x).map f=Tr.set n (t.map f) k (f x)
 |0,t,k,x=>rfl
 |n+1,.nil,0,x=>rfl
 |n+1,.nil,k+1,x=>by
  rw[map,set_succ_nil,set_succ_nil]
  split
  .rw[map,set_map f n];rfl
  .rw[map,set_map f n];rfl
 |n+1,.node v l r,0,x=>rfl
 |n+1,.node v l r,k+1,x=>by
  rw[map,set_succ_node,set_succ_node]
  split
  .rw[map,set_map f n]
  .rw[map,set_map f n]
end Tr
def encI (S:Sg):(l:List (TypeId×Ty))->iden S.A l->Option (TypeId×D)
 |[],_=>none
 |p ::_,.inl x=>some (p.1,enc S p.2 x)
 |_ ::l,.inr y=>encI S l y
def altsB:List (TypeId×Ty)->Bool
 |[]=>true
 |p ::l=>(altIx l p.1).isNone&&altsB l
structure SgOk (S:Sg):Prop where
 get_mk:∀n h,S.get n (S.mkS n h)=h
 mk_get:∀n x,S.mkS n (S.get n x)=x
 cells:∀n x,S.cells n x=encH S (S.fs n) (S.get n x)
 leaf:∀n,∀t∈S.fs n,isSt t=false
 iget_mk:∀n h,S.iget n (S.imk n h)=h
 icell:∀n x,S.icell n x=encI S (S.alts n) (S.iget n x)
 alts:∀n,altsB (S.alts n)=true
theorem encI_nil:∀l:List (TypeId×Ty),encI S l (nilI l)=none
 |[]=>rfl
 |_ ::l=>encI_nil l
theorem encI_inj:∀(l:List (TypeId×Ty)) (t:TypeId) (i:Nat) (x:den S.A (altTy l i)),altIx l t=some i->encI S l (injI l i x)=some (t,enc S (altTy l i) x)
 |[],t,i,x,h=>by cases h
 |p ::l,t,i,x,h=>by
  rcases cond_some h with ⟨hb,h⟩|⟨_,h⟩
  .simp at h
   subst h
   simp only[injI,encI,Nat.eq_of_beq_eq_true hb]
   rfl
  .split at h
   .rename_i j hj
    simp only[Option.some.injEq] at h
    subst h
    exact encI_inj l t j x hj
   .cases h
def lbyT:Ty->Nat
 | .str=>16
 | .ifc _=>16
 | .sl _=>24
 |_=>8
def sumL:List Ty->Nat
 |[]=>0
 |t ::l=>Nat.add (lbyT t) (sumL l)
def byOf (S:Sg):Ty->Nat
 | .int .i8|.int .u8=>1
 | .int .i16|.int .u16=>2
 | .int .i32|.int .u32=>4
 | .int _=>8
 | .bool=>1
 | .str=>16
 | .sl _=>24
 | .st n=>sumL (S.fs n)
 | .ifc _=>16
 | .opt _|.mp _ _=>8
theorem ifD_lby (o:Option (TypeId×D)):(ifD o).lby=16:=by cases o<;>rfl
theorem ifD_leaf (o:Option (TypeId×D)):(ifD o).leaf=true:=by cases o<;>rfl
theorem ifD_cells (o:Option (TypeId×D)):(ifD o).cells=[ifD o]:=by cases o<;>rfl
theorem ifD_by (o:Option (TypeId×D)):(ifD o).by_=16:=by cases o<;>rfl
theorem ptD_leaf (o:Option D):(ptD o).lby=8∧(ptD o).leaf=true∧(ptD o).cells=[ptD o]∧(ptD o).by_=8:=by cases o<;>exact ⟨rfl,rfl,rfl,rfl⟩
theorem encH_len:∀(ts:List Ty) (h:hden S.A ts),(encH S ts h).length=ts.length
 |[],_=>rfl
 |t ::ts,h=>by simp[encH,encH_len ts]
theorem enc_lby {t:Ty} (x:den S.A t) (h:isSt t=false):(enc S t x).lby=lbyT t:=by
 cases t<;>first|rfl|exact ifD_lby _|exact (ptD_leaf _).1|cases h
theorem sumBy_encH:∀(ts:List Ty) (h:hden S.A ts),(∀t∈ts,isSt t=false)->D.sumBy (encH S ts h)=sumL ts
 |[],_,_=>rfl
 |t ::ts,h,hl=>by
  simp[encH,D.sumBy,sumL,enc_lby _ (hl t (by simp)),sumBy_encH ts h.2 (λu hu=>hl u (by simp[hu]))]
theorem enc_leaf {t:Ty} (x:den S.A t) (h:isSt t=false):(enc S t x).leaf=true:=by
 cases t<;>first|rfl|exact ifD_leaf _|exact (ptD_leaf _).2.1|cases h
theorem encH_leaf:∀(ts:List Ty) (h:hden S.A ts),(∀t∈ts,isSt t=false)->∀d∈encH S ts h,d.leaf=true
 |[],_,_,d,hd=>by simp[encH] at hd
 |t ::ts,h,hl,d,hd=>by
  simp[encH,List.mem_cons] at hd
  rcases hd with rfl|hd
  .exact enc_leaf _ (hl t (by simp))
  .exact encH_leaf ts h.2 (λu hu=>hl u (by simp[hu])) d hd
theorem enc_by (hS:SgOk S) {t:Ty} (x:den S.A t):(enc S t x).by_=byOf S t:=by
 cases t with
 |st n=>
  simp[enc,D.by_,byOf]
  rw[show S.cells n x=_ from hS.cells n x,sumBy_encH _ _ (hS.leaf n)]
 |int k=>cases k<;>rfl
 |ifc n=>exact ifD_by _
 |opt n=>exact (ptD_leaf _).2.2.2
 |_=>rfl
theorem enc_width (hS:SgOk S) {t:Ty} (x:den S.A t):(enc S t x).cells.length=S.width t:=by
 cases t with
 |st n=>
  simp[enc,D.cells,Sg.width,lenL_eq]
  rw[show S.cells n x=_ from hS.cells n x,encH_len]
 |ifc n=>rw[show enc S (.ifc n) x=ifD (S.icell n x) from rfl,ifD_cells];rfl
 |opt n=>exact congrArg List.length (ptD_leaf _).2.2.1
 |_=>rfl
theorem enc_flat (hS:SgOk S) {t:Ty} (x:den S.A t):(enc S t x).flat=true:=by
 cases t with
 |st n=>
  simp[enc,D.flat,D.cells,List.all_eq_true]
  rw[show S.cells n x=_ from hS.cells n x]
  exact encH_leaf _ _ (hS.leaf n)
 |ifc n=>grind[enc,D.flat,ifD_cells,ifD_leaf]
 |opt n=>simp[enc,D.flat,(ptD_leaf _).2.2.1,(ptD_leaf _).2.1]
 |_=>rfl
def lowTy (S:Sg):(t:Ty)->den S.A t->T
 | .st n,x=>.agg ((S.cells n x).map .sym)
 | .int k,x=>.sym (enc S (.int k) x)
 | .bool,x=>.sym (enc S .bool x)
 | .str,x=>.sym (enc S .str x)
 | .sl e,x=>.sym (enc S (.sl e) x)
 | .ifc n,x=>.sym (enc S (.ifc n) x)
 | .opt n,x=>.sym (enc S (.opt n) x)
 | .mp k v,x=>.sym (enc S (.mp k v) x)
theorem lowTy_leaf {t:Ty} (x:den S.A t) (h:isSt t=false):lowTy S t x=.sym (enc S t x):=by
 cases t<;>first|rfl|cases h
mutual
def low:V S->T
 | .ty t x=>lowTy S t x
 | .kb b=>.kb b
 | .kn k n=>.kn k n
 | .dat d=>.sym d
 | .ptr o off=>.ptr o off
 | .ept t x off=>.ept (enc S t x) off
 | .epw o e i off=>.epw o e i off
 | .sh o e=>.sh o e
 | .emp=>.emp
 | .clp n t l=>.clp n (l.map (enc S t))
 | .fn f a b=>.fn f (lows a) (lows b)
 | .ifc t v=>.ifc t (low v)
 | .agg cs=>.agg (lows cs)
 | .tup vs=>.tup (lows vs)
 | .gd c v=>.gd c (low v)
 | .mp o=>.mp o
 | .yld o=>.yld o
 | .slb o n=>.slb o n
 | .itr o=>.itr o
 | .ub e=>.ub e
 | .nel o m r i=>.nel o m r i
 | .cln n j x=>.cln j (enc S (.st n) x)
def lows:List (V S)->List T
 |[]=>[]
 |v ::l=>low v ::lows l
end
theorem lows_map:∀l:List (V S),lows l=l.map low
 |[]=>rfl
 |v ::l=>by simp[lows,List.map_cons,lows_map l]
def lowDf:DfV S->Df
 | .call f args=>.call (low f) (lows args)
 | .mark o=>.mark o
 | .marks o=>.marks o
 | .bads=>.bads
 | .bad=>.bad
def lowFr (fr:FrV S):Fr:=⟨fr.n,fr.tm.map low,fr.df.map lowDf⟩
def lowLp (l:LpV S):Lp:=⟨l.st,l.pend,l.fid,lowFr l.fr,l.params,l.assign,l.body⟩
def lowOb:ObV S->Ob
 | .box cs=>.box (lows cs)
 | .arr t l era=>.arr (S.width t) (l.map (enc S t)) era
 | .frz t l era=>.frz (S.width t) (l.map (enc S t)) era
 | .map kt vt l=>.map (l.map λp=>(lowTy S kt p.1,lowTy S vt p.2))
 | .mpv kt l=>.map (l.map λp=>(lowTy S kt p.1,low p.2))
 | .sit b pos=>.sit (toBytes b) pos
 | .lp l=>.lp (lowLp l)
 | .dfr=>.dfr
 | .nar n j l era m rera hole=>.nar j (S.width (.st n)) (l.map (enc S (.st n))) era m rera hole
 | .rws t rss rera=>.rws (S.width t) (rss.map (·.map (enc S t))) rera
 | .gone=>.gone
 | .mks=>.mks
 | .bld ty m=>.bld ty m
 | .bbf ty l=>.bbf ty l
 | .lpd st pend=>.lpd st pend
def lowSt (s:StV S):St:=⟨s.ob.map lowOb,s.nob,s.fl,s.lo⟩
theorem lowSt_get (s:StV S) (o:Nat):(lowSt s).ob.get o=(s.ob.get o).map lowOb:=Tr.get_map _ _ _
theorem lowFr_get (fr:FrV S) (k:Nat):(lowFr fr).get k=(fr.get k).map low:=Tr.get_map _ _ _
theorem lowFr_put (fr:FrV S) (k:Nat) (v:V S):lowFr (fr.put k v)=(lowFr fr).put k (low v):=by
 simp[lowFr,FrV.put,Fr.put,Tr.set_map]
theorem lowFr_putO (fr:FrV S) (k:Option Nat) (v:V S):lowFr (fr.putO k v)=(lowFr fr).putO k (low v):=by
 cases k with
 |none=>rfl
 |some k=>exact lowFr_put fr k v
theorem lowSt_set (s:StV S) (o:Nat) (ob:ObV S) (wr:List Nat):lowSt {s with ob:=s.ob.set fuelTr o ob,wr:=wr}={lowSt s with ob:=(lowSt s).ob.set fuelTr o (lowOb ob)}:=by
 simp[lowSt,Tr.set_map]
theorem lowSt_new (s:StV S) (ob:ObV S):lowSt (newObV s ob)=(newOb (lowSt s) (lowOb ob)).2:=by
 simp[lowSt,newObV,newOb,Tr.set_map]
theorem bytes_of (b:ByteArray):toBytes (ofBytes b)=b:=by
 rfl
theorem constV_low {v:Value} {u:V S} (h:constV v=some u):ofConst v=some (low u):=by
 cases v with
 |bool b=>simp[constV,Option.some.injEq] at h;subst h;rfl
 |int k n=>simp[constV,Option.some.injEq] at h;subst h;rfl
 |string b=>
  simp[constV,Option.some.injEq] at h
  subst h
  simp only[ofConst,low,lowTy,enc,ofVal,Option.map_some]
  rw[bytes_of]
 |slice a n m=>
  unfold constV at h
  split at h
  all_goals first
   |(simp only[Option.some.injEq] at h;rename_i he;simp only[Value.slice.injEq] at he;obtain ⟨rfl,rfl,rfl⟩:=he;subst h;rfl)
   |(rename_i he;cases he;done)
   |grind[ofVal]
 |func f a b=>
  simp[constV] at h
  simp[ofConst]
  split at h
  .simp at h
   subst h
   rename_i h1 h2
   try rw[h1,h2]
   rfl
  .cases h
 |iface t v=>
  simp[constV,Option.map_eq_some_iff] at h
  obtain ⟨d,hd,rfl⟩:=h
  simp only[ofConst,hd,Option.map_some]
  rfl
 |_=>
  simp only[constV,Option.map_eq_some_iff] at h
  obtain ⟨d,hd,rfl⟩:=h
  simp only[ofConst,hd,Option.map_some]
  rfl
theorem opdV_low {fr:FrV S} {x:Operand} {u:V S} (h:opdV fr x=some u):opdT (lowFr fr) x=some (low u):=by
 cases x with
 |tmp k=>grind[opdV,opdT,lowFr_get]
 |const v=>exact constV_low h
 |global g=>cases h
 |func f=>simp[opdV,Option.some.injEq] at h;subst h;rfl
theorem opdsV_low {fr:FrV S}:∀{l:List Operand} {us:List (V S)},opdsV fr l=some us->opdsT (lowFr fr) l=some (lows us)
 |[],us,h=>by simp only[opdsV,Option.some.injEq] at h;subst h;rfl
 |x ::l,us,h=>by
  simp[opdsV] at h
  split at h
  .rename_i t r h1 h2
   simp at h
   subst h
   simp[opdsT,opdV_low h1,opdsV_low h2,lows]
  .cases h
theorem castTy_eq {t u:Ty} {x:den S.A t} {y:den S.A u} (h:castTy t u x=some y):t=u∧HEq x y:=by
 unfold castTy at h
 grind
theorem castL_eq {t u:Ty} {x:List (den S.A t)} {y:List (den S.A u)} (h:castL t u x=some y):t=u∧HEq x y:=by
 unfold castL at h
 grind
theorem intV_low {k:IntKind} {v:V S} {n:Int} (h:intV k v=some n):∃p,intT k (low v)=some (p,n)∧p:=by
 unfold intV at h
 split at h
 .rename_i j m
  cases hk:kindEq j k<;>rw[hk] at h
  .cases h
  .simp at h
   subst h
   exact ⟨True,by simp[low,intT,hk],trivial⟩
 .rename_i j x
  cases hk:kindEq j k<;>rw[hk] at h
  .cases h
  .simp at h
   subst h
   exact ⟨_,rfl,hk⟩
 .cases h
theorem boolV_low {v:V S} {b:Bool} (h:boolV v=some b):∃p,boolT (low v)=some (p,b)∧p:=by
 unfold boolV at h
 split at h
 .simp at h
  subst h
  exact ⟨True,rfl,trivial⟩
 .simp at h
  subst h
  exact ⟨_,rfl,rfl⟩
 .cases h
theorem strV_low {v:V S} {b:List UInt8} (h:strV v=some b):∃p,strT (low v)=some (p,toBytes b)∧p:=by
 unfold strV at h
 split at h
 .simp at h
  subst h
  exact ⟨_,rfl,rfl⟩
 .cases h
theorem leavesV_low:∀(ts:List Ty) (h:hden S.A ts),(∀t∈ts,isSt t=false)->lows (leavesV (S:=S) ts h)=(encH S ts h).map .sym
 |[],_,_=>rfl
 |t ::ts,h,hl=>by
  simp only[leavesV,lows,encH,List.map_cons,leavesV_low ts h.2 (λu hu=>hl u (by simp[hu]))]
  rw[low,lowTy_leaf _ (hl t (by simp))]
theorem lows_len:∀l:List (V S),(lows l).length=l.length
 |[]=>rfl
 |v ::l=>by simp[lows,lows_len l]
theorem lows_append (l m:List (V S)):lows (l++m)=lows l++lows m:=by simp[lows_map,List.map_append]
theorem lows_take (l:List (V S)) (n:Nat):lows (l.take n)=(lows l).take n:=by simp[lows_map,List.map_take]
theorem lows_drop (l:List (V S)) (n:Nat):lows (l.drop n)=(lows l).drop n:=by simp[lows_map,List.map_drop]
theorem leafV_low {v:V S} (h:leafV v=true):(low v).leaf:=by
 cases v with
 |ty t x=>
  simp[leafV] at h
  rw[low,lowTy_leaf _ h]
  exact enc_leaf x h
 |dat d=>exact h
 |agg=>cases h
 |tup=>cases h
 |gd=>cases h
 |_=>trivial
theorem leafsV_low:∀{l:List (V S)},leafsV l=true->leaves (lows l)
 |[],_=>trivial
 |v ::l,h=>by
  simp[leafsV,Bool.and_eq_true] at h
  exact ⟨leafV_low h.1,leafsV_low h.2⟩
theorem range_map_cell (cs:List D):(List.range cs.length).map (λj=>T.sym ((D.agg cs).cell j))=cs.map .sym:=by
 apply List.ext_getElem?
 grind[D.cell,D.cells]
theorem cellsV_low (hS:SgOk S) {i:TI} {v:V S} {l:List (V S)} (h:cellsV i v=some l):∃p,cellsT i (low v)=some (p,lows l)∧p:=by
 unfold cellsV at h
 split at h
 .rename_i cs
  rcases cond_some h with ⟨hb,h⟩|⟨_,h⟩
  .simp at h
   have:(i.agg&&Nat.beq (lenL (lows cs)) i.size)=true:=by grind[lenL_eq,lows_len]
   exact ⟨True,by simp_all[low,cellsT],trivial⟩
  .cases h
 .rename_i n x
  rcases cond_some h with ⟨hb,h⟩|⟨_,h⟩
  .simp at h
   subst h
   rw[leavesV_low _ _ (hS.leaf n),<-hS.cells]
   have:(i.agg&&Nat.beq (lenL ((S.cells n x).map T.sym)) i.size)=true:=by
    rw[lenL_eq,List.length_map,hS.cells,encH_len,<-lenL_eq];exact hb
   exact ⟨True,by simp_all[low,lowTy,cellsT],trivial⟩
  .cases h
 .rename_i d
  rcases cond_some h with ⟨_,h⟩|⟨hag,h⟩
  .cases h
  .rcases cond_some h with ⟨hb,h⟩|⟨_,h⟩
   .simp only[Bool.and_eq_true] at hb
    simp at h
    subst h
    exact ⟨_,by simp only[low,cellsT,hag,hb.1,cond_true,cond_false];rfl,hb.2⟩
   .cases h
 .cases h
 .cases h
 .rename_i h1 h2 h3 h4 h5
  rcases cond_some h with ⟨_,h⟩|⟨hag,h⟩
  .cases h
  .rcases cond_some h with ⟨hb,h⟩|⟨_,h⟩
   .simp at h
    subst h
    cases v with
    |ty t x=>
     have ht:isSt t=false:=by
      cases t with
      |st n=>grind
      |_=>rfl
     have e:low (V.ty t x)=.sym (enc S t x):=by rw[low,lowTy_leaf _ ht]
     refine ⟨(enc S t x).leaf=true,?_,enc_leaf _ ht⟩
     simp_all[lows,cellsT]
    |agg cs=>simp_all
    |dat d=>simp_all
    |tup vs=>simp_all
    |gd c v=>simp_all
    |_=>exact ⟨True,by simp only[low,lows,cellsT,hag,hb,cond_true,cond_false],trivial⟩
   .cases h
theorem packV_low {ag:Bool} {l:List (V S)} {v:V S} (h:packV ag l=some v):packT ag (lows l)=some (low v):=by
 rcases cond_some h with ⟨hag,h⟩|⟨hag,h⟩
 .simp at h
  subst h
  simp[packT,hag,cond_true,low]
 .split at h
  .simp_all[packT,lows]
  .cases h
end TL
end
section
namespace TL
open Go
variable {S:Sg}
def TyRow (S:Sg) (i:TI):Ty->Prop
 | .int k=>i.kd=.leaf (.int k)∧i.agg=false∧i.size=1
 | .bool=>i.kd=.leaf .bool∧i.agg=false∧i.size=1
 | .str=>i.kd=.leaf .str∧i.agg=false∧i.size=1
 | .sl e=>(∃z,i.kd=.slice (S.width e) (isSt e) (byOf S e) z∧(bif isSt e then D.agg z=enc S e (S.zero e) else z=[enc S e (S.zero e)]))∧i.agg=false∧i.size=1∧0<S.width e
 | .st n=>i.agg=true∧i.size=(S.fs n).length
 | .ifc _=>i.kd=.iface∧i.agg=false∧i.size=1
 | .opt _=>i.kd=.ptr∧i.agg=false∧i.size=1
 | .mp _ _=>True∧i.agg=false∧i.size=1
structure TyOk (S:Sg) (E:EnvT):Prop where
 row:∀k i τ,E.E.ti k=some i->E.ty k=some τ->TyRow S i τ
theorem toDs_syms (s:St):∀ds:List D,∃p,toDs s (ds.map .sym)=some (p,ds,[])∧p
 |[]=>⟨True,rfl,trivial⟩
 |d ::ds=>by
  let ⟨p,h,hp⟩:=toDs_syms s ds
  exact ⟨True∧p,by grind[toDs,toD],trivial,hp⟩
theorem toD_lowTy (hS:SgOk S) (s:St) {t:Ty} (x:den S.A t):∃p,toD s (lowTy S t x)=some (p,enc S t x,[])∧p:=by
 cases t with
 |st n=>
  let ⟨p,h,hp⟩:=toDs_syms s (S.cells n x)
  refine ⟨p∧(S.cells n x).all D.leaf=true,by simp[lowTy,toD,h,enc],hp,?_⟩
  rw[List.all_eq_true,hS.cells]
  exact encH_leaf _ _ (hS.leaf n)
 |_=>exact ⟨True,rfl,trivial⟩
theorem kindEq_self (k:IntKind):kindEq k k=true:=by cases k<;>rfl
theorem tyEq_self:∀t:Ty,tyEq t t=true
 | .int k=>kindEq_self k
 | .bool=>rfl
 | .str=>rfl
 | .sl e=>tyEq_self e
 | .st n=>Nat.beq_refl n
 | .ifc n=>Nat.beq_refl n
 | .opt n=>Nat.beq_refl n
 | .mp k v=>Bool.and_eq_true_iff.2 ⟨tyEq_self k,tyEq_self v⟩
theorem castTy_self {t:Ty} (x:den S.A t):castTy (S:=S) t t x=some x:=by
 unfold castTy
 rw[dif_pos (tyEq_self t)]
theorem encH_hset:∀{ts:List Ty} {h:hden S.A ts} {j:Nat} {t:Ty} {y:den S.A t},nth ts j=some t->encH S ts (hset ts h j t y)=(encH S ts h).set j (enc S t y)
 |[],_,_,_,_,h=>by rfl
 | τ ::ts,h,0,t,y,e=>by
  grind[nth,hset,castTy_self,encH]
 | τ ::ts,h,j+1,t,y,e=>by
  simp[nth] at e
  simp[hset,encH,List.set_cons_succ,encH_hset e]
theorem encH_hget:∀{ts:List Ty} {h:hden S.A ts} {j:Nat} {t:Ty},nth ts j=some t->(encH S ts h)[j]?=some (enc S t (hget ts h j t))
 |[],_,_,_,h=>by simp[nth] at h
 | τ ::ts,h,0,t,e=>by
  grind[nth,hget,castTy_self,encH]
 | τ ::ts,h,j+1,t,e=>by
  simp[nth] at e
  simp[hget,encH,List.getElem?_cons_succ,encH_hget e]
theorem colB_iff {n j:Nat} {t:Ty} (h:colB S n j t=true):nth (S.fs n) j=some (.sl t):=by
 grind[colB,tyEq_eq]
theorem enc_setC (hS:SgOk S) {n j:Nat} {t:Ty} (hc:colB S n j t=true) (x:S.A n) (y:List (den S.A t)):enc S (.st n) (setC n j t x y)=fullD j (enc S (.st n) x) (y.map (enc S t)):=by
 show D.agg (S.cells n _)=D.agg ((S.cells n x).set j _)
 rw[hS.cells,hS.cells,setC,hS.get_mk,encH_hset (colB_iff hc)]
 rfl
theorem full_map (hS:SgOk S) {n j:Nat} {t:Ty} (hc:colB S n j t=true):∀(l:List (S.A n)) (rss:List (List (den S.A t))),(fullL n j t l rss).map (enc S (.st n))=fulls j (l.map (enc S (.st n))) (rss.map (·.map (enc S t)))
 |[],_=>by rfl
 |_ ::_,[]=>by rfl
 |x ::l,rs ::rss=>by
  grind[fullL,fulls,enc_setC]
theorem rwsV_low {s:StV S} {m r:Nat} {t:Ty} {rss:List (List (den S.A t))} (h:rwsV s m r=some ⟨t,rss⟩):rwsT (lowSt s) m r=some (rss.map (·.map (enc S t))):=by
 unfold rwsV at h
 split at h
 .rename_i t' rss' r' hm
  rcases cond_some h with ⟨hb,h⟩|⟨_,h⟩
  .cases h
   simp_all[rwsT,lowSt_get,lowOb]
  .cases h
 .cases h
mutual
theorem toTy_low (hS:SgOk S) (s:StV S):∀(t:Ty) (v:V S) {x:den S.A t} {os:List Nat},toTy s t v=some (x,os)->∃p,toD (lowSt s) (low v)=some (p,enc S t x,os)∧p
 |t,.ty u y,x,os,h=>by
  simp[toTy] at h
  split at h
  .rename_i z hz
   obtain ⟨rfl,hxy⟩:=castTy_eq hz
   cases hxy
   obtain ⟨rfl,rfl⟩:=h
   exact toD_lowTy hS _ _
  .cases h
 | .bool,.kb b,x,os,h=>by
  obtain ⟨rfl,rfl⟩:=h
  exact ⟨True,rfl,trivial⟩
 | .int k,.kn j n,x,os,h=>by
  rcases cond_some h with ⟨hb,h⟩|⟨_,h⟩
  .obtain ⟨rfl,rfl⟩:=h
   rw[kindEq_eq hb]
   exact ⟨True,rfl,trivial⟩
  .cases h
 | .sl e,.emp,x,os,h=>by
  obtain ⟨rfl,rfl⟩:=h
  exact ⟨True,rfl,trivial⟩
 | .sl e,.clp n t l,x,os,h=>by
  simp[toTy] at h
  split at h
  .rename_i z hz
   obtain ⟨rfl,hxy⟩:=castL_eq hz
   cases hxy
   obtain ⟨rfl,rfl⟩:=h
   exact ⟨True,rfl,trivial⟩
  .cases h
 | .sl e,.sh o r,x,os,h=>by
  simp[toTy] at h
  split at h
  .rename_i t l era ho
   rcases cond_some h with ⟨hb,h⟩|⟨_,h⟩
   .split at h
    .rename_i z hz
     obtain ⟨rfl,hxy⟩:=castL_eq hz
     cases hxy
     obtain ⟨rfl,rfl⟩:=h
     refine ⟨True,?_,trivial⟩
     simp_all[low,toD,lowSt_get,lowOb,enc]
    .cases h
   .cases h
  .rename_i t l era ho
   rcases cond_some h with ⟨hb,h⟩|⟨_,h⟩
   .split at h
    .rename_i z hz
     obtain ⟨rfl,hxy⟩:=castL_eq hz
     cases hxy
     obtain ⟨rfl,rfl⟩:=h
     refine ⟨True,?_,trivial⟩
     simp_all[low,toD,lowSt_get,lowOb,enc]
    .cases h
   .cases h
  .rename_i n j l era m r' ho
   split at h
   .rename_i t rss hr
    rcases cond_some h with ⟨hb,h⟩|⟨_,h⟩
    .simp only[Bool.and_eq_true] at hb
     split at h
     .rename_i z hz
      obtain ⟨rfl,hxy⟩:=castL_eq hz
      cases hxy
      obtain ⟨rfl,rfl⟩:=h
      refine ⟨True,?_,trivial⟩
      simp only[low,toD,lowSt_get,ho,Option.map_some,lowOb,rwsV_low hr,hb.1,hb.2.1,Bool.and_self,cond_true]
      rw[<-full_map hS hb.2.2]
      rfl
     .cases h
    .cases h
   .cases h
  .cases h
 | .sl e,.cln n j x0,x,os,h=>by
  simp[toTy] at h
  split at h
  .rename_i z hz
   obtain ⟨rfl,hxy⟩:=castL_eq hz
   cases hxy
   obtain ⟨rfl,rfl⟩:=h
   exact ⟨True,rfl,trivial⟩
  .cases h
 | .st n,.agg cs,x,os,h=>by
  simp[toTy] at h
  split at h
  .rename_i h1 os1 hh
   obtain ⟨rfl,rfl⟩:=h
   let ⟨p,hd,hp⟩:=toTys_low hS s (S.fs n) cs hh
   have hce:S.cells n (S.mkS n h1)=encH S (S.fs n) h1:=by rw[hS.cells,hS.get_mk]
   refine ⟨p∧(encH S (S.fs n) h1).all D.leaf=true,by simp[low,toD,hd,enc,hce],hp,?_⟩
   rw[List.all_eq_true]
   exact encH_leaf _ _ (hS.leaf n)
  .cases h
 | .ifc n,.ifc t v,x,os,h=>by
  simp[toTy] at h
  split at h
  .rename_i i hi
   split at h
   .rename_i y os1 hy
    obtain ⟨rfl,rfl⟩:=h
    let ⟨p,hd,hp⟩:=toTy_low hS s _ v hy
    refine ⟨p,?_,hp⟩
    have e:enc S (.ifc n) (S.imk n (injI (S.alts n) i y))=.ifc t (enc S (altTy (S.alts n) i) y):=by
     show ifD (S.icell n _)=_
     rw[hS.icell,hS.iget_mk,encI_inj _ _ _ _ hi]
     rfl
    simp[low,toD,hd,e]
   .cases h
  .cases h
 | .ifc n,.dat (.lit .nilIface),x,os,h=>by
  obtain ⟨rfl,rfl⟩:=h
  refine ⟨True,?_,trivial⟩
  have e:enc S (.ifc n) (S.imk n (nilI (S.alts n)))=.lit .nilIface:=by
   show ifD (S.icell n _)=_
   rw[hS.icell,hS.iget_mk,encI_nil]
   rfl
  simp[low,toD,e]
 | .opt _,.dat (.lit v),_,_,h=>by
  cases v with
  |pointer a=>cases a<;>simp[toTy] at h;obtain ⟨rfl,rfl⟩:=h;exact ⟨True,rfl,trivial⟩
  |_=>simp[toTy] at h
 | .opt _,.dat (.sl _),_,_,h=>by simp[toTy] at h
 | .opt _,.dat (.agg _),_,_,h=>by simp[toTy] at h
 | .opt _,.dat (.ifc _ _),_,_,h=>by simp[toTy] at h
 | .opt _,.dat (.tup _),_,_,h=>by simp[toTy] at h
 | .opt _,.dat (.pt _),_,_,h=>by simp[toTy] at h
 | .opt _,.dat (.mp _ _),_,_,h=>by simp[toTy] at h
 | .mp _ _,.dat _,_,_,h=>by simp[toTy] at h
 | .ifc _,.kb _,_,_,h=>by simp[toTy] at h
 | .ifc _,.kn _ _,_,_,h=>by simp[toTy] at h
 | .ifc _,.emp,_,_,h=>by simp[toTy] at h
 | .ifc _,.clp _ _ _,_,_,h=>by simp[toTy] at h
 | .ifc _,.sh _ _,_,_,h=>by simp[toTy] at h
 | .ifc _,.cln _ _ _,_,_,h=>by simp[toTy] at h
 | .bool,.cln _ _ _,_,_,h=>by simp[toTy] at h
 | .str,.cln _ _ _,_,_,h=>by simp[toTy] at h
 | .int _,.cln _ _ _,_,_,h=>by simp[toTy] at h
 | .st _,.cln _ _ _,_,_,h=>by simp[toTy] at h
 |t,.nel _ _ _ _,_,_,h=>by cases t<;>simp[toTy] at h
 | .ifc _,.agg _,_,_,h=>by simp[toTy] at h
 | .int _,.ifc _ _,_,_,h=>by simp[toTy] at h
 | .bool,.ifc _ _,_,_,h=>by simp[toTy] at h
 | .str,.ifc _ _,_,_,h=>by simp[toTy] at h
 | .sl _,.ifc _ _,_,_,h=>by simp[toTy] at h
 | .st _,.ifc _ _,_,_,h=>by simp[toTy] at h
 | .int _,.dat _,_,_,h=>by simp[toTy] at h
 | .bool,.dat _,_,_,h=>by simp[toTy] at h
 | .str,.dat _,_,_,h=>by simp[toTy] at h
 | .sl _,.dat _,_,_,h=>by simp[toTy] at h
 | .st _,.dat _,_,_,h=>by simp[toTy] at h
 | .ifc _,.dat (.sl _),_,_,h=>by simp[toTy] at h
 | .ifc _,.dat (.agg _),_,_,h=>by simp[toTy] at h
 | .ifc _,.dat (.ifc _ _),_,_,h=>by simp[toTy] at h
 | .ifc _,.dat (.tup _),_,_,h=>by simp[toTy] at h
 | .ifc _,.dat (.lit (.bool _)),_,_,h=>by simp[toTy] at h
 | .ifc _,.dat (.lit (.int _ _)),_,_,h=>by simp[toTy] at h
 | .ifc _,.dat (.lit (.float _ _)),_,_,h=>by simp[toTy] at h
 | .ifc _,.dat (.lit (.complex _ _ _)),_,_,h=>by simp[toTy] at h
 | .ifc _,.dat (.lit (.string _)),_,_,h=>by simp[toTy] at h
 | .ifc _,.dat (.lit (.pointer _)),_,_,h=>by simp[toTy] at h
 | .ifc _,.dat (.lit (.slice _ _ _)),_,_,h=>by simp[toTy] at h
 | .ifc _,.dat (.lit (.map _)),_,_,h=>by simp[toTy] at h
 | .ifc _,.dat (.lit (.chan _)),_,_,h=>by simp[toTy] at h
 | .ifc _,.dat (.lit (.iface _ _)),_,_,h=>by simp[toTy] at h
 | .ifc _,.dat (.lit (.func _ _ _)),_,_,h=>by simp[toTy] at h
 | .ifc _,.dat (.lit .nilFunc),_,_,h=>by simp[toTy] at h
 | .ifc _,.dat (.lit (.agg _)),_,_,h=>by simp[toTy] at h
 | .ifc _,.dat (.lit (.tuple _)),_,_,h=>by simp[toTy] at h
 |t,.mp _,_,_,h=>by cases t<;>simp[toTy] at h
 |t,.yld _,_,_,h=>by cases t<;>simp[toTy] at h
 |t,.slb _ _,_,_,h=>by cases t<;>simp[toTy] at h
 |t,.itr _,_,_,h=>by cases t<;>simp[toTy] at h
 |t,.ub _,_,_,h=>by cases t<;>simp[toTy] at h
 | .int _,.kb _,_,_,h=>by simp[toTy] at h
 | .str,.kb _,_,_,h=>by simp[toTy] at h
 | .sl _,.kb _,_,_,h=>by simp[toTy] at h
 | .st _,.kb _,_,_,h=>by simp[toTy] at h
 | .bool,.kn _ _,_,_,h=>by simp[toTy] at h
 | .str,.kn _ _,_,_,h=>by simp[toTy] at h
 | .sl _,.kn _ _,_,_,h=>by simp[toTy] at h
 | .st _,.kn _ _,_,_,h=>by simp[toTy] at h
 | .bool,.emp,_,_,h=>by simp[toTy] at h
 | .str,.emp,_,_,h=>by simp[toTy] at h
 | .int _,.emp,_,_,h=>by simp[toTy] at h
 | .st _,.emp,_,_,h=>by simp[toTy] at h
 | .bool,.clp _ _ _,_,_,h=>by simp[toTy] at h
 | .str,.clp _ _ _,_,_,h=>by simp[toTy] at h
 | .int _,.clp _ _ _,_,_,h=>by simp[toTy] at h
 | .st _,.clp _ _ _,_,_,h=>by simp[toTy] at h
 | .bool,.sh _ _,_,_,h=>by simp[toTy] at h
 | .str,.sh _ _,_,_,h=>by simp[toTy] at h
 | .int _,.sh _ _,_,_,h=>by simp[toTy] at h
 | .st _,.sh _ _,_,_,h=>by simp[toTy] at h
 | .bool,.agg _,_,_,h=>by simp[toTy] at h
 | .str,.agg _,_,_,h=>by simp[toTy] at h
 | .int _,.agg _,_,_,h=>by simp[toTy] at h
 | .sl _,.agg _,_,_,h=>by simp[toTy] at h
 |t,.ptr _ _,_,_,h=>by cases t<;>simp[toTy] at h
 |t,.ept _ _ _,_,_,h=>by cases t<;>simp[toTy] at h
 |t,.epw _ _ _ _,_,_,h=>by cases t<;>simp[toTy] at h
 |t,.fn _ _ _,_,_,h=>by cases t<;>simp[toTy] at h
 |t,.tup _,_,_,h=>by cases t<;>simp[toTy] at h
 |t,.gd _ _,_,_,h=>by cases t<;>simp[toTy] at h
theorem toTys_low (hS:SgOk S) (s:StV S):∀(ts:List Ty) (l:List (V S)) {h:hden S.A ts} {os:List Nat},toTys s ts l=some (h,os)->∃p,toDs (lowSt s) (lows l)=some (p,encH S ts h,os)∧p
 |[],[],x,os,h=>by
  obtain ⟨_,rfl⟩:=h
  exact ⟨True,rfl,trivial⟩
 |t ::ts,v ::l,x,os,h=>by
  simp[toTys] at h
  split at h
  .rename_i x1 os1 h1 os2 e1 e2
   obtain ⟨rfl,rfl⟩:=h
   let ⟨p,hd,hp⟩:=toTy_low hS s t v e1
   let ⟨q,hd',hq⟩:=toTys_low hS s ts l e2
   exact ⟨p∧q,by simp[lows,toDs,hd,hd',encH],hp,hq⟩
  .cases h
 |[],_ ::_,_,_,h=>by simp[toTys] at h
 |_ ::_,[],_,_,h=>by simp[toTys] at h
end
theorem freezeV_low (hS:SgOk S):∀(os:List Nat) {s s':StV S},freezeV s os=some s'->freeze (lowSt s) os=some (lowSt s')
 |[],s,s',h=>by simp only[freezeV,Option.some.injEq] at h;subst h;rfl
 |o ::os,s,s',h=>by
  simp only[freezeV] at h
  rcases cond_some h with ⟨hb,h⟩|⟨_,h⟩
  .have hb':Nat.ble (lowSt s).fl o=true:=hb
   simp only[freeze,hb',cond_true]
   split at h
   .rename_i t l era ho
    have:=freezeV_low hS os h
    grind[lowSt_set,lowSt_get,lowOb]
   .rename_i t l era ho
    simp only[lowSt_get,ho,Option.map_some,lowOb]
    exact freezeV_low hS os h
   .rename_i n j l era m r ho
    split at h
    .rename_i t rss hr
     rcases cond_some h with ⟨hb2,h⟩|⟨_,h⟩
     .simp only[Bool.and_eq_true] at hb2
      have:=freezeV_low hS os h
      have e1:Nat.ble (lowSt s).fl m=true:=hb2.2.1
      simp only[lowSt_get,ho,Option.map_some,lowOb,rwsV_low hr,e1,hb2.1,hb2.2.2.1,Bool.and_self,cond_true]
      grind[lowSt,Tr.set_map,lowOb,full_map]
     .cases h
    .cases h
   .rename_i t rss r ho
    simp only[lowSt_get,ho,Option.map_some,lowOb]
    exact freezeV_low hS os h
   .rename_i ho
    simp only[lowSt_get,ho,Option.map_some,lowOb]
    exact freezeV_low hS os h
   .cases h
  .cases h
theorem slV_low {s:StV S} {e:Ty} {v:V S} {l:List (den S.A e)} (h:slV s e v=some l):∃p,slT (lowSt s) (low v)=some (p,l.map (enc S e))∧p:=by
 unfold slV at h
 split at h
 .simp only[Option.some.injEq] at h
  subst h
  exact ⟨True,rfl,trivial⟩
 .obtain ⟨rfl,hxy⟩:=castL_eq h
  cases hxy
  exact ⟨True,rfl,trivial⟩
 .obtain ⟨rfl,hxy⟩:=castL_eq h
  cases hxy
  exact ⟨True,rfl,trivial⟩
 .obtain ⟨rfl,hxy⟩:=castL_eq h
  cases hxy
  exact ⟨_,rfl,rfl⟩
 .rename_i o r
  split at h
  .rename_i t l' era ho
   rcases cond_some h with ⟨hb,h⟩|⟨_,h⟩
   .obtain ⟨rfl,hxy⟩:=castL_eq h
    cases hxy
    exact ⟨True,by simp_all[low,slT,lowSt_get,lowOb],trivial⟩
   .cases h
  .rename_i t l' era ho
   rcases cond_some h with ⟨hb,h⟩|⟨_,h⟩
   .obtain ⟨rfl,hxy⟩:=castL_eq h
    cases hxy
    exact ⟨True,by simp_all[low,slT,lowSt_get,lowOb],trivial⟩
   .cases h
  .cases h
 .cases h
theorem arrV_low {s:StV S} {o e:Nat} {t:Ty} {l:List (den S.A t)} (h:arrV s o e=some ⟨t,l⟩):arrT (lowSt s) o e=some (S.width t,l.map (enc S t)):=by
 unfold arrV at h
 unfold arrT
 rw[lowSt_get]
 split at h
 .rename_i t' l' era ho
  rcases cond_some h with ⟨hb,h⟩|⟨_,h⟩
  .cases h
   simp_all[lowOb]
  .cases h
 .rename_i t' l' era ho
  rcases cond_some h with ⟨hb,h⟩|⟨_,h⟩
  .cases h
   simp_all[lowOb]
  .cases h
 .cases h
theorem el_map {α:Type} (f:α->D) (l:List α) (k:Nat) (z:α) (h:k<l.length):D.el (l.map f) k=f (elL l k z):=by
 simp[D.el,elL,h]
theorem inbL_iff {α:Type} {n:Int} {l:List α} (h:inbL n l=true):0<=n∧n<l.length:=by
 simpa[inbL] using h
theorem inbN_iff {α:Type} {k:Nat} {l:List α} (h:inbN k l=true):k<l.length:=by simpa[inbN] using h
theorem lowTy_st {n:Nat} (x:S.A n):lowTy S (.st n) x=.agg ((S.cells n x).map .sym):=rfl
theorem leavesOf_low (hS:SgOk S) {t:Ty} (x:den S.A t):lows (leavesOf (S:=S) t x)=(enc S t x).cells.map .sym:=by
 cases t with
 |st n=>
  simp[leavesOf,enc,D.cells]
  rw[leavesV_low _ _ (hS.leaf n),hS.cells]
 |ifc n=>
  show [T.sym (ifD (S.icell n x))]=(ifD (S.icell n x)).cells.map .sym
  rw[ifD_cells]
  rfl
 |opt n=>exact (congrArg (List.map T.sym) (ptD_leaf _).2.2.1).symm
 |_=>rfl
theorem leavesOf_len (hS:SgOk S) {t:Ty} (x:den S.A t):(leavesOf (S:=S) t x).length=S.width t:=by
 have:=congrArg List.length (leavesOf_low hS x)
 grind[lows_len,enc_width]
theorem partV_low (hS:SgOk S) {i:TI} {τ:Option Ty} (hi:∀u,τ=some u->TyRow S i u) {t:Ty} {x:den S.A t} {off:Nat} {v:V S} (h:partV i τ t x off=some v) :
  partD i (enc S t x) off=some (low v)∧(enc S t x).has (Nat.add off i.size):=by
 have hw:=enc_width hS x
 rcases cond_some h with ⟨hb,h9⟩|⟨_,h⟩
 .simp only[Bool.and_eq_true] at hb
  clear h
  let ⟨h1,h2⟩:=hb
  have h0:=beq_iff'.1 h1
  subst h0
  have h:=Option.some.inj h9
  subst h
  unfold tyIs at h2
  split at h2
  .rename_i u
   have:=tyEq_eq h2
   subst this
   have hr:=hi u rfl
   cases u with
   |st n=>
    let ⟨ha,hsz⟩:=hr
    have hc:(S.cells n x).length=(S.fs n).length:=by rw[hS.cells,encH_len]
    refine ⟨?_,?_⟩
    .unfold partD
     rw[ha,cond_true,hsz,<-hc]
     simp[enc,low,lowTy,range_map_cell]
    simp_all[D.has,enc,D.cells]
   |int k=>let ⟨_,ha,hsz⟩:=hr;exact ⟨by simp only[partD,ha,hsz];rfl,by simp only[D.has,hsz];exact Nat.le_refl _⟩
   |bool=>let ⟨_,ha,hsz⟩:=hr;exact ⟨by simp only[partD,ha,hsz];rfl,by simp only[D.has,hsz];exact Nat.le_refl _⟩
   |str=>let ⟨_,ha,hsz⟩:=hr;exact ⟨by simp only[partD,ha,hsz];rfl,by simp only[D.has,hsz];exact Nat.le_refl _⟩
   |sl e=>let ⟨_,ha,hsz,_⟩:=hr;exact ⟨by simp only[partD,ha,hsz];rfl,by simp only[D.has,hsz];exact Nat.le_refl _⟩
   |ifc n=>
    let ⟨_,ha,hsz⟩:=hr
    have e:(enc S (.ifc n) x).cells=[enc S (.ifc n) x]:=ifD_cells _
    exact ⟨by simp only[partD,ha,hsz,D.cell,e];rfl,by simp_all[D.has]⟩
   |opt n=>
    let ⟨_,ha,hsz⟩:=hr
    have e:(enc S (.opt n) x).cells=[enc S (.opt n) x]:=(ptD_leaf _).2.2.1
    exact ⟨by simp only[partD,ha,hsz,D.cell,e];rfl,by simp_all[D.has]⟩
   |mp k v=>let ⟨_,ha,hsz⟩:=hr;exact ⟨by simp only[partD,ha,hsz];rfl,by simp only[D.has,hsz];exact Nat.le_refl _⟩
  .cases h2
 .rcases cond_some h with ⟨hb,h⟩|⟨_,h⟩
  .have hle:off+i.size<=S.width t:=Nat.le_of_ble_eq_true hb
   have hp:=packV_low h
   rw[lows_take,lows_drop,leavesOf_low hS] at hp
   have hcell:((List.map T.sym (enc S t x).cells).drop off).take i.size=(List.range i.size).map λj=>T.sym ((enc S t x).cell (off+j)):=by
    apply List.ext_getElem?
    intro j
    rw[List.getElem?_map]
    by_cases hj:j<i.size
    .grind[D.cell]
    grind
   refine ⟨?_,by simp only[D.has];grind⟩
   unfold packT at hp
   unfold partD
   cases hag:i.agg with
   |true=>
    simp_all
   |false=>
    rw[hag,cond_false] at hp
    split at hp
    .rename_i y hy
     have h1:i.size=1:=by
      have:=congrArg List.length hy
      grind
     simp_all
    .cases hp
  .cases h
theorem loadV_low (hS:SgOk S) {i:TI} {τ:Option Ty} (hi:∀u,τ=some u->TyRow S i u) {s s':StV S} {a v:V S} {c:Bool} (h:loadV i τ s a=some (c,v,s')) (hc:c=true) :
  s'=s∧∃p,loadT i (lowSt s) (low a)=some (p,low v,lowSt s')∧p:=by
 unfold loadV at h
 split at h
 .rename_i o off
  split at h
  .rename_i cs ho
   rcases cond_some h with ⟨hb,h⟩|⟨_,h⟩
   .simp only[Option.map_eq_some_iff,Prod.mk.injEq] at h
    obtain ⟨t,ht,_,rfl,rfl⟩:=h
    refine ⟨rfl,True,?_,trivial⟩
    have hp:=packV_low ht
    rw[lows_take,lows_drop] at hp
    have hb':Nat.beq (lenL (((lows cs).drop off).take i.size)) i.size=true:=by
     grind[lenL_eq,lows_len]
    simp_all[low,loadT,lowSt_get,lowOb]
   .cases h
  .cases h
 .rename_i t x off
  simp only[Option.map_eq_some_iff,Prod.mk.injEq] at h
  obtain ⟨u,hu,_,rfl,rfl⟩:=h
  let ⟨h1,h2⟩:=partV_low hS hi hu
  exact ⟨rfl,_,by grind[low,loadT],h2⟩
 .rename_i o e k off
  split at h
  .rename_i t l hl
   simp at h
   obtain ⟨u,hu,rfl,rfl,rfl⟩:=h
   let ⟨h1,h2⟩:=partV_low hS hi hu
   have hk:=inbN_iff hc
   have hel:=el_map (enc S t) l k (S.zero t) hk
   refine ⟨rfl,D.inb (k:Int) (D.len (l.map (enc S t)))∧(enc S t (elL l k (S.zero t))).has (Nat.add off i.size),by simp[low,loadT,arrV_low hl,hel,h1,Option.map_some],?_,h2⟩
   grind[D.inb,D.len]
  .cases h
 .cases h
theorem optV_low {fr:FrV S} {x:Option Operand} {u:Option (V S)} (h:optV fr x=some u):optT (lowFr fr) x=some (u.map low):=by
 cases x with
 |none=>simp[optV,Option.some.injEq] at h;subst h;rfl
 |some x=>
  simp[optV,Option.map_eq_some_iff] at h
  obtain ⟨v,hv,rfl⟩:=h
  grind[optT,opdV_low]
theorem boundV_low {d:Int} {u:Option (V S)} {n:Int} (h:boundV d u=some n):∃p,boundT d (u.map low)=some (p,n)∧p:=by
 cases u with
 |none=>simp[boundV,Option.some.injEq] at h;subst h;exact ⟨True,rfl,trivial⟩
 |some v=>exact intV_low h
theorem ownV_low (v:V S):ownSl (low v)=ownV v:=by
 cases v with
 |ty t x=>cases t<;>rfl
 |_=>rfl
theorem partsV_low {fr:FrV S}:∀{l:List (Nat×Operand)} {us:List (Nat×V S)},partsV fr l=some us->partsT (lowFr fr) l=some (us.map λp=>(p.1,low p.2))
 |[],us,h=>by simp only[partsV,Option.some.injEq] at h;subst h;rfl
 |(k,x) ::l,us,h=>by
  simp[partsV] at h
  split at h
  .rename_i t r h1 h2
   simp at h
   subst h
   simp[partsT,opdV_low h1,partsV_low h2,List.map_cons]
  .cases h
theorem fillV_low (hS:SgOk S) {place:Nat->Option (Nat×TI)}:∀{ps:List (Nat×V S)} {cells r:List (V S)},fillV place cells ps=some r->∃p,fillT place (lows cells) (ps.map λp=>(p.1,low p.2))=some (p,lows r)∧p
 |[],cells,r,h=>by simp[fillV,Option.some.injEq] at h;subst h;exact ⟨True,rfl,trivial⟩
 |(k,v) ::ps,cells,r,h=>by
  simp only[fillV] at h
  split at h
  .cases h
  .rename_i off i hp
   split at h
   .cases h
   .rename_i l hl
    rcases cond_some h with ⟨hb,h⟩|⟨_,h⟩
    .simp only[Bool.and_eq_true] at hb
     let ⟨p,hc,hpp⟩:=cellsV_low hS hl
     let ⟨q,hf,hq⟩:=fillV_low hS h
     simp only[lows_append,lows_take,lows_drop] at hf
     have hlen:lenL (lows l)=lenL l:=by rw[lenL_eq,lows_len,<-lenL_eq]
     have hlen':lenL (lows cells)=lenL cells:=by rw[lenL_eq,lows_len,<-lenL_eq]
     refine ⟨p∧leaves (lows l)∧q,?_,hpp,leafsV_low hb.2,hq⟩
     simp only[List.map_cons,fillT,hp,hc,hlen,hlen',hb.1,cond_true,hf,Option.map_some]
    .cases h
theorem elemsV_low (hS:SgOk S) {s:StV S} {e:Ty} {i:TI} (hi:i.agg=isSt e∧(isSt e=true->i.size=S.width e)):∀{ps:List (Nat×V S)} {es r:List (den S.A e)} {os:List Nat},elemsV s e es ps=some (r,os)->
  ∃p,elemsT (lowSt s) i (es.map (enc S e)) (ps.map λp=>(p.1,low p.2))=some (p,r.map (enc S e),os)∧p
 |[],es,r,os,h=>by
  obtain ⟨rfl,rfl⟩:=h
  exact ⟨True,rfl,trivial⟩
 |(k,v) ::ps,es,r,os,h=>by
  simp[elemsV] at h
  split at h
  .cases h
  .rename_i x os1 hx
   rcases cond_some h with ⟨hb,h⟩|⟨_,h⟩
   .split at h
    .rename_i r' os2 hr
     obtain ⟨rfl,rfl⟩:=h
     let ⟨p,hd,hp⟩:=toTy_low hS s e v hx
     let ⟨q,hf,hq⟩:=elemsV_low hS hi hr
     rw[List.map_set] at hf
     have hb':Nat.blt k (lenL (es.map (enc S e)))=true:=by grind[lenL_eq]
     refine ⟨p∧(bif i.agg then (enc S e x).isAgg i.size else (enc S e x).leaf)=true∧q,by simp[List.map_cons,elemsT,hd,hb',cond_true,hf,Option.map_some],hp,?_,hq⟩
     rw[hi.1]
     cases e with
     |st n=>
      simp only[isSt,cond_true,enc,D.isAgg]
      have hsz:=hi.2 rfl
      rw[hsz]
      simp only[Sg.width,lenL_eq,hS.cells,encH_len,Bool.and_eq_true]
      refine ⟨beq_iff'.2 rfl,?_⟩
      rw[List.all_eq_true]
      exact encH_leaf _ _ (hS.leaf n)
     |ifc n=>exact ifD_leaf _
     |opt n=>exact (ptD_leaf _).2.1
     |_=>rfl
    .cases h
   .cases h
end TL
end
