import Derived.Test.YtbaeajgfnoplaaaGreatDoorB4
import Derived.Recover
section
namespace TL
open Go
variable {S:Sg}
theorem readyB_iff {st:LoopState} {pe:Option Code} (h:readyB st pe=true):st=.ready∧pe=none:=by
 unfold readyB at h
 grind
theorem outX_iff {st:LoopState} {pe:Option Code} {ex:ExV S} (h:outX st pe=some ex):st≠.busy∧((pe=none∧ex=.nrm)∨(∃i,pe=some (.exit i)∧ex=.ext i)∨(pe=some .ret∧ex=.ret)):=by
 unfold outX at h
 split at h<;>simp_all
theorem frUse_frel {g:Gh} {w:World} {fr:FrV S} {a:Act} (hf:FRel g (lowFr fr) a w) (hn:fr.n<=bigN) (l:List Nat):∀k t,(lowFr (frUse l fr)).get k=some t->∃v,a.tmps[k]?=some v∧TRel g w t v:=by
 have key:∀(l:List Nat) (t0:Tr (V S)),(∀k v,t0.get k=some v->fr.get k=some v)->∀k v,(l.foldl (λt k=>match fr.get k with|some v=>t.set fuelTr k v|none=>t) t0).get k=some v->fr.get k=some v:=by
  intro l
  induction l with
  |nil=>grind
  |cons j l ih=>
   intro t0 h
   rw[List.foldl_cons]
   refine ih _ λk v hk=>?_
   split at hk
   .rename_i u hu
    have hj:j<bigN:=by
     have:(lowFr fr).get j=some (low u):=by rw[lowFr_get,hu];rfl
     obtain ⟨x,hx,_⟩:=hf.tm j _ this
     have:=hf.size
     have h2:=(Array.getElem?_eq_some_iff.1 hx).1
     have h3:(lowFr fr).n=fr.n:=rfl
     omega
    rw[Tr.get_set64 _ _ _ _ hj] at hk
    grind
   grind
 intro k t hk
 rw[lowFr_get] at hk
 cases hg:(frUse l fr).get k with
 |none=>simp_all
 |some v=>
  rw[hg] at hk
  have h1:=key l .nil (λk v h=>by simp[Tr.get_nil] at h) k v hg
  exact hf.tm k t (by rw[lowFr_get,h1];exact hk)
theorem range_sound {E:EnvV S} (hE:EnvVOk E) {call:CallV S} (hcall:CallOkV E.T.E.P call) (n:Nat) (fid:FuncId) (rv:Rv) {gv:Operand} {ps:Array Tmp} {asg body:Code} {i:Nat} {ω:Type} {Q:ExV S->FrV S->StV S->Option ω} {r:ω} {fr:FrV S} {s:StV S}
  (h:evC E call n fid rv (.rangeFunc gv ps asg body) i Q fr s=some r) (hn:fr.n<=bigN) {g:Gh} {a:Act} {w:World} (hf:FRel g (lowFr fr) a w) (hs:SRel g (lowSt s) w) :
  (Code.rangeFunc gv ps asg body).wpIn (WR none) 0 E.T.E.P (QKV (dstsC (.rangeFunc gv ps asg body)++rv.map (·.1)) fr s g w Q r) a w:=by
 simp only[evC] at h
 split at h
 .cases h
 rename_i f args hfa
 rcases cond_some h with ⟨hb,h1⟩|⟨_,h1⟩
 rotate_left
 .cases h1
 clear h
 simp only[Bool.and_eq_true] at hb
 obtain ⟨_,_,hfl0,hnob⟩:=hb
 have hnob:s.nob+1<bigN:=Nat.le_of_ble_eq_true hnob
 simp only[Option.bind_eq_some_iff] at hfa
 obtain ⟨tf,htf,hcal⟩:=hfa
 have hrf:=opdT_sound hf (opdV_low htf)
 have hcal':=calleeV_low hcal
 unfold calleeT at hcal'
 split at hcal'
 rotate_left
 .cases hcal'
 rename_i f' first cap hlow
 simp only[Option.some.injEq,Prod.mk.injEq] at hcal'
 obtain ⟨rfl,hargs2⟩:=hcal'
 rw[hlow] at hrf
 generalize hvf:a.eval gv=vf at hrf
 cases hrf with
 |fn _ _ _ va vc l1 l2 r1 r2=>
 obtain ⟨hs1,he1⟩:=hs.newObj (ob0:=.dfr) (x0:=.deferred (some [])) (by show s.nob<bigN;omega) .dfr
 have hst1:(newOb (lowSt s) Ob.dfr).2=lowSt (newObV s .dfr):=(lowSt_new s .dfr).symm
 rw[hst1] at hs1
 refine wpIn_rangeFunc λfn _=>?_
 let L:Loop:={state:=.ready,pending:=none,fn,tmps:=a.tmps,params:=ps,assign:=asg,body,defers:=w.heap.size}
 let lv:LpV S:=⟨.ready,none,fid,frUse (usesC asg++usesC body) fr,ps.toList,asg,body⟩
 have hf1:FRel (g.newBox (lowSt s).nob w.heap.size) (lowFr fr) a (w.alloc (.deferred (some []))):=hf.ext he1 hs.imm
 obtain ⟨hs2,he2⟩:=hs1.newObj (ob0:=.lp (lowLp lv)) (x0:=.loop L) (by show s.nob+1<bigN;exact hnob)
  (.lp _ L rfl rfl rfl rfl rfl hf1.size (frUse_frel hf1 hn _))
 have hst2:(newOb (lowSt (newObV s .dfr)) (Ob.lp (lowLp lv))).2=lowSt (newObV (newObV s .dfr) (.lp lv)):=(lowSt_new _ (.lp lv)).symm
 rw[hst2] at hs2
 have henter:(Instr.enterLoop fn a.tmps ps asg body none).run E.T.E.P w=.ok (w.heap.size+1,[{target:=.collected w.heap.size,args:=#[]}]) ((w.alloc (.deferred (some []))).alloc (.loop L)):=run_enterLoop_outer _ _ _ _ _
 generalize hW2:(w.alloc (.deferred (some []))).alloc (.loop L)=W2 at hs2 he2 henter
 generalize hg2:(g.newBox (lowSt s).nob w.heap.size).newBox (lowSt (newObV s .dfr)).nob (w.alloc (.deferred (some []))).heap.size=g2 at hs2 he2
 have hblkD:g2.blk s.nob=some w.heap.size:=by
  rw[<-hg2]
  simp[Gh.newBox,lowSt,newObV]
 have hblkL:g2.blk (s.nob+1)=some (w.heap.size+1):=by
  rw[<-hg2]
  simp[Gh.newBox,lowSt,newObV]
 have he:Ext s.fl g w g2 W2:=he1.trans he2
 have hall:PW (TRel g2 W2) (lows args) (va++#[Value.func (.yield (w.heap.size+1)) #[] #[]]++vc).toList:=by
  rw[<-hargs2]
  simp only[Array.toList_append]
  refine PW.append (PW.append ⟨by simpa using l1,λj x y h1 h2=>(r1 j x y h1 (by simpa using h2)).ext he hs.imm⟩ ⟨rfl,λj x y h1 h2=>?_⟩) ⟨by simpa using l2,λj x y h1 h2=>(r2 j x y h1 (by simpa using h2)).ext he hs.imm⟩
  cases j with
  |zero=>
   simp only[lows,List.getElem?_cons_zero,Option.some.injEq] at h1 h2
   subst h1
   subst h2
   exact .yld _ _ hblkL
  |succ j=>grind
 obtain ⟨hent,hc⟩:=evCall_sound hE hcall hs2 h1 hall
 refine ⟨w.heap.size+1,[{target:=.collected w.heap.size,args:=#[]}],W2,{target:=.fn (.func f') vc,args:=va++#[Value.func (.yield (w.heap.size+1)) #[] #[]]},W2,f',va++#[Value.func (.yield (w.heap.size+1)) #[] #[]]++vc,W2,henter,?_,λ_ _=>trivial,?_,λh=>by simp[Fence.wide] at h,callsR.2 (hc.mono λe w' he'=>?_)⟩
 .simp_all[resolve,Deferred.ofValue,Sem.run_pure,Act.eval]
 .grind[invoke,run_enter]
 cases e with
 |panicked ch=>
  obtain ⟨v,t,s',g',_,h1,_⟩:=he'
  cases h1
 |outgrown=>exact he'.elim
 |returned v=>
 obtain ⟨t,s',g',ow,h1,_,haft⟩:=he'
 dsimp only at h1
 obtain ⟨st,pend,ov,ov',ex,ho,hox,hobr,hnA,h1⟩:∃(st:LoopState) (pend:Option Code) (ov ov':ObV S) (ex:ExV S),s'.ob.get (Nat.succ s.nob)=some ov∧outX (S:=S) st pend=some ex∧
   (∀{b:Nat} {x:Obj},ObRel g' w' b (lowOb ov) x->∃L':Loop,x=.loop L'∧L'.state=st∧L'.pending=pend∧ObRel g' w' b (lowOb ov') (.loop {L' with state:=.exhausted}))∧(lowOb ov).odd=true∧
   Q ex {(forgetF ow fr) with df:=.mark s.nob ::(forgetF ow fr).df} {s' with ob:=s'.ob.set fuelTr (Nat.succ s.nob) ov'}=some r:=by
  split at h1
  .rename_i l ho
   split at h1
   .rename_i ex hox
    refine ⟨l.st,l.pend,.lp l,.lp {l with st:=.exhausted},ex,ho,hox,λhr=>?_,rfl,h1⟩
    cases hr with
    |lp _ L' q1 q2 q4 q5 q6 q8 q9=>exact ⟨L',rfl,q1,q2,.lp _ _ rfl q2 q4 q5 q6 q8 q9⟩
   .cases h1
  .rename_i st pend ho
   split at h1
   .rename_i ex hox
    refine ⟨st,pend,.lpd st pend,.lpd .exhausted pend,ex,ho,hox,λhr=>?_,rfl,h1⟩
    cases hr with
    |lpd _ _ L' q1 q2=>exact ⟨L',rfl,q1,q2,.lpd _ _ _ rfl q2⟩
   .cases h1
  .cases h1
 obtain ⟨hst,hpe⟩:=outX_iff hox
 have hblk':=haft.ext.blk _ _ hblkL
 have ho':(lowSt s').ob.get (s.nob+1)=some (lowOb ov):=by
  rw[lowSt_get,show s'.ob.get (s.nob+1)=some ov from ho]
  rfl
 obtain ⟨x,hx,hr⟩:=(haft.rel.box _ _ hblk').2.2 _ ho'
 obtain ⟨L',rfl,q1,q2,hr'⟩:=hobr hr
 have hfl:s'.fl<=s.nob+1:=by
  have h0:s'.fl=s.fl:=haft.fl
  simp_all
 obtain ⟨hs3,he3⟩:=haft.rel.setObj (w':=w'.putObj (w.heap.size+1) (.loop {L' with state:=.exhausted})) hblk' ho' hnA hfl (x':=.loop {L' with state:=.exhausted}) (ob':=lowOb ov') hr'
  World.putObj_size (λb' hb'=>World.putObj_heap_other hb') (World.putObj_heap_same (haft.rel.box _ _ hblk').2.1) rfl rfl
 have hfo:FrOk [] fr (forgetF ow fr) s'.dr s.nob:=putO_frok hn (dst:=none) rfl haft.owd s.nob unitV
 have key:∀e,ExMV g' (w'.putObj (w.heap.size+1) (.loop {L' with state:=.exhausted})) ex e->QKV (dstsC (.rangeFunc gv ps asg body)++rv.map (·.1)) fr s g w Q r e {a with defers:=[{target:=.collected w.heap.size,args:=#[]}]++a.defers} (w'.putObj (w.heap.size+1) (.loop {L' with state:=.exhausted})):=λe hx0=>by
  refine .inr ⟨ex,_,_,g',hx0,h1,forgetF_n ow fr,?_,?_,⟨λk v _ hk=>hfo.tm k v (λh=>by cases h) hk,?_⟩⟩
  rotate_left
  rotate_left
  .obtain ⟨c,d,q1,q2⟩:=hfo.df
   exact ⟨_ ::c,d,by show _ ::(forgetF ow fr).df=_;rw[show (forgetF ow fr).df=c++d from q1];rfl,q2⟩
  .have hf2:FRel g2 (lowFr fr) a W2:=hf.ext he hs.imm
   have hf3:FRel g' (lowFr (forgetF ow fr)) a w':=forgetF_sound hf2 haft
   have hf4:=hf3.ext he3 haft.rel.imm
   exact ⟨hf4.size,.cons (.mark _ _ (haft.ext.blk _ _ hblkD)) hf4.df,hf4.tm⟩
  .have hn1:s.nob<bigN:=by omega
   have hl1:=newObV_log s (.dfr:ObV S) hn1
   have hl2:=newObV_log (newObV s (.dfr:ObV S)) (.lp lv) hnob
   have hlow:lowSt {s' with ob:=s'.ob.set fuelTr (Nat.succ s.nob) ov'}={lowSt s' with ob:=(lowSt s').ob.set fuelTr (s.nob+1) (lowOb ov')}:=lowSt_set s' _ _ s'.wr
   refine ⟨by rw[hlow];exact hs3,(he.toV s.lo).trans ((show ExtV s.lo s.fl g2 _ g' w' from haft.ext).trans ?_),haft.fl,haft.lo,Nat.le_trans (by show s.nob<=s.nob+1+1;omega) haft.nob,λo ho=>haft.wrm o ho,λo ho hno=>?_,λo ho=>haft.drm o ho⟩
   .have:=he3.toV s.lo
    rw[show (lowSt s').fl=s.fl from haft.fl] at this
    exact this
   .have e1:o≠Nat.succ s.nob:=by omega
    show (s'.ob.set fuelTr (Nat.succ s.nob) _).get o=_
    rw[Tr.get_set_ne _ _ _ _ _ e1,haft.same o (by show o<s.nob+1+1;omega) hno,hl2.same o (by show o<s.nob+1;omega) (λhm=>hno (haft.wrm o hm)),hl1.same o ho (λhm=>hno (haft.wrm o hm))]
 refine ⟨pend,w'.putObj (w.heap.size+1) (.loop {L' with state:=.exhausted}),?_,?_⟩
 .have:=run_endLoop (P:=E.T.E.P) hx (by rw[q1];exact hst)
  rw[this,q2]
 rcases hpe with ⟨h0,rfl⟩|⟨i,h0,rfl⟩|⟨h0,rfl⟩<;>rw[h0]
 .exact key _ .nrm
 .exact wpIn_exit (key _ (.ext i))
 .exact wpIn_ret (key _ .ret)
end TL
end
section
namespace TL
open Go
variable {S:Sg}
def DrawOk (E:EnvV S) (call:CallV S):Prop:=
 ∀(id:Nat) (ops:Array Oper) {ω:Type} (kp:FrV S->V S->StV S->Option ω) (k:FrV S->StV S->Option ω) (r:ω) (fr:FrV S) (s:StV S),
  drawB E fr s ops.toList (befL ops.toList)=true->
  evDraw E call ops.toList (befL ops.toList) (ops.toList.zipIdx.map λp=>(p.2,p.1)) kp k (Nat.succ (Nat.mul 2 (lenL ops.toList))) 0 fr s=some r->fr.n<=bigN->
  ∀{g:Gh} {a:Act} {w:World},FRel g (lowFr fr) a w->SRel g (lowSt s) w->∀{Q:Exit->Act->World->Prop},
  (∀fr' s' g' a' w',k fr' s'=some r->fr'.n=fr.n->FRel g' (lowFr fr') a' w'->AftW s g w s' g' w'->FrOk (ops.toList.filterMap (·.dst)) fr fr' s'.dr s.nob->Q .normal a' w')->
  (∀fr' t s' g' a' v w',kp fr' t s'=some r->fr'.n=fr.n->FRel g' (lowFr fr') a' w'->AftW s g w s' g' w'->FrOk (ops.toList.filterMap (·.dst)) fr fr' s'.dr s.nob->TRel g' w' (low t) v->Q (.panic [{v,recovered:=false}]) a' w')->
  ∀rr:Option Nat,(rr≠none->rdB (.region id ops true)=true)->(Code.region id ops true).wpIn (WR rr) 0 E.T.E.P Q a w
theorem packCs_dat {s:StV S}:∀{cs:List Ck} {l:List (V S)} {x:cden S.A cs} {fz ow:List Nat},allDat cs=true->packCs s cs l=some (x,fz,ow)->ow=[]
 |[],[],x,fz,ow,_,h=>by
  grind[packCs]
 | .dat t ::cs,v ::l,x,fz,ow,hd,h=>by
  simp[packCs] at h
  split at h
  .rename_i x1 a1 b1 h1 a2 b2 e1 e2
   obtain ⟨_,_,rfl⟩:=h
   have:=packCs_dat (cs:=cs) (by simpa[allDat] using hd) e2
   grind[packC]
  .cases h
 | .own _ ::_,_,_,_,_,hd,_=>by simp[allDat] at hd
 | .nown .. ::_,_,_,_,_,hd,_=>by simp[allDat] at hd
 | .nil _ ::_,_,_,_,_,hd,_=>by simp[allDat] at hd
 | .ptr _ ::_,_,_,_,_,hd,_=>by simp[allDat] at hd
 |[],_ ::_,_,_,_,_,h=>by simp[packCs] at h
 | .dat _ ::_,[],_,_,_,_,h=>by simp[packCs] at h
theorem allDat_rv:∀rv:Rv,allDat (rvCs rv)=true
 |[]=>rfl
 |_ ::rv=>allDat_rv rv
theorem know_n (fr:FrV S) (c:Operand) (b:Bool):(fr.know c b).n=fr.n:=by
 unfold FrV.know
 split
 .rename_i k
  cases Nat.blt k fr.n<;>rfl
 .rfl
theorem know_sound {g:Gh} {w:World} {fr:FrV S} {a:Act} {c:Operand} {b:Bool} (hn:fr.n<=bigN) (hf:FRel g (lowFr fr) a w) (hv:a.eval c=.bool b):FRel g (lowFr (fr.know c b)) a w:=by
 unfold FrV.know
 split
 .rename_i k
  cases hk:Nat.blt k fr.n with
  |false=>exact hf
  |true=>
   have hlt:k<fr.n:=Nat.le_of_ble_eq_true hk
   refine ⟨hf.size,hf.df,λj t hj=>?_⟩
   simp at hj
   rw[lowFr_get,FrV.get_put _ _ _ _ (Nat.lt_of_lt_of_le hlt hn)] at hj
   by_cases hjk:j=k
   .subst hjk
    rw[if_pos rfl] at hj
    simp at hj
    subst hj
    have hsz:j<a.tmps.size:=by rw[hf.size];exact hlt
    have:a.tmps[j]?=some (.bool b):=by
     have:=hv
     simp[Act.eval,Array.getD_eq_getD_getElem?,Array.getElem?_eq_getElem hsz,Option.getD_some] at this
     rw[Array.getElem?_eq_getElem hsz,this]
    exact ⟨_,this,.kb b⟩
   .rw[if_neg hjk] at hj
    exact hf.tm j t (by rw[lowFr_get];exact hj)
 .exact hf
theorem know_ok {fr:FrV S} (hn:fr.n<=bigN) (c:Operand) (b:Bool) (dr:List Nat) (nob:Nat):FrOk (condT c) fr (fr.know c b) dr nob:=by
 unfold FrV.know
 split
 .rename_i k
  cases hk:Nat.blt k fr.n with
  |false=>exact FrOk.refl _ _ _ _
  |true=>
   have hlt:k<fr.n:=Nat.le_of_ble_eq_true hk
   refine ⟨λj v hj hv=>.inl ?_,DfOk.refl _ _⟩
   simp
   rw[FrV.get_put _ _ _ _ (Nat.lt_of_lt_of_le hlt hn),if_neg (by simpa[condT] using hj)]
   exact hv
 .exact FrOk.refl _ _ _ _
theorem ambS_some {ω:Type} {e:Bool} {x y:Option ω} {r:ω} (h:ambS e x y=some r):y=some r∧(e=true->x=some r):=by
 unfold ambS at h
 grind
theorem bsR_sub {bs:List Nat}:∀{lq:List (Nat×Option Nat)},∀b∈bs,b∈bsR bs lq
 |[],_,h=>h
 |_ ::_,b,h=>List.mem_cons_of_mem _ (bsR_sub b h)
theorem bsR_mem {bs:List Nat}:∀{lq:List (Nat×Option Nat)} {b:Nat},b∈bsR bs lq->b∈bs∨∃q∈lq,q.1=b
 |[],_,h=>.inl h
 |q ::l,b,h=>by
  rcases List.mem_cons.1 h with rfl|h
  .exact .inr ⟨q,.head _,rfl⟩
  .rcases bsR_mem h with h|⟨q',h1,h2⟩
   .exact .inl h
   .exact .inr ⟨q',.tail _ h1,h2⟩
theorem bsR_pw {P:Nat->Nat->Prop} {bs bl:List Nat} (h:PW P bs bl):∀{lq:List (Nat×Option Nat)},(∀q∈lq,∃b,P q.1 b)->∃bl',PW P (bsR bs lq) bl'
 |[],_=>⟨bl,h⟩
 |q ::l,hq=>by
  obtain ⟨b,hb⟩:=hq q (.head _)
  obtain ⟨bl',h'⟩:=bsR_pw h (lq:=l) (λq' h'=>hq q' (.tail _ h'))
  refine ⟨b ::bl',by simp[bsR,h'.1],λj o b' k1 k2=>?_⟩
  cases j with
  |zero=>
   simp only[bsR,List.getElem?_cons_zero,Option.some.injEq] at k1 k2
   rw[<-k1,<-k2]
   exact hb
  |succ j=>exact h'.2 j o b' (by simpa[bsR] using k1) (by simpa using k2)
theorem lqV_ok {g:Gh} {w:World} {fr:FrV S} {s:StV S} {a:Act} (hf:FRel g (lowFr fr) a w) (hs:SRel g (lowSt s) w):∀{l:List (Pt×Option Nat)} {lq:List (Nat×Option Nat)},lqV fr s l=some lq->∀q∈lq,s.fl<=q.1∧q.1<s.nob∧∃b,g.blk q.1=some b
 |[],lq,h,q,hq=>by
  simp only[lqV,Option.some.injEq] at h
  subst h
  cases hq
 |p ::l,lq,h,q,hq=>by
  simp only[lqV] at h
  split at h
  .rename_i o r hv hr
   rcases cond_some h with ⟨hb,h⟩|⟨_,h⟩
   .simp only[Option.some.injEq] at h
    subst h
    rcases List.mem_cons.1 hq with rfl|hq
    .rw[Bool.and_eq_true] at hb
     obtain ⟨v,hv'⟩:=valP_sound hf hs hv
     cases hv' with
     |yld _ b hb'=>exact ⟨Nat.le_of_ble_eq_true hb.1,Nat.le_of_ble_eq_true hb.2,b,hb'⟩
    .exact lqV_ok hf hs hr q hq
   .cases h
  .cases h
theorem shOk_box (ds:List Nat):∀sh:Sh,shOk ds (shB sh)=true
 |[]=>rfl
 |(_,.one _) ::l=>shOk_box ds l
 |(_,.box _) ::l=>by
  have:=shOk_box ds l
  simp_all[shB,shOk]
 |(_,.hid _) ::l=>by
  have:=shOk_box ds l
  simp_all[shB,shOk]
theorem own_packPs {s:StV S} {fr:FrV S} {k o r:Nat} (hv:fr.get k=some (.sh o r)):∀{sh:Sh} {ps:List Pk} {bs:List Nat} {vs:List (V S)} {nx:Option Nat} {x:pden S.A ps} {fz ow bs':List Nat},shPs sh=ps->shVs fr sh bs=some vs->packPs s ps vs nx=some (x,fz,ow,bs')->k∈ownS sh->o∈ow
 |[],_,_,_,_,_,_,_,_,_,_,_,hk=>by simp[ownS] at hk
 |(j,.one c) ::sh,ps,bs,vs,nx,x,fz,ow,bs',h0,h1,h2,hk=>by
  simp[shVs] at h1
  split at h1
  rotate_left
  .cases h1
  rename_i v vs' hj hvs
  simp at h1
  subst h1
  replace h0:Pk.one c ::shPs sh=ps:=h0
  subst h0
  simp[packPs] at h2
  split at h2
  rotate_left
  .cases h2
  rename_i x1 a1 b1 y1 a2 b2 bs2 e1 e2
  obtain ⟨_,_,rfl,_⟩:=h2
  cases c with
  |dat t=>exact List.mem_append_right _ (own_packPs hv rfl hvs e2 hk)
  |nown n j t=>exact List.mem_append_right _ (own_packPs hv rfl hvs e2 hk)
  |nil e=>exact List.mem_append_right _ (own_packPs hv rfl hvs e2 hk)
  |ptr t=>exact List.mem_append_right _ (own_packPs hv rfl hvs e2 hk)
  |own e=>
   rcases List.mem_cons.1 hk with rfl|hk
   .rw[hv] at hj
    cases hj
    simp[packC] at e1
    grind
   .exact List.mem_append_right _ (own_packPs hv rfl hvs e2 hk)
 |(j,.box kd) ::sh,ps,[],vs,nx,x,fz,ow,bs',h0,h1,h2,hk=>by simp[shVs] at h1
 |(j,.box kd) ::sh,ps,b ::bs,vs,nx,x,fz,ow,bs',h0,h1,h2,hk=>by
  simp[shVs] at h1
  split at h1
  rotate_left
  .cases h1
  rename_i vs' hvs
  simp at h1
  subst h1
  replace h0:Pk.box kd ::shPs sh=ps:=h0
  subst h0
  simp[packPs] at h2
  split at h2
  rotate_left
  .cases h2
  rcases cond_some h2 with ⟨_,h2⟩|⟨_,h2⟩
  rotate_left
  .cases h2
  split at h2
  rotate_left
  .cases h2
  split at h2
  rotate_left
  .cases h2
  rename_i e2
  obtain ⟨_,_,rfl,_⟩:=h2
  exact List.mem_append_right _ (own_packPs hv rfl hvs e2 hk)
 |(j,.hid kd) ::sh,ps,[],vs,nx,x,fz,ow,bs',h0,h1,h2,hk=>by simp[shVs] at h1
 |(j,.hid kd) ::sh,ps,b ::bs,vs,none,x,fz,ow,bs',h0,h1,h2,hk=>by
  replace h0:Pk.hid kd ::shPs sh=ps:=h0
  subst h0
  cases vs<;>simp[packPs] at h2
 |(j,.hid kd) ::sh,ps,b ::bs,vs,some o',x,fz,ow,bs',h0,h1,h2,hk=>by
  simp[shVs] at h1
  replace h0:Pk.hid kd ::shPs sh=ps:=h0
  subst h0
  rcases cond_some h2 with ⟨_,h2⟩|⟨_,h2⟩
  rotate_left
  .cases h2
  split at h2
  rotate_left
  .cases h2
  split at h2
  rotate_left
  .cases h2
  rename_i e2
  obtain ⟨_,_,rfl,_⟩:=h2
  exact List.mem_append_right _ (own_packPs hv rfl h1 e2 hk)
theorem exS_own {ds:List Nat} {k:Nat}:∀{sh:Sh},k∈exS ds sh->k∈ownS sh
 |[],h=>h
 |(j,.one (.own e)) ::sh,h=>by
  simp only[exS] at h
  simp[ownS,List.mem_cons]
  rcases Bool.eq_false_or_eq_true (ds.contains j) with hc|hc
  .rw[hc] at h
   exact .inr (exS_own h)
  .rw[hc] at h
   rcases List.mem_cons.1 h with rfl|h
   .exact .inl rfl
   .exact .inr (exS_own h)
 |(j,.one (.dat t)) ::sh,h=>exS_own (sh:=sh) h
 |(j,.one (.nown ..)) ::sh,h=>exS_own (sh:=sh) h
 |(j,.one (.nil _)) ::sh,h=>exS_own (sh:=sh) h
 |(j,.one (.ptr _)) ::sh,h=>exS_own (sh:=sh) h
 |(j,.box kd) ::sh,h=>exS_own (sh:=sh) h
 |(j,.hid kd) ::sh,h=>exS_own (sh:=sh) h
theorem own_ow {s s2:StV S} {fr:FrV S} {sh:Sh} {bs ow:List Nat} {x:pden S.A (shPs sh)} {k o r:Nat} (h:packSt sh bs fr s=some (x,s2,ow)) (hk:k∈ownS sh) (hv:fr.get k=some (.sh o r)):o∈ow:=by
 unfold packSt at h
 split at h
 .cases h
 rename_i vs hvs
 split at h
 .cases h
 rename_i x' fz ow' bs' hpk
 split at h
 .cases h
 rcases cond_some h with ⟨_,h2⟩|⟨_,h2⟩
 .obtain ⟨_,_,rfl⟩:=h2
  exact own_packPs hv rfl hvs hpk hk
 .cases h2
def LoopIn (rr:Option Nat) (P:Program) (c:Code) (Q:Exit->Act->World->Prop) (a:Act) (w:World):Prop:=
 ∀(b:Frame) (k:List Item) (cs:List Frame),b.roundOf=rr->∃e a' w',Q e a' w'∧ArrR rr P (lone (b.atR a (.code c ::.inLoop c ::k)) cs w) b k cs e a' w'
theorem wp_of_loopIn {rr:Option Nat} {P:Program} {c:Code} {Q:Exit->Act->World->Prop} {a:Act} {w:World} (h:LoopIn rr P c Q a w):(Code.loop c).wpIn (WR rr) 0 P Q a w:=λb k cs hro _ _=>
 let ⟨e,a',w',hq,harr⟩:=h b k cs hro
 ⟨e,a',w',hq,.of_steps (stepsR.2 (.one stepR_loop)) harr⟩
theorem loopIn_round {rr:Option Nat} {P:Program} {c:Code} {Q:Exit->Act->World->Prop} {a:Act} {w:World} (h:c.wpIn (WR rr) 0 P (Exit.then (LoopIn rr P c Q) Q) a w):LoopIn rr P c Q a w:=by
 intro b k cs hro
 let ⟨e,a₁,w₁,hq,harr⟩:=h b (.inLoop c ::k) cs hro trivial (roomR _)
 cases e with
 |normal=>
  let ⟨e₂,a₂,w₂,hq₂,harr₂⟩:=hq b k cs hro
  exact ⟨e₂,a₂,w₂,hq₂,.of_steps (stepsR.2 ((stepsR.1 harr).trans (.one stepR_inLoop))) harr₂⟩
 |exit id=>exact ⟨_,a₁,w₁,hq,.pass (x:=.inLoop c) rfl (λ_ _=>.inl (by simp)) harr⟩
 |goto l=>exact ⟨_,a₁,w₁,hq,.pass (x:=.inLoop c) rfl (λ_ _=>.inl (by simp)) harr⟩
 |ret=>exact ⟨_,a₁,w₁,hq,.pass (x:=.inLoop c) rfl (λ_ _=>.inl (by simp)) harr⟩
 |panic ch=>exact ⟨_,a₁,w₁,hq,.pass (x:=.inLoop c) rfl (λ_ _=>.inl (by simp)) harr⟩
 |outgrown=>exact ⟨_,a₁,w₁,hq,.pass (x:=.inLoop c) rfl (λ_ _=>.inl (by simp)) harr⟩
theorem loopIn_inv {rr:Option Nat} {P:Program} {c:Code} {Q:Exit->Act->World->Prop} (I:Act->World->Prop) (μ:Act->World->Nat) (round:∀a w,I a w->c.wpIn (WR rr) 0 P (Exit.then (λa' w'=>I a' w'∧μ a' w'<μ a w) Q) a w) :
  ∀(m:Nat) (a:Act) (w:World),μ a w<=m->I a w->LoopIn rr P c Q a w:=by
 intro m
 induction m with
 |zero=>
  intro a w hm hI
  refine loopIn_round (wpIn_mono (round a w hI) λe a' w' hq=>?_)
  cases e with
  |normal=>have:=hq.2;omega
  |_=>exact hq
 |succ m ih=>
  intro a w hm hI
  refine loopIn_round (wpIn_mono (round a w hI) λe a' w' hq=>?_)
  cases e with
  |normal=>exact ih a' w' (by have:=hq.2;omega) hq.1
  |_=>exact hq
theorem rdB_and {a b:Bool} (h:(a&&b)=true):a=true∧b=true:=Bool.and_eq_true_iff.1 h
theorem rdB_ops {id:Nat} {ops:Array Oper} {d:Bool} (h:rdB (.region id ops d)=true):∀o∈ops.toList,∀c,o.op≠.defer c:=by
 grind[rdB]
theorem shOk_R (ds:List Nat) (sh:Sh):∀lq:List (Nat×Option Nat),shOk ds (shR sh lq)=true
 |[]=>shOk_box ds sh
 |_ ::l=>by
  have:=shOk_R ds sh l
  simp_all [shR,shOk]
theorem join_sound {E:EnvV S} (hE:EnvVOk E) (rv:Rv) {rr:Option Nat} {b:Code} {ev:{ω:Type}->(ExV S->FrV S->StV S->Option ω)->FrV S->StV S->Option ω}
  (hev:∀{ω:Type} {Q:ExV S->FrV S->StV S->Option ω} {r:ω} {fr:FrV S} {s:StV S},ev Q fr s=some r->fr.n<=bigN->s.lo<=s.nob->∀{g:Gh} {a:Act} {w:World},FRel g (lowFr fr) a w->SRel g (lowSt s) w->b.wpIn (WR rr) 0 E.T.E.P (QKV (dstsC b++rv.map (·.1)) fr s g w Q r) a w)
  {ω:Type} {sh:Sh} {pts:List Pt} {al:List (Nat×Nat)} {Q:ExV S->FrV S->StV S->Option ω} {r:ω} {fr:FrV S} {s:StV S} (h:joinV E rv ev sh pts al (dstsC b++rv.map (·.1)) (dedupN (exitsC b)) Q fr s=some r) (hn:fr.n<=bigN) (hlo:s.lo<=s.nob) {g:Gh} {a:Act} {w:World} (hf:FRel g (lowFr fr) a w) (hs:SRel g (lowSt s) w) :
  b.wpIn (WR rr) 0 E.T.E.P (QKV (dstsC b++rv.map (·.1)) fr s g w Q r) a w:=by
 unfold joinV at h
 split at h
 .cases h
 rename_i bs hobj
 split at h
 .cases h
 rename_i x0 s1 ow hpk
 rcases cond_some h with ⟨hb,h2⟩|⟨_,h2⟩
 rotate_left
 .cases h2
 clear h
 rw[Bool.and_eq_true,Bool.and_eq_true] at hb
 let ⟨⟨hshok,hexok⟩,hdsb⟩:=hb
 rw[Bool.and_eq_true,Bool.and_eq_true] at hexok
 let ⟨hexok,halok,hals⟩:=hexok
 let ⟨o,hround,hout⟩:=bnd_some h2
 clear h2
 generalize hds:(dstsC b++rv.map (·.1))++(exS (dstsC b++rv.map (·.1)) sh++al.map (·.1))=ds at *
 let ⟨bl0,hbl0⟩:=objsV_at hf hs hobj
 have hdsl:∀d∈ds,d<bigN:=λd hd=>by
  rw[List.all_eq_true] at hdsb
  exact Nat.lt_of_lt_of_le (Nat.le_of_ble_eq_true (hdsb d hd)) hn
 have halb:∀p∈al,p.1<bigN:=λp hp=>hdsl _ (by grind)
 have hald:∀k∈al.map (·.1),k∈ds:=λk hk=>by grind
 let ⟨g1,vals1,al1,bl1,hp1⟩:=packSt_sound hE.sg hf hs hbl0 hpk
 have hfirst:=base_first (fr:=fr) hf hs hdsl hp1
 have hs1n:s1.nob<=bigN:=hp1.rel.nob
 have hb0n:(baseOf ds ow bs fr s1).1.n<=bigN:=hn
 have fix:∀{fry:FrV S},FrOk ds fr fry (ow++s1.dr) s.nob->FrOk (dstsC b++rv.map (·.1)) fr fry (ow++s1.dr) s.nob:=by
  intro fry hfo
  refine ⟨λk v hk hv=>?_,hfo.df⟩
  by_cases hkd:k∈ds
  .right
   rw[<-hds] at hkd
   rcases List.mem_append.1 hkd with hkd|hkd
   .grind
   .rcases List.mem_append.1 hkd with hkd|hkd
    .unfold exOk at hexok
     rw[List.all_eq_true] at hexok
     have h1:=hexok k hkd
     split at h1
     .rename_i o' r' ho'
      rw[hv] at ho'
      cases ho'
      have:=own_ow hpk (exS_own hkd) hv
      simp[mentP,outP,this]
     .cases h1
    .obtain ⟨p,hp,rfl⟩:=List.mem_map.1 hkd
     obtain ⟨o1,r1,rfl,this⟩:=alOw_mem hals hp hv
     simp[mentP,outP,this]
  .exact hfo.tm k v hkd hv
 have halat:AlAt a w al:=alOk_at hf hs halok
 have hbase:BaseR sh bs (baseOf ds ow bs fr s1).1 (baseOf ds ow bs fr s1).2 s g w x0 a _ w vals1 al1 bl1:=hfirst
 unfold roundV at hround
 split at hround
 .cases hround
 rename_i frh0 sth hhead
 let ⟨gh,hh0,hext⟩:=hbase.head hb0n hhead
 have hh:=hh0.putAl halb halat
 generalize putAl sth al frh0=frh at hh hround
 have hfrn:frh.n=fr.n:=hh.n
 have hlo':sth.lo<=sth.nob:=by
  have h1:sth.lo=s.lo:=hh.lo.trans hp1.lo
  have h2:=hh.nob
  have h3:(baseOf ds ow bs fr s1).2.nob=s1.nob:=rfl
  have:=hp1.nob
  omega
 have hlo'':s1.nob<=sth.nob:=hh.nob
 have hrel:SRel gh (lowSt {sth with lo:=s1.nob}) _:=⟨hh.rel.nob,hh.rel.bnd,hh.rel.box,hh.rel.arr,hh.rel.imm,hh.rel.uni,hh.rel.glo⟩
 have hsl:sth.lo=(baseOf ds ow bs fr s1).2.lo:=hh.lo
 refine wpIn_mono (hev hround (by omega) hlo'' hh.fr hrel) λe a'' w'' hq=>?_
 rcases hq with hF|⟨ex,fr2,s20,g2,h1,h2,h3,h4,h50,h60⟩
 .exact hF.elim
 have h5:=AftW.lower (s:=sth) h50 (by have:=hh.lo.trans hp1.lo;have:=hp1.nob;omega)
 rw[<-hsl] at h2
 dsimp only at h2
 obtain ⟨s2,hs2⟩:∃s2:StV S,s2={s20 with lo:=sth.lo}:=⟨_,rfl⟩
 have h6:=h60
 rw[show s20.dr=s2.dr by rw[hs2]] at h6
 rw[<-hs2] at h2 h5
 unfold roundE at h2
 replace h6:FrOk ds frh fr2 s2.dr sth.nob:=h6.mono (λk hk=>by grind) (λ_ h=>h)
 rcases cond_some h2 with ⟨hdl0,h2⟩|⟨_,h2⟩
 rotate_left
 .cases h2
 have hflm:s2.fl=s.fl:=h5.fl.trans (hh.fl.trans hp1.fl)
 have hmk:∀{g2':Gh},(∀o b,g2.blk o=some b->g2'.blk o=some b)->Marks s1.nob s.fl (baseOf ds ow bs fr s1) fr2 g2' w'':=λ{g2'} hq=>by
  have:=sameDf_marks h5.rel hdl0
  rw[hflm] at this
  exact this.mono h4 hq
 have next:∀{sh':Sh} {y:pden S.A (shPs sh')} {s2' s3:StV S} {g2':Gh} {ow2:List Nat},AftW sth gh w s2' g2' w''->(∀o b,g2.blk o=some b->g2'.blk o=some b)->FRel g2' (lowFr fr2) a'' w''->FrOk ds frh fr2 s2'.dr sth.nob->packSt sh' bs fr2 s2'=some (y,s3,ow2)->
   wrOk s1.nob bs s3.wr=true->ow2.all (λo=>Nat.ble s1.nob o)=true->s3.dr.all (λo=>Nat.ble s1.nob o)=true->
   ∃gb' vals' al' bl',BaseR sh' bs (baseOf ds ow bs fr s1).1 (baseOf ds ow bs fr s1).2 s g w y a'' gb' w'' vals' al' bl'∧∀b,g2'.imm b->gb'.imm b:=by
  intro sh' y s2' s3 g2' ow2 k1 k0 k2 k3 k4 k5 k6 k7
  let ⟨g3,vals',al',bl',hp2⟩:=packSt_sound hE.sg (bl0:=bl1) k2 k1.rel ⟨hbase.blr.1,λj o b q1 q2=>k1.ext.blk o b (hh.le.blk o b (hbase.blr.2 j o b q1 q2))⟩ k4
  let ⟨gb',hb1,hb2⟩:=base_next hald (λ_ h=>h) hdsl (λb hb=>⟨by have:=(hp1.bsp b hb).2.1;rw[hp1.nob];exact this,(hp1.bsp b hb).2.2.1⟩) hs1n (by rw[hp1.nob];exact hlo) (λo ho=>(hp1.owp o ho).2.1) (λo b hb=>⟨by rw[hp1.nob];exact hs.lt hb,λhm=>by rw[hp1.owb o hm] at hb;cases hb⟩) hshok hp1.lo hp1.fl hext hh k1 k2 k3 h3 (hmk k0) hp2 k5 k6 k7
  exact ⟨gb',vals',al',bl',hb1,λb hb=>by rw[hb2];exact hp2.ext.imm b hb⟩
 have leave:∀{sh':Sh} {y:pden S.A (shPs sh')} {gb':Gh} {vals':List Value} {al':List ASl} {bl':List Nat} {fry:FrV S} {sty:StV S},shOk ds sh'=true->BaseR sh' bs (baseOf ds ow bs fr s1).1 (baseOf ds ow bs fr s1).2 s g w y a'' gb' w'' vals' al' bl'->headV sh' bs y (baseOf ds ow bs fr s1).1 (baseOf ds ow bs fr s1).2=some (fry,sty)->
   ∃gy,FRel gy (lowFr fry) a'' w''∧(∀b,gb'.imm b->gy.imm b)∧AftW s g w {sty with wr:=s1.ob.keysOf (obMentP (outP ow s1.nob))++(bs++s1.wr),dr:=ow++s1.dr} gy w''∧FrOk ds fr fry (ow++s1.dr) s.nob∧fry.n=fr.n:=by
  intro sh' y gb' vals' al' bl' fry sty hsh' k1 k2
  let ⟨gy,k3,k4⟩:=k1.head hb0n k2
  let ⟨k5,k6,k7⟩:=base_out (ex:=[]) (λ_ h=>by cases h) (λb hb=>Nat.lt_of_lt_of_le (hp1.bsp b hb).2.1 hs.nob) hs hdsl hp1 hsh' k4 k3
  exact ⟨gy,k3.fr,k3.le.imm,k5,k6,k7⟩
 cases h1 with
 |nrm=>
  rcases cond_some h2 with ⟨hal2,h2⟩|⟨_,h2⟩
  rotate_left
  .cases h2
  simp[backV] at h2
  split at h2
  .rename_i y s3 ow2 hpk2
   rcases cond_some h2 with ⟨hc,h2⟩|⟨_,h2⟩
   rotate_left
   .cases h2
   simp only[Bool.and_eq_true] at hc
   let ⟨gb',vals',al',bl',k1,_⟩:=next h5 (λ_ _ h=>h) h4 h6 hpk2 hc.1 hc.2.1 hc.2.2
   cases h2
   simp only at hout
   split at hout
   .cases hout
   .rename_i fry sty hhy
    let ⟨gy,l1,_,l2,l3,l4⟩:=leave hshok k1 hhy
    let ⟨m1,m2,m3,m4⟩:=putAl_sound (s:=sty) l2.rel halb (alOk_at h4 h5.rel hal2) l1
    exact .inr ⟨.nrm,putAl sty al fry,_,gy,.nrm,hout,m2.trans l4,m1,l2,fix ⟨λk v hk hv=>by rw[m4 k λhm=>hk (hald k hm)];exact l3.tm k v hk hv,by rw[m3];exact l3.df⟩⟩
  .cases h2
 |ext j=>
  rcases cond_some h2 with ⟨hj,h2⟩|⟨_,h2⟩
  rotate_left
  .cases h2
  simp[backV] at h2
  split at h2
  .rename_i y s3 ow2 hpk2
   rcases cond_some h2 with ⟨hc,h2⟩|⟨_,h2⟩
   rotate_left
   .cases h2
   simp only[Bool.and_eq_true] at hc
   let ⟨gb',vals',al',bl',k1,_⟩:=next h5 (λ_ _ h=>h) h4 h6 hpk2 hc.1 hc.2.1 hc.2.2
   cases h2
   simp only at hout
   split at hout
   .cases hout
   .rename_i fry sty hhy
    let ⟨gy,l1,_,l2,l3,l4⟩:=leave hshok k1 hhy
    rw[Bool.and_eq_true] at hj
    have hjm:j∈dedupN (exitsC b):=by grind
    let ⟨m1,m2,m3,m4⟩:=putAl_sound (s:=sty) l2.rel halb (alOk_at h4 h5.rel hj.2) l1
    exact .inr ⟨.ext j,putAl sty al fry,_,gy,.ext j,outV_sound hjm hout,m2.trans l4,m1,l2,fix ⟨λk v hk hv=>by rw[m4 k λhm=>hk (hald k hm)];exact l3.tm k v hk hv,by rw[m3];exact l3.df⟩⟩
  .cases h2
 |ret=>
  rcases cond_some h2 with ⟨_,h2⟩|⟨_,h2⟩
  rotate_left
  .cases h2
  split at h2
  .cases h2
  rename_i vs hvs
  split at h2
  rotate_left
  .cases h2
  rename_i r' fz owr hpc
  split at h2
  rotate_left
  .cases h2
  rename_i s2' hfz
  simp[backV] at h2
  split at h2
  .rename_i y s3 ow2 hpk2
   rcases cond_some h2 with ⟨hc,h2⟩|⟨_,h2⟩
   rotate_left
   .cases h2
   simp only[Bool.and_eq_true] at hc
   let ⟨rvals,hat,hpw⟩:=rvVs_at h4 hvs
   let ⟨p1,p2,p3⟩:=packCs_sound hE.sg h5.rel hpc hpw
   let ⟨g3,hs3,he3,hfr3⟩:=freeze_sound fz h5.rel (freezeV_low hE.sg _ hfz) p1
   have howr:owr=[]:=packCs_dat (allDat_rv rv) hpc
   let ⟨alr,hrel,_⟩:=p3 g3 (lowSt s2') fz hs3 he3 hfr3 (λo ho=>ho) (λo ho=>by simp_all)
   let ⟨f1,f2,f3,f4,f5,f6,f7⟩:=freezeV_st hfz
   have haft:AftW s2 g2 w'' s2' g3 w'':=⟨hs3,he3.toV _,f1,f2,Nat.le_of_eq f3.symm,f4,λo _ ho=>f5 o ho,λo ho=>by grind⟩
   have hf3:FRel g3 (lowFr fr2) a'' w'':=h4.ext he3 h5.rel.imm
   let ⟨gb',vals',al',bl',k1,k2⟩:=next (h5.trans haft) he3.blk hf3 (by grind) hpk2 hc.1 hc.2.1 hc.2.2
   cases h2
   simp only at hout
   split at hout
   .cases hout
   .rename_i fry sty hhy
    let ⟨gy,l1,l0,l2,l3,l4⟩:=leave (shOk_box ds sh) k1 hhy
    let ⟨m1,m2,m3⟩:=rvPut_sound (g:=gy) (w:=w'') (a:=a'') (fr:=fry) hrel (λb hb=>l0 b (k2 b hb)) hat (by omega) l1
    have hdf:∀(rv:Rv) (r:cden S.A (rvCs rv)) (fr:FrV S),(rvPut rv r fr).df=fr.df:=by
     intro rv
     induction rv with
     |nil=>intro _ _;rfl
     |cons q rv ih=>intro r fr;let ⟨k,t⟩:=q;exact ih _ _
    refine .inr ⟨.ret,_,_,gy,.ret,hout,m2.trans l4,m1,l2,⟨λk v hk hv=>?_,by rw[hdf];exact l3.df⟩⟩
    rw[m3 k (λhm=>hk (List.mem_append_right _ hm))]
    exact (fix l3).tm k v hk hv
  .cases h2
 |pan t v hv=>
  rcases cond_some h2 with ⟨hpn,h2⟩|⟨_,h2⟩
  rotate_left
  .cases h2
  split at h2
  rotate_left
  .cases h2
  rename_i r' fz owr hpc
  split at h2
  rotate_left
  .cases h2
  rename_i s2' hfz
  simp[backV] at h2
  split at h2
  rotate_left
  .cases h2
  rename_i y s3 ow2 hpk2
  rcases cond_some h2 with ⟨hc,h2⟩|⟨_,h2⟩
  rotate_left
  .cases h2
  simp only[Bool.and_eq_true] at hc
  have hpw:PW (TRel g2 w'') (lows [t]) [v]:=⟨rfl,λj t' v' q1 q2=>by
   grind[lows]⟩
  let ⟨p1,p2,p3⟩:=packCs_sound hE.sg h5.rel hpc hpw
  let ⟨g3,hs3,he3,hfr3⟩:=freeze_sound fz h5.rel (freezeV_low hE.sg _ hfz) p1
  have howr:owr=[]:=packCs_dat (cs:=[.dat S.pt]) rfl hpc
  let ⟨alr,hrel,_⟩:=p3 g3 (lowSt s2') fz hs3 he3 hfr3 (λo ho=>ho) (λo ho=>by grind)
  let ⟨f1,f2,f3,f4,f5,f6,f7⟩:=freezeV_st hfz
  have haft:AftW s2 g2 w'' s2' g3 w'':=⟨hs3,he3.toV _,f1,f2,Nat.le_of_eq f3.symm,f4,λo _ ho=>f5 o ho,λo ho=>by grind⟩
  have hf3:FRel g3 (lowFr fr2) a'' w'':=h4.ext he3 h5.rel.imm
  let ⟨gb',vals',al',bl',k1,k2⟩:=next (h5.trans haft) he3.blk hf3 (by grind) hpk2 hc.1 hc.2.1 hc.2.2
  cases h2
  simp only at hout
  rcases cond_some hout with ⟨_,hout⟩|⟨_,hout⟩
  rotate_left
  .cases hout
  split at hout
  .cases hout
  .rename_i fry sty hhy
   let ⟨gy,l1,l0,l2,l3,l4⟩:=leave (shOk_box ds sh) k1 hhy
   refine .inr ⟨.pan (.ty S.pt r'.1),fry,_,gy,.pan _ v ?_,hout,l4,l1,l2,fix l3⟩
   cases hrel with
   | @dat _ _ x h v vs al hd hr=>
    exact trel_lowTy (hd.le λb hb=>l0 b (k2 b hb))
theorem evC_sound {E:EnvV S} (hE:EnvVOk E) {call:CallV S} (hcall:CallOkV E.T.E.P call) (hdraw:DrawOk E call) (n:Nat) (fid:FuncId) (rv:Rv) {rr:Option Nat}:∀(c:Code) (i:Nat) {ω:Type} {Q:ExV S->FrV S->StV S->Option ω} {r:ω} {fr:FrV S} {s:StV S},
  evC E call n fid rv c i Q fr s=some r->(rr≠none->rdB c=true)->fr.n<=bigN->s.lo<=s.nob->∀{g:Gh} {a:Act} {w:World},FRel g (lowFr fr) a w->SRel g (lowSt s) w->c.wpIn (WR rr) 0 E.T.E.P (QKV (dstsC c++rv.map (·.1)) fr s g w Q r) a w:=by
 intro c
 induction c with
 |region id ops draw=>
  intro i ω Q r fr s h hrd hn hlo g a w hf hs
  cases draw with
  |true=>
   rcases cond_some h with ⟨hb,h⟩|⟨_,h⟩
   rotate_left
   .cases h
   refine hdraw id ops _ _ r fr s hb h hn hf hs (λfr' s' g' a' w' h1 h2 h3 h4 h5=>.inr ⟨.nrm,fr',s',g',.nrm,h1,h2,h3,h4,h5.mono (λk hk=>List.mem_append_left _ hk) (λ_ h=>h)⟩)
    (λfr' t s' g' a' v w' h1 h2 h3 h4 h6 h5=>.inr ⟨.pan t,fr',s',g',.pan t v h5,h1,h2,h3,h4,h6.mono (λk hk=>List.mem_append_left _ hk) (λ_ h=>h)⟩) rr hrd
  |false=>
   refine region_R ?_
   have:=evOps_sound hE hcall (Q:=QKV (dstsC (.region id ops false)++rv.map (·.1)) fr s g w Q r) (rr:=rr) (λhr=>rdB_ops (hrd hr)) ops.toList 0 rfl hn h hf hs
    (λfr' s' g' a' w' h1 h2 h3 h4 h5=>.inr ⟨.nrm,fr',s',g',.nrm,h1,h2,h3,h4,h5.mono (λk hk=>List.mem_append_left _ hk) (λ_ h=>h)⟩)
    (λfr' t s' g' a' v w' h1 h2 h3 h4 h6 h5=>.inr ⟨.pan t,fr',s',g',.pan t v h5,h1,h2,h3,h4,h6.mono (λk hk=>List.mem_append_left _ hk) (λ_ h=>h)⟩)
   grind[List.range_eq_range']
 |seq x y ihx ihy=>
  intro i ω Q r fr s h hrd hn hlo g a w hf hs
  have hds:∀k∈(dstsC x++rv.map (·.1))++(dstsC y++rv.map (·.1)),k∈dstsC (.seq x y)++rv.map (·.1):=by
   grind[dstsC]
  refine wpIn_seq (wpIn_mono (ihx i h (λhr=>(rdB_and (hrd hr)).1) hn hlo hf hs) λe a' w' hq=>?_)
  rcases hq with hF|⟨ex,fr',s',g',h1,h2,h3,h4,h5,h6⟩
  .exact hF.elim
  .cases h1 with
   |nrm=>
    have:=ihy i h2 (λhr=>(rdB_and (hrd hr)).2) (by omega) (by rw[h5.lo];exact Nat.le_trans hlo h5.nob) h4 h5.rel
    exact wpIn_mono this λe a w hq=>(QKV.mono h3 h5 h6 hq).ds hds
   |ext j=>exact .inr ⟨_,fr',s',g',.ext j,h2,h3,h4,h5,h6.mono (λk hk=>hds k (List.mem_append_left _ hk)) (λ_ h=>h)⟩
   |ret=>exact .inr ⟨_,fr',s',g',.ret,h2,h3,h4,h5,h6.mono (λk hk=>hds k (List.mem_append_left _ hk)) (λ_ h=>h)⟩
   |pan t v hv=>exact .inr ⟨_,fr',s',g',.pan t v hv,h2,h3,h4,h5,h6.mono (λk hk=>hds k (List.mem_append_left _ hk)) (λ_ h=>h)⟩
 |cond c x y ihx ihy=>
  intro i ω Q r fr s h hrd hn hlo g a w hf hs
  have cnd:∀{ω:Type} {Q:ExV S->FrV S->StV S->Option ω} {r:ω} {fr:FrV S} {s:StV S},condV c (evC E call n fid rv x i) (evC E call n fid rv y i) Q fr s=some r->fr.n<=bigN->s.lo<=s.nob->∀{g:Gh} {a:Act} {w:World},FRel g (lowFr fr) a w->SRel g (lowSt s) w->
    (Code.cond c x y).wpIn (WR rr) 0 E.T.E.P (QKV (dstsC (.cond c x y)++rv.map (·.1)) fr s g w Q r) a w:=by
   clear h hn hlo hf hs
   intro ω Q r fr s h hn hlo g a w hf hs
   have hx:∀k∈dstsC x++rv.map (·.1),k∈dstsC (.cond c x y)++rv.map (·.1):=by
    grind[dstsC]
   have hy:∀k∈dstsC y++rv.map (·.1),k∈dstsC (.cond c x y)++rv.map (·.1):=by
    grind[dstsC]
   have hc:∀k∈condT c,k∈dstsC (.cond c x y)++rv.map (·.1):=by
    grind[dstsC]
   have tru:a.eval c=.bool true->evC E call n fid rv x i Q (fr.know c true) s=some r->x.wpIn (WR rr) 0 E.T.E.P (QKV (dstsC (.cond c x y)++rv.map (·.1)) fr s g w Q r) a w:=λhv h=>
    wpIn_mono (ihx i h (λhr=>(rdB_and (hrd hr)).1) (by rw[know_n];exact hn) hlo (know_sound hn hf hv) hs) λe a w hq=>(QKV.mono (know_n _ _ _) (AftW.refl hs) (know_ok hn c true _ _) hq).ds λk hk=>(List.mem_append.1 hk).elim (hc k) (hx k)
   have fls:a.eval c=.bool false->evC E call n fid rv y i Q (fr.know c false) s=some r->y.wpIn (WR rr) 0 E.T.E.P (QKV (dstsC (.cond c x y)++rv.map (·.1)) fr s g w Q r) a w:=λhv h=>
    wpIn_mono (ihy i h (λhr=>(rdB_and (hrd hr)).2) (by rw[know_n];exact hn) hlo (know_sound hn hf hv) hs) λe a w hq=>(QKV.mono (know_n _ _ _) (AftW.refl hs) (know_ok hn c false _ _) hq).ds λk hk=>(List.mem_append.1 hk).elim (hc k) (hy k)
   unfold condV at h
   split at h
   .rename_i hc
    have:=opdT_sound hf (opdV_low hc)
    generalize hv:a.eval c=v at this
    cases this
    exact wpIn_cond_true hv (wpIn_mono (ihx i h (λhr=>(rdB_and (hrd hr)).1) hn hlo hf hs) λe a w hq=>hq.ds hx)
   .rename_i hc
    have:=opdT_sound hf (opdV_low hc)
    generalize hv:a.eval c=v at this
    cases this
    exact wpIn_cond_false hv (wpIn_mono (ihy i h (λhr=>(rdB_and (hrd hr)).2) hn hlo hf hs) λe a w hq=>hq.ds hy)
   .rename_i e hc
    have:=opdT_sound hf (opdV_low hc)
    generalize hv:a.eval c=v at this
    let ⟨h2,h1⟩:=ambS_some h
    cases this with
    |ub _ b hb=>
     simp_all[wpIn_cond_split]
   .rename_i t _ _ _ hc
    split at h
    .rename_i b hb
     let ⟨p,e,hp⟩:=boolV_low hb
     have hv:=boolT_sound e hp (opdT_sound hf (opdV_low hc))
     grind[wpIn_cond_split,sel_some]
    .cases h
   .cases h
  grind[evC,join_sound]
 |block j b ih=>
  intro i ω Q r fr s h hrd hn hlo g a w hf hs
  refine wpIn_block (wpIn_mono (ih j h hrd hn hlo hf hs) λe a' w' hq=>?_)
  rcases hq with hF|⟨ex,fr',s',g',h1,h2,h3,h4,h5,h6⟩
  .exact hF.elim
  .cases h1 with
   |nrm=>exact .inr ⟨_,fr',s',g',.nrm,h2,h3,h4,h5,h6⟩
   |ext k=>
    simp[exBlockV] at h2
    simp[Exit.inBlock]
    split at h2
    .rename_i hji
     rw[if_pos (beq_iff'.1 hji)]
     exact .inr ⟨_,fr',s',g',.nrm,h2,h3,h4,h5,h6⟩
    .rename_i hji
     rw[if_neg (λe=>by simp_all)]
     exact .inr ⟨_,fr',s',g',.ext k,h2,h3,h4,h5,h6⟩
   |ret=>exact .inr ⟨_,fr',s',g',.ret,h2,h3,h4,h5,h6⟩
   |pan t v hv=>exact .inr ⟨_,fr',s',g',.pan t v hv,h2,h3,h4,h5,h6⟩
 |loop b ih=>
  intro i ω Q r fr s h hrd hn hlo g a w hf hs
  simp[evC] at h
  split at h
  .cases h
  rename_i sh pts al pl lqp hsh
  refine wp_of_loopIn ?_
  clear hsh
  induction pl generalizing fr s g a w with
  |succ pl ihp=>
   refine loopIn_round (wpIn_mono (ih i h hrd hn hlo hf hs) λe a' w' hq=>?_)
   rcases hq with hF|⟨ex,fr',s',g',h1,h2,h3,h4,h5,h6⟩
   .exact hF.elim
   have hds:∀k∈dstsC b++rv.map (·.1),k∈dstsC (.loop b)++rv.map (·.1):=λk hk=>hk
   cases h1 with
   |nrm=>
    intro b1 k1 cs1 hro1
    have ihq:=ihp (fr:=fr') (s:=s') (g:=g') (a:=a') (w:=w') (h:=h2) (hn:=by omega) (hlo:=by rw[h5.lo];exact Nat.le_trans hlo h5.nob) (hf:=h4) (hs:=h5.rel)
    let ⟨e,a2,w2,hq,harr⟩:=ihq b1 k1 cs1 hro1
    refine ⟨e,a2,w2,?_,harr⟩
    exact (QKV.mono h3 h5 h6 hq).ds λk hk=>(List.mem_append.1 hk).elim (hds k) id
   |ext j=>exact .inr ⟨_,fr',s',g',.ext j,h2,h3,h4,h5,h6⟩
   |ret=>exact .inr ⟨_,fr',s',g',.ret,h2,h3,h4,h5,h6⟩
   |pan t v hv=>exact .inr ⟨_,fr',s',g',.pan t v hv,h2,h3,h4,h5,h6⟩
  |zero=>
  simp[peelV] at h
  suffices main:∀{fr:FrV S} {s:StV S} {g:Gh} {a:Act} {w:World},loopV E n rv (evC E call n fid rv b i) lqp sh pts al (dstsC b++rv.map (·.1)) (dedupN (exitsC b)) Q fr s=some r->fr.n<=bigN->s.lo<=s.nob->FRel g (lowFr fr) a w->SRel g (lowSt s) w->LoopIn rr E.T.E.P b (QKV (dstsC (.loop b)++rv.map (·.1)) fr s g w Q r) a w by
   rcases cond_some h with ⟨_,h⟩|⟨_,h⟩
   rotate_left
   .simp_all
   rcases cond_some h with ⟨hnb,h⟩|⟨_,h⟩
   rotate_left
   .cases h
   have hnb:s.nob<bigN:=Nat.le_of_ble_eq_true hnb
   have hg:∀k,(newObV s .mks).ob.get k=if k=s.nob then some .mks else s.ob.get k:=λk=>Tr.get_set64 _ _ _ _ hnb
   have hs1:SRel g (lowSt (newObV s .mks)) w:=by
    refine ⟨hnb,λo ho=>hs.bnd o (Nat.le_of_succ_le ho),λo b hb=>?_,λo e x hx=>?_,hs.imm,hs.uni,hs.glo⟩
    .let ⟨k1,k2,k3⟩:=hs.box o b hb
     refine ⟨k1,k2,λob hob=>k3 ob ?_⟩
     have:=hs.lt hb
     rw[lowSt_get,hg,if_neg (by have h:o<s.nob:=this;omega)] at hob
     rw[lowSt_get]
     exact hob
    .let ⟨k1,k2⟩:=hs.arr o e x hx
     refine ⟨k1,λob hob=>k2 ob ?_⟩
     have:=hs.lt' hx
     rw[lowSt_get,hg,if_neg (by have h:o<s.nob:=this;omega)] at hob
     rw[lowSt_get]
     exact hob
   have haft:AftW s g w (newObV s .mks) g w:=by
    refine ⟨hs1,ExtV.refl _ _ _ _,rfl,rfl,Nat.le_succ _,λ_ h=>h,λo ho _=>?_,λ_ h=>h⟩
    rw[hg,if_neg (by omega)]
   intro b1 k1 cs1 hro1
   let ⟨e,a2,w2,hq,harr⟩:=main (fr:={fr with df:=.marks s.nob ::fr.df}) (s:=newObV s .mks) h hn (Nat.le_succ_of_le hlo) ⟨hf.size,.marks s.nob [] .nil (λb hb=>by cases hb) hf.df,hf.tm⟩ hs1 b1 k1 cs1 hro1
   refine ⟨e,a2,w2,?_,harr⟩
   exact (QKV.mono (ds:=[]) (fr:=fr) (fr1:={fr with df:=.marks s.nob ::fr.df}) rfl haft ⟨λk v _ hk=>.inl hk,[.marks s.nob],fr.df,rfl,.refl _ _⟩ hq).ds λk hk=>hk
  clear h hn hlo hf hs
  intro fr s g a w h hn hlo hf hs
  unfold loopV at h
  split at h
  .cases h
  rename_i lq hlq
  have hlqo:=lqV_ok hf hs hlq
  split at h
  .cases h
  rename_i bs hobj
  split at h
  .cases h
  rename_i x0 s1 ow hpk
  rcases cond_some h with ⟨hb,h2⟩|⟨_,h2⟩
  rotate_left
  .cases h2
  clear h
  rw[Bool.and_eq_true,Bool.and_eq_true] at hb
  let ⟨⟨hshok,hexok⟩,hdsb⟩:=hb
  rw[Bool.and_eq_true,Bool.and_eq_true] at hexok
  let ⟨hexok,halok,hals⟩:=hexok
  let ⟨o,hiter,hout⟩:=bnd_some h2
  clear h2
  generalize hds:(dstsC b++rv.map (·.1))++(exS (dstsC b++rv.map (·.1)) sh++al.map (·.1))=ds at *
  let ⟨bl0,hbl0⟩:=objsV_at hf hs hobj
  have hdsl:∀d∈ds,d<bigN:=λd hd=>by
   rw[List.all_eq_true] at hdsb
   exact Nat.lt_of_lt_of_le (Nat.le_of_ble_eq_true (hdsb d hd)) hn
  have halb:∀p∈al,p.1<bigN:=λp hp=>hdsl _ (by grind)
  have hald:∀k∈al.map (·.1),k∈ds:=λk hk=>by grind
  let ⟨g1,vals1,al1,bl1,hp1⟩:=packSt_sound hE.sg hf hs hbl0 hpk
  have hfirst:=base_first (fr:=fr) hf hs hdsl hp1
  have hs1n:s1.nob<=bigN:=hp1.rel.nob
  have hb0n:(baseOf ds ow bs fr s1).1.n<=bigN:=hn
  have hbsb:∀b∈bs,b<s1.nob∧b∉ow:=λb hb=>⟨by have:=(hp1.bsp b hb).2.1;rw[hp1.nob];exact this,(hp1.bsp b hb).2.2.1⟩
  have hbsR:∀b∈bsR bs lq,b<s1.nob∧b∉ow:=λb hb=>by
   rcases bsR_mem hb with h|⟨q,h1,rfl⟩
   .exact hbsb b h
   .obtain ⟨_,k2,b',hb'⟩:=hlqo q h1
    exact ⟨by rw[hp1.nob];exact k2,λhm=>by rw[hp1.owb _ hm] at hb';cases hb'⟩
  have fix:∀{fry:FrV S},FrOk ds fr fry (ow++s1.dr) s.nob->FrOk (dstsC (.loop b)++rv.map (·.1)) fr fry (ow++s1.dr) s.nob:=by
   intro fry hfo
   refine ⟨λk v hk hv=>?_,hfo.df⟩
   by_cases hkd:k∈ds
   .right
    rw[<-hds] at hkd
    rcases List.mem_append.1 hkd with hkd|hkd
    .exact absurd hkd hk
    .rcases List.mem_append.1 hkd with hkd|hkd
     .unfold exOk at hexok
      rw[List.all_eq_true] at hexok
      have h1:=hexok k hkd
      split at h1
      .rename_i o' r' ho'
       rw[hv] at ho'
       cases ho'
       have:=own_ow hpk (exS_own hkd) hv
       simp[mentP,outP,this]
      .cases h1
     .obtain ⟨p,hp,rfl⟩:=List.mem_map.1 hkd
      obtain ⟨o1,r1,rfl,this⟩:=alOw_mem hals hp hv
      simp[mentP,outP,this]
   .exact hfo.tm k v hkd hv
  let Inv (a':Act) (w':World) (m:Nat):Prop:=AlAt a' w' al∧∃x gb vals als bl,iter (roundV rv (evC E call n fid rv b i) sh lq bs s1.nob (dedupN (exitsC b)) (baseOf ds ow bs fr s1) (baseOf ds ow (bsR bs lq) fr s1) E.pn al) m x=some o∧BaseR sh bs (baseOf ds ow bs fr s1).1 (baseOf ds ow bs fr s1).2 s g w x a' gb w' vals als bl
  have hleast:∀(a':Act) (w':World),∃m,(∃k,Inv a' w' k)->Inv a' w' m∧∀k,Inv a' w' k->m<=k:=by
   intro a' w'
   by_cases hex:∃k,Inv a' w' k
   .obtain ⟨m,hm,hmin⟩:=least_nat (λk=>Inv a' w' k) hex
    exact ⟨m,λ_=>⟨hm,hmin⟩⟩
   .exact ⟨0,λh=>absurd h hex⟩
  obtain ⟨M,hM⟩:∃M:Act->World->Nat,∀a' w',(∃k,Inv a' w' k)->Inv a' w' (M a' w')∧∀k,Inv a' w' k->M a' w'<=k:=
   ⟨λa' w'=>Classical.choose (hleast a' w'),λa' w'=>Classical.choose_spec (hleast a' w')⟩
  refine loopIn_inv (λa' w'=>∃k,Inv a' w' k) M ?_ _ a w (Nat.le_refl _) ⟨n,alOk_at hf hs halok,x0,_,vals1,al1,bl1,hiter,hfirst⟩
  intro a' w' hI
  let ⟨⟨halat,x,gb,vals,als,bl,hit,hbase⟩,hmin⟩:=hM a' w' hI
  let ⟨m,hm,o',hround,hcase⟩:=iter_some hit
  unfold roundV at hround
  split at hround
  .cases hround
  rename_i frh0 sth hhead
  let ⟨gh,hh0,hext⟩:=hbase.head hb0n hhead
  have hh:=hh0.putAl halb halat
  generalize putAl sth al frh0=frh at hh hround
  have hfrn:frh.n=fr.n:=hh.n
  have hlo':sth.lo<=sth.nob:=by
   have h1:sth.lo=s.lo:=hh.lo.trans hp1.lo
   have h2:=hh.nob
   have h3:(baseOf ds ow bs fr s1).2.nob=s1.nob:=rfl
   have:=hp1.nob
   omega
  have hlo'':s1.nob<=sth.nob:=hh.nob
  have hrel:SRel gh (lowSt {sth with lo:=s1.nob}) _:=⟨hh.rel.nob,hh.rel.bnd,hh.rel.box,hh.rel.arr,hh.rel.imm,hh.rel.uni,hh.rel.glo⟩
  have hsl:sth.lo=(baseOf ds ow bs fr s1).2.lo:=hh.lo
  refine wpIn_mono (ih i hround hrd (by omega) hlo'' hh.fr hrel) λe a'' w'' hq=>?_
  rcases hq with hF|⟨ex,fr2,s20,g2,h1,h2,h3,h4,h50,h60⟩
  .exact hF.elim
  have h5:=AftW.lower (s:=sth) h50 (by have:=hh.lo.trans hp1.lo;have:=hp1.nob;omega)
  rw[<-hsl] at h2
  dsimp only at h2
  obtain ⟨s2,hs2⟩:∃s2:StV S,s2={s20 with lo:=sth.lo}:=⟨_,rfl⟩
  have h6:=h60
  rw[show s20.dr=s2.dr by rw[hs2]] at h6
  rw[<-hs2] at h2 h5
  unfold roundE at h2
  replace h6:FrOk ds frh fr2 s2.dr sth.nob:=h6.mono (λk hk=>by grind) (λ_ h=>h)
  rcases cond_some h2 with ⟨hdl0,h2⟩|⟨_,h2⟩
  rotate_left
  .cases h2
  have hflm:s2.fl=s.fl:=h5.fl.trans (hh.fl.trans hp1.fl)
  have hmk:∀{base:FrV S×StV S} {g2':Gh},sameDf s1.nob base fr2 s2=true->(∀o b,g2.blk o=some b->g2'.blk o=some b)->Marks s1.nob s.fl base fr2 g2' w'':=λ{base g2'} hdl0 hq=>by
   have:=sameDf_marks h5.rel hdl0
   rw[hflm] at this
   exact this.mono h4 hq
  have next:∀{bs':List Nat} {sh':Sh} {y:pden S.A (shPs sh')} {s2' s3:StV S} {g2':Gh} {ow2:List Nat},(∀b∈bs,b∈bs')->(∀b∈bs',b<s1.nob∧b∉ow)->(∃bl',PW (λo b=>gb.blk o=some b) bs' bl')->sameDf s1.nob (baseOf ds ow bs' fr s1) fr2 s2=true->
    AftW sth gh w' s2' g2' w''->(∀o b,g2.blk o=some b->g2'.blk o=some b)->FRel g2' (lowFr fr2) a'' w''->FrOk ds frh fr2 s2'.dr sth.nob->packSt sh' bs' fr2 s2'=some (y,s3,ow2)->
    wrOk s1.nob bs' s3.wr=true->ow2.all (λo=>Nat.ble s1.nob o)=true->s3.dr.all (λo=>Nat.ble s1.nob o)=true->
    ∃gb' vals' al' bl',BaseR sh' bs' (baseOf ds ow bs' fr s1).1 (baseOf ds ow bs' fr s1).2 s g w y a'' gb' w'' vals' al' bl'∧∀b,g2'.imm b->gb'.imm b:=by
   intro bs' sh' y s2' s3 g2' ow2 hsub hbs' hbl' hdl k1 k0 k2 k3 k4 k5 k6 k7
   obtain ⟨blx,hblx⟩:=hbl'
   let ⟨g3,vals',al',bl',hp2⟩:=packSt_sound hE.sg (bl0:=blx) k2 k1.rel ⟨hblx.1,λj o b q1 q2=>k1.ext.blk o b (hh.le.blk o b (hblx.2 j o b q1 q2))⟩ k4
   let ⟨gb',hb1,hb2⟩:=base_next hald hsub hdsl hbs' hs1n (by rw[hp1.nob];exact hlo) (λo ho=>(hp1.owp o ho).2.1) (λo b hb=>⟨by rw[hp1.nob];exact hs.lt hb,λhm=>by rw[hp1.owb o hm] at hb;cases hb⟩) hshok hp1.lo hp1.fl hext hh k1 k2 k3 h3 (hmk hdl k0) hp2 k5 k6 k7
   exact ⟨gb',vals',al',bl',hb1,λb hb=>by rw[hb2];exact hp2.ext.imm b hb⟩
  have hblR:∃bl',PW (λo b=>gb.blk o=some b) (bsR bs lq) bl':=bsR_pw hbase.blr λq hq=>by
   obtain ⟨_,_,b',hb'⟩:=hlqo q hq
   exact ⟨b',hbase.ext.blk _ _ hb'⟩
  have leave:∀{bs':List Nat} {sh':Sh} {y:pden S.A (shPs sh')} {gb':Gh} {vals':List Value} {al':List ASl} {bl':List Nat} {fry:FrV S} {sty:StV S},(∀b∈bs',b<s1.nob∧b∉ow)->shOk ds sh'=true->BaseR sh' bs' (baseOf ds ow bs' fr s1).1 (baseOf ds ow bs' fr s1).2 s g w y a'' gb' w'' vals' al' bl'->headV sh' bs' y (baseOf ds ow bs' fr s1).1 (baseOf ds ow bs' fr s1).2=some (fry,sty)->
    ∃gy,FRel gy (lowFr fry) a'' w''∧(∀b,gb'.imm b->gy.imm b)∧AftW s g w {sty with wr:=s1.ob.keysOf (obMentP (outP ow s1.nob))++(bs'++s1.wr),dr:=ow++s1.dr} gy w''∧FrOk ds fr fry (ow++s1.dr) s.nob∧fry.n=fr.n:=by
   intro bs' sh' y gb' vals' al' bl' fry sty hbs' hsh' k1 k2
   let ⟨gy,k3,k4⟩:=k1.head hb0n k2
   let ⟨k5,k6,k7⟩:=base_out (ex:=[]) (λ_ h=>by cases h) (λb hb=>Nat.lt_of_lt_of_le (hbs' b hb).1 hs1n) hs hdsl hp1 hsh' k4 k3
   exact ⟨gy,k3.fr,k3.le.imm,k5,k6,k7⟩
  cases h1 with
  |nrm=>
   rcases cond_some h2 with ⟨hal2,h2⟩|⟨_,h2⟩
   rotate_left
   .cases h2
   simp[backV] at h2
   split at h2
   .rename_i y s3 ow2 hpk2
    rcases cond_some h2 with ⟨hc,h2⟩|⟨_,h2⟩
    rotate_left
    .cases h2
    simp only[Bool.and_eq_true] at hc
    let ⟨gb',vals',al',bl',k1,_⟩:=next (λ_ h=>h) hbsb ⟨_,hbase.blr⟩ hdl0 h5 (λ_ _ h=>h) h4 h6 hpk2 hc.1 hc.2.1 hc.2.2
    cases h2
    rcases hcase with ⟨y',hy',hit'⟩|⟨rfl,hno⟩
    .cases hy'
     have hIy:Inv a'' w'' m:=⟨alOk_at h4 h5.rel hal2,y,gb',vals',al',bl',hit',k1⟩
     refine ⟨⟨m,hIy⟩,?_⟩
     have:=(hM a'' w'' ⟨m,hIy⟩).2 m hIy
     omega
    grind
   .cases h2
  |ext j=>
   rcases cond_some h2 with ⟨hj,h2⟩|⟨_,h2⟩
   rotate_left
   .cases h2
   simp[backV] at h2
   split at h2
   .rename_i y s3 ow2 hpk2
    rcases cond_some h2 with ⟨hc,h2⟩|⟨_,h2⟩
    rotate_left
    .cases h2
    simp only[Bool.and_eq_true] at hc
    let ⟨gb',vals',al',bl',k1,_⟩:=next (λ_ h=>h) hbsb ⟨_,hbase.blr⟩ hdl0 h5 (λ_ _ h=>h) h4 h6 hpk2 hc.1 hc.2.1 hc.2.2
    cases h2
    rcases hcase with ⟨y',hy',hit'⟩|⟨rfl,hno⟩
    .cases hy'
    .simp only at hout
     split at hout
     .cases hout
     .rename_i fry sty hhy
      let ⟨gy,l1,_,l2,l3,l4⟩:=leave hbsb hshok k1 hhy
      rw[Bool.and_eq_true] at hj
      have hjm:j∈dedupN (exitsC b):=by grind
      let ⟨m1,m2,m3,m4⟩:=putAl_sound (s:=sty) l2.rel halb (alOk_at h4 h5.rel hj.2) l1
      exact .inr ⟨.ext j,putAl sty al fry,_,gy,.ext j,outV_sound hjm hout,m2.trans l4,m1,l2,fix ⟨λk v hk hv=>by rw[m4 k λhm=>hk (hald k hm)];exact l3.tm k v hk hv,by rw[m3];exact l3.df⟩⟩
   .cases h2
  |ret=>
   rcases cond_some h2 with ⟨hdl2,h2⟩|⟨_,h2⟩
   rotate_left
   .cases h2
   split at h2
   .cases h2
   rename_i vs hvs
   split at h2
   rotate_left
   .cases h2
   rename_i r' fz owr hpc
   split at h2
   rotate_left
   .cases h2
   rename_i s2' hfz
   simp[backV] at h2
   split at h2
   .rename_i y s3 ow2 hpk2
    rcases cond_some h2 with ⟨hc,h2⟩|⟨_,h2⟩
    rotate_left
    .cases h2
    simp only[Bool.and_eq_true] at hc
    let ⟨rvals,hat,hpw⟩:=rvVs_at h4 hvs
    let ⟨p1,p2,p3⟩:=packCs_sound hE.sg h5.rel hpc hpw
    let ⟨g3,hs3,he3,hfr3⟩:=freeze_sound fz h5.rel (freezeV_low hE.sg _ hfz) p1
    have howr:owr=[]:=packCs_dat (allDat_rv rv) hpc
    let ⟨alr,hrel,_⟩:=p3 g3 (lowSt s2') fz hs3 he3 hfr3 (λo ho=>ho) (λo ho=>by grind)
    let ⟨f1,f2,f3,f4,f5,f6,f7⟩:=freezeV_st hfz
    have haft:AftW s2 g2 w'' s2' g3 w'':=⟨hs3,he3.toV _,f1,f2,Nat.le_of_eq f3.symm,f4,λo _ ho=>f5 o ho,λo ho=>by grind⟩
    have hf3:FRel g3 (lowFr fr2) a'' w'':=h4.ext he3 h5.rel.imm
    let ⟨gb',vals',al',bl',k1,k2⟩:=next bsR_sub hbsR hblR hdl2 (h5.trans haft) he3.blk hf3 (by grind) hpk2 hc.1 hc.2.1 hc.2.2
    cases h2
    rcases hcase with ⟨y',hy',hit'⟩|⟨rfl,hno⟩
    .cases hy'
    .simp only at hout
     split at hout
     .cases hout
     .rename_i fry sty hhy
      let ⟨gy,l1,l0,l2,l3,l4⟩:=leave hbsR (shOk_R ds sh lq) k1 hhy
      let ⟨m1,m2,m3⟩:=rvPut_sound (g:=gy) (w:=w'') (a:=a'') (fr:=fry) hrel (λb hb=>l0 b (k2 b hb)) hat (by omega) l1
      have hdf:∀(rv:Rv) (r:cden S.A (rvCs rv)) (fr:FrV S),(rvPut rv r fr).df=fr.df:=by
       intro rv
       induction rv with
       |nil=>intro _ _;rfl
       |cons q rv ih=>intro r fr;let ⟨k,t⟩:=q;exact ih _ _
      refine .inr ⟨.ret,_,_,gy,.ret,hout,m2.trans l4,m1,l2,⟨λk v hk hv=>?_,by rw[hdf];exact l3.df⟩⟩
      rw[m3 k (λhm=>hk (List.mem_append_right _ hm))]
      exact (fix l3).tm k v hk hv
   .cases h2
  |pan t v hv=>
   rcases cond_some h2 with ⟨hpn,h2⟩|⟨_,h2⟩
   rotate_left
   .cases h2
   rw[Bool.and_eq_true] at hpn
   obtain ⟨_,hdl2⟩:=hpn
   split at h2
   rotate_left
   .cases h2
   rename_i r' fz owr hpc
   split at h2
   rotate_left
   .cases h2
   rename_i s2' hfz
   simp[backV] at h2
   split at h2
   rotate_left
   .cases h2
   rename_i y s3 ow2 hpk2
   rcases cond_some h2 with ⟨hc,h2⟩|⟨_,h2⟩
   rotate_left
   .cases h2
   simp only[Bool.and_eq_true] at hc
   have hpw:PW (TRel g2 w'') (lows [t]) [v]:=⟨rfl,λj t' v' q1 q2=>by
    grind[lows]⟩
   let ⟨p1,p2,p3⟩:=packCs_sound hE.sg h5.rel hpc hpw
   let ⟨g3,hs3,he3,hfr3⟩:=freeze_sound fz h5.rel (freezeV_low hE.sg _ hfz) p1
   have howr:owr=[]:=packCs_dat (cs:=[.dat S.pt]) rfl hpc
   let ⟨alr,hrel,_⟩:=p3 g3 (lowSt s2') fz hs3 he3 hfr3 (λo ho=>ho) (λo ho=>by grind)
   let ⟨f1,f2,f3,f4,f5,f6,f7⟩:=freezeV_st hfz
   have haft:AftW s2 g2 w'' s2' g3 w'':=⟨hs3,he3.toV _,f1,f2,Nat.le_of_eq f3.symm,f4,λo _ ho=>f5 o ho,λo ho=>by grind⟩
   have hf3:FRel g3 (lowFr fr2) a'' w'':=h4.ext he3 h5.rel.imm
   let ⟨gb',vals',al',bl',k1,k2⟩:=next bsR_sub hbsR hblR hdl2 (h5.trans haft) he3.blk hf3 (by grind) hpk2 hc.1 hc.2.1 hc.2.2
   cases h2
   rcases hcase with ⟨y',hy',hit'⟩|⟨rfl,hno⟩
   .cases hy'
   .rcases cond_some hout with ⟨_,hout⟩|⟨_,hout⟩
    rotate_left
    .cases hout
    split at hout
    .cases hout
    .rename_i fry sty hhy
     let ⟨gy,l1,l0,l2,l3,l4⟩:=leave hbsR (shOk_R ds sh lq) k1 hhy
     refine .inr ⟨.pan (.ty S.pt r'.1),fry,_,gy,.pan _ v ?_,hout,l4,l1,l2,fix l3⟩
     cases hrel with
     | @dat _ _ x h v vs al hd hr=>
      exact trel_lowTy (hd.le λb hb=>l0 b (k2 b hb))
 |exit j=>
  intro i ω Q r fr s h hrd hn hlo g a w hf hs
  exact wpIn_exit (.inr ⟨_,fr,s,g,.ext j,h,rfl,hf,AftW.refl hs,FrOk.refl _ _ _ _⟩)
 |ret=>
  intro i ω Q r fr s h hrd hn hlo g a w hf hs
  exact wpIn_ret (.inr ⟨_,fr,s,g,.ret,h,rfl,hf,AftW.refl hs,FrOk.refl _ _ _ _⟩)
 |skip=>
  intro i ω Q r fr s h hrd hn hlo g a w hf hs
  exact wpIn_skip (.inr ⟨_,fr,s,g,.nrm,h,rfl,hf,AftW.refl hs,FrOk.refl _ _ _ _⟩)
 |label j=>
  intro i ω Q r fr s h hrd hn hlo g a w hf hs
  exact wpIn_label (.inr ⟨_,fr,s,g,.nrm,h,rfl,hf,AftW.refl hs,FrOk.refl _ _ _ _⟩)
 |scope b ih=>
  intro i ω Q r fr s h hrd hn hlo g a w hf hs
  have hr0:rr=none:=by
   grind[rdB]
  subst hr0
  refine wpIn_wide.2 (wp_scope_straight (wp_mono (wpIn_wide.1 (ih i h (λh=>absurd rfl h) hn hlo hf hs)) λe a' w' hq=>?_))
  rcases hq with hF|⟨ex,fr',s',g',h1,h2⟩
  .exact hF.elim
  .cases h1 with
   |nrm=>exact .inr ⟨_,fr',s',g',.nrm,h2⟩
   |ext j=>exact .inr ⟨_,fr',s',g',.ext j,h2⟩
   |ret=>exact .inr ⟨_,fr',s',g',.ret,h2⟩
   |pan t v hv=>exact .inr ⟨_,fr',s',g',.pan t v hv,h2⟩
 |rangeFunc gv ps asg body _ _=>
  grind[rdB,range_sound]
 |_=>intro i ω Q r fr s h;simp[evC] at h
end TL
end
section
namespace TL
open Go
variable {S:Sg}
theorem mentPT_none:∀t:T,mentPT (λ_=>false) t=false:=by
 intro t
 induction t using T.rec (motive_2:=λl=>mentPTs (λ_=>false) l=false) with
 |fn f a b iha ihb=>simp[mentPT,iha,ihb]
 |ifc t v ih=>simp[mentPT,ih]
 |agg cs ih=>simp[mentPT,ih]
 |tup cs ih=>simp[mentPT,ih]
 |gd c v ih=>simp[mentPT,ih]
 |nil=>rfl
 |cons a l iha ihl=>simp[mentPTs,iha,ihl]
 |_=>simp[mentPT]
theorem resultsV_low (hS:SgOk S) {E:EnvT} (hE:TyOk S E) {s:StV S} {fr:FrV S}:∀{l:List ResultVar} {vs:List (V S)},resultsV E s fr l=some vs->∃p,resultsT E.E (lowSt s) (lowFr fr) l=some (p,lows vs)∧p
 |[],vs,h=>by
  simp only[resultsV,Option.some.injEq] at h
  subst h
  exact ⟨True,rfl,trivial⟩
 | .tmp t ::l,vs,h=>by
  simp[resultsV] at h
  split at h
  .rename_i x r h1 h2
   simp at h
   let ⟨p,e,hp⟩:=resultsV_low hS hE h2
   exact ⟨p,by grind[resultsT,lowFr_get,lows],hp⟩
  .cases h
 | .cell a t ::l,vs,h=>by
  simp[resultsV] at h
  split at h
  .rename_i i x hi hx
   split at h
   .rename_i c y s' r hy h2
    rcases cond_some h with ⟨hc,h⟩|⟨_,h⟩
    .simp at h
     obtain ⟨rfl,q,e1,hq⟩:=loadV_low hS (λu hu=>hE.row _ _ _ hi hu) hy hc
     let ⟨p,e,hp⟩:=resultsV_low hS hE h2
     exact ⟨q∧p,by grind[resultsT,lowFr_get,lows],hq,hp⟩
    .cases h
   .cases h
  .cases h
theorem low_tupV:∀l:List (V S),low (tupV l)=tupT (lows l)
 |[]=>rfl
 |[_]=>rfl
 |_ ::_ ::_=>rfl
theorem AftW.toV {s s':StV S} {g g':Gh} {w w':World} (hs:SRel g (lowSt s) w) (h:AftW {s with lo:=s.nob} g w s' g' w'):AftV [] s g w {s' with lo:=s.lo} g' w':=by
 have hk:Keeps g.imm w w':=λb hb=>h.ext.heap b (hs.imm b hb) (λo _ hO=>hO.1 hb)
 refine ⟨⟨h.rel.nob,h.rel.bnd,h.rel.box,h.rel.arr,h.rel.imm,h.rel.uni,h.rel.glo⟩,⟨λo b e=>h.ext.blk o b e,λo e x _ k=>h.ext.arr o e x (hs.lt' k) k,h.ext.imm,h.ext.size,h.ext.heap,h.ext.own,h.ext.immn,h.ext.os,h.ext.output⟩,h.fl,rfl,h.nob,h.wrm,h.same,λt v ht _=>?_,λo ho=>(by cases ho),h.drm,λo ho=>(by cases ho)⟩
 exact ht.on (p:=λ_=>false) ⟨λo b _ e=>h.ext.blk o b e,λo e x _ k=>h.ext.arr o e x (hs.lt' k) k,h.ext.imm⟩ hk (mentPT_none t)
theorem results_sound {E:EnvV S} (hE:EnvVOk E) {g:Gh} {w:World} {fr:FrV S} {s:StV S} {a:Act} (hf:FRel g (lowFr fr) a w) (hs:SRel g (lowSt s) w) {fn:Func} {l:List (V S)} (h:resultsV E.T s fr fn.results.toList=some l) :
  ∃v,(results fn a.tmps).run E.T.E.P w=.ok v w∧TRel g w (low (tupV l)) v:=by
 let ⟨p,e,hp⟩:=resultsV_low hE.sg hE.ty h
 let ⟨v,hv,ht⟩:=run_results hE.tab hf hs e hp
 grind[low_tupV]
theorem AftV.trans {s s' s'':StV S} {g g' g'':Gh} {w w' w'':World} (h:AftV [] s g w s' g' w') (k:AftV [] s' g' w' s'' g'' w''):AftV [] s g w s'' g'' w'' where
 rel:=k.rel
 ext:=h.ext.trans (h.fl▸h.lo▸k.ext)
 fl:=k.fl.trans h.fl
 lo:=k.lo.trans h.lo
 nob:=Nat.le_trans h.nob k.nob
 wrm:=λo ho=>k.wrm o (h.wrm o ho)
 same:=λo hl ho=>(k.same o (Nat.lt_of_lt_of_le hl h.nob) ho).trans (h.same o hl λhm=>ho (k.wrm o hm))
 tr:=λt v ht hm=>k.tr t v (h.tr t v ht hm) hm
 oww:=λo ho=>by cases ho
 drm:=λo ho=>k.drm o (h.drm o ho)
 owd:=λo ho=>by cases ho
def UR (g:Gh) (w:World):Option (V S)->FrameMode->Prop
 |none,u=>u=.returning
 |some t,u=>∃v,u=.panicking [{v,recovered:=false}]∧TRel g w (low t) v
structure RecAt (g:Gh) (s:StV S) (w:World) (pv:Option (V S)) (st:Bool->List Frame) (vp:Value):Prop where
 rel:∀g' s' w',AftW s g w s' g' w'->TRel g' w' (low (recV pv)) vp
 rcv:(pv=none∧recoverD (st false)=none∧vp=.nilIface)∨(pv.isSome=true∧recoverD (st false)=some (vp,st true))
def QRV (s:StV S) (g:Gh) (w:World) (m:Nat) (st:Bool->List Frame) {ω:Type} (Q:Bool->ExV S->FrV S->StV S->Option ω) (r:ω) (e:Exit) (a:Act) (cs:List Frame) (w':World):Prop:=
 False∨∃rec ex fr' s' g',cs=st rec∧ExMV g' w' ex e∧Q rec ex fr' s'=some r∧fr'.n=m∧FRel g' (lowFr fr') a w'∧AftW s g w s' g' w'
theorem isRec_op {o:Oper} (h:isRec o=true):o.guard=none∧∃c,o.op=.call c∧c.callee=.builtin .recover:=by
 grind[isRec]
theorem wpS_of_evC {E:EnvV S} (hE:EnvVOk E) {call:CallV S} (hcall:CallOkV E.T.E.P call) (hdraw:DrawOk E call) (n:Nat) (fid:FuncId) (rv:Rv) {s0:StV S} {g0:Gh} {w0:World} (hlo:s0.lo<=s0.nob) {m:Nat} (hm:m<=bigN) {st:Bool->List Frame} (rec:Bool)
  (c:Code) (i:Nat) {ω:Type} {Q:Bool->ExV S->FrV S->StV S->Option ω} {r:ω} {fr:FrV S} {s:StV S} (h:evC E call n fid rv c i (Q rec) fr s=some r) (hn:fr.n=m) {g:Gh} {a:Act} {w:World} (hs:AftW s0 g0 w0 s g w) (hf:FRel g (lowFr fr) a w) :
  c.wpS E.T.E.P (QRV s0 g0 w0 m st Q r) a (st rec) w:=by
 refine wpS_of_wp (wp_mono (wpIn_wide.1 (evC_sound (rr:=none) hE hcall hdraw n fid rv c i h (λh=>absurd rfl h) (by omega) ?_ hf hs.rel)) λe a' w' hq=>?_)
 .have:=hs.nob
  rw[hs.lo]
  omega
 rcases hq with hF|⟨ex,fr',s',g',h1,h2,h3,h4,h5,h6⟩
 .exact hF.elim
 .exact .inr ⟨rec,ex,fr',s',g',rfl,h1,h2,h3.trans hn,h4,hs.trans h5⟩
theorem evR_sound {E:EnvV S} (hE:EnvVOk E) {call:CallV S} (hcall:CallOkV E.T.E.P call) (hdraw:DrawOk E call) (n:Nat) (pv:Option (V S)) (fid:FuncId) (rv:Rv) {s0:StV S} {g0:Gh} {w0:World} (hlo:s0.lo<=s0.nob) {m:Nat} (hm:m<=bigN) {st:Bool->List Frame} {vp:Value}
  (hrec:RecAt g0 s0 w0 pv st vp):∀(c:Code) (i:Nat) {ω:Type} {Q:Bool->ExV S->FrV S->StV S->Option ω} {r:ω} {fr:FrV S} {s:StV S},evR E call n pv fid rv c i Q fr s=some r->fr.n=m->
  ∀{g:Gh} {a:Act} {w:World},AftW s0 g0 w0 s g w->FRel g (lowFr fr) a w->c.wpS E.T.E.P (QRV s0 g0 w0 m st Q r) a (st false) w:=by
 intro c
 induction c with
 |seq x y ihx ihy=>
  intro i ω Q r fr s h hn g a w hs hf
  refine wpS_seq λb k hb hr=>?_
  let ⟨e,a',cs',w',hq,harr⟩:=ihx i h hn hs hf b k hb hr
  refine ⟨e,a',cs',w',?_,harr⟩
  rcases hq with hF|⟨rec,ex,fr',s',g',h0,h1,h2,h3,h4,h5⟩
  .exact hF.elim
  .cases h1 with
   |nrm=>
    subst h0
    exact wpS_of_evC hE hcall hdraw n fid rv hlo hm rec y i h2 h3 h5 h4
   |ext j=>exact .inr ⟨rec,_,fr',s',g',h0,.ext j,h2,h3,h4,h5⟩
   |ret=>exact .inr ⟨rec,_,fr',s',g',h0,.ret,h2,h3,h4,h5⟩
   |pan t v hv=>exact .inr ⟨rec,_,fr',s',g',h0,.pan t v hv,h2,h3,h4,h5⟩
 |region id ops draw=>
  intro i ω Q r fr s h hn g a w hs hf
  cases draw with
  |true=>exact wpS_of_evC hE hcall hdraw n fid rv hlo hm false _ i h hn hs hf
  |false=>
   simp[evR] at h
   split at h
   rotate_left
   .cases h
   rename_i o l hol
   rcases cond_some h with ⟨hr,h2⟩|⟨_,h2⟩
   rotate_left
   .exact wpS_of_evC hE hcall hdraw n fid rv hlo hm false _ i h2 hn hs hf
   rcases cond_some h2 with ⟨hd,h3⟩|⟨_,h3⟩
   rotate_left
   .cases h3
   let ⟨hg,c,hop,hcal⟩:=isRec_op hr
   rw[<-hol] at h3
   have ho:ops[0]?=some o:=by
    have:=congrArg (λl=>l[0]?) hol
    simpa using this
   have hsz:ops.size=l.length+1:=by
    have:=congrArg List.length hol
    simpa using this
   have hw:Region.wanted o (yielded ops a.tmps)=true:=by simp[Region.wanted,hg]
   have hrun:(execOp a.eval o).run E.T.E.P w=.ok .recover w:=by
    simp[execOp,hop,resolve,hcal,invoke]
    simp[builtin]
   have hrel:=hrec.rel _ _ _ hs
   let ⟨k1,k2⟩:=putO_sound hf hd (by omega) hrel
   have key:∃rec,rec=pv.isSome∧recoverD (st false)=(if rec then some (vp,st true) else none)∧(rec=false->vp=.nilIface):=by
    rcases hrec.rcv with ⟨e1,e2,e3⟩|⟨e1,e2⟩
    .exact ⟨false,by rw[e1];rfl,by simpa using e2,λ_=>e3⟩
    .exact ⟨true,e1.symm,by simpa using e2,λh=>by cases h⟩
   let ⟨rec,hreq,hrd,hnil⟩:=key
   rw[<-hreq] at h3
   have hwp:OpsR none E.T.E.P ops (λe a' w'=>QRV s0 g0 w0 m st Q r e a' (st rec) w') (List.range' 1 l.length) (a.put o.dst vp) w:=by
    refine evOps_sound hE hcall (rr:=none) (λh=>absurd rfl h) l 1 (by rw[hol];rfl) (by rw[k2];omega) h3 k1 hs.rel (λfr' s' g' a' w' q1 q2 q3 q4 _=>.inr ⟨rec,.nrm,fr',s',g',rfl,.nrm,q1,by omega,q3,hs.trans q4⟩)
     (λfr' t s' g' a' v w' q1 q2 q3 q4 _ q5=>.inr ⟨rec,.pan t,fr',s',g',rfl,.pan t v q5,q1,by omega,q3,hs.trans q4⟩)
   intro b k hb hro
   have hrange:List.range ops.size=0 ::List.range' 1 l.length:=by
    rw[List.range_eq_range',hsz,List.range'_succ]
   have hgo:=stepG_op (P:=E.T.E.P) (b:=b) (k:=k) (cs:=st false) (w:=w) (rest:=List.range' 1 l.length) ho hw
   have hfin:∀v,(b.at a (.inRegion ops (0 ::List.range' 1 l.length) ::k)).finish v=b.at (a.put o.dst v) (.inRegion ops (List.range' 1 l.length) ::k):=by
    intro v;rw[Frame.finish_at,ho];rfl
   have hk:(b.at a (.inRegion ops (0 ::List.range' 1 l.length) ::k)).kind=.deferred:=hb
   have htr:=tryRecover_deferred hk (st false)
   let ⟨e,a',w',hq,harr0⟩:=opsR_sound _ _ _ hwp b k (st rec) hro
   have harr:=(arrivesIn_iff (λ_ _=>stepsIn_wide) hro).1 harr0
   rw[Frame.atR_of_none hro] at harr
   refine ⟨e,a',st rec,w',hq,.of_steps (.one step_region) ?_⟩
   rw[hrange]
   refine .of_steps (.one (step_lone_go ?_)) harr
   rw[hgo,<-hfin]
   simp[Frame.at] at htr ⊢
   rw[hrd] at htr
   cases rec with
   |true=>simp[stepG.apply,hrun,htr]
   |false=>
    have:=hnil rfl
    subst this
    simp[stepG.apply,hrun,htr]
 |_=>
  intro i ω Q r fr s h hn g a w hs hf
  exact wpS_of_evC hE hcall hdraw n fid rv hlo hm false _ i h hn hs hf
def vpOf:FrameMode->Value
 | .panicking (p ::_)=>p.v
 |_=>.nilIface
def u1Of:FrameMode->FrameMode
 | .panicking (p ::_)=>.panicking [{v:=p.v,recovered:=true}]
 |m=>m
theorem evDfc_sound {E:EnvV S} (hE:EnvVOk E) {call:CallV S} (hcall:CallOkV E.T.E.P call) (hdraw:DrawOk E call) (n:Nat) {pv:Option (V S)} {d:DfV S} {s:StV S} {ω:Type} {k:Bool->StV S->Option ω} {r:ω} (h:evDfc E call n pv d s k=some r)
  {g:Gh} {w:World} (hs:SRel g (lowSt s) w) {e:Deferred} (hd:DfRel g w (lowDf d) e) {u:FrameMode} (hu:UR g w pv u) :
  u≠.run∧((∃b w',e.target=.collected b∧(Instr.takeDeferred b).run E.T.E.P w=.ok [] w'∧∃s',k false s'=some r∧UR g w' pv u∧AftV [] s g w s' g w')∨∃fv cap f args,e.target=.fn fv cap∧(invoke e.target e.args).run E.T.E.P w=.ok (.enter f args) w∧CallsD E.T.E.P f args u w λ
   | .returned _,u',w'=>∃rec s' g',k rec s'=some r∧UR g' w' (bif rec then none else pv) (settle u')∧AftV [] s g w s' g' w'
   | .panicked _,_,_=>False
   | .outgrown,_,_=>False):=by
 have hrun:u≠.run:=by
  cases pv with
  |none=>rw[show u=.returning from hu];simp
  |some t=>obtain ⟨v,rfl,_⟩:=hu;simp
 refine ⟨hrun,?_⟩
 unfold evDfc at h
 split at h
 rotate_left
 .rename_i o
  left
  cases hd with
  |mark _ b hb=>
  split at h
  rotate_left
  .cases h
  rename_i ho
  rcases cond_some h with ⟨hfl,h2⟩|⟨_,h2⟩
  rotate_left
  .cases h2
  rw[Bool.and_eq_true] at hfl
  have ho':(lowSt s).ob.get o=some .dfr:=by rw[lowSt_get,ho];rfl
  let ⟨x,hx,hr⟩:=(hs.box o b hb).2.2 _ ho'
  cases hr with
  |dfr=>
  let ⟨h3,he⟩:=hs.wipe (w':=w.putObj b (.deferred none)) hb ho' rfl (Nat.le_of_ble_eq_true hfl.1) World.putObj_size (λb' hb'=>World.putObj_heap_other hb') rfl rfl
  have hlt:o<bigN:=Nat.le_of_ble_eq_true hfl.2
  have hlt':o+1<2 ^ fuelTr:=by grind[fuelTr,bigN]
  have haft:AftV [] s g w {s with ob:=s.ob.del fuelTr o,wr:=o ::s.wr} g (w.putObj b (.deferred none)):=by
   refine AftV.ofExt hs (h3.getEq rfl λk=>?_) he rfl rfl (Nat.le_refl _) ⟨λ_ h=>List.mem_cons_of_mem _ h,λk _ hk=>?_,rfl⟩
   .show (Tr.map lowOb (s.ob.del fuelTr o)).get k=((lowSt s).ob.del fuelTr o).get k
    rw[Tr.get_map,Tr.get_del _ _ _ _ hlt',Tr.get_del _ _ _ _ hlt',lowSt_get]
    split<;>rfl
   simp_all[Tr.get_del]
  refine ⟨b,_,rfl,run_takeDeferred hx,_,h2,?_,haft⟩
  cases pv with
  |none=>exact hu
  |some t=>
   let ⟨v,hu,ht⟩:=hu
   exact ⟨v,hu,haft.tr _ _ ht (mentT_nil _)⟩
 .cases hd
 .cases h
 rename_i fv args
 right
 split at h
 .cases h
 rename_i f args' hcal
 split at h
 .cases h
 rename_i fn hfn
 split at h
 .cases h
 rename_i c hc
 rcases cond_some h with ⟨hb,h2⟩|⟨_,h2⟩
 rotate_left
 .cases h2
 clear h
 rw[Bool.and_eq_true_iff] at hb
 have hcal':=calleeV_low hcal
 unfold calleeT at hcal'
 split at hcal'
 rotate_left
 .cases hcal'
 rename_i f' first cap hlow
 simp only[Option.some.injEq,Prod.mk.injEq] at hcal'
 obtain ⟨rfl,hargs2⟩:=hcal'
 cases hd with
 |call _ _ fvn xa xc vargs h3 h4 h5=>
 rw[hlow] at h3
 cases h3 with
 |fn _ _ _ _ _ l1 l2 r1 r2=>
 have hfs:=hE.tab.fnc _ _ hfn
 have hent:Enters E.T.E.P f':=⟨fn,hfs,by rw[hc];rfl,hE.name _ _ hfn⟩
 refine ⟨_,_,f',xa++vargs++xc,rfl,?_,?_⟩
 .grind[invoke,run_enter]
 have hpw:PW (TRel g w) (lows args') (xa++vargs++xc).toList:=by
  rw[<-hargs2]
  simp only[Array.toList_append]
  exact PW.append (PW.append ⟨by simpa using l1,λj x y h1 h2=>r1 j x y h1 (by simpa using h2)⟩ ⟨by simpa using h4,λj x y h1 h2=>h5 j x y h1 (by simpa using h2)⟩) ⟨by simpa using l2,λj x y h1 h2=>r2 j x y h1 (by simpa using h2)⟩
 have hb1:args'.length<=fn.ntmps:=by
  have:=Nat.le_of_ble_eq_true hb.1
  rwa [lenL_eq] at this
 have hb2:fn.ntmps<bigN:=Nat.le_of_ble_eq_true hb.2
 have hf0:=init_frel (n:=fn.ntmps) hb2 hb1 hpw
 have hs0:SRel g (lowSt {s with lo:=s.nob}) w:=⟨hs.nob,hs.bnd,hs.box,hs.arr,hs.imm,hs.uni,hs.glo⟩
 refine callsD_of_wpS hfs hc λc₀ cs hcu=>?_
 let st:Bool->List Frame:=λrec=>(if rec then {c₀ with mode:=u1Of u} else {c₀ with mode:=u}) ::cs
 have hst0:st false=c₀ ::cs:=by
  show {c₀ with mode:=u} ::cs=c₀ ::cs
  rw[<-hcu]
 have hrec:RecAt g {s with lo:=s.nob} w pv st (vpOf u):=by
  cases pv with
  |none=>
   have hu:u=.returning:=hu
   refine ⟨λg' s' w' _=>?_,.inl ⟨rfl,?_,?_⟩⟩
   .simp[vpOf,hu]
    exact .sym _ _ (.lit _)
   .grind[recoverD]
   .simp[vpOf,hu]
  |some t=>
   let ⟨v,hu,ht⟩:=hu
   refine ⟨λg' s' w' haft=>?_,.inr ⟨rfl,?_⟩⟩
   .simp[vpOf,hu]
    exact (AftW.toV hs haft).tr _ _ ht (mentT_nil _)
   grind[recoverD,vpOf,u1Of]
 have hw:=evR_sound hE hcall hdraw n pv f' _ (s0:={s with lo:=s.nob}) (g0:=g) (w0:=w) (Nat.le_refl _) (m:=fn.ntmps) (Nat.le_of_lt hb2) (st:=st) hrec c 0 h2 rfl (AftW.refl hs0) hf0
 rw[hst0] at hw
 intro b kk hb' hro
 let ⟨e,a',cs',w',hq,harr⟩:=hw b kk hb' hro
 refine ⟨e,a',cs',w',?_,harr⟩
 rcases hq with hF|⟨rec,ex,fr',s',g',k0,k1,k2,k3,k4,k5⟩
 .exact hF.elim
 have haft:=AftW.toV hs k5
 dsimp only at k2
 split at k2
 rotate_left
 .cases k2
 rename_i hdf
 have hdf':a'.defers=[]:=by
  have:=k4.df
  rw[show (lowFr fr').df=[] from by simp[lowFr,hdf,List.map_nil]] at this
  generalize a'.defers=m at this
  cases this
  rfl
 have hset:∃u',cs'={c₀ with mode:=u'} ::cs∧UR g' w' (bif rec then none else pv) (settle u'):=by
  cases rec with
  |false=>
   refine ⟨u,k0,?_⟩
   cases pv with
   |none=>
    rw[hu]
    rfl
   |some t=>
    let ⟨v,hu,ht⟩:=hu
    rw[hu]
    exact ⟨v,rfl,haft.tr _ _ ht (mentT_nil _)⟩
  |true=>
   refine ⟨u1Of u,k0,?_⟩
   cases pv with
   |none=>
    rw[hu]
    rfl
   |some t=>
    let ⟨v,hu,ht⟩:=hu
    rw[hu]
    rfl
 let ⟨u',hcs,hur⟩:=hset
 have fin:(match resultsV E.T s' fr' fn.results.toList with|some _=>k rec {s' with lo:=s.lo}|none=>none)=some r->∃v,(results fn a'.tmps).run E.T.E.P w'=.ok v w'∧
   ∃rec s' g',k rec s'=some r∧UR g' w' (bif rec then none else pv) (settle u')∧AftV [] s g w s' g' w':=by
  intro k2
  split at k2
  rotate_left
  .cases k2
  rename_i l hr
  let ⟨v,hv,_⟩:=results_sound hE k4 k5.rel hr
  grind
 cases k1 with
 |nrm=>
  let ⟨v,hv,h⟩:=fin k2
  exact ⟨hdf',u',hcs,v,hv,h⟩
 |ret=>
  let ⟨v,hv,h⟩:=fin k2
  exact ⟨hdf',u',hcs,v,hv,h⟩
 |ext j=>cases k2
 |pan t v hv=>cases k2
theorem marks_leave {P:Program} {fn:Func} {tmps:Array Value} {R:Ending->World->Prop} {ds:List Deferred} {u:FrameMode} (hu:u≠.run) {s:StV S} {g:Gh} {o:Nat} (hfl:s.fl<=o) (hno:s.ob.get o=none) :
  ∀(bs:List Nat) (w:World),SRel g (lowSt s) w->bs.Nodup->(∀b∈bs,Owned g o b∧w.heap[b]?=some (.deferred (some [])))->(∀w',AftV [] s g w s g w'->LeavesM P fn tmps R ds u w')->
   LeavesM P fn tmps R (bs.map (λb=>{target:=.collected b,args:=#[]})++ds) u w
 |[],w,hs,_,_,hk=>hk w (AftV.refl hs)
 |b ::bs,w,hs,hn,hb,hk=>by
  let ⟨hO,hx⟩:=hb b List.mem_cons_self
  have hs1:SRel g (lowSt s) (w.putObj b (.deferred none)):=by
   have:=hs.step (I:=g.imm) (X:=λc=>c=b) (w':=w.putObj b (.deferred none)) (λ_ h=>h) (λ_ h=>.inl h) (λc hc=>by rw[World.putObj_size];exact hs.imm c hc) (by simp_all)
    (λc _ hc=>World.putObj_heap_other hc) (λo' c hc hO'=>by
     subst hc
     have:=hs.uni o' o c hO' hO
     subst this
     exact ⟨by rw[lowSt_get,hno];rfl,hO.1⟩) (λc hc=>by subst hc;exact hO.1)
   exact this
  have he:Ext s.fl g w g (w.putObj b (.deferred none)):=
   ⟨λ_ _ h=>h,λ_ _ _ h=>h,λ_ h=>h,by simp_all,λc _ hn=>World.putObj_heap_other (λe=>hn o hfl (e▸hO)),λ_ _ h=>.inl h,λ_ h=>.inl h,rfl,rfl⟩
  have haft:AftV [] s g w s g (w.putObj b (.deferred none)):=AftV.ofExt hs hs1 he rfl rfl (Nat.le_refl _) ⟨λ_ h=>h,λ_ _ _=>rfl,rfl⟩
  refine ⟨hu,.inl ⟨b,_,rfl,run_takeDeferred hx,marks_leave hu hfl hno bs _ hs1 (List.nodup_cons.1 hn).2 (λc hc=>⟨(hb c (List.mem_cons_of_mem _ hc)).1,?_⟩) λw' h=>hk w' (haft.trans h)⟩⟩
  grind[World.putObj_heap_other]
theorem evDfs_sound {E:EnvV S} (hE:EnvVOk E) {call:CallV S} (hcall:CallOkV E.T.E.P call) (hdraw:DrawOk E call) (n:Nat) {fn:Func} {tmps:Array Value} {R:Ending->World->Prop} {ω:Type} {k:Option (V S)->StV S->Option ω} {r:ω} {s0:StV S} {g0:Gh} {w0:World}
  (hk:∀pv s' g' w' u,k pv s'=some r->UR g' w' pv u->AftV [] s0 g0 w0 s' g' w'->LeavesM E.T.E.P fn tmps R [] u w'):∀(l:List (DfV S)) (pv:Option (V S)) (s:StV S),evDfs E call n l pv s k=some r->
  ∀(g:Gh) (w:World) (ds:List Deferred) (u:FrameMode),DfRels g w (l.map lowDf) ds->UR g w pv u->AftV [] s0 g0 w0 s g w->LeavesM E.T.E.P fn tmps R ds u w:=by
 intro l
 induction l with
 |nil=>
  intro pv s h g w ds u hd hu haft
  cases hd
  exact hk pv s g w u h hu haft
 |cons d l ih=>
  intro pv s h g w ds u hd hu haft
  simp at hd
  generalize hx:lowDf d=x at hd
  cases hd with
  |bads xs ht=>
   cases d with
   |bads=>cases h
   |_=>cases hx
  |marks o bs hn hbs ht=>
   cases d with
   |marks o'=>
    cases hx
    simp only[evDfs,evDfc] at h
    split at h
    rotate_left
    .cases h
    rename_i ho
    rcases cond_some h with ⟨hfl,h2⟩|⟨_,h2⟩
    rotate_left
    .cases h2
    rw[Bool.and_eq_true] at hfl
    have hlt:o<bigN:=Nat.le_of_ble_eq_true hfl.2
    have hlt':o+1<2 ^ fuelTr:=by grind[fuelTr,bigN]
    have hs:=haft.rel
    have ho':(lowSt s).ob.get o=some .mks:=by rw[lowSt_get,ho];rfl
    have hown:∀b∈bs,Owned g o b∧w.heap[b]?=some (.deferred (some [])):=λb hb=>by
     let ⟨n,c,hr⟩:=hbs b hb
     cases hr with
     |sh _ _ _ _ sz _ hx=>
     rcases (hs.arr o b _ hx).2 _ ho' with ⟨fz,_,_,h,_⟩|⟨_,_,_,_,_,_,h,_⟩|⟨_,_,_,h,_⟩|h|⟨_,h1,h2,h3,h4⟩|⟨_,_,h,_⟩
     .cases fz<;>cases h
     .cases h
     .cases h
     .cases h
     .exact ⟨⟨h3,.inr ⟨b,_,_,hx,h1,rfl,h2⟩⟩,h4⟩
     .cases h
    have hgD:∀k,(s.ob.del fuelTr o).get k=if k=o then none else s.ob.get k:=λk=>Tr.get_del _ _ _ _ hlt'
    have hsD:SRel g (lowSt {s with ob:=s.ob.del fuelTr o,wr:=o ::s.wr}) w:=by
     have hsub:∀k ob,(lowSt {s with ob:=s.ob.del fuelTr o,wr:=o ::s.wr}).ob.get k=some ob->(lowSt s).ob.get k=some ob:=by
      grind[lowSt_get]
     refine ⟨hs.nob,hs.bnd,λk b h=>?_,λk e x h=>?_,hs.imm,hs.uni,hs.glo⟩
     .let ⟨k1,k2,k3⟩:=hs.box k b h
      exact ⟨k1,k2,λob hob=>k3 ob (hsub k ob hob)⟩
     .let ⟨k1,k2⟩:=hs.arr k e x h
      exact ⟨k1,λob hob=>k2 ob (hsub k ob hob)⟩
    have haD:AftV [] s g w {s with ob:=s.ob.del fuelTr o,wr:=o ::s.wr} g w:=
     AftV.ofExt hs hsD (Ext.refl _ _ _) rfl rfl (Nat.le_refl _) ⟨λ_ h=>List.mem_cons_of_mem _ h,λk _ hk=>(hgD k).trans (if_neg λe=>hk (by simp_all)),rfl⟩
    have hrun:u≠.run:=by
     cases pv with
     |none=>rw[show u=.returning from hu];simp
     |some t=>obtain ⟨v,rfl,_⟩:=hu;simp
    refine marks_leave hrun (s:={s with ob:=s.ob.del fuelTr o,wr:=o ::s.wr}) (g:=g) (o:=o) (Nat.le_of_ble_eq_true hfl.1) ((hgD o).trans (if_pos rfl)) bs w hsD hn hown λw' k3=>?_
    have k4:=haD.trans k3
    refine ih _ _ h2 g w' _ u (ht.imp (λt v ht=>k4.tr t v ht (mentT_nil _)) λo b hb=>k4.ext.blk o b hb) ?_ (haft.trans k4)
    cases pv with
    |none=>exact hu
    |some t=>
     let ⟨v,hu,ht⟩:=hu
     exact ⟨v,hu,k4.tr _ _ ht (mentT_nil _)⟩
   |_=>cases hx
  | @cons _ e _ ds hd ht=>
  subst hx
  let ⟨h1,h⟩:=evDfc_sound hE hcall hdraw n h haft.rel hd hu
  rcases h with ⟨b,w',h2,h3,s',k1,k2,k3⟩|⟨fv,cap,f,args,h2,h3,h4⟩
  .exact ⟨h1,.inl ⟨b,w',h2,h3,ih _ s' k1 g w' ds u (ht.imp (λt v ht=>k3.tr t v ht (mentT_nil _)) λo b hb=>k3.ext.blk o b hb) k2 (haft.trans k3)⟩⟩
  refine ⟨h1,.inr ⟨fv,cap,f,args,h2,h3,h4.mono λe u' w' he=>?_⟩⟩
  cases e with
  |returned v=>
   let ⟨rec,s',g',k1,k2,k3⟩:=he
   refine ih _ s' k1 g' w' ds (settle u') (ht.imp (λt v ht=>k3.tr t v ht (mentT_nil _)) λo b hb=>k3.ext.blk o b hb) k2 (haft.trans k3)
  |panicked ch=>exact he.elim
  |outgrown=>exact he.elim
theorem evEnd_sound {E:EnvV S} (hE:EnvVOk E) {call:CallV S} (hcall:CallOkV E.T.E.P call) (hdraw:DrawOk E call) (n:Nat) {fn:Func} {R:Ending->World->Prop} {ω:Type} {k kp:V S->StV S->Option ω} {r:ω} {ex:ExV S} {fr:FrV S} {s:StV S}
  (h:evEnd E call n fn.results.toList k kp ex fr s=some r) {g:Gh} {w:World} {e:Exit} {a:Act} (hx:ExMV g w ex e) (hf:FRel g (lowFr fr) a w) (hs:SRel g (lowSt s) w)
  (hk:∀t s' g' v w',k t s'=some r->TRel g' w' (low t) v->AftV [] s g w s' g' w'->R (.returned v) w')
  (hkp:∀t s' g' v w',kp t s'=some r->TRel g' w' (low t) v->AftV [] s g w s' g' w'->R (.panicked [{v,recovered:=false}]) w'):bodyM E.T.E.P fn R e a w:=by
 have fin:∀(pv:Option (V S)) (u:FrameMode),evDfs E call n fr.df pv s (evFin E.T fn.results.toList fr k kp)=some r->UR g w pv u->LeavesM E.T.E.P fn a.tmps R a.defers u w:=by
  intro pv u h hu
  refine evDfs_sound hE hcall hdraw n (s0:=s) (g0:=g) (w0:=w) (λpv s' g' w' u h hu haft=>?_) fr.df pv s h g w a.defers u hf.df hu (AftV.refl hs)
  have hf':FRel g' (lowFr fr) a w':=forgetF_sound (ow:=[]) hf haft
  cases pv with
  |none=>
   subst hu
   simp[evFin] at h
   split at h
   rotate_left
   .cases h
   rename_i l hl
   let ⟨v,hv,ht⟩:=results_sound hE hf' haft.rel hl
   exact ⟨v,hv,hk _ _ g' v w' h ht haft⟩
  |some t=>
   let ⟨v,hu,ht⟩:=hu
   subst hu
   exact hkp t s' g' v w' h ht haft
 cases hx with
 |nrm=>exact fin none .returning h rfl
 |ret=>exact fin none .returning h rfl
 |ext i=>cases h
 |pan t v hv=>exact fin (some t) _ h ⟨v,rfl,hv⟩
end TL
end
section
namespace TL
open Go
variable {S:Sg}
theorem setTms_frel {g:Gh} {w:World} {n:Nat} (hn:n<=bigN):∀(ps:List Nat) (args:List (V S)) (vs:List Value) (tm:Tr (V S)) (tmps:Array Value),(∀k∈ps,k<n)->PW (TRel g w) (lows args) vs->FRel g (lowFr {n:=n,tm:=tm}) {tmps:=tmps,defers:=[]} w->
  FRel g (lowFr {n:=n,tm:=setTms ps args tm}) {tmps:=(ps.zip vs).foldl (λt p=>t.setIfInBounds p.1 p.2) tmps,defers:=[]} w
 |[],_,_,_,_,_,_,h=>h
 |_ ::_,[],[],_,_,_,_,h=>h
 |_ ::_,[],_ ::_,_,_,_,hp,_=>by have:=hp.1;simp[lows] at this
 |_ ::_,_ ::_,[],_,_,_,hp,_=>by have:=hp.1;simp[lows] at this
 |k ::ps,a ::args,v ::vs,tm,tmps,hk,hp,h=>by
  have hv:TRel g w (low a) v:=hp.2 0 _ _ rfl rfl
  have hp':PW (TRel g w) (lows args) vs:=⟨by have:=hp.1;simpa[lows] using this,λj t u h1 h2=>hp.2 (j+1) t u (by simpa[lows] using h1) (by simpa using h2)⟩
  have h0:=putO_sound (dst:=some k) (fr:={n:=n,tm:=tm}) h (by simp_all[okDstV]) hn hv
  exact setTms_frel hn ps args vs _ _ (λj hj=>hk j (List.mem_cons_of_mem _ hj)) hp' h0.1
theorem zip_foldl (ps:Array Tmp) (vs:Array Value) (tmps:Array Value):(ps.zip vs).foldl (λtmps (t,a)=>tmps.setIfInBounds t a) tmps=(ps.toList.zip vs.toList).foldl (λt p=>t.setIfInBounds p.1 p.2) tmps:=by
 rw[<-Array.foldl_toList,Array.toList_zip]
theorem ExMV.jump {g:Gh} {w:World} {ex:ExV S} {e:Exit} (h:ExMV g w ex e) {j:Option Code} (hj:jumpV ex=some j):jumpX e=some j:=by
 cases h<;>first|exact hj|cases hj
theorem roundY_sound {E:EnvV S} (hE:EnvVOk E) {call:CallV S} (hcall:CallOkV E.T.E.P call) (hdraw:DrawOk E call) (n:Nat) {o:Nat} {args:List (V S)} {s:StV S} {ω:Type} {k kp:V S->StV S->Option ω} {r:ω}
  (h:roundY E call n o args s k=some r) {g:Gh} {w:World} {vs:Array Value} {b:Nat} (hs:SRel g (lowSt s) w) (hpw:PW (TRel g w) (lows args) vs.toList) (hb:g.blk o=some b) :
  ∃l:Loop,w.heap[b]?=some (.loop l)∧vs.size=l.params.size∧∀rr n,RoundIn (WR rr) n E.T.E.P b l.fn ((l.params.zip vs).foldl (λtmps (t,a)=>tmps.setIfInBounds t a) l.tmps) l.assign l.body w (CallPostW s g w k kp r):=by
 unfold roundY at h
 split at h
 rotate_left
 .cases h
 rename_i l ho
 rcases cond_some h with ⟨hc,h1⟩|⟨_,h1⟩
 rotate_left
 .cases h1
 clear h
 simp only[Bool.and_eq_true,List.all_eq_true] at hc
 obtain ⟨hrd,hlen,hpar,hln,hra,hrb,hfl,hlo⟩:=hc
 have hlo:s.lo<=s.nob:=Nat.le_of_ble_eq_true hlo
 obtain ⟨hst,hpe⟩:=readyB_iff hrd
 have hfl:s.fl<=o:=Nat.le_of_ble_eq_true hfl
 have hln:l.fr.n<=bigN:=Nat.le_of_ble_eq_true hln
 have ho0:(lowSt s).ob.get o=some (.lp (lowLp l)):=by rw[lowSt_get,ho];rfl
 obtain ⟨x,hx,hr⟩:=(hs.box o b hb).2.2 _ ho0
 cases hr with
 |lp _ L q1 q2 q4 q5 q6 q8 q9=>
 have hsz:vs.size=L.params.size:=by
  have h1:=beq_iff'.1 hlen
  rw[lenL_eq,lenL_eq] at h1
  have h2:=hpw.1
  rw[lows_len] at h2
  have h3:L.params.toList.length=l.params.length:=by rw[q4];rfl
  grind
 refine ⟨L,hx,hsz,λrr n'=>?_⟩
 have hf0:FRel g (lowFr {n:=l.fr.n,tm:=l.fr.tm}) {tmps:=L.tmps,defers:=[]} w:=⟨q8,.nil,q9⟩
 have hf1:=setTms_frel hln l.params args vs.toList l.fr.tm L.tmps (λk hk=>Nat.le_of_ble_eq_true (hpar k hk)) hpw hf0
 rw[zip_foldl,q4]
 have q5:L.assign=l.assign:=q5
 have q6:L.body=l.body:=q6
 rw[q5,q6]
 refine roundR ?_
 refine wpIn_mono (evC_sound (rr:=some b) hE hcall hdraw n l.fid [] l.assign 0 h1 (λ_=>hra) hln hlo hf1 hs) λe a' w1 hq=>?_
 rcases hq with hF|⟨ex,fr1,s1,g1,p1,p2,p3,p4,p5,_⟩
 .exact hF.elim
 cases p1 with
 |ext j=>cases p2
 |ret=>cases p2
 |pan t v hv=>cases p2
 |nrm=>
 simp only[rdMid] at p2
 split at p2
 rotate_left
 .cases p2
 rename_i l1 ho1
 rcases cond_some p2 with ⟨hrd1,p2'⟩|⟨_,p2'⟩
 rotate_left
 .cases p2'
 clear p2
 obtain ⟨hst1,hpe1⟩:=readyB_iff hrd1
 have hb1:=p5.ext.blk _ _ hb
 have ho1':(lowSt s1).ob.get o=some (.lp (lowLp l1)):=by rw[lowSt_get,ho1];rfl
 obtain ⟨x1,hx1,hr1⟩:=(p5.rel.box o b hb1).2.2 _ ho1'
 cases hr1 with
 |lp _ L1 a1 a2 a4 a5 a6 a8 a9=>
 have hfl1:s1.fl<=o:=by rw[p5.fl];exact hfl
 obtain ⟨hs2,he2⟩:=p5.rel.setObj (w':=w1.putObj b (.loop {L1 with state:=.busy})) hb1 ho1' rfl hfl1 (x':=.loop {L1 with state:=.busy}) (ob':=.lp (lowLp {l1 with st:=.busy})) (.lp _ _ rfl a2 a4 a5 a6 a8 a9)
  World.putObj_size (λb' hb'=>World.putObj_heap_other hb') (World.putObj_heap_same (p5.rel.box o b hb1).2.1) rfl rfl
 have hlow2:lowSt {s1 with ob:=s1.ob.set fuelTr o (.lp {l1 with st:=.busy})}={lowSt s1 with ob:=(lowSt s1).ob.set fuelTr o (lowOb (.lp {l1 with st:=.busy}))}:=lowSt_set s1 _ _ s1.wr
 have hs2':SRel g1 (lowSt {s1 with ob:=s1.ob.set fuelTr o (.lp {l1 with st:=.busy})}) (w1.putObj b (.loop {L1 with state:=.busy})):=by rw[hlow2];exact hs2
 refine ⟨_,run_beginRound hx1 (by rw[a1];exact hst1),?_⟩
 have hlo1:s1.lo<=s1.nob:=by rw[p5.lo];exact Nat.le_trans hlo p5.nob
 refine wpIn_mono (evC_sound (rr:=some b) hE hcall hdraw n l.fid [] l.body 0 p2' (λ_=>hrb) (by grind) hlo1 (p4.ext he2 p5.rel.imm) hs2') λe a2 w2 hq=>?_
 rcases hq with hF|⟨ex,fr2,s2,g2,c1,c2,c3,c4,c5,_⟩
 .exact hF.elim
 have hobn:o<bigN:=Nat.lt_of_lt_of_le (hs.lt hb) hs.nob
 have hfl2:s2.fl<=o:=by rw[c5.fl];exact hfl1
 have hb2:=c5.ext.blk _ _ hb1
 have fin:∀(l2 l3:LpV S) (L2 L3:Loop) (wr:List Nat),s2.ob.get o=some (.lp l2)->w2.heap[b]?=some (.loop L2)->ObRel g2 w2 b (.lp (lowLp l3)) (.loop L3)->(∀j∈s2.wr,j∈wr)->(l3={l2 with st:=.ready,pend:=none}∨o∈wr)->
   AftW s g w {s2 with ob:=s2.ob.set fuelTr o (.lp l3),wr:=wr} g2 (w2.putObj b (.loop L3)):=by
  intro l2 l3 L2 L3 wr ho2 hx2 hr3 hw hl3
  have ho2':(lowSt s2).ob.get o=some (.lp (lowLp l2)):=by rw[lowSt_get,ho2];rfl
  obtain ⟨hs3,he3⟩:=c5.rel.setObj (w':=w2.putObj b (.loop L3)) hb2 ho2' rfl hfl2 (x':=.loop L3) (ob':=.lp (lowLp l3)) hr3
   World.putObj_size (λb' hb'=>World.putObj_heap_other hb') (World.putObj_heap_same (c5.rel.box o b hb2).2.1) rfl rfl
  have hlow3:lowSt {s2 with ob:=s2.ob.set fuelTr o (.lp l3),wr:=wr}={lowSt s2 with ob:=(lowSt s2).ob.set fuelTr o (lowOb (.lp l3))}:=lowSt_set s2 _ _ wr
  have e1:ExtV s.lo s.fl g1 w1 g1 (w1.putObj b (.loop {L1 with state:=.busy})):=by
   have:=he2.toV s.lo
   rw[show (lowSt s1).fl=s.fl from p5.fl] at this
   exact this
  have e2:ExtV s.lo s.fl g1 (w1.putObj b (.loop {L1 with state:=.busy})) g2 w2:=by
   have:=c5.ext
   rw[show s1.lo=s.lo from p5.lo,show s1.fl=s.fl from p5.fl] at this
   exact this
  have e3:ExtV s.lo s.fl g2 w2 g2 (w2.putObj b (.loop L3)):=by
   have:=he3.toV s.lo
   rw[show (lowSt s2).fl=s.fl from c5.fl.trans p5.fl] at this
   exact this
  refine ⟨by rw[hlow3];exact hs3,((p5.ext.trans e1).trans e2).trans e3,c5.fl.trans p5.fl,c5.lo.trans p5.lo,Nat.le_trans p5.nob c5.nob,λj hj=>hw j (c5.wrm j (p5.wrm j hj)),λj hj hno=>?_,λj hj=>c5.drm j (p5.drm j hj)⟩
  have hno2:j∉s2.wr:=λhm=>hno (hw j hm)
  have hno1:j∉s1.wr:=λhm=>hno2 (c5.wrm j hm)
  have k1:=p5.same j hj hno1
  have k2:=c5.same j (Nat.lt_of_lt_of_le hj p5.nob) hno2
  show (s2.ob.set fuelTr o _).get j=s.ob.get j
  rw[Tr.get_set64 _ _ _ _ hobn]
  have k2':s2.ob.get j=(s1.ob.set fuelTr o (.lp {l1 with st:=.busy})).get j:=k2
  rw[Tr.get_set64 _ _ _ _ hobn] at k2'
  by_cases e:j=o
  .subst e
   rcases hl3 with rfl|hl3
   rotate_left
   .exact absurd hl3 hno
   rw[if_pos rfl] at k2' ⊢
   rw[ho2] at k2'
   rw[ho1] at k1
   have k1:some (ObV.lp l1)=s.ob.get j:=k1
   rw[ho] at k1
   simp only[Option.some.injEq,ObV.lp.injEq] at k1 k2'
   subst k1
   subst k2'
   rw[ho]
   obtain ⟨st,pe,fid,fr,par,asg,bd⟩:=l1
   grind
  simp_all
 unfold rdEnd at c2
 split at c2
 .rename_i l2 ho2 hj
  have ho2':(lowSt s2).ob.get o=some (.lp (lowLp l2)):=by rw[lowSt_get,ho2];rfl
  obtain ⟨x2,hx2,hr2⟩:=(c5.rel.box o b hb2).2.2 _ ho2'
  cases hr2 with
  |lp _ L2 d1 d2 d4 d5 d6 d8 d9=>
  have hall:=fin l2 {l2 with st:=.ready,pend:=none} L2 {L2 with state:=.ready,pending:=none} s2.wr ho2 hx2 (.lp _ _ rfl rfl d4 d5 d6 d8 d9) (λ_ h=>h) (.inl rfl)
  exact .inr ⟨none,c1.jump hj,.bool true,_,run_endRound none hx2,.kb true,_,g2,c2,.kb true,hall⟩
 .rename_i l2 c ho2 hj
  have ho2':(lowSt s2).ob.get o=some (.lp (lowLp l2)):=by rw[lowSt_get,ho2];rfl
  obtain ⟨x2,hx2,hr2⟩:=(c5.rel.box o b hb2).2.2 _ ho2'
  cases hr2 with
  |lp _ L2 d1 d2 d4 d5 d6 d8 d9=>
  have hall:=fin l2 {l2 with st:=.done,pend:=some c} L2 {L2 with state:=.done,pending:=some c} (o ::s2.wr) ho2 hx2 (.lp _ _ rfl rfl d4 d5 d6 d8 d9) (λ_ h=>List.mem_cons_of_mem _ h) (.inr List.mem_cons_self)
  exact .inr ⟨some c,c1.jump hj,.bool false,_,run_endRound (some c) hx2,.kb false,_,g2,c2,.kb false,hall⟩
 .cases c2
theorem callV_sound {E:EnvV S} (hE:EnvVOk E) (hdraw:∀call:CallV S,CallOkV E.T.E.P call->DrawOk E call) (n:Nat):∀d,CallOkV E.T.E.P (callV E n d):=by
 intro d
 induction d with
 |zero=>exact ⟨λf args s ω k kp r h=>(by cases h),λf args s ω k kp r h=>(by cases h),λo args s ω k kp r h=>(by cases h),λo args s ω k kp r h=>(by cases h)⟩
 |succ d ih=>
  refine ⟨λf args s ω k kp r h g w vs hs hpw=>?_,λf args s ω k kp r h g w vs hs hpw=>?_,λo args s ω k kp r h g w vs b hs hpw hb=>?_,λo args s ω k kp r h g w vs b hs hpw hb=>roundY_sound hE ih (hdraw _ ih) n h hs hpw hb⟩
  rotate_left 2
  .have hs0:SRel g (lowSt {s with lo:=s.nob}) w:=⟨hs.nob,hs.bnd,hs.box,hs.arr,hs.imm,hs.uni,hs.glo⟩
   let ⟨l,h1,h2,h3⟩:=roundY_sound hE ih (hdraw _ ih) n (kp:=λ_ _=>none) h hs0 hpw hb
   refine ⟨l,h1,h2,λrr n=>(h3 rr n).mono λe w' he=>?_⟩
   cases e with
   |returned v=>
    let ⟨t,s',g',k1,k2,k3⟩:=he
    exact ⟨t,_,g',k1,k2,AftW.toV hs k3⟩
   |panicked ch=>
    obtain ⟨v,t,s',g',_,k1,_⟩:=he
    cases k1
   |outgrown=>exact he.elim
  rotate_left
  .simp only[callV,callT] at h
   split at h
   .cases h
   rename_i fn hfn
   split at h
   .cases h
   rename_i c hc
   have hfs:=hE.tab.fnc _ _ hfn
   refine ⟨⟨fn,hfs,by rw[hc];rfl,hE.name _ _ hfn⟩,?_⟩
   rcases cond_some h with ⟨hb,h⟩|⟨_,h⟩
   rotate_left
   .cases h
   simp only[Bool.and_eq_true] at hb
   have hb1:args.length<=fn.ntmps:=by
    have:=Nat.le_of_ble_eq_true hb.1
    rwa [lenL_eq] at this
   have hb2:fn.ntmps<bigN:=Nat.le_of_ble_eq_true hb.2.1
   have hlo:s.lo<=s.nob:=Nat.le_of_ble_eq_true hb.2.2
   have hf0:=init_frel (n:=fn.ntmps) hb2 hb1 hpw
   refine calls_of_body hfs hc (wpIn_mono (evC_sound hE ih (hdraw _ ih) n f _ c 0 h (λh=>absurd rfl h) (Nat.le_of_lt hb2) (by omega) hf0 hs) λe a' w' hq=>?_)
   rcases hq with hF|⟨ex,fr',s',g',h1,h2,h3,h4,h5,h6⟩
   .exact hF.elim
   .exact evEnd_sound hE ih (hdraw _ ih) n (R:=CallPostW s g w k kp r) h2 h1 h4 h5.rel (λt s'' g'' v w'' k1 k2 k3=>⟨t,_,g'',k1,k2,h5.trans k3.toW⟩) (λt s'' g'' v w'' k1 k2 k3=>⟨v,t,_,g'',rfl,k1,k2,h5.trans k3.toW⟩)
  simp only[callV,callT] at h
  split at h
  .cases h
  .rename_i fn hfn
   split at h
   .cases h
   .rename_i c hc
    have hfs:=hE.tab.fnc _ _ hfn
    refine ⟨⟨fn,hfs,by rw[hc];rfl,hE.name _ _ hfn⟩,?_⟩
    rcases cond_some h with ⟨hb,h⟩|⟨_,h⟩
    .rw[Bool.and_eq_true_iff] at hb
     have hb1:args.length<=fn.ntmps:=by
      have:=Nat.le_of_ble_eq_true hb.1
      rwa [lenL_eq] at this
     have hb2:fn.ntmps<bigN:=Nat.le_of_ble_eq_true hb.2
     have hf0:=init_frel (n:=fn.ntmps) hb2 hb1 hpw
     have hs0:SRel g (lowSt {s with lo:=s.nob}) w:=⟨hs.nob,hs.bnd,hs.box,hs.arr,hs.imm,hs.uni,hs.glo⟩
     refine calls_of_body hfs hc (wpIn_mono (evC_sound hE ih (hdraw _ ih) n f _ c 0 h (λh=>absurd rfl h) (Nat.le_of_lt hb2) (Nat.le_refl _) hf0 hs0) λe a' w' hq=>?_)
     rcases hq with hF|⟨ex,fr',s',g',h1,h2,h3,h4,h5,h6⟩
     .exact hF.elim
     .have haft:=AftW.toV hs h5
      have lo:∀{s'':StV S} {g'':Gh} {w'':World},AftV [] s' g' w' s'' g'' w''->AftV [] s g w {s'' with lo:=s.lo} g'' w'':=λ{s'' g'' w''} k=>
       AftW.toV hs (h5.trans k.toW)
      exact evEnd_sound hE ih (hdraw _ ih) n (R:=CallPostV s g w k kp r) h2 h1 h4 h5.rel (λt s'' g'' v w'' k1 k2 k3=>⟨t,_,g'',k1,k2,lo k3⟩) (λt s'' g'' v w'' k1 k2 k3=>⟨v,t,_,g'',rfl,k1,k2,lo k3⟩)
    .cases h
end TL
end
section
namespace TL
open Go
variable {S:Sg}
structure FinR (lim:Nat) (s0:StV S) (g0:Gh) (w:World) (s':StV S) (g':Gh) (w':World):Prop where
 rel:SRel g' (lowSt s') w'
 blk:∀o b,o<lim->g0.blk o=some b->g'.blk o=some b
 box:∀o,o<lim->∃b,g'.blk o=some b
 own:∀o b,Owned g' o b->(∃o',Owned g0 o' b)∨w.heap.size<=b
 imm:∀b,g0.imm b->g'.imm b
 immn:∀b,g'.imm b->g0.imm b∨w.heap.size<=b∨∃o,Owned g0 o b
 size:w.heap.size<=w'.heap.size
 heap:∀b,b<w.heap.size->(∀o,¬Owned g0 o b)->w'.heap[b]?=w.heap[b]?
 os:w'.os=w.os
 output:w'.output=w.output
 fl:s'.fl=s0.fl
 lo:s'.lo=s0.lo
theorem FinR.of {lim:Nat} {s0 s':StV S} {g0 g':Gh} {w w':World} (hfl:s0.fl=0) (hbx:∀o,o<lim->∃b,g0.blk o=some b) (h:AftW s0 g0 w s' g' w'):FinR lim s0 g0 w s' g' w' where
 rel:=h.rel
 blk o b _ hb:=h.ext.blk o b hb
 box o ho:=(hbx o ho).imp λb hb=>h.ext.blk o b hb
 own o b hO:=(h.ext.own o b (by omega) hO).imp (λ⟨o',_,h⟩=>⟨o',h⟩) id
 imm:=h.ext.imm
 immn b hb:=(h.ext.immn b hb).imp id (Or.imp id λ⟨o,_,hO⟩=>⟨o,hO⟩)
 size:=h.ext.size
 heap b hb hn:=h.ext.heap b hb λo _ hO=>hn o hO
 os:=h.ext.os
 output:=h.ext.output
 fl:=h.fl
 lo:=h.lo
theorem SRel.addImm {g:Gh} {s:St} {w:World} (hs:SRel g s w) {b:Nat} (hb:b<w.heap.size) (hno:∀o,¬Owned g o b):SRel {g with imm:=λk=>g.imm k∨k=b} s w:=by
 have hle:∀t v,TRel g w t v->TRel {g with imm:=λk=>g.imm k∨k=b} w t v:=λt v h=>TRel.le (g:=g) (g':={g with imm:=λk=>g.imm k∨k=b}) (GhLe.mk (λ_ _ h=>h) (λ_ _ _ h=>h) (λb' (h:g.imm b')=>Or.inl h)) h
 have hown:∀o k,Owned {g with imm:=λk=>g.imm k∨k=b} o k->Owned g o k:=λo k h=>⟨λhi=>h.1 (.inl hi),h.2⟩
 refine ⟨hs.nob,hs.bnd,λo k hk=>?_,λo e x hx=>?_,λk hk=>hk.elim (hs.imm k) (λe=>e▸hb),λo o' k h h'=>hs.uni o o' k (hown o k h) (hown o' k h'),hs.glo.mono (λ_ _=>rfl) (λ_ h=>.inl h)⟩
 .obtain ⟨h1,h2,h3⟩:=hs.box o k hk
  refine ⟨λhi=>hi.elim h1 λe=>hno o (e▸⟨h1,.inl hk⟩),h2,λob hob=>?_⟩
  obtain ⟨x,hx,hr⟩:=h3 ob hob
  exact ⟨x,hx,hr.imp hle⟩
 .obtain ⟨h1,h2⟩:=hs.arr o e x hx
  refine ⟨h1,λob hob=>?_⟩
  have hat:∀k,x.at k->¬g.imm k->k≠b:=λk ⟨ad,q1,q2,q3⟩ hk e'=>hno o (e'▸⟨hk,.inr ⟨e,x,ad,hx,q1,q2,q3⟩⟩)
  have himm:∀k,x.at k->((g.imm k∨k=b)↔g.imm k):=λk hk=>⟨λh=>h.elim id λe'=>(Classical.em (g.imm k)).elim id λhn=>absurd e' (hat k hk hn),λh=>Or.inl h⟩
  refine (h2 ob hob).tr (λ{fz sz es} hA=>⟨hA.len,hA.cap,hA.rows,hA.pos,hA.byt,λhc=>?_⟩) (λ_ _ _ h=>h) rfl (λk hk hc=>⟨rfl,himm k ⟨_,hk,rfl,hc⟩⟩)
  obtain ⟨k,vs,ty,q1,q2,q3,q4,q5⟩:=hA.mem hc
  refine ⟨k,vs,ty,q1,q2.trans (himm k ⟨_,q1,rfl,hc⟩).symm,q3,q4,λi d j c k1 k2=>?_⟩
  obtain ⟨u,r1,r2⟩:=q5 i d j c k1 k2
  exact ⟨u,r1,r2.le λ_ h=>.inl h⟩
theorem cleanPV_set (p:Nat->Bool) (vs:List (V S)) (i:Nat) (u:V S):lows ((vs.map (cleanPV p)).set i u)=(lows (vs.map (cleanPV p))).set i (low u):=by
 simp[lows_map,List.map_set]
theorem optOne_sound (hS:SgOk S) {lim:Nat} {s0 s:StV S} {g0 g:Gh} {w w':World} (h:FinR lim s0 g0 w s g w') {v:V S} {val:Value} (hv:TRel g w' (low v) val) (q:Nat×Nat×Nat) :
  ∃g2,FinR lim s0 g0 w (optOne v lim s q) g2 w'∧TRel g2 w' (low v) val:=by
 obtain ⟨bb,i,n⟩:=q
 unfold optOne
 split
 rotate_left
 .exact ⟨g,h,hv⟩
 rename_i vs hvs
 split
 rotate_left
 .exact ⟨g,h,hv⟩
 rename_i o hvi
 split
 rotate_left
 .exact ⟨g,h,hv⟩
 rename_i us hus
 split
 rotate_left
 .exact ⟨g,h,hv⟩
 rename_i hh os htt
 generalize hp:(λk=>Nat.beq o k||Nat.ble s.nob k)=p
 dsimp only
 cases hcond:isE' os&&(Nat.ble lim o&&(Nat.blt bb lim&&!(mentP p v))) with
 |false=>exact ⟨g,h,hv⟩
 |true=>
 rw[cond_true]
 simp only[Bool.and_eq_true] at hcond
 obtain ⟨hos,hlo,hbl,hmv⟩:=hcond
 have hos:os=[]:=by cases os with|nil=>rfl|cons=>cases hos
 subst hos
 have hlo:lim<=o:=Nat.le_of_ble_eq_true hlo
 have hbl:bb<lim:=Nat.le_of_ble_eq_true hbl
 have hs:=h.rel
 obtain ⟨b,hb⟩:=h.box bb hbl
 obtain ⟨cv,ty,hheap,hlen,hcell⟩:=(hs.box bb b hb).box (cs:=lows vs) (by rw[lowSt_get,hvs];rfl)
 have hvi':(lows vs)[i]?=some (.ptr o 0):=nth_low hvi
 have hi:i<cv.size:=by rw[<-hlen];exact (List.getElem?_eq_some_iff.1 hvi').1
 have hci:=hcell i _ _ hvi' (Array.getElem?_eq_getElem hi)
 obtain ⟨bo,hbo,hcv⟩:∃bo,g.blk o=some bo∧cv[i]=.pointer (some ⟨bo,0,none⟩):=by
  generalize cv[i]=u at hci
  cases hci with
  |ptr _ _ bo hbo=>exact ⟨bo,hbo,rfl⟩
 obtain ⟨cu,tu,hheap2,hlen2,hcell2⟩:=(hs.box o bo hbo).box (cs:=lows us) (by rw[lowSt_get,hus];rfl)
 have hno:o<s.nob:=hs.lt hbo
 have hnb:bb<s.nob:=hs.lt hb
 have hpo:p o=true:=by rw[<-hp];simp
 have hpk:∀k,k≠o->k<s.nob->p k=false:=λk h1 h2=>by
  rw[<-hp]
  simp only[Bool.or_eq_false_iff]
  exact ⟨by cases hq:Nat.beq o k with|true=>exact absurd (Nat.eq_of_beq_eq_true hq).symm h1|false=>rfl,by cases hq:Nat.ble s.nob k with|true=>have:=Nat.le_of_ble_eq_true hq;omega|false=>rfl⟩
 have hpb:p bb=false:=hpk bb (by omega) hnb
 let s1:StV S:={s with ob:=s.ob.mapA (cleanPOb p)}
 have hs1:SRel (g.base p) (lowSt s1) w':=by
  refine hs.base (nob:=s.nob) (λk hk=>?_) rfl (Nat.le_refl _) λk ob hk hob=>?_
  .rw[<-hp]
   simp[Nat.ble_eq_true_of_le hk]
  .rw[lowSt_get] at hob
   simp only[s1,Option.map_eq_some_iff] at hob
   obtain ⟨vob,h1,rfl⟩:=hob
   rw[Tr.get_mapA,Option.map_eq_some_iff] at h1
   obtain ⟨ob1,h1,rfl⟩:=h1
   exact ⟨lowOb ob1,by rw[lowSt_get,h1];rfl,cleanPOb_spec _ ob1⟩
 have hOo:Owned g o bo:=⟨(hs.box o bo hbo).1,.inl hbo⟩
 have hs2:=hs1.addImm (b:=bo) (hs.box o bo hbo).2.1 (λk hk=>by
  obtain ⟨h1,h2⟩:=Gh.base_owned hk
  have:=hs.uni k o bo h2 hOo
  subst this
  rw[hpo] at h1
  cases h1)
 generalize hg2:({g.base p with imm:=λk=>(g.base p).imm k∨k=bo}:Gh)=g2 at hs2
 have hle:GhLe (g.base p) g2:=by rw[<-hg2];exact ⟨λ_ _ h=>h,λ_ _ _ h=>h,λ_ h=>.inl h⟩
 have hon:∀t u,TRel g w' t u->mentPT p t=false->TRel g2 w' t u:=λt u ht hm=>(ht.on (g.base_on p) (λ_ _=>rfl) hm).le hle
 have hblk:∀k c,p k=false->g.blk k=some c->g2.blk k=some c:=λk c h1 h2=>hle.blk k c (by simp[Gh.base,h1,h2])
 have hown:∀k c,Owned g2 k c->Owned g k c:=λk c hO=>by
  rw[<-hg2] at hO
  exact (Gh.base_owned (⟨λhi=>hO.1 (.inl hi),hO.2⟩:Owned (g.base p) k c)).2
 obtain ⟨pp,htd,hpp⟩:=toTys_low hS s (S.fs n) us htt
 obtain ⟨k0,_,k2⟩:=toDs_sound hs (lows us) (vs:=cu.toList) htd hpp (by simpa using hlen2) (λj t u h1 h2=>hcell2 j t u h1 (by simpa using h2))
 have hd:=k2 g (lowSt s) hs (Ext.refl _ _ _) ⟨rfl,rfl,λo ho=>(by cases ho),λ_ _ _ _ h=>h,λo ho=>(by cases ho)⟩
 have himm:g2.imm bo:=by rw[<-hg2];exact .inr rfl
 have himm':∀c,g.imm c->g2.imm c:=λc hc=>by rw[<-hg2];exact .inl hc
 have hadd:∀j,(⟨bo,0,none⟩:Addr).add j=⟨bo,j,none⟩:=λj=>by simp[add_mk]
 have hcell3:∀j c,(encH S (S.fs n) hh)[j]?=some c->∃u,cu[j]?=some u∧DRel g2.imm w' c u:=λj c hj=>by
  have hl1:=k0
  have hlt:j<cu.size:=by
   have:=(List.getElem?_eq_some_iff.1 hj).1
   omega
  exact ⟨cu[j],Array.getElem?_eq_getElem hlt,(hd j c cu[j] hj (by simp[hlt])).le himm'⟩
 have hnew:TRel g2 w' (low (.ty (.opt n) (some (S.mkS n hh)):V S)) cv[i]:=by
  rw[hcv]
  have hE:enc S (.opt n) (some (S.mkS n hh))=.pt (.agg (encH S (S.fs n) hh)):=by
   show D.pt (.agg (S.cells n (S.mkS n hh)))=_
   rw[hS.cells,hS.get_mk]
  show TRel g2 w' (.sym (enc S (.opt n) (some (S.mkS n hh)))) _
  rw[hE]
  have:=DRel.pt (I:=g2.imm) (w:=w') (.agg (encH S (S.fs n) hh)) ⟨bo,0,none⟩ (λj=>(cu[j]?).getD undef) himm (λj c hj=>by
   obtain ⟨u,h1,_⟩:=hcell3 j c hj
   rw[hadd,cell?_of_block hheap2,h1];rfl) (λj c hj=>by
   obtain ⟨u,h1,h2⟩:=hcell3 j c hj
   rw[h1];exact h2)
  rw[hadd] at this
  exact .sym _ _ this
 have hnoarr:∀e,g2.arr bb e=none:=λe=>by
  rw[<-hg2]
  show (g.base p).arr bb e=none
  simp only[Gh.base,hpb,if_true]
  cases hx:g.arr bb e with
  |none=>rfl
  |some x=>
   have:=((hs.arr bb e x hx).2 _ (by rw[lowSt_get,hvs];rfl)).isArr
   cases this
 have hbox:∀bq,ObRel g2 w' bq (lowOb (.box ((vs.map (cleanPV p)).set i (.ty (.opt n) (some (S.mkS n hh)))))) (.cells cv ty (0,0)):=by
  intro bq
  refine .box _ _ _ (by rw[cleanPV_set];simp[lows_map] at hlen ⊢;exact hlen) λj t u h1 h2=>?_
  rw[cleanPV_set,List.getElem?_set] at h1
  split at h1
  .rename_i hij
   subst hij
   split at h1
   .cases h1
    rw[Array.getElem?_eq_getElem hi] at h2
    cases h2
    exact hnew
   .cases h1
  .simp only[lows_map,List.getElem?_map,Option.map_eq_some_iff] at h1
   obtain ⟨v',⟨v'',h3,rfl⟩,rfl⟩:=h1
   exact (cleanPV_left p v'').rel hon (hcell j _ u (by simp[lows_map,h3]) h2)
 have hk:=hs2.know (hblk bb b hpb hb) hheap (hbox _) hnoarr
 have hrel:SRel g2 (lowSt {s with ob:=(s.ob.mapA (cleanPOb p)).set fuelTr bb (.box ((vs.map (cleanPV p)).set i (.ty (.opt n) (some (S.mkS n hh)))))}) w':=by
  have:=lowSt_set s1 bb (.box ((vs.map (cleanPV p)).set i (.ty (.opt n) (some (S.mkS n hh))))) s.wr
  rw[show lowSt {s with ob:=(s.ob.mapA (cleanPOb p)).set fuelTr bb (.box ((vs.map (cleanPV p)).set i (.ty (.opt n) (some (S.mkS n hh)))))}=_ from this]
  exact hk
 refine ⟨g2,⟨hrel,λk c hk hc=>?_,λk hk=>?_,λk c hO=>h.own k c (hown k c hO),λc hc=>himm' c (h.imm c hc),λc hc=>?_,h.size,h.heap,h.os,h.output,h.fl,h.lo⟩,hon _ _ hv (by rw[mentP_low];simpa using hmv)⟩
 .have h1:=h.blk k c hk hc
  exact hblk k c (hpk k (by omega) (hs.lt h1)) h1
 .obtain ⟨c,hc⟩:=h.box k hk
  exact ⟨c,hblk k c (hpk k (by omega) (hs.lt hc)) hc⟩
 .rw[<-hg2] at hc
  rcases hc with hc|rfl
  .exact h.immn c hc
  .exact .inr ((h.own o c hOo).symm)
theorem optAll_sound (hS:SgOk S) {lim:Nat} {s0:StV S} {g0:Gh} {w w':World} {v:V S} {val:Value}:∀(l:List (Nat×Nat×Nat)) {s:StV S} {g:Gh},FinR lim s0 g0 w s g w'->TRel g w' (low v) val->
  ∃g2,FinR lim s0 g0 w (l.foldl (optOne v lim) s) g2 w'∧TRel g2 w' (low v) val
 |[],_,g,h,hv=>⟨g,h,hv⟩
 |q ::l,_,_,h,hv=>by
  obtain ⟨g2,h2,hv2⟩:=optOne_sound hS h hv q
  exact optAll_sound hS l h2 hv2
end TL
end
section
namespace TL
open Go
variable {S:Sg}
theorem inPs_nob:∀(ps:List Pk) (b:Nat) (s:StV S) (x:pden S.A ps),s.nob<=(inPs b s ps x).2.nob
 |[],_,_,_=>Nat.le_refl _
 | .one c ::ps,b,s,x=>Nat.le_trans (unC_nob s c x.1) (inPs_nob ps b _ x.2)
 | .box k ::ps,b,s,x=>Nat.le_trans (unK_nob k s (some (Nat.succ b)) x.1) (inPs_nob ps (Nat.succ b) {(unK s (some (Nat.succ b)) k x.1).2 with ob:=(unK s (some (Nat.succ b)) k x.1).2.ob.set fuelTr b (unK s (some (Nat.succ b)) k x.1).1} x.2)
 | .hid k ::ps,b,s,x=>Nat.le_trans (unK_nob k s (some (Nat.succ b)) x.1) (inPs_nob ps (Nat.succ b) {(unK s (some (Nat.succ b)) k x.1).2 with ob:=(unK s (some (Nat.succ b)) k x.1).2.ob.set fuelTr b (unK s (some (Nat.succ b)) k x.1).1} x.2)
structure InR (g:Gh) (s:StV S) (w:World) (al:List ASl) (g':Gh) (s':StV S):Prop where
 rel:SRel g' (lowSt s') w
 le:GhLe g g'
 imm:g'.imm=g.imm
 own:∀k b,Owned g' k b->Owned g k b∨∃a∈al,a.at b
 fl:s'.fl=s.fl
 lo:s'.lo=s.lo
 nob:s.nob<=s'.nob
 blk:g'.blk=g.blk
 arr:∀o,o<s.nob->∀e,g'.arr o e=g.arr o e
theorem inPs_sound {w:World}:∀{ps:List Pk} {x:pden S.A ps} {vals:List Value} {al:List ASl} {bl:List Nat} {b:Nat} {g:Gh} {s:StV S},PRel S g.imm w ps x vals al bl->SRel g (lowSt s) w->(∀j blk,bl[j]?=some blk->g.blk (b+j)=some blk)->
  (∀j,j<bl.length->b+j<s.nob∧∀e,g.arr (b+j) e=none)->(∀a∈al,∀b,a.at b->∀o,¬Owned g o b)->Apart al->(inPs b s ps x).2.nob<=bigN->
  ∃g',InR g s w al g' (inPs b s ps x).2∧PW (TRel g' w) (lows (inPs b s ps x).1) vals:=by
 intro ps
 induction ps with
 |nil=>
  intro x vals al bl b g s hp hs _ _ _ _ _
  cases hp
  exact ⟨g,⟨hs,GhLe.refl _,rfl,λ_ _ h=>.inl h,rfl,rfl,Nat.le_refl _,rfl,λ_ _ _=>rfl⟩,⟨rfl,λj t v h=>by simp_all⟩⟩
 |cons p ps ih=>
  intro x vals al bl b g s hp hs hblk hna hfr hap hn
  cases hp with
  | @one c _ x1 xr v vs al1 al2 bl h1 h2=>
   have hap':=List.pairwise_append.1 hap
   have hn1:(unC s c x1).2.nob<=bigN:=Nat.le_trans (inPs_nob ps b _ xr) hn
   let ⟨g1,hu,hpw⟩:=unCs_sound (cs:=[c]) (x:=(x1,())) h1 hs (λa ha=>hfr a (List.mem_append_left _ ha)) hap'.1 (by simpa[unCs] using hn1)
   have e1:(unCs s [c] (x1,())).1=[(unC s c x1).1]:=rfl
   have e2:(unCs s [c] (x1,())).2=(unC s c x1).2:=rfl
   have hv1:TRel g1 w (low (unC s c x1).1) v:=hpw.2 0 _ _ rfl rfl
   let ⟨g2,k1,k2⟩:=ih (b:=b) (g:=g1) (s:=(unC s c x1).2) (hu.imm▸h2) hu.rel (λj blk h=>by rw[hu.blk];grind) (λj hj=>⟨Nat.lt_of_lt_of_le (hna j hj).1 hu.nob,λe=>by rw[hu.arr _ (hna j hj).1];simp_all⟩)
    (λa ha b hb o hO=>by
     rcases hu.own o b hO with hO|⟨_,a2,ha2,hb2⟩
     .grind
     grind) hap'.2.1 hn
   refine ⟨g2,⟨k1.rel,hu.le.trans k1.le,k1.imm.trans hu.imm,λk b' hO=>?_,k1.fl.trans hu.fl,k1.lo.trans hu.lo,Nat.le_trans hu.nob k1.nob,k1.blk.trans hu.blk,λo ho e=>(k1.arr o (Nat.lt_of_lt_of_le ho hu.nob) e).trans (hu.arr o ho e)⟩,⟨by simp only[inPs,lows,List.length_cons];rw[k2.1],λj t v' q1 q2=>?_⟩⟩
   .rcases k1.own k b' hO with hO|⟨a',q2,q3⟩
    .rcases hu.own k b' hO with hO|⟨_,a',q2,q3⟩
     .exact .inl hO
     grind
    grind
   .cases j with
    |zero=>simp[inPs,lows] at q1 q2;subst q1;subst q2;exact hv1.le k1.le
    |succ j=>exact k2.2 j t v' (by simpa[inPs,lows] using q1) (by simpa using q2)
  | @box kd _ x1 xr b0 hx vs al1 al2 bl hh h1 h2=>
   have hap':=List.pairwise_append.1 hap
   have hn1:(unK s (some (Nat.succ b)) kd x1).2.nob<=bigN:=Nat.le_trans (inPs_nob ps (Nat.succ b) {(unK s (some (Nat.succ b)) kd x1).2 with ob:=(unK s (some (Nat.succ b)) kd x1).2.ob.set fuelTr b (unK s (some (Nat.succ b)) kd x1).1} xr) hn
   let ⟨g1,hu,hpw1⟩:=unK_sound h1 (λb' hb'=>⟨_,rfl,by cases bl with|nil=>cases hb'|cons c' bl'=>(cases hb';grind)⟩) hs (λa ha=>hfr a (List.mem_append_left _ ha)) hap'.1 hn1
   have hb0:=hna 0 (by simp)
   have hob:g.blk b=some b0:=hblk 0 b0 rfl
   have hk:=hu.rel.know (o:=b) (b:=b0) (by rw[hu.blk];exact hob) hh hpw1 (λe=>by rw[hu.arr b (by omega)];exact hb0.2 e)
   have hk2:SRel g1 (lowSt {(unK s (some (Nat.succ b)) kd x1).2 with ob:=(unK s (some (Nat.succ b)) kd x1).2.ob.set fuelTr b (unK s (some (Nat.succ b)) kd x1).1}) w:=by
    have:=lowSt_set (unK s (some (Nat.succ b)) kd x1).2 b (unK s (some (Nat.succ b)) kd x1).1 (unK s (some (Nat.succ b)) kd x1).2.wr
    simp_all
   let ⟨g2,k1,k2⟩:=ih (b:=Nat.succ b) (g:=g1) (s:={(unK s (some (Nat.succ b)) kd x1).2 with ob:=(unK s (some (Nat.succ b)) kd x1).2.ob.set fuelTr b (unK s (some (Nat.succ b)) kd x1).1}) (hu.imm▸h2) hk2
    (λj blk h=>by rw[hu.blk];have:=hblk (j+1) blk (by simpa using h);rwa [show b+(j+1)=Nat.succ b+j by omega] at this)
    (λj hj=>by
     have:=hna (j+1) (by simp;omega)
     rw[show b+(j+1)=Nat.succ b+j by omega] at this
     exact ⟨Nat.lt_of_lt_of_le this.1 hu.nob,λe=>by rw[hu.arr _ this.1];exact this.2 e⟩)
    (λa ha b hb o hO=>by
     rcases hu.own o b hO with hO|⟨_,a2,ha2,hb2⟩
     .grind
     grind) hap'.2.1 hn
   refine ⟨g2,⟨k1.rel,hu.le.trans k1.le,k1.imm.trans hu.imm,λk b' hO=>?_,k1.fl.trans hu.fl,k1.lo.trans hu.lo,Nat.le_trans hu.nob k1.nob,k1.blk.trans hu.blk,λo ho e=>(k1.arr o (Nat.lt_of_lt_of_le ho hu.nob) e).trans (hu.arr o ho e)⟩,⟨by simp only[inPs,lows,List.length_cons];rw[k2.1],λj t v' q1 q2=>?_⟩⟩
   .rcases k1.own k b' hO with hO|⟨a',q2,q3⟩
    .rcases hu.own k b' hO with hO|⟨_,a',q2,q3⟩
     .exact .inl hO
     grind
    grind
   .cases j with
    |zero=>
     simp[inPs,lows,Option.some.injEq] at q1 q2
     subst q1
     subst q2
     exact kval_rel (by rw[k1.blk,hu.blk];exact hob)
    |succ j=>exact k2.2 j t v' (by simpa[inPs,lows] using q1) (by simpa using q2)
  | @hid kd _ x1 xr b0 hx vs al1 al2 bl hh h1 h2=>
   have hap':=List.pairwise_append.1 hap
   have hn1:(unK s (some (Nat.succ b)) kd x1).2.nob<=bigN:=Nat.le_trans (inPs_nob ps (Nat.succ b) {(unK s (some (Nat.succ b)) kd x1).2 with ob:=(unK s (some (Nat.succ b)) kd x1).2.ob.set fuelTr b (unK s (some (Nat.succ b)) kd x1).1} xr) hn
   let ⟨g1,hu,hpw1⟩:=unK_sound h1 (λb' hb'=>⟨_,rfl,by cases bl with|nil=>cases hb'|cons c' bl'=>(cases hb';grind)⟩) hs (λa ha=>hfr a (List.mem_append_left _ ha)) hap'.1 hn1
   have hb0:=hna 0 (by simp)
   have hob:g.blk b=some b0:=hblk 0 b0 rfl
   have hk:=hu.rel.know (o:=b) (b:=b0) (by rw[hu.blk];exact hob) hh hpw1 (λe=>by rw[hu.arr b (by omega)];exact hb0.2 e)
   have hk2:SRel g1 (lowSt {(unK s (some (Nat.succ b)) kd x1).2 with ob:=(unK s (some (Nat.succ b)) kd x1).2.ob.set fuelTr b (unK s (some (Nat.succ b)) kd x1).1}) w:=by
    have:=lowSt_set (unK s (some (Nat.succ b)) kd x1).2 b (unK s (some (Nat.succ b)) kd x1).1 (unK s (some (Nat.succ b)) kd x1).2.wr
    simp_all
   let ⟨g2,k1,k2⟩:=ih (b:=Nat.succ b) (g:=g1) (s:={(unK s (some (Nat.succ b)) kd x1).2 with ob:=(unK s (some (Nat.succ b)) kd x1).2.ob.set fuelTr b (unK s (some (Nat.succ b)) kd x1).1}) (hu.imm▸h2) hk2
    (λj blk h=>by rw[hu.blk];have:=hblk (j+1) blk (by simpa using h);rwa [show b+(j+1)=Nat.succ b+j by omega] at this)
    (λj hj=>by
     have:=hna (j+1) (by simp;omega)
     rw[show b+(j+1)=Nat.succ b+j by omega] at this
     exact ⟨Nat.lt_of_lt_of_le this.1 hu.nob,λe=>by rw[hu.arr _ this.1];exact this.2 e⟩)
    (λa ha b hb o hO=>by
     rcases hu.own o b hO with hO|⟨_,a2,ha2,hb2⟩
     .grind
     grind) hap'.2.1 hn
   refine ⟨g2,⟨k1.rel,hu.le.trans k1.le,k1.imm.trans hu.imm,λk b' hO=>?_,k1.fl.trans hu.fl,k1.lo.trans hu.lo,Nat.le_trans hu.nob k1.nob,k1.blk.trans hu.blk,λo ho e=>(k1.arr o (Nat.lt_of_lt_of_le ho hu.nob) e).trans (hu.arr o ho e)⟩,k2⟩
   .rcases k1.own k b' hO with hO|⟨a',q2,q3⟩
    .rcases hu.own k b' hO with hO|⟨_,a',q2,q3⟩
     .exact .inl hO
     grind
    grind
theorem packBs_sound (hS:SgOk S) {g:Gh} {w:World} {s:StV S} (hs:SRel g (lowSt s) w):∀{ps:List Pk} {b:Nat} {x:bden S.A ps} {fz ow bl:List Nat},packBs s b ps=some (x,fz,ow)->(∀j blk,bl[j]?=some blk->g.blk (b+j)=some blk)->bl.length=boxesP ps->
  (∀o∈fz,Live g (lowSt s) o)∧(∀o∈ow,s.fl<=o∧s.lo<=o∧o<s.nob∧∃ob,s.ob.get o=some ob∧arrB ob=true)∧∀(g1:Gh) (s1:St) (fz':List Nat),SRel g1 s1 w->Ext s.fl g w g1 w->Frozen (lowSt s) s1 fz'->(∀o∈fz,o∈fz')->(∀o∈ow,s1.ob.get o=(lowSt s).ob.get o)->
   ∃al,BRel S g1.imm w ps x bl al∧AL g1 al ow
 |[],b,x,fz,ow,bl,h,_,hlen=>by
  simp only[packBs,Option.some.injEq,Prod.mk.injEq] at h
  obtain ⟨_,rfl,rfl⟩:=h
  match bl,hlen with
  |[],_=>exact ⟨λo ho=>(by cases ho),λo ho=>(by cases ho),λ_ _ _ _ _ _ _ _=>⟨[],.nil,.nil⟩⟩
  |_ ::_,hlen=>exact absurd hlen (by simp[boxesP])
 | .one c ::ps,b,x,fz,ow,bl,h,hblk,hlen=>by
  simp[packBs] at h
  let ⟨p1,p2,p3⟩:=packBs_sound hS hs h hblk (by simpa[boxesP] using hlen)
  refine ⟨p1,p2,λg1 s1 fz' a b c d e=>?_⟩
  let ⟨al,k1,k2⟩:=p3 g1 s1 fz' a b c d e
  exact ⟨al,.one k1,k2⟩
 | .box k ::ps,b,x,fz,ow,bl,h,hblk,hlen=>by
  match bl,hlen with
  |[],hlen=>exact absurd hlen (by simp[boxesP])
  |b0 ::bl,hlen=>
  simp only[packBs] at h
  split at h
  rotate_left
  .cases h
  rename_i x1 a1 b1 nx h1 a2 b2 e1 e2
  rcases cond_some h with ⟨hb,h⟩|⟨_,h⟩
  rotate_left
  .cases h
  rw[Bool.and_eq_true_iff] at hb
  obtain ⟨rfl,rfl,rfl⟩:=h
  have hbk:g.blk b=some b0:=hblk 0 b0 rfl
  have hblk':∀j blk,bl[j]?=some blk->g.blk (Nat.succ b+j)=some blk:=λj blk h=>by
   have:=hblk (j+1) blk (by simpa using h)
   rwa [show b+(j+1)=Nat.succ b+j by omega] at this
  have hlen':bl.length=boxesP ps:=by simpa[boxesP] using hlen
  let ⟨_,hx,hh,p1,p2,p3⟩:=packK_sound hS hs hbk e1
  let ⟨_,hlk⟩:=packK_nx hs hbk e1
  let ⟨q1,q2,q3⟩:=packBs_sound hS hs e2 hblk' hlen'
  refine ⟨λo ho=>(List.mem_append.1 ho).elim (p1 o) (q1 o),λo ho=>(List.mem_append.1 ho).elim (p2 o) (q2 o),λg1 s1 fz' hs1 he hf hsub hsame=>?_⟩
  let ⟨al1,k1,k2⟩:=p3 g1 s1 fz' hs1 he hf (λo ho=>hsub o (List.mem_append_left _ ho)) (λo ho=>hsame o (List.mem_append_left _ ho)) (headN bl) (λo' ho'=>by
   subst ho'
   obtain ⟨m,pre,post,rfl⟩:=hlk o' rfl
   have ho':o'=Nat.succ b:=Nat.eq_of_beq_eq_true hb.1
   subst ho'
   match ps,hb.2,hlen' with
   | .hid k' ::ps,_,hlen'=>
    match bl,hlen' with
    |c ::bl,_=>exact ⟨c,rfl,he.blk _ _ (hblk' 0 c rfl)⟩
    |[],hlen'=>exact absurd hlen' (by simp[boxesP]))
  let ⟨al2,k3,k4⟩:=q3 g1 s1 fz' hs1 he hf (λo ho=>hsub o (List.mem_append_right _ ho)) (λo ho=>hsame o (List.mem_append_right _ ho))
  exact ⟨_,.box hh k1 k3,k2.append k4⟩
 | .hid k ::ps,b,x,fz,ow,bl,h,hblk,hlen=>by
  match bl,hlen with
  |[],hlen=>exact absurd hlen (by simp[boxesP])
  |b0 ::bl,hlen=>
  simp only[packBs] at h
  split at h
  rotate_left
  .cases h
  rename_i x1 a1 b1 nx h1 a2 b2 e1 e2
  rcases cond_some h with ⟨hb,h⟩|⟨_,h⟩
  rotate_left
  .cases h
  rw[Bool.and_eq_true_iff] at hb
  obtain ⟨rfl,rfl,rfl⟩:=h
  have hbk:g.blk b=some b0:=hblk 0 b0 rfl
  have hblk':∀j blk,bl[j]?=some blk->g.blk (Nat.succ b+j)=some blk:=λj blk h=>by
   have:=hblk (j+1) blk (by simpa using h)
   rwa [show b+(j+1)=Nat.succ b+j by omega] at this
  have hlen':bl.length=boxesP ps:=by simpa[boxesP] using hlen
  let ⟨_,hx,hh,p1,p2,p3⟩:=packK_sound hS hs hbk e1
  let ⟨_,hlk⟩:=packK_nx hs hbk e1
  let ⟨q1,q2,q3⟩:=packBs_sound hS hs e2 hblk' hlen'
  refine ⟨λo ho=>(List.mem_append.1 ho).elim (p1 o) (q1 o),λo ho=>(List.mem_append.1 ho).elim (p2 o) (q2 o),λg1 s1 fz' hs1 he hf hsub hsame=>?_⟩
  let ⟨al1,k1,k2⟩:=p3 g1 s1 fz' hs1 he hf (λo ho=>hsub o (List.mem_append_left _ ho)) (λo ho=>hsame o (List.mem_append_left _ ho)) (headN bl) (λo' ho'=>by
   subst ho'
   obtain ⟨m,pre,post,rfl⟩:=hlk o' rfl
   have ho':o'=Nat.succ b:=Nat.eq_of_beq_eq_true hb.1
   subst ho'
   match ps,hb.2,hlen' with
   | .hid k' ::ps,_,hlen'=>
    match bl,hlen' with
    |c ::bl,_=>exact ⟨c,rfl,he.blk _ _ (hblk' 0 c rfl)⟩
    |[],hlen'=>exact absurd hlen' (by simp[boxesP]))
  let ⟨al2,k3,k4⟩:=q3 g1 s1 fz' hs1 he hf (λo ho=>hsub o (List.mem_append_right _ ho)) (λo ho=>hsame o (List.mem_append_right _ ho))
  exact ⟨_,.hid hh k1 k3,k2.append k4⟩
theorem BRel.notImm {I:Nat->Prop} {w:World} {ps:List Pk} {x:bden S.A ps} {al:List ASl} {bl:List Nat} (h:BRel S I w ps x bl al):∀a∈al,∀b,a.at b->¬I b:=by
 induction h with
 |nil=>simp_all
 |one _ ih=>exact ih
 |box hh h1 h2 ih=>
  intro a ha b hb
  rcases List.mem_append.1 ha with ha|ha
  .exact h1.notImm a ha b hb
  grind
 |hid hh h1 h2 ih=>
  intro a ha b hb
  rcases List.mem_append.1 ha with ha|ha
  .exact h1.notImm a ha b hb
  grind
theorem boxesP_len {I:Nat->Prop} {w:World} {ps:List Pk} {x:pden S.A ps} {vs:List Value} {al:List ASl} {bl:List Nat} (h:PRel S I w ps x vs al bl):boxesP ps=bl.length:=by
 induction h with
 |nil=>rfl
 |one _ _ ih=>exact ih
 |box _ _ _ ih=>grind[boxesP]
 |hid _ _ _ ih=>grind[boxesP]
def gh0 (I:Nat->Prop) (bl:List Nat):Gh:=⟨λo=>bl[o]?,λ_ _=>none,I⟩
theorem gh0_own {I:Nat->Prop} {bl:List Nat} {o b:Nat} (h:Owned (gh0 I bl) o b):bl[o]?=some b:=by
 obtain ⟨_,h|⟨e,x,ad,h,_⟩⟩:=h
 .exact h
 .cases h
theorem gh0_rel {I:Nat->Prop} {bl:List Nat} {w:World} (hI:∀b,I b->b<w.heap.size) (hgl:GlOk I w) (hnd:bl.Nodup) (hbl:∀b∈bl,b<w.heap.size∧¬I b) (hn:bl.length<=bigN) :
  SRel (gh0 I bl) (lowSt (⟨.nil,bl.length,0,bl.length,[],[]⟩:StV S)) w:=by
 refine ⟨hn,λo ho=>⟨?_,λe=>rfl⟩,λo b h=>?_,λo e x h=>?_,hI,λo o' b h h'=>?_,hgl⟩
 .exact List.getElem?_eq_none ho
 .have hm:=List.mem_of_getElem? h
  refine ⟨(hbl b hm).2,(hbl b hm).1,λob hob=>?_⟩
  grind[lowSt_get,Tr.get_nil]
 .cases h
 .have h1:=gh0_own h
  have h2:=gh0_own h'
  grind[List.getElem?_inj]
theorem evFun_res {E:EnvV S} {n d:Nat} {f:FuncId} {ps:List Pk} {rs:List Ck} {x:pden S.A ps} {r:RT E.pn (cden S.A rs×bden S.A ps) (den S.A S.pt×bden S.A ps)} (h:evFun E n d f ps rs x=some r) :
  (inPs 0 ⟨.nil,boxesP ps,0,boxesP ps,[],[]⟩ ps x).2.nob<=bigN∧bodyV E n d f (inPs 0 ⟨.nil,boxesP ps,0,boxesP ps,[],[]⟩ ps x).1 (inPs 0 ⟨.nil,boxesP ps,0,boxesP ps,[],[]⟩ ps x).2 (finO E.pn rs ps) (finP E.pn rs ps)=some r:=by
 unfold evFun at h
 rcases cond_some h with ⟨_,h⟩|⟨hb,h⟩
 .cases h
 simp_all
theorem RT.pan_res {R P:Type}:∀{pn:Bool} {p:P} {r:RT pn R P},RT.pan pn p=some r->RT.res pn r=.pan p
 |false,_,_,h=>by cases h
 |true,_,_,h=>by cases h;rfl
theorem conOk_of_evFun {E:EnvV S} (hE:EnvVOk E) (hdraw:∀call:CallV S,CallOkV E.T.E.P call->DrawOk E call) {f:FuncId} {fn:Func} {c:Code} (hfn:E.T.E.fnc f=some fn) (hc:fn.body=some c) (n d:Nat) (ps:List Pk) (rs:List Ck) :
  ConOk E.T.E.P f ⟨ps,rs,E.pn,evFun E n d f ps rs⟩:=by
 have hfs:=hE.tab.fnc _ _ hfn
 refine ⟨⟨fn,hfs,by rw[hc];rfl,hE.name _ _ hfn⟩,λx r h I w vs al bl hp hI hgl hap hnd hbl=>?_⟩
 dsimp only at x r h hp
 let ⟨hnb,h⟩:=evFun_res h
 have hlen:=boxesP_len hp
 have hnob0:=inPs_nob ps 0 (⟨.nil,boxesP ps,0,boxesP ps,[],[]⟩:StV S) x
 have hn0:boxesP ps<=bigN:=Nat.le_trans hnob0 hnb
 have hs00:SRel (gh0 I bl) (lowSt (⟨.nil,boxesP ps,0,boxesP ps,[],[]⟩:StV S)) w:=by
  have:=gh0_rel (S:=S) (w:=w) hI hgl hnd (λb hb=>⟨(hbl b hb).1,(hbl b hb).2.1⟩) (by omega)
  rwa [hlen]
 let ⟨g0,hr,hpw⟩:=inPs_sound (b:=0) (g:=gh0 I bl) hp hs00 (λj blk h=>by rw[Nat.zero_add];exact h) (λj hj=>⟨by simp;omega,λe=>rfl⟩)
  (λa ha b hb o hO=>(hbl b (List.mem_of_getElem? (gh0_own hO))).2.2 a ha hb) hap hnb
 generalize inPs 0 ⟨.nil,boxesP ps,0,boxesP ps,[],[]⟩ ps x=q at h hnb hr hpw hnob0
 let ⟨args,s0⟩:=q
 dsimp only at h hnb hr hpw hnob0
 have hfl0:s0.fl=0:=hr.fl
 have hlo0:s0.lo=boxesP ps:=hr.lo
 simp[bodyV,hfn,hc] at h
 rcases cond_some h with ⟨hb,h⟩|⟨_,h⟩
 rotate_left
 .cases h
 rw[Bool.and_eq_true_iff] at hb
 have hb1:args.length<=fn.ntmps:=by
  have:=Nat.le_of_ble_eq_true hb.1
  rwa [lenL_eq] at this
 have hb2:fn.ntmps<bigN:=Nat.le_of_ble_eq_true hb.2
 have hf0:=init_frel (n:=fn.ntmps) hb2 hb1 hpw
 have hcall:=callV_sound hE hdraw n d
 have core:∀(s':StV S) (g':Gh) (w':World),AftW s0 g0 w s' g' w'->∀(rs:List Ck) (t:V S) (v:Value) (r1:cden S.A rs×bden S.A ps),finV rs ps t s'=some r1->TRel g' w' (low t) v->EndPost S I w ps rs r1 al bl v w':=by
  intro s0' g0' w' h50 rs t v r h2 ht0
  unfold finV at h2
  obtain ⟨g',h5,ht⟩:=optAll_sound hE.sg (optPs ps 0) (FinR.of (lim:=boxesP ps) hfl0 (λo ho=>by rw[hr.blk];exact ⟨bl[o]'(by omega),List.getElem?_eq_getElem _⟩) h50) ht0
  generalize (optPs ps 0).foldl (optOne t (boxesP ps)) s0'=s' at h2 h5
  dsimp only at h2
  split at h2
  rotate_left
  .cases h2
  rename_i r1 fz ow b1 fz' ow' e1 e2
  split at h2
  rotate_left
  .cases h2
  rename_i s1 e3
  rcases cond_some h2 with ⟨hb,h2⟩|⟨_,h2⟩
  rotate_left
  .cases h2
  simp at h2
  subst h2
  rw[Bool.and_eq_true_iff] at hb
  have hnow:=nodupN_iff hb.1
  have hapt:=apartN_iff hb.2
  obtain ⟨vals,rfl,hvals⟩:=resL_sound ht e1
  have hba':∀j blk,bl[j]?=some blk->g'.blk (0+j)=some blk:=λj blk h=>h5.blk _ _ (by have:=(List.getElem?_eq_some_iff.1 h).1;omega) (by rw[hr.blk,Nat.zero_add];exact h)
  let ⟨p1,p2,p3⟩:=packCs_sound hE.sg h5.rel e1 hvals
  let ⟨q1,q2,q3⟩:=packBs_sound hE.sg h5.rel e2 hba' hlen.symm
  have hfr:=freezeV_low hE.sg _ e3
  let ⟨g1,hs1,he1,hfz⟩:=freeze_sound (fz++fz') h5.rel hfr (λo ho=>(List.mem_append.1 ho).elim (p1 o) (q1 o))
  let ⟨f1,f2,f3,f4,f5,f6,f7⟩:=freezeV_st e3
  have hsame:∀o∈ow++ow',(lowSt s1).ob.get o=(lowSt s').ob.get o:=λo ho=>by rw[lowSt_get,lowSt_get,f6 o (hapt o ho)]
  let ⟨al2,k1,k2⟩:=p3 g1 (lowSt s1) (fz++fz') hs1 he1 hfz (λo ho=>List.mem_append_left _ ho) (λo ho=>hsame o (List.mem_append_left _ ho))
  let ⟨al1,k3,k4⟩:=q3 g1 (lowSt s1) (fz++fz') hs1 he1 hfz (λo ho=>List.mem_append_right _ ho) (λo ho=>hsame o (List.mem_append_right _ ho))
  have hni2:=k1.notImm
  have hni1:=k3.notImm
  have hmem:∀a∈al1++al2,a∈al2++al1:=λa ha=>List.mem_append.2 ((List.mem_append.1 ha).symm)
  have hni:∀a∈al2++al1,∀b,a.at b->¬g1.imm b:=λa ha=>(List.mem_append.1 ha).elim (hni2 a) (hni1 a)
  have hAL:=k2.append k4
  have hown:=hAL.owned hni
  have hapart:=hAL.apart hs1 hnow hni
  have hfl':s'.fl=0:=h5.fl.trans hfl0
  have hlo':s'.lo=boxesP ps:=h5.lo.trans hlo0
  have horig:∀o b,Owned g1 o b->(b∈bl∨∃a∈al,a.at b)∨w.heap.size<=b:=by
   intro o b hO
   rcases he1.own o b hO with hO|hge
   .rcases h5.own o b hO with ⟨o',hO'⟩|hge
    .rcases hr.own o' b hO' with hO'|⟨a,ha,hab⟩
     .exact .inl (.inl (List.mem_of_getElem? (gh0_own hO')))
     grind
    omega
   .have:=h5.size
    omega
  have hblk1:∀b∈bl,∃o,o<boxesP ps∧g1.blk o=some b:=by
   intro b hb
   obtain ⟨j,hj,rfl⟩:=List.getElem_of_mem hb
   exact ⟨0+j,by omega,he1.blk _ _ (hba' j _ (List.getElem?_eq_getElem hj))⟩
  refine ⟨g1.imm,vals,al1,al2,λb hb=>he1.imm b (h5.imm b (hr.imm▸hb)),λb hb=>?_,hs1.imm,h5.size,λb hb hnb hna=>?_,h5.os,h5.output,rfl,k3,k1,?_,λa ha b hab=>?_,λb hb=>⟨?_,λa ha hab=>?_⟩⟩
  .have h0:∀o,Owned g0 o b->I b∨w.heap.size<=b∨∃a∈al,a.at b:=λo hO=>by
    rcases hr.own o b hO with hO|h
    .let ⟨o',_,hob⟩:=hblk1 b (List.mem_of_getElem? (gh0_own hO))
     exact absurd hb (hs1.box o' b hob).1
    simp_all
   rcases he1.immn b hb with hb|hb|⟨o,_,hO⟩
   .rcases h5.immn b hb with hb|hb|⟨o,hO⟩
    .exact .inl (by rw[hr.imm] at hb;exact hb)
    .omega
    grind
   .have:=h5.size
    omega
   .rcases h5.own o b hO with ⟨o',hO'⟩|hge
    .grind
    omega
  .refine h5.heap b hb λo hO=>?_
   rcases hr.own o b hO with hO|⟨a,ha,hab⟩
   .exact hnb (List.mem_of_getElem? (gh0_own hO))
   simp_all
  .refine List.pairwise_append.2 ⟨(List.pairwise_append.1 hapart).2.1,(List.pairwise_append.1 hapart).1,λa ha a' ha' b h1 h2=>(List.pairwise_append.1 hapart).2.2 a' ha' a ha b h2 h1⟩
  .let ⟨o,ho,hO⟩:=hown a (hmem a ha) b hab
   rcases horig o b hO with (h|h)|h
   .let ⟨o',ho',hob⟩:=hblk1 b h
    have:=hs1.uni o o' b hO ⟨(hs1.box o' b hob).1,.inl hob⟩
    grind
   .exact .inl h
   omega
  .let ⟨o',ho',hob⟩:=hblk1 b hb
   exact (hs1.box o' b hob).1
  .let ⟨o,ho,hO⟩:=hown a (hmem a ha) b hab
   let ⟨o',ho',hob⟩:=hblk1 b hb
   have:=hs1.uni o o' b hO ⟨(hs1.box o' b hob).1,.inl hob⟩
   grind
 refine calls_of_body hfs hc (wpIn_mono (evC_sound hE hcall (hdraw _ hcall) n f _ c 0 h (λh=>absurd rfl h) (Nat.le_of_lt hb2) (by omega) hf0 hr.rel) λe a' w' hq=>?_)
 rcases hq with hF|⟨ex,fr',s',g',h1,h2,h3,h4,h5,h6⟩
 .exact hF.elim
 refine evEnd_sound hE hcall (hdraw _ hcall) n (R:=ConPost S I w ps rs (RT.res E.pn r) al bl) h2 h1 h4 h5.rel (λt s'' g'' v w'' k1 k2 k3=>?_) (λt s'' g'' v w'' k1 k2 k3=>?_)
 .unfold finO at k1
  split at k1
  rotate_left
  .cases k1
  rename_i r1 e1
  simp at k1
  have e2:RT.res E.pn r=.ok r1:=by
   rw[<-k1]
   cases E.pn<;>rfl
  simp[ConPost,e2]
  exact core _ _ _ (h5.trans k3.toW) rs _ v r1 e1 k2
 .simp[finP] at k1
  split at k1
  rotate_left
  .cases k1
  rename_i r1 e1
  have e2:RT.res E.pn r=.pan (r1.1.1,r1.2):=RT.pan_res k1
  simp only[ConPost,e2]
  exact ⟨v,rfl,core _ _ _ (h5.trans k3.toW) [.dat S.pt] t v r1 e1 k2⟩
end TL
end
section
namespace TL
open Go
variable {S:Sg}
section
variable {fr fr':FrV S} {s s':StV S}
theorem opdsV_congr:∀{l:List Operand},(∀x∈l,opdV fr x=opdV fr' x)->opdsV fr l=opdsV fr' l
 |[],_=>rfl
 |x ::l,h=>by simp[opdsV,h x List.mem_cons_self,opdsV_congr λy hy=>h y (List.mem_cons_of_mem _ hy)]
theorem partsV_congr:∀{l:List (Nat×Operand)},(∀x∈l.map (·.2),opdV fr x=opdV fr' x)->partsV fr l=partsV fr' l
 |[],_=>rfl
 |(k,x) ::l,h=>by simp[partsV,h x (by simp),partsV_congr λy hy=>h y (by simp at hy ⊢;exact .inr hy)]
theorem optV_congr:∀{x:Option Operand},(∀y∈x.toList,opdV fr y=opdV fr' y)->optV fr x=optV fr' x
 |none,_=>rfl
 |some x,h=>by simp[optV,h x (by simp)]
theorem opV0_congr (E:EnvT) (s:StV S) (o:Op) (h:∀x∈o.operands.toList,opdV fr x=opdV fr' x):opV0 E fr s o=opV0 E fr' s o:=by
 cases o with
 |buildSlice t n ps=>
  grind[Op.operands,opV0,partsV_congr]
 |build t ps=>
  grind[Op.operands,opV0,partsV_congr]
 |makeFunc f a b=>
  grind[Op.operands,opV0,opdsV_congr]
 |slice t x l hh m=>
  grind[Op.operands,opV0,optV_congr]
 |alloc=>rfl
 |box t x=>grind[Op.operands,opV0]
 |move x=>grind[Op.operands,opV0]
 |assign x=>grind[Op.operands,opV0]
 |pick x y z=>grind[Op.operands,opV0]
 |load t x=>grind[Op.operands,opV0]
 |store t x y=>grind[Op.operands,opV0]
 |nilCheck x=>grind[Op.operands,opV0]
 |binOp op t x y u=>grind[Op.operands,opV0]
 |unOp op t x=>grind[Op.operands,opV0]
 |convert t u x=>grind[Op.operands,opV0]
 |makeInterface t x=>grind[Op.operands,opV0]
 |extract x k=>grind[Op.operands,opV0]
 |fieldAddr t x k=>grind[Op.operands,opV0]
 |field t x k=>grind[Op.operands,opV0]
 |indexAddr t x k=>grind[Op.operands,opV0]
 |index t x k=>grind[Op.operands,opV0]
 |typeAssert x t u ok=>grind[Op.operands,opV0]
 |_=>rfl
theorem hintV_congr:∀{x:Option Operand},(∀y∈x.toList,opdV fr y=opdV fr' y)->hintV fr x=hintV fr' x
 |none,_=>rfl
 |some x,h=>by simp[hintV,h x (by simp)]
theorem opX_congr (E:EnvT) (s:StV S) (o:Op) (h:∀x∈o.operands.toList,opdV fr x=opdV fr' x):opX E fr s o=opX E fr' s o:=by
 cases o with
 |makeMap t r=>
  grind[opX,hintV_congr,Op.operands]
 |lookup t x ix ok=>grind[Op.operands,opX]
 |mapUpdate t x ix y=>grind[Op.operands,opX]
 |insert t x ix y=>grind[Op.operands,opX]
 |makeSlice t n c=>grind[Op.operands,opX]
 |range t x=>grind[Op.operands,opX]
 |nilCheck x=>grind[Op.operands,opX]
 |typeAssert x t u ok=>grind[Op.operands,opX]
 |build t ps=>
  grind[Op.operands,opX,partsV_congr]
 |buildSlice t n ps=>
  grind[Op.operands,opX,partsV_congr]
 |binOp op t x y u=>
  have hx:opdV fr x=opdV fr' x:=h x (by simp[Op.operands])
  cases op<;>first
   |rfl
   |(
     cases y with
     |const v=>
      cases v with
      |nilIface=>simp only[opX,hx]
      |pointer a=>cases a<;>first|rfl|simp only[opX,hx]
      |slice a n m=>cases a<;>cases n<;>cases m<;>first|rfl|simp[opX,hx]
      |_=>rfl
     |_=>rfl)
 |_=>rfl
theorem opN_congr (E:EnvT) (s:StV S) (o:Op) (h:∀x∈o.operands.toList,opdV fr x=opdV fr' x):opN E fr s o=opN E fr' s o:=by
 cases o with
 |indexAddr t x ix=>grind[Op.operands,opN]
 |load t a=>grind[Op.operands,opN]
 |store t a x=>
  simp[Op.operands] at h
  cases x with
  |tmp k=>
   have h2:fr.get k=fr'.get k:=h.2
   simp[opN,h.1,h2]
  |_=>rfl
 |buildSlice t n ps=>
  simp[opN]
  split
  .rename_i kx hps
   have h2:fr.get kx=fr'.get kx:=h (.tmp kx) (by
    grind[Op.operands])
   simp[h2]
  .rfl
  .rfl
 |slice t x lo hi mx=>
  cases lo<;>cases hi<;>cases mx<;>first
   |rfl
   |(
     rename_i y
     have h1:opdV fr x=opdV fr' x:=h x (by simp[Op.operands])
     have h2:opdV fr y=opdV fr' y:=h y (by simp[Op.operands])
     simp only[opN,h1,h2])
 |_=>rfl
theorem opV_congr (E:EnvT) (s:StV S) (o:Op) (h:∀x∈o.operands.toList,opdV fr x=opdV fr' x):opV E fr s o=opV E fr' s o:=by
 unfold opV
 rw[opN_congr E s o h,opV0_congr E s o h,opX_congr E s o h]
theorem opS_congr (E:EnvT) (s:StV S) (o:Op) (h:∀x∈o.operands.toList,opdV fr x=opdV fr' x):opS E fr s o=opS E fr' s o:=by
 cases o with
 |next it b=>simp[Op.operands] at h;cases b<;>first|rfl|simp[opS,h]
 |lookup t x ix ok=>grind[Op.operands,opS]
 |index t x ix=>grind[Op.operands,opS]
 |_=>rfl
theorem call_opds {c:Call} (h:∀x∈c.operands.toList,opdV fr x=opdV fr' x):opdsV fr c.args.toList=opdsV fr' c.args.toList∧(∀f,c.callee=.value f->opdV fr f=opdV fr' f)∧∀x m,c.callee=.invoke x m->opdV fr x=opdV fr' x:=by
 grind[Call.operands,opdsV_congr]
theorem evOper_congr (E:EnvV S) (call:CallV S) (o:Oper) (s:StV S) {ω:Type} (kp:V S->StV S->Option ω) (k:V S->StV S->List Nat->Option ω) (h:∀x∈o.op.operands.toList,opdV fr x=opdV fr' x) :
  evOper E call o fr s kp k=evOper E call o fr' s kp k:=by
 unfold evOper
 have hop:=opV_congr E.T s o.op h
 have hos:=opS_congr E.T s o.op h
 cases hc:o.op with
 |call c=>
  rw[hc] at h
  let ⟨h1,h2,h3⟩:=call_opds h
  dsimp only
  rw[h1]
  cases hcc:c.callee with
  |value f=>simp_all
  |builtin b=>rfl
  |invoke x m=>simp_all
 |panic x=>
  grind[Op.operands]
 |_=>
  rw[hc] at hop hos
  simp only[hop,hos]
theorem evQuiet_congr (E:EnvV S) (g:Option Bool) (o:Oper) (s:StV S) {ω:Type} (k:V S->Option ω) (h:∀x∈o.op.operands.toList,opdV fr x=opdV fr' x) :
  evQuiet E g fr s o k=evQuiet E g fr' s o k:=by
 unfold evQuiet
 have hop:=opV_congr E.T s o.op h
 have hos:=opS_congr E.T s o.op h
 cases hc:o.op with
 |call c=>
  grind[Op.operands,call_opds]
 |buildSlice t n ps=>
  grind[Op.operands,partsV_congr]
 |slice t x l hh m=>
  grind[Op.operands]
 |_=>first|rfl|(rw[hc] at hop hos;simp only[hop,hos])
theorem quietB_congr (E:EnvV S) (o:Oper) (h:∀x∈o.op.operands.toList,opdV fr x=opdV fr' x):quietB E fr o=quietB E fr' o:=by
 unfold quietB
 cases hc:o.op with
 |call c=>
  grind[Op.operands,call_opds]
 |buildSlice t n ps=>
  grind[Op.operands,partsV_congr]
 |slice t x l hh m=>
  grind[Op.operands]
 |_=>rfl
def tmpsOf (o:Op):List Nat:=o.operands.toList.filterMap λx=>match x with|.tmp k=>some k|_=>none
theorem opd_of_tmps {o:Op} (h:∀k∈tmpsOf o,fr.get k=fr'.get k):∀x∈o.operands.toList,opdV fr x=opdV fr' x:=by
 intro x hx
 cases x with
 |tmp k=>exact h k (List.mem_filterMap.2 ⟨.tmp k,hx,rfl⟩)
 |_=>rfl
theorem gdFrV_congr {o:Op} (hb:∀k∈tmpsOf o,k<bigN) (h:∀k∈tmpsOf o,fr.get k=fr'.get k):∀k∈tmpsOf o,(gdFrV fr o).get k=(gdFrV fr' o).get k:=by
 have key:∀(l:List Operand) (f f':FrV S),(∀k,.tmp k∈l->k∈tmpsOf o)->(∀k∈tmpsOf o,f.get k=f'.get k)->∀k∈tmpsOf o,
   (l.foldl (λf x=>match x with
    | .tmp k=>match fr.get k with
     |some (.gd _ v)=>f.put k v
     |_=>f
    |_=>f) f).get k=(l.foldl (λf x=>match x with
    | .tmp k=>match fr'.get k with
     |some (.gd _ v)=>f.put k v
     |_=>f
    |_=>f) f').get k:=by
  intro l
  induction l with
  |nil=>simp_all
  |cons x l ih=>
   intro f f' hl hf k hk
   simp
   grind[FrV.get_put]
 exact key _ _ _ (λk hk=>List.mem_filterMap.2 ⟨.tmp k,hk,rfl⟩) h
theorem gdOk_congr {o:Op} (c:Bool) (h:∀k∈tmpsOf o,fr.get k=fr'.get k):gdOk c fr o=gdOk c fr' o:=by
 have key:∀(l:List Operand) (q:Bool),(∀k,.tmp k∈l->k∈tmpsOf o)->
   l.foldl (λp x=>match x with
    | .tmp k=>match fr.get k with
     |some (.gd g _)=>p&&imp c g
     |_=>p
    |_=>p) q=l.foldl (λp x=>match x with
    | .tmp k=>match fr'.get k with
     |some (.gd g _)=>p&&imp c g
     |_=>p
    |_=>p) q:=by
  intro l
  induction l with
  |nil=>intro q _;rfl
  |cons x l ih=>
   grind
 exact key _ _ (λk hk=>List.mem_filterMap.2 ⟨.tmp k,hk,rfl⟩)
def gdTmp (ops:List Oper) (o:Oper):Option Nat:=match o.guard with
 |none=>none
 |some (j,_)=>(nth ops j).bind (·.dst)
theorem guardV_congr {ops:List Oper} {o:Oper} (h:∀k,gdTmp ops o=some k->fr.get k=fr'.get k):guardV ops fr o=guardV ops fr' o:=by
 unfold guardV
 cases hg:o.guard with
 |none=>rfl
 |some p=>
  let ⟨j,want⟩:=p
  dsimp only
  cases hd:(nth ops j).bind (·.dst) with
  |none=>rfl
  |some k=>
   simp
   rw[h k (by simp[gdTmp,hg,hd])]
theorem skipV_congr {ops:List Oper} {o:Oper} (h:∀k,gdTmp ops o=some k->fr.get k=fr'.get k):skipV ops fr o=skipV ops fr' o:=by
 unfold skipV
 cases hg:o.guard with
 |none=>rfl
 |some p=>
  let ⟨j,want⟩:=p
  dsimp only
  cases hd:(nth ops j).bind (·.dst) with
  |none=>rfl
  |some k=>
   simp
   rw[h k (by simp[gdTmp,hg,hd])]
theorem evStepV_congr (E:EnvV S) (call:CallV S) {ops:List Oper} {o:Oper} (s:StV S) {ω:Type} (kp:V S->StV S->Option ω) (k:V S->StV S->List Nat->Option ω) (hn:fr.n=fr'.n) (hb:∀k∈tmpsOf o.op,k<bigN)
  (h:∀k∈tmpsOf o.op,fr.get k=fr'.get k) (hg:∀k,gdTmp ops o=some k->fr.get k=fr'.get k):evStepV E call ops o fr s kp k=evStepV E call ops o fr' s kp k:=by
 unfold evStepV
 have h1:okDstV fr o.dst=okDstV fr' o.dst:=by cases o.dst<;>simp only[okDstV,hn]
 have h2:=opd_of_tmps h
 have h3:=opd_of_tmps (gdFrV_congr hb h)
 rw[h1,guardV_congr hg,skipV_congr hg]
 simp[evOper_congr E call o s kp k h2,evOper_congr E call o s kp k h3,quietB_congr E o h3,gdOk_congr (o:=o.op) _ h]
 grind[evQuiet_congr]
end
theorem armsQ_bind {ω:Type} (k:V S->Option ω) {D:Option ω} {D':Option (V S)} (h:D=D'.bind k):∀l:List (Bool×V S×StV S),armsQ k D l=(armsQ some D' l).bind k
 |[]=>h
 |p ::l=>by
  simp[armsQ,armsQ_bind k h l]
  cases p.1<;>rfl
theorem evQuiet_bind (E:EnvV S) (g:Option Bool) (fr:FrV S) (s:StV S) (o:Oper) {ω:Type} (k:V S->Option ω):evQuiet E g fr s o k=(evQuiet E g fr s o some).bind k:=by
 have gk:∀(p:Bool) (t:V S),gchk g p (k t)=(gchk g p (some t)).bind k:=by
  intro p t
  cases g with
  |none=>cases p<;>rfl
  |some c=>cases c<;>cases p<;>rfl
 unfold evQuiet
 split
 .split
  .rfl
  .split
   .grind
   .split
    .rfl
    .split
     .rfl
     .rename_i c _
      cases (onlyDat c.ps&&(allDat c.rs&&(noShs _&&!c.pn))) with
      |false=>rfl
      |true=>
       split
       .unfold bnd
        grind
       .rfl
   .rfl
 iterate 11
  .rfl
 .grind
 .grind
 grind[armsQ_bind]
def Sm (s s':StV S) (v:V S):Prop:=∀o,mentP (Nat.beq o) v=true->s'.ob.get o=s.ob.get o
def Sms (s s':StV S) (l:List (V S)):Prop:=∀o,mentPs (Nat.beq o) l=true->s'.ob.get o=s.ob.get o
theorem Sms.cons {s s':StV S} {v:V S} {l:List (V S)} (h:Sms s s' (v ::l)):Sm s s' v∧Sms s s' l:=
 ⟨λo ho=>h o (by simp[mentPs,ho]),λo ho=>h o (by simp[mentPs,ho])⟩
theorem beq_self (o:Nat):Nat.beq o o=true:=by simp
theorem slV_sm {s s':StV S} {v:V S} (h:Sm s s' v) (e:Ty):slV s' e v=slV s e v:=by
 cases v with
 |sh o r=>simp[slV,h o (by simp[mentP])]
 |ty t x=>cases t<;>rfl
 |_=>rfl
theorem arrV_sm {s s':StV S} {o:Nat} (h:s'.ob.get o=s.ob.get o) (e:Nat):arrV s' o e=arrV s o e:=by simp[arrV,h]
mutual
theorem toTy_sm {s s':StV S}:∀(t:Ty) (v:V S),Sm s s' v->noSh v=true->toTy s' t v=toTy s t v
 |t,.agg cs,h,hn=>by
  cases t with
  |st n=>simp[toTy,toTys_sm (S.fs n) cs h hn]
  |_=>simp only[toTy]
 |t,.ifc u v,h,hn=>by
  cases t with
  |ifc n=>
   simp[toTy]
   cases altIx (S.alts n) u with
   |none=>rfl
   |some i=>simp[toTy_sm (altTy (S.alts n) i) v h hn]
  |_=>simp only[toTy]
 |t,.sh o r,_,hn=>by simp[noSh] at hn
 |t,.nel _ _ _ _,_,hn=>by rfl
 |t,.cln _ _ _,_,_=>by cases t<;>simp only[toTy]
 |t,.ty _ _,_,_=>by rfl
 |t,.kb _,_,_=>by cases t<;>simp only[toTy]
 |t,.kn _ _,_,_=>by cases t<;>simp only[toTy]
 |t,.dat d,_,_=>by
  cases t with
  |ifc n=>
   cases d with
   |lit v=>cases v<;>simp only[toTy]
   |_=>simp only[toTy]
  |opt n=>
   cases d with
   |lit v=>cases v with
    |pointer a=>cases a<;>simp only[toTy]
    |_=>simp only[toTy]
   |_=>simp only[toTy]
  |_=>simp only[toTy]
 |t,.ptr _ _,_,_=>by cases t<;>simp only[toTy]
 |t,.ept _ _ _,_,_=>by cases t<;>simp only[toTy]
 |t,.epw _ _ _ _,_,_=>by cases t<;>simp only[toTy]
 |t,.emp,_,_=>by cases t<;>simp only[toTy]
 |t,.clp _ _ _,_,_=>by cases t<;>simp only[toTy]
 |t,.fn _ _ _,_,_=>by cases t<;>simp only[toTy]
 |t,.tup _,_,_=>by cases t<;>simp only[toTy]
 |t,.gd _ _,_,_=>by cases t<;>simp only[toTy]
 |t,.mp _,_,_=>by cases t<;>simp only[toTy]
 |t,.yld _,_,_=>by cases t<;>simp only[toTy]
 |t,.slb _ _,_,_=>by cases t<;>simp only[toTy]
 |t,.itr _,_,_=>by cases t<;>simp only[toTy]
 |t,.ub _,_,_=>by cases t<;>simp only[toTy]
theorem toTys_sm {s s':StV S}:∀(ts:List Ty) (l:List (V S)),Sms s s' l->noShs l=true->toTys s' ts l=toTys s ts l
 |[],[],_,_=>rfl
 |t ::ts,v ::l,h,hn=>by
  simp[noShs,Bool.and_eq_true] at hn
  simp[toTys,toTy_sm t v h.cons.1 hn.1,toTys_sm ts l h.cons.2 hn.2]
 |[],_ ::_,_,_=>rfl
 |_ ::_,[],_,_=>rfl
end
def cut2 (r:ResV S):Option (Bool×V S):=match r with
 |some (c,t,_)=>some (c,t)
 |none=>none
theorem cut2_cond {b:Bool} {x y:ResV S} (h:b=true->cut2 x=cut2 y):cut2 (bif b then x else none)=cut2 (bif b then y else none):=by
 grind
theorem cut2_cond2 {b:Bool} {x y x' y':ResV S} (h:cut2 x=cut2 x') (h':cut2 y=cut2 y'):cut2 (bif b then x else y)=cut2 (bif b then x' else y'):=by
 grind
theorem cut2_map {α:Type} (x:Option α) (f g:α->Bool×V S×StV S) (h:∀a,(f a).1=(g a).1∧(f a).2.1=(g a).2.1):cut2 (x.map f)=cut2 (x.map g):=by
 cases x with
 |none=>rfl
 |some a=>grind[cut2]
section
variable {fr:FrV S} {s s':StV S}
theorem loadV_sm (i:TI) (τ:Option Ty) {a:V S} (h:Sm s s' a):cut2 (loadV i τ s' a)=cut2 (loadV i τ s a):=by
 cases a with
 |ptr o off=>
  simp[loadV,h o (by simp[mentP])]
  cases s.ob.get o with
  |none=>rfl
  |some ob=>
   cases ob with
   |box cs=>
    dsimp only
    cases Nat.beq (lenL ((cs.drop off).take i.size)) i.size with
    |false=>rfl
    |true=>exact cut2_map _ _ _ λ_=>⟨rfl,rfl⟩
   |_=>rfl
 |ept t x off=>exact cut2_map _ _ _ λ_=>⟨rfl,rfl⟩
 |epw o e k off=>
  simp[loadV,arrV_sm (h o (by simp[mentP]))]
  cases arrV s o e with
  |none=>rfl
  |some x=>exact cut2_map _ _ _ λ_=>⟨rfl,rfl⟩
 |_=>rfl
theorem indexAddrV_sm (i:TI) (τ:Option Ty) {a b:V S} (h:Sm s s' a):cut2 (indexAddrV i τ s' a b)=cut2 (indexAddrV i τ s a b):=by
 unfold indexAddrV
 split
 .rename_i e n hk _
  cases a with
  |sh o r=>
   simp[arrV_sm (h o (by simp[mentP]))]
   cases arrV s o r with
   |none=>rfl
   |some x=>dsimp only;cases tyEq x.1 e<;>rfl
  |ty t x=>
   dsimp only
   rw[slV_sm h]
   cases slV s e (.ty t x)<;>rfl
  |emp=>rfl
  |clp n t l=>dsimp only;rw[slV_sm h];cases slV s e (.clp n t l)<;>rfl
  |cln n t l=>dsimp only;rw[slV_sm h];cases slV s e (.cln n t l)<;>rfl
  |_=>rfl
 .unfold arrAddrV
  split
  .rename_i t d b k
   cases Nat.blt k _<;>rfl
  .rfl
 .rfl
theorem opV0_sm (E:EnvT) (o:Op) (hq:movesB o=false) (hm:∀x∈o.operands.toList,∀v,opdV fr x=some v->Sm s s' v):cut2 (opV0 E fr s' o)=cut2 (opV0 E fr s o):=by
 cases o with
 |alloc=>cases hq
 |box=>cases hq
 |store=>cases hq
 |buildSlice=>cases hq
 |slice=>cases hq
 |move x=>exact cut2_map _ _ _ λ_=>⟨rfl,rfl⟩
 |assign x=>exact cut2_map _ _ _ λ_=>⟨rfl,rfl⟩
 |pick x y z=>
  simp[opV0]
  split
  .exact cut2_map _ _ _ λ_=>⟨rfl,rfl⟩
  .rfl
 |build t ps=>
  simp[opV0]
  split
  .split
   .exact cut2_map _ _ _ λ_=>⟨rfl,rfl⟩
   .rfl
  .rfl
 |load t x=>
  grind[opV0,loadV_sm,Op.operands]
 |nilCheck x=>
  simp[opV0]
  split<;>first|rfl|(split<;>rfl)
 |binOp op t x y u=>
  simp[opV0]
  split
  .exact cut2_map _ _ _ λ_=>⟨rfl,rfl⟩
  .rfl
 |unOp op t x=>
  simp[opV0]
  split
  .exact cut2_map _ _ _ λ_=>⟨rfl,rfl⟩
  .rfl
 |convert t u x=>
  simp[opV0]
  split
  .unfold convV
   split
   .exact cut2_map _ _ _ λ_=>⟨rfl,rfl⟩
   .exact cut2_map _ _ _ λ_=>⟨rfl,rfl⟩
   .rfl
  .rfl
 |makeInterface t x=>
  simp[opV0]
  split
  .split<;>rfl
  .rfl
 |makeFunc f a b=>
  simp[opV0]
  split<;>rfl
 |extract x k=>
  simp[opV0]
  split
  .unfold extractV
   split
   .exact cut2_map _ _ _ λ_=>⟨rfl,rfl⟩
   .rfl
  .rfl
 |fieldAddr t x k=>
  simp[opV0]
  split
  .unfold fieldAddrV
   split
   .split
    .rename_i off size ag _
     cases Nat.beq size 0 with
     |true=>rfl
     |false=>
      first|rfl|(simp only[cond_false];split<;>rfl)
    .rfl
   .rfl
  .rfl
 |field t x k=>
  simp[opV0]
  split
  .unfold fieldV
   split
   .split
    .rename_i off size ag cs _ _
     dsimp only
     cases (Nat.beq (lenL ((cs.drop off).take size)) size&&!(Nat.beq size 0)) with
     |false=>rfl
     |true=>exact cut2_map _ _ _ λ_=>⟨rfl,rfl⟩
    .rfl
   .rfl
  .rfl
 |indexAddr t x ix=>
  grind[opV0,indexAddrV_sm,Op.operands]
 |index t x ix=>
  simp[opV0]
  split
  .unfold indexV
   split<;>rfl
  .rfl
 |typeAssert x a t ok=>
  simp[opV0]
  split
  .rename_i i v h1 h2
   unfold assertV
   split
   .rfl
   .rename_i u v _
    cases Nat.beq u t with
    |true=>rfl
    |false=>exact cut2_map _ _ _ λ_=>⟨rfl,rfl⟩
   .rename_i u v _
    cases Nat.beq u t<;>rfl
   .rfl
  .rfl
 |_=>rfl
end
section
variable {fr:FrV S} {s s':StV S}
theorem cut2_none {r r':ResV S} (h:cut2 r=cut2 r'):r=none↔r'=none:=by
 cases r<;>cases r'<;>simp_all [cut2]
theorem mapV_sm {s s':StV S} {kt vt:Ty} {v:V S} (h:Sm s s' v):mapV s' kt vt v=mapV s kt vt v:=by
 unfold mapV
 split
 .rename_i o
  rw[h o (by simp[mentP])]
 .rfl
 .rfl
 .rfl
theorem opX_sm (E:EnvT) (o:Op) (hq:movesB o=false) (hm:∀x∈o.operands.toList,∀v,opdV fr x=some v->Sm s s' v):cut2 (opX E fr s' o)=cut2 (opX E fr s o):=by
 cases o with
 |makeMap=>cases hq
 |mapUpdate=>cases hq
 |insert=>cases hq
 |makeSlice=>cases hq
 |range=>cases hq
 |buildSlice=>cases hq
 |lookup t x ix ok=>
  simp[opX]
  split
  .rename_i m xv kv h1 h2 h3
   have:=hm x (by simp[Op.operands]) _ h2
   simp[mapV_sm this]
   split
   .split<;>rfl
   .rfl
  .rfl
 |nilCheck x=>
  simp[opX]
  split<;>rfl
 |typeAssert x t u ok=>
  simp[opX]
  split
  .rename_i i τ n y _ _ _
   split
   .rfl
   .rename_i j _ _
    cases tyEq (altTy (S.alts n) j) τ<;>cases ok<;>rfl
   .cases ok<;>rfl
  .rfl
 |build t ps=>
  simp only[opX]
  split
  .split
   .exact cut2_map _ _ _ λ_=>⟨rfl,rfl⟩
   .rfl
  .rfl
 |binOp op t x y u=>
  cases op<;>first
   |rfl
   |(
     cases y with
     |const v=>
      cases v with
      |nilIface=>simp only[opX];split<;>first|rfl|(split<;>rfl)
      |pointer a=>cases a<;>first|rfl|(simp only[opX];split<;>first|rfl|(split<;>rfl))
      |slice a n m=>
       cases a<;>cases n<;>cases m<;>first
        |rfl
        |(
         simp[opX]
         split
         .rename_i h2
          have:=hm x (by simp[Op.operands]) _ h2
          simp[slV_sm this]
          split<;>rfl
         .rfl)
      |_=>rfl
     |_=>rfl)
 |_=>rfl
theorem opN_sm (E:EnvT) (o:Op) (hq:movesB o=false) (hm:∀x∈o.operands.toList,∀v,opdV fr x=some v->Sm s s' v):cut2 (opN E fr s' o)=cut2 (opN E fr s o):=by
 cases o with
 |alloc=>cases hq
 |slice=>cases hq
 |store=>cases hq
 |buildSlice=>cases hq
 |indexAddr t x ix=>
  simp[opN]
  split
  .rename_i o r h1
   rw[hm x (by simp[Op.operands]) _ h1 o (by simp[mentP])]
   split
   .split
    .split
     .exact cut2_cond λ_=>rfl
     .rfl
    .rfl
   .rfl
  .split
   .split
    .exact cut2_cond λ_=>rfl
    .rfl
   .rfl
  .rfl
 |load t a=>
  simp only[opN]
  split
  .rename_i o e k off h1
   rw[hm a (by simp[Op.operands]) _ h1 o (by simp[mentP])]
   split
   .split
    .exact cut2_cond λ_=>cut2_cond2 (cut2_cond λ_=>rfl) (cut2_cond λ_=>cut2_map _ _ _ λ_=>⟨rfl,rfl⟩)
    .rfl
   .rfl
  .rfl
 |_=>rfl
theorem opV_cut (E:EnvT) {o:Op} (h0:cut2 (opN E fr s' o)=cut2 (opN E fr s o)) (h1:cut2 (opV0 E fr s' o)=cut2 (opV0 E fr s o)) (h2:cut2 (opX E fr s' o)=cut2 (opX E fr s o)):cut2 (opV E fr s' o)=cut2 (opV E fr s o):=by
 grind[opV,cut2_none]
theorem opV_sm (E:EnvT) (o:Op) (hq:movesB o=false) (hm:∀x∈o.operands.toList,∀v,opdV fr x=some v->Sm s s' v):cut2 (opV E fr s' o)=cut2 (opV E fr s o):=by
 grind[opV0_sm,opX_sm,opN_sm,opV_cut]
def cutA (arms:List (Bool×V S×StV S)):List (Bool×V S):=arms.map λp=>(p.1,p.2.1)
theorem armsQ_cut {ω:Type} (k:V S->Option ω) (d:Option ω):∀{l m:List (Bool×V S×StV S)},cutA l=cutA m->armsQ k d l=armsQ k d m
 |[],[],_=>rfl
 |p ::l,q ::m,h=>by
  simp[cutA,List.map_cons,List.cons.injEq,Prod.mk.injEq] at h
  simp[armsQ,h.1.1,h.1.2,armsQ_cut k d (l:=l) (m:=m) h.2]
 |[],_ ::_,h=>by simp[cutA] at h
 |_ ::_,[],h=>by simp[cutA] at h
def cutS (r:Option (List (Bool×V S×StV S)×Bool×V S×StV S)):Option (List (Bool×V S)×Bool×V S):=match r with
 |none=>none
 |some (l,p,d,_)=>some (cutA l,p,d)
theorem armsIx_cut (n:Int) (ag:Bool) (sz:Nat) (cs:List (V S)) (s s':StV S):∀l:List Nat,cutA (armsIx n ag sz cs s' l)=cutA (armsIx n ag sz cs s l)
 |[]=>rfl
 |j ::l=>by
  simp only[armsIx]
  split
  .simp[cutA,List.map_cons,List.cons.injEq,true_and]
   exact armsIx_cut n ag sz cs s s' l
  .rfl
theorem opS_sm (E:EnvT) (o:Op) (hq:movesB o=false) (hm:∀x∈o.operands.toList,∀v,opdV fr x=some v->Sm s s' v):cutS (opS E fr s' o)=cutS (opS E fr s o):=by
 cases o with
 |next=>cases hq
 |lookup t x ix ok=>
  simp[opS]
  split
  .rename_i m oid kv h1 h2 h3
   have:=hm x (by simp[Op.operands]) _ h2 oid (by simp[mentP])
   rw[this]
   split
   .split
    .simp_all[cutS,cutA]
    .rfl
   .rfl
  .rfl
 |index t x ix=>
  simp[opS]
  split
  .rename_i i cs kv _ _ _
   split
   .cases Nat.beq (lenL cs) i.size with
    |false=>rfl
    |true=>simp[cond_true,cutS,armsIx_cut _ _ _ _ s s']
   .rfl
  .rfl
 |_=>rfl
end
theorem elemsV_sm {s s':StV S} {e:Ty}:∀{ps:List (Nat×V S)} {es:List (den S.A e)},(∀p∈ps,Sm s s' p.2)->(∀p∈ps,noSh p.2=true)->elemsV s' e es ps=elemsV s e es ps
 |[],es,_,_=>rfl
 |(k,v) ::ps,es,h,hn=>by
  simp[elemsV,toTy_sm e v (h _ List.mem_cons_self) (hn _ List.mem_cons_self)]
  cases toTy s e v with
  |none=>rfl
  |some x=>
   dsimp only
   rw[elemsV_sm (λp hp=>h p (List.mem_cons_of_mem _ hp)) (λp hp=>hn p (List.mem_cons_of_mem _ hp))]
theorem partsV_mem {fr:FrV S}:∀{ps:List (Nat×Operand)} {l:List (Nat×V S)},partsV fr ps=some l->∀p∈l,∃x∈ps.map (·.2),opdV fr x=some p.2
 |[],l,h,p,hp=>by grind[partsV]
 |(k,x) ::ps,l,h,p,hp=>by
  simp[partsV] at h
  split at h
  .rename_i t r h1 h2
   simp at h
   subst h
   rcases List.mem_cons.1 hp with rfl|hp
   .simp_all
   .let ⟨y,hy,h⟩:=partsV_mem h2 p hp
    grind
  .cases h
theorem opdsV_mem {fr:FrV S}:∀{ps:List Operand} {l:List (V S)},opdsV fr ps=some l->∀v∈l,∃x∈ps,opdV fr x=some v
 |[],l,h,p,hp=>by grind[opdsV]
 |x ::ps,l,h,p,hp=>by
  simp[opdsV] at h
  split at h
  .rename_i t r h1 h2
   simp at h
   subst h
   rcases List.mem_cons.1 hp with rfl|hp
   .simp_all
   .let ⟨y,hy,h⟩:=opdsV_mem h2 p hp
    grind
  .cases h
theorem sliceV_sm (i:TI) (τ:Option Ty) {s s':StV S} {v:V S} (hs:∀e,slV s' e v=slV s e v) (hown:ownV v=[]) (l h m:Option (V S)):cut2 (sliceV i τ s' v l h m)=cut2 (sliceV i τ s v l h m):=by
 unfold sliceV
 rw[hown]
 simp[freezeV,hs]
 split
 .split
  .split<;>rfl
  .rfl
 .rename_i e lo _
  cases i.kd with
  |slice a b c d=>
   cases slV s e v with
   |none=>rfl
   |some es=>
    dsimp only
    cases boundV (lenI es) h with
    |none=>rfl
    |some hi=>
     cases m with
     |none=>rfl
     |some y=>
      cases h with
      |none=>rfl
      |some z=>
       cases y with
       |kn k n=>
        cases k with
        |i64=>cases n with
         |ofNat n=>cases n<;>rfl
         |negSucc n=>rfl
        |_=>rfl
       |ty t x=>
        dsimp only
        cases intV .i64 (V.ty (S:=S) t x)<;>rfl
       |_=>rfl
  |_=>rfl
 .rfl
theorem packPs_sm {s s':StV S}:∀{ps:List Pk} {l:List (V S)},onlyDat ps=true->(∀v∈l,Sm s s' v)->noShs l=true->packPs s' ps l=packPs s ps l
 |[],[],_,_,_=>rfl
 | .one (.dat t) ::ps,v ::l,ho,h,hn=>by
  simp[noShs,Bool.and_eq_true] at hn
  simp[packPs,packC,toTy_sm t v (h v List.mem_cons_self) hn.1,packPs_sm (ps:=ps) (by simpa[onlyDat] using ho) (λv hv=>h v (List.mem_cons_of_mem _ hv)) hn.2]
 | .one (.own _) ::_,_,ho,_,_=>by simp[onlyDat] at ho
 | .one (.nown ..) ::_,_,ho,_,_=>by simp[onlyDat] at ho
 | .one (.nil _) ::_,_,ho,_,_=>by simp[onlyDat] at ho
 | .one (.ptr _) ::_,_,ho,_,_=>by simp[onlyDat] at ho
 | .box _ ::_,_,ho,_,_=>by simp[onlyDat] at ho
 |[],_ ::_,_,_,_=>rfl
 | .one _ ::_,[],_,_,_=>rfl
theorem mentPs_mem {p:Nat->Bool}:∀{l:List (V S)} {v:V S},v∈l->mentP p v=true->mentPs p l=true
 |a ::l,v,h,hm=>by
  rcases List.mem_cons.1 h with rfl|h
  .simp[mentPs,hm]
  .simp[mentPs,mentPs_mem h hm]
theorem builtin_len0_sm (E:EnvT) {s s':StV S} {ts:Array TypeId} {args:List (V S)} (h:∀v∈args,Sm s s' v):cut2 (builtinV0 E s' .len ts args)=cut2 (builtinV0 E s .len ts args):=by
 unfold builtinV0
 split
 .rename_i x _
  split
  .split<;>rfl
  .split
   .rw[slV_sm (h _ (by simp))]
    exact cut2_map _ _ _ λ_=>⟨rfl,rfl⟩
   .rfl
  .rfl
 .simp_all
 .rfl
theorem builtin_quiet_sm (E:EnvT) {s s':StV S} {b:Builtin} (hb:quietBi b=true) {ts:Array TypeId} {args:List (V S)} (h:∀v∈args,Sm s s' v):cut2 (builtinV E s' b ts args)=cut2 (builtinV E s b ts args):=by
 have h1:cut2 (builtinV0 E s' b ts args)=cut2 (builtinV0 E s b ts args):=by
  cases b with
  |len=>exact builtin_len0_sm E h
  |max=>rfl
  |min=>rfl
  |_=>cases hb
 have h2:cut2 (builtinX E s' b ts args)=cut2 (builtinX E s b ts args):=by
  unfold builtinX
  split
  .rename_i o
   rw[h (.mp o) (by simp) o (by simp[mentP])]
   split<;>rfl
  .split<;>rfl
  .split<;>rfl
  .split
   .split<;>rfl
   .rfl
  .rfl
 have h0:cut2 (builtinN E s' b ts args)=cut2 (builtinN E s b ts args):=by
  unfold builtinN
  split
  .rename_i o r
   rw[h (.sh o r) (by simp) o (by simp[mentP])]
   split
   .split
    .split
     .exact cut2_cond λ_=>rfl
     .rfl
    .rfl
   .rfl
  .cases hb
  .cases hb
  .rfl
 have h3:cut2 (builtinD E s' b ts args)=cut2 (builtinD E s b ts args):=by
  cases b<;>first|rfl|cases hb
 grind[builtinV,cut2_none]
def use2 {α:Type} (f:Bool->V S->Option α) (r:ResV S):Option α:=match r with
 |none=>none
 |some (p,t,_)=>f p t
theorem cut2_use {α:Type} {r r':ResV S} (h:cut2 r=cut2 r') (f:Bool->V S->Option α):use2 f r=use2 f r':=by
 cases r with
 |none=>cases r' with
  |none=>rfl
  |some x=>cases h
 |some x=>cases r' with
  |none=>cases h
  |some y=>
   simp[cut2,Option.some.injEq,Prod.mk.injEq] at h
   simp[use2]
   rw[h.1,h.2]
theorem evQuiet_sm (E:EnvV S) (g:Option Bool) {fr:FrV S} {s s':StV S} (o:Oper) {ω:Type} (k:V S->Option ω) (hm:∀x∈o.op.operands.toList,∀v,opdV fr x=some v->Sm s s' v) :
  evQuiet E g fr s' o k=evQuiet E g fr s o k:=by
 unfold evQuiet
 have hop:movesB o.op=false->cut2 (opV E.T fr s' o.op)=cut2 (opV E.T fr s o.op):=λhq=>opV_sm E.T o.op hq hm
 cases hc:o.op with
 |call c=>
  rw[hc] at hm
  simp only[Op.operands,Call.operands,Array.toList_append,List.mem_append] at hm
  dsimp only
  cases ha:opdsV fr c.args.toList with
  |none=>rfl
  |some args=>
   have hargs:∀v∈args,Sm s s' v:=λv hv=>by
    grind[opdsV_mem]
   cases hcc:c.callee with
   |value f=>
    dsimp only
    cases hf:opdV fr f with
    |none=>rfl
    |some v=>
     simp
     have hv:=hm f (.inl (by rw[hcc];simp)) v hf
     cases hcal:calleeV v args with
     |none=>rfl
     |some q=>
      let ⟨f',args'⟩:=q
      dsimp only
      cases hg:E.gam f' with
      |none=>rfl
      |some c'=>
       dsimp only
       have hargs':∀v∈args',Sm s s' v:=by
        unfold calleeV at hcal
        split at hcal
        .obtain ⟨_,rfl⟩:=hcal
         intro u hu
         simp only[List.mem_append] at hu
         rcases hu with (hu|hu)|hu
         .exact λo ho=>hv o (by simp[mentP,mentPs_mem hu ho])
         .grind
         .exact λo ho=>hv o (by simp[mentP,mentPs_mem hu ho])
        .cases hcal
       cases hod:onlyDat c'.ps with
       |false=>rfl
       |true=>
        cases hns:noShs args' with
        |false=>simp
        |true=>rw[packPs_sm hod hargs' hns]
   |builtin b=>
    dsimp only
    cases hb:quietBi b with
    |false=>rfl
    |true=>
     have:=cut2_use (builtin_quiet_sm E.T hb (ts:=c.argTypes) hargs) (λp t=>gchk g p (k t))
     cases h1:builtinV E.T s' b c.argTypes args with
     |none=>cases h2:builtinV E.T s b c.argTypes args with
      |none=>rfl
      |some y=>rw[h1,h2] at this;exact this
     |some x=>cases h2:builtinV E.T s b c.argTypes args with
      |none=>rw[h1,h2] at this;exact this
      |some y=>rw[h1,h2] at this;exact this
   |invoke=>rfl
 |buildSlice t n ps=>
  rw[hc] at hm
  simp only[Op.operands] at hm
  dsimp only
  cases hl:partsV fr ps.toList with
  |none=>rfl
  |some l=>
   dsimp only
   cases hn:noShs (l.map (·.2)) with
   |false=>rfl
   |true=>
    refine cut2_use ?_ (λp t=>gchk g p (k t))
    refine opV_cut E.T ?_ ?_ (by rw[opX_bs hl hn,opX_bs hl hn])
    .simp[opN]
     split
     .rename_i kx hps
      split
      .split
       .split
        .refine cut2_cond λ_=>?_
         have hmm:=hm (.tmp kx) (by rw[hps];simp)
         rename_i hx _ _ _ _ _ _ _ _ _ _ _ _
         rw[hps] at hl
         simp[partsV,opdV,hx,Option.some.injEq] at hl
         subst hl
         simp[List.map_cons,List.map_nil,noShs,Bool.and_true] at hn
         rw[toTy_sm _ _ (hmm _ hx) hn]
         split
         .rename_i hty
          have:=noSh_own _ _ _ hn hty
          subst this
          rfl
         .rfl
        .rfl
       .rfl
      .rfl
     .split
      .split
       .cases Nat.beq n 0<;>rfl
       .rfl
      .rfl
     .rfl
    simp only[opV0,hl]
    split
    .rename_i i e ps' h1 h2 h3
     cases h3
     split
     .rename_i sz _ _ _ _
      cases Nat.ble (Nat.mul n sz) 16777216 with
      |false=>rfl
      |true=>
       rw[elemsV_sm (λp hp=>by
        let ⟨x,hx,h⟩:=partsV_mem hl p hp
        exact hm x (by simpa using hx) _ h) (noSh_map hn)]
       cases hel:elemsV s e (List.replicate n (S.zero e)) l with
       |none=>rfl
       |some q=>
        let ⟨es,os⟩:=q
        have:=elemsV_os (noSh_map hn) hel
        subst this
        rfl
     .rfl
    .rfl
 |slice t x lo hi mx=>
  rw[hc] at hm
  dsimp only
  cases hv:opdV fr x with
  |none=>rfl
  |some v=>
   dsimp only
   cases hn:noSh v with
   |false=>rfl
   |true=>
    refine cut2_use ?_ (λp t=>gchk g p (k t))
    have hsm:=hm x (by simp[Op.operands]) v hv
    have hown:ownV v=[]:=by
     cases v<;>first|rfl|simp[noSh] at hn
    rw[opV_eq0 rfl (opN_slice hv hn),opV_eq0 rfl (opN_slice hv hn)]
    grind[opV0,sliceV_sm,slV_sm]
 |store=>rfl
 |alloc=>rfl
 |box=>rfl
 |panic=>rfl
 |makeMap=>rfl
 |mapUpdate=>rfl
 |insert=>rfl
 |makeSlice=>rfl
 |range=>rfl
 |next=>rfl
 |defer=>rfl
 |_=>
  have hos:=opS_sm E.T o.op (by rw[hc];rfl) hm
  rw[hc] at hop hos
  dsimp only
  have h2:=cut2_use (hop rfl) (λp t=>gchk g p (k t))
  generalize hx:opS E.T fr s' _=x at hos
  generalize hy:opS E.T fr s _=y at hos
  cases x with
  |none=>cases y with
   |none=>exact h2
   |some y=>cases hos
  |some x=>cases y with
   |none=>cases hos
   |some y=>
    simp only[cutS,Option.some.injEq,Prod.mk.injEq] at hos
    obtain ⟨q1,q2,q3⟩:=hos
    dsimp only
    rw[q2,q3]
    exact armsQ_cut k _ q1
end TL
end
section
namespace TL
open Go
variable {S:Sg}
theorem bit_one (e j:Nat):(1 <<< e).testBit j=decide (e=j):=by
 rw[Nat.shiftLeft_eq,Nat.one_mul,Nat.testBit_two_pow]
theorem fold_bits (f:Nat->Nat) (j:Nat):∀(l:List Nat) (z:Nat),(l.foldl (λb e=>b||| (1 <<< e||| f e)) z).testBit j=(z.testBit j||l.any λe=>decide (e=j)||(f e).testBit j)
 |[],z=>by simp
 |e ::l,z=>by
  rw[List.foldl_cons,fold_bits f j l]
  grind[bit_one]
theorem befG_prefix:∀(l:List Oper) (acc:List Nat) (i:Nat),i<acc.length->(befG l acc).getD i 0=acc.getD i 0
 |[],_,_,_=>rfl
 |o ::l,acc,i,h=>by
  rw[befG,befG_prefix l _ i (by grind)]
  grind
theorem any_eq {α:Type} {f g:α->Bool}:∀{l:List α},(∀e∈l,f e=g e)->l.any f=l.any g
 |[],_=>rfl
 |a ::l,h=>by rw[List.any_cons,List.any_cons,h a List.mem_cons_self,any_eq λe he=>h e (List.mem_cons_of_mem _ he)]
theorem befG_at:∀(l:List Oper) (acc:List Nat) (k:Nat) (o:Oper),l[k]?=some o->backB l acc.length=true->∀j,
  ((befG l acc).getD (acc.length+k) 0).testBit j=(dirs o).any λe=>decide (e=j)||((befG l acc).getD e 0).testBit j
 |[],acc,k,o,h,_,j=>by simp at h
 |p ::l,acc,k,o,h,hb,j=>by
  simp only[backB,Bool.and_eq_true] at hb
  cases k with
  |zero=>
   simp at h
   subst h
   rw[befG,befG_prefix _ _ _ (by simp_all)]
   simp
   rw[fold_bits]
   simp
   refine any_eq λe he=>?_
   have he':e<acc.length:=Nat.le_of_ble_eq_true (List.all_eq_true.1 hb.1 e he)
   have:=befG_prefix l (acc++[(dirs p).foldl (λb e=>b||| (1 <<< e||| acc.getD e 0)) 0]) e (by grind)
   simp[List.getD_eq_getElem?_getD,List.getElem?_append_left he'] at this ⊢
   rw[this]
  |succ k=>
   rw[befG]
   have:=befG_at l (acc++[(dirs p).foldl (λb e=>b||| (1 <<< e||| acc.getD e 0)) 0]) k o (by simpa using h) (by grind) j
   grind
section
variable {ops:List Oper}
def Pre (ops:List Oper) (i j:Nat):Prop:=((befL ops).getD i 0).testBit j=true
theorem pre_iff (hb:backB ops 0=true) {i:Nat} {o:Oper} (h:ops[i]?=some o) (j:Nat):Pre ops i j↔∃e∈dirs o,e=j∨Pre ops e j:=by
 have:=befG_at ops [] i o h hb j
 simp_all[Pre,befL]
theorem back_lt:∀{l:List Oper} {n:Nat},backB l n=true->∀{k:Nat} {o:Oper},l[k]?=some o->∀e∈dirs o,e<n+k
 |[],_,_,k,o,h,_,_=>by simp at h
 |p ::l,n,hb,k,o,h,e,he=>by
  simp only[backB,Bool.and_eq_true] at hb
  cases k with
  |zero=>
   simp_all
  |succ k=>
   have:=back_lt hb.2 (k:=k) (by simpa using h) e he
   omega
theorem pre_lt (hb:backB ops 0=true):∀{i:Nat} {o:Oper},ops[i]?=some o->∀j,Pre ops i j->j<i:=by
 intro i
 induction i using Nat.strongRecOn with
 |_ i ih=>
  intro o h j hp
  let ⟨e,he,hej⟩:=(pre_iff hb h j).1 hp
  have hlt:=back_lt hb h e he
  grind
theorem pre_trans (hb:backB ops 0=true):∀{i:Nat} {o:Oper},ops[i]?=some o->∀{j k:Nat},Pre ops i j->Pre ops j k->Pre ops i k:=by
 intro i
 induction i using Nat.strongRecOn with
 |_ i ih=>
  intro o h j k hp hq
  let ⟨e,he,hej⟩:=(pre_iff hb h j).1 hp
  refine (pre_iff hb h k).2 ⟨e,he,.inr ?_⟩
  rcases hej with rfl|hej
  .exact hq
  .have hlt:=back_lt hb h e he
   grind
theorem pre_closed (hb:backB ops 0=true) {L:Nat->Prop} (hL:∀i o,ops[i]?=some o->L i->∀e∈dirs o,L e):∀{i:Nat} {o:Oper},ops[i]?=some o->(∀e∈dirs o,L e)->∀j,Pre ops i j->L j:=by
 intro i
 induction i using Nat.strongRecOn with
 |_ i ih=>
  intro o h hd j hp
  let ⟨e,he,hej⟩:=(pre_iff hb h j).1 hp
  rcases hej with rfl|hej
  .exact hd _ he
  .have hlt:=back_lt hb h e he
   grind
theorem subN_iff {a b:Nat}:subN a b=true↔∀j,a.testBit j=true->b.testBit j=true:=by
 unfold subN
 constructor
 .intro h j hj
  have h:a&&& b=a:=Nat.eq_of_beq_eq_true h
  grind
 .intro h
  have:a&&& b=a:=Nat.eq_of_testBit_eq λj=>by
   simp_all
  rw[this]
  simp
def numL (ops:List Oper):Num:=ops.zipIdx.map λp=>(p.2,p.1)
theorem mem_num {i:Nat} {o:Oper}:(i,o)∈numL ops↔ops[i]?=some o:=by
 unfold numL
 rw[List.mem_map]
 constructor
 .grind
 .intro h
  exact ⟨(o,i),List.mem_zipIdx_iff_getElem?.2 h,rfl⟩
theorem dst_ok (h:dstB ops (befL ops)=true) {i:Nat} {o:Oper} (hi:ops[i]?=some o) {d:Nat} (hd:o.dst=some d) :
  d<bigN∧d∉tmpsOf o.op∧∀{j:Nat} {p:Oper},ops[j]?=some p->i≠j->p.dst≠some d∧(d∈tmpsOf p.op->Pre ops j i∨Pre ops i j):=by
 have h1:=List.all_eq_true.1 h (o,i) (List.mem_zipIdx_iff_getElem?.2 hi)
 simp only[hd,Bool.and_eq_true] at h1
 have huse:∀{p:Oper},d∈tmpsOf p.op->usesB p d=true:=by
  intro p hm
  let ⟨x,hx,hxx⟩:=List.mem_filterMap.1 hm
  refine List.any_eq_true.2 ⟨x,hx,?_⟩
  cases x with
  |tmp k=>
   simp_all
  |_=>cases hxx
 refine ⟨Nat.le_of_ble_eq_true h1.1,λhm=>?_,λ{j p} hj hne=>?_⟩
 .have h2:=List.all_eq_true.1 h1.2 (o,i) (List.mem_zipIdx_iff_getElem?.2 hi)
  simp_all
 .have h2:=List.all_eq_true.1 h1.2 (p,j) (List.mem_zipIdx_iff_getElem?.2 hj)
  have e:Nat.beq i j=false:=by
   grind[Nat.eq_of_beq_eq_true]
  simp only[e,cond_false,Bool.and_eq_true,Bool.or_eq_true] at h2
  refine ⟨λhpd=>?_,λhm=>?_⟩
  .simp_all
  .rcases h2.2 with h3|h3
   .simp_all
   .exact h3
def antiP (ops:List Oper) (i:Nat):Prop:=∃o,ops[i]?=some o∧∃d,o.dst=some d∧∃j p,ops[j]?=some p∧d∈tmpsOf p.op∧Pre ops i j
theorem antiB_no {i:Nat} {o:Oper} (hi:ops[i]?=some o) (h:antiB ops (befL ops) i o=false):¬antiP ops i:=by
 rintro ⟨o',ho',d,hd,j,p,hj,hm,hp⟩
 have:o=o':=Option.some.inj (hi.symm.trans ho')
 subst this
 unfold antiB at h
 rw[hd] at h
 have h1:=List.any_eq_false.1 h (p,j) (List.mem_zipIdx_iff_getElem?.2 hj)
 have huse:usesB p d=true:=by
  let ⟨x,hx,hxx⟩:=List.mem_filterMap.1 hm
  refine List.any_eq_true.2 ⟨x,hx,?_⟩
  cases x with
  |tmp k=>
   simp_all
  |_=>cases hxx
 refine h1 ?_
 simp only[huse,Bool.true_and]
 exact hp
theorem guard_ok (h:guardB ops (befL ops)=true) {i:Nat} {o:Oper} (hi:ops[i]?=some o) {d:Nat} (hd:gdTmp ops o=some d):∃j p,ops[j]?=some p∧p.dst=some d∧Pre ops i j:=by
 have h1:=List.all_eq_true.1 h (o,i) (List.mem_zipIdx_iff_getElem?.2 hi)
 unfold gdTmp at hd
 cases hg:o.guard with
 |none=>simp_all
 |some q=>
  let ⟨j,want⟩:=q
  simp only[hg] at hd h1
  rw[nth_eq,Option.bind_eq_some_iff] at hd
  let ⟨p,hp,hpd⟩:=hd
  exact ⟨j,p,hp,hpd,h1⟩
theorem use_ok (h:useB ops=true) {i:Nat} {o:Oper} (hi:ops[i]?=some o):∀k∈tmpsOf o.op,k<bigN:=by
 intro k hk
 let ⟨x,hx,hxx⟩:=List.mem_filterMap.1 hk
 have h1:=List.all_eq_true.1 h o (List.mem_of_getElem? hi)
 have h2:=List.all_eq_true.1 h1 x hx
 cases x with
 |tmp j=>
  simp_all
 |_=>cases hxx
theorem alloc_ok {E:EnvT} {n:Nat} (h:allocB E n ops=true) {i:Nat} {o:Oper} (hi:ops[i]?=some o) (ha:isAlloc o=true):o.guard=none∧(∃t ti,o.op=.alloc t∧E.E.ti t=some ti)∧∀d,o.dst=some d->d<n:=by
 have h1:=List.all_eq_true.1 h o (List.mem_of_getElem? hi)
 simp[ha,cond_true,Bool.and_eq_true] at h1
 unfold isAlloc at ha
 split at ha
 .rename_i t hop
  rw[hop] at h1
  refine ⟨by simpa using ha,⟨t,?_⟩,λd hd=>?_⟩
  .cases hti:E.E.ti t with
   |none=>simp_all
   |some ti=>simp_all
  simp_all
 .cases ha
theorem pend_bits (done:Nat):∀(l:Num) (z j:Nat),(l.foldl (λb (i,o)=>bif isAlloc o&&!(done.testBit i) then b||| 1 <<< i else b) z).testBit j=(z.testBit j||l.any λ(i,o)=>isAlloc o&&!(done.testBit i)&&decide (i=j))
 |[],z,j=>by simp
 |(i,o) ::l,z,j=>by
  rw[List.foldl_cons,pend_bits done l,List.any_cons]
  cases h:(isAlloc o&&!(done.testBit i)) with
  |false=>grind
  |true=>simp only[h,cond_true,Nat.testBit_or,bit_one,Bool.true_and,Bool.or_assoc]
theorem pend_iff (done j:Nat):(pendN (numL ops) done).testBit j=true↔∃o,ops[j]?=some o∧isAlloc o=true∧done.testBit j=false:=by
 unfold pendN
 rw[pend_bits,Nat.zero_testBit,Bool.false_or,List.any_eq_true]
 constructor
 .rintro ⟨⟨i,o⟩,hm,h⟩
  simp at h
  obtain ⟨⟨h1,h2⟩,rfl⟩:=h
  exact ⟨o,mem_num.1 hm,h1,h2⟩
 .rintro ⟨o,ho,h1,h2⟩
  exact ⟨(j,o),mem_num.2 ho,by simp[h1,h2]⟩
end
end TL
end
section
namespace TL
open Go
variable {S:Sg}
structure Free (g:Gh) (w0 w:World) (b:Nat) (z:Array Value):Prop where
 new:w0.heap.size<=b
 lt:b<w.heap.size
 imm:¬g.imm b
 own:∀o,¬Owned g o b
 mem:∃ty,w.heap[b]?=some (.cells z ty (0,0))
section
variable {g g':Gh} {w0 w w':World} {b:Nat} {z:Array Value}
theorem Free.aft (h:Free g w0 w b z) {ow:List Nat} {s s':StV S} (ha:AftV ow s g w s' g' w') (hfl:s.fl=0):Free g' w0 w' b z:=by
 let ⟨ty,hm⟩:=h.mem
 refine ⟨h.new,Nat.lt_of_lt_of_le h.lt ha.ext.size,λhi=>?_,λo hO=>?_,ty,?_⟩
 .rcases ha.ext.immn b hi with hi|hi|⟨o,_,hO⟩
  .exact h.imm hi
  .grind
  .exact h.own o hO
 .rcases ha.ext.own o b (by omega) hO with ⟨o',_,hO'⟩|hi
  .exact h.own o' hO'
  simp_all
 .rw[ha.ext.heap b h.lt λo _=>h.own o];exact hm
theorem SRel.adoptBox {s:St} (hs:SRel g s w) (hn:s.nob<bigN) (hf:Free g w0 w b z) {cs:List T} (hl:cs.length=z.size)
  (hr:∀(j:Nat) (t:T) (v:Value),cs[j]?=some t->z[j]?=some v->TRel g w t v) :
  SRel (g.newBox s.nob b) (newOb s (.box cs)).2 w∧GhLe g (g.newBox s.nob b)∧(∀k c,Owned (g.newBox s.nob b) k c->Owned g k c∨(k=s.nob∧c=b)):=by
 have hnone:=hs.bnd s.nob (Nat.le_refl _)
 have hold:∀o c,g.blk o=some c->(g.newBox s.nob b).blk o=some c:=λo c h=>by
  have:o≠s.nob:=λe=>by rw[e,hnone.1] at h;cases h
  simp[Gh.newBox,this,h]
 have hle:GhLe g (g.newBox s.nob b):=⟨hold,λ_ _ _ h=>h,λ_ h=>h⟩
 have hown:∀k c,Owned (g.newBox s.nob b) k c->Owned g k c∨(k=s.nob∧c=b):=by
  rintro o c ⟨h1,h2|h2⟩
  .by_cases ho:o=s.nob
   .subst ho
    simp[Gh.newBox] at h2
    exact .inr ⟨rfl,h2.symm⟩
   .simp[Gh.newBox,ho] at h2
    exact .inl ⟨h1,.inl h2⟩
  .exact .inl ⟨h1,.inr h2⟩
 let ⟨ty,hm⟩:=hf.mem
 refine ⟨⟨by simp only[newOb];omega,λo ho=>?_,λo c hb=>?_,λo e x hx=>?_,hs.imm,λo o' c h h'=>?_,hs.glo⟩,hle,hown⟩
 .simp only[newOb] at ho
  have h1:o≠s.nob:=by omega
  simp[Gh.newBox,h1]
  exact hs.bnd o (by omega)
 .by_cases ho:o=s.nob
  .subst ho
   have hbe:c=b:=by
    simp[Gh.newBox] at hb
    exact hb.symm
   subst hbe
   refine ⟨hf.imm,hf.lt,λob hob=>⟨_,hm,?_⟩⟩
   simp[newOb] at hob
   rw[Tr.get_set64 _ _ _ _ hn,if_pos rfl] at hob
   obtain rfl:=Option.some.inj hob
   exact .box cs z ty hl λj t v ht hv=>(hr j t v ht hv).le hle
  .have hb':g.blk o=some c:=by simpa[Gh.newBox,ho] using hb
   exact (hs.box o c hb').le hle rfl (by simp[newOb];rw[Tr.get_set64 _ _ _ _ hn,if_neg ho])
 .have hx':g.arr o e=some x:=hx
  have ho:o≠s.nob:=λh=>by rw[h,hnone.2 e] at hx';cases hx'
  exact (hs.arr o e x hx').le rfl (by simp[newOb];rw[Tr.get_set64 _ _ _ _ hn,if_neg ho]) (λ_ _ _ h=>h) (λ_=>rfl)
 .rcases hown o c h with h1|⟨h1,h3⟩<;>rcases hown o' c h' with h2|⟨h2,h4⟩
  .exact hs.uni o o' c h1 h2
  .subst h4;exact absurd h1 (hf.own o)
  .subst h3;exact absurd h2 (hf.own o')
  .rw[h1,h2]
theorem Free.keep {o c:Nat} {zc:Array Value} (h:Free g w0 w b z) (hc:Free g w0 w c zc) (hne:b≠c) (hle:∀k e,Owned (g.newBox o c) k e->Owned g k e∨(k=o∧e=c)):Free (g.newBox o c) w0 w b z:=
 ⟨h.new,h.lt,h.imm,λk hO=>by
  rcases hle k b hO with hO|⟨_,rfl⟩
  .exact h.own k hO
  omega,h.mem⟩
end
def Early (E:EnvT) (g:Gh) (w0 w:World) (a:Act) (o:Oper) (b:Nat):Prop:=
 ∀t ti d,o.op=.alloc t->E.E.ti t=some ti->o.dst=some d->∃z,a.tmps[d]?=some (.pointer (some ⟨b,0,none⟩))∧Free g w0 w b z∧ZOk ti.zero z
structure Adp (E:EnvT) (which:Nat) (l:Num) (fr:FrV S) (s:StV S) (g:Gh) (w:World) (a:Act) (fr':FrV S) (s':StV S) (g':Gh):Prop where
 rel:SRel g' (lowSt s') w
 le:GhLe g g'
 imm:g'.imm=g.imm
 fl:s'.fl=s.fl
 lo:s'.lo=s.lo
 wr:s'.wr=s.wr
 dr:s'.dr=s.dr
 nob:s.nob<=s'.nob
 ob:∀o,o<s.nob->s'.ob.get o=s.ob.get o
 n:fr'.n=fr.n
 dfs:fr'.df=fr.df
 old:∀k,(∀p∈l,which.testBit p.1=true->p.2.dst≠some k)->fr'.get k=fr.get k
 new:∀k,(∃p∈l,which.testBit p.1=true∧p.2.dst=some k)->∀t,fr'.get k=some t->∃v,a.tmps[k]?=some v∧TRel g' w (low t) v
 own:∀k b,Owned g' k b->Owned g k b∨∃p∈l,which.testBit p.1=true∧∃d,p.2.dst=some d∧a.tmps[d]?=some (.pointer (some ⟨b,0,none⟩))
 dsts:∀p∈l,which.testBit p.1=true->∃t ti d,p.2.op=.alloc t∧E.E.ti t=some ti∧p.2.dst=some d∧d<fr.n
theorem adopt_sound {E:EnvT} {which:Nat} {w0 w:World} {a:Act} {bl:Nat->Nat}:∀{l:Num} {fr fr':FrV S} {s s':StV S} {g:Gh},adopt E which l fr s=some (fr',s')->fr.n<=bigN->SRel g (lowSt s) w->
  (∀p∈l,which.testBit p.1=true->Early E g w0 w a p.2 (bl p.1))->(l.map (·.1)).Nodup->(∀p∈l,∀q∈l,which.testBit p.1=true->which.testBit q.1=true->p.1≠q.1->bl p.1≠bl q.1)->
  (∀p∈l,∀q∈l,p.1≠q.1->∀d,p.2.dst=some d->q.2.dst≠some d)->∃g',Adp E which l fr s g w a fr' s' g':=by
 intro l
 induction l with
 |nil=>
  intro fr fr' s s' g h _ hs _ _ _ _
  obtain ⟨rfl,rfl⟩:=h
  exact ⟨g,hs,GhLe.refl _,rfl,rfl,rfl,rfl,rfl,Nat.le_refl _,λ_ _=>rfl,rfl,rfl,λ_ _=>rfl,λk ⟨p,hp,_⟩=>by (cases hp),λ_ _ h=>.inl h,λp hp=>by (cases hp)⟩
 |cons p l ih=>
  intro fr fr' s s' g h hn hs he hnd hbl hds
  let ⟨i,o⟩:=p
  rw[List.map_cons,List.nodup_cons] at hnd
  have hnei:∀q∈l,i≠q.1:=λq hq e=>hnd.1 (List.mem_map.2 ⟨q,hq,e.symm⟩)
  rcases cond_some h with ⟨hw,h1⟩|⟨hw,h1⟩
  .clear h
   split at h1
   .rename_i t d hop hdst
    split at h1
    .rename_i ti hti
     rcases cond_some h1 with ⟨hb,h⟩|⟨_,h⟩
     rotate_left
     .cases h
     rw[Bool.and_eq_true] at hb
     have hn':s.nob<bigN:=Nat.le_of_ble_eq_true hb.1
     have hd':d<fr.n:=Nat.le_of_ble_eq_true hb.2
     let ⟨z,htm,hfree,hz⟩:=he (i,o) List.mem_cons_self hw t ti d hop hti hdst
     let ⟨z1,z2⟩:=zero_rel (g:=g) (w:=w) hz
     let ⟨hs1,hle1,hown1⟩:=hs.adoptBox hn' hfree z1 z2
     have hs1':SRel (g.newBox s.nob (bl i)) (lowSt (newObV s (.box (ti.zero.map zeroV)))) w:=by
      rw[lowSt_new]
      simp[lowOb,zeros_low]
      exact hs1
     have hE:∀q∈l,which.testBit q.1=true->Early E (g.newBox s.nob (bl i)) w0 w a q.2 (bl q.1):=by
      intro q hq hw' t' ti' d' q1 q2 q3
      let ⟨z',r1,r2,r3⟩:=he q (List.mem_cons_of_mem _ hq) hw' t' ti' d' q1 q2 q3
      exact ⟨z',r1,r2.keep hfree (hbl q (List.mem_cons_of_mem _ hq) (i,o) List.mem_cons_self hw' hw (λe=>hnei q hq e.symm)) hown1,r3⟩
     let ⟨g',k⟩:=ih h (by exact hn) hs1' hE hnd.2 (λq hq r hr=>hbl q (List.mem_cons_of_mem _ hq) r (List.mem_cons_of_mem _ hr)) (λq hq r hr=>hds q (List.mem_cons_of_mem _ hq) r (List.mem_cons_of_mem _ hr))
     .have hdl:∀q∈l,which.testBit q.1=true->q.2.dst≠some d:=λq hq _=>hds (i,o) List.mem_cons_self q (List.mem_cons_of_mem _ hq) (hnei q hq) d hdst
      refine ⟨g',k.rel,hle1.trans k.le,k.imm,k.fl,k.lo,k.wr,k.dr,Nat.le_trans (Nat.le_succ _) k.nob,λj hj=>?_,k.n,k.dfs,λj hj=>?_,λj ⟨q,hq,hqw,hqd⟩ t' ht'=>?_,λj c hO=>?_,λq hq hqw=>?_⟩
      .rw[k.ob j (Nat.lt_succ_of_lt hj)]
       simp[newObV]
       rw[Tr.get_set64 _ _ _ _ hn',if_neg (by omega)]
      .rw[k.old j (λq hq=>hj q (List.mem_cons_of_mem _ hq)),FrV.get_put _ _ _ _ (Nat.lt_of_lt_of_le hd' hn),if_neg]
       grind[List.mem_cons_self]
      .rcases List.mem_cons.1 hq with rfl|hq
       .have hjd:j=d:=by
         grind
        subst hjd
        rw[k.old j hdl,FrV.get_put _ _ _ _ (Nat.lt_of_lt_of_le hd' hn),if_pos rfl] at ht'
        cases ht'
        refine ⟨_,htm,?_⟩
        exact .ptr _ _ _ (k.le.blk _ _ (by simp[Gh.newBox]))
       .exact k.new j ⟨q,hq,hqw,hqd⟩ t' ht'
      .rcases k.own j c hO with hO|⟨q,hq,hqw,hqd⟩
       .rcases hown1 j c hO with hO|⟨_,rfl⟩
        .exact .inl hO
        .exact .inr ⟨(i,o),List.mem_cons_self,hw,d,hdst,htm⟩
       grind
      .rcases List.mem_cons.1 hq with rfl|hq
       .grind
       .exact k.dsts q hq hqw
    .cases h1
   .cases h1
  .let ⟨g',k⟩:=ih h1 hn hs (λq hq=>he q (List.mem_cons_of_mem _ hq)) hnd.2 (λq hq r hr=>hbl q (List.mem_cons_of_mem _ hq) r (List.mem_cons_of_mem _ hr)) (λq hq r hr=>hds q (List.mem_cons_of_mem _ hq) r (List.mem_cons_of_mem _ hr))
   have hnw:∀q∈(i,o) ::l,which.testBit q.1=true->q∈l:=λq hq hqw=>by
    grind
   refine ⟨g',k.rel,k.le,k.imm,k.fl,k.lo,k.wr,k.dr,k.nob,k.ob,k.n,k.dfs,λj hj=>k.old j λq hq=>hj q (List.mem_cons_of_mem _ hq),λj ⟨q,hq,hqw,hqd⟩=>k.new j ⟨q,hnw q hq hqw,hqw,hqd⟩,λj c hO=>(k.own j c hO).imp id λ⟨q,hq,h⟩=>⟨q,List.mem_cons_of_mem _ hq,h⟩,λq hq hqw=>k.dsts q (hnw q hq hqw) hqw⟩
end TL
end
section
namespace TL
open Go
variable {S:Sg}
def Lis (listed:Array Bool) (i:Nat):Prop:=listed.getD i false=true
def FloatOk (E:EnvV S) (ops:List Oper) (fr:FrV S) (s:StV S) (o:Oper):Prop:=
 okDstV fr o.dst=true∧((skipV ops fr o=true∧∀d,o.dst=some d->∀t',fr.get d=some t'->t'=unitV)∨(guardV ops fr o=some none∧∃t,evQuiet E none fr s o some=some t∧∀d,o.dst=some d->∀t',fr.get d=some t'->KbOf t t')∨
  ∃c,guardV ops fr o=some (some c)∧gdOk c fr o.op=true∧∃t,evQuiet E (some c) (gdFrV fr o.op) s o some=some t∧∀d,o.dst=some d->∀t',fr.get d=some t'->t'=.gd c t)
theorem opMents_sm {p:Nat->Bool} {fr:FrV S} {s s':StV S} {o:Op} (h:opMents p fr o=false) (hs:∀x,p x=false->s'.ob.get x=s.ob.get x):∀x∈o.operands.toList,∀v,opdV fr x=some v->Sm s s' v:=by
 intro x hx v hv j hj
 grind[opMents,mentP_mono,Nat.eq_of_beq_eq_true]
theorem evQuiet_pure (E:EnvV S) (g:Option Bool) {fr:FrV S} (o:Oper) (s s':StV S) {ω:Type} (k:V S->Option ω) (hp:pureB o.op=true):evQuiet E g fr s o k=evQuiet E g fr s' o k:=by
 unfold evQuiet
 cases hc:o.op with
 |move x=>
  simp[opS,opV,opN,opV0]
  cases opdV fr x<;>simp[opX]
 |assign x=>
  simp[opS,opV,opN,opV0]
  cases opdV fr x<;>simp[opX]
 |nilCheck x=>
  simp[opS,opV,opN,opV0]
  cases h:opdV fr x with
  |none=>simp[opX,h]
  |some v=>
   cases v with
   |ty t y=>cases t<;>simp[opX,h]
   |fn f a b=>cases f<;>simp[opX,h]
   |_=>simp[opX,h]
 |fieldAddr t x n=>
  simp[opS,opV,opN,opV0]
  cases E.T.E.ti t with
  |none=>simp[opX]
  |some ti=>
   cases opdV fr x with
   |none=>simp[opX]
   |some v=>
    grind[fieldAddrV,opX]
 |_=>simp[hc,pureB] at hp
theorem FloatOk.move {E:EnvV S} {ops:List Oper} {fr fr':FrV S} {s s':StV S} {o:Oper} (h:FloatOk E ops fr s o) (hn:fr'.n=fr.n) (hb:∀k∈tmpsOf o.op,k<bigN) (ht:∀k∈tmpsOf o.op,fr'.get k=fr.get k) (hg:∀k,gdTmp ops o=some k->fr'.get k=fr.get k)
  (hd:∀d,o.dst=some d->∀t,fr'.get d=some t->fr.get d=some t) {p:Nat->Bool}
  (hs:s'=s∨(opMents p fr o.op=false∧opMents p (gdFrV fr o.op) o.op=false∧∀x,p x=false->s'.ob.get x=s.ob.get x)∨pureB o.op=true):FloatOk E ops fr' s' o:=by
 let ⟨h0,h⟩:=h
 have e1:guardV ops fr' o=guardV ops fr o:=guardV_congr hg
 refine ⟨by simp_all[okDstV],?_⟩
 rcases h with ⟨h1,h3⟩|⟨h1,t,h2,h3⟩|⟨c,h1,h4,t,h2,h3⟩
 .grind[skipV_congr]
 .refine .inr (.inl ⟨e1.trans h1,t,?_,λd hod t' ht'=>h3 d hod t' (hd d hod t' ht')⟩)
  rw[evQuiet_congr E none o s' some (opd_of_tmps ht)]
  rcases hs with rfl|⟨hm,_,hs⟩|hp
  .exact h2
  .grind[evQuiet_sm,opMents_sm]
  grind[evQuiet_pure]
 .refine .inr (.inr ⟨c,e1.trans h1,by rw[gdOk_congr c ht];exact h4,t,?_,λd hod t' ht'=>h3 d hod t' (hd d hod t' ht')⟩)
  rw[evQuiet_congr E (some c) o s' some (opd_of_tmps (gdFrV_congr hb ht))]
  rcases hs with rfl|⟨_,hm,hs⟩|hp
  .exact h2
  .grind[evQuiet_sm,opMents_sm]
  grind[evQuiet_pure]
structure DStat (E:EnvV S) (ops:Array Oper) (n:Nat):Prop where
 bk:backB ops.toList 0=true
 ds:dstB ops.toList (befL ops.toList)=true
 gd:guardB ops.toList (befL ops.toList)=true
 us:useB ops.toList=true
 al:allocB E.T n ops.toList=true
def At (ops:Array Oper) (i:Nat) (o:Oper):Prop:=ops.toList[i]?=some o
structure DInv (E:EnvV S) (ops:Array Oper) (fr0:FrV S) (s0:StV S) (g0:Gh) (w0:World) (done:Nat) (fr:FrV S) (s:StV S) (bl:Nat->Nat) (listed:Array Bool) (g:Gh) (a:Act) (w:World):Prop where
 lsz:listed.size=ops.size
 n:fr.n=fr0.n
 nb:fr.n<=bigN
 asz:a.tmps.size=fr.n
 df:DfRels g w (lowFr fr).df a.defers
 tm:∀k t,fr.get k=some t->(∀i o,At ops i o->o.dst=some k->(Lis listed i↔done.testBit i=true))->∃v,a.tmps[k]?=some v∧TRel g w (low t) v
 lcl:∀i o,At ops i o->Lis listed i->∀e∈dirs o,Lis listed e
 dcl:∀i o,At ops i o->done.testBit i=true->∀j,Pre ops.toList i j->done.testBit j=true
 ld:∀i o,At ops i o->Lis listed i->done.testBit i=true∨isAlloc o=true
 fo:∀i o,At ops i o->done.testBit i=true->¬Lis listed i->isAlloc o=false∧FloatOk E ops.toList fr s o
 ea:∀i o,At ops i o->Lis listed i->done.testBit i=false->Early E.T g w0 w a o (bl i)∧bl i<w.heap.size
 eb:∀i j,Lis listed i->Lis listed j->done.testBit i=false->done.testBit j=false->i≠j->i<ops.size->j<ops.size->bl i≠bl j
 aft:AftW s0 g0 w0 s g w
 fk:FrOk (ops.toList.filterMap (·.dst)) fr0 fr s.dr s0.nob
 fl:s.fl=0
 an:∀j,antiP ops.toList j->done.testBit j=true->Lis listed j
structure DCore (E:EnvV S) (ops:Array Oper) (fr0:FrV S) (s0:StV S) (g0:Gh) (w0:World) (done:Nat) (fr:FrV S) (s:StV S) (listed:Array Bool) (g:Gh) (a:Act) (w:World):Prop where
 n:fr.n=fr0.n
 nb:fr.n<=bigN
 asz:a.tmps.size=fr.n
 df:DfRels g w (lowFr fr).df a.defers
 tm:∀k t,fr.get k=some t->(∀i o,At ops i o->o.dst=some k->(Lis listed i↔done.testBit i=true))->∃v,a.tmps[k]?=some v∧TRel g w (low t) v
 dcl:∀i o,At ops i o->done.testBit i=true->∀j,Pre ops.toList i j->done.testBit j=true
 aft:AftW s0 g0 w0 s g w
section
variable {E:EnvV S} {ops:Array Oper} {fr0:FrV S} {s0:StV S} {g0:Gh} {w0:World} {done:Nat} {fr:FrV S} {s:StV S} {bl:Nat->Nat} {listed:Array Bool} {g:Gh} {a:Act} {w:World}
theorem putO_df (fr:FrV S) (d:Option Nat) (t:V S):(fr.putO d t).df=fr.df:=by cases d<;>rfl
theorem lowFr_df (fr:FrV S):(lowFr fr).df=fr.df.map lowDf:=rfl
theorem done_or (done i j:Nat):(done||| 1 <<< i).testBit j=true↔done.testBit j=true∨i=j:=by
 rw[Nat.testBit_or,bit_one,Bool.or_eq_true,decide_eq_true_eq]
theorem getD_putO {d:Option Nat} {t:V S} {k:Nat} (h:okDstV fr d=true) (hn:fr.n<=bigN):(fr.putO d t).get k=if d=some k then some t else fr.get k:=by
 cases d with
 |none=>rfl
 |some d=>
  have h:d<fr.n:=Nat.le_of_ble_eq_true h
  simp only[FrV.putO]
  rw[FrV.get_put _ _ _ _ (by omega)]
  grind
theorem use_pre (hst:DStat E ops fr0.n) {i:Nat} {o:Oper} (ho:At ops i o) {k:Nat} (hk:k∈tmpsOf o.op∨gdTmp ops.toList o=some k) {j:Nat} {p:Oper} (hp:At ops j p) (hd:p.dst=some k):i≠j∧(Pre ops.toList i j∨(Pre ops.toList j i∧antiP ops.toList j)):=by
 let ⟨_,h2,h3⟩:=dst_ok hst.ds hp hd
 rcases hk with hk|hk
 .have hne:i≠j:=by
   rintro rfl
   have:o=p:=Option.some.inj (ho.symm.trans hp)
   simp_all
  exact ⟨hne,((h3 ho (Ne.symm hne)).2 hk).imp id λh=>⟨h,p,hp,k,hd,i,o,ho,hk,h⟩⟩
 .let ⟨j',p',hp',hd',hpre⟩:=guard_ok hst.gd ho hk
  have hjj:j=j':=Classical.byContradiction λhne=>(h3 hp' hne).1 hd'
  subst hjj
  refine ⟨λe=>?_,.inl hpre⟩
  subst e
  exact absurd (pre_lt hst.bk ho _ hpre) (Nat.lt_irrefl _)
theorem DInv.float (hst:DStat E ops fr0.n) (h:DInv E ops fr0 s0 g0 w0 done fr s bl listed g a w) {i:Nat} {o:Oper} (ho:At ops i o) (hnd:done.testBit i=false) (hna:isAlloc o=false) (han:¬antiP ops.toList i) (hpre:∀j,Pre ops.toList i j->done.testBit j=true)
  (hd:okDstV fr o.dst=true) {t:V S} (hf:(skipV ops.toList fr o=true∧t=unitV)∨(guardV ops.toList fr o=some none∧∃t0,evQuiet E none fr s o some=some t0∧KbOf t0 t)∨∃c t1,guardV ops.toList fr o=some (some c)∧gdOk c fr o.op=true∧evQuiet E (some c) (gdFrV fr o.op) s o some=some t1∧t=.gd c t1) :
  DInv E ops fr0 s0 g0 w0 (done||| 1 <<< i) (fr.putO o.dst t) s bl listed g a w:=by
 have hget:∀k,(fr.putO o.dst t).get k=if o.dst=some k then some t else fr.get k:=λk=>getD_putO hd h.nb
 have hnl:¬Lis listed i:=λhl=>by
  rcases h.ld i o ho hl with h1|h1
  .simp_all
  simp_all
 have hnn:(fr.putO o.dst t).n=fr.n:=by cases o.dst<;>rfl
 have hsame:∀{j:Nat} {p:Oper},At ops j p->(j=i∨¬Pre ops.toList j i)->∀k,k∈tmpsOf p.op∨gdTmp ops.toList p=some k->(fr.putO o.dst t).get k=fr.get k:=by
  intro j p hp hj k hk
  rw[hget,if_neg]
  intro hdk
  let ⟨h1,h2⟩:=use_pre hst hp hk ho hdk
  simp_all
 refine ⟨h.lsz,hnn.trans h.n,by rw[hnn];exact h.nb,by rw[hnn];exact h.asz,by rw[lowFr_df,putO_df];exact h.df,λk t' hk hc=>?_,h.lcl,λj p hp hj m hm=>?_,λj p hp hl=>?_,λj p hp hj hl=>?_,λj p hp hl hj=>?_,λj m hj hm h1 h2=>?_,h.aft,?_,h.fl,λj ha hj=>?_⟩
 .have hdk:o.dst≠some k:=λe=>hnl ((hc i o ho e).2 ((done_or done i i).2 (.inr rfl)))
  rw[hget,if_neg hdk] at hk
  refine h.tm k t' hk λj p hp hpd=>?_
  grind[done_or]
 .rw[done_or] at hj ⊢
  rcases hj with hj|rfl
  .exact .inl (h.dcl j p hp hj m hm)
  simp_all
 .rw[done_or]
  exact (h.ld j p hp hl).imp .inl id
 .rw[done_or] at hj
  rcases hj with hj|rfl
  .let ⟨h1,h2⟩:=h.fo j p hp hj hl
   have hnp:¬Pre ops.toList j i:=λhpr=>by
    have:=h.dcl j p hp hj i hpr
    simp_all
   refine ⟨h1,h2.move hnn (use_ok hst.us hp) (λk hk=>hsame hp (.inr hnp) k (.inl hk)) (λk hk=>hsame hp (.inr hnp) k (.inr hk)) (λd hpd t' ht'=>?_) (p:=λ_=>false) (.inl rfl)⟩
   rw[hget,if_neg] at ht'
   .exact ht'
   .intro hod
    have hij:i≠j:=λe=>by simp_all
    exact ((dst_ok hst.ds ho hod).2.2 hp hij).1 hpd
  .have:o=p:=Option.some.inj (ho.symm.trans hp)
   subst this
   have hu:=use_ok hst.us ho
   have ht:∀k∈tmpsOf o.op,(fr.putO o.dst t).get k=fr.get k:=λk hk=>hsame ho (.inl rfl) k (.inl hk)
   have hgd:guardV ops.toList (fr.putO o.dst t) o=guardV ops.toList fr o:=guardV_congr λk hk=>hsame ho (.inl rfl) k (.inr hk)
   refine ⟨hna,by simp_all[okDstV],?_⟩
   rcases hf with ⟨f1,rfl⟩|⟨f1,t0,f2,f3⟩|⟨c,t1,f1,f2,f3,rfl⟩
   .refine .inl ⟨(skipV_congr λk hk=>hsame ho (.inl rfl) k (.inr hk)).trans f1,λd hod t' ht'=>?_⟩
    simp_all
   .refine .inr (.inl ⟨hgd.trans f1,t0,by grind[evQuiet_congr,opd_of_tmps],λd hod t' ht'=>?_⟩)
    simp_all
   .refine .inr (.inr ⟨c,hgd.trans f1,by rw[gdOk_congr c ht];exact f2,t1,by grind[evQuiet_congr,opd_of_tmps,gdFrV_congr],λd hod t' ht'=>?_⟩)
    simp_all
 .have hj':done.testBit j=false:=by
   simp_all
  exact h.ea j p hp hl hj'
 .have hd':∀j,(done||| 1 <<< i).testBit j=false->done.testBit j=false:=λj hj=>by
   simp_all
  exact h.eb j m hj hm (hd' j h1) (hd' m h2)
 .refine ⟨λk v hk hv=>?_,by rw[putO_df];exact h.fk.df⟩
  rcases h.fk.tm k v hk hv with h1|h1
  .left
   rw[hget,if_neg]
   .exact h1
   .intro hod
    exact hk (List.mem_filterMap.2 ⟨o,List.mem_of_getElem? ho,hod⟩)
  grind
 .rcases (done_or done i j).1 hj with hj|rfl
  .exact h.an j ha hj
  simp_all
end
end TL
end
section
namespace TL
open Go
variable {S:Sg}
theorem lis_set {listed:Array Bool} {i j:Nat} (hi:i<listed.size):Lis (listed.setIfInBounds i true) j↔Lis listed j∨i=j:=by
 unfold Lis
 by_cases h:i=j
 .simp_all
 simp_all
section
variable {E:EnvV S} {ops:Array Oper} {fr0:FrV S} {s0:StV S} {g0:Gh} {w0:World} {done:Nat} {fr:FrV S} {s:StV S} {bl:Nat->Nat} {listed:Array Bool} {g:Gh} {a:Act} {w:World}
theorem at_lt {i:Nat} {o:Oper} (h:At ops i o):i<ops.size:=by
 have:=(List.getElem?_eq_some_iff.1 h).1
 omega
theorem at_get {i:Nat} {o:Oper} (h:At ops i o):ops[i]?=some o:=by
 unfold At at h
 simpa using h
theorem mentT_none:∀t:T,mentT [] t=false:=by
 intro t
 induction t using T.rec (motive_2:=λl=>mentTs [] l=false) with
 |fn f a b iha ihb=>simp[mentT,iha,ihb]
 |ifc t v ih=>simp[mentT,ih]
 |agg cs ih=>simp[mentT,ih]
 |tup cs ih=>simp[mentT,ih]
 |gd c v ih=>simp[mentT,ih]
 |nil=>rfl
 |cons a l iha ihl=>simp[mentTs,iha,ihl]
 |_=>simp[mentT]
def dead (ops:List Oper) (done:Nat) (listed:Array Bool):List Nat:=ops.zipIdx.filterMap λ(o,i)=>if listed.getD i false=done.testBit i then none else o.dst
theorem mem_dead {k:Nat}:k∈dead ops.toList done listed↔∃i o,At ops i o∧o.dst=some k∧¬(Lis listed i↔done.testBit i=true):=by
 have hb:∀i,(listed.getD i false=done.testBit i)↔(Lis listed i↔done.testBit i=true):=λi=>by
  unfold Lis
  cases listed.getD i false<;>cases done.testBit i<;>simp
 unfold dead
 rw[List.mem_filterMap]
 constructor
 .rintro ⟨⟨o,i⟩,hm,h⟩
  dsimp only at h
  split at h
  .cases h
  .rename_i hc
   exact ⟨i,o,List.mem_zipIdx_iff_getElem?.1 hm,h,λhh=>hc ((hb i).2 hh)⟩
 .rintro ⟨i,o,hi,hd,hc⟩
  refine ⟨(o,i),List.mem_zipIdx_iff_getElem?.2 hi,?_⟩
  simp_all
def rfr (ks:List Nat) (fr:FrV S):FrV S:={fr with tm:=ks.foldl (λt k=>t.del fuelTr k) fr.tm}
theorem DInv.core (h:DInv E ops fr0 s0 g0 w0 done fr s bl listed g a w):DCore E ops fr0 s0 g0 w0 done fr s listed g a w:=⟨h.n,h.nb,h.asz,h.df,h.tm,h.dcl,h.aft⟩
theorem DCore.frel (hst:DStat E ops fr0.n) (h:DCore E ops fr0 s0 g0 w0 done fr s listed g a w):FRel g (lowFr (rfr (dead ops.toList done listed) fr)) a w∧(rfr (dead ops.toList done listed) fr).n=fr.n∧
  ∀{i:Nat} {o:Oper},At ops i o->(∀j,Pre ops.toList i j->Lis listed j∧done.testBit j=true)->(∀j,antiP ops.toList j->Pre ops.toList j i->¬Lis listed j∧done.testBit j=false)->∀k,k∈tmpsOf o.op∨gdTmp ops.toList o=some k->fr.get k=(rfr (dead ops.toList done listed) fr).get k:=by
 have hget:∀k,(rfr (dead ops.toList done listed) fr).get k=if k∈dead ops.toList done listed then none else fr.get k:=λk=>Tr.get_dels _ _ _ λb hb=>by
  let ⟨i,o,hi,hd,_⟩:=mem_dead.1 hb
  exact (dst_ok hst.ds hi hd).1
 refine ⟨⟨h.asz,h.df,λk t hk=>?_⟩,rfl,λ{i o} ho hp hq k hk=>?_⟩
 .rw[lowFr_get,Option.map_eq_some_iff] at hk
  obtain ⟨v,hv,rfl⟩:=hk
  rw[hget] at hv
  split at hv
  .cases hv
  .rename_i hnd
   exact h.tm k v hv λi o hi hd=>Classical.byContradiction λhc=>hnd (mem_dead.2 ⟨i,o,hi,hd,hc⟩)
 .grind[mem_dead,use_pre]
theorem act_get {a:Act} {dst:Option Tmp} {v:Value} {k:Nat} (h:dst≠some k):(a.put dst v).tmps[k]?=a.tmps[k]?:=by
 cases dst with
 |none=>rfl
 |some d=>
  grind[Act.put]
theorem put_same {a:Act} {d:Nat} {v:Value} (h:d<a.tmps.size):(a.put (some d) v).tmps[d]?=some v:=by
 simp[Act.put,h]
theorem put_size {a:Act} {dst:Option Tmp} {v:Value}:(a.put dst v).tmps.size=a.tmps.size∧(a.put dst v).defers=a.defers:=by
 cases dst<;>simp[Act.put]
theorem AftV.dfs {s s':StV S} {g g':Gh} {w w':World} (h:AftV [] s g w s' g' w') {l:List Df} {m:List Deferred} (hd:DfRels g w l m):DfRels g' w' l m:=
 hd.imp (λt v ht=>h.tr t v ht (mentT_none t)) λo b hb=>by
  have:=h.tr _ _ (.ptr o 0 b hb) (mentT_none _)
  cases this with
  |ptr _ _ _ hb'=>exact hb'
theorem DInv.meet (hst:DStat E ops fr0.n) (h:DInv E ops fr0 s0 g0 w0 done fr s bl listed g a w) {i:Nat} {o:Oper} (ho:At ops i o) (hd:done.testBit i=true) (hl:∀e∈dirs o,Lis listed e) (hok:okDstV fr o.dst=true) {v:Value} {g':Gh} {w':World}
  (ha:AftV [] s g w s g' w') (hv:∀d,o.dst=some d->∀t,fr.get d=some t->TRel g' w' (low t) v):DInv E ops fr0 s0 g0 w0 done fr s bl (listed.setIfInBounds i true) g' (a.put o.dst v) w':=by
 have hi:i<listed.size:=by rw[h.lsz];exact at_lt ho
 have hne:∀{j:Nat} {p:Oper} {k:Nat},At ops j p->j≠i->p.dst=some k->o.dst≠some k:=λhp hne hpd hod=>((dst_ok hst.ds ho hod).2.2 hp (Ne.symm hne)).1 hpd
 refine ⟨by simpa using h.lsz,h.n,h.nb,put_size.1.trans h.asz,by rw[put_size.2];exact ha.dfs h.df,λk t hk hc=>?_,λj p hp hj e he=>?_,h.dcl,λj p hp hj=>?_,λj p hp hj hn=>?_,λj p hp hj hn=>?_,λj m hj hm h1 h2=>?_,h.aft.trans ha.toW,h.fk,h.fl,λj ha hj=>(lis_set hi).2 (.inl (h.an j ha hj))⟩
 .by_cases hod:o.dst=some k
  .have hk':k<fr.n:=by rw[hod] at hok;exact Nat.le_of_ble_eq_true hok
   exact ⟨v,by rw[hod];exact put_same (by rw[h.asz];exact hk'),hv k hod t hk⟩
  .let ⟨u,hu,ht⟩:=h.tm k t hk λj p hp hpd=>by
    have h1:=hc j p hp hpd
    rw[lis_set hi] at h1
    refine Iff.trans ⟨.inl,λh=>h.elim id λe=>?_⟩ h1
    subst e
    have:o=p:=Option.some.inj (ho.symm.trans hp)
    simp_all
   exact ⟨u,by rw[act_get hod];exact hu,ha.tr _ _ ht (mentT_none _)⟩
 .rw[lis_set hi] at hj ⊢
  rcases hj with hj|rfl
  .exact .inl (h.lcl j p hp hj e he)
  .have:o=p:=Option.some.inj (ho.symm.trans hp)
   simp_all
 .rw[lis_set hi] at hj
  rcases hj with hj|rfl
  .exact h.ld j p hp hj
  grind
 .exact h.fo j p hp hj λhl=>hn ((lis_set hi).2 (.inl hl))
 .rw[lis_set hi] at hj
  have hij:j≠i:=λe=>by simp_all
  have hj:Lis listed j:=hj.elim id λe=>absurd e.symm hij
  let ⟨h1,h2⟩:=h.ea j p hp hj hn
  refine ⟨λt ti d q1 q2 q3=>?_,Nat.lt_of_lt_of_le h2 ha.ext.size⟩
  let ⟨z,r1,r2,r3⟩:=h1 t ti d q1 q2 q3
  exact ⟨z,by rw[act_get (hne hp hij q3)];exact r1,r2.aft ha h.fl,r3⟩
 .rw[lis_set hi] at hj hm
  have hj:Lis listed j:=hj.elim id λe=>by simp_all
  have hm:Lis listed m:=hm.elim id λe=>by simp_all
  exact h.eb j m hj hm h1 h2
theorem at_mem {ops:Array Oper} {i:Nat} {o:Oper} (h:At ops i o):o∈ops.toList:=List.mem_of_getElem? (show ops.toList[i]?=some o from by grind[at_get])
theorem DInv.meetQ (hE:EnvVOk E) (hst:DStat E ops fr0.n) (h:DInv E ops fr0 s0 g0 w0 done fr s bl listed g a w) {i:Nat} {o:Oper} (ho:At ops i o) (hd:done.testBit i=true) (hnl:¬Lis listed i) (hl:∀e∈dirs o,Lis listed e)
  {K:Act->World->Prop} {Q:Exit->Act->World->Prop} (hK:∀g' a' w',DInv E ops fr0 s0 g0 w0 done fr s bl (listed.setIfInBounds i true) g' a' w'->K a' w') {rr:Option Nat} (hrr:rr≠none->∀o∈ops.toList,∀c,o.op≠.defer c):OpAt rr E.T.E.P ops Q i K a w:=by
 have hrr':rr≠none->∀c,o.op≠.defer c:=λhr=>hrr hr o (at_mem ho)
 let ⟨hna,hok,hf⟩:=h.fo i o ho hd hnl
 let ⟨hfr,hfn,hag⟩:=h.core.frel hst
 have hpl:∀j,Pre ops.toList i j->Lis listed j∧done.testBit j=true:=λj hj=>⟨pre_closed hst.bk (λi o hi hl=>h.lcl i o hi hl) ho hl j hj,h.dcl i o ho hd j hj⟩
 have hag':=hag ho hpl λj ha hji=>by
  have hnj:¬Lis listed j:=λhlj=>by
   let ⟨q,hq,_⟩:=ha
   exact hnl (pre_closed hst.bk (λi o hi hl=>h.lcl i o hi hl) hq (h.lcl j q hq hlj) i hji)
  refine ⟨hnj,?_⟩
  cases hdj:done.testBit j with
  |false=>rfl
  |true=>exact absurd (h.an j ha hdj) hnj
 have hgv:guardV ops.toList fr o=guardV ops.toList (rfr (dead ops.toList done listed) fr) o:=guardV_congr λk hk=>hag' k (.inr hk)
 have htm:∀k∈tmpsOf o.op,fr.get k=(rfr (dead ops.toList done listed) fr).get k:=λk hk=>hag' k (.inl hk)
 unfold OpAt
 simp[at_get ho]
 rcases hf with ⟨f1,f3⟩|⟨f1,t,f2,f3⟩|⟨c,f1,f4,t,f2,f3⟩
 .rw[skipV_congr (fr':=rfr (dead ops.toList done listed) fr) λk hk=>hag' k (.inr hk)] at f1
  rw[if_neg (by rw[skipV_sound hfr f1];simp_all)]
  exact hK _ _ _ (h.meet hst ho hd hl hok (AftV.refl h.aft.rel) λd hod t' ht'=>by rw[f3 d hod t' ht'];exact unit_rel)
 .rw[hgv] at f1
  have hw:=guardV_sound hfr f1
  rw[if_pos hw]
  refine .of_wp hrr' (.inl ?_)
  rw[evQuiet_congr E none o s some (opd_of_tmps htm)] at f2
  refine evQuiet_sound hE hfr h.aft.rel (.inl rfl) f2 (λt' g' v w' hk haft ht=>?_)
  cases hk
  exact hK _ _ _ (h.meet hst ho hd hl hok haft λd hod t' ht'=>(f3 d hod t' ht').rel ht)
 .rw[hgv] at f1
  have hw:=guardV_sound hfr f1
  rw[evQuiet_congr E (some c) o s some (opd_of_tmps (gdFrV_congr (use_ok hst.us ho) htm))] at f2
  cases c with
  |true=>
   rw[if_pos hw]
   refine .of_wp hrr' (.inl ?_)
   rw[gdOk_congr true htm] at f4
   let ⟨hff,hfn'⟩:=gdFrV_sound hfr (by rw[hfn];exact h.nb) f4
   refine evQuiet_sound hE hff h.aft.rel (.inr rfl) f2 (λt' g' v w' hk haft ht=>?_)
   cases hk
   exact hK _ _ _ (h.meet hst ho hd hl hok haft λd hod t' ht'=>by rw[f3 d hod t' ht'];exact .gd _ _ _ λ_=>ht)
  |false=>
   rw[if_neg (by simp_all)]
   exact hK _ _ _ (h.meet hst ho hd hl hok (AftV.refl h.aft.rel) λd hod t' ht'=>by rw[f3 d hod t' ht'];exact .gd _ _ _ λh=>by cases h)
theorem DInv.meetA (hE:EnvVOk E) (hst:DStat E ops fr0.n) (h:DInv E ops fr0 s0 g0 w0 done fr s bl listed g a w) {i:Nat} {o:Oper} (ho:At ops i o) (hd:done.testBit i=false) (hna:isAlloc o=true) (hnl:¬Lis listed i) (hl:∀e∈dirs o,Lis listed e)
  {K:Act->World->Prop} {Q:Exit->Act->World->Prop} (hK:∀bl' a' w',DInv E ops fr0 s0 g0 w0 done fr s bl' (listed.setIfInBounds i true) g a' w'->K a' w') {rr:Option Nat} (hrr:rr≠none->∀o∈ops.toList,∀c,o.op≠.defer c):OpAt rr E.T.E.P ops Q i K a w:=by
 have hrr':rr≠none->∀c,o.op≠.defer c:=λhr=>hrr hr o (at_mem ho)
 let ⟨hg,⟨t,ti,hop,hti⟩,hdn⟩:=alloc_ok hst.al ho hna
 let ⟨xi,dd,z,hxi,_,_,_,hz,hzok,_⟩:=(hE.tab.ti _ _ hti).all
 unfold OpAt
 simp[at_get ho]
 rw[if_pos (by simp[Region.wanted,hg])]
 refine .of_wp hrr' (.inl ?_)
 unfold Oper.wp
 have hrun:(execOp a.eval o).run E.T.E.P w=.ok (.value (.pointer (some ⟨w.heap.size,0,none⟩))) (w.alloc (.cells z.cells t)):=by
  simp_all[execOp,Instr.alloc,run_zeroValue',newVar,newRow]
 rw[hrun]
 have hi:i<listed.size:=by rw[h.lsz];exact at_lt ho
 have hs:=h.aft.rel
 have hsz:(w.alloc (.cells z.cells t)).heap.size=w.heap.size+1:=by simp
 let ⟨hs',he⟩:=hs.grow (fl:=s.fl) (I:=g.imm) (w':=w.alloc (.cells z.cells t)) (λ_ h=>h) (λ_ h=>.inl h) (λb hb=>by have:=hs.imm b hb;omega) (by omega) (λb hb=>alloc_old w _ b hb) rfl rfl
 have hne:∀{j:Nat} {p:Oper} {k:Nat},At ops j p->j≠i->p.dst=some k->o.dst≠some k:=λhp hne hpd hod=>((dst_ok hst.ds ho hod).2.2 hp (Ne.symm hne)).1 hpd
 refine hK (λj=>if j=i then w.heap.size else bl j) _ _ ⟨by simpa using h.lsz,h.n,h.nb,put_size.1.trans h.asz,by rw[put_size.2];exact h.df.imp (λt v ht=>ht.ext he hs.imm) (λ_ _ h=>h),λk t' hk hc=>?_,λj p hp hj e he=>?_,h.dcl,λj p hp hj=>?_,λj p hp hj hn=>?_,λj p hp hj hn=>?_,λj m hj hm h1 h2 hjm hjs hms=>?_,?_,h.fk,h.fl,λj ha hj=>(lis_set hi).2 (.inl (h.an j ha hj))⟩
 .have hod:o.dst≠some k:=λe=>by
   have:=(hc i o ho e).1 ((lis_set hi).2 (.inr rfl))
   simp_all
  let ⟨u,hu,ht⟩:=h.tm k t' hk λj p hp hpd=>by
   have h1:=hc j p hp hpd
   rw[lis_set hi] at h1
   grind
  exact ⟨u,by rw[act_get hod];exact hu,ht.ext he hs.imm⟩
 .rw[lis_set hi] at hj ⊢
  rcases hj with hj|rfl
  .exact .inl (h.lcl j p hp hj e he)
  .have:o=p:=Option.some.inj (ho.symm.trans hp)
   simp_all
 .rw[lis_set hi] at hj
  rcases hj with hj|rfl
  .exact h.ld j p hp hj
  .have:o=p:=Option.some.inj (ho.symm.trans hp)
   simp_all
 .exact h.fo j p hp hj λhl=>hn ((lis_set hi).2 (.inl hl))
 .by_cases hij:j=i
  .subst hij
   have:o=p:=Option.some.inj (ho.symm.trans hp)
   subst this
   simp only[if_true]
   refine ⟨λt' ti' d q1 q2 q3=>?_,by omega⟩
   rw[hop] at q1
   cases q1
   rw[hti] at q2
   cases q2
   have hdl:d<a.tmps.size:=by rw[h.asz,h.n];exact hdn d q3
   refine ⟨z.cells,by rw[q3];exact put_same hdl,⟨h.aft.ext.size,by omega,λhim=>?_,λk hO=>?_,t,alloc_new w _⟩,hzok⟩
   .have:=hs.imm _ him;omega
   .have:=(hs.ownLt hO).1;omega
  .rw[lis_set hi] at hj
   have hj:Lis listed j:=hj.elim id λe=>absurd e.symm hij
   let ⟨h1,h2⟩:=h.ea j p hp hj hn
   simp only[if_neg hij]
   refine ⟨λt ti d q1 q2 q3=>?_,by omega⟩
   let ⟨z',r1,r2,r3⟩:=h1 t ti d q1 q2 q3
   let ⟨ty,r4⟩:=r2.mem
   exact ⟨z',by rw[act_get (hne hp hij q3)];exact r1,⟨r2.new,by omega,r2.imm,r2.own,ty,by rw[alloc_old w _ _ r2.lt];exact r4⟩,r3⟩
 .have hlt:∀j,Lis listed j->done.testBit j=false->j<ops.size->bl j<w.heap.size:=λj hj hdj hjs=>by
   have hat:At ops j ops[j]:=by simp[At]
   exact (h.ea j _ hat hj hdj).2
  rw[lis_set hi] at hj hm
  by_cases hji:j=i<;>by_cases hmi:m=i
  .omega
  .grind
  .grind
  .rw[if_neg hji,if_neg hmi]
   exact h.eb j m (hj.elim id λe=>absurd e.symm hji) (hm.elim id λe=>absurd e.symm hmi) h1 h2 hjm hjs hms
 .have hx:ExtV s.lo s.fl g w g (w.alloc (.cells z.cells t)):=Ext.toV s.lo he
  exact ⟨hs',h.aft.ext.trans (h.aft.fl▸h.aft.lo▸hx),h.aft.fl,h.aft.lo,h.aft.nob,h.aft.wrm,h.aft.same,h.aft.drm⟩
end
end TL
end
section
namespace TL
open Go
variable {S:Sg}
section
variable {E:EnvV S} {ops:Array Oper} {fr0:FrV S} {s0:StV S} {g0:Gh} {w0:World} {done:Nat} {fr:FrV S} {s:StV S} {bl:Nat->Nat} {listed:Array Bool} {g:Gh} {a:Act} {w:World}
theorem num_nodup (l:List Oper):((numL l).map (·.1)).Nodup:=by
 have:(numL l).map (·.1)=List.range l.length:=by
  unfold numL
  have:((λx:Nat×Oper=>x.1)∘λp:Oper×Nat=>(p.2,p.1))=Prod.snd:=rfl
  grind[List.zipIdx_map_snd,List.range_eq_range']
 grind
theorem DInv.adopt (hst:DStat E ops fr0.n) (h:DInv E ops fr0 s0 g0 w0 done fr s bl listed g a w) {which:Nat} {fr1:FrV S} {s1:StV S} (had:adopt E.T which (numL ops.toList) fr s=some (fr1,s1))
  (hwh:∀j,which.testBit j=true->Lis listed j∧(pendN (numL ops.toList) done).testBit j=true) (hcl:∀j,which.testBit j=true->∀m,Pre ops.toList j m->done.testBit m=true∨which.testBit m=true) :
  ∃g1,Adp E.T which (numL ops.toList) fr s g w a fr1 s1 g1∧DCore E ops fr0 s0 g0 w0 (done||| which) fr1 s1 listed g1 a w:=by
 have hpend:∀{j:Nat} {o:Oper},At ops j o->which.testBit j=true->Lis listed j∧isAlloc o=true∧done.testBit j=false:=λ{j o} ho hj=>by
  let ⟨h1,h2⟩:=hwh j hj
  let ⟨o',ho',h3,h4⟩:=(pend_iff done j).1 h2
  have:o=o':=Option.some.inj (ho.symm.trans ho')
  simp_all
 have hmem:∀{p:Nat×Oper},p∈numL ops.toList->At ops p.1 p.2:=λ{p} hp=>mem_num.1 hp
 obtain ⟨g1,hA⟩:=adopt_sound (w0:=w0) (bl:=bl) had h.nb h.aft.rel (λp hp hw=>by
   let ⟨h1,_,h3⟩:=hpend (hmem hp) hw
   exact (h.ea p.1 p.2 (hmem hp) h1 h3).1) (num_nodup _) (λp hp q hq hpw hqw hne=>by
   let ⟨h1,_,h3⟩:=hpend (hmem hp) hpw
   let ⟨h4,_,h6⟩:=hpend (hmem hq) hqw
   exact h.eb p.1 q.1 h1 h4 h3 h6 hne (at_lt (hmem hp)) (at_lt (hmem hq))) (λp hp q hq hne d hd=>((dst_ok hst.ds (hmem hp) hd).2.2 (hmem hq) hne).1)
 refine ⟨g1,hA,⟨hA.n.trans h.n,by rw[hA.n];exact h.nb,by rw[hA.n];exact h.asz,by rw[lowFr_df,hA.dfs];exact h.df.imp (λ_ _ ht=>ht.le hA.le) hA.le.blk,λk t hk hc=>?_,λj p hp hj m hm=>?_,?_⟩⟩
 .by_cases hex:∃p∈numL ops.toList,which.testBit p.1=true∧p.2.dst=some k
  .exact hA.new k hex t hk
  .rw[hA.old k λp hp hw hd=>hex ⟨p,hp,hw,hd⟩] at hk
   let ⟨v,hv,ht⟩:=h.tm k t hk λi o hi hd=>by
    have h1:=hc i o hi hd
    rw[Nat.testBit_or,Bool.or_eq_true] at h1
    exact h1.trans ⟨λh=>h.elim id λhw=>absurd ⟨(i,o),mem_num.2 hi,hw,hd⟩ hex,.inl⟩
   exact ⟨v,hv,ht.le hA.le⟩
 .rw[Nat.testBit_or,Bool.or_eq_true] at hj ⊢
  rcases hj with hj|hj
  .exact .inl (h.dcl j p hp hj m hm)
  grind
 .have ha:=h.aft
  refine ⟨hA.rel,⟨λo b e=>hA.le.blk o b (ha.ext.blk o b e),λo e x hl k=>hA.le.arr o e x (ha.ext.arr o e x hl k),λb hb=>hA.le.imm b (ha.ext.imm b hb),ha.ext.size,ha.ext.heap,λo b hl hO=>?_,λb hb=>ha.ext.immn b (by rw[hA.imm] at hb;exact hb),ha.ext.os,ha.ext.output⟩,hA.fl.trans ha.fl,hA.lo.trans ha.lo,Nat.le_trans ha.nob hA.nob,λo ho=>by rw[hA.wr];exact ha.wrm o ho,λo ho hn=>?_,λo ho=>by rw[hA.dr];exact ha.drm o ho⟩
  .rcases hA.own o b hO with hO|⟨p,hp,hw,d,hd,htm⟩
   .exact ha.ext.own o b hl hO
   .let ⟨h1,_,h3⟩:=hpend (hmem hp) hw
    let ⟨t,ti,d',e1,e2,e3,_⟩:=hA.dsts p hp hw
    let ⟨z,r1,r2,_⟩:=(h.ea p.1 p.2 (hmem hp) h1 h3).1 t ti d' e1 e2 e3
    have:d=d':=Option.some.inj (hd.symm.trans e3)
    subst this
    rw[htm] at r1
    cases r1
    exact .inr r2.new
  .rw[hA.ob o (Nat.lt_of_lt_of_le ho ha.nob)]
   exact ha.same o ho (by rw[hA.wr] at hn;exact hn)
theorem forgetF_get {ow:List Nat} {k:Nat} {v:V S} (h:(forgetF ow fr).get k=some v):fr.get k=some v∧mentT ow (low v)=false:=by
 cases ow with
 |nil=>exact ⟨h,mentT_none _⟩
 |cons o ow=>
  grind[forgetF,FrV.get,Tr.get_keep,Option.filter_eq_some_iff,ments_low]
theorem forgetF_keep {ow:List Nat} {k:Nat} {v:V S} (h:fr.get k=some v) (hm:ments ow v=false):(forgetF ow fr).get k=some v:=by
 cases ow with
 |nil=>exact h
 |cons o ow=>
  grind[forgetF,FrV.get,Tr.get_keep]
theorem evStepV_dst {call:CallV S} {l:List Oper} {o:Oper} {ω:Type} {kp:V S->StV S->Option ω} {k:V S->StV S->List Nat->Option ω} {r:ω} (h:evStepV E call l o fr s kp k=some r):okDstV fr o.dst=true:=by
 unfold evStepV at h
 grind
theorem stays_at {done i:Nat} {nob:Nat} {wr ow:List Nat}:∀{l:Num},staysB ops.toList (befL ops.toList) done i fr nob wr ow l=true->∀{j:Nat} {p:Oper},(j,p)∈l->done.testBit j=true->isAlloc p=false->¬Pre ops.toList i j->
  (opMents (outP wr nob) fr p.op=false∧opMents (outP wr nob) (gdFrV fr p.op) p.op=false)∨(pureB p.op=true∧opMents (λx=>ow.contains x) fr p.op=false∧opMents (λx=>ow.contains x) (gdFrV fr p.op) p.op=false):=by
 intro l
 induction l with
 |nil=>simp_all
 |cons q l ih=>
  intro h j p hm hd hna hnp
  let ⟨j',p'⟩:=q
  simp only[staysB,Bool.and_eq_true] at h
  rcases List.mem_cons.1 hm with he|hm
  .cases he
   have h1:=h.1
   simp only[hd,hna,Bool.not_true,Bool.false_or] at h1
   rw[Bool.or_eq_true] at h1
   rcases h1 with h1|h1
   .exact absurd h1 hnp
   grind
  grind
end
end TL
end
section
namespace TL
open Go
variable {S:Sg}
section
variable {E:EnvV S} {ops:Array Oper} {fr0:FrV S} {s0:StV S} {g0:Gh} {w0:World} {done:Nat} {fr:FrV S} {s:StV S} {bl:Nat->Nat} {listed:Array Bool} {g:Gh} {a:Act} {w:World}
theorem opMents_tmp {p:Nat->Bool} {o:Op} (h:opMents p fr o=false) {k:Nat} (hk:k∈tmpsOf o) {v:V S} (hv:fr.get k=some v):mentP p v=false:=by
 let ⟨x,hx,hxx⟩:=List.mem_filterMap.1 hk
 grind[opMents,opdV]
theorem ments_sub {ow wr:List Nat} {nob:Nat} (hsub:∀o∈ow,o∈wr) {v:V S} (h:mentP (outP wr nob) v=false):ments ow v=false:=by
 grind[ments_P,mentP_mono,outP]
theorem skipV_plain {ops:List Oper} {fr:FrV S} {o:Oper} {k:Nat} {v:V S} (h:skipV ops fr o=true) (hk:gdTmp ops o=some k) (hv:fr.get k=some v):(∃b,v=.kb b)∨∃l,v=.dat (.lit (.tuple l)):=by
 unfold skipV at h
 unfold gdTmp at hk
 grind
theorem DInv.step (hE:EnvVOk E) {call:CallV S} (hcall:CallOkV E.T.E.P call) (hst:DStat E ops fr0.n) (h:DInv E ops fr0 s0 g0 w0 done fr s bl listed g a w) {i:Nat} {o:Oper} (ho:At ops i o) (hd:done.testBit i=false) (hnl:¬Lis listed i) (hl:∀e∈dirs o,Lis listed e)
  (hsub:∀j,Pre ops.toList i j->done.testBit j=true∨(pendN (numL ops.toList) done).testBit j=true) {fr1:FrV S} {s1:StV S} (had:TL.adopt E.T (pendN (numL ops.toList) done&&& (befL ops.toList).getD i 0) (numL ops.toList) fr s=some (fr1,s1))
  {ω:Type} {kp:FrV S->V S->StV S->Option ω} {k:Nat->FrV S->StV S->Option ω} {r:ω}
  (hev:evStepV E call ops.toList o fr1 {s1 with wr:=[]} (λt s'=>kp (delD ops.toList fr1) t {s' with wr:=s'.wr++s1.wr}) (λt s' ow=>bif staysB ops.toList (befL ops.toList) done i fr s.nob s'.wr ow (numL ops.toList) then
   k (done||| (pendN (numL ops.toList) done&&& (befL ops.toList).getD i 0)||| 1 <<< i) ((forgetF ow fr1).putO o.dst t) {s' with wr:=s'.wr++s1.wr} else none)=some r)
  {K:Act->World->Prop} {Q:Exit->Act->World->Prop}
  (hK:∀done' fr' s' g' a' w',k done' fr' s'=some r->DInv E ops fr0 s0 g0 w0 done' fr' s' bl (listed.setIfInBounds i true) g' a' w'->K a' w')
  (hP:∀fr' t s' g' a' v w',kp fr' t s'=some r->fr'.n=fr0.n->FRel g' (lowFr fr') a' w'->AftW s0 g0 w0 s' g' w'->FrOk (ops.toList.filterMap (·.dst)) fr0 fr' s'.dr s0.nob->TRel g' w' (low t) v->Q (.panic [{v,recovered:=false}]) a' w') {rr:Option Nat} (hrr:rr≠none->∀o∈ops.toList,∀c,o.op≠.defer c):OpAt rr E.T.E.P ops Q i K a w:=by
 have hrr':rr≠none->∀c,o.op≠.defer c:=λhr=>hrr hr o (at_mem ho)
 have hi:i<listed.size:=by rw[h.lsz];exact at_lt ho
 have hpl:∀j,Pre ops.toList i j->Lis listed j:=pre_closed hst.bk (λi o hi hl=>h.lcl i o hi hl) ho hl
 generalize hwe:pendN (numL ops.toList) done&&& (befL ops.toList).getD i 0=which at had hev
 have hwb:∀j,which.testBit j=true↔(pendN (numL ops.toList) done).testBit j=true∧Pre ops.toList i j:=λj=>by
  rw[<-hwe,Nat.testBit_and,Bool.and_eq_true]
  rfl
 let ⟨g1,hA,hC⟩:=h.adopt hst had (λj hj=>⟨hpl j ((hwb j).1 hj).2,((hwb j).1 hj).1⟩) (λj hj m hm=>by
  have hpm:=pre_trans hst.bk ho ((hwb j).1 hj).2 hm
  simp_all)
 have hpd:∀j,Pre ops.toList i j->(done||| which).testBit j=true:=λj hj=>by
  simp_all
 have hwd:∀{j:Nat} {q:Oper},At ops j q->which.testBit j=true->Lis listed j∧isAlloc q=true∧done.testBit j=false:=λ{j q} hq hj=>by
  let ⟨o',ho',h3,h4⟩:=(pend_iff done j).1 ((hwb j).1 hj).1
  have:q=o':=Option.some.inj (hq.symm.trans ho')
  simp_all
 have hwi:which.testBit i=false:=by
  grind
 have hdst1:okDstV fr1 o.dst=true:=evStepV_dst hev
 have hdst:okDstV (forgetF (S:=S) [] fr1) o.dst=true:=hdst1
 let ⟨hfr,hfn,hag⟩:=hC.frel hst
 have hag':=hag ho (λj hj=>⟨hpl j hj,hpd j hj⟩) λj ha hji=>by
  let ⟨q,hq,_⟩:=ha
  have hnj:¬Lis listed j:=λhlj=>hnl (pre_closed hst.bk (λi o hi hl=>h.lcl i o hi hl) hq (h.lcl j q hq hlj) i hji)
  refine ⟨hnj,?_⟩
  cases hdj:(done||| which).testBit j with
  |false=>rfl
  |true=>
   rw[Nat.testBit_or,Bool.or_eq_true] at hdj
   rcases hdj with hdj|hdj
   .have:=h.dcl j q hq hdj i hji
    simp_all
   simp_all
 rw[evStepV_congr E call _ _ _ hfn.symm (use_ok hst.us ho) (λk hk=>hag' k (.inl hk)) (λk hk=>hag' k (.inr hk))] at hev
 have hs1:SRel g1 (lowSt {s1 with wr:=[]}) w:=hC.aft.rel
 unfold OpAt
 simp[at_get ho]
 refine (evStepV_sound hE hcall (by rw[hfn];exact hC.nb) hfr hs1 hev (λt s' ow g' v w' hk ht haft=>?_) (λt s' g' v w' hk haft ht=>?_) hrr').2
 .rcases cond_some hk with ⟨hstay,hk⟩|⟨_,hk⟩
  rotate_left
  .cases hk
  refine hK _ _ _ g' _ w' hk ?_
  have hfl1:s1.fl=0:=hA.fl.trans h.fl
  have hnf:∀ow':List Nat,(forgetF ow' fr1).n=fr1.n:=λow'=>forgetF_n ow' fr1
  have hokf:okDstV (forgetF ow fr1) o.dst=true:=okDst_forget hdst1
  have hget:∀k,((forgetF ow fr1).putO o.dst t).get k=if o.dst=some k then some t else (forgetF ow fr1).get k:=λk=>getD_putO hokf (by rw[hnf];exact hC.nb)
  have hnn:((forgetF ow fr1).putO o.dst t).n=fr1.n:=by
   have:((forgetF ow fr1).putO o.dst t).n=(forgetF ow fr1).n:=by cases o.dst<;>rfl
   rw[this,hnf]
  have haft2:AftW s1 g1 w {s' with wr:=s'.wr++s1.wr} g' w':=
   ⟨haft.rel,haft.ext,haft.fl,haft.lo,haft.nob,λo ho=>List.mem_append_right _ ho,λo ho hn=>haft.same o ho (λhm=>hn (List.mem_append_left _ hm)),haft.drm⟩
  have hne:∀{j:Nat} {p:Oper} {k:Nat},At ops j p->j≠i->p.dst=some k->o.dst≠some k:=λhp hne hpd hod=>((dst_ok hst.ds ho hod).2.2 hp (Ne.symm hne)).1 hpd
  have hd':∀j,(done||| which||| 1 <<< i).testBit j=true↔(done.testBit j=true∨which.testBit j=true)∨i=j:=λj=>by
   rw[done_or,Nat.testBit_or,Bool.or_eq_true]
  refine ⟨by simpa using h.lsz,hnn.trans hC.n,by rw[hnn];exact hC.nb,by rw[put_size.1,hnn];exact hC.asz,?_,λk t' hk' hc=>?_,λj p hp hj e he=>?_,λj p hp hj m hm=>?_,λj p hp hj=>?_,λj p hp hj hn=>?_,λj p hp hj hn=>?_,λj m hj hm h1 h2 hjm hjs hms=>?_,hC.aft.trans haft2,?_,haft.fl.trans hfl1,λj ha hj=>?_⟩
  .rw[put_size.2,lowFr_df,putO_df]
   cases ow with
   |nil=>exact haft.dfs hC.df
   |cons x ow=>exact (cleanDf_left (λv=>ments_low _ v) (λ_ _=>rfl) fr1.df).rel haft.tr hC.df
  .rw[hget] at hk'
   by_cases hod:o.dst=some k
   .rw[if_pos hod] at hk'
    cases hk'
    have hk2:k<fr1.n:=by rw[hod] at hdst1;exact Nat.le_of_ble_eq_true hdst1
    exact ⟨v,by rw[hod];exact put_same (by rw[hC.asz];exact hk2),ht⟩
   .rw[if_neg hod] at hk'
    let ⟨h1,h2⟩:=forgetF_get hk'
    let ⟨u,hu,htu⟩:=hC.tm k t' h1 λj p hp hpd=>by
     have c1:=hc j p hp hpd
     rw[lis_set hi,hd'] at c1
     grind
    exact ⟨u,by rw[act_get hod];exact hu,haft.tr _ _ htu h2⟩
  .rw[lis_set hi] at hj ⊢
   rcases hj with hj|rfl
   .exact .inl (h.lcl j p hp hj e he)
   .have:o=p:=Option.some.inj (ho.symm.trans hp)
    simp_all
  .rw[hd'] at hj ⊢
   rcases hj with hj|rfl
   .left
    have:=hC.dcl j p hp (by simp_all) m hm
    rwa [Nat.testBit_or,Bool.or_eq_true] at this
   simp_all
  .rw[lis_set hi] at hj
   rw[hd']
   rcases hj with hj|rfl
   .exact (h.ld j p hp hj).imp (λh=>.inl (.inl h)) id
   omega
  ·
   have hji:j≠i:=λe=>hn ((lis_set hi).2 (.inr e.symm))
   have hnl:¬Lis listed j:=λhl=>hn ((lis_set hi).2 (.inl hl))
   have hdj:done.testBit j=true:=by
    grind
   let ⟨hna,hfo⟩:=h.fo j p hp hdj hnl
   have hnp:¬Pre ops.toList i j:=λhpr=>hnl (hpl j hpr)
   have hmm:=stays_at hstay (mem_num.2 hp) hdj hna hnp
   have hpi:∀{m:Nat} {q:Oper} {k:Nat},At ops m q->(m=i∨which.testBit m=true)->(k∈tmpsOf p.op∨gdTmp ops.toList p=some k)->q.dst≠some k:=by
    intro m q k hq hm hk hqd
    have hpre:Pre ops.toList j m:=by
     rcases (use_pre hst hp hk hq hqd).2 with h1|⟨h1,_⟩
     .exact h1
     .exfalso
      rcases hm with rfl|hm
      .exact hnp h1
      .exact hnl (pre_closed hst.bk (λi o hi hl=>h.lcl i o hi hl) hq (h.lcl m q hq (hwd hq hm).1) j h1)
    have:=h.dcl j p hp hdj m hpre
    grind
   have hold:∀k,(k∈tmpsOf p.op∨gdTmp ops.toList p=some k)->fr1.get k=fr.get k:=λk hk=>hA.old k λq hq hw=>hpi (mem_num.1 hq) (.inr hw) hk
   have hput:∀k,(k∈tmpsOf p.op∨gdTmp ops.toList p=some k)->((forgetF ow fr1).putO o.dst t).get k=(forgetF ow fr1).get k:=λk hk=>by rw[hget,if_neg (hpi ho (.inl rfl) hk)]
   have hsubw:∀o∈ow,o∈s'.wr:=haft.oww
   have hkeep:∀k,fr.get k=fr1.get k->(∀v,fr.get k=some v->ments ow v=false)->(forgetF ow fr1).get k=fr.get k:=λk he hm=>by
    cases hfk:fr.get k with
    |some v=>grind[forgetF_keep]
    |none=>
     cases hfk2:(forgetF ow fr1).get k with
     |none=>rfl
     |some v=>
      have:=(forgetF_get hfk2).1
      simp_all
   have hno:∀k v,k∈tmpsOf p.op->fr.get k=some v->ments ow v=false:=λk v hk hv=>by
    grind[ments_sub,opMents_tmp,ments_P]
   have hsame:∀x,outP s'.wr s.nob x=false->({s' with wr:=s'.wr++s1.wr}:StV S).ob.get x=s.ob.get x:=λx hx=>by
    simp only[outP,Bool.or_eq_false_iff] at hx
    have hx1:x∉s'.wr:=by grind
    have hx2:x<s.nob:=by
     grind[Nat.ble_eq_true_of_le]
    have:=haft.same x (Nat.lt_of_lt_of_le hx2 hA.nob) hx1
    exact this.trans (hA.ob x hx2)
   refine ⟨hna,hfo.move (hnn.trans hA.n) (use_ok hst.us hp) (λk hk=>?_) (λk hk=>?_) (λd hpd' t' ht'=>?_) (p:=outP s'.wr s.nob) (.inr (hmm.imp (λh=>⟨h.1,h.2,hsame⟩) (λh=>h.1)))⟩
   .grind
   .rw[hput k (.inr hk)]
    refine hkeep k (hold k (.inr hk)).symm λv hv=>?_
    rcases hfo.2 with ⟨f1,_⟩|hrest
    .rcases skipV_plain f1 hk hv with ⟨b,rfl⟩|⟨l,rfl⟩<;>rfl
    have hgv:∃b,boolV v=some b:=by
     have hsome:∃c,guardV ops.toList fr p=some (some c)∨guardV ops.toList fr p=some none:=by
      rcases hrest with ⟨f1,_⟩|⟨c,f1,_⟩
      .simp_all
      simp_all
     let ⟨c,hsome⟩:=hsome
     unfold gdTmp at hk
     unfold guardV at hsome
     cases hpg:p.guard with
     |none=>simp_all
     |some q=>
      let ⟨m,want⟩:=q
      simp[hpg] at hk hsome
      rw[hk,Option.bind_some,hv] at hsome
      cases hb:boolV v with
      |some b=>grind
      |none=>
       exfalso
       cases v<;>first|(cases hb;done)|(simp only[hb] at hsome;rcases hsome with h|h<;>cases h)
    let ⟨b,hb⟩:=hgv
    cases v<;>first|rfl|simp[boolV] at hb
   .rw[hget,if_neg (hne hp hji hpd')] at ht'
    have h1:=(forgetF_get ht').1
    rw[hA.old d λq hq hw hqd=>?_] at h1
    .exact h1
    .have hq':At ops q.1 q.2:=mem_num.1 hq
     have hjq:j≠q.1:=λe=>by
      simp_all
     exact ((dst_ok hst.ds hp hpd').2.2 hq' hjq).1 hqd
  .have hji:j≠i:=λe=>by
    simp_all
   have hdj:done.testBit j=false:=by
    simp_all
   have hwj:which.testBit j=false:=by
    simp_all
   rw[lis_set hi] at hj
   have hlj:Lis listed j:=hj.elim id λe=>absurd e.symm hji
   let ⟨h1,h2⟩:=h.ea j p hp hlj hdj
   refine ⟨λt2 ti d q1 q2 q3=>?_,Nat.lt_of_lt_of_le h2 haft.ext.size⟩
   let ⟨z,r1,r2,r3⟩:=h1 t2 ti d q1 q2 q3
   have hfree1:Free g1 w0 w (bl j) z:=⟨r2.new,r2.lt,by rw[hA.imm];exact r2.imm,λx hO=>by
    rcases hA.own x (bl j) hO with hO|⟨q,hq,hw,d2,hd2,htm⟩
    .exact r2.own x hO
    .have hq':At ops q.1 q.2:=mem_num.1 hq
     let ⟨l1,_,l3⟩:=hwd hq' hw
     let ⟨t3,ti3,d3,e1,e2,e3,_⟩:=hA.dsts q hq hw
     let ⟨z3,u1,_,_⟩:=(h.ea q.1 q.2 hq' l1 l3).1 t3 ti3 d3 e1 e2 e3
     have:d2=d3:=Option.some.inj (hd2.symm.trans e3)
     subst this
     have hbb:bl j=bl q.1:=by
      simp_all
     have hjq:j≠q.1:=λe=>by simp_all
     exact h.eb j q.1 hlj l1 hdj l3 hjq (at_lt hp) (at_lt hq') hbb,r2.mem⟩
   exact ⟨z,by rw[act_get (hne hp hji q3)];exact r1,hfree1.aft haft hfl1,r3⟩
  .have hx:∀j,(done||| which||| 1 <<< i).testBit j=false->done.testBit j=false∧i≠j:=λj hj=>by
    grind
   rw[lis_set hi] at hj hm
   exact h.eb j m (hj.elim id λe=>absurd e (hx j h1).2) (hm.elim id λe=>absurd e (hx m h2).2) (hx j h1).1 (hx m h2).1 hjm hjs hms
  .refine ⟨λk v hk hv=>?_,?_⟩
   rotate_left
   .rw[putO_df]
    have h0:DfOk (outP s'.dr s0.nob) fr0.df fr1.df:=by
     rw[hA.dfs]
     exact h.fk.df.mono (outP_mono (λx hx=>haft.drm x (by rw[hA.dr];exact hx)) (Nat.le_refl _))
    cases ow with
    |nil=>exact h0
    |cons x ow=>
     refine h0.trans (cleanDf_ok (p:=(x ::ow).contains) (λo' ho'=>?_) (λv=>ments_P _ v) _).ok
     have:=haft.owd o' (by grind)
     simp[outP,this]
   have hkd:∀{m:Nat} {q:Oper},At ops m q->q.dst≠some k:=λhq hqd=>hk (List.mem_filterMap.2 ⟨_,List.mem_of_getElem? hq,hqd⟩)
   rcases h.fk.tm k v hk hv with h1|h1
   .rw[hget,if_neg (hkd ho)]
    rw[<-hA.old k λq hq _=>hkd (mem_num.1 hq)] at h1
    cases hm:ments ow v with
    |false=>exact .inl (forgetF_keep h1 hm)
    |true=>
     rw[ments_P] at hm
     refine .inr (mentP_mono (λx hx=>?_) v hm)
     have:x∈ow:=by simpa using hx
     have:=haft.owd x this
     simp[outP,this]
   .exact .inr (mentP_mono (outP_mono (λx hx=>haft.drm x (by rw[hA.dr];exact hx)) (Nat.le_refl _)) v h1)
  .rw[lis_set hi]
   rcases (hd' j).1 hj with (hj|hj)|hj
   .exact .inl (h.an j ha hj)
   .simp_all
   omega
 .have hds:∀d∈ops.toList.filterMap (·.dst),d<bigN:=λd hd=>by
   let ⟨q,hq,hqd⟩:=List.mem_filterMap.1 hd
   let ⟨m,hm⟩:=List.getElem?_of_mem hq
   exact (dst_ok hst.ds hm hqd).1
  have hgd:∀k,(delD ops.toList fr1).get k=if k∈ops.toList.filterMap (·.dst) then none else fr1.get k:=λk=>Tr.get_dels _ _ _ hds
  have hdr:∀x,outP s.dr s0.nob x=true->outP s'.dr s0.nob x=true:=outP_mono (λx hx=>haft.drm x (by rw[hA.dr];exact hx)) (Nat.le_refl _)
  refine hP _ t _ g' _ v w' hk hC.n ⟨hC.asz,haft.dfs hC.df,λk t' hk'=>?_⟩ (hC.aft.trans ⟨haft.rel,haft.ext,haft.fl,haft.lo,haft.nob,λo ho=>List.mem_append_right _ ho,λo ho hn=>haft.same o ho (λhm=>hn (List.mem_append_left _ hm)),haft.drm⟩) ⟨λk v hk hv=>?_,?_⟩ ht
  .rw[lowFr_get,hgd] at hk'
   split at hk'
   .cases hk'
   .rename_i hnk
    rw[Option.map_eq_some_iff] at hk'
    obtain ⟨u,hu,rfl⟩:=hk'
    let ⟨v',hv',ht'⟩:=hC.tm k u hu λi o hi hod=>absurd (List.mem_filterMap.2 ⟨o,List.mem_of_getElem? hi,hod⟩) hnk
    exact ⟨v',hv',haft.tr _ _ ht' (mentT_nil _)⟩
  .rcases h.fk.tm k v hk hv with h1|h1
   .left
    rw[hgd,if_neg hk,hA.old k λq hq _ hqd=>hk (List.mem_filterMap.2 ⟨_,List.mem_of_getElem? (mem_num.1 hq),hqd⟩)]
    exact h1
   .exact .inr (mentP_mono hdr v h1)
  .show DfOk _ fr0.df fr1.df
   rw[hA.dfs]
   exact h.fk.df.mono hdr
end
end TL
end
section
namespace TL
open Go
variable {S:Sg}
theorem readyQ_spec {E:EnvV S} {ops:List Oper} {bef:List Nat} {done:Nat} {fr:FrV S} {i:Nat} {o:Oper}:∀{l:Num},readyQ E ops bef done fr l=some (i,o)->(i,o)∈l∧done.testBit i=false∧isAlloc o=false∧antiB ops bef i o=false∧subN (bef.getD i 0) done=true
 |[],h=>by cases h
 |(j,p) ::l,h=>by
  rcases cond_some h with ⟨hb,h⟩|⟨_,h⟩
  .simp_all
  .let ⟨h1,h2⟩:=readyQ_spec h
   simp_all
theorem readyM_spec {bef:List Nat} {done pend:Nat} {i:Nat} {o:Oper}:∀{l:Num},readyM bef done pend l=some (i,o)->(i,o)∈l∧done.testBit i=false∧isAlloc o=false∧subN (bef.getD i 0) (done||| pend)=true
 |[],h=>by cases h
 |(j,p) ::l,h=>by
  rcases cond_some h with ⟨hb,h⟩|⟨_,h⟩
  .simp_all
  .let ⟨h1,h2⟩:=readyM_spec h
   simp_all
section
variable {ops:Array Oper} {listed:Array Bool}
theorem ready_at {j:Nat} (hsz:listed.size=ops.size) (h:j∈Region.ready .any ops listed):∃o,At ops j o∧¬Lis listed j∧∀e∈dirs o,Lis listed e:=by
 let ⟨h1,o,ho,h2⟩:=mem_ready.1 h
 have hj:j<listed.size:=by grind
 refine ⟨o,by unfold At;simpa using ho,λhl=>?_,λe he=>?_⟩
 .simp_all[Lis]
 .obtain ⟨d,hd,rfl⟩:=List.mem_map.1 he
  rw[List.mem_filter] at hd
  exact h2 d (by grind) hd.2
theorem ready_of {j:Nat} {o:Oper} (hsz:listed.size=ops.size) (ho:At ops j o) (hn:¬Lis listed j) (hd:∀e∈dirs o,Lis listed e):j∈Region.ready .any ops listed:=by
 have hj:j<listed.size:=by rw[hsz];exact at_lt ho
 refine mem_ready.2 ⟨?_,o,at_get ho,λe he hb=>hd e.on (List.mem_map.2 ⟨e,List.mem_filter.2 ⟨by simpa using he,hb⟩,rfl⟩)⟩
 simp_all[Lis]
theorem ready_nil (hb:backB ops.toList 0=true) (hsz:listed.size=ops.size) (h:Region.ready .any ops listed=[]):∀j o,At ops j o->Lis listed j:=by
 intro j
 induction j using Nat.strongRecOn with
 |_ j ih=>
  intro o ho
  refine Classical.byContradiction λhn=>?_
  have:j∈Region.ready .any ops listed:=ready_of hsz ho hn λe he=>by
   have hlt:=back_lt hb ho e he
   have hj:=at_lt ho
   have hat:At ops e (ops[e]'(by omega)):=by
    grind[At]
   grind
  simp_all
theorem count_zero (hsz:listed.size=ops.size) (h:listed.toList.count false<=0) {j:Nat} {o:Oper} (ho:At ops j o):Lis listed j:=by
 have hj:j<listed.size:=by rw[hsz];exact at_lt ho
 have h0:listed.toList.count false=0:=by omega
 rw[List.count_eq_zero] at h0
 unfold Lis
 simp only[Array.getD,hj,dite_true]
 cases hh:listed[j] with
 |true=>exact hh
 |false=>
  grind
theorem count_set (hsz:listed.size=ops.size) {m j:Nat} {o:Oper} (ho:At ops j o) (hn:¬Lis listed j) (h:listed.toList.count false<=m+1):(listed.setIfInBounds j true).toList.count false<=m:=by
 have hj:j<listed.size:=by rw[hsz];exact at_lt ho
 simp_all[Lis,List.count_set]
end
section
variable {E:EnvV S} {ops:Array Oper} {fr0:FrV S} {s0:StV S} {g0:Gh} {w0:World}
theorem draw_sound (hE:EnvVOk E) {call:CallV S} (hcall:CallOkV E.T.E.P call) (hst:DStat E ops fr0.n) {ω:Type} {kp:FrV S->V S->StV S->Option ω} {kk:FrV S->StV S->Option ω} {r:ω} {Q:Exit->Act->World->Prop}
  (hN:∀fr' s' g' a' w',kk fr' s'=some r->fr'.n=fr0.n->FRel g' (lowFr fr') a' w'->AftW s0 g0 w0 s' g' w'->FrOk (ops.toList.filterMap (·.dst)) fr0 fr' s'.dr s0.nob->Q .normal a' w')
  (hP:∀fr' t s' g' a' v w',kp fr' t s'=some r->fr'.n=fr0.n->FRel g' (lowFr fr') a' w'->AftW s0 g0 w0 s' g' w'->FrOk (ops.toList.filterMap (·.dst)) fr0 fr' s'.dr s0.nob->TRel g' w' (low t) v->Q (.panic [{v,recovered:=false}]) a' w') {rr:Option Nat} (hrr:rr≠none->∀o∈ops.toList,∀c,o.op≠.defer c) :
  ∀(n done:Nat) (fr:FrV S) (s:StV S),evDraw E call ops.toList (befL ops.toList) (numL ops.toList) kp kk n done fr s=some r->∀(m:Nat) (listed:Array Bool) (bl:Nat->Nat) (g:Gh) (a:Act) (w:World),
   DInv E ops fr0 s0 g0 w0 done fr s bl listed g a w->listed.toList.count false<=m->AnyR rr E.T.E.P ops Q m listed a w:=by
 intro n
 induction n with
 |zero=>intro done fr s h;cases h
 |succ n ih=>
  intro done fr s h
  simp only[evDraw] at h
  split at h
  ·
   rename_i i o hq
   let ⟨hm,hnd,hna,han,hsub⟩:=readyQ_spec hq
   have ho:At ops i o:=mem_num.1 hm
   replace han:¬antiP ops.toList i:=antiB_no ho han
   rcases cond_some h with ⟨hd,h2⟩|⟨_,h2⟩
   rotate_left
   .cases h2
   clear h
   intro m listed bl g a w hinv hc
   rcases cond_some h2 with ⟨hsk,h3⟩|⟨_,h2⟩
   .exact ih _ _ _ h3 m listed bl g a w (hinv.float hst ho hnd hna han (subN_iff.1 hsub) hd (.inl ⟨hsk,rfl⟩)) hc
   split at h2
   .cases h2
   .rename_i hg
    rw[evQuiet_bind] at h2
    let ⟨t,e1,h3⟩:=Option.bind_eq_some_iff.1 h2
    let ⟨t',hkb,h3⟩:=splitV_kb h3
    exact ih _ _ _ h3 m listed bl g a w (hinv.float hst ho hnd hna han (subN_iff.1 hsub) hd (.inr (.inl ⟨hg,t,e1,hkb⟩))) hc
   .rename_i c hg
    let ⟨hok,h2⟩:=chk_some h2
    rw[evQuiet_bind] at h2
    let ⟨t,e1,h3⟩:=Option.bind_eq_some_iff.1 h2
    exact ih _ _ _ h3 m listed bl g a w (hinv.float hst ho hnd hna han (subN_iff.1 hsub) hd (.inr (.inr ⟨c,t,hg,hok,e1,rfl⟩))) hc
  .split at h
   ·
    rename_i i o hq
    let ⟨hm,hnd,hna,hsub⟩:=readyM_spec hq
    have ho:At ops i o:=mem_num.1 hm
    rcases cond_some h with ⟨hall,h2⟩|⟨_,h2⟩
    rotate_left
    .cases h2
    clear h
    split at h2
    .cases h2
    rename_i fr1 s1 had
    intro m
    induction m with
    |zero=>
     intro listed bl g a w hinv hc
     exfalso
     rcases hinv.ld i o ho (count_zero hinv.lsz hc ho) with h1|h1
     .simp_all
     simp_all
    |succ m ihm=>
     intro listed bl g a w hinv hc
     have hnl:¬Lis listed i:=λhl=>by
      rcases hinv.ld i o ho hl with h1|h1
      .simp_all
      simp_all
     refine ⟨λhr=>absurd (ready_nil hst.bk hinv.lsz hr i o ho) hnl,λj hj=>?_⟩
     let ⟨p,hp,hjl,hjd⟩:=ready_at hinv.lsz hj
     cases hdj:done.testBit j with
     |true=>exact hinv.meetQ hE hst hp hdj hjl hjd (λg' a' w' hinv'=>ihm _ bl g' a' w' hinv' (count_set hinv.lsz hp hjl hc)) hrr
     |false=>
      cases haj:isAlloc p with
      |true=>exact hinv.meetA hE hst hp hdj haj hjl hjd (λbl' a' w' hinv'=>ihm _ bl' g a' w' hinv' (count_set hinv.lsz hp hjl hc)) hrr
      |false=>
       have hji:i=j:=by
        have:=List.all_eq_true.1 hall (j,p) (mem_num.2 hp)
        simp only[hdj,haj,Bool.false_or,Bool.or_eq_true] at this
        rcases this with h1|h1
        .simp_all
        .exact absurd (pre_closed hst.bk (λi o hi hl=>hinv.lcl i o hi hl) hp hjd i h1) hnl
       subst hji
       have:o=p:=Option.some.inj (ho.symm.trans hp)
       subst this
       refine hinv.step hE hcall hst ho hnd hjl hjd (λj hj=>?_) had (kp:=kp) (k:=λdone fr s=>evDraw E call ops.toList (befL ops.toList) (numL ops.toList) kp kk n done fr s) h2 (λdone' fr' s' g' a' w' hk hinv'=>ih _ _ _ hk m _ bl g' a' w' hinv' (count_set hinv.lsz ho hjl hc)) hP hrr
       have:=subN_iff.1 hsub j hj
       rwa [Nat.testBit_or,Bool.or_eq_true] at this
   ·
    split at h
    .cases h
    rename_i fr1 s1 had
    rcases cond_some h with ⟨hall,h2⟩|⟨_,h2⟩
    rotate_left
    .cases h2
    have hda:∀{j:Nat} {p:Oper},At ops j p->done.testBit j=true∨isAlloc p=true:=λ{j p} hp=>by
     have:=List.all_eq_true.1 hall (j,p) (mem_num.2 hp)
     grind
    have hend:∀(listed:Array Bool) (bl:Nat->Nat) (g:Gh) (a:Act) (w:World),DInv E ops fr0 s0 g0 w0 done fr s bl listed g a w->(∀j o,At ops j o->Lis listed j)->Q .normal a w:=by
     intro listed bl g a w hinv hl
     have hdp:∀{j:Nat} {p:Oper},At ops j p->done.testBit j=true∨(pendN (numL ops.toList) done).testBit j=true:=λ{j p} hp=>by
      cases hdj:done.testBit j with
      |true=>exact .inl rfl
      |false=>exact .inr ((pend_iff done j).2 ⟨p,hp,(hda hp).resolve_left (by simp_all),hdj⟩)
     let ⟨g1,hA,hC⟩:=hinv.adopt hst had (λj hj=>by
       let ⟨p,hp,_⟩:=(pend_iff done j).1 hj
       exact ⟨hl j p hp,hj⟩) (λj hj x hx=>by
       let ⟨p,hp,_⟩:=(pend_iff done j).1 hj
       have hlt:=pre_lt hst.bk hp x hx
       have hjs:=at_lt (ops:=ops) hp
       have hat:At ops x (ops[x]'(by omega)):=by
        grind[At]
       exact hdp hat)
     refine hN fr1 s1 g1 a w h2 hC.n ⟨hC.asz,hC.df,λk t hk=>?_⟩ hC.aft ⟨λk v hk hv=>?_,by rw[hA.dfs,hA.dr];exact hinv.fk.df⟩
     .rw[lowFr_get,Option.map_eq_some_iff] at hk
      obtain ⟨u,hu,rfl⟩:=hk
      exact hC.tm k u hu λi o hi _=>⟨λ_=>by grind,λ_=>hl i o hi⟩
     .rcases hinv.fk.tm k v hk hv with h1|h1
      .left
       rw[hA.old k λq hq _ hqd=>hk (List.mem_filterMap.2 ⟨_,List.mem_of_getElem? (mem_num.1 hq),hqd⟩)]
       exact h1
      .rw[hA.dr]
       exact .inr h1
    intro m
    induction m with
    |zero=>
     intro listed bl g a w hinv hc
     have hl:∀j o,At ops j o->Lis listed j:=λj o ho=>count_zero hinv.lsz hc ho
     refine ⟨?_,hend listed bl g a w hinv hl⟩
     cases hr:Region.ready .any ops listed with
     |nil=>rfl
     |cons j l=>
      let ⟨p,hp,hjl,_⟩:=ready_at hinv.lsz (j:=j) (by simp_all)
      grind
    |succ m ihm=>
     intro listed bl g a w hinv hc
     refine ⟨λhr=>hend listed bl g a w hinv (ready_nil hst.bk hinv.lsz hr),λj hj=>?_⟩
     let ⟨p,hp,hjl,hjd⟩:=ready_at hinv.lsz hj
     cases hdj:done.testBit j with
     |true=>exact hinv.meetQ hE hst hp hdj hjl hjd (λg' a' w' hinv'=>ihm _ bl g' a' w' hinv' (count_set hinv.lsz hp hjl hc)) hrr
     |false=>exact hinv.meetA hE hst hp hdj ((hda hp).resolve_left (by simp_all)) hjl hjd (λbl' a' w' hinv'=>ihm _ bl' g a' w' hinv' (count_set hinv.lsz hp hjl hc)) hrr
theorem drawOk (hE:EnvVOk E) (hm:E.T.E.P.follows .mixedOrders=true) {call:CallV S} (hcall:CallOkV E.T.E.P call):DrawOk E call:=by
 intro id ops ω kp k r fr s hb h hn g a w hf hs Q hN hP rr hrr0
 have hrr:rr≠none->∀o∈ops.toList,∀c,o.op≠.defer c:=λhr=>rdB_ops (hrr0 hr)
 unfold drawB at hb
 simp only[Bool.and_eq_true] at hb
 let ⟨b1,b2,b3,b4,b5,b6⟩:=hb
 have hst:DStat E ops fr.n:=⟨b1,b2,b3,b4,b5⟩
 have hfl:s.fl=0:=Nat.eq_of_beq_eq_true b6
 refine region_anyR hm ?_
 let ⟨hs',he⟩:=hs.grow (fl:=s.fl) (I:=g.imm) (w':={w with drawn:=w.drawn+1}) (λ_ h=>h) (λ_ h=>.inl h) hs.imm (Nat.le_refl _) (λ_ _=>rfl) rfl rfl
 have hAft:AftW s g w s g {w with drawn:=w.drawn+1}:=
  ⟨hs',⟨λ_ _ h=>h,λ_ _ _ _ h=>h,λ_ h=>h,Nat.le_refl _,λ_ _ _=>rfl,λo b hl hO=>.inl ⟨o,hl,hO⟩,λ_ h=>.inl h,rfl,rfl⟩,rfl,rfl,Nat.le_refl _,λ_ h=>h,λ_ _ _=>rfl,λ_ h=>h⟩
 have hL:∀i,¬Lis (Array.replicate ops.size false) i:=λi hl=>by
  simp_all[Lis,Array.getD]
 refine draw_sound hE hcall hst (s0:=s) (g0:=g) (w0:=w) (kp:=kp) (kk:=k) (r:=r) (λfr' s' g' a' w' h1 h2 h3 h4 h5=>hN fr' s' g' a' w' h1 h2 h3 h4 ?_) (λfr' t s' g' a' v w' h1 h2 h3 h4 h5 h6=>hP fr' t s' g' a' v w' h1 h2 h3 h4 h5 h6) hrr _ 0 fr s h ops.size _ (λ_=>0) g a _
  ⟨by simp,rfl,hn,hf.size,hf.df.imp (λ_ _ ht=>ht.ext he hs.imm) he.blk,λk t hk _=>?_,λi _ _ hl=>absurd hl (hL i),λi _ _ hd=>by simp at hd,λi _ _ hl=>absurd hl (hL i),λi _ _ hd=>by simp at hd,λi _ _ hl=>absurd hl (hL i),λi _ hl=>absurd hl (hL i),hAft,FrOk.refl _ _ _ _,hfl,λj _ hj=>by simp at hj⟩ (by simp)
 .exact h5
 .let ⟨v,hv,ht⟩:=hf.tm k (low t) (by rw[lowFr_get,hk];rfl)
  exact ⟨v,hv,ht.ext he hs.imm⟩
theorem conOk {E:EnvV S} (hE:EnvVOk E) (hm:E.T.E.P.follows .mixedOrders=true) {f:FuncId} {fn:Func} {c:Code} (hfn:E.T.E.fnc f=some fn) (hc:fn.body=some c) (n d:Nat) (ps:List Pk) (rs:List Ck) :
  ConOk E.T.E.P f ⟨ps,rs,E.pn,evFun E n d f ps rs⟩:=conOk_of_evFun hE (λ_=>drawOk hE hm) hfn hc n d ps rs
end
end TL
end
section
namespace TL
open Go
def zD:Value->D
 | .slice none 0 0=>.sl []
 |v=>.lit v
def zDs (z:Value):List D:=z.cells.toList.map zD
theorem zD_ok (v:Value):ZVal (zD v) v:=by
 unfold zD
 split
 .exact .inl ⟨rfl,rfl⟩
 .exact .inr rfl
theorem zDs_ok (z:Value):ZOk (zDs z) z.cells:=by
 refine ⟨by simp[zDs],λj d v h1 h2=>?_⟩
 simp only[zDs,List.getElem?_map,Option.map_eq_some_iff] at h1
 obtain ⟨u,hu,rfl⟩:=h1
 grind[zD_ok]
def cellBy:D->Nat
 | .lit (.string _)|.lit .nilIface=>16
 | .sl _=>24
 |_=>8
def sumBy:List D->Nat
 |[]=>0
 |d ::l=>Nat.add (cellBy d) (sumBy l)
def elemBy (agg:Bool) (zs:List D):Nat:=bif agg then sumBy zs else match zs with
 |[.lit (.int .i8 _)]|[.lit (.int .u8 _)]|[.lit (.bool _)]=>1
 |[.lit (.int .i16 _)]|[.lit (.int .u16 _)]=>2
 |[.lit (.int .i32 _)]|[.lit (.int .u32 _)]=>4
 |zs=>sumBy zs
def fieldOf (P:Program) (f:Field):Option (Nat×Nat×Bool):=match P.info? f.type,P.underlying f.type with
 |some j,some d=>some (f.offset,j.size,aggDesc d)
 |_,_=>none
def fieldsOf (P:Program):List Field->Option (List (Nat×Nat×Bool))
 |[]=>some []
 |f ::l=>match fieldOf P f,fieldsOf P l with
  |some x,some r=>some (x ::r)
  |_,_=>none
theorem fieldsOf_ok {P:Program}:∀{l:List Field} {fs:List (Nat×Nat×Bool)},fieldsOf P l=some fs->l.length=fs.length∧∀(k:Nat) off size ag,fs[k]?=some (off,size,ag)->
  ∃f j d',l[k]?=some f∧f.offset=off∧P.info? f.type=some j∧j.size=size∧P.underlying f.type=some d'∧ag=aggDesc d'
 |[],fs,h=>by
  simp only[fieldsOf,Option.some.injEq] at h
  subst h
  exact ⟨rfl,λk _ _ _ h=>by simp at h⟩
 |f ::l,fs,h=>by
  simp[fieldsOf] at h
  split at h
  .rename_i x r h1 h2
   simp at h
   subst h
   let ⟨k1,k2⟩:=fieldsOf_ok h2
   refine ⟨by simp[k1],λk off size ag hk=>?_⟩
   cases k with
   |zero=>
    simp at hk
    subst hk
    unfold fieldOf at h1
    split at h1
    .rename_i j d e1 e2
     obtain ⟨rfl,rfl,rfl⟩:=h1
     exact ⟨f,j,d,rfl,rfl,e1,rfl,e2,rfl⟩
    .cases h1
   |succ k=>exact k2 k off size ag (by simpa using hk)
  .cases h
def kdOf (P:Program):TypeDesc->Kd
 | .int k=>.leaf (.int k)
 | .bool=>.leaf .bool
 | .string=>.leaf .str
 | .pointer _=>.ptr
 | .interface _=>.iface
 | .slice e=>match P.info? e,P.underlying e with
  |some j,some d=>match j.zero with
   |some z=>bif Nat.ble j.bytes 4096&&(Nat.blt 0 j.size&&(Nat.ble j.bytes (elemBy (aggDesc d) (zDs z))&&(Nat.ble (elemBy (aggDesc d) (zDs z)) (Nat.mul 2 j.bytes)&&(Nat.blt 0 j.bytes&&Nat.beq (lenL (zDs z)) j.size)))) then
     .slice j.size (aggDesc d) (elemBy (aggDesc d) (zDs z)) (zDs z) else .other
   |none=>.other
  |_,_=>.other
 | .struct fields=>match fieldsOf P fields.toList with
  |some fs=>.struct fs
  |none=>.other
 | .array len e=>match P.info? e,P.underlying e with
  |some j,some d=>.array len j.size (aggDesc d)
  |_,_=>.other
 |_=>.other
theorem kdOf_ok (P:Program) (d:TypeDesc):KdOk P (kdOf P d) d:=by
 cases d with
 |slice e=>
  simp only[kdOf]
  split
  .rename_i j d h1 h2
   split
   .rename_i z hz
    cases hb:(Nat.ble j.bytes 4096&&(Nat.blt 0 j.size&&(Nat.ble j.bytes (elemBy (aggDesc d) (zDs z))&&(Nat.ble (elemBy (aggDesc d) (zDs z)) (Nat.mul 2 j.bytes)&&(Nat.blt 0 j.bytes&&Nat.beq (lenL (zDs z)) j.size))))) with
    |false=>trivial
    |true=>
     simp only[Bool.and_eq_true] at hb
     let ⟨b1,b2,b3,b4,b5,b6⟩:=hb
     exact ⟨e,j,d,z,rfl,h1,rfl,h2,rfl,hz,zDs_ok z,Nat.le_of_ble_eq_true b1,Nat.le_of_ble_eq_true b2,Nat.le_of_ble_eq_true b3,Nat.le_of_ble_eq_true b4,Nat.le_of_ble_eq_true b5,by grind[lenL_eq,Nat.eq_of_beq_eq_true]⟩
   .trivial
  .trivial
 |struct fields=>
  simp[kdOf]
  split
  .rename_i fs h
   let ⟨k1,k2⟩:=fieldsOf_ok h
   exact ⟨fields,rfl,by simpa using k1,λk off size ag hk=>by
    grind⟩
  .trivial
 |array len e=>
  simp[kdOf]
  split
  .rename_i j d h1 h2
   exact ⟨e,j,d,rfl,h1,rfl,h2,rfl⟩
  .trivial
 |int k=>exact rfl
 |bool=>exact rfl
 |string=>exact rfl
 |pointer e=>exact ⟨e,rfl⟩
 |interface ms=>exact ⟨ms,rfl⟩
 |_=>trivial
def isAggV:Value->Bool
 | .agg _=>true
 |_=>false
def tiOf (P:Program) (eqk:TypeId->List Lk) (t:TypeId):Option TI:=match P.info? t,P.underlying t with
 |some x,some d=>match x.zero with
  |some z=>bif (bif aggDesc d then isAggV z else !(isAggV z)) then some ⟨x.size,aggDesc d,zDs z,bif aggDesc d then eqk t else [],kdOf P d⟩ else none
  |none=>none
 |_,_=>none
theorem tiOf_ok {P:Program} {eqk:TypeId->List Lk} (he:∀t,eqk t≠[]->EqOk P t (eqk t)) {t:TypeId} {i:TI} (h:tiOf P eqk t=some i):TIok P t i:=by
 unfold tiOf at h
 split at h
 .rename_i x d hx hd
  split at h
  .rename_i z hz
   rcases cond_some h with ⟨hb,h⟩|⟨_,h⟩
   .simp at h
    subst h
    refine ⟨λha hne=>?_,λms hms=>?_,λx' z' hx' hz'=>?_,x,d,z,hx,hd,rfl,rfl,hz,zDs_ok z,kdOf_ok P d⟩
    .simp_all
    .rw[hd] at hms
     cases hms
     rfl
    .rw[hx] at hx'
     cases hx'
     rw[hz] at hz'
     cases hz'
     refine ⟨λha=>?_,λha=>?_⟩
     .dsimp only at ha
      rw[ha,cond_true] at hb
      cases z<;>first|exact ⟨_,rfl⟩|cases hb
     .dsimp only at ha
      rw[ha,cond_false] at hb
      cases z<;>first|rfl|cases hb
   .cases h
  .cases h
 .cases h
end TL
end
