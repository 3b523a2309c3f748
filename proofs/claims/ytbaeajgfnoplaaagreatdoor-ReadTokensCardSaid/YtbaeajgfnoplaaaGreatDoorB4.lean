import Derived.Test.YtbaeajgfnoplaaaGreatDoorB3
import Derived.Scope
section
namespace TL
open Go
variable {S:Sg}
section
variable {g:Gh} {w:World}
theorem armsK_map {β:Type} {ω:Type} {X:V S->StV S->Option ω} {D:Option ω} {kt:Ty} (k:den S.A kt) (f:β->V S) (s:StV S):∀(l:List (den S.A kt×β)),
  armsK X D (l.map λp=>(keq kt k p.1,f p.2,s))=match (ixL kt k l).bind (l[·]?) with
   |some p=>X (f p.2) s
   |none=>D
 |[]=>rfl
 |p ::l=>by
  simp[List.map_cons,armsK,ixL]
  cases hb:keq kt k p.1 with
  |true=>simp[sel]
  |false=>
   simp[sel,cond_false]
   rw[armsK_map k f s l]
   cases ixL kt k l with
   |none=>rfl
   |some j=>simp
theorem armsIx_some {ω:Type} {X:V S->StV S->Option ω} {n:Int} {ag:Bool} {sz:Nat} {cs:List (V S)} {s:StV S} {r:ω}:∀{l:List Nat},armsK X none (armsIx n ag sz cs s l)=some r->
  ∃j v,j∈l∧n=(j:Int)∧((cs.drop (j*sz)).take sz).length=sz∧0<sz∧packV ag ((cs.drop (j*sz)).take sz)=some v∧X v s=some r
 |[],h=>by cases h
 |j ::l,h=>by
  simp only[armsIx] at h
  split at h
  .rename_i v hv
   rcases cond_some hv with ⟨hb,hv⟩|⟨_,hv⟩
   rotate_left
   .cases hv
   rw[Bool.and_eq_true] at hb
   have hl:=beq_iff'.1 hb.1
   rw[lenL_eq] at hl
   rcases sel_some' h with ⟨hn,h⟩|⟨_,h⟩
   .simp_all[eqI]
   .let ⟨i,u,h1,h2⟩:=armsIx_some h
    grind
  .cases h
where
 sel_some' {α:Type} {c:Bool} {x y:Option α} {r:α} (h:sel c x y=some r):(c=true∧x=some r)∨(c=false∧y=some r):=cond_some h
theorem opS_aft {E:EnvT} (hT:TabOk E.E) (hX:XOk S E) {fr:FrV S} {s s':StV S} {a:Act} (hf:FRel g (lowFr fr) a w) (hs:SRel g (lowSt s) w) (o:Oper) {arms:List (Bool×V S×StV S)} {p:Bool} {d:V S} (h:opS E fr s o.op=some (arms,p,d,s')) {ω:Type} {X:V S->StV S->Option ω} {r:ω}
  (hr:armsK X (chk p (X d s')) arms=some r) :
  ∃t s1 v w' g',X t s1=some r∧((execOp a.eval o).run E.E.P w=.ok (.value v) w'∨((execOp a.eval o).run E.E.P w=.ok .skip w'∧v=undef))∧TRel g' w' (low t) v∧AftV [] s g w s1 g' w'∧((∀it b,o.op≠.next it b)->s1=s):=by
 unfold opS at h
 split at h
 ·
  rename_i it hop
  split at h
  rotate_left
  .cases h
  rename_i oid hit
  split at h
  rotate_left
  .cases h
  rename_i b pos hob
  rcases cond_some h with ⟨hfl,h9⟩|⟨_,h9⟩
  rotate_left
  .cases h9
  clear h
  obtain ⟨rfl,rfl,rfl,rfl⟩:=h9
  let ⟨blk,hie,hb⟩:=TRel.inv_itr (opdV_rel hf hit)
  have hlow:(lowSt s).ob.get oid=some (.sit (toBytes b) pos):=by rw[lowSt_get,hob];rfl
  let ⟨x0,hh,hor⟩:=(hs.box oid blk hb).2.2 _ hlow
  have hlt:=(hs.box oid blk hb).2.1
  cases hor
  have hget:(getObj blk).run E.E.P w=.ok (.stringIter (toBytes b) pos) w:=by simp[getObj,Sem.run,hh]
  have hset:∀x,(setObj blk x).run E.E.P w=.ok () {w with heap:=w.heap.setIfInBounds blk x}:=λx=>by simp[setObj,Sem.run,hh]
  have hsize:(toBytes b).size=b.length:=by rfl
  rcases armsIx_some.sel_some' hr with ⟨hp,hr⟩|⟨hp,hr⟩
  .have hp':pos<(toBytes b).size:=by rw[hsize];simpa[posB] using hp
   let ⟨q1,q2,q3⟩:=set_blk (.stringIter (toBytes b) (pos+widL b pos)) hlt
   let ⟨hs2,he2⟩:=hs.setObj hb hlow rfl (Nat.le_of_ble_eq_true hfl) (ob':=.sit (toBytes b) (pos+widL b pos)) (.sit _ _) q1 q2 q3 rfl rfl
   refine ⟨_,_,.tuple #[.bool true,goInt pos,.int .i32 (runeL b pos)],_,g,hr,.inl ?_,.tup _ _ rfl λq t v k1 k2=>?_,AftV.ofExt hs (by rw[lowSt_set];exact hs2) he2 rfl rfl (Nat.le_refl _) (set_log _ _ _),λhh=>absurd hop (hh it true)⟩
   .have hrun:(Instr.next (a.eval it) true o.type).run E.E.P w=.ok (.tuple #[.bool true,goInt pos,.int .i32 (runeL b pos)]) {w with heap:=w.heap.setIfInBounds blk (.stringIter (toBytes b) (pos+widL b pos))}:=by
     rw[hie]
     simp only[Instr.next,Sem.run_bind,hget,Result.andThen_ok,hp',if_true,hset]
     rfl
    grind[execOp,Sem.run_bind,Result.andThen_ok,Sem.run_pure]
   .match q with
    |0=>simp[lows] at k1 k2;subst k1;subst k2;exact .kb _
    |1=>simp[lows] at k1 k2;subst k1;subst k2;exact .sym _ _ (.lit _)
    |2=>simp[lows] at k1 k2;subst k1;subst k2;exact .sym _ _ (.lit _)
    |q+3=>grind
  .have hp':¬pos<(toBytes b).size:=by rw[hsize];simpa[posB] using hp
   refine ⟨_,_,.tuple #[.bool false],w,g,hr,.inl ?_,.tup _ _ rfl λq t v k1 k2=>?_,AftV.refl hs,λhh=>absurd hop (hh it true)⟩
   .have hrun:(Instr.next (a.eval it) true o.type).run E.E.P w=.ok (.tuple #[.bool false]) w:=by
     rw[hie]
     simp only[Instr.next,Sem.run_bind,hget,Result.andThen_ok,hp',if_false]
     rfl
    grind[execOp,Sem.run_bind,Result.andThen_ok,Sem.run_pure]
   .match q with
    |0=>simp[lows] at k1 k2;subst k1;subst k2;exact .kb _
    |q+1=>grind
 ·
  rename_i ty x ix ok hop
  split at h
  rotate_left
  .cases h
  rename_i m oid kv hm hx hk
  split at h
  rotate_left
  .cases h
  rename_i kt l k i hob hkey hti
  split at h
  rotate_left
  .cases h
  rename_i l' z hck hpz
  simp only[Option.some.injEq,Prod.mk.injEq] at h
  obtain ⟨rfl,rfl,rfl,rfl⟩:=h
  obtain ⟨rfl,hll⟩:=castK_eq hck
  cases hll
  let ⟨kid,dd,ht,hu,hkd,⟨xi,zv,hxi,hz⟩,_⟩:=hX.mt _ _ hm
  have hke:=keyV_sound hkey (opdV_rel hf hk)
  let ⟨b,hxe,hb⟩:=TRel.inv_mp (opdV_rel hf hx)
  obtain ⟨x0,hh,hor⟩:=(hs.box oid b hb).2.2 _ (by rw[lowSt_get,hob];rfl)
  obtain ⟨ms,cl,rfl,hmr⟩:=ObRel.toMap hkd (f:=low) hor
  have hlk:=run_lookup (P:=E.E.P) hkd ht hu hxi hz k hh hmr.1 (λj p q h1 h2=>(hmr.2 j p q h1 h2).1) ok
  have hzr:TRel g w (low z) zv:=by
   let ⟨x',_,z',hx',_,_,hag,hz',hzok,_⟩:=(hT.ti _ _ hti).all
   rw[hxi] at hx'
   cases hx'
   rw[hz] at hz'
   cases hz'
   let ⟨hza,hzn⟩:=(hT.ti _ _ hti).zag _ _ hxi hz
   let ⟨hz1,hz2⟩:=zero_rel (g:=g) (w:=w) hzok
   have hp:=packV_low hpz
   rw[zeros_low] at hp
   let ⟨hrel,_⟩:=packT_rel (g:=g) (w:=w) hp (vals:=zv.cells.toList) (by omega) (λj t v h1 h2=>hz2 j t v h1 (by simpa using h2))
   cases hia:i.agg with
   |true=>
    obtain ⟨vs,rfl⟩:=hza hia
    simp_all[Value.cells]
   |false=>
    simp_all
  rw[armsK_map k (λv=>bif ok then .tup [v,.kb true] else v) s l'] at hr
  have wrap:∀(t:V S) (u:Value) (bb:Bool),TRel g w (low t) u->TRel g w (low (bif ok then .tup [t,.kb bb] else t:V S)) (if ok then .tuple #[u,.bool bb] else u):=by
   intro t u bb hu
   cases ok with
   |false=>exact hu
   |true=>
    refine .tup _ _ rfl λq t v k1 k2=>?_
    match q with
    |0=>grind[lows]
    |1=>simp[lows] at k1 k2;subst k1;subst k2;exact .kb _
    |q+2=>grind
  have hlk':=hlk
  rw[<-hxe,<-hke] at hlk'
  cases hix:ixL m.kt k l' with
  |none=>
   rw[hix] at hr hlk'
   exact ⟨_,_,_,w,g,hr,.inl (by grind[execOp,Sem.run_bind,Result.andThen_ok,Sem.run_pure]),wrap z zv false hzr,AftV.refl hs,λ_=>rfl⟩
  |some j=>
   let ⟨q,hq,_⟩:=ixL_some hix
   have hj:j<ms.size:=by rw[<-hmr.1];grind
   have hmj:ms[j]?=some ms[j]:=Array.getElem?_eq_getElem hj
   rw[hix] at hr hlk'
   simp[Option.bind_some,hq,hmj,Option.map_some] at hr hlk'
   exact ⟨_,_,_,w,g,hr,.inl (by grind[execOp,Sem.run_bind,Result.andThen_ok,Sem.run_pure]),wrap q.2 _ true (hmr.2 j q _ hq hmj).2,AftV.refl hs,λ_=>rfl⟩
 ·
  rename_i ty x ix hop
  split at h
  rotate_left
  .cases h
  rename_i i cs kv hi hx hk
  split at h
  rotate_left
  .cases h
  rename_i len sz ag n hkd hn
  rcases cond_some h with ⟨hlen,h9⟩|⟨_,h9⟩
  rotate_left
  .cases h9
  clear h
  obtain ⟨rfl,rfl,rfl,rfl⟩:=h9
  obtain ⟨j,v,hjm,rfl,hl,hsz,hpk,hXv⟩:=armsIx_some hr
  have hjl:j<len:=List.mem_range.1 hjm
  let ⟨pq,hp,hpp⟩:=intV_low hn
  have e1:=intT_sound hp hpp (opdV_rel hf hk)
  let ⟨_,d1,_,_,hu1,hsz1,hag1,_,_,hk1⟩:=(hT.ti _ _ hi).all
  rw[hkd] at hk1
  obtain ⟨el,jj,d',rfl,hj1,hj2,hj3,hj4⟩:=hk1
  let ⟨vs,hxe,hpw⟩:=TRel.inv_agg (opdV_rel hf hx)
  have hpw2:=(hpw.drop (j*sz)).take sz
  have hlt:=packV_low hpk
  rw[lows_take,lows_drop] at hlt
  let ⟨hrel,h1⟩:=packT_rel (g:=g) (w:=w) hlt hpw2.1 hpw2.2
  have hlv:((vs.toList.drop (j*sz)).take sz).length=sz:=by
   rw[<-hpw2.1,<-lows_drop,<-lows_take,lows_len]
   exact hl
  have hle:j*sz+sz<=vs.size:=by
   grind
  have hrp:=run_part (P:=E.E.P) (w:=w) hj1 hj3 vs (j*sz) (by omega) (λhd=>by
   grind)
  rw[hj2,<-hj4] at hrp
  refine ⟨v,s,_,w,g,hXv,.inl ?_,hrel,AftV.refl hs,λ_=>rfl⟩
  have hin:(0:Int)<=(j:Int)∧(j:Int)<(len:Int):=by omega
  simp only[execOp,hop,Instr.index,e1,hxe,asIntOf,Sem.run_bind,Sem.run_pure,Result.andThen_ok,run_underlying' hu1,if_pos hin,run_sizeOf' hj1,hj2,Int.toNat_natCast,hrp]
 .cases h
theorem run_max (P:Program) (ats:Array TypeId) (ty:TypeId) (m n:Int):(Builtin.max_ ats ty #[.int .i64 m,.int .i64 n]).run P w=.ok (.int .i64 (maxI m n)) w:=by
 simp only[Builtin.max_,List.foldlM_cons,List.foldlM_nil,Builtin.max2,maxI,D.ilt]
 by_cases h:m<n<;>simp[h]
theorem run_min (P:Program) (ats:Array TypeId) (ty:TypeId) (m n:Int):(Builtin.min_ ats ty #[.int .i64 m,.int .i64 n]).run P w=.ok (.int .i64 (minI m n)) w:=by
 simp only[Builtin.min_,List.foldlM_cons,List.foldlM_nil,Builtin.min2,minI,D.ilt]
 by_cases h:n<m<;>simp[h]
theorem builtinX_aft {E:EnvT} (hT:TabOk E.E) (hX:XOk S E) {s s':StV S} (hs:SRel g (lowSt s) w) {a:Act} {fr:FrV S} (hf:FRel g (lowFr fr) a w) {o:Oper} {cl:Call} (hop:o.op=.call cl) {b:Builtin} (hb:cl.callee=.builtin b) {args:List (V S)} (hargs:opdsV fr cl.args.toList=some args) {c:Bool} {t:V S}
  (h:builtinX E s b cl.argTypes args=some (c,t,s')):s'=s∧∃v,(execOp a.eval o).run E.E.P w=.ok (.value v) w∧TRel g w (low t) v:=by
 have hpw:=opdsT_sound hf (opdsV_low hargs)
 unfold builtinX at h
 split at h
 .rename_i oid
  have key:∀(l:Nat) (ob:ObV S),s.ob.get oid=some ob->(∀bq x,ObRel g w bq (lowOb ob) x->∃ms c,x=.map ms c∧ms.size=l)->∀m,(nth cl.argTypes.toList 0).bind E.mt=some m->
    ∃v,(execOp a.eval o).run E.E.P w=.ok (.value v) w∧TRel g w (low (.ty (.int .i64) (l:Int):V S)) v:=by
   intro l ob hob hx m hm
   simp[Option.bind_eq_some_iff] at hm
   let ⟨ty,hty,hmt⟩:=hm
   let ⟨kid,d,ht,_⟩:=hX.mt _ _ hmt
   have h0:TRel g w (.mp oid) ((cl.args.toList.map a.eval)[0]'(by have:=hpw.1;simp[lows] at this;simp;omega)):=hpw.2 0 _ _ rfl (List.getElem?_eq_getElem _)
   let ⟨blk,hbe,hblk⟩:=TRel.inv_mp h0
   obtain ⟨x0,hh,hor⟩:=(hs.box oid blk hblk).2.2 _ (by rw[lowSt_get,hob];rfl)
   obtain ⟨ms,cc,rfl,hms⟩:=hx _ _ hor
   have hget:(getObj blk).run E.E.P w=.ok (.map ms cc) w:=run_getMap hh
   have ha0:(cl.args.map a.eval)[0]?=some (.map (some blk)):=by
    grind
   have hat0:cl.argTypes[0]?=some ty:=by rw[nth_eq] at hty;grind
   refine ⟨goInt ms.size,?_,by rw[hms];exact .sym _ _ (.lit _)⟩
   simp[execOp,hop,resolve,hb,Sem.run_bind,Sem.run_pure,Result.andThen_ok,invoke,builtin,Builtin.len_,hat0,ha0,run_underlying' ht,hget]
  split at h
  .rename_i m kt vt l hm hob
   obtain ⟨_,rfl,rfl⟩:=h
   exact ⟨rfl,key l.length _ hob (λ_ x hx=>by cases hx with|map _ ms c hl _=>simp_all) m hm⟩
  .rename_i m kt l hm hob
   obtain ⟨_,rfl,rfl⟩:=h
   exact ⟨rfl,key l.length _ hob (λ_ x hx=>by cases hx with|map _ ms c hl _=>simp_all) m hm⟩
  .cases h
 .rename_i x y
  split at h
  rotate_left
  .cases h
  rename_i m n hm hn
  obtain ⟨_,rfl,rfl⟩:=h
  let ⟨a1,ha⟩:=two_args hpw hm hn
  refine ⟨rfl,.int .i64 (maxI m n),?_,.sym _ _ (.lit _)⟩
  simp_all[execOp,resolve,invoke,builtin,run_max]
 .rename_i x y
  split at h
  rotate_left
  .cases h
  rename_i m n hm hn
  obtain ⟨_,rfl,rfl⟩:=h
  let ⟨a1,ha⟩:=two_args hpw hm hn
  refine ⟨rfl,.int .i64 (minI m n),?_,.sym _ _ (.lit _)⟩
  simp_all[execOp,resolve,invoke,builtin,run_min]
 .rename_i oid n
  split at h
  rotate_left
  .cases h
  rename_i i hi
  split at h
  rotate_left
  .cases h
  rename_i sz ag bt zz hkd
  obtain ⟨_,rfl,rfl⟩:=h
  simp[Option.bind_eq_some_iff] at hi
  let ⟨ty,hty,hti⟩:=hi
  let ⟨xi,d1,z1,hxi,hu1,_,_,_,_,hkk⟩:=(hT.ti _ _ hti).all
  rw[hkd] at hkk
  obtain ⟨el,j,d',zv,rfl,_⟩:=hkk
  have h0:TRel g w (.slb oid n) ((cl.args.toList.map a.eval)[0]'(by have:=hpw.1;simp[lows] at this;simp;omega)):=hpw.2 0 _ _ rfl (List.getElem?_eq_getElem _)
  let ⟨blk,hbe,hblk⟩:=slb_inv h0
  have ha0:(cl.args.map a.eval)[0]?=some (.slice (some ⟨blk,0,none⟩) n n):=by
   grind
  have hat0:cl.argTypes[0]?=some ty:=by rw[nth_eq] at hty;grind
  refine ⟨rfl,goInt n,?_,.kn _ _⟩
  simp[execOp,hop,resolve,hb,Sem.run_bind,Sem.run_pure,Result.andThen_ok,invoke,builtin,Builtin.len_,hat0,ha0,run_underlying' hu1]
 .cases h
where
 two_args {l:Array Operand} {a:Act} {x y:V S} {m n:Int} (hpw:PW (TRel g w) (lows [x,y]) (l.toList.map a.eval)) (hm:intV .i64 x=some m) (hn:intV .i64 y=some n):True∧l.map a.eval=#[.int .i64 m,.int .i64 n]:=by
  refine ⟨trivial,?_⟩
  have hl:(l.toList.map a.eval).length=2:=by have:=hpw.1;simpa[lows] using this.symm
  match hll:l.toList.map a.eval,hl with
  |[u,v],_=>
   rw[hll] at hpw
   have h1:=hpw.2 0 _ _ rfl rfl
   have h2:=hpw.2 1 _ _ rfl rfl
   grind[intV_low,intT_sound]
theorem builtinD_aft {E:EnvT} (hX:XOk S E) {s s':StV S} (hs:SRel g (lowSt s) w) {a:Act} {fr:FrV S} (hf:FRel g (lowFr fr) a w) {o:Oper} {cl:Call} (hop:o.op=.call cl) {b:Builtin} (hb:cl.callee=.builtin b) {args:List (V S)} (hargs:opdsV fr cl.args.toList=some args) {c:Bool} {t:V S}
  (h:builtinD E s b cl.argTypes args=some (c,t,s')):∃v w' g',(execOp a.eval o).run E.E.P w=.ok (.value v) w'∧TRel g' w' (low t) v∧AftV [] s g w s' g' w':=by
 have hpw:=opdsT_sound hf (opdsV_low hargs)
 unfold builtinD at h
 split at h
 rotate_left
 .cases h
 rename_i oid kv
 split at h
 rotate_left
 .cases h
 rename_i m kt vt l hm hob
 split at h
 rotate_left
 .cases h
 rename_i l' k hck hkey
 rcases cond_some h with ⟨hfl,h9⟩|⟨_,h9⟩
 rotate_left
 .cases h9
 obtain ⟨rfl,hll⟩:=castK_eq hck
 cases hll
 obtain ⟨_,rfl,rfl⟩:=h9
 have hfl:s.fl<=oid:=Nat.le_of_ble_eq_true hfl
 simp only[Option.bind_eq_some_iff] at hm
 obtain ⟨ty,hty,hmt⟩:=hm
 let ⟨kid,d,ht,hu,hkd,_,_⟩:=hX.mt _ _ hmt
 have hlen:(cl.args.toList.map a.eval).length=2:=by have:=hpw.1;simpa[lows] using this.symm
 match hll:cl.args.toList.map a.eval,hlen with
 |[u,v],_=>
 rw[hll] at hpw
 let ⟨blk,hbe,hblk⟩:=TRel.inv_mp (hpw.2 0 _ _ rfl rfl)
 have hke:=keyV_sound hkey (hpw.2 1 _ _ rfl rfl)
 obtain ⟨x0,hh,hor⟩:=(hs.box oid blk hblk).2.2 _ (by rw[lowSt_get,hob];rfl)
 obtain ⟨ms,cc,rfl,hmr⟩:=ObRel.toMap hkd (f:=lowTy S vt) hor
 have hall:(cl.args.map a.eval)=#[.map (some blk),keyVal m.kt k]:=by
  apply Array.toList_inj.1
  rw[Array.toList_map,hll,hbe,hke]
 have hat0:cl.argTypes[0]?=some ty:=by rw[nth_eq] at hty;grind
 let ⟨ms',hrun,hmr'⟩:=run_delete (P:=E.E.P) hkd ht hu k hh hmr hat0 (ty:=o.type) (args:=cl.args.map a.eval) (by rw[hall];rfl) (by rw[hall];rfl)
 let ⟨q1,q2,q3⟩:=set_blk (.map ms' cc) (hs.box oid blk hblk).2.1
 let ⟨hs2,he2⟩:=hs.setObj hblk (by rw[lowSt_get,hob];rfl) rfl hfl (ob':=lowOb (.map m.kt vt (delL m.kt k l'))) (MapR.ob hkd (f:=lowTy S vt) hmr' cc _) q1 q2 q3 rfl rfl
 refine ⟨.tuple #[],_,g,?_,.sym _ _ (.lit _),AftV.ofExt hs (by rw[lowSt_set];exact hs2) he2 rfl rfl (Nat.le_refl _) (set_log _ _ _)⟩
 simp[execOp,hop,resolve,hb,Result.andThen_ok,invoke,builtin,hrun]
theorem run_method {E:EnvT} (hX:XOk S E) {t:TypeId} {nm:String} {f:FuncId} (h:E.meth t nm=some f) (v:Value) (args:Array Value) (hf:Enters E.E.P f):(callMethod (.iface t v) nm args).run E.E.P w=.ok (.enter f (#[v]++args)) w:=by
 let ⟨x,mm,d,hx,hm,hp,hu,hk⟩:=hX.meth _ _ _ h
 obtain ⟨n,hn⟩:∃n,E.E.P.types.size+Made.depth=n+1:=⟨E.E.P.types.size+Made.depth-1,by rfl⟩
 have hmeth:(method (E.E.P.types.size+Made.depth) t v nm).run E.E.P w=.ok (f,v) w:=by
  rw[hn]
  simp only[method,Sem.run_bind,run_typeInfo' hx,Result.andThen_ok,hm,hp,follow,Sem.run_pure]
  rcases hk with ⟨hk,hne⟩|⟨hk,e,rfl⟩
  .simp only[hk,Sem.run_bind,receiverAt,run_underlying' hu,Result.andThen_ok]
   cases d<;>first|(exact absurd rfl (hne _))|(simp[Place.get])
  simp_all[receiverAt,run_underlying',Place.get]
 have hprog:(Go.program).run E.E.P w=.ok E.E.P w:=rfl
 grind[callMethod,Sem.run_bind,Result.andThen_ok,run_enter]
theorem run_execInv {E:EnvT} (hX:XOk S E) {o:Oper} {c:Call} (ho:o.op=.call c) {x:Operand} {m:String} (hc:c.callee=.invoke x m) {a:Act} {t:TypeId} {v:Value} (hv:a.eval x=.iface t v) {f:FuncId} (h:E.meth t m=some f) (he:Enters E.E.P f) :
  (execOp a.eval o).run E.E.P w=.ok (.enter f (#[v]++c.args.map a.eval)) w:=by
 simp only[execOp,ho,resolve,hc,hv,Sem.run_bind,Sem.run_pure,Result.andThen_ok,invoke]
 grind[Array.ext',Array.toList_extract,List.take_of_length_le,run_method]
end
end TL
end
section
namespace TL
open Go
variable {S:Sg}
section
variable {g:Gh} {w:World}
def viewS (s:StV S) (o:Nat) (ob:Ob):St:={lowSt s with ob:=(lowSt s).ob.set fuelTr o ob}
theorem viewV {s:StV S} (hs:SRel g (lowSt s) w) {o n j:Nat} {l:List (S.A n)} {era m rera:Nat} {hole:Option Nat} {x:ASl} (ho:s.ob.get o=some (.nar n j l era m rera hole)) (hx:g.arr o era=some x) :
  ∃hl,hl.length=l.length∧AOk g w false (S.width (.st n)) (lits j (l.map (enc S (.st n))) hl) x∧Link g m rera hole hl∧SRel g (viewS s o (.arr (S.width (.st n)) (lits j (l.map (enc S (.st n))) hl) era)) w:=by
 obtain ⟨hl,h1,h2,h3,h4⟩:=hs.view (by rw[lowSt_get,ho];rfl) hx
 exact ⟨hl,by simpa using h1,h2,h3,h4⟩
theorem unviewV {s1:St} {s':StV S} (h:SRel g s1 w) {o n j:Nat} {l:List (S.A n)} {era m rera:Nat} {hole:Option Nat} {hl:List Value} (hob:o<bigN) (h1:s1.ob.get o=some (.arr (S.width (.st n)) (lits j (l.map (enc S (.st n))) hl) era)) (hlen:hl.length=l.length)
  (hL:Link g m rera hole hl) (h2:s'.ob.get o=some (.nar n j l era m rera hole)) (h3:∀k,k≠o->(lowSt s').ob.get k=s1.ob.get k) (h4:s'.nob=s1.nob):SRel g (lowSt s') w:=by
 refine (h.unview (es:=l.map (enc S (.st n))) hob h1 (by grind) hL).getEq h4 λk=>?_
 rw[Tr.get_set64 _ _ _ _ hob]
 by_cases hk:k=o
 .subst hk
  rw[if_pos rfl,lowSt_get,h2]
  rfl
 simp_all
theorem viewS_get {s:StV S} {o:Nat} (hob:o<bigN) (ob:Ob) (k:Nat):(viewS s o ob).ob.get k=if k=o then some ob else (lowSt s).ob.get k:=Tr.get_set64 _ _ _ _ hob
theorem lits_el {j:Nat} {es:List D} {hl:List Value} {k:Nat} {d:D} {h:Value} (h1:es[k]?=some d) (h2:hl[k]?=some h):D.el (lits j es hl) k=litD j d h:=by
 grind[D.el,lits]
theorem sh_inv {o r:Nat} {v:Value} (h:TRel g w (.sh o r) v):∃x,g.arr o r=some x∧v=.slice x.a x.len x.cap:=by
 cases h with
 |sh _ _ len cap sz a hx=>simp_all
theorem epw_inv {o e i off:Nat} {v:Value} (h:TRel g w (.epw o e i off) v):∃x,g.arr o e=some x:=by
 cases h with
 |epw _ _ _ _ len cap sz ad hx=>grind
theorem nel_inv {o m r i:Nat} {v:Value} (h:TRel g w (.nel o m r i) v):∃y,g.arr m (rc r i)=some y∧v=.slice y.a y.len y.cap:=by
 cases h with
 |nel _ _ _ _ len cap sz a hx=>simp_all
def put1 (fr:Fr) (x:Operand) (t:T):Fr:=match x with
 | .tmp k=>{fr with tm:=fr.tm.set fuelTr k t}
 |_=>fr
theorem put1_rel {fr:Fr} {a:Act} (hf:FRel g fr a w) {k:Nat} {u t:T} (hk:fr.get k=some u) (hkN:k<bigN) (ht:TRel g w t (a.eval (.tmp k))):FRel g (put1 fr (.tmp k) t) a w:=by
 refine ⟨hf.size,hf.df,λk' t' h=>?_⟩
 simp[put1,Fr.get] at h
 rw[Tr.get_set64 _ _ _ _ hkN] at h
 split at h
 .rename_i e
  cases h
  let ⟨v,hv,_⟩:=hf.tm _ _ hk
  simp_all[Act.eval]
 .exact hf.tm k' t' h
theorem partD_lit {i:TI} {d:D} {off j:Nat} {h:Value} (hj:Nat.ble (Nat.add off i.size) j=true∨Nat.blt j off=true):partD i (litD j d h) off=partD i d off:=by
 have hcell:∀q,(off<=q∧q<off+i.size)->(litD j d h).cell q=d.cell q:=by
  intro q hq
  have hne:j≠q:=by
   rcases hj with hj|hj
   .have:=Nat.le_of_ble_eq_true hj
    grind
   .have:j<off:=Nat.le_of_ble_eq_true hj
    omega
  show (d.cells.set j _).getD q _=d.cells.getD q _
  simp_all
 unfold partD
 cases i.agg with
 |true=>
  simp only[cond_true]
  congr 2
  refine List.map_congr_left λq hq=>?_
  have:=hcell (Nat.add off q) ⟨Nat.le_add_right _ _,Nat.add_lt_add_left (List.mem_range.1 hq) _⟩
  rw[this]
 |false=>
  simp
  cases hb:Nat.beq i.size 1 with
  |true=>
   have:=beq_iff'.1 hb
   simp only[cond_true]
   rw[hcell off ⟨Nat.le_refl _,by omega⟩]
  |false=>rfl
theorem toDs_set (s:St):∀{l:List T} {p:Prop} {ds:List D} {os:List Nat} {j:Nat},toDs s l=some (p,ds,os)->l[j]?=some .emp->∀v,∃p',toDs s (l.set j (.sym (.lit v)))=some (p',ds.set j (.lit v),os)∧(p->p')∧ds[j]?=some (.sl [])
 |[],p,ds,os,j,_,hj,v=>by simp at hj
 |t ::l,p,ds,os,j,h,hj,v=>by
  simp[toDs] at h
  split at h
  .rename_i q d os1 r ds1 os2 h1 h2
   obtain ⟨rfl,rfl,rfl⟩:=h
   cases j with
   |zero=>
    simp at hj
    subst hj
    obtain ⟨rfl,rfl,rfl⟩:=h1
    exact ⟨True∧r,by grind[toDs,toD],λh=>h,rfl⟩
   |succ j=>
    obtain ⟨p',k1,k2,k3⟩:=toDs_set s h2 (by simpa using hj) v
    exact ⟨q∧p',by grind[toDs],λh=>⟨h.1,k2 h.2⟩,by simpa using k3⟩
  .cases h
theorem opN_aft {E:EnvT} (hS:SgOk S) (hT:TabOk E.E) (hTy:TyOk S E) (hX:XOk S E) {fr:FrV S} {s s':StV S} {a:Act} (hf:FRel g (lowFr fr) a w) (hs:SRel g (lowSt s) w) (o:Oper) {c:Bool} {t:V S} (h:opN E fr s o.op=some (c,t,s')) (hc:c=true) :
  ∃v w' g',((execOp a.eval o).run E.E.P w=.ok (.value v) w'∨((execOp a.eval o).run E.E.P w=.ok .skip w'∧v=undef))∧TRel g' w' (low t) v∧AftV [] s g w s' g' w':=by
 unfold opN at h
 split at h
 ·
  rename_i ty x ix hop
  split at h
  rotate_left
  .rename_i oid n hx
   split at h
   rotate_left
   .cases h
   rename_i i kv hi hix
   split at h
   rotate_left
   .cases h
   rename_i sz ag bt zz k hkd hk
   rcases cond_some h with ⟨hb,h9⟩|⟨_,h9⟩
   rotate_left
   .cases h9
   obtain ⟨rfl,rfl,rfl⟩:=h9
   let ⟨b,hve,hblk⟩:=slb_inv (opdV_rel hf hx)
   let ⟨p,hp1,hp⟩:=intV_low hk
   have e1:=intT_sound hp1 hp (opdV_rel hf hix)
   let ⟨xi,d1,z1,hxi,hu1,_,_,_,_,hkk⟩:=(hT.ti _ _ hi).all
   rw[hkd] at hkk
   obtain ⟨el,j,d',zv,rfl,hj,hjs,_⟩:=hkk
   have hsz:=beq_iff'.1 hb
   simp only[inbK,Bool.and_eq_true,decide_eq_true_eq] at hc
   have hr:=run_indexAt (P:=E.E.P) (w:=w) hu1 hj ⟨b,0,none⟩ n n k hc
   refine ⟨.pointer (some ⟨b,natI k,none⟩),w,g,.inl ?_,.ptr _ _ _ hblk,AftV.refl hs⟩
   rw[hjs,hsz,Nat.mul_one] at hr
   have ha:(⟨b,0,none⟩:Addr).add k.toNat=⟨b,natI k,none⟩:=by
    unfold Addr.add natI
    split<;>simp_all
   rw[ha] at hr
   simp[execOp,hop,hve,e1,hr]
  .cases h
  rename_i oid r hx
  split at h
  rotate_left
  .cases h
  rename_i n j l era m rera hole hob
  split at h
  rotate_left
  .cases h
  rename_i i n' kv hi hty hix
  split at h
  rotate_left
  .cases h
  rename_i sz ag bt zz k hkd hk
  rcases cond_some h with ⟨hb,h9⟩|⟨_,h9⟩
  rotate_left
  .cases h9
  simp only[Bool.and_eq_true] at hb
  have hre:=beq_iff'.1 hb.1
  subst hre
  have hnn:=beq_iff'.1 hb.2
  subst hnn
  obtain ⟨rfl,rfl,rfl⟩:=h9
  let ⟨xs,hxs,_⟩:=sh_inv (opdV_rel hf hx)
  have hoN:oid<bigN:=Nat.lt_of_lt_of_le (hs.lt' hxs) hs.nob
  let ⟨hl,h1,h2,h3,h4⟩:=viewV hs hob hxs
  let ⟨p,hp1,hp⟩:=intV_low hk
  let ⟨⟨z,hkd',_⟩,_⟩:=hTy.row _ _ _ hi hty
  have hin:=inbL_iff hc
  have hbq:Nat.beq (S.width (.st n)) (S.width (.st n))=true:=beq_iff'.2 rfl
  have hlen:(lits j (l.map (enc S (.st n))) hl).length=l.length:=by rw[lits_len (by simpa using h1)];simp
  let ⟨⟨v,w',g',hr,hs2,he,ht⟩,q1,q2,q3⟩:=opT_sound hT hf h4 o (p:=p∧D.inb k (D.len (lits j (l.map (enc S (.st n))) hl))) (t:=.epw oid r (D.nat k) 0) (s':=viewS s oid (.arr (S.width (.st n)) (lits j (l.map (enc S (.st n))) hl) r)) (by
   rw[hop]
   simp[opT,hi,opdV_low hx,opdV_low hix,indexAddrT,hkd',hp1,low,arrT]
   rw[viewS_get hoN,if_pos rfl]
   simp) ⟨hp,by simp[D.inb,D.len,hlen];omega⟩
  refine ⟨v,w',g',hr,ht,AftV.ofExt hs ?_ he rfl rfl (Nat.le_refl _) (LogV.refl _)⟩
  refine unviewV hs2 hoN (by rw[viewS_get hoN,if_pos rfl]) h1 (h3.le (λj y=>he.arr m j y)) hob (λk hk=>by rw[viewS_get hoN,if_neg hk]) rfl
 ·
  rename_i ty x hop
  split at h
  rotate_left
  .cases h
  rename_i oid e k off hx
  split at h
  rotate_left
  .cases h
  rename_i n j l era m rera hole hob
  split at h
  rotate_left
  .cases h
  rename_i i hi
  rcases cond_some h with ⟨hb,h9⟩|⟨_,h9⟩
  rotate_left
  .cases h9
  clear h
  have hre:=beq_iff'.1 hb
  subst hre
  let ⟨xs,hxs⟩:=epw_inv (opdV_rel hf hx)
  have hoN:oid<bigN:=Nat.lt_of_lt_of_le (hs.lt' hxs) hs.nob
  let ⟨hl,h1,h2,h3,h4⟩:=viewV hs hob hxs
  have hlen:(lits j (l.map (enc S (.st n))) hl).length=l.length:=by rw[lits_len (by simpa using h1)];simp
  have back:∀{g':Gh} {w':World},SRel g' (viewS s oid (.arr (S.width (.st n)) (lits j (l.map (enc S (.st n))) hl) e)) w'->Ext s.fl g w g' w'->AftV [] s g w s g' w':=λhs2 he=>
   AftV.ofExt hs (unviewV hs2 hoN (by rw[viewS_get hoN,if_pos rfl]) h1 (h3.le (λj y=>he.arr m j y)) hob (λk hk=>by rw[viewS_get hoN,if_neg hk]) rfl) he rfl rfl (Nat.le_refl _) (LogV.refl _)
  rcases cond_some h9 with ⟨hj,h⟩|⟨hj,h⟩
  ·
   clear h9
   rcases cond_some h with ⟨hb2,h9⟩|⟨_,h9⟩
   rotate_left
   .cases h9
   simp only[Bool.and_eq_true,Bool.not_eq_true'] at hb2
   obtain ⟨rfl,rfl,rfl⟩:=h9
   have hoff:=beq_iff'.1 hj
   subst hoff
   have hk:=inbN_iff hc
   have hel:D.el (lits off (l.map (enc S (.st n))) hl) k=litD off (enc S (.st n) l[k]) (hl[k]'(by omega)):=lits_el (by rw[List.getElem?_map,List.getElem?_eq_getElem hk];rfl) (List.getElem?_eq_getElem _)
   have hrow:=h2.rows _ (List.mem_of_getElem? (by rw[lits,List.getElem?_zipWith,List.getElem?_map,List.getElem?_eq_getElem hk,List.getElem?_eq_getElem (by omega:k<hl.length)];rfl:(lits off (l.map (enc S (.st n))) hl)[k]?=some (litD off (enc S (.st n) l[k]) (hl[k]'(by omega)))))
   have hsz:i.size=1:=beq_iff'.1 hb2.1
   have hoffw:off<S.width (.st n):=Nat.le_of_ble_eq_true hb2.2.2.2
   have hcell:(litD off (enc S (.st n) l[k]) (hl[k]'(by omega))).cell off=.lit (hl[k]'(by omega)):=by
    show ((enc S (.st n) l[k]).cells.set off _).getD off _=_
    have:off<(enc S (.st n) l[k]).cells.length:=by rw[enc_width hS];exact hoffw
    simp[this]
   let ⟨⟨v,w',g',hr,hs2,he,ht⟩,q1,q2,q3⟩:=opT_sound hT hf h4 o (t:=.sym (.lit (hl[k]'(by omega)))) (s':=viewS s oid (.arr (S.width (.st n)) (lits off (l.map (enc S (.st n))) hl) e)) (p:=D.inb (k:Int) (D.len (lits off (l.map (enc S (.st n))) hl))∧(D.el (lits off (l.map (enc S (.st n))) hl) k).has (Nat.add off i.size)) (by
    rw[hop]
    simp only[opT,hi,opdV_low hx,low,loadT,arrT]
    rw[viewS_get hoN,if_pos rfl]
    simp[cond_true,hel,partD,hb2.2.1,cond_false,hb2.1,hcell,Option.map_some]) ⟨by simp only[D.inb,D.len,hlen];omega,by
     rw[hel]
     show Nat.add off i.size<=_
     rw[hrow,hsz]
     exact hoffw⟩
   have hv:=TRel.inv_lit ht
   let ⟨y,hy,hye⟩:=h3.2 k _ (List.getElem?_eq_getElem (by omega)) (by
    intro e
    rw[e] at hb2
    exact Bool.noConfusion hb2.2.2.1)
   refine ⟨v,w',g',hr,?_,back hs2 he⟩
   rw[hv,hye]
   exact .nel _ _ _ _ _ _ y.sz _ (he.arr _ _ _ hy)
  ·
   clear h9
   rcases cond_some h with ⟨hb2,h9⟩|⟨_,h9⟩
   rotate_left
   .cases h9
   simp at h9
   obtain ⟨u,hu,rfl,rfl,rfl⟩:=h9
   rw[Bool.or_eq_true] at hb2
   have hk:=inbN_iff hc
   let ⟨p1,p2⟩:=partV_low hS (i:=i) (τ:=none) (λu h=>by cases h) hu
   have hex:elL l k (S.zero (.st n))=l[k]:=by simp[elL,hk]
   rw[hex] at p1 p2
   have hel:D.el (lits j (l.map (enc S (.st n))) hl) k=litD j (enc S (.st n) l[k]) (hl[k]'(by omega)):=lits_el (by rw[List.getElem?_map,List.getElem?_eq_getElem hk];rfl) (List.getElem?_eq_getElem _)
   let ⟨⟨v,w',g',hr,hs2,he,ht⟩,q1,q2,q3⟩:=opT_sound hT hf h4 o (t:=low u) (s':=viewS s oid (.arr (S.width (.st n)) (lits j (l.map (enc S (.st n))) hl) e)) (p:=D.inb (k:Int) (D.len (lits j (l.map (enc S (.st n))) hl))∧(D.el (lits j (l.map (enc S (.st n))) hl) k).has (Nat.add off i.size)) (by
    rw[hop]
    simp only[opT,hi,opdV_low hx,low,loadT,arrT]
    rw[viewS_get hoN,if_pos rfl]
    simp[cond_true,hel,partD_lit hb2,p1,Option.map_some]) ⟨by simp only[D.inb,D.len,hlen];omega,by
     rw[hel]
     show Nat.add off i.size<=((enc S (.st n) l[k]).cells.set j _).length
     rw[List.length_set]
     exact p2⟩
   exact ⟨v,w',g',hr,ht,back hs2 he⟩
 ·
  rename_i ty x kx hop
  split at h
  rotate_left
  .cases h
  rename_i oid e k off o' m' r i hx hy
  split at h
  rotate_left
  .cases h
  rename_i n j l era m rera hh hob
  split at h
  rotate_left
  .cases h
  rename_i ti hi
  rcases cond_some h with ⟨hb,h9⟩|⟨_,h9⟩
  rotate_left
  .cases h9
  clear h
  simp only[Bool.and_eq_true,Bool.not_eq_true'] at hb
  let ⟨b1,b2,b3,b4,b5,b6,b7,b8,b9,b10⟩:=hb
  have e1:=beq_iff'.1 b1
  subst e1
  have e2:=beq_iff'.1 b2
  subst e2
  have e3:=beq_iff'.1 b3
  subst e3
  have e4:=beq_iff'.1 b4
  subst e4
  have e5:=beq_iff'.1 b5
  subst e5
  obtain ⟨rfl,rfl,rfl⟩:=h9
  unfold holeB at hc
  simp only[Bool.and_eq_true] at hc
  have hk:=inbN_iff hc.1
  have e6:=beq_iff'.1 hc.2.1
  subst e6
  have e7:=beq_iff'.1 hc.2.2
  subst e7
  let ⟨xs,hxs⟩:=epw_inv (opdV_rel hf hx)
  have hoN:o'<bigN:=Nat.lt_of_lt_of_le (hs.lt' hxs) hs.nob
  let ⟨hl,h1,h2,h3,h4⟩:=viewV hs hob hxs
  have hlen:(lits off (l.map (enc S (.st n))) hl).length=l.length:=by rw[lits_len (by simpa using h1)];simp
  have hoffw:off<S.width (.st n):=Nat.le_of_ble_eq_true b9
  have hval:=opdV_rel hf (x:=.tmp kx) (v:=.nel o' m' r i) hy
  let ⟨y,hy1,hye⟩:=nel_inv hval
  have hel:D.el (lits off (l.map (enc S (.st n))) hl) i=litD off (enc S (.st n) l[i]) (hl[i]'(by omega)):=lits_el (by rw[List.getElem?_map,List.getElem?_eq_getElem hk];rfl) (List.getElem?_eq_getElem _)
  have hf':=put1_rel hf (k:=kx) (u:=low (.nel o' m' r i)) (t:=.sym (.lit (.slice y.a y.len y.cap))) (by show (lowFr fr).get kx=_;rw[lowFr_get,hy];rfl) (Nat.le_of_ble_eq_true b10) (by rw[hye];exact .sym _ _ (.lit _))
  have hopx:opdT (put1 (lowFr fr) (.tmp kx) (.sym (.lit (.slice y.a y.len y.cap)))) (.tmp kx)=some (.sym (.lit (.slice y.a y.len y.cap))):=by
   show ((lowFr fr).tm.set fuelTr kx _).get kx=_
   rw[Tr.get_set64 _ _ _ _ (Nat.le_of_ble_eq_true b10),if_pos rfl]
  have hopa:opdT (put1 (lowFr fr) (.tmp kx) (.sym (.lit (.slice y.a y.len y.cap)))) x=some (.epw o' e i off):=by
   have h0:=opdV_low hx
   cases x with
   |tmp k2=>
    show ((lowFr fr).tm.set fuelTr kx _).get k2=_
    rw[Tr.get_set_ne _ _ _ _ _ (λe=>by
     subst e
     have h5:fr.get k2=some (.epw o' e i off):=hx
     rw[hy] at h5
     cases h5)]
    exact h0
   |_=>exact h0
  have hupd:(litD off (enc S (.st n) l[i]) (hl[i]'(by omega))).upd off [.lit (.slice y.a y.len y.cap)]=litD off (enc S (.st n) l[i]) (.slice y.a y.len y.cap):=by
   have hlt:off<(enc S (.st n) l[i]).cells.length:=by rw[enc_width hS];exact hoffw
   show D.agg _=D.agg _
   congr 1
   rw[List.take_set_of_le (Nat.le_refl _),List.length_singleton,List.drop_set_of_lt (Nat.lt_succ_self _)]
   apply List.ext_getElem?
   intro q
   simp only[List.append_assoc,List.getElem?_append,List.length_take,List.getElem?_set,List.getElem?_take,List.getElem?_drop,List.length_singleton]
   rcases Nat.lt_trichotomy q off with hq|hq|hq
   .rw[if_pos (by omega),if_pos hq,if_neg (by omega)]
   .subst hq
    rw[if_neg (by omega),if_pos (by omega),if_pos rfl,if_pos hlt]
    simp[Nat.min_eq_left (Nat.le_of_lt hlt)]
   .rw[if_neg (by omega),if_neg (by omega),if_neg (by omega)]
    congr 1
    omega
  have hby:(litD off (enc S (.st n) l[i]) (.slice y.a y.len y.cap)).by_=(litD off (enc S (.st n) l[i]) (hl[i]'(by omega))).by_:=by
   let ⟨a0,n0,m0,he0⟩:=h3.1 i _ (List.getElem?_eq_getElem (by omega:i<hl.length))
   rw[he0,<-fullD_by off (enc S (.st n) l[i]) [] a0 n0 m0,<-fullD_by off (enc S (.st n) l[i]) [] y.a y.len y.cap]
  have hagg:(litD off (enc S (.st n) l[i]) (hl[i]'(by omega))).isAgg (S.width (.st n))=true:=by
   let ⟨a0,n0,m0,he0⟩:=h3.1 i _ (List.getElem?_eq_getElem (by omega:i<hl.length))
   rw[he0]
   show (Nat.beq (lenL ((enc S (.st n) l[i]).cells.set off _)) _&&((enc S (.st n) l[i]).cells.set off _).all D.leaf)=true
   rw[Bool.and_eq_true,lenL_eq,List.length_set,enc_width hS]
   refine ⟨beq_iff'.2 rfl,List.all_eq_true.2 λd hd=>?_⟩
   rcases List.mem_or_eq_of_mem_set hd with hd|rfl
   .rw[show (enc S (.st n) l[i]).cells=encH S (S.fs n) (S.get n l[i]) from hS.cells n _] at hd
    exact encH_leaf _ _ (hS.leaf n) d hd
   .rfl
  have hput:D.put (lits off (l.map (enc S (.st n))) hl) i (litD off (enc S (.st n) l[i]) (.slice y.a y.len y.cap))=lits off (l.map (enc S (.st n))) (hl.set i (.slice y.a y.len y.cap)):=by
   apply List.ext_getElem?
   intro q
   simp[D.put,lits]
   by_cases hq:i=q
   .subst hq
    rw[List.getElem?_set_self (by simp;omega),List.getElem?_zipWith,List.getElem?_map,List.getElem?_set_self (by omega),List.getElem?_eq_getElem hk]
    rfl
   .rw[List.getElem?_set_ne hq,List.getElem?_zipWith,List.getElem?_zipWith,List.getElem?_set_ne hq]
  let ⟨⟨v,w',g',hr,hs2,he,ht⟩,q1,q2,q3⟩:=opT_sound hT hf' h4 o (t:=unitT) (s':={viewS s o' (.arr (S.width (.st n)) (lits off (l.map (enc S (.st n))) hl) e) with ob:=(viewS s o' (.arr (S.width (.st n)) (lits off (l.map (enc S (.st n))) hl) e)).ob.set fuelTr o' (.arr (S.width (.st n)) (lits off (l.map (enc S (.st n))) (hl.set i (.slice y.a y.len y.cap))) e)})
   (p:=(D.lit (.slice y.a y.len y.cap)).leaf=true∧(True∧True)∧[D.lit (.slice y.a y.len y.cap)].all D.leaf=true∧D.inb (i:Int) (D.len (lits off (l.map (enc S (.st n))) hl))∧(litD off (enc S (.st n) l[i]) (hl[i]'(by omega))).takes (S.width (.st n)) off (lenL [D.lit (.slice y.a y.len y.cap)])∧Nat.ble (Nat.add off (lenL [D.lit (.slice y.a y.len y.cap)])) (S.width (.st n))=true∧((litD off (enc S (.st n) l[i]) (hl[i]'(by omega))).upd off [.lit (.slice y.a y.len y.cap)]).by_=(litD off (enc S (.st n) l[i]) (hl[i]'(by omega))).by_) (by
   rw[hop]
   have hg:=viewS_get (s:=s) hoN (.arr (S.width (.st n)) (lits off (l.map (enc S (.st n))) hl) e) o'
   rw[if_pos rfl] at hg
   have hflv:Nat.ble (viewS s o' (.arr (S.width (.st n)) (lits off (l.map (enc S (.st n))) hl) e)).fl o'=true:=b8
   simp[opT,hi,hopa,hopx,storeT,cellsT,b7,b6,cond_false,cond_true,toDs,toD,List.append_nil,freeze,hg,hflv,Bool.and_self,hel,hupd,hput]) ⟨rfl,⟨trivial,trivial⟩,rfl,⟨Int.natCast_nonneg _,by show (i:Int)<((lits off (l.map (enc S (.st n))) hl).length:Int);rw[hlen];exact Int.ofNat_lt.2 hk⟩,.inl hagg,Nat.ble_eq_true_of_le (by show off+1<=_;omega),by rw[hupd,hby]⟩
  have hgn:∀q,({viewS s o' (.arr (S.width (.st n)) (lits off (l.map (enc S (.st n))) hl) e) with ob:=(viewS s o' (.arr (S.width (.st n)) (lits off (l.map (enc S (.st n))) hl) e)).ob.set fuelTr o' (.arr (S.width (.st n)) (lits off (l.map (enc S (.st n))) (hl.set i (.slice y.a y.len y.cap))) e)}:St).ob.get q=if q=o' then some (.arr (S.width (.st n)) (lits off (l.map (enc S (.st n))) (hl.set i (.slice y.a y.len y.cap))) e) else (viewS s o' (.arr (S.width (.st n)) (lits off (l.map (enc S (.st n))) hl) e)).ob.get q:=λq=>Tr.get_set64 _ _ _ _ hoN
  refine ⟨v,w',g',hr,ht,AftV.ofExt hs (unviewV hs2 (hl:=hl.set i (.slice y.a y.len y.cap)) hoN (by rw[hgn,if_pos rfl]) (by simpa using h1) ⟨λq hv hq=>?_,λq hv hq _=>?_⟩ (by show (s.ob.set fuelTr o' _).get o'=_;rw[Tr.get_set64 _ _ _ _ hoN,if_pos rfl]) (λq hq=>?_) rfl) he rfl rfl (Nat.le_refl _) (set_log _ _ _)⟩
  .rw[List.getElem?_set] at hq
   split at hq
   .rw[if_pos (by omega)] at hq
    cases hq
    exact ⟨_,_,_,rfl⟩
   .exact h3.1 q hv hq
  .rw[List.getElem?_set] at hq
   split at hq
   .rename_i e
    subst e
    rw[if_pos (by omega)] at hq
    cases hq
    exact ⟨y,he.arr _ _ _ hy1,rfl⟩
   .rename_i e
    let ⟨yy,k1,k2⟩:=h3.2 q hv hq (λh=>e (Option.some.inj h))
    exact ⟨yy,he.arr _ _ _ k1,k2⟩
  .rw[hgn,if_neg hq,viewS_get hoN,if_neg hq,lowSt_get,lowSt_get]
   show ((s.ob.set fuelTr o' _).get q).map lowOb=_
   rw[Tr.get_set64 _ _ _ _ hoN,if_neg hq]
 ·
  rename_i ty len parts hop
  split at h
  rotate_left
  .rename_i hparts
   split at h
   rotate_left
   .cases h
   rename_i i e hi hty
   split at h
   rotate_left
   .cases h
   rename_i sz ag bt zz hkd
   rcases cond_some h with ⟨hb,h9⟩|⟨_,h9⟩
   rotate_left
   .cases h9
   obtain ⟨_,rfl,rfl⟩:=h9
   have hlen:len=0:=beq_iff'.1 hb
   subst hlen
   have hle:Nat.ble (Nat.mul 0 sz) 16777216=true:=by
    rw[show Nat.mul 0 sz=0 from Nat.zero_mul sz];rfl
   have h0:opV0 E fr s o.op=some (true,.clp 0 e [],s):=by
    rw[hop]
    simp only[opV0,hi,hty,hparts,partsV,hkd,hle,cond_true,List.replicate_zero,elemsV,freezeV,Option.map_some]
   let ⟨p,hopT,hp⟩:=opV0_low hS hTy h0 rfl
   let ⟨⟨v,w',g',hr,hs2,he,ht⟩,q1,q2,q3⟩:=opT_sound hT hf hs o hopT hp
   refine ⟨v,w',g',hr,?_,AftV.ofExt hs hs2 he q1 q2 q3 (freezeV_log (show freezeV s []=some s from rfl))⟩
   cases ht with
   |clp _ _ a0 hn0 hd=>exact .emp a0
  .cases h
  rename_i kx hparts
  split at h
  rotate_left
  .cases h
  rename_i i n cs hi hty hkx
  split at h
  rotate_left
  .cases h
  rename_i j hnst
  split at h
  rotate_left
  .cases h
  rename_i sz ag bt zz hkd hnj
  rcases cond_some h with ⟨hb,h9⟩|⟨_,h9⟩
  rotate_left
  .cases h9
  clear h
  split at h9
  rotate_left
  .cases h9
  rename_i x os hx
  simp only[Option.map_eq_some_iff,Prod.mk.injEq] at h9
  obtain ⟨s1,hs1,_,rfl,rfl⟩:=h9
  simp only[Bool.and_eq_true] at hb
  have hlen1:=beq_iff'.1 hb.1
  subst hlen1
  have hkN:kx<bigN:=Nat.le_of_ble_eq_true hb.2.2
  let ⟨⟨z,hkd',hz⟩,_,_,hpos⟩:=hTy.row _ _ _ hi hty
  rw[hkd] at hkd'
  obtain ⟨rfl,rfl,rfl,rfl⟩:=Kd.slice.inj hkd'
  have hfz:=freezeV_low hS os hs1
  have hval:=opdV_rel hf (x:=.tmp kx) (v:=.agg cs) hkx
  generalize hve:a.eval (.tmp kx)=ve at hval
  obtain ⟨vs,rfl,hpw⟩:=TRel.inv_agg hval
  have hcj:(lows cs)[j]?=some .emp:=by rw[nth_eq] at hnj;rw[lows_map,List.getElem?_map,hnj];rfl
  obtain ⟨vj,hvj⟩:∃vj,vs.toList[j]?=some vj:=by
   have:=getElem?_isSome_lt hcj
   exact ⟨_,List.getElem?_eq_getElem (by have:=hpw.1;omega)⟩
  have hemp:=hpw.2 j _ _ hcj hvj
  obtain ⟨c,rfl⟩:∃c,vj=.slice c 0 0:=by
   cases hemp with
   |emp c=>exact ⟨c,rfl⟩
  have hval':TRel g w (.agg ((lows cs).set j (.sym (.lit (.slice c 0 0))))) (.agg vs):=by
   refine .agg _ vs (by simpa using hpw.1) λq t v h1 h2=>?_
   rw[List.getElem?_set] at h1
   split at h1
   .rename_i e
    subst e
    rw[if_pos (getElem?_isSome_lt hcj)] at h1
    cases h1
    have:vs.toList[j]?=some v:=by simpa using h2
    rw[hvj] at this
    cases this
    exact .sym _ _ (.lit _)
   .exact hpw.2 q t v h1 (by simpa using h2)
  have hf':=put1_rel hf (k:=kx) (u:=low (.agg cs)) (t:=.agg ((lows cs).set j (.sym (.lit (.slice c 0 0))))) (by rw[lowFr_get,hkx];rfl) hkN (by rw[hve];exact hval')
  have hopx:opdT (put1 (lowFr fr) (.tmp kx) (.agg ((lows cs).set j (.sym (.lit (.slice c 0 0)))))) (.tmp kx)=some (.agg ((lows cs).set j (.sym (.lit (.slice c 0 0))))):=by
   show ((lowFr fr).tm.set fuelTr kx _).get kx=_
   rw[Tr.get_set64 _ _ _ _ hkN,if_pos rfl]
  simp[toTy] at hx
  split at hx
  rotate_left
  .cases hx
  rename_i hh os' hxs
  obtain ⟨rfl,rfl⟩:=hx
  let ⟨q,hq,hqp⟩:=toTys_low hS s _ _ hxs
  let ⟨q',hq',hqq,hdj⟩:=toDs_set (lowSt s) hq hcj (.slice c 0 0)
  have hcells:(enc S (.st n) (S.mkS n hh)).cells=encH S (S.fs n) hh:=by
   show S.cells n _=_
   rw[hS.cells,hS.get_mk]
  have hzl:lenL zz=S.width (.st n):=by
   simp[isSt,cond_true,enc,D.agg.injEq] at hz
   rw[hz]
   simp[Sg.width,lenL_eq]
   rw[show S.cells n (S.zero (.st n))=_ from hS.cells n _,encH_len]
  have hcond:((isSt (.st n)||Nat.beq (S.width (.st n)) 1)&&(Nat.beq (lenL zz) (S.width (.st n))&&(!(Nat.beq (S.width (.st n)) 0)&&Nat.ble (Nat.mul 1 (S.width (.st n))) 16777216)))=true:=by
   rw[hzl]
   simp only[Bool.and_eq_true,Bool.not_eq_true']
   refine ⟨rfl,beq_iff'.2 rfl,?_,by simpa using hb.2.1⟩
   cases hq:Nat.beq (S.width (.st n)) 0 with
   |false=>rfl
   |true=>have:=beq_iff'.1 hq;omega
  have hagg:(D.agg ((encH S (S.fs n) hh).set j (.lit (.slice c 0 0)))).isAgg (S.width (.st n))=true:=by
   show (Nat.beq (lenL ((encH S (S.fs n) hh).set j _)) _&&((encH S (S.fs n) hh).set j _).all D.leaf)=true
   rw[Bool.and_eq_true,lenL_eq,List.length_set,encH_len]
   refine ⟨beq_iff'.2 (lenL_eq _).symm,List.all_eq_true.2 λd hd=>?_⟩
   rcases List.mem_or_eq_of_mem_set hd with hd|rfl
   .exact encH_leaf _ _ (hS.leaf n) d hd
   .rfl
  have hall:((encH S (S.fs n) hh).set j (.lit (.slice c 0 0))).all D.leaf=true:=by
   have h0:(Nat.beq (lenL ((encH S (S.fs n) hh).set j _)) _&&((encH S (S.fs n) hh).set j (.lit (.slice c 0 0))).all D.leaf)=true:=hagg
   rw[Bool.and_eq_true] at h0
   exact h0.2
  let ⟨⟨v,w',g',hr,hs2,he,ht⟩,q1,q2,q3⟩:=opT_sound hT hf' hs o (t:=.clp 1 [D.agg ((encH S (S.fs n) hh).set j (.lit (.slice c 0 0)))]) (s':=lowSt s1)
   (p:=(q'∧((encH S (S.fs n) hh).set j (.lit (.slice c 0 0))).all D.leaf=true)∧(D.agg ((encH S (S.fs n) hh).set j (.lit (.slice c 0 0)))).isAgg (S.width (.st n))=true∧True) (by
   rw[hop]
   have hps:partsT (put1 (lowFr fr) (.tmp kx) (.agg ((lows cs).set j (.sym (.lit (.slice c 0 0)))))) parts.toList=some [(0,.agg ((lows cs).set j (.sym (.lit (.slice c 0 0)))))]:=by
    rw[hparts]
    simp[partsT,hopx]
   simp only[opT,hi,hps,hkd,cond_true,elemsT,toD,hq',List.replicate,lenL,isSt,show Nat.blt 0 (Nat.succ 0)=true from rfl,List.set_cons_zero,List.append_nil,hfz,Option.map_some]
   have hcond':((true||Nat.beq (S.width (.st n)) 1)&&(Nat.beq (lenL zz) (S.width (.st n))&&(!(Nat.beq (S.width (.st n)) 0)&&Nat.ble (Nat.mul 1 (S.width (.st n))) 16777216)))=true:=hcond
   rw[hcond']
   rfl) ⟨⟨hqq hqp,hall⟩,hagg,trivial⟩
  refine ⟨v,w',g',hr,?_,AftV.ofExt hs hs2 he q1 q2 q3 (freezeV_log hs1)⟩
  cases ht with
  |clp _ _ a0 hn0 hd=>
   refine .cln _ _ c a0 ?_ ?_
   .rw[hcells]
    exact hdj
   .show DRel g'.imm w' (.sl [D.agg ((enc S (.st n) (S.mkS n hh)).cells.set j _)]) _
    rw[hcells]
    exact hd
 ·
  rename_i ty x hi hop
  split at h
  rotate_left
  .cases h
  rename_i i oid r hv hti hx hh
  split at h
  rotate_left
  .cases h
  rename_i sz ag bt zz l era n hkd hob hn
  rcases cond_some h with ⟨hb,h9⟩|⟨_,h9⟩
  rotate_left
  .cases h9
  simp only[Bool.and_eq_true] at hb
  have hre:=beq_iff'.1 hb.1
  subst hre
  obtain ⟨rfl,rfl,rfl⟩:=h9
  have hc':=cutL_iff hc
  let ⟨xs,hxs,hval⟩:=sh_inv (opdV_rel hf hx)
  let ⟨p,hp1,hp⟩:=intV_low hn
  have e1:=intT_sound hp1 hp (opdV_rel hf hh)
  have hlo:(lowSt s).ob.get oid=some (.arr (S.width (.int .i64)) (l.map (enc S (.int .i64))) r):=by
   show (s.ob.map lowOb).get oid=_
   rw[Tr.get_map,hob]
   rfl
  let ⟨hnow,hxsz⟩:=hs.arrNow (fz:=false) hlo hxs
  let ⟨c0,c1,c2⟩:=hc'
  have hlen:xs.len=l.length:=by rw[hnow.len];simp
  have hcap:=hnow.cap
  have c2':n<=(l.length:Int):=c2
  let ⟨xi,d1,z1,hxi,hu1,_,_,_,_,hk⟩:=(hT.ti _ _ hti).all
  rw[hkd] at hk
  obtain ⟨el,j,d',zv,rfl,hj,hjs,_⟩:=hk
  have hb2:=run_sliceBounds2 (P:=E.E.P) (w:=w) true xs.len xs.cap (low:=none) (high:=some (.int .i64 n)) (lo:=0) (hi:=n) (.inl ⟨rfl,rfl⟩) (.inr rfl) (by omega) (by omega) (by omega)
  let x':ASl:=⟨xs.a,n.toNat,xs.cap,xs.sz⟩
  have hat:∀b,x'.at b->xs.at b:=λb h=>h
  let ⟨hs2,he⟩:=hs.bump (w':=w) hlo hxs (x':=x') (es':=(subL l 0 n).map (enc S (.int .i64))) (Nat.le_of_ble_eq_true hb.2) rfl rfl (Nat.le_refl _) (λ_ _ _=>rfl) (λb h=>⟨by
   let ⟨ad,h1,h2,h3⟩:=h
   have:=(hs.arr _ _ _ hxs).1 ad h1 h3
   omega,.inr (hat b h)⟩) (by
   have hsub:subL l 0 n=l.take n.toNat:=by simp[subL]
   rw[hsub]
   refine ⟨by simp[x'];omega,by show n.toNat<=xs.cap;omega,λd hd=>?_,hnow.pos,λd hd=>?_,λh0=>?_⟩
   .exact hnow.rows d (by grind)
   .refine Nat.le_trans (Nat.mul_le_mul_right _ ?_) (hnow.byt d (by grind))
    simp
    omega
   .let ⟨b,vs,ty,k1,k2,k3,k4,k5⟩:=hnow.mem h0
    exact ⟨b,vs,ty,k1,k2,k3,k4,λi d j c h1 h2=>k5 i d j c (by grind) h2⟩) hxsz
  refine ⟨.slice xs.a n.toNat xs.cap,w,_,.inl ?_,?_,AftV.ofExt hs (by rw[lowSt_set];exact hs2) he rfl rfl (Nat.le_refl _) (set_log _ _ _)⟩
  .have hrun:(Instr.sliceAt ty (.slice xs.a xs.len xs.cap) none (some (.int .i64 n)) none).run E.E.P w=.ok (.slice xs.a n.toNat xs.cap) w:=by
    simp only[Instr.sliceAt,Instr.slice,Sem.run_bind,run_underlying' hu1,Result.andThen_ok,run_sizeOf' hj,hjs,hb2]
    cases xs.a<;>simp[Addr.add]
   simp[execOp,hop,hval,e1,hrun]
  .exact .sh _ _ _ _ xs.sz _ (Gh.era_same _ _ _ _)
 ·
  rename_i ty hop
  split at h
  rotate_left
  .cases h
  rename_i e hbt
  rcases cond_some h with ⟨hb,h9⟩|⟨_,h9⟩
  rotate_left
  .cases h9
  obtain ⟨_,rfl,rfl⟩:=h9
  let ⟨xi,hxi,hz⟩:=hX.bt _ _ hbt
  have hn1:s.nob+1<bigN:=Nat.le_of_ble_eq_true hb
  have hn0:s.nob<bigN:=by omega
  have hno:∀b,(⟨none,0,0,1⟩:ASl).at b->False:=λb hb=>by obtain ⟨ad,h1,_⟩:=hb;cases h1
  let ⟨k1,k2,k3⟩:=hs.addBuf (ty:=e) (l:=[]) (x:=⟨none,0,0,1⟩) hn0 (λb hb=>(hno b hb).elim) ⟨.inl ⟨rfl,rfl,rfl,rfl⟩,World.ownsRowF_nil _ _ _ _⟩
  have e0:(lowSt s).nob=s.nob:=rfl
  rw[e0] at k1 k2 k3
  have hst:(newOb (lowSt s) (Ob.bbf e [])).2=lowSt (newObV s (.bbf e [])):=(lowSt_new s (.bbf e [])).symm
  rw[hst] at k1
  have he0:Ext s.fl g w (g.era s.nob 0 ⟨none,0,0,1⟩) w:=
   ⟨k2.blk,k2.arr,k2.imm,Nat.le_refl _,λ_ _ _=>rfl,λo b h=>.inl ((k3 o b h).elim id λh=>(hno b h.2).elim),λ_ h=>.inl h,rfl,rfl⟩
  let ⟨hs',he⟩:=k1.newObj (ob0:=.bld ty s.nob) (x0:=.cells #[.pointer none,.slice none 0 0] ty (0,0)) hn1 (.bld ty s.nob _ _ (.inl rfl) (.sh _ _ 0 0 1 none (Gh.era_same _ _ _ _)))
  have hst2:(newOb (lowSt (newObV s (.bbf e []))) (Ob.bld ty s.nob)).2=lowSt (newObV (newObV s (.bbf e [])) (.bld ty s.nob)):=(lowSt_new _ (.bld ty s.nob)).symm
  rw[hst2] at hs'
  refine ⟨.pointer (some ⟨w.heap.size,0,none⟩),_,_,.inl ?_,.ptr _ _ w.heap.size (by simp[Gh.newBox,lowSt,newObV]),AftV.ofExt hs hs' (he0.trans he) rfl rfl (Nat.le_trans (Nat.le_succ _) (Nat.le_succ _)) ((newObV_log s _ hn0).trans' (Nat.le_succ _) (newObV_log _ _ hn1))⟩
  simp[execOp,hop,Instr.alloc,run_zeroValue' hxi hz,newVar,newRow]
  rfl
 .cases h
end
end TL
end
section
namespace TL
open Go
variable {S:Sg}
section
variable {g:Gh} {w:World}
theorem SRel.pushRow {s:St} (hs:SRel g s w) {m sz r:Nat} {rss:List (List D)} (hm:s.ob.get m=some (.rws sz rss r)) (hmn:m<s.nob) (h0:0<sz) (c:Option Addr) :
  SRel (g.era m (rc r rss.length) ⟨c,0,0,sz⟩) {s with ob:=s.ob.set fuelTr m (.rws sz (rss++[[]]) r)} w∧Ext s.fl g w (g.era m (rc r rss.length) ⟨c,0,0,sz⟩) w:=by
 have hmN:m<bigN:=Nat.lt_of_lt_of_le hmn hs.nob
 have hfree:g.arr m (rc r rss.length)=none:=by
  cases h:g.arr m (rc r rss.length) with
  |none=>rfl
  |some y=>
   let ⟨_,rs,h2,_⟩:=(hs.rwsNow hm h).2.2 _ rfl
   simp_all
 have harr:∀k j y,g.arr k j=some y->(g.era m (rc r rss.length) ⟨c,0,0,sz⟩).arr k j=some y:=λk j y h=>by
  rw[Gh.era_other]
  .exact h
  grind
 have hown:∀k b,Owned (g.era m (rc r rss.length) ⟨c,0,0,sz⟩) k b->Owned g k b:=by
  rintro k b ⟨h1,h2|⟨j,y,ad,h2,h3,h4,h5⟩⟩
  .exact ⟨h1,.inl h2⟩
  .by_cases hkj:k=m∧j=rc r rss.length
   .obtain ⟨rfl,rfl⟩:=hkj
    rw[Gh.era_same] at h2
    grind
   .rw[Gh.era_other _ _ _ _ _ _ hkj] at h2
    exact ⟨h1,.inr ⟨j,y,ad,h2,h3,h4,h5⟩⟩
 have he:Ext s.fl g w (g.era m (rc r rss.length) ⟨c,0,0,sz⟩) w:=
  ⟨λ_ _ h=>h,harr,λ_ h=>h,Nat.le_refl _,λ_ _ _=>rfl,λk b h=>.inl (hown k b h),λ_ h=>.inl h,rfl,rfl⟩
 have hget:∀k,(s.ob.set fuelTr m (.rws sz (rss++[[]]) r)).get k=if k=m then some (.rws sz (rss++[[]]) r) else s.ob.get k:=λk=>Tr.get_set64 _ _ _ _ hmN
 have hnb:=hs.noBlk hm rfl
 refine ⟨⟨hs.nob,λk hk=>⟨(hs.bnd k hk).1,λj=>?_⟩,λk b hb=>?_,λk j y hy=>?_,hs.imm,λk k' b h h'=>hs.uni k k' b (hown k b h) (hown k' b h'),hs.gext he⟩,he⟩
 .rw[Gh.era_other _ _ _ _ _ _ (by grind)]
  exact (hs.bnd k hk).2 j
 .have hb':g.blk k=some b:=hb
  have hkm:k≠m:=by grind
  let ⟨h1,h2,h3⟩:=hs.box k b hb'
  refine ⟨h1,h2,λob hob=>?_⟩
  rw[hget,if_neg hkm] at hob
  let ⟨x,k1,k2⟩:=h3 ob hob
  exact ⟨x,k1,k2.ext he hs.imm⟩
 .by_cases hkm:k=m
  .subst hkm
   have hcl:∀r' i,r<r'->g.arr k (rc r' i)=none:=λr' i hlt=>by
    cases h:g.arr k (rc r' i) with
    |none=>rfl
    |some z=>rw[(hs.rwsNow hm h).1 r' i hlt] at h;cases h
   have hbd:∀ad,y.a=some ad->y.cap≠0->ad.block<w.heap.size:=by
    by_cases hj:j=rc r rss.length
    .subst hj
     rw[Gh.era_same] at hy
     grind
    .rw[Gh.era_other _ _ _ _ _ _ (λh=>hj h.2)] at hy
     exact (hs.arr k j y hy).1
   refine ⟨hbd,λob hob=>?_⟩
   rw[hget,if_pos rfl] at hob
   obtain rfl:=Option.some.inj hob
   refine .inr (.inr (.inl ⟨sz,rss++[[]],r,rfl,λr' i hlt=>?_,λi1 i2 y1 y2 hne h1 h2 b hb1 hb2=>?_,λi hj=>?_⟩))
   .grind[Gh.era_other,rc_inj]
   .by_cases e1:i1=rss.length
    .subst e1
     rw[Gh.era_same] at h1
     cases h1
     let ⟨_,_,_,h⟩:=hb1
     grind
    .by_cases e2:i2=rss.length
     .subst e2
      rw[Gh.era_same] at h2
      cases h2
      let ⟨_,_,_,h⟩:=hb2
      grind
     .rw[Gh.era_other _ _ _ _ _ _ (λh=>e1 (rc_inj h.2).2)] at h1
      rw[Gh.era_other _ _ _ _ _ _ (λh=>e2 (rc_inj h.2).2)] at h2
      exact (hs.rwsNow hm h1).2.1 i1 i2 y1 y2 hne h1 h2 b hb1 hb2
   .subst hj
    by_cases e1:i=rss.length
    .subst e1
     rw[Gh.era_same] at hy
     cases hy
     exact ⟨rfl,[],by simp,⟨rfl,Nat.le_refl _,by simp,h0,by simp,λh=>absurd rfl h⟩⟩
    .rw[Gh.era_other _ _ _ _ _ _ (λh=>e1 (rc_inj h.2).2)] at hy
     let ⟨q1,rs,q2,q3⟩:=(hs.rwsNow hm hy).2.2 i rfl
     exact ⟨q1,rs,by grind,q3.imm_eq rfl⟩
  .have hy':g.arr k j=some y:=by grind[Gh.era_other]
   let ⟨h1,h2⟩:=hs.arr k j y hy'
   refine ⟨h1,λob hob=>?_⟩
   rw[hget,if_neg hkm] at hob
   exact (h2 ob hob).tr (λh=>h.imm_eq rfl) harr (funext λj=>Gh.era_other _ _ _ _ _ _ (λh=>hkm h.1)) (λ_ _ _=>⟨rfl,Iff.rfl⟩)
theorem append_wp {P:Program} {a:Act} {o:Oper} {c:Call} (hop:o.op=.call c) (hb:c.callee=.builtin .append) {u v:Operand} {ty tx:TypeId} (ha:c.args=#[u,v]) (hat:c.argTypes=#[ty,tx]) {R:Value->World->Prop} (h:AppOr P ty tx o.type (a.eval u) (a.eval v) w R)
  {K:Act->World->Prop} {Q:Exit->Act->World->Prop} (hK:∀v w',R v w'->K (a.put o.dst v) w'):o.wp P a w K Q∨(o.asks P a w∧LetsOut Q):=by
 let ⟨r,w',hrun,hR⟩:=h
 left
 unfold Oper.wp
 have hrun':(execOp a.eval o).run P w=.ok (.value r) w':=by
  simp_all[execOp,resolve,invoke,builtin]
 rw[hrun']
 exact hK r w' hR
theorem args2 {l:Array Operand} {a:Act} {x y:T} (hpw:PW (TRel g w) [x,y] (l.toList.map a.eval)):∃u v,l=#[u,v]∧TRel g w x (a.eval u)∧TRel g w y (a.eval v):=by
 have hl:l.size=2:=by have:=hpw.1;simp_all
 obtain ⟨u,v,ha⟩:∃u v,l=#[u,v]:=⟨l[0],l[1],by
  grind⟩
 exact ⟨u,v,ha,hpw.2 0 _ _ rfl (by simp[ha]),hpw.2 1 _ _ rfl (by simp[ha])⟩
theorem litD_by (hS:SgOk S) {n j:Nat} {t:Ty} (hc:colB S n j t=true) (x:S.A n) (c:Option Addr) (p q:Nat):(litD j (enc S (.st n) x) (.slice c p q)).by_=(enc S (.st n) x).by_:=by
 have h:fullD j (enc S (.st n) x) ((getC n j t x).map (enc S t))=enc S (.st n) x:=by
  show D.agg ((S.cells n x).set j _)=D.agg (S.cells n x)
  have:(S.cells n x)[j]?=some (.sl ((getC n j t x).map (enc S t))):=by rw[hS.cells];exact encH_hget (colB_iff hc)
  rw[set_self' this]
 rw[<-fullD_by j _ ((getC n j t x).map (enc S t)),h]
theorem litD_flat (hS:SgOk S) {n j:Nat} (x:S.A n) (c:Option Addr) (p q:Nat):(litD j (enc S (.st n) x) (.slice c p q)).flat=true:=by
 show ((S.cells n x).set j _).all D.leaf=true
 refine List.all_eq_true.2 λd hd=>?_
 rcases List.mem_or_eq_of_mem_set hd with hd|rfl
 .rw[hS.cells] at hd
  exact encH_leaf _ _ (hS.leaf n) d hd
 .rfl
theorem builtinN_sound {E:EnvT} (hS:SgOk S) (_hT:TabOk E.E) (hEE:EnvOk E.E) (hTy:TyOk S E) {fr:FrV S} {s s':StV S} {a:Act} (hf:FRel g (lowFr fr) a w) (hs:SRel g (lowSt s) w) {o:Oper} {cl:Call} (hop:o.op=.call cl) {b:Builtin} (hb:cl.callee=.builtin b) {args:List (V S)} (hargs:opdsV fr cl.args.toList=some args) {c:Bool} {t:V S}
  (h:builtinN E s b cl.argTypes args=some (c,t,s')) (hc:c=true) {K:Act->World->Prop} {Q:Exit->Act->World->Prop} (hK:∀g' v w',AftV [] s g w s' g' w'->TRel g' w' (low t) v->K (a.put o.dst v) w') :
  o.wp E.E.P a w K Q∨(o.asks E.E.P a w∧LetsOut Q):=by
 have hpw:=opdsT_sound hf (opdsV_low hargs)
 unfold builtinN at h
 split at h
 ·
  rename_i oid r
  split at h
  rotate_left
  .cases h
  rename_i n j l era m rera hole hob
  split at h
  rotate_left
  .cases h
  rename_i i n' hi hty
  split at h
  rotate_left
  .cases h
  rename_i sz ag bt zz hkd
  rcases cond_some h with ⟨hbb,h9⟩|⟨_,h9⟩
  rotate_left
  .cases h9
  simp only[Bool.and_eq_true] at hbb
  have hre:=beq_iff'.1 hbb.1
  subst hre
  obtain ⟨_,rfl,rfl⟩:=h9
  have hx0:TRel g w (.sh oid r) ((cl.args.toList.map a.eval)[0]'(by have:=hpw.1;simp[lows] at this;simp;omega)):=hpw.2 0 _ _ rfl (List.getElem?_eq_getElem _)
  let ⟨xs,hxs,_⟩:=sh_inv hx0
  have hoN:oid<bigN:=Nat.lt_of_lt_of_le (hs.lt' hxs) hs.nob
  let ⟨hl,h1,h2,h3,h4⟩:=viewV hs hob hxs
  have hlen:(lits j (l.map (enc S (.st n))) hl).length=l.length:=by rw[lits_len (by simpa using h1)];simp
  refine builtin_sound hEE hf h4 hop hb (opdsV_low hargs) (p:=True) (t:=.sym (.lit (.int .i64 (D.len (lits j (l.map (enc S (.st n))) hl))))) (s':=viewS s oid (.arr (S.width (.st n)) (lits j (l.map (enc S (.st n))) hl) r)) ?_ trivial (k:=λt' st'=>t'=.sym (.lit (.int .i64 (D.len (lits j (l.map (enc S (.st n))) hl))))∧st'=viewS s oid (.arr (S.width (.st n)) (lits j (l.map (enc S (.st n))) hl) r)) ⟨rfl,rfl⟩ (λt' st' g' v w' he haft ht=>?_)
  .have hi':(nth cl.argTypes.toList 0).bind E.E.ti=some i:=hi
   simp only[lows,low,builtinT,strT,hi',hkd,slT]
   rw[viewS_get hoN,if_pos rfl]
   simp
  .obtain ⟨rfl,rfl⟩:=he
   refine hK g' v w' (AftV.ofExt hs (unviewV haft.rel hoN (by rw[viewS_get hoN,if_pos rfl]) h1 (h3.le (λj y=>haft.ext.arr m j y)) hob (λk hk=>by rw[viewS_get hoN,if_neg hk]) rfl) haft.ext rfl rfl (Nat.le_refl _) (LogV.refl _)) ?_
   have e:D.len (lits j (l.map (enc S (.st n))) hl)=lenI l:=by simp[D.len,hlen,lenI]
   rw[e] at ht
   exact ht
 ·
  rename_i oid r n' j' x
  split at h
  rotate_left
  .cases h
  rename_i n j l era m rera hob
  split at h
  rotate_left
  .cases h
  rename_i ty tx hats
  split at h
  rotate_left
  .cases h
  rename_i i i' n'' t' rss hi hi' hty hrw
  split at h
  rotate_left
  .cases h
  rename_i sz ag bt zz sz' ag' bt' zz' new hkd hkd' hnew
  let ⟨e1,hh⟩:=castL_eq hnew
  cases e1
  cases hh
  rcases cond_some h with ⟨hbb,h9⟩|⟨_,h9⟩
  rotate_left
  .cases h9
  clear h
  simp only[Bool.and_eq_true] at hbb
  let ⟨b1,b2,b3,b4,b5,b6,b7,b8,b9⟩:=hbb
  have e1:=beq_iff'.1 b1
  subst e1
  have e2:=beq_iff'.1 b2
  subst e2
  have e3:=beq_iff'.1 b3
  subst e3
  simp only[Option.some.injEq,Prod.mk.injEq] at h9
  obtain ⟨hll,rfl,rfl⟩:=h9
  have hll0:D.band (lenB l rss) (fewL l [x])=true:=hll.trans ‹_›
  have hll1:lenB l rss=true∧fewL l [x]=true:=by simpa[D.band] using hll0
  have hfew:=hll1.2
  have hll:=of_decide_eq_true (show decide _=true from hll1.1)
  let ⟨u,v,ha,hu,hv⟩:=args2 hpw
  have hat:cl.argTypes=#[ty,tx]:=by
   apply Array.ext'
   simpa using hats
  let ⟨xs,hxs,hxe⟩:=sh_inv hu
  have hoN:oid<bigN:=Nat.lt_of_lt_of_le (hs.lt' hxs) hs.nob
  have hmn:m<s.nob:=Nat.le_of_ble_eq_true b6
  have hmN:m<bigN:=Nat.lt_of_lt_of_le hmn hs.nob
  have hw0:0<S.width t':=Nat.le_of_ble_eq_true b9
  let ⟨szm,hm⟩:=rwsT_some (rwsV_low hrw)
  have hszm:szm=S.width t':=by
   have h1:=hrw
   unfold rwsV at h1
   split at h1
   .rename_i t0 rss0 r0 hq
    rcases cond_some h1 with ⟨_,h1⟩|⟨_,h1⟩
    .cases h1
     rw[lowSt_get,hq] at hm
     cases hm
     rfl
    .cases h1
   .cases h1
  subst hszm
  have hom:oid≠m:=by rintro rfl;rw[lowSt_get,hob] at hm;cases hm
  generalize hvv:a.eval v=vv at hv
  cases hv with
  |cln _ _ c ad hcj hcd=>
  let ⟨p1,p2⟩:=hs.pushRow hm hmn hw0 c
  let s1:StV S:={s with ob:=s.ob.set fuelTr m (.rws t' (rss++[[]]) rera)}
  have hs1e:(lowSt s1)={lowSt s with ob:=(lowSt s).ob.set fuelTr m (.rws (S.width t') (rss.map (·.map (enc S t'))++[[]]) rera)}:=by
   simp[s1,lowSt,Tr.set_map,lowOb,List.map_append,List.map_cons,List.map_nil]
  rw[<-hs1e] at p1
  have hob1:s1.ob.get oid=some (.nar n' j l r m rera none):=by
   rw[Tr.get_set64 _ _ _ _ hmN,if_neg hom]
   exact hob
  have hxs1:=p2.arr _ _ _ hxs
  let ⟨hl,h1,h2,h3,h4⟩:=viewV p1 hob1 hxs1
  have hlitlen:(lits j (l.map (enc S (.st n'))) hl).length=l.length:=by rw[lits_len (by simpa using h1)];simp
  let ⟨⟨z,hkdz,_⟩,_,_,hpos⟩:=hTy.row _ _ _ hi hty
  rw[hkd] at hkdz
  obtain ⟨rfl,rfl,rfl,rfl⟩:=Kd.slice.inj hkdz
  have hcd1:TRel (g.era m (rc rera (rss.map (·.map (enc S t'))).length) ⟨c,0,0,S.width t'⟩) w (.clp 0 [litD j (enc S (.st n') x) (.slice c 0 0)]) (.slice ad 1 1):=.clp 0 _ ad (by simp) (hcd.ext p2 hs.imm)
  have hus:TRel (g.era m (rc rera (rss.map (·.map (enc S t'))).length) ⟨c,0,0,S.width t'⟩) w (.sh oid r) (a.eval u):=hu.ext p2 hs.imm
  have happ:D.app (lits j (l.map (enc S (.st n'))) hl) [litD j (enc S (.st n') x) (.slice c 0 0)]=lits j ((catL l [x]).map (enc S (.st n'))) (hl++[.slice c 0 0]):=by
   simp[D.app,lits,catL,List.map_append,List.map_cons,List.map_nil]
   rw[List.zipWith_append (by simp;omega)]
   rfl
  have hbys:D.bys (D.app (lits j (l.map (enc S (.st n'))) hl) [litD j (enc S (.st n') x) (.slice c 0 0)]) (byOf S (.st n')):=by
   intro d hd
   rw[happ] at hd
   let ⟨q,hq⟩:=List.getElem?_of_mem hd
   rw[lits,List.getElem?_zipWith] at hq
   split at hq
   .rename_i dd hv0 k1 k2
    cases hq
    rw[List.getElem?_map,Option.map_eq_some_iff] at k1
    obtain ⟨xx,_,rfl⟩:=k1
    obtain ⟨a0,n0,m0,rfl⟩:∃a0 n0 m0,hv0=.slice a0 n0 m0:=by
     rw[List.getElem?_append] at k2
     split at k2
     .exact h3.1 q hv0 k2
     .rename_i hge
      have:q-hl.length=0:=by
       have:=getElem?_isSome_lt k2
       simpa using this
      rw[this] at k2
      cases k2
      exact ⟨_,_,_,rfl⟩
    exact ⟨by rw[litD_by hS b8];exact enc_by hS (t:=.st n') xx,litD_flat hS xx a0 n0 m0⟩
   .cases hq
  have hgv:=viewS_get (s:=s1) hoN (.arr (S.width (.st n')) (lits j (l.map (enc S (.st n'))) hl) r)
  have hkj:i'.kd=.slice sz' ag' bt' zz':=hkd'
  have hap:=appendT_sound (rt:=o.type) (hEE.ti _ _ hi) (hEE.ti _ _ hi') ⟨_,_,_,_,hkj⟩ h4 (x:=.sh oid r) (y:=.clp 0 [litD j (enc S (.st n') x) (.slice c 0 0)]) (vx:=a.eval u) (vy:=.slice ad 1 1)
   (p:=True∧D.rows [litD j (enc S (.st n') x) (.slice c 0 0)] (S.width (.st n'))∧D.bys (D.app (lits j (l.map (enc S (.st n'))) hl) [litD j (enc S (.st n') x) (.slice c 0 0)]) (byOf S (.st n'))∧D.few (lits j (l.map (enc S (.st n'))) hl) [litD j (enc S (.st n') x) (.slice c 0 0)]) (t:=.sh oid (Nat.succ r))
   (s':={viewS s1 oid (.arr (S.width (.st n')) (lits j (l.map (enc S (.st n'))) hl) r) with ob:=(viewS s1 oid (.arr (S.width (.st n')) (lits j (l.map (enc S (.st n'))) hl) r)).ob.set fuelTr oid (.arr (S.width (.st n')) (D.app (lits j (l.map (enc S (.st n'))) hl) [litD j (enc S (.st n') x) (.slice c 0 0)]) (Nat.succ r))}) (by
   have hg0:=hgv oid
   rw[if_pos rfl] at hg0
   have e1:Nat.blt (viewS s1 oid (.arr (S.width (.st n')) (lits j (l.map (enc S (.st n'))) hl) r)).nob bigN=true:=b7
   have e2:Nat.ble (viewS s1 oid (.arr (S.width (.st n')) (lits j (l.map (enc S (.st n'))) hl) r)).fl oid=true:=b4
   simp only[appendT,e1,Bool.not_true,cond_false,hkd,slT,hg0,e2,show Nat.beq r r=true from beq_iff'.2 rfl,show Nat.beq (S.width (.st n')) (S.width (.st n'))=true from beq_iff'.2 rfl,ownSl,Bool.and_self]
   rfl) ⟨trivial,λd hd=>by
    rw[List.mem_singleton.1 hd]
    show ((enc S (.st n') x).cells.set j _).length=_
    rw[List.length_set,enc_width hS],hbys,by
    have:l.length+1<=17179869184:=by simpa[fewL] using hfew
    show (lits j (l.map (enc S (.st n'))) hl).length+1<=_
    rw[hlitlen]
    exact this⟩ hus hcd1
  refine append_wp hop hb ha hat (by rw[hvv];exact hap) (λv w' hR=>?_)
  let ⟨g',r1,r2,r3⟩:=hR
  have hE:=p2.trans r2
  refine hK g' v w' (AftV.ofExt hs ?_ hE rfl rfl (Nat.le_refl _) ⟨λ_ h=>List.mem_cons_of_mem _ (List.mem_cons_of_mem _ h),λk _ hk=>?_,rfl⟩) r3
  .refine unviewV r1 (n:=n') (j:=j) (l:=catL l [x]) (era:=Nat.succ r) (m:=m) (rera:=rera) (hole:=none) (hl:=hl++[.slice c 0 0]) hoN ?_ (by simp[catL];omega) ⟨λq v hq=>?_,λq v hq _=>?_⟩ ?_ (λk hk=>?_) rfl
   .show ((viewS s1 oid _).ob.set fuelTr oid _).get oid=_
    rw[Tr.get_set64 _ _ _ _ hoN,if_pos rfl,happ]
   .rw[List.getElem?_append] at hq
    split at hq
    .exact h3.1 q v hq
    .have:q-hl.length=0:=by have:=getElem?_isSome_lt hq;simpa using this
     rw[this] at hq
     cases hq
     exact ⟨_,_,_,rfl⟩
   .rw[List.getElem?_append] at hq
    split at hq
    .let ⟨yy,k1,k2⟩:=h3.2 q v hq (by simp)
     exact ⟨yy,r2.arr _ _ _ k1,k2⟩
    .have h0:q-hl.length=0:=by have:=getElem?_isSome_lt hq;simpa using this
     rw[h0] at hq
     cases hq
     refine ⟨⟨c,0,0,S.width t'⟩,r2.arr _ _ _ ?_,rfl⟩
     have:q=(rss.map (·.map (enc S t'))).length:=by rw[List.length_map];omega
     rw[this]
     exact Gh.era_same _ _ _ _
   .show ((s.ob.set fuelTr m _).set fuelTr oid _).get oid=_
    rw[Tr.get_set64 _ _ _ _ hoN,if_pos rfl]
   .rw[Tr.get_set64 _ _ _ _ hoN,if_neg hk,hgv,if_neg hk,lowSt_get,lowSt_get]
    rw[Tr.get_set64 _ _ _ _ hoN,if_neg hk]
    rfl
  .simp at hk
   show ((s.ob.set fuelTr m _).set fuelTr oid _).get k=_
   rw[Tr.get_set_ne _ _ _ _ _ hk.1,Tr.get_set_ne _ _ _ _ _ hk.2.1]
 ·
  rename_i oid m r k y
  split at h
  rotate_left
  .cases h
  rename_i n j l era m' rera t0 rss rera' hob hm0
  split at h
  rotate_left
  .cases h
  rename_i ty tx hats
  split at h
  rotate_left
  .cases h
  rename_i i i' t' new hi hi' hty hsl
  split at h
  .cases h
  .rename_i sz ag bt zz sz' ag' bt' zz' hkd hkd' hnsh
   rcases cond_some h with ⟨hbb,h9⟩|⟨_,h9⟩
   rotate_left
   .cases h9
   clear h
   simp only[Bool.and_eq_true] at hbb
   let ⟨b1,b2,b3,b4,b5,b6,b7⟩:=hbb
   have e1:=beq_iff'.1 b1
   subst e1
   have e2:=beq_iff'.1 b2
   subst e2
   have e3:=beq_iff'.1 b3
   subst e3
   have e4:=tyEq_eq b7
   subst e4
   obtain ⟨rfl,rfl,rfl⟩:=h9
   have hc1:inbN k rss=true∧fewL (elL rss k []) new=true:=by simpa[D.band] using hc
   have hk:=inbN_iff hc1.1
   let ⟨u,v,ha,hu,hv⟩:=args2 hpw
   have hat:cl.argTypes=#[ty,tx]:=by
    apply Array.ext'
    simpa using hats
   let ⟨yy,hyy,hue⟩:=nel_inv hu
   have hm:(lowSt s).ob.get m=some (.rws (S.width t') (rss.map (·.map (enc S t'))) r):=by rw[lowSt_get,hm0];rfl
   let ⟨_,rs0,hrs0,hok⟩:=(hs.rwsNow hm hyy).2.2 k rfl
   have hrs:rs0=(elL rss k []).map (enc S t'):=by
    rw[List.getElem?_map,List.getElem?_eq_getElem hk] at hrs0
    cases hrs0
    simp[elL,hk]
   subst hrs
   let ⟨q,hq,hqp⟩:=slV_low hsl
   let ⟨xi,d1,_,hxi,hu1,_,_,_,_,hk1⟩:=(hEE.ti _ _ hi).all
   let ⟨_,d2,_,_,hu2,_,_,_,_,hk2⟩:=(hEE.ti _ _ hi').all
   rw[hkd'] at hk2
   obtain ⟨e',_,_,_,rfl,_⟩:=hk2
   let ⟨⟨z,hkdz,_⟩,_,_,hpos⟩:=hTy.row _ _ _ hi hty
   rw[hkd] at hkdz
   obtain ⟨rfl,rfl,rfl,rfl⟩:=Kd.slice.inj hkdz
   rw[hkd] at hk1
   obtain ⟨e,ji,d',zv,rfl,hji,hjs,_,_,hjz,hzok,hb4,h0,hb1,hb2,hb0,hzl⟩:=hk1
   have hzs:zv.cells.size=ji.size:=by rw[<-hzok.1,hzl,hjs]
   have hrows:D.rows (new.map (enc S t')) (S.width t'):=rows_map hS new
   have hbys:D.bys (D.app ((elL rss k []).map (enc S t')) (new.map (enc S t'))) (byOf S t'):=by
    rw[app_map]
    exact bys_map hS _
   let ⟨news,hsrc,hvr,hlen⟩:=slT_src hs hq hqp hv hpos hrows (λd hd=>(hbys d (List.mem_append_right _ hd)).2) hu2
   let ⟨ay,cy,hve,_,hyby,hyrest⟩:=slT_cells hs hq hqp hv hpos hrows
   have hcore:=append_core (rt:=o.type) hu1 hu2 hji hjz hzs (hjs▸hpos) hb0 hb4 hb2 hs.imm (hjs▸hok) (λb hb=>(hok.at_ hb).2.elim λvs h=>h.elim λty h=>(Array.getElem?_eq_some_iff.1 h.2).1) (λd hd=>(hbys d hd).1) (hjs▸hrows) (hjs▸hsrc) (hjs▸hvr) (few_map _ hc1.2) (λhne=>by
    obtain ⟨ady,valy,rfl,hyblk,hyc,_⟩:=hyrest hne
    refine ⟨ady,cy,hve,λhat=>?_,λq hq=>?_⟩
    .rcases hyblk with him|⟨o',ho',_⟩
     .exact Bool.noConfusion ((hok.at_ hat).1.2 him)
     .rw[ownV_low] at ho'
      unfold ownV at ho'
      split at ho'
      .exact hnsh _ _ rfl
      .cases ho'
    .rw[hjs] at hq
     have h1:=hyc (q/S.width t') (q%S.width t') (Nat.div_lt_of_lt_mul (by rw[Nat.mul_comm];exact hq)) (Nat.mod_lt _ hpos)
     have hkk:q/S.width t'*S.width t'+q%S.width t'=q:=by rw[Nat.mul_comm];exact Nat.div_add_mod q _
     rw[hkk] at h1
     rw[h1]
     rfl)
   refine append_wp hop hb ha hat (by rw[hue];exact hcore) (λv w' hR=>?_)
   let ⟨y',hp⟩:=hR
   rw[hjs,app_map] at hp
   have hobl:(lowSt s).ob.get oid=some (.nar j (S.width (.st n)) (l.map (enc S (.st n))) era m r none):=by rw[lowSt_get,hob];rfl
   have hoN:oid<bigN:=Nat.le_of_ble_eq_true b6
   let ⟨r1,r2⟩:=hs.bumpRow hobl hm hoN hyy hp (Nat.le_of_ble_eq_true b5)
   refine hK _ v w' (AftV.ofExt hs (s':={s with ob:=(s.ob.set fuelTr m (.rws t' (putL rss k (catL (elL rss k []) new)) (Nat.succ r))).set fuelTr oid (.nar n j l era m (Nat.succ r) (some k)),wr:=oid ::m ::s.wr}) ?_ r2 rfl rfl (Nat.le_refl _) ⟨λ_ h=>List.mem_cons_of_mem _ (List.mem_cons_of_mem _ h),λk' _ hk'=>?_,rfl⟩) ?_
   .have e:lowSt {s with ob:=(s.ob.set fuelTr m (.rws t' (putL rss k (catL (elL rss k []) new)) (Nat.succ r))).set fuelTr oid (.nar n j l era m (Nat.succ r) (some k)),wr:=oid ::m ::s.wr}={lowSt s with ob:=((lowSt s).ob.set fuelTr m (.rws (S.width t') ((rss.map (·.map (enc S t'))).set k ((catL (elL rss k []) new).map (enc S t'))) (r+1))).set fuelTr oid (.nar j (S.width (.st n)) (l.map (enc S (.st n))) era m (r+1) (some k))}:=by
     simp[lowSt,Tr.set_map,lowOb,putL,List.map_set]
    rw[e]
    exact r1
   .simp at hk'
    show ((s.ob.set fuelTr m _).set fuelTr oid _).get k'=_
    rw[Tr.get_set_ne _ _ _ _ _ hk'.1,Tr.get_set_ne _ _ _ _ _ hk'.2.1]
   .rw[hp.val]
    exact .nel _ _ _ _ _ _ y'.sz _ (by rw[Gh.rowEra_new,if_pos rfl])
  .cases h
 .cases h
end
end TL
end
section
namespace TL
open Go
variable {S:Sg}
theorem FrV.get_put (fr:FrV S) (k j:Nat) (v:V S) (h:k<bigN):(fr.put k v).get j=if j=k then some v else fr.get j:=Tr.get_set64 _ _ _ _ h
structure AftW (s:StV S) (g:Gh) (w:World) (s':StV S) (g':Gh) (w':World):Prop where
 rel:SRel g' (lowSt s') w'
 ext:ExtV s.lo s.fl g w g' w'
 fl:s'.fl=s.fl
 lo:s'.lo=s.lo
 nob:s.nob<=s'.nob
 wrm:∀o∈s.wr,o∈s'.wr
 same:∀o,o<s.nob->o∉s'.wr->s'.ob.get o=s.ob.get o
 drm:∀o∈s.dr,o∈s'.dr
theorem AftV.toW {ow:List Nat} {s s':StV S} {g g':Gh} {w w':World} (h:AftV ow s g w s' g' w'):AftW s g w s' g' w':=⟨h.rel,h.ext,h.fl,h.lo,h.nob,h.wrm,h.same,h.drm⟩
theorem AftW.lower {m:Nat} {s s':StV S} {g g':Gh} {w w':World} (h:AftW {s with lo:=m} g w s' g' w') (hm:s.lo<=m):AftW s g w {s' with lo:=s.lo} g' w':=
 ⟨⟨h.rel.nob,h.rel.bnd,h.rel.box,h.rel.arr,h.rel.imm,h.rel.uni,h.rel.glo⟩,⟨h.ext.blk,λo e x ho k=>h.ext.arr o e x (Nat.lt_of_lt_of_le ho hm) k,h.ext.imm,h.ext.size,h.ext.heap,h.ext.own,h.ext.immn,h.ext.os,h.ext.output⟩,h.fl,rfl,h.nob,h.wrm,h.same,h.drm⟩
theorem AftW.refl {s:StV S} {g:Gh} {w:World} (h:SRel g (lowSt s) w):AftW s g w s g w:=(AftV.refl h).toW
theorem AftW.trans {s s' s'':StV S} {g g' g'':Gh} {w w' w'':World} (h:AftW s g w s' g' w') (k:AftW s' g' w' s'' g'' w''):AftW s g w s'' g'' w'':=
 ⟨k.rel,h.ext.trans (h.fl▸h.lo▸k.ext),k.fl.trans h.fl,k.lo.trans h.lo,Nat.le_trans h.nob k.nob,λo ho=>k.wrm o (h.wrm o ho),
  λo ho hno=>(k.same o (Nat.lt_of_lt_of_le ho h.nob) hno).trans (h.same o ho (λhm=>hno (k.wrm o hm))),λo ho=>k.drm o (h.drm o ho)⟩
mutual
theorem mentP_mono {p q:Nat->Bool} (h:∀o,p o=true->q o=true):∀v:V S,mentP p v=true->mentP q v=true
 | .ptr o _,hm=>h o hm
 | .epw o _ _ _,hm=>h o hm
 | .sh o _,hm=>h o hm
 | .mp o,hm=>h o hm
 | .yld o,hm=>h o hm
 | .slb o _,hm=>h o hm
 | .itr o,hm=>h o hm
 | .ub _,hm=>by cases hm
 | .cln _ _ _,hm=>by cases hm
 | .nel o m _ _,hm=>by
  simp[mentP,Bool.or_eq_true] at hm ⊢
  grind
 | .fn _ a b,hm=>by
  simp[mentP,Bool.or_eq_true] at hm ⊢
  exact hm.imp (mentPs_mono h a) (mentPs_mono h b)
 | .ifc _ v,hm=>mentP_mono h v hm
 | .agg cs,hm=>mentPs_mono h cs hm
 | .tup cs,hm=>mentPs_mono h cs hm
 | .gd _ v,hm=>mentP_mono h v hm
 | .ty _ _,hm=>by cases hm
 | .kb _,hm=>by cases hm
 | .kn _ _,hm=>by cases hm
 | .dat _,hm=>by cases hm
 | .ept _ _ _,hm=>by cases hm
 | .emp,hm=>by cases hm
 | .clp _ _ _,hm=>by cases hm
theorem mentPs_mono {p q:Nat->Bool} (h:∀o,p o=true->q o=true):∀l:List (V S),mentPs p l=true->mentPs q l=true
 |[],hm=>by cases hm
 |v ::l,hm=>by
  simp[mentPs,Bool.or_eq_true] at hm ⊢
  exact hm.imp (mentP_mono h v) (mentPs_mono h l)
end
mutual
theorem ments_P (os:List Nat):∀v:V S,ments os v=mentP os.contains v
 | .ptr o _=>rfl
 | .epw o _ _ _=>rfl
 | .sh o _=>rfl
 | .mp o=>rfl
 | .yld o=>rfl
 | .slb o _=>rfl
 | .itr o=>rfl
 | .ub _=>rfl
 | .nel _ _ _ _=>rfl
 | .cln _ _ _=>rfl
 | .fn _ a b=>by simp[ments,mentP,mentsL_P os a,mentsL_P os b]
 | .ifc _ v=>ments_P os v
 | .agg cs=>mentsL_P os cs
 | .tup cs=>mentsL_P os cs
 | .gd _ v=>ments_P os v
 | .ty _ _=>rfl
 | .kb _=>rfl
 | .kn _ _=>rfl
 | .dat _=>rfl
 | .ept _ _ _=>rfl
 | .emp=>rfl
 | .clp _ _ _=>rfl
theorem mentsL_P (os:List Nat):∀l:List (V S),mentsL os l=mentPs os.contains l
 |[]=>rfl
 |v ::l=>by simp[mentsL,mentPs,ments_P os v,mentsL_P os l]
end
theorem outP_mono {dr dr':List Nat} {nob nob':Nat} (h:∀o∈dr,o∈dr') (hn:nob'<=nob) (o:Nat) (hp:outP dr nob o=true):outP dr' nob' o=true:=by
 simp only[outP,Bool.or_eq_true,List.contains_eq_mem,decide_eq_true_eq] at hp ⊢
 grind[Nat.le_of_ble_eq_true,Nat.ble_eq_true_of_le]
mutual
def mentPT (p:Nat->Bool):T->Bool
 | .ptr o _=>p o
 | .epw o _ _ _=>p o
 | .sh o _=>p o
 | .mp o=>p o
 | .yld o=>p o
 | .slb o _=>p o
 | .itr o=>p o
 | .nel o m _ _=>p o||p m
 | .fn _ a b=>mentPTs p a||mentPTs p b
 | .ifc _ v=>mentPT p v
 | .agg cs=>mentPTs p cs
 | .tup cs=>mentPTs p cs
 | .gd _ v=>mentPT p v
 |_=>false
def mentPTs (p:Nat->Bool):List T->Bool
 |[]=>false
 |v ::l=>mentPT p v||mentPTs p l
end
mutual
theorem mentP_low (p:Nat->Bool):∀v:V S,mentPT p (low v)=mentP p v
 | .ty t x=>by
  have:∀l:List D,mentPTs p (l.map .sym)=false:=by
   intro l
   induction l with
   |nil=>rfl
   |cons d l ih=>simp[mentPTs,mentPT,ih]
  cases t<;>simp[low,lowTy,mentP,mentPT,this]
 | .kb _=>rfl
 | .kn _ _=>rfl
 | .dat _=>rfl
 | .ptr _ _=>rfl
 | .ept _ _ _=>rfl
 | .epw _ _ _ _=>rfl
 | .sh _ _=>rfl
 | .emp=>rfl
 | .clp _ _ _=>rfl
 | .fn _ a b=>by simp[low,mentP,mentPT,mentPs_low p a,mentPs_low p b]
 | .ifc _ v=>by simp[low,mentP,mentPT,mentP_low p v]
 | .agg cs=>by simp[low,mentP,mentPT,mentPs_low p cs]
 | .tup cs=>by simp[low,mentP,mentPT,mentPs_low p cs]
 | .gd _ v=>by simp[low,mentP,mentPT,mentP_low p v]
 | .mp _=>rfl
 | .yld _=>rfl
 | .slb _ _=>rfl
 | .itr _=>rfl
 | .ub _=>rfl
 | .nel _ _ _ _=>rfl
 | .cln _ _ _=>rfl
theorem mentPs_low (p:Nat->Bool):∀l:List (V S),mentPTs p (lows l)=mentPs p l
 |[]=>rfl
 |v ::l=>by simp[lows,mentPTs,mentPs,mentP_low p v,mentPs_low p l]
end
theorem mentPTs_mem {p:Nat->Bool}:∀{l:List T},mentPTs p l=false->∀t∈l,mentPT p t=false
 |[],_,t,ht=>by cases ht
 |a ::l,h,t,ht=>by
  simp[mentPTs,Bool.or_eq_false_iff] at h
  rcases List.mem_cons.1 ht with rfl|ht
  .exact h.1
  .exact mentPTs_mem h.2 t ht
structure GhOn (p:Nat->Bool) (g g':Gh):Prop where
 blk:∀o b,p o=false->g.blk o=some b->g'.blk o=some b
 arr:∀o e x,p o=false->g.arr o e=some x->g'.arr o e=some x
 imm:∀b,g.imm b->g'.imm b
theorem TRel.on {p:Nat->Bool} {g g':Gh} {w w':World} (hg:GhOn p g g') (hk:Keeps g.imm w w') {t:T} {v:Value} (h:TRel g w t v) (hm:mentPT p t=false):TRel g' w' t v:=by
 induction h with
 |sym d v hd=>exact .sym d v (hd.mono hk hg.imm)
 |kb b=>exact .kb b
 |kn k n=>exact .kn k n
 |ptr o off b h=>exact .ptr o off b (hg.blk _ _ hm h)
 |ept d off ad val hi hc hd=>exact .ept d off ad val (hg.imm _ hi) (λj c hj=>by rw[hk.cell (by rw[add_block];exact hi)];grind) (λj c hj=>(hd j c hj).mono hk hg.imm)
 |epw o e i off len cap sz ad h=>exact .epw o e i off len cap sz ad (hg.arr _ _ _ hm h)
 |sh o e len cap sz a h=>exact .sh o e len cap sz a (hg.arr _ _ _ hm h)
 |emp a=>exact .emp a
 |clp k es a hn hd=>exact .clp k es a hn (hd.mono hk hg.imm)
 |fn f fs cs va vc hl hm' _ _ ih ih'=>
  simp[mentPT,Bool.or_eq_false_iff] at hm
  exact .fn f fs cs va vc hl hm' (λj t v h1 h2=>ih j t v h1 h2 (mentPTs_mem hm.1 t (List.mem_of_getElem? h1))) (λj t v h1 h2=>ih' j t v h1 h2 (mentPTs_mem hm.2 t (List.mem_of_getElem? h1)))
 |ifc t x v _ ih=>exact .ifc t x v (ih hm)
 |agg cs vs hl _ ih=>exact .agg cs vs hl (λj t v h1 h2=>ih j t v h1 h2 (mentPTs_mem hm t (List.mem_of_getElem? h1)))
 |tup cs vs hl _ ih=>exact .tup cs vs hl (λj t v h1 h2=>ih j t v h1 h2 (mentPTs_mem hm t (List.mem_of_getElem? h1)))
 |gd c t v _ ih=>exact .gd c t v (λhc=>ih hc hm)
 |mp o b h=>exact .mp o b (hg.blk _ _ hm h)
 |yld o b h=>exact .yld o b (hg.blk _ _ hm h)
 |slb o n b h=>exact .slb o n b (hg.blk _ _ hm h)
 |itr o b h=>exact .itr o b (hg.blk _ _ hm h)
 |ub e b h=>exact .ub e b h
 |nel o m r i len cap sz a h=>
  simp[mentPT,Bool.or_eq_false_iff] at hm
  exact .nel o m r i len cap sz a (hg.arr _ _ _ hm.2 h)
 |cln j d c a hj hd=>exact .cln j d c a hj (hd.mono hk hg.imm)
def Gh.base (g:Gh) (p:Nat->Bool):Gh:={g with blk:=λo=>if p o=false then g.blk o else none,arr:=λo e=>if p o=false then g.arr o e else none}
theorem Gh.base_on (g:Gh) (p:Nat->Bool):GhOn p g (g.base p):=
 ⟨λo b h e=>by simp[Gh.base,h,e],λo e x h k=>by simp[Gh.base,h,k],λ_ h=>h⟩
theorem Gh.base_blk {g:Gh} {p:Nat->Bool} {o b:Nat} (h:(g.base p).blk o=some b):p o=false∧g.blk o=some b:=by
 grind[Gh.base]
theorem Gh.base_arr {g:Gh} {p:Nat->Bool} {o e:Nat} {x:ASl} (h:(g.base p).arr o e=some x):p o=false∧g.arr o e=some x:=by
 grind[Gh.base]
theorem Gh.base_owned {g:Gh} {p:Nat->Bool} {k b:Nat} (h:Owned (g.base p) k b):p k=false∧Owned g k b:=by
 obtain ⟨h1,h2|⟨e,x,ad,h2,h3⟩⟩:=h
 .exact ⟨(Gh.base_blk h2).1,h1,.inl (Gh.base_blk h2).2⟩
 .exact ⟨(Gh.base_arr h2).1,h1,.inr ⟨e,x,ad,(Gh.base_arr h2).2,h3⟩⟩
theorem SRel.base {g:Gh} {w:World} {s s0:St} (hs:SRel g s w) {p:Nat->Bool} {nob:Nat} (hp:∀o,nob<=o->p o=true) (h0:s0.nob=nob) (hn:nob<=s.nob)
  (hob:∀o ob,p o=false->s0.ob.get o=some ob->∃ob1,s.ob.get o=some ob1∧LeftObP (mentPT p) ob1 ob):SRel (g.base p) s0 w:=by
 refine ⟨h0▸Nat.le_trans hn hs.nob,λo ho=>?_,λo b hb=>?_,λo e x hx=>?_,hs.imm,λo o' b h h'=>hs.uni o o' b (Gh.base_owned h).2 (Gh.base_owned h').2,hs.glo⟩
 .simp_all[Gh.base]
 .let ⟨hpo,hb'⟩:=Gh.base_blk hb
  let ⟨h1,h2,h3⟩:=hs.box o b hb'
  refine ⟨h1,h2,λob hob2=>?_⟩
  let ⟨ob1,k1,k2⟩:=hob o ob hpo hob2
  let ⟨x,h4,h5⟩:=h3 ob1 k1
  exact ⟨x,h4,h5.left (λt v ht hm=>ht.on (g.base_on p) (λ_ _=>rfl) hm) k2⟩
 .let ⟨hpo,hx'⟩:=Gh.base_arr hx
  let ⟨h1,h2⟩:=hs.arr o e x hx'
  refine ⟨h1,λob hob2=>?_⟩
  let ⟨ob1,k1,k2⟩:=hob o ob hpo hob2
  refine (h2 ob1 k1).left k2 (λh=>h.imm_eq rfl) (λm j y hm h=>?_) (funext λe'=>by simp[Gh.base,if_pos hpo]) (λ_ _ _=>⟨rfl,Iff.rfl⟩)
  have hm:p m=false:=hm
  simp_all[Gh.base]
def SlotsAt (a:Act):Sh->List Value->Prop
 |[],[]=>True
 |(k,.one _) ::l,v ::vs=>a.tmps[k]?=some v∧SlotsAt a l vs
 |(_,.box _) ::l,_ ::vs=>SlotsAt a l vs
 |(_,.hid _) ::l,vs=>SlotsAt a l vs
 |_,_=>False
theorem nth_low {l:List (V S)} {i:Nat} {v:V S} (h:nth l i=some v):(lows l)[i]?=some (low v):=by
 rw[nth_eq] at h
 simp[lows_map,h]
theorem valP_sound {g:Gh} {w:World} {fr:FrV S} {s:StV S} {a:Act} (hf:FRel g (lowFr fr) a w) (hs:SRel g (lowSt s) w):∀{p:Pt} {v:V S},valP fr s p=some v->∃u,TRel g w (low v) u
 | .slot k,v,h=>by
  let ⟨u,_,hr⟩:=hf.tm k (low v) (by rw[lowFr_get,show fr.get k=some v from h];rfl)
  grind
 | .cell p i,v,h=>by
  simp[valP] at h
  split at h
  .rename_i o hp
   let ⟨u,hu⟩:=valP_sound hf hs hp
   split at h
   .rename_i cs ho
    cases hu with
    |ptr _ _ b hb=>
     obtain ⟨vs,ty,hh,hl,hr⟩:=(hs.box o b hb).box (by rw[lowSt_get,ho];rfl)
     have h1:=nth_low h
     have h2:i<vs.size:=by grind
     exact ⟨vs[i],hr i _ _ h1 (Array.getElem?_eq_getElem h2)⟩
   .cases h
  .cases h
 | .cap p i,v,h=>by
  simp[valP] at h
  split at h
  .rename_i f fs cs hp
   let ⟨u,hu⟩:=valP_sound hf hs hp
   cases hu with
   |fn _ _ _ va vc hl hm h1 h2=>
    have k1:=nth_low h
    have k2:i<vc.size:=by grind
    exact ⟨vc[i],h2 i _ _ k1 (Array.getElem?_eq_getElem k2)⟩
  .cases h
 | .rnd p k,v,h=>by
  simp[valP] at h
  split at h
  .rename_i o hp
   let ⟨u,hu⟩:=valP_sound hf hs hp
   split at h
   .rename_i l ho
    cases hu with
    |yld _ b hb=>
     obtain ⟨x,hh,hr⟩:=(hs.box o b hb).2.2 _ (by rw[lowSt_get,ho];rfl)
     cases hr with
     |lp _ r h1 h2 h4 h5 h6 h8 h9=>
      let ⟨u,_,hu⟩:=h9 k (low v) (by
       show (lowFr l.fr).get k=_
       rw[lowFr_get,h]
       rfl)
      grind
   .cases h
  .cases h
theorem objsV_at {g:Gh} {w:World} {fr:FrV S} {s:StV S} {a:Act} (hf:FRel g (lowFr fr) a w) (hs:SRel g (lowSt s) w):∀{sh:Sh} {ps:List Pt} {bs:List Nat},objsV fr s sh ps=some bs->∃bl,PW (λo b=>g.blk o=some b) bs bl
 |[],[],bs,h=>by
  simp only[objsV,Option.some.injEq] at h
  subst h
  exact ⟨[],rfl,λj t v h=>by simp at h⟩
 |(k,.one c) ::l,ps,bs,h=>objsV_at hf hs (sh:=l) (ps:=ps) (by simpa only[objsV] using h)
 |(_,.box k) ::l,p ::ps,bs,h=>by
  simp[objsV] at h
  split at h
  .rename_i v hv
   split at h
   .rename_i o r h1 h2
    simp at h
    subst h
    obtain rfl:=kptr_eq h1
    let ⟨u,hu⟩:=valP_sound hf hs hv
    let ⟨b,hb,_⟩:=kval_inv hu
    let ⟨bl,h3⟩:=objsV_at hf hs h2
    refine ⟨b ::bl,by simp[h3.1],λj o' b' k1 k2=>?_⟩
    cases j with
    |zero=>simp_all
    |succ j=>exact h3.2 j o' b' (by simpa using k1) (by simpa using k2)
   .cases h
  .cases h
 |(_,.hid k) ::l,p ::ps,bs,h=>by
  simp[objsV] at h
  split at h
  .rename_i v hv
   split at h
   .rename_i o r h1 h2
    simp at h
    subst h
    obtain rfl:=kptr_eq h1
    let ⟨u,hu⟩:=valP_sound hf hs hv
    let ⟨b,hb,_⟩:=kval_inv hu
    let ⟨bl,h3⟩:=objsV_at hf hs h2
    refine ⟨b ::bl,by simp[h3.1],λj o' b' k1 k2=>?_⟩
    cases j with
    |zero=>simp_all
    |succ j=>exact h3.2 j o' b' (by simpa using k1) (by simpa using k2)
   .cases h
  .cases h
 |[],_ ::_,_,h=>by simp[objsV] at h
 |(_,.box _) ::_,[],_,h=>by simp[objsV] at h
 |(_,.hid _) ::_,[],_,h=>by simp[objsV] at h
theorem shVs_at {g:Gh} {w:World} {fr:FrV S} {a:Act} (hf:FRel g (lowFr fr) a w):∀{sh:Sh} {bs bl:List Nat} {vs:List (V S)},shVs fr sh bs=some vs->PW (λo b=>g.blk o=some b) bs bl->∃vals,SlotsAt a sh vals∧PW (TRel g w) (lows vs) vals
 |[],[],bl,vs,h,_=>by
  simp only[shVs,Option.some.injEq] at h
  subst h
  exact ⟨[],trivial,rfl,λj t v h=>by grind⟩
 |(k,.one c) ::l,bs,bl,vs,h,hb=>by
  simp[shVs] at h
  split at h
  .rename_i v r h1 h2
   simp at h
   subst h
   let ⟨vals,h3,h4⟩:=shVs_at hf h2 hb
   let ⟨u,hu,hr⟩:=hf.tm k (low v) (by rw[lowFr_get,h1];rfl)
   refine ⟨u ::vals,⟨hu,h3⟩,by simp[lows,List.length_cons,h4.1],λj t v' k1 k2=>?_⟩
   cases j with
   |zero=>grind[lows]
   |succ j=>exact h4.2 j t v' (by simpa[lows] using k1) (by simpa using k2)
  .cases h
 |(_,.box k) ::l,o ::bs,b ::bl,vs,h,hb=>by
  simp[shVs] at h
  split at h
  .rename_i r h2
   simp at h
   subst h
   have hob:g.blk o=some b:=hb.2 0 _ _ rfl rfl
   let ⟨vals,h3,h4⟩:=shVs_at hf h2 (bl:=bl) ⟨by simpa using hb.1,λj o' b' k1 k2=>hb.2 (j+1) o' b' (by simpa using k1) (by simpa using k2)⟩
   refine ⟨kvalue k b ::vals,h3,by simp[lows,List.length_cons,h4.1],λj t v' k1 k2=>?_⟩
   cases j with
   |zero=>grind[lows,kval_rel]
   |succ j=>exact h4.2 j t v' (by simpa[lows] using k1) (by simpa using k2)
  .cases h
 |(_,.box k) ::l,o ::bs,[],vs,h,hb=>absurd hb.1 (by simp)
 |(_,.hid k) ::l,o ::bs,b ::bl,vs,h,hb=>by
  simp[shVs] at h
  let ⟨vals,h3,h4⟩:=shVs_at hf h (bl:=bl) ⟨by simpa using hb.1,λj o' b' k1 k2=>hb.2 (j+1) o' b' (by simpa using k1) (by simpa using k2)⟩
  exact ⟨vals,h3,h4⟩
 |(_,.hid k) ::l,o ::bs,[],vs,h,hb=>absurd hb.1 (by simp)
 |[],_ ::_,_,_,h,_=>by simp[shVs] at h
 |(_,.box _) ::_,[],_,_,h,_=>by simp[shVs] at h
 |(_,.hid _) ::_,[],_,_,h,_=>by simp[shVs] at h
structure PackR (sh:Sh) (bs:List Nat) (a:Act) (g:Gh) (s:StV S) (w:World) (x:pden S.A (shPs sh)) (s2:StV S) (ow:List Nat) (g2:Gh) (vals:List Value) (al:List ASl) (bl:List Nat):Prop where
 rel:SRel g2 (lowSt s2) w
 ext:Ext s.fl g w g2 w
 pr:PRel S g2.imm w (shPs sh) x vals al bl
 at_:SlotsAt a sh vals
 alr:AL g2 al ow
 blr:PW (λo b=>g2.blk o=some b) bs bl
 now:ow.Nodup
 owp:∀o∈ow,s.fl<=o∧s.lo<=o∧o<s.nob
 nbs:bs.Nodup
 bsp:∀o∈bs,s.fl<=o∧o<s.nob∧o∉ow∧∀e,g2.arr o e=none
 fl:s2.fl=s.fl
 lo:s2.lo=s.lo
 nob:s2.nob=s.nob
 wrm:∀o∈s.wr,o∈s2.wr
 same:∀o,o∉s2.wr->s2.ob.get o=s.ob.get o
 dr:s2.dr=s.dr
 ap:Apart al
 owb:∀o∈ow,g.blk o=none
theorem packSt_sound (hS:SgOk S) {g:Gh} {w:World} {s s2:StV S} {a:Act} {fr:FrV S} (hf:FRel g (lowFr fr) a w) (hs:SRel g (lowSt s) w) {sh:Sh} {bs ow:List Nat} {x:pden S.A (shPs sh)} {bl0:List Nat} (hbl0:PW (λo b=>g.blk o=some b) bs bl0) (h:packSt sh bs fr s=some (x,s2,ow)) :
  ∃g2 vals al bl,PackR sh bs a g s w x s2 ow g2 vals al bl:=by
 unfold packSt at h
 split at h
 .cases h
 rename_i vs hvs
 split at h
 .cases h
 rename_i x' fz ow' bs' hpk
 split at h
 .cases h
 rename_i s1 hfz
 rcases cond_some h with ⟨hb,h2⟩|⟨_,h2⟩
 rotate_left
 .cases h2
 clear h
 simp only[Bool.and_eq_true] at hb
 simp at h2
 obtain ⟨rfl,rfl,rfl⟩:=h2
 let ⟨vals,hat,hpw⟩:=shVs_at hf hvs hbl0
 have hnow:=nodupN_iff hb.1
 have hap:=apartN_iff hb.2.1
 have hnbs:=nodupN_iff hb.2.2.1
 have hbb:bs'=bs:=by
  have h1:bs'.length=bs.length:=by
   have:=beq_iff'.1 hb.2.2.2.1
   rwa [lenL_eq,lenL_eq] at this
  have h2:=hb.2.2.2.2
  clear hb hpk hnbs hvs hbl0
  induction bs' generalizing bs with
  |nil=>cases bs with
   |nil=>rfl
   |cons=>simp at h1
  |cons c cs ih=>cases bs with
   |nil=>simp at h1
   |cons d ds=>
    simp only[List.zip_cons_cons,List.all_cons,Bool.and_eq_true] at h2
    rw[beq_iff'.1 h2.1,ih (by simpa using h1) h2.2]
 subst hbb
 let ⟨p1,p2,p4,p3⟩:=packPs_sound hS hs hpk hpw (λo ho=>by cases ho)
 have hfl:=freezeV_low hS _ hfz
 let ⟨g1,hs1,he1,hfr⟩:=freeze_sound fz hs hfl p1
 let ⟨f1,f2,f3,f4,f5,f6,f7⟩:=freezeV_st hfz
 let ⟨al,bl,hprel,hal,hbl⟩:=p3 g1 (lowSt s1) fz hs1 he1 hfr (λo ho=>ho) (λo ho=>by rw[lowSt_get,lowSt_get,f6 o (hap o ho)])
 have hbox1:∀o∈bs',∃ob,s1.ob.get o=some ob∧s.ob.get o=some ob∧plainOb ob=true:=by
  intro o ho
  let ⟨_,vs',hvs,hpl⟩:=p4 o ho
  have hnf:o∉fz:=λhm=>by
   have:=(p1 o hm).isArr (by rw[lowSt_get,hvs];rfl)
   rw[plain_isArr hpl] at this
   cases this
  exact ⟨vs',by rw[f6 o hnf];exact hvs,hvs,hpl⟩
 have hblk:∀o∈bs',∃b,g1.blk o=some b:=by
  intro o ho
  obtain ⟨j,hj,rfl⟩:=List.getElem_of_mem ho
  have hj':j<bl.length:=by have:=hbl.1;omega
  exact ⟨bl[j],hbl.2 j _ _ (List.getElem?_eq_getElem hj) (List.getElem?_eq_getElem hj')⟩
 refine ⟨g1,vals,al,bl,hs1,he1,hprel,hat,hal,hbl,hnow,λo ho=>⟨(p2 o ho).1,(p2 o ho).2.1,(p2 o ho).2.2.1⟩,hnbs,λo ho=>?_,f1,f2,f3,f4,f5,f7,hal.apart hs1 hnow hprel.notImm,λo ho=>?_⟩
 rotate_left
 .let ⟨_,_,_,oba,hx,hB⟩:=p2 o ho
  exact hs.noBlk ((lowSt_get s o).trans (by rw[hx];rfl)) (arrB_isArr hB)
 let ⟨vs',hv1,hv2,hpl⟩:=hbox1 o ho
 refine ⟨(p4 o ho).1,?_,λhm=>?_,λe=>?_⟩
 .let ⟨b,hb⟩:=hblk o ho
  have:=hs1.lt hb
  have e1:(lowSt s1).nob=s1.nob:=rfl
  omega
 .let ⟨_,_,_,oba,hx,hB⟩:=p2 o hm
  rw[hv2] at hx
  cases hx
  have:=arrB_isArr hB
  rw[plain_isArr hpl] at this
  cases this
 .cases hx:g1.arr o e with
  |none=>rfl
  |some x'=>
   exfalso
   let ⟨_,h2⟩:=hs1.arr o e x' hx
   exact plain_at hpl (h2 _ (by rw[lowSt_get,hv1];rfl))
def isOb:Pk->Bool|.one _=>false|_=>true
structure HeadR (ex:List Nat) (sh:Sh) (bs:List Nat) (a:Act) (gb:Gh) (fr0:FrV S) (s0:StV S) (w:World) (al:List ASl) (gh:Gh) (frh:FrV S) (sth:StV S):Prop where
 rel:SRel gh (lowSt sth) w
 fr:FRel gh (lowFr frh) a w
 le:GhLe gb gh
 imm:gh.imm=gb.imm
 own:∀k b,Owned gh k b->Owned gb k b∨(s0.nob<=k∧∃a∈al,a.at b)
 fl:sth.fl=s0.fl
 lo:sth.lo=s0.lo
 nob:s0.nob<=sth.nob
 wr:sth.wr=s0.wr
 dr:sth.dr=s0.dr
 ob:∀o,o<s0.nob->o∉bs->sth.ob.get o=s0.ob.get o
 blk:gh.blk=gb.blk
 arr:∀o,o<s0.nob->∀e,gh.arr o e=gb.arr o e
 n:frh.n=fr0.n
 dfs:frh.df=fr0.df
 get:∀k,k∉ex->(∀p∈sh,p.1=k->isOb p.2=true)->frh.get k=fr0.get k
theorem headV_sound {a:Act} {w:World}:∀{sh:Sh} {bs:List Nat} {x:pden S.A (shPs sh)} {vals:List Value} {al:List ASl} {bl:List Nat} {gb:Gh} {fr0 frh:FrV S} {s0 sth:StV S},headV sh bs x fr0 s0=some (frh,sth)->fr0.n<=bigN->
  PRel S gb.imm w (shPs sh) x vals al bl->SlotsAt a sh vals->PW (λo b=>gb.blk o=some b) bs bl->(∀o∈bs,∀e,gb.arr o e=none)->(∀a∈al,∀b,a.at b->∀o,¬Owned gb o b)->Apart al->FRel gb (lowFr fr0) a w->SRel gb (lowSt s0) w->
  ∃gh,HeadR [] sh bs a gb fr0 s0 w al gh frh sth:=by
 intro sh
 induction sh with
 |nil=>
  intro bs x vals al bl gb fr0 frh s0 sth h hn hp hat hbl hna hfr hap hf hs
  cases bs with
  |nil=>
   obtain ⟨rfl,rfl⟩:=h
   exact ⟨gb,hs,hf,GhLe.refl _,rfl,λ_ _ h=>.inl h,rfl,rfl,Nat.le_refl _,rfl,rfl,λ_ _ _=>rfl,rfl,λ_ _ _=>rfl,rfl,rfl,λ_ _ _=>rfl⟩
  |cons o bs=>simp[headV] at h
 |cons q sh ih=>
  intro bs x vals al bl gb fr0 frh s0 sth h hn hp hat hbl hna hfr hap hf hs
  let ⟨k,pk⟩:=q
  cases pk with
  |one c=>
   cases hp with
   | @one _ _ x1 xr v vs al1 al2 bl h1 h2=>
   let ⟨hv,hat⟩:=hat
   rcases cond_some h with ⟨hb,h⟩|⟨_,h⟩
   rotate_left
   .cases h
   simp only[Bool.and_eq_true] at hb
   have hk:k<fr0.n:=Nat.le_of_ble_eq_true hb.1
   have hnb:(unC s0 c x1).2.nob<=bigN:=Nat.le_of_ble_eq_true hb.2
   have hap':=List.pairwise_append.1 hap
   let ⟨g1,hu,hpw⟩:=unCs_sound (cs:=[c]) (x:=(x1,())) h1 hs (λa ha=>hfr a (List.mem_append_left _ ha)) hap'.1 (by simpa[unCs] using hnb)
   have e1:(unCs s0 [c] (x1,())).1=[(unC s0 c x1).1]:=rfl
   have e2:(unCs s0 [c] (x1,())).2=(unC s0 c x1).2:=rfl
   have hv1:TRel g1 w (low (unC s0 c x1).1) v:=hpw.2 0 _ _ rfl rfl
   have hf1:FRel g1 (lowFr (fr0.put k (unC s0 c x1).1)) a w:=by
    refine ⟨hf.size,hf.df.imp (λ_ _ ht=>ht.le hu.le) hu.le.blk,λj t hj=>?_⟩
    rw[lowFr_get,FrV.get_put _ _ _ _ (Nat.lt_of_lt_of_le hk hn)] at hj
    by_cases hjk:j=k
    .simp_all
    .rw[if_neg hjk] at hj
     let ⟨u,hu',hr⟩:=hf.tm j t (by rw[lowFr_get];exact hj)
     exact ⟨u,hu',hr.le hu.le⟩
   let ⟨gh,hh⟩:=ih (gb:=g1) h (by simpa[FrV.put] using hn) (hu.imm▸h2) hat (by rw[hu.blk];exact hbl) (λo ho e=>by
     have hol:o<s0.nob:=by
      obtain ⟨j,hj,rfl⟩:=List.getElem_of_mem ho
      have hj':j<bl.length:=by have:=hbl.1;omega
      exact hs.lt (hbl.2 j _ _ (List.getElem?_eq_getElem hj) (List.getElem?_eq_getElem hj'))
     rw[hu.arr o hol]
     grind) (λa ha b hb o hO=>by
     rcases hu.own o b hO with hO|⟨_,a2,ha2,hb2⟩
     .grind
     grind) hap'.2.1 hf1 hu.rel
   refine ⟨gh,hh.rel,hh.fr,hu.le.trans hh.le,hh.imm.trans hu.imm,λk' b hO=>?_,hh.fl.trans hu.fl,hh.lo.trans hu.lo,Nat.le_trans hu.nob hh.nob,hh.wr.trans hu.wr,hh.dr.trans hu.dr,λo ho hno=>?_,hh.blk.trans hu.blk,λo ho e=>?_,hh.n,hh.dfs,λj hex hj=>?_⟩
   .rcases hh.own k' b hO with hO|⟨k1,a',k2,k3⟩
    .rcases hu.own k' b hO with hO|⟨k1,a',k2,k3⟩
     .exact .inl hO
     grind
    .exact .inr ⟨Nat.le_trans hu.nob k1,a',List.mem_append_right _ k2,k3⟩
   .rw[hh.ob o (Nat.lt_of_lt_of_le ho hu.nob) hno]
    exact hu.ob o ho
   .rw[hh.arr o (Nat.lt_of_lt_of_le ho hu.nob)]
    exact hu.arr o ho e
   .rw[hh.get j hex (λp hp=>hj p (List.mem_cons_of_mem _ hp)),FrV.get_put _ _ _ _ (Nat.lt_of_lt_of_le hk hn),if_neg]
    intro hjk
    cases hj (k,.one c) List.mem_cons_self hjk.symm
  |box kd=>
   cases hp with
   | @box _ _ x1 xr b hx vs al1 al2 bl hhp h1 h2=>
   cases bs with
   |nil=>exact absurd hbl.1 (by simp)
   |cons o bs=>
   rcases cond_some h with ⟨hb,h⟩|⟨_,h⟩
   rotate_left
   .cases h
   have hnb:(unK s0 (headN bs) kd x1).2.nob<=bigN:=Nat.le_of_ble_eq_true hb
   have hap':=List.pairwise_append.1 hap
   have hob:gb.blk o=some b:=hbl.2 0 _ _ rfl rfl
   let ⟨g1,hu,hpw1⟩:=unK_sound h1 (headN_pw (bs:=bs) (bl:=bl) ⟨by simpa using hbl.1,λj a c k1 k2=>hbl.2 (j+1) a c (by simpa using k1) (by simpa using k2)⟩) hs (λa ha=>hfr a (List.mem_append_left _ ha)) hap'.1 hnb
   have hol:o<s0.nob:=hs.lt hob
   have hk:=hu.rel.know (o:=o) (b:=b) (by rw[hu.blk];exact hob) hhp hpw1 (λe=>by rw[hu.arr o hol];simp_all)
   have hk2:SRel g1 (lowSt {(unK s0 (headN bs) kd x1).2 with ob:=(unK s0 (headN bs) kd x1).2.ob.set fuelTr o (unK s0 (headN bs) kd x1).1}) w:=by
    have:=lowSt_set (unK s0 (headN bs) kd x1).2 o (unK s0 (headN bs) kd x1).1 (unK s0 (headN bs) kd x1).2.wr
    simp_all
   have hf1:FRel g1 (lowFr fr0) a w:=⟨hf.size,hf.df.imp (λ_ _ ht=>ht.le hu.le) hu.le.blk,λj t hj=>by
    let ⟨u,hu',hr⟩:=hf.tm j t hj
    exact ⟨u,hu',hr.le hu.le⟩⟩
   let ⟨gh,hh⟩:=ih (bs:=bs) (bl:=bl) (gb:=g1) h hn (hu.imm▸h2) hat ⟨by simpa using hbl.1,λj a' c k1 k2=>by rw[hu.blk];exact hbl.2 (j+1) a' c (by simpa using k1) (by simpa using k2)⟩
    (λo' ho' e=>by
     have hol':o'<s0.nob:=by
      obtain ⟨j,hj,rfl⟩:=List.getElem_of_mem ho'
      have hj':j<bl.length:=by have:=hbl.1;grind
      exact hs.lt (hbl.2 (j+1) bs[j] bl[j] (by simp) (by simp))
     rw[hu.arr o' hol']
     simp_all) (λa ha b hb o hO=>by
     rcases hu.own o b hO with hO|⟨_,a2,ha2,hb2⟩
     .grind
     grind) hap'.2.1 hf1 hk2
   refine ⟨gh,hh.rel,hh.fr,hu.le.trans hh.le,hh.imm.trans hu.imm,λk' b hO=>?_,hh.fl.trans hu.fl,hh.lo.trans hu.lo,Nat.le_trans hu.nob hh.nob,hh.wr.trans hu.wr,hh.dr.trans hu.dr,λo' ho' hno=>?_,hh.blk.trans hu.blk,λo' ho' e=>?_,hh.n,hh.dfs,λj hex hj=>?_⟩
   .rcases hh.own k' b hO with hO|⟨k1,a',k2,k3⟩
    .rcases hu.own k' b hO with hO|⟨k1,a',k2,k3⟩
     .exact .inl hO
     grind
    .exact .inr ⟨Nat.le_trans hu.nob k1,a',List.mem_append_right _ k2,k3⟩
   .have hne:o'≠o:=λe=>hno (by simp_all)
    rw[hh.ob o' (Nat.lt_of_lt_of_le ho' hu.nob) (λhm=>hno (List.mem_cons_of_mem _ hm))]
    rw[Tr.get_set_ne _ _ _ _ _ hne]
    exact hu.ob o' ho'
   .rw[hh.arr o' (Nat.lt_of_lt_of_le ho' hu.nob)]
    exact hu.arr o' ho' e
   .exact hh.get j hex (λp hp=>hj p (List.mem_cons_of_mem _ hp))
  |hid kd=>
   cases hp with
   | @hid _ _ x1 xr b hx vs al1 al2 bl hhp h1 h2=>
   cases bs with
   |nil=>exact absurd hbl.1 (by simp)
   |cons o bs=>
   rcases cond_some h with ⟨hb,h⟩|⟨_,h⟩
   rotate_left
   .cases h
   have hnb:(unK s0 (headN bs) kd x1).2.nob<=bigN:=Nat.le_of_ble_eq_true hb
   have hap':=List.pairwise_append.1 hap
   have hob:gb.blk o=some b:=hbl.2 0 _ _ rfl rfl
   let ⟨g1,hu,hpw1⟩:=unK_sound h1 (headN_pw (bs:=bs) (bl:=bl) ⟨by simpa using hbl.1,λj a c k1 k2=>hbl.2 (j+1) a c (by simpa using k1) (by simpa using k2)⟩) hs (λa ha=>hfr a (List.mem_append_left _ ha)) hap'.1 hnb
   have hol:o<s0.nob:=hs.lt hob
   have hk:=hu.rel.know (o:=o) (b:=b) (by rw[hu.blk];exact hob) hhp hpw1 (λe=>by rw[hu.arr o hol];simp_all)
   have hk2:SRel g1 (lowSt {(unK s0 (headN bs) kd x1).2 with ob:=(unK s0 (headN bs) kd x1).2.ob.set fuelTr o (unK s0 (headN bs) kd x1).1}) w:=by
    have:=lowSt_set (unK s0 (headN bs) kd x1).2 o (unK s0 (headN bs) kd x1).1 (unK s0 (headN bs) kd x1).2.wr
    simp_all
   have hf1:FRel g1 (lowFr fr0) a w:=⟨hf.size,hf.df.imp (λ_ _ ht=>ht.le hu.le) hu.le.blk,λj t hj=>by
    let ⟨u,hu',hr⟩:=hf.tm j t hj
    exact ⟨u,hu',hr.le hu.le⟩⟩
   let ⟨gh,hh⟩:=ih (bs:=bs) (bl:=bl) (gb:=g1) h hn (hu.imm▸h2) hat ⟨by simpa using hbl.1,λj a' c k1 k2=>by rw[hu.blk];exact hbl.2 (j+1) a' c (by simpa using k1) (by simpa using k2)⟩
    (λo' ho' e=>by
     have hol':o'<s0.nob:=by
      obtain ⟨j,hj,rfl⟩:=List.getElem_of_mem ho'
      have hj':j<bl.length:=by have:=hbl.1;grind
      exact hs.lt (hbl.2 (j+1) bs[j] bl[j] (by simp) (by simp))
     rw[hu.arr o' hol']
     simp_all) (λa ha b hb o hO=>by
     rcases hu.own o b hO with hO|⟨_,a2,ha2,hb2⟩
     .grind
     grind) hap'.2.1 hf1 hk2
   refine ⟨gh,hh.rel,hh.fr,hu.le.trans hh.le,hh.imm.trans hu.imm,λk' b hO=>?_,hh.fl.trans hu.fl,hh.lo.trans hu.lo,Nat.le_trans hu.nob hh.nob,hh.wr.trans hu.wr,hh.dr.trans hu.dr,λo' ho' hno=>?_,hh.blk.trans hu.blk,λo' ho' e=>?_,hh.n,hh.dfs,λj hex hj=>?_⟩
   .rcases hh.own k' b hO with hO|⟨k1,a',k2,k3⟩
    .rcases hu.own k' b hO with hO|⟨k1,a',k2,k3⟩
     .exact .inl hO
     grind
    .exact .inr ⟨Nat.le_trans hu.nob k1,a',List.mem_append_right _ k2,k3⟩
   .have hne:o'≠o:=λe=>hno (by simp_all)
    rw[hh.ob o' (Nat.lt_of_lt_of_le ho' hu.nob) (λhm=>hno (List.mem_cons_of_mem _ hm))]
    rw[Tr.get_set_ne _ _ _ _ _ hne]
    exact hu.ob o' ho'
   .rw[hh.arr o' (Nat.lt_of_lt_of_le ho' hu.nob)]
    exact hu.arr o' ho' e
   .exact hh.get j hex (λp hp=>hj p (List.mem_cons_of_mem _ hp))
theorem outP_false {ow:List Nat} {nob o:Nat} (h:outP ow nob o=false):o∉ow∧o<nob:=by
 grind[outP,Nat.ble_eq_true_of_le]
theorem outP_of {ow:List Nat} {nob o:Nat} (h1:o∉ow) (h2:o<nob):outP ow nob o=false:=by
 simp[outP,Bool.or_eq_false_iff,List.contains_eq_mem,decide_eq_false_iff_not]
 refine ⟨h1,?_⟩
 cases h:Nat.ble nob o with
 |false=>rfl
 |true=>have:=Nat.le_of_ble_eq_true h;omega
theorem mentP_sub {p q:Nat->Bool} {v:V S} (h:mentP p v=true) (hq:mentP q v=false):∃o,p o=true∧q o=false:=by
 rcases Classical.em (∃o,p o=true∧q o=false) with h1|h1
 .exact h1
 grind[mentP_mono]
theorem dels_get {ds:List Nat} {_n:Nat} (hd:∀d∈ds,d<bigN) (t:Tr (V S)) (j:Nat):(ds.foldl (λt k=>t.del fuelTr k) t).get j=if j∈ds then none else t.get j:=Tr.get_dels ds t j hd
theorem cleanPV_left (p:Nat->Bool) (v:V S):LeftT (mentPT p) (low v) (low (cleanPV p v)):=by
 cases hm:mentP p v with
 |true=>exact .inr ⟨_,by simp[cleanPV,hm,cond_true];rfl⟩
 |false=>exact .inl ⟨by simp[cleanPV,hm,cond_false],by rw[mentP_low];exact hm⟩
theorem cleanPV_again (p:Nat->Bool) (v:V S):LeftT (mentPT p) (low (cleanPV p v)) (low (cleanPV p v)):=by
 cases hm:mentP p v with
 |true=>exact .inr ⟨_,by simp[cleanPV,hm,cond_true];rfl⟩
 |false=>exact .inl ⟨rfl,by simp_all[cleanPV,mentP_low]⟩
theorem tyP_left (p:Nat->Bool) (t:Ty) (x:den S.A t):LeftT (mentPT p) (lowTy S t x) (lowTy S t x):=.inl ⟨rfl,mentP_low (S:=S) p (.ty t x)⟩
theorem map_left (p:Nat->Bool) (kt vt:Ty) (l:List (den S.A kt×den S.A vt)):LeftObP (mentPT p) (lowOb (.map kt vt l:ObV S)) (lowOb (.map kt vt l)):=by
 refine ⟨rfl,λj t u h1 h2=>?_⟩
 rw[h1] at h2
 cases h2
 simp only[List.getElem?_map,Option.map_eq_some_iff] at h1
 obtain ⟨q,_,rfl⟩:=h1
 grind[tyP_left]
theorem lp_left {p:Nat->Bool} {f:V S->V S} (l:LpV S) (t0:Tr (V S)) (hf:∀v,t0.get=t0.get->LeftT (mentPT p) (low v) (low (f v))) :
  LeftObP (mentPT p) (lowOb (.lp {l with fr:={l.fr with tm:=t0}})) (lowOb (.lp {l with fr:={l.fr with tm:=t0.mapA f}})):=by
 refine ⟨rfl,rfl,λk u hk=>?_⟩
 have hk':((t0.mapA f).map low).get k=some u:=hk
 rw[Tr.get_map,Tr.get_mapA,Option.map_map,Option.map_eq_some_iff] at hk'
 obtain ⟨v,hv,rfl⟩:=hk'
 exact ⟨low v,by show (t0.map low).get k=_;rw[Tr.get_map,hv];rfl,hf v rfl⟩
theorem cleanPOb_spec (p:Nat->Bool) (ob:ObV S):LeftObP (mentPT p) (lowOb ob) (lowOb (cleanPOb p ob)):=by
 cases ob with
 |box cs=>
  refine ⟨by simp[lows_len],λj t u h1 h2=>?_⟩
  simp only[lows_map,List.getElem?_map,Option.map_eq_some_iff] at h1 h2
  obtain ⟨v,hv,rfl⟩:=h1
  obtain ⟨v',⟨v'',hv'',rfl⟩,rfl⟩:=h2
  grind[cleanPV_left]
 |map kt vt l=>exact map_left p kt vt l
 |mpv kt l=>
  refine ⟨by simp,λj t u h1 h2=>?_⟩
  simp only[List.getElem?_map,Option.map_eq_some_iff] at h1 h2
  obtain ⟨v,hv,rfl⟩:=h1
  obtain ⟨v',⟨v'',hv'',rfl⟩,rfl⟩:=h2
  grind[tyP_left,cleanPV_left]
 |lp l=>exact lp_left l l.fr.tm λv _=>cleanPV_left p v
 |arr=>rfl
 |frz=>rfl
 |sit=>rfl
 |dfr=>rfl
 |lpd=>rfl
 |rws=>rfl
 |gone=>rfl
 |mks=>rfl
 |nar n j l era m rera hole=>
  cases hm:p m with
  |true=>exact .inr (by simp[cleanPOb,hm,cond_true];rfl)
  |false=>exact .inl ⟨by simp[cleanPOb,hm,cond_false];rfl,hm⟩
 |bbf=>rfl
 |bld ty m=>
  cases hm:p m with
  |true=>exact .inr ⟨_,_,by simp only[cleanPOb,hm,cond_true];rfl⟩
  |false=>exact .inl ⟨by simp only[cleanPOb,hm,cond_false];rfl,hm⟩
theorem cleanPOb_twice (p:Nat->Bool) (ob:ObV S):LeftObP (mentPT p) (lowOb (cleanPOb p ob)) (lowOb (cleanPOb p ob)):=by
 cases ob with
 |box cs=>
  refine ⟨rfl,λj t u h1 h2=>?_⟩
  rw[h1] at h2
  cases h2
  simp only[lows_map,List.getElem?_map,Option.map_eq_some_iff] at h1
  obtain ⟨v',⟨v,hv,rfl⟩,rfl⟩:=h1
  exact cleanPV_again p v
 |map kt vt l=>exact map_left p kt vt l
 |mpv kt l=>
  refine ⟨rfl,λj t u h1 h2=>?_⟩
  rw[h1] at h2
  cases h2
  simp only[List.getElem?_map,Option.map_eq_some_iff] at h1
  obtain ⟨v',⟨v,hv,rfl⟩,rfl⟩:=h1
  grind[tyP_left,cleanPV_again]
 |lp l=>
  refine ⟨rfl,rfl,λk u hk=>?_⟩
  refine ⟨u,hk,?_⟩
  have hk':((l.fr.tm.mapA (cleanPV p)).map low).get k=some u:=hk
  rw[Tr.get_map,Tr.get_mapA,Option.map_map,Option.map_eq_some_iff] at hk'
  obtain ⟨v,hv,rfl⟩:=hk'
  exact cleanPV_again p v
 |arr=>rfl
 |frz=>rfl
 |sit=>rfl
 |dfr=>rfl
 |lpd=>rfl
 |rws=>rfl
 |gone=>rfl
 |mks=>rfl
 |nar n j l era m rera hole=>
  cases hm:p m with
  |true=>simp[cleanPOb,hm,cond_true];rfl
  |false=>
   simp[cleanPOb,hm,cond_false]
   exact .inl ⟨rfl,hm⟩
 |bbf=>rfl
 |bld ty m=>
  cases hm:p m with
  |true=>
   simp only[cleanPOb,hm,cond_true]
   refine ⟨rfl,λj t u h1 h2=>?_⟩
   rw[h1] at h2
   cases h2
   match j with
   |0=>cases h1;exact .inr ⟨_,rfl⟩
   |1=>cases h1;exact .inr ⟨_,rfl⟩
   |j+2=>simp[lows] at h1
  |false=>
   simp only[cleanPOb,hm,cond_false]
   exact .inl ⟨rfl,hm⟩
theorem cleanPV_id {p:Nat->Bool} {v:V S} (h:mentP p v=false):cleanPV p v=v:=by simp[cleanPV,h,cond_false]
theorem cleanPOb_id {p:Nat->Bool} {ob:ObV S} (h:obMentP p ob=false):cleanPOb p ob=ob:=by
 cases ob with
 |box cs=>
  simp[cleanPOb,ObV.box.injEq]
  have hmem:∀{l:List (V S)},mentPs p l=false->∀v∈l,mentP p v=false:=by
   intro l
   induction l with
   |nil=>intro _ v hv;cases hv
   |cons a l ih=>
    intro h v hv
    simp[mentPs,Bool.or_eq_false_iff] at h
    rcases List.mem_cons.1 hv with rfl|hv
    .exact h.1
    .exact ih h.2 v hv
  have:∀v∈cs,cleanPV p v=v:=λv hv=>cleanPV_id (hmem h v hv)
  exact (List.map_congr_left this).trans (List.map_id _)
 |mpv kt l=>
  simp only[cleanPOb]
  have hmem:∀{l:List (den S.A kt×V S)},mentPp p l=false->∀v∈l,mentP p v.2=false:=by
   intro l
   induction l with
   |nil=>intro _ v hv;cases hv
   |cons a l ih=>
    intro h v hv
    simp[mentPp,Bool.or_eq_false_iff] at h
    rcases List.mem_cons.1 hv with rfl|hv
    .exact h.1
    .exact ih h.2 v hv
  have:∀q∈l,((q.1,cleanPV p q.2):den S.A kt×V S)=q:=λq hq=>by rw[cleanPV_id (hmem h q hq)]
  rw[(List.map_congr_left this).trans (List.map_id _)]
 |lp l=>
  simp[cleanPOb,mapA_id (λv=>cleanPV_id) (show mentsTr (mentP p) l.fr.tm=false from h)]
 |nar n j l era m rera hole=>
  have h:p m=false:=h
  simp[cleanPOb,h,cond_false]
 |bld ty m=>
  have h:p m=false:=h
  simp[cleanPOb,h,cond_false]
 |_=>rfl
section
variable {bs ow ds:List Nat} {fr:FrV S} {s1:StV S}
theorem base_get (hbs:∀b∈bs,b<bigN) (o:Nat):(baseOf ds ow bs fr s1).2.ob.get o=if o∈bs then none else (s1.ob.get o).map (cleanPOb (outP ow s1.nob)):=by
 show (bs.foldl (λt o=>t.del fuelTr o) (s1.ob.mapA _)).get o=_
 rw[Tr.get_dels bs _ o hbs,Tr.get_mapA]
end
theorem initTmV_low:∀(l:List (V S)) (k:Nat) (t:Tr (V S)),(initTmV l k t).map low=initTm (lows l) k (t.map low)
 |[],_,_=>rfl
 |a ::l,k,t=>by
  simp only[initTmV,lows,initTm]
  rw[initTmV_low l,Tr.set_map]
theorem init_frel {g:Gh} {w:World} {n:Nat} (hn:n<bigN) {args:List (V S)} {vs:Array Value} (hl:args.length<=n) (hpw:PW (TRel g w) (lows args) vs.toList) :
  FRel g (lowFr {n:=n,tm:=initTmV args 0 .nil}) {tmps:=vs++Array.replicate (n-vs.size) undef,defers:=[]} w:=by
 have hal:(lows args).length=vs.size:=by simpa using hpw.1
 have hal':args.length=vs.size:=by rw[<-hal,lows_len]
 refine ⟨by simp[lowFr];omega,.nil,λj t hj=>?_⟩
 have e:(lowFr {n:=n,tm:=initTmV args 0 .nil}).get j=(initTm (lows args) 0 .nil).get j:=by
  show ((initTmV args 0 .nil).map low).get j=_
  rw[initTmV_low]
  rfl
 rw[e,initTm_get _ _ _ (by omega)] at hj
 split at hj
 .rename_i hlt
  refine ⟨vs[j],?_,hpw.2 j t _ hj (by simp)⟩
  grind
 .cases hj
end TL
end
section
namespace TL
open Go
variable {S:Sg}
def CallPostW (s:StV S) (g:Gh) (w:World) {ω:Type} (k kp:V S->StV S->Option ω) (r:ω):Ending->World->Prop
 | .returned v,w'=>∃t s' g',k t s'=some r∧TRel g' w' (low t) v∧AftW s g w s' g' w'
 | .panicked chain,w'=>∃v t s' g',chain=[{v,recovered:=false}]∧kp t s'=some r∧TRel g' w' (low t) v∧AftW s g w s' g' w'
 | .outgrown,_=>False
def JnOk (P:Program) (call:CallV S):Prop:=∀(f:FuncId) (args:List (V S)) (s:StV S) {ω:Type} (k kp:V S->StV S->Option ω) (r:ω),call (.jn f) args s k kp=some r->∀(g:Gh) (w:World) (vs:Array Value),SRel g (lowSt s) w->PW (TRel g w) (lows args) vs.toList->
  Enters P f∧Calls P f vs w (CallPostW s g w k kp r)
theorem le_maxN:∀{l:List Nat} {o:Nat},o∈l->o<=maxN l
 |[],_,h=>by cases h
 |a ::l,o,h=>by
  simp[maxN]
  rcases List.mem_cons.1 h with rfl|h
  .cases hb:Nat.ble (maxN l) o with
   |true=>grind
   |false=>
    grind[Nat.ble_eq_true_of_le]
  .have:=le_maxN h
   cases hb:Nat.ble (maxN l) a with
   |true=>exact Nat.le_trans this (Nat.le_of_ble_eq_true hb)
   |false=>exact this
theorem notP_false {l:List Nat} {o:Nat}:notP l o=false↔o∈l:=by simp[notP]
theorem keepT_some {t:Tr (ObV S)}:∀{l:List Nat},(∀o∈l,o<bigN)->∀{o:Nat},(keepT t l).get o=if o∈l then t.get o else none
 |[],_,o=>by rfl
 |a ::l,h,o=>by
  have ih:=keepT_some (t:=t) (l:=l) (λo ho=>h o (List.mem_cons_of_mem _ ho)) (o:=o)
  have ha:=h a List.mem_cons_self
  simp only[keepT]
  by_cases e:o=a
  .subst e
   rw[if_pos List.mem_cons_self]
   cases hx:t.get o with
   |none=>
    simp_all
   |some x=>
    simp only
    rw[Tr.get_set64 _ _ _ _ ha,if_pos rfl]
  .cases hx:t.get a with
   |none=>simp_all
   |some x=>
    simp_all[Tr.get_set64]
theorem mentT_P (os:List Nat) (t:T):mentPT os.contains t=mentT os t:=by
 induction t using T.rec (motive_2:=λl=>mentPTs os.contains l=mentTs os l) with
 |fn f a b iha ihb=>simp[mentT,mentPT,iha,ihb]
 |ifc t v ih=>simpa only[mentT,mentPT] using ih
 |agg cs ih=>simpa only[mentT,mentPT] using ih
 |tup cs ih=>simpa only[mentT,mentPT] using ih
 |gd c t ih=>simpa only[mentT,mentPT] using ih
 |nil=>rfl
 |cons a l iha ihl=>simp[mentTs,mentPTs,iha,ihl]
 |_=>rfl
theorem mentPp_mono {p q:Nat->Bool} (h:∀o,p o=true->q o=true) {α:Type}:∀l:List (α×V S),mentPp p l=true->mentPp q l=true
 |[],hm=>by cases hm
 |v ::l,hm=>by
  simp[mentPp,Bool.or_eq_true] at hm ⊢
  exact hm.imp (mentP_mono h v.2) (mentPp_mono h l)
theorem mentsTr_mono {p q:V S->Bool} (h:∀v,p v=true->q v=true):∀t:Tr (V S),mentsTr p t=true->mentsTr q t=true
 | .nil,hm=>by cases hm
 | .node v l r,hm=>by
  simp[mentsTr,Bool.or_eq_true] at hm ⊢
  refine hm.imp (λhm=>?_) (Or.imp (mentsTr_mono h l) (mentsTr_mono h r))
  grind
theorem obMentP_mono {p q:Nat->Bool} (h:∀o,p o=true->q o=true) {ob:ObV S} (hq:obMentP q ob=false):obMentP p ob=false:=by
 cases hp:obMentP p ob with
 |false=>rfl
 |true=>
  have:obMentP q ob=true:=by
   cases ob with
   |box cs=>exact mentPs_mono h cs hp
   |mpv kt l=>exact mentPp_mono h l hp
   |lp l=>exact mentsTr_mono (mentP_mono h) _ hp
   |nar n j l era m rera hole=>exact h m hp
   |bld ty m=>exact h m hp
   |_=>cases hp
  simp_all
theorem resL_sound {g:Gh} {w:World} {s:StV S} {rs:List Ck} {v:V S} {val:Value} (hv:TRel g w (low v) val) {x:cden S.A rs} {fz ow:List Nat} (h:packCs s rs (resL rs v)=some (x,fz,ow)):∃vals,val=valOf vals∧PW (TRel g w) (lows (resL rs v)) vals:=by
 have one:∀{l:List (V S)},l=[v]->rs.length=1->∃vals,val=valOf vals∧PW (TRel g w) (lows l) vals:=by
  rintro l rfl _
  refine ⟨[val],rfl,rfl,λj t u h1 h2=>?_⟩
  grind[lows]
 have plen:∀{cs:List Ck} {l:List (V S)} {x:cden S.A cs} {fz ow:List Nat},packCs s cs l=some (x,fz,ow)->cs.length=l.length:=by
  intro cs
  induction cs with
  |nil=>grind[packCs]
  |cons c cs ih=>intro l x fz ow h;cases l with
   |nil=>simp[packCs] at h
   |cons v l=>
    grind[packCs]
 have hlen:=plen h
 unfold resL at hlen h ⊢
 split at h
 .grind
 .rename_i l hno
  cases hv with
  |tup _ vs hl hr=>
   refine ⟨vs.toList,?_,by simpa using hl,λj t v h1 h2=>hr j t v h1 (by simpa using h2)⟩
   have hne:vs.toList.length≠1:=by
    grind[lows_len,List.length_eq_one_iff]
   unfold valOf
   split
   .simp_all
   .rfl
 simp_all
theorem getAll_get {fr:FrV S}:∀{n j:Nat} {l:List (V S)},getAll fr j n=some l->l.length=n∧∀(i:Nat) (v:V S),l[i]?=some v->fr.get (j+i)=some v
 |0,j,l,h=>by
  simp only[getAll,Option.some.injEq] at h
  subst h
  exact ⟨rfl,λi v h=>by simp at h⟩
 |n+1,j,l,h=>by
  simp only[getAll] at h
  split at h
  .rename_i v r h1 h2
   simp at h
   subst h
   let ⟨k1,k2⟩:=getAll_get h2
   refine ⟨by simp[k1],λi u hu=>?_⟩
   cases i with
   |zero=>simp at hu;subst hu;exact h1
   |succ i=>
    have:=k2 i u (by simpa using hu)
    rw[show j+(i+1)=Nat.succ j+i by omega]
    exact this
  .cases h
theorem ptsO_at {g:Gh} {w:World} {fr:FrV S} {s:StV S} {a:Act} (hf:FRel g (lowFr fr) a w) (hs:SRel g (lowSt s) w):∀{ps:List Pt} {ks:List Nat},ptsO fr s ps=some ks->∀o∈ks,∃b,g.blk o=some b
 |[],ks,h=>by
  grind[ptsO]
 |p ::l,ks,h=>by
  simp[ptsO] at h
  split at h
  .rename_i o r h1 h2
   simp at h
   subst h
   intro o' ho'
   rcases List.mem_cons.1 ho' with rfl|ho'
   .unfold ptO at h1
    split at h1
    .rename_i o1 hv
     cases h1
     let ⟨u,hu⟩:=valP_sound hf hs hv
     cases hu with
     |ptr _ _ b hb=>grind
    .rename_i o1 hv
     cases h1
     let ⟨u,hu⟩:=valP_sound hf hs hv
     cases hu with
     |mp _ b hb=>grind
    .rename_i o1 hv
     cases h1
     let ⟨u,hu⟩:=valP_sound hf hs hv
     cases hu with
     |yld _ b hb=>grind
    .cases h1
   .exact ptsO_at hf hs h2 o' ho'
  .cases h
theorem scal_fz {s:StV S}:∀{cs:List Ck} {l:List (V S)} {x:cden S.A cs} {fz ow:List Nat},scalCs cs=true->packCs s cs l=some (x,fz,ow)->fz=[]∧ow=[]
 |[],[],_,fz,ow,_,h=>by
  grind[packCs]
 | .dat t ::cs,v ::l,x,fz,ow,hs,h=>by
  simp[scalCs,Bool.and_eq_true] at hs
  simp[packCs] at h
  split at h
  .rename_i x1 a1 b1 h1 a2 b2 e1 e2
   obtain ⟨_,rfl,rfl⟩:=h
   obtain ⟨rfl,rfl⟩:=scal_fz hs.2 e2
   simp[packC] at e1
   split at e1
   .rename_i y os hy
    obtain ⟨_,rfl,rfl⟩:=e1
    refine ⟨?_,rfl⟩
    cases t with
    |int k=>
     cases v<;>simp only[toTy] at hy<;>try (cases hy;done)
     .grind
     grind
    |bool=>
     cases v<;>simp only[toTy] at hy<;>try (cases hy;done)
     .grind
     simp_all
    |str=>
     cases v<;>simp only[toTy] at hy<;>try (cases hy;done)
     grind
    |_=>simp[scalT] at hs
   .cases e1
  .cases h
 | .own _ ::_,_,_,_,_,hs,_=>by simp[scalCs] at hs
 | .nown .. ::_,_,_,_,_,hs,_=>by simp[scalCs] at hs
 | .nil _ ::_,_,_,_,_,hs,_=>by simp[scalCs] at hs
 | .ptr _ ::_,_,_,_,_,hs,_=>by simp[scalCs] at hs
 |[],_ ::_,_,_,_,_,h=>by simp[packCs] at h
 | .dat _ ::_,[],_,_,_,_,h=>by simp[packCs] at h
section
variable {g:Gh} {w:World}
theorem evJ_sound {P:Program} (hS:SgOk S) {call:CallV S} (hcall:JnOk P call) {s:StV S} (hs:SRel g (lowSt s) w) {J:JSh} {f:FuncId} {args:List (V S)} {ω:Type} {k:V S->StV S->List Nat->Option ω} {r:ω}
  (h:evJ call J s f args k=some r) {vs:Array Value} (hall:PW (TRel g w) (lows args) vs.toList):Enters P f∧Calls P f vs w λ
   | .returned v,w'=>∃t s' g' ow,k t s' ow=some r∧TRel g' w' (low t) v∧AftV ow s g w s' g' w'
   | .panicked _,_=>False
   | .outgrown,_=>False:=by
 unfold evJ at h
 split at h
 rotate_left
 .cases h
 rename_i bs ks hbs hks
 split at h
 .cases h
 rename_i x0 s1 ow hpk
 rcases cond_some h with ⟨hb,h1⟩|⟨_,h1⟩
 rotate_left
 .cases h1
 clear h
 simp only[Bool.and_eq_true] at hb
 let ⟨⟨hlen,hslots⟩,hscal,hclo,hmax⟩:=hb
 have hlen:lenL args<bigN:=Nat.le_of_ble_eq_true hlen
 have hslots:∀k∈slotsS J.sh,k<bigN:=λk hk=>by
  simp_all
 have hmax:maxN (bs++ks)+1<=s1.nob:=Nat.le_of_ble_eq_true hmax
 let ⟨y,hrun,h2⟩:=bnd_some h1
 clear h1
 split at h2
 .cases h2
 rename_i frF s3 hout
 have hvl:args.length=vs.size:=by have:=hall.1;rw[lows_len] at this;omega
 have hf0:FRel g (lowFr (frJ args)) {tmps:=vs++Array.replicate (lenL args-vs.size) undef,defers:=[]} w:=init_frel hlen (by rw[lenL_eq];omega) hall
 have hrep:vs++Array.replicate (lenL args-vs.size) undef=vs:=by
  simp_all[lenL_eq]
 rw[hrep] at hf0
 generalize ha0:({tmps:=vs,defers:=[]}:Act)=a0 at hf0
 have ha0t:a0.tmps=vs:=by rw[<-ha0]
 let ⟨bl0,hbl0⟩:=objsV_at hf0 hs hbs
 let ⟨g2,vals,al,bl,hp⟩:=packSt_sound hS hf0 hs hbl0 hpk
 have hkb:=ptsO_at hf0 hs hks
 have hbsb:∀o∈bs,∃b,g2.blk o=some b:=λo ho=>by
  obtain ⟨j,hj,rfl⟩:=List.getElem_of_mem ho
  have hj':j<bl.length:=by have:=hp.blr.1;omega
  exact ⟨bl[j],hp.blr.2 j _ _ (List.getElem?_eq_getElem hj) (List.getElem?_eq_getElem hj')⟩
 have hKb:∀o∈bs++ks,∃b,g2.blk o=some b:=λo ho=>by
  rcases List.mem_append.1 ho with ho|ho
  .exact hbsb o ho
  .let ⟨b,hb⟩:=hkb o ho
   exact ⟨b,hp.ext.blk _ _ hb⟩
 have hKlt:∀o∈bs++ks,o<s1.nob:=λo ho=>by
  let ⟨b,hb⟩:=hKb o ho
  exact hp.rel.lt hb
 have hn1:s1.nob<=bigN:=hp.rel.nob
 have hKow:∀o∈bs++ks,o∉ow:=λo ho hm=>by
  rcases List.mem_append.1 ho with ho|ho
  .exact (hp.bsp o ho).2.2.1 hm
  .let ⟨b,hb⟩:=hkb o ho
   rw[hp.owb o hm] at hb
   cases hb
 have hkp:∀o∈ks,∃ob,s1.ob.get o=some ob∧plainOb ob=true∧obMentP (notP (bs++ks)) ob=false:=λo ho=>by
  unfold closedB at hclo
  rw[List.all_eq_true] at hclo
  have:=hclo o ho
  split at this
  .simp_all
  .cases this
 have hKarr:∀o∈bs++ks,∀e,g2.arr o e=none:=λo ho e=>by
  rcases List.mem_append.1 ho with ho|ho
  .exact (hp.bsp o ho).2.2.2 e
  .let ⟨ob,hob,hpl,_⟩:=hkp o ho
   cases hx:g2.arr o e with
   |none=>rfl
   |some x=>
    exfalso
    let ⟨_,h2⟩:=hp.rel.arr o e x hx
    exact plain_at hpl (h2 _ (by rw[lowSt_get,hob];rfl))
 have hksb:∀o∈ks,o<bigN:=λo ho=>Nat.lt_of_lt_of_le (hKlt o (List.mem_append_right _ ho)) hn1
 have halO:=hp.alr.owned hp.pr.notImm
 have hs1b:SRel (g2.base (notP (bs++ks))) (lowSt (stJ bs ks s1)) w:=by
  refine hp.rel.base (nob:=maxN (bs++ks)+1) (λo ho=>?_) rfl hmax (λo ob hpo hob=>?_)
  .cases hn:notP (bs++ks) o with
   |true=>rfl
   |false=>
    have:=le_maxN (notP_false.1 hn)
    omega
  .rw[lowSt_get,show (stJ bs ks s1).ob.get o=(keepT s1.ob ks).get o from rfl,keepT_some hksb] at hob
   split at hob
   .rename_i hok
    let ⟨ob1,hob1,_,hm⟩:=hkp o hok
    rw[hob1] at hob
    simp at hob
    subst hob
    refine ⟨lowOb ob1,by rw[lowSt_get,hob1];rfl,?_⟩
    have:=cleanPOb_spec (notP (bs++ks)) ob1
    rwa [cleanPOb_id hm] at this
   .cases hob
 have hf1:FRel (g2.base (notP (bs++ks))) (lowFr (frJ0 (bs++ks) J.sh (frJ args))) a0 w:=by
  refine ⟨hf0.size,by rw[<-ha0];exact .nil,λk t hk=>?_⟩
  rw[lowFr_get,Option.map_eq_some_iff] at hk
  obtain ⟨v,hv,rfl⟩:=hk
  have hv:(((slotsS J.sh).foldl (λt k=>t.del fuelTr k) (frJ args).tm).keep λv=>!(mentP (notP (bs++ks)) v)).get k=some v:=hv
  rw[Tr.get_keep,Option.filter_eq_some_iff] at hv
  let ⟨h3,h4⟩:=hv
  have h5:(frJ args).get k=some v:=by
   rw[Tr.get_dels _ _ _ hslots] at h3
   split at h3
   .cases h3
   .exact h3
  let ⟨u,hu,hr⟩:=hf0.tm k (low v) (by rw[lowFr_get,h5];rfl)
  exact ⟨u,hu,(hr.ext hp.ext hs.imm).on (g2.base_on _) (λ_ _=>rfl) (by rw[mentP_low];simpa using h4)⟩
 unfold runJ at hrun
 split at hrun
 .cases hrun
 rename_i frh sth hhead
 split at hrun
 .cases hrun
 rename_i args' hget
 let ⟨gh,hh⟩:=headV_sound (gb:=g2.base (notP (bs++ks))) hhead (Nat.le_of_lt hlen) hp.pr hp.at_ ⟨hp.blr.1,λj o b h1 h2=>(g2.base_on _).blk o b (notP_false.2 (List.mem_append_left _ (List.mem_of_getElem? h1))) (hp.blr.2 j o b h1 h2)⟩
  (λo ho e=>by
   simp_all[Gh.base])
  (λa ha b hb o hO=>by
   let ⟨h3,h4⟩:=Gh.base_owned hO
   let ⟨o',ho',hO'⟩:=halO a ha b hb
   have:=hp.rel.uni o o' b h4 hO'
   grind[notP_false]) hp.ap hf1 hs1b
 have hfn:frh.n=vs.size:=by
  have h3:frh.n=(frJ args).n:=hh.n
  rw[h3]
  show lenL args=_
  rw[lenL_eq,hvl]
 have hpw:PW (TRel gh w) (lows args') vs.toList:=by
  let ⟨k1,k2⟩:=getAll_get hget
  refine ⟨by rw[lows_len,k1,hfn];simp,λj t v h3 h4=>?_⟩
  rw[lows_map,List.getElem?_map,Option.map_eq_some_iff] at h3
  obtain ⟨u,hu,rfl⟩:=h3
  have h5:=k2 j u hu
  rw[Nat.zero_add] at h5
  let ⟨v',h6,h7⟩:=hh.fr.tm j (low u) (by rw[lowFr_get,h5];rfl)
  simp_all
 let ⟨hent,hc⟩:=hcall f args' sth _ _ y hrun gh w vs hh.rel hpw
 refine ⟨hent,hc.mono λe w' he=>?_⟩
 cases e with
 |outgrown=>exact he.elim
 |panicked ch=>
  let ⟨_,_,_,_,_,h3,_⟩:=he
  cases h3
 |returned v=>
 let ⟨t,s',g',h3,ht,haft⟩:=he
 unfold packJ at h3
 split at h3
 rotate_left
 .cases h3
 rename_i yr fz ow' y2 s2 ow2 hr hy
 rcases cond_some h3 with ⟨hkw,h4⟩|⟨_,h4⟩
 rotate_left
 .cases h4
 simp at h4
 subst h4
 clear h3
 have hkw:∀o∈ks,o∉s2.wr:=λo ho=>by
  simp_all
 have hfE:∀(g:Gh) (w:World),FRel g (lowFr (frE:FrV S)) {tmps:=#[],defers:=[]} w:=λg w=>⟨rfl,.nil,λk t hk=>by simp_all[lowFr_get,frE,FrV.get,Tr.get_nil]⟩
 have hblh:∀o∈bs++ks,∀b,g2.blk o=some b->gh.blk o=some b:=λo ho b hb=>by
  rw[hh.blk]
  exact (g2.base_on _).blk o b (notP_false.2 ho) hb
 have hblE:PW (λo b=>g'.blk o=some b) bs bl:=⟨hp.blr.1,λj o b h1 h2=>haft.ext.blk o b (hblh o (List.mem_append_left _ (List.mem_of_getElem? h1)) b (hp.blr.2 j o b h1 h2))⟩
 let ⟨g3,vals2,al2,bl2,hp2⟩:=packSt_sound hS (hfE g' w') haft.rel hblE hy
 have hfl:sth.fl=s.fl:=hh.fl.trans (show (stJ bs ks s1).fl=s.fl from hp.fl)
 have hext3:ExtV sth.lo sth.fl gh w g3 w':=haft.ext.trans (haft.fl▸hp2.ext.toV sth.lo)
 have hgi:gh.imm=g2.imm:=hh.imm
 have hghO:∀{o b:Nat},Owned gh o b->(o∈bs++ks∧g2.blk o=some b∧Owned g2 o b)∨∃a∈al,a.at b:=λ{o b} hO=>by
  rcases hh.own o b hO with hO|⟨_,hx⟩
  .let ⟨h3,h4⟩:=Gh.base_owned hO
   have h3:=notP_false.1 h3
   refine .inl ⟨h3,?_,h4⟩
   rcases h4.2 with h5|⟨e,x,_,h5,_⟩
   .exact h5
   simp_all
  .exact .inr hx
 let X:Nat->Prop:=λb=>(∃o∈bs++ks,g2.blk o=some b)∨∃a∈al,a.at b
 have hghX:∀{o b:Nat},Owned gh o b->X b:=λ{o b} hO=>(hghO hO).imp (λ⟨h1,h2,_⟩=>⟨o,h1,h2⟩) id
 have hK3:∀o∈bs++ks,∀b,g2.blk o=some b->g3.blk o=some b:=λo ho b hb=>hext3.blk o b (hblh o ho b hb)
 have hI23:∀b,g2.imm b->g3.imm b:=λb hb=>hext3.imm b (by grind)
 have hXi:∀b,X b->¬g2.imm b:=λb hX=>by
  rcases hX with ⟨o,_,ho⟩|⟨a,ha,hab⟩
  .exact (hp.rel.box o b ho).1
  .exact hp.pr.notImm a ha b hab
 have hXO:∀b,X b->∃o,(o∈bs++ks∨o∈ow)∧Owned g2 o b:=λb hX=>by
  rcases hX with ⟨o,h1,ho⟩|⟨a,ha,hab⟩
  .exact ⟨o,.inl h1,(hp.rel.box o b ho).1,.inl ho⟩
  .let ⟨o,ho,hO⟩:=halO a ha b hab
   grind
 generalize hB:(baseOf [] ow bs (frE:FrV S) s1).2=B at hout
 have hBg:∀o,B.ob.get o=if o∈bs then none else (s1.ob.get o).map (cleanPOb (outP ow s1.nob)):=λo=>by
  rw[<-hB]
  exact base_get (ds:=[]) (fr:=frE) (λb hb=>Nat.lt_of_lt_of_le (hKlt b (List.mem_append_left _ hb)) hn1) o
 have hBn:B.nob=s1.nob:=by rw[<-hB];rfl
 have hBfl:B.fl=s1.fl:=by rw[<-hB];rfl
 have hBlo:B.lo=s1.lo:=by rw[<-hB];rfl
 have hA:SRel (g2.base (outP ow s1.nob)) (lowSt B) w:=by
  refine hp.rel.base (nob:=s1.nob) (λo ho=>?_) hBn (Nat.le_refl _) (λo ob hpo hob=>?_)
  .simp_all[outP]
  .rw[lowSt_get,hBg] at hob
   split at hob
   .cases hob
   .rw[Option.map_map,Option.map_eq_some_iff] at hob
    obtain ⟨vob,hv,rfl⟩:=hob
    exact ⟨lowOb vob,by rw[lowSt_get,hv];rfl,cleanPOb_spec _ vob⟩
 have hB'g:∀o,(delBs ks B).ob.get o=if o∈ks then none else B.ob.get o:=λo=>Tr.get_dels ks _ o hksb
 have hA':SRel (g2.base (outP ow s1.nob)) (lowSt (delBs ks B)) w:=by
  have hsub:∀o ob,(lowSt (delBs ks B)).ob.get o=some ob->(lowSt B).ob.get o=some ob:=by
   simp_all[lowSt_get]
  refine ⟨hA.nob,hA.bnd,λo b h=>?_,λo e x h=>?_,hA.imm,hA.uni,hA.glo⟩
  .let ⟨k1,k2,k3⟩:=hA.box o b h
   exact ⟨k1,k2,λob hob=>k3 ob (hsub o ob hob)⟩
  .let ⟨k1,k2⟩:=hA.arr o e x h
   exact ⟨k1,λob hob=>k2 ob (hsub o ob hob)⟩
 have hC:SRel {g2.base (outP ow s1.nob) with imm:=g3.imm} (lowSt (delBs ks B)) w':=by
  refine hA'.step (X:=X) hI23 (λb hb=>?_) hp2.rel.imm hext3.size (λb hb hX=>haft.ext.heap b hb λo _ hO=>hX (hghX hO)) (λo b hX hO=>?_) hXi
  .rcases hext3.immn b hb with h|h|⟨o,_,hO⟩
   .rw[hgi] at h;exact .inl h
   .omega
   .exact .inr (.inr (hghX hO))
  .let ⟨hpo,hO⟩:=Gh.base_owned hO
   let ⟨o',ho',hO'⟩:=hXO b hX
   have:=hp.rel.uni o o' b hO hO'
   subst this
   rcases ho' with hK|hw
   .refine ⟨?_,?_⟩
    .rw[lowSt_get,hB'g]
     rcases List.mem_append.1 hK with h|h
     .simp_all
     simp_all
    .let ⟨b',hb'⟩:=hKb o hK
     rcases hO.2 with h5|⟨e,x,_,h5,_⟩
     .exact (hp2.rel.box o b (hK3 o hK b h5)).1
     simp_all
   .exact absurd hw (outP_false hpo).1
 have hKout:∀o∈bs++ks,outP ow s1.nob o=false:=λo ho=>outP_of (hKow o ho) (hKlt o ho)
 have hgB:GhOn (notP (bs++ks)) g3 {g2.base (outP ow s1.nob) with imm:=g3.imm}:=by
  refine ⟨λo b hpo hb=>?_,λo e x hpo hx=>?_,λ_ h=>h⟩
  .have hK:=notP_false.1 hpo
   let ⟨b',hb'⟩:=hKb o hK
   rw[hK3 o hK b' hb'] at hb
   have hbb:b'=b:=Option.some.inj hb
   rw[<-hbb]
   exact (g2.base_on _).blk o b' (hKout o hK) hb'
  .exfalso
   have hK:=notP_false.1 hpo
   rcases List.mem_append.1 hK with h|h
   .rw[(hp2.bsp o h).2.2.2 e] at hx
    cases hx
   .let ⟨ob1,hob1,hpl,_⟩:=hkp o h
    let ⟨b',hb'⟩:=hKb o hK
    let ⟨_,k2⟩:=hp2.rel.arr o e x hx
    cases hoc:(lowSt s2).ob.get o with
    |none=>
     exfalso
     have:s2.ob.get o=some ob1∨o∈bs:=by
      by_cases hob:o∈bs
      .exact .inr hob
      .left
       rw[hp2.same o (hkw o h),haft.same o (Nat.lt_of_lt_of_le (Nat.lt_succ_of_le (le_maxN hK)) hh.nob) (λhm=>hkw o h (hp2.wrm o hm)),hh.ob o (Nat.lt_succ_of_le (le_maxN hK)) hob]
       show (keepT s1.ob ks).get o=_
       rw[keepT_some hksb,if_pos h,hob1]
     rcases this with h6|h6
     .grind[lowSt_get]
     .rw[(hp2.bsp o h6).2.2.2 e] at hx
      cases hx
    |some obx=>
     have h7:=(k2 obx hoc).isArr
     have h8:=(hp2.rel.box o b' (hK3 o hK b' hb')).2.2 obx hoc
     let ⟨_,_,h9⟩:=h8
     rw[h9.notArr] at h7
     cases h7
 have hD:SRel {g2.base (outP ow s1.nob) with imm:=g3.imm} (lowSt B) w':=by
  refine ⟨hC.nob,hC.bnd,λo b h=>?_,λo e x h=>?_,hC.imm,hC.uni,hC.glo⟩
  .let ⟨k1,k2,k3⟩:=hC.box o b h
   refine ⟨k1,k2,λob hob=>?_⟩
   by_cases hok:o∈ks
   .have hK:o∈bs++ks:=List.mem_append_right _ hok
    let ⟨ob1,hob1,hpl,hm⟩:=hkp o hok
    have hob2:=hob
    rw[lowSt_get,hBg] at hob2
    split at hob2
    .cases hob2
    rename_i hnb
    rw[hob1] at hob2
    simp at hob2
    have hm2:obMentP (outP ow s1.nob) ob1=false:=obMentP_mono (λo ho=>by
     grind[notP_false]) hm
    rw[cleanPOb_id hm2] at hob2
    subst hob2
    have h6:s2.ob.get o=some ob1:=by
     rw[hp2.same o (hkw o hok),haft.same o (Nat.lt_of_lt_of_le (Nat.lt_succ_of_le (le_maxN hK)) hh.nob) (λhm=>hkw o hok (hp2.wrm o hm)),hh.ob o (Nat.lt_succ_of_le (le_maxN hK)) hnb]
     show (keepT s1.ob ks).get o=_
     rw[keepT_some hksb,if_pos hok,hob1]
    let ⟨hpo,hb2⟩:=Gh.base_blk (show (g2.base (outP ow s1.nob)).blk o=some b from h)
    let ⟨x,h7,h8⟩:=(hp2.rel.box o b (hK3 o hK b hb2)).2.2 (lowOb ob1) (by rw[lowSt_get,h6];rfl)
    have hl:=cleanPOb_spec (notP (bs++ks)) ob1
    rw[cleanPOb_id hm] at hl
    exact ⟨x,h7,h8.left (λt v ht hmt=>ht.on hgB (λ_ _=>rfl) hmt) hl⟩
   .exact k3 ob (by simp_all[lowSt_get])
  .let ⟨k1,k2⟩:=hC.arr o e x h
   refine ⟨k1,λob hob=>?_⟩
   by_cases hok:o∈ks
   .have h3:=(Gh.base_arr (show (g2.base (outP ow s1.nob)).arr o e=some x from h)).2
    simp_all
   .exact k2 ob (by simp_all[lowSt_get])
 have hal2O:=hp2.alr.owned hp2.pr.notImm
 have hal2:∀a∈al2,∀b,a.at b->X b∨w.heap.size<=b:=λa ha b hab=>by
  let ⟨o2,ho2,hO2⟩:=hal2O a ha b hab
  rcases hext3.own o2 b (haft.fl▸(hp2.owp o2 ho2).1) hO2 with ⟨o',_,hO'⟩|h
  .exact .inl (hghX hO')
  omega
 obtain ⟨gF,hhF⟩:=headV_sound (a:={tmps:=#[],defers:=[]}) (gb:={g2.base (outP ow s1.nob) with imm:=g3.imm}) (w:=w') hout (Nat.zero_le _) hp2.pr hp2.at_
  ⟨hp2.blr.1,λj o b h1 h2=>hgB.blk o b (notP_false.2 (List.mem_append_left _ (List.mem_of_getElem? h1))) (hp2.blr.2 j o b h1 h2)⟩
  (λo ho e=>by
   simp_all[Gh.base])
  (λa ha b hab o hO=>by
   have hO0:Owned (g2.base (outP ow s1.nob)) o b:=⟨λhi=>hO.1 (hI23 b hi),hO.2⟩
   let ⟨hpo,hO2⟩:=Gh.base_owned hO0
   let ⟨o2,ho2,hO3⟩:=hal2O a ha b hab
   by_cases hK:o∈bs++ks
   .have hb3:g3.blk o=some b:=by
     rcases hO2.2 with h5|⟨e,x,_,h5,_⟩
     .grind
     simp_all
    have:=hp2.rel.uni o o2 b ⟨(hp2.rel.box o b hb3).1,.inl hb3⟩ hO3
    subst this
    let ⟨b',hb'⟩:=hKb o hK
    have h6:g'.blk o=some b':=haft.ext.blk o b' (hblh o hK b' hb')
    rw[hp2.owb o ho2] at h6
    cases h6
   .rcases hal2 a ha b hab with hX|h
    .let ⟨o',ho',hO'⟩:=hXO b hX
     have:=hp.rel.uni o o' b hO2 hO'
     grind[outP_false]
    .have:=(hp.rel.ownLt hO2).1
     omega) hp2.ap (hfE _ _) hD
 have hflX:∀b,b<w.heap.size->(∀o,s.fl<=o->¬Owned g o b)->∀o,s.fl<=o->¬Owned gh o b:=λb hb hn o ho hO=>by
  rcases hghO hO with ⟨_,_,hO2⟩|⟨a,ha,hab⟩
  .rcases hp.ext.own o b hO2 with h|h
   .grind
   .omega
  .let ⟨o',ho',hO'⟩:=halO a ha b hab
   rcases hp.ext.own o' b hO' with h|h
   .exact hn o' (hp.owp o' ho').1 h
   .omega
 have hghg:∀{o b:Nat},s.fl<=o->Owned gh o b->(∃o',s.fl<=o'∧Owned g o' b)∨w.heap.size<=b:=λ{o b} ho hO=>by
  rcases hghO hO with ⟨_,_,hO2⟩|⟨a,ha,hab⟩
  .exact (hp.ext.own o b hO2).imp (λh=>⟨o,ho,h⟩) id
  .let ⟨o',ho',hO'⟩:=halO a ha b hab
   exact (hp.ext.own o' b hO').imp (λh=>⟨o',(hp.owp o' ho').1,h⟩) id
 have hvrel:TRel gF w' (low (tupV (datVs J.rs yr))) v:=by
  obtain ⟨vals',rfl,hpwr⟩:=resL_sound ht hr
  let ⟨_,_,q⟩:=packCs_sound hS haft.rel hr hpwr
  obtain ⟨rfl,rfl⟩:=scal_fz hscal hr
  let ⟨alr,hH,_⟩:=q g' (lowSt s') [] haft.rel (Ext.refl _ _ _) ⟨rfl,rfl,λo ho=>(by cases ho),λ_ _ _ _ h=>h,λo ho=>(by cases ho)⟩ (λ_ h=>h) (λo ho=>(by cases ho))
  exact tupV_rel (datVs_rel hscal hH)
 refine ⟨_,_,gF,ow,h2,hvrel,hhF.rel,⟨λo b hb=>?_,λo e x hl hx=>?_,λb hb=>?_,hext3.size,λb hb hn=>?_,λo b ho hO=>?_,λb hb=>?_,hext3.os,hext3.output⟩,hhF.fl.trans (hBfl.trans hp.fl),hhF.lo.trans (hBlo.trans hp.lo),?_,λo ho=>?_,λo hl ho=>?_,λt v ht hm=>?_,λo ho=>?_,λo ho=>?_,λo ho=>?_⟩
 .rw[hhF.blk]
  exact (g2.base_on _).blk o b (outP_of (λhm=>by rw[hp.owb o hm] at hb;cases hb) (by have:=hs.lt hb;rw[hp.nob];exact this)) (hp.ext.blk o b hb)
 .have hlt:o<s1.nob:=by have:=hs.lt' hx;rw[hp.nob];exact this
  rw[hhF.arr o (by omega)]
  exact (g2.base_on _).arr o e x (outP_of (λhm=>by have:=(hp.owp o hm).2.1;omega) hlt) (hp.ext.arr o e x hx)
 .rw[hhF.imm]
  exact hI23 b (hp.ext.imm b hb)
 .exact haft.ext.heap b hb (by simp_all)
 .rcases hhF.own o b hO with hO|⟨_,a,ha,hab⟩
  .have hO0:Owned (g2.base (outP ow s1.nob)) o b:=⟨λhi=>hO.1 (hI23 b hi),hO.2⟩
   exact (hp.ext.own o b (Gh.base_owned hO0).2).imp (λh=>⟨o,ho,h⟩) id
  .let ⟨o2,ho2,hO2⟩:=hal2O a ha b hab
   rcases hext3.own o2 b (haft.fl▸(hp2.owp o2 ho2).1) hO2 with ⟨o',ho',hO'⟩|h
   .exact hghg (hfl▸ho') hO'
   omega
 .rw[hhF.imm] at hb
  rcases hext3.immn b hb with h|h|⟨o,ho,hO⟩
  .rw[hgi] at h
   exact hp.ext.immn b h
  .omega
  .rcases hghg (hfl▸ho) hO with h|h
   .exact .inr (.inr h)
   omega
 .have h3:B.nob<=s3.nob:=hhF.nob
  rw[hBn,hp.nob] at h3
  exact h3
 .exact List.mem_append_right _ (List.mem_append_right _ (List.mem_append_right _ (hp.wrm o ho)))
 .simp at ho
  rw[hhF.ob o (by rw[hBn,hp.nob];exact hl) ho.2.1,hBg,if_neg ho.2.1,<-hp.same o ho.2.2.2]
  cases hg:s1.ob.get o with
  |none=>rfl
  |some ob=>
   grind[cleanPOb_id,Tr.mem_keysOf]
 .have h3:TRel g2 w t v:=ht.ext hp.ext hs.imm
  have hon:GhOn ow.contains g2 {g2.base (outP ow s1.nob) with imm:=g3.imm}:=by
   refine ⟨λo b hpo hb=>?_,λo e x hpo hx=>?_,hI23⟩
   .exact (g2.base_on _).blk o b (outP_of (by grind) (hp.rel.lt hb)) hb
   .exact (g2.base_on _).arr o e x (outP_of (by grind) (hp.rel.lt' hx)) hx
  exact (h3.on hon (λb hb=>haft.ext.heap b (hp.rel.imm b hb) λo _ hO=>hXi b (hghX hO) hb) (by rw[mentT_P];exact hm)).le hhF.le
 .simp_all
 .exact List.mem_append_right _ (by rw[hp.dr];exact ho)
 simp_all
end
end TL
end
section
namespace TL
open Go
variable {S:Sg}
structure EnvVOk (E:EnvV S):Prop where
 sg:SgOk S
 tab:TabOk E.T.E
 ty:TyOk S E.T
 name:∀f fn,E.T.E.fnc f=some fn->(fn.name== "runtime.NumGoroutine")=false
 ng:∀f,E.T.E.gam f=none
 x:XOk S E.T
 gam:∀f c,E.gam f=some c->ConOk E.T.E.P f c
theorem EnvVOk.env {E:EnvV S} (h:EnvVOk E):EnvOk E.T.E:={h.tab with
 name:=h.name
 gam:=λf c hc=>by rw[h.ng] at hc;cases hc}
def CallPostV (s:StV S) (g:Gh) (w:World) {ω:Type} (k kp:V S->StV S->Option ω) (r:ω):Ending->World->Prop
 | .returned v,w'=>∃t s' g',k t s'=some r∧TRel g' w' (low t) v∧AftV [] s g w s' g' w'
 | .panicked chain,w'=>∃v t s' g',chain=[{v,recovered:=false}]∧kp t s'=some r∧TRel g' w' (low t) v∧AftV [] s g w s' g' w'
 | .outgrown,_=>False
structure CallOkV (P:Program) (call:CallV S):Prop where
 fn:∀(f:FuncId) (args:List (V S)) (s:StV S) {ω:Type} (k kp:V S->StV S->Option ω) (r:ω),call (.fn f) args s k kp=some r->∀(g:Gh) (w:World) (vs:Array Value),SRel g (lowSt s) w->PW (TRel g w) (lows args) vs.toList->
  Enters P f∧Calls P f vs w (CallPostV s g w k kp r)
 jn:JnOk P call
 yl:∀(o:Nat) (args:List (V S)) (s:StV S) {ω:Type} (k kp:V S->StV S->Option ω) (r:ω),call (.yl o) args s k kp=some r->∀(g:Gh) (w:World) (vs:Array Value) (b:Nat),SRel g (lowSt s) w->PW (TRel g w) (lows args) vs.toList->g.blk o=some b->
  ∃l:Loop,w.heap[b]?=some (.loop l)∧vs.size=l.params.size∧∀rr n,RoundIn (WR rr) n P b l.fn ((l.params.zip vs).foldl (λtmps (t,a)=>tmps.setIfInBounds t a) l.tmps) l.assign l.body w (CallPostV s g w k kp r)
 yd:∀(o:Nat) (args:List (V S)) (s:StV S) {ω:Type} (k kp:V S->StV S->Option ω) (r:ω),call (.yd o) args s k kp=some r->∀(g:Gh) (w:World) (vs:Array Value) (b:Nat),SRel g (lowSt s) w->PW (TRel g w) (lows args) vs.toList->g.blk o=some b->
  ∃l:Loop,w.heap[b]?=some (.loop l)∧vs.size=l.params.size∧∀rr n,RoundIn (WR rr) n P b l.fn ((l.params.zip vs).foldl (λtmps (t,a)=>tmps.setIfInBounds t a) l.tmps) l.assign l.body w (CallPostW s g w k kp r)
theorem chk_some {α:Type} {c:Bool} {x:Option α} {r:α} (h:chk c x=some r):c=true∧x=some r:=by
 unfold chk at h
 grind
theorem sel_some {α:Type} {c:Bool} {x y:Option α} {r:α} (h:sel c x y=some r):(c=true∧x=some r)∨(c=false∧y=some r):=cond_some h
theorem calleeV_low {f:V S} {args as:List (V S)} {id:FuncId} (h:calleeV f args=some (id,as)):calleeT (low f) (lows args)=some (id,lows as):=by
 unfold calleeV at h
 split at h
 .obtain ⟨rfl,rfl⟩:=h
  simp[low,calleeT,lows_append]
 .cases h
section
variable {g:Gh} {w:World}
theorem cleanDf_left {p:V S->Bool} {q:T->Bool} (hpq:∀v,q (low v)=p v) (hsh:∀o e,p (.sh o e)=p (.sh o 0)):∀l:List (DfV S),LeftDfs q (l.map lowDf) ((l.map (cleanDf p)).map lowDf)
 |[]=>.nil
 | .marks o ::l=>by
  have ih:=cleanDf_left hpq hsh l
  simp only[List.map_cons,cleanDf]
  cases hb:p (.sh o 0) with
  |true=>exact .mbad o ih
  |false=>exact .marks o (λe=>((hpq (.sh o e)).trans (hsh o e)).trans hb) ih
 | .bads ::l=>.bads (cleanDf_left hpq hsh l)
 | .call f args ::l=>.cons (by
   simp[cleanDf]
   cases hb:p f||args.any p with
   |true=>exact .inl ⟨rfl,rfl⟩
   |false=>
    simp only[Bool.or_eq_false_iff,List.any_eq_false] at hb
    refine .inr ⟨rfl,by simp_all,λt ht=>?_⟩
    rw[lows_map,List.mem_map] at ht
    grind) (cleanDf_left hpq hsh l)
 | .mark o ::l=>.cons (by
   simp[cleanDf]
   cases hb:p (.ptr o 0) with
   |true=>exact .inl ⟨rfl,rfl⟩
   |false=>exact .inr ⟨rfl,(hpq (.ptr o 0)).trans hb⟩) (cleanDf_left hpq hsh l)
 | .bad ::l=>.cons (.inr ⟨rfl,trivial⟩) (cleanDf_left hpq hsh l)
theorem forgetF_sound {ow:List Nat} {fr:FrV S} {a:Act} {g':Gh} {w':World} {s s':StV S} (hf:FRel g (lowFr fr) a w) (h:AftV ow s g w s' g' w'):FRel g' (lowFr (forgetF ow fr)) a w':=by
 refine ⟨?_,?_,λk t hk=>?_⟩
 .cases ow<;>exact hf.size
 .cases ow with
  |nil=>
   have hnil:∀t:T,mentT [] t=false:=by
    intro t
    induction t using T.rec (motive_2:=λl=>mentTs [] l=false) with
    |fn f a b iha ihb=>simp[mentT,iha,ihb]
    |ifc t v ih=>simp[mentT,ih]
    |agg cs ih=>simp[mentT,ih]
    |tup cs ih=>simp[mentT,ih]
    |gd c v ih=>simp[mentT,ih]
    |nil=>rfl
    |cons a l iha ihl=>simp[mentTs,iha,ihl]
    |_=>simp[mentT]
   refine hf.df.imp (λt v ht=>h.tr t v ht (hnil t)) λo b hb=>?_
   have:=h.tr _ _ (.ptr o 0 b hb) (hnil _)
   cases this with
   |ptr _ _ _ hb'=>exact hb'
  |cons o ow=>exact (cleanDf_left (λv=>ments_low _ v) (λ_ _=>rfl) fr.df).rel h.tr hf.df
 .rw[lowFr_get,Option.map_eq_some_iff] at hk
  obtain ⟨v,hv,rfl⟩:=hk
  have hv':fr.get k=some v∧mentT ow (low v)=false:=by
   cases ow with
   |nil=>
    refine ⟨hv,?_⟩
    have:∀t:T,mentT [] t=false:=by
     intro t
     have key:(∀t:T,mentT [] t=false):=by
      intro t
      induction t using T.rec (motive_2:=λl=>mentTs [] l=false) with
      |fn f a b iha ihb=>simp[mentT,iha,ihb]
      |ifc t v ih=>simp[mentT,ih]
      |agg cs ih=>simp[mentT,ih]
      |tup cs ih=>simp[mentT,ih]
      |gd c v ih=>simp[mentT,ih]
      |nil=>rfl
      |cons a l iha ihl=>simp[mentTs,iha,ihl]
      |_=>simp[mentT]
     exact key t
    exact this _
   |cons o ow=>
    grind[forgetF,FrV.get,Tr.get_keep,Option.filter_eq_some_iff,ments_low]
  let ⟨u,hu,hr⟩:=hf.tm k (low v) (by rw[lowFr_get,hv'.1];rfl)
  exact ⟨u,hu,h.tr _ _ hr hv'.2⟩
theorem opV_aft {E:EnvV S} (hE:EnvVOk E) {fr:FrV S} {s s':StV S} {a:Act} (hf:FRel g (lowFr fr) a w) (hs:SRel g (lowSt s) w) (o:Oper) {c:Bool} {t:V S} (h:opV E.T fr s o.op=some (c,t,s')) (hc:c=true) :
  ∃v w' g',((execOp a.eval o).run E.T.E.P w=.ok (.value v) w'∨((execOp a.eval o).run E.T.E.P w=.ok .skip w'∧v=undef))∧TRel g' w' (low t) v∧AftV [] s g w s' g' w':=by
 unfold opV at h
 split at h
 .rename_i r h0
  cases h
  exact opN_aft hE.sg hE.tab hE.ty hE.x hf hs o h0 hc
 .split at h
  .rename_i r h0
   cases h
   let ⟨p,hop,hp⟩:=opV0_low hE.sg hE.ty h0 hc
   let ⟨⟨v,w',g',hr,hs',he,ht⟩,h1,h2,h3⟩:=opT_sound hE.tab hf hs o hop hp
   exact ⟨v,w',g',hr,ht,AftV.ofExt hs hs' he h1 h2 h3 (opV0_log h0)⟩
  .exact opX_aft hE.sg hE.tab hE.ty hE.x hf hs o h hc
def CallPostK (s:StV S) (g:Gh) (w:World) {ω:Type} (k:V S->StV S->List Nat->Option ω) (kp:V S->StV S->Option ω) (r:ω):Ending->World->Prop
 | .returned v,w'=>∃t s' g' ow,k t s' ow=some r∧TRel g' w' (low t) v∧AftV ow s g w s' g' w'
 | .panicked chain,w'=>∃v t s' g',chain=[{v,recovered:=false}]∧kp t s'=some r∧TRel g' w' (low t) v∧AftV [] s g w s' g' w'
 | .outgrown,_=>False
theorem mem_lowO {s:StV S} {o:Nat}:∀{n:Nat},o<n->s.lo<=o->(s.ob.get o).any plainOb=false->o∈lowO s n
 |n+1,hn,hl,hp=>by
  unfold lowO
  by_cases h:o=n
  .subst h
   rw[hp,Nat.ble_eq_true_of_le hl]
   exact List.mem_cons_self
  .have:=mem_lowO (n:=n) (by omega) hl hp
   cases Nat.ble s.lo n&&!((s.ob.get n).any plainOb)
   .exact this
   .exact List.mem_cons_of_mem _ this
theorem AftW.toLow {s s':StV S} {g':Gh} {w':World} (hs:SRel g (lowSt s) w) (h:AftW s g w s' g' w'):AftV (lowO s s.nob) s g w {s' with wr:=lowO s s.nob++s'.wr,dr:=lowO s s.nob++s'.dr} g' w':=by
 have hk:Keeps g.imm w w':=λb hb=>h.ext.heap b (hs.imm b hb) (λo _ hO=>hO.1 hb)
 refine ⟨h.rel,h.ext,h.fl,h.lo,h.nob,λo ho=>List.mem_append_right _ (h.wrm o ho),λo ho hno=>h.same o ho λhm=>hno (List.mem_append_right _ hm),λt v ht hm=>?_,λo ho=>List.mem_append_left _ ho,λo ho=>List.mem_append_right _ (h.drm o ho),λo ho=>List.mem_append_left _ ho⟩
 refine ht.on (p:=(lowO s s.nob).contains) ⟨λo b _ e=>h.ext.blk o b e,λo e x hp k=>h.ext.arr o e x ?_ k,h.ext.imm⟩ hk (by rw[mentT_P];exact hm)
 refine Nat.lt_of_not_le λhl=>?_
 have hpl:(s.ob.get o).any plainOb=false:=by
  cases ho:s.ob.get o with
  |none=>rfl
  |some ob=>
   cases hpl:plainOb ob with
   |false=>exact hpl
   |true=>exact (plain_at hpl ((hs.arr o e x k).2 _ (by rw[lowSt_get,ho];rfl))).elim
 have:=mem_lowO (n:=s.nob) (hs.lt' k) hl hpl
 rw[List.contains_iff_mem.2 this] at hp
 cases hp
theorem evCall_sound {E:EnvV S} (hE:EnvVOk E) {call:CallV S} (hcall:CallOkV E.T.E.P call) {s:StV S} (hs:SRel g (lowSt s) w) {f:FuncId} {args:List (V S)} {ω:Type} {kp:V S->StV S->Option ω} {k:V S->StV S->List Nat->Option ω} {r:ω}
  (h:evCall E call s f args kp k=some r) {vs:Array Value} (hall:PW (TRel g w) (lows args) vs.toList):Enters E.T.E.P f∧Calls E.T.E.P f vs w (CallPostK s g w k kp r):=by
 unfold evCall at h
 split at h
 .rename_i cc hgam
  let ⟨hent,hc⟩:=evCon_sound hE.sg (hE.gam _ _ hgam) hs hall h
  refine ⟨hent,hc.mono λe w' he=>?_⟩
  cases e with
  |returned v=>exact he
  |panicked ch=>exact he
  |outgrown=>exact he.elim
 split at h
 .let ⟨hent,hc⟩:=evJ_sound hE.sg hcall.jn hs h hall
  refine ⟨hent,hc.mono λe w' he=>?_⟩
  cases e with
  |returned v=>exact he
  |panicked ch=>exact he.elim
  |outgrown=>exact he.elim
 rcases cond_some h with ⟨_,h⟩|⟨_,h⟩
 .let ⟨hent,hc⟩:=hcall.jn _ _ _ _ _ _ h g w _ hs hall
  refine ⟨hent,hc.mono λe w' he=>?_⟩
  cases e with
  |returned v=>
   let ⟨t,s',g',h1,h2,h3⟩:=he
   exact ⟨t,_,g',_,h1,h2,h3.toLow hs⟩
  |panicked ch=>
   obtain ⟨v,t,s',g',_,h1,_⟩:=he
   cases h1
  |outgrown=>exact he.elim
 .let ⟨hent,hc⟩:=hcall.fn _ _ _ _ _ _ h g w _ hs hall
  refine ⟨hent,hc.mono λe w' he=>?_⟩
  cases e with
  |returned v=>
   let ⟨t,s',g',h1,h2,h3⟩:=he
   exact ⟨t,s',g',[],h1,h2,h3⟩
  |panicked ch=>exact he
  |outgrown=>exact he.elim
theorem evInv_sound {E:EnvV S} {call:CallV S} {s:StV S} {m:String} {args:List (V S)} {n:Nat} {x:den S.A (.ifc n)} {ω:Type} {kp:V S->StV S->Option ω} {k:V S->StV S->List Nat->Option ω} {r:ω}:∀{l:List (TypeId×Ty)} {j:Nat},
  evInv E call s m args n x kp k l j=some r->∃i t f,isAlt (S.alts n) i (S.iget n x)=true∧((nth (S.alts n) i).elim 0 (·.1))=t∧E.T.meth t m=some f∧evCall E call s f (.ty (altTy (S.alts n) i) (getAlt S.zero (S.alts n) i (S.iget n x)) ::args) kp k=some r
 |[],j,h=>by cases h
 |p ::l,j,h=>by
  rcases sel_some h with ⟨hi,h⟩|⟨_,h⟩
  .split at h
   .rename_i f hf
    rcases cond_some h with ⟨hb,h⟩|⟨_,h⟩
    .grind[Nat.eq_of_beq_eq_true]
    .cases h
   .cases h
  .exact evInv_sound h
theorem encI_isAlt:∀(l:List (TypeId×Ty)) (i:Nat) (x:iden S.A l),isAlt l i x=true->encI S l x=some ((nth l i).elim 0 (·.1),enc S (altTy l i) (getAlt S.zero l i x))
 |[],_,_,h=>by cases h
 |p ::l,0,.inl y,_=>rfl
 |p ::l,0,.inr y,h=>by cases h
 |p ::l,i+1,.inl y,h=>by cases h
 |p ::l,i+1,.inr y,h=>encI_isAlt l i y h
theorem run_execYield {P:Program} {o:Oper} {c:Call} (ho:o.op=.call c) {fv:Operand} (hc:c.callee=.value fv) {a:Act} {b:Nat} (hv:a.eval fv=.func (.yield b) #[] #[]) {w:World} {l:Loop} (hl:w.heap[b]?=some (.loop l)) (hs:(c.args.map a.eval).size=l.params.size) :
  (execOp a.eval o).run P w=.ok (.round b l.fn ((l.params.zip (c.args.map a.eval)).foldl (λtmps (t,a)=>tmps.setIfInBounds t a) l.tmps) l.assign l.body) w:=by
 grind[execOp,resolve,Deferred.ofValue,invoke,run_yield]
theorem evOper_sound0 {E:EnvV S} (hE:EnvVOk E) {call:CallV S} (hcall:CallOkV E.T.E.P call) {fr:FrV S} {s:StV S} {a:Act} (hf:FRel g (lowFr fr) a w) (hs:SRel g (lowSt s) w) {o:Oper} {ω:Type} {kp:V S->StV S->Option ω} {k:V S->StV S->List Nat->Option ω} {r:ω}
  (h:evOper E call o fr s kp k=some r) {K:Act->World->Prop} {Q:Exit->Act->World->Prop} (hK:∀t s' g' ow v w',k t s' ow=some r->AftV ow s g w s' g' w'->TRel g' w' (low t) v->K (a.put o.dst v) w')
  (hP:∀t s' g' v w',kp t s'=some r->AftV [] s g w s' g' w'->TRel g' w' (low t) v->Q (.panic [{v,recovered:=false}]) a w') (hny:∀c fv oo,o.op=.call c->c.callee=.value fv->opdV fr fv≠some (.yld oo)) :
  o.wp E.T.E.P a w K Q∨(o.asks E.T.E.P a w∧LetsOut Q):=by
 have fin:∀{t:V S} {s':StV S} {v:Value} {w':World} {g':Gh},k t s' []=some r->((execOp a.eval o).run E.T.E.P w=.ok (.value v) w'∨((execOp a.eval o).run E.T.E.P w=.ok .skip w'∧v=undef))->TRel g' w' (low t) v->AftV [] s g w s' g' w'->o.wp E.T.E.P a w K Q:=by
  intro t s' v w' g' hk hr ht haft
  unfold Oper.wp
  rcases hr with hr|⟨hr,rfl⟩
  .rw[hr];exact hK t s' g' [] v w' hk haft ht
  .rw[hr];exact hK t s' g' [] undef w' hk haft ht
 have plain:(match opS E.T fr s o.op with
   |some (arms,p,d,s')=>armsK (λv s=>k v s []) (chk p (k d s' [])) arms
   |none=>match opV E.T fr s o.op with
    |none=>none
    |some (p,t,s')=>chk p (k t s' []))=some r->o.wp E.T.E.P a w K Q:=by
  intro h
  split at h
  .rename_i arms p d s' hop
   let ⟨t,s1,v,w',g',h1,h2,h3,h4,_⟩:=opS_aft hE.tab hE.x hf hs o hop (X:=λv s=>k v s []) h
   grind
  grind[chk_some,opV_aft]
 have called:∀{f:FuncId} {args:List (V S)} {vs:Array Value},evCall E call s f args kp k=some r->PW (TRel g w) (lows args) vs.toList->(Enters E.T.E.P f->(execOp a.eval o).run E.T.E.P w=.ok (.enter f vs) w)->o.wp E.T.E.P a w K Q:=by
  intro f args vs h hall hrun
  let ⟨hent,hc⟩:=evCall_sound hE hcall hs h hall
  unfold Oper.wp
  rw[hrun hent]
  refine hc.mono λe w' he=>?_
  cases e with
  |returned v=>
   let ⟨t,s',g',ow,h1,h2,h3⟩:=he
   grind
  |panicked ch=>
   obtain ⟨v,t,s',g',rfl,h1,h2,h3⟩:=he
   grind
  |outgrown=>exact he.elim
 unfold evOper at h
 split at h
 .rename_i c hop
  split at h
  .cases h
  .rename_i args hargs
   have hargs':=opdsV_low hargs
   have hpw:=opdsT_sound hf hargs'
   split at h
   .rename_i b hb
    split at h
    .cases h
    .rename_i p t s' hbt
     let ⟨hp,hk⟩:=chk_some h
     unfold builtinV at hbt
     split at hbt
     .rename_i r0 h0
      cases hbt
      exact builtinN_sound hE.sg hE.tab hE.env hE.ty hf hs hop hb hargs h0 hp (λg' v w' haft ht=>hK t s' g' [] v w' hk haft ht)
     split at hbt
     .rename_i r0 h0
      cases hbt
      let ⟨q,hq,hqp⟩:=builtinV0_low hE.sg hE.ty h0 hp
      refine builtin_sound hE.env hf hs hop hb hargs' hq hqp (k:=λt' st'=>t'=low t∧st'=lowSt s') ⟨rfl,rfl⟩ (λt' st' g' v w' he haft ht=>?_)
      obtain ⟨rfl,rfl⟩:=he
      exact hK t s' g' [] v w' hk (AftV.ofExt hs haft.rel haft.ext haft.fl haft.lo haft.nob (builtinV0_log h0)) ht
     .split at hbt
      .rename_i r0 h0
       cases hbt
       obtain ⟨rfl,v,hr,ht⟩:=builtinX_aft hE.tab hE.x hs hf hop hb hargs h0
       grind[AftV.refl]
      .let ⟨v,w',g',hr,ht,haft⟩:=builtinD_aft hE.x hs hf hop hb hargs hbt
       grind
   .rename_i fv hfv
    split at h
    .simp_all[yldV]
    split at h
    .cases h
    .rename_i f args' hfa
     left
     simp[Option.bind_eq_some_iff] at hfa
     let ⟨tf,htf,hcal⟩:=hfa
     have hrf:=opdT_sound hf (opdV_low htf)
     have hcal':=calleeV_low hcal
     unfold calleeT at hcal'
     split at hcal'
     .rename_i f' first cap hlow
      simp only[Option.some.injEq,Prod.mk.injEq] at hcal'
      obtain ⟨rfl,hargs2⟩:=hcal'
      rw[hlow] at hrf
      generalize hvf:a.eval fv=vf at hrf
      cases hrf with
      |fn _ _ _ va vc l1 l2 r1 r2=>
      have hall:PW (TRel g w) (lows args') (va++c.args.map a.eval++vc).toList:=by
       rw[<-hargs2]
       simp only[Array.toList_append,Array.toList_map]
       exact PW.append (PW.append ⟨by simpa using l1,λj x y h1 h2=>r1 j x y h1 (by simpa using h2)⟩ hpw) ⟨by simpa using l2,λj x y h1 h2=>r2 j x y h1 (by simpa using h2)⟩
      grind[run_execCall]
     .cases hcal'
   .rename_i x m hxm
    have inv:∀{tt:TypeId} {f:FuncId} {tv:V S} {u:Value},a.eval x=.iface tt u->TRel g w (low tv) u->E.T.meth tt m=some f->evCall E call s f (tv ::args) kp k=some r->o.wp E.T.E.P a w K Q:=by
     intro tt f tv u hv hu hm h
     have hall:PW (TRel g w) (lows (tv ::args)) (#[u]++c.args.map a.eval).toList:=by
      simp only[Array.toList_append,Array.toList_map]
      exact PW.append (l:=[low tv]) (m:=[u]) ⟨rfl,λj x y h1 h2=>by
       grind⟩ hpw
     exact called h hall (λhent=>run_execInv hE.x hop hxm hv hm hent)
    split at h
    .rename_i tt tv hx
     split at h
     .rename_i f hm
      have hr:=opdT_sound hf (opdV_low hx)
      generalize hv:a.eval x=v at hr
      cases hr with
      |ifc _ _ u hu=>grind
     .cases h
    .rename_i n y hx
     let ⟨i,t,f,h1,h2,h3,h4⟩:=evInv_sound h
     have he:=encI_isAlt _ _ _ h1
     rcases ifc_rel hE.sg (show TRel g w (lowTy S (.ifc n) y) (a.eval x) from opdV_rel hf hx) with ⟨he',_⟩|⟨t',d,u,he',hv,hd⟩
     .simp_all
     .rw[he'] at he
      simp at he
      obtain ⟨ht,rfl⟩:=he
      rw[h2] at ht
      subst ht
      exact .inl (inv (tv:=.ty (altTy (S.alts n) i) (getAlt S.zero (S.alts n) i (S.iget n y))) hv (ty_rel hd) h3 h4)
    .cases h
 .rename_i x hop
  split at h
  .rename_i tt tv hx
   left
   have hr:=opdT_sound hf (opdV_low hx)
   unfold Oper.wp
   generalize hv:a.eval x=v at hr
   cases hr with
   |ifc _ _ u hu=>
   have:(execOp a.eval o).run E.T.E.P w=.halt (.panic (.iface tt u)) w:=by
    simp_all[execOp,Instr.panic]
   rw[this]
   exact hP _ _ g _ w h (AftV.refl hs) (by exact .ifc _ _ _ hu)
  .cases h
 grind
theorem evOper_sound {E:EnvV S} (hE:EnvVOk E) {call:CallV S} (hcall:CallOkV E.T.E.P call) {fr:FrV S} {s:StV S} {a:Act} (hf:FRel g (lowFr fr) a w) (hs:SRel g (lowSt s) w) {o:Oper} {ω:Type} {kp:V S->StV S->Option ω} {k:V S->StV S->List Nat->Option ω} {r:ω}
  (h:evOper E call o fr s kp k=some r) {K:Act->World->Prop} {Q:Exit->Act->World->Prop} (hK:∀t s' g' ow v w',k t s' ow=some r->AftV ow s g w s' g' w'->TRel g' w' (low t) v->K (a.put o.dst v) w')
  (hP:∀t s' g' v w',kp t s'=some r->AftV [] s g w s' g' w'->TRel g' w' (low t) v->Q (.panic [{v,recovered:=false}]) a w') {rr:Option Nat} (hrr:rr≠none->∀c,o.op≠.defer c) :
  OpR rr E.T.E.P o a w K Q:=by
 by_cases hy:∃c fv oo,o.op=.call c∧c.callee=.value fv∧opdV fr fv=some (.yld oo)
 rotate_left
 .exact .of_wp hrr (evOper_sound0 hE hcall hf hs h hK hP λc fv oo h1 h2 h3=>hy ⟨c,fv,oo,h1,h2,h3⟩)
 let ⟨c,fv,oo,hop,hfv,hyl⟩:=hy
 unfold evOper at h
 rw[hop] at h
 dsimp only at h
 split at h
 .cases h
 rename_i args hargs
 rw[hfv] at h
 dsimp only at h
 rw[hyl] at h
 have hpw:=opdsT_sound hf (opdsV_low hargs)
 have hrf:=opdT_sound hf (opdV_low hyl)
 generalize hvf:a.eval fv=vf at hrf
 cases hrf with
 |yld _ b hb=>
 rcases cond_some h with ⟨_,h⟩|⟨_,h⟩
 .let ⟨l,hl,hsz,hround⟩:=hcall.yd _ _ _ _ _ _ h g w (c.args.map a.eval) b hs (by simpa using hpw) hb
  left
  rw[Oper.semAt_eq _ _ _ (by simp_all),run_execYield hop hfv hvf hl hsz]
  refine ⟨λh=>by simp[Fence.wide] at h,(hround rr _).mono λe w' he=>?_⟩
  cases e with
  |returned v=>
   let ⟨t,s',g',h1,h2,h3⟩:=he
   exact hK _ _ _ _ _ _ h1 (h3.toLow hs) h2
  |panicked ch=>
   obtain ⟨v,t,s',g',rfl,h1,h2,h3⟩:=he
   cases h1
  |outgrown=>exact he.elim
 let ⟨l,hl,hsz,hround⟩:=hcall.yl _ _ _ _ _ _ h g w (c.args.map a.eval) b hs (by simpa using hpw) hb
 left
 rw[Oper.semAt_eq _ _ _ (by simp_all),run_execYield hop hfv hvf hl hsz]
 refine ⟨λh=>by simp[Fence.wide] at h,(hround rr _).mono λe w' he=>?_⟩
 cases e with
 |returned v=>
  let ⟨t,s',g',h1,h2,h3⟩:=he
  grind
 |panicked ch=>
  obtain ⟨v,t,s',g',rfl,h1,h2,h3⟩:=he
  grind
 |outgrown=>exact he.elim
mutual
theorem noSh_own:∀(s:StV S) (t:Ty) (v:V S) {x:den S.A t} {os:List Nat},noSh v=true->toTy s t v=some (x,os)->os=[]
 |s,t,.ty u y,x,os,_,h=>by
  grind[toTy]
 |s,t,.agg cs,x,os,hn,h=>by
  cases t with
  |st n=>
   simp[toTy] at h
   split at h
   .rename_i h1 os1 hh
    obtain ⟨_,rfl⟩:=h
    exact noShs_own s _ cs hn hh
   .cases h
  |_=>simp[toTy] at h
 |s,t,.kb b,x,os,_,h=>by
  cases t<;>simp[toTy] at h
  simp_all
 |s,t,.kn k n,x,os,_,h=>by
  cases t<;>simp only[toTy] at h<;>try (cases h;done)
  grind
 |s,t,.emp,x,os,_,h=>by
  cases t<;>simp[toTy] at h
  simp_all
 |s,t,.clp n u l,x,os,_,h=>by
  cases t<;>simp only[toTy] at h<;>try (cases h;done)
  grind
 |s,t,.cln n u y,x,os,_,h=>by
  cases t<;>simp only[toTy] at h<;>try (cases h;done)
  grind
 |s,t,.nel _ _ _ _,x,os,hn,_=>by simp[noSh] at hn
 |s,t,.sh _ _,x,os,hn,_=>by simp[noSh] at hn
 |s,t,.dat d,x,os,_,h=>by
  cases t with
  |ifc n=>
   cases d with
   |lit v=>cases v<;>simp[toTy] at h;simp_all
   |_=>simp[toTy] at h
  |opt n=>
   cases d with
   |lit v=>cases v with
    |pointer a=>cases a<;>simp[toTy] at h;simp_all
    |_=>simp[toTy] at h
   |_=>simp[toTy] at h
  |_=>simp[toTy] at h
 |s,t,.mp _,_,_,_,h=>by cases t<;>simp[toTy] at h
 |s,t,.yld _,_,_,_,h=>by cases t<;>simp[toTy] at h
 |s,t,.slb _ _,_,_,_,h=>by cases t<;>simp[toTy] at h
 |s,t,.itr _,_,_,_,h=>by cases t<;>simp[toTy] at h
 |s,t,.ub _,_,_,_,h=>by cases t<;>simp[toTy] at h
 |s,t,.ptr _ _,_,_,_,h=>by cases t<;>simp[toTy] at h
 |s,t,.ept _ _ _,_,_,_,h=>by cases t<;>simp[toTy] at h
 |s,t,.epw _ _ _ _,_,_,_,h=>by cases t<;>simp[toTy] at h
 |s,t,.fn _ _ _,_,_,_,h=>by cases t<;>simp[toTy] at h
 |s,t,.ifc u v,x,os,hn,h=>by
  cases t<;>simp only[toTy] at h<;>try (cases h;done)
  split at h
  .split at h
   .rename_i y os1 hy
    obtain ⟨_,rfl⟩:=h
    exact noSh_own s _ v hn hy
   .cases h
  .cases h
 |s,t,.tup _,_,_,_,h=>by cases t<;>simp[toTy] at h
 |s,t,.gd _ _,_,_,_,h=>by cases t<;>simp[toTy] at h
theorem noShs_own:∀(s:StV S) (ts:List Ty) (l:List (V S)) {h:hden S.A ts} {os:List Nat},noShs l=true->toTys s ts l=some (h,os)->os=[]
 |s,[],[],x,os,_,h=>by grind[toTys]
 |s,t ::ts,v ::l,x,os,hn,h=>by
  simp[toTys] at h
  split at h
  .rename_i x1 os1 h1 os2 e1 e2
   obtain ⟨_,rfl⟩:=h
   simp[noShs,Bool.and_eq_true] at hn
   rw[noSh_own s t v hn.1 e1,noShs_own s ts l hn.2 e2]
   rfl
  .cases h
 |s,[],_ ::_,_,_,_,h=>by simp[toTys] at h
 |s,_ ::_,[],_,_,_,h=>by simp[toTys] at h
end
end
end TL
end
section
namespace TL
open Go
variable {S:Sg}
def movesB:Op->Bool
 | .alloc _|.box ..|.store ..|.buildSlice ..|.slice ..|.makeMap ..|.mapUpdate ..|.insert ..|.makeSlice ..|.range ..|.next ..|.defer ..=>true
 |_=>false
theorem opV0_stays {E:EnvT} {fr:FrV S} {s s':StV S} {o:Op} {c:Bool} {v:V S} (h:opV0 E fr s o=some (c,v,s')) (hq:movesB o=false):s'=s:=by
 cases o with
 |alloc=>cases hq
 |box=>cases hq
 |store=>cases hq
 |buildSlice=>cases hq
 |slice=>cases hq
 |move x=>simp only[opV0,Option.map_eq_some_iff,Prod.mk.injEq] at h;grind
 |assign x=>simp only[opV0,Option.map_eq_some_iff,Prod.mk.injEq] at h;grind
 |pick x y z=>
  simp[opV0] at h
  split at h
  .simp only[Option.map_eq_some_iff,Prod.mk.injEq] at h;grind
  .cases h
 |build t ps=>
  simp[opV0] at h
  split at h
  .split at h
   .simp only[Option.map_eq_some_iff,Prod.mk.injEq] at h;grind
   .cases h
  .cases h
 |load t x=>
  simp[opV0] at h
  split at h
  .unfold loadV at h
   split at h
   .split at h
    .rcases cond_some h with ⟨_,h⟩|⟨_,h⟩
     .simp only[Option.map_eq_some_iff,Prod.mk.injEq] at h;grind
     .cases h
    .cases h
   .simp only[Option.map_eq_some_iff,Prod.mk.injEq] at h;grind
   .split at h
    .simp at h;grind
    .cases h
   .cases h
  .cases h
 |nilCheck x=>
  simp[opV0] at h
  grind
 |binOp op t x y u=>
  simp[opV0] at h
  split at h
  .simp only[Option.map_eq_some_iff,Prod.mk.injEq] at h;grind
  .cases h
 |unOp op t x=>
  simp[opV0] at h
  split at h
  .simp only[Option.map_eq_some_iff,Prod.mk.injEq] at h;grind
  .cases h
 |convert t u x=>
  grind[opV0,convV_low]
 |makeInterface t x=>
  simp[opV0] at h
  grind
 |makeFunc f a b=>
  simp[opV0] at h
  grind
 |extract x k=>
  grind[opV0,extractV_low]
 |fieldAddr t x k=>
  grind[opV0,fieldAddrV_low]
 |field t x k=>
  simp[opV0] at h
  split at h
  .unfold fieldV at h
   split at h
   .split at h
    .rcases cond_some h with ⟨_,h⟩|⟨_,h⟩
     .simp only[Option.map_eq_some_iff,Prod.mk.injEq] at h;grind
     .cases h
    .cases h
   .cases h
  .cases h
 |indexAddr t x y=>
  simp[opV0] at h
  split at h
  .unfold indexAddrV at h
   split at h
   .grind
   .have:=arrAddrV_st h
    grind
   .cases h
  .cases h
 |index t x y=>
  simp[opV0] at h
  split at h
  .unfold indexV at h
   grind
  .cases h
 |typeAssert x t u ok=>
  grind[opV0,assertV_low]
 |_=>simp[opV0] at h
theorem opX_stays {E:EnvT} {fr:FrV S} {s s':StV S} {o:Op} {c:Bool} {v:V S} (h:opX E fr s o=some (c,v,s')) (hq:movesB o=false):s'=s:=by
 unfold opX at h
 split at h
 .cases hq
 .grind
 .cases hq
 .cases hq
 .cases hq
 .cases hq
 .grind
 .grind
 .grind
 .grind
 .grind
 .grind
 .grind
 .split at h
  rotate_left
  .cases h
  split at h
  rotate_left
  .cases h
  simp only[Option.map_eq_some_iff,Prod.mk.injEq] at h
  grind
 .cases hq
 .cases h
theorem opN_stays {E:EnvT} {fr:FrV S} {s s':StV S} {o:Op} {c:Bool} {v:V S} (h:opN E fr s o=some (c,v,s')) (hq:movesB o=false):s'=s:=by
 unfold opN at h
 split at h
 .grind
 .split at h
  .split at h
   .split at h
    .rcases cond_some h with ⟨_,h⟩|⟨_,h⟩
     .rcases cond_some h with ⟨_,h⟩|⟨_,h⟩
      .grind
      .rcases cond_some h with ⟨_,h⟩|⟨_,h⟩
       .simp at h;grind
       .cases h
     .cases h
    .cases h
   .cases h
  .cases h
 .cases hq
 .cases hq
 .cases hq
 .cases hq
 .cases h
theorem opV_stays {E:EnvT} {fr:FrV S} {s s':StV S} {o:Op} {c:Bool} {v:V S} (h:opV E fr s o=some (c,v,s')) (hq:movesB o=false):s'=s:=by
 grind[opV,opN_stays,opV0_stays,opX_stays]
theorem opV_eq0 {E:EnvT} {fr:FrV S} {s:StV S} {o:Op} (h:opX E fr s o=none) (hn:opN E fr s o=none):opV E fr s o=opV0 E fr s o:=by
 grind[opV]
theorem armsQ_K {ω:Type} (k:V S->Option ω) (d:Option ω):∀l:List (Bool×V S×StV S),armsQ k d l=armsK (λv _=>k v) d l
 |[]=>rfl
 |p ::l=>by simp[armsQ,armsK,armsQ_K k d l]
theorem noSh_map {l:List (Nat×V S)} (h:noShs (l.map (·.2))=true):∀p∈l,noSh p.2=true:=by
 induction l with
 |nil=>simp_all
 |cons a l ih=>
  simp[List.map_cons,noShs,Bool.and_eq_true] at h
  grind
theorem elemsV_os {s:StV S} {e:Ty}:∀{ps:List (Nat×V S)} {es r:List (den S.A e)} {os:List Nat},(∀p∈ps,noSh p.2=true)->elemsV s e es ps=some (r,os)->os=[]
 |[],es,r,os,_,h=>by grind[elemsV]
 |(k,v) ::ps,es,r,os,hn,h=>by
  simp[elemsV] at h
  split at h
  .cases h
  .rename_i x os1 hx
   rcases cond_some h with ⟨_,h⟩|⟨_,h⟩
   .split at h
    .rename_i r' os2 hr
     obtain ⟨_,rfl⟩:=h
     rw[noSh_own s e v (hn _ List.mem_cons_self) hx,elemsV_os (λp hp=>hn p (List.mem_cons_of_mem _ hp)) hr]
     rfl
    .cases h
   .cases h
theorem hasFn_noShs {l:List (Nat×V S)} (h:noShs (l.map (·.2))=true):hasFn l=false:=by
 cases l with
 |nil=>rfl
 |cons p l=>
  obtain ⟨k,v⟩:=p
  cases v with
  |fn=>simp[noShs,noSh] at h
  |_=>rfl
theorem opX_bs {E:EnvT} {fr:FrV S} {s:StV S} {t:TypeId} {n:Nat} {ps:Array (Nat×Operand)} {l:List (Nat×V S)} (hl:partsV fr ps.toList=some l) (hn:noShs (l.map (·.2))=true):opX E fr s (.buildSlice t n ps)=none:=by
 simp only[opX,hl]
 split
 .rename_i heq
  cases heq
  split
  .rw[hasFn_noShs hn]
   simp
  .rfl
 .rfl
theorem buildSlice_stays {E:EnvT} {fr:FrV S} {s s':StV S} {t:TypeId} {n:Nat} {ps:Array (Nat×Operand)} {l:List (Nat×V S)} {c:Bool} {v:V S} (hl:partsV fr ps.toList=some l) (hn:noShs (l.map (·.2))=true)
  (h:opV E fr s (.buildSlice t n ps)=some (c,v,s')):s'=s:=by
 cases hN:opN E fr s (.buildSlice t n ps) with
 |some r=>
  simp[opV,hN,Option.some.injEq] at h
  simp[opN] at hN
  split at hN
  .rename_i kx hps
   split at hN
   .rename_i i n' cs _ _ hkx
    split at hN
    .split at hN
     .rcases cond_some hN with ⟨_,hN⟩|⟨_,hN⟩
      .split at hN
       .rename_i x os hx
        have hl':l=[(0,.agg cs)]:=by
         grind[partsV,opdV]
        subst hl'
        simp[List.map_cons,List.map_nil,noShs,Bool.and_true] at hn
        grind[noSh_own,freezeV]
       .cases hN
      .cases hN
     .cases hN
    .cases hN
   .cases hN
  .grind
  .cases hN
 |none=>
 rw[opV_eq0 (opX_bs hl hn) hN] at h
 simp only[opV0] at h
 split at h
 .rename_i i e ps' _ _ hps
  rw[hl] at hps
  cases hps
  split at h
  .rcases cond_some h with ⟨_,h⟩|⟨_,h⟩
   .split at h
    .rename_i es os hel
     have:=elemsV_os (noSh_map hn) hel
     grind[freezeV]
    .cases h
   .cases h
  .cases h
 .cases h
theorem opN_slice {E:EnvT} {fr:FrV S} {s:StV S} {t:TypeId} {x:Operand} {lo hi mx:Option Operand} {u:V S} (hl:opdV fr x=some u) (hn:noSh u=true):opN E fr s (.slice t x lo hi mx)=none:=by
 cases lo<;>cases hi<;>cases mx<;>first
  |rfl
  |(
    simp only[opN,hl]
    split
    .rename_i h2 _
     cases h2
     simp[noSh] at hn
    .rfl)
theorem slice_stays {E:EnvT} {fr:FrV S} {s s':StV S} {t:TypeId} {x:Operand} {lo hi mx:Option Operand} {u:V S} {c:Bool} {v:V S} (hl:opdV fr x=some u) (hn:noSh u=true)
  (h:opV E fr s (.slice t x lo hi mx)=some (c,v,s')):s'=s:=by
 rw[opV_eq0 rfl (opN_slice hl hn)] at h
 simp[opV0] at h
 split at h
 .rename_i i a l1 l2 l3 _ ha _ _ _
  rw[hl] at ha
  cases ha
  rcases sliceV_log h with rfl|h
  .rfl
  .have:ownV u=[]:=by
    cases u<;>first|rfl|simp[noSh] at hn
   grind[freezeV]
 .cases h
theorem packPs_only {s:StV S}:∀{ps:List Pk} {l:List (V S)} {x:pden S.A ps} {fz ow bs:List Nat},onlyDat ps=true->noShs l=true->packPs s ps l none=some (x,fz,ow,bs)->fz=[]∧ow=[]∧bs=[]
 |[],[],x,fz,ow,bs,_,_,h=>by
  grind[packPs]
 | .one (.dat t) ::ps,v ::l,x,fz,ow,bs,ho,hn,h=>by
  simp[packPs] at h
  simp[noShs,Bool.and_eq_true] at hn
  split at h
  .rename_i x1 a1 b1 h1 a2 b2 bs2 e1 e2
   obtain ⟨_,rfl,rfl,rfl⟩:=h
   obtain ⟨rfl,rfl,rfl⟩:=packPs_only (by simpa[onlyDat] using ho) hn.2 e2
   simp[packC] at e1
   split at e1
   .rename_i y os hy
    obtain ⟨_,rfl,rfl⟩:=e1
    rw[noSh_own s t v hn.1 hy]
    simp_all
   .cases e1
  .cases h
 | .one (.own _) ::_,_,_,_,_,_,ho,_,_=>by simp[onlyDat] at ho
 | .one (.nown ..) ::_,_,_,_,_,_,ho,_,_=>by simp[onlyDat] at ho
 | .one (.nil _) ::_,_,_,_,_,_,ho,_,_=>by simp[onlyDat] at ho
 | .one (.ptr _) ::_,_,_,_,_,_,ho,_,_=>by simp[onlyDat] at ho
 | .box _ ::_,_,_,_,_,_,ho,_,_=>by simp[onlyDat] at ho
 | .hid _ ::_,_,_,_,_,_,ho,_,_=>by simp[onlyDat] at ho
 |[],_ ::_,_,_,_,_,_,_,h=>by simp[packPs] at h
 | .one _ ::_,[],_,_,_,_,_,_,h=>by simp[packPs] at h
theorem putBs_only {s:StV S}:∀{ps:List Pk} (r:bden S.A ps),onlyDat ps=true->putBs s ps [] r=some s
 |[],_,_=>rfl
 | .one (.dat t) ::ps,r,h=>by
  exact putBs_only (ps:=ps) r (by simpa[onlyDat] using h)
 | .one (.own _) ::_,_,ho=>by simp[onlyDat] at ho
 | .one (.nown ..) ::_,_,ho=>by simp[onlyDat] at ho
 | .one (.nil _) ::_,_,ho=>by simp[onlyDat] at ho
 | .one (.ptr _) ::_,_,ho=>by simp[onlyDat] at ho
 | .box _ ::_,_,ho=>by simp[onlyDat] at ho
 | .hid _ ::_,_,ho=>by simp[onlyDat] at ho
theorem unCs_dat {s:StV S}:∀{cs:List Ck} (x:cden S.A cs),allDat cs=true->unCs s cs x=(datVs cs x,s)
 |[],_,_=>rfl
 | .dat t ::cs,x,h=>by
  simp only[unCs,unC,datVs]
  rw[unCs_dat (cs:=cs) x.2 (by simpa[allDat] using h)]
 | .own _ ::_,_,h=>by simp[allDat] at h
 | .nown .. ::_,_,h=>by simp[allDat] at h
 | .nil _ ::_,_,h=>by simp[allDat] at h
 | .ptr _ ::_,_,h=>by simp[allDat] at h
theorem hasPt_only:∀{ps:List Pk},onlyDat ps=true->hasPt ps=false
 |[],_=>rfl
 | .one (.dat t) ::ps,h=>hasPt_only (ps:=ps) (by simpa[onlyDat] using h)
 | .one (.own _) ::_,ho=>by simp[onlyDat] at ho
 | .one (.nown ..) ::_,ho=>by simp[onlyDat] at ho
 | .one (.nil _) ::_,ho=>by simp[onlyDat] at ho
 | .one (.ptr _) ::_,ho=>by simp[onlyDat] at ho
 | .box _ ::_,ho=>by simp[onlyDat] at ho
 | .hid _ ::_,ho=>by simp[onlyDat] at ho
theorem evCon_quiet {s:StV S} (hn:s.nob<=bigN) {c:Con S} {args:List (V S)} (h1:onlyDat c.ps=true) (h2:allDat c.rs=true) (h3:noShs args=true) {x:pden S.A c.ps} {fz ow bs:List Nat} (hp:packPs s c.ps args none=some (x,fz,ow,bs))
  {r0:RT c.pn (cden S.A c.rs×bden S.A c.ps) (den S.A S.pt×bden S.A c.ps)} {r:cden S.A c.rs×bden S.A c.ps} (hF:c.F x=some r0) (hr:RT.res c.pn r0=.ok r):evCon s c args (λ_ _=>none) (λt s' ow=>some (t,s',ow))=some (tupV (datVs c.rs r.1),s,[]):=by
 obtain ⟨rfl,rfl,rfl⟩:=packPs_only h1 h3 hp
 have hble:Nat.ble s.nob bigN=true:=Nat.ble_eq_true_of_le hn
 unfold evCon
 rw[hasPt_only h1]
 simp only[cond_false]
 rw[hp]
 simp only[freezeV]
 cases lendB c with
 |true=>simp[cond_true,hF,bnd,hr]
 |false=>
 simp[cond_false,nodupN,apartN,List.all_nil,Bool.and_self,cond_true,hF,bnd,List.nil_append,hr]
 have e:delBs [] (forget [] s)=s:=rfl
 rw[e,putBs_only _ h1]
 simp[unCs_dat _ h2,hble,cond_true]
def gTrue (g:Option Bool):Prop:=g=none∨g=some true
theorem gchk_some {α:Type} {g:Option Bool} {p:Bool} {x:Option α} {r:α} (hg:gTrue g) (h:gchk g p x=some r):p=true∧x=some r:=by
 rcases hg with rfl|rfl
 .exact chk_some h
 .exact chk_some h
theorem gsel_eq {α:Type} {g:Option Bool} {x:Option α} {z:α} (hg:gTrue g):gsel g x z=x:=by
 rcases hg with rfl|rfl<;>rfl
section
variable {g:Gh} {w:World}
theorem builtinN_len {E:EnvT} (hEE:EnvOk E.E) {fr:FrV S} {s s':StV S} {a:Act} (hf:FRel g (lowFr fr) a w) (hs:SRel g (lowSt s) w) {o:Oper} {cl:Call} (hop:o.op=.call cl) (hb:cl.callee=.builtin .len) {args:List (V S)} (hargs:opdsV fr cl.args.toList=some args) {c:Bool} {t:V S}
  (h:builtinN E s .len cl.argTypes args=some (c,t,s')):∃v,(execOp a.eval o).run E.E.P w=.ok (.value v) w∧TRel g w (low t) v:=by
 have hpw:=opdsT_sound hf (opdsV_low hargs)
 unfold builtinN at h
 split at h
 .rename_i oid r _
  split at h
  rotate_left
  .cases h
  rename_i n j l era m rera hole hob
  split at h
  rotate_left
  .cases h
  rename_i i n' hi hty
  split at h
  rotate_left
  .cases h
  rename_i sz ag bt zz hkd
  rcases cond_some h with ⟨hbb,h9⟩|⟨_,h9⟩
  rotate_left
  .cases h9
  simp only[Bool.and_eq_true] at hbb
  have hre:=beq_iff'.1 hbb.1
  subst hre
  obtain ⟨_,rfl,rfl⟩:=h9
  have hx0:TRel g w (.sh oid r) ((cl.args.toList.map a.eval)[0]'(by have:=hpw.1;simp[lows] at this;simp;omega)):=hpw.2 0 _ _ rfl (List.getElem?_eq_getElem _)
  let ⟨xs,hxs,_⟩:=sh_inv hx0
  have hoN:oid<bigN:=Nat.lt_of_lt_of_le (hs.lt' hxs) hs.nob
  let ⟨hl,h1,h2,h3,h4⟩:=viewV hs hob hxs
  have hlen:(lits j (l.map (enc S (.st n))) hl).length=l.length:=by rw[lits_len (by simpa using h1)];simp
  let ⟨_,v,hrun,ht⟩:=len_wp hEE hf h4 hop hb (opdsV_low hargs) (p:=True) (t:=.sym (.lit (.int .i64 (D.len (lits j (l.map (enc S (.st n))) hl))))) (s':=viewS s oid (.arr (S.width (.st n)) (lits j (l.map (enc S (.st n))) hl) r)) (by
   have hi':(nth cl.argTypes.toList 0).bind E.E.ti=some i:=hi
   simp only[lows,low,builtinT,strT,hi',hkd,slT]
   rw[viewS_get hoN,if_pos rfl]
   simp) trivial
  refine ⟨v,hrun,?_⟩
  have e:D.len (lits j (l.map (enc S (.st n))) hl)=lenI l:=by simp[D.len,hlen,lenI]
  rw[e] at ht
  exact ht
 .rename_i h0
  exact Builtin.noConfusion h0
 .rename_i h0
  exact Builtin.noConfusion h0
 .cases h
theorem evQuiet_sound {E:EnvV S} (hE:EnvVOk E) {fr:FrV S} {s:StV S} {a:Act} (hf:FRel g (lowFr fr) a w) (hs:SRel g (lowSt s) w) {o:Oper} {gd:Option Bool} (hg:gTrue gd) {ω:Type} {k:V S->Option ω} {r:ω}
  (h:evQuiet E gd fr s o k=some r) {K:Act->World->Prop} {Q:Exit->Act->World->Prop} (hK:∀t g' v w',k t=some r->AftV [] s g w s g' w'->TRel g' w' (low t) v->K (a.put o.dst v) w') :
  o.wp E.T.E.P a w K Q:=by
 have plain:∀{c:Bool} {t:V S} {s':StV S},opV E.T fr s o.op=some (c,t,s')->s'=s->gchk gd c (k t)=some r->o.wp E.T.E.P a w K Q:=by
  intro c t s' hop hss h9
  subst hss
  let ⟨hp,hk⟩:=gchk_some hg h9
  let ⟨v,w',g',hr,ht,haft⟩:=opV_aft hE hf hs o hop hp
  unfold Oper.wp
  rcases hr with hr|⟨hr,rfl⟩
  .rw[hr];exact hK t g' v w' hk haft ht
  .rw[hr];exact hK t g' undef w' hk haft ht
 unfold evQuiet at h
 split at h
 .rename_i c hop
  split at h
  .cases h
  .rename_i args hargs
   have hargs':=opdsV_low hargs
   split at h
   .rename_i b hb
    rcases cond_some h with ⟨hqb,h⟩|⟨_,h⟩
    rotate_left
    .cases h
    split at h
    .rename_i p t s' hbt
     let ⟨hp,hk⟩:=gchk_some hg h
     unfold builtinV at hbt
     split at hbt
     .rename_i r0 h0
      cases hbt
      cases b with
      |len=>
       let ⟨v,hrun,ht⟩:=builtinN_len hE.env hf hs hop hb hargs h0
       unfold Oper.wp
       rw[hrun]
       exact hK t g v w hk (AftV.refl hs) ht
      |append=>cases hqb
      |_=>simp[builtinN] at h0
     split at hbt
     .rename_i r0 h0
      cases hbt
      let ⟨q,hq,hqp⟩:=builtinV0_low hE.sg hE.ty h0 hp
      cases b with
      |len=>
       let ⟨hss,v,hrun,ht⟩:=len_wp hE.env hf hs hop hb hargs' hq hqp
       unfold Oper.wp
       rw[hrun]
       exact hK t g v w hk (AftV.refl hs) ht
      |max=>simp[builtinV0] at h0
      |min=>simp[builtinV0] at h0
      |_=>cases hqb
     split at hbt
     .rename_i r0 h0
      cases hbt
      obtain ⟨rfl,v,hr,ht⟩:=builtinX_aft hE.tab hE.x hs hf hop hb hargs h0
      unfold Oper.wp
      rw[hr]
      exact hK t g v w hk (AftV.refl hs) ht
     .cases b<;>first|(cases hqb;done)|(simp[builtinD] at hbt)
    .cases h
   .rename_i fv hfv
    split at h
    .cases h
    .rename_i f args' hfa
     split at h
     .cases h
     .rename_i cc hgam
      rcases cond_some h with ⟨hcond,h⟩|⟨_,h⟩
      .simp only[Bool.and_eq_true] at hcond
       split at h
       .rename_i x _ _ _ b hpk hnb
        let ⟨rr,hF,hk⟩:=bnd_some h
        rw[gsel_eq hg] at hF
        split at hk
        rotate_left
        .cases hk
        rename_i r1 hr1
        have hq:=evCon_quiet hs.nob hcond.1 hcond.2.1 hcond.2.2.1 hpk hF hr1
        simp[Option.bind_eq_some_iff] at hfa
        let ⟨tf,htf,hcal⟩:=hfa
        have hrf:=opdT_sound hf (opdV_low htf)
        have hpw:=opdsT_sound hf hargs'
        have hcal':=calleeV_low hcal
        unfold calleeT at hcal'
        split at hcal'
        .rename_i f' first cap hlow
         simp only[Option.some.injEq,Prod.mk.injEq] at hcal'
         obtain ⟨rfl,hargs2⟩:=hcal'
         rw[hlow] at hrf
         generalize hvf:a.eval fv=vf at hrf
         cases hrf with
         |fn _ _ _ va vc l1 l2 r1 r2=>
         have hall:PW (TRel g w) (lows args') (va++c.args.map a.eval++vc).toList:=by
          rw[<-hargs2]
          simp only[Array.toList_append,Array.toList_map]
          exact PW.append (PW.append ⟨by simpa using l1,λj x y h1 h2=>r1 j x y h1 (by simpa using h2)⟩ hpw) ⟨by simpa using l2,λj x y h1 h2=>r2 j x y h1 (by simpa using h2)⟩
         let ⟨hent,hc⟩:=evCon_sound hE.sg (hE.gam _ _ hgam) hs hall hq
         unfold Oper.wp
         rw[run_execCall hop hfv hvf hent]
         refine hc.mono λe w' he=>?_
         grind
        .cases hcal'
       .cases h
      .cases h
   .cases h
 iterate 11
  .cases h
 .rename_i t n ps hop
  split at h
  .rename_i l hl
   rcases cond_some h with ⟨hn,h⟩|⟨_,h⟩
   .grind[buildSlice_stays]
   .cases h
  .cases h
 .rename_i t x lo hi mx hop
  split at h
  .rename_i v hv
   rcases cond_some h with ⟨hn,h⟩|⟨_,h⟩
   .grind[slice_stays]
   .cases h
  .cases h
 all_goals try (cases h;done)
 rename_i op h1 h2 h3 h4 h5 h6 h7 h8 h9 h10 h11 h12 h13 h14
 have hmv:movesB o.op=false:=by
  cases hop:o.op with
  |store x y z=>simp_all
  |alloc x=>simp_all
  |box x y=>simp_all
  |makeMap x y=>simp_all
  |mapUpdate x y z u=>grind
  |insert x y z u=>grind
  |makeSlice x y z=>simp_all
  |range x y=>simp_all
  |next x y=>simp_all
  |defer x=>simp_all
  |buildSlice x y z=>simp_all
  |slice x y z u v=>grind
  |_=>rfl
 split at h
 .rename_i arms p d s' hop
  have hx:armsK (λv _=>k v) (chk p (k d)) arms=some r:=by
   rw[<-armsQ_K]
   rcases hg with rfl|rfl
   .exact h
   .simpa[gchk,imp] using h
  let ⟨t,s1,v,w',g',k1,k2,k3,k4,k5⟩:=opS_aft hE.tab hE.x hf hs o hop (X:=λv _=>k v) hx
  have:s1=s:=k5 λit b hh=>by simp_all
  subst this
  unfold Oper.wp
  rcases k2 with hr|⟨hr,rfl⟩
  .rw[hr];exact hK t g' v w' k1 k4 k3
  .rw[hr];exact hK t g' undef w' k1 k4 k3
 grind[opV_stays]
theorem armsQ_skip {ω:Type} {k:V S->Option ω} {d:Option ω} {r:ω}:∀{l:List (Bool×V S×StV S)},armsQ k d l=some r->(∃t,k t=some r)∨d=some r
 |[],h=>.inr h
 |p ::l,h=>by
  rcases sel_some h with ⟨_,h⟩|⟨_,h⟩
  .grind
  .exact armsQ_skip h
theorem evQuiet_skip {E:EnvV S} {fr:FrV S} {s:StV S} {o:Oper} {ω:Type} {k:V S->Option ω} {r:ω} (h:evQuiet E (some false) fr s o k=some r):∃t,k t=some r:=by
 have gk:∀{p:Bool} {x:Option ω},gchk (some false) p x=some r->x=some r:=λh=>(chk_some h).2
 unfold evQuiet at h
 split at h
 .split at h
  .cases h
  .split at h
   .grind
   .split at h
    .cases h
    .split at h
     .cases h
     .rcases cond_some h with ⟨_,h⟩|⟨_,h⟩
      .split at h
       .let ⟨rr,_,hk⟩:=bnd_some h
        grind
       .cases h
      .cases h
   .cases h
 iterate 11
  .cases h
 .grind
 .grind
 .split at h
  .rcases armsQ_skip h with h|h
   .exact h
   grind
  grind
end
end TL
end
section
namespace TL
open Go
variable {S:Sg}
def dfMent (p:Nat->Bool):DfV S->Bool
 | .call f args=>mentP p f||args.any (mentP p)
 | .mark o=>mentP (S:=S) p (.ptr o 0)
 | .marks o=>mentP (S:=S) p (.sh o 0)
 | .bads=>true
 | .bad=>true
theorem dfMent_mono {p q:Nat->Bool} (h:∀o,p o=true->q o=true):∀d:DfV S,dfMent p d=true->dfMent q d=true
 | .call f args,hm=>by
  simp[dfMent,Bool.or_eq_true,List.any_eq_true] at hm ⊢
  grind[mentP_mono]
 | .mark o,hm=>h o hm
 | .marks o,hm=>h o hm
 | .bads,_=>rfl
 | .bad,_=>rfl
inductive DfEq (p:Nat->Bool):List (DfV S)->List (DfV S)->Prop where
 |nil:DfEq p [] []
 |cons {d e:DfV S} {l m:List (DfV S)} (h:e=d∨(((e=.bad∧d.one=true)∨(e=.bads∧d.one=false))∧dfMent p d=true)) (t:DfEq p l m):DfEq p (d ::l) (e ::m)
theorem DfEq.refl (p:Nat->Bool):∀l:List (DfV S),DfEq p l l
 |[]=>.nil
 |_ ::l=>.cons (.inl rfl) (DfEq.refl p l)
theorem DfEq.mono {p q:Nat->Bool} (h:∀o,p o=true->q o=true) {l m:List (DfV S)} (k:DfEq p l m):DfEq q l m:=by
 induction k with
 |nil=>exact .nil
 |cons hd _ ih=>exact .cons (hd.imp id λ⟨a,b⟩=>⟨a,dfMent_mono h _ b⟩) ih
theorem DfEq.trans {p:Nat->Bool}:∀{l m n:List (DfV S)},DfEq p l m->DfEq p m n->DfEq p l n
 |_,_,_,.nil,.nil=>.nil
 |_,_,_,.cons h t,.cons h' t'=>by
  refine .cons ?_ (t.trans t')
  rcases h with rfl|⟨⟨rfl,h1⟩|⟨rfl,h1⟩,h⟩
  .exact h'
  .rcases h' with rfl|⟨⟨rfl,_⟩|⟨rfl,h2⟩,_⟩
   .simp_all
   .simp_all
   .cases h2
  .rcases h' with rfl|⟨⟨rfl,h2⟩|⟨rfl,_⟩,_⟩
   .simp_all
   .cases h2
   simp_all
theorem DfEq.split {p:Nat->Bool}:∀{a b m:List (DfV S)},DfEq p (a++b) m->∃c d,m=c++d∧DfEq p b d
 |[],_,m,h=>⟨[],m,rfl,h⟩
 |_ ::_,_,_,.cons _ t=>by
  let ⟨c,d,h1,h2⟩:=t.split
  grind
theorem DfEq.len {p:Nat->Bool} {l m:List (DfV S)} (h:DfEq p l m):m.length=l.length:=by
 induction h with
 |nil=>rfl
 |cons _ _ ih=>simp[ih]
def DfOk (p:Nat->Bool) (l m:List (DfV S)):Prop:=∃c d,m=c++d∧DfEq p l d
theorem DfOk.refl (p:Nat->Bool) (l:List (DfV S)):DfOk p l l:=⟨[],l,rfl,.refl p l⟩
theorem DfEq.ok {p:Nat->Bool} {l m:List (DfV S)} (h:DfEq p l m):DfOk p l m:=⟨[],m,rfl,h⟩
theorem DfOk.mono {p q:Nat->Bool} (h:∀o,p o=true->q o=true) {l m:List (DfV S)} (k:DfOk p l m):DfOk q l m:=by
 let ⟨c,d,h1,h2⟩:=k
 exact ⟨c,d,h1,h2.mono h⟩
theorem DfOk.trans {p:Nat->Bool} {l m n:List (DfV S)} (h:DfOk p l m) (k:DfOk p m n):DfOk p l n:=by
 obtain ⟨c,d,rfl,h2⟩:=h
 obtain ⟨c',d',rfl,h4⟩:=k
 obtain ⟨x,y,rfl,h5⟩:=h4.split
 exact ⟨c'++x,y,by rw[List.append_assoc],h2.trans h5⟩
theorem DfOk.eq {p:Nat->Bool} {l m:List (DfV S)} (h:DfOk p l m) (hl:m.length=l.length):DfEq p l m:=by
 obtain ⟨c,d,rfl,h2⟩:=h
 have:=h2.len
 simp_all
structure FrOk (ds:List Nat) (fr fr':FrV S) (dr:List Nat) (nob:Nat):Prop where
 tm:∀k v,k∉ds->fr.get k=some v->fr'.get k=some v∨mentP (outP dr nob) v=true
 df:DfOk (outP dr nob) fr.df fr'.df
theorem FrOk.refl (ds:List Nat) (fr:FrV S) (dr:List Nat) (nob:Nat):FrOk ds fr fr dr nob:=⟨λ_ _ _ h=>.inl h,DfOk.refl _ _⟩
theorem FrOk.trans {ds ds':List Nat} {fr fr' fr'':FrV S} {dr dr':List Nat} {nob nob':Nat} (h:FrOk ds fr fr' dr nob) (k:FrOk ds' fr' fr'' dr' nob') (hw:∀o∈dr,o∈dr') (hn:nob<=nob'):FrOk (ds++ds') fr fr'' dr' nob:=by
 refine ⟨λj v hj hv=>?_,(h.df.mono (outP_mono hw (Nat.le_refl _))).trans (k.df.mono (outP_mono (λ_ h=>h) hn))⟩
 simp at hj
 rcases h.tm j v hj.1 hv with h1|h1
 .exact (k.tm j v hj.2 h1).imp id (mentP_mono (outP_mono (λ_ h=>h) hn) v)
 .exact .inr (mentP_mono (outP_mono hw (Nat.le_refl _)) v h1)
theorem FrOk.mono {ds ds':List Nat} {fr fr':FrV S} {dr dr':List Nat} {nob:Nat} (h:FrOk ds fr fr' dr nob) (hd:∀k∈ds,k∈ds') (hw:∀o∈dr,o∈dr'):FrOk ds' fr fr' dr' nob:=by
 refine ⟨λj v hj hv=>?_,h.df.mono (outP_mono hw (Nat.le_refl _))⟩
 exact (h.tm j v (λhm=>hj (hd j hm)) hv).imp id (mentP_mono (outP_mono hw (Nat.le_refl _)) v)
theorem cleanDf_ok {p q:Nat->Bool} (hpq:∀o,p o=true->q o=true) {f:V S->Bool} (hf:∀v,f v=mentP p v):∀l:List (DfV S),DfEq q l (l.map (cleanDf f))
 |[]=>.nil
 |d ::l=>by
  refine .cons ?_ (cleanDf_ok hpq hf l)
  cases d with
  |call g args=>
   simp[cleanDf]
   cases hb:f g||args.any f with
   |true=>
    refine .inr ⟨.inl ⟨rfl,rfl⟩,dfMent_mono hpq _ ?_⟩
    simp only[dfMent,<-hf]
    simp_all
   |false=>exact .inl rfl
  |mark o=>
   simp[cleanDf]
   cases hb:f (.ptr o 0) with
   |true=>exact .inr ⟨.inl ⟨rfl,rfl⟩,dfMent_mono hpq _ (by simp[dfMent,<-hf];exact hb)⟩
   |false=>exact .inl rfl
  |marks o=>
   simp[cleanDf]
   cases hb:f (.sh o 0) with
   |true=>exact .inr ⟨.inr ⟨rfl,rfl⟩,dfMent_mono hpq _ (by simp[dfMent,<-hf];exact hb)⟩
   |false=>exact .inl rfl
  |bads=>exact .inl rfl
  |bad=>exact .inl rfl
section
variable {g:Gh} {w:World}
theorem guardV_sound {ops:Array Oper} {fr:FrV S} {a:Act} (hf:FRel g (lowFr fr) a w) {o:Oper} {r:Option Bool} (h:guardV ops.toList fr o=some r) :
  match r with
  |none=>Region.wanted o (yielded ops a.tmps)=true
  |some c=>Region.wanted o (yielded ops a.tmps)=c:=by
 unfold guardV at h
 split at h
 .grind[Region.wanted]
 .rename_i j want hg
  split at h
  .rename_i b ht
   simp only[Option.bind_eq_some_iff,nth_eq] at ht
   let ⟨d,⟨o',ho',hd⟩,hfr⟩:=ht
   obtain ⟨v,hv,hr⟩:=hf.tm d (low (.kb b)) (by rw[lowFr_get,hfr];rfl)
   cases hr
   have ho2:ops[j]?=some o':=by grind
   have hy:yielded ops a.tmps j=some b:=by simp[yielded,ho2,hd,hv]
   cases b<;>cases want<;>simp only[cond_true,cond_false,Bool.not_true,Bool.not_false,Option.some.injEq] at h<;>subst h<;>simp[Region.wanted,hg,hy]
  .rename_i t _ ht
   split at h
   .rename_i b hb
    simp at h
    subst h
    let ⟨p,e,hp⟩:=boolV_low hb
    simp only[Option.bind_eq_some_iff,nth_eq] at ht
    let ⟨d,⟨o',ho',hd⟩,hfr⟩:=ht
    let ⟨v,hv,hr⟩:=hf.tm d (low t) (by rw[lowFr_get,hfr];rfl)
    have hvb:=boolT_sound e hp hr
    subst hvb
    have ho2:ops[j]?=some o':=by grind
    have hy:yielded ops a.tmps j=some b:=by simp[yielded,ho2,hd,hv]
    simp only[Region.wanted,hg,hy,D.beq]
    cases b<;>cases want<;>rfl
   .cases h
  .cases h
theorem skipV_sound {ops:Array Oper} {fr:FrV S} {a:Act} (hf:FRel g (lowFr fr) a w) {o:Oper} (h:skipV ops.toList fr o=true):Region.wanted o (yielded ops a.tmps)=false:=by
 unfold skipV at h
 split at h
 .cases h
 .rename_i j want hg
  split at h
  .rename_i b ht
   simp only[Option.bind_eq_some_iff,nth_eq] at ht
   let ⟨d,⟨o',ho',hd⟩,hfr⟩:=ht
   obtain ⟨v,hv,hr⟩:=hf.tm d (low (.kb b)) (by rw[lowFr_get,hfr];rfl)
   cases hr
   have ho2:ops[j]?=some o':=by grind
   have hy:yielded ops a.tmps j=some b:=by simp[yielded,ho2,hd,hv]
   cases b<;>cases want<;>first|(cases h;done)|simp[Region.wanted,hg,hy]
  .rename_i l ht
   simp only[Option.bind_eq_some_iff,nth_eq] at ht
   let ⟨d,⟨o',ho',hd⟩,hfr⟩:=ht
   obtain ⟨v,hv,hr⟩:=hf.tm d (low (.dat (.lit (.tuple l)))) (by rw[lowFr_get,hfr];rfl)
   cases hr with
   |sym _ _ hd'=>
   cases hd'
   grind[yielded,Region.wanted]
  .cases h
theorem unit_rel:TRel g w (low (S:=S) unitV) undef:=.sym _ _ (.lit _)
def KbOf (t t':V S):Prop:=t'=t∨∃b,t=.ty .bool b∧t'=.kb b
theorem KbOf.rel {t t':V S} (h:KbOf t t') {v:Value} (ht:TRel g w (low t) v):TRel g w (low t') v:=by
 rcases h with rfl|⟨b,rfl,rfl⟩
 .exact ht
 .cases ht with
  |sym _ _ hd=>cases hd;exact .kb b
theorem splitV_kb {b:Bool} {t:V S} {ω:Type} {k:V S->Option ω} {r:ω} (h:splitV b t k=some r):∃t',KbOf t t'∧k t'=some r:=by
 rcases cond_some h with ⟨_,h'⟩|⟨_,h'⟩
 .clear h
  split at h'
  .rename_i x
   rcases sel_some h' with ⟨rfl,h⟩|⟨rfl,h⟩
   .exact ⟨_,.inr ⟨true,rfl,rfl⟩,h⟩
   .exact ⟨_,.inr ⟨false,rfl,rfl⟩,h⟩
  .exact ⟨_,.inl rfl,h'⟩
 .exact ⟨t,.inl rfl,h'⟩
theorem splitV_sound {b:Bool} {t:V S} {ω:Type} {k:V S->Option ω} {r:ω} (h:splitV b t k=some r) {v:Value} (ht:TRel g w (low t) v):∃t',k t'=some r∧TRel g w (low t') v:=by
 rcases cond_some h with ⟨_,h'⟩|⟨_,h⟩
 .clear h
  split at h'
  .rename_i x
   have hv:v=.bool x:=by
    cases ht with
    |sym _ _ hd=>cases hd;rfl
   subst hv
   rcases sel_some h' with ⟨rfl,h⟩|⟨rfl,h⟩
   .exact ⟨_,h,.kb true⟩
   .exact ⟨_,h,.kb false⟩
  grind
 grind
theorem gdFrV_sound {fr:FrV S} {a:Act} (hf:FRel g (lowFr fr) a w) (hn:fr.n<=bigN) {o:Op} (h:gdOk true fr o=true):FRel g (lowFr (gdFrV fr o)) a w∧(gdFrV fr o).n=fr.n:=by
 have key:∀(l:List Operand) (q:Bool) (f0:FrV S),f0.n=fr.n->(q=true->FRel g (lowFr f0) a w)->
   l.foldl (λp x=>match x with
    | .tmp k=>match fr.get k with
     |some (.gd g _)=>p&&imp true g
     |_=>p
    |_=>p) q=true->
   FRel g (lowFr (l.foldl (λf x=>match x with
    | .tmp k=>match fr.get k with
     |some (.gd _ v)=>f.put k v
     |_=>f
    |_=>f) f0)) a w∧(l.foldl (λf x=>match x with
    | .tmp k=>match fr.get k with
     |some (.gd _ v)=>f.put k v
     |_=>f
    |_=>f) f0).n=fr.n:=by
  intro l
  induction l with
  |nil=>simp_all
  |cons x l ih=>
   intro q f0 hn0 hq h
   simp at h ⊢
   cases x with
   |tmp k=>
    simp only at h ⊢
    split at h
    .rename_i gb v hget
     refine ih _ _ (by simpa[FrV.put] using hn0) (λhpq=>?_) h
     simp at hpq
     have hf0:=hq hpq.1
     have hgb:gb=true:=hpq.2
     subst hgb
     let ⟨u,hu,hr⟩:=hf.tm k (low (.gd true v)) (by rw[lowFr_get,hget];rfl)
     have hklt:k<fr.n:=by
      have:=(Array.getElem?_eq_some_iff.1 hu).1
      rw[hf.size] at this
      exact this
     refine ⟨hf0.size,hf0.df,λk' t' hk'=>?_⟩
     rw[lowFr_get,FrV.get_put _ _ _ _ (Nat.lt_of_lt_of_le hklt hn)] at hk'
     by_cases hkk:k'=k
     .subst hkk
      rw[if_pos rfl] at hk'
      simp at hk'
      cases hr with
      |gd _ _ _ hrel=>simp_all
     .rw[if_neg hkk] at hk'
      exact hf0.tm k' t' (by rw[lowFr_get];exact hk')
    grind
   |const v=>grind
   |global v=>grind
   |func v=>grind
 exact key o.operands.toList true fr rfl (λ_=>hf) h
theorem putO_sound {fr:FrV S} {a:Act} (hf:FRel g (lowFr fr) a w) {dst:Option Nat} (hd:okDstV fr dst=true) (hn:fr.n<=bigN) {t:V S} {v:Value} (ht:TRel g w (low t) v) :
  FRel g (lowFr (fr.putO dst t)) (a.put dst v) w∧(fr.putO dst t).n=fr.n:=by
 refine ⟨?_,by cases dst<;>rfl⟩
 rw[lowFr_putO]
 exact eval_putO hf (by cases dst<;>exact hd) hn ht
theorem putO_frok {fr:FrV S} (hn:fr.n<=bigN) {dst:Option Nat} (hd:okDstV fr dst=true) {ow dr:List Nat} (hw:∀o∈ow,o∈dr) (nob:Nat) (t:V S):FrOk dst.toList fr ((forgetF ow fr).putO dst t) dr nob:=by
 refine ⟨λk v hk hv=>?_,?_⟩
 rotate_left
 .have e:((forgetF ow fr).putO dst t).df=(forgetF ow fr).df:=by cases dst<;>rfl
  rw[e]
  cases ow with
  |nil=>exact DfOk.refl _ _
  |cons o ow=>
   refine (cleanDf_ok (p:=(o ::ow).contains) (λo' ho=>?_) (λv=>ments_P _ v) _).ok
   simp only[outP,Bool.or_eq_true,List.contains_eq_mem,decide_eq_true_eq] at ho ⊢
   grind
 have h1:(forgetF ow fr).get k=some v∨mentP (outP dr nob) v=true:=by
  cases ow with
  |nil=>exact .inl hv
  |cons o ow=>
   cases hm:ments (o ::ow) v with
   |true=>
    rw[ments_P] at hm
    refine .inr (mentP_mono (λo ho=>?_) v hm)
    simp only[outP,Bool.or_eq_true,List.contains_eq_mem,decide_eq_true_eq] at ho ⊢
    grind
   |false=>
    left
    show (fr.tm.keep _).get k=some v
    rw[Tr.get_keep,show fr.tm.get k=some v from hv]
    simp_all
 refine h1.imp (λh1=>?_) id
 cases dst with
 |none=>exact h1
 |some d=>
  have hdn:d<fr.n:=Nat.le_of_ble_eq_true hd
  show ((forgetF ow fr).put d t).get k=some v
  rw[FrV.get_put _ _ _ _ (Nat.lt_of_lt_of_le hdn hn),if_neg (by simpa using hk)]
  exact h1
theorem gd_false_rel (v:Value):TRel g w (low (S:=S) (.gd false unitV)) v:=by
 exact .gd _ _ _ λh=>by cases h
theorem forgetF_n (ow:List Nat) (fr:FrV S):(forgetF ow fr).n=fr.n:=by cases ow<;>rfl
theorem okDst_forget {ow:List Nat} {fr:FrV S} {d:Option Nat} (h:okDstV fr d=true):okDstV (forgetF ow fr) d=true:=by
 simp_all[okDstV,forgetF_n]
theorem evStepV_sound {E:EnvV S} (hE:EnvVOk E) {call:CallV S} (hcall:CallOkV E.T.E.P call) {ops:Array Oper} {fr:FrV S} {s:StV S} {a:Act} (hn:fr.n<=bigN) (hf:FRel g (lowFr fr) a w) (hs:SRel g (lowSt s) w) {o:Oper} {ω:Type}
  {kp:V S->StV S->Option ω} {k:V S->StV S->List Nat->Option ω} {r:ω} (h:evStepV E call ops.toList o fr s kp k=some r) {K:Act->World->Prop} {Q:Exit->Act->World->Prop}
  (hK:∀t s' ow g' v w',k t s' ow=some r->TRel g' w' (low t) v->AftV ow s g w s' g' w'->K (a.put o.dst v) w')
  (hP:∀t s' g' v w',kp t s'=some r->AftV [] s g w s' g' w'->TRel g' w' (low t) v->Q (.panic [{v,recovered:=false}]) a w') {rr:Option Nat} (hrr:rr≠none->∀c,o.op≠.defer c) :
  okDstV fr o.dst=true∧if Region.wanted o (yielded ops a.tmps) then OpR rr E.T.E.P o a w K Q else K (a.put o.dst undef) w:=by
 rcases cond_some h with ⟨hd,h⟩|⟨_,h⟩
 rotate_left
 .cases h
 refine ⟨hd,?_⟩
 rcases cond_some h with ⟨hsk,h⟩|⟨_,h⟩
 .rw[if_neg (by rw[skipV_sound hf hsk];simp_all)]
  exact hK _ s [] g undef w h unit_rel (AftV.refl hs)
 split at h
 .cases h
 .rename_i hg
  have hw:=guardV_sound hf hg
  grind[evOper_sound]
 .rename_i c hg
  have hw:=guardV_sound hf hg
  rcases cond_some h with ⟨_,h⟩|⟨_,h⟩
  .let ⟨hok,h⟩:=chk_some h
   cases c with
   |true=>
    rw[if_pos hw]
    let ⟨hff,hfn⟩:=gdFrV_sound hf hn hok
    exact .of_wp hrr (.inl (evQuiet_sound hE hff hs (.inr rfl) h (λt g' v w' hk haft ht=>hK _ s [] g' v w' hk (by exact .gd _ _ _ λ_=>ht) haft)))
   |false=>
    rw[if_neg (by simp_all)]
    let ⟨t,hk⟩:=evQuiet_skip h
    exact hK _ s [] g undef w hk (by exact .gd _ _ _ λh=>by cases h) (AftV.refl hs)
  .rcases sel_some h with ⟨rfl,h⟩|⟨rfl,h⟩
   .let ⟨hok,h⟩:=chk_some h
    let ⟨hff,hfn⟩:=gdFrV_sound hf hn hok
    grind[evOper_sound]
   .rw[if_neg (by simp_all)]
    exact hK _ s [] g undef w h (gd_false_rel _) (AftV.refl hs)
theorem deferV_sound {P:Program} {fr:FrV S} {a:Act} (hf:FRel g (lowFr fr) a w) {o:Oper} {d:DfV S} (h:deferV fr o=some d) :
  o.guard=none∧∃e,(execOp a.eval o).run P w=.ok (.defer e) w∧DfRel g w (lowDf d) e:=by
 unfold deferV at h
 split at h
 rotate_left
 .cases h
 rename_i c hg hop
 refine ⟨hg,?_⟩
 split at h
 rotate_left
 .cases h
 rename_i f hcal
 split at h
 rotate_left
 .cases h
 rename_i fv va vb args hfv hargs
 simp at h
 subst h
 have hr:=opdT_sound hf (opdV_low hfv)
 have hpw:=opdsT_sound hf (opdsV_low hargs)
 generalize hvf:a.eval f=vf at hr
 cases hr with
 |fn _ _ _ xa xc l1 l2 r1 r2=>
  refine ⟨{target:=.fn fv xc,args:=xa++c.args.map a.eval},?_,?_⟩
  .grind[execOp,resolve,Deferred.ofValue,Sem.run_pure]
  .exact .call (.fn fv (lows va) (lows vb)) (lows args) fv xa xc (c.args.map a.eval) (.fn fv _ _ xa xc l1 l2 r1 r2) (by simpa using hpw.1) (λj t v h1 h2=>hpw.2 j t v h1 (by simpa using h2))
theorem evStep_sound {E:EnvV S} (hE:EnvVOk E) {call:CallV S} (hcall:CallOkV E.T.E.P call) {ops:Array Oper} {fr:FrV S} {s:StV S} {a:Act} (hn:fr.n<=bigN) (hf:FRel g (lowFr fr) a w) (hs:SRel g (lowSt s) w) {o:Oper} {ω:Type}
  {kp:V S->StV S->Option ω} {k:FrV S->StV S->Option ω} {r:ω} (h:evStep E call ops.toList o fr s kp k=some r) {K:Act->World->Prop} {Q:Exit->Act->World->Prop}
  (hK:∀fr' s' g' a' w',k fr' s'=some r->fr'.n=fr.n->FRel g' (lowFr fr') a' w'->AftW s g w s' g' w'->FrOk o.dst.toList fr fr' s'.dr s.nob->K a' w')
  (hP:∀t s' g' v w',kp t s'=some r->FRel g' (lowFr fr) a w'->AftW s g w s' g' w'->TRel g' w' (low t) v->Q (.panic [{v,recovered:=false}]) a w') {rr:Option Nat} (hrr:rr≠none->∀c,o.op≠.defer c) :
  if Region.wanted o (yielded ops a.tmps) then OpR rr E.T.E.P o a w K Q else K (a.put o.dst undef) w:=by
 unfold evStep at h
 split at h
 .rename_i d hdv
  rcases cond_some h with ⟨hd,h2⟩|⟨_,h2⟩
  rotate_left
  .cases h2
  let ⟨hg,e,hrun,hrel⟩:=deferV_sound (P:=E.T.E.P) hf hdv
  have hw:Region.wanted o (yielded ops a.tmps)=true:=by simp[Region.wanted,hg]
  rw[if_pos hw]
  refine .of_wp hrr (.inl ?_)
  unfold Oper.wp
  rw[hrun]
  let ⟨h1,h3⟩:=putO_sound hf hd hn (t:=unitV') (v:=undef) (gd_false_rel _)
  have key:∀dst:Option Nat,FRel g (lowFr (fr.putO dst unitV')) (a.put dst undef) w->FRel g (lowFr {(fr.putO dst unitV') with df:=d ::fr.df}) (({a with defers:=e ::a.defers}:Act).put dst undef) w:=by
   intro dst h1
   cases dst with
   |none=>exact ⟨h1.size,.cons hrel hf.df,h1.tm⟩
   |some j=>exact ⟨h1.size,.cons hrel hf.df,h1.tm⟩
  let ⟨h4,h5⟩:=putO_frok (ow:=[]) (dr:=s.dr) hn hd (λo ho=>by cases ho) s.nob unitV'
  exact hK _ s g _ w h2 h3 (key _ h1) (AftW.refl hs) ⟨h4,[d],fr.df,rfl,.refl _ _⟩
 have hd:okDstV fr o.dst=true:=(evStepV_sound hE hcall hn hf hs h (K:=λ_ _=>True) (Q:=λ_ _ _=>True) (λ_ _ _ _ _ _ _ _ _=>trivial) (λ_ _ _ _ _ _ _ _=>trivial) hrr).1
 refine (evStepV_sound hE hcall hn hf hs h (λt s' ow g' v w' hk ht haft=>?_) (λt s' g' v w' hk haft ht=>hP t s' g' v w' hk (forgetF_sound (ow:=[]) hf haft) haft.toW ht) hrr).2
 have how:=haft.owd
 have hff:=forgetF_sound hf haft
 let ⟨t,hk,ht⟩:=splitV_sound hk ht
 let ⟨h1,h2⟩:=putO_sound (fr:=forgetF ow fr) hff (okDst_forget hd) (by rw[forgetF_n];exact hn) ht
 exact hK _ s' g' _ w' hk (h2.trans (forgetF_n ow fr)) h1 haft.toW (putO_frok hn hd how _ t)
theorem evOps_sound {E:EnvV S} (hE:EnvVOk E) {call:CallV S} (hcall:CallOkV E.T.E.P call) {ops:Array Oper} {ω:Type} {kp:FrV S->V S->StV S->Option ω} {kk:FrV S->StV S->Option ω} {r:ω} {Q:Exit->Act->World->Prop} {rr:Option Nat} (hrr:rr≠none->∀o∈ops.toList,∀c,o.op≠.defer c) :
  ∀(l:List Oper) (k:Nat),ops.toList.drop k=l->∀{fr:FrV S} {s:StV S} {a:Act} {g:Gh} {w:World},fr.n<=bigN->evOps E call ops.toList kp kk l fr s=some r->FRel g (lowFr fr) a w->SRel g (lowSt s) w->
   (∀fr' s' g' a' w',kk fr' s'=some r->fr'.n=fr.n->FRel g' (lowFr fr') a' w'->AftW s g w s' g' w'->FrOk (l.filterMap (·.dst)) fr fr' s'.dr s.nob->Q .normal a' w')->
   (∀fr' t s' g' a' v w',kp fr' t s'=some r->fr'.n=fr.n->FRel g' (lowFr fr') a' w'->AftW s g w s' g' w'->FrOk (l.filterMap (·.dst)) fr fr' s'.dr s.nob->TRel g' w' (low t) v->Q (.panic [{v,recovered:=false}]) a' w')->
   OpsR rr E.T.E.P ops Q (List.range' k l.length) a w:=by
 intro l
 induction l with
 |nil=>
  intro k _ fr s a g w _ h hf hs hK _
  exact hK fr s g a w h rfl hf (AftW.refl hs) (FrOk.refl _ _ _ _)
 |cons o l ih=>
  intro k hd fr s a g w hn h hf hs hK hP
  have hk:ops[k]?=some o:=by
   have:=congrArg (λm=>m[0]?) hd
   grind
  have hd':ops.toList.drop (k+1)=l:=by
   have:=congrArg (List.drop 1) hd
   grind[List.drop_drop]
  rw[List.length_cons,List.range'_succ]
  unfold OpsR
  simp[hk]
  have tail:∀{fr' fr'':FrV S} {s' s'':StV S} {g':Gh} {w':World},AftW s g w s' g' w'->FrOk o.dst.toList fr fr' s'.dr s.nob->(∀o∈s'.dr,o∈s''.dr)->FrOk (l.filterMap (·.dst)) fr' fr'' s''.dr s'.nob->FrOk ((o ::l).filterMap (·.dst)) fr fr'' s''.dr s.nob:=by
   intro fr' fr'' s' s'' g' w' h4 h5 h6 k5
   have:=h5.trans k5 h6 h4.nob
   grind
  refine evStep_sound hE hcall hn hf hs h (λfr' s' g' a' w' h1 h2 h3 h4 h5=>?_) (λt s' g' v w' h1 h2 h3 h4=>hP fr t s' g' a v w' h1 rfl h2 h3 (FrOk.refl _ _ _ _) h4) λhr=>hrr hr o (by grind)
  exact ih (k+1) hd' (by omega) h1 h3 h4.rel (λfr'' s'' g'' a'' w'' k1 k2 k3 k4 k5=>hK fr'' s'' g'' a'' w'' k1 (k2.trans h2) k3 (h4.trans k4) (tail h4 h5 k4.drm k5)) (λfr'' t s'' g'' a'' v' w'' k1 k2 k3 k4 k5 k6=>hP fr'' t s'' g'' a'' v' w'' k1 (k2.trans h2) k3 (h4.trans k4) (tail h4 h5 k4.drm k5) k6)
end
end TL
end
section
namespace TL
open Go
variable {S:Sg}
def srcAt (a:Act) (w:World) (c:Nat):Option Value:=bif Nat.blt c 1000000 then a.tmps[c]? else match a.tmps[Nat.div (Nat.sub c 1000000) 1000]? with
 |some (.pointer (some ad))=>match w.heap[ad.block]? with
  |some (.cells vs _ _)=>vs[Nat.mod (Nat.sub c 1000000) 1000]?
  |_=>none
 |_=>none
theorem srcV_sound {g:Gh} {w:World} {fr:FrV S} {s:StV S} {a:Act} (hf:FRel g (lowFr fr) a w) (hs:SRel g (lowSt s) w) {c:Nat} {v:V S} (h:srcV fr s c=some v):∃u,srcAt a w c=some u∧TRel g w (low v) u:=by
 unfold srcV at h
 unfold srcAt
 cases hc:Nat.blt c 1000000 with
 |true=>
  rw[hc,cond_true] at h
  let ⟨u,hu,hr⟩:=hf.tm c (low v) (by rw[lowFr_get,h];rfl)
  exact ⟨u,hu,hr⟩
 |false=>
  rw[hc,cond_false] at h
  split at h
  .rename_i o hk
   split at h
   .rename_i cs ho
    obtain ⟨u,hu,hr⟩:=hf.tm _ (low (.ptr o 0)) (by rw[lowFr_get,hk];rfl)
    cases hr with
    |ptr _ _ b hb=>
    let ⟨vs,ty,hh,hl,hall⟩:=(hs.box o b hb).box (cs:=lows cs) (by rw[lowSt_get,ho];rfl)
    have h1:=nth_low h
    have h2:∃x,vs[Nat.mod (Nat.sub c 1000000) 1000]?=some x:=by
     have:=(List.getElem?_eq_some_iff.1 h1).1
     exact ⟨_,Array.getElem?_eq_getElem (by omega)⟩
    let ⟨x,hx⟩:=h2
    exact ⟨x,by simp only[cond_false,hu,hh,hx],hall _ _ _ h1 hx⟩
   .cases h
  .cases h
def AlAt (a:Act) (w:World) (al:List (Nat×Nat)):Prop:=∀p∈al,a.tmps[p.1]?=srcAt a w p.2
theorem putAl_sound {g:Gh} {w:World} {a:Act} {s:StV S} (hs:SRel g (lowSt s) w):∀{al:List (Nat×Nat)} {fr:FrV S},(∀p∈al,p.1<bigN)->AlAt a w al->FRel g (lowFr fr) a w->
  FRel g (lowFr (putAl s al fr)) a w∧(putAl s al fr).n=fr.n∧(putAl s al fr).df=fr.df∧∀k,k∉al.map (·.1)->(putAl s al fr).get k=fr.get k
 |[],fr,_,_,hf=>⟨hf,rfl,rfl,λ_ _=>rfl⟩
 |p ::al,fr,hb,ha,hf=>by
  have hb1:=hb p List.mem_cons_self
  have ha1:=ha p List.mem_cons_self
  simp only[putAl]
  cases hg:srcV fr s p.2 with
  |none=>
   let ⟨h1,h2,h3,h4⟩:=putAl_sound hs (fr:=fr) (λq hq=>hb q (List.mem_cons_of_mem _ hq)) (λq hq=>ha q (List.mem_cons_of_mem _ hq)) hf
   simp_all
  |some v=>
   have hf1:FRel g (lowFr (fr.put p.1 v)) a w:=by
    refine ⟨hf.size,hf.df,λj t hj=>?_⟩
    rw[lowFr_get,FrV.get_put _ _ _ _ hb1] at hj
    by_cases hjk:j=p.1
    .grind[srcV_sound]
    .rw[if_neg hjk] at hj
     exact hf.tm j t (by rw[lowFr_get];exact hj)
   let ⟨h1,h2,h3,h4⟩:=putAl_sound hs (fr:=fr.put p.1 v) (λq hq=>hb q (List.mem_cons_of_mem _ hq)) (λq hq=>ha q (List.mem_cons_of_mem _ hq)) hf1
   refine ⟨h1,h2,h3,λk hk=>?_⟩
   simp only[List.map_cons,List.mem_cons,not_or] at hk
   rw[h4 k hk.2,FrV.get_put _ _ _ _ hb1,if_neg hk.1]
theorem HeadR.putAl {sh:Sh} {bs:List Nat} {a:Act} {gb:Gh} {fr0 frh:FrV S} {s0 sth:StV S} {w:World} {als:List ASl} {gh:Gh} (h:HeadR [] sh bs a gb fr0 s0 w als gh frh sth) {al:List (Nat×Nat)} (hb:∀p∈al,p.1<bigN) (ha:AlAt a w al) :
  HeadR (al.map (·.1)) sh bs a gb fr0 s0 w als gh (TL.putAl sth al frh) sth:=by
 let ⟨h1,h2,h3,h4⟩:=putAl_sound h.rel hb ha h.fr
 exact ⟨h.rel,h1,h.le,h.imm,h.own,h.fl,h.lo,h.nob,h.wr,h.dr,h.ob,h.blk,h.arr,h2.trans h.n,h3.trans h.dfs,λk hk hp=>(h4 k hk).trans (h.get k (by simp) hp)⟩
theorem alOk_at {g:Gh} {w:World} {a:Act} {fr:FrV S} {s:StV S} (hf:FRel g (lowFr fr) a w) (hs:SRel g (lowSt s) w) {al:List (Nat×Nat)} (h:alOk fr s al=true):AlAt a w al:=by
 intro p hp
 unfold alOk at h
 rw[List.all_eq_true] at h
 have h1:=h p hp
 split at h1
 .rename_i o r o' r' e1 e2
  rw[Bool.and_eq_true] at h1
  obtain rfl:=beq_iff'.1 h1.1
  obtain rfl:=beq_iff'.1 h1.2
  obtain ⟨u1,hu1,hr1⟩:=hf.tm p.1 (low (.sh o r)) (by rw[lowFr_get,e1];rfl)
  let ⟨u2,hu2,hr2⟩:=srcV_sound hf hs e2
  cases hr1 with
  |sh _ _ len cap sz x hx=>
  cases hr2 with
  |sh _ _ len' cap' sz' x' hx'=>
   rw[hx] at hx'
   cases hx'
   rw[hu1,hu2]
 .cases h1
theorem alOw_mem {fr:FrV S} {ow:List Nat} {al:List (Nat×Nat)} (h:alOw fr ow al=true) {p:Nat×Nat} (hp:p∈al) {v:V S} (hv:fr.get p.1=some v):∃o r,v=.sh o r∧o∈ow:=by
 unfold alOw at h
 grind
end TL
end
section
namespace TL
open Go
variable {S:Sg}
inductive ExMV (g:Gh) (w:World):ExV S->Exit->Prop where
 |nrm:ExMV g w .nrm .normal
 |ext (i:Nat):ExMV g w (.ext i) (.exit i)
 |ret:ExMV g w .ret .ret
 |pan (t:V S) (v:Value) (h:TRel g w (low t) v):ExMV g w (.pan t) (.panic [{v,recovered:=false}])
def QKV (ds:List Nat) (fr:FrV S) (s:StV S) (g:Gh) (w:World) {ω:Type} (Q:ExV S->FrV S->StV S->Option ω) (r:ω) (e:Exit) (a:Act) (w':World):Prop:=
 False∨∃ex fr' s' g',ExMV g' w' ex e∧Q ex fr' s'=some r∧fr'.n=fr.n∧FRel g' (lowFr fr') a w'∧AftW s g w s' g' w'∧FrOk ds fr fr' s'.dr s.nob
theorem QKV.mono {ds ds':List Nat} {fr fr1:FrV S} {s s1:StV S} {g g1:Gh} {w w1:World} {ω:Type} {Q:ExV S->FrV S->StV S->Option ω} {r:ω} {e:Exit} {a:Act} {w':World} (hn:fr1.n=fr.n) (haft:AftW s g w s1 g1 w1) (hf:FrOk ds fr fr1 s1.dr s.nob)
  (h:QKV ds' fr1 s1 g1 w1 Q r e a w'):QKV (ds++ds') fr s g w Q r e a w':=by
 rcases h with h|⟨ex,fr',s',g',h1,h2,h3,h4,h5,h6⟩
 .exact .inl h
 .exact .inr ⟨ex,fr',s',g',h1,h2,h3.trans hn,h4,haft.trans h5,hf.trans h6 h5.drm haft.nob⟩
theorem QKV.ds {ds ds':List Nat} {fr:FrV S} {s:StV S} {g:Gh} {w:World} {ω:Type} {Q:ExV S->FrV S->StV S->Option ω} {r:ω} {e:Exit} {a:Act} {w':World} (hd:∀k∈ds,k∈ds') (h:QKV ds fr s g w Q r e a w'):QKV ds' fr s g w Q r e a w':=by
 rcases h with h|⟨ex,fr',s',g',h1,h2,h3,h4,h5,h6⟩
 .exact .inl h
 .exact .inr ⟨ex,fr',s',g',h1,h2,h3,h4,h5,h6.mono hd (λ_ h=>h)⟩
theorem least_nat (p:Nat->Prop) (h:∃n,p n):∃n,p n∧∀m,p m->n<=m:=by
 let ⟨n,hn⟩:=h
 induction n using Nat.strongRecOn with
 |_ n ih=>
  grind
theorem iter_some {X R B P:Type} {F:X->Option (LO X R B P)}:∀{n:Nat} {x:X} {o:LO X R B P},iter F n x=some o->∃m,n=m+1∧∃o',F x=some o'∧((∃y,o'=.next y∧iter F m y=some o)∨(o'=o∧∀y,o≠.next y))
 |0,_,_,h=>by cases h
 |_+1,x,o,h=>by
  simp[iter] at h
  grind
structure BaseR (sh:Sh) (bs:List Nat) (fr0:FrV S) (s0 s:StV S) (g:Gh) (w:World) (x:pden S.A (shPs sh)) (a:Act) (gb:Gh) (w':World) (vals:List Value) (al:List ASl) (bl:List Nat):Prop where
 rel:SRel gb (lowSt s0) w'
 fr:FRel gb (lowFr fr0) a w'
 pr:PRel S gb.imm w' (shPs sh) x vals al bl
 at_:SlotsAt a sh vals
 blr:PW (λo b=>gb.blk o=some b) bs bl
 noarr:∀o∈bs,∀e,gb.arr o e=none
 fresh:∀a∈al,∀b,a.at b->∀o,¬Owned gb o b
 ap:Apart al
 ext:ExtV s.lo s.fl g w gb w'
 alo:∀a∈al,∀b,a.at b->(∃o,s.fl<=o∧Owned g o b)∨w.heap.size<=b
theorem BaseR.head {sh:Sh} {bs:List Nat} {fr0 frh:FrV S} {s0 s sth:StV S} {g:Gh} {w:World} {x:pden S.A (shPs sh)} {a:Act} {gb:Gh} {w':World} {vals:List Value} {al:List ASl} {bl:List Nat}
  (hb:BaseR sh bs fr0 s0 s g w x a gb w' vals al bl) (hn:fr0.n<=bigN) (h:headV sh bs x fr0 s0=some (frh,sth)) :
  ∃gh,HeadR [] sh bs a gb fr0 s0 w' al gh frh sth∧ExtV s.lo s.fl g w gh w':=by
 let ⟨gh,hh⟩:=headV_sound h hn hb.pr hb.at_ hb.blr hb.noarr hb.fresh hb.ap hb.fr hb.rel
 refine ⟨gh,hh,λo b e=>?_,λo e y hl k=>?_,λb e=>?_,hb.ext.size,hb.ext.heap,λo b ho hO=>?_,λb hi=>?_,hb.ext.os,hb.ext.output⟩
 .exact hh.le.blk o b (hb.ext.blk o b e)
 .exact hh.le.arr o e y (hb.ext.arr o e y hl k)
 .exact hh.le.imm b (hb.ext.imm b e)
 .rcases hh.own o b hO with hO|⟨_,a',ha',hab⟩
  .exact hb.ext.own o b ho hO
  .exact hb.alo a' ha' b hab
 .rw[hh.imm] at hi
  exact hb.ext.immn b hi
theorem df_again (P:Nat->Bool) (d:DfV S):cleanDf (mentP P) (cleanDf (mentP P) d)=cleanDf (mentP P) d:=by
 cases d with
 |call f args=>
  simp[cleanDf]
  grind
 |mark o=>
  simp[cleanDf]
  grind
 |marks o=>
  simp[cleanDf]
  grind
 |_=>rfl
theorem df_same {P Q:Nat->Bool} (hPQ:∀o,Q o=true->P o=true):∀{l m:List (DfV S)},DfEq Q (l.map (cleanDf (mentP P))) m->m=l.map (cleanDf (mentP P)):=by
 intro l
 induction l with
 |nil=>intro m h;cases h;rfl
 |cons d l ih=>
  intro m h
  cases h with
  | @cons _ e _ _ hd ht=>
  rw[List.map_cons,ih ht]
  congr 1
  rcases hd with rfl|⟨h1,hm⟩
  .rfl
  .have hm':=dfMent_mono hPQ _ hm
   cases d with
   |call f args=>
    simp[cleanDf] at hm' h1 ⊢
    cases hb:mentP P f||args.any (mentP P) with
    |true=>
     rw[hb] at h1
     rcases h1 with ⟨h1,_⟩|⟨_,h1⟩
     .exact h1
     .cases h1
    |false=>
     simp_all[dfMent]
   |mark o=>
    simp[cleanDf] at hm' h1 ⊢
    cases hb:mentP (S:=S) P (.ptr o 0) with
    |true=>
     rw[hb] at h1
     rcases h1 with ⟨h1,_⟩|⟨_,h1⟩
     .exact h1
     .cases h1
    |false=>
     simp_all[dfMent]
   |marks o=>
    simp[cleanDf] at hm' h1 ⊢
    cases hb:mentP (S:=S) P (.sh o 0) with
    |true=>
     rw[hb] at h1
     rcases h1 with ⟨_,h1⟩|⟨h1,_⟩
     .cases h1
     .exact h1
    |false=>
     simp_all[dfMent]
   |bads=>
    rcases h1 with ⟨_,h1⟩|⟨h1,_⟩
    .cases h1
    .exact h1
   |bad=>
    rcases h1 with ⟨h1,_⟩|⟨_,h1⟩
    .exact h1
    .cases h1
theorem df_back {g g':Gh} {w w':World} {P:Nat->Bool} (hT:∀t v,TRel g w t v->mentPT P t=false->TRel g' w' t v) {l:List (DfV S)} {xs:List Deferred} (hr:DfRels g w ((l.map (cleanDf (mentP P))).map lowDf) xs) :
  DfRels g' w' ((l.map (cleanDf (mentP P))).map lowDf) xs:=by
 have h:=cleanDf_left (S:=S) (p:=mentP P) (q:=mentPT P) (λv=>mentP_low P v) (λ_ _=>rfl) (l.map (cleanDf (mentP P)))
 have e:(l.map (cleanDf (mentP P))).map (cleanDf (mentP P))=l.map (cleanDf (mentP P)):=by
  grind[List.map_congr_left,df_again]
 rw[e] at h
 exact LeftDfs.rel hT h hr
section
variable {sh:Sh} {bs ow ds:List Nat} {fr:FrV S} {s s1:StV S} {g:Gh} {w:World} {a:Act}
theorem base_fr (hds:∀d∈ds,d<bigN) (k:Nat):(baseOf ds ow bs fr s1).1.get k=if k∈ds then none else (fr.get k).filter (λv=>!(mentP (outP ow s1.nob) v)):=by
 show ((ds.foldl (λt k=>t.del fuelTr k) fr.tm).keep _).get k=_
 rw[Tr.get_keep,Tr.get_dels ds _ k hds]
 split
 .rfl
 .rfl
theorem base_fr_some (hds:∀d∈ds,d<bigN) {k:Nat} {v:V S} (h:(baseOf ds ow bs fr s1).1.get k=some v):k∉ds∧fr.get k=some v∧mentP (outP ow s1.nob) v=false:=by
 grind[base_fr,Option.filter_eq_some_iff]
theorem base_first (hf:FRel g (lowFr fr) a w) (hs:SRel g (lowSt s) w) (hds:∀d∈ds,d<bigN) {x:pden S.A (shPs sh)} {g2:Gh} {vals:List Value} {al:List ASl} {bl:List Nat}
  (hp:PackR sh bs a g s w x s1 ow g2 vals al bl):BaseR sh bs (baseOf ds ow bs fr s1).1 (baseOf ds ow bs fr s1).2 s g w x a (g2.base (outP ow s1.nob)) w vals al bl:=by
 have hbsb:∀b∈bs,b<bigN:=λb hb=>by exact Nat.lt_of_lt_of_le (hp.bsp b hb).2.1 hs.nob
 have hpf:∀o,o∉ow->o<s.nob->outP ow s1.nob o=false:=λo h1 h2=>outP_of h1 (hp.nob▸h2)
 have halO:=hp.alr.owned hp.pr.notImm
 refine ⟨hp.rel.base (λo ho=>?_) rfl (Nat.le_refl _) (λo ob hpo hob=>?_),⟨hf.size,(cleanDf_left (λv=>mentP_low (outP ow s1.nob) v) (λ_ _=>rfl) fr.df).rel (λt v ht hm=>(ht.ext hp.ext hs.imm).on (g2.base_on _) (λ_ _=>rfl) hm) hf.df,λk t hk=>?_⟩,hp.pr,hp.at_,⟨hp.blr.1,λj o b h1 h2=>?_⟩,λo ho e=>?_,λa' ha b hb o hO=>?_,hp.ap,⟨λo b hb=>?_,λo e y hl hy=>?_,hp.ext.imm,Nat.le_refl _,λ_ _ _=>rfl,λo b ho hO=>?_,hp.ext.immn,rfl,rfl⟩,λa' ha b hb=>?_⟩
 .simp only[outP,Bool.or_eq_true]
  exact .inr (Nat.ble_eq_true_of_le ho)
 .rw[lowSt_get,base_get hbsb] at hob
  split at hob
  .cases hob
  .rw[Option.map_map,Option.map_eq_some_iff] at hob
   obtain ⟨vob,hv,rfl⟩:=hob
   exact ⟨lowOb vob,by rw[lowSt_get,hv];rfl,cleanPOb_spec _ vob⟩
 .rw[lowFr_get,Option.map_eq_some_iff] at hk
  obtain ⟨v,hv,rfl⟩:=hk
  let ⟨_,h2,h3⟩:=base_fr_some hds hv
  let ⟨u,hu,hr⟩:=hf.tm k (low v) (by rw[lowFr_get,h2];rfl)
  exact ⟨u,hu,(hr.ext hp.ext hs.imm).on (g2.base_on _) (λ_ _=>rfl) (by rw[mentP_low];exact h3)⟩
 .have hob:=List.mem_of_getElem? h1
  have:=hp.bsp o hob
  exact (g2.base_on _).blk o b (hpf o this.2.2.1 this.2.1) (hp.blr.2 j o b h1 h2)
 .simp only[Gh.base]
  split
  .exact (hp.bsp o ho).2.2.2 e
  .rfl
 .let ⟨h1,h2⟩:=Gh.base_owned hO
  let ⟨o',ho',hO'⟩:=halO a' ha b hb
  have:=hp.rel.uni o o' b h2 hO'
  subst this
  exact (outP_false h1).1 ho'
 .have hlt:=hs.lt hb
  exact (g2.base_on _).blk o b (hpf o (λhm=>by rw[hp.owb o hm] at hb;cases hb) hlt) (hp.ext.blk o b hb)
 .have hlt:=hs.lt' hy
  exact (g2.base_on _).arr o e y (hpf o (λhm=>by have:=(hp.owp o hm).2.1;omega) hlt) (hp.ext.arr o e y hy)
 .rcases hp.ext.own o b (Gh.base_owned hO).2 with h|h
  .grind
  omega
 .let ⟨o,ho,hO⟩:=halO a' ha b hb
  rcases hp.ext.own o b hO with h|h
  .exact .inl ⟨o,(hp.owp o ho).1,h⟩
  omega
theorem base_nextB {ex:List Nat} {sh':Sh} {fr0:FrV S} {bs0:List Nat} (hsub:∀b∈bs0,b∈bs) (_hds:∀d∈ds,d<bigN) (hbsb:∀b∈bs,b<s1.nob∧b∉ow) (hnob:s1.nob<=bigN) (hlo:s.lo<=s1.nob) (how:∀o∈ow,s.lo<=o) (hgb:∀o b,g.blk o=some b->o<s1.nob∧o∉ow) (h1lo:s1.lo=s.lo) (h1fl:s1.fl=s.fl)
  {a':Act} {w':World} {al:List ASl} {gb gh:Gh} {frh:FrV S} {sth:StV S}
  (hext:ExtV s.lo s.fl g w gh w') (hh:HeadR ex sh bs0 a' gb (baseOf ds ow bs0 fr s1).1 (baseOf ds ow bs0 fr s1).2 w' al gh frh sth)
  {s2 s3:StV S} {g2 g3:Gh} {a2:Act} {w2:World} (haft:AftW sth gh w' s2 g2 w2)
  {x:pden S.A (shPs sh')} {ow2:List Nat} {vals:List Value} {al2:List ASl} {bl2:List Nat} (hp:PackR sh' bs a2 g2 s2 w2 x s3 ow2 g3 vals al2 bl2)
  (hwr:wrOk s1.nob bs s3.wr=true) (how2:ow2.all (λo=>Nat.ble s1.nob o)=true) (_hdr:s3.dr.all (λo=>Nat.ble s1.nob o)=true) (hfr:FRel (g3.base (outP ow s1.nob)) (lowFr fr0) a2 w2) :
  BaseR sh' bs fr0 (baseOf ds ow bs fr s1).2 s g w x a2 (g3.base (outP ow s1.nob)) w2 vals al2 bl2:=by
 have hbsb':∀b∈bs,b<bigN:=λb hb=>Nat.lt_of_lt_of_le (hbsb b hb).1 hnob
 have hbsb0:∀b∈bs0,b<bigN:=λb hb=>hbsb' b (hsub b hb)
 have hs0n:(baseOf ds ow bs0 fr s1).2.nob=s1.nob:=rfl
 have hlen:s1.nob<=sth.nob:=hs0n▸hh.nob
 have how2':∀o∈ow2,s1.nob<=o:=λo ho=>by
  simp_all
 have hwr':∀o∈s3.wr,s1.nob<=o∨o∈bs:=λo ho=>by
  simp_all[wrOk]
 have halO:=hp.alr.owned hp.pr.notImm
 have hflh:sth.fl=s.fl:=hh.fl.trans (show (baseOf ds ow bs0 fr s1).2.fl=s.fl from h1fl)
 have hloh:sth.lo=s.lo:=hh.lo.trans (show (baseOf ds ow bs0 fr s1).2.lo=s.lo from h1lo)
 have hext2:ExtV s.lo s.fl g w g2 w2:=hext.trans (hflh▸hloh▸haft.ext)
 have hfl2:s2.fl=s.fl:=haft.fl.trans hflh
 have hext3:ExtV s.lo s.fl g w g3 w2:=hext2.trans (hfl2▸hp.ext.toV s.lo)
 refine ⟨hp.rel.base (nob:=s1.nob) (λo ho=>?_) rfl ?_ (λo ob hpo hob=>?_),hfr,hp.pr,hp.at_,⟨hp.blr.1,λj o b h1 h2=>?_⟩,λo ho e=>?_,λa' ha b hb o hO=>?_,hp.ap,⟨λo b hb=>?_,λo e y hl hy=>?_,hext3.imm,hext3.size,hext3.heap,λo b ho hO=>?_,hext3.immn,hext3.os,hext3.output⟩,λa' ha b hb=>?_⟩
 .simp_all[outP]
 .have e1:(lowSt s3).nob=s3.nob:=rfl
  have:=haft.nob
  have:=hp.nob
  omega
 .rw[lowSt_get,base_get hbsb'] at hob
  split at hob
  .cases hob
  .rename_i hnb
   rw[Option.map_map,Option.map_eq_some_iff] at hob
   obtain ⟨vob,hv,rfl⟩:=hob
   have holt:=(outP_false hpo).2
   have hnw:o∉s3.wr:=λhm=>by
    grind
   have hnw2:o∉s2.wr:=λhm=>hnw (hp.wrm o hm)
   have e1:s3.ob.get o=some (cleanPOb (outP ow s1.nob) vob):=by
    rw[hp.same o hnw,haft.same o (Nat.lt_of_lt_of_le holt hlen) hnw2,hh.ob o (hs0n▸holt) (λh=>hnb (hsub o h)),base_get hbsb0,if_neg (λh=>hnb (hsub o h)),hv]
    rfl
   grind[lowSt_get,cleanPOb_twice]
 .have hob:=List.mem_of_getElem? h1
  exact (g3.base_on _).blk o b (outP_of (hbsb o hob).2 (hbsb o hob).1) (hp.blr.2 j o b h1 h2)
 .simp only[Gh.base]
  split
  .exact (hp.bsp o ho).2.2.2 e
  .rfl
 .let ⟨h1,h2⟩:=Gh.base_owned hO
  let ⟨o',ho',hO'⟩:=halO a' ha b hb
  have:=hp.rel.uni o o' b h2 hO'
  grind[outP_false]
 .exact (g3.base_on _).blk o b (outP_of (hgb o b hb).2 (hgb o b hb).1) (hext3.blk o b hb)
 .exact (g3.base_on _).arr o e y (outP_of (λhm=>by grind) (by omega)) (hext3.arr o e y hl hy)
 .exact hext3.own o b ho (Gh.base_owned hO).2
 .let ⟨o,ho,hO⟩:=halO a' ha b hb
  exact hext3.own o b (by have:=(hp.owp o ho).1;omega) hO
theorem SlotsAt.tmps {a a':Act} (h:a'.tmps=a.tmps):∀{sh:Sh} {vs:List Value},SlotsAt a sh vs->SlotsAt a' sh vs
 |[],[],_=>trivial
 |(_,.one _) ::_,_ ::_,k=>⟨by rw[h];exact k.1,SlotsAt.tmps h k.2⟩
 |(_,.box _) ::l,_ ::_,k=>SlotsAt.tmps (sh:=l) h k
 |(_,.hid _) ::l,_,k=>SlotsAt.tmps (sh:=l) h k
 |[],_ ::_,k=>k.elim
 |(_,.one _) ::_,[],k=>k.elim
 |(_,.box _) ::_,[],k=>k.elim
theorem DfRels.split {g:Gh} {w:World}:∀{l1 l2:List Df} {m:List Deferred},DfRels g w (l1++l2) m->∃m1 m2,m=m1++m2∧DfRels g w l1 m1∧DfRels g w l2 m2
 |[],_,m,h=>⟨[],m,rfl,.nil,h⟩
 |_ ::l1,l2,_,.cons h t=>by
  obtain ⟨m1,m2,rfl,h1,h2⟩:=DfRels.split (l1:=l1) (l2:=l2) t
  exact ⟨_ ::m1,m2,rfl,.cons h h1,h2⟩
 |_ ::l1,l2,_,.marks o bs hn h t=>by
  obtain ⟨m1,m2,rfl,h1,h2⟩:=DfRels.split (l1:=l1) (l2:=l2) t
  exact ⟨_++m1,m2,(List.append_assoc _ _ _).symm,.marks o bs hn h h1,h2⟩
 |_ ::l1,l2,_,.bads xs t=>by
  obtain ⟨m1,m2,rfl,h1,h2⟩:=DfRels.split (l1:=l1) (l2:=l2) t
  exact ⟨_++m1,m2,(List.append_assoc _ _ _).symm,.bads xs h1,h2⟩
theorem DfRels.one {g:Gh} {w:World}:∀{os:List Nat} {m:List Deferred},DfRels g w (os.map Df.mark) m->∃bl,PW (λo b=>g.blk o=some b) os bl∧m=bl.map λb=>{target:=.collected b,args:=#[]}
 |[],_,.nil=>⟨[],⟨rfl,λj o b h=>by simp at h⟩,rfl⟩
 |o ::os,_,.cons h t=>by
  obtain ⟨bl,h1,rfl⟩:=DfRels.one t
  cases h with
  |mark _ b hb=>
  refine ⟨b ::bl,⟨by simp[h1.1],λj o' b' k1 k2=>?_⟩,rfl⟩
  cases j with
  |zero=>simp_all
  |succ j=>exact h1.2 j o' b' (by simpa using k1) (by simpa using k2)
theorem SRel.addMarks {s:St} {w:World} {o:Nat} (ho:s.ob.get o=some .mks) (hlt:o<s.nob):∀(bl:List Nat) {g:Gh},SRel g s w->bl.Nodup->(∀b∈bl,b<w.heap.size∧¬g.imm b∧(∀k,¬Owned g k b)∧w.heap[b]?=some (.deferred (some [])))->
  ∃g',SRel g' s w∧GhLe g g'∧g'.blk=g.blk∧g'.imm=g.imm∧(∀k,k≠o->g'.arr k=g.arr k)∧(∀k b,Owned g' k b->Owned g k b∨(k=o∧b∈bl))∧∀b∈bl,g'.arr o b=some ⟨some ⟨b,0,none⟩,0,1,0⟩
 |[],g,hs,_,_=>⟨g,hs,GhLe.refl _,rfl,rfl,λ_ _=>rfl,λ_ _ h=>.inl h,λb hb=>by cases hb⟩
 |b ::bl,g,hs,hn,hb=>by
  let ⟨b1,b2,b3,b4⟩:=hb b List.mem_cons_self
  have hnone:g.arr o b=none:=by
   cases hx:g.arr o b with
   |none=>rfl
   |some x=>
    exfalso
    rcases (hs.arr o b x hx).2 _ ho with ⟨fz,_,_,h,_⟩|⟨_,_,_,_,_,_,h,_⟩|⟨_,_,_,h,_⟩|h|⟨_,h1,h2,h3,_⟩|⟨_,_,h,_⟩
    .cases fz<;>cases h
    .cases h
    .cases h
    .cases h
    .exact b3 o ⟨h3,.inr ⟨b,x,_,hx,h1,rfl,h2⟩⟩
    .cases h
  let g1:Gh:={g with arr:=λk e=>if k=o∧e=b then some ⟨some ⟨b,0,none⟩,0,1,0⟩ else g.arr k e}
  have harr:∀k e y,g.arr k e=some y->g1.arr k e=some y:=λk e y h=>by
   grind
  have hle:GhLe g g1:=⟨λ_ _ h=>h,harr,λ_ h=>h⟩
  have hown:∀k c,Owned g1 k c->Owned g k c∨(k=o∧c=b):=by
   rintro k c ⟨h1,h2|⟨e,x,ad,h2,h3,h4,h5⟩⟩
   .exact .inl ⟨h1,.inl h2⟩
   .by_cases hk:k=o∧e=b
    .grind
    .have h2:(if k=o∧e=b then some ⟨some ⟨b,0,none⟩,0,1,0⟩ else g.arr k e)=some x:=h2
     rw[if_neg hk] at h2
     exact .inl ⟨h1,.inr ⟨e,x,ad,h2,h3,h4,h5⟩⟩
  have hs1:SRel g1 s w:=by
   refine ⟨hs.nob,λk hk=>⟨(hs.bnd k hk).1,λe=>?_⟩,λk c hc=>?_,λk e x hx=>?_,hs.imm,λk k' c h h'=>?_,hs.glo⟩
   .show (if k=o∧e=b then _ else g.arr k e)=_
    rw[if_neg (λh=>by omega)]
    exact (hs.bnd k hk).2 e
   .let ⟨k1,k2,k3⟩:=hs.box k c hc
    exact ⟨k1,k2,λob hob=>let ⟨x,h1,h2⟩:=k3 ob hob;⟨x,h1,h2.imp λ_ _ ht=>ht.le hle⟩⟩
   .by_cases hk:k=o∧e=b
    .have hx:(if k=o∧e=b then some ⟨some ⟨b,0,none⟩,0,1,0⟩ else g.arr k e)=some x:=hx
     rw[if_pos hk] at hx
     cases hx
     obtain ⟨rfl,rfl⟩:=hk
     refine ⟨λad ha _=>by grind,λob hob=>?_⟩
     rw[ho] at hob
     cases hob
     exact .inr (.inr (.inr (.inr (.inl ⟨rfl,rfl,by simp,b2,b4⟩))))
    .have hx0:g.arr k e=some x:=by
      have hx:(if k=o∧e=b then some ⟨some ⟨b,0,none⟩,0,1,0⟩ else g.arr k e)=some x:=hx
      rwa [if_neg hk] at hx
     let ⟨k1,k2⟩:=hs.arr k e x hx0
     refine ⟨k1,λob hob=>?_⟩
     by_cases hko:k=o
     .subst hko
      rw[ho] at hob
      cases hob
      rcases k2 _ ho with ⟨fz,_,_,h,_⟩|⟨_,_,_,_,_,_,h,_⟩|⟨_,_,_,h,_⟩|h|h
      .cases fz<;>cases h
      .cases h
      .cases h
      .cases h
      .exact .inr (.inr (.inr (.inr h)))
     .exact (k2 ob hob).tr (λh=>h.imm_eq rfl) harr (funext λe'=>by show (if k=o∧e'=b then _ else g.arr k e')=_;rw[if_neg (λh=>hko h.1)]) (λ_ _ _=>⟨rfl,Iff.rfl⟩)
   .rcases hown k c h with e1|⟨e1,e2⟩
    .rcases hown k' c h' with e3|⟨e3,e4⟩
     .exact hs.uni k k' c e1 e3
     simp_all
    grind
  let ⟨g',q1,q2,q3,q4,q5,q6,q7⟩:=hs1.addMarks ho hlt bl (List.nodup_cons.1 hn).2 (λc hc=>by
   grind)
  refine ⟨g',q1,hle.trans q2,q3,q4,λk hk=>(q5 k hk).trans (funext λe=>by show (if k=o∧e=b then _ else g.arr k e)=_;rw[if_neg (λh=>hk h.1)]),λk c hO=>?_,λc hc=>?_⟩
  .grind
  .rcases List.mem_cons.1 hc with rfl|hc
   .exact q2.arr o c _ (by show (if o=o∧c=c then _ else g.arr o c)=_;rw[if_pos ⟨rfl,rfl⟩])
   grind
def Marks (nob fl:Nat) (base:FrV S×StV S) (fr2:FrV S) (g:Gh) (w:World):Prop:=
 ∃os d,fr2.df=os.map DfV.mark++d∧d.length=base.1.df.length∧os.Nodup∧(∀o∈os,nob<=o∧∀b,g.blk o=some b->w.heap[b]?=some (.deferred (some [])))∧
  (os=[]∨∃oB rest,base.1.df=.marks oB ::rest∧base.2.ob.get oB=some .mks∧oB<nob∧fl<=oB)
theorem Marks.mono {nob fl:Nat} {base:FrV S×StV S} {fr2:FrV S} {g g':Gh} {w:World} {a:Act} (h:Marks nob fl base fr2 g w) (hf:FRel g (lowFr fr2) a w) (hq:∀o b,g.blk o=some b->g'.blk o=some b):Marks nob fl base fr2 g' w:=by
 let ⟨os,d,e1,e2,e3,e4,e5⟩:=h
 refine ⟨os,d,e1,e2,e3,λo ho=>⟨(e4 o ho).1,λb hb=>?_⟩,e5⟩
 have hdfr:=hf.df
 rw[show (lowFr fr2).df=(os.map DfV.mark).map lowDf++d.map lowDf from by show fr2.df.map lowDf=_;rw[e1,List.map_append]] at hdfr
 let ⟨m1,m2,_,hd1,_⟩:=hdfr.split
 rw[List.map_map,show (lowDf∘DfV.mark:Nat->Df)=Df.mark from rfl] at hd1
 let ⟨bl,hbl,_⟩:=hd1.one
 obtain ⟨i,hi,rfl⟩:=List.getElem_of_mem ho
 have hi':i<bl.length:=by have:=hbl.1;omega
 have hb':=hbl.2 i _ _ (List.getElem?_eq_getElem hi) (List.getElem?_eq_getElem hi')
 grind
theorem marksV_some {nob:Nat} {s:StV S} {g:Gh} {w:World} (hs:SRel g (lowSt s) w):∀{l:List (DfV S)} {os:List Nat},marksV nob s l=some os->l=os.map DfV.mark∧∀o∈os,nob<=o∧∀b,g.blk o=some b->w.heap[b]?=some (.deferred (some []))
 |[],os,h=>by
  simp only[marksV,Option.some.injEq] at h
  subst h
  exact ⟨rfl,λo ho=>by cases ho⟩
 | .mark o ::l,os,h=>by
  simp[marksV] at h
  split at h
  .rename_i hd
   rcases cond_some h with ⟨hb,h⟩|⟨_,h⟩
   .split at h
    .rename_i r hr
     simp at h
     subst h
     let ⟨h1,h2⟩:=marksV_some hs hr
     refine ⟨by rw[h1];rfl,λo' ho'=>?_⟩
     rcases List.mem_cons.1 ho' with rfl|ho'
     .refine ⟨Nat.le_of_ble_eq_true hb,λb hbk=>?_⟩
      let ⟨x,hx,hr⟩:=(hs.box o' b hbk).2.2 .dfr (by rw[lowSt_get,hd];rfl)
      cases hr
      exact hx
     .exact h2 o' ho'
    .cases h
   .cases h
  .cases h
 | .call _ _ ::_,_,h=>by simp[marksV] at h
 | .marks _ ::_,_,h=>by simp[marksV] at h
 | .bads ::_,_,h=>by simp[marksV] at h
 | .bad ::_,_,h=>by simp[marksV] at h
theorem sameDf_marks {nob:Nat} {base:FrV S×StV S} {fr':FrV S} {s':StV S} {g:Gh} {w:World} (hs:SRel g (lowSt s') w) (h:sameDf nob base fr' s'=true):Marks nob s'.fl base fr' g w:=by
 unfold sameDf at h
 split at h
 rotate_left
 .cases h
 rename_i os hos
 simp only[Bool.and_eq_true,Bool.or_eq_true] at h
 let ⟨h1,h2,h3⟩:=h
 let ⟨k1,k2⟩:=marksV_some hs hos
 have h2:=beq_iff'.1 h2
 rw[lenL_eq,lenL_eq,lenL_eq] at h2
 refine ⟨os,fr'.df.drop (Nat.sub (lenL fr'.df) (lenL base.1.df)),by rw[<-k1,List.take_append_drop],?_,nodupN_iff h1,k2,?_⟩
 .grind[lenL_eq]
 .rcases h3 with h3|h3
  .simp_all
  .right
   unfold mksB at h3
   split at h3
   .rename_i oB rest hdf
    split at h3
    .simp_all
    .cases h3
   .cases h3
theorem base_next {ex:List Nat} (hexd:∀k∈ex,k∈ds) {sh':Sh} {bs0:List Nat} (hsub:∀b∈bs0,b∈bs) (hds:∀d∈ds,d<bigN) (hbsb:∀b∈bs,b<s1.nob∧b∉ow) (hnob:s1.nob<=bigN) (hlo:s.lo<=s1.nob) (how:∀o∈ow,s.lo<=o) (hgb:∀o b,g.blk o=some b->o<s1.nob∧o∉ow) (hsh:shOk ds sh=true) (h1lo:s1.lo=s.lo) (h1fl:s1.fl=s.fl)
  {a':Act} {w':World} {al:List ASl} {gb gh:Gh} {frh:FrV S} {sth:StV S}
  (hext:ExtV s.lo s.fl g w gh w') (hh:HeadR ex sh bs0 a' gb (baseOf ds ow bs0 fr s1).1 (baseOf ds ow bs0 fr s1).2 w' al gh frh sth)
  {fr2:FrV S} {s2 s3:StV S} {g2 g3:Gh} {a2:Act} {w2:World} (haft:AftW sth gh w' s2 g2 w2) (hf2:FRel g2 (lowFr fr2) a2 w2) (hfo:FrOk ds frh fr2 s2.dr sth.nob) (hn2:fr2.n=frh.n) (hmk:Marks s1.nob s.fl (baseOf ds ow bs fr s1) fr2 g2 w2)
  {x:pden S.A (shPs sh')} {ow2:List Nat} {vals:List Value} {al2:List ASl} {bl2:List Nat} (hp:PackR sh' bs a2 g2 s2 w2 x s3 ow2 g3 vals al2 bl2)
  (hwr:wrOk s1.nob bs s3.wr=true) (how2:ow2.all (λo=>Nat.ble s1.nob o)=true) (hdr:s3.dr.all (λo=>Nat.ble s1.nob o)=true) :
  ∃gb',BaseR sh' bs (baseOf ds ow bs fr s1).1 (baseOf ds ow bs fr s1).2 s g w x a2 gb' w2 vals al2 bl2∧gb'.imm=g3.imm:=by
 have hbsb':∀b∈bs,b<bigN:=λb hb=>Nat.lt_of_lt_of_le (hbsb b hb).1 hnob
 have hs0n:(baseOf ds ow bs0 fr s1).2.nob=s1.nob:=rfl
 have hlen:s1.nob<=sth.nob:=hs0n▸hh.nob
 have hdr':∀o∈s2.dr,s1.nob<=o:=λo ho=>by
  rw[List.all_eq_true] at hdr
  exact Nat.le_of_ble_eq_true (hdr o (hp.dr▸ho))
 have halO:=hp.alr.owned hp.pr.notImm
 have hflh:sth.fl=s.fl:=hh.fl.trans (show (baseOf ds ow bs0 fr s1).2.fl=s.fl from h1fl)
 have hloh:sth.lo=s.lo:=hh.lo.trans (show (baseOf ds ow bs0 fr s1).2.lo=s.lo from h1lo)
 have hext2:ExtV s.lo s.fl g w g2 w2:=hext.trans (hflh▸hloh▸haft.ext)
 have hfl2:s2.fl=s.fl:=haft.fl.trans hflh
 have hext3:ExtV s.lo s.fl g w g3 w2:=hext2.trans (hfl2▸hp.ext.toV s.lo)
 have hQ:∀o,outP s2.dr sth.nob o=true->outP ow s1.nob o=true:=λo ho=>by
  simp only[outP,Bool.or_eq_true,List.contains_eq_mem,decide_eq_true_eq] at ho ⊢
  rcases ho with ho|ho
  .exact .inr (Nat.ble_eq_true_of_le (hdr' o ho))
  .have:=Nat.le_of_ble_eq_true ho
   exact .inr (Nat.ble_eq_true_of_le (by omega))
 have hT:∀t v,TRel g2 w2 t v->mentPT (outP ow s1.nob) t=false->TRel (g3.base (outP ow s1.nob)) w2 t v:=λt v ht hm=>(ht.ext hp.ext haft.rel.imm).on (g3.base_on _) (λ_ _=>rfl) hm
 let ⟨os,d,e1,e2,hosn,hosb,hcase⟩:=hmk
 have e2':d.length=(baseOf ds ow bs0 fr s1).1.df.length:=e2
 have hdeq:DfEq (outP s2.dr sth.nob) (baseOf ds ow bs fr s1).1.df d:=by
  let ⟨c,d',k1,k2⟩:=hfo.df
  have hl:=k2.len
  rw[hh.dfs] at hl k2
  have hdd:d'=d:=by
   have h1:c++d'=os.map DfV.mark++d:=k1.symm.trans e1
   exact (List.append_inj' h1 (by omega)).2
  rw[<-hdd]
  exact k2
 have hdb:=df_same hQ (l:=fr.df) hdeq
 have hdfr:=hf2.df
 rw[show (lowFr fr2).df=(os.map DfV.mark).map lowDf++d.map lowDf from by show fr2.df.map lowDf=_;rw[e1,List.map_append]] at hdfr
 let ⟨m1,m2,hm12,hd1,hd2⟩:=hdfr.split
 rw[List.map_map,show (lowDf∘DfV.mark:Nat->Df)=Df.mark from rfl] at hd1
 let ⟨bl,hbl,hm1⟩:=hd1.one
 rw[hdb] at hd2
 have hd3:=df_back hT (l:=fr.df) hd2
 have htm:∀k t,(lowFr (baseOf ds ow bs fr s1).1).get k=some t->∃v,a2.tmps[k]?=some v∧TRel (g3.base (outP ow s1.nob)) w2 t v:=by
  intro k t hk
  rw[lowFr_get,Option.map_eq_some_iff] at hk
  obtain ⟨v,hv,rfl⟩:=hk
  let ⟨h1,h2,h3⟩:=base_fr_some hds hv
  have hgh:frh.get k=some v:=by
   rw[hh.get k (λhm=>h1 (hexd k hm)) (λq hq hqk=>?_)]
   .exact hv
   .let ⟨qk,qp⟩:=q
    cases qp with
    |box cs=>rfl
    |hid cs=>rfl
    |one c=>
     unfold shOk at hsh
     rw[List.all_eq_true] at hsh
     have:=hsh _ hq
     subst hqk
     exact absurd (by simpa using this) h1
  rcases hfo.tm k v h1 hgh with h4|h4
  .let ⟨u,hu,hr⟩:=hf2.tm k (low v) (by rw[lowFr_get,h4];rfl)
   exact ⟨u,hu,(hr.ext hp.ext haft.rel.imm).on (g3.base_on _) (λ_ _=>rfl) (by rw[mentP_low];exact h3)⟩
  .exfalso
   let ⟨o,ho1,ho2⟩:=mentP_sub h4 h3
   have:=(outP_false ho2).2
   simp only[outP,Bool.or_eq_true,List.contains_eq_mem,decide_eq_true_eq] at ho1
   rcases ho1 with ho1|ho1
   .have:=hdr' o ho1
    omega
   .have:=Nat.le_of_ble_eq_true ho1
    omega
 have hp':PackR sh' bs {a2 with defers:=[]} g2 s2 w2 x s3 ow2 g3 vals al2 bl2:=⟨hp.rel,hp.ext,hp.pr,SlotsAt.tmps (a:=a2) (a':={a2 with defers:=[]}) rfl hp.at_,hp.alr,hp.blr,hp.now,hp.owp,hp.nbs,hp.bsp,hp.fl,hp.lo,hp.nob,hp.wrm,hp.same,hp.dr,hp.ap,hp.owb⟩
 have hsz:a2.tmps.size=(baseOf ds ow bs fr s1).1.n:=hf2.size.trans (hn2.trans hh.n)
 have hB:=base_nextB (fr:=fr) hsub hds hbsb hnob hlo how hgb h1lo h1fl hext hh haft hp' hwr how2 hdr (fr0:={(baseOf ds ow bs fr s1).1 with df:=[]}) ⟨hsz,.nil,htm⟩
 rcases hcase with rfl|⟨oB,rest,hdfB,hmkB,hltB,hflB⟩
 .have hbl0:bl=[]:=List.eq_nil_of_length_eq_zero (by have:=hbl.1;simpa using this.symm)
  subst hbl0
  subst hm1
  exact ⟨_,⟨hB.rel,⟨hsz,by rw[hm12];exact hd3,htm⟩,hB.pr,hp.at_,hB.blr,hB.noarr,hB.fresh,hB.ap,hB.ext,hB.alo⟩,rfl⟩
 have hmb:(lowSt (baseOf ds ow bs fr s1).2).ob.get oB=some .mks:=by rw[lowSt_get,hmkB];rfl
 have hown:∀b∈bl,∃o∈os,g2.blk o=some b:=λb hb=>by
  obtain ⟨i,hi,rfl⟩:=List.getElem_of_mem hb
  have hi':i<os.length:=by have:=hbl.1;omega
  exact ⟨os[i],List.getElem_mem hi',hbl.2 i _ _ (List.getElem?_eq_getElem hi') (List.getElem?_eq_getElem hi)⟩
 have hO3:∀{o b:Nat},g2.blk o=some b->Owned g3 o b:=λ{o b} hb=>⟨(hp.rel.box o b (hp.ext.blk o b hb)).1,.inl (hp.ext.blk o b hb)⟩
 have hbln:bl.Nodup:=by
  refine List.pairwise_iff_getElem.2 λi j hi hj hij heq=>?_
  have hlen:=hbl.1
  have hi':i<os.length:=by omega
  have hj':j<os.length:=by omega
  have e1:=hbl.2 i _ _ (List.getElem?_eq_getElem hi') (List.getElem?_eq_getElem hi)
  have e2:=hbl.2 j _ _ (List.getElem?_eq_getElem hj') (List.getElem?_eq_getElem hj)
  rw[<-heq] at e2
  exact (List.pairwise_iff_getElem.1 hosn i j hi' hj' hij) (hp.rel.uni _ _ _ (hO3 e1) (hO3 e2))
 have hnoO:∀b∈bl,∀k,¬Owned (g3.base (outP ow s1.nob)) k b:=λb hb k hO=>by
  let ⟨o,ho,hob⟩:=hown b hb
  let ⟨h1,h2⟩:=Gh.base_owned hO
  have:=hp.rel.uni k o b h2 (hO3 hob)
  subst this
  have:=(outP_false h1).2
  have:=(hosb k ho).1
  omega
 let ⟨gb',q1,q2,q3,q4,q5,q6,q7⟩:=hB.rel.addMarks hmb hltB bl hbln (λb hb=>by
  let ⟨o,ho,hob⟩:=hown b hb
  exact ⟨(haft.rel.box o b hob).2.1,(hp.rel.box o b (hp.ext.blk o b hob)).1,hnoO b hb,(hosb o ho).2 b hob⟩)
 have hd4:DfRels (g3.base (outP ow s1.nob)) w2 ((DfV.marks oB ::rest).map lowDf) m2:=hdfB▸hd3
 have hdf:DfRels gb' w2 ((baseOf ds ow bs fr s1).1.df.map lowDf) a2.defers:=by
  rw[hdfB,hm12,hm1]
  cases hd4 with
  |cons k _=>cases k
  |marks _ ms hnm hms ht=>
  rw[<-List.append_assoc,<-List.map_append]
  refine .marks oB (bl++ms) (List.nodup_append.2 ⟨hbln,hnm,λb hb c hc hbc=>?_⟩) (λb hb=>?_) (ht.imp (λt v ht=>ht.le q2) q2.blk)
  .subst hbc
   let ⟨n,c',hr⟩:=hms b hc
   cases hr with
   |sh _ _ _ _ sz _ hx=>
   rcases (hB.rel.arr oB b _ hx).2 _ hmb with ⟨fz,_,_,h,_⟩|⟨_,_,_,_,_,_,h,_⟩|⟨_,_,_,h,_⟩|h|⟨_,h1,h2,h3,_⟩|⟨_,_,h,_⟩
   .cases fz<;>cases h
   .cases h
   .cases h
   .cases h
   .exact hnoO b hb oB ⟨h3,.inr ⟨b,_,_,hx,h1,rfl,h2⟩⟩
   .cases h
  .rcases List.mem_append.1 hb with hb|hb
   .exact ⟨0,1,.sh _ _ _ _ 0 _ (q7 b hb)⟩
   .let ⟨n,c,hr⟩:=hms b hb
    exact ⟨n,c,hr.le q2⟩
 have hfresh:∀b∈bl,(∃o,s.fl<=o∧Owned g o b)∨w.heap.size<=b:=λb hb=>by
  let ⟨o,ho,hob⟩:=hown b hb
  exact hext3.own o b (by have:=(hosb o ho).1;omega) (hO3 hob)
 refine ⟨gb',⟨q1,⟨hsz,hdf,λk t hk=>let ⟨v,hv,ht⟩:=htm k t hk;⟨v,hv,ht.le q2⟩⟩,q4▸hB.pr,hp.at_,⟨hB.blr.1,λj o b h1 h2=>by rw[q3];exact hB.blr.2 j o b h1 h2⟩,λo ho e=>?_,λa' ha b hb o hO=>?_,hB.ap,⟨λo b hb=>?_,λo e y hl hy=>?_,λb hb=>?_,hB.ext.size,hB.ext.heap,λo b ho hO=>?_,λb hb=>?_,hB.ext.os,hB.ext.output⟩,hB.alo⟩,q4⟩
 .rw[q5 o (λh=>by
   subst h
   have:=base_get (ow:=ow) (ds:=ds) (fr:=fr) (s1:=s1) hbsb' o
   rw[if_pos ho,hmkB] at this
   cases this)]
  exact hB.noarr o ho e
 .rcases q6 o b hO with hO|⟨_,hbl'⟩
  .exact hB.fresh a' ha b hb o hO
  .let ⟨o1,ho1,hob1⟩:=hown b hbl'
   let ⟨o2,ho2,hO2⟩:=halO a' ha b hb
   have:=hp.rel.uni o1 o2 b (hO3 hob1) hO2
   subst this
   rw[hp.owb o1 ho2] at hob1
   cases hob1
 .rw[q3]
  exact hB.ext.blk o b hb
 .exact q2.arr o e y (hB.ext.arr o e y hl hy)
 .exact q2.imm b (hB.ext.imm b hb)
 .rcases q6 o b hO with hO|⟨_,hbl'⟩
  .exact hB.ext.own o b ho hO
  .exact hfresh b hbl'
 .rw[q4] at hb
  exact hB.ext.immn b hb
theorem base_outB {ex:List Nat} {sh':Sh} {fr0:FrV S} {bs1:List Nat} (hbs1:∀b∈bs1,b<bigN) (_hs:SRel g (lowSt s) w) {g1:Gh} {vals1:List Value} {al1:List ASl} {bl1:List Nat} {x1:pden S.A (shPs sh)} (hp:PackR sh bs a g s w x1 s1 ow g1 vals1 al1 bl1)
  {a':Act} {w':World} {al:List ASl} {gb gh:Gh} {frh:FrV S} {sth:StV S} (hext:ExtV s.lo s.fl g w gh w') (hh:HeadR ex sh' bs1 a' gb fr0 (baseOf ds ow bs1 fr s1).2 w' al gh frh sth) :
  AftW s g w {sth with wr:=s1.ob.keysOf (obMentP (outP ow s1.nob))++(bs1++s1.wr),dr:=ow++s1.dr} gh w':=by
 refine ⟨hh.rel,hext,hh.fl.trans hp.fl,hh.lo.trans hp.lo,?_,λo ho=>?_,λo hl ho=>?_,λo ho=>?_⟩
 .have:=hh.nob
  have e1:(baseOf ds ow bs1 fr s1).2.nob=s1.nob:=rfl
  have:=hp.nob
  simp_all
 .exact List.mem_append_right _ (List.mem_append_right _ (hp.wrm o ho))
 .simp at ho
  have h1:sth.ob.get o=(baseOf ds ow bs1 fr s1).2.ob.get o:=hh.ob o (by show o<s1.nob;have:=hp.nob;omega) ho.2.1
  rw[h1,base_get hbs1,if_neg ho.2.1,<-hp.same o ho.2.2]
  cases hg:s1.ob.get o with
  |none=>rfl
  |some ob=>
   grind[cleanPOb_id,Tr.mem_keysOf]
 .exact List.mem_append_right _ (by rw[hp.dr];exact ho)
theorem base_out {ex:List Nat} (hexd:∀k∈ex,k∈ds) {sh':Sh} {bs1:List Nat} (hbs1:∀b∈bs1,b<bigN) (hs:SRel g (lowSt s) w) (hds:∀d∈ds,d<bigN) {g1:Gh} {vals1:List Value} {al1:List ASl} {bl1:List Nat} {x1:pden S.A (shPs sh)} (hp:PackR sh bs a g s w x1 s1 ow g1 vals1 al1 bl1) (hsh:shOk ds sh'=true)
  {a':Act} {w':World} {al:List ASl} {gb gh:Gh} {frh:FrV S} {sth:StV S} (hext:ExtV s.lo s.fl g w gh w') (hh:HeadR ex sh' bs1 a' gb (baseOf ds ow bs1 fr s1).1 (baseOf ds ow bs1 fr s1).2 w' al gh frh sth) :
  AftW s g w {sth with wr:=s1.ob.keysOf (obMentP (outP ow s1.nob))++(bs1++s1.wr),dr:=ow++s1.dr} gh w'∧FrOk ds fr frh (ow++s1.dr) s.nob∧frh.n=fr.n:=by
 refine ⟨base_outB (fr:=fr) hbs1 hs hp hext hh,⟨λk v hk hv=>?_,?_⟩,hh.n⟩
 .cases hm:mentP (outP ow s1.nob) v with
  |true=>exact .inr (mentP_mono (outP_mono (λo ho=>List.mem_append_left _ ho) (by rw[hp.nob];omega)) v hm)
  |false=>
   left
   rw[hh.get k (λhm=>hk (hexd k hm)) (λq hq hqk=>?_),base_fr hds,if_neg hk,hv]
   .simp_all
   .let ⟨qk,qp⟩:=q
    cases qp with
    |box cs=>rfl
    |hid cs=>rfl
    |one c=>
     grind[shOk]
 .rw[hh.dfs]
  exact (cleanDf_ok (outP_mono (λo ho=>List.mem_append_left _ ho) (by rw[hp.nob];omega)) (λv=>rfl) fr.df).ok
end
theorem rvVs_at {g:Gh} {w:World} {fr:FrV S} {a:Act} (hf:FRel g (lowFr fr) a w):∀{rv:Rv} {vs:List (V S)},rvVs fr rv=some vs->∃vals,SlotsAt a (rv.map λp=>(p.1,Pk.one (.dat p.2))) vals∧PW (TRel g w) (lows vs) vals
 |[],vs,h=>by
  simp only[rvVs,Option.some.injEq] at h
  subst h
  exact ⟨[],trivial,rfl,λj t v h=>by grind⟩
 |(k,c) ::l,vs,h=>by
  simp[rvVs] at h
  split at h
  .rename_i v r h1 h2
   simp at h
   subst h
   let ⟨vals,h3,h4⟩:=rvVs_at hf h2
   let ⟨u,hu,hr⟩:=hf.tm k (low v) (by rw[lowFr_get,h1];rfl)
   refine ⟨u ::vals,⟨hu,h3⟩,by simp[lows,List.length_cons,h4.1],λj t v' k1 k2=>?_⟩
   cases j with
   |zero=>grind[lows]
   |succ j=>exact h4.2 j t v' (by simpa[lows] using k1) (by simpa using k2)
  .cases h
theorem rvPut_sound {g:Gh} {w:World} {a:Act}:∀{rv:Rv} {r:cden S.A (rvCs rv)} {vals:List Value} {al:List ASl} {I:Nat->Prop} {fr:FrV S},HRel S I w (rvCs rv) r vals al->(∀b,I b->g.imm b)->SlotsAt a (rv.map λp=>(p.1,Pk.one (.dat p.2))) vals->
  fr.n<=bigN->FRel g (lowFr fr) a w->FRel g (lowFr (rvPut rv r fr)) a w∧(rvPut rv r fr).n=fr.n∧∀k,k∉rv.map (·.1)->(rvPut rv r fr).get k=fr.get k
 |[],r,vals,al,I,fr,_,_,_,_,hf=>⟨hf,rfl,λ_ _=>rfl⟩
 |(k,t) ::rv,r,vals,al,I,fr,hh,hi,hat,hn,hf=>by
  cases hh with
  | @dat _ _ x h v vs al hd hr=>
  let ⟨hv,hat⟩:=hat
  have hklt:k<fr.n:=by
   have:=(Array.getElem?_eq_some_iff.1 hv).1
   rw[hf.size] at this
   exact this
  have hf1:FRel g (lowFr (fr.put k (.ty t x))) a w:=by
   refine ⟨hf.size,hf.df,λj t' hj=>?_⟩
   rw[lowFr_get,FrV.get_put _ _ _ _ (Nat.lt_of_lt_of_le hklt hn)] at hj
   by_cases hjk:j=k
   .subst hjk
    rw[if_pos rfl] at hj
    simp at hj
    subst hj
    exact ⟨v,hv,trel_lowTy (hd.le hi)⟩
   .rw[if_neg hjk] at hj
    exact hf.tm j t' (by rw[lowFr_get];exact hj)
  let ⟨h1,h2,h3⟩:=rvPut_sound (rv:=rv) (fr:=fr.put k (.ty t x)) hr hi hat hn hf1
  refine ⟨h1,h2,λj hj=>?_⟩
  simp only[List.map_cons,List.mem_cons,not_or] at hj
  rw[show rvPut ((k,t) ::rv) (x,h) fr=rvPut rv h (fr.put k (.ty t x)) from rfl,h3 j hj.2,FrV.get_put _ _ _ _ (Nat.lt_of_lt_of_le hklt hn),if_neg hj.1]
theorem outV_sound {ω:Type} {Q:ExV S->FrV S->StV S->Option ω} {fr:FrV S} {s:StV S} {r:ω}:∀{l:List Nat} {i:Nat},i∈l->outV Q fr s l (idxN l i)=some r->Q (.ext i) fr s=some r
 |[],i,hi,_=>by cases hi
 |[j],i,hi,h=>by
  simp at hi
  subst hi
  exact h
 |j ::j' ::l,i,hi,h=>by
  simp only[idxN] at h
  cases hb:Nat.beq j i with
  |true=>
   rw[hb] at h
   have:=beq_iff'.1 hb
   subst this
   exact h
  |false=>
   rw[hb] at h
   have hne:j≠i:=λe=>by simp_all
   refine outV_sound (l:=j' ::l) ?_ h
   grind
theorem mem_dedupN:∀{l:List Nat} {i:Nat},i∈l->i∈dedupN l
 |a ::l,i,h=>by
  simp only[dedupN]
  by_cases hai:a=i
  .simp_all
  .rcases List.mem_cons.1 h with rfl|h
   .omega
   .refine List.mem_cons_of_mem _ (List.mem_filter.2 ⟨mem_dedupN h,?_⟩)
    grind[beq_iff']
end TL
end
