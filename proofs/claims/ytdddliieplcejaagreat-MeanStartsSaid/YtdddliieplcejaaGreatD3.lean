import Derived.Scope
import Derived.Recover
import Derived.Test.YtdddliieplcejaaGreatD2
set_option linter.all false
set_option maxRecDepth 100000
set_option maxHeartbeats 0
noncomputable section
section
namespace TL
open Go
variable {S:Sg}
section
section
variable {g:Gh}{w:World}
variable {o:Nat}{v:Value}{P:Program}{i:TI}{s s':bq S}{E:gA}{fr:bV S}{a:Act}{c:Bool}{t:V S}
def aJ.JO(h:aJ g w (.mp o) v):∃b,v=.map (some b)∧g.cj o=some b:=by cases h;exact⟨_,rfl,by assumption⟩
def aJ.aac(h:aJ g w (.rY o) v):∃b,v=.pointer (some ⟨b,0,none⟩)∧g.cj o=some b:=by cases h;exact⟨_,rfl,by assumption⟩
def aJ.adD{k:IntKind}{n:Int}(h:aJ g w (.kn k n) v):v=.int k n:=by cases h;rfl
def aJ.JP{u:Value}(h:aJ g w (.sym (.lit u)) v):v=u:=by cases h with|sym _ _ hd=>cases hd;rfl
def aJ.Rf{cs:List T}(h:aJ g w (.agg cs) v):∃vs,v=.agg vs∧PW (aJ g w) cs vs.toList:=by cases h with|agg _ vs hl hr=>exact⟨vs,rfl,by simpa using hl,λj t v h1 h2=>hr j t v h1 (by simpa using h2)⟩
def HL(P:Program)(d:Nat){ty:TypeId}{ms:Array (String×TypeId)}(hu:P.underlying ty=some (.interface ms)):(Op.equalIn (d+1) ty .nilIface .nilIface).run P w=.ok true w:=by simp only[Op.equalIn,Sem.run_bind,aL hu,Result.andThen_ok];rfl
def SD(P:Program)(d:Nat){ty e:TypeId}(hu:P.underlying ty=some (.slice e))(a:Option Addr)(n m:Nat):(Op.equalIn (d+1) ty (.slice a n m) (.slice none 0 0)).run P w=.ok a.isNone w:=by simp only[Op.equalIn,Sem.run_bind,aL hu,Result.andThen_ok];cases a<;>rfl
def Ri(hS:fy S){t:TypeId}(hi:nu P t i)(hk:i.kd=.iface){n:Nat}{x:S.A n}(h:aJ g w (eB S (.cR n) x) v)(xo:Operand) :
  ((do eqGuard .eql t xo (.const .nilIface) v .nilIface;binOp .eql t v .nilIface:Sem Value)).run P w=.ok (.bool (isNil (S.alts n) (S.sM n x))) w∧
  ((do eqGuard .neq t xo (.const .nilIface) v .nilIface;binOp .neq t v .nilIface:Sem Value)).run P w=.ok (.bool (!(isNil (S.alts n) (S.sM n x)))) w:=by
 obtain⟨_,d0,_,_,hu,_,_,_,_,dO⟩:=hi.all;rw[hk]at dO;obtain⟨ms,rfl⟩:=dO;rw[Bc];rcases Dl hS h with⟨he,rfl⟩|⟨t',d,u,he,rfl,_⟩
 .rw[he];refine nS xo (.const .nilIface) rfl rfl (λop=>?_) (HL P 9999 hu);unfold eqGuard;cases op<;>cases xo<;>rfl
 .rw[he];refine nS xo (.const .nilIface) rfl rfl (λop=>?_) (HM 9999 hu t' u);unfold eqGuard;cases op<;>rfl
def Ra{t:TypeId}(hi:nu P t i)(hk:i.kd=.iface)(h:aJ g w (.sym (.lit .nilIface)) v)(xo:Operand) :
  ((do eqGuard .eql t xo (.const .nilIface) v .nilIface;binOp .eql t v .nilIface:Sem Value)).run P w=.ok (.bool true) w∧
  ((do eqGuard .neq t xo (.const .nilIface) v .nilIface;binOp .neq t v .nilIface:Sem Value)).run P w=.ok (.bool false) w:=by
 obtain⟨_,d0,_,_,hu,_,_,_,_,dO⟩:=hi.all;rw[hk]at dO;obtain⟨ms,rfl⟩:=dO;cases h with
 |sym _ _ h=>
 cases h;refine nS xo (.const .nilIface) rfl rfl (λop=>?_) (HL P 9999 hu);unfold eqGuard;cases op<;>cases xo<;>rfl
def ac1{t:TypeId}(hi:nu P t i){sz qT:Nat}{ag:Bool}{z:List D}(hk:i.kd=.slice sz ag qT z)(a:Option Addr)(n m:Nat)(xo:Operand) :
  ((do eqGuard .eql t xo (.const (.slice none 0 0)) (.slice a n m) (.slice none 0 0);binOp .eql t (.slice a n m) (.slice none 0 0):Sem Value)).run P w=.ok (.bool a.isNone) w:=by
 obtain⟨_,d0,_,_,hu,_,_,_,_,dO⟩:=hi.all;rw[hk]at dO;obtain⟨el,j,d',zv,rfl,_⟩:=dO;refine(nS xo (.const (.slice none 0 0)) rfl rfl (λop=>?_) (SD P 9999 hu a n m)).1;unfold eqGuard;cases op<;>rfl
def ac2(hs:bg g (aF s) w){e:Ty}{x:V S}{l:List (den S.A e)}(h:I9 s e x=some l)(hv:aJ g w (low x) v):∃a n m,v=.slice a n m∧(a.isNone=true->YX l=true):=by
 unfold I9 at h;split at h
 .simp only[bf]at h;subst h;cases hv with|emp a=>exact⟨a,0,0,rfl,λ_=>rfl⟩
 .rename_i t es;obtain⟨rfl,hh⟩:=eX h;cases hh;cases hv with
  |jI n es' a hn hd=>
   refine⟨a,_,_,rfl,λha=>?_⟩;cases hd with
   |sl _ _ _ sz val hcap hsz hby hA hc=>
   cases es with|nil=>rfl|cons y es=>obtain⟨ad,h1,_⟩:=hA (by simp);rw[h1]at ha;cases ha
 .obtain ⟨hte,hh⟩:=eX h;cases hte;cases hh;cases hv with|n9 j d c a hj hd=>refine⟨a,_,_,rfl,λha=>?_⟩;obtain⟨a',cap,he,_,_,hr⟩:=we hd;cases he;obtain⟨ad,_,h1,_⟩:=hr (by simp);rw[h1]at ha;cases ha
 .rename_i t x';obtain⟨hte,hh⟩:=eX h;subst hte;cases hh;cases hv with
  |sym _ _ hd=>
   cases hd with
   |sl _ a cap sz val hcap hsz hby hA hc=>
   refine⟨a,_,_,rfl,λha=>?_⟩;cases x' with|nil=>rfl|cons y es=>obtain⟨ad,h1,_⟩:=hA (by simp);rw[h1]at ha;cases ha
 .rename_i o r;have key:∀(fz:Bool)(t:Ty)(l0:List (den S.A t))(era:Nat),s.ob.get o=some (if fz then .kf t l0 era else .arr t l0 era)->(bif Nat.beq r era then nt t e l0 else none)=some l->∃a n m,v=.slice a n m∧(a.isNone=true->YX l=true):=by
   intro fz t l0 era ho h;rcases af h with⟨hb,h⟩|⟨_,h⟩
   .obtain ⟨hte,hh⟩:=eX h;subst hte;cases hh;have Tm:=beq_iff'.1 hb;subst Tm;cases hv with
    |sh _ _ len cap sz a hx=>
     have wG:(aF s).ob.get o=some (fD fz (S.width t) (l0.map (enc S t)) r):=by rw[aV,ho];cases fz<;>rfl
     obtain⟨hok,_⟩:=hs.nG wG hx;refine⟨a,len,cap,rfl,λha=>?_⟩;cases l0 with
     |nil=>rfl
     |cons y l0=>
      have h1:=hok.len;have h2:=hok.cap;simp only[lZ,fI]at h1 h2;have hc:(⟨a,len,cap,sz⟩:fB).cap≠0:=by simp only;omega
      obtain⟨b,vs,ty,h3,_⟩:=hok.mem hc;simp only at h3;rw[h3]at ha;cases ha
   .cases h
  split at h
  .rename_i t l0 era ho;exact key false t l0 era ho h
  .rename_i t l0 era ho;exact key true t l0 era ho h
  .cases h
 .cases h
def Ia(hX:XOk S E)(hS:fy S)(hf:cE g (bx fr) a w)(hs:bg g (aF s) w)(o:Oper){ty:TypeId}{x ix y:Operand}(hop:o.op=.mapUpdate ty x ix y∨o.op=.insert ty x ix y)
  (h:(match E.mt ty,cm fr x,cm fr ix,cm fr y with
  |some m,some (.mp o),some k,some y=>match Wa m.kt k,s.ob.get o with
   |some k,some (.map kt vt l)=>match Cy kt vt m.kt vt l,bM s vt y with
    |some l,some (y,os)=>match dz s os with
     |some s1=>bif Nat.ble s.fl o&&Zk m.vt vt then some (true,(ff:V S),{s1 with ob:=s1.ob.set aI o (.map m.kt vt (n3 m.kt k y l)),wr:=o::s1.wr})else none
     |none=>none
    |_,_=>none
   |some k,some (.GQ kt l)=>match Nl kt m.kt l with
    |some l=>bif Nat.ble s.fl o then some (true,ff,{s with ob:=s.ob.set aI o (.GQ m.kt (n3 m.kt k y l)),wr:=o::s.wr})else none
    |none=>none
   |_,_=>none
  |_,_,_,_=>none)=some (c,t,s')) :
  ∃v w' g',((execOp a.eval o).run E.E.P w=.ok (.value v) w'∨((execOp a.eval o).run E.E.P w=.ok .skip w'∧v=undef))∧aJ g' w' (low t) v∧cN [] s g w s' g' w':=by
 split at h;rotate_left
 .cases h
 rename_i m iD kv yv hm hx hk hy;obtain⟨tY,d,ht,hu,dO,_,_⟩:=hX.mt _ _ hm;obtain⟨b,Wp,hb⟩:=aJ.JO (cX hf hx);have Wu:∀w',(Instr.mapUpdate ty (a.eval x) (a.eval ix) (a.eval y)).run E.E.P w=.ok () w'->(execOp a.eval o).run E.E.P w=.ok .skip w':=by intro w' hr;rcases hop with hop|hop<;>simp[execOp,hop,hr]
 split at h
 .rename_i k kt vt l hkey cB;have hke:=sK hkey (cX hf hk);split at h;rotate_left
  .cases h
  rename_i l' y' os hcm As;obtain⟨rfl,_,yT⟩:=Nj hcm;cases yT;split at h;rotate_left
  .cases h
  rename_i s1 hfz;rcases af h with⟨hcd,h9⟩|⟨_,h9⟩;rotate_left
  .cases h9
  clear h;simp only[bf,bB]at h9;obtain⟨_,rfl,rfl⟩:=h9;rw[eE]at hcd;have hfl:s.fl<=iD:=fQ hcd.1;obtain⟨p,hp,MI⟩:=oF hS s vt yv As;obtain⟨abW,hd⟩:=kQ hs _ hp MI (cX hf hy);obtain⟨g1,fq,pT,hfr⟩:=en os hs (de hS _ hfz) abW;have hyd:=hd g1 _ fq pT hfr;obtain⟨f1,f2,f3,f4,f5,f6,f7⟩:=ew hfz;have hno:iD∉os:=λhmem=>by have:=(abW iD hmem).oY (by rw[aV,cB];rfl);cases this
  have OY:(aF s1).ob.get iD=some (cQ (.map m.kt vt l')):=by rw[aV,f6 iD hno,cB];rfl
  have n5:g1.cj iD=some b:=pT.cj _ _ hb;obtain⟨x0,hh,Wz⟩:=(fq.box iD b n5).2.2 _ OY;obtain⟨ms,cl,rfl,hmr⟩:=gU.QF dO (f:=eB S vt) Wz;obtain⟨ms',c',hrun,ad0⟩:=wW (P:=E.E.P) dO ht hu k hh hmr (x:=y') (uo hyd);have hlt:=(fq.box iD b n5).2.1;obtain⟨q1,q2,q3⟩:=Jc (.map ms' c') hlt;obtain⟨AW,N6⟩:=fq.setObj n5 OY rfl (by show s1.fl<=iD;rw[f1];exact hfl) (Ux:=cQ (.map m.kt vt (n3 m.kt k y' l'))) (NM.ob dO (f:=eB S vt) ad0 c') q1 q2 q3 rfl rfl;have aoq:iG s {s1 with ob:=s1.ob.set aI iD (.map m.kt vt (n3 m.kt k y' l')),wr:=iD::s1.wr}:=(kU hfz).trans' (zl f3.symm) (sd _ _ _);refine⟨undef,_,g1,.inr ⟨Wu _ (by rw[Wp,hke];exact hrun),rfl⟩,.sym _ _ (.lit _),cN.l7 hs (by rw[eZ];exact AW) (pT.trans (by have h5:=N6;rw[show(aF s1).fl=s.fl from f1]at h5;exact h5)) f1 f2 (zl f3.symm) aoq⟩
 .rename_i k kt l hkey cB;have hke:=sK hkey (cX hf hk);split at h;rotate_left
  .cases h
  rename_i l' hck;obtain⟨rfl,yT⟩:=Nk hck;cases yT;rcases af h with⟨hcd,h9⟩|⟨_,h9⟩;rotate_left
  .cases h9
  clear h;simp only[bf,bB]at h9;obtain⟨_,rfl,rfl⟩:=h9;have OY:(aF s).ob.get iD=some (cQ (.GQ m.kt l')):=by rw[aV,cB];rfl
  obtain⟨x0,hh,Wz⟩:=(hs.box iD b hb).2.2 _ OY;obtain⟨ms,cl,rfl,hmr⟩:=gU.QF dO (f:=low) Wz;obtain⟨ms',c',hrun,ad0⟩:=wW (P:=E.E.P) dO ht hu k hh hmr (x:=yv) (cX hf hy);obtain⟨q1,q2,q3⟩:=Jc (.map ms' c') (hs.box iD b hb).2.1;obtain⟨AW,N6⟩:=hs.setObj hb OY rfl (fQ hcd) (Ux:=cQ (.GQ m.kt (n3 m.kt k yv l'))) (NM.ob dO (f:=low) ad0 c') q1 q2 q3 rfl rfl;exact⟨undef,_,g,.inr ⟨Wu _ (by rw[Wp,hke];exact hrun),rfl⟩,.sym _ _ (.lit _),cN.l7 hs (by rw[eZ];exact AW) N6 rfl rfl (bT _) (sd _ _ _)⟩
 .cases h
def ZK(hS:fy S)(hT:Ai E.E)(Zc:PV S E)(hX:XOk S E)(hf:cE g (bx fr) a w)(hs:bg g (aF s) w)(o:Oper)(h:rC E fr s o.op=some (c,t,s'))(hc:c=true) :
  ∃v w' g',((execOp a.eval o).run E.E.P w=.ok (.value v) w'∨((execOp a.eval o).run E.E.P w=.ok .skip w'∧v=undef))∧aJ g' w' (low t) v∧cN [] s g w s' g' w':=by
 unfold rC at h;split at h
 ·
  rename_i ty r hop;rcases af h with⟨hb,h9⟩|⟨_,h9⟩;rotate_left
  .cases h9
  clear h;rw[eE]at hb;have hn:s.aH<bA:=fQ hb.1;split at h9;rotate_left
  .cases h9
  rename_i m hm;obtain⟨tY,d,ht,hu,dO,_,_⟩:=hX.mt _ _ hm;have hr:∀v,r.map a.eval=some v->∃k n,v=.int k n:=by
   intro v hv;cases r with
   |none=>cases hv
   |some x=>
    simp only[dX,bf]at hv;subst hv;have hh:=hb.2;simp only[ML]at hh;split at hh
    .rename_i k n hx;exact⟨_,_,(cX hf hx).adD⟩
    .rename_i k n hx;exact⟨_,_,aJ.JP (cX hf hx)⟩
    .cases hh
  have fin:∀ob:wP S,cQ ob=.map []->(true,(.mp s.aH:V S),dn s ob)=(c,t,s')->
    ∃v w' g',((execOp a.eval o).run E.E.P w=.ok (.value v) w'∨((execOp a.eval o).run E.E.P w=.ok .skip w'∧v=undef))∧aJ g' w' (low t) v∧cN [] s g w s' g' w':=λob cB he=>by
   simp only[bB]at he;obtain⟨_,rfl,rfl⟩:=he;obtain⟨v,w',g',h1,h2,h3⟩:=JE (P:=E.E.P) hs hn ht hr cB;exact⟨v,w',g',.inl (by simp[execOp,hop,h1]),h2,h3⟩
  split at h9
  .exact fin _ rfl (eI h9)
  .exact fin _ rfl (eI h9)
 ·
  rename_i ty x ix ok hop;split at h;rotate_left
  .cases h
  rename_i m xv kv hm hx hk;split at h;rotate_left
  .cases h
  rename_i vt hvt;split at h;rotate_left
  .cases h
  rename_i k l hkey hmap;simp only[bf,bB]at h;obtain⟨_,rfl,rfl⟩:=h;obtain⟨tY,d,ht,hu,dO,⟨xi,z,xb,hz⟩,hvv⟩:=hX.mt _ _ hm;obtain⟨aie,i,MH⟩:=hvv vt hvt;have hke:=sK hkey (cX hf hk);have hxr:=cX hf hx;have MG:aJ g w (eB S vt (S.zero vt)) z:=uo (HB hS (hT.ti _ _ MH) (Zc.row _ _ _ MH aie) (hX.zr _ _ _ MH aie) xb hz);have fin:∀(u:Value)(b:Bool),(Instr.lookup ty (a.eval x) (a.eval ix) ok).run E.E.P w=.ok (if ok then .tuple #[u,.bool b]else u) w->aJ g w (eB S vt (KV m.kt (S.zero vt) k l)) u->b=EZ m.kt k l->
    ∃v w' g',((execOp a.eval o).run E.E.P w=.ok (.value v) w'∨((execOp a.eval o).run E.E.P w=.ok .skip w'∧v=undef))∧
     aJ g' w' (low (bif ok then .gq [.ty vt (KV m.kt (S.zero vt) k l),.ty .bool (EZ m.kt k l)]else .ty vt (KV m.kt (S.zero vt) k l):V S)) v∧cN [] s g w s g' w':=by
   intro u b hrun hu EX;refine⟨_,w,g,.inl (by simp only[execOp,hop,Sem.run_bind,hrun,Result.andThen_ok,Sem.run_pure];rfl),?_,cN.refl hs⟩;cases ok with
   |false=>exact hu
   |true=>
    subst EX;refine .gq _ _ rfl λj t' v' h1 h2=>?_
    match j with
    |0=>simp[bh]at h1 h2;subst h1;subst h2;exact hu
    |1=>simp[bh]at h1 h2;subst h1;subst h2;exact .sym _ _ (.lit _)
    |j+2=>simp[bh]at h1
  unfold VY at hmap;split at hmap
  .rename_i iD;split at hmap
   .rename_i My Sn l' cB;obtain⟨rfl,rfl,yT⟩:=Nj hmap;cases yT;obtain⟨b,Wp,hb⟩:=aJ.JO hxr;obtain⟨x0,hh,Wz⟩:=(hs.box iD b hb).2.2 _ (by rw[aV,cB];rfl);obtain⟨ms,cl,rfl,hmr⟩:=gU.QF dO (f:=eB S Sn) Wz;have hlk:=DS (P:=E.E.P) dO ht hu xb hz k hh hmr.1 (λj p q h1 h2=>(hmr.2 j p q h1 h2).1) ok;obtain⟨r1,r2⟩:=OD (f:=eB S Sn) (k:=k) hmr MG;refine fin _ _ ?_ r1 r2;rw[hke,Wp,hlk];cases hq:(Gx m.kt k l').bind λj=>(ms[j]?).map (·.val)with|none=>simp[hq]|some v=>simp[hq]
   .cases hmap
  .simp only[bf]at hmap;subst hmap;refine fin z false ?_ MG rfl;rw[hke,aJ.JP hxr];exact DR dO ht hu xb hz k ok
  .cases hmap
 .exact Ia hX hS hf hs o (.inl ‹_›) h
 .exact Ia hX hS hf hs o (.inr ‹_›) h
 ·
  rename_i ty n cp hop;split at h;rotate_left
  .cases h
  rename_i i e nv cv hi he hn hcv;split at h;rotate_left
  .cases h
  rename_i n1 c1 dO O2 UF;rcases af h with⟨hb,h9⟩|⟨_,h9⟩;rotate_left
  .cases h9
  simp only[bf,bB]at h9;obtain⟨rfl,rfl,rfl⟩:=h9;rw[eE]at hc;have hcn:c1=n1:=by simpa[hU]using hc.2
  subst hcn;obtain⟨p,hp,MI⟩:=fL O2;obtain⟨q,hq,hqq⟩:=fL UF;have e1:=dJ hp MI (cX hf hn);have e2:=dJ hq hqq (cX hf hcv);obtain⟨v,w',g',h1,h2,h3⟩:=EC (P:=E.E.P) hS hs (fQ hb) (hT.ti _ _ hi) (Zc.row _ _ _ hi he) hc.1 .i64 .i64;exact⟨v,w',g',.inl (by simp[execOp,hop,e1,e2,h1]),h2,h3⟩
 ·
  rename_i ty x hop;split at h;rotate_left
  .cases h
  rename_i i xv hi hx;split at h;rotate_left
  .cases h
  rename_i b dO hb;rcases af h with⟨hn,h9⟩|⟨_,h9⟩;rotate_left
  .cases h9
  simp only[bf,bB]at h9;obtain⟨_,rfl,rfl⟩:=h9;obtain⟨p,hp,MI⟩:=ki hb;have e1:=gV hp MI (cX hf hx);obtain⟨_,d0,_,_,hu,_,_,_,_,hk⟩:=(hT.ti _ _ hi).all;rw[dO]at hk;cases hk;obtain⟨v,w',g',h1,h2,h3⟩:=Ol (P:=E.E.P) hs (fQ hn) hu b;exact⟨v,w',g',.inl (by simp[execOp,hop,e1,h1]),h2,h3⟩
 ·
  rename_i ty x u hop;split at h;rotate_left
  .rename_i i hi hx;split at h;rotate_left
   .cases h
   rename_i dO;simp only[bf,bB]at h;obtain⟨_,rfl,rfl⟩:=h;have:=(Ra (w:=w) (hT.ti _ _ hi) dO (cX hf hx) x).1;exact⟨_,w,g,.inl (by simp only[execOp,hop,Sem.run_bind]at this ⊢;simp only[Act.eval]at this ⊢;rw[this];rfl),.kb true,cN.refl hs⟩
  .cases h
  rename_i i n y hi hx;split at h;rotate_left
  .cases h
  rename_i dO;simp only[bf,bB]at h;obtain⟨_,rfl,rfl⟩:=h;have:=(Ri (S:=S) hS (hT.ti _ _ hi) dO (cX hf hx) x).1;exact⟨_,w,g,.inl (by simp only[execOp,hop,Sem.run_bind]at this ⊢;simp only[Act.eval]at this ⊢;rw[this];rfl),.sym _ _ (.lit _),cN.refl hs⟩
 ·
  rename_i ty x u hop;split at h;rotate_left
  .rename_i i hi hx;split at h;rotate_left
   .cases h
   rename_i dO;simp only[bf,bB]at h;obtain⟨_,rfl,rfl⟩:=h;have:=(Ra (w:=w) (hT.ti _ _ hi) dO (cX hf hx) x).2;exact⟨_,w,g,.inl (by simp only[execOp,hop,Sem.run_bind]at this ⊢;simp only[Act.eval]at this ⊢;rw[this];rfl),.kb false,cN.refl hs⟩
  .cases h
  rename_i i n y hi hx;split at h;rotate_left
  .cases h
  rename_i dO;simp only[bf,bB]at h;obtain⟨_,rfl,rfl⟩:=h;have:=(Ri (S:=S) hS (hT.ti _ _ hi) dO (cX hf hx) x).2;exact⟨_,w,g,.inl (by simp only[execOp,hop,Sem.run_bind]at this ⊢;simp only[Act.eval]at this ⊢;rw[this];rfl),.sym _ _ (.lit _),cN.refl hs⟩
 ·
  rename_i ty x u hop;split at h;rotate_left
  .cases h
  rename_i i e xv hi he hx;split at h;rotate_left
  .cases h
  rename_i l dO hl;simp only[bf,bB]at h;obtain⟨_,rfl,rfl⟩:=h;obtain⟨ad,n,m,hv,hE⟩:=ac2 hs hl (cX hf hx);have:=ac1 (w:=w) (hT.ti _ _ hi) dO ad n m x;exact⟨_,w,g,.inl (by rw[<-hv]at this;simp only[execOp,hop,Sem.run_bind]at this ⊢;simp only[Act.eval]at this ⊢;rw[this];rfl),.ub _ _ hE,cN.refl hs⟩
 ·
  rename_i x hop;split at h;rotate_left
  .cases h
  rename_i n y hx;simp only[bf,bB]at h;obtain⟨rfl,rfl,rfl⟩:=h;have hr:=cX hf hx;rw[Bc]at hc;rcases Dl hS (show aJ g w (eB S (.cR n) y) (a.eval x)from hr)with⟨he,_⟩|⟨t',d,u,he,hv,_⟩
  .rw[he]at hc;cases hc
  .exact ⟨_,w,g,.inl (by simp[execOp,hop,hv]),hv▸hr,cN.refl hs⟩
 ·
  rename_i x xt ty ok hop;split at h;rotate_left
  .cases h
  rename_i i τ n y hi he hx;obtain⟨xi,d1,z,xb,j6,_,pP,Uz,nE,ke⟩:=(hT.ti _ _ hi).all;have hni:i.kd≠.iface->∀ms,d1≠.interface ms:=λhk ms hd=>hk ((hT.ti _ _ hi).nif ms (by rw[j6,hd]));have hr:=Dl hS (show aJ g w (eB S (.cR n) y) (a.eval x)from cX hf hx);have MG:aJ g w (eB S τ (S.zero τ)) z:=uo (HB hS (hT.ti _ _ hi) (Zc.row _ _ _ hi he) (hX.zr _ _ _ hi he) xb Uz);have hno:i.kd≠.iface->(∀d,sX S (S.alts n) (S.sM n y)≠some (ty,d))->(Instr.typeAssert (a.eval x) xt ty true).run E.E.P w=.ok (.tuple #[z,.bool false]) w:=by
   intro hk hne;rcases hr with⟨_,hv⟩|⟨t',d,u,he',hv,_⟩
   .rw[hv];simp only[Instr.typeAssert,Sem.run_bind,aL j6,Result.andThen_ok];cases d1 with|interface ms=>exact absurd rfl (hni hk ms)|_=>simp[ef xb Uz]
   .have aok:t'≠ty:=λe=>hne d (e▸he');rw[hv];simp only[Instr.typeAssert,Sem.run_bind,aL j6,Result.andThen_ok];cases d1 with|interface ms=>exact absurd rfl (hni hk ms)|_=>simp[aok,ef xb Uz]
  split at h
  .cases h
  .rename_i j hj hk;rcases af h with⟨hb,h9⟩|⟨_,h9⟩;rotate_left
   .cases h9
   clear h;have hte:=fG hb;have hk':i.kd≠.iface:=λe=>hk e;rcases Fh (S.alts n) ty j (S.sM n y) S.zero (hS.alts n) hj with⟨h1,h2⟩|⟨h1,h2,h3⟩
   ·
    rcases hr with⟨he',_⟩|⟨t',d,u,he',hv,hd⟩
    .rw[he']at h2;cases h2
    rw[he']at h2;simp only[bf,bB]at h2;obtain⟨rfl,rfl⟩:=h2;have hrun:∀ok,(Instr.typeAssert (a.eval x) xt t' ok).run E.E.P w=.ok (if ok then .tuple #[u,.bool true]else u) w:=by intro ok;rw[hv];simp only[Instr.typeAssert,Sem.run_bind,aL j6,Result.andThen_ok];cases d1 with|interface ms=>exact absurd rfl (hni hk' ms)|_=>simp
    rcases af h9 with⟨hok,h9⟩|⟨hok,h9⟩
    .simp only[bf,bB]at h9;obtain⟨_,rfl,rfl⟩:=h9;subst hok;refine⟨_,w,g,.inl (by simp only[execOp,hop,Sem.run_bind,hrun,Result.andThen_ok,Sem.run_pure];rfl),.gq _ _ rfl λq t v k1 k2=>?_,cN.refl hs⟩
     match q with
     |0=>simp[bh]at k1 k2;subst k1;subst k2;exact uo hd
     |1=>simp[bh]at k1 k2;subst k1;subst k2;rw[h1];exact .sym _ _ (.lit _)
     |q+2=>simp[bh]at k1
    .simp only[bf,bB]at h9;obtain⟨_,rfl,rfl⟩:=h9;subst hok;exact⟨_,w,g,.inl (by simp only[execOp,hop,Sem.run_bind,hrun,Result.andThen_ok,Sem.run_pure];rfl),uo hd,cN.refl hs⟩
   ·
    rcases af h9 with⟨hok,h9⟩|⟨hok,h9⟩
    .simp only[bf,bB]at h9;obtain⟨_,rfl,rfl⟩:=h9;subst hok;refine⟨_,w,g,.inl (by simp only[execOp,hop,Sem.run_bind,hno hk' h3,Result.andThen_ok,Sem.run_pure];rfl),.gq _ _ rfl λq t v k1 k2=>?_,cN.refl hs⟩
     match q with
     |0=>simp[bh]at k1 k2;subst k1;subst k2;simp only[low];rw[h2];subst hte;exact MG
     |1=>simp[bh]at k1 k2;subst k1;subst k2;rw[h1];exact .sym _ _ (.lit _)
     |q+2=>simp[bh]at k1
    .simp only[bf,bB]at h9;obtain⟨rfl,_⟩:=h9;rw[h1]at hc;cases hc
  .rename_i hj hk;have hk':i.kd≠.iface:=λe=>hk e;rcases af h with⟨hok,h9⟩|⟨hok,h9⟩;rotate_left
   .cases h9
   simp only[bf,bB]at h9;obtain⟨_,rfl,rfl⟩:=h9;subst hok;refine⟨_,w,g,.inl (by simp only[execOp,hop,Sem.run_bind,hno hk' (λd=>Fh.Bb _ _ _ hj d),Result.andThen_ok,Sem.run_pure];rfl),.gq _ _ rfl λq t v k1 k2=>?_,cN.refl hs⟩
   match q with
   |0=>simp[bh]at k1 k2;subst k1;subst k2;exact MG
   |1=>simp[bh]at k1 k2;subst k1;subst k2;exact .kb _
   |q+2=>simp[bh]at k1
 ·
  rename_i ty ps hop;split at h;rotate_left
  .cases h
  rename_i i pv hi hps;split at h;rotate_left
  .cases h
  rename_i len sz ag dO;simp only[eA,bB]at h;obtain⟨cs,hcs,_,rfl,rfl⟩:=h;obtain⟨p,hfl,hp⟩:=A6 hS hcs;rw[mh]at hfl;obtain⟨xi,d1,z,xb,j6,_,pP,Uz,nE,ke⟩:=(hT.ti _ _ hi).all;rw[dO]at ke;obtain⟨el,j,d',rfl,hj,pS,hju,_⟩:=ke;have MG:=qV (g:=g) (w:=w) nE;obtain⟨rs,h1,h2⟩:=uW (g:=g) (w:=w) (pl:=λk=>some (k*sz,sz)) (λk off ti qS=>by
   simp only[bf,bB]at qS;obtain⟨rfl,rfl⟩:=qS;rfl) _ _ hfl hp (nV hf (sw hps)) ⟨by simpa using MG.1,λj t v h1 h2=>MG.2 j t v h1 (by simpa using h2)⟩
  refine⟨.agg rs,w,g,.inl ?_,.agg _ _ (by simpa using h2.1) (λj t v h3 h4=>h2.2 j t v h3 (by simpa using h4)),cN.refl hs⟩;have EW:Instr.fill (λi=>some (i*sz,sz)) z.cells (ps.map λ(i,x)=>(i,a.eval x)).toList=some rs:=by simpa using h1
  simp only[execOp,hop,Instr.build,Sem.run_bind,ef xb Uz,aL j6,dB hj,pS,Result.andThen_ok,Sem.run_pure,EW]
 .cases h
end
end
section
section
variable {g:Gh}{w:World}
def IN{β:Type}{ω:Type}{X:V S->bq S->Option ω}{D:Option ω}{kt:Ty}(k:den S.A kt)(f:β->V S)(s:bq S):∀(l:List (den S.A kt×β)),
  tM X D (l.map λp=>(Ii kt k p.1,f p.2,s))=match(Gx kt k l).bind (l[·]?)with
   |some p=>X (f p.2) s
   |none=>D
 |[]=>rfl
 |p::l=>by
  simp only[lZ,tM,Gx];cases hb:Ii kt k p.1 with
  |true=>simp[aj]
  |false=>
   simp only[aj,gE];rw[IN k f s l];cases Gx kt k l with|none=>rfl|some j=>simp
def vA{ω:Type}{X:V S->bq S->Option ω}{n:Int}{ag:Bool}{sz:Nat}{cs:List (V S)}{s:bq S}{r:ω}:∀{l:List Nat},tM X none (yC n ag sz cs s l)=some r->
  ∃j v,j∈l∧n=(j:Int)∧((cs.drop (j*sz)).take sz).length=sz∧0<sz∧zo ag ((cs.drop (j*sz)).take sz)=some v∧X v s=some r
 |[],h=>by cases h
 |j::l,h=>by
  simp only[yC]at h;split at h
  .rename_i v hv;rcases af hv with⟨hb,hv⟩|⟨_,hv⟩;rotate_left
   .cases hv
   rw[eE]at hb;have hl:=beq_iff'.1 hb.1;rw[bH]at hl;simp only[tM]at h;rcases HK h with⟨hn,h⟩|⟨_,h⟩
   .exact ⟨j,v,eC,by simpa[hU]using hn,hl,fQ hb.2,hv,h⟩
   .obtain ⟨i,u,h1,h2⟩:=vA h;exact⟨i,u,gL _ h1,h2⟩
  .cases h
where
 HK {α:Type} {c:Bool} {x y:Option α} {r:α} (h:aj c x y=some r):(c=true∧x=some r)∨(c=false∧y=some r):=af h
variable {s s':bq S}{E:gA}{fr:bV S}{a:Act}{o:Oper}{f:FuncId}
def Q9(hT:Ai E.E)(hX:XOk S E)(hf:cE g (bx fr) a w)(hs:bg g (aF s) w)(o:Oper){Bq:List (Bool×V S×bq S)}{p:Bool}{d:V S}(h:jc E fr s o.op=some (Bq,p,d,s')){ω:Type}{X:V S->bq S->Option ω}{r:ω}
  (hr:tM X (aB p (X d s')) Bq=some r) :
  ∃t s1 v w' g',X t s1=some r∧((execOp a.eval o).run E.E.P w=.ok (.value v) w'∨((execOp a.eval o).run E.E.P w=.ok .skip w'∧v=undef))∧aJ g' w' (low t) v∧cN [] s g w s1 g' w'∧((∀it b,o.op≠.next it b)->s1=s):=by
 unfold jc at h;split at h
 ·
  rename_i it hop;split at h;rotate_left
  .cases h
  rename_i iD hit;split at h;rotate_left
  .cases h
  rename_i b pos cB;rcases af h with⟨hfl,h9⟩|⟨_,h9⟩;rotate_left
  .cases h9
  clear h;simp only[bf,bB]at h9;obtain⟨rfl,rfl,rfl,rfl⟩:=h9;obtain⟨cj,hie,hb⟩:=aJ.aac (cX hf hit);have wG:(aF s).ob.get iD=some (.pO (bF b) pos):=by rw[aV,cB];rfl
  obtain⟨x0,hh,Wz⟩:=(hs.box iD cj hb).2.2 _ wG;have hlt:=(hs.box iD cj hb).2.1;cases Wz;have cJ:(getObj cj).run E.E.P w=.ok (.stringIter (bF b) pos) w:=by simp[getObj,Sem.run,hh]
  have ya:∀x,(setObj cj x).run E.E.P w=.ok () {w with heap:=w.heap.setIfInBounds cj x}:=λx=>by simp[setObj,Sem.run,hh]
  have hsize:(bF b).size=b.length:=by simp[bF,ByteArray.size]
  simp only[tM]at hr;rcases vA.HK hr with⟨hp,hr⟩|⟨hp,hr⟩
  .have hp':pos<(bF b).size:=by rw[hsize];simpa[Ot]using hp
   obtain⟨q1,q2,q3⟩:=Jc (.stringIter (bF b) (pos+GB b pos)) hlt;obtain⟨AW,N6⟩:=hs.setObj hb wG rfl (fQ hfl) (Ux:=.pO (bF b) (pos+GB b pos)) (.pO _ _) q1 q2 q3 rfl rfl;refine⟨_,_,.tuple #[.bool true,goInt pos,.int .i32 (tE b pos)],_,g,hr,.inl ?_,.gq _ _ rfl λq t v k1 k2=>?_,cN.l7 hs (by rw[eZ];exact AW) N6 rfl rfl (bT _) (sd _ _ _),λhh=>absurd hop (hh it true)⟩
   .have hrun:(Instr.next (a.eval it) true o.type).run E.E.P w=.ok (.tuple #[.bool true,goInt pos,.int .i32 (tE b pos)]) {w with heap:=w.heap.setIfInBounds cj (.stringIter (bF b) (pos+GB b pos))}:=by rw[hie];simp only[Instr.next,Sem.run_bind,cJ,Result.andThen_ok,hp',fR,ya];rfl
    simp only[execOp,hop,Sem.run_bind,hrun,Result.andThen_ok,Sem.run_pure]
   .match q with
    |0=>simp[bh]at k1 k2;subst k1;subst k2;exact .kb _
    |1=>simp[bh]at k1 k2;subst k1;subst k2;exact .sym _ _ (.lit _)
    |2=>simp[bh]at k1 k2;subst k1;subst k2;exact .sym _ _ (.lit _)
    |q+3=>simp[bh]at k1
  .have hp':¬pos<(bF b).size:=by rw[hsize];simpa[Ot]using hp
   simp only[aB,dM]at hr;refine⟨_,_,.tuple #[.bool false],w,g,hr,.inl ?_,.gq _ _ rfl λq t v k1 k2=>?_,cN.refl hs,λhh=>absurd hop (hh it true)⟩
   .have hrun:(Instr.next (a.eval it) true o.type).run E.E.P w=.ok (.tuple #[.bool false]) w:=by rw[hie];simp only[Instr.next,Sem.run_bind,cJ,Result.andThen_ok,hp',eO];rfl
    simp only[execOp,hop,Sem.run_bind,hrun,Result.andThen_ok,Sem.run_pure]
   .match q with
    |0=>simp[bh]at k1 k2;subst k1;subst k2;exact .kb _
    |q+1=>simp[bh]at k1
 ·
  rename_i ty x ix ok hop;split at h;rotate_left
  .cases h
  rename_i m iD kv hm hx hk;split at h;rotate_left
  .cases h
  rename_i kt l k i cB hkey MH;split at h;rotate_left
  .cases h
  rename_i l' z hck hpz;simp only[bf,bB]at h;obtain⟨rfl,rfl,rfl,rfl⟩:=h;obtain⟨rfl,yT⟩:=Nk hck;cases yT;obtain⟨tY,dd,ht,hu,dO,⟨xi,zv,xb,hz⟩,_⟩:=hX.mt _ _ hm;have hke:=sK hkey (cX hf hk);obtain⟨b,Wp,hb⟩:=aJ.JO (cX hf hx);obtain⟨x0,hh,Wz⟩:=(hs.box iD b hb).2.2 _ (by rw[aV,cB];rfl);obtain⟨ms,cl,rfl,hmr⟩:=gU.QF dO (f:=low) Wz;have hlk:=DS (P:=E.E.P) dO ht hu xb hz k hh hmr.1 (λj p q h1 h2=>(hmr.2 j p q h1 h2).1) ok;have MG:aJ g w (low z) zv:=by
   obtain⟨x',_,z',hx',_,_,pP,GV,nE,_⟩:=(hT.ti _ _ MH).all;rw[xb]at hx';cases hx';rw[hz]at GV;cases GV;obtain⟨hza,hzn⟩:=(hT.ti _ _ MH).zag _ _ xb hz;obtain⟨hz1,hz2⟩:=qV (g:=g) (w:=w) nE;have hp:=ot hpz;rw[mh]at hp;obtain⟨lC,_⟩:=vY (g:=g) (w:=w) hp (vals:=zv.cells.toList) (by simpa using hz1) (λj t v h1 h2=>hz2 j t v h1 (by simpa using h2));cases hia:i.agg with
   |true=>obtain⟨vs,rfl⟩:=hza hia;rw[hia]at lC;simpa[Value.cells]using lC
   |false=>have:=hzn hia;rw[hia,this]at lC;simpa using lC
  rw[IN k (λv=>bif ok then .gq [v,.kb true]else v) s l']at hr;have wrap:∀(t:V S)(u:Value)(bb:Bool),aJ g w (low t) u->aJ g w (low (bif ok then .gq [t,.kb bb]else t:V S)) (if ok then .tuple #[u,.bool bb]else u):=by
   intro t u bb hu;cases ok with
   |false=>exact hu
   |true=>
    refine .gq _ _ rfl λq t v k1 k2=>?_
    match q with
    |0=>simp[bh]at k1 k2;subst k1;subst k2;exact hu
    |1=>simp[bh]at k1 k2;subst k1;subst k2;exact .kb _
    |q+2=>simp[bh]at k1
  have O5:=hlk;rw[<-Wp,<-hke]at O5;cases KX:Gx m.kt k l' with
  |none=>rw[KX]at hr O5;simp only[QU]at hr O5;simp only[aB,dM]at hr;exact⟨_,_,_,w,g,hr,.inl (by simp only[execOp,hop,Sem.run_bind,O5,Result.andThen_ok,Sem.run_pure]),wrap z zv false MG,cN.refl hs,λ_=>rfl⟩
  |some j=>
   obtain⟨q,hq,_⟩:=zG KX;have hj:j<ms.size:=by rw[<-hmr.1];exact aD hq
   have hmj:ms[j]?=some ms[j]:=oN hj;rw[KX]at hr O5;simp only[Jq,hq,hmj,dX]at hr O5;exact⟨_,_,_,w,g,hr,.inl (by simp only[execOp,hop,Sem.run_bind,O5,Result.andThen_ok,Sem.run_pure]),wrap q.2 _ true (hmr.2 j q _ hq hmj).2,cN.refl hs,λ_=>rfl⟩
 ·
  rename_i ty x ix hop;split at h;rotate_left
  .cases h
  rename_i i cs kv hi hx hk;split at h;rotate_left
  .cases h
  rename_i len sz ag n dO hn;rcases af h with⟨hlen,h9⟩|⟨_,h9⟩;rotate_left
  .cases h9
  clear h;simp only[bf,bB]at h9;obtain⟨rfl,rfl,rfl,rfl⟩:=h9;simp only[aB,gE]at hr;obtain⟨j,v,WJ,rfl,hl,hsz,hpk,hXv⟩:=vA hr;have hjl:j<len:=List.mem_range.1 WJ;obtain⟨pq,hp,MI⟩:=fL hn;have e1:=dJ hp MI (cX hf hk);obtain⟨_,d1,_,_,j6,anO,aiq,_,_,ke⟩:=(hT.ti _ _ hi).all;rw[dO]at ke;obtain⟨el,jj,d',rfl,hj1,hj2,hj3,hj4⟩:=ke;obtain⟨vs,Wp,dc⟩:=aJ.Rf (cX hf hx);have OU:=(dc.drop (j*sz)).take sz;have hlt:=ot hpk;rw[jd,je]at hlt;obtain⟨lC,h1⟩:=vY (g:=g) (w:=w) hlt OU.1 OU.2;have hlv:((vs.toList.drop (j*sz)).take sz).length=sz:=by rw[<-OU.1,<-je,<-jd,eR];exact hl
  have hle:j*sz+sz<=vs.size:=by simp at hlv;omega
  have hrp:=Ly (P:=E.E.P) (w:=w) hj1 hj3 vs (j*sz) (by rw[hj2];exact hle) (λhd=>by
   rw[<-hj4]at hd;obtain⟨v,hv⟩:=h1 hd;rw[hv]at hlv;rw[hj2];exact hlv.symm)
  rw[hj2,<-hj4]at hrp;refine⟨v,s,_,w,g,hXv,.inl ?_,lC,cN.refl hs,λ_=>rfl⟩;have hin:(0:Int)<=(j:Int)∧(j:Int)<(len:Int):=by omega
  simp only[execOp,hop,Instr.index,e1,Wp,asIntOf,Sem.run_bind,Sem.run_pure,Result.andThen_ok,aL j6,bL hin,dB hj1,hj2,Jr,hrp]
 .cases h
def Zu(P:Program)(ats:Array TypeId)(ty:TypeId)(m n:Int):(Builtin.max_ ats ty #[.int .i64 m,.int .i64 n]).run P w=.ok (.int .i64 (Oy m n)) w:=by simp only[Builtin.max_,List.foldlM_cons,List.foldlM_nil,Builtin.max2,Oy,D.bN];by_cases h:m<n<;>simp[h]
def Zt(P:Program)(ats:Array TypeId)(ty:TypeId)(m n:Int):(Builtin.min_ ats ty #[.int .i64 m,.int .i64 n]).run P w=.ok (.int .i64 (VW m n)) w:=by simp only[Builtin.min_,List.foldlM_cons,List.foldlM_nil,Builtin.min2,VW,D.bN];by_cases h:n<m<;>simp[h]
def Ab(hX:XOk S E)(hs:bg g (aF s) w)(hf:cE g (bx fr) a w){cl:Call}(hop:o.op=.call cl){b:Builtin}(hb:cl.callee=.builtin b){args:List (V S)}(hargs:jX fr cl.args.toList=some args){c:Bool}{t:V S}
  (h:rS E s b cl.argTypes args=some (c,t,s')):s'=s∧∃v,(execOp a.eval o).run E.E.P w=.ok (.value v) w∧aJ g w (low t) v:=by
 have dc:=fh hf (gM hargs);unfold rS at h;split at h
 .rename_i iD;have key:∀(l:Nat)(ob:wP S),s.ob.get iD=some ob->(∀x,gU g w (cQ ob) x->∃ms c,x=.map ms c∧ms.size=l)->∀m,(nth cl.argTypes.toList 0).bind E.mt=some m->
    ∃v,(execOp a.eval o).run E.E.P w=.ok (.value v) w∧aJ g w (low (.ty (.int .i64) (l:Int):V S)) v:=by
   intro l ob cB hx m hm;simp only[sq]at hm;obtain⟨ty,As,hmt⟩:=hm;obtain⟨tY,d,ht,_⟩:=hX.mt _ _ hmt;have h0:aJ g w (.mp iD) ((cl.args.toList.map a.eval)[0]'(by have:=dc.1;simp[bh]at this;simp;omega)):=dc.2 0 _ _ rfl (gm _);obtain⟨cj,hbe,o3⟩:=aJ.JO h0;obtain⟨x0,hh,Wz⟩:=(hs.box iD cj o3).2.2 _ (by rw[aV,cB];rfl);obtain⟨ms,cc,rfl,O3⟩:=hx _ Wz;have cJ:(getObj cj).run E.E.P w=.ok (.map ms cc) w:=sj hh;have ha0:(cl.args.map a.eval)[0]?=some (.map (some cj)):=by
    have hlen:0<(cl.args.toList.map a.eval).length:=by have:=dc.1;simp[bh]at this;simp;omega
    have:=gm hlen;rw[hbe]at this;simpa using this
   have aoQ:cl.argTypes[0]?=some ty:=by rw[jx]at As;simpa using As
   refine⟨goInt ms.size,?_,by rw[O3];exact .sym _ _ (.lit _)⟩;simp only[execOp,hop,resolve,hb,Sem.run_bind,Sem.run_pure,Result.andThen_ok,invoke,builtin,Builtin.len_,aoQ,ha0,aL ht,cJ]
  split at h
  .rename_i m kt vt l hm cB;simp only[bf,bB]at h;obtain⟨_,rfl,rfl⟩:=h;exact⟨rfl,key l.length _ cB (λx hx=>by cases hx with|map _ ms c hl _=>exact⟨ms,c,rfl,by simpa using hl.symm⟩) m hm⟩
  .rename_i m kt l hm cB;simp only[bf,bB]at h;obtain⟨_,rfl,rfl⟩:=h;exact⟨rfl,key l.length _ cB (λx hx=>by cases hx with|map _ ms c hl _=>exact⟨ms,c,rfl,by simpa using hl.symm⟩) m hm⟩
  .cases h
 .rename_i x y;split at h;rotate_left
  .cases h
  rename_i m n hm hn;simp only[bf,bB]at h;obtain⟨_,rfl,rfl⟩:=h;obtain⟨a1,ha⟩:=Lg dc hm hn;refine⟨rfl,.int .i64 (Oy m n),?_,.sym _ _ (.lit _)⟩;simp only[execOp,hop,resolve,hb,Sem.run_bind,Sem.run_pure,Result.andThen_ok,invoke,builtin,ha,Zu]
 .rename_i x y;split at h;rotate_left
  .cases h
  rename_i m n hm hn;simp only[bf,bB]at h;obtain⟨_,rfl,rfl⟩:=h;obtain⟨a1,ha⟩:=Lg dc hm hn;refine⟨rfl,.int .i64 (VW m n),?_,.sym _ _ (.lit _)⟩;simp only[execOp,hop,resolve,hb,Sem.run_bind,Sem.run_pure,Result.andThen_ok,invoke,builtin,ha,Zt]
 .cases h
where
 Lg {l:Array Operand} {a:Act} {x y:V S} {m n:Int} (dc:PW (aJ g w) (bh [x,y]) (l.toList.map a.eval)) (hm:gF .i64 x=some m) (hn:gF .i64 y=some n):True∧l.map a.eval=#[.int .i64 m,.int .i64 n]:=by
  refine⟨trivial,?_⟩;have hl:(l.toList.map a.eval).length=2:=by have:=dc.1;simpa[bh]using this.symm
  match yT:l.toList.map a.eval,hl with
  |[u,v],_=>rw[yT]at dc;have h1:=dc.2 0 _ _ rfl rfl;have h2:=dc.2 1 _ _ rfl rfl;obtain⟨p,hp,MI⟩:=fL hm;obtain⟨q,hq,hqq⟩:=fL hn;rw[dJ hp MI h1,dJ hq hqq h2]at yT;apply Ea;simpa using yT
def Oi(hX:XOk S E){t:TypeId}{nm:String}(h:E.JB t nm=some f)(v:Value)(args:Array Value)(hf:mM E.E.P f):(callMethod (.iface t v) nm args).run E.E.P w=.ok (.enter f (#[v]++args)) w:=by
 obtain⟨x,mm,d,hx,hm,hp,hu,hk⟩:=hX.JB _ _ _ h;obtain⟨n,hn⟩:∃n,E.E.P.types.size+Made.depth=n+1:=⟨E.E.P.types.size+Made.depth-1,by unfold Made.depth;omega⟩;have ah1:(method (E.E.P.types.size+Made.depth) t v nm).run E.E.P w=.ok (f,v) w:=by
  rw[hn];simp only[method,Sem.run_bind,qy hx,Result.andThen_ok,hm,hp,follow,Sem.run_pure];rcases hk with⟨hk,hne⟩|⟨hk,e,rfl⟩
  .simp only[hk,Sem.run_bind,receiverAt,aL hu,Result.andThen_ok];cases d<;>first|(exact absurd rfl (hne _))|(simp[Place.get])
  .simp only[hk,Sem.run_bind,receiverAt,aL hu,Result.andThen_ok];simp[Place.get]
 have hprog:(Go.program).run E.E.P w=.ok E.E.P w:=rfl;simp only[callMethod,Sem.run_bind,hprog,Result.andThen_ok,ah1,vW hf]
def Lz(hX:XOk S E){c:Call}(ho:o.op=.call c){x:Operand}{m:String}(hc:c.callee=.invoke x m){t:TypeId}{v:Value}(hv:a.eval x=.iface t v)(h:E.JB t m=some f)(he:mM E.E.P f) :
  (execOp a.eval o).run E.E.P w=.ok (.enter f (#[v]++c.args.map a.eval)) w:=by
 simp only[execOp,ho,resolve,hc,hv,Sem.run_bind,Sem.run_pure,Result.andThen_ok,invoke];simp only[QY,LY,fI,AG,Nat.lt_add_one,fR,On,sr];have e:(#[Value.iface t v]++c.args.map a.eval).extract 1 (#[Value.iface t v]++c.args.map a.eval).size=c.args.map a.eval:=by apply Ea;simp only[Array.toList_extract,GN,QT,VD];simp;exact List.take_of_length_le (by simp)
 rw[e];exact Oi hX h v _ he
end
end
section
section
variable {g:Gh}{w:World}
def kg(s:bq S)(o:Nat)(ob:Ob):St:={aF s with ob:=(aF s).ob.set aI o ob}
variable {s s':bq S}{o n j era m dg k r i off:Nat}{hole:Option Nat}{hl:List Value}{d:D}{h v:Value}{a:Act}
def HC(hs:bg g (aF s) w){l:List (S.A n)}{x:fB}(ho:s.ob.get o=some (.kE n j l era m dg hole))(hx:g.arr o era=some x) :
  ∃hl,hl.length=l.length∧vR g w false (S.width (.st n)) (lits j (l.map (enc S (.st n))) hl) x∧Hy g m dg hole hl∧bg g (kg s o (.arr (S.width (.st n)) (lits j (l.map (enc S (.st n))) hl) era)) w:=by
 obtain⟨hl,h1,h2,h3,h4⟩:=hs.view (by rw[aV,ho];rfl) hx;exact⟨hl,by simpa using h1,h2,h3,h4⟩
def yX{s1:St}(h:bg g s1 w){l:List (S.A n)}(cB:o<bA)(h1:s1.ob.get o=some (.arr (S.width (.st n)) (lits j (l.map (enc S (.st n))) hl) era))(hlen:hl.length=l.length)
  (hL:Hy g m dg hole hl) (h2:s'.ob.get o=some (.kE n j l era m dg hole)) (h3:∀k,k≠o->(aF s').ob.get k=s1.ob.get k) (h4:s'.aH=s1.aH):bg g (aF s') w:=by
 refine(h.UP (es:=l.map (enc S (.st n))) cB h1 (by simpa using hlen) hL).W9 h4 λk=>?_;show _=(s1.ob.set aI o _).get k;rw[Tr.aT _ _ _ _ cB];by_cases hk:k=o
 .subst hk;rw[bL rfl,aV,h2];rfl
 .rw[bw hk,h3 k hk]
def fT(cB:o<bA)(ob:Ob)(k:Nat):(kg s o ob).ob.get k=if k=o then some ob else(aF s).ob.get k:=Tr.aT _ _ _ _ cB
def JG{es:List D}(h1:es[k]?=some d)(h2:hl[k]?=some h):D.el (lits j es hl) k=iQ j d h:=by simp[D.el,lits,List.getD,Js,h1,h2]
def Jb(h:aJ g w (.sh o r) v):∃x,g.arr o r=some x∧v=.slice x.a x.len x.cap:=by cases h with|sh _ _ len cap sz a hx=>exact⟨_,hx,rfl⟩
def RF{e:Nat}(h:aJ g w (.kL o e i off) v):∃x,g.arr o e=some x:=by cases h with|kL _ _ _ _ len cap sz ad hx=>exact⟨_,hx⟩
def Rb(h:aJ g w (.qF o m r i) v):∃y,g.arr m (rc r i)=some y∧v=.slice y.a y.len y.cap:=by cases h with|qF _ _ _ _ len cap sz a hx=>exact⟨_,hx,rfl⟩
def SO(fr:Fr)(x:Operand)(t:T):Fr:=match x with
 | .tmp k=>{fr with tm:=fr.tm.set aI k t}
 |_=>fr
def Mf{fr:Fr}(hf:cE g fr a w){u t:T}(hk:fr.get k=some u)(hkN:k<bA)(ht:aJ g w t (a.eval (.tmp k))):cE g (SO fr (.tmp k) t) a w:=by
 refine⟨hf.size,hf.df,λk' t' h=>?_⟩;simp only[SO,Fr.get]at h;rw[Tr.aT _ _ _ _ hkN]at h;split at h
 .rename_i e;subst e;cases h;obtain⟨v,hv,_⟩:=hf.tm _ _ hk;refine⟨v,hv,?_⟩;have:a.eval (.tmp k')=v:=by simp[Act.eval,hv]
  rw[<-this];exact ht
 .exact hf.tm k' t' h
def SS{i:TI}(hj:Nat.ble (Nat.add off i.size) j=true∨Nat.blt j off=true):nM i (iQ j d h) off=nM i d off:=by
 have hcell:∀q,(off<=q∧q<off+i.size)->(iQ j d h).cell q=d.cell q:=by
  intro q hq;have hne:j≠q:=by
   rcases hj with hj|hj
   .have:=fQ hj;simp only[Nat.add_eq]at this;omega
   .have:j<off:=fQ hj;omega
  show(d.cells.set j _).getD q _=d.cells.getD q _;simp only[List.getD,LJ hne]
 unfold nM;cases i.agg with
 |true=>
  simp only[dM]
  congr 2
  refine Ma λq hq=>?_;have:=hcell (Nat.add off q) ⟨Nat.le_add_right _ _,Nat.add_lt_add_left (List.mem_range.1 hq) _⟩;rw[this]
 |false=>
  simp only[gE];cases hb:Nat.beq i.size 1 with|true=>have:=beq_iff'.1 hb;simp only[dM];rw[hcell off ⟨bT _,by omega⟩]|false=>rfl
def Lj(s:St):∀{l:List T}{p:Prop}{ds:List D}{os:List Nat}{j:Nat},lY s l=some (p,ds,os)->l[j]?=some .emp->∀v,∃p',lY s (l.set j (.sym (.lit v)))=some (p',ds.set j (.lit v),os)∧(p->p')∧ds[j]?=some (.sl [])
 |[],p,ds,os,j,_,hj,v=>by simp at hj
 |t::l,p,ds,os,j,h,hj,v=>by
  simp only[lY]at h;split at h
  .rename_i q d Q6 r ds1 SV h1 h2;simp only[bf,bB]at h;obtain⟨rfl,rfl,rfl⟩:=h;cases j with
   |zero=>simp only[sr,bf]at hj;subst hj;simp only[vU,bf,bB]at h1;obtain⟨rfl,rfl,rfl⟩:=h1;exact⟨True∧r,by simp only[List.set_cons_zero,lY,vU,h2],λh=>h,rfl⟩
   |succ j=>obtain⟨p',k1,k2,k3⟩:=Lj s h2 (by simpa using hj) v;exact⟨q∧p',by simp only[List.set_cons_succ,lY,h1,k1],λh=>⟨h.1,k2 h.2⟩,by simpa using k3⟩
  .cases h
def ZM{E:gA}(hS:fy S)(hT:Ai E.E)(Zc:PV S E){fr:bV S}(hf:cE g (bx fr) a w)(hs:bg g (aF s) w)(o:Oper){c:Bool}{t:V S}(h:AN E fr s o.op=some (c,t,s'))(hc:c=true) :
  ∃v w' g',((execOp a.eval o).run E.E.P w=.ok (.value v) w'∨((execOp a.eval o).run E.E.P w=.ok .skip w'∧v=undef))∧aJ g' w' (low t) v∧cN [] s g w s' g' w':=by
 unfold AN at h;split at h
 ·
  rename_i ty x ix hop;split at h;rotate_left
  .cases h
  rename_i iD r hx;split at h;rotate_left
  .cases h
  rename_i n j l era m dg hole cB;split at h;rotate_left
  .cases h
  rename_i i n' kv hi As KX;split at h;rotate_left
  .cases h
  rename_i sz ag bt zz k dO hk;rcases af h with⟨hb,h9⟩|⟨_,h9⟩;rotate_left
  .cases h9
  simp only[eE]at hb;have Tm:=beq_iff'.1 hb.1;subst Tm;have WC:=beq_iff'.1 hb.2;subst WC;simp only[bf,bB]at h9;obtain⟨rfl,rfl,rfl⟩:=h9;obtain⟨xs,hxs,_⟩:=Jb (cX hf hx);have uL:iD<bA:=dy (hs.lt' hxs) hs.aH;obtain⟨hl,h1,h2,h3,h4⟩:=HC hs cB hxs;obtain⟨p,kH,hp⟩:=fL hk;obtain⟨⟨z,uM,_⟩,_⟩:=Zc.row _ _ _ hi As;have hin:=uI hc;have hbq:Nat.beq (S.width (.st n)) (S.width (.st n))=true:=beq_iff'.2 rfl;have hlen:(lits j (l.map (enc S (.st n))) hl).length=l.length:=by rw[lO (by simpa using h1)];simp
  obtain⟨⟨v,w',g',hr,AW,he,ht⟩,q1,q2,q3⟩:=mz hT hf h4 o (p:=p∧D.GU k (D.len (lits j (l.map (enc S (.st n))) hl))) (t:=.kL iD r (D.nat k) 0) (s':=kg s iD (.arr (S.width (.st n)) (lits j (l.map (enc S (.st n))) hl) r)) (by
   rw[hop];simp only[ny,hi,bU hx,bU KX,kG,uM,kH,low,Hu];rw[fT uL,bL rfl];simp only[show Nat.beq r r=true from beq_iff'.2 rfl,dM,hbq]) ⟨hp,by simp only[D.GU,D.len,hlen];omega⟩
  refine⟨v,w',g',hr,ht,cN.l7 hs ?_ he rfl rfl (bT _) (iG.refl _)⟩;refine yX AW uL (by rw[fT uL,bL rfl]) h1 (h3.le (λj y=>he.arr m j y)) cB (λk hk=>by rw[fT uL,bw hk]) rfl
 ·
  rename_i ty x hop;split at h;rotate_left
  .cases h
  rename_i iD e k off hx;split at h;rotate_left
  .cases h
  rename_i n j l era m dg hole cB;split at h;rotate_left
  .cases h
  rename_i i hi;rcases af h with⟨hb,h9⟩|⟨_,h9⟩;rotate_left
  .cases h9
  clear h;have Tm:=beq_iff'.1 hb;subst Tm;obtain⟨xs,hxs⟩:=RF (cX hf hx);have uL:iD<bA:=dy (hs.lt' hxs) hs.aH;obtain⟨hl,h1,h2,h3,h4⟩:=HC hs cB hxs;have hlen:(lits j (l.map (enc S (.st n))) hl).length=l.length:=by rw[lO (by simpa using h1)];simp
  have back:∀{g':Gh}{w':World},bg g' (kg s iD (.arr (S.width (.st n)) (lits j (l.map (enc S (.st n))) hl) e)) w'->Ext s.fl g w g' w'->cN [] s g w s g' w':=λAW he=>
   cN.l7 hs (yX AW uL (by rw[fT uL,bL rfl]) h1 (h3.le (λj y=>he.arr m j y)) cB (λk hk=>by rw[fT uL,bw hk]) rfl) he rfl rfl (bT _) (iG.refl _)
  rcases af h9 with⟨hj,h⟩|⟨hj,h⟩
  ·
   clear h9;rcases af h with⟨fM,h9⟩|⟨_,h9⟩;rotate_left
   .cases h9
   simp only[eE,GL]at fM;simp only[bf,bB]at h9;obtain⟨rfl,rfl,rfl⟩:=h9;have hoff:=beq_iff'.1 hj;subst hoff;have hk:=rK hc;have hel:D.el (lits off (l.map (enc S (.st n))) hl) k=iQ off (enc S (.st n) l[k]) (hl[k]'(by omega)):=JG (by rw[gQ,gm hk];rfl) (gm _);have hrow:=h2.rows _ (gW (by rw[lits,Js,gQ,gm hk,gm (by omega:k<hl.length)];rfl:(lits off (l.map (enc S (.st n))) hl)[k]?=some (iQ off (enc S (.st n) l[k]) (hl[k]'(by omega)))));have hsz:i.size=1:=beq_iff'.1 fM.1;have Rn:off<S.width (.st n):=fQ fM.2.2.2;have hcell:(iQ off (enc S (.st n) l[k]) (hl[k]'(by omega))).cell off=.lit (hl[k]'(by omega)):=by
    show((enc S (.st n) l[k]).cells.set off _).getD off _=_;have:off<(enc S (.st n) l[k]).cells.length:=by rw[jU hS];exact Rn
    simp[List.getD,this]
   obtain⟨⟨v,w',g',hr,AW,he,ht⟩,q1,q2,q3⟩:=mz hT hf h4 o (t:=.sym (.lit (hl[k]'(by omega)))) (s':=kg s iD (.arr (S.width (.st n)) (lits off (l.map (enc S (.st n))) hl) e)) (p:=D.GU (k:Int) (D.len (lits off (l.map (enc S (.st n))) hl))∧(D.el (lits off (l.map (enc S (.st n))) hl) k).has (Nat.add off i.size)) (by
    rw[hop];simp only[ny,hi,bU hx,low,loadT,Hu];rw[fT uL,bL rfl];simp only[show Nat.beq e e=true from beq_iff'.2 rfl,dM,hel,nM,fM.2.1,gE,fM.1,hcell,dX]) ⟨by simp only[D.GU,D.len,hlen];omega,by
     rw[hel];show Nat.add off i.size<=_;rw[hrow,hsz];exact Rn⟩
   have hv:=aJ.JP ht;obtain⟨y,hy,hye⟩:=h3.2 k _ (gm (by omega)) (by
    intro e;rw[e]at fM;exact Bool.noConfusion fM.2.2.1)
   refine⟨v,w',g',hr,?_,back AW he⟩;rw[hv,hye];exact .qF _ _ _ _ _ _ y.sz _ (he.arr _ _ _ hy)
  ·
   clear h9;rcases af h with⟨fM,h9⟩|⟨_,h9⟩;rotate_left
   .cases h9
   simp only[eA,bB]at h9;obtain⟨u,hu,rfl,rfl,rfl⟩:=h9;rw[lA]at fM;have hk:=rK hc;obtain⟨p1,p2⟩:=AM hS (i:=i) (τ:=none) (λu h=>by cases h) hu;have hex:aN l k (S.zero (.st n))=l[k]:=by simp[aN,List.getD,hk]
   rw[hex]at p1 p2;have hel:D.el (lits j (l.map (enc S (.st n))) hl) k=iQ j (enc S (.st n) l[k]) (hl[k]'(by omega)):=JG (by rw[gQ,gm hk];rfl) (gm _);obtain⟨⟨v,w',g',hr,AW,he,ht⟩,q1,q2,q3⟩:=mz hT hf h4 o (t:=low u) (s':=kg s iD (.arr (S.width (.st n)) (lits j (l.map (enc S (.st n))) hl) e)) (p:=D.GU (k:Int) (D.len (lits j (l.map (enc S (.st n))) hl))∧(D.el (lits j (l.map (enc S (.st n))) hl) k).has (Nat.add off i.size)) (by
    rw[hop];simp only[ny,hi,bU hx,low,loadT,Hu];rw[fT uL,bL rfl];simp only[show Nat.beq e e=true from beq_iff'.2 rfl,dM,hel,SS fM,p1,dX]) ⟨by simp only[D.GU,D.len,hlen];omega,by
     rw[hel];show Nat.add off i.size<=((enc S (.st n) l[k]).cells.set j _).length;rw[AH];exact p2⟩
   exact⟨v,w',g',hr,ht,back AW he⟩
 ·
  rename_i ty x kx hop;split at h;rotate_left
  .cases h
  rename_i iD e k off o' m' r i hx hy;split at h;rotate_left
  .cases h
  rename_i n j l era m dg hh cB;split at h;rotate_left
  .cases h
  rename_i ti hi;rcases af h with⟨hb,h9⟩|⟨_,h9⟩;rotate_left
  .cases h9
  clear h;simp only[eE,GL]at hb;obtain⟨b1,b2,b3,b4,b5,b6,b7,b8,b9,b10⟩:=hb;have e1:=beq_iff'.1 b1;subst e1;have e2:=beq_iff'.1 b2;subst e2;have e3:=beq_iff'.1 b3;subst e3;have e4:=beq_iff'.1 b4;subst e4;have e5:=beq_iff'.1 b5;subst e5;simp only[bf,bB]at h9;obtain⟨rfl,rfl,rfl⟩:=h9;unfold WA at hc;simp only[eE]at hc;have hk:=rK hc.1;have e6:=beq_iff'.1 hc.2.1;subst e6;have e7:=beq_iff'.1 hc.2.2;subst e7;obtain⟨xs,hxs⟩:=RF (cX hf hx);have uL:o'<bA:=dy (hs.lt' hxs) hs.aH;obtain⟨hl,h1,h2,h3,h4⟩:=HC hs cB hxs;have hlen:(lits off (l.map (enc S (.st n))) hl).length=l.length:=by rw[lO (by simpa using h1)];simp
  have Rn:off<S.width (.st n):=fQ b9;have hfl:=b8;have hval:=cX hf (x:=.tmp kx) (v:=.qF o' m' r i) hy;obtain⟨y,hy1,hye⟩:=Rb hval;have hel:D.el (lits off (l.map (enc S (.st n))) hl) i=iQ off (enc S (.st n) l[i]) (hl[i]'(by omega)):=JG (by rw[gQ,gm hk];rfl) (gm _);have hf':=Mf hf (k:=kx) (u:=low (.qF o' m' r i)) (t:=.sym (.lit (.slice y.a y.len y.cap))) (by show(bx fr).get kx=_;rw[bO,hy];rfl) (fQ b10) (by rw[hye];exact .sym _ _ (.lit _));have adS:jw (SO (bx fr) (.tmp kx) (.sym (.lit (.slice y.a y.len y.cap)))) (.tmp kx)=some (.sym (.lit (.slice y.a y.len y.cap))):=by show((bx fr).tm.set aI kx _).get kx=_;rw[Tr.aT _ _ _ _ (fQ b10),bL rfl]
  have an4:jw (SO (bx fr) (.tmp kx) (.sym (.lit (.slice y.a y.len y.cap)))) x=some (.kL o' e i off):=by
   have h0:=bU hx;cases x with
   |tmp k2=>
    show((bx fr).tm.set aI kx _).get k2=_;rw[Tr.dh _ _ _ _ _ (λe=>by
     subst e;have h5:fr.get k2=some (.kL o' e i off):=hx;rw[hy]at h5;cases h5)]
    exact h0
   |_=>exact h0
  have Wq:(iQ off (enc S (.st n) l[i]) (hl[i]'(by omega))).QA off [.lit (.slice y.a y.len y.cap)]=iQ off (enc S (.st n) l[i]) (.slice y.a y.len y.cap):=by
   have hlt:off<(enc S (.st n) l[i]).cells.length:=by rw[jU hS];exact Rn
   show D.agg _=D.agg _
   congr 1
   rw[List.take_set_of_le (bT _),qC,List.drop_set_of_lt (Nat.lt_succ_self _)];apply LZ;intro q;simp only[sn,lI,LG,GM,xO,DZ,qC];rcases Nat.lt_trichotomy q off with hq|hq|hq
   .rw[bL (by omega),bL hq,bw (by omega)]
   .subst hq;rw[bw (by omega),bL (by omega),bL rfl,bL hlt];simp[Nat.min_eq_left (Nat.le_of_lt hlt)]
   .rw[bw (by omega),bw (by omega),bw (by omega)]
    congr 1
    omega
  have hby:(iQ off (enc S (.st n) l[i]) (.slice y.a y.len y.cap)).qT=(iQ off (enc S (.st n) l[i]) (hl[i]'(by omega))).qT:=by obtain⟨a0,n0,m0,he0⟩:=h3.1 i _ (gm (by omega:i<hl.length));rw[he0,<-zO off (enc S (.st n) l[i]) [] a0 n0 m0,<-zO off (enc S (.st n) l[i]) [] y.a y.len y.cap]
  have hleaf:(D.lit (.slice y.a y.len y.cap)).leaf=true:=rfl;have E0:(iQ off (enc S (.st n) l[i]) (hl[i]'(by omega))).isAgg (S.width (.st n))=true:=by
   obtain⟨a0,n0,m0,he0⟩:=h3.1 i _ (gm (by omega:i<hl.length));rw[he0];show(Nat.beq (cA ((enc S (.st n) l[i]).cells.set off _)) _&&((enc S (.st n) l[i]).cells.set off _).all D.leaf)=true;rw[eE,bH,AH,jU hS];refine⟨beq_iff'.2 rfl,gr.2 λd hd=>?_⟩;rcases Vg hd with hd|rfl
   .rw[show(enc S (.st n) l[i]).cells=gw S (S.fs n) (S.get n l[i])from hS.cells n _]at hd;exact gO _ _ (hS.leaf n) d hd
   .rfl
  have hput:D.put (lits off (l.map (enc S (.st n))) hl) i (iQ off (enc S (.st n) l[i]) (.slice y.a y.len y.cap))=lits off (l.map (enc S (.st n))) (hl.set i (.slice y.a y.len y.cap)):=by
   apply LZ;intro q;simp only[D.put,lits];by_cases hq:i=q
   .subst hq;rw[LK (by simp;omega),Js,gQ,LK (by omega),gm hk];rfl
   .rw[LJ hq,Js,Js,LJ hq]
  obtain⟨⟨v,w',g',hr,AW,he,ht⟩,q1,q2,q3⟩:=mz hT hf' h4 o (t:=QB) (s':={kg s o' (.arr (S.width (.st n)) (lits off (l.map (enc S (.st n))) hl) e)with ob:=(kg s o' (.arr (S.width (.st n)) (lits off (l.map (enc S (.st n))) hl) e)).ob.set aI o' (.arr (S.width (.st n)) (lits off (l.map (enc S (.st n))) (hl.set i (.slice y.a y.len y.cap))) e)})
   (p:=(D.lit (.slice y.a y.len y.cap)).leaf=true∧(True∧True)∧[D.lit (.slice y.a y.len y.cap)].all D.leaf=true∧D.GU (i:Int) (D.len (lits off (l.map (enc S (.st n))) hl))∧(iQ off (enc S (.st n) l[i]) (hl[i]'(by omega))).QG (S.width (.st n)) off (cA [D.lit (.slice y.a y.len y.cap)])∧Nat.ble (Nat.add off (cA [D.lit (.slice y.a y.len y.cap)])) (S.width (.st n))=true∧((iQ off (enc S (.st n) l[i]) (hl[i]'(by omega))).QA off [.lit (.slice y.a y.len y.cap)]).qT=(iQ off (enc S (.st n) l[i]) (hl[i]'(by omega))).qT) (by
   rw[hop];have hg:=fT (s:=s) uL (.arr (S.width (.st n)) (lits off (l.map (enc S (.st n))) hl) e) o';rw[bL rfl]at hg;have aoD:Nat.ble (kg s o' (.arr (S.width (.st n)) (lits off (l.map (enc S (.st n))) hl) e)).fl o'=true:=b8;simp only[ny,hi,an4,adS,storeT,iT,b7,b6,gE,dM,lY,vU,lB,freeze,hg,aoD,show Nat.beq e e=true from beq_iff'.2 rfl,HR,hel,Wq,hput]) ⟨rfl,⟨trivial,trivial⟩,rfl,⟨Int.natCast_nonneg _,by show(i:Int)<((lits off (l.map (enc S (.st n))) hl).length:Int);rw[hlen];exact Int.ofNat_lt.2 hk⟩,.inl E0,GO (by show off+1<=_;omega),by rw[Wq,hby]⟩
  have hgn:∀q,({kg s o' (.arr (S.width (.st n)) (lits off (l.map (enc S (.st n))) hl) e)with ob:=(kg s o' (.arr (S.width (.st n)) (lits off (l.map (enc S (.st n))) hl) e)).ob.set aI o' (.arr (S.width (.st n)) (lits off (l.map (enc S (.st n))) (hl.set i (.slice y.a y.len y.cap))) e)}:St).ob.get q=if q=o' then some (.arr (S.width (.st n)) (lits off (l.map (enc S (.st n))) (hl.set i (.slice y.a y.len y.cap))) e)else(kg s o' (.arr (S.width (.st n)) (lits off (l.map (enc S (.st n))) hl) e)).ob.get q:=λq=>Tr.aT _ _ _ _ uL
  refine⟨v,w',g',hr,ht,cN.l7 hs (yX AW (hl:=hl.set i (.slice y.a y.len y.cap)) uL (by rw[hgn,bL rfl]) (by simpa using h1) ⟨λq hv hq=>?_,λq hv hq _=>?_⟩ (by show(s.ob.set aI o' _).get o'=_;rw[Tr.aT _ _ _ _ uL,bL rfl]) (λq hq=>?_) rfl) he rfl rfl (bT _) (sd _ _ _)⟩
  .rw[GM]at hq;split at hq
   .rw[bL (by omega)]at hq;cases hq;exact⟨_,_,_,rfl⟩
   .exact h3.1 q hv hq
  .rw[GM]at hq;split at hq
   .rename_i e;subst e;rw[bL (by omega)]at hq;cases hq;exact⟨y,he.arr _ _ _ hy1,rfl⟩
   .rename_i e;obtain⟨yy,k1,k2⟩:=h3.2 q hv hq (λh=>e (eI h));exact⟨yy,he.arr _ _ _ k1,k2⟩
  .rw[hgn,bw hq,fT uL,bw hq,aV,aV];show((s.ob.set aI o' _).get q).map cQ=_;rw[Tr.aT _ _ _ _ uL,bw hq]
 ·
  rename_i ty len parts hop;split at h;rotate_left
  .rename_i OV;split at h;rotate_left
   .cases h
   rename_i i e hi As;split at h;rotate_left
   .cases h
   rename_i sz ag bt zz dO;rcases af h with⟨hb,h9⟩|⟨_,h9⟩;rotate_left
   .cases h9
   simp only[bf,bB]at h9;obtain⟨_,rfl,rfl⟩:=h9;have hlen:len=0:=beq_iff'.1 hb;subst hlen;have hle:Nat.ble (Nat.mul 0 sz) 16777216=true:=by rw[show Nat.mul 0 sz=0 from Nat.zero_mul sz];rfl
   have h0:cn E fr s o.op=some (true,.jI 0 e [],s):=by rw[hop];simp only[cn,hi,As,OV,iq,dO,hle,dM,List.replicate_zero,mF,dz,dX]
   obtain⟨p,an5,hp⟩:=Mr hS Zc h0 rfl;obtain⟨⟨v,w',g',hr,AW,he,ht⟩,q1,q2,q3⟩:=mz hT hf hs o an5 hp;refine⟨v,w',g',hr,?_,cN.l7 hs AW he q1 q2 q3 (kU (show dz s []=some s from rfl))⟩;cases ht with|jI _ _ a0 hn0 hd=>exact .emp a0
  .cases h
  rename_i kx OV;split at h;rotate_left
  .cases h
  rename_i i n cs hi As hkx;split at h;rotate_left
  .cases h
  rename_i j hnst;split at h;rotate_left
  .cases h
  rename_i sz ag bt zz dO hnj;rcases af h with⟨hb,h9⟩|⟨_,h9⟩;rotate_left
  .cases h9
  clear h;split at h9;rotate_left
  .cases h9
  rename_i x os hx;simp only[eA,bB]at h9;obtain⟨s1,fq,_,rfl,rfl⟩:=h9;simp only[eE]at hb;have ah6:=beq_iff'.1 hb.1;subst ah6;have hkN:kx<bA:=fQ hb.2.2;obtain⟨⟨z,uM,hz⟩,_,_,hpos⟩:=Zc.row _ _ _ hi As;rw[dO]at uM;obtain⟨rfl,rfl,rfl,rfl⟩:=Kd.slice.inj uM;have hfz:=de hS os fq;have hval:=cX hf (x:=.tmp kx) (v:=.agg cs) hkx;generalize hve:a.eval (.tmp kx)=ve at hval;obtain⟨vs,rfl,dc⟩:=aJ.Rf hval;have hcj:(bh cs)[j]?=some .emp:=by rw[jx]at hnj;rw[gi,gQ,hnj];rfl
  obtain⟨vj,hvj⟩:∃vj,vs.toList[j]?=some vj:=by have:=aD hcj;exact⟨_,gm (by have:=dc.1;omega)⟩
  have aoG:=dc.2 j _ _ hcj hvj;obtain⟨c,rfl⟩:∃c,vj=.slice c 0 0:=by cases aoG with|emp c=>exact⟨c,rfl⟩
  have ahD:aJ g w (.agg ((bh cs).set j (.sym (.lit (.slice c 0 0))))) (.agg vs):=by
   refine .agg _ vs (by rw[AH];simpa using dc.1) λq t v h1 h2=>?_;rw[GM]at h1;split at h1
   .rename_i e;subst e;rw[bL (aD hcj)]at h1;cases h1;have:vs.toList[j]?=some v:=by simpa using h2
    rw[hvj]at this;cases this;exact .sym _ _ (.lit _)
   .exact dc.2 q t v h1 (by simpa using h2)
  have hf':=Mf hf (k:=kx) (u:=low (.agg cs)) (t:=.agg ((bh cs).set j (.sym (.lit (.slice c 0 0))))) (by show(bx fr).get kx=_;rw[bO,hkx];rfl) hkN (by rw[hve];exact ahD);have adS:jw (SO (bx fr) (.tmp kx) (.agg ((bh cs).set j (.sym (.lit (.slice c 0 0)))))) (.tmp kx)=some (.agg ((bh cs).set j (.sym (.lit (.slice c 0 0))))):=by show((bx fr).tm.set aI kx _).get kx=_;rw[Tr.aT _ _ _ _ hkN,bL rfl]
  simp only[bM]at hx;split at hx;rotate_left
  .cases hx
  rename_i hh os' hxs;simp only[bf,bB]at hx;obtain⟨rfl,rfl⟩:=hx;obtain⟨q,hq,hqp⟩:=qW hS s _ _ hxs;obtain⟨q',YZ,hqq,uP⟩:=Lj (aF s) hq hcj (.slice c 0 0);have kI:(enc S (.st n) (S.VV n hh)).cells=gw S (S.fs n) hh:=by show S.cells n _=_;rw[hS.cells,hS.uS]
  have hzl:cA zz=S.width (.st n):=by simp only[js,dM,enc,D.agg.injEq]at hz;rw[hz];simp only[Sg.width,bH];rw[show S.cells n (S.zero (.st n))=_ from hS.cells n _,lR]
  have Ch:((js (.st n)||Nat.beq (S.width (.st n)) 1)&&(Nat.beq (cA zz) (S.width (.st n))&&(!(Nat.beq (S.width (.st n)) 0)&&Nat.ble (Nat.mul 1 (S.width (.st n))) 16777216)))=true:=by rw[hzl];simp only[eE,GL];refine⟨rfl,beq_iff'.2 rfl,?_,by simpa using hb.2.1⟩;cases hq:Nat.beq (S.width (.st n)) 0 with|false=>rfl|true=>have:=beq_iff'.1 hq;omega
  have E0:(D.agg ((gw S (S.fs n) hh).set j (.lit (.slice c 0 0)))).isAgg (S.width (.st n))=true:=by
   show(Nat.beq (cA ((gw S (S.fs n) hh).set j _)) _&&((gw S (S.fs n) hh).set j _).all D.leaf)=true;rw[eE,bH,AH,lR];refine⟨beq_iff'.2 (bH _).symm,gr.2 λd hd=>?_⟩;rcases Vg hd with hd|rfl
   .exact gO _ _ (hS.leaf n) d hd
   .rfl
  have hall:((gw S (S.fs n) hh).set j (.lit (.slice c 0 0))).all D.leaf=true:=by have h0:(Nat.beq (cA ((gw S (S.fs n) hh).set j _)) _&&((gw S (S.fs n) hh).set j (.lit (.slice c 0 0))).all D.leaf)=true:=E0;rw[eE]at h0;exact h0.2
  obtain⟨⟨v,w',g',hr,AW,he,ht⟩,q1,q2,q3⟩:=mz hT hf' hs o (t:=.jI 1 [D.agg ((gw S (S.fs n) hh).set j (.lit (.slice c 0 0)))]) (s':=aF s1)
   (p:=(q'∧((gw S (S.fs n) hh).set j (.lit (.slice c 0 0))).all D.leaf=true)∧(D.agg ((gw S (S.fs n) hh).set j (.lit (.slice c 0 0)))).isAgg (S.width (.st n))=true∧True) (by
   rw[hop];have hps:qD (SO (bx fr) (.tmp kx) (.agg ((bh cs).set j (.sym (.lit (.slice c 0 0)))))) parts.toList=some [(0,.agg ((bh cs).set j (.sym (.lit (.slice c 0 0)))))]:=by rw[OV];simp only[qD,adS]
   simp only[ny,hi,hps,dO,dM,nF,vU,YZ,List.replicate,cA,js,show Nat.blt 0 (Nat.succ 0)=true from rfl,List.set_cons_zero,lB,hfz,dX];have aeh:((true||Nat.beq (S.width (.st n)) 1)&&(Nat.beq (cA zz) (S.width (.st n))&&(!(Nat.beq (S.width (.st n)) 0)&&Nat.ble (Nat.mul 1 (S.width (.st n))) 16777216)))=true:=Ch;rw[aeh];rfl) ⟨⟨hqq hqp,hall⟩,E0,trivial⟩
  refine⟨v,w',g',hr,?_,cN.l7 hs AW he q1 q2 q3 (kU fq)⟩;cases ht with
  |jI _ _ a0 hn0 hd=>
   refine .n9 _ _ c a0 ?_ ?_
   .rw[kI];exact uP
   .show dZ g'.bz w' (.sl [D.agg ((enc S (.st n) (S.VV n hh)).cells.set j _)]) _;rw[kI];exact hd
 .cases h
end
end
section
section
variable {g:Gh}{w:World}
def bg.ZG{s:St}(hs:bg g s w){m sz r:Nat}{dL:List (List D)}(hm:s.ob.get m=some (.rws sz dL r))(hmn:m<s.aH)(h0:0<sz)(c:Option Addr) :
  bg (g.era m (rc r dL.length) ⟨c,0,0,sz⟩) {s with ob:=s.ob.set aI m (.rws sz (dL++[[]]) r)} w∧Ext s.fl g w (g.era m (rc r dL.length) ⟨c,0,0,sz⟩) w:=by
 have O4:m<bA:=dy hmn hs.aH;have hfree:g.arr m (rc r dL.length)=none:=by cases h:g.arr m (rc r dL.length)with|none=>rfl|some y=>obtain⟨_,rs,h2,_⟩:=(hs.oJ hm h).2.2 _ rfl;have:=aD h2;omega
 have eP:∀k j y,g.arr k j=some y->(g.era m (rc r dL.length) ⟨c,0,0,sz⟩).arr k j=some y:=λk j y h=>by
  rw[Gh.ct]
  .exact h
  .rintro ⟨rfl,rfl⟩
   rw[hfree]at h;cases h
 have hown:∀k b,bK (g.era m (rc r dL.length) ⟨c,0,0,sz⟩) k b->bK g k b:=by
  rintro k b ⟨h1,h2|⟨j,y,ad,h2,h3,h4,h5⟩⟩
  .exact ⟨h1,.inl h2⟩
  .by_cases JV:k=m∧j=rc r dL.length
   .obtain ⟨rfl,rfl⟩:=JV;rw[Gh.fC]at h2;cases h2;exact absurd rfl h5
   .rw[Gh.ct _ _ _ _ _ _ JV]at h2;exact⟨h1,.inr ⟨j,y,ad,h2,h3,h4,h5⟩⟩
 have he:Ext s.fl g w (g.era m (rc r dL.length) ⟨c,0,0,sz⟩) w:=
  ⟨λ_ _ h=>h,eP,λ_ h=>h,bT _,λ_ _ _=>rfl,λk b h=>.inl (hown k b h),λ_ h=>.inl h,rfl,rfl⟩
 have cJ:∀k,(s.ob.set aI m (.rws sz (dL++[[]]) r)).get k=if k=m then some (.rws sz (dL++[[]]) r)else s.ob.get k:=λk=>Tr.aT _ _ _ _ O4
 have hnb:=hs.zx hm rfl;refine⟨⟨hs.aH,λk hk=>⟨(hs.ak k hk).1,λj=>?_⟩,λk b hb=>?_,λk j y hy=>?_,hs.bz,λk k' b h h'=>hs.mj k k' b (hown k b h) (hown k' b h')⟩,he⟩
 .rw[Gh.ct _ _ _ _ _ _ (by rintro⟨rfl,_⟩;simp only at hk;omega)];exact(hs.ak k hk).2 j
 .have hb':g.cj k=some b:=hb;have hkm:k≠m:=by rintro rfl;rw[hnb]at hb';cases hb'
  obtain⟨h1,h2,h3⟩:=hs.box k b hb';refine⟨h1,h2,λob cB=>?_⟩;simp only[]at cB;rw[cJ,bw hkm]at cB;obtain⟨x,k1,k2⟩:=h3 ob cB;exact⟨x,k1,k2.ext he hs.bz⟩
 .by_cases hkm:k=m
  .subst hkm;have hcl:∀r' i,r<r'->g.arr k (rc r' i)=none:=λr' i hlt=>by cases h:g.arr k (rc r' i)with|none=>rfl|some z=>rw[(hs.oJ hm h).1 r' i hlt]at h;cases h
   have hbd:∀ad,y.a=some ad->y.cap≠0->ad.block<w.heap.size:=by
    by_cases hj:j=rc r dL.length
    .subst hj;rw[Gh.fC]at hy;cases hy;exact λ_ _ h=>absurd rfl h
    .rw[Gh.ct _ _ _ _ _ _ (λh=>hj h.2)]at hy;exact(hs.arr k j y hy).1
   refine⟨hbd,λob cB=>?_⟩;simp only[]at cB;rw[cJ,bL rfl]at cB;obtain rfl:=eI cB;refine .inr (.inr (.inl ⟨sz,dL++[[]],r,rfl,λr' i hlt=>?_,λi1 i2 y1 y2 hne h1 h2 b n5 fM=>?_,λi hj=>?_⟩))
   .rw[Gh.ct _ _ _ _ _ _ (λh=>by have:=(qz h.2).1;omega)];exact hcl r' i hlt
   .by_cases e1:i1=dL.length
    .subst e1;rw[Gh.fC]at h1;cases h1;obtain⟨_,_,_,h⟩:=n5;exact absurd rfl h
    .by_cases e2:i2=dL.length
     .subst e2;rw[Gh.fC]at h2;cases h2;obtain⟨_,_,_,h⟩:=fM;exact absurd rfl h
     .rw[Gh.ct _ _ _ _ _ _ (λh=>e1 (qz h.2).2)]at h1;rw[Gh.ct _ _ _ _ _ _ (λh=>e2 (qz h.2).2)]at h2;exact(hs.oJ hm h1).2.1 i1 i2 y1 y2 hne h1 h2 b n5 fM
   .subst hj;by_cases e1:i=dL.length
    .subst e1;rw[Gh.fC]at hy;cases hy;exact⟨rfl,[],by simp,⟨rfl,bT _,by simp,h0,by simp,λ_=>rfl,λh=>absurd rfl h⟩⟩
    .rw[Gh.ct _ _ _ _ _ _ (λh=>e1 (qz h.2).2)]at hy;obtain⟨q1,rs,q2,q3⟩:=(hs.oJ hm hy).2.2 i rfl;exact⟨q1,rs,by rw[lI,bL (aD q2)];exact q2,q3.j5 rfl⟩
  .have hy':g.arr k j=some y:=by rw[Gh.ct _ _ _ _ _ _ (λh=>hkm h.1)]at hy;exact hy
   obtain⟨h1,h2⟩:=hs.arr k j y hy';refine⟨h1,λob cB=>?_⟩;simp only[]at cB;rw[cJ,bw hkm]at cB;exact(h2 ob cB).tr (λh=>h.j5 rfl) eP (funext λj=>Gh.ct _ _ _ _ _ _ (λh=>hkm h.1))
variable {a:Act}{o:Oper}{n j:Nat}
def IP{P:Program}{c:Call}(hop:o.op=.call c)(hb:c.callee=.builtin .append){u v:Operand}{ty tx:TypeId}(ha:c.args=#[u,v])(lE:c.argTypes=#[ty,tx]){R:Value->World->Prop}(h:Gw P ty tx o.type (a.eval u) (a.eval v) w R)
  {K:Act->World->Prop} {Q:Exit->Act->World->Prop} (hK:∀v w',R v w'->K (a.put o.dst v) w'):o.wp P a w K Q∨(o.asks P a w∧LetsOut Q):=by
 have adT:o.op=.call {callee:=.builtin .append,args:=#[u,v],argTypes:=#[ty,tx]}:=by rw[hop,<-ha,<-lE,<-hb]
 obtain⟨r,w',hrun,hR⟩:=h
 left
 unfold Oper.wp;have Wv:(execOp a.eval o).run P w=.ok (.value r) w':=by simp[execOp,adT,resolve,invoke,builtin,hrun]
 rw[Wv];exact hK r w' hR
def args2{l:Array Operand}{x y:T}(dc:PW (aJ g w) [x,y] (l.toList.map a.eval)):∃u v,l=#[u,v]∧aJ g w x (a.eval u)∧aJ g w y (a.eval v):=by
 have hl:l.size=2:=by have:=dc.1;simpa using this.symm
 obtain⟨u,v,ha⟩:∃u v,l=#[u,v]:=⟨l[0],l[1],by
  apply Array.ext
  .simp[hl]
  .intro i h1 h2;have:i=0∨i=1:=by omega
   rcases this with rfl|rfl<;>rfl⟩
 exact⟨u,v,ha,dc.2 0 _ _ rfl (by simp[ha]),dc.2 1 _ _ rfl (by simp[ha])⟩
def ZT(hS:fy S){t:Ty}(hc:CR S n j t=true)(x:S.A n)(c:Option Addr)(p q:Nat):(iQ j (enc S (.st n) x) (.slice c p q)).qT=(enc S (.st n) x).qT:=by
 have h:zP j (enc S (.st n) x) ((Hg n j t x).map (enc S t))=enc S (.st n) x:=by
  show D.agg ((S.cells n x).set j _)=D.agg (S.cells n x);have:(S.cells n x)[j]?=some (.sl ((Hg n j t x).map (enc S t))):=by rw[hS.cells];exact Iy (Fx hc)
  rw[HJ this]
 rw[<-zO j _ ((Hg n j t x).map (enc S t)),h]
def S8(hS:fy S)(x:S.A n)(c:Option Addr)(p q:Nat):(iQ j (enc S (.st n) x) (.slice c p q)).flat=true:=by
 show((S.cells n x).set j _).all D.leaf=true;refine gr.2 λd hd=>?_;rcases Vg hd with hd|rfl
 .rw[hS.cells]at hd;exact gO _ _ (hS.leaf n) d hd
 .rfl
def FG{E:gA}(hS:fy S)(hT:Ai E.E)(hEE:NX E.E)(Zc:PV S E){fr:bV S}{s s':bq S}(hf:cE g (bx fr) a w)(hs:bg g (aF s) w){cl:Call}(hop:o.op=.call cl){b:Builtin}(hb:cl.callee=.builtin b){args:List (V S)}(hargs:jX fr cl.args.toList=some args){c:Bool}{t:V S}
  (h:jJ E s b cl.argTypes args=some (c,t,s')) (hc:c=true) {K:Act->World->Prop} {Q:Exit->Act->World->Prop} (hK:∀g' v w',cN [] s g w s' g' w'->aJ g' w' (low t) v->K (a.put o.dst v) w') :
  o.wp E.E.P a w K Q∨(o.asks E.E.P a w∧LetsOut Q):=by
 have dc:=fh hf (gM hargs);unfold jJ at h;split at h
 ·
  rename_i iD r;split at h;rotate_left
  .cases h
  rename_i n j l era m dg hole cB;split at h;rotate_left
  .cases h
  rename_i i n' hi As;split at h;rotate_left
  .cases h
  rename_i sz ag bt zz dO;rcases af h with⟨EX,h9⟩|⟨_,h9⟩;rotate_left
  .cases h9
  simp only[eE]at EX;have Tm:=beq_iff'.1 EX.1;subst Tm;simp only[bf,bB]at h9;obtain⟨_,rfl,rfl⟩:=h9;have hx0:aJ g w (.sh iD r) ((cl.args.toList.map a.eval)[0]'(by have:=dc.1;simp[bh]at this;simp;omega)):=dc.2 0 _ _ rfl (gm _);obtain⟨xs,hxs,_⟩:=Jb hx0;have uL:iD<bA:=dy (hs.lt' hxs) hs.aH;obtain⟨hl,h1,h2,h3,h4⟩:=HC hs cB hxs;have hlen:(lits j (l.map (enc S (.st n))) hl).length=l.length:=by rw[lO (by simpa using h1)];simp
  refine xp hEE hf h4 hop hb (gM hargs) (p:=True) (t:=.sym (.lit (.int .i64 (D.len (lits j (l.map (enc S (.st n))) hl))))) (s':=kg s iD (.arr (S.width (.st n)) (lits j (l.map (enc S (.st n))) hl) r)) ?_ trivial (k:=λt' st'=>t'=.sym (.lit (.int .i64 (D.len (lits j (l.map (enc S (.st n))) hl))))∧st'=kg s iD (.arr (S.width (.st n)) (lits j (l.map (enc S (.st n))) hl) r)) ⟨rfl,rfl⟩ (λt' st' g' v w' he bX ht=>?_)
  .have hi':(nth cl.argTypes.toList 0).bind E.E.ti=some i:=hi;simp only[bh,low,eY,xH,hi',dO,rf];rw[fT uL,bL rfl];simp only[show Nat.beq r r=true from beq_iff'.2 rfl,dM,dX]
  .obtain ⟨rfl,rfl⟩:=he;refine hK g' v w' (cN.l7 hs (yX bX.rel uL (by rw[fT uL,bL rfl]) h1 (h3.le (λj y=>bX.ext.arr m j y)) cB (λk hk=>by rw[fT uL,bw hk]) rfl) bX.ext rfl rfl (bT _) (iG.refl _)) ?_;have e:D.len (lits j (l.map (enc S (.st n))) hl)=aq l:=by simp only[D.len,hlen,aq]
   rw[e]at ht;exact ht
 ·
  rename_i iD r n' j' x;split at h;rotate_left
  .cases h
  rename_i n j l era m dg cB;split at h;rotate_left
  .cases h
  rename_i ty tx aen;split at h;rotate_left
  .cases h
  rename_i i i' n'' t' dL hi hi' As hrw;split at h;rotate_left
  .cases h
  rename_i sz ag bt zz sz' ag' bt' zz' new dO uM hnew;obtain⟨e1,hh⟩:=eX hnew;cases e1;cases hh;rcases af h with⟨EX,h9⟩|⟨_,h9⟩;rotate_left
  .cases h9
  clear h;simp only[eE]at EX;obtain⟨b1,b2,b3,b4,b5,b6,b7,b8,b9⟩:=EX;have e1:=beq_iff'.1 b1;subst e1;have e2:=beq_iff'.1 b2;subst e2;have e3:=beq_iff'.1 b3;subst e3;simp only[bf,bB]at h9;obtain⟨yT,rfl,rfl⟩:=h9;have aos:D.ey (ZX l dL) (cY l [x])=true:=yT.trans ‹_›;have ah5:ZX l dL=true∧cY l [x]=true:=by simpa[D.ey]using aos
  have uN:=ah5.2;have yT:=CH (show decide _=true from ah5.1);obtain⟨u,v,ha,hu,hv⟩:=args2 dc;have lE:cl.argTypes=#[ty,tx]:=by apply Ea;simpa using aen
  obtain⟨xs,hxs,Wp⟩:=Jb hu;have uL:iD<bA:=dy (hs.lt' hxs) hs.aH;have hmn:m<s.aH:=fQ b6;have O4:m<bA:=dy hmn hs.aH;have hw0:0<S.width t':=fQ b9;obtain⟨szm,hm⟩:=oq (za hrw);have aam:szm=S.width t':=by
   have h1:=hrw;unfold Lv at h1;split at h1
   .rename_i t0 ak2 r0 hq;rcases af h1 with⟨_,h1⟩|⟨_,h1⟩
    .cases h1;rw[aV,hq]at hm;cases hm;rfl
    .cases h1
   .cases h1
  subst aam;have hom:iD≠m:=by rintro rfl;rw[aV,cB]at hm;cases hm
  generalize hvv:a.eval v=vv at hv;cases hv with
  |n9 _ _ c ad hcj hcd=>
  obtain⟨p1,p2⟩:=hs.ZG hm hmn hw0 c
  let s1:bq S:={s with ob:=s.ob.set aI m (.rws t' (dL++[[]]) dg)}
  have anU:(aF s1)={aF s with ob:=(aF s).ob.set aI m (.rws (S.width t') (dL.map (·.map (enc S t'))++[[]]) dg)}:=by simp only[s1,aF,Tr.lG,cQ,LV,lZ,HO]
  rw[<-anU]at p1;have OY:s1.ob.get iD=some (.kE n' j l r m dg none):=by show(s.ob.set aI m _).get iD=_;rw[Tr.aT _ _ _ _ O4,bw hom];exact cB
  have anL:=p2.arr _ _ _ hxs;obtain⟨hl,h1,h2,h3,h4⟩:=HC p1 OY anL;have aat:(lits j (l.map (enc S (.st n'))) hl).length=l.length:=by rw[lO (by simpa using h1)];simp
  obtain⟨⟨z,WH,_⟩,_,_,hpos⟩:=Zc.row _ _ _ hi As;rw[dO]at WH;obtain⟨rfl,rfl,rfl,rfl⟩:=Kd.slice.inj WH;have aoK:aJ (g.era m (rc dg (dL.map (·.map (enc S t'))).length) ⟨c,0,0,S.width t'⟩) w (.jI 0 [iQ j (enc S (.st n') x) (.slice c 0 0)]) (.slice ad 1 1):=.jI 0 _ ad (by simp) (hcd.ext p2 hs.bz);have hus:aJ (g.era m (rc dg (dL.map (·.map (enc S t'))).length) ⟨c,0,0,S.width t'⟩) w (.sh iD r) (a.eval u):=hu.ext p2 hs.bz;have aaF:D.app (lits j (l.map (enc S (.st n'))) hl) [iQ j (enc S (.st n') x) (.slice c 0 0)]=lits j ((cM l [x]).map (enc S (.st n'))) (hl++[.slice c 0 0]):=by simp only[D.app,lits,cM,LV,lZ,HO];rw[List.zipWith_append (by simp;omega)];rfl
  have pU:D.UI (D.app (lits j (l.map (enc S (.st n'))) hl) [iQ j (enc S (.st n') x) (.slice c 0 0)]) (vn S (.st n')):=by
   intro d hd;rw[aaF]at hd;obtain⟨q,hq⟩:=SK hd;rw[lits,Js]at hq;split at hq
   .rename_i dd hv0 k1 k2;cases hq;rw[gQ,eA]at k1;obtain⟨xx,_,rfl⟩:=k1;obtain⟨a0,n0,m0,rfl⟩:∃a0 n0 m0,hv0=.slice a0 n0 m0:=by
     rw[lI]at k2;split at k2
     .exact h3.1 q hv0 k2
     .rename_i hge;have:q-hl.length=0:=by have:=aD k2;simpa using this
      rw[this]at k2;cases k2;exact⟨_,_,_,rfl⟩
    exact⟨by rw[ZT hS b8];exact Ba hS (t:=.st n') xx,S8 hS xx a0 n0 m0⟩
   .cases hq
  have hgv:=fT (s:=s1) uL (.arr (S.width (.st n')) (lits j (l.map (enc S (.st n'))) hl) r);have JV:i'.kd=.slice sz' ag' bt' zz':=uM;have hap:=xw (rt:=o.type) (hEE.ti _ _ hi) (hEE.ti _ _ hi') ⟨_,_,_,_,JV⟩ h4 (x:=.sh iD r) (y:=.jI 0 [iQ j (enc S (.st n') x) (.slice c 0 0)]) (vx:=a.eval u) (vy:=.slice ad 1 1)
   (p:=True∧D.rows [iQ j (enc S (.st n') x) (.slice c 0 0)] (S.width (.st n'))∧D.UI (D.app (lits j (l.map (enc S (.st n'))) hl) [iQ j (enc S (.st n') x) (.slice c 0 0)]) (vn S (.st n'))∧D.RD (lits j (l.map (enc S (.st n'))) hl) [iQ j (enc S (.st n') x) (.slice c 0 0)]) (t:=.sh iD (Nat.succ r))
   (s':={kg s1 iD (.arr (S.width (.st n')) (lits j (l.map (enc S (.st n'))) hl) r)with ob:=(kg s1 iD (.arr (S.width (.st n')) (lits j (l.map (enc S (.st n'))) hl) r)).ob.set aI iD (.arr (S.width (.st n')) (D.app (lits j (l.map (enc S (.st n'))) hl) [iQ j (enc S (.st n') x) (.slice c 0 0)]) (Nat.succ r))}) (by
   have hg0:=hgv iD;rw[bL rfl]at hg0;have e1:Nat.blt (kg s1 iD (.arr (S.width (.st n')) (lits j (l.map (enc S (.st n'))) hl) r)).aH bA=true:=b7;have e2:Nat.ble (kg s1 iD (.arr (S.width (.st n')) (lits j (l.map (enc S (.st n'))) hl) r)).fl iD=true:=b4;simp only[qt,e1,LN,gE,dO,rf,hg0,e2,show Nat.beq r r=true from beq_iff'.2 rfl,show Nat.beq (S.width (.st n')) (S.width (.st n'))=true from beq_iff'.2 rfl,p9,HR];rfl) ⟨trivial,λd hd=>by
    rw[mq.1 hd];show((enc S (.st n') x).cells.set j _).length=_;rw[AH,jU hS],pU,by
    have:l.length+1<=17179869184:=by simpa[cY]using uN
    show(lits j (l.map (enc S (.st n'))) hl).length+1<=_;rw[aat];exact this⟩ hus aoK
  refine IP hop hb ha lE (by rw[hvv];exact hap) (λv w' hR=>?_);obtain⟨g',r1,r2,r3⟩:=hR;have hE:=p2.trans r2;refine hK g' v w' (cN.l7 hs ?_ hE rfl rfl (bT _) ⟨λ_ h=>gL _ (gL _ h),λk _ hk=>?_,rfl⟩) r3
  .refine yX r1 (n:=n') (j:=j) (l:=cM l [x]) (era:=Nat.succ r) (m:=m) (dg:=dg) (hole:=none) (hl:=hl++[.slice c 0 0]) uL ?_ (by simp[cM];omega) ⟨λq v hq=>?_,λq v hq _=>?_⟩ ?_ (λk hk=>?_) rfl
   .show ((kg s1 iD _).ob.set aI iD _).get iD=_;rw[Tr.aT _ _ _ _ uL,bL rfl,aaF]
   .rw[lI]at hq;split at hq
    .exact h3.1 q v hq
    .have:q-hl.length=0:=by have:=aD hq;simpa using this
     rw[this]at hq;cases hq;exact⟨_,_,_,rfl⟩
   .rw[lI]at hq;split at hq
    .obtain ⟨yy,k1,k2⟩:=h3.2 q v hq (by simp);exact⟨yy,r2.arr _ _ _ k1,k2⟩
    .have h0:q-hl.length=0:=by have:=aD hq;simpa using this
     rw[h0]at hq;cases hq;refine⟨⟨c,0,0,S.width t'⟩,r2.arr _ _ _ ?_,rfl⟩;have:q=(dL.map (·.map (enc S t'))).length:=by rw[Jo];omega
     rw[this];exact Gh.fC _ _ _ _
   .show ((s.ob.set aI m _).set aI iD _).get iD=_;rw[Tr.aT _ _ _ _ uL,bL rfl]
   .show (aF {s with ob:=(s.ob.set aI m _).set aI iD _,wr:=_}).ob.get k=((kg s1 iD _).ob.set aI iD _).get k;rw[Tr.aT _ _ _ _ uL,bw hk,hgv,bw hk,aV,aV];show(((s.ob.set aI m _).set aI iD _).get k).map cQ=((s.ob.set aI m _).get k).map cQ;rw[Tr.aT _ _ _ _ uL,bw hk];rfl
  .simp only[fc,not_or]at hk;show((s.ob.set aI m _).set aI iD _).get k=_;rw[Tr.dh _ _ _ _ _ hk.1,Tr.dh _ _ _ _ _ hk.2.1]
 ·
  rename_i iD m r k y;split at h;rotate_left
  .cases h
  rename_i n j l era m' dg t0 dL Vc cB hm0;split at h;rotate_left
  .cases h
  rename_i ty tx aen;split at h;rotate_left
  .cases h
  rename_i i i' t' new hi hi' As tF;split at h
  .cases h
  .rename_i sz ag bt zz sz' ag' bt' zz' dO uM WB;rcases af h with⟨EX,h9⟩|⟨_,h9⟩;rotate_left
   .cases h9
   clear h;simp only[eE]at EX;obtain⟨b1,b2,b3,b4,b5,b6,b7⟩:=EX;have e1:=beq_iff'.1 b1;subst e1;have e2:=beq_iff'.1 b2;subst e2;have e3:=beq_iff'.1 b3;subst e3;have e4:=fG b7;subst e4;simp only[bf,bB]at h9;obtain⟨rfl,rfl,rfl⟩:=h9;have UF:cw k dL=true∧cY (aN dL k []) new=true:=by simpa[D.ey]using hc
   have hk:=rK UF.1;obtain⟨u,v,ha,hu,hv⟩:=args2 dc;have lE:cl.argTypes=#[ty,tx]:=by apply Ea;simpa using aen
   obtain⟨yy,hyy,hue⟩:=Rb hu;have hm:(aF s).ob.get m=some (.rws (S.width t') (dL.map (·.map (enc S t'))) r):=by rw[aV,hm0];rfl
   obtain⟨_,rs0,aao,hok⟩:=(hs.oJ hm hyy).2.2 k rfl;have hrs:rs0=(aN dL k []).map (enc S t'):=by rw[gQ,gm hk]at aao;cases aao;simp[aN,List.getD,hk]
   subst hrs;obtain⟨q,hq,hqp⟩:=y6 tF;obtain⟨xi,d1,_,xb,j6,_,_,_,_,ke⟩:=(hEE.ti _ _ hi).all;obtain⟨_,d2,_,_,EU,_,_,_,_,hk2⟩:=(hEE.ti _ _ hi').all;rw[uM]at hk2;obtain⟨e',_,_,_,rfl,_⟩:=hk2;obtain⟨⟨z,WH,_⟩,_,_,hpos⟩:=Zc.row _ _ _ hi As;rw[dO]at WH;obtain⟨rfl,rfl,rfl,rfl⟩:=Kd.slice.inj WH;rw[dO]at ke;obtain⟨e,ji,d',zv,rfl,hji,pS,_,_,UB,nE,Ir,h0,n5,fM,hb0,hzl⟩:=ke;have hzs:zv.cells.size=ji.size:=by rw[<-nE.1,hzl,pS]
   have gG:D.rows (new.map (enc S t')) (S.width t'):=rq hS new;have pU:D.UI (D.app ((aN dL k []).map (enc S t')) (new.map (enc S t'))) (vn S t'):=by rw[tc];exact Dr hS _
   obtain⟨news,hsrc,hvr,hlen⟩:=y7 hs hq hqp hv hpos gG (λd hd=>(pU d (iW _ hd)).2) EU;obtain⟨ay,cy,hve,_,anK,OP⟩:=qZ hs hq hqp hv hpos gG;have aij:=Cz (rt:=o.type) j6 EU hji UB hzs (pS▸hpos) hb0 Ir fM hs.bz (pS▸hok) (λb hb=>(hok.at_ hb).2.elim λvs h=>h.elim λty h=>(Ju.1 h.2).1) (λd hd=>(pU d hd).1) (pS▸gG) (pS▸hsrc) (pS▸hvr) (Dp _ UF.2) (λhne=>by
    obtain⟨Zh,akX,rfl,Rk,hyc,_⟩:=OP hne;refine⟨Zh,cy,hve,λlE=>?_,λq hq=>?_⟩
    .rcases Rk with jt|⟨o',ho',_⟩
     .exact Bool.noConfusion ((hok.at_ lE).1.2 jt)
     .rw[En]at ho';unfold Mm at ho';split at ho'
      .exact WB _ _ rfl
      .cases ho'
    .rw[pS]at hq;have h1:=hyc (q/S.width t') (q%S.width t') (QX (by rw[xM];exact hq)) (Nat.mod_lt _ hpos);have hkk:q/S.width t'*S.width t'+q%S.width t'=q:=by rw[xM];exact Nat.div_add_mod q _
     rw[hkk]at h1;rw[h1];rfl)
   have hxs:∃aps,aps=era:=⟨_,rfl⟩;refine IP hop hb ha lE (by rw[hue];exact aij) (λv w' hR=>?_);obtain⟨y',hp⟩:=hR;rw[pS,tc]at hp;have aob:(aF s).ob.get iD=some (.kE j (S.width (.st n)) (l.map (enc S (.st n))) era m r none):=by rw[aV,cB];rfl
   have uL:iD<bA:=fQ b6;obtain⟨r1,r2⟩:=hs.abc aob hm uL hyy hp (fQ b5);refine hK _ v w' (cN.l7 hs (s':={s with ob:=(s.ob.set aI m (.rws t' (dQ dL k (cM (aN dL k []) new)) (Nat.succ r))).set aI iD (.kE n j l era m (Nat.succ r) (some k)),wr:=iD::m::s.wr}) ?_ r2 rfl rfl (bT _) ⟨λ_ h=>gL _ (gL _ h),λk' _ hk'=>?_,rfl⟩) ?_
   .have e:aF {s with ob:=(s.ob.set aI m (.rws t' (dQ dL k (cM (aN dL k []) new)) (Nat.succ r))).set aI iD (.kE n j l era m (Nat.succ r) (some k)),wr:=iD::m::s.wr}={aF s with ob:=((aF s).ob.set aI m (.rws (S.width t') ((dL.map (·.map (enc S t'))).set k ((cM (aN dL k []) new).map (enc S t'))) (r+1))).set aI iD (.kE j (S.width (.st n)) (l.map (enc S (.st n))) era m (r+1) (some k))}:=by simp only[aF,Tr.lG,cQ,dQ,HP]
    rw[e];exact r1
   .simp only[fc,not_or]at hk';show((s.ob.set aI m _).set aI iD _).get k'=_;rw[Tr.dh _ _ _ _ _ hk'.1,Tr.dh _ _ _ _ _ hk'.2.1]
   .rw[hp.val];exact .qF _ _ _ _ _ _ y'.sz _ (by rw[Gh.oK,bL rfl])
  .cases h
 .cases h
end
end
section
structure eL(E:ga S):Prop where
 sg:fy S
 Uv:Ai E.T.E
 ty:PV S E.T
 name:∀f fn,E.T.E.UG f=some fn->(fn.name== "runtime.NumGoroutine")=false
 ng:∀f,E.T.E.Hh f=none
 x:XOk S E.T
 Hh:∀f c,E.Hh f=some c->bC E.T.E.P f c
variable {E:ga S}{c:Bool}{args:List (V S)}{fr:bV S}{a:Act}{s s':bq S}{call:iB S}{o:Oper}
def eL.env(h:eL E):NX E.T.E:={h.Uv with
 name:=h.name
 Hh:=λf c hc=>by rw[h.ng]at hc;cases hc}
def wq(s:bq S)(g:Gh)(w:World){ω:Type}(k kp:V S->bq S->Option ω)(r:ω):Ending->World->Prop
 | .returned v,w'=>∃t s' g',k t s'=some r∧aJ g' w' (low t) v∧cN [] s g w s' g' w'
 | .panicked chain,w'=>∃v t s' g',chain=[{v,recovered:=false}]∧kp t s'=some r∧aJ g' w' (low t) v∧cN [] s g w s' g' w'
 | .outgrown,_=>False
structure fV(P:Program)(call:iB S):Prop where
 fn:∀(f:FuncId)(args:List (V S))(s:bq S){ω:Type}(k kp:V S->bq S->Option ω)(r:ω),call (.fn f) args s k kp=some r->∀(g:Gh)(w:World)(vs:Array Value),bg g (aF s) w->PW (aJ g w) (bh args) vs.toList->
  mM P f∧Calls P f vs w (wq s g w k kp r)
 yl:∀(o:Nat)(args:List (V S))(s:bq S){ω:Type}(k kp:V S->bq S->Option ω)(r:ω),call (.yl o) args s k kp=some r->∀(g:Gh)(w:World)(vs:Array Value)(b:Nat),bg g (aF s) w->PW (aJ g w) (bh args) vs.toList->g.cj o=some b->
  ∃l:Loop,w.heap[b]?=some (.loop l)∧vs.size=l.params.size∧∀rr n,RoundIn (WR rr) n P b l.fn ((l.params.zip vs).foldl (λtmps(t,a)=>tmps.setIfInBounds t a) l.tmps) l.assign l.body w (wq s g w k kp r)
def nr{α:Type}{x:Option α}{r:α}(h:aB c x=some r):c=true∧x=some r:=by
 unfold aB at h;rcases af h with h|⟨_,h⟩
 .exact h
 .cases h
def oI{α:Type}{x y:Option α}{r:α}(h:aj c x y=some r):(c=true∧x=some r)∨(c=false∧y=some r):=af h
def qm{f:V S}{as:List (V S)}{id:FuncId}(h:oc f args=some (id,as)):wg (low f) (bh args)=some (id,bh as):=by
 unfold oc at h;split at h
 .simp only[bf,bB]at h;obtain⟨rfl,rfl⟩:=h;simp only[low,wg,jz]
 .cases h
section
variable {g:Gh}{w:World}
def oa{p:V S->Bool}{q:T->Bool}(hpq:∀v,q (low v)=p v):∀l:List (BK S),tu q (l.map rH) ((l.map (ic p)).map rH)
 |[]=>.nil
 |d::l=>by
  refine .cons ?_ (oa hpq l);cases d with
  |call f args=>
   simp only[ic];cases hb:p f||args.any p with
   |true=>exact .inl rfl
   |false=>simp only[wA,LX]at hb;refine .inr ⟨rfl,by rw[hpq];exact hb.1,λt ht=>?_⟩;rw[gi,zg]at ht;obtain⟨v,hv,rfl⟩:=ht;rw[hpq];simpa using hb.2 v hv
  |mark o=>
   simp only[ic];cases hb:p (.ptr o 0)with|true=>exact .inl rfl|false=>exact .inr ⟨rfl,(hpq (.ptr o 0)).trans hb⟩
  |bad=>exact .inr ⟨rfl,trivial⟩
def mS{ow:List Nat}{g':Gh}{w':World}(hf:cE g (bx fr) a w)(h:cN ow s g w s' g' w'):cE g' (bx (dV ow fr)) a w':=by
 refine⟨?_,?_,λk t hk=>?_⟩
 .cases ow<;>exact hf.size
 .cases ow with
  |nil=>
   have GZ:∀t:T,dD [] t=false:=by
    intro t
    induction t using T.rec (motive_2:=λl=>iO [] l=false)with|fn f a b JR ihb=>simp[dD,JR,ihb]|cR t v ih=>simp[dD,ih]|agg cs ih=>simp[dD,ih]|gq cs ih=>simp[dD,ih]|gd c v ih=>simp[dD,ih]|nil=>rfl|cons a l JR ihl=>simp[iO,JR,ihl]|_=>simp[dD]
   refine hf.df.imp (λt v ht=>h.tr t v ht (GZ t)) λo b hb=>?_;have:=h.tr _ _ (.ptr o 0 b hb) (GZ _);cases this with|ptr _ _ _ hb'=>exact hb'
  |cons o ow=>exact(oa (λv=>jR _ v) fr.df).rel h.tr hf.df
 .rw[bO,eA]at hk;obtain⟨v,hv,rfl⟩:=hk;have yS:fr.get k=some v∧dD ow (low v)=false:=by
   cases ow with
   |nil=>
    refine⟨hv,?_⟩;have:∀t:T,dD [] t=false:=by
     intro t;have key:(∀t:T,dD [] t=false):=by
      intro t
      induction t using T.rec (motive_2:=λl=>iO [] l=false)with|fn f a b JR ihb=>simp[dD,JR,ihb]|cR t v ih=>simp[dD,ih]|agg cs ih=>simp[dD,ih]|gq cs ih=>simp[dD,ih]|gd c v ih=>simp[dD,ih]|nil=>rfl|cons a l JR ihl=>simp[iO,JR,ihl]|_=>simp[dD]
     exact key t
    exact this _
   |cons o ow=>simp only[dV,bV.get,Tr.o5]at hv;rw[Q0]at hv;refine⟨hv.1,?_⟩;rw[jR];simpa using hv.2
  obtain⟨u,hu,hr⟩:=hf.tm k (low v) (by rw[bO,yS.1];rfl);exact⟨u,hu,h.tr _ _ hr yS.2⟩
def Q8(hE:eL E)(hf:cE g (bx fr) a w)(hs:bg g (aF s) w)(o:Oper){t:V S}(h:zu E.T fr s o.op=some (c,t,s'))(hc:c=true) :
  ∃v w' g',((execOp a.eval o).run E.T.E.P w=.ok (.value v) w'∨((execOp a.eval o).run E.T.E.P w=.ok .skip w'∧v=undef))∧aJ g' w' (low t) v∧cN [] s g w s' g' w':=by
 unfold zu at h;split at h
 .rename_i r h0;cases h;exact ZM hE.sg hE.Uv hE.ty hf hs o h0 hc
 .split at h
  .rename_i r h0;cases h;obtain⟨p,hop,hp⟩:=Mr hE.sg hE.ty h0 hc;obtain⟨⟨v,w',g',hr,hs',he,ht⟩,h1,h2,h3⟩:=mz hE.Uv hf hs o hop hp;exact⟨v,w',g',hr,ht,cN.l7 hs hs' he h1 h2 h3 (VL h0)⟩
  .exact ZK hE.sg hE.Uv hE.ty hE.x hf hs o h hc
def Us(s:bq S)(g:Gh)(w:World){ω:Type}(k:V S->bq S->List Nat->Option ω)(kp:V S->bq S->Option ω)(r:ω):Ending->World->Prop
 | .returned v,w'=>∃t s' g' ow,k t s' ow=some r∧aJ g' w' (low t) v∧cN ow s g w s' g' w'
 | .panicked chain,w'=>∃v t s' g',chain=[{v,recovered:=false}]∧kp t s'=some r∧aJ g' w' (low t) v∧cN [] s g w s' g' w'
 | .outgrown,_=>False
def zW(hE:eL E)(dU:fV E.T.E.P call)(hs:bg g (aF s) w){f:FuncId}{ω:Type}{kp:V S->bq S->Option ω}{k:V S->bq S->List Nat->Option ω}{r:ω}
  (h:sW E call s f args kp k=some r) {vs:Array Value} (hall:PW (aJ g w) (bh args) vs.toList):mM E.T.E.P f∧Calls E.T.E.P f vs w (Us s g w k kp r):=by
 unfold sW at h;split at h
 .rename_i cc ad8;obtain⟨AY,hc⟩:=Cq hE.sg (hE.Hh _ _ ad8) hs hall h;refine⟨AY,hc.mono λe w' he=>?_⟩;cases e with|returned v=>exact he|panicked ch=>exact he|outgrown=>exact he.elim
 .obtain ⟨AY,hc⟩:=dU.fn _ _ _ _ _ _ h g w _ hs hall;refine⟨AY,hc.mono λe w' he=>?_⟩;cases e with
  |returned v=>obtain⟨t,s',g',h1,h2,h3⟩:=he;exact⟨t,s',g',[],h1,h2,h3⟩
  |panicked ch=>exact he
  |outgrown=>exact he.elim
def Co{E:ga S}{call:iB S}{s:bq S}{m:String}{args:List (V S)}{n:Nat}{x:den S.A (.cR n)}{ω:Type}{kp:V S->bq S->Option ω}{k:V S->bq S->List Nat->Option ω}{r:ω}:∀{l:List (TypeId×Ty)}{j:Nat},
  RE E call s m args n x kp k l j=some r->∃i t f,iI (S.alts n) i (S.sM n x)=true∧((nth (S.alts n) i).elim 0 (·.1))=t∧E.T.JB t m=some f∧sW E call s f (.ty (l9 (S.alts n) i) (jE S.zero (S.alts n) i (S.sM n x))::args) kp k=some r
 |[],j,h=>by cases h
 |p::l,j,h=>by
  simp only[RE]at h;rcases oI h with⟨hi,h⟩|⟨_,h⟩
  .split at h
   .rename_i f hf;rcases af h with⟨hb,h⟩|⟨_,h⟩
    .exact ⟨j,p.1,f,hi,(nT hb).symm,hf,h⟩
    .cases h
   .cases h
  .exact Co h
def Fg:∀(l:List (TypeId×Ty))(i:Nat)(x:wE S.A l),iI l i x=true->sX S l x=some ((nth l i).elim 0 (·.1),enc S (l9 l i) (jE S.zero l i x))
 |[],_,_,h=>by cases h
 |p::l,0,.inl y,_=>rfl
 |p::l,0,.inr y,h=>by cases h
 |p::l,i+1,.inl y,h=>by cases h
 |p::l,i+1,.inr y,h=>Fg l i y h
def GH{P:Program}{c:Call}(ho:o.op=.call c){fv:Operand}(hc:c.callee=.value fv){b:Nat}(hv:a.eval fv=.func (.yield b) #[] #[]){w:World}{l:Loop}(hl:w.heap[b]?=some (.loop l))(hs:(c.args.map a.eval).size=l.params.size) :
  (execOp a.eval o).run P w=.ok (.round b l.fn ((l.params.zip (c.args.map a.eval)).foldl (λtmps(t,a)=>tmps.setIfInBounds t a) l.tmps) l.assign l.body) w:=by
 simp only[execOp,ho,resolve,hc,Deferred.ofValue,hv,Sem.run_bind,Sem.run_pure,Result.andThen_ok,invoke];have:=run_yield (P:=P) (args:=#[]++c.args.map a.eval++#[]) hl (by simpa using hs);simpa using this
def Hj(hE:eL E)(dU:fV E.T.E.P call)(hf:cE g (bx fr) a w)(hs:bg g (aF s) w){ω:Type}{kp:V S->bq S->Option ω}{k:V S->bq S->List Nat->Option ω}{r:ω}
  (h:sU E call o fr s kp k=some r) {K:Act->World->Prop} {Q:Exit->Act->World->Prop} (hK:∀t s' g' ow v w',k t s' ow=some r->cN ow s g w s' g' w'->aJ g' w' (low t) v->K (a.put o.dst v) w')
  (hP:∀t s' g' v w',kp t s'=some r->cN [] s g w s' g' w'->aJ g' w' (low t) v->Q (.panic [{v,recovered:=false}]) a w') (hny:∀c fv oo,o.op=.call c->c.callee=.value fv->cm fr fv≠some (.rZ oo)) :
  o.wp E.T.E.P a w K Q∨(o.asks E.T.E.P a w∧LetsOut Q):=by
 have fin:∀{t:V S}{s':bq S}{v:Value}{w':World}{g':Gh},k t s' []=some r->((execOp a.eval o).run E.T.E.P w=.ok (.value v) w'∨((execOp a.eval o).run E.T.E.P w=.ok .skip w'∧v=undef))->aJ g' w' (low t) v->cN [] s g w s' g' w'->o.wp E.T.E.P a w K Q:=by
  intro t s' v w' g' hk hr ht bX;unfold Oper.wp;rcases hr with hr|⟨hr,rfl⟩
  .rw[hr];exact hK t s' g' [] v w' hk bX ht
  .rw[hr];exact hK t s' g' [] undef w' hk bX ht
 have plain:(match jc E.T fr s o.op with
   |some (Bq,p,d,s')=>tM (λv s=>k v s []) (aB p (k d s' [])) Bq
   |none=>match zu E.T fr s o.op with
    |none=>none
    |some (p,t,s')=>aB p (k t s' []))=some r->o.wp E.T.E.P a w K Q:=by
  intro h;split at h
  .rename_i Bq p d s' hop;obtain⟨t,s1,v,w',g',h1,h2,h3,h4,_⟩:=Q9 hE.Uv hE.x hf hs o hop (X:=λv s=>k v s []) h;exact fin h1 h2 h3 h4
  .split at h
   .cases h
   .rename_i p t s' hop;obtain⟨hp,hk⟩:=nr h;obtain⟨v,w',g',hr,ht,bX⟩:=Q8 hE hf hs o hop hp;exact fin hk hr ht bX
 have called:∀{f:FuncId}{args:List (V S)}{vs:Array Value},sW E call s f args kp k=some r->PW (aJ g w) (bh args) vs.toList->(mM E.T.E.P f->(execOp a.eval o).run E.T.E.P w=.ok (.enter f vs) w)->o.wp E.T.E.P a w K Q:=by
  intro f args vs h hall hrun;obtain⟨AY,hc⟩:=zW hE dU hs h hall;unfold Oper.wp;rw[hrun AY];refine hc.mono λe w' he=>?_;cases e with
  |returned v=>obtain⟨t,s',g',ow,h1,h2,h3⟩:=he;exact hK t s' g' ow v w' h1 h3 h2
  |panicked ch=>obtain⟨v,t,s',g',rfl,h1,h2,h3⟩:=he;exact hP t s' g' v w' h1 h3 h2
  |outgrown=>exact he.elim
 unfold sU at h;split at h
 .rename_i c hop;split at h
  .cases h
  .rename_i args hargs;have yg:=gM hargs;have dc:=fh hf yg;split at h
   .rename_i b hb;split at h
    .cases h
    .rename_i p t s' MP;obtain⟨hp,hk⟩:=nr h;unfold kC at MP;split at MP
     .rename_i r0 h0;cases MP;exact FG hE.sg hE.Uv hE.env hE.ty hf hs hop hb hargs h0 hp (λg' v w' bX ht=>hK t s' g' [] v w' hk bX ht)
     split at MP
     .rename_i r0 h0;cases MP;obtain⟨q,hq,hqp⟩:=xq hE.sg hE.ty h0 hp;refine xp hE.env hf hs hop hb yg hq hqp (k:=λt' st'=>t'=low t∧st'=aF s') ⟨rfl,rfl⟩ (λt' st' g' v w' he bX ht=>?_);obtain⟨rfl,rfl⟩:=he;exact hK t s' g' [] v w' hk (cN.l7 hs bX.rel bX.ext bX.fl bX.lo bX.aH (Hs h0)) ht
     .obtain ⟨rfl,v,hr,ht⟩:=Ab hE.x hs hf hop hb hargs MP;exact .inl (fin hk (.inl hr) ht (cN.refl hs))
   .rename_i fv hfv;split at h
    .rename_i oo hyl;unfold acT at hyl;split at hyl
     .rename_i an6;exact absurd an6 (hny c fv _ hop hfv)
     .cases hyl
    split at h
    .cases h
    .rename_i f args' hfa
     left
     simp only[sq]at hfa;obtain⟨tf,htf,uQ⟩:=hfa;have OT:=bJ hf (bU htf);have jC:=qm uQ;unfold wg at jC;split at jC
     .rename_i f' first cap wG
      simp only[bf,bB]at jC;obtain⟨rfl,yf⟩:=jC;rw[wG]at OT;generalize hvf:a.eval fv=vf at OT;cases OT with
      |fn _ _ _ va vc l1 l2 r1 r2=>
      have hall:PW (aJ g w) (bh args') (va++c.args.map a.eval++vc).toList:=by rw[<-yf];simp only[GN,QT];exact PW.append (PW.append ⟨by simpa using l1,λj x y h1 h2=>r1 j x y h1 (by simpa using h2)⟩ dc) ⟨by simpa using l2,λj x y h1 h2=>r2 j x y h1 (by simpa using h2)⟩
      exact called h hall (λAY=>zd hop hfv hvf AY)
     .cases jC
   .rename_i x m hxm;have inv:∀{tt:TypeId}{f:FuncId}{tv:V S}{u:Value},a.eval x=.iface tt u->aJ g w (low tv) u->E.T.JB tt m=some f->sW E call s f (tv::args) kp k=some r->o.wp E.T.E.P a w K Q:=by
     intro tt f tv u hv hu hm h;have hall:PW (aJ g w) (bh (tv::args)) (#[u]++c.args.map a.eval).toList:=by
      simp only[GN,QT];exact PW.append (l:=[low tv]) (m:=[u]) ⟨rfl,λj x y h1 h2=>by
       cases j with
       |zero=>simp at h1 h2;subst h1;subst h2;exact hu
       |succ j=>simp at h1⟩ dc
     exact called h hall (λAY=>Lz hE.x hop hxm hv hm AY)
    split at h
    .rename_i tt tv hx;split at h
     .rename_i f hm;have hr:=bJ hf (bU hx);simp only[low]at hr;generalize hv:a.eval x=v at hr;cases hr with|cR _ _ u hu=>exact .inl (inv hv hu hm h)
     .cases h
    .rename_i n y hx;obtain⟨i,t,f,h1,h2,h3,h4⟩:=Co h;have he:=Fg _ _ _ h1;rcases Dl hE.sg (show aJ g w (eB S (.cR n) y) (a.eval x)from cX hf hx)with⟨he',_⟩|⟨t',d,u,he',hv,hd⟩
     .rw[he']at he;cases he
     .rw[he']at he;simp only[bf,bB]at he;obtain⟨ht,rfl⟩:=he;rw[h2]at ht;subst ht;exact .inl (inv (tv:=.ty (l9 (S.alts n) i) (jE S.zero (S.alts n) i (S.sM n y))) hv (uo hd) h3 h4)
    .cases h
 .rename_i x hop;split at h
  .rename_i tt tv hx
   left
   have hr:=bJ hf (bU hx);simp only[low]at hr;unfold Oper.wp;generalize hv:a.eval x=v at hr;cases hr with
   |cR _ _ u hu=>
   have:(execOp a.eval o).run E.T.E.P w=.halt (.panic (.iface tt u)) w:=by simp[execOp,hop,hv,Instr.panic,goPanic]
   rw[this];exact hP _ _ g _ w h (cN.refl hs) (by simp only[low];exact .cR _ _ _ hu)
  .cases h
 .left
  exact plain h
def zU(hE:eL E)(dU:fV E.T.E.P call)(hf:cE g (bx fr) a w)(hs:bg g (aF s) w){ω:Type}{kp:V S->bq S->Option ω}{k:V S->bq S->List Nat->Option ω}{r:ω}
  (h:sU E call o fr s kp k=some r) {K:Act->World->Prop} {Q:Exit->Act->World->Prop} (hK:∀t s' g' ow v w',k t s' ow=some r->cN ow s g w s' g' w'->aJ g' w' (low t) v->K (a.put o.dst v) w')
  (hP:∀t s' g' v w',kp t s'=some r->cN [] s g w s' g' w'->aJ g' w' (low t) v->Q (.panic [{v,recovered:=false}]) a w') {rr:Option Nat} (AX:rr≠none->∀c,o.op≠.defer c) :
  X2 rr E.T.E.P o a w K Q:=by
 by_cases hy:∃c fv oo,o.op=.call c∧c.callee=.value fv∧cm fr fv=some (.rZ oo);rotate_left
 .exact .of_wp AX (Hj hE dU hf hs h hK hP λc fv oo h1 h2 h3=>hy ⟨c,fv,oo,h1,h2,h3⟩)
 obtain⟨c,fv,oo,hop,hfv,hyl⟩:=hy;unfold sU at h;rw[hop]at h;dsimp only at h;split at h
 .cases h
 rename_i args hargs;rw[hfv]at h;dsimp only at h;rw[hyl]at h;simp only[acT]at h;have dc:=fh hf (gM hargs);have OT:=bJ hf (bU hyl);simp only[low]at OT;generalize hvf:a.eval fv=vf at OT;cases OT with
 |rZ _ b hb=>
 obtain⟨l,hl,hsz,mD⟩:=dU.yl _ _ _ _ _ _ h g w (c.args.map a.eval) b hs (by simpa using dc) hb
 left
 rw[Oper.semAt_eq _ _ _ (by intro c';rw[hop];intro h;cases h),GH hop hfv hvf hl hsz];refine⟨λh=>by simp[Fence.wide]at h,(mD rr _).mono λe w' he=>?_⟩;cases e with
 |returned v=>obtain⟨t,s',g',h1,h2,h3⟩:=he;exact hK t s' g' [] v w' h1 h3 h2
 |panicked ch=>obtain⟨v,t,s',g',rfl,h1,h2,h3⟩:=he;exact hP t s' g' v w' h1 h3 h2
 |outgrown=>exact he.elim
mutual
def rF:∀(s:bq S)(t:Ty)(v:V S){x:den S.A t}{os:List Nat},rG v=true->bM s t v=some (x,os)->os=[]
 |s,t,.ty u y,x,os,_,h=>by
  simp only[bM]at h;split at h
  .simp only[bf,bB]at h;exact h.2.symm
  .cases h
 |s,t,.agg cs,x,os,hn,h=>by
  cases t with
  |st n=>
   simp only[bM]at h;split at h
   .rename_i h1 Q6 hh;simp only[bf,bB]at h;obtain⟨_,rfl⟩:=h;simp only[rG]at hn;exact H9 s _ cs hn hh
   .cases h
  |int=>simp[bM]at h
  |bool=>simp[bM]at h
  |str=>simp[bM]at h
  |sl=>simp[bM]at h
  |cR=>simp[bM]at h
 |s,t,.kb b,x,os,_,h=>by cases t<;>simp[bM]at h;first|exact h.2|exact h.2.symm
 |s,t,.kn k n,x,os,_,h=>by
  cases t<;>simp only[bM]at h<;>try(cases h;done)
  rcases af h with⟨_,h⟩|⟨_,h⟩
  .simp only[bf,bB]at h;exact h.2.symm
  .cases h
 |s,t,.emp,x,os,_,h=>by cases t<;>simp[bM]at h;first|exact h.2|exact h.2.symm
 |s,t,.jI n u l,x,os,_,h=>by
  cases t<;>simp only[bM]at h<;>try(cases h;done)
  split at h
  .simp only[bf,bB]at h;exact h.2.symm
  .cases h
 |s,t,.n9 n u y,x,os,_,h=>by
  cases t<;>simp only[bM]at h<;>try(cases h;done)
  split at h
  .simp only[bf,bB]at h;exact h.2.symm
  .cases h
 |s,t,.qF _ _ _ _,x,os,hn,_=>by simp[rG]at hn
 |s,t,.sh _ _,x,os,hn,_=>by simp[rG]at hn
 |s,t,.dat d,x,os,_,h=>by
  cases t with
  |cR n=>
   cases d with
   |lit v=>cases v<;>simp[bM]at h;first|exact h.2|exact h.2.symm
   |_=>simp[bM]at h
  |_=>simp[bM]at h
 |s,t,.mp _,_,_,_,h=>by cases t<;>simp[bM]at h
 |s,t,.rZ _,_,_,_,h=>by cases t<;>simp[bM]at h
 |s,t,.rY _,_,_,_,h=>by cases t<;>simp[bM]at h
 |s,t,.ub _,_,_,_,h=>by cases t<;>simp[bM]at h
 |s,t,.ptr _ _,_,_,_,h=>by cases t<;>simp[bM]at h
 |s,t,.mV _ _ _,_,_,_,h=>by cases t<;>simp[bM]at h
 |s,t,.kL _ _ _ _,_,_,_,h=>by cases t<;>simp[bM]at h
 |s,t,.fn _ _ _,_,_,_,h=>by cases t<;>simp[bM]at h
 |s,t,.cR u v,x,os,hn,h=>by
  have hn:rG v=true:=hn;cases t<;>simp only[bM]at h<;>try(cases h;done)
  split at h
  .split at h
   .rename_i y Q6 hy;simp only[bf,bB]at h;obtain⟨_,rfl⟩:=h;exact rF s _ v hn hy
   .cases h
  .cases h
 |s,t,.gq _,_,_,_,h=>by cases t<;>simp[bM]at h
 |s,t,.gd _ _,_,_,_,h=>by cases t<;>simp[bM]at h
def H9:∀(s:bq S)(ts:List Ty)(l:List (V S)){h:lP S.A ts}{os:List Nat},iX l=true->mZ s ts l=some (h,os)->os=[]
 |s,[],[],x,os,_,h=>by simp only[mZ,bf,bB]at h;exact h.2.symm
 |s,t::ts,v::l,x,os,hn,h=>by
  simp only[mZ]at h;split at h
  .rename_i x1 Q6 h1 SV e1 e2;simp only[bf,bB]at h;obtain⟨_,rfl⟩:=h;simp only[iX,eE]at hn;rw[rF s t v hn.1 e1,H9 s ts l hn.2 e2];rfl
  .cases h
 |s,[],_::_,_,_,_,h=>by simp[mZ]at h
 |s,_::_,[],_,_,_,h=>by simp[mZ]at h
end
end
end
section
def oR:Op->Bool
 | .alloc _|.box ..|.store ..|.buildSlice ..|.slice ..|.makeMap ..|.mapUpdate ..|.insert ..|.makeSlice ..|.range ..|.next ..|.defer ..=>true
 |_=>false
variable {E:gA}{fr:bV S}{s s':bq S}{o:Op}{c:Bool}{v:V S}{l:List (Nat×V S)}{args:List (V S)}{a:Act}
def Ou(h:cn E fr s o=some (c,v,s'))(hq:oR o=false):s'=s:=by
 cases o with
 |alloc=>cases hq
 |box=>cases hq
 |store=>cases hq
 |buildSlice=>cases hq
 |slice=>cases hq
 |move x=>simp only[cn,eA,bB]at h;obtain⟨_,_,_,_,rfl⟩:=h;rfl
 |assign x=>simp only[cn,eA,bB]at h;obtain⟨_,_,_,_,rfl⟩:=h;rfl
 |pick x y z=>
  simp only[cn]at h;split at h
  .simp only[eA,bB]at h;obtain⟨_,_,_,_,rfl⟩:=h;rfl
  .cases h
 |build t ps=>
  simp only[cn]at h;split at h
  .split at h
   .simp only[eA,bB]at h;obtain⟨_,_,_,_,rfl⟩:=h;rfl
   .cases h
  .cases h
 |load t x=>
  simp only[cn]at h;split at h
  .unfold w8 at h;split at h
   .split at h
    .dsimp only at h;rcases af h with⟨_,h⟩|⟨_,h⟩
     .simp only[eA,bB]at h;obtain⟨_,_,_,_,rfl⟩:=h;rfl
     .cases h
    .cases h
   .simp only[eA,bB]at h;obtain⟨_,_,_,_,rfl⟩:=h;rfl
   .split at h
    .simp only[eA,bB]at h;obtain⟨_,_,_,_,rfl⟩:=h;rfl
    .cases h
   .cases h
  .cases h
 |nilCheck x=>
  simp only[cn]at h;split at h;all_goals first
   |(cases h;done)
   |(
     simp only[bf,bB]at h;obtain⟨_,_,rfl⟩:=h;rfl)
 |binOp op t x y u=>
  simp only[cn]at h;split at h
  .simp only[eA,bB]at h;obtain⟨_,_,_,_,rfl⟩:=h;rfl
  .cases h
 |unOp op t x=>
  simp only[cn]at h;split at h
  .simp only[eA,bB]at h;obtain⟨_,_,_,_,rfl⟩:=h;rfl
  .cases h
 |convert t u x=>
  simp only[cn]at h;split at h
  .exact (Bh h).1
  .cases h
 |makeInterface t x=>
  simp only[cn]at h;split at h
  .split at h
   .cases h
   .simp only[bf,bB]at h;obtain⟨_,_,rfl⟩:=h;rfl
  .cases h
 |makeFunc f a b=>
  simp only[cn]at h;split at h
  .simp only[bf,bB]at h;obtain⟨_,_,rfl⟩:=h;rfl
  .cases h
 |extract x k=>
  simp only[cn]at h;split at h
  .exact (sS h).1
  .cases h
 |fieldAddr t x k=>
  simp only[cn]at h;split at h
  .exact (o6 h).1
  .cases h
 |field t x k=>
  simp only[cn]at h;split at h
  .unfold A7 at h;split at h
   .split at h
    .dsimp only at h;rcases af h with⟨_,h⟩|⟨_,h⟩
     .simp only[eA,bB]at h;obtain⟨_,_,_,_,rfl⟩:=h;rfl
     .cases h
    .cases h
   .cases h
  .cases h
 |indexAddr t x y=>
  simp only[cn]at h;split at h
  .unfold jB at h;split at h
   .split at h
    .split at h
     .rcases af h with⟨_,h⟩|⟨_,h⟩
      .simp only[bf,bB]at h;obtain⟨_,_,rfl⟩:=h;rfl
      .cases h
     .cases h
    .split at h
     .simp only[bf,bB]at h;obtain⟨_,_,rfl⟩:=h;rfl
     .cases h
   .cases h
  .cases h
 |index t x y=>
  simp only[cn]at h;split at h
  .unfold AU at h;split at h
   .simp only[bf,bB]at h;obtain⟨_,_,rfl⟩:=h;rfl
   .cases h
  .cases h
 |typeAssert x t u ok=>
  simp only[cn]at h;split at h
  .exact (vz h).1
  .cases h
 |_=>simp[cn]at h
def SX(h:rC E fr s o=some (c,v,s'))(hq:oR o=false):s'=s:=by
 unfold rC at h;split at h
 .cases hq
 .split at h;rotate_left
  .cases h
  split at h;rotate_left
  .cases h
  split at h;rotate_left
  .cases h
  simp only[bf,bB]at h;exact h.2.2.symm
 .cases hq
 .cases hq
 .cases hq
 .cases hq
 .repeat' split at h
  all_goals first|(cases h;done)|(simp only[bf,bB]at h;exact h.2.2.symm)
 .repeat' split at h
  all_goals first|(cases h;done)|(simp only[bf,bB]at h;exact h.2.2.symm)
 .repeat' split at h
  all_goals first|(cases h;done)|(simp only[bf,bB]at h;exact h.2.2.symm)
 .repeat' split at h
  all_goals first|(cases h;done)|(simp only[bf,bB]at h;exact h.2.2.symm)
 .split at h;rotate_left
  .cases h
  split at h
  .cases h
  .rcases af h with⟨_,h⟩|⟨_,h⟩
   .rcases af h with⟨_,h⟩|⟨_,h⟩
    .simp only[bf,bB]at h;exact h.2.2.symm
    .simp only[bf,bB]at h;exact h.2.2.symm
   .cases h
  .rcases af h with⟨_,h⟩|⟨_,h⟩
   .simp only[bf,bB]at h;exact h.2.2.symm
   .cases h
 .split at h;rotate_left
  .cases h
  split at h;rotate_left
  .cases h
  simp only[eA,bB]at h;obtain⟨_,_,_,_,rfl⟩:=h;rfl
 .cases h
def S0(h:AN E fr s o=some (c,v,s'))(hq:oR o=false):s'=s:=by
 unfold AN at h;split at h
 .split at h
  .split at h
   .split at h
    .split at h
     .rcases af h with⟨_,h⟩|⟨_,h⟩
      .simp only[bf,bB]at h;exact h.2.2.symm
      .cases h
     .cases h
    .cases h
   .cases h
  .cases h
 .split at h
  .split at h
   .split at h
    .rcases af h with⟨_,h⟩|⟨_,h⟩
     .rcases af h with⟨_,h⟩|⟨_,h⟩
      .rcases af h with⟨_,h⟩|⟨_,h⟩
       .simp only[bf,bB]at h;exact h.2.2.symm
       .cases h
      .rcases af h with⟨_,h⟩|⟨_,h⟩
       .simp only[eA,bB]at h;obtain⟨_,_,_,_,rfl⟩:=h;rfl
       .cases h
     .cases h
    .cases h
   .cases h
  .cases h
 .cases hq
 .cases hq
 .cases h
def SZ(h:zu E fr s o=some (c,v,s'))(hq:oR o=false):s'=s:=by
 unfold zu at h;split at h
 .rename_i r h0;cases h;exact S0 h0 hq
 .split at h
  .rename_i r h0;cases h;exact Ou h0 hq
  .exact SX h hq
def Dh(h:rC E fr s o=none)(hn:AN E fr s o=none):zu E fr s o=cn E fr s o:=by
 unfold zu;rw[hn,h];dsimp only;split
 .rename_i h0;exact h0.symm
 .rename_i h0;exact h0.symm
def RO{ω:Type}(k:V S->Option ω)(d:Option ω):∀l:List (Bool×V S×bq S),tL k d l=tM (λv _=>k v) d l
 |[]=>rfl
 |p::l=>by simp only[tL,tM,RO k d l]
def Ew(h:iX (l.map (·.2))=true):∀p∈l,rG p.2=true:=by
 induction l with
 |nil=>intro p hp;cases hp
 |cons a l ih=>
  simp only[lZ,iX,eE]at h;intro p hp;rcases fc.1 hp with rfl|hp
  .exact h.1
  .exact ih h.2 p hp
def Bd{s:bq S}{e:Ty}:∀{ps:List (Nat×V S)}{es r:List (den S.A e)}{os:List Nat},(∀p∈ps,rG p.2=true)->mF s e es ps=some (r,os)->os=[]
 |[],es,r,os,_,h=>by simp only[mF,bf,bB]at h;exact h.2.symm
 |(k,v)::ps,es,r,os,hn,h=>by
  simp only[mF]at h;split at h
  .cases h
  .rename_i x Q6 hx;rcases af h with⟨_,h⟩|⟨_,h⟩
   .split at h
    .rename_i r' SV hr;simp only[bf,bB]at h;obtain⟨_,rfl⟩:=h;rw[rF s e v (hn _ eC) hx,Bd (λp hp=>hn p (gL _ hp)) hr];rfl
    .cases h
   .cases h
def Bm{t:TypeId}{n:Nat}{ps:Array (Nat×Operand)}(hl:iq fr ps.toList=some l)(hn:iX (l.map (·.2))=true)
  (h:zu E fr s (.buildSlice t n ps)=some (c,v,s')):s'=s:=by
 cases hN:AN E fr s (.buildSlice t n ps)with
 |some r=>
  simp only[zu,hN,bf]at h;subst h;simp only[AN]at hN;split at hN
  .rename_i kx hps;split at hN
   .rename_i i n' cs _ _ hkx;split at hN
    .split at hN
     .rcases af hN with⟨_,hN⟩|⟨_,hN⟩
      .split at hN
       .rename_i x os hx;have hl':l=[(0,.agg cs)]:=by rw[hps]at hl;simp only[iq,cm,hkx,bf]at hl;exact hl.symm
        subst hl';simp only[lZ,HO,iX,DY]at hn;have:=rF s _ _ hn hx;subst this;simp only[dz,dX,bf,bB]at hN;exact hN.2.2.symm
       .cases hN
      .cases hN
     .cases hN
    .cases hN
   .cases hN
  .split at hN
   .split at hN
    .rcases af hN with⟨_,hN⟩|⟨_,hN⟩
     .simp only[bf,bB]at hN;exact hN.2.2.symm
     .cases hN
    .cases hN
   .cases hN
  .cases hN
 |none=>
 rw[Dh rfl hN]at h;simp only[cn]at h;split at h
 .rename_i i e ps' _ _ hps;rw[hl]at hps;cases hps;split at h
  .rcases af h with⟨_,h⟩|⟨_,h⟩
   .split at h
    .rename_i es os hel;have:=Bd (Ew hn) hel;subst this;simp only[dz,dX,bf,bB]at h;exact h.2.2.symm
    .cases h
   .cases h
  .cases h
 .cases h
def Ln{t:TypeId}{x:Operand}{lo hi mx:Option Operand}{u:V S}(hl:cm fr x=some u)(hn:rG u=true)
  (h:zu E fr s (.slice t x lo hi mx)=some (c,v,s')):s'=s:=by
 rw[Dh rfl rfl]at h;simp only[cn]at h;split at h
 .rename_i i a l1 l2 l3 _ ha _ _ _;rw[hl]at ha;cases ha;rcases DK h with rfl|h
  .rfl
  .have:Mm u=[]:=by cases u<;>first|rfl|simp[rG]at hn
   rw[this]at h;simp only[dz,bf]at h;exact h.symm
 .cases h
def BY{s:bq S}:∀{ps:List Pk}{l:List (V S)}{x:fW S.A ps}{fz ow bs:List Nat},bR ps=true->iX l=true->dY s ps l none=some (x,fz,ow,bs)->fz=[]∧ow=[]∧bs=[]
 |[],[],x,fz,ow,bs,_,_,h=>by simp only[dY,bf,bB]at h;exact⟨h.2.1.symm,h.2.2.1.symm,h.2.2.2.symm⟩
 | .one (.dat t)::ps,v::l,x,fz,ow,bs,ho,hn,h=>by
  simp only[dY]at h;simp only[iX,eE]at hn;split at h
  .rename_i x1 a1 b1 h1 a2 b2 bs2 e1 e2;simp only[bf,bB]at h;obtain⟨_,rfl,rfl,rfl⟩:=h;obtain⟨rfl,rfl,rfl⟩:=BY (by simpa[bR]using ho) hn.2 e2;simp only[l6]at e1;split at e1
   .rename_i y os hy;simp only[bf,bB]at e1;obtain⟨_,rfl,rfl⟩:=e1;rw[rF s t v hn.1 hy];exact⟨rfl,rfl,rfl⟩
   .cases e1
  .cases h
 | .one (.own _)::_,_,_,_,_,_,ho,_,_=>by simp[bR]at ho
 | .one (.jy ..)::_,_,_,_,_,_,ho,_,_=>by simp[bR]at ho
 | .one (.nil _)::_,_,_,_,_,_,ho,_,_=>by simp[bR]at ho
 | .one (.ptr _)::_,_,_,_,_,_,ho,_,_=>by simp[bR]at ho
 | .box _::_,_,_,_,_,_,ho,_,_=>by simp[bR]at ho
 | .hid _::_,_,_,_,_,_,ho,_,_=>by simp[bR]at ho
 |[],_::_,_,_,_,_,_,_,h=>by simp[dY]at h
 | .one _::_,[],_,_,_,_,_,_,h=>by simp[dY]at h
def Eh{s:bq S}:∀{ps:List Pk}(r:iE S.A ps),bR ps=true->ku s ps [] r=some s
 |[],_,_=>rfl
 | .one (.dat t)::ps,r,h=>by simp only[ku];exact Eh (ps:=ps) r (by simpa[bR]using h)
 | .one (.own _)::_,_,ho=>by simp[bR]at ho
 | .one (.jy ..)::_,_,ho=>by simp[bR]at ho
 | .one (.nil _)::_,_,ho=>by simp[bR]at ho
 | .one (.ptr _)::_,_,ho=>by simp[bR]at ho
 | .box _::_,_,ho=>by simp[bR]at ho
 | .hid _::_,_,ho=>by simp[bR]at ho
def Le{s:bq S}:∀{cs:List Ck}(x:gp S.A cs),jk cs=true->gH s cs x=(tH cs x,s)
 |[],_,_=>rfl
 | .dat t::cs,x,h=>by simp only[gH,uh,tH];rw[Le (cs:=cs) x.2 (by simpa[jk]using h)]
 | .own _::_,_,h=>by simp[jk]at h
 | .jy ..::_,_,h=>by simp[jk]at h
 | .nil _::_,_,h=>by simp[jk]at h
 | .ptr _::_,_,h=>by simp[jk]at h
def EY:∀{ps:List Pk},bR ps=true->W3 ps=false
 |[],_=>rfl
 | .one (.dat t)::ps,h=>EY (ps:=ps) (by simpa[bR]using h)
 | .one (.own _)::_,ho=>by simp[bR]at ho
 | .one (.jy ..)::_,ho=>by simp[bR]at ho
 | .one (.nil _)::_,ho=>by simp[bR]at ho
 | .one (.ptr _)::_,ho=>by simp[bR]at ho
 | .box _::_,ho=>by simp[bR]at ho
 | .hid _::_,ho=>by simp[bR]at ho
def M3(hn:s.aH<=bA){c:lF S}(h1:bR c.ps=true)(h2:jk c.rs=true)(h3:iX args=true){x:fW S.A c.ps}{fz ow bs:List Nat}(hp:dY s c.ps args none=some (x,fz,ow,bs))
  {r0:RT c.pn (gp S.A c.rs×iE S.A c.ps) (den S.A S.pt×iE S.A c.ps)} {r:gp S.A c.rs×iE S.A c.ps} (hF:c.F x=some r0) (hr:RT.res c.pn r0=.ok r):M4 s c args (λ_ _=>none) (λt s' ow=>some (t,s',ow))=some (GD (tH c.rs r.1),s,[]):=by
 obtain⟨rfl,rfl,rfl⟩:=BY h1 h3 hp;have ael:Nat.ble s.aH bA=true:=GO hn;unfold M4;rw[EY h1];simp only[gE];rw[hp];simp only[dz];cases V4 c with
 |true=>simp only[dM,hF,ak,hr]
 |false=>
 simp only[gE,sC,Br,List.all_nil,HR,dM,hF,ak,xN,hr];have e:IB [] (forget [] s)=s:=rfl;rw[e,Eh _ h1];simp only[Le _ h2,ael,dM]
def Xa(g:Option Bool):Prop:=g=none∨g=some true
def It{α:Type}{g:Option Bool}{p:Bool}{x:Option α}{r:α}(hg:Xa g)(h:yo g p x=some r):p=true∧x=some r:=by
 rcases hg with rfl|rfl
 .exact nr h
 .exact nr h
def aaI{α:Type}{g:Option Bool}{x:Option α}{z:α}(hg:Xa g):aiy g x z=x:=by rcases hg with rfl|rfl<;>rfl
section
variable {g:Gh}{w:World}
def Ki(hEE:NX E.E)(hf:cE g (bx fr) a w)(hs:bg g (aF s) w){o:Oper}{cl:Call}(hop:o.op=.call cl)(hb:cl.callee=.builtin .len)(hargs:jX fr cl.args.toList=some args){t:V S}
  (h:jJ E s .len cl.argTypes args=some (c,t,s')):∃v,(execOp a.eval o).run E.E.P w=.ok (.value v) w∧aJ g w (low t) v:=by
 have dc:=fh hf (gM hargs);unfold jJ at h;split at h
 .rename_i iD r _;split at h;rotate_left
  .cases h
  rename_i n j l era m dg hole cB;split at h;rotate_left
  .cases h
  rename_i i n' hi As;split at h;rotate_left
  .cases h
  rename_i sz ag bt zz dO;rcases af h with⟨EX,h9⟩|⟨_,h9⟩;rotate_left
  .cases h9
  simp only[eE]at EX;have Tm:=beq_iff'.1 EX.1;subst Tm;simp only[bf,bB]at h9;obtain⟨_,rfl,rfl⟩:=h9;have hx0:aJ g w (.sh iD r) ((cl.args.toList.map a.eval)[0]'(by have:=dc.1;simp[bh]at this;simp;omega)):=dc.2 0 _ _ rfl (gm _);obtain⟨xs,hxs,_⟩:=Jb hx0;have uL:iD<bA:=dy (hs.lt' hxs) hs.aH;obtain⟨hl,h1,h2,h3,h4⟩:=HC hs cB hxs;have hlen:(lits j (l.map (enc S (.st n))) hl).length=l.length:=by rw[lO (by simpa using h1)];simp
  obtain⟨_,v,hrun,ht⟩:=V5 hEE hf h4 hop hb (gM hargs) (p:=True) (t:=.sym (.lit (.int .i64 (D.len (lits j (l.map (enc S (.st n))) hl))))) (s':=kg s iD (.arr (S.width (.st n)) (lits j (l.map (enc S (.st n))) hl) r)) (by
   have hi':(nth cl.argTypes.toList 0).bind E.E.ti=some i:=hi;simp only[bh,low,eY,xH,hi',dO,rf];rw[fT uL,bL rfl];simp only[show Nat.beq r r=true from beq_iff'.2 rfl,dM,dX]) trivial
  refine⟨v,hrun,?_⟩;have e:D.len (lits j (l.map (enc S (.st n))) hl)=aq l:=by simp only[D.len,hlen,aq]
  rw[e]at ht;exact ht
 .rename_i h0;exact Builtin.noConfusion h0
 .rename_i h0;exact Builtin.noConfusion h0
 .cases h
def qI{E:ga S}(hE:eL E)(hf:cE g (bx fr) a w)(hs:bg g (aF s) w){o:Oper}{gd:Option Bool}(hg:Xa gd){ω:Type}{k:V S->Option ω}{r:ω}
  (h:ez E gd fr s o k=some r) {K:Act->World->Prop} {Q:Exit->Act->World->Prop} (hK:∀t g' v w',k t=some r->cN [] s g w s g' w'->aJ g' w' (low t) v->K (a.put o.dst v) w') :
  o.wp E.T.E.P a w K Q:=by
 have plain:∀{c:Bool}{t:V S}{s':bq S},zu E.T fr s o.op=some (c,t,s')->s'=s->yo gd c (k t)=some r->o.wp E.T.E.P a w K Q:=by
  intro c t s' hop hss h9;subst hss;obtain⟨hp,hk⟩:=It hg h9;obtain⟨v,w',g',hr,ht,bX⟩:=Q8 hE hf hs o hop hp;unfold Oper.wp;rcases hr with hr|⟨hr,rfl⟩
  .rw[hr];exact hK t g' v w' hk bX ht
  .rw[hr];exact hK t g' undef w' hk bX ht
 unfold ez at h;split at h
 .rename_i c hop;split at h
  .cases h
  .rename_i args hargs;have yg:=gM hargs;split at h
   .rename_i b hb;rcases af h with⟨hqb,h⟩|⟨_,h⟩;rotate_left
    .cases h
    split at h
    .rename_i p t s' MP;obtain⟨hp,hk⟩:=It hg h;unfold kC at MP;split at MP
     .rename_i r0 h0;cases MP;cases b with
      |len=>obtain⟨v,hrun,ht⟩:=Ki hE.env hf hs hop hb hargs h0;unfold Oper.wp;rw[hrun];exact hK t g v w hk (cN.refl hs) ht
      |append=>cases hqb
      |_=>simp[jJ]at h0
     split at MP
     .rename_i r0 h0;cases MP;obtain⟨q,hq,hqp⟩:=xq hE.sg hE.ty h0 hp;cases b with
      |len=>obtain⟨hss,v,hrun,ht⟩:=V5 hE.env hf hs hop hb yg hq hqp;unfold Oper.wp;rw[hrun];exact hK t g v w hk (cN.refl hs) ht
      |max=>simp[e8]at h0
      |min=>simp[e8]at h0
      |_=>cases hqb
     .obtain ⟨rfl,v,hr,ht⟩:=Ab hE.x hs hf hop hb hargs MP;unfold Oper.wp;rw[hr];exact hK t g v w hk (cN.refl hs) ht
    .cases h
   .rename_i fv hfv;split at h
    .cases h
    .rename_i f args' hfa;split at h
     .cases h
     .rename_i cc ad8;rcases af h with⟨Ch,h⟩|⟨_,h⟩
      .simp only[eE]at Ch;split at h
       .rename_i x _ _ _ b hpk hnb;obtain⟨rr,hF,hk⟩:=rT h;rw[aaI hg]at hF;split at hk;rotate_left
        .cases hk
        rename_i r1 KW;have hq:=M3 hs.aH Ch.1 Ch.2.1 Ch.2.2.1 hpk hF KW;simp only[sq]at hfa;obtain⟨tf,htf,uQ⟩:=hfa;have OT:=bJ hf (bU htf);have dc:=fh hf yg;have jC:=qm uQ;unfold wg at jC;split at jC
        .rename_i f' first cap wG
         simp only[bf,bB]at jC;obtain⟨rfl,yf⟩:=jC;rw[wG]at OT;generalize hvf:a.eval fv=vf at OT;cases OT with
         |fn _ _ _ va vc l1 l2 r1 r2=>
         have hall:PW (aJ g w) (bh args') (va++c.args.map a.eval++vc).toList:=by rw[<-yf];simp only[GN,QT];exact PW.append (PW.append ⟨by simpa using l1,λj x y h1 h2=>r1 j x y h1 (by simpa using h2)⟩ dc) ⟨by simpa using l2,λj x y h1 h2=>r2 j x y h1 (by simpa using h2)⟩
         obtain⟨AY,hc⟩:=Cq hE.sg (hE.Hh _ _ ad8) hs hall hq;unfold Oper.wp;rw[zd hop hfv hvf AY];refine hc.mono λe w' he=>?_;cases e with
         |returned v=>obtain⟨t,s',g',ow,h1,h2,h3⟩:=he;simp only[bf,bB]at h1;obtain⟨rfl,rfl,rfl⟩:=h1;exact hK _ g' v w' hk h3 h2
         |panicked ch=>obtain⟨_,_,_,_,_,h1,_⟩:=he;cases h1
         |outgrown=>exact he.elim
        .cases jC
       .cases h
      .cases h
   .cases h
 iterate 11
  .cases h
 .rename_i t n ps hop;split at h
  .rename_i l hl;rcases af h with⟨hn,h⟩|⟨_,h⟩
   .split at h
    .cases h
    .rename_i p v s' hv;rw[<-hop]at hv;exact plain hv (by rw[hop]at hv;exact Bm hl hn hv) h
   .cases h
  .cases h
 .rename_i t x lo hi mx hop;split at h
  .rename_i v hv;rcases af h with⟨hn,h⟩|⟨_,h⟩
   .split at h
    .cases h
    .rename_i p v' s' yS;rw[<-hop]at yS;exact plain yS (by rw[hop]at yS;exact Ln hv hn yS) h
   .cases h
  .cases h
 all_goals try(cases h;done)
 rename_i op h1 h2 h3 h4 h5 h6 h7 h8 h9 h10 h11 h12 h13 xg;have hmv:oR o.op=false:=by cases hop:o.op with|store x y z=>exact absurd hop (h2 x y z)|alloc x=>exact absurd hop (h3 x)|box x y=>exact absurd hop (h4 x y)|makeMap x y=>exact absurd hop (h6 x y)|mapUpdate x y z u=>exact absurd hop (h7 x y z u)|insert x y z u=>exact absurd hop (h8 x y z u)|makeSlice x y z=>exact absurd hop (h9 x y z)|range x y=>exact absurd hop (h10 x y)|next x y=>exact absurd hop (h11 x y)|defer x=>exact absurd hop (h12 x)|buildSlice x y z=>exact absurd hop (h13 x y z)|slice x y z u v=>exact absurd hop (xg x y z u v)|_=>rfl
 split at h
 .rename_i Bq p d s' hop;have hx:tM (λv _=>k v) (aB p (k d)) Bq=some r:=by
   rw[<-RO];rcases hg with rfl|rfl
   .exact h
   .simpa[yo,imp]using h
  obtain⟨t,s1,v,w',g',k1,k2,k3,k4,k5⟩:=Q9 hE.Uv hE.x hf hs o hop (X:=λv _=>k v) hx;have:s1=s:=k5 λit b hh=>by rw[hh]at hmv;cases hmv
  subst this;unfold Oper.wp;rcases k2 with hr|⟨hr,rfl⟩
  .rw[hr];exact hK t g' v w' k1 k4 k3
  .rw[hr];exact hK t g' undef w' k1 k4 k3
 .split at h
  .cases h
  .rename_i p v s' hv;exact plain hv (SZ hv hmv) h
def FM{ω:Type}{k:V S->Option ω}{d:Option ω}{r:ω}:∀{l:List (Bool×V S×bq S)},tL k d l=some r->(∃t,k t=some r)∨d=some r
 |[],h=>.inr h
 |p::l,h=>by
  simp only[tL]at h;rcases oI h with⟨_,h⟩|⟨_,h⟩
  .exact .inl ⟨_,h⟩
  .exact FM h
def J6{E:ga S}{o:Oper}{ω:Type}{k:V S->Option ω}{r:ω}(h:ez E (some false) fr s o k=some r):∃t,k t=some r:=by
 have gk:∀{p:Bool}{x:Option ω},yo (some false) p x=some r->x=some r:=λh=>(nr h).2;unfold ez at h;split at h
 .split at h
  .cases h
  .split at h
   .rcases af h with⟨_,h⟩|⟨_,h⟩
    .split at h
     .exact ⟨_,gk h⟩
     .cases h
    .cases h
   .split at h
    .cases h
    .split at h
     .cases h
     .rcases af h with⟨_,h⟩|⟨_,h⟩
      .split at h
       .obtain ⟨rr,_,hk⟩:=rT h;split at hk
        .exact ⟨_,hk⟩
        .cases hk
       .cases h
      .cases h
   .cases h
 iterate 11
  .cases h
 .split at h
  .rcases af h with⟨_,h⟩|⟨_,h⟩
   .split at h
    .cases h
    .exact ⟨_,gk h⟩
   .cases h
  .cases h
 .split at h
  .rcases af h with⟨_,h⟩|⟨_,h⟩
   .split at h
    .cases h
    .exact ⟨_,gk h⟩
   .cases h
  .cases h
 .split at h
  .rcases FM h with h|h
   .exact h
   .exact ⟨_,gk h⟩
  .split at h
   .cases h
   .exact ⟨_,gk h⟩
end
end
section
structure fA(s:bq S)(g:Gh)(w:World)(s':bq S)(g':Gh)(w':World):Prop where
 rel:bg g' (aF s') w'
 ext:pW s.lo s.fl g w g' w'
 fl:s'.fl=s.fl
 lo:s'.lo=s.lo
 aH:s.aH<=s'.aH
 vS:∀o∈s.wr,o∈s'.wr
 same:∀o,o<s.aH->o∉s'.wr->s'.ob.get o=s.ob.get o
 Hp:∀o∈s.dr,o∈s'.dr
variable {ow dr dr' ds ds':List Nat}{s s':bq S}{g':Gh}{w':World}{p q:Nat->Bool}{aH VO:Nat}{l m:List (BK S)}{fr fr':bV S}{ops:Array Oper}{a:Act}{o:Oper}{t:V S}{v:Value}{b:Bool}{dst:Option Nat}{E:ga S}{call:iB S}
def cN.toW{g:Gh}{w:World}(h:cN ow s g w s' g' w'):fA s g w s' g' w':=⟨h.rel,h.ext,h.fl,h.lo,h.aH,h.vS,h.same,h.Hp⟩
def fA.refl{s:bq S}{g:Gh}{w:World}(h:bg g (aF s) w):fA s g w s g w:=(cN.refl h).toW
def fA.trans{s s' s'':bq S}{g g' xh:Gh}{w w' w'':World}(h:fA s g w s' g' w')(k:fA s' g' w' s'' xh w''):fA s g w s'' xh w'':=
 ⟨k.rel,h.ext.trans (h.fl▸h.lo▸k.ext),k.fl.trans h.fl,k.lo.trans h.lo,fS h.aH k.aH,λo ho=>k.vS o (h.vS o ho),
  λo ho hno=>(k.same o (dy ho h.aH) hno).trans (h.same o ho (λhm=>hno (k.vS o hm))),λo ho=>k.Hp o (h.Hp o ho)⟩
mutual
def ep{p q:Nat->Bool}(h:∀o,p o=true->q o=true):∀v:V S,cC p v=true->cC q v=true
 | .ptr o _,hm=>h o hm
 | .kL o _ _ _,hm=>h o hm
 | .sh o _,hm=>h o hm
 | .mp o,hm=>h o hm
 | .rZ o,hm=>h o hm
 | .rY o,hm=>h o hm
 | .ub _,hm=>by cases hm
 | .n9 _ _ _,hm=>by cases hm
 | .qF o m _ _,hm=>by simp only[cC,lA]at hm ⊢;exact hm.imp (h o) (h m)
 | .fn _ a b,hm=>by simp only[cC,lA]at hm ⊢;exact hm.imp (m8 h a) (m8 h b)
 | .cR _ v,hm=>ep h v hm
 | .agg cs,hm=>m8 h cs hm
 | .gq cs,hm=>m8 h cs hm
 | .gd _ v,hm=>ep h v hm
 | .ty _ _,hm=>by cases hm
 | .kb _,hm=>by cases hm
 | .kn _ _,hm=>by cases hm
 | .dat _,hm=>by cases hm
 | .mV _ _ _,hm=>by cases hm
 | .emp,hm=>by cases hm
 | .jI _ _ _,hm=>by cases hm
def m8{p q:Nat->Bool}(h:∀o,p o=true->q o=true):∀l:List (V S),gX p l=true->gX q l=true
 |[],hm=>by cases hm
 |v::l,hm=>by simp only[gX,lA]at hm ⊢;exact hm.imp (ep h v) (m8 h l)
end
mutual
def nY(os:List Nat):∀v:V S,gR os v=cC os.contains v
 | .ptr o _=>rfl
 | .kL o _ _ _=>rfl
 | .sh o _=>rfl
 | .mp o=>rfl
 | .rZ o=>rfl
 | .rY o=>rfl
 | .ub _=>rfl
 | .qF _ _ _ _=>rfl
 | .n9 _ _ _=>rfl
 | .fn _ a b=>by simp only[gR,cC,uE os a,uE os b]
 | .cR _ v=>nY os v
 | .agg cs=>uE os cs
 | .gq cs=>uE os cs
 | .gd _ v=>nY os v
 | .ty _ _=>rfl
 | .kb _=>rfl
 | .kn _ _=>rfl
 | .dat _=>rfl
 | .mV _ _ _=>rfl
 | .emp=>rfl
 | .jI _ _ _=>rfl
def uE(os:List Nat):∀l:List (V S),nC os l=gX os.contains l
 |[]=>rfl
 |v::l=>by simp only[nC,gX,nY os v,uE os l]
end
def ir(h:∀o∈dr,o∈dr')(hn:VO<=aH)(o:Nat)(hp:eD dr aH o=true):eD dr' VO o=true:=by simp only[eD,lA,zi,qA]at hp ⊢;refine hp.imp (h o) (λhp=>?_);have:=fQ hp;exact GO (by omega)
def uZ(p:Nat->Bool):BK S->Bool
 | .call f args=>cC p f||args.any (cC p)
 | .mark o=>cC (S:=S) p (.ptr o 0)
 | .bad=>true
def qj(h:∀o,p o=true->q o=true):∀d:BK S,uZ p d=true->uZ q d=true
 | .call f args,hm=>by simp only[uZ,lA,LW]at hm ⊢;exact hm.imp (ep h f) (λ⟨v,h1,h2⟩=>⟨v,h1,ep h v h2⟩)
 | .mark o,hm=>h o hm
 | .bad,_=>rfl
inductive nJ(p:Nat->Bool):List (BK S)->List (BK S)->Prop where
 |nil:nJ p [] []
 |cons {d e:BK S} {l m:List (BK S)} (h:e=d∨(e=.bad∧uZ p d=true)) (t:nJ p l m):nJ p (d::l) (e::m)
def nJ.refl(p:Nat->Bool):∀l:List (BK S),nJ p l l
 |[]=>.nil
 |_::l=>.cons (.inl rfl) (nJ.refl p l)
def nJ.mono(h:∀o,p o=true->q o=true)(k:nJ p l m):nJ q l m:=by
 induction k with|nil=>exact .nil|cons hd _ ih=>exact .cons (hd.imp id λ⟨a,b⟩=>⟨a,qj h _ b⟩) ih
def nJ.trans{p:Nat->Bool}:∀{l m n:List (BK S)},nJ p l m->nJ p m n->nJ p l n
 |_,_,_,.nil,.nil=>.nil
 |_,_,_,.cons h t,.cons h' t'=>by
  refine .cons ?_ (t.trans t');rcases h with rfl|⟨rfl,h⟩
  .exact h'
  .rcases h' with rfl|⟨rfl,_⟩
   .exact .inr ⟨rfl,h⟩
   .exact .inr ⟨rfl,h⟩
def nJ.split{p:Nat->Bool}:∀{a b m:List (BK S)},nJ p (a++b) m->∃c d,m=c++d∧nJ p b d
 |[],_,m,h=>⟨[],m,rfl,h⟩
 |_::_,_,_,.cons _ t=>by obtain⟨c,d,h1,h2⟩:=t.split;exact⟨_::c,d,by rw[h1];rfl,h2⟩
def nJ.len(h:nJ p l m):m.length=l.length:=by
 induction h with|nil=>rfl|cons _ _ ih=>simp[ih]
def ug(p:Nat->Bool)(l m:List (BK S)):Prop:=∃c d,m=c++d∧nJ p l d
def ug.refl(p:Nat->Bool)(l:List (BK S)):ug p l l:=⟨[],l,rfl,.refl p l⟩
def nJ.ok(h:nJ p l m):ug p l m:=⟨[],m,rfl,h⟩
def ug.mono{p q:Nat->Bool}(h:∀o,p o=true->q o=true){l m:List (BK S)}(k:ug p l m):ug q l m:=by obtain⟨c,d,h1,h2⟩:=k;exact⟨c,d,h1,h2.mono h⟩
def ug.trans{p:Nat->Bool}{l m n:List (BK S)}(h:ug p l m)(k:ug p m n):ug p l n:=by obtain⟨c,d,rfl,h2⟩:=h;obtain⟨c',d',rfl,h4⟩:=k;obtain⟨x,y,rfl,h5⟩:=h4.split;exact⟨c'++x,y,by rw[sn],h2.trans h5⟩
def ug.eq(h:ug p l m)(hl:m.length=l.length):nJ p l m:=by obtain⟨c,d,rfl,h2⟩:=h;have:=h2.len;have:c=[]:=AJ (by simp at hl;omega);subst this;exact h2
structure eK(ds:List Nat)(fr fr':bV S)(dr:List Nat)(aH:Nat):Prop where
 tm:∀k v,k∉ds->fr.get k=some v->fr'.get k=some v∨cC (eD dr aH) v=true
 df:ug (eD dr aH) fr.df fr'.df
def eK.refl(ds:List Nat)(fr:bV S)(dr:List Nat)(aH:Nat):eK ds fr fr dr aH:=⟨λ_ _ _ h=>.inl h,ug.refl _ _⟩
def eK.trans{ds ds':List Nat}{fr fr' MQ:bV S}{dr dr':List Nat}{aH VO:Nat}(h:eK ds fr fr' dr aH)(k:eK ds' fr' MQ dr' VO)(hw:∀o∈dr,o∈dr')(hn:aH<=VO):eK (ds++ds') fr MQ dr' aH:=by
 refine⟨λj v hj hv=>?_,(h.df.mono (ir hw (bT _))).trans (k.df.mono (ir (λ_ h=>h) hn))⟩;simp only[eg,not_or]at hj;rcases h.tm j v hj.1 hv with h1|h1
 .exact (k.tm j v hj.2 h1).imp id (ep (ir (λ_ h=>h) hn) v)
 .exact .inr (ep (ir hw (bT _)) v h1)
def eK.mono{ds ds':List Nat}{fr fr':bV S}{dr dr':List Nat}{aH:Nat}(h:eK ds fr fr' dr aH)(hd:∀k∈ds,k∈ds')(hw:∀o∈dr,o∈dr'):eK ds' fr fr' dr' aH:=by refine⟨λj v hj hv=>?_,h.df.mono (ir hw (bT _))⟩;exact(h.tm j v (λhm=>hj (hd j hm)) hv).imp id (ep (ir hw (bT _)) v)
def s5{p q:Nat->Bool}(hpq:∀o,p o=true->q o=true){f:V S->Bool}(hf:∀v,f v=cC p v):∀l:List (BK S),nJ q l (l.map (ic f))
 |[]=>.nil
 |d::l=>by
  refine .cons ?_ (s5 hpq hf l);cases d with
  |call g args=>
   simp only[ic];cases hb:f g||args.any f with
   |true=>refine .inr ⟨rfl,qj hpq _ ?_⟩;simp only[uZ,<-hf];rw[show(cC p:V S->Bool)=f from funext λv=>(hf v).symm];exact hb
   |false=>exact .inl rfl
  |mark o=>
   simp only[ic];cases hb:f (.ptr o 0)with|true=>exact .inr ⟨rfl,qj hpq _ (by simp only[uZ,<-hf];exact hb)⟩|false=>exact .inl rfl
  |bad=>exact .inl rfl
def bV.iR(fr:bV S)(k j:Nat)(v:V S)(h:k<bA):(fr.put k v).get j=if j=k then some v else fr.get j:=Tr.aT _ _ _ _ h
section
variable {g:Gh}{w:World}
def n6(hf:cE g (bx fr) a w){r:Option Bool}(h:gY ops.toList fr o=some r) :
  match r with
  |none=>Region.wanted o (yielded ops a.tmps)=true
  |some c=>Region.wanted o (yielded ops a.tmps)=c:=by
 unfold gY at h;split at h
 .rename_i hg;simp only[bf]at h;subst h;simp[Region.wanted,hg]
 .rename_i j want hg;split at h
  .rename_i b ht;simp only[sq,jx]at ht;obtain⟨d,⟨o',ho',hd⟩,hfr⟩:=ht;obtain⟨v,hv,hr⟩:=hf.tm d (low (.kb b)) (by rw[bO,hfr];rfl);cases hr;have UA:ops[j]?=some o':=by simpa using ho'
   have hy:yielded ops a.tmps j=some b:=by simp[yielded,UA,hd,hv]
   cases b<;>cases want<;>simp only[dM,gE,LN,Bool.not_false,bf]at h<;>subst h<;>simp[Region.wanted,hg,hy]
  .rename_i t _ ht;split at h
   .rename_i b hb;simp only[bf]at h;subst h;obtain⟨p,e,hp⟩:=kY hb;simp only[sq,jx]at ht;obtain⟨d,⟨o',ho',hd⟩,hfr⟩:=ht;obtain⟨v,hv,hr⟩:=hf.tm d (low t) (by rw[bO,hfr];rfl);have hvb:=iK e hp hr;subst hvb;have UA:ops[j]?=some o':=by simpa using ho'
    have hy:yielded ops a.tmps j=some b:=by simp[yielded,UA,hd,hv]
    simp only[Region.wanted,hg,hy,D.beq];cases b<;>cases want<;>rfl
   .cases h
  .cases h
def BP(hf:cE g (bx fr) a w)(h:tD ops.toList fr o=true):Region.wanted o (yielded ops a.tmps)=false:=by
 unfold tD at h;split at h
 .cases h
 .rename_i j want hg;split at h
  .rename_i b ht;simp only[sq,jx]at ht;obtain⟨d,⟨o',ho',hd⟩,hfr⟩:=ht;obtain⟨v,hv,hr⟩:=hf.tm d (low (.kb b)) (by rw[bO,hfr];rfl);cases hr;have UA:ops[j]?=some o':=by simpa using ho'
   have hy:yielded ops a.tmps j=some b:=by simp[yielded,UA,hd,hv]
   cases b<;>cases want<;>first|(cases h;done)|simp[Region.wanted,hg,hy]
  .rename_i l ht;simp only[sq,jx]at ht;obtain⟨d,⟨o',ho',hd⟩,hfr⟩:=ht;obtain⟨v,hv,hr⟩:=hf.tm d (low (.dat (.lit (.tuple l)))) (by rw[bO,hfr];rfl);simp only[low]at hr;cases hr with
   |sym _ _ hd'=>
   cases hd';have UA:ops[j]?=some o':=by simpa using ho'
   have hy:yielded ops a.tmps j=none:=by simp[yielded,UA,hd,hv]
   simp[Region.wanted,hg,hy]
  .cases h
def Ld:aJ g w (low (S:=S) ff) undef:=.sym _ _ (.lit _)
def X5(t t':V S):Prop:=t'=t∨∃b,t=.ty .bool b∧t'=.kb b
def X5.rel{t':V S}(h:X5 t t')(ht:aJ g w (low t) v):aJ g w (low t') v:=by
 rcases h with rfl|⟨b,rfl,rfl⟩
 .exact ht
 .cases ht with|sym _ _ hd=>cases hd;exact .kb b
def Sv{ω:Type}{k:V S->Option ω}{r:ω}(h:Az b t k=some r):∃t',X5 t t'∧k t'=some r:=by
 unfold Az at h;rcases af h with⟨_,h'⟩|⟨_,h'⟩
 .clear h;split at h'
  .rename_i x;rcases oI h' with⟨rfl,h⟩|⟨rfl,h⟩
   .exact ⟨_,.inr ⟨true,rfl,rfl⟩,h⟩
   .exact ⟨_,.inr ⟨false,rfl,rfl⟩,h⟩
  .exact ⟨_,.inl rfl,h'⟩
 .exact ⟨t,.inl rfl,h'⟩
def I7{ω:Type}{k:V S->Option ω}{r:ω}(h:Az b t k=some r)(ht:aJ g w (low t) v):∃t',k t'=some r∧aJ g w (low t') v:=by
 unfold Az at h;rcases af h with⟨_,h'⟩|⟨_,h⟩
 .clear h;split at h'
  .rename_i x;have hv:v=.bool x:=by cases ht with|sym _ _ hd=>cases hd;rfl
   subst hv;rcases oI h' with⟨rfl,h⟩|⟨rfl,h⟩
   .exact ⟨_,h,.kb true⟩
   .exact ⟨_,h,.kb false⟩
  .exact ⟨_,h',ht⟩
 .exact ⟨t,h,ht⟩
def uT(hf:cE g (bx fr) a w)(hn:fr.n<=bA){o:Op}(h:J2 true fr o=true):cE g (bx (nk fr o)) a w∧(nk fr o).n=fr.n:=by
 have key:∀(l:List Operand)(q:Bool)(f0:bV S),f0.n=fr.n->(q=true->cE g (bx f0) a w)->
   l.foldl (λp x=>match x with
    | .tmp k=>match fr.get k with
     |some (.gd g _)=>p&&imp true g
     |_=>p
    |_=>p) q=true->
   cE g (bx (l.foldl (λf x=>match x with
    | .tmp k=>match fr.get k with
     |some (.gd _ v)=>f.put k v
     |_=>f
    |_=>f) f0)) a w∧(l.foldl (λf x=>match x with
    | .tmp k=>match fr.get k with
     |some (.gd _ v)=>f.put k v
     |_=>f
    |_=>f) f0).n=fr.n:=by
  intro l
  induction l with
  |nil=>intro q f0 hn0 hq h;exact⟨hq h,hn0⟩
  |cons x l ih=>
   intro q f0 hn0 hq h;simp only[LD]at h ⊢;cases x with
   |tmp k=>
    simp only at h ⊢;split at h
    .rename_i gb v cJ;refine ih _ _ (by simpa[bV.put]using hn0) (λhpq=>?_) h;simp only[eE]at hpq;have WT:=hq hpq.1;have hgb:gb=true:=hpq.2;subst hgb;obtain⟨u,hu,hr⟩:=hf.tm k (low (.gd true v)) (by rw[bO,cJ];rfl);have aav:k<fr.n:=by have:=(Ju.1 hu).1;rw[hf.size]at this;exact this
     refine⟨WT.size,WT.df,λk' t' hk'=>?_⟩;rw[bO,bV.iR _ _ _ _ (dy aav hn)]at hk';by_cases hkk:k'=k
     .subst hkk;rw[bL rfl]at hk';simp only[dX,bf]at hk';subst hk';simp only[low]at hr;cases hr with|gd _ _ _ lC=>exact⟨u,hu,lC rfl⟩
     .rw[bw hkk]at hk';exact WT.tm k' t' (by rw[bO];exact hk')
    .exact ih _ _ hn0 hq h
   |const v=>exact ih _ _ hn0 hq h
   |global v=>exact ih _ _ hn0 hq h
   |func v=>exact ih _ _ hn0 hq h
 exact key o.operands.toList true fr rfl (λ_=>hf) h
def su(hf:cE g (bx fr) a w)(hd:fX fr dst=true)(hn:fr.n<=bA)(ht:aJ g w (low t) v) :
  cE g (bx (fr.ij dst t)) (a.put dst v) w∧(fr.ij dst t).n=fr.n:=by
 refine⟨?_,by cases dst<;>rfl⟩;rw[OA];exact TH hf (by cases dst<;>exact hd) hn ht
def HV(hn:fr.n<=bA)(hd:fX fr dst=true)(hw:∀o∈ow,o∈dr)(aH:Nat)(t:V S):eK dst.toList fr ((dV ow fr).ij dst t) dr aH:=by
 refine⟨λk v hk hv=>?_,?_⟩;rotate_left
 .have e:((dV ow fr).ij dst t).df=(dV ow fr).df:=by cases dst<;>rfl
  rw[e];cases ow with|nil=>exact ug.refl _ _|cons o ow=>refine(s5 (p:=(o::ow).contains) (λo' ho=>?_) (λv=>nY _ v) _).ok;simp only[eD,lA,zi,qA]at ho ⊢;exact .inl (hw o' ho)
 have h1:(dV ow fr).get k=some v∨cC (eD dr aH) v=true:=by
  cases ow with
  |nil=>exact .inl hv
  |cons o ow=>
   cases hm:gR (o::ow) v with
   |true=>rw[nY]at hm;refine .inr (ep (λo ho=>?_) v hm);simp only[eD,lA,zi,qA]at ho ⊢;exact .inl (hw o ho)
   |false=>
    left
    show(fr.tm.keep _).get k=some v;rw[Tr.o5,show fr.tm.get k=some v from hv];simp[Option.filter,hm]
 refine h1.imp (λh1=>?_) id;cases dst with|none=>exact h1|some d=>have hdn:d<fr.n:=fQ hd;show((dV ow fr).put d t).get k=some v;rw[bV.iR _ _ _ _ (dy hdn hn),bw (by simpa using hk)];exact h1
def zM(v:Value):aJ g w (low (S:=S) (.gd false ff)) v:=by simp only[low];exact .gd _ _ _ λh=>by cases h
def v9(ow:List Nat)(fr:bV S):(dV ow fr).n=fr.n:=by cases ow<;>rfl
def zw{d:Option Nat}(h:fX fr d=true):fX (dV ow fr) d=true:=by cases d with|none=>rfl|some d=>simp only[fX,v9]at h ⊢;exact h
def qH(hE:eL E)(dU:fV E.T.E.P call)(hn:fr.n<=bA)(hf:cE g (bx fr) a w)(hs:bg g (aF s) w){ω:Type}
  {kp:V S->bq S->Option ω} {k:V S->bq S->List Nat->Option ω} {r:ω} (h:mU E call ops.toList o fr s kp k=some r) {K:Act->World->Prop} {Q:Exit->Act->World->Prop}
  (hK:∀t s' ow g' v w',k t s' ow=some r->aJ g' w' (low t) v->cN ow s g w s' g' w'->K (a.put o.dst v) w')
  (hP:∀t s' g' v w',kp t s'=some r->cN [] s g w s' g' w'->aJ g' w' (low t) v->Q (.panic [{v,recovered:=false}]) a w') {rr:Option Nat} (AX:rr≠none->∀c,o.op≠.defer c) :
  fX fr o.dst=true∧if Region.wanted o (yielded ops a.tmps)then X2 rr E.T.E.P o a w K Q else K (a.put o.dst undef) w:=by
 unfold mU at h;rcases af h with⟨hd,h⟩|⟨_,h⟩;rotate_left
 .cases h
 refine⟨hd,?_⟩;rcases af h with⟨hsk,h⟩|⟨_,h⟩
 .rw[bw (by rw[BP hf hsk];exact Bool.noConfusion)];exact hK _ s [] g undef w h Ld (cN.refl hs)
 split at h
 .cases h
 .rename_i hg;have hw:=n6 hf hg;simp only at hw;rw[bL hw];exact zU hE dU hf hs h (λt s' g' ow v w' hk bX ht=>hK t s' ow g' v w' hk ht bX) hP AX
 .rename_i c hg;have hw:=n6 hf hg;simp only at hw;dsimp only at h;rcases af h with⟨_,h⟩|⟨_,h⟩
  .obtain ⟨hok,h⟩:=nr h;cases c with
   |true=>rw[bL hw];obtain⟨hff,hfn⟩:=uT hf hn hok;exact .of_wp AX (.inl (qI hE hff hs (.inr rfl) h (λt g' v w' hk bX ht=>hK _ s [] g' v w' hk (by simp only[low];exact .gd _ _ _ λ_=>ht) bX)))
   |false=>rw[bw (by rw[hw];exact Bool.noConfusion)];obtain⟨t,hk⟩:=J6 h;exact hK _ s [] g undef w hk (by simp only[low];exact .gd _ _ _ λh=>by cases h) (cN.refl hs)
  .rcases oI h with⟨rfl,h⟩|⟨rfl,h⟩
   .obtain ⟨hok,h⟩:=nr h;rw[bL hw];obtain⟨hff,hfn⟩:=uT hf hn hok;exact zU hE dU hff hs h (λt s' g' ow v w' hk bX ht=>hK t s' ow g' v w' hk ht bX) hP AX
   .rw[bw (by rw[hw];exact Bool.noConfusion)];exact hK _ s [] g undef w h (zM _) (cN.refl hs)
def Kc{P:Program}(hf:cE g (bx fr) a w){d:BK S}(h:Pu fr o=some d) :
  o.guard=none∧∃e,(execOp a.eval o).run P w=.ok (.defer e) w∧vM g w (rH d) e:=by
 unfold Pu at h;split at h;rotate_left
 .cases h
 rename_i c hg hop;refine⟨hg,?_⟩;split at h;rotate_left
 .cases h
 rename_i f uQ;split at h;rotate_left
 .cases h
 rename_i fv va vb args hfv hargs;simp only[bf]at h;subst h;have hr:=bJ hf (bU hfv);have dc:=fh hf (gM hargs);simp only[low]at hr;generalize hvf:a.eval f=vf at hr;cases hr with
 |fn _ _ _ xa xc l1 l2 r1 r2=>
  refine⟨{target:=.fn fv xc,args:=xa++c.args.map a.eval},?_,?_⟩
  .simp only[execOp,hop,resolve,uQ,Deferred.ofValue,hvf,Sem.run_bind,Sem.run_pure,Result.andThen_ok]
  .exact .call (.fn fv (bh va) (bh vb)) (bh args) fv xa xc (c.args.map a.eval) (.fn fv _ _ xa xc l1 l2 r1 r2) (by simpa using dc.1) (λj t v h1 h2=>dc.2 j t v h1 (by simpa using h2))
def J5(hE:eL E)(dU:fV E.T.E.P call)(hn:fr.n<=bA)(hf:cE g (bx fr) a w)(hs:bg g (aF s) w){ω:Type}
  {kp:V S->bq S->Option ω} {k:bV S->bq S->Option ω} {r:ω} (h:Ph E call ops.toList o fr s kp k=some r) {K:Act->World->Prop} {Q:Exit->Act->World->Prop}
  (hK:∀fr' s' g' a' w',k fr' s'=some r->fr'.n=fr.n->cE g' (bx fr') a' w'->fA s g w s' g' w'->eK o.dst.toList fr fr' s'.dr s.aH->K a' w')
  (hP:∀t s' g' v w',kp t s'=some r->cE g' (bx fr) a w'->fA s g w s' g' w'->aJ g' w' (low t) v->Q (.panic [{v,recovered:=false}]) a w') {rr:Option Nat} (AX:rr≠none->∀c,o.op≠.defer c) :
  if Region.wanted o (yielded ops a.tmps)then X2 rr E.T.E.P o a w K Q else K (a.put o.dst undef) w:=by
 unfold Ph at h;split at h
 .rename_i d hdv;rcases af h with⟨hd,h2⟩|⟨_,h2⟩;rotate_left
  .cases h2
  obtain⟨hg,e,hrun,lC⟩:=Kc (P:=E.T.E.P) hf hdv;have hw:Region.wanted o (yielded ops a.tmps)=true:=by simp[Region.wanted,hg]
  rw[bL hw];refine .of_wp AX (.inl ?_);unfold Oper.wp;rw[hrun];obtain⟨h1,h3⟩:=su hf hd hn (t:=xG) (v:=undef) (zM _);have key:∀dst:Option Nat,cE g (bx (fr.ij dst xG)) (a.put dst undef) w->cE g (bx {(fr.ij dst xG)with df:=d::fr.df}) (({a with defers:=e::a.defers}:Act).put dst undef) w:=by intro dst h1;cases dst with|none=>exact⟨h1.size,.cons lC hf.df,h1.tm⟩|some j=>exact⟨h1.size,.cons lC hf.df,h1.tm⟩
  obtain⟨h4,h5⟩:=HV (ow:=[]) (dr:=s.dr) hn hd (λo ho=>by cases ho) s.aH xG;exact hK _ s g _ w h2 h3 (key _ h1) (fA.refl hs) ⟨h4,[d],fr.df,rfl,.refl _ _⟩
 have hd:fX fr o.dst=true:=(qH hE dU hn hf hs h (K:=λ_ _=>True) (Q:=λ_ _ _=>True) (λ_ _ _ _ _ _ _ _ _=>trivial) (λ_ _ _ _ _ _ _ _=>trivial) AX).1;refine(qH hE dU hn hf hs h (λt s' ow g' v w' hk ht bX=>?_) (λt s' g' v w' hk bX ht=>hP t s' g' v w' hk (mS (ow:=[]) hf bX) bX.toW ht) AX).2;have how:=bX.owd;have hff:=mS hf bX;obtain⟨t,hk,ht⟩:=I7 hk ht;obtain⟨h1,h2⟩:=su (fr:=dV ow fr) hff (zw hd) (by rw[v9];exact hn) ht;exact hK _ s' g' _ w' hk (h2.trans (v9 ow fr)) h1 bX.toW (HV hn hd how _ t)
def Cn(hE:eL E)(dU:fV E.T.E.P call){ω:Type}{kp:bV S->V S->bq S->Option ω}{kk:bV S->bq S->Option ω}{r:ω}{Q:Exit->Act->World->Prop}{rr:Option Nat}(AX:rr≠none->∀o∈ops.toList,∀c,o.op≠.defer c) :
  ∀(l:List Oper)(k:Nat),ops.toList.drop k=l->∀{fr:bV S}{s:bq S}{a:Act}{g:Gh}{w:World},fr.n<=bA->MY E call ops.toList kp kk l fr s=some r->cE g (bx fr) a w->bg g (aF s) w->
   (∀fr' s' g' a' w',kk fr' s'=some r->fr'.n=fr.n->cE g' (bx fr') a' w'->fA s g w s' g' w'->eK (l.filterMap (·.dst)) fr fr' s'.dr s.aH->Q .normal a' w')->
   (∀fr' t s' g' a' v w',kp fr' t s'=some r->fr'.n=fr.n->cE g' (bx fr') a' w'->fA s g w s' g' w'->eK (l.filterMap (·.dst)) fr fr' s'.dr s.aH->aJ g' w' (low t) v->Q (.panic [{v,recovered:=false}]) a' w')->
   vF rr E.T.E.P ops Q (List.range' k l.length) a w:=by
 intro l
 induction l with
 |nil=>intro k _ fr s a g w _ h hf hs hK _;exact hK fr s g a w h rfl hf (fA.refl hs) (eK.refl _ _ _ _)
 |cons o l ih=>
  intro k hd fr s a g w hn h hf hs hK hP;have hk:ops[k]?=some o:=by have:=nB (λm=>m[0]?) hd;simpa[DZ]using this
  have hd':ops.toList.drop (k+1)=l:=by have:=nB (List.drop 1) hd;simpa[LQ,Nat.add_comm]using this
  rw[fI,List.range'_succ];unfold vF;simp only[hk];simp only[MY]at h;have tail:∀{fr' MQ:bV S}{s' s'':bq S}{g':Gh}{w':World},fA s g w s' g' w'->eK o.dst.toList fr fr' s'.dr s.aH->(∀o∈s'.dr,o∈s''.dr)->eK (l.filterMap (·.dst)) fr' MQ s''.dr s'.aH->eK ((o::l).filterMap (·.dst)) fr MQ s''.dr s.aH:=by
   intro fr' MQ s' s'' g' w' h4 h5 h6 k5;have:=h5.trans k5 h6 h4.aH;refine this.mono (λj hj=>?_) (λ_ h=>h);rcases eg.1 hj with hj|hj
   .rw[wz];exact⟨o,eC,by simpa using hj⟩
   .rw[wz]at hj ⊢;obtain⟨x,hx,Ik⟩:=hj;exact⟨x,gL _ hx,Ik⟩
  refine J5 hE dU hn hf hs h (λfr' s' g' a' w' h1 h2 h3 h4 h5=>?_) (λt s' g' v w' h1 h2 h3 h4=>hP fr t s' g' a v w' h1 rfl h2 h3 (eK.refl _ _ _ _) h4) λhr=>AX hr o (by rw[<-Mb]at hk;exact gW hk);exact ih (k+1) hd' (by rw[h2];exact hn) h1 h3 h4.rel (λMQ s'' xh Hw w'' k1 k2 k3 k4 k5=>hK MQ s'' xh Hw w'' k1 (k2.trans h2) k3 (h4.trans k4) (tail h4 h5 k4.Hp k5)) (λMQ t s'' xh Hw v' w'' k1 k2 k3 k4 k5 k6=>hP MQ t s'' xh Hw v' w'' k1 (k2.trans h2) k3 (h4.trans k4) (tail h4 h5 k4.Hp k5) k6)
end
end
section
mutual
def er(p:Nat->Bool):T->Bool
 | .ptr o _=>p o
 | .kL o _ _ _=>p o
 | .sh o _=>p o
 | .mp o=>p o
 | .rZ o=>p o
 | .rY o=>p o
 | .qF o m _ _=>p o||p m
 | .fn _ a b=>jS p a||jS p b
 | .cR _ v=>er p v
 | .agg cs=>jS p cs
 | .gq cs=>jS p cs
 | .gd _ v=>er p v
 |_=>false
def jS(p:Nat->Bool):List T->Bool
 |[]=>false
 |v::l=>er p v||jS p l
end
mutual
def gN(p:Nat->Bool):∀v:V S,er p (low v)=cC p v
 | .ty t x=>by
  have:∀l:List D,jS p (l.map .sym)=false:=by
   intro l
   induction l with|nil=>rfl|cons d l ih=>simp[jS,er,ih]
  cases t<;>simp[low,eB,cC,er,this]
 | .kb _=>rfl
 | .kn _ _=>rfl
 | .dat _=>rfl
 | .ptr _ _=>rfl
 | .mV _ _ _=>rfl
 | .kL _ _ _ _=>rfl
 | .sh _ _=>rfl
 | .emp=>rfl
 | .jI _ _ _=>rfl
 | .fn _ a b=>by simp only[low,cC,er,oU p a,oU p b]
 | .cR _ v=>by simp only[low,cC,er,gN p v]
 | .agg cs=>by simp only[low,cC,er,oU p cs]
 | .gq cs=>by simp only[low,cC,er,oU p cs]
 | .gd _ v=>by simp only[low,cC,er,gN p v]
 | .mp _=>rfl
 | .rZ _=>rfl
 | .rY _=>rfl
 | .ub _=>rfl
 | .qF _ _ _ _=>rfl
 | .n9 _ _ _=>rfl
def oU(p:Nat->Bool):∀l:List (V S),jS p (bh l)=gX p l
 |[]=>rfl
 |v::l=>by simp only[bh,jS,gX,gN p v,oU p l]
end
def m9{p:Nat->Bool}:∀{l:List T},jS p l=false->∀t∈l,er p t=false
 |[],_,t,ht=>by cases ht
 |a::l,h,t,ht=>by
  simp only[jS,wA]at h;rcases fc.1 ht with rfl|ht
  .exact h.1
  .exact m9 h.2 t ht
structure ajP(p:Nat->Bool)(g g':Gh):Prop where
 cj:∀o b,p o=false->g.cj o=some b->g'.cj o=some b
 arr:∀o e x,p o=false->g.arr o e=some x->g'.arr o e=some x
 bz:∀b,g.bz b->g'.bz b
variable {p:Nat->Bool}{g:Gh}{w:World}{v:V S}{o b:Nat}{s:bq S}{fr:bV S}{a:Act}{sh:Sh}{bs ow:List Nat}{al:List (Nat×Nat)}
def aJ.on{g':Gh}{w':World}(hg:ajP p g g')(hk:tQ g.bz w w'){t:T}{v:Value}(h:aJ g w t v)(hm:er p t=false):aJ g' w' t v:=by
 induction h with
 |sym d v hd=>exact .sym d v (hd.mono hk hg.bz)
 |kb b=>exact .kb b
 |kn k n=>exact .kn k n
 |ptr o off b h=>exact .ptr o off b (hg.cj _ _ hm h)
 |mV d off ad val hi hc hd=>exact .mV d off ad val (hg.bz _ hi) (λj c hj=>by rw[hk.cell (by rw[kZ];exact hi)];exact hc j c hj) (λj c hj=>(hd j c hj).mono hk hg.bz)
 |kL o e i off len cap sz ad h=>exact .kL o e i off len cap sz ad (hg.arr _ _ _ hm h)
 |sh o e len cap sz a h=>exact .sh o e len cap sz a (hg.arr _ _ _ hm h)
 |emp a=>exact .emp a
 |jI k es a hn hd=>exact .jI k es a hn (hd.mono hk hg.bz)
 |fn f fs cs va vc hl hm' _ _ ih Tj=>simp only[er,wA]at hm;exact .fn f fs cs va vc hl hm' (λj t v h1 h2=>ih j t v h1 h2 (m9 hm.1 t (gW h1))) (λj t v h1 h2=>Tj j t v h1 h2 (m9 hm.2 t (gW h1)))
 |cR t x v _ ih=>exact .cR t x v (ih hm)
 |agg cs vs hl _ ih=>exact .agg cs vs hl (λj t v h1 h2=>ih j t v h1 h2 (m9 hm t (gW h1)))
 |gq cs vs hl _ ih=>exact .gq cs vs hl (λj t v h1 h2=>ih j t v h1 h2 (m9 hm t (gW h1)))
 |gd c t v _ ih=>exact .gd c t v (λhc=>ih hc hm)
 |mp o b h=>exact .mp o b (hg.cj _ _ hm h)
 |rZ o b h=>exact .rZ o b (hg.cj _ _ hm h)
 |rY o b h=>exact .rY o b (hg.cj _ _ hm h)
 |ub e b h=>exact .ub e b h
 |qF o m r i len cap sz a h=>simp only[er,wA]at hm;exact .qF o m r i len cap sz a (hg.arr _ _ _ hm.2 h)
 |n9 j d c a hj hd=>exact .n9 j d c a hj (hd.mono hk hg.bz)
def Gh.base(g:Gh)(p:Nat->Bool):Gh:={g with cj:=λo=>if p o=false then g.cj o else none,arr:=λo e=>if p o=false then g.arr o e else none}
def Gh.lW(g:Gh)(p:Nat->Bool):ajP p g (g.base p):=
 ⟨λo b h e=>by simp[Gh.base,h,e],λo e x h k=>by simp[Gh.base,h,k],λ_ h=>h⟩
def Gh.FJ(h:(g.base p).cj o=some b):p o=false∧g.cj o=some b:=by
 simp only[Gh.base]at h;split at h
 .exact ⟨by assumption,h⟩
 .cases h
def Gh.FK{e:Nat}{x:fB}(h:(g.base p).arr o e=some x):p o=false∧g.arr o e=some x:=by
 simp only[Gh.base]at h;split at h
 .exact ⟨by assumption,h⟩
 .cases h
def Gh.mK{k:Nat}(h:bK (g.base p) k b):p k=false∧bK g k b:=by
 obtain⟨h1,h2|⟨e,x,ad,h2,h3⟩⟩:=h
 .exact ⟨(Gh.FJ h2).1,h1,.inl (Gh.FJ h2).2⟩
 .exact ⟨(Gh.FK h2).1,h1,.inr ⟨e,x,ad,(Gh.FK h2).2,h3⟩⟩
def bg.base{g:Gh}{w:World}{s s0:St}(hs:bg g s w){p:Nat->Bool}{aH:Nat}(hp:∀o,aH<=o->p o=true)(h0:s0.aH=aH)(hn:aH<=s.aH)
  (cB:∀o ob,p o=false->s0.ob.get o=some ob->∃ob1,s.ob.get o=some ob1∧qu (er p) ob1 ob):bg (g.base p) s0 w:=by
 refine⟨h0▸fS hn hs.aH,λo ho=>?_,λo b hb=>?_,λo e x hx=>?_,hs.bz,λo o' b h h'=>hs.mj o o' b (Gh.mK h).2 (Gh.mK h').2⟩
 .have:=hp o (h0▸ho);exact⟨by simp[Gh.base,this],λe=>by simp[Gh.base,this]⟩
 .obtain ⟨hpo,hb'⟩:=Gh.FJ hb;obtain⟨h1,h2,h3⟩:=hs.box o b hb';refine⟨h1,h2,λob ei=>?_⟩;obtain⟨ob1,k1,k2⟩:=cB o ob hpo ei;obtain⟨x,h4,h5⟩:=h3 ob1 k1;exact⟨x,h4,h5.left (λt v ht hm=>ht.on (g.lW p) (λ_ _=>rfl) hm) k2⟩
 .obtain ⟨hpo,hx'⟩:=Gh.FK hx;obtain⟨h1,h2⟩:=hs.arr o e x hx';refine⟨h1,λob ei=>?_⟩;obtain⟨ob1,k1,k2⟩:=cB o ob hpo ei;refine(h2 ob1 k1).left k2 (λh=>h.j5 rfl) (λm j y hm h=>?_) (funext λe'=>by simp only[Gh.base,bL hpo]);have hm:p m=false:=hm;simp only[Gh.base,bL hm];exact h
def od(a:Act):Sh->List Value->Prop
 |[],[]=>True
 |(k,.one _)::l,v::vs=>a.tmps[k]?=some v∧od a l vs
 |(_,.box _)::l,_::vs=>od a l vs
 |(_,.hid _)::l,vs=>od a l vs
 |_,_=>False
def JA{l:List (V S)}{i:Nat}(h:nth l i=some v):(bh l)[i]?=some (low v):=by rw[jx]at h;simp[gi,h]
def oD{g:Gh}{w:World}{fr:bV S}{s:bq S}{a:Act}(hf:cE g (bx fr) a w)(hs:bg g (aF s) w):∀{p:Pt}{v:V S},I2 fr s p=some v->∃u,aJ g w (low v) u
 | .slot k,v,h=>by obtain⟨u,_,hr⟩:=hf.tm k (low v) (by rw[bO,show fr.get k=some v from h];rfl);exact⟨u,hr⟩
 | .cell p i,v,h=>by
  simp only[I2]at h;split at h
  .rename_i o hp;obtain⟨u,hu⟩:=oD hf hs hp;split at h
   .rename_i cs ho;cases hu with
    |ptr _ _ b hb=>
     obtain⟨vs,ty,hh,hl,hr⟩:=(hs.box o b hb).box (by rw[aV,ho];rfl);have h1:=JA h;have h2:i<vs.size:=by rw[<-hl];exact(tW.1 h1).1
     exact⟨vs[i],hr i _ _ h1 (oN h2)⟩
   .cases h
  .cases h
 | .cap p i,v,h=>by
  simp only[I2]at h;split at h
  .rename_i f fs cs hp;obtain⟨u,hu⟩:=oD hf hs hp;cases hu with
   |fn _ _ _ va vc hl hm h1 h2=>
    have k1:=JA h;have k2:i<vc.size:=by rw[<-hm];exact(tW.1 k1).1
    exact⟨vc[i],h2 i _ _ k1 (oN k2)⟩
  .cases h
 | .rnd p k,v,h=>by
  simp only[I2]at h;split at h
  .rename_i o hp;obtain⟨u,hu⟩:=oD hf hs hp;split at h
   .rename_i l ho;cases hu with
    |rZ _ b hb=>
     obtain⟨x,hh,hr⟩:=(hs.box o b hb).2.2 _ (by rw[aV,ho];rfl);cases hr with
     |lp _ r h1 h2 h4 h5 h6 h8 h9=>
      obtain⟨u,_,hu⟩:=h9 k (low v) (by
       show(bx l.fr).get k=_;rw[bO,h];rfl)
      exact⟨u,hu⟩
   .cases h
  .cases h
def uC{g:Gh}{w:World}{fr:bV S}{s:bq S}{a:Act}(hf:cE g (bx fr) a w)(hs:bg g (aF s) w):∀{sh:Sh}{ps:List Pt}{bs:List Nat},rD fr s sh ps=some bs->∃bl,PW (λo b=>g.cj o=some b) bs bl
 |[],[],bs,h=>by simp only[rD,bf]at h;subst h;exact⟨[],rfl,λj t v h=>by simp at h⟩
 |(k,.one c)::l,ps,bs,h=>uC hf hs (sh:=l) (ps:=ps) (by simpa only[rD]using h)
 |(_,.box k)::l,p::ps,bs,h=>by
  simp only[rD]at h;split at h
  .rename_i v hv;split at h
   .rename_i o r h1 h2;simp only[bf]at h;subst h;obtain rfl:=JI h1;obtain⟨u,hu⟩:=oD hf hs hv;obtain⟨b,hb,_⟩:=EH hu;obtain⟨bl,h3⟩:=uC hf hs h2;refine⟨b::bl,by simp[h3.1],λj o' b' k1 k2=>?_⟩;cases j with|zero=>simp at k1 k2;subst k1;subst k2;exact hb|succ j=>exact h3.2 j o' b' (by simpa using k1) (by simpa using k2)
   .cases h
  .cases h
 |(_,.hid k)::l,p::ps,bs,h=>by
  simp only[rD]at h;split at h
  .rename_i v hv;split at h
   .rename_i o r h1 h2;simp only[bf]at h;subst h;obtain rfl:=JI h1;obtain⟨u,hu⟩:=oD hf hs hv;obtain⟨b,hb,_⟩:=EH hu;obtain⟨bl,h3⟩:=uC hf hs h2;refine⟨b::bl,by simp[h3.1],λj o' b' k1 k2=>?_⟩;cases j with|zero=>simp at k1 k2;subst k1;subst k2;exact hb|succ j=>exact h3.2 j o' b' (by simpa using k1) (by simpa using k2)
   .cases h
  .cases h
 |[],_::_,_,h=>by simp[rD]at h
 |(_,.box _)::_,[],_,h=>by simp[rD]at h
 |(_,.hid _)::_,[],_,h=>by simp[rD]at h
def Db{g:Gh}{w:World}{fr:bV S}{a:Act}(hf:cE g (bx fr) a w):∀{sh:Sh}{bs bl:List Nat}{vs:List (V S)},tV fr sh bs=some vs->PW (λo b=>g.cj o=some b) bs bl->∃vals,od a sh vals∧PW (aJ g w) (bh vs) vals
 |[],[],bl,vs,h,_=>by simp only[tV,bf]at h;subst h;exact⟨[],trivial,rfl,λj t v h=>by simp[bh]at h⟩
 |(k,.one c)::l,bs,bl,vs,h,hb=>by
  simp only[tV]at h;split at h
  .rename_i v r h1 h2;simp only[bf]at h;subst h;obtain⟨vals,h3,h4⟩:=Db hf h2 hb;obtain⟨u,hu,hr⟩:=hf.tm k (low v) (by rw[bO,h1];rfl);refine⟨u::vals,⟨hu,h3⟩,by simp only[bh,fI,h4.1],λj t v' k1 k2=>?_⟩;cases j with|zero=>simp[bh]at k1 k2;subst k1;subst k2;exact hr|succ j=>exact h4.2 j t v' (by simpa[bh]using k1) (by simpa using k2)
  .cases h
 |(_,.box k)::l,o::bs,b::bl,vs,h,hb=>by
  simp only[tV]at h;split at h
  .rename_i r h2;simp only[bf]at h;subst h;have cB:g.cj o=some b:=hb.2 0 _ _ rfl rfl;obtain⟨vals,h3,h4⟩:=Db hf h2 (bl:=bl) ⟨by simpa using hb.1,λj o' b' k1 k2=>hb.2 (j+1) o' b' (by simpa using k1) (by simpa using k2)⟩;refine⟨JH k b::vals,h3,by simp only[bh,fI,h4.1],λj t v' k1 k2=>?_⟩;cases j with|zero=>simp[bh]at k1 k2;subst k1;subst k2;exact Mx cB|succ j=>exact h4.2 j t v' (by simpa[bh]using k1) (by simpa using k2)
  .cases h
 |(_,.box k)::l,o::bs,[],vs,h,hb=>absurd hb.1 (by simp)
 |(_,.hid k)::l,o::bs,b::bl,vs,h,hb=>by simp only[tV]at h;obtain⟨vals,h3,h4⟩:=Db hf h (bl:=bl) ⟨by simpa using hb.1,λj o' b' k1 k2=>hb.2 (j+1) o' b' (by simpa using k1) (by simpa using k2)⟩;exact⟨vals,h3,h4⟩
 |(_,.hid k)::l,o::bs,[],vs,h,hb=>absurd hb.1 (by simp)
 |[],_::_,_,_,h,_=>by simp[tV]at h
 |(_,.box _)::_,[],_,_,h,_=>by simp[tV]at h
 |(_,.hid _)::_,[],_,_,h,_=>by simp[tV]at h
structure IT(sh:Sh)(bs:List Nat)(a:Act)(g:Gh)(s:bq S)(w:World)(x:fW S.A (lz sh))(s2:bq S)(ow:List Nat)(g2:Gh)(vals:List Value)(al:List fB)(bl:List Nat):Prop where
 rel:bg g2 (aF s2) w
 ext:Ext s.fl g w g2 w
 pr:pK S g2.bz w (lz sh) x vals al bl
 at_:od a sh vals
 alr:AL g2 al ow
 Zf:PW (λo b=>g2.cj o=some b) bs bl
 now:ow.Nodup
 owp:∀o∈ow,s.fl<=o∧s.lo<=o∧o<s.aH
 nbs:bs.Nodup
 XF:∀o∈bs,s.fl<=o∧o<s.aH∧o∉ow∧∀e,g2.arr o e=none
 fl:s2.fl=s.fl
 lo:s2.lo=s.lo
 aH:s2.aH=s.aH
 vS:∀o∈s.wr,o∈s2.wr
 same:∀o,o∉s2.wr->s2.ob.get o=s.ob.get o
 dr:s2.dr=s.dr
 ap:vQ al
 owb:∀o∈ow,g.cj o=none
def nW(hS:fy S){s2:bq S}(hf:cE g (bx fr) a w)(hs:bg g (aF s) w){x:fW S.A (lz sh)}{bl0:List Nat}(Tw:PW (λo b=>g.cj o=some b) bs bl0)(h:sx sh bs fr s=some (x,s2,ow)) :
  ∃g2 vals al bl,IT sh bs a g s w x s2 ow g2 vals al bl:=by
 unfold sx at h;split at h
 .cases h
 rename_i vs hvs;split at h
 .cases h
 rename_i x' fz Uw bs' hpk;split at h
 .cases h
 rename_i s1 hfz;rcases af h with⟨hb,h2⟩|⟨_,h2⟩;rotate_left
 .cases h2
 clear h;simp only[eE]at hb;simp only[bf,bB]at h2;obtain⟨rfl,rfl,rfl⟩:=h2;obtain⟨vals,lE,dc⟩:=Db hf hvs Tw;have sN:=mA hb.1;have hap:=yD hb.2.1;have aar:=mA hb.2.2.1;have EX:bs'=bs:=by
  have h1:bs'.length=bs.length:=by have:=beq_iff'.1 hb.2.2.2.1;rwa [bH,bH]at this
  have h2:=hb.2.2.2.2;clear hb hpk aar hvs Tw
  induction bs' generalizing bs with
  |nil=>cases bs with|nil=>rfl|cons=>simp at h1
  |cons c cs ih=>cases bs with|nil=>simp at h1|cons d ds=>simp only[List.zip_cons_cons,Ed,eE]at h2;rw[beq_iff'.1 h2.1,ih (by simpa using h1) h2.2]
 subst EX;obtain⟨p1,p2,p4,p3⟩:=jP hS hs hpk dc (λo ho=>by cases ho);have hfl:=de hS _ hfz;obtain⟨g1,fq,pT,hfr⟩:=en fz hs hfl p1;obtain⟨f1,f2,f3,f4,f5,f6,f7⟩:=ew hfz;obtain⟨al,bl,xe,hal,qf⟩:=p3 g1 (aF s1) fz fq pT hfr (λo ho=>ho) (λo ho=>by rw[aV,aV,f6 o (hap o ho)]);have Ru:∀o∈bs',∃ob,s1.ob.get o=some ob∧s.ob.get o=some ob∧sv ob=true:=by
  intro o ho;obtain⟨_,vs',hvs,qS⟩:=p4 o ho;have hnf:o∉fz:=λhm=>by have:=(p1 o hm).oY (by rw[aV,hvs];rfl);rw[m7 qS]at this;cases this
  exact⟨vs',by rw[f6 o hnf];exact hvs,hvs,qS⟩
 have o3:∀o∈bs',∃b,g1.cj o=some b:=by
  intro o ho;obtain⟨j,hj,rfl⟩:=uw ho;have hj':j<bl.length:=by have:=qf.1;omega
  exact⟨bl[j],qf.2 j _ _ (gm hj) (gm hj')⟩
 refine⟨g1,vals,al,bl,fq,pT,xe,lE,hal,qf,sN,λo ho=>⟨(p2 o ho).1,(p2 o ho).2.1,(p2 o ho).2.2.1⟩,aar,λo ho=>?_,f1,f2,f3,f4,f5,f7,hal.apart fq sN xe.iM,λo ho=>?_⟩;rotate_left
 .obtain ⟨_,_,_,oba,hx,hB⟩:=p2 o ho;exact hs.zx ((aV s o).trans (by rw[hx];rfl)) (s8 hB)
 obtain⟨vs',Dm,OQ,qS⟩:=Ru o ho;refine⟨(p4 o ho).1,?_,λhm=>?_,λe=>?_⟩
 .obtain ⟨b,hb⟩:=o3 o ho;have:=fq.lt hb;have e1:(aF s1).aH=s1.aH:=rfl;omega
 .obtain ⟨_,_,_,oba,hx,hB⟩:=p2 o hm;rw[OQ]at hx;cases hx;have:=s8 hB;rw[m7 qS]at this;cases this
 .cases hx:g1.arr o e with|none=>rfl|some x'=>exfalso;obtain⟨_,h2⟩:=fq.arr o e x' hx;exact Mi qS (h2 _ (by rw[aV,Dm];rfl))
def anD:Pk->Bool|.one _=>false|_=>true
structure Ak(ex:List Nat)(sh:Sh)(bs:List Nat)(a:Act)(gb:Gh)(jF:bV S)(s0:bq S)(w:World)(al:List fB)(gh:Gh)(mE:bV S)(iV:bq S):Prop where
 rel:bg gh (aF iV) w
 fr:cE gh (bx mE) a w
 le:oh gb gh
 bz:gh.bz=gb.bz
 own:∀k b,bK gh k b->bK gb k b∨(s0.aH<=k∧∃a∈al,a.at b)
 fl:iV.fl=s0.fl
 lo:iV.lo=s0.lo
 aH:s0.aH<=iV.aH
 wr:iV.wr=s0.wr
 dr:iV.dr=s0.dr
 ob:∀o,o<s0.aH->o∉bs->iV.ob.get o=s0.ob.get o
 cj:gh.cj=gb.cj
 arr:∀o,o<s0.aH->∀e,gh.arr o e=gb.arr o e
 n:mE.n=jF.n
 Kb:mE.df=jF.df
 get:∀k,k∉ex->(∀p∈sh,p.1=k->anD p.2=true)->mE.get k=jF.get k
def MM:∀{sh:Sh}{bs:List Nat}{x:fW S.A (lz sh)}{vals:List Value}{al:List fB}{bl:List Nat}{gb:Gh}{jF mE:bV S}{s0 iV:bq S},kT sh bs x jF s0=some (mE,iV)->jF.n<=bA->
  pK S gb.bz w (lz sh) x vals al bl->od a sh vals->PW (λo b=>gb.cj o=some b) bs bl->(∀o∈bs,∀e,gb.arr o e=none)->(∀a∈al,∀b,a.at b->∀o,¬bK gb o b)->vQ al->cE gb (bx jF) a w->bg gb (aF s0) w->
  ∃gh,Ak [] sh bs a gb jF s0 w al gh mE iV:=by
 intro sh
 induction sh with
 |nil=>
  intro bs x vals al bl gb jF mE s0 iV h hn hp lE qf hna hfr hap hf hs;cases bs with
  |nil=>simp only[kT,bf,bB]at h;obtain⟨rfl,rfl⟩:=h;exact⟨gb,hs,hf,oh.refl _,rfl,λ_ _ h=>.inl h,rfl,rfl,bT _,rfl,rfl,λ_ _ _=>rfl,rfl,λ_ _ _=>rfl,rfl,rfl,λ_ _ _=>rfl⟩
  |cons o bs=>simp[kT]at h
 |cons q sh ih=>
  intro bs x vals al bl gb jF mE s0 iV h hn hp lE qf hna hfr hap hf hs;obtain⟨k,pk⟩:=q;cases pk with
  |one c=>
   cases hp with
   | @one _ _ x1 xr v vs vC wk bl h1 h2=>
   obtain⟨hv,lE⟩:=lE;simp only[kT]at h;rcases af h with⟨hb,h⟩|⟨_,h⟩;rotate_left
   .cases h
   simp only[eE]at hb;have hk:k<jF.n:=fQ hb.1;have hnb:(uh s0 c x1).2.aH<=bA:=fQ hb.2;have jD:=so.1 hap;obtain⟨g1,hu,dc⟩:=mo (cs:=[c]) (x:=(x1,())) h1 hs (λa ha=>hfr a (eJ _ ha)) jD.1 (by simpa[gH]using hnb);have e1:(gH s0 [c] (x1,())).1=[(uh s0 c x1).1]:=rfl;have e2:(gH s0 [c] (x1,())).2=(uh s0 c x1).2:=rfl;rw[e1]at dc;rw[e2]at hu;have Dm:aJ g1 w (low (uh s0 c x1).1) v:=dc.2 0 _ _ rfl rfl;have JX:cE g1 (bx (jF.put k (uh s0 c x1).1)) a w:=by
    refine⟨hf.size,hf.df.imp (λ_ _ ht=>ht.le hu.le) hu.le.cj,λj t hj=>?_⟩;rw[bO,bV.iR _ _ _ _ (dy hk hn)]at hj;by_cases Cg:j=k
    .subst Cg;rw[bL rfl]at hj;simp only[dX,bf]at hj;subst hj;exact⟨v,hv,Dm⟩
    .rw[bw Cg]at hj;obtain⟨u,Gy,hr⟩:=hf.tm j t (by rw[bO];exact hj);exact⟨u,Gy,hr.le hu.le⟩
   obtain⟨gh,hh⟩:=ih (gb:=g1) h (by simpa[bV.put]using hn) (hu.bz▸h2) lE (by rw[hu.cj];exact qf) (λo ho e=>by
     have hol:o<s0.aH:=by
      obtain⟨j,hj,rfl⟩:=uw ho;have hj':j<bl.length:=by have:=qf.1;omega
      exact hs.lt (qf.2 j _ _ (gm hj) (gm hj'))
     rw[hu.arr o hol];exact hna o ho e) (λa ha b hb o hO=>by
     rcases hu.own o b hO with hO|⟨_,a2,J0,fM⟩
     .exact hfr a (iW _ ha) b hb o hO
     .exact jD.2.2 a2 J0 a ha b fM hb) jD.2.1 JX hu.rel
   refine⟨gh,hh.rel,hh.fr,hu.le.trans hh.le,hh.bz.trans hu.bz,λk' b hO=>?_,hh.fl.trans hu.fl,hh.lo.trans hu.lo,fS hu.aH hh.aH,hh.wr.trans hu.wr,hh.dr.trans hu.dr,λo ho hno=>?_,hh.cj.trans hu.cj,λo ho e=>?_,hh.n,hh.Kb,λj hex hj=>?_⟩
   .rcases hh.own k' b hO with hO|⟨k1,a',k2,k3⟩
    .rcases hu.own k' b hO with hO|⟨k1,a',k2,k3⟩
     .exact .inl hO
     .exact .inr ⟨k1,a',eJ _ k2,k3⟩
    .exact .inr ⟨fS hu.aH k1,a',iW _ k2,k3⟩
   .rw[hh.ob o (dy ho hu.aH) hno];exact hu.ob o ho
   .rw[hh.arr o (dy ho hu.aH)];exact hu.arr o ho e
   .rw[hh.get j hex (λp hp=>hj p (gL _ hp)),bV.iR _ _ _ _ (dy hk hn),bw];intro Cg;cases hj (k,.one c) eC Cg.symm
  |box kd=>
   cases hp with
   | @box _ _ x1 xr b hx vs vC wk bl hhp h1 h2=>
   cases bs with
   |nil=>exact absurd qf.1 (by simp)
   |cons o bs=>
   simp only[kT]at h;rcases af h with⟨hb,h⟩|⟨_,h⟩;rotate_left
   .cases h
   have hnb:(gC s0 (dF bs) kd x1).2.aH<=bA:=fQ hb;have jD:=so.1 hap;have cB:gb.cj o=some b:=qf.2 0 _ _ rfl rfl;obtain⟨g1,hu,EV⟩:=om h1 (zI (bs:=bs) (bl:=bl) ⟨by simpa using qf.1,λj a c k1 k2=>qf.2 (j+1) a c (by simpa using k1) (by simpa using k2)⟩) hs (λa ha=>hfr a (eJ _ ha)) jD.1 hnb;have hol:o<s0.aH:=hs.lt cB;have hk:=hu.rel.sJ (o:=o) (b:=b) (by rw[hu.cj];exact cB) hhp EV (λe=>by rw[hu.arr o hol];exact hna o (by simp) e);have hk2:bg g1 (aF {(gC s0 (dF bs) kd x1).2 with ob:=(gC s0 (dF bs) kd x1).2.ob.set aI o (gC s0 (dF bs) kd x1).1}) w:=by have:=eZ (gC s0 (dF bs) kd x1).2 o (gC s0 (dF bs) kd x1).1 (gC s0 (dF bs) kd x1).2.wr;rw[show({(gC s0 (dF bs) kd x1).2 with ob:=(gC s0 (dF bs) kd x1).2.ob.set aI o (gC s0 (dF bs) kd x1).1}:bq S)={(gC s0 (dF bs) kd x1).2 with ob:=(gC s0 (dF bs) kd x1).2.ob.set aI o (gC s0 (dF bs) kd x1).1,wr:=(gC s0 (dF bs) kd x1).2.wr}from rfl,this];exact hk
   have JX:cE g1 (bx jF) a w:=⟨hf.size,hf.df.imp (λ_ _ ht=>ht.le hu.le) hu.le.cj,λj t hj=>by
    obtain⟨u,Gy,hr⟩:=hf.tm j t hj;exact⟨u,Gy,hr.le hu.le⟩⟩
   obtain⟨gh,hh⟩:=ih (bs:=bs) (bl:=bl) (gb:=g1) h hn (hu.bz▸h2) lE ⟨by simpa using qf.1,λj a' c k1 k2=>by rw[hu.cj];exact qf.2 (j+1) a' c (by simpa using k1) (by simpa using k2)⟩
    (λo' ho' e=>by
     have adU:o'<s0.aH:=by
      obtain⟨j,hj,rfl⟩:=uw ho';have hj':j<bl.length:=by have:=qf.1;simp at this;omega
      exact hs.lt (qf.2 (j+1) bs[j] bl[j] (by simp[hj]) (by simp[hj']))
     rw[hu.arr o' adU];exact hna o' (by simp[ho']) e) (λa ha b hb o hO=>by
     rcases hu.own o b hO with hO|⟨_,a2,J0,fM⟩
     .exact hfr a (iW _ ha) b hb o hO
     .exact jD.2.2 a2 J0 a ha b fM hb) jD.2.1 JX hk2
   refine⟨gh,hh.rel,hh.fr,hu.le.trans hh.le,hh.bz.trans hu.bz,λk' b hO=>?_,hh.fl.trans hu.fl,hh.lo.trans hu.lo,fS hu.aH hh.aH,hh.wr.trans hu.wr,hh.dr.trans hu.dr,λo' ho' hno=>?_,hh.cj.trans hu.cj,λo' ho' e=>?_,hh.n,hh.Kb,λj hex hj=>?_⟩
   .rcases hh.own k' b hO with hO|⟨k1,a',k2,k3⟩
    .rcases hu.own k' b hO with hO|⟨k1,a',k2,k3⟩
     .exact .inl hO
     .exact .inr ⟨k1,a',eJ _ k2,k3⟩
    .exact .inr ⟨fS hu.aH k1,a',iW _ k2,k3⟩
   .have hne:o'≠o:=λe=>hno (by rw[e];exact eC);rw[hh.ob o' (dy ho' hu.aH) (λhm=>hno (gL _ hm))];simp only;rw[Tr.dh _ _ _ _ _ hne];exact hu.ob o' ho'
   .rw[hh.arr o' (dy ho' hu.aH)];exact hu.arr o' ho' e
   .exact hh.get j hex (λp hp=>hj p (gL _ hp))
  |hid kd=>
   cases hp with
   | @hid _ _ x1 xr b hx vs vC wk bl hhp h1 h2=>
   cases bs with
   |nil=>exact absurd qf.1 (by simp)
   |cons o bs=>
   simp only[kT]at h;rcases af h with⟨hb,h⟩|⟨_,h⟩;rotate_left
   .cases h
   have hnb:(gC s0 (dF bs) kd x1).2.aH<=bA:=fQ hb;have jD:=so.1 hap;have cB:gb.cj o=some b:=qf.2 0 _ _ rfl rfl;obtain⟨g1,hu,EV⟩:=om h1 (zI (bs:=bs) (bl:=bl) ⟨by simpa using qf.1,λj a c k1 k2=>qf.2 (j+1) a c (by simpa using k1) (by simpa using k2)⟩) hs (λa ha=>hfr a (eJ _ ha)) jD.1 hnb;have hol:o<s0.aH:=hs.lt cB;have hk:=hu.rel.sJ (o:=o) (b:=b) (by rw[hu.cj];exact cB) hhp EV (λe=>by rw[hu.arr o hol];exact hna o (by simp) e);have hk2:bg g1 (aF {(gC s0 (dF bs) kd x1).2 with ob:=(gC s0 (dF bs) kd x1).2.ob.set aI o (gC s0 (dF bs) kd x1).1}) w:=by have:=eZ (gC s0 (dF bs) kd x1).2 o (gC s0 (dF bs) kd x1).1 (gC s0 (dF bs) kd x1).2.wr;rw[show({(gC s0 (dF bs) kd x1).2 with ob:=(gC s0 (dF bs) kd x1).2.ob.set aI o (gC s0 (dF bs) kd x1).1}:bq S)={(gC s0 (dF bs) kd x1).2 with ob:=(gC s0 (dF bs) kd x1).2.ob.set aI o (gC s0 (dF bs) kd x1).1,wr:=(gC s0 (dF bs) kd x1).2.wr}from rfl,this];exact hk
   have JX:cE g1 (bx jF) a w:=⟨hf.size,hf.df.imp (λ_ _ ht=>ht.le hu.le) hu.le.cj,λj t hj=>by
    obtain⟨u,Gy,hr⟩:=hf.tm j t hj;exact⟨u,Gy,hr.le hu.le⟩⟩
   obtain⟨gh,hh⟩:=ih (bs:=bs) (bl:=bl) (gb:=g1) h hn (hu.bz▸h2) lE ⟨by simpa using qf.1,λj a' c k1 k2=>by rw[hu.cj];exact qf.2 (j+1) a' c (by simpa using k1) (by simpa using k2)⟩
    (λo' ho' e=>by
     have adU:o'<s0.aH:=by
      obtain⟨j,hj,rfl⟩:=uw ho';have hj':j<bl.length:=by have:=qf.1;simp at this;omega
      exact hs.lt (qf.2 (j+1) bs[j] bl[j] (by simp[hj]) (by simp[hj']))
     rw[hu.arr o' adU];exact hna o' (by simp[ho']) e) (λa ha b hb o hO=>by
     rcases hu.own o b hO with hO|⟨_,a2,J0,fM⟩
     .exact hfr a (iW _ ha) b hb o hO
     .exact jD.2.2 a2 J0 a ha b fM hb) jD.2.1 JX hk2
   refine⟨gh,hh.rel,hh.fr,hu.le.trans hh.le,hh.bz.trans hu.bz,λk' b hO=>?_,hh.fl.trans hu.fl,hh.lo.trans hu.lo,fS hu.aH hh.aH,hh.wr.trans hu.wr,hh.dr.trans hu.dr,λo' ho' hno=>?_,hh.cj.trans hu.cj,λo' ho' e=>?_,hh.n,hh.Kb,λj hex hj=>?_⟩
   .rcases hh.own k' b hO with hO|⟨k1,a',k2,k3⟩
    .rcases hu.own k' b hO with hO|⟨k1,a',k2,k3⟩
     .exact .inl hO
     .exact .inr ⟨k1,a',eJ _ k2,k3⟩
    .exact .inr ⟨fS hu.aH k1,a',iW _ k2,k3⟩
   .have hne:o'≠o:=λe=>hno (by rw[e];exact eC);rw[hh.ob o' (dy ho' hu.aH) (λhm=>hno (gL _ hm))];simp only;rw[Tr.dh _ _ _ _ _ hne];exact hu.ob o' ho'
   .rw[hh.arr o' (dy ho' hu.aH)];exact hu.arr o' ho' e
   .exact hh.get j hex (λp hp=>hj p (gL _ hp))
def U0(a:Act)(w:World)(c:Nat):Option Value:=bif Nat.blt c 1000000 then a.tmps[c]? else match a.tmps[Nat.div (Nat.sub c 1000000) 1000]? with
 |some (.pointer (some ad))=>match w.heap[ad.block]? with
  |some (.cells vs _ _)=>vs[Nat.mod (Nat.sub c 1000000) 1000]?
  |_=>none
 |_=>none
def DI(hf:cE g (bx fr) a w)(hs:bg g (aF s) w){c:Nat}(h:UZ fr s c=some v):∃u,U0 a w c=some u∧aJ g w (low v) u:=by
 unfold UZ at h;unfold U0;cases hc:Nat.blt c 1000000 with
 |true=>rw[hc,dM]at h;obtain⟨u,hu,hr⟩:=hf.tm c (low v) (by rw[bO,h];rfl);exact⟨u,hu,hr⟩
 |false=>
  rw[hc,gE]at h;split at h
  .rename_i o hk;split at h
   .rename_i cs ho;obtain⟨u,hu,hr⟩:=hf.tm _ (low (.ptr o 0)) (by rw[bO,hk];rfl);simp only[low]at hr;cases hr with
    |ptr _ _ b hb=>
    obtain⟨vs,ty,hh,hl,hall⟩:=(hs.box o b hb).box (cs:=bh cs) (by rw[aV,ho];rfl);have h1:=JA h;have h2:∃x,vs[Nat.mod (Nat.sub c 1000000) 1000]?=some x:=by have:=(tW.1 h1).1;exact⟨_,oN (by omega)⟩
    obtain⟨x,hx⟩:=h2;exact⟨x,by simp only[gE,hu,hh,hx],hall _ _ _ h1 hx⟩
   .cases h
  .cases h
def YS(a:Act)(w:World)(al:List (Nat×Nat)):Prop:=∀p∈al,a.tmps[p.1]?=U0 a w p.2
def kR{g:Gh}{w:World}{a:Act}{s:bq S}(hs:bg g (aF s) w):∀{al:List (Nat×Nat)}{fr:bV S},(∀p∈al,p.1<bA)->YS a w al->cE g (bx fr) a w->
  cE g (bx (lJ s al fr)) a w∧(lJ s al fr).n=fr.n∧(lJ s al fr).df=fr.df∧∀k,k∉al.map (·.1)->(lJ s al fr).get k=fr.get k
 |[],fr,_,_,hf=>⟨hf,rfl,rfl,λ_ _=>rfl⟩
 |p::al,fr,hb,ha,hf=>by
  have n5:=hb p eC;have ha1:=ha p eC;simp only[lJ];cases hg:UZ fr s p.2 with
  |none=>obtain⟨h1,h2,h3,h4⟩:=kR hs (fr:=fr) (λq hq=>hb q (gL _ hq)) (λq hq=>ha q (gL _ hq)) hf;exact⟨h1,h2,h3,λk hk=>h4 k λhm=>hk (gL _ hm)⟩
  |some v=>
   have JX:cE g (bx (fr.put p.1 v)) a w:=by
    refine⟨hf.size,hf.df,λj t hj=>?_⟩;rw[bO,bV.iR _ _ _ _ n5]at hj;by_cases Cg:j=p.1
    .rw[bL Cg]at hj;simp only[dX,bf]at hj;subst hj;obtain⟨u,hu,hr⟩:=DI hf hs hg;exact⟨u,by rw[Cg,ha1];exact hu,hr⟩
    .rw[bw Cg]at hj;exact hf.tm j t (by rw[bO];exact hj)
   obtain⟨h1,h2,h3,h4⟩:=kR hs (fr:=fr.put p.1 v) (λq hq=>hb q (gL _ hq)) (λq hq=>ha q (gL _ hq)) JX;refine⟨h1,h2,h3,λk hk=>?_⟩;simp only[lZ,fc,not_or]at hk;rw[h4 k hk.2,bV.iR _ _ _ _ n5,bw hk.1]
def Ak.lJ{sh:Sh}{bs:List Nat}{a:Act}{gb:Gh}{jF mE:bV S}{s0 iV:bq S}{w:World}{als:List fB}{gh:Gh}(h:Ak [] sh bs a gb jF s0 w als gh mE iV){al:List (Nat×Nat)}(hb:∀p∈al,p.1<bA)(ha:YS a w al) :
  Ak (al.map (·.1)) sh bs a gb jF s0 w als gh (TL.lJ iV al mE) iV:=by
 obtain⟨h1,h2,h3,h4⟩:=kR h.rel hb ha h.fr;exact⟨h.rel,h1,h.le,h.bz,h.own,h.fl,h.lo,h.aH,h.wr,h.dr,h.ob,h.cj,h.arr,h2.trans h.n,h3.trans h.Kb,λk hk hp=>(h4 k hk).trans (h.get k (by simp) hp)⟩
def wj(hf:cE g (bx fr) a w)(hs:bg g (aF s) w)(h:T8 fr s al=true):YS a w al:=by
 intro p hp;unfold T8 at h;rw[gr]at h;have h1:=h p hp;split at h1
 .rename_i o r o' r' e1 e2;rw[eE]at h1;obtain rfl:=beq_iff'.1 h1.1;obtain rfl:=beq_iff'.1 h1.2;obtain⟨u1,j6,KW⟩:=hf.tm p.1 (low (.sh o r)) (by rw[bO,e1];rfl);obtain⟨u2,EU,hr2⟩:=DI hf hs e2;simp only[low]at KW hr2;cases KW with
  |sh _ _ len cap sz x hx=>
  cases hr2 with|sh _ _ len' cap' sz' x' hx'=>rw[hx]at hx';cases hx';rw[j6,EU]
 .cases h1
def NC(h:abg fr ow al=true){p:Nat×Nat}(hp:p∈al)(hv:fr.get p.1=some v):∃o r,v=.sh o r∧o∈ow:=by
 unfold abg at h;rw[gr]at h;have h1:=h p hp;rw[hv]at h1;split at h1
 .rename_i o r e;cases e;exact⟨o,r,rfl,by simpa using h1⟩
 .cases h1
end
section
inductive Qm(g:Gh)(w:World):xC S->Exit->Prop where
 |pR:Qm g w .pR .normal
 |ext (i:Nat):Qm g w (.ext i) (.exit i)
 |ret:Qm g w .ret .ret
 |dm (t:V S) (v:Value) (h:aJ g w (low t) v):Qm g w (.dm t) (.panic [{v,recovered:=false}])
def KZ(ds:List Nat)(fr:bV S)(s:bq S)(g:Gh)(w:World){ω:Type}(Q:xC S->bV S->bq S->Option ω)(r:ω)(e:Exit)(a:Act)(w':World):Prop:=
 False∨∃ex fr' s' g',Qm g' w' ex e∧Q ex fr' s'=some r∧fr'.n=fr.n∧cE g' (bx fr') a w'∧fA s g w s' g' w'∧eK ds fr fr' s'.dr s.aH
variable {ds' bl ex bl1:List Nat}{g1:Gh}{e:Exit}{w':World}{aH o:Nat}{p:Nat->Bool}{v:V S}{jF:bV S}{vals HD:List Value}{al vC:List fB}{xJ:Sh}
def KZ.mono{ds:List Nat}{fr qi:bV S}{s s1:bq S}{g:Gh}{w w1:World}{ω:Type}{Q:xC S->bV S->bq S->Option ω}{r:ω}{a:Act}(hn:qi.n=fr.n)(bX:fA s g w s1 g1 w1)(hf:eK ds fr qi s1.dr s.aH)
  (h:KZ ds' qi s1 g1 w1 Q r e a w'):KZ (ds++ds') fr s g w Q r e a w':=by
 rcases h with h|⟨ex,fr',s',g',h1,h2,h3,h4,h5,h6⟩
 .exact .inl h
 .exact .inr ⟨ex,fr',s',g',h1,h2,h3.trans hn,h4,bX.trans h5,hf.trans h6 h5.Hp bX.aH⟩
def KZ.ds{ds ds':List Nat}{fr:bV S}{s:bq S}{g:Gh}{w:World}{ω:Type}{Q:xC S->bV S->bq S->Option ω}{r:ω}{e:Exit}{a:Act}{w':World}(hd:∀k∈ds,k∈ds')(h:KZ ds fr s g w Q r e a w'):KZ ds' fr s g w Q r e a w':=by
 rcases h with h|⟨ex,fr',s',g',h1,h2,h3,h4,h5,h6⟩
 .exact .inl h
 .exact .inr ⟨ex,fr',s',g',h1,h2,h3,h4,h5,h6.mono hd (λ_ h=>h)⟩
def S9(p:Nat->Prop)(h:∃n,p n):∃n,p n∧∀m,p m->n<=m:=by
 obtain⟨n,hn⟩:=h
 induction n using Nat.strongRecOn with
 |_ n ih=>
  by_cases hl:∃m,p m∧m<n
  .obtain ⟨m,hm,hlt⟩:=hl;exact ih m hlt hm
  .exact ⟨n,hn,λm hm=>by
    rcases zm m n with h|h
    .exact absurd ⟨m,hm,h⟩ hl
    .exact h⟩
def Tg{X R B P:Type}{F:X->Option (LO X R B P)}:∀{n:Nat}{x:X}{o:LO X R B P},iter F n x=some o->∃m,n=m+1∧∃o',F x=some o'∧((∃y,o'=.next y∧iter F m y=some o)∨(o'=o∧∀y,o≠.next y))
 |0,_,_,h=>by cases h
 |_+1,x,o,h=>by
  simp only[iter]at h;refine⟨_,rfl,?_⟩;split at h
  .cases h
  .rename_i y hy;exact⟨_,hy,.inl ⟨y,rfl,h⟩⟩
  .rename_i j y hy;simp only[bf]at h;exact⟨_,hy,.inr ⟨h,λy=>by rw[<-h];simp⟩⟩
  .rename_i y z hy;simp only[bf]at h;exact⟨_,hy,.inr ⟨h,λy=>by rw[<-h];simp⟩⟩
  .rename_i y hy;simp only[bf]at h;exact⟨_,hy,.inr ⟨h,λy=>by rw[<-h];simp⟩⟩
def sB{ow:List Nat}(h:eD ow aH o=false):o∉ow∧o<aH:=by
 simp only[eD,wA,zi,LL]at h;refine⟨h.1,?_⟩;rcases zm o aH with hlt|hge
 .exact hlt
 .have:=GO hge;rw[this]at h;exact absurd h.2 (by simp)
def Dg{ow:List Nat}(h1:o∉ow)(h2:o<aH):eD ow aH o=false:=by simp only[eD,wA,zi,LL];refine⟨h1,?_⟩;cases h:Nat.ble aH o with|false=>rfl|true=>have:=fQ h;omega
def S6{q:Nat->Bool}(h:cC p v=true)(hq:cC q v=false):∃o,p o=true∧q o=false:=by
 rcases Classical.em (∃o,p o=true∧q o=false)with h1|h1
 .exact h1
 .have:∀o,p o=true->q o=true:=λo ho=>by cases hqo:q o with|true=>rfl|false=>exact absurd ⟨o,ho,hqo⟩ h1
  rw[ep this v h]at hq;cases hq
structure vO(sh:Sh)(bs:List Nat)(jF:bV S)(s0 s:bq S)(g:Gh)(w:World)(x:fW S.A (lz sh))(a:Act)(gb:Gh)(w':World)(vals:List Value)(al:List fB)(bl:List Nat):Prop where
 rel:bg gb (aF s0) w'
 fr:cE gb (bx jF) a w'
 pr:pK S gb.bz w' (lz sh) x vals al bl
 at_:od a sh vals
 Zf:PW (λo b=>gb.cj o=some b) bs bl
 agH:∀o∈bs,∀e,gb.arr o e=none
 fresh:∀a∈al,∀b,a.at b->∀o,¬bK gb o b
 ap:vQ al
 ext:pW s.lo s.fl g w gb w'
 alo:∀a∈al,∀b,a.at b->(∃o,s.fl<=o∧bK g o b)∨w.heap.size<=b
def vO.head{sh:Sh}{bs:List Nat}{mE:bV S}{s0 s iV:bq S}{g:Gh}{w:World}{x:fW S.A (lz sh)}{a:Act}{gb:Gh}
  (hb:vO sh bs jF s0 s g w x a gb w' vals al bl) (hn:jF.n<=bA) (h:kT sh bs x jF s0=some (mE,iV)) :
  ∃gh,Ak [] sh bs a gb jF s0 w' al gh mE iV∧pW s.lo s.fl g w gh w':=by
 obtain⟨gh,hh⟩:=MM h hn hb.pr hb.at_ hb.Zf hb.agH hb.fresh hb.ap hb.fr hb.rel;refine⟨gh,hh,λo b e=>?_,λo e y hl k=>?_,λb e=>?_,hb.ext.size,hb.ext.heap,λo b ho hO=>?_,λb hi=>?_,hb.ext.os,hb.ext.output⟩
 .exact hh.le.cj o b (hb.ext.cj o b e)
 .exact hh.le.arr o e y (hb.ext.arr o e y hl k)
 .exact hh.le.bz b (hb.ext.bz b e)
 .rcases hh.own o b hO with hO|⟨_,a',Zb,hab⟩
  .exact hb.ext.own o b ho hO
  .exact hb.alo a' Zb b hab
 .rw[hh.bz]at hi;exact hb.ext.uJ b hi
def s4(p:Nat->Bool)(v:V S):tP (er p) (low v) (low (iS p v)):=by cases hm:cC p v with|true=>exact .inr ⟨_,by simp only[iS,hm,dM];rfl⟩|false=>exact .inl ⟨by simp only[iS,hm,gE],by rw[gN];exact hm⟩
def qJ(p:Nat->Bool)(v:V S):tP (er p) (low (iS p v)) (low (iS p v)):=by cases hm:cC p v with|true=>exact .inr ⟨_,by simp only[iS,hm,dM];rfl⟩|false=>exact .inl ⟨rfl,by simp only[iS,hm,gE];rw[gN];exact hm⟩
def yY(p:Nat->Bool)(t:Ty)(x:den S.A t):tP (er p) (eB S t x) (eB S t x):=.inl ⟨rfl,gN (S:=S) p (.ty t x)⟩
def Mv(p:Nat->Bool)(kt vt:Ty)(l:List (den S.A kt×den S.A vt)):qu (er p) (cQ (.map kt vt l:wP S)) (cQ (.map kt vt l)):=by refine⟨rfl,λj t u h1 h2=>?_⟩;rw[h1]at h2;cases h2;simp only[gQ,eA]at h1;obtain⟨q,_,rfl⟩:=h1;exact⟨yY p _ _,yY p _ _⟩
def ZR{f:V S->V S}(l:LpV S)(t0:Tr (V S))(hf:∀v,t0.get=t0.get->tP (er p) (low v) (low (f v))) :
  qu (er p) (cQ (.lp {l with fr:={l.fr with tm:=t0}})) (cQ (.lp {l with fr:={l.fr with tm:=t0.mapA f}})):=by
 refine⟨rfl,rfl,λk u hk=>?_⟩;have hk':((t0.mapA f).map low).get k=some u:=hk;rw[Tr.get_map,Tr.o4,HS,eA]at hk';obtain⟨v,hv,rfl⟩:=hk';exact⟨low v,by show(t0.map low).get k=_;rw[Tr.get_map,hv];rfl,hf v rfl⟩
def Hr(p:Nat->Bool)(ob:wP S):qu (er p) (cQ ob) (cQ (gj p ob)):=by
 cases ob with
 |box cs=>refine⟨by simp[eR],λj t u h1 h2=>?_⟩;simp only[gi,gQ,eA]at h1 h2;obtain⟨v,hv,rfl⟩:=h1;obtain⟨v',⟨v'',ET,rfl⟩,rfl⟩:=h2;rw[hv]at ET;cases ET;exact s4 p v
 |map kt vt l=>exact Mv p kt vt l
 |GQ kt l=>refine⟨by simp,λj t u h1 h2=>?_⟩;simp only[gQ,eA]at h1 h2;obtain⟨v,hv,rfl⟩:=h1;obtain⟨v',⟨v'',ET,rfl⟩,rfl⟩:=h2;rw[hv]at ET;cases ET;exact⟨yY p _ _,s4 p _⟩
 |lp l=>exact ZR l l.fr.tm λv _=>s4 p v
 |arr=>rfl
 |kf=>rfl
 |pO=>rfl
 |Av=>rfl
 |rws=>rfl
 |gone=>rfl
 |kE n j l era m dg hole=>
  cases hm:p m with|true=>exact .inr (by simp only[gj,hm,dM];rfl)|false=>exact .inl ⟨by simp only[gj,hm,gE];rfl,hm⟩
def Fy(p:Nat->Bool)(ob:wP S):qu (er p) (cQ (gj p ob)) (cQ (gj p ob)):=by
 cases ob with
 |box cs=>refine⟨rfl,λj t u h1 h2=>?_⟩;rw[h1]at h2;cases h2;simp only[gi,gQ,eA]at h1;obtain⟨v',⟨v,hv,rfl⟩,rfl⟩:=h1;exact qJ p v
 |map kt vt l=>exact Mv p kt vt l
 |GQ kt l=>refine⟨rfl,λj t u h1 h2=>?_⟩;rw[h1]at h2;cases h2;simp only[gQ,eA]at h1;obtain⟨v',⟨v,hv,rfl⟩,rfl⟩:=h1;exact⟨yY p _ _,qJ p _⟩
 |lp l=>refine⟨rfl,rfl,λk u hk=>?_⟩;refine⟨u,hk,?_⟩;have hk':((l.fr.tm.mapA (iS p)).map low).get k=some u:=hk;rw[Tr.get_map,Tr.o4,HS,eA]at hk';obtain⟨v,hv,rfl⟩:=hk';exact qJ p v
 |arr=>rfl
 |kf=>rfl
 |pO=>rfl
 |Av=>rfl
 |rws=>rfl
 |gone=>rfl
 |kE n j l era m dg hole=>
  cases hm:p m with|true=>simp only[gj,hm,dM];rfl|false=>simp only[gj,hm,gE];exact .inl ⟨rfl,hm⟩
def yz(h:cC p v=false):iS p v=v:=by simp only[iS,h,gE]
def Nh{ob:wP S}(h:jQ p ob=false):gj p ob=ob:=by
 cases ob with
 |box cs=>
  simp only[gj,wP.box.injEq];have hmem:∀{l:List (V S)},gX p l=false->∀v∈l,cC p v=false:=by
   intro l
   induction l with
   |nil=>intro _ v hv;cases hv
   |cons a l ih=>
    intro h v hv;simp only[gX,wA]at h;rcases fc.1 hv with rfl|hv
    .exact h.1
    .exact ih h.2 v hv
  have:∀v∈cs,iS p v=v:=λv hv=>yz (hmem h v hv);exact(Ma this).trans (List.map_id _)
 |GQ kt l=>
  simp only[gj];have hmem:∀{l:List (den S.A kt×V S)},JD p l=false->∀v∈l,cC p v.2=false:=by
   intro l
   induction l with
   |nil=>intro _ v hv;cases hv
   |cons a l ih=>
    intro h v hv;simp only[JD,wA]at h;rcases fc.1 hv with rfl|hv
    .exact h.1
    .exact ih h.2 v hv
  have:∀q∈l,((q.1,iS p q.2):den S.A kt×V S)=q:=λq hq=>by rw[yz (hmem h q hq)]
  rw[(Ma this).trans (List.map_id _)]
 |lp l=>simp only[gj,Di (λv=>yz) (show qd (cC p) l.fr.tm=false from h)]
 |kE n j l era m dg hole=>have h:p m=false:=h;simp only[gj,h,gE]
 |_=>rfl
def aa5{g g':Gh}{w:World}{P Q:Nat->Bool}(hPQ:∀o,Q o=true->P o=true)(hT:∀t v,aJ g w t v->er P t=false->aJ g' w' t v):∀{l m:List (BK S)}{xs:List Deferred},
  nJ Q (l.map (ic (cC P))) m->j9 g w (m.map rH) xs->j9 g' w' ((l.map (ic (cC P))).map rH) xs:=by
 intro l
 induction l with
 |nil=>intro m xs h hr;cases h;cases hr;exact .nil
 |cons d l ih=>
  intro m xs h hr;cases h with
  |cons hd ht=>
  cases hr with
  |cons k u=>
  refine .cons ?_ (ih ht u);have hleft:Ks (er P) (rH (ic (cC P) d)) (rH (ic (cC P) d)):=by
   cases d with
   |call f args=>
    simp only[ic];cases hb:cC P f||args.any (cC P)with
    |true=>exact .inl rfl
    |false=>simp only[wA,LX]at hb;refine .inr ⟨rfl,by rw[gN];exact hb.1,λt ht=>?_⟩;rw[gi,zg]at ht;obtain⟨v,hv,rfl⟩:=ht;rw[gN];simpa using hb.2 v hv
   |mark o=>
    simp only[ic];cases hb:cC (S:=S) P (.ptr o 0)with|true=>exact .inl rfl|false=>exact .inr ⟨rfl,(gN P (.ptr o 0)).trans hb⟩
   |bad=>exact .inl rfl
  rcases hd with rfl|⟨rfl,hm⟩
  .exact hleft.rel hT k
  .have hm':=qj hPQ _ hm;cases d with
   |call f args=>
    simp only[ic]at hm' ⊢;cases hb:cC P f||args.any (cC P)with
    |true=>exact .bad _
    |false=>rw[hb]at hm';simp only[gE,uZ]at hm';rw[hm']at hb;cases hb
   |mark o=>
    simp only[ic]at hm' ⊢;cases hb:cC (S:=S) P (.ptr o 0)with|true=>exact .bad _|false=>rw[hb]at hm';simp only[gE,uZ]at hm';rw[hm']at hb;cases hb
   |bad=>exact .bad _
section
variable {sh:Sh}{bs ow ds:List Nat}{fr:bV S}{s s1:bq S}{g:Gh}{w:World}{a:Act}
def Ac(hbs:∀b∈bs,b<bA)(o:Nat):(cT ds ow bs fr s1).2.ob.get o=if o∈bs then none else(s1.ob.get o).map (gj (eD ow s1.aH)):=by show(bs.foldl (λt o=>t.del aI o) (s1.ob.mapA _)).get o=_;rw[Tr.rM bs _ o hbs,Tr.o4]
def RM(hds:∀d∈ds,d<bA)(k:Nat):(cT ds ow bs fr s1).1.get k=if k∈ds then none else(fr.get k).filter (λv=>!(cC (eD ow s1.aH) v)):=by
 show((ds.foldl (λt k=>t.del aI k) fr.tm).keep _).get k=_;rw[Tr.o5,Tr.rM ds _ k hds];split
 .rfl
 .rfl
def Ad(hds:∀d∈ds,d<bA){k:Nat}(h:(cT ds ow bs fr s1).1.get k=some v):k∉ds∧fr.get k=some v∧cC (eD ow s1.aH) v=false:=by
 rw[RM hds]at h;split at h
 .cases h
 .rename_i hk;rw[Q0]at h;exact⟨hk,h.1,by simpa using h.2⟩
def FI(hf:cE g (bx fr) a w)(hs:bg g (aF s) w)(hds:∀d∈ds,d<bA){x:fW S.A (lz sh)}{g2:Gh}
  (hp:IT sh bs a g s w x s1 ow g2 vals al bl):vO sh bs (cT ds ow bs fr s1).1 (cT ds ow bs fr s1).2 s g w x a (g2.base (eD ow s1.aH)) w vals al bl:=by
 have AZ:∀b∈bs,b<bA:=λb hb=>by have:=(hp.XF b hb).2.1;have:=hs.aH;exact dy (hp.XF b hb).2.1 hs.aH
 have hpf:∀o,o∉ow->o<s.aH->eD ow s1.aH o=false:=λo h1 h2=>Dg h1 (hp.aH▸h2);have CP:=hp.alr.owned hp.pr.iM;refine⟨hp.rel.base (λo ho=>?_) rfl (bT _) (λo ob hpo cB=>?_),⟨hf.size,(oa (λv=>gN (eD ow s1.aH) v) fr.df).rel (λt v ht hm=>(ht.ext hp.ext hs.bz).on (g2.lW _) (λ_ _=>rfl) hm) hf.df,λk t hk=>?_⟩,hp.pr,hp.at_,⟨hp.Zf.1,λj o b h1 h2=>?_⟩,λo ho e=>?_,λa' ha b hb o hO=>?_,hp.ap,⟨λo b hb=>?_,λo e y hl hy=>?_,hp.ext.bz,bT _,λ_ _ _=>rfl,λo b ho hO=>?_,hp.ext.uJ,rfl,rfl⟩,λa' ha b hb=>?_⟩
 .simp only[eD,lA];exact .inr (GO ho)
 .rw[aV,Ac AZ]at cB;split at cB
  .cases cB
  .rw[HS,eA]at cB;obtain⟨vob,hv,rfl⟩:=cB;exact⟨cQ vob,by rw[aV,hv];rfl,Hr _ vob⟩
 .rw[bO,eA]at hk;obtain⟨v,hv,rfl⟩:=hk;obtain⟨_,h2,h3⟩:=Ad hds hv;obtain⟨u,hu,hr⟩:=hf.tm k (low v) (by rw[bO,h2];rfl);exact⟨u,hu,(hr.ext hp.ext hs.bz).on (g2.lW _) (λ_ _=>rfl) (by rw[gN];exact h3)⟩
 .have cB:=gW h1;have:=hp.XF o cB;exact(g2.lW _).cj o b (hpf o this.2.2.1 this.2.1) (hp.Zf.2 j o b h1 h2)
 .simp only[Gh.base];split
  .exact (hp.XF o ho).2.2.2 e
  .rfl
 .obtain ⟨h1,h2⟩:=Gh.mK hO;obtain⟨o',ho',yh⟩:=CP a' ha b hb;have:=hp.rel.mj o o' b h2 yh;subst this;exact(sB h1).1 ho'
 .have hlt:=hs.lt hb;exact(g2.lW _).cj o b (hpf o (λhm=>by rw[hp.owb o hm]at hb;cases hb) hlt) (hp.ext.cj o b hb)
 .have hlt:=hs.lt' hy;exact(g2.lW _).arr o e y (hpf o (λhm=>by have:=(hp.owp o hm).2.1;omega) hlt) (hp.ext.arr o e y hy)
 .rcases hp.ext.own o b (Gh.mK hO).2 with h|h
  .exact .inl ⟨o,ho,h⟩
  .exact .inr h
 .obtain ⟨o,ho,hO⟩:=CP a' ha b hb;rcases hp.ext.own o b hO with h|h
  .exact .inl ⟨o,(hp.owp o ho).1,h⟩
  .exact .inr h
def PI(hds:∀d∈ds,d<bA)(AZ:∀b∈bs,b<s1.aH∧b∉ow)(ye:s1.aH<=bA)(hlo:s.lo<=s1.aH)(how:∀o∈ow,s.lo<=o)(hgb:∀o b,g.cj o=some b->o<s1.aH∧o∉ow)(aaG:s1.lo=s.lo)(aaH:s1.fl=s.fl)
  {a':Act} {w':World} {al:List fB} {gb gh:Gh} {mE:bV S} {iV:bq S}
  (wH:pW s.lo s.fl g w gh w') (hh:Ak ex sh bs a' gb (cT ds ow bs fr s1).1 (cT ds ow bs fr s1).2 w' al gh mE iV)
  {s2 s3:bq S} {g2 g3:Gh} {a2:Act} {w2:World} (bX:fA iV gh w' s2 g2 w2)
  {x:fW S.A (lz xJ)} {Eo:List Nat} {vals:List Value} {wk:List fB} {bl2:List Nat} (hp:IT xJ bs a2 g2 s2 w2 x s3 Eo g3 vals wk bl2)
  (hwr:N8 s1.aH bs s3.wr=true) (Tq:Eo.all (λo=>Nat.ble s1.aH o)=true) (Tv:s3.dr.all (λo=>Nat.ble s1.aH o)=true) (hfr:cE (g3.base (eD ow s1.aH)) (bx jF) a2 w2) :
  vO xJ bs jF (cT ds ow bs fr s1).2 s g w x a2 (g3.base (eD ow s1.aH)) w2 vals wk bl2:=by
 have W0:∀b∈bs,b<bA:=λb hb=>dy (AZ b hb).1 ye;have aan:(cT ds ow bs fr s1).2.aH=s1.aH:=rfl;have hlen:s1.aH<=iV.aH:=aan▸hh.aH;have abS:∀o∈Eo,s1.aH<=o:=λo ho=>by rw[gr]at Tq;exact fQ (Tq o ho)
 have aef:∀o∈s2.dr,s1.aH<=o:=λo ho=>by rw[gr]at Tv;exact fQ (Tv o (hp.dr▸ho))
 have ahz:∀o∈s3.wr,s1.aH<=o∨o∈bs:=λo ho=>by unfold N8 at hwr;rw[gr]at hwr;have:=hwr o ho;rw[lA]at this;exact this.imp fQ (λh=>by simpa using h)
 have CP:=hp.alr.owned hp.pr.iM;have WO:iV.fl=s.fl:=hh.fl.trans (show(cT ds ow bs fr s1).2.fl=s.fl from aaH);have ad3:iV.lo=s.lo:=hh.lo.trans (show(cT ds ow bs fr s1).2.lo=s.lo from aaG);have WU:pW s.lo s.fl g w g2 w2:=wH.trans (WO▸ad3▸bX.ext);have WQ:s2.fl=s.fl:=bX.fl.trans WO;have uO:pW s.lo s.fl g w g3 w2:=WU.trans (WQ▸hp.ext.HG s.lo);refine⟨hp.rel.base (aH:=s1.aH) (λo ho=>?_) rfl ?_ (λo ob hpo cB=>?_),hfr,hp.pr,hp.at_,⟨hp.Zf.1,λj o b h1 h2=>?_⟩,λo ho e=>?_,λa' ha b hb o hO=>?_,hp.ap,⟨λo b hb=>?_,λo e y hl hy=>?_,uO.bz,uO.size,uO.heap,λo b ho hO=>?_,uO.uJ,uO.os,uO.output⟩,λa' ha b hb=>?_⟩
 .simp only[eD,lA];exact .inr (GO ho)
 .have e1:(aF s3).aH=s3.aH:=rfl;have:=bX.aH;have:=hp.aH;omega
 .rw[aV,Ac W0]at cB;split at cB
  .cases cB
  .rename_i hnb;rw[HS,eA]at cB;obtain⟨vob,hv,rfl⟩:=cB;have Ts:=(sB hpo).2;have hnw:o∉s3.wr:=λhm=>by
    rcases ahz o hm with h|h
    .omega
    .exact hnb h
   have aoe:o∉s2.wr:=λhm=>hnw (hp.vS o hm);have e1:s3.ob.get o=some (gj (eD ow s1.aH) vob):=by rw[hp.same o hnw,bX.same o (dy Ts hlen) aoe,hh.ob o (aan▸Ts) hnb,Ac W0,bw hnb,hv];rfl
   exact⟨cQ (gj (eD ow s1.aH) vob),by rw[aV,e1];rfl,Fy _ vob⟩
 .have cB:=gW h1;exact(g3.lW _).cj o b (Dg (AZ o cB).2 (AZ o cB).1) (hp.Zf.2 j o b h1 h2)
 .simp only[Gh.base];split
  .exact (hp.XF o ho).2.2.2 e
  .rfl
 .obtain ⟨h1,h2⟩:=Gh.mK hO;obtain⟨o',ho',yh⟩:=CP a' ha b hb;have:=hp.rel.mj o o' b h2 yh;subst this;have:=abS o ho';have:=(sB h1).2;omega
 .exact (g3.lW _).cj o b (Dg (hgb o b hb).2 (hgb o b hb).1) (uO.cj o b hb)
 .exact (g3.lW _).arr o e y (Dg (λhm=>by have:=how o hm;omega) (by omega)) (uO.arr o e y hl hy)
 .exact uO.own o b ho (Gh.mK hO).2
 .obtain ⟨o,ho,hO⟩:=CP a' ha b hb;exact uO.own o b (by have:=(hp.owp o ho).1;omega) hO
def IK(aee:∀k∈ex,k∈ds)(hds:∀d∈ds,d<bA)(AZ:∀b∈bs,b<s1.aH∧b∉ow)(ye:s1.aH<=bA)(hlo:s.lo<=s1.aH)(how:∀o∈ow,s.lo<=o)(hgb:∀o b,g.cj o=some b->o<s1.aH∧o∉ow)(hsh:DN ds sh=true)(aaG:s1.lo=s.lo)(aaH:s1.fl=s.fl)
  {a':Act} {w':World} {al:List fB} {gb gh:Gh} {mE:bV S} {iV:bq S}
  (wH:pW s.lo s.fl g w gh w') (hh:Ak ex sh bs a' gb (cT ds ow bs fr s1).1 (cT ds ow bs fr s1).2 w' al gh mE iV)
  {GA:bV S} {s2 s3:bq S} {g2 g3:Gh} {a2:Act} {w2:World} (bX:fA iV gh w' s2 g2 w2) (Tu:cE g2 (bx GA) a2 w2) (hfo:eK ds mE GA s2.dr iV.aH) (hn2:GA.n=mE.n) (MN:GA.df.length=mE.df.length)
  {x:fW S.A (lz xJ)} {Eo:List Nat} {vals:List Value} {wk:List fB} {bl2:List Nat} (hp:IT xJ bs a2 g2 s2 w2 x s3 Eo g3 vals wk bl2)
  (hwr:N8 s1.aH bs s3.wr=true) (Tq:Eo.all (λo=>Nat.ble s1.aH o)=true) (Tv:s3.dr.all (λo=>Nat.ble s1.aH o)=true) :
  vO xJ bs (cT ds ow bs fr s1).1 (cT ds ow bs fr s1).2 s g w x a2 (g3.base (eD ow s1.aH)) w2 vals wk bl2:=by
 have W0:∀b∈bs,b<bA:=λb hb=>dy (AZ b hb).1 ye;have aan:(cT ds ow bs fr s1).2.aH=s1.aH:=rfl;have hlen:s1.aH<=iV.aH:=aan▸hh.aH;have abS:∀o∈Eo,s1.aH<=o:=λo ho=>by rw[gr]at Tq;exact fQ (Tq o ho)
 have aef:∀o∈s2.dr,s1.aH<=o:=λo ho=>by rw[gr]at Tv;exact fQ (Tv o (hp.dr▸ho))
 have ahz:∀o∈s3.wr,s1.aH<=o∨o∈bs:=λo ho=>by unfold N8 at hwr;rw[gr]at hwr;have:=hwr o ho;rw[lA]at this;exact this.imp fQ (λh=>by simpa using h)
 have CP:=hp.alr.owned hp.pr.iM;have WO:iV.fl=s.fl:=hh.fl.trans (show(cT ds ow bs fr s1).2.fl=s.fl from aaH);have ad3:iV.lo=s.lo:=hh.lo.trans (show(cT ds ow bs fr s1).2.lo=s.lo from aaG);have WU:pW s.lo s.fl g w g2 w2:=wH.trans (WO▸ad3▸bX.ext);have WQ:s2.fl=s.fl:=bX.fl.trans WO;have uO:pW s.lo s.fl g w g3 w2:=WU.trans (WQ▸hp.ext.HG s.lo);refine PI hds AZ ye hlo how hgb aaG aaH wH hh bX hp hwr Tq Tv ⟨Tu.size.trans ?_,aa5 (Q:=eD s2.dr iV.aH) (λo ho=>?_) (λt v ht hm=>(ht.ext hp.ext bX.rel.bz).on (g3.lW _) (λ_ _=>rfl) hm) (show nJ _ (cT ds ow bs fr s1).1.df GA.df from hh.Kb▸hfo.df.eq MN) Tu.df,λk t hk=>?_⟩
 .exact hn2.trans hh.n
 .simp only[eD,lA,zi,qA]at ho ⊢;rcases ho with ho|ho
  .exact .inr (GO (aef o ho))
  .have:=fQ ho;exact .inr (GO (by omega))
 .rw[bO,eA]at hk;obtain⟨v,hv,rfl⟩:=hk;obtain⟨h1,h2,h3⟩:=Ad hds hv;have hgh:mE.get k=some v:=by
   rw[hh.get k (λhm=>h1 (aee k hm)) (λq hq hqk=>?_)]
   .exact hv
   .obtain ⟨qk,qp⟩:=q;cases qp with|box cs=>rfl|hid cs=>rfl|one c=>unfold DN at hsh;rw[gr]at hsh;have:=hsh _ hq;simp only at this hqk;subst hqk;exact absurd (by simpa using this) h1
  rcases hfo.tm k v h1 hgh with h4|h4
  .obtain ⟨u,hu,hr⟩:=Tu.tm k (low v) (by rw[bO,h4];rfl);exact⟨u,hu,(hr.ext hp.ext bX.rel.bz).on (g3.lW _) (λ_ _=>rfl) (by rw[gN];exact h3)⟩
  .exfalso;obtain⟨o,Au,UA⟩:=S6 h4 h3;have:=(sB UA).2;simp only[eD,lA,zi,qA]at Au;rcases Au with Au|Au
   .have:=aef o Au;omega
   .have:=fQ Au;omega
def T2(hs:bg g (aF s) w){x1:fW S.A (lz sh)}(hp:IT sh bs a g s w x1 s1 ow g1 HD vC bl1)
  {a':Act} {w':World} {al:List fB} {gb gh:Gh} {mE:bV S} {iV:bq S} (wH:pW s.lo s.fl g w gh w') (hh:Ak ex xJ bs a' gb jF (cT ds ow bs fr s1).2 w' al gh mE iV) :
  fA s g w {iV with wr:=s1.ob.jA (jQ (eD ow s1.aH))++(bs++s1.wr),dr:=ow++s1.dr} gh w':=by
 have AZ:∀b∈bs,b<bA:=λb hb=>dy (hp.XF b hb).2.1 hs.aH;refine⟨hh.rel,wH,hh.fl.trans hp.fl,hh.lo.trans hp.lo,?_,λo ho=>?_,λo hl ho=>?_,λo ho=>?_⟩
 .have:=hh.aH;have e1:(cT ds ow bs fr s1).2.aH=s1.aH:=rfl;have:=hp.aH;show s.aH<=iV.aH;omega
 .exact iW _ (iW _ (hp.vS o ho))
 .simp only[eg,not_or]at ho;have h1:iV.ob.get o=(cT ds ow bs fr s1).2.ob.get o:=hh.ob o (by show o<s1.aH;have:=hp.aH;omega) ho.2.1;show iV.ob.get o=s.ob.get o;rw[h1,Ac AZ,bw ho.2.1,<-hp.same o ho.2.2];cases hg:s1.ob.get o with
  |none=>rfl
  |some ob=>
   rw[dX]
   congr 1
   apply Nh;cases hm:jQ (eD ow s1.aH) ob with|false=>rfl|true=>exact absurd (Tr.sG _ _ _ _ hg hm) ho.1
 .exact iW _ (by rw[hp.dr];exact ho)
def Nx(aee:∀k∈ex,k∈ds)(hs:bg g (aF s) w)(hds:∀d∈ds,d<bA){x1:fW S.A (lz sh)}(hp:IT sh bs a g s w x1 s1 ow g1 HD vC bl1)(hsh:DN ds xJ=true)
  {a':Act} {w':World} {al:List fB} {gb gh:Gh} {mE:bV S} {iV:bq S} (wH:pW s.lo s.fl g w gh w') (hh:Ak ex xJ bs a' gb (cT ds ow bs fr s1).1 (cT ds ow bs fr s1).2 w' al gh mE iV) :
  fA s g w {iV with wr:=s1.ob.jA (jQ (eD ow s1.aH))++(bs++s1.wr),dr:=ow++s1.dr} gh w'∧eK ds fr mE (ow++s1.dr) s.aH∧mE.n=fr.n:=by
 have AZ:∀b∈bs,b<bA:=λb hb=>dy (hp.XF b hb).2.1 hs.aH;refine⟨T2 (fr:=fr) hs hp wH hh,⟨λk v hk hv=>?_,?_⟩,hh.n⟩
 .cases hm:cC (eD ow s1.aH) v with
  |true=>exact .inr (ep (ir (λo ho=>eJ _ ho) (by rw[hp.aH];exact bT _)) v hm)
  |false=>
   left
   rw[hh.get k (λhm=>hk (aee k hm)) (λq hq hqk=>?_),RM hds,bw hk,hv]
   .simp[Option.filter,hm]
   .obtain ⟨qk,qp⟩:=q;cases qp with|box cs=>rfl|hid cs=>rfl|one c=>unfold DN at hsh;rw[gr]at hsh;have:=hsh _ hq;simp only at this hqk;subst hqk;exact absurd (by simpa using this) hk
 .rw[hh.Kb];exact(s5 (ir (λo ho=>eJ _ ho) (by rw[hp.aH];exact bT _)) (λv=>rfl) fr.df).ok
end
def Jg{g:Gh}{w:World}{fr:bV S}{a:Act}(hf:cE g (bx fr) a w):∀{rv:Rv}{vs:List (V S)},U7 fr rv=some vs->∃vals,od a (rv.map λp=>(p.1,Pk.one (.dat p.2))) vals∧PW (aJ g w) (bh vs) vals
 |[],vs,h=>by simp only[U7,bf]at h;subst h;exact⟨[],trivial,rfl,λj t v h=>by simp[bh]at h⟩
 |(k,c)::l,vs,h=>by
  simp only[U7]at h;split at h
  .rename_i v r h1 h2;simp only[bf]at h;subst h;obtain⟨vals,h3,h4⟩:=Jg hf h2;obtain⟨u,hu,hr⟩:=hf.tm k (low v) (by rw[bO,h1];rfl);refine⟨u::vals,⟨hu,h3⟩,by simp only[bh,fI,h4.1],λj t v' k1 k2=>?_⟩;cases j with|zero=>simp[bh]at k1 k2;subst k1;subst k2;exact hr|succ j=>exact h4.2 j t v' (by simpa[bh]using k1) (by simpa using k2)
  .cases h
def uv{g:Gh}{w:World}{a:Act}:∀{rv:Rv}{r:gp S.A (GG rv)}{vals:List Value}{al:List fB}{I:Nat->Prop}{fr:bV S},jl S I w (GG rv) r vals al->(∀b,I b->g.bz b)->od a (rv.map λp=>(p.1,Pk.one (.dat p.2))) vals->
  fr.n<=bA->cE g (bx fr) a w->cE g (bx (wU rv r fr)) a w∧(wU rv r fr).n=fr.n∧∀k,k∉rv.map (·.1)->(wU rv r fr).get k=fr.get k
 |[],r,vals,al,I,fr,_,_,_,_,hf=>⟨hf,rfl,λ_ _=>rfl⟩
 |(k,t)::rv,r,vals,al,I,fr,hh,hi,lE,hn,hf=>by
  cases hh with
  | @dat _ _ x h v vs al hd hr=>
  obtain⟨hv,lE⟩:=lE;have aav:k<fr.n:=by have:=(Ju.1 hv).1;rw[hf.size]at this;exact this
  have JX:cE g (bx (fr.put k (.ty t x))) a w:=by
   refine⟨hf.size,hf.df,λj t' hj=>?_⟩;rw[bO,bV.iR _ _ _ _ (dy aav hn)]at hj;by_cases Cg:j=k
   .subst Cg;rw[bL rfl]at hj;simp only[dX,bf]at hj;subst hj;exact⟨v,hv,oE (hd.le hi)⟩
   .rw[bw Cg]at hj;exact hf.tm j t' (by rw[bO];exact hj)
  obtain⟨h1,h2,h3⟩:=uv (rv:=rv) (fr:=fr.put k (.ty t x)) hr hi lE hn JX;refine⟨h1,h2,λj hj=>?_⟩;simp only[lZ,fc,not_or]at hj;rw[show wU ((k,t)::rv) (x,h) fr=wU rv h (fr.put k (.ty t x))from rfl,h3 j hj.2,bV.iR _ _ _ _ (dy aav hn),bw hj.1]
def xQ{ω:Type}{Q:xC S->bV S->bq S->Option ω}{fr:bV S}{s:bq S}{r:ω}:∀{l:List Nat}{i:Nat},i∈l->ZJ Q fr s l (aah l i)=some r->Q (.ext i) fr s=some r
 |[],i,hi,_=>by cases hi
 |[j],i,hi,h=>by simp only[mq]at hi;subst hi;exact h
 |j::j'::l,i,hi,h=>by
  simp only[aah]at h;cases hb:Nat.beq j i with
  |true=>rw[hb]at h;have:=beq_iff'.1 hb;subst this;exact h
  |false=>
   rw[hb]at h;simp only[gE]at h;have hne:j≠i:=λe=>by subst e;rw[HQ]at hb;cases hb
   refine xQ (l:=j'::l) ?_ h;rcases fc.1 hi with rfl|hi
   .exact absurd rfl hne
   .exact hi
end
section
def xL{st:LoopState}{pe:Option Code}(h:DV st pe=true):st=.ready∧pe=none:=by
 unfold DV at h;split at h
 .exact ⟨rfl,rfl⟩
 .cases h
variable {fr:bV S}
def Pe{g:Gh}{w:World}{a:Act}(hf:cE g (bx fr) a w)(hn:fr.n<=bA)(l:List Nat):∀k t,(bx (RA l fr)).get k=some t->∃v,a.tmps[k]?=some v∧aJ g w t v:=by
 have key:∀(l:List Nat)(t0:Tr (V S)),(∀k v,t0.get k=some v->fr.get k=some v)->∀k v,(l.foldl (λt k=>match fr.get k with|some v=>t.set aI k v|none=>t) t0).get k=some v->fr.get k=some v:=by
  intro l
  induction l with
  |nil=>exact λt0 h=>h
  |cons j l ih=>
   intro t0 h;rw[LD];refine ih _ λk v hk=>?_;split at hk
   .rename_i u hu;have hj:j<bA:=by
     have:(bx fr).get j=some (low u):=by rw[bO,hu];rfl
     obtain⟨x,hx,_⟩:=hf.tm j _ this;have:=hf.size;have h2:=(Ju.1 hx).1;have h3:(bx fr).n=fr.n:=rfl;omega
    rw[Tr.aT _ _ _ _ hj]at hk;by_cases e:k=j
    .rw[bL e]at hk;rw[e,hu,hk]
    .rw[bw e]at hk;exact h k v hk
   .exact h k v hk
 intro k t hk;rw[bO]at hk;cases hg:(RA l fr).get k with
 |none=>rw[hg]at hk;cases hk
 |some v=>rw[hg]at hk;have h1:=key l .nil (λk v h=>by simp[Tr.get_nil]at h) k v hg;exact hf.tm k t (by rw[bO,h1];exact hk)
def LC{E:ga S}(hE:eL E){call:iB S}(dU:fV E.T.E.P call)(n:Nat)(fid:FuncId)(rv:Rv){gv:Operand}{ps:Array Tmp}{T5 body:Code}{i:Nat}{ω:Type}{Q:xC S->bV S->bq S->Option ω}{r:ω}{s:bq S}
  (h:uj E call n fid rv (.rangeFunc gv ps T5 body) i Q fr s=some r) (hn:fr.n<=bA) {g:Gh} {a:Act} {w:World} (hf:cE g (bx fr) a w) (hs:bg g (aF s) w) :
  (Code.rangeFunc gv ps T5 body).wpIn (WR none) 0 E.T.E.P (KZ (eN (.rangeFunc gv ps T5 body)++rv.map (·.1)) fr s g w Q r) a w:=by
 simp only[uj]at h;split at h
 .cases h
 rename_i f args hfa;rcases af h with⟨hb,h1⟩|⟨_,h1⟩;rotate_left
 .cases h1
 clear h;simp only[eE]at hb;obtain⟨_,_,aec,ye⟩:=hb;have ye:s.aH+1<bA:=fQ ye;simp only[sq]at hfa;obtain⟨tf,htf,uQ⟩:=hfa;have OT:=bJ hf (bU htf);have jC:=qm uQ;unfold wg at jC;split at jC;rotate_left
 .cases jC
 rename_i f' first cap wG
 simp only[bf,bB]at jC;obtain⟨rfl,yf⟩:=jC;rw[wG]at OT;generalize hvf:a.eval gv=vf at OT;cases OT with
 |fn _ _ _ va vc l1 l2 r1 r2=>
 obtain⟨fq,pT⟩:=hs.newObj (ob0:=.Av) (x0:=.deferred (some [])) (by show s.aH<bA;omega) .Av;have Wt:(ec (aF s) Ob.Av).2=aF (dn s .Av):=(gu s .Av).symm;rw[Wt]at fq;refine wpIn_rangeFunc λfn _=>?_
 let L:Loop:={state:=.ready,pending:=none,fn,tmps:=a.tmps,params:=ps,assign:=T5,body,defers:=w.heap.size}
 let lv:LpV S:=⟨.ready,none,fid,RA (wR T5++wR body) fr,ps.toList,T5,body⟩
 have JX:cE (g.dj (aF s).aH w.heap.size) (bx fr) a (w.alloc (.deferred (some []))):=hf.ext pT hs.bz;obtain⟨AW,N6⟩:=fq.newObj (ob0:=.lp (w7 lv)) (x0:=.loop L) (by show s.aH+1<bA;exact ye)
  (.lp _ L rfl rfl rfl rfl rfl JX.size (Pe JX hn _))
 have anP:(ec (aF (dn s .Av)) (Ob.lp (w7 lv))).2=aF (dn (dn s .Av) (.lp lv)):=(gu _ (.lp lv)).symm;rw[anP]at AW;have JY:(Instr.enterLoop fn a.tmps ps T5 body none).run E.T.E.P w=.ok (w.heap.size+1,[{target:=.collected w.heap.size,args:=#[]}]) ((w.alloc (.deferred (some []))).alloc (.loop L)):=run_enterLoop_outer _ _ _ _ _;generalize hW2:(w.alloc (.deferred (some []))).alloc (.loop L)=W2 at AW N6 JY;generalize hg2:(g.dj (aF s).aH w.heap.size).dj (aF (dn s .Av)).aH (w.alloc (.deferred (some []))).heap.size=g2 at AW N6;have aik:g2.cj s.aH=some w.heap.size:=by rw[<-hg2];simp[Gh.dj,aF,dn]
 have ab2:g2.cj (s.aH+1)=some (w.heap.size+1):=by rw[<-hg2];simp[Gh.dj,aF,dn]
 have he:Ext s.fl g w g2 W2:=pT.trans N6;have hall:PW (aJ g2 W2) (bh args) (va++#[Value.func (.yield (w.heap.size+1)) #[] #[]]++vc).toList:=by rw[<-yf];simp only[GN];refine PW.append (PW.append ⟨by simpa using l1,λj x y h1 h2=>(r1 j x y h1 (by simpa using h2)).ext he hs.bz⟩ ⟨rfl,λj x y h1 h2=>?_⟩) ⟨by simpa using l2,λj x y h1 h2=>(r2 j x y h1 (by simpa using h2)).ext he hs.bz⟩;cases j with|zero=>simp only[bh,sr,bf]at h1 h2;subst h1;subst h2;exact .rZ _ _ ab2|succ j=>simp[bh]at h1
 obtain⟨AY,hc⟩:=zW hE dU AW h1 hall;refine⟨w.heap.size+1,[{target:=.collected w.heap.size,args:=#[]}],W2,{target:=.fn (.func f') vc,args:=va++#[Value.func (.yield (w.heap.size+1)) #[] #[]]},W2,f',va++#[Value.func (.yield (w.heap.size+1)) #[] #[]]++vc,W2,JY,?_,λ_ _=>trivial,?_,λh=>by simp[Fence.wide]at h,PB.2 (hc.mono λe w' he'=>?_)⟩
 .simp only[rangeCall,resolve,Deferred.ofValue,hvf,Sem.run_bind,Sem.run_pure,Result.andThen_ok];simp[Act.eval]
 .simp only[invoke];exact vW AY _
 cases e with
 |panicked ch=>obtain⟨v,t,s',g',_,h1,_⟩:=he';cases h1
 |outgrown=>exact he'.elim
 |returned v=>
 obtain⟨t,s',g',ow,h1,_,bX⟩:=he';dsimp only at h1;split at h1;rotate_left
 .cases h1
 split at h1;rotate_left
 .cases h1
 rename_i l ho;rcases af h1 with⟨hrd,h2⟩|⟨_,h2⟩;rotate_left
 .cases h2
 obtain⟨hst,hpe⟩:=xL hrd;have zJ:=bX.ext.cj _ _ ab2;have ho':(aF s').ob.get (s.aH+1)=some (.lp (w7 l)):=by rw[aV,show s'.ob.get (s.aH+1)=some (.lp l)from ho];rfl
 obtain⟨x,hx,hr⟩:=(bX.rel.box _ _ zJ).2.2 _ ho';cases hr with
 |lp _ L' q1 q2 q4 q5 q6 q8 q9=>
 have hfl:s'.fl<=s.aH+1:=by have h0:s'.fl=s.fl:=bX.fl;rw[h0];exact fQ aec
 obtain⟨OS,Ip⟩:=bX.rel.setObj (w':=w'.putObj (w.heap.size+1) (.loop {L' with state:=.exhausted})) zJ ho' rfl hfl (x':=.loop {L' with state:=.exhausted}) (Ux:=.lp (w7 {l with st:=.exhausted})) (.lp _ _ rfl q2 q4 q5 q6 q8 q9)
  World.putObj_size (λb' hb'=>World.putObj_heap_other hb') (World.putObj_heap_same (bX.rel.box _ _ zJ).2.1) rfl rfl
 refine⟨none,w'.putObj (w.heap.size+1) (.loop {L' with state:=.exhausted}),?_,?_⟩
 .have:=run_endLoop (P:=E.T.E.P) hx (by rw[q1];show l.st≠.busy;rw[hst];simp);rw[this];rw[q2];show Result.ok l.oO _=_;rw[hpe]
 refine .inr ⟨.pR,_,_,g',.pR,h2,rfl,?_,?_,⟨λk v _ hk=>.inl hk,[_],fr.df,rfl,.refl _ _⟩⟩
 .have Tu:cE g2 (bx fr) a W2:=hf.ext he hs.bz;have N5:cE g' (bx fr) a w':=mS (ow:=[]) Tu bX;have hf4:=N5.ext Ip bX.rel.bz;exact⟨hf4.size,.cons (.mark _ _ (bX.ext.cj _ _ aik)) hf4.df,hf4.tm⟩
 .have O2:s.aH<bA:=by omega
  have JU:=iN s (.Av:wP S) O2;have hl2:=iN (dn s (.Av:wP S)) (.lp lv) ye;have wG:aF {s' with ob:=s'.ob.set aI (Nat.succ s.aH) (.lp {l with st:=.exhausted})}={aF s' with ob:=(aF s').ob.set aI (s.aH+1) (cQ (.lp {l with st:=.exhausted}))}:=eZ s' _ _ s'.wr;refine⟨by rw[wG];exact OS,(he.HG s.lo).trans ((show pW s.lo s.fl g2 _ g' w' from bX.ext).trans ?_),bX.fl,bX.lo,fS (by show s.aH<=s.aH+1+1;omega) bX.aH,λo ho=>bX.vS o ho,λo ho hno=>?_,λo ho=>bX.Hp o ho⟩
  .have:=Ip.HG s.lo;rw[show(aF s').fl=s.fl from bX.fl]at this;exact this
  .have e1:o≠Nat.succ s.aH:=by omega
   show(s'.ob.set aI (Nat.succ s.aH) _).get o=_;rw[Tr.dh _ _ _ _ _ e1,bX.same o (by show o<s.aH+1+1;omega) hno,hl2.same o (by show o<s.aH+1;omega) (λhm=>hno (bX.vS o hm)),JU.same o ho (λhm=>hno (bX.vS o hm))]
end
section
def qO(E:ga S)(call:iB S):Prop:=
 ∀(id:Nat)(ops:Array Oper){ω:Type}(kp:bV S->V S->bq S->Option ω)(k:bV S->bq S->Option ω)(r:ω)(fr:bV S)(s:bq S),
  Xt E fr s ops.toList (vu ops.toList)=true->
  sV E call ops.toList (vu ops.toList) (ops.toList.zipIdx.map λp=>(p.2,p.1)) kp k (Nat.succ (Nat.mul 2 (cA ops.toList))) 0 fr s=some r->fr.n<=bA->
  ∀{g:Gh}{a:Act}{w:World},cE g (bx fr) a w->bg g (aF s) w->∀{Q:Exit->Act->World->Prop},
  (∀fr' s' g' a' w',k fr' s'=some r->fr'.n=fr.n->cE g' (bx fr') a' w'->fA s g w s' g' w'->eK (ops.toList.filterMap (·.dst)) fr fr' s'.dr s.aH->Q .normal a' w')->
  (∀fr' t s' g' a' v w',kp fr' t s'=some r->fr'.n=fr.n->cE g' (bx fr') a' w'->fA s g w s' g' w'->eK (ops.toList.filterMap (·.dst)) fr fr' s'.dr s.aH->aJ g' w' (low t) v->Q (.panic [{v,recovered:=false}]) a' w')->
  ∀rr:Option Nat,(rr≠none->N2 (.region id ops true)=true)->(Code.region id ops true).wpIn (WR rr) 0 E.T.E.P Q a w
def oP{s:bq S}:∀{cs:List Ck}{l:List (V S)}{x:gp S.A cs}{fz ow:List Nat},jk cs=true->gI s cs l=some (x,fz,ow)->ow=[]
 |[],[],x,fz,ow,_,h=>by simp only[gI,bf,bB]at h;exact h.2.2.symm
 | .dat t::cs,v::l,x,fz,ow,hd,h=>by
  simp only[gI]at h;split at h
  .rename_i x1 a1 b1 h1 a2 b2 e1 e2;simp only[bf,bB]at h;obtain⟨_,_,rfl⟩:=h;have:=oP (cs:=cs) (by simpa[jk]using hd) e2;subst this;simp only[l6]at e1;split at e1
   .simp only[bf,bB]at e1;rw[<-e1.2.2];rfl
   .cases e1
  .cases h
 | .own _::_,_,_,_,_,hd,_=>by simp[jk]at hd
 | .jy ..::_,_,_,_,_,hd,_=>by simp[jk]at hd
 | .nil _::_,_,_,_,_,hd,_=>by simp[jk]at hd
 | .ptr _::_,_,_,_,_,hd,_=>by simp[jk]at hd
 |[],_::_,_,_,_,_,h=>by simp[gI]at h
 | .dat _::_,[],_,_,_,_,h=>by simp[gI]at h
def Bs:∀rv:Rv,jk (GG rv)=true
 |[]=>rfl
 |_::rv=>Bs rv
def JK(fr:bV S)(c:Operand)(b:Bool):(fr.sJ c b).n=fr.n:=by
 unfold bV.sJ;split
 .rename_i k;cases Nat.blt k fr.n<;>rfl
 .rfl
variable {s:bq S}{w:World}{fr:bV S}{a:Act}{c:Code}{b:Bool}{r k o:Nat}{rr:Option Nat}{P:Program}{Q:Exit->Act->World->Prop}{E:ga S}
def EI{g:Gh}{c:Operand}(hn:fr.n<=bA)(hf:cE g (bx fr) a w)(hv:a.eval c=.bool b):cE g (bx (fr.sJ c b)) a w:=by
 unfold bV.sJ;split
 .rename_i k;cases hk:Nat.blt k fr.n with
  |false=>exact hf
  |true=>
   have hlt:k<fr.n:=fQ hk;refine⟨hf.size,hf.df,λj t hj=>?_⟩;simp only[dM]at hj;rw[bO,bV.iR _ _ _ _ (dy hlt hn)]at hj;by_cases Cg:j=k
   .subst Cg;rw[bL rfl]at hj;simp only[dX,bf]at hj;subst hj;have hsz:j<a.tmps.size:=by rw[hf.size];exact hlt
    have:a.tmps[j]?=some (.bool b):=by have:=hv;simp only[Act.eval,Vh,oN hsz,Jp]at this;rw[oN hsz,this]
    exact⟨_,this,.kb b⟩
   .rw[bw Cg]at hj;exact hf.tm j t (by rw[bO];exact hj)
 .exact hf
def Re(hn:fr.n<=bA)(c:Operand)(b:Bool)(dr:List Nat)(aH:Nat):eK (RJ c) fr (fr.sJ c b) dr aH:=by
 unfold bV.sJ;split
 .rename_i k;cases hk:Nat.blt k fr.n with|false=>exact eK.refl _ _ _ _|true=>have hlt:k<fr.n:=fQ hk;refine⟨λj v hj hv=>.inl ?_,ug.refl _ _⟩;simp only[dM];rw[bV.iR _ _ _ _ (dy hlt hn),bw (by simpa[RJ]using hj)];exact hv
 .exact eK.refl _ _ _ _
def T7{ω:Type}{e:Bool}{x y:Option ω}{r:ω}(h:Hv e x y=some r):y=some r∧(e=true->x=some r):=by
 unfold Hv at h;cases e with
 |false=>exact⟨h,λh=>by cases h⟩
 |true=>
  simp only[dM]at h;split at h
  .rename_i hxy;exact⟨h,λ_=>hxy.trans h⟩
  .cases h
def oH(ds:List Nat):∀sh:Sh,DN ds (Sz sh)=true
 |[]=>rfl
 |(_,.one _)::l=>oH ds l
 |(_,.box _)::l=>by have:=oH ds l;simp only[Sz,DN,Ed,iL]at this ⊢;exact this
 |(_,.hid _)::l=>by have:=oH ds l;simp only[Sz,DN,Ed,iL]at this ⊢;exact this
def jv{s:bq S}{fr:bV S}{k o r:Nat}(hv:fr.get k=some (.sh o r)):∀{sh:Sh}{ps:List Pk}{bs:List Nat}{vs:List (V S)}{nx:Option Nat}{x:fW S.A ps}{fz ow bs':List Nat},lz sh=ps->tV fr sh bs=some vs->dY s ps vs nx=some (x,fz,ow,bs')->k∈Mo sh->o∈ow
 |[],_,_,_,_,_,_,_,_,_,_,_,hk=>by simp[Mo]at hk
 |(j,.one c)::sh,ps,bs,vs,nx,x,fz,ow,bs',h0,h1,h2,hk=>by
  simp only[tV]at h1;split at h1;rotate_left
  .cases h1
  rename_i v vs' hj hvs;simp only[bf]at h1;subst h1
  replace h0:Pk.one c::lz sh=ps:=h0
  subst h0;simp only[dY]at h2;split at h2;rotate_left
  .cases h2
  rename_i x1 a1 b1 y1 a2 b2 bs2 e1 e2;simp only[bf,bB]at h2;obtain⟨_,_,rfl,_⟩:=h2;cases c with
  |dat t=>exact iW _ (jv hv rfl hvs e2 hk)
  |jy n j t=>exact iW _ (jv hv rfl hvs e2 hk)
  |nil e=>exact iW _ (jv hv rfl hvs e2 hk)
  |ptr t=>exact iW _ (jv hv rfl hvs e2 hk)
  |own e=>
   simp only[Mo]at hk;rcases fc.1 hk with rfl|hk
   .rw[hv]at hj;cases hj;simp only[l6]at e1;split at e1
    .rcases af e1 with⟨_,e1⟩|⟨_,e1⟩
     .split at e1
      .simp only[bf,bB]at e1;obtain⟨_,_,rfl⟩:=e1;simp
      .cases e1
     .cases e1
    .cases e1
   .exact iW _ (jv hv rfl hvs e2 hk)
 |(j,.box kd)::sh,ps,[],vs,nx,x,fz,ow,bs',h0,h1,h2,hk=>by simp[tV]at h1
 |(j,.box kd)::sh,ps,b::bs,vs,nx,x,fz,ow,bs',h0,h1,h2,hk=>by
  simp only[tV]at h1;split at h1;rotate_left
  .cases h1
  rename_i vs' hvs;simp only[bf]at h1;subst h1
  replace h0:Pk.box kd::lz sh=ps:=h0
  subst h0;simp only[dY]at h2;split at h2;rotate_left
  .cases h2
  rcases af h2 with⟨_,h2⟩|⟨_,h2⟩;rotate_left
  .cases h2
  split at h2;rotate_left
  .cases h2
  split at h2;rotate_left
  .cases h2
  rename_i e2;simp only[bf,bB]at h2;obtain⟨_,_,rfl,_⟩:=h2;exact iW _ (jv hv rfl hvs e2 hk)
 |(j,.hid kd)::sh,ps,[],vs,nx,x,fz,ow,bs',h0,h1,h2,hk=>by simp[tV]at h1
 |(j,.hid kd)::sh,ps,b::bs,vs,none,x,fz,ow,bs',h0,h1,h2,hk=>by
  replace h0:Pk.hid kd::lz sh=ps:=h0
  subst h0;cases vs<;>simp[dY]at h2
 |(j,.hid kd)::sh,ps,b::bs,vs,some o',x,fz,ow,bs',h0,h1,h2,hk=>by
  simp only[tV]at h1
  replace h0:Pk.hid kd::lz sh=ps:=h0
  subst h0;simp only[dY]at h2;rcases af h2 with⟨_,h2⟩|⟨_,h2⟩;rotate_left
  .cases h2
  split at h2;rotate_left
  .cases h2
  split at h2;rotate_left
  .cases h2
  rename_i e2;simp only[bf,bB]at h2;obtain⟨_,_,rfl,_⟩:=h2;exact iW _ (jv hv rfl h1 e2 hk)
def mT{ds:List Nat}{k:Nat}:∀{sh:Sh},k∈Xc ds sh->k∈Mo sh
 |[],h=>h
 |(j,.one (.own e))::sh,h=>by
  simp only[Xc]at h;simp only[Mo,fc];rcases Bool.eq_false_or_eq_true (ds.contains j)with hc|hc
  .rw[hc]at h;exact .inr (mT h)
  .rw[hc]at h;rcases fc.1 h with rfl|h
   .exact .inl rfl
   .exact .inr (mT h)
 |(j,.one (.dat t))::sh,h=>mT (sh:=sh) h
 |(j,.one (.jy ..))::sh,h=>mT (sh:=sh) h
 |(j,.one (.nil _))::sh,h=>mT (sh:=sh) h
 |(j,.one (.ptr _))::sh,h=>mT (sh:=sh) h
 |(j,.box kd)::sh,h=>mT (sh:=sh) h
 |(j,.hid kd)::sh,h=>mT (sh:=sh) h
def VJ{s2:bq S}{sh:Sh}{bs ow:List Nat}{x:fW S.A (lz sh)}(h:sx sh bs fr s=some (x,s2,ow))(hk:k∈Mo sh)(hv:fr.get k=some (.sh o r)):o∈ow:=by
 unfold sx at h;split at h
 .cases h
 rename_i vs hvs;split at h
 .cases h
 rename_i x' fz Uw bs' hpk;split at h
 .cases h
 rcases af h with⟨_,h2⟩|⟨_,h2⟩
 .simp only[bf,bB]at h2;obtain⟨_,_,rfl⟩:=h2;exact jv hv rfl hvs hpk hk
 .cases h2
def Kr(rr:Option Nat)(P:Program)(c:Code)(Q:Exit->Act->World->Prop)(a:Act)(w:World):Prop:=
 ∀(b:Frame)(k:List Item)(cs:List Frame),b.roundOf=rr->∃e a' w',Q e a' w'∧aby rr P (lone (b.atR a (.code c::.inLoop c::k)) cs w) b k cs e a' w'
def I0(h:Kr rr P c Q a w):(Code.loop c).wpIn (WR rr) 0 P Q a w:=λb k cs hro _ _=>
 let ⟨e,a',w',hq,eP⟩:=h b k cs hro
 ⟨e,a',w',hq,.of_steps (ie.2 (.one stepR_loop)) eP⟩
def sH(h:c.wpIn (WR rr) 0 P (Exit.then (Kr rr P c Q) Q) a w):Kr rr P c Q a w:=by
 intro b k cs hro;obtain⟨e,a₁,w₁,hq,eP⟩:=h b (.inLoop c::k) cs hro trivial (LA _);cases e with
 |normal=>obtain⟨e₂,a₂,w₂,hq₂,Ry⟩:=hq b k cs hro;exact⟨e₂,a₂,w₂,hq₂,.of_steps (ie.2 ((ie.1 eP).trans (.one stepR_inLoop))) Ry⟩
 |exit id=>exact⟨_,a₁,w₁,hq,.pass (x:=.inLoop c) rfl (λ_ _=>.inl (by simp)) eP⟩
 |goto l=>exact⟨_,a₁,w₁,hq,.pass (x:=.inLoop c) rfl (λ_ _=>.inl (by simp)) eP⟩
 |ret=>exact⟨_,a₁,w₁,hq,.pass (x:=.inLoop c) rfl (λ_ _=>.inl (by simp)) eP⟩
 |panic ch=>exact⟨_,a₁,w₁,hq,.pass (x:=.inLoop c) rfl (λ_ _=>.inl (by simp)) eP⟩
 |outgrown=>exact⟨_,a₁,w₁,hq,.pass (x:=.inLoop c) rfl (λ_ _=>.inl (by simp)) eP⟩
def OB(I:Act->World->Prop)(μ:Act->World->Nat)(round:∀a w,I a w->c.wpIn (WR rr) 0 P (Exit.then (λa' w'=>I a' w'∧μ a' w'<μ a w) Q) a w) :
  ∀(m:Nat)(a:Act)(w:World),μ a w<=m->I a w->Kr rr P c Q a w:=by
 intro m
 induction m with
 |zero=>
  intro a w hm hI;refine sH (wpIn_mono (round a w hI) λe a' w' hq=>?_);cases e with|normal=>have:=hq.2;omega|_=>exact hq
 |succ m ih=>
  intro a w hm hI;refine sH (wpIn_mono (round a w hI) λe a' w' hq=>?_);cases e with|normal=>exact ih a' w' (by have:=hq.2;omega) hq.1|_=>exact hq
def vX{a:Bool}(h:(a&&b)=true):a=true∧b=true:=AI.1 h
def QS{id:Nat}{ops:Array Oper}{d:Bool}(h:N2 (.region id ops d)=true):∀o∈ops.toList,∀c,o.op≠.defer c:=by intro o ho c hc;simp only[N2,gr]at h;have:=h o ho;rw[hc]at this;cases this
def OM(hE:eL E)(rv:Rv){b:Code}{ev:{ω:Type}->(xC S->bV S->bq S->Option ω)->bV S->bq S->Option ω}
  (hev:∀{ω:Type}{Q:xC S->bV S->bq S->Option ω}{r:ω}{fr:bV S}{s:bq S},ev Q fr s=some r->fr.n<=bA->s.lo<=s.aH->∀{g:Gh}{a:Act}{w:World},cE g (bx fr) a w->bg g (aF s) w->b.wpIn (WR rr) 0 E.T.E.P (KZ (eN b++rv.map (·.1)) fr s g w Q r) a w)
  {ω:Type} {sh:Sh} {pts:List Pt} {al:List (Nat×Nat)} {Q:xC S->bV S->bq S->Option ω} {r:ω} {fr:bV S} {s:bq S} (h:Wf E rv ev sh pts al (eN b++rv.map (·.1)) (yq (kJ b)) Q fr s=some r) (hn:fr.n<=bA) (hlo:s.lo<=s.aH) {g:Gh} {a:Act} {w:World} (hf:cE g (bx fr) a w) (hs:bg g (aF s) w) :
  b.wpIn (WR rr) 0 E.T.E.P (KZ (eN b++rv.map (·.1)) fr s g w Q r) a w:=by
 unfold Wf at h;split at h
 .cases h
 rename_i bs adW;split at h
 .cases h
 rename_i x0 s1 ow hpk;rcases af h with⟨hb,h2⟩|⟨_,h2⟩;rotate_left
 .cases h2
 clear h;rw[eE,eE]at hb;obtain⟨⟨Il,rL⟩,WX⟩:=hb;rw[eE,eE]at rL;obtain⟨rL,W4,aer⟩:=rL;obtain⟨o,mD,hout⟩:=rT h2;clear h2;generalize hds:(eN b++rv.map (·.1))++(Xc (eN b++rv.map (·.1)) sh++al.map (·.1))=ds at *
 obtain⟨bl0,Tw⟩:=uC hf hs adW;have JZ:∀d∈ds,d<bA:=λd hd=>by rw[gr]at WX;exact dy (fQ (WX d hd)) hn
 have TA:∀p∈al,p.1<bA:=λp hp=>JZ _ (by rw[<-hds];exact iW _ (iW _ (zg.2 ⟨p,hp,rfl⟩)));have Tz:∀k∈al.map (·.1),k∈ds:=λk hk=>by rw[<-hds];exact iW _ (iW _ hk)
 obtain⟨g1,HD,vC,bl1,kH⟩:=nW hE.sg hf hs Tw hpk;have O7:=FI (fr:=fr) hf hs JZ kH;have adN:s1.aH<=bA:=kH.rel.aH;have W1:(cT ds ow bs fr s1).1.n<=bA:=hn;have fix:∀{wJ:bV S},eK ds fr wJ (ow++s1.dr) s.aH->eK (eN b++rv.map (·.1)) fr wJ (ow++s1.dr) s.aH:=by
  intro wJ hfo;refine⟨λk v hk hv=>?_,hfo.df⟩;by_cases dO:k∈ds
  .right
   rw[<-hds]at dO;rcases eg.1 dO with dO|dO
   .exact absurd dO hk
   .rcases eg.1 dO with dO|dO
    .unfold aaS at rL;rw[gr]at rL;have h1:=rL k dO;split at h1
     .rename_i o' r' ho';rw[hv]at ho';cases ho';have:=VJ hpk (mT dO) hv;simp[cC,eD,this]
     .cases h1
    .obtain ⟨p,hp,rfl⟩:=zg.1 dO;obtain⟨o1,r1,rfl,this⟩:=NC aer hp hv;simp[cC,eD,this]
  .exact hfo.tm k v dO hv
 have W5:YS a w al:=wj hf hs W4;have hbase:vO sh bs (cT ds ow bs fr s1).1 (cT ds ow bs fr s1).2 s g w x0 a _ w HD vC bl1:=O7;unfold DT at mD;split at mD
 .cases mD
 rename_i aez iV WL;obtain⟨gh,hh0,wH⟩:=hbase.head W1 WL;have hh:=hh0.lJ TA W5;generalize lJ iV al aez=mE at hh mD;have aea:mE.n=fr.n:=hh.n;have aas:iV.lo<=iV.aH:=by have h1:iV.lo=s.lo:=hh.lo.trans kH.lo;have h2:=hh.aH;have h3:(cT ds ow bs fr s1).2.aH=s1.aH:=rfl;have:=kH.aH;omega
 refine wpIn_mono (hev mD (by rw[aea];exact hn) aas hh.fr hh.rel) λe Hw w'' hq=>?_;rcases hq with hF|⟨ex,GA,s2,g2,h1,h2,h3,h4,h5,h6⟩
 .exact hF.elim
 replace h6:eK ds mE GA s2.dr iV.aH:=h6.mono (λk hk=>by rw[<-hds];exact eJ _ hk) (λ_ h=>h)
 rcases af h2 with⟨aeg,h2⟩|⟨_,h2⟩;rotate_left
 .cases h2
 have MN:GA.df.length=mE.df.length:=by have:=beq_iff'.1 aeg;rw[bH,bH]at this;rw[this,hh.Kb]
 have next:∀{xJ:Sh}{y:fW S.A (lz xJ)}{s2' s3:bq S}{g2':Gh}{Eo:List Nat},fA iV gh w s2' g2' w''->cE g2' (bx GA) Hw w''->eK ds mE GA s2'.dr iV.aH->sx xJ bs GA s2'=some (y,s3,Eo)->
   N8 s1.aH bs s3.wr=true->Eo.all (λo=>Nat.ble s1.aH o)=true->s3.dr.all (λo=>Nat.ble s1.aH o)=true->
   ∃Gz vals' mX Aw,vO xJ bs (cT ds ow bs fr s1).1 (cT ds ow bs fr s1).2 s g w y Hw Gz w'' vals' mX Aw∧∀b,g2'.bz b->Gz.bz b:=by
  intro xJ y s2' s3 g2' Eo k1 k2 k3 k4 k5 k6 k7;obtain⟨g3,vals',mX,Aw,Wx⟩:=nW hE.sg (bl0:=bl1) k2 k1.rel ⟨hbase.Zf.1,λj o b q1 q2=>k1.ext.cj o b (hh.le.cj o b (hbase.Zf.2 j o b q1 q2))⟩ k4;exact⟨_,vals',mX,Aw,IK Tz JZ (λb hb=>⟨by have:=(kH.XF b hb).2.1;rw[kH.aH];exact this,(kH.XF b hb).2.2.1⟩) adN (by rw[kH.aH];exact hlo) (λo ho=>(kH.owp o ho).2.1) (λo b hb=>⟨by rw[kH.aH];exact hs.lt hb,λhm=>by rw[kH.owb o hm]at hb;cases hb⟩) Il kH.lo kH.fl wH hh k1 k2 k3 h3 MN Wx k5 k6 k7,Wx.ext.bz⟩
 have leave:∀{xJ:Sh}{y:fW S.A (lz xJ)}{Gz:Gh}{vals':List Value}{mX:List fB}{Aw:List Nat}{wJ:bV S}{HH:bq S},DN ds xJ=true->vO xJ bs (cT ds ow bs fr s1).1 (cT ds ow bs fr s1).2 s g w y Hw Gz w'' vals' mX Aw->kT xJ bs y (cT ds ow bs fr s1).1 (cT ds ow bs fr s1).2=some (wJ,HH)->
   ∃gy,cE gy (bx wJ) Hw w''∧(∀b,Gz.bz b->gy.bz b)∧fA s g w {HH with wr:=s1.ob.jA (jQ (eD ow s1.aH))++(bs++s1.wr),dr:=ow++s1.dr} gy w''∧eK ds fr wJ (ow++s1.dr) s.aH∧wJ.n=fr.n:=by
  intro xJ y Gz vals' mX Aw wJ HH adL k1 k2;obtain⟨gy,k3,k4⟩:=k1.head W1 k2;obtain⟨k5,k6,k7⟩:=Nx (ex:=[]) (λ_ h=>by cases h) hs JZ kH adL k4 k3;exact⟨gy,k3.fr,k3.le.bz,k5,k6,k7⟩
 cases h1 with
 |pR=>
  rcases af h2 with⟨aes,h2⟩|⟨_,h2⟩;rotate_left
  .cases h2
  simp only[tI]at h2;split at h2
  .rename_i y s3 Eo yb;rcases af h2 with⟨hc,h2⟩|⟨_,h2⟩;rotate_left
   .cases h2
   simp only[eE]at hc;obtain⟨Gz,vals',mX,Aw,k1,_⟩:=next h5 h4 h6 yb hc.1 hc.2.1 hc.2.2
   cases h2;simp only at hout;split at hout
   .cases hout
   .rename_i wJ HH Tt;obtain⟨gy,l1,_,l2,l3,l4⟩:=leave Il k1 Tt;obtain⟨m1,m2,m3,m4⟩:=kR (s:=HH) l2.rel TA (wj h4 h5.rel aes) l1;exact .inr ⟨.pR,lJ HH al wJ,_,gy,.pR,hout,m2.trans l4,m1,l2,fix ⟨λk v hk hv=>by rw[m4 k λhm=>hk (Tz k hm)];exact l3.tm k v hk hv,by rw[m3];exact l3.df⟩⟩
  .cases h2
 |ext j=>
  rcases af h2 with⟨hj,h2⟩|⟨_,h2⟩;rotate_left
  .cases h2
  simp only[tI]at h2;split at h2
  .rename_i y s3 Eo yb;rcases af h2 with⟨hc,h2⟩|⟨_,h2⟩;rotate_left
   .cases h2
   simp only[eE]at hc;obtain⟨Gz,vals',mX,Aw,k1,_⟩:=next h5 h4 h6 yb hc.1 hc.2.1 hc.2.2
   cases h2;simp only at hout;split at hout
   .cases hout
   .rename_i wJ HH Tt;obtain⟨gy,l1,_,l2,l3,l4⟩:=leave Il k1 Tt;rw[eE]at hj;have WJ:j∈yq (kJ b):=by simpa using hj.1
    obtain⟨m1,m2,m3,m4⟩:=kR (s:=HH) l2.rel TA (wj h4 h5.rel hj.2) l1;exact .inr ⟨.ext j,lJ HH al wJ,_,gy,.ext j,xQ WJ hout,m2.trans l4,m1,l2,fix ⟨λk v hk hv=>by rw[m4 k λhm=>hk (Tz k hm)];exact l3.tm k v hk hv,by rw[m3];exact l3.df⟩⟩
  .cases h2
 |ret=>
  simp only at h2;split at h2
  .cases h2
  rename_i vs hvs;split at h2;rotate_left
  .cases h2
  rename_i r' fz owr Tp;split at h2;rotate_left
  .cases h2
  rename_i s2' hfz;simp only[tI]at h2;split at h2
  .rename_i y s3 Eo yb;rcases af h2 with⟨hc,h2⟩|⟨_,h2⟩;rotate_left
   .cases h2
   simp only[eE]at hc;obtain⟨agu,lE,dc⟩:=Jg h4 hvs;obtain⟨p1,p2,p3⟩:=gn hE.sg h5.rel Tp dc;obtain⟨g3,OS,Ip,O6⟩:=en fz h5.rel (de hE.sg _ hfz) p1;have OX:owr=[]:=oP (Bs rv) Tp;obtain⟨alr,lC,_⟩:=p3 g3 (aF s2') fz OS Ip O6 (λo ho=>ho) (λo ho=>by rw[OX]at ho;cases ho);obtain⟨f1,f2,f3,f4,f5,f6,f7⟩:=ew hfz;have bX:fA s2 g2 w'' s2' g3 w'':=⟨OS,Ip.HG _,f1,f2,zl f3.symm,f4,λo _ ho=>f5 o ho,λo ho=>by rw[f7];exact ho⟩;have N5:cE g3 (bx GA) Hw w'':=h4.ext Ip h5.rel.bz;obtain⟨Gz,vals',mX,Aw,k1,k2⟩:=next (h5.trans bX) N5 (by rw[f7];exact h6) yb hc.1 hc.2.1 hc.2.2
   cases h2;simp only at hout;split at hout
   .cases hout
   .rename_i wJ HH Tt;obtain⟨gy,l1,l0,l2,l3,l4⟩:=leave (oH ds sh) k1 Tt;obtain⟨m1,m2,m3⟩:=uv (g:=gy) (w:=w'') (a:=Hw) (fr:=wJ) lC (λb hb=>l0 b (k2 b hb)) lE (by rw[l4];exact hn) l1;have hdf:∀(rv:Rv)(r:gp S.A (GG rv))(fr:bV S),(wU rv r fr).df=fr.df:=by
     intro rv
     induction rv with|nil=>intro _ _;rfl|cons q rv ih=>intro r fr;obtain⟨k,t⟩:=q;exact ih _ _
    refine .inr ⟨.ret,_,_,gy,.ret,hout,m2.trans l4,m1,l2,⟨λk v hk hv=>?_,by rw[hdf];exact l3.df⟩⟩;rw[m3 k (λhm=>hk (iW _ hm))];exact(fix l3).tm k v hk hv
  .cases h2
 |dm t v hv=>
  rcases af h2 with⟨hpn,h2⟩|⟨_,h2⟩;rotate_left
  .cases h2
  split at h2;rotate_left
  .cases h2
  rename_i r' fz owr Tp;split at h2;rotate_left
  .cases h2
  rename_i s2' hfz;simp only[tI]at h2;split at h2;rotate_left
  .cases h2
  rename_i y s3 Eo yb;rcases af h2 with⟨hc,h2⟩|⟨_,h2⟩;rotate_left
  .cases h2
  simp only[eE]at hc;have dc:PW (aJ g2 w'') (bh [t]) [v]:=⟨rfl,λj t' v' q1 q2=>by
   cases j with
   |zero=>simp[bh]at q1 q2;subst q1;subst q2;exact hv
   |succ j=>simp[bh]at q1⟩
  obtain⟨p1,p2,p3⟩:=gn hE.sg h5.rel Tp dc;obtain⟨g3,OS,Ip,O6⟩:=en fz h5.rel (de hE.sg _ hfz) p1;have OX:owr=[]:=oP (cs:=[.dat S.pt]) rfl Tp;obtain⟨alr,lC,_⟩:=p3 g3 (aF s2') fz OS Ip O6 (λo ho=>ho) (λo ho=>by rw[OX]at ho;cases ho);obtain⟨f1,f2,f3,f4,f5,f6,f7⟩:=ew hfz;have bX:fA s2 g2 w'' s2' g3 w'':=⟨OS,Ip.HG _,f1,f2,zl f3.symm,f4,λo _ ho=>f5 o ho,λo ho=>by rw[f7];exact ho⟩;have N5:cE g3 (bx GA) Hw w'':=h4.ext Ip h5.rel.bz;obtain⟨Gz,vals',mX,Aw,k1,k2⟩:=next (h5.trans bX) N5 (by rw[f7];exact h6) yb hc.1 hc.2.1 hc.2.2
  cases h2;simp only at hout;rcases af hout with⟨_,hout⟩|⟨_,hout⟩;rotate_left
  .cases hout
  split at hout
  .cases hout
  .rename_i wJ HH Tt;obtain⟨gy,l1,l0,l2,l3,l4⟩:=leave (oH ds sh) k1 Tt;refine .inr ⟨.dm (.ty S.pt r'.1),wJ,_,gy,.dm _ v ?_,hout,l4,l1,l2,fix l3⟩;cases lC with|@dat _ _ x h v vs al hd hr=>exact oE (hd.le λb hb=>l0 b (k2 b hb))
def rP(hE:eL E){call:iB S}(dU:fV E.T.E.P call)(iY:qO E call)(n:Nat)(fid:FuncId)(rv:Rv):∀(c:Code)(i:Nat){ω:Type}{Q:xC S->bV S->bq S->Option ω}{r:ω}{fr:bV S}{s:bq S},
  uj E call n fid rv c i Q fr s=some r->(rr≠none->N2 c=true)->fr.n<=bA->s.lo<=s.aH->∀{g:Gh}{a:Act}{w:World},cE g (bx fr) a w->bg g (aF s) w->c.wpIn (WR rr) 0 E.T.E.P (KZ (eN c++rv.map (·.1)) fr s g w Q r) a w:=by
 intro c
 induction c with
 |region id ops draw=>
  intro i ω Q r fr s h hrd hn hlo g a w hf hs;cases draw with
  |true=>
   simp only[uj]at h;rcases af h with⟨hb,h⟩|⟨_,h⟩;rotate_left
   .cases h
   refine iY id ops _ _ r fr s hb h hn hf hs (λfr' s' g' a' w' h1 h2 h3 h4 h5=>.inr ⟨.pR,fr',s',g',.pR,h1,h2,h3,h4,h5.mono (λk hk=>eJ _ hk) (λ_ h=>h)⟩)
    (λfr' t s' g' a' v w' h1 h2 h3 h4 h6 h5=>.inr ⟨.dm t,fr',s',g',.dm t v h5,h1,h2,h3,h4,h6.mono (λk hk=>eJ _ hk) (λ_ h=>h)⟩) rr hrd
  |false=>
   refine Vd ?_;simp only[uj]at h;have:=Cn hE dU (Q:=KZ (eN (.region id ops false)++rv.map (·.1)) fr s g w Q r) (rr:=rr) (λhr=>QS (hrd hr)) ops.toList 0 rfl hn h hf hs
    (λfr' s' g' a' w' h1 h2 h3 h4 h5=>.inr ⟨.pR,fr',s',g',.pR,h1,h2,h3,h4,h5.mono (λk hk=>eJ _ hk) (λ_ h=>h)⟩)
    (λfr' t s' g' a' v w' h1 h2 h3 h4 h6 h5=>.inr ⟨.dm t,fr',s',g',.dm t v h5,h1,h2,h3,h4,h6.mono (λk hk=>eJ _ hk) (λ_ h=>h)⟩)
   rw[List.range_eq_range'];simpa using this
 |seq x y ihx ihy=>
  intro i ω Q r fr s h hrd hn hlo g a w hf hs;simp only[uj]at h;have hds:∀k∈(eN x++rv.map (·.1))++(eN y++rv.map (·.1)),k∈eN (.seq x y)++rv.map (·.1):=by
   intro k hk;simp only[eN,eg]at hk ⊢;rcases hk with(h|h)|(h|h)
   .exact .inl (.inl h)
   .exact .inr h
   .exact .inl (.inr h)
   .exact .inr h
  refine wpIn_seq (wpIn_mono (ihx i h (λhr=>(vX (hrd hr)).1) hn hlo hf hs) λe a' w' hq=>?_);rcases hq with hF|⟨ex,fr',s',g',h1,h2,h3,h4,h5,h6⟩
  .exact hF.elim
  .cases h1 with
   |pR=>have:=ihy i h2 (λhr=>(vX (hrd hr)).2) (by rw[h3];exact hn) (by rw[h5.lo];exact fS hlo h5.aH) h4 h5.rel;exact wpIn_mono this λe a w hq=>(KZ.mono h3 h5 h6 hq).ds hds
   |ext j=>exact .inr ⟨_,fr',s',g',.ext j,h2,h3,h4,h5,h6.mono (λk hk=>hds k (eJ _ hk)) (λ_ h=>h)⟩
   |ret=>exact .inr ⟨_,fr',s',g',.ret,h2,h3,h4,h5,h6.mono (λk hk=>hds k (eJ _ hk)) (λ_ h=>h)⟩
   |dm t v hv=>exact .inr ⟨_,fr',s',g',.dm t v hv,h2,h3,h4,h5,h6.mono (λk hk=>hds k (eJ _ hk)) (λ_ h=>h)⟩
 |cond c x y ihx ihy=>
  intro i ω Q r fr s h hrd hn hlo g a w hf hs;have cnd:∀{ω:Type}{Q:xC S->bV S->bq S->Option ω}{r:ω}{fr:bV S}{s:bq S},Ng c (uj E call n fid rv x i) (uj E call n fid rv y i) Q fr s=some r->fr.n<=bA->s.lo<=s.aH->∀{g:Gh}{a:Act}{w:World},cE g (bx fr) a w->bg g (aF s) w->
    (Code.cond c x y).wpIn (WR rr) 0 E.T.E.P (KZ (eN (.cond c x y)++rv.map (·.1)) fr s g w Q r) a w:=by
   clear h hn hlo hf hs;intro ω Q r fr s h hn hlo g a w hf hs;have hx:∀k∈eN x++rv.map (·.1),k∈eN (.cond c x y)++rv.map (·.1):=by intro k hk;simp only[eN,eg]at hk ⊢;exact hk.imp (λh=>.inr (.inl h)) id
   have hy:∀k∈eN y++rv.map (·.1),k∈eN (.cond c x y)++rv.map (·.1):=by intro k hk;simp only[eN,eg]at hk ⊢;exact hk.imp (λh=>.inr (.inr h)) id
   have hc:∀k∈RJ c,k∈eN (.cond c x y)++rv.map (·.1):=by intro k hk;simp only[eN,eg];exact .inl (.inl hk)
   have tru:a.eval c=.bool true->uj E call n fid rv x i Q (fr.sJ c true) s=some r->x.wpIn (WR rr) 0 E.T.E.P (KZ (eN (.cond c x y)++rv.map (·.1)) fr s g w Q r) a w:=λhv h=>
    wpIn_mono (ihx i h (λhr=>(vX (hrd hr)).1) (by rw[JK];exact hn) hlo (EI hn hf hv) hs) λe a w hq=>(KZ.mono (JK _ _ _) (fA.refl hs) (Re hn c true _ _) hq).ds λk hk=>(eg.1 hk).elim (hc k) (hx k)
   have fls:a.eval c=.bool false->uj E call n fid rv y i Q (fr.sJ c false) s=some r->y.wpIn (WR rr) 0 E.T.E.P (KZ (eN (.cond c x y)++rv.map (·.1)) fr s g w Q r) a w:=λhv h=>
    wpIn_mono (ihy i h (λhr=>(vX (hrd hr)).2) (by rw[JK];exact hn) hlo (EI hn hf hv) hs) λe a w hq=>(KZ.mono (JK _ _ _) (fA.refl hs) (Re hn c false _ _) hq).ds λk hk=>(eg.1 hk).elim (hc k) (hy k)
   unfold Ng at h;split at h
   .rename_i hc;have:=bJ hf (bU hc);simp only[low]at this;generalize hv:a.eval c=v at this;cases this;exact wpIn_cond_true hv (wpIn_mono (ihx i h (λhr=>(vX (hrd hr)).1) hn hlo hf hs) λe a w hq=>hq.ds hx)
   .rename_i hc;have:=bJ hf (bU hc);simp only[low]at this;generalize hv:a.eval c=v at this;cases this;exact wpIn_cond_false hv (wpIn_mono (ihy i h (λhr=>(vX (hrd hr)).2) hn hlo hf hs) λe a w hq=>hq.ds hy)
   .rename_i e hc;have:=bJ hf (bU hc);simp only[low]at this;generalize hv:a.eval c=v at this;obtain⟨h2,h1⟩:=T7 h;cases this with|ub _ b hb=>exact wpIn_cond_split hv (λMP=>tru (by rw[hv,MP]) (h1 (hb MP))) (λhbf=>fls (by rw[hv,hbf]) h2)
   .rename_i t _ _ _ hc;split at h
    .rename_i b hb;obtain⟨p,e,hp⟩:=kY hb;have hv:=iK e hp (bJ hf (bU hc));refine wpIn_cond_split hv (λMP=>?_) (λhbf=>?_)
     .rcases oI h with⟨_,h⟩|⟨h0,_⟩
      .exact tru (by rw[hv,MP]) h
      .rw[MP]at h0;cases h0
     .rcases oI h with⟨h0,_⟩|⟨_,h⟩
      .rw[hbf]at h0;cases h0
      .exact fls (by rw[hv,hbf]) h
    .cases h
   .cases h
  simp only[uj]at h;split at h
  .exact cnd h hn hlo hf hs
  .exact OM hE rv (ev:=λ{_}Q fr s=>Ng c (uj E call n fid rv x i) (uj E call n fid rv y i) Q fr s) cnd h hn hlo hf hs
 |block j b ih=>
  intro i ω Q r fr s h hrd hn hlo g a w hf hs;simp only[uj]at h;refine wpIn_block (wpIn_mono (ih j h hrd hn hlo hf hs) λe a' w' hq=>?_);rcases hq with hF|⟨ex,fr',s',g',h1,h2,h3,h4,h5,h6⟩
  .exact hF.elim
  .cases h1 with
   |pR=>exact .inr ⟨_,fr',s',g',.pR,h2,h3,h4,h5,h6⟩
   |ext k=>
    simp only[MW]at h2;simp only[Exit.inBlock];split at h2
    .rename_i hji;rw[bL (beq_iff'.1 hji)];exact .inr ⟨_,fr',s',g',.pR,h2,h3,h4,h5,h6⟩
    .rename_i hji;rw[bw (λe=>by subst e;rw[HQ]at hji;cases hji)];exact .inr ⟨_,fr',s',g',.ext k,h2,h3,h4,h5,h6⟩
   |ret=>exact .inr ⟨_,fr',s',g',.ret,h2,h3,h4,h5,h6⟩
   |dm t v hv=>exact .inr ⟨_,fr',s',g',.dm t v hv,h2,h3,h4,h5,h6⟩
 |loop b ih=>
  intro i ω Q r fr s h hrd hn hlo g a w hf hs;simp only[uj]at h;split at h
  .cases h
  rename_i sh pts al pl hsh;refine I0 ?_;clear hsh
  induction pl generalizing fr s g a w with
  |succ pl ihp=>
   simp only[Q5]at h;refine sH (wpIn_mono (ih i h hrd hn hlo hf hs) λe a' w' hq=>?_);rcases hq with hF|⟨ex,fr',s',g',h1,h2,h3,h4,h5,h6⟩
   .exact hF.elim
   have hds:∀k∈eN b++rv.map (·.1),k∈eN (.loop b)++rv.map (·.1):=λk hk=>hk;cases h1 with
   |pR=>intro b1 k1 cs1 anX;simp only[Pg]at h2;have ihq:=ihp (fr:=fr') (s:=s') (g:=g') (a:=a') (w:=w') (h:=h2) (hn:=by rw[h3];exact hn) (hlo:=by rw[h5.lo];exact fS hlo h5.aH) (hf:=h4) (hs:=h5.rel);obtain⟨e,a2,w2,hq,eP⟩:=ihq b1 k1 cs1 anX;refine⟨e,a2,w2,?_,eP⟩;exact(KZ.mono h3 h5 h6 hq).ds λk hk=>(eg.1 hk).elim (hds k) id
   |ext j=>exact .inr ⟨_,fr',s',g',.ext j,h2,h3,h4,h5,h6⟩
   |ret=>exact .inr ⟨_,fr',s',g',.ret,h2,h3,h4,h5,h6⟩
   |dm t v hv=>exact .inr ⟨_,fr',s',g',.dm t v hv,h2,h3,h4,h5,h6⟩
  |zero=>
  simp only[Q5]at h;split at h
  .cases h
  rename_i bs adW;split at h
  .cases h
  rename_i x0 s1 ow hpk;rcases af h with⟨hb,h2⟩|⟨_,h2⟩;rotate_left
  .cases h2
  clear h;rw[eE,eE]at hb;obtain⟨⟨Il,rL⟩,WX⟩:=hb;rw[eE,eE]at rL;obtain⟨rL,W4,aer⟩:=rL;obtain⟨o,aia,hout⟩:=rT h2;clear h2;generalize hds:(eN b++rv.map (·.1))++(Xc (eN b++rv.map (·.1)) sh++al.map (·.1))=ds at *
  obtain⟨bl0,Tw⟩:=uC hf hs adW;have JZ:∀d∈ds,d<bA:=λd hd=>by rw[gr]at WX;exact dy (fQ (WX d hd)) hn
  have TA:∀p∈al,p.1<bA:=λp hp=>JZ _ (by rw[<-hds];exact iW _ (iW _ (zg.2 ⟨p,hp,rfl⟩)));have Tz:∀k∈al.map (·.1),k∈ds:=λk hk=>by rw[<-hds];exact iW _ (iW _ hk)
  obtain⟨g1,HD,vC,bl1,kH⟩:=nW hE.sg hf hs Tw hpk;have O7:=FI (fr:=fr) hf hs JZ kH;have adN:s1.aH<=bA:=kH.rel.aH;have W1:(cT ds ow bs fr s1).1.n<=bA:=hn;have fix:∀{wJ:bV S},eK ds fr wJ (ow++s1.dr) s.aH->eK (eN (.loop b)++rv.map (·.1)) fr wJ (ow++s1.dr) s.aH:=by
   intro wJ hfo;refine⟨λk v hk hv=>?_,hfo.df⟩;by_cases dO:k∈ds
   .right
    rw[<-hds]at dO;rcases eg.1 dO with dO|dO
    .exact absurd dO hk
    .rcases eg.1 dO with dO|dO
     .unfold aaS at rL;rw[gr]at rL;have h1:=rL k dO;split at h1
      .rename_i o' r' ho';rw[hv]at ho';cases ho';have:=VJ hpk (mT dO) hv;simp[cC,eD,this]
      .cases h1
     .obtain ⟨p,hp,rfl⟩:=zg.1 dO;obtain⟨o1,r1,rfl,this⟩:=NC aer hp hv;simp[cC,eD,this]
   .exact hfo.tm k v dO hv
  let Inv (a':Act) (w':World) (m:Nat):Prop:=YS a' w' al∧∃x gb vals als bl,iter (DT rv (uj E call n fid rv b i) sh bs s1.aH (yq (kJ b)) (cT ds ow bs fr s1) E.pn al) m x=some o∧vO sh bs (cT ds ow bs fr s1).1 (cT ds ow bs fr s1).2 s g w x a' gb w' vals als bl
  have WE:∀(a':Act)(w':World),∃m,(∃k,Inv a' w' k)->Inv a' w' m∧∀k,Inv a' w' k->m<=k:=by
   intro a' w';by_cases hex:∃k,Inv a' w' k
   .obtain ⟨m,hm,hmin⟩:=S9 (λk=>Inv a' w' k) hex;exact⟨m,λ_=>⟨hm,hmin⟩⟩
   .exact ⟨0,λh=>absurd h hex⟩
  obtain⟨M,hM⟩:∃M:Act->World->Nat,∀a' w',(∃k,Inv a' w' k)->Inv a' w' (M a' w')∧∀k,Inv a' w' k->M a' w'<=k:=
   ⟨λa' w'=>Classical.choose (WE a' w'),λa' w'=>Classical.choose_spec (WE a' w')⟩
  refine OB (λa' w'=>∃k,Inv a' w' k) M ?_ _ a w (bT _) ⟨n,wj hf hs W4,x0,_,HD,vC,bl1,aia,O7⟩;intro a' w' hI;obtain⟨⟨W5,x,gb,vals,als,bl,hit,hbase⟩,hmin⟩:=hM a' w' hI;obtain⟨m,hm,o',mD,Iq⟩:=Tg hit;unfold DT at mD;split at mD
  .cases mD
  rename_i aez iV WL;obtain⟨gh,hh0,wH⟩:=hbase.head W1 WL;have hh:=hh0.lJ TA W5;generalize lJ iV al aez=mE at hh mD;have aea:mE.n=fr.n:=hh.n;have aas:iV.lo<=iV.aH:=by have h1:iV.lo=s.lo:=hh.lo.trans kH.lo;have h2:=hh.aH;have h3:(cT ds ow bs fr s1).2.aH=s1.aH:=rfl;have:=kH.aH;omega
  refine wpIn_mono (ih i mD hrd (by rw[aea];exact hn) aas hh.fr hh.rel) λe Hw w'' hq=>?_;rcases hq with hF|⟨ex,GA,s2,g2,h1,h2,h3,h4,h5,h6⟩
  .exact hF.elim
  replace h6:eK ds mE GA s2.dr iV.aH:=h6.mono (λk hk=>by rw[<-hds];exact eJ _ hk) (λ_ h=>h)
  rcases af h2 with⟨aeg,h2⟩|⟨_,h2⟩;rotate_left
  .cases h2
  have MN:GA.df.length=mE.df.length:=by have:=beq_iff'.1 aeg;rw[bH,bH]at this;rw[this,hh.Kb]
  have next:∀{xJ:Sh}{y:fW S.A (lz xJ)}{s2' s3:bq S}{g2':Gh}{Eo:List Nat},fA iV gh w' s2' g2' w''->cE g2' (bx GA) Hw w''->eK ds mE GA s2'.dr iV.aH->sx xJ bs GA s2'=some (y,s3,Eo)->
    N8 s1.aH bs s3.wr=true->Eo.all (λo=>Nat.ble s1.aH o)=true->s3.dr.all (λo=>Nat.ble s1.aH o)=true->
    ∃Gz vals' mX Aw,vO xJ bs (cT ds ow bs fr s1).1 (cT ds ow bs fr s1).2 s g w y Hw Gz w'' vals' mX Aw∧∀b,g2'.bz b->Gz.bz b:=by
   intro xJ y s2' s3 g2' Eo k1 k2 k3 k4 k5 k6 k7;obtain⟨g3,vals',mX,Aw,Wx⟩:=nW hE.sg (bl0:=bl) k2 k1.rel ⟨hbase.Zf.1,λj o b q1 q2=>k1.ext.cj o b (hh.le.cj o b (hbase.Zf.2 j o b q1 q2))⟩ k4;exact⟨_,vals',mX,Aw,IK Tz JZ (λb hb=>⟨by have:=(kH.XF b hb).2.1;rw[kH.aH];exact this,(kH.XF b hb).2.2.1⟩) adN (by rw[kH.aH];exact hlo) (λo ho=>(kH.owp o ho).2.1) (λo b hb=>⟨by rw[kH.aH];exact hs.lt hb,λhm=>by rw[kH.owb o hm]at hb;cases hb⟩) Il kH.lo kH.fl wH hh k1 k2 k3 h3 MN Wx k5 k6 k7,Wx.ext.bz⟩
  have leave:∀{xJ:Sh}{y:fW S.A (lz xJ)}{Gz:Gh}{vals':List Value}{mX:List fB}{Aw:List Nat}{wJ:bV S}{HH:bq S},DN ds xJ=true->vO xJ bs (cT ds ow bs fr s1).1 (cT ds ow bs fr s1).2 s g w y Hw Gz w'' vals' mX Aw->kT xJ bs y (cT ds ow bs fr s1).1 (cT ds ow bs fr s1).2=some (wJ,HH)->
    ∃gy,cE gy (bx wJ) Hw w''∧(∀b,Gz.bz b->gy.bz b)∧fA s g w {HH with wr:=s1.ob.jA (jQ (eD ow s1.aH))++(bs++s1.wr),dr:=ow++s1.dr} gy w''∧eK ds fr wJ (ow++s1.dr) s.aH∧wJ.n=fr.n:=by
   intro xJ y Gz vals' mX Aw wJ HH adL k1 k2;obtain⟨gy,k3,k4⟩:=k1.head W1 k2;obtain⟨k5,k6,k7⟩:=Nx (ex:=[]) (λ_ h=>by cases h) hs JZ kH adL k4 k3;exact⟨gy,k3.fr,k3.le.bz,k5,k6,k7⟩
  cases h1 with
  |pR=>
   rcases af h2 with⟨aes,h2⟩|⟨_,h2⟩;rotate_left
   .cases h2
   simp only[tI]at h2;split at h2
   .rename_i y s3 Eo yb;rcases af h2 with⟨hc,h2⟩|⟨_,h2⟩;rotate_left
    .cases h2
    simp only[eE]at hc;obtain⟨Gz,vals',mX,Aw,k1,_⟩:=next h5 h4 h6 yb hc.1 hc.2.1 hc.2.2
    cases h2;rcases Iq with⟨y',hy',aay⟩|⟨rfl,hno⟩
    .cases hy';have hIy:Inv Hw w'' m:=⟨wj h4 h5.rel aes,y,Gz,vals',mX,Aw,aay,k1⟩;refine⟨⟨m,hIy⟩,?_⟩;have:=(hM Hw w'' ⟨m,hIy⟩).2 m hIy;omega
    .exact absurd rfl (hno y)
   .cases h2
  |ext j=>
   rcases af h2 with⟨hj,h2⟩|⟨_,h2⟩;rotate_left
   .cases h2
   simp only[tI]at h2;split at h2
   .rename_i y s3 Eo yb;rcases af h2 with⟨hc,h2⟩|⟨_,h2⟩;rotate_left
    .cases h2
    simp only[eE]at hc;obtain⟨Gz,vals',mX,Aw,k1,_⟩:=next h5 h4 h6 yb hc.1 hc.2.1 hc.2.2
    cases h2;rcases Iq with⟨y',hy',aay⟩|⟨rfl,hno⟩
    .cases hy'
    .simp only at hout;split at hout
     .cases hout
     .rename_i wJ HH Tt;obtain⟨gy,l1,_,l2,l3,l4⟩:=leave Il k1 Tt;rw[eE]at hj;have WJ:j∈yq (kJ b):=by simpa using hj.1
      obtain⟨m1,m2,m3,m4⟩:=kR (s:=HH) l2.rel TA (wj h4 h5.rel hj.2) l1;exact .inr ⟨.ext j,lJ HH al wJ,_,gy,.ext j,xQ WJ hout,m2.trans l4,m1,l2,fix ⟨λk v hk hv=>by rw[m4 k λhm=>hk (Tz k hm)];exact l3.tm k v hk hv,by rw[m3];exact l3.df⟩⟩
   .cases h2
  |ret=>
   simp only at h2;split at h2
   .cases h2
   rename_i vs hvs;split at h2;rotate_left
   .cases h2
   rename_i r' fz owr Tp;split at h2;rotate_left
   .cases h2
   rename_i s2' hfz;simp only[tI]at h2;split at h2
   .rename_i y s3 Eo yb;rcases af h2 with⟨hc,h2⟩|⟨_,h2⟩;rotate_left
    .cases h2
    simp only[eE]at hc;obtain⟨agu,lE,dc⟩:=Jg h4 hvs;obtain⟨p1,p2,p3⟩:=gn hE.sg h5.rel Tp dc;obtain⟨g3,OS,Ip,O6⟩:=en fz h5.rel (de hE.sg _ hfz) p1;have OX:owr=[]:=oP (Bs rv) Tp;obtain⟨alr,lC,_⟩:=p3 g3 (aF s2') fz OS Ip O6 (λo ho=>ho) (λo ho=>by rw[OX]at ho;cases ho);obtain⟨f1,f2,f3,f4,f5,f6,f7⟩:=ew hfz;have bX:fA s2 g2 w'' s2' g3 w'':=⟨OS,Ip.HG _,f1,f2,zl f3.symm,f4,λo _ ho=>f5 o ho,λo ho=>by rw[f7];exact ho⟩;have N5:cE g3 (bx GA) Hw w'':=h4.ext Ip h5.rel.bz;obtain⟨Gz,vals',mX,Aw,k1,k2⟩:=next (h5.trans bX) N5 (by rw[f7];exact h6) yb hc.1 hc.2.1 hc.2.2
    cases h2;rcases Iq with⟨y',hy',aay⟩|⟨rfl,hno⟩
    .cases hy'
    .simp only at hout;split at hout
     .cases hout
     .rename_i wJ HH Tt;obtain⟨gy,l1,l0,l2,l3,l4⟩:=leave (oH ds sh) k1 Tt;obtain⟨m1,m2,m3⟩:=uv (g:=gy) (w:=w'') (a:=Hw) (fr:=wJ) lC (λb hb=>l0 b (k2 b hb)) lE (by rw[l4];exact hn) l1;have hdf:∀(rv:Rv)(r:gp S.A (GG rv))(fr:bV S),(wU rv r fr).df=fr.df:=by
       intro rv
       induction rv with|nil=>intro _ _;rfl|cons q rv ih=>intro r fr;obtain⟨k,t⟩:=q;exact ih _ _
      refine .inr ⟨.ret,_,_,gy,.ret,hout,m2.trans l4,m1,l2,⟨λk v hk hv=>?_,by rw[hdf];exact l3.df⟩⟩;rw[m3 k (λhm=>hk (iW _ hm))];exact(fix l3).tm k v hk hv
   .cases h2
  |dm t v hv=>
   rcases af h2 with⟨hpn,h2⟩|⟨_,h2⟩;rotate_left
   .cases h2
   split at h2;rotate_left
   .cases h2
   rename_i r' fz owr Tp;split at h2;rotate_left
   .cases h2
   rename_i s2' hfz;simp only[tI]at h2;split at h2;rotate_left
   .cases h2
   rename_i y s3 Eo yb;rcases af h2 with⟨hc,h2⟩|⟨_,h2⟩;rotate_left
   .cases h2
   simp only[eE]at hc;have dc:PW (aJ g2 w'') (bh [t]) [v]:=⟨rfl,λj t' v' q1 q2=>by
    cases j with
    |zero=>simp[bh]at q1 q2;subst q1;subst q2;exact hv
    |succ j=>simp[bh]at q1⟩
   obtain⟨p1,p2,p3⟩:=gn hE.sg h5.rel Tp dc;obtain⟨g3,OS,Ip,O6⟩:=en fz h5.rel (de hE.sg _ hfz) p1;have OX:owr=[]:=oP (cs:=[.dat S.pt]) rfl Tp;obtain⟨alr,lC,_⟩:=p3 g3 (aF s2') fz OS Ip O6 (λo ho=>ho) (λo ho=>by rw[OX]at ho;cases ho);obtain⟨f1,f2,f3,f4,f5,f6,f7⟩:=ew hfz;have bX:fA s2 g2 w'' s2' g3 w'':=⟨OS,Ip.HG _,f1,f2,zl f3.symm,f4,λo _ ho=>f5 o ho,λo ho=>by rw[f7];exact ho⟩;have N5:cE g3 (bx GA) Hw w'':=h4.ext Ip h5.rel.bz;obtain⟨Gz,vals',mX,Aw,k1,k2⟩:=next (h5.trans bX) N5 (by rw[f7];exact h6) yb hc.1 hc.2.1 hc.2.2
   cases h2;rcases Iq with⟨y',hy',aay⟩|⟨rfl,hno⟩
   .cases hy'
   .simp only at hout;rcases af hout with⟨_,hout⟩|⟨_,hout⟩;rotate_left
    .cases hout
    split at hout
    .cases hout
    .rename_i wJ HH Tt;obtain⟨gy,l1,l0,l2,l3,l4⟩:=leave (oH ds sh) k1 Tt;refine .inr ⟨.dm (.ty S.pt r'.1),wJ,_,gy,.dm _ v ?_,hout,l4,l1,l2,fix l3⟩;cases lC with|@dat _ _ x h v vs al hd hr=>exact oE (hd.le λb hb=>l0 b (k2 b hb))
 |exit j=>intro i ω Q r fr s h hrd hn hlo g a w hf hs;exact wpIn_exit (.inr ⟨_,fr,s,g,.ext j,h,rfl,hf,fA.refl hs,eK.refl _ _ _ _⟩)
 |ret=>intro i ω Q r fr s h hrd hn hlo g a w hf hs;exact wpIn_ret (.inr ⟨_,fr,s,g,.ret,h,rfl,hf,fA.refl hs,eK.refl _ _ _ _⟩)
 |skip=>intro i ω Q r fr s h hrd hn hlo g a w hf hs;exact wpIn_skip (.inr ⟨_,fr,s,g,.pR,h,rfl,hf,fA.refl hs,eK.refl _ _ _ _⟩)
 |label j=>intro i ω Q r fr s h hrd hn hlo g a w hf hs;exact wpIn_label (.inr ⟨_,fr,s,g,.pR,h,rfl,hf,fA.refl hs,eK.refl _ _ _ _⟩)
 |scope b ih=>
  intro i ω Q r fr s h hrd hn hlo g a w hf hs;have hr0:rr=none:=by cases rr with|none=>rfl|some l=>have:=hrd (by simp);simp[N2]at this
  subst hr0;simp only[uj]at h;refine wpIn_wide.2 (wp_scope_straight (wp_mono (wpIn_wide.1 (ih i h (λh=>absurd rfl h) hn hlo hf hs)) λe a' w' hq=>?_));rcases hq with hF|⟨ex,fr',s',g',h1,h2⟩
  .exact hF.elim
  .cases h1 with|pR=>exact .inr ⟨_,fr',s',g',.pR,h2⟩|ext j=>exact .inr ⟨_,fr',s',g',.ext j,h2⟩|ret=>exact .inr ⟨_,fr',s',g',.ret,h2⟩|dm t v hv=>exact .inr ⟨_,fr',s',g',.dm t v hv,h2⟩
 |rangeFunc gv ps T5 body _ _=>
  intro i ω Q r fr s h hrd hn hlo g a w hf hs;have hr0:rr=none:=by cases rr with|none=>rfl|some l=>have:=hrd (by simp);simp[N2]at this
  subst hr0;exact LC hE dU n fid rv h hn hf hs
 |_=>intro i ω Q r fr s h;simp[uj]at h
end
section
def Ms:∀t:T,er (λ_=>false) t=false:=by
 intro t
 induction t using T.rec (motive_2:=λl=>jS (λ_=>false) l=false)with|fn f a b JR ihb=>simp[er,JR,ihb]|cR t v ih=>simp[er,ih]|agg cs ih=>simp[er,ih]|gq cs ih=>simp[er,ih]|gd c v ih=>simp[er,ih]|nil=>rfl|cons a l JR ihl=>simp[jS,JR,ihl]|_=>simp[er]
def sk(hS:fy S){E:gA}(hE:PV S E){s:bq S}{fr:bV S}:∀{l:List ResultVar}{vs:List (V S)},ko E s fr l=some vs->∃p,kq E.E (aF s) (bx fr) l=some (p,bh vs)∧p
 |[],vs,h=>by simp only[ko,bf]at h;subst h;exact⟨True,rfl,trivial⟩
 | .tmp t::l,vs,h=>by
  simp only[ko]at h;split at h
  .rename_i x r h1 h2;simp only[bf]at h;subst h;obtain⟨p,e,hp⟩:=sk hS hE h2;exact⟨p,by simp only[kq,bO,h1,dX,e,bh],hp⟩
  .cases h
 | .cell a t::l,vs,h=>by
  simp only[ko]at h;split at h
  .rename_i i x hi hx;split at h
   .rename_i c y s' r hy h2;rcases af h with⟨hc,h⟩|⟨_,h⟩
    .simp only[bf]at h;subst h;obtain⟨rfl,q,e1,hq⟩:=Ic hS (λu hu=>hE.row _ _ _ hi hu) hy hc;obtain⟨p,e,hp⟩:=sk hS hE h2;exact⟨q∧p,by simp only[kq,hi,bO,hx,dX,e1,e,bh],hq,hp⟩
    .cases h
   .cases h
  .cases h
def V1:∀l:List (V S),low (GD l)=acY (bh l)
 |[]=>rfl
 |[_]=>rfl
 |_::_::_=>rfl
def Cf:∀(l:List (V S))(k:Nat)(t:Tr (V S)),(n4 l k t).map low=AT (bh l) k (t.map low)
 |[],_,_=>rfl
 |a::l,k,t=>by simp only[n4,bh,AT];rw[Cf l,Tr.lG]
variable {E:ga S}{s s' s0:bq S}{fr:bV S}{g g' g0:Gh}{w w' w0:World}{fn:Func}{call:iB S}{m:Nat}{st:Bool->List Frame}{R:Ending->World->Prop}
def fA.HG(hs:bg g (aF s) w)(h:fA {s with lo:=s.aH} g w s' g' w'):cN [] s g w {s' with lo:=s.lo} g' w':=by have hk:tQ g.bz w w':=λb hb=>h.ext.heap b (hs.bz b hb) (λo _ hO=>hO.1 hb);refine⟨⟨h.rel.aH,h.rel.ak,h.rel.box,h.rel.arr,h.rel.bz,h.rel.mj⟩,⟨λo b e=>h.ext.cj o b e,λo e x _ k=>h.ext.arr o e x (hs.lt' k) k,h.ext.bz,h.ext.size,h.ext.heap,h.ext.own,h.ext.uJ,h.ext.os,h.ext.output⟩,h.fl,rfl,h.aH,h.vS,h.same,λt v ht _=>?_,λo ho=>(by cases ho),h.Hp,λo ho=>(by cases ho)⟩;exact ht.on (p:=λ_=>false) ⟨λo b _ e=>h.ext.cj o b e,λo e x _ k=>h.ext.arr o e x (hs.lt' k) k,h.ext.bz⟩ hk (Ms t)
def AS{n:Nat}(hn:n<bA){args:List (V S)}{vs:Array Value}(hl:args.length<=n)(dc:PW (aJ g w) (bh args) vs.toList) :
  cE g (bx {n:=n,tm:=n4 args 0 .nil}) {tmps:=vs++Array.replicate (n-vs.size) undef,defers:=[]} w:=by
 have hal:(bh args).length=vs.size:=by simpa using dc.1
 have hal':args.length=vs.size:=by rw[<-hal,eR]
 refine⟨by simp[bx];omega,.nil,λj t hj=>?_⟩;have e:(bx {n:=n,tm:=n4 args 0 .nil}).get j=(AT (bh args) 0 .nil).get j:=by show((n4 args 0 .nil).map low).get j=_;rw[Cf];rfl
 rw[e,EP _ _ _ (by omega)]at hj;simp only[wZ,ju,true_and,Nat.sub_zero]at hj;split at hj
 .rename_i hlt;have hjv:j<vs.size:=by omega
  refine⟨vs[j],?_,dc.2 j t _ hj (by simp[hjv])⟩;rw[QY,bL hjv];exact oN hjv
 .rw[Tr.get_nil]at hj;cases hj
def wY(hE:eL E){a:Act}(hf:cE g (bx fr) a w)(hs:bg g (aF s) w){l:List (V S)}(h:ko E.T s fr fn.results.toList=some l) :
  ∃v,(results fn a.tmps).run E.T.E.P w=.ok v w∧aJ g w (low (GD l)) v:=by
 obtain⟨p,e,hp⟩:=sk hE.sg hE.ty h;obtain⟨v,hv,ht⟩:=Lx hE.Uv hf hs e hp;exact⟨v,hv,by rw[V1];exact ht⟩
def cN.trans{s s' s'':bq S}{g g' xh:Gh}{w w' w'':World}(h:cN [] s g w s' g' w')(k:cN [] s' g' w' s'' xh w''):cN [] s g w s'' xh w'' where
 rel:=k.rel
 ext:=h.ext.trans (h.fl▸h.lo▸k.ext)
 fl:=k.fl.trans h.fl
 lo:=k.lo.trans h.lo
 aH:=fS h.aH k.aH
 vS:=λo ho=>k.vS o (h.vS o ho)
 same:=λo hl ho=>(k.same o (dy hl h.aH) ho).trans (h.same o hl λhm=>ho (k.vS o hm))
 tr:=λt v ht hm=>k.tr t v (h.tr t v ht hm) hm
 oww:=λo ho=>by cases ho
 Hp:=λo ho=>k.Hp o (h.Hp o ho)
 owd:=λo ho=>by cases ho
def UR(g:Gh)(w:World):Option (V S)->FrameMode->Prop
 |none,u=>u=.returning
 |some t,u=>∃v,u=.panicking [{v,recovered:=false}]∧aJ g w (low t) v
structure acm(g:Gh)(s:bq S)(w:World)(pv:Option (V S))(st:Bool->List Frame)(vp:Value):Prop where
 rel:∀g' s' w',fA s g w s' g' w'->aJ g' w' (low (agw pv)) vp
 rcv:(pv=none∧recoverD (st false)=none∧vp=.nilIface)∨(pv.isSome=true∧recoverD (st false)=some (vp,st true))
def QRV(s:bq S)(g:Gh)(w:World)(m:Nat)(st:Bool->List Frame){ω:Type}(Q:Bool->xC S->bV S->bq S->Option ω)(r:ω)(e:Exit)(a:Act)(cs:List Frame)(w':World):Prop:=
 False∨∃rec ex fr' s' g',cs=st rec∧Qm g' w' ex e∧Q rec ex fr' s'=some r∧fr'.n=m∧cE g' (bx fr') a w'∧fA s g w s' g' w'
def Wh{o:Oper}(h:isRec o=true):o.guard=none∧∃c,o.op=.call c∧c.callee=.builtin .recover:=by
 unfold isRec at h;split at h
 .rename_i c hg hop;split at h
  .rename_i hc;exact⟨hg,c,hop,hc⟩
  .cases h
 .cases h
def r5(hE:eL E)(dU:fV E.T.E.P call)(iY:qO E call)(n:Nat)(fid:FuncId)(rv:Rv)(hlo:s0.lo<=s0.aH)(hm:m<=bA)(rec:Bool)
  (c:Code) (i:Nat) {ω:Type} {Q:Bool->xC S->bV S->bq S->Option ω} {r:ω} {fr:bV S} {s:bq S} (h:uj E call n fid rv c i (Q rec) fr s=some r) (hn:fr.n=m) {g:Gh} {a:Act} {w:World} (hs:fA s0 g0 w0 s g w) (hf:cE g (bx fr) a w) :
  c.wpS E.T.E.P (QRV s0 g0 w0 m st Q r) a (st rec) w:=by
 refine wpS_of_wp (wp_mono (wpIn_wide.1 (rP (rr:=none) hE dU iY n fid rv c i h (λh=>absurd rfl h) (by omega) ?_ hf hs.rel)) λe a' w' hq=>?_)
 .have:=hs.aH;rw[hs.lo];omega
 rcases hq with hF|⟨ex,fr',s',g',h1,h2,h3,h4,h5,h6⟩
 .exact hF.elim
 .exact .inr ⟨rec,ex,fr',s',g',rfl,h1,h2,h3.trans hn,h4,hs.trans h5⟩
def TJ(hE:eL E)(dU:fV E.T.E.P call)(iY:qO E call)(n:Nat)(pv:Option (V S))(fid:FuncId)(rv:Rv)(hlo:s0.lo<=s0.aH)(hm:m<=bA){vp:Value}
  (GX:acm g0 s0 w0 pv st vp):∀(c:Code)(i:Nat){ω:Type}{Q:Bool->xC S->bV S->bq S->Option ω}{r:ω}{fr:bV S}{s:bq S},evR E call n pv fid rv c i Q fr s=some r->fr.n=m->
  ∀{g:Gh}{a:Act}{w:World},fA s0 g0 w0 s g w->cE g (bx fr) a w->c.wpS E.T.E.P (QRV s0 g0 w0 m st Q r) a (st false) w:=by
 intro c
 induction c with
 |seq x y ihx ihy=>
  intro i ω Q r fr s h hn g a w hs hf;simp only[evR]at h;refine wpS_seq λb k hb hr=>?_;obtain⟨e,a',cs',w',hq,eP⟩:=ihx i h hn hs hf b k hb hr;refine⟨e,a',cs',w',?_,eP⟩;rcases hq with hF|⟨rec,ex,fr',s',g',h0,h1,h2,h3,h4,h5⟩
  .exact hF.elim
  .cases h1 with|pR=>subst h0;exact r5 hE dU iY n fid rv hlo hm rec y i h2 h3 h5 h4|ext j=>exact .inr ⟨rec,_,fr',s',g',h0,.ext j,h2,h3,h4,h5⟩|ret=>exact .inr ⟨rec,_,fr',s',g',h0,.ret,h2,h3,h4,h5⟩|dm t v hv=>exact .inr ⟨rec,_,fr',s',g',h0,.dm t v hv,h2,h3,h4,h5⟩
 |region id ops draw=>
  intro i ω Q r fr s h hn g a w hs hf;cases draw with
  |true=>exact r5 hE dU iY n fid rv hlo hm false _ i h hn hs hf
  |false=>
   simp only[evR]at h;split at h;rotate_left
   .cases h
   rename_i o l hol;rcases af h with⟨hr,h2⟩|⟨_,h2⟩;rotate_left
   .exact r5 hE dU iY n fid rv hlo hm false _ i h2 hn hs hf
   rcases af h2 with⟨hd,h3⟩|⟨_,h3⟩;rotate_left
   .cases h3
   obtain⟨hg,c,hop,uQ⟩:=Wh hr;rw[<-hol]at h3;have ho:ops[0]?=some o:=by have:=nB (λl=>l[0]?) hol;simpa using this
   have hsz:ops.size=l.length+1:=by have:=nB List.length hol;simpa using this
   have hw:Region.wanted o (yielded ops a.tmps)=true:=by simp[Region.wanted,hg]
   have hrun:(execOp a.eval o).run E.T.E.P w=.ok .recover w:=by simp only[execOp,hop,resolve,uQ,Sem.run_bind,Sem.run_pure,Result.andThen_ok,invoke];simp[builtin]
   have lC:=GX.rel _ _ _ hs;obtain⟨k1,k2⟩:=su hf hd (by omega) lC;have key:∃rec,rec=pv.isSome∧recoverD (st false)=(if rec then some (vp,st true)else none)∧(rec=false->vp=.nilIface):=by
    rcases GX.rcv with⟨e1,e2,e3⟩|⟨e1,e2⟩
    .exact ⟨false,by rw[e1];rfl,by simpa using e2,λ_=>e3⟩
    .exact ⟨true,e1.symm,by simpa using e2,λh=>by cases h⟩
   obtain⟨rec,anY,hrd,GZ⟩:=key;rw[<-anY]at h3;have hwp:vF none E.T.E.P ops (λe a' w'=>QRV s0 g0 w0 m st Q r e a' (st rec) w') (List.range' 1 l.length) (a.put o.dst vp) w:=by
    refine Cn hE dU (rr:=none) (λh=>absurd rfl h) l 1 (by rw[hol];rfl) (by rw[k2];omega) h3 k1 hs.rel (λfr' s' g' a' w' q1 q2 q3 q4 _=>.inr ⟨rec,.pR,fr',s',g',rfl,.pR,q1,by omega,q3,hs.trans q4⟩)
     (λfr' t s' g' a' v w' q1 q2 q3 q4 _ q5=>.inr ⟨rec,.dm t,fr',s',g',rfl,.dm t v q5,q1,by omega,q3,hs.trans q4⟩)
   intro b k hb hro;have JT:List.range ops.size=0::List.range' 1 l.length:=by rw[List.range_eq_range',hsz,List.range'_succ]
   have UD:=stepG_op (P:=E.T.E.P) (b:=b) (k:=k) (cs:=st false) (w:=w) (rest:=List.range' 1 l.length) ho hw;have He:∀v,(b.at a (.inRegion ops (0::List.range' 1 l.length)::k)).finish v=b.at (a.put o.dst v) (.inRegion ops (List.range' 1 l.length)::k):=by intro v;rw[Frame.finish_at,ho];rfl
   have hk:(b.at a (.inRegion ops (0::List.range' 1 l.length)::k)).kind=.deferred:=hb;have htr:=tryRecover_deferred hk (st false);obtain⟨e,a',w',hq,ain⟩:=mw _ _ _ hwp b k (st rec) hro;have eP:=(arrivesIn_iff (λ_ _=>stepsIn_wide) hro).1 ain;rw[Frame.atR_of_none hro]at eP;refine⟨e,a',st rec,w',hq,.of_steps (.one step_region) ?_⟩;rw[JT];refine .of_steps (.one (step_lone_go ?_)) eP;rw[UD,<-He];simp only[Frame.at]at htr ⊢;rw[hrd]at htr;cases rec with|true=>simp[stepG.apply,hrun,htr]|false=>have:=GZ rfl;subst this;simp[stepG.apply,hrun,htr]
 |_=>intro i ω Q r fr s h hn g a w hs hf;exact r5 hE dU iY n fid rv hlo hm false _ i h hn hs hf
def Lb:FrameMode->Value
 | .panicking (p::_)=>p.v
 |_=>.nilIface
def UQ:FrameMode->FrameMode
 | .panicking (p::_)=>.panicking [{v:=p.v,recovered:=true}]
 |m=>m
def M1(hE:eL E)(dU:fV E.T.E.P call)(iY:qO E call)(n:Nat){pv:Option (V S)}{d:BK S}{ω:Type}{k:Bool->bq S->Option ω}{r:ω}(h:Xg E call n pv d s k=some r)
  {g:Gh} {w:World} (hs:bg g (aF s) w) {e:Deferred} (hd:vM g w (rH d) e) {u:FrameMode} (hu:UR g w pv u) :
  u≠.run∧((∃b w',e.target=.collected b∧(Instr.takeDeferred b).run E.T.E.P w=.ok [] w'∧∃s',k false s'=some r∧UR g w' pv u∧cN [] s g w s' g w')∨∃fv cap f args,e.target=.fn fv cap∧(invoke e.target e.args).run E.T.E.P w=.ok (.enter f args) w∧CallsD E.T.E.P f args u w λ
   | .returned _,u',w'=>∃rec s' g',k rec s'=some r∧UR g' w' (bif rec then none else pv) (settle u')∧cN [] s g w s' g' w'
   | .panicked _,_,_=>False
   | .outgrown,_,_=>False):=by
 have hrun:u≠.run:=by cases pv with|none=>rw[show u=.returning from hu];simp|some t=>obtain⟨v,rfl,_⟩:=hu;simp
 refine⟨hrun,?_⟩;unfold Xg at h;split at h;rotate_left
 .rename_i o
  left
  simp only[rH]at hd;cases hd with
  |mark _ b hb=>
  split at h;rotate_left
  .cases h
  rename_i ho;rcases af h with⟨hfl,h2⟩|⟨_,h2⟩;rotate_left
  .cases h2
  rw[eE]at hfl;have ho':(aF s).ob.get o=some .Av:=by rw[aV,ho];rfl
  obtain⟨x,hx,hr⟩:=(hs.box o b hb).2.2 _ ho';cases hr with
  |Av=>
  obtain⟨h3,he⟩:=hs.akW (w':=w.putObj b (.deferred none)) hb ho' rfl (fQ hfl.1) World.putObj_size (λb' hb'=>World.putObj_heap_other hb') rfl rfl;have hlt:o<bA:=fQ hfl.2;have hlt':o+1<2 ^ aI:=by unfold aI;unfold bA at hlt;omega
  have bX:cN [] s g w {s with ob:=s.ob.del aI o,wr:=o::s.wr} g (w.putObj b (.deferred none)):=by
   refine cN.l7 hs (h3.W9 rfl λk=>?_) he rfl rfl (bT _) ⟨λ_ h=>gL _ h,λk _ hk=>?_,rfl⟩
   .show (Tr.map cQ (s.ob.del aI o)).get k=((aF s).ob.del aI o).get k;rw[Tr.get_map,Tr.sO _ _ _ _ hlt',Tr.sO _ _ _ _ hlt',aV];split<;>rfl
   .exact (Tr.sO _ _ _ _ hlt').trans (bw λe=>hk (by rw[e];exact eC))
  refine⟨b,_,rfl,run_takeDeferred hx,_,h2,?_,bX⟩;cases pv with|none=>exact hu|some t=>obtain⟨v,hu,ht⟩:=hu;exact⟨v,hu,bX.tr _ _ ht (ov _)⟩
 .cases h
 rename_i fv args
 right
 split at h
 .cases h
 rename_i f args' uQ;split at h
 .cases h
 rename_i fn hfn;split at h
 .cases h
 rename_i c hc;rcases af h with⟨hb,h2⟩|⟨_,h2⟩;rotate_left
 .cases h2
 clear h;rw[AI]at hb;have jC:=qm uQ;unfold wg at jC;split at jC;rotate_left
 .cases jC
 rename_i f' first cap wG
 simp only[bf,bB]at jC;obtain⟨rfl,yf⟩:=jC;simp only[rH]at hd;cases hd with
 |call _ _ fvn xa xc wQ h3 h4 h5=>
 rw[wG]at h3;cases h3 with
 |fn _ _ _ _ _ l1 l2 r1 r2=>
 have UE:=hE.Uv.UG _ _ hfn;have AY:mM E.T.E.P f':=⟨fn,UE,by rw[hc];rfl,hE.name _ _ hfn⟩;refine⟨_,_,f',xa++wQ++xc,rfl,?_,?_⟩
 .simp only[invoke];exact vW AY _
 have dc:PW (aJ g w) (bh args') (xa++wQ++xc).toList:=by rw[<-yf];simp only[GN];exact PW.append (PW.append ⟨by simpa using l1,λj x y h1 h2=>r1 j x y h1 (by simpa using h2)⟩ ⟨by simpa using h4,λj x y h1 h2=>h5 j x y h1 (by simpa using h2)⟩) ⟨by simpa using l2,λj x y h1 h2=>r2 j x y h1 (by simpa using h2)⟩
 have n5:args'.length<=fn.ntmps:=by have:=fQ hb.1;rwa [bH]at this
 have fM:fn.ntmps<bA:=fQ hb.2;have WT:=AS (n:=fn.ntmps) fM n5 dc;have hs0:bg g (aF {s with lo:=s.aH}) w:=⟨hs.aH,hs.ak,hs.box,hs.arr,hs.bz,hs.mj⟩;refine callsD_of_wpS UE hc λc₀ cs hcu=>?_
 let st:Bool->List Frame:=λrec=>(if rec then{c₀ with mode:=UQ u}else{c₀ with mode:=u})::cs
 have anQ:st false=c₀::cs:=by show{c₀ with mode:=u}::cs=c₀::cs;rw[<-hcu]
 have GX:acm g {s with lo:=s.aH} w pv st (Lb u):=by
  cases pv with
  |none=>
   have hu:u=.returning:=hu;refine⟨λg' s' w' _=>?_,.inl ⟨rfl,?_,?_⟩⟩
   .show aJ g' w' (low (.dat (.lit .nilIface))) (Lb u);simp only[Lb,hu];exact .sym _ _ (.lit _)
   .show recoverD ({c₀ with mode:=u}::cs)=none;simp only[recoverD,hu]
   .simp only[Lb,hu]
  |some t=>
   obtain⟨v,hu,ht⟩:=hu;refine⟨λg' s' w' bX=>?_,.inr ⟨rfl,?_⟩⟩
   .show aJ g' w' (low t) (Lb u);simp only[Lb,hu];exact(fA.HG hs bX).tr _ _ ht (ov _)
   .show recoverD ({c₀ with mode:=u}::cs)=some (Lb u,{c₀ with mode:=UQ u}::cs);simp only[recoverD,hu,Lb,UQ]
 have hw:=TJ hE dU iY n pv f' _ (s0:={s with lo:=s.aH}) (g0:=g) (w0:=w) (bT _) (m:=fn.ntmps) (Nat.le_of_lt fM) (st:=st) GX c 0 h2 rfl (fA.refl hs0) WT;rw[anQ]at hw;intro b kk hb' hro;obtain⟨e,a',cs',w',hq,eP⟩:=hw b kk hb' hro;refine⟨e,a',cs',w',?_,eP⟩;rcases hq with hF|⟨rec,ex,fr',s',g',k0,k1,k2,k3,k4,k5⟩
 .exact hF.elim
 have bX:=fA.HG hs k5;dsimp only at k2;split at k2;rotate_left
 .cases k2
 rename_i hdf;have aih:a'.defers=[]:=by have:=k4.df;rw[show(bx fr').df=[]from by simp only[bx,hdf,HO]]at this;generalize a'.defers=m at this;cases this;rfl
 have ya:∃u',cs'={c₀ with mode:=u'}::cs∧UR g' w' (bif rec then none else pv) (settle u'):=by
  cases rec with
  |false=>
   refine⟨u,k0,?_⟩;cases pv with|none=>have hu:u=.returning:=hu;rw[hu];rfl|some t=>obtain⟨v,hu,ht⟩:=hu;rw[hu];exact⟨v,rfl,bX.tr _ _ ht (ov _)⟩
  |true=>
   refine⟨UQ u,k0,?_⟩;show settle (UQ u)=.returning;cases pv with|none=>have hu:u=.returning:=hu;rw[hu];rfl|some t=>obtain⟨v,hu,ht⟩:=hu;rw[hu];rfl
 obtain⟨u',hcs,hur⟩:=ya;have fin:(match ko E.T s' fr' fn.results.toList with|some _=>k rec {s' with lo:=s.lo}|none=>none)=some r->∃v,(results fn a'.tmps).run E.T.E.P w'=.ok v w'∧
   ∃rec s' g',k rec s'=some r∧UR g' w' (bif rec then none else pv) (settle u')∧cN [] s g w s' g' w':=by
  intro k2;split at k2;rotate_left
  .cases k2
  rename_i l hr;obtain⟨v,hv,_⟩:=wY hE k4 k5.rel hr;exact⟨v,hv,rec,_,g',k2,hur,bX⟩
 cases k1 with
 |pR=>obtain⟨v,hv,h⟩:=fin k2;exact⟨aih,u',hcs,v,hv,h⟩
 |ret=>obtain⟨v,hv,h⟩:=fin k2;exact⟨aih,u',hcs,v,hv,h⟩
 |ext j=>cases k2
 |dm t v hv=>cases k2
def M0(hE:eL E)(dU:fV E.T.E.P call)(iY:qO E call)(n:Nat){tmps:Array Value}{ω:Type}{k:Option (V S)->bq S->Option ω}{r:ω}
  (hk:∀pv s' g' w' u,k pv s'=some r->UR g' w' pv u->cN [] s0 g0 w0 s' g' w'->og E.T.E.P fn tmps R [] u w'):∀(l:List (BK S))(pv:Option (V S))(s:bq S),Fb E call n l pv s k=some r->
  ∀(g:Gh)(w:World)(ds:List Deferred)(u:FrameMode),j9 g w (l.map rH) ds->UR g w pv u->cN [] s0 g0 w0 s g w->og E.T.E.P fn tmps R ds u w:=by
 intro l
 induction l with
 |nil=>intro pv s h g w ds u hd hu bX;cases hd;exact hk pv s g w u h hu bX
 |cons d l ih=>
  intro pv s h g w ds u hd hu bX;simp only[lZ]at hd;cases hd with
  | @cons _ e _ ds hd ht=>
  simp only[Fb]at h;obtain⟨h1,h⟩:=M1 hE dU iY n h bX.rel hd hu;rcases h with⟨b,w',h2,h3,s',k1,k2,k3⟩|⟨fv,cap,f,args,h2,h3,h4⟩
  .exact ⟨h1,.inl ⟨b,w',h2,h3,ih _ s' k1 g w' ds u (ht.imp (λt v ht=>k3.tr t v ht (ov _)) λo b hb=>k3.ext.cj o b hb) k2 (bX.trans k3)⟩⟩
  refine⟨h1,.inr ⟨fv,cap,f,args,h2,h3,h4.mono λe u' w' he=>?_⟩⟩;cases e with
  |returned v=>obtain⟨rec,s',g',k1,k2,k3⟩:=he;refine ih _ s' k1 g' w' ds (settle u') (ht.imp (λt v ht=>k3.tr t v ht (ov _)) λo b hb=>k3.ext.cj o b hb) k2 (bX.trans k3)
  |panicked ch=>exact he.elim
  |outgrown=>exact he.elim
def Cp(hE:eL E)(dU:fV E.T.E.P call)(iY:qO E call)(n:Nat){ω:Type}{k kp:V S->bq S->Option ω}{r:ω}{ex:xC S}
  (h:Xf E call n fn.results.toList k kp ex fr s=some r) {g:Gh} {w:World} {e:Exit} {a:Act} (hx:Qm g w ex e) (hf:cE g (bx fr) a w) (hs:bg g (aF s) w)
  (hk:∀t s' g' v w',k t s'=some r->aJ g' w' (low t) v->cN [] s g w s' g' w'->R (.returned v) w')
  (hkp:∀t s' g' v w',kp t s'=some r->aJ g' w' (low t) v->cN [] s g w s' g' w'->R (.panicked [{v,recovered:=false}]) w'):acg E.T.E.P fn R e a w:=by
 have fin:∀(pv:Option (V S))(u:FrameMode),Fb E call n fr.df pv s (MZ E.T fn.results.toList fr k kp)=some r->UR g w pv u->og E.T.E.P fn a.tmps R a.defers u w:=by
  intro pv u h hu;refine M0 hE dU iY n (s0:=s) (g0:=g) (w0:=w) (λpv s' g' w' u h hu bX=>?_) fr.df pv s h g w a.defers u hf.df hu (cN.refl hs);have hf':cE g' (bx fr) a w':=mS (ow:=[]) hf bX;cases pv with
  |none=>
   have hu:u=.returning:=hu;subst hu;simp only[MZ]at h;split at h;rotate_left
   .cases h
   rename_i l hl;obtain⟨v,hv,ht⟩:=wY hE hf' bX.rel hl;exact⟨v,hv,hk _ _ g' v w' h ht bX⟩
  |some t=>obtain⟨v,hu,ht⟩:=hu;subst hu;exact hkp t s' g' v w' h ht bX
 cases hx with
 |pR=>exact fin none .returning h rfl
 |ret=>exact fin none .returning h rfl
 |ext i=>cases h
 |dm t v hv=>exact fin (some t) _ h ⟨v,rfl,hv⟩
end
section
def BR{g:Gh}{w:World}{n:Nat}(hn:n<=bA):∀(ps:List Nat)(args:List (V S))(vs:List Value)(tm:Tr (V S))(tmps:Array Value),(∀k∈ps,k<n)->PW (aJ g w) (bh args) vs->cE g (bx {n:=n,tm:=tm}) {tmps:=tmps,defers:=[]} w->
  cE g (bx {n:=n,tm:=Oh ps args tm}) {tmps:=(ps.zip vs).foldl (λt p=>t.setIfInBounds p.1 p.2) tmps,defers:=[]} w
 |[],_,_,_,_,_,_,h=>h
 |_::_,[],[],_,_,_,_,h=>h
 |_::_,[],_::_,_,_,_,hp,_=>by have:=hp.1;simp[bh]at this
 |_::_,_::_,[],_,_,_,hp,_=>by have:=hp.1;simp[bh]at this
 |k::ps,a::args,v::vs,tm,tmps,hk,hp,h=>by have hv:aJ g w (low a) v:=hp.2 0 _ _ rfl rfl;have hp':PW (aJ g w) (bh args) vs:=⟨by have:=hp.1;simpa[bh]using this,λj t u h1 h2=>hp.2 (j+1) t u (by simpa[bh]using h1) (by simpa using h2)⟩;have h0:=su (dst:=some k) (fr:={n:=n,tm:=tm}) h (by simp only[fX];exact GO (hk k eC)) hn hv;exact BR hn ps args vs _ _ (λj hj=>hk j (gL _ hj)) hp' h0.1
def Sk(ps:Array Tmp)(vs:Array Value)(tmps:Array Value):(ps.zip vs).foldl (λtmps(t,a)=>tmps.setIfInBounds t a) tmps=(ps.toList.zip vs.toList).foldl (λt p=>t.setIfInBounds p.1 p.2) tmps:=by rw[<-Array.foldl_toList,Array.toList_zip]
variable {E:ga S}
def Jj(hE:eL E){call:iB S}(dU:fV E.T.E.P call)(iY:qO E call)(n:Nat){o:Nat}{args:List (V S)}{s:bq S}{ω:Type}{k kp:V S->bq S->Option ω}{r:ω}
  (h:Oj E call n o args s k=some r) {g:Gh} {w:World} {vs:Array Value} {b:Nat} (hs:bg g (aF s) w) (dc:PW (aJ g w) (bh args) vs.toList) (hb:g.cj o=some b) :
  ∃l:Loop,w.heap[b]?=some (.loop l)∧vs.size=l.params.size∧∀rr n,RoundIn (WR rr) n E.T.E.P b l.fn ((l.params.zip vs).foldl (λtmps(t,a)=>tmps.setIfInBounds t a) l.tmps) l.assign l.body w (wq s g w k kp r):=by
 unfold Oj at h;split at h;rotate_left
 .cases h
 rename_i l ho;rcases af h with⟨hc,h1⟩|⟨_,h1⟩;rotate_left
 .cases h1
 clear h;simp only[eE,gr]at hc;obtain⟨hrd,hlen,hpar,hln,hra,hrb,hfl⟩:=hc;obtain⟨hst,hpe⟩:=xL hrd;have hfl:s.fl<=o:=fQ hfl;have hln:l.fr.n<=bA:=fQ hln;have ho0:(aF s).ob.get o=some (.lp (w7 l)):=by rw[aV,ho];rfl
 obtain⟨x,hx,hr⟩:=(hs.box o b hb).2.2 _ ho0;cases hr with
 |lp _ L q1 q2 q4 q5 q6 q8 q9=>
 have hsz:vs.size=L.params.size:=by
  have h1:=beq_iff'.1 hlen;rw[bH,bH]at h1;have h2:=dc.1;rw[eR]at h2;have h3:L.params.toList.length=l.params.length:=by rw[q4];rfl
  simp at h2 h3;omega
 refine⟨L,hx,hsz,λrr n'=>?_⟩;have WT:cE g (bx {n:=l.fr.n,tm:=l.fr.tm}) {tmps:=L.tmps,defers:=[]} w:=⟨q8,.nil,q9⟩;have JX:=BR hln l.params args vs.toList l.fr.tm L.tmps (λk hk=>fQ (hpar k hk)) dc WT;rw[Sk,q4];have hs0:bg g (aF {s with lo:=s.aH}) w:=⟨hs.aH,hs.ak,hs.box,hs.arr,hs.bz,hs.mj⟩;have q5:L.assign=l.assign:=q5;have q6:L.body=l.body:=q6;rw[q5,q6];refine ac7 ?_;refine wpIn_mono (rP (rr:=some b) hE dU iY n l.fid [] l.assign 0 h1 (λ_=>hra) hln (bT _) JX hs0) λe a' w1 hq=>?_;rcases hq with hF|⟨ex,qi,s1,g1,p1,p2,p3,p4,p5,_⟩
 .exact hF.elim
 cases p1 with
 |ext j=>cases p2
 |ret=>cases p2
 |dm t v hv=>cases p2
 |pR=>
 simp only[abC]at p2;split at p2;rotate_left
 .cases p2
 rename_i l1 Au;rcases af p2 with⟨an0,p2'⟩|⟨_,p2'⟩;rotate_left
 .cases p2'
 clear p2;obtain⟨Wt,ahP⟩:=xL an0;have n5:=p5.ext.cj _ _ hb;have ahW:(aF s1).ob.get o=some (.lp (w7 l1)):=by rw[aV,Au];rfl
 obtain⟨x1,hx1,KW⟩:=(p5.rel.box o b n5).2.2 _ ahW;cases KW with
 |lp _ L1 a1 a2 a4 a5 a6 a8 a9=>
 have JW:s1.fl<=o:=by rw[p5.fl];exact hfl
 obtain⟨AW,N6⟩:=p5.rel.setObj (w':=w1.putObj b (.loop {L1 with state:=.busy})) n5 ahW rfl JW (x':=.loop {L1 with state:=.busy}) (Ux:=.lp (w7 {l1 with st:=.busy})) (.lp _ _ rfl a2 a4 a5 a6 a8 a9)
  World.putObj_size (λb' hb'=>World.putObj_heap_other hb') (World.putObj_heap_same (p5.rel.box o b n5).2.1) rfl rfl
 have ah3:aF {s1 with ob:=s1.ob.set aI o (.lp {l1 with st:=.busy})}={aF s1 with ob:=(aF s1).ob.set aI o (cQ (.lp {l1 with st:=.busy}))}:=eZ s1 _ _ s1.wr;have anT:bg g1 (aF {s1 with ob:=s1.ob.set aI o (.lp {l1 with st:=.busy})}) (w1.putObj b (.loop {L1 with state:=.busy})):=by rw[ah3];exact AW
 refine⟨_,run_beginRound hx1 (by rw[a1];exact Wt),?_⟩;have aor:s1.lo<=s1.aH:=by rw[p5.lo];exact p5.aH
 refine wpIn_mono (rP (rr:=some b) hE dU iY n l.fid [] l.body 0 p2' (λ_=>hrb) (by rw[p3];exact hln) aor (p4.ext N6 p5.rel.bz) anT) λe a2 w2 hq=>?_;rcases hq with hF|⟨ex,GA,s2,g2,c1,c2,c3,c4,c5,_⟩
 .exact hF.elim
 cases c1 with
 |ext j=>cases c2
 |ret=>cases c2
 |dm t v hv=>cases c2
 |pR=>
 simp only[abD]at c2;split at c2;rotate_left
 .cases c2
 rename_i l2 UA;have fM:=c5.ext.cj _ _ n5;have ahV:(aF s2).ob.get o=some (.lp (w7 l2)):=by rw[aV,UA];rfl
 obtain⟨x2,hx2,hr2⟩:=(c5.rel.box o b fM).2.2 _ ahV;cases hr2 with
 |lp _ L2 d1 d2 d4 d5 d6 d8 d9=>
 have WQ:s2.fl<=o:=by rw[c5.fl];exact JW
 obtain⟨OS,Ip⟩:=c5.rel.setObj (w':=w2.putObj b (.loop {L2 with state:=.ready,pending:=none})) fM ahV rfl WQ (x':=.loop {L2 with state:=.ready,pending:=none}) (Ux:=.lp (w7 {l2 with st:=.ready,oO:=none})) (.lp _ _ rfl rfl d4 d5 d6 d8 d9)
  World.putObj_size (λb' hb'=>World.putObj_heap_other hb') (World.putObj_heap_same (c5.rel.box o b fM).2.1) rfl rfl
 have ah2:aF {s2 with ob:=s2.ob.set aI o (.lp {l2 with st:=.ready,oO:=none})}={aF s2 with ob:=(aF s2).ob.set aI o (cQ (.lp {l2 with st:=.ready,oO:=none}))}:=eZ s2 _ _ s2.wr;have hall:fA {s with lo:=s.aH} g w {s2 with ob:=s2.ob.set aI o (.lp {l2 with st:=.ready,oO:=none})} g2 (w2.putObj b (.loop {L2 with state:=.ready,pending:=none})):=by
  have e1:pW s.aH s.fl g1 w1 g1 (w1.putObj b (.loop {L1 with state:=.busy})):=by have:=N6.HG s.aH;rw[show(aF s1).fl=s.fl from p5.fl]at this;exact this
  have e2:pW s.aH s.fl g1 (w1.putObj b (.loop {L1 with state:=.busy})) g2 w2:=by have:=c5.ext;rw[show s1.lo=s.aH from p5.lo,show s1.fl=s.fl from p5.fl]at this;exact this
  have e3:pW s.aH s.fl g2 w2 g2 (w2.putObj b (.loop {L2 with state:=.ready,pending:=none})):=by have:=Ip.HG s.aH;rw[show(aF s2).fl=s.fl from c5.fl.trans p5.fl]at this;exact this
  refine⟨by rw[ah2];exact OS,((p5.ext.trans e1).trans e2).trans e3,c5.fl.trans p5.fl,c5.lo.trans p5.lo,fS p5.aH c5.aH,λj hj=>c5.vS j (p5.vS j hj),λj hj hno=>?_,λj hj=>c5.Hp j (p5.Hp j hj)⟩;have aog:j∉s1.wr:=λhm=>hno (c5.vS j hm);have k1:=p5.same j hj aog;have k2:=c5.same j (dy hj p5.aH) hno;have ahT:o<bA:=dy (hs.lt hb) hs.aH;show(s2.ob.set aI o _).get j=s.ob.get j;rw[Tr.aT _ _ _ _ ahT];have k2':s2.ob.get j=(s1.ob.set aI o (.lp {l1 with st:=.busy})).get j:=k2;rw[Tr.aT _ _ _ _ ahT]at k2';by_cases e:j=o
  .subst e;rw[bL rfl]at k2' ⊢;rw[UA]at k2';rw[Au]at k1;have k1:some (wP.lp l1)=s.ob.get j:=k1;rw[ho]at k1;simp only[bf,wP.lp.injEq]at k1 k2';subst k1;subst k2';rw[ho];obtain⟨st,pe,fid,fr,par,T5,bd⟩:=l1;simp only at Wt ahP;subst Wt;subst ahP;rfl
  .rw[bw e]at k2' ⊢;exact k2'.trans k1
 exact⟨.bool true,_,run_endRound none hx2,.kb true,_,g2,c2,.kb true,fA.HG hs hall⟩
def No(hE:eL E)(iY:∀call:iB S,fV E.T.E.P call->qO E call)(n:Nat):∀d,fV E.T.E.P (Np E n d):=by
 intro d
 induction d with
 |zero=>exact⟨λf args s ω k kp r h=>(by cases h),λo args s ω k kp r h=>(by cases h)⟩
 |succ d ih=>
  refine⟨λf args s ω k kp r h g w vs hs dc=>?_,λo args s ω k kp r h g w vs b hs dc hb=>Jj hE ih (iY _ ih) n h hs dc hb⟩;simp only[Np,acf]at h;split at h
  .cases h
  .rename_i fn hfn;split at h
   .cases h
   .rename_i c hc;have UE:=hE.Uv.UG _ _ hfn;refine⟨⟨fn,UE,by rw[hc];rfl,hE.name _ _ hfn⟩,?_⟩;rcases af h with⟨hb,h⟩|⟨_,h⟩
    .rw[AI]at hb;have n5:args.length<=fn.ntmps:=by have:=fQ hb.1;rwa [bH]at this
     have fM:fn.ntmps<bA:=fQ hb.2;have WT:=AS (n:=fn.ntmps) fM n5 dc;have hs0:bg g (aF {s with lo:=s.aH}) w:=⟨hs.aH,hs.ak,hs.box,hs.arr,hs.bz,hs.mj⟩;refine xm UE hc (wpIn_mono (rP hE ih (iY _ ih) n f _ c 0 h (λh=>absurd rfl h) (Nat.le_of_lt fM) (bT _) WT hs0) λe a' w' hq=>?_);rcases hq with hF|⟨ex,fr',s',g',h1,h2,h3,h4,h5,h6⟩
     .exact hF.elim
     .have bX:=fA.HG hs h5;have lo:∀{s'':bq S}{xh:Gh}{w'':World},cN [] s' g' w' s'' xh w''->cN [] s g w {s'' with lo:=s.lo} xh w'':=λ{s'' xh w''}k=>
       fA.HG hs (h5.trans k.toW)
      exact Cp hE ih (iY _ ih) n (R:=wq s g w k kp r) h2 h1 h4 h5.rel (λt s'' xh v w'' k1 k2 k3=>⟨t,_,xh,k1,k2,lo k3⟩) (λt s'' xh v w'' k1 k2 k3=>⟨v,t,_,xh,rfl,k1,k2,lo k3⟩)
    .cases h
end
section
def oZ:∀(ps:List Pk)(b:Nat)(s:bq S)(x:fW S.A ps),s.aH<=(sL b s ps x).2.aH
 |[],_,_,_=>bT _
 | .one c::ps,b,s,x=>fS (QC s c x.1) (oZ ps b _ x.2)
 | .box k::ps,b,s,x=>fS (Da k s (some (Nat.succ b)) x.1) (oZ ps (Nat.succ b) {(gC s (some (Nat.succ b)) k x.1).2 with ob:=(gC s (some (Nat.succ b)) k x.1).2.ob.set aI b (gC s (some (Nat.succ b)) k x.1).1} x.2)
 | .hid k::ps,b,s,x=>fS (Da k s (some (Nat.succ b)) x.1) (oZ ps (Nat.succ b) {(gC s (some (Nat.succ b)) k x.1).2 with ob:=(gC s (some (Nat.succ b)) k x.1).2.ob.set aI b (gC s (some (Nat.succ b)) k x.1).1} x.2)
structure InR(g:Gh)(s:bq S)(w:World)(al:List fB)(g':Gh)(s':bq S):Prop where
 rel:bg g' (aF s') w
 le:oh g g'
 bz:g'.bz=g.bz
 own:∀k b,bK g' k b->bK g k b∨∃a∈al,a.at b
 fl:s'.fl=s.fl
 lo:s'.lo=s.lo
 aH:s.aH<=s'.aH
 cj:g'.cj=g.cj
 arr:∀o,o<s.aH->∀e,g'.arr o e=g.arr o e
variable {w:World}{g:Gh}{s:bq S}{I:Nat->Prop}{ps:List Pk}{al:List fB}{bl:List Nat}{rs:List Ck}{E:ga S}{f:FuncId}
def OO:∀{ps:List Pk}{x:fW S.A ps}{vals:List Value}{al:List fB}{bl:List Nat}{b:Nat}{g:Gh}{s:bq S},pK S g.bz w ps x vals al bl->bg g (aF s) w->(∀j cj,bl[j]?=some cj->g.cj (b+j)=some cj)->
  (∀j,j<bl.length->b+j<s.aH∧∀e,g.arr (b+j) e=none)->(∀a∈al,∀b,a.at b->∀o,¬bK g o b)->vQ al->(sL b s ps x).2.aH<=bA->
  ∃g',InR g s w al g' (sL b s ps x).2∧PW (aJ g' w) (bh (sL b s ps x).1) vals:=by
 intro ps
 induction ps with
 |nil=>intro x vals al bl b g s hp hs _ _ _ _ _;cases hp;exact⟨g,⟨hs,oh.refl _,rfl,λ_ _ h=>.inl h,rfl,rfl,bT _,rfl,λ_ _ _=>rfl⟩,⟨rfl,λj t v h=>by simp[sL,bh]at h⟩⟩
 |cons p ps ih=>
  intro x vals al bl b g s hp hs o3 hna hfr hap hn;cases hp with
  | @one c _ x1 xr v vs vC wk bl h1 h2=>
   have jD:=so.1 hap;have O2:(uh s c x1).2.aH<=bA:=fS (oZ ps b _ xr) hn;obtain⟨g1,hu,dc⟩:=mo (cs:=[c]) (x:=(x1,())) h1 hs (λa ha=>hfr a (eJ _ ha)) jD.1 (by simpa[gH]using O2);have e1:(gH s [c] (x1,())).1=[(uh s c x1).1]:=rfl;have e2:(gH s [c] (x1,())).2=(uh s c x1).2:=rfl;rw[e1]at dc;rw[e2]at hu;have Dm:aJ g1 w (low (uh s c x1).1) v:=dc.2 0 _ _ rfl rfl;obtain⟨g2,k1,k2⟩:=ih (b:=b) (g:=g1) (s:=(uh s c x1).2) (hu.bz▸h2) hu.rel (λj cj h=>by rw[hu.cj];exact o3 j cj h) (λj hj=>⟨dy (hna j hj).1 hu.aH,λe=>by rw[hu.arr _ (hna j hj).1];exact(hna j hj).2 e⟩)
    (λa ha b hb o hO=>by
     rcases hu.own o b hO with hO|⟨_,a2,J0,fM⟩
     .exact hfr a (iW _ ha) b hb o hO
     .exact jD.2.2 a2 J0 a ha b fM hb) jD.2.1 hn
   refine⟨g2,⟨k1.rel,hu.le.trans k1.le,k1.bz.trans hu.bz,λk b' hO=>?_,k1.fl.trans hu.fl,k1.lo.trans hu.lo,fS hu.aH k1.aH,k1.cj.trans hu.cj,λo ho e=>(k1.arr o (dy ho hu.aH) e).trans (hu.arr o ho e)⟩,⟨by simp only[sL,bh,fI];rw[k2.1],λj t v' q1 q2=>?_⟩⟩
   .rcases k1.own k b' hO with hO|⟨a',q2,q3⟩
    .rcases hu.own k b' hO with hO|⟨_,a',q2,q3⟩
     .exact .inl hO
     .exact .inr ⟨a',eJ _ q2,q3⟩
    .exact .inr ⟨a',iW _ q2,q3⟩
   .cases j with|zero=>simp[sL,bh]at q1 q2;subst q1;subst q2;exact Dm.le k1.le|succ j=>exact k2.2 j t v' (by simpa[sL,bh]using q1) (by simpa using q2)
  | @box kd _ x1 xr b0 hx vs vC wk bl hh h1 h2=>
   have jD:=so.1 hap;have O2:(gC s (some (Nat.succ b)) kd x1).2.aH<=bA:=fS (oZ ps (Nat.succ b) {(gC s (some (Nat.succ b)) kd x1).2 with ob:=(gC s (some (Nat.succ b)) kd x1).2.ob.set aI b (gC s (some (Nat.succ b)) kd x1).1} xr) hn;obtain⟨g1,hu,EV⟩:=om h1 (λb' hb'=>⟨_,rfl,by cases bl with|nil=>cases hb'|cons c' Aw=>(cases hb';exact o3 1 b' rfl)⟩) hs (λa ha=>hfr a (eJ _ ha)) jD.1 O2;have hb0:=hna 0 (by simp);have cB:g.cj b=some b0:=o3 0 b0 rfl;have hk:=hu.rel.sJ (o:=b) (b:=b0) (by rw[hu.cj];exact cB) hh EV (λe=>by rw[hu.arr b (by simpa using hb0.1)];exact hb0.2 e);have hk2:bg g1 (aF {(gC s (some (Nat.succ b)) kd x1).2 with ob:=(gC s (some (Nat.succ b)) kd x1).2.ob.set aI b (gC s (some (Nat.succ b)) kd x1).1}) w:=by have:=eZ (gC s (some (Nat.succ b)) kd x1).2 b (gC s (some (Nat.succ b)) kd x1).1 (gC s (some (Nat.succ b)) kd x1).2.wr;rw[show({(gC s (some (Nat.succ b)) kd x1).2 with ob:=(gC s (some (Nat.succ b)) kd x1).2.ob.set aI b (gC s (some (Nat.succ b)) kd x1).1}:bq S)={(gC s (some (Nat.succ b)) kd x1).2 with ob:=(gC s (some (Nat.succ b)) kd x1).2.ob.set aI b (gC s (some (Nat.succ b)) kd x1).1,wr:=(gC s (some (Nat.succ b)) kd x1).2.wr}from rfl,this];exact hk
   obtain⟨g2,k1,k2⟩:=ih (b:=Nat.succ b) (g:=g1) (s:={(gC s (some (Nat.succ b)) kd x1).2 with ob:=(gC s (some (Nat.succ b)) kd x1).2.ob.set aI b (gC s (some (Nat.succ b)) kd x1).1}) (hu.bz▸h2) hk2
    (λj cj h=>by rw[hu.cj];have:=o3 (j+1) cj (by simpa using h);rwa [show b+(j+1)=Nat.succ b+j by omega]at this)
    (λj hj=>by
     have:=hna (j+1) (by simp;omega);rw[show b+(j+1)=Nat.succ b+j by omega]at this;exact⟨dy this.1 hu.aH,λe=>by rw[hu.arr _ this.1];exact this.2 e⟩)
    (λa ha b hb o hO=>by
     rcases hu.own o b hO with hO|⟨_,a2,J0,fM⟩
     .exact hfr a (iW _ ha) b hb o hO
     .exact jD.2.2 a2 J0 a ha b fM hb) jD.2.1 hn
   refine⟨g2,⟨k1.rel,hu.le.trans k1.le,k1.bz.trans hu.bz,λk b' hO=>?_,k1.fl.trans hu.fl,k1.lo.trans hu.lo,fS hu.aH k1.aH,k1.cj.trans hu.cj,λo ho e=>(k1.arr o (dy ho hu.aH) e).trans (hu.arr o ho e)⟩,⟨by simp only[sL,bh,fI];rw[k2.1],λj t v' q1 q2=>?_⟩⟩
   .rcases k1.own k b' hO with hO|⟨a',q2,q3⟩
    .rcases hu.own k b' hO with hO|⟨_,a',q2,q3⟩
     .exact .inl hO
     .exact .inr ⟨a',eJ _ q2,q3⟩
    .exact .inr ⟨a',iW _ q2,q3⟩
   .cases j with|zero=>simp only[sL,bh,sr,bf]at q1 q2;subst q1;subst q2;exact Mx (by rw[k1.cj,hu.cj];exact cB)|succ j=>exact k2.2 j t v' (by simpa[sL,bh]using q1) (by simpa using q2)
  | @hid kd _ x1 xr b0 hx vs vC wk bl hh h1 h2=>
   have jD:=so.1 hap;have O2:(gC s (some (Nat.succ b)) kd x1).2.aH<=bA:=fS (oZ ps (Nat.succ b) {(gC s (some (Nat.succ b)) kd x1).2 with ob:=(gC s (some (Nat.succ b)) kd x1).2.ob.set aI b (gC s (some (Nat.succ b)) kd x1).1} xr) hn;obtain⟨g1,hu,EV⟩:=om h1 (λb' hb'=>⟨_,rfl,by cases bl with|nil=>cases hb'|cons c' Aw=>(cases hb';exact o3 1 b' rfl)⟩) hs (λa ha=>hfr a (eJ _ ha)) jD.1 O2;have hb0:=hna 0 (by simp);have cB:g.cj b=some b0:=o3 0 b0 rfl;have hk:=hu.rel.sJ (o:=b) (b:=b0) (by rw[hu.cj];exact cB) hh EV (λe=>by rw[hu.arr b (by simpa using hb0.1)];exact hb0.2 e);have hk2:bg g1 (aF {(gC s (some (Nat.succ b)) kd x1).2 with ob:=(gC s (some (Nat.succ b)) kd x1).2.ob.set aI b (gC s (some (Nat.succ b)) kd x1).1}) w:=by have:=eZ (gC s (some (Nat.succ b)) kd x1).2 b (gC s (some (Nat.succ b)) kd x1).1 (gC s (some (Nat.succ b)) kd x1).2.wr;rw[show({(gC s (some (Nat.succ b)) kd x1).2 with ob:=(gC s (some (Nat.succ b)) kd x1).2.ob.set aI b (gC s (some (Nat.succ b)) kd x1).1}:bq S)={(gC s (some (Nat.succ b)) kd x1).2 with ob:=(gC s (some (Nat.succ b)) kd x1).2.ob.set aI b (gC s (some (Nat.succ b)) kd x1).1,wr:=(gC s (some (Nat.succ b)) kd x1).2.wr}from rfl,this];exact hk
   obtain⟨g2,k1,k2⟩:=ih (b:=Nat.succ b) (g:=g1) (s:={(gC s (some (Nat.succ b)) kd x1).2 with ob:=(gC s (some (Nat.succ b)) kd x1).2.ob.set aI b (gC s (some (Nat.succ b)) kd x1).1}) (hu.bz▸h2) hk2
    (λj cj h=>by rw[hu.cj];have:=o3 (j+1) cj (by simpa using h);rwa [show b+(j+1)=Nat.succ b+j by omega]at this)
    (λj hj=>by
     have:=hna (j+1) (by simp;omega);rw[show b+(j+1)=Nat.succ b+j by omega]at this;exact⟨dy this.1 hu.aH,λe=>by rw[hu.arr _ this.1];exact this.2 e⟩)
    (λa ha b hb o hO=>by
     rcases hu.own o b hO with hO|⟨_,a2,J0,fM⟩
     .exact hfr a (iW _ ha) b hb o hO
     .exact jD.2.2 a2 J0 a ha b fM hb) jD.2.1 hn
   refine⟨g2,⟨k1.rel,hu.le.trans k1.le,k1.bz.trans hu.bz,λk b' hO=>?_,k1.fl.trans hu.fl,k1.lo.trans hu.lo,fS hu.aH k1.aH,k1.cj.trans hu.cj,λo ho e=>(k1.arr o (dy ho hu.aH) e).trans (hu.arr o ho e)⟩,k2⟩
   .rcases k1.own k b' hO with hO|⟨a',q2,q3⟩
    .rcases hu.own k b' hO with hO|⟨_,a',q2,q3⟩
     .exact .inl hO
     .exact .inr ⟨a',eJ _ q2,q3⟩
    .exact .inr ⟨a',iW _ q2,q3⟩
def nX(hS:fy S){g:Gh}{w:World}{s:bq S}(hs:bg g (aF s) w):∀{ps:List Pk}{b:Nat}{x:iE S.A ps}{fz ow bl:List Nat},sA s b ps=some (x,fz,ow)->(∀j cj,bl[j]?=some cj->g.cj (b+j)=some cj)->bl.length=ej ps->
  (∀o∈fz,Live g (aF s) o)∧(∀o∈ow,s.fl<=o∧s.lo<=o∧o<s.aH∧∃ob,s.ob.get o=some ob∧PL ob=true)∧∀(g1:Gh)(s1:St)(jZ:List Nat),bg g1 s1 w->Ext s.fl g w g1 w->jM (aF s) s1 jZ->(∀o∈fz,o∈jZ)->(∀o∈ow,s1.ob.get o=(aF s).ob.get o)->
   ∃al,CZ S g1.bz w ps x bl al∧AL g1 al ow
 |[],b,x,fz,ow,bl,h,_,hlen=>by
  simp only[sA,bf,bB]at h;obtain⟨_,rfl,rfl⟩:=h
  match bl,hlen with
  |[],_=>exact⟨λo ho=>(by cases ho),λo ho=>(by cases ho),λ_ _ _ _ _ _ _ _=>⟨[],.nil,.nil⟩⟩
  |_::_,hlen=>exact absurd hlen (by simp[ej])
 | .one c::ps,b,x,fz,ow,bl,h,o3,hlen=>by simp only[sA]at h;obtain⟨p1,p2,p3⟩:=nX hS hs h o3 (by simpa[ej]using hlen);refine⟨p1,p2,λg1 s1 jZ a b c d e=>?_⟩;obtain⟨al,k1,k2⟩:=p3 g1 s1 jZ a b c d e;exact⟨al,.one k1,k2⟩
 | .box k::ps,b,x,fz,ow,bl,h,o3,hlen=>by
  match bl,hlen with
  |[],hlen=>exact absurd hlen (by simp[ej])
  |b0::bl,hlen=>
  simp only[sA]at h;split at h;rotate_left
  .cases h
  rename_i x1 a1 b1 nx h1 a2 b2 e1 e2;rcases af h with⟨hb,h⟩|⟨_,h⟩;rotate_left
  .cases h
  rw[AI]at hb;simp only[bf,bB]at h;obtain⟨rfl,rfl,rfl⟩:=h;have Tx:g.cj b=some b0:=o3 0 b0 rfl;have zJ:∀j cj,bl[j]?=some cj->g.cj (Nat.succ b+j)=some cj:=λj cj h=>by have:=o3 (j+1) cj (by simpa using h);rwa [show b+(j+1)=Nat.succ b+j by omega]at this
  have hlen':bl.length=ej ps:=by simpa[ej]using hlen
  obtain⟨_,hx,hh,p1,p2,p3⟩:=p8 hS hs Tx e1;obtain⟨_,hlk⟩:=zp hs Tx e1;obtain⟨q1,q2,q3⟩:=nX hS hs e2 zJ hlen';refine⟨λo ho=>(eg.1 ho).elim (p1 o) (q1 o),λo ho=>(eg.1 ho).elim (p2 o) (q2 o),λg1 s1 jZ fq he hf hsub hsame=>?_⟩;obtain⟨vC,k1,k2⟩:=p3 g1 s1 jZ fq he hf (λo ho=>hsub o (eJ _ ho)) (λo ho=>hsame o (eJ _ ho)) (dF bl) (λo' ho'=>by
   subst ho';obtain⟨pre,post,rfl⟩:=hlk o' rfl;have ho':o'=Nat.succ b:=nT hb.1;subst ho'
   match ps,hb.2,hlen' with
   | .hid k'::ps,_,hlen'=>
    match bl,hlen' with
    |c::bl,_=>exact⟨c,rfl,he.cj _ _ (zJ 0 c rfl)⟩
    |[],hlen'=>exact absurd hlen' (by simp[ej]))
  obtain⟨wk,k3,k4⟩:=q3 g1 s1 jZ fq he hf (λo ho=>hsub o (iW _ ho)) (λo ho=>hsame o (iW _ ho));exact⟨_,.box hh k1 k3,k2.append k4⟩
 | .hid k::ps,b,x,fz,ow,bl,h,o3,hlen=>by
  match bl,hlen with
  |[],hlen=>exact absurd hlen (by simp[ej])
  |b0::bl,hlen=>
  simp only[sA]at h;split at h;rotate_left
  .cases h
  rename_i x1 a1 b1 nx h1 a2 b2 e1 e2;rcases af h with⟨hb,h⟩|⟨_,h⟩;rotate_left
  .cases h
  rw[AI]at hb;simp only[bf,bB]at h;obtain⟨rfl,rfl,rfl⟩:=h;have Tx:g.cj b=some b0:=o3 0 b0 rfl;have zJ:∀j cj,bl[j]?=some cj->g.cj (Nat.succ b+j)=some cj:=λj cj h=>by have:=o3 (j+1) cj (by simpa using h);rwa [show b+(j+1)=Nat.succ b+j by omega]at this
  have hlen':bl.length=ej ps:=by simpa[ej]using hlen
  obtain⟨_,hx,hh,p1,p2,p3⟩:=p8 hS hs Tx e1;obtain⟨_,hlk⟩:=zp hs Tx e1;obtain⟨q1,q2,q3⟩:=nX hS hs e2 zJ hlen';refine⟨λo ho=>(eg.1 ho).elim (p1 o) (q1 o),λo ho=>(eg.1 ho).elim (p2 o) (q2 o),λg1 s1 jZ fq he hf hsub hsame=>?_⟩;obtain⟨vC,k1,k2⟩:=p3 g1 s1 jZ fq he hf (λo ho=>hsub o (eJ _ ho)) (λo ho=>hsame o (eJ _ ho)) (dF bl) (λo' ho'=>by
   subst ho';obtain⟨pre,post,rfl⟩:=hlk o' rfl;have ho':o'=Nat.succ b:=nT hb.1;subst ho'
   match ps,hb.2,hlen' with
   | .hid k'::ps,_,hlen'=>
    match bl,hlen' with
    |c::bl,_=>exact⟨c,rfl,he.cj _ _ (zJ 0 c rfl)⟩
    |[],hlen'=>exact absurd hlen' (by simp[ej]))
  obtain⟨wk,k3,k4⟩:=q3 g1 s1 jZ fq he hf (λo ho=>hsub o (iW _ ho)) (λo ho=>hsame o (iW _ ho));exact⟨_,.hid hh k1 k3,k2.append k4⟩
def CZ.iM{I:Nat->Prop}{w:World}{ps:List Pk}{x:iE S.A ps}{al:List fB}{bl:List Nat}(h:CZ S I w ps x bl al):∀a∈al,∀b,a.at b->¬I b:=by
 induction h with
 |nil=>intro a ha;cases ha
 |one _ ih=>exact ih
 |box hh h1 h2 ih=>
  intro a ha b hb;rcases eg.1 ha with ha|ha
  .exact h1.iM a ha b hb
  .exact ih a ha b hb
 |hid hh h1 h2 ih=>
  intro a ha b hb;rcases eg.1 ha with ha|ha
  .exact h1.iM a ha b hb
  .exact ih a ha b hb
def PE{x:fW S.A ps}{vs:List Value}(h:pK S I w ps x vs al bl):ej ps=bl.length:=by
 induction h with|nil=>rfl|one _ _ ih=>exact ih|box _ _ _ ih=>simp only[ej,fI,ih]|hid _ _ _ ih=>simp only[ej,fI,ih]
def Ok{v:V S}{val:Value}(hv:aJ g w (low v) val){x:gp S.A rs}{fz ow:List Nat}(h:gI s rs (Zw rs v)=some (x,fz,ow)):∃vals,val=valOf vals∧PW (aJ g w) (bh (Zw rs v)) vals:=by
 have one:∀{l:List (V S)},l=[v]->rs.length=1->∃vals,val=valOf vals∧PW (aJ g w) (bh l) vals:=by
  rintro l rfl _
  refine⟨[val],rfl,rfl,λj t u h1 h2=>?_⟩;cases j with|zero=>simp[bh]at h1 h2;subst h1;subst h2;exact hv|succ j=>simp[bh]at h1
 have ak7:∀{cs:List Ck}{l:List (V S)}{x:gp S.A cs}{fz ow:List Nat},gI s cs l=some (x,fz,ow)->cs.length=l.length:=by
  intro cs
  induction cs with
  |nil=>intro l x fz ow h;cases l with|nil=>rfl|cons=>simp[gI]at h
  |cons c cs ih=>intro l x fz ow h;cases l with
   |nil=>simp[gI]at h
   |cons v l=>
    simp only[gI]at h;split at h
    .rename_i e2;simp[ih e2]
    .cases h
 have hlen:=ak7 h;unfold Zw at hlen h ⊢;split at h
 .exact one rfl rfl
 .rename_i l hno;simp only at hlen;simp only[low]at hv;cases hv with
  |gq _ vs hl hr=>
   refine⟨vs.toList,?_,by simpa using hl,λj t v h1 h2=>hr j t v h1 (by simpa using h2)⟩;have hne:vs.toList.length≠1:=by
    intro h1;have h2:(bh l).length=1:=by rw[hl];simpa using h1
    rw[eR]at h2;rw[h2]at hlen;obtain⟨c,hc⟩:=Md.1 hlen;exact hno c hc
   unfold valOf;split
   .rename_i v' yS;rw[yS]at hne;exact absurd rfl hne
   .rfl
 .simp only[fI,AG,ju]at hlen;exact one rfl hlen
def gh0(I:Nat->Prop)(bl:List Nat):Gh:=⟨λo=>bl[o]?,λ_ _=>none,I⟩
def v8{o b:Nat}(h:bK (gh0 I bl) o b):bl[o]?=some b:=by
 obtain⟨_,h|⟨e,x,ad,h,_⟩⟩:=h
 .exact h
 .cases h
def aaJ(hI:∀b,I b->b<w.heap.size)(l5:bl.Nodup)(qf:∀b∈bl,b<w.heap.size∧¬I b)(hn:bl.length<=bA) :
  bg (gh0 I bl) (aF (⟨.nil,bl.length,0,bl.length,[],[]⟩:bq S)) w:=by
 refine⟨hn,λo ho=>⟨?_,λe=>rfl⟩,λo b h=>?_,λo e x h=>?_,hI,λo o' b h h'=>?_⟩
 .show bl[o]?=none;exact Jt ho
 .have h:bl[o]?=some b:=h;have hm:=gW h;refine⟨(qf b hm).2,(qf b hm).1,λob cB=>?_⟩;rw[aV]at cB;simp[Tr.get_nil]at cB
 .cases h
 .have h1:=v8 h;have h2:=v8 h';have l1:o<bl.length:=by
   rcases zm o bl.length with h|h
   .exact h
   .rw[Jt h]at h1;cases h1
  exact(List.getElem?_inj l1 l5).1 (h1.trans h2.symm)
def TK{n d:Nat}{x:fW S.A ps}{r:RT E.pn (gp S.A rs×iE S.A ps) (den S.A S.pt×iE S.A ps)}(h:Fa E n d f ps rs x=some r) :
  (sL 0 ⟨.nil,ej ps,0,ej ps,[],[]⟩ ps x).2.aH<=bA∧XG E n d f (sL 0 ⟨.nil,ej ps,0,ej ps,[],[]⟩ ps x).1 (sL 0 ⟨.nil,ej ps,0,ej ps,[],[]⟩ ps x).2 (aeB E.pn rs ps) (aeA E.pn rs ps)=some r:=by
 unfold Fa at h;dsimp only at h;rcases af h with⟨_,h⟩|⟨hb,h⟩
 .cases h
 .refine ⟨fQ (by simpa using hb),?_⟩;exact h
def RT.ZI{R P:Type}:∀{pn:Bool}{p:P}{r:RT pn R P},RT.dm pn p=some r->RT.res pn r=.dm p
 |false,_,_,h=>by cases h
 |true,_,_,h=>by cases h;rfl
def Fv(hE:eL E)(iY:∀call:iB S,fV E.T.E.P call->qO E call){fn:Func}{c:Code}(hfn:E.T.E.UG f=some fn)(hc:fn.body=some c)(n d:Nat)(ps:List Pk)(rs:List Ck) :
  bC E.T.E.P f ⟨ps,rs,E.pn,Fa E n d f ps rs⟩:=by
 have UE:=hE.Uv.UG _ _ hfn;refine⟨⟨fn,UE,by rw[hc];rfl,hE.name _ _ hfn⟩,λx r h I w vs al bl hp hI hap l5 qf=>?_⟩;dsimp only at x r h hp;obtain⟨hnb,h⟩:=TK h;have hlen:=PE hp;have Ro:=oZ ps 0 (⟨.nil,ej ps,0,ej ps,[],[]⟩:bq S) x;have hn0:ej ps<=bA:=fS Ro hnb;have anV:bg (gh0 I bl) (aF (⟨.nil,ej ps,0,ej ps,[],[]⟩:bq S)) w:=by have:=aaJ (S:=S) (w:=w) hI l5 (λb hb=>⟨(qf b hb).1,(qf b hb).2.1⟩) (by omega);rwa [hlen]
 obtain⟨g0,hr,dc⟩:=OO (b:=0) (g:=gh0 I bl) hp anV (λj cj h=>by rw[ju];exact h) (λj hj=>⟨by simp;omega,λe=>rfl⟩)
  (λa ha b hb o hO=>(qf b (gW (v8 hO))).2.2 a ha hb) hap hnb
 generalize sL 0 ⟨.nil,ej ps,0,ej ps,[],[]⟩ ps x=q at h hnb hr dc Ro;obtain⟨args,s0⟩:=q;dsimp only at h hnb hr dc Ro;have aec:s0.fl=0:=hr.fl;have ah4:s0.lo=ej ps:=hr.lo;simp only[XG,hfn,hc]at h;rcases af h with⟨hb,h⟩|⟨_,h⟩;rotate_left
 .cases h
 rw[AI]at hb;have n5:args.length<=fn.ntmps:=by have:=fQ hb.1;rwa [bH]at this
 have fM:fn.ntmps<bA:=fQ hb.2;have WT:=AS (n:=fn.ntmps) fM n5 dc;have dU:=No hE iY n d;have core:∀(s':bq S)(g':Gh)(w':World),fA s0 g0 w s' g' w'->∀(rs:List Ck)(t:V S)(v:Value)(r1:gp S.A rs×iE S.A ps),aaR rs ps t s'=some r1->aJ g' w' (low t) v->Dx S I w ps rs r1 al bl v w':=by
  intro s' g' w' h5 rs t v r h2 ht;unfold aaR at h2;split at h2;rotate_left
  .cases h2
  rename_i r1 fz ow b1 jZ Uw e1 e2;split at h2;rotate_left
  .cases h2
  rename_i s1 e3;rcases af h2 with⟨hb,h2⟩|⟨_,h2⟩;rotate_left
  .cases h2
  simp only[bf]at h2;subst h2;rw[AI]at hb;have sN:=mA hb.1;have aoR:=yD hb.2;obtain⟨vals,rfl,ahC⟩:=Ok ht e1;have ail:∀j cj,bl[j]?=some cj->g'.cj (0+j)=some cj:=λj cj h=>h5.ext.cj _ _ (by rw[hr.cj,ju];exact h);obtain⟨p1,p2,p3⟩:=gn hE.sg h5.rel e1 ahC;obtain⟨q1,q2,q3⟩:=nX hE.sg h5.rel e2 ail hlen.symm;have hfr:=de hE.sg _ e3;obtain⟨g1,fq,pT,hfz⟩:=en (fz++jZ) h5.rel hfr (λo ho=>(eg.1 ho).elim (p1 o) (q1 o));obtain⟨f1,f2,f3,f4,f5,f6,f7⟩:=ew e3;have hsame:∀o∈ow++Uw,(aF s1).ob.get o=(aF s').ob.get o:=λo ho=>by rw[aV,aV,f6 o (aoR o ho)]
  obtain⟨wk,k1,k2⟩:=p3 g1 (aF s1) (fz++jZ) fq pT hfz (λo ho=>eJ _ ho) (λo ho=>hsame o (eJ _ ho));obtain⟨vC,k3,k4⟩:=q3 g1 (aF s1) (fz++jZ) fq pT hfz (λo ho=>iW _ ho) (λo ho=>hsame o (iW _ ho));have aoi:=k1.iM;have aoj:=k3.iM;have hmem:∀a∈vC++wk,a∈wk++vC:=λa ha=>eg.2 ((eg.1 ha).symm);have hni:∀a∈wk++vC,∀b,a.at b->¬g1.bz b:=λa ha=>(eg.1 ha).elim (aoi a) (aoj a);have hAL:=k2.append k4;have hown:=hAL.owned hni;have hapart:=hAL.apart fq sN hni;have hfl':s'.fl=0:=h5.fl.trans aec;have aas:s'.lo=ej ps:=h5.lo.trans ah4;have ahS:∀o b,bK g1 o b->(b∈bl∨∃a∈al,a.at b)∨w.heap.size<=b:=by
   intro o b hO;rcases pT.own o b hO with hO|hge
   .rcases h5.ext.own o b (by omega) hO with⟨o',_,yh⟩|hge
    .rcases hr.own o' b yh with yh|⟨a,ha,hab⟩
     .exact .inl (.inl (gW (v8 yh)))
     .exact .inl (.inr ⟨a,ha,hab⟩)
    .exact .inr hge
   .have:=h5.ext.size;exact .inr (by omega)
  have Rw:∀b∈bl,∃o,o<ej ps∧g1.cj o=some b:=by intro b hb;obtain⟨j,hj,rfl⟩:=uw hb;exact⟨0+j,by omega,pT.cj _ _ (ail j _ (gm hj))⟩
  refine⟨g1.bz,vals,vC,wk,λb hb=>pT.bz b (h5.ext.bz b (hr.bz▸hb)),λb hb=>?_,fq.bz,h5.ext.size,λb hb hnb hna=>?_,h5.ext.os,h5.ext.output,rfl,k3,k1,?_,λa ha b hab=>?_,λb hb=>⟨?_,λa ha hab=>?_⟩⟩
  .have h0:∀o,bK g0 o b->I b∨w.heap.size<=b∨∃a∈al,a.at b:=λo hO=>by
    rcases hr.own o b hO with hO|h
    .obtain ⟨o',_,cB⟩:=Rw b (gW (v8 hO));exact absurd hb (fq.box o' b cB).1
    .exact .inr (.inr h)
   rcases pT.uJ b hb with hb|hb|⟨o,_,hO⟩
   .rcases h5.ext.uJ b hb with hb|hb|⟨o,_,hO⟩
    .exact .inl (by rw[hr.bz]at hb;exact hb)
    .exact .inr (.inl hb)
    .exact h0 o hO
   .have:=h5.ext.size;exact .inr (.inl (by omega))
   .rcases h5.ext.own o b (by omega) hO with⟨o',_,yh⟩|hge
    .exact h0 o' yh
    .exact .inr (.inl hge)
  .refine h5.ext.heap b hb λo _ hO=>?_;rcases hr.own o b hO with hO|⟨a,ha,hab⟩
   .exact hnb (gW (v8 hO))
   .exact hna a ha hab
  .refine so.2 ⟨(so.1 hapart).2.1,(so.1 hapart).1,λa ha a' Zb b h1 h2=>(so.1 hapart).2.2 a' Zb a ha b h2 h1⟩
  .obtain ⟨o,ho,hO⟩:=hown a (hmem a ha) b hab;rcases ahS o b hO with(h|h)|h
   .obtain ⟨o',ho',cB⟩:=Rw b h;have:=fq.mj o o' b hO ⟨(fq.box o' b cB).1,.inl cB⟩;subst this;rcases eg.1 ho with hm|hm
    .have:=(p2 o hm).2.1;omega
    .have:=(q2 o hm).2.1;omega
   .exact .inl h
   .exact .inr h
  .obtain ⟨o',ho',cB⟩:=Rw b hb;exact(fq.box o' b cB).1
  .obtain ⟨o,ho,hO⟩:=hown a (hmem a ha) b hab;obtain⟨o',ho',cB⟩:=Rw b hb;have:=fq.mj o o' b hO ⟨(fq.box o' b cB).1,.inl cB⟩;subst this;rcases eg.1 ho with hm|hm
   .have:=(p2 o hm).2.1;omega
   .have:=(q2 o hm).2.1;omega
 refine xm UE hc (wpIn_mono (rP hE dU (iY _ dU) n f _ c 0 h (λh=>absurd rfl h) (Nat.le_of_lt fM) (by rw[ah4];exact Ro) WT hr.rel) λe a' w' hq=>?_);rcases hq with hF|⟨ex,fr',s',g',h1,h2,h3,h4,h5,h6⟩
 .exact hF.elim
 refine Cp hE dU (iY _ dU) n (R:=wo S I w ps rs (RT.res E.pn r) al bl) h2 h1 h4 h5.rel (λt s'' xh v w'' k1 k2 k3=>?_) (λt s'' xh v w'' k1 k2 k3=>?_)
 .unfold aeB at k1;split at k1;rotate_left
  .cases k1
  rename_i r1 e1;simp only[bf]at k1;have e2:RT.res E.pn r=.ok r1:=by rw[<-k1];cases E.pn<;>rfl
  simp only[wo,e2];exact core _ _ _ (h5.trans k3.toW) rs _ v r1 e1 k2
 .simp only[aeA]at k1;split at k1;rotate_left
  .cases k1
  rename_i r1 e1;have e2:RT.res E.pn r=.dm (r1.1.1,r1.2):=RT.ZI k1;simp only[wo,e2];exact⟨v,rfl,core _ _ _ (h5.trans k3.toW) [.dat S.pt] t v r1 e1 k2⟩
end
end TL
end
end
