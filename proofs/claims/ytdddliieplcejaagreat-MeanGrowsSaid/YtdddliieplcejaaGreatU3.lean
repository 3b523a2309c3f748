import Derived.Scope
import Derived.Recover
import Derived.Test.YtdddliieplcejaaGreatU2
set_option linter.all false
set_option maxRecDepth 100000
set_option maxHeartbeats 0
noncomputable section
open Option renaming some->Z,none->Y
open Bool renaming true->W,false->J
section
namespace TL
open Go
variable {S:Sg}
section
section
variable {g:Gh}{w:World}
def bh.Zc{s:St}(hs:bh g s w){m sz r:Nat}{ig:L (L D)}(t:s.ob.get m=Z (.rws sz ig r))(F:m<s.aJ)(h0:0<sz)(c:O Addr) :
  bh (g.era m (rc r ig.length) ⟨c,0,0,sz⟩) {s with ob:=s.ob.set aL m (.rws sz (ig++[[]]) r)} w∧Ext s.fl g w (g.era m (rc r ig.length) ⟨c,0,0,sz⟩) w:=by
 have G:m<bC:=dB F hs.aJ;have n:g.arr m (rc r ig.length)=Y:=by cases h:g.arr m (rc r ig.length)with|none=>rfl|some y=>obtain⟨_,R,h2,_⟩:=(hs.oE t h).2.2 _ rfl;have:=aF h2;omega
 have l:∀k j y,g.arr k j=Z y->(g.era m (rc r ig.length) ⟨c,0,0,sz⟩).arr k j=Z y:=λk j y h=>by
  rw[Gh.cu]
  .exact h
  .rintro ⟨rfl,rfl⟩
   rw[n]at h;cases h
 have e:∀k b,bN (g.era m (rc r ig.length) ⟨c,0,0,sz⟩) k b->bN g k b:=by
  rintro k b ⟨h1,h2|⟨j,y,C,h2,h3,h4,h5⟩⟩
  .exact ⟨h1,.inl h2⟩
  .by_cases u:k=m∧j=rc r ig.length
   .obtain ⟨rfl,rfl⟩:=u;rw[Gh.fG]at h2;cases h2;exact absurd rfl h5
   .rw[Gh.cu _ _ _ _ _ _ u]at h2;exact⟨h1,.inr ⟨j,y,C,h2,h3,h4,h5⟩⟩
 have S:Ext s.fl g w (g.era m (rc r ig.length) ⟨c,0,0,sz⟩) w:=
  ⟨λ_ _ h=>h,l,λ_ h=>h,bQ _,λ_ _ _=>rfl,λk b h=>.inl (e k b h),λ_ h=>.inl h,rfl,rfl⟩
 have cJ:∀k,(s.ob.set aL m (.rws sz (ig++[[]]) r)).get k=if k=m then Z (.rws sz (ig++[[]]) r)else s.ob.get k:=λk=>Tr.aZ _ _ _ _ G
 have H:=hs.y6 t rfl;refine⟨⟨hs.aJ,λk I=>⟨(hs.ai k I).1,λj=>?_⟩,λk b hb=>?_,λk j y f=>?_,hs.bB,λk X b h h'=>hs.l9 k X b (e k b h) (e X b h')⟩,S⟩
 .rw[Gh.cu _ _ _ _ _ _ (by rintro⟨rfl,_⟩;simp only at I;omega)];exact(hs.ai k I).2 j
 .have o:g.cj k=Z b:=hb;have d:k≠m:=by rintro rfl;rw[H]at o;cases o
  obtain⟨h1,h2,h3⟩:=hs.box k b o;refine⟨h1,h2,λob a=>?_⟩;simp only[]at a;rw[cJ,br d]at a;obtain⟨x,k1,k2⟩:=h3 ob a;exact⟨x,k1,k2.ext S hs.bB⟩
 .by_cases d:k=m
  .subst d;have K:∀p i,r<p->g.arr k (rc p i)=Y:=λp i q=>by cases h:g.arr k (rc p i)with|none=>rfl|some z=>rw[(hs.oE t h).1 p i q]at h;cases h
   have M:∀C,y.a=Z C->y.cap≠0->C.block<w.heap.size:=by
    by_cases E:j=rc r ig.length
    .subst E;rw[Gh.fG]at f;cases f;exact λ_ _ h=>absurd rfl h
    .rw[Gh.cu _ _ _ _ _ _ (λh=>E h.2)]at f;exact(hs.arr k j y f).1
   refine⟨M,λob a=>?_⟩;simp only[]at a;rw[cJ,bJ rfl]at a;obtain rfl:=eO a;refine .inr (.inr (.inl ⟨sz,ig++[[]],r,rfl,λp i q=>?_,λi1 i2 y1 y2 N h1 h2 b v A=>?_,λi E=>?_⟩))
   .rw[Gh.cu _ _ _ _ _ _ (λh=>by have:=(qi h.2).1;omega)];exact K p i q
   .by_cases B:i1=ig.length
    .subst B;rw[Gh.fG]at h1;cases h1;obtain⟨_,_,_,h⟩:=v;exact absurd rfl h
    .by_cases e2:i2=ig.length
     .subst e2;rw[Gh.fG]at h2;cases h2;obtain⟨_,_,_,h⟩:=A;exact absurd rfl h
     .rw[Gh.cu _ _ _ _ _ _ (λh=>B (qi h.2).2)]at h1;rw[Gh.cu _ _ _ _ _ _ (λh=>e2 (qi h.2).2)]at h2;exact(hs.oE t h1).2.1 i1 i2 y1 y2 N h1 h2 b v A
   .subst E;by_cases B:i=ig.length
    .subst B;rw[Gh.fG]at f;cases f;exact⟨rfl,[],by simp,⟨rfl,bQ _,by simp,h0,by simp,λ_=>rfl,λh=>absurd rfl h⟩⟩
    .rw[Gh.cu _ _ _ _ _ _ (λh=>B (qi h.2).2)]at f;obtain⟨q1,R,q2,q3⟩:=(hs.oE t f).2.2 i rfl;exact⟨q1,R,by rw[lD,bJ (aF q2)];exact q2,q3.j4 rfl⟩
  .have P:g.arr k j=Z y:=by rw[Gh.cu _ _ _ _ _ _ (λh=>d h.1)]at f;exact f
   obtain⟨h1,h2⟩:=hs.arr k j y P;refine⟨h1,λob a=>?_⟩;simp only[]at a;rw[cJ,br d]at a;exact(h2 ob a).tr (λh=>h.j4 rfl) l (funext λj=>Gh.cu _ _ _ _ _ _ (λh=>d h.1))
variable {a:Act}{o:Oper}{n j:Nat}
def ID{P:Program}{c:Call}(f:o.op=.call c)(j:c.callee=.builtin .append){u v:Operand}{ty g:TypeId}(k:c.args=#[u,v])(i:c.argTypes=#[ty,g]){R:Value->World->Prop}(h:Gj P ty g o.type (a.eval u) (a.eval v) w R)
  {K:Act->World->Prop} {Q:Exit->Act->World->Prop} (l:∀v w',R v w'->K (a.put o.dst v) w'):o.wp P a w K Q∨(o.asks P a w∧LetsOut Q):=by
 have d:o.op=.call {callee:=.builtin .append,args:=#[u,v],argTypes:=#[ty,g]}:=by rw[f,<-k,<-i,<-j]
 obtain⟨r,w',e,m⟩:=h
 left
 unfold Oper.wp;have b:(execOp a.eval o).run P w=.ok (.value r) w':=by simp[execOp,d,resolve,invoke,builtin,e]
 rw[b];exact l r w' m
def args2{l:Array Operand}{x y:T}(b:PW (aM g w) [x,y] (l.toList.map a.eval)):∃u v,l=#[u,v]∧aM g w x (a.eval u)∧aM g w y (a.eval v):=by
 have d:l.size=2:=by have:=b.1;simpa using this.symm
 obtain⟨u,v,c⟩:∃u v,l=#[u,v]:=⟨l[0],l[1],by
  apply Array.ext
  .simp[d]
  .intro i h1 h2;have:i=0∨i=1:=by omega
   rcases this with rfl|rfl<;>rfl⟩
 exact⟨u,v,c,b.2 0 _ _ rfl (by simp[c]),b.2 1 _ _ rfl (by simp[c])⟩
def Zr(a:fB S){t:Ty}(b:Cv S n j t=W)(x:S.A n)(c:O Addr)(p q:Nat):(iS j (enc S (.st n) x) (.slice c p q)).qD=(enc S (.st n) x).qD:=by
 have h:zl j (enc S (.st n) x) ((GH n j t x).map (enc S t))=enc S (.st n) x:=by
  show D.agg ((S.cells n x).set j _)=D.agg (S.cells n x);have:(S.cells n x)[j]?=Z (.sl ((GH n j t x).map (enc S t))):=by rw[a.cells];exact Ip (Fi b)
  rw[Hs this]
 rw[<-zk j _ ((GH n j t x).map (enc S t)),h]
def S6(b:fB S)(x:S.A n)(c:O Addr)(p q:Nat):(iS j (enc S (.st n) x) (.slice c p q)).flat=W:=by
 show((S.cells n x).set j _).all D.leaf=W;refine eC.2 λd a=>?_;rcases LL a with a|rfl
 .rw[b.cells]at a;exact gW _ _ (b.leaf n) d a
 .rfl
def Ft{E:gH}(hS:fB S)(hT:zU E.E)(hEE:NR E.E)(YA:PL S E){fr:bY S}{s s':bq S}(hf:cG g (bA fr) a w)(hs:bh g (aI s) w){cl:Call}(hop:o.op=.call cl){b:Builtin}(hb:cl.callee=.builtin b){args:L (V S)}(hargs:jX fr cl.args.toList=Z args){c:Bool}{t:V S}
  (h:jF E s b cl.argTypes args=Z (c,t,s')) (hc:c=W) {K:Act->World->Prop} {Q:Exit->Act->World->Prop} (hK:∀g' v w',cO [] s g w s' g' w'->aM g' w' (low t) v->K (a.put o.dst v) w') :
  o.wp E.E.P a w K Q∨(o.asks E.E.P a w∧LetsOut Q):=by
 have nV:=fu hf (gU hargs);unfold jF at h;split at h
 ·
  rename_i f r;split at h;rotate_left
  .cases h
  rename_i n j l era m gL hole P;split at h;rotate_left
  .cases h
  rename_i i B hi Mw;split at h;rotate_left
  .cases h
  rename_i sz ag bt zz R;rcases af h with⟨H,h9⟩|⟨_,h9⟩;rotate_left
  .cases h9
  simp only[ec]at H;have ZW:=beq_iff'.1 H.1;subst ZW;simp only[bg,bD]at h9;obtain⟨_,rfl,rfl⟩:=h9;have hx0:aM g w (.sh f r) ((cl.args.toList.map a.eval)[0]'(by have:=nV.1;simp[bn]at this;simp;omega)):=nV.2 0 _ _ rfl (fN _);obtain⟨xs,hxs,_⟩:=I5 hx0;have F:f<bC:=dB (hs.lt' hxs) hs.aJ;obtain⟨hl,h1,h2,h3,h4⟩:=Hh hs P hxs;have hlen:(lits j (l.map (enc S (.st n))) hl).length=l.length:=by rw[lH (by simpa using h1)];simp
  refine wU hEE hf h4 hop hb (gU hargs) (p:=True) (t:=.sym (.lit (.int .i64 (D.len (lits j (l.map (enc S (.st n))) hl))))) (s':=j9 s f (.arr (S.width (.st n)) (lits j (l.map (enc S (.st n))) hl) r)) ?_ trivial (k:=λC st'=>C=.sym (.lit (.int .i64 (D.len (lits j (l.map (enc S (.st n))) hl))))∧st'=j9 s f (.arr (S.width (.st n)) (lits j (l.map (enc S (.st n))) hl) r)) ⟨rfl,rfl⟩ (λC st' g' v w' he zh ht=>?_)
  .have hi':(nth cl.argTypes.toList 0).bind E.E.ti=Z i:=hi;simp only[bn,low,e9,xj,hi',R,qJ];rw[fV F,bJ rfl];simp only[show Nat.beq r r=W from beq_iff'.2 rfl,cH,ee]
  .obtain ⟨rfl,rfl⟩:=he;refine hK g' v w' (cO.lW hs (yu zh.rel F (by rw[fV F,bJ rfl]) h1 (h3.le (λj y=>zh.ext.arr m j y)) P (λk hk=>by rw[fV F,br hk]) rfl) zh.ext rfl rfl (bQ _) (iK.refl _)) ?_;have e:D.len (lits j (l.map (enc S (.st n))) hl)=ak l:=by simp only[D.len,hlen,ak]
   rw[e]at ht;exact ht
 ·
  rename_i f r B j' x;split at h;rotate_left
  .cases h
  rename_i n j l era m gL P;split at h;rotate_left
  .cases h
  rename_i ty tx adQ;split at h;rotate_left
  .cases h
  rename_i i i' n'' C A hi hi' Mw hrw;split at h;rotate_left
  .cases h
  rename_i sz ag bt zz sz' ag' bt' zz' new R My hnew;obtain⟨e1,hh⟩:=e8 hnew;cases e1;cases hh;rcases af h with⟨H,h9⟩|⟨_,h9⟩;rotate_left
  .cases h9
  clear h;simp only[ec]at H;obtain⟨b1,b2,b3,b4,b5,b6,b7,b8,b9⟩:=H;have e1:=beq_iff'.1 b1;subst e1;have e2:=beq_iff'.1 b2;subst e2;have e3:=beq_iff'.1 b3;subst e3;simp only[bg,bD]at h9;obtain⟨hll,rfl,rfl⟩:=h9;have anf:D.dz (Zu l A) (cX l [x])=W:=hll.trans ‹_›;have ahd:Zu l A=W∧cX l [x]=W:=by simpa[D.dz]using anf
  have anr:=ahd.2;have hll:=Co (show decide _=W from ahd.1);obtain⟨u,v,ha,hu,hv⟩:=args2 nV;have CV:cl.argTypes=#[ty,tx]:=by apply DO;simpa using adQ
  obtain⟨xs,hxs,Wh⟩:=I5 hu;have F:f<bC:=dB (hs.lt' hxs) hs.aJ;have hmn:m<s.aJ:=fU b6;have hmN:m<bC:=dB hmn hs.aJ;have hw0:0<S.width C:=fU b9;obtain⟨szm,hm⟩:=oa (yF hrw);have ZT:szm=S.width C:=by
   have h1:=hrw;unfold Li at h1;split at h1
   .rename_i t0 ajX r0 G;rcases af h1 with⟨_,h1⟩|⟨_,h1⟩
    .cases h1;rw[bf,G]at hm;cases hm;rfl
    .cases h1
   .cases h1
  subst ZT;have hom:f≠m:=by rintro rfl;rw[bf,P]at hm;cases hm
  generalize hvv:a.eval v=vv at hv;cases hv with
  |nZ _ _ c ad hcj hcd=>
  obtain⟨p1,p2⟩:=hs.Zc hm hmn hw0 c
  let s1:bq S:={s with ob:=s.ob.set aL m (.rws C (A++[[]]) gL)}
  have amx:(aI s1)={aI s with ob:=(aI s).ob.set aL m (.rws (S.width C) (A.map (·.map (enc S C))++[[]]) gL)}:=by simp only[s1,aI,Tr.lA,cQ,HE,lT,Hx]
  rw[<-amx]at p1;have amV:s1.ob.get f=Z (.kB B j l r m gL Y):=by show(s.ob.set aL m _).get f=_;rw[Tr.aZ _ _ _ _ hmN,br hom];exact P
  have amp:=p2.arr _ _ _ hxs;obtain⟨hl,h1,h2,h3,h4⟩:=Hh p1 amV amp;have Z2:(lits j (l.map (enc S (.st B))) hl).length=l.length:=by rw[lH (by simpa using h1)];simp
  obtain⟨⟨z,I,_⟩,_,_,M⟩:=YA.row _ _ _ hi Mw;rw[R]at I;obtain⟨rfl,rfl,rfl,rfl⟩:=Kd.slice.inj I;have anv:aM (g.era m (rc gL (A.map (·.map (enc S C))).length) ⟨c,0,0,S.width C⟩) w (.jE 0 [iS j (enc S (.st B) x) (.slice c 0 0)]) (.slice ad 1 1):=.jE 0 _ ad (by simp) (hcd.ext p2 hs.bB);have hus:aM (g.era m (rc gL (A.map (·.map (enc S C))).length) ⟨c,0,0,S.width C⟩) w (.sh f r) (a.eval u):=hu.ext p2 hs.bB;have aab:D.app (lits j (l.map (enc S (.st B))) hl) [iS j (enc S (.st B) x) (.slice c 0 0)]=lits j ((cM l [x]).map (enc S (.st B))) (hl++[.slice c 0 0]):=by simp only[D.app,lits,cM,HE,lT,Hx];rw[List.zipWith_append (by simp;omega)];rfl
  have aaa:D.Us (D.app (lits j (l.map (enc S (.st B))) hl) [iS j (enc S (.st B) x) (.slice c 0 0)]) (uL S (.st B)):=by
   intro d hd;rw[aab]at hd;obtain⟨q,G⟩:=HI hd;rw[lits,Jn]at G;split at G
   .rename_i dd hv0 k1 k2;cases G;rw[gM,eG]at k1;obtain⟨xx,_,rfl⟩:=k1;obtain⟨a0,n0,m0,rfl⟩:∃a0 n0 m0,hv0=.slice a0 n0 m0:=by
     rw[lD]at k2;split at k2
     .exact h3.1 q hv0 k2
     .rename_i hge;have:q-hl.length=0:=by have:=aF k2;simpa using this
      rw[this]at k2;cases k2;exact⟨_,_,_,rfl⟩
    exact⟨by rw[Zr hS b8];exact AM hS (t:=.st B) xx,S6 hS xx a0 n0 m0⟩
   .cases G
  have hgv:=fV (s:=s1) F (.arr (S.width (.st B)) (lits j (l.map (enc S (.st B))) hl) r);have hkj:i'.kd=.slice sz' ag' bt' zz':=My;have hap:=wX (rt:=o.type) (hEE.ti _ _ hi) (hEE.ti _ _ hi') ⟨_,_,_,_,hkj⟩ h4 (x:=.sh f r) (y:=.jE 0 [iS j (enc S (.st B) x) (.slice c 0 0)]) (vx:=a.eval u) (vy:=.slice ad 1 1)
   (p:=True∧D.rows [iS j (enc S (.st B) x) (.slice c 0 0)] (S.width (.st B))∧D.Us (D.app (lits j (l.map (enc S (.st B))) hl) [iS j (enc S (.st B) x) (.slice c 0 0)]) (uL S (.st B))∧D.Rp (lits j (l.map (enc S (.st B))) hl) [iS j (enc S (.st B) x) (.slice c 0 0)]) (t:=.sh f (Nat.succ r))
   (s':={j9 s1 f (.arr (S.width (.st B)) (lits j (l.map (enc S (.st B))) hl) r)with ob:=(j9 s1 f (.arr (S.width (.st B)) (lits j (l.map (enc S (.st B))) hl) r)).ob.set aL f (.arr (S.width (.st B)) (D.app (lits j (l.map (enc S (.st B))) hl) [iS j (enc S (.st B) x) (.slice c 0 0)]) (Nat.succ r))}) (by
   have hg0:=hgv f;rw[bJ rfl]at hg0;have e1:Nat.blt (j9 s1 f (.arr (S.width (.st B)) (lits j (l.map (enc S (.st B))) hl) r)).aJ bC=W:=b7;have e2:Nat.ble (j9 s1 f (.arr (S.width (.st B)) (lits j (l.map (enc S (.st B))) hl) r)).fl f=W:=b4;simp only[p9,e1,Ai,dS,R,qJ,hg0,e2,show Nat.beq r r=W from beq_iff'.2 rfl,show Nat.beq (S.width (.st B)) (S.width (.st B))=W from beq_iff'.2 rfl,pQ,HB];rfl) ⟨trivial,λd hd=>by
    rw[lg.1 hd];show((enc S (.st B) x).cells.set j _).length=_;rw[Ak,jU hS],aaa,by
    have:l.length+1<=17179869184:=by simpa[cX]using anr
    show(lits j (l.map (enc S (.st B))) hl).length+1<=_;rw[Z2];exact this⟩ hus anv
  refine ID hop hb ha CV (by rw[hvv];exact hap) (λv w' hR=>?_);obtain⟨g',r1,r2,r3⟩:=hR;have hE:=p2.trans r2;refine hK g' v w' (cO.lW hs ?_ hE rfl rfl (bQ _) ⟨λ_ h=>gO _ (gO _ h),λk _ hk=>?_,rfl⟩) r3
  .refine yu r1 (n:=B) (j:=j) (l:=cM l [x]) (era:=Nat.succ r) (m:=m) (gL:=gL) (hole:=Y) (hl:=hl++[.slice c 0 0]) F ?_ (by simp[cM];omega) ⟨λq v G=>?_,λq v G _=>?_⟩ ?_ (λk hk=>?_) rfl
   .show ((j9 s1 f _).ob.set aL f _).get f=_;rw[Tr.aZ _ _ _ _ F,bJ rfl,aab]
   .rw[lD]at G;split at G
    .exact h3.1 q v G
    .have:q-hl.length=0:=by have:=aF G;simpa using this
     rw[this]at G;cases G;exact⟨_,_,_,rfl⟩
   .rw[lD]at G;split at G
    .obtain ⟨yy,k1,k2⟩:=h3.2 q v G (by simp);exact⟨yy,r2.arr _ _ _ k1,k2⟩
    .have h0:q-hl.length=0:=by have:=aF G;simpa using this
     rw[h0]at G;cases G;refine⟨⟨c,0,0,S.width C⟩,r2.arr _ _ _ ?_,rfl⟩;have:q=(A.map (·.map (enc S C))).length:=by rw[Aj];omega
     rw[this];exact Gh.fG _ _ _ _
   .show ((s.ob.set aL m _).set aL f _).get f=_;rw[Tr.aZ _ _ _ _ F,bJ rfl]
   .show (aI {s with ob:=(s.ob.set aL m _).set aL f _,wr:=_}).ob.get k=((j9 s1 f _).ob.set aL f _).get k;rw[Tr.aZ _ _ _ _ F,br hk,hgv,br hk,bf,bf];show(((s.ob.set aL m _).set aL f _).get k).map cQ=((s.ob.set aL m _).get k).map cQ;rw[Tr.aZ _ _ _ _ F,br hk];rfl
  .simp only[eU,not_or]at hk;show((s.ob.set aL m _).set aL f _).get k=_;rw[Tr.dg _ _ _ _ _ hk.1,Tr.dg _ _ _ _ _ hk.2.1]
 ·
  rename_i f m r k y;split at h;rotate_left
  .cases h
  rename_i n j l era m' gL t0 A rera' P hm0;split at h;rotate_left
  .cases h
  rename_i ty tx adQ;split at h;rotate_left
  .cases h
  rename_i i i' C new hi hi' Mw ZU;split at h
  .cases h
  .rename_i sz ag bt zz sz' ag' bt' zz' R My amY;rcases af h with⟨H,h9⟩|⟨_,h9⟩;rotate_left
   .cases h9
   clear h;simp only[ec]at H;obtain⟨b1,b2,b3,b4,b5,b6,b7⟩:=H;have e1:=beq_iff'.1 b1;subst e1;have e2:=beq_iff'.1 b2;subst e2;have e3:=beq_iff'.1 b3;subst e3;have e4:=fM b7;subst e4;simp only[bg,bD]at h9;obtain⟨rfl,rfl,rfl⟩:=h9;have Yz:cz k A=W∧cX (aR A k []) new=W:=by simpa[D.dz]using hc
   have hk:=rm Yz.1;obtain⟨u,v,ha,hu,hv⟩:=args2 nV;have CV:cl.argTypes=#[ty,tx]:=by apply DO;simpa using adQ
   obtain⟨yy,hyy,hue⟩:=Ra hu;have hm:(aI s).ob.get m=Z (.rws (S.width C) (A.map (·.map (enc S C))) r):=by rw[bf,hm0];rfl
   obtain⟨_,rs0,ZV,hok⟩:=(hs.oE hm hyy).2.2 k rfl;have hrs:rs0=(aR A k []).map (enc S C):=by rw[gM,fN hk]at ZV;cases ZV;simp[aR,List.getD,hk]
   subst hrs;obtain⟨q,G,hqp⟩:=yC ZU;obtain⟨xi,d1,_,OS,Rj,_,_,_,_,Up⟩:=(hEE.ti _ _ hi).all;obtain⟨_,d2,_,_,hu2,_,_,_,_,hk2⟩:=(hEE.ti _ _ hi').all;rw[My]at hk2;obtain⟨e',_,_,_,rfl,_⟩:=hk2;obtain⟨⟨z,I,_⟩,_,_,M⟩:=YA.row _ _ _ hi Mw;rw[R]at I;obtain⟨rfl,rfl,rfl,rfl⟩:=Kd.slice.inj I;rw[R]at Up;obtain⟨e,ji,d',zv,rfl,hji,N,_,_,hjz,zf,O1,h0,O2,pI,hb0,hzl⟩:=Up;have hzs:zv.cells.size=ji.size:=by rw[<-zf.1,hzl,N]
   have X:D.rows (new.map (enc S C)) (S.width C):=qN hS new;have aaa:D.Us (D.app ((aR A k []).map (enc S C)) (new.map (enc S C))) (uL S C):=by rw[sM];exact Da hS _
   obtain⟨news,hsrc,hvr,hlen⟩:=yD hs G hqp hv M X (λd hd=>(aaa d (iX _ hd)).2) hu2;obtain⟨ay,cy,hve,_,amo,OR⟩:=qI hs G hqp hv M X;have ahq:=Cb (rt:=o.type) Rj hu2 hji hjz hzs (N▸M) hb0 O1 pI hs.bB (N▸hok) (λb hb=>(hok.at_ hb).2.elim λvs h=>h.elim λty h=>(Jo.1 h.2).1) (λd hd=>(aaa d hd).1) (N▸X) (N▸hsrc) (N▸hvr) (CX _ Yz.2) (λhne=>by
    obtain⟨ady,ajU,rfl,Ri,hyc,_⟩:=OR hne;refine⟨ady,cy,hve,λCV=>?_,λq G=>?_⟩
    .rcases Ri with Tk|⟨o',ho',_⟩
     .exact Bool.noConfusion ((hok.at_ CV).1.2 Tk)
     .rw[Eb]at ho';unfold LY at ho';split at ho'
      .exact amY _ _ rfl
      .cases ho'
    .rw[N]at G;have h1:=hyc (q/S.width C) (q%S.width C) (QO (by rw[xw];exact G)) (Nat.mod_lt _ M);have hkk:q/S.width C*S.width C+q%S.width C=q:=by rw[xw];exact Nat.div_add_mod q _
     rw[hkk]at h1;rw[h1];rfl)
   have hxs:∃anK,anK=era:=⟨_,rfl⟩;refine ID hop hb ha CV (by rw[hue];exact ahq) (λv w' hR=>?_);obtain⟨y',hp⟩:=hR;rw[N,sM]at hp;have amT:(aI s).ob.get f=Z (.kB j (S.width (.st n)) (l.map (enc S (.st n))) era m r Y):=by rw[bf,P];rfl
   have F:f<bC:=fU b6;obtain⟨r1,r2⟩:=hs.aaH amT hm F hyy hp (fU b5);refine hK _ v w' (cO.lW hs (s':={s with ob:=(s.ob.set aL m (.rws C (dV A k (cM (aR A k []) new)) (Nat.succ r))).set aL f (.kB n j l era m (Nat.succ r) (Z k)),wr:=f::m::s.wr}) ?_ r2 rfl rfl (bQ _) ⟨λ_ h=>gO _ (gO _ h),λk' _ hk'=>?_,rfl⟩) ?_
   .have e:aI {s with ob:=(s.ob.set aL m (.rws C (dV A k (cM (aR A k []) new)) (Nat.succ r))).set aL f (.kB n j l era m (Nat.succ r) (Z k)),wr:=f::m::s.wr}={aI s with ob:=((aI s).ob.set aL m (.rws (S.width C) ((A.map (·.map (enc S C))).set k ((cM (aR A k []) new).map (enc S C))) (r+1))).set aL f (.kB j (S.width (.st n)) (l.map (enc S (.st n))) era m (r+1) (Z k))}:=by simp only[aI,Tr.lA,cQ,dV,Hy]
    rw[e];exact r1
   .simp only[eU,not_or]at hk';show((s.ob.set aL m _).set aL f _).get k'=_;rw[Tr.dg _ _ _ _ _ hk'.1,Tr.dg _ _ _ _ _ hk'.2.1]
   .rw[hp.val];exact .qm _ _ _ _ _ _ y'.sz _ (by rw[Gh.oF,bJ rfl])
  .cases h
 .cases h
end
end
section
structure eP(E:gl S):Prop where
 sg:fB S
 Uo:zU E.T.E
 ty:PL S E.T
 name:∀f fn,E.T.E.Ur f=Z fn->(fn.name== "runtime.NumGoroutine")=J
 ng:∀f,E.T.E.GI f=Y
 x:XOk S E.T
 GI:∀f c,E.GI f=Z c->bz E.T.E.P f c
variable {E:gl S}{c:Bool}{args:List (V S)}{fr:bY S}{a:Act}{s s':bq S}{call:iH S}{o:Oper}
def eP.env(h:eP E):NR E.T.E:={h.Uo with
 name:=h.name
 GI:=λf c a=>by rw[h.ng]at a;cases a}
def vU(s:bq S)(g:Gh)(w:World){ω:Type}(k kp:V S->bq S->O ω)(r:ω):Ending->World->Prop
 | .returned v,b=>∃t s' c,k t s'=Z r∧aM c b (low t) v∧cO [] s g w s' c b
 | .panicked chain,b=>∃v t s' c,chain=[{v,recovered:=J}]∧kp t s'=Z r∧aM c b (low t) v∧cO [] s g w s' c b
 | .outgrown,_=>False
structure fX(P:Program)(call:iH S):Prop where
 fn:∀(f:FuncId)(args:List (V S))(s:bq S){ω:Type}(k kp:V S->bq S->Option ω)(r:ω),call (.fn f) args s k kp=Z r->∀(g:Gh)(w:World)(vs:Array Value),bh g (aI s) w->PW (aM g w) (bn args) vs.toList->
  mD P f∧Calls P f vs w (vU s g w k kp r)
 yl:∀(o:Nat)(args:List (V S))(s:bq S){ω:Type}(k kp:V S->bq S->Option ω)(r:ω),call (.yl o) args s k kp=Z r->∀(g:Gh)(w:World)(vs:Array Value)(b:Nat),bh g (aI s) w->PW (aM g w) (bn args) vs.toList->g.cj o=Z b->
  ∃l:Loop,w.heap[b]?=Z (.loop l)∧vs.size=l.params.size∧∀rr n,RoundIn (WR rr) n P b l.fn ((l.params.zip vs).foldl (λtmps(t,a)=>tmps.setIfInBounds t a) l.tmps) l.assign l.body w (vU s g w k kp r)
def m8{α:Type}{x:O α}{r:α}(h:aD c x=Z r):c=W∧x=Z r:=by
 unfold aD at h;rcases af h with h|⟨_,h⟩
 .exact h
 .cases h
def oD{α:Type}{x y:O α}{r:α}(h:aj c x y=Z r):(c=W∧x=Z r)∨(c=J∧y=Z r):=af h
def pY{f:V S}{as:L (V S)}{id:FuncId}(h:n4 f args=Z (id,as)):vP (low f) (bn args)=Z (id,bn as):=by
 unfold n4 at h;split at h
 .simp only[bg,bD]at h;obtain⟨rfl,rfl⟩:=h;simp only[low,vP,jx]
 .cases h
section
variable {g:Gh}{w:World}
def n3{p:V S->Bool}{q:T->Bool}(a:∀v,q (low v)=p v):∀l:L (Bo S),sQ q (l.map rf) ((l.map (iw p)).map rf)
 |[]=>.nil
 |d::l=>by
  refine .cons ?_ (n3 a l);cases d with
  |call f args=>
   simp only[iw];cases b:p f||args.any p with
   |true=>exact .inl rfl
   |false=>simp only[v7,LF]at b;refine .inr ⟨rfl,by rw[a];exact b.1,λt c=>?_⟩;rw[gp,tY]at c;obtain⟨v,e,rfl⟩:=c;rw[a];simpa using b.2 v e
  |mark o=>
   simp only[iw];cases b:p (.ptr o 0)with|true=>exact .inl rfl|false=>exact .inr ⟨rfl,(a (.ptr o 0)).trans b⟩
  |bad=>exact .inr ⟨rfl,trivial⟩
def mL{ow:L Nat}{g':Gh}{w':World}(hf:cG g (bA fr) a w)(h:cO ow s g w s' g' w'):cG g' (bA (ei ow fr)) a w':=by
 refine⟨?_,?_,λk t x=>?_⟩
 .cases ow<;>exact hf.size
 .cases ow with
  |nil=>
   have i:∀t:T,dJ [] t=J:=by
    intro t
    induction t using T.rec (motive_2:=λl=>iQ [] l=J)with|fn f a b d j=>simp[dJ,d,j]|cR t v e=>simp[dJ,e]|agg q e=>simp[dJ,e]|gB q e=>simp[dJ,e]|gd c v e=>simp[dJ,e]|nil=>rfl|cons a l d m=>simp[iQ,d,m]|_=>simp[dJ]
   refine hf.df.imp (λt v y=>h.tr t v y (i t)) λo b z=>?_;have:=h.tr _ _ (.ptr o 0 b z) (i _);cases this with|ptr _ _ _ r=>exact r
  |cons o ow=>exact(n3 (λv=>jQ _ v) fr.df).rel h.tr hf.df
 .rw[bR,eG]at x;obtain⟨v,n,rfl⟩:=x;have p:fr.get k=Z v∧dJ ow (low v)=J:=by
   cases ow with
   |nil=>
    refine⟨n,?_⟩;have:∀t:T,dJ [] t=J:=by
     intro t;have key:(∀t:T,dJ [] t=J):=by
      intro t
      induction t using T.rec (motive_2:=λl=>iQ [] l=J)with|fn f a b d j=>simp[dJ,d,j]|cR t v e=>simp[dJ,e]|agg q e=>simp[dJ,e]|gB q e=>simp[dJ,e]|gd c v e=>simp[dJ,e]|nil=>rfl|cons a l d m=>simp[iQ,d,m]|_=>simp[dJ]
     exact key t
    exact this _
   |cons o ow=>simp only[ei,bY.get,Tr.oU]at n;rw[QV]at n;refine⟨n.1,?_⟩;rw[jQ];simpa using n.2
  obtain⟨u,A,B⟩:=hf.tm k (low v) (by rw[bR,p.1];rfl);exact⟨u,A,h.tr _ _ B p.2⟩
def Q5(b:eP E)(hf:cG g (bA fr) a w)(hs:bh g (aI s) w)(o:Oper){t:V S}(h:yX E.T fr s o.op=Z (c,t,s'))(e:c=W) :
  ∃v w' g',((execOp a.eval o).run E.T.E.P w=.ok (.value v) w'∨((execOp a.eval o).run E.T.E.P w=.ok .skip w'∧v=undef))∧aM g' w' (low t) v∧cO [] s g w s' g' w':=by
 unfold yX at h;split at h
 .rename_i r d;cases h;exact Zj b.sg b.Uo b.ty hf hs o d e
 .split at h
  .rename_i r d;cases h;obtain⟨p,f,j⟩:=Me b.sg b.ty d e;obtain⟨⟨v,w',g',k,i,l,m⟩,h1,h2,h3⟩:=mg b.Uo hf hs o f j;exact⟨v,w',g',k,m,cO.lW hs i l h1 h2 h3 (Vw d)⟩
  .exact Zh b.sg b.Uo b.ty b.x hf hs o h e
def Ul(s:bq S)(g:Gh)(w:World){ω:Type}(k:V S->bq S->L Nat->O ω)(kp:V S->bq S->O ω)(r:ω):Ending->World->Prop
 | .returned v,b=>∃t s' c d,k t s' d=Z r∧aM c b (low t) v∧cO d s g w s' c b
 | .panicked chain,b=>∃v t s' c,chain=[{v,recovered:=J}]∧kp t s'=Z r∧aM c b (low t) v∧cO [] s g w s' c b
 | .outgrown,_=>False
def zx(l:eP E)(c:fX E.T.E.P call)(hs:bh g (aI s) w){f:FuncId}{ω:Type}{kp:V S->bq S->O ω}{k:V S->bq S->L Nat->O ω}{r:ω}
  (h:sA E call s f args kp k=Z r) {vs:Array Value} (b:PW (aM g w) (bn args) vs.toList):mD E.T.E.P f∧Calls E.T.E.P f vs w (Ul s g w k kp r):=by
 unfold sA at h;split at h
 .rename_i p i;obtain⟨a,j⟩:=BT l.sg (l.GI _ _ i) hs b h;refine⟨a,j.mono λe m d=>?_⟩;cases e with|returned v=>exact d|panicked n=>exact d|outgrown=>exact d.elim
 .obtain ⟨a,j⟩:=c.fn _ _ _ _ _ _ h g w _ hs b;refine⟨a,j.mono λe m d=>?_⟩;cases e with
  |returned v=>obtain⟨t,s',o,h1,h2,h3⟩:=d;exact⟨t,s',o,[],h1,h2,h3⟩
  |panicked n=>exact d
  |outgrown=>exact d.elim
def BR{E:gl S}{call:iH S}{s:bq S}{m:String}{args:L (V S)}{n:Nat}{x:den S.A (.cR n)}{ω:Type}{kp:V S->bq S->O ω}{k:V S->bq S->L Nat->O ω}{r:ω}:∀{l:L (TypeId×Ty)}{j:Nat},
  Rq E call s m args n x kp k l j=Z r->∃i t f,fW (S.alts n) i (S.sq n x)=W∧((nth (S.alts n) i).elim 0 (·.1))=t∧E.T.Jx t m=Z f∧sA E call s f (.ty (lX (S.alts n) i) (gi S.zero (S.alts n) i (S.sq n x))::args) kp k=Z r
 |[],j,h=>by cases h
 |p::l,j,h=>by
  simp only[Rq]at h;rcases oD h with⟨a,h⟩|⟨_,h⟩
  .split at h
   .rename_i f b;rcases af h with⟨c,h⟩|⟨_,h⟩
    .exact ⟨j,p.1,f,a,(nN c).symm,b,h⟩
    .cases h
   .cases h
  .exact BR h
def E1:∀(l:L (TypeId×Ty))(i:Nat)(x:wh S.A l),fW l i x=W->sB S l x=Z ((nth l i).elim 0 (·.1),enc S (lX l i) (gi S.zero l i x))
 |[],_,_,h=>by cases h
 |p::l,0,.inl y,_=>rfl
 |p::l,0,.inr y,h=>by cases h
 |p::l,i+1,.inl y,h=>by cases h
 |p::l,i+1,.inr y,h=>E1 l i y h
def Gv{P:Program}{c:Call}(e:o.op=.call c){d:Operand}(f:c.callee=.value d){b:Nat}(g:a.eval d=.func (.yield b) #[] #[]){w:World}{l:Loop}(hl:w.heap[b]?=Z (.loop l))(hs:(c.args.map a.eval).size=l.params.size) :
  (execOp a.eval o).run P w=.ok (.round b l.fn ((l.params.zip (c.args.map a.eval)).foldl (λtmps(t,a)=>tmps.setIfInBounds t a) l.tmps) l.assign l.body) w:=by
 simp only[execOp,e,resolve,f,Deferred.ofValue,g,Sem.run_bind,Sem.run_pure,Result.andThen_ok,invoke];have:=run_yield (P:=P) (args:=#[]++c.args.map a.eval++#[]) hl (by simpa using hs);simpa using this
def GL(I:eP E)(BM:fX E.T.E.P call)(hf:cG g (bA fr) a w)(hs:bh g (aI s) w){ω:Type}{kp:V S->bq S->O ω}{k:V S->bq S->L Nat->O ω}{r:ω}
  (h:sx E call o fr s kp k=Z r) {K:Act->World->Prop} {Q:Exit->Act->World->Prop} (hK:∀t s' g' ow v w',k t s' ow=Z r->cO ow s g w s' g' w'->aM g' w' (low t) v->K (a.put o.dst v) w')
  (hP:∀t s' g' v w',kp t s'=Z r->cO [] s g w s' g' w'->aM g' w' (low t) v->Q (.panic [{v,recovered:=J}]) a w') (hny:∀c fv oo,o.op=.call c->c.callee=.value fv->cm fr fv≠Z (.rJ oo)) :
  o.wp E.T.E.P a w K Q∨(o.asks E.T.E.P a w∧LetsOut Q):=by
 have fin:∀{t:V S}{s':bq S}{v:Value}{w':World}{g':Gh},k t s' []=Z r->((execOp a.eval o).run E.T.E.P w=.ok (.value v) w'∨((execOp a.eval o).run E.T.E.P w=.ok .skip w'∧v=undef))->aM g' w' (low t) v->cO [] s g w s' g' w'->o.wp E.T.E.P a w K Q:=by
  intro t s' v w' g' hk C P z;unfold Oper.wp;rcases C with C|⟨C,rfl⟩
  .rw[C];exact hK t s' g' [] v w' hk z P
  .rw[C];exact hK t s' g' [] undef w' hk z P
 have plain:(match iI E.T fr s o.op with
   |some (PC,p,d,s')=>tc (λv s=>k v s []) (aD p (k d s' [])) PC
   |none=>match yX E.T fr s o.op with
    |none=>Y
    |some (p,t,s')=>aD p (k t s' []))=Z r->o.wp E.T.E.P a w K Q:=by
  intro h;split at h
  .rename_i PC p d s' A;obtain⟨t,s1,v,w',g',h1,h2,h3,h4,_⟩:=Q6 I.Uo I.x hf hs o A (X:=λv s=>k v s []) h;exact fin h1 h2 h3 h4
  .split at h
   .cases h
   .rename_i p t s' A;obtain⟨hp,hk⟩:=m8 h;obtain⟨v,w',g',C,P,z⟩:=Q5 I hf hs o A hp;exact fin hk C P z
 have M:∀{f:FuncId}{args:L (V S)}{vs:Array Value},sA E call s f args kp k=Z r->PW (aM g w) (bn args) vs.toList->(mD E.T.E.P f->(execOp a.eval o).run E.T.E.P w=.ok (.enter f vs) w)->o.wp E.T.E.P a w K Q:=by
  intro f args vs h F hrun;obtain⟨G,hc⟩:=zx I BM hs h F;unfold Oper.wp;rw[hrun G];refine hc.mono λe w' he=>?_;cases e with
  |returned v=>obtain⟨t,s',g',ow,h1,h2,h3⟩:=he;exact hK t s' g' ow v w' h1 h3 h2
  |panicked ch=>obtain⟨v,t,s',g',rfl,h1,h2,h3⟩:=he;exact hP t s' g' v w' h1 h3 h2
  |outgrown=>exact he.elim
 unfold sx at h;split at h
 .rename_i c A;split at h
  .cases h
  .rename_i args H;have N:=gU H;have nV:=fu hf N;split at h
   .rename_i b hb;split at h
    .cases h
    .rename_i p t s' R;obtain⟨hp,hk⟩:=m8 h;unfold kz at R;split at R
     .rename_i r0 h0;cases R;exact Ft I.sg I.Uo I.env I.ty hf hs A hb H h0 hp (λg' v w' z P=>hK t s' g' [] v w' hk z P)
     split at R
     .rename_i r0 h0;cases R;obtain⟨q,hq,hqp⟩:=wV I.sg I.ty h0 hp;refine wU I.env hf hs A hb N hq hqp (k:=λt' st'=>t'=low t∧st'=aI s') ⟨rfl,rfl⟩ (λt' st' g' v w' he z P=>?_);obtain⟨rfl,rfl⟩:=he;exact hK t s' g' [] v w' hk (cO.lW hs z.rel z.ext z.fl z.lo z.aJ (GS h0)) P
     .obtain ⟨rfl,v,C,P⟩:=zM I.x hs hf A hb H R;exact .inl (fin hk (.inl C) P (cO.refl hs))
   .rename_i fv hfv;split at h
    .rename_i oo hyl;unfold acn at hyl;split at hyl
     .rename_i amP;exact absurd amP (hny c fv _ A hfv)
     .cases hyl
    split at h
    .cases h
    .rename_i f args' hfa
     left
     simp only[rW]at hfa;obtain⟨tf,htf,JQ⟩:=hfa;have hrf:=bM hf (bW htf);have B:=pY JQ;unfold vP at B;split at B
     .rename_i f' first cap Mx
      simp only[bg,bD]at B;obtain⟨rfl,adS⟩:=B;rw[Mx]at hrf;generalize hvf:a.eval fv=vf at hrf;cases hrf with
      |fn _ _ _ va vc l1 l2 r1 r2=>
      have F:PW (aM g w) (bn args') (va++c.args.map a.eval++vc).toList:=by rw[<-adS];simp only[Gz,QL];exact PW.append (PW.append ⟨by simpa using l1,λj x y h1 h2=>r1 j x y h1 (by simpa using h2)⟩ nV) ⟨by simpa using l2,λj x y h1 h2=>r2 j x y h1 (by simpa using h2)⟩
      exact M h F (λG=>yH A hfv hvf G)
     .cases B
   .rename_i x m hxm;have inv:∀{tt:TypeId}{f:FuncId}{tv:V S}{u:Value},a.eval x=.iface tt u->aM g w (low tv) u->E.T.Jx tt m=Z f->sA E call s f (tv::args) kp k=Z r->o.wp E.T.E.P a w K Q:=by
     intro tt f tv u hv hu hm h;have F:PW (aM g w) (bn (tv::args)) (#[u]++c.args.map a.eval).toList:=by
      simp only[Gz,QL];exact PW.append (l:=[low tv]) (m:=[u]) ⟨rfl,λj x y h1 h2=>by
       cases j with
       |zero=>simp at h1 h2;subst h1;subst h2;exact hu
       |succ j=>simp at h1⟩ nV
     exact M h F (λG=>Ln I.x A hxm hv hm G)
    split at h
    .rename_i tt tv hx;split at h
     .rename_i f hm;have C:=bM hf (bW hx);simp only[low]at C;generalize hv:a.eval x=v at C;cases C with|cR _ _ u hu=>exact .inl (inv hv hu hm h)
     .cases h
    .rename_i n y hx;obtain⟨i,t,f,h1,h2,h3,h4⟩:=BR h;have he:=E1 _ _ _ h1;rcases CU I.sg (show aM g w (eH S (.cR n) y) (a.eval x)from cY hf hx)with⟨he',_⟩|⟨t',d,u,he',hv,hd⟩
     .rw[he']at he;cases he
     .rw[he']at he;simp only[bg,bD]at he;obtain⟨P,rfl⟩:=he;rw[h2]at P;subst P;exact .inl (inv (tv:=.ty (lX (S.alts n) i) (gi S.zero (S.alts n) i (S.sq n y))) hv (tT hd) h3 h4)
    .cases h
 .rename_i x A;split at h
  .rename_i tt tv hx
   left
   have C:=bM hf (bW hx);simp only[low]at C;unfold Oper.wp;generalize hv:a.eval x=v at C;cases C with
   |cR _ _ u hu=>
   have:(execOp a.eval o).run E.T.E.P w=.halt (.panic (.iface tt u)) w:=by simp[execOp,A,hv,Instr.panic,goPanic]
   rw[this];exact hP _ _ g _ w h (cO.refl hs) (by simp only[low];exact .cR _ _ _ hu)
  .cases h
 .left
  exact plain h
def zu(H:eP E)(d:fX E.T.E.P call)(hf:cG g (bA fr) a w)(hs:bh g (aI s) w){ω:Type}{kp:V S->bq S->O ω}{k:V S->bq S->L Nat->O ω}{r:ω}
  (h:sx E call o fr s kp k=Z r) {K:Act->World->Prop} {Q:Exit->Act->World->Prop} (C:∀t s' g' ow v w',k t s' ow=Z r->cO ow s g w s' g' w'->aM g' w' (low t) v->K (a.put o.dst v) w')
  (F:∀t s' g' v w',kp t s'=Z r->cO [] s g w s' g' w'->aM g' w' (low t) v->Q (.panic [{v,recovered:=J}]) a w') {rr:O Nat} (x:rr≠Y->∀c,o.op≠.defer c) :
  XG rr E.T.E.P o a w K Q:=by
 by_cases G:∃c n u,o.op=.call c∧c.callee=.value n∧cm fr n=Z (.rJ u);rotate_left
 .exact .of_wp x (GL H d hf hs h C F λc n u h1 h2 h3=>G ⟨c,n,u,h1,h2,h3⟩)
 obtain⟨c,n,u,i,p,q⟩:=G;unfold sx at h;rw[i]at h;dsimp only at h;split at h
 .cases h
 rename_i args j;rw[p]at h;dsimp only at h;rw[q]at h;simp only[acn]at h;have y:=fu hf (gU j);have m:=bM hf (bW q);simp only[low]at m;generalize z:a.eval n=N at m;cases m with
 |rJ _ b I=>
 obtain⟨l,M,A,f⟩:=d.yl _ _ _ _ _ _ h g w (c.args.map a.eval) b hs (by simpa using y) I
 left
 rw[Oper.semAt_eq _ _ _ (by intro P;rw[i];intro h;cases h),Gv i p z M A];refine⟨λh=>by simp[Fence.wide]at h,(f rr _).mono λe w' B=>?_⟩;cases e with
 |returned v=>obtain⟨t,s',g',h1,h2,h3⟩:=B;exact C t s' g' [] v w' h1 h3 h2
 |panicked R=>obtain⟨v,t,s',g',rfl,h1,h2,h3⟩:=B;exact F t s' g' v w' h1 h3 h2
 |outgrown=>exact B.elim
mutual
def qY:∀(s:bq S)(t:Ty)(v:V S){x:den S.A t}{os:L Nat},qZ v=W->bP s t v=Z (x,os)->os=[]
 |s,t,.ty u y,x,os,_,h=>by
  simp only[bP]at h;split at h
  .simp only[bg,bD]at h;exact h.2.symm
  .cases h
 |s,t,.agg e,x,os,a,h=>by
  cases t with
  |st n=>
   simp only[bP]at h;split at h
   .rename_i h1 c f;simp only[bg,bD]at h;obtain⟨_,rfl⟩:=h;simp only[qZ]at a;exact HU s _ e a f
   .cases h
  |int=>simp[bP]at h
  |bool=>simp[bP]at h
  |str=>simp[bP]at h
  |sl=>simp[bP]at h
  |cR=>simp[bP]at h
 |s,t,.kb b,x,os,_,h=>by cases t<;>simp[bP]at h;first|exact h.2|exact h.2.symm
 |s,t,.kn k n,x,os,_,h=>by
  cases t<;>simp only[bP]at h<;>try(cases h;done)
  rcases af h with⟨_,h⟩|⟨_,h⟩
  .simp only[bg,bD]at h;exact h.2.symm
  .cases h
 |s,t,.emp,x,os,_,h=>by cases t<;>simp[bP]at h;first|exact h.2|exact h.2.symm
 |s,t,.jE n u l,x,os,_,h=>by
  cases t<;>simp only[bP]at h<;>try(cases h;done)
  split at h
  .simp only[bg,bD]at h;exact h.2.symm
  .cases h
 |s,t,.nZ n u y,x,os,_,h=>by
  cases t<;>simp only[bP]at h<;>try(cases h;done)
  split at h
  .simp only[bg,bD]at h;exact h.2.symm
  .cases h
 |s,t,.qm _ _ _ _,x,os,a,_=>by simp[qZ]at a
 |s,t,.sh _ _,x,os,a,_=>by simp[qZ]at a
 |s,t,.dat d,x,os,_,h=>by
  cases t with
  |cR n=>
   cases d with
   |lit v=>cases v<;>simp[bP]at h;first|exact h.2|exact h.2.symm
   |_=>simp[bP]at h
  |_=>simp[bP]at h
 |s,t,.mp _,_,_,_,h=>by cases t<;>simp[bP]at h
 |s,t,.rJ _,_,_,_,h=>by cases t<;>simp[bP]at h
 |s,t,.rI _,_,_,_,h=>by cases t<;>simp[bP]at h
 |s,t,.ub _,_,_,_,h=>by cases t<;>simp[bP]at h
 |s,t,.ptr _ _,_,_,_,h=>by cases t<;>simp[bP]at h
 |s,t,.mO _ _ _,_,_,_,h=>by cases t<;>simp[bP]at h
 |s,t,.kH _ _ _ _,_,_,_,h=>by cases t<;>simp[bP]at h
 |s,t,.fn _ _ _,_,_,_,h=>by cases t<;>simp[bP]at h
 |s,t,.cR u v,x,os,a,h=>by
  have a:qZ v=W:=a;cases t<;>simp only[bP]at h<;>try(cases h;done)
  split at h
  .split at h
   .rename_i y c g;simp only[bg,bD]at h;obtain⟨_,rfl⟩:=h;exact qY s _ v a g
   .cases h
  .cases h
 |s,t,.gB _,_,_,_,h=>by cases t<;>simp[bP]at h
 |s,t,.gd _ _,_,_,_,h=>by cases t<;>simp[bP]at h
def HU:∀(s:bq S)(ts:L Ty)(l:L (V S)){h:lI S.A ts}{os:L Nat},iY l=W->mR s ts l=Z (h,os)->os=[]
 |s,[],[],x,os,_,h=>by simp only[mR,bg,bD]at h;exact h.2.symm
 |s,t::ts,v::l,x,os,a,h=>by
  simp only[mR]at h;split at h
  .rename_i f b h1 c d e;simp only[bg,bD]at h;obtain⟨_,rfl⟩:=h;simp only[iY,ec]at a;rw[qY s t v a.1 d,HU s ts l a.2 e];rfl
  .cases h
 |s,[],_::_,_,_,_,h=>by simp[mR]at h
 |s,_::_,[],_,_,_,h=>by simp[mR]at h
end
end
end
section
def oM:Op->Bool
 | .alloc _|.box ..|.store ..|.buildSlice ..|.slice ..|.makeMap ..|.mapUpdate ..|.insert ..|.makeSlice ..|.range ..|.next ..|.defer ..=>W
 |_=>J
variable {E:gH}{fr:bY S}{s s':bq S}{o:Op}{c:Bool}{v:V S}{l:List (Nat×V S)}{args:List (V S)}{a:Act}
def Ov(h:cn E fr s o=Z (c,v,s'))(d:oM o=J):s'=s:=by
 cases o with
 |alloc=>cases d
 |box=>cases d
 |store=>cases d
 |buildSlice=>cases d
 |slice=>cases d
 |move x=>simp only[cn,eG,bD]at h;obtain⟨_,_,_,_,rfl⟩:=h;rfl
 |assign x=>simp only[cn,eG,bD]at h;obtain⟨_,_,_,_,rfl⟩:=h;rfl
 |pick x y z=>
  simp only[cn]at h;split at h
  .simp only[eG,bD]at h;obtain⟨_,_,_,_,rfl⟩:=h;rfl
  .cases h
 |build t e=>
  simp only[cn]at h;split at h
  .split at h
   .simp only[eG,bD]at h;obtain⟨_,_,_,_,rfl⟩:=h;rfl
   .cases h
  .cases h
 |load t x=>
  simp only[cn]at h;split at h
  .unfold wO at h;split at h
   .split at h
    .dsimp only at h;rcases af h with⟨_,h⟩|⟨_,h⟩
     .simp only[eG,bD]at h;obtain⟨_,_,_,_,rfl⟩:=h;rfl
     .cases h
    .cases h
   .simp only[eG,bD]at h;obtain⟨_,_,_,_,rfl⟩:=h;rfl
   .split at h
    .simp only[eG,bD]at h;obtain⟨_,_,_,_,rfl⟩:=h;rfl
    .cases h
   .cases h
  .cases h
 |nilCheck x=>
  simp only[cn]at h;split at h;all_goals first
   |(cases h;done)
   |(
     simp only[bg,bD]at h;obtain⟨_,_,rfl⟩:=h;rfl)
 |binOp op t x y u=>
  simp only[cn]at h;split at h
  .simp only[eG,bD]at h;obtain⟨_,_,_,_,rfl⟩:=h;rfl
  .cases h
 |unOp op t x=>
  simp only[cn]at h;split at h
  .simp only[eG,bD]at h;obtain⟨_,_,_,_,rfl⟩:=h;rfl
  .cases h
 |convert t u x=>
  simp only[cn]at h;split at h
  .exact (AT h).1
  .cases h
 |makeInterface t x=>
  simp only[cn]at h;split at h
  .split at h
   .cases h
   .simp only[bg,bD]at h;obtain⟨_,_,rfl⟩:=h;rfl
  .cases h
 |makeFunc f a b=>
  simp only[cn]at h;split at h
  .simp only[bg,bD]at h;obtain⟨_,_,rfl⟩:=h;rfl
  .cases h
 |extract x k=>
  simp only[cn]at h;split at h
  .exact (sw h).1
  .cases h
 |fieldAddr t x k=>
  simp only[cn]at h;split at h
  .exact (oV h).1
  .cases h
 |field t x k=>
  simp only[cn]at h;split at h
  .unfold AI at h;split at h
   .split at h
    .dsimp only at h;rcases af h with⟨_,h⟩|⟨_,h⟩
     .simp only[eG,bD]at h;obtain⟨_,_,_,_,rfl⟩:=h;rfl
     .cases h
    .cases h
   .cases h
  .cases h
 |indexAddr t x y=>
  simp only[cn]at h;split at h
  .unfold jA at h;split at h
   .split at h
    .split at h
     .rcases af h with⟨_,h⟩|⟨_,h⟩
      .simp only[bg,bD]at h;obtain⟨_,_,rfl⟩:=h;rfl
      .cases h
     .cases h
    .split at h
     .simp only[bg,bD]at h;obtain⟨_,_,rfl⟩:=h;rfl
     .cases h
   .cases h
  .cases h
 |index t x y=>
  simp only[cn]at h;split at h
  .unfold AA at h;split at h
   .simp only[bg,bD]at h;obtain⟨_,_,rfl⟩:=h;rfl
   .cases h
  .cases h
 |typeAssert x t u ok=>
  simp only[cn]at h;split at h
  .exact (uP h).1
  .cases h
 |_=>simp[cn]at h
def SU(h:qU E fr s o=Z (c,v,s'))(a:oM o=J):s'=s:=by
 unfold qU at h;split at h
 .cases a
 .split at h;rotate_left
  .cases h
  split at h;rotate_left
  .cases h
  split at h;rotate_left
  .cases h
  simp only[bg,bD]at h;exact h.2.2.symm
 .cases a
 .cases a
 .cases a
 .cases a
 .repeat' split at h
  all_goals first|(cases h;done)|(simp only[bg,bD]at h;exact h.2.2.symm)
 .repeat' split at h
  all_goals first|(cases h;done)|(simp only[bg,bD]at h;exact h.2.2.symm)
 .repeat' split at h
  all_goals first|(cases h;done)|(simp only[bg,bD]at h;exact h.2.2.symm)
 .repeat' split at h
  all_goals first|(cases h;done)|(simp only[bg,bD]at h;exact h.2.2.symm)
 .split at h;rotate_left
  .cases h
  split at h
  .cases h
  .rcases af h with⟨_,h⟩|⟨_,h⟩
   .rcases af h with⟨_,h⟩|⟨_,h⟩
    .simp only[bg,bD]at h;exact h.2.2.symm
    .simp only[bg,bD]at h;exact h.2.2.symm
   .cases h
  .rcases af h with⟨_,h⟩|⟨_,h⟩
   .simp only[bg,bD]at h;exact h.2.2.symm
   .cases h
 .split at h;rotate_left
  .cases h
  split at h;rotate_left
  .cases h
  simp only[eG,bD]at h;obtain⟨_,_,_,_,rfl⟩:=h;rfl
 .cases h
def SX(h:Ap E fr s o=Z (c,v,s'))(a:oM o=J):s'=s:=by
 unfold Ap at h;split at h
 .split at h
  .split at h
   .split at h
    .split at h
     .rcases af h with⟨_,h⟩|⟨_,h⟩
      .simp only[bg,bD]at h;exact h.2.2.symm
      .cases h
     .cases h
    .cases h
   .cases h
  .cases h
 .split at h
  .split at h
   .split at h
    .rcases af h with⟨_,h⟩|⟨_,h⟩
     .rcases af h with⟨_,h⟩|⟨_,h⟩
      .rcases af h with⟨_,h⟩|⟨_,h⟩
       .simp only[bg,bD]at h;exact h.2.2.symm
       .cases h
      .rcases af h with⟨_,h⟩|⟨_,h⟩
       .simp only[eG,bD]at h;obtain⟨_,_,_,_,rfl⟩:=h;rfl
       .cases h
     .cases h
    .cases h
   .cases h
  .cases h
 .cases a
 .cases a
 .cases h
def SW(h:yX E fr s o=Z (c,v,s'))(a:oM o=J):s'=s:=by
 unfold yX at h;split at h
 .rename_i r b;cases h;exact SX b a
 .split at h
  .rename_i r b;cases h;exact Ov b a
  .exact SU h a
def CP(h:qU E fr s o=Y)(hn:Ap E fr s o=Y):yX E fr s o=cn E fr s o:=by
 unfold yX;rw[hn,h];dsimp only;split
 .rename_i a;exact a.symm
 .rename_i a;exact a.symm
def RH{ω:Type}(k:V S->O ω)(d:O ω):∀l:L (Bool×V S×bq S),s9 k d l=tc (λv _=>k v) d l
 |[]=>rfl
 |p::l=>by simp only[s9,tc,RH k d l]
def Eh(h:iY (l.map (·.2))=W):∀p∈l,qZ p.2=W:=by
 induction l with
 |nil=>intro p b;cases b
 |cons a l c=>
  simp only[lT,iY,ec]at h;intro p b;rcases eU.1 b with rfl|b
  .exact h.1
  .exact c h.2 p b
def AP{s:bq S}{e:Ty}:∀{ps:L (Nat×V S)}{es r:L (den S.A e)}{os:L Nat},(∀p∈ps,qZ p.2=W)->mo s e es ps=Z (r,os)->os=[]
 |[],es,r,os,_,h=>by simp only[mo,bg,bD]at h;exact h.2.symm
 |(k,v)::ps,es,r,os,a,h=>by
  simp only[mo]at h;split at h
  .cases h
  .rename_i x b c;rcases af h with⟨_,h⟩|⟨_,h⟩
   .split at h
    .rename_i i d f;simp only[bg,bD]at h;obtain⟨_,rfl⟩:=h;rw[qY s e v (a _ eD) c,AP (λp g=>a p (gO _ g)) f];rfl
    .cases h
   .cases h
def AX{t:TypeId}{n:Nat}{ps:Array (Nat×Operand)}(hl:iA fr ps.toList=Z l)(hn:iY (l.map (·.2))=W)
  (h:yX E fr s (.buildSlice t n ps)=Z (c,v,s')):s'=s:=by
 cases a:Ap E fr s (.buildSlice t n ps)with
 |some r=>
  simp only[yX,a,bg]at h;subst h;simp only[Ap]at a;split at a
  .rename_i o b;split at a
   .rename_i i p j _ _ d;split at a
    .split at a
     .rcases af a with⟨_,a⟩|⟨_,a⟩
      .split at a
       .rename_i x os k;have f:l=[(0,.agg j)]:=by rw[b]at hl;simp only[iA,cm,d,bg]at hl;exact hl.symm
        subst f;simp only[lT,Hx,iY,rU]at hn;have:=qY s _ _ hn k;subst this;simp only[dF,ee,bg,bD]at a;exact a.2.2.symm
       .cases a
      .cases a
     .cases a
    .cases a
   .cases a
  .split at a
   .split at a
    .rcases af a with⟨_,a⟩|⟨_,a⟩
     .simp only[bg,bD]at a;exact a.2.2.symm
     .cases a
    .cases a
   .cases a
  .cases a
 |none=>
 rw[CP rfl a]at h;simp only[cn]at h;split at h
 .rename_i i e m _ _ b;rw[hl]at b;cases b;split at h
  .rcases af h with⟨_,h⟩|⟨_,h⟩
   .split at h
    .rename_i q os g;have:=AP (Eh hn) g;subst this;simp only[dF,ee,bg,bD]at h;exact h.2.2.symm
    .cases h
   .cases h
  .cases h
 .cases h
def Lc{t:TypeId}{x:Operand}{lo d e:O Operand}{u:V S}(hl:cm fr x=Z u)(hn:qZ u=W)
  (h:yX E fr s (.slice t x lo d e)=Z (c,v,s')):s'=s:=by
 rw[CP rfl rfl]at h;simp only[cn]at h;split at h
 .rename_i i a f g j _ b _ _ _;rw[hl]at b;cases b;rcases Dv h with rfl|h
  .rfl
  .have:LY u=[]:=by cases u<;>first|rfl|simp[qZ]at hn
   rw[this]at h;simp only[dF,bg]at h;exact h.symm
 .cases h
def BE{s:bq S}:∀{ps:L Pk}{l:L (V S)}{x:fZ S.A ps}{fz ow bs:L Nat},bV ps=W->iY l=W->ej s ps l Y=Z (x,fz,ow,bs)->fz=[]∧ow=[]∧bs=[]
 |[],[],x,fz,ow,bs,_,_,h=>by simp only[ej,bg,bD]at h;exact⟨h.2.1.symm,h.2.2.1.symm,h.2.2.2.symm⟩
 | .one (.dat t)::ps,v::l,x,fz,ow,bs,a,c,h=>by
  simp only[ej]at h;simp only[iY,ec]at c;split at h
  .rename_i g a1 i h1 a2 j d b e;simp only[bg,bD]at h;obtain⟨_,rfl,rfl,rfl⟩:=h;obtain⟨rfl,rfl,rfl⟩:=BE (by simpa[bV]using a) c.2 e;simp only[lV]at b;split at b
   .rename_i y os f;simp only[bg,bD]at b;obtain⟨_,rfl,rfl⟩:=b;rw[qY s t v c.1 f];exact⟨rfl,rfl,rfl⟩
   .cases b
  .cases h
 | .one (.own _)::_,_,_,_,_,_,a,_,_=>by simp[bV]at a
 | .one (.jw ..)::_,_,_,_,_,_,a,_,_=>by simp[bV]at a
 | .one (.nil _)::_,_,_,_,_,_,a,_,_=>by simp[bV]at a
 | .one (.ptr _)::_,_,_,_,_,_,a,_,_=>by simp[bV]at a
 | .box _::_,_,_,_,_,_,a,_,_=>by simp[bV]at a
 | .hid _::_,_,_,_,_,_,a,_,_=>by simp[bV]at a
 |[],_::_,_,_,_,_,_,_,h=>by simp[ej]at h
 | .one _::_,[],_,_,_,_,_,_,h=>by simp[ej]at h
def DU{s:bq S}:∀{ps:L Pk}(r:iJ S.A ps),bV ps=W->ko s ps [] r=Z s
 |[],_,_=>rfl
 | .one (.dat t)::ps,r,h=>by simp only[ko];exact DU (ps:=ps) r (by simpa[bV]using h)
 | .one (.own _)::_,_,a=>by simp[bV]at a
 | .one (.jw ..)::_,_,a=>by simp[bV]at a
 | .one (.nil _)::_,_,a=>by simp[bV]at a
 | .one (.ptr _)::_,_,a=>by simp[bV]at a
 | .box _::_,_,a=>by simp[bV]at a
 | .hid _::_,_,a=>by simp[bV]at a
def KV{s:bq S}:∀{cs:L Ck}(x:gA S.A cs),jf cs=W->gP s cs x=(s5 cs x,s)
 |[],_,_=>rfl
 | .dat t::cs,x,h=>by simp only[gP,tQ,s5];rw[KV (cs:=cs) x.2 (by simpa[jf]using h)]
 | .own _::_,_,h=>by simp[jf]at h
 | .jw ..::_,_,h=>by simp[jf]at h
 | .nil _::_,_,h=>by simp[jf]at h
 | .ptr _::_,_,h=>by simp[jf]at h
def EL:∀{ps:L Pk},bV ps=W->Wu ps=J
 |[],_=>rfl
 | .one (.dat t)::ps,h=>EL (ps:=ps) (by simpa[bV]using h)
 | .one (.own _)::_,a=>by simp[bV]at a
 | .one (.jw ..)::_,a=>by simp[bV]at a
 | .one (.nil _)::_,a=>by simp[bV]at a
 | .one (.ptr _)::_,a=>by simp[bV]at a
 | .box _::_,a=>by simp[bV]at a
 | .hid _::_,a=>by simp[bV]at a
def MP(hn:s.aJ<=bC){c:kC S}(h1:bV c.ps=W)(h2:jf c.rs=W)(h3:iY args=W){x:fZ S.A c.ps}{fz ow bs:L Nat}(b:ej s c.ps args Y=Z (x,fz,ow,bs))
  {d:RT c.pn (gA S.A c.rs×iJ S.A c.ps) (den S.A S.pt×iJ S.A c.ps)} {r:gA S.A c.rs×iJ S.A c.ps} (f:c.F x=Z d) (g:RT.res c.pn d=.ok r):MQ s c args (λ_ _=>Y) (λt s' ow=>Z (t,s',ow))=Z (Gs (s5 c.rs r.1),s,[]):=by
 obtain⟨rfl,rfl,rfl⟩:=BE h1 h3 b;have a:Nat.ble s.aJ bC=W:=GA hn;unfold MQ;rw[EL h1];simp only[dS];rw[b];simp only[dF];cases VT c with
 |true=>simp only[cH,f,ai,g]
 |false=>
 simp only[dS,r9,A1,List.all_nil,HB,cH,f,ai,vX,g];have e:Is [] (forget [] s)=s:=rfl;rw[e,DU _ h1];simp only[KV _ h2,a,cH]
def WD(g:O Bool):Prop:=g=Y∨g=Z W
def Ii{α:Type}{g:O Bool}{p:Bool}{x:O α}{r:α}(a:WD g)(h:xN g p x=Z r):p=W∧x=Z r:=by
 rcases a with rfl|rfl
 .exact m8 h
 .exact m8 h
def aad{α:Type}{g:O Bool}{x:O α}{z:α}(a:WD g):ahz g x z=x:=by rcases a with rfl|rfl<;>rfl
section
variable {g:Gh}{w:World}
def J8(B:NR E.E)(hf:cG g (bA fr) a w)(hs:bh g (aI s) w){o:Oper}{f:Call}(C:o.op=.call f)(X:f.callee=.builtin .len)(b:jX fr f.args.toList=Z args){t:V S}
  (h:jF E s .len f.argTypes args=Z (c,t,s')):∃v,(execOp a.eval o).run E.E.P w=.ok (.value v) w∧aM g w (low t) v:=by
 have k:=fu hf (gU b);unfold jF at h;split at h
 .rename_i d r _;split at h;rotate_left
  .cases h
  rename_i n j l era m P hole F;split at h;rotate_left
  .cases h
  rename_i i n' hi Mw;split at h;rotate_left
  .cases h
  rename_i sz ag bt zz G;rcases af h with⟨q,z⟩|⟨_,z⟩;rotate_left
  .cases z
  simp only[ec]at q;have H:=beq_iff'.1 q.1;subst H;simp only[bg,bD]at z;obtain⟨_,rfl,rfl⟩:=z;have I:aM g w (.sh d r) ((f.args.toList.map a.eval)[0]'(by have:=k.1;simp[bn]at this;simp;omega)):=k.2 0 _ _ rfl (fN _);obtain⟨xs,u,_⟩:=I5 I;have K:d<bC:=dB (hs.lt' u) hs.aJ;obtain⟨A,h1,h2,h3,h4⟩:=Hh hs F u;have x:(lits j (l.map (enc S (.st n))) A).length=l.length:=by rw[lH (by simpa using h1)];simp
  obtain⟨_,v,y,R⟩:=VU B hf h4 C X (gU b) (p:=True) (t:=.sym (.lit (.int .i64 (D.len (lits j (l.map (enc S (.st n))) A))))) (s':=j9 s d (.arr (S.width (.st n)) (lits j (l.map (enc S (.st n))) A) r)) (by
   have M:(nth f.argTypes.toList 0).bind E.E.ti=Z i:=hi;simp only[bn,low,e9,xj,M,G,qJ];rw[fV K,bJ rfl];simp only[show Nat.beq r r=W from beq_iff'.2 rfl,cH,ee]) trivial
  refine⟨v,y,?_⟩;have e:D.len (lits j (l.map (enc S (.st n))) A)=ak l:=by simp only[D.len,x,ak]
  rw[e]at R;exact R
 .rename_i N;exact Builtin.noConfusion N
 .rename_i N;exact Builtin.noConfusion N
 .cases h
def qu{E:gl S}(I:eP E)(hf:cG g (bA fr) a w)(hs:bh g (aI s) w){o:Oper}{gd:O Bool}(hg:WD gd){ω:Type}{k:V S->O ω}{r:ω}
  (h:eE E gd fr s o k=Z r) {K:Act->World->Prop} {Q:Exit->Act->World->Prop} (hK:∀t g' v w',k t=Z r->cO [] s g w s g' w'->aM g' w' (low t) v->K (a.put o.dst v) w') :
  o.wp E.T.E.P a w K Q:=by
 have plain:∀{c:Bool}{t:V S}{s':bq S},yX E.T fr s o.op=Z (c,t,s')->s'=s->xN gd c (k t)=Z r->o.wp E.T.E.P a w K Q:=by
  intro c t s' i hss h9;subst hss;obtain⟨hp,M⟩:=Ii hg h9;obtain⟨v,w',g',G,ht,zh⟩:=Q5 I hf hs o i hp;unfold Oper.wp;rcases G with G|⟨G,rfl⟩
  .rw[G];exact hK t g' v w' M zh ht
  .rw[G];exact hK t g' undef w' M zh ht
 unfold eE at h;split at h
 .rename_i c i;split at h
  .cases h
  .rename_i args B;have C:=gU B;split at h
   .rename_i b hb;rcases af h with⟨hqb,h⟩|⟨_,h⟩;rotate_left
    .cases h
    split at h
    .rename_i p t s' F;obtain⟨hp,M⟩:=Ii hg h;unfold kz at F;split at F
     .rename_i r0 h0;cases F;cases b with
      |len=>obtain⟨v,H,ht⟩:=J8 I.env hf hs i hb B h0;unfold Oper.wp;rw[H];exact hK t g v w M (cO.refl hs) ht
      |append=>cases hqb
      |_=>simp[jF]at h0
     split at F
     .rename_i r0 h0;cases F;obtain⟨q,hq,hqp⟩:=wV I.sg I.ty h0 hp;cases b with
      |len=>obtain⟨hss,v,H,ht⟩:=VU I.env hf hs i hb C hq hqp;unfold Oper.wp;rw[H];exact hK t g v w M (cO.refl hs) ht
      |max=>simp[fh]at h0
      |min=>simp[fh]at h0
      |_=>cases hqb
     .obtain ⟨rfl,v,G,ht⟩:=zM I.x hs hf i hb B F;unfold Oper.wp;rw[G];exact hK t g v w M (cO.refl hs) ht
    .cases h
   .rename_i fv hfv;split at h
    .cases h
    .rename_i f args' hfa;split at h
     .cases h
     .rename_i cc anl;rcases af h with⟨A,h⟩|⟨_,h⟩
      .simp only[ec]at A;split at h
       .rename_i x _ _ _ b hpk hnb;obtain⟨rr,hF,M⟩:=rD h;rw[aad hg]at hF;split at M;rotate_left
        .cases M
        rename_i r1 hr1;have hq:=MP hs.aJ A.1 A.2.1 A.2.2.1 hpk hF hr1;simp only[rW]at hfa;obtain⟨tf,htf,JQ⟩:=hfa;have hrf:=bM hf (bW htf);have nV:=fu hf C;have m:=pY JQ;unfold vP at m;split at m
        .rename_i f' first cap Mx
         simp only[bg,bD]at m;obtain⟨rfl,N⟩:=m;rw[Mx]at hrf;generalize hvf:a.eval fv=vf at hrf;cases hrf with
         |fn _ _ _ va vc l1 l2 r1 r2=>
         have hall:PW (aM g w) (bn args') (va++c.args.map a.eval++vc).toList:=by rw[<-N];simp only[Gz,QL];exact PW.append (PW.append ⟨by simpa using l1,λj x y h1 h2=>r1 j x y h1 (by simpa using h2)⟩ nV) ⟨by simpa using l2,λj x y h1 h2=>r2 j x y h1 (by simpa using h2)⟩
         obtain⟨Wp,hc⟩:=BT I.sg (I.GI _ _ anl) hs hall hq;unfold Oper.wp;rw[yH i hfv hvf Wp];refine hc.mono λe w' he=>?_;cases e with
         |returned v=>obtain⟨t,s',g',ow,h1,h2,h3⟩:=he;simp only[bg,bD]at h1;obtain⟨rfl,rfl,rfl⟩:=h1;exact hK _ g' v w' M h3 h2
         |panicked ch=>obtain⟨_,_,_,_,_,h1,_⟩:=he;cases h1
         |outgrown=>exact he.elim
        .cases m
       .cases h
      .cases h
   .cases h
 iterate 11
  .cases h
 .rename_i t n ps i;split at h
  .rename_i l hl;rcases af h with⟨hn,h⟩|⟨_,h⟩
   .split at h
    .cases h
    .rename_i p v s' P;rw[<-i]at P;exact plain P (by rw[i]at P;exact AX hl hn P) h
   .cases h
  .cases h
 .rename_i t x lo hi mx i;split at h
  .rename_i v P;rcases af h with⟨hn,h⟩|⟨_,h⟩
   .split at h
    .cases h
    .rename_i p v' s' R;rw[<-i]at R;exact plain R (by rw[i]at R;exact Lc P hn R) h
   .cases h
  .cases h
 all_goals try(cases h;done)
 rename_i op h1 h2 h3 h4 h5 h6 h7 h8 h9 h10 h11 h12 h13 h14;have hmv:oM o.op=J:=by cases i:o.op with|store x y z=>exact absurd i (h2 x y z)|alloc x=>exact absurd i (h3 x)|box x y=>exact absurd i (h4 x y)|makeMap x y=>exact absurd i (h6 x y)|mapUpdate x y z u=>exact absurd i (h7 x y z u)|insert x y z u=>exact absurd i (h8 x y z u)|makeSlice x y z=>exact absurd i (h9 x y z)|range x y=>exact absurd i (h10 x y)|next x y=>exact absurd i (h11 x y)|defer x=>exact absurd i (h12 x)|buildSlice x y z=>exact absurd i (h13 x y z)|slice x y z u v=>exact absurd i (h14 x y z u v)|_=>rfl
 split at h
 .rename_i PC p d s' i;have hx:tc (λv _=>k v) (aD p (k d)) PC=Z r:=by
   rw[<-RH];rcases hg with rfl|rfl
   .exact h
   .simpa[xN,imp]using h
  obtain⟨t,s1,v,w',g',k1,k2,k3,k4,k5⟩:=Q6 I.Uo I.x hf hs o i (X:=λv _=>k v) hx;have:s1=s:=k5 λit b hh=>by rw[hh]at hmv;cases hmv
  subst this;unfold Oper.wp;rcases k2 with G|⟨G,rfl⟩
  .rw[G];exact hK t g' v w' k1 k4 k3
  .rw[G];exact hK t g' undef w' k1 k4 k3
 .split at h
  .cases h
  .rename_i p v s' P;exact plain P (SW P hmv) h
def FA{ω:Type}{k:V S->O ω}{d:O ω}{r:ω}:∀{l:L (Bool×V S×bq S)},s9 k d l=Z r->(∃t,k t=Z r)∨d=Z r
 |[],h=>.inr h
 |p::l,h=>by
  simp only[s9]at h;rcases oD h with⟨_,h⟩|⟨_,h⟩
  .exact .inl ⟨_,h⟩
  .exact FA h
def JW{E:gl S}{o:Oper}{ω:Type}{k:V S->O ω}{r:ω}(h:eE E (Z J) fr s o k=Z r):∃t,k t=Z r:=by
 have a:∀{p:Bool}{x:O ω},xN (Z J) p x=Z r->x=Z r:=λh=>(m8 h).2;unfold eE at h;split at h
 .split at h
  .cases h
  .split at h
   .rcases af h with⟨_,h⟩|⟨_,h⟩
    .split at h
     .exact ⟨_,a h⟩
     .cases h
    .cases h
   .split at h
    .cases h
    .split at h
     .cases h
     .rcases af h with⟨_,h⟩|⟨_,h⟩
      .split at h
       .obtain ⟨c,_,b⟩:=rD h;split at b
        .exact ⟨_,b⟩
        .cases b
       .cases h
      .cases h
   .cases h
 iterate 11
  .cases h
 .split at h
  .rcases af h with⟨_,h⟩|⟨_,h⟩
   .split at h
    .cases h
    .exact ⟨_,a h⟩
   .cases h
  .cases h
 .split at h
  .rcases af h with⟨_,h⟩|⟨_,h⟩
   .split at h
    .cases h
    .exact ⟨_,a h⟩
   .cases h
  .cases h
 .split at h
  .rcases FA h with h|h
   .exact h
   .exact ⟨_,a h⟩
  .split at h
   .cases h
   .exact ⟨_,a h⟩
end
end
section
structure fC(s:bq S)(g:Gh)(w:World)(s':bq S)(g':Gh)(w':World):Prop where
 rel:bh g' (aI s') w'
 ext:pL s.lo s.fl g w g' w'
 fl:s'.fl=s.fl
 lo:s'.lo=s.lo
 aJ:s.aJ<=s'.aJ
 vo:∀o∈s.wr,o∈s'.wr
 same:∀o,o<s.aJ->o∉s'.wr->s'.ob.get o=s.ob.get o
 GO:∀o∈s.dr,o∈s'.dr
variable {ow dr dr' ds ds':List Nat}{s s':bq S}{g':Gh}{w':World}{p q:Nat->Bool}{aJ VB:Nat}{l m:List (Bo S)}{fr fr':bY S}{ops:Array Oper}{a:Act}{o:Oper}{t:V S}{v:Value}{b:Bool}{dst:Option Nat}{E:gl S}{call:iH S}
def cO.toW{g:Gh}{w:World}(h:cO ow s g w s' g' w'):fC s g w s' g' w':=⟨h.rel,h.ext,h.fl,h.lo,h.aJ,h.vo,h.same,h.GO⟩
def fC.refl{s:bq S}{g:Gh}{w:World}(h:bh g (aI s) w):fC s g w s g w:=(cO.refl h).toW
def fC.trans{s s' b:bq S}{g g' c:Gh}{w w' d:World}(h:fC s g w s' g' w')(k:fC s' g' w' b c d):fC s g w b c d:=
 ⟨k.rel,h.ext.trans (h.fl▸h.lo▸k.ext),k.fl.trans h.fl,k.lo.trans h.lo,fJ h.aJ k.aJ,λo a=>k.vo o (h.vo o a),
  λo a e=>(k.same o (dB a h.aJ) e).trans (h.same o a (λf=>e (k.vo o f))),λo a=>k.GO o (h.GO o a)⟩
mutual
def ez{p q:Nat->Bool}(h:∀o,p o=W->q o=W):∀v:V S,cE p v=W->cE q v=W
 | .ptr o _,c=>h o c
 | .kH o _ _ _,c=>h o c
 | .sh o _,c=>h o c
 | .mp o,c=>h o c
 | .rJ o,c=>h o c
 | .rI o,c=>h o c
 | .ub _,c=>by cases c
 | .nZ _ _ _,c=>by cases c
 | .qm o m _ _,c=>by simp only[cE,j0]at c ⊢;exact c.imp (h o) (h m)
 | .fn _ a b,c=>by simp only[cE,j0]at c ⊢;exact c.imp (mV h a) (mV h b)
 | .cR _ v,c=>ez h v c
 | .agg d,c=>mV h d c
 | .gB d,c=>mV h d c
 | .gd _ v,c=>ez h v c
 | .ty _ _,c=>by cases c
 | .kb _,c=>by cases c
 | .kn _ _,c=>by cases c
 | .dat _,c=>by cases c
 | .mO _ _ _,c=>by cases c
 | .emp,c=>by cases c
 | .jE _ _ _,c=>by cases c
def mV{p q:Nat->Bool}(h:∀o,p o=W->q o=W):∀l:L (V S),hG p l=W->hG q l=W
 |[],a=>by cases a
 |v::l,a=>by simp only[hG,j0]at a ⊢;exact a.imp (ez h v) (mV h l)
end
mutual
def nS(os:L Nat):∀v:V S,gX os v=cE os.contains v
 | .ptr o _=>rfl
 | .kH o _ _ _=>rfl
 | .sh o _=>rfl
 | .mp o=>rfl
 | .rJ o=>rfl
 | .rI o=>rfl
 | .ub _=>rfl
 | .qm _ _ _ _=>rfl
 | .nZ _ _ _=>rfl
 | .fn _ a b=>by simp only[gX,cE,uh os a,uh os b]
 | .cR _ v=>nS os v
 | .agg c=>uh os c
 | .gB c=>uh os c
 | .gd _ v=>nS os v
 | .ty _ _=>rfl
 | .kb _=>rfl
 | .kn _ _=>rfl
 | .dat _=>rfl
 | .mO _ _ _=>rfl
 | .emp=>rfl
 | .jE _ _ _=>rfl
def uh(os:L Nat):∀l:L (V S),nr os l=hG os.contains l
 |[]=>rfl
 |v::l=>by simp only[nr,hG,nS os v,uh os l]
end
def iB(h:∀o∈dr,o∈dr')(hn:VB<=aJ)(o:Nat)(a:eI dr aJ o=W):eI dr' VB o=W:=by simp only[eI,j0,yM,jL]at a ⊢;refine a.imp (h o) (λa=>?_);have:=fU a;exact GA (by omega)
def uD(p:Nat->Bool):Bo S->Bool
 | .call f args=>cE p f||args.any (cE p)
 | .mark o=>cE (S:=S) p (.ptr o 0)
 | .bad=>W
def pW(h:∀o,p o=W->q o=W):∀d:Bo S,uD p d=W->uD q d=W
 | .call f args,a=>by simp only[uD,j0,LD]at a ⊢;exact a.imp (ez h f) (λ⟨v,h1,h2⟩=>⟨v,h1,ez h v h2⟩)
 | .mark o,a=>h o a
 | .bad,_=>rfl
inductive nC(p:Nat->Bool):List (Bo S)->List (Bo S)->Prop where
 |nil:nC p [] []
 |cons {d e:Bo S} {l m:List (Bo S)} (h:e=d∨(e=.bad∧uD p d=W)) (t:nC p l m):nC p (d::l) (e::m)
def nC.refl(p:Nat->Bool):∀l:L (Bo S),nC p l l
 |[]=>.nil
 |_::l=>.cons (.inl rfl) (nC.refl p l)
def nC.mono(h:∀o,p o=W->q o=W)(k:nC p l m):nC q l m:=by
 induction k with|nil=>exact .nil|cons c _ d=>exact .cons (c.imp id λ⟨a,b⟩=>⟨a,pW h _ b⟩) d
def nC.trans{p:Nat->Bool}:∀{l m n:L (Bo S)},nC p l m->nC p m n->nC p l n
 |_,_,_,.nil,.nil=>.nil
 |_,_,_,.cons h t,.cons a b=>by
  refine .cons ?_ (t.trans b);rcases h with rfl|⟨rfl,h⟩
  .exact a
  .rcases a with rfl|⟨rfl,_⟩
   .exact .inr ⟨rfl,h⟩
   .exact .inr ⟨rfl,h⟩
def nC.split{p:Nat->Bool}:∀{a b m:L (Bo S)},nC p (a++b) m->∃c d,m=c++d∧nC p b d
 |[],_,m,h=>⟨[],m,rfl,h⟩
 |_::_,_,_,.cons _ t=>by obtain⟨c,d,h1,h2⟩:=t.split;exact⟨_::c,d,by rw[h1];rfl,h2⟩
def nC.len(h:nC p l m):m.length=l.length:=by
 induction h with|nil=>rfl|cons _ _ a=>simp[a]
def tP(p:Nat->Bool)(l m:L (Bo S)):Prop:=∃c d,m=c++d∧nC p l d
def tP.refl(p:Nat->Bool)(l:L (Bo S)):tP p l l:=⟨[],l,rfl,.refl p l⟩
def nC.ok(h:nC p l m):tP p l m:=⟨[],m,rfl,h⟩
def tP.mono{p q:Nat->Bool}(h:∀o,p o=W->q o=W){l m:L (Bo S)}(k:tP p l m):tP q l m:=by obtain⟨c,d,h1,h2⟩:=k;exact⟨c,d,h1,h2.mono h⟩
def tP.trans{p:Nat->Bool}{l m n:L (Bo S)}(h:tP p l m)(k:tP p m n):tP p l n:=by obtain⟨c,d,rfl,h2⟩:=h;obtain⟨a,b,rfl,h4⟩:=k;obtain⟨x,y,rfl,h5⟩:=h4.split;exact⟨a++x,y,by rw[nk],h2.trans h5⟩
def tP.eq(h:tP p l m)(hl:m.length=l.length):nC p l m:=by obtain⟨c,d,rfl,h2⟩:=h;have:=h2.len;have:c=[]:=tH (by simp at hl;omega);subst this;exact h2
structure eF(ds:List Nat)(fr fr':bY S)(dr:List Nat)(aJ:Nat):Prop where
 tm:∀k v,k∉ds->fr.get k=Z v->fr'.get k=Z v∨cE (eI dr aJ) v=W
 df:tP (eI dr aJ) fr.df fr'.df
def eF.refl(ds:L Nat)(fr:bY S)(dr:L Nat)(aJ:Nat):eF ds fr fr dr aJ:=⟨λ_ _ _ h=>.inl h,tP.refl _ _⟩
def eF.trans{ds ds':L Nat}{fr fr' a:bY S}{dr dr':L Nat}{aJ VB:Nat}(h:eF ds fr fr' dr aJ)(k:eF ds' fr' a dr' VB)(c:∀o∈dr,o∈dr')(hn:aJ<=VB):eF (ds++ds') fr a dr' aJ:=by
 refine⟨λj v b d=>?_,(h.df.mono (iB c (bQ _))).trans (k.df.mono (iB (λ_ h=>h) hn))⟩;simp only[ef,not_or]at b;rcases h.tm j v b.1 d with h1|h1
 .exact (k.tm j v b.2 h1).imp id (ez (iB (λ_ h=>h) hn) v)
 .exact .inr (ez (iB c (bQ _)) v h1)
def eF.mono{ds ds':L Nat}{fr fr':bY S}{dr dr':L Nat}{aJ:Nat}(h:eF ds fr fr' dr aJ)(b:∀k∈ds,k∈ds')(a:∀o∈dr,o∈dr'):eF ds' fr fr' dr' aJ:=by refine⟨λj v c d=>?_,h.df.mono (iB a (bQ _))⟩;exact(h.tm j v (λe=>c (b j e)) d).imp id (ez (iB a (bQ _)) v)
def sH{p q:Nat->Bool}(a:∀o,p o=W->q o=W){f:V S->Bool}(hf:∀v,f v=cE p v):∀l:L (Bo S),nC q l (l.map (iw f))
 |[]=>.nil
 |d::l=>by
  refine .cons ?_ (sH a hf l);cases d with
  |call g args=>
   simp only[iw];cases b:f g||args.any f with
   |true=>refine .inr ⟨rfl,pW a _ ?_⟩;simp only[uD,<-hf];rw[show(cE p:V S->Bool)=f from funext λv=>(hf v).symm];exact b
   |false=>exact .inl rfl
  |mark o=>
   simp only[iw];cases b:f (.ptr o 0)with|true=>exact .inr ⟨rfl,pW a _ (by simp only[uD,<-hf];exact b)⟩|false=>exact .inl rfl
  |bad=>exact .inl rfl
def bY.iT(fr:bY S)(k j:Nat)(v:V S)(h:k<bC):(fr.put k v).get j=if j=k then Z v else fr.get j:=Tr.aZ _ _ _ _ h
section
variable {g:Gh}{w:World}
def nW(hf:cG g (bA fr) a w){r:O Bool}(h:hJ ops.toList fr o=Z r) :
  match r with
  |none=>Region.wanted o (yielded ops a.tmps)=W
  |some c=>Region.wanted o (yielded ops a.tmps)=c:=by
 unfold hJ at h;split at h
 .rename_i n;simp only[bg]at h;subst h;simp[Region.wanted,n]
 .rename_i j f n;split at h
  .rename_i b m;simp only[rW,jv]at m;obtain⟨d,⟨q,i,s⟩,k⟩:=m;obtain⟨v,u,x⟩:=hf.tm d (low (.kb b)) (by rw[bR,k];rfl);cases x;have l:ops[j]?=Z q:=by simpa using i
   have y:yielded ops a.tmps j=Z b:=by simp[yielded,l,s,u]
   cases b<;>cases f<;>simp only[cH,dS,Ai,yR,bg]at h<;>subst h<;>simp[Region.wanted,n,y]
  .rename_i t _ m;split at h
   .rename_i b A;simp only[bg]at h;subst h;obtain⟨p,e,B⟩:=kV A;simp only[rW,jv]at m;obtain⟨d,⟨q,i,s⟩,k⟩:=m;obtain⟨v,u,x⟩:=hf.tm d (low t) (by rw[bR,k];rfl);have z:=iN e B x;subst z;have l:ops[j]?=Z q:=by simpa using i
    have y:yielded ops a.tmps j=Z b:=by simp[yielded,l,s,u]
    simp only[Region.wanted,n,y,D.beq];cases b<;>cases f<;>rfl
   .cases h
  .cases h
def Bt(hf:cG g (bA fr) a w)(h:sX ops.toList fr o=W):Region.wanted o (yielded ops a.tmps)=J:=by
 unfold sX at h;split at h
 .cases h
 .rename_i j i t;split at h
  .rename_i b k;simp only[rW,jv]at k;obtain⟨d,⟨n,c,p⟩,e⟩:=k;obtain⟨v,q,m⟩:=hf.tm d (low (.kb b)) (by rw[bR,e];rfl);cases m;have f:ops[j]?=Z n:=by simpa using c
   have r:yielded ops a.tmps j=Z b:=by simp[yielded,f,p,q]
   cases b<;>cases i<;>first|(cases h;done)|simp[Region.wanted,t,r]
  .rename_i l k;simp only[rW,jv]at k;obtain⟨d,⟨n,c,p⟩,e⟩:=k;obtain⟨v,q,m⟩:=hf.tm d (low (.dat (.lit (.tuple l)))) (by rw[bR,e];rfl);simp only[low]at m;cases m with
   |sym _ _ s=>
   cases s;have f:ops[j]?=Z n:=by simpa using c
   have r:yielded ops a.tmps j=Y:=by simp[yielded,f,p,q]
   simp[Region.wanted,t,r]
  .cases h
def KU:aM g w (low (S:=S) fq) undef:=.sym _ _ (.lit _)
def XL(t a:V S):Prop:=a=t∨∃b,t=.ty .bool b∧a=.kb b
def XL.rel{a:V S}(h:XL t a)(c:aM g w (low t) v):aM g w (low a) v:=by
 rcases h with rfl|⟨b,rfl,rfl⟩
 .exact c
 .cases c with|sym _ _ d=>cases d;exact .kb b
def Sr{ω:Type}{k:V S->O ω}{r:ω}(h:Ad b t k=Z r):∃c,XL t c∧k c=Z r:=by
 unfold Ad at h;rcases af h with⟨_,a⟩|⟨_,a⟩
 .clear h;split at a
  .rename_i x;rcases oD a with⟨rfl,h⟩|⟨rfl,h⟩
   .exact ⟨_,.inr ⟨W,rfl,rfl⟩,h⟩
   .exact ⟨_,.inr ⟨J,rfl,rfl⟩,h⟩
  .exact ⟨_,.inl rfl,a⟩
 .exact ⟨t,.inl rfl,a⟩
def I1{ω:Type}{k:V S->O ω}{r:ω}(h:Ad b t k=Z r)(a:aM g w (low t) v):∃d,k d=Z r∧aM g w (low d) v:=by
 unfold Ad at h;rcases af h with⟨_,c⟩|⟨_,h⟩
 .clear h;split at c
  .rename_i x;have e:v=.bool x:=by cases a with|sym _ _ f=>cases f;rfl
   subst e;rcases oD c with⟨rfl,h⟩|⟨rfl,h⟩
   .exact ⟨_,h,.kb W⟩
   .exact ⟨_,h,.kb J⟩
  .exact ⟨_,c,a⟩
 .exact ⟨t,h,a⟩
def ux(hf:cG g (bA fr) a w)(hn:fr.n<=bC){o:Op}(h:JS W fr o=W):cG g (bA (m6 fr o)) a w∧(m6 fr o).n=fr.n:=by
 have key:∀(l:L Operand)(q:Bool)(f0:bY S),f0.n=fr.n->(q=W->cG g (bA f0) a w)->
   l.foldl (λp x=>match x with
    | .tmp k=>match fr.get k with
     |some (.gd g _)=>p&&imp W g
     |_=>p
    |_=>p) q=W->
   cG g (bA (l.foldl (λf x=>match x with
    | .tmp k=>match fr.get k with
     |some (.gd _ v)=>f.put k v
     |_=>f
    |_=>f) f0)) a w∧(l.foldl (λf x=>match x with
    | .tmp k=>match fr.get k with
     |some (.gd _ v)=>f.put k v
     |_=>f
    |_=>f) f0).n=fr.n:=by
  intro l
  induction l with
  |nil=>intro q f0 b d h;exact⟨d h,b⟩
  |cons x l j=>
   intro q f0 b d h;simp only[BB]at h ⊢;cases x with
   |tmp k=>
    simp only at h ⊢;split at h
    .rename_i A v cJ;refine j _ _ (by simpa[bY.put]using b) (λe=>?_) h;simp only[ec]at e;have i:=d e.1;have s:A=W:=e.2;subst s;obtain⟨u,t,y⟩:=hf.tm k (low (.gd W v)) (by rw[bR,cJ];rfl);have m:k<fr.n:=by have:=(Jo.1 t).1;rw[hf.size]at this;exact this
     refine⟨i.size,i.df,λz B c=>?_⟩;rw[bR,bY.iT _ _ _ _ (dB m hn)]at c;by_cases n:z=k
     .subst n;rw[bJ rfl]at c;simp only[ee,bg]at c;subst c;simp only[low]at y;cases y with|gd _ _ _ r=>exact⟨u,t,r rfl⟩
     .rw[br n]at c;exact i.tm z B (by rw[bR];exact c)
    .exact j _ _ b d h
   |const v=>exact j _ _ b d h
   |global v=>exact j _ _ b d h
   |func v=>exact j _ _ b d h
 exact key o.operands.toList W fr rfl (λ_=>hf) h
def rX(hf:cG g (bA fr) a w)(b:ga fr dst=W)(hn:fr.n<=bC)(c:aM g w (low t) v) :
  cG g (bA (fr.g9 dst t)) (a.put dst v) w∧(fr.g9 dst t).n=fr.n:=by
 refine⟨?_,by cases dst<;>rfl⟩;rw[OD];exact TD hf (by cases dst<;>exact b) hn c
def HK(hn:fr.n<=bC)(h:ga fr dst=W)(f:∀o∈ow,o∈dr)(aJ:Nat)(t:V S):eF dst.toList fr ((ei ow fr).g9 dst t) dr aJ:=by
 refine⟨λk v i g=>?_,?_⟩;rotate_left
 .have e:((ei ow fr).g9 dst t).df=(ei ow fr).df:=by cases dst<;>rfl
  rw[e];cases ow with|nil=>exact tP.refl _ _|cons o ow=>refine(sH (p:=(o::ow).contains) (λj a=>?_) (λv=>nS _ v) _).ok;simp only[eI,j0,yM,jL]at a ⊢;exact .inl (f j a)
 have h1:(ei ow fr).get k=Z v∨cE (eI dr aJ) v=W:=by
  cases ow with
  |nil=>exact .inl g
  |cons o ow=>
   cases b:gX (o::ow) v with
   |true=>rw[nS]at b;refine .inr (ez (λo a=>?_) v b);simp only[eI,j0,yM,jL]at a ⊢;exact .inl (f o a)
   |false=>
    left
    show(fr.tm.keep _).get k=Z v;rw[Tr.oU,show fr.tm.get k=Z v from g];simp[Option.filter,b]
 refine h1.imp (λh1=>?_) id;cases dst with|none=>exact h1|some d=>have c:d<fr.n:=fU h;show((ei ow fr).put d t).get k=Z v;rw[bY.iT _ _ _ _ (dB c hn),br (by simpa using i)];exact h1
def zi(v:Value):aM g w (low (S:=S) (.gd J fq)) v:=by simp only[low];exact .gd _ _ _ λh=>by cases h
def vN(ow:L Nat)(fr:bY S):(ei ow fr).n=fr.n:=by cases ow<;>rfl
def yY{d:O Nat}(h:ga fr d=W):ga (ei ow fr) d=W:=by cases d with|none=>rfl|some d=>simp only[ga,vN]at h ⊢;exact h
def qt(p:eP E)(d:fX E.T.E.P call)(hn:fr.n<=bC)(hf:cG g (bA fr) a w)(hs:bh g (aI s) w){ω:Type}
  {kp:V S->bq S->O ω} {k:V S->bq S->L Nat->O ω} {r:ω} (h:mN E call ops.toList o fr s kp k=Z r) {K:Act->World->Prop} {Q:Exit->Act->World->Prop}
  (m:∀t s' ow g' v w',k t s' ow=Z r->aM g' w' (low t) v->cO ow s g w s' g' w'->K (a.put o.dst v) w')
  (y:∀t s' g' v w',kp t s'=Z r->cO [] s g w s' g' w'->aM g' w' (low t) v->Q (.panic [{v,recovered:=J}]) a w') {rr:O Nat} (f:rr≠Y->∀c,o.op≠.defer c) :
  ga fr o.dst=W∧if Region.wanted o (yielded ops a.tmps)then XG rr E.T.E.P o a w K Q else K (a.put o.dst undef) w:=by
 unfold mN at h;rcases af h with⟨z,h⟩|⟨_,h⟩;rotate_left
 .cases h
 refine⟨z,?_⟩;rcases af h with⟨q,h⟩|⟨_,h⟩
 .rw[br (by rw[Bt hf q];exact Bool.noConfusion)];exact m _ s [] g undef w h KU (cO.refl hs)
 split at h
 .cases h
 .rename_i u;have e:=nW hf u;simp only at e;rw[bJ e];exact zu p d hf hs h (λt s' g' ow v w' i b n=>m t s' ow g' v w' i n b) y f
 .rename_i c u;have e:=nW hf u;simp only at e;dsimp only at h;rcases af h with⟨_,h⟩|⟨_,h⟩
  .obtain ⟨j,h⟩:=m8 h;cases c with
   |true=>rw[bJ e];obtain⟨l,x⟩:=ux hf hn j;exact .of_wp f (.inl (qu p l hs (.inr rfl) h (λt g' v w' i b n=>m _ s [] g' v w' i (by simp only[low];exact .gd _ _ _ λ_=>n) b)))
   |false=>rw[br (by rw[e];exact Bool.noConfusion)];obtain⟨t,i⟩:=JW h;exact m _ s [] g undef w i (by simp only[low];exact .gd _ _ _ λh=>by cases h) (cO.refl hs)
  .rcases oD h with⟨rfl,h⟩|⟨rfl,h⟩
   .obtain ⟨j,h⟩:=m8 h;rw[bJ e];obtain⟨l,x⟩:=ux hf hn j;exact zu p d l hs h (λt s' g' ow v w' i b n=>m t s' ow g' v w' i n b) y f
   .rw[br (by rw[e];exact Bool.noConfusion)];exact m _ s [] g undef w h (zi _) (cO.refl hs)
def J2{P:Program}(hf:cG g (bA fr) a w){d:Bo S}(h:Pg fr o=Z d) :
  o.guard=Y∧∃e,(execOp a.eval o).run P w=.ok (.defer e) w∧u6 g w (rf d) e:=by
 unfold Pg at h;split at h;rotate_left
 .cases h
 rename_i c u m;refine⟨u,?_⟩;split at h;rotate_left
 .cases h
 rename_i f i;split at h;rotate_left
 .cases h
 rename_i l x y args n b;simp only[bg]at h;subst h;have p:=bM hf (bW n);have k:=fu hf (gU b);simp only[low]at p;generalize q:a.eval f=E at p;cases p with
 |fn _ _ _ r s z A B C=>
  refine⟨{target:=.fn l s,args:=r++c.args.map a.eval},?_,?_⟩
  .simp only[execOp,m,resolve,i,Deferred.ofValue,q,Sem.run_bind,Sem.run_pure,Result.andThen_ok]
  .exact .call (.fn l (bn x) (bn y)) (bn args) l r s (c.args.map a.eval) (.fn l _ _ r s z A B C) (by simpa using k.1) (λj t v h1 h2=>k.2 j t v h1 (by simpa using h2))
def JV(A:eP E)(f:fX E.T.E.P call)(hn:fr.n<=bC)(hf:cG g (bA fr) a w)(hs:bh g (aI s) w){ω:Type}
  {kp:V S->bq S->O ω} {k:bY S->bq S->O ω} {r:ω} (h:O9 E call ops.toList o fr s kp k=Z r) {K:Act->World->Prop} {Q:Exit->Act->World->Prop}
  (B:∀fr' s' g' C w',k fr' s'=Z r->fr'.n=fr.n->cG g' (bA fr') C w'->fC s g w s' g' w'->eF o.dst.toList fr fr' s'.dr s.aJ->K C w')
  (F:∀t s' g' v w',kp t s'=Z r->cG g' (bA fr) a w'->fC s g w s' g' w'->aM g' w' (low t) v->Q (.panic [{v,recovered:=J}]) a w') {rr:O Nat} (l:rr≠Y->∀c,o.op≠.defer c) :
  if Region.wanted o (yielded ops a.tmps)then XG rr E.T.E.P o a w K Q else K (a.put o.dst undef) w:=by
 unfold O9 at h;split at h
 .rename_i d x;rcases af h with⟨m,h2⟩|⟨_,h2⟩;rotate_left
  .cases h2
  obtain⟨G,e,n,i⟩:=J2 (P:=E.T.E.P) hf x;have H:Region.wanted o (yielded ops a.tmps)=W:=by simp[Region.wanted,G]
  rw[bJ H];refine .of_wp l (.inl ?_);unfold Oper.wp;rw[n];obtain⟨h1,h3⟩:=rX hf m hn (t:=xg) (v:=undef) (zi _);have key:∀dst:O Nat,cG g (bA (fr.g9 dst xg)) (a.put dst undef) w->cG g (bA {(fr.g9 dst xg)with df:=d::fr.df}) (({a with defers:=e::a.defers}:Act).put dst undef) w:=by intro dst h1;cases dst with|none=>exact⟨h1.size,.cons i hf.df,h1.tm⟩|some j=>exact⟨h1.size,.cons i hf.df,h1.tm⟩
  obtain⟨h4,h5⟩:=HK (ow:=[]) (dr:=s.dr) hn m (λo I=>by cases I) s.aJ xg;exact B _ s g _ w h2 h3 (key _ h1) (fC.refl hs) ⟨h4,[d],fr.df,rfl,.refl _ _⟩
 have m:ga fr o.dst=W:=(qt A f hn hf hs h (K:=λ_ _=>True) (Q:=λ_ _ _=>True) (λ_ _ _ _ _ _ _ _ _=>trivial) (λ_ _ _ _ _ _ _ _=>trivial) l).1;refine(qt A f hn hf hs h (λt s' ow g' v w' p q b=>?_) (λt s' g' v w' p b q=>F t s' g' v w' p (mL (ow:=[]) hf b) b.toW q) l).2;have y:=b.owd;have z:=mL hf b;obtain⟨t,p,q⟩:=I1 p q;obtain⟨h1,h2⟩:=rX (fr:=ei ow fr) z (yY m) (by rw[vN];exact hn) q;exact B _ s' g' _ w' p (h2.trans (vN ow fr)) h1 b.toW (HK hn m y _ t)
def BQ(R:eP E)(e:fX E.T.E.P call){ω:Type}{kp:bY S->V S->bq S->O ω}{kk:bY S->bq S->O ω}{r:ω}{Q:Exit->Act->World->Prop}{rr:O Nat}(y:rr≠Y->∀o∈ops.toList,∀c,o.op≠.defer c) :
  ∀(l:L Oper)(k:Nat),ops.toList.drop k=l->∀{fr:bY S}{s:bq S}{a:Act}{g:Gh}{w:World},fr.n<=bC->ML E call ops.toList kp kk l fr s=Z r->cG g (bA fr) a w->bh g (aI s) w->
   (∀fr' s' g' p w',kk fr' s'=Z r->fr'.n=fr.n->cG g' (bA fr') p w'->fC s g w s' g' w'->eF (l.filterMap (·.dst)) fr fr' s'.dr s.aJ->Q .normal p w')->
   (∀fr' t s' g' p v w',kp fr' t s'=Z r->fr'.n=fr.n->cG g' (bA fr') p w'->fC s g w s' g' w'->eF (l.filterMap (·.dst)) fr fr' s'.dr s.aJ->aM g' w' (low t) v->Q (.panic [{v,recovered:=J}]) p w')->
   uU rr E.T.E.P ops Q (List.range' k l.length) a w:=by
 intro l
 induction l with
 |nil=>intro k _ fr s a g w _ h z A B _;exact B fr s g a w h rfl z (fC.refl A) (eF.refl _ _ _ _)
 |cons o l X=>
  intro k M fr s a g w N h z A B P;have C:ops[k]?=Z o:=by have:=lS (λm=>m[0]?) M;simpa[DM]using this
  have F:ops.toList.drop (k+1)=l:=by have:=lS (List.drop 1) M;simpa[Ly,Nat.add_comm]using this
  rw[eV,List.range'_succ];unfold uU;simp only[C];simp only[ML]at h;have tail:∀{fr' b:bY S}{s' d:bq S}{g':Gh}{w':World},fC s g w s' g' w'->eF o.dst.toList fr fr' s'.dr s.aJ->(∀o∈s'.dr,o∈d.dr)->eF (l.filterMap (·.dst)) fr' b d.dr s'.aJ->eF ((o::l).filterMap (·.dst)) fr b d.dr s.aJ:=by
   intro fr' b s' d g' w' h4 h5 h6 q;have:=h5.trans q h6 h4.aJ;refine this.mono (λj hj=>?_) (λ_ h=>h);rcases ef.1 hj with hj|hj
   .rw[vZ];exact⟨o,eD,by simpa using hj⟩
   .rw[vZ]at hj ⊢;obtain⟨x,hx,G⟩:=hj;exact⟨x,gO _ hx,G⟩
  refine JV R e N z A h (λfr' s' g' p w' h1 h2 h3 h4 h5=>?_) (λt s' g' v w' h1 h2 h3 h4=>P fr t s' g' a v w' h1 rfl h2 h3 (eF.refl _ _ _ _) h4) λhr=>y hr o (by rw[<-LJ]at C;exact g8 C);exact X (k+1) F (by rw[h2];exact N) h1 h3 h4.rel (λb d f i n H I K u q=>B b d f i n H (I.trans h2) K (h4.trans u) (tail h4 h5 u.GO q)) (λb t d f i v' n H I K u q k6=>P b t d f i v' n H (I.trans h2) K (h4.trans u) (tail h4 h5 u.GO q) k6)
end
end
section
mutual
def eA(p:Nat->Bool):T->Bool
 | .ptr o _=>p o
 | .kH o _ _ _=>p o
 | .sh o _=>p o
 | .mp o=>p o
 | .rJ o=>p o
 | .rI o=>p o
 | .qm o m _ _=>p o||p m
 | .fn _ a b=>jR p a||jR p b
 | .cR _ v=>eA p v
 | .agg c=>jR p c
 | .gB c=>jR p c
 | .gd _ v=>eA p v
 |_=>J
def jR(p:Nat->Bool):L T->Bool
 |[]=>J
 |v::l=>eA p v||jR p l
end
mutual
def gV(p:Nat->Bool):∀v:V S,eA p (low v)=cE p v
 | .ty t x=>by
  have:∀l:L D,jR p (l.map .sym)=J:=by
   intro l
   induction l with|nil=>rfl|cons d l e=>simp[jR,eA,e]
  cases t<;>simp[low,eH,cE,eA,this]
 | .kb _=>rfl
 | .kn _ _=>rfl
 | .dat _=>rfl
 | .ptr _ _=>rfl
 | .mO _ _ _=>rfl
 | .kH _ _ _ _=>rfl
 | .sh _ _=>rfl
 | .emp=>rfl
 | .jE _ _ _=>rfl
 | .fn _ a b=>by simp only[low,cE,eA,oP p a,oP p b]
 | .cR _ v=>by simp only[low,cE,eA,gV p v]
 | .agg c=>by simp only[low,cE,eA,oP p c]
 | .gB c=>by simp only[low,cE,eA,oP p c]
 | .gd _ v=>by simp only[low,cE,eA,gV p v]
 | .mp _=>rfl
 | .rJ _=>rfl
 | .rI _=>rfl
 | .ub _=>rfl
 | .qm _ _ _ _=>rfl
 | .nZ _ _ _=>rfl
def oP(p:Nat->Bool):∀l:L (V S),jR p (bn l)=hG p l
 |[]=>rfl
 |v::l=>by simp only[bn,jR,hG,gV p v,oP p l]
end
def mW{p:Nat->Bool}:∀{l:L T},jR p l=J->∀t∈l,eA p t=J
 |[],_,t,b=>by cases b
 |a::l,h,t,b=>by
  simp only[jR,v7]at h;rcases eU.1 b with rfl|b
  .exact h.1
  .exact mW h.2 t b
structure aiS(p:Nat->Bool)(g g':Gh):Prop where
 cj:∀o b,p o=J->g.cj o=Z b->g'.cj o=Z b
 arr:∀o e x,p o=J->g.arr o e=Z x->g'.arr o e=Z x
 bB:∀b,g.bB b->g'.bB b
variable {p:Nat->Bool}{g:Gh}{w:World}{v:V S}{o b:Nat}{s:bq S}{fr:bY S}{a:Act}{sh:Sh}{bs ow:List Nat}{al:List (Nat×Nat)}
def aM.on{g':Gh}{w':World}(q:aiS p g g')(y:tu g.bB w w'){t:T}{v:Value}(h:aM g w t v)(l:eA p t=J):aM g' w' t v:=by
 induction h with
 |sym d v u=>exact .sym d v (u.mono y q.bB)
 |kb b=>exact .kb b
 |kn k n=>exact .kn k n
 |ptr o off b h=>exact .ptr o off b (q.cj _ _ l h)
 |mO d off C val I E u=>exact .mO d off C val (q.bB _ I) (λj c z=>by rw[y.cell (by rw[kW];exact I)];exact E j c z) (λj c z=>(u j c z).mono y q.bB)
 |kH o e i off len cap sz C h=>exact .kH o e i off len cap sz C (q.arr _ _ _ l h)
 |sh o e len cap sz a h=>exact .sh o e len cap sz a (q.arr _ _ _ l h)
 |emp a=>exact .emp a
 |jE k K a M u=>exact .jE k K a M (u.mono y q.bB)
 |fn f N A P R B F _ _ s G=>simp only[eA,v7]at l;exact .fn f N A P R B F (λj t v h1 h2=>s j t v h1 h2 (mW l.1 t (g8 h1))) (λj t v h1 h2=>G j t v h1 h2 (mW l.2 t (g8 h1)))
 |cR t x v _ s=>exact .cR t x v (s l)
 |agg A H B _ s=>exact .agg A H B (λj t v h1 h2=>s j t v h1 h2 (mW l t (g8 h1)))
 |gB A H B _ s=>exact .gB A H B (λj t v h1 h2=>s j t v h1 h2 (mW l t (g8 h1)))
 |gd c t v _ s=>exact .gd c t v (λE=>s E l)
 |mp o b h=>exact .mp o b (q.cj _ _ l h)
 |rJ o b h=>exact .rJ o b (q.cj _ _ l h)
 |rI o b h=>exact .rI o b (q.cj _ _ l h)
 |ub e b h=>exact .ub e b h
 |qm o m r i len cap sz a h=>simp only[eA,v7]at l;exact .qm o m r i len cap sz a (q.arr _ _ _ l.2 h)
 |nZ j d c a z u=>exact .nZ j d c a z (u.mono y q.bB)
def Gh.base(g:Gh)(p:Nat->Bool):Gh:={g with cj:=λo=>if p o=J then g.cj o else Y,arr:=λo e=>if p o=J then g.arr o e else Y}
def Gh.lP(g:Gh)(p:Nat->Bool):aiS p g (g.base p):=
 ⟨λo b h e=>by simp[Gh.base,h,e],λo e x h k=>by simp[Gh.base,h,k],λ_ h=>h⟩
def Gh.Fx(h:(g.base p).cj o=Z b):p o=J∧g.cj o=Z b:=by
 simp only[Gh.base]at h;split at h
 .exact ⟨by assumption,h⟩
 .cases h
def Gh.Fy{e:Nat}{x:fE}(h:(g.base p).arr o e=Z x):p o=J∧g.arr o e=Z x:=by
 simp only[Gh.base]at h;split at h
 .exact ⟨by assumption,h⟩
 .cases h
def Gh.mB{k:Nat}(h:bN (g.base p) k b):p k=J∧bN g k b:=by
 obtain⟨h1,h2|⟨e,x,a,h2,h3⟩⟩:=h
 .exact ⟨(Gh.Fx h2).1,h1,.inl (Gh.Fx h2).2⟩
 .exact ⟨(Gh.Fy h2).1,h1,.inr ⟨e,x,a,(Gh.Fy h2).2,h3⟩⟩
def bh.base{g:Gh}{w:World}{s s0:St}(hs:bh g s w){p:Nat->Bool}{aJ:Nat}(u:∀o,aJ<=o->p o=W)(r:s0.aJ=aJ)(hn:aJ<=s.aJ)
  (f:∀o ob,p o=J->s0.ob.get o=Z ob->∃a,s.ob.get o=Z a∧qc (eA p) a ob):bh (g.base p) s0 w:=by
 refine⟨r▸fJ hn hs.aJ,λo z=>?_,λo b A=>?_,λo e x B=>?_,hs.bB,λo C b h E=>hs.l9 o C b (Gh.mB h).2 (Gh.mB E).2⟩
 .have:=u o (r▸z);exact⟨by simp[Gh.base,this],λe=>by simp[Gh.base,this]⟩
 .obtain ⟨d,k⟩:=Gh.Fx A;obtain⟨h1,h2,h3⟩:=hs.box o b k;refine⟨h1,h2,λob c=>?_⟩;obtain⟨a,l,n⟩:=f o ob d c;obtain⟨x,h4,h5⟩:=h3 a l;exact⟨x,h4,h5.left (λt v F i=>F.on (g.lP p) (λ_ _=>rfl) i) n⟩
 .obtain ⟨d,q⟩:=Gh.Fy B;obtain⟨h1,h2⟩:=hs.arr o e x q;refine⟨h1,λob c=>?_⟩;obtain⟨a,l,n⟩:=f o ob d c;refine(h2 a l).left n (λh=>h.j4 rfl) (λm j y i h=>?_) (funext λG=>by simp only[Gh.base,bJ d]);have i:p m=J:=i;simp only[Gh.base,bJ i];exact h
def n5(a:Act):Sh->L Value->Prop
 |[],[]=>True
 |(k,.one _)::l,v::b=>a.tmps[k]?=Z v∧n5 a l b
 |(_,.box _)::l,_::b=>n5 a l b
 |(_,.hid _)::l,b=>n5 a l b
 |_,_=>False
def Jv{l:L (V S)}{i:Nat}(h:nth l i=Z v):(bn l)[i]?=Z (low v):=by rw[jv]at h;simp[gp,h]
def ov{g:Gh}{w:World}{fr:bY S}{s:bq S}{a:Act}(hf:cG g (bA fr) a w)(hs:bh g (aI s) w):∀{p:Pt}{v:V S},IU fr s p=Z v->∃u,aM g w (low v) u
 | .slot k,v,h=>by obtain⟨u,_,d⟩:=hf.tm k (low v) (by rw[bR,show fr.get k=Z v from h];rfl);exact⟨u,d⟩
 | .cell p i,v,h=>by
  simp only[IU]at h;split at h
  .rename_i o e;obtain⟨u,c⟩:=ov hf hs e;split at h
   .rename_i z j;cases c with
    |ptr _ _ b m=>
     obtain⟨n,ty,A,q,d⟩:=(hs.box o b m).box (by rw[bf,j];rfl);have h1:=Jv h;have h2:i<n.size:=by rw[<-q];exact(tG.1 h1).1
     exact⟨n[i],d i _ _ h1 (oI h2)⟩
   .cases h
  .cases h
 | .cap p i,v,h=>by
  simp only[IU]at h;split at h
  .rename_i f F z e;obtain⟨u,c⟩:=ov hf hs e;cases c with
   |fn _ _ _ G t q B h1 h2=>
    have y:=Jv h;have C:i<t.size:=by rw[<-B];exact(tG.1 y).1
    exact⟨t[i],h2 i _ _ y (oI C)⟩
  .cases h
 | .rnd p k,v,h=>by
  simp only[IU]at h;split at h
  .rename_i o e;obtain⟨u,c⟩:=ov hf hs e;split at h
   .rename_i l j;cases c with
    |rJ _ b m=>
     obtain⟨x,A,d⟩:=(hs.box o b m).2.2 _ (by rw[bf,j];rfl);cases d with
     |lp _ r h1 h2 h4 h5 h6 H E=>
      obtain⟨u,_,c⟩:=E k (low v) (by
       show(bA l.fr).get k=_;rw[bR,h];rfl)
      exact⟨u,c⟩
   .cases h
  .cases h
def uf{g:Gh}{w:World}{fr:bY S}{s:bq S}{a:Act}(hf:cG g (bA fr) a w)(hs:bh g (aI s) w):∀{sh:Sh}{ps:L Pt}{bs:L Nat},qV fr s sh ps=Z bs->∃bl,PW (λo b=>g.cj o=Z b) bs bl
 |[],[],bs,h=>by simp only[qV,bg]at h;subst h;exact⟨[],rfl,λj t v h=>by simp at h⟩
 |(k,.one c)::l,ps,bs,h=>uf hf hs (sh:=l) (ps:=ps) (by simpa only[qV]using h)
 |(_,.box k)::l,p::ps,bs,h=>by
  simp only[qV]at h;split at h
  .rename_i v f;split at h
   .rename_i o r h1 h2;simp only[bg]at h;subst h;obtain rfl:=JG h1;obtain⟨u,i⟩:=ov hf hs f;obtain⟨b,m,_⟩:=Ew i;obtain⟨bl,h3⟩:=uf hf hs h2;refine⟨b::bl,by simp[h3.1],λj n q d e=>?_⟩;cases j with|zero=>simp at d e;subst d;subst e;exact m|succ j=>exact h3.2 j n q (by simpa using d) (by simpa using e)
   .cases h
  .cases h
 |(_,.hid k)::l,p::ps,bs,h=>by
  simp only[qV]at h;split at h
  .rename_i v f;split at h
   .rename_i o r h1 h2;simp only[bg]at h;subst h;obtain rfl:=JG h1;obtain⟨u,i⟩:=ov hf hs f;obtain⟨b,m,_⟩:=Ew i;obtain⟨bl,h3⟩:=uf hf hs h2;refine⟨b::bl,by simp[h3.1],λj n q d e=>?_⟩;cases j with|zero=>simp at d e;subst d;subst e;exact m|succ j=>exact h3.2 j n q (by simpa using d) (by simpa using e)
   .cases h
  .cases h
 |[],_::_,_,h=>by simp[qV]at h
 |(_,.box _)::_,[],_,h=>by simp[qV]at h
 |(_,.hid _)::_,[],_,h=>by simp[qV]at h
def CJ{g:Gh}{w:World}{fr:bY S}{a:Act}(hf:cG g (bA fr) a w):∀{sh:Sh}{bs bl:L Nat}{vs:L (V S)},tD fr sh bs=Z vs->PW (λo b=>g.cj o=Z b) bs bl->∃vals,n5 a sh vals∧PW (aM g w) (bn vs) vals
 |[],[],bl,vs,h,_=>by simp only[tD,bg]at h;subst h;exact⟨[],trivial,rfl,λj t v h=>by simp[bn]at h⟩
 |(k,.one c)::l,bs,bl,vs,h,d=>by
  simp only[tD]at h;split at h
  .rename_i v r h1 h2;simp only[bg]at h;subst h;obtain⟨vals,h3,h4⟩:=CJ hf h2 d;obtain⟨u,q,s⟩:=hf.tm k (low v) (by rw[bR,h1];rfl);refine⟨u::vals,⟨q,h3⟩,by simp only[bn,eV,h4.1],λj t i e f=>?_⟩;cases j with|zero=>simp[bn]at e f;subst e;subst f;exact s|succ j=>exact h4.2 j t i (by simpa[bn]using e) (by simpa using f)
  .cases h
 |(_,.box k)::l,o::bs,b::bl,vs,h,d=>by
  simp only[tD]at h;split at h
  .rename_i r h2;simp only[bg]at h;subst h;have m:g.cj o=Z b:=d.2 0 _ _ rfl rfl;obtain⟨vals,h3,h4⟩:=CJ hf h2 (bl:=bl) ⟨by simpa using d.1,λj n p e f=>d.2 (j+1) n p (by simpa using e) (by simpa using f)⟩;refine⟨JF k b::vals,h3,by simp only[bn,eV,h4.1],λj t i e f=>?_⟩;cases j with|zero=>simp[bn]at e f;subst e;subst f;exact Mp m|succ j=>exact h4.2 j t i (by simpa[bn]using e) (by simpa using f)
  .cases h
 |(_,.box k)::l,o::bs,[],vs,h,d=>absurd d.1 (by simp)
 |(_,.hid k)::l,o::bs,b::bl,vs,h,d=>by simp only[tD]at h;obtain⟨vals,h3,h4⟩:=CJ hf h (bl:=bl) ⟨by simpa using d.1,λj n p e f=>d.2 (j+1) n p (by simpa using e) (by simpa using f)⟩;exact⟨vals,h3,h4⟩
 |(_,.hid k)::l,o::bs,[],vs,h,d=>absurd d.1 (by simp)
 |[],_::_,_,_,h,_=>by simp[tD]at h
 |(_,.box _)::_,[],_,_,h,_=>by simp[tD]at h
 |(_,.hid _)::_,[],_,_,h,_=>by simp[tD]at h
structure IG(sh:Sh)(bs:List Nat)(a:Act)(g:Gh)(s:bq S)(w:World)(x:fZ S.A (lf sh))(s2:bq S)(ow:List Nat)(g2:Gh)(vals:List Value)(al:List fE)(bl:List Nat):Prop where
 rel:bh g2 (aI s2) w
 ext:Ext s.fl g w g2 w
 pr:pg S g2.bB w (lf sh) x vals al bl
 at_:n5 a sh vals
 alr:AL g2 al ow
 YD:PW (λo b=>g2.cj o=Z b) bs bl
 now:ow.Nodup
 owp:∀o∈ow,s.fl<=o∧s.lo<=o∧o<s.aJ
 nbs:bs.Nodup
 Xg:∀o∈bs,s.fl<=o∧o<s.aJ∧o∉ow∧∀e,g2.arr o e=Y
 fl:s2.fl=s.fl
 lo:s2.lo=s.lo
 aJ:s2.aJ=s.aJ
 vo:∀o∈s.wr,o∈s2.wr
 same:∀o,o∉s2.wr->s2.ob.get o=s.ob.get o
 dr:s2.dr=s.dr
 ap:vk al
 owb:∀o∈ow,g.cj o=Y
def nQ(hS:fB S){s2:bq S}(hf:cG g (bA fr) a w)(hs:bh g (aI s) w){x:fZ S.A (lf sh)}{bl0:L Nat}(q:PW (λo b=>g.cj o=Z b) bs bl0)(h:r5 sh bs fr s=Z (x,s2,ow)) :
  ∃g2 vals al bl,IG sh bs a g s w x s2 ow g2 vals al bl:=by
 unfold r5 at h;split at h
 .cases h
 rename_i vs i;split at h
 .cases h
 rename_i x' K ow' k z;split at h
 .cases h
 rename_i H A;rcases af h with⟨p,h2⟩|⟨_,h2⟩;rotate_left
 .cases h2
 clear h;simp only[ec]at p;simp only[bg,bD]at h2;obtain⟨rfl,rfl,rfl⟩:=h2;obtain⟨vals,M,N⟩:=CJ hf i q;have r:=mh p.1;have P:=xY p.2.1;have t:=mh p.2.2.1;have R:k=bs:=by
  have h1:k.length=bs.length:=by have:=beq_iff'.1 p.2.2.2.1;rwa [bL,bL]at this
  have h2:=p.2.2.2.2;clear p z t i q
  induction k generalizing bs with
  |nil=>cases bs with|nil=>rfl|cons=>simp at h1
  |cons c cs ih=>cases bs with|nil=>simp at h1|cons d ds=>simp only[List.zip_cons_cons,DQ,ec]at h2;rw[beq_iff'.1 h2.1,ih (by simpa using h1) h2.2]
 subst R;obtain⟨p1,B,p4,p3⟩:=jN hS hs z N (λo f=>by cases f);have X:=dc hS _ A;obtain⟨I,l,C,hfr⟩:=ey K hs X p1;obtain⟨f1,f2,f3,f4,f5,f6,f7⟩:=eB A;obtain⟨al,bl,m,E,u⟩:=p3 I (aI H) K l C hfr (λo f=>f) (λo f=>by rw[bf,bf,f6 o (P o f)]);have v:∀o∈k,∃ob,H.ob.get o=Z ob∧s.ob.get o=Z ob∧rY ob=W:=by
  intro o f;obtain⟨_,F,i,n⟩:=p4 o f;have hnf:o∉K:=λhm=>by have:=(p1 o hm).oR (by rw[bf,i];rfl);rw[mU n]at this;cases this
  exact⟨F,by rw[f6 o hnf];exact i,i,n⟩
 have G:∀o∈k,∃b,I.cj o=Z b:=by
  intro o f;obtain⟨j,hj,rfl⟩:=tF f;have hj':j<bl.length:=by have:=u.1;omega
  exact⟨bl[j],u.2 j _ _ (fN hj) (fN hj')⟩
 refine⟨I,vals,al,bl,l,C,m,M,E,u,r,λo f=>⟨(B o f).1,(B o f).2.1,(B o f).2.2.1⟩,t,λo f=>?_,f1,f2,f3,f4,f5,f7,E.apart l r m.iO,λo f=>?_⟩;rotate_left
 .obtain ⟨_,_,_,oba,y,hB⟩:=B o f;exact hs.y6 ((bf s o).trans (by rw[y];rfl)) (sK hB)
 obtain⟨F,ZR,hv2,n⟩:=v o f;refine⟨(p4 o f).1,?_,λhm=>?_,λe=>?_⟩
 .obtain ⟨b,p⟩:=G o f;have:=l.lt p;have e1:(aI H).aJ=H.aJ:=rfl;omega
 .obtain ⟨_,_,_,oba,y,hB⟩:=B o hm;rw[hv2]at y;cases y;have:=sK hB;rw[mU n]at this;cases this
 .cases y:I.arr o e with|none=>rfl|some x'=>exfalso;obtain⟨_,h2⟩:=l.arr o e x' y;exact LV n (h2 _ (by rw[bf,ZR];rfl))
def amj:Pk->Bool|.one _=>J|_=>W
structure zW(ex:List Nat)(sh:Sh)(bs:List Nat)(a:Act)(gb:Gh)(lU:bY S)(s0:bq S)(w:World)(al:List fE)(gh:Gh)(GJ:bY S)(z7:bq S):Prop where
 rel:bh gh (aI z7) w
 fr:cG gh (bA GJ) a w
 le:n8 gb gh
 bB:gh.bB=gb.bB
 own:∀k b,bN gh k b->bN gb k b∨(s0.aJ<=k∧∃a∈al,a.at b)
 fl:z7.fl=s0.fl
 lo:z7.lo=s0.lo
 aJ:s0.aJ<=z7.aJ
 wr:z7.wr=s0.wr
 dr:z7.dr=s0.dr
 ob:∀o,o<s0.aJ->o∉bs->z7.ob.get o=s0.ob.get o
 cj:gh.cj=gb.cj
 arr:∀o,o<s0.aJ->∀e,gh.arr o e=gb.arr o e
 n:GJ.n=lU.n
 J1:GJ.df=lU.df
 get:∀k,k∉ex->(∀p∈sh,p.1=k->amj p.2=W)->GJ.get k=lU.get k
def MC:∀{sh:Sh}{bs:L Nat}{x:fZ S.A (lf sh)}{vals:L Value}{al:L fE}{bl:L Nat}{gb:Gh}{y GJ:bY S}{s0 z7:bq S},kQ sh bs x y s0=Z (GJ,z7)->y.n<=bC->
  pg S gb.bB w (lf sh) x vals al bl->n5 a sh vals->PW (λo b=>gb.cj o=Z b) bs bl->(∀o∈bs,∀e,gb.arr o e=Y)->(∀a∈al,∀b,a.at b->∀o,¬bN gb o b)->vk al->cG gb (bA y) a w->bh gb (aI s0) w->
  ∃gh,zW [] sh bs a gb y s0 w al gh GJ z7:=by
 intro sh
 induction sh with
 |nil=>
  intro bs x vals al bl gb y GJ s0 z7 h hn hp I g K E hap M hs;cases bs with
  |nil=>simp only[kQ,bg,bD]at h;obtain⟨rfl,rfl⟩:=h;exact⟨gb,hs,M,n8.refl _,rfl,λ_ _ h=>.inl h,rfl,rfl,bQ _,rfl,rfl,λ_ _ _=>rfl,rfl,λ_ _ _=>rfl,rfl,rfl,λ_ _ _=>rfl⟩
  |cons o bs=>simp[kQ]at h
 |cons q sh ih=>
  intro bs x vals al bl gb y GJ s0 z7 h hn hp I g K E hap M hs;obtain⟨k,pk⟩:=q;cases pk with
  |one c=>
   cases hp with
   | @one _ _ i xr v vs zR z9 bl h1 h2=>
   obtain⟨hv,I⟩:=I;simp only[kQ]at h;rcases af h with⟨C,h⟩|⟨_,h⟩;rotate_left
   .cases h
   simp only[ec]at C;have hk:k<y.n:=fU C.1;have N:(tQ s0 c i).2.aJ<=bC:=fU C.2;have l:=rV.1 hap;obtain⟨P,d,nV⟩:=mb (cs:=[c]) (x:=(i,())) h1 hs (λa H=>E a (eL _ H)) l.1 (by simpa[gP]using N);have e1:(gP s0 [c] (i,())).1=[(tQ s0 c i).1]:=rfl;have e2:(gP s0 [c] (i,())).2=(tQ s0 c i).2:=rfl;rw[e1]at nV;rw[e2]at d;have ZR:aM P w (low (tQ s0 c i).1) v:=nV.2 0 _ _ rfl rfl;have R:cG P (bA (y.put k (tQ s0 c i).1)) a w:=by
    refine⟨M.size,M.df.imp (λ_ _ ht=>ht.le d.le) d.le.cj,λj t s=>?_⟩;rw[bR,bY.iT _ _ _ _ (dB hk hn)]at s;by_cases hjk:j=k
    .subst hjk;rw[bJ rfl]at s;simp only[ee,bg]at s;subst s;exact⟨v,hv,ZR⟩
    .rw[br hjk]at s;obtain⟨u,X,hr⟩:=M.tm j t (by rw[bR];exact s);exact⟨u,X,hr.le d.le⟩
   obtain⟨gh,f⟩:=ih (gb:=P) h (by simpa[bY.put]using hn) (d.bB▸h2) I (by rw[d.cj];exact g) (λo ho e=>by
     have hol:o<s0.aJ:=by
      obtain⟨j,s,rfl⟩:=tF ho;have hj':j<bl.length:=by have:=g.1;omega
      exact hs.lt (g.2 j _ _ (fN s) (fN hj'))
     rw[d.arr o hol];exact K o ho e) (λa H b C o n=>by
     rcases d.own o b n with n|⟨_,a2,Wy,pI⟩
     .exact E a (iX _ H) b C o n
     .exact l.2.2 a2 Wy a H b pI C) l.2.1 R d.rel
   refine⟨gh,f.rel,f.fr,d.le.trans f.le,f.bB.trans d.bB,λk' b n=>?_,f.fl.trans d.fl,f.lo.trans d.lo,fJ d.aJ f.aJ,f.wr.trans d.wr,f.dr.trans d.dr,λo ho F=>?_,f.cj.trans d.cj,λo ho e=>?_,f.n,f.J1,λj hex s=>?_⟩
   .rcases f.own k' b n with n|⟨A,G,B,k3⟩
    .rcases d.own k' b n with n|⟨A,G,B,k3⟩
     .exact .inl n
     .exact .inr ⟨A,G,eL _ B,k3⟩
    .exact .inr ⟨fJ d.aJ A,G,iX _ B,k3⟩
   .rw[f.ob o (dB ho d.aJ) F];exact d.ob o ho
   .rw[f.arr o (dB ho d.aJ)];exact d.arr o ho e
   .rw[f.get j hex (λp hp=>s p (gO _ hp)),bY.iT _ _ _ _ (dB hk hn),br];intro hjk;cases s (k,.one c) eD hjk.symm
  |box r=>
   cases hp with
   | @box _ _ i xr b hx vs zR z9 bl hhp h1 h2=>
   cases bs with
   |nil=>exact absurd g.1 (by simp)
   |cons o bs=>
   simp only[kQ]at h;rcases af h with⟨C,h⟩|⟨_,h⟩;rotate_left
   .cases h
   have N:(gJ s0 (dK bs) r i).2.aJ<=bC:=fU C;have l:=rV.1 hap;have OW:gb.cj o=Z b:=g.2 0 _ _ rfl rfl;obtain⟨P,d,adp⟩:=n9 h1 (zg (bs:=bs) (bl:=bl) ⟨by simpa using g.1,λj a c A B=>g.2 (j+1) a c (by simpa using A) (by simpa using B)⟩) hs (λa H=>E a (eL _ H)) l.1 N;have hol:o<s0.aJ:=hs.lt OW;have hk:=d.rel.sk (o:=o) (b:=b) (by rw[d.cj];exact OW) hhp adp (λe=>by rw[d.arr o hol];exact K o (by simp) e);have hk2:bh P (aI {(gJ s0 (dK bs) r i).2 with ob:=(gJ s0 (dK bs) r i).2.ob.set aL o (gJ s0 (dK bs) r i).1}) w:=by have:=ff (gJ s0 (dK bs) r i).2 o (gJ s0 (dK bs) r i).1 (gJ s0 (dK bs) r i).2.wr;rw[show({(gJ s0 (dK bs) r i).2 with ob:=(gJ s0 (dK bs) r i).2.ob.set aL o (gJ s0 (dK bs) r i).1}:bq S)={(gJ s0 (dK bs) r i).2 with ob:=(gJ s0 (dK bs) r i).2.ob.set aL o (gJ s0 (dK bs) r i).1,wr:=(gJ s0 (dK bs) r i).2.wr}from rfl,this];exact hk
   have R:cG P (bA y) a w:=⟨M.size,M.df.imp (λ_ _ ht=>ht.le d.le) d.le.cj,λj t s=>by
    obtain⟨u,X,hr⟩:=M.tm j t s;exact⟨u,X,hr.le d.le⟩⟩
   obtain⟨gh,f⟩:=ih (bs:=bs) (bl:=bl) (gb:=P) h hn (d.bB▸h2) I ⟨by simpa using g.1,λj G c A B=>by rw[d.cj];exact g.2 (j+1) G c (by simpa using A) (by simpa using B)⟩
    (λz m e=>by
     have ads:z<s0.aJ:=by
      obtain⟨j,s,rfl⟩:=tF m;have hj':j<bl.length:=by have:=g.1;simp at this;omega
      exact hs.lt (g.2 (j+1) bs[j] bl[j] (by simp[s]) (by simp[hj']))
     rw[d.arr z ads];exact K z (by simp[m]) e) (λa H b C o n=>by
     rcases d.own o b n with n|⟨_,a2,Wy,pI⟩
     .exact E a (iX _ H) b C o n
     .exact l.2.2 a2 Wy a H b pI C) l.2.1 R hk2
   refine⟨gh,f.rel,f.fr,d.le.trans f.le,f.bB.trans d.bB,λk' b n=>?_,f.fl.trans d.fl,f.lo.trans d.lo,fJ d.aJ f.aJ,f.wr.trans d.wr,f.dr.trans d.dr,λz m F=>?_,f.cj.trans d.cj,λz m e=>?_,f.n,f.J1,λj hex s=>?_⟩
   .rcases f.own k' b n with n|⟨A,G,B,k3⟩
    .rcases d.own k' b n with n|⟨A,G,B,k3⟩
     .exact .inl n
     .exact .inr ⟨A,G,eL _ B,k3⟩
    .exact .inr ⟨fJ d.aJ A,G,iX _ B,k3⟩
   .have hne:z≠o:=λe=>F (by rw[e];exact eD);rw[f.ob z (dB m d.aJ) (λhm=>F (gO _ hm))];simp only;rw[Tr.dg _ _ _ _ _ hne];exact d.ob z m
   .rw[f.arr z (dB m d.aJ)];exact d.arr z m e
   .exact f.get j hex (λp hp=>s p (gO _ hp))
  |hid r=>
   cases hp with
   | @hid _ _ i xr b hx vs zR z9 bl hhp h1 h2=>
   cases bs with
   |nil=>exact absurd g.1 (by simp)
   |cons o bs=>
   simp only[kQ]at h;rcases af h with⟨C,h⟩|⟨_,h⟩;rotate_left
   .cases h
   have N:(gJ s0 (dK bs) r i).2.aJ<=bC:=fU C;have l:=rV.1 hap;have OW:gb.cj o=Z b:=g.2 0 _ _ rfl rfl;obtain⟨P,d,adp⟩:=n9 h1 (zg (bs:=bs) (bl:=bl) ⟨by simpa using g.1,λj a c A B=>g.2 (j+1) a c (by simpa using A) (by simpa using B)⟩) hs (λa H=>E a (eL _ H)) l.1 N;have hol:o<s0.aJ:=hs.lt OW;have hk:=d.rel.sk (o:=o) (b:=b) (by rw[d.cj];exact OW) hhp adp (λe=>by rw[d.arr o hol];exact K o (by simp) e);have hk2:bh P (aI {(gJ s0 (dK bs) r i).2 with ob:=(gJ s0 (dK bs) r i).2.ob.set aL o (gJ s0 (dK bs) r i).1}) w:=by have:=ff (gJ s0 (dK bs) r i).2 o (gJ s0 (dK bs) r i).1 (gJ s0 (dK bs) r i).2.wr;rw[show({(gJ s0 (dK bs) r i).2 with ob:=(gJ s0 (dK bs) r i).2.ob.set aL o (gJ s0 (dK bs) r i).1}:bq S)={(gJ s0 (dK bs) r i).2 with ob:=(gJ s0 (dK bs) r i).2.ob.set aL o (gJ s0 (dK bs) r i).1,wr:=(gJ s0 (dK bs) r i).2.wr}from rfl,this];exact hk
   have R:cG P (bA y) a w:=⟨M.size,M.df.imp (λ_ _ ht=>ht.le d.le) d.le.cj,λj t s=>by
    obtain⟨u,X,hr⟩:=M.tm j t s;exact⟨u,X,hr.le d.le⟩⟩
   obtain⟨gh,f⟩:=ih (bs:=bs) (bl:=bl) (gb:=P) h hn (d.bB▸h2) I ⟨by simpa using g.1,λj G c A B=>by rw[d.cj];exact g.2 (j+1) G c (by simpa using A) (by simpa using B)⟩
    (λz m e=>by
     have ads:z<s0.aJ:=by
      obtain⟨j,s,rfl⟩:=tF m;have hj':j<bl.length:=by have:=g.1;simp at this;omega
      exact hs.lt (g.2 (j+1) bs[j] bl[j] (by simp[s]) (by simp[hj']))
     rw[d.arr z ads];exact K z (by simp[m]) e) (λa H b C o n=>by
     rcases d.own o b n with n|⟨_,a2,Wy,pI⟩
     .exact E a (iX _ H) b C o n
     .exact l.2.2 a2 Wy a H b pI C) l.2.1 R hk2
   refine⟨gh,f.rel,f.fr,d.le.trans f.le,f.bB.trans d.bB,λk' b n=>?_,f.fl.trans d.fl,f.lo.trans d.lo,fJ d.aJ f.aJ,f.wr.trans d.wr,f.dr.trans d.dr,λz m F=>?_,f.cj.trans d.cj,λz m e=>?_,f.n,f.J1,λj hex s=>?_⟩
   .rcases f.own k' b n with n|⟨A,G,B,k3⟩
    .rcases d.own k' b n with n|⟨A,G,B,k3⟩
     .exact .inl n
     .exact .inr ⟨A,G,eL _ B,k3⟩
    .exact .inr ⟨fJ d.aJ A,G,iX _ B,k3⟩
   .have hne:z≠o:=λe=>F (by rw[e];exact eD);rw[f.ob z (dB m d.aJ) (λhm=>F (gO _ hm))];simp only;rw[Tr.dg _ _ _ _ _ hne];exact d.ob z m
   .rw[f.arr z (dB m d.aJ)];exact d.arr z m e
   .exact f.get j hex (λp hp=>s p (gO _ hp))
def UL(a:Act)(w:World)(c:Nat):O Value:=bif Nat.blt c 1000000 then a.tmps[c]? else match a.tmps[Nat.div (Nat.sub c 1000000) 1000]? with
 |some (.pointer (Z b))=>match w.heap[b.block]? with
  |some (.cells d _ _)=>d[Nat.mod (Nat.sub c 1000000) 1000]?
  |_=>Y
 |_=>Y
def Du(hf:cG g (bA fr) a w)(hs:bh g (aI s) w){c:Nat}(h:UK fr s c=Z v):∃u,UL a w c=Z u∧aM g w (low v) u:=by
 unfold UK at h;unfold UL;cases i:Nat.blt c 1000000 with
 |true=>rw[i,cH]at h;obtain⟨u,f,e⟩:=hf.tm c (low v) (by rw[bR,h];rfl);exact⟨u,f,e⟩
 |false=>
  rw[i,dS]at h;split at h
  .rename_i o k;split at h
   .rename_i cs l;obtain⟨u,f,e⟩:=hf.tm _ (low (.ptr o 0)) (by rw[bR,k];rfl);simp only[low]at e;cases e with
    |ptr _ _ b m=>
    obtain⟨n,ty,p,q,d⟩:=(hs.box o b m).box (cs:=bn cs) (by rw[bf,l];rfl);have h1:=Jv h;have h2:∃x,n[Nat.mod (Nat.sub c 1000000) 1000]?=Z x:=by have:=(tG.1 h1).1;exact⟨_,oI (by omega)⟩
    obtain⟨x,j⟩:=h2;exact⟨x,by simp only[dS,f,p,j],d _ _ _ h1 j⟩
   .cases h
  .cases h
def Yr(a:Act)(w:World)(al:L (Nat×Nat)):Prop:=∀p∈al,a.tmps[p.1]?=UL a w p.2
def kP{g:Gh}{w:World}{a:Act}{s:bq S}(hs:bh g (aI s) w):∀{al:L (Nat×Nat)}{fr:bY S},(∀p∈al,p.1<bC)->Yr a w al->cG g (bA fr) a w->
  cG g (bA (lE s al fr)) a w∧(lE s al fr).n=fr.n∧(lE s al fr).df=fr.df∧∀k,k∉al.map (·.1)->(lE s al fr).get k=fr.get k
 |[],fr,_,_,b=>⟨b,rfl,rfl,λ_ _=>rfl⟩
 |p::al,fr,i,l,b=>by
  have f:=i p eD;have m:=l p eD;simp only[lE];cases o:UK fr s p.2 with
  |none=>obtain⟨h1,h2,h3,h4⟩:=kP hs (fr:=fr) (λq c=>i q (gO _ c)) (λq c=>l q (gO _ c)) b;exact⟨h1,h2,h3,λk h=>h4 k λr=>h (gO _ r)⟩
  |some v=>
   have n:cG g (bA (fr.put p.1 v)) a w:=by
    refine⟨b.size,b.df,λj t e=>?_⟩;rw[bR,bY.iT _ _ _ _ f]at e;by_cases d:j=p.1
    .rw[bJ d]at e;simp only[ee,bg]at e;subst e;obtain⟨u,x,y⟩:=Du b hs o;exact⟨u,by rw[d,m];exact x,y⟩
    .rw[br d]at e;exact b.tm j t (by rw[bR];exact e)
   obtain⟨h1,h2,h3,h4⟩:=kP hs (fr:=fr.put p.1 v) (λq c=>i q (gO _ c)) (λq c=>l q (gO _ c)) n;refine⟨h1,h2,h3,λk h=>?_⟩;simp only[lT,eU,not_or]at h;rw[h4 k h.2,bY.iT _ _ _ _ f,br h.1]
def zW.lE{sh:Sh}{bs:L Nat}{a:Act}{gb:Gh}{c d:bY S}{s0 b:bq S}{w:World}{e:L fE}{f:Gh}(h:zW [] sh bs a gb c s0 w e f d b){al:L (Nat×Nat)}(g:∀p∈al,p.1<bC)(i:Yr a w al) :
  zW (al.map (·.1)) sh bs a gb c s0 w e f (TL.lE b al d) b:=by
 obtain⟨h1,h2,h3,h4⟩:=kP h.rel g i h.fr;exact⟨h.rel,h1,h.le,h.bB,h.own,h.fl,h.lo,h.aJ,h.wr,h.dr,h.ob,h.cj,h.arr,h2.trans h.n,h3.trans h.J1,λk j l=>(h4 k j).trans (h.get k (by simp) l)⟩
def vR(hf:cG g (bA fr) a w)(hs:bh g (aI s) w)(h:T3 fr s al=W):Yr a w al:=by
 intro p k;unfold T3 at h;rw[eC]at h;have h1:=h p k;split at h1
 .rename_i o r t u l m;rw[ec]at h1;obtain rfl:=beq_iff'.1 h1.1;obtain rfl:=beq_iff'.1 h1.2;obtain⟨v,e,b⟩:=hf.tm p.1 (low (.sh o r)) (by rw[bR,l];rfl);obtain⟨y,f,c⟩:=Du hf hs m;simp only[low]at b c;cases b with
  |sh _ _ len cap sz x n=>
  cases c with|sh _ _ i j q z d=>rw[n]at d;cases d;rw[e,f]
 .cases h1
def Nt(h:aaL fr ow al=W){p:Nat×Nat}(a:p∈al)(b:fr.get p.1=Z v):∃o r,v=.sh o r∧o∈ow:=by
 unfold aaL at h;rw[eC]at h;have h1:=h p a;rw[b]at h1;split at h1
 .rename_i o r e;cases e;exact⟨o,r,rfl,by simpa using h1⟩
 .cases h1
end
section
inductive Qf(g:Gh)(w:World):xb S->Exit->Prop where
 |pJ:Qf g w .pJ .normal
 |ext (i:Nat):Qf g w (.ext i) (.exit i)
 |ret:Qf g w .ret .ret
 |dm (t:V S) (v:Value) (h:aM g w (low t) v):Qf g w (.dm t) (.panic [{v,recovered:=J}])
def KQ(ds:L Nat)(fr:bY S)(s:bq S)(g:Gh)(w:World){ω:Type}(Q:xb S->bY S->bq S->O ω)(r:ω)(e:Exit)(a:Act)(w':World):Prop:=
 False∨∃ex fr' s' g',Qf g' w' ex e∧Q ex fr' s'=Z r∧fr'.n=fr.n∧cG g' (bA fr') a w'∧fC s g w s' g' w'∧eF ds fr fr' s'.dr s.aJ
variable {ds' bl ex bl1:List Nat}{g1:Gh}{e:Exit}{w':World}{aJ o:Nat}{p:Nat->Bool}{v:V S}{lU:bY S}{vals Hi:List Value}{al zR:List fE}{Hq:Sh}
def KQ.mono{ds:L Nat}{fr c:bY S}{s s1:bq S}{g:Gh}{w w1:World}{ω:Type}{Q:xb S->bY S->bq S->O ω}{r:ω}{a:Act}(hn:c.n=fr.n)(b:fC s g w s1 g1 w1)(hf:eF ds fr c s1.dr s.aJ)
  (h:KQ ds' c s1 g1 w1 Q r e a w'):KQ (ds++ds') fr s g w Q r e a w':=by
 rcases h with h|⟨ex,d,f,i,h1,h2,h3,h4,h5,h6⟩
 .exact .inl h
 .exact .inr ⟨ex,d,f,i,h1,h2,h3.trans hn,h4,b.trans h5,hf.trans h6 h5.GO b.aJ⟩
def KQ.ds{ds ds':L Nat}{fr:bY S}{s:bq S}{g:Gh}{w:World}{ω:Type}{Q:xb S->bY S->bq S->O ω}{r:ω}{e:Exit}{a:Act}{w':World}(c:∀k∈ds,k∈ds')(h:KQ ds fr s g w Q r e a w'):KQ ds' fr s g w Q r e a w':=by
 rcases h with h|⟨ex,b,d,f,h1,h2,h3,h4,h5,h6⟩
 .exact .inl h
 .exact .inr ⟨ex,b,d,f,h1,h2,h3,h4,h5,h6.mono c (λ_ h=>h)⟩
def S7(p:Nat->Prop)(h:∃n,p n):∃n,p n∧∀m,p m->n<=m:=by
 obtain⟨n,d⟩:=h
 induction n using Nat.strongRecOn with
 |_ n e=>
  by_cases c:∃m,p m∧m<n
  .obtain ⟨m,a,b⟩:=c;exact e m b a
  .exact ⟨n,d,λm a=>by
    rcases yQ m n with h|h
    .exact absurd ⟨m,a,h⟩ c
    .exact h⟩
def Tf{X R B P:Type}{F:X->O (LO X R B P)}:∀{n:Nat}{x:X}{o:LO X R B P},iter F n x=Z o->∃m,n=m+1∧∃b,F x=Z b∧((∃y,b=.next y∧iter F m y=Z o)∨(b=o∧∀y,o≠.next y))
 |0,_,_,h=>by cases h
 |_+1,x,o,h=>by
  simp only[iter]at h;refine⟨_,rfl,?_⟩;split at h
  .cases h
  .rename_i y a;exact⟨_,a,.inl ⟨y,rfl,h⟩⟩
  .rename_i j y a;simp only[bg]at h;exact⟨_,a,.inr ⟨h,λy=>by rw[<-h];simp⟩⟩
  .rename_i y z a;simp only[bg]at h;exact⟨_,a,.inr ⟨h,λy=>by rw[<-h];simp⟩⟩
  .rename_i y a;simp only[bg]at h;exact⟨_,a,.inr ⟨h,λy=>by rw[<-h];simp⟩⟩
def r8{ow:L Nat}(h:eI ow aJ o=J):o∉ow∧o<aJ:=by
 simp only[eI,v7,yM,Lv]at h;refine⟨h.1,?_⟩;rcases yQ o aJ with a|b
 .exact a
 .have:=GA b;rw[this]at h;exact absurd h.2 (by simp)
def CO{ow:L Nat}(h1:o∉ow)(h2:o<aJ):eI ow aJ o=J:=by simp only[eI,v7,yM,Lv];refine⟨h1,?_⟩;cases h:Nat.ble aJ o with|false=>rfl|true=>have:=fU h;omega
def S4{q:Nat->Bool}(h:cE p v=W)(b:cE q v=J):∃o,p o=W∧q o=J:=by
 rcases Classical.em (∃o,p o=W∧q o=J)with h1|h1
 .exact h1
 .have:∀o,p o=W->q o=W:=λo c=>by cases a:q o with|true=>rfl|false=>exact absurd ⟨o,c,a⟩ h1
  rw[ez this v h]at b;cases b
structure u9(sh:Sh)(bs:List Nat)(lU:bY S)(s0 s:bq S)(g:Gh)(w:World)(x:fZ S.A (lf sh))(a:Act)(gb:Gh)(w':World)(vals:List Value)(al:List fE)(bl:List Nat):Prop where
 rel:bh gb (aI s0) w'
 fr:cG gb (bA lU) a w'
 pr:pg S gb.bB w' (lf sh) x vals al bl
 at_:n5 a sh vals
 YD:PW (λo b=>gb.cj o=Z b) bs bl
 afW:∀o∈bs,∀e,gb.arr o e=Y
 fresh:∀a∈al,∀b,a.at b->∀o,¬bN gb o b
 ap:vk al
 ext:pL s.lo s.fl g w gb w'
 alo:∀a∈al,∀b,a.at b->(∃o,s.fl<=o∧bN g o b)∨w.heap.size<=b
def u9.head{sh:Sh}{bs:L Nat}{f:bY S}{s0 s i:bq S}{g:Gh}{w:World}{x:fZ S.A (lf sh)}{a:Act}{gb:Gh}
  (c:u9 sh bs lU s0 s g w x a gb w' vals al bl) (hn:lU.n<=bC) (h:kQ sh bs x lU s0=Z (f,i)) :
  ∃j,zW [] sh bs a gb lU s0 w' al j f i∧pL s.lo s.fl g w j w':=by
 obtain⟨j,d⟩:=MC h hn c.pr c.at_ c.YD c.afW c.fresh c.ap c.fr c.rel;refine⟨j,d,λo b e=>?_,λo e y q k=>?_,λb e=>?_,c.ext.size,c.ext.heap,λo b r l=>?_,λb p=>?_,c.ext.os,c.ext.output⟩
 .exact d.le.cj o b (c.ext.cj o b e)
 .exact d.le.arr o e y (c.ext.arr o e y q k)
 .exact d.le.bB b (c.ext.bB b e)
 .rcases d.own o b l with l|⟨_,t,m,n⟩
  .exact c.ext.own o b r l
  .exact c.alo t m b n
 .rw[d.bB]at p;exact c.ext.uq b p
def sG(p:Nat->Bool)(v:V S):tq (eA p) (low v) (low (iU p v)):=by cases a:cE p v with|true=>exact .inr ⟨_,by simp only[iU,a,cH];rfl⟩|false=>exact .inl ⟨by simp only[iU,a,dS],by rw[gV];exact a⟩
def qv(p:Nat->Bool)(v:V S):tq (eA p) (low (iU p v)) (low (iU p v)):=by cases a:cE p v with|true=>exact .inr ⟨_,by simp only[iU,a,cH];rfl⟩|false=>exact .inl ⟨rfl,by simp only[iU,a,dS];rw[gV];exact a⟩
def yw(p:Nat->Bool)(t:Ty)(x:den S.A t):tq (eA p) (eH S t x) (eH S t x):=.inl ⟨rfl,gV (S:=S) p (.ty t x)⟩
def Mm(p:Nat->Bool)(a b:Ty)(l:L (den S.A a×den S.A b)):qc (eA p) (cQ (.map a b l:wv S)) (cQ (.map a b l)):=by refine⟨rfl,λj t u h1 h2=>?_⟩;rw[h1]at h2;cases h2;simp only[gM,eG]at h1;obtain⟨q,_,rfl⟩:=h1;exact⟨yw p _ _,yw p _ _⟩
def Zp{f:V S->V S}(l:LpV S)(t0:Tr (V S))(hf:∀v,t0.get=t0.get->tq (eA p) (low v) (low (f v))) :
  qc (eA p) (cQ (.lp {l with fr:={l.fr with tm:=t0}})) (cQ (.lp {l with fr:={l.fr with tm:=t0.mapA f}})):=by
 refine⟨rfl,rfl,λk u b=>?_⟩;have a:((t0.mapA f).map low).get k=Z u:=b;rw[Tr.get_map,Tr.oT,HC,eG]at a;obtain⟨v,c,rfl⟩:=a;exact⟨low v,by show(t0.map low).get k=_;rw[Tr.get_map,c];rfl,hf v rfl⟩
def GQ(p:Nat->Bool)(ob:wv S):qc (eA p) (cQ ob) (cQ (gq p ob)):=by
 cases ob with
 |box i=>refine⟨by simp[eW],λj t u h1 h2=>?_⟩;simp only[gp,gM,eG]at h1 h2;obtain⟨v,b,rfl⟩:=h1;obtain⟨g,⟨c,a,rfl⟩,rfl⟩:=h2;rw[b]at a;cases a;exact sG p v
 |map e h l=>exact Mm p e h l
 |GD e l=>refine⟨by simp,λj t u h1 h2=>?_⟩;simp only[gM,eG]at h1 h2;obtain⟨v,b,rfl⟩:=h1;obtain⟨g,⟨c,a,rfl⟩,rfl⟩:=h2;rw[b]at a;cases a;exact⟨yw p _ _,sG p _⟩
 |lp l=>exact Zp l l.fr.tm λv _=>sG p v
 |arr=>rfl
 |j8=>rfl
 |pH=>rfl
 |z8=>rfl
 |rws=>rfl
 |gone=>rfl
 |kB n j l era m f hole=>
  cases d:p m with|true=>exact .inr (by simp only[gq,d,cH];rfl)|false=>exact .inl ⟨by simp only[gq,d,dS];rfl,d⟩
def Fj(p:Nat->Bool)(ob:wv S):qc (eA p) (cQ (gq p ob)) (cQ (gq p ob)):=by
 cases ob with
 |box i=>refine⟨rfl,λj t u h1 h2=>?_⟩;rw[h1]at h2;cases h2;simp only[gp,gM,eG]at h1;obtain⟨g,⟨v,c,rfl⟩,rfl⟩:=h1;exact qv p v
 |map d h l=>exact Mm p d h l
 |GD d l=>refine⟨rfl,λj t u h1 h2=>?_⟩;rw[h1]at h2;cases h2;simp only[gM,eG]at h1;obtain⟨g,⟨v,c,rfl⟩,rfl⟩:=h1;exact⟨yw p _ _,qv p _⟩
 |lp l=>refine⟨rfl,rfl,λk u e=>?_⟩;refine⟨u,e,?_⟩;have a:((l.fr.tm.mapA (iU p)).map low).get k=Z u:=e;rw[Tr.get_map,Tr.oT,HC,eG]at a;obtain⟨v,c,rfl⟩:=a;exact qv p v
 |arr=>rfl
 |j8=>rfl
 |pH=>rfl
 |z8=>rfl
 |rws=>rfl
 |gone=>rfl
 |kB n j l era m f hole=>
  cases b:p m with|true=>simp only[gq,b,cH];rfl|false=>simp only[gq,b,dS];exact .inl ⟨rfl,b⟩
def xT(h:cE p v=J):iU p v=v:=by simp only[iU,h,dS]
def M5{ob:wv S}(h:jO p ob=J):gq p ob=ob:=by
 cases ob with
 |box g=>
  simp only[gq,wv.box.injEq];have c:∀{l:L (V S)},hG p l=J->∀v∈l,cE p v=J:=by
   intro l
   induction l with
   |nil=>intro _ v b;cases b
   |cons a l d=>
    intro h v b;simp only[hG,v7]at h;rcases eU.1 b with rfl|b
    .exact h.1
    .exact d h.2 v b
  have:∀v∈g,iU p v=v:=λv b=>xT (c h v b);exact(LI this).trans (List.map_id _)
 |GD e l=>
  simp only[gq];have c:∀{l:L (den S.A e×V S)},Jz p l=J->∀v∈l,cE p v.2=J:=by
   intro l
   induction l with
   |nil=>intro _ v b;cases b
   |cons a l d=>
    intro h v b;simp only[Jz,v7]at h;rcases eU.1 b with rfl|b
    .exact h.1
    .exact d h.2 v b
  have:∀q∈l,((q.1,iU p q.2):den S.A e×V S)=q:=λq i=>by rw[xT (c h q i)]
  rw[(LI this).trans (List.map_id _)]
 |lp l=>simp only[gq,CR (λv=>xT) (show pS (cE p) l.fr.tm=J from h)]
 |kB n j l era m f hole=>have h:p m=J:=h;simp only[gq,h,dS]
 |_=>rfl
def aaC{g g':Gh}{w:World}{P Q:Nat->Bool}(j:∀o,Q o=W->P o=W)(p:∀t v,aM g w t v->eA P t=J->aM g' w' t v):∀{l m:L (Bo S)}{e:L Deferred},
  nC Q (l.map (iw (cE P))) m->j7 g w (m.map rf) e->j7 g' w' ((l.map (iw (cE P))).map rf) e:=by
 intro l
 induction l with
 |nil=>intro m e h n;cases h;cases n;exact .nil
 |cons d l q=>
  intro m e h n;cases h with
  |cons r i=>
  cases n with
  |cons k u=>
  refine .cons ?_ (q i u);have c:Kj (eA P) (rf (iw (cE P) d)) (rf (iw (cE P) d)):=by
   cases d with
   |call f args=>
    simp only[iw];cases b:cE P f||args.any (cE P)with
    |true=>exact .inl rfl
    |false=>simp only[v7,LF]at b;refine .inr ⟨rfl,by rw[gV];exact b.1,λt i=>?_⟩;rw[gp,tY]at i;obtain⟨v,s,rfl⟩:=i;rw[gV];simpa using b.2 v s
   |mark o=>
    simp only[iw];cases b:cE (S:=S) P (.ptr o 0)with|true=>exact .inl rfl|false=>exact .inr ⟨rfl,(gV P (.ptr o 0)).trans b⟩
   |bad=>exact .inl rfl
  rcases r with rfl|⟨rfl,x⟩
  .exact c.rel p k
  .have a:=pW j _ x;cases d with
   |call f args=>
    simp only[iw]at a ⊢;cases b:cE P f||args.any (cE P)with
    |true=>exact .bad _
    |false=>rw[b]at a;simp only[dS,uD]at a;rw[a]at b;cases b
   |mark o=>
    simp only[iw]at a ⊢;cases b:cE (S:=S) P (.ptr o 0)with|true=>exact .bad _|false=>rw[b]at a;simp only[dS,uD]at a;rw[a]at b;cases b
   |bad=>exact .bad _
section
variable {sh:Sh}{bs ow ds:List Nat}{fr:bY S}{s s1:bq S}{g:Gh}{w:World}{a:Act}
def zN(a:∀b∈bs,b<bC)(o:Nat):(cV ds ow bs fr s1).2.ob.get o=if o∈bs then Y else(s1.ob.get o).map (gq (eI ow s1.aJ)):=by show(bs.foldl (λt o=>t.del aL o) (s1.ob.mapA _)).get o=_;rw[Tr.rq bs _ o a,Tr.oT]
def RE(a:∀d∈ds,d<bC)(k:Nat):(cV ds ow bs fr s1).1.get k=if k∈ds then Y else(fr.get k).filter (λv=>!(cE (eI ow s1.aJ) v)):=by
 show((ds.foldl (λt k=>t.del aL k) fr.tm).keep _).get k=_;rw[Tr.oU,Tr.rq ds _ k a];split
 .rfl
 .rfl
def zO(a:∀d∈ds,d<bC){k:Nat}(h:(cV ds ow bs fr s1).1.get k=Z v):k∉ds∧fr.get k=Z v∧cE (eI ow s1.aJ) v=J:=by
 rw[RE a]at h;split at h
 .cases h
 .rename_i b;rw[QV]at h;exact⟨b,h.1,by simpa using h.2⟩
def Fw(hf:cG g (bA fr) a w)(hs:bh g (aI s) w)(C:∀d∈ds,d<bC){x:fZ S.A (lf sh)}{m:Gh}
  (c:IG sh bs a g s w x s1 ow m vals al bl):u9 sh bs (cV ds ow bs fr s1).1 (cV ds ow bs fr s1).2 s g w x a (m.base (eI ow s1.aJ)) w vals al bl:=by
 have r:∀b∈bs,b<bC:=λb i=>by have:=(c.Xg b i).2.1;have:=hs.aJ;exact dB (c.Xg b i).2.1 hs.aJ
 have n:∀o,o∉ow->o<s.aJ->eI ow s1.aJ o=J:=λo h1 h2=>CO h1 (c.aJ▸h2);have l:=c.alr.owned c.pr.iO;refine⟨c.rel.base (λo p=>?_) rfl (bQ _) (λo ob N f=>?_),⟨hf.size,(n3 (λv=>gV (eI ow s1.aJ) v) fr.df).rel (λt v P z=>(P.ext c.ext hs.bB).on (m.lP _) (λ_ _=>rfl) z) hf.df,λk t K=>?_⟩,c.pr,c.at_,⟨c.YD.1,λj o b h1 h2=>?_⟩,λo p e=>?_,λE F b i o A=>?_,c.ap,⟨λo b i=>?_,λo e y hl M=>?_,c.ext.bB,bQ _,λ_ _ _=>rfl,λo b p A=>?_,c.ext.uq,rfl,rfl⟩,λE F b i=>?_⟩
 .simp only[eI,j0];exact .inr (GA p)
 .rw[bf,zN r]at f;split at f
  .cases f
  .rw[HC,eG]at f;obtain⟨B,G,rfl⟩:=f;exact⟨cQ B,by rw[bf,G];rfl,GQ _ B⟩
 .rw[bR,eG]at K;obtain⟨v,G,rfl⟩:=K;obtain⟨_,h2,h3⟩:=zO C G;obtain⟨u,R,X⟩:=hf.tm k (low v) (by rw[bR,h2];rfl);exact⟨u,R,(X.ext c.ext hs.bB).on (m.lP _) (λ_ _=>rfl) (by rw[gV];exact h3)⟩
 .have f:=g8 h1;have:=c.Xg o f;exact(m.lP _).cj o b (n o this.2.2.1 this.2.1) (c.YD.2 j o b h1 h2)
 .simp only[Gh.base];split
  .exact (c.Xg o p).2.2.2 e
  .rfl
 .obtain ⟨h1,h2⟩:=Gh.mB A;obtain⟨o',H,I⟩:=l E F b i;have:=c.rel.l9 o o' b h2 I;subst this;exact(r8 h1).1 H
 .have q:=hs.lt i;exact(m.lP _).cj o b (n o (λz=>by rw[c.owb o z]at i;cases i) q) (c.ext.cj o b i)
 .have q:=hs.lt' M;exact(m.lP _).arr o e y (n o (λz=>by have:=(c.owp o z).2.1;omega) q) (c.ext.arr o e y M)
 .rcases c.ext.own o b (Gh.mB A).2 with h|h
  .exact .inl ⟨o,p,h⟩
  .exact .inr h
 .obtain ⟨o,p,A⟩:=l E F b i;rcases c.ext.own o b A with h|h
  .exact .inl ⟨o,(c.owp o p).1,h⟩
  .exact .inr h
def Py(hds:∀d∈ds,d<bC)(l:∀b∈bs,b<s1.aJ∧b∉ow)(K:s1.aJ<=bC)(hlo:s.lo<=s1.aJ)(how:∀o∈ow,s.lo<=o)(M:∀o b,g.cj o=Z b->o<s1.aJ∧o∉ow)(N:s1.lo=s.lo)(P:s1.fl=s.fl)
  {R:Act} {w':World} {al:L fE} {gb gh:Gh} {GJ:bY S} {m:bq S}
  (X:pL s.lo s.fl g w gh w') (hh:zW ex sh bs R gb (cV ds ow bs fr s1).1 (cV ds ow bs fr s1).2 w' al gh GJ m)
  {s2 q:bq S} {g2 A:Gh} {a2:Act} {I:World} (i:fC m gh w' s2 g2 I)
  {x:fZ S.A (lf Hq)} {B:L Nat} {vals:L Value} {z9:L fE} {bl2:L Nat} (f:IG Hq bs a2 g2 s2 I x q B A vals z9 bl2)
  (C:N2 s1.aJ bs q.wr=W) (r:B.all (λo=>Nat.ble s1.aJ o)=W) (Z7:q.dr.all (λo=>Nat.ble s1.aJ o)=W) (hfr:cG (A.base (eI ow s1.aJ)) (bA lU) a2 I) :
  u9 Hq bs lU (cV ds ow bs fr s1).2 s g w x a2 (A.base (eI ow s1.aJ)) I vals z9 bl2:=by
 have n:∀b∈bs,b<bC:=λb p=>dB (l b p).1 K;have t:(cV ds ow bs fr s1).2.aJ=s1.aJ:=rfl;have hlen:s1.aJ<=m.aJ:=t▸hh.aJ;have E:∀o∈B,s1.aJ<=o:=λo k=>by rw[eC]at r;exact fU (r o k)
 have hdr':∀o∈s2.dr,s1.aJ<=o:=λo k=>by rw[eC]at Z7;exact fU (Z7 o (f.dr▸k))
 have agN:∀o∈q.wr,s1.aJ<=o∨o∈bs:=λo k=>by unfold N2 at C;rw[eC]at C;have:=C o k;rw[j0]at this;exact this.imp fU (λh=>by simpa using h)
 have u:=f.alr.owned f.pr.iO;have v:m.fl=s.fl:=hh.fl.trans (show(cV ds ow bs fr s1).2.fl=s.fl from P);have adD:m.lo=s.lo:=hh.lo.trans (show(cV ds ow bs fr s1).2.lo=s.lo from N);have F:pL s.lo s.fl g w g2 I:=X.trans (v▸adD▸i.ext);have Wo:s2.fl=s.fl:=i.fl.trans v;have a:pL s.lo s.fl g w A I:=F.trans (Wo▸f.ext.Ho s.lo);refine⟨f.rel.base (aJ:=s1.aJ) (λo k=>?_) rfl ?_ (λo ob hpo c=>?_),hfr,f.pr,f.at_,⟨f.YD.1,λj o b h1 h2=>?_⟩,λo k e=>?_,λR ha b p o hO=>?_,f.ap,⟨λo b p=>?_,λo e y hl hy=>?_,a.bB,a.size,a.heap,λo b k hO=>?_,a.uq,a.os,a.output⟩,λR ha b p=>?_⟩
 .simp only[eI,j0];exact .inr (GA k)
 .have e1:(aI q).aJ=q.aJ:=rfl;have:=i.aJ;have:=f.aJ;omega
 .rw[bf,zN n]at c;split at c
  .cases c
  .rename_i G;rw[HC,eG]at c;obtain⟨H,hv,rfl⟩:=c;have z:=(r8 hpo).2;have hnw:o∉q.wr:=λhm=>by
    rcases agN o hm with h|h
    .omega
    .exact G h
   have amX:o∉s2.wr:=λhm=>hnw (f.vo o hm);have e1:q.ob.get o=Z (gq (eI ow s1.aJ) H):=by rw[f.same o hnw,i.same o (dB z hlen) amX,hh.ob o (t▸z) G,zN n,br G,hv];rfl
   exact⟨cQ (gq (eI ow s1.aJ) H),by rw[bf,e1];rfl,Fj _ H⟩
 .have c:=g8 h1;exact(A.lP _).cj o b (CO (l o c).2 (l o c).1) (f.YD.2 j o b h1 h2)
 .simp only[Gh.base];split
  .exact (f.Xg o k).2.2.2 e
  .rfl
 .obtain ⟨h1,h2⟩:=Gh.mB hO;obtain⟨o',ho',hO'⟩:=u R ha b p;have:=f.rel.l9 o o' b h2 hO';subst this;have:=E o ho';have:=(r8 h1).2;omega
 .exact (A.lP _).cj o b (CO (M o b p).2 (M o b p).1) (a.cj o b p)
 .exact (A.lP _).arr o e y (CO (λhm=>by have:=how o hm;omega) (by omega)) (a.arr o e y hl hy)
 .exact a.own o b k (Gh.mB hO).2
 .obtain ⟨o,k,hO⟩:=u R ha b p;exact a.own o b (by have:=(f.owp o k).1;omega) hO
def Iz(N:∀k∈ex,k∈ds)(P:∀d∈ds,d<bC)(m:∀b∈bs,b<s1.aJ∧b∉ow)(n:s1.aJ<=bC)(hlo:s.lo<=s1.aJ)(how:∀o∈ow,s.lo<=o)(hgb:∀o b,g.cj o=Z b->o<s1.aJ∧o∉ow)(B:Dx ds sh=W)(p:s1.lo=s.lo)(r:s1.fl=s.fl)
  {a':Act} {w':World} {al:L fE} {gb gh:Gh} {f:bY S} {e:bq S}
  (y:pL s.lo s.fl g w gh w') (C:zW ex sh bs a' gb (cV ds ow bs fr s1).1 (cV ds ow bs fr s1).2 w' al gh f e)
  {i:bY S} {K s3:bq S} {g2 R:Gh} {a2:Act} {M:World} (a:fC e gh w' K g2 M) (E:cG g2 (bA i) a2 M) (X:eF ds f i K.dr e.aJ) (hn2:i.n=f.n) (Z8:i.df.length=f.df.length)
  {x:fZ S.A (lf Hq)} {F:L Nat} {vals:L Value} {z9:L fE} {bl2:L Nat} (G:IG Hq bs a2 g2 K M x s3 F R vals z9 bl2)
  (l:N2 s1.aJ bs s3.wr=W) (j:F.all (λo=>Nat.ble s1.aJ o)=W) (H:s3.dr.all (λo=>Nat.ble s1.aJ o)=W) :
  u9 Hq bs (cV ds ow bs fr s1).1 (cV ds ow bs fr s1).2 s g w x a2 (R.base (eI ow s1.aJ)) M vals z9 bl2:=by
 have hbsb':∀b∈bs,b<bC:=λb hb=>dB (m b hb).1 n;have amy:(cV ds ow bs fr s1).2.aJ=s1.aJ:=rfl;have hlen:s1.aJ<=e.aJ:=amy▸C.aJ;have how2':∀o∈F,s1.aJ<=o:=λo ho=>by rw[eC]at j;exact fU (j o ho)
 have z:∀o∈K.dr,s1.aJ<=o:=λo ho=>by rw[eC]at H;exact fU (H o (G.dr▸ho))
 have agN:∀o∈s3.wr,s1.aJ<=o∨o∈bs:=λo ho=>by unfold N2 at l;rw[eC]at l;have:=l o ho;rw[j0]at this;exact this.imp fU (λh=>by simpa using h)
 have Tq:=G.alr.owned G.pr.iO;have A:e.fl=s.fl:=C.fl.trans (show(cV ds ow bs fr s1).2.fl=s.fl from r);have adD:e.lo=s.lo:=C.lo.trans (show(cV ds ow bs fr s1).2.lo=s.lo from p);have I:pL s.lo s.fl g w g2 M:=y.trans (A▸adD▸a.ext);have Wo:K.fl=s.fl:=a.fl.trans A;have hext3:pL s.lo s.fl g w R M:=I.trans (Wo▸G.ext.Ho s.lo);refine Py P m n hlo how hgb p r y C a G l j H ⟨E.size.trans ?_,aaC (Q:=eI K.dr e.aJ) (λo ho=>?_) (λt v ht hm=>(ht.ext G.ext a.rel.bB).on (R.lP _) (λ_ _=>rfl) hm) (show nC _ (cV ds ow bs fr s1).1.df i.df from C.J1▸X.df.eq Z8) E.df,λk t hk=>?_⟩
 .exact hn2.trans C.n
 .simp only[eI,j0,yM,jL]at ho ⊢;rcases ho with ho|ho
  .exact .inr (GA (z o ho))
  .have:=fU ho;exact .inr (GA (by omega))
 .rw[bR,eG]at hk;obtain⟨v,hv,rfl⟩:=hk;obtain⟨h1,h2,h3⟩:=zO P hv;have hgh:f.get k=Z v:=by
   rw[C.get k (λhm=>h1 (N k hm)) (λq hq hqk=>?_)]
   .exact hv
   .obtain ⟨qk,qp⟩:=q;cases qp with|box cs=>rfl|hid cs=>rfl|one c=>unfold Dx at B;rw[eC]at B;have:=B _ hq;simp only at this hqk;subst hqk;exact absurd (by simpa using this) h1
  rcases X.tm k v h1 hgh with h4|h4
  .obtain ⟨u,hu,hr⟩:=E.tm k (low v) (by rw[bR,h4];rfl);exact⟨u,hu,(hr.ext G.ext a.rel.bB).on (R.lP _) (λ_ _=>rfl) (by rw[gV];exact h3)⟩
  .exfalso;obtain⟨o,Tj,ho2⟩:=S4 h4 h3;have:=(r8 ho2).2;simp only[eI,j0,yM,jL]at Tj;rcases Tj with Tj|Tj
   .have:=z o Tj;omega
   .have:=fU Tj;omega
def TX(hs:bh g (aI s) w){l:fZ S.A (lf sh)}(e:IG sh bs a g s w l s1 ow g1 Hi zR bl1)
  {m:Act} {w':World} {al:L fE} {gb j:Gh} {k:bY S} {c:bq S} (f:pL s.lo s.fl g w j w') (h:zW ex Hq bs m gb lU (cV ds ow bs fr s1).2 w' al j k c) :
  fC s g w {c with wr:=s1.ob.jz (jO (eI ow s1.aJ))++(bs++s1.wr),dr:=ow++s1.dr} j w':=by
 have i:∀b∈bs,b<bC:=λb n=>dB (e.Xg b n).2.1 hs.aJ;refine⟨h.rel,f,h.fl.trans e.fl,h.lo.trans e.lo,?_,λo d=>?_,λo r d=>?_,λo d=>?_⟩
 .have:=h.aJ;have t:(cV ds ow bs fr s1).2.aJ=s1.aJ:=rfl;have:=e.aJ;show s.aJ<=c.aJ;omega
 .exact iX _ (iX _ (e.vo o d))
 .simp only[ef,not_or]at d;have h1:c.ob.get o=(cV ds ow bs fr s1).2.ob.get o:=h.ob o (by show o<s1.aJ;have:=e.aJ;omega) d.2.1;show c.ob.get o=s.ob.get o;rw[h1,zN i,br d.2.1,<-e.same o d.2.2];cases p:s1.ob.get o with
  |none=>rfl
  |some ob=>
   rw[ee]
   congr 1
   apply M5;cases q:jO (eI ow s1.aJ) ob with|false=>rfl|true=>exact absurd (Tr.se _ _ _ _ p q) d.1
 .exact iX _ (by rw[e.dr];exact d)
def Nn(h:∀k∈ex,k∈ds)(hs:bh g (aI s) w)(r:∀d∈ds,d<bC){z:fZ S.A (lf sh)}(m:IG sh bs a g s w z s1 ow g1 Hi zR bl1)(e:Dx ds Hq=W)
  {A:Act} {w':World} {al:L fE} {gb t:Gh} {f:bY S} {i:bq S} (j:pL s.lo s.fl g w t w') (n:zW ex Hq bs A gb (cV ds ow bs fr s1).1 (cV ds ow bs fr s1).2 w' al t f i) :
  fC s g w {i with wr:=s1.ob.jz (jO (eI ow s1.aJ))++(bs++s1.wr),dr:=ow++s1.dr} t w'∧eF ds fr f (ow++s1.dr) s.aJ∧f.n=fr.n:=by
 have y:∀b∈bs,b<bC:=λb B=>dB (m.Xg b B).2.1 hs.aJ;refine⟨TX (fr:=fr) hs m j n,⟨λk v u C=>?_,?_⟩,n.n⟩
 .cases p:cE (eI ow s1.aJ) v with
  |true=>exact .inr (ez (iB (λo x=>eL _ x) (by rw[m.aJ];exact bQ _)) v p)
  |false=>
   left
   rw[n.get k (λp=>u (h k p)) (λq E l=>?_),RE r,br u,C]
   .simp[Option.filter,p]
   .obtain ⟨H,F⟩:=q;cases F with|box G=>rfl|hid G=>rfl|one c=>unfold Dx at e;rw[eC]at e;have:=e _ E;simp only at this l;subst l;exact absurd (by simpa using this) u
 .rw[n.J1];exact(sH (iB (λo x=>eL _ x) (by rw[m.aJ];exact bQ _)) (λv=>rfl) fr.df).ok
end
def Jb{g:Gh}{w:World}{fr:bY S}{a:Act}(hf:cG g (bA fr) a w):∀{rv:Rv}{vs:L (V S)},US fr rv=Z vs->∃vals,n5 a (rv.map λp=>(p.1,Pk.one (.dat p.2))) vals∧PW (aM g w) (bn vs) vals
 |[],vs,h=>by simp only[US,bg]at h;subst h;exact⟨[],trivial,rfl,λj t v h=>by simp[bn]at h⟩
 |(k,c)::l,vs,h=>by
  simp only[US]at h;split at h
  .rename_i v r h1 h2;simp only[bg]at h;subst h;obtain⟨vals,h3,h4⟩:=Jb hf h2;obtain⟨u,e,f⟩:=hf.tm k (low v) (by rw[bR,h1];rfl);refine⟨u::vals,⟨e,h3⟩,by simp only[bn,eV,h4.1],λj t i b d=>?_⟩;cases j with|zero=>simp[bn]at b d;subst b;subst d;exact f|succ j=>exact h4.2 j t i (by simpa[bn]using b) (by simpa using d)
  .cases h
def tX{g:Gh}{w:World}{a:Act}:∀{rv:Rv}{r:gA S.A (Gu rv)}{vals:L Value}{al:L fE}{I:Nat->Prop}{fr:bY S},jg S I w (Gu rv) r vals al->(∀b,I b->g.bB b)->n5 a (rv.map λp=>(p.1,Pk.one (.dat p.2))) vals->
  fr.n<=bC->cG g (bA fr) a w->cG g (bA (wE rv r fr)) a w∧(wE rv r fr).n=fr.n∧∀k,k∉rv.map (·.1)->(wE rv r fr).get k=fr.get k
 |[],r,vals,al,I,fr,_,_,_,_,f=>⟨f,rfl,λ_ _=>rfl⟩
 |(k,t)::rv,r,vals,al,I,fr,q,n,e,l,f=>by
  cases q with
  | @dat _ _ x h v z al s u=>
  obtain⟨o,e⟩:=e;have d:k<fr.n:=by have:=(Jo.1 o).1;rw[f.size]at this;exact this
  have m:cG g (bA (fr.put k (.ty t x))) a w:=by
   refine⟨f.size,f.df,λj y c=>?_⟩;rw[bR,bY.iT _ _ _ _ (dB d l)]at c;by_cases i:j=k
   .subst i;rw[bJ rfl]at c;simp only[ee,bg]at c;subst c;exact⟨v,o,oz (s.le n)⟩
   .rw[br i]at c;exact f.tm j y (by rw[bR];exact c)
  obtain⟨h1,h2,h3⟩:=tX (rv:=rv) (fr:=fr.put k (.ty t x)) u n e l m;refine⟨h1,h2,λj c=>?_⟩;simp only[lT,eU,not_or]at c;rw[show wE ((k,t)::rv) (x,h) fr=wE rv h (fr.put k (.ty t x))from rfl,h3 j c.2,bY.iT _ _ _ _ (dB d l),br c.1]
def xC{ω:Type}{Q:xb S->bY S->bq S->O ω}{fr:bY S}{s:bq S}{r:ω}:∀{l:L Nat}{i:Nat},i∈l->Zg Q fr s l (ZO l i)=Z r->Q (.ext i) fr s=Z r
 |[],i,a,_=>by cases a
 |[j],i,a,h=>by simp only[lg]at a;subst a;exact h
 |j::d::l,i,a,h=>by
  simp only[ZO]at h;cases b:Nat.beq j i with
  |true=>rw[b]at h;have:=beq_iff'.1 b;subst this;exact h
  |false=>
   rw[b]at h;simp only[dS]at h;have c:j≠i:=λe=>by subst e;rw[Hz]at b;cases b
   refine xC (l:=d::l) ?_ h;rcases eU.1 a with rfl|a
   .exact absurd rfl c
   .exact a
end
section
def xu{st:LoopState}{a:O Code}(h:DI st a=W):st=.ready∧a=Y:=by
 unfold DI at h;split at h
 .exact ⟨rfl,rfl⟩
 .cases h
variable {fr:bY S}
def O6{g:Gh}{w:World}{a:Act}(hf:cG g (bA fr) a w)(hn:fr.n<=bC)(l:L Nat):∀k t,(bA (Rn l fr)).get k=Z t->∃v,a.tmps[k]?=Z v∧aM g w t v:=by
 have key:∀(l:L Nat)(t0:Tr (V S)),(∀k v,t0.get k=Z v->fr.get k=Z v)->∀k v,(l.foldl (λt k=>match fr.get k with|some v=>t.set aL k v|none=>t) t0).get k=Z v->fr.get k=Z v:=by
  intro l
  induction l with
  |nil=>exact λt0 h=>h
  |cons j l f=>
   intro t0 h;rw[BB];refine f _ λk v b=>?_;split at b
   .rename_i u d;have i:j<bC:=by
     have:(bA fr).get j=Z (low u):=by rw[bR,d];rfl
     obtain⟨x,m,_⟩:=hf.tm j _ this;have:=hf.size;have h2:=(Jo.1 m).1;have h3:(bA fr).n=fr.n:=rfl;omega
    rw[Tr.aZ _ _ _ _ i]at b;by_cases e:k=j
    .rw[bJ e]at b;rw[e,d,b]
    .rw[br e]at b;exact h k v b
   .exact h k v b
 intro k t b;rw[bR]at b;cases c:(Rn l fr).get k with
 |none=>rw[c]at b;cases b
 |some v=>rw[c]at b;have h1:=key l .nil (λk v h=>by simp[Tr.get_nil]at h) k v c;exact hf.tm k t (by rw[bR,h1];exact b)
def Ls{E:gl S}(hE:eP E){call:iH S}(H:fX E.T.E.P call)(n:Nat)(fid:FuncId)(rv:Rv){gv:Operand}{ps:Array Tmp}{m body:Code}{i:Nat}{ω:Type}{Q:xb S->bY S->bq S->O ω}{r:ω}{s:bq S}
  (h:tR E call n fid rv (.rangeFunc gv ps m body) i Q fr s=Z r) (hn:fr.n<=bC) {g:Gh} {a:Act} {w:World} (hf:cG g (bA fr) a w) (hs:bh g (aI s) w) :
  (Code.rangeFunc gv ps m body).wpIn (WR Y) 0 E.T.E.P (KQ (eR (.rangeFunc gv ps m body)++rv.map (·.1)) fr s g w Q r) a w:=by
 simp only[tR]at h;split at h
 .cases h
 rename_i f args hfa;rcases af h with⟨hb,h1⟩|⟨_,h1⟩;rotate_left
 .cases h1
 clear h;simp only[ec]at hb;obtain⟨_,_,adI,u⟩:=hb;have u:s.aJ+1<bC:=fU u;simp only[rW]at hfa;obtain⟨tf,htf,JQ⟩:=hfa;have I:=bM hf (bW htf);have d:=pY JQ;unfold vP at d;split at d;rotate_left
 .cases d
 rename_i f' first cap B
 simp only[bg,bD]at d;obtain⟨rfl,F⟩:=d;rw[B]at I;generalize hvf:a.eval gv=vf at I;cases I with
 |fn _ _ _ va vc l1 l2 r1 r2=>
 obtain⟨KO,he1⟩:=hs.newObj (ob0:=.z8) (x0:=.deferred (Z [])) (by show s.aJ<bC;omega) .z8;have amt:(en (aI s) Ob.z8).2=aI (dw s .z8):=(gC s .z8).symm;rw[amt]at KO;refine wpIn_rangeFunc λfn _=>?_
 let b:Loop:={state:=.ready,pending:=Y,fn,tmps:=a.tmps,params:=ps,assign:=m,body,defers:=w.heap.size}
 let lv:LpV S:=⟨.ready,Y,fid,Rn (wz m++wz body) fr,ps.toList,m,body⟩
 have hf1:cG (g.dh (aI s).aJ w.heap.size) (bA fr) a (w.alloc (.deferred (Z []))):=hf.ext he1 hs.bB;obtain⟨G,K⟩:=KO.newObj (ob0:=.lp (wN lv)) (x0:=.loop b) (by show s.aJ+1<bC;exact u)
  (.lp _ b rfl rfl rfl rfl rfl hf1.size (O6 hf1 hn _))
 have ams:(en (aI (dw s .z8)) (Ob.lp (wN lv))).2=aI (dw (dw s .z8) (.lp lv)):=(gC _ (.lp lv)).symm;rw[ams]at G;have z:(Instr.enterLoop fn a.tmps ps m body Y).run E.T.E.P w=.ok (w.heap.size+1,[{target:=.collected w.heap.size,args:=#[]}]) ((w.alloc (.deferred (Z []))).alloc (.loop b)):=run_enterLoop_outer _ _ _ _ _;generalize hW2:(w.alloc (.deferred (Z []))).alloc (.loop b)=W2 at G K z;generalize hg2:(g.dh (aI s).aJ w.heap.size).dh (aI (dw s .z8)).aJ (w.alloc (.deferred (Z []))).heap.size=g2 at G K;have M:g2.cj s.aJ=Z w.heap.size:=by rw[<-hg2];simp[Gh.dh,aI,dw]
 have C:g2.cj (s.aJ+1)=Z (w.heap.size+1):=by rw[<-hg2];simp[Gh.dh,aI,dw]
 have he:Ext s.fl g w g2 W2:=he1.trans K;have hall:PW (aM g2 W2) (bn args) (va++#[Value.func (.yield (w.heap.size+1)) #[] #[]]++vc).toList:=by rw[<-F];simp only[Gz];refine PW.append (PW.append ⟨by simpa using l1,λj x y h1 h2=>(r1 j x y h1 (by simpa using h2)).ext he hs.bB⟩ ⟨rfl,λj x y h1 h2=>?_⟩) ⟨by simpa using l2,λj x y h1 h2=>(r2 j x y h1 (by simpa using h2)).ext he hs.bB⟩;cases j with|zero=>simp only[bn,qO,bg]at h1 h2;subst h1;subst h2;exact .rJ _ _ C|succ j=>simp[bn]at h1
 obtain⟨Wp,hc⟩:=zx hE H G h1 hall;refine⟨w.heap.size+1,[{target:=.collected w.heap.size,args:=#[]}],W2,{target:=.fn (.func f') vc,args:=va++#[Value.func (.yield (w.heap.size+1)) #[] #[]]},W2,f',va++#[Value.func (.yield (w.heap.size+1)) #[] #[]]++vc,W2,z,?_,λ_ _=>trivial,?_,λh=>by simp[Fence.wide]at h,Pq.2 (hc.mono λe w' N=>?_)⟩
 .simp only[rangeCall,resolve,Deferred.ofValue,hvf,Sem.run_bind,Sem.run_pure,Result.andThen_ok];simp[Act.eval]
 .simp only[invoke];exact vE Wp _
 cases e with
 |panicked ch=>obtain⟨v,t,A,g',_,h1,_⟩:=N;cases h1
 |outgrown=>exact N.elim
 |returned v=>
 obtain⟨t,A,g',ow,h1,_,c⟩:=N;dsimp only at h1;split at h1;rotate_left
 .cases h1
 split at h1;rotate_left
 .cases h1
 rename_i l R;rcases af h1 with⟨hrd,h2⟩|⟨_,h2⟩;rotate_left
 .cases h2
 obtain⟨hst,hpe⟩:=xu hrd;have q:=c.ext.cj _ _ C;have ho':(aI A).ob.get (s.aJ+1)=Z (.lp (wN l)):=by rw[bf,show A.ob.get (s.aJ+1)=Z (.lp l)from R];rfl
 obtain⟨x,hx,hr⟩:=(c.rel.box _ _ q).2.2 _ ho';cases hr with
 |lp _ L' q1 q2 q4 q5 q6 q8 q9=>
 have hfl:A.fl<=s.aJ+1:=by have h0:A.fl=s.fl:=c.fl;rw[h0];exact fU adI
 obtain⟨OT,Ic⟩:=c.rel.setObj (w':=w'.putObj (w.heap.size+1) (.loop {L' with state:=.exhausted})) q ho' rfl hfl (x':=.loop {L' with state:=.exhausted}) (Yu:=.lp (wN {l with st:=.exhausted})) (.lp _ _ rfl q2 q4 q5 q6 q8 q9)
  World.putObj_size (λb' hb'=>World.putObj_heap_other hb') (World.putObj_heap_same (c.rel.box _ _ q).2.1) rfl rfl
 refine⟨Y,w'.putObj (w.heap.size+1) (.loop {L' with state:=.exhausted}),?_,?_⟩
 .have:=run_endLoop (P:=E.T.E.P) hx (by rw[q1];show l.st≠.busy;rw[hst];simp);rw[this];rw[q2];show Result.ok l.tI _=_;rw[hpe]
 refine .inr ⟨.pJ,_,_,g',.pJ,h2,rfl,?_,?_,⟨λk v _ hk=>.inl hk,[_],fr.df,rfl,.refl _ _⟩⟩
 .have hf2:cG g2 (bA fr) a W2:=hf.ext he hs.bB;have Z6:cG g' (bA fr) a w':=mL (ow:=[]) hf2 c;have X:=Z6.ext Ic c.rel.bB;exact⟨X.size,.cons (.mark _ _ (c.ext.cj _ _ M)) X.df,X.tm⟩
 .have hn1:s.aJ<bC:=by omega
  have hl1:=iP s (.z8:wv S) hn1;have hl2:=iP (dw s (.z8:wv S)) (.lp lv) u;have B:aI {A with ob:=A.ob.set aL (Nat.succ s.aJ) (.lp {l with st:=.exhausted})}={aI A with ob:=(aI A).ob.set aL (s.aJ+1) (cQ (.lp {l with st:=.exhausted}))}:=ff A _ _ A.wr;refine⟨by rw[B];exact OT,(he.Ho s.lo).trans ((show pL s.lo s.fl g2 _ g' w' from c.ext).trans ?_),c.fl,c.lo,fJ (by show s.aJ<=s.aJ+1+1;omega) c.aJ,λo R=>c.vo o R,λo R hno=>?_,λo R=>c.GO o R⟩
  .have:=Ic.Ho s.lo;rw[show(aI A).fl=s.fl from c.fl]at this;exact this
  .have e1:o≠Nat.succ s.aJ:=by omega
   show(A.ob.set aL (Nat.succ s.aJ) _).get o=_;rw[Tr.dg _ _ _ _ _ e1,c.same o (by show o<s.aJ+1+1;omega) hno,hl2.same o (by show o<s.aJ+1;omega) (λhm=>hno (c.vo o hm)),hl1.same o R (λhm=>hno (c.vo o hm))]
end
section
def qz(E:gl S)(call:iH S):Prop:=
 ∀(id:Nat)(ops:Array Oper){ω:Type}(kp:bY S->V S->bq S->O ω)(k:bY S->bq S->O ω)(r:ω)(fr:bY S)(s:bq S),
  W1 E fr s ops.toList (uN ops.toList)=W->
  sy E call ops.toList (uN ops.toList) (ops.toList.zipIdx.map λp=>(p.2,p.1)) kp k (Nat.succ (Nat.mul 2 (cC ops.toList))) 0 fr s=Z r->fr.n<=bC->
  ∀{g:Gh}{a:Act}{w:World},cG g (bA fr) a w->bh g (aI s) w->∀{Q:Exit->Act->World->Prop},
  (∀fr' s' g' b w',k fr' s'=Z r->fr'.n=fr.n->cG g' (bA fr') b w'->fC s g w s' g' w'->eF (ops.toList.filterMap (·.dst)) fr fr' s'.dr s.aJ->Q .normal b w')->
  (∀fr' t s' g' b v w',kp fr' t s'=Z r->fr'.n=fr.n->cG g' (bA fr') b w'->fC s g w s' g' w'->eF (ops.toList.filterMap (·.dst)) fr fr' s'.dr s.aJ->aM g' w' (low t) v->Q (.panic [{v,recovered:=J}]) b w')->
  ∀rr:O Nat,(rr≠Y->NV (.region id ops W)=W)->(Code.region id ops W).wpIn (WR rr) 0 E.T.E.P Q a w
def oK{s:bq S}:∀{cs:L Ck}{l:L (V S)}{x:gA S.A cs}{fz ow:L Nat},jf cs=W->gQ s cs l=Z (x,fz,ow)->ow=[]
 |[],[],x,fz,ow,_,h=>by simp only[gQ,bg,bD]at h;exact h.2.2.symm
 | .dat t::cs,v::l,x,fz,ow,a,h=>by
  simp only[gQ]at h;split at h
  .rename_i d a1 e h1 a2 f b c;simp only[bg,bD]at h;obtain⟨_,_,rfl⟩:=h;have:=oK (cs:=cs) (by simpa[jf]using a) c;subst this;simp only[lV]at b;split at b
   .simp only[bg,bD]at b;rw[<-b.2.2];rfl
   .cases b
  .cases h
 | .own _::_,_,_,_,_,a,_=>by simp[jf]at a
 | .jw ..::_,_,_,_,_,a,_=>by simp[jf]at a
 | .nil _::_,_,_,_,_,a,_=>by simp[jf]at a
 | .ptr _::_,_,_,_,_,a,_=>by simp[jf]at a
 |[],_::_,_,_,_,_,h=>by simp[gQ]at h
 | .dat _::_,[],_,_,_,_,h=>by simp[gQ]at h
def A2:∀rv:Rv,jf (Gu rv)=W
 |[]=>rfl
 |_::rv=>A2 rv
def JH(fr:bY S)(c:Operand)(b:Bool):(fr.sk c b).n=fr.n:=by
 unfold bY.sk;split
 .rename_i k;cases Nat.blt k fr.n<;>rfl
 .rfl
variable {s:bq S}{w:World}{fr:bY S}{a:Act}{c:Code}{b:Bool}{r k o:Nat}{rr:Option Nat}{P:Program}{Q:Exit->Act->World->Prop}{E:gl S}
def Ey{g:Gh}{c:Operand}(hn:fr.n<=bC)(hf:cG g (bA fr) a w)(i:a.eval c=.bool b):cG g (bA (fr.sk c b)) a w:=by
 unfold bY.sk;split
 .rename_i k;cases l:Nat.blt k fr.n with
  |false=>exact hf
  |true=>
   have e:k<fr.n:=fU l;refine⟨hf.size,hf.df,λj t d=>?_⟩;simp only[cH]at d;rw[bR,bY.iT _ _ _ _ (dB e hn)]at d;by_cases f:j=k
   .subst f;rw[bJ rfl]at d;simp only[ee,bg]at d;subst d;have h:j<a.tmps.size:=by rw[hf.size];exact e
    have:a.tmps[j]?=Z (.bool b):=by have:=i;simp only[Act.eval,U3,oI h,vY]at this;rw[oI h,this]
    exact⟨_,this,.kb b⟩
   .rw[br f]at d;exact hf.tm j t (by rw[bR];exact d)
 .exact hf
def Rd(hn:fr.n<=bC)(c:Operand)(b:Bool)(dr:L Nat)(aJ:Nat):eF (Rz c) fr (fr.sk c b) dr aJ:=by
 unfold bY.sk;split
 .rename_i k;cases d:Nat.blt k fr.n with|false=>exact eF.refl _ _ _ _|true=>have a:k<fr.n:=fU d;refine⟨λj v e f=>.inl ?_,tP.refl _ _⟩;simp only[cH];rw[bY.iT _ _ _ _ (dB a hn),br (by simpa[Rz]using e)];exact f
 .exact eF.refl _ _ _ _
def T2{ω:Type}{e:Bool}{x y:O ω}{r:ω}(h:GW e x y=Z r):y=Z r∧(e=W->x=Z r):=by
 unfold GW at h;cases e with
 |false=>exact⟨h,λh=>by cases h⟩
 |true=>
  simp only[cH]at h;split at h
  .rename_i a;exact⟨h,λ_=>a.trans h⟩
  .cases h
def oC(ds:L Nat):∀sh:Sh,Dx ds (Sw sh)=W
 |[]=>rfl
 |(_,.one _)::l=>oC ds l
 |(_,.box _)::l=>by have:=oC ds l;simp only[Sw,Dx,DQ,dQ]at this ⊢;exact this
 |(_,.hid _)::l=>by have:=oC ds l;simp only[Sw,Dx,DQ,dQ]at this ⊢;exact this
def jt{s:bq S}{fr:bY S}{k o r:Nat}(l:fr.get k=Z (.sh o r)):∀{sh:Sh}{ps:L Pk}{bs:L Nat}{vs:L (V S)}{p:O Nat}{x:fZ S.A ps}{fz ow f:L Nat},lf sh=ps->tD fr sh bs=Z vs->ej s ps vs p=Z (x,fz,ow,f)->k∈LZ sh->o∈ow
 |[],_,_,_,_,_,_,_,_,_,_,_,a=>by simp[LZ]at a
 |(j,.one c)::sh,ps,bs,vs,p,x,fz,ow,f,d,h1,h2,a=>by
  simp only[tD]at h1;split at h1;rotate_left
  .cases h1
  rename_i v q u g;simp only[bg]at h1;subst h1
  replace d:Pk.one c::lf sh=ps:=d
  subst d;simp only[ej]at h2;split at h2;rotate_left
  .cases h2
  rename_i y a1 z A a2 B w h i;simp only[bg,bD]at h2;obtain⟨_,_,rfl,_⟩:=h2;cases c with
  |dat t=>exact iX _ (jt l rfl g i a)
  |jw n j t=>exact iX _ (jt l rfl g i a)
  |nil e=>exact iX _ (jt l rfl g i a)
  |ptr t=>exact iX _ (jt l rfl g i a)
  |own e=>
   simp only[LZ]at a;rcases eU.1 a with rfl|a
   .rw[l]at u;cases u;simp only[lV]at h;split at h
    .rcases af h with⟨_,h⟩|⟨_,h⟩
     .split at h
      .simp only[bg,bD]at h;obtain⟨_,_,rfl⟩:=h;simp
      .cases h
     .cases h
    .cases h
   .exact iX _ (jt l rfl g i a)
 |(j,.box m)::sh,ps,[],vs,p,x,fz,ow,f,d,h1,h2,a=>by simp[tD]at h1
 |(j,.box m)::sh,ps,b::bs,vs,p,x,fz,ow,f,d,h1,h2,a=>by
  simp only[tD]at h1;split at h1;rotate_left
  .cases h1
  rename_i q g;simp only[bg]at h1;subst h1
  replace d:Pk.box m::lf sh=ps:=d
  subst d;simp only[ej]at h2;split at h2;rotate_left
  .cases h2
  rcases af h2 with⟨_,h2⟩|⟨_,h2⟩;rotate_left
  .cases h2
  split at h2;rotate_left
  .cases h2
  split at h2;rotate_left
  .cases h2
  rename_i i;simp only[bg,bD]at h2;obtain⟨_,_,rfl,_⟩:=h2;exact iX _ (jt l rfl g i a)
 |(j,.hid m)::sh,ps,[],vs,p,x,fz,ow,f,d,h1,h2,a=>by simp[tD]at h1
 |(j,.hid m)::sh,ps,b::bs,vs,Y,x,fz,ow,f,d,h1,h2,a=>by
  replace d:Pk.hid m::lf sh=ps:=d
  subst d;cases vs<;>simp[ej]at h2
 |(j,.hid m)::sh,ps,b::bs,vs,Z C,x,fz,ow,f,d,h1,h2,a=>by
  simp only[tD]at h1
  replace d:Pk.hid m::lf sh=ps:=d
  subst d;simp only[ej]at h2;rcases af h2 with⟨_,h2⟩|⟨_,h2⟩;rotate_left
  .cases h2
  split at h2;rotate_left
  .cases h2
  split at h2;rotate_left
  .cases h2
  rename_i i;simp only[bg,bD]at h2;obtain⟨_,_,rfl,_⟩:=h2;exact iX _ (jt l rfl h1 i a)
def mM{ds:L Nat}{k:Nat}:∀{sh:Sh},k∈WH ds sh->k∈LZ sh
 |[],h=>h
 |(j,.one (.own e))::sh,h=>by
  simp only[WH]at h;simp only[LZ,eU];rcases Bool.eq_false_or_eq_true (ds.contains j)with a|a
  .rw[a]at h;exact .inr (mM h)
  .rw[a]at h;rcases eU.1 h with rfl|h
   .exact .inl rfl
   .exact .inr (mM h)
 |(j,.one (.dat t))::sh,h=>mM (sh:=sh) h
 |(j,.one (.jw ..))::sh,h=>mM (sh:=sh) h
 |(j,.one (.nil _))::sh,h=>mM (sh:=sh) h
 |(j,.one (.ptr _))::sh,h=>mM (sh:=sh) h
 |(j,.box b)::sh,h=>mM (sh:=sh) h
 |(j,.hid b)::sh,h=>mM (sh:=sh) h
def Vv{c:bq S}{sh:Sh}{bs ow:L Nat}{x:fZ S.A (lf sh)}(h:r5 sh bs fr s=Z (x,c,ow))(d:k∈LZ sh)(e:fr.get k=Z (.sh o r)):o∈ow:=by
 unfold r5 at h;split at h
 .cases h
 rename_i i a;split at h
 .cases h
 rename_i j l f g b;split at h
 .cases h
 rcases af h with⟨_,h2⟩|⟨_,h2⟩
 .simp only[bg,bD]at h2;obtain⟨_,_,rfl⟩:=h2;exact jt e rfl a b d
 .cases h2
def Ki(rr:O Nat)(P:Program)(c:Code)(Q:Exit->Act->World->Prop)(a:Act)(w:World):Prop:=
 ∀(b:Frame)(k:L Item)(cs:L Frame),b.roundOf=rr->∃e d w',Q e d w'∧aa5 rr P (lone (b.atR a (.code c::.inLoop c::k)) cs w) b k cs e d w'
def IS(h:Ki rr P c Q a w):(Code.loop c).wpIn (WR rr) 0 P Q a w:=λb k g f _ _=>
 let ⟨e,i,j,l,d⟩:=h b k g f
 ⟨e,i,j,l,.of_steps (iy.2 (.one stepR_loop)) d⟩
def si(h:c.wpIn (WR rr) 0 P (Exit.then (Ki rr P c Q) Q) a w):Ki rr P c Q a w:=by
 intro b k o i;obtain⟨e,j,m,g,d⟩:=h b (.inLoop c::k) o i trivial (Lo _);cases e with
 |normal=>obtain⟨p,q,r,n,f⟩:=g b k o i;exact⟨p,q,r,n,.of_steps (iy.2 ((iy.1 d).trans (.one stepR_inLoop))) f⟩
 |exit id=>exact⟨_,j,m,g,.pass (x:=.inLoop c) rfl (λ_ _=>.inl (by simp)) d⟩
 |goto l=>exact⟨_,j,m,g,.pass (x:=.inLoop c) rfl (λ_ _=>.inl (by simp)) d⟩
 |ret=>exact⟨_,j,m,g,.pass (x:=.inLoop c) rfl (λ_ _=>.inl (by simp)) d⟩
 |panic s=>exact⟨_,j,m,g,.pass (x:=.inLoop c) rfl (λ_ _=>.inl (by simp)) d⟩
 |outgrown=>exact⟨_,j,m,g,.pass (x:=.inLoop c) rfl (λ_ _=>.inl (by simp)) d⟩
def OE(I:Act->World->Prop)(μ:Act->World->Nat)(round:∀a w,I a w->c.wpIn (WR rr) 0 P (Exit.then (λd w'=>I d w'∧μ d w'<μ a w) Q) a w) :
  ∀(m:Nat)(a:Act)(w:World),μ a w<=m->I a w->Ki rr P c Q a w:=by
 intro m
 induction m with
 |zero=>
  intro a w g f;refine si (wpIn_mono (round a w f) λe d w' b=>?_);cases e with|normal=>have:=b.2;omega|_=>exact b
 |succ m h=>
  intro a w g f;refine si (wpIn_mono (round a w f) λe d w' b=>?_);cases e with|normal=>exact h d w' (by have:=b.2;omega) b.1|_=>exact b
def vF{a:Bool}(h:(a&&b)=W):a=W∧b=W:=Am.1 h
def QJ{id:Nat}{ops:Array Oper}{d:Bool}(h:NV (.region id ops d)=W):∀o∈ops.toList,∀c,o.op≠.defer c:=by intro o a c b;simp only[NV,eC]at h;have:=h o a;rw[b]at this;cases this
def OO(hE:eP E)(rv:Rv){b:Code}{ev:{ω:Type}->(xb S->bY S->bq S->O ω)->bY S->bq S->O ω}
  (hev:∀{ω:Type}{Q:xb S->bY S->bq S->O ω}{r:ω}{fr:bY S}{s:bq S},ev Q fr s=Z r->fr.n<=bC->s.lo<=s.aJ->∀{g:Gh}{a:Act}{w:World},cG g (bA fr) a w->bh g (aI s) w->b.wpIn (WR rr) 0 E.T.E.P (KQ (eR b++rv.map (·.1)) fr s g w Q r) a w)
  {ω:Type} {sh:Sh} {pts:L Pt} {al:L (Nat×Nat)} {Q:xb S->bY S->bq S->O ω} {r:ω} {fr:bY S} {s:bq S} (h:V4 E rv ev sh pts al (eR b++rv.map (·.1)) (xQ (kF b)) Q fr s=Z r) (hn:fr.n<=bC) (hlo:s.lo<=s.aJ) {g:Gh} {a:Act} {w:World} (hf:cG g (bA fr) a w) (hs:bh g (aI s) w) :
  b.wpIn (WR rr) 0 E.T.E.P (KQ (eR b++rv.map (·.1)) fr s g w Q r) a w:=by
 unfold V4 at h;split at h
 .cases h
 rename_i P adu;split at h
 .cases h
 rename_i x0 B R hpk;rcases af h with⟨hb,h2⟩|⟨_,h2⟩;rotate_left
 .cases h2
 clear h;rw[ec,ec]at hb;obtain⟨⟨X,u⟩,Wr⟩:=hb;rw[ec,ec]at u;obtain⟨u,Ww,adU⟩:=u;obtain⟨o,l,c⟩:=rD h2;clear h2;generalize hds:(eR b++rv.map (·.1))++(WH (eR b++rv.map (·.1)) sh++al.map (·.1))=ds at *
 obtain⟨bl0,adP⟩:=uf hf hs adu;have JP:∀d∈ds,d<bC:=λd hd=>by rw[eC]at Wr;exact dB (fU (Wr d hd)) hn
 have Tp:∀p∈al,p.1<bC:=λp hp=>JP _ (by rw[<-hds];exact iX _ (iX _ (tY.2 ⟨p,hp,rfl⟩)));have Tn:∀k∈al.map (·.1),k∈ds:=λk hk=>by rw[<-hds];exact iX _ (iX _ hk)
 obtain⟨g1,Hi,zR,bl1,m⟩:=nQ hE.sg hf hs adP hpk;have OZ:=Fw (fr:=fr) hf hs JP m;have adm:B.aJ<=bC:=m.rel.aJ;have Wt:(cV ds R P fr B).1.n<=bC:=hn;have fix:∀{i:bY S},eF ds fr i (R++B.dr) s.aJ->eF (eR b++rv.map (·.1)) fr i (R++B.dr) s.aJ:=by
  intro i hfo;refine⟨λk v hk hv=>?_,hfo.df⟩;by_cases s4:k∈ds
  .right
   rw[<-hds]at s4;rcases ef.1 s4 with s4|s4
   .exact absurd s4 hk
   .rcases ef.1 s4 with s4|s4
    .unfold aan at u;rw[eC]at u;have h1:=u k s4;split at h1
     .rename_i o' r' ho';rw[hv]at ho';cases ho';have:=Vv hpk (mM s4) hv;simp[cE,eI,this]
     .cases h1
    .obtain ⟨p,hp,rfl⟩:=tY.1 s4;obtain⟨o1,r1,rfl,this⟩:=Nt adU hp hv;simp[cE,eI,this]
  .exact hfo.tm k v s4 hv
 have Wx:Yr a w al:=vR hf hs Ww;have hbase:u9 sh P (cV ds R P fr B).1 (cV ds R P fr B).2 s g w x0 a _ w Hi zR bl1:=OZ;unfold DG at l;split at l
 .cases l
 rename_i adX z7 Wm;obtain⟨gh,hh0,adJ⟩:=hbase.head Wt Wm;have hh:=hh0.lE Tp Wx;generalize lE z7 al adX=GJ at hh l;have adF:GJ.n=fr.n:=hh.n;have Z1:z7.lo<=z7.aJ:=by have h1:z7.lo=s.lo:=hh.lo.trans m.lo;have h2:=hh.aJ;have h3:(cV ds R P fr B).2.aJ=B.aJ:=rfl;have:=m.aJ;omega
 refine wpIn_mono (hev l (by rw[adF];exact hn) Z1 hh.fr hh.rel) λe Nv n hq=>?_;rcases hq with hF|⟨ex,NZ,s2,g2,h1,h2,h3,h4,h5,h6⟩
 .exact hF.elim
 replace h6:eF ds GJ NZ s2.dr z7.aJ:=h6.mono (λk hk=>by rw[<-hds];exact eL _ hk) (λ_ h=>h)
 rcases af h2 with⟨adK,h2⟩|⟨_,h2⟩;rotate_left
 .cases h2
 have Z8:NZ.df.length=GJ.df.length:=by have:=beq_iff'.1 adK;rw[bL,bL]at this;rw[this,hh.J1]
 have next:∀{C:Sh}{y:fZ S.A (lf C)}{F s3:bq S}{g2':Gh}{Ot:L Nat},fC z7 gh w F g2' n->cG g2' (bA NZ) Nv n->eF ds GJ NZ F.dr z7.aJ->r5 C P NZ F=Z (y,s3,Ot)->
   N2 B.aJ P s3.wr=W->Ot.all (λo=>Nat.ble B.aJ o)=W->s3.dr.all (λo=>Nat.ble B.aJ o)=W->
   ∃G f H I,u9 C P (cV ds R P fr B).1 (cV ds R P fr B).2 s g w y Nv G n f H I∧∀b,g2'.bB b->G.bB b:=by
  intro C y F s3 g2' Ot k1 k2 k3 k4 k5 k6 k7;obtain⟨g3,f,H,I,ZY⟩:=nQ hE.sg (bl0:=bl1) k2 k1.rel ⟨hbase.YD.1,λj o b q1 q2=>k1.ext.cj o b (hh.le.cj o b (hbase.YD.2 j o b q1 q2))⟩ k4;exact⟨_,f,H,I,Iz Tn JP (λb hb=>⟨by have:=(m.Xg b hb).2.1;rw[m.aJ];exact this,(m.Xg b hb).2.2.1⟩) adm (by rw[m.aJ];exact hlo) (λo K=>(m.owp o K).2.1) (λo b hb=>⟨by rw[m.aJ];exact hs.lt hb,λhm=>by rw[m.owb o hm]at hb;cases hb⟩) X m.lo m.fl adJ hh k1 k2 k3 h3 Z8 ZY k5 k6 k7,ZY.ext.bB⟩
 have M:∀{C:Sh}{y:fZ S.A (lf C)}{G:Gh}{f:L Value}{H:L fE}{I:L Nat}{i:bY S}{z:bq S},Dx ds C=W->u9 C P (cV ds R P fr B).1 (cV ds R P fr B).2 s g w y Nv G n f H I->kQ C P y (cV ds R P fr B).1 (cV ds R P fr B).2=Z (i,z)->
   ∃gy,cG gy (bA i) Nv n∧(∀b,G.bB b->gy.bB b)∧fC s g w {z with wr:=B.ob.jz (jO (eI R B.aJ))++(P++B.wr),dr:=R++B.dr} gy n∧eF ds fr i (R++B.dr) s.aJ∧i.n=fr.n:=by
  intro C y G f H I i z adk k1 k2;obtain⟨gy,k3,k4⟩:=k1.head Wt k2;obtain⟨k5,k6,k7⟩:=Nn (ex:=[]) (λ_ h=>by cases h) hs JP m adk k4 k3;exact⟨gy,k3.fr,k3.le.bB,k5,k6,k7⟩
 cases h1 with
 |pJ=>
  rcases af h2 with⟨adV,h2⟩|⟨_,h2⟩;rotate_left
  .cases h2
  simp only[s6]at h2;split at h2
  .rename_i y s3 Ot A;rcases af h2 with⟨N,h2⟩|⟨_,h2⟩;rotate_left
   .cases h2
   simp only[ec]at N;obtain⟨G,f,H,I,k1,_⟩:=next h5 h4 h6 A N.1 N.2.1 N.2.2
   cases h2;simp only at c;split at c
   .cases c
   .rename_i i z Tl;obtain⟨gy,l1,_,l2,l3,l4⟩:=M X k1 Tl;obtain⟨m1,m2,m3,m4⟩:=kP (s:=z) l2.rel Tp (vR h4 h5.rel adV) l1;exact .inr ⟨.pJ,lE z al i,_,gy,.pJ,c,m2.trans l4,m1,l2,fix ⟨λk v hk hv=>by rw[m4 k λhm=>hk (Tn k hm)];exact l3.tm k v hk hv,by rw[m3];exact l3.df⟩⟩
  .cases h2
 |ext j=>
  rcases af h2 with⟨hj,h2⟩|⟨_,h2⟩;rotate_left
  .cases h2
  simp only[s6]at h2;split at h2
  .rename_i y s3 Ot A;rcases af h2 with⟨N,h2⟩|⟨_,h2⟩;rotate_left
   .cases h2
   simp only[ec]at N;obtain⟨G,f,H,I,k1,_⟩:=next h5 h4 h6 A N.1 N.2.1 N.2.2
   cases h2;simp only at c;split at c
   .cases c
   .rename_i i z Tl;obtain⟨gy,l1,_,l2,l3,l4⟩:=M X k1 Tl;rw[ec]at hj;have Z3:j∈xQ (kF b):=by simpa using hj.1
    obtain⟨m1,m2,m3,m4⟩:=kP (s:=z) l2.rel Tp (vR h4 h5.rel hj.2) l1;exact .inr ⟨.ext j,lE z al i,_,gy,.ext j,xC Z3 c,m2.trans l4,m1,l2,fix ⟨λk v hk hv=>by rw[m4 k λhm=>hk (Tn k hm)];exact l3.tm k v hk hv,by rw[m3];exact l3.df⟩⟩
  .cases h2
 |ret=>
  simp only at h2;split at h2
  .cases h2
  rename_i vs hvs;split at h2;rotate_left
  .cases h2
  rename_i r' fz owr Ti;split at h2;rotate_left
  .cases h2
  rename_i F hfz;simp only[s6]at h2;split at h2
  .rename_i y s3 Ot A;rcases af h2 with⟨N,h2⟩|⟨_,h2⟩;rotate_left
   .cases h2
   simp only[ec]at N;obtain⟨afH,CV,nV⟩:=Jb h4 hvs;obtain⟨p1,p2,p3⟩:=gx hE.sg h5.rel Ti nV;obtain⟨g3,OT,Ic,OY⟩:=ey fz h5.rel (dc hE.sg _ hfz) p1;have OV:owr=[]:=oK (A2 rv) Ti;obtain⟨alr,Cu,_⟩:=p3 g3 (aI F) fz OT Ic OY (λo K=>K) (λo K=>by rw[OV]at K;cases K);obtain⟨f1,f2,f3,f4,f5,f6,f7⟩:=eB hfz;have zh:fC s2 g2 n F g3 n:=⟨OT,Ic.Ho _,f1,f2,yP f3.symm,f4,λo _ K=>f5 o K,λo K=>by rw[f7];exact K⟩;have Z6:cG g3 (bA NZ) Nv n:=h4.ext Ic h5.rel.bB;obtain⟨G,f,H,I,k1,k2⟩:=next (h5.trans zh) Z6 (by rw[f7];exact h6) A N.1 N.2.1 N.2.2
   cases h2;simp only at c;split at c
   .cases c
   .rename_i i z Tl;obtain⟨gy,l1,l0,l2,l3,l4⟩:=M (oC ds sh) k1 Tl;obtain⟨m1,m2,m3⟩:=tX (g:=gy) (w:=n) (a:=Nv) (fr:=i) Cu (λb hb=>l0 b (k2 b hb)) CV (by rw[l4];exact hn) l1;have hdf:∀(rv:Rv)(r:gA S.A (Gu rv))(fr:bY S),(wE rv r fr).df=fr.df:=by
     intro rv
     induction rv with|nil=>intro _ _;rfl|cons q rv ih=>intro r fr;obtain⟨k,t⟩:=q;exact ih _ _
    refine .inr ⟨.ret,_,_,gy,.ret,c,m2.trans l4,m1,l2,⟨λk v hk hv=>?_,by rw[hdf];exact l3.df⟩⟩;rw[m3 k (λhm=>hk (iX _ hm))];exact(fix l3).tm k v hk hv
  .cases h2
 |dm t v hv=>
  rcases af h2 with⟨hpn,h2⟩|⟨_,h2⟩;rotate_left
  .cases h2
  split at h2;rotate_left
  .cases h2
  rename_i r' fz owr Ti;split at h2;rotate_left
  .cases h2
  rename_i F hfz;simp only[s6]at h2;split at h2;rotate_left
  .cases h2
  rename_i y s3 Ot A;rcases af h2 with⟨N,h2⟩|⟨_,h2⟩;rotate_left
  .cases h2
  simp only[ec]at N;have nV:PW (aM g2 n) (bn [t]) [v]:=⟨rfl,λj t' v' q1 q2=>by
   cases j with
   |zero=>simp[bn]at q1 q2;subst q1;subst q2;exact hv
   |succ j=>simp[bn]at q1⟩
  obtain⟨p1,p2,p3⟩:=gx hE.sg h5.rel Ti nV;obtain⟨g3,OT,Ic,OY⟩:=ey fz h5.rel (dc hE.sg _ hfz) p1;have OV:owr=[]:=oK (cs:=[.dat S.pt]) rfl Ti;obtain⟨alr,Cu,_⟩:=p3 g3 (aI F) fz OT Ic OY (λo K=>K) (λo K=>by rw[OV]at K;cases K);obtain⟨f1,f2,f3,f4,f5,f6,f7⟩:=eB hfz;have zh:fC s2 g2 n F g3 n:=⟨OT,Ic.Ho _,f1,f2,yP f3.symm,f4,λo _ K=>f5 o K,λo K=>by rw[f7];exact K⟩;have Z6:cG g3 (bA NZ) Nv n:=h4.ext Ic h5.rel.bB;obtain⟨G,f,H,I,k1,k2⟩:=next (h5.trans zh) Z6 (by rw[f7];exact h6) A N.1 N.2.1 N.2.2
  cases h2;simp only at c;rcases af c with⟨_,c⟩|⟨_,c⟩;rotate_left
  .cases c
  split at c
  .cases c
  .rename_i i z Tl;obtain⟨gy,l1,l0,l2,l3,l4⟩:=M (oC ds sh) k1 Tl;refine .inr ⟨.dm (.ty S.pt r'.1),i,_,gy,.dm _ v ?_,c,l4,l1,l2,fix l3⟩;cases Cu with|@dat _ _ x h v vs al hd hr=>exact oz (hd.le λb hb=>l0 b (k2 b hb))
def rz(hE:eP E){call:iH S}(BM:fX E.T.E.P call)(ahp:qz E call)(n:Nat)(fid:FuncId)(rv:Rv):∀(c:Code)(i:Nat){ω:Type}{Q:xb S->bY S->bq S->O ω}{r:ω}{fr:bY S}{s:bq S},
  tR E call n fid rv c i Q fr s=Z r->(rr≠Y->NV c=W)->fr.n<=bC->s.lo<=s.aJ->∀{g:Gh}{a:Act}{w:World},cG g (bA fr) a w->bh g (aI s) w->c.wpIn (WR rr) 0 E.T.E.P (KQ (eR c++rv.map (·.1)) fr s g w Q r) a w:=by
 intro c
 induction c with
 |region id ops draw=>
  intro i ω Q r fr s h z hn hlo g a w hf hs;cases draw with
  |true=>
   simp only[tR]at h;rcases af h with⟨hb,h⟩|⟨_,h⟩;rotate_left
   .cases h
   refine ahp id ops _ _ r fr s hb h hn hf hs (λf R X H F h1 h2 h3 h4 h5=>.inr ⟨.pJ,f,R,X,.pJ,h1,h2,h3,h4,h5.mono (λk B=>eL _ B) (λ_ h=>h)⟩)
    (λf t R X H v F h1 h2 h3 h4 h6 h5=>.inr ⟨.dm t,f,R,X,.dm t v h5,h1,h2,h3,h4,h6.mono (λk B=>eL _ B) (λ_ h=>h)⟩) rr z
  |false=>
   refine UZ ?_;simp only[tR]at h;have:=BQ hE BM (Q:=KQ (eR (.region id ops J)++rv.map (·.1)) fr s g w Q r) (rr:=rr) (λhr=>QJ (z hr)) ops.toList 0 rfl hn h hf hs
    (λf R X H F h1 h2 h3 h4 h5=>.inr ⟨.pJ,f,R,X,.pJ,h1,h2,h3,h4,h5.mono (λk B=>eL _ B) (λ_ h=>h)⟩)
    (λf t R X H v F h1 h2 h3 h4 h6 h5=>.inr ⟨.dm t,f,R,X,.dm t v h5,h1,h2,h3,h4,h6.mono (λk B=>eL _ B) (λ_ h=>h)⟩)
   rw[List.range_eq_range'];simpa using this
 |seq x y ihx ihy=>
  intro i ω Q r fr s h z hn hlo g a w hf hs;simp only[tR]at h;have hds:∀k∈(eR x++rv.map (·.1))++(eR y++rv.map (·.1)),k∈eR (.seq x y)++rv.map (·.1):=by
   intro k B;simp only[eR,ef]at B ⊢;rcases B with(h|h)|(h|h)
   .exact .inl (.inl h)
   .exact .inr h
   .exact .inl (.inr h)
   .exact .inr h
  refine wpIn_seq (wpIn_mono (ihx i h (λhr=>(vF (z hr)).1) hn hlo hf hs) λe H F hq=>?_);rcases hq with hF|⟨ex,f,R,X,h1,h2,h3,h4,h5,h6⟩
  .exact hF.elim
  .cases h1 with
   |pJ=>have:=ihy i h2 (λhr=>(vF (z hr)).2) (by rw[h3];exact hn) (by rw[h5.lo];exact fJ hlo h5.aJ) h4 h5.rel;exact wpIn_mono this λe a w hq=>(KQ.mono h3 h5 h6 hq).ds hds
   |ext j=>exact .inr ⟨_,f,R,X,.ext j,h2,h3,h4,h5,h6.mono (λk B=>hds k (eL _ B)) (λ_ h=>h)⟩
   |ret=>exact .inr ⟨_,f,R,X,.ret,h2,h3,h4,h5,h6.mono (λk B=>hds k (eL _ B)) (λ_ h=>h)⟩
   |dm t v C=>exact .inr ⟨_,f,R,X,.dm t v C,h2,h3,h4,h5,h6.mono (λk B=>hds k (eL _ B)) (λ_ h=>h)⟩
 |cond c x y ihx ihy=>
  intro i ω Q r fr s h z hn hlo g a w hf hs;have cnd:∀{ω:Type}{Q:xb S->bY S->bq S->O ω}{r:ω}{fr:bY S}{s:bq S},M4 c (tR E call n fid rv x i) (tR E call n fid rv y i) Q fr s=Z r->fr.n<=bC->s.lo<=s.aJ->∀{g:Gh}{a:Act}{w:World},cG g (bA fr) a w->bh g (aI s) w->
    (Code.cond c x y).wpIn (WR rr) 0 E.T.E.P (KQ (eR (.cond c x y)++rv.map (·.1)) fr s g w Q r) a w:=by
   clear h hn hlo hf hs;intro ω Q r fr s h hn hlo g a w hf hs;have hx:∀k∈eR x++rv.map (·.1),k∈eR (.cond c x y)++rv.map (·.1):=by intro k B;simp only[eR,ef]at B ⊢;exact B.imp (λh=>.inr (.inl h)) id
   have hy:∀k∈eR y++rv.map (·.1),k∈eR (.cond c x y)++rv.map (·.1):=by intro k B;simp only[eR,ef]at B ⊢;exact B.imp (λh=>.inr (.inr h)) id
   have K:∀k∈Rz c,k∈eR (.cond c x y)++rv.map (·.1):=by intro k B;simp only[eR,ef];exact .inl (.inl B)
   have tru:a.eval c=.bool W->tR E call n fid rv x i Q (fr.sk c W) s=Z r->x.wpIn (WR rr) 0 E.T.E.P (KQ (eR (.cond c x y)++rv.map (·.1)) fr s g w Q r) a w:=λC h=>
    wpIn_mono (ihx i h (λhr=>(vF (z hr)).1) (by rw[JH];exact hn) hlo (Ey hn hf C) hs) λe a w hq=>(KQ.mono (JH _ _ _) (fC.refl hs) (Rd hn c W _ _) hq).ds λk B=>(ef.1 B).elim (K k) (hx k)
   have fls:a.eval c=.bool J->tR E call n fid rv y i Q (fr.sk c J) s=Z r->y.wpIn (WR rr) 0 E.T.E.P (KQ (eR (.cond c x y)++rv.map (·.1)) fr s g w Q r) a w:=λC h=>
    wpIn_mono (ihy i h (λhr=>(vF (z hr)).2) (by rw[JH];exact hn) hlo (Ey hn hf C) hs) λe a w hq=>(KQ.mono (JH _ _ _) (fC.refl hs) (Rd hn c J _ _) hq).ds λk B=>(ef.1 B).elim (K k) (hy k)
   unfold M4 at h;split at h
   .rename_i K;have:=bM hf (bW K);simp only[low]at this;generalize C:a.eval c=v at this;cases this;exact wpIn_cond_true C (wpIn_mono (ihx i h (λhr=>(vF (z hr)).1) hn hlo hf hs) λe a w hq=>hq.ds hx)
   .rename_i K;have:=bM hf (bW K);simp only[low]at this;generalize C:a.eval c=v at this;cases this;exact wpIn_cond_false C (wpIn_mono (ihy i h (λhr=>(vF (z hr)).2) hn hlo hf hs) λe a w hq=>hq.ds hy)
   .rename_i e K;have:=bM hf (bW K);simp only[low]at this;generalize C:a.eval c=v at this;obtain⟨h2,h1⟩:=T2 h;cases this with|ub _ b hb=>exact wpIn_cond_split C (λhbt=>tru (by rw[C,hbt]) (h1 (hb hbt))) (λhbf=>fls (by rw[C,hbf]) h2)
   .rename_i t _ _ _ K;split at h
    .rename_i b hb;obtain⟨p,e,hp⟩:=kV hb;have C:=iN e hp (bM hf (bW K));refine wpIn_cond_split C (λhbt=>?_) (λhbf=>?_)
     .rcases oD h with⟨_,h⟩|⟨h0,_⟩
      .exact tru (by rw[C,hbt]) h
      .rw[hbt]at h0;cases h0
     .rcases oD h with⟨h0,_⟩|⟨_,h⟩
      .rw[hbf]at h0;cases h0
      .exact fls (by rw[C,hbf]) h
    .cases h
   .cases h
  simp only[tR]at h;split at h
  .exact cnd h hn hlo hf hs
  .exact OO hE rv (ev:=λ{_}Q fr s=>M4 c (tR E call n fid rv x i) (tR E call n fid rv y i) Q fr s) cnd h hn hlo hf hs
 |block j b ih=>
  intro i ω Q r fr s h z hn hlo g a w hf hs;simp only[tR]at h;refine wpIn_block (wpIn_mono (ih j h z hn hlo hf hs) λe H F hq=>?_);rcases hq with hF|⟨ex,f,R,X,h1,h2,h3,h4,h5,h6⟩
  .exact hF.elim
  .cases h1 with
   |pJ=>exact .inr ⟨_,f,R,X,.pJ,h2,h3,h4,h5,h6⟩
   |ext k=>
    simp only[MJ]at h2;simp only[Exit.inBlock];split at h2
    .rename_i hji;rw[bJ (beq_iff'.1 hji)];exact .inr ⟨_,f,R,X,.pJ,h2,h3,h4,h5,h6⟩
    .rename_i hji;rw[br (λe=>by subst e;rw[Hz]at hji;cases hji)];exact .inr ⟨_,f,R,X,.ext k,h2,h3,h4,h5,h6⟩
   |ret=>exact .inr ⟨_,f,R,X,.ret,h2,h3,h4,h5,h6⟩
   |dm t v C=>exact .inr ⟨_,f,R,X,.dm t v C,h2,h3,h4,h5,h6⟩
 |loop b ih=>
  intro i ω Q r fr s h z hn hlo g a w hf hs;simp only[tR]at h;split at h
  .cases h
  rename_i sh pts al pl hsh;refine IS ?_;clear hsh
  induction pl generalizing fr s g a w with
  |succ pl ihp=>
   simp only[Q3]at h;refine si (wpIn_mono (ih i h z hn hlo hf hs) λe H F hq=>?_);rcases hq with hF|⟨ex,f,R,X,h1,h2,h3,h4,h5,h6⟩
   .exact hF.elim
   have hds:∀k∈eR b++rv.map (·.1),k∈eR (.loop b)++rv.map (·.1):=λk B=>B;cases h1 with
   |pJ=>intro b1 k1 cs1 amC;simp only[O8]at h2;have ihq:=ihp (fr:=f) (s:=R) (g:=X) (a:=H) (w:=F) (h:=h2) (hn:=by rw[h3];exact hn) (hlo:=by rw[h5.lo];exact fJ hlo h5.aJ) (hf:=h4) (hs:=h5.rel);obtain⟨e,a2,w2,hq,Wv⟩:=ihq b1 k1 cs1 amC;refine⟨e,a2,w2,?_,Wv⟩;exact(KQ.mono h3 h5 h6 hq).ds λk B=>(ef.1 B).elim (hds k) id
   |ext j=>exact .inr ⟨_,f,R,X,.ext j,h2,h3,h4,h5,h6⟩
   |ret=>exact .inr ⟨_,f,R,X,.ret,h2,h3,h4,h5,h6⟩
   |dm t v C=>exact .inr ⟨_,f,R,X,.dm t v C,h2,h3,h4,h5,h6⟩
  |zero=>
  simp only[Q3]at h;split at h
  .cases h
  rename_i bs adu;split at h
  .cases h
  rename_i x0 s1 ow hpk;rcases af h with⟨hb,h2⟩|⟨_,h2⟩;rotate_left
  .cases h2
  clear h;rw[ec,ec]at hb;obtain⟨⟨abn,Ib⟩,Wr⟩:=hb;rw[ec,ec]at Ib;obtain⟨Ib,Ww,adU⟩:=Ib;obtain⟨o,ahh,u⟩:=rD h2;clear h2;generalize hds:(eR b++rv.map (·.1))++(WH (eR b++rv.map (·.1)) sh++al.map (·.1))=ds at *
  obtain⟨bl0,adP⟩:=uf hf hs adu;have JP:∀d∈ds,d<bC:=λd hd=>by rw[eC]at Wr;exact dB (fU (Wr d hd)) hn
  have Tp:∀p∈al,p.1<bC:=λp hp=>JP _ (by rw[<-hds];exact iX _ (iX _ (tY.2 ⟨p,hp,rfl⟩)));have Tn:∀k∈al.map (·.1),k∈ds:=λk B=>by rw[<-hds];exact iX _ (iX _ B)
  obtain⟨g1,Hi,zR,bl1,N⟩:=nQ hE.sg hf hs adP hpk;have OZ:=Fw (fr:=fr) hf hs JP N;have adm:s1.aJ<=bC:=N.rel.aJ;have Wt:(cV ds ow bs fr s1).1.n<=bC:=hn;have fix:∀{I:bY S},eF ds fr I (ow++s1.dr) s.aJ->eF (eR (.loop b)++rv.map (·.1)) fr I (ow++s1.dr) s.aJ:=by
   intro I hfo;refine⟨λk v B C=>?_,hfo.df⟩;by_cases s4:k∈ds
   .right
    rw[<-hds]at s4;rcases ef.1 s4 with s4|s4
    .exact absurd s4 B
    .rcases ef.1 s4 with s4|s4
     .unfold aan at Ib;rw[eC]at Ib;have h1:=Ib k s4;split at h1
      .rename_i o' r' ho';rw[C]at ho';cases ho';have:=Vv hpk (mM s4) C;simp[cE,eI,this]
      .cases h1
     .obtain ⟨p,hp,rfl⟩:=tY.1 s4;obtain⟨o1,r1,rfl,this⟩:=Nt adU hp C;simp[cE,eI,this]
   .exact hfo.tm k v s4 C
  let Inv (H:Act) (F:World) (m:Nat):Prop:=Yr H F al∧∃x gb vals als bl,iter (DG rv (tR E call n fid rv b i) sh bs s1.aJ (xQ (kF b)) (cV ds ow bs fr s1) E.pn al) m x=Z o∧u9 sh bs (cV ds ow bs fr s1).1 (cV ds ow bs fr s1).2 s g w x H gb F vals als bl
  have Wk:∀(H:Act)(F:World),∃m,(∃k,Inv H F k)->Inv H F m∧∀k,Inv H F k->m<=k:=by
   intro H F;by_cases hex:∃k,Inv H F k
   .obtain ⟨m,hm,hmin⟩:=S7 (λk=>Inv H F k) hex;exact⟨m,λ_=>⟨hm,hmin⟩⟩
   .exact ⟨0,λh=>absurd h hex⟩
  obtain⟨M,hM⟩:∃M:Act->World->Nat,∀H F,(∃k,Inv H F k)->Inv H F (M H F)∧∀k,Inv H F k->M H F<=k:=
   ⟨λH F=>Classical.choose (Wk H F),λH F=>Classical.choose_spec (Wk H F)⟩
  refine OE (λH F=>∃k,Inv H F k) M ?_ _ a w (bQ _) ⟨n,vR hf hs Ww,x0,_,Hi,zR,bl1,ahh,OZ⟩;intro H F hI;obtain⟨⟨Wx,x,gb,vals,als,bl,hit,hbase⟩,hmin⟩:=hM H F hI;obtain⟨m,hm,o',P,Ig⟩:=Tf hit;unfold DG at P;split at P
  .cases P
  rename_i adX z7 Wm;obtain⟨gh,hh0,adJ⟩:=hbase.head Wt Wm;have hh:=hh0.lE Tp Wx;generalize lE z7 al adX=GJ at hh P;have adF:GJ.n=fr.n:=hh.n;have Z1:z7.lo<=z7.aJ:=by have h1:z7.lo=s.lo:=hh.lo.trans N.lo;have h2:=hh.aJ;have h3:(cV ds ow bs fr s1).2.aJ=s1.aJ:=rfl;have:=N.aJ;omega
  refine wpIn_mono (ih i P z (by rw[adF];exact hn) Z1 hh.fr hh.rel) λe Nv G hq=>?_;rcases hq with hF|⟨ex,NZ,s2,g2,h1,h2,h3,h4,h5,h6⟩
  .exact hF.elim
  replace h6:eF ds GJ NZ s2.dr z7.aJ:=h6.mono (λk B=>by rw[<-hds];exact eL _ B) (λ_ h=>h)
  rcases af h2 with⟨adK,h2⟩|⟨_,h2⟩;rotate_left
  .cases h2
  have Z8:NZ.df.length=GJ.df.length:=by have:=beq_iff'.1 adK;rw[bL,bL]at this;rw[this,hh.J1]
  have next:∀{Hq:Sh}{y:fZ S.A (lf Hq)}{s2' s3:bq S}{g2':Gh}{Ot:L Nat},fC z7 gh F s2' g2' G->cG g2' (bA NZ) Nv G->eF ds GJ NZ s2'.dr z7.aJ->r5 Hq bs NZ s2'=Z (y,s3,Ot)->
    N2 s1.aJ bs s3.wr=W->Ot.all (λo=>Nat.ble s1.aJ o)=W->s3.dr.all (λo=>Nat.ble s1.aJ o)=W->
    ∃WC A td Nk,u9 Hq bs (cV ds ow bs fr s1).1 (cV ds ow bs fr s1).2 s g w y Nv WC G A td Nk∧∀b,g2'.bB b->WC.bB b:=by
   intro Hq y s2' s3 g2' Ot k1 k2 k3 k4 k5 k6 k7;obtain⟨g3,A,td,Nk,ZY⟩:=nQ hE.sg (bl0:=bl) k2 k1.rel ⟨hbase.YD.1,λj o b q1 q2=>k1.ext.cj o b (hh.le.cj o b (hbase.YD.2 j o b q1 q2))⟩ k4;exact⟨_,A,td,Nk,Iz Tn JP (λb hb=>⟨by have:=(N.Xg b hb).2.1;rw[N.aJ];exact this,(N.Xg b hb).2.2.1⟩) adm (by rw[N.aJ];exact hlo) (λo ho=>(N.owp o ho).2.1) (λo b hb=>⟨by rw[N.aJ];exact hs.lt hb,λhm=>by rw[N.owb o hm]at hb;cases hb⟩) abn N.lo N.fl adJ hh k1 k2 k3 h3 Z8 ZY k5 k6 k7,ZY.ext.bB⟩
  have leave:∀{Hq:Sh}{y:fZ S.A (lf Hq)}{WC:Gh}{A:L Value}{td:L fE}{Nk:L Nat}{I:bY S}{sty:bq S},Dx ds Hq=W->u9 Hq bs (cV ds ow bs fr s1).1 (cV ds ow bs fr s1).2 s g w y Nv WC G A td Nk->kQ Hq bs y (cV ds ow bs fr s1).1 (cV ds ow bs fr s1).2=Z (I,sty)->
    ∃gy,cG gy (bA I) Nv G∧(∀b,WC.bB b->gy.bB b)∧fC s g w {sty with wr:=s1.ob.jz (jO (eI ow s1.aJ))++(bs++s1.wr),dr:=ow++s1.dr} gy G∧eF ds fr I (ow++s1.dr) s.aJ∧I.n=fr.n:=by
   intro Hq y WC A td Nk I sty adk k1 k2;obtain⟨gy,k3,k4⟩:=k1.head Wt k2;obtain⟨k5,k6,k7⟩:=Nn (ex:=[]) (λ_ h=>by cases h) hs JP N adk k4 k3;exact⟨gy,k3.fr,k3.le.bB,k5,k6,k7⟩
  cases h1 with
  |pJ=>
   rcases af h2 with⟨adV,h2⟩|⟨_,h2⟩;rotate_left
   .cases h2
   simp only[s6]at h2;split at h2
   .rename_i y s3 Ot OU;rcases af h2 with⟨K,h2⟩|⟨_,h2⟩;rotate_left
    .cases h2
    simp only[ec]at K;obtain⟨WC,A,td,Nk,k1,_⟩:=next h5 h4 h6 OU K.1 K.2.1 K.2.2
    cases h2;rcases Ig with⟨y',hy',Z4⟩|⟨rfl,hno⟩
    .cases hy';have hIy:Inv Nv G m:=⟨vR h4 h5.rel adV,y,WC,A,td,Nk,Z4,k1⟩;refine⟨⟨m,hIy⟩,?_⟩;have:=(hM Nv G ⟨m,hIy⟩).2 m hIy;omega
    .exact absurd rfl (hno y)
   .cases h2
  |ext j=>
   rcases af h2 with⟨hj,h2⟩|⟨_,h2⟩;rotate_left
   .cases h2
   simp only[s6]at h2;split at h2
   .rename_i y s3 Ot OU;rcases af h2 with⟨K,h2⟩|⟨_,h2⟩;rotate_left
    .cases h2
    simp only[ec]at K;obtain⟨WC,A,td,Nk,k1,_⟩:=next h5 h4 h6 OU K.1 K.2.1 K.2.2
    cases h2;rcases Ig with⟨y',hy',Z4⟩|⟨rfl,hno⟩
    .cases hy'
    .simp only at u;split at u
     .cases u
     .rename_i I sty Tl;obtain⟨gy,l1,_,l2,l3,l4⟩:=leave abn k1 Tl;rw[ec]at hj;have Z3:j∈xQ (kF b):=by simpa using hj.1
      obtain⟨m1,m2,m3,m4⟩:=kP (s:=sty) l2.rel Tp (vR h4 h5.rel hj.2) l1;exact .inr ⟨.ext j,lE sty al I,_,gy,.ext j,xC Z3 u,m2.trans l4,m1,l2,fix ⟨λk v B C=>by rw[m4 k λhm=>B (Tn k hm)];exact l3.tm k v B C,by rw[m3];exact l3.df⟩⟩
   .cases h2
  |ret=>
   simp only at h2;split at h2
   .cases h2
   rename_i vs hvs;split at h2;rotate_left
   .cases h2
   rename_i r' fz owr Ti;split at h2;rotate_left
   .cases h2
   rename_i s2' hfz;simp only[s6]at h2;split at h2
   .rename_i y s3 Ot OU;rcases af h2 with⟨K,h2⟩|⟨_,h2⟩;rotate_left
    .cases h2
    simp only[ec]at K;obtain⟨afH,CV,nV⟩:=Jb h4 hvs;obtain⟨p1,p2,p3⟩:=gx hE.sg h5.rel Ti nV;obtain⟨g3,OT,Ic,OY⟩:=ey fz h5.rel (dc hE.sg _ hfz) p1;have OV:owr=[]:=oK (A2 rv) Ti;obtain⟨alr,Cu,_⟩:=p3 g3 (aI s2') fz OT Ic OY (λo ho=>ho) (λo ho=>by rw[OV]at ho;cases ho);obtain⟨f1,f2,f3,f4,f5,f6,f7⟩:=eB hfz;have zh:fC s2 g2 G s2' g3 G:=⟨OT,Ic.Ho _,f1,f2,yP f3.symm,f4,λo _ ho=>f5 o ho,λo ho=>by rw[f7];exact ho⟩;have Z6:cG g3 (bA NZ) Nv G:=h4.ext Ic h5.rel.bB;obtain⟨WC,A,td,Nk,k1,k2⟩:=next (h5.trans zh) Z6 (by rw[f7];exact h6) OU K.1 K.2.1 K.2.2
    cases h2;rcases Ig with⟨y',hy',Z4⟩|⟨rfl,hno⟩
    .cases hy'
    .simp only at u;split at u
     .cases u
     .rename_i I sty Tl;obtain⟨gy,l1,l0,l2,l3,l4⟩:=leave (oC ds sh) k1 Tl;obtain⟨m1,m2,m3⟩:=tX (g:=gy) (w:=G) (a:=Nv) (fr:=I) Cu (λb hb=>l0 b (k2 b hb)) CV (by rw[l4];exact hn) l1;have hdf:∀(rv:Rv)(r:gA S.A (Gu rv))(fr:bY S),(wE rv r fr).df=fr.df:=by
       intro rv
       induction rv with|nil=>intro _ _;rfl|cons q rv ih=>intro r fr;obtain⟨k,t⟩:=q;exact ih _ _
      refine .inr ⟨.ret,_,_,gy,.ret,u,m2.trans l4,m1,l2,⟨λk v B C=>?_,by rw[hdf];exact l3.df⟩⟩;rw[m3 k (λhm=>B (iX _ hm))];exact(fix l3).tm k v B C
   .cases h2
  |dm t v C=>
   rcases af h2 with⟨hpn,h2⟩|⟨_,h2⟩;rotate_left
   .cases h2
   split at h2;rotate_left
   .cases h2
   rename_i r' fz owr Ti;split at h2;rotate_left
   .cases h2
   rename_i s2' hfz;simp only[s6]at h2;split at h2;rotate_left
   .cases h2
   rename_i y s3 Ot OU;rcases af h2 with⟨K,h2⟩|⟨_,h2⟩;rotate_left
   .cases h2
   simp only[ec]at K;have nV:PW (aM g2 G) (bn [t]) [v]:=⟨rfl,λj t' v' q1 q2=>by
    cases j with
    |zero=>simp[bn]at q1 q2;subst q1;subst q2;exact C
    |succ j=>simp[bn]at q1⟩
   obtain⟨p1,p2,p3⟩:=gx hE.sg h5.rel Ti nV;obtain⟨g3,OT,Ic,OY⟩:=ey fz h5.rel (dc hE.sg _ hfz) p1;have OV:owr=[]:=oK (cs:=[.dat S.pt]) rfl Ti;obtain⟨alr,Cu,_⟩:=p3 g3 (aI s2') fz OT Ic OY (λo ho=>ho) (λo ho=>by rw[OV]at ho;cases ho);obtain⟨f1,f2,f3,f4,f5,f6,f7⟩:=eB hfz;have zh:fC s2 g2 G s2' g3 G:=⟨OT,Ic.Ho _,f1,f2,yP f3.symm,f4,λo _ ho=>f5 o ho,λo ho=>by rw[f7];exact ho⟩;have Z6:cG g3 (bA NZ) Nv G:=h4.ext Ic h5.rel.bB;obtain⟨WC,A,td,Nk,k1,k2⟩:=next (h5.trans zh) Z6 (by rw[f7];exact h6) OU K.1 K.2.1 K.2.2
   cases h2;rcases Ig with⟨y',hy',Z4⟩|⟨rfl,hno⟩
   .cases hy'
   .simp only at u;rcases af u with⟨_,u⟩|⟨_,u⟩;rotate_left
    .cases u
    split at u
    .cases u
    .rename_i I sty Tl;obtain⟨gy,l1,l0,l2,l3,l4⟩:=leave (oC ds sh) k1 Tl;refine .inr ⟨.dm (.ty S.pt r'.1),I,_,gy,.dm _ v ?_,u,l4,l1,l2,fix l3⟩;cases Cu with|@dat _ _ x h v vs al hd hr=>exact oz (hd.le λb hb=>l0 b (k2 b hb))
 |exit j=>intro i ω Q r fr s h z hn hlo g a w hf hs;exact wpIn_exit (.inr ⟨_,fr,s,g,.ext j,h,rfl,hf,fC.refl hs,eF.refl _ _ _ _⟩)
 |ret=>intro i ω Q r fr s h z hn hlo g a w hf hs;exact wpIn_ret (.inr ⟨_,fr,s,g,.ret,h,rfl,hf,fC.refl hs,eF.refl _ _ _ _⟩)
 |skip=>intro i ω Q r fr s h z hn hlo g a w hf hs;exact wpIn_skip (.inr ⟨_,fr,s,g,.pJ,h,rfl,hf,fC.refl hs,eF.refl _ _ _ _⟩)
 |label j=>intro i ω Q r fr s h z hn hlo g a w hf hs;exact wpIn_label (.inr ⟨_,fr,s,g,.pJ,h,rfl,hf,fC.refl hs,eF.refl _ _ _ _⟩)
 |scope b ih=>
  intro i ω Q r fr s h z hn hlo g a w hf hs;have hr0:rr=Y:=by cases rr with|none=>rfl|some l=>have:=z (by simp);simp[NV]at this
  subst hr0;simp only[tR]at h;refine wpIn_wide.2 (wp_scope_straight (wp_mono (wpIn_wide.1 (ih i h (λh=>absurd rfl h) hn hlo hf hs)) λe H F hq=>?_));rcases hq with hF|⟨ex,f,R,X,h1,h2⟩
  .exact hF.elim
  .cases h1 with|pJ=>exact .inr ⟨_,f,R,X,.pJ,h2⟩|ext j=>exact .inr ⟨_,f,R,X,.ext j,h2⟩|ret=>exact .inr ⟨_,f,R,X,.ret,h2⟩|dm t v C=>exact .inr ⟨_,f,R,X,.dm t v C,h2⟩
 |rangeFunc gv ps asg body _ _=>
  intro i ω Q r fr s h z hn hlo g a w hf hs;have hr0:rr=Y:=by cases rr with|none=>rfl|some l=>have:=z (by simp);simp[NV]at this
  subst hr0;exact Ls hE BM n fid rv h hn hf hs
 |_=>intro i ω Q r fr s h;simp[tR]at h
end
section
def Mh:∀t:T,eA (λ_=>J) t=J:=by
 intro t
 induction t using T.rec (motive_2:=λl=>jR (λ_=>J) l=J)with|fn f a b d g=>simp[eA,d,g]|cR t v e=>simp[eA,e]|agg i e=>simp[eA,e]|gB i e=>simp[eA,e]|gd c v e=>simp[eA,e]|nil=>rfl|cons a l d h=>simp[jR,d,h]|_=>simp[eA]
def rT(b:fB S){E:gH}(d:PL S E){s:bq S}{fr:bY S}:∀{l:L ResultVar}{vs:L (V S)},ki E s fr l=Z vs->∃p,kj E.E (aI s) (bA fr) l=Z (p,bn vs)∧p
 |[],vs,h=>by simp only[ki,bg]at h;subst h;exact⟨True,rfl,trivial⟩
 | .tmp t::l,vs,h=>by
  simp only[ki]at h;split at h
  .rename_i x r h1 h2;simp only[bg]at h;subst h;obtain⟨p,e,f⟩:=rT b d h2;exact⟨p,by simp only[kj,bR,h1,ee,e,bn],f⟩
  .cases h
 | .cell a t::l,vs,h=>by
  simp only[ki]at h;split at h
  .rename_i i x g j;split at h
   .rename_i c y s' r k h2;rcases af h with⟨m,h⟩|⟨_,h⟩
    .simp only[bg]at h;subst h;obtain⟨rfl,q,n,o⟩:=HY b (λu v=>d.row _ _ _ g v) k m;obtain⟨p,e,f⟩:=rT b d h2;exact⟨q∧p,by simp only[kj,g,bR,j,ee,n,e,bn],o,f⟩
    .cases h
   .cases h
  .cases h
def VO:∀l:L (V S),low (Gs l)=acr (bn l)
 |[]=>rfl
 |[_]=>rfl
 |_::_::_=>rfl
def BL:∀(l:L (V S))(k:Nat)(t:Tr (V S)),(nU l k t).map low=Az (bn l) k (t.map low)
 |[],_,_=>rfl
 |a::l,k,t=>by simp only[nU,bn,Az];rw[BL l,Tr.lA]
variable {E:gl S}{s s' s0:bq S}{fr:bY S}{g g' g0:Gh}{w w' w0:World}{fn:Func}{call:iH S}{m:Nat}{st:Bool->List Frame}{R:Ending->World->Prop}
def fC.Ho(hs:bh g (aI s) w)(h:fC {s with lo:=s.aJ} g w s' g' w'):cO [] s g w {s' with lo:=s.lo} g' w':=by have d:tu g.bB w w':=λb c=>h.ext.heap b (hs.bB b c) (λo _ f=>f.1 c);refine⟨⟨h.rel.aJ,h.rel.ai,h.rel.box,h.rel.arr,h.rel.bB,h.rel.l9⟩,⟨λo b e=>h.ext.cj o b e,λo e x _ k=>h.ext.arr o e x (hs.lt' k) k,h.ext.bB,h.ext.size,h.ext.heap,h.ext.own,h.ext.uq,h.ext.os,h.ext.output⟩,h.fl,rfl,h.aJ,h.vo,h.same,λt v i _=>?_,λo a=>(by cases a),h.GO,λo a=>(by cases a)⟩;exact i.on (p:=λ_=>J) ⟨λo b _ e=>h.ext.cj o b e,λo e x _ k=>h.ext.arr o e x (hs.lt' k) k,h.ext.bB⟩ d (Mh t)
def Ay{n:Nat}(hn:n<bC){args:L (V S)}{vs:Array Value}(hl:args.length<=n)(c:PW (aM g w) (bn args) vs.toList) :
  cG g (bA {n:=n,tm:=nU args 0 .nil}) {tmps:=vs++Array.replicate (n-vs.size) undef,defers:=[]} w:=by
 have d:(bn args).length=vs.size:=by simpa using c.1
 have f:args.length=vs.size:=by rw[<-d,eW]
 refine⟨by simp[bA];omega,.nil,λj t b=>?_⟩;have e:(bA {n:=n,tm:=nU args 0 .nil}).get j=(Az (bn args) 0 .nil).get j:=by show((nU args 0 .nil).map low).get j=_;rw[BL];rfl
 rw[e,EH _ _ _ (by omega)]at b;simp only[Cj,js,true_and,Nat.sub_zero]at b;split at b
 .rename_i h;have a:j<vs.size:=by omega
  refine⟨vs[j],?_,c.2 j t _ b (by simp[a])⟩;rw[QT,bJ a];exact oI a
 .rw[Tr.get_nil]at b;cases b
def wI(b:eP E){a:Act}(hf:cG g (bA fr) a w)(hs:bh g (aI s) w){l:L (V S)}(h:ki E.T s fr fn.results.toList=Z l) :
  ∃v,(results fn a.tmps).run E.T.E.P w=.ok v w∧aM g w (low (Gs l)) v:=by
 obtain⟨p,e,c⟩:=rT b.sg b.ty h;obtain⟨v,d,f⟩:=Ll b.Uo hf hs e c;exact⟨v,d,by rw[VO];exact f⟩
def cO.trans{s s' b:bq S}{g g' c:Gh}{w w' d:World}(h:cO [] s g w s' g' w')(k:cO [] s' g' w' b c d):cO [] s g w b c d where
 rel:=k.rel
 ext:=h.ext.trans (h.fl▸h.lo▸k.ext)
 fl:=k.fl.trans h.fl
 lo:=k.lo.trans h.lo
 aJ:=fJ h.aJ k.aJ
 vo:=λo a=>k.vo o (h.vo o a)
 same:=λo f a=>(k.same o (dB f h.aJ) a).trans (h.same o f λe=>a (k.vo o e))
 tr:=λt v i e=>k.tr t v (h.tr t v i e) e
 oww:=λo a=>by cases a
 GO:=λo a=>k.GO o (h.GO o a)
 owd:=λo a=>by cases a
def UR(g:Gh)(w:World):O (V S)->FrameMode->Prop
 |none,u=>u=.returning
 |some t,u=>∃v,u=.panicking [{v,recovered:=J}]∧aM g w (low t) v
structure abT(g:Gh)(s:bq S)(w:World)(pv:Option (V S))(st:Bool->List Frame)(vp:Value):Prop where
 rel:∀g' s' w',fC s g w s' g' w'->aM g' w' (low (afJ pv)) vp
 rcv:(pv=Y∧recoverD (st J)=Y∧vp=.nilIface)∨(pv.isSome=W∧recoverD (st J)=Z (vp,st W))
def QRV(s:bq S)(g:Gh)(w:World)(m:Nat)(st:Bool->L Frame){ω:Type}(Q:Bool->xb S->bY S->bq S->O ω)(r:ω)(e:Exit)(a:Act)(cs:L Frame)(w':World):Prop:=
 False∨∃b ex fr' s' g',cs=st b∧Qf g' w' ex e∧Q b ex fr' s'=Z r∧fr'.n=m∧cG g' (bA fr') a w'∧fC s g w s' g' w'
def V6{o:Oper}(h:isRec o=W):o.guard=Y∧∃c,o.op=.call c∧c.callee=.builtin .recover:=by
 unfold isRec at h;split at h
 .rename_i c b a;split at h
  .rename_i d;exact⟨b,c,a,d⟩
  .cases h
 .cases h
def rK(l:eP E)(b:fX E.T.E.P call)(d:qz E call)(n:Nat)(j:FuncId)(rv:Rv)(hlo:s0.lo<=s0.aJ)(t:m<=bC)(f:Bool)
  (c:Code) (i:Nat) {ω:Type} {Q:Bool->xb S->bY S->bq S->O ω} {r:ω} {fr:bY S} {s:bq S} (h:tR E call n j rv c i (Q f) fr s=Z r) (hn:fr.n=m) {g:Gh} {a:Act} {w:World} (hs:fC s0 g0 w0 s g w) (hf:cG g (bA fr) a w) :
  c.wpS E.T.E.P (QRV s0 g0 w0 m st Q r) a (st f) w:=by
 refine wpS_of_wp (wp_mono (wpIn_wide.1 (rz (rr:=Y) l b d n j rv c i h (λh=>absurd rfl h) (by omega) ?_ hf hs.rel)) λe u w' o=>?_)
 .have:=hs.aJ;rw[hs.lo];omega
 rcases o with p|⟨q,k,s',g',h1,h2,h3,h4,h5,h6⟩
 .exact p.elim
 .exact .inr ⟨f,q,k,s',g',rfl,h1,h2,h3.trans hn,h4,hs.trans h5⟩
def TE(hE:eP E)(f:fX E.T.E.P call)(p:qz E call)(n:Nat)(pv:O (V S))(A:FuncId)(rv:Rv)(hlo:s0.lo<=s0.aJ)(hm:m<=bC){vp:Value}
  (H:abT g0 s0 w0 pv st vp):∀(c:Code)(i:Nat){ω:Type}{Q:Bool->xb S->bY S->bq S->O ω}{r:ω}{fr:bY S}{s:bq S},evR E call n pv A rv c i Q fr s=Z r->fr.n=m->
  ∀{g:Gh}{a:Act}{w:World},fC s0 g0 w0 s g w->cG g (bA fr) a w->c.wpS E.T.E.P (QRV s0 g0 w0 m st Q r) a (st J) w:=by
 intro c
 induction c with
 |seq x y ihx ihy=>
  intro i ω Q r fr s h X g a w B K;simp only[evR]at h;refine wpS_seq λb k hb hr=>?_;obtain⟨e,M,cs',w',hq,z⟩:=ihx i h X B K b k hb hr;refine⟨e,M,cs',w',?_,z⟩;rcases hq with hF|⟨d,ex,u,s',g',h0,h1,h2,h3,h4,h5⟩
  .exact hF.elim
  .cases h1 with|pJ=>subst h0;exact rK hE f p n A rv hlo hm d y i h2 h3 h5 h4|ext j=>exact .inr ⟨d,_,u,s',g',h0,.ext j,h2,h3,h4,h5⟩|ret=>exact .inr ⟨d,_,u,s',g',h0,.ret,h2,h3,h4,h5⟩|dm t v hv=>exact .inr ⟨d,_,u,s',g',h0,.dm t v hv,h2,h3,h4,h5⟩
 |region id q draw=>
  intro i ω Q r fr s h X g a w B K;cases draw with
  |true=>exact rK hE f p n A rv hlo hm J _ i h X B K
  |false=>
   simp only[evR]at h;split at h;rotate_left
   .cases h
   rename_i o l C;rcases af h with⟨hr,h2⟩|⟨_,h2⟩;rotate_left
   .exact rK hE f p n A rv hlo hm J _ i h2 X B K
   rcases af h2 with⟨hd,h3⟩|⟨_,h3⟩;rotate_left
   .cases h3
   obtain⟨hg,c,hop,JQ⟩:=V6 hr;rw[<-C]at h3;have ho:q[0]?=Z o:=by have:=lS (λl=>l[0]?) C;simpa using this
   have hsz:q.size=l.length+1:=by have:=lS List.length C;simpa using this
   have hw:Region.wanted o (yielded q a.tmps)=W:=by simp[Region.wanted,hg]
   have I:(execOp a.eval o).run E.T.E.P w=.ok .recover w:=by simp only[execOp,hop,resolve,JQ,Sem.run_bind,Sem.run_pure,Result.andThen_ok,invoke];simp[builtin]
   have Cu:=H.rel _ _ _ B;obtain⟨k1,k2⟩:=rX K hd (by omega) Cu;have key:∃d,d=pv.isSome∧recoverD (st J)=(if d then Z (vp,st W)else Y)∧(d=J->vp=.nilIface):=by
    rcases H.rcv with⟨e1,e2,e3⟩|⟨e1,e2⟩
    .exact ⟨J,by rw[e1];rfl,by simpa using e2,λ_=>e3⟩
    .exact ⟨W,e1.symm,by simpa using e2,λh=>by cases h⟩
   obtain⟨d,amD,hrd,OX⟩:=key;rw[<-amD]at h3;have hwp:uU Y E.T.E.P q (λe M w'=>QRV s0 g0 w0 m st Q r e M (st d) w') (List.range' 1 l.length) (a.put o.dst vp) w:=by
    refine BQ hE f (rr:=Y) (λh=>absurd rfl h) l 1 (by rw[C];rfl) (by rw[k2];omega) h3 k1 B.rel (λu s' g' M w' q1 q2 q3 q4 _=>.inr ⟨d,.pJ,u,s',g',rfl,.pJ,q1,by omega,q3,B.trans q4⟩)
     (λu t s' g' M v w' q1 q2 q3 q4 _ q5=>.inr ⟨d,.dm t,u,s',g',rfl,.dm t v q5,q1,by omega,q3,B.trans q4⟩)
   intro b k hb N;have F:List.range q.size=0::List.range' 1 l.length:=by rw[List.range_eq_range',hsz,List.range'_succ]
   have hgo:=stepG_op (P:=E.T.E.P) (b:=b) (k:=k) (cs:=st J) (w:=w) (rest:=List.range' 1 l.length) ho hw;have anq:∀v,(b.at a (.inRegion q (0::List.range' 1 l.length)::k)).finish v=b.at (a.put o.dst v) (.inRegion q (List.range' 1 l.length)::k):=by intro v;rw[Frame.finish_at,ho];rfl
   have hk:(b.at a (.inRegion q (0::List.range' 1 l.length)::k)).kind=.deferred:=hb;have G:=tryRecover_deferred hk (st J);obtain⟨e,M,w',hq,R⟩:=me _ _ _ hwp b k (st d) N;have z:=(arrivesIn_iff (λ_ _=>stepsIn_wide) N).1 R;rw[Frame.atR_of_none N]at z;refine⟨e,M,st d,w',hq,.of_steps (.one step_region) ?_⟩;rw[F];refine .of_steps (.one (step_lone_go ?_)) z;rw[hgo,<-anq];simp only[Frame.at]at G ⊢;rw[hrd]at G;cases d with|true=>simp[stepG.apply,I,G]|false=>have:=OX rfl;subst this;simp[stepG.apply,I,G]
 |_=>intro i ω Q r fr s h X g a w B K;exact rK hE f p n A rv hlo hm J _ i h X B K
def KS:FrameMode->Value
 | .panicking (p::_)=>p.v
 |_=>.nilIface
def UC:FrameMode->FrameMode
 | .panicking (p::_)=>.panicking [{v:=p.v,recovered:=W}]
 |m=>m
def MO(hE:eP E)(P:fX E.T.E.P call)(R:qz E call)(n:Nat){A:O (V S)}{d:Bo S}{ω:Type}{k:Bool->bq S->O ω}{r:ω}(h:WL E call n A d s k=Z r)
  {g:Gh} {w:World} (hs:bh g (aI s) w) {e:Deferred} (hd:u6 g w (rf d) e) {u:FrameMode} (a:UR g w A u) :
  u≠.run∧((∃b w',e.target=.collected b∧(Instr.takeDeferred b).run E.T.E.P w=.ok [] w'∧∃s',k J s'=Z r∧UR g w' A u∧cO [] s g w s' g w')∨∃fv cap f args,e.target=.fn fv cap∧(invoke e.target e.args).run E.T.E.P w=.ok (.enter f args) w∧CallsD E.T.E.P f args u w λ
   | .returned _,K,w'=>∃i s' g',k i s'=Z r∧UR g' w' (bif i then Y else A) (settle K)∧cO [] s g w s' g' w'
   | .panicked _,_,_=>False
   | .outgrown,_,_=>False):=by
 have hrun:u≠.run:=by cases A with|none=>rw[show u=.returning from a];simp|some t=>obtain⟨v,rfl,_⟩:=a;simp
 refine⟨hrun,?_⟩;unfold WL at h;split at h;rotate_left
 .rename_i o
  left
  simp only[rf]at hd;cases hd with
  |mark _ b hb=>
  split at h;rotate_left
  .cases h
  rename_i ho;rcases af h with⟨X,h2⟩|⟨_,h2⟩;rotate_left
  .cases h2
  rw[ec]at X;have ho':(aI s).ob.get o=Z .z8:=by rw[bf,ho];rfl
  obtain⟨x,hx,hr⟩:=(hs.box o b hb).2.2 _ ho';cases hr with
  |z8=>
  obtain⟨h3,he⟩:=hs.ajT (w':=w.putObj b (.deferred Y)) hb ho' rfl (fU X.1) World.putObj_size (λb' hb'=>World.putObj_heap_other hb') rfl rfl;have hlt:o<bC:=fU X.2;have B:o+1<2 ^ aL:=by unfold aL;unfold bC at hlt;omega
  have p:cO [] s g w {s with ob:=s.ob.del aL o,wr:=o::s.wr} g (w.putObj b (.deferred Y)):=by
   refine cO.lW hs (h3.WB rfl λk=>?_) he rfl rfl (bQ _) ⟨λ_ h=>gO _ h,λk _ hk=>?_,rfl⟩
   .show (Tr.map cQ (s.ob.del aL o)).get k=((aI s).ob.del aL o).get k;rw[Tr.get_map,Tr.sr _ _ _ _ B,Tr.sr _ _ _ _ B,bf];split<;>rfl
   .exact (Tr.sr _ _ _ _ B).trans (br λe=>hk (by rw[e];exact eD))
  refine⟨b,_,rfl,run_takeDeferred hx,_,h2,?_,p⟩;cases A with|none=>exact a|some t=>obtain⟨v,a,ht⟩:=a;exact⟨v,a,p.tr _ _ ht (oe _)⟩
 .cases h
 rename_i fv args
 right
 split at h
 .cases h
 rename_i f C JQ;split at h
 .cases h
 rename_i fn hfn;split at h
 .cases h
 rename_i c hc;rcases af h with⟨hb,h2⟩|⟨_,h2⟩;rotate_left
 .cases h2
 clear h;rw[Am]at hb;have q:=pY JQ;unfold vP at q;split at q;rotate_left
 .cases q
 rename_i f' first cap Mx
 simp only[bg,bD]at q;obtain⟨rfl,H⟩:=q;simp only[rf]at hd;cases hd with
 |call _ _ fvn xa xc F h3 h4 h5=>
 rw[Mx]at h3;cases h3 with
 |fn _ _ _ _ _ l1 l2 r1 r2=>
 have hfs:=hE.Uo.Ur _ _ hfn;have Wp:mD E.T.E.P f':=⟨fn,hfs,by rw[hc];rfl,hE.name _ _ hfn⟩;refine⟨_,_,f',xa++F++xc,rfl,?_,?_⟩
 .simp only[invoke];exact vE Wp _
 have nV:PW (aM g w) (bn C) (xa++F++xc).toList:=by rw[<-H];simp only[Gz];exact PW.append (PW.append ⟨by simpa using l1,λj x y h1 h2=>r1 j x y h1 (by simpa using h2)⟩ ⟨by simpa using h4,λj x y h1 h2=>h5 j x y h1 (by simpa using h2)⟩) ⟨by simpa using l2,λj x y h1 h2=>r2 j x y h1 (by simpa using h2)⟩
 have O2:C.length<=fn.ntmps:=by have:=fU hb.1;rwa [bL]at this
 have pI:fn.ntmps<bC:=fU hb.2;have hf0:=Ay (n:=fn.ntmps) pI O2 nV;have hs0:bh g (aI {s with lo:=s.aJ}) w:=⟨hs.aJ,hs.ai,hs.box,hs.arr,hs.bB,hs.l9⟩;refine callsD_of_wpS hfs hc λI M hcu=>?_
 let st:Bool->L Frame:=λi=>(if i then{I with mode:=UC u}else{I with mode:=u})::M
 have amu:st J=I::M:=by show{I with mode:=u}::M=I::M;rw[<-hcu]
 have amE:abT g {s with lo:=s.aJ} w A st (KS u):=by
  cases A with
  |none=>
   have a:u=.returning:=a;refine⟨λg' s' w' _=>?_,.inl ⟨rfl,?_,?_⟩⟩
   .show aM g' w' (low (.dat (.lit .nilIface))) (KS u);simp only[KS,a];exact .sym _ _ (.lit _)
   .show recoverD ({I with mode:=u}::M)=Y;simp only[recoverD,a]
   .simp only[KS,a]
  |some t=>
   obtain⟨v,a,ht⟩:=a;refine⟨λg' s' w' p=>?_,.inr ⟨rfl,?_⟩⟩
   .show aM g' w' (low t) (KS u);simp only[KS,a];exact(fC.Ho hs p).tr _ _ ht (oe _)
   .show recoverD ({I with mode:=u}::M)=Z (KS u,{I with mode:=UC u}::M);simp only[recoverD,a,KS,UC]
 have hw:=TE hE P R n A f' _ (s0:={s with lo:=s.aJ}) (g0:=g) (w0:=w) (bQ _) (m:=fn.ntmps) (Nat.le_of_lt pI) (st:=st) amE c 0 h2 rfl (fC.refl hs0) hf0;rw[amu]at hw;intro b kk hb' hro;obtain⟨e,a',cs',w',hq,Wv⟩:=hw b kk hb' hro;refine⟨e,a',cs',w',?_,Wv⟩;rcases hq with hF|⟨i,ex,fr',s',g',k0,k1,G,k3,k4,k5⟩
 .exact hF.elim
 have p:=fC.Ho hs k5;dsimp only at G;split at G;rotate_left
 .cases G
 rename_i hdf;have N:a'.defers=[]:=by have:=k4.df;rw[show(bA fr').df=[]from by simp only[bA,hdf,Hx]]at this;generalize a'.defers=m at this;cases this;rfl
 have qq:∃K,cs'={I with mode:=K}::M∧UR g' w' (bif i then Y else A) (settle K):=by
  cases i with
  |false=>
   refine⟨u,k0,?_⟩;cases A with|none=>have a:u=.returning:=a;rw[a];rfl|some t=>obtain⟨v,a,ht⟩:=a;rw[a];exact⟨v,rfl,p.tr _ _ ht (oe _)⟩
  |true=>
   refine⟨UC u,k0,?_⟩;show settle (UC u)=.returning;cases A with|none=>have a:u=.returning:=a;rw[a];rfl|some t=>obtain⟨v,a,ht⟩:=a;rw[a];rfl
 obtain⟨K,hcs,hur⟩:=qq;have fin:(match ki E.T s' fr' fn.results.toList with|some _=>k i {s' with lo:=s.lo}|none=>Y)=Z r->∃v,(results fn a'.tmps).run E.T.E.P w'=.ok v w'∧
   ∃i s' g',k i s'=Z r∧UR g' w' (bif i then Y else A) (settle K)∧cO [] s g w s' g' w':=by
  intro G;split at G;rotate_left
  .cases G
  rename_i l hr;obtain⟨v,hv,_⟩:=wI hE k4 k5.rel hr;exact⟨v,hv,i,_,g',G,hur,p⟩
 cases k1 with
 |pJ=>obtain⟨v,hv,h⟩:=fin G;exact⟨N,K,hcs,v,hv,h⟩
 |ret=>obtain⟨v,hv,h⟩:=fin G;exact⟨N,K,hcs,v,hv,h⟩
 |ext j=>cases G
 |dm t v hv=>cases G
def MN(F:eP E)(i:fX E.T.E.P call)(j:qz E call)(n:Nat){tmps:Array Value}{ω:Type}{k:O (V S)->bq S->O ω}{r:ω}
  (G:∀c s' g' w' u,k c s'=Z r->UR g' w' c u->cO [] s0 g0 w0 s' g' w'->n7 E.T.E.P fn tmps R [] u w'):∀(l:L (Bo S))(c:O (V S))(s:bq S),EX E call n l c s k=Z r->
  ∀(g:Gh)(w:World)(ds:L Deferred)(u:FrameMode),j7 g w (l.map rf) ds->UR g w c u->cO [] s0 g0 w0 s g w->n7 E.T.E.P fn tmps R ds u w:=by
 intro l
 induction l with
 |nil=>intro c s h g w ds u p x a;cases p;exact G c s g w u h x a
 |cons d l C=>
  intro c s h g w ds u p x a;simp only[lT]at p;cases p with
  | @cons _ e _ ds p q=>
  simp only[EX]at h;obtain⟨h1,h⟩:=MO F i j n h a.rel p x;rcases h with⟨b,w',h2,h3,s',y,z,m⟩|⟨H,cap,f,args,h2,h3,h4⟩
  .exact ⟨h1,.inl ⟨b,w',h2,h3,C _ s' y g w' ds u (q.imp (λt v q=>m.tr t v q (oe _)) λo b A=>m.ext.cj o b A) z (a.trans m)⟩⟩
  refine⟨h1,.inr ⟨H,cap,f,args,h2,h3,h4.mono λe I w' B=>?_⟩⟩;cases e with
  |returned v=>obtain⟨K,s',g',y,z,m⟩:=B;refine C _ s' y g' w' ds (settle I) (q.imp (λt v q=>m.tr t v q (oe _)) λo b A=>m.ext.cj o b A) z (a.trans m)
  |panicked M=>exact B.elim
  |outgrown=>exact B.elim
def BS(y:eP E)(d:fX E.T.E.P call)(f:qz E call)(n:Nat){ω:Type}{k kp:V S->bq S->O ω}{r:ω}{ex:xb S}
  (h:WK E call n fn.results.toList k kp ex fr s=Z r) {g:Gh} {w:World} {e:Exit} {a:Act} (z:Qf g w ex e) (hf:cG g (bA fr) a w) (hs:bh g (aI s) w)
  (A:∀t s' g' v w',k t s'=Z r->aM g' w' (low t) v->cO [] s g w s' g' w'->R (.returned v) w')
  (o:∀t s' g' v w',kp t s'=Z r->aM g' w' (low t) v->cO [] s g w s' g' w'->R (.panicked [{v,recovered:=J}]) w'):abO E.T.E.P fn R e a w:=by
 have j:∀(m:O (V S))(u:FrameMode),EX E call n fr.df m s (MM E.T fn.results.toList fr k kp)=Z r->UR g w m u->n7 E.T.E.P fn a.tmps R a.defers u w:=by
  intro m u h c;refine MN y d f n (s0:=s) (g0:=g) (w0:=w) (λm s' g' w' u h c b=>?_) fr.df m s h g w a.defers u hf.df c (cO.refl hs);have p:cG g' (bA fr) a w':=mL (ow:=[]) hf b;cases m with
  |none=>
   have c:u=.returning:=c;subst c;simp only[MM]at h;split at h;rotate_left
   .cases h
   rename_i l B;obtain⟨v,q,x⟩:=wI y p b.rel B;exact⟨v,q,A _ _ g' v w' h x b⟩
  |some t=>obtain⟨v,c,x⟩:=c;subst c;exact o t s' g' v w' h x b
 cases z with
 |pJ=>exact j Y .returning h rfl
 |ret=>exact j Y .returning h rfl
 |ext i=>cases h
 |dm t v q=>exact j (Z t) _ h ⟨v,rfl,q⟩
end
section
def Bv{g:Gh}{w:World}{n:Nat}(hn:n<=bC):∀(ps:L Nat)(args:L (V S))(vs:L Value)(tm:Tr (V S))(tmps:Array Value),(∀k∈ps,k<n)->PW (aM g w) (bn args) vs->cG g (bA {n:=n,tm:=tm}) {tmps:=tmps,defers:=[]} w->
  cG g (bA {n:=n,tm:=Od ps args tm}) {tmps:=(ps.zip vs).foldl (λt p=>t.setIfInBounds p.1 p.2) tmps,defers:=[]} w
 |[],_,_,_,_,_,_,h=>h
 |_::_,[],[],_,_,_,_,h=>h
 |_::_,[],_::_,_,_,_,b,_=>by have:=b.1;simp[bn]at this
 |_::_,_::_,[],_,_,_,b,_=>by have:=b.1;simp[bn]at this
 |k::ps,a::args,v::vs,tm,tmps,d,b,h=>by have e:aM g w (low a) v:=b.2 0 _ _ rfl rfl;have c:PW (aM g w) (bn args) vs:=⟨by have:=b.1;simpa[bn]using this,λj t u h1 h2=>b.2 (j+1) t u (by simpa[bn]using h1) (by simpa using h2)⟩;have f:=rX (dst:=Z k) (fr:={n:=n,tm:=tm}) h (by simp only[ga];exact GA (d k eD)) hn e;exact Bv hn ps args vs _ _ (λj i=>d j (gO _ i)) c f.1
def Sd(ps:Array Tmp)(vs:Array Value)(tmps:Array Value):(ps.zip vs).foldl (λtmps(t,a)=>tmps.setIfInBounds t a) tmps=(ps.toList.zip vs.toList).foldl (λt p=>t.setIfInBounds p.1 p.2) tmps:=by rw[<-Array.foldl_toList,Array.toList_zip]
variable {E:gl S}
def Je(hE:eP E){call:iH S}(u:fX E.T.E.P call)(y:qz E call)(n:Nat){o:Nat}{args:L (V S)}{s:bq S}{ω:Type}{k kp:V S->bq S->O ω}{r:ω}
  (h:Of E call n o args s k=Z r) {g:Gh} {w:World} {vs:Array Value} {b:Nat} (hs:bh g (aI s) w) (nV:PW (aM g w) (bn args) vs.toList) (hb:g.cj o=Z b) :
  ∃l:Loop,w.heap[b]?=Z (.loop l)∧vs.size=l.params.size∧∀rr n,RoundIn (WR rr) n E.T.E.P b l.fn ((l.params.zip vs).foldl (λtmps(t,a)=>tmps.setIfInBounds t a) l.tmps) l.assign l.body w (vU s g w k kp r):=by
 unfold Of at h;split at h;rotate_left
 .cases h
 rename_i l ho;rcases af h with⟨hc,h1⟩|⟨_,h1⟩;rotate_left
 .cases h1
 clear h;simp only[ec,eC]at hc;obtain⟨hrd,hlen,hpar,z,hra,hrb,P⟩:=hc;obtain⟨hst,hpe⟩:=xu hrd;have P:s.fl<=o:=fU P;have z:l.fr.n<=bC:=fU z;have ho0:(aI s).ob.get o=Z (.lp (wN l)):=by rw[bf,ho];rfl
 obtain⟨x,hx,hr⟩:=(hs.box o b hb).2.2 _ ho0;cases hr with
 |lp _ c q1 q2 q4 q5 q6 q8 q9=>
 have hsz:vs.size=c.params.size:=by
  have h1:=beq_iff'.1 hlen;rw[bL,bL]at h1;have h2:=nV.1;rw[eW]at h2;have h3:c.params.toList.length=l.params.length:=by rw[q4];rfl
  simp at h2 h3;omega
 refine⟨c,hx,hsz,λrr n'=>?_⟩;have hf0:cG g (bA {n:=l.fr.n,tm:=l.fr.tm}) {tmps:=c.tmps,defers:=[]} w:=⟨q8,.nil,q9⟩;have hf1:=Bv z l.params args vs.toList l.fr.tm c.tmps (λk hk=>fU (hpar k hk)) nV hf0;rw[Sd,q4];have hs0:bh g (aI {s with lo:=s.aJ}) w:=⟨hs.aJ,hs.ai,hs.box,hs.arr,hs.bB,hs.l9⟩;have q5:c.assign=l.assign:=q5;have q6:c.body=l.body:=q6;rw[q5,q6];refine acB ?_;refine wpIn_mono (rz (rr:=Z b) hE u y n l.fid [] l.assign 0 h1 (λ_=>hra) z (bQ _) hf1 hs0) λe a' w1 hq=>?_;rcases hq with hF|⟨ex,fr1,i,g1,p1,F,p3,p4,f,_⟩
 .exact hF.elim
 cases p1 with
 |ext j=>cases F
 |ret=>cases F
 |dm t v hv=>cases F
 |pJ=>
 simp only[abb]at F;split at F;rotate_left
 .cases F
 rename_i G Tj;rcases af F with⟨amF,R⟩|⟨_,R⟩;rotate_left
 .cases R
 clear F;obtain⟨A,H⟩:=xu amF;have C:=f.ext.cj _ _ hb;have I:(aI i).ob.get o=Z (.lp (wN G)):=by rw[bf,Tj];rfl
 obtain⟨x1,hx1,hr1⟩:=(f.rel.box o b C).2.2 _ I;cases hr1 with
 |lp _ L1 a1 a2 a4 a5 a6 a8 a9=>
 have K:i.fl<=o:=by rw[f.fl];exact P
 obtain⟨hs2,he2⟩:=f.rel.setObj (w':=w1.putObj b (.loop {L1 with state:=.busy})) C I rfl K (x':=.loop {L1 with state:=.busy}) (Yu:=.lp (wN {G with st:=.busy})) (.lp _ _ rfl a2 a4 a5 a6 a8 a9)
  World.putObj_size (λb' X=>World.putObj_heap_other X) (World.putObj_heap_same (f.rel.box o b C).2.1) rfl rfl
 have ahb:aI {i with ob:=i.ob.set aL o (.lp {G with st:=.busy})}={aI i with ob:=(aI i).ob.set aL o (cQ (.lp {G with st:=.busy}))}:=ff i _ _ i.wr;have amw:bh g1 (aI {i with ob:=i.ob.set aL o (.lp {G with st:=.busy})}) (w1.putObj b (.loop {L1 with state:=.busy})):=by rw[ahb];exact hs2
 refine⟨_,run_beginRound hx1 (by rw[a1];exact A),?_⟩;have ane:i.lo<=i.aJ:=by rw[f.lo];exact f.aJ
 refine wpIn_mono (rz (rr:=Z b) hE u y n l.fid [] l.body 0 R (λ_=>hrb) (by rw[p3];exact z) ane (p4.ext he2 f.rel.bB) amw) λe a2 w2 hq=>?_;rcases hq with hF|⟨ex,NZ,q,g2,c1,c2,c3,c4,p,_⟩
 .exact hF.elim
 cases c1 with
 |ext j=>cases c2
 |ret=>cases c2
 |dm t v hv=>cases c2
 |pJ=>
 simp only[abc]at c2;split at c2;rotate_left
 .cases c2
 rename_i l2 ho2;have pI:=p.ext.cj _ _ C;have M:(aI q).ob.get o=Z (.lp (wN l2)):=by rw[bf,ho2];rfl
 obtain⟨x2,hx2,hr2⟩:=(p.rel.box o b pI).2.2 _ M;cases hr2 with
 |lp _ L2 d1 d2 d4 d5 d6 d8 d9=>
 have Wo:q.fl<=o:=by rw[p.fl];exact K
 obtain⟨OT,Ic⟩:=p.rel.setObj (w':=w2.putObj b (.loop {L2 with state:=.ready,pending:=Y})) pI M rfl Wo (x':=.loop {L2 with state:=.ready,pending:=Y}) (Yu:=.lp (wN {l2 with st:=.ready,tI:=Y})) (.lp _ _ rfl rfl d4 d5 d6 d8 d9)
  World.putObj_size (λb' X=>World.putObj_heap_other X) (World.putObj_heap_same (p.rel.box o b pI).2.1) rfl rfl
 have aha:aI {q with ob:=q.ob.set aL o (.lp {l2 with st:=.ready,tI:=Y})}={aI q with ob:=(aI q).ob.set aL o (cQ (.lp {l2 with st:=.ready,tI:=Y}))}:=ff q _ _ q.wr;have hall:fC {s with lo:=s.aJ} g w {q with ob:=q.ob.set aL o (.lp {l2 with st:=.ready,tI:=Y})} g2 (w2.putObj b (.loop {L2 with state:=.ready,pending:=Y})):=by
  have e1:pL s.aJ s.fl g1 w1 g1 (w1.putObj b (.loop {L1 with state:=.busy})):=by have:=he2.Ho s.aJ;rw[show(aI i).fl=s.fl from f.fl]at this;exact this
  have e2:pL s.aJ s.fl g1 (w1.putObj b (.loop {L1 with state:=.busy})) g2 w2:=by have:=p.ext;rw[show i.lo=s.aJ from f.lo,show i.fl=s.fl from f.fl]at this;exact this
  have e3:pL s.aJ s.fl g2 w2 g2 (w2.putObj b (.loop {L2 with state:=.ready,pending:=Y})):=by have:=Ic.Ho s.aJ;rw[show(aI q).fl=s.fl from p.fl.trans f.fl]at this;exact this
  refine⟨by rw[aha];exact OT,((f.ext.trans e1).trans e2).trans e3,p.fl.trans f.fl,p.lo.trans f.lo,fJ f.aJ p.aJ,λj hj=>p.vo j (f.vo j hj),λj hj hno=>?_,λj hj=>p.GO j (f.GO j hj)⟩;have am1:j∉i.wr:=λhm=>hno (p.vo j hm);have k1:=f.same j hj am1;have k2:=p.same j (dB hj f.aJ) hno;have N:o<bC:=dB (hs.lt hb) hs.aJ;show(q.ob.set aL o _).get j=s.ob.get j;rw[Tr.aZ _ _ _ _ N];have m:q.ob.get j=(i.ob.set aL o (.lp {G with st:=.busy})).get j:=k2;rw[Tr.aZ _ _ _ _ N]at m;by_cases e:j=o
  .subst e;rw[bJ rfl]at m ⊢;rw[ho2]at m;rw[Tj]at k1;have k1:Z (wv.lp G)=s.ob.get j:=k1;rw[ho]at k1;simp only[bg,wv.lp.injEq]at k1 m;subst k1;subst m;rw[ho];obtain⟨st,pe,fid,fr,par,asg,bd⟩:=G;simp only at A H;subst A;subst H;rfl
  .rw[br e]at m ⊢;exact m.trans k1
 exact⟨.bool W,_,run_endRound Y hx2,.kb W,_,g2,c2,.kb W,fC.Ho hs hall⟩
def Nc(u:eP E)(a:∀call:iH S,fX E.T.E.P call->qz E call)(n:Nat):∀d,fX E.T.E.P (Nd E n d):=by
 intro d
 induction d with
 |zero=>exact⟨λf args s ω k B r h=>(by cases h),λo args s ω k B r h=>(by cases h)⟩
 |succ d q=>
  refine⟨λf args s ω k B r h g w P m p=>?_,λo args s ω k B r h g w P b m p x=>Je u q (a _ q) n h m p x⟩;simp only[Nd,abN]at h;split at h
  .cases h
  .rename_i fn y;split at h
   .cases h
   .rename_i c M;have z:=u.Uo.Ur _ _ y;refine⟨⟨fn,z,by rw[M];rfl,u.name _ _ y⟩,?_⟩;rcases af h with⟨x,h⟩|⟨_,h⟩
    .rw[Am]at x;have C:args.length<=fn.ntmps:=by have:=fU x.1;rwa [bL]at this
     have A:fn.ntmps<bC:=fU x.2;have F:=Ay (n:=fn.ntmps) A C p;have G:bh g (aI {s with lo:=s.aJ}) w:=⟨m.aJ,m.ai,m.box,m.arr,m.bB,m.l9⟩;refine wT z M (wpIn_mono (rz u q (a _ q) n f _ c 0 h (λh=>absurd rfl h) (Nat.le_of_lt A) (bQ _) F G) λe a' X hq=>?_);rcases hq with hF|⟨ex,fr',s',g',h1,h2,h3,h4,h5,h6⟩
     .exact hF.elim
     .have N:=fC.Ho m h5;have lo:∀{j:bq S}{i:Gh}{l:World},cO [] s' g' X j i l->cO [] s g w {j with lo:=s.lo} i l:=λ{j i l}k=>
       fC.Ho m (h5.trans k.toW)
      exact BS u q (a _ q) n (R:=vU s g w k B r) h2 h1 h4 h5.rel (λt j i v l H I K=>⟨t,_,i,H,I,lo K⟩) (λt j i v l H I K=>⟨v,t,_,i,rfl,H,I,lo K⟩)
    .cases h
end
section
def oS:∀(ps:L Pk)(b:Nat)(s:bq S)(x:fZ S.A ps),s.aJ<=(so b s ps x).2.aJ
 |[],_,_,_=>bQ _
 | .one c::ps,b,s,x=>fJ (Qv s c x.1) (oS ps b _ x.2)
 | .box k::ps,b,s,x=>fJ (CG k s (Z (Nat.succ b)) x.1) (oS ps (Nat.succ b) {(gJ s (Z (Nat.succ b)) k x.1).2 with ob:=(gJ s (Z (Nat.succ b)) k x.1).2.ob.set aL b (gJ s (Z (Nat.succ b)) k x.1).1} x.2)
 | .hid k::ps,b,s,x=>fJ (CG k s (Z (Nat.succ b)) x.1) (oS ps (Nat.succ b) {(gJ s (Z (Nat.succ b)) k x.1).2 with ob:=(gJ s (Z (Nat.succ b)) k x.1).2.ob.set aL b (gJ s (Z (Nat.succ b)) k x.1).1} x.2)
structure InR(g:Gh)(s:bq S)(w:World)(al:List fE)(g':Gh)(s':bq S):Prop where
 rel:bh g' (aI s') w
 le:n8 g g'
 bB:g'.bB=g.bB
 own:∀k b,bN g' k b->bN g k b∨∃a∈al,a.at b
 fl:s'.fl=s.fl
 lo:s'.lo=s.lo
 aJ:s.aJ<=s'.aJ
 cj:g'.cj=g.cj
 arr:∀o,o<s.aJ->∀e,g'.arr o e=g.arr o e
variable {w:World}{g:Gh}{s:bq S}{I:Nat->Prop}{ps:List Pk}{al:List fE}{bl:List Nat}{rs:List Ck}{E:gl S}{f:FuncId}
def OQ:∀{ps:L Pk}{x:fZ S.A ps}{vals:L Value}{al:L fE}{bl:L Nat}{b:Nat}{g:Gh}{s:bq S},pg S g.bB w ps x vals al bl->bh g (aI s) w->(∀j cj,bl[j]?=Z cj->g.cj (b+j)=Z cj)->
  (∀j,j<bl.length->b+j<s.aJ∧∀e,g.arr (b+j) e=Y)->(∀a∈al,∀b,a.at b->∀o,¬bN g o b)->vk al->(so b s ps x).2.aJ<=bC->
  ∃g',InR g s w al g' (so b s ps x).2∧PW (aM g' w) (bn (so b s ps x).1) vals:=by
 intro ps
 induction ps with
 |nil=>intro x vals al bl b g s hp hs _ _ _ _ _;cases hp;exact⟨g,⟨hs,n8.refl _,rfl,λ_ _ h=>.inl h,rfl,rfl,bQ _,rfl,λ_ _ _=>rfl⟩,⟨rfl,λj t v h=>by simp[so,bn]at h⟩⟩
 |cons p ps ih=>
  intro x vals al bl b g s hp hs q u z X hn;cases hp with
  | @one c _ f xr v vs zR z9 bl h1 h2=>
   have l:=rV.1 X;have B:(tQ s c f).2.aJ<=bC:=fJ (oS ps b _ xr) hn;obtain⟨N,d,nV⟩:=mb (cs:=[c]) (x:=(f,())) h1 hs (λa y=>z a (eL _ y)) l.1 (by simpa[gP]using B);have e1:(gP s [c] (f,())).1=[(tQ s c f).1]:=rfl;have e2:(gP s [c] (f,())).2=(tQ s c f).2:=rfl;rw[e1]at nV;rw[e2]at d;have ZR:aM N w (low (tQ s c f).1) v:=nV.2 0 _ _ rfl rfl;obtain⟨g2,m,k2⟩:=ih (b:=b) (g:=N) (s:=(tQ s c f).2) (d.bB▸h2) d.rel (λj cj h=>by rw[d.cj];exact q j cj h) (λj hj=>⟨dB (u j hj).1 d.aJ,λe=>by rw[d.arr _ (u j hj).1];exact(u j hj).2 e⟩)
    (λa y b P o n=>by
     rcases d.own o b n with n|⟨_,a2,C,E⟩
     .exact z a (iX _ y) b P o n
     .exact l.2.2 a2 C a y b E P) l.2.1 hn
   refine⟨g2,⟨m.rel,d.le.trans m.le,m.bB.trans d.bB,λk A n=>?_,m.fl.trans d.fl,m.lo.trans d.lo,fJ d.aJ m.aJ,m.cj.trans d.cj,λo R e=>(m.arr o (dB R d.aJ) e).trans (d.arr o R e)⟩,⟨by simp only[so,bn,eV];rw[k2.1],λj t v' q1 r=>?_⟩⟩
   .rcases m.own k A n with n|⟨F,r,G⟩
    .rcases d.own k A n with n|⟨_,F,r,G⟩
     .exact .inl n
     .exact .inr ⟨F,eL _ r,G⟩
    .exact .inr ⟨F,iX _ r,G⟩
   .cases j with|zero=>simp[so,bn]at q1 r;subst q1;subst r;exact ZR.le m.le|succ j=>exact k2.2 j t v' (by simpa[so,bn]using q1) (by simpa using r)
  | @box i _ f xr b0 hx vs zR z9 bl hh h1 h2=>
   have l:=rV.1 X;have B:(gJ s (Z (Nat.succ b)) i f).2.aJ<=bC:=fJ (oS ps (Nat.succ b) {(gJ s (Z (Nat.succ b)) i f).2 with ob:=(gJ s (Z (Nat.succ b)) i f).2.ob.set aL b (gJ s (Z (Nat.succ b)) i f).1} xr) hn;obtain⟨N,d,H⟩:=n9 h1 (λA I=>⟨_,rfl,by cases bl with|nil=>cases I|cons c' Nk=>(cases I;exact q 1 A rfl)⟩) hs (λa y=>z a (eL _ y)) l.1 B;have K:=u 0 (by simp);have M:g.cj b=Z b0:=q 0 b0 rfl;have hk:=d.rel.sk (o:=b) (b:=b0) (by rw[d.cj];exact M) hh H (λe=>by rw[d.arr b (by simpa using K.1)];exact K.2 e);have hk2:bh N (aI {(gJ s (Z (Nat.succ b)) i f).2 with ob:=(gJ s (Z (Nat.succ b)) i f).2.ob.set aL b (gJ s (Z (Nat.succ b)) i f).1}) w:=by have:=ff (gJ s (Z (Nat.succ b)) i f).2 b (gJ s (Z (Nat.succ b)) i f).1 (gJ s (Z (Nat.succ b)) i f).2.wr;rw[show({(gJ s (Z (Nat.succ b)) i f).2 with ob:=(gJ s (Z (Nat.succ b)) i f).2.ob.set aL b (gJ s (Z (Nat.succ b)) i f).1}:bq S)={(gJ s (Z (Nat.succ b)) i f).2 with ob:=(gJ s (Z (Nat.succ b)) i f).2.ob.set aL b (gJ s (Z (Nat.succ b)) i f).1,wr:=(gJ s (Z (Nat.succ b)) i f).2.wr}from rfl,this];exact hk
   obtain⟨g2,m,k2⟩:=ih (b:=Nat.succ b) (g:=N) (s:={(gJ s (Z (Nat.succ b)) i f).2 with ob:=(gJ s (Z (Nat.succ b)) i f).2.ob.set aL b (gJ s (Z (Nat.succ b)) i f).1}) (d.bB▸h2) hk2
    (λj cj h=>by rw[d.cj];have:=q (j+1) cj (by simpa using h);rwa [show b+(j+1)=Nat.succ b+j by omega]at this)
    (λj hj=>by
     have:=u (j+1) (by simp;omega);rw[show b+(j+1)=Nat.succ b+j by omega]at this;exact⟨dB this.1 d.aJ,λe=>by rw[d.arr _ this.1];exact this.2 e⟩)
    (λa y b P o n=>by
     rcases d.own o b n with n|⟨_,a2,C,E⟩
     .exact z a (iX _ y) b P o n
     .exact l.2.2 a2 C a y b E P) l.2.1 hn
   refine⟨g2,⟨m.rel,d.le.trans m.le,m.bB.trans d.bB,λk A n=>?_,m.fl.trans d.fl,m.lo.trans d.lo,fJ d.aJ m.aJ,m.cj.trans d.cj,λo R e=>(m.arr o (dB R d.aJ) e).trans (d.arr o R e)⟩,⟨by simp only[so,bn,eV];rw[k2.1],λj t v' q1 r=>?_⟩⟩
   .rcases m.own k A n with n|⟨F,r,G⟩
    .rcases d.own k A n with n|⟨_,F,r,G⟩
     .exact .inl n
     .exact .inr ⟨F,eL _ r,G⟩
    .exact .inr ⟨F,iX _ r,G⟩
   .cases j with|zero=>simp only[so,bn,qO,bg]at q1 r;subst q1;subst r;exact Mp (by rw[m.cj,d.cj];exact M)|succ j=>exact k2.2 j t v' (by simpa[so,bn]using q1) (by simpa using r)
  | @hid i _ f xr b0 hx vs zR z9 bl hh h1 h2=>
   have l:=rV.1 X;have B:(gJ s (Z (Nat.succ b)) i f).2.aJ<=bC:=fJ (oS ps (Nat.succ b) {(gJ s (Z (Nat.succ b)) i f).2 with ob:=(gJ s (Z (Nat.succ b)) i f).2.ob.set aL b (gJ s (Z (Nat.succ b)) i f).1} xr) hn;obtain⟨N,d,H⟩:=n9 h1 (λA I=>⟨_,rfl,by cases bl with|nil=>cases I|cons c' Nk=>(cases I;exact q 1 A rfl)⟩) hs (λa y=>z a (eL _ y)) l.1 B;have K:=u 0 (by simp);have M:g.cj b=Z b0:=q 0 b0 rfl;have hk:=d.rel.sk (o:=b) (b:=b0) (by rw[d.cj];exact M) hh H (λe=>by rw[d.arr b (by simpa using K.1)];exact K.2 e);have hk2:bh N (aI {(gJ s (Z (Nat.succ b)) i f).2 with ob:=(gJ s (Z (Nat.succ b)) i f).2.ob.set aL b (gJ s (Z (Nat.succ b)) i f).1}) w:=by have:=ff (gJ s (Z (Nat.succ b)) i f).2 b (gJ s (Z (Nat.succ b)) i f).1 (gJ s (Z (Nat.succ b)) i f).2.wr;rw[show({(gJ s (Z (Nat.succ b)) i f).2 with ob:=(gJ s (Z (Nat.succ b)) i f).2.ob.set aL b (gJ s (Z (Nat.succ b)) i f).1}:bq S)={(gJ s (Z (Nat.succ b)) i f).2 with ob:=(gJ s (Z (Nat.succ b)) i f).2.ob.set aL b (gJ s (Z (Nat.succ b)) i f).1,wr:=(gJ s (Z (Nat.succ b)) i f).2.wr}from rfl,this];exact hk
   obtain⟨g2,m,k2⟩:=ih (b:=Nat.succ b) (g:=N) (s:={(gJ s (Z (Nat.succ b)) i f).2 with ob:=(gJ s (Z (Nat.succ b)) i f).2.ob.set aL b (gJ s (Z (Nat.succ b)) i f).1}) (d.bB▸h2) hk2
    (λj cj h=>by rw[d.cj];have:=q (j+1) cj (by simpa using h);rwa [show b+(j+1)=Nat.succ b+j by omega]at this)
    (λj hj=>by
     have:=u (j+1) (by simp;omega);rw[show b+(j+1)=Nat.succ b+j by omega]at this;exact⟨dB this.1 d.aJ,λe=>by rw[d.arr _ this.1];exact this.2 e⟩)
    (λa y b P o n=>by
     rcases d.own o b n with n|⟨_,a2,C,E⟩
     .exact z a (iX _ y) b P o n
     .exact l.2.2 a2 C a y b E P) l.2.1 hn
   refine⟨g2,⟨m.rel,d.le.trans m.le,m.bB.trans d.bB,λk A n=>?_,m.fl.trans d.fl,m.lo.trans d.lo,fJ d.aJ m.aJ,m.cj.trans d.cj,λo R e=>(m.arr o (dB R d.aJ) e).trans (d.arr o R e)⟩,k2⟩
   .rcases m.own k A n with n|⟨F,r,G⟩
    .rcases d.own k A n with n|⟨_,F,r,G⟩
     .exact .inl n
     .exact .inr ⟨F,eL _ r,G⟩
    .exact .inr ⟨F,iX _ r,G⟩
def nR(E:fB S){g:Gh}{w:World}{s:bq S}(hs:bh g (aI s) w):∀{ps:L Pk}{b:Nat}{x:iJ S.A ps}{fz ow bl:L Nat},r7 s b ps=Z (x,fz,ow)->(∀j cj,bl[j]?=Z cj->g.cj (b+j)=Z cj)->bl.length=ew ps->
  (∀o∈fz,Live g (aI s) o)∧(∀o∈ow,s.fl<=o∧s.lo<=o∧o<s.aJ∧∃ob,s.ob.get o=Z ob∧PB ob=W)∧∀(u:Gh)(v:St)(q:L Nat),bh u v w->Ext s.fl g w u w->jJ (aI s) v q->(∀o∈fz,o∈q)->(∀o∈ow,v.ob.get o=(aI s).ob.get o)->
   ∃al,CF S u.bB w ps x bl al∧AL u al ow
 |[],b,x,fz,ow,bl,h,_,i=>by
  simp only[r7,bg,bD]at h;obtain⟨_,rfl,rfl⟩:=h
  match bl,i with
  |[],_=>exact⟨λo l=>(by cases l),λo l=>(by cases l),λ_ _ _ _ _ _ _ _=>⟨[],.nil,.nil⟩⟩
  |_::_,i=>exact absurd i (by simp[ew])
 | .one c::ps,b,x,fz,ow,bl,h,m,i=>by simp only[r7]at h;obtain⟨F,G,H⟩:=nR E hs h m (by simpa[ew]using i);refine⟨F,G,λu v q a b c d e=>?_⟩;obtain⟨al,I,K⟩:=H u v q a b c d e;exact⟨al,.one I,K⟩
 | .box k::ps,b,x,fz,ow,bl,h,m,i=>by
  match bl,i with
  |[],i=>exact absurd i (by simp[ew])
  |b0::bl,i=>
  simp only[r7]at h;split at h;rotate_left
  .cases h
  rename_i x1 a1 b1 nx h1 a2 b2 M R;rcases af h with⟨A,h⟩|⟨_,h⟩;rotate_left
  .cases h
  rw[Am]at A;simp only[bg,bD]at h;obtain⟨rfl,rfl,rfl⟩:=h;have y:g.cj b=Z b0:=m 0 b0 rfl;have n:∀j cj,bl[j]?=Z cj->g.cj (Nat.succ b+j)=Z cj:=λj cj h=>by have:=m (j+1) cj (by simpa using h);rwa [show b+(j+1)=Nat.succ b+j by omega]at this
  have f:bl.length=ew ps:=by simpa[ew]using i
  obtain⟨_,hx,X,F,G,H⟩:=pP E hs y M;obtain⟨_,B⟩:=yW hs y M;obtain⟨q1,q2,q3⟩:=nR E hs R n f;refine⟨λo l=>(ef.1 l).elim (F o) (q1 o),λo l=>(ef.1 l).elim (G o) (q2 o),λu v q z C N r p=>?_⟩;obtain⟨zR,I,K⟩:=H u v q z C N (λo l=>r o (eL _ l)) (λo l=>p o (eL _ l)) (dK bl) (λP t=>by
   subst t;obtain⟨pre,post,rfl⟩:=B P rfl;have t:P=Nat.succ b:=nN A.1;subst t
   match ps,A.2,f with
   | .hid k'::ps,_,f=>
    match bl,f with
    |c::bl,_=>exact⟨c,rfl,C.cj _ _ (n 0 c rfl)⟩
    |[],f=>exact absurd f (by simp[ew]))
  obtain⟨z9,k3,k4⟩:=q3 u v q z C N (λo l=>r o (iX _ l)) (λo l=>p o (iX _ l));exact⟨_,.box X I k3,K.append k4⟩
 | .hid k::ps,b,x,fz,ow,bl,h,m,i=>by
  match bl,i with
  |[],i=>exact absurd i (by simp[ew])
  |b0::bl,i=>
  simp only[r7]at h;split at h;rotate_left
  .cases h
  rename_i x1 a1 b1 nx h1 a2 b2 M R;rcases af h with⟨A,h⟩|⟨_,h⟩;rotate_left
  .cases h
  rw[Am]at A;simp only[bg,bD]at h;obtain⟨rfl,rfl,rfl⟩:=h;have y:g.cj b=Z b0:=m 0 b0 rfl;have n:∀j cj,bl[j]?=Z cj->g.cj (Nat.succ b+j)=Z cj:=λj cj h=>by have:=m (j+1) cj (by simpa using h);rwa [show b+(j+1)=Nat.succ b+j by omega]at this
  have f:bl.length=ew ps:=by simpa[ew]using i
  obtain⟨_,hx,X,F,G,H⟩:=pP E hs y M;obtain⟨_,B⟩:=yW hs y M;obtain⟨q1,q2,q3⟩:=nR E hs R n f;refine⟨λo l=>(ef.1 l).elim (F o) (q1 o),λo l=>(ef.1 l).elim (G o) (q2 o),λu v q z C N r p=>?_⟩;obtain⟨zR,I,K⟩:=H u v q z C N (λo l=>r o (eL _ l)) (λo l=>p o (eL _ l)) (dK bl) (λP t=>by
   subst t;obtain⟨pre,post,rfl⟩:=B P rfl;have t:P=Nat.succ b:=nN A.1;subst t
   match ps,A.2,f with
   | .hid k'::ps,_,f=>
    match bl,f with
    |c::bl,_=>exact⟨c,rfl,C.cj _ _ (n 0 c rfl)⟩
    |[],f=>exact absurd f (by simp[ew]))
  obtain⟨z9,k3,k4⟩:=q3 u v q z C N (λo l=>r o (iX _ l)) (λo l=>p o (iX _ l));exact⟨_,.hid X I k3,K.append k4⟩
def CF.iO{I:Nat->Prop}{w:World}{ps:L Pk}{x:iJ S.A ps}{al:L fE}{bl:L Nat}(h:CF S I w ps x bl al):∀a∈al,∀b,a.at b->¬I b:=by
 induction h with
 |nil=>intro a c;cases c
 |one _ d=>exact d
 |box f h1 h2 d=>
  intro a c b e;rcases ef.1 c with c|c
  .exact h1.iO a c b e
  .exact d a c b e
 |hid f h1 h2 d=>
  intro a c b e;rcases ef.1 c with c|c
  .exact h1.iO a c b e
  .exact d a c b e
def Pv{x:fZ S.A ps}{vs:L Value}(h:pg S I w ps x vs al bl):ew ps=bl.length:=by
 induction h with|nil=>rfl|one _ _ a=>exact a|box _ _ _ a=>simp only[ew,eV,a]|hid _ _ _ a=>simp only[ew,eV,a]
def Og{v:V S}{val:Value}(f:aM g w (low v) val){x:gA S.A rs}{fz ow:L Nat}(h:gQ s rs (YS rs v)=Z (x,fz,ow)):∃vals,val=valOf vals∧PW (aM g w) (bn (YS rs v)) vals:=by
 have one:∀{l:L (V S)},l=[v]->rs.length=1->∃vals,val=valOf vals∧PW (aM g w) (bn l) vals:=by
  rintro l rfl _
  refine⟨[val],rfl,rfl,λj t u h1 h2=>?_⟩;cases j with|zero=>simp[bn]at h1 h2;subst h1;subst h2;exact f|succ j=>simp[bn]at h1
 have d:∀{b:L Ck}{l:L (V S)}{x:gA S.A b}{fz ow:L Nat},gQ s b l=Z (x,fz,ow)->b.length=l.length:=by
  intro b
  induction b with
  |nil=>intro l x fz ow h;cases l with|nil=>rfl|cons=>simp[gQ]at h
  |cons c b o=>intro l x fz ow h;cases l with
   |nil=>simp[gQ]at h
   |cons v l=>
    simp only[gQ]at h;split at h
    .rename_i p;simp[o p]
    .cases h
 have a:=d h;unfold YS at a h ⊢;split at h
 .exact one rfl rfl
 .rename_i l i;simp only at a;simp only[low]at f;cases f with
  |gB _ m n q=>
   refine⟨m.toList,?_,by simpa using n,λj t v h1 h2=>q j t v h1 (by simpa using h2)⟩;have e:m.toList.length≠1:=by
    intro h1;have h2:(bn l).length=1:=by rw[n];simpa using h1
    rw[eW]at h2;rw[h2]at a;obtain⟨c,r⟩:=LK.1 a;exact i c r
   unfold valOf;split
   .rename_i y k;rw[k]at e;exact absurd rfl e
   .rfl
 .simp only[eV,xy,js]at a;exact one rfl a
def gh0(I:Nat->Prop)(bl:L Nat):Gh:=⟨λo=>bl[o]?,λ_ _=>Y,I⟩
def vM{o b:Nat}(h:bN (gh0 I bl) o b):bl[o]?=Z b:=by
 obtain⟨_,h|⟨e,x,a,h,_⟩⟩:=h
 .exact h
 .cases h
def aae(g:∀b,I b->b<w.heap.size)(d:bl.Nodup)(a:∀b∈bl,b<w.heap.size∧¬I b)(hn:bl.length<=bC) :
  bh (gh0 I bl) (aI (⟨.nil,bl.length,0,bl.length,[],[]⟩:bq S)) w:=by
 refine⟨hn,λo i=>⟨?_,λe=>rfl⟩,λo b h=>?_,λo e x h=>?_,g,λo l b h j=>?_⟩
 .show bl[o]?=Y;exact GB i
 .have h:bl[o]?=Z b:=h;have f:=g8 h;refine⟨(a b f).2,(a b f).1,λob c=>?_⟩;rw[bf]at c;simp[Tr.get_nil]at c
 .cases h
 .have h1:=vM h;have h2:=vM j;have k:o<bl.length:=by
   rcases yQ o bl.length with h|h
   .exact h
   .rw[GB h]at h1;cases h1
  exact(List.getElem?_inj k d).1 (h1.trans h2.symm)
def TF{n d:Nat}{x:fZ S.A ps}{r:RT E.pn (gA S.A rs×iJ S.A ps) (den S.A S.pt×iJ S.A ps)}(h:EW E n d f ps rs x=Z r) :
  (so 0 ⟨.nil,ew ps,0,ew ps,[],[]⟩ ps x).2.aJ<=bC∧Xh E n d f (so 0 ⟨.nil,ew ps,0,ew ps,[],[]⟩ ps x).1 (so 0 ⟨.nil,ew ps,0,ew ps,[],[]⟩ ps x).2 (adZ E.pn rs ps) (adY E.pn rs ps)=Z r:=by
 unfold EW at h;dsimp only at h;rcases af h with⟨_,h⟩|⟨a,h⟩
 .cases h
 .refine ⟨fU (by simpa using a),?_⟩;exact h
def RT.Zf{R P:Type}:∀{a:Bool}{p:P}{r:RT a R P},RT.dm a p=Z r->RT.res a r=.dm p
 |false,_,_,h=>by cases h
 |true,_,_,h=>by cases h;rfl
def Fg(hE:eP E)(z:∀call:iH S,fX E.T.E.P call->qz E call){fn:Func}{c:Code}(hfn:E.T.E.Ur f=Z fn)(hc:fn.body=Z c)(n d:Nat)(ps:L Pk)(rs:L Ck) :
  bz E.T.E.P f ⟨ps,rs,E.pn,EW E n d f ps rs⟩:=by
 have hfs:=hE.Uo.Ur _ _ hfn;refine⟨⟨fn,hfs,by rw[hc];rfl,hE.name _ _ hfn⟩,λx r h I w vs al bl hp hI hap hnd Uq=>?_⟩;dsimp only at x r h hp;obtain⟨F,h⟩:=TF h;have hlen:=Pv hp;have m:=oS ps 0 (⟨.nil,ew ps,0,ew ps,[],[]⟩:bq S) x;have hn0:ew ps<=bC:=fJ m F;have amz:bh (gh0 I bl) (aI (⟨.nil,ew ps,0,ew ps,[],[]⟩:bq S)) w:=by have:=aae (S:=S) (w:=w) hI hnd (λb i=>⟨(Uq b i).1,(Uq b i).2.1⟩) (by omega);rwa [hlen]
 obtain⟨g0,M,nV⟩:=OQ (b:=0) (g:=gh0 I bl) hp amz (λj cj h=>by rw[js];exact h) (λj hj=>⟨by simp;omega,λe=>rfl⟩)
  (λa A b i o k=>(Uq b (g8 (vM k))).2.2 a A i) hap F
 generalize so 0 ⟨.nil,ew ps,0,ew ps,[],[]⟩ ps x=q at h F M nV m;obtain⟨args,s0⟩:=q;dsimp only at h F M nV m;have adI:s0.fl=0:=M.fl;have ahc:s0.lo=ew ps:=M.lo;simp only[Xh,hfn,hc]at h;rcases af h with⟨i,h⟩|⟨_,h⟩;rotate_left
 .cases h
 rw[Am]at i;have O2:args.length<=fn.ntmps:=by have:=fU i.1;rwa [bL]at this
 have pI:fn.ntmps<bC:=fU i.2;have hf0:=Ay (n:=fn.ntmps) pI O2 nV;have p:=Nc hE z n d;have core:∀(s':bq S)(g':Gh)(w':World),fC s0 g0 w s' g' w'->∀(rs:L Ck)(t:V S)(v:Value)(X:gA S.A rs×iJ S.A ps),aam rs ps t s'=Z X->aM g' w' (low t) v->Dg S I w ps rs X al bl v w':=by
  intro s' g' w' h5 rs t v r h2 ht;unfold aam at h2;split at h2;rotate_left
  .cases h2
  rename_i X fz ow b1 fz' ow' e1 e2;split at h2;rotate_left
  .cases h2
  rename_i s1 e3;rcases af h2 with⟨i,h2⟩|⟨_,h2⟩;rotate_left
  .cases h2
  simp only[bg]at h2;subst h2;rw[Am]at i;have adv:=mh i.1;have anC:=xY i.2;obtain⟨vals,rfl,agQ⟩:=Og ht e1;have aht:∀j cj,bl[j]?=Z cj->g'.cj (0+j)=Z cj:=λj cj h=>h5.ext.cj _ _ (by rw[M.cj,js];exact h);obtain⟨p1,p2,p3⟩:=gx hE.sg h5.rel e1 agQ;obtain⟨q1,q2,q3⟩:=nR hE.sg h5.rel e2 aht hlen.symm;have hfr:=dc hE.sg _ e3;obtain⟨g1,l,G,hfz⟩:=ey (fz++fz') h5.rel hfr (λo B=>(ef.1 B).elim (p1 o) (q1 o));obtain⟨f1,f2,f3,f4,f5,f6,f7⟩:=eB e3;have N:∀o∈ow++ow',(aI s1).ob.get o=(aI s').ob.get o:=λo B=>by rw[bf,bf,f6 o (anC o B)]
  obtain⟨z9,H,k2⟩:=p3 g1 (aI s1) (fz++fz') l G hfz (λo B=>eL _ B) (λo B=>N o (eL _ B));obtain⟨zR,k3,k4⟩:=q3 g1 (aI s1) (fz++fz') l G hfz (λo B=>iX _ B) (λo B=>N o (iX _ B));have am2:=H.iO;have am3:=k3.iO;have hmem:∀a∈zR++z9,a∈z9++zR:=λa A=>ef.2 ((ef.1 A).symm);have hni:∀a∈z9++zR,∀b,a.at b->¬g1.bB b:=λa A=>(ef.1 A).elim (am2 a) (am3 a);have hAL:=k2.append k4;have hown:=hAL.owned hni;have s:=hAL.apart l adv hni;have hfl':s'.fl=0:=h5.fl.trans adI;have Z1:s'.lo=ew ps:=h5.lo.trans ahc;have ag4:∀o b,bN g1 o b->(b∈bl∨∃a∈al,a.at b)∨w.heap.size<=b:=by
   intro o b k;rcases G.own o b k with k|hge
   .rcases h5.ext.own o b (by omega) k with⟨K,_,P⟩|hge
    .rcases M.own K b P with P|⟨a,A,C⟩
     .exact .inl (.inl (g8 (vM P)))
     .exact .inl (.inr ⟨a,A,C⟩)
    .exact .inr hge
   .have:=h5.ext.size;exact .inr (by omega)
  have u:∀b∈bl,∃o,o<ew ps∧g1.cj o=Z b:=by intro b i;obtain⟨j,hj,rfl⟩:=tF i;exact⟨0+j,by omega,G.cj _ _ (aht j _ (fN hj))⟩
  refine⟨g1.bB,vals,zR,z9,λb i=>G.bB b (h5.ext.bB b (M.bB▸i)),λb i=>?_,l.bB,h5.ext.size,λb i F hna=>?_,h5.ext.os,h5.ext.output,rfl,k3,H,?_,λa A b C=>?_,λb i=>⟨?_,λa A C=>?_⟩⟩
  .have h0:∀o,bN g0 o b->I b∨w.heap.size<=b∨∃a∈al,a.at b:=λo k=>by
    rcases M.own o b k with k|h
    .obtain ⟨K,_,y⟩:=u b (g8 (vM k));exact absurd i (l.box K b y).1
    .exact .inr (.inr h)
   rcases G.uq b i with i|i|⟨o,_,k⟩
   .rcases h5.ext.uq b i with i|i|⟨o,_,k⟩
    .exact .inl (by rw[M.bB]at i;exact i)
    .exact .inr (.inl i)
    .exact h0 o k
   .have:=h5.ext.size;exact .inr (.inl (by omega))
   .rcases h5.ext.own o b (by omega) k with⟨K,_,P⟩|hge
    .exact h0 K P
    .exact .inr (.inl hge)
  .refine h5.ext.heap b i λo _ k=>?_;rcases M.own o b k with k|⟨a,A,C⟩
   .exact F (g8 (vM k))
   .exact hna a A C
  .refine rV.2 ⟨(rV.1 s).2.1,(rV.1 s).1,λa A a' ha' b h1 h2=>(rV.1 s).2.2 a' ha' a A b h2 h1⟩
  .obtain ⟨o,B,k⟩:=hown a (hmem a A) b C;rcases ag4 o b k with(h|h)|h
   .obtain ⟨K,ho',y⟩:=u b h;have:=l.l9 o K b k ⟨(l.box K b y).1,.inl y⟩;subst this;rcases ef.1 B with hm|hm
    .have:=(p2 o hm).2.1;omega
    .have:=(q2 o hm).2.1;omega
   .exact .inl h
   .exact .inr h
  .obtain ⟨K,ho',y⟩:=u b i;exact(l.box K b y).1
  .obtain ⟨o,B,k⟩:=hown a (hmem a A) b C;obtain⟨K,ho',y⟩:=u b i;have:=l.l9 o K b k ⟨(l.box K b y).1,.inl y⟩;subst this;rcases ef.1 B with hm|hm
   .have:=(p2 o hm).2.1;omega
   .have:=(q2 o hm).2.1;omega
 refine wT hfs hc (wpIn_mono (rz hE p (z _ p) n f _ c 0 h (λh=>absurd rfl h) (Nat.le_of_lt pI) (by rw[ahc];exact m) hf0 M.rel) λe a' w' hq=>?_);rcases hq with hF|⟨ex,fr',s',g',h1,h2,h3,h4,h5,h6⟩
 .exact hF.elim
 refine BS hE p (z _ p) n (R:=vT S I w ps rs (RT.res E.pn r) al bl) h2 h1 h4 h5.rel (λt s'' g'' v w'' H k2 k3=>?_) (λt s'' g'' v w'' H k2 k3=>?_)
 .unfold adZ at H;split at H;rotate_left
  .cases H
  rename_i X e1;simp only[bg]at H;have e2:RT.res E.pn r=.ok X:=by rw[<-H];cases E.pn<;>rfl
  simp only[vT,e2];exact core _ _ _ (h5.trans k3.toW) rs _ v X e1 k2
 .simp only[adY]at H;split at H;rotate_left
  .cases H
  rename_i X e1;have e2:RT.res E.pn r=.dm (X.1.1,X.2):=RT.Zf H;simp only[vT,e2];exact⟨v,rfl,core _ _ _ (h5.trans k3.toW) [.dat S.pt] t v X e1 k2⟩
end
section
variable {o:Op}{ops:List Oper}{v a:V S}{b:Bool}{x y r r':o9 S}{args:List (V S)}
section
variable {fr fr':bY S}{s s':bq S}
def pR:∀{l:L Operand},(∀x∈l,cm fr x=cm fr' x)->jX fr l=jX fr' l
 |[],_=>rfl
 |x::l,h=>by simp only[jX,h x eD,pR λy a=>h y (gO _ a)]
def jM:∀{l:L (Nat×Operand)},(∀x∈l.map (·.2),cm fr x=cm fr' x)->iA fr l=iA fr' l
 |[],_=>rfl
 |(k,x)::l,h=>by simp only[iA,h x (by simp),jM λy a=>h y (by simp at a ⊢;exact .inr a)]
def xD:∀{x:O Operand},(∀y∈x.toList,cm fr y=cm fr' y)->Js fr x=Js fr' x
 |none,_=>rfl
 |some x,h=>by simp only[Js,h x (by simp)]
def Ow(E:gH)(s:bq S)(o:Op)(h:∀x∈o.operands.toList,cm fr x=cm fr' x):cn E fr s o=cn E fr' s o:=by
 cases o with
 |buildSlice t n c=>simp only[Op.operands]at h;simp only[cn,jM (fr:=fr) (fr':=fr') (l:=c.toList) (by simpa using h)]
 |build t c=>simp only[Op.operands]at h;simp only[cn,jM (fr:=fr) (fr':=fr') (l:=c.toList) (by simpa using h)]
 |makeFunc f a b=>simp only[Op.operands,Gz,ef]at h;simp only[cn,pR (l:=a.toList) λx d=>h x (.inl d),pR (l:=b.toList) λx d=>h x (.inr d)]
 |slice t x l e m=>
  simp only[Op.operands,Gz,ef,Option.toArray]at h;simp only[cn,h x (by simp),xD (fr:=fr) (fr':=fr') (x:=l) λy g=>h y (by cases l<;>simp_all),
   xD (fr:=fr) (fr':=fr') (x:=e) λy g=>h y (by cases e<;>simp_all),xD (fr:=fr) (fr':=fr') (x:=m) λy g=>h y (by cases m<;>simp_all)]
 |alloc=>rfl
 |box t x=>simp[Op.operands]at h;simp only[cn,h]
 |move x=>simp[Op.operands]at h;simp only[cn,h]
 |assign x=>simp[Op.operands]at h;simp only[cn,h]
 |pick x y z=>simp[Op.operands]at h;simp only[cn,h]
 |load t x=>simp[Op.operands]at h;simp only[cn,h]
 |store t x y=>simp[Op.operands]at h;simp only[cn,h]
 |nilCheck x=>simp[Op.operands]at h;simp only[cn,h]
 |binOp op t x y u=>simp[Op.operands]at h;simp only[cn,h]
 |unOp op t x=>simp[Op.operands]at h;simp only[cn,h]
 |convert t u x=>simp[Op.operands]at h;simp only[cn,h]
 |makeInterface t x=>simp[Op.operands]at h;simp only[cn,h]
 |extract x k=>simp[Op.operands]at h;simp only[cn,h]
 |fieldAddr t x k=>simp[Op.operands]at h;simp only[cn,h]
 |field t x k=>simp[Op.operands]at h;simp only[cn,h]
 |indexAddr t x k=>simp[Op.operands]at h;simp only[cn,h]
 |index t x k=>simp[Op.operands]at h;simp only[cn,h]
 |typeAssert x t u ok=>simp[Op.operands]at h;simp only[cn,h]
 |_=>rfl
def MA:∀{x:O Operand},(∀y∈x.toList,cm fr y=cm fr' y)->MB fr x=MB fr' x
 |none,_=>rfl
 |some x,h=>by simp only[MB,h x (by simp)]
def SV(E:gH)(s:bq S)(o:Op)(h:∀x∈o.operands.toList,cm fr x=cm fr' x):qU E fr s o=qU E fr' s o:=by
 cases o with
 |makeMap t r=>simp only[qU,MA (fr:=fr) (fr':=fr') (x:=r) λy f=>h y (by cases r<;>simp_all [Op.operands])]
 |lookup t x b ok=>simp[Op.operands]at h;simp only[qU,h]
 |mapUpdate t x b y=>simp[Op.operands]at h;simp only[qU,h]
 |insert t x b y=>simp[Op.operands]at h;simp only[qU,h]
 |makeSlice t n c=>simp[Op.operands]at h;simp only[qU,h]
 |range t x=>simp[Op.operands]at h;simp only[qU,h]
 |nilCheck x=>simp[Op.operands]at h;simp only[qU,h]
 |typeAssert x t u ok=>simp[Op.operands]at h;simp only[qU,h]
 |build t e=>simp only[Op.operands]at h;simp only[qU,jM (fr:=fr) (fr':=fr') (l:=e.toList) (by simpa using h)]
 |binOp op t x y u=>
  have d:cm fr x=cm fr' x:=h x (by simp[Op.operands]);cases op<;>first
   |rfl
   |(
     cases y with
     |const v=>
      cases v with
      |nilIface=>simp only[qU,d]
      |slice a n m=>cases a<;>cases n<;>cases m<;>first|rfl|simp only[qU,d]
      |_=>rfl
     |_=>rfl)
 |_=>rfl
def SY(E:gH)(s:bq S)(o:Op)(h:∀x∈o.operands.toList,cm fr x=cm fr' x):Ap E fr s o=Ap E fr' s o:=by
 cases o with
 |indexAddr t x e=>simp[Op.operands]at h;simp only[Ap,h]
 |load t a=>simp[Op.operands]at h;simp only[Ap,h]
 |store t a x=>
  simp[Op.operands]at h;cases x with|tmp k=>have h2:fr.get k=fr'.get k:=h.2;simp only[Ap,h.1,h2]|_=>rfl
 |buildSlice t n d=>
  simp only[Ap];split
  .rename_i b c;have h2:fr.get b=fr'.get b:=h (.tmp b) (by
    have:(Op.buildSlice t n d).operands.toList=d.toList.map (·.2):=by simp[Op.operands]
    rw[this,c];simp)
   simp only[h2]
  .rfl
  .rfl
 |_=>rfl
def HQ(E:gH)(s:bq S)(o:Op)(h:∀x∈o.operands.toList,cm fr x=cm fr' x):yX E fr s o=yX E fr' s o:=by unfold yX;rw[SY E s o h,Ow E s o h,SV E s o h]
def HR(E:gH)(s:bq S)(o:Op)(h:∀x∈o.operands.toList,cm fr x=cm fr' x):iI E fr s o=iI E fr' s o:=by
 cases o with
 |next c b=>simp[Op.operands]at h;cases b<;>first|rfl|simp only[iI,h]
 |lookup t x a ok=>simp[Op.operands]at h;simp only[iI,h]
 |index t x a=>simp[Op.operands]at h;simp only[iI,h]
 |_=>rfl
def AV{c:Call}(h:∀x∈c.operands.toList,cm fr x=cm fr' x):jX fr c.args.toList=jX fr' c.args.toList∧(∀f,c.callee=.value f->cm fr f=cm fr' f)∧∀x m,c.callee=.invoke x m->cm fr x=cm fr' x:=by simp only[Call.operands,Gz,ef]at h;exact⟨pR λx a=>h x (.inr a),λf b=>h f (.inl (by rw[b];simp)),λx m a=>h x (.inl (by rw[a];simp))⟩
def zw(E:gl S)(call:iH S)(o:Oper)(s:bq S){ω:Type}(kp:V S->bq S->O ω)(k:V S->bq S->L Nat->O ω)(h:∀x∈o.op.operands.toList,cm fr x=cm fr' x) :
  sx E call o fr s kp k=sx E call o fr' s kp k:=by
 unfold sx;have a:=HQ E.T s o.op h;have d:=HR E.T s o.op h;cases g:o.op with
 |call c=>
  rw[g]at h;simp only[Op.operands]at h;obtain⟨h1,h2,h3⟩:=AV h;dsimp only;rw[h1];cases e:c.callee with|value f=>simp only[h2 f e]|builtin b=>rfl|invoke x m=>simp only[h3 x m e]
 |panic x=>rw[g]at h;simp[Op.operands]at h;simp only[h]
 |_=>rw[g]at a d;simp only[a,d]
def hU(E:gl S)(g:O Bool)(o:Oper)(s:bq S){ω:Type}(k:V S->O ω)(h:∀x∈o.op.operands.toList,cm fr x=cm fr' x) :
  eE E g fr s o k=eE E g fr' s o k:=by
 unfold eE;have a:=HQ E.T s o.op h;have d:=HR E.T s o.op h;cases e:o.op with
 |call c=>
  rw[e]at h;simp only[Op.operands]at h;obtain⟨h1,h2,h3⟩:=AV h;dsimp only;rw[h1];cases i:c.callee with|value f=>simp only[h2 f i]|builtin b=>rfl|invoke=>rfl
 |buildSlice t n j=>rw[e]at h a;simp only[Op.operands]at h;simp only[a,jM (fr:=fr) (fr':=fr') (l:=j.toList) (by simpa using h)]
 |slice t x l p m=>rw[e]at h a;simp only[a,h x (by simp[Op.operands])]
 |_=>first|rfl|(rw[e]at a d;simp only[a,d])
def Jl(E:gl S)(o:Oper)(h:∀x∈o.op.operands.toList,cm fr x=cm fr' x):Ah E fr o=Ah E fr' o:=by
 unfold Ah;cases a:o.op with
 |call c=>
  rw[a]at h;simp only[Op.operands]at h;obtain⟨h1,h2,h3⟩:=AV h;dsimp only;rw[h1];cases d:c.callee with|value f=>simp only[h2 f d]|builtin b=>rfl|invoke=>rfl
 |buildSlice t n e=>rw[a]at h;simp only[Op.operands]at h;simp only[jM (fr:=fr) (fr':=fr') (l:=e.toList) (by simpa using h)]
 |slice t x l g m=>rw[a]at h;simp only[h x (by simp[Op.operands])]
 |_=>rfl
def tmpsOf(o:Op):L Nat:=o.operands.toList.filterMap λx=>match x with|.tmp k=>Z k|_=>Y
def iL(h:∀k∈tmpsOf o,fr.get k=fr'.get k):∀x∈o.operands.toList,cm fr x=cm fr' x:=by intro x a;cases x with|tmp k=>exact h k (vZ.2 ⟨.tmp k,a,rfl⟩)|_=>rfl
def pU(e:∀k∈tmpsOf o,k<bC)(h:∀k∈tmpsOf o,fr.get k=fr'.get k):∀k∈tmpsOf o,(m6 fr o).get k=(m6 fr' o).get k:=by
 unfold m6;have key:∀(l:L Operand)(f c:bY S),(∀k,.tmp k∈l->k∈tmpsOf o)->(∀k∈tmpsOf o,f.get k=c.get k)->∀k∈tmpsOf o,
   (l.foldl (λf x=>match x with
    | .tmp k=>match fr.get k with
     |some (.gd _ v)=>f.put k v
     |_=>f
    |_=>f) f).get k=(l.foldl (λf x=>match x with
    | .tmp k=>match fr'.get k with
     |some (.gd _ v)=>f.put k v
     |_=>f
    |_=>f) c).get k:=by
  intro l
  induction l with
  |nil=>intro f c _ b k a;exact b k a
  |cons x l i=>
   intro f c g b k a;simp only[BB];refine i _ _ (λk a=>g k (gO _ a)) (λk a=>?_) k a;cases x with
   |tmp j=>
    have d:=g j eD;simp only[<-h j d];split
    .rw[bY.iT _ _ _ _ (e j d),bY.iT _ _ _ _ (e j d),b k a]
    .exact b k a
   |_=>exact b k a
 exact key _ _ _ (λk a=>vZ.2 ⟨.tmp k,a,rfl⟩) h
def su(c:Bool)(h:∀k∈tmpsOf o,fr.get k=fr'.get k):JS c fr o=JS c fr' o:=by
 unfold JS;have key:∀(l:L Operand)(q:Bool),(∀k,.tmp k∈l->k∈tmpsOf o)->
   l.foldl (λp x=>match x with
    | .tmp k=>match fr.get k with
     |some (.gd g _)=>p&&imp c g
     |_=>p
    |_=>p) q=l.foldl (λp x=>match x with
    | .tmp k=>match fr'.get k with
     |some (.gd g _)=>p&&imp c g
     |_=>p
    |_=>p) q:=by
  intro l
  induction l with
  |nil=>intro q _;rfl
  |cons x l f=>
   intro q b;have d:∀j,x=.tmp j->fr.get j=fr'.get j:=λj d=>h j (b j (d▸eD));have a:∀k,.tmp k∈l->k∈tmpsOf o:=λk e=>b k (gO _ e);clear b;simp only[BB];cases x with|tmp j=>simp only[<-d j rfl];exact f _ a|_=>exact f _ a
 exact key _ _ (λk e=>vZ.2 ⟨.tmp k,e,rfl⟩)
def m5(ops:L Oper)(o:Oper):O Nat:=match o.guard with
 |none=>Y
 |some (j,_)=>(nth ops j).bind (·.dst)
def nX{o:Oper}(h:∀k,m5 ops o=Z k->fr.get k=fr'.get k):hJ ops fr o=hJ ops fr' o:=by
 unfold hJ;cases b:o.guard with
 |none=>rfl
 |some p=>
  obtain⟨j,a⟩:=p;dsimp only;cases c:(nth ops j).bind (·.dst)with|none=>rfl|some k=>simp only[Jm];rw[h k (by simp only[m5,b,c])]
def pN{o:Oper}(h:∀k,m5 ops o=Z k->fr.get k=fr'.get k):sX ops fr o=sX ops fr' o:=by
 unfold sX;cases b:o.guard with
 |none=>rfl
 |some p=>
  obtain⟨j,a⟩:=p;dsimp only;cases c:(nth ops j).bind (·.dst)with|none=>rfl|some k=>simp only[Jm];rw[h k (by simp only[m5,b,c])]
def GK(E:gl S)(call:iH S){o:Oper}(s:bq S){ω:Type}(kp:V S->bq S->O ω)(k:V S->bq S->L Nat->O ω)(hn:fr.n=fr'.n)(b:∀k∈tmpsOf o.op,k<bC)
  (h:∀k∈tmpsOf o.op,fr.get k=fr'.get k) (a:∀k,m5 ops o=Z k->fr.get k=fr'.get k):mN E call ops o fr s kp k=mN E call ops o fr' s kp k:=by
 unfold mN;have h1:ga fr o.dst=ga fr' o.dst:=by cases o.dst<;>simp only[ga,hn]
 have h2:=iL h;have h3:=iL (pU b h);rw[h1,nX a,pN a];simp only[zw E call o s kp k h2,zw E call o s kp k h3,Jl E o h3,su (o:=o.op) _ h];have h4:∀c,eE E (Z c) (m6 fr o.op) s o (λt=>k (.gd c t) s [])=eE E (Z c) (m6 fr' o.op) s o (λt=>k (.gd c t) s []):=λc=>hU E _ o s _ h3;simp only[h4]
end
def FB{ω:Type}(k:V S->O ω){D:O ω}{a:O (V S)}(h:D=a.bind k):∀l:L (Bool×V S×bq S),s9 k D l=(s9 Z a l).bind k
 |[]=>h
 |p::l=>by simp only[s9,FB k h l];cases p.1<;>rfl
def zq(E:gl S)(g:O Bool)(fr:bY S)(s:bq S)(o:Oper){ω:Type}(k:V S->O ω):eE E g fr s o k=(eE E g fr s o Z).bind k:=by
 have a:∀(p:Bool)(t:V S),xN g p (k t)=(xN g p (Z t)).bind k:=by
  intro p t;cases g with
  |none=>cases p<;>rfl
  |some c=>cases c<;>cases p<;>rfl
 unfold eE;split
 .split
  .rfl
  .split
   .rename_i b _;cases yK b with
    |false=>rfl
    |true=>
     simp only[cH];split
     .exact a _ _
     .rfl
   .split
    .rfl
    .split
     .rfl
     .rename_i c _;cases(bV c.ps&&(jf c.rs&&(iY _&&!c.pn)))with
      |false=>rfl
      |true=>
       simp only[cH];split
       .unfold ai;split
        .rename_i r _;dsimp only;generalize RT.res c.pn r=q;cases q<;>rfl
        .rfl
       .rfl
   .rfl
 iterate 11
  .rfl
 .split
  .rename_i l _;cases iY (l.map (·.2))with
   |false=>rfl
   |true=>
    simp only[cH];split
    .rfl
    .exact a _ _
  .rfl
 .split
  .rename_i v _;cases qZ v with
   |false=>rfl
   |true=>
    simp only[cH];split
    .rfl
    .exact a _ _
  .rfl
 .split
  .exact FB k (a _ _) _
  .split
   .rfl
   .exact a _ _
def Sm(s s':bq S)(v:V S):Prop:=∀o,cE (Nat.beq o) v=W->s'.ob.get o=s.ob.get o
def Sms(s s':bq S)(l:L (V S)):Prop:=∀o,hG (Nat.beq o) l=W->s'.ob.get o=s.ob.get o
def Sms.cons{s s':bq S}{l:L (V S)}(h:Sms s s' (v::l)):Sm s s' v∧Sms s s' l:=
 ⟨λo a=>h o (by simp[hG,a]),λo a=>h o (by simp[hG,a])⟩
def Af{s s':bq S}(h:Sm s s' v)(e:Ty):I3 s' e v=I3 s e v:=by
 cases v with
 |sh o r=>simp only[I3,h o (by simp[cE])]
 |ty t x=>cases t<;>rfl
 |_=>rfl
def RG{s s':bq S}{o:Nat}(h:s'.ob.get o=s.ob.get o)(e:Nat):Ke s' o e=Ke s o e:=by simp only[Ke,h]
mutual
def yz{s s':bq S}:∀(t:Ty)(v:V S),Sm s s' v->qZ v=W->bP s' t v=bP s t v
 |t,.agg b,h,a=>by cases t with|st n=>simp only[bP,KZ (S.fs n) b h a]|_=>simp only[bP]
 |t,.cR u v,h,a=>by
  cases t with
  |cR n=>
   simp only[bP];cases o8 (S.alts n) u with|none=>rfl|some i=>simp only[yz (lX (S.alts n) i) v h a]
  |_=>simp only[bP]
 |t,.sh o r,_,a=>by simp[qZ]at a
 |t,.qm _ _ _ _,_,a=>by simp[qZ]at a
 |t,.nZ _ _ _,_,_=>by cases t<;>simp only[bP]
 |t,.ty _ _,_,_=>by simp only[bP]
 |t,.kb _,_,_=>by cases t<;>simp only[bP]
 |t,.kn _ _,_,_=>by cases t<;>simp only[bP]
 |t,.dat d,_,_=>by
  cases t with
  |cR n=>
   cases d with
   |lit v=>cases v<;>simp only[bP]
   |_=>simp only[bP]
  |_=>simp only[bP]
 |t,.ptr _ _,_,_=>by cases t<;>simp only[bP]
 |t,.mO _ _ _,_,_=>by cases t<;>simp only[bP]
 |t,.kH _ _ _ _,_,_=>by cases t<;>simp only[bP]
 |t,.emp,_,_=>by cases t<;>simp only[bP]
 |t,.jE _ _ _,_,_=>by cases t<;>simp only[bP]
 |t,.fn _ _ _,_,_=>by cases t<;>simp only[bP]
 |t,.gB _,_,_=>by cases t<;>simp only[bP]
 |t,.gd _ _,_,_=>by cases t<;>simp only[bP]
 |t,.mp _,_,_=>by cases t<;>simp only[bP]
 |t,.rJ _,_,_=>by cases t<;>simp only[bP]
 |t,.rI _,_,_=>by cases t<;>simp only[bP]
 |t,.ub _,_,_=>by cases t<;>simp only[bP]
def KZ{s s':bq S}:∀(ts:L Ty)(l:L (V S)),Sms s s' l->iY l=W->mR s' ts l=mR s ts l
 |[],[],_,_=>rfl
 |t::ts,v::l,h,a=>by simp only[iY,ec]at a;simp only[mR,yz t v h.cons.1 a.1,KZ ts l h.cons.2 a.2]
 |[],_::_,_,_=>rfl
 |_::_,[],_,_=>rfl
end
def fT(r:o9 S):O (Bool×V S):=match r with
 |some (c,t,_)=>Z (c,t)
 |none=>Y
def oh(h:b=W->fT x=fT y):fT (bif b then x else Y)=fT (bif b then y else Y):=by cases b with|true=>exact h rfl|false=>rfl
def Ph{x' a:o9 S}(h:fT x=fT x')(c:fT y=fT a):fT (bif b then x else y)=fT (bif b then x' else a):=by cases b with|true=>exact h|false=>exact c
def fS{α:Type}(x:O α)(f g:α->Bool×V S×bq S)(h:∀a,(f a).1=(g a).1∧(f a).2.1=(g a).2.1):fT (x.map f)=fT (x.map g):=by cases x with|none=>rfl|some a=>simp only[fT,ee,(h a).1,(h a).2]
section
variable {fr:bY S}{s s':bq S}
def VP(i:TI)(τ:O Ty)(h:Sm s s' a):fT (wO i τ s' a)=fT (wO i τ s a):=by
 cases a with
 |ptr o off=>
  simp only[wO,h o (by simp[cE])];cases s.ob.get o with
  |none=>rfl
  |some ob=>
   cases ob with
   |box b=>
    dsimp only;cases Nat.beq (cC ((b.drop off).take i.size)) i.size with|false=>rfl|true=>exact fS _ _ _ λ_=>⟨rfl,rfl⟩
   |_=>rfl
 |mO t x off=>exact fS _ _ _ λ_=>⟨rfl,rfl⟩
 |kH o e k off=>
  simp only[wO,RG (h o (by simp[cE]))];cases Ke s o e with|none=>rfl|some x=>exact fS _ _ _ λ_=>⟨rfl,rfl⟩
 |_=>rfl
def GF(i:TI)(τ:O Ty){b:V S}(h:Sm s s' a):fT (jA i τ s' a b)=fT (jA i τ s a b):=by
 unfold jA;split
 .rename_i e n c _;cases a with
  |sh o r=>
   simp only[RG (h o (by simp[cE]))];cases Ke s o r with|none=>rfl|some x=>dsimp only;cases rL x.1 e<;>rfl
  |ty t x=>dsimp only;rw[Af h];cases I3 s e (.ty t x)<;>rfl
  |emp=>rfl
  |jE n t l=>dsimp only;rw[Af h];cases I3 s e (.jE n t l)<;>rfl
  |nZ n t l=>dsimp only;rw[Af h];cases I3 s e (.nZ n t l)<;>rfl
  |_=>rfl
 .rfl
def Zi(E:gH)(o:Op)(c:oM o=J)(d:∀x∈o.operands.toList,∀v,cm fr x=Z v->Sm s s' v):fT (cn E fr s' o)=fT (cn E fr s o):=by
 cases o with
 |alloc=>cases c
 |box=>cases c
 |store=>cases c
 |buildSlice=>cases c
 |slice=>cases c
 |move x=>exact fS _ _ _ λ_=>⟨rfl,rfl⟩
 |assign x=>exact fS _ _ _ λ_=>⟨rfl,rfl⟩
 |pick x y z=>
  simp only[cn];split
  .exact fS _ _ _ λ_=>⟨rfl,rfl⟩
  .rfl
 |build t j=>
  simp only[cn];split
  .split
   .exact fS _ _ _ λ_=>⟨rfl,rfl⟩
   .rfl
  .rfl
 |load t x=>
  simp only[cn];split
  .rename_i i a h1 h2;exact VP _ _ (d x (by simp[Op.operands]) _ h2)
  .rfl
 |nilCheck x=>
  simp only[cn];split<;>first|rfl|(split<;>rfl)
 |binOp op t x y u=>
  simp only[cn];split
  .exact fS _ _ _ λ_=>⟨rfl,rfl⟩
  .rfl
 |unOp op t x=>
  simp only[cn];split
  .exact fS _ _ _ λ_=>⟨rfl,rfl⟩
  .rfl
 |convert t u x=>
  simp only[cn];split
  .unfold Ry;split
   .exact fS _ _ _ λ_=>⟨rfl,rfl⟩
   .exact fS _ _ _ λ_=>⟨rfl,rfl⟩
   .rfl
  .rfl
 |makeInterface t x=>
  simp only[cn];split
  .split<;>rfl
  .rfl
 |makeFunc f a b=>simp only[cn];split<;>rfl
 |extract x k=>
  simp only[cn];split
  .unfold zo;split
   .exact fS _ _ _ λ_=>⟨rfl,rfl⟩
   .rfl
  .rfl
 |fieldAddr t x k=>
  simp only[cn];split
  .unfold oW;split
   .split
    .rename_i off size e _;cases Nat.beq size 0 with
     |true=>rfl
     |false=>
      first|rfl|(simp only[dS];split<;>rfl)
    .rfl
   .rfl
  .rfl
 |field t x k=>
  simp only[cn];split
  .unfold AI;split
   .split
    .rename_i off size e g _ _;dsimp only;cases(Nat.beq (cC ((g.drop off).take size)) size&&!(Nat.beq size 0))with|false=>rfl|true=>exact fS _ _ _ λ_=>⟨rfl,rfl⟩
    .rfl
   .rfl
  .rfl
 |indexAddr t x h=>
  simp only[cn];split
  .rename_i i v n h1 h2 h3;exact GF _ _ (d x (by simp[Op.operands]) _ h2)
  .rfl
 |index t x h=>
  simp only[cn];split
  .unfold AA;split<;>rfl
  .rfl
 |typeAssert x a t ok=>
  simp only[cn];split
  .rename_i i v h1 h2;unfold Db;split
   .rfl
   .rename_i u v _;cases Nat.beq u t with|true=>rfl|false=>exact fS _ _ _ λ_=>⟨rfl,rfl⟩
   .rename_i u v _;cases Nat.beq u t<;>rfl
   .rfl
  .rfl
 |_=>rfl
end
section
variable {fr:bY S}{s s':bq S}
def kU(h:fT r=fT r'):r=Y↔r'=Y:=by cases r<;>cases r'<;>simp_all [fT]
def Zo{s s':bq S}{a b:Ty}(h:Sm s s' v):VL s' a b v=VL s a b v:=by
 unfold VL;split
 .rename_i o;rw[h o (by simp[cE])]
 .rfl
 .rfl
def acG(E:gH)(o:Op)(b:oM o=J)(c:∀x∈o.operands.toList,∀v,cm fr x=Z v->Sm s s' v):fT (qU E fr s' o)=fT (qU E fr s o):=by
 cases o with
 |makeMap=>cases b
 |mapUpdate=>cases b
 |insert=>cases b
 |makeSlice=>cases b
 |range=>cases b
 |lookup t x d ok=>
  simp only[qU];split
  .rename_i m e f h1 h2 h3;have:=c x (by simp[Op.operands]) _ h2;simp only[Zo this];split
   .split<;>rfl
   .rfl
  .rfl
 |nilCheck x=>simp only[qU];split<;>rfl
 |typeAssert x t u ok=>
  simp only[qU];split
  .rename_i i τ n y _ _ _;split
   .rfl
   .rename_i j _ _;cases rL (lX (S.alts n) j) τ<;>cases ok<;>rfl
   .cases ok<;>rfl
  .rfl
 |build t g=>
  simp only[qU];split
  .split
   .exact fS _ _ _ λ_=>⟨rfl,rfl⟩
   .rfl
  .rfl
 |binOp op t x y u=>
  cases op<;>first
   |rfl
   |(
     cases y with
     |const v=>
      cases v with
      |nilIface=>simp only[qU];split<;>first|rfl|(split<;>rfl)
      |slice a n m=>
       cases a<;>cases n<;>cases m<;>first
        |rfl
        |(
         simp only[qU];split
         .rename_i h2;have:=c x (by simp[Op.operands]) _ h2;simp only[Af this];split<;>rfl
         .rfl)
      |_=>rfl
     |_=>rfl)
 |_=>rfl
def acK(E:gH)(o:Op)(b:oM o=J)(c:∀x∈o.operands.toList,∀v,cm fr x=Z v->Sm s s' v):fT (Ap E fr s' o)=fT (Ap E fr s o):=by
 cases o with
 |store=>cases b
 |buildSlice=>cases b
 |indexAddr t x d=>
  simp only[Ap];split
  .rename_i o r h1;rw[c x (by simp[Op.operands]) _ h1 o (by simp[cE])];split
   .split
    .split
     .exact oh λ_=>rfl
     .rfl
    .rfl
   .rfl
  .rfl
 |load t a=>
  simp only[Ap];split
  .rename_i o e k off h1;rw[c a (by simp[Op.operands]) _ h1 o (by simp[cE])];split
   .split
    .exact oh λ_=>Ph (oh λ_=>rfl) (oh λ_=>fS _ _ _ λ_=>⟨rfl,rfl⟩)
    .rfl
   .rfl
  .rfl
 |_=>rfl
def Q4(E:gH)(a:fT (Ap E fr s' o)=fT (Ap E fr s o))(h1:fT (cn E fr s' o)=fT (cn E fr s o))(h2:fT (qU E fr s' o)=fT (qU E fr s o)):fT (yX E fr s' o)=fT (yX E fr s o):=by
 unfold yX;cases h5:Ap E fr s o with
 |some r=>
  cases h4:Ap E fr s' o with
  |none=>rw[(kU a).1 h4]at h5;cases h5
  |some r'=>rw[h5,h4]at a;exact a
 |none=>
 rw[(kU a).2 h5];dsimp only;cases h3:cn E fr s o with
 |none=>rw[(kU h1).2 h3];exact h2
 |some r=>
  cases h4:cn E fr s' o with
  |none=>rw[(kU h1).1 h4]at h3;cases h3
  |some r'=>rw[h3,h4]at h1;exact h1
def acH(E:gH)(o:Op)(a:oM o=J)(b:∀x∈o.operands.toList,∀v,cm fr x=Z v->Sm s s' v):fT (yX E fr s' o)=fT (yX E fr s o):=by have h1:=Zi E o a b;have h2:=acG E o a b;have c:=acK E o a b;exact Q4 E c h1 h2
def GP(a:L (Bool×V S×bq S)):L (Bool×V S):=a.map λp=>(p.1,p.2.1)
def IB{ω:Type}(k:V S->O ω)(d:O ω):∀{l m:L (Bool×V S×bq S)},GP l=GP m->s9 k d l=s9 k d m
 |[],[],_=>rfl
 |p::l,q::m,h=>by simp only[GP,lT,LC,bD]at h;simp only[s9,h.1.1,h.1.2,IB k d (l:=l) (m:=m) h.2]
 |[],_::_,h=>by simp[GP]at h
 |_::_,[],h=>by simp[GP]at h
def W9(r:O (L (Bool×V S×bq S)×Bool×V S×bq S)):O (L (Bool×V S)×Bool×V S):=match r with
 |none=>Y
 |some (l,p,d,_)=>Z (GP l,p,d)
def FC(n:Int)(ag:Bool)(sz:Nat)(cs:L (V S))(s s':bq S):∀l:L Nat,GP (xW n ag sz cs s' l)=GP (xW n ag sz cs s l)
 |[]=>rfl
 |j::l=>by
  simp only[xW];split
  .simp only[GP,lT,LC,true_and];exact FC n ag sz cs s s' l
  .rfl
def acI(E:gH)(o:Op)(b:oM o=J)(c:∀x∈o.operands.toList,∀v,cm fr x=Z v->Sm s s' v):W9 (iI E fr s' o)=W9 (iI E fr s o):=by
 cases o with
 |next=>cases b
 |lookup t x d ok=>
  simp only[iI];split
  .rename_i m a e h1 h2 h3;have:=c x (by simp[Op.operands]) _ h2 a (by simp[cE]);rw[this];split
   .split
    .simp only[W9,GP,List.map_map];rfl
    .rfl
   .rfl
  .rfl
 |index t x d=>
  simp only[iI];split
  .rename_i i f e _ _ _;split
   .cases Nat.beq (cC f) i.size with|false=>rfl|true=>simp only[cH,W9,FC _ _ _ _ s s']
   .rfl
  .rfl
 |_=>rfl
end
def Iq{s s':bq S}{e:Ty}:∀{ps:L (Nat×V S)}{es:L (den S.A e)},(∀p∈ps,Sm s s' p.2)->(∀p∈ps,qZ p.2=W)->mo s' e es ps=mo s e es ps
 |[],es,_,_=>rfl
 |(k,v)::ps,es,h,b=>by simp only[mo,yz e v (h _ eD) (b _ eD)];cases bP s e v with|none=>rfl|some x=>dsimp only;rw[Iq (λp a=>h p (gO _ a)) (λp a=>b p (gO _ a))]
def DY{fr:bY S}:∀{ps:L (Nat×Operand)}{l:L (Nat×V S)},iA fr ps=Z l->∀p∈l,∃x∈ps.map (·.2),cm fr x=Z p.2
 |[],l,h,p,a=>by simp only[iA,bg]at h;subst h;cases a
 |(k,x)::ps,l,h,p,a=>by
  simp only[iA]at h;split at h
  .rename_i t r h1 h2;simp only[bg]at h;subst h;rcases eU.1 a with rfl|a
   .exact ⟨x,by simp,h1⟩
   .obtain ⟨y,b,h⟩:=DY h2 p a;exact⟨y,by simp at b ⊢;exact .inr b,h⟩
  .cases h
def HP{fr:bY S}:∀{ps:L Operand}{l:L (V S)},jX fr ps=Z l->∀v∈l,∃x∈ps,cm fr x=Z v
 |[],l,h,p,a=>by simp only[jX,bg]at h;subst h;cases a
 |x::ps,l,h,p,a=>by
  simp only[jX]at h;split at h
  .rename_i t r h1 h2;simp only[bg]at h;subst h;rcases eU.1 a with rfl|a
   .exact ⟨x,by simp,h1⟩
   .obtain ⟨y,b,h⟩:=HP h2 p a;exact⟨y,gO _ b,h⟩
  .cases h
def Ss(i:TI)(τ:O Ty){s s':bq S}(hs:∀e,I3 s' e v=I3 s e v)(f:LY v=[])(l h m:O (V S)):fT (tW i τ s' v l h m)=fT (tW i τ s v l h m):=by
 unfold tW;rw[f];simp only[dF,hs];split
 .split
  .split<;>rfl
  .rfl
 .rename_i e lo _;cases i.kd with
  |slice a b c d=>
   cases I3 s e v with
   |none=>rfl
   |some g=>
    dsimp only;cases AZ (ak g) h with
    |none=>rfl
    |some j=>
     cases m with
     |none=>rfl
     |some y=>
      cases h with
      |none=>rfl
      |some z=>
       dsimp only;cases y with
       |kn k n=>
        cases k with
        |i64=>cases n with
         |ofNat n=>cases n<;>rfl
         |negSucc n=>rfl
        |_=>rfl
       |ty t x=>dsimp only;cases gf .i64 (V.ty (S:=S) t x)<;>rfl
       |_=>rfl
  |_=>rfl
 .rfl
def HO{s s':bq S}:∀{ps:L Pk}{l:L (V S)},bV ps=W->(∀v∈l,Sm s s' v)->iY l=W->ej s' ps l=ej s ps l
 |[],[],_,_,_=>rfl
 | .one (.dat t)::ps,v::l,a,h,b=>by simp only[iY,ec]at b;simp only[ej,lV,yz t v (h v eD) b.1,HO (ps:=ps) (by simpa[bV]using a) (λv c=>h v (gO _ c)) b.2]
 | .one (.own _)::_,_,a,_,_=>by simp[bV]at a
 | .one (.jw ..)::_,_,a,_,_=>by simp[bV]at a
 | .one (.nil _)::_,_,a,_,_=>by simp[bV]at a
 | .one (.ptr _)::_,_,a,_,_=>by simp[bV]at a
 | .box _::_,_,a,_,_=>by simp[bV]at a
 |[],_::_,_,_,_=>rfl
 | .one _::_,[],_,_,_=>rfl
def xG{p:Nat->Bool}:∀{l:L (V S)}{v:V S},v∈l->cE p v=W->hG p l=W
 |a::l,v,h,b=>by
  rcases eU.1 h with rfl|h
  .simp[hG,b]
  .simp[hG,xG h b]
def Cy(E:gH){s s':bq S}{ts:Array TypeId}(h:∀v∈args,Sm s s' v):fT (fh E s' .len ts args)=fT (fh E s .len ts args):=by
 unfold fh;split
 .rename_i x _;split
  .split<;>rfl
  .split
   .rw[Af (h _ (by simp))];exact fS _ _ _ λ_=>⟨rfl,rfl⟩
   .rfl
  .rfl
 .rename Builtin.len=Builtin.append=>a
  cases a
 .rfl
def AW(E:gH){s s':bq S}{b:Builtin}(c:yK b=W){ts:Array TypeId}(h:∀v∈args,Sm s s' v):fT (kz E s' b ts args)=fT (kz E s b ts args):=by
 have h1:fT (fh E s' b ts args)=fT (fh E s b ts args):=by cases b with|len=>exact Cy E h|max=>simp[fh]|min=>simp[fh]|_=>cases c
 have h2:fT (rC E s' b ts args)=fT (rC E s b ts args):=by
  unfold rC;split
  .rename_i o;rw[h (.mp o) (by simp) o (by simp[cE])];split<;>rfl
  .split<;>rfl
  .split<;>rfl
  .rfl
 have a:fT (jF E s' b ts args)=fT (jF E s b ts args):=by
  unfold jF;split
  .rename_i o r;rw[h (.sh o r) (by simp) o (by simp[cE])];split
   .split
    .split
     .exact oh λ_=>rfl
     .rfl
    .rfl
   .rfl
  .cases c
  .cases c
  .rfl
 unfold kz;cases h5:jF E s b ts args with
 |some r=>
  cases h4:jF E s' b ts args with
  |none=>rw[(kU a).1 h4]at h5;cases h5
  |some r'=>rw[h5,h4]at a;exact a
 |none=>
 rw[(kU a).2 h5];dsimp only;cases h3:fh E s b ts args with
 |none=>rw[(kU h1).2 h3];exact h2
 |some r=>
  cases h4:fh E s' b ts args with
  |none=>rw[(kU h1).1 h4]at h3;cases h3
  |some r'=>rw[h3,h4]at h1;exact h1
def acq{α:Type}(f:Bool->V S->O α)(r:o9 S):O α:=match r with
 |none=>Y
 |some (p,t,_)=>f p t
def zF{α:Type}(h:fT r=fT r')(f:Bool->V S->O α):acq f r=acq f r':=by
 cases r with
 |none=>cases r' with|none=>rfl|some x=>cases h
 |some x=>cases r' with
  |none=>cases h
  |some y=>simp only[fT,bg,bD]at h;simp only[acq];rw[h.1,h.2]
def EV(E:gl S)(g:O Bool){fr:bY S}{s s':bq S}(o:Oper){ω:Type}(k:V S->O ω)(m:∀x∈o.op.operands.toList,∀v,cm fr x=Z v->Sm s s' v) :
  eE E g fr s' o k=eE E g fr s o k:=by
 unfold eE;have F:oM o.op=J->fT (yX E.T fr s' o.op)=fT (yX E.T fr s o.op):=λhq=>acH E.T o.op hq m;cases G:o.op with
 |call c=>
  rw[G]at m;simp only[Op.operands,Call.operands,Gz,ef]at m;dsimp only;cases M:jX fr c.args.toList with
  |none=>rfl
  |some args=>
   dsimp only;have r:∀v∈args,Sm s s' v:=λv A=>by obtain⟨x,B,h⟩:=HP M v A;exact m x (.inr B) v h
   cases N:c.callee with
   |value f=>
    dsimp only;cases hf:cm fr f with
    |none=>rfl
    |some v=>
     simp only[Jm];have A:=m f (.inl (by rw[N];simp)) v hf;cases d:n4 v args with
     |none=>rfl
     |some q=>
      obtain⟨f',w⟩:=q;dsimp only;cases hg:E.GI f' with
      |none=>rfl
      |some c'=>
       dsimp only;have z:∀v∈w,Sm s s' v:=by
        unfold n4 at d;split at d
        .simp only[bg,bD]at d;obtain⟨_,rfl⟩:=d;intro u hu;simp only[ef]at hu;rcases hu with(hu|hu)|hu
         .exact λo P=>A o (by simp[cE,xG hu P])
         .exact r u hu
         .exact λo P=>A o (by simp[cE,xG hu P])
        .cases d
       cases R:bV c'.ps with
       |false=>rfl
       |true=>
        cases X:iY w with|false=>simp|true=>rw[HO R z X]
   |builtin b=>
    dsimp only;cases hb:yK b with
    |false=>rfl
    |true=>
     simp only[cH];have:=zF (AW E.T hb (ts:=c.argTypes) r) (λp t=>xN g p (k t));cases h1:kz E.T s' b c.argTypes args with
     |none=>cases h2:kz E.T s b c.argTypes args with|none=>rfl|some y=>rw[h1,h2]at this;exact this
     |some x=>cases h2:kz E.T s b c.argTypes args with|none=>rw[h1,h2]at this;exact this|some y=>rw[h1,h2]at this;exact this
   |invoke=>rfl
 |buildSlice t n ps=>
  rw[G]at m;simp only[Op.operands]at m;dsimp only;cases H:iA fr ps.toList with
  |none=>rfl
  |some l=>
   dsimp only;cases C:iY (l.map (·.2))with
   |false=>rfl
   |true=>
    refine zF ?_ (λp t=>xN g p (k t));refine Q4 E.T ?_ ?_ rfl
    .simp only[Ap];split
     .rename_i kx I;split
      .split
       .split
        .refine oh λ_=>?_;have hmm:=m (.tmp kx) (by rw[I];simp);rename_i B _ _ _ _ _ _ _ _ _ _ _ _;rw[I]at H;simp only[iA,cm,B,bg]at H;subst H;simp only[lT,Hx,iY,rU]at C;rw[yz _ _ (hmm _ B) C];split
         .rename_i Mw;have:=qY _ _ _ C Mw;subst this;rfl
         .rfl
        .rfl
       .rfl
      .rfl
     .split
      .split
       .cases Nat.beq n 0<;>rfl
       .rfl
      .rfl
     .rfl
    simp only[cn,H];split
    .rename_i i e ps' h1 h2 h3;cases h3;split
     .rename_i sz _ _ _ _;cases Nat.ble (Nat.mul n sz) 16777216 with
      |false=>rfl
      |true=>
       simp only[cH];rw[Iq (λp hp=>by
        obtain⟨x,B,h⟩:=DY H p hp;exact m x (by simpa using B) _ h) (Eh C)]
       cases hel:mo s e (List.replicate n (S.zero e)) l with|none=>rfl|some q=>obtain⟨es,os⟩:=q;have:=AP (Eh C) hel;subst this;rfl
     .rfl
    .rfl
 |slice t x lo hi mx=>
  rw[G]at m;dsimp only;cases A:cm fr x with
  |none=>rfl
  |some v=>
   dsimp only;cases C:qZ v with
   |false=>rfl
   |true=>
    refine zF ?_ (λp t=>xN g p (k t));have hsm:=m x (by simp[Op.operands]) v A;have K:LY v=[]:=by cases v<;>first|rfl|simp[qZ]at C
    rw[CP rfl rfl,CP rfl rfl];simp only[cn,A];split
    .rename_i i a l1 l2 l3 _ M _ _ _;cases M;exact Ss i _ (λe=>Af hsm e) K _ _ _
    .rfl
 |store=>rfl
 |alloc=>rfl
 |box=>rfl
 |panic=>rfl
 |makeMap=>rfl
 |mapUpdate=>rfl
 |insert=>rfl
 |makeSlice=>rfl
 |range=>rfl
 |next=>rfl
 |defer=>rfl
 |_=>
  have j:=acI E.T o.op (by rw[G];rfl) m;rw[G]at F j;dsimp only;have h2:=zF (F rfl) (λp t=>xN g p (k t));generalize B:iI E.T fr s' _=x at j;generalize hy:iI E.T fr s _=y at j;cases x with
  |none=>cases y with|none=>exact h2|some y=>cases j
  |some x=>cases y with
   |none=>cases j
   |some y=>simp only[W9,bg,bD]at j;obtain⟨q1,q2,q3⟩:=j;dsimp only;rw[q2,q3];exact IB k _ q1
end
section
def J9(e j:Nat):(1 <<< e).testBit j=decide (e=j):=by rw[Nat.shiftLeft_eq,tZ,Nat.testBit_two_pow]
def Ij(f:Nat->Nat)(j:Nat):∀(l:L Nat)(z:Nat),(l.foldl (λb e=>b||| (1 <<< e||| f e)) z).testBit j=(z.testBit j||l.any λe=>decide (e=j)||(f e).testBit j)
 |[],z=>by simp
 |e::l,z=>by rw[BB,Ij f j l];simp only[yL,J9,List.any_cons,Bool.or_assoc]
def uO:∀(l:L Oper)(a:L Nat)(i:Nat),i<a.length->(Nm l a).getD i 0=a.getD i 0
 |[],_,_,_=>rfl
 |o::l,a,i,h=>by rw[Nm,uO l _ i (by rw[gw];omega)];simp only[jq,SI h]
def any_eq{α:Type}{f g:α->Bool}:∀{l:L α},(∀e∈l,f e=g e)->l.any f=l.any g
 |[],_=>rfl
 |a::l,h=>by rw[List.any_cons,List.any_cons,h a eD,any_eq λe b=>h e (gO _ b)]
def RD:∀(l:L Oper)(acc:L Nat)(k:Nat)(o:Oper),l[k]?=Z o->s7 l acc.length=W->∀j,
  ((Nm l acc).getD (acc.length+k) 0).testBit j=(wo o).any λe=>decide (e=j)||((Nm l acc).getD e 0).testBit j
 |[],acc,k,o,h,_,j=>by simp at h
 |p::l,acc,k,o,h,a,j=>by
  simp only[s7,ec]at a;cases k with
  |zero=>simp only[qO,bg]at h;subst h;rw[Nm,uO _ _ _ (by rw[gw];simp)];simp only[wJ,jq,QX (bQ _),Nat.sub_self,qO,vY];rw[Ij];simp only[Nat.zero_testBit,HA];refine any_eq λe d=>?_;have c:e<acc.length:=fU (eC.1 a.1 e d);have:=uO l (acc++[(wo p).foldl (λb e=>b||| (1 <<< e||| acc.getD e 0)) 0]) e (by rw[gw];omega);simp only[jq,SI c]at this ⊢;rw[this]
  |succ k=>rw[Nm];have:=RD l (acc++[(wo p).foldl (λb e=>b||| (1 <<< e||| acc.getD e 0)) 0]) k o (by simpa using h) (by simpa using a.2) j;rw[gw,nq,show acc.length+1+k=acc.length+(k+1)by omega]at this;exact this
section
variable {ops:List Oper}
def Pre(ops:L Oper)(i j:Nat):Prop:=((uN ops).getD i 0).testBit j=W
variable {i d:Nat}{o:Oper}
def CN(a:s7 ops 0=W)(h:ops[i]?=Z o)(j:Nat):Pre ops i j↔∃e∈wo o,e=j∨Pre ops e j:=by have:=RD ops [] i o h a j;rw[xy,js]at this;unfold Pre uN;rw[this,LD];simp only[j0,jL]
def zP:∀{l:L Oper}{n:Nat},s7 l n=W->∀{k:Nat}{o:Oper},l[k]?=Z o->∀e∈wo o,e<n+k
 |[],_,_,k,o,h,_,_=>by simp at h
 |p::l,n,a,k,o,h,e,b=>by simp only[s7,ec]at a;cases k with|zero=>simp only[qO,bg]at h;subst h;exact fU (eC.1 a.1 e b)|succ k=>have:=zP a.2 (k:=k) (by simpa using h) e b;omega
def On(b:s7 ops 0=W):∀{i:Nat}{o:Oper},ops[i]?=Z o->∀j,Pre ops i j->j<i:=by
 intro i
 induction i using Nat.strongRecOn with
 |_ i c=>
  intro o h j d;obtain⟨e,f,Wq⟩:=(CN b h j).1 d;have g:=zP b h e f;rcases Wq with rfl|Wq
  .omega
  .have a:e<ops.length:=by have:=(tG.1 h).1;omega
   have:=c e (by omega) (fN a) j Wq;omega
def SN(a:s7 ops 0=W):∀{i:Nat}{o:Oper},ops[i]?=Z o->∀{j k:Nat},Pre ops i j->Pre ops j k->Pre ops i k:=by
 intro i
 induction i using Nat.strongRecOn with
 |_ i f=>
  intro o h j k g c;obtain⟨e,d,Wq⟩:=(CN a h j).1 g;refine(CN a h k).2 ⟨e,d,.inr ?_⟩;rcases Wq with rfl|Wq
  .exact c
  .have l:=zP a h e d;have b:e<ops.length:=by have:=(tG.1 h).1;omega
   exact f e (by omega) (fN b) Wq c
def mc(d:s7 ops 0=W){a:Nat->Prop}(g:∀i o,ops[i]?=Z o->a i->∀e∈wo o,a e):∀{i:Nat}{o:Oper},ops[i]?=Z o->(∀e∈wo o,a e)->∀j,Pre ops i j->a j:=by
 intro i
 induction i using Nat.strongRecOn with
 |_ i k=>
  intro o h f j l;obtain⟨e,c,Wq⟩:=(CN d h j).1 l;rcases Wq with rfl|Wq
  .exact f _ c
  .have m:=zP d h e c;have b:e<ops.length:=by have:=(tG.1 h).1;omega
   exact k e (by omega) (fN b) (g e _ (fN b) (f e c)) j Wq
def yB{a b:Nat}:Sq a b=W↔∀j,a.testBit j=W->b.testBit j=W:=by
 unfold Sq;constructor
 .intro h j c;have h:a&&& b=a:=nN h;have:=lS (λn=>n.testBit j) h;simp only[Nat.testBit_and,c,dQ]at this;exact this
 .intro h;have:a&&& b=a:=Nat.eq_of_testBit_eq λj=>by rw[Nat.testBit_and];cases c:a.testBit j with|false=>rfl|true=>rw[h j c];rfl
  rw[this];simp
def ql(ops:L Oper):Uj:=ops.zipIdx.map λp=>(p.2,p.1)
def iR:(i,o)∈ql ops↔ops[i]?=Z o:=by
 unfold ql;rw[tY];constructor
 .rintro ⟨⟨p,k⟩,b,a⟩
  simp only[bD]at a;obtain⟨rfl,rfl⟩:=a;exact Jp.1 b
 .intro h;exact⟨(o,i),Jp.2 h,rfl⟩
def sC(h:aaz ops (uN ops)=W)(l:ops[i]?=Z o)(m:o.dst=Z d) :
  d<bC∧d∉tmpsOf o.op∧∀{j:Nat}{p:Oper},ops[j]?=Z p->i≠j->p.dst≠Z d∧(d∈tmpsOf p.op->Pre ops j i∨Pre ops i j):=by
 unfold aaz at h;have h1:=eC.1 h (o,i) (Jp.2 l);simp only[m,ec]at h1;have a:∀{p:Oper},d∈tmpsOf p.op->KT p d=W:=by intro p c;obtain⟨x,n,b⟩:=vZ.1 c;refine LD.2 ⟨x,n,?_⟩;cases x with|tmp k=>simp only[bg]at b;subst b;simp|_=>cases b
 refine⟨fU h1.1,λc=>?_,λ{j p}q f=>?_⟩
 .have h2:=eC.1 h1.2 (o,i) (Jp.2 l);have e:Nat.beq i i=W:=by simp
  simp only[e,cH,a c]at h2;cases h2
 .have h2:=eC.1 h1.2 (p,j) (Jp.2 q);have e:Nat.beq i j=J:=by cases r:Nat.beq i j with|false=>rfl|true=>exact absurd (nN r) f
  simp only[e,dS,ec,j0]at h2;refine⟨λg=>?_,λc=>?_⟩
  .have h3:=h2.1;rw[g]at h3;simp at h3
  .rcases h2.2 with h3|h3
   .rw[a c]at h3;cases h3
   .exact h3
def antiP(ops:L Oper)(i:Nat):Prop:=∃o,ops[i]?=Z o∧∃d,o.dst=Z d∧∃j p,ops[j]?=Z p∧d∈tmpsOf p.op∧Pre ops i j
def Xm(e:ops[i]?=Z o)(h:RJ ops (uN ops) i o=J):¬antiP ops i:=by
 rintro⟨f,c,d,g,j,p,l,m,n⟩
 have:o=f:=eO (e.symm.trans c);subst this;unfold RJ at h;rw[g]at h;have h1:=LF.1 h (p,j) (Jp.2 l);have b:KT p d=W:=by obtain⟨x,q,a⟩:=vZ.1 m;refine LD.2 ⟨x,q,?_⟩;cases x with|tmp k=>simp only[bg]at a;subst a;simp|_=>cases a
 refine h1 ?_;simp only[b,dQ];exact n
def Wz(h:JR ops (uN ops)=W)(f:ops[i]?=Z o)(a:m5 ops o=Z d):∃j p,ops[j]?=Z p∧p.dst=Z d∧Pre ops i j:=by
 unfold JR at h;have h1:=eC.1 h (o,i) (Jp.2 f);unfold m5 at a;cases c:o.guard with
 |none=>rw[c]at a;cases a
 |some q=>obtain⟨j,e⟩:=q;simp only[c]at a h1;rw[jv,rW]at a;obtain⟨p,g,b⟩:=a;exact⟨j,p,g,b,h1⟩
def Dk(h:acp ops=W)(b:ops[i]?=Z o):∀k∈tmpsOf o.op,k<bC:=by intro k c;obtain⟨x,d,a⟩:=vZ.1 c;have h1:=eC.1 h o (g8 b);have h2:=eC.1 h1 x d;cases x with|tmp j=>simp only[bg]at a;subst a;exact fU h2|_=>cases a
def Xn{E:gH}{n:Nat}(h:PE E n ops=W)(f:ops[i]?=Z o)(a:eN o=W):o.guard=Y∧(∃t c,o.op=.alloc t∧E.E.ti t=Z c)∧∀d,o.dst=Z d->d<n:=by
 have h1:=eC.1 h o (g8 f);simp only[a,cH,ec]at h1;unfold eN at a;split at a
 .rename_i t b;rw[b]at h1;have h2:(E.E.ti t).isSome=W:=h1.1;refine⟨by simpa using a,⟨t,?_⟩,λd g=>?_⟩
  .cases e:E.E.ti t with
   |none=>rw[e]at h2;cases h2
   |some c=>exact⟨c,b,rfl⟩
  .have h3:=h1.2;rw[g]at h3;exact fU h3
 .cases a
def HN(done:Nat):∀(l:Uj)(z j:Nat),(l.foldl (λb(i,o)=>bif eN o&&!(done.testBit i)then b||| 1 <<< i else b) z).testBit j=(z.testBit j||l.any λ(i,o)=>eN o&&!(done.testBit i)&&decide (i=j))
 |[],z,j=>by simp
 |(i,o)::l,z,j=>by rw[BB,HN done l,List.any_cons];cases h:(eN o&&!(done.testBit i))with|false=>simp only[h,dS,fO,HA]|true=>simp only[h,cH,yL,J9,dQ,Bool.or_assoc]
def ua(done j:Nat):(wK (ql ops) done).testBit j=W↔∃o,ops[j]?=Z o∧eN o=W∧done.testBit j=J:=by
 unfold wK;rw[HN,Nat.zero_testBit,HA,LD];constructor
 .rintro ⟨⟨i,o⟩,a,h⟩
  simp only[ec,DK,jL]at h;obtain⟨⟨h1,h2⟩,rfl⟩:=h;exact⟨o,iR.1 a,h1,h2⟩
 .rintro ⟨o,b,h1,h2⟩
  exact⟨(j,o),iR.2 b,by simp[h1,h2]⟩
end
end
section
structure He(g:Gh)(w0 w:World)(b:Nat)(z:Array Value):Prop where
 new:w0.heap.size<=b
 lt:b<w.heap.size
 bB:¬g.bB b
 own:∀o,¬bN g o b
 mem:∃ty,w.heap[b]?=Z (.cells z ty (0,0))
section
variable {g g':Gh}{w0 w w':World}{b:Nat}{z:Array Value}
def He.Aa(h:He g w0 w b z){ow:L Nat}{s s':bq S}(c:cO ow s g w s' g' w')(f:s.fl=0):He g' w0 w' b z:=by
 obtain⟨ty,i⟩:=h.mem;refine⟨h.new,dB h.lt c.ext.size,λa=>?_,λo d=>?_,ty,?_⟩
 .rcases c.ext.uq b a with a|a|⟨o,_,d⟩
  .exact h.bB a
  .have:=h.lt;omega
  .exact h.own o d
 .rcases c.ext.own o b (by omega) d with⟨j,_,e⟩|a
  .exact h.own j e
  .have:=h.lt;omega
 .rw[c.ext.heap b h.lt λo _=>h.own o];exact i
def bh.Xo{s:St}(hs:bh g s w)(hn:s.aJ<bC)(hf:He g w0 w b z){cs:L T}(hl:cs.length=z.size)
  (y:∀(j:Nat)(t:T)(v:Value),cs[j]?=Z t->z[j]?=Z v->aM g w t v) :
  bh (g.dh s.aJ b) (en s (.box cs)).2 w∧n8 g (g.dh s.aJ b)∧(∀k c,bN (g.dh s.aJ b) k c->bN g k c∨(k=s.aJ∧c=b)):=by
 have a:=hs.ai s.aJ (bQ _);have n:∀o c,g.cj o=Z c->(g.dh s.aJ b).cj o=Z c:=λo c h=>by
  have:o≠s.aJ:=λe=>by rw[e,a.1]at h;cases h
  simp[Gh.dh,this,h]
 have i:n8 g (g.dh s.aJ b):=⟨n,λ_ _ _ h=>h,λ_ h=>h⟩;have d:∀k c,bN (g.dh s.aJ b) k c->bN g k c∨(k=s.aJ∧c=b):=by
  rintro o c ⟨h1,h2|h2⟩
  .by_cases f:o=s.aJ
   .subst f;simp[Gh.dh]at h2;exact .inr ⟨rfl,h2.symm⟩
   .simp[Gh.dh,f]at h2;exact .inl ⟨h1,.inl h2⟩
  .exact .inl ⟨h1,.inr h2⟩
 obtain⟨ty,A⟩:=hf.mem;refine⟨⟨by simp only[en];omega,λo f=>?_,λo c p=>?_,λo e x B=>?_,hs.bB,λo q c h C=>?_⟩,i,d⟩
 .simp only[en]at f;have h1:o≠s.aJ:=by omega
  simp only[Gh.dh,h1,eT];exact hs.ai o (by omega)
 .by_cases f:o=s.aJ
  .subst f;have r:c=b:=by simp[Gh.dh]at p;exact p.symm
   subst r;refine⟨hf.bB,hf.lt,λob l=>⟨_,A,?_⟩⟩;simp only[en]at l;rw[Tr.aZ _ _ _ _ hn,bJ rfl]at l;obtain rfl:=eO l;exact .box cs z ty hl λj t v E F=>(y j t v E F).le i
  .have u:g.cj o=Z c:=by simpa[Gh.dh,f]using p
   exact(hs.box o c u).le i rfl (by simp only[en];rw[Tr.aZ _ _ _ _ hn,br f])
 .have m:g.arr o e=Z x:=B;have f:o≠s.aJ:=λh=>by rw[h,a.2 e]at m;cases m
  exact(hs.arr o e x m).le rfl (by simp only[en];rw[Tr.aZ _ _ _ _ hn,br f]) (λ_ _ _ h=>h) (λ_=>rfl)
 .rcases d o c h with h1|⟨h1,h3⟩<;>rcases d q c C with h2|⟨h2,h4⟩
  .exact hs.l9 o q c h1 h2
  .subst h4;exact absurd h1 (hf.own o)
  .subst h3;exact absurd h2 (hf.own q)
  .rw[h1,h2]
def He.keep{o c:Nat}{i:Array Value}(h:He g w0 w b z)(j:He g w0 w c i)(a:b≠c)(d:∀k e,bN (g.dh o c) k e->bN g k e∨(k=o∧e=c)):He (g.dh o c) w0 w b z:=
 ⟨h.new,h.lt,h.bB,λk f=>by
  rcases d k b f with f|⟨_,rfl⟩
  .exact h.own k f
  .exact a rfl,h.mem⟩
end
def Yf(E:gH)(g:Gh)(w0 w:World)(a:Act)(o:Oper)(b:Nat):Prop:=
 ∀t c d,o.op=.alloc t->E.E.ti t=Z c->o.dst=Z d->∃z,a.tmps[d]?=Z (.pointer (Z ⟨b,0,Y⟩))∧He g w0 w b z∧ZOk c.zero z
structure Adp(E:gH)(which:Nat)(l:Uj)(fr:bY S)(s:bq S)(g:Gh)(w:World)(a:Act)(fr':bY S)(s':bq S)(g':Gh):Prop where
 rel:bh g' (aI s') w
 le:n8 g g'
 bB:g'.bB=g.bB
 fl:s'.fl=s.fl
 lo:s'.lo=s.lo
 wr:s'.wr=s.wr
 dr:s'.dr=s.dr
 aJ:s.aJ<=s'.aJ
 ob:∀o,o<s.aJ->s'.ob.get o=s.ob.get o
 n:fr'.n=fr.n
 J1:fr'.df=fr.df
 old:∀k,(∀p∈l,which.testBit p.1=W->p.2.dst≠Z k)->fr'.get k=fr.get k
 new:∀k,(∃p∈l,which.testBit p.1=W∧p.2.dst=Z k)->∀t,fr'.get k=Z t->∃v,a.tmps[k]?=Z v∧aM g' w (low t) v
 own:∀k b,bN g' k b->bN g k b∨∃p∈l,which.testBit p.1=W∧∃d,p.2.dst=Z d∧a.tmps[d]?=Z (.pointer (Z ⟨b,0,Y⟩))
 aay:∀p∈l,which.testBit p.1=W->∃t ti d,p.2.op=.alloc t∧E.E.ti t=Z ti∧p.2.dst=Z d∧d<fr.n
def Nu{E:gH}{f:Nat}{w0 w:World}{a:Act}{bl:Nat->Nat}:∀{l:Uj}{fr fr':bY S}{s s':bq S}{g:Gh},tg E f l fr s=Z (fr',s')->fr.n<=bC->bh g (aI s) w->
  (∀p∈l,f.testBit p.1=W->Yf E g w0 w a p.2 (bl p.1))->(l.map (·.1)).Nodup->(∀p∈l,∀q∈l,f.testBit p.1=W->f.testBit q.1=W->p.1≠q.1->bl p.1≠bl q.1)->
  (∀p∈l,∀q∈l,p.1≠q.1->∀d,p.2.dst=Z d->q.2.dst≠Z d)->∃g',Adp E f l fr s g w a fr' s' g':=by
 intro l
 induction l with
 |nil=>intro fr fr' s s' g h _ hs _ _ _ _;simp only[tg,bg,bD]at h;obtain⟨rfl,rfl⟩:=h;exact⟨g,hs,n8.refl _,rfl,rfl,rfl,rfl,rfl,bQ _,λ_ _=>rfl,rfl,rfl,λ_ _=>rfl,λk⟨p,hp,_⟩=>by(cases hp),λ_ _ h=>.inl h,λp hp=>by(cases hp)⟩
 |cons p l ih=>
  intro fr fr' s s' g h hn hs he y B C;obtain⟨i,o⟩:=p;simp only[tg]at h;rw[lT,HD]at y;have A:∀q∈l,i≠q.1:=λq b e=>y.1 (tY.2 ⟨q,b,e.symm⟩);rcases af h with⟨K,h1⟩|⟨K,h1⟩
  .clear h;split at h1
   .rename_i t d N n;split at h1
    .rename_i ti P;rcases af h1 with⟨hb,h⟩|⟨_,h⟩;rotate_left
     .cases h
     rw[ec]at hb;have R:s.aJ<bC:=fU hb.1;have F:d<fr.n:=fU hb.2;obtain⟨z,X,v,hz⟩:=he (i,o) eD K t ti d N P n;obtain⟨z1,z2⟩:=qE (g:=g) (w:=w) hz;obtain⟨KO,ang,x⟩:=hs.Xo R v z1 z2;have adn:bh (g.dh s.aJ (bl i)) (aI (dw s (.box (ti.zero.map zeroV)))) w:=by rw[gC];simp only[cQ,l8];exact KO
     have hE:∀q∈l,f.testBit q.1=W->Yf E (g.dh s.aJ (bl i)) w0 w a q.2 (bl q.1):=by intro q b hw' t' ti' d' q1 q2 q3;obtain⟨z',r1,r2,r3⟩:=he q (gO _ b) hw' t' ti' d' q1 q2 q3;exact⟨z',r1,r2.keep v (B q (gO _ b) (i,o) eD hw' K (λe=>A q b e.symm)) x,r3⟩
     obtain⟨g',k⟩:=ih h (by exact hn) adn hE y.2 (λq b r G=>B q (gO _ b) r (gO _ G)) (λq b r G=>C q (gO _ b) r (gO _ G))
     .have Z8:∀q∈l,f.testBit q.1=W->q.2.dst≠Z d:=λq b _=>C (i,o) eD q (gO _ b) (A q b) d n;refine⟨g',k.rel,ang.trans k.le,k.bB,k.fl,k.lo,k.wr,k.dr,fJ (DP _) k.aJ,λj M=>?_,k.n,k.J1,λj M=>?_,λj⟨q,b,m,u⟩t' H=>?_,λj c I=>?_,λq b m=>?_⟩
      .rw[k.ob j (Nat.lt_succ_of_lt M)];simp only[dw];rw[Tr.aZ _ _ _ _ R,br (by omega)]
      .rw[k.old j (λq b=>M q (gO _ b)),bY.iT _ _ _ _ (dB F hn),br];intro e;subst e;exact M (i,o) eD K n
      .rcases eU.1 b with rfl|b
       .have hjd:j=d:=by have u:o.dst=Z j:=u;rw[n]at u;exact(eO u).symm
        subst hjd;rw[k.old j Z8,bY.iT _ _ _ _ (dB F hn),bJ rfl]at H;cases H;refine⟨_,X,?_⟩;simp only[low];exact .ptr _ _ _ (k.le.cj _ _ (by simp[Gh.dh]))
       .exact k.new j ⟨q,b,m,u⟩ t' H
      .rcases k.own j c I with I|⟨q,b,m,u⟩
       .rcases x j c I with I|⟨_,rfl⟩
        .exact .inl I
        .exact .inr ⟨(i,o),eD,K,d,n,X⟩
       .exact .inr ⟨q,gO _ b,m,u⟩
      .rcases eU.1 b with rfl|b
       .exact ⟨t,ti,d,N,P,n,F⟩
       .exact k.aay q b m
    .cases h1
   .cases h1
  .obtain ⟨g',k⟩:=ih h1 hn hs (λq b=>he q (gO _ b)) y.2 (λq b r G=>B q (gO _ b) r (gO _ G)) (λq b r G=>C q (gO _ b) r (gO _ G));have hnw:∀q∈(i,o)::l,f.testBit q.1=W->q∈l:=λq b m=>by
    rcases eU.1 b with rfl|b
    .rw[K]at m;cases m
    .exact b
   refine⟨g',k.rel,k.le,k.bB,k.fl,k.lo,k.wr,k.dr,k.aJ,k.ob,k.n,k.J1,λj M=>k.old j λq b=>M q (gO _ b),λj⟨q,b,m,u⟩=>k.new j ⟨q,hnw q b m,m,u⟩,λj c I=>(k.own j c I).imp id λ⟨q,b,h⟩=>⟨q,gO _ b,h⟩,λq b m=>k.aay q (hnw q b m) m⟩
end
section
def lZ(listed:Array Bool)(i:Nat):Prop:=listed.getD i J=W
def De(E:gl S)(ops:L Oper)(fr:bY S)(s:bq S)(o:Oper):Prop:=
 ga fr o.dst=W∧((sX ops fr o=W∧∀d,o.dst=Z d->∀a,fr.get d=Z a->a=fq)∨(hJ ops fr o=Z Y∧∃t,eE E Y fr s o Z=Z t∧∀d,o.dst=Z d->∀a,fr.get d=Z a->XL t a)∨
  ∃c,hJ ops fr o=Z (Z c)∧JS c fr o.op=W∧∃t,eE E (Z c) (m6 fr o.op) s o Z=Z t∧∀d,o.dst=Z d->∀a,fr.get d=Z a->a=.gd c t)
variable {s':bq S}{o:Oper}{k i:Nat}
def Ee{p:Nat->Bool}{fr:bY S}{s:bq S}{o:Op}(h:jl p fr o=J)(hs:∀x,p x=J->s'.ob.get x=s.ob.get x):∀x∈o.operands.toList,∀v,cm fr x=Z v->Sm s s' v:=by
 intro x a v b j c;apply hs;have h1:cE p v=J:=by unfold jl at h;have:=LF.1 h x a;rw[b]at this;simpa using this
 cases d:p j with|false=>rfl|true=>have:=ez (p:=Nat.beq j) (q:=p) (λy e=>by rw[<-nN e];exact d) v c;rw[h1]at this;cases this
def zp(E:gl S)(g:O Bool){fr:bY S}(o:Oper)(s s':bq S){ω:Type}(k:V S->O ω)(c:LQ o.op=W):eE E g fr s o k=eE E g fr s' o k:=by
 unfold eE;cases d:o.op with
 |move x=>simp only[iI,yX,Ap,cn];cases cm fr x<;>simp[qU]
 |assign x=>simp only[iI,yX,Ap,cn];cases cm fr x<;>simp[qU]
 |nilCheck x=>
  simp only[iI,yX,Ap,cn];cases h:cm fr x with
  |none=>simp[qU,h]
  |some v=>
   cases v with
   |ty t y=>cases t<;>simp[qU,h]
   |fn f a b=>cases f<;>simp[qU,h]
   |_=>simp[qU,h]
 |fieldAddr t x n=>
  simp only[iI,yX,Ap,cn];cases E.T.E.ti t with
  |none=>simp[qU]
  |some e=>
   cases cm fr x with
   |none=>simp[qU]
   |some v=>
    simp only[oW];cases e.kd with
    |struct i=>
     dsimp only;cases nth i n with
     |none=>simp[qU]
     |some q=>
      obtain⟨off,size,j⟩:=q;dsimp only;cases Nat.beq size 0 with|true=>simp[qU]|false=>cases v<;>simp[qU]
    |_=>simp[qU]
 |_=>simp[d,LQ]at c
def De.move{E:gl S}{ops:L Oper}{fr fr':bY S}{s:bq S}(h:De E ops fr s o)(hn:fr'.n=fr.n)(q:∀k∈tmpsOf o.op,k<bC)(f:∀k∈tmpsOf o.op,fr'.get k=fr.get k)(l:∀k,m5 ops o=Z k->fr'.get k=fr.get k)
  (g:∀d,o.dst=Z d->∀t,fr'.get d=Z t->fr.get d=Z t) {p:Nat->Bool}
  (hs:s'=s∨(jl p fr o.op=J∧jl p (m6 fr o.op) o.op=J∧∀x,p x=J->s'.ob.get x=s.ob.get x)∨LQ o.op=W):De E ops fr' s' o:=by
 obtain⟨m,h⟩:=h;have n:hJ ops fr' o=hJ ops fr o:=nX l;refine⟨by cases a:o.dst<;>simp only[a,ga,hn]at m ⊢;exact m,?_⟩;rcases h with⟨h1,h3⟩|⟨h1,t,h2,h3⟩|⟨c,h1,h4,t,h2,h3⟩
 .exact .inl ⟨(pN l).trans h1,λd a e b=>h3 d a e (g d a e b)⟩
 .refine .inr (.inl ⟨n.trans h1,t,?_,λd a e b=>h3 d a e (g d a e b)⟩);rw[hU E Y o s' Z (iL f)];rcases hs with rfl|⟨i,_,hs⟩|j
  .exact h2
  .rw[EV E Y o Z (Ee i hs)];exact h2
  .rw[zp E Y o s' s Z j];exact h2
 .refine .inr (.inr ⟨c,n.trans h1,by rw[su c f];exact h4,t,?_,λd a e b=>h3 d a e (g d a e b)⟩);rw[hU E (Z c) o s' Z (iL (pU q f))];rcases hs with rfl|⟨_,i,hs⟩|j
  .exact h2
  .rw[EV E (Z c) o Z (Ee i hs)];exact h2
  .rw[zp E (Z c) o s' s Z j];exact h2
structure xe(E:gl S)(ops:Array Oper)(n:Nat):Prop where
 bk:s7 ops.toList 0=W
 ds:aaz ops.toList (uN ops.toList)=W
 gd:JR ops.toList (uN ops.toList)=W
 us:acp ops.toList=W
 al:PE E.T n ops.toList=W
def At(ops:Array Oper)(i:Nat)(o:Oper):Prop:=ops.toList[i]?=Z o
structure qA(E:gl S)(ops:Array Oper)(lU:bY S)(s0:bq S)(g0:Gh)(w0:World)(done:Nat)(fr:bY S)(s:bq S)(bl:Nat->Nat)(listed:Array Bool)(g:Gh)(a:Act)(w:World):Prop where
 JC:listed.size=ops.size
 n:fr.n=lU.n
 nb:fr.n<=bC
 TZ:a.tmps.size=fr.n
 df:j7 g w (bA fr).df a.defers
 tm:∀k t,fr.get k=Z t->(∀i o,At ops i o->o.dst=Z k->(lZ listed i↔done.testBit i=W))->∃v,a.tmps[k]?=Z v∧aM g w (low t) v
 S9:∀i o,At ops i o->lZ listed i->∀e∈wo o,lZ listed e
 W7:∀i o,At ops i o->done.testBit i=W->∀j,Pre ops.toList i j->done.testBit j=W
 ld:∀i o,At ops i o->lZ listed i->done.testBit i=W∨eN o=W
 fo:∀i o,At ops i o->done.testBit i=W->¬lZ listed i->eN o=J∧De E ops.toList fr s o
 ea:∀i o,At ops i o->lZ listed i->done.testBit i=J->Yf E.T g w0 w a o (bl i)∧bl i<w.heap.size
 eb:∀i j,lZ listed i->lZ listed j->done.testBit i=J->done.testBit j=J->i≠j->i<ops.size->j<ops.size->bl i≠bl j
 Aa:fC s0 g0 w0 s g w
 fk:eF (ops.toList.filterMap (·.dst)) lU fr s.dr s0.aJ
 fl:s.fl=0
 an:∀j,antiP ops.toList j->done.testBit j=W->lZ listed j
structure Sa(E:gl S)(ops:Array Oper)(lU:bY S)(s0:bq S)(g0:Gh)(w0:World)(done:Nat)(fr:bY S)(s:bq S)(listed:Array Bool)(g:Gh)(a:Act)(w:World):Prop where
 n:fr.n=lU.n
 nb:fr.n<=bC
 TZ:a.tmps.size=fr.n
 df:j7 g w (bA fr).df a.defers
 tm:∀k t,fr.get k=Z t->(∀i o,At ops i o->o.dst=Z k->(lZ listed i↔done.testBit i=W))->∃v,a.tmps[k]?=Z v∧aM g w (low t) v
 W7:∀i o,At ops i o->done.testBit i=W->∀j,Pre ops.toList i j->done.testBit j=W
 Aa:fC s0 g0 w0 s g w
section
variable {E:gl S}{ops:Array Oper}{lU:bY S}{s0:bq S}{g0:Gh}{w0:World}{done:Nat}{fr:bY S}{s:bq S}{bl:Nat->Nat}{listed:Array Bool}{g:Gh}{a:Act}{w:World}
def CM(fr:bY S)(d:O Nat)(t:V S):(fr.g9 d t).df=fr.df:=by cases d<;>rfl
theorem Er(fr:bY S):(bA fr).df=fr.df.map rf:=rfl
def nY(done i j:Nat):(done||| 1 <<< i).testBit j=W↔done.testBit j=W∨i=j:=by rw[yL,J9,j0,jL]
def Ih{d:O Nat}{t:V S}(h:ga fr d=W)(hn:fr.n<=bC):(fr.g9 d t).get k=if d=Z k then Z t else fr.get k:=by
 cases d with
 |none=>simp[bY.g9]
 |some d=>
  have h:d<fr.n:=fU h;simp only[bY.g9];rw[bY.iT _ _ _ _ (by omega)];by_cases a:k=d
  .subst a;simp
  .rw[br a,br (by simpa using λe=>a e.symm)]
def IV(c:xe E ops lU.n)(f:At ops i o)(d:k∈tmpsOf o.op∨m5 ops.toList o=Z k){j:Nat}{p:Oper}(g:At ops j p)(q:p.dst=Z k):i≠j∧(Pre ops.toList i j∨(Pre ops.toList j i∧antiP ops.toList j)):=by
 obtain⟨_,h2,h3⟩:=sC c.ds g q;rcases d with d|d
 .have a:i≠j:=by
   rintro rfl
   have:o=p:=eO (f.symm.trans g);subst this;exact h2 d
  exact⟨a,((h3 f (Ne.symm a)).2 d).imp id λh=>⟨h,p,g,k,q,i,o,f,d,h⟩⟩
 .obtain ⟨r,s,l,m,b⟩:=Wz c.gd f d;have n:j=r:=QU λa=>(h3 l a).1 m;subst n;refine⟨λe=>?_,.inl b⟩;subst e;exact absurd (On c.bk f _ b) (Nat.lt_irrefl _)
def qA.float(x:xe E ops lU.n)(h:qA E ops lU s0 g0 w0 done fr s bl listed g a w)(u:At ops i o)(B:done.testBit i=J)(H:eN o=J)(I:¬antiP ops.toList i)(K:∀j,Pre ops.toList i j->done.testBit j=W)
  (hd:ga fr o.dst=W) {t:V S} (hf:(sX ops.toList fr o=W∧t=fq)∨(hJ ops.toList fr o=Z Y∧∃t0,eE E Y fr s o Z=Z t0∧XL t0 t)∨∃c t1,hJ ops.toList fr o=Z (Z c)∧JS c fr o.op=W∧eE E (Z c) (m6 fr o.op) s o Z=Z t1∧t=.gd c t1) :
  qA E ops lU s0 g0 w0 (done||| 1 <<< i) (fr.g9 o.dst t) s bl listed g a w:=by
 have cJ:∀k,(fr.g9 o.dst t).get k=if o.dst=Z k then Z t else fr.get k:=λk=>Ih hd h.nb
 have hnl:¬lZ listed i:=λC=>by
  rcases h.ld i o u C with h1|h1
  .rw[B]at h1;cases h1
  .rw[H]at h1;cases h1
 have y:(fr.g9 o.dst t).n=fr.n:=by cases o.dst<;>rfl
 have f:∀{j:Nat}{p:Oper},At ops j p->(j=i∨¬Pre ops.toList j i)->∀k,k∈tmpsOf p.op∨m5 ops.toList p=Z k->(fr.g9 o.dst t).get k=fr.get k:=by
  intro j p q b k r;rw[cJ,br];intro z;obtain⟨h1,h2⟩:=IV x q r u z;rcases b with rfl|b
  .exact h1 rfl
  .exact h2.elim b λh=>I h.2
 refine⟨h.JC,y.trans h.n,by rw[y];exact h.nb,by rw[y];exact h.TZ,by rw[Er,CM];exact h.df,λk M r hc=>?_,h.S9,λj p q b m X=>?_,λj p q C=>?_,λj p q b C=>?_,λj p q C b=>?_,λj m b X h1 h2=>?_,h.Aa,?_,h.fl,λj ha b=>?_⟩
 .have z:o.dst≠Z k:=λe=>hnl ((hc i o u e).2 ((nY done i i).2 (.inr rfl)));rw[cJ,br z]at r;refine h.tm k M r λj p q A=>?_;have F:i≠j:=by
   rintro rfl
   have:o=p:=eO (u.symm.trans q);subst this;exact absurd A z
  exact(hc j p q A).trans ((nY done i j).trans ⟨λh=>h.resolve_right F,.inl⟩)
 .rw[nY]at b ⊢;rcases b with b|rfl
  .exact .inl (h.W7 j p q b m X)
  .exact .inl (K m X)
 .rw[nY];exact(h.ld j p q C).imp .inl id
 .rw[nY]at b;rcases b with b|rfl
  .obtain ⟨h1,h2⟩:=h.fo j p q b C;have N:¬Pre ops.toList j i:=λhpr=>by have:=h.W7 j p q b i hpr;rw[B]at this;cases this
   refine⟨h1,h2.move y (Dk x.us q) (λk r=>f q (.inr N) k (.inl r)) (λk r=>f q (.inr N) k (.inr r)) (λd A M l=>?_) (p:=λ_=>J) (.inl rfl)⟩;rw[cJ,br]at l
   .exact l
   .intro n;have F:i≠j:=λe=>by subst e;rw[B]at b;cases b
    exact((sC x.ds u n).2.2 q F).1 A
  .have:o=p:=eO (u.symm.trans q);subst this;have hu:=Dk x.us u;have ht:∀k∈tmpsOf o.op,(fr.g9 o.dst t).get k=fr.get k:=λk r=>f u (.inl rfl) k (.inl r);have P:hJ ops.toList (fr.g9 o.dst t) o=hJ ops.toList fr o:=nX λk r=>f u (.inl rfl) k (.inr r);refine⟨H,by cases n:o.dst<;>simp only[n,ga,bY.g9,bY.put]at hd ⊢;exact hd,?_⟩;rcases hf with⟨f1,rfl⟩|⟨f1,t0,f2,f3⟩|⟨c,t1,f1,f2,f3,rfl⟩
   .refine .inl ⟨(pN λk r=>f u (.inl rfl) k (.inr r)).trans f1,λd n M l=>?_⟩;rw[cJ,bJ n]at l;exact(eO l).symm
   .refine .inr (.inl ⟨P.trans f1,t0,by rw[hU E Y o s Z (iL ht)];exact f2,λd n M l=>?_⟩);rw[cJ,bJ n]at l;rw[<-eO l];exact f3
   .refine .inr (.inr ⟨c,P.trans f1,by rw[su c ht];exact f2,t1,by rw[hU E (Z c) o s Z (iL (pU hu ht))];exact f3,λd n M l=>?_⟩);rw[cJ,bJ n]at l;exact(eO l).symm
 .have hj':done.testBit j=J:=by cases G:done.testBit j with|false=>rfl|true=>have:=(nY done i j).2 (.inl G);rw[b]at this;cases this
  exact h.ea j p q C hj'
 .have R:∀j,(done||| 1 <<< i).testBit j=J->done.testBit j=J:=λj b=>by cases G:done.testBit j with|false=>rfl|true=>have:=(nY done i j).2 (.inl G);rw[b]at this;cases this
  exact h.eb j m b X (R j h1) (R m h2)
 .refine ⟨λk v r hv=>?_,by rw[CM];exact h.fk.df⟩;rcases h.fk.tm k v r hv with h1|h1
  .left
   rw[cJ,br]
   .exact h1
   .intro n;exact r (vZ.2 ⟨o,g8 u,n⟩)
  .exact .inr h1
 .rcases (nY done i j).1 b with b|rfl
  .exact h.an j ha b
  .exact absurd ha I
end
end
section
variable {i k:Nat}{o:Oper}{dst:Option Tmp}{v:Value}{g':Gh}{w':World}
def eY{listed:Array Bool}{j:Nat}(a:i<listed.size):lZ (listed.setIfInBounds i W) j↔lZ listed j∨i=j:=by
 unfold lZ;by_cases h:i=j
 .subst h;simp[a]
 .rw[getD_set_ne J h];simp[h]
section
variable {E:gl S}{ops:Array Oper}{lU:bY S}{s0:bq S}{g0:Gh}{w0:World}{done:Nat}{fr:bY S}{s:bq S}{bl:Nat->Nat}{listed:Array Bool}{g:Gh}{a:Act}{w:World}
def s8(h:At ops i o):i<ops.size:=by have:=(tG.1 h).1;simpa using this
def Fz(h:At ops i o):ops[i]?=Z o:=by unfold At at h;simpa using h
def sd:∀t:T,dJ [] t=J:=by
 intro t
 induction t using T.rec (motive_2:=λl=>iQ [] l=J)with|fn f a b d g=>simp[dJ,d,g]|cR t v e=>simp[dJ,e]|agg i e=>simp[dJ,e]|gB i e=>simp[dJ,e]|gd c v e=>simp[dJ,e]|nil=>rfl|cons a l d h=>simp[iQ,d,h]|_=>simp[dJ]
def dead(ops:L Oper)(done:Nat)(listed:Array Bool):L Nat:=ops.zipIdx.filterMap λ(o,i)=>if listed.getD i J=done.testBit i then Y else o.dst
def Ek:k∈dead ops.toList done listed↔∃i o,At ops i o∧o.dst=Z k∧¬(lZ listed i↔done.testBit i=W):=by
 have c:∀i,(listed.getD i J=done.testBit i)↔(lZ listed i↔done.testBit i=W):=λi=>by unfold lZ;cases listed.getD i J<;>cases done.testBit i<;>simp
 unfold dead;rw[vZ];constructor
 .rintro ⟨⟨o,i⟩,d,h⟩
  dsimp only at h;split at h
  .cases h
  .rename_i a;exact⟨i,o,Jp.1 d,h,λb=>a ((c i).2 b)⟩
 .rintro ⟨i,o,e,f,a⟩
  refine⟨(o,i),Jp.2 e,?_⟩;dsimp only;rw[br λb=>a ((c i).1 b)];exact f
def rfr(a:L Nat)(fr:bY S):bY S:={fr with tm:=a.foldl (λt k=>t.del aL k) fr.tm}
def qA.core(h:qA E ops lU s0 g0 w0 done fr s bl listed g a w):Sa E ops lU s0 g0 w0 done fr s listed g a w:=⟨h.n,h.nb,h.TZ,h.df,h.tm,h.W7,h.Aa⟩
def Sa.ahB(c:xe E ops lU.n)(h:Sa E ops lU s0 g0 w0 done fr s listed g a w):cG g (bA (rfr (dead ops.toList done listed) fr)) a w∧(rfr (dead ops.toList done listed) fr).n=fr.n∧
  ∀{i:Nat}{o:Oper},At ops i o->(∀j,Pre ops.toList i j->lZ listed j∧done.testBit j=W)->(∀j,antiP ops.toList j->Pre ops.toList j i->¬lZ listed j∧done.testBit j=J)->∀k,k∈tmpsOf o.op∨m5 ops.toList o=Z k->fr.get k=(rfr (dead ops.toList done listed) fr).get k:=by
 have cJ:∀k,(rfr (dead ops.toList done listed) fr).get k=if k∈dead ops.toList done listed then Y else fr.get k:=λk=>Tr.rq _ _ _ λb r=>by obtain⟨i,o,m,d,_⟩:=Ek.1 r;exact(sC c.ds m d).1
 refine⟨⟨h.TZ,h.df,λk t e=>?_⟩,rfl,λ{i o}u q x k e=>?_⟩
 .rw[bR,eG]at e;obtain⟨v,f,rfl⟩:=e;rw[cJ]at f;split at f
  .cases f
  .rename_i n;exact h.tm k v f λi o m d=>QU λl=>n (Ek.2 ⟨i,o,m,d,l⟩)
 .rw[cJ,br];intro y;obtain⟨j,p,z,d,l⟩:=Ek.1 y;rcases(IV c u e z d).2 with h1|⟨h1,h2⟩
  .exact l ⟨λ_=>(q j h1).2,λ_=>(q j h1).1⟩
  .obtain ⟨h3,h4⟩:=x j h2 h1;exact l ⟨λh=>absurd h h3,λh=>by rw[h4]at h;cases h⟩
def vS{a:Act}(h:dst≠Z k):(a.put dst v).tmps[k]?=a.tmps[k]?:=by cases dst with|none=>rfl|some d=>have:d≠k:=λe=>h (by rw[e]);simp[Act.put,Vq this]
def DT{a:Act}{d:Nat}(h:d<a.tmps.size):(a.put (Z d) v).tmps[d]?=Z v:=by simp[Act.put,h]
def qQ{a:Act}:(a.put dst v).tmps.size=a.tmps.size∧(a.put dst v).defers=a.defers:=by cases dst<;>simp[Act.put]
def cO.J1{s s':bq S}{g:Gh}{w:World}(h:cO [] s g w s' g' w'){l:L Df}{m:L Deferred}(c:j7 g w l m):j7 g' w' l m:=
 c.imp (λt v d=>h.tr t v d (sd t)) λo b e=>by have:=h.tr _ _ (.ptr o 0 b e) (sd _);cases this with|ptr _ _ _ a=>exact a
def qA.meet(G:xe E ops lU.n)(h:qA E ops lU s0 g0 w0 done fr s bl listed g a w)(B:At ops i o)(C:done.testBit i=W)(hl:∀e∈wo o,lZ listed e)(x:ga fr o.dst=W)
  (n:cO [] s g w s g' w') (N:∀d,o.dst=Z d->∀t,fr.get d=Z t->aM g' w' (low t) v):qA E ops lU s0 g0 w0 done fr s bl (listed.setIfInBounds i W) g' (a.put o.dst v) w':=by
 have q:i<listed.size:=by rw[h.JC];exact s8 B
 have r:∀{j:Nat}{p:Oper}{k:Nat},At ops j p->j≠i->p.dst=Z k->o.dst≠Z k:=λf r l c=>((sC G.ds B c).2.2 f (Ne.symm r)).1 l;refine⟨by simpa using h.JC,h.n,h.nb,qQ.1.trans h.TZ,by rw[qQ.2];exact n.J1 h.df,λk t I P=>?_,λj p f b e K=>?_,h.W7,λj p f b=>?_,λj p f b y=>?_,λj p f b y=>?_,λj m b F h1 h2=>?_,h.Aa.trans n.toW,h.fk,h.fl,λj n b=>(eY q).2 (.inl (h.an j n b))⟩
 .by_cases c:o.dst=Z k
  .have H:k<fr.n:=by rw[c]at x;exact fU x
   exact⟨v,by rw[c];exact DT (by rw[h.TZ];exact H),N k c t I⟩
  .obtain ⟨u,R,S⟩:=h.tm k t I λj p f l=>by have h1:=P j p f l;rw[eY q]at h1;refine Iff.trans ⟨.inl,λh=>h.elim id λe=>?_⟩ h1;subst e;have:o=p:=eO (B.symm.trans f);subst this;exact absurd l c
   exact⟨u,by rw[vS c];exact R,n.tr _ _ S (sd _)⟩
 .rw[eY q]at b ⊢;rcases b with b|rfl
  .exact .inl (h.S9 j p f b e K)
  .have:o=p:=eO (B.symm.trans f);subst this;exact .inl (hl e K)
 .rw[eY q]at b;rcases b with b|rfl
  .exact h.ld j p f b
  .exact .inl C
 .exact h.fo j p f b λhl=>y ((eY q).2 (.inl hl))
 .rw[eY q]at b;have A:j≠i:=λe=>by subst e;rw[C]at y;cases y
  have b:lZ listed j:=b.elim id λe=>absurd e.symm A;obtain⟨h1,h2⟩:=h.ea j p f b y;refine⟨λt X d q1 q2 M=>?_,dB h2 n.ext.size⟩;obtain⟨z,r1,r2,r3⟩:=h1 t X d q1 q2 M;exact⟨z,by rw[vS (r f A M)];exact r1,r2.Aa n h.fl,r3⟩
 .rw[eY q]at b F;have b:lZ listed j:=b.elim id λe=>by subst e;rw[C]at h1;cases h1
  have F:lZ listed m:=F.elim id λe=>by subst e;rw[C]at h2;cases h2
  exact h.eb j m b F h1 h2
def at_mem{ops:Array Oper}(h:At ops i o):o∈ops.toList:=g8 (show ops.toList[i]?=Z o from by rw[LJ];exact Fz h)
def qA.abh(hE:eP E)(b:xe E ops lU.n)(h:qA E ops lU s0 g0 w0 done fr s bl listed g a w)(m:At ops i o)(B:done.testBit i=W)(F:¬lZ listed i)(hl:∀e∈wo o,lZ listed e)
  {K:Act->World->Prop} {Q:Exit->Act->World->Prop} (I:∀g' a' w',qA E ops lU s0 g0 w0 done fr s bl (listed.setIfInBounds i W) g' a' w'->K a' w') {rr:O Nat} (M:rr≠Y->∀o∈ops.toList,∀c,o.op≠.defer c):A3 rr E.T.E.P ops Q i K a w:=by
 have z:rr≠Y->∀c,o.op≠.defer c:=λhr=>M hr o (at_mem m);obtain⟨hna,u,hf⟩:=h.fo i o m B F;obtain⟨n,N,P⟩:=h.core.ahB b;have R:∀j,Pre ops.toList i j->lZ listed j∧done.testBit j=W:=λj hj=>⟨mc b.bk (λi o S hl=>h.S9 i o S hl) m hl j hj,h.W7 i o m B j hj⟩;have p:=P m R λj ha X=>by
  have G:¬lZ listed j:=λhlj=>by obtain⟨q,hq,_⟩:=ha;exact F (mc b.bk (λi o S hl=>h.S9 i o S hl) hq (h.S9 j q hq hlj) i X)
  refine⟨G,?_⟩;cases Ie:done.testBit j with|false=>rfl|true=>exact absurd (h.an j ha Ie) G
 have H:hJ ops.toList fr o=hJ ops.toList (rfr (dead ops.toList done listed) fr) o:=nX λk x=>p k (.inr x);have A:∀k∈tmpsOf o.op,fr.get k=(rfr (dead ops.toList done listed) fr).get k:=λk x=>p k (.inl x);unfold A3;simp only[Fz m];rcases hf with⟨f1,f3⟩|⟨f1,t,f2,f3⟩|⟨c,f1,f4,t,f2,f3⟩
 .rw[pN (fr':=rfr (dead ops.toList done listed) fr) λk x=>p k (.inr x)]at f1;rw[br (by rw[Bt n f1];exact Bool.noConfusion)];exact I _ _ _ (h.meet b m B hl u (cO.refl h.Aa.rel) λd f y l=>by rw[f3 d f y l];exact KU)
 .rw[H]at f1;have C:=nW n f1;simp only at C;rw[bJ C];refine .of_wp z (.inl ?_);rw[hU E Y o s Z (iL A)]at f2;refine qu hE n h.Aa.rel (.inl rfl) f2 (λy g' v w' x r ht=>?_);cases x;exact I _ _ _ (h.meet b m B hl u r λd f y l=>(f3 d f y l).rel ht)
 .rw[H]at f1;have C:=nW n f1;simp only at C;rw[hU E (Z c) o s Z (iL (pU (Dk b.us m) A))]at f2;cases c with
  |true=>rw[bJ C];refine .of_wp z (.inl ?_);rw[su W A]at f4;obtain⟨hff,hfn'⟩:=ux n (by rw[N];exact h.nb) f4;refine qu hE hff h.Aa.rel (.inr rfl) f2 (λy g' v w' x r ht=>?_);cases x;exact I _ _ _ (h.meet b m B hl u r λd f y l=>by rw[f3 d f y l];simp only[low];exact .gd _ _ _ λ_=>ht)
  |false=>rw[br (by rw[C];exact Bool.noConfusion)];exact I _ _ _ (h.meet b m B hl u (cO.refl h.Aa.rel) λd f y l=>by rw[f3 d f y l];simp only[low];exact .gd _ _ _ λh=>by cases h)
def qA.abi(hE:eP E)(N:xe E ops lU.n)(h:qA E ops lU s0 g0 w0 done fr s bl listed g a w)(r:At ops i o)(hd:done.testBit i=J)(P:eN o=W)(hnl:¬lZ listed i)(hl:∀e∈wo o,lZ listed e)
  {K:Act->World->Prop} {Q:Exit->Act->World->Prop} (hK:∀Nk a' w',qA E ops lU s0 g0 w0 done fr s Nk (listed.setIfInBounds i W) g a' w'->K a' w') {rr:O Nat} (hrr:rr≠Y->∀o∈ops.toList,∀c,o.op≠.defer c):A3 rr E.T.E.P ops Q i K a w:=by
 have R:rr≠Y->∀c,o.op≠.defer c:=λhr=>hrr hr o (at_mem r);obtain⟨hg,⟨t,ti,S,X⟩,hdn⟩:=Xn N.al r P;obtain⟨xi,dd,z,OS,_,_,_,hz,zf,_⟩:=(hE.Uo.ti _ _ X).all;unfold A3;simp only[Fz r];rw[bJ (by simp[Region.wanted,hg])];refine .of_wp R (.inl ?_);unfold Oper.wp;have hrun:(execOp a.eval o).run E.T.E.P w=.ok (.value (.pointer (Z ⟨w.heap.size,0,Y⟩))) (w.alloc (.cells z.cells t)):=by simp[execOp,S,Instr.alloc,er OS hz,newVar,newRow]
 rw[hrun];simp only[Oper.upon];have C:i<listed.size:=by rw[h.JC];exact s8 r
 have G:=h.Aa.rel;have hsz:(w.alloc (.cells z.cells t)).heap.size=w.heap.size+1:=by simp
 obtain⟨hs',H⟩:=G.grow (fl:=s.fl) (I:=g.bB) (w':=w.alloc (.cells z.cells t)) (λ_ h=>h) (λ_ h=>.inl h) (λb hb=>by have:=G.bB b hb;omega) (by omega) (λb hb=>ot w _ b hb) rfl rfl;have F:∀{j:Nat}{p:Oper}{k:Nat},At ops j p->j≠i->p.dst=Z k->o.dst≠Z k:=λl F x y=>((sC N.ds r y).2.2 l (Ne.symm F)).1 x;refine hK (λj=>if j=i then w.heap.size else bl j) _ _ ⟨by simpa using h.JC,h.n,h.nb,qQ.1.trans h.TZ,by rw[qQ.2];exact h.df.imp (λt v ht=>ht.ext H G.bB) (λ_ _ h=>h),λk t' hk hc=>?_,λj p l f e H=>?_,h.W7,λj p l f=>?_,λj p l f hn=>?_,λj p l f hn=>?_,λj m f hm h1 h2 Z3 A hms=>?_,?_,h.fk,h.fl,λj ha f=>(eY C).2 (.inl (h.an j ha f))⟩
 .have y:o.dst≠Z k:=λe=>by have:=(hc i o r e).1 ((eY C).2 (.inr rfl));rw[hd]at this;cases this
  obtain⟨u,hu,ht⟩:=h.tm k t' hk λj p l x=>by have h1:=hc j p l x;rw[eY C]at h1;refine Iff.trans ⟨.inl,λh=>h.elim id λe=>?_⟩ h1;subst e;have:o=p:=eO (r.symm.trans l);subst this;exact absurd x y
  exact⟨u,by rw[vS y];exact hu,ht.ext H G.bB⟩
 .rw[eY C]at f ⊢;rcases f with f|rfl
  .exact .inl (h.S9 j p l f e H)
  .have:o=p:=eO (r.symm.trans l);subst this;exact .inl (hl e H)
 .rw[eY C]at f;rcases f with f|rfl
  .exact h.ld j p l f
  .have:o=p:=eO (r.symm.trans l);subst this;exact .inr P
 .exact h.fo j p l f λhl=>hn ((eY C).2 (.inl hl))
 .by_cases B:j=i
  .subst B;have:o=p:=eO (r.symm.trans l);subst this;simp only[fY];refine⟨λt' ti' d q1 q2 q3=>?_,by omega⟩;rw[S]at q1;cases q1;rw[X]at q2;cases q2;have Z8:d<a.tmps.size:=by rw[h.TZ,h.n];exact hdn d q3
   refine⟨z.cells,by rw[q3];exact DT Z8,⟨h.Aa.ext.size,by omega,λTk=>?_,λk hO=>?_,t,vQ w _⟩,zf⟩
   .have:=G.bB _ Tk;omega
   .have:=(G.qT hO).1;omega
  .rw[eY C]at f;have f:lZ listed j:=f.elim id λe=>absurd e.symm B;obtain⟨h1,h2⟩:=h.ea j p l f hn;simp only[br B];refine⟨λt ti d q1 q2 q3=>?_,by omega⟩;obtain⟨z',r1,M,r3⟩:=h1 t ti d q1 q2 q3;obtain⟨ty,r4⟩:=M.mem;exact⟨z',by rw[vS (F l B q3)];exact r1,⟨M.new,by have:=M.lt;omega,M.bB,M.own,ty,by rw[ot w _ _ M.lt];exact r4⟩,r3⟩
 .have hlt:∀j,lZ listed j->done.testBit j=J->j<ops.size->bl j<w.heap.size:=λj f Ie A=>by
   have CV:At ops j ops[j]:=by simp[At,A]
   exact(h.ea j _ CV f Ie).2
  rw[eY C]at f hm;by_cases n:j=i<;>by_cases q:m=i
  .omega
  .rw[bJ n,br q];have:=hlt m (hm.elim id λe=>absurd e.symm q) h2 hms;omega
  .rw[br n,bJ q];have:=hlt j (f.elim id λe=>absurd e.symm n) h1 A;omega
  .rw[br n,br q];exact h.eb j m (f.elim id λe=>absurd e.symm n) (hm.elim id λe=>absurd e.symm q) h1 h2 Z3 A hms
 .have hx:pL s.lo s.fl g w g (w.alloc (.cells z.cells t)):=Ext.Ho s.lo H;exact⟨hs',h.Aa.ext.trans (h.Aa.fl▸h.Aa.lo▸hx),h.Aa.fl,h.Aa.lo,h.Aa.aJ,h.Aa.vo,h.Aa.same,h.Aa.GO⟩
end
end
section
section
variable {E:gl S}{ops:Array Oper}{lU:bY S}{s0:bq S}{g0:Gh}{w0:World}{done:Nat}{fr:bY S}{s:bq S}{bl:Nat->Nat}{listed:Array Bool}{g:Gh}{a:Act}{w:World}
def S0(l:L Oper):((ql l).map (·.1)).Nodup:=by
 have:(ql l).map (·.1)=List.range l.length:=by unfold ql;rw[List.map_map];have:((λx:Nat×Oper=>x.1)∘λp:Oper×Nat=>(p.2,p.1))=Prod.snd:=rfl;rw[this,List.zipIdx_map_snd];simp[List.range_eq_range']
 rw[this];exact List.nodup_range
def qA.tg(N:xe E ops lU.n)(h:qA E ops lU s0 g0 w0 done fr s bl listed g a w){c:Nat}{F:bY S}{P:bq S}(R:tg E.T c (ql ops.toList) fr s=Z (F,P))
  (X:∀j,c.testBit j=W->lZ listed j∧(wK (ql ops.toList) done).testBit j=W) (hcl:∀j,c.testBit j=W->∀m,Pre ops.toList j m->done.testBit m=W∨c.testBit m=W) :
  ∃I,Adp E.T c (ql ops.toList) fr s g w a F P I∧Sa E ops lU s0 g0 w0 (done||| c) F P listed I a w:=by
 have n:∀{j:Nat}{o:Oper},At ops j o->c.testBit j=W->lZ listed j∧eN o=W∧done.testBit j=J:=λ{j o}y A=>by obtain⟨h1,h2⟩:=X j A;obtain⟨o',ho',h3,h4⟩:=(ua done j).1 h2;have:o=o':=eO (y.symm.trans ho');subst this;exact⟨h1,h3,h4⟩
 have f:∀{p:Nat×Oper},p∈ql ops.toList->At ops p.1 p.2:=λ{p}r=>iR.1 r;obtain⟨I,l⟩:=Nu (w0:=w0) (bl:=bl) R h.nb h.Aa.rel (λp r B=>by
   obtain⟨h1,_,h3⟩:=n (f r) B;exact(h.ea p.1 p.2 (f r) h1 h3).1) (S0 _) (λp r q K nV hqw G=>by
   obtain⟨h1,_,h3⟩:=n (f r) nV;obtain⟨h4,_,h6⟩:=n (f K) hqw;exact h.eb p.1 q.1 h1 h4 h3 h6 G (s8 (f r)) (s8 (f K))) (λp r q K G d C=>((sC N.ds (f r) C).2.2 (f K) G).1)
 refine⟨I,l,⟨l.n.trans h.n,by rw[l.n];exact h.nb,by rw[l.n];exact h.TZ,by rw[Er,l.J1];exact h.df.imp (λ_ _ ht=>ht.le l.le) l.le.cj,λk t hk hc=>?_,λj p r A m hm=>?_,?_⟩⟩
 .by_cases H:∃p∈ql ops.toList,c.testBit p.1=W∧p.2.dst=Z k
  .exact l.new k H t hk
  .rw[l.old k λp r B C=>H ⟨p,r,B,C⟩]at hk;obtain⟨v,hv,ht⟩:=h.tm k t hk λi o hi C=>by have h1:=hc i o hi C;rw[yL,j0]at h1;exact h1.trans ⟨λh=>h.elim id λB=>absurd ⟨(i,o),iR.2 hi,B,C⟩ H,.inl⟩
   exact⟨v,hv,ht.le l.le⟩
 .rw[yL,j0]at A ⊢;rcases A with A|A
  .exact .inl (h.W7 j p r A m hm)
  .exact hcl j A m hm
 .have u:=h.Aa;refine⟨l.rel,⟨λo b e=>l.le.cj o b (u.ext.cj o b e),λo e x hl k=>l.le.arr o e x (u.ext.arr o e x hl k),λb M=>l.le.bB b (u.ext.bB b M),u.ext.size,u.ext.heap,λo b hl hO=>?_,λb M=>u.ext.uq b (by rw[l.bB]at M;exact M),u.ext.os,u.ext.output⟩,l.fl.trans u.fl,l.lo.trans u.lo,fJ u.aJ l.aJ,λo y=>by rw[l.wr];exact u.vo o y,λo y hn=>?_,λo y=>by rw[l.dr];exact u.GO o y⟩
  .rcases l.own o b hO with hO|⟨p,r,B,d,C,htm⟩
   .exact u.ext.own o b hl hO
   .obtain ⟨h1,_,h3⟩:=n (f r) B;obtain⟨t,ti,d',e1,e2,e3,_⟩:=l.aay p r B;obtain⟨z,r1,r2,_⟩:=(h.ea p.1 p.2 (f r) h1 h3).1 t ti d' e1 e2 e3;have:d=d':=eO (C.symm.trans e3);subst this;rw[htm]at r1;cases r1;exact .inr r2.new
  .rw[l.ob o (dB y u.aJ)];exact u.same o y (by rw[l.wr]at hn;exact hn)
variable {ow:List Nat}{k:Nat}{v:V S}
def uz(h:(ei ow fr).get k=Z v):fr.get k=Z v∧dJ ow (low v)=J:=by cases ow with|nil=>exact⟨h,sd _⟩|cons o ow=>simp only[ei,bY.get,Tr.oU]at h;rw[QV]at h;refine⟨h.1,?_⟩;have:=h.2;rw[jQ];simpa using this
def zn(h:fr.get k=Z v)(a:gX ow v=J):(ei ow fr).get k=Z v:=by cases ow with|nil=>exact h|cons o ow=>simp only[ei,bY.get,Tr.oU];rw[QV];exact⟨h,by simp[a]⟩
def MK{call:iH S}{l:L Oper}{o:Oper}{ω:Type}{kp:V S->bq S->O ω}{k:V S->bq S->L Nat->O ω}{r:ω}(h:mN E call l o fr s kp k=Z r):ga fr o.dst=W:=by
 unfold mN at h;rcases af h with⟨a,_⟩|⟨_,h⟩
 .exact a
 .cases h
def UI{done i:Nat}{aJ:Nat}{wr:L Nat}:∀{l:Uj},Dt ops.toList (uN ops.toList) done i fr aJ wr ow l=W->∀{j:Nat}{p:Oper},(j,p)∈l->done.testBit j=W->eN p=J->¬Pre ops.toList i j->
  (jl (eI wr aJ) fr p.op=J∧jl (eI wr aJ) (m6 fr p.op) p.op=J)∨(LQ p.op=W∧jl (λx=>ow.contains x) fr p.op=J∧jl (λx=>ow.contains x) (m6 fr p.op) p.op=J):=by
 intro l
 induction l with
 |nil=>intro _ j p hm;cases hm
 |cons q l d=>
  intro h j p hm c a b;obtain⟨f,g⟩:=q;simp only[Dt,ec]at h;rcases eU.1 hm with e|hm
  .cases e;have h1:=h.1;simp only[c,a,Ai,HA]at h1;rw[j0]at h1;rcases h1 with h1|h1
   .exact absurd h1 b
   .simpa using h1
  .exact d h.2 hm c a b
end
end
end TL
end
end
