import Derived.Scope
import Derived.Recover
import Derived.Test.YtdddliieplcejaaGreatV2
set_option linter.all false
set_option maxRecDepth 100000
set_option maxHeartbeats 0
noncomputable section
open Option renaming some->Z,none->Y
open Bool renaming true->W,false->J
section
namespace TL
open Go
variable {S:Sg}
section
section
variable {g:Gh}{w:World}
def jD(s:aW S)(o:Nat)(ob:Ob):St:={aq s with ob:=(aq s).ob.set aA o ob}
variable {s s':aW S}{o n j era m gf k r i off:Nat}{hole:Option Nat}{hl:List Value}{d:D}{h v:Value}{a:Act}
def EM(hs:aU g (aq s) w){l:L (S.A n)}{x:eX}(a:s.ob.get o=Z (.jL n j l era m gf hole))(b:g.arr o era=Z x) :
  ∃hl,hl.length=l.length∧tZ g w J (S.width (.st n)) (lits j (l.map (enc S (.st n))) hl) x∧EI g m gf hole hl∧aU g (jD s o (.arr (S.width (.st n)) (lits j (l.map (enc S (.st n))) hl) era)) w:=by
 obtain⟨hl,h1,h2,h3,h4⟩:=hs.view (by rw[aE,a];rfl) b;exact⟨hl,by simpa using h1,h2,h3,h4⟩
def wF{s1:St}(h:aU g s1 w){l:L (S.A n)}(a:o<bg)(h1:s1.ob.get o=Z (.arr (S.width (.st n)) (lits j (l.map (enc S (.st n))) hl) era))(b:hl.length=l.length)
  (d:EI g m gf hole hl) (h2:s'.ob.get o=Z (.jL n j l era m gf hole)) (h3:∀k,k≠o->(aq s').ob.get k=s1.ob.get k) (h4:s'.au=s1.au):aU g (aq s') w:=by
 refine(h.Ri (es:=l.map (enc S (.st n))) a h1 (by simpa using b) d).Tw h4 λk=>?_;show _=(s1.ob.set aA o _).get k;rw[Tr.aO _ _ _ _ a];by_cases c:k=o
 .subst c;rw[aY rfl,aE,h2];rfl
 .rw[bK c,h3 k c]
def fJ(a:o<bg)(ob:Ob)(k:Nat):(jD s o ob).ob.get k=if k=o then Z ob else(aq s).ob.get k:=Tr.aO _ _ _ _ a
def He{es:L D}(h1:es[k]?=Z d)(h2:hl[k]?=Z h):D.el (lits j es hl) k=ic j d h:=by simp[D.el,lits,List.getD,GL,h1,h2]
def Gv(h:aC g w (.sh o r) v):∃x,g.arr o r=Z x∧v=.slice x.a x.len x.cap:=by cases h with|sh _ _ len cap sz a b=>exact⟨_,b,rfl⟩
def Oj{e:Nat}(h:aC g w (.jV o e i off) v):∃x,g.arr o e=Z x:=by cases h with|jV _ _ _ _ len cap sz b a=>exact⟨_,a⟩
def NX(h:aC g w (.pL o m r i) v):∃y,g.arr m (rc r i)=Z y∧v=.slice y.a y.len y.cap:=by cases h with|pL _ _ _ _ len cap sz a b=>exact⟨_,b,rfl⟩
def Pp(fr:Fr)(x:Operand)(t:T):Fr:=match x with
 | .tmp k=>{fr with tm:=fr.tm.set aA k t}
 |_=>fr
def I3{fr:Fr}(hf:cg g fr a w){u t:T}(f:fr.get k=Z u)(b:k<bg)(i:aC g w t (a.eval (.tmp k))):cg g (Pp fr (.tmp k) t) a w:=by
 refine⟨hf.size,hf.df,λc j h=>?_⟩;simp only[Pp,Fr.get]at h;rw[Tr.aO _ _ _ _ b]at h;split at h
 .rename_i e;subst e;cases h;obtain⟨v,d,_⟩:=hf.tm _ _ f;refine⟨v,d,?_⟩;have:a.eval (.tmp c)=v:=by simp[Act.eval,d]
  rw[<-this];exact i
 .exact hf.tm c j h
def Pv{i:TI}(b:Nat.ble (Nat.add off i.size) j=W∨Nat.blt j off=W):mP i (ic j d h) off=mP i d off:=by
 have a:∀q,(off<=q∧q<off+i.size)->(ic j d h).cell q=d.cell q:=by
  intro q e;have c:j≠q:=by
   rcases b with b|b
   .have:=eN b;simp only[Nat.add_eq]at this;omega
   .have:j<off:=eN b;omega
  show(d.cells.set j _).getD q _=d.cells.getD q _;simp only[List.getD,IJ c]
 unfold mP;cases i.agg with
 |true=>
  simp only[cn]
  congr 2
  refine II λq e=>?_;have:=a (Nat.add off q) ⟨Nat.le_add_right _ _,Nat.add_lt_add_left (IQ.1 e) _⟩;rw[this]
 |false=>
  simp only[cM];cases f:Nat.beq i.size 1 with|true=>have:=beq_iff'.1 f;simp only[cn];rw[a off ⟨bS _,by omega⟩]|false=>rfl
def Iu(s:St):∀{l:L T}{p:Prop}{ds:L D}{os:L Nat}{j:Nat},kQ s l=Z (p,ds,os)->l[j]?=Z .emp->∀v,∃b,kQ s (l.set j (.sym (.lit v)))=Z (b,ds.set j (.lit v),os)∧(p->b)∧ds[j]?=Z (.sl [])
 |[],p,ds,os,j,_,a,v=>by simp at a
 |t::l,p,ds,os,j,h,a,v=>by
  simp only[kQ]at h;split at h
  .rename_i q d c r e f h1 h2;simp only[aV,bq]at h;obtain⟨rfl,rfl,rfl⟩:=h;cases j with
   |zero=>simp only[qT,aV]at a;subst a;simp only[ud,aV,bq]at h1;obtain⟨rfl,rfl,rfl⟩:=h1;exact⟨True∧r,by simp only[ND,kQ,ud,h2],λh=>h,rfl⟩
   |succ j=>obtain⟨b,g,i,k⟩:=Iu s h2 (by simpa using a) v;exact⟨q∧b,by simp only[List.set_cons_succ,kQ,h1,g],λh=>⟨h.1,i h.2⟩,by simpa using k⟩
  .cases h
def VQ{E:fX}(hS:eR S)(hT:yb E.E)(Vb:MO S E){fr:bI S}(hf:cg g (bh fr) a w)(hs:aU g (aq s) w)(o:Oper){c:Bool}{t:V S}(h:yG E fr s o.op=Z (c,t,s'))(hc:c=W) :
  ∃v w' g',((execOp a.eval o).run E.E.P w=.ok (.value v) w'∨((execOp a.eval o).run E.E.P w=.ok .skip w'∧v=undef))∧aC g' w' (low t) v∧cr [] s g w s' g' w':=by
 unfold yG at h;split at h
 ·
  rename_i ty x ix H;split at h;rotate_left
  .cases h
  rename_i I r Q;split at h;rotate_left
  .cases h
  rename_i n j l era m gf hole R;split at h;rotate_left
  .cases h
  rename_i i n' kv hi Jv hix;split at h;rotate_left
  .cases h
  rename_i sz ag bt zz k rY X;rcases aa h with⟨hb,b⟩|⟨_,b⟩;rotate_left
  .cases b
  simp only[dI]at hb;have Wu:=beq_iff'.1 hb.1;subst Wu;have hnn:=beq_iff'.1 hb.2;subst hnn;simp only[aV,bq]at b;obtain⟨rfl,rfl,rfl⟩:=b;obtain⟨xs,C,_⟩:=Gv (cL hf Q);have f:I<bg:=gN (hs.lt' C) hs.au;obtain⟨hl,h1,h2,h3,h4⟩:=EM hs R C;obtain⟨p,hp1,hp⟩:=fB X;obtain⟨⟨z,Jx,_⟩,_⟩:=Vb.row _ _ _ hi Jv;have hin:=sX hc;have hbq:Nat.beq (S.width (.st n)) (S.width (.st n))=W:=beq_iff'.2 rfl;have B:(lits j (l.map (enc S (.st n))) hl).length=l.length:=by rw[kH (by simpa using h1)];simp
  obtain⟨⟨v,w',g',hr,A,P,ht⟩,q1,q2,q3⟩:=lq hT hf h4 o (p:=p∧D.En k (D.len (lits j (l.map (enc S (.st n))) hl))) (t:=.jV I r (D.nat k) 0) (s':=jD s I (.arr (S.width (.st n)) (lits j (l.map (enc S (.st n))) hl) r)) (by
   rw[H];simp only[mA,hi,bP Q,bP hix,jT,Jx,hp1,low,EF];rw[fJ f,aY rfl];simp only[show Nat.beq r r=W from beq_iff'.2 rfl,cn,hbq]) ⟨hp,by simp only[D.En,D.len,B];omega⟩
  refine⟨v,w',g',hr,ht,cr.j5 hs ?_ P rfl rfl (bS _) (g7.refl _)⟩;refine wF A f (by rw[fJ f,aY rfl]) h1 (h3.le (λj y=>P.arr m j y)) R (λk X=>by rw[fJ f,bK X]) rfl
 ·
  rename_i ty x H;split at h;rotate_left
  .cases h
  rename_i I e k off Q;split at h;rotate_left
  .cases h
  rename_i n j l era m gf hole R;split at h;rotate_left
  .cases h
  rename_i i hi;rcases aa h with⟨hb,b⟩|⟨_,b⟩;rotate_left
  .cases b
  clear h;have Wu:=beq_iff'.1 hb;subst Wu;obtain⟨xs,C⟩:=Oj (cL hf Q);have f:I<bg:=gN (hs.lt' C) hs.au;obtain⟨hl,h1,h2,h3,h4⟩:=EM hs R C;have B:(lits j (l.map (enc S (.st n))) hl).length=l.length:=by rw[kH (by simpa using h1)];simp
  have back:∀{g':Gh}{w':World},aU g' (jD s I (.arr (S.width (.st n)) (lits j (l.map (enc S (.st n))) hl) e)) w'->Ext s.fl g w g' w'->cr [] s g w s g' w':=λA P=>
   cr.j5 hs (wF A f (by rw[fJ f,aY rfl]) h1 (h3.le (λj y=>P.arr m j y)) R (λk X=>by rw[fJ f,bK X]) rfl) P rfl rfl (bS _) (g7.refl _)
  rcases aa b with⟨hj,h⟩|⟨hj,h⟩
  ·
   clear b;rcases aa h with⟨F,b⟩|⟨_,b⟩;rotate_left
   .cases b
   simp only[dI,As]at F;simp only[aV,bq]at b;obtain⟨rfl,rfl,rfl⟩:=b;have hoff:=beq_iff'.1 hj;subst hoff;have X:=qu hc;have hel:D.el (lits off (l.map (enc S (.st n))) hl) k=ic off (enc S (.st n) l[k]) (hl[k]'(by omega)):=He (by rw[gj,eS X];rfl) (eS _);have hrow:=h2.rows _ (gk (by rw[lits,GL,gj,eS X,eS (by omega:k<hl.length)];rfl:(lits off (l.map (enc S (.st n))) hl)[k]?=Z (ic off (enc S (.st n) l[k]) (hl[k]'(by omega)))));have hsz:i.size=1:=beq_iff'.1 F.1;have K:off<S.width (.st n):=eN F.2.2.2;have hcell:(ic off (enc S (.st n) l[k]) (hl[k]'(by omega))).cell off=.lit (hl[k]'(by omega)):=by
    show((enc S (.st n) l[k]).cells.set off _).getD off _=_;have:off<(enc S (.st n) l[k]).cells.length:=by rw[js hS];exact K
    simp[List.getD,this]
   obtain⟨⟨v,w',g',hr,A,P,ht⟩,q1,q2,q3⟩:=lq hT hf h4 o (t:=.sym (.lit (hl[k]'(by omega)))) (s':=jD s I (.arr (S.width (.st n)) (lits off (l.map (enc S (.st n))) hl) e)) (p:=D.En (k:Int) (D.len (lits off (l.map (enc S (.st n))) hl))∧(D.el (lits off (l.map (enc S (.st n))) hl) k).has (Nat.add off i.size)) (by
    rw[H];simp only[mA,hi,bP Q,low,loadT,EF];rw[fJ f,aY rfl];simp only[show Nat.beq e e=W from beq_iff'.2 rfl,cn,hel,mP,F.2.1,cM,F.1,hcell,dG]) ⟨by simp only[D.En,D.len,B];omega,by
     rw[hel];show Nat.add off i.size<=_;rw[hrow,hsz];exact K⟩
   have hv:=aC.Hp ht;obtain⟨y,hy,hye⟩:=h3.2 k _ (eS (by omega)) (by
    intro e;rw[e]at F;exact Bool.noConfusion F.2.2.1)
   refine⟨v,w',g',hr,?_,back A P⟩;rw[hv,hye];exact .pL _ _ _ _ _ _ y.sz _ (P.arr _ _ _ hy)
  ·
   clear b;rcases aa h with⟨F,b⟩|⟨_,b⟩;rotate_left
   .cases b
   simp only[ec,bq]at b;obtain⟨u,hu,rfl,rfl,rfl⟩:=b;rw[ir]at F;have X:=qu hc;obtain⟨p1,p2⟩:=yF hS (i:=i) (τ:=Y) (λu h=>by cases h) hu;have hex:aT l k (S.zero (.st n))=l[k]:=by simp[aT,List.getD,X]
   rw[hex]at p1 p2;have hel:D.el (lits j (l.map (enc S (.st n))) hl) k=ic j (enc S (.st n) l[k]) (hl[k]'(by omega)):=He (by rw[gj,eS X];rfl) (eS _);obtain⟨⟨v,w',g',hr,A,P,ht⟩,q1,q2,q3⟩:=lq hT hf h4 o (t:=low u) (s':=jD s I (.arr (S.width (.st n)) (lits j (l.map (enc S (.st n))) hl) e)) (p:=D.En (k:Int) (D.len (lits j (l.map (enc S (.st n))) hl))∧(D.el (lits j (l.map (enc S (.st n))) hl) k).has (Nat.add off i.size)) (by
    rw[H];simp only[mA,hi,bP Q,low,loadT,EF];rw[fJ f,aY rfl];simp only[show Nat.beq e e=W from beq_iff'.2 rfl,cn,hel,Pv F,p1,dG]) ⟨by simp only[D.En,D.len,B];omega,by
     rw[hel];show Nat.add off i.size<=((enc S (.st n) l[k]).cells.set j _).length;rw[BH];exact p2⟩
   exact⟨v,w',g',hr,ht,back A P⟩
 ·
  rename_i ty x G H;split at h;rotate_left
  .cases h
  rename_i I e k off M m' r i Q hy;split at h;rotate_left
  .cases h
  rename_i n j l era m gf hh R;split at h;rotate_left
  .cases h
  rename_i ti hi;rcases aa h with⟨hb,b⟩|⟨_,b⟩;rotate_left
  .cases b
  clear h;simp only[dI,As]at hb;obtain⟨b1,b2,b3,b4,b5,b6,b7,b8,b9,b10⟩:=hb;have e1:=beq_iff'.1 b1;subst e1;have e2:=beq_iff'.1 b2;subst e2;have e3:=beq_iff'.1 b3;subst e3;have e4:=beq_iff'.1 b4;subst e4;have e5:=beq_iff'.1 b5;subst e5;simp only[aV,bq]at b;obtain⟨rfl,rfl,rfl⟩:=b;unfold Ta at hc;simp only[dI]at hc;have X:=qu hc.1;have e6:=beq_iff'.1 hc.2.1;subst e6;have e7:=beq_iff'.1 hc.2.2;subst e7;obtain⟨xs,C⟩:=Oj (cL hf Q);have f:M<bg:=gN (hs.lt' C) hs.au;obtain⟨hl,h1,h2,h3,h4⟩:=EM hs R C;have B:(lits off (l.map (enc S (.st n))) hl).length=l.length:=by rw[kH (by simpa using h1)];simp
  have K:off<S.width (.st n):=eN b9;have hfl:=b8;have hval:=cL hf (x:=.tmp G) (v:=.pL M m' r i) hy;obtain⟨y,hy1,hye⟩:=NX hval;have hel:D.el (lits off (l.map (enc S (.st n))) hl) i=ic off (enc S (.st n) l[i]) (hl[i]'(by omega)):=He (by rw[gj,eS X];rfl) (eS _);have hf':=I3 hf (k:=G) (u:=low (.pL M m' r i)) (t:=.sym (.lit (.slice y.a y.len y.cap))) (by show(bh fr).get G=_;rw[bF,hy];rfl) (eN b10) (by rw[hye];exact .sym _ _ (.lit _));have ZG:iQ (Pp (bh fr) (.tmp G) (.sym (.lit (.slice y.a y.len y.cap)))) (.tmp G)=Z (.sym (.lit (.slice y.a y.len y.cap))):=by show((bh fr).tm.set aA G _).get G=_;rw[Tr.aO _ _ _ _ (eN b10),aY rfl]
  have aiy:iQ (Pp (bh fr) (.tmp G) (.sym (.lit (.slice y.a y.len y.cap)))) x=Z (.jV M e i off):=by
   have h0:=bP Q;cases x with
   |tmp k2=>
    show((bh fr).tm.set aA G _).get k2=_;rw[Tr.cT _ _ _ _ _ (λe=>by
     subst e;have h5:fr.get k2=Z (.jV M e i off):=Q;rw[hy]at h5;cases h5)]
    exact h0
   |_=>exact h0
  have acV:(ic off (enc S (.st n) l[i]) (hl[i]'(by omega))).Nj off [.lit (.slice y.a y.len y.cap)]=ic off (enc S (.st n) l[i]) (.slice y.a y.len y.cap):=by
   have hlt:off<(enc S (.st n) l[i]).cells.length:=by rw[js hS];exact K
   show D.agg _=D.agg _
   congr 1
   rw[List.take_set_of_le (bS _),IK,List.drop_set_of_lt (Nat.lt_succ_self _)];apply IX;intro q;simp only[nS,kR,qh,GK,uF,Au,IK];rcases Nat.lt_trichotomy q off with hq|hq|hq
   .rw[aY (by omega),aY hq,bK (by omega)]
   .subst hq;rw[bK (by omega),aY (by omega),aY rfl,aY hlt];simp[Nat.min_eq_left (BL hlt)]
   .rw[bK (by omega),bK (by omega),bK (by omega)]
    congr 1
    omega
  have hby:(ic off (enc S (.st n) l[i]) (.slice y.a y.len y.cap)).pZ=(ic off (enc S (.st n) l[i]) (hl[i]'(by omega))).pZ:=by obtain⟨a0,n0,m0,he0⟩:=h3.1 i _ (eS (by omega:i<hl.length));rw[he0,<-xy off (enc S (.st n) l[i]) [] a0 n0 m0,<-xy off (enc S (.st n) l[i]) [] y.a y.len y.cap]
  have hleaf:(D.lit (.slice y.a y.len y.cap)).leaf=W:=rfl;have Qh:(ic off (enc S (.st n) l[i]) (hl[i]'(by omega))).isAgg (S.width (.st n))=W:=by
   obtain⟨a0,n0,m0,he0⟩:=h3.1 i _ (eS (by omega:i<hl.length));rw[he0];show(Nat.beq (bU ((enc S (.st n) l[i]).cells.set off _)) _&&((enc S (.st n) l[i]).cells.set off _).all D.leaf)=W;rw[dI,bA,BH,js hS];refine⟨beq_iff'.2 rfl,dU.2 λd hd=>?_⟩;rcases NK hd with hd|rfl
   .rw[show(enc S (.st n) l[i]).cells=fV S (S.fs n) (S.get n l[i])from hS.cells n _]at hd;exact gu _ _ (hS.leaf n) d hd
   .rfl
  have hput:D.put (lits off (l.map (enc S (.st n))) hl) i (ic off (enc S (.st n) l[i]) (.slice y.a y.len y.cap))=lits off (l.map (enc S (.st n))) (hl.set i (.slice y.a y.len y.cap)):=by
   apply IX;intro q;simp only[D.put,lits];by_cases hq:i=q
   .subst hq;rw[IL (by simp;omega),GL,gj,IL (by omega),eS X];rfl
   .rw[IJ hq,GL,GL,IJ hq]
  obtain⟨⟨v,w',g',hr,A,P,ht⟩,q1,q2,q3⟩:=lq hT hf' h4 o (t:=Nk) (s':={jD s M (.arr (S.width (.st n)) (lits off (l.map (enc S (.st n))) hl) e)with ob:=(jD s M (.arr (S.width (.st n)) (lits off (l.map (enc S (.st n))) hl) e)).ob.set aA M (.arr (S.width (.st n)) (lits off (l.map (enc S (.st n))) (hl.set i (.slice y.a y.len y.cap))) e)})
   (p:=(D.lit (.slice y.a y.len y.cap)).leaf=W∧(True∧True)∧[D.lit (.slice y.a y.len y.cap)].all D.leaf=W∧D.En (i:Int) (D.len (lits off (l.map (enc S (.st n))) hl))∧(ic off (enc S (.st n) l[i]) (hl[i]'(by omega))).Np (S.width (.st n)) off (bU [D.lit (.slice y.a y.len y.cap)])∧Nat.ble (Nat.add off (bU [D.lit (.slice y.a y.len y.cap)])) (S.width (.st n))=W∧((ic off (enc S (.st n) l[i]) (hl[i]'(by omega))).Nj off [.lit (.slice y.a y.len y.cap)]).pZ=(ic off (enc S (.st n) l[i]) (hl[i]'(by omega))).pZ) (by
   rw[H];have hg:=fJ (s:=s) f (.arr (S.width (.st n)) (lits off (l.map (enc S (.st n))) hl) e) M;rw[aY rfl]at hg;have ai4:Nat.ble (jD s M (.arr (S.width (.st n)) (lits off (l.map (enc S (.st n))) hl) e)).fl M=W:=b8;simp only[mA,hi,aiy,ZG,storeT,ij,b7,b6,cM,cn,kQ,ud,mD,freeze,hg,ai4,show Nat.beq e e=W from beq_iff'.2 rfl,E6,hel,acV,hput]) ⟨rfl,⟨trivial,trivial⟩,rfl,⟨Int.natCast_nonneg _,by show(i:Int)<((lits off (l.map (enc S (.st n))) hl).length:Int);rw[B];exact Int.ofNat_lt.2 X⟩,.inl Qh,Av (by show off+1<=_;omega),by rw[acV,hby]⟩
  have hgn:∀q,({jD s M (.arr (S.width (.st n)) (lits off (l.map (enc S (.st n))) hl) e)with ob:=(jD s M (.arr (S.width (.st n)) (lits off (l.map (enc S (.st n))) hl) e)).ob.set aA M (.arr (S.width (.st n)) (lits off (l.map (enc S (.st n))) (hl.set i (.slice y.a y.len y.cap))) e)}:St).ob.get q=if q=M then Z (.arr (S.width (.st n)) (lits off (l.map (enc S (.st n))) (hl.set i (.slice y.a y.len y.cap))) e)else(jD s M (.arr (S.width (.st n)) (lits off (l.map (enc S (.st n))) hl) e)).ob.get q:=λq=>Tr.aO _ _ _ _ f
  refine⟨v,w',g',hr,ht,cr.j5 hs (wF A (hl:=hl.set i (.slice y.a y.len y.cap)) f (by rw[hgn,aY rfl]) (by simpa using h1) ⟨λq hv hq=>?_,λq hv hq _=>?_⟩ (by show(s.ob.set aA M _).get M=_;rw[Tr.aO _ _ _ _ f,aY rfl]) (λq hq=>?_) rfl) P rfl rfl (bS _) (qL _ _ _)⟩
  .rw[GK]at hq;split at hq
   .rw[aY (by omega)]at hq;cases hq;exact⟨_,_,_,rfl⟩
   .exact h3.1 q hv hq
  .rw[GK]at hq;split at hq
   .rename_i e;subst e;rw[aY (by omega)]at hq;cases hq;exact⟨y,P.arr _ _ _ hy1,rfl⟩
   .rename_i e;obtain⟨yy,k1,k2⟩:=h3.2 q hv hq (λh=>e (ew h));exact⟨yy,P.arr _ _ _ k1,k2⟩
  .rw[hgn,bK hq,fJ f,bK hq,aE,aE];show((s.ob.set aA M _).get q).map cz=_;rw[Tr.aO _ _ _ _ f,bK hq]
 ·
  rename_i ty len parts H;split at h;rotate_left
  .rename_i N;split at h;rotate_left
   .cases h
   rename_i i e hi Jv;split at h;rotate_left
   .cases h
   rename_i sz ag bt zz rY;rcases aa h with⟨hb,b⟩|⟨_,b⟩;rotate_left
   .cases b
   simp only[aV,bq]at b;obtain⟨_,rfl,rfl⟩:=b;have B:len=0:=beq_iff'.1 hb;subst B;have hle:Nat.ble (Nat.mul 0 sz) 16777216=W:=by rw[show Nat.mul 0 sz=0 from Nat.zero_mul sz];rfl
   have h0:bV E fr s o.op=Z (W,.ja 0 e [],s):=by rw[H];simp only[bV,hi,Jv,N,gW,rY,hle,cn,List.replicate_zero,lB,cY,dG]
   obtain⟨p,aiz,hp⟩:=Jf hS Vb h0 rfl;obtain⟨⟨v,w',g',hr,A,P,ht⟩,q1,q2,q3⟩:=lq hT hf hs o aiz hp;refine⟨v,w',g',hr,?_,cr.j5 hs A P q1 q2 q3 (j8 (show cY s []=Z s from rfl))⟩;cases ht with|ja _ _ a0 hn0 hd=>exact .emp a0
  .cases h
  rename_i G N;split at h;rotate_left
  .cases h
  rename_i i n cs hi Jv hkx;split at h;rotate_left
  .cases h
  rename_i j hnst;split at h;rotate_left
  .cases h
  rename_i sz ag bt zz rY hnj;rcases aa h with⟨hb,b⟩|⟨_,b⟩;rotate_left
  .cases b
  clear h;split at b;rotate_left
  .cases b
  rename_i x os Q;simp only[ec,bq]at b;obtain⟨s1,Eo,_,rfl,rfl⟩:=b;simp only[dI]at hb;have adn:=beq_iff'.1 hb.1;subst adn;have hkN:G<bg:=eN hb.2.2;obtain⟨⟨z,Jx,hz⟩,_,_,hpos⟩:=Vb.row _ _ _ hi Jv;rw[rY]at Jx;obtain⟨rfl,rfl,rfl,rfl⟩:=Kd.slice.inj Jx;have hfz:=cP hS os Eo;have hval:=cL hf (x:=.tmp G) (v:=.agg cs) hkx;generalize hve:a.eval (.tmp G)=ve at hval;obtain⟨vs,rfl,m8⟩:=aC.N1 hval;have hcj:(aX cs)[j]?=Z .emp:=by rw[iR]at hnj;rw[fP,gj,hnj];rfl
  obtain⟨vj,hvj⟩:∃vj,vs.toList[j]?=Z vj:=by have:=ax hcj;exact⟨_,eS (by have:=m8.1;omega)⟩
  have ajd:=m8.2 j _ _ hcj hvj;obtain⟨c,rfl⟩:∃c,vj=.slice c 0 0:=by cases ajd with|emp c=>exact⟨c,rfl⟩
  have acT:aC g w (.agg ((aX cs).set j (.sym (.lit (.slice c 0 0))))) (.agg vs):=by
   refine .agg _ vs (by rw[BH];simpa using m8.1) λq t v h1 h2=>?_;rw[GK]at h1;split at h1
   .rename_i e;subst e;rw[aY (ax hcj)]at h1;cases h1;have:vs.toList[j]?=Z v:=by simpa using h2
    rw[hvj]at this;cases this;exact .sym _ _ (.lit _)
   .exact m8.2 q t v h1 (by simpa using h2)
  have hf':=I3 hf (k:=G) (u:=low (.agg cs)) (t:=.agg ((aX cs).set j (.sym (.lit (.slice c 0 0))))) (by show(bh fr).get G=_;rw[bF,hkx];rfl) hkN (by rw[hve];exact acT);have ZG:iQ (Pp (bh fr) (.tmp G) (.agg ((aX cs).set j (.sym (.lit (.slice c 0 0)))))) (.tmp G)=Z (.agg ((aX cs).set j (.sym (.lit (.slice c 0 0))))):=by show((bh fr).tm.set aA G _).get G=_;rw[Tr.aO _ _ _ _ hkN,aY rfl]
  simp only[bH]at Q;split at Q;rotate_left
  .cases Q
  rename_i hh os' C;simp only[aV,bq]at Q;obtain⟨rfl,rfl⟩:=Q;obtain⟨q,hq,XO⟩:=p8 hS s _ _ C;obtain⟨q',U9,hqq,FB⟩:=Iu (aq s) hq hcj (.slice c 0 0);have Tk:(enc S (.st n) (S.SC n hh)).cells=fV S (S.fs n) hh:=by show S.cells n _=_;rw[hS.cells,hS.s7]
  have hzl:bU zz=S.width (.st n):=by simp only[iK,cn,enc,D.agg.injEq]at hz;rw[hz];simp only[Sg.width,bA];rw[show S.cells n (S.zero (.st n))=_ from hS.cells n _,kM]
  have adH:((iK (.st n)||Nat.beq (S.width (.st n)) 1)&&(Nat.beq (bU zz) (S.width (.st n))&&(!(Nat.beq (S.width (.st n)) 0)&&Nat.ble (Nat.mul 1 (S.width (.st n))) 16777216)))=W:=by rw[hzl];simp only[dI,As];refine⟨rfl,beq_iff'.2 rfl,?_,by simpa using hb.2.1⟩;cases hq:Nat.beq (S.width (.st n)) 0 with|false=>rfl|true=>have:=beq_iff'.1 hq;omega
  have Qh:(D.agg ((fV S (S.fs n) hh).set j (.lit (.slice c 0 0)))).isAgg (S.width (.st n))=W:=by
   show(Nat.beq (bU ((fV S (S.fs n) hh).set j _)) _&&((fV S (S.fs n) hh).set j _).all D.leaf)=W;rw[dI,bA,BH,kM];refine⟨beq_iff'.2 (bA _).symm,dU.2 λd hd=>?_⟩;rcases NK hd with hd|rfl
   .exact gu _ _ (hS.leaf n) d hd
   .rfl
  have hall:((fV S (S.fs n) hh).set j (.lit (.slice c 0 0))).all D.leaf=W:=by have h0:(Nat.beq (bU ((fV S (S.fs n) hh).set j _)) _&&((fV S (S.fs n) hh).set j (.lit (.slice c 0 0))).all D.leaf)=W:=Qh;rw[dI]at h0;exact h0.2
  obtain⟨⟨v,w',g',hr,A,P,ht⟩,q1,q2,q3⟩:=lq hT hf' hs o (t:=.ja 1 [D.agg ((fV S (S.fs n) hh).set j (.lit (.slice c 0 0)))]) (s':=aq s1)
   (p:=(q'∧((fV S (S.fs n) hh).set j (.lit (.slice c 0 0))).all D.leaf=W)∧(D.agg ((fV S (S.fs n) hh).set j (.lit (.slice c 0 0)))).isAgg (S.width (.st n))=W∧True) (by
   rw[H];have hps:pI (Pp (bh fr) (.tmp G) (.agg ((aX cs).set j (.sym (.lit (.slice c 0 0)))))) parts.toList=Z [(0,.agg ((aX cs).set j (.sym (.lit (.slice c 0 0)))))]:=by rw[N];simp only[pI,ZG]
   simp only[mA,hi,hps,rY,cn,mI,ud,U9,List.replicate,bU,iK,show Nat.blt 0 (Nat.succ 0)=W from rfl,ND,mD,hfz,dG];have ZZ:((W||Nat.beq (S.width (.st n)) 1)&&(Nat.beq (bU zz) (S.width (.st n))&&(!(Nat.beq (S.width (.st n)) 0)&&Nat.ble (Nat.mul 1 (S.width (.st n))) 16777216)))=W:=adH;rw[ZZ];rfl) ⟨⟨hqq XO,hall⟩,Qh,trivial⟩
  refine⟨v,w',g',hr,?_,cr.j5 hs A P q1 q2 q3 (j8 Eo)⟩;cases ht with
  |ja _ _ a0 hn0 hd=>
   refine .nk _ _ c a0 ?_ ?_
   .rw[Tk];exact FB
   .show dM g'.bf w' (.sl [D.agg ((enc S (.st n) (S.SC n hh)).cells.set j _)]) _;rw[Tk];exact hd
 .cases h
end
end
section
section
variable {g:Gh}{w:World}
def aU.VK{s:St}(hs:aU g s w){m sz r:Nat}{gO:L (L D)}(t:s.ob.get m=Z (.rws sz gO r))(F:m<s.au)(h0:0<sz)(c:O Addr) :
  aU (g.era m (rc r gO.length) ⟨c,0,0,sz⟩) {s with ob:=s.ob.set aA m (.rws sz (gO++[[]]) r)} w∧Ext s.fl g w (g.era m (rc r gO.length) ⟨c,0,0,sz⟩) w:=by
 have G:m<bg:=gN F hs.au;have n:g.arr m (rc r gO.length)=Y:=by cases h:g.arr m (rc r gO.length)with|none=>rfl|some y=>obtain⟨_,Q,h2,_⟩:=(hs.nN t h).2.2 _ rfl;have:=ax h2;omega
 have l:∀k j y,g.arr k j=Z y->(g.era m (rc r gO.length) ⟨c,0,0,sz⟩).arr k j=Z y:=λk j y h=>by
  rw[Gh.bZ]
  .exact h
  .rintro ⟨rfl,rfl⟩
   rw[n]at h;cases h
 have e:∀k b,br (g.era m (rc r gO.length) ⟨c,0,0,sz⟩) k b->br g k b:=by
  rintro k b ⟨h1,h2|⟨j,y,C,h2,h3,h4,h5⟩⟩
  .exact ⟨h1,.inl h2⟩
  .by_cases u:k=m∧j=rc r gO.length
   .obtain ⟨rfl,rfl⟩:=u;rw[Gh.e9]at h2;cases h2;exact absurd rfl h5
   .rw[Gh.bZ _ _ _ _ _ _ u]at h2;exact⟨h1,.inr ⟨j,y,C,h2,h3,h4,h5⟩⟩
 have R:Ext s.fl g w (g.era m (rc r gO.length) ⟨c,0,0,sz⟩) w:=
  ⟨λ_ _ h=>h,l,λ_ h=>h,bS _,λ_ _ _=>rfl,λk b h=>.inl (e k b h),λ_ h=>.inl h,rfl,rfl⟩
 have cC:∀k,(s.ob.set aA m (.rws sz (gO++[[]]) r)).get k=if k=m then Z (.rws sz (gO++[[]]) r)else s.ob.get k:=λk=>Tr.aO _ _ _ _ G
 have H:=hs.xd t rfl;refine⟨⟨hs.au,λk I=>⟨(hs.af k I).1,λj=>?_⟩,λk b hb=>?_,λk j y f=>?_,hs.bf,λk S b h h'=>hs.jv k S b (e k b h) (e S b h')⟩,R⟩
 .rw[Gh.bZ _ _ _ _ _ _ (by rintro⟨rfl,_⟩;simp only at I;omega)];exact(hs.af k I).2 j
 .have o:g.bG k=Z b:=hb;have d:k≠m:=by rintro rfl;rw[H]at o;cases o
  obtain⟨h1,h2,h3⟩:=hs.box k b o;refine⟨h1,h2,λob a=>?_⟩;simp only[]at a;rw[cC,bK d]at a;obtain⟨x,k1,k2⟩:=h3 ob a;exact⟨x,k1,k2.ext R hs.bf⟩
 .by_cases d:k=m
  .subst d;have K:∀p i,r<p->g.arr k (rc p i)=Y:=λp i q=>by cases h:g.arr k (rc p i)with|none=>rfl|some z=>rw[(hs.nN t h).1 p i q]at h;cases h
   have M:∀C,y.a=Z C->y.cap≠0->C.block<w.heap.size:=by
    by_cases E:j=rc r gO.length
    .subst E;rw[Gh.e9]at f;cases f;exact λ_ _ h=>absurd rfl h
    .rw[Gh.bZ _ _ _ _ _ _ (λh=>E h.2)]at f;exact(hs.arr k j y f).1
   refine⟨M,λob a=>?_⟩;simp only[]at a;rw[cC,aY rfl]at a;obtain rfl:=ew a;refine .inr (.inr (.inl ⟨sz,gO++[[]],r,rfl,λp i q=>?_,λX i2 y1 y2 N h1 h2 b v A=>?_,λi E=>?_⟩))
   .rw[Gh.bZ _ _ _ _ _ _ (λh=>by have:=(pG h.2).1;omega)];exact K p i q
   .by_cases B:X=gO.length
    .subst B;rw[Gh.e9]at h1;cases h1;obtain⟨_,_,_,h⟩:=v;exact absurd rfl h
    .by_cases e2:i2=gO.length
     .subst e2;rw[Gh.e9]at h2;cases h2;obtain⟨_,_,_,h⟩:=A;exact absurd rfl h
     .rw[Gh.bZ _ _ _ _ _ _ (λh=>B (pG h.2).2)]at h1;rw[Gh.bZ _ _ _ _ _ _ (λh=>e2 (pG h.2).2)]at h2;exact(hs.nN t h1).2.1 X i2 y1 y2 N h1 h2 b v A
   .subst E;by_cases B:i=gO.length
    .subst B;rw[Gh.e9]at f;cases f;exact⟨rfl,[],by simp,⟨rfl,bS _,by simp,h0,by simp,λ_=>rfl,λh=>absurd rfl h⟩⟩
    .rw[Gh.bZ _ _ _ _ _ _ (λh=>B (pG h.2).2)]at f;obtain⟨q1,Q,q2,q3⟩:=(hs.nN t f).2.2 i rfl;exact⟨q1,Q,by rw[kR,aY (ax q2)];exact q2,q3.iW rfl⟩
  .have P:g.arr k j=Z y:=by rw[Gh.bZ _ _ _ _ _ _ (λh=>d h.1)]at f;exact f
   obtain⟨h1,h2⟩:=hs.arr k j y P;refine⟨h1,λob a=>?_⟩;simp only[]at a;rw[cC,bK d]at a;exact(h2 ob a).tr (λh=>h.iW rfl) l (funext λj=>Gh.bZ _ _ _ _ _ _ (λh=>d h.1)) (λ_ _ _=>⟨rfl,nU⟩)
variable {a:Act}{o:Oper}{n j:Nat}
def FX{P:Program}{c:Call}(f:o.op=.call c)(j:c.callee=.builtin .append){u v:Operand}{ty g:TypeId}(k:c.args=#[u,v])(i:c.argTypes=#[ty,g]){R:Value->World->Prop}(h:DS P ty g o.type (a.eval u) (a.eval v) w R)
  {K:Act->World->Prop} {Q:Exit->Act->World->Prop} (l:∀v w',R v w'->K (a.put o.dst v) w'):o.wp P a w K Q∨(o.asks P a w∧LetsOut Q):=by
 have d:o.op=.call {callee:=.builtin .append,args:=#[u,v],argTypes:=#[ty,g]}:=by rw[f,<-k,<-i,<-j]
 obtain⟨r,w',e,m⟩:=h
 left
 unfold Oper.wp;have b:(execOp a.eval o).run P w=.ok (.value r) w':=by simp[execOp,d,resolve,invoke,builtin,e]
 rw[b];exact l r w' m
def args2{l:Array Operand}{x y:T}(b:PW (aC g w) [x,y] (l.toList.map a.eval)):∃u v,l=#[u,v]∧aC g w x (a.eval u)∧aC g w y (a.eval v):=by
 have d:l.size=2:=by have:=b.1;simpa using this.symm
 obtain⟨u,v,c⟩:∃u v,l=#[u,v]:=⟨l[0],l[1],by
  apply Array.ext
  .simp[d]
  .intro i h1 h2;have:i=0∨i=1:=by omega
   rcases this with rfl|rfl<;>rfl⟩
 exact⟨u,v,c,b.2 0 _ _ rfl (by simp[c]),b.2 1 _ _ rfl (by simp[c])⟩
def V1(a:eR S){t:Ty}(b:AE S n j t=W)(x:S.A n)(c:O Addr)(p q:Nat):(ic j (enc S (.st n) x) (.slice c p q)).pZ=(enc S (.st n) x).pZ:=by
 have h:xz j (enc S (.st n) x) ((Er n j t x).map (enc S t))=enc S (.st n) x:=by
  show D.agg ((S.cells n x).set j _)=D.agg (S.cells n x);have:(S.cells n x)[j]?=Z (.sl ((Er n j t x).map (enc S t))):=by rw[a.cells];exact FH (Dk b)
  rw[ES this]
 rw[<-xy j _ ((Er n j t x).map (enc S t)),h]
def PM(b:eR S)(x:S.A n)(c:O Addr)(p q:Nat):(ic j (enc S (.st n) x) (.slice c p q)).flat=W:=by
 show((S.cells n x).set j _).all D.leaf=W;refine dU.2 λd a=>?_;rcases NK a with a|rfl
 .rw[b.cells]at a;exact gu _ _ (b.leaf n) d a
 .rfl
def Dt{E:fX}(hS:eR S)(hT:yb E.E)(hEE:KH E.E)(Vb:MO S E){fr:bI S}{s s':aW S}(hf:cg g (bh fr) a w)(hs:aU g (aq s) w){cl:Call}(hop:o.op=.call cl){b:Builtin}(hb:cl.callee=.builtin b){args:L (V S)}(hargs:jw fr cl.args.toList=Z args){c:Bool}{t:V S}
  (h:jb E s b cl.argTypes args=Z (c,t,s')) (hc:c=W) {K:Act->World->Prop} {Q:Exit->Act->World->Prop} (hK:∀g' v w',cr [] s g w s' g' w'->aC g' w' (low t) v->K (a.put o.dst v) w') :
  o.wp E.E.P a w K Q∨(o.asks E.E.P a w∧LetsOut Q):=by
 have m8:=eT hf (gr hargs);unfold jb at h;split at h
 ·
  rename_i f r;split at h;rotate_left
  .cases h
  rename_i n j l era m gf hole P;split at h;rotate_left
  .cases h
  rename_i i B hi Jv;split at h;rotate_left
  .cases h
  rename_i sz ag bt zz R;rcases aa h with⟨H,h9⟩|⟨_,h9⟩;rotate_left
  .cases h9
  simp only[dI]at H;have Wu:=beq_iff'.1 H.1;subst Wu;simp only[aV,bq]at h9;obtain⟨_,rfl,rfl⟩:=h9;have hx0:aC g w (.sh f r) ((cl.args.toList.map a.eval)[0]'(by have:=m8.1;simp[aX]at this;simp;omega)):=m8.2 0 _ _ rfl (eS _);obtain⟨xs,hxs,_⟩:=Gv hx0;have F:f<bg:=gN (hs.lt' hxs) hs.au;obtain⟨hl,h1,h2,h3,h4⟩:=EM hs P hxs;have hlen:(lits j (l.map (enc S (.st n))) hl).length=l.length:=by rw[kH (by simpa using h1)];simp
  refine vn hEE hf h4 hop hb (gr hargs) (p:=True) (t:=.sym (.lit (.int .i64 (D.len (lits j (l.map (enc S (.st n))) hl))))) (s':=jD s f (.arr (S.width (.st n)) (lits j (l.map (enc S (.st n))) hl) r)) ?_ trivial (k:=λC st'=>C=.sym (.lit (.int .i64 (D.len (lits j (l.map (enc S (.st n))) hl))))∧st'=jD s f (.arr (S.width (.st n)) (lits j (l.map (enc S (.st n))) hl) r)) ⟨rfl,rfl⟩ (λC st' g' v w' he s5 ht=>?_)
  .have hi':(nth cl.argTypes.toList 0).bind E.E.ti=Z i:=hi;simp only[aX,low,eI,vK,hi',R,qc];rw[fJ F,aY rfl];simp only[show Nat.beq r r=W from beq_iff'.2 rfl,cn,dG]
  .obtain ⟨rfl,rfl⟩:=he;refine hK g' v w' (cr.j5 hs (wF s5.rel F (by rw[fJ F,aY rfl]) h1 (h3.le (λj y=>s5.ext.arr m j y)) P (λk hk=>by rw[fJ F,bK hk]) rfl) s5.ext rfl rfl (bS _) (g7.refl _)) ?_;have e:D.len (lits j (l.map (enc S (.st n))) hl)=aj l:=by simp only[D.len,hlen,aj]
   rw[e]at ht;exact ht
 ·
  rename_i f r B j' x;split at h;rotate_left
  .cases h
  rename_i n j l era m gf P;split at h;rotate_left
  .cases h
  rename_i ty tx Z6;split at h;rotate_left
  .cases h
  rename_i i i' n'' C A hi hi' Jv hrw;split at h;rotate_left
  .cases h
  rename_i sz ag bt zz sz' ag' bt' zz' new R Jx hnew;obtain⟨e1,hh⟩:=eH hnew;cases e1;cases hh;rcases aa h with⟨H,h9⟩|⟨_,h9⟩;rotate_left
  .cases h9
  clear h;simp only[dI]at H;obtain⟨b1,b2,b3,b4,b5,b6,b7,b8,b9⟩:=H;have e1:=beq_iff'.1 b1;subst e1;have e2:=beq_iff'.1 b2;subst e2;have e3:=beq_iff'.1 b3;subst e3;simp only[aV,bq]at h9;obtain⟨hll,rfl,rfl⟩:=h9;have aiX:D.eJ (V5 l A) (dR l [x])=W:=hll.trans ‹_›;have adm:V5 l A=W∧dR l [x]=W:=by simpa[D.eJ]using aiX
  have aja:=adm.2;have hll:=Ar (show decide _=W from adm.1);obtain⟨u,v,ha,hu,hv⟩:=args2 m8;have A1:cl.argTypes=#[ty,tx]:=by apply BK;simpa using Z6
  obtain⟨xs,hxs,S8⟩:=Gv hu;have F:f<bg:=gN (hs.lt' hxs) hs.au;have hmn:m<s.au:=eN b6;have ZP:m<bg:=gN hmn hs.au;have hw0:0<S.width C:=eN b9;obtain⟨szm,hm⟩:=nw (wR hrw);have ah9:szm=S.width C:=by
   have h1:=hrw;unfold Iz at h1;split at h1
   .rename_i t0 agi r0 G;rcases aa h1 with⟨_,h1⟩|⟨_,h1⟩
    .cases h1;rw[aE,G]at hm;cases hm;rfl
    .cases h1
   .cases h1
  subst ah9;have hom:f≠m:=by rintro rfl;rw[aE,P]at hm;cases hm
  generalize Zv:a.eval v=vv at hv;cases hv with
  |nk _ _ c ad hcj hcd=>
  obtain⟨p1,p2⟩:=hs.VK hm hmn hw0 c
  let s1:aW S:={s with ob:=s.ob.set aA m (.rws C (A++[[]]) gf)}
  have aif:(aq s1)={aq s with ob:=(aq s).ob.set aA m (.rws (S.width C) (A.map (·.map (enc S C))++[[]]) gf)}:=by simp only[s1,aq,Tr.kz,cz,vS,jh,E2]
  rw[<-aif]at p1;have Hs:s1.ob.get f=Z (.jL B j l r m gf Y):=by show(s.ob.set aA m _).get f=_;rw[Tr.aO _ _ _ _ ZP,bK hom];exact P
  have ah6:=p2.arr _ _ _ hxs;obtain⟨hl,h1,h2,h3,h4⟩:=EM p1 Hs ah6;have Wz:(lits j (l.map (enc S (.st B))) hl).length=l.length:=by rw[kH (by simpa using h1)];simp
  obtain⟨⟨z,I,_⟩,_,_,M⟩:=Vb.row _ _ _ hi Jv;rw[R]at I;obtain⟨rfl,rfl,rfl,rfl⟩:=Kd.slice.inj I;have ajj:aC (g.era m (rc gf (A.map (·.map (enc S C))).length) ⟨c,0,0,S.width C⟩) w (.ja 0 [ic j (enc S (.st B) x) (.slice c 0 0)]) (.slice ad 1 1):=.ja 0 _ ad (by simp) (hcd.ext p2 hs.bf);have hus:aC (g.era m (rc gf (A.map (·.map (enc S C))).length) ⟨c,0,0,S.width C⟩) w (.sh f r) (a.eval u):=hu.ext p2 hs.bf;have WI:D.app (lits j (l.map (enc S (.st B))) hl) [ic j (enc S (.st B) x) (.slice c 0 0)]=lits j ((dj l [x]).map (enc S (.st B))) (hl++[.slice c 0 0]):=by simp only[D.app,lits,dj,vS,jh,E2];rw[List.zipWith_append (by simp;omega)];rfl
  have WG:D.Q8 (D.app (lits j (l.map (enc S (.st B))) hl) [ic j (enc S (.st B) x) (.slice c 0 0)]) (tE S (.st B)):=by
   intro d hd;rw[WI]at hd;obtain⟨q,G⟩:=Fa hd;rw[lits,GL]at G;split at G
   .rename_i dd hv0 k1 k2;cases G;rw[gj,ec]at k1;obtain⟨xx,_,rfl⟩:=k1;obtain⟨a0,n0,m0,rfl⟩:∃a0 n0 m0,hv0=.slice a0 n0 m0:=by
     rw[kR]at k2;split at k2
     .exact h3.1 q hv0 k2
     .rename_i hge;have:q-hl.length=0:=by have:=ax k2;simpa using this
      rw[this]at k2;cases k2;exact⟨_,_,_,rfl⟩
    exact⟨by rw[V1 hS b8];exact y4 hS (t:=.st B) xx,PM hS xx a0 n0 m0⟩
   .cases G
  have hgv:=fJ (s:=s1) F (.arr (S.width (.st B)) (lits j (l.map (enc S (.st B))) hl) r);have hkj:i'.kd=.slice sz' ag' bt' zz':=Jx;have hap:=vw (rt:=o.type) (hEE.ti _ _ hi) (hEE.ti _ _ hi') ⟨_,_,_,_,hkj⟩ h4 (x:=.sh f r) (y:=.ja 0 [ic j (enc S (.st B) x) (.slice c 0 0)]) (vx:=a.eval u) (vy:=.slice ad 1 1)
   (p:=True∧D.rows [ic j (enc S (.st B) x) (.slice c 0 0)] (S.width (.st B))∧D.Q8 (D.app (lits j (l.map (enc S (.st B))) hl) [ic j (enc S (.st B) x) (.slice c 0 0)]) (tE S (.st B))∧D.Of (lits j (l.map (enc S (.st B))) hl) [ic j (enc S (.st B) x) (.slice c 0 0)]) (t:=.sh f (Nat.succ r))
   (s':={jD s1 f (.arr (S.width (.st B)) (lits j (l.map (enc S (.st B))) hl) r)with ob:=(jD s1 f (.arr (S.width (.st B)) (lits j (l.map (enc S (.st B))) hl) r)).ob.set aA f (.arr (S.width (.st B)) (D.app (lits j (l.map (enc S (.st B))) hl) [ic j (enc S (.st B) x) (.slice c 0 0)]) (Nat.succ r))}) (by
   have hg0:=hgv f;rw[aY rfl]at hg0;have e1:Nat.blt (jD s1 f (.arr (S.width (.st B)) (lits j (l.map (enc S (.st B))) hl) r)).au bg=W:=b7;have e2:Nat.ble (jD s1 f (.arr (S.width (.st B)) (lits j (l.map (enc S (.st B))) hl) r)).fl f=W:=b4;simp only[o8,e1,BG,cM,R,qc,hg0,e2,show Nat.beq r r=W from beq_iff'.2 rfl,show Nat.beq (S.width (.st B)) (S.width (.st B))=W from beq_iff'.2 rfl,oQ,E6];rfl) ⟨trivial,λd hd=>by
    rw[ko.1 hd];show((enc S (.st B) x).cells.set j _).length=_;rw[BH,js hS],WG,by
    have:l.length+1<=17179869184:=by simpa[dR]using aja
    show(lits j (l.map (enc S (.st B))) hl).length+1<=_;rw[Wz];exact this⟩ hus ajj
  refine FX hop hb ha A1 (by rw[Zv];exact hap) (λv w' hR=>?_);obtain⟨g',r1,r2,r3⟩:=hR;have hE:=p2.trans r2;refine hK g' v w' (cr.j5 hs ?_ hE rfl rfl (bS _) ⟨λ_ h=>gl _ (gl _ h),λk _ hk=>?_,rfl⟩) r3
  .refine wF r1 (n:=B) (j:=j) (l:=dj l [x]) (era:=Nat.succ r) (m:=m) (gf:=gf) (hole:=Y) (hl:=hl++[.slice c 0 0]) F ?_ (by simp[dj];omega) ⟨λq v G=>?_,λq v G _=>?_⟩ ?_ (λk hk=>?_) rfl
   .show ((jD s1 f _).ob.set aA f _).get f=_;rw[Tr.aO _ _ _ _ F,aY rfl,WI]
   .rw[kR]at G;split at G
    .exact h3.1 q v G
    .have:q-hl.length=0:=by have:=ax G;simpa using this
     rw[this]at G;cases G;exact⟨_,_,_,rfl⟩
   .rw[kR]at G;split at G
    .obtain ⟨yy,k1,k2⟩:=h3.2 q v G (by simp);exact⟨yy,r2.arr _ _ _ k1,k2⟩
    .have h0:q-hl.length=0:=by have:=ax G;simpa using this
     rw[h0]at G;cases G;refine⟨⟨c,0,0,S.width C⟩,r2.arr _ _ _ ?_,rfl⟩;have:q=(A.map (·.map (enc S C))).length:=by rw[mC];omega
     rw[this];exact Gh.e9 _ _ _ _
   .show ((s.ob.set aA m _).set aA f _).get f=_;rw[Tr.aO _ _ _ _ F,aY rfl]
   .show (aq {s with ob:=(s.ob.set aA m _).set aA f _,wr:=_}).ob.get k=((jD s1 f _).ob.set aA f _).get k;rw[Tr.aO _ _ _ _ F,bK hk,hgv,bK hk,aE,aE];show(((s.ob.set aA m _).set aA f _).get k).map cz=((s.ob.set aA m _).get k).map cz;rw[Tr.aO _ _ _ _ F,bK hk];rfl
  .simp only[ej,not_or]at hk;show((s.ob.set aA m _).set aA f _).get k=_;rw[Tr.cT _ _ _ _ _ hk.1,Tr.cT _ _ _ _ _ hk.2.1]
 ·
  rename_i f m r k y;split at h;rotate_left
  .cases h
  rename_i n j l era m' gf t0 A rera' P hm0;split at h;rotate_left
  .cases h
  rename_i ty tx Z6;split at h;rotate_left
  .cases h
  rename_i i i' C new hi hi' Jv Ws;split at h
  .cases h
  .rename_i sz ag bt zz sz' ag' bt' zz' R Jx aiI;rcases aa h with⟨H,h9⟩|⟨_,h9⟩;rotate_left
   .cases h9
   clear h;simp only[dI]at H;obtain⟨b1,b2,b3,b4,b5,b6,b7⟩:=H;have e1:=beq_iff'.1 b1;subst e1;have e2:=beq_iff'.1 b2;subst e2;have e3:=beq_iff'.1 b3;subst e3;have e4:=fq b7;subst e4;simp only[aV,bq]at h9;obtain⟨rfl,rfl,rfl⟩:=h9;have Va:ef k A=W∧dR (aT A k []) new=W:=by simpa[D.eJ]using hc
   have hk:=qu Va.1;obtain⟨u,v,ha,hu,hv⟩:=args2 m8;have A1:cl.argTypes=#[ty,tx]:=by apply BK;simpa using Z6
   obtain⟨yy,hyy,hue⟩:=NX hu;have hm:(aq s).ob.get m=Z (.rws (S.width C) (A.map (·.map (enc S C))) r):=by rw[aE,hm0];rfl
   obtain⟨_,rs0,Wt,hok⟩:=(hs.nN hm hyy).2.2 k rfl;have hrs:rs0=(aT A k []).map (enc S C):=by rw[gj,eS hk]at Wt;cases Wt;simp[aT,List.getD,hk]
   subst hrs;obtain⟨q,G,XO⟩:=wN Ws;obtain⟨xi,d1,_,LS,N7,_,_,_,_,Q6⟩:=(hEE.ti _ _ hi).all;obtain⟨_,d2,_,_,hu2,_,_,_,_,hk2⟩:=(hEE.ti _ _ hi').all;rw[Jx]at hk2;obtain⟨e',_,_,_,rfl,_⟩:=hk2;obtain⟨⟨z,I,_⟩,_,_,M⟩:=Vb.row _ _ _ hi Jv;rw[R]at I;obtain⟨rfl,rfl,rfl,rfl⟩:=Kd.slice.inj I;rw[R]at Q6;obtain⟨e,ji,d',zv,rfl,hji,N,_,_,XS,xm,Tl,h0,Hv,nB,hb0,hzl⟩:=Q6;have hzs:zv.cells.size=ji.size:=by rw[<-xm.1,hzl,N]
   have X:D.rows (new.map (enc S C)) (S.width C):=qf hS new;have WG:D.Q8 (D.app ((aT A k []).map (enc S C)) (new.map (enc S C))) (tE S C):=by rw[rO];exact A6 hS _
   obtain⟨news,hsrc,hvr,hlen⟩:=wO hs G XO hv M X (λd hd=>(WG d (gp _ hd)).2) hu2;obtain⟨ay,cy,hve,_,ah4,LR⟩:=p9 hs G XO hv M X;have adG:=Ae (rt:=o.type) N7 hu2 hji XS hzs (N▸M) hb0 Tl nB hs.bf (N▸hok) (λb hb=>(hok.at_ hb).2.elim λvs h=>h.elim λty h=>(GM.1 h.2).1) (λd hd=>(WG d hd).1) (N▸X) (N▸hsrc) (N▸hvr) (A3 _ Va.2) (λhne=>by
    obtain⟨ady,agf,rfl,N6,hyc,_⟩:=LR hne;refine⟨ady,cy,hve,λA1=>?_,λq G=>?_⟩
    .rcases N6 with PZ|⟨o',ho',_⟩
     .exact Bool.noConfusion ((hok.at_ A1).1.2 PZ)
     .rw[Cc]at ho';unfold I9 at ho';split at ho'
      .exact aiI _ _ rfl
      .cases ho'
    .rw[N]at G;have h1:=hyc (q/S.width C) (q%S.width C) (NG (by rw[vQ];exact G)) (Nat.mod_lt _ M);have hkk:q/S.width C*S.width C+q%S.width C=q:=by rw[vQ];exact Nat.div_add_mod q _
     rw[hkk]at h1;rw[h1];rfl)
   have hxs:∃ajw,ajw=era:=⟨_,rfl⟩;refine FX hop hb ha A1 (by rw[hue];exact adG) (λv w' hR=>?_);obtain⟨y',hp⟩:=hR;rw[N,rO]at hp;have aiE:(aq s).ob.get f=Z (.jL j (S.width (.st n)) (l.map (enc S (.st n))) era m r Y):=by rw[aE,P];rfl
   have F:f<bg:=eN b6;obtain⟨r1,r2⟩:=hs.Xb aiE hm F hyy hp (eN b5);refine hK _ v w' (cr.j5 hs (s':={s with ob:=(s.ob.set aA m (.rws C (jP A k (dj (aT A k []) new)) (Nat.succ r))).set aA f (.jL n j l era m (Nat.succ r) (Z k)),wr:=f::m::s.wr}) ?_ r2 rfl rfl (bS _) ⟨λ_ h=>gl _ (gl _ h),λk' _ hk'=>?_,rfl⟩) ?_
   .have e:aq {s with ob:=(s.ob.set aA m (.rws C (jP A k (dj (aT A k []) new)) (Nat.succ r))).set aA f (.jL n j l era m (Nat.succ r) (Z k)),wr:=f::m::s.wr}={aq s with ob:=((aq s).ob.set aA m (.rws (S.width C) ((A.map (·.map (enc S C))).set k ((dj (aT A k []) new).map (enc S C))) (r+1))).set aA f (.jL j (S.width (.st n)) (l.map (enc S (.st n))) era m (r+1) (Z k))}:=by simp only[aq,Tr.kz,cz,jP,E3]
    rw[e];exact r1
   .simp only[ej,not_or]at hk';show((s.ob.set aA m _).set aA f _).get k'=_;rw[Tr.cT _ _ _ _ _ hk'.1,Tr.cT _ _ _ _ _ hk'.2.1]
   .rw[hp.val];exact .pL _ _ _ _ _ _ y'.sz _ (by rw[Gh.nO,aY rfl])
  .cases h
 .cases h
end
end
section
def bI.ie(fr:bI S)(k j:Nat)(v:V S)(h:k<bg):(fr.put k v).get j=if j=k then Z v else fr.get j:=Tr.aO _ _ _ _ h
structure eC(s:aW S)(g:Gh)(w:World)(s':aW S)(g':Gh)(w':World):Prop where
 rel:aU g' (aq s') w'
 ext:mz s.lo s.fl g w g' w'
 fl:s'.fl=s.fl
 lo:s'.lo=s.lo
 au:s.au<=s'.au
 rU:∀o∈s.wr,o∈s'.wr
 same:∀o,o<s.au->o∉s'.wr->s'.ob.get o=s.ob.get o
 Ey:∀o∈s.dr,o∈s'.dr
variable {s s':aW S}{g g':Gh}{w w':World}{p q:Nat->Bool}{au o b:Nat}{v:V S}{a:Act}
def cr.Vm{ow:L Nat}(h:cr ow s g w s' g' w'):eC s g w s' g' w':=⟨h.rel,h.ext,h.fl,h.lo,h.au,h.rU,h.same,h.Ey⟩
def eC.refl{s:aW S}{g:Gh}{w:World}(h:aU g (aq s) w):eC s g w s g w:=(cr.refl h).Vm
def eC.trans{s s' b:aW S}{g g' c:Gh}{w w' d:World}(h:eC s g w s' g' w')(k:eC s' g' w' b c d):eC s g w b c d:=
 ⟨k.rel,h.ext.trans (h.fl▸h.lo▸k.ext),k.fl.trans h.fl,k.lo.trans h.lo,eO h.au k.au,λo a=>k.rU o (h.rU o a),
  λo a e=>(k.same o (gN a h.au) e).trans (h.same o a (λf=>e (k.rU o f))),λo a=>k.Ey o (h.Ey o a)⟩
mutual
def dJ{p q:Nat->Bool}(h:∀o,p o=W->q o=W):∀v:V S,bQ p v=W->bQ q v=W
 | .ptr o _,c=>h o c
 | .jV o _ _ _,c=>h o c
 | .sh o _,c=>h o c
 | .mp o,c=>h o c
 | .pz o,c=>h o c
 | .qF o,c=>h o c
 | .ub _,c=>by cases c
 | .nk _ _ _,c=>by cases c
 | .pL o m _ _,c=>by simp only[bQ,ir]at c ⊢;exact c.imp (h o) (h m)
 | .fn _ a b,c=>by simp only[bQ,ir]at c ⊢;exact c.imp (j7 h a) (j7 h b)
 | .cE _ v,c=>dJ h v c
 | .agg d,c=>j7 h d c
 | .fQ d,c=>j7 h d c
 | .gd _ v,c=>dJ h v c
 | .ty _ _,c=>by cases c
 | .kb _,c=>by cases c
 | .kn _ _,c=>by cases c
 | .dat _,c=>by cases c
 | .lR _ _ _,c=>by cases c
 | .emp,c=>by cases c
 | .ja _ _ _,c=>by cases c
def j7{p q:Nat->Bool}(h:∀o,p o=W->q o=W):∀l:L (V S),gH p l=W->gH q l=W
 |[],a=>by cases a
 |v::l,a=>by simp only[gH,ir]at a ⊢;exact a.imp (dJ h v) (j7 h l)
end
mutual
def m6(os:L Nat):∀v:V S,gw os v=bQ os.contains v
 | .ptr o _=>rfl
 | .jV o _ _ _=>rfl
 | .sh o _=>rfl
 | .mp o=>rfl
 | .pz o=>rfl
 | .qF o=>rfl
 | .ub _=>rfl
 | .pL _ _ _ _=>rfl
 | .nk _ _ _=>rfl
 | .fn _ a b=>by simp only[gw,bQ,sS os a,sS os b]
 | .cE _ v=>m6 os v
 | .agg c=>sS os c
 | .fQ c=>sS os c
 | .gd _ v=>m6 os v
 | .ty _ _=>rfl
 | .kb _=>rfl
 | .kn _ _=>rfl
 | .dat _=>rfl
 | .lR _ _ _=>rfl
 | .emp=>rfl
 | .ja _ _ _=>rfl
def sS(os:L Nat):∀l:L (V S),mF os l=gH os.contains l
 |[]=>rfl
 |v::l=>by simp only[mF,gH,m6 os v,sS os l]
end
def gX{dr b:L Nat}{a:Nat}(h:∀o∈dr,o∈b)(hn:a<=au)(o:Nat)(c:cS dr au o=W):cS b a o=W:=by simp only[cS,ir,wX,kj]at c ⊢;refine c.imp (h o) (λc=>?_);have:=eN c;exact Av (by omega)
mutual
def dc(p:Nat->Bool):T->Bool
 | .ptr o _=>p o
 | .jV o _ _ _=>p o
 | .sh o _=>p o
 | .mp o=>p o
 | .pz o=>p o
 | .qF o=>p o
 | .pL o m _ _=>p o||p m
 | .fn _ a b=>hY p a||hY p b
 | .cE _ v=>dc p v
 | .agg c=>hY p c
 | .fQ c=>hY p c
 | .gd _ v=>dc p v
 |_=>J
def hY(p:Nat->Bool):L T->Bool
 |[]=>J
 |v::l=>dc p v||hY p l
end
mutual
def gY(p:Nat->Bool):∀v:V S,dc p (low v)=bQ p v
 | .ty t x=>by
  have:∀l:L D,hY p (l.map .sym)=J:=by
   intro l
   induction l with|nil=>rfl|cons d l e=>simp[hY,dc,e]
  cases t<;>simp[low,en,bQ,dc,this]
 | .kb _=>rfl
 | .kn _ _=>rfl
 | .dat _=>rfl
 | .ptr _ _=>rfl
 | .lR _ _ _=>rfl
 | .jV _ _ _ _=>rfl
 | .sh _ _=>rfl
 | .emp=>rfl
 | .ja _ _ _=>rfl
 | .fn _ a b=>by simp only[low,bQ,dc,n7 p a,n7 p b]
 | .cE _ v=>by simp only[low,bQ,dc,gY p v]
 | .agg c=>by simp only[low,bQ,dc,n7 p c]
 | .fQ c=>by simp only[low,bQ,dc,n7 p c]
 | .gd _ v=>by simp only[low,bQ,dc,gY p v]
 | .mp _=>rfl
 | .pz _=>rfl
 | .qF _=>rfl
 | .ub _=>rfl
 | .pL _ _ _ _=>rfl
 | .nk _ _ _=>rfl
def n7(p:Nat->Bool):∀l:L (V S),hY p (aX l)=gH p l
 |[]=>rfl
 |v::l=>by simp only[aX,hY,gH,gY p v,n7 p l]
end
def l6{p:Nat->Bool}:∀{l:L T},hY p l=J->∀t∈l,dc p t=J
 |[],_,t,b=>by cases b
 |a::l,h,t,b=>by
  simp only[hY,vT]at h;rcases ej.1 b with rfl|b
  .exact h.1
  .exact l6 h.2 t b
structure Xs(p:Nat->Bool)(g g':Gh):Prop where
 bG:∀o b,p o=J->g.bG o=Z b->g'.bG o=Z b
 arr:∀o e x,p o=J->g.arr o e=Z x->g'.arr o e=Z x
 bf:∀b,g.bf b->g'.bf b
def aC.on(q:Xs p g g')(y:sn g.bf w w'){t:T}{v:Value}(h:aC g w t v)(l:dc p t=J):aC g' w' t v:=by
 induction h with
 |sym d v u=>exact .sym d v (u.mono y q.bf)
 |kb b=>exact .kb b
 |kn k n=>exact .kn k n
 |ptr o off b h=>exact .ptr o off b (q.bG _ _ l h)
 |lR d off C val I E u=>exact .lR d off C val (q.bf _ I) (λj c z=>by rw[y.cell (by rw[ki];exact I)];exact E j c z) (λj c z=>(u j c z).mono y q.bf)
 |jV o e i off len cap sz C h=>exact .jV o e i off len cap sz C (q.arr _ _ _ l h)
 |sh o e len cap sz a h=>exact .sh o e len cap sz a (q.arr _ _ _ l h)
 |emp a=>exact .emp a
 |ja k K a M u=>exact .ja k K a M (u.mono y q.bf)
 |fn f N A P Q B F _ _ s G=>simp only[dc,vT]at l;exact .fn f N A P Q B F (λj t v h1 h2=>s j t v h1 h2 (l6 l.1 t (gk h1))) (λj t v h1 h2=>G j t v h1 h2 (l6 l.2 t (gk h1)))
 |cE t x v _ s=>exact .cE t x v (s l)
 |agg A H B _ s=>exact .agg A H B (λj t v h1 h2=>s j t v h1 h2 (l6 l t (gk h1)))
 |fQ A H B _ s=>exact .fQ A H B (λj t v h1 h2=>s j t v h1 h2 (l6 l t (gk h1)))
 |gd c t v _ s=>exact .gd c t v (λE=>s E l)
 |mp o b h=>exact .mp o b (q.bG _ _ l h)
 |pz o b h=>exact .pz o b (q.bG _ _ l h)
 |qF o b h=>exact .qF o b (q.bG _ _ l h)
 |ub e b h=>exact .ub e b h
 |pL o m r i len cap sz a h=>simp only[dc,vT]at l;exact .pL o m r i len cap sz a (q.arr _ _ _ l.2 h)
 |nk j d c a z u=>exact .nk j d c a z (u.mono y q.bf)
def Gh.base(g:Gh)(p:Nat->Bool):Gh:={g with bG:=λo=>if p o=J then g.bG o else Y,arr:=λo e=>if p o=J then g.arr o e else Y}
def Gh.fS(g:Gh)(p:Nat->Bool):Xs p g (g.base p):=
 ⟨λo b h e=>by simp[Gh.base,h,e],λo e x h k=>by simp[Gh.base,h,k],λ_ h=>h⟩
def Gh.xV(h:(g.base p).bG o=Z b):p o=J∧g.bG o=Z b:=by
 simp only[Gh.base]at h;split at h
 .exact ⟨by assumption,h⟩
 .cases h
def Gh.xW{e:Nat}{x:eX}(h:(g.base p).arr o e=Z x):p o=J∧g.arr o e=Z x:=by
 simp only[Gh.base]at h;split at h
 .exact ⟨by assumption,h⟩
 .cases h
def Gh.fN{k:Nat}(h:br (g.base p) k b):p k=J∧br g k b:=by
 obtain⟨h1,h2|⟨e,x,a,h2,h3⟩⟩:=h
 .exact ⟨(Gh.xV h2).1,h1,.inl (Gh.xV h2).2⟩
 .exact ⟨(Gh.xW h2).1,h1,.inr ⟨e,x,a,(Gh.xW h2).2,h3⟩⟩
def aU.base{g:Gh}{w:World}{s s0:St}(hs:aU g s w){p:Nat->Bool}{au:Nat}(u:∀o,au<=o->p o=W)(r:s0.au=au)(hn:au<=s.au)
  (f:∀o ob,p o=J->s0.ob.get o=Z ob->∃a,s.ob.get o=Z a∧o9 (dc p) a ob):aU (g.base p) s0 w:=by
 refine⟨r▸eO hn hs.au,λo z=>?_,λo b A=>?_,λo e x B=>?_,hs.bf,λo C b h E=>hs.jv o C b (Gh.fN h).2 (Gh.fN E).2⟩
 .have:=u o (r▸z);exact⟨by simp[Gh.base,this],λe=>by simp[Gh.base,this]⟩
 .obtain ⟨d,k⟩:=Gh.xV A;obtain⟨h1,h2,h3⟩:=hs.box o b k;refine⟨h1,h2,λob c=>?_⟩;obtain⟨a,l,n⟩:=f o ob d c;obtain⟨x,h4,h5⟩:=h3 a l;exact⟨x,h4,h5.left (λt v F i=>F.on (g.fS p) (λ_ _=>rfl) i) n⟩
 .obtain ⟨d,q⟩:=Gh.xW B;obtain⟨h1,h2⟩:=hs.arr o e x q;refine⟨h1,λob c=>?_⟩;obtain⟨a,l,n⟩:=f o ob d c;refine(h2 a l).left n (λh=>h.iW rfl) (λm j y i h=>?_) (funext λG=>by simp only[Gh.base,aY d]) (λ_ _ _=>⟨rfl,nU⟩);have i:p m=J:=i;simp only[Gh.base,aY i];exact h
def gT(a:Act):Sh->L Value->Prop
 |[],[]=>True
 |(k,.one _)::l,v::b=>a.tmps[k]?=Z v∧gT a l b
 |(_,.box _)::l,_::b=>gT a l b
 |(_,.hid _)::l,b=>gT a l b
 |_,_=>False
def GU{l:L (V S)}{i:Nat}(h:nth l i=Z v):(aX l)[i]?=Z (low v):=by rw[iR]at h;simp[fP,h]
def iM{g:Gh}{w:World}{fr:bI S}{s:aW S}{a:Act}(hf:cg g (bh fr) a w)(hs:aU g (aq s) w):∀{p:Pt}{v:V S},Ea fr s p=Z v->∃u,aC g w (low v) u
 | .slot k,v,h=>by obtain⟨u,_,d⟩:=hf.tm k (low v) (by rw[bF,show fr.get k=Z v from h];rfl);exact⟨u,d⟩
 | .cell p i,v,h=>by
  simp only[Ea]at h;split at h
  .rename_i o e;obtain⟨u,c⟩:=iM hf hs e;split at h
   .rename_i z j;cases c with
    |ptr _ _ b m=>
     obtain⟨n,ty,A,q,d⟩:=(hs.box o b m).box (by rw[aE,j];rfl);have h1:=GU h;have h2:i<n.size:=by rw[<-q];exact(sv.1 h1).1
     exact⟨n[i],d i _ _ h1 (nT h2)⟩
   .cases h
  .cases h
 | .cap p i,v,h=>by
  simp only[Ea]at h;split at h
  .rename_i f F z e;obtain⟨u,c⟩:=iM hf hs e;cases c with
   |fn _ _ _ G t q B h1 h2=>
    have y:=GU h;have C:i<t.size:=by rw[<-B];exact(sv.1 y).1
    exact⟨t[i],h2 i _ _ y (nT C)⟩
  .cases h
 | .Pe p k,v,h=>by
  simp only[Ea]at h;split at h
  .rename_i o e;obtain⟨u,c⟩:=iM hf hs e;split at h
   .rename_i l j;cases c with
    |pz _ b m=>
     obtain⟨x,A,d⟩:=(hs.box o b m).2.2 _ (by rw[aE,j];rfl);cases d with
     |lp _ r h1 h2 h4 h5 h6 H E=>
      obtain⟨u,_,c⟩:=E k (low v) (by
       show(bh l.fr).get k=_;rw[bF,h];rfl)
      exact⟨u,c⟩
   .cases h
  .cases h
def qn{g:Gh}{w:World}{fr:bI S}{s:aW S}{a:Act}(hf:cg g (bh fr) a w)(hs:aU g (aq s) w):∀{sh:Sh}{ps:L Pt}{bs:L Nat},oS fr s sh ps=Z bs->∃bl,PW (λo b=>g.bG o=Z b) bs bl
 |[],[],bs,h=>by simp only[oS,aV]at h;subst h;exact⟨[],rfl,λj t v h=>by simp at h⟩
 |(k,.one c)::l,ps,bs,h=>qn hf hs (sh:=l) (ps:=ps) (by simpa only[oS]using h)
 |(_,.box k)::l,p::ps,bs,h=>by
  simp only[oS]at h;split at h
  .rename_i v f;split at h
   .rename_i o r h1 h2;simp only[aV]at h;subst h;obtain rfl:=Hg h1;obtain⟨u,i⟩:=iM hf hs f;obtain⟨b,m,_⟩:=Cw i;obtain⟨bl,h3⟩:=qn hf hs h2;refine⟨b::bl,by simp[h3.1],λj n q d e=>?_⟩;cases j with|zero=>simp at d e;subst d;subst e;exact m|succ j=>exact h3.2 j n q (by simpa using d) (by simpa using e)
   .cases h
  .cases h
 |(_,.hid k)::l,p::ps,bs,h=>by
  simp only[oS]at h;split at h
  .rename_i v f;split at h
   .rename_i o r h1 h2;simp only[aV]at h;subst h;obtain rfl:=Hg h1;obtain⟨u,i⟩:=iM hf hs f;obtain⟨b,m,_⟩:=Cw i;obtain⟨bl,h3⟩:=qn hf hs h2;refine⟨b::bl,by simp[h3.1],λj n q d e=>?_⟩;cases j with|zero=>simp at d e;subst d;subst e;exact m|succ j=>exact h3.2 j n q (by simpa using d) (by simpa using e)
   .cases h
  .cases h
 |[],_::_,_,h=>by simp[oS]at h
 |(_,.box _)::_,[],_,h=>by simp[oS]at h
 |(_,.hid _)::_,[],_,h=>by simp[oS]at h
def AR{g:Gh}{w:World}{fr:bI S}{a:Act}(hf:cg g (bh fr) a w):∀{sh:Sh}{bs bl:L Nat}{vs:L (V S)},sq fr sh bs=Z vs->PW (λo b=>g.bG o=Z b) bs bl->∃vals,gT a sh vals∧PW (aC g w) (aX vs) vals
 |[],[],bl,vs,h,_=>by simp only[sq,aV]at h;subst h;exact⟨[],trivial,rfl,λj t v h=>by simp[aX]at h⟩
 |(k,.one c)::l,bs,bl,vs,h,d=>by
  simp only[sq]at h;split at h
  .rename_i v r h1 h2;simp only[aV]at h;subst h;obtain⟨vals,h3,h4⟩:=AR hf h2 d;obtain⟨u,q,s⟩:=hf.tm k (low v) (by rw[bF,h1];rfl);refine⟨u::vals,⟨q,h3⟩,by simp only[aX,gi,h4.1],λj t i e f=>?_⟩;cases j with|zero=>simp[aX]at e f;subst e;subst f;exact s|succ j=>exact h4.2 j t i (by simpa[aX]using e) (by simpa using f)
  .cases h
 |(_,.box k)::l,o::bs,b::bl,vs,h,d=>by
  simp only[sq]at h;split at h
  .rename_i r h2;simp only[aV]at h;subst h;have m:g.bG o=Z b:=d.2 0 _ _ rfl rfl;obtain⟨vals,h3,h4⟩:=AR hf h2 (bl:=bl) ⟨by simpa using d.1,λj n p e f=>d.2 (j+1) n p (by simpa using e) (by simpa using f)⟩;refine⟨Hf k b::vals,h3,by simp only[aX,gi,h4.1],λj t i e f=>?_⟩;cases j with|zero=>simp[aX]at e f;subst e;subst f;exact Jm m|succ j=>exact h4.2 j t i (by simpa[aX]using e) (by simpa using f)
  .cases h
 |(_,.box k)::l,o::bs,[],vs,h,d=>absurd d.1 (by simp)
 |(_,.hid k)::l,o::bs,b::bl,vs,h,d=>by simp only[sq]at h;obtain⟨vals,h3,h4⟩:=AR hf h (bl:=bl) ⟨by simpa using d.1,λj n p e f=>d.2 (j+1) n p (by simpa using e) (by simpa using f)⟩;exact⟨vals,h3,h4⟩
 |(_,.hid k)::l,o::bs,[],vs,h,d=>absurd d.1 (by simp)
 |[],_::_,_,_,h,_=>by simp[sq]at h
 |(_,.box _)::_,[],_,_,h,_=>by simp[sq]at h
 |(_,.hid _)::_,[],_,_,h,_=>by simp[sq]at h
structure DG(sh:Sh)(bs:List Nat)(a:Act)(g:Gh)(s:aW S)(w:World)(x:fj S.A (jF sh))(s2:aW S)(ow:List Nat)(g2:Gh)(vals:List Value)(al:List eX)(bl:List Nat):Prop where
 rel:aU g2 (aq s2) w
 ext:Ext s.fl g w g2 w
 pr:oD S g2.bf w (jF sh) x vals al bl
 at_:gT a sh vals
 T6:AL g2 al ow
 DX:PW (λo b=>g2.bG o=Z b) bs bl
 now:ow.Nodup
 Sq:∀o∈ow,s.fl<=o∧s.lo<=o∧o<s.au
 nbs:bs.Nodup
 KR:∀o∈bs,s.fl<=o∧o<s.au∧o∉ow∧∀e,g2.arr o e=Y
 fl:s2.fl=s.fl
 lo:s2.lo=s.lo
 au:s2.au=s.au
 rU:∀o∈s.wr,o∈s2.wr
 same:∀o,o∉s2.wr->s2.ob.get o=s.ob.get o
 dr:s2.dr=s.dr
 ap:tY al
 XI:∀o∈ow,g.bG o=Y
def jl(hS:eR S){s2:aW S}{fr:bI S}(hf:cg g (bh fr) a w)(hs:aU g (aq s) w){sh:Sh}{bs ow:L Nat}{x:fj S.A (jF sh)}{bl0:L Nat}(q:PW (λo b=>g.bG o=Z b) bs bl0)(h:nV sh bs fr s=Z (x,s2,ow)) :
  ∃g2 vals al bl,DG sh bs a g s w x s2 ow g2 vals al bl:=by
 unfold nV at h;split at h
 .cases h
 rename_i vs i;split at h
 .cases h
 rename_i x' I ow' k z;split at h
 .cases h
 rename_i s1 A;rcases aa h with⟨p,h2⟩|⟨_,h2⟩;rotate_left
 .cases h2
 clear h;simp only[dI]at p;simp only[aV,bq]at h2;obtain⟨rfl,rfl,rfl⟩:=h2;obtain⟨vals,K,M⟩:=AR hf i q;have r:=jR p.1;have N:=wz p.2.1;have t:=jR p.2.2.1;have P:k=bs:=by
  have h1:k.length=bs.length:=by have:=beq_iff'.1 p.2.2.2.1;rwa [bA,bA]at this
  have h2:=p.2.2.2.2;clear p z t i q
  induction k generalizing bs with
  |nil=>cases bs with|nil=>rfl|cons=>simp at h1
  |cons c cs ih=>cases bs with|nil=>simp at h1|cons d ds=>simp only[List.zip_cons_cons,BM,dI]at h2;rw[beq_iff'.1 h2.1,ih (by simpa using h1) h2.2]
 subst P;obtain⟨p1,B,p4,p3⟩:=jm hS hs z M (λo f=>by cases f);have Q:=cP hS _ A;obtain⟨H,l,C,R⟩:=dV I hs Q p1;obtain⟨f1,f2,f3,f4,f5,f6,f7⟩:=dY A;obtain⟨al,bl,m,E,u⟩:=p3 H (aq s1) I l C R (λo f=>f) (λo f=>by rw[aE,aE,f6 o (N o f)]);have v:∀o∈k,∃ob,s1.ob.get o=Z ob∧s.ob.get o=Z ob∧mW ob=W:=by
  intro o f;obtain⟨_,F,i,n⟩:=p4 o f;have X:o∉I:=λhm=>by have:=(p1 o hm).mQ (by rw[aE,i];rfl);rw[lZ n]at this;cases this
  exact⟨F,by rw[f6 o X];exact i,i,n⟩
 have G:∀o∈k,∃b,H.bG o=Z b:=by
  intro o f;obtain⟨j,hj,rfl⟩:=oJ f;have hj':j<bl.length:=by have:=u.1;omega
  exact⟨bl[j],u.2 j _ _ (eS hj) (eS hj')⟩
 refine⟨H,vals,al,bl,l,C,m,K,E,u,r,λo f=>⟨(B o f).1,(B o f).2.1,(B o f).2.2.1⟩,t,λo f=>?_,f1,f2,f3,f4,f5,f7,E.apart l r m.gq,λo f=>?_⟩;rotate_left
 .obtain ⟨_,_,_,oba,y,hB⟩:=B o f;exact hs.xd ((aE s o).trans (by rw[y];rfl)) (rM hB)
 obtain⟨F,Wq,hv2,n⟩:=v o f;refine⟨(p4 o f).1,?_,λhm=>?_,λe=>?_⟩
 .obtain ⟨b,p⟩:=G o f;have:=l.lt p;have e1:(aq s1).au=s1.au:=rfl;omega
 .obtain ⟨_,_,_,oba,y,hB⟩:=B o hm;rw[hv2]at y;cases y;have:=rM hB;rw[lZ n]at this;cases this
 .cases y:H.arr o e with|none=>rfl|some x'=>exfalso;obtain⟨_,h2⟩:=l.arr o e x' y;exact BX n (h2 _ (by rw[aE,Wq];rfl))
def ahZ:Pk->Bool|.one _=>J|_=>W
structure yd(ex:List Nat)(sh:Sh)(bs:List Nat)(a:Act)(gb:Gh)(iL:bI S)(s0:aW S)(w:World)(al:List eX)(gh:Gh)(DW:bI S)(ue:aW S):Prop where
 rel:aU gh (aq ue) w
 fr:cg gh (bh DW) a w
 le:lH gb gh
 bf:gh.bf=gb.bf
 own:∀k b,br gh k b->br gb k b∨(s0.au<=k∧∃a∈al,a.at b)
 fl:ue.fl=s0.fl
 lo:ue.lo=s0.lo
 au:s0.au<=ue.au
 wr:ue.wr=s0.wr
 dr:ue.dr=s0.dr
 ob:∀o,o<s0.au->o∉bs->ue.ob.get o=s0.ob.get o
 bG:gh.bG=gb.bG
 arr:∀o,o<s0.au->∀e,gh.arr o e=gb.arr o e
 n:DW.n=iL.n
 J0:DW.df=iL.df
 get:∀k,k∉ex->(∀p∈sh,p.1=k->ahZ p.2=W)->DW.get k=iL.get k
def s4:∀{sh:Sh}{bs:L Nat}{x:fj S.A (jF sh)}{vals:L Value}{al:L eX}{bl:L Nat}{gb:Gh}{iL DW:bI S}{s0 ue:aW S},jx sh bs x iL s0=Z (DW,ue)->iL.n<=bg->
  oD S gb.bf w (jF sh) x vals al bl->gT a sh vals->PW (λo b=>gb.bG o=Z b) bs bl->(∀o∈bs,∀e,gb.arr o e=Y)->(∀a∈al,∀b,a.at b->∀o,¬br gb o b)->tY al->cg gb (bh iL) a w->aU gb (aq s0) w->
  ∃gh,yd [] sh bs a gb iL s0 w al gh DW ue:=by
 intro sh
 induction sh with
 |nil=>
  intro bs x vals al bl gb iL DW s0 ue h hn hp H g I C hap K hs;cases bs with
  |nil=>simp only[jx,aV,bq]at h;obtain⟨rfl,rfl⟩:=h;exact⟨gb,hs,K,lH.refl _,rfl,λ_ _ h=>.inl h,rfl,rfl,bS _,rfl,rfl,λ_ _ _=>rfl,rfl,λ_ _ _=>rfl,rfl,rfl,λ_ _ _=>rfl⟩
  |cons o bs=>simp[jx]at h
 |cons q sh ih=>
  intro bs x vals al bl gb iL DW s0 ue h hn hp H g I C hap K hs;obtain⟨k,pk⟩:=q;cases pk with
  |one c=>
   cases hp with
   | @one _ _ i xr v vs xZ yj bl h1 h2=>
   obtain⟨hv,H⟩:=H;simp only[jx]at h;rcases aa h with⟨B,h⟩|⟨_,h⟩;rotate_left
   .cases h
   simp only[dI]at B;have hk:k<iL.n:=eN B.1;have M:(sG s0 c i).2.au<=bg:=eN B.2;have l:=qR.1 hap;obtain⟨N,d,m8⟩:=kZ (cs:=[c]) (x:=(i,())) h1 hs (λa G=>C a (dH _ G)) l.1 (by simpa[gn]using M);have e1:(gn s0 [c] (i,())).1=[(sG s0 c i).1]:=rfl;have e2:(gn s0 [c] (i,())).2=(sG s0 c i).2:=rfl;rw[e1]at m8;rw[e2]at d;have Wq:aC N w (low (sG s0 c i).1) v:=m8.2 0 _ _ rfl rfl;have P:cg N (bh (iL.put k (sG s0 c i).1)) a w:=by
    refine⟨K.size,K.df.imp (λ_ _ ht=>ht.le d.le) d.le.bG,λj t s=>?_⟩;rw[bF,bI.ie _ _ _ _ (gN hk hn)]at s;by_cases XT:j=k
    .subst XT;rw[aY rfl]at s;simp only[dG,aV]at s;subst s;exact⟨v,hv,Wq⟩
    .rw[bK XT]at s;obtain⟨u,Q,hr⟩:=K.tm j t (by rw[bF];exact s);exact⟨u,Q,hr.le d.le⟩
   obtain⟨gh,f⟩:=ih (gb:=N) h (by simpa[bI.put]using hn) (d.bf▸h2) H (by rw[d.bG];exact g) (λo ho e=>by
     have R:o<s0.au:=by
      obtain⟨j,s,rfl⟩:=oJ ho;have X:j<bl.length:=by have:=g.1;omega
      exact hs.lt (g.2 j _ _ (eS s) (eS X))
     rw[d.arr o R];exact I o ho e) (λa G b B o n=>by
     rcases d.own o b n with n|⟨_,a2,ha2,nB⟩
     .exact C a (gp _ G) b B o n
     .exact l.2.2 a2 ha2 a G b nB B) l.2.1 P d.rel
   refine⟨gh,f.rel,f.fr,d.le.trans f.le,f.bf.trans d.bf,λk' b n=>?_,f.fl.trans d.fl,f.lo.trans d.lo,eO d.au f.au,f.wr.trans d.wr,f.dr.trans d.dr,λo ho E=>?_,f.bG.trans d.bG,λo ho e=>?_,f.n,f.J0,λj hex s=>?_⟩
   .rcases f.own k' b n with n|⟨z,F,A,k3⟩
    .rcases d.own k' b n with n|⟨z,F,A,k3⟩
     .exact .inl n
     .exact .inr ⟨z,F,dH _ A,k3⟩
    .exact .inr ⟨eO d.au z,F,gp _ A,k3⟩
   .rw[f.ob o (gN ho d.au) E];exact d.ob o ho
   .rw[f.arr o (gN ho d.au)];exact d.arr o ho e
   .rw[f.get j hex (λp hp=>s p (gl _ hp)),bI.ie _ _ _ _ (gN hk hn),bK];intro XT;cases s (k,.one c) dX XT.symm
  |box r=>
   cases hp with
   | @box _ _ i xr b hx vs xZ yj bl hhp h1 h2=>
   cases bs with
   |nil=>exact absurd g.1 (by simp)
   |cons o bs=>
   simp only[jx]at h;rcases aa h with⟨B,h⟩|⟨_,h⟩;rotate_left
   .cases h
   have M:(fZ s0 (dg bs) r i).2.au<=bg:=eN B;have l:=qR.1 hap;have Ep:gb.bG o=Z b:=g.2 0 _ _ rfl rfl;obtain⟨N,d,ZE⟩:=nu h1 (xo (bs:=bs) (bl:=bl) ⟨by simpa using g.1,λj a c z A=>g.2 (j+1) a c (by simpa using z) (by simpa using A)⟩) hs (λa G=>C a (dH _ G)) l.1 M;have R:o<s0.au:=hs.lt Ep;have hk:=d.rel.rm (o:=o) (b:=b) (by rw[d.bG];exact Ep) hhp ZE (λe=>by rw[d.arr o R];exact I o (by simp) e);have hk2:aU N (aq {(fZ s0 (dg bs) r i).2 with ob:=(fZ s0 (dg bs) r i).2.ob.set aA o (fZ s0 (dg bs) r i).1}) w:=by have:=eK (fZ s0 (dg bs) r i).2 o (fZ s0 (dg bs) r i).1 (fZ s0 (dg bs) r i).2.wr;rw[show({(fZ s0 (dg bs) r i).2 with ob:=(fZ s0 (dg bs) r i).2.ob.set aA o (fZ s0 (dg bs) r i).1}:aW S)={(fZ s0 (dg bs) r i).2 with ob:=(fZ s0 (dg bs) r i).2.ob.set aA o (fZ s0 (dg bs) r i).1,wr:=(fZ s0 (dg bs) r i).2.wr}from rfl,this];exact hk
   have P:cg N (bh iL) a w:=⟨K.size,K.df.imp (λ_ _ ht=>ht.le d.le) d.le.bG,λj t s=>by
    obtain⟨u,Q,hr⟩:=K.tm j t s;exact⟨u,Q,hr.le d.le⟩⟩
   obtain⟨gh,f⟩:=ih (bs:=bs) (bl:=bl) (gb:=N) h hn (d.bf▸h2) H ⟨by simpa using g.1,λj F c z A=>by rw[d.bG];exact g.2 (j+1) F c (by simpa using z) (by simpa using A)⟩
    (λy m e=>by
     have ZH:y<s0.au:=by
      obtain⟨j,s,rfl⟩:=oJ m;have X:j<bl.length:=by have:=g.1;simp at this;omega
      exact hs.lt (g.2 (j+1) bs[j] bl[j] (by simp[s]) (by simp[X]))
     rw[d.arr y ZH];exact I y (by simp[m]) e) (λa G b B o n=>by
     rcases d.own o b n with n|⟨_,a2,ha2,nB⟩
     .exact C a (gp _ G) b B o n
     .exact l.2.2 a2 ha2 a G b nB B) l.2.1 P hk2
   refine⟨gh,f.rel,f.fr,d.le.trans f.le,f.bf.trans d.bf,λk' b n=>?_,f.fl.trans d.fl,f.lo.trans d.lo,eO d.au f.au,f.wr.trans d.wr,f.dr.trans d.dr,λy m E=>?_,f.bG.trans d.bG,λy m e=>?_,f.n,f.J0,λj hex s=>?_⟩
   .rcases f.own k' b n with n|⟨z,F,A,k3⟩
    .rcases d.own k' b n with n|⟨z,F,A,k3⟩
     .exact .inl n
     .exact .inr ⟨z,F,dH _ A,k3⟩
    .exact .inr ⟨eO d.au z,F,gp _ A,k3⟩
   .have hne:y≠o:=λe=>E (by rw[e];exact dX);rw[f.ob y (gN m d.au) (λhm=>E (gl _ hm))];simp only;rw[Tr.cT _ _ _ _ _ hne];exact d.ob y m
   .rw[f.arr y (gN m d.au)];exact d.arr y m e
   .exact f.get j hex (λp hp=>s p (gl _ hp))
  |hid r=>
   cases hp with
   | @hid _ _ i xr b hx vs xZ yj bl hhp h1 h2=>
   cases bs with
   |nil=>exact absurd g.1 (by simp)
   |cons o bs=>
   simp only[jx]at h;rcases aa h with⟨B,h⟩|⟨_,h⟩;rotate_left
   .cases h
   have M:(fZ s0 (dg bs) r i).2.au<=bg:=eN B;have l:=qR.1 hap;have Ep:gb.bG o=Z b:=g.2 0 _ _ rfl rfl;obtain⟨N,d,ZE⟩:=nu h1 (xo (bs:=bs) (bl:=bl) ⟨by simpa using g.1,λj a c z A=>g.2 (j+1) a c (by simpa using z) (by simpa using A)⟩) hs (λa G=>C a (dH _ G)) l.1 M;have R:o<s0.au:=hs.lt Ep;have hk:=d.rel.rm (o:=o) (b:=b) (by rw[d.bG];exact Ep) hhp ZE (λe=>by rw[d.arr o R];exact I o (by simp) e);have hk2:aU N (aq {(fZ s0 (dg bs) r i).2 with ob:=(fZ s0 (dg bs) r i).2.ob.set aA o (fZ s0 (dg bs) r i).1}) w:=by have:=eK (fZ s0 (dg bs) r i).2 o (fZ s0 (dg bs) r i).1 (fZ s0 (dg bs) r i).2.wr;rw[show({(fZ s0 (dg bs) r i).2 with ob:=(fZ s0 (dg bs) r i).2.ob.set aA o (fZ s0 (dg bs) r i).1}:aW S)={(fZ s0 (dg bs) r i).2 with ob:=(fZ s0 (dg bs) r i).2.ob.set aA o (fZ s0 (dg bs) r i).1,wr:=(fZ s0 (dg bs) r i).2.wr}from rfl,this];exact hk
   have P:cg N (bh iL) a w:=⟨K.size,K.df.imp (λ_ _ ht=>ht.le d.le) d.le.bG,λj t s=>by
    obtain⟨u,Q,hr⟩:=K.tm j t s;exact⟨u,Q,hr.le d.le⟩⟩
   obtain⟨gh,f⟩:=ih (bs:=bs) (bl:=bl) (gb:=N) h hn (d.bf▸h2) H ⟨by simpa using g.1,λj F c z A=>by rw[d.bG];exact g.2 (j+1) F c (by simpa using z) (by simpa using A)⟩
    (λy m e=>by
     have ZH:y<s0.au:=by
      obtain⟨j,s,rfl⟩:=oJ m;have X:j<bl.length:=by have:=g.1;simp at this;omega
      exact hs.lt (g.2 (j+1) bs[j] bl[j] (by simp[s]) (by simp[X]))
     rw[d.arr y ZH];exact I y (by simp[m]) e) (λa G b B o n=>by
     rcases d.own o b n with n|⟨_,a2,ha2,nB⟩
     .exact C a (gp _ G) b B o n
     .exact l.2.2 a2 ha2 a G b nB B) l.2.1 P hk2
   refine⟨gh,f.rel,f.fr,d.le.trans f.le,f.bf.trans d.bf,λk' b n=>?_,f.fl.trans d.fl,f.lo.trans d.lo,eO d.au f.au,f.wr.trans d.wr,f.dr.trans d.dr,λy m E=>?_,f.bG.trans d.bG,λy m e=>?_,f.n,f.J0,λj hex s=>?_⟩
   .rcases f.own k' b n with n|⟨z,F,A,k3⟩
    .rcases d.own k' b n with n|⟨z,F,A,k3⟩
     .exact .inl n
     .exact .inr ⟨z,F,dH _ A,k3⟩
    .exact .inr ⟨eO d.au z,F,gp _ A,k3⟩
   .have hne:y≠o:=λe=>E (by rw[e];exact dX);rw[f.ob y (gN m d.au) (λhm=>E (gl _ hm))];simp only;rw[Tr.cT _ _ _ _ _ hne];exact d.ob y m
   .rw[f.arr y (gN m d.au)];exact d.arr y m e
   .exact f.get j hex (λp hp=>s p (gl _ hp))
def jQ{ow:L Nat}(h:cS ow au o=J):o∉ow∧o<au:=by
 simp only[cS,vT,wX,IM]at h;refine⟨h.1,?_⟩;rcases uW o au with a|b
 .exact a
 .have:=Av b;rw[this]at h;exact absurd h.2 (by simp)
def m5{ow:L Nat}(h1:o∉ow)(h2:o<au):cS ow au o=J:=by simp only[cS,vT,wX,IM];refine⟨h1,?_⟩;cases h:Nat.ble au o with|false=>rfl|true=>have:=eN h;omega
def PK(h:bQ p v=W)(b:bQ q v=J):∃o,p o=W∧q o=J:=by
 rcases Classical.em (∃o,p o=W∧q o=J)with h1|h1
 .exact h1
 .have:∀o,p o=W->q o=W:=λo c=>by cases a:q o with|true=>rfl|false=>exact absurd ⟨o,c,a⟩ h1
  rw[dJ this v h]at b;cases b
def rK(p:Nat->Bool)(v:V S):sk (dc p) (low v) (low (ig p v)):=by cases a:bQ p v with|true=>exact .inr ⟨_,by simp only[ig,a,cn];rfl⟩|false=>exact .inl ⟨by simp only[ig,a,cM],by rw[gY];exact a⟩
def pR(p:Nat->Bool)(v:V S):sk (dc p) (low (ig p v)) (low (ig p v)):=by cases a:bQ p v with|true=>exact .inr ⟨_,by simp only[ig,a,cn];rfl⟩|false=>exact .inl ⟨rfl,by simp only[ig,a,cM];rw[gY];exact a⟩
def wG(p:Nat->Bool)(t:Ty)(x:den S.A t):sk (dc p) (en S t x) (en S t x):=.inl ⟨rfl,gY (S:=S) p (.ty t x)⟩
def Jk(p:Nat->Bool)(a b:Ty)(l:L (den S.A a×den S.A b)):o9 (dc p) (cz (.map a b l:sj S)) (cz (.map a b l)):=by refine⟨rfl,λj t u h1 h2=>?_⟩;rw[h1]at h2;cases h2;simp only[gj,ec]at h1;obtain⟨q,_,rfl⟩:=h1;exact⟨wG p _ _,wG p _ _⟩
def VZ{f:V S->V S}(l:LpV S)(t0:Tr (V S))(hf:∀v,t0.get=t0.get->sk (dc p) (low v) (low (f v))) :
  o9 (dc p) (cz (.lp {l with fr:={l.fr with tm:=t0}})) (cz (.lp {l with fr:={l.fr with tm:=t0.mapA f}})):=by
 refine⟨rfl,rfl,λk u b=>?_⟩;have a:((t0.mapA f).map low).get k=Z u:=b;rw[Tr.get_map,Tr.oa,BN,ec]at a;obtain⟨v,c,rfl⟩:=a;exact⟨low v,by show(t0.map low).get k=_;rw[Tr.get_map,c];rfl,hf v rfl⟩
def lS(p:Nat->Bool)(ob:sj S):o9 (dc p) (cz ob) (cz (fG p ob)):=by
 cases ob with
 |box i=>refine⟨by simp[ee],λj t u h1 h2=>?_⟩;simp only[fP,gj,ec]at h1 h2;obtain⟨v,b,rfl⟩:=h1;obtain⟨g,⟨c,a,rfl⟩,rfl⟩:=h2;rw[b]at a;cases a;exact rK p v
 |map e h l=>exact Jk p e h l
 |DT e l=>refine⟨by simp,λj t u h1 h2=>?_⟩;simp only[gj,ec]at h1 h2;obtain⟨v,b,rfl⟩:=h1;obtain⟨g,⟨c,a,rfl⟩,rfl⟩:=h2;rw[b]at a;cases a;exact⟨wG p _ _,rK p _⟩
 |lp l=>exact VZ l l.fr.tm λv _=>rK p v
 |arr=>rfl
 |jC=>rfl
 |oG=>rfl
 |wE=>rfl
 |rws=>rfl
 |gone=>rfl
 |Cj=>rfl
 |jL n j l era m f hole=>
  cases d:p m with|true=>exact .inr (by simp only[fG,d,cn];rfl)|false=>exact .inl ⟨by simp only[fG,d,cM];rfl,d⟩
def Dl(p:Nat->Bool)(ob:sj S):o9 (dc p) (cz (fG p ob)) (cz (fG p ob)):=by
 cases ob with
 |box i=>refine⟨rfl,λj t u h1 h2=>?_⟩;rw[h1]at h2;cases h2;simp only[fP,gj,ec]at h1;obtain⟨g,⟨v,c,rfl⟩,rfl⟩:=h1;exact pR p v
 |map d h l=>exact Jk p d h l
 |DT d l=>refine⟨rfl,λj t u h1 h2=>?_⟩;rw[h1]at h2;cases h2;simp only[gj,ec]at h1;obtain⟨g,⟨v,c,rfl⟩,rfl⟩:=h1;exact⟨wG p _ _,pR p _⟩
 |lp l=>refine⟨rfl,rfl,λk u e=>?_⟩;refine⟨u,e,?_⟩;have a:((l.fr.tm.mapA (ig p)).map low).get k=Z u:=e;rw[Tr.get_map,Tr.oa,BN,ec]at a;obtain⟨v,c,rfl⟩:=a;exact pR p v
 |arr=>rfl
 |jC=>rfl
 |oG=>rfl
 |wE=>rfl
 |rws=>rfl
 |gone=>rfl
 |Cj=>rfl
 |jL n j l era m f hole=>
  cases b:p m with|true=>simp only[fG,b,cn];rfl|false=>simp only[fG,b,cM];exact .inl ⟨rfl,b⟩
def wo(h:bQ p v=J):ig p v=v:=by simp only[ig,h,cM]
def mo{ob:sj S}(h:eY p ob=J):fG p ob=ob:=by
 cases ob with
 |box g=>
  simp only[fG,sj.box.injEq];have c:∀{l:L (V S)},gH p l=J->∀v∈l,bQ p v=J:=by
   intro l
   induction l with
   |nil=>intro _ v b;cases b
   |cons a l d=>
    intro h v b;simp only[gH,vT]at h;rcases ej.1 b with rfl|b
    .exact h.1
    .exact d h.2 v b
  have:∀v∈g,ig p v=v:=λv b=>wo (c h v b);exact(II this).trans (List.map_id _)
 |DT e l=>
  simp only[fG];have c:∀{l:L (den S.A e×V S)},v5 p l=J->∀v∈l,bQ p v.2=J:=by
   intro l
   induction l with
   |nil=>intro _ v b;cases b
   |cons a l d=>
    intro h v b;simp only[v5,vT]at h;rcases ej.1 b with rfl|b
    .exact h.1
    .exact d h.2 v b
  have:∀q∈l,((q.1,ig p q.2):den S.A e×V S)=q:=λq i=>by rw[wo (c h q i)]
  rw[(II this).trans (List.map_id _)]
 |lp l=>simp only[fG,AX (λv=>wo) (show kG (bQ p) l.fr.tm=J from h)]
 |jL n j l era m f hole=>have h:p m=J:=h;simp only[fG,h,cM]
 |_=>rfl
section
variable {bs ow ds:List Nat}{fr:bI S}{s1:aW S}
def qA(a:∀b∈bs,b<bg)(o:Nat):(bX ds ow bs fr s1).2.ob.get o=if o∈bs then Y else(s1.ob.get o).map (fG (cS ow s1.au)):=by show(bs.foldl (λt o=>t.del aA o) (s1.ob.mapA _)).get o=_;rw[Tr.mb bs _ o a,Tr.oa]
end
def zT:∀(l:L (V S))(k:Nat)(t:Tr (V S)),(kJ l k t).map low=yQ (aX l) k (t.map low)
 |[],_,_=>rfl
 |a::l,k,t=>by simp only[kJ,aX,yQ];rw[zT l,Tr.kz]
def qt{n:Nat}(hn:n<bg){args:L (V S)}{vs:Array Value}(hl:args.length<=n)(c:PW (aC g w) (aX args) vs.toList) :
  cg g (bh {n:=n,tm:=kJ args 0 .nil}) {tmps:=vs++Array.replicate (n-vs.size) undef,defers:=[]} w:=by
 have d:(aX args).length=vs.size:=by simpa using c.1
 have f:args.length=vs.size:=by rw[<-d,ee]
 refine⟨by simp[bh];omega,.nil,λj t b=>?_⟩;have e:(bh {n:=n,tm:=kJ args 0 .nil}).get j=(yQ (aX args) 0 .nil).get j:=by show((kJ args 0 .nil).map low).get j=_;rw[zT];rfl
 rw[e,CF _ _ _ (by omega)]at b;simp only[yA,lY,true_and,Nat.sub_zero]at b;split at b
 .rename_i h;have a:j<vs.size:=by omega
  refine⟨vs[j],?_,c.2 j t _ b (by simp[a])⟩;rw[NH,aY a];exact nT a
 .rw[Tr.get_nil]at b;cases b
end
section
def Gg(s:aW S)(g:Gh)(w:World){ω:Type}(k kp:V S->aW S->O ω)(r:ω):Ending->World->Prop
 | .returned v,b=>∃t c d,k t c=Z r∧aC d b (low t) v∧eC s g w c d b
 | .panicked chain,b=>∃v t c d,chain=[{v,recovered:=J}]∧kp t c=Z r∧aC d b (low t) v∧eC s g w c d b
 | .outgrown,_=>False
def aff(P:Program)(call:gm S):Prop:=∀(f:FuncId)(args:L (V S))(s:aW S){ω:Type}(k kp:V S->aW S->O ω)(r:ω),call (.jn f) args s k kp=Z r->∀(g:Gh)(w:World)(vs:Array Value),aU g (aq s) w->PW (aC g w) (aX args) vs.toList->
  jZ P f∧Calls P f vs w (Gg s g w k kp r)
def uq:∀{l:L Nat}{o:Nat},o∈l->o<=Co l
 |[],_,h=>by cases h
 |a::l,o,h=>by
  simp only[Co];rcases ej.1 h with rfl|h
  .cases b:Nat.ble (Co l) o with
   |true=>exact bS _
   |false=>
    rcases uW o (Co l)with h|h
    .exact BL h
    .rw[Av h]at b;cases b
  .have:=uq h;cases b:Nat.ble (Co l) a with|true=>exact eO this (eN b)|false=>exact this
def hJ{l:L Nat}{o:Nat}:xb l o=J↔o∈l:=by simp[xb]
def ru{t:Tr (sj S)}:∀{l:L Nat},(∀o∈l,o<bg)->∀{o:Nat},(xj t l).get o=if o∈l then t.get o else Y
 |[],_,o=>by simp[xj,Tr.get_nil]
 |a::l,h,o=>by
  have b:=ru (t:=t) (l:=l) (λo f=>h o (gl _ f)) (o:=o);have c:=h a dX;simp only[xj];by_cases e:o=a
  .subst e;rw[aY dX];cases d:t.get o with|none=>simp only;rw[b,d];exact ite_self _|some x=>simp only;rw[Tr.aO _ _ _ _ c,aY rfl]
  .have:(o∈a::l)=(o∈l):=by simp[e]
   cases d:t.get a with|none=>simp only[this];exact b|some x=>simp only[this];rw[Tr.aO _ _ _ _ c,bK e];exact b
def VX(os:L Nat)(t:T):dc os.contains t=cO os t:=by
 induction t using T.rec (motive_2:=λl=>hY os.contains l=gG os l)with|fn f a b d g=>simp only[cO,dc,d,g]|cE t v e=>simpa only[cO,dc]using e|agg i e=>simpa only[cO,dc]using e|fQ i e=>simpa only[cO,dc]using e|gd c t e=>simpa only[cO,dc]using e|nil=>rfl|cons a l d h=>simp only[gG,hY,d,h]|_=>rfl
def zO{p q:Nat->Bool}(h:∀o,p o=W->q o=W){α:Type}:∀l:L (α×V S),v5 p l=W->v5 q l=W
 |[],a=>by cases a
 |v::l,a=>by simp only[v5,ir]at a ⊢;exact a.imp (dJ h v.2) (zO h l)
def qZ{p q:V S->Bool}(h:∀v,p v=W->q v=W):∀t:Tr (V S),kG p t=W->kG q t=W
 | .nil,a=>by cases a
 | .node v l r,a=>by
  simp only[kG,ir]at a ⊢;refine a.imp (λa=>?_) (Or.imp (qZ h l) (qZ h r));cases v with
  |none=>cases a
  |some x=>exact h x a
variable {p q:Nat->Bool}{s:aW S}{fr:bI S}
def GS(h:∀o,p o=W->q o=W){ob:sj S}(c:eY q ob=J):eY p ob=J:=by
 cases a:eY p ob with
 |false=>rfl
 |true=>
  have:eY q ob=W:=by cases ob with|box d=>exact j7 h d a|DT e l=>exact zO h l a|lp l=>exact qZ (dJ h) _ a|jL n j l era m b hole=>exact h m a|_=>cases a
  rw[c]at this;cases this
def Bz{g:Gh}{w:World}{d:L Ck}{v:V S}{val:Value}(i:aC g w (low v) val){x:fH S.A d}{fz ow:L Nat}(h:eV s d (RH d v)=Z (x,fz,ow)):∃vals,val=valOf vals∧PW (aC g w) (aX (RH d v)) vals:=by
 have one:∀{l:L (V S)},l=[v]->d.length=1->∃vals,val=valOf vals∧PW (aC g w) (aX l) vals:=by
  rintro l rfl _
  refine⟨[val],rfl,rfl,λj t u h1 h2=>?_⟩;cases j with|zero=>simp[aX]at h1 h2;subst h1;subst h2;exact i|succ j=>simp[aX]at h1
 have e:∀{b:L Ck}{l:L (V S)}{x:fH S.A b}{fz ow:L Nat},eV s b l=Z (x,fz,ow)->b.length=l.length:=by
  intro b
  induction b with
  |nil=>intro l x fz ow h;cases l with|nil=>rfl|cons=>simp[eV]at h
  |cons c b p=>intro l x fz ow h;cases l with
   |nil=>simp[eV]at h
   |cons v l=>
    simp only[eV]at h;split at h
    .rename_i q;simp[p q]
    .cases h
 have a:=e h;unfold RH at a h ⊢;split at h
 .exact one rfl rfl
 .rename_i l k;simp only at a;simp only[low]at i;cases i with
  |fQ _ n o r=>
   refine⟨n.toList,?_,by simpa using o,λj t v h1 h2=>r j t v h1 (by simpa using h2)⟩;have f:n.toList.length≠1:=by
    intro h1;have h2:(aX l).length=1:=by rw[o];simpa using h1
    rw[ee]at h2;rw[h2]at a;obtain⟨c,y⟩:=IZ.1 a;exact k c y
   unfold valOf;split
   .rename_i z m;rw[m]at f;exact absurd rfl f
   .rfl
 .simp only[gi,BO,lY]at a;exact one rfl a
def CL{fr:bI S}:∀{n j:Nat}{l:L (V S)},getAll fr j n=Z l->l.length=n∧∀(i:Nat)(v:V S),l[i]?=Z v->fr.get (j+i)=Z v
 |0,j,l,h=>by simp only[getAll,aV]at h;subst h;exact⟨rfl,λi v h=>by simp at h⟩
 |n+1,j,l,h=>by
  simp only[getAll]at h;split at h
  .rename_i v r h1 h2;simp only[aV]at h;subst h;obtain⟨b,c⟩:=CL h2;refine⟨by simp[b],λi u a=>?_⟩;cases i with|zero=>simp at a;subst a;exact h1|succ i=>have:=c i u (by simpa using a);rw[show j+(i+1)=Nat.succ j+i by omega];exact this
  .cases h
def NO{g:Gh}{w:World}{fr:bI S}{s:aW S}{a:Act}(hf:cg g (bh fr) a w)(hs:aU g (aq s) w):∀{ps:L Pt}{i:L Nat},Sl fr s ps=Z i->∀o∈i,∃b,g.bG o=Z b
 |[],i,h=>by simp only[Sl,aV]at h;subst h;exact λo k=>by cases k
 |p::l,i,h=>by
  simp only[Sl]at h;split at h
  .rename_i o r h1 h2;simp only[aV]at h;subst h;intro m c;rcases ej.1 c with rfl|c
   .unfold ptO at h1;split at h1
    .rename_i j d;cases h1;obtain⟨u,e⟩:=iM hf hs d;cases e with|ptr _ _ b f=>exact⟨b,f⟩
    .rename_i j d;cases h1;obtain⟨u,e⟩:=iM hf hs d;cases e with|mp _ b f=>exact⟨b,f⟩
    .rename_i j d;cases h1;obtain⟨u,e⟩:=iM hf hs d;cases e with|pz _ b f=>exact⟨b,f⟩
    .cases h1
   .exact NO hf hs h2 m c
  .cases h
def Nv{s:aW S}:∀{cs:L Ck}{l:L (V S)}{x:fH S.A cs}{fz ow:L Nat},jy cs=W->eV s cs l=Z (x,fz,ow)->fz=[]∧ow=[]
 |[],[],_,fz,ow,_,h=>by simp only[eV,aV,bq]at h;exact⟨h.2.1.symm,h.2.2.symm⟩
 | .dat t::cs,v::l,x,fz,ow,b,h=>by
  simp only[jy,dI]at b;simp only[eV]at h;split at h
  .rename_i f a1 g h1 a2 i c d;simp only[aV,bq]at h;obtain⟨_,rfl,rfl⟩:=h;obtain⟨rfl,rfl⟩:=Nv b.2 d;simp only[kD]at c;split at c
   .rename_i y os a;simp only[aV,bq]at c;obtain⟨_,rfl,rfl⟩:=c;refine⟨?_,rfl⟩;rw[mD];cases t with
    |sl e=>simp[Bt]at b
    |st n=>simp[Bt]at b
    |cE n=>simp[Bt]at b
    |int k=>
     cases v<;>simp only[bH]at a<;>try(cases a;done)
     .rename_i u z;split at a
      .simp only[aV,bq]at a;exact a.2.symm
      .cases a
     .rename_i j z;rcases aa a with⟨_,a⟩|⟨_,a⟩
      .simp only[aV,bq]at a;exact a.2.symm
      .cases a
    |bool=>
     cases v<;>simp only[bH]at a<;>try(cases a;done)
     .rename_i u z;split at a
      .simp only[aV,bq]at a;exact a.2.symm
      .cases a
     .simp only[aV,bq]at a;exact a.2.symm
    |str=>
     cases v<;>simp only[bH]at a<;>try(cases a;done)
     rename_i u z;split at a
     .simp only[aV,bq]at a;exact a.2.symm
     .cases a
   .cases c
  .cases h
 | .own _::_,_,_,_,_,b,_=>by simp[jy]at b
 | .iJ ..::_,_,_,_,_,b,_=>by simp[jy]at b
 | .nil _::_,_,_,_,_,b,_=>by simp[jy]at b
 | .ptr _::_,_,_,_,_,b,_=>by simp[jy]at b
 |[],_::_,_,_,_,_,h=>by simp[eV]at h
 | .dat _::_,[],_,_,_,_,h=>by simp[eV]at h
section
variable {g:Gh}{w:World}
def Qt{P:Program}(hS:eR S){call:gm S}(u6:aff P call)(hs:aU g (aq s) w){c:Xp}{f:FuncId}{args:L (V S)}{ω:Type}{k:V S->aW S->L Nat->O ω}{r:ω}
  (h:evJ call c s f args k=Z r) {vs:Array Value} (hall:PW (aC g w) (aX args) vs.toList):jZ P f∧Calls P f vs w λ
   | .returned v,w'=>∃t s' g' M,k t s' M=Z r∧aC g' w' (low t) v∧cr M s g w s' g' w'
   | .panicked _,_=>False
   | .outgrown,_=>False:=by
 unfold evJ at h;split at h;rotate_left
 .cases h
 rename_i C z hbs hks;split at h
 .cases h
 rename_i x0 E M hpk;rcases aa h with⟨m,h1⟩|⟨_,h1⟩;rotate_left
 .cases h1
 clear h;simp only[dI]at m;obtain⟨⟨hlen,N⟩,XN,Z0,hmax⟩:=m;have hlen:bU args<bg:=eN hlen;have N:∀k∈vL c.sh,k<bg:=λk hk=>by rw[dU]at N;exact eN (N k hk)
 have hmax:Co (C++z)+1<=E.au:=eN hmax;obtain⟨y,hrun,h2⟩:=oz h1;clear h1;split at h2
 .cases h2
 rename_i frF s3 hout;have hvl:args.length=vs.size:=by have:=hall.1;rw[ee]at this;simpa using this
 have Qb:cg g (bh (TB args)) {tmps:=vs++Array.replicate (bU args-vs.size) undef,defers:=[]} w:=qt hlen (by rw[bA];exact bS _) hall;have ain:vs++Array.replicate (bU args-vs.size) undef=vs:=by rw[bA,hvl,E1];simp
 rw[ain]at Qb;generalize ha0:({tmps:=vs,defers:=[]}:Act)=a0 at Qb;have ajo:a0.tmps=vs:=by rw[<-ha0]
 obtain⟨bl0,Me⟩:=qn Qb hs hbs;obtain⟨A,vals,al,bl,i⟩:=jl hS Qb hs Me hpk;have hkb:=NO Qb hs hks;have Qe:∀o∈C,∃b,A.bG o=Z b:=λo ho=>by
  obtain⟨j,hj,rfl⟩:=oJ ho;have hj':j<bl.length:=by have:=i.DX.1;omega
  exact⟨bl[j],i.DX.2 j _ _ (eS hj) (eS hj')⟩
 have hKb:∀o∈C++z,∃b,A.bG o=Z b:=λo ho=>by
  rcases dy.1 ho with ho|ho
  .exact Qe o ho
  .obtain ⟨b,m⟩:=hkb o ho;exact⟨b,i.ext.bG _ _ m⟩
 have aad:∀o∈C++z,o<E.au:=λo ho=>by obtain⟨b,m⟩:=hKb o ho;exact i.rel.lt m
 have hn1:E.au<=bg:=i.rel.au;have adQ:∀o∈C++z,o∉M:=λo ho hm=>by
  rcases dy.1 ho with ho|ho
  .exact (i.KR o ho).2.2.1 hm
  .obtain ⟨b,m⟩:=hkb o ho;rw[i.XI o hm]at m;cases m
 have hkp:∀o∈z,∃ob,E.ob.get o=Z ob∧mW ob=W∧eY (xb (C++z)) ob=J:=λo ho=>by
  unfold Ot at Z0;rw[dU]at Z0;have:=Z0 o ho;split at this
  .rename_i ob d;simp only[dI,As]at this;exact⟨ob,d,this⟩
  .cases this
 have I:∀o∈C++z,∀e,A.arr o e=Y:=λo ho e=>by
  rcases dy.1 ho with ho|ho
  .exact (i.KR o ho).2.2.2 e
  .obtain ⟨ob,d,Fy,_⟩:=hkp o ho;cases hx:A.arr o e with|none=>rfl|some x=>exfalso;obtain⟨_,h2⟩:=i.rel.arr o e x hx;exact BX Fy (h2 _ (by rw[aE,d];rfl))
 have WA:∀o∈z,o<bg:=λo ho=>gN (aad o (gp _ ho)) hn1;have AD:=i.T6.owned i.pr.gq;have aih:aU (A.base (xb (C++z))) (aq (stJ C z E)) w:=by
  refine i.rel.base (au:=Co (C++z)+1) (λo ho=>?_) rfl hmax (λo ob G d=>?_)
  .cases hn:xb (C++z) o with|true=>rfl|false=>have:=uq (hJ.1 hn);omega
  .rw[aE,show(stJ C z E).ob.get o=(xj E.ob z).get o from rfl,ru WA]at d;split at d
   .rename_i R;obtain⟨VS,Hs,_,hm⟩:=hkp o R;rw[Hs]at d;simp only[dG,aV]at d;subst d;refine⟨cz VS,by rw[aE,Hs];rfl,?_⟩;have:=lS (xb (C++z)) VS;rwa [mo hm]at this
   .cases d
 have hf1:cg (A.base (xb (C++z))) (bh (WT (C++z) c.sh (TB args))) a0 w:=by
  refine⟨Qb.size,by rw[<-ha0];exact .nil,λk t hk=>?_⟩;rw[bF,ec]at hk;obtain⟨v,hv,rfl⟩:=hk;have hv:(((vL c.sh).foldl (λt k=>t.del aA k) (TB args).tm).keep λv=>!(bQ (xb (C++z)) v)).get k=Z v:=hv;rw[Tr.l9,I0]at hv;obtain⟨h3,h4⟩:=hv;have h5:(TB args).get k=Z v:=by
   rw[Tr.mb _ _ _ N]at h3;split at h3
   .cases h3
   .exact h3
  obtain⟨u,hu,hr⟩:=Qb.tm k (low v) (by rw[bF,h5];rfl);exact⟨u,hu,(hr.ext i.ext hs.bf).on (A.fS _) (λ_ _=>rfl) (by rw[gY];simpa using h4)⟩
 unfold Vw at hrun;split at hrun
 .cases hrun
 rename_i DW ue JB;split at hrun
 .cases hrun
 rename_i args' cC;obtain⟨gh,hh⟩:=s4 (gb:=A.base (xb (C++z))) JB (BL hlen) i.pr i.at_ ⟨i.DX.1,λj o b h1 h2=>(A.fS _).bG o b (hJ.2 (dH _ (gk h1))) (i.DX.2 j o b h1 h2)⟩
  (λo ho e=>by
   simp only[Gh.base];split
   .exact I o (dH _ ho) e
   .rfl)
  (λa ha b m o F=>by
   obtain⟨h3,h4⟩:=Gh.fN F;obtain⟨o',ho',K⟩:=AD a ha b m;have:=i.rel.jv o o' b h4 K;subst this;exact adQ o (hJ.1 h3) ho') i.ap hf1 aih
 have hfn:DW.n=vs.size:=by have h3:DW.n=(TB args).n:=hh.n;rw[h3];show bU args=_;rw[bA,hvl]
 have m8:PW (aC gh w) (aX args') vs.toList:=by obtain⟨k1,k2⟩:=CL cC;refine⟨by rw[ee,k1,hfn];simp,λj t v h3 h4=>?_⟩;rw[fP,gj,ec]at h3;obtain⟨u,hu,rfl⟩:=h3;have h5:=k2 j u hu;rw[lY]at h5;obtain⟨v',h6,h7⟩:=hh.fr.tm j (low u) (by rw[bF,h5];rfl);rw[ajo]at h6;rw[Pj]at h4;rw[h4]at h6;cases h6;exact h7
 obtain⟨Mc,hc⟩:=u6 f args' ue _ _ y hrun gh w vs hh.rel m8;refine⟨Mc,hc.mono λe w' he=>?_⟩;cases e with
 |outgrown=>exact he.elim
 |panicked ch=>obtain⟨_,_,_,_,_,h3,_⟩:=he;cases h3
 |returned v=>
 obtain⟨t,s',g',h3,ht,n⟩:=he;unfold XH at h3;split at h3;rotate_left
 .cases h3
 rename_i yr fz ow' y2 s2 KN hr hy;rcases aa h3 with⟨ZS,h4⟩|⟨_,h4⟩;rotate_left
 .cases h4
 simp only[aV]at h4;subst h4;clear h3;have ZS:∀o∈z,o∉s2.wr:=λo ho=>by rw[dU]at ZS;simpa using ZS o ho
 have hfE:∀(g:Gh)(w:World),cg g (bh (frE:bI S)) {tmps:=#[],defers:=[]} w:=λg w=>⟨rfl,.nil,λk t hk=>by rw[bF]at hk;simp[frE,bI.get,Tr.get_nil]at hk⟩;have Z3:∀o∈C++z,∀b,A.bG o=Z b->gh.bG o=Z b:=λo ho b m=>by rw[hh.bG];exact(A.fS _).bG o b (hJ.2 ho) m
 have ajm:PW (λo b=>g'.bG o=Z b) C bl:=⟨i.DX.1,λj o b h1 h2=>n.ext.bG o b (Z3 o (dH _ (gk h1)) b (i.DX.2 j o b h1 h2))⟩;obtain⟨g3,vals2,yj,bl2,l⟩:=jl hS (hfE g' w') n.rel ajm hy;have hfl:ue.fl=s.fl:=hh.fl.trans (show(stJ C z E).fl=s.fl from i.fl);have p:mz ue.lo ue.fl gh w g3 w':=n.ext.trans (n.fl▸l.ext.Eb ue.lo);have hgi:gh.bf=A.bf:=hh.bf;have ZT:∀{o b:Nat},br gh o b->(o∈C++z∧A.bG o=Z b∧br A o b)∨∃a∈al,a.at b:=λ{o b}F=>by
  rcases hh.own o b F with F|⟨_,hx⟩
  .obtain ⟨h3,h4⟩:=Gh.fN F;have h3:=hJ.1 h3;refine .inl ⟨h3,?_,h4⟩;rcases h4.2 with h5|⟨e,x,_,h5,_⟩
   .exact h5
   .rw[I o h3 e]at h5;cases h5
  .exact .inr hx
 let X:Nat->Prop:=λb=>(∃o∈C++z,A.bG o=Z b)∨∃a∈al,a.at b
 have WD:∀{o b:Nat},br gh o b->X b:=λ{o b}F=>(ZT F).imp (λ⟨h1,h2,_⟩=>⟨o,h1,h2⟩) id;have hK3:∀o∈C++z,∀b,A.bG o=Z b->g3.bG o=Z b:=λo ho b m=>p.bG o b (Z3 o ho b m);have Tu:∀b,A.bf b->g3.bf b:=λb m=>p.bf b (by rw[hgi];exact m);have hXi:∀b,X b->¬A.bf b:=λb hX=>by
  rcases hX with⟨o,_,ho⟩|⟨a,ha,H⟩
  .exact (i.rel.box o b ho).1
  .exact i.pr.gq a ha b H
 have hXO:∀b,X b->∃o,(o∈C++z∨o∈M)∧br A o b:=λb hX=>by
  rcases hX with⟨o,h1,ho⟩|⟨a,ha,H⟩
  .exact ⟨o,.inl h1,(i.rel.box o b ho).1,.inl ho⟩
  .obtain ⟨o,ho,F⟩:=AD a ha b H;exact⟨o,.inr ho,F⟩
 generalize hB:(bX [] M C (frE:bI S) E).2=B at hout;have hBg:∀o,B.ob.get o=if o∈C then Y else(E.ob.get o).map (fG (cS M E.au)):=λo=>by rw[<-hB];exact qA (ds:=[]) (fr:=frE) (λb m=>gN (aad b (dH _ m)) hn1) o
 have hBn:B.au=E.au:=by rw[<-hB];rfl
 have ajs:B.fl=E.fl:=by rw[<-hB];rfl
 have ajr:B.lo=E.lo:=by rw[<-hB];rfl
 have hA:aU (A.base (cS M E.au)) (aq B) w:=by
  refine i.rel.base (au:=E.au) (λo ho=>?_) hBn (bS _) (λo ob G d=>?_)
  .simp only[cS,ir];exact .inr (Av ho)
  .rw[aE,hBg]at d;split at d
   .cases d
   .rw[BN,ec]at d;obtain⟨vob,hv,rfl⟩:=d;exact⟨cz vob,by rw[aE,hv];rfl,lS _ vob⟩
 have WK:∀o,(vk z B).ob.get o=if o∈z then Y else B.ob.get o:=λo=>Tr.mb z _ o WA
 have hA':aU (A.base (cS M E.au)) (aq (vk z B)) w:=by
  have hsub:∀o ob,(aq (vk z B)).ob.get o=Z ob->(aq B).ob.get o=Z ob:=by
   intro o ob h;rw[aE,WK]at h;split at h
   .cases h
   .rw[aE];exact h
  refine⟨hA.au,hA.af,λo b h=>?_,λo e x h=>?_,hA.bf,hA.jv⟩
  .obtain ⟨k1,k2,k3⟩:=hA.box o b h;exact⟨k1,k2,λob d=>k3 ob (hsub o ob d)⟩
  .obtain ⟨k1,k2⟩:=hA.arr o e x h;exact⟨k1,λob d=>k2 ob (hsub o ob d)⟩
 have hC:aU {A.base (cS M E.au)with bf:=g3.bf} (aq (vk z B)) w':=by
  refine hA'.step (X:=X) Tu (λb m=>?_) l.rel.bf p.size (λb m hX=>n.ext.heap b m λo _ F=>hX (WD F)) (λo b hX F=>?_) hXi
  .rcases p.pN b m with h|h|⟨o,_,F⟩
   .rw[hgi]at h;exact .inl h
   .exact .inr (.inl h)
   .exact .inr (.inr (WD F))
  .obtain ⟨G,F⟩:=Gh.fN F;obtain⟨o',ho',K⟩:=hXO b hX;have:=i.rel.jv o o' b F K;subst this;rcases ho' with Q|hw
   .refine ⟨?_,?_⟩
    .rw[aE,WK];rcases dy.1 Q with h|h
     .rw[hBg,aY h];simp
     .rw[aY h];rfl
    .obtain ⟨b',hb'⟩:=hKb o Q;rcases F.2 with h5|⟨e,x,_,h5,_⟩
     .exact (l.rel.box o b (hK3 o Q b h5)).1
     .rw[I o Q e]at h5;cases h5
   .exact absurd hw (jQ G).1
 have X0:∀o∈C++z,cS M E.au o=J:=λo ho=>m5 (adQ o ho) (aad o ho);have hgB:Xs (xb (C++z)) g3 {A.base (cS M E.au)with bf:=g3.bf}:=by
  refine⟨λo b G m=>?_,λo e x G hx=>?_,λ_ h=>h⟩
  .have Q:=hJ.1 G;obtain⟨b',hb'⟩:=hKb o Q;rw[hK3 o Q b' hb']at m;have hbb:b'=b:=ew m;rw[<-hbb];exact(A.fS _).bG o b' (X0 o Q) hb'
  .exfalso;have Q:=hJ.1 G;rcases dy.1 Q with h|h
   .rw[(l.KR o h).2.2.2 e]at hx;cases hx
   .obtain ⟨VS,Hs,Fy,_⟩:=hkp o h;obtain⟨b',hb'⟩:=hKb o Q;obtain⟨_,k2⟩:=l.rel.arr o e x hx;cases hoc:(aq s2).ob.get o with
    |none=>
     exfalso;have:s2.ob.get o=Z VS∨o∈C:=by
      by_cases d:o∈C
      .exact .inr d
      .left
       rw[l.same o (ZS o h),n.same o (gN (NB (uq Q)) hh.au) (λhm=>ZS o h (l.rU o hm)),hh.ob o (NB (uq Q)) d];show(xj E.ob z).get o=_;rw[ru WA,aY h,Hs]
     rcases this with h6|h6
     .rw[aE,h6]at hoc;cases hoc
     .rw[(l.KR o h6).2.2.2 e]at hx;cases hx
    |some obx=>have h7:=(k2 obx hoc).mQ;have h8:=(l.rel.box o b' (hK3 o Q b' hb')).2.2 obx hoc;obtain⟨_,_,h9⟩:=h8;rw[h9.yK]at h7;cases h7
 have hD:aU {A.base (cS M E.au)with bf:=g3.bf} (aq B) w':=by
  refine⟨hC.au,hC.af,λo b h=>?_,λo e x h=>?_,hC.bf,hC.jv⟩
  .obtain ⟨k1,k2,k3⟩:=hC.box o b h;refine⟨k1,k2,λob d=>?_⟩;by_cases R:o∈z
   .have Q:o∈C++z:=gp _ R;obtain⟨VS,Hs,Fy,hm⟩:=hkp o R;have LX:=d;rw[aE,hBg]at LX;split at LX
    .cases LX
    rename_i hnb;rw[Hs]at LX;simp only[dG,aV]at LX;have hm2:eY (cS M E.au) VS=J:=GS (λo ho=>by
     cases hn:xb (C++z) o with
     |true=>rfl
     |false=>
      rw[X0 o (hJ.1 hn)]at ho;cases ho) hm
    rw[mo hm2]at LX;subst LX;have h6:s2.ob.get o=Z VS:=by rw[l.same o (ZS o R),n.same o (gN (NB (uq Q)) hh.au) (λhm=>ZS o R (l.rU o hm)),hh.ob o (NB (uq Q)) hnb];show(xj E.ob z).get o=_;rw[ru WA,aY R,Hs]
    obtain⟨G,nB⟩:=Gh.xV (show(A.base (cS M E.au)).bG o=Z b from h);obtain⟨x,h7,h8⟩:=(l.rel.box o b (hK3 o Q b nB)).2.2 (cz VS) (by rw[aE,h6];rfl);have hl:=lS (xb (C++z)) VS;rw[mo hm]at hl;exact⟨x,h7,h8.left (λt v ht hmt=>ht.on hgB (λ_ _=>rfl) hmt) hl⟩
   .exact k3 ob (by rw[aE,WK,bK R,<-aE];exact d)
  .obtain ⟨k1,k2⟩:=hC.arr o e x h;refine⟨k1,λob d=>?_⟩;by_cases R:o∈z
   .have h3:=(Gh.xW (show(A.base (cS M E.au)).arr o e=Z x from h)).2;rw[I o (gp _ R) e]at h3;cases h3
   .exact k2 ob (by rw[aE,WK,bK R,<-aE];exact d)
 have Ts:=l.T6.owned l.pr.gq;have Tt:∀a∈yj,∀b,a.at b->X b∨w.heap.size<=b:=λa ha b H=>by
  obtain⟨o2,Q5,Qi⟩:=Ts a ha b H;rcases p.own o2 b (n.fl▸(l.Sq o2 Q5).1) Qi with⟨o',_,K⟩|h
  .exact .inl (WD K)
  .exact .inr h
 obtain⟨gF,Te⟩:=s4 (a:={tmps:=#[],defers:=[]}) (gb:={A.base (cS M E.au)with bf:=g3.bf}) (w:=w') hout (yA _) l.pr l.at_
  ⟨l.DX.1,λj o b h1 h2=>hgB.bG o b (hJ.2 (dH _ (gk h1))) (l.DX.2 j o b h1 h2)⟩
  (λo ho e=>by
   show(A.base (cS M E.au)).arr o e=Y;simp only[Gh.base];split
   .exact I o (dH _ ho) e
   .rfl)
  (λa ha b H o F=>by
   have hO0:br (A.base (cS M E.au)) o b:=⟨λhi=>F.1 (Tu b hi),F.2⟩;obtain⟨G,Qi⟩:=Gh.fN hO0;obtain⟨o2,Q5,hO3⟩:=Ts a ha b H;by_cases Q:o∈C++z
   .have Z5:g3.bG o=Z b:=by
     rcases Qi.2 with h5|⟨e,x,_,h5,_⟩
     .exact hK3 o Q b h5
     .rw[I o Q e]at h5;cases h5
    have:=l.rel.jv o o2 b ⟨(l.rel.box o b Z5).1,.inl Z5⟩ hO3;subst this;obtain⟨b',hb'⟩:=hKb o Q;have h6:g'.bG o=Z b':=n.ext.bG o b' (Z3 o Q b' hb');rw[l.XI o Q5]at h6;cases h6
   .rcases Tt a ha b H with hX|h
    .obtain ⟨o',ho',K⟩:=hXO b hX;have:=i.rel.jv o o' b Qi K;subst this;rcases ho' with h6|h6
     .exact Q h6
     .exact (jQ G).1 h6
    .have:=(i.rel.nX Qi).1;omega) l.ap (hfE _ _) hD
 have ai6:∀b,b<w.heap.size->(∀o,s.fl<=o->¬br g o b)->∀o,s.fl<=o->¬br gh o b:=λb m hn o ho F=>by
  rcases ZT F with⟨_,_,Qi⟩|⟨a,ha,H⟩
  .rcases i.ext.own o b Qi with h|h
   .exact hn o ho h
   .omega
  .obtain ⟨o',ho',K⟩:=AD a ha b H;rcases i.ext.own o' b K with h|h
   .exact hn o' (i.Sq o' ho').1 h
   .omega
 have adr:∀{o b:Nat},s.fl<=o->br gh o b->(∃o',s.fl<=o'∧br g o' b)∨w.heap.size<=b:=λ{o b}ho F=>by
  rcases ZT F with⟨_,_,Qi⟩|⟨a,ha,H⟩
  .exact (i.ext.own o b Qi).imp (λh=>⟨o,ho,h⟩) id
  .obtain ⟨o',ho',K⟩:=AD a ha b H;exact(i.ext.own o' b K).imp (λh=>⟨o',(i.Sq o' ho').1,h⟩) id
 have acP:aC gF w' (low (An (oY c.rs yr))) v:=by obtain⟨vals',rfl,ait⟩:=Bz ht hr;obtain⟨_,_,q⟩:=fy hS n.rel hr ait;obtain⟨rfl,rfl⟩:=Nv XN hr;obtain⟨T6,hH,_⟩:=q g' (aq s') [] n.rel (Ext.refl _ _ _) ⟨rfl,rfl,λo ho=>(by cases ho),λ_ _ _ _ h=>h,λo ho=>(by cases ho)⟩ (λ_ h=>h) (λo ho=>(by cases ho));exact wH (uw XN hH)
 refine⟨_,_,gF,M,h2,acP,Te.rel,⟨λo b m=>?_,λo e x hl hx=>?_,λb m=>?_,p.size,λb m hn=>?_,λo b ho F=>?_,λb m=>?_,p.os,p.output⟩,Te.fl.trans (ajs.trans i.fl),Te.lo.trans (ajr.trans i.lo),?_,λo ho=>?_,λo hl ho=>?_,λt v ht hm=>?_,λo ho=>?_,λo ho=>?_,λo ho=>?_⟩
 .rw[Te.bG];exact(A.fS _).bG o b (m5 (λhm=>by rw[i.XI o hm]at m;cases m) (by have:=hs.lt m;rw[i.au];exact this)) (i.ext.bG o b m)
 .have hlt:o<E.au:=by have:=hs.lt' hx;rw[i.au];exact this
  rw[Te.arr o (by rw[hBn];exact hlt)];exact(A.fS _).arr o e x (m5 (λhm=>by have:=(i.Sq o hm).2.1;omega) hlt) (i.ext.arr o e x hx)
 .rw[Te.bf];exact Tu b (i.ext.bf b m)
 .exact n.ext.heap b m (by rw[hfl];exact ai6 b m hn)
 .rcases Te.own o b F with F|⟨_,a,ha,H⟩
  .have hO0:br (A.base (cS M E.au)) o b:=⟨λhi=>F.1 (Tu b hi),F.2⟩;exact(i.ext.own o b (Gh.fN hO0).2).imp (λh=>⟨o,ho,h⟩) id
  .obtain ⟨o2,Q5,Qi⟩:=Ts a ha b H;rcases p.own o2 b (n.fl▸(l.Sq o2 Q5).1) Qi with⟨o',ho',K⟩|h
   .exact adr (hfl▸ho') K
   .exact .inr h
 .rw[Te.bf]at m;rcases p.pN b m with h|h|⟨o,ho,F⟩
  .rw[hgi]at h;exact i.ext.pN b h
  .exact .inr (.inl h)
  .rcases adr (hfl▸ho) F with h|h
   .exact .inr (.inr h)
   .exact .inr (.inl h)
 .have h3:B.au<=s3.au:=Te.au;rw[hBn,i.au]at h3;exact h3
 .exact gp _ (gp _ (gp _ (i.rU o ho)))
 .simp only[dy,not_or]at ho;show s3.ob.get o=s.ob.get o;rw[Te.ob o (by rw[hBn,i.au];exact hl) ho.2.1,hBg,bK ho.2.1,<-i.same o ho.2.2.2];cases hg:E.ob.get o with
  |none=>rfl
  |some ob=>
   rw[dG]
   congr 1
   apply mo;cases hm:eY (cS M E.au) ob with|false=>rfl|true=>exact absurd (Tr.n8 _ _ _ _ hg hm) ho.1
 .have h3:aC A w t v:=ht.ext i.ext hs.bf;have hon:Xs M.contains A {A.base (cS M E.au)with bf:=g3.bf}:=by
   refine⟨λo b G m=>?_,λo e x G hx=>?_,Tu⟩
   .exact (A.fS _).bG o b (m5 (by simpa using G) (i.rel.lt m)) m
   .exact (A.fS _).arr o e x (m5 (by simpa using G) (i.rel.lt' hx)) hx
  exact(h3.on hon (λb m=>n.ext.heap b (i.rel.bf b m) λo _ F=>hXi b (WD F) m) (by rw[VX];exact hm)).le Te.le
 .exact gp _ (gp _ (dH _ ho))
 .exact gp _ (by rw[i.dr];exact ho)
 .exact dH _ ho
end
end
section
structure eA(E:fA S):Prop where
 sg:eR S
 OZ:yb E.T.E
 ty:MO S E.T
 name:∀f fn,E.T.E.Od f=Z fn->(fn.name== "runtime.NumGoroutine")=J
 ng:∀f,E.T.E.Es f=Y
 x:XOk S E.T
 Es:∀f c,E.Es f=Z c->bw E.T.E.P f c
variable {E:fA S}{c:Bool}{args:List (V S)}{fr:bI S}{a:Act}{s s':aW S}{call:gm S}{o:Oper}
def eA.env(h:eA E):KH E.T.E:={h.OZ with
 name:=h.name
 Es:=λf c a=>by rw[h.ng]at a;cases a}
def uD(s:aW S)(g:Gh)(w:World){ω:Type}(k kp:V S->aW S->O ω)(r:ω):Ending->World->Prop
 | .returned v,b=>∃t s' c,k t s'=Z r∧aC c b (low t) v∧cr [] s g w s' c b
 | .panicked chain,b=>∃v t s' c,chain=[{v,recovered:=J}]∧kp t s'=Z r∧aC c b (low t) v∧cr [] s g w s' c b
 | .outgrown,_=>False
structure fL(P:Program)(call:gm S):Prop where
 fn:∀(f:FuncId)(args:List (V S))(s:aW S){ω:Type}(k kp:V S->aW S->Option ω)(r:ω),call (.fn f) args s k kp=Z r->∀(g:Gh)(w:World)(vs:Array Value),aU g (aq s) w->PW (aC g w) (aX args) vs.toList->
  jZ P f∧Calls P f vs w (uD s g w k kp r)
 jn:aff P call
 yl:∀(o:Nat)(args:List (V S))(s:aW S){ω:Type}(k kp:V S->aW S->Option ω)(r:ω),call (.yl o) args s k kp=Z r->∀(g:Gh)(w:World)(vs:Array Value)(b:Nat),aU g (aq s) w->PW (aC g w) (aX args) vs.toList->g.bG o=Z b->
  ∃l:Loop,w.heap[b]?=Z (.loop l)∧vs.size=l.params.size∧∀rr n,RoundIn (WR rr) n P b l.fn ((l.params.zip vs).foldl (λtmps(t,a)=>tmps.setIfInBounds t a) l.tmps) l.assign l.body w (uD s g w k kp r)
def mq{α:Type}{x:O α}{r:α}(h:aP c x=Z r):c=W∧x=Z r:=by
 unfold aP at h;rcases aa h with h|⟨_,h⟩
 .exact h
 .cases h
def nL{α:Type}{x y:O α}{r:α}(h:ah c x y=Z r):(c=W∧x=Z r)∨(c=J∧y=Z r):=aa h
def o3{f:V S}{as:L (V S)}{id:FuncId}(h:nq f args=Z (id,as)):ux (low f) (aX args)=Z (id,aX as):=by
 unfold nq at h;split at h
 .simp only[aV,bq]at h;obtain⟨rfl,rfl⟩:=h;simp only[low,ux,iT]
 .cases h
section
variable {g:Gh}{w:World}
def fR{p:V S->Bool}{q:T->Bool}(a:∀v,q (low v)=p v)(b:∀o e,p (.sh o e)=p (.sh o 0)):∀l:L (qE S),gD q (l.map iU) ((l.map (dB p)).map iU)
 |[]=>.nil
 | .marks o::l=>by have d:=fR a b l;simp only[jh,dB];cases c:p (.sh o 0)with|true=>exact .Zd o d|false=>exact .marks o (λe=>((a (.sh o e)).trans (b o e)).trans c) d
 | .jc::l=>.jc (fR a b l)
 | .call f args::l=>.cons (by
   simp only[dB];cases c:p f||args.any p with
   |true=>exact .inl ⟨rfl,rfl⟩
   |false=>
    simp only[vT,NA]at c;refine .inr ⟨rfl,by rw[a];exact c.1,λt g=>?_⟩;rw[fP,sr]at g;obtain⟨v,h,rfl⟩:=g;rw[a];simpa using c.2 v h) (fR a b l)
 | .mark o::l=>.cons (by
   simp only[dB];cases c:p (.ptr o 0)with
   |true=>exact .inl ⟨rfl,rfl⟩
   |false=>exact .inr ⟨rfl,(a (.ptr o 0)).trans c⟩) (fR a b l)
 | .bad::l=>.cons (.inr ⟨rfl,trivial⟩) (fR a b l)
def lO{ow:L Nat}{g':Gh}{w':World}(hf:cg g (bh fr) a w)(h:cr ow s g w s' g' w'):cg g' (bh (cQ ow fr)) a w':=by
 refine⟨?_,?_,λk t x=>?_⟩
 .cases ow<;>exact hf.size
 .cases ow with
  |nil=>
   have i:∀t:T,cO [] t=J:=by
    intro t
    induction t using T.rec (motive_2:=λl=>gG [] l=J)with|fn f a b d j=>simp[cO,d,j]|cE t v e=>simp[cO,e]|agg q e=>simp[cO,e]|fQ q e=>simp[cO,e]|gd c v e=>simp[cO,e]|nil=>rfl|cons a l d m=>simp[gG,d,m]|_=>simp[cO]
   refine hf.df.imp (λt v y=>h.tr t v y (i t)) λo b z=>?_;have:=h.tr _ _ (.ptr o 0 b z) (i _);cases this with|ptr _ _ _ r=>exact r
  |cons o ow=>exact(fR (λv=>jq _ v) (λ_ _=>rfl) fr.df).rel h.tr hf.df
 .rw[bF,ec]at x;obtain⟨v,n,rfl⟩:=x;have p:fr.get k=Z v∧cO ow (low v)=J:=by
   cases ow with
   |nil=>
    refine⟨n,?_⟩;have:∀t:T,cO [] t=J:=by
     intro t;have key:(∀t:T,cO [] t=J):=by
      intro t
      induction t using T.rec (motive_2:=λl=>gG [] l=J)with|fn f a b d j=>simp[cO,d,j]|cE t v e=>simp[cO,e]|agg q e=>simp[cO,e]|fQ q e=>simp[cO,e]|gd c v e=>simp[cO,e]|nil=>rfl|cons a l d m=>simp[gG,d,m]|_=>simp[cO]
     exact key t
    exact this _
   |cons o ow=>simp only[cQ,bI.get,Tr.l9]at n;rw[I0]at n;refine⟨n.1,?_⟩;rw[jq];simpa using n.2
  obtain⟨u,A,B⟩:=hf.tm k (low v) (by rw[bF,p.1];rfl);exact⟨u,A,h.tr _ _ B p.2⟩
def NS(b:eA E)(hf:cg g (bh fr) a w)(hs:aU g (aq s) w)(o:Oper){t:V S}(h:w8 E.T fr s o.op=Z (c,t,s'))(e:c=W) :
  ∃v w' g',((execOp a.eval o).run E.T.E.P w=.ok (.value v) w'∨((execOp a.eval o).run E.T.E.P w=.ok .skip w'∧v=undef))∧aC g' w' (low t) v∧cr [] s g w s' g' w':=by
 unfold w8 at h;split at h
 .rename_i r d;cases h;exact VQ b.sg b.OZ b.ty hf hs o d e
 .split at h
  .rename_i r d;cases h;obtain⟨p,f,j⟩:=Jf b.sg b.ty d e;obtain⟨⟨v,w',g',k,i,l,m⟩,h1,h2,h3⟩:=lq b.OZ hf hs o f j;exact⟨v,w',g',k,m,cr.j5 hs i l h1 h2 h3 (Ss d)⟩
  .exact VO b.sg b.OZ b.ty b.x hf hs o h e
def Q2(s:aW S)(g:Gh)(w:World){ω:Type}(k:V S->aW S->L Nat->O ω)(kp:V S->aW S->O ω)(r:ω):Ending->World->Prop
 | .returned v,b=>∃t s' c d,k t s' d=Z r∧aC c b (low t) v∧cr d s g w s' c b
 | .panicked chain,b=>∃v t s' c,chain=[{v,recovered:=J}]∧kp t s'=Z r∧aC c b (low t) v∧cr [] s g w s' c b
 | .outgrown,_=>False
def xI(l:eA E)(b:fL E.T.E.P call)(hs:aU g (aq s) w){f:FuncId}{ω:Type}{kp:V S->aW S->O ω}{k:V S->aW S->L Nat->O ω}{r:ω}
  (h:rF E call s f args kp k=Z r) {vs:Array Value} (c:PW (aC g w) (aX args) vs.toList):jZ E.T.E.P f∧Calls E.T.E.P f vs w (Q2 s g w k kp r):=by
 unfold rF at h;split at h
 .rename_i p i;obtain⟨a,j⟩:=z5 l.sg (l.Es _ _ i) hs c h;refine⟨a,j.mono λe m d=>?_⟩;cases e with|returned v=>exact d|panicked n=>exact d|outgrown=>exact d.elim
 split at h
 .obtain ⟨a,j⟩:=Qt l.sg b.jn hs h c;refine⟨a,j.mono λe m d=>?_⟩;cases e with|returned v=>exact d|panicked n=>exact d.elim|outgrown=>exact d.elim
 .obtain ⟨a,j⟩:=b.fn _ _ _ _ _ _ h g w _ hs c;refine⟨a,j.mono λe m d=>?_⟩;cases e with
  |returned v=>obtain⟨t,s',o,h1,h2,h3⟩:=d;exact⟨t,s',o,[],h1,h2,h3⟩
  |panicked n=>exact d
  |outgrown=>exact d.elim
def zZ{E:fA S}{call:gm S}{s:aW S}{m:String}{args:L (V S)}{n:Nat}{x:den S.A (.cE n)}{ω:Type}{kp:V S->aW S->O ω}{k:V S->aW S->L Nat->O ω}{r:ω}:∀{l:L (TypeId×Ty)}{j:Nat},
  Og E call s m args n x kp k l j=Z r->∃i t f,g9 (S.alts n) i (S.rz n x)=W∧((nth (S.alts n) i).elim 0 (·.1))=t∧E.T.GV t m=Z f∧rF E call s f (.ty (kV (S.alts n) i) (iX S.zero (S.alts n) i (S.rz n x))::args) kp k=Z r
 |[],j,h=>by cases h
 |p::l,j,h=>by
  simp only[Og]at h;rcases nL h with⟨a,h⟩|⟨_,h⟩
  .split at h
   .rename_i f b;rcases aa h with⟨c,h⟩|⟨_,h⟩
    .exact ⟨j,p.1,f,a,(mV c).symm,b,h⟩
    .cases h
   .cases h
  .exact zZ h
def CW:∀(l:L (TypeId×Ty))(i:Nat)(x:uI S.A l),g9 l i x=W->rG S l x=Z ((nth l i).elim 0 (·.1),enc S (kV l i) (iX S.zero l i x))
 |[],_,_,h=>by cases h
 |p::l,0,.inl y,_=>rfl
 |p::l,0,.inr y,h=>by cases h
 |p::l,i+1,.inl y,h=>by cases h
 |p::l,i+1,.inr y,h=>CW l i y h
def Ef{P:Program}{c:Call}(e:o.op=.call c){d:Operand}(f:c.callee=.value d){b:Nat}(g:a.eval d=.func (.yield b) #[] #[]){w:World}{l:Loop}(hl:w.heap[b]?=Z (.loop l))(hs:(c.args.map a.eval).size=l.params.size) :
  (execOp a.eval o).run P w=.ok (.round b l.fn ((l.params.zip (c.args.map a.eval)).foldl (λtmps(t,a)=>tmps.setIfInBounds t a) l.tmps) l.assign l.body) w:=by
 simp only[execOp,e,resolve,f,Deferred.ofValue,g,Sem.run_bind,Sem.run_pure,Result.andThen_ok,invoke];have:=run_yield (P:=P) (args:=#[]++c.args.map a.eval++#[]) hl (by simpa using hs);simpa using this
def Eu(I:eA E)(u6:fL E.T.E.P call)(hf:cg g (bh fr) a w)(hs:aU g (aq s) w){ω:Type}{kp:V S->aW S->O ω}{k:V S->aW S->L Nat->O ω}{r:ω}
  (h:rD E call o fr s kp k=Z r) {K:Act->World->Prop} {Q:Exit->Act->World->Prop} (hK:∀t s' g' ow v w',k t s' ow=Z r->cr ow s g w s' g' w'->aC g' w' (low t) v->K (a.put o.dst v) w')
  (hP:∀t s' g' v w',kp t s'=Z r->cr [] s g w s' g' w'->aC g' w' (low t) v->Q (.panic [{v,recovered:=J}]) a w') (hny:∀c fv oo,o.op=.call c->c.callee=.value fv->bT fr fv≠Z (.pz oo)) :
  o.wp E.T.E.P a w K Q∨(o.asks E.T.E.P a w∧LetsOut Q):=by
 have fin:∀{t:V S}{s':aW S}{v:Value}{w':World}{g':Gh},k t s' []=Z r->((execOp a.eval o).run E.T.E.P w=.ok (.value v) w'∨((execOp a.eval o).run E.T.E.P w=.ok .skip w'∧v=undef))->aC g' w' (low t) v->cr [] s g w s' g' w'->o.wp E.T.E.P a w K Q:=by
  intro t s' v w' g' hk C P z;unfold Oper.wp;rcases C with C|⟨C,rfl⟩
  .rw[C];exact hK t s' g' [] v w' hk z P
  .rw[C];exact hK t s' g' [] undef w' hk z P
 have plain:(match Fj E.T fr s o.op with
   |some (MG,p,d,s')=>sd (λv s=>k v s []) (aP p (k d s' [])) MG
   |none=>match w8 E.T fr s o.op with
    |none=>Y
    |some (p,t,s')=>aP p (k t s' []))=Z r->o.wp E.T.E.P a w K Q:=by
  intro h;split at h
  .rename_i MG p d s' A;obtain⟨t,s1,v,w',g',h1,h2,h3,h4,_⟩:=NT I.OZ I.x hf hs o A (X:=λv s=>k v s []) h;exact fin h1 h2 h3 h4
  .split at h
   .cases h
   .rename_i p t s' A;obtain⟨hp,hk⟩:=mq h;obtain⟨v,w',g',C,P,z⟩:=NS I hf hs o A hp;exact fin hk C P z
 have M:∀{f:FuncId}{args:L (V S)}{vs:Array Value},rF E call s f args kp k=Z r->PW (aC g w) (aX args) vs.toList->(jZ E.T.E.P f->(execOp a.eval o).run E.T.E.P w=.ok (.enter f vs) w)->o.wp E.T.E.P a w K Q:=by
  intro f args vs h F hrun;obtain⟨G,hc⟩:=xI I u6 hs h F;unfold Oper.wp;rw[hrun G];refine hc.mono λe w' he=>?_;cases e with
  |returned v=>obtain⟨t,s',g',ow,h1,h2,h3⟩:=he;exact hK t s' g' ow v w' h1 h3 h2
  |panicked ch=>obtain⟨v,t,s',g',rfl,h1,h2,h3⟩:=he;exact hP t s' g' v w' h1 h3 h2
  |outgrown=>exact he.elim
 unfold rD at h;split at h
 .rename_i c A;split at h
  .cases h
  .rename_i args H;have N:=gr H;have m8:=eT hf N;split at h
   .rename_i b hb;split at h
    .cases h
    .rename_i p t s' R;obtain⟨hp,hk⟩:=mq h;unfold jN at R;split at R
     .rename_i r0 h0;cases R;exact Dt I.sg I.OZ I.env I.ty hf hs A hb H h0 hp (λg' v w' z P=>hK t s' g' [] v w' hk z P)
     split at R
     .rename_i r0 h0;cases R;obtain⟨q,hq,XO⟩:=vo I.sg I.ty h0 hp;refine vn I.env hf hs A hb N hq XO (k:=λt' st'=>t'=low t∧st'=aq s') ⟨rfl,rfl⟩ (λt' st' g' v w' he z P=>?_);obtain⟨rfl,rfl⟩:=he;exact hK t s' g' [] v w' hk (cr.j5 hs z.rel z.ext z.fl z.lo z.au (EC h0)) P
     .obtain ⟨rfl,v,C,P⟩:=xT I.x hs hf A hb H R;exact .inl (fin hk (.inl C) P (cr.refl hs))
   .rename_i fv hfv;split at h
    .rename_i oo hyl;unfold YC at hyl;split at hyl
     .rename_i aiA;exact absurd aiA (hny c fv _ A hfv)
     .cases hyl
    split at h
    .cases h
    .rename_i f args' XV
     left
     simp only[qS]at XV;obtain⟨tf,htf,Hu⟩:=XV;have ZD:=bE hf (bP htf);have B:=o3 Hu;unfold ux at B;split at B
     .rename_i f' first cap Jw
      simp only[aV,bq]at B;obtain⟨rfl,Z8⟩:=B;rw[Jw]at ZD;generalize hvf:a.eval fv=vf at ZD;cases ZD with
      |fn _ _ _ va vc l1 l2 r1 r2=>
      have F:PW (aC g w) (aX args') (va++c.args.map a.eval++vc).toList:=by rw[<-Z8];simp only[Ej,Nx];exact PW.append (PW.append ⟨by simpa using l1,λj x y h1 h2=>r1 j x y h1 (by simpa using h2)⟩ m8) ⟨by simpa using l2,λj x y h1 h2=>r2 j x y h1 (by simpa using h2)⟩
      exact M h F (λG=>wT A hfv hvf G)
     .cases B
   .rename_i x m hxm;have inv:∀{tt:TypeId}{f:FuncId}{tv:V S}{u:Value},a.eval x=.iface tt u->aC g w (low tv) u->E.T.GV tt m=Z f->rF E call s f (tv::args) kp k=Z r->o.wp E.T.E.P a w K Q:=by
     intro tt f tv u hv hu hm h;have F:PW (aC g w) (aX (tv::args)) (#[u]++c.args.map a.eval).toList:=by
      simp only[Ej,Nx];exact PW.append (l:=[low tv]) (m:=[u]) ⟨rfl,λj x y h1 h2=>by
       cases j with
       |zero=>simp at h1 h2;subst h1;subst h2;exact hu
       |succ j=>simp at h1⟩ m8
     exact M h F (λG=>IC I.x A hxm hv hm G)
    split at h
    .rename_i tt tv hx;split at h
     .rename_i f hm;have C:=bE hf (bP hx);simp only[low]at C;generalize hv:a.eval x=v at C;cases C with|cE _ _ u hu=>exact .inl (inv hv hu hm h)
     .cases h
    .rename_i n y hx;obtain⟨i,t,f,h1,h2,h3,h4⟩:=zZ h;have he:=CW _ _ _ h1;rcases A0 I.sg (show aC g w (en S (.cE n) y) (a.eval x)from cL hf hx)with⟨he',_⟩|⟨t',d,u,he',hv,hd⟩
     .rw[he']at he;cases he
     .rw[he']at he;simp only[aV,bq]at he;obtain⟨P,rfl⟩:=he;rw[h2]at P;subst P;exact .inl (inv (tv:=.ty (kV (S.alts n) i) (iX S.zero (S.alts n) i (S.rz n y))) hv (sI hd) h3 h4)
    .cases h
 .rename_i x A;split at h
  .rename_i tt tv hx
   left
   have C:=bE hf (bP hx);simp only[low]at C;unfold Oper.wp;generalize hv:a.eval x=v at C;cases C with
   |cE _ _ u hu=>
   have:(execOp a.eval o).run E.T.E.P w=.halt (.panic (.iface tt u)) w:=by simp[execOp,A,hv,Instr.panic,goPanic]
   rw[this];exact hP _ _ g _ w h (cr.refl hs) (by simp only[low];exact .cE _ _ _ hu)
  .cases h
 .left
  exact plain h
def xF(H:eA E)(d:fL E.T.E.P call)(hf:cg g (bh fr) a w)(hs:aU g (aq s) w){ω:Type}{kp:V S->aW S->O ω}{k:V S->aW S->L Nat->O ω}{r:ω}
  (h:rD E call o fr s kp k=Z r) {K:Act->World->Prop} {Q:Exit->Act->World->Prop} (C:∀t s' g' ow v w',k t s' ow=Z r->cr ow s g w s' g' w'->aC g' w' (low t) v->K (a.put o.dst v) w')
  (F:∀t s' g' v w',kp t s'=Z r->cr [] s g w s' g' w'->aC g' w' (low t) v->Q (.panic [{v,recovered:=J}]) a w') {rr:O Nat} (x:rr≠Y->∀c,o.op≠.defer c) :
  Uo rr E.T.E.P o a w K Q:=by
 by_cases G:∃c n u,o.op=.call c∧c.callee=.value n∧bT fr n=Z (.pz u);rotate_left
 .exact .of_wp x (Eu H d hf hs h C F λc n u h1 h2 h3=>G ⟨c,n,u,h1,h2,h3⟩)
 obtain⟨c,n,u,i,p,q⟩:=G;unfold rD at h;rw[i]at h;dsimp only at h;split at h
 .cases h
 rename_i args j;rw[p]at h;dsimp only at h;rw[q]at h;simp only[YC]at h;have y:=eT hf (gr j);have m:=bE hf (bP q);simp only[low]at m;generalize z:a.eval n=N at m;cases m with
 |pz _ b I=>
 obtain⟨l,M,A,f⟩:=d.yl _ _ _ _ _ _ h g w (c.args.map a.eval) b hs (by simpa using y) I
 left
 rw[Oper.semAt_eq _ _ _ (by intro P;rw[i];intro h;cases h),Ef i p z M A];refine⟨λh=>by simp[Fence.wide]at h,(f rr _).mono λe w' B=>?_⟩;cases e with
 |returned v=>obtain⟨t,s',g',h1,h2,h3⟩:=B;exact C t s' g' [] v w' h1 h3 h2
 |panicked R=>obtain⟨v,t,s',g',rfl,h1,h2,h3⟩:=B;exact F t s' g' v w' h1 h3 h2
 |outgrown=>exact B.elim
mutual
def qo:∀(s:aW S)(t:Ty)(v:V S){x:den S.A t}{os:L Nat},qq v=W->bH s t v=Z (x,os)->os=[]
 |s,t,.ty u y,x,os,_,h=>by
  simp only[bH]at h;split at h
  .simp only[aV,bq]at h;exact h.2.symm
  .cases h
 |s,t,.agg e,x,os,a,h=>by
  cases t with
  |st n=>
   simp only[bH]at h;split at h
   .rename_i h1 c f;simp only[aV,bq]at h;obtain⟨_,rfl⟩:=h;simp only[qq]at a;exact Fk s _ e a f
   .cases h
  |int=>simp[bH]at h
  |bool=>simp[bH]at h
  |str=>simp[bH]at h
  |sl=>simp[bH]at h
  |cE=>simp[bH]at h
 |s,t,.kb b,x,os,_,h=>by cases t<;>simp[bH]at h;first|exact h.2|exact h.2.symm
 |s,t,.kn k n,x,os,_,h=>by
  cases t<;>simp only[bH]at h<;>try(cases h;done)
  rcases aa h with⟨_,h⟩|⟨_,h⟩
  .simp only[aV,bq]at h;exact h.2.symm
  .cases h
 |s,t,.emp,x,os,_,h=>by cases t<;>simp[bH]at h;first|exact h.2|exact h.2.symm
 |s,t,.ja n u l,x,os,_,h=>by
  cases t<;>simp only[bH]at h<;>try(cases h;done)
  split at h
  .simp only[aV,bq]at h;exact h.2.symm
  .cases h
 |s,t,.nk n u y,x,os,_,h=>by
  cases t<;>simp only[bH]at h<;>try(cases h;done)
  split at h
  .simp only[aV,bq]at h;exact h.2.symm
  .cases h
 |s,t,.pL _ _ _ _,x,os,a,_=>by simp[qq]at a
 |s,t,.sh _ _,x,os,a,_=>by simp[qq]at a
 |s,t,.dat d,x,os,_,h=>by
  cases t with
  |cE n=>
   cases d with
   |lit v=>cases v<;>simp[bH]at h;first|exact h.2|exact h.2.symm
   |_=>simp[bH]at h
  |_=>simp[bH]at h
 |s,t,.mp _,_,_,_,h=>by cases t<;>simp[bH]at h
 |s,t,.pz _,_,_,_,h=>by cases t<;>simp[bH]at h
 |s,t,.qF _,_,_,_,h=>by cases t<;>simp[bH]at h
 |s,t,.ub _,_,_,_,h=>by cases t<;>simp[bH]at h
 |s,t,.ptr _ _,_,_,_,h=>by cases t<;>simp[bH]at h
 |s,t,.lR _ _ _,_,_,_,h=>by cases t<;>simp[bH]at h
 |s,t,.jV _ _ _ _,_,_,_,h=>by cases t<;>simp[bH]at h
 |s,t,.fn _ _ _,_,_,_,h=>by cases t<;>simp[bH]at h
 |s,t,.cE u v,x,os,a,h=>by
  have a:qq v=W:=a;cases t<;>simp only[bH]at h<;>try(cases h;done)
  split at h
  .split at h
   .rename_i y c g;simp only[aV,bq]at h;obtain⟨_,rfl⟩:=h;exact qo s _ v a g
   .cases h
  .cases h
 |s,t,.fQ _,_,_,_,h=>by cases t<;>simp[bH]at h
 |s,t,.gd _ _,_,_,_,h=>by cases t<;>simp[bH]at h
def Fk:∀(s:aW S)(ts:L Ty)(l:L (V S)){h:kK S.A ts}{os:L Nat},iu l=W->lW s ts l=Z (h,os)->os=[]
 |s,[],[],x,os,_,h=>by simp only[lW,aV,bq]at h;exact h.2.symm
 |s,t::ts,v::l,x,os,a,h=>by
  simp only[lW]at h;split at h
  .rename_i f b h1 c d e;simp only[aV,bq]at h;obtain⟨_,rfl⟩:=h;simp only[iu,dI]at a;rw[qo s t v a.1 d,Fk s ts l a.2 e];rfl
  .cases h
 |s,[],_::_,_,_,_,h=>by simp[lW]at h
 |s,_::_,[],_,_,_,h=>by simp[lW]at h
end
end
end
section
def nZ:Op->Bool
 | .alloc _|.box ..|.store ..|.buildSlice ..|.slice ..|.makeMap ..|.mapUpdate ..|.insert ..|.makeSlice ..|.range ..|.next ..|.defer ..=>W
 |_=>J
variable {E:fX}{fr:bI S}{s s':aW S}{o:Op}{c:Bool}{v:V S}{l:List (Nat×V S)}{args:List (V S)}{a:Act}
def Lu(h:bV E fr s o=Z (c,v,s'))(d:nZ o=J):s'=s:=by
 cases o with
 |alloc=>cases d
 |box=>cases d
 |store=>cases d
 |buildSlice=>cases d
 |slice=>cases d
 |move x=>simp only[bV,ec,bq]at h;obtain⟨_,_,_,_,rfl⟩:=h;rfl
 |assign x=>simp only[bV,ec,bq]at h;obtain⟨_,_,_,_,rfl⟩:=h;rfl
 |pick x y z=>
  simp only[bV]at h;split at h
  .simp only[ec,bq]at h;obtain⟨_,_,_,_,rfl⟩:=h;rfl
  .cases h
 |build t e=>
  simp only[bV]at h;split at h
  .split at h
   .simp only[ec,bq]at h;obtain⟨_,_,_,_,rfl⟩:=h;rfl
   .cases h
  .cases h
 |load t x=>
  simp only[bV]at h;split at h
  .unfold u0 at h;split at h
   .split at h
    .dsimp only at h;rcases aa h with⟨_,h⟩|⟨_,h⟩
     .simp only[ec,bq]at h;obtain⟨_,_,_,_,rfl⟩:=h;rfl
     .cases h
    .cases h
   .simp only[ec,bq]at h;obtain⟨_,_,_,_,rfl⟩:=h;rfl
   .split at h
    .simp only[ec,bq]at h;obtain⟨_,_,_,_,rfl⟩:=h;rfl
    .cases h
   .cases h
  .cases h
 |nilCheck x=>
  simp only[bV]at h;split at h;all_goals first
   |(cases h;done)
   |(
     simp only[aV,bq]at h;obtain⟨_,_,rfl⟩:=h;rfl)
 |binOp op t x y u=>
  simp only[bV]at h;split at h
  .simp only[ec,bq]at h;obtain⟨_,_,_,_,rfl⟩:=h;rfl
  .cases h
 |unOp op t x=>
  simp only[bV]at h;split at h
  .simp only[ec,bq]at h;obtain⟨_,_,_,_,rfl⟩:=h;rfl
  .cases h
 |convert t u x=>
  simp only[bV]at h;split at h
  .exact (y8 h).1
  .cases h
 |makeInterface t x=>
  simp only[bV]at h;split at h
  .split at h
   .cases h
   .simp only[aV,bq]at h;obtain⟨_,_,rfl⟩:=h;rfl
  .cases h
 |makeFunc f a b=>
  simp only[bV]at h;split at h
  .simp only[aV,bq]at h;obtain⟨_,_,rfl⟩:=h;rfl
  .cases h
 |extract x k=>
  simp only[bV]at h;split at h
  .exact (rC h).1
  .cases h
 |fieldAddr t x k=>
  simp only[bV]at h;split at h
  .exact (od h).1
  .cases h
 |field t x k=>
  simp only[bV]at h;split at h
  .unfold yY at h;split at h
   .split at h
    .dsimp only at h;rcases aa h with⟨_,h⟩|⟨_,h⟩
     .simp only[ec,bq]at h;obtain⟨_,_,_,_,rfl⟩:=h;rfl
     .cases h
    .cases h
   .cases h
  .cases h
 |indexAddr t x y=>
  simp only[bV]at h;split at h
  .unfold iV at h;split at h
   .split at h
    .split at h
     .rcases aa h with⟨_,h⟩|⟨_,h⟩
      .simp only[aV,bq]at h;obtain⟨_,_,rfl⟩:=h;rfl
      .cases h
     .cases h
    .split at h
     .simp only[aV,bq]at h;obtain⟨_,_,rfl⟩:=h;rfl
     .cases h
   .cases h
  .cases h
 |index t x y=>
  simp only[bV]at h;split at h
  .unfold yR at h;split at h
   .simp only[aV,bq]at h;obtain⟨_,_,rfl⟩:=h;rfl
   .cases h
  .cases h
 |typeAssert x t u ok=>
  simp only[bV]at h;split at h
  .exact (tI h).1
  .cases h
 |_=>simp[bV]at h
def Py(h:qm E fr s o=Z (c,v,s'))(a:nZ o=J):s'=s:=by
 unfold qm at h;split at h
 .cases a
 .split at h;rotate_left
  .cases h
  split at h;rotate_left
  .cases h
  split at h;rotate_left
  .cases h
  simp only[aV,bq]at h;exact h.2.2.symm
 .cases a
 .cases a
 .cases a
 .cases a
 .repeat' split at h
  all_goals first|(cases h;done)|(simp only[aV,bq]at h;exact h.2.2.symm)
 .repeat' split at h
  all_goals first|(cases h;done)|(simp only[aV,bq]at h;exact h.2.2.symm)
 .repeat' split at h
  all_goals first|(cases h;done)|(simp only[aV,bq]at h;exact h.2.2.symm)
 .repeat' split at h
  all_goals first|(cases h;done)|(simp only[aV,bq]at h;exact h.2.2.symm)
 .split at h;rotate_left
  .cases h
  split at h
  .cases h
  .rcases aa h with⟨_,h⟩|⟨_,h⟩
   .rcases aa h with⟨_,h⟩|⟨_,h⟩
    .simp only[aV,bq]at h;exact h.2.2.symm
    .simp only[aV,bq]at h;exact h.2.2.symm
   .cases h
  .rcases aa h with⟨_,h⟩|⟨_,h⟩
   .simp only[aV,bq]at h;exact h.2.2.symm
   .cases h
 .split at h;rotate_left
  .cases h
  split at h;rotate_left
  .cases h
  simp only[ec,bq]at h;obtain⟨_,_,_,_,rfl⟩:=h;rfl
 .cases h
def PB(h:yG E fr s o=Z (c,v,s'))(a:nZ o=J):s'=s:=by
 unfold yG at h;split at h
 .split at h
  .split at h
   .split at h
    .split at h
     .rcases aa h with⟨_,h⟩|⟨_,h⟩
      .simp only[aV,bq]at h;exact h.2.2.symm
      .cases h
     .cases h
    .cases h
   .cases h
  .cases h
 .split at h
  .split at h
   .split at h
    .rcases aa h with⟨_,h⟩|⟨_,h⟩
     .rcases aa h with⟨_,h⟩|⟨_,h⟩
      .rcases aa h with⟨_,h⟩|⟨_,h⟩
       .simp only[aV,bq]at h;exact h.2.2.symm
       .cases h
      .rcases aa h with⟨_,h⟩|⟨_,h⟩
       .simp only[ec,bq]at h;obtain⟨_,_,_,_,rfl⟩:=h;rfl
       .cases h
     .cases h
    .cases h
   .cases h
  .cases h
 .cases a
 .cases a
 .cases h
def PA(h:w8 E fr s o=Z (c,v,s'))(a:nZ o=J):s'=s:=by
 unfold w8 at h;split at h
 .rename_i r b;cases h;exact PB b a
 .split at h
  .rename_i r b;cases h;exact Lu b a
  .exact Py h a
def AV(h:qm E fr s o=Y)(hn:yG E fr s o=Y):w8 E fr s o=bV E fr s o:=by
 unfold w8;rw[hn,h];dsimp only;split
 .rename_i a;exact a.symm
 .rename_i a;exact a.symm
def Oy{ω:Type}(k:V S->O ω)(d:O ω):∀l:L (Bool×V S×aW S),r9 k d l=sd (λv _=>k v) d l
 |[]=>rfl
 |p::l=>by simp only[r9,sd,Oy k d l]
def Ch(h:iu (l.map (·.2))=W):∀p∈l,qq p.2=W:=by
 induction l with
 |nil=>intro p b;cases b
 |cons a l c=>
  simp only[jh,iu,dI]at h;intro p b;rcases ej.1 b with rfl|b
  .exact h.1
  .exact c h.2 p b
def y7{s:aW S}{e:Ty}:∀{ps:L (Nat×V S)}{es r:L (den S.A e)}{os:L Nat},(∀p∈ps,qq p.2=W)->lB s e es ps=Z (r,os)->os=[]
 |[],es,r,os,_,h=>by simp only[lB,aV,bq]at h;exact h.2.symm
 |(k,v)::ps,es,r,os,a,h=>by
  simp only[lB]at h;split at h
  .cases h
  .rename_i x b c;rcases aa h with⟨_,h⟩|⟨_,h⟩
   .split at h
    .rename_i i d f;simp only[aV,bq]at h;obtain⟨_,rfl⟩:=h;rw[qo s e v (a _ dX) c,y7 (λp g=>a p (gl _ g)) f];rfl
    .cases h
   .cases h
def zc{t:TypeId}{n:Nat}{ps:Array (Nat×Operand)}(hl:gW fr ps.toList=Z l)(hn:iu (l.map (·.2))=W)
  (h:w8 E fr s (.buildSlice t n ps)=Z (c,v,s')):s'=s:=by
 cases a:yG E fr s (.buildSlice t n ps)with
 |some r=>
  simp only[w8,a,aV]at h;subst h;simp only[yG]at a;split at a
  .rename_i o b;split at a
   .rename_i i p j _ _ d;split at a
    .split at a
     .rcases aa a with⟨_,a⟩|⟨_,a⟩
      .split at a
       .rename_i x os k;have f:l=[(0,.agg j)]:=by rw[b]at hl;simp only[gW,bT,d,aV]at hl;exact hl.symm
        subst f;simp only[jh,E2,iu,vR]at hn;have:=qo s _ _ hn k;subst this;simp only[cY,dG,aV,bq]at a;exact a.2.2.symm
       .cases a
      .cases a
     .cases a
    .cases a
   .cases a
  .split at a
   .split at a
    .rcases aa a with⟨_,a⟩|⟨_,a⟩
     .simp only[aV,bq]at a;exact a.2.2.symm
     .cases a
    .cases a
   .cases a
  .cases a
 |none=>
 rw[AV rfl a]at h;simp only[bV]at h;split at h
 .rename_i i e m _ _ b;rw[hl]at b;cases b;split at h
  .rcases aa h with⟨_,h⟩|⟨_,h⟩
   .split at h
    .rename_i q os g;have:=y7 (Ch hn) g;subst this;simp only[cY,dG,aV,bq]at h;exact h.2.2.symm
    .cases h
   .cases h
  .cases h
 .cases h
def Iv{t:TypeId}{x:Operand}{lo d e:O Operand}{u:V S}(hl:bT fr x=Z u)(hn:qq u=W)
  (h:w8 E fr s (.slice t x lo d e)=Z (c,v,s')):s'=s:=by
 rw[AV rfl rfl]at h;simp only[bV]at h;split at h
 .rename_i i a f g j _ b _ _ _;rw[hl]at b;cases b;rcases Bo h with rfl|h
  .rfl
  .have:I9 u=[]:=by cases u<;>first|rfl|simp[qq]at hn
   rw[this]at h;simp only[cY,aV]at h;exact h.symm
 .cases h
def zI{s:aW S}:∀{ps:L Pk}{l:L (V S)}{x:fj S.A ps}{fz ow bs:L Nat},bN ps=W->iu l=W->dL s ps l Y=Z (x,fz,ow,bs)->fz=[]∧ow=[]∧bs=[]
 |[],[],x,fz,ow,bs,_,_,h=>by simp only[dL,aV,bq]at h;exact⟨h.2.1.symm,h.2.2.1.symm,h.2.2.2.symm⟩
 | .one (.dat t)::ps,v::l,x,fz,ow,bs,a,c,h=>by
  simp only[dL]at h;simp only[iu,dI]at c;split at h
  .rename_i g a1 i h1 a2 j d b e;simp only[aV,bq]at h;obtain⟨_,rfl,rfl,rfl⟩:=h;obtain⟨rfl,rfl,rfl⟩:=zI (by simpa[bN]using a) c.2 e;simp only[kD]at b;split at b
   .rename_i y os f;simp only[aV,bq]at b;obtain⟨_,rfl,rfl⟩:=b;rw[qo s t v c.1 f];exact⟨rfl,rfl,rfl⟩
   .cases b
  .cases h
 | .one (.own _)::_,_,_,_,_,_,a,_,_=>by simp[bN]at a
 | .one (.iJ ..)::_,_,_,_,_,_,a,_,_=>by simp[bN]at a
 | .one (.nil _)::_,_,_,_,_,_,a,_,_=>by simp[bN]at a
 | .one (.ptr _)::_,_,_,_,_,_,a,_,_=>by simp[bN]at a
 | .box _::_,_,_,_,_,_,a,_,_=>by simp[bN]at a
 | .hid _::_,_,_,_,_,_,a,_,_=>by simp[bN]at a
 |[],_::_,_,_,_,_,_,_,h=>by simp[dL]at h
 | .one _::_,[],_,_,_,_,_,_,h=>by simp[dL]at h
def BV{s:aW S}:∀{ps:L Pk}(r:gB S.A ps),bN ps=W->jJ s ps [] r=Z s
 |[],_,_=>rfl
 | .one (.dat t)::ps,r,h=>by simp only[jJ];exact BV (ps:=ps) r (by simpa[bN]using h)
 | .one (.own _)::_,_,a=>by simp[bN]at a
 | .one (.iJ ..)::_,_,a=>by simp[bN]at a
 | .one (.nil _)::_,_,a=>by simp[bN]at a
 | .one (.ptr _)::_,_,a=>by simp[bN]at a
 | .box _::_,_,a=>by simp[bN]at a
 | .hid _::_,_,a=>by simp[bN]at a
def Ip{s:aW S}:∀{cs:L Ck}(x:fH S.A cs),iE cs=W->gn s cs x=(oY cs x,s)
 |[],_,_=>rfl
 | .dat t::cs,x,h=>by simp only[gn,sG,oY];rw[Ip (cs:=cs) x.2 (by simpa[iE]using h)]
 | .own _::_,_,h=>by simp[iE]at h
 | .iJ ..::_,_,h=>by simp[iE]at h
 | .nil _::_,_,h=>by simp[iE]at h
 | .ptr _::_,_,h=>by simp[iE]at h
def CI:∀{ps:L Pk},bN ps=W->Tn ps=J
 |[],_=>rfl
 | .one (.dat t)::ps,h=>CI (ps:=ps) (by simpa[bN]using h)
 | .one (.own _)::_,a=>by simp[bN]at a
 | .one (.iJ ..)::_,a=>by simp[bN]at a
 | .one (.nil _)::_,a=>by simp[bN]at a
 | .one (.ptr _)::_,a=>by simp[bN]at a
 | .box _::_,a=>by simp[bN]at a
 | .hid _::_,a=>by simp[bN]at a
def JQ(hn:s.au<=bg){c:j0 S}(h1:bN c.ps=W)(h2:iE c.rs=W)(h3:iu args=W){x:fj S.A c.ps}{fz ow bs:L Nat}(b:dL s c.ps args Y=Z (x,fz,ow,bs))
  {d:RT c.pn (fH S.A c.rs×gB S.A c.ps) (den S.A S.pt×gB S.A c.ps)} {r:fH S.A c.rs×gB S.A c.ps} (f:c.F x=Z d) (g:RT.res c.pn d=.ok r):JR s c args (λ_ _=>Y) (λt s' ow=>Z (t,s',ow))=Z (An (oY c.rs r.1),s,[]):=by
 obtain⟨rfl,rfl,rfl⟩:=zI h1 h3 b;have a:Nat.ble s.au bg=W:=Av hn;unfold JR;rw[CI h1];simp only[cM];rw[b];simp only[cY];cases SM c with
 |true=>simp only[cn,f,af,g]
 |false=>
 simp only[cM,pK,zf,List.all_nil,E6,cn,f,af,Ei,g];have e:vk [] (forget [] s)=s:=rfl;rw[e,BV _ h1];simp only[Ip _ h2,a,cn]
def Tx(g:O Bool):Prop:=g=Y∨g=Z W
def FD{α:Type}{g:O Bool}{p:Bool}{x:O α}{r:α}(a:Tx g)(h:wh g p x=Z r):p=W∧x=Z r:=by
 rcases a with rfl|rfl
 .exact mq h
 .exact mq h
def WL{α:Type}{g:O Bool}{x:O α}{z:α}(a:Tx g):adW g x z=x:=by rcases a with rfl|rfl<;>rfl
section
variable {g:Gh}{w:World}
def HL(B:KH E.E)(hf:cg g (bh fr) a w)(hs:aU g (aq s) w){o:Oper}{f:Call}(C:o.op=.call f)(R:f.callee=.builtin .len)(b:jw fr f.args.toList=Z args){t:V S}
  (h:jb E s .len f.argTypes args=Z (c,t,s')):∃v,(execOp a.eval o).run E.E.P w=.ok (.value v) w∧aC g w (low t) v:=by
 have k:=eT hf (gr b);unfold jb at h;split at h
 .rename_i d r _;split at h;rotate_left
  .cases h
  rename_i n j l era m P hole F;split at h;rotate_left
  .cases h
  rename_i i n' X Jv;split at h;rotate_left
  .cases h
  rename_i sz ag bt zz G;rcases aa h with⟨q,z⟩|⟨_,z⟩;rotate_left
  .cases z
  simp only[dI]at q;have H:=beq_iff'.1 q.1;subst H;simp only[aV,bq]at z;obtain⟨_,rfl,rfl⟩:=z;have I:aC g w (.sh d r) ((f.args.toList.map a.eval)[0]'(by have:=k.1;simp[aX]at this;simp;omega)):=k.2 0 _ _ rfl (eS _);obtain⟨xs,u,_⟩:=Gv I;have K:d<bg:=gN (hs.lt' u) hs.au;obtain⟨A,h1,h2,h3,h4⟩:=EM hs F u;have x:(lits j (l.map (enc S (.st n))) A).length=l.length:=by rw[kH (by simpa using h1)];simp
  obtain⟨_,v,y,Q⟩:=SN B hf h4 C R (gr b) (p:=True) (t:=.sym (.lit (.int .i64 (D.len (lits j (l.map (enc S (.st n))) A))))) (s':=jD s d (.arr (S.width (.st n)) (lits j (l.map (enc S (.st n))) A) r)) (by
   have M:(nth f.argTypes.toList 0).bind E.E.ti=Z i:=X;simp only[aX,low,eI,vK,M,G,qc];rw[fJ K,aY rfl];simp only[show Nat.beq r r=W from beq_iff'.2 rfl,cn,dG]) trivial
  refine⟨v,y,?_⟩;have e:D.len (lits j (l.map (enc S (.st n))) A)=aj l:=by simp only[D.len,x,aj]
  rw[e]at Q;exact Q
 .rename_i N;exact Builtin.noConfusion N
 .rename_i N;exact Builtin.noConfusion N
 .cases h
def pP{E:fA S}(I:eA E)(hf:cg g (bh fr) a w)(hs:aU g (aq s) w){o:Oper}{gd:O Bool}(hg:Tx gd){ω:Type}{k:V S->O ω}{r:ω}
  (h:ek E gd fr s o k=Z r) {K:Act->World->Prop} {Q:Exit->Act->World->Prop} (hK:∀t g' v w',k t=Z r->cr [] s g w s g' w'->aC g' w' (low t) v->K (a.put o.dst v) w') :
  o.wp E.T.E.P a w K Q:=by
 have plain:∀{c:Bool}{t:V S}{s':aW S},w8 E.T fr s o.op=Z (c,t,s')->s'=s->wh gd c (k t)=Z r->o.wp E.T.E.P a w K Q:=by
  intro c t s' i hss h9;subst hss;obtain⟨hp,M⟩:=FD hg h9;obtain⟨v,w',g',G,ht,s5⟩:=NS I hf hs o i hp;unfold Oper.wp;rcases G with G|⟨G,rfl⟩
  .rw[G];exact hK t g' v w' M s5 ht
  .rw[G];exact hK t g' undef w' M s5 ht
 unfold ek at h;split at h
 .rename_i c i;split at h
  .cases h
  .rename_i args B;have C:=gr B;split at h
   .rename_i b hb;rcases aa h with⟨hqb,h⟩|⟨_,h⟩;rotate_left
    .cases h
    split at h
    .rename_i p t s' F;obtain⟨hp,M⟩:=FD hg h;unfold jN at F;split at F
     .rename_i r0 h0;cases F;cases b with
      |len=>obtain⟨v,H,ht⟩:=HL I.env hf hs i hb B h0;unfold Oper.wp;rw[H];exact hK t g v w M (cr.refl hs) ht
      |append=>cases hqb
      |_=>simp[jb]at h0
     split at F
     .rename_i r0 h0;cases F;obtain⟨q,hq,XO⟩:=vo I.sg I.ty h0 hp;cases b with
      |len=>obtain⟨hss,v,H,ht⟩:=SN I.env hf hs i hb C hq XO;unfold Oper.wp;rw[H];exact hK t g v w M (cr.refl hs) ht
      |max=>simp[eL]at h0
      |min=>simp[eL]at h0
      |_=>cases hqb
     .obtain ⟨rfl,v,G,ht⟩:=xT I.x hs hf i hb B F;unfold Oper.wp;rw[G];exact hK t g v w M (cr.refl hs) ht
    .cases h
   .rename_i fv hfv;split at h
    .cases h
    .rename_i f args' XV;split at h
     .cases h
     .rename_i cc ai3;rcases aa h with⟨A,h⟩|⟨_,h⟩
      .simp only[dI]at A;split at h
       .rename_i x _ _ _ b hpk hnb;obtain⟨rr,hF,M⟩:=oz h;rw[WL hg]at hF;split at M;rotate_left
        .cases M
        rename_i r1 hr1;have hq:=JQ hs.au A.1 A.2.1 A.2.2.1 hpk hF hr1;simp only[qS]at XV;obtain⟨tf,htf,Hu⟩:=XV;have ZD:=bE hf (bP htf);have m8:=eT hf C;have m:=o3 Hu;unfold ux at m;split at m
        .rename_i f' first cap Jw
         simp only[aV,bq]at m;obtain⟨rfl,N⟩:=m;rw[Jw]at ZD;generalize hvf:a.eval fv=vf at ZD;cases ZD with
         |fn _ _ _ va vc l1 l2 r1 r2=>
         have hall:PW (aC g w) (aX args') (va++c.args.map a.eval++vc).toList:=by rw[<-N];simp only[Ej,Nx];exact PW.append (PW.append ⟨by simpa using l1,λj x y h1 h2=>r1 j x y h1 (by simpa using h2)⟩ m8) ⟨by simpa using l2,λj x y h1 h2=>r2 j x y h1 (by simpa using h2)⟩
         obtain⟨Mc,hc⟩:=z5 I.sg (I.Es _ _ ai3) hs hall hq;unfold Oper.wp;rw[wT i hfv hvf Mc];refine hc.mono λe w' he=>?_;cases e with
         |returned v=>obtain⟨t,s',g',ow,h1,h2,h3⟩:=he;simp only[aV,bq]at h1;obtain⟨rfl,rfl,rfl⟩:=h1;exact hK _ g' v w' M h3 h2
         |panicked ch=>obtain⟨_,_,_,_,_,h1,_⟩:=he;cases h1
         |outgrown=>exact he.elim
        .cases m
       .cases h
      .cases h
   .cases h
 iterate 11
  .cases h
 .rename_i t n ps i;split at h
  .rename_i l hl;rcases aa h with⟨hn,h⟩|⟨_,h⟩
   .split at h
    .cases h
    .rename_i p v s' P;rw[<-i]at P;exact plain P (by rw[i]at P;exact zc hl hn P) h
   .cases h
  .cases h
 .rename_i t x lo hi mx i;split at h
  .rename_i v P;rcases aa h with⟨hn,h⟩|⟨_,h⟩
   .split at h
    .cases h
    .rename_i p v' s' R;rw[<-i]at R;exact plain R (by rw[i]at R;exact Iv P hn R) h
   .cases h
  .cases h
 all_goals try(cases h;done)
 rename_i op h1 h2 h3 h4 h5 h6 h7 h8 h9 h10 h11 h12 h13 h14;have hmv:nZ o.op=J:=by cases i:o.op with|store x y z=>exact absurd i (h2 x y z)|alloc x=>exact absurd i (h3 x)|box x y=>exact absurd i (h4 x y)|makeMap x y=>exact absurd i (h6 x y)|mapUpdate x y z u=>exact absurd i (h7 x y z u)|insert x y z u=>exact absurd i (h8 x y z u)|makeSlice x y z=>exact absurd i (h9 x y z)|range x y=>exact absurd i (h10 x y)|next x y=>exact absurd i (h11 x y)|defer x=>exact absurd i (h12 x)|buildSlice x y z=>exact absurd i (h13 x y z)|slice x y z u v=>exact absurd i (h14 x y z u v)|_=>rfl
 split at h
 .rename_i MG p d s' i;have hx:sd (λv _=>k v) (aP p (k d)) MG=Z r:=by
   rw[<-Oy];rcases hg with rfl|rfl
   .exact h
   .simpa[wh,imp]using h
  obtain⟨t,s1,v,w',g',k1,k2,k3,k4,k5⟩:=NT I.OZ I.x hf hs o i (X:=λv _=>k v) hx;have:s1=s:=k5 λit b hh=>by rw[hh]at hmv;cases hmv
  subst this;unfold Oper.wp;rcases k2 with G|⟨G,rfl⟩
  .rw[G];exact hK t g' v w' k1 k4 k3
  .rw[G];exact hK t g' undef w' k1 k4 k3
 .split at h
  .cases h
  .rename_i p v s' P;exact plain P (PA P hmv) h
def Dx{ω:Type}{k:V S->O ω}{d:O ω}{r:ω}:∀{l:L (Bool×V S×aW S)},r9 k d l=Z r->(∃t,k t=Z r)∨d=Z r
 |[],h=>.inr h
 |p::l,h=>by
  simp only[r9]at h;rcases nL h with⟨_,h⟩|⟨_,h⟩
  .exact .inl ⟨_,h⟩
  .exact Dx h
def HB{E:fA S}{o:Oper}{ω:Type}{k:V S->O ω}{r:ω}(h:ek E (Z J) fr s o k=Z r):∃t,k t=Z r:=by
 have a:∀{p:Bool}{x:O ω},wh (Z J) p x=Z r->x=Z r:=λh=>(mq h).2;unfold ek at h;split at h
 .split at h
  .cases h
  .split at h
   .rcases aa h with⟨_,h⟩|⟨_,h⟩
    .split at h
     .exact ⟨_,a h⟩
     .cases h
    .cases h
   .split at h
    .cases h
    .split at h
     .cases h
     .rcases aa h with⟨_,h⟩|⟨_,h⟩
      .split at h
       .obtain ⟨c,_,b⟩:=oz h;split at b
        .exact ⟨_,b⟩
        .cases b
       .cases h
      .cases h
   .cases h
 iterate 11
  .cases h
 .split at h
  .rcases aa h with⟨_,h⟩|⟨_,h⟩
   .split at h
    .cases h
    .exact ⟨_,a h⟩
   .cases h
  .cases h
 .split at h
  .rcases aa h with⟨_,h⟩|⟨_,h⟩
   .split at h
    .cases h
    .exact ⟨_,a h⟩
   .cases h
  .cases h
 .split at h
  .rcases Dx h with h|h
   .exact h
   .exact ⟨_,a h⟩
  .split at h
   .cases h
   .exact ⟨_,a h⟩
end
end
section
def pQ(p:Nat->Bool):qE S->Bool
 | .call f args=>bQ p f||args.any (bQ p)
 | .mark o=>bQ (S:=S) p (.ptr o 0)
 | .marks o=>bQ (S:=S) p (.sh o 0)
 | .jc=>W
 | .bad=>W
variable {p q:Nat->Bool}{l m:List (qE S)}{ds ds' dr dr' ow:List Nat}{fr fr':bI S}{au:Nat}{ops:Array Oper}{a:Act}{o:Oper}{t:V S}{v:Value}{b:Bool}{dst:Option Nat}{E:fA S}{call:gm S}{s:aW S}
def mj(h:∀o,p o=W->q o=W):∀d:qE S,pQ p d=W->pQ q d=W
 | .call f args,a=>by simp only[pQ,ir,IV]at a ⊢;exact a.imp (dJ h f) (λ⟨v,h1,h2⟩=>⟨v,h1,dJ h v h2⟩)
 | .mark o,a=>h o a
 | .marks o,a=>h o a
 | .jc,_=>rfl
 | .bad,_=>rfl
inductive nt(p:Nat->Bool):List (qE S)->List (qE S)->Prop where
 |nil:nt p [] []
 |cons {d e:qE S} {l m:List (qE S)} (h:e=d∨(((e=.bad∧d.one=W)∨(e=.jc∧d.one=J))∧pQ p d=W)) (t:nt p l m):nt p (d::l) (e::m)
def nt.refl(p:Nat->Bool):∀l:L (qE S),nt p l l
 |[]=>.nil
 |_::l=>.cons (.inl rfl) (nt.refl p l)
def nt.mono(h:∀o,p o=W->q o=W)(k:nt p l m):nt q l m:=by
 induction k with|nil=>exact .nil|cons c _ d=>exact .cons (c.imp id λ⟨a,b⟩=>⟨a,mj h _ b⟩) d
def nt.trans{p:Nat->Bool}:∀{l m n:L (qE S)},nt p l m->nt p m n->nt p l n
 |_,_,_,.nil,.nil=>.nil
 |_,_,_,.cons h t,.cons a b=>by
  refine .cons ?_ (t.trans b);rcases h with rfl|⟨⟨rfl,h1⟩|⟨rfl,h1⟩,h⟩
  .exact a
  .rcases a with rfl|⟨⟨rfl,_⟩|⟨rfl,h2⟩,_⟩
   .exact .inr ⟨.inl ⟨rfl,h1⟩,h⟩
   .exact .inr ⟨.inl ⟨rfl,h1⟩,h⟩
   .cases h2
  .rcases a with rfl|⟨⟨rfl,h2⟩|⟨rfl,_⟩,_⟩
   .exact .inr ⟨.inr ⟨rfl,h1⟩,h⟩
   .cases h2
   .exact .inr ⟨.inr ⟨rfl,h1⟩,h⟩
def nt.split{p:Nat->Bool}:∀{a b m:L (qE S)},nt p (a++b) m->∃c d,m=c++d∧nt p b d
 |[],_,m,h=>⟨[],m,rfl,h⟩
 |_::_,_,_,.cons _ t=>by obtain⟨c,d,h1,h2⟩:=t.split;exact⟨_::c,d,by rw[h1];rfl,h2⟩
def nt.len(h:nt p l m):m.length=l.length:=by
 induction h with|nil=>rfl|cons _ _ a=>simp[a]
def uO(p:Nat->Bool)(l m:L (qE S)):Prop:=∃c d,m=c++d∧nt p l d
def uO.refl(p:Nat->Bool)(l:L (qE S)):uO p l l:=⟨[],l,rfl,.refl p l⟩
def nt.ok(h:nt p l m):uO p l m:=⟨[],m,rfl,h⟩
def uO.mono{p q:Nat->Bool}(h:∀o,p o=W->q o=W){l m:L (qE S)}(k:uO p l m):uO q l m:=by obtain⟨c,d,h1,h2⟩:=k;exact⟨c,d,h1,h2.mono h⟩
def uO.trans{p:Nat->Bool}{l m n:L (qE S)}(h:uO p l m)(k:uO p m n):uO p l n:=by obtain⟨c,d,rfl,h2⟩:=h;obtain⟨a,b,rfl,h4⟩:=k;obtain⟨x,y,rfl,h5⟩:=h4.split;exact⟨a++x,y,by rw[nS],h2.trans h5⟩
structure fe(ds:List Nat)(fr fr':bI S)(dr:List Nat)(au:Nat):Prop where
 tm:∀k v,k∉ds->fr.get k=Z v->fr'.get k=Z v∨bQ (cS dr au) v=W
 df:uO (cS dr au) fr.df fr'.df
def fe.refl(ds:L Nat)(fr:bI S)(dr:L Nat)(au:Nat):fe ds fr fr dr au:=⟨λ_ _ _ h=>.inl h,uO.refl _ _⟩
def fe.trans{ds ds':L Nat}{fr fr' a:bI S}{dr dr':L Nat}{au b:Nat}(h:fe ds fr fr' dr au)(k:fe ds' fr' a dr' b)(d:∀o∈dr,o∈dr')(hn:au<=b):fe (ds++ds') fr a dr' au:=by
 refine⟨λj v c e=>?_,(h.df.mono (gX d (bS _))).trans (k.df.mono (gX (λ_ h=>h) hn))⟩;simp only[dy,not_or]at c;rcases h.tm j v c.1 e with h1|h1
 .exact (k.tm j v c.2 h1).imp id (dJ (gX (λ_ h=>h) hn) v)
 .exact .inr (dJ (gX d (bS _)) v h1)
def fe.mono{ds ds':L Nat}{fr fr':bI S}{dr dr':L Nat}{au:Nat}(h:fe ds fr fr' dr au)(b:∀k∈ds,k∈ds')(a:∀o∈dr,o∈dr'):fe ds' fr fr' dr' au:=by refine⟨λj v c d=>?_,h.df.mono (gX a (bS _))⟩;exact(h.tm j v (λe=>c (b j e)) d).imp id (dJ (gX a (bS _)) v)
def rL{p q:Nat->Bool}(a:∀o,p o=W->q o=W){f:V S->Bool}(hf:∀v,f v=bQ p v):∀l:L (qE S),nt q l (l.map (dB f))
 |[]=>.nil
 |d::l=>by
  refine .cons ?_ (rL a hf l);cases d with
  |call g args=>
   simp only[dB];cases b:f g||args.any f with
   |true=>refine .inr ⟨.inl ⟨rfl,rfl⟩,mj a _ ?_⟩;simp only[pQ,<-hf];rw[show(bQ p:V S->Bool)=f from funext λv=>(hf v).symm];exact b
   |false=>exact .inl rfl
  |mark o=>
   simp only[dB];cases b:f (.ptr o 0)with|true=>exact .inr ⟨.inl ⟨rfl,rfl⟩,mj a _ (by simp only[pQ,<-hf];exact b)⟩|false=>exact .inl rfl
  |marks o=>
   simp only[dB];cases b:f (.sh o 0)with|true=>exact .inr ⟨.inr ⟨rfl,rfl⟩,mj a _ (by simp only[pQ,<-hf];exact b)⟩|false=>exact .inl rfl
  |jc=>exact .inl rfl
  |bad=>exact .inl rfl
section
variable {g:Gh}{w:World}
def m9(hf:cg g (bh fr) a w){r:O Bool}(h:gI ops.toList fr o=Z r) :
  match r with
  |none=>Region.wanted o (yielded ops a.tmps)=W
  |some c=>Region.wanted o (yielded ops a.tmps)=c:=by
 unfold gI at h;split at h
 .rename_i n;simp only[aV]at h;subst h;simp[Region.wanted,n]
 .rename_i j f n;split at h
  .rename_i b m;simp only[qS,iR]at m;obtain⟨d,⟨q,i,s⟩,k⟩:=m;obtain⟨v,u,x⟩:=hf.tm d (low (.kb b)) (by rw[bF,k];rfl);cases x;have l:ops[j]?=Z q:=by simpa using i
   have y:yielded ops a.tmps j=Z b:=by simp[yielded,l,s,u]
   cases b<;>cases f<;>simp only[cn,cM,BG,zE,aV]at h<;>subst h<;>simp[Region.wanted,n,y]
  .rename_i t _ m;split at h
   .rename_i b A;simp only[aV]at h;subst h;obtain⟨p,e,B⟩:=kg A;simp only[qS,iR]at m;obtain⟨d,⟨q,i,s⟩,k⟩:=m;obtain⟨v,u,x⟩:=hf.tm d (low t) (by rw[bF,k];rfl);have z:=hG e B x;subst z;have l:ops[j]?=Z q:=by simpa using i
    have y:yielded ops a.tmps j=Z b:=by simp[yielded,l,s,u]
    simp only[Region.wanted,n,y,D.beq];cases b<;>cases f<;>rfl
   .cases h
  .cases h
def zu(hf:cg g (bh fr) a w)(h:rW ops.toList fr o=W):Region.wanted o (yielded ops a.tmps)=J:=by
 unfold rW at h;split at h
 .cases h
 .rename_i j i t;split at h
  .rename_i b k;simp only[qS,iR]at k;obtain⟨d,⟨n,c,p⟩,e⟩:=k;obtain⟨v,q,m⟩:=hf.tm d (low (.kb b)) (by rw[bF,e];rfl);cases m;have f:ops[j]?=Z n:=by simpa using c
   have r:yielded ops a.tmps j=Z b:=by simp[yielded,f,p,q]
   cases b<;>cases i<;>first|(cases h;done)|simp[Region.wanted,t,r]
  .rename_i l k;simp only[qS,iR]at k;obtain⟨d,⟨n,c,p⟩,e⟩:=k;obtain⟨v,q,m⟩:=hf.tm d (low (.dat (.lit (.tuple l)))) (by rw[bF,e];rfl);simp only[low]at m;cases m with
   |sym _ _ s=>
   cases s;have f:ops[j]?=Z n:=by simpa using c
   have r:yielded ops a.tmps j=Y:=by simp[yielded,f,p,q]
   simp[Region.wanted,t,r]
  .cases h
def Io:aC g w (low (S:=S) lU) undef:=.sym _ _ (.lit _)
def Ur(t a:V S):Prop:=a=t∨∃b,t=.ty .bool b∧a=.kb b
def Ur.rel{a:V S}(h:Ur t a)(c:aC g w (low t) v):aC g w (low a) v:=by
 rcases h with rfl|⟨b,rfl,rfl⟩
 .exact c
 .cases c with|sym _ _ d=>cases d;exact .kb b
def O4{ω:Type}{k:V S->O ω}{r:ω}(h:yp b t k=Z r):∃c,Ur t c∧k c=Z r:=by
 unfold yp at h;rcases aa h with⟨_,a⟩|⟨_,a⟩
 .clear h;split at a
  .rename_i x;rcases nL a with⟨rfl,h⟩|⟨rfl,h⟩
   .exact ⟨_,.inr ⟨W,rfl,rfl⟩,h⟩
   .exact ⟨_,.inr ⟨J,rfl,rfl⟩,h⟩
  .exact ⟨_,.inl rfl,a⟩
 .exact ⟨t,.inl rfl,a⟩
def Gr{ω:Type}{k:V S->O ω}{r:ω}(h:yp b t k=Z r)(a:aC g w (low t) v):∃d,k d=Z r∧aC g w (low d) v:=by
 unfold yp at h;rcases aa h with⟨_,c⟩|⟨_,h⟩
 .clear h;split at c
  .rename_i x;have e:v=.bool x:=by cases a with|sym _ _ f=>cases f;rfl
   subst e;rcases nL c with⟨rfl,h⟩|⟨rfl,h⟩
   .exact ⟨_,h,.kb W⟩
   .exact ⟨_,h,.kb J⟩
  .exact ⟨_,c,a⟩
 .exact ⟨t,h,a⟩
def s8(hf:cg g (bh fr) a w)(hn:fr.n<=bg){o:Op}(h:Hx W fr o=W):cg g (bh (mg fr o)) a w∧(mg fr o).n=fr.n:=by
 have key:∀(l:L Operand)(q:Bool)(f0:bI S),f0.n=fr.n->(q=W->cg g (bh f0) a w)->
   l.foldl (λp x=>match x with
    | .tmp k=>match fr.get k with
     |some (.gd g _)=>p&&imp W g
     |_=>p
    |_=>p) q=W->
   cg g (bh (l.foldl (λf x=>match x with
    | .tmp k=>match fr.get k with
     |some (.gd _ v)=>f.put k v
     |_=>f
    |_=>f) f0)) a w∧(l.foldl (λf x=>match x with
    | .tmp k=>match fr.get k with
     |some (.gd _ v)=>f.put k v
     |_=>f
    |_=>f) f0).n=fr.n:=by
  intro l
  induction l with
  |nil=>intro q f0 b d h;exact⟨d h,b⟩
  |cons x l j=>
   intro q f0 b d h;simp only[zF]at h ⊢;cases x with
   |tmp k=>
    simp only at h ⊢;split at h
    .rename_i A v cC;refine j _ _ (by simpa[bI.put]using b) (λe=>?_) h;simp only[dI]at e;have i:=d e.1;have s:A=W:=e.2;subst s;obtain⟨u,t,y⟩:=hf.tm k (low (.gd W v)) (by rw[bF,cC];rfl);have m:k<fr.n:=by have:=(GM.1 t).1;rw[hf.size]at this;exact this
     refine⟨i.size,i.df,λz B c=>?_⟩;rw[bF,bI.ie _ _ _ _ (gN m hn)]at c;by_cases n:z=k
     .subst n;rw[aY rfl]at c;simp only[dG,aV]at c;subst c;simp only[low]at y;cases y with|gd _ _ _ r=>exact⟨u,t,r rfl⟩
     .rw[bK n]at c;exact i.tm z B (by rw[bF];exact c)
    .exact j _ _ b d h
   |const v=>exact j _ _ b d h
   |global v=>exact j _ _ b d h
   |func v=>exact j _ _ b d h
 exact key o.operands.toList W fr rfl (λ_=>hf) h
def qV(hf:cg g (bh fr) a w)(b:fM fr dst=W)(hn:fr.n<=bg)(c:aC g w (low t) v) :
  cg g (bh (fr.iO dst t)) (a.put dst v) w∧(fr.iO dst t).n=fr.n:=by
 refine⟨?_,by cases dst<;>rfl⟩;rw[LB];exact Qr hf (by cases dst<;>exact b) hn c
def yD(hn:fr.n<=bg)(h:fM fr dst=W)(f:∀o∈ow,o∈dr)(au:Nat)(t:V S):fe dst.toList fr ((cQ ow fr).iO dst t) dr au:=by
 refine⟨λk v i g=>?_,?_⟩;rotate_left
 .have e:((cQ ow fr).iO dst t).df=(cQ ow fr).df:=by cases dst<;>rfl
  rw[e];cases ow with|nil=>exact uO.refl _ _|cons o ow=>refine(rL (p:=(o::ow).contains) (λj a=>?_) (λv=>m6 _ v) _).ok;simp only[cS,ir,wX,kj]at a ⊢;exact .inl (f j a)
 have h1:(cQ ow fr).get k=Z v∨bQ (cS dr au) v=W:=by
  cases ow with
  |nil=>exact .inl g
  |cons o ow=>
   cases b:gw (o::ow) v with
   |true=>rw[m6]at b;refine .inr (dJ (λo a=>?_) v b);simp only[cS,ir,wX,kj]at a ⊢;exact .inl (f o a)
   |false=>
    left
    show(fr.tm.keep _).get k=Z v;rw[Tr.l9,show fr.tm.get k=Z v from g];simp[Option.filter,b]
 refine h1.imp (λh1=>?_) id;cases dst with|none=>exact h1|some d=>have c:d<fr.n:=eN h;show((cQ ow fr).put d t).get k=Z v;rw[bI.ie _ _ _ _ (gN c hn),bK (by simpa using i)];exact h1
def xq(v:Value):aC g w (low (S:=S) (.gd J lU)) v:=by simp only[low];exact .gd _ _ _ λh=>by cases h
def qw(ow:L Nat)(fr:bI S):(cQ ow fr).n=fr.n:=by cases ow<;>rfl
def w9{d:O Nat}(h:fM fr d=W):fM (cQ ow fr) d=W:=by cases d with|none=>rfl|some d=>simp only[fM,qw]at h ⊢;exact h
def pO(p:eA E)(d:fL E.T.E.P call)(hn:fr.n<=bg)(hf:cg g (bh fr) a w)(hs:aU g (aq s) w){ω:Type}
  {kp:V S->aW S->O ω} {k:V S->aW S->L Nat->O ω} {r:ω} (h:lQ E call ops.toList o fr s kp k=Z r) {K:Act->World->Prop} {Q:Exit->Act->World->Prop}
  (m:∀t s' ow g' v w',k t s' ow=Z r->aC g' w' (low t) v->cr ow s g w s' g' w'->K (a.put o.dst v) w')
  (y:∀t s' g' v w',kp t s'=Z r->cr [] s g w s' g' w'->aC g' w' (low t) v->Q (.panic [{v,recovered:=J}]) a w') {rr:O Nat} (f:rr≠Y->∀c,o.op≠.defer c) :
  fM fr o.dst=W∧if Region.wanted o (yielded ops a.tmps)then Uo rr E.T.E.P o a w K Q else K (a.put o.dst undef) w:=by
 unfold lQ at h;rcases aa h with⟨z,h⟩|⟨_,h⟩;rotate_left
 .cases h
 refine⟨z,?_⟩;rcases aa h with⟨q,h⟩|⟨_,h⟩
 .rw[bK (by rw[zu hf q];exact Bool.noConfusion)];exact m _ s [] g undef w h Io (cr.refl hs)
 split at h
 .cases h
 .rename_i u;have e:=m9 hf u;simp only at e;rw[aY e];exact xF p d hf hs h (λt s' g' ow v w' i b n=>m t s' ow g' v w' i n b) y f
 .rename_i c u;have e:=m9 hf u;simp only at e;dsimp only at h;rcases aa h with⟨_,h⟩|⟨_,h⟩
  .obtain ⟨j,h⟩:=mq h;cases c with
   |true=>rw[aY e];obtain⟨l,x⟩:=s8 hf hn j;exact .of_wp f (.inl (pP p l hs (.inr rfl) h (λt g' v w' i b n=>m _ s [] g' v w' i (by simp only[low];exact .gd _ _ _ λ_=>n) b)))
   |false=>rw[bK (by rw[e];exact Bool.noConfusion)];obtain⟨t,i⟩:=HB h;exact m _ s [] g undef w i (by simp only[low];exact .gd _ _ _ λh=>by cases h) (cr.refl hs)
  .rcases nL h with⟨rfl,h⟩|⟨rfl,h⟩
   .obtain ⟨j,h⟩:=mq h;rw[aY e];obtain⟨l,x⟩:=s8 hf hn j;exact xF p d l hs h (λt s' g' ow v w' i b n=>m t s' ow g' v w' i n b) y f
   .rw[bK (by rw[e];exact Bool.noConfusion)];exact m _ s [] g undef w h (xq _) (cr.refl hs)
def HF{P:Program}(hf:cg g (bh fr) a w){d:qE S}(h:Mq fr o=Z d) :
  o.guard=Y∧∃e,(execOp a.eval o).run P w=.ok (.defer e) w∧tU g w (iU d) e:=by
 unfold Mq at h;split at h;rotate_left
 .cases h
 rename_i c u m;refine⟨u,?_⟩;split at h;rotate_left
 .cases h
 rename_i f i;split at h;rotate_left
 .cases h
 rename_i l x y args n b;simp only[aV]at h;subst h;have p:=bE hf (bP n);have k:=eT hf (gr b);simp only[low]at p;generalize q:a.eval f=E at p;cases p with
 |fn _ _ _ r s z A B C=>
  refine⟨{target:=.fn l s,args:=r++c.args.map a.eval},?_,?_⟩
  .simp only[execOp,m,resolve,i,Deferred.ofValue,q,Sem.run_bind,Sem.run_pure,Result.andThen_ok]
  .exact .call (.fn l (aX x) (aX y)) (aX args) l r s (c.args.map a.eval) (.fn l _ _ r s z A B C) (by simpa using k.1) (λj t v h1 h2=>k.2 j t v h1 (by simpa using h2))
def HA(A:eA E)(f:fL E.T.E.P call)(hn:fr.n<=bg)(hf:cg g (bh fr) a w)(hs:aU g (aq s) w){ω:Type}
  {kp:V S->aW S->O ω} {k:bI S->aW S->O ω} {r:ω} (h:Ml E call ops.toList o fr s kp k=Z r) {K:Act->World->Prop} {Q:Exit->Act->World->Prop}
  (B:∀fr' s' g' a' w',k fr' s'=Z r->fr'.n=fr.n->cg g' (bh fr') a' w'->eC s g w s' g' w'->fe o.dst.toList fr fr' s'.dr s.au->K a' w')
  (C:∀t s' g' v w',kp t s'=Z r->cg g' (bh fr) a w'->eC s g w s' g' w'->aC g' w' (low t) v->Q (.panic [{v,recovered:=J}]) a w') {rr:O Nat} (l:rr≠Y->∀c,o.op≠.defer c) :
  if Region.wanted o (yielded ops a.tmps)then Uo rr E.T.E.P o a w K Q else K (a.put o.dst undef) w:=by
 unfold Ml at h;split at h
 .rename_i d x;rcases aa h with⟨m,h2⟩|⟨_,h2⟩;rotate_left
  .cases h2
  obtain⟨F,e,n,i⟩:=HF (P:=E.T.E.P) hf x;have G:Region.wanted o (yielded ops a.tmps)=W:=by simp[Region.wanted,F]
  rw[aY G];refine .of_wp l (.inl ?_);unfold Oper.wp;rw[n];obtain⟨h1,h3⟩:=qV hf m hn (t:=vJ) (v:=undef) (xq _);have key:∀dst:O Nat,cg g (bh (fr.iO dst vJ)) (a.put dst undef) w->cg g (bh {(fr.iO dst vJ)with df:=d::fr.df}) (({a with defers:=e::a.defers}:Act).put dst undef) w:=by intro dst h1;cases dst with|none=>exact⟨h1.size,.cons i hf.df,h1.tm⟩|some j=>exact⟨h1.size,.cons i hf.df,h1.tm⟩
  obtain⟨h4,h5⟩:=yD (ow:=[]) (dr:=s.dr) hn m (λo H=>by cases H) s.au vJ;exact B _ s g _ w h2 h3 (key _ h1) (eC.refl hs) ⟨h4,[d],fr.df,rfl,.refl _ _⟩
 have m:fM fr o.dst=W:=(pO A f hn hf hs h (K:=λ_ _=>True) (Q:=λ_ _ _=>True) (λ_ _ _ _ _ _ _ _ _=>trivial) (λ_ _ _ _ _ _ _ _=>trivial) l).1;refine(pO A f hn hf hs h (λt s' ow g' v w' p q b=>?_) (λt s' g' v w' p b q=>C t s' g' v w' p (lO (ow:=[]) hf b) b.Vm q) l).2;have y:=b.owd;have z:=lO hf b;obtain⟨t,p,q⟩:=Gr p q;obtain⟨h1,h2⟩:=qV (fr:=cQ ow fr) z (w9 m) (by rw[qw];exact hn) q;exact B _ s' g' _ w' p (h2.trans (qw ow fr)) h1 b.Vm (yD hn m y _ t)
def zY(P:eA E)(e:fL E.T.E.P call){ω:Type}{kp:bI S->V S->aW S->O ω}{kk:bI S->aW S->O ω}{r:ω}{Q:Exit->Act->World->Prop}{rr:O Nat}(u:rr≠Y->∀o∈ops.toList,∀c,o.op≠.defer c) :
  ∀(l:L Oper)(k:Nat),ops.toList.drop k=l->∀{fr:bI S}{s:aW S}{a:Act}{g:Gh}{w:World},fr.n<=bg->JM E call ops.toList kp kk l fr s=Z r->cg g (bh fr) a w->aU g (aq s) w->
   (∀fr' s' g' a' w',kk fr' s'=Z r->fr'.n=fr.n->cg g' (bh fr') a' w'->eC s g w s' g' w'->fe (l.filterMap (·.dst)) fr fr' s'.dr s.au->Q .normal a' w')->
   (∀fr' t s' g' a' v w',kp fr' t s'=Z r->fr'.n=fr.n->cg g' (bh fr') a' w'->eC s g w s' g' w'->fe (l.filterMap (·.dst)) fr fr' s'.dr s.au->aC g' w' (low t) v->Q (.panic [{v,recovered:=J}]) a' w')->
   tM rr E.T.E.P ops Q (List.range' k l.length) a w:=by
 intro l
 induction l with
 |nil=>intro k _ fr s a g w _ h y z A _;exact A fr s g a w h rfl y (eC.refl z) (fe.refl _ _ _ _)
 |cons o l R=>
  intro k K fr s a g w M h y z A N;have B:ops[k]?=Z o:=by have:=oI (λm=>m[0]?) K;simpa[Au]using this
  have C:ops.toList.drop (k+1)=l:=by have:=oI (List.drop 1) K;simpa[IP,Nat.add_comm]using this
  rw[gi,List.range'_succ];unfold tM;simp only[B];simp only[JM]at h;have tail:∀{fr' b:bI S}{s' d:aW S}{g':Gh}{w':World},eC s g w s' g' w'->fe o.dst.toList fr fr' s'.dr s.au->(∀o∈s'.dr,o∈d.dr)->fe (l.filterMap (·.dst)) fr' b d.dr s'.au->fe ((o::l).filterMap (·.dst)) fr b d.dr s.au:=by
   intro fr' b s' d g' w' h4 h5 h6 p;have:=h5.trans p h6 h4.au;refine this.mono (λj hj=>?_) (λ_ h=>h);rcases dy.1 hj with hj|hj
   .rw[uE];exact⟨o,dX,by simpa using hj⟩
   .rw[uE]at hj ⊢;obtain⟨x,X,F⟩:=hj;exact⟨x,gl _ X,F⟩
  refine HA P e M y z h (λfr' s' g' a' w' h1 h2 h3 h4 h5=>?_) (λt s' g' v w' h1 h2 h3 h4=>N fr t s' g' a v w' h1 rfl h2 h3 (fe.refl _ _ _ _) h4) λhr=>u hr o (by rw[<-Pj]at B;exact gk B);exact R (k+1) C (by rw[h2];exact M) h1 h3 h4.rel (λb d f i n G H I q p=>A b d f i n G (H.trans h2) I (h4.trans q) (tail h4 h5 q.Ey p)) (λb t d f i v' n G H I q p k6=>N b t d f i v' n G (H.trans h2) I (h4.trans q) (tail h4 h5 q.Ey p) k6)
end
end
section
def Rr(a:Act)(w:World)(c:Nat):O Value:=bif Nat.blt c 1000000 then a.tmps[c]? else match a.tmps[Nat.div (Nat.sub c 1000000) 1000]? with
 |some (.pointer (Z b))=>match w.heap[b.block]? with
  |some (.cells d _ _)=>d[Nat.mod (Nat.sub c 1000000) 1000]?
  |_=>Y
 |_=>Y
variable {g:Gh}{w:World}{fr:bI S}{s:aW S}{a:Act}{v:V S}{al:List (Nat×Nat)}
def Bn(hf:cg g (bh fr) a w)(hs:aU g (aq s) w){c:Nat}(h:Rq fr s c=Z v):∃u,Rr a w c=Z u∧aC g w (low v) u:=by
 unfold Rq at h;unfold Rr;cases i:Nat.blt c 1000000 with
 |true=>rw[i,cn]at h;obtain⟨u,f,e⟩:=hf.tm c (low v) (by rw[bF,h];rfl);exact⟨u,f,e⟩
 |false=>
  rw[i,cM]at h;split at h
  .rename_i o k;split at h
   .rename_i cs l;obtain⟨u,f,e⟩:=hf.tm _ (low (.ptr o 0)) (by rw[bF,k];rfl);simp only[low]at e;cases e with
    |ptr _ _ b m=>
    obtain⟨n,ty,p,q,d⟩:=(hs.box o b m).box (cs:=aX cs) (by rw[aE,l];rfl);have h1:=GU h;have h2:∃x,n[Nat.mod (Nat.sub c 1000000) 1000]?=Z x:=by have:=(sv.1 h1).1;exact⟨_,nT (by omega)⟩
    obtain⟨x,j⟩:=h2;exact⟨x,by simp only[cM,f,p,j],d _ _ _ h1 j⟩
   .cases h
  .cases h
def U2(a:Act)(w:World)(al:L (Nat×Nat)):Prop:=∀p∈al,a.tmps[p.1]?=Rr a w p.2
def j4{g:Gh}{w:World}{a:Act}{s:aW S}(hs:aU g (aq s) w):∀{al:L (Nat×Nat)}{fr:bI S},(∀p∈al,p.1<bg)->U2 a w al->cg g (bh fr) a w->
  cg g (bh (kC s al fr)) a w∧(kC s al fr).n=fr.n∧(kC s al fr).df=fr.df∧∀k,k∉al.map (·.1)->(kC s al fr).get k=fr.get k
 |[],fr,_,_,b=>⟨b,rfl,rfl,λ_ _=>rfl⟩
 |p::al,fr,i,l,b=>by
  have f:=i p dX;have m:=l p dX;simp only[kC];cases o:Rq fr s p.2 with
  |none=>obtain⟨h1,h2,h3,h4⟩:=j4 hs (fr:=fr) (λq c=>i q (gl _ c)) (λq c=>l q (gl _ c)) b;exact⟨h1,h2,h3,λk h=>h4 k λr=>h (gl _ r)⟩
  |some v=>
   have n:cg g (bh (fr.put p.1 v)) a w:=by
    refine⟨b.size,b.df,λj t e=>?_⟩;rw[bF,bI.ie _ _ _ _ f]at e;by_cases d:j=p.1
    .rw[aY d]at e;simp only[dG,aV]at e;subst e;obtain⟨u,x,y⟩:=Bn b hs o;exact⟨u,by rw[d,m];exact x,y⟩
    .rw[bK d]at e;exact b.tm j t (by rw[bF];exact e)
   obtain⟨h1,h2,h3,h4⟩:=j4 hs (fr:=fr.put p.1 v) (λq c=>i q (gl _ c)) (λq c=>l q (gl _ c)) n;refine⟨h1,h2,h3,λk h=>?_⟩;simp only[jh,ej,not_or]at h;rw[h4 k h.2,bI.ie _ _ _ _ f,bK h.1]
def yd.kC{sh:Sh}{bs:L Nat}{a:Act}{gb:Gh}{iL c:bI S}{s0 b:aW S}{w:World}{d:L eX}{e:Gh}(h:yd [] sh bs a gb iL s0 w d e c b){al:L (Nat×Nat)}(f:∀p∈al,p.1<bg)(g:U2 a w al) :
  yd (al.map (·.1)) sh bs a gb iL s0 w d e (TL.kC b al c) b:=by
 obtain⟨h1,h2,h3,h4⟩:=j4 h.rel f g h.fr;exact⟨h.rel,h1,h.le,h.bf,h.own,h.fl,h.lo,h.au,h.wr,h.dr,h.ob,h.bG,h.arr,h2.trans h.n,h3.trans h.J0,λk i j=>(h4 k i).trans (h.get k (by simp) j)⟩
def uz(hf:cg g (bh fr) a w)(hs:aU g (aq s) w)(h:QK fr s al=W):U2 a w al:=by
 intro p k;unfold QK at h;rw[dU]at h;have h1:=h p k;split at h1
 .rename_i o r t u l m;rw[dI]at h1;obtain rfl:=beq_iff'.1 h1.1;obtain rfl:=beq_iff'.1 h1.2;obtain⟨v,e,b⟩:=hf.tm p.1 (low (.sh o r)) (by rw[bF,l];rfl);obtain⟨y,f,c⟩:=Bn hf hs m;simp only[low]at b c;cases b with
  |sh _ _ len cap sz x n=>
  cases c with|sh _ _ i j q z d=>rw[n]at d;cases d;rw[e,f]
 .cases h1
def Km{ow:L Nat}(h:Xi fr ow al=W){p:Nat×Nat}(a:p∈al)(b:fr.get p.1=Z v):∃o r,v=.sh o r∧o∈ow:=by
 unfold Xi at h;rw[dU]at h;have h1:=h p a;rw[b]at h1;split at h1
 .rename_i o r e;cases e;exact⟨o,r,rfl,by simpa using h1⟩
 .cases h1
end
section
inductive M1(g:Gh)(w:World):uB S->Exit->Prop where
 |oK:M1 g w .oK .normal
 |ext (i:Nat):M1 g w (.ext i) (.exit i)
 |ret:M1 g w .ret .ret
 |dP (t:V S) (v:Value) (h:aC g w (low t) v):M1 g w (.dP t) (.panic [{v,recovered:=J}])
def FZ(ds:L Nat)(fr:bI S)(s:aW S)(g:Gh)(w:World){ω:Type}(Q:uB S->bI S->aW S->O ω)(r:ω)(e:Exit)(a:Act)(w':World):Prop:=
 False∨∃ex fr' s' g',M1 g' w' ex e∧Q ex fr' s'=Z r∧fr'.n=fr.n∧cg g' (bh fr') a w'∧eC s g w s' g' w'∧fe ds fr fr' s'.dr s.au
variable {ds' bl ex bl1:List Nat}{g1 g':Gh}{e:Exit}{w':World}{iL:bI S}{vals EN:List Value}{al xZ:List eX}{P:Nat->Bool}{Ec:Sh}{au:Nat}{base:bI S×aW S}
def FZ.mono{ds:L Nat}{fr qv:bI S}{s s1:aW S}{g:Gh}{w w1:World}{ω:Type}{Q:uB S->bI S->aW S->O ω}{r:ω}{a:Act}(hn:qv.n=fr.n)(b:eC s g w s1 g1 w1)(hf:fe ds fr qv s1.dr s.au)
  (h:FZ ds' qv s1 g1 w1 Q r e a w'):FZ (ds++ds') fr s g w Q r e a w':=by
 rcases h with h|⟨ex,c,d,g',h1,h2,h3,h4,h5,h6⟩
 .exact .inl h
 .exact .inr ⟨ex,c,d,g',h1,h2,h3.trans hn,h4,b.trans h5,hf.trans h6 h5.Ey b.au⟩
def FZ.ds{ds ds':L Nat}{fr:bI S}{s:aW S}{g:Gh}{w:World}{ω:Type}{Q:uB S->bI S->aW S->O ω}{r:ω}{e:Exit}{a:Act}{w':World}(c:∀k∈ds,k∈ds')(h:FZ ds fr s g w Q r e a w'):FZ ds' fr s g w Q r e a w':=by
 rcases h with h|⟨ex,b,d,g',h1,h2,h3,h4,h5,h6⟩
 .exact .inl h
 .exact .inr ⟨ex,b,d,g',h1,h2,h3,h4,h5,h6.mono c (λ_ h=>h)⟩
def PN(p:Nat->Prop)(h:∃n,p n):∃n,p n∧∀m,p m->n<=m:=by
 obtain⟨n,d⟩:=h
 induction n using Nat.strongRecOn with
 |_ n e=>
  by_cases c:∃m,p m∧m<n
  .obtain ⟨m,a,b⟩:=c;exact e m b a
  .exact ⟨n,d,λm a=>by
    rcases uW m n with h|h
    .exact absurd ⟨m,a,h⟩ c
    .exact h⟩
def PU{X R B P:Type}{F:X->O (LO X R B P)}:∀{n:Nat}{x:X}{o:LO X R B P},iter F n x=Z o->∃m,n=m+1∧∃b,F x=Z b∧((∃y,b=.next y∧iter F m y=Z o)∨(b=o∧∀y,o≠.next y))
 |0,_,_,h=>by cases h
 |_+1,x,o,h=>by
  simp only[iter]at h;refine⟨_,rfl,?_⟩;split at h
  .cases h
  .rename_i y a;exact⟨_,a,.inl ⟨y,rfl,h⟩⟩
  .rename_i j y a;simp only[aV]at h;exact⟨_,a,.inr ⟨h,λy=>by rw[<-h];simp⟩⟩
  .rename_i y z a;simp only[aV]at h;exact⟨_,a,.inr ⟨h,λy=>by rw[<-h];simp⟩⟩
  .rename_i y a;simp only[aV]at h;exact⟨_,a,.inr ⟨h,λy=>by rw[<-h];simp⟩⟩
structure tW(sh:Sh)(bs:List Nat)(iL:bI S)(s0 s:aW S)(g:Gh)(w:World)(x:fj S.A (jF sh))(a:Act)(gb:Gh)(w':World)(vals:List Value)(al:List eX)(bl:List Nat):Prop where
 rel:aU gb (aq s0) w'
 fr:cg gb (bh iL) a w'
 pr:oD S gb.bf w' (jF sh) x vals al bl
 at_:gT a sh vals
 DX:PW (λo b=>gb.bG o=Z b) bs bl
 Sw:∀o∈bs,∀e,gb.arr o e=Y
 fresh:∀a∈al,∀b,a.at b->∀o,¬br gb o b
 ap:tY al
 ext:mz s.lo s.fl g w gb w'
 alo:∀a∈al,∀b,a.at b->(∃o,s.fl<=o∧br g o b)∨w.heap.size<=b
def tW.head{sh:Sh}{bs:L Nat}{f:bI S}{s0 s i:aW S}{g:Gh}{w:World}{x:fj S.A (jF sh)}{a:Act}{gb:Gh}
  (c:tW sh bs iL s0 s g w x a gb w' vals al bl) (hn:iL.n<=bg) (h:jx sh bs x iL s0=Z (f,i)) :
  ∃j,yd [] sh bs a gb iL s0 w' al j f i∧mz s.lo s.fl g w j w':=by
 obtain⟨j,d⟩:=s4 h hn c.pr c.at_ c.DX c.Sw c.fresh c.ap c.fr c.rel;refine⟨j,d,λo b e=>?_,λo e y q k=>?_,λb e=>?_,c.ext.size,c.ext.heap,λo b r l=>?_,λb p=>?_,c.ext.os,c.ext.output⟩
 .exact d.le.bG o b (c.ext.bG o b e)
 .exact d.le.arr o e y (c.ext.arr o e y q k)
 .exact d.le.bf b (c.ext.bf b e)
 .rcases d.own o b l with l|⟨_,t,m,n⟩
  .exact c.ext.own o b r l
  .exact c.alo t m b n
 .rw[d.bf]at p;exact c.ext.pN b p
def TQ(P:Nat->Bool)(d:qE S):dB (bQ P) (dB (bQ P) d)=dB (bQ P) d:=by
 cases d with
 |call f args=>
  simp only[dB];cases a:bQ P f||args.any (bQ P)with
  |true=>rfl
  |false=>simp only[cM,dB,a]
 |mark o=>
  simp only[dB];cases a:bQ (S:=S) P (.ptr o 0)with|true=>rfl|false=>simp only[cM,dB,a]
 |marks o=>
  simp only[dB];cases a:bQ (S:=S) P (.sh o 0)with|true=>rfl|false=>simp only[cM,dB,a]
 |_=>rfl
def W5{Q:Nat->Bool}(c:∀o,Q o=W->P o=W):∀{l m:L (qE S)},nt Q (l.map (dB (bQ P))) m->m=l.map (dB (bQ P)):=by
 intro l
 induction l with
 |nil=>intro m h;cases h;rfl
 |cons d l g=>
  intro m h;cases h with
  | @cons _ e _ _ i j=>
  rw[jh,g j]
  congr 1
  rcases i with rfl|⟨h1,k⟩
  .rfl
  .have a:=mj c _ k;cases d with
   |call f args=>
    simp only[dB]at a h1 ⊢;cases b:bQ P f||args.any (bQ P)with
    |true=>
     rw[b]at h1;rcases h1 with⟨h1,_⟩|⟨_,h1⟩
     .exact h1
     .cases h1
    |false=>rw[b]at a;simp only[cM,pQ]at a;rw[a]at b;cases b
   |mark o=>
    simp only[dB]at a h1 ⊢;cases b:bQ (S:=S) P (.ptr o 0)with
    |true=>
     rw[b]at h1;rcases h1 with⟨h1,_⟩|⟨_,h1⟩
     .exact h1
     .cases h1
    |false=>rw[b]at a;simp only[cM,pQ]at a;rw[a]at b;cases b
   |marks o=>
    simp only[dB]at a h1 ⊢;cases b:bQ (S:=S) P (.sh o 0)with
    |true=>
     rw[b]at h1;rcases h1 with⟨_,h1⟩|⟨h1,_⟩
     .cases h1
     .exact h1
    |false=>rw[b]at a;simp only[cM,pQ]at a;rw[a]at b;cases b
   |jc=>
    rcases h1 with⟨_,h1⟩|⟨h1,_⟩
    .cases h1
    .exact h1
   |bad=>
    rcases h1 with⟨h1,_⟩|⟨_,h1⟩
    .exact h1
    .cases h1
def W6{g:Gh}{w:World}(b:∀t v,aC g w t v->dc P t=J->aC g' w' t v){l:L (qE S)}{a:L Deferred}(c:ei g w ((l.map (dB (bQ P))).map iU) a) :
  ei g' w' ((l.map (dB (bQ P))).map iU) a:=by
 have h:=fR (S:=S) (p:=bQ P) (q:=dc P) (λv=>gY P v) (λ_ _=>rfl) (l.map (dB (bQ P)));have e:(l.map (dB (bQ P))).map (dB (bQ P))=l.map (dB (bQ P)):=by rw[List.map_map];exact II λd _=>TQ P d
 rw[e]at h;exact gD.rel b h c
section
variable {sh:Sh}{bs ow ds:List Nat}{fr:bI S}{s s1:aW S}{g:Gh}{w:World}{a:Act}
def Ow(a:∀d∈ds,d<bg)(k:Nat):(bX ds ow bs fr s1).1.get k=if k∈ds then Y else(fr.get k).filter (λv=>!(bQ (cS ow s1.au) v)):=by
 show((ds.foldl (λt k=>t.del aA k) fr.tm).keep _).get k=_;rw[Tr.l9,Tr.mb ds _ k a];split
 .rfl
 .rfl
def xU(a:∀d∈ds,d<bg){k:Nat}{v:V S}(h:(bX ds ow bs fr s1).1.get k=Z v):k∉ds∧fr.get k=Z v∧bQ (cS ow s1.au) v=J:=by
 rw[Ow a]at h;split at h
 .cases h
 .rename_i b;rw[I0]at h;exact⟨b,h.1,by simpa using h.2⟩
def Dv(hf:cg g (bh fr) a w)(hs:aU g (aq s) w)(C:∀d∈ds,d<bg){x:fj S.A (jF sh)}{m:Gh}
  (c:DG sh bs a g s w x s1 ow m vals al bl):tW sh bs (bX ds ow bs fr s1).1 (bX ds ow bs fr s1).2 s g w x a (m.base (cS ow s1.au)) w vals al bl:=by
 have r:∀b∈bs,b<bg:=λb i=>by have:=(c.KR b i).2.1;have:=hs.au;exact gN (c.KR b i).2.1 hs.au
 have n:∀o,o∉ow->o<s.au->cS ow s1.au o=J:=λo h1 h2=>m5 h1 (c.au▸h2);have l:=c.T6.owned c.pr.gq;refine⟨c.rel.base (λo p=>?_) rfl (bS _) (λo ob N f=>?_),⟨hf.size,(fR (λv=>gY (cS ow s1.au) v) (λ_ _=>rfl) fr.df).rel (λt v P z=>(P.ext c.ext hs.bf).on (m.fS _) (λ_ _=>rfl) z) hf.df,λk t K=>?_⟩,c.pr,c.at_,⟨c.DX.1,λj o b h1 h2=>?_⟩,λo p e=>?_,λE F b i o A=>?_,c.ap,⟨λo b i=>?_,λo e y hl M=>?_,c.ext.bf,bS _,λ_ _ _=>rfl,λo b p A=>?_,c.ext.pN,rfl,rfl⟩,λE F b i=>?_⟩
 .simp only[cS,ir];exact .inr (Av p)
 .rw[aE,qA r]at f;split at f
  .cases f
  .rw[BN,ec]at f;obtain⟨B,G,rfl⟩:=f;exact⟨cz B,by rw[aE,G];rfl,lS _ B⟩
 .rw[bF,ec]at K;obtain⟨v,G,rfl⟩:=K;obtain⟨_,h2,h3⟩:=xU C G;obtain⟨u,Q,R⟩:=hf.tm k (low v) (by rw[bF,h2];rfl);exact⟨u,Q,(R.ext c.ext hs.bf).on (m.fS _) (λ_ _=>rfl) (by rw[gY];exact h3)⟩
 .have f:=gk h1;have:=c.KR o f;exact(m.fS _).bG o b (n o this.2.2.1 this.2.1) (c.DX.2 j o b h1 h2)
 .simp only[Gh.base];split
  .exact (c.KR o p).2.2.2 e
  .rfl
 .obtain ⟨h1,h2⟩:=Gh.fN A;obtain⟨X,H,I⟩:=l E F b i;have:=c.rel.jv o X b h2 I;subst this;exact(jQ h1).1 H
 .have q:=hs.lt i;exact(m.fS _).bG o b (n o (λz=>by rw[c.XI o z]at i;cases i) q) (c.ext.bG o b i)
 .have q:=hs.lt' M;exact(m.fS _).arr o e y (n o (λz=>by have:=(c.Sq o z).2.1;omega) q) (c.ext.arr o e y M)
 .rcases c.ext.own o b (Gh.fN A).2 with h|h
  .exact .inl ⟨o,p,h⟩
  .exact .inr h
 .obtain ⟨o,p,A⟩:=l E F b i;rcases c.ext.own o b A with h|h
  .exact .inl ⟨o,(c.Sq o p).1,h⟩
  .exact .inr h
def MC(hds:∀d∈ds,d<bg)(l:∀b∈bs,b<s1.au∧b∉ow)(K:s1.au<=bg)(hlo:s.lo<=s1.au)(how:∀o∈ow,s.lo<=o)(M:∀o b,g.bG o=Z b->o<s1.au∧o∉ow)(N:s1.lo=s.lo)(P:s1.fl=s.fl)
  {a':Act} {w':World} {al:L eX} {gb gh:Gh} {DW:bI S} {m:aW S}
  (Q:mz s.lo s.fl g w gh w') (hh:yd ex sh bs a' gb (bX ds ow bs fr s1).1 (bX ds ow bs fr s1).2 w' al gh DW m)
  {R q:aW S} {g2 A:Gh} {a2:Act} {I:World} (i:eC m gh w' R g2 I)
  {x:fj S.A (jF Ec)} {B:L Nat} {vals:L Value} {X:L eX} {bl2:L Nat} (f:DG Ec bs a2 g2 R I x q B A vals X bl2)
  (C:KT s1.au bs q.wr=W) (r:B.all (λo=>Nat.ble s1.au o)=W) (Tj:q.dr.all (λo=>Nat.ble s1.au o)=W) (hfr:cg (A.base (cS ow s1.au)) (bh iL) a2 I) :
  tW Ec bs iL (bX ds ow bs fr s1).2 s g w x a2 (A.base (cS ow s1.au)) I vals X bl2:=by
 have n:∀b∈bs,b<bg:=λb p=>gN (l b p).1 K;have t:(bX ds ow bs fr s1).2.au=s1.au:=rfl;have hlen:s1.au<=m.au:=t▸hh.au;have E:∀o∈B,s1.au<=o:=λo k=>by rw[dU]at r;exact eN (r o k)
 have ZX:∀o∈R.dr,s1.au<=o:=λo k=>by rw[dU]at Tj;exact eN (Tj o (f.dr▸k))
 have acO:∀o∈q.wr,s1.au<=o∨o∈bs:=λo k=>by unfold KT at C;rw[dU]at C;have:=C o k;rw[ir]at this;exact this.imp eN (λh=>by simpa using h)
 have u:=f.T6.owned f.pr.gq;have v:m.fl=s.fl:=hh.fl.trans (show(bX ds ow bs fr s1).2.fl=s.fl from P);have ZR:m.lo=s.lo:=hh.lo.trans (show(bX ds ow bs fr s1).2.lo=s.lo from N);have F:mz s.lo s.fl g w g2 I:=Q.trans (v▸ZR▸i.ext);have Tg:R.fl=s.fl:=i.fl.trans v;have a:mz s.lo s.fl g w A I:=F.trans (Tg▸f.ext.Eb s.lo);refine⟨f.rel.base (au:=s1.au) (λo k=>?_) rfl ?_ (λo ob hpo c=>?_),hfr,f.pr,f.at_,⟨f.DX.1,λj o b h1 h2=>?_⟩,λo k e=>?_,λa' ha b p o hO=>?_,f.ap,⟨λo b p=>?_,λo e y hl hy=>?_,a.bf,a.size,a.heap,λo b k hO=>?_,a.pN,a.os,a.output⟩,λa' ha b p=>?_⟩
 .simp only[cS,ir];exact .inr (Av k)
 .have e1:(aq q).au=q.au:=rfl;have:=i.au;have:=f.au;omega
 .rw[aE,qA n]at c;split at c
  .cases c
  .rename_i G;rw[BN,ec]at c;obtain⟨H,hv,rfl⟩:=c;have z:=(jQ hpo).2;have hnw:o∉q.wr:=λhm=>by
    rcases acO o hm with h|h
    .omega
    .exact G h
   have aiH:o∉R.wr:=λhm=>hnw (f.rU o hm);have e1:q.ob.get o=Z (fG (cS ow s1.au) H):=by rw[f.same o hnw,i.same o (gN z hlen) aiH,hh.ob o (t▸z) G,qA n,bK G,hv];rfl
   exact⟨cz (fG (cS ow s1.au) H),by rw[aE,e1];rfl,Dl _ H⟩
 .have c:=gk h1;exact(A.fS _).bG o b (m5 (l o c).2 (l o c).1) (f.DX.2 j o b h1 h2)
 .simp only[Gh.base];split
  .exact (f.KR o k).2.2.2 e
  .rfl
 .obtain ⟨h1,h2⟩:=Gh.fN hO;obtain⟨o',ho',WJ⟩:=u a' ha b p;have:=f.rel.jv o o' b h2 WJ;subst this;have:=E o ho';have:=(jQ h1).2;omega
 .exact (A.fS _).bG o b (m5 (M o b p).2 (M o b p).1) (a.bG o b p)
 .exact (A.fS _).arr o e y (m5 (λhm=>by have:=how o hm;omega) (by omega)) (a.arr o e y hl hy)
 .exact a.own o b k (Gh.fN hO).2
 .obtain ⟨o,k,hO⟩:=u a' ha b p;exact a.own o b (by have:=(f.Sq o k).1;omega) hO
def gT.tmps{a a':Act}(h:a'.tmps=a.tmps):∀{sh:Sh}{vs:L Value},gT a sh vs->gT a' sh vs
 |[],[],_=>trivial
 |(_,.one _)::_,_::_,k=>⟨by rw[h];exact k.1,gT.tmps h k.2⟩
 |(_,.box _)::l,_::_,k=>gT.tmps (sh:=l) h k
 |(_,.hid _)::l,_,k=>gT.tmps (sh:=l) h k
 |[],_::_,k=>k.elim
 |(_,.one _)::_,[],k=>k.elim
 |(_,.box _)::_,[],k=>k.elim
def ei.split{g:Gh}{w:World}:∀{l1 l2:L Df}{m:L Deferred},ei g w (l1++l2) m->∃a b,m=a++b∧ei g w l1 a∧ei g w l2 b
 |[],_,m,h=>⟨[],m,rfl,.nil,h⟩
 |_::l1,l2,_,.cons h t=>by obtain⟨a,b,rfl,h1,h2⟩:=ei.split (l1:=l1) (l2:=l2) t;exact⟨_::a,b,rfl,.cons h h1,h2⟩
 |_::l1,l2,_,.marks o bs c h t=>by obtain⟨a,b,rfl,h1,h2⟩:=ei.split (l1:=l1) (l2:=l2) t;exact⟨_++a,b,(nS _ _ _).symm,.marks o bs c h h1,h2⟩
 |_::l1,l2,_,.jc d t=>by obtain⟨a,b,rfl,h1,h2⟩:=ei.split (l1:=l1) (l2:=l2) t;exact⟨_++a,b,(nS _ _ _).symm,.jc d h1,h2⟩
def ei.one{g:Gh}{w:World}:∀{os:L Nat}{m:L Deferred},ei g w (os.map Df.mark) m->∃bl,PW (λo b=>g.bG o=Z b) os bl∧m=bl.map λb=>{target:=.collected b,args:=#[]}
 |[],_,.nil=>⟨[],⟨rfl,λj o b h=>by simp at h⟩,rfl⟩
 |o::os,_,.cons h t=>by
  obtain⟨bl,h1,rfl⟩:=ei.one t;cases h with
  |mark _ b d=>
  refine⟨b::bl,⟨by simp[h1.1],λj e f a c=>?_⟩,rfl⟩;cases j with|zero=>simp at a c;subst a;subst c;exact d|succ j=>exact h1.2 j e f (by simpa using a) (by simpa using c)
def aU.Ko{s:St}{w:World}{o:Nat}(q:s.ob.get o=Z .Cj)(C:o<s.au):∀(bl:L Nat){g:Gh},aU g s w->bl.Nodup->(∀b∈bl,b<w.heap.size∧¬g.bf b∧(∀k,¬br g k b)∧w.heap[b]?=Z (.deferred (Z [])))->
  ∃g',aU g' s w∧lH g g'∧g'.bG=g.bG∧g'.bf=g.bf∧(∀k,k≠o->g'.arr k=g.arr k)∧(∀k b,br g' k b->br g k b∨(k=o∧b∈bl))∧∀b∈bl,g'.arr o b=Z ⟨Z ⟨b,0,Y⟩,0,1,0⟩
 |[],g,i,_,_=>⟨g,i,lH.refl _,rfl,rfl,λ_ _=>rfl,λ_ _ h=>.inl h,λb v=>by cases v⟩
 |b::bl,g,i,K,v=>by
  obtain⟨S,X,E,b4⟩:=v b dX;have n:g.arr o b=Y:=by
   cases j:g.arr o b with
   |none=>rfl
   |some x=>
    exfalso;rcases(i.arr o b x j).2 _ q with⟨F,_,_,h,_⟩|⟨_,_,_,_,_,_,h,_⟩|⟨_,_,_,h,_⟩|h|⟨_,h1,h2,h3,_⟩
    .cases F<;>cases h
    .cases h
    .cases h
    .cases h
    .exact E o ⟨h3,.inr ⟨b,x,_,j,h1,rfl,h2⟩⟩
  let g1:Gh:={g with arr:=λk e=>if k=o∧e=b then Z ⟨Z ⟨b,0,Y⟩,0,1,0⟩else g.arr k e}
  have l:∀k e y,g.arr k e=Z y->g1.arr k e=Z y:=λk e y h=>by show(if k=o∧e=b then _ else g.arr k e)=_;rw[bK (λh2=>by rw[h2.1,h2.2,n]at h;cases h)];exact h
  have r:lH g g1:=⟨λ_ _ h=>h,l,λ_ h=>h⟩;have a:∀k c,br g1 k c->br g k c∨(k=o∧c=b):=by
   rintro k c ⟨h1,h2|⟨e,x,M,h2,h3,h4,h5⟩⟩
   .exact .inl ⟨h1,.inl h2⟩
   .by_cases f:k=o∧e=b
    .have h2:(if k=o∧e=b then Z ⟨Z ⟨b,0,Y⟩,0,1,0⟩else g.arr k e)=Z x:=h2;rw[aY f]at h2;cases h2;cases h3;exact .inr ⟨f.1,h4.symm⟩
    .have h2:(if k=o∧e=b then Z ⟨Z ⟨b,0,Y⟩,0,1,0⟩else g.arr k e)=Z x:=h2;rw[bK f]at h2;exact .inl ⟨h1,.inr ⟨e,x,M,h2,h3,h4,h5⟩⟩
  have G:aU g1 s w:=by
   refine⟨i.au,λk f=>⟨(i.af k f).1,λe=>?_⟩,λk c m=>?_,λk e x j=>?_,i.bf,λk z c h N=>?_⟩
   .show (if k=o∧e=b then _ else g.arr k e)=_;rw[bK (λh=>by omega)];exact(i.af k f).2 e
   .obtain ⟨H,A,k3⟩:=i.box k c m;exact⟨H,A,λob d=>let ⟨x,h1,h2⟩:=k3 ob d;⟨x,h1,h2.imp λ_ _ ht=>ht.le r⟩⟩
   .by_cases f:k=o∧e=b
    .have j:(if k=o∧e=b then Z ⟨Z ⟨b,0,Y⟩,0,1,0⟩else g.arr k e)=Z x:=j;rw[aY f]at j;cases j;obtain⟨rfl,rfl⟩:=f;refine⟨λM ha _=>by cases ha;exact S,λob d=>?_⟩;rw[q]at d;cases d;exact .inr (.inr (.inr (.inr ⟨rfl,rfl,by simp,X,b4⟩)))
    .have I:g.arr k e=Z x:=by have j:(if k=o∧e=b then Z ⟨Z ⟨b,0,Y⟩,0,1,0⟩else g.arr k e)=Z x:=j;rwa [bK f]at j
     obtain⟨H,A⟩:=i.arr k e x I;refine⟨H,λob d=>?_⟩;by_cases t:k=o
     .subst t;rw[q]at d;cases d;rcases A _ q with⟨F,_,_,h,_⟩|⟨_,_,_,_,_,_,h,_⟩|⟨_,_,_,h,_⟩|h|h
      .cases F<;>cases h
      .cases h
      .cases h
      .cases h
      .exact .inr (.inr (.inr (.inr h)))
     .exact (A ob d).tr (λh=>h.iW rfl) l (funext λP=>by show(if k=o∧P=b then _ else g.arr k P)=_;rw[bK (λh=>t h.1)]) (λ_ _ _=>⟨rfl,nU⟩)
   .rcases a k c h with B|⟨B,e2⟩
    .rcases a z c N with p|⟨p,Q⟩
     .exact i.jv k z c B p
     .exact absurd (Q▸B) (E k)
    .rcases a z c N with p|⟨p,Q⟩
     .exact absurd (e2▸p) (E z)
     .rw[B,p]
  obtain⟨g',q1,R,q3,q4,q5,q6,q7⟩:=G.Ko q C bl (Eh.1 K).2 (λc m=>by
   obtain⟨c1,c2,c3,c4⟩:=v c (gl _ m);refine⟨c1,c2,λk u=>?_,c4⟩;rcases a k c u with u|⟨_,rfl⟩
   .exact c3 k u
   .exact (Eh.1 K).1 m)
  refine⟨g',q1,r.trans R,q3,q4,λk f=>(q5 k f).trans (funext λe=>by show(if k=o∧e=b then _ else g.arr k e)=_;rw[bK (λh=>f h.1)]),λk c u=>?_,λc m=>?_⟩
  .rcases q6 k c u with h|⟨h1,h2⟩
   .rcases a k c h with h|⟨h1,h2⟩
    .exact .inl h
    .exact .inr ⟨h1,by rw[h2];exact dX⟩
   .exact .inr ⟨h1,gl _ h2⟩
  .rcases ej.1 m with rfl|m
   .exact R.arr o c _ (by show(if o=o∧c=c then _ else g.arr o c)=_;rw[aY ⟨rfl,rfl⟩])
   .exact q7 c m
def Marks(au fl:Nat)(base:bI S×aW S)(c:bI S)(g:Gh)(w:World):Prop:=
 ∃os d,c.df=os.map qE.mark++d∧d.length=base.1.df.length∧os.Nodup∧(∀o∈os,au<=o∧∀b,g.bG o=Z b->w.heap[b]?=Z (.deferred (Z [])))∧
  (os=[]∨∃a rest,base.1.df=.marks a::rest∧base.2.ob.get a=Z .Cj∧a<au∧fl<=a)
def Marks.mono{fl:Nat}{c:bI S}{g:Gh}{w:World}{a:Act}(h:Marks au fl base c g w)(hf:cg g (bh c) a w)(q:∀o b,g.bG o=Z b->g'.bG o=Z b):Marks au fl base c g' w:=by
 obtain⟨os,d,n,r,s,p,t⟩:=h;refine⟨os,d,n,r,s,λo l=>⟨(p o l).1,λb u=>?_⟩,t⟩;have e:=hf.df;rw[show(bh c).df=(os.map qE.mark).map iU++d.map iU from by show c.df.map iU=_;rw[n,vS]]at e;obtain⟨x,y,_,f,_⟩:=e.split;rw[List.map_map,show(iU∘qE.mark:Nat->Df)=Df.mark from rfl]at f;obtain⟨bl,j,_⟩:=f.one;obtain⟨i,v,rfl⟩:=oJ l;have m:i<bl.length:=by have:=j.1;omega
 have k:=j.2 i _ _ (eS v) (eS m);have h2:=q _ _ k;rw[u]at h2;cases h2;exact(p _ l).2 _ k
def zQ{au:Nat}{s:aW S}{g:Gh}{w:World}(hs:aU g (aq s) w):∀{l:L (qE S)}{os:L Nat},ri au s l=Z os->l=os.map qE.mark∧∀o∈os,au<=o∧∀b,g.bG o=Z b->w.heap[b]?=Z (.deferred (Z []))
 |[],os,h=>by simp only[ri,aV]at h;subst h;exact⟨rfl,λo f=>by cases f⟩
 | .mark o::l,os,h=>by
  simp only[ri]at h;split at h
  .rename_i i;rcases aa h with⟨j,h⟩|⟨_,h⟩
   .split at h
    .rename_i r c;simp only[aV]at h;subst h;obtain⟨h1,h2⟩:=zQ hs c;refine⟨by rw[h1];rfl,λe a=>?_⟩;rcases ej.1 a with rfl|a
     .refine ⟨eN j,λb d=>?_⟩;obtain⟨x,k,c⟩:=(hs.box e b d).2.2 .wE (by rw[aE,i];rfl);cases c;exact k
     .exact h2 e a
    .cases h
   .cases h
  .cases h
 | .call _ _::_,_,h=>by simp[ri]at h
 | .marks _::_,_,h=>by simp[ri]at h
 | .jc::_,_,h=>by simp[ri]at h
 | .bad::_,_,h=>by simp[ri]at h
def wQ{fr':bI S}{s':aW S}{g:Gh}{w:World}(hs:aU g (aq s') w)(h:Ld au base fr' s'=W):Marks au s'.fl base fr' g w:=by
 unfold Ld at h;split at h;rotate_left
 .cases h
 rename_i os b;simp only[dI,ir]at h;obtain⟨h1,h2,h3⟩:=h;obtain⟨e,f⟩:=zQ hs b;have h2:=beq_iff'.1 h2;rw[bA,bA,bA]at h2;have h2:os.length+base.1.df.length=fr'.df.length:=h2;refine⟨os,fr'.df.drop (Nat.sub (bU fr'.df) (bU base.1.df)),by rw[<-e,Ll],?_,jR h1,f,?_⟩
 .rw[BP,bA,bA];show fr'.df.length-(fr'.df.length-base.1.df.length)=_;omega
 .rcases h3 with h3|h3
  .left
   have:=beq_iff'.1 h3;rw[bA]at this;exact qU this
  .right
   unfold ab0 at h3;split at h3
   .rename_i i a c;split at h3
    .rename_i d;rw[dI]at h3;exact⟨i,a,c,d,eN h3.1,eN h3.2⟩
    .cases h3
   .cases h3
def FT(ajc:∀k∈ex,k∈ds)(hds:∀d∈ds,d<bg)(Qe:∀b∈bs,b<s1.au∧b∉ow)(Wx:s1.au<=bg)(hlo:s.lo<=s1.au)(how:∀o∈ow,s.lo<=o)(hgb:∀o b,g.bG o=Z b->o<s1.au∧o∉ow)(hsh:Bq ds sh=W)(adU:s1.lo=s.lo)(adV:s1.fl=s.fl)
  {a':Act} {w':World} {al:L eX} {gb gh:Gh} {Q:bI S} {r:aW S}
  (Qc:mz s.lo s.fl g w gh w') (hh:yd ex sh bs a' gb (bX ds ow bs fr s1).1 (bX ds ow bs fr s1).2 w' al gh Q r)
  {B:bI S} {s2 s3:aW S} {R F:Gh} {a2:Act} {C:World} (p:eC r gh w' s2 R C) (hf2:cg R (bh B) a2 C) (hfo:fe ds Q B s2.dr r.au) (hn2:B.n=Q.n) (hmk:Marks s1.au s.fl (bX ds ow bs fr s1) B R C)
  {x:fj S.A (jF Ec)} {X:L Nat} {vals:L Value} {yj:L eX} {bl2:L Nat} (f:DG Ec bs a2 R s2 C x s3 X F vals yj bl2)
  (hwr:KT s1.au bs s3.wr=W) (G:X.all (λo=>Nat.ble s1.au o)=W) (Tj:s3.dr.all (λo=>Nat.ble s1.au o)=W) :
  ∃H,tW Ec bs (bX ds ow bs fr s1).1 (bX ds ow bs fr s1).2 s g w x a2 H C vals yj bl2∧H.bf=F.bf:=by
 have adJ:∀b∈bs,b<bg:=λb hb=>gN (Qe b hb).1 Wx;have aii:(bX ds ow bs fr s1).2.au=s1.au:=rfl;have hlen:s1.au<=r.au:=aii▸hh.au;have how2':∀o∈X,s1.au<=o:=λo ho=>by rw[dU]at G;exact eN (G o ho)
 have ZX:∀o∈s2.dr,s1.au<=o:=λo ho=>by rw[dU]at Tj;exact eN (Tj o (f.dr▸ho))
 have acO:∀o∈s3.wr,s1.au<=o∨o∈bs:=λo ho=>by unfold KT at hwr;rw[dU]at hwr;have:=hwr o ho;rw[ir]at this;exact this.imp eN (λh=>by simpa using h)
 have AD:=f.T6.owned f.pr.gq;have adv:r.fl=s.fl:=hh.fl.trans (show(bX ds ow bs fr s1).2.fl=s.fl from adV);have ZR:r.lo=s.lo:=hh.lo.trans (show(bX ds ow bs fr s1).2.lo=s.lo from adU);have adA:mz s.lo s.fl g w R C:=Qc.trans (adv▸ZR▸p.ext);have Tg:s2.fl=s.fl:=p.fl.trans adv;have adz:mz s.lo s.fl g w F C:=adA.trans (Tg▸f.ext.Eb s.lo);have hQ:∀o,cS s2.dr r.au o=W->cS ow s1.au o=W:=λo ho=>by
  simp only[cS,ir,wX,kj]at ho ⊢;rcases ho with ho|ho
  .exact .inr (Av (ZX o ho))
  .have:=eN ho;exact .inr (Av (by omega))
 have hT:∀t v,aC R C t v->dc (cS ow s1.au) t=J->aC (F.base (cS ow s1.au)) C t v:=λt v ht hm=>(ht.ext f.ext p.rel.bf).on (F.fS _) (λ_ _=>rfl) hm;obtain⟨os,d,e1,e2,aix,I,zU⟩:=hmk;have ajg:nt (cS s2.dr r.au) (bX ds ow bs fr s1).1.df d:=by
  obtain⟨c,d',k1,k2⟩:=hfo.df;have hl:=k2.len;rw[hh.J0]at hl k2;have hdd:d'=d:=by have h1:c++d'=os.map qE.mark++d:=k1.symm.trans e1;exact(List.append_inj' h1 (by omega)).2
  rw[<-hdd];exact k2
 have hdb:=W5 hQ (l:=fr.df) ajg;have adE:=hf2.df;rw[show(bh B).df=(os.map qE.mark).map iU++d.map iU from by show B.df.map iU=_;rw[e1,vS]]at adE;obtain⟨m1,m2,adj,hd1,hd2⟩:=adE.split;rw[List.map_map,show(iU∘qE.mark:Nat->Df)=Df.mark from rfl]at hd1;obtain⟨bl,E,Tb⟩:=hd1.one;rw[hdb]at hd2;have hd3:=W6 hT (l:=fr.df) hd2;have Zw:∀k t,(bh (bX ds ow bs fr s1).1).get k=Z t->∃v,a2.tmps[k]?=Z v∧aC (F.base (cS ow s1.au)) C t v:=by
  intro k t hk;rw[bF,ec]at hk;obtain⟨v,hv,rfl⟩:=hk;obtain⟨h1,h2,h3⟩:=xU hds hv;have hgh:Q.get k=Z v:=by
   rw[hh.get k (λhm=>h1 (ajc k hm)) (λq hq hqk=>?_)]
   .exact hv
   .obtain ⟨qk,qp⟩:=q;cases qp with|box cs=>rfl|hid cs=>rfl|one c=>unfold Bq at hsh;rw[dU]at hsh;have:=hsh _ hq;simp only at this hqk;subst hqk;exact absurd (by simpa using this) h1
  rcases hfo.tm k v h1 hgh with h4|h4
  .obtain ⟨u,hu,hr⟩:=hf2.tm k (low v) (by rw[bF,h4];rfl);exact⟨u,hu,(hr.ext f.ext p.rel.bf).on (F.fS _) (λ_ _=>rfl) (by rw[gY];exact h3)⟩
  .exfalso;obtain⟨o,N8,Q5⟩:=PK h4 h3;have:=(jQ Q5).2;simp only[cS,ir,wX,kj]at N8;rcases N8 with N8|N8
   .have:=ZX o N8;omega
   .have:=eN N8;omega
 have hp':DG Ec bs {a2 with defers:=[]} R s2 C x s3 X F vals yj bl2:=⟨f.rel,f.ext,f.pr,gT.tmps (a:=a2) (a':={a2 with defers:=[]}) rfl f.at_,f.T6,f.DX,f.now,f.Sq,f.nbs,f.KR,f.fl,f.lo,f.au,f.rU,f.same,f.dr,f.ap,f.XI⟩;have hsz:a2.tmps.size=(bX ds ow bs fr s1).1.n:=hf2.size.trans (hn2.trans hh.n);have m:=MC (fr:=fr) hds Qe Wx hlo how hgb adU adV Qc hh p hp' hwr G Tj (iL:={(bX ds ow bs fr s1).1 with df:=[]}) ⟨hsz,.nil,Zw⟩;rcases zU with rfl|⟨oB,rest,adF,adi,aiT,hflB⟩
 .have Me:bl=[]:=qU (by have:=E.1;simpa using this.symm);subst Me;have Tb:m1=[]:=Tb;subst Tb;exact⟨_,⟨m.rel,⟨hsz,by rw[adj];exact hd3,Zw⟩,m.pr,f.at_,m.DX,m.Sw,m.fresh,m.ap,m.ext,m.alo⟩,rfl⟩
 have hmb:(aq (bX ds ow bs fr s1).2).ob.get oB=Z .Cj:=by rw[aE,adi];rfl
 have A:∀b∈bl,∃o∈os,R.bG o=Z b:=λb hb=>by
  obtain⟨i,hi,rfl⟩:=oJ hb;have K:i<os.length:=by have:=E.1;omega
  exact⟨os[i],BI K,E.2 i _ _ (eS K) (eS hi)⟩
 have M:∀{o b:Nat},R.bG o=Z b->br F o b:=λ{o b}hb=>⟨(f.rel.box o b (f.ext.bG o b hb)).1,.inl (f.ext.bG o b hb)⟩;have WH:bl.Nodup:=by
  refine Lo.2 λi j hi hj hij heq=>?_;have hlen:=E.1;have K:i<os.length:=by omega
  have hj':j<os.length:=by omega
  have e1:=E.2 i _ _ (eS K) (eS hi);have e2:=E.2 j _ _ (eS hj') (eS hj);rw[<-heq]at e2;exact(Lo.1 aix i j K hj' hij) (f.rel.jv _ _ _ (M e1) (M e2))
 have adf:∀b∈bl,∀k,¬br (F.base (cS ow s1.au)) k b:=λb hb k hO=>by obtain⟨o,ho,z⟩:=A b hb;obtain⟨h1,h2⟩:=Gh.fN hO;have:=f.rel.jv k o b h2 (M z);subst this;have:=(jQ h1).2;have:=(I k ho).1;omega
 obtain⟨H,q1,q2,q3,q4,q5,q6,q7⟩:=m.rel.Ko hmb aiT bl WH (λb hb=>by
  obtain⟨o,ho,z⟩:=A b hb;exact⟨(p.rel.box o b z).2.1,(f.rel.box o b (f.ext.bG o b z)).1,adf b hb,(I o ho).2 b z⟩)
 have hd4:ei (F.base (cS ow s1.au)) C ((qE.marks oB::rest).map iU) m2:=adF▸hd3;have hdf:ei H C ((bX ds ow bs fr s1).1.df.map iU) a2.defers:=by
  rw[adF,adj,Tb];cases hd4 with
  |cons k _=>cases k
  |marks _ ms hnm ZO ht=>
  rw[<-nS,<-vS];refine .marks oB (bl++ms) (BQ.2 ⟨WH,hnm,λb hb c hc hbc=>?_⟩) (λb hb=>?_) (ht.imp (λt v ht=>ht.le q2) q2.bG)
  .subst hbc;obtain⟨n,c',hr⟩:=ZO b hc;cases hr with
   |sh _ _ _ _ sz _ hx=>
   rcases(m.rel.arr oB b _ hx).2 _ hmb with⟨fz,_,_,h,_⟩|⟨_,_,_,_,_,_,h,_⟩|⟨_,_,_,h,_⟩|h|⟨_,h1,h2,h3,_⟩
   .cases fz<;>cases h
   .cases h
   .cases h
   .cases h
   .exact adf b hb oB ⟨h3,.inr ⟨b,_,_,hx,h1,rfl,h2⟩⟩
  .rcases dy.1 hb with hb|hb
   .exact ⟨0,1,.sh _ _ _ _ 0 _ (q7 b hb)⟩
   .obtain ⟨n,c,hr⟩:=ZO b hb;exact⟨n,c,hr.le q2⟩
 have hfresh:∀b∈bl,(∃o,s.fl<=o∧br g o b)∨w.heap.size<=b:=λb hb=>by obtain⟨o,ho,z⟩:=A b hb;exact adz.own o b (by have:=(I o ho).1;omega) (M z)
 refine⟨H,⟨q1,⟨hsz,hdf,λk t hk=>let ⟨v,hv,ht⟩:=Zw k t hk;⟨v,hv,ht.le q2⟩⟩,q4▸m.pr,f.at_,⟨m.DX.1,λj o b h1 h2=>by rw[q3];exact m.DX.2 j o b h1 h2⟩,λo ho e=>?_,λa' ha b hb o hO=>?_,m.ap,⟨λo b hb=>?_,λo e y hl hy=>?_,λb hb=>?_,m.ext.size,m.ext.heap,λo b ho hO=>?_,λb hb=>?_,m.ext.os,m.ext.output⟩,m.alo⟩,q4⟩
 .rw[q5 o (λh=>by
   subst h;have:=qA (ow:=ow) (ds:=ds) (fr:=fr) (s1:=s1) adJ o;rw[aY ho,adi]at this;cases this)]
  exact m.Sw o ho e
 .rcases q6 o b hO with hO|⟨_,N⟩
  .exact m.fresh a' ha b hb o hO
  .obtain ⟨o1,N8,P⟩:=A b N;obtain⟨o2,Q5,Qi⟩:=AD a' ha b hb;have:=f.rel.jv o1 o2 b (M P) Qi;subst this;rw[f.XI o1 Q5]at P;cases P
 .rw[q3];exact m.ext.bG o b hb
 .exact q2.arr o e y (m.ext.arr o e y hl hy)
 .exact q2.bf b (m.ext.bf b hb)
 .rcases q6 o b hO with hO|⟨_,N⟩
  .exact m.ext.own o b ho hO
  .exact hfresh b N
 .rw[q4]at hb;exact m.ext.pN b hb
def QE(hs:aU g (aq s) w){l:fj S.A (jF sh)}(e:DG sh bs a g s w l s1 ow g1 EN xZ bl1)
  {a':Act} {w':World} {al:L eX} {gb j:Gh} {k:bI S} {c:aW S} (f:mz s.lo s.fl g w j w') (h:yd ex Ec bs a' gb iL (bX ds ow bs fr s1).2 w' al j k c) :
  eC s g w {c with wr:=s1.ob.iD (eY (cS ow s1.au))++(bs++s1.wr),dr:=ow++s1.dr} j w':=by
 have i:∀b∈bs,b<bg:=λb m=>gN (e.KR b m).2.1 hs.au;refine⟨h.rel,f,h.fl.trans e.fl,h.lo.trans e.lo,?_,λo d=>?_,λo q d=>?_,λo d=>?_⟩
 .have:=h.au;have r:(bX ds ow bs fr s1).2.au=s1.au:=rfl;have:=e.au;show s.au<=c.au;omega
 .exact gp _ (gp _ (e.rU o d))
 .simp only[dy,not_or]at d;have h1:c.ob.get o=(bX ds ow bs fr s1).2.ob.get o:=h.ob o (by show o<s1.au;have:=e.au;omega) d.2.1;show c.ob.get o=s.ob.get o;rw[h1,qA i,bK d.2.1,<-e.same o d.2.2];cases n:s1.ob.get o with
  |none=>rfl
  |some ob=>
   rw[dG]
   congr 1
   apply mo;cases p:eY (cS ow s1.au) ob with|false=>rfl|true=>exact absurd (Tr.n8 _ _ _ _ n p) d.1
 .exact gp _ (by rw[e.dr];exact d)
def Kg(h:∀k∈ex,k∈ds)(hs:aU g (aq s) w)(r:∀d∈ds,d<bg){z:fj S.A (jF sh)}(m:DG sh bs a g s w z s1 ow g1 EN xZ bl1)(e:Bq ds Ec=W)
  {a':Act} {w':World} {al:L eX} {gb t:Gh} {f:bI S} {i:aW S} (j:mz s.lo s.fl g w t w') (n:yd ex Ec bs a' gb (bX ds ow bs fr s1).1 (bX ds ow bs fr s1).2 w' al t f i) :
  eC s g w {i with wr:=s1.ob.iD (eY (cS ow s1.au))++(bs++s1.wr),dr:=ow++s1.dr} t w'∧fe ds fr f (ow++s1.dr) s.au∧f.n=fr.n:=by
 have y:∀b∈bs,b<bg:=λb A=>gN (m.KR b A).2.1 hs.au;refine⟨QE (fr:=fr) hs m j n,⟨λk v u B=>?_,?_⟩,n.n⟩
 .cases p:bQ (cS ow s1.au) v with
  |true=>exact .inr (dJ (gX (λo x=>dH _ x) (by rw[m.au];exact bS _)) v p)
  |false=>
   left
   rw[n.get k (λp=>u (h k p)) (λq C l=>?_),Ow r,bK u,B]
   .simp[Option.filter,p]
   .obtain ⟨G,E⟩:=q;cases E with|box F=>rfl|hid F=>rfl|one c=>unfold Bq at e;rw[dU]at e;have:=e _ C;simp only at this l;subst l;exact absurd (by simpa using this) u
 .rw[n.J0];exact(rL (gX (λo x=>dH _ x) (by rw[m.au];exact bS _)) (λv=>rfl) fr.df).ok
end
def GA{g:Gh}{w:World}{fr:bI S}{a:Act}(hf:cg g (bh fr) a w):∀{rv:Rv}{vs:L (V S)},RA fr rv=Z vs->∃vals,gT a (rv.map λp=>(p.1,Pk.one (.dat p.2))) vals∧PW (aC g w) (aX vs) vals
 |[],vs,h=>by simp only[RA,aV]at h;subst h;exact⟨[],trivial,rfl,λj t v h=>by simp[aX]at h⟩
 |(k,c)::l,vs,h=>by
  simp only[RA]at h;split at h
  .rename_i v r h1 h2;simp only[aV]at h;subst h;obtain⟨vals,h3,h4⟩:=GA hf h2;obtain⟨u,e,f⟩:=hf.tm k (low v) (by rw[bF,h1];rfl);refine⟨u::vals,⟨e,h3⟩,by simp only[aX,gi,h4.1],λj t i b d=>?_⟩;cases j with|zero=>simp[aX]at b d;subst b;subst d;exact f|succ j=>exact h4.2 j t i (by simpa[aX]using b) (by simpa using d)
  .cases h
def sM{g:Gh}{w:World}{a:Act}:∀{rv:Rv}{r:fH S.A (Ee rv)}{vals:L Value}{al:L eX}{I:Nat->Prop}{fr:bI S},iF S I w (Ee rv) r vals al->(∀b,I b->g.bf b)->gT a (rv.map λp=>(p.1,Pk.one (.dat p.2))) vals->
  fr.n<=bg->cg g (bh fr) a w->cg g (bh (uR rv r fr)) a w∧(uR rv r fr).n=fr.n∧∀k,k∉rv.map (·.1)->(uR rv r fr).get k=fr.get k
 |[],r,vals,al,I,fr,_,_,_,_,f=>⟨f,rfl,λ_ _=>rfl⟩
 |(k,t)::rv,r,vals,al,I,fr,q,n,e,l,f=>by
  cases q with
  | @dat _ _ x h v z al s u=>
  obtain⟨o,e⟩:=e;have d:k<fr.n:=by have:=(GM.1 o).1;rw[f.size]at this;exact this
  have m:cg g (bh (fr.put k (.ty t x))) a w:=by
   refine⟨f.size,f.df,λj y c=>?_⟩;rw[bF,bI.ie _ _ _ _ (gN d l)]at c;by_cases i:j=k
   .subst i;rw[aY rfl]at c;simp only[dG,aV]at c;subst c;exact⟨v,o,nG (s.le n)⟩
   .rw[bK i]at c;exact f.tm j y (by rw[bF];exact c)
  obtain⟨h1,h2,h3⟩:=sM (rv:=rv) (fr:=fr.put k (.ty t x)) u n e l m;refine⟨h1,h2,λj c=>?_⟩;simp only[jh,ej,not_or]at c;rw[show uR ((k,t)::rv) (x,h) fr=uR rv h (fr.put k (.ty t x))from rfl,h3 j c.2,bI.ie _ _ _ _ (gN d l),bK c.1]
def vV{ω:Type}{Q:uB S->bI S->aW S->O ω}{fr:bI S}{s:aW S}{r:ω}:∀{l:L Nat}{i:Nat},i∈l->VN Q fr s l (Wo l i)=Z r->Q (.ext i) fr s=Z r
 |[],i,a,_=>by cases a
 |[j],i,a,h=>by simp only[ko]at a;subst a;exact h
 |j::d::l,i,a,h=>by
  simp only[Wo]at h;cases b:Nat.beq j i with
  |true=>rw[b]at h;have:=beq_iff'.1 b;subst this;exact h
  |false=>
   rw[b]at h;simp only[cM]at h;have c:j≠i:=λe=>by subst e;rw[E4]at b;cases b
   refine vV (l:=d::l) ?_ h;rcases ej.1 a with rfl|a
   .exact absurd rfl c
   .exact a
end
section
def vP{st:LoopState}{a:O Code}(h:BC st a=W):st=.ready∧a=Y:=by
 unfold BC at h;split at h
 .exact ⟨rfl,rfl⟩
 .cases h
variable {fr:bI S}
def Mh{g:Gh}{w:World}{a:Act}(hf:cg g (bh fr) a w)(hn:fr.n<=bg)(l:L Nat):∀k t,(bh (JG l fr)).get k=Z t->∃v,a.tmps[k]?=Z v∧aC g w t v:=by
 have key:∀(l:L Nat)(t0:Tr (V S)),(∀k v,t0.get k=Z v->fr.get k=Z v)->∀k v,(l.foldl (λt k=>match fr.get k with|some v=>t.set aA k v|none=>t) t0).get k=Z v->fr.get k=Z v:=by
  intro l
  induction l with
  |nil=>exact λt0 h=>h
  |cons j l f=>
   intro t0 h;rw[zF];refine f _ λk v b=>?_;split at b
   .rename_i u d;have i:j<bg:=by
     have:(bh fr).get j=Z (low u):=by rw[bF,d];rfl
     obtain⟨x,m,_⟩:=hf.tm j _ this;have:=hf.size;have h2:=(GM.1 m).1;have h3:(bh fr).n=fr.n:=rfl;omega
    rw[Tr.aO _ _ _ _ i]at b;by_cases e:k=j
    .rw[aY e]at b;rw[e,d,b]
    .rw[bK e]at b;exact h k v b
   .exact h k v b
 intro k t b;rw[bF]at b;cases c:(JG l fr).get k with
 |none=>rw[c]at b;cases b
 |some v=>rw[c]at b;have h1:=key l .nil (λk v h=>by simp[Tr.get_nil]at h) k v c;exact hf.tm k t (by rw[bF,h1];exact b)
def IF{E:fA S}(hE:eA E){call:gm S}(K:fL E.T.E.P call)(n:Nat)(fid:FuncId)(rv:Rv){gv:Operand}{ps:Array Tmp}{q body:Code}{i:Nat}{ω:Type}{Q:uB S->bI S->aW S->O ω}{r:ω}{s:aW S}
  (h:rZ E call n fid rv (.rangeFunc gv ps q body) i Q fr s=Z r) (hn:fr.n<=bg) {g:Gh} {a:Act} {w:World} (hf:cg g (bh fr) a w) (hs:aU g (aq s) w) :
  (Code.rangeFunc gv ps q body).wpIn (WR Y) 0 E.T.E.P (FZ (eo (.rangeFunc gv ps q body)++rv.map (·.1)) fr s g w Q r) a w:=by
 simp only[rZ]at h;split at h
 .cases h
 rename_i f args XV;rcases aa h with⟨hb,h1⟩|⟨_,h1⟩;rotate_left
 .cases h1
 clear h;simp only[dI]at hb;obtain⟨_,_,ZW,A⟩:=hb;have A:s.au+1<bg:=eN A;simp only[qS]at XV;obtain⟨tf,htf,Hu⟩:=XV;have M:=bE hf (bP htf);have p:=o3 Hu;unfold ux at p;split at p;rotate_left
 .cases p
 rename_i f' first cap F
 simp only[aV,bq]at p;obtain⟨rfl,H⟩:=p;rw[F]at M;generalize hvf:a.eval gv=vf at M;cases M with
 |fn _ _ _ va vc l1 l2 r1 r2=>
 obtain⟨Eo,he1⟩:=hs.newObj (ob0:=.wE) (x0:=.deferred (Z [])) (by show s.au<bg;omega) .wE;have aib:(dO (aq s) Ob.wE).2=aq (cJ s .wE):=(fU s .wE).symm;rw[aib]at Eo;refine wpIn_rangeFunc λfn _=>?_
 let b:Loop:={state:=.ready,pending:=Y,fn,tmps:=a.tmps,params:=ps,assign:=q,body,defers:=w.heap.size}
 let lv:LpV S:=⟨.ready,Y,fid,JG (rV q++rV body) fr,ps.toList,q,body⟩
 have hf1:cg (g.cU (aq s).au w.heap.size) (bh fr) a (w.alloc (.deferred (Z []))):=hf.ext he1 hs.bf;obtain⟨I,N⟩:=Eo.newObj (ob0:=.lp (uZ lv)) (x0:=.loop b) (by show s.au+1<bg;exact A)
  (.lp _ b rfl rfl rfl rfl rfl hf1.size (Mh hf1 hn _))
 have aia:(dO (aq (cJ s .wE)) (Ob.lp (uZ lv))).2=aq (cJ (cJ s .wE) (.lp lv)):=(fU _ (.lp lv)).symm;rw[aia]at I;have B:(Instr.enterLoop fn a.tmps ps q body Y).run E.T.E.P w=.ok (w.heap.size+1,[{target:=.collected w.heap.size,args:=#[]}]) ((w.alloc (.deferred (Z []))).alloc (.loop b)):=run_enterLoop_outer _ _ _ _ _;generalize hW2:(w.alloc (.deferred (Z []))).alloc (.loop b)=W2 at I N B;generalize hg2:(g.cU (aq s).au w.heap.size).cU (aq (cJ s .wE)).au (w.alloc (.deferred (Z []))).heap.size=g2 at I N;have R:g2.bG s.au=Z w.heap.size:=by rw[<-hg2];simp[Gh.cU,aq,cJ]
 have G:g2.bG (s.au+1)=Z (w.heap.size+1):=by rw[<-hg2];simp[Gh.cU,aq,cJ]
 have he:Ext s.fl g w g2 W2:=he1.trans N;have hall:PW (aC g2 W2) (aX args) (va++#[Value.func (.yield (w.heap.size+1)) #[] #[]]++vc).toList:=by rw[<-H];simp only[Ej];refine PW.append (PW.append ⟨by simpa using l1,λj x y h1 h2=>(r1 j x y h1 (by simpa using h2)).ext he hs.bf⟩ ⟨rfl,λj x y h1 h2=>?_⟩) ⟨by simpa using l2,λj x y h1 h2=>(r2 j x y h1 (by simpa using h2)).ext he hs.bf⟩;cases j with|zero=>simp only[aX,qT,aV]at h1 h2;subst h1;subst h2;exact .pz _ _ G|succ j=>simp[aX]at h1
 obtain⟨Mc,hc⟩:=xI hE K I h1 hall;refine⟨w.heap.size+1,[{target:=.collected w.heap.size,args:=#[]}],W2,{target:=.fn (.func f') vc,args:=va++#[Value.func (.yield (w.heap.size+1)) #[] #[]]},W2,f',va++#[Value.func (.yield (w.heap.size+1)) #[] #[]]++vc,W2,B,?_,λ_ _=>trivial,?_,λh=>by simp[Fence.wide]at h,Mx.2 (hc.mono λe w' X=>?_)⟩
 .simp only[rangeCall,resolve,Deferred.ofValue,hvf,Sem.run_bind,Sem.run_pure,Result.andThen_ok];simp[Act.eval]
 .simp only[invoke];exact uf Mc _
 cases e with
 |panicked ch=>obtain⟨v,t,C,g',_,h1,_⟩:=X;cases h1
 |outgrown=>exact X.elim
 |returned v=>
 obtain⟨t,C,g',ow,h1,_,m⟩:=X;dsimp only at h1;split at h1;rotate_left
 .cases h1
 rename_i l ho;rcases aa h1 with⟨hrd,h2⟩|⟨_,h2⟩;rotate_left
 .cases h2
 obtain⟨hst,hpe⟩:=vP hrd;have z:=m.ext.bG _ _ G;have ho':(aq C).ob.get (s.au+1)=Z (.lp (uZ l)):=by rw[aE,show C.ob.get (s.au+1)=Z (.lp l)from ho];rfl
 obtain⟨x,hx,hr⟩:=(m.rel.box _ _ z).2.2 _ ho';cases hr with
 |lp _ L' q1 q2 q4 q5 q6 q8 q9=>
 have hfl:C.fl<=s.au+1:=by have h0:C.fl=s.fl:=m.fl;rw[h0];exact eN ZW
 obtain⟨LU,Oa⟩:=m.rel.setObj (w':=w'.putObj (w.heap.size+1) (.loop {L' with state:=.exhausted})) z ho' rfl hfl (x':=.loop {L' with state:=.exhausted}) (U5:=.lp (uZ {l with st:=.exhausted})) (.lp _ _ rfl q2 q4 q5 q6 q8 q9)
  World.putObj_size (λb' hb'=>World.putObj_heap_other hb') (World.putObj_heap_same (m.rel.box _ _ z).2.1) rfl rfl
 refine⟨Y,w'.putObj (w.heap.size+1) (.loop {L' with state:=.exhausted}),?_,?_⟩
 .have:=run_endLoop (P:=E.T.E.P) hx (by rw[q1];show l.st≠.busy;rw[hst];simp);rw[this];rw[q2];show Result.ok l.sw _=_;rw[hpe]
 have hfo:fe [] fr (cQ ow fr) C.dr s.au:=yD hn (dst:=Y) rfl m.owd s.au lU;refine .inr ⟨.oK,_,_,g',.oK,h2,qw ow fr,?_,?_,⟨λk v _ hk=>hfo.tm k v (λh=>by cases h) hk,?_⟩⟩;rotate_left;rotate_left
 .obtain ⟨c,d,q1,q2⟩:=hfo.df;exact⟨_::c,d,by show _::(cQ ow fr).df=_;rw[show(cQ ow fr).df=c++d from q1];rfl,q2⟩
 .have hf2:cg g2 (bh fr) a W2:=hf.ext he hs.bf;have WE:cg g' (bh (cQ ow fr)) a w':=lO hf2 m;have hf4:=WE.ext Oa m.rel.bf;exact⟨hf4.size,.cons (.mark _ _ (m.ext.bG _ _ R)) hf4.df,hf4.tm⟩
 .have hn1:s.au<bg:=by omega
  have hl1:=hU s (.wE:sj S) hn1;have hl2:=hU (cJ s (.wE:sj S)) (.lp lv) A;have F:aq {C with ob:=C.ob.set aA (Nat.succ s.au) (.lp {l with st:=.exhausted})}={aq C with ob:=(aq C).ob.set aA (s.au+1) (cz (.lp {l with st:=.exhausted}))}:=eK C _ _ C.wr;refine⟨by rw[F];exact LU,(he.Eb s.lo).trans ((show mz s.lo s.fl g2 _ g' w' from m.ext).trans ?_),m.fl,m.lo,eO (by show s.au<=s.au+1+1;omega) m.au,λo ho=>m.rU o ho,λo ho hno=>?_,λo ho=>m.Ey o ho⟩
  .have:=Oa.Eb s.lo;rw[show(aq C).fl=s.fl from m.fl]at this;exact this
  .have e1:o≠Nat.succ s.au:=by omega
   show(C.ob.set aA (Nat.succ s.au) _).get o=_;rw[Tr.cT _ _ _ _ _ e1,m.same o (by show o<s.au+1+1;omega) hno,hl2.same o (by show o<s.au+1;omega) (λhm=>hno (m.rU o hm)),hl1.same o ho (λhm=>hno (m.rU o hm))]
end
section
def pX(E:fA S)(call:gm S):Prop:=
 ∀(id:Nat)(ops:Array Oper){ω:Type}(kp:bI S->V S->aW S->O ω)(k:bI S->aW S->O ω)(r:ω)(fr:bI S)(s:aW S),
  TN E fr s ops.toList (tG ops.toList)=W->
  rE E call ops.toList (tG ops.toList) (ops.toList.zipIdx.map λp=>(p.2,p.1)) kp k (Nat.succ (Nat.mul 2 (bU ops.toList))) 0 fr s=Z r->fr.n<=bg->
  ∀{g:Gh}{a:Act}{w:World},cg g (bh fr) a w->aU g (aq s) w->∀{Q:Exit->Act->World->Prop},
  (∀fr' s' g' a' w',k fr' s'=Z r->fr'.n=fr.n->cg g' (bh fr') a' w'->eC s g w s' g' w'->fe (ops.toList.filterMap (·.dst)) fr fr' s'.dr s.au->Q .normal a' w')->
  (∀fr' t s' g' a' v w',kp fr' t s'=Z r->fr'.n=fr.n->cg g' (bh fr') a' w'->eC s g w s' g' w'->fe (ops.toList.filterMap (·.dst)) fr fr' s'.dr s.au->aC g' w' (low t) v->Q (.panic [{v,recovered:=J}]) a' w')->
  ∀rr:O Nat,(rr≠Y->KM (.region id ops W)=W)->(Code.region id ops W).wpIn (WR rr) 0 E.T.E.P Q a w
def nW{s:aW S}:∀{cs:L Ck}{l:L (V S)}{x:fH S.A cs}{fz ow:L Nat},iE cs=W->eV s cs l=Z (x,fz,ow)->ow=[]
 |[],[],x,fz,ow,_,h=>by simp only[eV,aV,bq]at h;exact h.2.2.symm
 | .dat t::cs,v::l,x,fz,ow,a,h=>by
  simp only[eV]at h;split at h
  .rename_i d a1 e h1 a2 f b c;simp only[aV,bq]at h;obtain⟨_,_,rfl⟩:=h;have:=nW (cs:=cs) (by simpa[iE]using a) c;subst this;simp only[kD]at b;split at b
   .simp only[aV,bq]at b;rw[<-b.2.2];rfl
   .cases b
  .cases h
 | .own _::_,_,_,_,_,a,_=>by simp[iE]at a
 | .iJ ..::_,_,_,_,_,a,_=>by simp[iE]at a
 | .nil _::_,_,_,_,_,a,_=>by simp[iE]at a
 | .ptr _::_,_,_,_,_,a,_=>by simp[iE]at a
 |[],_::_,_,_,_,_,h=>by simp[eV]at h
 | .dat _::_,[],_,_,_,_,h=>by simp[eV]at h
def zg:∀rv:Rv,iE (Ee rv)=W
 |[]=>rfl
 |_::rv=>zg rv
def Hh(fr:bI S)(c:Operand)(b:Bool):(fr.rm c b).n=fr.n:=by
 unfold bI.rm;split
 .rename_i k;cases Nat.blt k fr.n<;>rfl
 .rfl
variable {s:aW S}{w:World}{fr:bI S}{a:Act}{c:Code}{b:Bool}{r k o:Nat}{rr:Option Nat}{P:Program}{Q:Exit->Act->World->Prop}{E:fA S}
def Cx{g:Gh}{c:Operand}(hn:fr.n<=bg)(hf:cg g (bh fr) a w)(i:a.eval c=.bool b):cg g (bh (fr.rm c b)) a w:=by
 unfold bI.rm;split
 .rename_i k;cases l:Nat.blt k fr.n with
  |false=>exact hf
  |true=>
   have e:k<fr.n:=eN l;refine⟨hf.size,hf.df,λj t d=>?_⟩;simp only[cn]at d;rw[bF,bI.ie _ _ _ _ (gN e hn)]at d;by_cases f:j=k
   .subst f;rw[aY rfl]at d;simp only[dG,aV]at d;subst d;have h:j<a.tmps.size:=by rw[hf.size];exact e
    have:a.tmps[j]?=Z (.bool b):=by have:=i;simp only[Act.eval,RL,nT h,Aq]at this;rw[nT h,this]
    exact⟨_,this,.kb b⟩
   .rw[bK f]at d;exact hf.tm j t (by rw[bF];exact d)
 .exact hf
def N0(hn:fr.n<=bg)(c:Operand)(b:Bool)(dr:L Nat)(au:Nat):fe (Oq c) fr (fr.rm c b) dr au:=by
 unfold bI.rm;split
 .rename_i k;cases d:Nat.blt k fr.n with|false=>exact fe.refl _ _ _ _|true=>have a:k<fr.n:=eN d;refine⟨λj v e f=>.inl ?_,uO.refl _ _⟩;simp only[cn];rw[bI.ie _ _ _ _ (gN a hn),bK (by simpa[Oq]using e)];exact f
 .exact fe.refl _ _ _ _
def QJ{ω:Type}{e:Bool}{x y:O ω}{r:ω}(h:EG e x y=Z r):y=Z r∧(e=W->x=Z r):=by
 unfold EG at h;cases e with
 |false=>exact⟨h,λh=>by cases h⟩
 |true=>
  simp only[cn]at h;split at h
  .rename_i a;exact⟨h,λ_=>a.trans h⟩
  .cases h
def nK(ds:L Nat):∀sh:Sh,Bq ds (KL sh)=W
 |[]=>rfl
 |(_,.one _)::l=>nK ds l
 |(_,.box _)::l=>by have:=nK ds l;simp only[KL,Bq,BM,dF]at this ⊢;exact this
 |(_,.hid _)::l=>by have:=nK ds l;simp only[KL,Bq,BM,dF]at this ⊢;exact this
def iP{s:aW S}{fr:bI S}{k o r:Nat}(l:fr.get k=Z (.sh o r)):∀{sh:Sh}{ps:L Pk}{bs:L Nat}{vs:L (V S)}{p:O Nat}{x:fj S.A ps}{fz ow f:L Nat},jF sh=ps->sq fr sh bs=Z vs->dL s ps vs p=Z (x,fz,ow,f)->k∈Ja sh->o∈ow
 |[],_,_,_,_,_,_,_,_,_,_,_,a=>by simp[Ja]at a
 |(j,.one c)::sh,ps,bs,vs,p,x,fz,ow,f,d,h1,h2,a=>by
  simp only[sq]at h1;split at h1;rotate_left
  .cases h1
  rename_i v q u g;simp only[aV]at h1;subst h1
  replace d:Pk.one c::jF sh=ps:=d
  subst d;simp only[dL]at h2;split at h2;rotate_left
  .cases h2
  rename_i y a1 z A a2 B w h i;simp only[aV,bq]at h2;obtain⟨_,_,rfl,_⟩:=h2;cases c with
  |dat t=>exact gp _ (iP l rfl g i a)
  |iJ n j t=>exact gp _ (iP l rfl g i a)
  |nil e=>exact gp _ (iP l rfl g i a)
  |ptr t=>exact gp _ (iP l rfl g i a)
  |own e=>
   simp only[Ja]at a;rcases ej.1 a with rfl|a
   .rw[l]at u;cases u;simp only[kD]at h;split at h
    .rcases aa h with⟨_,h⟩|⟨_,h⟩
     .split at h
      .simp only[aV,bq]at h;obtain⟨_,_,rfl⟩:=h;simp
      .cases h
     .cases h
    .cases h
   .exact gp _ (iP l rfl g i a)
 |(j,.box m)::sh,ps,[],vs,p,x,fz,ow,f,d,h1,h2,a=>by simp[sq]at h1
 |(j,.box m)::sh,ps,b::bs,vs,p,x,fz,ow,f,d,h1,h2,a=>by
  simp only[sq]at h1;split at h1;rotate_left
  .cases h1
  rename_i q g;simp only[aV]at h1;subst h1
  replace d:Pk.box m::jF sh=ps:=d
  subst d;simp only[dL]at h2;split at h2;rotate_left
  .cases h2
  rcases aa h2 with⟨_,h2⟩|⟨_,h2⟩;rotate_left
  .cases h2
  split at h2;rotate_left
  .cases h2
  split at h2;rotate_left
  .cases h2
  rename_i i;simp only[aV,bq]at h2;obtain⟨_,_,rfl,_⟩:=h2;exact gp _ (iP l rfl g i a)
 |(j,.hid m)::sh,ps,[],vs,p,x,fz,ow,f,d,h1,h2,a=>by simp[sq]at h1
 |(j,.hid m)::sh,ps,b::bs,vs,Y,x,fz,ow,f,d,h1,h2,a=>by
  replace d:Pk.hid m::jF sh=ps:=d
  subst d;cases vs<;>simp[dL]at h2
 |(j,.hid m)::sh,ps,b::bs,vs,Z C,x,fz,ow,f,d,h1,h2,a=>by
  simp only[sq]at h1
  replace d:Pk.hid m::jF sh=ps:=d
  subst d;simp only[dL]at h2;rcases aa h2 with⟨_,h2⟩|⟨_,h2⟩;rotate_left
  .cases h2
  split at h2;rotate_left
  .cases h2
  split at h2;rotate_left
  .cases h2
  rename_i i;simp only[aV,bq]at h2;obtain⟨_,_,rfl,_⟩:=h2;exact gp _ (iP l rfl h1 i a)
def lP{ds:L Nat}{k:Nat}:∀{sh:Sh},k∈TD ds sh->k∈Ja sh
 |[],h=>h
 |(j,.one (.own e))::sh,h=>by
  simp only[TD]at h;simp only[Ja,ej];rcases Bool.eq_false_or_eq_true (ds.contains j)with a|a
  .rw[a]at h;exact .inr (lP h)
  .rw[a]at h;rcases ej.1 h with rfl|h
   .exact .inl rfl
   .exact .inr (lP h)
 |(j,.one (.dat t))::sh,h=>lP (sh:=sh) h
 |(j,.one (.iJ ..))::sh,h=>lP (sh:=sh) h
 |(j,.one (.nil _))::sh,h=>lP (sh:=sh) h
 |(j,.one (.ptr _))::sh,h=>lP (sh:=sh) h
 |(j,.box b)::sh,h=>lP (sh:=sh) h
 |(j,.hid b)::sh,h=>lP (sh:=sh) h
def Sr{c:aW S}{sh:Sh}{bs ow:L Nat}{x:fj S.A (jF sh)}(h:nV sh bs fr s=Z (x,c,ow))(d:k∈Ja sh)(e:fr.get k=Z (.sh o r)):o∈ow:=by
 unfold nV at h;split at h
 .cases h
 rename_i i a;split at h
 .cases h
 rename_i j l f g b;split at h
 .cases h
 rcases aa h with⟨_,h2⟩|⟨_,h2⟩
 .simp only[aV,bq]at h2;obtain⟨_,_,rfl⟩:=h2;exact iP e rfl a b d
 .cases h2
def DI(rr:O Nat)(P:Program)(c:Code)(Q:Exit->Act->World->Prop)(a:Act)(w:World):Prop:=
 ∀(b:Frame)(k:L Item)(cs:L Frame),b.roundOf=rr->∃e a' w',Q e a' w'∧Xx rr P (lone (b.atR a (.code c::.inLoop c::k)) cs w) b k cs e a' w'
def Gi(h:DI rr P c Q a w):(Code.loop c).wpIn (WR rr) 0 P Q a w:=λb k g f _ _=>
 let ⟨e,i,j,l,d⟩:=h b k g f
 ⟨e,i,j,l,.of_steps (gU.2 (.one stepR_loop)) d⟩
def rj(h:c.wpIn (WR rr) 0 P (Exit.then (DI rr P c Q) Q) a w):DI rr P c Q a w:=by
 intro b k o i;obtain⟨e,j,m,g,d⟩:=h b (.inLoop c::k) o i trivial (ID _);cases e with
 |normal=>obtain⟨p,q,r,n,f⟩:=g b k o i;exact⟨p,q,r,n,.of_steps (gU.2 ((gU.1 d).trans (.one stepR_inLoop))) f⟩
 |exit id=>exact⟨_,j,m,g,.pass (x:=.inLoop c) rfl (λ_ _=>.inl (by simp)) d⟩
 |goto l=>exact⟨_,j,m,g,.pass (x:=.inLoop c) rfl (λ_ _=>.inl (by simp)) d⟩
 |ret=>exact⟨_,j,m,g,.pass (x:=.inLoop c) rfl (λ_ _=>.inl (by simp)) d⟩
 |panic s=>exact⟨_,j,m,g,.pass (x:=.inLoop c) rfl (λ_ _=>.inl (by simp)) d⟩
 |outgrown=>exact⟨_,j,m,g,.pass (x:=.inLoop c) rfl (λ_ _=>.inl (by simp)) d⟩
def LC(I:Act->World->Prop)(μ:Act->World->Nat)(round:∀a w,I a w->c.wpIn (WR rr) 0 P (Exit.then (λa' w'=>I a' w'∧μ a' w'<μ a w) Q) a w) :
  ∀(m:Nat)(a:Act)(w:World),μ a w<=m->I a w->DI rr P c Q a w:=by
 intro m
 induction m with
 |zero=>
  intro a w f d;refine rj (wpIn_mono (round a w d) λe a' w' b=>?_);cases e with|normal=>have:=b.2;omega|_=>exact b
 |succ m g=>
  intro a w f d;refine rj (wpIn_mono (round a w d) λe a' w' b=>?_);cases e with|normal=>exact g a' w' (by have:=b.2;omega) b.1|_=>exact b
def uh{a:Bool}(h:(a&&b)=W):a=W∧b=W:=yB.1 h
def Nw{id:Nat}{ops:Array Oper}{d:Bool}(h:KM (.region id ops d)=W):∀o∈ops.toList,∀c,o.op≠.defer c:=by intro o a c b;simp only[KM,dU]at h;have:=h o a;rw[b]at this;cases this
def LN(hE:eA E)(rv:Rv){b:Code}{ev:{ω:Type}->(uB S->bI S->aW S->O ω)->bI S->aW S->O ω}
  (hev:∀{ω:Type}{Q:uB S->bI S->aW S->O ω}{r:ω}{fr:bI S}{s:aW S},ev Q fr s=Z r->fr.n<=bg->s.lo<=s.au->∀{g:Gh}{a:Act}{w:World},cg g (bh fr) a w->aU g (aq s) w->b.wpIn (WR rr) 0 E.T.E.P (FZ (eo b++rv.map (·.1)) fr s g w Q r) a w)
  {ω:Type} {sh:Sh} {pts:L Pt} {al:L (Nat×Nat)} {Q:uB S->bI S->aW S->O ω} {r:ω} {fr:bI S} {s:aW S} (h:SY E rv ev sh pts al (eo b++rv.map (·.1)) (tn (jA b)) Q fr s=Z r) (hn:fr.n<=bg) (hlo:s.lo<=s.au) {g:Gh} {a:Act} {w:World} (hf:cg g (bh fr) a w) (hs:aU g (aq s) w) :
  b.wpIn (WR rr) 0 E.T.E.P (FZ (eo b++rv.map (·.1)) fr s g w Q r) a w:=by
 unfold SY at h;split at h
 .cases h
 rename_i X ZJ;split at h
 .cases h
 rename_i x0 A ow hpk;rcases aa h with⟨hb,h2⟩|⟨_,h2⟩;rotate_left
 .cases h2
 clear h;rw[dI,dI]at hb;obtain⟨⟨Fx,u⟩,Ti⟩:=hb;rw[dI,dI]at u;obtain⟨u,Tp,aaa⟩:=u;obtain⟨o,n,c⟩:=oz h2;clear h2;generalize hds:(eo b++rv.map (·.1))++(TD (eo b++rv.map (·.1)) sh++al.map (·.1))=ds at *
 obtain⟨bl0,Me⟩:=qn hf hs ZJ;have Ht:∀d∈ds,d<bg:=λd hd=>by rw[dU]at Ti;exact gN (eN (Ti d hd)) hn
 have Qg:∀p∈al,p.1<bg:=λp hp=>Ht _ (by rw[<-hds];exact gp _ (gp _ (sr.2 ⟨p,hp,rfl⟩)));have Qf:∀k∈al.map (·.1),k∈ds:=λk hk=>by rw[<-hds];exact gp _ (gp _ hk)
 obtain⟨g1,EN,xZ,bl1,l⟩:=jl hE.sg hf hs Me hpk;have Mb:=Dv (fr:=fr) hf hs Ht l;have ZA:A.au<=bg:=l.rel.au;have Tm:(bX ds ow X fr A).1.n<=bg:=hn;have fix:∀{i:bI S},fe ds fr i (ow++A.dr) s.au->fe (eo b++rv.map (·.1)) fr i (ow++A.dr) s.au:=by
  intro i hfo;refine⟨λk v hk hv=>?_,hfo.df⟩;by_cases rY:k∈ds
  .right
   rw[<-hds]at rY;rcases dy.1 rY with rY|rY
   .exact absurd rY hk
   .rcases dy.1 rY with rY|rY
    .unfold WY at u;rw[dU]at u;have h1:=u k rY;split at h1
     .rename_i o' r' ho';rw[hv]at ho';cases ho';have:=Sr hpk (lP rY) hv;simp[bQ,cS,this]
     .cases h1
    .obtain ⟨p,hp,rfl⟩:=sr.1 rY;obtain⟨o1,r1,rfl,this⟩:=Km aaa hp hv;simp[bQ,cS,this]
  .exact hfo.tm k v rY hv
 have Tq:U2 a w al:=uz hf hs Tp;have hbase:tW sh X (bX ds ow X fr A).1 (bX ds ow X fr A).2 s g w x0 a _ w EN xZ bl1:=Mb;unfold By at n;split at n
 .cases n
 rename_i aae ue JB;obtain⟨gh,hh0,Qc⟩:=hbase.head Tm JB;have hh:=hh0.kC Qg Tq;generalize kC ue al aae=DW at hh n;have ZU:DW.n=fr.n:=hh.n;have Wy:ue.lo<=ue.au:=by have h1:ue.lo=s.lo:=hh.lo.trans l.lo;have h2:=hh.au;have h3:(bX ds ow X fr A).2.au=A.au:=rfl;have:=l.au;omega
 refine wpIn_mono (hev n (by rw[ZU];exact hn) Wy hh.fr hh.rel) λe Kp m hq=>?_;rcases hq with hF|⟨ex,KQ,s2,g2,h1,h2,h3,h4,h5,h6⟩
 .exact hF.elim
 replace h6:fe ds DW KQ s2.dr ue.au:=h6.mono (λk hk=>by rw[<-hds];exact dH _ hk) (λ_ h=>h)
 rcases aa h2 with⟨ZY,h2⟩|⟨_,h2⟩;rotate_left
 .cases h2
 have Ma:s2.fl=s.fl:=h5.fl.trans (hh.fl.trans l.fl);have hmk:∀{K:Gh},(∀o b,g2.bG o=Z b->K.bG o=Z b)->Marks A.au s.fl (bX ds ow X fr A) KQ K m:=λ{K}hq=>by have:=wQ h5.rel ZY;rw[Ma]at this;exact this.mono h4 hq
 have next:∀{F:Sh}{y:fj S.A (jF F)}{G s3:aW S}{K:Gh}{KN:L Nat},eC ue gh w G K m->(∀o b,g2.bG o=Z b->K.bG o=Z b)->cg K (bh KQ) Kp m->fe ds DW KQ G.dr ue.au->nV F X KQ G=Z (y,s3,KN)->
   KT A.au X s3.wr=W->KN.all (λo=>Nat.ble A.au o)=W->s3.dr.all (λo=>Nat.ble A.au o)=W->
   ∃z f H I,tW F X (bX ds ow X fr A).1 (bX ds ow X fr A).2 s g w y Kp z m f H I∧∀b,K.bf b->z.bf b:=by
  intro F y G s3 K KN k1 k0 k2 k3 k4 k5 k6 k7;obtain⟨g3,f,H,I,Ww⟩:=jl hE.sg (bl0:=bl1) k2 k1.rel ⟨hbase.DX.1,λj o b q1 q2=>k1.ext.bG o b (hh.le.bG o b (hbase.DX.2 j o b q1 q2))⟩ k4;obtain⟨z,Hv,nB⟩:=FT Qf Ht (λb hb=>⟨by have:=(l.KR b hb).2.1;rw[l.au];exact this,(l.KR b hb).2.2.1⟩) ZA (by rw[l.au];exact hlo) (λo M=>(l.Sq o M).2.1) (λo b hb=>⟨by rw[l.au];exact hs.lt hb,λhm=>by rw[l.XI o hm]at hb;cases hb⟩) Fx l.lo l.fl Qc hh k1 k2 k3 h3 (hmk k0) Ww k5 k6 k7;exact⟨z,f,H,I,Hv,λb hb=>by rw[nB];exact Ww.ext.bf b hb⟩
 have N:∀{F:Sh}{y:fj S.A (jF F)}{z:Gh}{f:L Value}{H:L eX}{I:L Nat}{i:bI S}{B:aW S},Bq ds F=W->tW F X (bX ds ow X fr A).1 (bX ds ow X fr A).2 s g w y Kp z m f H I->jx F X y (bX ds ow X fr A).1 (bX ds ow X fr A).2=Z (i,B)->
   ∃gy,cg gy (bh i) Kp m∧(∀b,z.bf b->gy.bf b)∧eC s g w {B with wr:=A.ob.iD (eY (cS ow A.au))++(X++A.wr),dr:=ow++A.dr} gy m∧fe ds fr i (ow++A.dr) s.au∧i.n=fr.n:=by
  intro F y z f H I i B Zy k1 k2;obtain⟨gy,k3,k4⟩:=k1.head Tm k2;obtain⟨k5,k6,k7⟩:=Kg (ex:=[]) (λ_ h=>by cases h) hs Ht l Zy k4 k3;exact⟨gy,k3.fr,k3.le.bf,k5,k6,k7⟩
 cases h1 with
 |oK=>
  rcases aa h2 with⟨Tt,h2⟩|⟨_,h2⟩;rotate_left
  .cases h2
  simp only[r6]at h2;split at h2
  .rename_i y s3 KN C;rcases aa h2 with⟨P,h2⟩|⟨_,h2⟩;rotate_left
   .cases h2
   simp only[dI]at P;obtain⟨z,f,H,I,k1,_⟩:=next h5 (λ_ _ h=>h) h4 h6 C P.1 P.2.1 P.2.2
   cases h2;simp only at c;split at c
   .cases c
   .rename_i i B Qa;obtain⟨gy,l1,_,l2,l3,l4⟩:=N Fx k1 Qa;obtain⟨m1,m2,m3,m4⟩:=j4 (s:=B) l2.rel Qg (uz h4 h5.rel Tt) l1;exact .inr ⟨.oK,kC B al i,_,gy,.oK,c,m2.trans l4,m1,l2,fix ⟨λk v hk hv=>by rw[m4 k λhm=>hk (Qf k hm)];exact l3.tm k v hk hv,by rw[m3];exact l3.df⟩⟩
  .cases h2
 |ext j=>
  rcases aa h2 with⟨hj,h2⟩|⟨_,h2⟩;rotate_left
  .cases h2
  simp only[r6]at h2;split at h2
  .rename_i y s3 KN C;rcases aa h2 with⟨P,h2⟩|⟨_,h2⟩;rotate_left
   .cases h2
   simp only[dI]at P;obtain⟨z,f,H,I,k1,_⟩:=next h5 (λ_ _ h=>h) h4 h6 C P.1 P.2.1 P.2.2
   cases h2;simp only at c;split at c
   .cases c
   .rename_i i B Qa;obtain⟨gy,l1,_,l2,l3,l4⟩:=N Fx k1 Qa;rw[dI]at hj;have WB:j∈tn (jA b):=by simpa using hj.1
    obtain⟨m1,m2,m3,m4⟩:=j4 (s:=B) l2.rel Qg (uz h4 h5.rel hj.2) l1;exact .inr ⟨.ext j,kC B al i,_,gy,.ext j,vV WB c,m2.trans l4,m1,l2,fix ⟨λk v hk hv=>by rw[m4 k λhm=>hk (Qf k hm)];exact l3.tm k v hk hv,by rw[m3];exact l3.df⟩⟩
  .cases h2
 |ret=>
  simp only at h2;split at h2
  .cases h2
  rename_i vs hvs;split at h2;rotate_left
  .cases h2
  rename_i r' fz YU PY;split at h2;rotate_left
  .cases h2
  rename_i G hfz;simp only[r6]at h2;split at h2
  .rename_i y s3 KN C;rcases aa h2 with⟨P,h2⟩|⟨_,h2⟩;rotate_left
   .cases h2
   simp only[dI]at P;obtain⟨abL,A1,m8⟩:=GA h4 hvs;obtain⟨p1,p2,p3⟩:=fy hE.sg h5.rel PY m8;obtain⟨g3,LU,R,LZ⟩:=dV fz h5.rel (cP hE.sg _ hfz) p1;have LW:YU=[]:=nW (zg rv) PY;obtain⟨T6,AB,_⟩:=p3 g3 (aq G) fz LU R LZ (λo M=>M) (λo M=>by rw[LW]at M;cases M);obtain⟨f1,f2,f3,f4,f5,f6,f7⟩:=dY hfz;have s5:eC s2 g2 m G g3 m:=⟨LU,R.Eb _,f1,f2,wY f3.symm,f4,λo _ M=>f5 o M,λo M=>by rw[f7];exact M⟩;have WE:cg g3 (bh KQ) Kp m:=h4.ext R h5.rel.bf;obtain⟨z,f,H,I,k1,k2⟩:=next (h5.trans s5) R.bG WE (by rw[f7];exact h6) C P.1 P.2.1 P.2.2
   cases h2;simp only at c;split at c
   .cases c
   .rename_i i B Qa;obtain⟨gy,l1,l0,l2,l3,l4⟩:=N (nK ds sh) k1 Qa;obtain⟨m1,m2,m3⟩:=sM (g:=gy) (w:=m) (a:=Kp) (fr:=i) AB (λb hb=>l0 b (k2 b hb)) A1 (by rw[l4];exact hn) l1;have hdf:∀(rv:Rv)(r:fH S.A (Ee rv))(fr:bI S),(uR rv r fr).df=fr.df:=by
     intro rv
     induction rv with|nil=>intro _ _;rfl|cons q rv ih=>intro r fr;obtain⟨k,t⟩:=q;exact ih _ _
    refine .inr ⟨.ret,_,_,gy,.ret,c,m2.trans l4,m1,l2,⟨λk v hk hv=>?_,by rw[hdf];exact l3.df⟩⟩;rw[m3 k (λhm=>hk (gp _ hm))];exact(fix l3).tm k v hk hv
  .cases h2
 |dP t v hv=>
  rcases aa h2 with⟨hpn,h2⟩|⟨_,h2⟩;rotate_left
  .cases h2
  split at h2;rotate_left
  .cases h2
  rename_i r' fz YU PY;split at h2;rotate_left
  .cases h2
  rename_i G hfz;simp only[r6]at h2;split at h2;rotate_left
  .cases h2
  rename_i y s3 KN C;rcases aa h2 with⟨P,h2⟩|⟨_,h2⟩;rotate_left
  .cases h2
  simp only[dI]at P;have m8:PW (aC g2 m) (aX [t]) [v]:=⟨rfl,λj t' v' q1 q2=>by
   cases j with
   |zero=>simp[aX]at q1 q2;subst q1;subst q2;exact hv
   |succ j=>simp[aX]at q1⟩
  obtain⟨p1,p2,p3⟩:=fy hE.sg h5.rel PY m8;obtain⟨g3,LU,R,LZ⟩:=dV fz h5.rel (cP hE.sg _ hfz) p1;have LW:YU=[]:=nW (cs:=[.dat S.pt]) rfl PY;obtain⟨T6,AB,_⟩:=p3 g3 (aq G) fz LU R LZ (λo M=>M) (λo M=>by rw[LW]at M;cases M);obtain⟨f1,f2,f3,f4,f5,f6,f7⟩:=dY hfz;have s5:eC s2 g2 m G g3 m:=⟨LU,R.Eb _,f1,f2,wY f3.symm,f4,λo _ M=>f5 o M,λo M=>by rw[f7];exact M⟩;have WE:cg g3 (bh KQ) Kp m:=h4.ext R h5.rel.bf;obtain⟨z,f,H,I,k1,k2⟩:=next (h5.trans s5) R.bG WE (by rw[f7];exact h6) C P.1 P.2.1 P.2.2
  cases h2;simp only at c;rcases aa c with⟨_,c⟩|⟨_,c⟩;rotate_left
  .cases c
  split at c
  .cases c
  .rename_i i B Qa;obtain⟨gy,l1,l0,l2,l3,l4⟩:=N (nK ds sh) k1 Qa;refine .inr ⟨.dP (.ty S.pt r'.1),i,_,gy,.dP _ v ?_,c,l4,l1,l2,fix l3⟩;cases AB with|@dat _ _ x h v vs al hd hr=>exact nG (hd.le λb hb=>l0 b (k2 b hb))
def nC(hE:eA E){call:gm S}(u6:fL E.T.E.P call)(adD:pX E call)(n:Nat)(fid:FuncId)(rv:Rv):∀(c:Code)(i:Nat){ω:Type}{Q:uB S->bI S->aW S->O ω}{r:ω}{fr:bI S}{s:aW S},
  rZ E call n fid rv c i Q fr s=Z r->(rr≠Y->KM c=W)->fr.n<=bg->s.lo<=s.au->∀{g:Gh}{a:Act}{w:World},cg g (bh fr) a w->aU g (aq s) w->c.wpIn (WR rr) 0 E.T.E.P (FZ (eo c++rv.map (·.1)) fr s g w Q r) a w:=by
 intro c
 induction c with
 |region id ops draw=>
  intro i ω Q r fr s h A hn hlo g a w hf hs;cases draw with
  |true=>
   simp only[rZ]at h;rcases aa h with⟨hb,h⟩|⟨_,h⟩;rotate_left
   .cases h
   refine adD id ops _ _ r fr s hb h hn hf hs (λf R X H G h1 h2 h3 h4 h5=>.inr ⟨.oK,f,R,X,.oK,h1,h2,h3,h4,h5.mono (λk z=>dH _ z) (λ_ h=>h)⟩)
    (λf t R X H v G h1 h2 h3 h4 h6 h5=>.inr ⟨.dP t,f,R,X,.dP t v h5,h1,h2,h3,h4,h6.mono (λk z=>dH _ z) (λ_ h=>h)⟩) rr A
  |false=>
   refine RI ?_;simp only[rZ]at h;have:=zY hE u6 (Q:=FZ (eo (.region id ops J)++rv.map (·.1)) fr s g w Q r) (rr:=rr) (λhr=>Nw (A hr)) ops.toList 0 rfl hn h hf hs
    (λf R X H G h1 h2 h3 h4 h5=>.inr ⟨.oK,f,R,X,.oK,h1,h2,h3,h4,h5.mono (λk z=>dH _ z) (λ_ h=>h)⟩)
    (λf t R X H v G h1 h2 h3 h4 h6 h5=>.inr ⟨.dP t,f,R,X,.dP t v h5,h1,h2,h3,h4,h6.mono (λk z=>dH _ z) (λ_ h=>h)⟩)
   rw[List.range_eq_range'];simpa using this
 |seq x y ihx ihy=>
  intro i ω Q r fr s h A hn hlo g a w hf hs;simp only[rZ]at h;have hds:∀k∈(eo x++rv.map (·.1))++(eo y++rv.map (·.1)),k∈eo (.seq x y)++rv.map (·.1):=by
   intro k z;simp only[eo,dy]at z ⊢;rcases z with(h|h)|(h|h)
   .exact .inl (.inl h)
   .exact .inr h
   .exact .inl (.inr h)
   .exact .inr h
  refine wpIn_seq (wpIn_mono (ihx i h (λhr=>(uh (A hr)).1) hn hlo hf hs) λe H G hq=>?_);rcases hq with hF|⟨ex,f,R,X,h1,h2,h3,h4,h5,h6⟩
  .exact hF.elim
  .cases h1 with
   |oK=>have:=ihy i h2 (λhr=>(uh (A hr)).2) (by rw[h3];exact hn) (by rw[h5.lo];exact eO hlo h5.au) h4 h5.rel;exact wpIn_mono this λe a w hq=>(FZ.mono h3 h5 h6 hq).ds hds
   |ext j=>exact .inr ⟨_,f,R,X,.ext j,h2,h3,h4,h5,h6.mono (λk z=>hds k (dH _ z)) (λ_ h=>h)⟩
   |ret=>exact .inr ⟨_,f,R,X,.ret,h2,h3,h4,h5,h6.mono (λk z=>hds k (dH _ z)) (λ_ h=>h)⟩
   |dP t v F=>exact .inr ⟨_,f,R,X,.dP t v F,h2,h3,h4,h5,h6.mono (λk z=>hds k (dH _ z)) (λ_ h=>h)⟩
 |cond c x y ihx ihy=>
  intro i ω Q r fr s h A hn hlo g a w hf hs;have cnd:∀{ω:Type}{Q:uB S->bI S->aW S->O ω}{r:ω}{fr:bI S}{s:aW S},J2 c (rZ E call n fid rv x i) (rZ E call n fid rv y i) Q fr s=Z r->fr.n<=bg->s.lo<=s.au->∀{g:Gh}{a:Act}{w:World},cg g (bh fr) a w->aU g (aq s) w->
    (Code.cond c x y).wpIn (WR rr) 0 E.T.E.P (FZ (eo (.cond c x y)++rv.map (·.1)) fr s g w Q r) a w:=by
   clear h hn hlo hf hs;intro ω Q r fr s h hn hlo g a w hf hs;have hx:∀k∈eo x++rv.map (·.1),k∈eo (.cond c x y)++rv.map (·.1):=by intro k z;simp only[eo,dy]at z ⊢;exact z.imp (λh=>.inr (.inl h)) id
   have hy:∀k∈eo y++rv.map (·.1),k∈eo (.cond c x y)++rv.map (·.1):=by intro k z;simp only[eo,dy]at z ⊢;exact z.imp (λh=>.inr (.inr h)) id
   have N:∀k∈Oq c,k∈eo (.cond c x y)++rv.map (·.1):=by intro k z;simp only[eo,dy];exact .inl (.inl z)
   have tru:a.eval c=.bool W->rZ E call n fid rv x i Q (fr.rm c W) s=Z r->x.wpIn (WR rr) 0 E.T.E.P (FZ (eo (.cond c x y)++rv.map (·.1)) fr s g w Q r) a w:=λF h=>
    wpIn_mono (ihx i h (λhr=>(uh (A hr)).1) (by rw[Hh];exact hn) hlo (Cx hn hf F) hs) λe a w hq=>(FZ.mono (Hh _ _ _) (eC.refl hs) (N0 hn c W _ _) hq).ds λk z=>(dy.1 z).elim (N k) (hx k)
   have fls:a.eval c=.bool J->rZ E call n fid rv y i Q (fr.rm c J) s=Z r->y.wpIn (WR rr) 0 E.T.E.P (FZ (eo (.cond c x y)++rv.map (·.1)) fr s g w Q r) a w:=λF h=>
    wpIn_mono (ihy i h (λhr=>(uh (A hr)).2) (by rw[Hh];exact hn) hlo (Cx hn hf F) hs) λe a w hq=>(FZ.mono (Hh _ _ _) (eC.refl hs) (N0 hn c J _ _) hq).ds λk z=>(dy.1 z).elim (N k) (hy k)
   unfold J2 at h;split at h
   .rename_i N;have:=bE hf (bP N);simp only[low]at this;generalize F:a.eval c=v at this;cases this;exact wpIn_cond_true F (wpIn_mono (ihx i h (λhr=>(uh (A hr)).1) hn hlo hf hs) λe a w hq=>hq.ds hx)
   .rename_i N;have:=bE hf (bP N);simp only[low]at this;generalize F:a.eval c=v at this;cases this;exact wpIn_cond_false F (wpIn_mono (ihy i h (λhr=>(uh (A hr)).2) hn hlo hf hs) λe a w hq=>hq.ds hy)
   .rename_i e N;have:=bE hf (bP N);simp only[low]at this;generalize F:a.eval c=v at this;obtain⟨h2,h1⟩:=QJ h;cases this with|ub _ b hb=>exact wpIn_cond_split F (λhbt=>tru (by rw[F,hbt]) (h1 (hb hbt))) (λhbf=>fls (by rw[F,hbf]) h2)
   .rename_i t _ _ _ N;split at h
    .rename_i b hb;obtain⟨p,e,hp⟩:=kg hb;have F:=hG e hp (bE hf (bP N));refine wpIn_cond_split F (λhbt=>?_) (λhbf=>?_)
     .rcases nL h with⟨_,h⟩|⟨h0,_⟩
      .exact tru (by rw[F,hbt]) h
      .rw[hbt]at h0;cases h0
     .rcases nL h with⟨h0,_⟩|⟨_,h⟩
      .rw[hbf]at h0;cases h0
      .exact fls (by rw[F,hbf]) h
    .cases h
   .cases h
  simp only[rZ]at h;split at h
  .exact cnd h hn hlo hf hs
  .exact LN hE rv (ev:=λ{_}Q fr s=>J2 c (rZ E call n fid rv x i) (rZ E call n fid rv y i) Q fr s) cnd h hn hlo hf hs
 |block j b ih=>
  intro i ω Q r fr s h A hn hlo g a w hf hs;simp only[rZ]at h;refine wpIn_block (wpIn_mono (ih j h A hn hlo hf hs) λe H G hq=>?_);rcases hq with hF|⟨ex,f,R,X,h1,h2,h3,h4,h5,h6⟩
  .exact hF.elim
  .cases h1 with
   |oK=>exact .inr ⟨_,f,R,X,.oK,h2,h3,h4,h5,h6⟩
   |ext k=>
    simp only[JK]at h2;simp only[Exit.inBlock];split at h2
    .rename_i hji;rw[aY (beq_iff'.1 hji)];exact .inr ⟨_,f,R,X,.oK,h2,h3,h4,h5,h6⟩
    .rename_i hji;rw[bK (λe=>by subst e;rw[E4]at hji;cases hji)];exact .inr ⟨_,f,R,X,.ext k,h2,h3,h4,h5,h6⟩
   |ret=>exact .inr ⟨_,f,R,X,.ret,h2,h3,h4,h5,h6⟩
   |dP t v F=>exact .inr ⟨_,f,R,X,.dP t v F,h2,h3,h4,h5,h6⟩
 |loop b ih=>
  intro i ω Q r fr s h A hn hlo g a w hf hs;simp only[rZ]at h;split at h
  .cases h
  rename_i sh pts al pl hsh;refine Gi ?_;clear hsh
  induction pl generalizing fr s g a w with
  |succ pl ihp=>
   simp only[NQ]at h;refine rj (wpIn_mono (ih i h A hn hlo hf hs) λe H G hq=>?_);rcases hq with hF|⟨ex,f,R,X,h1,h2,h3,h4,h5,h6⟩
   .exact hF.elim
   have hds:∀k∈eo b++rv.map (·.1),k∈eo (.loop b)++rv.map (·.1):=λk z=>z;cases h1 with
   |oK=>intro b1 k1 cs1 ZC;simp only[Mj]at h2;have ihq:=ihp (fr:=f) (s:=R) (g:=X) (a:=H) (w:=G) (h:=h2) (hn:=by rw[h3];exact hn) (hlo:=by rw[h5.lo];exact eO hlo h5.au) (hf:=h4) (hs:=h5.rel);obtain⟨e,a2,w2,hq,Mf⟩:=ihq b1 k1 cs1 ZC;refine⟨e,a2,w2,?_,Mf⟩;exact(FZ.mono h3 h5 h6 hq).ds λk z=>(dy.1 z).elim (hds k) id
   |ext j=>exact .inr ⟨_,f,R,X,.ext j,h2,h3,h4,h5,h6⟩
   |ret=>exact .inr ⟨_,f,R,X,.ret,h2,h3,h4,h5,h6⟩
   |dP t v F=>exact .inr ⟨_,f,R,X,.dP t v F,h2,h3,h4,h5,h6⟩
  |zero=>
  simp only[NQ]at h
  suffices main:∀{fr:bI S}{s:aW S}{g:Gh}{a:Act}{w:World},SH E n rv (rZ E call n fid rv b i) sh pts al (eo b++rv.map (·.1)) (tn (jA b)) Q fr s=Z r->fr.n<=bg->s.lo<=s.au->cg g (bh fr) a w->aU g (aq s) w->DI rr E.T.E.P b (FZ (eo (.loop b)++rv.map (·.1)) fr s g w Q r) a w by
   unfold abZ at h;rcases aa h with⟨_,h⟩|⟨_,h⟩;rotate_left
   .exact main h hn hlo hf hs
   rcases aa h with⟨hnb,h⟩|⟨_,h⟩;rotate_left
   .cases h
   have hnb:s.au<bg:=eN hnb;have hg:∀k,(cJ s .Cj).ob.get k=if k=s.au then Z .Cj else s.ob.get k:=λk=>Tr.aO _ _ _ _ hnb
   have Eo:aU g (aq (cJ s .Cj)) w:=by
    refine⟨hnb,λo ho=>hs.af o (Nat.le_of_succ_le ho),λo b hb=>?_,λo e x hx=>?_,hs.bf,hs.jv⟩
    .obtain ⟨k1,k2,k3⟩:=hs.box o b hb;refine⟨k1,k2,λob Ep=>k3 ob ?_⟩;have:=hs.lt hb;rw[aE,hg,bK (by have h:o<s.au:=this;omega)]at Ep;rw[aE];exact Ep
    .obtain ⟨k1,k2⟩:=hs.arr o e x hx;refine⟨k1,λob Ep=>k2 ob ?_⟩;have:=hs.lt' hx;rw[aE,hg,bK (by have h:o<s.au:=this;omega)]at Ep;rw[aE];exact Ep
   have s5:eC s g w (cJ s .Cj) g w:=by refine⟨Eo,mz.refl _ _ _ _,rfl,rfl,zC _,λ_ h=>h,λo ho _=>?_,λ_ h=>h⟩;rw[hg,bK (by omega)]
   intro b1 k1 cs1 ZC;obtain⟨e,a2,w2,hq,Mf⟩:=main (fr:={fr with df:=.marks s.au::fr.df}) (s:=cJ s .Cj) h hn (Nat.le_succ_of_le hlo) ⟨hf.size,.marks s.au [] .nil (λb hb=>by cases hb) hf.df,hf.tm⟩ Eo b1 k1 cs1 ZC;refine⟨e,a2,w2,?_,Mf⟩;exact(FZ.mono (ds:=[]) (fr:=fr) (qv:={fr with df:=.marks s.au::fr.df}) rfl s5 ⟨λk v _ z=>.inl z,[.marks s.au],fr.df,rfl,.refl _ _⟩ hq).ds λk z=>z
  clear h hn hlo hf hs;intro fr s g a w h hn hlo hf hs;unfold SH at h;split at h
  .cases h
  rename_i bs ZJ;split at h
  .cases h
  rename_i x0 s1 ow hpk;rcases aa h with⟨hb,h2⟩|⟨_,h2⟩;rotate_left
  .cases h2
  clear h;rw[dI,dI]at hb;obtain⟨⟨Fx,FA⟩,Ti⟩:=hb;rw[dI,dI]at FA;obtain⟨FA,Tp,aaa⟩:=FA;obtain⟨o,adq,u⟩:=oz h2;clear h2;generalize hds:(eo b++rv.map (·.1))++(TD (eo b++rv.map (·.1)) sh++al.map (·.1))=ds at *
  obtain⟨bl0,Me⟩:=qn hf hs ZJ;have Ht:∀d∈ds,d<bg:=λd hd=>by rw[dU]at Ti;exact gN (eN (Ti d hd)) hn
  have Qg:∀p∈al,p.1<bg:=λp hp=>Ht _ (by rw[<-hds];exact gp _ (gp _ (sr.2 ⟨p,hp,rfl⟩)));have Qf:∀k∈al.map (·.1),k∈ds:=λk z=>by rw[<-hds];exact gp _ (gp _ z)
  obtain⟨g1,EN,xZ,bl1,I⟩:=jl hE.sg hf hs Me hpk;have Mb:=Dv (fr:=fr) hf hs Ht I;have ZA:s1.au<=bg:=I.rel.au;have Tm:(bX ds ow bs fr s1).1.n<=bg:=hn;have fix:∀{K:bI S},fe ds fr K (ow++s1.dr) s.au->fe (eo (.loop b)++rv.map (·.1)) fr K (ow++s1.dr) s.au:=by
   intro K hfo;refine⟨λk v z F=>?_,hfo.df⟩;by_cases rY:k∈ds
   .right
    rw[<-hds]at rY;rcases dy.1 rY with rY|rY
    .exact absurd rY z
    .rcases dy.1 rY with rY|rY
     .unfold WY at FA;rw[dU]at FA;have h1:=FA k rY;split at h1
      .rename_i o' r' ho';rw[F]at ho';cases ho';have:=Sr hpk (lP rY) F;simp[bQ,cS,this]
      .cases h1
     .obtain ⟨p,hp,rfl⟩:=sr.1 rY;obtain⟨o1,r1,rfl,this⟩:=Km aaa hp F;simp[bQ,cS,this]
   .exact hfo.tm k v rY F
  let Inv (H:Act) (G:World) (m:Nat):Prop:=U2 H G al∧∃x gb vals als bl,iter (By rv (rZ E call n fid rv b i) sh bs s1.au (tn (jA b)) (bX ds ow bs fr s1) E.pn al) m x=Z o∧tW sh bs (bX ds ow bs fr s1).1 (bX ds ow bs fr s1).2 s g w x H gb G vals als bl
  have Tc:∀(H:Act)(G:World),∃m,(∃k,Inv H G k)->Inv H G m∧∀k,Inv H G k->m<=k:=by
   intro H G;by_cases hex:∃k,Inv H G k
   .obtain ⟨m,hm,hmin⟩:=PN (λk=>Inv H G k) hex;exact⟨m,λ_=>⟨hm,hmin⟩⟩
   .exact ⟨0,λh=>absurd h hex⟩
  obtain⟨M,hM⟩:∃M:Act->World->Nat,∀H G,(∃k,Inv H G k)->Inv H G (M H G)∧∀k,Inv H G k->M H G<=k:=
   ⟨λH G=>Classical.choose (Tc H G),λH G=>Classical.choose_spec (Tc H G)⟩
  refine LC (λH G=>∃k,Inv H G k) M ?_ _ a w (bS _) ⟨n,uz hf hs Tp,x0,_,EN,xZ,bl1,adq,Mb⟩;intro H G hI;obtain⟨⟨Tq,x,gb,vals,als,bl,hit,hbase⟩,hmin⟩:=hM H G hI;obtain⟨m,hm,o',P,zU⟩:=PU hit;unfold By at P;split at P
  .cases P
  rename_i aae ue JB;obtain⟨gh,hh0,Qc⟩:=hbase.head Tm JB;have hh:=hh0.kC Qg Tq;generalize kC ue al aae=DW at hh P;have ZU:DW.n=fr.n:=hh.n;have Wy:ue.lo<=ue.au:=by have h1:ue.lo=s.lo:=hh.lo.trans I.lo;have h2:=hh.au;have h3:(bX ds ow bs fr s1).2.au=s1.au:=rfl;have:=I.au;omega
  refine wpIn_mono (ih i P A (by rw[ZU];exact hn) Wy hh.fr hh.rel) λe Kp C hq=>?_;rcases hq with hF|⟨ex,KQ,s2,g2,h1,h2,h3,h4,h5,h6⟩
  .exact hF.elim
  replace h6:fe ds DW KQ s2.dr ue.au:=h6.mono (λk z=>by rw[<-hds];exact dH _ z) (λ_ h=>h)
  rcases aa h2 with⟨ZY,h2⟩|⟨_,h2⟩;rotate_left
  .cases h2
  have Ma:s2.fl=s.fl:=h5.fl.trans (hh.fl.trans I.fl);have hmk:∀{WQ:Gh},(∀o b,g2.bG o=Z b->WQ.bG o=Z b)->Marks s1.au s.fl (bX ds ow bs fr s1) KQ WQ C:=λ{WQ}hq=>by have:=wQ h5.rel ZY;rw[Ma]at this;exact this.mono h4 hq
  have next:∀{Ec:Sh}{y:fj S.A (jF Ec)}{s2' s3:aW S}{WQ:Gh}{KN:L Nat},eC ue gh G s2' WQ C->(∀o b,g2.bG o=Z b->WQ.bG o=Z b)->cg WQ (bh KQ) Kp C->fe ds DW KQ s2'.dr ue.au->nV Ec bs KQ s2'=Z (y,s3,KN)->
    KT s1.au bs s3.wr=W->KN.all (λo=>Nat.ble s1.au o)=W->s3.dr.all (λo=>Nat.ble s1.au o)=W->
    ∃Qm B se Ke,tW Ec bs (bX ds ow bs fr s1).1 (bX ds ow bs fr s1).2 s g w y Kp Qm C B se Ke∧∀b,WQ.bf b->Qm.bf b:=by
   intro Ec y s2' s3 WQ KN k1 k0 k2 k3 k4 k5 k6 k7;obtain⟨g3,B,se,Ke,Ww⟩:=jl hE.sg (bl0:=bl) k2 k1.rel ⟨hbase.DX.1,λj o b q1 q2=>k1.ext.bG o b (hh.le.bG o b (hbase.DX.2 j o b q1 q2))⟩ k4;obtain⟨Qm,Hv,nB⟩:=FT Qf Ht (λb hb=>⟨by have:=(I.KR b hb).2.1;rw[I.au];exact this,(I.KR b hb).2.2.1⟩) ZA (by rw[I.au];exact hlo) (λo ho=>(I.Sq o ho).2.1) (λo b hb=>⟨by rw[I.au];exact hs.lt hb,λhm=>by rw[I.XI o hm]at hb;cases hb⟩) Fx I.lo I.fl Qc hh k1 k2 k3 h3 (hmk k0) Ww k5 k6 k7;exact⟨Qm,B,se,Ke,Hv,λb hb=>by rw[nB];exact Ww.ext.bf b hb⟩
  have leave:∀{Ec:Sh}{y:fj S.A (jF Ec)}{Qm:Gh}{B:L Value}{se:L eX}{Ke:L Nat}{K:bI S}{Xz:aW S},Bq ds Ec=W->tW Ec bs (bX ds ow bs fr s1).1 (bX ds ow bs fr s1).2 s g w y Kp Qm C B se Ke->jx Ec bs y (bX ds ow bs fr s1).1 (bX ds ow bs fr s1).2=Z (K,Xz)->
    ∃gy,cg gy (bh K) Kp C∧(∀b,Qm.bf b->gy.bf b)∧eC s g w {Xz with wr:=s1.ob.iD (eY (cS ow s1.au))++(bs++s1.wr),dr:=ow++s1.dr} gy C∧fe ds fr K (ow++s1.dr) s.au∧K.n=fr.n:=by
   intro Ec y Qm B se Ke K Xz Zy k1 k2;obtain⟨gy,k3,k4⟩:=k1.head Tm k2;obtain⟨k5,k6,k7⟩:=Kg (ex:=[]) (λ_ h=>by cases h) hs Ht I Zy k4 k3;exact⟨gy,k3.fr,k3.le.bf,k5,k6,k7⟩
  cases h1 with
  |oK=>
   rcases aa h2 with⟨Tt,h2⟩|⟨_,h2⟩;rotate_left
   .cases h2
   simp only[r6]at h2;split at h2
   .rename_i y s3 KN LV;rcases aa h2 with⟨N,h2⟩|⟨_,h2⟩;rotate_left
    .cases h2
    simp only[dI]at N;obtain⟨Qm,B,se,Ke,k1,_⟩:=next h5 (λ_ _ h=>h) h4 h6 LV N.1 N.2.1 N.2.2
    cases h2;rcases zU with⟨y',hy',WC⟩|⟨rfl,hno⟩
    .cases hy';have hIy:Inv Kp C m:=⟨uz h4 h5.rel Tt,y,Qm,B,se,Ke,WC,k1⟩;refine⟨⟨m,hIy⟩,?_⟩;have:=(hM Kp C ⟨m,hIy⟩).2 m hIy;omega
    .exact absurd rfl (hno y)
   .cases h2
  |ext j=>
   rcases aa h2 with⟨hj,h2⟩|⟨_,h2⟩;rotate_left
   .cases h2
   simp only[r6]at h2;split at h2
   .rename_i y s3 KN LV;rcases aa h2 with⟨N,h2⟩|⟨_,h2⟩;rotate_left
    .cases h2
    simp only[dI]at N;obtain⟨Qm,B,se,Ke,k1,_⟩:=next h5 (λ_ _ h=>h) h4 h6 LV N.1 N.2.1 N.2.2
    cases h2;rcases zU with⟨y',hy',WC⟩|⟨rfl,hno⟩
    .cases hy'
    .simp only at u;split at u
     .cases u
     .rename_i K Xz Qa;obtain⟨gy,l1,_,l2,l3,l4⟩:=leave Fx k1 Qa;rw[dI]at hj;have WB:j∈tn (jA b):=by simpa using hj.1
      obtain⟨m1,m2,m3,m4⟩:=j4 (s:=Xz) l2.rel Qg (uz h4 h5.rel hj.2) l1;exact .inr ⟨.ext j,kC Xz al K,_,gy,.ext j,vV WB u,m2.trans l4,m1,l2,fix ⟨λk v z F=>by rw[m4 k λhm=>z (Qf k hm)];exact l3.tm k v z F,by rw[m3];exact l3.df⟩⟩
   .cases h2
  |ret=>
   simp only at h2;split at h2
   .cases h2
   rename_i vs hvs;split at h2;rotate_left
   .cases h2
   rename_i r' fz YU PY;split at h2;rotate_left
   .cases h2
   rename_i s2' hfz;simp only[r6]at h2;split at h2
   .rename_i y s3 KN LV;rcases aa h2 with⟨N,h2⟩|⟨_,h2⟩;rotate_left
    .cases h2
    simp only[dI]at N;obtain⟨abL,A1,m8⟩:=GA h4 hvs;obtain⟨p1,p2,p3⟩:=fy hE.sg h5.rel PY m8;obtain⟨g3,LU,Oa,LZ⟩:=dV fz h5.rel (cP hE.sg _ hfz) p1;have LW:YU=[]:=nW (zg rv) PY;obtain⟨T6,AB,_⟩:=p3 g3 (aq s2') fz LU Oa LZ (λo ho=>ho) (λo ho=>by rw[LW]at ho;cases ho);obtain⟨f1,f2,f3,f4,f5,f6,f7⟩:=dY hfz;have s5:eC s2 g2 C s2' g3 C:=⟨LU,Oa.Eb _,f1,f2,wY f3.symm,f4,λo _ ho=>f5 o ho,λo ho=>by rw[f7];exact ho⟩;have WE:cg g3 (bh KQ) Kp C:=h4.ext Oa h5.rel.bf;obtain⟨Qm,B,se,Ke,k1,k2⟩:=next (h5.trans s5) Oa.bG WE (by rw[f7];exact h6) LV N.1 N.2.1 N.2.2
    cases h2;rcases zU with⟨y',hy',WC⟩|⟨rfl,hno⟩
    .cases hy'
    .simp only at u;split at u
     .cases u
     .rename_i K Xz Qa;obtain⟨gy,l1,l0,l2,l3,l4⟩:=leave (nK ds sh) k1 Qa;obtain⟨m1,m2,m3⟩:=sM (g:=gy) (w:=C) (a:=Kp) (fr:=K) AB (λb hb=>l0 b (k2 b hb)) A1 (by rw[l4];exact hn) l1;have hdf:∀(rv:Rv)(r:fH S.A (Ee rv))(fr:bI S),(uR rv r fr).df=fr.df:=by
       intro rv
       induction rv with|nil=>intro _ _;rfl|cons q rv ih=>intro r fr;obtain⟨k,t⟩:=q;exact ih _ _
      refine .inr ⟨.ret,_,_,gy,.ret,u,m2.trans l4,m1,l2,⟨λk v z F=>?_,by rw[hdf];exact l3.df⟩⟩;rw[m3 k (λhm=>z (gp _ hm))];exact(fix l3).tm k v z F
   .cases h2
  |dP t v F=>
   rcases aa h2 with⟨hpn,h2⟩|⟨_,h2⟩;rotate_left
   .cases h2
   split at h2;rotate_left
   .cases h2
   rename_i r' fz YU PY;split at h2;rotate_left
   .cases h2
   rename_i s2' hfz;simp only[r6]at h2;split at h2;rotate_left
   .cases h2
   rename_i y s3 KN LV;rcases aa h2 with⟨N,h2⟩|⟨_,h2⟩;rotate_left
   .cases h2
   simp only[dI]at N;have m8:PW (aC g2 C) (aX [t]) [v]:=⟨rfl,λj t' v' q1 q2=>by
    cases j with
    |zero=>simp[aX]at q1 q2;subst q1;subst q2;exact F
    |succ j=>simp[aX]at q1⟩
   obtain⟨p1,p2,p3⟩:=fy hE.sg h5.rel PY m8;obtain⟨g3,LU,Oa,LZ⟩:=dV fz h5.rel (cP hE.sg _ hfz) p1;have LW:YU=[]:=nW (cs:=[.dat S.pt]) rfl PY;obtain⟨T6,AB,_⟩:=p3 g3 (aq s2') fz LU Oa LZ (λo ho=>ho) (λo ho=>by rw[LW]at ho;cases ho);obtain⟨f1,f2,f3,f4,f5,f6,f7⟩:=dY hfz;have s5:eC s2 g2 C s2' g3 C:=⟨LU,Oa.Eb _,f1,f2,wY f3.symm,f4,λo _ ho=>f5 o ho,λo ho=>by rw[f7];exact ho⟩;have WE:cg g3 (bh KQ) Kp C:=h4.ext Oa h5.rel.bf;obtain⟨Qm,B,se,Ke,k1,k2⟩:=next (h5.trans s5) Oa.bG WE (by rw[f7];exact h6) LV N.1 N.2.1 N.2.2
   cases h2;rcases zU with⟨y',hy',WC⟩|⟨rfl,hno⟩
   .cases hy'
   .simp only at u;rcases aa u with⟨_,u⟩|⟨_,u⟩;rotate_left
    .cases u
    split at u
    .cases u
    .rename_i K Xz Qa;obtain⟨gy,l1,l0,l2,l3,l4⟩:=leave (nK ds sh) k1 Qa;refine .inr ⟨.dP (.ty S.pt r'.1),K,_,gy,.dP _ v ?_,u,l4,l1,l2,fix l3⟩;cases AB with|@dat _ _ x h v vs al hd hr=>exact nG (hd.le λb hb=>l0 b (k2 b hb))
 |exit j=>intro i ω Q r fr s h A hn hlo g a w hf hs;exact wpIn_exit (.inr ⟨_,fr,s,g,.ext j,h,rfl,hf,eC.refl hs,fe.refl _ _ _ _⟩)
 |ret=>intro i ω Q r fr s h A hn hlo g a w hf hs;exact wpIn_ret (.inr ⟨_,fr,s,g,.ret,h,rfl,hf,eC.refl hs,fe.refl _ _ _ _⟩)
 |skip=>intro i ω Q r fr s h A hn hlo g a w hf hs;exact wpIn_skip (.inr ⟨_,fr,s,g,.oK,h,rfl,hf,eC.refl hs,fe.refl _ _ _ _⟩)
 |label j=>intro i ω Q r fr s h A hn hlo g a w hf hs;exact wpIn_label (.inr ⟨_,fr,s,g,.oK,h,rfl,hf,eC.refl hs,fe.refl _ _ _ _⟩)
 |scope b ih=>
  intro i ω Q r fr s h A hn hlo g a w hf hs;have hr0:rr=Y:=by cases rr with|none=>rfl|some l=>have:=A (by simp);simp[KM]at this
  subst hr0;simp only[rZ]at h;refine wpIn_wide.2 (wp_scope_straight (wp_mono (wpIn_wide.1 (ih i h (λh=>absurd rfl h) hn hlo hf hs)) λe H G hq=>?_));rcases hq with hF|⟨ex,f,R,X,h1,h2⟩
  .exact hF.elim
  .cases h1 with|oK=>exact .inr ⟨_,f,R,X,.oK,h2⟩|ext j=>exact .inr ⟨_,f,R,X,.ext j,h2⟩|ret=>exact .inr ⟨_,f,R,X,.ret,h2⟩|dP t v F=>exact .inr ⟨_,f,R,X,.dP t v F,h2⟩
 |rangeFunc gv ps asg body _ _=>
  intro i ω Q r fr s h A hn hlo g a w hf hs;have hr0:rr=Y:=by cases rr with|none=>rfl|some l=>have:=A (by simp);simp[KM]at this
  subst hr0;exact IF hE u6 n fid rv h hn hf hs
 |_=>intro i ω Q r fr s h;simp[rZ]at h
end
section
def Jj:∀t:T,dc (λ_=>J) t=J:=by
 intro t
 induction t using T.rec (motive_2:=λl=>hY (λ_=>J) l=J)with|fn f a b d g=>simp[dc,d,g]|cE t v e=>simp[dc,e]|agg i e=>simp[dc,e]|fQ i e=>simp[dc,e]|gd c v e=>simp[dc,e]|nil=>rfl|cons a l d h=>simp[hY,d,h]|_=>simp[dc]
def qP(b:eR S){E:fX}(d:MO S E){s:aW S}{fr:bI S}:∀{l:L ResultVar}{vs:L (V S)},jH E s fr l=Z vs->∃p,jI E.E (aq s) (bh fr) l=Z (p,aX vs)∧p
 |[],vs,h=>by simp only[jH,aV]at h;subst h;exact⟨True,rfl,trivial⟩
 | .tmp t::l,vs,h=>by
  simp only[jH]at h;split at h
  .rename_i x r h1 h2;simp only[aV]at h;subst h;obtain⟨p,e,f⟩:=qP b d h2;exact⟨p,by simp only[jI,bF,h1,dG,e,aX],f⟩
  .cases h
 | .cell a t::l,vs,h=>by
  simp only[jH]at h;split at h
  .rename_i i x g j;split at h
   .rename_i c y s' r k h2;rcases aa h with⟨m,h⟩|⟨_,h⟩
    .simp only[aV]at h;subst h;obtain⟨rfl,q,n,o⟩:=Fo b (λu v=>d.row _ _ _ g v) k m;obtain⟨p,e,f⟩:=qP b d h2;exact⟨q∧p,by simp only[jI,g,bF,j,dG,n,e,aX],o,f⟩
    .cases h
   .cases h
  .cases h
def SG:∀l:L (V S),low (An l)=YH (aX l)
 |[]=>rfl
 |[_]=>rfl
 |_::_::_=>rfl
variable {E:fA S}{s s' s0:aW S}{fr:bI S}{g g' g0:Gh}{w w' w0:World}{fn:Func}{call:gm S}{m:Nat}{st:Bool->List Frame}{tmps:Array Value}{R:Ending->World->Prop}
def eC.Eb(hs:aU g (aq s) w)(h:eC {s with lo:=s.au} g w s' g' w'):cr [] s g w {s' with lo:=s.lo} g' w':=by have d:sn g.bf w w':=λb c=>h.ext.heap b (hs.bf b c) (λo _ f=>f.1 c);refine⟨⟨h.rel.au,h.rel.af,h.rel.box,h.rel.arr,h.rel.bf,h.rel.jv⟩,⟨λo b e=>h.ext.bG o b e,λo e x _ k=>h.ext.arr o e x (hs.lt' k) k,h.ext.bf,h.ext.size,h.ext.heap,h.ext.own,h.ext.pN,h.ext.os,h.ext.output⟩,h.fl,rfl,h.au,h.rU,h.same,λt v i _=>?_,λo a=>(by cases a),h.Ey,λo a=>(by cases a)⟩;exact i.on (p:=λ_=>J) ⟨λo b _ e=>h.ext.bG o b e,λo e x _ k=>h.ext.arr o e x (hs.lt' k) k,h.ext.bf⟩ d (Jj t)
def uV(b:eA E){a:Act}(hf:cg g (bh fr) a w)(hs:aU g (aq s) w){l:L (V S)}(h:jH E.T s fr fn.results.toList=Z l) :
  ∃v,(results fn a.tmps).run E.T.E.P w=.ok v w∧aC g w (low (An l)) v:=by
 obtain⟨p,e,c⟩:=qP b.sg b.ty h;obtain⟨v,d,f⟩:=IA b.OZ hf hs e c;exact⟨v,d,by rw[SG];exact f⟩
def cr.trans{s s' b:aW S}{g g' c:Gh}{w w' d:World}(h:cr [] s g w s' g' w')(k:cr [] s' g' w' b c d):cr [] s g w b c d where
 rel:=k.rel
 ext:=h.ext.trans (h.fl▸h.lo▸k.ext)
 fl:=k.fl.trans h.fl
 lo:=k.lo.trans h.lo
 au:=eO h.au k.au
 rU:=λo a=>k.rU o (h.rU o a)
 same:=λo f a=>(k.same o (gN f h.au) a).trans (h.same o f λe=>a (k.rU o e))
 tr:=λt v i e=>k.tr t v (h.tr t v i e) e
 oww:=λo a=>by cases a
 Ey:=λo a=>k.Ey o (h.Ey o a)
 owd:=λo a=>by cases a
def UR(g:Gh)(w:World):O (V S)->FrameMode->Prop
 |none,u=>u=.returning
 |some t,u=>∃v,u=.panicking [{v,recovered:=J}]∧aC g w (low t) v
structure Yb(g:Gh)(s:aW S)(w:World)(pv:Option (V S))(st:Bool->List Frame)(vp:Value):Prop where
 rel:∀g' s' w',eC s g w s' g' w'->aC g' w' (low (abN pv)) vp
 rcv:(pv=Y∧recoverD (st J)=Y∧vp=.nilIface)∨(pv.isSome=W∧recoverD (st J)=Z (vp,st W))
def QRV(s:aW S)(g:Gh)(w:World)(m:Nat)(st:Bool->L Frame){ω:Type}(Q:Bool->uB S->bI S->aW S->O ω)(r:ω)(e:Exit)(a:Act)(cs:L Frame)(w':World):Prop:=
 False∨∃b ex fr' s' g',cs=st b∧M1 g' w' ex e∧Q b ex fr' s'=Z r∧fr'.n=m∧cg g' (bh fr') a w'∧eC s g w s' g' w'
def S0{o:Oper}(h:isRec o=W):o.guard=Y∧∃c,o.op=.call c∧c.callee=.builtin .recover:=by
 unfold isRec at h;split at h
 .rename_i c b a;split at h
  .rename_i d;exact⟨b,c,a,d⟩
  .cases h
 .cases h
def qH(l:eA E)(b:fL E.T.E.P call)(d:pX E call)(n:Nat)(j:FuncId)(rv:Rv)(hlo:s0.lo<=s0.au)(t:m<=bg)(f:Bool)
  (c:Code) (i:Nat) {ω:Type} {Q:Bool->uB S->bI S->aW S->O ω} {r:ω} {fr:bI S} {s:aW S} (h:rZ E call n j rv c i (Q f) fr s=Z r) (hn:fr.n=m) {g:Gh} {a:Act} {w:World} (hs:eC s0 g0 w0 s g w) (hf:cg g (bh fr) a w) :
  c.wpS E.T.E.P (QRV s0 g0 w0 m st Q r) a (st f) w:=by
 refine wpS_of_wp (wp_mono (wpIn_wide.1 (nC (rr:=Y) l b d n j rv c i h (λh=>absurd rfl h) (by omega) ?_ hf hs.rel)) λe u w' o=>?_)
 .have:=hs.au;rw[hs.lo];omega
 rcases o with p|⟨q,k,s',g',h1,h2,h3,h4,h5,h6⟩
 .exact p.elim
 .exact .inr ⟨f,q,k,s',g',rfl,h1,h2,h3.trans hn,h4,hs.trans h5⟩
def Qs(hE:eA E)(f:fL E.T.E.P call)(p:pX E call)(n:Nat)(pv:O (V S))(A:FuncId)(rv:Rv)(hlo:s0.lo<=s0.au)(hm:m<=bg){vp:Value}
  (H:Yb g0 s0 w0 pv st vp):∀(c:Code)(i:Nat){ω:Type}{Q:Bool->uB S->bI S->aW S->O ω}{r:ω}{fr:bI S}{s:aW S},evR E call n pv A rv c i Q fr s=Z r->fr.n=m->
  ∀{g:Gh}{a:Act}{w:World},eC s0 g0 w0 s g w->cg g (bh fr) a w->c.wpS E.T.E.P (QRV s0 g0 w0 m st Q r) a (st J) w:=by
 intro c
 induction c with
 |seq x y ihx ihy=>
  intro i ω Q r fr s h X g a w B K;simp only[evR]at h;refine wpS_seq λb k hb hr=>?_;obtain⟨e,M,cs',w',hq,z⟩:=ihx i h X B K b k hb hr;refine⟨e,M,cs',w',?_,z⟩;rcases hq with hF|⟨d,ex,u,s',g',h0,h1,h2,h3,h4,h5⟩
  .exact hF.elim
  .cases h1 with|oK=>subst h0;exact qH hE f p n A rv hlo hm d y i h2 h3 h5 h4|ext j=>exact .inr ⟨d,_,u,s',g',h0,.ext j,h2,h3,h4,h5⟩|ret=>exact .inr ⟨d,_,u,s',g',h0,.ret,h2,h3,h4,h5⟩|dP t v hv=>exact .inr ⟨d,_,u,s',g',h0,.dP t v hv,h2,h3,h4,h5⟩
 |region id q draw=>
  intro i ω Q r fr s h X g a w B K;cases draw with
  |true=>exact qH hE f p n A rv hlo hm J _ i h X B K
  |false=>
   simp only[evR]at h;split at h;rotate_left
   .cases h
   rename_i o l C;rcases aa h with⟨hr,h2⟩|⟨_,h2⟩;rotate_left
   .exact qH hE f p n A rv hlo hm J _ i h2 X B K
   rcases aa h2 with⟨hd,h3⟩|⟨_,h3⟩;rotate_left
   .cases h3
   obtain⟨hg,c,hop,Hu⟩:=S0 hr;rw[<-C]at h3;have ho:q[0]?=Z o:=by have:=oI (λl=>l[0]?) C;simpa using this
   have hsz:q.size=l.length+1:=by have:=oI List.length C;simpa using this
   have hw:Region.wanted o (yielded q a.tmps)=W:=by simp[Region.wanted,hg]
   have I:(execOp a.eval o).run E.T.E.P w=.ok .recover w:=by simp only[execOp,hop,resolve,Hu,Sem.run_bind,Sem.run_pure,Result.andThen_ok,invoke];simp[builtin]
   have AB:=H.rel _ _ _ B;obtain⟨k1,k2⟩:=qV K hd (by omega) AB;have key:∃d,d=pv.isSome∧recoverD (st J)=(if d then Z (vp,st W)else Y)∧(d=J->vp=.nilIface):=by
    rcases H.rcv with⟨e1,e2,e3⟩|⟨e1,e2⟩
    .exact ⟨J,by rw[e1];rfl,by simpa using e2,λ_=>e3⟩
    .exact ⟨W,e1.symm,by simpa using e2,λh=>by cases h⟩
   obtain⟨d,aim,hrd,LY⟩:=key;rw[<-aim]at h3;have hwp:tM Y E.T.E.P q (λe M w'=>QRV s0 g0 w0 m st Q r e M (st d) w') (List.range' 1 l.length) (a.put o.dst vp) w:=by
    refine zY hE f (rr:=Y) (λh=>absurd rfl h) l 1 (by rw[C];rfl) (by rw[k2];omega) h3 k1 B.rel (λu s' g' M w' q1 q2 q3 q4 _=>.inr ⟨d,.oK,u,s',g',rfl,.oK,q1,by omega,q3,B.trans q4⟩)
     (λu t s' g' M v w' q1 q2 q3 q4 _ q5=>.inr ⟨d,.dP t,u,s',g',rfl,.dP t v q5,q1,by omega,q3,B.trans q4⟩)
   intro b k hb N;have F:List.range q.size=0::List.range' 1 l.length:=by rw[List.range_eq_range',hsz,List.range'_succ]
   have hgo:=stepG_op (P:=E.T.E.P) (b:=b) (k:=k) (cs:=st J) (w:=w) (rest:=List.range' 1 l.length) ho hw;have ai9:∀v,(b.at a (.inRegion q (0::List.range' 1 l.length)::k)).finish v=b.at (a.put o.dst v) (.inRegion q (List.range' 1 l.length)::k):=by intro v;rw[Frame.finish_at,ho];rfl
   have hk:(b.at a (.inRegion q (0::List.range' 1 l.length)::k)).kind=.deferred:=hb;have G:=tryRecover_deferred hk (st J);obtain⟨e,M,w',hq,R⟩:=lg _ _ _ hwp b k (st d) N;have z:=(arrivesIn_iff (λ_ _=>stepsIn_wide) N).1 R;rw[Frame.atR_of_none N]at z;refine⟨e,M,st d,w',hq,.of_steps (.one step_region) ?_⟩;rw[F];refine .of_steps (.one (step_lone_go ?_)) z;rw[hgo,<-ai9];simp only[Frame.at]at G ⊢;rw[hrd]at G;cases d with|true=>simp[stepG.apply,I,G]|false=>have:=LY rfl;subst this;simp[stepG.apply,I,G]
 |_=>intro i ω Q r fr s h X g a w B K;exact qH hE f p n A rv hlo hm J _ i h X B K
def Il:FrameMode->Value
 | .panicking (p::_)=>p.v
 |_=>.nilIface
def Rj:FrameMode->FrameMode
 | .panicking (p::_)=>.panicking [{v:=p.v,recovered:=W}]
 |m=>m
def JP(hE:eA E)(P:fL E.T.E.P call)(Q:pX E call)(n:Nat){A:O (V S)}{d:qE S}{ω:Type}{k:Bool->aW S->O ω}{r:ω}(h:Oi E call n A d s k=Z r)
  {g:Gh} {w:World} (hs:aU g (aq s) w) {e:Deferred} (hd:tU g w (iU d) e) {u:FrameMode} (a:UR g w A u) :
  u≠.run∧((∃b w',e.target=.collected b∧(Instr.takeDeferred b).run E.T.E.P w=.ok [] w'∧∃s',k J s'=Z r∧UR g w' A u∧cr [] s g w s' g w')∨∃fv cap f args,e.target=.fn fv cap∧(invoke e.target e.args).run E.T.E.P w=.ok (.enter f args) w∧CallsD E.T.E.P f args u w λ
   | .returned _,K,w'=>∃i s' g',k i s'=Z r∧UR g' w' (bif i then Y else A) (settle K)∧cr [] s g w s' g' w'
   | .panicked _,_,_=>False
   | .outgrown,_,_=>False):=by
 have hrun:u≠.run:=by cases A with|none=>rw[show u=.returning from a];simp|some t=>obtain⟨v,rfl,_⟩:=a;simp
 refine⟨hrun,?_⟩;unfold Oi at h;split at h;rotate_left
 .rename_i o
  left
  simp only[iU]at hd;cases hd with
  |mark _ b hb=>
  split at h;rotate_left
  .cases h
  rename_i ho;rcases aa h with⟨R,h2⟩|⟨_,h2⟩;rotate_left
  .cases h2
  rw[dI]at R;have ho':(aq s).ob.get o=Z .wE:=by rw[aE,ho];rfl
  obtain⟨x,hx,hr⟩:=(hs.box o b hb).2.2 _ ho';cases hr with
  |wE=>
  obtain⟨h3,he⟩:=hs.age (w':=w.putObj b (.deferred Y)) hb ho' rfl (eN R.1) World.putObj_size (λb' X=>World.putObj_heap_other X) rfl rfl;have hlt:o<bg:=eN R.2;have B:o+1<2 ^ aA:=by unfold aA;unfold bg at hlt;omega
  have p:cr [] s g w {s with ob:=s.ob.del aA o,wr:=o::s.wr} g (w.putObj b (.deferred Y)):=by
   refine cr.j5 hs (h3.Tw rfl λk=>?_) he rfl rfl (bS _) ⟨λ_ h=>gl _ h,λk _ hk=>?_,rfl⟩
   .show (Tr.map cz (s.ob.del aA o)).get k=((aq s).ob.del aA o).get k;rw[Tr.get_map,Tr.oV _ _ _ _ B,Tr.oV _ _ _ _ B,aE];split<;>rfl
   .exact (Tr.oV _ _ _ _ B).trans (bK λe=>hk (by rw[e];exact dX))
  refine⟨b,_,rfl,run_takeDeferred hx,_,h2,?_,p⟩;cases A with|none=>exact a|some t=>obtain⟨v,a,ht⟩:=a;exact⟨v,a,p.tr _ _ ht (j6 _)⟩
 .simp only[iU]at hd;cases hd
 .cases h
 rename_i fv args
 right
 split at h
 .cases h
 rename_i f C Hu;split at h
 .cases h
 rename_i fn hfn;split at h
 .cases h
 rename_i c hc;rcases aa h with⟨hb,h2⟩|⟨_,h2⟩;rotate_left
 .cases h2
 clear h;rw[yB]at hb;have q:=o3 Hu;unfold ux at q;split at q;rotate_left
 .cases q
 rename_i f' first cap Jw
 simp only[aV,bq]at q;obtain⟨rfl,H⟩:=q;simp only[iU]at hd;cases hd with
 |call _ _ fvn xa xc F h3 h4 h5=>
 rw[Jw]at h3;cases h3 with
 |fn _ _ _ _ _ l1 l2 r1 r2=>
 have hfs:=hE.OZ.Od _ _ hfn;have Mc:jZ E.T.E.P f':=⟨fn,hfs,by rw[hc];rfl,hE.name _ _ hfn⟩;refine⟨_,_,f',xa++F++xc,rfl,?_,?_⟩
 .simp only[invoke];exact uf Mc _
 have m8:PW (aC g w) (aX C) (xa++F++xc).toList:=by rw[<-H];simp only[Ej];exact PW.append (PW.append ⟨by simpa using l1,λj x y h1 h2=>r1 j x y h1 (by simpa using h2)⟩ ⟨by simpa using h4,λj x y h1 h2=>h5 j x y h1 (by simpa using h2)⟩) ⟨by simpa using l2,λj x y h1 h2=>r2 j x y h1 (by simpa using h2)⟩
 have Hv:C.length<=fn.ntmps:=by have:=eN hb.1;rwa [bA]at this
 have nB:fn.ntmps<bg:=eN hb.2;have Qb:=qt (n:=fn.ntmps) nB Hv m8;have hs0:aU g (aq {s with lo:=s.au}) w:=⟨hs.au,hs.af,hs.box,hs.arr,hs.bf,hs.jv⟩;refine callsD_of_wpS hfs hc λI M hcu=>?_
 let st:Bool->L Frame:=λi=>(if i then{I with mode:=Rj u}else{I with mode:=u})::M
 have aic:st J=I::M:=by show{I with mode:=u}::M=I::M;rw[<-hcu]
 have aio:Yb g {s with lo:=s.au} w A st (Il u):=by
  cases A with
  |none=>
   have a:u=.returning:=a;refine⟨λg' s' w' _=>?_,.inl ⟨rfl,?_,?_⟩⟩
   .show aC g' w' (low (.dat (.lit .nilIface))) (Il u);simp only[Il,a];exact .sym _ _ (.lit _)
   .show recoverD ({I with mode:=u}::M)=Y;simp only[recoverD,a]
   .simp only[Il,a]
  |some t=>
   obtain⟨v,a,ht⟩:=a;refine⟨λg' s' w' p=>?_,.inr ⟨rfl,?_⟩⟩
   .show aC g' w' (low t) (Il u);simp only[Il,a];exact(eC.Eb hs p).tr _ _ ht (j6 _)
   .show recoverD ({I with mode:=u}::M)=Z (Il u,{I with mode:=Rj u}::M);simp only[recoverD,a,Il,Rj]
 have hw:=Qs hE P Q n A f' _ (s0:={s with lo:=s.au}) (g0:=g) (w0:=w) (bS _) (m:=fn.ntmps) (BL nB) (st:=st) aio c 0 h2 rfl (eC.refl hs0) Qb;rw[aic]at hw;intro b kk X hro;obtain⟨e,a',cs',w',hq,Mf⟩:=hw b kk X hro;refine⟨e,a',cs',w',?_,Mf⟩;rcases hq with hF|⟨i,ex,fr',s',g',k0,k1,G,k3,k4,k5⟩
 .exact hF.elim
 have p:=eC.Eb hs k5;dsimp only at G;split at G;rotate_left
 .cases G
 rename_i hdf;have N:a'.defers=[]:=by have:=k4.df;rw[show(bh fr').df=[]from by simp only[bh,hdf,E2]]at this;generalize a'.defers=m at this;cases this;rfl
 have sB:∃K,cs'={I with mode:=K}::M∧UR g' w' (bif i then Y else A) (settle K):=by
  cases i with
  |false=>
   refine⟨u,k0,?_⟩;cases A with|none=>have a:u=.returning:=a;rw[a];rfl|some t=>obtain⟨v,a,ht⟩:=a;rw[a];exact⟨v,rfl,p.tr _ _ ht (j6 _)⟩
  |true=>
   refine⟨Rj u,k0,?_⟩;show settle (Rj u)=.returning;cases A with|none=>have a:u=.returning:=a;rw[a];rfl|some t=>obtain⟨v,a,ht⟩:=a;rw[a];rfl
 obtain⟨K,hcs,hur⟩:=sB;have fin:(match jH E.T s' fr' fn.results.toList with|some _=>k i {s' with lo:=s.lo}|none=>Y)=Z r->∃v,(results fn a'.tmps).run E.T.E.P w'=.ok v w'∧
   ∃i s' g',k i s'=Z r∧UR g' w' (bif i then Y else A) (settle K)∧cr [] s g w s' g' w':=by
  intro G;split at G;rotate_left
  .cases G
  rename_i l hr;obtain⟨v,hv,_⟩:=uV hE k4 k5.rel hr;exact⟨v,hv,i,_,g',G,hur,p⟩
 cases k1 with
 |oK=>obtain⟨v,hv,h⟩:=fin G;exact⟨N,K,hcs,v,hv,h⟩
 |ret=>obtain⟨v,hv,h⟩:=fin G;exact⟨N,K,hcs,v,hv,h⟩
 |ext j=>cases G
 |dP t v hv=>cases G
def zP{P:Program}{fn:Func}{tmps:Array Value}{R:Ending->World->Prop}{ds:L Deferred}{u:FrameMode}(t:u≠.run){s:aW S}{g:Gh}{o:Nat}(f:s.fl<=o)(i:s.ob.get o=Y) :
  ∀(bs:L Nat)(w:World),aU g (aq s) w->bs.Nodup->(∀b∈bs,br g o b∧w.heap[b]?=Z (.deferred (Z [])))->(∀w',cr [] s g w s g w'->kP P fn tmps R ds u w')->
   kP P fn tmps R (bs.map (λb=>{target:=.collected b,args:=#[]})++ds) u w
 |[],w,d,_,_,n=>n w (cr.refl d)
 |b::bs,w,d,m,p,n=>by
  obtain⟨j,v⟩:=p b dX;have x:=(d.nX j).1;have k:aU g (aq s) (w.putObj b (.deferred Y)):=by
   have:=d.step (I:=g.bf) (X:=λc=>c=b) (w':=w.putObj b (.deferred Y)) (λ_ h=>h) (λ_ h=>.inl h) (λc a=>by rw[World.putObj_size];exact d.bf c a) (by rw[World.putObj_size];exact bS _)
    (λc _ a=>World.putObj_heap_other a) (λy c a q=>by
     subst a;have:=d.jv y o c q j;subst this;exact⟨by rw[aE,i];rfl,j.1⟩) (λc a=>by subst a;exact j.1)
   exact this
  have z:Ext s.fl g w g (w.putObj b (.deferred Y)):=
   ⟨λ_ _ h=>h,λ_ _ _ h=>h,λ_ h=>h,by rw[World.putObj_size];exact bS _,λc _ m=>World.putObj_heap_other (λe=>m o f (e▸j)),λ_ _ h=>.inl h,λ_ h=>.inl h,rfl,rfl⟩
  have l:cr [] s g w s g (w.putObj b (.deferred Y)):=cr.j5 d k z rfl rfl (bS _) ⟨λ_ h=>h,λ_ _ _=>rfl,rfl⟩;refine⟨t,.inl ⟨b,_,rfl,run_takeDeferred v,zP t f i bs _ k (Eh.1 m).2 (λc a=>⟨(p c (gl _ a)).1,?_⟩) λw' h=>n w' (l.trans h)⟩⟩;have r:c≠b:=λe=>(Eh.1 m).1 (e▸a);rw[World.putObj_heap_other r];exact(p c (gl _ a)).2
def JO(hE:eA E)(z:fL E.T.E.P call)(A:pX E call)(n:Nat){ω:Type}{k:O (V S)->aW S->O ω}{r:ω}
  (hk:∀m s' g' w' u,k m s'=Z r->UR g' w' m u->cr [] s0 g0 w0 s' g' w'->kP E.T.E.P fn tmps R [] u w'):∀(l:L (qE S))(m:O (V S))(s:aW S),z4 E call n l m s k=Z r->
  ∀(g:Gh)(w:World)(ds:L Deferred)(u:FrameMode),ei g w (l.map iU) ds->UR g w m u->cr [] s0 g0 w0 s g w->kP E.T.E.P fn tmps R ds u w:=by
 intro l
 induction l with
 |nil=>intro m s h g w ds u B p a;cases B;exact hk m s g w u h p a
 |cons d l ih=>
  intro m s h g w ds u B p a;simp only[jh]at B;generalize C:iU d=x at B;cases B with
  |jc xs i=>
   cases d with
   |jc=>cases h
   |_=>cases C
  |marks o bs hn hbs i=>
   cases d with
   |marks o'=>
    cases C;simp only[z4,Oi]at h;split at h;rotate_left
    .cases h
    rename_i ho;rcases aa h with⟨F,h2⟩|⟨_,h2⟩;rotate_left
    .cases h2
    rw[dI]at F;have hlt:o<bg:=eN F.2;have N:o+1<2 ^ aA:=by unfold aA;unfold bg at hlt;omega
    have q:=a.rel;have ho':(aq s).ob.get o=Z .Cj:=by rw[aE,ho];rfl
    have P:∀b∈bs,br g o b∧w.heap[b]?=Z (.deferred (Z [])):=λb G=>by
     obtain⟨n,c,hr⟩:=hbs b G;cases hr with
     |sh _ _ _ _ sz _ C=>
     rcases(q.arr o b _ C).2 _ ho' with⟨fz,_,_,h,_⟩|⟨_,_,_,_,_,_,h,_⟩|⟨_,_,_,h,_⟩|h|⟨_,h1,h2,h3,h4⟩
     .cases fz<;>cases h
     .cases h
     .cases h
     .cases h
     .exact ⟨⟨h3,.inr ⟨b,_,_,C,h1,rfl,h2⟩⟩,h4⟩
    have H:∀k,(s.ob.del aA o).get k=if k=o then Y else s.ob.get k:=λk=>Tr.oV _ _ _ _ N
    have Q:aU g (aq {s with ob:=s.ob.del aA o,wr:=o::s.wr}) w:=by
     have y:∀k ob,(aq {s with ob:=s.ob.del aA o,wr:=o::s.wr}).ob.get k=Z ob->(aq s).ob.get k=Z ob:=by
      intro k ob h;rw[aE]at h ⊢;have h:((s.ob.del aA o).get k).map cz=Z ob:=h;rw[H]at h;split at h
      .cases h
      .exact h
     refine⟨q.au,q.af,λk b h=>?_,λk e x h=>?_,q.bf,q.jv⟩
     .obtain ⟨I,K,j⟩:=q.box k b h;exact⟨I,K,λob M=>j ob (y k ob M)⟩
     .obtain ⟨I,K⟩:=q.arr k e x h;exact⟨I,λob M=>K ob (y k ob M)⟩
    have haD:cr [] s g w {s with ob:=s.ob.del aA o,wr:=o::s.wr} g w:=
     cr.j5 q Q (Ext.refl _ _ _) rfl rfl (bS _) ⟨λ_ h=>gl _ h,λk _ hk=>(H k).trans (bK λe=>hk (by rw[e];exact dX)),rfl⟩
    have X:u≠.run:=by cases m with|none=>rw[show u=.returning from p];simp|some t=>obtain⟨v,rfl,_⟩:=p;simp
    refine zP X (s:={s with ob:=s.ob.del aA o,wr:=o::s.wr}) (g:=g) (o:=o) (eN F.1) ((H o).trans (aY rfl)) bs w Q hn P λw' j=>?_;have k4:=haD.trans j;refine ih _ _ h2 g w' _ u (i.imp (λt v i=>k4.tr t v i (j6 _)) λo b G=>k4.ext.bG o b G) ?_ (a.trans k4);cases m with|none=>exact p|some t=>obtain⟨v,p,i⟩:=p;exact⟨v,p,k4.tr _ _ i (j6 _)⟩
   |_=>cases C
  | @cons _ e _ ds B i=>
  subst C;simp only[z4]at h;obtain⟨h1,h⟩:=JP hE z A n h a.rel B p;rcases h with⟨b,w',h2,h3,s',I,K,j⟩|⟨fv,cap,f,args,h2,h3,h4⟩
  .exact ⟨h1,.inl ⟨b,w',h2,h3,ih _ s' I g w' ds u (i.imp (λt v i=>j.tr t v i (j6 _)) λo b G=>j.ext.bG o b G) K (a.trans j)⟩⟩
  refine⟨h1,.inr ⟨fv,cap,f,args,h2,h3,h4.mono λe u' w' he=>?_⟩⟩;cases e with
  |returned v=>obtain⟨rec,s',g',I,K,j⟩:=he;refine ih _ s' I g' w' ds (settle u') (i.imp (λt v i=>j.tr t v i (j6 _)) λo b G=>j.ext.bG o b G) K (a.trans j)
  |panicked ch=>exact he.elim
  |outgrown=>exact he.elim
def tg(y:eA E)(d:fL E.T.E.P call)(f:pX E call)(n:Nat){ω:Type}{k kp:V S->aW S->O ω}{r:ω}{ex:uB S}
  (h:Oh E call n fn.results.toList k kp ex fr s=Z r) {g:Gh} {w:World} {e:Exit} {a:Act} (z:M1 g w ex e) (hf:cg g (bh fr) a w) (hs:aU g (aq s) w)
  (A:∀t s' g' v w',k t s'=Z r->aC g' w' (low t) v->cr [] s g w s' g' w'->R (.returned v) w')
  (o:∀t s' g' v w',kp t s'=Z r->aC g' w' (low t) v->cr [] s g w s' g' w'->R (.panicked [{v,recovered:=J}]) w'):X5 E.T.E.P fn R e a w:=by
 have j:∀(m:O (V S))(u:FrameMode),z4 E call n fr.df m s (JN E.T fn.results.toList fr k kp)=Z r->UR g w m u->kP E.T.E.P fn a.tmps R a.defers u w:=by
  intro m u h c;refine JO y d f n (s0:=s) (g0:=g) (w0:=w) (λm s' g' w' u h c b=>?_) fr.df m s h g w a.defers u hf.df c (cr.refl hs);have p:cg g' (bh fr) a w':=lO (ow:=[]) hf b;cases m with
  |none=>
   have c:u=.returning:=c;subst c;simp only[JN]at h;split at h;rotate_left
   .cases h
   rename_i l B;obtain⟨v,q,x⟩:=uV y p b.rel B;exact⟨v,q,A _ _ g' v w' h x b⟩
  |some t=>obtain⟨v,c,x⟩:=c;subst c;exact o t s' g' v w' h x b
 cases z with
 |oK=>exact j Y .returning h rfl
 |ret=>exact j Y .returning h rfl
 |ext i=>cases h
 |dP t v q=>exact j (Z t) _ h ⟨v,rfl,q⟩
end
section
def zw{g:Gh}{w:World}{n:Nat}(hn:n<=bg):∀(ps:L Nat)(args:L (V S))(vs:L Value)(tm:Tr (V S))(tmps:Array Value),(∀k∈ps,k<n)->PW (aC g w) (aX args) vs->cg g (bh {n:=n,tm:=tm}) {tmps:=tmps,defers:=[]} w->
  cg g (bh {n:=n,tm:=Lc ps args tm}) {tmps:=(ps.zip vs).foldl (λt p=>t.setIfInBounds p.1 p.2) tmps,defers:=[]} w
 |[],_,_,_,_,_,_,h=>h
 |_::_,[],[],_,_,_,_,h=>h
 |_::_,[],_::_,_,_,_,b,_=>by have:=b.1;simp[aX]at this
 |_::_,_::_,[],_,_,_,b,_=>by have:=b.1;simp[aX]at this
 |k::ps,a::args,v::vs,tm,tmps,d,b,h=>by have e:aC g w (low a) v:=b.2 0 _ _ rfl rfl;have c:PW (aC g w) (aX args) vs:=⟨by have:=b.1;simpa[aX]using this,λj t u h1 h2=>b.2 (j+1) t u (by simpa[aX]using h1) (by simpa using h2)⟩;have f:=qV (dst:=Z k) (fr:={n:=n,tm:=tm}) h (by simp only[fM];exact Av (d k dX)) hn e;exact zw hn ps args vs _ _ (λj i=>d j (gl _ i)) c f.1
def OR(ps:Array Tmp)(vs:Array Value)(tmps:Array Value):(ps.zip vs).foldl (λtmps(t,a)=>tmps.setIfInBounds t a) tmps=(ps.toList.zip vs.toList).foldl (λt p=>t.setIfInBounds p.1 p.2) tmps:=by rw[<-Array.foldl_toList,Array.toList_zip]
variable {E:fA S}
def GD(hE:eA E){call:gm S}(u:fL E.T.E.P call)(y:pX E call)(n:Nat){o:Nat}{args:L (V S)}{s:aW S}{ω:Type}{k kp:V S->aW S->O ω}{r:ω}
  (h:Lg E call n o args s k=Z r) {g:Gh} {w:World} {vs:Array Value} {b:Nat} (hs:aU g (aq s) w) (m8:PW (aC g w) (aX args) vs.toList) (hb:g.bG o=Z b) :
  ∃l:Loop,w.heap[b]?=Z (.loop l)∧vs.size=l.params.size∧∀rr n,RoundIn (WR rr) n E.T.E.P b l.fn ((l.params.zip vs).foldl (λtmps(t,a)=>tmps.setIfInBounds t a) l.tmps) l.assign l.body w (uD s g w k kp r):=by
 unfold Lg at h;split at h;rotate_left
 .cases h
 rename_i l ho;rcases aa h with⟨hc,h1⟩|⟨_,h1⟩;rotate_left
 .cases h1
 clear h;simp only[dI,dU]at hc;obtain⟨hrd,hlen,hpar,z,hra,hrb,P⟩:=hc;obtain⟨hst,hpe⟩:=vP hrd;have P:s.fl<=o:=eN P;have z:l.fr.n<=bg:=eN z;have ho0:(aq s).ob.get o=Z (.lp (uZ l)):=by rw[aE,ho];rfl
 obtain⟨x,hx,hr⟩:=(hs.box o b hb).2.2 _ ho0;cases hr with
 |lp _ c q1 q2 q4 q5 q6 q8 q9=>
 have hsz:vs.size=c.params.size:=by
  have h1:=beq_iff'.1 hlen;rw[bA,bA]at h1;have h2:=m8.1;rw[ee]at h2;have h3:c.params.toList.length=l.params.length:=by rw[q4];rfl
  simp at h2 h3;omega
 refine⟨c,hx,hsz,λrr n'=>?_⟩;have Qb:cg g (bh {n:=l.fr.n,tm:=l.fr.tm}) {tmps:=c.tmps,defers:=[]} w:=⟨q8,.nil,q9⟩;have hf1:=zw z l.params args vs.toList l.fr.tm c.tmps (λk hk=>eN (hpar k hk)) m8 Qb;rw[OR,q4];have hs0:aU g (aq {s with lo:=s.au}) w:=⟨hs.au,hs.af,hs.box,hs.arr,hs.bf,hs.jv⟩;have q5:c.assign=l.assign:=q5;have q6:c.body=l.body:=q6;rw[q5,q6];refine YO ?_;refine wpIn_mono (nC (rr:=Z b) hE u y n l.fid [] l.assign 0 h1 (λ_=>hra) z (bS _) hf1 hs0) λe a' w1 hq=>?_;rcases hq with hF|⟨ex,qv,i,g1,p1,F,p3,p4,f,_⟩
 .exact hF.elim
 cases p1 with
 |ext j=>cases F
 |ret=>cases F
 |dP t v hv=>cases F
 |oK=>
 simp only[XD]at F;split at F;rotate_left
 .cases F
 rename_i G N8;rcases aa F with⟨aip,Q⟩|⟨_,Q⟩;rotate_left
 .cases Q
 clear F;obtain⟨A,H⟩:=vP aip;have C:=f.ext.bG _ _ hb;have I:(aq i).ob.get o=Z (.lp (uZ G)):=by rw[aE,N8];rfl
 obtain⟨x1,hx1,hr1⟩:=(f.rel.box o b C).2.2 _ I;cases hr1 with
 |lp _ L1 a1 a2 a4 a5 a6 a8 a9=>
 have K:i.fl<=o:=by rw[f.fl];exact P
 obtain⟨Zz,XW⟩:=f.rel.setObj (w':=w1.putObj b (.loop {L1 with state:=.busy})) C I rfl K (x':=.loop {L1 with state:=.busy}) (U5:=.lp (uZ {G with st:=.busy})) (.lp _ _ rfl a2 a4 a5 a6 a8 a9)
  World.putObj_size (λb' R=>World.putObj_heap_other R) (World.putObj_heap_same (f.rel.box o b C).2.1) rfl rfl
 have X:aq {i with ob:=i.ob.set aA o (.lp {G with st:=.busy})}={aq i with ob:=(aq i).ob.set aA o (cz (.lp {G with st:=.busy}))}:=eK i _ _ i.wr;have aie:aU g1 (aq {i with ob:=i.ob.set aA o (.lp {G with st:=.busy})}) (w1.putObj b (.loop {L1 with state:=.busy})):=by rw[X];exact Zz
 refine⟨_,run_beginRound hx1 (by rw[a1];exact A),?_⟩;have aiW:i.lo<=i.au:=by rw[f.lo];exact f.au
 refine wpIn_mono (nC (rr:=Z b) hE u y n l.fid [] l.body 0 Q (λ_=>hrb) (by rw[p3];exact z) aiW (p4.ext XW f.rel.bf) aie) λe a2 w2 hq=>?_;rcases hq with hF|⟨ex,KQ,q,g2,c1,c2,c3,c4,p,_⟩
 .exact hF.elim
 cases c1 with
 |ext j=>cases c2
 |ret=>cases c2
 |dP t v hv=>cases c2
 |oK=>
 simp only[XE]at c2;split at c2;rotate_left
 .cases c2
 rename_i l2 Q5;have nB:=p.ext.bG _ _ C;have M:(aq q).ob.get o=Z (.lp (uZ l2)):=by rw[aE,Q5];rfl
 obtain⟨x2,hx2,hr2⟩:=(p.rel.box o b nB).2.2 _ M;cases hr2 with
 |lp _ L2 d1 d2 d4 d5 d6 d8 d9=>
 have Tg:q.fl<=o:=by rw[p.fl];exact K
 obtain⟨LU,Oa⟩:=p.rel.setObj (w':=w2.putObj b (.loop {L2 with state:=.ready,pending:=Y})) nB M rfl Tg (x':=.loop {L2 with state:=.ready,pending:=Y}) (U5:=.lp (uZ {l2 with st:=.ready,sw:=Y})) (.lp _ _ rfl rfl d4 d5 d6 d8 d9)
  World.putObj_size (λb' R=>World.putObj_heap_other R) (World.putObj_heap_same (p.rel.box o b nB).2.1) rfl rfl
 have adk:aq {q with ob:=q.ob.set aA o (.lp {l2 with st:=.ready,sw:=Y})}={aq q with ob:=(aq q).ob.set aA o (cz (.lp {l2 with st:=.ready,sw:=Y}))}:=eK q _ _ q.wr;have hall:eC {s with lo:=s.au} g w {q with ob:=q.ob.set aA o (.lp {l2 with st:=.ready,sw:=Y})} g2 (w2.putObj b (.loop {L2 with state:=.ready,pending:=Y})):=by
  have e1:mz s.au s.fl g1 w1 g1 (w1.putObj b (.loop {L1 with state:=.busy})):=by have:=XW.Eb s.au;rw[show(aq i).fl=s.fl from f.fl]at this;exact this
  have e2:mz s.au s.fl g1 (w1.putObj b (.loop {L1 with state:=.busy})) g2 w2:=by have:=p.ext;rw[show i.lo=s.au from f.lo,show i.fl=s.fl from f.fl]at this;exact this
  have e3:mz s.au s.fl g2 w2 g2 (w2.putObj b (.loop {L2 with state:=.ready,pending:=Y})):=by have:=Oa.Eb s.au;rw[show(aq q).fl=s.fl from p.fl.trans f.fl]at this;exact this
  refine⟨by rw[adk];exact LU,((f.ext.trans e1).trans e2).trans e3,p.fl.trans f.fl,p.lo.trans f.lo,eO f.au p.au,λj hj=>p.rU j (f.rU j hj),λj hj hno=>?_,λj hj=>p.Ey j (f.Ey j hj)⟩;have aiK:j∉i.wr:=λhm=>hno (p.rU j hm);have k1:=f.same j hj aiK;have k2:=p.same j (gN hj f.au) hno;have N:o<bg:=gN (hs.lt hb) hs.au;show(q.ob.set aA o _).get j=s.ob.get j;rw[Tr.aO _ _ _ _ N];have m:q.ob.get j=(i.ob.set aA o (.lp {G with st:=.busy})).get j:=k2;rw[Tr.aO _ _ _ _ N]at m;by_cases e:j=o
  .subst e;rw[aY rfl]at m ⊢;rw[Q5]at m;rw[N8]at k1;have k1:Z (sj.lp G)=s.ob.get j:=k1;rw[ho]at k1;simp only[aV,sj.lp.injEq]at k1 m;subst k1;subst m;rw[ho];obtain⟨st,pe,fid,fr,par,asg,bd⟩:=G;simp only at A H;subst A;subst H;rfl
  .rw[bK e]at m ⊢;exact m.trans k1
 exact⟨.bool W,_,run_endRound Y hx2,.kb W,_,g2,c2,.kb W,eC.Eb hs hall⟩
def J7(A:eA E)(a:∀call:gm S,fL E.T.E.P call->pX E call)(n:Nat):∀d,fL E.T.E.P (Ad E n d):=by
 intro d
 induction d with
 |zero=>exact⟨λf args s ω k B r h=>(by cases h),λf args s ω k B r h=>(by cases h),λo args s ω k B r h=>(by cases h)⟩
 |succ d y=>
  refine⟨λf args s ω k B r h g w vs m p=>?_,λf args s ω k B r h g w vs m p=>?_,λo args s ω k B r h g w vs b m p z=>GD A y (a _ y) n h m p z⟩;rotate_left
  .simp only[Ad,TY]at h;split at h
   .cases h
   rename_i fn q;split at h
   .cases h
   rename_i c K;have u:=A.OZ.Od _ _ q;refine⟨⟨fn,u,by rw[K];rfl,A.name _ _ q⟩,?_⟩;rcases aa h with⟨z,h⟩|⟨_,h⟩;rotate_left
   .cases h
   simp only[dI]at z;have C:args.length<=fn.ntmps:=by have:=eN z.1;rwa [bA]at this
   have x:fn.ntmps<bg:=eN z.2.1;have M:s.lo=0:=beq_iff'.1 z.2.2;have F:=qt (n:=fn.ntmps) x C p;refine pS u K (wpIn_mono (nC A y (a _ y) n f _ c 0 h (λh=>absurd rfl h) (BL x) (by rw[M];exact yA _) F m) λe a' w' N=>?_);rcases N with P|⟨ex,Q,s',g',h1,h2,h3,h4,h5,h6⟩
   .exact P.elim
   .exact tg A y (a _ y) n (R:=Gg s g w k B r) h2 h1 h4 h5.rel (λt j i v l G H I=>⟨t,_,i,G,H,h5.trans I.Vm⟩) (λt j i v l G H I=>⟨v,t,_,i,rfl,G,H,h5.trans I.Vm⟩)
  simp only[Ad,TY]at h;split at h
  .cases h
  .rename_i fn q;split at h
   .cases h
   .rename_i c K;have u:=A.OZ.Od _ _ q;refine⟨⟨fn,u,by rw[K];rfl,A.name _ _ q⟩,?_⟩;rcases aa h with⟨z,h⟩|⟨_,h⟩
    .rw[yB]at z;have C:args.length<=fn.ntmps:=by have:=eN z.1;rwa [bA]at this
     have x:fn.ntmps<bg:=eN z.2;have F:=qt (n:=fn.ntmps) x C p;have X:aU g (aq {s with lo:=s.au}) w:=⟨m.au,m.af,m.box,m.arr,m.bf,m.jv⟩;refine pS u K (wpIn_mono (nC A y (a _ y) n f _ c 0 h (λh=>absurd rfl h) (BL x) (bS _) F X) λe a' w' N=>?_);rcases N with P|⟨ex,Q,s',g',h1,h2,h3,h4,h5,h6⟩
     .exact P.elim
     .have s5:=eC.Eb m h5;have lo:∀{j:aW S}{i:Gh}{l:World},cr [] s' g' w' j i l->cr [] s g w {j with lo:=s.lo} i l:=λ{j i l}k=>
       eC.Eb m (h5.trans k.Vm)
      exact tg A y (a _ y) n (R:=uD s g w k B r) h2 h1 h4 h5.rel (λt j i v l G H I=>⟨t,_,i,G,H,lo I⟩) (λt j i v l G H I=>⟨v,t,_,i,rfl,G,H,lo I⟩)
    .cases h
end
section
def n9:∀(ps:L Pk)(b:Nat)(s:aW S)(x:fj S.A ps),s.au<=(ry b s ps x).2.au
 |[],_,_,_=>bS _
 | .one c::ps,b,s,x=>eO (Nl s c x.1) (n9 ps b _ x.2)
 | .box k::ps,b,s,x=>eO (AQ k s (Z (Nat.succ b)) x.1) (n9 ps (Nat.succ b) {(fZ s (Z (Nat.succ b)) k x.1).2 with ob:=(fZ s (Z (Nat.succ b)) k x.1).2.ob.set aA b (fZ s (Z (Nat.succ b)) k x.1).1} x.2)
 | .hid k::ps,b,s,x=>eO (AQ k s (Z (Nat.succ b)) x.1) (n9 ps (Nat.succ b) {(fZ s (Z (Nat.succ b)) k x.1).2 with ob:=(fZ s (Z (Nat.succ b)) k x.1).2.ob.set aA b (fZ s (Z (Nat.succ b)) k x.1).1} x.2)
structure InR(g:Gh)(s:aW S)(w:World)(al:List eX)(g':Gh)(s':aW S):Prop where
 rel:aU g' (aq s') w
 le:lH g g'
 bf:g'.bf=g.bf
 own:∀k b,br g' k b->br g k b∨∃a∈al,a.at b
 fl:s'.fl=s.fl
 lo:s'.lo=s.lo
 au:s.au<=s'.au
 bG:g'.bG=g.bG
 arr:∀o,o<s.au->∀e,g'.arr o e=g.arr o e
variable {w:World}{I:Nat->Prop}{ps:List Pk}{al:List eX}{bl:List Nat}{E:fA S}{f:FuncId}
def LQ:∀{ps:L Pk}{x:fj S.A ps}{vals:L Value}{al:L eX}{bl:L Nat}{b:Nat}{g:Gh}{s:aW S},oD S g.bf w ps x vals al bl->aU g (aq s) w->(∀j bG,bl[j]?=Z bG->g.bG (b+j)=Z bG)->
  (∀j,j<bl.length->b+j<s.au∧∀e,g.arr (b+j) e=Y)->(∀a∈al,∀b,a.at b->∀o,¬br g o b)->tY al->(ry b s ps x).2.au<=bg->
  ∃g',InR g s w al g' (ry b s ps x).2∧PW (aC g' w) (aX (ry b s ps x).1) vals:=by
 intro ps
 induction ps with
 |nil=>intro x vals al bl b g s hp hs _ _ _ _ _;cases hp;exact⟨g,⟨hs,lH.refl _,rfl,λ_ _ h=>.inl h,rfl,rfl,bS _,rfl,λ_ _ _=>rfl⟩,⟨rfl,λj t v h=>by simp[ry,aX]at h⟩⟩
 |cons p ps ih=>
  intro x vals al bl b g s hp hs q u z R hn;cases hp with
  | @one c _ f xr v vs xZ yj bl h1 h2=>
   have l:=qR.1 R;have B:(sG s c f).2.au<=bg:=eO (n9 ps b _ xr) hn;obtain⟨N,d,m8⟩:=kZ (cs:=[c]) (x:=(f,())) h1 hs (λa y=>z a (dH _ y)) l.1 (by simpa[gn]using B);have e1:(gn s [c] (f,())).1=[(sG s c f).1]:=rfl;have e2:(gn s [c] (f,())).2=(sG s c f).2:=rfl;rw[e1]at m8;rw[e2]at d;have Wq:aC N w (low (sG s c f).1) v:=m8.2 0 _ _ rfl rfl;obtain⟨g2,m,X⟩:=ih (b:=b) (g:=N) (s:=(sG s c f).2) (d.bf▸h2) d.rel (λj bG h=>by rw[d.bG];exact q j bG h) (λj hj=>⟨gN (u j hj).1 d.au,λe=>by rw[d.arr _ (u j hj).1];exact(u j hj).2 e⟩)
    (λa y b P o n=>by
     rcases d.own o b n with n|⟨_,a2,C,E⟩
     .exact z a (gp _ y) b P o n
     .exact l.2.2 a2 C a y b E P) l.2.1 hn
   refine⟨g2,⟨m.rel,d.le.trans m.le,m.bf.trans d.bf,λk A n=>?_,m.fl.trans d.fl,m.lo.trans d.lo,eO d.au m.au,m.bG.trans d.bG,λo Q e=>(m.arr o (gN Q d.au) e).trans (d.arr o Q e)⟩,⟨by simp only[ry,aX,gi];rw[X.1],λj t v' q1 r=>?_⟩⟩
   .rcases m.own k A n with n|⟨F,r,G⟩
    .rcases d.own k A n with n|⟨_,F,r,G⟩
     .exact .inl n
     .exact .inr ⟨F,dH _ r,G⟩
    .exact .inr ⟨F,gp _ r,G⟩
   .cases j with|zero=>simp[ry,aX]at q1 r;subst q1;subst r;exact Wq.le m.le|succ j=>exact X.2 j t v' (by simpa[ry,aX]using q1) (by simpa using r)
  | @box i _ f xr b0 hx vs xZ yj bl hh h1 h2=>
   have l:=qR.1 R;have B:(fZ s (Z (Nat.succ b)) i f).2.au<=bg:=eO (n9 ps (Nat.succ b) {(fZ s (Z (Nat.succ b)) i f).2 with ob:=(fZ s (Z (Nat.succ b)) i f).2.ob.set aA b (fZ s (Z (Nat.succ b)) i f).1} xr) hn;obtain⟨N,d,H⟩:=nu h1 (λA I=>⟨_,rfl,by cases bl with|nil=>cases I|cons c' Ke=>(cases I;exact q 1 A rfl)⟩) hs (λa y=>z a (dH _ y)) l.1 B;have K:=u 0 (by simp);have M:g.bG b=Z b0:=q 0 b0 rfl;have hk:=d.rel.rm (o:=b) (b:=b0) (by rw[d.bG];exact M) hh H (λe=>by rw[d.arr b (by simpa using K.1)];exact K.2 e);have hk2:aU N (aq {(fZ s (Z (Nat.succ b)) i f).2 with ob:=(fZ s (Z (Nat.succ b)) i f).2.ob.set aA b (fZ s (Z (Nat.succ b)) i f).1}) w:=by have:=eK (fZ s (Z (Nat.succ b)) i f).2 b (fZ s (Z (Nat.succ b)) i f).1 (fZ s (Z (Nat.succ b)) i f).2.wr;rw[show({(fZ s (Z (Nat.succ b)) i f).2 with ob:=(fZ s (Z (Nat.succ b)) i f).2.ob.set aA b (fZ s (Z (Nat.succ b)) i f).1}:aW S)={(fZ s (Z (Nat.succ b)) i f).2 with ob:=(fZ s (Z (Nat.succ b)) i f).2.ob.set aA b (fZ s (Z (Nat.succ b)) i f).1,wr:=(fZ s (Z (Nat.succ b)) i f).2.wr}from rfl,this];exact hk
   obtain⟨g2,m,X⟩:=ih (b:=Nat.succ b) (g:=N) (s:={(fZ s (Z (Nat.succ b)) i f).2 with ob:=(fZ s (Z (Nat.succ b)) i f).2.ob.set aA b (fZ s (Z (Nat.succ b)) i f).1}) (d.bf▸h2) hk2
    (λj bG h=>by rw[d.bG];have:=q (j+1) bG (by simpa using h);rwa [show b+(j+1)=Nat.succ b+j by omega]at this)
    (λj hj=>by
     have:=u (j+1) (by simp;omega);rw[show b+(j+1)=Nat.succ b+j by omega]at this;exact⟨gN this.1 d.au,λe=>by rw[d.arr _ this.1];exact this.2 e⟩)
    (λa y b P o n=>by
     rcases d.own o b n with n|⟨_,a2,C,E⟩
     .exact z a (gp _ y) b P o n
     .exact l.2.2 a2 C a y b E P) l.2.1 hn
   refine⟨g2,⟨m.rel,d.le.trans m.le,m.bf.trans d.bf,λk A n=>?_,m.fl.trans d.fl,m.lo.trans d.lo,eO d.au m.au,m.bG.trans d.bG,λo Q e=>(m.arr o (gN Q d.au) e).trans (d.arr o Q e)⟩,⟨by simp only[ry,aX,gi];rw[X.1],λj t v' q1 r=>?_⟩⟩
   .rcases m.own k A n with n|⟨F,r,G⟩
    .rcases d.own k A n with n|⟨_,F,r,G⟩
     .exact .inl n
     .exact .inr ⟨F,dH _ r,G⟩
    .exact .inr ⟨F,gp _ r,G⟩
   .cases j with|zero=>simp only[ry,aX,qT,aV]at q1 r;subst q1;subst r;exact Jm (by rw[m.bG,d.bG];exact M)|succ j=>exact X.2 j t v' (by simpa[ry,aX]using q1) (by simpa using r)
  | @hid i _ f xr b0 hx vs xZ yj bl hh h1 h2=>
   have l:=qR.1 R;have B:(fZ s (Z (Nat.succ b)) i f).2.au<=bg:=eO (n9 ps (Nat.succ b) {(fZ s (Z (Nat.succ b)) i f).2 with ob:=(fZ s (Z (Nat.succ b)) i f).2.ob.set aA b (fZ s (Z (Nat.succ b)) i f).1} xr) hn;obtain⟨N,d,H⟩:=nu h1 (λA I=>⟨_,rfl,by cases bl with|nil=>cases I|cons c' Ke=>(cases I;exact q 1 A rfl)⟩) hs (λa y=>z a (dH _ y)) l.1 B;have K:=u 0 (by simp);have M:g.bG b=Z b0:=q 0 b0 rfl;have hk:=d.rel.rm (o:=b) (b:=b0) (by rw[d.bG];exact M) hh H (λe=>by rw[d.arr b (by simpa using K.1)];exact K.2 e);have hk2:aU N (aq {(fZ s (Z (Nat.succ b)) i f).2 with ob:=(fZ s (Z (Nat.succ b)) i f).2.ob.set aA b (fZ s (Z (Nat.succ b)) i f).1}) w:=by have:=eK (fZ s (Z (Nat.succ b)) i f).2 b (fZ s (Z (Nat.succ b)) i f).1 (fZ s (Z (Nat.succ b)) i f).2.wr;rw[show({(fZ s (Z (Nat.succ b)) i f).2 with ob:=(fZ s (Z (Nat.succ b)) i f).2.ob.set aA b (fZ s (Z (Nat.succ b)) i f).1}:aW S)={(fZ s (Z (Nat.succ b)) i f).2 with ob:=(fZ s (Z (Nat.succ b)) i f).2.ob.set aA b (fZ s (Z (Nat.succ b)) i f).1,wr:=(fZ s (Z (Nat.succ b)) i f).2.wr}from rfl,this];exact hk
   obtain⟨g2,m,X⟩:=ih (b:=Nat.succ b) (g:=N) (s:={(fZ s (Z (Nat.succ b)) i f).2 with ob:=(fZ s (Z (Nat.succ b)) i f).2.ob.set aA b (fZ s (Z (Nat.succ b)) i f).1}) (d.bf▸h2) hk2
    (λj bG h=>by rw[d.bG];have:=q (j+1) bG (by simpa using h);rwa [show b+(j+1)=Nat.succ b+j by omega]at this)
    (λj hj=>by
     have:=u (j+1) (by simp;omega);rw[show b+(j+1)=Nat.succ b+j by omega]at this;exact⟨gN this.1 d.au,λe=>by rw[d.arr _ this.1];exact this.2 e⟩)
    (λa y b P o n=>by
     rcases d.own o b n with n|⟨_,a2,C,E⟩
     .exact z a (gp _ y) b P o n
     .exact l.2.2 a2 C a y b E P) l.2.1 hn
   refine⟨g2,⟨m.rel,d.le.trans m.le,m.bf.trans d.bf,λk A n=>?_,m.fl.trans d.fl,m.lo.trans d.lo,eO d.au m.au,m.bG.trans d.bG,λo Q e=>(m.arr o (gN Q d.au) e).trans (d.arr o Q e)⟩,X⟩
   .rcases m.own k A n with n|⟨F,r,G⟩
    .rcases d.own k A n with n|⟨_,F,r,G⟩
     .exact .inl n
     .exact .inr ⟨F,dH _ r,G⟩
    .exact .inr ⟨F,gp _ r,G⟩
def mZ(C:eR S){g:Gh}{w:World}{s:aW S}(hs:aU g (aq s) w):∀{ps:L Pk}{b:Nat}{x:gB S.A ps}{fz ow bl:L Nat},qY s b ps=Z (x,fz,ow)->(∀j bG,bl[j]?=Z bG->g.bG (b+j)=Z bG)->bl.length=dS ps->
  (∀o∈fz,Live g (aq s) o)∧(∀o∈ow,s.fl<=o∧s.lo<=o∧o<s.au∧∃ob,s.ob.get o=Z ob∧MF ob=W)∧∀(u:Gh)(s1:St)(q:L Nat),aU u s1 w->Ext s.fl g w u w->jf (aq s) s1 q->(∀o∈fz,o∈q)->(∀o∈ow,s1.ob.get o=(aq s).ob.get o)->
   ∃al,AO S u.bf w ps x bl al∧AL u al ow
 |[],b,x,fz,ow,bl,h,_,i=>by
  simp only[qY,aV,bq]at h;obtain⟨_,rfl,rfl⟩:=h
  match bl,i with
  |[],_=>exact⟨λo l=>(by cases l),λo l=>(by cases l),λ_ _ _ _ _ _ _ _=>⟨[],.nil,.nil⟩⟩
  |_::_,i=>exact absurd i (by simp[dS])
 | .one c::ps,b,x,fz,ow,bl,h,m,i=>by simp only[qY]at h;obtain⟨E,F,G⟩:=mZ C hs h m (by simpa[dS]using i);refine⟨E,F,λu s1 q a b c d e=>?_⟩;obtain⟨al,H,I⟩:=G u s1 q a b c d e;exact⟨al,.one H,I⟩
 | .box k::ps,b,x,fz,ow,bl,h,m,i=>by
  match bl,i with
  |[],i=>exact absurd i (by simp[dS])
  |b0::bl,i=>
  simp only[qY]at h;split at h;rotate_left
  .cases h
  rename_i x1 a1 b1 nx h1 a2 b2 K P;rcases aa h with⟨z,h⟩|⟨_,h⟩;rotate_left
  .cases h
  rw[yB]at z;simp only[aV,bq]at h;obtain⟨rfl,rfl,rfl⟩:=h;have v:g.bG b=Z b0:=m 0 b0 rfl;have n:∀j bG,bl[j]?=Z bG->g.bG (Nat.succ b+j)=Z bG:=λj bG h=>by have:=m (j+1) bG (by simpa using h);rwa [show b+(j+1)=Nat.succ b+j by omega]at this
  have f:bl.length=dS ps:=by simpa[dS]using i
  obtain⟨_,hx,Q,E,F,G⟩:=oP C hs v K;obtain⟨_,A⟩:=w7 hs v K;obtain⟨R,X,q3⟩:=mZ C hs P n f;refine⟨λo l=>(dy.1 l).elim (E o) (R o),λo l=>(dy.1 l).elim (F o) (X o),λu s1 q y B M r p=>?_⟩;obtain⟨xZ,H,I⟩:=G u s1 q y B M (λo l=>r o (dH _ l)) (λo l=>p o (dH _ l)) (dg bl) (λN t=>by
   subst t;obtain⟨pre,post,rfl⟩:=A N rfl;have t:N=Nat.succ b:=mV z.1;subst t
   match ps,z.2,f with
   | .hid k'::ps,_,f=>
    match bl,f with
    |c::bl,_=>exact⟨c,rfl,B.bG _ _ (n 0 c rfl)⟩
    |[],f=>exact absurd f (by simp[dS]))
  obtain⟨yj,k3,k4⟩:=q3 u s1 q y B M (λo l=>r o (gp _ l)) (λo l=>p o (gp _ l));exact⟨_,.box Q H k3,I.append k4⟩
 | .hid k::ps,b,x,fz,ow,bl,h,m,i=>by
  match bl,i with
  |[],i=>exact absurd i (by simp[dS])
  |b0::bl,i=>
  simp only[qY]at h;split at h;rotate_left
  .cases h
  rename_i x1 a1 b1 nx h1 a2 b2 K P;rcases aa h with⟨z,h⟩|⟨_,h⟩;rotate_left
  .cases h
  rw[yB]at z;simp only[aV,bq]at h;obtain⟨rfl,rfl,rfl⟩:=h;have v:g.bG b=Z b0:=m 0 b0 rfl;have n:∀j bG,bl[j]?=Z bG->g.bG (Nat.succ b+j)=Z bG:=λj bG h=>by have:=m (j+1) bG (by simpa using h);rwa [show b+(j+1)=Nat.succ b+j by omega]at this
  have f:bl.length=dS ps:=by simpa[dS]using i
  obtain⟨_,hx,Q,E,F,G⟩:=oP C hs v K;obtain⟨_,A⟩:=w7 hs v K;obtain⟨R,X,q3⟩:=mZ C hs P n f;refine⟨λo l=>(dy.1 l).elim (E o) (R o),λo l=>(dy.1 l).elim (F o) (X o),λu s1 q y B M r p=>?_⟩;obtain⟨xZ,H,I⟩:=G u s1 q y B M (λo l=>r o (dH _ l)) (λo l=>p o (dH _ l)) (dg bl) (λN t=>by
   subst t;obtain⟨pre,post,rfl⟩:=A N rfl;have t:N=Nat.succ b:=mV z.1;subst t
   match ps,z.2,f with
   | .hid k'::ps,_,f=>
    match bl,f with
    |c::bl,_=>exact⟨c,rfl,B.bG _ _ (n 0 c rfl)⟩
    |[],f=>exact absurd f (by simp[dS]))
  obtain⟨yj,k3,k4⟩:=q3 u s1 q y B M (λo l=>r o (gp _ l)) (λo l=>p o (gp _ l));exact⟨_,.hid Q H k3,I.append k4⟩
def AO.gq{I:Nat->Prop}{w:World}{ps:L Pk}{x:gB S.A ps}{al:L eX}{bl:L Nat}(h:AO S I w ps x bl al):∀a∈al,∀b,a.at b->¬I b:=by
 induction h with
 |nil=>intro a c;cases c
 |one _ d=>exact d
 |box f h1 h2 d=>
  intro a c b e;rcases dy.1 c with c|c
  .exact h1.gq a c b e
  .exact d a c b e
 |hid f h1 h2 d=>
  intro a c b e;rcases dy.1 c with c|c
  .exact h1.gq a c b e
  .exact d a c b e
def MA{x:fj S.A ps}{vs:L Value}(h:oD S I w ps x vs al bl):dS ps=bl.length:=by
 induction h with|nil=>rfl|one _ _ a=>exact a|box _ _ _ a=>simp only[dS,gi,a]|hid _ _ _ a=>simp only[dS,gi,a]
def gh0(I:Nat->Prop)(bl:L Nat):Gh:=⟨λo=>bl[o]?,λ_ _=>Y,I⟩
def uu{o b:Nat}(h:br (gh0 I bl) o b):bl[o]?=Z b:=by
 obtain⟨_,h|⟨e,x,a,h,_⟩⟩:=h
 .exact h
 .cases h
def WM(g:∀b,I b->b<w.heap.size)(d:bl.Nodup)(a:∀b∈bl,b<w.heap.size∧¬I b)(hn:bl.length<=bg) :
  aU (gh0 I bl) (aq (⟨.nil,bl.length,0,bl.length,[],[]⟩:aW S)) w:=by
 refine⟨hn,λo i=>⟨?_,λe=>rfl⟩,λo b h=>?_,λo e x h=>?_,g,λo l b h j=>?_⟩
 .show bl[o]?=Y;exact Ln i
 .have h:bl[o]?=Z b:=h;have f:=gk h;refine⟨(a b f).2,(a b f).1,λob c=>?_⟩;rw[aE]at c;simp[Tr.get_nil]at c
 .cases h
 .have h1:=uu h;have h2:=uu j;have k:o<bl.length:=by
   rcases uW o bl.length with h|h
   .exact h
   .rw[Ln h]at h1;cases h1
  exact(List.getElem?_inj k d).1 (h1.trans h2.symm)
def Qu{n d:Nat}{a:L Ck}{x:fj S.A ps}{r:RT E.pn (fH S.A a×gB S.A ps) (den S.A S.pt×gB S.A ps)}(h:xH E n d f ps a x=Z r) :
  (ry 0 ⟨.nil,dS ps,0,dS ps,[],[]⟩ ps x).2.au<=bg∧T0 E n d f (ry 0 ⟨.nil,dS ps,0,dS ps,[],[]⟩ ps x).1 (ry 0 ⟨.nil,dS ps,0,dS ps,[],[]⟩ ps x).2 (aah E.pn a ps) (aag E.pn a ps)=Z r:=by
 unfold xH at h;dsimp only at h;rcases aa h with⟨_,h⟩|⟨b,h⟩
 .cases h
 .refine ⟨eN (by simpa using b),?_⟩;exact h
def RT.VM{R P:Type}:∀{a:Bool}{p:P}{r:RT a R P},RT.dP a p=Z r->RT.res a r=.dP p
 |false,_,_,h=>by cases h
 |true,_,_,h=>by cases h;rfl
def Di(hE:eA E)(z:∀call:gm S,fL E.T.E.P call->pX E call){fn:Func}{c:Code}(hfn:E.T.E.Od f=Z fn)(hc:fn.body=Z c)(n d:Nat)(ps:L Pk)(X:L Ck) :
  bw E.T.E.P f ⟨ps,X,E.pn,xH E n d f ps X⟩:=by
 have hfs:=hE.OZ.Od _ _ hfn;refine⟨⟨fn,hfs,by rw[hc];rfl,hE.name _ _ hfn⟩,λx r h I w vs al bl hp hI hap hnd Q7=>?_⟩;dsimp only at x r h hp;obtain⟨F,h⟩:=Qu h;have hlen:=MA hp;have m:=n9 ps 0 (⟨.nil,dS ps,0,dS ps,[],[]⟩:aW S) x;have hn0:dS ps<=bg:=eO m F;have aij:aU (gh0 I bl) (aq (⟨.nil,dS ps,0,dS ps,[],[]⟩:aW S)) w:=by have:=WM (S:=S) (w:=w) hI hnd (λb i=>⟨(Q7 b i).1,(Q7 b i).2.1⟩) (by omega);rwa [hlen]
 obtain⟨g0,M,m8⟩:=LQ (b:=0) (g:=gh0 I bl) hp aij (λj bG h=>by rw[lY];exact h) (λj hj=>⟨by simp;omega,λe=>rfl⟩)
  (λa A b i o k=>(Q7 b (gk (uu k))).2.2 a A i) hap F
 generalize ry 0 ⟨.nil,dS ps,0,dS ps,[],[]⟩ ps x=q at h F M m8 m;obtain⟨args,s0⟩:=q;dsimp only at h F M m8 m;have ZW:s0.fl=0:=M.fl;have adl:s0.lo=dS ps:=M.lo;simp only[T0,hfn,hc]at h;rcases aa h with⟨i,h⟩|⟨_,h⟩;rotate_left
 .cases h
 rw[yB]at i;have Hv:args.length<=fn.ntmps:=by have:=eN i.1;rwa [bA]at this
 have nB:fn.ntmps<bg:=eN i.2;have Qb:=qt (n:=fn.ntmps) nB Hv m8;have p:=J7 hE z n d;have core:∀(s':aW S)(g':Gh)(w':World),eC s0 g0 w s' g' w'->∀(X:L Ck)(t:V S)(v:Value)(Q:fH S.A X×gB S.A ps),WX X ps t s'=Z Q->aC g' w' (low t) v->Ba S I w ps X Q al bl v w':=by
  intro s' g' w' h5 X t v r h2 ht;unfold WX at h2;split at h2;rotate_left
  .cases h2
  rename_i Q fz ow b1 fz' ow' e1 e2;split at h2;rotate_left
  .cases h2
  rename_i s1 e3;rcases aa h2 with⟨i,h2⟩|⟨_,h2⟩;rotate_left
  .cases h2
  simp only[aV]at h2;subst h2;rw[yB]at i;have ZK:=jR i.1;have ajn:=wz i.2;obtain⟨vals,rfl,acS⟩:=Bz ht e1;have adL:∀j bG,bl[j]?=Z bG->g'.bG (0+j)=Z bG:=λj bG h=>h5.ext.bG _ _ (by rw[M.bG,lY];exact h);obtain⟨p1,p2,p3⟩:=fy hE.sg h5.rel e1 acS;obtain⟨q1,q2,q3⟩:=mZ hE.sg h5.rel e2 adL hlen.symm;have hfr:=cP hE.sg _ e3;obtain⟨g1,l,G,hfz⟩:=dV (fz++fz') h5.rel hfr (λo B=>(dy.1 B).elim (p1 o) (q1 o));obtain⟨f1,f2,f3,f4,f5,f6,f7⟩:=dY e3;have N:∀o∈ow++ow',(aq s1).ob.get o=(aq s').ob.get o:=λo B=>by rw[aE,aE,f6 o (ajn o B)]
  obtain⟨yj,H,k2⟩:=p3 g1 (aq s1) (fz++fz') l G hfz (λo B=>dH _ B) (λo B=>N o (dH _ B));obtain⟨xZ,k3,k4⟩:=q3 g1 (aq s1) (fz++fz') l G hfz (λo B=>gp _ B) (λo B=>N o (gp _ B));have aiL:=H.gq;have aiM:=k3.gq;have hmem:∀a∈xZ++yj,a∈yj++xZ:=λa A=>dy.2 ((dy.1 A).symm);have hni:∀a∈yj++xZ,∀b,a.at b->¬g1.bf b:=λa A=>(dy.1 A).elim (aiL a) (aiM a);have hAL:=k2.append k4;have hown:=hAL.owned hni;have s:=hAL.apart l ZK hni;have hfl':s'.fl=0:=h5.fl.trans ZW;have Wy:s'.lo=dS ps:=h5.lo.trans adl;have ac6:∀o b,br g1 o b->(b∈bl∨∃a∈al,a.at b)∨w.heap.size<=b:=by
   intro o b k;rcases G.own o b k with k|hge
   .rcases h5.ext.own o b (by omega) k with⟨K,_,P⟩|hge
    .rcases M.own K b P with P|⟨a,A,C⟩
     .exact .inl (.inl (gk (uu P)))
     .exact .inl (.inr ⟨a,A,C⟩)
    .exact .inr hge
   .have:=h5.ext.size;exact .inr (by omega)
  have u:∀b∈bl,∃o,o<dS ps∧g1.bG o=Z b:=by intro b i;obtain⟨j,hj,rfl⟩:=oJ i;exact⟨0+j,by omega,G.bG _ _ (adL j _ (eS hj))⟩
  refine⟨g1.bf,vals,xZ,yj,λb i=>G.bf b (h5.ext.bf b (M.bf▸i)),λb i=>?_,l.bf,h5.ext.size,λb i F hna=>?_,h5.ext.os,h5.ext.output,rfl,k3,H,?_,λa A b C=>?_,λb i=>⟨?_,λa A C=>?_⟩⟩
  .have h0:∀o,br g0 o b->I b∨w.heap.size<=b∨∃a∈al,a.at b:=λo k=>by
    rcases M.own o b k with k|h
    .obtain ⟨K,_,y⟩:=u b (gk (uu k));exact absurd i (l.box K b y).1
    .exact .inr (.inr h)
   rcases G.pN b i with i|i|⟨o,_,k⟩
   .rcases h5.ext.pN b i with i|i|⟨o,_,k⟩
    .exact .inl (by rw[M.bf]at i;exact i)
    .exact .inr (.inl i)
    .exact h0 o k
   .have:=h5.ext.size;exact .inr (.inl (by omega))
   .rcases h5.ext.own o b (by omega) k with⟨K,_,P⟩|hge
    .exact h0 K P
    .exact .inr (.inl hge)
  .refine h5.ext.heap b i λo _ k=>?_;rcases M.own o b k with k|⟨a,A,C⟩
   .exact F (gk (uu k))
   .exact hna a A C
  .refine qR.2 ⟨(qR.1 s).2.1,(qR.1 s).1,λa A a' ha' b h1 h2=>(qR.1 s).2.2 a' ha' a A b h2 h1⟩
  .obtain ⟨o,B,k⟩:=hown a (hmem a A) b C;rcases ac6 o b k with(h|h)|h
   .obtain ⟨K,ho',y⟩:=u b h;have:=l.jv o K b k ⟨(l.box K b y).1,.inl y⟩;subst this;rcases dy.1 B with hm|hm
    .have:=(p2 o hm).2.1;omega
    .have:=(q2 o hm).2.1;omega
   .exact .inl h
   .exact .inr h
  .obtain ⟨K,ho',y⟩:=u b i;exact(l.box K b y).1
  .obtain ⟨o,B,k⟩:=hown a (hmem a A) b C;obtain⟨K,ho',y⟩:=u b i;have:=l.jv o K b k ⟨(l.box K b y).1,.inl y⟩;subst this;rcases dy.1 B with hm|hm
   .have:=(p2 o hm).2.1;omega
   .have:=(q2 o hm).2.1;omega
 refine pS hfs hc (wpIn_mono (nC hE p (z _ p) n f _ c 0 h (λh=>absurd rfl h) (BL nB) (by rw[adl];exact m) Qb M.rel) λe a' w' hq=>?_);rcases hq with hF|⟨ex,fr',s',g',h1,h2,h3,h4,h5,h6⟩
 .exact hF.elim
 refine tg hE p (z _ p) n (R:=uC S I w ps X (RT.res E.pn r) al bl) h2 h1 h4 h5.rel (λt s'' g'' v w'' H k2 k3=>?_) (λt s'' g'' v w'' H k2 k3=>?_)
 .unfold aah at H;split at H;rotate_left
  .cases H
  rename_i Q e1;simp only[aV]at H;have e2:RT.res E.pn r=.ok Q:=by rw[<-H];cases E.pn<;>rfl
  simp only[uC,e2];exact core _ _ _ (h5.trans k3.Vm) X _ v Q e1 k2
 .simp only[aag]at H;split at H;rotate_left
  .cases H
  rename_i Q e1;have e2:RT.res E.pn r=.dP (Q.1.1,Q.2):=RT.VM H;simp only[uC,e2];exact⟨v,rfl,core _ _ _ (h5.trans k3.Vm) [.dat S.pt] t v Q e1 k2⟩
end
end TL
end
end
