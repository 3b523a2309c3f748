import Derived.Scope
import Derived.Recover
import Derived.Test.YtdddliieplcejaaGreatP2
set_option linter.all false
set_option maxRecDepth 100000
set_option maxHeartbeats 0
noncomputable section
open Option renaming some->Z,none->Y
open Bool renaming true->W,false->J
section
namespace TL
open Go
variable {S:Sg}
section
section
variable {g:Gh}{w:World}
def jY(s:bq S)(o:Nat)(ob:Ob):St:={aG s with ob:=(aG s).ob.set aJ o ob}
variable {s s':bq S}{o n j era m gE k r i off:Nat}{hole:Option Nat}{hl:List Value}{d:D}{h v:Value}{a:Act}
def GC(hs:bh g (aG s) w){l:List (S.A n)}{x:fq}(b:s.ob.get o=Z (.kj n j l era m gE hole))(d:g.arr o era=Z x) :
  ∃hl,hl.length=l.length∧uV g w J (S.width (.st n)) (lits j (l.map (enc S (.st n))) hl) x∧Gy g m gE hole hl∧bh g (jY s o (.arr (S.width (.st n)) (lits j (l.map (enc S (.st n))) hl) era)) w:=by
 obtain⟨hl,h1,h2,h3,h4⟩:=hs.view (by rw[aY,b];rfl) d;exact⟨hl,by simpa using h1,h2,h3,h4⟩
def xU{b:St}(h:bh g b w){l:List (S.A n)}(d:o<bB)(h1:b.ob.get o=Z (.arr (S.width (.st n)) (lits j (l.map (enc S (.st n))) hl) era))(e:hl.length=l.length)
  (p:Gy g m gE hole hl) (h2:s'.ob.get o=Z (.kj n j l era m gE hole)) (h3:∀k,k≠o->(aG s').ob.get k=b.ob.get k) (h4:s'.aH=b.aH):bh g (aG s') w:=by
 refine(h.TU (es:=l.map (enc S (.st n))) d h1 (by simpa using e) p).V4 h4 λk=>?_;show _=(b.ob.set aJ o _).get k;rw[Tr.aX _ _ _ _ d];by_cases i:k=o
 .subst i;rw[bJ rfl,aY,h2];rfl
 .rw[br i,h3 k i]
def fS(b:o<bB)(ob:Ob)(k:Nat):(jY s o ob).ob.get k=if k=o then Z ob else(aG s).ob.get k:=Tr.aX _ _ _ _ b
def I9{es:List D}(h1:es[k]?=Z d)(h2:hl[k]?=Z h):D.el (lits j es hl) k=iN j d h:=by simp[D.el,lits,List.getD,IT,h1,h2]
def IB(h:aK g w (.sh o r) v):∃x,g.arr o r=Z x∧v=.slice x.a x.len x.cap:=by cases h with|sh _ _ len cap sz a b=>exact⟨_,b,rfl⟩
def QK{e:Nat}(h:aK g w (.kA o e i off) v):∃x,g.arr o e=Z x:=by cases h with|kA _ _ _ _ len cap sz d b=>exact⟨_,b⟩
def Qu(h:aK g w (.qd o m r i) v):∃y,g.arr m (rc r i)=Z y∧v=.slice y.a y.len y.cap:=by cases h with|qd _ _ _ _ len cap sz a b=>exact⟨_,b,rfl⟩
def RN(fr:Fr)(x:Operand)(t:T):Fr:=match x with
 | .tmp k=>{fr with tm:=fr.tm.set aJ k t}
 |_=>fr
def Ln{fr:Fr}(hf:cF g fr a w){u t:T}(j:fr.get k=Z u)(b:k<bB)(l:aK g w t (a.eval (.tmp k))):cF g (RN fr (.tmp k) t) a w:=by
 refine⟨hf.size,hf.df,λd m h=>?_⟩;simp only[RN,Fr.get]at h;rw[Tr.aX _ _ _ _ b]at h;split at h
 .rename_i e;subst e;cases h;obtain⟨v,i,_⟩:=hf.tm _ _ j;refine⟨v,i,?_⟩;have:a.eval (.tmp d)=v:=by simp[Act.eval,i]
  rw[<-this];exact l
 .exact hf.tm d m h
def RR{i:TI}(e:Nat.ble (Nat.add off i.size) j=W∨Nat.blt j off=W):nr i (iN j d h) off=nr i d off:=by
 have b:∀q,(off<=q∧q<off+i.size)->(iN j d h).cell q=d.cell q:=by
  intro q k;have g:j≠q:=by
   rcases e with e|e
   .have:=fQ e;simp only[Nat.add_eq]at this;omega
   .have:j<off:=fQ e;omega
  show(d.cells.set j _).getD q _=d.cells.getD q _;simp only[List.getD,KQ g]
 unfold nr;cases i.agg with
 |true=>
  simp only[cG]
  congr 2
  refine Lf λq k=>?_;have:=b (Nat.add off q) ⟨Nat.le_add_right _ _,Nat.add_lt_add_left (KW.1 k) _⟩;rw[this]
 |false=>
  simp only[dP];cases l:Nat.beq i.size 1 with|true=>have:=beq_iff'.1 l;simp only[cG];rw[b off ⟨bP _,by omega⟩]|false=>rfl
def Kz(s:St):∀{l:List T}{p:Prop}{ds:List D}{os:List Nat}{j:Nat},lG s l=Z (p,ds,os)->l[j]?=Z .emp->∀v,∃e,lG s (l.set j (.sym (.lit v)))=Z (e,ds.set j (.lit v),os)∧(p->e)∧ds[j]?=Z (.sl [])
 |[],p,ds,os,j,_,b,v=>by simp at b
 |t::l,p,ds,os,j,h,b,v=>by
  simp only[lG]at h;split at h
  .rename_i q d g r i k h1 h2;simp only[bg,bC]at h;obtain⟨rfl,rfl,rfl⟩:=h;cases j with
   |zero=>simp only[rM,bg]at b;subst b;simp only[uZ,bg,bC]at h1;obtain⟨rfl,rfl,rfl⟩:=h1;exact⟨True∧r,by simp only[List.set_cons_zero,lG,uZ,h2],λh=>h,rfl⟩
   |succ j=>obtain⟨e,m,u,w⟩:=Kz s h2 (by simpa using b) v;exact⟨q∧e,by simp only[List.set_cons_succ,lG,h1,m],λh=>⟨h.1,u h.2⟩,by simpa using w⟩
  .cases h
def Yy{E:gA}(hS:fh S)(hT:zu E.E)(X0:O8 S E){fr:bW S}(hf:cF g (bz fr) a w)(hs:bh g (aG s) w)(o:Oper){c:Bool}{t:V S}(h:z4 E fr s o.op=Z (c,t,s'))(hc:c=W) :
  ∃v w' g',((execOp a.eval o).run E.E.P w=.ok (.value v) w'∨((execOp a.eval o).run E.E.P w=.ok .skip w'∧v=undef))∧aK g' w' (low t) v∧cM [] s g w s' g' w':=by
 unfold z4 at h;split at h
 ·
  rename_i ty x ix L;split at h;rotate_left
  .cases h
  rename_i M r hx;split at h;rotate_left
  .cases h
  rename_i n j l era m gE hole El;split at h;rotate_left
  .cases h
  rename_i i n' kv hi LU hix;split at h;rotate_left
  .cases h
  rename_i sz ag bt zz k nt hk;rcases af h with⟨hb,b⟩|⟨_,b⟩;rotate_left
  .cases b
  simp only[dR]at hb;have Zj:=beq_iff'.1 hb.1;subst Zj;have hnn:=beq_iff'.1 hb.2;subst hnn;simp only[bg,bC]at b;obtain⟨rfl,rfl,rfl⟩:=b;obtain⟨xs,H,_⟩:=IB (cW hf hx);have B:M<bB:=dy (hs.lt' H) hs.aH;obtain⟨hl,h1,h2,h3,h4⟩:=GC hs El H;obtain⟨p,hp1,hp⟩:=fJ hk;obtain⟨⟨z,LW,_⟩,_⟩:=X0.row _ _ _ hi LU;have hin:=tX hc;have hbq:Nat.beq (S.width (.st n)) (S.width (.st n))=W:=beq_iff'.2 rfl;have G:(lits j (l.map (enc S (.st n))) hl).length=l.length:=by rw[lq (by simpa using h1)];simp
  obtain⟨⟨v,w',g',hr,C,X,ht⟩,q1,q2,q3⟩:=lZ hT hf h4 o (p:=p∧D.Gg k (D.len (lits j (l.map (enc S (.st n))) hl))) (t:=.kA M r (D.nat k) 0) (s':=jY s M (.arr (S.width (.st n)) (lits j (l.map (enc S (.st n))) hl) r)) (by
   rw[L];simp only[mV,hi,bV hx,bV hix,kq,LW,hp1,low,Gv];rw[fS B,bJ rfl];simp only[show Nat.beq r r=W from beq_iff'.2 rfl,cG,hbq]) ⟨hp,by simp only[D.Gg,D.len,G];omega⟩
  refine⟨v,w',g',hr,ht,cM.lM hs ?_ X rfl rfl (bP _) (iE.refl _)⟩;refine xU C B (by rw[fS B,bJ rfl]) h1 (h3.le (λj y=>X.arr m j y)) El (λk hk=>by rw[fS B,br hk]) rfl
 ·
  rename_i ty x L;split at h;rotate_left
  .cases h
  rename_i M e k off hx;split at h;rotate_left
  .cases h
  rename_i n j l era m gE hole El;split at h;rotate_left
  .cases h
  rename_i i hi;rcases af h with⟨hb,b⟩|⟨_,b⟩;rotate_left
  .cases b
  clear h;have Zj:=beq_iff'.1 hb;subst Zj;obtain⟨xs,H⟩:=QK (cW hf hx);have B:M<bB:=dy (hs.lt' H) hs.aH;obtain⟨hl,h1,h2,h3,h4⟩:=GC hs El H;have G:(lits j (l.map (enc S (.st n))) hl).length=l.length:=by rw[lq (by simpa using h1)];simp
  have back:∀{g':Gh}{w':World},bh g' (jY s M (.arr (S.width (.st n)) (lits j (l.map (enc S (.st n))) hl) e)) w'->Ext s.fl g w g' w'->cM [] s g w s g' w':=λC X=>
   cM.lM hs (xU C B (by rw[fS B,bJ rfl]) h1 (h3.le (λj y=>X.arr m j y)) El (λk hk=>by rw[fS B,br hk]) rfl) X rfl rfl (bP _) (iE.refl _)
  rcases af b with⟨hj,h⟩|⟨hj,h⟩
  ·
   clear b;rcases af h with⟨I,b⟩|⟨_,b⟩;rotate_left
   .cases b
   simp only[dR,Dp]at I;simp only[bg,bC]at b;obtain⟨rfl,rfl,rfl⟩:=b;have hoff:=beq_iff'.1 hj;subst hoff;have hk:=qS hc;have hel:D.el (lits off (l.map (enc S (.st n))) hl) k=iN off (enc S (.st n) l[k]) (hl[k]'(by omega)):=I9 (by rw[gK,fP hk];rfl) (fP _);have hrow:=h2.rows _ (gY (by rw[lits,IT,gK,fP hk,fP (by omega:k<hl.length)];rfl:(lits off (l.map (enc S (.st n))) hl)[k]?=Z (iN off (enc S (.st n) l[k]) (hl[k]'(by omega)))));have hsz:i.size=1:=beq_iff'.1 I.1;have O:off<S.width (.st n):=fQ I.2.2.2;have hcell:(iN off (enc S (.st n) l[k]) (hl[k]'(by omega))).cell off=.lit (hl[k]'(by omega)):=by
    show((enc S (.st n) l[k]).cells.set off _).getD off _=_;have:off<(enc S (.st n) l[k]).cells.length:=by rw[jM hS];exact O
    simp[List.getD,this]
   obtain⟨⟨v,w',g',hr,C,X,ht⟩,q1,q2,q3⟩:=lZ hT hf h4 o (t:=.sym (.lit (hl[k]'(by omega)))) (s':=jY s M (.arr (S.width (.st n)) (lits off (l.map (enc S (.st n))) hl) e)) (p:=D.Gg (k:Int) (D.len (lits off (l.map (enc S (.st n))) hl))∧(D.el (lits off (l.map (enc S (.st n))) hl) k).has (Nat.add off i.size)) (by
    rw[L];simp only[mV,hi,bV hx,low,loadT,Gv];rw[fS B,bJ rfl];simp only[show Nat.beq e e=W from beq_iff'.2 rfl,cG,hel,nr,I.2.1,dP,I.1,hcell,dX]) ⟨by simp only[D.Gg,D.len,G];omega,by
     rw[hel];show Nat.add off i.size<=_;rw[hrow,hsz];exact O⟩
   have hv:=aK.Jh ht;obtain⟨y,hy,hye⟩:=h3.2 k _ (fP (by omega)) (by
    intro e;rw[e]at I;exact Bool.noConfusion I.2.2.1)
   refine⟨v,w',g',hr,?_,back C X⟩;rw[hv,hye];exact .qd _ _ _ _ _ _ y.sz _ (X.arr _ _ _ hy)
  ·
   clear b;rcases af h with⟨I,b⟩|⟨_,b⟩;rotate_left
   .cases b
   simp only[eC,bC]at b;obtain⟨u,hu,rfl,rfl,rfl⟩:=b;rw[jQ]at I;have hk:=qS hc;obtain⟨p1,p2⟩:=zZ hS (i:=i) (τ:=Y) (λu h=>by cases h) hu;have hex:aR l k (S.zero (.st n))=l[k]:=by simp[aR,List.getD,hk]
   rw[hex]at p1 p2;have hel:D.el (lits j (l.map (enc S (.st n))) hl) k=iN j (enc S (.st n) l[k]) (hl[k]'(by omega)):=I9 (by rw[gK,fP hk];rfl) (fP _);obtain⟨⟨v,w',g',hr,C,X,ht⟩,q1,q2,q3⟩:=lZ hT hf h4 o (t:=low u) (s':=jY s M (.arr (S.width (.st n)) (lits j (l.map (enc S (.st n))) hl) e)) (p:=D.Gg (k:Int) (D.len (lits j (l.map (enc S (.st n))) hl))∧(D.el (lits j (l.map (enc S (.st n))) hl) k).has (Nat.add off i.size)) (by
    rw[L];simp only[mV,hi,bV hx,low,loadT,Gv];rw[fS B,bJ rfl];simp only[show Nat.beq e e=W from beq_iff'.2 rfl,cG,hel,RR I,p1,dX]) ⟨by simp only[D.Gg,D.len,G];omega,by
     rw[hel];show Nat.add off i.size<=((enc S (.st n) l[k]).cells.set j _).length;rw[zT];exact p2⟩
   exact⟨v,w',g',hr,ht,back C X⟩
 ·
  rename_i ty x K L;split at h;rotate_left
  .cases h
  rename_i M e k off R m' r i hx hy;split at h;rotate_left
  .cases h
  rename_i n j l era m gE hh El;split at h;rotate_left
  .cases h
  rename_i ti hi;rcases af h with⟨hb,b⟩|⟨_,b⟩;rotate_left
  .cases b
  clear h;simp only[dR,Dp]at hb;obtain⟨b1,b2,b3,b4,b5,b6,b7,b8,b9,b10⟩:=hb;have e1:=beq_iff'.1 b1;subst e1;have e2:=beq_iff'.1 b2;subst e2;have e3:=beq_iff'.1 b3;subst e3;have e4:=beq_iff'.1 b4;subst e4;have e5:=beq_iff'.1 b5;subst e5;simp only[bg,bC]at b;obtain⟨rfl,rfl,rfl⟩:=b;unfold VI at hc;simp only[dR]at hc;have hk:=qS hc.1;have e6:=beq_iff'.1 hc.2.1;subst e6;have e7:=beq_iff'.1 hc.2.2;subst e7;obtain⟨xs,H⟩:=QK (cW hf hx);have B:R<bB:=dy (hs.lt' H) hs.aH;obtain⟨hl,h1,h2,h3,h4⟩:=GC hs El H;have G:(lits off (l.map (enc S (.st n))) hl).length=l.length:=by rw[lq (by simpa using h1)];simp
  have O:off<S.width (.st n):=fQ b9;have hfl:=b8;have hval:=cW hf (x:=.tmp K) (v:=.qd R m' r i) hy;obtain⟨y,hy1,hye⟩:=Qu hval;have hel:D.el (lits off (l.map (enc S (.st n))) hl) i=iN off (enc S (.st n) l[i]) (hl[i]'(by omega)):=I9 (by rw[gK,fP hk];rfl) (fP _);have hf':=Ln hf (k:=K) (u:=low (.qd R m' r i)) (t:=.sym (.lit (.slice y.a y.len y.cap))) (by show(bz fr).get K=_;rw[bQ,hy];rfl) (fQ b10) (by rw[hye];exact .sym _ _ (.lit _));have acC:jo (RN (bz fr) (.tmp K) (.sym (.lit (.slice y.a y.len y.cap)))) (.tmp K)=Z (.sym (.lit (.slice y.a y.len y.cap))):=by show((bz fr).tm.set aJ K _).get K=_;rw[Tr.aX _ _ _ _ (fQ b10),bJ rfl]
  have alQ:jo (RN (bz fr) (.tmp K) (.sym (.lit (.slice y.a y.len y.cap)))) x=Z (.kA R e i off):=by
   have h0:=bV hx;cases x with
   |tmp k2=>
    show((bz fr).tm.set aJ K _).get k2=_;rw[Tr.dc _ _ _ _ _ (λe=>by
     subst e;have h5:fr.get k2=Z (.kA R e i off):=hx;rw[hy]at h5;cases h5)]
    exact h0
   |_=>exact h0
  have afT:(iN off (enc S (.st n) l[i]) (hl[i]'(by omega))).PI off [.lit (.slice y.a y.len y.cap)]=iN off (enc S (.st n) l[i]) (.slice y.a y.len y.cap):=by
   have hlt:off<(enc S (.st n) l[i]).cells.length:=by rw[jM hS];exact O
   show D.agg _=D.agg _
   congr 1
   rw[List.take_set_of_le (bP _),mZ,List.drop_set_of_lt (Nat.lt_succ_self _)];apply Le;intro q;simp only[p8,kY,zV,Dq,vK,Dr,mZ];rcases Nat.lt_trichotomy q off with hq|hq|hq
   .rw[bJ (by omega),bJ hq,br (by omega)]
   .subst hq;rw[br (by omega),bJ (by omega),bJ rfl,bJ hlt];simp[Nat.min_eq_left (Nat.le_of_lt hlt)]
   .rw[br (by omega),br (by omega),br (by omega)]
    congr 1
    omega
  have hby:(iN off (enc S (.st n) l[i]) (.slice y.a y.len y.cap)).qu=(iN off (enc S (.st n) l[i]) (hl[i]'(by omega))).qu:=by obtain⟨a0,n0,m0,he0⟩:=h3.1 i _ (fP (by omega:i<hl.length));rw[he0,<-yU off (enc S (.st n) l[i]) [] a0 n0 m0,<-yU off (enc S (.st n) l[i]) [] y.a y.len y.cap]
  have hleaf:(D.lit (.slice y.a y.len y.cap)).leaf=W:=rfl;have SI:(iN off (enc S (.st n) l[i]) (hl[i]'(by omega))).isAgg (S.width (.st n))=W:=by
   obtain⟨a0,n0,m0,he0⟩:=h3.1 i _ (fP (by omega:i<hl.length));rw[he0];show(Nat.beq (cz ((enc S (.st n) l[i]).cells.set off _)) _&&((enc S (.st n) l[i]).cells.set off _).all D.leaf)=W;rw[dR,bK,zT,jM hS];refine⟨beq_iff'.2 rfl,eA.2 λd hd=>?_⟩;rcases Ll hd with hd|rfl
   .rw[show(enc S (.st n) l[i]).cells=gq S (S.fs n) (S.get n l[i])from hS.cells n _]at hd;exact gR _ _ (hS.leaf n) d hd
   .rfl
  have hput:D.put (lits off (l.map (enc S (.st n))) hl) i (iN off (enc S (.st n) l[i]) (.slice y.a y.len y.cap))=lits off (l.map (enc S (.st n))) (hl.set i (.slice y.a y.len y.cap)):=by
   apply Le;intro q;simp only[D.put,lits];by_cases hq:i=q
   .subst hq;rw[KR (by simp;omega),IT,gK,KR (by omega),fP hk];rfl
   .rw[KQ hq,IT,IT,KQ hq]
  obtain⟨⟨v,w',g',hr,C,X,ht⟩,q1,q2,q3⟩:=lZ hT hf' h4 o (t:=PJ) (s':={jY s R (.arr (S.width (.st n)) (lits off (l.map (enc S (.st n))) hl) e)with ob:=(jY s R (.arr (S.width (.st n)) (lits off (l.map (enc S (.st n))) hl) e)).ob.set aJ R (.arr (S.width (.st n)) (lits off (l.map (enc S (.st n))) (hl.set i (.slice y.a y.len y.cap))) e)})
   (p:=(D.lit (.slice y.a y.len y.cap)).leaf=W∧(True∧True)∧[D.lit (.slice y.a y.len y.cap)].all D.leaf=W∧D.Gg (i:Int) (D.len (lits off (l.map (enc S (.st n))) hl))∧(iN off (enc S (.st n) l[i]) (hl[i]'(by omega))).PO (S.width (.st n)) off (cz [D.lit (.slice y.a y.len y.cap)])∧Nat.ble (Nat.add off (cz [D.lit (.slice y.a y.len y.cap)])) (S.width (.st n))=W∧((iN off (enc S (.st n) l[i]) (hl[i]'(by omega))).PI off [.lit (.slice y.a y.len y.cap)]).qu=(iN off (enc S (.st n) l[i]) (hl[i]'(by omega))).qu) (by
   rw[L];have hg:=fS (s:=s) B (.arr (S.width (.st n)) (lits off (l.map (enc S (.st n))) hl) e) R;rw[bJ rfl]at hg;have ams:Nat.ble (jY s R (.arr (S.width (.st n)) (lits off (l.map (enc S (.st n))) hl) e)).fl R=W:=b8;simp only[mV,hi,alQ,acC,storeT,iQ,b7,b6,dP,cG,lG,uZ,iT,freeze,hg,ams,show Nat.beq e e=W from beq_iff'.2 rfl,GW,hel,afT,hput]) ⟨rfl,⟨trivial,trivial⟩,rfl,⟨Int.natCast_nonneg _,by show(i:Int)<((lits off (l.map (enc S (.st n))) hl).length:Int);rw[G];exact Int.ofNat_lt.2 hk⟩,.inl SI,Ga (by show off+1<=_;omega),by rw[afT,hby]⟩
  have hgn:∀q,({jY s R (.arr (S.width (.st n)) (lits off (l.map (enc S (.st n))) hl) e)with ob:=(jY s R (.arr (S.width (.st n)) (lits off (l.map (enc S (.st n))) hl) e)).ob.set aJ R (.arr (S.width (.st n)) (lits off (l.map (enc S (.st n))) (hl.set i (.slice y.a y.len y.cap))) e)}:St).ob.get q=if q=R then Z (.arr (S.width (.st n)) (lits off (l.map (enc S (.st n))) (hl.set i (.slice y.a y.len y.cap))) e)else(jY s R (.arr (S.width (.st n)) (lits off (l.map (enc S (.st n))) hl) e)).ob.get q:=λq=>Tr.aX _ _ _ _ B
  refine⟨v,w',g',hr,ht,cM.lM hs (xU C (hl:=hl.set i (.slice y.a y.len y.cap)) B (by rw[hgn,bJ rfl]) (by simpa using h1) ⟨λq hv hq=>?_,λq hv hq _=>?_⟩ (by show(s.ob.set aJ R _).get R=_;rw[Tr.aX _ _ _ _ B,bJ rfl]) (λq hq=>?_) rfl) X rfl rfl (bP _) (rD _ _ _)⟩
  .rw[Dq]at hq;split at hq
   .rw[bJ (by omega)]at hq;cases hq;exact⟨_,_,_,rfl⟩
   .exact h3.1 q hv hq
  .rw[Dq]at hq;split at hq
   .rename_i e;subst e;rw[bJ (by omega)]at hq;cases hq;exact⟨y,X.arr _ _ _ hy1,rfl⟩
   .rename_i e;obtain⟨yy,k1,k2⟩:=h3.2 q hv hq (λh=>e (eK h));exact⟨yy,X.arr _ _ _ k1,k2⟩
  .rw[hgn,br hq,fS B,br hq,aY,aY];show((s.ob.set aJ R _).get q).map cQ=_;rw[Tr.aX _ _ _ _ B,br hq]
 ·
  rename_i ty len parts L;split at h;rotate_left
  .rename_i U;split at h;rotate_left
   .cases h
   rename_i i e hi LU;split at h;rotate_left
   .cases h
   rename_i sz ag bt zz nt;rcases af h with⟨hb,b⟩|⟨_,b⟩;rotate_left
   .cases b
   simp only[bg,bC]at b;obtain⟨_,rfl,rfl⟩:=b;have G:len=0:=beq_iff'.1 hb;subst G;have hle:Nat.ble (Nat.mul 0 sz) 16777216=W:=by rw[show Nat.mul 0 sz=0 from Nat.zero_mul sz];rfl
   have h0:cm E fr s o.op=Z (W,.jy 0 e [],s):=by rw[L];simp only[cm,hi,LU,U,ir,nt,hle,cG,List.replicate_zero,l7,dz,dX]
   obtain⟨p,alR,hp⟩:=LB hS X0 h0 rfl;obtain⟨⟨v,w',g',hr,C,X,ht⟩,q1,q2,q3⟩:=lZ hT hf hs o alR hp;refine⟨v,w',g',hr,?_,cM.lM hs C X q1 q2 q3 (kI (show dz s []=Z s from rfl))⟩;cases ht with|jy _ _ a0 hn0 hd=>exact .emp a0
  .cases h
  rename_i K U;split at h;rotate_left
  .cases h
  rename_i i n cs hi LU hkx;split at h;rotate_left
  .cases h
  rename_i j hnst;split at h;rotate_left
  .cases h
  rename_i sz ag bt zz nt hnj;rcases af h with⟨hb,b⟩|⟨_,b⟩;rotate_left
  .cases b
  clear h;split at b;rotate_left
  .cases b
  rename_i x os hx;simp only[eC,bC]at b;obtain⟨s1,Kl,_,rfl,rfl⟩:=b;simp only[dR]at hb;have agj:=beq_iff'.1 hb.1;subst agj;have hkN:K<bB:=fQ hb.2.2;obtain⟨⟨z,LW,hz⟩,_,_,hpos⟩:=X0.row _ _ _ hi LU;rw[nt]at LW;obtain⟨rfl,rfl,rfl,rfl⟩:=Kd.slice.inj LW;have hfz:=cY hS os Kl;have hval:=cW hf (x:=.tmp K) (v:=.agg cs) hkx;generalize hve:a.eval (.tmp K)=ve at hval;obtain⟨vs,rfl,lO⟩:=aK.Qy hval;have hcj:(bn cs)[j]?=Z .emp:=by rw[jq]at hnj;rw[ga,gK,hnj];rfl
  obtain⟨vj,hvj⟩:∃vj,vs.toList[j]?=Z vj:=by have:=aF hcj;exact⟨_,fP (by have:=lO.1;omega)⟩
  have amz:=lO.2 j _ _ hcj hvj;obtain⟨c,rfl⟩:∃c,vj=.slice c 0 0:=by cases amz with|emp c=>exact⟨c,rfl⟩
  have afR:aK g w (.agg ((bn cs).set j (.sym (.lit (.slice c 0 0))))) (.agg vs):=by
   refine .agg _ vs (by rw[zT];simpa using lO.1) λq t v h1 h2=>?_;rw[Dq]at h1;split at h1
   .rename_i e;subst e;rw[bJ (aF hcj)]at h1;cases h1;have:vs.toList[j]?=Z v:=by simpa using h2
    rw[hvj]at this;cases this;exact .sym _ _ (.lit _)
   .exact lO.2 q t v h1 (by simpa using h2)
  have hf':=Ln hf (k:=K) (u:=low (.agg cs)) (t:=.agg ((bn cs).set j (.sym (.lit (.slice c 0 0))))) (by show(bz fr).get K=_;rw[bQ,hkx];rfl) hkN (by rw[hve];exact afR);have acC:jo (RN (bz fr) (.tmp K) (.agg ((bn cs).set j (.sym (.lit (.slice c 0 0)))))) (.tmp K)=Z (.agg ((bn cs).set j (.sym (.lit (.slice c 0 0))))):=by show((bz fr).tm.set aJ K _).get K=_;rw[Tr.aX _ _ _ _ hkN,bJ rfl]
  simp only[bO]at hx;split at hx;rotate_left
  .cases hx
  rename_i hh os' H;simp only[bg,bC]at hx;obtain⟨rfl,rfl⟩:=hx;obtain⟨q,hq,hqp⟩:=qw hS s _ _ H;obtain⟨q',XW,hqq,HH⟩:=Kz (aG s) hq hcj (.slice c 0 0);have VW:(enc S (.st n) (S.U5 n hh)).cells=gq S (S.fs n) hh:=by show S.cells n _=_;rw[hS.cells,hS.ud]
  have hzl:cz zz=S.width (.st n):=by simp only[jk,cG,enc,D.agg.injEq]at hz;rw[hz];simp only[Sg.width,bK];rw[show S.cells n (S.zero (.st n))=_ from hS.cells n _,lA]
  have agw:((jk (.st n)||Nat.beq (S.width (.st n)) 1)&&(Nat.beq (cz zz) (S.width (.st n))&&(!(Nat.beq (S.width (.st n)) 0)&&Nat.ble (Nat.mul 1 (S.width (.st n))) 16777216)))=W:=by rw[hzl];simp only[dR,Dp];refine⟨rfl,beq_iff'.2 rfl,?_,by simpa using hb.2.1⟩;cases hq:Nat.beq (S.width (.st n)) 0 with|false=>rfl|true=>have:=beq_iff'.1 hq;omega
  have SI:(D.agg ((gq S (S.fs n) hh).set j (.lit (.slice c 0 0)))).isAgg (S.width (.st n))=W:=by
   show(Nat.beq (cz ((gq S (S.fs n) hh).set j _)) _&&((gq S (S.fs n) hh).set j _).all D.leaf)=W;rw[dR,bK,zT,lA];refine⟨beq_iff'.2 (bK _).symm,eA.2 λd hd=>?_⟩;rcases Ll hd with hd|rfl
   .exact gR _ _ (hS.leaf n) d hd
   .rfl
  have hall:((gq S (S.fs n) hh).set j (.lit (.slice c 0 0))).all D.leaf=W:=by have h0:(Nat.beq (cz ((gq S (S.fs n) hh).set j _)) _&&((gq S (S.fs n) hh).set j (.lit (.slice c 0 0))).all D.leaf)=W:=SI;rw[dR]at h0;exact h0.2
  obtain⟨⟨v,w',g',hr,C,X,ht⟩,q1,q2,q3⟩:=lZ hT hf' hs o (t:=.jy 1 [D.agg ((gq S (S.fs n) hh).set j (.lit (.slice c 0 0)))]) (s':=aG s1)
   (p:=(q'∧((gq S (S.fs n) hh).set j (.lit (.slice c 0 0))).all D.leaf=W)∧(D.agg ((gq S (S.fs n) hh).set j (.lit (.slice c 0 0)))).isAgg (S.width (.st n))=W∧True) (by
   rw[L];have hps:p9 (RN (bz fr) (.tmp K) (.agg ((bn cs).set j (.sym (.lit (.slice c 0 0)))))) parts.toList=Z [(0,.agg ((bn cs).set j (.sym (.lit (.slice c 0 0)))))]:=by rw[U];simp only[p9,acC]
   simp only[mV,hi,hps,nt,cG,m8,uZ,XW,List.replicate,cz,jk,show Nat.blt 0 (Nat.succ 0)=W from rfl,List.set_cons_zero,iT,hfz,dX];have acS:((W||Nat.beq (S.width (.st n)) 1)&&(Nat.beq (cz zz) (S.width (.st n))&&(!(Nat.beq (S.width (.st n)) 0)&&Nat.ble (Nat.mul 1 (S.width (.st n))) 16777216)))=W:=agw;rw[acS];rfl) ⟨⟨hqq hqp,hall⟩,SI,trivial⟩
  refine⟨v,w',g',hr,?_,cM.lM hs C X q1 q2 q3 (kI Kl)⟩;cases ht with
  |jy _ _ a0 hn0 hd=>
   refine .nQ _ _ c a0 ?_ ?_
   .rw[VW];exact HH
   .show ee g'.bA w' (.sl [D.agg ((enc S (.st n) (S.U5 n hh)).cells.set j _)]) _;rw[VW];exact hd
 .cases h
end
end
section
section
variable {g:Gh}{w:World}
def bh.Ys{s:St}(hs:bh g s w){m sz r:Nat}{hU:List (List D)}(C:s.ob.get m=Z (.rws sz hU r))(O:m<s.aH)(h0:0<sz)(c:Option Addr) :
  bh (g.era m (rc r hU.length) ⟨c,0,0,sz⟩) {s with ob:=s.ob.set aJ m (.rws sz (hU++[[]]) r)} w∧Ext s.fl g w (g.era m (rc r hU.length) ⟨c,0,0,sz⟩) w:=by
 have R:m<bB:=dy O hs.aH;have t:g.arr m (rc r hU.length)=Y:=by cases h:g.arr m (rc r hU.length)with|none=>rfl|some y=>obtain⟨_,rs,h2,_⟩:=(hs.om C h).2.2 _ rfl;have:=aF h2;omega
 have q:∀k j y,g.arr k j=Z y->(g.era m (rc r hU.length) ⟨c,0,0,sz⟩).arr k j=Z y:=λk j y h=>by
  rw[Gh.cq]
  .exact h
  .rintro ⟨rfl,rfl⟩
   rw[t]at h;cases h
 have l:∀k b,bM (g.era m (rc r hU.length) ⟨c,0,0,sz⟩) k b->bM g k b:=by
  rintro k b ⟨h1,h2|⟨j,y,L,h2,h3,h4,h5⟩⟩
  .exact ⟨h1,.inl h2⟩
  .by_cases G:k=m∧j=rc r hU.length
   .obtain ⟨rfl,rfl⟩:=G;rw[Gh.fy]at h2;cases h2;exact absurd rfl h5
   .rw[Gh.cq _ _ _ _ _ _ G]at h2;exact⟨h1,.inr ⟨j,y,L,h2,h3,h4,h5⟩⟩
 have he:Ext s.fl g w (g.era m (rc r hU.length) ⟨c,0,0,sz⟩) w:=
  ⟨λ_ _ h=>h,q,λ_ h=>h,bP _,λ_ _ _=>rfl,λk b h=>.inl (l k b h),λ_ h=>.inl h,rfl,rfl⟩
 have cL:∀k,(s.ob.set aJ m (.rws sz (hU++[[]]) r)).get k=if k=m then Z (.rws sz (hU++[[]]) r)else s.ob.get k:=λk=>Tr.aX _ _ _ _ R
 have S:=hs.yI C rfl;refine⟨⟨hs.aH,λk U=>⟨(hs.ai k U).1,λj=>?_⟩,λk b hb=>?_,λk j y p=>?_,hs.bA,λk k' b h h'=>hs.lV k k' b (l k b h) (l k' b h')⟩,he⟩
 .rw[Gh.cq _ _ _ _ _ _ (by rintro⟨rfl,_⟩;simp only at U;omega)];exact(hs.ai k U).2 j
 .have u:g.cg k=Z b:=hb;have e:k≠m:=by rintro rfl;rw[S]at u;cases u
  obtain⟨h1,h2,h3⟩:=hs.box k b u;refine⟨h1,h2,λob d=>?_⟩;simp only[]at d;rw[cL,br e]at d;obtain⟨x,k1,k2⟩:=h3 ob d;exact⟨x,k1,k2.ext he hs.bA⟩
 .by_cases e:k=m
  .subst e;have X:∀v i,r<v->g.arr k (rc v i)=Y:=λv i B=>by cases h:g.arr k (rc v i)with|none=>rfl|some z=>rw[(hs.om C h).1 v i B]at h;cases h
   have hbd:∀L,y.a=Z L->y.cap≠0->L.block<w.heap.size:=by
    by_cases M:j=rc r hU.length
    .subst M;rw[Gh.fy]at p;cases p;exact λ_ _ h=>absurd rfl h
    .rw[Gh.cq _ _ _ _ _ _ (λh=>M h.2)]at p;exact(hs.arr k j y p).1
   refine⟨hbd,λob d=>?_⟩;simp only[]at d;rw[cL,bJ rfl]at d;obtain rfl:=eK d;refine .inr (.inr (.inl ⟨sz,hU++[[]],r,rfl,λv i B=>?_,λi1 i2 y1 y2 hne h1 h2 b H I=>?_,λi M=>?_⟩))
   .rw[Gh.cq _ _ _ _ _ _ (λh=>by have:=(p7 h.2).1;omega)];exact X v i B
   .by_cases K:i1=hU.length
    .subst K;rw[Gh.fy]at h1;cases h1;obtain⟨_,_,_,h⟩:=H;exact absurd rfl h
    .by_cases e2:i2=hU.length
     .subst e2;rw[Gh.fy]at h2;cases h2;obtain⟨_,_,_,h⟩:=I;exact absurd rfl h
     .rw[Gh.cq _ _ _ _ _ _ (λh=>K (p7 h.2).2)]at h1;rw[Gh.cq _ _ _ _ _ _ (λh=>e2 (p7 h.2).2)]at h2;exact(hs.om C h1).2.1 i1 i2 y1 y2 hne h1 h2 b H I
   .subst M;by_cases K:i=hU.length
    .subst K;rw[Gh.fy]at p;cases p;exact⟨rfl,[],by simp,⟨rfl,bP _,by simp,h0,by simp,λ_=>rfl,λh=>absurd rfl h⟩⟩
    .rw[Gh.cq _ _ _ _ _ _ (λh=>K (p7 h.2).2)]at p;obtain⟨q1,rs,q2,q3⟩:=(hs.om C p).2.2 i rfl;exact⟨q1,rs,by rw[kY,bJ (aF q2)];exact q2,q3.jT rfl⟩
  .have hy':g.arr k j=Z y:=by rw[Gh.cq _ _ _ _ _ _ (λh=>e h.1)]at p;exact p
   obtain⟨h1,h2⟩:=hs.arr k j y hy';refine⟨h1,λob d=>?_⟩;simp only[]at d;rw[cL,br e]at d;exact(h2 ob d).tr (λh=>h.jT rfl) q (funext λj=>Gh.cq _ _ _ _ _ _ (λh=>e h.1))
variable {a:Act}{o:Oper}{n j:Nat}
def Ib{P:Program}{c:Call}(g:o.op=.call c)(k:c.callee=.builtin .append){u v:Operand}{ty i:TypeId}(l:c.args=#[u,v])(j:c.argTypes=#[ty,i]){R:Value->World->Prop}(h:FJ P ty i o.type (a.eval u) (a.eval v) w R)
  {K:Act->World->Prop} {Q:Exit->Act->World->Prop} (m:∀v w',R v w'->K (a.put o.dst v) w'):o.wp P a w K Q∨(o.asks P a w∧LetsOut Q):=by
 have d:o.op=.call {callee:=.builtin .append,args:=#[u,v],argTypes:=#[ty,i]}:=by rw[g,<-l,<-j,<-k]
 obtain⟨r,w',e,p⟩:=h
 left
 unfold Oper.wp;have b:(execOp a.eval o).run P w=.ok (.value r) w':=by simp[execOp,d,resolve,invoke,builtin,e]
 rw[b];exact m r w' p
def args2{l:Array Operand}{x y:T}(b:PW (aK g w) [x,y] (l.toList.map a.eval)):∃u v,l=#[u,v]∧aK g w x (a.eval u)∧aK g w y (a.eval v):=by
 have e:l.size=2:=by have:=b.1;simpa using this.symm
 obtain⟨u,v,d⟩:∃u v,l=#[u,v]:=⟨l[0],l[1],by
  apply Array.ext
  .simp[e]
  .intro i h1 h2;have:i=0∨i=1:=by omega
   rcases this with rfl|rfl<;>rfl⟩
 exact⟨u,v,d,b.2 0 _ _ rfl (by simp[d]),b.2 1 _ _ rfl (by simp[d])⟩
def YH(b:fh S){t:Ty}(d:Cd S n j t=W)(x:S.A n)(c:Option Addr)(p q:Nat):(iN j (enc S (.st n) x) (.slice c p q)).qu=(enc S (.st n) x).qu:=by
 have h:yV j (enc S (.st n) x) ((Gi n j t x).map (enc S t))=enc S (.st n) x:=by
  show D.agg ((S.cells n x).set j _)=D.agg (S.cells n x);have:(S.cells n x)[j]?=Z (.sl ((Gi n j t x).map (enc S t))):=by rw[b.cells];exact HQ (EV d)
  rw[GL this]
 rw[<-yU j _ ((Gi n j t x).map (enc S t)),h]
def Sk(e:fh S)(x:S.A n)(c:Option Addr)(p q:Nat):(iN j (enc S (.st n) x) (.slice c p q)).flat=W:=by
 show((S.cells n x).set j _).all D.leaf=W;refine eA.2 λd b=>?_;rcases Ll b with b|rfl
 .rw[e.cells]at b;exact gR _ _ (e.leaf n) d b
 .rfl
def E4{E:gA}(hS:fh S)(hT:zu E.E)(hEE:Np E.E)(X0:O8 S E){fr:bW S}{s s':bq S}(hf:cF g (bz fr) a w)(hs:bh g (aG s) w){cl:Call}(hop:o.op=.call cl){b:Builtin}(hb:cl.callee=.builtin b){args:List (V S)}(hargs:jP fr cl.args.toList=Z args){c:Bool}{t:V S}
  (h:jz E s b cl.argTypes args=Z (c,t,s')) (hc:c=W) {K:Act->World->Prop} {Q:Exit->Act->World->Prop} (hK:∀g' v w',cM [] s g w s' g' w'->aK g' w' (low t) v->K (a.put o.dst v) w') :
  o.wp E.E.P a w K Q∨(o.asks E.E.P a w∧LetsOut Q):=by
 have lO:=e9 hf (gP hargs);unfold jz at h;split at h
 ·
  rename_i B r;split at h;rotate_left
  .cases h
  rename_i n j l era m gE hole X;split at h;rotate_left
  .cases h
  rename_i i G hi LU;split at h;rotate_left
  .cases h
  rename_i sz ag bt zz nt;rcases af h with⟨M,h9⟩|⟨_,h9⟩;rotate_left
  .cases h9
  simp only[dR]at M;have Zj:=beq_iff'.1 M.1;subst Zj;simp only[bg,bC]at h9;obtain⟨_,rfl,rfl⟩:=h9;have hx0:aK g w (.sh B r) ((cl.args.toList.map a.eval)[0]'(by have:=lO.1;simp[bn]at this;simp;omega)):=lO.2 0 _ _ rfl (fP _);obtain⟨xs,hxs,_⟩:=IB hx0;have I:B<bB:=dy (hs.lt' hxs) hs.aH;obtain⟨hl,h1,h2,h3,h4⟩:=GC hs X hxs;have hlen:(lits j (l.map (enc S (.st n))) hl).length=l.length:=by rw[lq (by simpa using h1)];simp
  refine wD hEE hf h4 hop hb (gP hargs) (p:=True) (t:=.sym (.lit (.int .i64 (D.len (lits j (l.map (enc S (.st n))) hl))))) (s':=jY s B (.arr (S.width (.st n)) (lits j (l.map (enc S (.st n))) hl) r)) ?_ trivial (k:=λH st'=>H=.sym (.lit (.int .i64 (D.len (lits j (l.map (enc S (.st n))) hl))))∧st'=jY s B (.arr (S.width (.st n)) (lits j (l.map (enc S (.st n))) hl) r)) ⟨rfl,rfl⟩ (λH st' g' v w' he xm ht=>?_)
  .have hi':(nth cl.argTypes.toList 0).bind E.E.ti=Z i:=hi;simp only[bn,low,eX,wU,hi',nt,qz];rw[fS I,bJ rfl];simp only[show Nat.beq r r=W from beq_iff'.2 rfl,cG,dX]
  .obtain ⟨rfl,rfl⟩:=he;refine hK g' v w' (cM.lM hs (xU xm.rel I (by rw[fS I,bJ rfl]) h1 (h3.le (λj y=>xm.ext.arr m j y)) X (λk hk=>by rw[fS I,br hk]) rfl) xm.ext rfl rfl (bP _) (iE.refl _)) ?_;have e:D.len (lits j (l.map (enc S (.st n))) hl)=ak l:=by simp only[D.len,hlen,ak]
   rw[e]at ht;exact ht
 ·
  rename_i B r G j' x;split at h;rotate_left
  .cases h
  rename_i n j l era m gE X;split at h;rotate_left
  .cases h
  rename_i ty tx acX;split at h;rotate_left
  .cases h
  rename_i i i' n'' H C hi hi' LU hrw;split at h;rotate_left
  .cases h
  rename_i sz ag bt zz sz' ag' bt' zz' new nt LW hnew;obtain⟨e1,hh⟩:=eW hnew;cases e1;cases hh;rcases af h with⟨M,h9⟩|⟨_,h9⟩;rotate_left
  .cases h9
  clear h;simp only[dR]at M;obtain⟨b1,b2,b3,b4,b5,b6,b7,b8,b9⟩:=M;have e1:=beq_iff'.1 b1;subst e1;have e2:=beq_iff'.1 b2;subst e2;have e3:=beq_iff'.1 b3;subst e3;simp only[bg,bC]at h9;obtain⟨VK,rfl,rfl⟩:=h9;have amj:D.fA (YK l C) (cZ l [x])=W:=VK.trans ‹_›;have agi:YK l C=W∧cZ l [x]=W:=by simpa[D.fA]using amj
  have amx:=agi.2;have VK:=BU (show decide _=W from agi.1);obtain⟨u,v,ha,hu,hv⟩:=args2 lO;have CB:cl.argTypes=#[ty,tx]:=by apply Dt;simpa using acX
  obtain⟨xs,hxs,VC⟩:=IB hu;have I:B<bB:=dy (hs.lt' hxs) hs.aH;have hmn:m<s.aH:=fQ b6;have hmN:m<bB:=dy hmn hs.aH;have hw0:0<S.width H:=fQ b9;obtain⟨szm,hm⟩:=nY (yc hrw);have Zg:szm=S.width H:=by
   have h1:=hrw;unfold KH at h1;split at h1
   .rename_i t0 aiZ r0 L;rcases af h1 with⟨_,h1⟩|⟨_,h1⟩
    .cases h1;rw[aY,L]at hm;cases hm;rfl
    .cases h1
   .cases h1
  subst Zg;have hom:B≠m:=by rintro rfl;rw[aY,X]at hm;cases hm
  generalize hvv:a.eval v=vv at hv;cases hv with
  |nQ _ _ c ad hcj hcd=>
  obtain⟨p1,p2⟩:=hs.Ys hm hmn hw0 c
  let s1:bq S:={s with ob:=s.ob.set aJ m (.rws H (C++[[]]) gE)}
  have alC:(aG s1)={aG s with ob:=(aG s).ob.set aJ m (.rws (S.width H) (C.map (·.map (enc S H))++[[]]) gE)}:=by simp only[s1,aG,Tr.kV,cQ,La,lI,GR]
  rw[<-alC]at p1;have alY:s1.ob.get B=Z (.kj G j l r m gE Y):=by show(s.ob.set aJ m _).get B=_;rw[Tr.aX _ _ _ _ hmN,br hom];exact X
  have alv:=p2.arr _ _ _ hxs;obtain⟨hl,h1,h2,h3,h4⟩:=GC p1 alY alv;have Zo:(lits j (l.map (enc S (.st G))) hl).length=l.length:=by rw[lq (by simpa using h1)];simp
  obtain⟨⟨z,O,_⟩,_,_,R⟩:=X0.row _ _ _ hi LU;rw[nt]at O;obtain⟨rfl,rfl,rfl,rfl⟩:=Kd.slice.inj O;have amB:aK (g.era m (rc gE (C.map (·.map (enc S H))).length) ⟨c,0,0,S.width H⟩) w (.jy 0 [iN j (enc S (.st G) x) (.slice c 0 0)]) (.slice ad 1 1):=.jy 0 _ ad (by simp) (hcd.ext p2 hs.bA);have hus:aK (g.era m (rc gE (C.map (·.map (enc S H))).length) ⟨c,0,0,S.width H⟩) w (.sh B r) (a.eval u):=hu.ext p2 hs.bA;have Zv:D.app (lits j (l.map (enc S (.st G))) hl) [iN j (enc S (.st G) x) (.slice c 0 0)]=lits j ((cP l [x]).map (enc S (.st G))) (hl++[.slice c 0 0]):=by simp only[D.app,lits,cP,La,lI,GR];rw[List.zipWith_append (by simp;omega)];rfl
  have Zu:D.TK (D.app (lits j (l.map (enc S (.st G))) hl) [iN j (enc S (.st G) x) (.slice c 0 0)]) (uy S (.st G)):=by
   intro d hd;rw[Zv]at hd;obtain⟨q,L⟩:=Hf hd;rw[lits,IT]at L;split at L
   .rename_i dd hv0 k1 k2;cases L;rw[gK,eC]at k1;obtain⟨xx,_,rfl⟩:=k1;obtain⟨a0,n0,m0,rfl⟩:∃a0 n0 m0,hv0=.slice a0 n0 m0:=by
     rw[kY]at k2;split at k2
     .exact h3.1 q hv0 k2
     .rename_i hge;have:q-hl.length=0:=by have:=aF k2;simpa using this
      rw[this]at k2;cases k2;exact⟨_,_,_,rfl⟩
    exact⟨by rw[YH hS b8];exact Ao hS (t:=.st G) xx,Sk hS xx a0 n0 m0⟩
   .cases L
  have hgv:=fS (s:=s1) I (.arr (S.width (.st G)) (lits j (l.map (enc S (.st G))) hl) r);have hkj:i'.kd=.slice sz' ag' bt' zz':=LW;have hap:=wG (rt:=o.type) (hEE.ti _ _ hi) (hEE.ti _ _ hi') ⟨_,_,_,_,hkj⟩ h4 (x:=.sh B r) (y:=.jy 0 [iN j (enc S (.st G) x) (.slice c 0 0)]) (vx:=a.eval u) (vy:=.slice ad 1 1)
   (p:=True∧D.rows [iN j (enc S (.st G) x) (.slice c 0 0)] (S.width (.st G))∧D.TK (D.app (lits j (l.map (enc S (.st G))) hl) [iN j (enc S (.st G) x) (.slice c 0 0)]) (uy S (.st G))∧D.QI (lits j (l.map (enc S (.st G))) hl) [iN j (enc S (.st G) x) (.slice c 0 0)]) (t:=.sh B (Nat.succ r))
   (s':={jY s1 B (.arr (S.width (.st G)) (lits j (l.map (enc S (.st G))) hl) r)with ob:=(jY s1 B (.arr (S.width (.st G)) (lits j (l.map (enc S (.st G))) hl) r)).ob.set aJ B (.arr (S.width (.st G)) (D.app (lits j (l.map (enc S (.st G))) hl) [iN j (enc S (.st G) x) (.slice c 0 0)]) (Nat.succ r))}) (by
   have hg0:=hgv B;rw[bJ rfl]at hg0;have e1:Nat.blt (jY s1 B (.arr (S.width (.st G)) (lits j (l.map (enc S (.st G))) hl) r)).aH bB=W:=b7;have e2:Nat.ble (jY s1 B (.arr (S.width (.st G)) (lits j (l.map (enc S (.st G))) hl) r)).fl B=W:=b4;simp only[pU,e1,BR,dP,nt,qz,hg0,e2,show Nat.beq r r=W from beq_iff'.2 rfl,show Nat.beq (S.width (.st G)) (S.width (.st G))=W from beq_iff'.2 rfl,pI,GW];rfl) ⟨trivial,λd hd=>by
    rw[kX.1 hd];show((enc S (.st G) x).cells.set j _).length=_;rw[zT,jM hS],Zu,by
    have:l.length+1<=17179869184:=by simpa[cZ]using amx
    show(lits j (l.map (enc S (.st G))) hl).length+1<=_;rw[Zo];exact this⟩ hus amB
  refine Ib hop hb ha CB (by rw[hvv];exact hap) (λv w' hR=>?_);obtain⟨g',r1,r2,r3⟩:=hR;have hE:=p2.trans r2;refine hK g' v w' (cM.lM hs ?_ hE rfl rfl (bP _) ⟨λ_ h=>gJ _ (gJ _ h),λk _ hk=>?_,rfl⟩) r3
  .refine xU r1 (n:=G) (j:=j) (l:=cP l [x]) (era:=Nat.succ r) (m:=m) (gE:=gE) (hole:=Y) (hl:=hl++[.slice c 0 0]) I ?_ (by simp[cP];omega) ⟨λq v L=>?_,λq v L _=>?_⟩ ?_ (λk hk=>?_) rfl
   .show ((jY s1 B _).ob.set aJ B _).get B=_;rw[Tr.aX _ _ _ _ I,bJ rfl,Zv]
   .rw[kY]at L;split at L
    .exact h3.1 q v L
    .have:q-hl.length=0:=by have:=aF L;simpa using this
     rw[this]at L;cases L;exact⟨_,_,_,rfl⟩
   .rw[kY]at L;split at L
    .obtain ⟨yy,k1,k2⟩:=h3.2 q v L (by simp);exact⟨yy,r2.arr _ _ _ k1,k2⟩
    .have h0:q-hl.length=0:=by have:=aF L;simpa using this
     rw[h0]at L;cases L;refine⟨⟨c,0,0,S.width H⟩,r2.arr _ _ _ ?_,rfl⟩;have:q=(C.map (·.map (enc S H))).length:=by rw[Dn];omega
     rw[this];exact Gh.fy _ _ _ _
   .show ((s.ob.set aJ m _).set aJ B _).get B=_;rw[Tr.aX _ _ _ _ I,bJ rfl]
   .show (aG {s with ob:=(s.ob.set aJ m _).set aJ B _,wr:=_}).ob.get k=((jY s1 B _).ob.set aJ B _).get k;rw[Tr.aX _ _ _ _ I,br hk,hgv,br hk,aY,aY];show(((s.ob.set aJ m _).set aJ B _).get k).map cQ=((s.ob.set aJ m _).get k).map cQ;rw[Tr.aX _ _ _ _ I,br hk];rfl
  .simp only[eR,not_or]at hk;show((s.ob.set aJ m _).set aJ B _).get k=_;rw[Tr.dc _ _ _ _ _ hk.1,Tr.dc _ _ _ _ _ hk.2.1]
 ·
  rename_i B m r k y;split at h;rotate_left
  .cases h
  rename_i n j l era m' gE t0 C rera' X hm0;split at h;rotate_left
  .cases h
  rename_i ty tx acX;split at h;rotate_left
  .cases h
  rename_i i i' H new hi hi' LU VD;split at h
  .cases h
  .rename_i sz ag bt zz sz' ag' bt' zz' nt LW al3;rcases af h with⟨M,h9⟩|⟨_,h9⟩;rotate_left
   .cases h9
   clear h;simp only[dR]at M;obtain⟨b1,b2,b3,b4,b5,b6,b7⟩:=M;have e1:=beq_iff'.1 b1;subst e1;have e2:=beq_iff'.1 b2;subst e2;have e3:=beq_iff'.1 b3;subst e3;have e4:=fE b7;subst e4;simp only[bg,bC]at h9;obtain⟨rfl,rfl,rfl⟩:=h9;have XY:ct k C=W∧cZ (aR C k []) new=W:=by simpa[D.fA]using hc
   have hk:=qS XY.1;obtain⟨u,v,ha,hu,hv⟩:=args2 lO;have CB:cl.argTypes=#[ty,tx]:=by apply Dt;simpa using acX
   obtain⟨yy,hyy,hue⟩:=Qu hu;have hm:(aG s).ob.get m=Z (.rws (S.width H) (C.map (·.map (enc S H))) r):=by rw[aY,hm0];rfl
   obtain⟨_,rs0,Zi,hok⟩:=(hs.om hm hyy).2.2 k rfl;have hrs:rs0=(aR C k []).map (enc S H):=by rw[gK,fP hk]at Zi;cases Zi;simp[aR,List.getD,hk]
   subst hrs;obtain⟨q,L,hqp⟩:=xZ VD;obtain⟨xi,d1,_,LS,Kk,_,_,_,_,SB⟩:=(hEE.ti _ _ hi).all;obtain⟨_,d2,_,_,hu2,_,_,_,_,hk2⟩:=(hEE.ti _ _ hi').all;rw[LW]at hk2;obtain⟨e',_,_,_,rfl,_⟩:=hk2;obtain⟨⟨z,O,_⟩,_,_,R⟩:=X0.row _ _ _ hi LU;rw[nt]at O;obtain⟨rfl,rfl,rfl,rfl⟩:=Kd.slice.inj O;rw[nt]at SB;obtain⟨e,ji,d',zv,rfl,hji,U,_,_,hjz,xl,Ow,h0,Jm,qg,hb0,hzl⟩:=SB;have hzs:zv.cells.size=ji.size:=by rw[<-xl.1,hzl,U]
   have VE:D.rows (new.map (enc S H)) (S.width H):=qE hS new;have Zu:D.TK (D.app ((aR C k []).map (enc S H)) (new.map (enc S H))) (uy S H):=by rw[sA];exact CF hS _
   obtain⟨news,hsrc,hvr,hlen⟩:=ya hs L hqp hv R VE (λd hd=>(Zu d (iS _ hd)).2) hu2;obtain⟨ay,cy,hve,_,alu,Ok⟩:=qy hs L hqp hv R VE;have agv:=BI (rt:=o.type) Kk hu2 hji hjz hzs (U▸R) hb0 Ow qg hs.bA (U▸hok) (λb hb=>(hok.at_ hb).2.elim λvs h=>h.elim λty h=>(IU.1 h.2).1) (λd hd=>(Zu d hd).1) (U▸VE) (U▸hsrc) (U▸hvr) (CD _ XY.2) (λhne=>by
    obtain⟨ady,aiU,rfl,QC,hyc,_⟩:=Ok hne;refine⟨ady,cy,hve,λCB=>?_,λq L=>?_⟩
    .rcases QC with SC|⟨o',ho',_⟩
     .exact Bool.noConfusion ((hok.at_ CB).1.2 SC)
     .rw[DH]at ho';unfold Lv at ho';split at ho'
      .exact al3 _ _ rfl
      .cases ho'
    .rw[U]at L;have h1:=hyc (q/S.width H) (q%S.width H) (Qe (by rw[wZ];exact L)) (Nat.mod_lt _ R);have hkk:q/S.width H*S.width H+q%S.width H=q:=by rw[wZ];exact Nat.div_add_mod q _
     rw[hkk]at h1;rw[h1];rfl)
   have hxs:∃amP,amP=era:=⟨_,rfl⟩;refine Ib hop hb ha CB (by rw[hue];exact agv) (λv w' hR=>?_);obtain⟨y',hp⟩:=hR;rw[U,sA]at hp;have alW:(aG s).ob.get B=Z (.kj j (S.width (.st n)) (l.map (enc S (.st n))) era m r Y):=by rw[aY,X];rfl
   have I:B<bB:=fQ b6;obtain⟨r1,r2⟩:=hs.Z3 alW hm I hyy hp (fQ b5);refine hK _ v w' (cM.lM hs (s':={s with ob:=(s.ob.set aJ m (.rws H (dO C k (cP (aR C k []) new)) (Nat.succ r))).set aJ B (.kj n j l era m (Nat.succ r) (Z k)),wr:=B::m::s.wr}) ?_ r2 rfl rfl (bP _) ⟨λ_ h=>gJ _ (gJ _ h),λk' _ hk'=>?_,rfl⟩) ?_
   .have e:aG {s with ob:=(s.ob.set aJ m (.rws H (dO C k (cP (aR C k []) new)) (Nat.succ r))).set aJ B (.kj n j l era m (Nat.succ r) (Z k)),wr:=B::m::s.wr}={aG s with ob:=((aG s).ob.set aJ m (.rws (S.width H) ((C.map (·.map (enc S H))).set k ((cP (aR C k []) new).map (enc S H))) (r+1))).set aJ B (.kj j (S.width (.st n)) (l.map (enc S (.st n))) era m (r+1) (Z k))}:=by simp only[aG,Tr.kV,cQ,dO,GS]
    rw[e];exact r1
   .simp only[eR,not_or]at hk';show((s.ob.set aJ m _).set aJ B _).get k'=_;rw[Tr.dc _ _ _ _ _ hk'.1,Tr.dc _ _ _ _ _ hk'.2.1]
   .rw[hp.val];exact .qd _ _ _ _ _ _ y'.sz _ (by rw[Gh.oq,bJ rfl])
  .cases h
 .cases h
end
end
section
structure eM(E:fY S):Prop where
 sg:fh S
 TG:zu E.T.E
 ty:O8 S E.T
 name:∀f fn,E.T.E.TJ f=Z fn->(fn.name== "runtime.NumGoroutine")=J
 ng:∀f,E.T.E.Gj f=Y
 x:XOk S E.T
 Gj:∀f c,E.Gj f=Z c->bD E.T.E.P f c
variable {E:fY S}{c:Bool}{args:List (V S)}{fr:bW S}{a:Act}{s s':bq S}{call:iC S}{o:Oper}
def eM.env(h:eM E):Np E.T.E:={h.TG with
 name:=h.name
 Gj:=λf c b=>by rw[h.ng]at b;cases b}
def vG(s:bq S)(g:Gh)(w:World){ω:Type}(k kp:V S->bq S->Option ω)(r:ω):Ending->World->Prop
 | .returned v,d=>∃t s' e,k t s'=Z r∧aK e d (low t) v∧cM [] s g w s' e d
 | .panicked chain,d=>∃v t s' e,chain=[{v,recovered:=J}]∧kp t s'=Z r∧aK e d (low t) v∧cM [] s g w s' e d
 | .outgrown,_=>False
structure fT(P:Program)(call:iC S):Prop where
 fn:∀(f:FuncId)(args:List (V S))(s:bq S){ω:Type}(k kp:V S->bq S->Option ω)(r:ω),call (.fn f) args s k kp=Z r->∀(g:Gh)(w:World)(vs:Array Value),bh g (aG s) w->PW (aK g w) (bn args) vs.toList->
  mj P f∧Calls P f vs w (vG s g w k kp r)
 yl:∀(o:Nat)(args:List (V S))(s:bq S){ω:Type}(k kp:V S->bq S->Option ω)(r:ω),call (.yl o) args s k kp=Z r->∀(g:Gh)(w:World)(vs:Array Value)(b:Nat),bh g (aG s) w->PW (aK g w) (bn args) vs.toList->g.cg o=Z b->
  ∃l:Loop,w.heap[b]?=Z (.loop l)∧vs.size=l.params.size∧∀rr n,RoundIn (WR rr) n P b l.fn ((l.params.zip vs).foldl (λtmps(t,a)=>tmps.setIfInBounds t a) l.tmps) l.assign l.body w (vG s g w k kp r)
def mS{α:Type}{x:Option α}{r:α}(h:aC c x=Z r):c=W∧x=Z r:=by
 unfold aC at h;rcases af h with h|⟨_,h⟩
 .exact h
 .cases h
def oh{α:Type}{x y:Option α}{r:α}(h:aj c x y=Z r):(c=W∧x=Z r)∨(c=J∧y=Z r):=af h
def pQ{f:V S}{as:List (V S)}{id:FuncId}(h:nS f args=Z (id,as)):vA (low f) (bn args)=Z (id,bn as):=by
 unfold nS at h;split at h
 .simp only[bg,bC]at h;obtain⟨rfl,rfl⟩:=h;simp only[low,vA,js]
 .cases h
section
variable {g:Gh}{w:World}
def nR{p:V S->Bool}{q:T->Bool}(b:∀v,q (low v)=p v):∀l:List (A2 S),sG q (l.map qQ) ((l.map (ig p)).map qQ)
 |[]=>.nil
 |d::l=>by
  refine .cons ?_ (nR b l);cases d with
  |call f args=>
   simp only[ig];cases e:p f||args.any p with
   |true=>exact .inl rfl
   |false=>simp only[vL,Lc]at e;refine .inr ⟨rfl,by rw[b];exact e.1,λt g=>?_⟩;rw[ga,tK]at g;obtain⟨v,i,rfl⟩:=g;rw[b];simpa using e.2 v i
  |mark o=>
   simp only[ig];cases e:p (.ptr o 0)with|true=>exact .inl rfl|false=>exact .inr ⟨rfl,(b (.ptr o 0)).trans e⟩
  |bad=>exact .inr ⟨rfl,trivial⟩
def mA{ow:List Nat}{g':Gh}{w':World}(hf:cF g (bz fr) a w)(h:cM ow s g w s' g' w'):cF g' (bz (dU ow fr)) a w':=by
 refine⟨?_,?_,λk t z=>?_⟩
 .cases ow<;>exact hf.size
 .cases ow with
  |nil=>
   have i:∀t:T,dD [] t=J:=by
    intro t
    induction t using T.rec (motive_2:=λl=>iL [] l=J)with|fn f a b d j=>simp[dD,d,j]|cR t v e=>simp[dD,e]|agg r e=>simp[dD,e]|gm r e=>simp[dD,e]|gd c v e=>simp[dD,e]|nil=>rfl|cons a l d m=>simp[iL,d,m]|_=>simp[dD]
   refine hf.df.imp (λt v B=>h.tr t v B (i t)) λo b C=>?_;have:=h.tr _ _ (.ptr o 0 b C) (i _);cases this with|ptr _ _ _ y=>exact y
  |cons o ow=>exact(nR (λv=>jI _ v) fr.df).rel h.tr hf.df
 .rw[bQ,eC]at z;obtain⟨v,p,rfl⟩:=z;have q:fr.get k=Z v∧dD ow (low v)=J:=by
   cases ow with
   |nil=>
    refine⟨p,?_⟩;have:∀t:T,dD [] t=J:=by
     intro t;have key:(∀t:T,dD [] t=J):=by
      intro t
      induction t using T.rec (motive_2:=λl=>iL [] l=J)with|fn f a b d j=>simp[dD,d,j]|cR t v e=>simp[dD,e]|agg r e=>simp[dD,e]|gm r e=>simp[dD,e]|gd c v e=>simp[dD,e]|nil=>rfl|cons a l d m=>simp[iL,d,m]|_=>simp[dD]
     exact key t
    exact this _
   |cons o ow=>simp only[dU,bW.get,Tr.oM]at p;rw[Qi]at p;refine⟨p.1,?_⟩;rw[jI];simpa using p.2
  obtain⟨u,G,H⟩:=hf.tm k (low v) (by rw[bQ,q.1];rfl);exact⟨u,G,h.tr _ _ H q.2⟩
def Qp(b:eM E)(hf:cF g (bz fr) a w)(hs:bh g (aG s) w)(o:Oper){t:V S}(h:yD E.T fr s o.op=Z (c,t,s'))(e:c=W) :
  ∃v w' g',((execOp a.eval o).run E.T.E.P w=.ok (.value v) w'∨((execOp a.eval o).run E.T.E.P w=.ok .skip w'∧v=undef))∧aK g' w' (low t) v∧cM [] s g w s' g' w':=by
 unfold yD at h;split at h
 .rename_i r d;cases h;exact Yy b.sg b.TG b.ty hf hs o d e
 .split at h
  .rename_i r d;cases h;obtain⟨p,i,hp⟩:=LB b.sg b.ty d e;obtain⟨⟨v,w',g',k,j,l,m⟩,h1,h2,h3⟩:=lZ b.TG hf hs o i hp;exact⟨v,w',g',k,m,cM.lM hs j l h1 h2 h3 (UT d)⟩
  .exact Yw b.sg b.TG b.ty b.x hf hs o h e
def TD(s:bq S)(g:Gh)(w:World){ω:Type}(k:V S->bq S->List Nat->Option ω)(kp:V S->bq S->Option ω)(r:ω):Ending->World->Prop
 | .returned v,d=>∃t s' e i,k t s' i=Z r∧aK e d (low t) v∧cM i s g w s' e d
 | .panicked chain,d=>∃v t s' e,chain=[{v,recovered:=J}]∧kp t s'=Z r∧aK e d (low t) v∧cM [] s g w s' e d
 | .outgrown,_=>False
def y7(p:eM E)(i:fT E.T.E.P call)(hs:bh g (aG s) w){f:FuncId}{ω:Type}{kp:V S->bq S->Option ω}{k:V S->bq S->List Nat->Option ω}{r:ω}
  (h:sk E call s f args kp k=Z r) {vs:Array Value} (d:PW (aK g w) (bn args) vs.toList):mj E.T.E.P f∧Calls E.T.E.P f vs w (TD s g w k kp r):=by
 unfold sk at h;split at h
 .rename_i z l;obtain⟨b,m⟩:=BA p.sg (p.Gj _ _ l) hs d h;refine⟨b,m.mono λe q j=>?_⟩;cases e with|returned v=>exact j|panicked u=>exact j|outgrown=>exact j.elim
 .obtain ⟨b,m⟩:=i.fn _ _ _ _ _ _ h g w _ hs d;refine⟨b,m.mono λe q j=>?_⟩;cases e with
  |returned v=>obtain⟨t,s',y,h1,h2,h3⟩:=j;exact⟨t,s',y,[],h1,h2,h3⟩
  |panicked u=>exact j
  |outgrown=>exact j.elim
def By{E:fY S}{call:iC S}{s:bq S}{m:String}{args:List (V S)}{n:Nat}{x:den S.A (.cR n)}{ω:Type}{kp:V S->bq S->Option ω}{k:V S->bq S->List Nat->Option ω}{r:ω}:∀{l:List (TypeId×Ty)}{j:Nat},
  QJ E call s m args n x kp k l j=Z r->∃i t f,iG (S.alts n) i (S.r7 n x)=W∧((nth (S.alts n) i).elim 0 (·.1))=t∧E.T.I3 t m=Z f∧sk E call s f (.ty (lP (S.alts n) i) (jv S.zero (S.alts n) i (S.r7 n x))::args) kp k=Z r
 |[],j,h=>by cases h
 |p::l,j,h=>by
  simp only[QJ]at h;rcases oh h with⟨hi,h⟩|⟨_,h⟩
  .split at h
   .rename_i f hf;rcases af h with⟨b,h⟩|⟨_,h⟩
    .exact ⟨j,p.1,f,hi,(nF b).symm,hf,h⟩
    .cases h
   .cases h
  .exact By h
def EE:∀(l:List (TypeId×Ty))(i:Nat)(x:vP S.A l),iG l i x=W->sn S l x=Z ((nth l i).elim 0 (·.1),enc S (lP l i) (jv S.zero l i x))
 |[],_,_,h=>by cases h
 |p::l,0,.inl y,_=>rfl
 |p::l,0,.inr y,h=>by cases h
 |p::l,i+1,.inl y,h=>by cases h
 |p::l,i+1,.inr y,h=>EE l i y h
def FV{P:Program}{c:Call}(e:o.op=.call c){d:Operand}(g:c.callee=.value d){b:Nat}(i:a.eval d=.func (.yield b) #[] #[]){w:World}{l:Loop}(hl:w.heap[b]?=Z (.loop l))(hs:(c.args.map a.eval).size=l.params.size) :
  (execOp a.eval o).run P w=.ok (.round b l.fn ((l.params.zip (c.args.map a.eval)).foldl (λtmps(t,a)=>tmps.setIfInBounds t a) l.tmps) l.assign l.body) w:=by
 simp only[execOp,e,resolve,g,Deferred.ofValue,i,Sem.run_bind,Sem.run_pure,Result.andThen_ok,invoke];have:=run_yield (P:=P) (args:=#[]++c.args.map a.eval++#[]) hl (by simpa using hs);simpa using this
def Gm(M:eM E)(Bt:fT E.T.E.P call)(hf:cF g (bz fr) a w)(hs:bh g (aG s) w){ω:Type}{kp:V S->bq S->Option ω}{k:V S->bq S->List Nat->Option ω}{r:ω}
  (h:si E call o fr s kp k=Z r) {K:Act->World->Prop} {Q:Exit->Act->World->Prop} (hK:∀t s' g' ow v w',k t s' ow=Z r->cM ow s g w s' g' w'->aK g' w' (low t) v->K (a.put o.dst v) w')
  (hP:∀t s' g' v w',kp t s'=Z r->cM [] s g w s' g' w'->aK g' w' (low t) v->Q (.panic [{v,recovered:=J}]) a w') (hny:∀c fv oo,o.op=.call c->c.callee=.value fv->ck fr fv≠Z (.ry oo)) :
  o.wp E.T.E.P a w K Q∨(o.asks E.T.E.P a w∧LetsOut Q):=by
 have fin:∀{t:V S}{s':bq S}{v:Value}{w':World}{g':Gh},k t s' []=Z r->((execOp a.eval o).run E.T.E.P w=.ok (.value v) w'∨((execOp a.eval o).run E.T.E.P w=.ok .skip w'∧v=undef))->aK g' w' (low t) v->cM [] s g w s' g' w'->o.wp E.T.E.P a w K Q:=by
  intro t s' v w' g' hk G U z;unfold Oper.wp;rcases G with G|⟨G,rfl⟩
  .rw[G];exact hK t s' g' [] v w' hk z U
  .rw[G];exact hK t s' g' [] undef w' hk z U
 have plain:(match iI E.T fr s o.op with
   |some (O0,p,d,s')=>sU (λv s=>k v s []) (aC p (k d s' [])) O0
   |none=>match yD E.T fr s o.op with
    |none=>Y
    |some (p,t,s')=>aC p (k t s' []))=Z r->o.wp E.T.E.P a w K Q:=by
  intro h;split at h
  .rename_i O0 p d s' B;obtain⟨t,s1,v,w',g',h1,h2,h3,h4,_⟩:=Qq M.TG M.x hf hs o B (X:=λv s=>k v s []) h;exact fin h1 h2 h3 h4
  .split at h
   .cases h
   .rename_i p t s' B;obtain⟨hp,hk⟩:=mS h;obtain⟨v,w',g',G,U,z⟩:=Qp M hf hs o B hp;exact fin hk G U z
 have O:∀{f:FuncId}{args:List (V S)}{vs:Array Value},sk E call s f args kp k=Z r->PW (aK g w) (bn args) vs.toList->(mj E.T.E.P f->(execOp a.eval o).run E.T.E.P w=.ok (.enter f vs) w)->o.wp E.T.E.P a w K Q:=by
  intro f args vs h H hrun;obtain⟨I,hc⟩:=y7 M Bt hs h H;unfold Oper.wp;rw[hrun I];refine hc.mono λe w' he=>?_;cases e with
  |returned v=>obtain⟨t,s',g',ow,h1,h2,h3⟩:=he;exact hK t s' g' ow v w' h1 h3 h2
  |panicked ch=>obtain⟨v,t,s',g',rfl,h1,h2,h3⟩:=he;exact hP t s' g' v w' h1 h3 h2
  |outgrown=>exact he.elim
 unfold si at h;split at h
 .rename_i c B;split at h
  .cases h
  .rename_i args L;have R:=gP L;have lO:=e9 hf R;split at h
   .rename_i b hb;split at h
    .cases h
    .rename_i p t s' XZ;obtain⟨hp,hk⟩:=mS h;unfold kg at XZ;split at XZ
     .rename_i r0 h0;cases XZ;exact E4 M.sg M.TG M.env M.ty hf hs B hb L h0 hp (λg' v w' z U=>hK t s' g' [] v w' hk z U)
     split at XZ
     .rename_i r0 h0;cases XZ;obtain⟨q,hq,hqp⟩:=wE M.sg M.ty h0 hp;refine wD M.env hf hs B hb R hq hqp (k:=λt' st'=>t'=low t∧st'=aG s') ⟨rfl,rfl⟩ (λt' st' g' v w' he z U=>?_);obtain⟨rfl,rfl⟩:=he;exact hK t s' g' [] v w' hk (cM.lM hs z.rel z.ext z.fl z.lo z.aH (Gt h0)) U
     .obtain ⟨rfl,v,G,U⟩:=zj M.x hs hf B hb L XZ;exact .inl (fin hk (.inl G) U (cM.refl hs))
   .rename_i fv hfv;split at h
    .rename_i oo hyl;unfold abA at hyl;split at hyl
     .rename_i alS;exact absurd alS (hny c fv _ B hfv)
     .cases hyl
    split at h
    .cases h
    .rename_i f args' hfa
     left
     simp only[rL]at hfa;obtain⟨tf,htf,Jl⟩:=hfa;have hrf:=bL hf (bV htf);have C:=pQ Jl;unfold vA at C;split at C
     .rename_i f' first cap LV
      simp only[bg,bC]at C;obtain⟨rfl,acZ⟩:=C;rw[LV]at hrf;generalize hvf:a.eval fv=vf at hrf;cases hrf with
      |fn _ _ _ va vc l1 l2 r1 r2=>
      have H:PW (aK g w) (bn args') (va++c.args.map a.eval++vc).toList:=by rw[<-acZ];simp only[FZ,Qa];exact PW.append (PW.append ⟨by simpa using l1,λj x y h1 h2=>r1 j x y h1 (by simpa using h2)⟩ lO) ⟨by simpa using l2,λj x y h1 h2=>r2 j x y h1 (by simpa using h2)⟩
      exact O h H (λI=>ye B hfv hvf I)
     .cases C
   .rename_i x m hxm;have inv:∀{tt:TypeId}{f:FuncId}{tv:V S}{u:Value},a.eval x=.iface tt u->aK g w (low tv) u->E.T.I3 tt m=Z f->sk E call s f (tv::args) kp k=Z r->o.wp E.T.E.P a w K Q:=by
     intro tt f tv u hv hu hm h;have H:PW (aK g w) (bn (tv::args)) (#[u]++c.args.map a.eval).toList:=by
      simp only[FZ,Qa];exact PW.append (l:=[low tv]) (m:=[u]) ⟨rfl,λj x y h1 h2=>by
       cases j with
       |zero=>simp at h1 h2;subst h1;subst h2;exact hu
       |succ j=>simp at h1⟩ lO
     exact O h H (λI=>KL M.x B hxm hv hm I)
    split at h
    .rename_i tt tv hx;split at h
     .rename_i f hm;have G:=bL hf (bV hx);simp only[low]at G;generalize hv:a.eval x=v at G;cases G with|cR _ _ u hu=>exact .inl (inv hv hu hm h)
     .cases h
    .rename_i n y hx;obtain⟨i,t,f,h1,h2,h3,h4⟩:=By h;have he:=EE _ _ _ h1;rcases CA M.sg (show aK g w (eD S (.cR n) y) (a.eval x)from cW hf hx)with⟨he',_⟩|⟨t',d,u,he',hv,hd⟩
     .rw[he']at he;cases he
     .rw[he']at he;simp only[bg,bC]at he;obtain⟨U,rfl⟩:=he;rw[h2]at U;subst U;exact .inl (inv (tv:=.ty (lP (S.alts n) i) (jv S.zero (S.alts n) i (S.r7 n y))) hv (tE hd) h3 h4)
    .cases h
 .rename_i x B;split at h
  .rename_i tt tv hx
   left
   have G:=bL hf (bV hx);simp only[low]at G;unfold Oper.wp;generalize hv:a.eval x=v at G;cases G with
   |cR _ _ u hu=>
   have:(execOp a.eval o).run E.T.E.P w=.halt (.panic (.iface tt u)) w:=by simp[execOp,B,hv,Instr.panic,goPanic]
   rw[this];exact hP _ _ g _ w h (cM.refl hs) (by simp only[low];exact .cR _ _ _ hu)
  .cases h
 .left
  exact plain h
def y5(R:eM E)(d:fT E.T.E.P call)(hf:cF g (bz fr) a w)(hs:bh g (aG s) w){ω:Type}{kp:V S->bq S->Option ω}{k:V S->bq S->List Nat->Option ω}{r:ω}
  (h:si E call o fr s kp k=Z r) {K:Act->World->Prop} {Q:Exit->Act->World->Prop} (L:∀t s' g' ow v w',k t s' ow=Z r->cM ow s g w s' g' w'->aK g' w' (low t) v->K (a.put o.dst v) w')
  (M:∀t s' g' v w',kp t s'=Z r->cM [] s g w s' g' w'->aK g' w' (low t) v->Q (.panic [{v,recovered:=J}]) a w') {rr:Option Nat} (B:rr≠Y->∀c,o.op≠.defer c) :
  W6 rr E.T.E.P o a w K Q:=by
 by_cases O:∃c q z,o.op=.call c∧c.callee=.value q∧ck fr q=Z (.ry z);rotate_left
 .exact .of_wp B (Gm R d hf hs h L M λc q z h1 h2 h3=>O ⟨c,q,z,h1,h2,h3⟩)
 obtain⟨c,q,z,j,u,y⟩:=O;unfold si at h;rw[j]at h;dsimp only at h;split at h
 .cases h
 rename_i args m;rw[u]at h;dsimp only at h;rw[y]at h;simp only[abA]at h;have C:=e9 hf (gP m);have p:=bL hf (bV y);simp only[low]at p;generalize G:a.eval q=vf at p;cases p with
 |ry _ b U=>
 obtain⟨l,X,H,i⟩:=d.yl _ _ _ _ _ _ h g w (c.args.map a.eval) b hs (by simpa using C) U
 left
 rw[Oper.semAt_eq _ _ _ (by intro c';rw[j];intro h;cases h),FV j u G X H];refine⟨λh=>by simp[Fence.wide]at h,(i rr _).mono λe w' I=>?_⟩;cases e with
 |returned v=>obtain⟨t,s',g',h1,h2,h3⟩:=I;exact L t s' g' [] v w' h1 h3 h2
 |panicked ch=>obtain⟨v,t,s',g',rfl,h1,h2,h3⟩:=I;exact M t s' g' v w' h1 h3 h2
 |outgrown=>exact I.elim
mutual
def qO:∀(s:bq S)(t:Ty)(v:V S){x:den S.A t}{os:List Nat},qP v=W->bO s t v=Z (x,os)->os=[]
 |s,t,.ty u y,x,os,_,h=>by
  simp only[bO]at h;split at h
  .simp only[bg,bC]at h;exact h.2.symm
  .cases h
 |s,t,.agg i,x,os,e,h=>by
  cases t with
  |st n=>
   simp only[bO]at h;split at h
   .rename_i h1 g j;simp only[bg,bC]at h;obtain⟨_,rfl⟩:=h;simp only[qP]at e;exact Ht s _ i e j
   .cases h
  |int=>simp[bO]at h
  |bool=>simp[bO]at h
  |str=>simp[bO]at h
  |sl=>simp[bO]at h
  |cR=>simp[bO]at h
 |s,t,.kb b,x,os,_,h=>by cases t<;>simp[bO]at h;first|exact h.2|exact h.2.symm
 |s,t,.kn k n,x,os,_,h=>by
  cases t<;>simp only[bO]at h<;>try(cases h;done)
  rcases af h with⟨_,h⟩|⟨_,h⟩
  .simp only[bg,bC]at h;exact h.2.symm
  .cases h
 |s,t,.emp,x,os,_,h=>by cases t<;>simp[bO]at h;first|exact h.2|exact h.2.symm
 |s,t,.jy n u l,x,os,_,h=>by
  cases t<;>simp only[bO]at h<;>try(cases h;done)
  split at h
  .simp only[bg,bC]at h;exact h.2.symm
  .cases h
 |s,t,.nQ n u y,x,os,_,h=>by
  cases t<;>simp only[bO]at h<;>try(cases h;done)
  split at h
  .simp only[bg,bC]at h;exact h.2.symm
  .cases h
 |s,t,.qd _ _ _ _,x,os,e,_=>by simp[qP]at e
 |s,t,.sh _ _,x,os,e,_=>by simp[qP]at e
 |s,t,.dat d,x,os,_,h=>by
  cases t with
  |cR n=>
   cases d with
   |lit v=>cases v<;>simp[bO]at h;first|exact h.2|exact h.2.symm
   |_=>simp[bO]at h
  |_=>simp[bO]at h
 |s,t,.mp _,_,_,_,h=>by cases t<;>simp[bO]at h
 |s,t,.ry _,_,_,_,h=>by cases t<;>simp[bO]at h
 |s,t,.ru _,_,_,_,h=>by cases t<;>simp[bO]at h
 |s,t,.ub _,_,_,_,h=>by cases t<;>simp[bO]at h
 |s,t,.ptr _ _,_,_,_,h=>by cases t<;>simp[bO]at h
 |s,t,.mD _ _ _,_,_,_,h=>by cases t<;>simp[bO]at h
 |s,t,.kA _ _ _ _,_,_,_,h=>by cases t<;>simp[bO]at h
 |s,t,.fn _ _ _,_,_,_,h=>by cases t<;>simp[bO]at h
 |s,t,.cR u v,x,os,e,h=>by
  have e:qP v=W:=e;cases t<;>simp only[bO]at h<;>try(cases h;done)
  split at h
  .split at h
   .rename_i y g m;simp only[bg,bC]at h;obtain⟨_,rfl⟩:=h;exact qO s _ v e m
   .cases h
  .cases h
 |s,t,.gm _,_,_,_,h=>by cases t<;>simp[bO]at h
 |s,t,.gd _ _,_,_,_,h=>by cases t<;>simp[bO]at h
def Ht:∀(s:bq S)(ts:List Ty)(l:List (V S)){h:lu S.A ts}{os:List Nat},iU l=W->mG s ts l=Z (h,os)->os=[]
 |s,[],[],x,os,_,h=>by simp only[mG,bg,bC]at h;exact h.2.symm
 |s,t::ts,v::l,x,os,b,h=>by
  simp only[mG]at h;split at h
  .rename_i j d h1 e g i;simp only[bg,bC]at h;obtain⟨_,rfl⟩:=h;simp only[iU,dR]at b;rw[qO s t v b.1 g,Ht s ts l b.2 i];rfl
  .cases h
 |s,[],_::_,_,_,_,h=>by simp[mG]at h
 |s,_::_,[],_,_,_,h=>by simp[mG]at h
end
end
end
section
def oD:Op->Bool
 | .alloc _|.box ..|.store ..|.buildSlice ..|.slice ..|.makeMap ..|.mapUpdate ..|.insert ..|.makeSlice ..|.range ..|.next ..|.defer ..=>W
 |_=>J
variable {E:gA}{fr:bW S}{s s':bq S}{o:Op}{c:Bool}{v:V S}{l:List (Nat×V S)}{args:List (V S)}{a:Act}
def NX(h:cm E fr s o=Z (c,v,s'))(d:oD o=J):s'=s:=by
 cases o with
 |alloc=>cases d
 |box=>cases d
 |store=>cases d
 |buildSlice=>cases d
 |slice=>cases d
 |move x=>simp only[cm,eC,bC]at h;obtain⟨_,_,_,_,rfl⟩:=h;rfl
 |assign x=>simp only[cm,eC,bC]at h;obtain⟨_,_,_,_,rfl⟩:=h;rfl
 |pick x y z=>
  simp only[cm]at h;split at h
  .simp only[eC,bC]at h;obtain⟨_,_,_,_,rfl⟩:=h;rfl
  .cases h
 |build t ps=>
  simp only[cm]at h;split at h
  .split at h
   .simp only[eC,bC]at h;obtain⟨_,_,_,_,rfl⟩:=h;rfl
   .cases h
  .cases h
 |load t x=>
  simp only[cm]at h;split at h
  .unfold wu at h;split at h
   .split at h
    .dsimp only at h;rcases af h with⟨_,h⟩|⟨_,h⟩
     .simp only[eC,bC]at h;obtain⟨_,_,_,_,rfl⟩:=h;rfl
     .cases h
    .cases h
   .simp only[eC,bC]at h;obtain⟨_,_,_,_,rfl⟩:=h;rfl
   .split at h
    .simp only[eC,bC]at h;obtain⟨_,_,_,_,rfl⟩:=h;rfl
    .cases h
   .cases h
  .cases h
 |nilCheck x=>
  simp only[cm]at h;split at h;all_goals first
   |(cases h;done)
   |(
     simp only[bg,bC]at h;obtain⟨_,_,rfl⟩:=h;rfl)
 |binOp op t x y u=>
  simp only[cm]at h;split at h
  .simp only[eC,bC]at h;obtain⟨_,_,_,_,rfl⟩:=h;rfl
  .cases h
 |unOp op t x=>
  simp only[cm]at h;split at h
  .simp only[eC,bC]at h;obtain⟨_,_,_,_,rfl⟩:=h;rfl
  .cases h
 |convert t u x=>
  simp only[cm]at h;split at h
  .exact (Ax h).1
  .cases h
 |makeInterface t x=>
  simp only[cm]at h;split at h
  .split at h
   .cases h
   .simp only[bg,bC]at h;obtain⟨_,_,rfl⟩:=h;rfl
  .cases h
 |makeFunc f a b=>
  simp only[cm]at h;split at h
  .simp only[bg,bC]at h;obtain⟨_,_,rfl⟩:=h;rfl
  .cases h
 |extract x k=>
  simp only[cm]at h;split at h
  .exact (se h).1
  .cases h
 |fieldAddr t x k=>
  simp only[cm]at h;split at h
  .exact (oN h).1
  .cases h
 |field t x k=>
  simp only[cm]at h;split at h
  .unfold Al at h;split at h
   .split at h
    .dsimp only at h;rcases af h with⟨_,h⟩|⟨_,h⟩
     .simp only[eC,bC]at h;obtain⟨_,_,_,_,rfl⟩:=h;rfl
     .cases h
    .cases h
   .cases h
  .cases h
 |indexAddr t x y=>
  simp only[cm]at h;split at h
  .unfold ju at h;split at h
   .split at h
    .split at h
     .rcases af h with⟨_,h⟩|⟨_,h⟩
      .simp only[bg,bC]at h;obtain⟨_,_,rfl⟩:=h;rfl
      .cases h
     .cases h
    .split at h
     .simp only[bg,bC]at h;obtain⟨_,_,rfl⟩:=h;rfl
     .cases h
   .cases h
  .cases h
 |index t x y=>
  simp only[cm]at h;split at h
  .unfold Ae at h;split at h
   .simp only[bg,bC]at h;obtain⟨_,_,rfl⟩:=h;rfl
   .cases h
  .cases h
 |typeAssert x t u ok=>
  simp only[cm]at h;split at h
  .exact (uC h).1
  .cases h
 |_=>simp[cm]at h
def RW(h:qK E fr s o=Z (c,v,s'))(b:oD o=J):s'=s:=by
 unfold qK at h;split at h
 .cases b
 .split at h;rotate_left
  .cases h
  split at h;rotate_left
  .cases h
  split at h;rotate_left
  .cases h
  simp only[bg,bC]at h;exact h.2.2.symm
 .cases b
 .cases b
 .cases b
 .cases b
 .repeat' split at h
  all_goals first|(cases h;done)|(simp only[bg,bC]at h;exact h.2.2.symm)
 .repeat' split at h
  all_goals first|(cases h;done)|(simp only[bg,bC]at h;exact h.2.2.symm)
 .repeat' split at h
  all_goals first|(cases h;done)|(simp only[bg,bC]at h;exact h.2.2.symm)
 .repeat' split at h
  all_goals first|(cases h;done)|(simp only[bg,bC]at h;exact h.2.2.symm)
 .split at h;rotate_left
  .cases h
  split at h
  .cases h
  .rcases af h with⟨_,h⟩|⟨_,h⟩
   .rcases af h with⟨_,h⟩|⟨_,h⟩
    .simp only[bg,bC]at h;exact h.2.2.symm
    .simp only[bg,bC]at h;exact h.2.2.symm
   .cases h
  .rcases af h with⟨_,h⟩|⟨_,h⟩
   .simp only[bg,bC]at h;exact h.2.2.symm
   .cases h
 .split at h;rotate_left
  .cases h
  split at h;rotate_left
  .cases h
  simp only[eC,bC]at h;obtain⟨_,_,_,_,rfl⟩:=h;rfl
 .cases h
def RZ(h:z4 E fr s o=Z (c,v,s'))(b:oD o=J):s'=s:=by
 unfold z4 at h;split at h
 .split at h
  .split at h
   .split at h
    .split at h
     .rcases af h with⟨_,h⟩|⟨_,h⟩
      .simp only[bg,bC]at h;exact h.2.2.symm
      .cases h
     .cases h
    .cases h
   .cases h
  .cases h
 .split at h
  .split at h
   .split at h
    .rcases af h with⟨_,h⟩|⟨_,h⟩
     .rcases af h with⟨_,h⟩|⟨_,h⟩
      .rcases af h with⟨_,h⟩|⟨_,h⟩
       .simp only[bg,bC]at h;exact h.2.2.symm
       .cases h
      .rcases af h with⟨_,h⟩|⟨_,h⟩
       .simp only[eC,bC]at h;obtain⟨_,_,_,_,rfl⟩:=h;rfl
       .cases h
     .cases h
    .cases h
   .cases h
  .cases h
 .cases b
 .cases b
 .cases h
def RY(h:yD E fr s o=Z (c,v,s'))(b:oD o=J):s'=s:=by
 unfold yD at h;split at h
 .rename_i r d;cases h;exact RZ d b
 .split at h
  .rename_i r d;cases h;exact NX d b
  .exact RW h b
def Ct(h:qK E fr s o=Y)(hn:z4 E fr s o=Y):yD E fr s o=cm E fr s o:=by
 unfold yD;rw[hn,h];dsimp only;split
 .rename_i b;exact b.symm
 .rename_i b;exact b.symm
def QZ{ω:Type}(k:V S->Option ω)(d:Option ω):∀l:List (Bool×V S×bq S),sS k d l=sU (λv _=>k v) d l
 |[]=>rfl
 |p::l=>by simp only[sS,sU,QZ k d l]
def DN(h:iU (l.map (·.2))=W):∀p∈l,qP p.2=W:=by
 induction l with
 |nil=>intro p hp;cases hp
 |cons a l b=>
  simp only[lI,iU,dR]at h;intro p hp;rcases eR.1 hp with rfl|hp
  .exact h.1
  .exact b h.2 p hp
def Ar{s:bq S}{e:Ty}:∀{ps:List (Nat×V S)}{es r:List (den S.A e)}{os:List Nat},(∀p∈ps,qP p.2=W)->l7 s e es ps=Z (r,os)->os=[]
 |[],es,r,os,_,h=>by simp only[l7,bg,bC]at h;exact h.2.symm
 |(k,v)::ps,es,r,os,b,h=>by
  simp only[l7]at h;split at h
  .cases h
  .rename_i x d g;rcases af h with⟨_,h⟩|⟨_,h⟩
   .split at h
    .rename_i l i j;simp only[bg,bC]at h;obtain⟨_,rfl⟩:=h;rw[qO s e v (b _ ez) g,Ar (λp hp=>b p (gJ _ hp)) j];rfl
    .cases h
   .cases h
def AB{t:TypeId}{n:Nat}{ps:Array (Nat×Operand)}(hl:ir fr ps.toList=Z l)(hn:iU (l.map (·.2))=W)
  (h:yD E fr s (.buildSlice t n ps)=Z (c,v,s')):s'=s:=by
 cases b:z4 E fr s (.buildSlice t n ps)with
 |some r=>
  simp only[yD,b,bg]at h;subst h;simp only[z4]at b;split at b
  .rename_i u d;split at b
   .rename_i i w m _ _ g;split at b
    .split at b
     .rcases af b with⟨_,b⟩|⟨_,b⟩
      .split at b
       .rename_i x os p;have j:l=[(0,.agg m)]:=by rw[d]at hl;simp only[ir,ck,g,bg]at hl;exact hl.symm
        subst j;simp only[lI,GR,iU,vI]at hn;have:=qO s _ _ hn p;subst this;simp only[dz,dX,bg,bC]at b;exact b.2.2.symm
       .cases b
      .cases b
     .cases b
    .cases b
   .cases b
  .split at b
   .split at b
    .rcases af b with⟨_,b⟩|⟨_,b⟩
     .simp only[bg,bC]at b;exact b.2.2.symm
     .cases b
    .cases b
   .cases b
  .cases b
 |none=>
 rw[Ct rfl b]at h;simp only[cm]at h;split at h
 .rename_i i e q _ _ d;rw[hl]at d;cases d;split at h
  .rcases af h with⟨_,h⟩|⟨_,h⟩
   .split at h
    .rename_i y os k;have:=Ar (DN hn) k;subst this;simp only[dz,dX,bg,bC]at h;exact h.2.2.symm
    .cases h
   .cases h
  .cases h
 .cases h
def KB{t:TypeId}{x:Operand}{lo hi d:Option Operand}{u:V S}(hl:ck fr x=Z u)(hn:qP u=W)
  (h:yD E fr s (.slice t x lo hi d)=Z (c,v,s')):s'=s:=by
 rw[Ct rfl rfl]at h;simp only[cm]at h;split at h
 .rename_i i a e g j _ b _ _ _;rw[hl]at b;cases b;rcases CY h with rfl|h
  .rfl
  .have:Lv u=[]:=by cases u<;>first|rfl|simp[qP]at hn
   rw[this]at h;simp only[dz,bg]at h;exact h.symm
 .cases h
def Bl{s:bq S}:∀{ps:List Pk}{l:List (V S)}{x:fU S.A ps}{fz ow bs:List Nat},bU ps=W->iU l=W->dZ s ps l Y=Z (x,fz,ow,bs)->fz=[]∧ow=[]∧bs=[]
 |[],[],x,fz,ow,bs,_,_,h=>by simp only[dZ,bg,bC]at h;exact⟨h.2.1.symm,h.2.2.1.symm,h.2.2.2.symm⟩
 | .one (.dat t)::ps,v::l,x,fz,ow,bs,b,e,h=>by
  simp only[dZ]at h;simp only[iU,dR]at e;split at h
  .rename_i k a1 m h1 a2 p g d i;simp only[bg,bC]at h;obtain⟨_,rfl,rfl,rfl⟩:=h;obtain⟨rfl,rfl,rfl⟩:=Bl (by simpa[bU]using b) e.2 i;simp only[lK]at d;split at d
   .rename_i y os j;simp only[bg,bC]at d;obtain⟨_,rfl,rfl⟩:=d;rw[qO s t v e.1 j];exact⟨rfl,rfl,rfl⟩
   .cases d
  .cases h
 | .one (.own _)::_,_,_,_,_,_,b,_,_=>by simp[bU]at b
 | .one (.jr ..)::_,_,_,_,_,_,b,_,_=>by simp[bU]at b
 | .one (.nil _)::_,_,_,_,_,_,b,_,_=>by simp[bU]at b
 | .one (.ptr _)::_,_,_,_,_,_,b,_,_=>by simp[bU]at b
 | .box _::_,_,_,_,_,_,b,_,_=>by simp[bU]at b
 | .hid _::_,_,_,_,_,_,b,_,_=>by simp[bU]at b
 |[],_::_,_,_,_,_,_,_,h=>by simp[dZ]at h
 | .one _::_,[],_,_,_,_,_,_,h=>by simp[dZ]at h
def Dz{s:bq S}:∀{ps:List Pk}(r:iD S.A ps),bU ps=W->j7 s ps [] r=Z s
 |[],_,_=>rfl
 | .one (.dat t)::ps,r,h=>by simp only[j7];exact Dz (ps:=ps) r (by simpa[bU]using h)
 | .one (.own _)::_,_,b=>by simp[bU]at b
 | .one (.jr ..)::_,_,b=>by simp[bU]at b
 | .one (.nil _)::_,_,b=>by simp[bU]at b
 | .one (.ptr _)::_,_,b=>by simp[bU]at b
 | .box _::_,_,b=>by simp[bU]at b
 | .hid _::_,_,b=>by simp[bU]at b
def Kt{s:bq S}:∀{cs:List Ck}(x:gl S.A cs),jb cs=W->gI s cs x=(sO cs x,s)
 |[],_,_=>rfl
 | .dat t::cs,x,h=>by simp only[gI,tB,sO];rw[Kt (cs:=cs) x.2 (by simpa[jb]using h)]
 | .own _::_,_,h=>by simp[jb]at h
 | .jr ..::_,_,h=>by simp[jb]at h
 | .nil _::_,_,h=>by simp[jb]at h
 | .ptr _::_,_,h=>by simp[jb]at h
def Em:∀{ps:List Pk},bU ps=W->VY ps=J
 |[],_=>rfl
 | .one (.dat t)::ps,h=>Em (ps:=ps) (by simpa[bU]using h)
 | .one (.own _)::_,b=>by simp[bU]at b
 | .one (.jr ..)::_,b=>by simp[bU]at b
 | .one (.nil _)::_,b=>by simp[bU]at b
 | .one (.ptr _)::_,b=>by simp[bU]at b
 | .box _::_,b=>by simp[bU]at b
 | .hid _::_,b=>by simp[bU]at b
def Mp(hn:s.aH<=bB){c:kT S}(h1:bU c.ps=W)(h2:jb c.rs=W)(h3:iU args=W){x:fU S.A c.ps}{fz ow bs:List Nat}(hp:dZ s c.ps args Y=Z (x,fz,ow,bs))
  {d:RT c.pn (gl S.A c.rs×iD S.A c.ps) (den S.A S.pt×iD S.A c.ps)} {r:gl S.A c.rs×iD S.A c.ps} (g:c.F x=Z d) (i:RT.res c.pn d=.ok r):Mq s c args (λ_ _=>Y) (λt s' ow=>Z (t,s',ow))=Z (FR (sO c.rs r.1),s,[]):=by
 obtain⟨rfl,rfl,rfl⟩:=Bl h1 h3 hp;have b:Nat.ble s.aH bB=W:=Ga hn;unfold Mq;rw[Em h1];simp only[dP];rw[hp];simp only[dz];cases Vg c with
 |true=>simp only[cG,g,ai,i]
 |false=>
 simp only[dP,rU,AH,List.all_nil,GW,cG,g,ai,w6,i];have e:HT [] (forget [] s)=s:=rfl;rw[e,Dz _ h1];simp only[Kt _ h2,b,cG]
def V6(g:Option Bool):Prop:=g=Y∨g=Z W
def HK{α:Type}{g:Option Bool}{p:Bool}{x:Option α}{r:α}(b:V6 g)(h:xq g p x=Z r):p=W∧x=Z r:=by
 rcases b with rfl|rfl
 .exact mS h
 .exact mS h
def Zy{α:Type}{g:Option Bool}{x:Option α}{z:α}(b:V6 g):agG g x z=x:=by rcases b with rfl|rfl<;>rfl
section
variable {g:Gh}{w:World}
def JE(G:Np E.E)(hf:cF g (bz fr) a w)(hs:bh g (aG s) w){o:Oper}{cl:Call}(H:o.op=.call cl)(hb:cl.callee=.builtin .len)(b:jP fr cl.args.toList=Z args){t:V S}
  (h:jz E s .len cl.argTypes args=Z (c,t,s')):∃v,(execOp a.eval o).run E.E.P w=.ok (.value v) w∧aK g w (low t) v:=by
 have k:=e9 hf (gP b);unfold jz at h;split at h
 .rename_i d r _;split at h;rotate_left
  .cases h
  rename_i n j l era m X hole I;split at h;rotate_left
  .cases h
  rename_i i n' hi LU;split at h;rotate_left
  .cases h
  rename_i sz ag bt zz K;rcases af h with⟨q,B⟩|⟨_,B⟩;rotate_left
  .cases B
  simp only[dR]at q;have L:=beq_iff'.1 q.1;subst L;simp only[bg,bC]at B;obtain⟨_,rfl,rfl⟩:=B;have M:aK g w (.sh d r) ((cl.args.toList.map a.eval)[0]'(by have:=k.1;simp[bn]at this;simp;omega)):=k.2 0 _ _ rfl (fP _);obtain⟨xs,u,_⟩:=IB M;have O:d<bB:=dy (hs.lt' u) hs.aH;obtain⟨C,h1,h2,h3,h4⟩:=GC hs I u;have y:(lits j (l.map (enc S (.st n))) C).length=l.length:=by rw[lq (by simpa using h1)];simp
  obtain⟨_,v,z,ht⟩:=Vh G hf h4 H hb (gP b) (p:=True) (t:=.sym (.lit (.int .i64 (D.len (lits j (l.map (enc S (.st n))) C))))) (s':=jY s d (.arr (S.width (.st n)) (lits j (l.map (enc S (.st n))) C) r)) (by
   have R:(nth cl.argTypes.toList 0).bind E.E.ti=Z i:=hi;simp only[bn,low,eX,wU,R,K,qz];rw[fS O,bJ rfl];simp only[show Nat.beq r r=W from beq_iff'.2 rfl,cG,dX]) trivial
  refine⟨v,z,?_⟩;have e:D.len (lits j (l.map (enc S (.st n))) C)=ak l:=by simp only[D.len,y,ak]
  rw[e]at ht;exact ht
 .rename_i U;exact Builtin.noConfusion U
 .rename_i U;exact Builtin.noConfusion U
 .cases h
def qi{E:fY S}(M:eM E)(hf:cF g (bz fr) a w)(hs:bh g (aG s) w){o:Oper}{gd:Option Bool}(hg:V6 gd){ω:Type}{k:V S->Option ω}{r:ω}
  (h:eB E gd fr s o k=Z r) {K:Act->World->Prop} {Q:Exit->Act->World->Prop} (hK:∀t g' v w',k t=Z r->cM [] s g w s g' w'->aK g' w' (low t) v->K (a.put o.dst v) w') :
  o.wp E.T.E.P a w K Q:=by
 have plain:∀{c:Bool}{t:V S}{s':bq S},yD E.T fr s o.op=Z (c,t,s')->s'=s->xq gd c (k t)=Z r->o.wp E.T.E.P a w K Q:=by
  intro c t s' i hss h9;subst hss;obtain⟨hp,O⟩:=HK hg h9;obtain⟨v,w',g',I,ht,xm⟩:=Qp M hf hs o i hp;unfold Oper.wp;rcases I with I|⟨I,rfl⟩
  .rw[I];exact hK t g' v w' O xm ht
  .rw[I];exact hK t g' undef w' O xm ht
 unfold eB at h;split at h
 .rename_i c i;split at h
  .cases h
  .rename_i args C;have G:=gP C;split at h
   .rename_i b hb;rcases af h with⟨hqb,h⟩|⟨_,h⟩;rotate_left
    .cases h
    split at h
    .rename_i p t s' H;obtain⟨hp,O⟩:=HK hg h;unfold kg at H;split at H
     .rename_i r0 h0;cases H;cases b with
      |len=>obtain⟨v,L,ht⟩:=JE M.env hf hs i hb C h0;unfold Oper.wp;rw[L];exact hK t g v w O (cM.refl hs) ht
      |append=>cases hqb
      |_=>simp[jz]at h0
     split at H
     .rename_i r0 h0;cases H;obtain⟨q,hq,hqp⟩:=wE M.sg M.ty h0 hp;cases b with
      |len=>obtain⟨hss,v,L,ht⟩:=Vh M.env hf hs i hb G hq hqp;unfold Oper.wp;rw[L];exact hK t g v w O (cM.refl hs) ht
      |max=>simp[eZ]at h0
      |min=>simp[eZ]at h0
      |_=>cases hqb
     .obtain ⟨rfl,v,I,ht⟩:=zj M.x hs hf i hb C H;unfold Oper.wp;rw[I];exact hK t g v w O (cM.refl hs) ht
    .cases h
   .rename_i fv hfv;split at h
    .cases h
    .rename_i f args' hfa;split at h
     .cases h
     .rename_i cc amr;rcases af h with⟨B,h⟩|⟨_,h⟩
      .simp only[dR]at B;split at h
       .rename_i x _ _ _ b hpk hnb;obtain⟨rr,hF,O⟩:=rf h;rw[Zy hg]at hF;split at O;rotate_left
        .cases O
        rename_i r1 hr1;have hq:=Mp hs.aH B.1 B.2.1 B.2.2.1 hpk hF hr1;simp only[rL]at hfa;obtain⟨tf,htf,Jl⟩:=hfa;have hrf:=bL hf (bV htf);have lO:=e9 hf G;have m:=pQ Jl;unfold vA at m;split at m
        .rename_i f' first cap LV
         simp only[bg,bC]at m;obtain⟨rfl,R⟩:=m;rw[LV]at hrf;generalize hvf:a.eval fv=vf at hrf;cases hrf with
         |fn _ _ _ va vc l1 l2 r1 r2=>
         have hall:PW (aK g w) (bn args') (va++c.args.map a.eval++vc).toList:=by rw[<-R];simp only[FZ,Qa];exact PW.append (PW.append ⟨by simpa using l1,λj x y h1 h2=>r1 j x y h1 (by simpa using h2)⟩ lO) ⟨by simpa using l2,λj x y h1 h2=>r2 j x y h1 (by simpa using h2)⟩
         obtain⟨VS,hc⟩:=BA M.sg (M.Gj _ _ amr) hs hall hq;unfold Oper.wp;rw[ye i hfv hvf VS];refine hc.mono λe w' he=>?_;cases e with
         |returned v=>obtain⟨t,s',g',ow,h1,h2,h3⟩:=he;simp only[bg,bC]at h1;obtain⟨rfl,rfl,rfl⟩:=h1;exact hK _ g' v w' O h3 h2
         |panicked ch=>obtain⟨_,_,_,_,_,h1,_⟩:=he;cases h1
         |outgrown=>exact he.elim
        .cases m
       .cases h
      .cases h
   .cases h
 iterate 11
  .cases h
 .rename_i t n ps i;split at h
  .rename_i l hl;rcases af h with⟨hn,h⟩|⟨_,h⟩
   .split at h
    .cases h
    .rename_i p v s' U;rw[<-i]at U;exact plain U (by rw[i]at U;exact AB hl hn U) h
   .cases h
  .cases h
 .rename_i t x lo hi mx i;split at h
  .rename_i v U;rcases af h with⟨hn,h⟩|⟨_,h⟩
   .split at h
    .cases h
    .rename_i p v' s' hv';rw[<-i]at hv';exact plain hv' (by rw[i]at hv';exact KB U hn hv') h
   .cases h
  .cases h
 all_goals try(cases h;done)
 rename_i op h1 h2 h3 h4 h5 h6 h7 h8 h9 h10 h11 h12 h13 h14;have hmv:oD o.op=J:=by cases i:o.op with|store x y z=>exact absurd i (h2 x y z)|alloc x=>exact absurd i (h3 x)|box x y=>exact absurd i (h4 x y)|makeMap x y=>exact absurd i (h6 x y)|mapUpdate x y z u=>exact absurd i (h7 x y z u)|insert x y z u=>exact absurd i (h8 x y z u)|makeSlice x y z=>exact absurd i (h9 x y z)|range x y=>exact absurd i (h10 x y)|next x y=>exact absurd i (h11 x y)|defer x=>exact absurd i (h12 x)|buildSlice x y z=>exact absurd i (h13 x y z)|slice x y z u v=>exact absurd i (h14 x y z u v)|_=>rfl
 split at h
 .rename_i O0 p d s' i;have hx:sU (λv _=>k v) (aC p (k d)) O0=Z r:=by
   rw[<-QZ];rcases hg with rfl|rfl
   .exact h
   .simpa[xq,imp]using h
  obtain⟨t,s1,v,w',g',k1,k2,k3,k4,k5⟩:=Qq M.TG M.x hf hs o i (X:=λv _=>k v) hx;have:s1=s:=k5 λit b hh=>by rw[hh]at hmv;cases hmv
  subst this;unfold Oper.wp;rcases k2 with I|⟨I,rfl⟩
  .rw[I];exact hK t g' v w' k1 k4 k3
  .rw[I];exact hK t g' undef w' k1 k4 k3
 .split at h
  .cases h
  .rename_i p v s' U;exact plain U (RY U hmv) h
def Fa{ω:Type}{k:V S->Option ω}{d:Option ω}{r:ω}:∀{l:List (Bool×V S×bq S)},sS k d l=Z r->(∃t,k t=Z r)∨d=Z r
 |[],h=>.inr h
 |p::l,h=>by
  simp only[sS]at h;rcases oh h with⟨_,h⟩|⟨_,h⟩
  .exact .inl ⟨_,h⟩
  .exact Fa h
def Jt{E:fY S}{o:Oper}{ω:Type}{k:V S->Option ω}{r:ω}(h:eB E (Z J) fr s o k=Z r):∃t,k t=Z r:=by
 have b:∀{p:Bool}{x:Option ω},xq (Z J) p x=Z r->x=Z r:=λh=>(mS h).2;unfold eB at h;split at h
 .split at h
  .cases h
  .split at h
   .rcases af h with⟨_,h⟩|⟨_,h⟩
    .split at h
     .exact ⟨_,b h⟩
     .cases h
    .cases h
   .split at h
    .cases h
    .split at h
     .cases h
     .rcases af h with⟨_,h⟩|⟨_,h⟩
      .split at h
       .obtain ⟨e,_,d⟩:=rf h;split at d
        .exact ⟨_,d⟩
        .cases d
       .cases h
      .cases h
   .cases h
 iterate 11
  .cases h
 .split at h
  .rcases af h with⟨_,h⟩|⟨_,h⟩
   .split at h
    .cases h
    .exact ⟨_,b h⟩
   .cases h
  .cases h
 .split at h
  .rcases af h with⟨_,h⟩|⟨_,h⟩
   .split at h
    .cases h
    .exact ⟨_,b h⟩
   .cases h
  .cases h
 .split at h
  .rcases Fa h with h|h
   .exact h
   .exact ⟨_,b h⟩
  .split at h
   .cases h
   .exact ⟨_,b h⟩
end
end
section
structure fj(s:bq S)(g:Gh)(w:World)(s':bq S)(g':Gh)(w':World):Prop where
 rel:bh g' (aG s') w'
 ext:pz s.lo s.fl g w g' w'
 fl:s'.fl=s.fl
 lo:s'.lo=s.lo
 aH:s.aH<=s'.aH
 uW:∀o∈s.wr,o∈s'.wr
 same:∀o,o<s.aH->o∉s'.wr->s'.ob.get o=s.ob.get o
 Gq:∀o∈s.dr,o∈s'.dr
variable {ow dr ZV ds ds':List Nat}{s s':bq S}{g':Gh}{w':World}{p q:Nat->Bool}{aH UY:Nat}{l m:List (A2 S)}{fr fr':bW S}{ops:Array Oper}{a:Act}{o:Oper}{t:V S}{v:Value}{b:Bool}{dst:Option Nat}{E:fY S}{call:iC S}
def cM.toW{g:Gh}{w:World}(h:cM ow s g w s' g' w'):fj s g w s' g' w':=⟨h.rel,h.ext,h.fl,h.lo,h.aH,h.uW,h.same,h.Gq⟩
def fj.refl{s:bq S}{g:Gh}{w:World}(h:bh g (aG s) w):fj s g w s g w:=(cM.refl h).toW
def fj.trans{s s' d:bq S}{g g' e:Gh}{w w' i:World}(h:fj s g w s' g' w')(k:fj s' g' w' d e i):fj s g w d e i:=
 ⟨k.rel,h.ext.trans (h.fl▸h.lo▸k.ext),k.fl.trans h.fl,k.lo.trans h.lo,fC h.aH k.aH,λo b=>k.uW o (h.uW o b),
  λo b j=>(k.same o (dy b h.aH) j).trans (h.same o b (λl=>j (k.uW o l))),λo b=>k.Gq o (h.Gq o b)⟩
mutual
def er{p q:Nat->Bool}(h:∀o,p o=W->q o=W):∀v:V S,cD p v=W->cD q v=W
 | .ptr o _,d=>h o d
 | .kA o _ _ _,d=>h o d
 | .sh o _,d=>h o d
 | .mp o,d=>h o d
 | .ry o,d=>h o d
 | .ru o,d=>h o d
 | .ub _,d=>by cases d
 | .nQ _ _ _,d=>by cases d
 | .qd o m _ _,d=>by simp only[cD,jQ]at d ⊢;exact d.imp (h o) (h m)
 | .fn _ a b,d=>by simp only[cD,jQ]at d ⊢;exact d.imp (mL h a) (mL h b)
 | .cR _ v,d=>er h v d
 | .agg e,d=>mL h e d
 | .gm e,d=>mL h e d
 | .gd _ v,d=>er h v d
 | .ty _ _,d=>by cases d
 | .kb _,d=>by cases d
 | .kn _ _,d=>by cases d
 | .dat _,d=>by cases d
 | .mD _ _ _,d=>by cases d
 | .emp,d=>by cases d
 | .jy _ _ _,d=>by cases d
def mL{p q:Nat->Bool}(h:∀o,p o=W->q o=W):∀l:List (V S),gZ p l=W->gZ q l=W
 |[],b=>by cases b
 |v::l,b=>by simp only[gZ,jQ]at b ⊢;exact b.imp (er h v) (mL h l)
end
mutual
def nK(os:List Nat):∀v:V S,gS os v=cD os.contains v
 | .ptr o _=>rfl
 | .kA o _ _ _=>rfl
 | .sh o _=>rfl
 | .mp o=>rfl
 | .ry o=>rfl
 | .ru o=>rfl
 | .ub _=>rfl
 | .qd _ _ _ _=>rfl
 | .nQ _ _ _=>rfl
 | .fn _ a b=>by simp only[gS,cD,tT os a,tT os b]
 | .cR _ v=>nK os v
 | .agg d=>tT os d
 | .gm d=>tT os d
 | .gd _ v=>nK os v
 | .ty _ _=>rfl
 | .kb _=>rfl
 | .kn _ _=>rfl
 | .dat _=>rfl
 | .mD _ _ _=>rfl
 | .emp=>rfl
 | .jy _ _ _=>rfl
def tT(os:List Nat):∀l:List (V S),m5 os l=gZ os.contains l
 |[]=>rfl
 |v::l=>by simp only[m5,gZ,nK os v,tT os l]
end
def iu(h:∀o∈dr,o∈ZV)(hn:UY<=aH)(o:Nat)(hp:eE dr aH o=W):eE ZV UY o=W:=by simp only[eE,jQ,yp,jR]at hp ⊢;refine hp.imp (h o) (λhp=>?_);have:=fQ hp;exact Ga (by omega)
def uk(p:Nat->Bool):A2 S->Bool
 | .call f args=>cD p f||args.any (cD p)
 | .mark o=>cD (S:=S) p (.ptr o 0)
 | .bad=>W
def pO(h:∀o,p o=W->q o=W):∀d:A2 S,uk p d=W->uk q d=W
 | .call f args,b=>by simp only[uk,jQ,Lb]at b ⊢;exact b.imp (er h f) (λ⟨v,h1,h2⟩=>⟨v,h1,er h v h2⟩)
 | .mark o,b=>h o b
 | .bad,_=>rfl
inductive ni(p:Nat->Bool):List (A2 S)->List (A2 S)->Prop where
 |nil:ni p [] []
 |cons {d e:A2 S} {l m:List (A2 S)} (h:e=d∨(e=.bad∧uk p d=W)) (t:ni p l m):ni p (d::l) (e::m)
def ni.refl(p:Nat->Bool):∀l:List (A2 S),ni p l l
 |[]=>.nil
 |_::l=>.cons (.inl rfl) (ni.refl p l)
def ni.mono(h:∀o,p o=W->q o=W)(k:ni p l m):ni q l m:=by
 induction k with|nil=>exact .nil|cons d _ e=>exact .cons (d.imp id λ⟨a,b⟩=>⟨a,pO h _ b⟩) e
def ni.trans{p:Nat->Bool}:∀{l m n:List (A2 S)},ni p l m->ni p m n->ni p l n
 |_,_,_,.nil,.nil=>.nil
 |_,_,_,.cons h t,.cons b d=>by
  refine .cons ?_ (t.trans d);rcases h with rfl|⟨rfl,h⟩
  .exact b
  .rcases b with rfl|⟨rfl,_⟩
   .exact .inr ⟨rfl,h⟩
   .exact .inr ⟨rfl,h⟩
def ni.split{p:Nat->Bool}:∀{a b m:List (A2 S)},ni p (a++b) m->∃c d,m=c++d∧ni p b d
 |[],_,m,h=>⟨[],m,rfl,h⟩
 |_::_,_,_,.cons _ t=>by obtain⟨c,d,h1,h2⟩:=t.split;exact⟨_::c,d,by rw[h1];rfl,h2⟩
def ni.len(h:ni p l m):m.length=l.length:=by
 induction h with|nil=>rfl|cons _ _ b=>simp[b]
def tA(p:Nat->Bool)(l m:List (A2 S)):Prop:=∃c d,m=c++d∧ni p l d
def tA.refl(p:Nat->Bool)(l:List (A2 S)):tA p l l:=⟨[],l,rfl,.refl p l⟩
def ni.ok(h:ni p l m):tA p l m:=⟨[],m,rfl,h⟩
def tA.mono{p q:Nat->Bool}(h:∀o,p o=W->q o=W){l m:List (A2 S)}(k:tA p l m):tA q l m:=by obtain⟨c,d,h1,h2⟩:=k;exact⟨c,d,h1,h2.mono h⟩
def tA.trans{p:Nat->Bool}{l m n:List (A2 S)}(h:tA p l m)(k:tA p m n):tA p l n:=by obtain⟨c,d,rfl,h2⟩:=h;obtain⟨b,e,rfl,h4⟩:=k;obtain⟨x,y,rfl,h5⟩:=h4.split;exact⟨b++x,y,by rw[p8],h2.trans h5⟩
def tA.eq(h:tA p l m)(hl:m.length=l.length):ni p l m:=by obtain⟨c,d,rfl,h2⟩:=h;have:=h2.len;have:c=[]:=td (by simp at hl;omega);subst this;exact h2
structure eG(ds:List Nat)(fr fr':bW S)(dr:List Nat)(aH:Nat):Prop where
 tm:∀k v,k∉ds->fr.get k=Z v->fr'.get k=Z v∨cD (eE dr aH) v=W
 df:tA (eE dr aH) fr.df fr'.df
def eG.refl(ds:List Nat)(fr:bW S)(dr:List Nat)(aH:Nat):eG ds fr fr dr aH:=⟨λ_ _ _ h=>.inl h,tA.refl _ _⟩
def eG.trans{ds ds':List Nat}{fr fr' b:bW S}{dr ZV:List Nat}{aH UY:Nat}(h:eG ds fr fr' dr aH)(k:eG ds' fr' b ZV UY)(hw:∀o∈dr,o∈ZV)(hn:aH<=UY):eG (ds++ds') fr b ZV aH:=by
 refine⟨λj v d e=>?_,(h.df.mono (iu hw (bP _))).trans (k.df.mono (iu (λ_ h=>h) hn))⟩;simp only[dY,not_or]at d;rcases h.tm j v d.1 e with h1|h1
 .exact (k.tm j v d.2 h1).imp id (er (iu (λ_ h=>h) hn) v)
 .exact .inr (er (iu hw (bP _)) v h1)
def eG.mono{ds ds':List Nat}{fr fr':bW S}{dr ZV:List Nat}{aH:Nat}(h:eG ds fr fr' dr aH)(b:∀k∈ds,k∈ds')(hw:∀o∈dr,o∈ZV):eG ds' fr fr' ZV aH:=by refine⟨λj v d e=>?_,h.df.mono (iu hw (bP _))⟩;exact(h.tm j v (λg=>d (b j g)) e).imp id (er (iu hw (bP _)) v)
def su{p q:Nat->Bool}(b:∀o,p o=W->q o=W){f:V S->Bool}(hf:∀v,f v=cD p v):∀l:List (A2 S),ni q l (l.map (ig f))
 |[]=>.nil
 |d::l=>by
  refine .cons ?_ (su b hf l);cases d with
  |call g args=>
   simp only[ig];cases e:f g||args.any f with
   |true=>refine .inr ⟨rfl,pO b _ ?_⟩;simp only[uk,<-hf];rw[show(cD p:V S->Bool)=f from funext λv=>(hf v).symm];exact e
   |false=>exact .inl rfl
  |mark o=>
   simp only[ig];cases e:f (.ptr o 0)with|true=>exact .inr ⟨rfl,pO b _ (by simp only[uk,<-hf];exact e)⟩|false=>exact .inl rfl
  |bad=>exact .inl rfl
def bW.iO(fr:bW S)(k j:Nat)(v:V S)(h:k<bB):(fr.put k v).get j=if j=k then Z v else fr.get j:=Tr.aX _ _ _ _ h
section
variable {g:Gh}{w:World}
def nN(hf:cF g (bz fr) a w){r:Option Bool}(h:g6 ops.toList fr o=Z r) :
  match r with
  |none=>Region.wanted o (yielded ops a.tmps)=W
  |some c=>Region.wanted o (yielded ops a.tmps)=c:=by
 unfold g6 at h;split at h
 .rename_i s;simp only[bg]at h;subst h;simp[Region.wanted,s]
 .rename_i j i s;split at h
  .rename_i b q;simp only[rL,jq]at q;obtain⟨d,⟨u,k,y⟩,l⟩:=q;obtain⟨v,z,B⟩:=hf.tm d (low (.kb b)) (by rw[bQ,l];rfl);cases B;have m:ops[j]?=Z u:=by simpa using k
   have C:yielded ops a.tmps j=Z b:=by simp[yielded,m,y,z]
   cases b<;>cases i<;>simp only[cG,dP,BR,yz,bg]at h<;>subst h<;>simp[Region.wanted,s,C]
  .rename_i t _ q;split at h
   .rename_i b H;simp only[bg]at h;subst h;obtain⟨p,e,hp⟩:=kM H;simp only[rL,jq]at q;obtain⟨d,⟨u,k,y⟩,l⟩:=q;obtain⟨v,z,B⟩:=hf.tm d (low t) (by rw[bQ,l];rfl);have G:=iH e hp B;subst G;have m:ops[j]?=Z u:=by simpa using k
    have C:yielded ops a.tmps j=Z b:=by simp[yielded,m,y,z]
    simp only[Region.wanted,s,C,D.beq];cases b<;>cases i<;>rfl
   .cases h
  .cases h
def A7(hf:cF g (bz fr) a w)(h:sL ops.toList fr o=W):Region.wanted o (yielded ops a.tmps)=J:=by
 unfold sL at h;split at h
 .cases h
 .rename_i j m z;split at h
  .rename_i b p;simp only[rL,jq]at p;obtain⟨d,⟨r,e,s⟩,i⟩:=p;obtain⟨v,t,q⟩:=hf.tm d (low (.kb b)) (by rw[bQ,i];rfl);cases q;have k:ops[j]?=Z r:=by simpa using e
   have u:yielded ops a.tmps j=Z b:=by simp[yielded,k,s,t]
   cases b<;>cases m<;>first|(cases h;done)|simp[Region.wanted,z,u]
  .rename_i l p;simp only[rL,jq]at p;obtain⟨d,⟨r,e,s⟩,i⟩:=p;obtain⟨v,t,q⟩:=hf.tm d (low (.dat (.lit (.tuple l)))) (by rw[bQ,i];rfl);simp only[low]at q;cases q with
   |sym _ _ y=>
   cases y;have k:ops[j]?=Z r:=by simpa using e
   have u:yielded ops a.tmps j=Y:=by simp[yielded,k,s,t]
   simp[Region.wanted,z,u]
  .cases h
def Ks:aK g w (low (S:=S) fu) undef:=.sym _ _ (.lit _)
def W9(t d:V S):Prop:=d=t∨∃b,t=.ty .bool b∧d=.kb b
def W9.rel{d:V S}(h:W9 t d)(e:aK g w (low t) v):aK g w (low d) v:=by
 rcases h with rfl|⟨b,rfl,rfl⟩
 .exact e
 .cases e with|sym _ _ i=>cases i;exact .kb b
def Rs{ω:Type}{k:V S->Option ω}{r:ω}(h:zM b t k=Z r):∃e,W9 t e∧k e=Z r:=by
 unfold zM at h;rcases af h with⟨_,d⟩|⟨_,d⟩
 .clear h;split at d
  .rename_i x;rcases oh d with⟨rfl,h⟩|⟨rfl,h⟩
   .exact ⟨_,.inr ⟨W,rfl,rfl⟩,h⟩
   .exact ⟨_,.inr ⟨J,rfl,rfl⟩,h⟩
  .exact ⟨_,.inl rfl,d⟩
 .exact ⟨t,.inl rfl,d⟩
def Ix{ω:Type}{k:V S->Option ω}{r:ω}(h:zM b t k=Z r)(d:aK g w (low t) v):∃i,k i=Z r∧aK g w (low i) v:=by
 unfold zM at h;rcases af h with⟨_,e⟩|⟨_,h⟩
 .clear h;split at e
  .rename_i x;have j:v=.bool x:=by cases d with|sym _ _ l=>cases l;rfl
   subst j;rcases oh e with⟨rfl,h⟩|⟨rfl,h⟩
   .exact ⟨_,h,.kb W⟩
   .exact ⟨_,h,.kb J⟩
  .exact ⟨_,e,d⟩
 .exact ⟨t,h,d⟩
def ue(hf:cF g (bz fr) a w)(hn:fr.n<=bB){o:Op}(h:Jp W fr o=W):cF g (bz (mQ fr o)) a w∧(mQ fr o).n=fr.n:=by
 have key:∀(l:List Operand)(q:Bool)(f0:bW S),f0.n=fr.n->(q=W->cF g (bz f0) a w)->
   l.foldl (λp x=>match x with
    | .tmp k=>match fr.get k with
     |some (.gd g _)=>p&&imp W g
     |_=>p
    |_=>p) q=W->
   cF g (bz (l.foldl (λf x=>match x with
    | .tmp k=>match fr.get k with
     |some (.gd _ v)=>f.put k v
     |_=>f
    |_=>f) f0)) a w∧(l.foldl (λf x=>match x with
    | .tmp k=>match fr.get k with
     |some (.gd _ v)=>f.put k v
     |_=>f
    |_=>f) f0).n=fr.n:=by
  intro l
  induction l with
  |nil=>intro q f0 b e h;exact⟨e h,b⟩
  |cons x l m=>
   intro q f0 b e h;simp only[Bh]at h ⊢;cases x with
   |tmp k=>
    simp only at h ⊢;split at h
    .rename_i G v cL;refine m _ _ (by simpa[bW.put]using b) (λi=>?_) h;simp only[dR]at i;have j:=e i.1;have y:G=W:=i.2;subst y;obtain⟨u,z,B⟩:=hf.tm k (low (.gd W v)) (by rw[bQ,cL];rfl);have r:k<fr.n:=by have:=(IU.1 z).1;rw[hf.size]at this;exact this
     refine⟨j.size,j.df,λC H d=>?_⟩;rw[bQ,bW.iO _ _ _ _ (dy r hn)]at d;by_cases s:C=k
     .subst s;rw[bJ rfl]at d;simp only[dX,bg]at d;subst d;simp only[low]at B;cases B with|gd _ _ _ t=>exact⟨u,z,t rfl⟩
     .rw[br s]at d;exact j.tm C H (by rw[bQ];exact d)
    .exact m _ _ b e h
   |const v=>exact m _ _ b e h
   |global v=>exact m _ _ b e h
   |func v=>exact m _ _ b e h
 exact key o.operands.toList W fr rfl (λ_=>hf) h
def rN(hf:cF g (bz fr) a w)(b:fV fr dst=W)(hn:fr.n<=bB)(d:aK g w (low t) v) :
  cF g (bz (fr.hY dst t)) (a.put dst v) w∧(fr.hY dst t).n=fr.n:=by
 refine⟨?_,by cases dst<;>rfl⟩;rw[N5];exact SS hf (by cases dst<;>exact b) hn d
def Hg(hn:fr.n<=bB)(l:fV fr dst=W)(hw:∀o∈ow,o∈dr)(aH:Nat)(t:V S):eG dst.toList fr ((dU ow fr).hY dst t) dr aH:=by
 refine⟨λk v m j=>?_,?_⟩;rotate_left
 .have e:((dU ow fr).hY dst t).df=(dU ow fr).df:=by cases dst<;>rfl
  rw[e];cases ow with|nil=>exact tA.refl _ _|cons o ow=>refine(su (p:=(o::ow).contains) (λq b=>?_) (λv=>nK _ v) _).ok;simp only[eE,jQ,yp,jR]at b ⊢;exact .inl (hw q b)
 have h1:(dU ow fr).get k=Z v∨cD (eE dr aH) v=W:=by
  cases ow with
  |nil=>exact .inl j
  |cons o ow=>
   cases g:gS (o::ow) v with
   |true=>rw[nK]at g;refine .inr (er (λo b=>?_) v g);simp only[eE,jQ,yp,jR]at b ⊢;exact .inl (hw o b)
   |false=>
    left
    show(fr.tm.keep _).get k=Z v;rw[Tr.oM,show fr.tm.get k=Z v from j];simp[Option.filter,g]
 refine h1.imp (λh1=>?_) id;cases dst with|none=>exact h1|some d=>have i:d<fr.n:=fQ l;show((dU ow fr).put d t).get k=Z v;rw[bW.iO _ _ _ _ (dy i hn),br (by simpa using m)];exact h1
def yS(v:Value):aK g w (low (S:=S) (.gd J fu)) v:=by simp only[low];exact .gd _ _ _ λh=>by cases h
def vw(ow:List Nat)(fr:bW S):(dU ow fr).n=fr.n:=by cases ow<;>rfl
def yE{d:Option Nat}(h:fV fr d=W):fV (dU ow fr) d=W:=by cases d with|none=>rfl|some d=>simp only[fV,vw]at h ⊢;exact h
def qh(q:eM E)(d:fT E.T.E.P call)(hn:fr.n<=bB)(hf:cF g (bz fr) a w)(hs:bh g (aG s) w){ω:Type}
  {kp:V S->bq S->Option ω} {k:V S->bq S->List Nat->Option ω} {r:ω} (h:mC E call ops.toList o fr s kp k=Z r) {K:Act->World->Prop} {Q:Exit->Act->World->Prop}
  (m:∀t s' ow g' v w',k t s' ow=Z r->aK g' w' (low t) v->cM ow s g w s' g' w'->K (a.put o.dst v) w')
  (B:∀t s' g' v w',kp t s'=Z r->cM [] s g w s' g' w'->aK g' w' (low t) v->Q (.panic [{v,recovered:=J}]) a w') {rr:Option Nat} (e:rr≠Y->∀c,o.op≠.defer c) :
  fV fr o.dst=W∧if Region.wanted o (yielded ops a.tmps)then W6 rr E.T.E.P o a w K Q else K (a.put o.dst undef) w:=by
 unfold mC at h;rcases af h with⟨C,h⟩|⟨_,h⟩;rotate_left
 .cases h
 refine⟨C,?_⟩;rcases af h with⟨u,h⟩|⟨_,h⟩
 .rw[br (by rw[A7 hf u];exact Bool.noConfusion)];exact m _ s [] g undef w h Ks (cM.refl hs)
 split at h
 .cases h
 .rename_i y;have hw:=nN hf y;simp only at hw;rw[bJ hw];exact y5 q d hf hs h (λt s' g' ow v w' i b p=>m t s' ow g' v w' i p b) B e
 .rename_i c y;have hw:=nN hf y;simp only at hw;dsimp only at h;rcases af h with⟨_,h⟩|⟨_,h⟩
  .obtain ⟨j,h⟩:=mS h;cases c with
   |true=>rw[bJ hw];obtain⟨l,z⟩:=ue hf hn j;exact .of_wp e (.inl (qi q l hs (.inr rfl) h (λt g' v w' i b p=>m _ s [] g' v w' i (by simp only[low];exact .gd _ _ _ λ_=>p) b)))
   |false=>rw[br (by rw[hw];exact Bool.noConfusion)];obtain⟨t,i⟩:=Jt h;exact m _ s [] g undef w i (by simp only[low];exact .gd _ _ _ λh=>by cases h) (cM.refl hs)
  .rcases oh h with⟨rfl,h⟩|⟨rfl,h⟩
   .obtain ⟨j,h⟩:=mS h;rw[bJ hw];obtain⟨l,z⟩:=ue hf hn j;exact y5 q d l hs h (λt s' g' ow v w' i b p=>m t s' ow g' v w' i p b) B e
   .rw[br (by rw[hw];exact Bool.noConfusion)];exact m _ s [] g undef w h (yS _) (cM.refl hs)
def Jz{P:Program}(hf:cF g (bz fr) a w){d:A2 S}(h:OJ fr o=Z d) :
  o.guard=Y∧∃e,(execOp a.eval o).run P w=.ok (.defer e) w∧uQ g w (qQ d) e:=by
 unfold OJ at h;split at h;rotate_left
 .cases h
 rename_i c y m;refine⟨y,?_⟩;split at h;rotate_left
 .cases h
 rename_i f i;split at h;rotate_left
 .cases h
 rename_i l z B args p b;simp only[bg]at h;subst h;have q:=bL hf (bV p);have k:=e9 hf (gP b);simp only[low]at q;generalize r:a.eval f=K at q;cases q with
 |fn _ _ _ s u C G H I=>
  refine⟨{target:=.fn l u,args:=s++c.args.map a.eval},?_,?_⟩
  .simp only[execOp,m,resolve,i,Deferred.ofValue,r,Sem.run_bind,Sem.run_pure,Result.andThen_ok]
  .exact .call (.fn l (bn z) (bn B)) (bn args) l s u (c.args.map a.eval) (.fn l _ _ s u C G H I) (by simpa using k.1) (λj t v h1 h2=>k.2 j t v h1 (by simpa using h2))
def Js(H:eM E)(i:fT E.T.E.P call)(hn:fr.n<=bB)(hf:cF g (bz fr) a w)(hs:bh g (aG s) w){ω:Type}
  {kp:V S->bq S->Option ω} {k:bW S->bq S->Option ω} {r:ω} (h:OD E call ops.toList o fr s kp k=Z r) {K:Act->World->Prop} {Q:Exit->Act->World->Prop}
  (I:∀fr' s' g' L w',k fr' s'=Z r->fr'.n=fr.n->cF g' (bz fr') L w'->fj s g w s' g' w'->eG o.dst.toList fr fr' s'.dr s.aH->K L w')
  (M:∀t s' g' v w',kp t s'=Z r->cF g' (bz fr) a w'->fj s g w s' g' w'->aK g' w' (low t) v->Q (.panic [{v,recovered:=J}]) a w') {rr:Option Nat} (m:rr≠Y->∀c,o.op≠.defer c) :
  if Region.wanted o (yielded ops a.tmps)then W6 rr E.T.E.P o a w K Q else K (a.put o.dst undef) w:=by
 unfold OD at h;split at h
 .rename_i d B;rcases af h with⟨p,h2⟩|⟨_,h2⟩;rotate_left
  .cases h2
  obtain⟨O,e,q,l⟩:=Jz (P:=E.T.E.P) hf B;have hw:Region.wanted o (yielded ops a.tmps)=W:=by simp[Region.wanted,O]
  rw[bJ hw];refine .of_wp m (.inl ?_);unfold Oper.wp;rw[q];obtain⟨h1,h3⟩:=rN hf p hn (t:=wR) (v:=undef) (yS _);have key:∀dst:Option Nat,cF g (bz (fr.hY dst wR)) (a.put dst undef) w->cF g (bz {(fr.hY dst wR)with df:=d::fr.df}) (({a with defers:=e::a.defers}:Act).put dst undef) w:=by intro dst h1;cases dst with|none=>exact⟨h1.size,.cons l hf.df,h1.tm⟩|some j=>exact⟨h1.size,.cons l hf.df,h1.tm⟩
  obtain⟨h4,h5⟩:=Hg (ow:=[]) (dr:=s.dr) hn p (λo R=>by cases R) s.aH wR;exact I _ s g _ w h2 h3 (key _ h1) (fj.refl hs) ⟨h4,[d],fr.df,rfl,.refl _ _⟩
 have p:fV fr o.dst=W:=(qh H i hn hf hs h (K:=λ_ _=>True) (Q:=λ_ _ _=>True) (λ_ _ _ _ _ _ _ _ _=>trivial) (λ_ _ _ _ _ _ _ _=>trivial) m).1;refine(qh H i hn hf hs h (λt s' ow g' v w' u y b=>?_) (λt s' g' v w' u b y=>M t s' g' v w' u (mA (ow:=[]) hf b) b.toW y) m).2;have C:=b.owd;have G:=mA hf b;obtain⟨t,u,y⟩:=Ix u y;obtain⟨h1,h2⟩:=rN (fr:=dU ow fr) G (yE p) (by rw[vw];exact hn) y;exact I _ s' g' _ w' u (h2.trans (vw ow fr)) h1 b.toW (Hg hn p C _ t)
def Bx(hE:eM E)(e:fT E.T.E.P call){ω:Type}{kp:bW S->V S->bq S->Option ω}{kk:bW S->bq S->Option ω}{r:ω}{Q:Exit->Act->World->Prop}{rr:Option Nat}(B:rr≠Y->∀o∈ops.toList,∀c,o.op≠.defer c) :
  ∀(l:List Oper)(k:Nat),ops.toList.drop k=l->∀{fr:bW S}{s:bq S}{a:Act}{g:Gh}{w:World},fr.n<=bB->Mj E call ops.toList kp kk l fr s=Z r->cF g (bz fr) a w->bh g (aG s) w->
   (∀fr' s' g' u w',kk fr' s'=Z r->fr'.n=fr.n->cF g' (bz fr') u w'->fj s g w s' g' w'->eG (l.filterMap (·.dst)) fr fr' s'.dr s.aH->Q .normal u w')->
   (∀fr' t s' g' u v w',kp fr' t s'=Z r->fr'.n=fr.n->cF g' (bz fr') u w'->fj s g w s' g' w'->eG (l.filterMap (·.dst)) fr fr' s'.dr s.aH->aK g' w' (low t) v->Q (.panic [{v,recovered:=J}]) u w')->
   uH rr E.T.E.P ops Q (List.range' k l.length) a w:=by
 intro l
 induction l with
 |nil=>intro k _ fr s a g w _ h hf C G _;exact G fr s g a w h rfl hf (fj.refl C) (eG.refl _ _ _ _)
 |cons o l ih=>
  intro k R fr s a g w U h hf C G X;have H:ops[k]?=Z o:=by have:=mJ (λm=>m[0]?) R;simpa[Dr]using this
  have I:ops.toList.drop (k+1)=l:=by have:=mJ (List.drop 1) R;simpa[KV,Nat.add_comm]using this
  rw[fc,List.range'_succ];unfold uH;simp only[H];simp only[Mj]at h;have tail:∀{fr' b:bW S}{s' d:bq S}{g':Gh}{w':World},fj s g w s' g' w'->eG o.dst.toList fr fr' s'.dr s.aH->(∀o∈s'.dr,o∈d.dr)->eG (l.filterMap (·.dst)) fr' b d.dr s'.aH->eG ((o::l).filterMap (·.dst)) fr b d.dr s.aH:=by
   intro fr' b s' d g' w' h4 h5 h6 y;have:=h5.trans y h6 h4.aH;refine this.mono (λj hj=>?_) (λ_ h=>h);rcases dY.1 hj with hj|hj
   .rw[vJ];exact⟨o,ez,by simpa using hj⟩
   .rw[vJ]at hj ⊢;obtain⟨x,hx,K⟩:=hj;exact⟨x,gJ _ hx,K⟩
  refine Js hE e U hf C h (λfr' s' g' u w' h1 h2 h3 h4 h5=>?_) (λt s' g' v w' h1 h2 h3 h4=>X fr t s' g' a v w' h1 rfl h2 h3 (eG.refl _ _ _ _) h4) λhr=>B hr o (by rw[<-Lg]at H;exact gY H);exact ih (k+1) I (by rw[h2];exact U) h1 h3 h4.rel (λb d i p q L M O z y=>G b d i p q L (M.trans h2) O (h4.trans z) (tail h4 h5 z.Gq y)) (λb t d i p v' q L M O z y k6=>X b t d i p v' q L (M.trans h2) O (h4.trans z) (tail h4 h5 z.Gq y) k6)
end
end
section
mutual
def eu(p:Nat->Bool):T->Bool
 | .ptr o _=>p o
 | .kA o _ _ _=>p o
 | .sh o _=>p o
 | .mp o=>p o
 | .ry o=>p o
 | .ru o=>p o
 | .qd o m _ _=>p o||p m
 | .fn _ a b=>jJ p a||jJ p b
 | .cR _ v=>eu p v
 | .agg d=>jJ p d
 | .gm d=>jJ p d
 | .gd _ v=>eu p v
 |_=>J
def jJ(p:Nat->Bool):List T->Bool
 |[]=>J
 |v::l=>eu p v||jJ p l
end
mutual
def gQ(p:Nat->Bool):∀v:V S,eu p (low v)=cD p v
 | .ty t x=>by
  have:∀l:List D,jJ p (l.map .sym)=J:=by
   intro l
   induction l with|nil=>rfl|cons d l g=>simp[jJ,eu,g]
  cases t<;>simp[low,eD,cD,eu,this]
 | .kb _=>rfl
 | .kn _ _=>rfl
 | .dat _=>rfl
 | .ptr _ _=>rfl
 | .mD _ _ _=>rfl
 | .kA _ _ _ _=>rfl
 | .sh _ _=>rfl
 | .emp=>rfl
 | .jy _ _ _=>rfl
 | .fn _ a b=>by simp only[low,cD,eu,oG p a,oG p b]
 | .cR _ v=>by simp only[low,cD,eu,gQ p v]
 | .agg e=>by simp only[low,cD,eu,oG p e]
 | .gm e=>by simp only[low,cD,eu,oG p e]
 | .gd _ v=>by simp only[low,cD,eu,gQ p v]
 | .mp _=>rfl
 | .ry _=>rfl
 | .ru _=>rfl
 | .ub _=>rfl
 | .qd _ _ _ _=>rfl
 | .nQ _ _ _=>rfl
def oG(p:Nat->Bool):∀l:List (V S),jJ p (bn l)=gZ p l
 |[]=>rfl
 |v::l=>by simp only[bn,jJ,gZ,gQ p v,oG p l]
end
def mM{p:Nat->Bool}:∀{l:List T},jJ p l=J->∀t∈l,eu p t=J
 |[],_,t,b=>by cases b
 |a::l,h,t,b=>by
  simp only[jJ,vL]at h;rcases eR.1 b with rfl|b
  .exact h.1
  .exact mM h.2 t b
structure ahV(p:Nat->Bool)(g g':Gh):Prop where
 cg:∀o b,p o=J->g.cg o=Z b->g'.cg o=Z b
 arr:∀o e x,p o=J->g.arr o e=Z x->g'.arr o e=Z x
 bA:∀b,g.bA b->g'.bA b
variable {p:Nat->Bool}{g:Gh}{w:World}{v:V S}{o b:Nat}{s:bq S}{fr:bW S}{a:Act}{sh:Sh}{bs ow:List Nat}{al:List (Nat×Nat)}
def aK.on{g':Gh}{w':World}(q:ahV p g g')(y:sZ g.bA w w'){t:T}{v:Value}(h:aK g w t v)(l:eu p t=J):aK g' w' t v:=by
 induction h with
 |sym d v u=>exact .sym d v (u.mono y q.bA)
 |kb b=>exact .kb b
 |kn k n=>exact .kn k n
 |ptr o off b h=>exact .ptr o off b (q.cg _ _ l h)
 |mD d off G val hi H u=>exact .mD d off G val (q.bA _ hi) (λj c z=>by rw[y.cell (by rw[kN];exact hi)];exact H j c z) (λj c z=>(u j c z).mono y q.bA)
 |kA o e i off len cap sz G h=>exact .kA o e i off len cap sz G (q.arr _ _ _ l h)
 |sh o e len cap sz a h=>exact .sh o e len cap sz a (q.arr _ _ _ l h)
 |emp a=>exact .emp a
 |jy k M a O u=>exact .jy k M a O (u.mono y q.bA)
 |fn f fs B R S C I _ _ s K=>simp only[eu,vL]at l;exact .fn f fs B R S C I (λj t v h1 h2=>s j t v h1 h2 (mM l.1 t (gY h1))) (λj t v h1 h2=>K j t v h1 h2 (mM l.2 t (gY h1)))
 |cR t x v _ s=>exact .cR t x v (s l)
 |agg B L C _ s=>exact .agg B L C (λj t v h1 h2=>s j t v h1 h2 (mM l t (gY h1)))
 |gm B L C _ s=>exact .gm B L C (λj t v h1 h2=>s j t v h1 h2 (mM l t (gY h1)))
 |gd c t v _ s=>exact .gd c t v (λH=>s H l)
 |mp o b h=>exact .mp o b (q.cg _ _ l h)
 |ry o b h=>exact .ry o b (q.cg _ _ l h)
 |ru o b h=>exact .ru o b (q.cg _ _ l h)
 |ub e b h=>exact .ub e b h
 |qd o m r i len cap sz a h=>simp only[eu,vL]at l;exact .qd o m r i len cap sz a (q.arr _ _ _ l.2 h)
 |nQ j d c a z u=>exact .nQ j d c a z (u.mono y q.bA)
def Gh.base(g:Gh)(p:Nat->Bool):Gh:={g with cg:=λo=>if p o=J then g.cg o else Y,arr:=λo e=>if p o=J then g.arr o e else Y}
def Gh.lE(g:Gh)(p:Nat->Bool):ahV p g (g.base p):=
 ⟨λo b h e=>by simp[Gh.base,h,e],λo e x h k=>by simp[Gh.base,h,k],λ_ h=>h⟩
def Gh.E7(h:(g.base p).cg o=Z b):p o=J∧g.cg o=Z b:=by
 simp only[Gh.base]at h;split at h
 .exact ⟨by assumption,h⟩
 .cases h
def Gh.E8{e:Nat}{x:fq}(h:(g.base p).arr o e=Z x):p o=J∧g.arr o e=Z x:=by
 simp only[Gh.base]at h;split at h
 .exact ⟨by assumption,h⟩
 .cases h
def Gh.mg{k:Nat}(h:bM (g.base p) k b):p k=J∧bM g k b:=by
 obtain⟨h1,h2|⟨e,x,d,h2,h3⟩⟩:=h
 .exact ⟨(Gh.E7 h2).1,h1,.inl (Gh.E7 h2).2⟩
 .exact ⟨(Gh.E8 h2).1,h1,.inr ⟨e,x,d,(Gh.E8 h2).2,h3⟩⟩
def bh.base{g:Gh}{w:World}{s s0:St}(hs:bh g s w){p:Nat->Bool}{aH:Nat}(hp:∀o,aH<=o->p o=W)(C:s0.aH=aH)(hn:aH<=s.aH)
  (l:∀o ob,p o=J->s0.ob.get o=Z ob->∃d,s.ob.get o=Z d∧pV (eu p) d ob):bh (g.base p) s0 w:=by
 refine⟨C▸fC hn hs.aH,λo G=>?_,λo b H=>?_,λo e x I=>?_,hs.bA,λo K b h L=>hs.lV o K b (Gh.mg h).2 (Gh.mg L).2⟩
 .have:=hp o (C▸G);exact⟨by simp[Gh.base,this],λe=>by simp[Gh.base,this]⟩
 .obtain ⟨k,r⟩:=Gh.E7 H;obtain⟨h1,h2,h3⟩:=hs.box o b r;refine⟨h1,h2,λob i=>?_⟩;obtain⟨d,u,z⟩:=l o ob k i;obtain⟨x,h4,h5⟩:=h3 d u;exact⟨x,h4,h5.left (λt v M q=>M.on (g.lE p) (λ_ _=>rfl) q) z⟩
 .obtain ⟨k,B⟩:=Gh.E8 I;obtain⟨h1,h2⟩:=hs.arr o e x B;refine⟨h1,λob i=>?_⟩;obtain⟨d,u,z⟩:=l o ob k i;refine(h2 d u).left z (λh=>h.jT rfl) (λm j y q h=>?_) (funext λO=>by simp only[Gh.base,bJ k]);have q:p m=J:=q;simp only[Gh.base,bJ q];exact h
def nT(a:Act):Sh->List Value->Prop
 |[],[]=>True
 |(k,.one _)::l,v::b=>a.tmps[k]?=Z v∧nT a l b
 |(_,.box _)::l,_::b=>nT a l b
 |(_,.hid _)::l,b=>nT a l b
 |_,_=>False
def I1{l:List (V S)}{i:Nat}(h:nth l i=Z v):(bn l)[i]?=Z (low v):=by rw[jq]at h;simp[ga,h]
def oa{g:Gh}{w:World}{fr:bW S}{s:bq S}{a:Act}(hf:cF g (bz fr) a w)(hs:bh g (aG s) w):∀{p:Pt}{v:V S},Is fr s p=Z v->∃u,aK g w (low v) u
 | .slot k,v,h=>by obtain⟨u,_,e⟩:=hf.tm k (low v) (by rw[bQ,show fr.get k=Z v from h];rfl);exact⟨u,e⟩
 | .cell p i,v,h=>by
  simp only[Is]at h;split at h
  .rename_i o hp;obtain⟨u,d⟩:=oa hf hs hp;split at h
   .rename_i B j;cases d with
    |ptr _ _ b m=>
     obtain⟨q,ty,C,t,e⟩:=(hs.box o b m).box (by rw[aY,j];rfl);have h1:=I1 h;have h2:i<q.size:=by rw[<-t];exact(tc.1 h1).1
     exact⟨q[i],e i _ _ h1 (ov h2)⟩
   .cases h
  .cases h
 | .cap p i,v,h=>by
  simp only[Is]at h;split at h
  .rename_i f fs B hp;obtain⟨u,d⟩:=oa hf hs hp;cases d with
   |fn _ _ _ K y t G h1 h2=>
    have z:=I1 h;have H:i<y.size:=by rw[<-G];exact(tc.1 z).1
    exact⟨y[i],h2 i _ _ z (ov H)⟩
  .cases h
 | .rnd p k,v,h=>by
  simp only[Is]at h;split at h
  .rename_i o hp;obtain⟨u,d⟩:=oa hf hs hp;split at h
   .rename_i l j;cases d with
    |ry _ b m=>
     obtain⟨x,C,e⟩:=(hs.box o b m).2.2 _ (by rw[aY,j];rfl);cases e with
     |lp _ r h1 h2 h4 h5 h6 L I=>
      obtain⟨u,_,d⟩:=I k (low v) (by
       show(bz l.fr).get k=_;rw[bQ,h];rfl)
      exact⟨u,d⟩
   .cases h
  .cases h
def tR{g:Gh}{w:World}{fr:bW S}{s:bq S}{a:Act}(hf:cF g (bz fr) a w)(hs:bh g (aG s) w):∀{sh:Sh}{ps:List Pt}{bs:List Nat},qL fr s sh ps=Z bs->∃bl,PW (λo b=>g.cg o=Z b) bs bl
 |[],[],bs,h=>by simp only[qL,bg]at h;subst h;exact⟨[],rfl,λj t v h=>by simp at h⟩
 |(k,.one c)::l,ps,bs,h=>tR hf hs (sh:=l) (ps:=ps) (by simpa only[qL]using h)
 |(_,.box k)::l,p::ps,bs,h=>by
  simp only[qL]at h;split at h
  .rename_i v i;split at h
   .rename_i o r h1 h2;simp only[bg]at h;subst h;obtain rfl:=Jb h1;obtain⟨u,m⟩:=oa hf hs i;obtain⟨b,q,_⟩:=DZ m;obtain⟨bl,h3⟩:=tR hf hs h2;refine⟨b::bl,by simp[h3.1],λj y z d e=>?_⟩;cases j with|zero=>simp at d e;subst d;subst e;exact q|succ j=>exact h3.2 j y z (by simpa using d) (by simpa using e)
   .cases h
  .cases h
 |(_,.hid k)::l,p::ps,bs,h=>by
  simp only[qL]at h;split at h
  .rename_i v i;split at h
   .rename_i o r h1 h2;simp only[bg]at h;subst h;obtain rfl:=Jb h1;obtain⟨u,m⟩:=oa hf hs i;obtain⟨b,q,_⟩:=DZ m;obtain⟨bl,h3⟩:=tR hf hs h2;refine⟨b::bl,by simp[h3.1],λj y z d e=>?_⟩;cases j with|zero=>simp at d e;subst d;subst e;exact q|succ j=>exact h3.2 j y z (by simpa using d) (by simpa using e)
   .cases h
  .cases h
 |[],_::_,_,h=>by simp[qL]at h
 |(_,.box _)::_,[],_,h=>by simp[qL]at h
 |(_,.hid _)::_,[],_,h=>by simp[qL]at h
def Cp{g:Gh}{w:World}{fr:bW S}{a:Act}(hf:cF g (bz fr) a w):∀{sh:Sh}{bs bl:List Nat}{vs:List (V S)},s8 fr sh bs=Z vs->PW (λo b=>g.cg o=Z b) bs bl->∃vals,nT a sh vals∧PW (aK g w) (bn vs) vals
 |[],[],bl,vs,h,_=>by simp only[s8,bg]at h;subst h;exact⟨[],trivial,rfl,λj t v h=>by simp[bn]at h⟩
 |(k,.one c)::l,bs,bl,vs,h,d=>by
  simp only[s8]at h;split at h
  .rename_i v r h1 h2;simp only[bg]at h;subst h;obtain⟨vals,h3,h4⟩:=Cp hf h2 d;obtain⟨u,y,z⟩:=hf.tm k (low v) (by rw[bQ,h1];rfl);refine⟨u::vals,⟨y,h3⟩,by simp only[bn,fc,h4.1],λj t m e i=>?_⟩;cases j with|zero=>simp[bn]at e i;subst e;subst i;exact z|succ j=>exact h4.2 j t m (by simpa[bn]using e) (by simpa using i)
  .cases h
 |(_,.box k)::l,o::bs,b::bl,vs,h,d=>by
  simp only[s8]at h;split at h
  .rename_i r h2;simp only[bg]at h;subst h;have p:g.cg o=Z b:=d.2 0 _ _ rfl rfl;obtain⟨vals,h3,h4⟩:=Cp hf h2 (bl:=bl) ⟨by simpa using d.1,λj q s e i=>d.2 (j+1) q s (by simpa using e) (by simpa using i)⟩;refine⟨Ja k b::vals,h3,by simp only[bn,fc,h4.1],λj t m e i=>?_⟩;cases j with|zero=>simp[bn]at e i;subst e;subst i;exact LK p|succ j=>exact h4.2 j t m (by simpa[bn]using e) (by simpa using i)
  .cases h
 |(_,.box k)::l,o::bs,[],vs,h,d=>absurd d.1 (by simp)
 |(_,.hid k)::l,o::bs,b::bl,vs,h,d=>by simp only[s8]at h;obtain⟨vals,h3,h4⟩:=Cp hf h (bl:=bl) ⟨by simpa using d.1,λj q s e i=>d.2 (j+1) q s (by simpa using e) (by simpa using i)⟩;exact⟨vals,h3,h4⟩
 |(_,.hid k)::l,o::bs,[],vs,h,d=>absurd d.1 (by simp)
 |[],_::_,_,_,h,_=>by simp[s8]at h
 |(_,.box _)::_,[],_,_,h,_=>by simp[s8]at h
 |(_,.hid _)::_,[],_,_,h,_=>by simp[s8]at h
structure Ig(sh:Sh)(bs:List Nat)(a:Act)(g:Gh)(s:bq S)(w:World)(x:fU S.A (kR sh))(s2:bq S)(ow:List Nat)(g2:Gh)(vals:List Value)(al:List fq)(bl:List Nat):Prop where
 rel:bh g2 (aG s2) w
 ext:Ext s.fl g w g2 w
 pr:oZ S g2.bA w (kR sh) x vals al bl
 at_:nT a sh vals
 alr:AL g2 al ow
 X3:PW (λo b=>g2.cg o=Z b) bs bl
 now:ow.Nodup
 owp:∀o∈ow,s.fl<=o∧s.lo<=o∧o<s.aH
 nbs:bs.Nodup
 WE:∀o∈bs,s.fl<=o∧o<s.aH∧o∉ow∧∀e,g2.arr o e=Y
 fl:s2.fl=s.fl
 lo:s2.lo=s.lo
 aH:s2.aH=s.aH
 uW:∀o∈s.wr,o∈s2.wr
 same:∀o,o∉s2.wr->s2.ob.get o=s.ob.get o
 dr:s2.dr=s.dr
 ap:uU al
 owb:∀o∈ow,g.cg o=Y
def nI(hS:fh S){s2:bq S}(hf:cF g (bz fr) a w)(hs:bh g (aG s) w){x:fU S.A (kR sh)}{bl0:List Nat}(t:PW (λo b=>g.cg o=Z b) bs bl0)(h:rQ sh bs fr s=Z (x,s2,ow)) :
  ∃g2 vals al bl,Ig sh bs a g s w x s2 ow g2 vals al bl:=by
 unfold rQ at h;split at h
 .cases h
 rename_i vs k;split at h
 .cases h
 rename_i x' U ow' l C;split at h
 .cases h
 rename_i O G;rcases af h with⟨r,h2⟩|⟨_,h2⟩;rotate_left
 .cases h2
 clear h;simp only[dR]at r;simp only[bg,bC]at h2;obtain⟨rfl,rfl,rfl⟩:=h2;obtain⟨vals,X,lO⟩:=Cp hf k t;have u:=l5 r.1;have hap:=xF r.2.1;have v:=l5 r.2.2.1;have hbb:l=bs:=by
  have h1:l.length=bs.length:=by have:=beq_iff'.1 r.2.2.2.1;rwa [bK,bK]at this
  have h2:=r.2.2.2.2;clear r C v k t
  induction l generalizing bs with
  |nil=>cases bs with|nil=>rfl|cons=>simp at h1
  |cons c cs ih=>cases bs with|nil=>simp at h1|cons d ds=>simp only[List.zip_cons_cons,Dv,dR]at h2;rw[beq_iff'.1 h2.1,ih (by simpa using h1) h2.2]
 subst hbb;obtain⟨p1,H,p4,p3⟩:=jF hS hs C lO (λo i=>by cases i);have hfl:=cY hS _ G;obtain⟨R,m,I,hfr⟩:=eo U hs hfl p1;obtain⟨f1,f2,f3,f4,f5,f6,f7⟩:=ew G;obtain⟨al,bl,p,K,y⟩:=p3 R (aG O) U m I hfr (λo i=>i) (λo i=>by rw[aY,aY,f6 o (hap o i)]);have z:∀o∈l,∃ob,O.ob.get o=Z ob∧s.ob.get o=Z ob∧rO ob=W:=by
  intro o i;obtain⟨_,L,k,q⟩:=p4 o i;have hnf:o∉U:=λhm=>by have:=(p1 o hm).oJ (by rw[aY,k];rfl);rw[mK q]at this;cases this
  exact⟨L,by rw[f6 o hnf];exact k,k,q⟩
 have M:∀o∈l,∃b,R.cg o=Z b:=by
  intro o i;obtain⟨j,hj,rfl⟩:=s9 i;have hj':j<bl.length:=by have:=y.1;omega
  exact⟨bl[j],y.2 j _ _ (fP hj) (fP hj')⟩
 refine⟨R,vals,al,bl,m,I,p,X,K,y,u,λo i=>⟨(H o i).1,(H o i).2.1,(H o i).2.2.1⟩,v,λo i=>?_,f1,f2,f3,f4,f5,f7,K.apart m u p.iJ,λo i=>?_⟩;rotate_left
 .obtain ⟨_,_,_,oba,B,hB⟩:=H o i;exact hs.yI ((aY s o).trans (by rw[B];rfl)) (sx hB)
 obtain⟨L,Zf,hv2,q⟩:=z o i;refine⟨(p4 o i).1,?_,λhm=>?_,λe=>?_⟩
 .obtain ⟨b,r⟩:=M o i;have:=m.lt r;have e1:(aG O).aH=O.aH:=rfl;omega
 .obtain ⟨_,_,_,oba,B,hB⟩:=H o hm;rw[hv2]at B;cases B;have:=sx hB;rw[mK q]at this;cases this
 .cases B:R.arr o e with|none=>rfl|some x'=>exfalso;obtain⟨_,h2⟩:=m.arr o e x' B;exact Ls q (h2 _ (by rw[aY,Zf];rfl))
def alj:Pk->Bool|.one _=>J|_=>W
structure zy(ex:List Nat)(sh:Sh)(bs:List Nat)(a:Act)(gb:Gh)(lJ:bW S)(s0:bq S)(w:World)(al:List fq)(gh:Gh)(Gk:bW S)(zG:bq S):Prop where
 rel:bh gh (aG zG) w
 fr:cF gh (bz Gk) a w
 le:nW gb gh
 bA:gh.bA=gb.bA
 own:∀k b,bM gh k b->bM gb k b∨(s0.aH<=k∧∃a∈al,a.at b)
 fl:zG.fl=s0.fl
 lo:zG.lo=s0.lo
 aH:s0.aH<=zG.aH
 wr:zG.wr=s0.wr
 dr:zG.dr=s0.dr
 ob:∀o,o<s0.aH->o∉bs->zG.ob.get o=s0.ob.get o
 cg:gh.cg=gb.cg
 arr:∀o,o<s0.aH->∀e,gh.arr o e=gb.arr o e
 n:Gk.n=lJ.n
 Jy:Gk.df=lJ.df
 get:∀k,k∉ex->(∀p∈sh,p.1=k->alj p.2=W)->Gk.get k=lJ.get k
def Ma:∀{sh:Sh}{bs:List Nat}{x:fU S.A (kR sh)}{vals:List Value}{al:List fq}{bl:List Nat}{gb:Gh}{z Gk:bW S}{s0 zG:bq S},kH sh bs x z s0=Z (Gk,zG)->z.n<=bB->
  oZ S gb.bA w (kR sh) x vals al bl->nT a sh vals->PW (λo b=>gb.cg o=Z b) bs bl->(∀o∈bs,∀e,gb.arr o e=Y)->(∀a∈al,∀b,a.at b->∀o,¬bM gb o b)->uU al->cF gb (bz z) a w->bh gb (aG s0) w->
  ∃gh,zy [] sh bs a gb z s0 w al gh Gk zG:=by
 intro sh
 induction sh with
 |nil=>
  intro bs x vals al bl gb z Gk s0 zG h hn hp O i R I hap hf hs;cases bs with
  |nil=>simp only[kH,bg,bC]at h;obtain⟨rfl,rfl⟩:=h;exact⟨gb,hs,hf,nW.refl _,rfl,λ_ _ h=>.inl h,rfl,rfl,bP _,rfl,rfl,λ_ _ _=>rfl,rfl,λ_ _ _=>rfl,rfl,rfl,λ_ _ _=>rfl⟩
  |cons o bs=>simp[kH]at h
 |cons q sh ih=>
  intro bs x vals al bl gb z Gk s0 zG h hn hp O i R I hap hf hs;obtain⟨k,pk⟩:=q;cases pk with
  |one c=>
   cases hp with
   | @one _ _ l xr v vs zo zI bl h1 h2=>
   obtain⟨hv,O⟩:=O;simp only[kH]at h;rcases af h with⟨H,h⟩|⟨_,h⟩;rotate_left
   .cases h
   simp only[dR]at H;have hk:k<z.n:=fQ H.1;have U:(tB s0 c l).2.aH<=bB:=fQ H.2;have m:=rK.1 hap;obtain⟨X,d,lO⟩:=lW (cs:=[c]) (x:=(l,())) h1 hs (λa M=>I a (eH _ M)) m.1 (by simpa[gI]using U);have e1:(gI s0 [c] (l,())).1=[(tB s0 c l).1]:=rfl;have e2:(gI s0 [c] (l,())).2=(tB s0 c l).2:=rfl;rw[e1]at lO;rw[e2]at d;have Zf:aK X w (low (tB s0 c l).1) v:=lO.2 0 _ _ rfl rfl;have XX:cF X (bz (z.put k (tB s0 c l).1)) a w:=by
    refine⟨hf.size,hf.df.imp (λ_ _ ht=>ht.le d.le) d.le.cg,λj t y=>?_⟩;rw[bQ,bW.iO _ _ _ _ (dy hk hn)]at y;by_cases hjk:j=k
    .subst hjk;rw[bJ rfl]at y;simp only[dX,bg]at y;subst y;exact⟨v,hv,Zf⟩
    .rw[br hjk]at y;obtain⟨u,hu',hr⟩:=hf.tm j t (by rw[bQ];exact y);exact⟨u,hu',hr.le d.le⟩
   obtain⟨gh,g⟩:=ih (gb:=X) h (by simpa[bW.put]using hn) (d.bA▸h2) O (by rw[d.cg];exact i) (λo ho e=>by
     have hol:o<s0.aH:=by
      obtain⟨j,y,rfl⟩:=s9 ho;have hj':j<bl.length:=by have:=i.1;omega
      exact hs.lt (i.2 j _ _ (fP y) (fP hj'))
     rw[d.arr o hol];exact R o ho e) (λa M b H o s=>by
     rcases d.own o b s with s|⟨_,a2,SJ,qg⟩
     .exact I a (iS _ M) b H o s
     .exact m.2.2 a2 SJ a M b qg H) m.2.1 XX d.rel
   refine⟨gh,g.rel,g.fr,d.le.trans g.le,g.bA.trans d.bA,λk' b s=>?_,g.fl.trans d.fl,g.lo.trans d.lo,fC d.aH g.aH,g.wr.trans d.wr,g.dr.trans d.dr,λo ho K=>?_,g.cg.trans d.cg,λo ho e=>?_,g.n,g.Jy,λj hex y=>?_⟩
   .rcases g.own k' b s with s|⟨C,L,G,k3⟩
    .rcases d.own k' b s with s|⟨C,L,G,k3⟩
     .exact .inl s
     .exact .inr ⟨C,L,eH _ G,k3⟩
    .exact .inr ⟨fC d.aH C,L,iS _ G,k3⟩
   .rw[g.ob o (dy ho d.aH) K];exact d.ob o ho
   .rw[g.arr o (dy ho d.aH)];exact d.arr o ho e
   .rw[g.get j hex (λp hp=>y p (gJ _ hp)),bW.iO _ _ _ _ (dy hk hn),br];intro hjk;cases y (k,.one c) ez hjk.symm
  |box kd=>
   cases hp with
   | @box _ _ l xr b hx vs zo zI bl hhp h1 h2=>
   cases bs with
   |nil=>exact absurd i.1 (by simp)
   |cons o bs=>
   simp only[kH]at h;rcases af h with⟨H,h⟩|⟨_,h⟩;rotate_left
   .cases h
   have U:(gC s0 (dF bs) kd l).2.aH<=bB:=fQ H;have m:=rK.1 hap;have El:gb.cg o=Z b:=i.2 0 _ _ rfl rfl;obtain⟨X,d,acA⟩:=nX h1 (yR (bs:=bs) (bl:=bl) ⟨by simpa using i.1,λj a c C G=>i.2 (j+1) a c (by simpa using C) (by simpa using G)⟩) hs (λa M=>I a (eH _ M)) m.1 U;have hol:o<s0.aH:=hs.lt El;have hk:=d.rel.rZ (o:=o) (b:=b) (by rw[d.cg];exact El) hhp acA (λe=>by rw[d.arr o hol];exact R o (by simp) e);have hk2:bh X (aG {(gC s0 (dF bs) kd l).2 with ob:=(gC s0 (dF bs) kd l).2.ob.set aJ o (gC s0 (dF bs) kd l).1}) w:=by have:=eY (gC s0 (dF bs) kd l).2 o (gC s0 (dF bs) kd l).1 (gC s0 (dF bs) kd l).2.wr;rw[show({(gC s0 (dF bs) kd l).2 with ob:=(gC s0 (dF bs) kd l).2.ob.set aJ o (gC s0 (dF bs) kd l).1}:bq S)={(gC s0 (dF bs) kd l).2 with ob:=(gC s0 (dF bs) kd l).2.ob.set aJ o (gC s0 (dF bs) kd l).1,wr:=(gC s0 (dF bs) kd l).2.wr}from rfl,this];exact hk
   have XX:cF X (bz z) a w:=⟨hf.size,hf.df.imp (λ_ _ ht=>ht.le d.le) d.le.cg,λj t y=>by
    obtain⟨u,hu',hr⟩:=hf.tm j t y;exact⟨u,hu',hr.le d.le⟩⟩
   obtain⟨gh,g⟩:=ih (bs:=bs) (bl:=bl) (gb:=X) h hn (d.bA▸h2) O ⟨by simpa using i.1,λj L c C G=>by rw[d.cg];exact i.2 (j+1) L c (by simpa using C) (by simpa using G)⟩
    (λB r e=>by
     have acD:B<s0.aH:=by
      obtain⟨j,y,rfl⟩:=s9 r;have hj':j<bl.length:=by have:=i.1;simp at this;omega
      exact hs.lt (i.2 (j+1) bs[j] bl[j] (by simp[y]) (by simp[hj']))
     rw[d.arr B acD];exact R B (by simp[r]) e) (λa M b H o s=>by
     rcases d.own o b s with s|⟨_,a2,SJ,qg⟩
     .exact I a (iS _ M) b H o s
     .exact m.2.2 a2 SJ a M b qg H) m.2.1 XX hk2
   refine⟨gh,g.rel,g.fr,d.le.trans g.le,g.bA.trans d.bA,λk' b s=>?_,g.fl.trans d.fl,g.lo.trans d.lo,fC d.aH g.aH,g.wr.trans d.wr,g.dr.trans d.dr,λB r K=>?_,g.cg.trans d.cg,λB r e=>?_,g.n,g.Jy,λj hex y=>?_⟩
   .rcases g.own k' b s with s|⟨C,L,G,k3⟩
    .rcases d.own k' b s with s|⟨C,L,G,k3⟩
     .exact .inl s
     .exact .inr ⟨C,L,eH _ G,k3⟩
    .exact .inr ⟨fC d.aH C,L,iS _ G,k3⟩
   .have hne:B≠o:=λe=>K (by rw[e];exact ez);rw[g.ob B (dy r d.aH) (λhm=>K (gJ _ hm))];simp only;rw[Tr.dc _ _ _ _ _ hne];exact d.ob B r
   .rw[g.arr B (dy r d.aH)];exact d.arr B r e
   .exact g.get j hex (λp hp=>y p (gJ _ hp))
  |hid kd=>
   cases hp with
   | @hid _ _ l xr b hx vs zo zI bl hhp h1 h2=>
   cases bs with
   |nil=>exact absurd i.1 (by simp)
   |cons o bs=>
   simp only[kH]at h;rcases af h with⟨H,h⟩|⟨_,h⟩;rotate_left
   .cases h
   have U:(gC s0 (dF bs) kd l).2.aH<=bB:=fQ H;have m:=rK.1 hap;have El:gb.cg o=Z b:=i.2 0 _ _ rfl rfl;obtain⟨X,d,acA⟩:=nX h1 (yR (bs:=bs) (bl:=bl) ⟨by simpa using i.1,λj a c C G=>i.2 (j+1) a c (by simpa using C) (by simpa using G)⟩) hs (λa M=>I a (eH _ M)) m.1 U;have hol:o<s0.aH:=hs.lt El;have hk:=d.rel.rZ (o:=o) (b:=b) (by rw[d.cg];exact El) hhp acA (λe=>by rw[d.arr o hol];exact R o (by simp) e);have hk2:bh X (aG {(gC s0 (dF bs) kd l).2 with ob:=(gC s0 (dF bs) kd l).2.ob.set aJ o (gC s0 (dF bs) kd l).1}) w:=by have:=eY (gC s0 (dF bs) kd l).2 o (gC s0 (dF bs) kd l).1 (gC s0 (dF bs) kd l).2.wr;rw[show({(gC s0 (dF bs) kd l).2 with ob:=(gC s0 (dF bs) kd l).2.ob.set aJ o (gC s0 (dF bs) kd l).1}:bq S)={(gC s0 (dF bs) kd l).2 with ob:=(gC s0 (dF bs) kd l).2.ob.set aJ o (gC s0 (dF bs) kd l).1,wr:=(gC s0 (dF bs) kd l).2.wr}from rfl,this];exact hk
   have XX:cF X (bz z) a w:=⟨hf.size,hf.df.imp (λ_ _ ht=>ht.le d.le) d.le.cg,λj t y=>by
    obtain⟨u,hu',hr⟩:=hf.tm j t y;exact⟨u,hu',hr.le d.le⟩⟩
   obtain⟨gh,g⟩:=ih (bs:=bs) (bl:=bl) (gb:=X) h hn (d.bA▸h2) O ⟨by simpa using i.1,λj L c C G=>by rw[d.cg];exact i.2 (j+1) L c (by simpa using C) (by simpa using G)⟩
    (λB r e=>by
     have acD:B<s0.aH:=by
      obtain⟨j,y,rfl⟩:=s9 r;have hj':j<bl.length:=by have:=i.1;simp at this;omega
      exact hs.lt (i.2 (j+1) bs[j] bl[j] (by simp[y]) (by simp[hj']))
     rw[d.arr B acD];exact R B (by simp[r]) e) (λa M b H o s=>by
     rcases d.own o b s with s|⟨_,a2,SJ,qg⟩
     .exact I a (iS _ M) b H o s
     .exact m.2.2 a2 SJ a M b qg H) m.2.1 XX hk2
   refine⟨gh,g.rel,g.fr,d.le.trans g.le,g.bA.trans d.bA,λk' b s=>?_,g.fl.trans d.fl,g.lo.trans d.lo,fC d.aH g.aH,g.wr.trans d.wr,g.dr.trans d.dr,λB r K=>?_,g.cg.trans d.cg,λB r e=>?_,g.n,g.Jy,λj hex y=>?_⟩
   .rcases g.own k' b s with s|⟨C,L,G,k3⟩
    .rcases d.own k' b s with s|⟨C,L,G,k3⟩
     .exact .inl s
     .exact .inr ⟨C,L,eH _ G,k3⟩
    .exact .inr ⟨fC d.aH C,L,iS _ G,k3⟩
   .have hne:B≠o:=λe=>K (by rw[e];exact ez);rw[g.ob B (dy r d.aH) (λhm=>K (gJ _ hm))];simp only;rw[Tr.dc _ _ _ _ _ hne];exact d.ob B r
   .rw[g.arr B (dy r d.aH)];exact d.arr B r e
   .exact g.get j hex (λp hp=>y p (gJ _ hp))
def T6(a:Act)(w:World)(c:Nat):Option Value:=bif Nat.blt c 1000000 then a.tmps[c]? else match a.tmps[Nat.div (Nat.sub c 1000000) 1000]? with
 |some (.pointer (Z b))=>match w.heap[b.block]? with
  |some (.cells d _ _)=>d[Nat.mod (Nat.sub c 1000000) 1000]?
  |_=>Y
 |_=>Y
def CX(hf:cF g (bz fr) a w)(hs:bh g (aG s) w){c:Nat}(h:T5 fr s c=Z v):∃u,T6 a w c=Z u∧aK g w (low v) u:=by
 unfold T5 at h;unfold T6;cases j:Nat.blt c 1000000 with
 |true=>rw[j,cG]at h;obtain⟨u,i,e⟩:=hf.tm c (low v) (by rw[bQ,h];rfl);exact⟨u,i,e⟩
 |false=>
  rw[j,dP]at h;split at h
  .rename_i o l;split at h
   .rename_i cs m;obtain⟨u,i,e⟩:=hf.tm _ (low (.ptr o 0)) (by rw[bQ,l];rfl);simp only[low]at e;cases e with
    |ptr _ _ b p=>
    obtain⟨q,ty,r,t,d⟩:=(hs.box o b p).box (cs:=bn cs) (by rw[aY,m];rfl);have h1:=I1 h;have h2:∃x,q[Nat.mod (Nat.sub c 1000000) 1000]?=Z x:=by have:=(tc.1 h1).1;exact⟨_,ov (by omega)⟩
    obtain⟨x,k⟩:=h2;exact⟨x,by simp only[dP,i,r,k],d _ _ _ h1 k⟩
   .cases h
  .cases h
def XP(a:Act)(w:World)(al:List (Nat×Nat)):Prop:=∀p∈al,a.tmps[p.1]?=T6 a w p.2
def kG{g:Gh}{w:World}{a:Act}{s:bq S}(hs:bh g (aG s) w):∀{al:List (Nat×Nat)}{fr:bW S},(∀p∈al,p.1<bB)->XP a w al->cF g (bz fr) a w->
  cF g (bz (kZ s al fr)) a w∧(kZ s al fr).n=fr.n∧(kZ s al fr).df=fr.df∧∀k,k∉al.map (·.1)->(kZ s al fr).get k=fr.get k
 |[],fr,_,_,hf=>⟨hf,rfl,rfl,λ_ _=>rfl⟩
 |p::al,fr,m,r,hf=>by
  have i:=m p ez;have y:=r p ez;simp only[kZ];cases B:T5 fr s p.2 with
  |none=>obtain⟨h1,h2,h3,h4⟩:=kG hs (fr:=fr) (λq b=>m q (gJ _ b)) (λq b=>r q (gJ _ b)) hf;exact⟨h1,h2,h3,λk l=>h4 k λC=>l (gJ _ C)⟩
  |some v=>
   have z:cF g (bz (fr.put p.1 v)) a w:=by
    refine⟨hf.size,hf.df,λj t e=>?_⟩;rw[bQ,bW.iO _ _ _ _ i]at e;by_cases d:j=p.1
    .rw[bJ d]at e;simp only[dX,bg]at e;subst e;obtain⟨u,G,H⟩:=CX hf hs B;exact⟨u,by rw[d,y];exact G,H⟩
    .rw[br d]at e;exact hf.tm j t (by rw[bQ];exact e)
   obtain⟨h1,h2,h3,h4⟩:=kG hs (fr:=fr.put p.1 v) (λq b=>m q (gJ _ b)) (λq b=>r q (gJ _ b)) z;refine⟨h1,h2,h3,λk l=>?_⟩;simp only[lI,eR,not_or]at l;rw[h4 k l.2,bW.iO _ _ _ _ i,br l.1]
def zy.kZ{sh:Sh}{bs:List Nat}{a:Act}{gb:Gh}{d e:bW S}{s0 b:bq S}{w:World}{g:List fq}{i:Gh}(h:zy [] sh bs a gb d s0 w g i e b){al:List (Nat×Nat)}(j:∀p∈al,p.1<bB)(l:XP a w al) :
  zy (al.map (·.1)) sh bs a gb d s0 w g i (TL.kZ b al e) b:=by
 obtain⟨h1,h2,h3,h4⟩:=kG h.rel j l h.fr;exact⟨h.rel,h1,h.le,h.bA,h.own,h.fl,h.lo,h.aH,h.wr,h.dr,h.ob,h.cg,h.arr,h2.trans h.n,h3.trans h.Jy,λk m hp=>(h4 k m).trans (h.get k (by simp) hp)⟩
def vD(hf:cF g (bz fr) a w)(hs:bh g (aG s) w)(h:Th fr s al=W):XP a w al:=by
 intro p hp;unfold Th at h;rw[eA]at h;have h1:=h p hp;split at h1
 .rename_i o r v y m q;rw[dR]at h1;obtain rfl:=beq_iff'.1 h1.1;obtain rfl:=beq_iff'.1 h1.2;obtain⟨z,i,b⟩:=hf.tm p.1 (low (.sh o r)) (by rw[bQ,m];rfl);obtain⟨B,j,d⟩:=CX hf hs q;simp only[low]at b d;cases b with
  |sh _ _ len cap sz x t=>
  cases d with|sh _ _ k l u C e=>rw[t]at e;cases e;rw[i,j]
 .cases h1
def M1(h:Z9 fr ow al=W){p:Nat×Nat}(hp:p∈al)(b:fr.get p.1=Z v):∃o r,v=.sh o r∧o∈ow:=by
 unfold Z9 at h;rw[eA]at h;have h1:=h p hp;rw[b]at h1;split at h1
 .rename_i o r e;cases e;exact⟨o,r,rfl,by simpa using h1⟩
 .cases h1
end
section
inductive Pr(g:Gh)(w:World):wO S->Exit->Prop where
 |o9:Pr g w .o9 .normal
 |ext (i:Nat):Pr g w (.ext i) (.exit i)
 |ret:Pr g w .ret .ret
 |dh (t:V S) (v:Value) (h:aK g w (low t) v):Pr g w (.dh t) (.panic [{v,recovered:=J}])
def Ko(ds:List Nat)(fr:bW S)(s:bq S)(g:Gh)(w:World){ω:Type}(Q:wO S->bW S->bq S->Option ω)(r:ω)(e:Exit)(a:Act)(w':World):Prop:=
 False∨∃ex fr' s' g',Pr g' w' ex e∧Q ex fr' s'=Z r∧fr'.n=fr.n∧cF g' (bz fr') a w'∧fj s g w s' g' w'∧eG ds fr fr' s'.dr s.aH
variable {ds' bl ex bl1:List Nat}{g1:Gh}{e:Exit}{w':World}{aH o:Nat}{p:Nat->Bool}{v:V S}{lJ:bW S}{vals GD:List Value}{al zo:List fq}{GK:Sh}
def Ko.mono{ds:List Nat}{fr d:bW S}{s s1:bq S}{g:Gh}{w w1:World}{ω:Type}{Q:wO S->bW S->bq S->Option ω}{r:ω}{a:Act}(hn:d.n=fr.n)(b:fj s g w s1 g1 w1)(hf:eG ds fr d s1.dr s.aH)
  (h:Ko ds' d s1 g1 w1 Q r e a w'):Ko (ds++ds') fr s g w Q r e a w':=by
 rcases h with h|⟨ex,i,j,k,h1,h2,h3,h4,h5,h6⟩
 .exact .inl h
 .exact .inr ⟨ex,i,j,k,h1,h2,h3.trans hn,h4,b.trans h5,hf.trans h6 h5.Gq b.aH⟩
def Ko.ds{ds ds':List Nat}{fr:bW S}{s:bq S}{g:Gh}{w:World}{ω:Type}{Q:wO S->bW S->bq S->Option ω}{r:ω}{e:Exit}{a:Act}{w':World}(d:∀k∈ds,k∈ds')(h:Ko ds fr s g w Q r e a w'):Ko ds' fr s g w Q r e a w':=by
 rcases h with h|⟨ex,b,i,j,h1,h2,h3,h4,h5,h6⟩
 .exact .inl h
 .exact .inr ⟨ex,b,i,j,h1,h2,h3,h4,h5,h6.mono d (λ_ h=>h)⟩
def Sl(p:Nat->Prop)(h:∃n,p n):∃n,p n∧∀m,p m->n<=m:=by
 obtain⟨n,g⟩:=h
 induction n using Nat.strongRecOn with
 |_ n i=>
  by_cases e:∃m,p m∧m<n
  .obtain ⟨m,b,d⟩:=e;exact i m d b
  .exact ⟨n,g,λm b=>by
    rcases yx m n with h|h
    .exact absurd ⟨m,b,h⟩ e
    .exact h⟩
def Sv{X R B P:Type}{F:X->Option (LO X R B P)}:∀{n:Nat}{x:X}{o:LO X R B P},iter F n x=Z o->∃m,n=m+1∧∃d,F x=Z d∧((∃y,d=.next y∧iter F m y=Z o)∨(d=o∧∀y,o≠.next y))
 |0,_,_,h=>by cases h
 |_+1,x,o,h=>by
  simp only[iter]at h;refine⟨_,rfl,?_⟩;split at h
  .cases h
  .rename_i y b;exact⟨_,b,.inl ⟨y,rfl,h⟩⟩
  .rename_i j y b;simp only[bg]at h;exact⟨_,b,.inr ⟨h,λy=>by rw[<-h];simp⟩⟩
  .rename_i y z b;simp only[bg]at h;exact⟨_,b,.inr ⟨h,λy=>by rw[<-h];simp⟩⟩
  .rename_i y b;simp only[bg]at h;exact⟨_,b,.inr ⟨h,λy=>by rw[<-h];simp⟩⟩
def rT{ow:List Nat}(h:eE ow aH o=J):o∉ow∧o<aH:=by
 simp only[eE,vL,yp,KS]at h;refine⟨h.1,?_⟩;rcases yx o aH with b|d
 .exact b
 .have:=Ga d;rw[this]at h;exact absurd h.2 (by simp)
def Cs{ow:List Nat}(h1:o∉ow)(h2:o<aH):eE ow aH o=J:=by simp only[eE,vL,yp,KS];refine⟨h1,?_⟩;cases h:Nat.ble aH o with|false=>rfl|true=>have:=fQ h;omega
def Si{q:Nat->Bool}(h:cD p v=W)(d:cD q v=J):∃o,p o=W∧q o=J:=by
 rcases Classical.em (∃o,p o=W∧q o=J)with h1|h1
 .exact h1
 .have:∀o,p o=W->q o=W:=λo e=>by cases b:q o with|true=>rfl|false=>exact absurd ⟨o,e,b⟩ h1
  rw[er this v h]at d;cases d
structure uS(sh:Sh)(bs:List Nat)(lJ:bW S)(s0 s:bq S)(g:Gh)(w:World)(x:fU S.A (kR sh))(a:Act)(gb:Gh)(w':World)(vals:List Value)(al:List fq)(bl:List Nat):Prop where
 rel:bh gb (aG s0) w'
 fr:cF gb (bz lJ) a w'
 pr:oZ S gb.bA w' (kR sh) x vals al bl
 at_:nT a sh vals
 X3:PW (λo b=>gb.cg o=Z b) bs bl
 ae3:∀o∈bs,∀e,gb.arr o e=Y
 fresh:∀a∈al,∀b,a.at b->∀o,¬bM gb o b
 ap:uU al
 ext:pz s.lo s.fl g w gb w'
 alo:∀a∈al,∀b,a.at b->(∃o,s.fl<=o∧bM g o b)∨w.heap.size<=b
def uS.head{sh:Sh}{bs:List Nat}{j:bW S}{s0 s l:bq S}{g:Gh}{w:World}{x:fU S.A (kR sh)}{a:Act}{gb:Gh}
  (d:uS sh bs lJ s0 s g w x a gb w' vals al bl) (hn:lJ.n<=bB) (h:kH sh bs x lJ s0=Z (j,l)) :
  ∃m,zy [] sh bs a gb lJ s0 w' al m j l∧pz s.lo s.fl g w m w':=by
 obtain⟨m,i⟩:=Ma h hn d.pr d.at_ d.X3 d.ae3 d.fresh d.ap d.fr d.rel;refine⟨m,i,λo b e=>?_,λo e y t k=>?_,λb e=>?_,d.ext.size,d.ext.heap,λo b u p=>?_,λb hi=>?_,d.ext.os,d.ext.output⟩
 .exact i.le.cg o b (d.ext.cg o b e)
 .exact i.le.arr o e y (d.ext.arr o e y t k)
 .exact i.le.bA b (d.ext.bA b e)
 .rcases i.own o b p with p|⟨_,v,q,r⟩
  .exact d.ext.own o b u p
  .exact d.alo v q b r
 .rw[i.bA]at hi;exact d.ext.tZ b hi
def sr(p:Nat->Bool)(v:V S):sY (eu p) (low v) (low (iP p v)):=by cases b:cD p v with|true=>exact .inr ⟨_,by simp only[iP,b,cG];rfl⟩|false=>exact .inl ⟨by simp only[iP,b,dP],by rw[gQ];exact b⟩
def qj(p:Nat->Bool)(v:V S):sY (eu p) (low (iP p v)) (low (iP p v)):=by cases b:cD p v with|true=>exact .inr ⟨_,by simp only[iP,b,cG];rfl⟩|false=>exact .inl ⟨rfl,by simp only[iP,b,dP];rw[gQ];exact b⟩
def xV(p:Nat->Bool)(t:Ty)(x:den S.A t):sY (eu p) (eD S t x) (eD S t x):=.inl ⟨rfl,gQ (S:=S) p (.ty t x)⟩
def LI(p:Nat->Bool)(kt vt:Ty)(l:List (den S.A kt×den S.A vt)):pV (eu p) (cQ (.map kt vt l:vX S)) (cQ (.map kt vt l)):=by refine⟨rfl,λj t u h1 h2=>?_⟩;rw[h1]at h2;cases h2;simp only[gK,eC]at h1;obtain⟨q,_,rfl⟩:=h1;exact⟨xV p _ _,xV p _ _⟩
def YF{f:V S->V S}(l:LpV S)(t0:Tr (V S))(hf:∀v,t0.get=t0.get->sY (eu p) (low v) (low (f v))) :
  pV (eu p) (cQ (.lp {l with fr:={l.fr with tm:=t0}})) (cQ (.lp {l with fr:={l.fr with tm:=t0.mapA f}})):=by
 refine⟨rfl,rfl,λk u d=>?_⟩;have b:((t0.mapA f).map low).get k=Z u:=d;rw[Tr.get_map,Tr.oL,GX,eC]at b;obtain⟨v,e,rfl⟩:=b;exact⟨low v,by show(t0.map low).get k=_;rw[Tr.get_map,e];rfl,hf v rfl⟩
def Gs(p:Nat->Bool)(ob:vX S):pV (eu p) (cQ ob) (cQ (gf p ob)):=by
 cases ob with
 |box q=>refine⟨by simp[eS],λj t u h1 h2=>?_⟩;simp only[ga,gK,eC]at h1 h2;obtain⟨v,d,rfl⟩:=h1;obtain⟨k,⟨e,b,rfl⟩,rfl⟩:=h2;rw[d]at b;cases b;exact sr p v
 |map kt vt l=>exact LI p kt vt l
 |Gd kt l=>refine⟨by simp,λj t u h1 h2=>?_⟩;simp only[gK,eC]at h1 h2;obtain⟨v,d,rfl⟩:=h1;obtain⟨k,⟨e,b,rfl⟩,rfl⟩:=h2;rw[d]at b;cases b;exact⟨xV p _ _,sr p _⟩
 |lp l=>exact YF l l.fr.tm λv _=>sr p v
 |arr=>rfl
 |jX=>rfl
 |o7=>rfl
 |zH=>rfl
 |rws=>rfl
 |gone=>rfl
 |kj n j l era m i hole=>
  cases g:p m with|true=>exact .inr (by simp only[gf,g,cG];rfl)|false=>exact .inl ⟨by simp only[gf,g,dP];rfl,g⟩
def EW(p:Nat->Bool)(ob:vX S):pV (eu p) (cQ (gf p ob)) (cQ (gf p ob)):=by
 cases ob with
 |box r=>refine⟨rfl,λj t u h1 h2=>?_⟩;rw[h1]at h2;cases h2;simp only[ga,gK,eC]at h1;obtain⟨q,⟨v,e,rfl⟩,rfl⟩:=h1;exact qj p v
 |map kt vt l=>exact LI p kt vt l
 |Gd kt l=>refine⟨rfl,λj t u h1 h2=>?_⟩;rw[h1]at h2;cases h2;simp only[gK,eC]at h1;obtain⟨q,⟨v,e,rfl⟩,rfl⟩:=h1;exact⟨xV p _ _,qj p _⟩
 |lp l=>refine⟨rfl,rfl,λk u g=>?_⟩;refine⟨u,g,?_⟩;have b:((l.fr.tm.mapA (iP p)).map low).get k=Z u:=g;rw[Tr.get_map,Tr.oL,GX,eC]at b;obtain⟨v,e,rfl⟩:=b;exact qj p v
 |arr=>rfl
 |jX=>rfl
 |o7=>rfl
 |zH=>rfl
 |rws=>rfl
 |gone=>rfl
 |kj n j l era m i hole=>
  cases d:p m with|true=>simp only[gf,d,cG];rfl|false=>simp only[gf,d,dP];exact .inl ⟨rfl,d⟩
def xB(h:cD p v=J):iP p v=v:=by simp only[iP,h,dP]
def MD{ob:vX S}(h:jG p ob=J):gf p ob=ob:=by
 cases ob with
 |box i=>
  simp only[gf,vX.box.injEq];have d:∀{l:List (V S)},gZ p l=J->∀v∈l,cD p v=J:=by
   intro l
   induction l with
   |nil=>intro _ v b;cases b
   |cons a l e=>
    intro h v b;simp only[gZ,vL]at h;rcases eR.1 b with rfl|b
    .exact h.1
    .exact e h.2 v b
  have:∀v∈i,iP p v=v:=λv b=>xB (d h v b);exact(Lf this).trans (List.map_id _)
 |Gd kt l=>
  simp only[gf];have d:∀{l:List (den S.A kt×V S)},I5 p l=J->∀v∈l,cD p v.2=J:=by
   intro l
   induction l with
   |nil=>intro _ v b;cases b
   |cons a l e=>
    intro h v b;simp only[I5,vL]at h;rcases eR.1 b with rfl|b
    .exact h.1
    .exact e h.2 v b
  have:∀q∈l,((q.1,iP p q.2):den S.A kt×V S)=q:=λq k=>by rw[xB (d h q k)]
  rw[(Lf this).trans (List.map_id _)]
 |lp l=>simp only[gf,Cv (λv=>xB) (show pK (cD p) l.fr.tm=J from h)]
 |kj n j l era m g hole=>have h:p m=J:=h;simp only[gf,h,dP]
 |_=>rfl
def ZX{g g':Gh}{w:World}{P Q:Nat->Bool}(q:∀o,Q o=W->P o=W)(s:∀t v,aK g w t v->eu P t=J->aK g' w' t v):∀{l m:List (A2 S)}{j:List Deferred},
  ni Q (l.map (ig (cD P))) m->jW g w (m.map qQ) j->jW g' w' ((l.map (ig (cD P))).map qQ) j:=by
 intro l
 induction l with
 |nil=>intro m j h r;cases h;cases r;exact .nil
 |cons d l y=>
  intro m j h r;cases h with
  |cons z p=>
  cases r with
  |cons k u=>
  refine .cons ?_ (y p u);have i:JO (eu P) (qQ (ig (cD P) d)) (qQ (ig (cD P) d)):=by
   cases d with
   |call f args=>
    simp only[ig];cases e:cD P f||args.any (cD P)with
    |true=>exact .inl rfl
    |false=>simp only[vL,Lc]at e;refine .inr ⟨rfl,by rw[gQ];exact e.1,λt p=>?_⟩;rw[ga,tK]at p;obtain⟨v,B,rfl⟩:=p;rw[gQ];simpa using e.2 v B
   |mark o=>
    simp only[ig];cases e:cD (S:=S) P (.ptr o 0)with|true=>exact .inl rfl|false=>exact .inr ⟨rfl,(gQ P (.ptr o 0)).trans e⟩
   |bad=>exact .inl rfl
  rcases z with rfl|⟨rfl,C⟩
  .exact i.rel s k
  .have b:=pO q _ C;cases d with
   |call f args=>
    simp only[ig]at b ⊢;cases e:cD P f||args.any (cD P)with
    |true=>exact .bad _
    |false=>rw[e]at b;simp only[dP,uk]at b;rw[b]at e;cases e
   |mark o=>
    simp only[ig]at b ⊢;cases e:cD (S:=S) P (.ptr o 0)with|true=>exact .bad _|false=>rw[e]at b;simp only[dP,uk]at b;rw[b]at e;cases e
   |bad=>exact .bad _
section
variable {sh:Sh}{bs ow ds:List Nat}{fr:bW S}{s s1:bq S}{g:Gh}{w:World}{a:Act}
def zk(d:∀b∈bs,b<bB)(o:Nat):(cT ds ow bs fr s1).2.ob.get o=if o∈bs then Y else(s1.ob.get o).map (gf (eE ow s1.aH)):=by show(bs.foldl (λt o=>t.del aJ o) (s1.ob.mapA _)).get o=_;rw[Tr.qT bs _ o d,Tr.oL]
def QX(b:∀d∈ds,d<bB)(k:Nat):(cT ds ow bs fr s1).1.get k=if k∈ds then Y else(fr.get k).filter (λv=>!(cD (eE ow s1.aH) v)):=by
 show((ds.foldl (λt k=>t.del aJ k) fr.tm).keep _).get k=_;rw[Tr.oM,Tr.qT ds _ k b];split
 .rfl
 .rfl
def zl(b:∀d∈ds,d<bB){k:Nat}(h:(cT ds ow bs fr s1).1.get k=Z v):k∉ds∧fr.get k=Z v∧cD (eE ow s1.aH) v=J:=by
 rw[QX b]at h;split at h
 .cases h
 .rename_i e;rw[Qi]at h;exact⟨e,h.1,by simpa using h.2⟩
def E6(hf:cF g (bz fr) a w)(hs:bh g (aG s) w)(I:∀d∈ds,d<bB){x:fU S.A (kR sh)}{p:Gh}
  (hp:Ig sh bs a g s w x s1 ow p vals al bl):uS sh bs (cT ds ow bs fr s1).1 (cT ds ow bs fr s1).2 s g w x a (p.base (eE ow s1.aH)) w vals al bl:=by
 have B:∀b∈bs,b<bB:=λb l=>by have:=(hp.WE b l).2.1;have:=hs.aH;exact dy (hp.WE b l).2.1 hs.aH
 have q:∀o,o∉ow->o<s.aH->eE ow s1.aH o=J:=λo h1 h2=>Cs h1 (hp.aH▸h2);have m:=hp.alr.owned hp.pr.iJ;refine⟨hp.rel.base (λo r=>?_) rfl (bP _) (λo ob hpo i=>?_),⟨hf.size,(nR (λv=>gQ (eE ow s1.aH) v) fr.df).rel (λt v ht C=>(ht.ext hp.ext hs.bA).on (p.lE _) (λ_ _=>rfl) C) hf.df,λk t U=>?_⟩,hp.pr,hp.at_,⟨hp.X3.1,λj o b h1 h2=>?_⟩,λo r e=>?_,λK L b l o G=>?_,hp.ap,⟨λo b l=>?_,λo e y hl X=>?_,hp.ext.bA,bP _,λ_ _ _=>rfl,λo b r G=>?_,hp.ext.tZ,rfl,rfl⟩,λK L b l=>?_⟩
 .simp only[eE,jQ];exact .inr (Ga r)
 .rw[aY,zk B]at i;split at i
  .cases i
  .rw[GX,eC]at i;obtain⟨H,M,rfl⟩:=i;exact⟨cQ H,by rw[aY,M];rfl,Gs _ H⟩
 .rw[bQ,eC]at U;obtain⟨v,M,rfl⟩:=U;obtain⟨_,h2,h3⟩:=zl I M;obtain⟨u,hu,hr⟩:=hf.tm k (low v) (by rw[bQ,h2];rfl);exact⟨u,hu,(hr.ext hp.ext hs.bA).on (p.lE _) (λ_ _=>rfl) (by rw[gQ];exact h3)⟩
 .have i:=gY h1;have:=hp.WE o i;exact(p.lE _).cg o b (q o this.2.2.1 this.2.1) (hp.X3.2 j o b h1 h2)
 .simp only[Gh.base];split
  .exact (hp.WE o r).2.2.2 e
  .rfl
 .obtain ⟨h1,h2⟩:=Gh.mg G;obtain⟨o',O,R⟩:=m K L b l;have:=hp.rel.lV o o' b h2 R;subst this;exact(rT h1).1 O
 .have z:=hs.lt l;exact(p.lE _).cg o b (q o (λC=>by rw[hp.owb o C]at l;cases l) z) (hp.ext.cg o b l)
 .have z:=hs.lt' X;exact(p.lE _).arr o e y (q o (λC=>by have:=(hp.owp o C).2.1;omega) z) (hp.ext.arr o e y X)
 .rcases hp.ext.own o b (Gh.mg G).2 with h|h
  .exact .inl ⟨o,r,h⟩
  .exact .inr h
 .obtain ⟨o,r,G⟩:=m K L b l;rcases hp.ext.own o b G with h|h
  .exact .inl ⟨o,(hp.owp o r).1,h⟩
  .exact .inr h
def OW(hds:∀d∈ds,d<bB)(p:∀b∈bs,b<s1.aH∧b∉ow)(X:s1.aH<=bB)(hlo:s.lo<=s1.aH)(how:∀o∈ow,s.lo<=o)(hgb:∀o b,g.cg o=Z b->o<s1.aH∧o∉ow)(amI:s1.lo=s.lo)(amJ:s1.fl=s.fl)
  {a':Act} {w':World} {al:List fq} {gb gh:Gh} {Gk:bW S} {q:bq S}
  (VR:pz s.lo s.fl g w gh w') (hh:zy ex sh bs a' gb (cT ds ow bs fr s1).1 (cT ds ow bs fr s1).2 w' al gh Gk q)
  {s2 u:bq S} {g2 H:Gh} {a2:Act} {U:World} (l:fj q gh w' s2 g2 U)
  {x:fU S.A (kR GK)} {I:List Nat} {vals:List Value} {zI:List fq} {bl2:List Nat} (hp:Ig GK bs a2 g2 s2 U x u I H vals zI bl2)
  (K:Ny s1.aH bs u.wr=W) (v:I.all (λo=>Nat.ble s1.aH o)=W) (Zs:u.dr.all (λo=>Nat.ble s1.aH o)=W) (hfr:cF (H.base (eE ow s1.aH)) (bz lJ) a2 U) :
  uS GK bs lJ (cT ds ow bs fr s1).2 s g w x a2 (H.base (eE ow s1.aH)) U vals zI bl2:=by
 have r:∀b∈bs,b<bB:=λb t=>dy (p b t).1 X;have z:(cT ds ow bs fr s1).2.aH=s1.aH:=rfl;have hlen:s1.aH<=q.aH:=z▸hh.aH;have L:∀o∈I,s1.aH<=o:=λo m=>by rw[eA]at v;exact fQ (v o m)
 have hdr':∀o∈s2.dr,s1.aH<=o:=λo m=>by rw[eA]at Zs;exact fQ (Zs o (hp.dr▸m))
 have afN:∀o∈u.wr,s1.aH<=o∨o∈bs:=λo m=>by unfold Ny at K;rw[eA]at K;have:=K o m;rw[jQ]at this;exact this.imp fQ (λh=>by simpa using h)
 have B:=hp.alr.owned hp.pr.iJ;have C:q.fl=s.fl:=hh.fl.trans (show(cT ds ow bs fr s1).2.fl=s.fl from amJ);have acM:q.lo=s.lo:=hh.lo.trans (show(cT ds ow bs fr s1).2.lo=s.lo from amI);have M:pz s.lo s.fl g w g2 U:=VR.trans (C▸acM▸l.ext);have VQ:s2.fl=s.fl:=l.fl.trans C;have i:pz s.lo s.fl g w H U:=M.trans (VQ▸hp.ext.GH s.lo);refine⟨hp.rel.base (aH:=s1.aH) (λo m=>?_) rfl ?_ (λo ob hpo k=>?_),hfr,hp.pr,hp.at_,⟨hp.X3.1,λj o b h1 h2=>?_⟩,λo m e=>?_,λa' ha b t o hO=>?_,hp.ap,⟨λo b t=>?_,λo e y hl hy=>?_,i.bA,i.size,i.heap,λo b m hO=>?_,i.tZ,i.os,i.output⟩,λa' ha b t=>?_⟩
 .simp only[eE,jQ];exact .inr (Ga m)
 .have e1:(aG u).aH=u.aH:=rfl;have:=l.aH;have:=hp.aH;omega
 .rw[aY,zk r]at k;split at k
  .cases k
  .rename_i O;rw[GX,eC]at k;obtain⟨R,hv,rfl⟩:=k;have G:=(rT hpo).2;have hnw:o∉u.wr:=λhm=>by
    rcases afN o hm with h|h
    .omega
    .exact O h
   have al0:o∉s2.wr:=λhm=>hnw (hp.uW o hm);have e1:u.ob.get o=Z (gf (eE ow s1.aH) R):=by rw[hp.same o hnw,l.same o (dy G hlen) al0,hh.ob o (z▸G) O,zk r,br O,hv];rfl
   exact⟨cQ (gf (eE ow s1.aH) R),by rw[aY,e1];rfl,EW _ R⟩
 .have k:=gY h1;exact(H.lE _).cg o b (Cs (p o k).2 (p o k).1) (hp.X3.2 j o b h1 h2)
 .simp only[Gh.base];split
  .exact (hp.WE o m).2.2.2 e
  .rfl
 .obtain ⟨h1,h2⟩:=Gh.mg hO;obtain⟨o',ho',Zx⟩:=B a' ha b t;have:=hp.rel.lV o o' b h2 Zx;subst this;have:=L o ho';have:=(rT h1).2;omega
 .exact (H.lE _).cg o b (Cs (hgb o b t).2 (hgb o b t).1) (i.cg o b t)
 .exact (H.lE _).arr o e y (Cs (λhm=>by have:=how o hm;omega) (by omega)) (i.arr o e y hl hy)
 .exact i.own o b m (Gh.mg hO).2
 .obtain ⟨o,m,hO⟩:=B a' ha b t;exact i.own o b (by have:=(hp.owp o m).1;omega) hO
def H7(amy:∀k∈ex,k∈ds)(hds:∀d∈ds,d<bB)(r:∀b∈bs,b<s1.aH∧b∉ow)(y:s1.aH<=bB)(hlo:s.lo<=s1.aH)(how:∀o∈ow,s.lo<=o)(hgb:∀o b,g.cg o=Z b->o<s1.aH∧o∉ow)(I:Da ds sh=W)(z:s1.lo=s.lo)(B:s1.fl=s.fl)
  {a':Act} {w':World} {al:List fq} {gb gh:Gh} {j:bW S} {i:bq S}
  (C:pz s.lo s.fl g w gh w') (K:zy ex sh bs a' gb (cT ds ow bs fr s1).1 (cT ds ow bs fr s1).2 w' al gh j i)
  {l:bW S} {U s3:bq S} {g2 g3:Gh} {a2:Act} {X:World} (e:fj i gh w' U g2 X) (L:cF g2 (bz l) a2 X) (hfo:eG ds j l U.dr i.aH) (hn2:l.n=j.n) (Zt:l.df.length=j.df.length)
  {x:fU S.A (kR GK)} {M:List Nat} {vals:List Value} {zI:List fq} {bl2:List Nat} (hp:Ig GK bs a2 g2 U X x s3 M g3 vals zI bl2)
  (p:Ny s1.aH bs s3.wr=W) (m:M.all (λo=>Nat.ble s1.aH o)=W) (O:s3.dr.all (λo=>Nat.ble s1.aH o)=W) :
  uS GK bs (cT ds ow bs fr s1).1 (cT ds ow bs fr s1).2 s g w x a2 (g3.base (eE ow s1.aH)) X vals zI bl2:=by
 have hbsb':∀b∈bs,b<bB:=λb hb=>dy (r b hb).1 y;have alD:(cT ds ow bs fr s1).2.aH=s1.aH:=rfl;have hlen:s1.aH<=i.aH:=alD▸K.aH;have how2':∀o∈M,s1.aH<=o:=λo ho=>by rw[eA]at m;exact fQ (m o ho)
 have G:∀o∈U.dr,s1.aH<=o:=λo ho=>by rw[eA]at O;exact fQ (O o (hp.dr▸ho))
 have afN:∀o∈s3.wr,s1.aH<=o∨o∈bs:=λo ho=>by unfold Ny at p;rw[eA]at p;have:=p o ho;rw[jQ]at this;exact this.imp fQ (λh=>by simpa using h)
 have SH:=hp.alr.owned hp.pr.iJ;have H:i.fl=s.fl:=K.fl.trans (show(cT ds ow bs fr s1).2.fl=s.fl from B);have acM:i.lo=s.lo:=K.lo.trans (show(cT ds ow bs fr s1).2.lo=s.lo from z);have R:pz s.lo s.fl g w g2 X:=C.trans (H▸acM▸e.ext);have VQ:U.fl=s.fl:=e.fl.trans H;have hext3:pz s.lo s.fl g w g3 X:=R.trans (VQ▸hp.ext.GH s.lo);refine OW hds r y hlo how hgb z B C K e hp p m O ⟨L.size.trans ?_,ZX (Q:=eE U.dr i.aH) (λo ho=>?_) (λt v ht hm=>(ht.ext hp.ext e.rel.bA).on (g3.lE _) (λ_ _=>rfl) hm) (show ni _ (cT ds ow bs fr s1).1.df l.df from K.Jy▸hfo.df.eq Zt) L.df,λk t hk=>?_⟩
 .exact hn2.trans K.n
 .simp only[eE,jQ,yp,jR]at ho ⊢;rcases ho with ho|ho
  .exact .inr (Ga (G o ho))
  .have:=fQ ho;exact .inr (Ga (by omega))
 .rw[bQ,eC]at hk;obtain⟨v,hv,rfl⟩:=hk;obtain⟨h1,h2,h3⟩:=zl hds hv;have hgh:j.get k=Z v:=by
   rw[K.get k (λhm=>h1 (amy k hm)) (λq hq hqk=>?_)]
   .exact hv
   .obtain ⟨qk,qp⟩:=q;cases qp with|box cs=>rfl|hid cs=>rfl|one c=>unfold Da at I;rw[eA]at I;have:=I _ hq;simp only at this hqk;subst hqk;exact absurd (by simpa using this) h1
  rcases hfo.tm k v h1 hgh with h4|h4
  .obtain ⟨u,hu,hr⟩:=L.tm k (low v) (by rw[bQ,h4];rfl);exact⟨u,hu,(hr.ext hp.ext e.rel.bA).on (g3.lE _) (λ_ _=>rfl) (by rw[gQ];exact h3)⟩
  .exfalso;obtain⟨o,SA,ho2⟩:=Si h4 h3;have:=(rT ho2).2;simp only[eE,jQ,yp,jR]at SA;rcases SA with SA|SA
   .have:=G o SA;omega
   .have:=fQ SA;omega
def Tc(hs:bh g (aG s) w){p:fU S.A (kR sh)}(hp:Ig sh bs a g s w p s1 ow g1 GD zo bl1)
  {q:Act} {w':World} {al:List fq} {gb l:Gh} {m:bW S} {d:bq S} (i:pz s.lo s.fl g w l w') (j:zy ex GK bs q gb lJ (cT ds ow bs fr s1).2 w' al l m d) :
  fj s g w {d with wr:=s1.ob.jt (jG (eE ow s1.aH))++(bs++s1.wr),dr:=ow++s1.dr} l w':=by
 have k:∀b∈bs,b<bB:=λb r=>dy (hp.WE b r).2.1 hs.aH;refine⟨j.rel,i,j.fl.trans hp.fl,j.lo.trans hp.lo,?_,λo e=>?_,λo v e=>?_,λo e=>?_⟩
 .have:=j.aH;have y:(cT ds ow bs fr s1).2.aH=s1.aH:=rfl;have:=hp.aH;show s.aH<=d.aH;omega
 .exact iS _ (iS _ (hp.uW o e))
 .simp only[dY,not_or]at e;have h1:d.ob.get o=(cT ds ow bs fr s1).2.ob.get o:=j.ob o (by show o<s1.aH;have:=hp.aH;omega) e.2.1;show d.ob.get o=s.ob.get o;rw[h1,zk k,br e.2.1,<-hp.same o e.2.2];cases t:s1.ob.get o with
  |none=>rfl
  |some ob=>
   rw[dX]
   congr 1
   apply MD;cases u:jG (eE ow s1.aH) ob with|false=>rfl|true=>exact absurd (Tr.rW _ _ _ _ t u) e.1
 .exact iS _ (by rw[hp.dr];exact e)
def MV(j:∀k∈ex,k∈ds)(hs:bh g (aG s) w)(u:∀d∈ds,d<bB){G:fU S.A (kR sh)}(hp:Ig sh bs a g s w G s1 ow g1 GD zo bl1)(e:Da ds GK=W)
  {H:Act} {w':World} {al:List fq} {gb y:Gh} {i:bW S} {l:bq S} (m:pz s.lo s.fl g w y w') (r:zy ex GK bs H gb (cT ds ow bs fr s1).1 (cT ds ow bs fr s1).2 w' al y i l) :
  fj s g w {l with wr:=s1.ob.jt (jG (eE ow s1.aH))++(bs++s1.wr),dr:=ow++s1.dr} y w'∧eG ds fr i (ow++s1.dr) s.aH∧i.n=fr.n:=by
 have C:∀b∈bs,b<bB:=λb I=>dy (hp.WE b I).2.1 hs.aH;refine⟨Tc (fr:=fr) hs hp m r,⟨λk v z K=>?_,?_⟩,r.n⟩
 .cases t:cD (eE ow s1.aH) v with
  |true=>exact .inr (er (iu (λo B=>eH _ B) (by rw[hp.aH];exact bP _)) v t)
  |false=>
   left
   rw[r.get k (λt=>z (j k t)) (λq L p=>?_),QX u,br z,K]
   .simp[Option.filter,t]
   .obtain ⟨R,M⟩:=q;cases M with|box O=>rfl|hid O=>rfl|one c=>unfold Da at e;rw[eA]at e;have:=e _ L;simp only at this p;subst p;exact absurd (by simpa using this) z
 .rw[r.Jy];exact(su (iu (λo B=>eH _ B) (by rw[hp.aH];exact bP _)) (λv=>rfl) fr.df).ok
end
def II{g:Gh}{w:World}{fr:bW S}{a:Act}(hf:cF g (bz fr) a w):∀{rv:Rv}{vs:List (V S)},Ud fr rv=Z vs->∃vals,nT a (rv.map λp=>(p.1,Pk.one (.dat p.2))) vals∧PW (aK g w) (bn vs) vals
 |[],vs,h=>by simp only[Ud,bg]at h;subst h;exact⟨[],trivial,rfl,λj t v h=>by simp[bn]at h⟩
 |(k,c)::l,vs,h=>by
  simp only[Ud]at h;split at h
  .rename_i v r h1 h2;simp only[bg]at h;subst h;obtain⟨vals,h3,h4⟩:=II hf h2;obtain⟨u,e,i⟩:=hf.tm k (low v) (by rw[bQ,h1];rfl);refine⟨u::vals,⟨e,h3⟩,by simp only[bn,fc,h4.1],λj t m b d=>?_⟩;cases j with|zero=>simp[bn]at b d;subst b;subst d;exact i|succ j=>exact h4.2 j t m (by simpa[bn]using b) (by simpa using d)
  .cases h
def tI{g:Gh}{w:World}{a:Act}:∀{rv:Rv}{r:gl S.A (FU rv)}{vals:List Value}{al:List fq}{I:Nat->Prop}{fr:bW S},jc S I w (FU rv) r vals al->(∀b,I b->g.bA b)->nT a (rv.map λp=>(p.1,Pk.one (.dat p.2))) vals->
  fr.n<=bB->cF g (bz fr) a w->cF g (bz (v9 rv r fr)) a w∧(v9 rv r fr).n=fr.n∧∀k,k∉rv.map (·.1)->(v9 rv r fr).get k=fr.get k
 |[],r,vals,al,I,fr,_,_,_,_,hf=>⟨hf,rfl,λ_ _=>rfl⟩
 |(k,t)::rv,r,vals,al,I,fr,u,hi,i,m,hf=>by
  cases u with
  | @dat _ _ x h v C al y z=>
  obtain⟨s,i⟩:=i;have e:k<fr.n:=by have:=(IU.1 s).1;rw[hf.size]at this;exact this
  have q:cF g (bz (fr.put k (.ty t x))) a w:=by
   refine⟨hf.size,hf.df,λj B d=>?_⟩;rw[bQ,bW.iO _ _ _ _ (dy e m)]at d;by_cases l:j=k
   .subst l;rw[bJ rfl]at d;simp only[dX,bg]at d;subst d;exact⟨v,s,oc (y.le hi)⟩
   .rw[br l]at d;exact hf.tm j B (by rw[bQ];exact d)
  obtain⟨h1,h2,h3⟩:=tI (rv:=rv) (fr:=fr.put k (.ty t x)) z hi i m q;refine⟨h1,h2,λj d=>?_⟩;simp only[lI,eR,not_or]at d;rw[show v9 ((k,t)::rv) (x,h) fr=v9 rv h (fr.put k (.ty t x))from rfl,h3 j d.2,bW.iO _ _ _ _ (dy e m),br d.1]
def w8{ω:Type}{Q:wO S->bW S->bq S->Option ω}{fr:bW S}{s:bq S}{r:ω}:∀{l:List Nat}{i:Nat},i∈l->Yv Q fr s l (Zd l i)=Z r->Q (.ext i) fr s=Z r
 |[],i,hi,_=>by cases hi
 |[j],i,hi,h=>by simp only[kX]at hi;subst hi;exact h
 |j::g::l,i,hi,h=>by
  simp only[Zd]at h;cases b:Nat.beq j i with
  |true=>rw[b]at h;have:=beq_iff'.1 b;subst this;exact h
  |false=>
   rw[b]at h;simp only[dP]at h;have d:j≠i:=λe=>by subst e;rw[GU]at b;cases b
   refine w8 (l:=g::l) ?_ h;rcases eR.1 hi with rfl|hi
   .exact absurd rfl d
   .exact hi
end
section
def wY{st:LoopState}{b:Option Code}(h:Dl st b=W):st=.ready∧b=Y:=by
 unfold Dl at h;split at h
 .exact ⟨rfl,rfl⟩
 .cases h
variable {fr:bW S}
def Oz{g:Gh}{w:World}{a:Act}(hf:cF g (bz fr) a w)(hn:fr.n<=bB)(l:List Nat):∀k t,(bz (QG l fr)).get k=Z t->∃v,a.tmps[k]?=Z v∧aK g w t v:=by
 have key:∀(l:List Nat)(t0:Tr (V S)),(∀k v,t0.get k=Z v->fr.get k=Z v)->∀k v,(l.foldl (λt k=>match fr.get k with|some v=>t.set aJ k v|none=>t) t0).get k=Z v->fr.get k=Z v:=by
  intro l
  induction l with
  |nil=>exact λt0 h=>h
  |cons j l m=>
   intro t0 h;rw[Bh];refine m _ λk v b=>?_;split at b
   .rename_i u i;have p:j<bB:=by
     have:(bz fr).get j=Z (low u):=by rw[bQ,i];rfl
     obtain⟨x,q,_⟩:=hf.tm j _ this;have:=hf.size;have h2:=(IU.1 q).1;have h3:(bz fr).n=fr.n:=rfl;omega
    rw[Tr.aX _ _ _ _ p]at b;by_cases e:k=j
    .rw[bJ e]at b;rw[e,i,b]
    .rw[br e]at b;exact h k v b
   .exact h k v b
 intro k t b;rw[bQ]at b;cases d:(QG l fr).get k with
 |none=>rw[d]at b;cases b
 |some v=>rw[d]at b;have h1:=key l .nil (λk v h=>by simp[Tr.get_nil]at h) k v d;exact hf.tm k t (by rw[bQ,h1];exact b)
def KO{E:fY S}(hE:eM E){call:iC S}(I:fT E.T.E.P call)(n:Nat)(fid:FuncId)(rv:Rv){gv:Operand}{ps:Array Tmp}{m body:Code}{i:Nat}{ω:Type}{Q:wO S->bW S->bq S->Option ω}{r:ω}{s:bq S}
  (h:tC E call n fid rv (.rangeFunc gv ps m body) i Q fr s=Z r) (hn:fr.n<=bB) {g:Gh} {a:Act} {w:World} (hf:cF g (bz fr) a w) (hs:bh g (aG s) w) :
  (Code.rangeFunc gv ps m body).wpIn (WR Y) 0 E.T.E.P (Ko (eO (.rangeFunc gv ps m body)++rv.map (·.1)) fr s g w Q r) a w:=by
 simp only[tC]at h;split at h
 .cases h
 rename_i f args hfa;rcases af h with⟨hb,h1⟩|⟨_,h1⟩;rotate_left
 .cases h1
 clear h;simp only[dR]at hb;obtain⟨_,_,acQ,q⟩:=hb;have q:s.aH+1<bB:=fQ q;simp only[rL]at hfa;obtain⟨tf,htf,Jl⟩:=hfa;have K:=bL hf (bV htf);have d:=pQ Jl;unfold vA at d;split at d;rotate_left
 .cases d
 rename_i f' first cap B
 simp only[bg,bC]at d;obtain⟨rfl,G⟩:=d;rw[B]at K;generalize hvf:a.eval gv=vf at K;cases K with
 |fn _ _ _ va vc l1 l2 r1 r2=>
 obtain⟨Kl,he1⟩:=hs.newObj (ob0:=.zH) (x0:=.deferred (Z [])) (by show s.aH<bB;omega) .zH;have aly:(ef (aG s) Ob.zH).2=aG (dm s .zH):=(gp s .zH).symm;rw[aly]at Kl;refine wpIn_rangeFunc λfn _=>?_
 let L:Loop:={state:=.ready,pending:=Y,fn,tmps:=a.tmps,params:=ps,assign:=m,body,defers:=w.heap.size}
 let lv:LpV S:=⟨.ready,Y,fid,QG (vY m++vY body) fr,ps.toList,m,body⟩
 have XX:cF (g.dg (aG s).aH w.heap.size) (bz fr) a (w.alloc (.deferred (Z []))):=hf.ext he1 hs.bA;obtain⟨H,M⟩:=Kl.newObj (ob0:=.lp (wq lv)) (x0:=.loop L) (by show s.aH+1<bB;exact q)
  (.lp _ L rfl rfl rfl rfl rfl XX.size (Oz XX hn _))
 have alx:(ef (aG (dm s .zH)) (Ob.lp (wq lv))).2=aG (dm (dm s .zH) (.lp lv)):=(gp _ (.lp lv)).symm;rw[alx]at H;have u:(Instr.enterLoop fn a.tmps ps m body Y).run E.T.E.P w=.ok (w.heap.size+1,[{target:=.collected w.heap.size,args:=#[]}]) ((w.alloc (.deferred (Z []))).alloc (.loop L)):=run_enterLoop_outer _ _ _ _ _;generalize hW2:(w.alloc (.deferred (Z []))).alloc (.loop L)=W2 at H M u;generalize hg2:(g.dg (aG s).aH w.heap.size).dg (aG (dm s .zH)).aH (w.alloc (.deferred (Z []))).heap.size=g2 at H M;have O:g2.cg s.aH=Z w.heap.size:=by rw[<-hg2];simp[Gh.dg,aG,dm]
 have C:g2.cg (s.aH+1)=Z (w.heap.size+1):=by rw[<-hg2];simp[Gh.dg,aG,dm]
 have he:Ext s.fl g w g2 W2:=he1.trans M;have hall:PW (aK g2 W2) (bn args) (va++#[Value.func (.yield (w.heap.size+1)) #[] #[]]++vc).toList:=by rw[<-G];simp only[FZ];refine PW.append (PW.append ⟨by simpa using l1,λj x y h1 h2=>(r1 j x y h1 (by simpa using h2)).ext he hs.bA⟩ ⟨rfl,λj x y h1 h2=>?_⟩) ⟨by simpa using l2,λj x y h1 h2=>(r2 j x y h1 (by simpa using h2)).ext he hs.bA⟩;cases j with|zero=>simp only[bn,rM,bg]at h1 h2;subst h1;subst h2;exact .ry _ _ C|succ j=>simp[bn]at h1
 obtain⟨VS,hc⟩:=y7 hE I H h1 hall;refine⟨w.heap.size+1,[{target:=.collected w.heap.size,args:=#[]}],W2,{target:=.fn (.func f') vc,args:=va++#[Value.func (.yield (w.heap.size+1)) #[] #[]]},W2,f',va++#[Value.func (.yield (w.heap.size+1)) #[] #[]]++vc,W2,u,?_,λ_ _=>trivial,?_,λh=>by simp[Fence.wide]at h,OQ.2 (hc.mono λe w' R=>?_)⟩
 .simp only[rangeCall,resolve,Deferred.ofValue,hvf,Sem.run_bind,Sem.run_pure,Result.andThen_ok];simp[Act.eval]
 .simp only[invoke];exact u6 VS _
 cases e with
 |panicked ch=>obtain⟨v,t,z,g',_,h1,_⟩:=R;cases h1
 |outgrown=>exact R.elim
 |returned v=>
 obtain⟨t,z,g',ow,h1,_,b⟩:=R;dsimp only at h1;split at h1;rotate_left
 .cases h1
 split at h1;rotate_left
 .cases h1
 rename_i l U;rcases af h1 with⟨hrd,h2⟩|⟨_,h2⟩;rotate_left
 .cases h2
 obtain⟨hst,hpe⟩:=wY hrd;have p:=b.ext.cg _ _ C;have ho':(aG z).ob.get (s.aH+1)=Z (.lp (wq l)):=by rw[aY,show z.ob.get (s.aH+1)=Z (.lp l)from U];rfl
 obtain⟨x,hx,hr⟩:=(b.rel.box _ _ p).2.2 _ ho';cases hr with
 |lp _ L' q1 q2 q4 q5 q6 q8 q9=>
 have hfl:z.fl<=s.aH+1:=by have h0:z.fl=s.fl:=b.fl;rw[h0];exact fQ acQ
 obtain⟨Om,HG⟩:=b.rel.setObj (w':=w'.putObj (w.heap.size+1) (.loop {L' with state:=.exhausted})) p ho' rfl hfl (x':=.loop {L' with state:=.exhausted}) (XS:=.lp (wq {l with st:=.exhausted})) (.lp _ _ rfl q2 q4 q5 q6 q8 q9)
  World.putObj_size (λb' hb'=>World.putObj_heap_other hb') (World.putObj_heap_same (b.rel.box _ _ p).2.1) rfl rfl
 refine⟨Y,w'.putObj (w.heap.size+1) (.loop {L' with state:=.exhausted}),?_,?_⟩
 .have:=run_endLoop (P:=E.T.E.P) hx (by rw[q1];show l.st≠.busy;rw[hst];simp);rw[this];rw[q2];show Result.ok l.oA _=_;rw[hpe]
 refine .inr ⟨.o9,_,_,g',.o9,h2,rfl,?_,?_,⟨λk v _ hk=>.inl hk,[_],fr.df,rfl,.refl _ _⟩⟩
 .have hf2:cF g2 (bz fr) a W2:=hf.ext he hs.bA;have Zr:cF g' (bz fr) a w':=mA (ow:=[]) hf2 b;have X:=Zr.ext HG b.rel.bA;exact⟨X.size,.cons (.mark _ _ (b.ext.cg _ _ O)) X.df,X.tm⟩
 .have hn1:s.aH<bB:=by omega
  have hl1:=iK s (.zH:vX S) hn1;have hl2:=iK (dm s (.zH:vX S)) (.lp lv) q;have B:aG {z with ob:=z.ob.set aJ (Nat.succ s.aH) (.lp {l with st:=.exhausted})}={aG z with ob:=(aG z).ob.set aJ (s.aH+1) (cQ (.lp {l with st:=.exhausted}))}:=eY z _ _ z.wr;refine⟨by rw[B];exact Om,(he.GH s.lo).trans ((show pz s.lo s.fl g2 _ g' w' from b.ext).trans ?_),b.fl,b.lo,fC (by show s.aH<=s.aH+1+1;omega) b.aH,λo U=>b.uW o U,λo U hno=>?_,λo U=>b.Gq o U⟩
  .have:=HG.GH s.lo;rw[show(aG z).fl=s.fl from b.fl]at this;exact this
  .have e1:o≠Nat.succ s.aH:=by omega
   show(z.ob.set aJ (Nat.succ s.aH) _).get o=_;rw[Tr.dc _ _ _ _ _ e1,b.same o (by show o<s.aH+1+1;omega) hno,hl2.same o (by show o<s.aH+1;omega) (λhm=>hno (b.uW o hm)),hl1.same o U (λhm=>hno (b.uW o hm))]
end
section
def qo(E:fY S)(call:iC S):Prop:=
 ∀(id:Nat)(ops:Array Oper){ω:Type}(kp:bW S->V S->bq S->Option ω)(k:bW S->bq S->Option ω)(r:ω)(fr:bW S)(s:bq S),
  Wq E fr s ops.toList (uA ops.toList)=W->
  sj E call ops.toList (uA ops.toList) (ops.toList.zipIdx.map λp=>(p.2,p.1)) kp k (Nat.succ (Nat.mul 2 (cz ops.toList))) 0 fr s=Z r->fr.n<=bB->
  ∀{g:Gh}{a:Act}{w:World},cF g (bz fr) a w->bh g (aG s) w->∀{Q:Exit->Act->World->Prop},
  (∀fr' s' g' b w',k fr' s'=Z r->fr'.n=fr.n->cF g' (bz fr') b w'->fj s g w s' g' w'->eG (ops.toList.filterMap (·.dst)) fr fr' s'.dr s.aH->Q .normal b w')->
  (∀fr' t s' g' b v w',kp fr' t s'=Z r->fr'.n=fr.n->cF g' (bz fr') b w'->fj s g w s' g' w'->eG (ops.toList.filterMap (·.dst)) fr fr' s'.dr s.aH->aK g' w' (low t) v->Q (.panic [{v,recovered:=J}]) b w')->
  ∀rr:Option Nat,(rr≠Y->Nt (.region id ops W)=W)->(Code.region id ops W).wpIn (WR rr) 0 E.T.E.P Q a w
def oB{s:bq S}:∀{cs:List Ck}{l:List (V S)}{x:gl S.A cs}{fz ow:List Nat},jb cs=W->gL s cs l=Z (x,fz,ow)->ow=[]
 |[],[],x,fz,ow,_,h=>by simp only[gL,bg,bC]at h;exact h.2.2.symm
 | .dat t::cs,v::l,x,fz,ow,b,h=>by
  simp only[gL]at h;split at h
  .rename_i g a1 i h1 a2 j d e;simp only[bg,bC]at h;obtain⟨_,_,rfl⟩:=h;have:=oB (cs:=cs) (by simpa[jb]using b) e;subst this;simp only[lK]at d;split at d
   .simp only[bg,bC]at d;rw[<-d.2.2];rfl
   .cases d
  .cases h
 | .own _::_,_,_,_,_,b,_=>by simp[jb]at b
 | .jr ..::_,_,_,_,_,b,_=>by simp[jb]at b
 | .nil _::_,_,_,_,_,b,_=>by simp[jb]at b
 | .ptr _::_,_,_,_,_,b,_=>by simp[jb]at b
 |[],_::_,_,_,_,_,h=>by simp[gL]at h
 | .dat _::_,[],_,_,_,_,h=>by simp[gL]at h
def AI:∀rv:Rv,jb (FU rv)=W
 |[]=>rfl
 |_::rv=>AI rv
def Jc(fr:bW S)(c:Operand)(b:Bool):(fr.rZ c b).n=fr.n:=by
 unfold bW.rZ;split
 .rename_i k;cases Nat.blt k fr.n<;>rfl
 .rfl
variable {s:bq S}{w:World}{fr:bW S}{a:Act}{c:Code}{b:Bool}{r k o:Nat}{rr:Option Nat}{P:Program}{Q:Exit->Act->World->Prop}{E:fY S}
def Ea{g:Gh}{c:Operand}(hn:fr.n<=bB)(hf:cF g (bz fr) a w)(m:a.eval c=.bool b):cF g (bz (fr.rZ c b)) a w:=by
 unfold bW.rZ;split
 .rename_i k;cases p:Nat.blt k fr.n with
  |false=>exact hf
  |true=>
   have e:k<fr.n:=fQ p;refine⟨hf.size,hf.df,λj t d=>?_⟩;simp only[cG]at d;rw[bQ,bW.iO _ _ _ _ (dy e hn)]at d;by_cases i:j=k
   .subst i;rw[bJ rfl]at d;simp only[dX,bg]at d;subst d;have l:j<a.tmps.size:=by rw[hf.size];exact e
    have:a.tmps[j]?=Z (.bool b):=by have:=m;simp only[Act.eval,Um,ov l,zU]at this;rw[ov l,this]
    exact⟨_,this,.kb b⟩
   .rw[br i]at d;exact hf.tm j t (by rw[bQ];exact d)
 .exact hf
def Qx(hn:fr.n<=bB)(c:Operand)(b:Bool)(dr:List Nat)(aH:Nat):eG (QT c) fr (fr.rZ c b) dr aH:=by
 unfold bW.rZ;split
 .rename_i k;cases e:Nat.blt k fr.n with|false=>exact eG.refl _ _ _ _|true=>have d:k<fr.n:=fQ e;refine⟨λj v g i=>.inl ?_,tA.refl _ _⟩;simp only[cG];rw[bW.iO _ _ _ _ (dy d hn),br (by simpa[QT]using g)];exact i
 .exact eG.refl _ _ _ _
def Tg{ω:Type}{e:Bool}{x y:Option ω}{r:ω}(h:Gw e x y=Z r):y=Z r∧(e=W->x=Z r):=by
 unfold Gw at h;cases e with
 |false=>exact⟨h,λh=>by cases h⟩
 |true=>
  simp only[cG]at h;split at h
  .rename_i b;exact⟨h,λ_=>b.trans h⟩
  .cases h
def og(ds:List Nat):∀sh:Sh,Da ds (Ry sh)=W
 |[]=>rfl
 |(_,.one _)::l=>og ds l
 |(_,.box _)::l=>by have:=og ds l;simp only[Ry,Da,Dv,dM]at this ⊢;exact this
 |(_,.hid _)::l=>by have:=og ds l;simp only[Ry,Da,Dv,dM]at this ⊢;exact this
def jm{s:bq S}{fr:bW S}{k o r:Nat}(q:fr.get k=Z (.sh o r)):∀{sh:Sh}{ps:List Pk}{bs:List Nat}{vs:List (V S)}{u:Option Nat}{x:fU S.A ps}{fz ow i:List Nat},kR sh=ps->s8 fr sh bs=Z vs->dZ s ps vs u=Z (x,fz,ow,i)->k∈Lw sh->o∈ow
 |[],_,_,_,_,_,_,_,_,_,_,_,d=>by simp[Lw]at d
 |(j,.one c)::sh,ps,bs,vs,u,x,fz,ow,i,g,h1,h2,d=>by
  simp only[s8]at h1;split at h1;rotate_left
  .cases h1
  rename_i v w y l;simp only[bg]at h1;subst h1
  replace g:Pk.one c::kR sh=ps:=g
  subst g;simp only[dZ]at h2;split at h2;rotate_left
  .cases h2
  rename_i B a1 C G a2 H z m p;simp only[bg,bC]at h2;obtain⟨_,_,rfl,_⟩:=h2;cases c with
  |dat t=>exact iS _ (jm q rfl l p d)
  |jr n j t=>exact iS _ (jm q rfl l p d)
  |nil e=>exact iS _ (jm q rfl l p d)
  |ptr t=>exact iS _ (jm q rfl l p d)
  |own e=>
   simp only[Lw]at d;rcases eR.1 d with rfl|d
   .rw[q]at y;cases y;simp only[lK]at m;split at m
    .rcases af m with⟨_,m⟩|⟨_,m⟩
     .split at m
      .simp only[bg,bC]at m;obtain⟨_,_,rfl⟩:=m;simp
      .cases m
     .cases m
    .cases m
   .exact iS _ (jm q rfl l p d)
 |(j,.box kd)::sh,ps,[],vs,u,x,fz,ow,i,g,h1,h2,d=>by simp[s8]at h1
 |(j,.box kd)::sh,ps,b::bs,vs,u,x,fz,ow,i,g,h1,h2,d=>by
  simp only[s8]at h1;split at h1;rotate_left
  .cases h1
  rename_i w l;simp only[bg]at h1;subst h1
  replace g:Pk.box kd::kR sh=ps:=g
  subst g;simp only[dZ]at h2;split at h2;rotate_left
  .cases h2
  rcases af h2 with⟨_,h2⟩|⟨_,h2⟩;rotate_left
  .cases h2
  split at h2;rotate_left
  .cases h2
  split at h2;rotate_left
  .cases h2
  rename_i p;simp only[bg,bC]at h2;obtain⟨_,_,rfl,_⟩:=h2;exact iS _ (jm q rfl l p d)
 |(j,.hid kd)::sh,ps,[],vs,u,x,fz,ow,i,g,h1,h2,d=>by simp[s8]at h1
 |(j,.hid kd)::sh,ps,b::bs,vs,Y,x,fz,ow,i,g,h1,h2,d=>by
  replace g:Pk.hid kd::kR sh=ps:=g
  subst g;cases vs<;>simp[dZ]at h2
 |(j,.hid kd)::sh,ps,b::bs,vs,Z I,x,fz,ow,i,g,h1,h2,d=>by
  simp only[s8]at h1
  replace g:Pk.hid kd::kR sh=ps:=g
  subst g;simp only[dZ]at h2;rcases af h2 with⟨_,h2⟩|⟨_,h2⟩;rotate_left
  .cases h2
  split at h2;rotate_left
  .cases h2
  split at h2;rotate_left
  .cases h2
  rename_i p;simp only[bg,bC]at h2;obtain⟨_,_,rfl,_⟩:=h2;exact iS _ (jm q rfl h1 p d)
def mB{ds:List Nat}{k:Nat}:∀{sh:Sh},k∈V8 ds sh->k∈Lw sh
 |[],h=>h
 |(j,.one (.own e))::sh,h=>by
  simp only[V8]at h;simp only[Lw,eR];rcases Bool.eq_false_or_eq_true (ds.contains j)with b|b
  .rw[b]at h;exact .inr (mB h)
  .rw[b]at h;rcases eR.1 h with rfl|h
   .exact .inl rfl
   .exact .inr (mB h)
 |(j,.one (.dat t))::sh,h=>mB (sh:=sh) h
 |(j,.one (.jr ..))::sh,h=>mB (sh:=sh) h
 |(j,.one (.nil _))::sh,h=>mB (sh:=sh) h
 |(j,.one (.ptr _))::sh,h=>mB (sh:=sh) h
 |(j,.box kd)::sh,h=>mB (sh:=sh) h
 |(j,.hid kd)::sh,h=>mB (sh:=sh) h
def US{e:bq S}{sh:Sh}{bs ow:List Nat}{x:fU S.A (kR sh)}(h:rQ sh bs fr s=Z (x,e,ow))(g:k∈Lw sh)(i:fr.get k=Z (.sh o r)):o∈ow:=by
 unfold rQ at h;split at h
 .cases h
 rename_i m b;split at h
 .cases h
 rename_i p q j l d;split at h
 .cases h
 rcases af h with⟨_,h2⟩|⟨_,h2⟩
 .simp only[bg,bC]at h2;obtain⟨_,_,rfl⟩:=h2;exact jm i rfl b d g
 .cases h2
def JN(rr:Option Nat)(P:Program)(c:Code)(Q:Exit->Act->World->Prop)(a:Act)(w:World):Prop:=
 ∀(b:Frame)(k:List Item)(cs:List Frame),b.roundOf=rr->∃e d w',Q e d w'∧aar rr P (lone (b.atR a (.code c::.inLoop c::k)) cs w) b k cs e d w'
def Iq(h:JN rr P c Q a w):(Code.loop c).wpIn (WR rr) 0 P Q a w:=λb k i g _ _=>
 let ⟨e,j,l,m,d⟩:=h b k i g
 ⟨e,j,l,m,.of_steps (ij.2 (.one stepR_loop)) d⟩
def rX(h:c.wpIn (WR rr) 0 P (Exit.then (JN rr P c Q) Q) a w):JN rr P c Q a w:=by
 intro b k r j;obtain⟨e,m,p,i,d⟩:=h b (.inLoop c::k) r j trivial (KM _);cases e with
 |normal=>obtain⟨s,t,u,q,g⟩:=i b k r j;exact⟨s,t,u,q,.of_steps (ij.2 ((ij.1 d).trans (.one stepR_inLoop))) g⟩
 |exit id=>exact⟨_,m,p,i,.pass (x:=.inLoop c) rfl (λ_ _=>.inl (by simp)) d⟩
 |goto l=>exact⟨_,m,p,i,.pass (x:=.inLoop c) rfl (λ_ _=>.inl (by simp)) d⟩
 |ret=>exact⟨_,m,p,i,.pass (x:=.inLoop c) rfl (λ_ _=>.inl (by simp)) d⟩
 |panic v=>exact⟨_,m,p,i,.pass (x:=.inLoop c) rfl (λ_ _=>.inl (by simp)) d⟩
 |outgrown=>exact⟨_,m,p,i,.pass (x:=.inLoop c) rfl (λ_ _=>.inl (by simp)) d⟩
def N6(I:Act->World->Prop)(μ:Act->World->Nat)(round:∀a w,I a w->c.wpIn (WR rr) 0 P (Exit.then (λd w'=>I d w'∧μ d w'<μ a w) Q) a w) :
  ∀(m:Nat)(a:Act)(w:World),μ a w<=m->I a w->JN rr P c Q a w:=by
 intro m
 induction m with
 |zero=>
  intro a w i g;refine rX (wpIn_mono (round a w g) λe d w' b=>?_);cases e with|normal=>have:=b.2;omega|_=>exact b
 |succ m j=>
  intro a w i g;refine rX (wpIn_mono (round a w g) λe d w' b=>?_);cases e with|normal=>exact j d w' (by have:=b.2;omega) b.1|_=>exact b
def u7{a:Bool}(h:(a&&b)=W):a=W∧b=W:=zX.1 h
def PZ{id:Nat}{ops:Array Oper}{d:Bool}(h:Nt (.region id ops d)=W):∀o∈ops.toList,∀c,o.op≠.defer c:=by intro o b c e;simp only[Nt,eA]at h;have:=h o b;rw[e]at this;cases this
def Oh(hE:eM E)(rv:Rv){b:Code}{ev:{ω:Type}->(wO S->bW S->bq S->Option ω)->bW S->bq S->Option ω}
  (hev:∀{ω:Type}{Q:wO S->bW S->bq S->Option ω}{r:ω}{fr:bW S}{s:bq S},ev Q fr s=Z r->fr.n<=bB->s.lo<=s.aH->∀{g:Gh}{a:Act}{w:World},cF g (bz fr) a w->bh g (aG s) w->b.wpIn (WR rr) 0 E.T.E.P (Ko (eO b++rv.map (·.1)) fr s g w Q r) a w)
  {ω:Type} {sh:Sh} {pts:List Pt} {al:List (Nat×Nat)} {Q:wO S->bW S->bq S->Option ω} {r:ω} {fr:bW S} {s:bq S} (h:Vr E rv ev sh pts al (eO b++rv.map (·.1)) (xy (ku b)) Q fr s=Z r) (hn:fr.n<=bB) (hlo:s.lo<=s.aH) {g:Gh} {a:Act} {w:World} (hf:cF g (bz fr) a w) (hs:bh g (aG s) w) :
  b.wpIn (WR rr) 0 E.T.E.P (Ko (eO b++rv.map (·.1)) fr s g w Q r) a w:=by
 unfold Vr at h;split at h
 .cases h
 rename_i bs acE;split at h
 .cases h
 rename_i x0 I ow hpk;rcases af h with⟨hb,h2⟩|⟨_,h2⟩;rotate_left
 .cases h2
 clear h;rw[dR,dR]at hb;obtain⟨⟨HD,C⟩,VU⟩:=hb;rw[dR,dR]at C;obtain⟨C,VZ,ac1⟩:=C;obtain⟨o,u,i⟩:=rf h2;clear h2;generalize hds:(eO b++rv.map (·.1))++(V8 (eO b++rv.map (·.1)) sh++al.map (·.1))=ds at *
 obtain⟨bl0,acW⟩:=tR hf hs acE;have Jk:∀d∈ds,d<bB:=λd hd=>by rw[eA]at VU;exact dy (fQ (VU d hd)) hn
 have SG:∀p∈al,p.1<bB:=λp hp=>Jk _ (by rw[<-hds];exact iS _ (iS _ (tK.2 ⟨p,hp,rfl⟩)));have SF:∀k∈al.map (·.1),k∈ds:=λk hk=>by rw[<-hds];exact iS _ (iS _ hk)
 obtain⟨g1,GD,zo,bl1,z⟩:=nI hE.sg hf hs acW hpk;have Ou:=E6 (fr:=fr) hf hs Jk z;have acw:I.aH<=bB:=z.rel.aH;have VX:(cT ds ow bs fr I).1.n<=bB:=hn;have fix:∀{m:bW S},eG ds fr m (ow++I.dr) s.aH->eG (eO b++rv.map (·.1)) fr m (ow++I.dr) s.aH:=by
  intro m hfo;refine⟨λk v hk hv=>?_,hfo.df⟩;by_cases nt:k∈ds
  .right
   rw[<-hds]at nt;rcases dY.1 nt with nt|nt
   .exact absurd nt hk
   .rcases dY.1 nt with nt|nt
    .unfold ZJ at C;rw[eA]at C;have h1:=C k nt;split at h1
     .rename_i o' r' ho';rw[hv]at ho';cases ho';have:=US hpk (mB nt) hv;simp[cD,eE,this]
     .cases h1
    .obtain ⟨p,hp,rfl⟩:=tK.1 nt;obtain⟨o1,r1,rfl,this⟩:=M1 ac1 hp hv;simp[cD,eE,this]
  .exact hfo.tm k v nt hv
 have V0:XP a w al:=vD hf hs VZ;have hbase:uS sh bs (cT ds ow bs fr I).1 (cT ds ow bs fr I).2 s g w x0 a _ w GD zo bl1:=Ou;unfold Di at u;split at u
 .cases u
 rename_i ac4 zG VN;obtain⟨gh,hh0,VR⟩:=hbase.head VX VN;have hh:=hh0.kZ SG V0;generalize kZ zG al ac4=Gk at hh u;have acO:Gk.n=fr.n:=hh.n;have Zn:zG.lo<=zG.aH:=by have h1:zG.lo=s.lo:=hh.lo.trans z.lo;have h2:=hh.aH;have h3:(cT ds ow bs fr I).2.aH=I.aH:=rfl;have:=z.aH;omega
 refine wpIn_mono (hev u (by rw[acO];exact hn) Zn hh.fr hh.rel) λe M4 B hq=>?_;rcases hq with hF|⟨ex,Nw,s2,g2,h1,h2,h3,h4,h5,h6⟩
 .exact hF.elim
 replace h6:eG ds Gk Nw s2.dr zG.aH:=h6.mono (λk hk=>by rw[<-hds];exact eH _ hk) (λ_ h=>h)
 rcases af h2 with⟨acR,h2⟩|⟨_,h2⟩;rotate_left
 .cases h2
 have Zt:Nw.df.length=Gk.df.length:=by have:=beq_iff'.1 acR;rw[bK,bK]at this;rw[this,hh.Jy]
 have next:∀{K:Sh}{y:fU S.A (kR K)}{L s3:bq S}{ZC:Gh}{NW:List Nat},fj zG gh w L ZC B->cF ZC (bz Nw) M4 B->eG ds Gk Nw L.dr zG.aH->rQ K bs Nw L=Z (y,s3,NW)->
   Ny I.aH bs s3.wr=W->NW.all (λo=>Nat.ble I.aH o)=W->s3.dr.all (λo=>Nat.ble I.aH o)=W->
   ∃M l O R,uS K bs (cT ds ow bs fr I).1 (cT ds ow bs fr I).2 s g w y M4 M B l O R∧∀b,ZC.bA b->M.bA b:=by
  intro K y L s3 ZC NW k1 k2 k3 k4 k5 k6 k7;obtain⟨g3,l,O,R,VH⟩:=nI hE.sg (bl0:=bl1) k2 k1.rel ⟨hbase.X3.1,λj o b q1 q2=>k1.ext.cg o b (hh.le.cg o b (hbase.X3.2 j o b q1 q2))⟩ k4;exact⟨_,l,O,R,H7 SF Jk (λb hb=>⟨by have:=(z.WE b hb).2.1;rw[z.aH];exact this,(z.WE b hb).2.2.1⟩) acw (by rw[z.aH];exact hlo) (λo U=>(z.owp o U).2.1) (λo b hb=>⟨by rw[z.aH];exact hs.lt hb,λhm=>by rw[z.owb o hm]at hb;cases hb⟩) HD z.lo z.fl VR hh k1 k2 k3 h3 Zt VH k5 k6 k7,VH.ext.bA⟩
 have X:∀{K:Sh}{y:fU S.A (kR K)}{M:Gh}{l:List Value}{O:List fq}{R:List Nat}{m:bW S}{G:bq S},Da ds K=W->uS K bs (cT ds ow bs fr I).1 (cT ds ow bs fr I).2 s g w y M4 M B l O R->kH K bs y (cT ds ow bs fr I).1 (cT ds ow bs fr I).2=Z (m,G)->
   ∃gy,cF gy (bz m) M4 B∧(∀b,M.bA b->gy.bA b)∧fj s g w {G with wr:=I.ob.jt (jG (eE ow I.aH))++(bs++I.wr),dr:=ow++I.dr} gy B∧eG ds fr m (ow++I.dr) s.aH∧m.n=fr.n:=by
  intro K y M l O R m G acv k1 k2;obtain⟨gy,k3,k4⟩:=k1.head VX k2;obtain⟨k5,k6,k7⟩:=MV (ex:=[]) (λ_ h=>by cases h) hs Jk z acv k4 k3;exact⟨gy,k3.fr,k3.le.bA,k5,k6,k7⟩
 cases h1 with
 |o9=>
  rcases af h2 with⟨ac2,h2⟩|⟨_,h2⟩;rotate_left
  .cases h2
  simp only[sP]at h2;split at h2
  .rename_i y s3 NW H;rcases af h2 with⟨hc,h2⟩|⟨_,h2⟩;rotate_left
   .cases h2
   simp only[dR]at hc;obtain⟨M,l,O,R,k1,_⟩:=next h5 h4 h6 H hc.1 hc.2.1 hc.2.2
   cases h2;simp only at i;split at i
   .cases i
   .rename_i m G SD;obtain⟨gy,l1,_,l2,l3,l4⟩:=X HD k1 SD;obtain⟨m1,m2,m3,m4⟩:=kG (s:=G) l2.rel SG (vD h4 h5.rel ac2) l1;exact .inr ⟨.o9,kZ G al m,_,gy,.o9,i,m2.trans l4,m1,l2,fix ⟨λk v hk hv=>by rw[m4 k λhm=>hk (SF k hm)];exact l3.tm k v hk hv,by rw[m3];exact l3.df⟩⟩
  .cases h2
 |ext j=>
  rcases af h2 with⟨hj,h2⟩|⟨_,h2⟩;rotate_left
  .cases h2
  simp only[sP]at h2;split at h2
  .rename_i y s3 NW H;rcases af h2 with⟨hc,h2⟩|⟨_,h2⟩;rotate_left
   .cases h2
   simp only[dR]at hc;obtain⟨M,l,O,R,k1,_⟩:=next h5 h4 h6 H hc.1 hc.2.1 hc.2.2
   cases h2;simp only at i;split at i
   .cases i
   .rename_i m G SD;obtain⟨gy,l1,_,l2,l3,l4⟩:=X HD k1 SD;rw[dR]at hj;have Zp:j∈xy (ku b):=by simpa using hj.1
    obtain⟨m1,m2,m3,m4⟩:=kG (s:=G) l2.rel SG (vD h4 h5.rel hj.2) l1;exact .inr ⟨.ext j,kZ G al m,_,gy,.ext j,w8 Zp i,m2.trans l4,m1,l2,fix ⟨λk v hk hv=>by rw[m4 k λhm=>hk (SF k hm)];exact l3.tm k v hk hv,by rw[m3];exact l3.df⟩⟩
  .cases h2
 |ret=>
  simp only at h2;split at h2
  .cases h2
  rename_i vs hvs;split at h2;rotate_left
  .cases h2
  rename_i r' fz owr Sy;split at h2;rotate_left
  .cases h2
  rename_i L hfz;simp only[sP]at h2;split at h2
  .rename_i y s3 NW H;rcases af h2 with⟨hc,h2⟩|⟨_,h2⟩;rotate_left
   .cases h2
   simp only[dR]at hc;obtain⟨aeN,CB,lO⟩:=II h4 hvs;obtain⟨p1,p2,p3⟩:=gk hE.sg h5.rel Sy lO;obtain⟨g3,Om,HG,Ot⟩:=eo fz h5.rel (cY hE.sg _ hfz) p1;have Oo:owr=[]:=oB (AI rv) Sy;obtain⟨alr,Cc,_⟩:=p3 g3 (aG L) fz Om HG Ot (λo U=>U) (λo U=>by rw[Oo]at U;cases U);obtain⟨f1,f2,f3,f4,f5,f6,f7⟩:=ew hfz;have xm:fj s2 g2 B L g3 B:=⟨Om,HG.GH _,f1,f2,yw f3.symm,f4,λo _ U=>f5 o U,λo U=>by rw[f7];exact U⟩;have Zr:cF g3 (bz Nw) M4 B:=h4.ext HG h5.rel.bA;obtain⟨M,l,O,R,k1,k2⟩:=next (h5.trans xm) Zr (by rw[f7];exact h6) H hc.1 hc.2.1 hc.2.2
   cases h2;simp only at i;split at i
   .cases i
   .rename_i m G SD;obtain⟨gy,l1,l0,l2,l3,l4⟩:=X (og ds sh) k1 SD;obtain⟨m1,m2,m3⟩:=tI (g:=gy) (w:=B) (a:=M4) (fr:=m) Cc (λb hb=>l0 b (k2 b hb)) CB (by rw[l4];exact hn) l1;have hdf:∀(rv:Rv)(r:gl S.A (FU rv))(fr:bW S),(v9 rv r fr).df=fr.df:=by
     intro rv
     induction rv with|nil=>intro _ _;rfl|cons q rv ih=>intro r fr;obtain⟨k,t⟩:=q;exact ih _ _
    refine .inr ⟨.ret,_,_,gy,.ret,i,m2.trans l4,m1,l2,⟨λk v hk hv=>?_,by rw[hdf];exact l3.df⟩⟩;rw[m3 k (λhm=>hk (iS _ hm))];exact(fix l3).tm k v hk hv
  .cases h2
 |dh t v hv=>
  rcases af h2 with⟨hpn,h2⟩|⟨_,h2⟩;rotate_left
  .cases h2
  split at h2;rotate_left
  .cases h2
  rename_i r' fz owr Sy;split at h2;rotate_left
  .cases h2
  rename_i L hfz;simp only[sP]at h2;split at h2;rotate_left
  .cases h2
  rename_i y s3 NW H;rcases af h2 with⟨hc,h2⟩|⟨_,h2⟩;rotate_left
  .cases h2
  simp only[dR]at hc;have lO:PW (aK g2 B) (bn [t]) [v]:=⟨rfl,λj t' v' q1 q2=>by
   cases j with
   |zero=>simp[bn]at q1 q2;subst q1;subst q2;exact hv
   |succ j=>simp[bn]at q1⟩
  obtain⟨p1,p2,p3⟩:=gk hE.sg h5.rel Sy lO;obtain⟨g3,Om,HG,Ot⟩:=eo fz h5.rel (cY hE.sg _ hfz) p1;have Oo:owr=[]:=oB (cs:=[.dat S.pt]) rfl Sy;obtain⟨alr,Cc,_⟩:=p3 g3 (aG L) fz Om HG Ot (λo U=>U) (λo U=>by rw[Oo]at U;cases U);obtain⟨f1,f2,f3,f4,f5,f6,f7⟩:=ew hfz;have xm:fj s2 g2 B L g3 B:=⟨Om,HG.GH _,f1,f2,yw f3.symm,f4,λo _ U=>f5 o U,λo U=>by rw[f7];exact U⟩;have Zr:cF g3 (bz Nw) M4 B:=h4.ext HG h5.rel.bA;obtain⟨M,l,O,R,k1,k2⟩:=next (h5.trans xm) Zr (by rw[f7];exact h6) H hc.1 hc.2.1 hc.2.2
  cases h2;simp only at i;rcases af i with⟨_,i⟩|⟨_,i⟩;rotate_left
  .cases i
  split at i
  .cases i
  .rename_i m G SD;obtain⟨gy,l1,l0,l2,l3,l4⟩:=X (og ds sh) k1 SD;refine .inr ⟨.dh (.ty S.pt r'.1),m,_,gy,.dh _ v ?_,i,l4,l1,l2,fix l3⟩;cases Cc with|@dat _ _ x h v vs al hd hr=>exact oc (hd.le λb hb=>l0 b (k2 b hb))
def qW(hE:eM E){call:iC S}(Bt:fT E.T.E.P call)(VV:qo E call)(n:Nat)(fid:FuncId)(rv:Rv):∀(c:Code)(i:Nat){ω:Type}{Q:wO S->bW S->bq S->Option ω}{r:ω}{fr:bW S}{s:bq S},
  tC E call n fid rv c i Q fr s=Z r->(rr≠Y->Nt c=W)->fr.n<=bB->s.lo<=s.aH->∀{g:Gh}{a:Act}{w:World},cF g (bz fr) a w->bh g (aG s) w->c.wpIn (WR rr) 0 E.T.E.P (Ko (eO c++rv.map (·.1)) fr s g w Q r) a w:=by
 intro c
 induction c with
 |region id ops draw=>
  intro i ω Q r fr s h B hn hlo g a w hf hs;cases draw with
  |true=>
   simp only[tC]at h;rcases af h with⟨hb,h⟩|⟨_,h⟩;rotate_left
   .cases h
   refine VV id ops _ _ r fr s hb h hn hf hs (λu s' g' L I h1 h2 h3 h4 h5=>.inr ⟨.o9,u,s',g',.o9,h1,h2,h3,h4,h5.mono (λk G=>eH _ G) (λ_ h=>h)⟩)
    (λu t s' g' L v I h1 h2 h3 h4 h6 h5=>.inr ⟨.dh t,u,s',g',.dh t v h5,h1,h2,h3,h4,h6.mono (λk G=>eH _ G) (λ_ h=>h)⟩) rr B
  |false=>
   refine Ui ?_;simp only[tC]at h;have:=Bx hE Bt (Q:=Ko (eO (.region id ops J)++rv.map (·.1)) fr s g w Q r) (rr:=rr) (λhr=>PZ (B hr)) ops.toList 0 rfl hn h hf hs
    (λu s' g' L I h1 h2 h3 h4 h5=>.inr ⟨.o9,u,s',g',.o9,h1,h2,h3,h4,h5.mono (λk G=>eH _ G) (λ_ h=>h)⟩)
    (λu t s' g' L v I h1 h2 h3 h4 h6 h5=>.inr ⟨.dh t,u,s',g',.dh t v h5,h1,h2,h3,h4,h6.mono (λk G=>eH _ G) (λ_ h=>h)⟩)
   rw[List.range_eq_range'];simpa using this
 |seq x y ihx ihy=>
  intro i ω Q r fr s h B hn hlo g a w hf hs;simp only[tC]at h;have hds:∀k∈(eO x++rv.map (·.1))++(eO y++rv.map (·.1)),k∈eO (.seq x y)++rv.map (·.1):=by
   intro k G;simp only[eO,dY]at G ⊢;rcases G with(h|h)|(h|h)
   .exact .inl (.inl h)
   .exact .inr h
   .exact .inl (.inr h)
   .exact .inr h
  refine wpIn_seq (wpIn_mono (ihx i h (λhr=>(u7 (B hr)).1) hn hlo hf hs) λe L I hq=>?_);rcases hq with hF|⟨ex,u,s',g',h1,h2,h3,h4,h5,h6⟩
  .exact hF.elim
  .cases h1 with
   |o9=>have:=ihy i h2 (λhr=>(u7 (B hr)).2) (by rw[h3];exact hn) (by rw[h5.lo];exact fC hlo h5.aH) h4 h5.rel;exact wpIn_mono this λe a w hq=>(Ko.mono h3 h5 h6 hq).ds hds
   |ext j=>exact .inr ⟨_,u,s',g',.ext j,h2,h3,h4,h5,h6.mono (λk G=>hds k (eH _ G)) (λ_ h=>h)⟩
   |ret=>exact .inr ⟨_,u,s',g',.ret,h2,h3,h4,h5,h6.mono (λk G=>hds k (eH _ G)) (λ_ h=>h)⟩
   |dh t v H=>exact .inr ⟨_,u,s',g',.dh t v H,h2,h3,h4,h5,h6.mono (λk G=>hds k (eH _ G)) (λ_ h=>h)⟩
 |cond c x y ihx ihy=>
  intro i ω Q r fr s h B hn hlo g a w hf hs;have cnd:∀{ω:Type}{Q:wO S->bW S->bq S->Option ω}{r:ω}{fr:bW S}{s:bq S},MC c (tC E call n fid rv x i) (tC E call n fid rv y i) Q fr s=Z r->fr.n<=bB->s.lo<=s.aH->∀{g:Gh}{a:Act}{w:World},cF g (bz fr) a w->bh g (aG s) w->
    (Code.cond c x y).wpIn (WR rr) 0 E.T.E.P (Ko (eO (.cond c x y)++rv.map (·.1)) fr s g w Q r) a w:=by
   clear h hn hlo hf hs;intro ω Q r fr s h hn hlo g a w hf hs;have hx:∀k∈eO x++rv.map (·.1),k∈eO (.cond c x y)++rv.map (·.1):=by intro k G;simp only[eO,dY]at G ⊢;exact G.imp (λh=>.inr (.inl h)) id
   have hy:∀k∈eO y++rv.map (·.1),k∈eO (.cond c x y)++rv.map (·.1):=by intro k G;simp only[eO,dY]at G ⊢;exact G.imp (λh=>.inr (.inr h)) id
   have R:∀k∈QT c,k∈eO (.cond c x y)++rv.map (·.1):=by intro k G;simp only[eO,dY];exact .inl (.inl G)
   have tru:a.eval c=.bool W->tC E call n fid rv x i Q (fr.rZ c W) s=Z r->x.wpIn (WR rr) 0 E.T.E.P (Ko (eO (.cond c x y)++rv.map (·.1)) fr s g w Q r) a w:=λH h=>
    wpIn_mono (ihx i h (λhr=>(u7 (B hr)).1) (by rw[Jc];exact hn) hlo (Ea hn hf H) hs) λe a w hq=>(Ko.mono (Jc _ _ _) (fj.refl hs) (Qx hn c W _ _) hq).ds λk G=>(dY.1 G).elim (R k) (hx k)
   have fls:a.eval c=.bool J->tC E call n fid rv y i Q (fr.rZ c J) s=Z r->y.wpIn (WR rr) 0 E.T.E.P (Ko (eO (.cond c x y)++rv.map (·.1)) fr s g w Q r) a w:=λH h=>
    wpIn_mono (ihy i h (λhr=>(u7 (B hr)).2) (by rw[Jc];exact hn) hlo (Ea hn hf H) hs) λe a w hq=>(Ko.mono (Jc _ _ _) (fj.refl hs) (Qx hn c J _ _) hq).ds λk G=>(dY.1 G).elim (R k) (hy k)
   unfold MC at h;split at h
   .rename_i R;have:=bL hf (bV R);simp only[low]at this;generalize H:a.eval c=v at this;cases this;exact wpIn_cond_true H (wpIn_mono (ihx i h (λhr=>(u7 (B hr)).1) hn hlo hf hs) λe a w hq=>hq.ds hx)
   .rename_i R;have:=bL hf (bV R);simp only[low]at this;generalize H:a.eval c=v at this;cases this;exact wpIn_cond_false H (wpIn_mono (ihy i h (λhr=>(u7 (B hr)).2) hn hlo hf hs) λe a w hq=>hq.ds hy)
   .rename_i e R;have:=bL hf (bV R);simp only[low]at this;generalize H:a.eval c=v at this;obtain⟨h2,h1⟩:=Tg h;cases this with|ub _ b hb=>exact wpIn_cond_split H (λXZ=>tru (by rw[H,XZ]) (h1 (hb XZ))) (λhbf=>fls (by rw[H,hbf]) h2)
   .rename_i t _ _ _ R;split at h
    .rename_i b hb;obtain⟨p,e,hp⟩:=kM hb;have H:=iH e hp (bL hf (bV R));refine wpIn_cond_split H (λXZ=>?_) (λhbf=>?_)
     .rcases oh h with⟨_,h⟩|⟨h0,_⟩
      .exact tru (by rw[H,XZ]) h
      .rw[XZ]at h0;cases h0
     .rcases oh h with⟨h0,_⟩|⟨_,h⟩
      .rw[hbf]at h0;cases h0
      .exact fls (by rw[H,hbf]) h
    .cases h
   .cases h
  simp only[tC]at h;split at h
  .exact cnd h hn hlo hf hs
  .exact Oh hE rv (ev:=λ{_}Q fr s=>MC c (tC E call n fid rv x i) (tC E call n fid rv y i) Q fr s) cnd h hn hlo hf hs
 |block j b ih=>
  intro i ω Q r fr s h B hn hlo g a w hf hs;simp only[tC]at h;refine wpIn_block (wpIn_mono (ih j h B hn hlo hf hs) λe L I hq=>?_);rcases hq with hF|⟨ex,u,s',g',h1,h2,h3,h4,h5,h6⟩
  .exact hF.elim
  .cases h1 with
   |o9=>exact .inr ⟨_,u,s',g',.o9,h2,h3,h4,h5,h6⟩
   |ext k=>
    simp only[Mh]at h2;simp only[Exit.inBlock];split at h2
    .rename_i hji;rw[bJ (beq_iff'.1 hji)];exact .inr ⟨_,u,s',g',.o9,h2,h3,h4,h5,h6⟩
    .rename_i hji;rw[br (λe=>by subst e;rw[GU]at hji;cases hji)];exact .inr ⟨_,u,s',g',.ext k,h2,h3,h4,h5,h6⟩
   |ret=>exact .inr ⟨_,u,s',g',.ret,h2,h3,h4,h5,h6⟩
   |dh t v H=>exact .inr ⟨_,u,s',g',.dh t v H,h2,h3,h4,h5,h6⟩
 |loop b ih=>
  intro i ω Q r fr s h B hn hlo g a w hf hs;simp only[tC]at h;split at h
  .cases h
  rename_i sh pts al pl hsh;refine Iq ?_;clear hsh
  induction pl generalizing fr s g a w with
  |succ pl ihp=>
   simp only[Qn]at h;refine rX (wpIn_mono (ih i h B hn hlo hf hs) λe L I hq=>?_);rcases hq with hF|⟨ex,u,s',g',h1,h2,h3,h4,h5,h6⟩
   .exact hF.elim
   have hds:∀k∈eO b++rv.map (·.1),k∈eO (.loop b)++rv.map (·.1):=λk G=>G;cases h1 with
   |o9=>intro b1 k1 cs1 alH;simp only[OB]at h2;have ihq:=ihp (fr:=u) (s:=s') (g:=g') (a:=L) (w:=I) (h:=h2) (hn:=by rw[h3];exact hn) (hlo:=by rw[h5.lo];exact fC hlo h5.aH) (hf:=h4) (hs:=h5.rel);obtain⟨e,a2,w2,hq,Jn⟩:=ihq b1 k1 cs1 alH;refine⟨e,a2,w2,?_,Jn⟩;exact(Ko.mono h3 h5 h6 hq).ds λk G=>(dY.1 G).elim (hds k) id
   |ext j=>exact .inr ⟨_,u,s',g',.ext j,h2,h3,h4,h5,h6⟩
   |ret=>exact .inr ⟨_,u,s',g',.ret,h2,h3,h4,h5,h6⟩
   |dh t v H=>exact .inr ⟨_,u,s',g',.dh t v H,h2,h3,h4,h5,h6⟩
  |zero=>
  simp only[Qn]at h;split at h
  .cases h
  rename_i bs acE;split at h
  .cases h
  rename_i x0 s1 ow hpk;rcases af h with⟨hb,h2⟩|⟨_,h2⟩;rotate_left
  .cases h2
  clear h;rw[dR,dR]at hb;obtain⟨⟨HD,HF⟩,VU⟩:=hb;rw[dR,dR]at HF;obtain⟨HF,VZ,ac1⟩:=HF;obtain⟨o,agm,z⟩:=rf h2;clear h2;generalize hds:(eO b++rv.map (·.1))++(V8 (eO b++rv.map (·.1)) sh++al.map (·.1))=ds at *
  obtain⟨bl0,acW⟩:=tR hf hs acE;have Jk:∀d∈ds,d<bB:=λd hd=>by rw[eA]at VU;exact dy (fQ (VU d hd)) hn
  have SG:∀p∈al,p.1<bB:=λp hp=>Jk _ (by rw[<-hds];exact iS _ (iS _ (tK.2 ⟨p,hp,rfl⟩)));have SF:∀k∈al.map (·.1),k∈ds:=λk G=>by rw[<-hds];exact iS _ (iS _ G)
  obtain⟨g1,GD,zo,bl1,U⟩:=nI hE.sg hf hs acW hpk;have Ou:=E6 (fr:=fr) hf hs Jk U;have acw:s1.aH<=bB:=U.rel.aH;have VX:(cT ds ow bs fr s1).1.n<=bB:=hn;have fix:∀{O:bW S},eG ds fr O (ow++s1.dr) s.aH->eG (eO (.loop b)++rv.map (·.1)) fr O (ow++s1.dr) s.aH:=by
   intro O hfo;refine⟨λk v G H=>?_,hfo.df⟩;by_cases nt:k∈ds
   .right
    rw[<-hds]at nt;rcases dY.1 nt with nt|nt
    .exact absurd nt G
    .rcases dY.1 nt with nt|nt
     .unfold ZJ at HF;rw[eA]at HF;have h1:=HF k nt;split at h1
      .rename_i o' r' ho';rw[H]at ho';cases ho';have:=US hpk (mB nt) H;simp[cD,eE,this]
      .cases h1
     .obtain ⟨p,hp,rfl⟩:=tK.1 nt;obtain⟨o1,r1,rfl,this⟩:=M1 ac1 hp H;simp[cD,eE,this]
   .exact hfo.tm k v nt H
  let Inv (L:Act) (I:World) (m:Nat):Prop:=XP L I al∧∃x gb vals als bl,iter (Di rv (tC E call n fid rv b i) sh bs s1.aH (xy (ku b)) (cT ds ow bs fr s1) E.pn al) m x=Z o∧uS sh bs (cT ds ow bs fr s1).1 (cT ds ow bs fr s1).2 s g w x L gb I vals als bl
  have VL:∀(L:Act)(I:World),∃m,(∃k,Inv L I k)->Inv L I m∧∀k,Inv L I k->m<=k:=by
   intro L I;by_cases hex:∃k,Inv L I k
   .obtain ⟨m,hm,hmin⟩:=Sl (λk=>Inv L I k) hex;exact⟨m,λ_=>⟨hm,hmin⟩⟩
   .exact ⟨0,λh=>absurd h hex⟩
  obtain⟨M,hM⟩:∃M:Act->World->Nat,∀L I,(∃k,Inv L I k)->Inv L I (M L I)∧∀k,Inv L I k->M L I<=k:=
   ⟨λL I=>Classical.choose (VL L I),λL I=>Classical.choose_spec (VL L I)⟩
  refine N6 (λL I=>∃k,Inv L I k) M ?_ _ a w (bP _) ⟨n,vD hf hs VZ,x0,_,GD,zo,bl1,agm,Ou⟩;intro L I hI;obtain⟨⟨V0,x,gb,vals,als,bl,hit,hbase⟩,hmin⟩:=hM L I hI;obtain⟨m,hm,o',X,HI⟩:=Sv hit;unfold Di at X;split at X
  .cases X
  rename_i ac4 zG VN;obtain⟨gh,hh0,VR⟩:=hbase.head VX VN;have hh:=hh0.kZ SG V0;generalize kZ zG al ac4=Gk at hh X;have acO:Gk.n=fr.n:=hh.n;have Zn:zG.lo<=zG.aH:=by have h1:zG.lo=s.lo:=hh.lo.trans U.lo;have h2:=hh.aH;have h3:(cT ds ow bs fr s1).2.aH=s1.aH:=rfl;have:=U.aH;omega
  refine wpIn_mono (ih i X B (by rw[acO];exact hn) Zn hh.fr hh.rel) λe M4 K hq=>?_;rcases hq with hF|⟨ex,Nw,s2,g2,h1,h2,h3,h4,h5,h6⟩
  .exact hF.elim
  replace h6:eG ds Gk Nw s2.dr zG.aH:=h6.mono (λk G=>by rw[<-hds];exact eH _ G) (λ_ h=>h)
  rcases af h2 with⟨acR,h2⟩|⟨_,h2⟩;rotate_left
  .cases h2
  have Zt:Nw.df.length=Gk.df.length:=by have:=beq_iff'.1 acR;rw[bK,bK]at this;rw[this,hh.Jy]
  have next:∀{GK:Sh}{y:fU S.A (kR GK)}{s2' s3:bq S}{ZC:Gh}{NW:List Nat},fj zG gh I s2' ZC K->cF ZC (bz Nw) M4 K->eG ds Gk Nw s2'.dr zG.aH->rQ GK bs Nw s2'=Z (y,s3,NW)->
    Ny s1.aH bs s3.wr=W->NW.all (λo=>Nat.ble s1.aH o)=W->s3.dr.all (λo=>Nat.ble s1.aH o)=W->
    ∃V5 C sV MR,uS GK bs (cT ds ow bs fr s1).1 (cT ds ow bs fr s1).2 s g w y M4 V5 K C sV MR∧∀b,ZC.bA b->V5.bA b:=by
   intro GK y s2' s3 ZC NW k1 k2 k3 k4 k5 k6 k7;obtain⟨g3,C,sV,MR,VH⟩:=nI hE.sg (bl0:=bl) k2 k1.rel ⟨hbase.X3.1,λj o b q1 q2=>k1.ext.cg o b (hh.le.cg o b (hbase.X3.2 j o b q1 q2))⟩ k4;exact⟨_,C,sV,MR,H7 SF Jk (λb hb=>⟨by have:=(U.WE b hb).2.1;rw[U.aH];exact this,(U.WE b hb).2.2.1⟩) acw (by rw[U.aH];exact hlo) (λo ho=>(U.owp o ho).2.1) (λo b hb=>⟨by rw[U.aH];exact hs.lt hb,λhm=>by rw[U.owb o hm]at hb;cases hb⟩) HD U.lo U.fl VR hh k1 k2 k3 h3 Zt VH k5 k6 k7,VH.ext.bA⟩
  have leave:∀{GK:Sh}{y:fU S.A (kR GK)}{V5:Gh}{C:List Value}{sV:List fq}{MR:List Nat}{O:bW S}{sty:bq S},Da ds GK=W->uS GK bs (cT ds ow bs fr s1).1 (cT ds ow bs fr s1).2 s g w y M4 V5 K C sV MR->kH GK bs y (cT ds ow bs fr s1).1 (cT ds ow bs fr s1).2=Z (O,sty)->
    ∃gy,cF gy (bz O) M4 K∧(∀b,V5.bA b->gy.bA b)∧fj s g w {sty with wr:=s1.ob.jt (jG (eE ow s1.aH))++(bs++s1.wr),dr:=ow++s1.dr} gy K∧eG ds fr O (ow++s1.dr) s.aH∧O.n=fr.n:=by
   intro GK y V5 C sV MR O sty acv k1 k2;obtain⟨gy,k3,k4⟩:=k1.head VX k2;obtain⟨k5,k6,k7⟩:=MV (ex:=[]) (λ_ h=>by cases h) hs Jk U acv k4 k3;exact⟨gy,k3.fr,k3.le.bA,k5,k6,k7⟩
  cases h1 with
  |o9=>
   rcases af h2 with⟨ac2,h2⟩|⟨_,h2⟩;rotate_left
   .cases h2
   simp only[sP]at h2;split at h2
   .rename_i y s3 NW On;rcases af h2 with⟨R,h2⟩|⟨_,h2⟩;rotate_left
    .cases h2
    simp only[dR]at R;obtain⟨V5,C,sV,MR,k1,_⟩:=next h5 h4 h6 On R.1 R.2.1 R.2.2
    cases h2;rcases HI with⟨y',hy',Zq⟩|⟨rfl,hno⟩
    .cases hy';have hIy:Inv M4 K m:=⟨vD h4 h5.rel ac2,y,V5,C,sV,MR,Zq,k1⟩;refine⟨⟨m,hIy⟩,?_⟩;have:=(hM M4 K ⟨m,hIy⟩).2 m hIy;omega
    .exact absurd rfl (hno y)
   .cases h2
  |ext j=>
   rcases af h2 with⟨hj,h2⟩|⟨_,h2⟩;rotate_left
   .cases h2
   simp only[sP]at h2;split at h2
   .rename_i y s3 NW On;rcases af h2 with⟨R,h2⟩|⟨_,h2⟩;rotate_left
    .cases h2
    simp only[dR]at R;obtain⟨V5,C,sV,MR,k1,_⟩:=next h5 h4 h6 On R.1 R.2.1 R.2.2
    cases h2;rcases HI with⟨y',hy',Zq⟩|⟨rfl,hno⟩
    .cases hy'
    .simp only at z;split at z
     .cases z
     .rename_i O sty SD;obtain⟨gy,l1,_,l2,l3,l4⟩:=leave HD k1 SD;rw[dR]at hj;have Zp:j∈xy (ku b):=by simpa using hj.1
      obtain⟨m1,m2,m3,m4⟩:=kG (s:=sty) l2.rel SG (vD h4 h5.rel hj.2) l1;exact .inr ⟨.ext j,kZ sty al O,_,gy,.ext j,w8 Zp z,m2.trans l4,m1,l2,fix ⟨λk v G H=>by rw[m4 k λhm=>G (SF k hm)];exact l3.tm k v G H,by rw[m3];exact l3.df⟩⟩
   .cases h2
  |ret=>
   simp only at h2;split at h2
   .cases h2
   rename_i vs hvs;split at h2;rotate_left
   .cases h2
   rename_i r' fz owr Sy;split at h2;rotate_left
   .cases h2
   rename_i s2' hfz;simp only[sP]at h2;split at h2
   .rename_i y s3 NW On;rcases af h2 with⟨R,h2⟩|⟨_,h2⟩;rotate_left
    .cases h2
    simp only[dR]at R;obtain⟨aeN,CB,lO⟩:=II h4 hvs;obtain⟨p1,p2,p3⟩:=gk hE.sg h5.rel Sy lO;obtain⟨g3,Om,HG,Ot⟩:=eo fz h5.rel (cY hE.sg _ hfz) p1;have Oo:owr=[]:=oB (AI rv) Sy;obtain⟨alr,Cc,_⟩:=p3 g3 (aG s2') fz Om HG Ot (λo ho=>ho) (λo ho=>by rw[Oo]at ho;cases ho);obtain⟨f1,f2,f3,f4,f5,f6,f7⟩:=ew hfz;have xm:fj s2 g2 K s2' g3 K:=⟨Om,HG.GH _,f1,f2,yw f3.symm,f4,λo _ ho=>f5 o ho,λo ho=>by rw[f7];exact ho⟩;have Zr:cF g3 (bz Nw) M4 K:=h4.ext HG h5.rel.bA;obtain⟨V5,C,sV,MR,k1,k2⟩:=next (h5.trans xm) Zr (by rw[f7];exact h6) On R.1 R.2.1 R.2.2
    cases h2;rcases HI with⟨y',hy',Zq⟩|⟨rfl,hno⟩
    .cases hy'
    .simp only at z;split at z
     .cases z
     .rename_i O sty SD;obtain⟨gy,l1,l0,l2,l3,l4⟩:=leave (og ds sh) k1 SD;obtain⟨m1,m2,m3⟩:=tI (g:=gy) (w:=K) (a:=M4) (fr:=O) Cc (λb hb=>l0 b (k2 b hb)) CB (by rw[l4];exact hn) l1;have hdf:∀(rv:Rv)(r:gl S.A (FU rv))(fr:bW S),(v9 rv r fr).df=fr.df:=by
       intro rv
       induction rv with|nil=>intro _ _;rfl|cons q rv ih=>intro r fr;obtain⟨k,t⟩:=q;exact ih _ _
      refine .inr ⟨.ret,_,_,gy,.ret,z,m2.trans l4,m1,l2,⟨λk v G H=>?_,by rw[hdf];exact l3.df⟩⟩;rw[m3 k (λhm=>G (iS _ hm))];exact(fix l3).tm k v G H
   .cases h2
  |dh t v H=>
   rcases af h2 with⟨hpn,h2⟩|⟨_,h2⟩;rotate_left
   .cases h2
   split at h2;rotate_left
   .cases h2
   rename_i r' fz owr Sy;split at h2;rotate_left
   .cases h2
   rename_i s2' hfz;simp only[sP]at h2;split at h2;rotate_left
   .cases h2
   rename_i y s3 NW On;rcases af h2 with⟨R,h2⟩|⟨_,h2⟩;rotate_left
   .cases h2
   simp only[dR]at R;have lO:PW (aK g2 K) (bn [t]) [v]:=⟨rfl,λj t' v' q1 q2=>by
    cases j with
    |zero=>simp[bn]at q1 q2;subst q1;subst q2;exact H
    |succ j=>simp[bn]at q1⟩
   obtain⟨p1,p2,p3⟩:=gk hE.sg h5.rel Sy lO;obtain⟨g3,Om,HG,Ot⟩:=eo fz h5.rel (cY hE.sg _ hfz) p1;have Oo:owr=[]:=oB (cs:=[.dat S.pt]) rfl Sy;obtain⟨alr,Cc,_⟩:=p3 g3 (aG s2') fz Om HG Ot (λo ho=>ho) (λo ho=>by rw[Oo]at ho;cases ho);obtain⟨f1,f2,f3,f4,f5,f6,f7⟩:=ew hfz;have xm:fj s2 g2 K s2' g3 K:=⟨Om,HG.GH _,f1,f2,yw f3.symm,f4,λo _ ho=>f5 o ho,λo ho=>by rw[f7];exact ho⟩;have Zr:cF g3 (bz Nw) M4 K:=h4.ext HG h5.rel.bA;obtain⟨V5,C,sV,MR,k1,k2⟩:=next (h5.trans xm) Zr (by rw[f7];exact h6) On R.1 R.2.1 R.2.2
   cases h2;rcases HI with⟨y',hy',Zq⟩|⟨rfl,hno⟩
   .cases hy'
   .simp only at z;rcases af z with⟨_,z⟩|⟨_,z⟩;rotate_left
    .cases z
    split at z
    .cases z
    .rename_i O sty SD;obtain⟨gy,l1,l0,l2,l3,l4⟩:=leave (og ds sh) k1 SD;refine .inr ⟨.dh (.ty S.pt r'.1),O,_,gy,.dh _ v ?_,z,l4,l1,l2,fix l3⟩;cases Cc with|@dat _ _ x h v vs al hd hr=>exact oc (hd.le λb hb=>l0 b (k2 b hb))
 |exit j=>intro i ω Q r fr s h B hn hlo g a w hf hs;exact wpIn_exit (.inr ⟨_,fr,s,g,.ext j,h,rfl,hf,fj.refl hs,eG.refl _ _ _ _⟩)
 |ret=>intro i ω Q r fr s h B hn hlo g a w hf hs;exact wpIn_ret (.inr ⟨_,fr,s,g,.ret,h,rfl,hf,fj.refl hs,eG.refl _ _ _ _⟩)
 |skip=>intro i ω Q r fr s h B hn hlo g a w hf hs;exact wpIn_skip (.inr ⟨_,fr,s,g,.o9,h,rfl,hf,fj.refl hs,eG.refl _ _ _ _⟩)
 |label j=>intro i ω Q r fr s h B hn hlo g a w hf hs;exact wpIn_label (.inr ⟨_,fr,s,g,.o9,h,rfl,hf,fj.refl hs,eG.refl _ _ _ _⟩)
 |scope b ih=>
  intro i ω Q r fr s h B hn hlo g a w hf hs;have hr0:rr=Y:=by cases rr with|none=>rfl|some l=>have:=B (by simp);simp[Nt]at this
  subst hr0;simp only[tC]at h;refine wpIn_wide.2 (wp_scope_straight (wp_mono (wpIn_wide.1 (ih i h (λh=>absurd rfl h) hn hlo hf hs)) λe L I hq=>?_));rcases hq with hF|⟨ex,u,s',g',h1,h2⟩
  .exact hF.elim
  .cases h1 with|o9=>exact .inr ⟨_,u,s',g',.o9,h2⟩|ext j=>exact .inr ⟨_,u,s',g',.ext j,h2⟩|ret=>exact .inr ⟨_,u,s',g',.ret,h2⟩|dh t v H=>exact .inr ⟨_,u,s',g',.dh t v H,h2⟩
 |rangeFunc gv ps asg body _ _=>
  intro i ω Q r fr s h B hn hlo g a w hf hs;have hr0:rr=Y:=by cases rr with|none=>rfl|some l=>have:=B (by simp);simp[Nt]at this
  subst hr0;exact KO hE Bt n fid rv h hn hf hs
 |_=>intro i ω Q r fr s h;simp[tC]at h
end
section
def LF:∀t:T,eu (λ_=>J) t=J:=by
 intro t
 induction t using T.rec (motive_2:=λl=>jJ (λ_=>J) l=J)with|fn f a b d g=>simp[eu,d,g]|cR t v e=>simp[eu,e]|agg j e=>simp[eu,e]|gm j e=>simp[eu,e]|gd c v e=>simp[eu,e]|nil=>rfl|cons a l d i=>simp[jJ,d,i]|_=>simp[eu]
def rJ(b:fh S){E:gA}(d:O8 S E){s:bq S}{fr:bW S}:∀{l:List ResultVar}{vs:List (V S)},j4 E s fr l=Z vs->∃p,j5 E.E (aG s) (bz fr) l=Z (p,bn vs)∧p
 |[],vs,h=>by simp only[j4,bg]at h;subst h;exact⟨True,rfl,trivial⟩
 | .tmp t::l,vs,h=>by
  simp only[j4]at h;split at h
  .rename_i x r h1 h2;simp only[bg]at h;subst h;obtain⟨p,e,hp⟩:=rJ b d h2;exact⟨p,by simp only[j5,bQ,h1,dX,e,bn],hp⟩
  .cases h
 | .cell a t::l,vs,h=>by
  simp only[j4]at h;split at h
  .rename_i i x hi g;split at h
   .rename_i c y s' r j h2;rcases af h with⟨k,h⟩|⟨_,h⟩
    .simp only[bg]at h;subst h;obtain⟨rfl,q,m,v⟩:=Hw b (λu w=>d.row _ _ _ hi w) j k;obtain⟨p,e,hp⟩:=rJ b d h2;exact⟨q∧p,by simp only[j5,hi,bQ,g,dX,m,e,bn],v,hp⟩
    .cases h
   .cases h
  .cases h
def Vb:∀l:List (V S),low (FR l)=abE (bn l)
 |[]=>rfl
 |[_]=>rfl
 |_::_::_=>rfl
def Bs:∀(l:List (V S))(k:Nat)(t:Tr (V S)),(nM l k t).map low=Ad (bn l) k (t.map low)
 |[],_,_=>rfl
 |a::l,k,t=>by simp only[nM,bn,Ad];rw[Bs l,Tr.kV]
variable {E:fY S}{s s' s0:bq S}{fr:bW S}{g g' g0:Gh}{w w' w0:World}{fn:Func}{call:iC S}{m:Nat}{st:Bool->List Frame}{R:Ending->World->Prop}
def fj.GH(hs:bh g (aG s) w)(h:fj {s with lo:=s.aH} g w s' g' w'):cM [] s g w {s' with lo:=s.lo} g' w':=by have j:sZ g.bA w w':=λb i=>h.ext.heap b (hs.bA b i) (λo _ l=>l.1 i);refine⟨⟨h.rel.aH,h.rel.ai,h.rel.box,h.rel.arr,h.rel.bA,h.rel.lV⟩,⟨λo b e=>h.ext.cg o b e,λo e x _ k=>h.ext.arr o e x (hs.lt' k) k,h.ext.bA,h.ext.size,h.ext.heap,h.ext.own,h.ext.tZ,h.ext.os,h.ext.output⟩,h.fl,rfl,h.aH,h.uW,h.same,λt v m _=>?_,λo d=>(by cases d),h.Gq,λo d=>(by cases d)⟩;exact m.on (p:=λ_=>J) ⟨λo b _ e=>h.ext.cg o b e,λo e x _ k=>h.ext.arr o e x (hs.lt' k) k,h.ext.bA⟩ j (LF t)
def Ac{n:Nat}(hn:n<bB){args:List (V S)}{vs:Array Value}(hl:args.length<=n)(i:PW (aK g w) (bn args) vs.toList) :
  cF g (bz {n:=n,tm:=nM args 0 .nil}) {tmps:=vs++Array.replicate (n-vs.size) undef,defers:=[]} w:=by
 have k:(bn args).length=vs.size:=by simpa using i.1
 have l:args.length=vs.size:=by rw[<-k,eS]
 refine⟨by simp[bz];omega,.nil,λj t d=>?_⟩;have e:(bz {n:=n,tm:=nM args 0 .nil}).get j=(Ad (bn args) 0 .nil).get j:=by show((nM args 0 .nil).map low).get j=_;rw[Bs];rfl
 rw[e,Ei _ _ _ (by omega)]at d;simp only[BP,jl,true_and,Nat.sub_zero]at d;split at d
 .rename_i m;have b:j<vs.size:=by omega
  refine⟨vs[j],?_,i.2 j t _ d (by simp[b])⟩;rw[Qg,bJ b];exact ov b
 .rw[Tr.get_nil]at d;cases d
def wj(b:eM E){a:Act}(hf:cF g (bz fr) a w)(hs:bh g (aG s) w){l:List (V S)}(h:j4 E.T s fr fn.results.toList=Z l) :
  ∃v,(results fn a.tmps).run E.T.E.P w=.ok v w∧aK g w (low (FR l)) v:=by
 obtain⟨p,e,hp⟩:=rJ b.sg b.ty h;obtain⟨v,d,i⟩:=KJ b.TG hf hs e hp;exact⟨v,d,by rw[Vb];exact i⟩
def cM.trans{s s' d:bq S}{g g' e:Gh}{w w' i:World}(h:cM [] s g w s' g' w')(k:cM [] s' g' w' d e i):cM [] s g w d e i where
 rel:=k.rel
 ext:=h.ext.trans (h.fl▸h.lo▸k.ext)
 fl:=k.fl.trans h.fl
 lo:=k.lo.trans h.lo
 aH:=fC h.aH k.aH
 uW:=λo b=>k.uW o (h.uW o b)
 same:=λo l b=>(k.same o (dy l h.aH) b).trans (h.same o l λj=>b (k.uW o j))
 tr:=λt v m j=>k.tr t v (h.tr t v m j) j
 oww:=λo b=>by cases b
 Gq:=λo b=>k.Gq o (h.Gq o b)
 owd:=λo b=>by cases b
def UR(g:Gh)(w:World):Option (V S)->FrameMode->Prop
 |none,u=>u=.returning
 |some t,u=>∃v,u=.panicking [{v,recovered:=J}]∧aK g w (low t) v
structure aa9(g:Gh)(s:bq S)(w:World)(pv:Option (V S))(st:Bool->List Frame)(vp:Value):Prop where
 rel:∀g' s' w',fj s g w s' g' w'->aK g' w' (low (aeP pv)) vp
 rcv:(pv=Y∧recoverD (st J)=Y∧vp=.nilIface)∨(pv.isSome=W∧recoverD (st J)=Z (vp,st W))
def QRV(s:bq S)(g:Gh)(w:World)(m:Nat)(st:Bool->List Frame){ω:Type}(Q:Bool->wO S->bW S->bq S->Option ω)(r:ω)(e:Exit)(a:Act)(cs:List Frame)(w':World):Prop:=
 False∨∃b ex fr' s' g',cs=st b∧Pr g' w' ex e∧Q b ex fr' s'=Z r∧fr'.n=m∧cF g' (bz fr') a w'∧fj s g w s' g' w'
def Vt{o:Oper}(h:isRec o=W):o.guard=Y∧∃c,o.op=.call c∧c.callee=.builtin .recover:=by
 unfold isRec at h;split at h
 .rename_i c d b;split at h
  .rename_i e;exact⟨d,c,b,e⟩
  .cases h
 .cases h
def rz(l:eM E)(b:fT E.T.E.P call)(d:qo E call)(n:Nat)(fid:FuncId)(rv:Rv)(hlo:s0.lo<=s0.aH)(u:m<=bB)(j:Bool)
  (c:Code) (i:Nat) {ω:Type} {Q:Bool->wO S->bW S->bq S->Option ω} {r:ω} {fr:bW S} {s:bq S} (h:tC E call n fid rv c i (Q j) fr s=Z r) (hn:fr.n=m) {g:Gh} {a:Act} {w:World} (hs:fj s0 g0 w0 s g w) (hf:cF g (bz fr) a w) :
  c.wpS E.T.E.P (QRV s0 g0 w0 m st Q r) a (st j) w:=by
 refine wpS_of_wp (wp_mono (wpIn_wide.1 (qW (rr:=Y) l b d n fid rv c i h (λh=>absurd rfl h) (by omega) ?_ hf hs.rel)) λe v w' p=>?_)
 .have:=hs.aH;rw[hs.lo];omega
 rcases p with q|⟨t,k,s',g',h1,h2,h3,h4,h5,h6⟩
 .exact q.elim
 .exact .inr ⟨j,t,k,s',g',rfl,h1,h2,h3.trans hn,h4,hs.trans h5⟩
def SU(X:eM E)(p:fT E.T.E.P call)(q:qo E call)(n:Nat)(pv:Option (V S))(fid:FuncId)(rv:Rv)(hlo:s0.lo<=s0.aH)(hm:m<=bB){vp:Value}
  (K:aa9 g0 s0 w0 pv st vp):∀(c:Code)(i:Nat){ω:Type}{Q:Bool->wO S->bW S->bq S->Option ω}{r:ω}{fr:bW S}{s:bq S},evR E call n pv fid rv c i Q fr s=Z r->fr.n=m->
  ∀{g:Gh}{a:Act}{w:World},fj s0 g0 w0 s g w->cF g (bz fr) a w->c.wpS E.T.E.P (QRV s0 g0 w0 m st Q r) a (st J) w:=by
 intro c
 induction c with
 |seq x y ihx ihy=>
  intro i ω Q r fr s h U g a w C hf;simp only[evR]at h;refine wpS_seq λb k hb hr=>?_;obtain⟨e,M,cs',w',hq,B⟩:=ihx i h U C hf b k hb hr;refine⟨e,M,cs',w',?_,B⟩;rcases hq with hF|⟨d,ex,z,s',g',h0,h1,h2,h3,h4,h5⟩
  .exact hF.elim
  .cases h1 with|o9=>subst h0;exact rz X p q n fid rv hlo hm d y i h2 h3 h5 h4|ext j=>exact .inr ⟨d,_,z,s',g',h0,.ext j,h2,h3,h4,h5⟩|ret=>exact .inr ⟨d,_,z,s',g',h0,.ret,h2,h3,h4,h5⟩|dh t v hv=>exact .inr ⟨d,_,z,s',g',h0,.dh t v hv,h2,h3,h4,h5⟩
 |region id u draw=>
  intro i ω Q r fr s h U g a w C hf;cases draw with
  |true=>exact rz X p q n fid rv hlo hm J _ i h U C hf
  |false=>
   simp only[evR]at h;split at h;rotate_left
   .cases h
   rename_i o l G;rcases af h with⟨hr,h2⟩|⟨_,h2⟩;rotate_left
   .exact rz X p q n fid rv hlo hm J _ i h2 U C hf
   rcases af h2 with⟨hd,h3⟩|⟨_,h3⟩;rotate_left
   .cases h3
   obtain⟨hg,c,hop,Jl⟩:=Vt hr;rw[<-G]at h3;have ho:u[0]?=Z o:=by have:=mJ (λl=>l[0]?) G;simpa using this
   have hsz:u.size=l.length+1:=by have:=mJ List.length G;simpa using this
   have hw:Region.wanted o (yielded u a.tmps)=W:=by simp[Region.wanted,hg]
   have L:(execOp a.eval o).run E.T.E.P w=.ok .recover w:=by simp only[execOp,hop,resolve,Jl,Sem.run_bind,Sem.run_pure,Result.andThen_ok,invoke];simp[builtin]
   have Cc:=K.rel _ _ _ C;obtain⟨k1,k2⟩:=rN hf hd (by omega) Cc;have key:∃d,d=pv.isSome∧recoverD (st J)=(if d then Z (vp,st W)else Y)∧(d=J->vp=.nilIface):=by
    rcases K.rcv with⟨e1,e2,e3⟩|⟨e1,e2⟩
    .exact ⟨J,by rw[e1];rfl,by simpa using e2,λ_=>e3⟩
    .exact ⟨W,e1.symm,by simpa using e2,λh=>by cases h⟩
   obtain⟨d,alI,hrd,Oq⟩:=key;rw[<-alI]at h3;have hwp:uH Y E.T.E.P u (λe M w'=>QRV s0 g0 w0 m st Q r e M (st d) w') (List.range' 1 l.length) (a.put o.dst vp) w:=by
    refine Bx X p (rr:=Y) (λh=>absurd rfl h) l 1 (by rw[G];rfl) (by rw[k2];omega) h3 k1 C.rel (λz s' g' M w' q1 q2 q3 q4 _=>.inr ⟨d,.o9,z,s',g',rfl,.o9,q1,by omega,q3,C.trans q4⟩)
     (λz t s' g' M v w' q1 q2 q3 q4 _ q5=>.inr ⟨d,.dh t,z,s',g',rfl,.dh t v q5,q1,by omega,q3,C.trans q4⟩)
   intro b k hb O;have H:List.range u.size=0::List.range' 1 l.length:=by rw[List.range_eq_range',hsz,List.range'_succ]
   have hgo:=stepG_op (P:=E.T.E.P) (b:=b) (k:=k) (cs:=st J) (w:=w) (rest:=List.range' 1 l.length) ho hw;have amw:∀v,(b.at a (.inRegion u (0::List.range' 1 l.length)::k)).finish v=b.at (a.put o.dst v) (.inRegion u (List.range' 1 l.length)::k):=by intro v;rw[Frame.finish_at,ho];rfl
   have hk:(b.at a (.inRegion u (0::List.range' 1 l.length)::k)).kind=.deferred:=hb;have I:=tryRecover_deferred hk (st J);obtain⟨e,M,w',hq,R⟩:=lY _ _ _ hwp b k (st d) O;have B:=(arrivesIn_iff (λ_ _=>stepsIn_wide) O).1 R;rw[Frame.atR_of_none O]at B;refine⟨e,M,st d,w',hq,.of_steps (.one step_region) ?_⟩;rw[H];refine .of_steps (.one (step_lone_go ?_)) B;rw[hgo,<-amw];simp only[Frame.at]at I ⊢;rw[hrd]at I;cases d with|true=>simp[stepG.apply,L,I]|false=>have:=Oq rfl;subst this;simp[stepG.apply,L,I]
 |_=>intro i ω Q r fr s h U g a w C hf;exact rz X p q n fid rv hlo hm J _ i h U C hf
def Kq:FrameMode->Value
 | .panicking (p::_)=>p.v
 |_=>.nilIface
def TV:FrameMode->FrameMode
 | .panicking (p::_)=>.panicking [{v:=p.v,recovered:=W}]
 |m=>m
def Mo(hE:eM E)(X:fT E.T.E.P call)(VV:qo E call)(n:Nat){C:Option (V S)}{d:A2 S}{ω:Type}{k:Bool->bq S->Option ω}{r:ω}(h:Wc E call n C d s k=Z r)
  {g:Gh} {w:World} (hs:bh g (aG s) w) {e:Deferred} (hd:uQ g w (qQ d) e) {u:FrameMode} (i:UR g w C u) :
  u≠.run∧((∃b w',e.target=.collected b∧(Instr.takeDeferred b).run E.T.E.P w=.ok [] w'∧∃s',k J s'=Z r∧UR g w' C u∧cM [] s g w s' g w')∨∃fv cap f args,e.target=.fn fv cap∧(invoke e.target e.args).run E.T.E.P w=.ok (.enter f args) w∧CallsD E.T.E.P f args u w λ
   | .returned _,O,w'=>∃p s' g',k p s'=Z r∧UR g' w' (bif p then Y else C) (settle O)∧cM [] s g w s' g' w'
   | .panicked _,_,_=>False
   | .outgrown,_,_=>False):=by
 have hrun:u≠.run:=by cases C with|none=>rw[show u=.returning from i];simp|some t=>obtain⟨v,rfl,_⟩:=i;simp
 refine⟨hrun,?_⟩;unfold Wc at h;split at h;rotate_left
 .rename_i o
  left
  simp only[qQ]at hd;cases hd with
  |mark _ b hb=>
  split at h;rotate_left
  .cases h
  rename_i ho;rcases af h with⟨hfl,h2⟩|⟨_,h2⟩;rotate_left
  .cases h2
  rw[dR]at hfl;have ho':(aG s).ob.get o=Z .zH:=by rw[aY,ho];rfl
  obtain⟨x,hx,hr⟩:=(hs.box o b hb).2.2 _ ho';cases hr with
  |zH=>
  obtain⟨h3,he⟩:=hs.aiT (w':=w.putObj b (.deferred Y)) hb ho' rfl (fQ hfl.1) World.putObj_size (λb' hb'=>World.putObj_heap_other hb') rfl rfl;have hlt:o<bB:=fQ hfl.2;have G:o+1<2 ^ aJ:=by unfold aJ;unfold bB at hlt;omega
  have q:cM [] s g w {s with ob:=s.ob.del aJ o,wr:=o::s.wr} g (w.putObj b (.deferred Y)):=by
   refine cM.lM hs (h3.V4 rfl λk=>?_) he rfl rfl (bP _) ⟨λ_ h=>gJ _ h,λk _ hk=>?_,rfl⟩
   .show (Tr.map cQ (s.ob.del aJ o)).get k=((aG s).ob.del aJ o).get k;rw[Tr.get_map,Tr.r8 _ _ _ _ G,Tr.r8 _ _ _ _ G,aY];split<;>rfl
   .exact (Tr.r8 _ _ _ _ G).trans (br λe=>hk (by rw[e];exact ez))
  refine⟨b,_,rfl,run_takeDeferred hx,_,h2,?_,q⟩;cases C with|none=>exact i|some t=>obtain⟨v,i,ht⟩:=i;exact⟨v,i,q.tr _ _ ht (n4 _)⟩
 .cases h
 rename_i fv args
 right
 split at h
 .cases h
 rename_i f H Jl;split at h
 .cases h
 rename_i fn hfn;split at h
 .cases h
 rename_i c hc;rcases af h with⟨hb,h2⟩|⟨_,h2⟩;rotate_left
 .cases h2
 clear h;rw[zX]at hb;have z:=pQ Jl;unfold vA at z;split at z;rotate_left
 .cases z
 rename_i f' first cap LV
 simp only[bg,bC]at z;obtain⟨rfl,L⟩:=z;simp only[qQ]at hd;cases hd with
 |call _ _ fvn xa xc I h3 h4 h5=>
 rw[LV]at h3;cases h3 with
 |fn _ _ _ _ _ l1 l2 r1 r2=>
 have hfs:=hE.TG.TJ _ _ hfn;have VS:mj E.T.E.P f':=⟨fn,hfs,by rw[hc];rfl,hE.name _ _ hfn⟩;refine⟨_,_,f',xa++I++xc,rfl,?_,?_⟩
 .simp only[invoke];exact u6 VS _
 have lO:PW (aK g w) (bn H) (xa++I++xc).toList:=by rw[<-L];simp only[FZ];exact PW.append (PW.append ⟨by simpa using l1,λj x y h1 h2=>r1 j x y h1 (by simpa using h2)⟩ ⟨by simpa using h4,λj x y h1 h2=>h5 j x y h1 (by simpa using h2)⟩) ⟨by simpa using l2,λj x y h1 h2=>r2 j x y h1 (by simpa using h2)⟩
 have Jm:H.length<=fn.ntmps:=by have:=fQ hb.1;rwa [bK]at this
 have qg:fn.ntmps<bB:=fQ hb.2;have hf0:=Ac (n:=fn.ntmps) qg Jm lO;have hs0:bh g (aG {s with lo:=s.aH}) w:=⟨hs.aH,hs.ai,hs.box,hs.arr,hs.bA,hs.lV⟩;refine callsD_of_wpS hfs hc λM R hcu=>?_
 let st:Bool->List Frame:=λp=>(if p then{M with mode:=TV u}else{M with mode:=u})::R
 have alz:st J=M::R:=by show{M with mode:=u}::R=M::R;rw[<-hcu]
 have alJ:aa9 g {s with lo:=s.aH} w C st (Kq u):=by
  cases C with
  |none=>
   have i:u=.returning:=i;refine⟨λg' s' w' _=>?_,.inl ⟨rfl,?_,?_⟩⟩
   .show aK g' w' (low (.dat (.lit .nilIface))) (Kq u);simp only[Kq,i];exact .sym _ _ (.lit _)
   .show recoverD ({M with mode:=u}::R)=Y;simp only[recoverD,i]
   .simp only[Kq,i]
  |some t=>
   obtain⟨v,i,ht⟩:=i;refine⟨λg' s' w' q=>?_,.inr ⟨rfl,?_⟩⟩
   .show aK g' w' (low t) (Kq u);simp only[Kq,i];exact(fj.GH hs q).tr _ _ ht (n4 _)
   .show recoverD ({M with mode:=u}::R)=Z (Kq u,{M with mode:=TV u}::R);simp only[recoverD,i,Kq,TV]
 have hw:=SU hE X VV n C f' _ (s0:={s with lo:=s.aH}) (g0:=g) (w0:=w) (bP _) (m:=fn.ntmps) (Nat.le_of_lt qg) (st:=st) alJ c 0 h2 rfl (fj.refl hs0) hf0;rw[alz]at hw;intro b kk hb' hro;obtain⟨e,a',cs',w',hq,Jn⟩:=hw b kk hb' hro;refine⟨e,a',cs',w',?_,Jn⟩;rcases hq with hF|⟨p,ex,fr',s',g',k0,k1,K,k3,k4,k5⟩
 .exact hF.elim
 have q:=fj.GH hs k5;dsimp only at K;split at K;rotate_left
 .cases K
 rename_i hdf;have U:a'.defers=[]:=by have:=k4.df;rw[show(bz fr').df=[]from by simp only[bz,hdf,GR]]at this;generalize a'.defers=m at this;cases this;rfl
 have Cb:∃O,cs'={M with mode:=O}::R∧UR g' w' (bif p then Y else C) (settle O):=by
  cases p with
  |false=>
   refine⟨u,k0,?_⟩;cases C with|none=>have i:u=.returning:=i;rw[i];rfl|some t=>obtain⟨v,i,ht⟩:=i;rw[i];exact⟨v,rfl,q.tr _ _ ht (n4 _)⟩
  |true=>
   refine⟨TV u,k0,?_⟩;show settle (TV u)=.returning;cases C with|none=>have i:u=.returning:=i;rw[i];rfl|some t=>obtain⟨v,i,ht⟩:=i;rw[i];rfl
 obtain⟨O,hcs,hur⟩:=Cb;have fin:(match j4 E.T s' fr' fn.results.toList with|some _=>k p {s' with lo:=s.lo}|none=>Y)=Z r->∃v,(results fn a'.tmps).run E.T.E.P w'=.ok v w'∧
   ∃p s' g',k p s'=Z r∧UR g' w' (bif p then Y else C) (settle O)∧cM [] s g w s' g' w':=by
  intro K;split at K;rotate_left
  .cases K
  rename_i l hr;obtain⟨v,hv,_⟩:=wj hE k4 k5.rel hr;exact⟨v,hv,p,_,g',K,hur,q⟩
 cases k1 with
 |o9=>obtain⟨v,hv,h⟩:=fin K;exact⟨U,O,hcs,v,hv,h⟩
 |ret=>obtain⟨v,hv,h⟩:=fin K;exact⟨U,O,hcs,v,hv,h⟩
 |ext j=>cases K
 |dh t v hv=>cases K
def Mm(L:eM E)(m:fT E.T.E.P call)(p:qo E call)(n:Nat){tmps:Array Value}{ω:Type}{k:Option (V S)->bq S->Option ω}{r:ω}
  (M:∀j s' g' w' u,k j s'=Z r->UR g' w' j u->cM [] s0 g0 w0 s' g' w'->nV E.T.E.P fn tmps R [] u w'):∀(l:List (A2 S))(j:Option (V S))(s:bq S),EA E call n l j s k=Z r->
  ∀(g:Gh)(w:World)(ds:List Deferred)(u:FrameMode),jW g w (l.map qQ) ds->UR g w j u->cM [] s0 g0 w0 s g w->nV E.T.E.P fn tmps R ds u w:=by
 intro l
 induction l with
 |nil=>intro j s h g w ds u y B i;cases y;exact M j s g w u h B i
 |cons d l K=>
  intro j s h g w ds u y B i;simp only[lI]at y;cases y with
  | @cons _ e _ ds y z=>
  simp only[EA]at h;obtain⟨h1,h⟩:=Mo L m p n h i.rel y B;rcases h with⟨b,w',h2,h3,s',C,G,q⟩|⟨O,cap,f,args,h2,h3,h4⟩
  .exact ⟨h1,.inl ⟨b,w',h2,h3,K _ s' C g w' ds u (z.imp (λt v z=>q.tr t v z (n4 _)) λo b H=>q.ext.cg o b H) G (i.trans q)⟩⟩
  refine⟨h1,.inr ⟨O,cap,f,args,h2,h3,h4.mono λe U w' I=>?_⟩⟩;cases e with
  |returned v=>obtain⟨X,s',g',C,G,q⟩:=I;refine K _ s' C g' w' ds (settle U) (z.imp (λt v z=>q.tr t v z (n4 _)) λo b H=>q.ext.cg o b H) G (i.trans q)
  |panicked ch=>exact I.elim
  |outgrown=>exact I.elim
def Bz(G:eM E)(j:fT E.T.E.P call)(m:qo E call)(n:Nat){ω:Type}{k kp:V S->bq S->Option ω}{r:ω}{ex:wO S}
  (h:Wb E call n fn.results.toList k kp ex fr s=Z r) {g:Gh} {w:World} {e:Exit} {a:Act} (H:Pr g w ex e) (hf:cF g (bz fr) a w) (hs:bh g (aG s) w)
  (I:∀t s' g' v w',k t s'=Z r->aK g' w' (low t) v->cM [] s g w s' g' w'->R (.returned v) w')
  (y:∀t s' g' v w',kp t s'=Z r->aK g' w' (low t) v->cM [] s g w s' g' w'->R (.panicked [{v,recovered:=J}]) w'):aa4 E.T.E.P fn R e a w:=by
 have p:∀(q:Option (V S))(u:FrameMode),EA E call n fr.df q s (Ml E.T fn.results.toList fr k kp)=Z r->UR g w q u->nV E.T.E.P fn a.tmps R a.defers u w:=by
  intro q u h d;refine Mm G j m n (s0:=s) (g0:=g) (w0:=w) (λq s' g' w' u h d b=>?_) fr.df q s h g w a.defers u hf.df d (cM.refl hs);have z:cF g' (bz fr) a w':=mA (ow:=[]) hf b;cases q with
  |none=>
   have d:u=.returning:=d;subst d;simp only[Ml]at h;split at h;rotate_left
   .cases h
   rename_i l K;obtain⟨v,B,C⟩:=wj G z b.rel K;exact⟨v,B,I _ _ g' v w' h C b⟩
  |some t=>obtain⟨v,d,C⟩:=d;subst d;exact y t s' g' v w' h C b
 cases H with
 |o9=>exact p Y .returning h rfl
 |ret=>exact p Y .returning h rfl
 |ext i=>cases h
 |dh t v B=>exact p (Z t) _ h ⟨v,rfl,B⟩
end
section
def A9{g:Gh}{w:World}{n:Nat}(hn:n<=bB):∀(ps:List Nat)(args:List (V S))(vs:List Value)(tm:Tr (V S))(tmps:Array Value),(∀k∈ps,k<n)->PW (aK g w) (bn args) vs->cF g (bz {n:=n,tm:=tm}) {tmps:=tmps,defers:=[]} w->
  cF g (bz {n:=n,tm:=NJ ps args tm}) {tmps:=(ps.zip vs).foldl (λt p=>t.setIfInBounds p.1 p.2) tmps,defers:=[]} w
 |[],_,_,_,_,_,_,h=>h
 |_::_,[],[],_,_,_,_,h=>h
 |_::_,[],_::_,_,_,_,hp,_=>by have:=hp.1;simp[bn]at this
 |_::_,_::_,[],_,_,_,hp,_=>by have:=hp.1;simp[bn]at this
 |k::ps,a::args,v::vs,tm,tmps,d,hp,h=>by have e:aK g w (low a) v:=hp.2 0 _ _ rfl rfl;have b:PW (aK g w) (bn args) vs:=⟨by have:=hp.1;simpa[bn]using this,λj t u h1 h2=>hp.2 (j+1) t u (by simpa[bn]using h1) (by simpa using h2)⟩;have i:=rN (dst:=Z k) (fr:={n:=n,tm:=tm}) h (by simp only[fV];exact Ga (d k ez)) hn e;exact A9 hn ps args vs _ _ (λj l=>d j (gJ _ l)) b i.1
def Ri(ps:Array Tmp)(vs:Array Value)(tmps:Array Value):(ps.zip vs).foldl (λtmps(t,a)=>tmps.setIfInBounds t a) tmps=(ps.toList.zip vs.toList).foldl (λt p=>t.setIfInBounds p.1 p.2) tmps:=by rw[<-Array.foldl_toList,Array.toList_zip]
variable {E:fY S}
def IL(hE:eM E){call:iC S}(u:fT E.T.E.P call)(y:qo E call)(n:Nat){o:Nat}{args:List (V S)}{s:bq S}{ω:Type}{k kp:V S->bq S->Option ω}{r:ω}
  (h:NL E call n o args s k=Z r) {g:Gh} {w:World} {vs:Array Value} {b:Nat} (hs:bh g (aG s) w) (lO:PW (aK g w) (bn args) vs.toList) (hb:g.cg o=Z b) :
  ∃l:Loop,w.heap[b]?=Z (.loop l)∧vs.size=l.params.size∧∀rr n,RoundIn (WR rr) n E.T.E.P b l.fn ((l.params.zip vs).foldl (λtmps(t,a)=>tmps.setIfInBounds t a) l.tmps) l.assign l.body w (vG s g w k kp r):=by
 unfold NL at h;split at h;rotate_left
 .cases h
 rename_i l ho;rcases af h with⟨hc,h1⟩|⟨_,h1⟩;rotate_left
 .cases h1
 clear h;simp only[dR,eA]at hc;obtain⟨hrd,hlen,hpar,z,hra,hrb,U⟩:=hc;obtain⟨hst,hpe⟩:=wY hrd;have U:s.fl<=o:=fQ U;have z:l.fr.n<=bB:=fQ z;have ho0:(aG s).ob.get o=Z (.lp (wq l)):=by rw[aY,ho];rfl
 obtain⟨x,hx,hr⟩:=(hs.box o b hb).2.2 _ ho0;cases hr with
 |lp _ L q1 q2 q4 q5 q6 q8 q9=>
 have hsz:vs.size=L.params.size:=by
  have h1:=beq_iff'.1 hlen;rw[bK,bK]at h1;have h2:=lO.1;rw[eS]at h2;have h3:L.params.toList.length=l.params.length:=by rw[q4];rfl
  simp at h2 h3;omega
 refine⟨L,hx,hsz,λrr n'=>?_⟩;have hf0:cF g (bz {n:=l.fr.n,tm:=l.fr.tm}) {tmps:=L.tmps,defers:=[]} w:=⟨q8,.nil,q9⟩;have XX:=A9 z l.params args vs.toList l.fr.tm L.tmps (λk hk=>fQ (hpar k hk)) lO hf0;rw[Ri,q4];have hs0:bh g (aG {s with lo:=s.aH}) w:=⟨hs.aH,hs.ai,hs.box,hs.arr,hs.bA,hs.lV⟩;have q5:L.assign=l.assign:=q5;have q6:L.body=l.body:=q6;rw[q5,q6];refine abM ?_;refine wpIn_mono (qW (rr:=Z b) hE u y n l.fid [] l.assign 0 h1 (λ_=>hra) z (bP _) XX hs0) λe a' w1 hq=>?_;rcases hq with hF|⟨ex,fr1,i,g1,p1,G,p3,p4,d,_⟩
 .exact hF.elim
 cases p1 with
 |ext j=>cases G
 |ret=>cases G
 |dh t v hv=>cases G
 |o9=>
 simp only[aax]at G;split at G;rotate_left
 .cases G
 rename_i H SA;rcases af G with⟨alK,X⟩|⟨_,X⟩;rotate_left
 .cases X
 clear G;obtain⟨B,I⟩:=wY alK;have C:=d.ext.cg _ _ hb;have K:(aG i).ob.get o=Z (.lp (wq H)):=by rw[aY,SA];rfl
 obtain⟨x1,hx1,hr1⟩:=(d.rel.box o b C).2.2 _ K;cases hr1 with
 |lp _ L1 a1 a2 a4 a5 a6 a8 a9=>
 have M:i.fl<=o:=by rw[d.fl];exact U
 obtain⟨Zh,he2⟩:=d.rel.setObj (w':=w1.putObj b (.loop {L1 with state:=.busy})) C K rfl M (x':=.loop {L1 with state:=.busy}) (XS:=.lp (wq {H with st:=.busy})) (.lp _ _ rfl a2 a4 a5 a6 a8 a9)
  World.putObj_size (λb' hb'=>World.putObj_heap_other hb') (World.putObj_heap_same (d.rel.box o b C).2.1) rfl rfl
 have agf:aG {i with ob:=i.ob.set aJ o (.lp {H with st:=.busy})}={aG i with ob:=(aG i).ob.set aJ o (cQ (.lp {H with st:=.busy}))}:=eY i _ _ i.wr;have alB:bh g1 (aG {i with ob:=i.ob.set aJ o (.lp {H with st:=.busy})}) (w1.putObj b (.loop {L1 with state:=.busy})):=by rw[agf];exact Zh
 refine⟨_,run_beginRound hx1 (by rw[a1];exact B),?_⟩;have ami:i.lo<=i.aH:=by rw[d.lo];exact d.aH
 refine wpIn_mono (qW (rr:=Z b) hE u y n l.fid [] l.body 0 X (λ_=>hrb) (by rw[p3];exact z) ami (p4.ext he2 d.rel.bA) alB) λe a2 w2 hq=>?_;rcases hq with hF|⟨ex,Nw,q,g2,c1,c2,c3,c4,p,_⟩
 .exact hF.elim
 cases c1 with
 |ext j=>cases c2
 |ret=>cases c2
 |dh t v hv=>cases c2
 |o9=>
 simp only[aay]at c2;split at c2;rotate_left
 .cases c2
 rename_i l2 ho2;have qg:=p.ext.cg _ _ C;have O:(aG q).ob.get o=Z (.lp (wq l2)):=by rw[aY,ho2];rfl
 obtain⟨x2,hx2,hr2⟩:=(p.rel.box o b qg).2.2 _ O;cases hr2 with
 |lp _ L2 d1 d2 d4 d5 d6 d8 d9=>
 have VQ:q.fl<=o:=by rw[p.fl];exact M
 obtain⟨Om,HG⟩:=p.rel.setObj (w':=w2.putObj b (.loop {L2 with state:=.ready,pending:=Y})) qg O rfl VQ (x':=.loop {L2 with state:=.ready,pending:=Y}) (XS:=.lp (wq {l2 with st:=.ready,oA:=Y})) (.lp _ _ rfl rfl d4 d5 d6 d8 d9)
  World.putObj_size (λb' hb'=>World.putObj_heap_other hb') (World.putObj_heap_same (p.rel.box o b qg).2.1) rfl rfl
 have age:aG {q with ob:=q.ob.set aJ o (.lp {l2 with st:=.ready,oA:=Y})}={aG q with ob:=(aG q).ob.set aJ o (cQ (.lp {l2 with st:=.ready,oA:=Y}))}:=eY q _ _ q.wr;have hall:fj {s with lo:=s.aH} g w {q with ob:=q.ob.set aJ o (.lp {l2 with st:=.ready,oA:=Y})} g2 (w2.putObj b (.loop {L2 with state:=.ready,pending:=Y})):=by
  have e1:pz s.aH s.fl g1 w1 g1 (w1.putObj b (.loop {L1 with state:=.busy})):=by have:=he2.GH s.aH;rw[show(aG i).fl=s.fl from d.fl]at this;exact this
  have e2:pz s.aH s.fl g1 (w1.putObj b (.loop {L1 with state:=.busy})) g2 w2:=by have:=p.ext;rw[show i.lo=s.aH from d.lo,show i.fl=s.fl from d.fl]at this;exact this
  have e3:pz s.aH s.fl g2 w2 g2 (w2.putObj b (.loop {L2 with state:=.ready,pending:=Y})):=by have:=HG.GH s.aH;rw[show(aG q).fl=s.fl from p.fl.trans d.fl]at this;exact this
  refine⟨by rw[age];exact Om,((d.ext.trans e1).trans e2).trans e3,p.fl.trans d.fl,p.lo.trans d.lo,fC d.aH p.aH,λj hj=>p.uW j (d.uW j hj),λj hj hno=>?_,λj hj=>p.Gq j (d.Gq j hj)⟩;have al6:j∉i.wr:=λhm=>hno (p.uW j hm);have k1:=d.same j hj al6;have k2:=p.same j (dy hj d.aH) hno;have R:o<bB:=dy (hs.lt hb) hs.aH;show(q.ob.set aJ o _).get j=s.ob.get j;rw[Tr.aX _ _ _ _ R];have m:q.ob.get j=(i.ob.set aJ o (.lp {H with st:=.busy})).get j:=k2;rw[Tr.aX _ _ _ _ R]at m;by_cases e:j=o
  .subst e;rw[bJ rfl]at m ⊢;rw[ho2]at m;rw[SA]at k1;have k1:Z (vX.lp H)=s.ob.get j:=k1;rw[ho]at k1;simp only[bg,vX.lp.injEq]at k1 m;subst k1;subst m;rw[ho];obtain⟨st,pe,fid,fr,par,asg,bd⟩:=H;simp only at B I;subst B;subst I;rfl
  .rw[br e]at m ⊢;exact m.trans k1
 exact⟨.bool W,_,run_endRound Y hx2,.kb W,_,g2,c2,.kb W,fj.GH hs hall⟩
def MK(y:eM E)(i:∀call:iC S,fT E.T.E.P call->qo E call)(n:Nat):∀d,fT E.T.E.P (ML E n d):=by
 intro d
 induction d with
 |zero=>exact⟨λf args s ω k H r h=>(by cases h),λo args s ω k H r h=>(by cases h)⟩
 |succ d u=>
  refine⟨λf args s ω k H r h g w vs p q=>?_,λo args s ω k H r h g w vs b p q z=>IL y u (i _ u) n h p q z⟩;simp only[ML,aa3]at h;split at h
  .cases h
  .rename_i fn B;split at h
   .cases h
   .rename_i c X;have C:=y.TG.TJ _ _ B;refine⟨⟨fn,C,by rw[X];rfl,y.name _ _ B⟩,?_⟩;rcases af h with⟨z,h⟩|⟨_,h⟩
    .rw[zX]at z;have I:args.length<=fn.ntmps:=by have:=fQ z.1;rwa [bK]at this
     have G:fn.ntmps<bB:=fQ z.2;have K:=Ac (n:=fn.ntmps) G I q;have L:bh g (aG {s with lo:=s.aH}) w:=⟨p.aH,p.ai,p.box,p.arr,p.bA,p.lV⟩;refine wC C X (wpIn_mono (qW y u (i _ u) n f _ c 0 h (λh=>absurd rfl h) (Nat.le_of_lt G) (bP _) K L) λe a' w' hq=>?_);rcases hq with hF|⟨ex,fr',s',g',h1,h2,h3,h4,h5,h6⟩
     .exact hF.elim
     .have xm:=fj.GH p h5;have lo:∀{l:bq S}{j:Gh}{m:World},cM [] s' g' w' l j m->cM [] s g w {l with lo:=s.lo} j m:=λ{l j m}k=>
       fj.GH p (h5.trans k.toW)
      exact Bz y u (i _ u) n (R:=vG s g w k H r) h2 h1 h4 h5.rel (λt l j v m M O U=>⟨t,_,j,M,O,lo U⟩) (λt l j v m M O U=>⟨v,t,_,j,rfl,M,O,lo U⟩)
    .cases h
end
section
def oK:∀(ps:List Pk)(b:Nat)(s:bq S)(x:fU S.A ps),s.aH<=(r6 b s ps x).2.aH
 |[],_,_,_=>bP _
 | .one c::ps,b,s,x=>fC (PK s c x.1) (oK ps b _ x.2)
 | .box k::ps,b,s,x=>fC (Cn k s (Z (Nat.succ b)) x.1) (oK ps (Nat.succ b) {(gC s (Z (Nat.succ b)) k x.1).2 with ob:=(gC s (Z (Nat.succ b)) k x.1).2.ob.set aJ b (gC s (Z (Nat.succ b)) k x.1).1} x.2)
 | .hid k::ps,b,s,x=>fC (Cn k s (Z (Nat.succ b)) x.1) (oK ps (Nat.succ b) {(gC s (Z (Nat.succ b)) k x.1).2 with ob:=(gC s (Z (Nat.succ b)) k x.1).2.ob.set aJ b (gC s (Z (Nat.succ b)) k x.1).1} x.2)
structure InR(g:Gh)(s:bq S)(w:World)(al:List fq)(g':Gh)(s':bq S):Prop where
 rel:bh g' (aG s') w
 le:nW g g'
 bA:g'.bA=g.bA
 own:∀k b,bM g' k b->bM g k b∨∃a∈al,a.at b
 fl:s'.fl=s.fl
 lo:s'.lo=s.lo
 aH:s.aH<=s'.aH
 cg:g'.cg=g.cg
 arr:∀o,o<s.aH->∀e,g'.arr o e=g.arr o e
variable {w:World}{g:Gh}{s:bq S}{I:Nat->Prop}{ps:List Pk}{al:List fq}{bl:List Nat}{rs:List Ck}{E:fY S}{f:FuncId}
def Oj:∀{ps:List Pk}{x:fU S.A ps}{vals:List Value}{al:List fq}{bl:List Nat}{b:Nat}{g:Gh}{s:bq S},oZ S g.bA w ps x vals al bl->bh g (aG s) w->(∀j cg,bl[j]?=Z cg->g.cg (b+j)=Z cg)->
  (∀j,j<bl.length->b+j<s.aH∧∀e,g.arr (b+j) e=Y)->(∀a∈al,∀b,a.at b->∀o,¬bM g o b)->uU al->(r6 b s ps x).2.aH<=bB->
  ∃g',InR g s w al g' (r6 b s ps x).2∧PW (aK g' w) (bn (r6 b s ps x).1) vals:=by
 intro ps
 induction ps with
 |nil=>intro x vals al bl b g s hp hs _ _ _ _ _;cases hp;exact⟨g,⟨hs,nW.refl _,rfl,λ_ _ h=>.inl h,rfl,rfl,bP _,rfl,λ_ _ _=>rfl⟩,⟨rfl,λj t v h=>by simp[r6,bn]at h⟩⟩
 |cons p ps ih=>
  intro x vals al bl b g s hp hs r y B hap hn;cases hp with
  | @one c _ i xr v vs zo zI bl h1 h2=>
   have l:=rK.1 hap;have G:(tB s c i).2.aH<=bB:=fC (oK ps b _ xr) hn;obtain⟨X,d,lO⟩:=lW (cs:=[c]) (x:=(i,())) h1 hs (λa z=>B a (eH _ z)) l.1 (by simpa[gI]using G);have e1:(gI s [c] (i,())).1=[(tB s c i).1]:=rfl;have e2:(gI s [c] (i,())).2=(tB s c i).2:=rfl;rw[e1]at lO;rw[e2]at d;have Zf:aK X w (low (tB s c i).1) v:=lO.2 0 _ _ rfl rfl;obtain⟨g2,m,k2⟩:=ih (b:=b) (g:=X) (s:=(tB s c i).2) (d.bA▸h2) d.rel (λj cg h=>by rw[d.cg];exact r j cg h) (λj hj=>⟨dy (y j hj).1 d.aH,λe=>by rw[d.arr _ (y j hj).1];exact(y j hj).2 e⟩)
    (λa z b hb o q=>by
     rcases d.own o b q with q|⟨_,a2,H,I⟩
     .exact B a (iS _ z) b hb o q
     .exact l.2.2 a2 H a z b I hb) l.2.1 hn
   refine⟨g2,⟨m.rel,d.le.trans m.le,m.bA.trans d.bA,λk C q=>?_,m.fl.trans d.fl,m.lo.trans d.lo,fC d.aH m.aH,m.cg.trans d.cg,λo ho e=>(m.arr o (dy ho d.aH) e).trans (d.arr o ho e)⟩,⟨by simp only[r6,bn,fc];rw[k2.1],λj t v' q1 u=>?_⟩⟩
   .rcases m.own k C q with q|⟨K,u,L⟩
    .rcases d.own k C q with q|⟨_,K,u,L⟩
     .exact .inl q
     .exact .inr ⟨K,eH _ u,L⟩
    .exact .inr ⟨K,iS _ u,L⟩
   .cases j with|zero=>simp[r6,bn]at q1 u;subst q1;subst u;exact Zf.le m.le|succ j=>exact k2.2 j t v' (by simpa[r6,bn]using q1) (by simpa using u)
  | @box kd _ i xr b0 hx vs zo zI bl hh h1 h2=>
   have l:=rK.1 hap;have G:(gC s (Z (Nat.succ b)) kd i).2.aH<=bB:=fC (oK ps (Nat.succ b) {(gC s (Z (Nat.succ b)) kd i).2 with ob:=(gC s (Z (Nat.succ b)) kd i).2.ob.set aJ b (gC s (Z (Nat.succ b)) kd i).1} xr) hn;obtain⟨X,d,M⟩:=nX h1 (λC O=>⟨_,rfl,by cases bl with|nil=>cases O|cons c' MR=>(cases O;exact r 1 C rfl)⟩) hs (λa z=>B a (eH _ z)) l.1 G;have R:=y 0 (by simp);have U:g.cg b=Z b0:=r 0 b0 rfl;have hk:=d.rel.rZ (o:=b) (b:=b0) (by rw[d.cg];exact U) hh M (λe=>by rw[d.arr b (by simpa using R.1)];exact R.2 e);have hk2:bh X (aG {(gC s (Z (Nat.succ b)) kd i).2 with ob:=(gC s (Z (Nat.succ b)) kd i).2.ob.set aJ b (gC s (Z (Nat.succ b)) kd i).1}) w:=by have:=eY (gC s (Z (Nat.succ b)) kd i).2 b (gC s (Z (Nat.succ b)) kd i).1 (gC s (Z (Nat.succ b)) kd i).2.wr;rw[show({(gC s (Z (Nat.succ b)) kd i).2 with ob:=(gC s (Z (Nat.succ b)) kd i).2.ob.set aJ b (gC s (Z (Nat.succ b)) kd i).1}:bq S)={(gC s (Z (Nat.succ b)) kd i).2 with ob:=(gC s (Z (Nat.succ b)) kd i).2.ob.set aJ b (gC s (Z (Nat.succ b)) kd i).1,wr:=(gC s (Z (Nat.succ b)) kd i).2.wr}from rfl,this];exact hk
   obtain⟨g2,m,k2⟩:=ih (b:=Nat.succ b) (g:=X) (s:={(gC s (Z (Nat.succ b)) kd i).2 with ob:=(gC s (Z (Nat.succ b)) kd i).2.ob.set aJ b (gC s (Z (Nat.succ b)) kd i).1}) (d.bA▸h2) hk2
    (λj cg h=>by rw[d.cg];have:=r (j+1) cg (by simpa using h);rwa [show b+(j+1)=Nat.succ b+j by omega]at this)
    (λj hj=>by
     have:=y (j+1) (by simp;omega);rw[show b+(j+1)=Nat.succ b+j by omega]at this;exact⟨dy this.1 d.aH,λe=>by rw[d.arr _ this.1];exact this.2 e⟩)
    (λa z b hb o q=>by
     rcases d.own o b q with q|⟨_,a2,H,I⟩
     .exact B a (iS _ z) b hb o q
     .exact l.2.2 a2 H a z b I hb) l.2.1 hn
   refine⟨g2,⟨m.rel,d.le.trans m.le,m.bA.trans d.bA,λk C q=>?_,m.fl.trans d.fl,m.lo.trans d.lo,fC d.aH m.aH,m.cg.trans d.cg,λo ho e=>(m.arr o (dy ho d.aH) e).trans (d.arr o ho e)⟩,⟨by simp only[r6,bn,fc];rw[k2.1],λj t v' q1 u=>?_⟩⟩
   .rcases m.own k C q with q|⟨K,u,L⟩
    .rcases d.own k C q with q|⟨_,K,u,L⟩
     .exact .inl q
     .exact .inr ⟨K,eH _ u,L⟩
    .exact .inr ⟨K,iS _ u,L⟩
   .cases j with|zero=>simp only[r6,bn,rM,bg]at q1 u;subst q1;subst u;exact LK (by rw[m.cg,d.cg];exact U)|succ j=>exact k2.2 j t v' (by simpa[r6,bn]using q1) (by simpa using u)
  | @hid kd _ i xr b0 hx vs zo zI bl hh h1 h2=>
   have l:=rK.1 hap;have G:(gC s (Z (Nat.succ b)) kd i).2.aH<=bB:=fC (oK ps (Nat.succ b) {(gC s (Z (Nat.succ b)) kd i).2 with ob:=(gC s (Z (Nat.succ b)) kd i).2.ob.set aJ b (gC s (Z (Nat.succ b)) kd i).1} xr) hn;obtain⟨X,d,M⟩:=nX h1 (λC O=>⟨_,rfl,by cases bl with|nil=>cases O|cons c' MR=>(cases O;exact r 1 C rfl)⟩) hs (λa z=>B a (eH _ z)) l.1 G;have R:=y 0 (by simp);have U:g.cg b=Z b0:=r 0 b0 rfl;have hk:=d.rel.rZ (o:=b) (b:=b0) (by rw[d.cg];exact U) hh M (λe=>by rw[d.arr b (by simpa using R.1)];exact R.2 e);have hk2:bh X (aG {(gC s (Z (Nat.succ b)) kd i).2 with ob:=(gC s (Z (Nat.succ b)) kd i).2.ob.set aJ b (gC s (Z (Nat.succ b)) kd i).1}) w:=by have:=eY (gC s (Z (Nat.succ b)) kd i).2 b (gC s (Z (Nat.succ b)) kd i).1 (gC s (Z (Nat.succ b)) kd i).2.wr;rw[show({(gC s (Z (Nat.succ b)) kd i).2 with ob:=(gC s (Z (Nat.succ b)) kd i).2.ob.set aJ b (gC s (Z (Nat.succ b)) kd i).1}:bq S)={(gC s (Z (Nat.succ b)) kd i).2 with ob:=(gC s (Z (Nat.succ b)) kd i).2.ob.set aJ b (gC s (Z (Nat.succ b)) kd i).1,wr:=(gC s (Z (Nat.succ b)) kd i).2.wr}from rfl,this];exact hk
   obtain⟨g2,m,k2⟩:=ih (b:=Nat.succ b) (g:=X) (s:={(gC s (Z (Nat.succ b)) kd i).2 with ob:=(gC s (Z (Nat.succ b)) kd i).2.ob.set aJ b (gC s (Z (Nat.succ b)) kd i).1}) (d.bA▸h2) hk2
    (λj cg h=>by rw[d.cg];have:=r (j+1) cg (by simpa using h);rwa [show b+(j+1)=Nat.succ b+j by omega]at this)
    (λj hj=>by
     have:=y (j+1) (by simp;omega);rw[show b+(j+1)=Nat.succ b+j by omega]at this;exact⟨dy this.1 d.aH,λe=>by rw[d.arr _ this.1];exact this.2 e⟩)
    (λa z b hb o q=>by
     rcases d.own o b q with q|⟨_,a2,H,I⟩
     .exact B a (iS _ z) b hb o q
     .exact l.2.2 a2 H a z b I hb) l.2.1 hn
   refine⟨g2,⟨m.rel,d.le.trans m.le,m.bA.trans d.bA,λk C q=>?_,m.fl.trans d.fl,m.lo.trans d.lo,fC d.aH m.aH,m.cg.trans d.cg,λo ho e=>(m.arr o (dy ho d.aH) e).trans (d.arr o ho e)⟩,k2⟩
   .rcases m.own k C q with q|⟨K,u,L⟩
    .rcases d.own k C q with q|⟨_,K,u,L⟩
     .exact .inl q
     .exact .inr ⟨K,eH _ u,L⟩
    .exact .inr ⟨K,iS _ u,L⟩
def nJ(K:fh S){g:Gh}{w:World}{s:bq S}(hs:bh g (aG s) w):∀{ps:List Pk}{b:Nat}{x:iD S.A ps}{fz ow bl:List Nat},rS s b ps=Z (x,fz,ow)->(∀j cg,bl[j]?=Z cg->g.cg (b+j)=Z cg)->bl.length=ej ps->
  (∀o∈fz,Live g (aG s) o)∧(∀o∈ow,s.fl<=o∧s.lo<=o∧o<s.aH∧∃ob,s.ob.get o=Z ob∧OZ ob=W)∧∀(y:Gh)(z:St)(t:List Nat),bh y z w->Ext s.fl g w y w->jC (aG s) z t->(∀o∈fz,o∈t)->(∀o∈ow,z.ob.get o=(aG s).ob.get o)->
   ∃al,Cm S y.bA w ps x bl al∧AL y al ow
 |[],b,x,fz,ow,bl,h,_,l=>by
  simp only[rS,bg,bC]at h;obtain⟨_,rfl,rfl⟩:=h
  match bl,l with
  |[],_=>exact⟨λo m=>(by cases m),λo m=>(by cases m),λ_ _ _ _ _ _ _ _=>⟨[],.nil,.nil⟩⟩
  |_::_,l=>exact absurd l (by simp[ej])
 | .one c::ps,b,x,fz,ow,bl,h,p,l=>by simp only[rS]at h;obtain⟨L,M,O⟩:=nJ K hs h p (by simpa[ej]using l);refine⟨L,M,λy z t a b c d e=>?_⟩;obtain⟨al,R,U⟩:=O y z t a b c d e;exact⟨al,.one R,U⟩
 | .box k::ps,b,x,fz,ow,bl,h,p,l=>by
  match bl,l with
  |[],l=>exact absurd l (by simp[ej])
  |b0::bl,l=>
  simp only[rS]at h;split at h;rotate_left
  .cases h
  rename_i x1 a1 b1 nx h1 a2 b2 X e2;rcases af h with⟨G,h⟩|⟨_,h⟩;rotate_left
  .cases h
  rw[zX]at G;simp only[bg,bC]at h;obtain⟨rfl,rfl,rfl⟩:=h;have B:g.cg b=Z b0:=p 0 b0 rfl;have q:∀j cg,bl[j]?=Z cg->g.cg (Nat.succ b+j)=Z cg:=λj cg h=>by have:=p (j+1) cg (by simpa using h);rwa [show b+(j+1)=Nat.succ b+j by omega]at this
  have i:bl.length=ej ps:=by simpa[ej]using l
  obtain⟨_,hx,hh,L,M,O⟩:=pH K hs B X;obtain⟨_,H⟩:=yC hs B X;obtain⟨q1,q2,q3⟩:=nJ K hs e2 q i;refine⟨λo m=>(dY.1 m).elim (L o) (q1 o),λo m=>(dY.1 m).elim (M o) (q2 o),λy z t C I hf u r=>?_⟩;obtain⟨zo,R,U⟩:=O y z t C I hf (λo m=>u o (eH _ m)) (λo m=>r o (eH _ m)) (dF bl) (λo' v=>by
   subst v;obtain⟨pre,post,rfl⟩:=H o' rfl;have v:o'=Nat.succ b:=nF G.1;subst v
   match ps,G.2,i with
   | .hid k'::ps,_,i=>
    match bl,i with
    |c::bl,_=>exact⟨c,rfl,I.cg _ _ (q 0 c rfl)⟩
    |[],i=>exact absurd i (by simp[ej]))
  obtain⟨zI,k3,k4⟩:=q3 y z t C I hf (λo m=>u o (iS _ m)) (λo m=>r o (iS _ m));exact⟨_,.box hh R k3,U.append k4⟩
 | .hid k::ps,b,x,fz,ow,bl,h,p,l=>by
  match bl,l with
  |[],l=>exact absurd l (by simp[ej])
  |b0::bl,l=>
  simp only[rS]at h;split at h;rotate_left
  .cases h
  rename_i x1 a1 b1 nx h1 a2 b2 X e2;rcases af h with⟨G,h⟩|⟨_,h⟩;rotate_left
  .cases h
  rw[zX]at G;simp only[bg,bC]at h;obtain⟨rfl,rfl,rfl⟩:=h;have B:g.cg b=Z b0:=p 0 b0 rfl;have q:∀j cg,bl[j]?=Z cg->g.cg (Nat.succ b+j)=Z cg:=λj cg h=>by have:=p (j+1) cg (by simpa using h);rwa [show b+(j+1)=Nat.succ b+j by omega]at this
  have i:bl.length=ej ps:=by simpa[ej]using l
  obtain⟨_,hx,hh,L,M,O⟩:=pH K hs B X;obtain⟨_,H⟩:=yC hs B X;obtain⟨q1,q2,q3⟩:=nJ K hs e2 q i;refine⟨λo m=>(dY.1 m).elim (L o) (q1 o),λo m=>(dY.1 m).elim (M o) (q2 o),λy z t C I hf u r=>?_⟩;obtain⟨zo,R,U⟩:=O y z t C I hf (λo m=>u o (eH _ m)) (λo m=>r o (eH _ m)) (dF bl) (λo' v=>by
   subst v;obtain⟨pre,post,rfl⟩:=H o' rfl;have v:o'=Nat.succ b:=nF G.1;subst v
   match ps,G.2,i with
   | .hid k'::ps,_,i=>
    match bl,i with
    |c::bl,_=>exact⟨c,rfl,I.cg _ _ (q 0 c rfl)⟩
    |[],i=>exact absurd i (by simp[ej]))
  obtain⟨zI,k3,k4⟩:=q3 y z t C I hf (λo m=>u o (iS _ m)) (λo m=>r o (iS _ m));exact⟨_,.hid hh R k3,U.append k4⟩
def Cm.iJ{I:Nat->Prop}{w:World}{ps:List Pk}{x:iD S.A ps}{al:List fq}{bl:List Nat}(h:Cm S I w ps x bl al):∀a∈al,∀b,a.at b->¬I b:=by
 induction h with
 |nil=>intro a d;cases d
 |one _ e=>exact e
 |box i h1 h2 e=>
  intro a d b g;rcases dY.1 d with d|d
  .exact h1.iJ a d b g
  .exact e a d b g
 |hid i h1 h2 e=>
  intro a d b g;rcases dY.1 d with d|d
  .exact h1.iJ a d b g
  .exact e a d b g
def OT{x:fU S.A ps}{vs:List Value}(h:oZ S I w ps x vs al bl):ej ps=bl.length:=by
 induction h with|nil=>rfl|one _ _ b=>exact b|box _ _ _ b=>simp only[ej,fc,b]|hid _ _ _ b=>simp only[ej,fc,b]
def NM{v:V S}{val:Value}(k:aK g w (low v) val){x:gl S.A rs}{fz ow:List Nat}(h:gL s rs (Yi rs v)=Z (x,fz,ow)):∃vals,val=valOf vals∧PW (aK g w) (bn (Yi rs v)) vals:=by
 have one:∀{l:List (V S)},l=[v]->rs.length=1->∃vals,val=valOf vals∧PW (aK g w) (bn l) vals:=by
  rintro l rfl _
  refine⟨[val],rfl,rfl,λj t u h1 h2=>?_⟩;cases j with|zero=>simp[bn]at h1 h2;subst h1;subst h2;exact k|succ j=>simp[bn]at h1
 have e:∀{d:List Ck}{l:List (V S)}{x:gl S.A d}{fz ow:List Nat},gL s d l=Z (x,fz,ow)->d.length=l.length:=by
  intro d
  induction d with
  |nil=>intro l x fz ow h;cases l with|nil=>rfl|cons=>simp[gL]at h
  |cons c d y=>intro l x fz ow h;cases l with
   |nil=>simp[gL]at h
   |cons v l=>
    simp only[gL]at h;split at h
    .rename_i z;simp[y z]
    .cases h
 have b:=e h;unfold Yi at b h ⊢;split at h
 .exact one rfl rfl
 .rename_i l m;simp only at b;simp only[low]at k;cases k with
  |gm _ q r B=>
   refine⟨q.toList,?_,by simpa using r,λj t v h1 h2=>B j t v h1 (by simpa using h2)⟩;have i:q.toList.length≠1:=by
    intro h1;have h2:(bn l).length=1:=by rw[r];simpa using h1
    rw[eS]at h2;rw[h2]at b;obtain⟨c,C⟩:=Li.1 b;exact m c C
   unfold valOf;split
   .rename_i G p;rw[p]at i;exact absurd rfl i
   .rfl
 .simp only[fc,w4,jl]at b;exact one rfl b
def gh0(I:Nat->Prop)(bl:List Nat):Gh:=⟨λo=>bl[o]?,λ_ _=>Y,I⟩
def vu{o b:Nat}(h:bM (gh0 I bl) o b):bl[o]?=Z b:=by
 obtain⟨_,h|⟨e,x,d,h,_⟩⟩:=h
 .exact h
 .cases h
def Zz(k:∀b,I b->b<w.heap.size)(i:bl.Nodup)(d:∀b∈bl,b<w.heap.size∧¬I b)(hn:bl.length<=bB) :
  bh (gh0 I bl) (aG (⟨.nil,bl.length,0,bl.length,[],[]⟩:bq S)) w:=by
 refine⟨hn,λo l=>⟨?_,λe=>rfl⟩,λo b h=>?_,λo e x h=>?_,k,λo q b h m=>?_⟩
 .show bl[o]?=Y;exact Gb l
 .have h:bl[o]?=Z b:=h;have j:=gY h;refine⟨(d b j).2,(d b j).1,λob g=>?_⟩;rw[aY]at g;simp[Tr.get_nil]at g
 .cases h
 .have h1:=vu h;have h2:=vu m;have p:o<bl.length:=by
   rcases yx o bl.length with h|h
   .exact h
   .rw[Gb h]at h1;cases h1
  exact(List.getElem?_inj p i).1 (h1.trans h2.symm)
def SV{n d:Nat}{x:fU S.A ps}{r:RT E.pn (gl S.A rs×iD S.A ps) (den S.A S.pt×iD S.A ps)}(h:Ez E n d f ps rs x=Z r) :
  (r6 0 ⟨.nil,ej ps,0,ej ps,[],[]⟩ ps x).2.aH<=bB∧WG E n d f (r6 0 ⟨.nil,ej ps,0,ej ps,[],[]⟩ ps x).1 (r6 0 ⟨.nil,ej ps,0,ej ps,[],[]⟩ ps x).2 (ac6 E.pn rs ps) (ac5 E.pn rs ps)=Z r:=by
 unfold Ez at h;dsimp only at h;rcases af h with⟨_,h⟩|⟨b,h⟩
 .cases h
 .refine ⟨fQ (by simpa using b),?_⟩;exact h
def RT.Yu{R P:Type}:∀{pn:Bool}{p:P}{r:RT pn R P},RT.dh pn p=Z r->RT.res pn r=.dh p
 |false,_,_,h=>by cases h
 |true,_,_,h=>by cases h;rfl
def ET(hE:eM E)(z:∀call:iC S,fT E.T.E.P call->qo E call){fn:Func}{c:Code}(hfn:E.T.E.TJ f=Z fn)(hc:fn.body=Z c)(n d:Nat)(ps:List Pk)(rs:List Ck) :
  bD E.T.E.P f ⟨ps,rs,E.pn,Ez E n d f ps rs⟩:=by
 have hfs:=hE.TG.TJ _ _ hfn;refine⟨⟨fn,hfs,by rw[hc];rfl,hE.name _ _ hfn⟩,λx r h I w vs al bl hp hI hap hnd TH=>?_⟩;dsimp only at x r h hp;obtain⟨H,h⟩:=SV h;have hlen:=OT hp;have m:=oK ps 0 (⟨.nil,ej ps,0,ej ps,[],[]⟩:bq S) x;have hn0:ej ps<=bB:=fC m H;have alE:bh (gh0 I bl) (aG (⟨.nil,ej ps,0,ej ps,[],[]⟩:bq S)) w:=by have:=Zz (S:=S) (w:=w) hI hnd (λb i=>⟨(TH b i).1,(TH b i).2.1⟩) (by omega);rwa [hlen]
 obtain⟨g0,O,lO⟩:=Oj (b:=0) (g:=gh0 I bl) hp alE (λj cg h=>by rw[jl];exact h) (λj hj=>⟨by simp;omega,λe=>rfl⟩)
  (λa B b i o k=>(TH b (gY (vu k))).2.2 a B i) hap H
 generalize r6 0 ⟨.nil,ej ps,0,ej ps,[],[]⟩ ps x=q at h H O lO m;obtain⟨args,s0⟩:=q;dsimp only at h H O lO m;have acQ:s0.fl=0:=O.fl;have agh:s0.lo=ej ps:=O.lo;simp only[WG,hfn,hc]at h;rcases af h with⟨i,h⟩|⟨_,h⟩;rotate_left
 .cases h
 rw[zX]at i;have Jm:args.length<=fn.ntmps:=by have:=fQ i.1;rwa [bK]at this
 have qg:fn.ntmps<bB:=fQ i.2;have hf0:=Ac (n:=fn.ntmps) qg Jm lO;have p:=MK hE z n d;have core:∀(s':bq S)(g':Gh)(w':World),fj s0 g0 w s' g' w'->∀(rs:List Ck)(t:V S)(v:Value)(r1:gl S.A rs×iD S.A ps),ZI rs ps t s'=Z r1->aK g' w' (low t) v->CL S I w ps rs r1 al bl v w':=by
  intro s' g' w' h5 rs t v r h2 ht;unfold ZI at h2;split at h2;rotate_left
  .cases h2
  rename_i r1 fz ow b1 fz' ow' e1 e2;split at h2;rotate_left
  .cases h2
  rename_i s1 e3;rcases af h2 with⟨i,h2⟩|⟨_,h2⟩;rotate_left
  .cases h2
  simp only[bg]at h2;subst h2;rw[zX]at i;have VJ:=l5 i.1;have amG:=xF i.2;obtain⟨vals,rfl,afQ⟩:=NM ht e1;have agz:∀j cg,bl[j]?=Z cg->g'.cg (0+j)=Z cg:=λj cg h=>h5.ext.cg _ _ (by rw[O.cg,jl];exact h);obtain⟨p1,p2,p3⟩:=gk hE.sg h5.rel e1 afQ;obtain⟨q1,q2,q3⟩:=nJ hE.sg h5.rel e2 agz hlen.symm;have hfr:=cY hE.sg _ e3;obtain⟨g1,l,K,hfz⟩:=eo (fz++fz') h5.rel hfr (λo C=>(dY.1 C).elim (p1 o) (q1 o));obtain⟨f1,f2,f3,f4,f5,f6,f7⟩:=ew e3;have U:∀o∈ow++ow',(aG s1).ob.get o=(aG s').ob.get o:=λo C=>by rw[aY,aY,f6 o (amG o C)]
  obtain⟨zI,L,k2⟩:=p3 g1 (aG s1) (fz++fz') l K hfz (λo C=>eH _ C) (λo C=>U o (eH _ C));obtain⟨zo,k3,k4⟩:=q3 g1 (aG s1) (fz++fz') l K hfz (λo C=>iS _ C) (λo C=>U o (iS _ C));have al7:=L.iJ;have al8:=k3.iJ;have hmem:∀a∈zo++zI,a∈zI++zo:=λa B=>dY.2 ((dY.1 B).symm);have hni:∀a∈zI++zo,∀b,a.at b->¬g1.bA b:=λa B=>(dY.1 B).elim (al7 a) (al8 a);have hAL:=k2.append k4;have hown:=hAL.owned hni;have s:=hAL.apart l VJ hni;have hfl':s'.fl=0:=h5.fl.trans acQ;have Zn:s'.lo=ej ps:=h5.lo.trans agh;have af7:∀o b,bM g1 o b->(b∈bl∨∃a∈al,a.at b)∨w.heap.size<=b:=by
   intro o b k;rcases K.own o b k with k|hge
   .rcases h5.ext.own o b (by omega) k with⟨M,_,X⟩|hge
    .rcases O.own M b X with X|⟨a,B,G⟩
     .exact .inl (.inl (gY (vu X)))
     .exact .inl (.inr ⟨a,B,G⟩)
    .exact .inr hge
   .have:=h5.ext.size;exact .inr (by omega)
  have u:∀b∈bl,∃o,o<ej ps∧g1.cg o=Z b:=by intro b i;obtain⟨j,hj,rfl⟩:=s9 i;exact⟨0+j,by omega,K.cg _ _ (agz j _ (fP hj))⟩
  refine⟨g1.bA,vals,zo,zI,λb i=>K.bA b (h5.ext.bA b (O.bA▸i)),λb i=>?_,l.bA,h5.ext.size,λb i H hna=>?_,h5.ext.os,h5.ext.output,rfl,k3,L,?_,λa B b G=>?_,λb i=>⟨?_,λa B G=>?_⟩⟩
  .have h0:∀o,bM g0 o b->I b∨w.heap.size<=b∨∃a∈al,a.at b:=λo k=>by
    rcases O.own o b k with k|h
    .obtain ⟨M,_,y⟩:=u b (gY (vu k));exact absurd i (l.box M b y).1
    .exact .inr (.inr h)
   rcases K.tZ b i with i|i|⟨o,_,k⟩
   .rcases h5.ext.tZ b i with i|i|⟨o,_,k⟩
    .exact .inl (by rw[O.bA]at i;exact i)
    .exact .inr (.inl i)
    .exact h0 o k
   .have:=h5.ext.size;exact .inr (.inl (by omega))
   .rcases h5.ext.own o b (by omega) k with⟨M,_,X⟩|hge
    .exact h0 M X
    .exact .inr (.inl hge)
  .refine h5.ext.heap b i λo _ k=>?_;rcases O.own o b k with k|⟨a,B,G⟩
   .exact H (gY (vu k))
   .exact hna a B G
  .refine rK.2 ⟨(rK.1 s).2.1,(rK.1 s).1,λa B a' ha' b h1 h2=>(rK.1 s).2.2 a' ha' a B b h2 h1⟩
  .obtain ⟨o,C,k⟩:=hown a (hmem a B) b G;rcases af7 o b k with(h|h)|h
   .obtain ⟨M,ho',y⟩:=u b h;have:=l.lV o M b k ⟨(l.box M b y).1,.inl y⟩;subst this;rcases dY.1 C with hm|hm
    .have:=(p2 o hm).2.1;omega
    .have:=(q2 o hm).2.1;omega
   .exact .inl h
   .exact .inr h
  .obtain ⟨M,ho',y⟩:=u b i;exact(l.box M b y).1
  .obtain ⟨o,C,k⟩:=hown a (hmem a B) b G;obtain⟨M,ho',y⟩:=u b i;have:=l.lV o M b k ⟨(l.box M b y).1,.inl y⟩;subst this;rcases dY.1 C with hm|hm
   .have:=(p2 o hm).2.1;omega
   .have:=(q2 o hm).2.1;omega
 refine wC hfs hc (wpIn_mono (qW hE p (z _ p) n f _ c 0 h (λh=>absurd rfl h) (Nat.le_of_lt qg) (by rw[agh];exact m) hf0 O.rel) λe a' w' hq=>?_);rcases hq with hF|⟨ex,fr',s',g',h1,h2,h3,h4,h5,h6⟩
 .exact hF.elim
 refine Bz hE p (z _ p) n (R:=vF S I w ps rs (RT.res E.pn r) al bl) h2 h1 h4 h5.rel (λt s'' g'' v w'' L k2 k3=>?_) (λt s'' g'' v w'' L k2 k3=>?_)
 .unfold ac6 at L;split at L;rotate_left
  .cases L
  rename_i r1 e1;simp only[bg]at L;have e2:RT.res E.pn r=.ok r1:=by rw[<-L];cases E.pn<;>rfl
  simp only[vF,e2];exact core _ _ _ (h5.trans k3.toW) rs _ v r1 e1 k2
 .simp only[ac5]at L;split at L;rotate_left
  .cases L
  rename_i r1 e1;have e2:RT.res E.pn r=.dh (r1.1.1,r1.2):=RT.Yu L;simp only[vF,e2];exact⟨v,rfl,core _ _ _ (h5.trans k3.toW) [.dat S.pt] t v r1 e1 k2⟩
end
section
variable {o:Op}{ops:List Oper}{v a:V S}{b:Bool}{x y r r':oY S}{args:List (V S)}
section
variable {fr fr':bW S}{s s':bq S}
def pJ:∀{l:List Operand},(∀x∈l,ck fr x=ck fr' x)->jP fr l=jP fr' l
 |[],_=>rfl
 |x::l,h=>by simp only[jP,h x ez,pJ λy b=>h y (gJ _ b)]
def jE:∀{l:List (Nat×Operand)},(∀x∈l.map (·.2),ck fr x=ck fr' x)->ir fr l=ir fr' l
 |[],_=>rfl
 |(k,x)::l,h=>by simp only[ir,h x (by simp),jE λy b=>h y (by simp at b ⊢;exact .inr b)]
def w9:∀{x:Option Operand},(∀y∈x.toList,ck fr y=ck fr' y)->IY fr x=IY fr' x
 |none,_=>rfl
 |some x,h=>by simp only[IY,h x (by simp)]
def NY(E:gA)(s:bq S)(o:Op)(h:∀x∈o.operands.toList,ck fr x=ck fr' x):cm E fr s o=cm E fr' s o:=by
 cases o with
 |buildSlice t n ps=>simp only[Op.operands]at h;simp only[cm,jE (fr:=fr) (fr':=fr') (l:=ps.toList) (by simpa using h)]
 |build t ps=>simp only[Op.operands]at h;simp only[cm,jE (fr:=fr) (fr':=fr') (l:=ps.toList) (by simpa using h)]
 |makeFunc f a b=>simp only[Op.operands,FZ,dY]at h;simp only[cm,pJ (l:=a.toList) λx d=>h x (.inl d),pJ (l:=b.toList) λx d=>h x (.inr d)]
 |slice t x l e m=>
  simp only[Op.operands,FZ,dY,Option.toArray]at h;simp only[cm,h x (by simp),w9 (fr:=fr) (fr':=fr') (x:=l) λy g=>h y (by cases l<;>simp_all),
   w9 (fr:=fr) (fr':=fr') (x:=e) λy g=>h y (by cases e<;>simp_all),w9 (fr:=fr) (fr':=fr') (x:=m) λy g=>h y (by cases m<;>simp_all)]
 |alloc=>rfl
 |box t x=>simp[Op.operands]at h;simp only[cm,h]
 |move x=>simp[Op.operands]at h;simp only[cm,h]
 |assign x=>simp[Op.operands]at h;simp only[cm,h]
 |pick x y z=>simp[Op.operands]at h;simp only[cm,h]
 |load t x=>simp[Op.operands]at h;simp only[cm,h]
 |store t x y=>simp[Op.operands]at h;simp only[cm,h]
 |nilCheck x=>simp[Op.operands]at h;simp only[cm,h]
 |binOp op t x y u=>simp[Op.operands]at h;simp only[cm,h]
 |unOp op t x=>simp[Op.operands]at h;simp only[cm,h]
 |convert t u x=>simp[Op.operands]at h;simp only[cm,h]
 |makeInterface t x=>simp[Op.operands]at h;simp only[cm,h]
 |extract x k=>simp[Op.operands]at h;simp only[cm,h]
 |fieldAddr t x k=>simp[Op.operands]at h;simp only[cm,h]
 |field t x k=>simp[Op.operands]at h;simp only[cm,h]
 |indexAddr t x k=>simp[Op.operands]at h;simp only[cm,h]
 |index t x k=>simp[Op.operands]at h;simp only[cm,h]
 |typeAssert x t u ok=>simp[Op.operands]at h;simp only[cm,h]
 |_=>rfl
def LY:∀{x:Option Operand},(∀y∈x.toList,ck fr y=ck fr' y)->LZ fr x=LZ fr' x
 |none,_=>rfl
 |some x,h=>by simp only[LZ,h x (by simp)]
def RX(E:gA)(s:bq S)(o:Op)(h:∀x∈o.operands.toList,ck fr x=ck fr' x):qK E fr s o=qK E fr' s o:=by
 cases o with
 |makeMap t r=>simp only[qK,LY (fr:=fr) (fr':=fr') (x:=r) λy e=>h y (by cases r<;>simp_all [Op.operands])]
 |lookup t x b ok=>simp[Op.operands]at h;simp only[qK,h]
 |mapUpdate t x b y=>simp[Op.operands]at h;simp only[qK,h]
 |insert t x b y=>simp[Op.operands]at h;simp only[qK,h]
 |makeSlice t n c=>simp[Op.operands]at h;simp only[qK,h]
 |range t x=>simp[Op.operands]at h;simp only[qK,h]
 |nilCheck x=>simp[Op.operands]at h;simp only[qK,h]
 |typeAssert x t u ok=>simp[Op.operands]at h;simp only[qK,h]
 |build t ps=>simp only[Op.operands]at h;simp only[qK,jE (fr:=fr) (fr':=fr') (l:=ps.toList) (by simpa using h)]
 |binOp op t x y u=>
  have d:ck fr x=ck fr' x:=h x (by simp[Op.operands]);cases op<;>first
   |rfl
   |(
     cases y with
     |const v=>
      cases v with
      |nilIface=>simp only[qK,d]
      |slice a n m=>cases a<;>cases n<;>cases m<;>first|rfl|simp only[qK,d]
      |_=>rfl
     |_=>rfl)
 |_=>rfl
def Sa(E:gA)(s:bq S)(o:Op)(h:∀x∈o.operands.toList,ck fr x=ck fr' x):z4 E fr s o=z4 E fr' s o:=by
 cases o with
 |indexAddr t x e=>simp[Op.operands]at h;simp only[z4,h]
 |load t a=>simp[Op.operands]at h;simp only[z4,h]
 |store t a x=>
  simp[Op.operands]at h;cases x with|tmp k=>have h2:fr.get k=fr'.get k:=h.2;simp only[z4,h.1,h2]|_=>rfl
 |buildSlice t n ps=>
  simp only[z4];split
  .rename_i b d;have h2:fr.get b=fr'.get b:=h (.tmp b) (by
    have:(Op.buildSlice t n ps).operands.toList=ps.toList.map (·.2):=by simp[Op.operands]
    rw[this,d];simp)
   simp only[h2]
  .rfl
  .rfl
 |_=>rfl
def Hp(E:gA)(s:bq S)(o:Op)(h:∀x∈o.operands.toList,ck fr x=ck fr' x):yD E fr s o=yD E fr' s o:=by unfold yD;rw[Sa E s o h,NY E s o h,RX E s o h]
def Hq(E:gA)(s:bq S)(o:Op)(h:∀x∈o.operands.toList,ck fr x=ck fr' x):iI E fr s o=iI E fr' s o:=by
 cases o with
 |next e b=>simp[Op.operands]at h;cases b<;>first|rfl|simp only[iI,h]
 |lookup t x d ok=>simp[Op.operands]at h;simp only[iI,h]
 |index t x d=>simp[Op.operands]at h;simp only[iI,h]
 |_=>rfl
def Az{c:Call}(h:∀x∈c.operands.toList,ck fr x=ck fr' x):jP fr c.args.toList=jP fr' c.args.toList∧(∀f,c.callee=.value f->ck fr f=ck fr' f)∧∀x m,c.callee=.invoke x m->ck fr x=ck fr' x:=by simp only[Call.operands,FZ,dY]at h;exact⟨pJ λx b=>h x (.inr b),λf hf=>h f (.inl (by rw[hf];simp)),λx m b=>h x (.inl (by rw[b];simp))⟩
def y6(E:fY S)(call:iC S)(o:Oper)(s:bq S){ω:Type}(kp:V S->bq S->Option ω)(k:V S->bq S->List Nat->Option ω)(h:∀x∈o.op.operands.toList,ck fr x=ck fr' x) :
  si E call o fr s kp k=si E call o fr' s kp k:=by
 unfold si;have d:=Hp E.T s o.op h;have e:=Hq E.T s o.op h;cases i:o.op with
 |call c=>
  rw[i]at h;simp only[Op.operands]at h;obtain⟨h1,h2,h3⟩:=Az h;dsimp only;rw[h1];cases g:c.callee with|value f=>simp only[h2 f g]|builtin b=>rfl|invoke x m=>simp only[h3 x m g]
 |panic x=>rw[i]at h;simp[Op.operands]at h;simp only[h]
 |_=>rw[i]at d e;simp only[d,e]
def g7(E:fY S)(g:Option Bool)(o:Oper)(s:bq S){ω:Type}(k:V S->Option ω)(h:∀x∈o.op.operands.toList,ck fr x=ck fr' x) :
  eB E g fr s o k=eB E g fr' s o k:=by
 unfold eB;have d:=Hp E.T s o.op h;have e:=Hq E.T s o.op h;cases i:o.op with
 |call c=>
  rw[i]at h;simp only[Op.operands]at h;obtain⟨h1,h2,h3⟩:=Az h;dsimp only;rw[h1];cases j:c.callee with|value f=>simp only[h2 f j]|builtin b=>rfl|invoke=>rfl
 |buildSlice t n ps=>rw[i]at h d;simp only[Op.operands]at h;simp only[d,jE (fr:=fr) (fr':=fr') (l:=ps.toList) (by simpa using h)]
 |slice t x l p m=>rw[i]at h d;simp only[d,h x (by simp[Op.operands])]
 |_=>first|rfl|(rw[i]at d e;simp only[d,e])
def IQ(E:fY S)(o:Oper)(h:∀x∈o.op.operands.toList,ck fr x=ck fr' x):zS E fr o=zS E fr' o:=by
 unfold zS;cases d:o.op with
 |call c=>
  rw[d]at h;simp only[Op.operands]at h;obtain⟨h1,h2,h3⟩:=Az h;dsimp only;rw[h1];cases e:c.callee with|value f=>simp only[h2 f e]|builtin b=>rfl|invoke=>rfl
 |buildSlice t n ps=>rw[d]at h;simp only[Op.operands]at h;simp only[jE (fr:=fr) (fr':=fr') (l:=ps.toList) (by simpa using h)]
 |slice t x l g m=>rw[d]at h;simp only[h x (by simp[Op.operands])]
 |_=>rfl
def tmpsOf(o:Op):List Nat:=o.operands.toList.filterMap λx=>match x with|.tmp k=>Z k|_=>Y
def iF(h:∀k∈tmpsOf o,fr.get k=fr'.get k):∀x∈o.operands.toList,ck fr x=ck fr' x:=by intro x b;cases x with|tmp k=>exact h k (vJ.2 ⟨.tmp k,b,rfl⟩)|_=>rfl
def pM(g:∀k∈tmpsOf o,k<bB)(h:∀k∈tmpsOf o,fr.get k=fr'.get k):∀k∈tmpsOf o,(mQ fr o).get k=(mQ fr' o).get k:=by
 unfold mQ;have key:∀(l:List Operand)(f d:bW S),(∀k,.tmp k∈l->k∈tmpsOf o)->(∀k∈tmpsOf o,f.get k=d.get k)->∀k∈tmpsOf o,
   (l.foldl (λf x=>match x with
    | .tmp k=>match fr.get k with
     |some (.gd _ v)=>f.put k v
     |_=>f
    |_=>f) f).get k=(l.foldl (λf x=>match x with
    | .tmp k=>match fr'.get k with
     |some (.gd _ v)=>f.put k v
     |_=>f
    |_=>f) d).get k:=by
  intro l
  induction l with
  |nil=>intro f d _ hf k b;exact hf k b
  |cons x l m=>
   intro f d i hf k b;simp only[Bh];refine m _ _ (λk b=>i k (gJ _ b)) (λk b=>?_) k b;cases x with
   |tmp j=>
    have e:=i j ez;simp only[<-h j e];split
    .rw[bW.iO _ _ _ _ (g j e),bW.iO _ _ _ _ (g j e),hf k b]
    .exact hf k b
   |_=>exact hf k b
 exact key _ _ _ (λk b=>vJ.2 ⟨.tmp k,b,rfl⟩) h
def r9(c:Bool)(h:∀k∈tmpsOf o,fr.get k=fr'.get k):Jp c fr o=Jp c fr' o:=by
 unfold Jp;have key:∀(l:List Operand)(q:Bool),(∀k,.tmp k∈l->k∈tmpsOf o)->
   l.foldl (λp x=>match x with
    | .tmp k=>match fr.get k with
     |some (.gd g _)=>p&&imp c g
     |_=>p
    |_=>p) q=l.foldl (λp x=>match x with
    | .tmp k=>match fr'.get k with
     |some (.gd g _)=>p&&imp c g
     |_=>p
    |_=>p) q:=by
  intro l
  induction l with
  |nil=>intro q _;rfl
  |cons x l m=>
   intro q d;have e:∀j,x=.tmp j->fr.get j=fr'.get j:=λj e=>h j (d j (e▸ez));have b:∀k,.tmp k∈l->k∈tmpsOf o:=λk i=>d k (gJ _ i);clear d;simp only[Bh];cases x with|tmp j=>simp only[<-e j rfl];exact m _ b|_=>exact m _ b
 exact key _ _ (λk i=>vJ.2 ⟨.tmp k,i,rfl⟩)
def mP(ops:List Oper)(o:Oper):Option Nat:=match o.guard with
 |none=>Y
 |some (j,_)=>(nth ops j).bind (·.dst)
def nO{o:Oper}(h:∀k,mP ops o=Z k->fr.get k=fr'.get k):g6 ops fr o=g6 ops fr' o:=by
 unfold g6;cases d:o.guard with
 |none=>rfl
 |some p=>
  obtain⟨j,b⟩:=p;dsimp only;cases e:(nth ops j).bind (·.dst)with|none=>rfl|some k=>simp only[IS];rw[h k (by simp only[mP,d,e])]
def pF{o:Oper}(h:∀k,mP ops o=Z k->fr.get k=fr'.get k):sL ops fr o=sL ops fr' o:=by
 unfold sL;cases d:o.guard with
 |none=>rfl
 |some p=>
  obtain⟨j,b⟩:=p;dsimp only;cases e:(nth ops j).bind (·.dst)with|none=>rfl|some k=>simp only[IS];rw[h k (by simp only[mP,d,e])]
def Gl(E:fY S)(call:iC S){o:Oper}(s:bq S){ω:Type}(kp:V S->bq S->Option ω)(k:V S->bq S->List Nat->Option ω)(hn:fr.n=fr'.n)(d:∀k∈tmpsOf o.op,k<bB)
  (h:∀k∈tmpsOf o.op,fr.get k=fr'.get k) (b:∀k,mP ops o=Z k->fr.get k=fr'.get k):mC E call ops o fr s kp k=mC E call ops o fr' s kp k:=by
 unfold mC;have h1:fV fr o.dst=fV fr' o.dst:=by cases o.dst<;>simp only[fV,hn]
 have h2:=iF h;have h3:=iF (pM d h);rw[h1,nO b,pF b];simp only[y6 E call o s kp k h2,y6 E call o s kp k h3,IQ E o h3,r9 (o:=o.op) _ h];have h4:∀c,eB E (Z c) (mQ fr o.op) s o (λt=>k (.gd c t) s [])=eB E (Z c) (mQ fr' o.op) s o (λt=>k (.gd c t) s []):=λc=>g7 E _ o s _ h3;simp only[h4]
end
def Fb{ω:Type}(k:V S->Option ω){D:Option ω}{b:Option (V S)}(h:D=b.bind k):∀l:List (Bool×V S×bq S),sS k D l=(sS Z b l).bind k
 |[]=>h
 |p::l=>by simp only[sS,Fb k h l];cases p.1<;>rfl
def y4(E:fY S)(g:Option Bool)(fr:bW S)(s:bq S)(o:Oper){ω:Type}(k:V S->Option ω):eB E g fr s o k=(eB E g fr s o Z).bind k:=by
 have d:∀(p:Bool)(t:V S),xq g p (k t)=(xq g p (Z t)).bind k:=by
  intro p t;cases g with
  |none=>cases p<;>rfl
  |some c=>cases c<;>cases p<;>rfl
 unfold eB;split
 .split
  .rfl
  .split
   .rename_i b _;cases ym b with
    |false=>rfl
    |true=>
     simp only[cG];split
     .exact d _ _
     .rfl
   .split
    .rfl
    .split
     .rfl
     .rename_i c _;cases(bU c.ps&&(jb c.rs&&(iU _&&!c.pn)))with
      |false=>rfl
      |true=>
       simp only[cG];split
       .unfold ai;split
        .rename_i r _;dsimp only;generalize RT.res c.pn r=q;cases q<;>rfl
        .rfl
       .rfl
   .rfl
 iterate 11
  .rfl
 .split
  .rename_i l _;cases iU (l.map (·.2))with
   |false=>rfl
   |true=>
    simp only[cG];split
    .rfl
    .exact d _ _
  .rfl
 .split
  .rename_i v _;cases qP v with
   |false=>rfl
   |true=>
    simp only[cG];split
    .rfl
    .exact d _ _
  .rfl
 .split
  .exact Fb k (d _ _) _
  .split
   .rfl
   .exact d _ _
def Sm(s s':bq S)(v:V S):Prop:=∀o,cD (Nat.beq o) v=W->s'.ob.get o=s.ob.get o
def Sms(s s':bq S)(l:List (V S)):Prop:=∀o,gZ (Nat.beq o) l=W->s'.ob.get o=s.ob.get o
def Sms.cons{s s':bq S}{l:List (V S)}(h:Sms s s' (v::l)):Sm s s' v∧Sms s s' l:=
 ⟨λo b=>h o (by simp[gZ,b]),λo b=>h o (by simp[gZ,b])⟩
def zP{s s':bq S}(h:Sm s s' v)(e:Ty):Iz s' e v=Iz s e v:=by
 cases v with
 |sh o r=>simp only[Iz,h o (by simp[cD])]
 |ty t x=>cases t<;>rfl
 |_=>rfl
def QY{s s':bq S}{o:Nat}(h:s'.ob.get o=s.ob.get o)(e:Nat):JJ s' o e=JJ s o e:=by simp only[JJ,h]
mutual
def xW{s s':bq S}:∀(t:Ty)(v:V S),Sm s s' v->qP v=W->bO s' t v=bO s t v
 |t,.agg e,h,b=>by cases t with|st n=>simp only[bO,Ky (S.fs n) e h b]|_=>simp only[bO]
 |t,.cR u v,h,b=>by
  cases t with
  |cR n=>
   simp only[bO];cases oX (S.alts n) u with|none=>rfl|some i=>simp only[xW (lP (S.alts n) i) v h b]
  |_=>simp only[bO]
 |t,.sh o r,_,b=>by simp[qP]at b
 |t,.qd _ _ _ _,_,b=>by simp[qP]at b
 |t,.nQ _ _ _,_,_=>by cases t<;>simp only[bO]
 |t,.ty _ _,_,_=>by simp only[bO]
 |t,.kb _,_,_=>by cases t<;>simp only[bO]
 |t,.kn _ _,_,_=>by cases t<;>simp only[bO]
 |t,.dat d,_,_=>by
  cases t with
  |cR n=>
   cases d with
   |lit v=>cases v<;>simp only[bO]
   |_=>simp only[bO]
  |_=>simp only[bO]
 |t,.ptr _ _,_,_=>by cases t<;>simp only[bO]
 |t,.mD _ _ _,_,_=>by cases t<;>simp only[bO]
 |t,.kA _ _ _ _,_,_=>by cases t<;>simp only[bO]
 |t,.emp,_,_=>by cases t<;>simp only[bO]
 |t,.jy _ _ _,_,_=>by cases t<;>simp only[bO]
 |t,.fn _ _ _,_,_=>by cases t<;>simp only[bO]
 |t,.gm _,_,_=>by cases t<;>simp only[bO]
 |t,.gd _ _,_,_=>by cases t<;>simp only[bO]
 |t,.mp _,_,_=>by cases t<;>simp only[bO]
 |t,.ry _,_,_=>by cases t<;>simp only[bO]
 |t,.ru _,_,_=>by cases t<;>simp only[bO]
 |t,.ub _,_,_=>by cases t<;>simp only[bO]
def Ky{s s':bq S}:∀(ts:List Ty)(l:List (V S)),Sms s s' l->iU l=W->mG s' ts l=mG s ts l
 |[],[],_,_=>rfl
 |t::ts,v::l,h,b=>by simp only[iU,dR]at b;simp only[mG,xW t v h.cons.1 b.1,Ky ts l h.cons.2 b.2]
 |[],_::_,_,_=>rfl
 |_::_,[],_,_=>rfl
end
def fN(r:oY S):Option (Bool×V S):=match r with
 |some (c,t,_)=>Z (c,t)
 |none=>Y
def n6(h:b=W->fN x=fN y):fN (bif b then x else Y)=fN (bif b then y else Y):=by cases b with|true=>exact h rfl|false=>rfl
def OK{x' d:oY S}(h:fN x=fN x')(e:fN y=fN d):fN (bif b then x else y)=fN (bif b then x' else d):=by cases b with|true=>exact h|false=>exact e
def fM{α:Type}(x:Option α)(f g:α->Bool×V S×bq S)(h:∀a,(f a).1=(g a).1∧(f a).2.1=(g a).2.1):fN (x.map f)=fN (x.map g):=by cases x with|none=>rfl|some a=>simp only[fN,dX,(h a).1,(h a).2]
section
variable {fr:bW S}{s s':bq S}
def Vc(i:TI)(τ:Option Ty)(h:Sm s s' a):fN (wu i τ s' a)=fN (wu i τ s a):=by
 cases a with
 |ptr o off=>
  simp only[wu,h o (by simp[cD])];cases s.ob.get o with
  |none=>rfl
  |some ob=>
   cases ob with
   |box b=>
    dsimp only;cases Nat.beq (cz ((b.drop off).take i.size)) i.size with|false=>rfl|true=>exact fM _ _ _ λ_=>⟨rfl,rfl⟩
   |_=>rfl
 |mD t x off=>exact fM _ _ _ λ_=>⟨rfl,rfl⟩
 |kA o e k off=>
  simp only[wu,QY (h o (by simp[cD]))];cases JJ s o e with|none=>rfl|some x=>exact fM _ _ _ λ_=>⟨rfl,rfl⟩
 |_=>rfl
def Gf(i:TI)(τ:Option Ty){b:V S}(h:Sm s s' a):fN (ju i τ s' a b)=fN (ju i τ s a b):=by
 unfold ju;split
 .rename_i e n d _;cases a with
  |sh o r=>
   simp only[QY (h o (by simp[cD]))];cases JJ s o r with|none=>rfl|some x=>dsimp only;cases rA x.1 e<;>rfl
  |ty t x=>dsimp only;rw[zP h];cases Iz s e (.ty t x)<;>rfl
  |emp=>rfl
  |jy n t l=>dsimp only;rw[zP h];cases Iz s e (.jy n t l)<;>rfl
  |nQ n t l=>dsimp only;rw[zP h];cases Iz s e (.nQ n t l)<;>rfl
  |_=>rfl
 .rfl
def Yx(E:gA)(o:Op)(d:oD o=J)(e:∀x∈o.operands.toList,∀v,ck fr x=Z v->Sm s s' v):fN (cm E fr s' o)=fN (cm E fr s o):=by
 cases o with
 |alloc=>cases d
 |box=>cases d
 |store=>cases d
 |buildSlice=>cases d
 |slice=>cases d
 |move x=>exact fM _ _ _ λ_=>⟨rfl,rfl⟩
 |assign x=>exact fM _ _ _ λ_=>⟨rfl,rfl⟩
 |pick x y z=>
  simp only[cm];split
  .exact fM _ _ _ λ_=>⟨rfl,rfl⟩
  .rfl
 |build t ps=>
  simp only[cm];split
  .split
   .exact fM _ _ _ λ_=>⟨rfl,rfl⟩
   .rfl
  .rfl
 |load t x=>
  simp only[cm];split
  .rename_i i a h1 h2;exact Vc _ _ (e x (by simp[Op.operands]) _ h2)
  .rfl
 |nilCheck x=>
  simp only[cm];split<;>first|rfl|(split<;>rfl)
 |binOp op t x y u=>
  simp only[cm];split
  .exact fM _ _ _ λ_=>⟨rfl,rfl⟩
  .rfl
 |unOp op t x=>
  simp only[cm];split
  .exact fM _ _ _ λ_=>⟨rfl,rfl⟩
  .rfl
 |convert t u x=>
  simp only[cm];split
  .unfold QS;split
   .exact fM _ _ _ λ_=>⟨rfl,rfl⟩
   .exact fM _ _ _ λ_=>⟨rfl,rfl⟩
   .rfl
  .rfl
 |makeInterface t x=>
  simp only[cm];split
  .split<;>rfl
  .rfl
 |makeFunc f a b=>simp only[cm];split<;>rfl
 |extract x k=>
  simp only[cm];split
  .unfold yY;split
   .exact fM _ _ _ λ_=>⟨rfl,rfl⟩
   .rfl
  .rfl
 |fieldAddr t x k=>
  simp only[cm];split
  .unfold oO;split
   .split
    .rename_i off size g _;cases Nat.beq size 0 with
     |true=>rfl
     |false=>
      first|rfl|(simp only[dP];split<;>rfl)
    .rfl
   .rfl
  .rfl
 |field t x k=>
  simp only[cm];split
  .unfold Al;split
   .split
    .rename_i off size g j _ _;dsimp only;cases(Nat.beq (cz ((j.drop off).take size)) size&&!(Nat.beq size 0))with|false=>rfl|true=>exact fM _ _ _ λ_=>⟨rfl,rfl⟩
    .rfl
   .rfl
  .rfl
 |indexAddr t x l=>
  simp only[cm];split
  .rename_i i v n h1 h2 h3;exact Gf _ _ (e x (by simp[Op.operands]) _ h2)
  .rfl
 |index t x l=>
  simp only[cm];split
  .unfold Ae;split<;>rfl
  .rfl
 |typeAssert x a t ok=>
  simp only[cm];split
  .rename_i i v h1 h2;unfold CG;split
   .rfl
   .rename_i u v _;cases Nat.beq u t with|true=>rfl|false=>exact fM _ _ _ λ_=>⟨rfl,rfl⟩
   .rename_i u v _;cases Nat.beq u t<;>rfl
   .rfl
  .rfl
 |_=>rfl
end
section
variable {fr:bW S}{s s':bq S}
def kL(h:fN r=fN r'):r=Y↔r'=Y:=by cases r<;>cases r'<;>simp_all [fN]
def YE{s s':bq S}{kt vt:Ty}(h:Sm s s' v):U8 s' kt vt v=U8 s kt vt v:=by
 unfold U8;split
 .rename_i o;rw[h o (by simp[cD])]
 .rfl
 .rfl
def abR(E:gA)(o:Op)(b:oD o=J)(d:∀x∈o.operands.toList,∀v,ck fr x=Z v->Sm s s' v):fN (qK E fr s' o)=fN (qK E fr s o):=by
 cases o with
 |makeMap=>cases b
 |mapUpdate=>cases b
 |insert=>cases b
 |makeSlice=>cases b
 |range=>cases b
 |lookup t x e ok=>
  simp only[qK];split
  .rename_i m g k h1 h2 h3;have:=d x (by simp[Op.operands]) _ h2;simp only[YE this];split
   .split<;>rfl
   .rfl
  .rfl
 |nilCheck x=>simp only[qK];split<;>rfl
 |typeAssert x t u ok=>
  simp only[qK];split
  .rename_i i τ n y _ _ _;split
   .rfl
   .rename_i j _ _;cases rA (lP (S.alts n) j) τ<;>cases ok<;>rfl
   .cases ok<;>rfl
  .rfl
 |build t ps=>
  simp only[qK];split
  .split
   .exact fM _ _ _ λ_=>⟨rfl,rfl⟩
   .rfl
  .rfl
 |binOp op t x y u=>
  cases op<;>first
   |rfl
   |(
     cases y with
     |const v=>
      cases v with
      |nilIface=>simp only[qK];split<;>first|rfl|(split<;>rfl)
      |slice a n m=>
       cases a<;>cases n<;>cases m<;>first
        |rfl
        |(
         simp only[qK];split
         .rename_i h2;have:=d x (by simp[Op.operands]) _ h2;simp only[zP this];split<;>rfl
         .rfl)
      |_=>rfl
     |_=>rfl)
 |_=>rfl
def abV(E:gA)(o:Op)(b:oD o=J)(d:∀x∈o.operands.toList,∀v,ck fr x=Z v->Sm s s' v):fN (z4 E fr s' o)=fN (z4 E fr s o):=by
 cases o with
 |store=>cases b
 |buildSlice=>cases b
 |indexAddr t x g=>
  simp only[z4];split
  .rename_i o r h1;rw[d x (by simp[Op.operands]) _ h1 o (by simp[cD])];split
   .split
    .split
     .exact n6 λ_=>rfl
     .rfl
    .rfl
   .rfl
  .rfl
 |load t a=>
  simp only[z4];split
  .rename_i o e k off h1;rw[d a (by simp[Op.operands]) _ h1 o (by simp[cD])];split
   .split
    .exact n6 λ_=>OK (n6 λ_=>rfl) (n6 λ_=>fM _ _ _ λ_=>⟨rfl,rfl⟩)
    .rfl
   .rfl
  .rfl
 |_=>rfl
def Qo(E:gA)(b:fN (z4 E fr s' o)=fN (z4 E fr s o))(h1:fN (cm E fr s' o)=fN (cm E fr s o))(h2:fN (qK E fr s' o)=fN (qK E fr s o)):fN (yD E fr s' o)=fN (yD E fr s o):=by
 unfold yD;cases h5:z4 E fr s o with
 |some r=>
  cases h4:z4 E fr s' o with
  |none=>rw[(kL b).1 h4]at h5;cases h5
  |some r'=>rw[h5,h4]at b;exact b
 |none=>
 rw[(kL b).2 h5];dsimp only;cases h3:cm E fr s o with
 |none=>rw[(kL h1).2 h3];exact h2
 |some r=>
  cases h4:cm E fr s' o with
  |none=>rw[(kL h1).1 h4]at h3;cases h3
  |some r'=>rw[h3,h4]at h1;exact h1
def abS(E:gA)(o:Op)(b:oD o=J)(d:∀x∈o.operands.toList,∀v,ck fr x=Z v->Sm s s' v):fN (yD E fr s' o)=fN (yD E fr s o):=by have h1:=Yx E o b d;have h2:=abR E o b d;have e:=abV E o b d;exact Qo E e h1 h2
def Gr(b:List (Bool×V S×bq S)):List (Bool×V S):=b.map λp=>(p.1,p.2.1)
def H9{ω:Type}(k:V S->Option ω)(d:Option ω):∀{l m:List (Bool×V S×bq S)},Gr l=Gr m->sS k d l=sS k d m
 |[],[],_=>rfl
 |p::l,q::m,h=>by simp only[Gr,lI,KZ,bC]at h;simp only[sS,h.1.1,h.1.2,H9 k d (l:=l) (m:=m) h.2]
 |[],_::_,h=>by simp[Gr]at h
 |_::_,[],h=>by simp[Gr]at h
def Wx(r:Option (List (Bool×V S×bq S)×Bool×V S×bq S)):Option (List (Bool×V S)×Bool×V S):=match r with
 |none=>Y
 |some (l,p,d,_)=>Z (Gr l,p,d)
def Fc(n:Int)(ag:Bool)(sz:Nat)(cs:List (V S))(s s':bq S):∀l:List Nat,Gr (xE n ag sz cs s' l)=Gr (xE n ag sz cs s l)
 |[]=>rfl
 |j::l=>by
  simp only[xE];split
  .simp only[Gr,lI,KZ,true_and];exact Fc n ag sz cs s s' l
  .rfl
def abT(E:gA)(o:Op)(d:oD o=J)(e:∀x∈o.operands.toList,∀v,ck fr x=Z v->Sm s s' v):Wx (iI E fr s' o)=Wx (iI E fr s o):=by
 cases o with
 |next=>cases d
 |lookup t x g ok=>
  simp only[iI];split
  .rename_i m b j h1 h2 h3;have:=e x (by simp[Op.operands]) _ h2 b (by simp[cD]);rw[this];split
   .split
    .simp only[Wx,Gr,List.map_map];rfl
    .rfl
   .rfl
  .rfl
 |index t x g=>
  simp only[iI];split
  .rename_i i k j _ _ _;split
   .cases Nat.beq (cz k) i.size with|false=>rfl|true=>simp only[cG,Wx,Fc _ _ _ _ s s']
   .rfl
  .rfl
 |_=>rfl
end
def HR{s s':bq S}{e:Ty}:∀{ps:List (Nat×V S)}{es:List (den S.A e)},(∀p∈ps,Sm s s' p.2)->(∀p∈ps,qP p.2=W)->l7 s' e es ps=l7 s e es ps
 |[],es,_,_=>rfl
 |(k,v)::ps,es,h,b=>by simp only[l7,xW e v (h _ ez) (b _ ez)];cases bO s e v with|none=>rfl|some x=>dsimp only;rw[HR (λp hp=>h p (gJ _ hp)) (λp hp=>b p (gJ _ hp))]
def DE{fr:bW S}:∀{ps:List (Nat×Operand)}{l:List (Nat×V S)},ir fr ps=Z l->∀p∈l,∃x∈ps.map (·.2),ck fr x=Z p.2
 |[],l,h,p,hp=>by simp only[ir,bg]at h;subst h;cases hp
 |(k,x)::ps,l,h,p,hp=>by
  simp only[ir]at h;split at h
  .rename_i t r h1 h2;simp only[bg]at h;subst h;rcases eR.1 hp with rfl|hp
   .exact ⟨x,by simp,h1⟩
   .obtain ⟨y,b,h⟩:=DE h2 p hp;exact⟨y,by simp at b ⊢;exact .inr b,h⟩
  .cases h
def Ho{fr:bW S}:∀{ps:List Operand}{l:List (V S)},jP fr ps=Z l->∀v∈l,∃x∈ps,ck fr x=Z v
 |[],l,h,p,hp=>by simp only[jP,bg]at h;subst h;cases hp
 |x::ps,l,h,p,hp=>by
  simp only[jP]at h;split at h
  .rename_i t r h1 h2;simp only[bg]at h;subst h;rcases eR.1 hp with rfl|hp
   .exact ⟨x,by simp,h1⟩
   .obtain ⟨y,b,h⟩:=Ho h2 p hp;exact⟨y,gJ _ b,h⟩
  .cases h
def Rt(i:TI)(τ:Option Ty){s s':bq S}(hs:∀e,Iz s' e v=Iz s e v)(g:Lv v=[])(l h m:Option (V S)):fN (tH i τ s' v l h m)=fN (tH i τ s v l h m):=by
 unfold tH;rw[g];simp only[dz,hs];split
 .split
  .split<;>rfl
  .rfl
 .rename_i e lo _;cases i.kd with
  |slice a b c d=>
   cases Iz s e v with
   |none=>rfl
   |some j=>
    dsimp only;cases AE (ak j) h with
    |none=>rfl
    |some hi=>
     cases m with
     |none=>rfl
     |some y=>
      cases h with
      |none=>rfl
      |some z=>
       dsimp only;cases y with
       |kn k n=>
        cases k with
        |i64=>cases n with
         |ofNat n=>cases n<;>rfl
         |negSucc n=>rfl
        |_=>rfl
       |ty t x=>dsimp only;cases gF .i64 (V.ty (S:=S) t x)<;>rfl
       |_=>rfl
  |_=>rfl
 .rfl
def Hl{s s':bq S}:∀{ps:List Pk}{l:List (V S)},bU ps=W->(∀v∈l,Sm s s' v)->iU l=W->dZ s' ps l=dZ s ps l
 |[],[],_,_,_=>rfl
 | .one (.dat t)::ps,v::l,b,h,d=>by simp only[iU,dR]at d;simp only[dZ,lK,xW t v (h v ez) d.1,Hl (ps:=ps) (by simpa[bU]using b) (λv e=>h v (gJ _ e)) d.2]
 | .one (.own _)::_,_,b,_,_=>by simp[bU]at b
 | .one (.jr ..)::_,_,b,_,_=>by simp[bU]at b
 | .one (.nil _)::_,_,b,_,_=>by simp[bU]at b
 | .one (.ptr _)::_,_,b,_,_=>by simp[bU]at b
 | .box _::_,_,b,_,_=>by simp[bU]at b
 |[],_::_,_,_,_=>rfl
 | .one _::_,[],_,_,_=>rfl
def xe{p:Nat->Bool}:∀{l:List (V S)}{v:V S},v∈l->cD p v=W->gZ p l=W
 |a::l,v,h,b=>by
  rcases eR.1 h with rfl|h
  .simp[gZ,b]
  .simp[gZ,xe h b]
def Cf(E:gA){s s':bq S}{ts:Array TypeId}(h:∀v∈args,Sm s s' v):fN (eZ E s' .len ts args)=fN (eZ E s .len ts args):=by
 unfold eZ;split
 .rename_i x _;split
  .split<;>rfl
  .split
   .rw[zP (h _ (by simp))];exact fM _ _ _ λ_=>⟨rfl,rfl⟩
   .rfl
  .rfl
 .rename Builtin.len=Builtin.append=>b
  cases b
 .rfl
def AA(E:gA){s s':bq S}{b:Builtin}(e:ym b=W){ts:Array TypeId}(h:∀v∈args,Sm s s' v):fN (kg E s' b ts args)=fN (kg E s b ts args):=by
 have h1:fN (eZ E s' b ts args)=fN (eZ E s b ts args):=by cases b with|len=>exact Cf E h|max=>simp[eZ]|min=>simp[eZ]|_=>cases e
 have h2:fN (qZ E s' b ts args)=fN (qZ E s b ts args):=by
  unfold qZ;split
  .rename_i o;rw[h (.mp o) (by simp) o (by simp[cD])];split<;>rfl
  .split<;>rfl
  .split<;>rfl
  .rfl
 have d:fN (jz E s' b ts args)=fN (jz E s b ts args):=by
  unfold jz;split
  .rename_i o r;rw[h (.sh o r) (by simp) o (by simp[cD])];split
   .split
    .split
     .exact n6 λ_=>rfl
     .rfl
    .rfl
   .rfl
  .cases e
  .cases e
  .rfl
 unfold kg;cases h5:jz E s b ts args with
 |some r=>
  cases h4:jz E s' b ts args with
  |none=>rw[(kL d).1 h4]at h5;cases h5
  |some r'=>rw[h5,h4]at d;exact d
 |none=>
 rw[(kL d).2 h5];dsimp only;cases h3:eZ E s b ts args with
 |none=>rw[(kL h1).2 h3];exact h2
 |some r=>
  cases h4:eZ E s' b ts args with
  |none=>rw[(kL h1).1 h4]at h3;cases h3
  |some r'=>rw[h3,h4]at h1;exact h1
def abD{α:Type}(f:Bool->V S->Option α)(r:oY S):Option α:=match r with
 |none=>Y
 |some (p,t,_)=>f p t
def zc{α:Type}(h:fN r=fN r')(f:Bool->V S->Option α):abD f r=abD f r':=by
 cases r with
 |none=>cases r' with|none=>rfl|some x=>cases h
 |some x=>cases r' with
  |none=>cases h
  |some y=>simp only[fN,bg,bC]at h;simp only[abD];rw[h.1,h.2]
def Ey(E:fY S)(g:Option Bool){fr:bW S}{s s':bq S}(o:Oper){ω:Type}(k:V S->Option ω)(m:∀x∈o.op.operands.toList,∀v,ck fr x=Z v->Sm s s' v) :
  eB E g fr s' o k=eB E g fr s o k:=by
 unfold eB;have H:oD o.op=J->fN (yD E.T fr s' o.op)=fN (yD E.T fr s o.op):=λhq=>abS E.T o.op hq m;cases I:o.op with
 |call c=>
  rw[I]at m;simp only[Op.operands,Call.operands,FZ,dY]at m;dsimp only;cases O:jP fr c.args.toList with
  |none=>rfl
  |some args=>
   dsimp only;have r:∀v∈args,Sm s s' v:=λv B=>by obtain⟨x,C,h⟩:=Ho O v B;exact m x (.inr C) v h
   cases R:c.callee with
   |value f=>
    dsimp only;cases hf:ck fr f with
    |none=>rfl
    |some v=>
     simp only[IS];have B:=m f (.inl (by rw[R];simp)) v hf;cases d:nS v args with
     |none=>rfl
     |some q=>
      obtain⟨f',w⟩:=q;dsimp only;cases hg:E.Gj f' with
      |none=>rfl
      |some c'=>
       dsimp only;have z:∀v∈w,Sm s s' v:=by
        unfold nS at d;split at d
        .simp only[bg,bC]at d;obtain⟨_,rfl⟩:=d;intro u hu;simp only[dY]at hu;rcases hu with(hu|hu)|hu
         .exact λo U=>B o (by simp[cD,xe hu U])
         .exact r u hu
         .exact λo U=>B o (by simp[cD,xe hu U])
        .cases d
       cases X:bU c'.ps with
       |false=>rfl
       |true=>
        cases hns:iU w with|false=>simp|true=>rw[Hl X z hns]
   |builtin b=>
    dsimp only;cases hb:ym b with
    |false=>rfl
    |true=>
     simp only[cG];have:=zc (AA E.T hb (ts:=c.argTypes) r) (λp t=>xq g p (k t));cases h1:kg E.T s' b c.argTypes args with
     |none=>cases h2:kg E.T s b c.argTypes args with|none=>rfl|some y=>rw[h1,h2]at this;exact this
     |some x=>cases h2:kg E.T s b c.argTypes args with|none=>rw[h1,h2]at this;exact this|some y=>rw[h1,h2]at this;exact this
   |invoke=>rfl
 |buildSlice t n ps=>
  rw[I]at m;simp only[Op.operands]at m;dsimp only;cases K:ir fr ps.toList with
  |none=>rfl
  |some l=>
   dsimp only;cases G:iU (l.map (·.2))with
   |false=>rfl
   |true=>
    refine zc ?_ (λp t=>xq g p (k t));refine Qo E.T ?_ ?_ rfl
    .simp only[z4];split
     .rename_i kx L;split
      .split
       .split
        .refine n6 λ_=>?_;have hmm:=m (.tmp kx) (by rw[L];simp);rename_i C _ _ _ _ _ _ _ _ _ _ _ _;rw[L]at K;simp only[ir,ck,C,bg]at K;subst K;simp only[lI,GR,iU,vI]at G;rw[xW _ _ (hmm _ C) G];split
         .rename_i LU;have:=qO _ _ _ G LU;subst this;rfl
         .rfl
        .rfl
       .rfl
      .rfl
     .split
      .split
       .cases Nat.beq n 0<;>rfl
       .rfl
      .rfl
     .rfl
    simp only[cm,K];split
    .rename_i i e ps' h1 h2 h3;cases h3;split
     .rename_i sz _ _ _ _;cases Nat.ble (Nat.mul n sz) 16777216 with
      |false=>rfl
      |true=>
       simp only[cG];rw[HR (λp hp=>by
        obtain⟨x,C,h⟩:=DE K p hp;exact m x (by simpa using C) _ h) (DN G)]
       cases hel:l7 s e (List.replicate n (S.zero e)) l with|none=>rfl|some q=>obtain⟨es,os⟩:=q;have:=Ar (DN G) hel;subst this;rfl
     .rfl
    .rfl
 |slice t x lo hi mx=>
  rw[I]at m;dsimp only;cases B:ck fr x with
  |none=>rfl
  |some v=>
   dsimp only;cases G:qP v with
   |false=>rfl
   |true=>
    refine zc ?_ (λp t=>xq g p (k t));have hsm:=m x (by simp[Op.operands]) v B;have M:Lv v=[]:=by cases v<;>first|rfl|simp[qP]at G
    rw[Ct rfl rfl,Ct rfl rfl];simp only[cm,B];split
    .rename_i i a l1 l2 l3 _ O _ _ _;cases O;exact Rt i _ (λe=>zP hsm e) M _ _ _
    .rfl
 |store=>rfl
 |alloc=>rfl
 |box=>rfl
 |panic=>rfl
 |makeMap=>rfl
 |mapUpdate=>rfl
 |insert=>rfl
 |makeSlice=>rfl
 |range=>rfl
 |next=>rfl
 |defer=>rfl
 |_=>
  have j:=abT E.T o.op (by rw[I];rfl) m;rw[I]at H j;dsimp only;have h2:=zc (H rfl) (λp t=>xq g p (k t));generalize C:iI E.T fr s' _=x at j;generalize hy:iI E.T fr s _=y at j;cases x with
  |none=>cases y with|none=>exact h2|some y=>cases j
  |some x=>cases y with
   |none=>cases j
   |some y=>simp only[Wx,bg,bC]at j;obtain⟨q1,q2,q3⟩:=j;dsimp only;rw[q2,q3];exact H9 k _ q1
end
section
def JF(e j:Nat):(1 <<< e).testBit j=decide (e=j):=by rw[Nat.shiftLeft_eq,tL,Nat.testBit_two_pow]
def HL(f:Nat->Nat)(j:Nat):∀(l:List Nat)(z:Nat),(l.foldl (λb e=>b||| (1 <<< e||| f e)) z).testBit j=(z.testBit j||l.any λe=>decide (e=j)||(f e).testBit j)
 |[],z=>by simp
 |e::l,z=>by rw[Bh,HL f j l];simp only[yo,JF,List.any_cons,Bool.or_assoc]
def uB:∀(l:List Oper)(b:List Nat)(i:Nat),i<b.length->(MU l b).getD i 0=b.getD i 0
 |[],_,_,_=>rfl
 |o::l,b,i,h=>by rw[MU,uB l _ i (by rw[iq];omega)];simp only[j6,Lj h]
def any_eq{α:Type}{f g:α->Bool}:∀{l:List α},(∀e∈l,f e=g e)->l.any f=l.any g
 |[],_=>rfl
 |a::l,h=>by rw[List.any_cons,List.any_cons,h a ez,any_eq λe b=>h e (gJ _ b)]
def QW:∀(l:List Oper)(acc:List Nat)(k:Nat)(o:Oper),l[k]?=Z o->sQ l acc.length=W->∀j,
  ((MU l acc).getD (acc.length+k) 0).testBit j=(vU o).any λe=>decide (e=j)||((MU l acc).getD e 0).testBit j
 |[],acc,k,o,h,_,j=>by simp at h
 |p::l,acc,k,o,h,d,j=>by
  simp only[sQ,dR]at d;cases k with
  |zero=>simp only[rM,bg]at h;subst h;rw[MU,uB _ _ _ (by rw[iq];simp)];simp only[Bg,j6,UJ (bP _),Nat.sub_self,rM,zU];rw[HL];simp only[Nat.zero_testBit,GV];refine any_eq λe i=>?_;have g:e<acc.length:=fQ (eA.1 d.1 e i);have:=uB l (acc++[(vU p).foldl (λb e=>b||| (1 <<< e||| acc.getD e 0)) 0]) e (by rw[iq];omega);simp only[j6,Lj g]at this ⊢;rw[this]
  |succ k=>rw[MU];have:=QW l (acc++[(vU p).foldl (λb e=>b||| (1 <<< e||| acc.getD e 0)) 0]) k o (by simpa using h) (by simpa using d.2) j;rw[iq,mZ,show acc.length+1+k=acc.length+(k+1)by omega]at this;exact this
section
variable {ops:List Oper}
def Pre(ops:List Oper)(i j:Nat):Prop:=((uA ops).getD i 0).testBit j=W
variable {i d:Nat}{o:Oper}
def Cr(b:sQ ops 0=W)(h:ops[i]?=Z o)(j:Nat):Pre ops i j↔∃e∈vU o,e=j∨Pre ops e j:=by have:=QW ops [] i o h b j;rw[w4,jl]at this;unfold Pre uA;rw[this,Lb];simp only[jQ,jR]
def zm:∀{l:List Oper}{n:Nat},sQ l n=W->∀{k:Nat}{o:Oper},l[k]?=Z o->∀e∈vU o,e<n+k
 |[],_,_,k,o,h,_,_=>by simp at h
 |p::l,n,b,k,o,h,e,d=>by simp only[sQ,dR]at b;cases k with|zero=>simp only[rM,bg]at h;subst h;exact fQ (eA.1 b.1 e d)|succ k=>have:=zm b.2 (k:=k) (by simpa using h) e d;omega
def NT(d:sQ ops 0=W):∀{i:Nat}{o:Oper},ops[i]?=Z o->∀j,Pre ops i j->j<i:=by
 intro i
 induction i using Nat.strongRecOn with
 |_ i g=>
  intro o h j hp;obtain⟨e,k,VT⟩:=(Cr d h j).1 hp;have l:=zm d h e k;rcases VT with rfl|VT
  .omega
  .have b:e<ops.length:=by have:=(tc.1 h).1;omega
   have:=g e (by omega) (fP b) j VT;omega
def RO(b:sQ ops 0=W):∀{i:Nat}{o:Oper},ops[i]?=Z o->∀{j k:Nat},Pre ops i j->Pre ops j k->Pre ops i k:=by
 intro i
 induction i using Nat.strongRecOn with
 |_ i m=>
  intro o h j k hp g;obtain⟨e,l,VT⟩:=(Cr b h j).1 hp;refine(Cr b h k).2 ⟨e,l,.inr ?_⟩;rcases VT with rfl|VT
  .exact g
  .have p:=zm b h e l;have d:e<ops.length:=by have:=(tc.1 h).1;omega
   exact m e (by omega) (fP d) VT g
def lX(g:sQ ops 0=W){L:Nat->Prop}(l:∀i o,ops[i]?=Z o->L i->∀e∈vU o,L e):∀{i:Nat}{o:Oper},ops[i]?=Z o->(∀e∈vU o,L e)->∀j,Pre ops i j->L j:=by
 intro i
 induction i using Nat.strongRecOn with
 |_ i m=>
  intro o h k j hp;obtain⟨e,d,VT⟩:=(Cr g h j).1 hp;rcases VT with rfl|VT
  .exact k _ d
  .have p:=zm g h e d;have b:e<ops.length:=by have:=(tc.1 h).1;omega
   exact m e (by omega) (fP b) (l e _ (fP b) (k e d)) j VT
def xY{a b:Nat}:Rr a b=W↔∀j,a.testBit j=W->b.testBit j=W:=by
 unfold Rr;constructor
 .intro h j d;have h:a&&& b=a:=nF h;have:=mJ (λn=>n.testBit j) h;simp only[Nat.testBit_and,d,dM]at this;exact this
 .intro h;have:a&&& b=a:=Nat.eq_of_testBit_eq λj=>by rw[Nat.testBit_and];cases d:a.testBit j with|false=>rfl|true=>rw[h j d];rfl
  rw[this];simp
def qc(ops:List Oper):TA:=ops.zipIdx.map λp=>(p.2,p.1)
def iM:(i,o)∈qc ops↔ops[i]?=Z o:=by
 unfold qc;rw[tK];constructor
 .rintro ⟨⟨p,k⟩,d,b⟩
  simp only[bC]at b;obtain⟨rfl,rfl⟩:=b;exact IV.1 d
 .intro h;exact⟨(o,i),IV.2 h,rfl⟩
def so(h:ZU ops (uA ops)=W)(hi:ops[i]?=Z o)(r:o.dst=Z d) :
  d<bB∧d∉tmpsOf o.op∧∀{j:Nat}{p:Oper},ops[j]?=Z p->i≠j->p.dst≠Z d∧(d∈tmpsOf p.op->Pre ops j i∨Pre ops i j):=by
 unfold ZU at h;have h1:=eA.1 h (o,i) (IV.2 hi);simp only[r,dR]at h1;have b:∀{p:Oper},d∈tmpsOf p.op->Kr p d=W:=by intro p l;obtain⟨x,s,g⟩:=vJ.1 l;refine Lb.2 ⟨x,s,?_⟩;cases x with|tmp k=>simp only[bg]at g;subst g;simp|_=>cases g
 refine⟨fQ h1.1,λl=>?_,λ{j p}t m=>?_⟩
 .have h2:=eA.1 h1.2 (o,i) (IV.2 hi);have e:Nat.beq i i=W:=by simp
  simp only[e,cG,b l]at h2;cases h2
 .have h2:=eA.1 h1.2 (p,j) (IV.2 t);have e:Nat.beq i j=J:=by cases u:Nat.beq i j with|false=>rfl|true=>exact absurd (nF u) m
  simp only[e,dP,dR,jQ]at h2;refine⟨λq=>?_,λl=>?_⟩
  .have h3:=h2.1;rw[q]at h3;simp at h3
  .rcases h2.2 with h3|h3
   .rw[b l]at h3;cases h3
   .exact h3
def antiP(ops:List Oper)(i:Nat):Prop:=∃o,ops[i]?=Z o∧∃d,o.dst=Z d∧∃j p,ops[j]?=Z p∧d∈tmpsOf p.op∧Pre ops i j
def WL(hi:ops[i]?=Z o)(h:Q1 ops (uA ops) i o=J):¬antiP ops i:=by
 rintro⟨l,g,d,m,j,p,q,r,hp⟩
 have:o=l:=eK (hi.symm.trans g);subst this;unfold Q1 at h;rw[m]at h;have h1:=Lc.1 h (p,j) (IV.2 q);have e:Kr p d=W:=by obtain⟨x,s,b⟩:=vJ.1 r;refine Lb.2 ⟨x,s,?_⟩;cases x with|tmp k=>simp only[bg]at b;subst b;simp|_=>cases b
 refine h1 ?_;simp only[e,dM];exact hp
def V1(h:Jo ops (uA ops)=W)(hi:ops[i]?=Z o)(b:mP ops o=Z d):∃j p,ops[j]?=Z p∧p.dst=Z d∧Pre ops i j:=by
 unfold Jo at h;have h1:=eA.1 h (o,i) (IV.2 hi);unfold mP at b;cases g:o.guard with
 |none=>rw[g]at b;cases b
 |some q=>obtain⟨j,k⟩:=q;simp only[g]at b h1;rw[jq,rL]at b;obtain⟨p,hp,e⟩:=b;exact⟨j,p,hp,e,h1⟩
def CP(h:abC ops=W)(hi:ops[i]?=Z o):∀k∈tmpsOf o.op,k<bB:=by intro k d;obtain⟨x,e,b⟩:=vJ.1 d;have h1:=eA.1 h o (gY hi);have h2:=eA.1 h1 x e;cases x with|tmp j=>simp only[bg]at b;subst b;exact fQ h2|_=>cases b
def WM{E:gA}{n:Nat}(h:O2 E n ops=W)(hi:ops[i]?=Z o)(b:eJ o=W):o.guard=Y∧(∃t ti,o.op=.alloc t∧E.E.ti t=Z ti)∧∀d,o.dst=Z d->d<n:=by
 have h1:=eA.1 h o (gY hi);simp only[b,cG,dR]at h1;unfold eJ at b;split at b
 .rename_i t e;rw[e]at h1;have h2:(E.E.ti t).isSome=W:=h1.1;refine⟨by simpa using b,⟨t,?_⟩,λd j=>?_⟩
  .cases g:E.E.ti t with
   |none=>rw[g]at h2;cases h2
   |some ti=>exact⟨ti,e,rfl⟩
  .have h3:=h1.2;rw[j]at h3;exact fQ h3
 .cases b
def Hj(done:Nat):∀(l:TA)(z j:Nat),(l.foldl (λb(i,o)=>bif eJ o&&!(done.testBit i)then b||| 1 <<< i else b) z).testBit j=(z.testBit j||l.any λ(i,o)=>eJ o&&!(done.testBit i)&&decide (i=j))
 |[],z,j=>by simp
 |(i,o)::l,z,j=>by rw[Bh,Hj done l,List.any_cons];cases h:(eJ o&&!(done.testBit i))with|false=>simp only[h,dP,fG,GV]|true=>simp only[h,cG,yo,JF,dM,Bool.or_assoc]
def tN(done j:Nat):(wk (qc ops) done).testBit j=W↔∃o,ops[j]?=Z o∧eJ o=W∧done.testBit j=J:=by
 unfold wk;rw[Hj,Nat.zero_testBit,GV,Lb];constructor
 .rintro ⟨⟨i,o⟩,b,h⟩
  simp only[dR,Dp,jR]at h;obtain⟨⟨h1,h2⟩,rfl⟩:=h;exact⟨o,iM.1 b,h1,h2⟩
 .rintro ⟨o,d,h1,h2⟩
  exact⟨(j,o),iM.2 d,by simp[h1,h2]⟩
end
end
section
structure Gz(g:Gh)(w0 w:World)(b:Nat)(z:Array Value):Prop where
 new:w0.heap.size<=b
 lt:b<w.heap.size
 bA:¬g.bA b
 own:∀o,¬bM g o b
 mem:∃ty,w.heap[b]?=Z (.cells z ty (0,0))
section
variable {g g':Gh}{w0 w w':World}{b:Nat}{z:Array Value}
def Gz.zJ(h:Gz g w0 w b z){ow:List Nat}{s s':bq S}(d:cM ow s g w s' g' w')(j:s.fl=0):Gz g' w0 w' b z:=by
 obtain⟨ty,k⟩:=h.mem;refine⟨h.new,dy h.lt d.ext.size,λhi=>?_,λo e=>?_,ty,?_⟩
 .rcases d.ext.tZ b hi with hi|hi|⟨o,_,e⟩
  .exact h.bA hi
  .have:=h.lt;omega
  .exact h.own o e
 .rcases d.ext.own o b (by omega) e with⟨l,_,i⟩|hi
  .exact h.own l i
  .have:=h.lt;omega
 .rw[d.ext.heap b h.lt λo _=>h.own o];exact k
def bh.WN{s:St}(hs:bh g s w)(hn:s.aH<bB)(hf:Gz g w0 w b z){cs:List T}(hl:cs.length=z.size)
  (G:∀(j:Nat)(t:T)(v:Value),cs[j]?=Z t->z[j]?=Z v->aK g w t v) :
  bh (g.dg s.aH b) (ef s (.box cs)).2 w∧nW g (g.dg s.aH b)∧(∀k c,bM (g.dg s.aH b) k c->bM g k c∨(k=s.aH∧c=b)):=by
 have d:=hs.ai s.aH (bP _);have r:∀o c,g.cg o=Z c->(g.dg s.aH b).cg o=Z c:=λo c h=>by
  have:o≠s.aH:=λe=>by rw[e,d.1]at h;cases h
  simp[Gh.dg,this,h]
 have m:nW g (g.dg s.aH b):=⟨r,λ_ _ _ h=>h,λ_ h=>h⟩;have i:∀k c,bM (g.dg s.aH b) k c->bM g k c∨(k=s.aH∧c=b):=by
  rintro o c ⟨h1,h2|h2⟩
  .by_cases l:o=s.aH
   .subst l;simp[Gh.dg]at h2;exact .inr ⟨rfl,h2.symm⟩
   .simp[Gh.dg,l]at h2;exact .inl ⟨h1,.inl h2⟩
  .exact .inl ⟨h1,.inr h2⟩
 obtain⟨ty,H⟩:=hf.mem;refine⟨⟨by simp only[ef];omega,λo l=>?_,λo c u=>?_,λo e x I=>?_,hs.bA,λo y c h K=>?_⟩,m,i⟩
 .simp only[ef]at l;have h1:o≠s.aH:=by omega
  simp only[Gh.dg,h1,eP];exact hs.ai o (by omega)
 .by_cases l:o=s.aH
  .subst l;have B:c=b:=by simp[Gh.dg]at u;exact u.symm
   subst B;refine⟨hf.bA,hf.lt,λob p=>⟨_,H,?_⟩⟩;simp only[ef]at p;rw[Tr.aX _ _ _ _ hn,bJ rfl]at p;obtain rfl:=eK p;exact .box cs z ty hl λj t v L M=>(G j t v L M).le m
  .have C:g.cg o=Z c:=by simpa[Gh.dg,l]using u
   exact(hs.box o c C).le m rfl (by simp only[ef];rw[Tr.aX _ _ _ _ hn,br l])
 .have q:g.arr o e=Z x:=I;have l:o≠s.aH:=λh=>by rw[h,d.2 e]at q;cases q
  exact(hs.arr o e x q).le rfl (by simp only[ef];rw[Tr.aX _ _ _ _ hn,br l]) (λ_ _ _ h=>h) (λ_=>rfl)
 .rcases i o c h with h1|⟨h1,h3⟩<;>rcases i y c K with h2|⟨h2,h4⟩
  .exact hs.lV o y c h1 h2
  .subst h4;exact absurd h1 (hf.own o)
  .subst h3;exact absurd h2 (hf.own y)
  .rw[h1,h2]
def Gz.keep{o c:Nat}{l:Array Value}(h:Gz g w0 w b z)(m:Gz g w0 w c l)(d:b≠c)(i:∀k e,bM (g.dg o c) k e->bM g k e∨(k=o∧e=c)):Gz (g.dg o c) w0 w b z:=
 ⟨h.new,h.lt,h.bA,λk j=>by
  rcases i k b j with j|⟨_,rfl⟩
  .exact h.own k j
  .exact d rfl,h.mem⟩
end
def XD(E:gA)(g:Gh)(w0 w:World)(a:Act)(o:Oper)(b:Nat):Prop:=
 ∀t ti d,o.op=.alloc t->E.E.ti t=Z ti->o.dst=Z d->∃z,a.tmps[d]?=Z (.pointer (Z ⟨b,0,Y⟩))∧Gz g w0 w b z∧ZOk ti.zero z
structure Adp(E:gA)(which:Nat)(l:TA)(fr:bW S)(s:bq S)(g:Gh)(w:World)(a:Act)(fr':bW S)(s':bq S)(g':Gh):Prop where
 rel:bh g' (aG s') w
 le:nW g g'
 bA:g'.bA=g.bA
 fl:s'.fl=s.fl
 lo:s'.lo=s.lo
 wr:s'.wr=s.wr
 dr:s'.dr=s.dr
 aH:s.aH<=s'.aH
 ob:∀o,o<s.aH->s'.ob.get o=s.ob.get o
 n:fr'.n=fr.n
 Jy:fr'.df=fr.df
 old:∀k,(∀p∈l,which.testBit p.1=W->p.2.dst≠Z k)->fr'.get k=fr.get k
 new:∀k,(∃p∈l,which.testBit p.1=W∧p.2.dst=Z k)->∀t,fr'.get k=Z t->∃v,a.tmps[k]?=Z v∧aK g' w (low t) v
 own:∀k b,bM g' k b->bM g k b∨∃p∈l,which.testBit p.1=W∧∃d,p.2.dst=Z d∧a.tmps[d]?=Z (.pointer (Z ⟨b,0,Y⟩))
 ZT:∀p∈l,which.testBit p.1=W->∃t ti d,p.2.op=.alloc t∧E.E.ti t=Z ti∧p.2.dst=Z d∧d<fr.n
def M3{E:gA}{m:Nat}{w0 w:World}{a:Act}{bl:Nat->Nat}:∀{l:TA}{fr fr':bW S}{s s':bq S}{g:Gh},sW E m l fr s=Z (fr',s')->fr.n<=bB->bh g (aG s) w->
  (∀p∈l,m.testBit p.1=W->XD E g w0 w a p.2 (bl p.1))->(l.map (·.1)).Nodup->(∀p∈l,∀q∈l,m.testBit p.1=W->m.testBit q.1=W->p.1≠q.1->bl p.1≠bl q.1)->
  (∀p∈l,∀q∈l,p.1≠q.1->∀d,p.2.dst=Z d->q.2.dst≠Z d)->∃g',Adp E m l fr s g w a fr' s' g':=by
 intro l
 induction l with
 |nil=>intro fr fr' s s' g h _ hs _ _ _ _;simp only[sW,bg,bC]at h;obtain⟨rfl,rfl⟩:=h;exact⟨g,hs,nW.refl _,rfl,rfl,rfl,rfl,rfl,bP _,λ_ _=>rfl,rfl,rfl,λ_ _=>rfl,λk⟨p,hp,_⟩=>by(cases hp),λ_ _ h=>.inl h,λp hp=>by(cases hp)⟩
 |cons p l ih=>
  intro fr fr' s s' g h hn hs he G I K;obtain⟨i,o⟩:=p;simp only[sW]at h;rw[lI,GY]at G;have H:∀q∈l,i≠q.1:=λq b e=>G.1 (tK.2 ⟨q,b,e.symm⟩);rcases af h with⟨hw,h1⟩|⟨hw,h1⟩
  .clear h;split at h1
   .rename_i t d X v;split at h1
    .rename_i ti Ol;rcases af h1 with⟨hb,h⟩|⟨_,h⟩;rotate_left
     .cases h
     rw[dR]at hb;have hn':s.aH<bB:=fQ hb.1;have L:d<fr.n:=fQ hb.2;obtain⟨z,htm,B,hz⟩:=he (i,o) ez hw t ti d X Ol v;obtain⟨z1,z2⟩:=qv (g:=g) (w:=w) hz;obtain⟨Kl,amk,C⟩:=hs.WN hn' B z1 z2;have acy:bh (g.dg s.aH (bl i)) (aG (dm s (.box (ti.zero.map zeroV)))) w:=by rw[gp];simp only[cQ,lU];exact Kl
     have hE:∀q∈l,m.testBit q.1=W->XD E (g.dg s.aH (bl i)) w0 w a q.2 (bl q.1):=by intro q b hw' t' ti' d' q1 q2 q3;obtain⟨z',r1,r2,r3⟩:=he q (gJ _ b) hw' t' ti' d' q1 q2 q3;exact⟨z',r1,r2.keep B (I q (gJ _ b) (i,o) ez hw' hw (λe=>H q b e.symm)) C,r3⟩
     obtain⟨g',k⟩:=ih h (by exact hn) acy hE G.2 (λq b r M=>I q (gJ _ b) r (gJ _ M)) (λq b r M=>K q (gJ _ b) r (gJ _ M))
     .have Zt:∀q∈l,m.testBit q.1=W->q.2.dst≠Z d:=λq b _=>K (i,o) ez q (gJ _ b) (H q b) d v;refine⟨g',k.rel,amk.trans k.le,k.bA,k.fl,k.lo,k.wr,k.dr,fC (Du _) k.aH,λj U=>?_,k.n,k.Jy,λj U=>?_,λj⟨q,b,u,y⟩t' O=>?_,λj c R=>?_,λq b u=>?_⟩
      .rw[k.ob j (Nat.lt_succ_of_lt U)];simp only[dm];rw[Tr.aX _ _ _ _ hn',br (by omega)]
      .rw[k.old j (λq b=>U q (gJ _ b)),bW.iO _ _ _ _ (dy L hn),br];intro e;subst e;exact U (i,o) ez hw v
      .rcases eR.1 b with rfl|b
       .have hjd:j=d:=by have y:o.dst=Z j:=y;rw[v]at y;exact(eK y).symm
        subst hjd;rw[k.old j Zt,bW.iO _ _ _ _ (dy L hn),bJ rfl]at O;cases O;refine⟨_,htm,?_⟩;simp only[low];exact .ptr _ _ _ (k.le.cg _ _ (by simp[Gh.dg]))
       .exact k.new j ⟨q,b,u,y⟩ t' O
      .rcases k.own j c R with R|⟨q,b,u,y⟩
       .rcases C j c R with R|⟨_,rfl⟩
        .exact .inl R
        .exact .inr ⟨(i,o),ez,hw,d,v,htm⟩
       .exact .inr ⟨q,gJ _ b,u,y⟩
      .rcases eR.1 b with rfl|b
       .exact ⟨t,ti,d,X,Ol,v,L⟩
       .exact k.ZT q b u
    .cases h1
   .cases h1
  .obtain ⟨g',k⟩:=ih h1 hn hs (λq b=>he q (gJ _ b)) G.2 (λq b r M=>I q (gJ _ b) r (gJ _ M)) (λq b r M=>K q (gJ _ b) r (gJ _ M));have hnw:∀q∈(i,o)::l,m.testBit q.1=W->q∈l:=λq b u=>by
    rcases eR.1 b with rfl|b
    .rw[hw]at u;cases u
    .exact b
   refine⟨g',k.rel,k.le,k.bA,k.fl,k.lo,k.wr,k.dr,k.aH,k.ob,k.n,k.Jy,λj U=>k.old j λq b=>U q (gJ _ b),λj⟨q,b,u,y⟩=>k.new j ⟨q,hnw q b u,u,y⟩,λj c R=>(k.own j c R).imp id λ⟨q,b,h⟩=>⟨q,gJ _ b,h⟩,λq b u=>k.ZT q (hnw q b u) u⟩
end
section
def lQ(listed:Array Bool)(i:Nat):Prop:=listed.getD i J=W
def CJ(E:fY S)(ops:List Oper)(fr:bW S)(s:bq S)(o:Oper):Prop:=
 fV fr o.dst=W∧((sL ops fr o=W∧∀d,o.dst=Z d->∀b,fr.get d=Z b->b=fu)∨(g6 ops fr o=Z Y∧∃t,eB E Y fr s o Z=Z t∧∀d,o.dst=Z d->∀b,fr.get d=Z b->W9 t b)∨
  ∃c,g6 ops fr o=Z (Z c)∧Jp c fr o.op=W∧∃t,eB E (Z c) (mQ fr o.op) s o Z=Z t∧∀d,o.dst=Z d->∀b,fr.get d=Z b->b=.gd c t)
variable {s':bq S}{o:Oper}{k i:Nat}
def DK{p:Nat->Bool}{fr:bW S}{s:bq S}{o:Op}(h:je p fr o=J)(hs:∀x,p x=J->s'.ob.get x=s.ob.get x):∀x∈o.operands.toList,∀v,ck fr x=Z v->Sm s s' v:=by
 intro x b v d j e;apply hs;have h1:cD p v=J:=by unfold je at h;have:=Lc.1 h x b;rw[d]at this;simpa using this
 cases hp:p j with|false=>rfl|true=>have:=er (p:=Nat.beq j) (q:=p) (λy g=>by rw[<-nF g];exact hp) v e;rw[h1]at this;cases this
def yZ(E:fY S)(g:Option Bool){fr:bW S}(o:Oper)(s s':bq S){ω:Type}(k:V S->Option ω)(hp:Lq o.op=W):eB E g fr s o k=eB E g fr s' o k:=by
 unfold eB;cases d:o.op with
 |move x=>simp only[iI,yD,z4,cm];cases ck fr x<;>simp[qK]
 |assign x=>simp only[iI,yD,z4,cm];cases ck fr x<;>simp[qK]
 |nilCheck x=>
  simp only[iI,yD,z4,cm];cases h:ck fr x with
  |none=>simp[qK,h]
  |some v=>
   cases v with
   |ty t y=>cases t<;>simp[qK,h]
   |fn f a b=>cases f<;>simp[qK,h]
   |_=>simp[qK,h]
 |fieldAddr t x n=>
  simp only[iI,yD,z4,cm];cases E.T.E.ti t with
  |none=>simp[qK]
  |some ti=>
   cases ck fr x with
   |none=>simp[qK]
   |some v=>
    simp only[oO];cases ti.kd with
    |struct fs=>
     dsimp only;cases nth fs n with
     |none=>simp[qK]
     |some q=>
      obtain⟨off,size,e⟩:=q;dsimp only;cases Nat.beq size 0 with|true=>simp[qK]|false=>cases v<;>simp[qK]
    |_=>simp[qK]
 |_=>simp[d,Lq]at hp
def CJ.move{E:fY S}{ops:List Oper}{fr fr':bW S}{s:bq S}(h:CJ E ops fr s o)(hn:fr'.n=fr.n)(u:∀k∈tmpsOf o.op,k<bB)(i:∀k∈tmpsOf o.op,fr'.get k=fr.get k)(m:∀k,mP ops o=Z k->fr'.get k=fr.get k)
  (j:∀d,o.dst=Z d->∀t,fr'.get d=Z t->fr.get d=Z t) {p:Nat->Bool}
  (hs:s'=s∨(je p fr o.op=J∧je p (mQ fr o.op) o.op=J∧∀x,p x=J->s'.ob.get x=s.ob.get x)∨Lq o.op=W):CJ E ops fr' s' o:=by
 obtain⟨q,h⟩:=h;have r:g6 ops fr' o=g6 ops fr o:=nO m;refine⟨by cases b:o.dst<;>simp only[b,fV,hn]at q ⊢;exact q,?_⟩;rcases h with⟨h1,h3⟩|⟨h1,t,h2,h3⟩|⟨c,h1,h4,t,h2,h3⟩
 .exact .inl ⟨(pF m).trans h1,λd b g e=>h3 d b g (j d b g e)⟩
 .refine .inr (.inl ⟨r.trans h1,t,?_,λd b g e=>h3 d b g (j d b g e)⟩);rw[g7 E Y o s' Z (iF i)];rcases hs with rfl|⟨l,_,hs⟩|hp
  .exact h2
  .rw[Ey E Y o Z (DK l hs)];exact h2
  .rw[yZ E Y o s' s Z hp];exact h2
 .refine .inr (.inr ⟨c,r.trans h1,by rw[r9 c i];exact h4,t,?_,λd b g e=>h3 d b g (j d b g e)⟩);rw[g7 E (Z c) o s' Z (iF (pM u i))];rcases hs with rfl|⟨_,l,hs⟩|hp
  .exact h2
  .rw[Ey E (Z c) o Z (DK l hs)];exact h2
  .rw[yZ E (Z c) o s' s Z hp];exact h2
structure wQ(E:fY S)(ops:Array Oper)(n:Nat):Prop where
 bk:sQ ops.toList 0=W
 ds:ZU ops.toList (uA ops.toList)=W
 gd:Jo ops.toList (uA ops.toList)=W
 us:abC ops.toList=W
 al:O2 E.T n ops.toList=W
def At(ops:Array Oper)(i:Nat)(o:Oper):Prop:=ops.toList[i]?=Z o
structure qq(E:fY S)(ops:Array Oper)(lJ:bW S)(s0:bq S)(g0:Gh)(w0:World)(done:Nat)(fr:bW S)(s:bq S)(bl:Nat->Nat)(listed:Array Bool)(g:Gh)(a:Act)(w:World):Prop where
 I7:listed.size=ops.size
 n:fr.n=lJ.n
 nb:fr.n<=bB
 Te:a.tmps.size=fr.n
 df:jW g w (bz fr).df a.defers
 tm:∀k t,fr.get k=Z t->(∀i o,At ops i o->o.dst=Z k->(lQ listed i↔done.testBit i=W))->∃v,a.tmps[k]?=Z v∧aK g w (low t) v
 So:∀i o,At ops i o->lQ listed i->∀e∈vU o,lQ listed e
 Wv:∀i o,At ops i o->done.testBit i=W->∀j,Pre ops.toList i j->done.testBit j=W
 ld:∀i o,At ops i o->lQ listed i->done.testBit i=W∨eJ o=W
 fo:∀i o,At ops i o->done.testBit i=W->¬lQ listed i->eJ o=J∧CJ E ops.toList fr s o
 ea:∀i o,At ops i o->lQ listed i->done.testBit i=J->XD E.T g w0 w a o (bl i)∧bl i<w.heap.size
 eb:∀i j,lQ listed i->lQ listed j->done.testBit i=J->done.testBit j=J->i≠j->i<ops.size->j<ops.size->bl i≠bl j
 zJ:fj s0 g0 w0 s g w
 fk:eG (ops.toList.filterMap (·.dst)) lJ fr s.dr s0.aH
 fl:s.fl=0
 an:∀j,antiP ops.toList j->done.testBit j=W->lQ listed j
structure Rf(E:fY S)(ops:Array Oper)(lJ:bW S)(s0:bq S)(g0:Gh)(w0:World)(done:Nat)(fr:bW S)(s:bq S)(listed:Array Bool)(g:Gh)(a:Act)(w:World):Prop where
 n:fr.n=lJ.n
 nb:fr.n<=bB
 Te:a.tmps.size=fr.n
 df:jW g w (bz fr).df a.defers
 tm:∀k t,fr.get k=Z t->(∀i o,At ops i o->o.dst=Z k->(lQ listed i↔done.testBit i=W))->∃v,a.tmps[k]?=Z v∧aK g w (low t) v
 Wv:∀i o,At ops i o->done.testBit i=W->∀j,Pre ops.toList i j->done.testBit j=W
 zJ:fj s0 g0 w0 s g w
section
variable {E:fY S}{ops:Array Oper}{lJ:bW S}{s0:bq S}{g0:Gh}{w0:World}{done:Nat}{fr:bW S}{s:bq S}{bl:Nat->Nat}{listed:Array Bool}{g:Gh}{a:Act}{w:World}
def Cq(fr:bW S)(d:Option Nat)(t:V S):(fr.hY d t).df=fr.df:=by cases d<;>rfl
theorem DV(fr:bW S):(bz fr).df=fr.df.map qQ:=rfl
def nP(done i j:Nat):(done||| 1 <<< i).testBit j=W↔done.testBit j=W∨i=j:=by rw[yo,JF,jQ,jR]
def HJ{d:Option Nat}{t:V S}(h:fV fr d=W)(hn:fr.n<=bB):(fr.hY d t).get k=if d=Z k then Z t else fr.get k:=by
 cases d with
 |none=>simp[bW.hY]
 |some d=>
  have h:d<fr.n:=fQ h;simp only[bW.hY];rw[bW.iO _ _ _ _ (by omega)];by_cases b:k=d
  .subst b;simp
  .rw[br b,br (by simpa using λe=>b e.symm)]
def It(g:wQ E ops lJ.n)(m:At ops i o)(l:k∈tmpsOf o.op∨mP ops.toList o=Z k){j:Nat}{p:Oper}(hp:At ops j p)(t:p.dst=Z k):i≠j∧(Pre ops.toList i j∨(Pre ops.toList j i∧antiP ops.toList j)):=by
 obtain⟨_,h2,h3⟩:=so g.ds hp t;rcases l with l|l
 .have b:i≠j:=by
   rintro rfl
   have:o=p:=eK (m.symm.trans hp);subst this;exact h2 l
  exact⟨b,((h3 m (Ne.symm b)).2 l).imp id λh=>⟨h,p,hp,k,t,i,o,m,l,h⟩⟩
 .obtain ⟨u,v,q,r,d⟩:=V1 g.gd m l;have s:j=u:=Qh λb=>(h3 q b).1 r;subst s;refine⟨λe=>?_,.inl d⟩;subst e;exact absurd (NT g.bk m _ d) (Nat.lt_irrefl _)
def qq.float(z:wQ E ops lJ.n)(h:qq E ops lJ s0 g0 w0 done fr s bl listed g a w)(y:At ops i o)(H:done.testBit i=J)(M:eJ o=J)(O:¬antiP ops.toList i)(R:∀j,Pre ops.toList i j->done.testBit j=W)
  (hd:fV fr o.dst=W) {t:V S} (hf:(sL ops.toList fr o=W∧t=fu)∨(g6 ops.toList fr o=Z Y∧∃t0,eB E Y fr s o Z=Z t0∧W9 t0 t)∨∃c t1,g6 ops.toList fr o=Z (Z c)∧Jp c fr o.op=W∧eB E (Z c) (mQ fr o.op) s o Z=Z t1∧t=.gd c t1) :
  qq E ops lJ s0 g0 w0 (done||| 1 <<< i) (fr.hY o.dst t) s bl listed g a w:=by
 have cL:∀k,(fr.hY o.dst t).get k=if o.dst=Z k then Z t else fr.get k:=λk=>HJ hd h.nb
 have hnl:¬lQ listed i:=λI=>by
  rcases h.ld i o y I with h1|h1
  .rw[H]at h1;cases h1
  .rw[M]at h1;cases h1
 have B:(fr.hY o.dst t).n=fr.n:=by cases o.dst<;>rfl
 have l:∀{j:Nat}{p:Oper},At ops j p->(j=i∨¬Pre ops.toList j i)->∀k,k∈tmpsOf p.op∨mP ops.toList p=Z k->(fr.hY o.dst t).get k=fr.get k:=by
  intro j p hp b k u;rw[cL,br];intro C;obtain⟨h1,h2⟩:=It z hp u y C;rcases b with rfl|b
  .exact h1 rfl
  .exact h2.elim b λh=>O h.2
 refine⟨h.I7,B.trans h.n,by rw[B];exact h.nb,by rw[B];exact h.Te,by rw[DV,Cq];exact h.df,λk U u hc=>?_,h.So,λj p hp b m hm=>?_,λj p hp I=>?_,λj p hp b I=>?_,λj p hp I b=>?_,λj m b hm h1 h2=>?_,h.zJ,?_,h.fl,λj ha b=>?_⟩
 .have C:o.dst≠Z k:=λe=>hnl ((hc i o y e).2 ((nP done i i).2 (.inr rfl)));rw[cL,br C]at u;refine h.tm k U u λj p hp G=>?_;have K:i≠j:=by
   rintro rfl
   have:o=p:=eK (y.symm.trans hp);subst this;exact absurd G C
  exact(hc j p hp G).trans ((nP done i j).trans ⟨λh=>h.resolve_right K,.inl⟩)
 .rw[nP]at b ⊢;rcases b with b|rfl
  .exact .inl (h.Wv j p hp b m hm)
  .exact .inl (R m hm)
 .rw[nP];exact(h.ld j p hp I).imp .inl id
 .rw[nP]at b;rcases b with b|rfl
  .obtain ⟨h1,h2⟩:=h.fo j p hp b I;have X:¬Pre ops.toList j i:=λhpr=>by have:=h.Wv j p hp b i hpr;rw[H]at this;cases this
   refine⟨h1,h2.move B (CP z.us hp) (λk u=>l hp (.inr X) k (.inl u)) (λk u=>l hp (.inr X) k (.inr u)) (λd G U q=>?_) (p:=λ_=>J) (.inl rfl)⟩;rw[cL,br]at q
   .exact q
   .intro r;have K:i≠j:=λe=>by subst e;rw[H]at b;cases b
    exact((so z.ds y r).2.2 hp K).1 G
  .have:o=p:=eK (y.symm.trans hp);subst this;have hu:=CP z.us y;have ht:∀k∈tmpsOf o.op,(fr.hY o.dst t).get k=fr.get k:=λk u=>l y (.inl rfl) k (.inl u);have hgd:g6 ops.toList (fr.hY o.dst t) o=g6 ops.toList fr o:=nO λk u=>l y (.inl rfl) k (.inr u);refine⟨M,by cases r:o.dst<;>simp only[r,fV,bW.hY,bW.put]at hd ⊢;exact hd,?_⟩;rcases hf with⟨f1,rfl⟩|⟨f1,t0,f2,f3⟩|⟨c,t1,f1,f2,f3,rfl⟩
   .refine .inl ⟨(pF λk u=>l y (.inl rfl) k (.inr u)).trans f1,λd r U q=>?_⟩;rw[cL,bJ r]at q;exact(eK q).symm
   .refine .inr (.inl ⟨hgd.trans f1,t0,by rw[g7 E Y o s Z (iF ht)];exact f2,λd r U q=>?_⟩);rw[cL,bJ r]at q;rw[<-eK q];exact f3
   .refine .inr (.inr ⟨c,hgd.trans f1,by rw[r9 c ht];exact f2,t1,by rw[g7 E (Z c) o s Z (iF (pM hu ht))];exact f3,λd r U q=>?_⟩);rw[cL,bJ r]at q;exact(eK q).symm
 .have hj':done.testBit j=J:=by cases L:done.testBit j with|false=>rfl|true=>have:=(nP done i j).2 (.inl L);rw[b]at this;cases this
  exact h.ea j p hp I hj'
 .have hd':∀j,(done||| 1 <<< i).testBit j=J->done.testBit j=J:=λj b=>by cases L:done.testBit j with|false=>rfl|true=>have:=(nP done i j).2 (.inl L);rw[b]at this;cases this
  exact h.eb j m b hm (hd' j h1) (hd' m h2)
 .refine ⟨λk v u hv=>?_,by rw[Cq];exact h.fk.df⟩;rcases h.fk.tm k v u hv with h1|h1
  .left
   rw[cL,br]
   .exact h1
   .intro r;exact u (vJ.2 ⟨o,gY y,r⟩)
  .exact .inr h1
 .rcases (nP done i j).1 b with b|rfl
  .exact h.an j ha b
  .exact absurd ha O
end
end
end TL
end
end
