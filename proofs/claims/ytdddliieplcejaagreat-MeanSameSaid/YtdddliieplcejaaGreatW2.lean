import Derived.Laws.OwnMore
import Derived.Test.YtdddliieplcejaaGreatW1
set_option linter.all false
set_option maxRecDepth 100000
set_option maxHeartbeats 0
noncomputable section
open Option renaming some->Z,none->Y
open Bool renaming true->W,false->J
open Nat renaming beq->Nq,ble->Nl,blt->Nt,succ->Ns,add->Na
open Go.Result(andThen_ok)
open Go.Sem(run_bind run_pure)
section
namespace TL
open Go
variable {S:Sg}
section
def xR(o:Oper):L Nat:=(o.after.toList.filter (Region.binds .any)).map (·.on)
def O6:L Oper->L Nat->L Nat
 |[],a=>a|o::l,a=>O6 l (a++[(xR o).foldl (λb e=>b||| (1 <<< e||| a.getD e 0)) 0])
def wB(ops:L Oper):L Nat:=O6 ops []
def uO:L Oper->Nat->Bool
 |[],_=>W|o::l,n=>(xR o).all (λe=>Nt e n)&&uO l (Ns n)
def MK(o:Oper)(k:Nat):Bool:=o.op.operands.toList.any λx=>match x with|.tmp j=>Nq j k|_=>J
def ag8(ops:L Oper)(a:L Nat):Bool:=
 ops.zipIdx.all λ(o,i)=>match o.dst with
  |none=>W|some d=>Nt d bC&&ops.zipIdx.all λ(p,j)=>bif Nq i j then !(MK p d)else !(match p.dst with|some e=>Nq e d|none=>J)&&(!(MK p d)||((a.getD j 0).testBit i||(a.getD i 0).testBit j))
def T6(ops:L Oper)(a:L Nat)(i:Nat)(o:Oper):Bool:=match o.dst with
 |none=>J|some d=>ops.zipIdx.any λ(p,j)=>MK p d&&(a.getD i 0).testBit j
def afh(ops:L Oper):Bool:=ops.all λo=>o.op.operands.toList.all λx=>match x with|.tmp j=>Nt j bC|_=>W
def Rg(ops:L Oper)(a:L Nat):Bool:=
 ops.zipIdx.all λ(o,i)=>match o.guard with
  |none=>W|some (j,_)=>(a.getD i 0).testBit j
def fe(o:Oper):Bool:=match o.op with|.alloc _=>o.guard.isNone|_=>J
def Ux(a b:Nat):Bool:=Nq (a&&& b) a
abbrev Wy:=L (Nat×Oper)
section
variable (E:eT S)(call:fU S){ω:Type}
def Qo(ops:L Oper)(a:L Nat)(done:Nat)(fr:bU S):Wy->O (Nat×Oper)
 |[]=>Y|(i,o)::l=>bif !(done.testBit i)&&(Ux (a.getD i 0) done&&((!(fe o)&&!(T6 ops a i o))&&(uH ops fr o||(match iH ops fr o with|some (Z _)=>By E (qW fr o.op) o|some Y=>By E fr o|none=>J))))
   then Z (i,o)else Qo ops a done fr l
def Qp(a:L Nat)(done u5:Nat):Wy->O (Nat×Oper)
 |[]=>Y|(i,o)::l=>bif !(done.testBit i)&&(!(fe o)&&Ux (a.getD i 0) (done||| u5))then Z (i,o)else Qp a done u5 l
def yC(E:gi)(a:Nat):Wy->bU S->bu S->O (bU S×bu S)
 |[],b,s=>Z (b,s)|(i,o)::l,b,s=>bif a.testBit i then match o.op,o.dst with
   |.alloc t,Z d=>match E.E.ti t with
    |some c=>bif Nt s.aL bC&&Nt d b.n then yC E a l (b.put d (.ptr s.aL 0)) (dc s (.box (c.zero.map zeroV)))else Y|none=>Y
   |_,_=>Y
  else yC E a l b s
def jO(p:Nat->Bool)(fr:bU S)(o:Op):Bool:=o.operands.toList.any λx=>match cA fr x with
 |some v=>cE p v|none=>J
def Nx:Op->Bool
 |.move _|.assign _|.nilCheck _|.fieldAddr ..=>W|_=>J
def EV(ops:L Oper)(a:L Nat)(done i:Nat)(fr:bU S)(aL:Nat)(wr ow:L Nat):Wy->Bool
 |[]=>W|(j,o)::l=>(!(done.testBit j)||(fe o||((a.getD i 0).testBit j||(!(jO (dN wr aL) fr o.op||jO (dN wr aL) (qW fr o.op) o.op)||(Nx o.op&&!(jO (λx=>ow.contains x) fr o.op||jO (λx=>ow.contains x) (qW fr o.op) o.op))))))&&EV ops a done i fr aL wr ow l
def yd(all:Wy)(done:Nat):Nat:=all.foldl (λb(i,o)=>bif fe o&&!(done.testBit i)then b||| 1 <<< i else b) 0
def aha(ops:L Oper)(fr:bU S):bU S:={fr with tm:=(ops.filterMap (·.dst)).foldl (λt k=>t.del aR k) fr.tm}
def ua(ops:L Oper)(a:L Nat)(all:Wy)(kp:bU S->V S->bu S->O ω)(k:bU S->bu S->O ω):Nat->Nat->bU S->bu S->O ω
 |0,_,_,_=>Y|n+1,done,b,s=>
  match Qo E ops a done b all with
  |some (i,o)=>bif gB b o.dst then bif uH ops b o then ua ops a all kp k n (done||| 1 <<< i) (b.iQ o.dst ej) s else match iH ops b o with
    |none=>Y|some Y=>fE E Y b s o λt=>Kw (TA ops o.dst) t λt=>ua ops a all kp k n (done||| 1 <<< i) (b.iQ o.dst t) s|some (Z c)=>aK (Om c b o.op) (fE E (Z c) (qW b o.op) s o λt=>ua ops a all kp k n (done||| 1 <<< i) (b.iQ o.dst (.gd c t)) s)
   else Y
  |none=>
   let d:=yd all done
   match Qp a done d all with
   |some (i,o)=>
    bif all.all (λ(j,p)=>done.testBit j||(fe p||(Nq i j||(a.getD j 0).testBit i)))then
     match yC E.T (d&&& a.getD i 0) all b s with
     |none=>Y|some (e,g)=>
      oX E call ops o e {g with wr:=[]} (λt f=>kp (aha ops e) t {f with wr:=f.wr++g.wr}) λt f h=>
       bif EV ops a done i b s.aL f.wr h all then ua ops a all kp k n (done||| (d&&& a.getD i 0)||| 1 <<< i) ((dy h e).iQ o.dst t) {f with wr:=f.wr++g.wr}else Y
    else Y
   |none=>match yC E.T d all b s with
    |none=>Y|some (b,s)=>bif all.all (λ(j,p)=>done.testBit j||fe p)then k b s else Y
def RL(E:gi)(n:Nat)(l:L Oper):Bool:=l.all λo=>bif fe o then(match o.op with
  |.alloc t=>(E.E.ti t).isSome|_=>W)&&(match o.dst with|some d=>Nt d n|none=>W)
 else W
def ZQ(E:eT S)(fr:bU S)(s:bu S)(l:L Oper)(a:L Nat):Bool:=uO l 0&&(ag8 l a&&(Rg l a&&(afh l&&(RL E.T fr.n l&&Nq s.fl 0))))
end
inductive LO(X R B P:Type) where
 |next (x:X)|out (j:Nat) (x:X)|ret (b:B) (r:R)|hU (b:B) (p:P)
def iter{X R B P:Type}(F:X->O (LO X R B P)):Nat->X->O (LO X R B P)
 |0,_=>Y|n+1,x=>match F x with
  |none=>Y|some (.next y)=>iter F n y|some (.out j y)=>Z (.out j y)|some (.ret y r)=>Z (.ret y r)|some (.hU y p)=>Z (.hU y p)
def PL:Code->Bool
 |.region _ c _=>c.toList.all λo=>match o.op with|.defer _=>J|_=>W
 |.seq a b=>PL a&&PL b|.cond _ a b=>PL a&&PL b|.block _ b=>PL b|.loop b=>PL b|.scope _=>J|.rangeFunc ..=>J|_=>W
def uF:Code->L Nat
 |.region _ d _=>d.toList.foldl (λl o=>o.op.operands.toList.foldl (λl x=>match x with|.tmp k=>k::l|_=>l) l) []
 |.seq a b=>uF a++uF b|.cond c a b=>(match c with|.tmp k=>[k]|_=>[])++(uF a++uF b)
 |.block _ b=>uF b|.loop b=>uF b|_=>[]
def Oo(l:L Nat)(fr:bU S):bU S:={n:=fr.n,tm:=l.foldl (λt k=>match fr.get k with|some v=>t.set aR k v|none=>t) .nil,df:=[]}
def Qf:L Nat->L (V S)->Tr (V S)->Tr (V S)
 |k::a,v::b,t=>Qf a b (t.set aR k v)|_,_,t=>t
def Fi:LoopState->O Code->Bool
 |.ready,Y=>W|_,_=>J
def TU:Operand->L Nat
 |.tmp k=>[k]|_=>[]
def eX:Code->L Nat
 |.region _ d _=>d.toList.filterMap (·.dst)|.seq a b=>eX a++eX b|.cond c a b=>TU c++(eX a++eX b)|.block _ b=>eX b|.loop b=>eX b|.rangeFunc _ _ a b=>eX a++eX b|.scope b=>eX b|_=>[]
def kP:Code->L Nat
 |.seq a b=>kP a++kP b|.cond _ a b=>kP a++kP b|.block i b=>(kP b).filter λj=>!(Nq i j)|.loop b=>kP b|.rangeFunc _ _ a b=>kP a++kP b|.scope b=>kP b|.exit i=>[i]|_=>[]
def wj:L Nat->L Nat
 |[]=>[]|a::l=>a::(wj l).filter λb=>!(Nq a b)
abbrev LOT(S:Sg)(sh:Sh)(rs:L Ck):=LO (fX S.A (kU sh)) (gr S.A rs) (fX S.A (kU (PK sh))) (den S.A S.pt)
def Zx(ds:L Nat):Sh->L Nat
 |[]=>[]|(k,.one (.own _))::l=>bif ds.contains k then Zx ds l else k::Zx ds l|_::l=>Zx ds l
def QC:Sh->L Nat
 |[]=>[]|(k,.one (.own _))::l=>k::QC l|_::l=>QC l
def W5(fr:bU S)(s:bu S)(c:Nat):O (V S):=bif Nt c 1000000 then fr.get c else match fr.get (Nat.div (Nat.sub c 1000000) 1000)with
 |some (.ptr o 0)=>match s.ob.get o with
  |some (.box a)=>nth a (Nat.mod (Nat.sub c 1000000) 1000)|_=>Y
 |_=>Y
def Wj(fr:bU S)(s:bu S)(al:L (Nat×Nat)):Bool:=al.all λp=>match fr.get p.1,W5 fr s p.2 with
 |some (.sh o r),Z (.sh a b)=>Nq o a&&Nq r b|_,_=>J
def adH(fr:bU S)(ow:L Nat)(al:L (Nat×Nat)):Bool:=al.all λp=>match fr.get p.1 with
 |some (.sh o _)=>ow.contains o|_=>J
def mA(s:bu S):L (Nat×Nat)->bU S->bU S
 |[],a=>a|p::l,a=>mA s l (match W5 a s p.2 with|some v=>a.put p.1 v|none=>a)
def adm(fr:bU S)(l:L Nat):Bool:=l.all λk=>match fr.get k with
 |some (.sh _ _)=>W|_=>J
def EZ(ds:L Nat)(sh:Sh):Bool:=sh.all λp=>match p.2 with
 |.one _=>ds.contains p.1|.box _=>W|.hid _=>W
abbrev Rv:=L (Nat×Ty)
def Iw(rv:Rv):L Ck:=rv.map λp=>.dat p.2
def Xb(fr:bU S):Rv->O (L (V S))
 |[]=>Z []|(k,_)::l=>match fr.get k,Xb fr l with
  |some v,Z r=>Z (v::r)|_,_=>Y
def xY:(rv:Rv)->gr S.A (Iw rv)->bU S->bU S
 |[],_,a=>a|(k,_)::l,x,a=>xY l x.2 (a.put k (.ty _ x.1))
def bU.tS(fr:bU S)(c:Operand)(b:Bool):bU S:=match c with
 |.tmp k=>bif Nt k fr.n then fr.put k (.kb b)else fr|_=>fr
noncomputable def IZ{ω:Type}(e:Bool)(x y:O ω):O ω:=bif e then(open Classical in if x=y then y else Y)else y
def acN(l:L Nat)(i:Nat):Nat:=match l with
 |[]=>0|a::l=>bif Nq a i then 0 else Ns (acN l i)
def Up(aL:Nat)(bs wr:L Nat):Bool:=wr.all λo=>Nl aL o||bs.contains o
def uN{ω:Type}(sh:Sh)(bs:L Nat)(aL:Nat)(fr:bU S)(s:bu S)(f:fX S.A (kU sh)->O ω):O ω:=
 match pX sh bs fr s with
 |some (x,a,b)=>bif Up aL bs a.wr&&(b.all (λo=>Nl aL o)&&a.dr.all (λo=>Nl aL o))then f x else Y|none=>Y
section
variable (E:eT S)(call:fU S)(n:Nat)(fid:FuncId)(rv:Rv)
def Zw{ω:Type}(k:bU S->bu S->O ω)(Q:xE S->bU S->bu S->O ω):xE S->bU S->bu S->O ω
 |.qJ,a,s=>k a s|.ext i,a,s=>Q (.ext i) a s|.ret,a,s=>Q .ret a s|.hU v,a,s=>Q (.hU v) a s
def Ow{ω:Type}(i:Nat)(Q:xE S->bU S->bu S->O ω):xE S->bU S->bu S->O ω
 |.qJ,a,s=>Q .qJ a s|.ext j,a,s=>match Nq j i with
  |true=>Q .qJ a s|false=>Q (.ext j) a s
 |.ret,a,s=>Q .ret a s|.hU v,a,s=>Q (.hU v) a s
def ab1{ω:Type}(Q:xE S->bU S->bu S->O ω)(fr:bU S)(s:bu S):L Nat->Nat->O ω
 |[],_=>Y|[i],_=>Q (.ext i) fr s|i::l,j=>match j with
  |0=>Q (.ext i) fr s|j+1=>ab1 Q fr s l j
def tP(aL:Nat)(s:bu S):L (r7 S)->O (L Nat)
 |[]=>Z []|.mark o::l=>match s.ob.get o with
  |some .zP=>bif Nl aL o then(match tP aL s l with|some r=>Z (o::r)|none=>Y)else Y
  |_=>Y
 |_=>Y
def aiS(fl aL:Nat)(base:bU S×bu S):Bool:=match base.1.df with
 |.marks o::_=>(match base.2.ob.get o with
  |some .FQ=>Nt o aL&&Nl fl o|_=>J)
 |_=>J
def Qg(aL:Nat)(base:bU S×bu S)(fr':bU S)(s':bu S):Bool:=
 match tP aL s' (fr'.df.take (Nat.sub (cB fr'.df) (cB base.1.df)))with
 |some os=>rL os&&(Nq (Na (cB os) (cB base.1.df)) (cB fr'.df)&&(Nq (cB os) 0||aiS s'.fl aL base))|none=>J
def Fb(ev:{ω:Type}->(xE S->bU S->bu S->O ω)->bU S->bu S->O ω)(sh:Sh)(bs:L Nat)(aL:Nat)(c:L Nat)(base:bU S×bu S)(g:Bool)(al:L (Nat×Nat))(x:fX S.A (kU sh)):O (LOT S sh (Iw rv)):=
 match mS sh bs x base.1 base.2 with
 |none=>Y|some (e,d)=>ev (λh a b=>bif Qg aL base a b then match h with
  |.qJ=>bif Wj a b al then uN sh bs aL a b (λy=>Z (.next y))else Y|.ext j=>bif c.contains j&&Wj a b al then uN sh bs aL a b (λy=>Z (.out (acN c j) y))else Y|.ret=>match Xb a rv with
   |none=>Y|some i=>match fY b (Iw rv) i with
    |some (r,f,_)=>match dX b f with
     |some b=>uN (PK sh) bs aL a b (λy=>Z (.ret y r))|none=>Y
    |none=>Y
  |.hU v=>bif g then match fY b [.dat S.pt] [v]with
    |some (p,f,_)=>match dX b f with
     |some b=>uN (PK sh) bs aL a b (λy=>Z (.hU y p.1))|none=>Y
    |none=>Y
   else Y
  else Y) (mA d al e) d
def tX:Code->O Nat
 |.region id _ _=>Z id|.seq a b=>match tX a with
  |some k=>Z k|none=>tX b
 |.cond _ a b=>match tX a with
  |some k=>Z k|none=>tX b
 |.block _ b=>tX b|.loop b=>tX b|.scope b=>tX b|_=>Y
def aju(a b:Code):Nat:=match tX a with
 |some k=>Na 1000000 k|none=>match tX b with
  |some k=>Na 1000000 k|none=>999999
noncomputable def TT{ω:Type}(c:Operand)(A B:(xE S->bU S->bu S->O ω)->bU S->bu S->O ω)(Q:xE S->bU S->bu S->O ω)(fr:bU S)(s:bu S):O ω:=match cA fr c with
  |some (.kb W)=>A Q fr s|some (.kb J)=>B Q fr s|some (.ub e)=>IZ e (A Q (fr.tS c W) s) (B Q (fr.tS c J) s)|some v=>match gK v with
   |some t=>au t (A Q (fr.tS c W) s) (B Q (fr.tS c J) s)|none=>Y
  |none=>Y
def YD(ev:{ω:Type}->(xE S->bU S->bu S->O ω)->bU S->bu S->O ω){ω:Type}(sh:Sh)(pts:L Pt)(al:L (Nat×Nat))(g h:L Nat)(Q:xE S->bU S->bu S->O ω)(fr:bU S)(s:bu S):O ω:=
 match qS fr s sh pts with
 |none=>Y|some e=>
  let ds:=g++(Zx g sh++al.map (·.1))
  match pX sh e fr s with
  |none=>Y|some (i,b,f)=>
   let base:=cG ds f e fr b
   bif (EZ ds sh&&(adm fr (Zx g sh)&&(Wj fr s al&&adH fr f al)))&&ds.all (λd=>Nt d fr.n)then
    ai (Fb rv ev sh e b.aL h base E.pn al i) λ(o:LOT S sh (Iw rv))=>match o with
     |.next x=>match mS sh e x base.1 base.2 with
      |none=>Y|some (c,a)=>Q .qJ (mA a al c) {a with wr:=b.ob.jI (gz (dN f b.aL))++(e++b.wr),dr:=f++b.dr}
     |.out j x=>match mS sh e x base.1 base.2 with
      |none=>Y|some (c,a)=>ab1 Q (mA a al c) {a with wr:=b.ob.jI (gz (dN f b.aL))++(e++b.wr),dr:=f++b.dr} h j
     |.ret x r=>match mS (PK sh) e x base.1 base.2 with
      |none=>Y|some (c,a)=>Q .ret (xY rv r c) {a with wr:=b.ob.jI (gz (dN f b.aL))++(e++b.wr),dr:=f++b.dr}
     |.hU y p=>bif E.pn then match mS (PK sh) e y base.1 base.2 with
      |none=>Y|some (c,a)=>Q (.hU (.ty S.pt p)) c {a with wr:=b.ob.jI (gz (dN f b.aL))++(e++b.wr),dr:=f++b.dr}
      else Y
   else Y
def XV{ω:Type}(ev:(xE S->bU S->bu S->O ω)->bU S->bu S->O ω)(Q:xE S->bU S->bu S->O ω)(a:bU S->bu S->O ω):Nat->bU S->bu S->O ω
 |0,b,s=>a b s|m+1,b,s=>ev (Zw (XV ev Q a m) Q) b s
def Yo(ev:{ω:Type}->(xE S->bU S->bu S->O ω)->bU S->bu S->O ω){ω:Type}(sh:Sh)(pts:L Pt)(al:L (Nat×Nat))(g h:L Nat)(Q:xE S->bU S->bu S->O ω)(fr:bU S)(s:bu S):O ω:=match qS fr s sh pts with
  |none=>Y|some e=>
   let ds:=g++(Zx g sh++al.map (·.1))
   match pX sh e fr s with
   |none=>Y|some (i,a,f)=>
    let base:=cG ds f e fr a
    bif (EZ ds sh&&(adm fr (Zx g sh)&&(Wj fr s al&&adH fr f al)))&&ds.all (λd=>Nt d fr.n)then
     ai (iter (Fb rv ev sh e a.aL h base E.pn al) n i) λ(o:LOT S sh (Iw rv))=>match o with
      |.next _=>Y|.out j x=>match mS sh e x base.1 base.2 with
       |none=>Y|some (c,b)=>ab1 Q (mA b al c) {b with wr:=a.ob.jI (gz (dN f a.aL))++(e++a.wr),dr:=f++a.dr} h j
      |.ret x r=>match mS (PK sh) e x base.1 base.2 with
       |none=>Y|some (c,b)=>Q .ret (xY rv r c) {b with wr:=a.ob.jI (gz (dN f a.aL))++(e++a.wr),dr:=f++a.dr}
      |.hU y p=>bif E.pn then match mS (PK sh) e y base.1 base.2 with
       |none=>Y|some (c,b)=>Q (.hU (.ty S.pt p)) c {b with wr:=a.ob.jI (gz (dN f a.aL))++(e++a.wr),dr:=f++a.dr}
       else Y
    else Y
def rgB:Code->Bool
 |.seq a b=>rgB a||rgB b|.cond _ a b=>rgB a||rgB b|.block _ b=>rgB b|.loop b=>rgB b|.rangeFunc ..=>W|.scope b=>rgB b|_=>J
def anu{ω:Type}(b:Bool)(k:bU S->bu S->O ω)(fr:bU S)(s:bu S):O ω:=
 bif b then(bif Nt s.aL bC then k {fr with df:=.marks s.aL::fr.df} (dc s .FQ)else Y)else k fr s
noncomputable def zk:Code->Nat->{ω:Type}->(xE S->bU S->bu S->O ω)->bU S->bu S->O ω
 |.region _ h J,_,_,Q,d,s=>TF E call h.toList (λd t s=>Q (.hU t) d s) (Q .qJ) h.toList d s|.region _ h W,_,_,Q,d,s=>
  let l:=h.toList
  let k:=wB l
  let all:=l.zipIdx.map λp=>(p.2,p.1)
  bif ZQ E d s l k then ua E call l k all (λd t s=>Q (.hU t) d s) (Q .qJ) (Ns (Nat.mul 2 (cB l))) 0 d s else Y
 |.seq a b,i,_,Q,d,s=>zk a i (Zw (zk b i Q) Q) d s|.cond c a b,i,_,Q,d,s=>match E.sh fid (aju a b)with
  |none=>TT c (zk a i) (zk b i) Q d s|some ⟨sh,pts,m,_⟩=>YD E rv (λQ d s=>TT c (zk a i) (zk b i) Q d s) sh pts m (eX (.cond c a b)++rv.map (·.1)) (wj (kP (.cond c a b))) Q d s
 |.block i b,_,_,Q,d,s=>zk b i (Ow i Q) d s|.loop b,i,_,Q,d,s=>match E.sh fid i with
  |none=>Y|some ⟨sh,pts,m,r⟩=>XV (zk b i) Q (anu (rgB b) λd s=>Yo E n rv (zk b i) sh pts m (eX b++rv.map (·.1)) (wj (kP b)) Q d s) r d s
 |.rangeFunc g u j e,_,_,Q,d,s=>match(cA d g).bind (oZ · [.rB (Ns s.aL)])with
  |none=>Y|some (f,args)=>bif PL j&&(PL e&&(Nl s.fl (Ns s.aL)&&Nt (Ns s.aL) bC))then
    uc E call (dc (dc s .zP) (.lp ⟨.ready,Y,fid,Oo (uF j++uF e) d,u.toList,j,e⟩)) f args (λ_ _=>Y) λ_ o q=>match o.ob.get (Ns s.aL)with
      |some (.lp l)=>bif Fi l.st l.u5 then Q .qJ {(dy q d)with df:=.mark s.aL::(dy q d).df} {o with ob:=o.ob.set aR (Ns s.aL) (.lp {l with st:=.exhausted})}else Y
      |_=>Y
   else Y
 |.exit i,_,_,Q,d,s=>Q (.ext i) d s|.ret,_,_,Q,d,s=>Q .ret d s|.skip,_,_,Q,d,s=>Q .qJ d s|.label _,_,_,Q,d,s=>Q .qJ d s|.scope b,i,_,Q,d,s=>zk b i Q d s|_,_,_,_,_,_=>Y
end
def kV(E:gi)(s:bu S)(fr:bU S):L ResultVar->O (L (V S))
 |[]=>Z []|.tmp t::l=>match fr.get t,kV E s fr l with
  |some x,Z r=>Z (x::r)|_,_=>Y
 |.cell a t::l=>match E.E.ti t,fr.get a with
  |some i,Z a=>match yj i (E.ty t) s a,kV E s fr l with
   |some (p,x,_),Z r=>bif p then Z (x::r)else Y|_,_=>Y
  |_,_=>Y
def Qh(E:gi):L ResultVar->L TypeId->Rv
 |.tmp k::l,t::a=>match E.ty t with
  |some τ=>(k,τ)::Qh E l a|none=>Qh E l a
 |_::l,_::a=>Qh E l a|_,_=>[]
def isRec(o:Oper):Bool:=match o.guard,o.op with
 |none,.call c=>match c.callee with
  |.builtin .recover=>W|_=>J
 |_,_=>J
def aiC(pv:O (V S)):V S:=match pv with
 |some v=>v|none=>.dat (.lit .nilIface)
section
variable (E:eT S)(call:fU S)(n:Nat)(pv:Option (V S)){ω:Type}
noncomputable def evR(fid:FuncId)(rv:Rv):Code->Nat->(Bool->xE S->bU S->bu S->O ω)->bU S->bu S->O ω
 |.region id e J,i,Q,d,s=>match e.toList with
  |o::l=>bif isRec o then(bif gB d o.dst then TF E call (o::l) (λd t s=>Q pv.isSome (.hU t) d s) (Q pv.isSome .qJ) l (d.iQ o.dst (aiC pv)) s else Y)
   else zk E call n fid rv (.region id e J) i (Q J) d s
  |[]=>Y
 |.seq a b,i,Q,d,s=>evR fid rv a i (λf g d s=>match g with
  |.qJ=>zk E call n fid rv b i (Q f) d s|g=>Q f g d s) d s
 |c,i,Q,d,s=>zk E call n fid rv c i (Q J) d s
noncomputable def TH(d:r7 S)(s:bu S)(k:Bool->bu S->O ω):O ω:=match d with
 |.call f args=>match oZ f args with
  |none=>Y|some (f,args)=>match E.T.E.TC f with
   |none=>Y|some fn=>match fn.body with
    |none=>Y|some c=>bif Nl (cB args) fn.ntmps&&Nt fn.ntmps bC then
      evR E call n pv f (Qh E.T fn.results.toList fn.resultTypes.toList) c 0 (λa e b g=>match b.df with
       |[]=>match e with
        |.qJ|.ret=>match kV E.T g b fn.results.toList with
         |some _=>k a {g with lo:=s.lo}
         |none=>Y
        |_=>Y
       |_::_=>Y) {n:=fn.ntmps,tm:=mF args 0 .nil} {s with lo:=s.aL}
     else Y
 |.mark o=>match s.ob.get o with
  |some .zP=>bif Nl s.fl o&&Nt o bC then k J {s with ob:=s.ob.del aR o,wr:=o::s.wr}else Y
  |_=>Y
 |.marks o=>match s.ob.get o with
  |some .FQ=>bif Nl s.fl o&&Nt o bC then k J {s with ob:=s.ob.del aR o,wr:=o::s.wr}else Y
  |_=>Y
 |_=>Y
end
noncomputable def GP(E:eT S)(call:fU S)(n:Nat){ω:Type}:L (r7 S)->O (V S)->bu S->(O (V S)->bu S->O ω)->O ω
 |[],pv,s,k=>k pv s|d::l,pv,s,k=>TH E call n pv d s λa b=>GP E call n l (bif a then Y else pv) b k
def Oy(E:gi){ω:Type}(a:L ResultVar)(fr:bU S)(k kp:V S->bu S->O ω)(pv:O (V S))(s:bu S):O ω:=match pv with
 |none=>match kV E s fr a with
  |some l=>k (DM l) s|none=>Y
 |some v=>kp v s
noncomputable def TG(E:eT S)(call:fU S)(n:Nat){ω:Type}(b:L ResultVar)(k kp:V S->bu S->O ω):xE S->bU S->bu S->O ω
 |.qJ,a,s=>GP E call n a.df Y s (Oy E.T b a k kp)|.ret,a,s=>GP E call n a.df Y s (Oy E.T b a k kp)|.hU v,a,s=>GP E call n a.df (Z v) s (Oy E.T b a k kp)|.ext _,_,_=>Y
def aee(o lo:Nat){ω:Type}(k:V S->bu S->O ω):xE S->bU S->bu S->O ω
 |.qJ,_,s=>match s.ob.get o with
  |some (.lp l)=>k (.kb W) {s with ob:=s.ob.set aR o (.lp {l with st:=.ready,u5:=Y}),lo:=lo}
  |_=>Y
 |_,_,_=>Y
noncomputable def aed(E:eT S)(call:fU S)(n o lo:Nat)(fid:FuncId)(a:Code){ω:Type}(k:V S->bu S->O ω):xE S->bU S->bu S->O ω
 |.qJ,b,s=>match s.ob.get o with
  |some (.lp l)=>bif Fi l.st l.u5 then zk E call n fid [] a 0 (aee o lo k) b {s with ob:=s.ob.set aR o (.lp {l with st:=.busy})}else Y
  |_=>Y
 |_,_,_=>Y
noncomputable def Qj(E:eT S)(call:fU S)(n o:Nat)(args:L (V S))(s:bu S){ω:Type}(k:V S->bu S->O ω):O ω:=match s.ob.get o with
 |some (.lp l)=>bif Fi l.st l.u5&&(Nq (cB args) (cB l.params)&&(l.params.all (λk=>Nt k l.fr.n)&&(Nl l.fr.n bC&&(PL l.assign&&(PL l.body&&Nl s.fl o)))))then
   zk E call n l.fid [] l.assign 0 (aed E call n o s.lo l.fid l.body k) {n:=l.fr.n,tm:=Qf l.params args l.fr.tm,df:=[]} {s with lo:=s.aL}
  else Y
 |_=>Y
noncomputable def Z4(E:eT S)(n:Nat)(call:fU S):fU S:=λd args s{_}k b=>match d with
 |.yl o=>Qj E call n o args s k|.jn f=>match E.T.E.TC f with
  |none=>Y|some fn=>match fn.body with
   |none=>Y|some c=>
    bif Nl (cB args) fn.ntmps&&(Nt fn.ntmps bC&&Nq s.lo 0)then
     zk E call n f (Qh E.T fn.results.toList fn.resultTypes.toList) c 0 (TG E call n fn.results.toList k b) {n:=fn.ntmps,tm:=mF args 0 .nil} s
    else Y
 |.fn f=>match E.T.E.TC f with
  |none=>Y|some fn=>match fn.body with
   |none=>Y|some c=>
    bif Nl (cB args) fn.ntmps&&Nt fn.ntmps bC then
     zk E call n f (Qh E.T fn.results.toList fn.resultTypes.toList) c 0 (TG E call n fn.results.toList (λv a=>k v {a with lo:=s.lo}) (λv a=>b v {a with lo:=s.lo})) {n:=fn.ntmps,tm:=mF args 0 .nil} {s with lo:=s.aL}
    else Y
noncomputable def DA(E:eT S)(n:Nat):Nat->fU S
 |0=>λ_ _ _{_}_ _=>Y|d+1=>Z4 E n (DA E n d)
noncomputable def Z8(E:eT S)(n d:Nat)(f:FuncId)(args:L (V S))(s:bu S){ω:Type}(k kp:V S->bu S->O ω):O ω:=match E.T.E.TC f with
  |none=>Y|some fn=>match fn.body with
   |none=>Y|some c=>
    bif Nl (cB args) fn.ntmps&&Nt fn.ntmps bC then
     zk E (DA E n d) n f (Qh E.T fn.results.toList fn.resultTypes.toList) c 0 (TG E (DA E n d) n fn.results.toList k kp) {n:=fn.ntmps,tm:=mF args 0 .nil} s
    else Y
def u7(b:Nat)(s:bu S):(ps:L Pk)->fX S.A ps->L (V S)×bu S
 |[],_=>([],s)|.one c::ps,x=>match vw s c x.1 with
  |(v,s)=>match u7 b s ps x.2 with
   |(l,s)=>(v::l,s)
 |.box k::ps,x=>match kR s (Z (Ns b)) k x.1 with
  |(ob,s)=>match u7 (Ns b) {s with ob:=s.ob.set aR b ob} ps x.2 with
   |(l,a)=>(Vq k b::l,a)
 |.hid k::ps,x=>match kR s (Z (Ns b)) k x.1 with
  |(ob,s)=>u7 (Ns b) {s with ob:=s.ob.set aR b ob} ps x.2
def eD:L Pk->Nat
 |[]=>0|.one _::l=>eD l|.box _::l=>Ns (eD l)|.hid _::l=>Ns (eD l)
def adl(d:L Ck)(ps:L Pk)(v:V S)(s':bu S):O (gr S.A d×iw S.A ps):=
 match fY s' d (Xh d v),tL s' 0 ps with
 |some (r,e,f),Z (b,a,c)=>match dX s' (e++a)with
  |some _=>bif rL (f++c)&&Cr (f++c) (e++a)then Z (r,b)else Y|none=>Y
 |_,_=>Y
def agU(a:Bool)(b:L Ck)(ps:L Pk)(v:V S)(s':bu S):O (RT a (gr S.A b×iw S.A ps) (den S.A S.pt×iw S.A ps)):=
 match adl b ps v s' with
 |some r=>Z (RT.ok a r)|none=>Y
def agT(a:Bool)(b:L Ck)(ps:L Pk)(v:V S)(s':bu S):O (RT a (gr S.A b×iw S.A ps) (den S.A S.pt×iw S.A ps)):=
 match adl [.dat S.pt] ps v s' with
 |some r=>RT.hU a (r.1.1,r.2)|none=>Y
noncomputable def AS(E:eT S)(n d:Nat)(f:FuncId)(ps:L Pk)(a:L Ck)(x:fX S.A ps):O (RT E.pn (gr S.A a×iw S.A ps) (den S.A S.pt×iw S.A ps)):=
 match u7 0 ⟨.nil,eD ps,0,eD ps,[],[]⟩ ps x with
 |(args,s)=>bif !(Nl s.aL bC)then Y else Z8 E n d f args s (agU E.pn a ps) (agT E.pn a ps)
end
section
namespace Tr
variable {α β:Type}
def map(f:α->β):Tr α->Tr β
 |.nil=>.nil|.node v l r=>.node (v.map f) (map f l) (map f r)
def get_map(f:α->β):∀(t:Tr α)(k:Nat),(t.map f).get k=(t.get k).map f
 |.nil,k=>by rfl
 |.node v l r,0=>by rw[map,jd,jd]
 |.node v l r,k+1=>by rw[map,dI,dI,get_map f l,get_map f r];split<;>rfl
theorem mj(f:α->β):∀(n:Nat)(t:Tr α)(k:Nat)(x:α),(Tr.set n t k x).map f=Tr.set n (t.map f) k (f x)
 |0,t,k,x=>rfl|n+1,.nil,0,x=>rfl|n+1,.nil,k+1,x=>by
  rw[map,oL,oL];split
  .rw[map,mj f n];rfl
  .rw[map,mj f n];rfl
 |n+1,.node v l r,0,x=>rfl|n+1,.node v l r,k+1,x=>by
  rw[map,nC,nC];split
  .rw[map,mj f n]
  .rw[map,mj f n]
end Tr
def ud(S:Sg):(l:L (TypeId×Ty))->xN S.A l->O (TypeId×D)
 |[],_=>Y|p::_,.inl x=>Z (p.1,enc S p.2 x)|_::l,.inr y=>ud S l y
def Pa:L (TypeId×Ty)->Bool
 |[]=>W|p::l=>(wG l p.1).isNone&&Pa l
structure fO(S:Sg):Prop where
 vY:∀n h,S.get n (S.Yh n h)=h
 Yg:∀n x,S.Yh n (S.get n x)=x
 cells:∀n x,S.cells n x=gU S (S.fs n) (S.get n x)
 leaf:∀n,∀t∈S.fs n,j4 t=J
 Ew:∀n h,S.tV n (S.imk n h)=h
 qT:∀n x,S.qT n x=ud S (S.alts n) (S.tV n x)
 alts:∀n,Pa (S.alts n)=W
def OG:∀l:L (TypeId×Ty),ud S l (X8 l)=Y
 |[]=>rfl|_::l=>OG l
def OH:∀(l:L (TypeId×Ty))(t:TypeId)(i:Nat)(x:den S.A (mU l i)),wG l t=Z i->ud S l (YK l i x)=Z (t,enc S (mU l i) x)
 |[],t,i,x,h=>by cases h
 |p::l,t,i,x,h=>by
  obtain⟨a,h⟩|⟨_,h⟩:=ah h
  .simp at h;subst h;simp only[YK,ud,xI a];rfl
  .split at h
   .rename_i j b;simp only[gV]at h;subst h;exact OH l t j x b
   .cases h
def aiZ:Ty->Nat
 |.str=>16|.cT _=>16|.sl _=>24|_=>8
def abC:L Ty->Nat
 |[]=>0|t::l=>Na (aiZ t) (abC l)
def zu(S:Sg):Ty->Nat
 |.int .i8|.int .u8=>1|.int .i16|.int .u16=>2|.int .i32|.int .u32=>4|.int _=>8|.bool=>1|.str=>16|.sl _=>24|.st n=>abC (S.fs n)|.cT _=>16
def acL(o:O (TypeId×D)):(PM o).lby=16:=by cases o<;>rfl
theorem vV(o:O (TypeId×D)):(PM o).leaf=W:=by cases o<;>rfl
theorem nk(o:O (TypeId×D)):(PM o).cells=[PM o]:=by cases o<;>rfl
def af6(o:O (TypeId×D)):(PM o).sj=16:=by cases o<;>rfl
def mI:∀(ts:L Ty)(h:mG S.A ts),(gU S ts h).length=ts.length
 |[],_=>rfl|t::ts,h=>by simp[gU,mI ts]
variable {t u:Ty}{v:V S}
def adn(x:den S.A t)(h:j4 t=J):(enc S t x).lby=aiZ t:=by cases t<;>first|rfl|exact acL _|cases h
def ES:∀(ts:L Ty)(h:mG S.A ts),(∀t∈ts,j4 t=J)->D.oD (gU S ts h)=abC ts
 |[],_,_=>rfl|t::ts,h,a=>by simp[gU,D.oD,abC,adn _ (a t (by simp)),ES ts h.2 (λu b=>a u (by simp[b]))]
def GS(x:den S.A t)(h:j4 t=J):(enc S t x).leaf=W:=by cases t<;>first|rfl|exact vV _|cases h
def ic:∀(ts:L Ty)(h:mG S.A ts),(∀t∈ts,j4 t=J)->∀d∈gU S ts h,d.leaf=W
 |[],_,_,d,a=>by simp[gU]at a
 |t::ts,h,b,d,a=>by
  simp[gU,fy]at a;obtain rfl|a:=a
  .exact GS _ (b t (by simp))
  .exact ic ts h.2 (λu c=>b u (by simp[c])) d a
def Cc(a:fO S)(x:den S.A t):(enc S t x).sj=zu S t:=by
 cases t with
 |st n=>simp[enc,D.sj,zu];rw[show S.cells n x=_ from a.cells n x,ES _ _ (a.leaf n)]|int k=>cases k<;>rfl
 |cT n=>exact af6 _|_=>rfl
theorem kG(a:fO S){t:Ty}(x:den S.A t):(enc S t x).cells.length=S.width t:=by cases t with|st n=>simp[enc,D.cells,Sg.width,bR];rw[show S.cells n x=_ from a.cells n x,mI]|cT n=>rw[show enc S (.cT n) x=PM (S.qT n x)from rfl,nk];rfl|_=>rfl
theorem OF(a:fO S){t:Ty}(x:den S.A t):(enc S t x).flat=W:=by cases t with|st n=>simp[enc,D.flat,D.cells,gY];rw[show S.cells n x=_ from a.cells n x];exact ic _ _ (a.leaf n)|cT n=>grind[enc,D.flat,nk,vV]|_=>rfl
def e9(S:Sg):(t:Ty)->den S.A t->T
 |.st n,x=>.agg ((S.cells n x).map .sym)|.int k,x=>.sym (enc S (.int k) x)|.bool,x=>.sym (enc S .bool x)|.str,x=>.sym (enc S .str x)|.sl e,x=>.sym (enc S (.sl e) x)|.cT n,x=>.sym (enc S (.cT n) x)
def za(x:den S.A t)(h:j4 t=J):e9 S t x=.sym (enc S t x):=by cases t<;>first|rfl|cases h
mutual
def low:V S->T
 |.ty t x=>e9 S t x|.kb b=>.kb b|.kn k n=>.kn k n|.dat d=>.sym d|.ptr o off=>.ptr o off|.nJ t x off=>.nJ (enc S t x) off|.lG o e i off=>.lG o e i off|.sh o e=>.sh o e|.emp=>.emp|.kq n t l=>.kq n (l.map (enc S t))|.fn f a b=>.fn f (bz a) (bz b)|.cT t v=>.cT t (low v)|.agg g=>.agg (bz g)|.gM h=>.gM (bz h)|.gd c v=>.gd c (low v)|.mp o=>.mp o|.rB o=>.rB o|.s7 o=>.s7 o|.ub e=>.ub e|.rM o m r i=>.rM o m r i|.oY n j x=>.oY j (enc S (.st n) x)
def bz:L (V S)->L T
 |[]=>[]|v::l=>low v::bz l
end
def gH:∀l:L (V S),bz l=l.map low
 |[]=>rfl|v::l=>by simp[bz,kW,gH l]
def lY:r7 S->Df
 |.call f args=>.call (low f) (bz args)|.mark o=>.mark o|.marks o=>.marks o|.kg=>.kg|.bad=>.bad
def bB(fr:bU S):Fr:=⟨fr.n,fr.tm.map low,fr.df.map lY⟩
def yh(l:LpV S):Lp:=⟨l.st,l.u5,l.fid,bB l.fr,l.params,l.assign,l.body⟩
def cU:ux S->Ob
 |.box e=>.box (bz e)|.arr t l era=>.arr (S.width t) (l.map (enc S t)) era|.kS t l era=>.kS (S.width t) (l.map (enc S t)) era|.map c f l=>.map (l.map λp=>(e9 S c p.1,e9 S f p.2))|.Im c l=>.map (l.map λp=>(e9 S c p.1,low p.2))|.qE b pos=>.qE (bY b) pos|.lp l=>.lp (yh l)|.zP=>.zP|.kX n j l era m a hole=>.kX j (S.width (.st n)) (l.map (enc S (.st n))) era m a hole|.rws t d a=>.rws (S.width t) (d.map (·.map (enc S t))) a|.gone=>.gone|.FQ=>.FQ
def aI(s:bu S):St:=⟨s.ob.map cU,s.aL,s.fl,s.lo⟩
theorem aS(s:bu S)(o:Nat):(aI s).ob.get o=(s.ob.get o).map cU:=Tr.get_map _ _ _
theorem bT(fr:bU S)(k:Nat):(bB fr).get k=(fr.get k).map low:=Tr.get_map _ _ _
def Vk(fr:bU S)(k:Nat)(v:V S):bB (fr.put k v)=(bB fr).put k (low v):=by simp[bB,bU.put,Fr.put,Tr.mj]
def QN(fr:bU S)(k:O Nat)(v:V S):bB (fr.iQ k v)=(bB fr).iQ k (low v):=by cases k with|none=>rfl|some k=>exact Vk fr k v
theorem fL(s:bu S)(o:Nat)(ob:ux S)(wr:L Nat):aI {s with ob:=s.ob.set aR o ob,wr:=wr}={aI s with ob:=(aI s).ob.set aR o (cU ob)}:=by simp[aI,Tr.mj]
def gS(s:bu S)(ob:ux S):aI (dc s ob)=(ey (aI s) (cU ob)).2:=by simp[aI,dc,ey,Tr.mj]
def Z7(b:ByteArray):bY (ofBytes b)=b:=by rfl
def Rt{v:Value}{u:V S}(h:uh v=Z u):ofConst v=Z (low u):=by
 cases v with
 |bool b=>simp[uh,gV]at h;subst h;rfl|int k n=>simp[uh,gV]at h;subst h;rfl|string b=>simp[uh,gV]at h;subst h;simp only[ofConst,low,e9,enc,Dd,jB];rw[Z7]|slice a n m=>
  unfold uh at h;split at h;all_goals first
   |(simp only[gV]at h;rename_i c;simp only[Value.slice.injEq]at c;obtain⟨rfl,rfl,rfl⟩:=c;subst h;rfl)
   |(rename_i c;cases c;done)
   |grind[Dd]
 |func f a b=>
  simp[uh]at h;simp[ofConst];split at h
  .simp at h;subst h;rename_i h1 h2;try rw[h1,h2]
   rfl
  .cases h
 |iface t v=>simp[uh,fV]at h;obtain⟨d,e,rfl⟩:=h;simp only[ofConst,e,jB];rfl
 |_=>simp only[uh,fV]at h;obtain⟨d,e,rfl⟩:=h;simp only[ofConst,e,jB];rfl
theorem cr{fr:bU S}{x:Operand}{u:V S}(h:cA fr x=Z u):jZ (bB fr) x=Z (low u):=by
 cases x with
 |tmp k=>grind[cA,jZ,bT]|const v=>exact Rt h|global g=>cases h
 |func f=>simp[cA,gV]at h;subst h;rfl
def ia{fr:bU S}:∀{l:L Operand}{a:L (V S)},kK fr l=Z a->ye (bB fr) l=Z (bz a)
 |[],a,h=>by simp only[kK,gV]at h;subst h;rfl
 |x::l,a,h=>by
  simp[kK]at h;split at h
  .rename_i h1 h2;simp at h;subst h;simp[ye,cr h1,ia h2,bz]
  .cases h
def J3{x:den S.A t}{y:den S.A u}(h:wq t u x=Z y):t=u∧HEq x y:=by
 unfold wq at h
 grind
def fG{x:L (den S.A t)}{y:L (den S.A u)}(h:n3 t u x=Z y):t=u∧HEq x y:=by
 unfold n3 at h
 grind
theorem gI{k:IntKind}{v:V S}{n:Int}(h:gf k v=Z n):∃p,xM k (low v)=Z (p,n)∧p:=by
 unfold gf at h;split at h
 .rename_i j m;cases a:od j k<;>rw[a]at h
  .cases h
  .simp at h;subst h;exact⟨True,by simp[low,xM,a],trivial⟩
 .rename_i j x;cases a:od j k<;>rw[a]at h
  .cases h
  .simp at h;subst h;exact⟨_,rfl,a⟩
 .cases h
def l7{b:Bool}(h:gK v=Z b):∃p,A6 (low v)=Z (p,b)∧p:=by
 unfold gK at h;split at h
 .simp at h;subst h;exact⟨True,rfl,trivial⟩
 .simp at h;subst h;exact⟨_,rfl,rfl⟩
 .cases h
def kT{b:L UInt8}(h:vA v=Z b):∃p,zW (low v)=Z (p,bY b)∧p:=by
 unfold vA at h;split at h
 .simp at h;subst h;exact⟨_,rfl,rfl⟩
 .cases h
def vP:∀(ts:L Ty)(h:mG S.A ts),(∀t∈ts,j4 t=J)->bz (Au (S:=S) ts h)=(gU S ts h).map .sym
 |[],_,_=>rfl|t::ts,h,a=>by simp only[Au,bz,gU,kW,vP ts h.2 (λu b=>a u (by simp[b]))];rw[low,za _ (a t (by simp))]
theorem eR:∀l:L (V S),(bz l).length=l.length
 |[]=>rfl|v::l=>by simp[bz,eR l]
def j3(l m:L (V S)):bz (l++m)=bz l++bz m:=by simp[gH,u0]
def lW(l:L (V S))(n:Nat):bz (l.take n)=(bz l).take n:=by simp[gH,SZ]
def lX(l:L (V S))(n:Nat):bz (l.drop n)=(bz l).drop n:=by simp[gH,List.map_drop]
def Vn(h:Yx v=W):(low v).leaf:=by
 cases v with
 |ty t x=>simp[Yx,Qs]at h;rw[low,za _ h];exact GS x h|dat d=>exact h|agg=>cases h
 |gM=>cases h
 |gd=>cases h
 |_=>trivial
def zb:∀{l:L (V S)},BK l=W->leaves (bz l)
 |[],_=>trivial|v::l,h=>by simp[BK,eK]at h;exact⟨Vn h.1,zb h.2⟩
def Fk(cs:L D):(List.range cs.length).map (λj=>T.sym ((D.agg cs).cell j))=cs.map .sym:=by
 apply UO
 grind[D.cell,D.cells]
theorem qv(f:fO S){i:TI}{v:V S}{l:L (V S)}(h:wm i v=Z l):∃p,kf i (low v)=Z (p,bz l)∧p:=by
 unfold wm at h;split at h
 .rename_i g;obtain⟨a,h⟩|⟨_,h⟩:=ah h
  .simp at h;have:(i.agg&&Nq (cB (bz g)) i.size)=W:=by grind[bR,eR]
   exact⟨True,by simp_all[low,kf],trivial⟩
  .cases h
 .rename_i n x;obtain⟨a,h⟩|⟨_,h⟩:=ah h
  .simp at h;subst h;rw[vP _ _ (f.leaf n),<-f.cells];have:(i.agg&&Nq (cB ((S.cells n x).map T.sym)) i.size)=W:=by rw[bR,rH,f.cells,mI,<-bR];exact a
   exact⟨True,by simp_all[low,e9,kf],trivial⟩
  .cases h
 .rename_i d;obtain⟨_,h⟩|⟨b,h⟩:=ah h
  .cases h
  .obtain ⟨a,h⟩|⟨_,h⟩:=ah h
   .simp only[eK]at a;simp at h;subst h;exact⟨_,by simp only[low,kf,b,a.1,eP,ez];rfl,a.2⟩
   .cases h
 .cases h
 .cases h
 .obtain ⟨_,h⟩|⟨b,h⟩:=ah h
  .cases h
  .obtain ⟨a,h⟩|⟨_,h⟩:=ah h
   .simp at h;subst h;cases v with
    |ty t x=>
     have j:j4 t=J:=by cases t with|st n=>grind|_=>rfl
     have e:low (V.ty t x)=.sym (enc S t x):=by rw[low,za _ j]
     refine⟨(enc S t x).leaf=W,?_,GS _ j⟩
     simp_all[bz,kf]
    |agg g=>simp_all|dat d=>simp_all|gM k=>simp_all|gd c v=>simp_all|_=>exact⟨True,by simp only[low,bz,kf,b,a,eP,ez],trivial⟩
   .cases h
def o9{ag:Bool}{l:L (V S)}(h:CY ag l=Z v):vI ag (bz l)=Z (low v):=by
 obtain⟨a,h⟩|⟨a,h⟩:=ah h
 .simp at h;subst h;simp[vI,a,eP,low]
 .split at h
  .simp_all[vI,bz]
  .cases h
end
section
def yE(S:Sg)(i:TI):Ty->Prop
 |.int k=>i.kd=.leaf (.int k)∧i.agg=J∧i.size=1|.bool=>i.kd=.leaf .bool∧i.agg=J∧i.size=1|.str=>i.kd=.leaf .str∧i.agg=J∧i.size=1|.sl e=>(∃z,i.kd=.slice (S.width e) (j4 e) (zu S e) z∧(bif j4 e then D.agg z=enc S e (S.zero e)else z=[enc S e (S.zero e)]))∧i.agg=J∧i.size=1∧0<S.width e|.st n=>i.agg=W∧i.size=(S.fs n).length|.cT _=>i.kd=.iface∧i.agg=J∧i.size=1
structure RQ(S:Sg)(E:gi):Prop where
 row:∀k i τ,E.E.ti k=Z i->E.ty k=Z τ->yE S i τ
def w7(s:St):∀ds:L D,∃p,nN s (ds.map .sym)=Z (p,ds,[])∧p
 |[]=>⟨True,rfl,trivial⟩|d::ds=>by
  let ⟨p,h,a⟩:=w7 s ds
  exact⟨True∧p,by grind[nN,Bs],trivial,a⟩
variable {t e:Ty}{n:Int}{s:bu S}{v:V S}{i:TI}{τ:Option Ty}{fr:bU S}{u:Option (V S)}
def Ut(a:fO S)(s:St)(x:den S.A t):∃p,Bs s (e9 S t x)=Z (p,enc S t x,[])∧p:=by
 cases t with
 |st n=>
  let ⟨p,h,b⟩:=w7 s (S.cells n x)
  refine⟨p∧(S.cells n x).all D.leaf=W,by simp[e9,Bs,h,enc],b,?_⟩;rw[gY,a.cells];exact ic _ _ (a.leaf n)
 |_=>exact⟨True,rfl,trivial⟩
def N1(k:IntKind):od k k=W:=by cases k<;>rfl
def I6:∀t:Ty,tc t t=W
 |.int k=>N1 k|.bool=>rfl|.str=>rfl|.sl e=>I6 e|.st n=>Nat.beq_refl n|.cT n=>Nat.beq_refl n
theorem wo{t:Ty}(x:den S.A t):wq (S:=S) t t x=Z x:=by unfold wq;rw[dif_pos (I6 t)]
def JS:∀{ts:L Ty}{h:mG S.A ts}{j:Nat}{t:Ty}{y:den S.A t},nth ts j=Z t->gU S ts (u9 ts h j t y)=(gU S ts h).set j (enc S t y)
 |[],_,_,_,_,h=>by rfl
 | τ::ts,h,0,t,y,e=>by
  grind[nth,u9,wo,gU]
 | τ::ts,h,j+1,t,y,e=>by simp[nth]at e;simp[u9,gU,List.set_cons_succ,JS e]
def JU:∀{ts:L Ty}{h:mG S.A ts}{j:Nat}{t:Ty},nth ts j=Z t->(gU S ts h)[j]?=Z (enc S t (dm ts h j t))
 |[],_,_,_,h=>by simp[nth]at h
 | τ::ts,h,0,t,e=>by
  grind[nth,dm,wo,gU]
 | τ::ts,h,j+1,t,e=>by simp[nth]at e;simp[dm,gU,List.getElem?_cons_succ,JU e]
def Hq{n j:Nat}(h:DY S n j t=W):nth (S.fs n) j=Z (.sl t):=by
 grind[DY,jN]
theorem ZF(a:fO S){n j:Nat}{t:Ty}(b:DY S n j t=W)(x:S.A n)(y:L (den S.A t)):enc S (.st n) (UC n j t x y)=AJ j (enc S (.st n) x) (y.map (enc S t)):=by show D.agg (S.cells n _)=D.agg ((S.cells n x).set j _);rw[a.cells,a.cells,UC,a.vY,JS (Hq b)];rfl
theorem GG(a:fO S){n j:Nat}{t:Ty}(b:DY S n j t=W):∀(l:L (S.A n))(iO:L (L (den S.A t))),(kL n j t l iO).map (enc S (.st n))=mH j (l.map (enc S (.st n))) (iO.map (·.map (enc S t)))
 |[],_=>by rfl
 |_::_,[]=>by rfl
 |x::l,c::iO=>by
  grind[kL,mH,ZF]
def z6{m r:Nat}{iO:L (L (den S.A t))}(h:M0 s m r=Z ⟨t,iO⟩):Iv (aI s) m r=Z (iO.map (·.map (enc S t))):=by
 unfold M0 at h;split at h
 .obtain ⟨a,h⟩|⟨_,h⟩:=ah h
  .cases h
   simp_all[Iv,aS,cU]
  .cases h
 .cases h
mutual
def pN(c:fO S)(s:bu S):∀(t:Ty)(v:V S){x:den S.A t}{os:L Nat},bW s t v=Z (x,os)->∃p,Bs (aI s) (low v)=Z (p,enc S t x,os)∧p
 |t,.ty u y,x,os,h=>by
  simp[bW]at h;split at h
  .rename_i z d;obtain⟨rfl,a⟩:=J3 d;cases a;obtain⟨rfl,rfl⟩:=h;exact Ut c _ _
  .cases h
 |.bool,.kb b,x,os,h=>by obtain⟨rfl,rfl⟩:=h;exact⟨True,rfl,trivial⟩
 |.int k,.kn j n,x,os,h=>by
  obtain⟨f,h⟩|⟨_,h⟩:=ah h
  .obtain ⟨rfl,rfl⟩:=h;rw[BL f];exact⟨True,rfl,trivial⟩
  .cases h
 |.sl e,.emp,x,os,h=>by obtain⟨rfl,rfl⟩:=h;exact⟨True,rfl,trivial⟩
 |.sl e,.kq n t l,x,os,h=>by
  simp[bW]at h;split at h
  .rename_i z d;obtain⟨rfl,a⟩:=fG d;cases a;obtain⟨rfl,rfl⟩:=h;exact⟨True,rfl,trivial⟩
  .cases h
 |.sl e,.sh o r,x,os,h=>by
  simp[bW]at h;split at h
  .rename_i t l era g;obtain⟨f,h⟩|⟨_,h⟩:=ah h
   .split at h
    .rename_i z d;obtain⟨rfl,a⟩:=fG d;cases a;obtain⟨rfl,rfl⟩:=h;refine⟨True,?_,trivial⟩
     simp_all[low,Bs,aS,cU,enc]
    .cases h
   .cases h
  .rename_i t l era g;obtain⟨f,h⟩|⟨_,h⟩:=ah h
   .split at h
    .rename_i z d;obtain⟨rfl,a⟩:=fG d;cases a;obtain⟨rfl,rfl⟩:=h;refine⟨True,?_,trivial⟩
     simp_all[low,Bs,aS,cU,enc]
    .cases h
   .cases h
  .rename_i n j l era m R g;split at h
   .rename_i t C E;obtain⟨f,h⟩|⟨_,h⟩:=ah h
    .simp only[eK]at f;split at h
     .rename_i z d;obtain⟨rfl,a⟩:=fG d;cases a;obtain⟨rfl,rfl⟩:=h;refine⟨True,?_,trivial⟩;simp only[low,Bs,aS,g,jB,cU,z6 E,f.1,f.2.1,Nj,eP];rw[<-GG c f.2.2];rfl
     .cases h
    .cases h
   .cases h
  .cases h
 |.sl e,.oY n j x0,x,os,h=>by
  simp[bW]at h;split at h
  .rename_i d;obtain⟨rfl,a⟩:=fG d;cases a;obtain⟨rfl,rfl⟩:=h;exact⟨True,rfl,trivial⟩
  .cases h
 |.st n,.agg F,x,os,h=>by
  simp[bW]at h;split at h
  .rename_i h1 q I;obtain⟨rfl,rfl⟩:=h
   let ⟨p,w,A⟩:=sn c s (S.fs n) F I
   have B:S.cells n (S.Yh n h1)=gU S (S.fs n) h1:=by rw[c.cells,c.vY]
   refine⟨p∧(gU S (S.fs n) h1).all D.leaf=W,by simp[low,Bs,w,enc,B],A,?_⟩;rw[gY];exact ic _ _ (c.leaf n)
  .cases h
 |.cT n,.cT t v,x,os,h=>by
  simp[bW]at h;split at h
  .rename_i i K;split at h
   .rename_i y q P;obtain⟨rfl,rfl⟩:=h
    let ⟨p,w,A⟩:=pN c s _ v P
    refine⟨p,?_,A⟩;have e:enc S (.cT n) (S.imk n (YK (S.alts n) i y))=.cT t (enc S (mU (S.alts n) i) y):=by show PM (S.qT n _)=_;rw[c.qT,c.Ew,OH _ _ _ _ K];rfl
    simp[low,Bs,w,e]
   .cases h
  .cases h
 |.cT n,.dat (.lit .nilIface),x,os,h=>by
  obtain⟨rfl,rfl⟩:=h;refine⟨True,?_,trivial⟩;have e:enc S (.cT n) (S.imk n (X8 (S.alts n)))=.lit .nilIface:=by show PM (S.qT n _)=_;rw[c.qT,c.Ew,OG];rfl
  simp[low,Bs,e]
 |.cT _,.kb _,_,_,h=>by simp[bW]at h
 |.cT _,.kn _ _,_,_,h=>by simp[bW]at h
 |.cT _,.emp,_,_,h=>by simp[bW]at h
 |.cT _,.kq _ _ _,_,_,h=>by simp[bW]at h
 |.cT _,.sh _ _,_,_,h=>by simp[bW]at h
 |.cT _,.oY _ _ _,_,_,h=>by simp[bW]at h
 |.bool,.oY _ _ _,_,_,h=>by simp[bW]at h
 |.str,.oY _ _ _,_,_,h=>by simp[bW]at h
 |.int _,.oY _ _ _,_,_,h=>by simp[bW]at h
 |.st _,.oY _ _ _,_,_,h=>by simp[bW]at h
 |t,.rM _ _ _ _,_,_,h=>by cases t<;>simp[bW]at h
 |.cT _,.agg _,_,_,h=>by simp[bW]at h
 |.int _,.cT _ _,_,_,h=>by simp[bW]at h
 |.bool,.cT _ _,_,_,h=>by simp[bW]at h
 |.str,.cT _ _,_,_,h=>by simp[bW]at h
 |.sl _,.cT _ _,_,_,h=>by simp[bW]at h
 |.st _,.cT _ _,_,_,h=>by simp[bW]at h
 |.int _,.dat _,_,_,h=>by simp[bW]at h
 |.bool,.dat _,_,_,h=>by simp[bW]at h
 |.str,.dat _,_,_,h=>by simp[bW]at h
 |.sl _,.dat _,_,_,h=>by simp[bW]at h
 |.st _,.dat _,_,_,h=>by simp[bW]at h
 |.cT _,.dat (.sl _),_,_,h=>by simp[bW]at h
 |.cT _,.dat (.agg _),_,_,h=>by simp[bW]at h
 |.cT _,.dat (.cT _ _),_,_,h=>by simp[bW]at h
 |.cT _,.dat (.gM _),_,_,h=>by simp[bW]at h
 |.cT _,.dat (.lit (.bool _)),_,_,h=>by simp[bW]at h
 |.cT _,.dat (.lit (.int _ _)),_,_,h=>by simp[bW]at h
 |.cT _,.dat (.lit (.float _ _)),_,_,h=>by simp[bW]at h
 |.cT _,.dat (.lit (.complex _ _ _)),_,_,h=>by simp[bW]at h
 |.cT _,.dat (.lit (.string _)),_,_,h=>by simp[bW]at h
 |.cT _,.dat (.lit (.pointer _)),_,_,h=>by simp[bW]at h
 |.cT _,.dat (.lit (.slice _ _ _)),_,_,h=>by simp[bW]at h
 |.cT _,.dat (.lit (.map _)),_,_,h=>by simp[bW]at h
 |.cT _,.dat (.lit (.chan _)),_,_,h=>by simp[bW]at h
 |.cT _,.dat (.lit (.iface _ _)),_,_,h=>by simp[bW]at h
 |.cT _,.dat (.lit (.func _ _ _)),_,_,h=>by simp[bW]at h
 |.cT _,.dat (.lit .nilFunc),_,_,h=>by simp[bW]at h
 |.cT _,.dat (.lit (.agg _)),_,_,h=>by simp[bW]at h
 |.cT _,.dat (.lit (.tuple _)),_,_,h=>by simp[bW]at h
 |t,.mp _,_,_,h=>by cases t<;>simp[bW]at h
 |t,.rB _,_,_,h=>by cases t<;>simp[bW]at h
 |t,.s7 _,_,_,h=>by cases t<;>simp[bW]at h
 |t,.ub _,_,_,h=>by cases t<;>simp[bW]at h
 |.int _,.kb _,_,_,h=>by simp[bW]at h
 |.str,.kb _,_,_,h=>by simp[bW]at h
 |.sl _,.kb _,_,_,h=>by simp[bW]at h
 |.st _,.kb _,_,_,h=>by simp[bW]at h
 |.bool,.kn _ _,_,_,h=>by simp[bW]at h
 |.str,.kn _ _,_,_,h=>by simp[bW]at h
 |.sl _,.kn _ _,_,_,h=>by simp[bW]at h
 |.st _,.kn _ _,_,_,h=>by simp[bW]at h
 |.bool,.emp,_,_,h=>by simp[bW]at h
 |.str,.emp,_,_,h=>by simp[bW]at h
 |.int _,.emp,_,_,h=>by simp[bW]at h
 |.st _,.emp,_,_,h=>by simp[bW]at h
 |.bool,.kq _ _ _,_,_,h=>by simp[bW]at h
 |.str,.kq _ _ _,_,_,h=>by simp[bW]at h
 |.int _,.kq _ _ _,_,_,h=>by simp[bW]at h
 |.st _,.kq _ _ _,_,_,h=>by simp[bW]at h
 |.bool,.sh _ _,_,_,h=>by simp[bW]at h
 |.str,.sh _ _,_,_,h=>by simp[bW]at h
 |.int _,.sh _ _,_,_,h=>by simp[bW]at h
 |.st _,.sh _ _,_,_,h=>by simp[bW]at h
 |.bool,.agg _,_,_,h=>by simp[bW]at h
 |.str,.agg _,_,_,h=>by simp[bW]at h
 |.int _,.agg _,_,_,h=>by simp[bW]at h
 |.sl _,.agg _,_,_,h=>by simp[bW]at h
 |t,.ptr _ _,_,_,h=>by cases t<;>simp[bW]at h
 |t,.nJ _ _ _,_,_,h=>by cases t<;>simp[bW]at h
 |t,.lG _ _ _ _,_,_,h=>by cases t<;>simp[bW]at h
 |t,.fn _ _ _,_,_,h=>by cases t<;>simp[bW]at h
 |t,.gM _,_,_,h=>by cases t<;>simp[bW]at h
 |t,.gd _ _,_,_,h=>by cases t<;>simp[bW]at h
def sn(b:fO S)(s:bu S):∀(ts:L Ty)(l:L (V S)){h:mG S.A ts}{os:L Nat},oC s ts l=Z (h,os)->∃p,nN (aI s) (bz l)=Z (p,gU S ts h,os)∧p
 |[],[],x,os,h=>by obtain⟨_,rfl⟩:=h;exact⟨True,rfl,trivial⟩
 |t::ts,v::l,x,os,h=>by
  simp[oC]at h;split at h
  .rename_i c d;obtain⟨rfl,rfl⟩:=h
   let ⟨p,e,f⟩:=pN b s t v c
   let ⟨q,a,g⟩:=sn b s ts l d
   exact⟨p∧q,by simp[bz,nN,e,a,gU],f,g⟩
  .cases h
 |[],_::_,_,_,h=>by simp[oC]at h
 |_::_,[],_,_,h=>by simp[oC]at h
end
def dx(c:fO S):∀(os:L Nat){s s':bu S},dX s os=Z s'->freeze (aI s) os=Z (aI s')
 |[],s,s',h=>by simp only[dX,gV]at h;subst h;rfl
 |o::os,s,s',h=>by
  simp only[dX]at h;obtain⟨e,h⟩|⟨_,h⟩:=ah h
  .have d:Nl (aI s).fl o=W:=e;simp only[freeze,d,eP];split at h
   .rename_i t l era b;have:=dx c os h
    grind[fL,aS,cU]
   .rename_i t l era b;simp only[aS,b,jB,cU];exact dx c os h
   .rename_i m r b;split at h
    .rename_i t f g;obtain⟨a,h⟩|⟨_,h⟩:=ah h
     .simp only[eK]at a;have:=dx c os h;have i:Nl (aI s).fl m=W:=a.2.1;simp only[aS,b,jB,cU,z6 g,i,a.1,a.2.2.1,Nj,eP]
      grind[aI,Tr.mj,cU,GG]
     .cases h
    .cases h
   .rename_i b;simp only[aS,b,jB,cU];exact dx c os h
   .rename_i b;simp only[aS,b,jB,cU];exact dx c os h
   .cases h
  .cases h
def zX{l:L (den S.A e)}(h:Ky s e v=Z l):∃p,Bv (aI s) (low v)=Z (p,l.map (enc S e))∧p:=by
 unfold Ky at h;split at h
 .simp only[gV]at h;subst h;exact⟨True,rfl,trivial⟩
 .obtain ⟨rfl,a⟩:=fG h;cases a;exact⟨True,rfl,trivial⟩
 .obtain ⟨rfl,a⟩:=fG h;cases a;exact⟨True,rfl,trivial⟩
 .obtain ⟨rfl,a⟩:=fG h;cases a;exact⟨_,rfl,rfl⟩
 .split at h
  .rename_i t c era d;obtain⟨b,h⟩|⟨_,h⟩:=ah h
   .obtain ⟨rfl,a⟩:=fG h;cases a;exact⟨True,by simp_all[low,Bv,aS,cU],trivial⟩
   .cases h
  .obtain ⟨b,h⟩|⟨_,h⟩:=ah h
   .obtain ⟨rfl,a⟩:=fG h;cases a;exact⟨True,by simp_all[low,Bv,aS,cU],trivial⟩
   .cases h
  .cases h
 .cases h
def O8{o e:Nat}{l:L (den S.A t)}(h:LU s o e=Z ⟨t,l⟩):IX (aI s) o e=Z (S.width t,l.map (enc S t)):=by
 unfold LU at h;unfold IX;rw[aS];split at h
 .rename_i b c era d;obtain⟨a,h⟩|⟨_,h⟩:=ah h
  .cases h
   simp_all[cU]
  .cases h
 .obtain ⟨a,h⟩|⟨_,h⟩:=ah h
  .cases h
   simp_all[cU]
  .cases h
 .cases h
def Ro{α:Type}(f:α->D)(l:L α)(k:Nat)(z:α)(h:k<l.length):jl (l.map f) k=f (aZ l k z):=by simp[jl,aZ,h]
def vT{α:Type}{l:L α}(h:aC n l=W):0<=n∧n<l.length:=by simpa[aC]using h
def sP{α:Type}{k:Nat}{l:L α}(h:cJ k l=W):k<l.length:=by simpa[cJ]using h
def Av(a:fO S)(x:den S.A t):bz (vQ (S:=S) t x)=(enc S t x).cells.map .sym:=by cases t with|st n=>simp[vQ,enc,D.cells];rw[vP _ _ (a.leaf n),a.cells]|cT n=>show[T.sym (PM (S.qT n x))]=(PM (S.qT n x)).cells.map .sym;rw[nk];rfl|_=>rfl
def BD(g:fO S)(o:∀u,τ=Z u->yE S i u){x:den S.A t}{off:Nat}(h:S8 i τ t x off=Z v) :
  oE i (enc S t x) off=Z (low v)∧(enc S t x).has (Na off i.size):=by
 have y:=kG g x;obtain⟨f,p⟩|⟨_,h⟩:=ah h
 .simp only[eK]at f;clear h
  let ⟨h1,h2⟩:=f
  have q:=beq_iff'.1 h1;subst q;have h:=jU p;subst h;unfold abx at h2;split at h2
  .rename_i u;have:=jN h2;subst this;have c:=o u rfl;cases u with
   |st n=>
    let ⟨b,a⟩:=c
    have r:(S.cells n x).length=(S.fs n).length:=by rw[g.cells,mI]
    refine⟨?_,?_⟩
    .unfold oE;rw[b,eP,a,<-r];simp[enc,low,e9,Fk]
    simp_all[D.has,enc,D.cells]
   |int k=>let ⟨_,b,a⟩:=c;exact⟨by simp only[oE,b,a];rfl,by simp only[D.has,a];exact cu _⟩
   |bool=>let ⟨_,b,a⟩:=c;exact⟨by simp only[oE,b,a];rfl,by simp only[D.has,a];exact cu _⟩
   |str=>let ⟨_,b,a⟩:=c;exact⟨by simp only[oE,b,a];rfl,by simp only[D.has,a];exact cu _⟩
   |sl e=>let ⟨_,b,a,_⟩:=c;exact⟨by simp only[oE,b,a];rfl,by simp only[D.has,a];exact cu _⟩
   |cT n=>
    let ⟨_,b,a⟩:=c
    have e:(enc S (.cT n) x).cells=[enc S (.cT n) x]:=nk _;exact⟨by simp only[oE,b,a,D.cell,e];rfl,by simp_all[D.has]⟩
  .cases h2
 .obtain ⟨f,h⟩|⟨_,h⟩:=ah h
  .have s:off+i.size<=S.width t:=g9 f;have d:=o9 h;rw[lW,lX,Av g]at d;have l:((List.map T.sym (enc S t x).cells).drop off).take i.size=(List.range i.size).map λj=>T.sym ((enc S t x).cell (off+j)):=by
    apply UO;intro j;rw[kN];by_cases z:j<i.size
    .grind[D.cell]
    grind
   refine⟨?_,by simp only[D.has];grind⟩;unfold vI at d;unfold oE;cases m:i.agg with
   |true=>
    simp_all
   |false=>
    rw[m,ez]at d;split at d
    .rename_i w;have h1:i.size=1:=by
      have:=pU List.length w
      grind
     simp_all
    .cases d
  .cases h
def JB(e:fO S)(f:∀u,τ=Z u->yE S i u){s':bu S}{a:V S}{c:Bool}(h:yj i τ s a=Z (c,v,s'))(g:c=W) :
  s'=s∧∃p,loadT i (aI s) (low a)=Z (p,low v,aI s')∧p:=by
 unfold yj at h;split at h
 .rename_i o off;split at h
  .rename_i j y;obtain⟨z,h⟩|⟨_,h⟩:=ah h
   .simp only[fV,fP]at h;obtain⟨t,m,_,rfl,rfl⟩:=h;refine⟨rfl,True,?_,trivial⟩;have n:=o9 m;rw[lW,lX]at n;have q:Nq (cB (((bz j).drop off).take i.size)) i.size=W:=by
     grind[bR,eR]
    simp_all[low,loadT,aS,cU]
   .cases h
  .cases h
 .rename_i t x off;simp only[fV,fP]at h;obtain⟨u,b,_,rfl,rfl⟩:=h
  let ⟨h1,h2⟩:=BD e f b
  exact⟨rfl,_,by grind[low,loadT],h2⟩
 .rename_i k off;split at h
  .rename_i t l r;simp at h;obtain⟨u,b,rfl,rfl,rfl⟩:=h
   let ⟨h1,h2⟩:=BD e f b
   have w:=sP g;have d:=Ro (enc S t) l k (S.zero t) w;refine⟨rfl,lg (k:Int) (eN (l.map (enc S t)))∧(enc S t (aZ l k (S.zero t))).has (Na off i.size),by simp[low,loadT,O8 r,d,h1,jB],?_,h2⟩
   grind[lg,eN]
  .cases h
 .cases h
def FJ{x:O Operand}(h:KQ fr x=Z u):NJ (bB fr) x=Z (u.map low):=by
 cases x with
 |none=>simp[KQ,gV]at h;subst h;rfl|some x=>
  simp[KQ,fV]at h;obtain⟨v,a,rfl⟩:=h
  grind[NJ,cr]
def qw{d:Int}(h:Cq d u=Z n):∃p,wA d (u.map low)=Z (p,n)∧p:=by cases u with|none=>simp[Cq,gV]at h;subst h;exact⟨True,rfl,trivial⟩|some v=>exact gI h
def FH(v:V S):sH (low v)=NG v:=by
 cases v with
 |ty t x=>cases t<;>rfl
 |_=>rfl
def tJ{fr:bU S}:∀{l:L (Nat×Operand)}{a:L (Nat×V S)},ja fr l=Z a->rI (bB fr) l=Z (a.map λp=>(p.1,low p.2))
 |[],a,h=>by simp only[ja,gV]at h;subst h;rfl
 |(k,x)::l,a,h=>by
  simp[ja]at h;split at h
  .rename_i h1 h2;simp at h;subst h;simp[rI,cr h1,tJ h2,kW]
  .cases h
def BY(e:fO S){place:Nat->O (Nat×TI)}:∀{ps:L (Nat×V S)}{cells r:L (V S)},JR place cells ps=Z r->∃p,GJ place (bz cells) (ps.map λp=>(p.1,low p.2))=Z (p,bz r)∧p
 |[],cells,r,h=>by simp[JR,gV]at h;subst h;exact⟨True,rfl,trivial⟩
 |(k,v)::ps,cells,r,h=>by
  simp only[JR]at h;split at h
  .cases h
  .rename_i g;split at h
   .cases h
   .rename_i l i;obtain⟨c,h⟩|⟨_,h⟩:=ah h
    .simp only[eK]at c
     let ⟨p,j,d⟩:=qv e i
     let ⟨q,f,m⟩:=BY e h
     simp only[j3,lW,lX]at f;have b:cB (bz l)=cB l:=by rw[bR,eR,<-bR]
     have a:cB (bz cells)=cB cells:=by rw[bR,eR,<-bR]
     refine⟨p∧leaves (bz l)∧q,?_,d,zb c.2,m⟩;simp only[kW,GJ,g,j,b,a,c.1,eP,f,jB]
    .cases h
def GW(a:fO S){s:bu S}{e:Ty}{i:TI}(b:i.agg=j4 e∧(j4 e=W->i.size=S.width e)):∀{ps:L (Nat×V S)}{es r:L (den S.A e)}{os:L Nat},oh s e es ps=Z (r,os)->
  ∃p,rS (aI s) i (es.map (enc S e)) (ps.map λp=>(p.1,low p.2))=Z (p,r.map (enc S e),os)∧p
 |[],es,r,os,h=>by obtain⟨rfl,rfl⟩:=h;exact⟨True,rfl,trivial⟩
 |(k,v)::ps,es,r,os,h=>by
  simp[oh]at h;split at h
  .cases h
  .rename_i x g j;obtain⟨u,h⟩|⟨_,h⟩:=ah h
   .split at h
    .rename_i l;obtain⟨rfl,rfl⟩:=h
     let ⟨p,m,o⟩:=pN a s e v j
     let ⟨q,f,t⟩:=GW a b l
     rw[Jm]at f;have c:Nt k (cB (es.map (enc S e)))=W:=by grind[bR]
     refine⟨p∧(bif i.agg then(enc S e x).isAgg i.size else(enc S e x).leaf)=W∧q,by simp[kW,rS,m,c,eP,f,jB],o,?_,t⟩;rw[b.1];cases e with|st n=>simp only[j4,eP,enc,D.isAgg];have d:=b.2 rfl;rw[d];simp only[Sg.width,bR,a.cells,mI,eK];refine⟨beq_iff'.2 rfl,?_⟩;rw[gY];exact ic _ _ (a.leaf n)|cT n=>exact vV _|_=>rfl
    .cases h
   .cases h
end
section
def vz(s:St):∀(l m:L T){p q:Prop}{ds es:L D}{os ps:L Nat},nN s l=Z (p,ds,os)->nN s m=Z (q,es,ps)->∃r,nN s (l++m)=Z (r,ds++es,os++ps)∧(p->q->r)
 |[],m,p,q,ds,es,os,ps,h,b=>by
  simp only[nN,gV,fP]at h
  grind
 |t::l,m,p,q,ds,es,os,ps,h,b=>by
  simp[nN]at h;split at h
  .rename_i e d f k g i h1 h2;obtain⟨rfl,rfl,rfl⟩:=h
   let ⟨r,n,a⟩:=vz s l m h2 b
   exact⟨e∧r,by grind[nN],λc j=>⟨c.1,a c.2 j⟩⟩
  .cases h
def LB(a:fO S):∀(t:Ty)(h:mG S.A (S.nE t)),(enc S t (vL t h)).cells=gU S (S.nE t) h
 |.st n,h=>(a.cells n (S.Yh n h)).trans (pU _ (a.vY n h))|.int _,_=>rfl|.bool,_=>rfl|.str,_=>rfl|.sl _,_=>rfl|.cT _,h=>by rw[show(enc S (.cT _) (vL _ h)).cells=[enc S (.cT _) (vL _ h)]from nk _];rfl
variable {i:TI}{s s':bu S}{a x v:V S}{c:Bool}{lo hi:Int}
def Qa(j:fO S)(h:ET i s a x=Z (c,v,s'))(hc:c=W) :
  ∃p,storeT i (aI s) (low a) (low x)=Z (p,low v,aI s')∧p:=by
 unfold ET at h;split at h
 .cases h
 .rename_i l hl
  let ⟨p,K,hp⟩:=qv j hl
  have P:cB (bz l)=cB l:=by rw[bR,eR,<-bR]
  split at h
  .rename_i o off;split at h
   .rename_i cs ho;obtain⟨C,E⟩|⟨_,E⟩:=ah h
    .clear h;simp only[eK]at C;obtain⟨_,rfl,rfl⟩:=E;have F:cB (bz cs)=cB cs:=by rw[bR,eR,<-bR]
     have hb':(Nl (aI s).fl o&&Nl (Na off (cB l)) (cB (bz cs)))=W:=by rw[F,eK];exact⟨C.1,C.2.1⟩
     refine⟨p∧leaves (bz l),?_,hp,zb C.2.2⟩;simp only[storeT,K,low,aS,ho,jB,cU,hb',eP,fL,j3,lW,lX,P];rfl
    .cases E
   .cases h
  .rename_i o e k off;split at h
   .rename_i t _ _ _;split at h
    .rename_i h0 os hos;split at h
     .rename_i s1 II;split at h
      .rename_i t2 g era ho;split at h
       .rename_i h2 os2 hh2;obtain⟨C,E⟩|⟨_,E⟩:=ah h
        .clear h;simp only[eK]at C
         let ⟨DV,pF,R,Rf,hb5⟩:=C
         obtain⟨rfl,rfl,rfl⟩:=E
         let ⟨q,hd,hq⟩:=sn j s _ l hos
         have hf:=dx j os II;have hk:=sP hc;have I:=Ro (enc S t2) g k (S.zero t2) hk
         let ⟨q2,u,_⟩:=sn j s _ _ hh2
         have w:off+cB l<=S.width t2:=g9 R;have h1l:1<=cB l:=g9 Rf;generalize hds:gU S (List.take (cB l) (List.drop off (S.nE t))) h0=ds at hd;have f:ds.length=cB l:=by
          have:∀(s:St)(l:L T){p:Prop}{ds:L D}{os:L Nat},nN s l=Z (p,ds,os)->ds.length=l.length:=by
           intro s l
           induction l with
           |nil=>intro p ds os h;obtain⟨_,rfl,_⟩:=h;rfl
           |cons t l ih=>
            intro p ds os h;simp[nN]at h;split at h
            .rename_i h2;obtain⟨_,rfl,_⟩:=h;simp[ih h2]
            .cases h
          rw[this _ _ hd,eR,bR]
         have A:gU S (S.nE t2) h2=(enc S t2 (aZ g k (S.zero t2))).cells.take off++ds++(enc S t2 (aZ g k (S.zero t2))).cells.drop (Na off (cB l)):=by
          rw[j3,j3,lW,lX,Av j,<-SZ,<-List.map_drop]at u
          let ⟨r1,e1,_⟩:=w7 (aI s) ((enc S t2 (aZ g k (S.zero t2))).cells.take off)
          let ⟨r2,e2,_⟩:=w7 (aI s) ((enc S t2 (aZ g k (S.zero t2))).cells.drop (Na off (cB l)))
          let ⟨r3,e3,_⟩:=vz _ _ _ e1 hd
          let ⟨r4,e4,_⟩:=vz _ _ _ e3 e2
          rw[e4]at u;simp only[gV,fP]at u;exact u.2.1.symm
         have B:D.SG (enc S t2 (aZ g k (S.zero t2))) off ds=enc S t2 (vL t2 h2):=by
          have b:=LB j t2 h2;rw[A]at b;cases t2 with
          |st n=>simp only[enc,D.cells]at b;simp only[enc,D.SG,f];rw[b];rfl|cT n=>
           simp[Sg.width]at w;have m:off=0:=by omega
           have r:cB l=1:=by omega
           rw[r]at f;obtain⟨d1,rfl⟩:=abM.1 f;subst m;have hcx:∀y:S.A n,(enc S (.cT n) y).cells=[enc S (.cT n) y]:=λy=>nk _;rw[hcx,hcx]at b;simp[List.take_zero,KM,r,List.drop_succ_cons,List.drop_nil,oN,List.cons.injEq,and_true]at b;have hux:∀y:S.A n,D.SG (enc S (.cT n) y) 0 [d1]=d1:=λy=>by show D.SG (PM (S.qT n y)) 0 [d1]=d1;cases S.qT n y<;>rfl
           rw[hux];exact b.symm
          |_=>
           simp only[Sg.width]at w;have m:off=0:=by omega
           have r:cB l=1:=by omega
           rw[r]at f;obtain⟨d1,rfl⟩:=abM.1 f;subst m;simp only[enc,D.cells,List.take_zero,KM,r,Nat.add_eq,qG,List.drop_succ_cons,List.drop_nil,oN,List.cons.injEq,and_true]at b;simp only[enc,D.SG,List.getD,qH,List.length_nil,Nat.lt_add_one,getElem?_pos,List.getElem_cons_zero,Jo,qG];exact b.symm
         have htk:(jl (g.map (enc S t2)) k).SN (S.width t2) off (cB ds):=by
          rw[I,bR,f];cases t2 with
          |st n=>
           left
           simp only[enc,D.isAgg,Sg.width,bR,j.cells,mI,eK];refine⟨beq_iff'.2 rfl,?_⟩;rw[gY];exact ic _ _ (j.leaf n)
          |cT n=>simp[Sg.width]at w;exact .inr ⟨vV _,rfl,by omega,by omega⟩
          |_=>simp only[Sg.width]at w;exact .inr ⟨rfl,rfl,by omega,by omega⟩
         have aqT:Nl (Na off (cB ds)) (S.width t2)=W:=by rw[bR,f];exact R
         have z:ds.all D.leaf=W:=by
          rw[gY];intro d hd';have:d∈gU S (S.nE t2) h2:=by rw[A];simp[hd']
          cases t2 with|st n=>exact ic _ _ (j.leaf n) d this|cT n=>simp[Sg.nE,gU,oa]at this;rw[this];exact vV _|_=>simp only[Sg.nE,gU,oa]at this;rw[this];rfl
         have hby:((jl (g.map (enc S t2)) k).SG off ds).sj=(jl (g.map (enc S t2)) k).sj:=by rw[I,B,Cc j,Cc j]
         have aqV:(Nl (aI s1).fl o&&Nq e era)=W:=by rw[eK];exact⟨DV,pF⟩
         refine⟨p∧q∧ds.all D.leaf=W∧lg (k:Int) (eN (g.map (enc S t2)))∧(jl (g.map (enc S t2)) k).SN (S.width t2) off (cB ds)∧Nl (Na off (cB ds)) (S.width t2)=W∧
          ((jl (g.map (enc S t2)) k).SG off ds).sj=(jl (g.map (enc S t2)) k).sj,?_,hp,hq,z,?_,htk,aqT,hby⟩
         .simp only[storeT,K,low,hd,hf,aS,ho,jB,cU,aqV,eP,fL,I,B,wU,eg,Jm];rfl
         .simp only[lg,eN,rH];omega
        .cases E
       .cases h
      .cases h
     .cases h
    .cases h
   .cases h
  .cases h
def Hi{len:Int}(h:iJ lo hi len=W):yN lo hi len:=by simpa[iJ,yN]using h
def oT{α:Type}(f:α->D)(l:L α):eN (l.map f)=ax l:=by simp[eN,ax]
def SQ{α:Type}(f:α->D)(l:L α)(lo hi:Int):oJ (l.map f) lo hi=(eZ l lo hi).map f:=by
 grind[oJ,eZ,List.map_drop,List.map_take]
def sB(a:fO S){e:Ty}(l:L (den S.A e)):jA (l.map (enc S e)) (S.width e):=by intro d b;obtain⟨x,_,rfl⟩:=nO.1 b;exact kG a x
def EY(b:L UInt8):uD (bY b)=ax b:=by rfl
def Qc(b:L UInt8)(h:yN lo hi (ax b)):My (bY b) lo hi=bY (eZ b lo hi):=by
 let ⟨h1,h2,h3⟩:=h
 unfold My bY eZ;apply ByteArray.ext
 grind[ByteArray.data_extract,List.drop_take]
def Qd(hS:fO S){τ:O Ty}(hi:∀u,τ=Z u->yE S i u){l h m:O (V S)}(g:vC i τ s x l h m=Z (c,v,s'))(C:c=W) :
  ∃p,pO i (aI s) (low x) (l.map low) (h.map low) (m.map low)=Z (p,low v,aI s')∧p:=by
 unfold vC at g;split at g
 .rename_i lo E
  let ⟨p,f,P⟩:=qw (d:=0) E
  have f:wA zL (l.map low)=Z (p,lo):=f
  let ⟨w,_,_⟩:=hi _ rfl
  split at g
  .rename_i b _ hb
   let ⟨q,A,R⟩:=kT hb
   split at g
   .rename_i j B
    let ⟨r,o,I⟩:=qw B
    obtain⟨rfl,rfl,rfl⟩:=g;have a:=Hi C;refine⟨p∧q∧r∧yN lo j (uD (bY b)),?_,P,R,I,by exact a⟩;unfold pO;rw[w,f];simp only[A,Option.map_none,EY,o,Qc b a];rfl
   .cases g
  .cases g
 .rename_i e lo E
  let ⟨p,f,P⟩:=qw (d:=0) E
  have f:wA zL (l.map low)=Z (p,lo):=f
  let ⟨⟨z,w,_⟩,_⟩:=hi _ rfl
  split at g
  .rename_i K s1 _ MF hfz
   let ⟨q,A,R⟩:=zX MF
   have hf:=dx hS _ hfz;rw[<-FH]at hf;split at g
   .rename_i _ j B
    let ⟨r,o,I⟩:=qw B
    obtain⟨rfl,rfl,rfl⟩:=g;have a:=Hi C;refine⟨p∧q∧r∧jA (K.map (enc S e)) (S.width e)∧yN lo j (eN (K.map (enc S e))),?_,P,R,I,sB hS K,by rw[oT];exact a⟩;unfold pO;rw[w,f];simp only[A,hf,oT,o,Option.map_none,SQ];rfl
   .rename_i j y hv B
    let ⟨r,o,I⟩:=qw B
    simp at o;split at g
    .obtain ⟨rfl,rfl,rfl⟩:=g;simp[eK,iT,nP]at C;refine⟨p∧q∧r∧lo=zL∧j=zL,?_,P,R,I,C.1,C.2⟩;unfold pO;rw[w,f];simp[A,hf,oT,o,jB,low]
    .rename_i hno;split at g
     .rename_i mx hmx
      let ⟨t,ht1,ht⟩:=gI hmx
      obtain⟨rfl,rfl,rfl⟩:=g;simp[eK,iT,nP]at C;have a:=Hi C.1;refine⟨p∧q∧r∧t∧jA (K.map (enc S e)) (S.width e)∧yN lo j (eN (K.map (enc S e)))∧mx=j,?_,P,R,I,ht,sB hS K,by rw[oT];exact a,C.2⟩;unfold pO;rw[w,f];simp[A,hf,oT,o,jB,SQ];have hnl:∀q,low y=.kn .i64 q->q≠0:=by
       intro q F h0;subst h0;cases y with
       |ty t x=>cases t<;>simp[low,e9]at F
       |kn k n=>obtain⟨rfl,rfl⟩:=F;exact hno rfl
       |_=>simp[low]at F
      generalize low y=ly at ht1 hnl;split
      .exact absurd rfl (hnl 0 rfl)
      .rw[ht1];rfl
     .cases g
   .cases g
  .cases g
 .cases g
def HH{g:O Bool}{b:Bool}(h:aad v=Z (g,b)):∃p,IY (low v)=Z (p,b)∧(orT g=W->p):=by
 unfold aad at h;split at h
 .rename_i c i;split at h
  .rename_i d
   let ⟨p,a,e⟩:=l7 d
   obtain⟨rfl,rfl⟩:=h;exact⟨c=W∧p,by simp[low,IY,a],λf=>⟨f,e⟩⟩
  .cases h
 .obtain ⟨rfl,rfl⟩:=h;exact⟨True,rfl,λ_=>trivial⟩
 .obtain ⟨rfl,rfl⟩:=h;exact⟨_,rfl,λ_=>rfl⟩
 .cases h
def U1{c b:V S}{q:Bool}(h:XU c a b=Z (q,v))(f:q=W):∃p,Jq (low c) (low a) (low b)=Z (p,low v)∧p:=by
 unfold XU at h;split at h
 .rename_i u;split at h
  .rename_i p y h1;obtain⟨rfl,rfl⟩:=h
   let ⟨r,e,k⟩:=HH h1
   refine⟨r,?_,k f⟩;have g:IY (bif u then low a else low b)=Z (r,y):=by cases u<;>exact e
   simp only[low,Jq,g];rfl
  .cases h
 split at h
 .rename_i t p x C y h1 h2 h3
  let ⟨i,j,l⟩:=l7 h1
  let ⟨m,n,o⟩:=HH h2
  let ⟨s,w,z⟩:=HH h3
  obtain⟨rfl,rfl⟩:=h;refine⟨i∧(t=W->m)∧(t=J->s),by
   have A:∀u,low c≠.kb u:=by
    intro u d;cases c with
    |kb b=>grind|ty t x=>cases t<;>cases d
    |_=>cases d
   unfold Jq;split
   .simp_all
   .simp only[j,n,w];rfl,l,λB=>o ?_,λB=>z ?_⟩
  .simp_all
  simp_all
 .cases h
end
section
variable {v x ix a b:V S}{i:TI}{s s':bu S}{c:Bool}{op:BinOp}
def afO{o r:Nat}(h:low v=.sh o r):v=.sh o r:=by
 cases v with
 |ty t x=>cases t<;>simp[low,e9]at h
 |sh a b=>simpa[low]using h|_=>simp[low]at h
def Gu(C:fO S){τ:O Ty}(E:∀u,τ=Z u->yE S i u)(a:j5 i τ s x ix=Z (c,v,s'))(A:c=W) :
  s'=s∧∃p,lF i (aI s) (low x) (low ix)=Z (p,low v,aI s')∧p:=by
 unfold j5 at a;split at a
 .rename_i e n F I
  let ⟨p,g,B⟩:=gI I
  let ⟨⟨z,b,_⟩,_⟩:=E _ rfl
  split at a
  .rename_i o r;split at a
   .rename_i t l k;obtain⟨K,d⟩|⟨_,d⟩:=ah a
    .clear a;have:=jN K;subst this;obtain⟨rfl,rfl,rfl⟩:=d;have f:=vT A;have m:Nq (S.width t) (S.width t)=W:=beq_iff'.2 rfl;refine⟨rfl,p∧lg n (eN (l.map (enc S t))),?_,B,by rw[oT];exact f⟩;unfold lF;rw[b,g];simp only[low,O8 k,m,eP];rfl
    .cases d
   .cases a
  .rename_i w;split at a
   .rename_i l k;obtain⟨rfl,rfl,rfl⟩:=a
    let ⟨q,y,P⟩:=zX k
    have f:=vT A;have R:(ak n)<l.length:=by unfold ak;omega
    have h:=Ro (enc S e) l (ak n) (S.zero e) R;refine⟨rfl,p∧q∧lg n (eN (l.map (enc S e)))∧(jl (l.map (enc S e)) (DL n)).wide (S.width e),?_,B,P,by rw[oT];exact f,?_⟩
    .unfold lF;rw[b,g];simp only;split
     .rename_i o r j;exact absurd (afO j) (w o r)
     .rw[y];simp only[low];rw[show jl (List.map (enc S e) l) (DL n)=_ from h]
    .show (jl (l.map (enc S e)) (ak n)).cells.length=_;rw[h,kG C]
   .cases a
 .cases a
theorem ql{i:TI}{s s':bu S}{k:Nat}{x v:V S}{c:Bool}(a:qm i s k x=Z (c,v,s')):s'=s∧∃p,qn i (aI s) k (low x)=Z (p,low v,aI s')∧p:=by
 unfold qm at a;unfold qn;split at a
 .rename_i b;try rw[b]
  try simp only
  split at a
  .rename_i d;try rw[d]
   obtain⟨_,h⟩|⟨e,h⟩:=ah a
   .cases h
   .simp only[e,ez];split at h;all_goals first
     |(cases h;done)
     |(
       simp only[gV,fP]at h;obtain⟨rfl,rfl,rfl⟩:=h;exact⟨rfl,True,rfl,trivial⟩)
  .cases a
 .cases a
def Rl(e:fO S){k:Nat}(a:BZ i s k x=Z (c,v,s')):s'=s∧∃p,GK i (aI s) k (low x)=Z (p,low v,aI s')∧p:=by
 unfold BZ at a;unfold GK;split at a
 .rename_i b;try rw[b]
  try simp only
  split at a
  .rename_i off size o f q g
   let ⟨p,j,l⟩:=qv e g
   obtain⟨r,h⟩|⟨_,h⟩:=ah a
   .simp only[fV,fP]at h;obtain⟨t,m,_,rfl,rfl⟩:=h;have d:=o9 m;rw[lW,lX]at d;have n:(Nq (cB (((bz f).drop off).take size)) size&&!(Nq size 0))=W:=by
     grind[bR,eR]
    exact⟨rfl,p,by simp_all,l⟩
   .cases h
  .cases a
 .cases a
theorem UD{b:L UInt8}{n:Int}(h:aC n b=W):aa1 (bY b) n=mo b n:=by
 have a:=vT h;have c:n.toNat<b.length:=by omega
 unfold aa1 mo;have h1:(bY b).get! n.toNat=b.getD n.toNat 0:=by
  grind[bY,ByteArray.get!]
 rw[h1]
def Q2(a:BO i s x ix=Z (c,v,s'))(d:c=W):s'=s∧∃p,Gt i (aI s) (low x) (low ix)=Z (p,low v,aI s')∧p:=by
 unfold BO at a;split at a
 .rename_i n b e f g
  let ⟨p,h,j⟩:=gI f
  let ⟨q,k,l⟩:=kT g
  obtain⟨rfl,rfl,rfl⟩:=a;refine⟨rfl,p∧q∧lg n (uD (bY b)),?_,j,l,by exact vT d⟩
  grind[Gt,low,e9,enc,UD]
 .cases a
def Uo(d:D):low (zeroV (S:=S) d)=pZ d:=by
 unfold zeroV;split
 .rfl
 .rfl
 .rfl
 .rfl
 .unfold pZ;split
  .simp_all
  .simp_all
  .grind
  .rfl
def mZ:∀(l:L D),bz (l.map (zeroV (S:=S)))=l.map pZ
 |[]=>rfl|d::l=>by simp[kW,bz,Uo,mZ l]
def RH(a:i.kd=.iface->False)(s:St)(t u:TypeId)(v:T) :
  rm i s t W (.cT u v)=(bif Nq u t then Z (True,.gM [v,.kb W],s)else(vI i.agg (i.zero.map pZ)).map λz=>(True,.gM [z,.kb J],s)):=by
 unfold rm;cases b:i.kd<;>first|rfl|grind
def RI(a:i.kd=.iface->False)(s:St)(t u:TypeId)(v:T) :
  rm i s t J (.cT u v)=(bif Nq u t then Z (True,v,s)else Y):=by
 unfold rm;cases b:i.kd<;>first|rfl|grind
theorem wD{i:TI}{s s':bu S}{t:TypeId}{ok:Bool}{x v:V S}{c:Bool}(a:EE i s t ok x=Z (c,v,s')):s'=s∧∃p,rm i (aI s) t ok (low x)=Z (p,low v,aI s')∧p:=by
 unfold EE at a;split at a
 .cases a
 .rename_i u w _ b;rw[low,RH b];obtain⟨d,a⟩|⟨d,a⟩:=ah a
  .obtain ⟨rfl,rfl,rfl⟩:=a;exact⟨rfl,True,by rw[d];rfl,trivial⟩
  .simp only[fV,fP]at a;obtain⟨z,f,_,rfl,rfl⟩:=a;have e:=o9 f;rw[mZ]at e;exact⟨rfl,True,by rw[d,ez,e];rfl,trivial⟩
 .rename_i _ b;rw[low,RI b];obtain⟨d,a⟩|⟨_,a⟩:=ah a
  .obtain ⟨rfl,rfl,rfl⟩:=a;exact⟨rfl,True,by rw[d];rfl,trivial⟩
  .cases a
 .cases a
def abw{op:UnOp}(a:unV i op x=Z v):∃p d,unT i op (low x)=Z (p,d)∧p∧low v=.sym d:=by
 unfold unV at a;split at a
 .rename_i c;simp only[fV]at a;obtain⟨b,f,rfl⟩:=a
  let ⟨p,e,g⟩:=l7 f
  exact⟨p,_,by simp only[unT,c,e,jB];rfl,g,rfl⟩
 .rename_i c;simp at a;obtain⟨b,f,rfl⟩:=a
  let ⟨p,e,g⟩:=gI f
  exact⟨p,_,by simp only[unT,c,e,jB];rfl,g,rfl⟩
 .cases a
theorem Cj{i j:TI}{s s':bu S}{x v:V S}{c:Bool}(a:TS i j s x=Z (c,v,s')):s'=s∧∃p,J1 i j (aI s) (low x)=Z (p,low v,aI s')∧p:=by
 unfold TS at a;split at a
 .rename_i h1 h2;simp only[fV,fP]at a;obtain⟨n,d,_,rfl,rfl⟩:=a
  let ⟨p,b,e⟩:=gI d
  exact⟨rfl,p,by simp only[J1,h1,h2,b,jB];rfl,e⟩
 .simp only[fV,fP]at a;obtain⟨n,d,_,rfl,rfl⟩:=a
  let ⟨p,b,e⟩:=kT d
  exact⟨rfl,p,by grind[J1],e⟩
 .cases a
theorem tY{s s':bu S}{k:Nat}{x v:V S}{c:Bool}(a:AN s k x=Z (c,v,s')):s'=s∧∃p,sS (aI s) k (low x)=Z (p,low v,aI s')∧p:=by
 unfold AN at a;split at a
 .simp only[fV,fP]at a;obtain⟨t,b,_,rfl,rfl⟩:=a;exact⟨rfl,True,by simp_all[low,sS,kO,gH],trivial⟩
 .cases a
def Bw(a b:L UInt8):Uj (bY a) (bY b)=gG a b:=by show(a.toArray==b.toArray)=(a==b);simp
theorem Dt{k:Lk}{a b:V S}{r:Bool}(h:EC k a b=Z r):∃p,qo k (low a) (low b)=Z (p,r)∧p:=by
 unfold EC at h;split at h
 .split at h
  .rename_i h1 h2;simp at h;subst h
   let ⟨p,c,d⟩:=gI h1
   let ⟨q,e,f⟩:=gI h2
   exact⟨p∧q,by simp[qo,c,e],d,f⟩
  .cases h
 .split at h
  .rename_i h1 h2;simp at h;subst h
   let ⟨p,c,d⟩:=l7 h1
   let ⟨q,e,f⟩:=l7 h2
   exact⟨p∧q,by simp[qo,c,e],d,f⟩
  .cases h
 .split at h
  .rename_i h1 h2;simp at h;subst h
   let ⟨p,c,d⟩:=kT h1
   let ⟨q,e,f⟩:=kT h2
   exact⟨p∧q,by simp[qo,c,e,Bw],d,f⟩
  .cases h
 .cases h
theorem yu:∀{c:L Lk}{as bs:L (V S)}{r:Bool},kF c as bs=Z r->∃p,j9 c (bz as) (bz bs)=Z (p,r)∧p
 |[],[],[],r,h=>by simp only[kF,gV]at h;subst h;exact⟨True,rfl,trivial⟩
 |k::c,a::as,b::bs,r,h=>by
  simp[kF]at h;split at h
  .rename_i h1 h2;simp at h;subst h
   let ⟨p,d,e⟩:=Dt h1
   let ⟨q,f,g⟩:=yu h2
   exact⟨p∧q,by simp[bz,j9,d,f],e,g⟩
  .cases h
 |[],[],_::_,_,h=>by simp[kF]at h
 |[],_::_,_,_,h=>by simp[kF]at h
 |_::_,[],_,_,h=>by simp[kF]at h
 |_::_,_::_,[],_,h=>by simp[kF]at h
def OE(e:fO S){r:Bool}(h:agX i a b=Z r):∃p,ZB i (low a) (low b)=Z (p,r)∧p:=by
 unfold ZB;obtain⟨d,h⟩|⟨d,h⟩:=ah h
 .grind[qv,yu]
 .rw[d];split at h
  .grind[Dt]
  .rename_i c;try rw[c]
   unfold ZC at h;split at h
   .simp only[gV]at h;subst h;exact⟨True,rfl,trivial⟩
   .simp only[gV]at h;subst h;exact⟨True,rfl,trivial⟩
   .cases h
  .rename_i c;try rw[c]
   unfold ZD at h;split at h
   .simp only[gV]at h;subst h;exact⟨True,rfl,trivial⟩
   .simp only[gV]at h;subst h;exact⟨True,rfl,trivial⟩
   .cases h
  .cases h
def ZZ{op:BinOp}{k:IntKind}{m n:Int}:(adz (S:=S) op k m n).map low=(Wa op k m n).map .sym:=by unfold adz Wa;cases op<;>rfl
theorem ZR{op:BinOp}{k:IntKind}{m n:Int}:(adv (S:=S) op k m n).map low=(ZS op k m n).map .sym:=by unfold adv ZS;cases op<;>rfl
def VR{a b:L UInt8}(h:adk a b=W):Mz (bY a) (bY b):=by
 grind[adk,Mz,bY,ByteArray.size]
def Z9(z:fO S)(h:HA i op a b=Z (c,v))(B:c=W):∃p d,LP i op (low a) (low b)=Z (p,d)∧p∧low v=.sym d:=by
 have f:=h;unfold HA at h;split at h
 .simp only[fV,fP]at h;obtain⟨r,u,_,rfl⟩:=h
  let ⟨p,e,o⟩:=OE z u
  exact⟨p,_,by simp only[LP,e,jB];rfl,o,rfl⟩
 .simp only[fV,fP]at h;obtain⟨r,u,_,rfl⟩:=h
  let ⟨p,e,o⟩:=OE z u
  exact⟨p,_,by simp only[LP,e,jB];rfl,o,rfl⟩
 .rename_i g j;cases l:i.kd with
  |leaf C=>
   cases C with
   |int k=>
    have t:HA i op a b=(match gf k a,gf k b with
     |some m,Z n=>match adz op k m n with
      |some d=>Z (W,d)|none=>(adv op k m n).map λd=>(nzI n,d)
     |_,_=>Y):=by
     clear h;unfold HA;cases op<;>first|exact(g rfl).elim|exact(j rfl).elim|(simp only[l];done)|(simp only[l];cases gf k a<;>cases gf k b<;>rfl)
    have I:∀{p q:Prop}{m n:Int},xM k (low a)=Z (p,m)->xM k (low b)=Z (q,n)->LP i op (low a) (low b)=(match Wa op k m n with
     |some d=>Z (p∧q,d)|none=>(ZS op k m n).map λd=>(p∧q∧ahP n,d)):=by
     intro p q m n w x;clear h t;unfold LP;cases op<;>first|exact(g rfl).elim|exact(j rfl).elim|(simp only[l,w,x];rfl)
    rw[t]at f;split at f
    .rename_i m n h1 h2
     let ⟨p,w,o⟩:=gI h1
     let ⟨q,x,A⟩:=gI h2
     have s:=ZZ (S:=S) (op:=op) (k:=k) (m:=m) (n:=n);split at f
     .grind
     .rename_i E;rw[E]at s;simp only[fV,fP]at f;obtain⟨d,F,rfl,rfl⟩:=f
      grind[ZR,Option.map_eq_some_iff,ahP,nzI]
    .cases f
   |str=>
    have y:op=.add:=by clear h;unfold HA at f;cases op<;>first|rfl|exact(g rfl).elim|exact(j rfl).elim|(simp only[l]at f;cases f)
    clear h;subst y;have t:HA i .add a b=(match vA a,vA b with
     |some m,Z n=>Z (adk m n,.ty .str (cX m n))|_,_=>Y):=by
     unfold HA;simp[l];cases vA a<;>cases vA b<;>rfl
    rw[t]at f;split at f
    .rename_i m n h1 h2
     let ⟨p,w,o⟩:=kT h1
     let ⟨q,x,A⟩:=kT h2
     obtain⟨rfl,rfl⟩:=f;refine⟨p∧q∧Mz (bY m) (bY n),.lit (.string (Sq (bY m) (bY n))),?_,⟨o,A,VR B⟩,by rfl⟩
     simp_all[LP]
    .cases f
   |bool=>
    clear h;unfold HA at f;cases op<;>first|exact(g rfl).elim|exact(j rfl).elim|(simp only[l]at f;cases f)
   |no=>
    clear h;unfold HA at f;cases op<;>first|exact(g rfl).elim|exact(j rfl).elim|(simp only[l]at f;cases f)
  |_=>
   clear h;unfold HA at f;cases op<;>first|exact(g rfl).elim|exact(j rfl).elim|(simp only[l]at f;cases f)
def NL(A:fO S){E:gi}(hE:RQ S E){fr:bU S}{o:Op}(h:cD E fr s o=Z (c,v,s'))(F:c=W) :
  ∃p,n6 E.E (bB fr) (aI s) o=Z (p,low v,aI s')∧p:=by
 cases o with
 |move x=>simp only[cD,fV,fP]at h;obtain⟨t,ht,_,rfl,rfl⟩:=h;exact⟨True,by simp[n6,cr ht,jB],trivial⟩
 |assign x=>simp only[cD,fV,fP]at h;obtain⟨t,ht,_,rfl,rfl⟩:=h;exact⟨True,by simp[n6,cr ht,jB],trivial⟩
 |pick x y z=>
  simp[cD]at h;split at h
  .rename_i a b d h1 h2 h3;simp only[fV,fP]at h;obtain⟨⟨q,t⟩,ht,rfl,rfl,rfl⟩:=h
   let ⟨p,e,l⟩:=U1 ht F
   exact⟨p,by simp[n6,cr h1,cr h2,cr h3,e,jB],l⟩
  .cases h
 |alloc t=>
  simp[cD]at h;split at h
  .rename_i i g;obtain⟨w,h⟩|⟨_,h⟩:=ah h
   .obtain ⟨_,rfl,rfl⟩:=h;refine⟨True,?_,trivial⟩;have I:Nt (aI s).aL bC=W:=w;simp only[n6,g,I,eP,gS,cU,mZ];rfl
   .cases h
  .cases h
 |box t x=>
  simp[cD]at h;split at h
  .rename_i i v' g hv;obtain⟨w,h⟩|⟨_,h⟩:=ah h
   .simp only[fV,fP]at h;obtain⟨cs,K,_,rfl,rfl⟩:=h
    let ⟨p,e,l⟩:=qv A K
    have I:Nt (aI s).aL bC=W:=w;refine⟨p,?_,l⟩;simp only[n6,g,cr hv,I,eP,e,jB,gS,cU];rfl
   .cases h
  .cases h
 |build t ps=>
  simp[cD]at h;split at h
  .rename_i i ps' g P;split at h
   .rename_i B;simp only[fV,fP]at h;obtain⟨cs,K,_,rfl,rfl⟩:=h
    let ⟨p,e,l⟩:=BY A K
    rw[mZ]at e;refine⟨p,?_,l⟩;simp only[n6,g,tJ P,B,low];exact pU (Option.map λq:Prop×L T=>(q.1,T.agg q.2,aI s)) e
   .cases h
  .cases h
 |buildSlice t n ps=>
  simp only[cD]at h;split at h
  .rename_i i e ps' g Oc P;split at h
   .rename_i zz B;obtain⟨w,h⟩|⟨_,h⟩:=ah h
    .split at h
     .rename_i os hel;simp only[fV,fP]at h;obtain⟨s1,II,_,rfl,rfl⟩:=h
      let ⟨⟨z,C,R⟩,_,_,hpos⟩:=hE.row _ _ _ g Oc
      rw[B]at C;obtain⟨rfl,rfl,rfl,rfl⟩:=Kd.slice.inj C;have hf:=dx A os II;have hzl:cB zz=S.width e:=by cases e with|st m=>simp[j4,eP,enc,D.agg.injEq]at R;rw[R];simp[Sg.width,bR];rw[show S.cells m (S.zero (.st m))=_ from A.cells m _,mI]|_=>simp only[j4,ez]at R;rw[R];rfl
      have Zc:((j4 e||Nq (S.width e) 1)&&(Nq (cB zz) (S.width e)&&(!(Nq (S.width e) 0)&&Nl (Nat.mul n (S.width e)) 16777216)))=W:=by
       rw[hzl];simp only[eK,Qs];refine⟨?_,beq_iff'.2 rfl,?_,w⟩
       .cases e<;>rfl
       .cases hq:Nq (S.width e) 0 with|false=>rfl|true=>have:=beq_iff'.1 hq;omega
      have agi:List.replicate n (bif j4 e then D.agg zz else zz.getD 0 default)=(List.replicate n (S.zero e)).map (enc S e):=by
       rw[List.map_replicate]
       congr 1
       cases e with|st m=>exact R|_=>simp only[j4,ez]at R ⊢;rw[R];rfl
      let ⟨p,e1,l⟩:=GW A (i:={(default:TI)with size:=S.width e,agg:=j4 e}) ⟨rfl,λ_=>rfl⟩ hel
      refine⟨p,?_,l⟩;simp only[n6,g,tJ P,B,Zc,eP,agi,e1,hf,jB,low]
     .cases h
    .cases h
   .cases h
  .cases h
 |load t x=>
  simp[cD]at h;split at h
  .rename_i i a g r;obtain⟨rfl,p,e,l⟩:=JB A (λu hu=>hE.row _ _ _ g hu) h F;exact⟨p,by simp[n6,g,cr r,e],l⟩
  .cases h
 |store t x y=>
  simp[cD]at h;split at h
  .rename_i i a b g r w
   let ⟨p,e,l⟩:=Qa A h F
   exact⟨p,by simp[n6,g,cr r,cr w,e],l⟩
  .cases h
 |nilCheck x=>
  simp[cD]at h;split at h;all_goals first
   |(cases h;done)
   |(
     rename_i hx;simp only[gV,fP]at h;obtain⟨_,rfl,rfl⟩:=h;have:=cr hx;simp only[low]at this;exact⟨True,by simp only[n6,this,low],trivial⟩)
 |binOp op t x y u=>
  simp[cD]at h;split at h
  .rename_i i a b g r w;simp only[fV,fP]at h;obtain⟨⟨q,d⟩,hd,rfl,rfl,rfl⟩:=h
   let ⟨p,d',e,l,hl⟩:=Z9 A hd F
   exact⟨p,by simp[n6,g,cr r,cr w,e,jB,hl],l⟩
  .cases h
 |unOp op t x=>
  simp[cD]at h;split at h
  .rename_i i a g r;simp only[fV,fP]at h;obtain⟨d,hd,_,rfl,rfl⟩:=h
   let ⟨p,d',e,l,hl⟩:=abw hd
   exact⟨p,by simp[n6,g,cr r,e,jB,hl],l⟩
  .cases h
 |convert t u x=>
  simp[cD]at h;split at h
  .rename_i i j a g hj r;obtain⟨rfl,p,e,l⟩:=Cj h;exact⟨p,by simp[n6,g,hj,cr r,e],l⟩
  .cases h
 |makeInterface t x=>
  simp[cD]at h;split at h
  .rename_i i a g r;split at h
   .cases h
   .obtain ⟨_,rfl,rfl⟩:=h;refine⟨True,?_,trivial⟩;simp[n6,g,cr r,low]
  .cases h
 |makeFunc f a b=>
  simp[cD]at h;split at h
  .rename_i x y hx hy;obtain⟨_,rfl,rfl⟩:=h;exact⟨True,by simp[n6,ia hx,ia hy,low],trivial⟩
  .cases h
 |extract x k=>
  simp[cD]at h;split at h
  .rename_i a r;obtain⟨rfl,p,e,l⟩:=tY h;exact⟨p,by simp[n6,cr r,e],l⟩
  .cases h
 |fieldAddr t x k=>
  simp[cD]at h;split at h
  .rename_i i a g r;obtain⟨rfl,p,e,l⟩:=ql h;exact⟨p,by simp[n6,g,cr r,e],l⟩
  .cases h
 |field t x k=>
  simp[cD]at h;split at h
  .rename_i i a g r;obtain⟨rfl,p,e,l⟩:=Rl A h;exact⟨p,by simp[n6,g,cr r,e],l⟩
  .cases h
 |indexAddr t x y=>
  simp[cD]at h;split at h
  .rename_i i a b g r w;obtain⟨rfl,p,e,l⟩:=Gu A (λu hu=>hE.row _ _ _ g hu) h F;exact⟨p,by simp[n6,g,cr r,cr w,e],l⟩
  .cases h
 |index t x y=>
  simp[cD]at h;split at h
  .rename_i i a b g r w;obtain⟨rfl,p,e,l⟩:=Q2 h F;exact⟨p,by simp[n6,g,cr r,cr w,e],l⟩
  .cases h
 |slice t x lo g mx=>
  simp[cD]at h;split at h
  .rename_i i a l1 l2 l3 hi' r h1 h2 h3
   let ⟨p,e,l⟩:=Qd A (λu hu=>hE.row _ _ _ hi' hu) h F
   exact⟨p,by simp[n6,hi',cr r,FJ h1,FJ h2,FJ h3,e],l⟩
  .cases h
 |typeAssert x t u ok=>
  simp[cD]at h;split at h
  .rename_i g r;obtain⟨rfl,p,e,l⟩:=wD h;exact⟨p,by simp[n6,g,cr r,e],l⟩
  .cases h
 |_=>simp[cD]at h
end
section
variable {e:Ty}{v:V S}{s s':bu S}{c:Bool}
def ED(a:fO S)(l:L (den S.A e)):uW (l.map (enc S e)) (zu S e):=by intro d b;obtain⟨x,_,rfl⟩:=nO.1 b;exact⟨Cc a x,OF a x⟩
def uu{α:Type}(f:α->D)(l m:L α):iA (l.map f) (m.map f)=(cX l m).map f:=by simp[iA,cX]
def EB{α:Type}(f:α->D){l m:L α}(h:dB l m=W):D.TE (l.map f) (m.map f):=by simpa[dB,D.TE]using h
def acm{n:Nat}{es:L D}(h:low v=.kq n es):∃t l,v=.kq n t l:=by
 cases v with
 |ty t x=>cases t<;>simp[low,e9]at h
 |kq a t l=>obtain⟨rfl,_⟩:=h;exact⟨t,l,rfl⟩
 |_=>simp[low]at h
def O9(l:fO S){i:TI}(hi:yE S i (.sl e)){x y:V S}(h:T4 i e s x y=Z (c,v,s'))(C:c=W) :
  ∃p,ur i (aI s) (low x) (low y)=Z (p,low v,aI s')∧p:=by
 obtain⟨_,a⟩|⟨E,a⟩:=ah h
 .cases a
 clear h;have m:(!(Nt (aI s).aL bC))=J:=E;unfold ur;rw[m,ez]
 let ⟨⟨z,n,hz⟩,_⟩:=hi
 split at a
 .rename_i new g u;rw[n]at g;obtain⟨rfl,rfl,rfl,rfl⟩:=Kd.slice.inj g
  let ⟨q,F,A⟩:=zX u
  rw[n,F];have w:=sB l new;have I:=ED l new;split at a
  .obtain ⟨_,rfl,rfl⟩:=a;refine⟨q∧jA (new.map (enc S e)) (S.width e)∧uW (new.map (enc S e)) (zu S e),?_,A,w,I⟩;simp only[low,gS,cU];rfl
  .rename_i t f;split at a
   .rename_i es2 b;obtain⟨rfl,K⟩:=fG b;cases K;have j:=sB l (cX f new);have d:=ED l (cX f new);rw[<-uu]at j d;split at a
    .rename_i k t2 l2;obtain⟨rfl,rfl,rfl⟩:=a;refine⟨q∧jA (iA (f.map (enc S t)) (new.map (enc S t))) (S.width t)∧uW (iA (f.map (enc S t)) (new.map (enc S t))) (zu S t)∧D.TE (f.map (enc S t)) (new.map (enc S t)),?_,A,j,d,EB _ C⟩;simp only[low,gS,cU,<-uu];rfl
    .obtain ⟨rfl,rfl,rfl⟩:=a;refine⟨q∧jA (iA (f.map (enc S t)) (new.map (enc S t))) (S.width t)∧uW (iA (f.map (enc S t)) (new.map (enc S t))) (zu S t)∧D.TE (f.map (enc S t)) (new.map (enc S t)),?_,A,j,d,EB _ C⟩;simp[low];split
     .rename_i hl;obtain⟨t3,l3,rfl⟩:=acm hl
      grind
     .simp[e9,enc,<-uu]
   .cases a
  .rename_i o r;split at a
   .rename_i t f era ho;split at a
    .rename_i b;obtain⟨rfl,K⟩:=fG b;cases K;obtain⟨B,P⟩|⟨_,P⟩:=ah a
     .clear a;simp only[eK]at B;obtain⟨rfl,rfl,rfl⟩:=P;have d:=ED l (cX f new);rw[<-uu]at d;refine⟨q∧jA (new.map (enc S t)) (S.width t)∧uW (iA (f.map (enc S t)) (new.map (enc S t))) (zu S t)∧D.TE (f.map (enc S t)) (new.map (enc S t)),?_,A,w,d,EB _ C⟩;have R:(Nl (aI s).fl o&&Nq r era&&Nq (S.width t) (S.width t)&&!(sH (low y)).contains o)=W:=by rw[FH];simp only[eK];exact⟨⟨⟨B.1,B.2.1⟩,beq_iff'.2 rfl⟩,B.2.2⟩
      simp only[low,aS,ho,jB,cU,R,eP,fL,<-uu]
     .cases P
    .cases a
   .cases a
  .cases a
 .cases a
def yz(w:fO S){E:gi}(r:RQ S E){b:Builtin}{n:Array TypeId}{args:L (V S)}(h:ie E s b n args=Z (c,v,s'))(y:c=W) :
  ∃p,fH E.E (aI s) b n (bz args)=Z (p,low v,aI s')∧p:=by
 unfold ie at h;split at h
 .rename_i x;split at h
  .rename_i i j d
   let ⟨k,l,m⟩:=vF.1 j
   let ⟨A,a,f⟩:=vF.1 d
   rw[l]at a;cases a
   let ⟨g,_⟩:=r.row _ _ _ m f
   split at h
   .rename_i _ B
    let ⟨p,e,o⟩:=kT B
    obtain⟨_,rfl,rfl⟩:=h;exact⟨p,by simp only[bz,fH,e,j,g,EY];rfl,o⟩
   .cases h
  .rename_i i e j d
   let ⟨k,l,m⟩:=vF.1 j
   let ⟨A,a,f⟩:=vF.1 d
   rw[l]at a;cases a
   let ⟨⟨z,g,_⟩,_⟩:=r.row _ _ _ m f
   split at h
   .simp only[fV,fP]at h;obtain⟨I,t,_,rfl,rfl⟩:=h
    let ⟨p,u,o⟩:=zX t
    refine⟨p,?_,o⟩;simp[bz,fH];cases C:zW (low x)with|none=>simp only[j,g,u,jB,oT];rfl|some q=>simp only[j,g,u,jB,oT];rfl
   .cases h
  .cases h
 .split at h
  .split at h
   .rename_i j K d;split at h
    .rename_i F
     let ⟨p,u,o⟩:=O9 w (r.row _ _ _ j d) h y
     grind[bz,fH]
    .cases h
   .cases h
  .cases h
 .cases h
end
section
section
variable {g g':Gh}{w w':World}
structure nA(g g':Gh):Prop where
 bV:∀o b,g.bV o=Z b->g'.bV o=Z b
 arr:∀o e x,g.arr o e=Z x->g'.arr o e=Z x
 bx:∀b,g.bx b->g'.bx b
theorem nA.refl(g:Gh):nA g g:=⟨λ_ _ h=>h,λ_ _ _ h=>h,λ_ h=>h⟩
def nA.trans{g g' a:Gh}(h:nA g g')(k:nA g' a):nA g a:=⟨λo b e=>k.bV o b (h.bV o b e),λo e x c=>k.arr o e x (h.arr o e x c),λb e=>k.bx b (h.bx b e)⟩
variable {v:Value}{s s':St}{o b e:Nat}{x:ff}{os:List Nat}
def ew.le{I a:Nat->Prop}(c:∀b,I b->a b){d:D}(h:ew I w d v):ew a w d v:=h.mono (λ_ _=>rfl) c
def aP.le(h:nA g g'){t:T}{v:Value}(F:aP g w t v):aP g' w t v:=by
 induction F with|sym d v p=>exact .sym d v (p.le h.bx)|kb b=>exact .kb b|kn k n=>exact .kn k n|ptr o off b q=>exact .ptr o off b (h.bV o b q)|nJ d off z val A I p=>exact .nJ d off z val (h.bx _ A) I (λj c B=>(p j c B).le h.bx)|lG o e i off len cap sz z s=>exact .lG o e i off len cap sz z (h.arr _ _ _ s)|sh o e len cap sz a s=>exact .sh o e len cap sz a (h.arr _ _ _ s)|emp a=>exact .emp a|kq n K a P p=>exact .kq n K a P (p.le h.bx)|fn f R u S vc y hm _ _ l C=>exact .fn f R u S vc y hm l C|cT t x v _ l=>exact .cT t x v l|agg u E y _ l=>exact .agg u E y l|gM u E y _ l=>exact .gM u E y l|gd c t v _ l=>exact .gd c t v l|mp o b q=>exact .mp o b (h.bV o b q)|rB o b q=>exact .rB o b (h.bV o b q)|s7 o b q=>exact .s7 o b (h.bV o b q)|ub e b h=>exact .ub e b h|rM o m r i len cap sz a s=>exact .rM o m r i len cap sz a (h.arr _ _ _ s)|oY j d c a B p=>exact .oY j d c a B (p.le h.bx)
def wV.le{s s':St}{o b:Nat}(h:wV g s w o b)(c:nA g g')(d:g'.bx=g.bx)(hs:s'.ob.get o=s.ob.get o):wV g' s' w o b:=by
 refine⟨by rw[d];exact h.1,h.2.1,λob a=>?_⟩;rw[hs]at a
 let ⟨x,h1,h2⟩:=h.2.2 ob a
 exact⟨x,h1,h2.imp (λ_ _ h=>h.le c)⟩
def Bp.le(h:Bp g s w o e x)(c:g'.bx=g.bx)(hs:s'.ob.get o=s.ob.get o)(b:∀k j y,g.arr k j=Z y->g'.arr k j=Z y)(f:∀d,g'.arr o d=g.arr o d):Bp g' s' w o e x:=by refine⟨h.1,λob a=>?_⟩;rw[hs]at a;exact(h.2 ob a).tr (λh=>h.j6 c) b (funext f) (λ_ _ _=>⟨rfl,by rw[c]⟩)
def bq.aai(hs:bq g s w)(hn:s.aL<bC){sz:Nat}{es:L D}
  (v:∀b,x.at b->b<w.heap.size∧∀o,¬bG g o b) (n:wZ g w J sz es x) (p:x.sz=sz) :
  bq (g.era s.aL 0 x) (ey s (.arr sz es 0)).2 w∧nA g (g.era s.aL 0 x)∧(∀k b,bG (g.era s.aL 0 x) k b->bG g k b∨(k=s.aL∧x.at b)):=by
 have q:=hs.ai s.aL (cu _);have e:∀k j y,g.arr k j=Z y->(g.era s.aL 0 x).arr k j=Z y:=λk j y h=>by
  rw[Gh.cH]
  .exact h
  grind
 have i:nA g (g.era s.aL 0 x):=⟨λ_ _ h=>h,e,λ_ h=>h⟩;have a:∀k b,bG (g.era s.aL 0 x) k b->bG g k b∨(k=s.aL∧x.at b):=by
  rintro k b ⟨h1,h2|⟨j,y,m,h2,h3,h4,h5⟩⟩
  .exact .inl ⟨h1,.inl h2⟩
  .by_cases c:k=s.aL∧j=0
   .obtain ⟨rfl,rfl⟩:=c;rw[Gh.fS]at h2;simp at h2;subst h2;exact .inr ⟨rfl,⟨m,h3,h4,h5⟩⟩
   .rw[Gh.cH _ _ _ _ _ _ c]at h2;exact .inl ⟨h1,.inr ⟨j,y,m,h2,h3,h4,h5⟩⟩
 refine⟨⟨by simp only[ey];omega,λk z=>?_,λk b r=>?_,λk j y l=>?_,λb r=>hs.bx b r,λk u b h A=>?_⟩,i,a⟩
 .simp only[ey]at z;refine⟨(hs.ai k (by omega)).1,λj=>?_⟩;rw[Gh.cH _ _ _ _ _ _ (by omega)];exact(hs.ai k (by omega)).2 j
 .have t:g.bV k=Z b:=r;have d:k≠s.aL:=λh=>by simp_all
  exact(hs.box k b t).le i rfl (by simp[ey];rw[Tr.bn _ _ _ _ hn,bJ d])
 .by_cases c:k=s.aL∧j=0
  .obtain ⟨rfl,rfl⟩:=c;rw[Gh.fS]at l;simp at l;subst l;refine⟨λm B C=>(v _ ⟨m,B,rfl,C⟩).1,λob f=>.inl ⟨J,es,0,?_,cu _,λE h=>?_,λ_=>p▸(n.j6 rfl)⟩⟩
   .simp[ey]at f;rw[Tr.bn _ _ _ _ hn,cn rfl]at f
    grind[fT]
   grind[Gh.cH]
  .rw[Gh.cH _ _ _ _ _ _ c]at l;have d:k≠s.aL:=λh=>by simp_all
   exact(hs.arr k j y l).le rfl (by simp[ey];rw[Tr.bn _ _ _ _ hn,bJ d]) e (λE=>Gh.cH _ _ _ _ _ _ (λh=>d h.1))
 .obtain h1|⟨h1,h3⟩:=a k b h<;>obtain h2|⟨h2,h4⟩:=a u b A
  .exact hs.kJ k u b h1 h2
  .simp_all
  .simp_all
  .rw[h1,h2]
def bq.tS(hs:bq g s w)(m:g.bV o=Z b){ob:Ob}{x:Obj}(t:w.heap[b]?=Z x)(u:iy g w ob x)(l:∀e,g.arr o e=Y):bq g {s with ob:=s.ob.set aR o ob} w:=by
 have n:=hs.lt m;have p:=hs.aL;have dm:∀k,(Tr.set aR s.ob o ob).get k=if k=o then Z ob else s.ob.get k:=λk=>Tr.bn _ _ _ _ (by omega)
 refine⟨hs.aL,hs.ai,λk c q=>?_,λk e x r=>?_,hs.bx,hs.kJ⟩
 .have d:=hs.box k c q;refine⟨d.1,d.2.1,λf a=>?_⟩;rw[dm]at a;by_cases i:k=o
  .simp_all
  .rw[bJ i]at a;exact d.2.2 f a
 .have j:=hs.arr k e x r;have i:k≠o:=λh=>by simp_all
  refine⟨j.1,λf a=>?_⟩;rw[dm,bJ i]at a;exact j.2 f a
theorem bq.step{s:St}(hs:bq g s w){I X:Nat->Prop}(B:∀b,g.bx b->I b)(hIn:∀b,I b->g.bx b∨w.heap.size<=b∨X b)(hIs:∀b,I b->b<w'.heap.size)(u:w.heap.size<=w'.heap.size)
  (R:∀b,b<w.heap.size->¬X b->w'.heap[b]?=w.heap[b]?) (hX:∀o b,X b->bG g o b->s.ob.get o=Y∧¬I b) (hXi:∀b,X b->¬g.bx b) :
  bq {g with bx:=I} s w':=by
 have F:∀k b,bG ({g with bx:=I}:Gh) k b->bG g k b:=λk b h=>⟨λhi=>h.1 (B b hi),h.2⟩;have S:uT g.bx w w':=λb p=>R b (hs.bx b p) (λy=>hXi b y p);have hkeep:∀{t:T}{v:Value},aP g w t v->aP ({g with bx:=I}:Gh) w' t v:=by
  intro t v ht
  induction ht with|sym d v z=>exact .sym d v (z.mono S B)|kb b=>exact .kb b|kn k n=>exact .kn k n|ptr o off b p=>exact .ptr o off b p|nJ d off ad val l q z=>exact .nJ d off ad val (B _ l) (λj c K=>by rw[S.cell (by rw[l8];exact l)];grind) (λj c K=>(z j c K).mono S B)|lG o e i off len cap sz ad y=>exact .lG o e i off len cap sz ad y|sh o e len cap sz a y=>exact .sh o e len cap sz a y|emp a=>exact .emp a|kq n es a hn z=>exact .kq n es a hn (z.mono S B)|fn f fs cs va vc hl hm _ _ C ih'=>exact .fn f fs cs va vc hl hm C ih'|cT t x v _ C=>exact .cT t x v C|agg cs vs hl _ C=>exact .agg cs vs hl C|gM cs vs hl _ C=>exact .gM cs vs hl C|gd c t v _ C=>exact .gd c t v C|mp o b p=>exact .mp o b p|rB o b p=>exact .rB o b p|s7 o b p=>exact .s7 o b p|ub e b h=>exact .ub e b h|rM o m r i len cap sz a y=>exact .rM o m r i len cap sz a y|oY j d c a K z=>exact .oY j d c a K (z.mono S B)
 have P:∀o b,bG g o b->¬I b:=λo b hO hi=>by
  obtain h|h|h:=hIn b hi
  .exact hO.1 h
  .have:=(hs.qR hO).1;omega
  grind
 refine⟨hs.aL,hs.ai,λk c q=>?_,λk e x y=>?_,hIs,λk k' b h h'=>hs.kJ k k' b (F k b h) (F k' b h')⟩
 .have A:=hs.box k c q;have hO:bG g k c:=⟨A.1,.inl q⟩;refine⟨P k c hO,iP A.2.1 u,λob mR=>?_⟩
  let ⟨x,h2,h3⟩:=A.2.2 ob mR
  exact⟨x,by grind,h3.imp (λ_ _ h=>hkeep h)⟩
 .have E:=hs.arr k e x y;refine⟨λad ha q=>iP (E.1 ad ha q) u,λob mR=>?_⟩;refine(E.2 ob mR).tr (λ{fz sz es}hA=>?_) (λ_ _ _ h=>h) rfl (λb k1 q=>?_);rotate_left
  .have p:b<w.heap.size:=E.1 _ k1 q;by_cases l:g.bx b
   .grind
   .have hO:bG g k b:=⟨l,.inr ⟨e,x,_,y,k1,rfl,q⟩⟩
    grind
  refine⟨hA.len,hA.cap,hA.rows,hA.pos,hA.byt,hA.emp,λq=>?_⟩
  let ⟨b,vs,ty,k1,k2,k3,k4,k5⟩:=hA.mem q
  have p:b<w.heap.size:=E.1 _ k1 q;by_cases l:g.bx b
  .refine ⟨b,vs,ty,k1,⟨λ_=>B b l,λ_=>k2.2 l⟩,by grind,k4,λi d j c z K=>?_⟩
   let ⟨v,hv,hr⟩:=k5 i d j c z K
   exact⟨v,hv,hr.mono S B⟩
  .have hO:bG g k b:=⟨l,.inr ⟨e,x,_,y,k1,rfl,q⟩⟩;have hnx:¬X b:=λhxx=>by grind
   refine⟨b,vs,ty,k1,⟨λhf=>absurd (k2.1 hf) l,λhi=>absurd hi (P k b hO)⟩,by simp_all,k4,λi d j c z K=>?_⟩
   let ⟨v,hv,hr⟩:=k5 i d j c z K
   exact⟨v,hv,hr.mono S B⟩
def Gh.drop(g:Gh)(os:L Nat):Gh:={g with arr:=λo e=>if o∈os then Y else g.arr o e}
def Gh.GZ(h:(g.drop os).arr o e=Z x):o∉os∧g.arr o e=Z x:=by
 grind[Gh.drop]
def Gh.zl{k:Nat}(h:bG (g.drop os) k b):bG g k b:=by
 obtain⟨h1,h2|⟨e,x,a,h2,h3⟩⟩:=h
 .exact ⟨h1,.inl h2⟩
 .exact ⟨h1,.inr ⟨e,x,a,(Gh.GZ h2).2,h3⟩⟩
mutual
def dw(os:L Nat):T->Bool
 |.ptr o _=>os.contains o|.lG o _ _ _=>os.contains o|.sh o _=>os.contains o|.mp o=>os.contains o|.rB o=>os.contains o|.s7 o=>os.contains o|.fn _ a b=>iF os a||iF os b|.cT _ v=>dw os v|.agg c=>iF os c|.gM c=>iF os c|.gd _ v=>dw os v|.rM o m _ _=>os.contains o||os.contains m|_=>J
def iF(os:L Nat):L T->Bool
 |[]=>J|v::l=>dw os v||iF os l
end
def qc{os:L Nat}:∀{l:L T},iF os l=J->∀t∈l,dw os t=J
 |[],_,t,b=>by cases b
 |a::l,h,t,b=>by
  simp[iF,Ad]at h;obtain rfl|b:=fy.1 b
  .exact h.1
  .exact qc h.2 t b
theorem aP.drop{os:L Nat}{t:T}{v:Value}(h:aP g w t v)(l:dw os t=J):aP (g.drop os) w t v:=by
 induction h with|sym d v q=>exact .sym d v q|kb b=>exact .kb b|kn k n=>exact .kn k n|ptr o off b h=>exact .ptr o off b h|nJ d off y val E z q=>exact .nJ d off y val E z q|lG o e i off len cap sz y h=>simp[dw,Fp,Xq]at l;exact .lG o e i off len cap sz y (by simp[Gh.drop,bJ l];exact h)|sh o e len cap sz a h=>simp[dw,Fp,Xq]at l;exact .sh o e len cap sz a (by simp[Gh.drop,bJ l];exact h)|emp a=>exact .emp a|kq k F a I q=>exact .kq k F a I q|fn f K s P R u A _ _ p B=>simp[dw,Ad]at l;exact .fn f K s P R u A (λj t v h1 h2=>p j t v h1 h2 (qc l.1 t (hJ h1))) (λj t v h1 h2=>B j t v h1 h2 (qc l.2 t (hJ h1)))|cT t x v _ p=>exact .cT t x v (p l)|agg s C u _ p=>exact .agg s C u (λj t v h1 h2=>p j t v h1 h2 (qc l t (hJ h1)))|gM s C u _ p=>exact .gM s C u (λj t v h1 h2=>p j t v h1 h2 (qc l t (hJ h1)))|gd c t v _ p=>exact .gd c t v (λz=>p z l)|mp o b h=>exact .mp o b h|rB o b h=>exact .rB o b h|s7 o b h=>exact .s7 o b h|ub e b h=>exact .ub e b h|rM o m r i len cap sz a h=>simp[dw,Ad,Fp,Xq]at l;exact .rM o m r i len cap sz a (by simp_all[Gh.drop])|oY j d c a S q=>exact .oY j d c a S q
def aaA(os:L Nat)(ob a:Ob):Prop:=rq (dw os) ob a
theorem bq.drop{s i:St}(hs:bq g s w){os:L Nat}(hn:i.aL=s.aL)(d:∀o a,i.ob.get o=Z a->∃ob,s.ob.get o=Z ob∧aaA os ob a):bq (g.drop os) i w:=by
 refine⟨hn▸hs.aL,λo f=>⟨(hs.ai o (hn▸f)).1,λe=>?_⟩,λo b q=>?_,λo e x r=>?_,hs.bx,λo u b h z=>hs.kJ o u b (Gh.zl h) (Gh.zl z)⟩
 .simp only[Gh.drop];split
  .rfl
  .exact (hs.ai o (hn▸f)).2 e
 .let ⟨h1,h2,h3⟩:=hs.box o b q
  refine⟨h1,h2,λa c=>?_⟩
  let ⟨ob,k,l⟩:=d o a c
  let ⟨x,h4,h5⟩:=h3 ob k
  exact⟨x,h4,h5.left (λt v A p=>A.drop p) l⟩
 .let ⟨f,n⟩:=Gh.GZ r
  let ⟨h1,h2⟩:=hs.arr o e x n
  refine⟨h1,λa c=>?_⟩
  let ⟨ob,k,l⟩:=d o a c
  refine(h2 ob k).left l (λh=>h.j6 rfl) (λm j y p h=>?_) (funext λB=>by simp[Gh.drop,bJ f]) (λ_ _ _=>⟨rfl,uZ⟩)
  simp_all[dw,Gh.drop]
end
end
section
def ghI(I:Nat->Prop):Gh:=⟨λ_=>Y,λ_ _=>Y,I⟩
def abg(I:Nat->Prop)(w:World)(sz:Nat)(es:L D)(x:ff):Prop:=wZ (ghI I) w J sz es x∧x.sz=sz
def ahK(S:Sg)(I:Nat->Prop)(w:World)(n j:Nat)(t:Ty)(l:L (S.A n))(a:ff)(rl:L ff):Prop:=
 ∃hl:L Value,hl.length=l.length∧abg I w (S.width (.st n)) (lits j (l.map (enc S (.st n))) hl) a∧rl.length=l.length∧
  (∀(i:Nat)(y:ff),rl[i]?=Z y->hl[i]?=Z (.slice y.a y.len y.cap))∧(∀(i:Nat)(y:ff)(x:S.A n),rl[i]?=Z y->l[i]?=Z x->abg I w (S.width t) ((IJ n j t x).map (enc S t)) y)∧DY S n j t=W
inductive jL(S:Sg)(I:Nat->Prop)(w:World):(cs:List Ck)->gr S.A cs->List Value->List ff->Prop where
 |nil:jL S I w [] () [] []|dat {t:Ty} {cs:List Ck} {x:den S.A t} {h:gr S.A cs} {v:Value} {vs:List Value} {al:List ff} (hd:ew I w (enc S t x) v) (hr:jL S I w cs h vs al):jL S I w (.dat t::cs) (x,h) (v::vs) al|own {e:Ty} {cs:List Ck} {l:List (den S.A e)} {h:gr S.A cs} {a:ff} {vs:List Value} {al:List ff} (ho:abg I w (S.width e) (l.map (enc S e)) a) (hr:jL S I w cs h vs al) :
   jL S I w (.own e::cs) (l,h) (.slice a.a a.len a.cap::vs) (a::al)
 |j0 {n j:Nat} {t:Ty} {cs:List Ck} {l:List (S.A n)} {h:gr S.A cs} {a:ff} {rl:List ff} {vs:List Value} {al:List ff} (ho:ahK S I w n j t l a rl) (hr:jL S I w cs h vs al) :
   jL S I w (.j0 n j t::cs) (l,h) (.slice a.a a.len a.cap::vs) (a::(rl++al))
 |nl {e:Ty} {cs:List Ck} {h:gr S.A cs} {a:Option Addr} {vs:List Value} {al:List ff} (hr:jL S I w cs h vs al):jL S I w (.nil e::cs) ([],h) (.slice a 0 0::vs) al|ptr {t:Ty} {cs:List Ck} {x:den S.A t} {h:gr S.A cs} {ad:Addr} {val:Nat->Value} {vs:List Value} {al:List ff} (hi:I ad.block) (hc:∀j c,(enc S t x).cells[j]?=Z c->w.cell? (ad.add j)=Z (val j))
   (hd:∀j c,(enc S t x).cells[j]?=Z c->ew I w c (val j)) (hr:jL S I w cs h vs al):jL S I w (.ptr t::cs) (x,h) (.pointer (Z (ad.add 0))::vs) al
inductive AL(g:Gh):List ff->List Nat->Prop where
 |nil:AL g [] []|emp {a:ff} {al:List ff} {ow:List Nat} (h:a.cap=0) (hr:AL g al ow):AL g (a::al) ow|own {a:ff} {al:List ff} {o e:Nat} {ow:List Nat} (h:g.arr o e=Z a) (hr:AL g al ow):AL g (a::al) (o::ow)
 |rows {rl al:List ff} {m:Nat} {ow:List Nat} (h:∀y∈rl,∃e,g.arr m e=Z y) (hap:rl.Pairwise λx y=>∀b,x.at b->¬y.at b) (hr:AL g al ow):AL g (rl++al) (m::ow)
variable {g:Gh}{al uQ:List ff}{ow fz:List Nat}{s:bu S}{w:World}{I:Nat->Prop}{a:ff}{b n j o:Nat}{t:Ty}{cs:List Ck}{vs:List Value}{c:Ck}{v:Value}{ob:ux S}{k:Bk}{nx:Option Nat}
def AL.append{a:L Nat}(h:AL g al ow)(d:AL g uQ a):AL g (al++uQ) (ow++a):=by
 induction h with|nil=>exact d|emp h _ b=>exact .emp h b|own h _ b=>exact .own h b|rows h c _ b=>rw[KO];exact .rows h c b
def wY(al:L ff):Prop:=al.Pairwise λx y=>∀b,x.at b->¬y.at b
def AL.owned(h:AL g al ow)(i:∀a∈al,∀b,a.at b->¬g.bx b):∀a∈al,∀b,a.at b->∃o∈ow,bG g o b:=by
 induction h with
 |nil=>simp_all|emp h _ j=>
  intro a c b d;obtain rfl|c:=fy.1 c
  .exact absurd h d.choose_spec.2.2
  grind
 |own h _ j=>
  intro a c b d;obtain rfl|c:=fy.1 c
  .let ⟨f,h1,h2,h3⟩:=d
   exact⟨_,fA,i _ fA b ⟨f,h1,h2,h3⟩,.inr ⟨_,_,f,h,h1,h2,h3⟩⟩
  grind
 |rows h _ _ j=>
  intro a c b d;obtain c|c:=dW.1 c
  .let ⟨e,k⟩:=h a c
   let ⟨f,h1,h2,h3⟩:=d
   exact⟨_,fA,i _ (fh _ c) b ⟨f,h1,h2,h3⟩,.inr ⟨_,_,f,k,h1,h2,h3⟩⟩
  grind
def AL.apart{s:St}(hs:bq g s w)(h:AL g al ow)(hn:ow.Nodup)(i:∀a∈al,∀b,a.at b->¬g.bx b):wY al:=by
 induction h with
 |nil=>exact .nil|emp h l j=>refine .cons (λa c b k=>absurd h k.choose_spec.2.2) (j hn (λa c=>i a (iB _ c)))|own h l j=>
  rw[Nf]at hn;refine .cons (λa c b k f=>?_) (j hn.2 (λa c=>i a (iB _ c)))
  let ⟨q,m,d⟩:=l.owned (λa c=>i a (iB _ c)) a c b f
  let ⟨n,h1,h2,h3⟩:=k
  have o:bG g _ b:=⟨d.1,.inr ⟨_,_,n,h,h1,h2,h3⟩⟩;have:=hs.kJ _ _ b o d
  simp_all
 |rows h p l j=>
  rw[Nf]at hn;refine tG.2 ⟨p,j hn.2 (λa c=>i a (eO _ c)),λy r a c b k f=>?_⟩
  let ⟨e,t⟩:=h y r
  let ⟨q,m,d⟩:=l.owned (λa c=>i a (eO _ c)) a c b f
  let ⟨n,h1,h2,h3⟩:=k
  have o:bG g _ b:=⟨d.1,.inr ⟨_,_,n,t,h1,h2,h3⟩⟩;have:=hs.kJ _ _ b o d
  simp_all
def lD:∀{l:L Nat},rL l=W->l.Nodup
 |[],_=>.nil|a::l,h=>by simp[rL,eK,Qs,Fp,Xq]at h;exact Nf.2 ⟨h.1,lD h.2⟩
def zx{l m:L Nat}(h:Cr l m=W):∀o∈l,o∉m:=by
 grind[Cr]
def abg.at_{I:Nat->Prop}{w:World}{sz:Nat}{es:L D}{a:ff}(h:abg I w sz es a){b:Nat}(c:a.at b):¬I b∧b<w.heap.size:=by
 let ⟨h1,vs,ty,_,h3⟩:=h.1.at_ c
 exact⟨λd=>Bool.noConfusion (h1.2 d),(Xu.1 h3).1⟩
def ahK.at_{I:Nat->Prop}{w:World}{n j:Nat}{t:Ty}{l:L (S.A n)}{a:ff}{rl:L ff}(h:ahK S I w n j t l a rl):∀y∈a::rl,∀b,y.at b->¬I b∧b<w.heap.size:=by
 let ⟨f,_,h2,h3,_,h5,_⟩:=h
 intro y c b d;obtain rfl|c:=fy.1 c
 .exact h2.at_ d
 .let ⟨i,e⟩:=Xn c
  have:i<l.length:=by grind
  exact(h5 i y _ e (iZ this)).at_ d
def jL.at_{I:Nat->Prop}{w:World}{cs:L Ck}{x:gr S.A cs}{vs:L Value}{al:L ff}(h:jL S I w cs x vs al):∀a∈al,∀b,a.at b->¬I b∧b<w.heap.size:=by
 induction h with
 |nil=>simp_all|dat _ _ d=>exact d|own e _ d=>
  intro a c b f;obtain rfl|c:=fy.1 c
  .exact e.at_ f
  grind
 |j0 e _ d=>
  intro a c b f;rw[<-List.cons_append]at c;obtain c|c:=dW.1 c
  .exact e.at_ a c b f
  grind
 |nl _ d=>exact d|ptr _ _ _ _ d=>exact d
theorem jL.iE{I:Nat->Prop}{w:World}{cs:L Ck}{x:gr S.A cs}{vs:L Value}{al:L ff}(h:jL S I w cs x vs al):∀a∈al,∀b,a.at b->¬I b:=λa c b d=>(h.at_ a c b d).1
def jL.lt{x:gr S.A cs}(h:jL S I w cs x vs al):∀a∈al,∀b,a.at b->b<w.heap.size:=λa c b d=>(h.at_ a c b d).2
def jL.append{x:den S.A c.ty}{h:gr S.A cs}(h1:jL S I w [c] (x,()) [v] al)(h2:jL S I w cs h vs uQ) :
  jL S I w (c::cs) (x,h) (v::vs) (al++uQ):=by
 cases h1 with
 |dat b a=>cases a;exact .dat b h2
 |own d a=>cases a;exact .own d h2
 |j0 d a=>cases a;rw[oN,List.cons_append];exact .j0 d h2
 |nl a=>cases a;exact .nl h2
 |ptr e f b a=>cases a;exact .ptr e f b h2
def pM{x:den S.A t}(h:ew g.bx w (enc S t x) v):aP g w (e9 S t x) v:=by
 cases t with
 |st n=>
  cases h with|agg cs vs a e b=>refine .agg _ vs (by simpa using a) λj t v h1 h2=>?_;rw[kN,fV]at h1;obtain⟨d,c,rfl⟩:=h1;exact .sym _ _ (b j d v c h2)
 |_=>exact .sym _ _ h
def Tr.dA{α:Type}:∀(n:Nat)(t:Tr α)(k j:Nat)(x:α),j≠k->(Tr.set n t k x).get j=t.get j
 |0,_,_,_,_,_=>rfl|n+1,t,0,j,x,h=>by
  cases j with
  |zero=>exact absurd rfl h|succ j=>
   cases t with|nil=>rw[Tr.zZ,Tr.dI,Tr.get_nil,Tr.get_nil];split<;>rfl|node v l r=>rw[Tr.Iu,Tr.dI,Tr.dI]
 |n+1,t,k+1,j,x,h=>by
  cases t with
  |nil=>
   rw[Tr.oL];cases j with
   |zero=>split<;>rw[Tr.jd,Tr.get_nil]
   |succ j=>
    by_cases b:k%2=0
    .rw[cn b,Tr.dI,Tr.get_nil,Tr.get_nil];by_cases a:j%2=0
     .rw[cn a,Tr.dA n _ _ _ _ (by omega),Tr.get_nil]
     .rw[bJ a]
    .rw[bJ b,Tr.dI,Tr.get_nil,Tr.get_nil];by_cases a:j%2=0
     .rw[cn a]
     .rw[bJ a,Tr.dA n _ _ _ _ (by omega),Tr.get_nil]
  |node v l r=>
   rw[Tr.nC];cases j with
   |zero=>split<;>rw[Tr.jd,Tr.jd]
   |succ j=>
    by_cases b:k%2=0
    .rw[cn b,Tr.dI,Tr.dI];by_cases a:j%2=0
     .rw[cn a,cn a,Tr.dA n _ _ _ _ (by omega)]
     .rw[bJ a,bJ a]
    .rw[bJ b,Tr.dI,Tr.dI];by_cases a:j%2=0
     .rw[cn a,cn a]
     .rw[bJ a,bJ a,Tr.dA n _ _ _ _ (by omega)]
def RJ:ux S->Bool
 |.arr ..|.kX ..|.rws ..=>W|_=>J
def uo(h:RJ ob=W):(cU ob).oH=W:=by cases ob<;>first|rfl|cases h
def Gd{nj:Nat}:∀{es:L D}{iO:L (L D)}{hl:L Value},es.length<=iO.length->lits nj (mH nj es iO) hl=lits nj es hl
 |[],iO,hl,_=>by rfl
 |d::es,[],hl,h=>by simp at h
 |d::es,a::iO,[],_=>by rfl
 |d::es,a::iO,v::hl,h=>by
  have:=Gd (nj:=nj) (es:=es) (iO:=iO) (hl:=hl) (by simpa using h)
  simp_all[lits,mH,jw,AJ,D.cells]
def JI:∀{ts:L Ty}{h:mG S.A ts}{j:Nat}{t:Ty}{y:den S.A t},nth ts j=Z t->dm ts (u9 ts h j t y) j t=y
 |[],_,_,_,_,h=>by simp[nth]at h
 | τ::ts,h,0,t,y,e=>by
  grind[nth,dm,u9,wo]
 | τ::ts,h,j+1,t,y,e=>by simp[nth]at e;simp[dm,u9,JI e]
def VL(a:fO S)(b:DY S n j t=W)(x:S.A n)(y:L (den S.A t)):IJ n j t (UC n j t x y)=y:=by rw[IJ,UC,a.vY,JI (Hq b)]
def Dc(hS:fO S)(hs:bq g (aI s) w){v:V S}{val:Value}{x:den S.A c.ty}(h:oF s c v=Z (x,fz,ow))(hv:aP g w (low v) val) :
  (∀o∈fz,Live g (aI s) o)∧(∀o∈ow,s.fl<=o∧s.lo<=o∧o<s.aL∧∃ob,s.ob.get o=Z ob∧RJ ob=W)∧∀(A:Gh)(s1:St)(z:L Nat),bq A s1 w->Ext s.fl g w A w->ko (aI s) s1 z->(∀o∈fz,o∈z)->(∀o∈ow,s1.ob.get o=(aI s).ob.get o)->
   ∃al,jL S A.bx w [c] (x,()) [val] al∧AL A al ow:=by
 cases c with
 |dat t=>
  simp[oF]at h;split at h
  .rename_i y os hy;obtain⟨rfl,rfl,rfl⟩:=h
   let ⟨p,hd,hp⟩:=pN hS s t v hy
   let ⟨h1,h2⟩:=lP hs (low v) hd hp hv
   refine⟨h1,λo d=>(by cases d),λA s1 z f R hf q _=>⟨[],.dat ?_ .nil,.nil⟩⟩;exact h2 A s1 f R (hf.sub q)
  .cases h
 |nil e=>
  cases v with
  |emp=>
   obtain⟨rfl,rfl,rfl⟩:=h;cases hv with|emp a=>exact⟨λo d=>(by cases d),λo d=>(by cases d),λA s1 z f R hf q _=>⟨[],.nl .nil,.nil⟩⟩
  |_=>simp[oF]at h
 |ptr t=>simp[oF]at h|own e=>
  cases v with
  |emp=>
   obtain⟨C,h⟩|⟨_,h⟩:=ah h
   .obtain ⟨rfl,rfl,rfl⟩:=h;have hpos:1<=S.width e:=g9 C;cases hv with
    |emp a=>
    refine⟨λo d=>(by cases d),λo d=>(by cases d),λA s1 z f R hf q _=>⟨[⟨a,0,0,S.width e⟩],?_,.emp rfl .nil⟩⟩;refine jL.own (a:=⟨a,0,0,S.width e⟩) ⟨⟨rfl,cu _,by simp,by omega,by simp,λ_=>rfl,λh=>absurd rfl h⟩,rfl⟩ .nil
   .cases h
  |sh o r=>
   simp[oF]at h;split at h
   .rename_i t l era d;obtain⟨C,E⟩|⟨_,E⟩:=ah h
    .clear h;split at E
     .rename_i l' hl;obtain⟨rfl,hh⟩:=fG hl;cases hh;simp only[eK]at C;have hre:=beq_iff'.1 C.1;subst hre;obtain⟨rfl,rfl,rfl⟩:=E;cases hv with
      |sh _ _ len cap sz a hx=>
      have F:=hs.lt' hx;refine⟨λo d=>(by cases d),λk hk=>?_,λA s1 z f R hf q u=>?_⟩
      .rw[oa]at hk;subst hk;exact⟨g9 C.2.1,g9 C.2.2,F,_,d,rfl⟩
      .have I:=R.arr _ _ _ hx;have Tw:s1.ob.get o=Z (fT J (S.width t) (l.map (enc S t)) r):=by rw[u o (by simp),aS,d];rfl
       let ⟨hok,hsz⟩:=f.oq Tw I
       exact⟨[_],jL.own ⟨hok.j6 rfl,hsz⟩ .nil,.own I .nil⟩
     .cases E
    .cases E
   .cases h
  |_=>simp[oF]at h
 |j0 n j t=>
  cases v with
  |emp=>
   obtain⟨C,h⟩|⟨_,h⟩:=ah h
   .obtain ⟨rfl,rfl,rfl⟩:=h;simp only[eK]at C;have hpos:1<=S.width (.st n):=g9 C.1;cases hv with
    |emp a=>
    refine⟨λo d=>(by cases d),λo d=>(by cases d),λA s1 z f R hf q _=>⟨[⟨a,0,0,S.width (.st n)⟩],?_,.emp rfl .nil⟩⟩;exact jL.j0 (a:=⟨a,0,0,S.width (.st n)⟩) (rl:=[]) ⟨[],rfl,⟨⟨rfl,cu _,by simp[lits],by omega,by simp[lits],λ_=>rfl,λh=>absurd rfl h⟩,rfl⟩,rfl,by simp,by simp,C.2.1⟩ .nil
   .cases h
  |sh o r=>
   simp[oF]at h;split at h;rotate_left
   .cases h
   rename_i l era m B d;split at h;rotate_left
   .cases h
   rename_i P K hrw;obtain⟨C,E⟩|⟨_,E⟩:=ah h
   rotate_left
   .cases E
   clear h;simp only[eK]at C
   let ⟨b1,b2,b3,b4,b5,b6,b7,b8,b9⟩:=C
   have hre:=beq_iff'.1 b1;subst hre;have hjj:=beq_iff'.1 b2;subst hjj;have htt:=jN b9;subst htt;split at E;rotate_left
   .cases E
   rename_i hl
   let ⟨e1,hh⟩:=fG hl
   cases e1;cases hh;simp only[gV,fP]at E;obtain⟨rfl,rfl,rfl⟩:=E;have hmlt:m<s.aL:=g9 b7;cases hv with
   |sh _ _ len cap sz a hx=>
   have F:=hs.lt' hx
   let ⟨szm,hm⟩:=o6 (z6 hrw)
   obtain⟨obm,hobm,hobmB⟩:∃ob,s.ob.get m=Z ob∧RJ ob=W:=by
    cases hq:s.ob.get m with
    |none=>rw[aS,hq]at hm;cases hm
    |some ob=>
     rw[aS,hq]at hm;cases ob<;>first|exact⟨_,rfl,rfl⟩|cases hm
   refine⟨λo d=>(by cases d),λk hk=>?_,λA s1 z f R hf q u=>?_⟩
   .simp at hk;obtain rfl|rfl:=hk
    .exact ⟨g9 b3,g9 b4,F,_,d,rfl⟩
    simp_all
   .have I:=R.arr _ _ _ hx;have Tw:s1.ob.get o=Z (.kX j (S.width (.st n)) (l.map (enc S (.st n))) r m B Y):=by rw[u o (by simp),aS,d];rfl
    have hm1:s1.ob.get m=Z (.rws szm (K.map (·.map (enc S P))) B):=by rw[u m (by simp),hm]
    have ajN:szm=S.width P:=by
     have h1:=hrw;unfold M0 at h1;split at h1
     .rename_i hq;obtain⟨_,h1⟩|⟨_,h1⟩:=ah h1
      .cases h1;rw[aS,hq]at hm;cases hm;rfl
      .cases h1
     .cases h1
    let ⟨q1,q2,q3,q4⟩:=f.BI Tw I
    let ⟨hl0,q5,q6,q7⟩:=q4 rfl
    simp at q5;have hrow:∀i,i<l.length->∃y rs,A.arr m (rc B i)=Z y∧hl0[i]?=Z (.slice y.a y.len y.cap)∧K[i]?=Z rs∧wZ A w J (S.width P) (rs.map (enc S P)) y∧y.sz=S.width P:=by
     intro i hi
     let ⟨y,hy,hv⟩:=q7.2 i _ (iZ (by omega)) (by simp)
     let ⟨k1,rs,k2,k3⟩:=(f.pQ hm1 hy).2.2 i rfl
     grind
    have hex:∀i:Nat,∃y:ff,i<l.length->∃rs,A.arr m (rc B i)=Z y∧hl0[i]?=Z (.slice y.a y.len y.cap)∧K[i]?=Z rs∧wZ A w J (S.width P) (rs.map (enc S P)) y∧y.sz=S.width P:=λi=>by
     grind
    let ⟨ys,hys⟩:=UT hex
    have dm:∀(i:Nat)(y:ff),((List.range l.length).map ys)[i]?=Z y->i<l.length∧y=ys i:=λi y h=>by
     grind
    have hrl:l.length<=K.length:=by
     grind
    have hlen:(kL n j P l K).length=l.length:=by simp[kL];omega
    refine⟨_,jL.j0 (a:=⟨a,len,cap,sz⟩) (rl:=(List.range l.length).map ys) ⟨hl0,by omega,⟨?_,q1⟩,by grind,λi y hi=>?_,λi y x hi hx=>?_,b8⟩ .nil,?_⟩
    .rw[GG hS b8,Gd (by grind)];exact q6.j6 rfl
    .grind
    .obtain ⟨h1,rfl⟩:=dm i y hi
     let ⟨rs,_,_,h3,h4,h5⟩:=hys i h1
     have hxx:x=UC n j P (l[i]) rs:=by
      grind[kL]
     rw[hxx,VL hS b8];exact⟨h4.j6 rfl,h5⟩
    .refine .own I ?_;refine .rows (λy hy=>?_) ?_ .nil
     .grind
     .refine Ni.2 λi1 i2 l1 l2 hlt b DV pF=>?_
      let ⟨h1,e1⟩:=dm i1 _ (iZ l1)
      let ⟨h2,e2⟩:=dm i2 _ (iZ l2)
      rw[e1]at DV;rw[e2]at pF
      let ⟨_,k1,_⟩:=hys i1 h1
      let ⟨_,k2,_⟩:=hys i2 h2
      exact(f.pQ hm1 k1).2.1 i1 i2 _ _ (by omega) k1 k2 b DV pF
  |_=>simp[oF]at h
def gl(u:fO S){g:Gh}{w:World}{s:bu S}(hs:bq g (aI s) w):∀{cs:L Ck}{l:L (V S)}{vals:L Value}{x:gr S.A cs}{fz ow:L Nat},fY s cs l=Z (x,fz,ow)->PW (aP g w) (bz l) vals->
  (∀o∈fz,Live g (aI s) o)∧(∀o∈ow,s.fl<=o∧s.lo<=o∧o<s.aL∧∃ob,s.ob.get o=Z ob∧RJ ob=W)∧∀(m:Gh)(s1:St)(e:L Nat),bq m s1 w->Ext s.fl g w m w->ko (aI s) s1 e->(∀o∈fz,o∈e)->(∀o∈ow,s1.ob.get o=(aI s).ob.get o)->
   ∃al,jL S m.bx w cs x vals al∧AL m al ow
 |[],[],vals,x,fz,ow,h,i=>by obtain⟨_,rfl,rfl⟩:=h;have:vals=[]:=xJ (by have:=i.1;simpa[bz]using this.symm);subst this;exact⟨λo d=>(by cases d),λo d=>(by cases d),λ_ _ _ _ _ _ _ _=>⟨[],.nil,.nil⟩⟩
 |c::cs,v::l,vals,x,fz,ow,h,i=>by
  simp[fY]at h;split at h
  .rename_i A B;simp at h;obtain⟨rfl,rfl,rfl⟩:=h
   match vals,i with
   |val::vals,i=>
    have p:aP g w (low v) val:=i.2 0 _ _ rfl rfl;have q:PW (aP g w) (bz l) vals:=⟨by have:=i.1;simpa[bz]using this,λj a b r t=>i.2 (j+1) a b (by simpa[bz]using r) (by simpa using t)⟩
    let ⟨C,E,F⟩:=Dc u hs A p
    let ⟨I,K,P⟩:=gl u hs B q
    refine⟨λo d=>(dW.1 d).elim (C o) (I o),λo d=>(dW.1 d).elim (E o) (K o),λm s1 e n y z k f=>?_⟩
    let ⟨R,r,t⟩:=F m s1 e n y z (λo d=>k o (fh _ d)) (λo d=>f o (fh _ d))
    let ⟨Bc,k3,k4⟩:=P m s1 e n y z (λo d=>k o (eO _ d)) (λo d=>f o (eO _ d))
    exact⟨_,r.append k3,t.append k4⟩
   |[],i=>exact absurd i.1 (by simp[bz])
  .cases h
 |[],_::_,_,_,_,_,h,_=>by simp[fY]at h
 |_::_,[],_,_,_,_,h,_=>by simp[fY]at h
structure Wp(g:Gh)(s:bu S)(w:World)(al:List ff)(g':Gh)(s':bu S):Prop where
 rel:bq g' (aI s') w
 le:nA g g'
 bx:g'.bx=g.bx
 own:∀k b,bG g' k b->bG g k b∨(s.aL<=k∧∃a∈al,a.at b)
 fl:s'.fl=s.fl
 lo:s'.lo=s.lo
 aL:s.aL<=s'.aL
 wr:s'.wr=s.wr
 dr:s'.dr=s.dr
 ob:∀o,o<s.aL->s'.ob.get o=s.ob.get o
 bV:g'.bV=g.bV
 arr:∀o,o<s.aL->∀e,g'.arr o e=g.arr o e
theorem Wp.refl{g:Gh}{s:bu S}{w:World}(h:bq g (aI s) w):Wp g s w [] g s:=
 ⟨h,nA.refl _,rfl,λ_ _ h=>.inl h,rfl,rfl,cu _,rfl,rfl,λ_ _=>rfl,rfl,λ_ _ _=>rfl⟩
def Wp.trans{g g' c:Gh}{s s' d:bu S}{w:World}{al uQ:L ff}(h:Wp g s w al g' s')(k:Wp g' s' w uQ c d):Wp g s w (al++uQ) c d where
 rel:=k.rel
 le:=h.le.trans k.le
 bx:=k.bx.trans h.bx
 own o b f:=by
  obtain f|⟨h1,a,h2,h3⟩:=k.own o b f
  .obtain f|⟨h1,a,h2,h3⟩:=h.own o b f
   .exact .inl f
   grind
  .exact .inr ⟨gk h.aL h1,a,eO _ h2,h3⟩
 fl:=k.fl.trans h.fl
 lo:=k.lo.trans h.lo
 aL:=gk h.aL k.aL
 wr:=k.wr.trans h.wr
 dr:=k.dr.trans h.dr
 ob o i:=(k.ob o (iP i h.aL)).trans (h.ob o i)
 bV:=k.bV.trans h.bV
 arr o i e:=(k.arr o (iP i h.aL) e).trans (h.arr o i e)
def SI(s:bu S)(c:Ck)(x:den S.A c.ty):s.aL<=(vw s c x).2.aL:=by cases c with|dat t=>exact cu _|own e=>exact CV _|j0 n j t=>exact Nat.le_succ_of_le (CV _)|nil e=>exact cu _|ptr t=>exact cu _
def nM:∀(cs:L Ck)(s:bu S)(x:gr S.A cs),s.aL<=(ig s cs x).2.aL
 |[],_,_=>cu _|c::cs,s,x=>gk (SI s c x.1) (nM cs _ x.2)
def m6:∀{cs:L Ck}{x:gr S.A cs}{vals:L Value}{al:L ff}{g:Gh}{w:World}{s:bu S},jL S g.bx w cs x vals al->bq g (aI s) w->(∀a∈al,∀b,a.at b->∀o,¬bG g o b)->wY al->
  (ig s cs x).2.aL<=bC->∃g',Wp g s w al g' (ig s cs x).2∧PW (aP g' w) (bz (ig s cs x).1) vals:=by
 intro cs
 induction cs with
 |nil=>intro x vals al g w s h hs _ _ _;cases h;exact⟨g,Wp.refl hs,rfl,λj t v h=>by simp_all⟩
 |cons c cs ih=>
  intro x vals al g w s h hs r f hn;cases h with
  | @dat t _ x h v vs al hd E=>
   let ⟨g',u,d⟩:=ih E hs r f hn
   refine⟨g',u,by simp only[ig,vw,bz,qH];rw[d.1],λj F I p q=>?_⟩;cases j with|zero=>simp[ig,vw,bz,Ng,gV]at p q;subst p;subst q;have:=pM (g:=g) hd;exact this.le u.le|succ j=>exact d.2 j F I (by simpa[ig,vw,bz]using p) (by simpa using q)
  | @nl e _ h a vs al E=>
   let ⟨g',u,d⟩:=ih E hs r f hn
   refine⟨g',u,by simp only[ig,vw,bz,qH];rw[d.1],λj F I p q=>?_⟩;cases j with|zero=>simp[ig,vw,bz,Ng,gV]at p q;subst p;subst q;exact .emp _|succ j=>exact d.2 j F I (by simpa[ig,vw,bz]using p) (by simpa using q)
  | @ptr t _ x h ad val vs al hi hc hd E=>
   let ⟨g',u,d⟩:=ih E hs r f hn
   refine⟨g',u,by simp only[ig,vw,bz,qH];rw[d.1],λj F I p q=>?_⟩;cases j with|zero=>simp[ig,vw,bz,Ng,gV]at p q;subst p;subst q;have:aP g w (low (V.nJ t x 0)) (.pointer (Z (ad.add 0))):=.nJ _ 0 ad val hi hc hd;exact this.le u.le|succ j=>exact d.2 j F I (by simpa[ig,vw,bz]using p) (by simpa using q)
  | @own e _ l h a vs al ho E=>
   have hb0:=nM cs (dc s (.arr e l 0)) h;have z:s.aL<bC:=by have h1:(dc s (.arr e l 0)).aL=s.aL+1:=rfl;have h2:(ig (dc s (.arr e l 0)) cs h).2.aL<=bC:=hn;omega
   have ajQ:∀b,a.at b->b<w.heap.size∧∀o,¬bG g o b:=λb B=>⟨(jL.own (S:=S) ho E).lt a fA b B,r a fA b B⟩
   let ⟨p,q,k3⟩:=hs.aai z (sz:=S.width e) (es:=l.map (enc S e)) (x:=a) ajQ (ho.1.j6 rfl) ho.2
   have hst:(ey (aI s) (Ob.arr (S.width e) (l.map (enc S e)) 0)).2=aI (dc s (.arr e l 0)):=(gS s (.arr e l 0)).symm;have e0:(aI s).aL=s.aL:=rfl;rw[hst,e0]at p;rw[wY,List.pairwise_cons]at f
   let ⟨g',u,d⟩:=ih (g:=g.era s.aL 0 a) (s:=dc s (.arr e l 0)) E p (λy hy b B o K=>by
    grind) f.2 hn
   have IG:Wp g s w [a] (g.era s.aL 0 a) (dc s (.arr e l 0)):=by
    refine⟨p,q,rfl,λk b K=>?_,rfl,rfl,CV _,rfl,rfl,λo hlo=>?_,rfl,λo hlo e'=>Gh.cH _ _ _ _ _ _ (λh=>by omega)⟩
    .grind
    .simp[dc];rw[Tr.bn _ _ _ _ z,bJ (by omega)]
   refine⟨g',IG.trans u,by simp only[ig,vw,bz,qH];rw[d.1],λj F I q1 q2=>?_⟩;cases j with|zero=>simp[ig,vw,bz,Ng,gV]at q1 q2;subst q1;subst q2;have:aP (g.era s.aL 0 a) w (.sh s.aL 0) (.slice a.a a.len a.cap):=.sh _ _ _ _ a.sz _ (Gh.fS _ _ _ _);exact this.le u.le|succ j=>exact d.2 j F I (by simpa[ig,vw,bz]using q1) (by simpa using q2)
  | @j0 n j t0 _ l h a A vs al ho E=>
   have hb0:=nM cs (vw s (.j0 n j t0) l).2 h;have hnob2:(vw s (.j0 n j t0) l).2.aL=s.aL+2:=rfl;have z:s.aL+1<bC:=by
    grind[ig]
   have P:=ho.at_
   let ⟨hl,p1,p2,p3,p4,p5,p6⟩:=ho
   rw[<-List.cons_append]at r f;have R:=(tG.1 f).1;rw[List.pairwise_cons]at R
   let ⟨p,q,k3⟩:=hs.aai (by show s.aL<bC;omega) (sz:=S.width (.st n)) (es:=lits j (l.map (enc S (.st n))) hl) (x:=a) (λb B=>⟨(P a fA b B).2,r a (by simp) b B⟩) (p2.1.j6 rfl) p2.2
   have e0:(aI s).aL=s.aL:=rfl;rw[e0]at p q k3;have e1:(ey (aI s) (Ob.arr (S.width (.st n)) (lits j (l.map (enc S (.st n))) hl) 0)).2.aL=s.aL+1:=rfl
   let ⟨r1,r2,r3⟩:=p.ahj (by omega) (sz:=S.width t0) (iO:=(l.map (IJ n j t0)).map (·.map (enc S t0))) (ys:=A)
    (λy hy b B=>⟨(P y (iB _ hy) b B).2,λo K=>by
     grind⟩)
    (λi y hi=>by
     have hil:i<l.length:=by grind
     have hk:=p5 i y _ hi (iZ hil);exact⟨hk.2,_,by simp_all,hk.1.j6 rfl⟩) R.2
   rw[e1]at r1 r2 r3;have C:∀k,(ey (ey (aI s) (Ob.arr (S.width (.st n)) (lits j (l.map (enc S (.st n))) hl) 0)).2 (.rws (S.width t0) ((l.map (IJ n j t0)).map (·.map (enc S t0))) 0)).2.ob.get k=if k=s.aL+1 then Z (.rws (S.width t0) ((l.map (IJ n j t0)).map (·.map (enc S t0))) 0)else if k=s.aL then Z (.arr (S.width (.st n)) (lits j (l.map (enc S (.st n))) hl) 0)else(aI s).ob.get k:=λk=>by show(((aI s).ob.set aR s.aL _).set aR (s.aL+1) _).get k=_;rw[Tr.bn _ _ _ _ z,Tr.bn _ _ _ _ (by omega)]
   have hL:I1 ((g.era s.aL 0 a).g8 (s.aL+1) A) (s.aL+1) 0 Y hl:=by
    have MF:∀i v,hl[i]?=Z v->∃hil:i<A.length,v=.slice (A[i]).a (A[i]).len (A[i]).cap:=λi v hi=>by
     grind
    refine⟨λi v hi=>let ⟨_,h⟩:=MF i v hi;⟨_,_,_,h⟩,λi v hi _=>?_⟩
    grind[Gh.wI]
   have u1:=r1.WU (o:=s.aL) (nj:=j) (es:=l.map (enc S (.st n))) (era:=0) (m:=s.aL+1) (gW:=0) (hole:=Y) (hl:=hl) (by omega) (by rw[C,bJ (by omega),cn rfl]) (by simpa using p1) hL;have u2:bq ((g.era s.aL 0 a).g8 (s.aL+1) A) (aI (vw s (.j0 n j t0) l).2) w:=by
    refine u1.Zo rfl λk=>?_;show(aI (dc (dc s (.kX n j l 0 (Ns s.aL) 0 Y)) (.rws t0 (zn n j t0 l) 0))).ob.get k=((ey _ _).2.ob.set aR s.aL _).get k;rw[gS,gS,Tr.bn _ _ _ _ (by omega),C];show(((aI s).ob.set aR s.aL _).set aR (s.aL+1) _).get k=_;rw[Tr.bn _ _ _ _ z,Tr.bn _ _ _ _ (by omega)];by_cases h1:k=s.aL
    .subst h1;rw[bJ (by omega),cn rfl,cn rfl];rfl
    .rw[bJ h1,bJ h1,bJ h1];rfl
   have hle:nA g ((g.era s.aL 0 a).g8 (s.aL+1) A):=q.trans ⟨λ_ _ h=>h,r2,λ_ h=>h⟩
   let ⟨g',u,d⟩:=ih (g:=(g.era s.aL 0 a).g8 (s.aL+1) A) (s:=(vw s (.j0 n j t0) l).2) E u2 (λy hy b B o K=>by
    obtain K|⟨_,y',hy',hb'⟩:=r3 o b K
    .obtain K|⟨_,hb'⟩:=k3 o b K
     .grind
     .exact (tG.1 f).2.2 a (by simp) y hy b hb' B
    .exact (tG.1 f).2.2 y' (by simp[hy']) y hy b hb' B) (tG.1 f).2.1 hn
   have IG:Wp g s w (a::A) ((g.era s.aL 0 a).g8 (s.aL+1) A) (vw s (.j0 n j t0) l).2:=by
    refine⟨u2,hle,rfl,λk b K=>?_,rfl,rfl,by omega,rfl,rfl,λo hlo=>?_,rfl,λo hlo e'=>?_⟩
    .grind
    .show ((s.ob.set aR s.aL _).set aR (s.aL+1) _).get o=_;rw[Tr.bn _ _ _ _ z,bJ (by omega),Tr.bn _ _ _ _ (by omega),bJ (by omega)]
    .rw[Gh.jF (by omega)]
     grind[Gh.cH]
   refine⟨g',by exact IG.trans u,by have:=d.1;simp only[ig,vw,bz,qH]at this ⊢;rw[this],λj' F I q1 q2=>?_⟩;cases j' with|zero=>simp[ig,vw,bz,Ng,gV]at q1 q2;subst q1;subst q2;have:aP ((g.era s.aL 0 a).g8 (s.aL+1) A) w (.sh s.aL 0) (.slice a.a a.len a.cap):=.sh _ _ _ _ a.sz _ (by simp_all[Gh.fS]);exact this.le u.le|succ j'=>exact d.2 j' F I (by simpa[ig,vw,bz]using q1) (by simpa using q2)
theorem yR{g:Gh}{w:World}{τ:Ty}{x:den S.A τ}{v:Value}(h:ew g.bx w (enc S τ x) v):aP g w (e9 S τ x) v:=by
 cases τ with
 |st n=>
  cases h with|agg _ vs a f b=>refine .agg _ _ (by simpa using a) λj t v h1 h2=>?_;simp at h1;obtain⟨c,d,rfl⟩:=h1;exact .sym _ _ (b j c v d h2)
 |int k=>exact .sym _ _ h|bool=>exact .sym _ _ h|str=>exact .sym _ _ h|sl e=>exact .sym _ _ h|cT n=>exact .sym _ _ h
def SL(a:fO S){τ:Ty}{x:den S.A τ}(h:aP g w (e9 S τ x) v):ew g.bx w (enc S τ x) v:=by
 cases τ with
 |st n=>
  cases h with
  |agg _ vs d f=>
   refine .agg _ _ (by simpa using d) (λc b=>?_) λj c v h1 h2=>?_
   .rw[a.cells]at b;exact ic _ _ (a.leaf n) c b
   .have:=f j (.sym c) v (by simp[h1]) h2;cases this with|sym _ _ h=>exact h
 |int k=>cases h with|sym _ _ h=>exact h
 |bool=>cases h with|sym _ _ h=>exact h
 |str=>cases h with|sym _ _ h=>exact h
 |sl e=>cases h with|sym _ _ h=>exact h
 |cT n=>cases h with|sym _ _ h=>exact h
inductive Eg(S:Sg)(I:Nat->Prop)(w:World)(nb:Option Nat):(k:Bk)->xL S.A k->Obj->List ff->Prop where
 |cells {cs:List Ck} {x:gr S.A cs} {cv:Array Value} {ty:TypeId} {al:List ff} (h:jL S I w cs x cv.toList al):Eg S I w nb (.cells cs) x (.cells cv ty (0,0)) al|map {kt vt:Ty} {l:List (den S.A kt×den S.A vt)} {ms:Array MapEntry} {c:Nat} (hl:l.length=ms.size)
   (h:∀(j:Nat)(p:den S.A kt×den S.A vt)(m:MapEntry),l[j]?=Z p->ms[j]?=Z m->ew I w (enc S kt p.1) m.key∧ew I w (enc S vt p.2) m.val):Eg S I w nb (.map kt vt) l (.map ms c) []
 |qE {x:List UInt8×Nat}:Eg S I w nb .qE x (.stringIter (bY x.1) x.2) []|link {pre post:List Ck} {x:gr S.A pre} {y:gr S.A post} {cv:Array Value} {ty:TypeId} {al uQ:List ff} {vp vq:List Value} {b:Nat} (hn:nb=Z b) (hv:cv.toList=vp++([.pointer (Z ⟨b,0,Y⟩)]++vq))
   (h1:jL S I w pre x vp al) (h2:jL S I w post y vq uQ):Eg S I w nb (.link pre post) (x,y) (.cells cv ty (0,0)) (al++uQ)
def Ld:Bk->Nat->Value
 |.cells _,b=>.pointer (Z ⟨b,0,Y⟩)|.map _ _,b=>.map (Z b)|.qE,b=>.pointer (Z ⟨b,0,Y⟩)|.link _ _,b=>.pointer (Z ⟨b,0,Y⟩)
def Le{v:V S}(h:DT k v=Z o):v=Vq k o:=by
 cases k with
 |cells cs=>
  cases v with
  |ptr a off=>cases off with|zero=>simp[DT,gV]at h;subst h;rfl|succ=>simp[DT]at h
  |_=>simp[DT]at h
 |map b c=>cases v<;>simp[DT]at h;subst h;rfl
 |qE=>cases v<;>simp[DT]at h;subst h;rfl
 |link pre post=>
  cases v with
  |ptr a off=>cases off with|zero=>simp[DT,gV]at h;subst h;rfl|succ=>simp[DT]at h
  |_=>simp[DT]at h
theorem NZ{g:Gh}{w:World}{k:Bk}{o b:Nat}(h:g.bV o=Z b):aP g w (low (Vq k o:V S)) (Ld k b):=by cases k with|cells cs=>exact .ptr o 0 b h|map a c=>exact .mp o b h|qE=>exact .s7 o b h|link pre post=>exact .ptr o 0 b h
def Gi(h:aP g w (low (Vq k o:V S)) v):∃b,g.bV o=Z b∧v=Ld k b:=by
 cases k with
 |cells cs=>cases h with|ptr _ _ b a=>exact⟨b,a,rfl⟩
 |map c d=>cases h with|mp _ b a=>exact⟨b,a,rfl⟩
 |qE=>cases h with|s7 _ b a=>exact⟨b,a,rfl⟩
 |link pre post=>cases h with|ptr _ _ b a=>exact⟨b,a,rfl⟩
theorem nQ{ob:ux S}(h:oO ob=W):(cU ob).oH=J:=by cases ob<;>first|rfl|(simp[oO]at h)
def FA{e:Nat}{x:ff}(h:oO ob=W)(a:uX g w o e x (cU ob)):False:=by have:=a.oH;rw[nQ h]at this;cases this
def Ry{c d a b:Ty}{l:L (den S.A c×den S.A d)}{e:L (den S.A a×den S.A b)}(h:Dz c d a b l=Z e):∃(h1:c=a)(h2:d=b),e=h1▸h2▸l:=by
 grind[Dz]
def qQ(hS:fO S)(hs:bq g (aI s) w)(hb:g.bV o=Z b){x:xL S.A k}(h:lS s k (s.ob.get o)=Z (x,fz,ow,nx)) :
  (∃ob,s.ob.get o=Z ob∧oO ob=W)∧∃I,w.heap[b]?=Z I∧
  (∀o∈fz,Live g (aI s) o)∧(∀o∈ow,s.fl<=o∧s.lo<=o∧o<s.aL∧∃ob,s.ob.get o=Z ob∧RJ ob=W)∧∀(u:Gh)(s1:St)(q:L Nat),bq u s1 w->Ext s.fl g w u w->ko (aI s) s1 q->(∀o∈fz,o∈q)->(∀o∈ow,s1.ob.get o=(aI s).ob.get o)->
   ∀nb,(∀o',nx=Z o'->∃b',nb=Z b'∧u.bV o'=Z b')->∃al,Eg S u.bx w nb k x I al∧AL u al ow:=by
 cases f:s.ob.get o with
 |none=>rw[f]at h;cases k<;>simp[lS]at h
 |some ob=>
 rw[f]at h
 let ⟨I,hh,A⟩:=(hs.box o b hb).2.2 (cU ob) (by rw[aS,f];rfl)
 cases k with
 |cells cs=>
  cases ob with
  |box vs=>
   refine⟨⟨_,rfl,rfl⟩,I,hh,?_⟩;cases A with
   |box _ y ty K A=>
   simp[lS]at h;split at h;rotate_left
   .cases h
   rename_i y1 a1 b1 Vx;obtain⟨rfl,rfl,rfl,rfl⟩:=h
   let ⟨p1,p2,p3⟩:=gl hS hs Vx (vals:=y.toList) ⟨by simpa using K,λj t v i r=>A j t v i (by simpa using r)⟩
   refine⟨p1,p2,λu s1 q a b c d e nb _=>?_⟩
   let ⟨al,i,r⟩:=p3 u s1 q a b c d e
   exact⟨al,.cells i,r⟩
  |_=>simp[lS]at h
 |link pre post=>
  cases ob with
  |box vs=>
   refine⟨⟨_,rfl,rfl⟩,I,hh,?_⟩;cases A with
   |box _ y ty K A=>
   simp only[lS]at h;split at h;rotate_left
   .cases h
   rename_i b2 e1 e2 e3;obtain⟨rfl,rfl,rfl,rfl⟩:=h;rw[bR]at e1 e2 e3;have P:vs.length=y.toList.length:=by rw[<-eR];simpa using K
   have R:∀j t v,vs[j]?=Z t->y.toList[j]?=Z v->aP g w (low t) v:=λj t v i r=>A j _ v (by rw[gH,kN,i];rfl) (by simpa using r);have hpre:PW (aP g w) (bz (vs.take pre.length)) (y.toList.take pre.length):=by
    refine⟨by rw[eR];simp[P],λj t v i r=>?_⟩;rw[gH,kN,fV]at i;obtain⟨t',i,rfl⟩:=i;rw[UQ]at i r;split at i
    .rename_i hj;rw[cn hj]at r;exact R j t' v i r
    .cases i
   have hpost:PW (aP g w) (bz (vs.drop (Ns pre.length))) (y.toList.drop (Ns pre.length)):=by refine⟨by rw[eR];simp[P],λj t v i r=>?_⟩;rw[gH,kN,fV]at i;obtain⟨t',i,rfl⟩:=i;rw[UP]at i r;exact R _ t' v i r
   rw[kO]at e2;have hlt:pre.length<y.toList.length:=by rw[<-P];exact(XN.1 e2).1
   have E:=R pre.length _ _ e2 (iZ hlt);generalize hvm:y.toList[pre.length]=vm at E;cases E with
   |ptr _ _ b2 pF=>
   have B:y.toList=y.toList.take pre.length++([.pointer (Z ⟨b2,0,Y⟩)]++y.toList.drop (Ns pre.length)):=by have h1:=(abN pre.length y.toList).symm;rw[Xt hlt,hvm]at h1;simpa using h1
   let ⟨p1,p2,p3⟩:=gl hS hs e1 hpre
   let ⟨q1,q2,q3⟩:=gl hS hs e3 hpost
   refine⟨λo f=>(dW.1 f).elim (p1 o) (q1 o),λo f=>(dW.1 f).elim (p2 o) (q2 o),λu s1 q C he hf F z nb hnb=>?_⟩
   let ⟨DC,i,r⟩:=p3 u s1 q C he hf (λo f=>F o (fh _ f)) (λo f=>z o (fh _ f))
   let ⟨Bc,k3,k4⟩:=q3 u s1 q C he hf (λo f=>F o (eO _ f)) (λo f=>z o (eO _ f))
   let ⟨b',DV,WE⟩:=hnb _ rfl
   have:b'=b2:=jU (WE.symm.trans (he.bV _ _ pF));subst this;exact⟨_,.link DV B i k3,r.append k4⟩
  |_=>simp[lS]at h
 |map kt vt=>
  cases ob with
  |map k v l=>
   simp[lS]at h;split at h
   .rename_i K;obtain⟨rfl,rfl,hh'⟩:=Ry K;cases hh';obtain⟨rfl,rfl,rfl,rfl⟩:=h;refine⟨⟨_,rfl,rfl⟩,I,hh,λo f=>(by cases f),λo f=>(by cases f),λu s1 q C he hf _ _ nb _=>⟨[],?_,.nil⟩⟩;cases A with
    |map _ ms c K A=>
    refine .map (by simpa using K) λj p m h1 h2=>?_;obtain⟨i,r⟩:=A j _ m (by rw[kN,h1];rfl) h2;exact⟨SL hS (i.ext he hs.bx),SL hS (r.ext he hs.bx)⟩
   .cases h
  |_=>simp[lS]at h
 |qE=>
  cases ob with
  |qE bs n=>obtain⟨rfl,rfl,rfl,rfl⟩:=h;refine⟨⟨_,rfl,rfl⟩,I,hh,λo f=>(by cases f),λo f=>(by cases f),λu s1 q C he hf _ _ nb _=>⟨[],?_,.nil⟩⟩;cases A;exact .qE (x:=(bs,n))
  |_=>simp[lS]at h
theorem Eg.iE{I:Nat->Prop}{w:World}{c:O Nat}{k:Bk}{x:xL S.A k}{h:Obj}{al:L ff}(d:Eg S I w c k x h al):∀a∈al,∀b,a.at b->¬I b:=by cases d with|cells h=>exact h.iE|map=>simp_all|qE=>simp_all|link _ _ h1 h2=>intro a e;exact(dW.1 e).elim (h1.iE a) (h2.iE a)
theorem Ek(k:Bk)(s:bu S)(nx:O Nat)(x:xL S.A k):s.aL<=(kR s nx k x).2.aL:=by cases k with|cells cs=>exact nM cs s x|map a b=>exact cu _|qE=>exact cu _|link pre post=>exact gk (nM pre s x.1) (nM post _ x.2)
def o5{x:xL S.A k}{h:Obj}{R:O Nat}(C:Eg S g.bx w R k x h al)(E:∀b',R=Z b'->∃n,nx=Z n∧g.bV n=Z b')(hs:bq g (aI s) w)(u:∀a∈al,∀b,a.at b->∀o,¬bG g o b)(z:wY al)
  (hn:(kR s nx k x).2.aL<=bC):∃g',Wp g s w al g' (kR s nx k x).2∧iy g' w (cU (kR s nx k x).1) h:=by
 cases C with
 |cells C=>
  let ⟨g',hu,A⟩:=m6 C hs u z hn
  exact⟨g',hu,.box _ _ _ (by simpa using A.1) λj t v q r=>A.2 j t v q (by simpa using r)⟩
 | @map kt vt l ms c hl C=>
  refine⟨g,Wp.refl hs,.map _ _ _ (by simpa using hl) λj t m h1 h2=>?_⟩;simp only[kN,fV]at h1;obtain⟨p,hp,rfl⟩:=h1
  grind[yR]
 |qE=>exact⟨g,Wp.refl hs,.qE _ _⟩| @link pre post x y cv ty al uQ vp vq b hb hv h1 h2=>
  obtain⟨n,rfl,F⟩:=E b hb;have e:=tG.1 z;have I:(ig s pre x).2.aL<=bC:=gk (nM post _ y) hn
  let ⟨g1,d,B⟩:=m6 h1 hs (λa ha=>u a (fh _ ha)) e.1 I
  let ⟨K,i,P⟩:=m6 (s:=(ig s pre x).2) (d.bx▸h2) d.rel (λa ha b hb o hO=>by
    obtain hO|⟨_,a2,ha2,pF⟩:=d.own o b hO
    .grind
    grind) e.2.1 hn
  refine⟨K,d.trans i,?_⟩;have hmid:aP K w (low (.ptr n 0:V S)) (.pointer (Z ⟨b,0,Y⟩)):=.ptr n 0 b (by rw[i.bV,d.bV];exact F);have f:PW (aP K w) (bz ((ig s pre x).1++(XS (Z n)++(ig (ig s pre x).2 post y).1))) cv.toList:=by
   rw[hv,j3,j3];exact PW.append ⟨B.1,λj t v q r=>(B.2 j t v q r).le i.le⟩ (PW.append ⟨rfl,λj t v q r=>by
    grind[bz,XS]⟩ P)
  exact .box _ _ _ (by simpa using f.1) λj t v q r=>f.2 j t v q (by simpa using r)
end
section
def Tr.qU{α:Type}:∀(n:Nat)(t:Tr α)(k j:Nat),k+1<2 ^ n->(Tr.del n t k).get j=if j=k then Y else t.get j
 |0,t,k,j,h=>by simp at h
 |n+1,.nil,k,j,h=>by have:Tr.del (n+1) (.nil:Tr α) k=.nil:=rfl;rw[this,Tr.get_nil];split<;>rfl
 |n+1,.node v l r,0,j,h=>by have:Tr.del (n+1) (.node v l r) 0=.node Y l r:=rfl;cases j with|zero=>rfl|succ j=>rfl
 |n+1,.node v l r,k+1,j,h=>by
  have b:k/2+1<2 ^ n:=by omega
  have c:Tr.del (n+1) (.node v l r) (k+1)=if k%2=0 then .node v (Tr.del n l (k/2)) r else .node v l (Tr.del n r (k/2)):=by
   simp[Tr.del];by_cases h2:k%2=0
   .have:Nq (Nat.mod k 2) 0=W:=by show Nq (k%2) 0=W;rw[h2];rfl
    simp[this,h2];rfl
   .have:Nq (Nat.mod k 2) 0=J:=by
     show Nq (k%2) 0=J;have:k%2=1:=by omega
     rw[this];rfl
    simp[this,h2];rfl
  rw[c];cases j with
  |zero=>split<;>simp[Tr.jd]
  |succ j=>
   by_cases d:k%2=0
   .rw[cn d,Tr.dI,Tr.dI];by_cases a:j%2=0
    .rw[cn a,cn a,Tr.qU n _ _ _ b]
     grind
    grind
   .rw[bJ d,Tr.dI,Tr.dI];by_cases a:j%2=0
    .rw[cn a,cn a,bJ (by omega)]
    .rw[bJ a,bJ a,Tr.qU n _ _ _ b]
     grind
def Tr.nU{α:Type}:∀(bs:L Nat)(t:Tr α)(j:Nat),(∀b∈bs,b<bC)->(bs.foldl (λt o=>t.del aR o) t).get j=if j∈bs then Y else t.get j
 |[],t,j,_=>by simp
 |b::bs,t,j,h=>by
  rw[Np,Tr.nU bs _ j (λc a=>h c (by simp[a])),Tr.qU _ _ _ _ (by have:=h b (by simp);unfold aR;unfold bC at this;omega)];by_cases h1:j∈bs
  .simp[h1]
  .by_cases h2:j=b<;>simp[h1,h2]
def Tr.qi{α:Type}(f:α->α):∀(t:Tr α)(k:Nat),(t.mapA f).get k=(t.get k).map f
 |.nil,k=>by rfl
 |.node v l r,0=>by have:(Tr.node v l r).mapA f=.node (match v with|some x=>Z (f x)|none=>Y) (l.mapA f) (r.mapA f):=rfl;rw[this,Tr.jd,Tr.jd];cases v<;>rfl
 |.node v l r,k+1=>by have:(Tr.node v l r).mapA f=.node (match v with|some x=>Z (f x)|none=>Y) (l.mapA f) (r.mapA f):=rfl;rw[this,Tr.dI,Tr.dI,Tr.qi f l,Tr.qi f r];split<;>rfl
theorem Tr.qe{α:Type}(p:α->Bool):∀(t:Tr α)(k:Nat)(x:α),t.get k=Z x->p x=W->k∈t.jI p
 |.nil,k,x,h,_=>by cases h
 |.node v l r,0,x,h,a=>by
  grind[Tr.jd,Tr.jI]
 |.node v l r,k+1,x,h,a=>by
  rw[Tr.dI]at h;simp only[Tr.jI,dW,nO];by_cases b:k%2=0
  .rw[cn b]at h;exact .inr (.inl ⟨k/2,Tr.qe p l _ x h a,by grind⟩)
  .rw[bJ b]at h;exact .inr (.inr ⟨k/2,Tr.qe p r _ x h a,by grind⟩)
theorem Tr.nT{α:Type}(p:α->Bool):∀(t:Tr α)(k:Nat),(t.keep p).get k=(t.get k).filter p
 |.nil,k=>by rfl
 |.node v l r,0=>by
  have:(Tr.node v l r).keep p=.node (match v with|some x=>bif p x then Z x else Y|none=>Y) (l.keep p) (r.keep p):=rfl
  grind[Tr.jd]
 |.node v l r,k+1=>by have:(Tr.node v l r).keep p=.node (match v with|some x=>bif p x then Z x else Y|none=>Y) (l.keep p) (r.keep p):=rfl;rw[this,Tr.dI,Tr.dI,Tr.nT p l,Tr.nT p r];split<;>rfl
mutual
theorem kE(os:L Nat):∀v:V S,dw os (low v)=iM os v
 |.ty t x=>by
  have:∀l:L D,iF os (l.map .sym)=J:=by
   intro l
   induction l with|nil=>rfl|cons d l e=>simp[iF,dw,e]
  cases t<;>simp[low,e9,iM,dw,this]
 |.kb _=>rfl|.kn _ _=>rfl|.dat _=>rfl|.ptr _ _=>rfl|.nJ _ _ _=>rfl|.lG _ _ _ _=>rfl|.sh _ _=>rfl|.emp=>rfl|.kq _ _ _=>rfl|.fn _ a b=>by simp[low,iM,dw,p9 os a,p9 os b]
 |.cT _ v=>by simp[low,iM,dw,kE os v]
 |.agg c=>by simp[low,iM,dw,p9 os c]
 |.gM c=>by simp[low,iM,dw,p9 os c]
 |.gd _ v=>by simp[low,iM,dw,kE os v]
 |.mp _=>rfl|.rB _=>rfl|.s7 _=>rfl|.ub _=>rfl|.rM _ _ _ _=>rfl|.oY _ _ _=>rfl
theorem p9(os:L Nat):∀l:L (V S),iF os (bz l)=oc os l
 |[]=>rfl|v::l=>by simp[bz,iF,oc,kE os v,p9 os l]
end
def lU:∀t:T,dw [] t=J:=by
 intro t
 induction t using T.rec (motive_2:=λl=>iF [] l=J)with|fn f a b d g=>simp[dw,d,g]|cT t v e=>simp[dw,e]|agg i e=>simp[dw,e]|gM i e=>simp[dw,e]|gd c v e=>simp[dw,e]|nil=>rfl|cons a l d h=>simp[iF,d,h]|_=>simp[dw]
structure n5(lo fl:Nat)(g:Gh)(w:World)(g':Gh)(w':World):Prop where
 bV:∀o b,g.bV o=Z b->g'.bV o=Z b
 arr:∀o e x,o<lo->g.arr o e=Z x->g'.arr o e=Z x
 bx:∀b,g.bx b->g'.bx b
 size:w.heap.size<=w'.heap.size
 heap:∀b,b<w.heap.size->(∀o,fl<=o->¬bG g o b)->w'.heap[b]?=w.heap[b]?
 own:∀o b,fl<=o->bG g' o b->(∃o',fl<=o'∧bG g o' b)∨w.heap.size<=b
 rO:∀b,g'.bx b->g.bx b∨w.heap.size<=b∨∃o,fl<=o∧bG g o b
 os:w'.os=w.os
 output:w'.output=w.output
theorem n5.refl(lo fl:Nat)(g:Gh)(w:World):n5 lo fl g w g w:=
 ⟨λ_ _ h=>h,λ_ _ _ _ h=>h,λ_ h=>h,cu _,λ_ _ _=>rfl,λo _ a h=>.inl ⟨o,a,h⟩,λ_ h=>.inl h,rfl,rfl⟩
def n5.trans{lo fl:Nat}{g g' i:Gh}{w w' j:World}(h:n5 lo fl g w g' w')(k:n5 lo fl g' w' i j):n5 lo fl g w i j where
 bV o b e:=k.bV o b (h.bV o b e)
 arr o e x n p:=k.arr o e x n (h.arr o e x n p)
 bx b e:=k.bx b (h.bx b e)
 size:=gk h.size k.size
 heap b c q:=by
  rw[k.heap b (iP c h.size) (λo l a=>?_),h.heap b c q];obtain⟨m,d,f⟩|a:=h.own o b l a
  .grind
  .omega
 own o b l a:=by
  obtain⟨m,d,f⟩|a:=k.own o b l a
  .exact h.own m b d f
  .exact .inr (gk h.size a)
 rO b c:=by
  obtain c|c|⟨o,l,a⟩:=k.rO b c
  .exact h.rO b c
  .exact .inr (.inl (gk h.size c))
  .obtain ⟨m,d,f⟩|a:=h.own o b l a
   .grind
   omega
 os:=k.os.trans h.os
 output:=k.output.trans h.output
variable {fl:Nat}{g g':Gh}{w w':World}{s:bu S}{k:Bk}{nx:Option Nat}
def Ext.I8(lo:Nat)(h:Ext fl g w g' w'):n5 lo fl g w g' w':=
 ⟨λo b e=>h.bV o b e,λo e x _ k=>h.arr o e x k,h.bx,h.size,h.heap,λo b a c=>(h.own o b c).imp (λh=>⟨o,a,h⟩) id,h.rO,h.os,h.output⟩
structure cR(ow:List Nat)(s:bu S)(g:Gh)(w:World)(s':bu S)(g':Gh)(w':World):Prop where
 rel:bq g' (aI s') w'
 ext:n5 s.lo s.fl g w g' w'
 fl:s'.fl=s.fl
 lo:s'.lo=s.lo
 aL:s.aL<=s'.aL
 uE:∀o∈s.wr,o∈s'.wr
 same:∀o,o<s.aL->o∉s'.wr->s'.ob.get o=s.ob.get o
 tr:∀t v,aP g w t v->dw ow t=J->aP g' w' t v
 oww:∀o∈ow,o∈s'.wr
 IS:∀o∈s.dr,o∈s'.dr
 owd:∀o∈ow,o∈s'.dr
inductive qy(S:Sg)(I:Nat->Prop)(w:World):(ps:List Pk)->fX S.A ps->List Value->List ff->List Nat->Prop where
 |nil:qy S I w [] () [] [] []|one {c:Ck} {ps:List Pk} {x:den S.A c.ty} {h:fX S.A ps} {v:Value} {vs:List Value} {al uQ:List ff} {bl:List Nat} (h1:jL S I w [c] (x,()) [v] al) (h2:qy S I w ps h vs uQ bl) :
   qy S I w (.one c::ps) (x,h) (v::vs) (al++uQ) bl
 |box {k:Bk} {ps:List Pk} {x:xL S.A k} {h:fX S.A ps} {b:Nat} {hx:Obj} {vs:List Value} {al uQ:List ff} {bl:List Nat} (hh:w.heap[b]?=Z hx)
   (h1:Eg S I w (fD bl) k x hx al) (h2:qy S I w ps h vs uQ bl):qy S I w (.box k::ps) (x,h) (Ld k b::vs) (al++uQ) (b::bl)
 |hid {k:Bk} {ps:List Pk} {x:xL S.A k} {h:fX S.A ps} {b:Nat} {hx:Obj} {vs:List Value} {al uQ:List ff} {bl:List Nat} (hh:w.heap[b]?=Z hx)
   (h1:Eg S I w (fD bl) k x hx al) (h2:qy S I w ps h vs uQ bl):qy S I w (.hid k::ps) (x,h) vs (al++uQ) (b::bl)
inductive Ei(S:Sg)(I:Nat->Prop)(w:World):(ps:List Pk)->iw S.A ps->List Nat->List ff->Prop where
 |nil:Ei S I w [] () [] []|one {c:Ck} {ps:List Pk} {r:iw S.A ps} {bl:List Nat} {al:List ff} (h:Ei S I w ps r bl al):Ei S I w (.one c::ps) r bl al|box {k:Bk} {ps:List Pk} {x:xL S.A k} {r:iw S.A ps} {b:Nat} {hx:Obj} {bl:List Nat} {al uQ:List ff} (hh:w.heap[b]?=Z hx)
   (h1:Eg S I w (fD bl) k x hx al) (h2:Ei S I w ps r bl uQ):Ei S I w (.box k::ps) (x,r) (b::bl) (al++uQ)
 |hid {k:Bk} {ps:List Pk} {x:xL S.A k} {r:iw S.A ps} {b:Nat} {hx:Obj} {bl:List Nat} {al uQ:List ff} (hh:w.heap[b]?=Z hx)
   (h1:Eg S I w (fD bl) k x hx al) (h2:Ei S I w ps r bl uQ):Ei S I w (.hid k::ps) (x,r) (b::bl) (al++uQ)
def valOf:L Value->Value
 |[v]=>v|l=>.tuple l.toArray
def EH(S:Sg)(I:Nat->Prop)(w:World)(ps:L Pk)(f:L Ck)(r:gr S.A f×iw S.A ps)(al:L ff)(bl:L Nat)(v:Value)(w':World):Prop:=∃(e:Nat->Prop)(vs:L Value)(c d:L ff),(∀b,I b->e b)∧(∀b,e b->I b∨w.heap.size<=b∨∃a∈al,a.at b)∧(∀b,e b->b<w'.heap.size)∧w.heap.size<=w'.heap.size∧
   (∀b,b<w.heap.size->b∉bl->(∀a∈al,¬a.at b)->w'.heap[b]?=w.heap[b]?)∧w'.os=w.os∧w'.output=w.output∧v=valOf vs∧
   Ei S e w' ps r.2 bl c∧jL S e w' f r.1 vs d∧wY (c++d)∧(∀a∈c++d,∀b,a.at b->(∃a'∈al,a'.at b)∨w.heap.size<=b)∧(∀b∈bl,¬e b∧∀a∈c++d,¬a.at b)
def xF(S:Sg)(I:Nat->Prop)(w:World)(ps:L Pk)(b:L Ck)(r:Rx (gr S.A b×iw S.A ps) (den S.A S.pt×iw S.A ps))(al:L ff)(bl:L Nat):Ending->World->Prop
 |.returned v,w'=>match r with
  |.ok r=>EH S I w ps b r al bl v w'|.hU _=>False
 |.panicked c,w'=>match r with
  |.ok _=>False|.hU p=>∃v,c=[{v,recovered:=J}]∧EH S I w ps [.dat S.pt] ((p.1,()),p.2) al bl v w'
 |.outgrown,_=>False
def bH(P:Program)(f:FuncId)(c:me S):Prop:=
 lN P f∧∀x r,c.F x=Z r->∀(I:Nat->Prop)(w:World)(vs:Array Value)(al:L ff)(bl:L Nat),qy S I w c.ps x vs.toList al bl->(∀b,I b->b<w.heap.size)->wY al->bl.Nodup->
  (∀b∈bl,b<w.heap.size∧¬I b∧∀a∈al,¬a.at b)->Calls P f vs w (xF S I w c.ps c.rs (RT.res c.pn r) al bl)
def Ak(hs:bq g (aI s) w){o b:Nat}(l:g.bV o=Z b){x:xL S.A k}{fz ow:L Nat}(h:lS s k (s.ob.get o)=Z (x,fz,ow,nx)) :
  (∀c,nx=Z c->∃m,g.bV c=Z m)∧∀c,nx=Z c->∃pre post,k=.link pre post:=by
 cases d:s.ob.get o with
 |none=>rw[d]at h;cases k<;>simp[lS]at h
 |some ob=>
 rw[d]at h
 let ⟨r,t,e⟩:=(hs.box o b l).2.2 (cU ob) (by rw[aS,d];rfl)
 cases k with
 |link pre post=>
  refine⟨λc n=>?_,λ_ _=>⟨pre,post,rfl⟩⟩;cases ob with
  |box u=>
   cases e with
   |box _ i ty v e=>
   simp only[lS]at h;split at h;rotate_left
   .cases h
   rename_i p y j z;obtain⟨_,_,_,rfl⟩:=h;rw[kO]at j;have f:cB pre<i.size:=by grind[eR]
   have a:=e (cB pre) _ _ (by rw[gH,kN,j];rfl) (vG f);generalize i[cB pre]=A at a;cases a with|ptr _ _ p q=>grind
  |_=>simp[lS]at h
 |cells B=>
  cases ob<;>simp only[lS]at h<;>try(cases h;done)
  grind
 |map C E=>
  cases ob<;>simp only[lS]at h<;>try(cases h;done)
  grind
 |qE=>
  cases ob<;>simp only[lS]at h<;>try(cases h;done)
  grind
def Da{i:Gh}{ps:L Pk}{l:L (V S)}{h:fX S.A ps}{a b bs bl:L Nat}(m:Ge k ps=W)(g:∀c,nx=Z c->∃pre post,k=.link pre post)(e:eL s ps l nx=Z (h,a,b,bs))(d:PW (λo b=>i.bV o=Z b) bs bl) :
  ∀c,nx=Z c->∃f,fD bl=Z f∧i.bV c=Z f:=by
 intro c j;obtain⟨pre,post,rfl⟩:=g c j;subst j
 match ps,m with
 |.hid n::ps,_=>
  simp[eL]at e;obtain⟨_,e⟩|⟨_,e⟩:=ah e
  rotate_left
  .cases e
  split at e;rotate_left
  .cases e
  split at e;rotate_left
  .cases e
  simp at e;obtain⟨_,_,_,rfl⟩:=e
  match bl,d with
  |f::bl,d=>exact⟨f,rfl,d.2 0 _ _ rfl rfl⟩|[],d=>exact absurd d.1 (by simp)
def kB(hS:fO S){g:Gh}{w:World}{s:bu S}(hs:bq g (aI s) w):∀{ps:L Pk}{l:L (V S)}{vals:L Value}{x:fX S.A ps}{fz ow bs:L Nat}{B:O Nat},eL s ps l B=Z (x,fz,ow,bs)->PW (aP g w) (bz l) vals->(∀o,B=Z o->∃b,g.bV o=Z b)->
  (∀o∈fz,Live g (aI s) o)∧(∀o∈ow,s.fl<=o∧s.lo<=o∧o<s.aL∧∃ob,s.ob.get o=Z ob∧RJ ob=W)∧(∀o∈bs,s.fl<=o∧∃ob,s.ob.get o=Z ob∧oO ob=W)∧∀(r:Gh)(s1:St)(i:L Nat),bq r s1 w->Ext s.fl g w r w->ko (aI s) s1 i->(∀o∈fz,o∈i)->(∀o∈ow,s1.ob.get o=(aI s).ob.get o)->
   ∃al bl,qy S r.bx w ps x vals al bl∧AL r al ow∧PW (λo b=>r.bV o=Z b) bs bl
 |[],[],vals,x,fz,ow,bs,_,h,m=>by intro _;obtain⟨_,rfl,rfl,rfl⟩:=h;have:vals=[]:=xJ (by have:=m.1;simpa[bz]using this.symm);subst this;exact⟨λo d=>(by cases d),λo d=>(by cases d),λo d=>(by cases d),λ_ _ _ _ _ _ _ _=>⟨[],[],.nil,.nil,rfl,λj a b h=>by simp at h⟩⟩
 |.one c::ps,v::l,vals,x,fz,ow,bs,_,h,m=>by
  intro _;simp[eL]at h;split at h
  .rename_i x1 a1 b1 h1 a2 b2 bs2 C E;simp at h;obtain⟨rfl,rfl,rfl,rfl⟩:=h
   match vals,m with
   |val::vals,m=>
    have F:aP g w (low v) val:=m.2 0 _ _ rfl rfl;have I:PW (aP g w) (bz l) vals:=⟨by have:=m.1;simpa[bz]using this,λj a b u y=>m.2 (j+1) a b (by simpa[bz]using u) (by simpa using y)⟩
    let ⟨p1,p2,p3⟩:=Dc hS hs C F
    let ⟨q1,q2,q4,q3⟩:=kB hS hs E I (λo d=>by cases d)
    refine⟨λo d=>(dW.1 d).elim (p1 o) (q1 o),λo d=>(dW.1 d).elim (p2 o) (q2 o),q4,λr s1 i n t A f e=>?_⟩
    let ⟨DC,u,y⟩:=p3 r s1 i n t A (λo d=>f o (fh _ d)) (λo d=>e o (fh _ d))
    let ⟨Bc,bl,k3,k4,z⟩:=q3 r s1 i n t A (λo d=>f o (eO _ d)) (λo d=>e o (eO _ d))
    exact⟨_,bl,.one u k3,y.append k4,z⟩
   |[],m=>exact absurd m.1 (by simp[bz])
  .cases h
 |.box k::ps,v::l,vals,x,fz,ow,bs,B,h,m=>by
  intro _;simp[eL]at h;split at h
  .rename_i o hkp;obtain rfl:=Le hkp;obtain⟨hb,p⟩|⟨_,p⟩:=ah h
   .clear h;rw[Bz]at hb;split at p;rotate_left
    .cases p
    rename_i x1 a1 b1 nx C;split at p;rotate_left
    .cases p
    rename_i h1 a2 b2 bs2 E;simp at p;obtain⟨rfl,rfl,rfl,rfl⟩:=p
    match vals,m with
    |val::vals,m=>
     have F:aP g w (low (Vq k o)) val:=m.2 0 _ _ rfl rfl;have I:PW (aP g w) (bz l) vals:=⟨by have:=m.1;simpa[bz]using this,λj a b u y=>m.2 (j+1) a b (by simpa[bz]using u) (by simpa using y)⟩;obtain⟨b,q,rfl⟩:=Gi F
     let ⟨p0,hx,hh,p1,p2,p3⟩:=qQ hS hs q C
     let ⟨K,P⟩:=Ak hs q C
     let ⟨q1,q2,q4,q3⟩:=kB hS hs E I K
     refine⟨λo d=>(dW.1 d).elim (p1 o) (q1 o),λo d=>(dW.1 d).elim (p2 o) (q2 o),λk hk=>?_,λr s1 i n t A f e=>?_⟩
     .obtain rfl|hk:=fy.1 hk
      .simp_all
      grind
     .let ⟨Bc,bl,k3,k4,z⟩:=q3 r s1 i n t A (λo d=>f o (eO _ d)) (λo d=>e o (eO _ d))
      let ⟨DC,u,y⟩:=p3 r s1 i n t A (λo d=>f o (fh _ d)) (λo d=>e o (fh _ d)) (fD bl) (Da hb.2 P E z)
      refine⟨_,b::bl,.box hh u k3,y.append k4,by simp[z.1],λj a c R m2=>?_⟩;cases j with|zero=>simp at R m2;subst R;subst m2;exact t.bV _ _ q|succ j=>exact z.2 j a c (by simpa using R) (by simpa using m2)
    |[],m=>exact absurd m.1 (by simp[bz])
   .cases p
  .cases h
 |.hid k::ps,l,vals,x,fz,ow,bs,Z o,h,m=>by
  intro hp0;obtain⟨hb,p⟩|⟨_,p⟩:=ah h
  rotate_left
  .cases p
  clear h;rw[Bz]at hb;split at p;rotate_left
  .cases p
  rename_i C;split at p;rotate_left
  .cases p
  rename_i E;obtain⟨rfl,rfl,rfl,rfl⟩:=p
  let ⟨b,q⟩:=hp0 o rfl
  let ⟨p0,hx,hh,p1,p2,p3⟩:=qQ hS hs q C
  let ⟨K,P⟩:=Ak hs q C
  let ⟨q1,q2,q4,q3⟩:=kB hS hs E m K
  refine⟨λo d=>(dW.1 d).elim (p1 o) (q1 o),λo d=>(dW.1 d).elim (p2 o) (q2 o),λk hk=>?_,λr s1 i n t A f e=>?_⟩
  .obtain rfl|hk:=fy.1 hk
   .simp_all
   grind
  .let ⟨Bc,bl,k3,k4,z⟩:=q3 r s1 i n t A (λo d=>f o (eO _ d)) (λo d=>e o (eO _ d))
   let ⟨DC,u,y⟩:=p3 r s1 i n t A (λo d=>f o (fh _ d)) (λo d=>e o (fh _ d)) (fD bl) (Da hb.2 P E z)
   refine⟨_,b::bl,.hid hh u k3,y.append k4,by simp[z.1],λj a c R m2=>?_⟩;cases j with|zero=>simp at R m2;subst R;subst m2;exact t.bV _ _ q|succ j=>exact z.2 j a c (by simpa using R) (by simpa using m2)
 |[],_::_,_,_,_,_,_,_,h,_=>by simp[eL]at h
 |.one _::_,[],_,_,_,_,_,_,h,_=>by simp[eL]at h
 |.box _::_,[],_,_,_,_,_,_,h,_=>by simp[eL]at h
 |.hid _::_,_,_,_,_,_,_,Y,h,_=>by simp[eL]at h
end
section
def FT{os:L Nat}:∀{l:L (V S)},oc os l=J->∀v∈l,iM os v=J
 |[],_,v,b=>by cases b
 |a::l,h,v,b=>by
  simp[oc,Ad]at h;obtain rfl|b:=fy.1 b
  .exact h.1
  .exact FT h.2 v b
def FR{α:Type}{os:L Nat}:∀{l:L (α×V S)},KY os l=J->∀p∈l,iM os p.2=J
 |[],_,v,b=>by cases b
 |a::l,h,v,b=>by
  simp[KY,Ad]at h;obtain rfl|b:=fy.1 b
  .exact h.1
  .exact FR h.2 v b
def Es{p:V S->Bool}{f:V S->V S}(hf:∀v,p v=J->f v=v):∀{t:Tr (V S)},mD p t=J->t.mapA f=t
 |.nil,_=>rfl|.node v l r,h=>by
  simp[mD,Ad]at h;simp only[Tr.mapA,Es hf h.2.1,Es hf h.2.2]
  grind
variable {os bl:List Nat}{g:Gh}{w:World}{s:bu S}{vs:List Value}{I:Nat->Prop}
def Cl{v:V S}(h:iM os v=J):qu os v=v:=by simp[qu,h,ez]
def Ru{ob:ux S}(h:KR os ob=J):nL os ob=ob:=by
 cases ob with
 |box b=>simp[nL,ux.box.injEq];have:∀v∈b,qu os v=v:=λv c=>Cl (FT h v c);exact(Af this).trans (List.map_id _)|Im d l=>
  simp only[nL];have:∀p∈l,((p.1,qu os p.2):den S.A d×V S)=p:=λp e=>by rw[Cl (FR h p e)]
  rw[(Af this).trans (List.map_id _)]
 |lp l=>simp[nL,Es (λv=>Cl) (show mD (iM os) l.fr.tm=J from h)]|kX n j l era m a hole=>have h:os.contains m=J:=h;simp only[nL,h,ez]|_=>rfl
theorem wk(os:L Nat)(v:V S):uS (dw os) (low v) (low (qu os v)):=by cases a:iM os v with|true=>exact .inr ⟨_,by simp[qu,a,eP];rfl⟩|false=>exact .inl ⟨by simp[qu,a,ez],by rw[kE];exact a⟩
theorem SK(os:L Nat)(t:Ty)(x:den S.A t):uS (dw os) (e9 S t x) (e9 S t x):=.inl ⟨rfl,kE (S:=S) os (.ty t x)⟩
def LH(os:L Nat)(ob:ux S):aaA os (cU ob) (cU (nL os ob)):=by
 cases ob with
 |box o=>
  refine⟨by simp[eR],λj t u h1 h2=>?_⟩;simp only[gH,kN,fV]at h1 h2;obtain⟨v,c,rfl⟩:=h1;obtain⟨g,⟨d,a,rfl⟩,rfl⟩:=h2
  grind[wk]
 |map h q l=>
  refine⟨rfl,λj t u h1 h2=>?_⟩;rw[h1]at h2;cases h2;simp only[kN,fV]at h1;obtain⟨p,_,rfl⟩:=h1
  grind[SK]
 |Im h l=>
  refine⟨by simp,λj t u h1 h2=>?_⟩;simp only[kN,fV]at h1 h2;obtain⟨v,c,rfl⟩:=h1;obtain⟨g,⟨d,a,rfl⟩,rfl⟩:=h2
  grind[SK,wk]
 |lp l=>refine⟨rfl,rfl,λk u i=>?_⟩;have b:((l.fr.tm.mapA (qu os)).map low).get k=Z u:=i;rw[Tr.get_map,Tr.qi,Ft,fV]at b;obtain⟨v,c,rfl⟩:=b;exact⟨low v,by show(l.fr.tm.map low).get k=_;rw[Tr.get_map,c];rfl,wk os v⟩
 |arr=>rfl|kS=>rfl|qE=>rfl|zP=>rfl|rws=>rfl|gone=>rfl|FQ=>rfl|kX n j l era m f hole=>
  cases e:os.contains m with|true=>exact .inr (by simp only[nL,e,eP];rfl)|false=>exact .inl ⟨by simp only[nL,e,ez];rfl,e⟩
def GH(os:L Nat)(s:bu S)(o:Nat):(forget os s).ob.get o=if os=[]then s.ob.get o else(s.ob.get o).map (nL os):=by cases os with|nil=>rfl|cons a os=>exact Tr.qi _ _ _
def Ot(os:L Nat)(hs:bq g (aI s) w):bq (g.drop os) (aI (forget os s)) w:=by cases os with|nil=>exact hs|cons a os=>refine hs.drop rfl λo c h=>?_;rw[aS,GH,bJ (by simp),Ft,fV]at h;obtain⟨ob,b,rfl⟩:=h;exact⟨cU ob,by rw[aS,b];rfl,LH _ ob⟩
def Oq(os:L Nat)(s:bu S)(o:Nat)(h:o∉(forget os s).wr):(forget os s).ob.get o=s.ob.get o:=by
 rw[GH];split
 .rfl
 .cases c:s.ob.get o with
  |none=>rfl|some ob=>
   cases b:KR os ob with
   |true=>
    exfalso;apply h;cases os with|nil=>simp_all|cons a os=>exact fh _ (Tr.qe _ _ _ _ c b)
   |false=>rw[jB,Ru b]
def VQ(os:L Nat)(s:bu S):(forget os s).fl=s.fl∧(forget os s).lo=s.lo∧(forget os s).aL=s.aL∧(forget os s).dr=s.dr∧∀o∈s.wr,o∈(forget os s).wr:=by cases os with|nil=>exact⟨rfl,rfl,rfl,rfl,λ_ h=>h⟩|cons a os=>exact⟨rfl,rfl,rfl,rfl,λo h=>eO _ h⟩
def eM:∀{os:L Nat}{s s':bu S},dX s os=Z s'->s'.fl=s.fl∧s'.lo=s.lo∧s'.aL=s.aL∧(∀o∈s.wr,o∈s'.wr)∧(∀o,o∉s'.wr->s'.ob.get o=s.ob.get o)∧(∀o,o∉os->s'.ob.get o=s.ob.get o)∧s'.dr=s.dr
 |[],s,s',h=>by simp[dX,gV]at h;subst h;exact⟨rfl,rfl,rfl,λ_ h=>h,λ_ _=>rfl,λ_ _=>rfl,rfl⟩
 |k::os,s,s',h=>by
  obtain⟨_,h⟩|⟨_,h⟩:=ah h
  .split at h
   .let ⟨h1,h2,h3,h4,h5,h6,b⟩:=eM h
    refine⟨h1,h2,h3,λo a=>h4 o (iB _ a),λo a=>?_,λo a=>?_,b⟩
    .rw[h5 o a];exact Tr.dA _ _ _ _ _ (λe=>a (h4 o (by rw[e];exact fA)))
    .rw[h6 o (λc=>a (iB _ c))];exact Tr.dA _ _ _ _ _ (λe=>a (by rw[e];exact fA))
   .let ⟨h1,h2,h3,h4,h5,h6,b⟩:=eM h
    exact⟨h1,h2,h3,h4,h5,λo a=>h6 o (λc=>a (iB _ c)),b⟩
   .split at h
    .rename_i _ _ _ _ _;obtain⟨d,h⟩|⟨_,h⟩:=ah h
     .simp only[eK,Fp,nP]at d
      let ⟨h1,h2,h3,h4,h5,h6,b⟩:=eM h
      refine⟨h1,h2,h3,λo a=>h4 o (iB _ (iB _ a)),λo a=>?_,λo a=>?_,b⟩
      .rw[h5 o a];show((s.ob.set aR _ _).set aR k _).get o=_;rw[Tr.dA _ _ _ _ _ (λe=>a (h4 o (by rw[e];exact fA))),Tr.dA _ _ _ _ _ (λe=>a (h4 o (by rw[e];exact iB _ fA)))]
      .rw[h6 o (λc=>a (iB _ c))];show((s.ob.set aR _ _).set aR k _).get o=_;rw[Tr.dA _ _ _ _ _ (λe=>a (by rw[e];exact fA)),Tr.dA _ _ _ _ _ (λe=>a (by rw[e];exact iB _ d.1))]
     .cases h
    .cases h
   .let ⟨h1,h2,h3,h4,h5,h6,b⟩:=eM h
    exact⟨h1,h2,h3,h4,h5,λo a=>h6 o (λc=>a (iB _ c)),b⟩
   .let ⟨h1,h2,h3,h4,h5,h6,b⟩:=eM h
    exact⟨h1,h2,h3,h4,h5,λo a=>h6 o (λc=>a (iB _ c)),b⟩
   .cases h
  .cases h
structure asl(bs:List Nat)(g:Gh)(s:bu S)(w:World)(al:List ff)(g':Gh)(s':bu S):Prop where
 rel:bq g' (aI s') w
 le:nA g g'
 bx:g'.bx=g.bx
 own:∀k b,bG g' k b->bG g k b∨(s.aL<=k∧∃a∈al,a.at b)
 fl:s'.fl=s.fl
 lo:s'.lo=s.lo
 aL:s.aL<=s'.aL
 uE:∀o∈s.wr,o∈s'.wr
 wrb:∀o∈bs,o∈s'.wr
 dr:s'.dr=s.dr
 ob:∀o,o<s.aL->o∉bs->s'.ob.get o=s.ob.get o
 bV:g'.bV=g.bV
 arr:∀o,o<s.aL->∀e,g'.arr o e=g.arr o e
def sG:∀{ps:L Pk}{bs:L Nat}{r:iw S.A ps}{s s':bu S},lQ s ps bs r=Z s'->s.aL<=s'.aL
 |[],[],r,s,s',h=>by simp_all[lQ,gV,cu]
 |.one c::ps,bs,r,s,s',h=>sG (ps:=ps) (by simpa only[lQ]using h)
 |.box a::ps,o::bs,r,s,s',h=>by
  simp only[lQ]at h;have h1:=sG h
  grind[Nat.le_trans,Ek]
 |.hid a::ps,o::bs,r,s,s',h=>by
  simp only[lQ]at h;have h1:=sG h
  grind[Nat.le_trans,Ek]
 |[],_::_,_,_,_,h=>by simp[lQ]at h
 |.box _::_,[],_,_,_,h=>by simp[lQ]at h
 |.hid _::_,[],_,_,_,h=>by simp[lQ]at h
def AF{bs:L Nat}(h:PW (λo b=>g.bV o=Z b) bs bl):∀a,fD bl=Z a->∃c,fD bs=Z c∧g.bV c=Z a:=by
 intro a d
 match bl,bs,h with
 |b::bl,o::bs,h=>cases d;exact⟨o,rfl,h.2 0 _ _ rfl rfl⟩
 |[],_,_=>cases d
 |_::_,[],h=>exact absurd h.1 (by simp)
def Nu:∀{ps:L Pk}{r:iw S.A ps}{bl:L Nat}{al:L ff}{bs:L Nat}{g:Gh}{w:World}{s s2:bu S},Ei S g.bx w ps r bl al->bq g (aI s) w->PW (λo b=>g.bV o=Z b) bs bl->(∀o∈bs,∀e,g.arr o e=Y)->
  (∀a∈al,∀b,a.at b->∀o,¬bG g o b)->wY al->lQ s ps bs r=Z s2->s2.aL<=bC->∃g',asl bs g s w al g' s2:=by
 intro ps
 induction ps with
 |nil=>
  intro r bl al bs g w s s2 hb C i _ _ _ h _;cases hb;cases bs with|nil=>simp[lQ,gV]at h;subst h;exact⟨g,C,nA.refl _,rfl,λ_ _ h=>.inl h,rfl,rfl,cu _,λ_ h=>h,λo ho=>(by cases ho),rfl,λ_ _ _=>rfl,rfl,λ_ _ _=>rfl⟩|cons o bs=>exact absurd i.1 (by simp)
 |cons p ps ih=>
  intro r bl al bs g w s s2 hb C i hna hfr hap h hn;cases hb with
  |one hb=>
   grind[lQ]
  | @box v _ x r b hx bl al E hh h1 h2=>
   cases bs with
   |nil=>exact absurd i.1 (by simp)
   |cons o bs=>
    simp[lQ]at h;have y:g.bV o=Z b:=i.2 0 _ _ rfl rfl;have n:=tG.1 hap;have F:=sG h;have I:(kR s (fD bs) v x).2.aL<=bC:=gk F hn
    let ⟨g1,d,z⟩:=o5 h1 (AF (bs:=bs) (bl:=bl) ⟨by simpa using i.1,λj a c t u=>i.2 (j+1) a c (by simpa using t) (by simpa using u)⟩) C (λa ha=>hfr a (fh _ ha)) n.1 I
    have K:o<s.aL:=C.lt y;have hk:=d.rel.tS (o:=o) (b:=b) (by rw[d.bV];exact y) hh z (λe=>by rw[d.arr o K];simp_all);have P:bq g1 (aI {(kR s (fD bs) v x).2 with ob:=(kR s (fD bs) v x).2.ob.set aR o (kR s (fD bs) v x).1,wr:=o::(kR s (fD bs) v x).2.wr}) w:=by rw[fL];exact hk
    let ⟨g2,l⟩:=ih (bl:=bl) (al:=E) (bs:=bs) (g:=g1) (d.bx▸h2) P ⟨by simpa using i.1,λj a c t u=>by rw[d.bV];exact i.2 (j+1) a c (by simpa using t) (by simpa using u)⟩
     (λm f e=>by
      have:m<s.aL:=by
       obtain⟨j,hj,rfl⟩:=qI f;have hj':j<bl.length:=by have:=i.1;grind
       exact C.lt (i.2 (j+1) bs[j] bl[j] (by simp) (by simp))
      rw[d.arr m this]
      simp_all)
     (λa ha B hb' k q=>by
      obtain q|⟨_,a2,ha2,pF⟩:=d.own k B q
      .grind
      grind) n.2.1 h hn
    refine⟨g2,l.rel,d.le.trans l.le,l.bx.trans d.bx,λk B q=>?_,l.fl.trans d.fl,l.lo.trans d.lo,gk d.aL l.aL,λm f=>?_,λm f=>?_,l.dr.trans d.dr,λm A f=>?_,l.bV.trans d.bV,λm A e=>?_⟩
    .obtain q|⟨t,a,u,k3⟩:=l.own k B q
     .obtain q|⟨t,a,u,k3⟩:=d.own k B q
      .exact .inl q
      grind
     .exact .inr ⟨gk d.aL t,a,eO _ u,k3⟩
    .exact l.uE m (iB _ (by rw[d.wr];exact f))
    .obtain rfl|f:=fy.1 f
     .exact l.uE _ fA
     .exact l.wrb m f
    .have R:m≠o:=λe=>f (by simp_all);rw[l.ob m (iP A d.aL) (λhm=>f (iB _ hm))];rw[Tr.dA _ _ _ _ _ R];exact d.ob m A
    .rw[l.arr m (iP A d.aL)];exact d.arr m A e
  | @hid v _ x r b hx bl al E hh h1 h2=>
   cases bs with
   |nil=>exact absurd i.1 (by simp)
   |cons o bs=>
    simp[lQ]at h;have y:g.bV o=Z b:=i.2 0 _ _ rfl rfl;have n:=tG.1 hap;have F:=sG h;have I:(kR s (fD bs) v x).2.aL<=bC:=gk F hn
    let ⟨g1,d,z⟩:=o5 h1 (AF (bs:=bs) (bl:=bl) ⟨by simpa using i.1,λj a c t u=>i.2 (j+1) a c (by simpa using t) (by simpa using u)⟩) C (λa ha=>hfr a (fh _ ha)) n.1 I
    have K:o<s.aL:=C.lt y;have hk:=d.rel.tS (o:=o) (b:=b) (by rw[d.bV];exact y) hh z (λe=>by rw[d.arr o K];simp_all);have P:bq g1 (aI {(kR s (fD bs) v x).2 with ob:=(kR s (fD bs) v x).2.ob.set aR o (kR s (fD bs) v x).1,wr:=o::(kR s (fD bs) v x).2.wr}) w:=by rw[fL];exact hk
    let ⟨g2,l⟩:=ih (bl:=bl) (al:=E) (bs:=bs) (g:=g1) (d.bx▸h2) P ⟨by simpa using i.1,λj a c t u=>by rw[d.bV];exact i.2 (j+1) a c (by simpa using t) (by simpa using u)⟩
     (λm f e=>by
      have:m<s.aL:=by
       obtain⟨j,hj,rfl⟩:=qI f;have hj':j<bl.length:=by have:=i.1;grind
       exact C.lt (i.2 (j+1) bs[j] bl[j] (by simp) (by simp))
      rw[d.arr m this]
      simp_all)
     (λa ha B hb' k q=>by
      obtain q|⟨_,a2,ha2,pF⟩:=d.own k B q
      .grind
      grind) n.2.1 h hn
    refine⟨g2,l.rel,d.le.trans l.le,l.bx.trans d.bx,λk B q=>?_,l.fl.trans d.fl,l.lo.trans d.lo,gk d.aL l.aL,λm f=>?_,λm f=>?_,l.dr.trans d.dr,λm A f=>?_,l.bV.trans d.bV,λm A e=>?_⟩
    .obtain q|⟨t,a,u,k3⟩:=l.own k B q
     .obtain q|⟨t,a,u,k3⟩:=d.own k B q
      .exact .inl q
      grind
     .exact .inr ⟨gk d.aL t,a,eO _ u,k3⟩
    .exact l.uE m (iB _ (by rw[d.wr];exact f))
    .obtain rfl|f:=fy.1 f
     .exact l.uE _ fA
     .exact l.wrb m f
    .have R:m≠o:=λe=>f (by simp_all);rw[l.ob m (iP A d.aL) (λhm=>f (iB _ hm))];rw[Tr.dA _ _ _ _ _ R];exact d.ob m A
    .rw[l.arr m (iP A d.aL)];exact d.arr m A e
def zS{l:L (V S)}(h:PW (aP g w) (bz l) vs):aP g w (low (DM l)) (valOf vs):=by
 match l,vs,h with
 |[],[],_=>exact .gM _ _ rfl (λj t v h=>by grind)
 |[v],[x],h=>exact h.2 0 _ _ rfl rfl|v::c::l,x::d::vs,h=>exact .gM _ _ (by simpa using h.1) (λj t u a b=>h.2 j t u a (by simpa using b))
 |[],_::_,h=>exact absurd h.1 (by simp[bz])
 |_::_,[],h=>exact absurd h.1 (by simp[bz])
 |[_],_::_::_,h=>exact absurd h.1 (by simp[bz])
 |_::_::_,[_],h=>exact absurd h.1 (by simp[bz])
theorem qy.iE{I:Nat->Prop}{w:World}{ps:L Pk}{x:fX S.A ps}{vs:L Value}{al:L ff}{bl:L Nat}(h:qy S I w ps x vs al bl):∀a∈al,∀b,a.at b->¬I b:=by
 induction h with
 |nil=>simp_all|one h1 h2 e=>
  intro a c b d;obtain c|c:=dW.1 c
  .exact h1.iE a c b d
  grind
 |box f h1 h2 e=>
  intro a c b d;obtain c|c:=dW.1 c
  .exact h1.iE a c b d
  grind
 |hid f h1 h2 e=>
  intro a c b d;obtain c|c:=dW.1 c
  .exact h1.iE a c b d
  grind
def qx{α β:Type}{x:O α}{f:α->O β}{r:β}(h:ai x f=Z r):∃a,x=Z a∧f a=Z r:=by
 unfold ai at h
 grind
def qy.arN{ps:L Pk}{x:fX S.A ps}{al:L ff}(h:qy S I w ps x vs al bl):cm ps=W->al=[]∧bl=[]:=by
 induction h with
 |nil=>simp_all| @one c ps x h v vs al b bl h1 h2 d=>
  intro a;cases c with
  |own e=>simp[cm]at a|j0 n j t=>simp[cm]at a|nil e=>simp[cm]at a|ptr t=>simp[cm]at a|dat t=>
   obtain⟨rfl,rfl⟩:=d (by simpa[cm]using a);cases h1 with
   |dat _ f=>
    cases f
    simp_all
 |box=>intro a;simp[cm]at a
 |hid=>intro a;simp[cm]at a
theorem Db{s:bu S}:∀{ps:L Pk}{l:L (V S)}{b:O Nat}{x:fX S.A ps}{fz ow bs:L Nat},cm ps=W->eL s ps l b=Z (x,fz,ow,bs)->ow=[]
 |[],[],_,x,fz,ow,bs,_,h=>by
  grind[eL]
 |.one (.dat t)::ps,v::l,_,x,fz,ow,bs,a,h=>by
  simp[eL]at h;split at h
  .rename_i c d;obtain⟨_,_,rfl,_⟩:=h;rw[Db (by simpa[cm]using a) d];simp[oF]at c
   grind
  .cases h
 |.one (.j0 ..)::_,_,_,_,_,_,_,a,_=>by simp[cm]at a
 |.one (.nil _)::_,_,_,_,_,_,_,a,_=>by simp[cm]at a
 |.one (.ptr _)::_,_,_,_,_,_,_,a,_=>by simp[cm]at a
 |.one (.own _)::_,_,_,_,_,_,_,a,_=>by simp[cm]at a
 |.box _::_,_,_,_,_,_,_,a,_=>by simp[cm]at a
 |.hid _::_,_,_,_,_,_,_,a,_=>by simp[cm]at a
 |[],_::_,_,_,_,_,_,_,h=>by simp[eL]at h
 |.one _::_,[],_,_,_,_,_,_,h=>by simp[eL]at h
def xz{g:Gh}{I:Nat->Prop}{w w':World}:∀{cs:L Ck}{x:gr S.A cs}{vs:L Value}{al:L ff},kM cs=W->jL S I w cs x vs al->PW (aP g w') (bz (sV cs x)) vs
 |[],x,vs,al,_,h=>by cases h;exact⟨rfl,λj t v h=>by simp_all⟩
 |.dat t::cs,x,vs,al,a,h=>by
  cases h with
  | @dat _ _ y h v vs al b f=>
  simp[kM,eK]at a
  let ⟨i,l⟩:=xz (g:=g) (w':=w') a.2 f
  refine⟨by simp only[sV,bz,qH];rw[i],λj m o c d=>?_⟩;cases j with
  |zero=>
   simp[sV,bz,Ng,gV]at c d;subst c;subst d;have:ew g.bx w' (enc S t y) v:=by
    cases t with
    |int k=>cases b;exact .lit _
    |bool=>cases b;exact .lit _
    |str=>cases b;exact .lit _
    |sl e=>simp[E5]at a|st n=>simp[E5]at a|cT n=>simp[E5]at a
   exact pM this
  |succ j=>grind[sV,bz]
 |.own _::_,_,_,_,a,_=>by simp[kM]at a
 |.j0 ..::_,_,_,_,a,_=>by simp[kM]at a
 |.nil _::_,_,_,_,a,_=>by simp[kM]at a
 |.ptr _::_,_,_,_,a,_=>by simp[kM]at a
def tK(hS:fO S){g:Gh}{w:World}{s:bu S}(hs:bq g (aI s) w):∀{ps:L Pk}{l:L (V S)}{vals:L Value}{x:fX S.A ps}{fz:L Nat},lB s ps l=Z (x,fz)->PW (aP g w) (bz l) vals->
  (∀o∈fz,Live g (aI s) o)∧∀(q:Gh)(s1:St)(i:L Nat),bq q s1 w->Ext s.fl g w q w->ko (aI s) s1 i->(∀o∈fz,o∈i)->∃B:Nat->Prop,(∀b,B b->b<w.heap.size)∧∀I:Nat->Prop,(∀b,q.bx b∨B b->I b)->qy S I w ps x vals [] []
 |[],[],vals,x,fz,h,m=>by obtain⟨_,rfl⟩:=h;have:vals=[]:=xJ (by have:=m.1;simpa[bz]using this.symm);subst this;exact⟨λo f=>(by cases f),λ_ _ _ _ _ _ _=>⟨λ_=>False,λ_ h=>h.elim,λ_ _=>.nil⟩⟩
 |[],_::_,_,_,_,h,_=>by simp[lB]at h
 |.one c::_,[],_,_,_,h,_=>by cases c<;>simp[lB]at h
 |.box _::_,[],_,_,_,h,_=>by simp[lB]at h
 |.hid _::_,[],_,_,_,h,_=>by simp[lB]at h
 |.box _::_,_::_,_,_,_,h,_=>by simp[lB]at h
 |.hid _::_,_::_,_,_,_,h,_=>by simp[lB]at h
 |.one (.own _)::_,_::_,_,_,_,h,_=>by simp[lB]at h
 |.one (.j0 ..)::_,_::_,_,_,_,h,_=>by simp[lB]at h
 |.one (.nil _)::_,_::_,_,_,_,h,_=>by simp[lB]at h
 |.one (.dat t)::ps,v::l,[],x,fz,_,m=>absurd m.1 (by simp[bz])
 |.one (.ptr t)::ps,v::l,[],x,fz,_,m=>absurd m.1 (by simp[bz])
 |.one (.dat t)::ps,v::l,val::vals,x,fz,h,m=>by
  simp[lB]at h;split at h;rotate_left
  .cases h
  rename_i y os y2 os2 h1 h2;obtain⟨rfl,rfl⟩:=h;have z:aP g w (low v) val:=m.2 0 _ _ rfl rfl;have C:PW (aP g w) (bz l) vals:=⟨by have:=m.1;simpa[bz]using this,λj a b k1 k2=>m.2 (j+1) a b (by simpa[bz]using k1) (by simpa using k2)⟩
  let ⟨p,hd,hp⟩:=pN hS s t v h1
  let ⟨q1,q2⟩:=lP hs (low v) hd hp z
  let ⟨q3,q4⟩:=tK hS hs h2 C
  refine⟨λo f=>(dW.1 f).elim (q1 o) (q3 o),λq s1 i k A E d=>?_⟩
  let ⟨B,hB,hr⟩:=q4 q s1 i k A E (λo f=>d o (eO _ f))
  have hx:=q2 q s1 k A (E.sub λo f=>d o (fh _ f));exact⟨B,hB,λI r=>qy.one (al:=[]) (.dat (hx.le λb F=>r b (.inl F)) .nil) (hr I r)⟩
 |.one (.ptr t)::ps,v::l,val::vals,x,fz,h,m=>by
  simp[lB]at h;split at h;rotate_left
  .cases h
  rename_i y os y2 os2 h1 h2;obtain⟨rfl,rfl⟩:=h;have z:aP g w (low v) val:=m.2 0 _ _ rfl rfl;have C:PW (aP g w) (bz l) vals:=⟨by have:=m.1;simpa[bz]using this,λj a b k1 k2=>m.2 (j+1) a b (by simpa[bz]using k1) (by simpa using k2)⟩
  let ⟨q3,q4⟩:=tK hS hs h2 C
  unfold aej at h1;split at h1
  .split at h1;rotate_left
   .cases h1
   rename_i hz;obtain⟨rfl,rfl⟩:=h1;obtain⟨rfl,hz⟩:=J3 hz;cases hz;cases z with
   |nJ _ _ ad vv hi hc hd=>
   refine⟨λo f=>q3 o (by simpa using f),λq s1 i k A E d=>?_⟩
   let ⟨B,hB,hr⟩:=q4 q s1 i k A E (λo f=>d o (by simpa using f))
   exact⟨B,hB,λI r=>qy.one (al:=[]) (.ptr (r _ (.inl (A.bx _ hi))) hc (λj c u=>(hd j c u).le λb F=>r _ (.inl (A.bx _ F))) .nil) (hr I r)⟩
  .rename_i o;split at h1;rotate_left
   .cases h1
   rename_i cs f;obtain⟨hst,h1⟩|⟨_,h1⟩:=ah h1
   rotate_left
   .cases h1
   cases z with
   |ptr _ _ b F=>
   have ho':(aI s).ob.get o=Z (.box (bz cs)):=by rw[aS,f];rfl
   let ⟨vs,ty,Tz,hl,K⟩:=(hs.box o b F).box ho'
   have VG:aP g w (low (.agg cs)) (.agg vs):=by exact .agg _ _ hl K
   let ⟨p,hd,hp⟩:=pN hS s t (.agg cs) h1
   let ⟨q1,q2⟩:=lP hs _ hd hp VG
   refine⟨λo f=>(dW.1 f).elim (q1 o) (q3 o),λq s1 i k A E d=>?_⟩
   let ⟨B,hB,hr⟩:=q4 q s1 i k A E (λo f=>d o (eO _ f))
   have hx:=q2 q s1 k A (E.sub λo f=>d o (fh _ f));refine⟨λb'=>B b'∨b'=b,λb' P=>P.elim (hB b') λe=>by grind,λI r=>qy.one (al:=[]) ?_ (hr I λb' P=>r b' (P.imp id .inl))⟩;cases t with
   |st n=>
    have hx':∃l,enc S (.st n) y=.agg l:=⟨_,rfl⟩
    let ⟨l,R⟩:=hx'
    rw[R]at hx;cases hx with
    |agg _ _ e1 e2 e3=>
    have hadd:∀j,(⟨b,0,Y⟩:Addr).add j=⟨b,j,Y⟩:=λj=>by
     grind[Addr.add]
    have:=jL.ptr (S:=S) (I:=I) (w:=w) (t:=.st n) (cs:=[]) (x:=y) (h:=()) (ad:=⟨b,0,Y⟩) (val:=λj=>(vs[j]?).getD undef) (vs:=[]) (al:=[]) (r _ (.inr (.inr rfl))) (λj c u=>?_) (λj c u=>?_) .nil
    .simp_all
    .rw[R]at u;have u:l[j]?=Z c:=u
     grind[cell?_of_block]
    .rw[R]at u;have u:l[j]?=Z c:=u;have hlt:j<vs.size:=by grind
     have:=e3 j c vs[j] u (vG hlt);rw[vG hlt];exact this.le λb F=>r b (.inl F)
   |_=>cases hst
  .cases h1
def Ds(hS:fO S){P:Program}{f:FuncId}{c:me S}(VC:bH P f c)(hs:bq g (aI s) w){args:L (V S)}{vs:Array Value}(oe:PW (aP g w) (bz args) vs.toList)
  {ω:Type} {kp:V S->bu S->O ω} {k:V S->bu S->L Nat->O ω} {res:ω} (h:OD s c args kp k=Z res) :
  lN P f∧Calls P f vs w λ
   |.returned v,w'=>∃t s' g' A,k t s' A=Z res∧aP g' w' (low t) v∧cR A s g w s' g' w'|.panicked ch,w'=>∃v t s' g',ch=[{v,recovered:=J}]∧kp t s'=Z res∧aP g' w' (low t) v∧cR [] s g w s' g' w'|.outgrown,_=>False:=by
 unfold OD at h;obtain⟨_,h0⟩|⟨_,h0⟩:=ah h
 .clear h;obtain⟨hc,h1⟩|⟨_,h1⟩:=ah h0
  rotate_left
  .cases h1
  clear h0;simp only[eK]at hc;split at h1
  .cases h1
  rename_i x fz hpk;split at h1
  .cases h1
  rename_i R hfz
  let ⟨p1,p2⟩:=tK hS hs hpk oe
  let ⟨z,q,C,hfr⟩:=eI fz hs (dx hS _ hfz) p1
  let ⟨B,hB,E⟩:=p2 z (aI R) fz q C hfr (λo u=>u)
  let ⟨r0,hF,h2⟩:=qx h1
  split at h2;rotate_left
  .cases h2
  rename_i r hr;refine⟨VC.1,(VC.2 x r0 hF (λb=>z.bx b∨B b) w vs [] [] (E _ λ_ h=>h) (λb l=>l.elim (q.bx b) (hB b)) .nil .nil (λb l=>by cases l)).mono λe w' he=>?_⟩;rw[hr]at he;cases e with
  |outgrown=>exact he.elim|panicked ch=>exact he.elim|returned v=>
   obtain⟨I',vr,DC,Bc,q1,q2,q3,q4,q5,q6,q7,rfl,q8,q9,_⟩:=he;have Tz:∀b,b<w.heap.size->w'.heap[b]?=w.heap[b]?:=λb l=>q5 b l (by simp) (by simp)
   let ⟨hs',he'⟩:=hs.grow (fl:=s.fl) (I:=g.bx) (w':=w') (λ_ h=>h) (λ_ h=>.inl h) (λb l=>iP (hs.bx b l) q4) q4 Tz q6 q7
   exact⟨_,s,g,[],h2,zS (xz hc.2.1 q9),hs',he'.I8 _,rfl,rfl,cu _,λ_ h=>h,λ_ _ _=>rfl,λt v ht _=>ht.ext he' hs.bx,λo u=>(by cases u),λ_ h=>h,λo u=>(by cases u)⟩
 clear h;have h:=h0;clear h0;split at h
 .cases h
 rename_i x fz A bs hpk;split at h
 .cases h
 rename_i R hfz;obtain⟨YV,h2⟩|⟨_,h⟩:=ah h
 .let ⟨p1,_,_,p3⟩:=kB hS hs hpk oe (λo u=>by cases u)
  let ⟨z,q,C,hfr⟩:=eI fz hs (dx hS _ hfz) p1
  simp only[Yt,eK]at YV
  let ⟨f1,f2,f3,f4,f5,f6,f7⟩:=eM hfz
  let ⟨al,bl,E,_,_⟩:=p3 z (aI R) fz q C hfr (λo u=>u) (λo u=>by grind[Db])
  obtain⟨rfl,rfl⟩:=E.arN YV.1;clear h
  let ⟨r0,hF,h2⟩:=qx h2
  split at h2;rotate_left
  .cases h2
  rename_i r hr;refine⟨VC.1,(VC.2 x r0 hF z.bx w vs [] [] E q.bx .nil .nil (λb l=>by cases l)).mono λe w' he=>?_⟩;rw[hr]at he;cases e with
  |outgrown=>exact he.elim|panicked ch=>exact he.elim|returned v=>
   obtain⟨I',vr,DC,Bc,q1,q2,q3,q4,q5,q6,q7,rfl,q8,q9,_⟩:=he;have Tz:∀b,b<w.heap.size->w'.heap[b]?=w.heap[b]?:=λb l=>q5 b l (by simp) (by simp)
   let ⟨hs',he'⟩:=hs.grow (fl:=s.fl) (I:=g.bx) (w':=w') (λ_ h=>h) (λ_ h=>.inl h) (λb l=>iP (hs.bx b l) q4) q4 Tz q6 q7
   refine⟨_,s,g,[],h2,zS (xz YV.2.1 q9),hs',he'.I8 _,rfl,rfl,cu _,λ_ h=>h,λ_ _ _=>rfl,λt v ht _=>ht.ext he' hs.bx,λo u=>(by cases u),λ_ h=>h,λo u=>(by cases u)⟩
 obtain⟨l,h2⟩|⟨_,h2⟩:=ah h
 rotate_left
 .cases h2
 clear h;simp at l;have agq:=lD l.1;have aqq:=lD l.2.1;have hap:=zx l.2.2;unfold ai at h2;split at h2;rotate_left
 .cases h2
 rename_i r hF;dsimp only at h2
 let ⟨p1,p2,p4,p3⟩:=kB hS hs hpk oe (λo u=>by cases u)
 have hfl:=dx hS _ hfz
 let ⟨z,q,C,hfr⟩:=eI fz hs hfl p1
 let ⟨f1,f2,f3,f4,f5,f6,f7⟩:=eM hfz
 let ⟨al,bl,E,hal,WD⟩:=p3 z (aI R) fz q C hfr (λo u=>u) (λo u=>by rw[aS,aS,f6 o (hap o u)])
 have aeB:∀o∈bs,∃ob,R.ob.get o=Z ob∧oO ob=W:=by
  intro o u
  let ⟨_,ob',hvs,MG⟩:=p4 o u
  have hnf:o∉fz:=λhm=>by
   have:=(p1 o hm).oH (by rw[aS,hvs];rfl)
   grind[nQ]
  simp_all
 have aql:∀o∈bs,∀e,z.arr o e=Y:=by
  intro o u e
  let ⟨vs',hvs,MG⟩:=aeB o u
  cases hx:z.arr o e with
  |none=>rfl|some x'=>
   exfalso
   let ⟨_,h2⟩:=q.arr o e x' hx
   exact FA MG (h2 _ (by rw[aS,hvs];rfl))
 have hni:∀a∈al,∀b,a.at b->¬z.bx b:=E.iE;have DX:=hal.owned hni;have akz:=hal.apart q agq hni;have agF:∀b∈bl,∃o∈bs,z.bV o=Z b:=by
  intro b l;obtain⟨j,hj,rfl⟩:=qI l;have hj':j<bs.length:=by have:=WD.1;omega
  exact⟨bs[j],IA hj',WD.2 j _ _ (iZ hj') (iZ hj)⟩
 have VD:∀o∈bs,∃b∈bl,z.bV o=Z b:=by
  intro o u;obtain⟨j,hj,rfl⟩:=qI u;have hj':j<bl.length:=by have:=WD.1;omega
  exact⟨bl[j],IA hj',WD.2 j _ _ (iZ hj) (iZ hj')⟩
 have hOb:∀o b,z.bV o=Z b->bG z o b:=λo b h=>⟨(q.box o b h).1,.inl h⟩;have ac5:bl.Nodup:=by
  refine Ni.2 λi j hi hj hij heq=>?_;have hlen:=WD.1;have hi':i<bs.length:=by omega
  have hj':j<bs.length:=by omega
  have e1:=WD.2 i _ _ (iZ hi') (iZ hi);have e2:=WD.2 j _ _ (iZ hj') (iZ hj);rw[<-heq]at e2;exact(Ni.1 aqq i j hi' hj' hij) (q.kJ _ _ _ (hOb _ _ e1) (hOb _ _ e2))
 have agH:∀b∈bl,b<w.heap.size∧¬z.bx b∧∀a∈al,¬a.at b:=by
  intro b l
  let ⟨o,u,mR⟩:=agF b l
  refine⟨(q.box o b mR).2.1,(q.box o b mR).1,λa ha Gz=>?_⟩
  let ⟨o',ho',VI⟩:=DX a ha b Gz
  have:=q.kJ o o' b (hOb o b mR) VI;subst this
  let ⟨vs',hvs,MG⟩:=aeB o u
  let ⟨_,_,_,oba,aqg,hB⟩:=p2 o ho'
  rw[f6 o (hap o ho')]at hvs;rw[aqg]at hvs;cases hvs;have:=uo hB
  grind[nQ]
 have core:∀(rs:L Ck)(r:gr S.A rs×iw S.A c.ps)(s2:bu S),lQ (yw bs (forget A {R with wr:=A++R.wr,dr:=A++R.dr})) c.ps bs r.2=Z s2->(ig s2 rs r.1).2.aL<=bC->∀(v:Value)(w':World),EH S z.bx w c.ps rs r al bl v w'->
   ∃g',aP g' w' (low (DM (ig s2 rs r.1).1)) v∧cR A s g w (ig s2 rs r.1).2 g' w':=by
  clear h2;intro rs r s2 hput aqv v w' he;obtain⟨I',vr,DC,Bc,q1,q2,q3,q4,q5,q6,q7,rfl,q8,q9,q10,q11,q12⟩:=he
  let sF:bu S:=forget A {R with wr:=A++R.wr,dr:=A++R.dr}
  let sD:bu S:=yw bs sF
  let ⟨t1,t2,t3,t5,t4⟩:=VQ A {R with wr:=A++R.wr,dr:=A++R.dr}
  have agf:bq z (aI {R with wr:=A++R.wr,dr:=A++R.dr}) w:=q;have hsF:bq (z.drop A) (aI sF) w:=Ot A agf;have hbsn:∀o∈bs,o<R.aL:=λo u=>by
   let ⟨b,_,l⟩:=VD o u
   exact q.lt l
  have hnob1:R.aL<=bC:=q.aL;have akd:∀o,sD.ob.get o=if o∈bs then Y else sF.ob.get o:=λo=>Tr.nU bs _ o (λb l=>by grind)
  have hsD:bq (z.drop A) (aI sD) w:=by
   have hsub:∀o ob,(aI sD).ob.get o=Z ob->(aI sF).ob.get o=Z ob:=by
    grind[aS]
   refine⟨hsF.aL,hsF.ai,λo b h=>?_,λo e x h=>?_,hsF.bx,hsF.kJ⟩
   .let ⟨k1,k2,k3⟩:=hsF.box o b h
    exact⟨k1,k2,λob mR=>k3 ob (hsub o ob mR)⟩
   .let ⟨k1,k2⟩:=hsF.arr o e x h
    exact⟨k1,λob mR=>k2 ob (hsub o ob mR)⟩
  let X:Nat->Prop:=λb=>b∈bl∨∃a∈al,a.at b
  have Rd:∀o b,bG (z.drop A) o b->bG z o b:=λo b h=>Gh.zl h;have halno:∀a∈al,∀b,a.at b->∀o,¬bG (z.drop A) o b:=by
   intro a ha b l o F
   let ⟨o',ho',VI⟩:=DX a ha b l
   have:=q.kJ o o' b (Rd o b F) VI;subst this;obtain⟨_,h|⟨e,x',ad,h,_⟩⟩:=F
   .have h:z.bV o=Z b:=h
    let ⟨_,_,_,oba,mR,hB⟩:=p2 o ho'
    have hnb:=q.Aq (o:=o) (ob:=cU oba) ((aS R o).trans (by simp_all)) (uo hB)
    simp_all
   .exact (Gh.GZ h).1 ho'
  have hstep:bq {z.drop A with bx:=I'} (aI sD) w':=by
   refine hsD.step (X:=X) q1 (λb l=>?_) q3 q4 (λb l hX=>q5 b l (λh=>hX (.inl h)) (λa ha h=>hX (.inr ⟨a,ha,h⟩))) (λo b hX F=>?_) (λb hX=>?_)
   .obtain h|h|h:=q2 b l
    .exact .inl h
    .omega
    grind
   .obtain hX|⟨a,ha,K⟩:=hX
    .let ⟨o',ho',aqh⟩:=agF b hX
     have:=q.kJ o o' b (Rd o b F) (hOb _ _ aqh)
     simp_all[aS]
    grind
   .obtain hX|⟨a,ha,K⟩:=hX
    .exact (agH b hX).2.1
    .exact hni a ha b K
  have aew:∀o b,bG ({z.drop A with bx:=I'}:Gh) o b->bG (z.drop A) o b:=λo b h=>⟨λhi=>h.1 (q1 b hi),h.2⟩;have hfresh:∀a∈DC++Bc,∀b,a.at b->∀o,¬bG ({z.drop A with bx:=I'}:Gh) o b:=by
   intro a ha b l o F;have F:=aew o b F;obtain⟨a',ha',hb'⟩|hge:=q11 a ha b l
   .grind
   .have:=(hsD.qR F).1;omega
  have aky:=tG.1 q10;have hs3n:s2.aL<=(ig s2 rs r.1).2.aL:=nM _ _ _
  let ⟨g4,hp⟩:=Nu (g:={z.drop A with bx:=I'}) (s:=sD) q8 hstep WD (λo u e=>by
    show(if o∈A then Y else z.arr o e)=Y
    simp_all) (λa ha=>hfresh a (fh _ ha)) aky.1 hput (by omega)
  obtain⟨g5,hu,ap7⟩:=m6 (g:=g4) (by rw[hp.bx];exact q9) hp.rel (λa ha b l o F=>by
    obtain F|⟨_,a2,ha2,pF⟩:=hp.own o b F
    .grind
    grind) aky.2.1 aqv
  have hle:nA ({z.drop A with bx:=I'}:Gh) g5:=hp.le.trans hu.le;have aez:g5.bx=I':=hu.bx.trans hp.bx;have hnobD:sD.aL=R.aL:=t3;have aqk:R.aL<=(ig s2 rs r.1).2.aL:=by have:=hp.aL;omega
  have hown5:∀k b,bG g5 k b->bG g k b∨(s.fl<=k∧∃o',s.fl<=o'∧bG g o' b)∨w.heap.size<=b:=by
   intro k b F;have hnewk:∀a∈DC++Bc,a.at b->R.aL<=k->bG g k b∨(s.fl<=k∧∃o',s.fl<=o'∧bG g o' b)∨w.heap.size<=b:=by
    intro a ha K hk';obtain⟨a',ha',hb'⟩|hge:=q11 a ha b K
    .let ⟨o',ho',VI⟩:=DX a' ha' b hb'
     obtain VI|hge:=C.own o' b VI
     .grind
     omega
    omega
   obtain F|⟨h1,a,ha,K⟩:=hu.own k b F
   .obtain F|⟨h1,a,ha,K⟩:=hp.own k b F
    .obtain F|hge:=C.own k b (Rd k b (aew k b F))
     .exact .inl F
     omega
    grind
   .have:=hp.aL
    grind
  refine⟨g5,zS ap7,hu.rel,⟨λo b l=>?_,λo e y hl hy=>?_,λb l=>?_,q4,λb l hno=>?_,λo b u F=>?_,λb l=>?_,q6,q7⟩,?_,?_,?_,λo u=>?_,λo hl u=>?_,λt v ht hm=>?_,λo u=>?_,λo u=>?_,λo u=>?_⟩
  .rw[hu.bV,hp.bV];exact C.bV o b l
  .have hno:o∉A:=λhm=>by grind
   have h1:({z.drop A with bx:=I'}:Gh).arr o e=Z y:=by show(if o∈A then Y else z.arr o e)=Z y;rw[bJ hno];exact C.arr o e y hy
   exact hle.arr o e y h1
  .rw[aez];exact q1 b (C.bx b l)
  .refine q5 b l (λhm=>?_) (λa ha K=>?_)
   .let ⟨o,u,mR⟩:=agF b hm
    obtain F|hge:=C.own o b (hOb o b mR)
    .simp_all
    .omega
   .let ⟨o,u,F⟩:=DX a ha b K
    obtain F|hge:=C.own o b F
    .simp_all
    .omega
  .grind
  .rw[aez]at l;obtain h|h|⟨a,ha,K⟩:=q2 b l
   .exact C.rO b h
   .omega
   .let ⟨o,u,F⟩:=DX a ha b K
    obtain F|hge:=C.own o b F
    .grind
    omega
  .exact hu.fl.trans (hp.fl.trans (t1.trans f1))
  .exact hu.lo.trans (hp.lo.trans (t2.trans f2))
  .omega
  .rw[hu.wr];exact hp.uE o (t4 o (eO _ (f4 o u)))
  .rw[hu.wr]at u;have h1:o∉bs:=λhm=>u (hp.wrb o hm);have h2:o∉sF.wr:=λhm=>u (hp.uE o hm);have h3:o∉R.wr:=λhm=>h2 (t4 o (eO _ hm));rw[hu.ob o (by have:=hp.aL;omega),hp.ob o (by omega) h1,akd,bJ h1,Oq _ _ _ h2];exact f5 o h3
  .have h1:=ht.ext C hs.bx;have h2:=h1.drop hm;have hkp:uT (z.drop A).bx w w':=λb l=>q5 b (q.bx b l) (λhmm=>(agH b hmm).2.1 l) (λa ha K=>hni a ha b K l);have h3:aP ({z.drop A with bx:=I'}:Gh) w' t v:=by
    clear hm h1 ht
    induction h2 with|sym d v hd=>exact .sym d v (hd.mono hkp q1)|kb b=>exact .kb b|kn k n=>exact .kn k n|ptr o off b l=>exact .ptr o off b l|nJ d off ad val Tx hc hd=>exact .nJ d off ad val (q1 _ Tx) (λj c hj=>by rw[hkp.cell (by rw[l8];exact Tx)];grind) (λj c hj=>(hd j c hj).mono hkp q1)|lG o e i off len cap sz ad hx=>exact .lG o e i off len cap sz ad hx|sh o e len cap sz a hx=>exact .sh o e len cap sz a hx|emp a=>exact .emp a|kq n es a hn hd=>exact .kq n es a hn (hd.mono hkp q1)|fn f fs cs va vc hl hm _ _ ih ih'=>exact .fn f fs cs va vc hl hm ih ih'|cT t x v _ ih=>exact .cT t x v ih|agg cs vs hl _ ih=>exact .agg cs vs hl ih|gM cs vs hl _ ih=>exact .gM cs vs hl ih|gd c t v _ ih=>exact .gd c t v ih|mp o b l=>exact .mp o b l|rB o b l=>exact .rB o b l|s7 o b l=>exact .s7 o b l|ub e b h=>exact .ub e b h|rM o m r i len cap sz a hx=>exact .rM o m r i len cap sz a hx|oY j d c a hj hd=>exact .oY j d c a hj (hd.mono hkp q1)
   exact h3.le hle
  .rw[hu.wr];exact hp.uE o (t4 o (fh _ u))
  .rw[hu.dr,hp.dr];show o∈sF.dr
   grind
  .rw[hu.dr,hp.dr];show o∈sF.dr
   grind
 refine⟨VC.1,(VC.2 x r hF z.bx w vs al bl E q.bx akz ac5 agH).mono λe w' he=>?_⟩;cases e with
 |outgrown=>exact he.elim|returned v=>
  simp[xF]at he;split at he;rotate_left
  .exact he.elim
  rename_i hr';rw[hr']at h2;dsimp only at h2;split at h2
  .cases h2
  rename_i s2 hput;obtain⟨hlt,hk⟩|⟨_,hk⟩:=ah h2
  rotate_left
  .cases hk
  grind[Nat.le_of_ble_eq_true]
 |panicked ch=>
  simp[xF]at he;split at he
  .exact he.elim
  rename_i p hp;obtain⟨v,rfl,he⟩:=he;rw[hp]at h2;dsimp only at h2;split at h2
  .cases h2
  rename_i s2 hput;split at h2;rotate_left
  .cases h2
  obtain⟨hlt,hk⟩|⟨_,hk⟩:=ah h2
  rotate_left
  .cases hk
  let ⟨g5,k1,k2⟩:=core [.dat S.pt] ((p.1,()),p.2) s2 hput (g9 hlt) v w' he
  exact⟨v,_,_,g5,rfl,hk,k1,k2⟩
end
section
structure qz(s s':bu S):Prop where
 uE:∀o∈s.wr,o∈s'.wr
 same:∀o,o<s.aL->o∉s'.wr->s'.ob.get o=s.ob.get o
 dr:s'.dr=s.dr
theorem qz.refl(s:bu S):qz s s:=⟨λ_ h=>h,λ_ _ _=>rfl,rfl⟩
variable {s s':bu S}{v:V S}{c:Bool}{E:gi}
def cR.lT{g g':Gh}{w w':World}(hs:bq g (aI s) w)(h1:bq g' (aI s') w')(h2:Ext s.fl g w g' w')(h3:s'.fl=s.fl)(h4:s'.lo=s.lo)(h5:s.aL<=s'.aL)(h6:qz s s'):cR [] s g w s' g' w':=
 ⟨h1,h2.I8 _,h3,h4,h5,h6.uE,h6.same,λ_ _ b _=>b.ext h2 hs.bx,λo a=>(by cases a),λo a=>h6.dr▸a,λo a=>(by cases a)⟩
theorem cR.refl{g:Gh}{w:World}{s:bu S}(hs:bq g (aI s) w):cR [] s g w s g w:=
 cR.lT hs hs (Ext.refl _ _ _) rfl rfl (cu _) (qz.refl _)
def jt(s:bu S)(ob:ux S)(hn:s.aL<bC):qz s (dc s ob):=
 ⟨λ_ h=>h,λo a _=>by simp[dc];rw[Tr.bn _ _ _ _ hn,bJ (by omega)],rfl⟩
def lZ{os:L Nat}(h:dX s os=Z s'):qz s s':=by
 let ⟨_,_,_,h1,h2,_,h3⟩:=eM h
 exact⟨h1,λo _ a=>h2 o a,h3⟩
def tq(s:bu S)(o:Nat)(ob:ux S):qz s {s with ob:=s.ob.set aR o ob,wr:=o::s.wr}:=
 ⟨λ_ h=>iB _ h,λk _ a=>Tr.dA _ _ _ _ _ (λe=>a (by simp_all)),rfl⟩
def qz.trans'{a:bu S}(h:qz s s')(hn:s.aL<=s'.aL)(k:qz s' a):qz s a:=
 ⟨λo c=>k.uE o (h.uE o c),λo c b=>(k.same o (iP c hn) b).trans (h.same o c (λd=>b (k.uE o d))),k.dr.trans h.dr⟩
theorem Qb{i:TI}{s s':bu S}{a x v:V S}{c:Bool}(h:ET i s a x=Z (c,v,s')):qz s s':=by
 unfold ET at h;split at h
 .cases h
 .split at h
  .split at h
   .obtain ⟨_,h⟩|⟨_,h⟩:=ah h
    .obtain ⟨_,_,rfl⟩:=h;exact tq _ _ _
    .cases h
   .cases h
  .split at h
   .split at h
    .split at h
     .rename_i b;split at h
      .split at h
       .obtain ⟨_,h⟩|⟨_,h⟩:=ah h
        .obtain ⟨_,_,rfl⟩:=h;exact(lZ b).trans' (CW (eM b).2.2.1.symm) (tq _ _ _)
        .cases h
       .cases h
      .cases h
     .cases h
    .cases h
   .cases h
  .cases h
def EX{i:TI}{τ:O Ty}{x:V S}{l h m:O (V S)}(a:vC i τ s x l h m=Z (c,v,s')):s'=s∨dX s (NG x)=Z s':=by
 unfold vC at a
 repeat' split at a
 all_goals first
  |(cases a;done)
  |(
    simp only[gV,fP]at a;obtain⟨_,_,rfl⟩:=a;first|exact .inl rfl|(right;assumption))
def X2{fr:bU S}{o:Op}(h:cD E fr s o=Z (c,v,s')):qz s s':=by
 have same:s'=s->qz s s':=λe=>e▸qz.refl _;cases o with
 |alloc t=>
  simp[cD]at h;split at h
  .obtain ⟨g,h⟩|⟨_,h⟩:=ah h
   .obtain ⟨_,_,rfl⟩:=h
    simp_all[jt]
   .cases h
  .cases h
 |box t x=>
  simp[cD]at h;split at h
  .obtain ⟨g,h⟩|⟨_,h⟩:=ah h
   .simp only[fV,fP]at h;obtain⟨_,_,_,_,rfl⟩:=h
    simp_all[jt]
   .cases h
  .cases h
 |buildSlice t n i=>
  simp only[cD]at h;split at h
  .split at h
   .obtain ⟨_,h⟩|⟨_,h⟩:=ah h
    .split at h
     .simp only[fV,fP]at h;obtain⟨j,d,_,_,rfl⟩:=h;exact lZ d
     .cases h
    .cases h
   .cases h
  .cases h
 |store t x y=>
  grind[cD,Qb]
 |slice t x lo l m=>
  simp[cD]at h;split at h
  .obtain rfl|h:=EX h
   .grind
   .exact lZ h
  .cases h
 |move x=>simp only[cD,fV,fP]at h;grind|assign x=>simp only[cD,fV,fP]at h;grind|pick x y z=>
  simp[cD]at h;split at h
  .simp only[fV,fP]at h
   grind
  .cases h
 |build t i=>
  simp[cD]at h;split at h
  .split at h
   .simp only[fV,fP]at h
    grind
   .cases h
  .cases h
 |load t x=>
  simp[cD]at h;split at h
  .unfold yj at h;split at h
   .split at h
    .obtain ⟨_,h⟩|⟨_,h⟩:=ah h
     .simp only[fV,fP]at h
      grind
     .cases h
    .cases h
   .simp only[fV,fP]at h
    grind
   .split at h
    .simp at h
     grind
    .cases h
   .cases h
  .cases h
 |nilCheck x=>
  simp[cD]at h
  grind
 |binOp op t x y u=>
  simp[cD]at h;split at h
  .simp only[fV,fP]at h
   grind
  .cases h
 |unOp op t x=>
  simp[cD]at h;split at h
  .simp only[fV,fP]at h
   grind
  .cases h
 |convert t u x=>
  grind[cD,Cj]
 |makeInterface t x=>
  simp[cD]at h
  grind
 |makeFunc f a b=>
  simp[cD]at h
  grind
 |extract x k=>
  grind[cD,tY]
 |fieldAddr t x k=>
  grind[cD,ql]
 |field t x k=>
  simp[cD]at h;split at h
  .unfold BZ at h;split at h
   .split at h
    .obtain ⟨_,h⟩|⟨_,h⟩:=ah h
     .simp only[fV,fP]at h
      grind
     .cases h
    .cases h
   .cases h
  .cases h
 |indexAddr t x y=>
  simp[cD]at h;split at h
  .unfold j5 at h
   grind
  .cases h
 |index t x y=>
  simp[cD]at h;split at h
  .unfold BO at h
   grind
  .cases h
 |typeAssert x t u ok=>
  grind[cD,wD]
 |_=>simp[cD]at h
def IU{b:Builtin}{d:Array TypeId}{args:L (V S)}(h:ie E s b d args=Z (c,v,s')):qz s s':=by
 unfold ie at h;split at h
 .split at h
  .split at h
   .obtain ⟨_,_,rfl⟩:=h;exact qz.refl _
   .cases h
  .split at h
   .simp only[fV,fP]at h;obtain⟨_,_,_,_,rfl⟩:=h;exact qz.refl _
   .cases h
  .cases h
 .split at h
  .split at h
   .split at h
    .obtain ⟨_,h⟩|⟨e,h⟩:=ah h
     .cases h
     .have a:s.aL<bC:=by
       have:Nt s.aL bC=W:=by simpa using e
       exact g9 this
      split at h
      .split at h
       .obtain ⟨_,_,rfl⟩:=h;exact jt _ _ a
       .split at h
        .split at h
         .obtain ⟨_,_,rfl⟩:=h;exact jt _ _ a
         .obtain ⟨_,_,rfl⟩:=h;exact qz.refl _
        .cases h
       .split at h
        .split at h
         .obtain ⟨_,h⟩|⟨_,h⟩:=ah h
          .obtain ⟨_,_,rfl⟩:=h;exact tq _ _ _
          .cases h
         .cases h
        .cases h
       .cases h
      .cases h
    .cases h
   .cases h
  .cases h
 .cases h
end
section
section
variable {g:Gh}{w w':World}
variable {s:St}{o b c:Nat}{ob:Ob}{kt:Ty}{u z:Value}{ms:Array MapEntry}
def bq.setObj(hs:bq g s w)(n:g.bV o=Z b){ob':Ob}(l:s.ob.get o=Z ob)(p:ob.odd=W)(v:s.fl<=o){x':Obj}(C:iy g w ob' x')
  (y:w'.heap.size=w.heap.size) (c:∀d,d≠b->w'.heap[d]?=w.heap[d]?) (q:w'.heap[b]?=Z x') (z:w'.os=w.os) (r:w'.output=w.output) :
  bq g {s with ob:=s.ob.set aR o ob'} w'∧Ext s.fl g w g w':=by
 have f:bG g o b:=⟨(hs.box o b n).1,.inl n⟩;have m:o<bC:=iP (hs.lt n) hs.aL;have u:Ext s.fl g w g w':=
  ⟨λ_ _ h=>h,λ_ _ _ h=>h,λ_ h=>h,by omega,λd _ E=>c d (λe=>E o v (e▸f)),λ_ _ h=>.inl h,λ_ h=>.inl h,z,r⟩
 refine⟨⟨hs.aL,hs.ai,λj d a=>?_,λj e x A=>?_,λd a=>by have:=hs.bx d a;omega,hs.kJ⟩,u⟩
 .by_cases i:j=o
  .subst i;rw[n]at a;simp at a;subst a
   let ⟨h1,h2,_⟩:=hs.box j b n
   refine⟨h1,by omega,λF k=>⟨x',q,?_⟩⟩;rw[Tr.bn _ _ _ _ m,cn rfl]at k;obtain rfl:=jU k;exact C.ext u hs.bx
  .have B:d≠b:=λe=>i (hs.kJ j o b (e▸⟨(hs.box j d a).1,.inl a⟩) f);exact(hs.box j d a).ext u hs.bx (c d B) (by simp;rw[Tr.bn _ _ _ _ m,bJ i]) (hs.box j d a).1
 .have i:j≠o:=by
   rintro rfl
   have h4:=((hs.arr j e x A).2 _ l).oH;cases ob<;>first|(cases p;done)|(cases h4;done)
  refine(hs.arr j e x A).ext u hs.bx (λd a I=>⟨c d ?_,uZ⟩) (by simp;rw[Tr.bn _ _ _ _ m,bJ i]) rfl
  rintro rfl
  by_cases t:g.bx d
  .exact f.1 t
  .exact i (hs.kJ j o d ⟨t,.inr ⟨e,x,_,A,a,rfl,I⟩⟩ f)
def bq.anf(hs:bq g s w)(m:g.bV o=Z b)(l:s.ob.get o=Z ob)(n:ob.odd=W)(r:s.fl<=o)
  (t:w'.heap.size=w.heap.size) (c:∀d,d≠b->w'.heap[d]?=w.heap[d]?) (u:w'.os=w.os) (p:w'.output=w.output) :
  bq g {s with ob:=s.ob.del aR o} w'∧Ext s.fl g w g w':=by
 have f:bG g o b:=⟨(hs.box o b m).1,.inl m⟩;have B:o<bC:=iP (hs.lt m) hs.aL;have dm:∀k,(s.ob.del aR o).get k=if k=o then Y else s.ob.get k:=λk=>Tr.qU _ _ _ _ (by grind[aR,bC])
 have v:Ext s.fl g w g w':=
  ⟨λ_ _ h=>h,λ_ _ _ h=>h,λ_ h=>h,by omega,λd _ C=>c d (λe=>C o r (e▸f)),λ_ _ h=>.inl h,λ_ h=>.inl h,u,p⟩
 refine⟨⟨hs.aL,hs.ai,λj d a=>?_,λj e x y=>?_,λd a=>by have:=hs.bx d a;omega,hs.kJ⟩,v⟩
 .by_cases i:j=o
  .subst i;rw[m]at a;simp at a;subst a
   let ⟨h1,h2,_⟩:=hs.box j b m
   refine⟨h1,by omega,λE A=>?_⟩
   simp_all
  .have z:d≠b:=λe=>i (hs.kJ j o b (e▸⟨(hs.box j d a).1,.inl a⟩) f);exact(hs.box j d a).ext v hs.bx (c d z) (by simp;rw[dm,bJ i]) (hs.box j d a).1
 .have i:j≠o:=by
   rintro rfl
   have h4:=((hs.arr j e x y).2 _ l).oH;cases ob<;>first|(cases n;done)|(cases h4;done)
  refine(hs.arr j e x y).ext v hs.bx (λd a F=>⟨c d ?_,uZ⟩) (by simp;rw[dm,bJ i]) rfl
  rintro rfl
  by_cases q:g.bx d
  .exact f.1 q
  .exact i (hs.kJ j o d ⟨q,.inr ⟨e,x,_,y,a,rfl,F⟩⟩ f)
def ga:(kt:Ty)->den S.A kt->Value
 |.int k,n=>.int k n|.bool,b=>.bool b|.str,s=>.string (bY s)|_,_=>undef
def iU:Ty->TypeDesc->Prop
 |.int k,d=>d=.int k|.bool,d=>d=.bool|.str,d=>d=.string|_,_=>False
def tT{v:V S}{k:den S.A kt}(h:Yy kt v=Z k)(c:aP g w (low v) u):u=ga kt k:=by
 cases kt with
 |int j=>
  let ⟨p,b,a⟩:=gI (show gf j v=Z k from h)
  exact en b a c
 |bool=>
  let ⟨p,b,a⟩:=l7 (show gK v=Z k from h)
  exact jq b a c
 |str=>
  let ⟨p,b,a⟩:=kT (show vA v=Z k from h)
  exact iC b a c
 |_=>cases h
def acv{k:den S.A kt}{d:TypeDesc}(a:iU kt d)(b:aP g w (e9 S kt k) u):u=ga kt k:=by
 cases kt with
 |int j=>cases b with|sym _ _ a=>cases a;rfl
 |bool=>cases b with|sym _ _ a=>cases a;rfl
 |str=>cases b with|sym _ _ a=>cases a;rfl
 |_=>cases a
def acu{k:den S.A kt}{d:TypeDesc}(a:iU kt d):aP g w (e9 S kt k) (ga kt k):=by cases kt with|int j=>exact .sym _ _ (.lit _)|bool=>exact .sym _ _ (.lit _)|str=>exact .sym _ _ (.lit _)|_=>cases a
def MZ{d:TypeDesc}(c:iU kt d)(a b:den S.A kt):Instr.sameNow d (ga kt a) (ga kt b)=Z (Lg kt a b):=by
 cases kt with
 |int j=>cases c;simp[Instr.sameNow,ga,Lg,aa]
 |bool=>cases c;rfl
 |str=>
  cases c;have:=Bw a b
  grind[Uj,Instr.sameNow,ga,Lg]
 |_=>cases c
theorem KE{kt:Ty}{d:TypeDesc}(c:iU kt d){a b:den S.A kt}(h:Lg kt a b=W)(n:Nat):Instr.sameBits n (ga kt b) (ga kt a)=W:=by
 cases kt with
 |int j=>
  have:a=b:=by simpa[Lg,aa]using h
  subst this;cases n<;>simp[Instr.sameBits,ga]
 |bool=>
  have:a=b:=by simpa[Lg,Kn]using h
  subst this;cases n<;>simp[Instr.sameBits,ga]
 |str=>
  have:a=b:=by simpa[Lg,gG]using h
  subst this;have e:(bY a==bY a)=W:=by
   have:=Bw a a
   grind[Uj,gG]
  cases n<;>simp[Instr.sameBits,ga,e]
 |_=>cases c
def ID{A:Nat->Type}{β:Type}(kt:Ty)(k:den A kt):L (den A kt×β)->O Nat
 |[]=>Y|p::l=>bif Lg kt k p.1 then Z 0 else(ID kt k l).map Ns
def Gp{β:Type}{kt:Ty}{k:den S.A kt}:∀{l:L (den S.A kt×β)},ID kt k l=Y->(∀z,Io kt z k l=z)∧BS kt k l=J∧∀x,ni kt k x l=l++[(k,x)]
 |[],_=>⟨λ_=>rfl,rfl,λ_=>rfl⟩|p::l,h=>by
  simp[ID]at h;cases a:Lg kt k p.1 with
  |true=>simp_all|false=>
   rw[a]at h;obtain⟨h1,h2,h3⟩:=Gp (l:=l) (by simpa using h)
   grind[Io,BS,ni]
def Ay{β:Type}{kt:Ty}{k:den S.A kt}:∀{l:L (den S.A kt×β)}{j:Nat},ID kt k l=Z j->∃p,l[j]?=Z p∧Lg kt k p.1=W∧(∀z,Io kt z k l=p.2)∧BS kt k l=W∧∀x,ni kt k x l=l.set j (k,x)
 |[],j,h=>by cases h
 |p::l,j,h=>by
  simp[ID]at h;cases a:Lg kt k p.1 with
  |true=>rw[a]at h;simp at h;subst h;exact⟨p,rfl,a,λz=>by simp[Io,a],by simp[BS,a],λx=>by simp[ni,a]⟩
  |false=>
   rw[a]at h;simp only[ez,fV]at h;obtain⟨i,b,rfl⟩:=h
   let ⟨q,h1,h2,h3,h4,h5⟩:=Ay b
   exact⟨q,by simpa using h1,h2,λz=>by simp[Io,a,h3],by simp[BS,h4],λx=>by simp[ni,a,h5]⟩
def yp{β:Type}{kt:Ty}{d:TypeDesc}(b:iU kt d)(k:den S.A kt):∀(l:L (den S.A kt×β))(es:L MapEntry)(i:Nat),es.length=l.length->
  (∀(j:Nat)p m,l[j]?=Z p->es[j]?=Z m->m.key=ga kt p.1)->Instr.findNow d (ga kt k) es i=Z ((ID kt k l).bind λj=>(es[j]?).map λm=>(i+j,m.val))
 |[],[],i,_,_=>rfl|p::l,m::es,i,a,c=>by
  simp[Instr.findNow,c 0 p m rfl rfl,MZ b];cases e:Lg kt k p.1 with
  |true=>simp[ID,e]|false=>
   rw[yp b k l es (i+1) (by simpa using a) (λj f g h1 h2=>c (j+1) f g (by simpa using h1) (by simpa using h2))];simp only[ID,e,ez];cases ID kt k l with
   |none=>rfl|some j=>
    simp
    congr 1
    funext m
    rw[Nat.add_assoc,Nat.add_comm 1 j]
 |[],_::_,_,a,_=>by simp at a
 |_::_,[],_,a,_=>by simp at a
variable {P:Program}
def Iy{d:TypeDesc}(a:iU kt d){t:TypeId}(c:P.underlying t=Z d)(b:Bool)(n:Nat)(v:Value)(w:World):(Instr.checkKey b (n+1) t v).run P w=.ok () w:=by
 cases kt with
 |int j=>cases a;simp_all[Instr.checkKey,aU]
 |bool=>cases a;simp_all[Instr.checkKey,aU]
 |str=>cases a;simp_all[Instr.checkKey,aU]
 |_=>cases a
def run_checkKey{d:TypeDesc}(a:iU kt d){t:TypeId}(c:P.underlying t=Z d)(b:Bool)(v:Value)(w:World):(Instr.checkKey b 10000 t v).run P w=.ok () w:=
 Iy a c b 9999 v w
def run_findKey{β:Type}{d:TypeDesc}(a:iU kt d){t:TypeId}(c:P.underlying t=Z d)(k:den S.A kt){l:L (den S.A kt×β)}{es:L MapEntry}(hl:es.length=l.length)
  (b:∀(j:Nat)p m,l[j]?=Z p->es[j]?=Z m->m.key=ga kt p.1) (w:World) :
  (Instr.findKey t (ga kt k) es).run P w=.ok ((ID kt k l).bind λj=>(es[j]?).map λm=>(j,m.val)) w:=by
 have:=yp a k l es 0 hl b
 simp_all[Instr.findKey,aU]
def tA(h:w.heap[b]?=Z (.map ms c)):(getObj b).run P w=.ok (.map ms c) w:=by simp[getObj,Sem.run,h]
def E7(o:Obj)(h:w.heap[b]?=Z (.map ms c)):(setObj b o).run P w=.ok () {w with heap:=w.heap.setIfInBounds b o}:=by simp[setObj,Sem.run,h]
def E9{β:Type}{d:TypeDesc}(f:iU kt d){t a e:TypeId}{g:TypeInfo}(r:P.underlying t=Z (.map a e))(i:P.underlying a=Z d)(n:P.info? e=Z g)(o:g.zero=Z z)
  (k:den S.A kt) {l:L (den S.A kt×β)} {b c:Nat} {ms:Array MapEntry} (h:w.heap[b]?=Z (.map ms c)) (hl:l.length=ms.size) (s:∀(j:Nat)p m,l[j]?=Z p->ms[j]?=Z m->m.key=ga kt p.1) (ok:Bool) :
  (Instr.lookup t (.map (Z b)) (ga kt k) ok).run P w=.ok (match(ID kt k l).bind λj=>(ms[j]?).map (·.val)with
   |some v=>if ok then .tuple #[v,.bool W]else v|none=>if ok then .tuple #[z,.bool J]else z) w:=by
 have u:=run_findKey (P:=P) f i k (l:=l) (es:=ms.toList) (by grind) (λj p m h1 h2=>s j p m h1 (by simpa using h2)) w;simp only[Instr.lookup,run_bind,aU r,andThen_ok,tA h,run_checkKey f i,u,run_pure];cases x:ID kt k l with
 |none=>simp[eA n o]|some j=>
  cases q:ms[j]? with|none=>simp[q,eA n o]|some m=>simp[q]
def E8{d:TypeDesc}(b:iU kt d){t a e:TypeId}{c:TypeInfo}(g:P.underlying t=Z (.map a e))(f:P.underlying a=Z d)(h:P.info? e=Z c)(i:c.zero=Z z)
  (k:den S.A kt) (ok:Bool):(Instr.lookup t (.map Y) (ga kt k) ok).run P w=.ok (if ok then .tuple #[z,.bool J]else z) w:=by
 have n:=run_findKey (P:=P) (β:=U) b f k (l:=[]) (es:=[]) rfl (λj p m h1=>by simp at h1) w;simp only[Instr.lookup,run_bind,aU g,andThen_ok,run_checkKey b f,run_pure]
 simp_all[eA]
end
end
section
section
variable {g:Gh}{w w':World}{P:Program}
def Pq{β:Type}(kt:Ty)(R:β->Value->Prop)(l:L (den S.A kt×β))(ms:Array MapEntry):Prop:=
 l.length=ms.size∧∀(j:Nat)p m,l[j]?=Z p->ms[j]?=Z m->m.key=ga kt p.1∧R p.2 m.val
variable {kt kt':Ty}{ms:Array MapEntry}
def ya{β:Type}{R:β->Value->Prop}{d:TypeDesc}(r:iU kt d){t a e:TypeId}(z:P.underlying t=Z (.map a e))(s:P.underlying a=Z d)
  (k:den S.A kt) {l:L (den S.A kt×β)} {b c:Nat} {ms:Array MapEntry} (h:w.heap[b]?=Z (.map ms c)) (C:Pq kt R l ms) {x:β} {v:Value} (hx:R x v) :
  ∃g E,(Instr.mapUpdate t (.map (Z b)) (ga kt k) v).run P w=.ok () {w with heap:=w.heap.setIfInBounds b (.map g E)}∧Pq kt R (ni kt k x l) g:=by
 let ⟨hl,F⟩:=C
 have A:=run_findKey (P:=P) r s k (l:=l) (es:=ms.toList) (by grind) (λj p m h1 h2=>(F j p m h1 (by simpa using h2)).1) w;cases f:ID kt k l with
 |none=>
  let ⟨_,_,o⟩:=Gp f
  rw[f]at A;refine⟨ms.push {key:=ga kt k,val:=v,born:=c},c+1,?_,by simp_all,λj p m h1 h2=>?_⟩
  .simp[Instr.mapUpdate,run_bind,aU z,andThen_ok,tA h,run_checkKey r s,A,Option.bind_none,E7 _ h]
  grind
 |some i=>
  let ⟨p,hp,I,_,_,o⟩:=Ay f
  have K:i<ms.size:=by grind
  obtain⟨m,hm⟩:∃m,ms[i]?=Z m:=⟨ms[i],vG K⟩;have u:(Instr.findKey a (ga kt k) ms.toList).run P w=.ok (Z (i,m.val)) w:=by
   simp_all
  refine⟨ms.modify i λe=>{e with key:=ga kt k,val:=v},c,?_,by simp_all,λj q n h1 h2=>?_⟩
  .have hsb:Instr.sameBits 10000 m.key (ga kt k)=W:=by grind[KE]
   have y:(Instr.keyThatStays m.key (ga kt k)).run P w=.ok (ga kt k) w:=by
    simp_all[Instr.keyThatStays]
   simp[Instr.mapUpdate,run_bind,aU z,andThen_ok,tA h,run_checkKey r s,u,hm,jB,Jo,y,E7 _ h]
  grind
def iy.SM{β:Type}{d:TypeDesc}(a:iU kt d){f:β->T}{l:L (den S.A kt×β)}{x:Obj}(h:iy g w (.map (l.map λp=>(e9 S kt p.1,f p.2))) x) :
  ∃ms c,x=.map ms c∧Pq kt (λy v=>aP g w (f y) v) l ms:=by
 cases h with|map _ ms c b e=>refine⟨ms,c,rfl,by simpa using b,λj p m h1 h2=>?_⟩;have:=e j (e9 S kt p.1,f p.2) m (by simp[h1]) h2;exact⟨acv a this.1,this.2⟩
def Pq.ob{β:Type}{d:TypeDesc}(a:iU kt d){f:β->T}{l:L (den S.A kt×β)}(h:Pq kt (λy v=>aP g w (f y) v) l ms)(c:Nat):iy g w (.map (l.map λp=>(e9 S kt p.1,f p.2))) (.map ms c):=by
 refine .map _ ms c (by simpa using h.1) λj t m h1 h2=>?_;simp only[kN,fV]at h1;obtain⟨p,b,rfl⟩:=h1
 let ⟨h3,h4⟩:=h.2 j p m b h2
 rw[h3];exact⟨acu a,h4⟩
def RM(S:Sg)(i:TI)(τ:Ty):Prop:=bif j4 τ then D.agg i.zero=enc S τ (S.zero τ)else i.zero=[enc S τ (S.zero τ)]
def I4{I:Nat->Prop}(s:fO S){t:TypeId}{i:TI}(u:n4 P t i){τ:Ty}(d:yE S i τ)(f:RM S i τ){x:TypeInfo}{z:Value}(y:P.info? t=Z x)(g:x.zero=Z z):ew I w (enc S τ (S.zero τ)) z:=by
 let ⟨C,d0,E,h,F,_,B,l,a,_⟩:=u.all
 rw[y]at h;cases h;rw[g]at l;cases l
 let ⟨p,q⟩:=u.zag x z y g
 unfold RM at f;cases b:j4 τ with
 |true=>
  rw[b,eP]at f;have m:i.agg=W:=by cases τ with|st n=>exact d.1|_=>cases b
  obtain⟨K,rfl⟩:=p m;rw[<-f];refine .agg _ _ a.1 (λc A=>?_) (λj c v h1 h2=>Br (a.2 j c v h1 h2));cases τ with
  |st n=>
   have e:i.zero=S.cells n (S.zero (.st n)):=by have:D.agg i.zero=D.agg (S.cells n (S.zero (.st n))):=f;injection this
   rw[e,s.cells]at A;exact ic _ _ (s.leaf n) c A
  |_=>cases b
 |false=>
  rw[b,ez]at f;have o:i.agg=J:=by
   cases τ with
   |st n=>cases b
   |sl e=>exact d.2.1|int k=>exact d.2.1|bool=>exact d.2.1|str=>exact d.2.1|cT n=>exact d.2.1
  have r:=q o;have:=a.2 0 _ z (by rw[f];rfl) (by rw[r];rfl);exact Br this
structure XOk(S:Sg)(E:gi):Prop where
 zr:∀t i τ,E.E.ti t=Z i->E.ty t=Z τ->RM S i τ
 mt:∀t m,E.mt t=Z m->∃kid d,E.E.P.underlying t=Z (.map kid m.el)∧E.E.P.underlying kid=Z d∧iU m.kt d∧(∃x z,E.E.P.info? m.el=Z x∧x.zero=Z z)∧
  ∀vt,m.vt=Z vt->E.ty m.el=Z vt∧∃i,E.E.ti m.el=Z i
 KX:∀t nm f,E.KX t nm=Z f->∃x mm d,E.E.P.info? t=Z x∧x.methods.find? (·.name==nm)=Z mm∧mm.path=#[]∧E.E.P.underlying t=Z d∧
  ((mm.func=Z (f,J)∧∀e,d≠.pointer e)∨(mm.func=Z (f,W)∧∃e,d=.pointer e))
def dg{fr:bU S}{a:Act}(hf:cL g (bB fr) a w){x:Operand}{v:V S}(h:cA fr x=Z v):aP g w (low v) (a.eval x):=bQ hf (cr h)
def OT{b a:Ty}{l:L (den S.A kt×den S.A b)}{c:L (den S.A kt'×den S.A a)}(h:Dz kt b kt' a l=Z c):kt=kt'∧b=a∧HEq l c:=by
 unfold Dz at h
 grind
def OU{β:Type}{l:L (den S.A kt×β)}{a:L (den S.A kt'×β)}(h:OV kt kt' l=Z a):kt=kt'∧HEq l a:=by
 unfold OV at h
 grind
def KB{w:World}{b:Nat}(x:Obj)(c:b<w.heap.size):({w with heap:=w.heap.setIfInBounds b x}:World).heap.size=w.heap.size∧(∀a,a≠b->({w with heap:=w.heap.setIfInBounds b x}:World).heap[a]?=w.heap[a]?)∧
  ({w with heap:=w.heap.setIfInBounds b x}:World).heap[b]?=Z x:=by
 grind
def QS{β:Type}{f:β->T}{k:den S.A kt}{l:L (den S.A kt×β)}(b:Pq kt (λy v=>aP g w (f y) v) l ms){z:β}{c:Value}(h:aP g w (f z) c) :
  aP g w (f (Io kt z k l)) (((ID kt k l).bind λj=>(ms[j]?).map (·.val)).getD c)∧(((ID kt k l).bind λj=>(ms[j]?).map (·.val)).isSome=BS kt k l):=by
 cases a:ID kt k l with
 |none=>
  let ⟨h1,h2,_⟩:=Gp a
  rw[h1,h2];exact⟨h,rfl⟩
 |some j=>
  let ⟨p,d,_,h1,h2,_⟩:=Ay a
  rw[h1,h2];have i:j<ms.size:=by rw[<-b.1];exact cq d
  have e:ms[j]?=Z ms[j]:=vG i;simp[SX,e,jB,Jo,Option.isSome_some,and_true];exact(b.2 j p _ d e).2
end
end
section
def Ce:∀(l:L (TypeId×Ty))(x:xN S.A l),isNil l x=(ud S l x).isNone
 |[],_=>rfl|_::_,.inl _=>rfl|_::l,.inr y=>Ce l y
def GV:∀(l:L (TypeId×Ty))(t:TypeId)(j:Nat)(x:xN S.A l)(z:(t:Ty)->den S.A t),Pa l=W->wG l t=Z j->
  (jD l j x=W∧ud S l x=Z (t,enc S (mU l j) (j8 z l j x)))∨(jD l j x=J∧j8 z l j x=z (mU l j)∧∀d,ud S l x≠Z (t,d))
 |[],t,j,x,z,_,h=>by cases h
 |p::l,t,j,x,z,e,h=>by
  simp only[Pa,eK]at e;obtain⟨a,h⟩|⟨a,h⟩:=ah h
  .simp at h;subst h;have b:=xI a;cases x with
   |inl y=>left;exact⟨rfl,by simp only[ud,b];rfl⟩
   |inr y=>
    right
    refine⟨rfl,rfl,λd f=>?_⟩;simp[ud]at f;have c:wG l p.1=Y:=by
     simp_all
    exact Cd l y p.1 c d (by grind)
  .split at h
   .rename_i i k;simp only[gV]at h;subst h;cases x with
    |inl y=>
     right
     refine⟨rfl,rfl,λd f=>?_⟩
     grind[ud]
    |inr y=>
     obtain⟨h1,h2⟩|⟨h1,h2,h3⟩:=GV l t i y z e.2 k
     .exact .inl ⟨h1,h2⟩
     .exact .inr ⟨h1,h2,h3⟩
   .cases h
where
 Cd:∀(l:L (TypeId×Ty))(x:xN S.A l)(t:TypeId),wG l t=Y->∀d,ud S l x≠Z (t,d)
  |[],_,_,_,_,h=>by cases h
  |p::l,.inl y,t,g,d,h=>by
   simp_all[wG,ud]
  |p::l,.inr y,t,g,d,h=>by
   simp only[wG]at g;cases a:Nq p.1 t with
   |true=>simp_all|false=>
    refine Cd l y t ?_ d h
    grind
section
variable {g:Gh}{w:World}{P:Program}
def Ey(e:fO S){n:Nat}{x:S.A n}{v:Value}(h:aP g w (e9 S (.cT n) x) v) :
  (ud S (S.alts n) (S.tV n x)=Y∧v=.nilIface)∨∃t d u,ud S (S.alts n) (S.tV n x)=Z (t,d)∧v=.iface t u∧ew g.bx w d u:=by
 have b:aP g w (.sym (PM (S.qT n x))) v:=h;rw[e.qT]at b;cases b with
 |sym _ _ a=>
  cases c:ud S (S.alts n) (S.tV n x)with
  |none=>
   rw[c]at a;cases a
   simp_all
  |some p=>
   rw[c]at a
   let ⟨t,d⟩:=p
   cases a with|cT _ _ u f=>grind
variable {s:bu S}
def KZ(hs:bq g (aI s) w)(hn:s.aL<bC){t:TypeId}{r:O Value}{a el:TypeId}(f:P.underlying t=Z (.map a el))(d:∀v,r=Z v->∃k n,v=.int k n){ob:ux S}(b:cU ob=.map []) :
  ∃v w' g',(Instr.makeMap t r).run P w=.ok v w'∧aP g' w' (low (.mp s.aL:V S)) v∧cR [] s g w (dc s ob) g' w':=by
 let ⟨c,e⟩:=hs.newObj (ob0:=.map []) (x0:=.map #[] 0) hn (.map [] #[] 0 rfl (λj t m h=>by simp at h))
 refine⟨.map (Z w.heap.size),_,_,?_,.mp _ _ (by simp[Gh.dJ,aI]),cR.lT hs (by rw[gS,b];exact c) e rfl rfl (CV _) (jt s ob hn)⟩;cases r with
 |none=>rfl|some v=>
  obtain⟨k,n,rfl⟩:=d v rfl
  simp_all[Instr.makeMap,aU,asInt,asIntOf]
def Qq(hs:bq g (aI s) w)(hn:s.aL<bC){t:TypeId}(c:P.underlying t=Z .string)(b:L UInt8) :
  ∃v w' g',(Instr.range t (.string (bY b))).run P w=.ok v w'∧aP g' w' (low (.s7 s.aL:V S)) v∧cR [] s g w (dc s (.qE b 0)) g' w':=by
 let ⟨a,d⟩:=hs.newObj (ob0:=.qE (bY b) 0) (x0:=.stringIter (bY b) 0) hn (.qE _ _)
 refine⟨.pointer (Z ⟨w.heap.size,0,Y⟩),_,_,?_,.s7 _ _ (by simp[Gh.dJ,aI]),cR.lT hs (by rw[gS];exact a) d rfl rfl (CV _) (jt s _ hn)⟩;simp[Instr.range,aU c]
def Gb(hS:fO S)(hs:bq g (aI s) w)(hn:s.aL<bC){t:TypeId}{i:TI}(hi:n4 P t i){e:Ty}(hr:yE S i (.sl e)){n:Int}(q:mkN n=W)(k1 k2:IntKind) :
  ∃v w' g',(Instr.makeSlice t (.int k1 n) (.int k2 n)).run P w=.ok v w'∧aP g' w' (low (.sh s.aL 0:V S)) v∧cR [] s g w (dc s (.arr e (List.replicate (ak n) (S.zero e)) 0)) g' w':=by
 let ⟨⟨z,r,hz⟩,_,_,u⟩:=hr
 let ⟨xi,d1,z1,PN,y,_,Zj,hzx,BQ,hk⟩:=hi.all
 rw[r]at hk;obtain⟨el,j,d',p,rfl,hj,l,hju,agO,A,f,B,hj0,hjb1,hjb2,hjb3,C⟩:=hk;simp[mkN,eK,nP]at q;obtain⟨m,rfl⟩:∃m:Nat,n=(m:Int):=⟨n.toNat,by omega⟩;have hm:m<=17179869184:=by omega
 have hbm:j.bytes*m<=4096*17179869184:=Nk B hm;have o:=run_make (P:=P) w t el j p y hj A k1 k2 (m:Int) (m:Int) (by omega) (Int.le_refl _) (by
  have:((j.bytes*m:Nat):Int)<=281474976710656:=by omega
  rwa [Int.natCast_mul]at this) (by omega)
 have E:(bif j4 e then D.agg z else z.getD 0 default)=enc S e (S.zero e):=by
  grind
 have a:=MJ (I:=g.bx) (w:=w.alloc (.cells (madeCells p.cells (m*j.size)) el)) (ag:=j4 e) (sz:=S.width e) (len:=m) f (by
  cases hst:j4 e with
  |true=>rfl|false=>
   simp_all) (by rw[bR];exact C)
 rw[E]at a;have F:(List.replicate m (S.zero e)).map (enc S e)=List.replicate m (enc S e (S.zero e)):=by simp
 let x:ff:=⟨Z ⟨w.heap.size,0,Y⟩,m,m,S.width e⟩
 have K:∀b,x.at b->b=w.heap.size:=by
  rintro b ⟨ad,h1,h2,_⟩
  grind
 have k:¬g.bx w.heap.size:=λh=>by have:=hs.bx _ h;omega
 let ⟨R,he⟩:=bq.QI (w':=w.alloc (.cells (madeCells p.cells (m*j.size)) el)) hs hn (sz:=S.width e) (es:=List.replicate m (enc S e (S.zero e))) (x:=x) rfl rfl (by simp) (λb hb=>pL w _ b hb)
  (λb hb=>by rw[K b hb];simp)
  ⟨by simp[x],cu _,a.rows,u,λd hd=>by
    have hde:=XM hd;rw[hde,Cc hS,List.length_replicate];have:m*zu S e<=17179869184*(2*4096):=Nk hm (by omega);omega,λh=>by
    have:m=0:=by
     simp_all
    exact this,λhc=>by
    refine⟨w.heap.size,madeCells p.cells (m*j.size),el,rfl,⟨λh=>(by cases h),λh=>absurd h k⟩,xB w _,by rw[size_madeCells,l];grind,λi d jj c h1 h2=>?_⟩
    let ⟨v,h3,h4⟩:=a.rel i jj d c h1 h2
    refine⟨v,?_,h4⟩;rw[<-l]at h3 ⊢;exact h3⟩ rfl
 refine⟨_,_,_,o,.sh _ _ _ _ (S.width e) _ (Gh.fS _ _ _ _),cR.lT hs ?_ he rfl rfl (CV _) (jt s _ hn)⟩;rw[gS];simp[cU,ak,Fl,F];exact R
end
end
section
section
variable {g:Gh}{w:World}
variable {o:Nat}{v:Value}{P:Program}{i:TI}{s s':bu S}{E:gi}{fr:bU S}{a:Act}{c:Bool}{t:V S}
def aP.Ll(h:aP g w (.mp o) v):∃b,v=.map (Z b)∧g.bV o=Z b:=by cases h;simp_all
def aP.acJ(h:aP g w (.s7 o) v):∃b,v=.pointer (Z ⟨b,0,Y⟩)∧g.bV o=Z b:=by cases h;simp_all
def aP.af4{k:IntKind}{n:Int}(h:aP g w (.kn k n) v):v=.int k n:=by cases h;rfl
def aP.Lm{u:Value}(h:aP g w (.sym (.lit u)) v):v=u:=by cases h with|sym _ _ a=>cases a;rfl
def aP.Tn{cs:L T}(h:aP g w (.agg cs) v):∃vs,v=.agg vs∧PW (aP g w) cs vs.toList:=by cases h with|agg _ vs a b=>exact⟨vs,rfl,by simpa using a,λj t v h1 h2=>b j t v h1 (by simpa using h2)⟩
def Jc(P:Program)(d:Nat){ty:TypeId}{a:Array (String×TypeId)}(b:P.underlying ty=Z (.interface a)):(Op.equalIn (d+1) ty .nilIface .nilIface).run P w=.ok W w:=by simp only[Op.equalIn,run_bind,aU b,andThen_ok];rfl
def UF(P:Program)(d:Nat){ty e:TypeId}(b:P.underlying ty=Z (.slice e))(a:O Addr)(n m:Nat):(Op.equalIn (d+1) ty (.slice a n m) (.slice Y 0 0)).run P w=.ok a.isNone w:=by simp only[Op.equalIn,run_bind,aU b,andThen_ok];cases a<;>rfl
def Ts(f:fO S){t:TypeId}(j:n4 P t i)(k:i.kd=.iface){n:Nat}{x:S.A n}(h:aP g w (e9 S (.cT n) x) v)(a:Operand) :
  ((do eqGuard .eql t a (.const .nilIface) v .nilIface;binOp .eql t v .nilIface:Sem Value)).run P w=.ok (.bool (isNil (S.alts n) (S.tV n x))) w∧
  ((do eqGuard .neq t a (.const .nilIface) v .nilIface;binOp .neq t v .nilIface:Sem Value)).run P w=.ok (.bool (!(isNil (S.alts n) (S.tV n x)))) w:=by
 let ⟨_,d0,_,_,e,_,_,_,_,b⟩:=j.all
 rw[k]at b;obtain⟨m,rfl⟩:=b;rw[Ce];obtain⟨c,rfl⟩|⟨l,d,u,c,rfl,_⟩:=Ey f h
 .rw[c];refine oM a (.const .nilIface) rfl rfl (λop=>?_) (Jc P 9999 e);unfold eqGuard;cases op<;>cases a<;>rfl
 .rw[c];refine oM a (.const .nilIface) rfl rfl (λop=>?_) (Jd 9999 e l u);unfold eqGuard;cases op<;>rfl
def Tg{t:TypeId}(c:n4 P t i)(d:i.kd=.iface)(h:aP g w (.sym (.lit .nilIface)) v)(b:Operand) :
  ((do eqGuard .eql t b (.const .nilIface) v .nilIface;binOp .eql t v .nilIface:Sem Value)).run P w=.ok (.bool W) w∧
  ((do eqGuard .neq t b (.const .nilIface) v .nilIface;binOp .neq t v .nilIface:Sem Value)).run P w=.ok (.bool J) w:=by
 let ⟨_,d0,_,_,e,_,_,_,_,a⟩:=c.all
 rw[d]at a;obtain⟨f,rfl⟩:=a;cases h with
 |sym _ _ h=>
 cases h;refine oM b (.const .nilIface) rfl rfl (λop=>?_) (Jc P 9999 e);unfold eqGuard;cases op<;>cases b<;>rfl
def afm{t:TypeId}(d:n4 P t i){sz sj:Nat}{ag:Bool}{z:L D}(e:i.kd=.slice sz ag sj z)(a:O Addr)(n m:Nat)(c:Operand) :
  ((do eqGuard .eql t c (.const (.slice Y 0 0)) (.slice a n m) (.slice Y 0 0);binOp .eql t (.slice a n m) (.slice Y 0 0):Sem Value)).run P w=.ok (.bool a.isNone) w:=by
 let ⟨_,d0,_,_,f,_,_,_,_,b⟩:=d.all
 rw[e]at b;obtain⟨el,j,g,h,rfl,_⟩:=b;refine(oM c (.const (.slice Y 0 0)) rfl rfl (λop=>?_) (UF P 9999 f a n m)).1;unfold eqGuard;cases op<;>rfl
def afn(hs:bq g (aI s) w){e:Ty}{x:V S}{l:L (den S.A e)}(h:Ky s e x=Z l)(q:aP g w (low x) v):∃a n m,v=.slice a n m∧(a.isNone=W->isE l=W):=by
 unfold Ky at h;split at h
 .simp only[gV]at h;subst h;cases q with|emp a=>exact⟨a,0,0,rfl,λ_=>rfl⟩
 .rename_i t C;obtain⟨rfl,i⟩:=fG h;cases i;cases q with
  |kq n R a hn A=>
   refine⟨a,_,_,rfl,λE=>?_⟩;cases A with
   |sl _ _ _ sz val u F I hA K=>
   cases C with
   |nil=>rfl|cons y C=>
    simp_all
 .let ⟨f,i⟩:=fG h
  cases f;cases i;cases q with
  |oY j d c a hj A=>
   refine⟨a,_,_,rfl,λE=>?_⟩
   grind[xy]
 .rename_i t x'
  let ⟨f,i⟩:=fG h
  subst f;cases i;cases q with
  |sym _ _ A=>
   cases A with
   |sl _ a cap sz val u F I hA K=>
   refine⟨a,_,_,rfl,λE=>?_⟩;cases x' with
   |nil=>rfl|cons y C=>
    simp_all
 .rename_i o r;have key:∀(B:Bool)(t:Ty)(k:L (den S.A t))(era:Nat),s.ob.get o=Z (if B then .kS t k era else .arr t k era)->(bif Nq r era then n3 t e k else Y)=Z l->∃a n m,v=.slice a n m∧(a.isNone=W->isE l=W):=by
   intro B t k era ho h;obtain⟨hb,h⟩|⟨_,h⟩:=ah h
   .let ⟨f,i⟩:=fG h
    subst f;cases i;have P:=beq_iff'.1 hb;subst P;cases q with
    |sh _ _ len cap sz a hx=>
     have z:(aI s).ob.get o=Z (fT B (S.width t) (k.map (enc S t)) r):=by rw[aS,ho];cases B<;>rfl
     let ⟨p,_⟩:=hs.oq z hx
     refine⟨a,len,cap,rfl,λE=>?_⟩;cases k with
     |nil=>rfl|cons y k=>
      have h1:=p.len;have h2:=p.cap;have K:(⟨a,len,cap,sz⟩:ff).cap≠0:=by grind
      let ⟨b,vs,ty,h3,_⟩:=p.mem K
      simp_all
   .cases h
  split at h
  .simp_all
  .simp_all
  .cases h
 .cases h
def Jz(hX:XOk S E)(hS:fO S)(hf:cL g (bB fr) a w)(hs:bq g (aI s) w)(o:Oper){ty:TypeId}{x ix y:Operand}(A:o.op=.mapUpdate ty x ix y∨o.op=.insert ty x ix y)
  (h:(match E.mt ty,cA fr x,cA fr ix,cA fr y with
  |some m,Z (.mp o),Z k,Z y=>match Yy m.kt k,s.ob.get o with
   |some k,Z (.map kt q l)=>match Dz kt q m.kt q l,bW s q y with
    |some l,Z (y,os)=>match dX s os with
     |some s1=>bif Nl s.fl o&&abx m.vt q then Z (W,(ej:V S),{s1 with ob:=s1.ob.set aR o (.map m.kt q (ni m.kt k y l)),wr:=o::s1.wr})else Y
     |none=>Y
    |_,_=>Y
   |some k,Z (.Im kt l)=>match OV kt m.kt l with
    |some l=>bif Nl s.fl o then Z (W,ej,{s with ob:=s.ob.set aR o (.Im m.kt (ni m.kt k y l)),wr:=o::s.wr})else Y
    |none=>Y
   |_,_=>Y
  |_,_,_,_=>Y)=Z (c,t,s')) :
  ∃v w' g',((execOp a.eval o).run E.E.P w=.ok (.value v) w'∨((execOp a.eval o).run E.E.P w=.ok .skip w'∧v=undef))∧aP g' w' (low t) v∧cR [] s g w s' g' w':=by
 split at h;rotate_left
 .cases h
 rename_i m e kv yv hm hx hk hy
 let ⟨kid,d,ht,hu,n,_,_⟩:=hX.mt _ _ hm
 let ⟨b,hxe,hb⟩:=aP.Ll (dg hf hx)
 have j:∀w',(Instr.mapUpdate ty (a.eval x) (a.eval ix) (a.eval y)).run E.E.P w=.ok () w'->(execOp a.eval o).run E.E.P w=.ok .skip w':=by intro w' hr;obtain A|A:=A<;>simp[execOp,A,hr]
 split at h
 .rename_i k kt q l r B;have hke:=tT r (dg hf hk);split at h;rotate_left
  .cases h
  rename_i l' y' os hcm Oc;obtain⟨rfl,_,K⟩:=OT hcm;cases K;split at h;rotate_left
  .cases h
  rename_i s1 R;obtain⟨C,h9⟩|⟨_,h9⟩:=ah h
  rotate_left
  .cases h9
  clear h;obtain⟨_,rfl,rfl⟩:=h9;rw[eK]at C;have hfl:s.fl<=e:=g9 C.1
  let ⟨p,hp,hpp⟩:=pN hS s q yv Oc
  let ⟨u,hd⟩:=lP hs _ hp hpp (dg hf hy)
  let ⟨g1,F,he1,hfr⟩:=eI os hs (dx hS _ R) u
  have hyd:=hd g1 _ F he1 hfr
  let ⟨f1,f2,f3,f4,f5,f6,f7⟩:=eM R
  have hno:e∉os:=λhmem=>by have:=(u e hmem).oH (by rw[aS,B];rfl);cases this
  have i:(aI s1).ob.get e=Z (cU (.map m.kt q l')):=by rw[aS,f6 e hno,B];rfl
  have DV:g1.bV e=Z b:=he1.bV _ _ hb
  let ⟨x0,hh,hor⟩:=(F.box e b DV).2.2 _ i
  obtain⟨ms,cl,rfl,hmr⟩:=iy.SM n (f:=e9 S q) hor
  let ⟨ms',c',I,z⟩:=ya (P:=E.E.P) n ht hu k hh hmr (x:=y') (yR hyd)
  have hlt:=(F.box e b DV).2.1
  let ⟨q1,q2,q3⟩:=KB (.map ms' c') hlt
  let ⟨hs2,YZ⟩:=F.setObj DV i rfl (by show s1.fl<=e;omega) (ob':=cU (.map m.kt q (ni m.kt k y' l'))) (Pq.ob n (f:=e9 S q) z c') q1 q2 q3 rfl rfl
  have aqw:qz s {s1 with ob:=s1.ob.set aR e (.map m.kt q (ni m.kt k y' l')),wr:=e::s1.wr}:=(lZ R).trans' (CW f3.symm) (tq _ _ _);refine⟨undef,_,g1,.inr ⟨j _ (by rw[hxe,hke];exact I),rfl⟩,.sym _ _ (.lit _),cR.lT hs (by rw[fL];exact hs2) (he1.trans (by grind[aI])) f1 f2 (CW f3.symm) aqw⟩
 .rename_i k kt l r B;have hke:=tT r (dg hf hk);split at h;rotate_left
  .cases h
  rename_i l' hck;obtain⟨rfl,K⟩:=OU hck;cases K;obtain⟨C,h9⟩|⟨_,h9⟩:=ah h
  rotate_left
  .cases h9
  clear h;obtain⟨_,rfl,rfl⟩:=h9;have i:(aI s).ob.get e=Z (cU (.Im m.kt l')):=by rw[aS,B];rfl
  let ⟨x0,hh,hor⟩:=(hs.box e b hb).2.2 _ i
  obtain⟨ms,cl,rfl,hmr⟩:=iy.SM n (f:=low) hor
  let ⟨ms',c',I,z⟩:=ya (P:=E.E.P) n ht hu k hh hmr (x:=yv) (dg hf hy)
  let ⟨q1,q2,q3⟩:=KB (.map ms' c') (hs.box e b hb).2.1
  let ⟨hs2,YZ⟩:=hs.setObj hb i rfl (g9 C) (ob':=cU (.Im m.kt (ni m.kt k yv l'))) (Pq.ob n (f:=low) z c') q1 q2 q3 rfl rfl
  exact⟨undef,_,g,.inr ⟨j _ (by simp_all),rfl⟩,.sym _ _ (.lit _),cR.lT hs (by rw[fL];exact hs2) YZ rfl rfl (cu _) (tq _ _ _)⟩
 .cases h
def ab3(hS:fO S)(hT:Bg E.E)(hTy:RQ S E)(hX:XOk S E)(hf:cL g (bB fr) a w)(hs:bq g (aI s) w)(o:Oper)(h:uM E fr s o.op=Z (c,t,s'))(hc:c=W) :
  ∃v w' g',((execOp a.eval o).run E.E.P w=.ok (.value v) w'∨((execOp a.eval o).run E.E.P w=.ok .skip w'∧v=undef))∧aP g' w' (low t) v∧cR [] s g w s' g' w':=by
 unfold uM at h;split at h
 ·
  rename_i ty r A;obtain⟨hb,C⟩|⟨_,C⟩:=ah h
  rotate_left
  .cases C
  clear h;rw[eK]at hb;have hn:s.aL<bC:=g9 hb.1;split at C;rotate_left
  .cases C
  rename_i m hm
  let ⟨kid,d,ht,hu,B,_,_⟩:=hX.mt _ _ hm
  have hr:∀v,r.map a.eval=Z v->∃k n,v=.int k n:=by
   intro v hv;cases r with
   |none=>cases hv
   |some x=>
    simp at hv;subst hv;have hh:=hb.2;simp[Og]at hh;split at hh
    .rename_i k n K;exact⟨_,_,(dg hf K).af4⟩
    .rename_i k n K;exact⟨_,_,aP.Lm (dg hf K)⟩
    .cases hh
  have fin:∀ob:ux S,cU ob=.map []->(W,(.mp s.aL:V S),dc s ob)=(c,t,s')->
    ∃v w' g',((execOp a.eval o).run E.E.P w=.ok (.value v) w'∨((execOp a.eval o).run E.E.P w=.ok .skip w'∧v=undef))∧aP g' w' (low t) v∧cR [] s g w s' g' w':=λob mR he=>by
   obtain⟨_,rfl,rfl⟩:=he
   let ⟨v,w',g',h1,h2,h3⟩:=KZ (P:=E.E.P) hs hn ht hr mR
   exact⟨v,w',g',.inl (by simp[execOp,A,h1]),h2,h3⟩
  split at C
  .exact fin _ rfl (jU C)
  .exact fin _ rfl (jU C)
 ·
  rename_i ty x ix ok A;split at h;rotate_left
  .cases h
  rename_i m xv kv hm K hk;split at h;rotate_left
  .cases h
  rename_i vt hvt;split at h;rotate_left
  .cases h
  rename_i k l hkey F;obtain⟨_,rfl,rfl⟩:=h
  let ⟨kid,d,ht,hu,B,⟨xi,z,R,hz⟩,hvv⟩:=hX.mt _ _ hm
  let ⟨akl,i,YO⟩:=hvv vt hvt
  have hke:=tT hkey (dg hf hk);have hxr:=dg hf K;have hzr:aP g w (e9 S vt (S.zero vt)) z:=yR (I4 hS (hT.ti _ _ YO) (hTy.row _ _ _ YO akl) (hX.zr _ _ _ YO akl) R hz);have fin:∀(u:Value)(b:Bool),(Instr.lookup ty (a.eval x) (a.eval ix) ok).run E.E.P w=.ok (if ok then .tuple #[u,.bool b]else u) w->aP g w (e9 S vt (Io m.kt (S.zero vt) k l)) u->b=BS m.kt k l->
    ∃v w' g',((execOp a.eval o).run E.E.P w=.ok (.value v) w'∨((execOp a.eval o).run E.E.P w=.ok .skip w'∧v=undef))∧
     aP g' w' (low (bif ok then .gM [.ty vt (Io m.kt (S.zero vt) k l),.ty .bool (BS m.kt k l)]else .ty vt (Io m.kt (S.zero vt) k l):V S)) v∧cR [] s g w s g' w':=by
   intro u b hrun hu hbb;refine⟨_,w,g,.inl (by simp only[execOp,A,run_bind,hrun,andThen_ok,run_pure];rfl),?_,cR.refl hs⟩;cases ok with
   |false=>exact hu|true=>
    subst hbb;refine .gM _ _ rfl λj t' v' h1 h2=>?_
    match j with
    |0=>simp[bz]at h1 h2;subst h1;subst h2;exact hu|1=>simp[bz]at h1 h2;subst h1;subst h2;exact .sym _ _ (.lit _)|j+2=>simp[bz]at h1
  unfold Yk at F;split at F
  .rename_i oid;split at F
   .rename_i vt' l' mR;obtain⟨rfl,rfl,hll⟩:=OT F;cases hll
    let ⟨b,hxe,hb⟩:=aP.Ll hxr
    obtain⟨x0,hh,hor⟩:=(hs.box oid b hb).2.2 _ (by rw[aS,mR];rfl);obtain⟨ms,cl,rfl,hmr⟩:=iy.SM B (f:=e9 S vt') hor;have hlk:=E9 (P:=E.E.P) B ht hu R hz k hh hmr.1 (λj p q h1 h2=>(hmr.2 j p q h1 h2).1) ok
    let ⟨r1,r2⟩:=QS (f:=e9 S vt') (k:=k) hmr hzr
    refine fin _ _ ?_ r1 r2;rw[hke,hxe,hlk];cases hq:(ID m.kt k l').bind λj=>(ms[j]?).map (·.val)with|none=>simp|some v=>simp
   .cases F
  .simp only[gV]at F;subst F;refine fin z J ?_ hzr rfl;rw[hke,aP.Lm hxr];exact E8 B ht hu R hz k ok
  .cases F
 .exact Jz hX hS hf hs o (.inl ‹_›) h
 .exact Jz hX hS hf hs o (.inr ‹_›) h
 ·
  rename_i ty n cp A;split at h;rotate_left
  .cases h
  rename_i i e nv cv I he hn hcv;split at h;rotate_left
  .cases h
  rename_i n1 c1 B hn1 hc1;obtain⟨hb,C⟩|⟨_,C⟩:=ah h
  rotate_left
  .cases C
  obtain⟨rfl,rfl,rfl⟩:=C;rw[eK]at hc;have hcn:c1=n1:=by simpa[iT]using hc.2
  subst hcn
  let ⟨p,hp,hpp⟩:=gI hn1
  let ⟨q,hq,hqq⟩:=gI hc1
  have e1:=en hp hpp (dg hf hn);have e2:=en hq hqq (dg hf hcv)
  let ⟨v,w',g',h1,h2,h3⟩:=Gb (P:=E.E.P) hS hs (g9 hb) (hT.ti _ _ I) (hTy.row _ _ _ I he) hc.1 .i64 .i64
  exact⟨v,w',g',.inl (by simp[execOp,A,e1,e2,h1]),h2,h3⟩
 ·
  rename_i ty x A;split at h;rotate_left
  .cases h
  rename_i i xv I K;split at h;rotate_left
  .cases h
  rename_i b B hb;obtain⟨hn,C⟩|⟨_,C⟩:=ah h
  rotate_left
  .cases C
  obtain⟨_,rfl,rfl⟩:=C
  let ⟨p,hp,hpp⟩:=kT hb
  have e1:=iC hp hpp (dg hf K)
  let ⟨_,d0,_,_,hu,_,_,_,_,hk⟩:=(hT.ti _ _ I).all
  rw[B]at hk;cases hk
  let ⟨v,w',g',h1,h2,h3⟩:=Qq (P:=E.E.P) hs (g9 hn) hu b
  exact⟨v,w',g',.inl (by simp[execOp,A,e1,h1]),h2,h3⟩
 ·
  rename_i ty x u A;split at h;rotate_left
  .rename_i i I K;split at h;rotate_left
   .cases h
   rename_i B;obtain⟨_,rfl,rfl⟩:=h;have:=(Tg (w:=w) (hT.ti _ _ I) B (dg hf K) x).1;exact⟨_,w,g,.inl (by simp only[execOp,A,run_bind]at this ⊢;simp only[Act.eval]at this ⊢;rw[this];rfl),.kb W,cR.refl hs⟩
  .cases h
  rename_i i n y I K;split at h;rotate_left
  .cases h
  rename_i B;obtain⟨_,rfl,rfl⟩:=h;have:=(Ts (S:=S) hS (hT.ti _ _ I) B (dg hf K) x).1;exact⟨_,w,g,.inl (by simp only[execOp,A,run_bind]at this ⊢;simp only[Act.eval]at this ⊢;rw[this];rfl),.sym _ _ (.lit _),cR.refl hs⟩
 ·
  rename_i ty x u A;split at h;rotate_left
  .rename_i i I K;split at h;rotate_left
   .cases h
   rename_i B;obtain⟨_,rfl,rfl⟩:=h;have:=(Tg (w:=w) (hT.ti _ _ I) B (dg hf K) x).2;exact⟨_,w,g,.inl (by simp only[execOp,A,run_bind]at this ⊢;simp only[Act.eval]at this ⊢;rw[this];rfl),.kb J,cR.refl hs⟩
  .cases h
  rename_i i n y I K;split at h;rotate_left
  .cases h
  rename_i B;obtain⟨_,rfl,rfl⟩:=h;have:=(Ts (S:=S) hS (hT.ti _ _ I) B (dg hf K) x).2;exact⟨_,w,g,.inl (by simp only[execOp,A,run_bind]at this ⊢;simp only[Act.eval]at this ⊢;rw[this];rfl),.sym _ _ (.lit _),cR.refl hs⟩
 ·
  rename_i ty x u A;split at h;rotate_left
  .cases h
  rename_i i e xv I he K;split at h;rotate_left
  .cases h
  rename_i B hl;obtain⟨_,rfl,rfl⟩:=h
  let ⟨ad,n,m,hv,hE⟩:=afn hs hl (dg hf K)
  have:=afm (w:=w) (hT.ti _ _ I) B ad n m x;exact⟨_,w,g,.inl (by rw[<-hv]at this;simp only[execOp,A,run_bind]at this ⊢;simp only[Act.eval]at this ⊢;rw[this];rfl),.ub _ _ hE,cR.refl hs⟩
 ·
  rename_i x A;split at h;rotate_left
  .cases h
  rename_i n y K;obtain⟨rfl,rfl,rfl⟩:=h;have hr:=dg hf K;rw[Ce]at hc;obtain⟨he,_⟩|⟨t',d,u,he,hv,_⟩:=Ey hS (show aP g w (e9 S (.cT n) y) (a.eval x)from hr)
  .rw[he]at hc;cases hc
  .exact ⟨_,w,g,.inl (by simp[execOp,A,hv]),hv▸hr,cR.refl hs⟩
 ·
  rename_i x xt ty ok A;split at h;rotate_left
  .cases h
  rename_i i τ n y I he K
  let ⟨xi,d1,z,R,IG,_,Zj,hzx,BQ,PO⟩:=(hT.ti _ _ I).all
  have hni:i.kd≠.iface->∀ms,d1≠.interface ms:=λhk ms hd=>hk ((hT.ti _ _ I).nif ms (by rw[IG,hd]));have hr:=Ey hS (show aP g w (e9 S (.cT n) y) (a.eval x)from dg hf K);have hzr:aP g w (e9 S τ (S.zero τ)) z:=yR (I4 hS (hT.ti _ _ I) (hTy.row _ _ _ I he) (hX.zr _ _ _ I he) R hzx);have hno:i.kd≠.iface->(∀d,ud S (S.alts n) (S.tV n y)≠Z (ty,d))->(Instr.typeAssert (a.eval x) xt ty W).run E.E.P w=.ok (.tuple #[z,.bool J]) w:=by
   intro hk hne;obtain⟨_,hv⟩|⟨t',d,u,he',hv,_⟩:=hr
   .rw[hv];simp only[Instr.typeAssert,run_bind,aU IG,andThen_ok];cases d1 with|interface ms=>exact absurd rfl (hni hk ms)|_=>simp[eA R hzx]
   .have aqp:t'≠ty:=λe=>hne d (e▸he');rw[hv];simp only[Instr.typeAssert,run_bind,aU IG,andThen_ok];cases d1 with|interface ms=>exact absurd rfl (hni hk ms)|_=>simp[aqp,eA R hzx]
  split at h
  .cases h
  .rename_i j hj hk;obtain⟨hb,C⟩|⟨_,C⟩:=ah h
   rotate_left
   .cases C
   clear h;have hte:=jN hb;have hk':i.kd≠.iface:=λe=>hk e;obtain⟨h1,h2⟩|⟨h1,h2,h3⟩:=GV (S.alts n) ty j (S.tV n y) S.zero (hS.alts n) hj
   ·
    obtain⟨he',_⟩|⟨t',d,u,he',hv,hd⟩:=hr
    .rw[he']at h2;cases h2
    rw[he']at h2;simp at h2;obtain⟨rfl,rfl⟩:=h2;have hrun:∀ok,(Instr.typeAssert (a.eval x) xt t' ok).run E.E.P w=.ok (if ok then .tuple #[u,.bool W]else u) w:=by intro ok;rw[hv];simp only[Instr.typeAssert,run_bind,aU IG,andThen_ok];cases d1 with|interface ms=>exact absurd rfl (hni hk' ms)|_=>simp
    obtain⟨hok,C⟩|⟨hok,C⟩:=ah C
    .simp only[gV,fP]at C;obtain⟨_,rfl,rfl⟩:=C;subst hok;refine⟨_,w,g,.inl (by simp only[execOp,A,run_bind,hrun,andThen_ok,run_pure];rfl),.gM _ _ rfl λq t v k1 k2=>?_,cR.refl hs⟩
     match q with
     |0=>simp[bz]at k1 k2;subst k1;subst k2;exact yR hd|1=>simp[bz]at k1 k2;subst k1;subst k2;rw[h1];exact .sym _ _ (.lit _)|q+2=>simp[bz]at k1
    .obtain ⟨_,rfl,rfl⟩:=C;subst hok;exact⟨_,w,g,.inl (by simp only[execOp,A,run_bind,hrun,andThen_ok,run_pure];rfl),yR hd,cR.refl hs⟩
   ·
    obtain⟨hok,C⟩|⟨hok,C⟩:=ah C
    .simp only[gV,fP]at C;obtain⟨_,rfl,rfl⟩:=C;subst hok;refine⟨_,w,g,.inl (by simp only[execOp,A,run_bind,hno hk' h3,andThen_ok,run_pure];rfl),.gM _ _ rfl λq t v k1 k2=>?_,cR.refl hs⟩
     match q with
     |0=>simp[bz]at k1 k2;subst k1;subst k2;rw[h2];subst hte;exact hzr|1=>simp[bz]at k1 k2;subst k1;subst k2;rw[h1];exact .sym _ _ (.lit _)|q+2=>simp[bz]at k1
    .obtain ⟨rfl,_⟩:=C;rw[h1]at hc;cases hc
  .rename_i hj hk;have hk':i.kd≠.iface:=λe=>hk e;obtain⟨hok,C⟩|⟨hok,C⟩:=ah h
   rotate_left
   .cases C
   simp only[gV,fP]at C;obtain⟨_,rfl,rfl⟩:=C;subst hok;refine⟨_,w,g,.inl (by simp only[execOp,A,run_bind,hno hk' (λd=>GV.Cd _ _ _ hj d),andThen_ok,run_pure];rfl),.gM _ _ rfl λq t v k1 k2=>?_,cR.refl hs⟩
   match q with
   |0=>simp[bz]at k1 k2;subst k1;subst k2;exact hzr|1=>simp[bz]at k1 k2;subst k1;subst k2;exact .kb _|q+2=>simp[bz]at k1
 ·
  rename_i ps A;split at h;rotate_left
  .cases h
  rename_i i pv I hps;split at h;rotate_left
  .cases h
  rename_i sz ag B;simp only[fV,fP]at h;obtain⟨cs,hcs,_,rfl,rfl⟩:=h
  let ⟨p,hfl,hp⟩:=BY hS hcs
  rw[mZ]at hfl
  let ⟨xi,d1,z,R,IG,_,Zj,hzx,BQ,PO⟩:=(hT.ti _ _ I).all
  rw[B]at PO;obtain⟨el,j,d',rfl,hj,zf,hju,_⟩:=PO;have hzr:=sk (g:=g) (w:=w) BQ;obtain⟨rs,h1,h2⟩:=v9 (g:=g) (w:=w) (pl:=λk=>Z (k*sz,sz)) (λk off ti MG=>by
   obtain⟨rfl,rfl⟩:=MG;rfl) _ _ hfl hp (oP hf (tJ hps)) ⟨by simpa using hzr.1,λj t v h1 h2=>hzr.2 j t v h1 (by simpa using h2)⟩
  refine⟨.agg rs,w,g,.inl ?_,.agg _ _ (by simpa using h2.1) (λj t v h3 h4=>h2.2 j t v h3 (by simpa using h4)),cR.refl hs⟩;have akg:Instr.fill (λi=>Z (i*sz,sz)) z.cells (ps.map λ(i,x)=>(i,a.eval x)).toList=Z rs:=by simpa using h1
  simp only[execOp,A,Instr.build,run_bind,eA R hzx,aU IG,dQ hj,zf,andThen_ok,run_pure,akg]
 .cases h
end
end
section
section
variable {g:Gh}{w:World}
def Kb{β:Type}{ω:Type}{X:V S->bu S->O ω}{D:O ω}{a:Ty}(k:den S.A a)(f:β->V S)(s:bu S):∀(l:L (den S.A a×β)),
  yA X D (l.map λp=>(Lg a k p.1,f p.2,s))=match(ID a k l).bind (l[·]?)with
   |some p=>X (f p.2) s|none=>D
 |[]=>rfl|p::l=>by
  simp[kW,yA,ID];cases b:Lg a k p.1 with
  |true=>simp[au]|false=>
   simp[au,ez];rw[Kb k f s l];cases ID a k l with|none=>rfl|some j=>simp
def wF{ω:Type}{X:V S->bu S->O ω}{n:Int}{ag:Bool}{sz:Nat}{cs:L (V S)}{s:bu S}{r:ω}:∀{l:L Nat},yA X Y (zw n ag sz cs s l)=Z r->
  ∃j v,j∈l∧n=(j:Int)∧((cs.drop (j*sz)).take sz).length=sz∧0<sz∧CY ag ((cs.drop (j*sz)).take sz)=Z v∧X v s=Z r
 |[],h=>by cases h
 |j::l,h=>by
  simp only[zw]at h;split at h
  .rename_i a;obtain⟨b,a⟩|⟨_,a⟩:=ah a
   rotate_left
   .cases a
   rw[eK]at b;have d:=beq_iff'.1 b.1;rw[bR]at d;obtain⟨e,h⟩|⟨_,h⟩:=Jb h
   .simp_all[iT]
   .let ⟨i,u,h1,h2⟩:=wF h
    grind
  .cases h
where
 Jb {α:Type} {c:Bool} {x y:O α} {r:α} (h:au c x y=Z r):(c=W∧x=Z r)∨(c=J∧y=Z r):=ah h
variable {s s':bu S}{E:gi}{fr:bU S}{a:Act}{o:Oper}
def Td(hT:Bg E.E)(hX:XOk S E)(hf:cL g (bB fr) a w)(hs:bq g (aI s) w)(o:Oper){Wh:L (Bool×V S×bu S)}{p:Bool}{d:V S}(h:iS E fr s o.op=Z (Wh,p,d,s')){ω:Type}{X:V S->bu S->O ω}{r:ω}
  (e:yA X (aK p (X d s')) Wh=Z r) :
  ∃t s1 v w' g',X t s1=Z r∧((execOp a.eval o).run E.E.P w=.ok (.value v) w'∨((execOp a.eval o).run E.E.P w=.ok .skip w'∧v=undef))∧aP g' w' (low t) v∧cR [] s g w s1 g' w'∧((∀it b,o.op≠.next it b)->s1=s):=by
 unfold iS at h;split at h
 ·
  rename_i it B;split at h;rotate_left
  .cases h
  rename_i C hit;split at h;rotate_left
  .cases h
  rename_i b pos mR;obtain⟨hfl,h9⟩|⟨_,h9⟩:=ah h
  rotate_left
  .cases h9
  clear h;obtain⟨rfl,rfl,rfl,rfl⟩:=h9
  let ⟨bV,hie,hb⟩:=aP.acJ (dg hf hit)
  have Od:(aI s).ob.get C=Z (.qE (bY b) pos):=by rw[aS,mR];rfl
  let ⟨x0,hh,hor⟩:=(hs.box C bV hb).2.2 _ Od
  have K:=(hs.box C bV hb).2.1;cases hor;have dm:(getObj bV).run E.E.P w=.ok (.stringIter (bY b) pos) w:=by simp[getObj,Sem.run,hh]
  have u9:∀x,(setObj bV x).run E.E.P w=.ok () {w with heap:=w.heap.setIfInBounds bV x}:=λx=>by simp[setObj,Sem.run,hh]
  have F:(bY b).size=b.length:=by rfl
  obtain⟨hp,e⟩|⟨hp,e⟩:=wF.Jb e
  .have hp':pos<(bY b).size:=by rw[F];simpa[QA]using hp
   let ⟨q1,q2,q3⟩:=KB (.stringIter (bY b) (pos+Ir b pos)) K
   let ⟨hs2,YZ⟩:=hs.setObj hb Od rfl (g9 hfl) (ob':=.qE (bY b) (pos+Ir b pos)) (.qE _ _) q1 q2 q3 rfl rfl
   refine⟨_,_,.tuple #[.bool W,goInt pos,.int .i32 (uI b pos)],_,g,e,.inl ?_,.gM _ _ rfl λq t v y A=>?_,cR.lT hs (by rw[fL];exact hs2) YZ rfl rfl (cu _) (tq _ _ _),λhh=>absurd B (hh it W)⟩
   .have hrun:(Instr.next (a.eval it) W o.type).run E.E.P w=.ok (.tuple #[.bool W,goInt pos,.int .i32 (uI b pos)]) {w with heap:=w.heap.setIfInBounds bV (.stringIter (bY b) (pos+Ir b pos))}:=by rw[hie];simp only[Instr.next,run_bind,dm,andThen_ok,hp',ku,u9];rfl
    grind[execOp,run_bind,andThen_ok,run_pure]
   .match q with
    |0=>simp[bz]at y A;subst y;subst A;exact .kb _|1=>simp[bz]at y A;subst y;subst A;exact .sym _ _ (.lit _)|2=>simp[bz]at y A;subst y;subst A;exact .sym _ _ (.lit _)|q+3=>grind
  .have hp':¬pos<(bY b).size:=by rw[F];simpa[QA]using hp
   refine⟨_,_,.tuple #[.bool J],w,g,e,.inl ?_,.gM _ _ rfl λq t v y A=>?_,cR.refl hs,λhh=>absurd B (hh it W)⟩
   .have hrun:(Instr.next (a.eval it) W o.type).run E.E.P w=.ok (.tuple #[.bool J]) w:=by rw[hie];simp only[Instr.next,run_bind,dm,andThen_ok,hp',ij];rfl
    grind[execOp,run_bind,andThen_ok,run_pure]
   .match q with
    |0=>simp[bz]at y A;subst y;subst A;exact .kb _|q+1=>grind
 ·
  rename_i ty x ix ok B;split at h;rotate_left
  .cases h
  rename_i m C kv hm hx hk;split at h;rotate_left
  .cases h
  rename_i kt l k i mR hkey YO;split at h;rotate_left
  .cases h
  rename_i l' z hck hpz;simp only[gV,fP]at h;obtain⟨rfl,rfl,rfl,rfl⟩:=h;obtain⟨rfl,hll⟩:=OU hck;cases hll
  let ⟨kid,dd,ht,hu,R,⟨xi,zv,PN,hz⟩,_⟩:=hX.mt _ _ hm
  have hke:=tT hkey (dg hf hk)
  let ⟨b,hxe,hb⟩:=aP.Ll (dg hf hx)
  obtain⟨x0,hh,hor⟩:=(hs.box C b hb).2.2 _ (by rw[aS,mR];rfl);obtain⟨ms,cl,rfl,hmr⟩:=iy.SM R (f:=low) hor;have hlk:=E9 (P:=E.E.P) R ht hu PN hz k hh hmr.1 (λj p q h1 h2=>(hmr.2 j p q h1 h2).1) ok;have hzr:aP g w (low z) zv:=by
   let ⟨x',_,z',hx',_,_,Zj,hz',BQ,_⟩:=(hT.ti _ _ YO).all
   rw[PN]at hx';cases hx';rw[hz]at hz';cases hz'
   let ⟨hza,hzn⟩:=(hT.ti _ _ YO).zag _ _ PN hz
   let ⟨hz1,hz2⟩:=sk (g:=g) (w:=w) BQ
   have hp:=o9 hpz;rw[mZ]at hp
   let ⟨ze,_⟩:=xm (g:=g) (w:=w) hp (vals:=zv.cells.toList) (by omega) (λj t v h1 h2=>hz2 j t v h1 (by simpa using h2))
   cases hia:i.agg with
   |true=>
    obtain⟨vs,rfl⟩:=hza hia
    simp_all[Value.cells]
   |false=>
    simp_all
  rw[Kb k (λv=>bif ok then .gM [v,.kb W]else v) s l']at e;have wrap:∀(t:V S)(u:Value)(bb:Bool),aP g w (low t) u->aP g w (low (bif ok then .gM [t,.kb bb]else t:V S)) (if ok then .tuple #[u,.bool bb]else u):=by
   intro t u bb hu;cases ok with
   |false=>exact hu|true=>
    refine .gM _ _ rfl λq t v y A=>?_
    match q with
    |0=>grind[bz]|1=>simp[bz]at y A;subst y;subst A;exact .kb _|q+2=>grind
  have c:=hlk;rw[<-hxe,<-hke]at c;cases hix:ID m.kt k l' with
  |none=>rw[hix]at e c;exact⟨_,_,_,w,g,e,.inl (by grind[execOp,run_bind,andThen_ok,run_pure]),wrap z zv J hzr,cR.refl hs,λ_=>rfl⟩
  |some j=>
   let ⟨q,hq,_⟩:=Ay hix
   have hj:j<ms.size:=by rw[<-hmr.1];grind
   have hmj:ms[j]?=Z ms[j]:=vG hj;rw[hix]at e c;simp[SX,hq,hmj,jB]at e c;exact⟨_,_,_,w,g,e,.inl (by grind[execOp,run_bind,andThen_ok,run_pure]),wrap q.2 _ W (hmr.2 j q _ hq hmj).2,cR.refl hs,λ_=>rfl⟩
 ·
  rename_i B;split at h;rotate_left
  .cases h
  rename_i hi hx hk;split at h;rotate_left
  .cases h
  rename_i len sz ag n R hn;obtain⟨hlen,h9⟩|⟨_,h9⟩:=ah h
  rotate_left
  .cases h9
  clear h;obtain⟨rfl,rfl,rfl,rfl⟩:=h9;obtain⟨j,v,hjm,rfl,hl,hsz,hpk,hXv⟩:=wF e;have hjl:j<len:=Nd.1 hjm
  let ⟨pq,hp,hpp⟩:=gI hn
  have e1:=en hp hpp (dg hf hk)
  let ⟨_,d1,_,_,IG,hsz1,hag1,_,_,PO⟩:=(hT.ti _ _ hi).all
  rw[R]at PO;obtain⟨el,jj,d',rfl,hj1,hj2,hj3,hj4⟩:=PO
  let ⟨vs,hxe,oe⟩:=aP.Tn (dg hf hx)
  have I:=(oe.drop (j*sz)).take sz;have K:=o9 hpk;rw[lW,lX]at K
  let ⟨ze,h1⟩:=xm (g:=g) (w:=w) K I.1 I.2
  have hlv:((vs.toList.drop (j*sz)).take sz).length=sz:=by rw[<-I.1,<-lX,<-lW,eR];exact hl
  have hle:j*sz+sz<=vs.size:=by
   grind
  have hrp:=M4 (P:=E.E.P) (w:=w) hj1 hj3 vs (j*sz) (by omega) (λhd=>by
   grind)
  rw[hj2,<-hj4]at hrp;refine⟨v,s,_,w,g,hXv,.inl ?_,ze,cR.refl hs,λ_=>rfl⟩;have hin:(0:Int)<=(j:Int)∧(j:Int)<(len:Int):=by omega
  simp only[execOp,B,Instr.index,e1,hxe,asIntOf,run_bind,run_pure,andThen_ok,aU IG,cn hin,dQ hj1,hj2,Fl,hrp]
 .cases h
def abG(P:Program)(a:Array TypeId)(ty:TypeId)(m n:Int):(Builtin.max_ a ty #[.int .i64 m,.int .i64 n]).run P w=.ok (.int .i64 (FV m n)) w:=by simp only[Builtin.max_,List.foldlM_cons,List.foldlM_nil,Builtin.max2,FV,aD];by_cases h:m<n<;>simp[h]
def abF(P:Program)(a:Array TypeId)(ty:TypeId)(m n:Int):(Builtin.min_ a ty #[.int .i64 m,.int .i64 n]).run P w=.ok (.int .i64 (QK m n)) w:=by simp only[Builtin.min_,List.foldlM_cons,List.foldlM_nil,Builtin.min2,QK,aD];by_cases h:n<m<;>simp[h]
def A5(hX:XOk S E)(hs:bq g (aI s) w)(hf:cL g (bB fr) a w){j:Call}(C:o.op=.call j){b:Builtin}(hb:j.callee=.builtin b){args:L (V S)}(k:kK fr j.args.toList=Z args){c:Bool}{t:V S}
  (h:sX E s b j.argTypes args=Z (c,t,s')):s'=s∧∃v,(execOp a.eval o).run E.E.P w=.ok (.value v) w∧aP g w (low t) v:=by
 have e:=fQ hf (ia k);unfold sX at h;split at h
 .rename_i p;have key:∀(l:Nat)(ob:ux S),s.ob.get p=Z ob->(∀x,iy g w (cU ob) x->∃q c,x=.map q c∧q.size=l)->∀m,(nth j.argTypes.toList 0).bind E.mt=Z m->
    ∃v,(execOp a.eval o).run E.E.P w=.ok (.value v) w∧aP g w (low (.ty (.int .i64) (l:Int):V S)) v:=by
   intro l ob f r m i;simp[vF]at i
   let ⟨ty,F,I⟩:=i
   let ⟨kid,d,ht,_⟩:=hX.mt _ _ I
   have h0:aP g w (.mp p) ((j.args.toList.map a.eval)[0]'(by have:=e.1;simp[bz]at this;simp;omega)):=e.2 0 _ _ rfl (iZ _)
   let ⟨bV,hbe,z⟩:=aP.Ll h0
   obtain⟨x0,hh,K⟩:=(hs.box p bV z).2.2 _ (by rw[aS,f];rfl);obtain⟨q,cc,rfl,P⟩:=r _ K;have dm:(getObj bV).run E.E.P w=.ok (.map q cc) w:=tA hh;have R:(j.args.map a.eval)[0]?=Z (.map (Z bV)):=by
    grind
   have A:j.argTypes[0]?=Z ty:=by rw[kO]at F;grind
   refine⟨goInt q.size,?_,by rw[P];exact .sym _ _ (.lit _)⟩;simp[execOp,C,resolve,hb,run_bind,run_pure,andThen_ok,invoke,builtin,Builtin.len_,A,R,aU ht,dm]
  split at h
  .rename_i m kt vt l i f;obtain⟨_,rfl,rfl⟩:=h;exact⟨rfl,key l.length _ f (λx r=>by cases r with|map _ q c hl _=>simp_all) m i⟩
  .rename_i m kt l i f;obtain⟨_,rfl,rfl⟩:=h;exact⟨rfl,key l.length _ f (λx r=>by cases r with|map _ q c hl _=>simp_all) m i⟩
  .cases h
 .rename_i x y;split at h;rotate_left
  .cases h
  rename_i m n i B;obtain⟨_,rfl,rfl⟩:=h
  let ⟨a1,ha⟩:=MO e i B
  refine⟨rfl,.int .i64 (FV m n),?_,.sym _ _ (.lit _)⟩
  simp_all[execOp,resolve,invoke,builtin,abG]
 .rename_i x y;split at h;rotate_left
  .cases h
  rename_i m n i B;obtain⟨_,rfl,rfl⟩:=h
  let ⟨a1,ha⟩:=MO e i B
  refine⟨rfl,.int .i64 (QK m n),?_,.sym _ _ (.lit _)⟩
  simp_all[execOp,resolve,invoke,builtin,abF]
 .cases h
where
 MO {l:Array Operand} {a:Act} {x y:V S} {m n:Int} (e:PW (aP g w) (bz [x,y]) (l.toList.map a.eval)) (i:gf .i64 x=Z m) (B:gf .i64 y=Z n):True∧l.map a.eval=#[.int .i64 m,.int .i64 n]:=by
  refine⟨trivial,?_⟩;have hl:(l.toList.map a.eval).length=2:=by have:=e.1;simpa[bz]using this.symm
  match hll:l.toList.map a.eval,hl with
  |[u,v],_=>
   rw[hll]at e;have h1:=e.2 0 _ _ rfl rfl;have h2:=e.2 1 _ _ rfl rfl
   grind[gI,en]
theorem Qi{E:gi}(j:XOk S E){t:TypeId}{b:String}{f:FuncId}(h:E.KX t b=Z f)(v:Value)(args:Array Value)(hf:lN E.E.P f):(callMethod (.iface t v) b args).run E.E.P w=.ok (.enter f (#[v]++args)) w:=by
 let ⟨x,q,d,k,l,m,o,a⟩:=j.KX _ _ _ h
 obtain⟨n,p⟩:∃n,E.E.P.types.size+Made.depth=n+1:=⟨E.E.P.types.size+Made.depth-1,by rfl⟩;have c:(method (E.E.P.types.size+Made.depth) t v b).run E.E.P w=.ok (f,v) w:=by
  rw[p];simp only[method,run_bind,rF k,andThen_ok,l,m,follow,run_pure];obtain⟨a,g⟩|⟨a,e,rfl⟩:=a
  .simp only[a,run_bind,receiverAt,aU o,andThen_ok];cases d<;>first|(exact absurd rfl (g _))|(simp[Place.get])
  simp_all[receiverAt,aU,Place.get]
 have i:(Go.program).run E.E.P w=.ok E.E.P w:=rfl
 grind[callMethod,run_bind,andThen_ok,xd]
def M6(g:XOk S E){c:Call}(b:o.op=.call c){x:Operand}{m:String}(d:c.callee=.invoke x m){t:TypeId}{v:Value}(e:a.eval x=.iface t v){f:FuncId}(h:E.KX t m=Z f)(i:lN E.E.P f) :
  (execOp a.eval o).run E.E.P w=.ok (.enter f (#[v]++c.args.map a.eval)) w:=by
 simp only[execOp,b,resolve,d,e,run_bind,run_pure,andThen_ok,invoke]
 grind[Array.ext',Array.toList_extract,List.take_of_length_le,Qi]
end
end
section
section
variable {g:Gh}{w:World}
def lO(s:bu S)(o:Nat)(ob:Ob):St:={aI s with ob:=(aI s).ob.set aR o ob}
variable {s s':bu S}{o n j era m gW k r i off:Nat}{hole:Option Nat}{hl:List Value}{d:D}{h v:Value}{a:Act}
def I5(hs:bq g (aI s) w){l:L (S.A n)}{x:ff}(a:s.ob.get o=Z (.kX n j l era m gW hole))(b:g.arr o era=Z x) :
  ∃hl,hl.length=l.length∧wZ g w J (S.width (.st n)) (lits j (l.map (enc S (.st n))) hl) x∧I1 g m gW hole hl∧bq g (lO s o (.arr (S.width (.st n)) (lits j (l.map (enc S (.st n))) hl) era)) w:=by
 obtain⟨hl,h1,h2,h3,h4⟩:=hs.view (by rw[aS,a];rfl) b;exact⟨hl,by simpa using h1,h2,h3,h4⟩
def zR{s1:St}(h:bq g s1 w){l:L (S.A n)}(a:o<bC)(h1:s1.ob.get o=Z (.arr (S.width (.st n)) (lits j (l.map (enc S (.st n))) hl) era))(b:hl.length=l.length)
  (c:I1 g m gW hole hl) (h2:s'.ob.get o=Z (.kX n j l era m gW hole)) (h3:∀k,k≠o->(aI s').ob.get k=s1.ob.get k) (h4:s'.aL=s1.aL):bq g (aI s') w:=by
 refine(h.WU (es:=l.map (enc S (.st n))) a h1 (by grind) c).Zo h4 λk=>?_;rw[Tr.bn _ _ _ _ a];by_cases d:k=o
 .subst d;rw[cn rfl,aS,h2];rfl
 simp_all
def gx(a:o<bC)(ob:Ob)(k:Nat):(lO s o ob).ob.get k=if k=o then Z ob else(aI s).ob.get k:=Tr.bn _ _ _ _ a
def Lc{es:L D}(h1:es[k]?=Z d)(h2:hl[k]?=Z h):jl (lits j es hl) k=jw j d h:=by
 grind[jl,lits]
def KA(h:aP g w (.sh o r) v):∃x,g.arr o r=Z x∧v=.slice x.a x.len x.cap:=by cases h with|sh _ _ len cap sz a b=>simp_all
def TJ{e:Nat}(h:aP g w (.lG o e i off) v):∃x,g.arr o e=Z x:=by cases h with|lG _ _ _ _ len cap sz a b=>grind
def Th(h:aP g w (.rM o m r i) v):∃y,g.arr m (rc r i)=Z y∧v=.slice y.a y.len y.cap:=by cases h with|rM _ _ _ _ len cap sz a b=>simp_all
def UX(fr:Fr)(x:Operand)(t:T):Fr:=match x with
 |.tmp k=>{fr with tm:=fr.tm.set aR k t}
 |_=>fr
def Nv{fr:Fr}(hf:cL g fr a w){u t:T}(c:fr.get k=Z u)(b:k<bC)(f:aP g w t (a.eval (.tmp k))):cL g (UX fr (.tmp k) t) a w:=by
 refine⟨hf.size,hf.df,λd e h=>?_⟩;simp[UX,Fr.get]at h;rw[Tr.bn _ _ _ _ b]at h;split at h
 .cases h
  let ⟨v,i,_⟩:=hf.tm _ _ c
  simp_all[Act.eval]
 .exact hf.tm d e h
def U3{i:TI}(b:Nl (Na off i.size) j=W∨Nt j off=W):oE i (jw j d h) off=oE i d off:=by
 have a:∀q,(off<=q∧q<off+i.size)->(jw j d h).cell q=d.cell q:=by
  intro q c;have e:j≠q:=by
   obtain b|b:=b
   .have:=g9 b
    grind
   .have:j<off:=g9 b;omega
  show(d.cells.set j _).getD q _=d.cells.getD q _
  simp_all
 unfold oE;cases i.agg with
 |true=>
  simp only[eP]
  congr 2
  refine Af λq c=>?_;have:=a (Na off q) ⟨Nat.le_add_right _ _,Nat.add_lt_add_left (Nd.1 c) _⟩;rw[this]
 |false=>
  simp;cases f:Nq i.size 1 with|true=>have:=beq_iff'.1 f;simp only[eP];rw[a off ⟨cu _,by omega⟩]|false=>rfl
def MS(s:St):∀{l:L T}{p:Prop}{ds:L D}{os:L Nat}{j:Nat},nN s l=Z (p,ds,os)->l[j]?=Z .emp->∀v,∃b,nN s (l.set j (.sym (.lit v)))=Z (b,ds.set j (.lit v),os)∧(p->b)∧ds[j]?=Z (.sl [])
 |[],p,ds,os,j,_,a,v=>by simp at a
 |t::l,p,ds,os,j,h,a,v=>by
  simp[nN]at h;split at h
  .rename_i q d c r e f h1 h2;obtain⟨rfl,rfl,rfl⟩:=h;cases j with
   |zero=>simp at a;subst a;obtain⟨rfl,rfl,rfl⟩:=h1;exact⟨True∧r,by grind[nN,Bs],λh=>h,rfl⟩
   |succ j=>obtain⟨b,k,g,i⟩:=MS s h2 (by simpa using a) v;exact⟨q∧b,by grind[nN],λh=>⟨h.1,g h.2⟩,by simpa using i⟩
  .cases h
def ab5{E:gi}(hS:fO S)(hT:Bg E.E)(hTy:RQ S E){fr:bU S}(hf:cL g (bB fr) a w)(hs:bq g (aI s) w)(o:Oper){c:Bool}{t:V S}(h:DP E fr s o.op=Z (c,t,s'))(hc:c=W) :
  ∃v w' g',((execOp a.eval o).run E.E.P w=.ok (.value v) w'∨((execOp a.eval o).run E.E.P w=.ok .skip w'∧v=undef))∧aP g' w' (low t) v∧cR [] s g w s' g' w':=by
 unfold DP at h;split at h
 ·
  rename_i ty x ix I;split at h;rotate_left
  .cases h
  rename_i oid r hx;split at h;rotate_left
  .cases h
  rename_i n j l era m gW hole mR;split at h;rotate_left
  .cases h
  rename_i i n' kv hi Oc hix;split at h;rotate_left
  .cases h
  rename_i sz ag bt zz k vg hk;obtain⟨hb,f⟩|⟨_,f⟩:=ah h
  rotate_left
  .cases f
  simp only[eK]at hb;have hre:=beq_iff'.1 hb.1;subst hre;have hnn:=beq_iff'.1 hb.2;subst hnn;obtain⟨rfl,rfl,rfl⟩:=f
  let ⟨xs,C,_⟩:=KA (dg hf hx)
  have b:oid<bC:=iP (hs.lt' C) hs.aL
  let ⟨hl,h1,h2,h3,h4⟩:=I5 hs mR C
  let ⟨p,hp1,hp⟩:=gI hk
  let ⟨⟨z,Oe,_⟩,_⟩:=hTy.row _ _ _ hi Oc
  have hin:=vT hc;have hbq:Nq (S.width (.st n)) (S.width (.st n))=W:=beq_iff'.2 rfl;have B:(lits j (l.map (enc S (.st n))) hl).length=l.length:=by rw[mE (by simpa using h1)];simp
  let ⟨⟨v,w',g',hr,A,he,ht⟩,q1,q2,q3⟩:=nc hT hf h4 o (p:=p∧lg k (eN (lits j (l.map (enc S (.st n))) hl))) (t:=.lG oid r (DL k) 0) (s':=lO s oid (.arr (S.width (.st n)) (lits j (l.map (enc S (.st n))) hl) r)) (by
   rw[I];simp[n6,hi,cr hx,cr hix,lF,Oe,hp1,low,IX];rw[gx b,cn rfl];simp) ⟨hp,by simp[lg,eN,B];omega⟩
  refine⟨v,w',g',hr,ht,cR.lT hs ?_ he rfl rfl (cu _) (qz.refl _)⟩;refine zR A b (by rw[gx b,cn rfl]) h1 (h3.le (λj y=>he.arr m j y)) mR (λk hk=>by rw[gx b,bJ hk]) rfl
 ·
  rename_i ty x I;split at h;rotate_left
  .cases h
  rename_i oid e k off hx;split at h;rotate_left
  .cases h
  rename_i n j l era m gW hole mR;split at h;rotate_left
  .cases h
  rename_i i hi;obtain⟨hb,f⟩|⟨_,f⟩:=ah h
  rotate_left
  .cases f
  clear h;have hre:=beq_iff'.1 hb;subst hre
  let ⟨xs,C⟩:=TJ (dg hf hx)
  have b:oid<bC:=iP (hs.lt' C) hs.aL
  let ⟨hl,h1,h2,h3,h4⟩:=I5 hs mR C
  have B:(lits j (l.map (enc S (.st n))) hl).length=l.length:=by rw[mE (by simpa using h1)];simp
  have back:∀{g':Gh}{w':World},bq g' (lO s oid (.arr (S.width (.st n)) (lits j (l.map (enc S (.st n))) hl) e)) w'->Ext s.fl g w g' w'->cR [] s g w s g' w':=λA he=>
   cR.lT hs (zR A b (by rw[gx b,cn rfl]) h1 (h3.le (λj y=>he.arr m j y)) mR (λk hk=>by rw[gx b,bJ hk]) rfl) he rfl rfl (cu _) (qz.refl _)
  obtain⟨hj,h⟩|⟨hj,h⟩:=ah f
  ·
   clear f;obtain⟨F,f⟩|⟨_,f⟩:=ah h
   rotate_left
   .cases f
   simp only[eK,Qs]at F;obtain⟨rfl,rfl,rfl⟩:=f;have hoff:=beq_iff'.1 hj;subst hoff;have hk:=sP hc;have hel:jl (lits off (l.map (enc S (.st n))) hl) k=jw off (enc S (.st n) l[k]) (hl[k]'(by omega)):=Lc (by rw[kN,iZ hk];rfl) (iZ _);have hrow:=h2.rows _ (hJ (by rw[lits,Xo,kN,iZ hk,iZ (by omega:k<hl.length)];rfl:(lits off (l.map (enc S (.st n))) hl)[k]?=Z (jw off (enc S (.st n) l[k]) (hl[k]'(by omega)))));have hsz:i.size=1:=beq_iff'.1 F.1;have K:off<S.width (.st n):=g9 F.2.2.2;have hcell:(jw off (enc S (.st n) l[k]) (hl[k]'(by omega))).cell off=.lit (hl[k]'(by omega)):=by
    show((enc S (.st n) l[k]).cells.set off _).getD off _=_;have:off<(enc S (.st n) l[k]).cells.length:=by rw[kG hS];exact K
    simp[this]
   let ⟨⟨v,w',g',hr,A,he,ht⟩,q1,q2,q3⟩:=nc hT hf h4 o (t:=.sym (.lit (hl[k]'(by omega)))) (s':=lO s oid (.arr (S.width (.st n)) (lits off (l.map (enc S (.st n))) hl) e)) (p:=lg (k:Int) (eN (lits off (l.map (enc S (.st n))) hl))∧(jl (lits off (l.map (enc S (.st n))) hl) k).has (Na off i.size)) (by
    rw[I];simp only[n6,hi,cr hx,low,loadT,IX];rw[gx b,cn rfl];simp[show Nq e e=W from beq_iff'.2 rfl,eP,hel,oE,F.2.1,ez,F.1,hcell,jB]) ⟨by simp only[lg,eN,B];omega,by
     rw[hel];show Na off i.size<=_;rw[hrow,hsz];exact K⟩
   have hv:=aP.Lm ht
   let ⟨y,hy,hye⟩:=h3.2 k _ (iZ (by omega)) (by
    intro e;rw[e]at F;exact Bool.noConfusion F.2.2.1)
   refine⟨v,w',g',hr,?_,back A he⟩;rw[hv,hye];exact .rM _ _ _ _ _ _ y.sz _ (he.arr _ _ _ hy)
  ·
   clear f;obtain⟨F,f⟩|⟨_,f⟩:=ah h
   rotate_left
   .cases f
   simp at f;obtain⟨u,hu,rfl,rfl,rfl⟩:=f;rw[m7]at F;have hk:=sP hc
   let ⟨p1,p2⟩:=BD hS (i:=i) (τ:=Y) (λu h=>by cases h) hu
   have hex:aZ l k (S.zero (.st n))=l[k]:=by simp[aZ,hk]
   rw[hex]at p1 p2;have hel:jl (lits j (l.map (enc S (.st n))) hl) k=jw j (enc S (.st n) l[k]) (hl[k]'(by omega)):=Lc (by rw[kN,iZ hk];rfl) (iZ _)
   let ⟨⟨v,w',g',hr,A,he,ht⟩,q1,q2,q3⟩:=nc hT hf h4 o (t:=low u) (s':=lO s oid (.arr (S.width (.st n)) (lits j (l.map (enc S (.st n))) hl) e)) (p:=lg (k:Int) (eN (lits j (l.map (enc S (.st n))) hl))∧(jl (lits j (l.map (enc S (.st n))) hl) k).has (Na off i.size)) (by
    rw[I];simp only[n6,hi,cr hx,low,loadT,IX];rw[gx b,cn rfl];simp[show Nq e e=W from beq_iff'.2 rfl,eP,hel,U3 F,p1,jB]) ⟨by simp only[lg,eN,B];omega,by
     rw[hel];show Na off i.size<=((enc S (.st n) l[k]).cells.set j _).length;rw[KN];exact p2⟩
   exact⟨v,w',g',hr,ht,back A he⟩
 ·
  rename_i ty x P I;split at h;rotate_left
  .cases h
  rename_i e k off R m' r i hx hy;split at h;rotate_left
  .cases h
  rename_i n j l era m gW hh mR;split at h;rotate_left
  .cases h
  rename_i hi;obtain⟨hb,f⟩|⟨_,f⟩:=ah h
  rotate_left
  .cases f
  clear h;simp only[eK,Qs]at hb
  let ⟨b1,b2,b3,b4,b5,b6,b7,b8,b9,b10⟩:=hb
  have e1:=beq_iff'.1 b1;subst e1;have e2:=beq_iff'.1 b2;subst e2;have e3:=beq_iff'.1 b3;subst e3;have e4:=beq_iff'.1 b4;subst e4;have e5:=beq_iff'.1 b5;subst e5;obtain⟨rfl,rfl,rfl⟩:=f;unfold YU at hc;simp only[eK]at hc;have hk:=sP hc.1;have e6:=beq_iff'.1 hc.2.1;subst e6;have e7:=beq_iff'.1 hc.2.2;subst e7
  let ⟨xs,C⟩:=TJ (dg hf hx)
  have b:R<bC:=iP (hs.lt' C) hs.aL
  let ⟨hl,h1,h2,h3,h4⟩:=I5 hs mR C
  have B:(lits off (l.map (enc S (.st n))) hl).length=l.length:=by rw[mE (by simpa using h1)];simp
  have K:off<S.width (.st n):=g9 b9;have hval:=dg hf (x:=.tmp P) (v:=.rM R m' r i) hy
  let ⟨y,hy1,hye⟩:=Th hval
  have hel:jl (lits off (l.map (enc S (.st n))) hl) i=jw off (enc S (.st n) l[i]) (hl[i]'(by omega)):=Lc (by rw[kN,iZ hk];rfl) (iZ _);have hf':=Nv hf (k:=P) (u:=low (.rM R m' r i)) (t:=.sym (.lit (.slice y.a y.len y.cap))) (by show(bB fr).get P=_;rw[bT,hy];rfl) (g9 b10) (by rw[hye];exact .sym _ _ (.lit _));have agn:jZ (UX (bB fr) (.tmp P) (.sym (.lit (.slice y.a y.len y.cap)))) (.tmp P)=Z (.sym (.lit (.slice y.a y.len y.cap))):=by show((bB fr).tm.set aR P _).get P=_;rw[Tr.bn _ _ _ _ (g9 b10),cn rfl]
  have aqb:jZ (UX (bB fr) (.tmp P) (.sym (.lit (.slice y.a y.len y.cap)))) x=Z (.lG R e i off):=by
   have h0:=cr hx;cases x with
   |tmp k2=>
    show((bB fr).tm.set aR P _).get k2=_;rw[Tr.dA _ _ _ _ _ (λe=>by
     subst e;have h5:fr.get k2=Z (.lG R e i off):=hx;rw[hy]at h5;cases h5)]
    exact h0
   |_=>exact h0
  have ajK:(jw off (enc S (.st n) l[i]) (hl[i]'(by omega))).SG off [.lit (.slice y.a y.len y.cap)]=jw off (enc S (.st n) l[i]) (.slice y.a y.len y.cap):=by
   have hlt:off<(enc S (.st n) l[i]).cells.length:=by rw[kG hS];exact K
   show D.agg _=D.agg _
   congr 1
   rw[List.take_set_of_le (cu _),List.length_singleton,List.drop_set_of_lt (Nat.lt_succ_self _)];apply UO;intro q;simp only[KO,sC,SY,Qt,UQ,UP,List.length_singleton];obtain hq|hq|hq:=Nat.lt_trichotomy q off
   .rw[cn (by omega),cn hq,bJ (by omega)]
   .subst hq;rw[bJ (by omega),cn (by omega),cn rfl,cn hlt];simp[Nat.min_eq_left (Jl hlt)]
   .rw[bJ (by omega),bJ (by omega),bJ (by omega)]
    congr 1
    omega
  have hby:(jw off (enc S (.st n) l[i]) (.slice y.a y.len y.cap)).sj=(jw off (enc S (.st n) l[i]) (hl[i]'(by omega))).sj:=by
   let ⟨a0,n0,m0,he0⟩:=h3.1 i _ (iZ (by omega:i<hl.length))
   rw[he0,<-AI off (enc S (.st n) l[i]) [] a0 n0 m0,<-AI off (enc S (.st n) l[i]) [] y.a y.len y.cap]
  have VG:(jw off (enc S (.st n) l[i]) (hl[i]'(by omega))).isAgg (S.width (.st n))=W:=by
   let ⟨a0,n0,m0,he0⟩:=h3.1 i _ (iZ (by omega:i<hl.length))
   rw[he0];show(Nq (cB ((enc S (.st n) l[i]).cells.set off _)) _&&((enc S (.st n) l[i]).cells.set off _).all D.leaf)=W;rw[eK,bR,KN,kG hS];refine⟨beq_iff'.2 rfl,gY.2 λd hd=>?_⟩;obtain hd|rfl:=Xs hd
   .rw[show(enc S (.st n) l[i]).cells=gU S (S.fs n) (S.get n l[i])from hS.cells n _]at hd;exact ic _ _ (hS.leaf n) d hd
   .rfl
  have hput:wU (lits off (l.map (enc S (.st n))) hl) i (jw off (enc S (.st n) l[i]) (.slice y.a y.len y.cap))=lits off (l.map (enc S (.st n))) (hl.set i (.slice y.a y.len y.cap)):=by
   apply UO;intro q;simp[wU,lits];by_cases hq:i=q
   .subst hq;rw[Xp (by simp;omega),Xo,kN,Xp (by omega),iZ hk];rfl
   .rw[List.getElem?_set_ne hq,Xo,Xo,List.getElem?_set_ne hq]
  let ⟨⟨v,w',g',hr,A,he,ht⟩,q1,q2,q3⟩:=nc hT hf' h4 o (t:=SH) (s':={lO s R (.arr (S.width (.st n)) (lits off (l.map (enc S (.st n))) hl) e)with ob:=(lO s R (.arr (S.width (.st n)) (lits off (l.map (enc S (.st n))) hl) e)).ob.set aR R (.arr (S.width (.st n)) (lits off (l.map (enc S (.st n))) (hl.set i (.slice y.a y.len y.cap))) e)})
   (p:=(D.lit (.slice y.a y.len y.cap)).leaf=W∧(True∧True)∧[D.lit (.slice y.a y.len y.cap)].all D.leaf=W∧lg (i:Int) (eN (lits off (l.map (enc S (.st n))) hl))∧(jw off (enc S (.st n) l[i]) (hl[i]'(by omega))).SN (S.width (.st n)) off (cB [D.lit (.slice y.a y.len y.cap)])∧Nl (Na off (cB [D.lit (.slice y.a y.len y.cap)])) (S.width (.st n))=W∧((jw off (enc S (.st n) l[i]) (hl[i]'(by omega))).SG off [.lit (.slice y.a y.len y.cap)]).sj=(jw off (enc S (.st n) l[i]) (hl[i]'(by omega))).sj) (by
   rw[I];have hg:=gx (s:=s) b (.arr (S.width (.st n)) (lits off (l.map (enc S (.st n))) hl) e) R;rw[cn rfl]at hg;have aqI:Nl (lO s R (.arr (S.width (.st n)) (lits off (l.map (enc S (.st n))) hl) e)).fl R=W:=b8;simp[n6,hi,aqb,agn,storeT,kf,b7,b6,ez,eP,nN,Bs,oN,freeze,hg,aqI,show Nq e e=W from beq_iff'.2 rfl,Nj,hel,ajK,hput]) ⟨rfl,⟨trivial,trivial⟩,rfl,⟨Int.natCast_nonneg _,by show(i:Int)<((lits off (l.map (enc S (.st n))) hl).length:Int);rw[B];exact Int.ofNat_lt.2 hk⟩,.inl VG,Xv (by show off+1<=_;omega),by rw[ajK,hby]⟩
  have hgn:∀q,({lO s R (.arr (S.width (.st n)) (lits off (l.map (enc S (.st n))) hl) e)with ob:=(lO s R (.arr (S.width (.st n)) (lits off (l.map (enc S (.st n))) hl) e)).ob.set aR R (.arr (S.width (.st n)) (lits off (l.map (enc S (.st n))) (hl.set i (.slice y.a y.len y.cap))) e)}:St).ob.get q=if q=R then Z (.arr (S.width (.st n)) (lits off (l.map (enc S (.st n))) (hl.set i (.slice y.a y.len y.cap))) e)else(lO s R (.arr (S.width (.st n)) (lits off (l.map (enc S (.st n))) hl) e)).ob.get q:=λq=>Tr.bn _ _ _ _ b
  refine⟨v,w',g',hr,ht,cR.lT hs (zR A (hl:=hl.set i (.slice y.a y.len y.cap)) b (by rw[hgn,cn rfl]) (by simpa using h1) ⟨λq hv hq=>?_,λq hv hq _=>?_⟩ (by show(s.ob.set aR R _).get R=_;rw[Tr.bn _ _ _ _ b,cn rfl]) (λq hq=>?_) rfl) he rfl rfl (cu _) (tq _ _ _)⟩
  .rw[Qt]at hq;split at hq
   .rw[cn (by omega)]at hq;cases hq;exact⟨_,_,_,rfl⟩
   .exact h3.1 q hv hq
  .rw[Qt]at hq;split at hq
   .rename_i e;subst e;rw[cn (by omega)]at hq;cases hq;exact⟨y,he.arr _ _ _ hy1,rfl⟩
   .rename_i e
    let ⟨yy,k1,k2⟩:=h3.2 q hv hq (λh=>e (jU h))
    exact⟨yy,he.arr _ _ _ k1,k2⟩
  .rw[hgn,bJ hq,gx b,bJ hq,aS,aS];show((s.ob.set aR R _).get q).map cU=_;rw[Tr.bn _ _ _ _ b,bJ hq]
 ·
  rename_i len parts I;split at h;rotate_left
  .rename_i Q7;split at h;rotate_left
   .cases h
   rename_i i e hi Oc;split at h;rotate_left
   .cases h
   rename_i sz ag bt zz vg;obtain⟨hb,f⟩|⟨_,f⟩:=ah h
   rotate_left
   .cases f
   obtain⟨_,rfl,rfl⟩:=f;have B:len=0:=beq_iff'.1 hb;subst B;have hle:Nl (Nat.mul 0 sz) 16777216=W:=by rw[show Nat.mul 0 sz=0 from Nat.zero_mul sz];rfl
   have h0:cD E fr s o.op=Z (W,.kq 0 e [],s):=by rw[I];simp only[cD,hi,Oc,Q7,ja,vg,hle,eP,List.replicate_zero,oh,dX,jB]
   let ⟨p,aqc,hp⟩:=NL hS hTy h0 rfl
   let ⟨⟨v,w',g',hr,A,he,ht⟩,q1,q2,q3⟩:=nc hT hf hs o aqc hp
   refine⟨v,w',g',hr,?_,cR.lT hs A he q1 q2 q3 (lZ (show dX s []=Z s from rfl))⟩;cases ht with|kq _ _ a0 hn0 hd=>exact .emp a0
  .cases h
  rename_i P Q7;split at h;rotate_left
  .cases h
  rename_i n cs hi Oc hkx;split at h;rotate_left
  .cases h
  rename_i j hnst;split at h;rotate_left
  .cases h
  rename_i zz vg hnj;obtain⟨hb,f⟩|⟨_,f⟩:=ah h
  rotate_left
  .cases f
  clear h;split at f;rotate_left
  .cases f
  rename_i x os hx;simp only[fV,fP]at f;obtain⟨s1,II,_,rfl,rfl⟩:=f;simp only[eK]at hb;have aj8:=beq_iff'.1 hb.1;subst aj8;have hkN:P<bC:=g9 hb.2.2
  let ⟨⟨z,Oe,hz⟩,_,_,hpos⟩:=hTy.row _ _ _ hi Oc
  rw[vg]at Oe;obtain⟨rfl,rfl,rfl,rfl⟩:=Kd.slice.inj Oe;have hfz:=dx hS os II;have hval:=dg hf (x:=.tmp P) (v:=.agg cs) hkx;generalize hve:a.eval (.tmp P)=ve at hval;obtain⟨vs,rfl,oe⟩:=aP.Tn hval;have hcj:(bz cs)[j]?=Z .emp:=by rw[kO]at hnj;rw[gH,kN,hnj];rfl
  obtain⟨vj,hvj⟩:∃vj,vs.toList[j]?=Z vj:=by have:=cq hcj;exact⟨_,iZ (by have:=oe.1;omega)⟩
  have aqO:=oe.2 j _ _ hcj hvj;obtain⟨c,rfl⟩:∃c,vj=.slice c 0 0:=by cases aqO with|emp c=>exact⟨c,rfl⟩
  have ajI:aP g w (.agg ((bz cs).set j (.sym (.lit (.slice c 0 0))))) (.agg vs):=by
   refine .agg _ vs (by simpa using oe.1) λq t v h1 h2=>?_;rw[Qt]at h1;split at h1
   .rename_i e;subst e;rw[cn (cq hcj)]at h1;cases h1;have:vs.toList[j]?=Z v:=by simpa using h2
    rw[hvj]at this;cases this;exact .sym _ _ (.lit _)
   .exact oe.2 q t v h1 (by simpa using h2)
  have hf':=Nv hf (k:=P) (u:=low (.agg cs)) (t:=.agg ((bz cs).set j (.sym (.lit (.slice c 0 0))))) (by rw[bT,hkx];rfl) hkN (by rw[hve];exact ajI);have agn:jZ (UX (bB fr) (.tmp P) (.agg ((bz cs).set j (.sym (.lit (.slice c 0 0)))))) (.tmp P)=Z (.agg ((bz cs).set j (.sym (.lit (.slice c 0 0))))):=by show((bB fr).tm.set aR P _).get P=_;rw[Tr.bn _ _ _ _ hkN,cn rfl]
  simp[bW]at hx;split at hx;rotate_left
  .cases hx
  rename_i hh os' C;obtain⟨rfl,rfl⟩:=hx
  let ⟨q,hq,hqp⟩:=sn hS s _ _ C
  let ⟨q',hq',hqq,MH⟩:=MS (aI s) hq hcj (.slice c 0 0)
  have Gy:(enc S (.st n) (S.Yh n hh)).cells=gU S (S.fs n) hh:=by show S.cells n _=_;rw[hS.cells,hS.vY]
  have hzl:cB zz=S.width (.st n):=by simp[j4,eP,enc,D.agg.injEq]at hz;rw[hz];simp[Sg.width,bR];rw[show S.cells n (S.zero (.st n))=_ from hS.cells n _,mI]
  have Zc:((j4 (.st n)||Nq (S.width (.st n)) 1)&&(Nq (cB zz) (S.width (.st n))&&(!(Nq (S.width (.st n)) 0)&&Nl (Nat.mul 1 (S.width (.st n))) 16777216)))=W:=by rw[hzl];simp only[eK,Qs];refine⟨rfl,beq_iff'.2 rfl,?_,by simpa using hb.2.1⟩;cases hq:Nq (S.width (.st n)) 0 with|false=>rfl|true=>have:=beq_iff'.1 hq;omega
  have VG:(D.agg ((gU S (S.fs n) hh).set j (.lit (.slice c 0 0)))).isAgg (S.width (.st n))=W:=by
   show(Nq (cB ((gU S (S.fs n) hh).set j _)) _&&((gU S (S.fs n) hh).set j _).all D.leaf)=W;rw[eK,bR,KN,mI];refine⟨beq_iff'.2 (bR _).symm,gY.2 λd hd=>?_⟩;obtain hd|rfl:=Xs hd
   .exact ic _ _ (hS.leaf n) d hd
   .rfl
  have hall:((gU S (S.fs n) hh).set j (.lit (.slice c 0 0))).all D.leaf=W:=by have h0:(Nq (cB ((gU S (S.fs n) hh).set j _)) _&&((gU S (S.fs n) hh).set j (.lit (.slice c 0 0))).all D.leaf)=W:=VG;rw[eK]at h0;exact h0.2
  let ⟨⟨v,w',g',hr,A,he,ht⟩,q1,q2,q3⟩:=nc hT hf' hs o (t:=.kq 1 [D.agg ((gU S (S.fs n) hh).set j (.lit (.slice c 0 0)))]) (s':=aI s1)
   (p:=(q'∧((gU S (S.fs n) hh).set j (.lit (.slice c 0 0))).all D.leaf=W)∧(D.agg ((gU S (S.fs n) hh).set j (.lit (.slice c 0 0)))).isAgg (S.width (.st n))=W∧True) (by
   rw[I];have hps:rI (UX (bB fr) (.tmp P) (.agg ((bz cs).set j (.sym (.lit (.slice c 0 0)))))) parts.toList=Z [(0,.agg ((bz cs).set j (.sym (.lit (.slice c 0 0)))))]:=by rw[Q7];simp[rI,agn]
   simp only[n6,hi,hps,vg,eP,rS,Bs,hq',List.replicate,cB,j4,show Nt 0 (Ns 0)=W from rfl,List.set_cons_zero,oN,hfz,jB];have agC:((W||Nq (S.width (.st n)) 1)&&(Nq (cB zz) (S.width (.st n))&&(!(Nq (S.width (.st n)) 0)&&Nl (Nat.mul 1 (S.width (.st n))) 16777216)))=W:=Zc;rw[agC];rfl) ⟨⟨hqq hqp,hall⟩,VG,trivial⟩
  refine⟨v,w',g',hr,?_,cR.lT hs A he q1 q2 q3 (lZ II)⟩;cases ht with
  |kq _ _ a0 hn0 hd=>
   refine .oY _ _ c a0 ?_ ?_
   .rw[Gy];exact MH
   .show ew g'.bx w' (.sl [D.agg ((enc S (.st n) (S.Yh n hh)).cells.set j _)]) _;rw[Gy];exact hd
 .cases h
end
end
section
section
variable {g:Gh}{w:World}
theorem bq.abY{s:St}(hs:bq g s w){m sz r:Nat}{iO:L (L D)}(o:s.ob.get m=Z (.rws sz iO r))(C:m<s.aL)(h0:0<sz)(c:O Addr) :
  bq (g.era m (rc r iO.length) ⟨c,0,0,sz⟩) {s with ob:=s.ob.set aR m (.rws sz (iO++[[]]) r)} w∧Ext s.fl g w (g.era m (rc r iO.length) ⟨c,0,0,sz⟩) w:=by
 have E:m<bC:=iP C hs.aL;have F:g.arr m (rc r iO.length)=Y:=by
  cases h:g.arr m (rc r iO.length)with
  |none=>rfl|some y=>
   let ⟨_,S,h2,_⟩:=(hs.pQ o h).2.2 _ rfl
   simp_all
 have f:∀k j y,g.arr k j=Z y->(g.era m (rc r iO.length) ⟨c,0,0,sz⟩).arr k j=Z y:=λk j y h=>by
  rw[Gh.cH]
  .exact h
  grind
 have d:∀k b,bG (g.era m (rc r iO.length) ⟨c,0,0,sz⟩) k b->bG g k b:=by
  rintro k b ⟨h1,h2|⟨j,y,A,h2,h3,h4,h5⟩⟩
  .exact ⟨h1,.inl h2⟩
  .by_cases p:k=m∧j=rc r iO.length
   .obtain ⟨rfl,rfl⟩:=p;rw[Gh.fS]at h2
    grind
   .rw[Gh.cH _ _ _ _ _ _ p]at h2;exact⟨h1,.inr ⟨j,y,A,h2,h3,h4,h5⟩⟩
 have he:Ext s.fl g w (g.era m (rc r iO.length) ⟨c,0,0,sz⟩) w:=
  ⟨λ_ _ h=>h,f,λ_ h=>h,cu _,λ_ _ _=>rfl,λk b h=>.inl (d k b h),λ_ h=>.inl h,rfl,rfl⟩
 have dm:∀k,(s.ob.set aR m (.rws sz (iO++[[]]) r)).get k=if k=m then Z (.rws sz (iO++[[]]) r)else s.ob.get k:=λk=>Tr.bn _ _ _ _ E
 have hnb:=hs.Aq o rfl;refine⟨⟨hs.aL,λk hk=>⟨(hs.ai k hk).1,λj=>?_⟩,λk b hb=>?_,λk j y l=>?_,hs.bx,λk k' b h h'=>hs.kJ k k' b (d k b h) (d k' b h')⟩,he⟩
 .rw[Gh.cH _ _ _ _ _ _ (by grind)];exact(hs.ai k hk).2 j
 .have I:g.bV k=Z b:=hb;have e:k≠m:=by grind
  let ⟨h1,h2,h3⟩:=hs.box k b I
  refine⟨h1,h2,λob a=>?_⟩;rw[dm,bJ e]at a
  let ⟨x,k1,k2⟩:=h3 ob a
  exact⟨x,k1,k2.ext he hs.bx⟩
 .by_cases e:k=m
  .subst e;have hcl:∀n i,r<n->g.arr k (rc n i)=Y:=λn i q=>by cases h:g.arr k (rc n i)with|none=>rfl|some z=>rw[(hs.pQ o h).1 n i q]at h;cases h
   have K:∀A,y.a=Z A->y.cap≠0->A.block<w.heap.size:=by
    by_cases B:j=rc r iO.length
    .subst B;rw[Gh.fS]at l
     grind
    .rw[Gh.cH _ _ _ _ _ _ (λh=>B h.2)]at l;exact(hs.arr k j y l).1
   refine⟨K,λob a=>?_⟩;rw[dm,cn rfl]at a;obtain rfl:=jU a;refine .inr (.inr (.inl ⟨sz,iO++[[]],r,rfl,λn i q=>?_,λi1 i2 y1 y2 P h1 h2 b t u=>?_,λi B=>?_⟩))
   .grind[Gh.cH,rG]
   .by_cases v:i1=iO.length
    .subst v;rw[Gh.fS]at h1;cases h1
     let ⟨_,_,_,h⟩:=t
     grind
    .by_cases e2:i2=iO.length
     .subst e2;rw[Gh.fS]at h2;cases h2
      let ⟨_,_,_,h⟩:=u
      grind
     .rw[Gh.cH _ _ _ _ _ _ (λh=>v (rG h.2).2)]at h1;rw[Gh.cH _ _ _ _ _ _ (λh=>e2 (rG h.2).2)]at h2;exact(hs.pQ o h1).2.1 i1 i2 y1 y2 P h1 h2 b t u
   .subst B;by_cases v:i=iO.length
    .subst v;rw[Gh.fS]at l;cases l;exact⟨rfl,[],by simp,⟨rfl,cu _,by simp,h0,by simp,λ_=>rfl,λh=>absurd rfl h⟩⟩
    .rw[Gh.cH _ _ _ _ _ _ (λh=>v (rG h.2).2)]at l
     let ⟨q1,S,q2,q3⟩:=(hs.pQ o l).2.2 i rfl
     exact⟨q1,S,by grind,q3.j6 rfl⟩
  .have R:g.arr k j=Z y:=by grind[Gh.cH]
   let ⟨h1,h2⟩:=hs.arr k j y R
   refine⟨h1,λob a=>?_⟩;rw[dm,bJ e]at a;exact(h2 ob a).tr (λh=>h.j6 rfl) f (funext λj=>Gh.cH _ _ _ _ _ _ (λh=>e h.1)) (λ_ _ _=>⟨rfl,uZ⟩)
variable {a:Act}{o:Oper}{n j:Nat}
def Kc{P:Program}{c:Call}(f:o.op=.call c)(k:c.callee=.builtin .append){u v:Operand}{ty d:TypeId}(l:c.args=#[u,v])(g:c.argTypes=#[ty,d]){R:Value->World->Prop}(h:Ik P ty d o.type (a.eval u) (a.eval v) w R)
  {K:Act->World->Prop} {Q:Exit->Act->World->Prop} (i:∀v w',R v w'->K (a.put o.dst v) w'):o.wp P a w K Q∨(o.asks P a w∧LetsOut Q):=by
 let ⟨r,w',e,j⟩:=h
 left
 unfold Oper.wp;have b:(execOp a.eval o).run P w=.ok (.value r) w':=by
  simp_all[execOp,resolve,invoke,builtin]
 rw[b];exact i r w' j
theorem args2{l:Array Operand}{a:Act}{x y:T}(b:PW (aP g w) [x,y] (l.toList.map a.eval)):∃u v,l=#[u,v]∧aP g w x (a.eval u)∧aP g w y (a.eval v):=by
 have d:l.size=2:=by have:=b.1;simp_all
 obtain⟨u,v,c⟩:∃u v,l=#[u,v]:=⟨l[0],l[1],by
  grind⟩
 exact⟨u,v,c,b.2 0 _ _ rfl (by simp[c]),b.2 1 _ _ rfl (by simp[c])⟩
def acn(a:fO S){t:Ty}(b:DY S n j t=W)(x:S.A n)(c:O Addr)(p q:Nat):(jw j (enc S (.st n) x) (.slice c p q)).sj=(enc S (.st n) x).sj:=by
 have h:AJ j (enc S (.st n) x) ((IJ n j t x).map (enc S t))=enc S (.st n) x:=by
  show D.agg ((S.cells n x).set j _)=D.agg (S.cells n x);have:(S.cells n x)[j]?=Z (.sl ((IJ n j t x).map (enc S t))):=by rw[a.cells];exact JU (Hq b)
  rw[Ja this]
 rw[<-AI j _ ((IJ n j t x).map (enc S t)),h]
def Vl(b:fO S)(x:S.A n)(c:O Addr)(p q:Nat):(jw j (enc S (.st n) x) (.slice c p q)).flat=W:=by
 show((S.cells n x).set j _).all D.leaf=W;refine gY.2 λd a=>?_;obtain a|rfl:=Xs a
 .rw[b.cells]at a;exact ic _ _ (b.leaf n) d a
 .rfl
def Hz{E:gi}(hS:fO S)(hT:Bg E.E)(hEE:PF E.E)(hTy:RQ S E){fr:bU S}{s s':bu S}(hf:cL g (bB fr) a w)(hs:bq g (aI s) w){cl:Call}(hop:o.op=.call cl){b:Builtin}(hb:cl.callee=.builtin b){args:L (V S)}(hargs:kK fr cl.args.toList=Z args){c:Bool}{t:V S}
  (h:mM E s b cl.argTypes args=Z (c,t,s')) (hc:c=W) {K:Act->World->Prop} {Q:Exit->Act->World->Prop} (hK:∀g' v w',cR [] s g w s' g' w'->aP g' w' (low t) v->K (a.put o.dst v) w') :
  o.wp E.E.P a w K Q∨(o.asks E.E.P a w∧LetsOut Q):=by
 have oe:=fQ hf (ia hargs);unfold mM at h;split at h
 ·
  rename_i f r;split at h;rotate_left
  .cases h
  rename_i n j l era m gW hole mR;split at h;rotate_left
  .cases h
  rename_i i B hi Oc;split at h;rotate_left
  .cases h
  rename_i sz ag bt zz vg;obtain⟨P,h9⟩|⟨_,h9⟩:=ah h
  rotate_left
  .cases h9
  simp only[eK]at P;have hre:=beq_iff'.1 P.1;subst hre;obtain⟨_,rfl,rfl⟩:=h9;have hx0:aP g w (.sh f r) ((cl.args.toList.map a.eval)[0]'(by have:=oe.1;simp[bz]at this;simp;omega)):=oe.2 0 _ _ rfl (iZ _)
  let ⟨xs,hxs,_⟩:=KA hx0
  have F:f<bC:=iP (hs.lt' hxs) hs.aL
  let ⟨hl,h1,h2,h3,h4⟩:=I5 hs mR hxs
  have hlen:(lits j (l.map (enc S (.st n))) hl).length=l.length:=by rw[mE (by simpa using h1)];simp
  refine yx hEE hf h4 hop hb (ia hargs) (p:=True) (t:=.sym (.lit (.int .i64 (eN (lits j (l.map (enc S (.st n))) hl))))) (s':=lO s f (.arr (S.width (.st n)) (lits j (l.map (enc S (.st n))) hl) r)) ?_ trivial (k:=λC st'=>C=.sym (.lit (.int .i64 (eN (lits j (l.map (enc S (.st n))) hl))))∧st'=lO s f (.arr (S.width (.st n)) (lits j (l.map (enc S (.st n))) hl) r)) ⟨rfl,rfl⟩ (λC st' g' v w' he xO ht=>?_)
  .have hi':(nth cl.argTypes.toList 0).bind E.E.ti=Z i:=hi;simp only[bz,low,fH,zW,hi',vg,Bv];rw[gx F,cn rfl];simp
  .obtain ⟨rfl,rfl⟩:=he;refine hK g' v w' (cR.lT hs (zR xO.rel F (by rw[gx F,cn rfl]) h1 (h3.le (λj y=>xO.ext.arr m j y)) mR (λk hk=>by rw[gx F,bJ hk]) rfl) xO.ext rfl rfl (cu _) (qz.refl _)) ?_;have e:eN (lits j (l.map (enc S (.st n))) hl)=ax l:=by simp[eN,hlen,ax]
   rw[e]at ht;exact ht
 ·
  rename_i f r B j' x;split at h;rotate_left
  .cases h
  rename_i n j l era m gW mR;split at h;rotate_left
  .cases h
  rename_i ty tx agK;split at h;rotate_left
  .cases h
  rename_i i i' n'' C A hi hi' Oc hrw;split at h;rotate_left
  .cases h
  rename_i sz ag bt zz sz' ag' bt' zz' new vg Oe hnew
  let ⟨e1,hh⟩:=fG hnew
  cases e1;cases hh;obtain⟨P,h9⟩|⟨_,h9⟩:=ah h
  rotate_left
  .cases h9
  clear h;simp only[eK]at P
  let ⟨b1,b2,b3,b4,b5,b6,b7,b8,b9⟩:=P
  have e1:=beq_iff'.1 b1;subst e1;have e2:=beq_iff'.1 b2;subst e2;have e3:=beq_iff'.1 b3;subst e3;simp only[gV,fP]at h9;obtain⟨hll,rfl,rfl⟩:=h9;have aqz:bP (acr l A) (dB l [x])=W:=hll.trans ‹_›;have aj7:acr l A=W∧dB l [x]=W:=by simpa[bP]using aqz
  have aqM:=aj7.2;have hll:=S1 (show decide _=W from aj7.1)
  let ⟨u,v,ha,hu,hv⟩:=args2 oe
  have Gz:cl.argTypes=#[ty,tx]:=by apply Array.ext';simpa using agK
  let ⟨xs,hxs,hxe⟩:=KA hu
  have F:f<bC:=iP (hs.lt' hxs) hs.aL;have hmn:m<s.aL:=g9 b6;have hmN:m<bC:=iP hmn hs.aL;have hw0:0<S.width C:=g9 b9
  let ⟨szm,hm⟩:=o6 (z6 hrw)
  have ajN:szm=S.width C:=by
   have h1:=hrw;unfold M0 at h1;split at h1
   .rename_i t0 rss0 r0 I;obtain⟨_,h1⟩|⟨_,h1⟩:=ah h1
    .cases h1;rw[aS,I]at hm;cases hm;rfl
    .cases h1
   .cases h1
  subst ajN;have hom:f≠m:=by rintro rfl;rw[aS,mR]at hm;cases hm
  generalize hvv:a.eval v=vv at hv;cases hv with
  |oY _ _ c ad hcj hcd=>
  let ⟨p1,p2⟩:=hs.abY hm hmn hw0 c
  let s1:bu S:={s with ob:=s.ob.set aR m (.rws C (A++[[]]) gW)}
  have apU:(aI s1)={aI s with ob:=(aI s).ob.set aR m (.rws (S.width C) (A.map (·.map (enc S C))++[[]]) gW)}:=by simp[s1,aI,Tr.mj,cU,u0,kW,Fs]
  rw[<-apU]at p1;have BR:s1.ob.get f=Z (.kX B j l r m gW Y):=by rw[Tr.bn _ _ _ _ hmN,bJ hom];exact mR
  have apM:=p2.arr _ _ _ hxs
  let ⟨hl,h1,h2,h3,h4⟩:=I5 p1 BR apM
  have acX:(lits j (l.map (enc S (.st B))) hl).length=l.length:=by rw[mE (by simpa using h1)];simp
  let ⟨⟨z,R,_⟩,_,_,hpos⟩:=hTy.row _ _ _ hi Oc
  rw[vg]at R;obtain⟨rfl,rfl,rfl,rfl⟩:=Kd.slice.inj R;have aqS:aP (g.era m (rc gW (A.map (·.map (enc S C))).length) ⟨c,0,0,S.width C⟩) w (.kq 0 [jw j (enc S (.st B) x) (.slice c 0 0)]) (.slice ad 1 1):=.kq 0 _ ad (by simp) (hcd.ext p2 hs.bx);have hus:aP (g.era m (rc gW (A.map (·.map (enc S C))).length) ⟨c,0,0,S.width C⟩) w (.sh f r) (a.eval u):=hu.ext p2 hs.bx;have ac6:iA (lits j (l.map (enc S (.st B))) hl) [jw j (enc S (.st B) x) (.slice c 0 0)]=lits j ((cX l [x]).map (enc S (.st B))) (hl++[.slice c 0 0]):=by simp[iA,lits,cX,u0,kW,Fs];rw[List.zipWith_append (by simp;omega)];rfl
  have ac4:uW (iA (lits j (l.map (enc S (.st B))) hl) [jw j (enc S (.st B) x) (.slice c 0 0)]) (zu S (.st B)):=by
   intro d hd;rw[ac6]at hd
   let ⟨q,I⟩:=Xn hd
   rw[lits,Xo]at I;split at I
   .rename_i hv0 k1 k2;cases I;rw[kN,fV]at k1;obtain⟨xx,_,rfl⟩:=k1;obtain⟨a0,n0,m0,rfl⟩:∃a0 n0 m0,hv0=.slice a0 n0 m0:=by
     rw[sC]at k2;split at k2
     .exact h3.1 q hv0 k2
     .have:q-hl.length=0:=by have:=cq k2;simpa using this
      rw[this]at k2;cases k2;exact⟨_,_,_,rfl⟩
    exact⟨by rw[acn hS b8];exact Cc hS (t:=.st B) xx,Vl hS xx a0 n0 m0⟩
   .cases I
  have hgv:=gx (s:=s1) F (.arr (S.width (.st B)) (lits j (l.map (enc S (.st B))) hl) r);have hkj:i'.kd=.slice sz' ag' bt' zz':=Oe;have hap:=yB (rt:=o.type) (hEE.ti _ _ hi) (hEE.ti _ _ hi') ⟨_,_,_,_,hkj⟩ h4 (x:=.sh f r) (y:=.kq 0 [jw j (enc S (.st B) x) (.slice c 0 0)]) (vx:=a.eval u) (vy:=.slice ad 1 1)
   (p:=True∧jA [jw j (enc S (.st B) x) (.slice c 0 0)] (S.width (.st B))∧uW (iA (lits j (l.map (enc S (.st B))) hl) [jw j (enc S (.st B) x) (.slice c 0 0)]) (zu S (.st B))∧D.TE (lits j (l.map (enc S (.st B))) hl) [jw j (enc S (.st B) x) (.slice c 0 0)]) (t:=.sh f (Ns r))
   (s':={lO s1 f (.arr (S.width (.st B)) (lits j (l.map (enc S (.st B))) hl) r)with ob:=(lO s1 f (.arr (S.width (.st B)) (lits j (l.map (enc S (.st B))) hl) r)).ob.set aR f (.arr (S.width (.st B)) (iA (lits j (l.map (enc S (.st B))) hl) [jw j (enc S (.st B) x) (.slice c 0 0)]) (Ns r))}) (by
   have hg0:=hgv f;rw[cn rfl]at hg0;have e1:Nt (lO s1 f (.arr (S.width (.st B)) (lits j (l.map (enc S (.st B))) hl) r)).aL bC=W:=b7;have e2:Nl (lO s1 f (.arr (S.width (.st B)) (lits j (l.map (enc S (.st B))) hl) r)).fl f=W:=b4;simp only[ur,e1,DN,ez,vg,Bv,hg0,e2,show Nq r r=W from beq_iff'.2 rfl,show Nq (S.width (.st B)) (S.width (.st B))=W from beq_iff'.2 rfl,sH,Nj];rfl) ⟨trivial,λd hd=>by
    rw[oa.1 hd];show((enc S (.st B) x).cells.set j _).length=_;rw[KN,kG hS],ac4,by
    have:l.length+1<=17179869184:=by simpa[dB]using aqM
    show(lits j (l.map (enc S (.st B))) hl).length+1<=_;rw[acX];exact this⟩ hus aqS
  refine Kc hop hb ha Gz (by rw[hvv];exact hap) (λv w' hR=>?_)
  let ⟨g',r1,r2,r3⟩:=hR
  have hE:=p2.trans r2;refine hK g' v w' (cR.lT hs ?_ hE rfl rfl (cu _) ⟨λ_ h=>iB _ (iB _ h),λk _ hk=>?_,rfl⟩) r3
  .refine zR r1 (n:=B) (j:=j) (l:=cX l [x]) (era:=Ns r) (m:=m) (gW:=gW) (hole:=Y) (hl:=hl++[.slice c 0 0]) F ?_ (by simp[cX];omega) ⟨λq v I=>?_,λq v I _=>?_⟩ ?_ (λk hk=>?_) rfl
   .show ((lO s1 f _).ob.set aR f _).get f=_;rw[Tr.bn _ _ _ _ F,cn rfl,ac6]
   .rw[sC]at I;split at I
    .exact h3.1 q v I
    .have:q-hl.length=0:=by have:=cq I;simpa using this
     rw[this]at I;cases I;exact⟨_,_,_,rfl⟩
   .rw[sC]at I;split at I
    .let ⟨yy,k1,k2⟩:=h3.2 q v I (by simp)
     exact⟨yy,r2.arr _ _ _ k1,k2⟩
    .have h0:q-hl.length=0:=by have:=cq I;simpa using this
     rw[h0]at I;cases I;refine⟨⟨c,0,0,S.width C⟩,r2.arr _ _ _ ?_,rfl⟩;have:q=(A.map (·.map (enc S C))).length:=by rw[rH];omega
     rw[this];exact Gh.fS _ _ _ _
   .show ((s.ob.set aR m _).set aR f _).get f=_;rw[Tr.bn _ _ _ _ F,cn rfl]
   .rw[Tr.bn _ _ _ _ F,bJ hk,hgv,bJ hk,aS,aS];rw[Tr.bn _ _ _ _ F,bJ hk];rfl
  .simp at hk;show((s.ob.set aR m _).set aR f _).get k=_;rw[Tr.dA _ _ _ _ _ hk.1,Tr.dA _ _ _ _ _ hk.2.1]
 ·
  rename_i f m r k y;split at h;rotate_left
  .cases h
  rename_i n j l era m' gW t0 A rera' mR hm0;split at h;rotate_left
  .cases h
  rename_i ty tx agK;split at h;rotate_left
  .cases h
  rename_i C new hi hi' Oc MF;split at h
  .cases h
  .rename_i sz ag bt zz sz' ag' bt' zz' vg Oe aqj;obtain⟨P,h9⟩|⟨_,h9⟩:=ah h
   rotate_left
   .cases h9
   clear h;simp only[eK]at P
   let ⟨b1,b2,b3,b4,b5,b6,b7⟩:=P
   have e1:=beq_iff'.1 b1;subst e1;have e2:=beq_iff'.1 b2;subst e2;have e3:=beq_iff'.1 b3;subst e3;have e4:=jN b7;subst e4;obtain⟨rfl,rfl,rfl⟩:=h9;have hc1:cJ k A=W∧dB (aZ A k []) new=W:=by simpa[bP]using hc
   have hk:=sP hc1.1
   let ⟨u,v,ha,hu,hv⟩:=args2 oe
   have Gz:cl.argTypes=#[ty,tx]:=by apply Array.ext';simpa using agK
   let ⟨yy,hyy,hue⟩:=Th hu
   have hm:(aI s).ob.get m=Z (.rws (S.width C) (A.map (·.map (enc S C))) r):=by rw[aS,hm0];rfl
   let ⟨_,rs0,acP,hok⟩:=(hs.pQ hm hyy).2.2 k rfl
   have hrs:rs0=(aZ A k []).map (enc S C):=by rw[kN,iZ hk]at acP;cases acP;simp[aZ,hk]
   subst hrs
   let ⟨q,I,hqp⟩:=zX MF
   let ⟨xi,d1,_,PN,IG,_,_,_,_,PO⟩:=(hEE.ti _ _ hi).all
   let ⟨_,d2,_,_,hu2,_,_,_,_,hk2⟩:=(hEE.ti _ _ hi').all
   rw[Oe]at hk2;obtain⟨e',_,_,_,rfl,_⟩:=hk2
   let ⟨⟨z,R,_⟩,_,_,hpos⟩:=hTy.row _ _ _ hi Oc
   rw[vg]at R;obtain⟨rfl,rfl,rfl,rfl⟩:=Kd.slice.inj R;rw[vg]at PO;obtain⟨e,ji,d',zv,rfl,hji,zf,_,_,hjz,BQ,Rf,h0,DV,pF,hb0,hzl⟩:=PO;have hzs:zv.cells.size=ji.size:=by rw[<-BQ.1,hzl,zf]
   have YR:jA (new.map (enc S C)) (S.width C):=sB hS new;have ac4:uW (iA ((aZ A k []).map (enc S C)) (new.map (enc S C))) (zu S C):=by rw[uu];exact ED hS _
   let ⟨news,hsrc,hvr,hlen⟩:=zY hs I hqp hv hpos YR (λd hd=>(ac4 d (eO _ hd)).2) hu2
   let ⟨ay,cy,hve,_,apL,Q4⟩:=sq hs I hqp hv hpos YR
   have aks:=DB (rt:=o.type) IG hu2 hji hjz hzs (zf▸hpos) hb0 Rf pF hs.bx (zf▸hok) (λb hb=>(hok.at_ hb).2.elim λvs h=>h.elim λty h=>(Xu.1 h.2).1) (λd hd=>(ac4 d hd).1) (zf▸YR) (zf▸hsrc) (zf▸hvr) (EB _ hc1.2) (λhne=>by
    obtain⟨ady,ang,rfl,Tu,hyc,_⟩:=Q4 hne;refine⟨ady,cy,hve,λGz=>?_,λq I=>?_⟩
    .obtain Tx|⟨o',ho',_⟩:=Tu
     .exact Bool.noConfusion ((hok.at_ Gz).1.2 Tx)
     .rw[FH]at ho';unfold NG at ho';split at ho'
      .exact aqj _ _ rfl
      .cases ho'
    .rw[zf]at I;have h1:=hyc (q/S.width C) (q%S.width C) (S3 (by rw[Nm];exact I)) (Nat.mod_lt _ hpos);have hkk:q/S.width C*S.width C+q%S.width C=q:=by rw[Nm];exact Nat.div_add_mod q _
     rw[hkk]at h1;rw[h1];rfl)
   refine Kc hop hb ha Gz (by rw[hue];exact aks) (λv w' hR=>?_)
   let ⟨y',hp⟩:=hR
   rw[zf,uu]at hp;have aqf:(aI s).ob.get f=Z (.kX j (S.width (.st n)) (l.map (enc S (.st n))) era m r Y):=by rw[aS,mR];rfl
   have F:f<bC:=g9 b6
   let ⟨r1,r2⟩:=hs.adD aqf hm F hyy hp (g9 b5)
   refine hK _ v w' (cR.lT hs (s':={s with ob:=(s.ob.set aR m (.rws C (eg A k (cX (aZ A k []) new)) (Ns r))).set aR f (.kX n j l era m (Ns r) (Z k)),wr:=f::m::s.wr}) ?_ r2 rfl rfl (cu _) ⟨λ_ h=>iB _ (iB _ h),λk' _ hk'=>?_,rfl⟩) ?_
   .have e:aI {s with ob:=(s.ob.set aR m (.rws C (eg A k (cX (aZ A k []) new)) (Ns r))).set aR f (.kX n j l era m (Ns r) (Z k)),wr:=f::m::s.wr}={aI s with ob:=((aI s).ob.set aR m (.rws (S.width C) ((A.map (·.map (enc S C))).set k ((cX (aZ A k []) new).map (enc S C))) (r+1))).set aR f (.kX j (S.width (.st n)) (l.map (enc S (.st n))) era m (r+1) (Z k))}:=by simp[aI,Tr.mj,cU,eg,Jm]
    rw[e];exact r1
   .simp at hk';show((s.ob.set aR m _).set aR f _).get k'=_;rw[Tr.dA _ _ _ _ _ hk'.1,Tr.dA _ _ _ _ _ hk'.2.1]
   .rw[hp.val];exact .rM _ _ _ _ _ _ y'.sz _ (by rw[Gh.pR,cn rfl])
  .cases h
 .cases h
end
end
section
theorem bU.jS(fr:bU S)(k j:Nat)(v:V S)(h:k<bC):(fr.put k v).get j=if j=k then Z v else fr.get j:=Tr.bn _ _ _ _ h
structure fJ(s:bu S)(g:Gh)(w:World)(s':bu S)(g':Gh)(w':World):Prop where
 rel:bq g' (aI s') w'
 ext:n5 s.lo s.fl g w g' w'
 fl:s'.fl=s.fl
 lo:s'.lo=s.lo
 aL:s.aL<=s'.aL
 uE:∀o∈s.wr,o∈s'.wr
 same:∀o,o<s.aL->o∉s'.wr->s'.ob.get o=s.ob.get o
 IS:∀o∈s.dr,o∈s'.dr
variable {s s':bu S}{g g':Gh}{w w':World}{p:Nat->Bool}{v:V S}{a:Act}
def cR.toW{ow:L Nat}(h:cR ow s g w s' g' w'):fJ s g w s' g' w':=⟨h.rel,h.ext,h.fl,h.lo,h.aL,h.uE,h.same,h.IS⟩
theorem fJ.refl{s:bu S}{g:Gh}{w:World}(h:bq g (aI s) w):fJ s g w s g w:=(cR.refl h).toW
def fJ.trans{s s' b:bu S}{g g' c:Gh}{w w' d:World}(h:fJ s g w s' g' w')(k:fJ s' g' w' b c d):fJ s g w b c d:=
 ⟨k.rel,h.ext.trans (h.fl▸h.lo▸k.ext),k.fl.trans h.fl,k.lo.trans h.lo,gk h.aL k.aL,λo a=>k.uE o (h.uE o a),
  λo a e=>(k.same o (iP a h.aL) e).trans (h.same o a (λf=>e (k.uE o f))),λo a=>k.IS o (h.IS o a)⟩
mutual
theorem eB{p q:Nat->Bool}(h:∀o,p o=W->q o=W):∀v:V S,cE p v=W->cE q v=W
 |.ptr o _,c=>h o c|.lG o _ _ _,c=>h o c|.sh o _,c=>h o c|.mp o,c=>h o c|.rB o,c=>h o c|.s7 o,c=>h o c|.ub _,c=>by cases c
 |.oY _ _ _,c=>by cases c
 |.rM o m _ _,c=>by
  simp[cE,m7]at c ⊢
  grind
 |.fn _ a b,c=>by simp[cE,m7]at c ⊢;exact c.imp (lV h a) (lV h b)
 |.cT _ v,c=>eB h v c|.agg d,c=>lV h d c|.gM d,c=>lV h d c|.gd _ v,c=>eB h v c|.ty _ _,c=>by cases c
 |.kb _,c=>by cases c
 |.kn _ _,c=>by cases c
 |.dat _,c=>by cases c
 |.nJ _ _ _,c=>by cases c
 |.emp,c=>by cases c
 |.kq _ _ _,c=>by cases c
theorem lV{p q:Nat->Bool}(h:∀o,p o=W->q o=W):∀l:L (V S),iG p l=W->iG q l=W
 |[],a=>by cases a
 |v::l,a=>by simp[iG,m7]at a ⊢;exact a.imp (eB h v) (lV h l)
end
mutual
theorem oS(os:L Nat):∀v:V S,iM os v=cE os.contains v
 |.ptr o _=>rfl|.lG o _ _ _=>rfl|.sh o _=>rfl|.mp o=>rfl|.rB o=>rfl|.s7 o=>rfl|.ub _=>rfl|.rM _ _ _ _=>rfl|.oY _ _ _=>rfl|.fn _ a b=>by simp[iM,cE,vN os a,vN os b]
 |.cT _ v=>oS os v|.agg c=>vN os c|.gM c=>vN os c|.gd _ v=>oS os v|.ty _ _=>rfl|.kb _=>rfl|.kn _ _=>rfl|.dat _=>rfl|.nJ _ _ _=>rfl|.emp=>rfl|.kq _ _ _=>rfl
theorem vN(os:L Nat):∀l:L (V S),oc os l=iG os.contains l
 |[]=>rfl|v::l=>by simp[oc,iG,oS os v,vN os l]
end
theorem jb{dr b:L Nat}{aL a:Nat}(h:∀o∈dr,o∈b)(hn:a<=aL)(o:Nat)(c:dN dr aL o=W):dN b a o=W:=by
 simp only[dN,m7,Fp,nP]at c ⊢
 grind[Nat.le_of_ble_eq_true,Nat.ble_eq_true_of_le]
mutual
def dP(p:Nat->Bool):T->Bool
 |.ptr o _=>p o|.lG o _ _ _=>p o|.sh o _=>p o|.mp o=>p o|.rB o=>p o|.s7 o=>p o|.rM o m _ _=>p o||p m|.fn _ a b=>ju p a||ju p b|.cT _ v=>dP p v|.agg c=>ju p c|.gM c=>ju p c|.gd _ v=>dP p v|_=>J
def ju(p:Nat->Bool):L T->Bool
 |[]=>J|v::l=>dP p v||ju p l
end
mutual
def jc(p:Nat->Bool):∀v:V S,dP p (low v)=cE p v
 |.ty t x=>by
  have:∀l:L D,ju p (l.map .sym)=J:=by
   intro l
   induction l with|nil=>rfl|cons d l e=>simp[ju,dP,e]
  cases t<;>simp[low,e9,cE,dP,this]
 |.kb _=>rfl|.kn _ _=>rfl|.dat _=>rfl|.ptr _ _=>rfl|.nJ _ _ _=>rfl|.lG _ _ _ _=>rfl|.sh _ _=>rfl|.emp=>rfl|.kq _ _ _=>rfl|.fn _ a b=>by simp[low,cE,dP,qd p a,qd p b]
 |.cT _ v=>by simp[low,cE,dP,jc p v]
 |.agg c=>by simp[low,cE,dP,qd p c]
 |.gM c=>by simp[low,cE,dP,qd p c]
 |.gd _ v=>by simp[low,cE,dP,jc p v]
 |.mp _=>rfl|.rB _=>rfl|.s7 _=>rfl|.ub _=>rfl|.rM _ _ _ _=>rfl|.oY _ _ _=>rfl
def qd(p:Nat->Bool):∀l:L (V S),ju p (bz l)=iG p l
 |[]=>rfl|v::l=>by simp[bz,ju,iG,jc p v,qd p l]
end
def nR{p:Nat->Bool}:∀{l:L T},ju p l=J->∀t∈l,dP p t=J
 |[],_,t,b=>by cases b
 |a::l,h,t,b=>by
  simp[ju,Ad]at h;obtain rfl|b:=fy.1 b
  .exact h.1
  .exact nR h.2 t b
structure ad0(p:Nat->Bool)(g g':Gh):Prop where
 bV:∀o b,p o=J->g.bV o=Z b->g'.bV o=Z b
 arr:∀o e x,p o=J->g.arr o e=Z x->g'.arr o e=Z x
 bx:∀b,g.bx b->g'.bx b
theorem aP.on{p:Nat->Bool}{g g':Gh}{w w':World}(q:ad0 p g g')(y:uT g.bx w w'){t:T}{v:Value}(h:aP g w t v)(l:dP p t=J):aP g' w' t v:=by
 induction h with
 |sym d v u=>exact .sym d v (u.mono y q.bx)|kb b=>exact .kb b|kn k n=>exact .kn k n|ptr o off b h=>exact .ptr o off b (q.bV _ _ l h)|nJ d off C val K P u=>exact .nJ d off C val (q.bx _ K) (λj c B=>by rw[y.cell (by rw[l8];exact K)];grind) (λj c B=>(u j c B).mono y q.bx)
 |lG o e i off len cap sz C h=>exact .lG o e i off len cap sz C (q.arr _ _ _ l h)|sh o e len cap sz a h=>exact .sh o e len cap sz a (q.arr _ _ _ l h)|emp a=>exact .emp a|kq k R a S u=>exact .kq k R a S (u.mono y q.bx)|fn f fs z va vc A E _ _ s F=>simp[dP,Ad]at l;exact .fn f fs z va vc A E (λj t v h1 h2=>s j t v h1 h2 (nR l.1 t (hJ h1))) (λj t v h1 h2=>F j t v h1 h2 (nR l.2 t (hJ h1)))|cT t x v _ s=>exact .cT t x v (s l)|agg z I A _ s=>exact .agg z I A (λj t v h1 h2=>s j t v h1 h2 (nR l t (hJ h1)))|gM z I A _ s=>exact .gM z I A (λj t v h1 h2=>s j t v h1 h2 (nR l t (hJ h1)))|gd c t v _ s=>exact .gd c t v (λP=>s P l)|mp o b h=>exact .mp o b (q.bV _ _ l h)|rB o b h=>exact .rB o b (q.bV _ _ l h)|s7 o b h=>exact .s7 o b (q.bV _ _ l h)|ub e b h=>exact .ub e b h|rM o m r i len cap sz a h=>simp[dP,Ad]at l;exact .rM o m r i len cap sz a (q.arr _ _ _ l.2 h)|oY j d c a B u=>exact .oY j d c a B (u.mono y q.bx)
def Gh.base(g:Gh)(p:Nat->Bool):Gh:={g with bV:=λo=>if p o=J then g.bV o else Y,arr:=λo e=>if p o=J then g.arr o e else Y}
def Gh.gP(g:Gh)(p:Nat->Bool):ad0 p g (g.base p):=
 ⟨λo b h e=>by simp[Gh.base,h,e],λo e x h k=>by simp[Gh.base,h,k],λ_ h=>h⟩
theorem Gh.A8{g:Gh}{p:Nat->Bool}{o b:Nat}(h:(g.base p).bV o=Z b):p o=J∧g.bV o=Z b:=by
 grind[Gh.base]
theorem Gh.A9{g:Gh}{p:Nat->Bool}{o e:Nat}{x:ff}(h:(g.base p).arr o e=Z x):p o=J∧g.arr o e=Z x:=by
 grind[Gh.base]
def Gh.gC{k b:Nat}(h:bG (g.base p) k b):p k=J∧bG g k b:=by
 obtain⟨h1,h2|⟨e,x,a,h2,h3⟩⟩:=h
 .exact ⟨(Gh.A8 h2).1,h1,.inl (Gh.A8 h2).2⟩
 .exact ⟨(Gh.A9 h2).1,h1,.inr ⟨e,x,a,(Gh.A9 h2).2,h3⟩⟩
theorem bq.base{g:Gh}{w:World}{s s0:St}(hs:bq g s w){p:Nat->Bool}{aL:Nat}(E:∀o,aL<=o->p o=W)(r:s0.aL=aL)(hn:aL<=s.aL)
  (f:∀o ob,p o=J->s0.ob.get o=Z ob->∃a,s.ob.get o=Z a∧rq (dP p) a ob):bq (g.base p) s0 w:=by
 refine⟨r▸gk hn hs.aL,λo F=>?_,λo b u=>?_,λo e x z=>?_,hs.bx,λo A b h B=>hs.kJ o A b (Gh.gC h).2 (Gh.gC B).2⟩
 .simp_all[Gh.base]
 .let ⟨d,k⟩:=Gh.A8 u
  let ⟨h1,h2,h3⟩:=hs.box o b k
  refine⟨h1,h2,λob c=>?_⟩
  let ⟨a,l,n⟩:=f o ob d c
  let ⟨x,h4,h5⟩:=h3 a l
  exact⟨x,h4,h5.left (λt v C i=>C.on (g.gP p) (λ_ _=>rfl) i) n⟩
 .let ⟨d,q⟩:=Gh.A9 z
  let ⟨h1,h2⟩:=hs.arr o e x q
  refine⟨h1,λob c=>?_⟩
  let ⟨a,l,n⟩:=f o ob d c
  refine(h2 a l).left n (λh=>h.j6 rfl) (λm j y i h=>?_) (funext λI=>by simp[Gh.base,cn d]) (λ_ _ _=>⟨rfl,uZ⟩);have i:p m=J:=i
  simp_all[Gh.base]
def iV(a:Act):Sh->L Value->Prop
 |[],[]=>True|(k,.one _)::l,v::b=>a.tmps[k]?=Z v∧iV a l b|(_,.box _)::l,_::b=>iV a l b|(_,.hid _)::l,b=>iV a l b|_,_=>False
def KT{l:L (V S)}{i:Nat}(h:nth l i=Z v):(bz l)[i]?=Z (low v):=by rw[kO]at h;simp[gH,h]
theorem jV{g:Gh}{w:World}{fr:bU S}{s:bu S}{a:Act}(hf:cL g (bB fr) a w)(hs:bq g (aI s) w):∀{p:Pt}{v:V S},It fr s p=Z v->∃u,aP g w (low v) u
 |.slot k,v,h=>by
  let ⟨u,_,e⟩:=hf.tm k (low v) (by rw[bT,show fr.get k=Z v from h];rfl)
  grind
 |.cell p i,v,h=>by
  simp[It]at h;split at h
  .rename_i o d
   let ⟨u,c⟩:=jV hf hs d
   split at h
   .rename_i B f;cases c with
    |ptr _ _ b j=>
     obtain⟨m,ty,q,t,e⟩:=(hs.box o b j).box (by rw[aS,f];rfl);have h1:=KT h;have h2:i<m.size:=by grind
     exact⟨m[i],e i _ _ h1 (vG h2)⟩
   .cases h
  .cases h
 |.cap p i,v,h=>by
  simp[It]at h;split at h
  .rename_i d
   let ⟨u,c⟩:=jV hf hs d
   cases c with
   |fn _ _ _ C n t E h1 h2=>
    have y:=KT h;have z:i<n.size:=by grind
    exact⟨n[i],h2 i _ _ y (vG z)⟩
  .cases h
 |.Qk p k,v,h=>by
  simp[It]at h;split at h
  .rename_i o d
   let ⟨u,c⟩:=jV hf hs d
   split at h
   .rename_i l f;cases c with
    |rB _ b j=>
     obtain⟨x,q,e⟩:=(hs.box o b j).2.2 _ (by rw[aS,f];rfl);cases e with
     |lp _ r h1 h2 h4 h5 h6 F A=>
      let ⟨u,_,c⟩:=A k (low v) (by
       show(bB l.fr).get k=_;rw[bT,h];rfl)
      grind
   .cases h
  .cases h
def sI{g:Gh}{w:World}{fr:bU S}{s:bu S}{a:Act}(hf:cL g (bB fr) a w)(hs:bq g (aI s) w):∀{sh:Sh}{ps:L Pt}{bs:L Nat},qS fr s sh ps=Z bs->∃bl,PW (λo b=>g.bV o=Z b) bs bl
 |[],[],bs,h=>by simp only[qS,gV]at h;subst h;exact⟨[],rfl,λj t v h=>by simp at h⟩
 |(k,.one c)::l,ps,bs,h=>sI hf hs (sh:=l) (ps:=ps) (by simpa only[qS]using h)
 |(_,.box k)::l,p::ps,bs,h=>by
  simp[qS]at h;split at h
  .rename_i v d;split at h
   .rename_i o r h1 h2;simp at h;subst h;obtain rfl:=Le h1
    let ⟨u,e⟩:=jV hf hs d
    let ⟨b,q,_⟩:=Gi e
    let ⟨bl,h3⟩:=sI hf hs h2
    refine⟨b::bl,by simp[h3.1],λj f i m n=>?_⟩;cases j with|zero=>simp_all|succ j=>exact h3.2 j f i (by simpa using m) (by simpa using n)
   .cases h
  .cases h
 |(_,.hid k)::l,p::ps,bs,h=>by
  simp[qS]at h;split at h
  .rename_i d;split at h
   .rename_i h1 h2;simp at h;subst h;obtain rfl:=Le h1
    let ⟨u,e⟩:=jV hf hs d
    let ⟨b,q,_⟩:=Gi e
    let ⟨bl,h3⟩:=sI hf hs h2
    refine⟨b::bl,by simp[h3.1],λj f i m n=>?_⟩;cases j with|zero=>simp_all|succ j=>exact h3.2 j f i (by simpa using m) (by simpa using n)
   .cases h
  .cases h
 |[],_::_,_,h=>by simp[qS]at h
 |(_,.box _)::_,[],_,h=>by simp[qS]at h
 |(_,.hid _)::_,[],_,h=>by simp[qS]at h
theorem El{g:Gh}{w:World}{fr:bU S}{a:Act}(hf:cL g (bB fr) a w):∀{sh:Sh}{bs bl:L Nat}{vs:L (V S)},uY fr sh bs=Z vs->PW (λo b=>g.bV o=Z b) bs bl->∃vals,iV a sh vals∧PW (aP g w) (bz vs) vals
 |[],[],bl,vs,h,_=>by simp only[uY,gV]at h;subst h;exact⟨[],trivial,rfl,λj t v h=>by grind⟩
 |(k,.one c)::l,bs,bl,vs,h,d=>by
  simp[uY]at h;split at h
  .rename_i v r h1 h2;simp at h;subst h
   let ⟨vals,h3,h4⟩:=El hf h2 d
   let ⟨u,p,s⟩:=hf.tm k (low v) (by rw[bT,h1];rfl)
   refine⟨u::vals,⟨p,h3⟩,by simp[bz,qH,h4.1],λj t i e f=>?_⟩;cases j with|zero=>grind[bz]|succ j=>exact h4.2 j t i (by simpa[bz]using e) (by simpa using f)
  .cases h
 |(_,.box k)::l,o::bs,b::bl,vs,h,d=>by
  simp[uY]at h;split at h
  .rename_i h2;simp at h;subst h;have q:g.bV o=Z b:=d.2 0 _ _ rfl rfl
   let ⟨vals,h3,h4⟩:=El hf h2 (bl:=bl) ⟨by simpa using d.1,λj m n e f=>d.2 (j+1) m n (by simpa using e) (by simpa using f)⟩
   refine⟨Ld k b::vals,h3,by simp[bz,qH,h4.1],λj t i e f=>?_⟩;cases j with|zero=>grind[bz,NZ]|succ j=>exact h4.2 j t i (by simpa[bz]using e) (by simpa using f)
  .cases h
 |(_,.box k)::l,o::bs,[],vs,h,d=>absurd d.1 (by simp)
 |(_,.hid k)::l,o::bs,b::bl,vs,h,d=>by
  simp[uY]at h
  let ⟨vals,h3,h4⟩:=El hf h (bl:=bl) ⟨by simpa using d.1,λj m n e f=>d.2 (j+1) m n (by simpa using e) (by simpa using f)⟩
  exact⟨vals,h3,h4⟩
 |(_,.hid k)::l,o::bs,[],vs,h,d=>absurd d.1 (by simp)
 |[],_::_,_,_,h,_=>by simp[uY]at h
 |(_,.box _)::_,[],_,_,h,_=>by simp[uY]at h
 |(_,.hid _)::_,[],_,_,h,_=>by simp[uY]at h
structure HL(sh:Sh)(bs:List Nat)(a:Act)(g:Gh)(s:bu S)(w:World)(x:fX S.A (kU sh))(s2:bu S)(ow:List Nat)(g2:Gh)(vals:List Value)(al:List ff)(bl:List Nat):Prop where
 rel:bq g2 (aI s2) w
 ext:Ext s.fl g w g2 w
 pr:qy S g2.bx w (kU sh) x vals al bl
 at_:iV a sh vals
 alr:AL g2 al ow
 Ip:PW (λo b=>g2.bV o=Z b) bs bl
 now:ow.Nodup
 XY:∀o∈ow,s.fl<=o∧s.lo<=o∧o<s.aL
 nbs:bs.Nodup
 TX:∀o∈bs,s.fl<=o∧o<s.aL∧o∉ow∧∀e,g2.arr o e=Y
 fl:s2.fl=s.fl
 lo:s2.lo=s.lo
 aL:s2.aL=s.aL
 uE:∀o∈s.wr,o∈s2.wr
 same:∀o,o∉s2.wr->s2.ob.get o=s.ob.get o
 dr:s2.dr=s.dr
 ap:wY al
 owb:∀o∈ow,g.bV o=Y
def kA(hS:fO S){s2:bu S}{fr:bU S}(hf:cL g (bB fr) a w)(hs:bq g (aI s) w){sh:Sh}{bs ow:L Nat}{x:fX S.A (kU sh)}{bl0:L Nat}(q:PW (λo b=>g.bV o=Z b) bs bl0)(h:pX sh bs fr s=Z (x,s2,ow)) :
  ∃g2 vals al bl,HL sh bs a g s w x s2 ow g2 vals al bl:=by
 unfold pX at h;split at h
 .cases h
 rename_i i;split at h
 .cases h
 rename_i x' P ow' k z;split at h
 .cases h
 rename_i s1 A;obtain⟨p,h2⟩|⟨_,h2⟩:=ah h
 rotate_left
 .cases h2
 clear h;simp only[eK]at p;simp at h2;obtain⟨rfl,rfl,rfl⟩:=h2
 let ⟨vals,R,oe⟩:=El hf i q
 have r:=lD p.1;have hap:=zx p.2.1;have t:=lD p.2.2.1;have hbb:k=bs:=by
  have h1:k.length=bs.length:=by have:=beq_iff'.1 p.2.2.2.1;rwa [bR,bR]at this
  have h2:=p.2.2.2.2;clear p z t i q
  induction k generalizing bs with
  |nil=>cases bs with|nil=>rfl|cons=>simp at h1
  |cons c cs ih=>cases bs with|nil=>simp at h1|cons d ds=>simp only[List.zip_cons_cons,List.all_cons,eK]at h2;rw[beq_iff'.1 h2.1,ih (by simpa using h1) h2.2]
 subst hbb
 let ⟨p1,B,p4,p3⟩:=kB hS hs z oe (λo f=>by cases f)
 have hfl:=dx hS _ A
 let ⟨K,l,C,hfr⟩:=eI P hs hfl p1
 let ⟨f1,f2,f3,f4,f5,f6,f7⟩:=eM A
 let ⟨al,bl,m,E,u⟩:=p3 K (aI s1) P l C hfr (λo f=>f) (λo f=>by rw[aS,aS,f6 o (hap o f)])
 have v:∀o∈k,∃ob,s1.ob.get o=Z ob∧s.ob.get o=Z ob∧oO ob=W:=by
  intro o f
  let ⟨_,F,i,n⟩:=p4 o f
  have hnf:o∉P:=λhm=>by have:=(p1 o hm).oH (by rw[aS,i];rfl);rw[nQ n]at this;cases this
  exact⟨F,by rw[f6 o hnf];exact i,i,n⟩
 have I:∀o∈k,∃b,K.bV o=Z b:=by
  intro o f;obtain⟨j,hj,rfl⟩:=qI f;have hj':j<bl.length:=by have:=u.1;omega
  exact⟨bl[j],u.2 j _ _ (iZ hj) (iZ hj')⟩
 refine⟨K,vals,al,bl,l,C,m,R,E,u,r,λo f=>⟨(B o f).1,(B o f).2.1,(B o f).2.2.1⟩,t,λo f=>?_,f1,f2,f3,f4,f5,f7,E.apart l r m.iE,λo f=>?_⟩;rotate_left
 .let ⟨_,_,_,oba,y,hB⟩:=B o f
  exact hs.Aq ((aS s o).trans (by rw[y];rfl)) (uo hB)
 let ⟨F,hv1,hv2,n⟩:=v o f
 refine⟨(p4 o f).1,?_,λhm=>?_,λe=>?_⟩
 .let ⟨b,p⟩:=I o f
  have:=l.lt p;have e1:(aI s1).aL=s1.aL:=rfl;omega
 .let ⟨_,_,_,oba,y,hB⟩:=B o hm
  rw[hv2]at y;cases y;have:=uo hB;rw[nQ n]at this;cases this
 .cases y:K.arr o e with
  |none=>rfl|some x'=>
   exfalso
   let ⟨_,h2⟩:=l.arr o e x' y
   exact FA n (h2 _ (by rw[aS,hv1];rfl))
def apH:Pk->Bool|.one _=>J|_=>W
structure Bi(ex:List Nat)(sh:Sh)(bs:List Nat)(a:Act)(gb:Gh)(jT:bU S)(s0:bu S)(w:World)(al:List ff)(gh:Gh)(BT:bU S)(w9:bu S):Prop where
 rel:bq gh (aI w9) w
 fr:cL gh (bB BT) a w
 le:nA gb gh
 bx:gh.bx=gb.bx
 own:∀k b,bG gh k b->bG gb k b∨(s0.aL<=k∧∃a∈al,a.at b)
 fl:w9.fl=s0.fl
 lo:w9.lo=s0.lo
 aL:s0.aL<=w9.aL
 wr:w9.wr=s0.wr
 dr:w9.dr=s0.dr
 ob:∀o,o<s0.aL->o∉bs->w9.ob.get o=s0.ob.get o
 bV:gh.bV=gb.bV
 arr:∀o,o<s0.aL->∀e,gh.arr o e=gb.arr o e
 n:BT.n=jT.n
 OO:BT.df=jT.df
 get:∀k,k∉ex->(∀p∈sh,p.1=k->apH p.2=W)->BT.get k=jT.get k
theorem vW{a:Act}{w:World}:∀{sh:Sh}{bs:L Nat}{x:fX S.A (kU sh)}{vals:L Value}{al:L ff}{bl:L Nat}{gb:Gh}{jT BT:bU S}{s0 w9:bu S},mS sh bs x jT s0=Z (BT,w9)->jT.n<=bC->
  qy S gb.bx w (kU sh) x vals al bl->iV a sh vals->PW (λo b=>gb.bV o=Z b) bs bl->(∀o∈bs,∀e,gb.arr o e=Y)->(∀a∈al,∀b,a.at b->∀o,¬bG gb o b)->wY al->cL gb (bB jT) a w->bq gb (aI s0) w->
  ∃gh,Bi [] sh bs a gb jT s0 w al gh BT w9:=by
 intro sh
 induction sh with
 |nil=>
  intro bs x vals al bl gb jT BT s0 w9 h hn hp C g hna hfr hap F hs;cases bs with
  |nil=>obtain⟨rfl,rfl⟩:=h;exact⟨gb,hs,F,nA.refl _,rfl,λ_ _ h=>.inl h,rfl,rfl,cu _,rfl,rfl,λ_ _ _=>rfl,rfl,λ_ _ _=>rfl,rfl,rfl,λ_ _ _=>rfl⟩
  |cons o bs=>simp[mS]at h
 |cons q sh ih=>
  intro bs x vals al bl gb jT BT s0 w9 h hn hp C g hna hfr hap F hs
  let ⟨k,pk⟩:=q
  cases pk with
  |one c=>
   cases hp with
   | @one _ _ n xr v vs DC Bc bl h1 h2=>
   let ⟨hv,C⟩:=C
   obtain⟨hb,h⟩|⟨_,h⟩:=ah h
   rotate_left
   .cases h
   simp only[eK]at hb;have hk:k<jT.n:=g9 hb.1;have I:(vw s0 c n).2.aL<=bC:=g9 hb.2;have l:=tG.1 hap
   let ⟨K,d,oe⟩:=m6 (cs:=[c]) (x:=(n,())) h1 hs (λa ha=>hfr a (fh _ ha)) l.1 (by simpa[ig]using I)
   have e1:(ig s0 [c] (n,())).1=[(vw s0 c n).1]:=rfl;have e2:(ig s0 [c] (n,())).2=(vw s0 c n).2:=rfl;have hv1:aP K w (low (vw s0 c n).1) v:=oe.2 0 _ _ rfl rfl;have P:cL K (bB (jT.put k (vw s0 c n).1)) a w:=by
    refine⟨F.size,F.df.imp (λ_ _ ht=>ht.le d.le) d.le.bV,λj t s=>?_⟩;rw[bT,bU.jS _ _ _ _ (iP hk hn)]at s;by_cases hjk:j=k
    .simp_all
    .rw[bJ hjk]at s
     let ⟨u,R,hr⟩:=F.tm j t (by rw[bT];exact s)
     exact⟨u,R,hr.le d.le⟩
   let ⟨gh,f⟩:=ih (gb:=K) h (by simpa[bU.put]using hn) (d.bx▸h2) C (by rw[d.bV];exact g) (λo ho e=>by
     have hol:o<s0.aL:=by
      obtain⟨j,s,rfl⟩:=qI ho;have hj':j<bl.length:=by have:=g.1;omega
      exact hs.lt (g.2 j _ _ (iZ s) (iZ hj'))
     rw[d.arr o hol]
     grind) (λa ha b hb o m=>by
     obtain m|⟨_,a2,ha2,pF⟩:=d.own o b m
     .grind
     grind) l.2.1 P d.rel
   refine⟨gh,f.rel,f.fr,d.le.trans f.le,f.bx.trans d.bx,λk' b m=>?_,f.fl.trans d.fl,f.lo.trans d.lo,gk d.aL f.aL,f.wr.trans d.wr,f.dr.trans d.dr,λo ho A=>?_,f.bV.trans d.bV,λo ho e=>?_,f.n,f.OO,λj hex s=>?_⟩
   .obtain m|⟨y,E,z,k3⟩:=f.own k' b m
    .obtain m|⟨y,E,z,k3⟩:=d.own k' b m
     .exact .inl m
     grind
    .exact .inr ⟨gk d.aL y,E,eO _ z,k3⟩
   .rw[f.ob o (iP ho d.aL) A];exact d.ob o ho
   .rw[f.arr o (iP ho d.aL)];exact d.arr o ho e
   .rw[f.get j hex (λp hp=>s p (iB _ hp)),bU.jS _ _ _ _ (iP hk hn),bJ];intro hjk;cases s (k,.one c) fA hjk.symm
  |box B=>
   cases hp with
   | @box _ _ n xr b hx vs DC Bc bl hhp h1 h2=>
   cases bs with
   |nil=>exact absurd g.1 (by simp)
   |cons o bs=>
   obtain⟨hb,h⟩|⟨_,h⟩:=ah h
   rotate_left
   .cases h
   have I:(kR s0 (fD bs) B n).2.aL<=bC:=g9 hb;have l:=tG.1 hap;have mR:gb.bV o=Z b:=g.2 0 _ _ rfl rfl
   let ⟨K,d,agj⟩:=o5 h1 (AF (bs:=bs) (bl:=bl) ⟨by simpa using g.1,λj a c y z=>g.2 (j+1) a c (by simpa using y) (by simpa using z)⟩) hs (λa ha=>hfr a (fh _ ha)) l.1 I
   have hol:o<s0.aL:=hs.lt mR;have hk:=d.rel.tS (o:=o) (b:=b) (by rw[d.bV];exact mR) hhp agj (λe=>by rw[d.arr o hol];simp_all);have hk2:bq K (aI {(kR s0 (fD bs) B n).2 with ob:=(kR s0 (fD bs) B n).2.ob.set aR o (kR s0 (fD bs) B n).1}) w:=by
    have:=fL (kR s0 (fD bs) B n).2 o (kR s0 (fD bs) B n).1 (kR s0 (fD bs) B n).2.wr
    simp_all
   have P:cL K (bB jT) a w:=⟨F.size,F.df.imp (λ_ _ ht=>ht.le d.le) d.le.bV,λj t s=>by
    let ⟨u,R,hr⟩:=F.tm j t s
    exact⟨u,R,hr.le d.le⟩⟩
   let ⟨gh,f⟩:=ih (bs:=bs) (bl:=bl) (gb:=K) h hn (d.bx▸h2) C ⟨by simpa using g.1,λj E c y z=>by rw[d.bV];exact g.2 (j+1) E c (by simpa using y) (by simpa using z)⟩
    (λr i e=>by
     have ago:r<s0.aL:=by
      obtain⟨j,s,rfl⟩:=qI i;have hj':j<bl.length:=by have:=g.1;grind
      exact hs.lt (g.2 (j+1) bs[j] bl[j] (by simp) (by simp))
     rw[d.arr r ago]
     simp_all) (λa ha b hb o m=>by
     obtain m|⟨_,a2,ha2,pF⟩:=d.own o b m
     .grind
     grind) l.2.1 P hk2
   refine⟨gh,f.rel,f.fr,d.le.trans f.le,f.bx.trans d.bx,λk' b m=>?_,f.fl.trans d.fl,f.lo.trans d.lo,gk d.aL f.aL,f.wr.trans d.wr,f.dr.trans d.dr,λr i A=>?_,f.bV.trans d.bV,λr i e=>?_,f.n,f.OO,λj hex s=>?_⟩
   .obtain m|⟨y,E,z,k3⟩:=f.own k' b m
    .obtain m|⟨y,E,z,k3⟩:=d.own k' b m
     .exact .inl m
     grind
    .exact .inr ⟨gk d.aL y,E,eO _ z,k3⟩
   .have hne:r≠o:=λe=>A (by simp_all);rw[f.ob r (iP i d.aL) (λhm=>A (iB _ hm))];rw[Tr.dA _ _ _ _ _ hne];exact d.ob r i
   .rw[f.arr r (iP i d.aL)];exact d.arr r i e
   .exact f.get j hex (λp hp=>s p (iB _ hp))
  |hid B=>
   cases hp with
   | @hid _ _ n xr b hx vs DC Bc bl hhp h1 h2=>
   cases bs with
   |nil=>exact absurd g.1 (by simp)
   |cons o bs=>
   obtain⟨hb,h⟩|⟨_,h⟩:=ah h
   rotate_left
   .cases h
   have I:(kR s0 (fD bs) B n).2.aL<=bC:=g9 hb;have l:=tG.1 hap;have mR:gb.bV o=Z b:=g.2 0 _ _ rfl rfl
   let ⟨K,d,agj⟩:=o5 h1 (AF (bs:=bs) (bl:=bl) ⟨by simpa using g.1,λj a c y z=>g.2 (j+1) a c (by simpa using y) (by simpa using z)⟩) hs (λa ha=>hfr a (fh _ ha)) l.1 I
   have hol:o<s0.aL:=hs.lt mR;have hk:=d.rel.tS (o:=o) (b:=b) (by rw[d.bV];exact mR) hhp agj (λe=>by rw[d.arr o hol];simp_all);have hk2:bq K (aI {(kR s0 (fD bs) B n).2 with ob:=(kR s0 (fD bs) B n).2.ob.set aR o (kR s0 (fD bs) B n).1}) w:=by
    have:=fL (kR s0 (fD bs) B n).2 o (kR s0 (fD bs) B n).1 (kR s0 (fD bs) B n).2.wr
    simp_all
   have P:cL K (bB jT) a w:=⟨F.size,F.df.imp (λ_ _ ht=>ht.le d.le) d.le.bV,λj t s=>by
    let ⟨u,R,hr⟩:=F.tm j t s
    exact⟨u,R,hr.le d.le⟩⟩
   let ⟨gh,f⟩:=ih (bs:=bs) (bl:=bl) (gb:=K) h hn (d.bx▸h2) C ⟨by simpa using g.1,λj E c y z=>by rw[d.bV];exact g.2 (j+1) E c (by simpa using y) (by simpa using z)⟩
    (λr i e=>by
     have ago:r<s0.aL:=by
      obtain⟨j,s,rfl⟩:=qI i;have hj':j<bl.length:=by have:=g.1;grind
      exact hs.lt (g.2 (j+1) bs[j] bl[j] (by simp) (by simp))
     rw[d.arr r ago]
     simp_all) (λa ha b hb o m=>by
     obtain m|⟨_,a2,ha2,pF⟩:=d.own o b m
     .grind
     grind) l.2.1 P hk2
   refine⟨gh,f.rel,f.fr,d.le.trans f.le,f.bx.trans d.bx,λk' b m=>?_,f.fl.trans d.fl,f.lo.trans d.lo,gk d.aL f.aL,f.wr.trans d.wr,f.dr.trans d.dr,λr i A=>?_,f.bV.trans d.bV,λr i e=>?_,f.n,f.OO,λj hex s=>?_⟩
   .obtain m|⟨y,E,z,k3⟩:=f.own k' b m
    .obtain m|⟨y,E,z,k3⟩:=d.own k' b m
     .exact .inl m
     grind
    .exact .inr ⟨gk d.aL y,E,eO _ z,k3⟩
   .have hne:r≠o:=λe=>A (by simp_all);rw[f.ob r (iP i d.aL) (λhm=>A (iB _ hm))];rw[Tr.dA _ _ _ _ _ hne];exact d.ob r i
   .rw[f.arr r (iP i d.aL)];exact d.arr r i e
   .exact f.get j hex (λp hp=>s p (iB _ hp))
theorem lC{ow:L Nat}{aL o:Nat}(h:dN ow aL o=J):o∉ow∧o<aL:=by
 grind[dN,Nat.ble_eq_true_of_le]
def oR{ow:L Nat}{aL o:Nat}(h1:o∉ow)(h2:o<aL):dN ow aL o=J:=by simp[dN,Ad,Fp,Xq];refine⟨h1,?_⟩;cases h:Nl aL o with|false=>rfl|true=>have:=g9 h;omega
theorem Vi{p q:Nat->Bool}{v:V S}(h:cE p v=W)(a:cE q v=J):∃o,p o=W∧q o=J:=by
 obtain h1|h1:=Classical.em (∃o,p o=W∧q o=J)
 .exact h1
 grind[eB]
theorem uj(p:Nat->Bool)(v:V S):uS (dP p) (low v) (low (jx p v)):=by cases a:cE p v with|true=>exact .inr ⟨_,by simp[jx,a,eP];rfl⟩|false=>exact .inl ⟨by simp[jx,a,ez],by rw[jc];exact a⟩
theorem rU(p:Nat->Bool)(v:V S):uS (dP p) (low (jx p v)) (low (jx p v)):=by cases a:cE p v with|true=>exact .inr ⟨_,by simp[jx,a,eP];rfl⟩|false=>exact .inl ⟨rfl,by simp_all[jx,jc]⟩
theorem EN(p:Nat->Bool)(t:Ty)(x:den S.A t):uS (dP p) (e9 S t x) (e9 S t x):=.inl ⟨rfl,jc (S:=S) p (.ty t x)⟩
theorem NV(p:Nat->Bool)(a b:Ty)(l:L (den S.A a×den S.A b)):rq (dP p) (cU (.map a b l:ux S)) (cU (.map a b l)):=by
 refine⟨rfl,λj t u h1 h2=>?_⟩;rw[h1]at h2;cases h2;simp only[kN,fV]at h1;obtain⟨q,_,rfl⟩:=h1
 grind[EN]
def ack{f:V S->V S}(l:LpV S)(t0:Tr (V S))(hf:∀v,t0.get=t0.get->uS (dP p) (low v) (low (f v))) :
  rq (dP p) (cU (.lp {l with fr:={l.fr with tm:=t0}})) (cU (.lp {l with fr:={l.fr with tm:=t0.mapA f}})):=by
 refine⟨rfl,rfl,λk u b=>?_⟩;have a:((t0.mapA f).map low).get k=Z u:=b;rw[Tr.get_map,Tr.qi,Ft,fV]at a;obtain⟨v,c,rfl⟩:=a;exact⟨low v,by show(t0.map low).get k=_;rw[Tr.get_map,c];rfl,hf v rfl⟩
theorem nK(p:Nat->Bool)(ob:ux S):rq (dP p) (cU ob) (cU (gJ p ob)):=by
 cases ob with
 |box i=>
  refine⟨by simp[eR],λj t u h1 h2=>?_⟩;simp only[gH,kN,fV]at h1 h2;obtain⟨v,f,rfl⟩:=h1;obtain⟨g,⟨b,a,rfl⟩,rfl⟩:=h2
  grind[uj]
 |map d h l=>exact NV p d h l|Im d l=>
  refine⟨by simp,λj t u h1 h2=>?_⟩;simp only[kN,fV]at h1 h2;obtain⟨v,f,rfl⟩:=h1;obtain⟨g,⟨b,a,rfl⟩,rfl⟩:=h2
  grind[EN,uj]
 |lp l=>exact ack l l.fr.tm λv _=>uj p v|arr=>rfl|kS=>rfl|qE=>rfl|zP=>rfl|rws=>rfl|gone=>rfl|FQ=>rfl|kX n j l era m e hole=>
  cases c:p m with|true=>exact .inr (by simp[gJ,c,eP];rfl)|false=>exact .inl ⟨by simp[gJ,c,ez];rfl,c⟩
theorem Hs(p:Nat->Bool)(ob:ux S):rq (dP p) (cU (gJ p ob)) (cU (gJ p ob)):=by
 cases ob with
 |box i=>refine⟨rfl,λj t u h1 h2=>?_⟩;rw[h1]at h2;cases h2;simp only[gH,kN,fV]at h1;obtain⟨g,⟨v,c,rfl⟩,rfl⟩:=h1;exact rU p v
 |map d h l=>exact NV p d h l|Im d l=>
  refine⟨rfl,λj t u h1 h2=>?_⟩;rw[h1]at h2;cases h2;simp only[kN,fV]at h1;obtain⟨g,⟨v,c,rfl⟩,rfl⟩:=h1
  grind[EN,rU]
 |lp l=>refine⟨rfl,rfl,λk u e=>?_⟩;refine⟨u,e,?_⟩;have a:((l.fr.tm.mapA (jx p)).map low).get k=Z u:=e;rw[Tr.get_map,Tr.qi,Ft,fV]at a;obtain⟨v,c,rfl⟩:=a;exact rU p v
 |arr=>rfl|kS=>rfl|qE=>rfl|zP=>rfl|rws=>rfl|gone=>rfl|FQ=>rfl|kX n j l era m f hole=>
  cases b:p m with|true=>simp[gJ,b,eP];rfl|false=>simp[gJ,b,ez];exact .inl ⟨rfl,b⟩
def zo(h:cE p v=J):jx p v=v:=by simp[jx,h,ez]
theorem nY{p:Nat->Bool}{ob:ux S}(h:gz p ob=J):gJ p ob=ob:=by
 cases ob with
 |box g=>
  simp[gJ,ux.box.injEq];have c:∀{l:L (V S)},iG p l=J->∀v∈l,cE p v=J:=by
   intro l
   induction l with
   |nil=>intro _ v b;cases b
   |cons a l d=>
    intro h v b;simp[iG,Ad]at h;obtain rfl|b:=fy.1 b
    .exact h.1
    .exact d h.2 v b
  have:∀v∈g,jx p v=v:=λv b=>zo (c h v b);exact(Af this).trans (List.map_id _)
 |Im e l=>
  simp only[gJ];have c:∀{l:L (den S.A e×V S)},y9 p l=J->∀v∈l,cE p v.2=J:=by
   intro l
   induction l with
   |nil=>intro _ v b;cases b
   |cons a l d=>
    intro h v b;simp[y9,Ad]at h;obtain rfl|b:=fy.1 b
    .exact h.1
    .exact d h.2 v b
  have:∀q∈l,((q.1,jx p q.2):den S.A e×V S)=q:=λq i=>by rw[zo (c h q i)]
  rw[(Af this).trans (List.map_id _)]
 |lp l=>simp[gJ,Es (λv=>zo) (show mD (cE p) l.fr.tm=J from h)]|kX n j l era m f hole=>have h:p m=J:=h;simp[gJ,h,ez]|_=>rfl
section
variable {bs ow ds:List Nat}{fr:bU S}{s1:bu S}
def sY(a:∀b∈bs,b<bC)(o:Nat):(cG ds ow bs fr s1).2.ob.get o=if o∈bs then Y else(s1.ob.get o).map (gJ (dN ow s1.aL)):=by show(bs.foldl (λt o=>t.del aR o) (s1.ob.mapA _)).get o=_;rw[Tr.nU bs _ o a,Tr.qi]
end
def Dl:∀(l:L (V S))(k:Nat)(t:Tr (V S)),(mF l k t).map low=BN (bz l) k (t.map low)
 |[],_,_=>rfl|a::l,k,t=>by simp only[mF,bz,BN];rw[Dl l,Tr.mj]
theorem sO{g:Gh}{w:World}{n:Nat}(hn:n<bC){args:L (V S)}{vs:Array Value}(hl:args.length<=n)(a:PW (aP g w) (bz args) vs.toList) :
  cL g (bB {n:=n,tm:=mF args 0 .nil}) {tmps:=vs++Array.replicate (n-vs.size) undef,defers:=[]} w:=by
 have c:(bz args).length=vs.size:=by simpa using a.1
 have d:args.length=vs.size:=by rw[<-c,eR]
 refine⟨by simp[bB];omega,.nil,λj t b=>?_⟩;have e:(bB {n:=n,tm:=mF args 0 .nil}).get j=(BN (bz args) 0 .nil).get j:=by show((mF args 0 .nil).map low).get j=_;rw[Dl];rfl
 rw[e,Gs _ _ _ (by omega)]at b;split at b
 .refine ⟨vs[j],?_,a.2 j t _ b (by simp)⟩
  grind
 .cases b
end
end TL
end
end
