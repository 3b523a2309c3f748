import Derived.Laws.OwnMore
import Derived.Test.YthlenkomcaiomaaGreatG1
set_option linter.all false
set_option maxRecDepth 100000
set_option maxHeartbeats 0
noncomputable section
open Option renaming some->Z,none->Y
open Bool renaming true->W,false->J
open Nat renaming beq->Nq,ble->Nl,blt->Nt,succ->Ns,add->Na
open Go.Result(andThen_ok)
open Go.Sem(run_bind run_pure)
section
namespace TL
open Go
variable {S:Sg}
section
def yx(o:Oper):L Nat:=(o.after.toList.filter (Region.binds .any)).map (·.on)
def O2:L Oper->L Nat->L Nat
 |[],a=>a|o::l,a=>O2 l (a++[(yx o).foldl (λb e=>b||| (1 <<< e||| a.getD e 0)) 0])
def w7(ops:L Oper):L Nat:=O2 ops []
def vG:L Oper->Nat->Bool
 |[],_=>W|o::l,n=>(yx o).all (λe=>Nt e n)&&vG l (Ns n)
def MC(o:Oper)(k:Nat):Bool:=o.op.operands.toList.any λx=>match x with|.tmp j=>Nq j k|_=>J
def agU(ops:L Oper)(a:L Nat):Bool:=
 ops.zipIdx.all λ(o,i)=>match o.dst with
  |none=>W|some d=>Nt d bC&&ops.zipIdx.all λ(p,j)=>bif Nq i j then !(MC p d)else !(match p.dst with|some e=>Nq e d|none=>J)&&(!(MC p d)||((a.getD j 0).testBit i||(a.getD i 0).testBit j))
def Uc(ops:L Oper)(a:L Nat)(i:Nat)(o:Oper):Bool:=match o.dst with
 |none=>J|some d=>ops.zipIdx.any λ(p,j)=>MC p d&&(a.getD i 0).testBit j
def ae6(ops:L Oper):Bool:=ops.all λo=>o.op.operands.toList.all λx=>match x with|.tmp j=>Nt j bC|_=>W
def Ri(ops:L Oper)(a:L Nat):Bool:=
 ops.zipIdx.all λ(o,i)=>match o.guard with
  |none=>W|some (j,_)=>(a.getD i 0).testBit j
def e8(o:Oper):Bool:=match o.op with|.alloc _=>o.guard.isNone|_=>J
def UA(a b:Nat):Bool:=Nq (a&&& b) a
abbrev Wv:=L (Nat×Oper)
section
variable (E:eF S)(call:fY S){ω:Type}
def Qs(ops:L Oper)(a:L Nat)(done:Nat)(fr:bX S):Wv->O (Nat×Oper)
 |[]=>Y|(i,o)::l=>bif !(done.testBit i)&&(UA (a.getD i 0) done&&((!(e8 o)&&!(Uc ops a i o))&&(vA ops fr o||(match iK ops fr o with|some (Z _)=>BV E (rX fr o.op) o|some Y=>BV E fr o|none=>J))))
   then Z (i,o)else Qs ops a done fr l
def Qt(a:L Nat)(done vS:Nat):Wv->O (Nat×Oper)
 |[]=>Y|(i,o)::l=>bif !(done.testBit i)&&(!(e8 o)&&UA (a.getD i 0) (done||| vS))then Z (i,o)else Qt a done vS l
def yY(E:fX)(a:Nat):Wv->bX S->aY S->O (bX S×aY S)
 |[],fr,s=>Z (fr,s)|(i,o)::l,fr,s=>bif a.testBit i then match o.op,o.dst with
   |.alloc t,Z d=>match E.E.ti t with
    |some b=>bif Nt s.aE bC&&Nt d fr.n then yY E a l (fr.put d (.ptr s.aE 0)) (dh s (.box (b.zero.map zeroV)))else Y|none=>Y
   |_,_=>Y
  else yY E a l fr s
def jM(p:Nat->Bool)(fr:bX S)(o:Op):Bool:=o.operands.toList.any λx=>match cA fr x with
 |some v=>cG p v|none=>J
def NG:Op->Bool
 |.move _|.assign _|.nilCheck _|.fieldAddr ..=>W|_=>J
def Fj(ops:L Oper)(a:L Nat)(done i:Nat)(fr:bX S)(aE:Nat)(wr ow:L Nat):Wv->Bool
 |[]=>W|(j,o)::l=>(!(done.testBit j)||(e8 o||((a.getD i 0).testBit j||(!(jM (dL wr aE) fr o.op||jM (dL wr aE) (rX fr o.op) o.op)||(NG o.op&&!(jM (λx=>ow.contains x) fr o.op||jM (λx=>ow.contains x) (rX fr o.op) o.op))))))&&Fj ops a done i fr aE wr ow l
def yL(all:Wv)(done:Nat):Nat:=all.foldl (λb(i,o)=>bif e8 o&&!(done.testBit i)then b||| 1 <<< i else b) 0
def agW(ops:L Oper)(fr:bX S):bX S:={fr with tm:=(ops.filterMap (·.dst)).foldl (λt k=>t.del aK k) fr.tm}
def uP(ops:L Oper)(a:L Nat)(all:Wv)(kp:bX S->V S->aY S->O ω)(k:bX S->aY S->O ω):Nat->Nat->bX S->aY S->O ω
 |0,_,_,_=>Y|n+1,done,fr,s=>
  match Qs E ops a done fr all with
  |some (i,o)=>bif gI fr o.dst then bif vA ops fr o then uP ops a all kp k n (done||| 1 <<< i) (fr.jq o.dst fR) s else match iK ops fr o with
    |none=>Y|some Y=>fD E Y fr s o λt=>Kt (TM ops o.dst) t λt=>uP ops a all kp k n (done||| 1 <<< i) (fr.jq o.dst t) s|some (Z c)=>aT (Oj c fr o.op) (fD E (Z c) (rX fr o.op) s o λt=>uP ops a all kp k n (done||| 1 <<< i) (fr.jq o.dst (.gd c t)) s)
   else Y
  |none=>
   let b:=yL all done
   match Qt a done b all with
   |some (i,o)=>
    bif all.all (λ(j,p)=>done.testBit j||(e8 p||(Nq i j||(a.getD j 0).testBit i)))then
     match yY E.T (b&&& a.getD i 0) all fr s with
     |none=>Y|some (d,f)=>
      pU E call ops o d {f with wr:=[]} (λt e=>kp (agW ops d) t {e with wr:=e.wr++f.wr}) λt e g=>
       bif Fj ops a done i fr s.aE e.wr g all then uP ops a all kp k n (done||| (b&&& a.getD i 0)||| 1 <<< i) ((dy g d).jq o.dst t) {e with wr:=e.wr++f.wr}else Y
    else Y
   |none=>match yY E.T b all fr s with
    |none=>Y|some (fr,s)=>bif all.all (λ(j,p)=>done.testBit j||e8 p)then k fr s else Y
def RS(E:fX)(n:Nat)(l:L Oper):Bool:=l.all λo=>bif e8 o then(match o.op with
  |.alloc t=>(E.E.ti t).isSome|_=>W)&&(match o.dst with|some d=>Nt d n|none=>W)
 else W
def Zv(E:eF S)(fr:bX S)(s:aY S)(l:L Oper)(a:L Nat):Bool:=vG l 0&&(agU l a&&(Ri l a&&(ae6 l&&(RS E.T fr.n l&&Nq s.fl 0))))
end
inductive LO(X R B P:Type) where
 |next (x:X)|out (j:Nat) (x:X)|ret (b:B) (r:R)|iE (b:B) (p:P)
def iter{X R B P:Type}(F:X->O (LO X R B P)):Nat->X->O (LO X R B P)
 |0,_=>Y|n+1,x=>match F x with
  |none=>Y|some (.next y)=>iter F n y|some (.out j y)=>Z (.out j y)|some (.ret y r)=>Z (.ret y r)|some (.iE y p)=>Z (.iE y p)
def PG:Code->Bool
 |.region _ c _=>c.toList.all λo=>match o.op with|.defer _=>J|_=>W
 |.seq a b=>PG a&&PG b|.cond _ a b=>PG a&&PG b|.block _ b=>PG b|.loop b=>PG b|.scope _=>J|.rangeFunc ..=>J|_=>W
def vw:Code->L Nat
 |.region _ d _=>d.toList.foldl (λl o=>o.op.operands.toList.foldl (λl x=>match x with|.tmp k=>k::l|_=>l) l) []
 |.seq a b=>vw a++vw b|.cond c a b=>(match c with|.tmp k=>[k]|_=>[])++(vw a++vw b)
 |.block _ b=>vw b|.loop b=>vw b|_=>[]
def Om(l:L Nat)(fr:bX S):bX S:={n:=fr.n,tm:=l.foldl (λt k=>match fr.get k with|some v=>t.set aK k v|none=>t) .nil,df:=[]}
def Qg:L Nat->L (V S)->Tr (V S)->Tr (V S)
 |k::a,v::b,t=>Qg a b (t.set aK k v)|_,_,t=>t
def KF:LoopState->O Code->Bool
 |.ready,Y=>W|_,_=>J
def afq{S:Sg}:LoopState->O Code->O (vo S)
 |.ready,Y=>Z .rR|.done,Z (.exit i)=>Z (.ext i)|.done,Z .ret=>Z .ret|_,_=>Y
def T0:Operand->L Nat
 |.tmp k=>[k]|_=>[]
def eK:Code->L Nat
 |.region _ d _=>d.toList.filterMap (·.dst)|.seq a b=>eK a++eK b|.cond c a b=>T0 c++(eK a++eK b)|.block _ b=>eK b|.loop b=>eK b|.rangeFunc _ _ a b=>eK a++eK b|.scope b=>eK b|_=>[]
def kX:Code->L Nat
 |.seq a b=>kX a++kX b|.cond _ a b=>kX a++kX b|.block i b=>(kX b).filter λj=>!(Nq i j)|.loop b=>kX b|.rangeFunc _ _ a b=>kX a++kX b|.scope b=>kX b|.exit i=>[i]|_=>[]
def wT:L Nat->L Nat
 |[]=>[]|a::l=>a::(wT l).filter λb=>!(Nq a b)
abbrev LOT(S:Sg)(sh:Sh)(rs:L Ck):=LO (ga S.A (lB sh)) (gx S.A rs) (ga S.A (lB (PF sh))) (den S.A S.pt)
def Zl(ds:L Nat):Sh->L Nat
 |[]=>[]|(k,.one (.own _))::l=>bif ds.contains k then Zl ds l else k::Zl ds l|_::l=>Zl ds l
def QG:Sh->L Nat
 |[]=>[]|(k,.one (.own _))::l=>k::QG l|_::l=>QG l
def WW(fr:bX S)(s:aY S)(c:Nat):O (V S):=bif Nt c 1000000 then fr.get c else match fr.get (Nat.div (Nat.sub c 1000000) 1000)with
 |some (.ptr o 0)=>match s.ob.get o with
  |some (.box a)=>nth a (Nat.mod (Nat.sub c 1000000) 1000)|_=>Y
 |_=>Y
def Wf(fr:bX S)(s:aY S)(al:L (Nat×Nat)):Bool:=al.all λp=>match fr.get p.1,WW fr s p.2 with
 |some (.sh o r),Z (.sh a b)=>Nq o a&&Nq r b|_,_=>J
def adv(fr:bX S)(ow:L Nat)(al:L (Nat×Nat)):Bool:=al.all λp=>match fr.get p.1 with
 |some (.sh o _)=>ow.contains o|_=>J
def mH(s:aY S):L (Nat×Nat)->bX S->bX S
 |[],fr=>fr|p::l,fr=>mH s l (match WW fr s p.2 with|some v=>fr.put p.1 v|none=>fr)
def ac3(fr:bX S)(l:L Nat):Bool:=l.all λk=>match fr.get k with
 |some (.sh _ _)=>W|_=>J
def Ft(ds:L Nat)(sh:Sh):Bool:=sh.all λp=>match p.2 with
 |.one _=>ds.contains p.1|.box _=>W|.hid _=>W
abbrev Rv:=L (Nat×Ty)
def Fv(rv:Rv):L Ck:=rv.map λp=>.dat p.2
def W4(fr:bX S):Rv->O (L (V S))
 |[]=>Z []|(k,_)::l=>match fr.get k,W4 fr l with
  |some v,Z r=>Z (v::r)|_,_=>Y
def yF:(rv:Rv)->gx S.A (Fv rv)->bX S->bX S
 |[],_,fr=>fr|(k,_)::l,x,fr=>yF l x.2 (fr.put k (.ty _ x.1))
def bX.tK(fr:bX S)(c:Operand)(b:Bool):bX S:=match c with
 |.tmp k=>bif Nt k fr.n then fr.put k (.kb b)else fr|_=>fr
noncomputable def IV{ω:Type}(e:Bool)(x y:O ω):O ω:=bif e then(open Classical in if x=y then y else Y)else y
def acu(l:L Nat)(i:Nat):Nat:=match l with
 |[]=>0|a::l=>bif Nq a i then 0 else Ns (acu l i)
def Ut(aE:Nat)(bs wr:L Nat):Bool:=wr.all λo=>Nl aE o||bs.contains o
def vF{ω:Type}(sh:Sh)(bs:L Nat)(aE:Nat)(fr:bX S)(s:aY S)(f:ga S.A (lB sh)->O ω):O ω:=
 match qE sh bs fr s with
 |some (x,a,b)=>bif Ut aE bs a.wr&&(b.all (λo=>Nl aE o)&&a.dr.all (λo=>Nl aE o))then f x else Y|none=>Y
section
variable (E:eF S)(call:fY S)(n:Nat)(fid:FuncId)(rv:Rv)
def Zk{ω:Type}(k:bX S->aY S->O ω)(Q:vo S->bX S->aY S->O ω):vo S->bX S->aY S->O ω
 |.rR,fr,s=>k fr s|.ext i,fr,s=>Q (.ext i) fr s|.ret,fr,s=>Q .ret fr s|.iE v,fr,s=>Q (.iE v) fr s
def Ou{ω:Type}(i:Nat)(Q:vo S->bX S->aY S->O ω):vo S->bX S->aY S->O ω
 |.rR,fr,s=>Q .rR fr s|.ext j,fr,s=>match Nq j i with
  |true=>Q .rR fr s|false=>Q (.ext j) fr s
 |.ret,fr,s=>Q .ret fr s|.iE v,fr,s=>Q (.iE v) fr s
def abI{ω:Type}(Q:vo S->bX S->aY S->O ω)(fr:bX S)(s:aY S):L Nat->Nat->O ω
 |[],_=>Y|[i],_=>Q (.ext i) fr s|i::l,j=>match j with
  |0=>Q (.ext i) fr s|j+1=>abI Q fr s l j
def uF(aE:Nat)(s:aY S):L (sU S)->O (L Nat)
 |[]=>Z []|.mark o::l=>match s.ob.get o with
  |some .Ah=>bif Nl aE o then(match uF aE s l with|some r=>Z (o::r)|none=>Y)else Y
  |_=>Y
 |_=>Y
def aiK(fl aE:Nat)(base:bX S×aY S):Bool:=match base.1.df with
 |.marks o::_=>(match base.2.ob.get o with
  |some .Gd=>Nt o aE&&Nl fl o|_=>J)
 |_=>J
def Qi(aE:Nat)(base:bX S×aY S)(fr':bX S)(s':aY S):Bool:=
 match uF aE s' (fr'.df.take (Nat.sub (cD fr'.df) (cD base.1.df)))with
 |some os=>sw os&&(Nq (Na (cD os) (cD base.1.df)) (cD fr'.df)&&(Nq (cD os) 0||aiK s'.fl aE base))|none=>J
def Qn(sh:Sh)(bs:L Nat)(aE:Nat)(a:L Nat)(base:bX S×aY S)(c:Bool)(al:L (Nat×Nat))(ex:vo S)(fr':bX S)(s':aY S):O (LOT S sh (Fv rv)):=
 bif Qi aE base fr' s' then match ex with
  |.rR=>bif Wf fr' s' al then vF sh bs aE fr' s' (λy=>Z (.next y))else Y|.ext j=>bif a.contains j&&Wf fr' s' al then vF sh bs aE fr' s' (λy=>Z (.out (acu a j) y))else Y|.ret=>match W4 fr' rv with
   |none=>Y|some d=>match gf s' (Fv rv) d with
    |some (r,b,_)=>match dU s' b with
     |some s'=>vF (PF sh) bs aE fr' s' (λy=>Z (.ret y r))|none=>Y
    |none=>Y
  |.iE v=>bif c then match gf s' [.dat S.pt] [v]with
    |some (p,b,_)=>match dU s' b with
     |some s'=>vF (PF sh) bs aE fr' s' (λy=>Z (.iE y p.1))|none=>Y
    |none=>Y
   else Y
  else Y
def FE(e:{ω:Type}->(vo S->bX S->aY S->O ω)->bX S->aY S->O ω)(sh:Sh)(bs:L Nat)(aE:Nat)(b:L Nat)(base:bX S×aY S)(f:Bool)(al:L (Nat×Nat))(x:ga S.A (lB sh)):O (LOT S sh (Fv rv)):=
 match m9 sh bs x base.1 base.2 with
 |none=>Y|some (c,a)=>e (λg d h=>Qn rv sh bs aE b base f al g d {h with lo:=base.2.lo}) (mH a al c) {a with lo:=aE}
def uM:Code->O Nat
 |.region id _ _=>Z id|.seq a b=>match uM a with
  |some k=>Z k|none=>uM b
 |.cond _ a b=>match uM a with
  |some k=>Z k|none=>uM b
 |.block _ b=>uM b|.loop b=>uM b|.scope b=>uM b|_=>Y
def ajx(a b:Code):Nat:=match uM a with
 |some k=>Na 1000000 k|none=>match uM b with
  |some k=>Na 1000000 k|none=>999999
noncomputable def TZ{ω:Type}(c:Operand)(A B:(vo S->bX S->aY S->O ω)->bX S->aY S->O ω)(Q:vo S->bX S->aY S->O ω)(fr:bX S)(s:aY S):O ω:=match cA fr c with
  |some (.kb W)=>A Q fr s|some (.kb J)=>B Q fr s|some (.ub e)=>IV e (A Q (fr.tK c W) s) (B Q (fr.tK c J) s)|some v=>match jk v with
   |some t=>ai t (A Q (fr.tK c W) s) (B Q (fr.tK c J) s)|none=>Y
  |none=>Y
def Yp(k:{ω:Type}->(vo S->bX S->aY S->O ω)->bX S->aY S->O ω){ω:Type}(sh:Sh)(i:L Pt)(al:L (Nat×Nat))(g h:L Nat)(Q:vo S->bX S->aY S->O ω)(fr:bX S)(s:aY S):O ω:=
 match rQ fr s sh i with
 |none=>Y|some e=>
  let ds:=g++(Zl g sh++al.map (·.1))
  match qE sh e fr s with
  |none=>Y|some (l,b,f)=>
   let base:=cJ ds f e fr b
   bif (Ft ds sh&&(ac3 fr (Zl g sh)&&(Wf fr s al&&adv fr f al)))&&ds.all (λd=>Nt d fr.n)then
    ah (FE rv k sh e b.aE h base E.pn al l) λ(o:LOT S sh (Fv rv))=>match o with
     |.next x=>match m9 sh e x base.1 base.2 with
      |none=>Y|some (c,a)=>Q .rR (mH a al c) {a with wr:=b.ob.jH (gD (dL f b.aE))++(e++b.wr),dr:=f++b.dr}
     |.out j x=>match m9 sh e x base.1 base.2 with
      |none=>Y|some (c,a)=>abI Q (mH a al c) {a with wr:=b.ob.jH (gD (dL f b.aE))++(e++b.wr),dr:=f++b.dr} h j
     |.ret x r=>match m9 (PF sh) e x base.1 base.2 with
      |none=>Y|some (c,a)=>Q .ret (yF rv r c) {a with wr:=b.ob.jH (gD (dL f b.aE))++(e++b.wr),dr:=f++b.dr}
     |.iE y p=>bif E.pn then match m9 (PF sh) e y base.1 base.2 with
      |none=>Y|some (c,a)=>Q (.iE (.ty S.pt p)) c {a with wr:=b.ob.jH (gD (dL f b.aE))++(e++b.wr),dr:=f++b.dr}
      else Y
   else Y
def XM{ω:Type}(b:(vo S->bX S->aY S->O ω)->bX S->aY S->O ω)(Q:vo S->bX S->aY S->O ω)(a:bX S->aY S->O ω):Nat->bX S->aY S->O ω
 |0,fr,s=>a fr s|m+1,fr,s=>b (Zk (XM b Q a m) Q) fr s
def Yc(k:{ω:Type}->(vo S->bX S->aY S->O ω)->bX S->aY S->O ω){ω:Type}(sh:Sh)(i:L Pt)(al:L (Nat×Nat))(g h:L Nat)(Q:vo S->bX S->aY S->O ω)(fr:bX S)(s:aY S):O ω:=match rQ fr s sh i with
  |none=>Y|some e=>
   let ds:=g++(Zl g sh++al.map (·.1))
   match qE sh e fr s with
   |none=>Y|some (l,a,f)=>
    let base:=cJ ds f e fr a
    bif (Ft ds sh&&(ac3 fr (Zl g sh)&&(Wf fr s al&&adv fr f al)))&&ds.all (λd=>Nt d fr.n)then
     ah (iter (FE rv k sh e a.aE h base E.pn al) n l) λ(o:LOT S sh (Fv rv))=>match o with
      |.next _=>Y|.out j x=>match m9 sh e x base.1 base.2 with
       |none=>Y|some (c,b)=>abI Q (mH b al c) {b with wr:=a.ob.jH (gD (dL f a.aE))++(e++a.wr),dr:=f++a.dr} h j
      |.ret x r=>match m9 (PF sh) e x base.1 base.2 with
       |none=>Y|some (c,b)=>Q .ret (yF rv r c) {b with wr:=a.ob.jH (gD (dL f a.aE))++(e++a.wr),dr:=f++a.dr}
      |.iE y p=>bif E.pn then match m9 (PF sh) e y base.1 base.2 with
       |none=>Y|some (c,b)=>Q (.iE (.ty S.pt p)) c {b with wr:=a.ob.jH (gD (dL f a.aE))++(e++a.wr),dr:=f++a.dr}
       else Y
    else Y
def Mt:Code->Bool
 |.seq a b=>Mt a||Mt b|.cond _ a b=>Mt a||Mt b|.block _ b=>Mt b|.loop b=>Mt b|.rangeFunc ..=>W|.scope b=>Mt b|_=>J
def anz{ω:Type}(b:Bool)(k:bX S->aY S->O ω)(fr:bX S)(s:aY S):O ω:=
 bif b then(bif Nt s.aE bC then k {fr with df:=.marks s.aE::fr.df} (dh s .Gd)else Y)else k fr s
noncomputable def zK:Code->Nat->{ω:Type}->(vo S->bX S->aY S->O ω)->bX S->aY S->O ω
 |.region _ h J,_,_,Q,fr,s=>TR E call h.toList (λfr t s=>Q (.iE t) fr s) (Q .rR) h.toList fr s|.region _ h W,_,_,Q,fr,s=>
  let l:=h.toList
  let m:=w7 l
  let all:=l.zipIdx.map λp=>(p.2,p.1)
  bif Zv E fr s l m then uP E call l m all (λfr t s=>Q (.iE t) fr s) (Q .rR) (Ns (Nat.mul 2 (cD l))) 0 fr s else Y
 |.seq a b,i,_,Q,fr,s=>zK a i (Zk (zK b i Q) Q) fr s|.cond c a b,i,_,Q,fr,s=>match E.sh fid (ajx a b)with
  |none=>TZ c (zK a i) (zK b i) Q fr s|some ⟨sh,j,o,_⟩=>Yp E rv (λQ fr s=>TZ c (zK a i) (zK b i) Q fr s) sh j o (eK (.cond c a b)++rv.map (·.1)) (wT (kX (.cond c a b))) Q fr s
 |.block i b,_,_,Q,fr,s=>zK b i (Ou i Q) fr s|.loop b,i,_,Q,fr,s=>match E.sh fid i with
  |none=>Y|some ⟨sh,j,o,u⟩=>XM (zK b i) Q (anz (Mt b) λfr s=>Yc E n rv (zK b i) sh j o (eK b++rv.map (·.1)) (wT (kX b)) Q fr s) u fr s
 |.rangeFunc g v k d,_,_,Q,fr,s=>match(cA fr g).bind (pY · [.rE (Ns s.aE)])with
  |none=>Y|some (f,args)=>bif PG k&&(PG d&&(Nl s.fl (Ns s.aE)&&Nt (Ns s.aE) bC))then
    uQ E call (dh (dh s .Ah) (.lp ⟨.ready,Y,fid,Om (vw k++vw d) fr,v.toList,k,d⟩)) f args (λ_ _=>Y) λ_ q r=>match q.ob.get (Ns s.aE)with
      |some (.lp l)=>match afq l.st l.vS with
       |some e=>Q e {(dy r fr)with df:=.mark s.aE::(dy r fr).df} {q with ob:=q.ob.set aK (Ns s.aE) (.lp {l with st:=.exhausted})}
       |none=>Y
      |_=>Y
   else Y
 |.exit i,_,_,Q,fr,s=>Q (.ext i) fr s|.ret,_,_,Q,fr,s=>Q .ret fr s|.skip,_,_,Q,fr,s=>Q .rR fr s|.label _,_,_,Q,fr,s=>Q .rR fr s|.scope b,i,_,Q,fr,s=>zK b i Q fr s|_,_,_,_,_,_=>Y
end
def lC(E:fX)(s:aY S)(fr:bX S):L ResultVar->O (L (V S))
 |[]=>Z []|.tmp t::l=>match fr.get t,lC E s fr l with
  |some x,Z r=>Z (x::r)|_,_=>Y
 |.cell a t::l=>match E.E.ti t,fr.get a with
  |some i,Z a=>match yO i (E.ty t) s a,lC E s fr l with
   |some (p,x,_),Z r=>bif p then Z (x::r)else Y|_,_=>Y
  |_,_=>Y
def Qj(E:fX):L ResultVar->L TypeId->Rv
 |.tmp k::l,t::a=>match E.ty t with
  |some τ=>(k,τ)::Qj E l a|none=>Qj E l a
 |_::l,_::a=>Qj E l a|_,_=>[]
def isRec(o:Oper):Bool:=match o.guard,o.op with
 |none,.call c=>match c.callee with
  |.builtin .recover=>W|_=>J
 |_,_=>J
def aiu(pv:O (V S)):V S:=match pv with
 |some v=>v|none=>.dat (.lit .nilIface)
section
variable (E:eF S)(call:fY S)(n:Nat)(pv:Option (V S)){ω:Type}
noncomputable def evR(fid:FuncId)(rv:Rv):Code->Nat->(Bool->vo S->bX S->aY S->O ω)->bX S->aY S->O ω
 |.region id d J,i,Q,fr,s=>match d.toList with
  |o::l=>bif isRec o then(bif gI fr o.dst then TR E call (o::l) (λfr t s=>Q pv.isSome (.iE t) fr s) (Q pv.isSome .rR) l (fr.jq o.dst (aiu pv)) s else Y)
   else zK E call n fid rv (.region id d J) i (Q J) fr s
  |[]=>Y
 |.seq a b,i,Q,fr,s=>evR fid rv a i (λe f fr s=>match f with
  |.rR=>zK E call n fid rv b i (Q e) fr s|f=>Q e f fr s) fr s
 |c,i,Q,fr,s=>zK E call n fid rv c i (Q J) fr s
noncomputable def TT(d:sU S)(s:aY S)(k:Bool->aY S->O ω):O ω:=match d with
 |.call f args=>match pY f args with
  |none=>Y|some (f,args)=>match E.T.E.TO f with
   |none=>Y|some fn=>match fn.body with
    |none=>Y|some c=>bif Nl (cD args) fn.ntmps&&Nt fn.ntmps bC then
      evR E call n pv f (Qj E.T fn.results.toList fn.resultTypes.toList) c 0 (λa e fr b=>match fr.df with
       |[]=>match e with
        |.rR|.ret=>match lC E.T b fr fn.results.toList with
         |some _=>k a {b with lo:=s.lo}
         |none=>Y
        |_=>Y
       |_::_=>Y) {n:=fn.ntmps,tm:=mM args 0 .nil} {s with lo:=s.aE}
     else Y
 |.mark o=>match s.ob.get o with
  |some .Ah=>bif Nl s.fl o&&Nt o bC then k J {s with ob:=s.ob.del aK o,wr:=o::s.wr}else Y
  |_=>Y
 |.marks o=>match s.ob.get o with
  |some .Gd=>bif Nl s.fl o&&Nt o bC then k J {s with ob:=s.ob.del aK o,wr:=o::s.wr}else Y
  |_=>Y
 |_=>Y
end
noncomputable def GX(E:eF S)(call:fY S)(n:Nat){ω:Type}:L (sU S)->O (V S)->aY S->(O (V S)->aY S->O ω)->O ω
 |[],pv,s,k=>k pv s|d::l,pv,s,k=>TT E call n pv d s λa b=>GX E call n l (bif a then Y else pv) b k
def Ow(E:fX){ω:Type}(a:L ResultVar)(fr:bX S)(k kp:V S->aY S->O ω)(pv:O (V S))(s:aY S):O ω:=match pv with
 |none=>match lC E s fr a with
  |some l=>k (Ef l) s|none=>Y
 |some v=>kp v s
noncomputable def TS(E:eF S)(call:fY S)(n:Nat){ω:Type}(a:L ResultVar)(k kp:V S->aY S->O ω):vo S->bX S->aY S->O ω
 |.rR,fr,s=>GX E call n fr.df Y s (Ow E.T a fr k kp)|.ret,fr,s=>GX E call n fr.df Y s (Ow E.T a fr k kp)|.iE v,fr,s=>GX E call n fr.df (Z v) s (Ow E.T a fr k kp)|.ext _,_,_=>Y
def aef:vo S->O (O Code)
 |.rR=>Z Y|.ret=>Z (Z .ret)|.ext i=>Z (Z (.exit i))|.iE _=>Y
def adZ(o:Nat){ω:Type}(k:V S->aY S->O ω)(e:vo S)(_:bX S)(s:aY S):O ω:=match s.ob.get o,aef e with
 |some (.lp l),Z Y=>k (.kb W) {s with ob:=s.ob.set aK o (.lp {l with st:=.ready,vS:=Y})}
 |some (.lp l),Z (Z c)=>k (.kb J) {s with ob:=s.ob.set aK o (.lp {l with st:=.done,vS:=Z c}),wr:=o::s.wr}
 |_,_=>Y
noncomputable def adY(E:eF S)(call:fY S)(n o:Nat)(fid:FuncId)(a:Code){ω:Type}(k:V S->aY S->O ω):vo S->bX S->aY S->O ω
 |.rR,fr,s=>match s.ob.get o with
  |some (.lp l)=>bif KF l.st l.vS then zK E call n fid [] a 0 (adZ o k) fr {s with ob:=s.ob.set aK o (.lp {l with st:=.busy})}else Y
  |_=>Y
 |_,_,_=>Y
noncomputable def KE(E:eF S)(call:fY S)(n o:Nat)(args:L (V S))(s:aY S){ω:Type}(k:V S->aY S->O ω):O ω:=match s.ob.get o with
 |some (.lp l)=>bif KF l.st l.vS&&(Nq (cD args) (cD l.params)&&(l.params.all (λk=>Nt k l.fr.n)&&(Nl l.fr.n bC&&(PG l.assign&&(PG l.body&&(Nl s.fl o&&Nl s.lo s.aE))))))then
   zK E call n l.fid [] l.assign 0 (adY E call n o l.fid l.body k) {n:=l.fr.n,tm:=Qg l.params args l.fr.tm,df:=[]} s
  else Y
 |_=>Y
noncomputable def ZM(E:eF S)(n:Nat)(call:fY S):fY S:=λtg args s{_}k b=>match tg with
 |.yl o=>KE E call n o args {s with lo:=s.aE} λt a=>k t {a with lo:=s.lo}
 |.yd o=>KE E call n o args s k|.jn f=>match E.T.E.TO f with
  |none=>Y|some fn=>match fn.body with
   |none=>Y|some c=>
    bif Nl (cD args) fn.ntmps&&(Nt fn.ntmps bC&&Nl s.lo s.aE)then
     zK E call n f (Qj E.T fn.results.toList fn.resultTypes.toList) c 0 (TS E call n fn.results.toList k b) {n:=fn.ntmps,tm:=mM args 0 .nil} s
    else Y
 |.fn f=>match E.T.E.TO f with
  |none=>Y|some fn=>match fn.body with
   |none=>Y|some c=>
    bif Nl (cD args) fn.ntmps&&Nt fn.ntmps bC then
     zK E call n f (Qj E.T fn.results.toList fn.resultTypes.toList) c 0 (TS E call n fn.results.toList (λv a=>k v {a with lo:=s.lo}) (λv a=>b v {a with lo:=s.lo})) {n:=fn.ntmps,tm:=mM args 0 .nil} {s with lo:=s.aE}
    else Y
noncomputable def wY(E:eF S)(n:Nat):Nat->fY S
 |0=>λ_ _ _{_}_ _=>Y|d+1=>ZM E n (wY E n d)
noncomputable def ZO(E:eF S)(n d:Nat)(f:FuncId)(args:L (V S))(s:aY S){ω:Type}(k kp:V S->aY S->O ω):O ω:=match E.T.E.TO f with
  |none=>Y|some fn=>match fn.body with
   |none=>Y|some c=>
    bif Nl (cD args) fn.ntmps&&Nt fn.ntmps bC then
     zK E (wY E n d) n f (Qj E.T fn.results.toList fn.resultTypes.toList) c 0 (TS E (wY E n d) n fn.results.toList k kp) {n:=fn.ntmps,tm:=mM args 0 .nil} s
    else Y
def vU(b:Nat)(s:aY S):(ps:L Pk)->ga S.A ps->L (V S)×aY S
 |[],_=>([],s)|.one c::ps,x=>match vX s c x.1 with
  |(v,s)=>match vU b s ps x.2 with
   |(l,s)=>(v::l,s)
 |.box k::ps,x=>match lf s (Z (Ns b)) k x.1 with
  |(ob,s)=>match vU (Ns b) {s with ob:=s.ob.set aK b ob} ps x.2 with
   |(l,a)=>(Vt k b::l,a)
 |.hid k::ps,x=>match lf s (Z (Ns b)) k x.1 with
  |(ob,s)=>vU (Ns b) {s with ob:=s.ob.set aK b ob} ps x.2
def dW:L Pk->Nat
 |[]=>0|.one _::l=>dW l|.box _::l=>Ns (dW l)|.hid _::l=>Ns (dW l)
def NN(b:Nat):L Ck->Nat->L (Nat×Nat×Nat)
 |[],_=>[]|.dat (.opt n)::l,i=>(b,i,n)::NN b l (Ns i)|_::l,i=>NN b l (Ns i)
def ad8(b:Nat):Bk->L (Nat×Nat×Nat)
 |.cells a=>NN b a 0|.link _ pre post=>NN b pre 0++NN b post (Ns (cD pre))|_=>[]
def Jl:L Pk->Nat->L (Nat×Nat×Nat)
 |[],_=>[]|.one _::l,b=>Jl l b|.box k::l,b=>ad8 b k++Jl l (Ns b)|.hid k::l,b=>ad8 b k++Jl l (Ns b)
def ajA:L Nat->Bool
 |[]=>W|_::_=>J
def FY(v:V S)(Jw:Nat)(s:aY S)(q:Nat×Nat×Nat):aY S:=match s.ob.get q.1 with
 |some (.box a)=>match nth a q.2.1 with
  |some (.ptr o 0)=>match s.ob.get o with
   |some (.box b)=>match nY s (S.fs q.2.2) b with
    |some (h,os)=>
     let p:=λk=>Nq o k||Nl s.aE k
     bif ajA os&&(Nl Jw o&&(Nt q.1 Jw&&!(cG p v)))then
      {s with ob:=(s.ob.mapA (eX p)).set aK q.1 (.box ((a.map (fQ p)).set q.2.1 (.ty (.opt q.2.2) (Z (S.ER q.2.2 h)))))}
     else s
    |none=>s
   |_=>s
  |_=>s
 |_=>s
def ac2(d:L Ck)(ps:L Pk)(v:V S)(s0:aY S):O (gx S.A d×iz S.A ps):=
 let e:=(Jl ps 0).foldl (FY v (dW ps)) s0
 match gf e d (W7 d v),uC e 0 ps with
 |some (r,f,g),Z (b,a,c)=>match dU e (f++a)with
  |some _=>bif sw (g++c)&&CR (g++c) (f++a)then Z (r,b)else Y|none=>Y
 |_,_=>Y
def agH(a:Bool)(b:L Ck)(ps:L Pk)(v:V S)(s':aY S):O (RT a (gx S.A b×iz S.A ps) (den S.A S.pt×iz S.A ps)):=
 match ac2 b ps v s' with
 |some r=>Z (RT.ok a r)|none=>Y
def agG(a:Bool)(b:L Ck)(ps:L Pk)(v:V S)(s':aY S):O (RT a (gx S.A b×iz S.A ps) (den S.A S.pt×iz S.A ps)):=
 match ac2 [.dat S.pt] ps v s' with
 |some r=>RT.iE a (r.1.1,r.2)|none=>Y
noncomputable def Bb(E:eF S)(n d:Nat)(f:FuncId)(ps:L Pk)(a:L Ck)(x:ga S.A ps):O (RT E.pn (gx S.A a×iz S.A ps) (den S.A S.pt×iz S.A ps)):=
 match vU 0 ⟨.nil,dW ps,0,dW ps,[],[]⟩ ps x with
 |(args,s)=>bif !(Nl s.aE bC)then Y else ZO E n d f args s (agH E.pn a ps) (agG E.pn a ps)
end
section
namespace Tr
variable {α β:Type}
def map(f:α->β):Tr α->Tr β
 |.nil=>.nil|.node v l r=>.node (v.map f) (map f l) (map f r)
def get_map(f:α->β):∀(t:Tr α)(k:Nat),(t.map f).get k=(t.get k).map f
 |.nil,k=>by rfl
 |.node v l r,0=>by rw[map,iY,iY]
 |.node v l r,k+1=>by rw[map,dB,dB,get_map f l,get_map f r];split<;>rfl
theorem mC(f:α->β):∀(n:Nat)(t:Tr α)(k:Nat)(x:α),(Tr.set n t k x).map f=Tr.set n (t.map f) k (f x)
 |0,t,k,x=>rfl|n+1,.nil,0,x=>rfl|n+1,.nil,k+1,x=>by
  rw[map,pg,pg];split
  .rw[map,mC f n];rfl
  .rw[map,mC f n];rfl
 |n+1,.node v l r,0,x=>rfl|n+1,.node v l r,k+1,x=>by
  rw[map,nQ,nQ];split
  .rw[map,mC f n]
  .rw[map,mC f n]
end Tr
def uR(S:Sg):(l:L (TypeId×Ty))->yu S.A l->O (TypeId×D)
 |[],_=>Y|p::_,.inl x=>Z (p.1,enc S p.2 x)|_::l,.inr y=>uR S l y
def O7:L (TypeId×Ty)->Bool
 |[]=>W|p::l=>(xj l p.1).isNone&&O7 l
structure fc(S:Sg):Prop where
 sC:∀n h,S.get n (S.ER n h)=h
 X7:∀n x,S.ER n (S.get n x)=x
 cells:∀n x,S.cells n x=eW S (S.fs n) (S.get n x)
 leaf:∀n,∀t∈S.fs n,kF t=J
 EU:∀n h,S.uK n (S.imk n h)=h
 rT:∀n x,S.rT n x=uR S (S.alts n) (S.uK n x)
 alts:∀n,O7 (S.alts n)=W
def OF:∀l:L (TypeId×Ty),uR S l (X1 l)=Y
 |[]=>rfl|_::l=>OF l
def OG:∀(l:L (TypeId×Ty))(t:TypeId)(i:Nat)(x:den S.A (nh l i)),xj l t=Z i->uR S l (Yv l i x)=Z (t,enc S (nh l i) x)
 |[],t,i,x,h=>by cases h
 |p::l,t,i,x,h=>by
  obtain⟨a,h⟩|⟨_,h⟩:=af h
  .simp at h;subst h;simp only[Yv,uR,vQ a];rfl
  .split at h
   .rename_i j b;simp only[gK]at h;subst h;exact OG l t j x b
   .cases h
def aiU:Ty->Nat
 |.str=>16|.de _=>16|.sl _=>24|_=>8
def abi:L Ty->Nat
 |[]=>0|t::l=>Na (aiU t) (abi l)
def zU(S:Sg):Ty->Nat
 |.int .i8|.int .u8=>1|.int .i16|.int .u16=>2|.int .i32|.int .u32=>4|.int _=>8|.bool=>1|.str=>16|.sl _=>24|.st n=>abi (S.fs n)|.de _=>16|.opt _|.mp _ _=>8
def acr(o:O (TypeId×D)):(PL o).lby=16:=by cases o<;>rfl
theorem wH(o:O (TypeId×D)):(PL o).leaf=W:=by cases o<;>rfl
theorem nE(o:O (TypeId×D)):(PL o).cells=[PL o]:=by cases o<;>rfl
def afT(o:O (TypeId×D)):(PL o).sL=16:=by cases o<;>rfl
def iT(o:O D):(ptD o).lby=8∧(ptD o).leaf=W∧(ptD o).cells=[ptD o]∧(ptD o).sL=8:=by cases o<;>exact⟨rfl,rfl,rfl,rfl⟩
def mO:∀(ts:L Ty)(h:lP S.A ts),(eW S ts h).length=ts.length
 |[],_=>rfl|t::ts,h=>by simp[eW,mO ts]
variable {t u:Ty}{v:V S}
def ac4(x:den S.A t)(h:kF t=J):(enc S t x).lby=aiU t:=by cases t<;>first|rfl|exact acr _|exact(iT _).1|cases h
def Fh:∀(ts:L Ty)(h:lP S.A ts),(∀t∈ts,kF t=J)->D.oY (eW S ts h)=abi ts
 |[],_,_=>rfl|t::ts,h,a=>by simp[eW,D.oY,abi,ac4 _ (a t (by simp)),Fh ts h.2 (λu b=>a u (by simp[b]))]
def Hf(x:den S.A t)(h:kF t=J):(enc S t x).leaf=W:=by cases t<;>first|rfl|exact wH _|exact(iT _).2.1|cases h
def ic:∀(ts:L Ty)(h:lP S.A ts),(∀t∈ts,kF t=J)->∀d∈eW S ts h,d.leaf=W
 |[],_,_,d,a=>by simp[eW]at a
 |t::ts,h,b,d,a=>by
  simp[eW,fS]at a;obtain rfl|a:=a
  .exact Hf _ (b t (by simp))
  .exact ic ts h.2 (λu c=>b u (by simp[c])) d a
def Cz(a:fc S)(x:den S.A t):(enc S t x).sL=zU S t:=by
 cases t with
 |st n=>simp[enc,D.sL,zU];rw[show S.cells n x=_ from a.cells n x,Fh _ _ (a.leaf n)]|int k=>cases k<;>rfl
 |de n=>exact afT _|opt n=>exact(iT _).2.2.2|_=>rfl
theorem kH(a:fc S){t:Ty}(x:den S.A t):(enc S t x).cells.length=S.width t:=by cases t with|st n=>simp[enc,D.cells,Sg.width,bS];rw[show S.cells n x=_ from a.cells n x,mO]|de n=>rw[show enc S (.de n) x=PL (S.rT n x)from rfl,nE];rfl|opt n=>exact fq List.length (iT _).2.2.1|_=>rfl
theorem OE(a:fc S){t:Ty}(x:den S.A t):(enc S t x).flat=W:=by cases t with|st n=>simp[enc,D.flat,D.cells,kA];rw[show S.cells n x=_ from a.cells n x];exact ic _ _ (a.leaf n)|de n=>grind[enc,D.flat,nE,wH]|opt n=>simp[enc,D.flat,(iT _).2.2.1,(iT _).2.1]|_=>rfl
def ec(S:Sg):(t:Ty)->den S.A t->T
 |.st n,x=>.agg ((S.cells n x).map .sym)|.int k,x=>.sym (enc S (.int k) x)|.bool,x=>.sym (enc S .bool x)|.str,x=>.sym (enc S .str x)|.sl e,x=>.sym (enc S (.sl e) x)|.de n,x=>.sym (enc S (.de n) x)|.opt n,x=>.sym (enc S (.opt n) x)|.mp k v,x=>.sym (enc S (.mp k v) x)
def zA(x:den S.A t)(h:kF t=J):ec S t x=.sym (enc S t x):=by cases t<;>first|rfl|cases h
mutual
def low:V S->T
 |.ty t x=>ec S t x|.kb b=>.kb b|.kn k n=>.kn k n|.dat d=>.sym d|.ptr o off=>.ptr o off|.lR t x off=>.lR (enc S t x) off|.lQ o e i off=>.lQ o e i off|.sh o e=>.sh o e|.emp=>.emp|.kr n t l=>.kr n (l.map (enc S t))|.fn f a b=>.fn f (bq a) (bq b)|.de t v=>.de t (low v)|.agg g=>.agg (bq g)|.gM h=>.gM (bq h)|.gd c v=>.gd c (low v)|.mp o=>.mp o|.rE o=>.rE o|.uj o=>.uj o|.ub e=>.ub e|.sx o m r i=>.sx o m r i|.pW n j x=>.pW j (enc S (.st n) x)
def bq:L (V S)->L T
 |[]=>[]|v::l=>low v::bq l
end
def eU:∀l:L (V S),bq l=l.map low
 |[]=>rfl|v::l=>by simp[bq,pG,eU l]
def mh:sU S->Df
 |.call f args=>.call (low f) (bq args)|.mark o=>.mark o|.marks o=>.marks o|.ko=>.ko|.bad=>.bad
def bB(fr:bX S):Fr:=⟨fr.n,fr.tm.map low,fr.df.map mh⟩
def tI(l:LpV S):Lp:=⟨l.st,l.vS,l.fid,bB l.fr,l.params,l.assign,l.body⟩
def cW:u9 S->Ob
 |.box e=>.box (bq e)|.arr t l era=>.arr (S.width t) (l.map (enc S t)) era|.lq t l era=>.lq (S.width t) (l.map (enc S t)) era|.map c f l=>.map (l.map λp=>(ec S c p.1,ec S f p.2))|.Il c l=>.map (l.map λp=>(ec S c p.1,low p.2))|.rD b pos=>.rD (bZ b) pos|.lp l=>.lp (tI l)|.Ah=>.Ah|.lD n j l era m a hole=>.lD j (S.width (.st n)) (l.map (enc S (.st n))) era m a hole|.rws t d a=>.rws (S.width t) (d.map (·.map (enc S t))) a|.gone=>.gone|.Gd=>.Gd
def aB(s:aY S):St:=⟨s.ob.map cW,s.aE,s.fl,s.lo⟩
theorem aI(s:aY S)(o:Nat):(aB s).ob.get o=(s.ob.get o).map cW:=Tr.get_map _ _ _
theorem bW(fr:bX S)(k:Nat):(bB fr).get k=(fr.get k).map low:=Tr.get_map _ _ _
def Vn(fr:bX S)(k:Nat)(v:V S):bB (fr.put k v)=(bB fr).put k (low v):=by simp[bB,bX.put,Fr.put,Tr.mC]
def QU(fr:bX S)(k:O Nat)(v:V S):bB (fr.jq k v)=(bB fr).jq k (low v):=by cases k with|none=>rfl|some k=>exact Vn fr k v
theorem ey(s:aY S)(o:Nat)(ob:u9 S)(wr:L Nat):aB {s with ob:=s.ob.set aK o ob,wr:=wr}={aB s with ob:=(aB s).ob.set aK o (cW ob)}:=by simp[aB,Tr.mC]
def gV(s:aY S)(ob:u9 S):aB (dh s ob)=(eg (aB s) (cW ob)).2:=by simp[aB,dh,eg,Tr.mC]
def ZN(b:ByteArray):bZ (ofBytes b)=b:=by rfl
def Ry{v:Value}{u:V S}(h:uV v=Z u):ofConst v=Z (low u):=by
 cases v with
 |bool b=>simp[uV,gK]at h;subst h;rfl|int k n=>simp[uV,gK]at h;subst h;rfl|string b=>simp[uV,gK]at h;subst h;simp only[ofConst,low,ec,enc,DA,jA];rw[ZN]|slice a n m=>
  unfold uV at h;split at h;all_goals first
   |(simp only[gK]at h;rename_i c;simp only[Value.slice.injEq]at c;obtain⟨rfl,rfl,rfl⟩:=c;subst h;rfl)
   |(rename_i c;cases c;done)
   |grind[DA]
 |func f a b=>
  simp[uV]at h;simp[ofConst];split at h
  .simp at h;subst h;rename_i h1 h2;try rw[h1,h2]
   rfl
  .cases h
 |iface t v=>simp[uV,fM]at h;obtain⟨d,e,rfl⟩:=h;simp only[ofConst,e,jA];rfl
 |_=>simp only[uV,fM]at h;obtain⟨d,e,rfl⟩:=h;simp only[ofConst,e,jA];rfl
theorem cz{fr:bX S}{x:Operand}{u:V S}(h:cA fr x=Z u):jZ (bB fr) x=Z (low u):=by
 cases x with
 |tmp k=>grind[cA,jZ,bW]|const v=>exact Ry h|global g=>cases h
 |func f=>simp[cA,gK]at h;subst h;rfl
def gU{fr:bX S}:∀{l:L Operand}{a:L (V S)},jY fr l=Z a->yM (bB fr) l=Z (bq a)
 |[],a,h=>by simp only[jY,gK]at h;subst h;rfl
 |x::l,a,h=>by
  simp[jY]at h;split at h
  .rename_i h1 h2;simp at h;subst h;simp[yM,cz h1,gU h2,bq]
  .cases h
def JX{x:den S.A t}{y:den S.A u}(h:wX t u x=Z y):t=u∧HEq x y:=by
 unfold wX at h
 grind
def fG{x:L (den S.A t)}{y:L (den S.A u)}(h:oC t u x=Z y):t=u∧HEq x y:=by
 unfold oC at h
 grind
theorem gu{k:IntKind}{v:V S}{n:Int}(h:iu k v=Z n):∃p,yq k (low v)=Z (p,n)∧p:=by
 unfold iu at h;split at h
 .rename_i j m;cases a:oK j k<;>rw[a]at h
  .cases h
  .simp at h;subst h;exact⟨True,by simp[low,yq,a],trivial⟩
 .rename_i j x;cases a:oK j k<;>rw[a]at h
  .cases h
  .simp at h;subst h;exact⟨_,rfl,a⟩
 .cases h
def mu{b:Bool}(h:jk v=Z b):∃p,Bs (low v)=Z (p,b)∧p:=by
 unfold jk at h;split at h
 .simp at h;subst h;exact⟨True,rfl,trivial⟩
 .simp at h;subst h;exact⟨_,rfl,rfl⟩
 .cases h
def lA{b:L UInt8}(h:vZ v=Z b):∃p,Aq (low v)=Z (p,bZ b)∧p:=by
 unfold vZ at h;split at h
 .simp at h;subst h;exact⟨_,rfl,rfl⟩
 .cases h
def wB:∀(ts:L Ty)(h:lP S.A ts),(∀t∈ts,kF t=J)->bq (AU (S:=S) ts h)=(eW S ts h).map .sym
 |[],_,_=>rfl|t::ts,h,a=>by simp only[AU,bq,eW,pG,wB ts h.2 (λu b=>a u (by simp[b]))];rw[low,zA _ (a t (by simp))]
theorem eJ:∀l:L (V S),(bq l).length=l.length
 |[]=>rfl|v::l=>by simp[bq,eJ l]
def j4(l m:L (V S)):bq (l++m)=bq l++bq m:=by simp[eU,UW]
def me(l:L (V S))(n:Nat):bq (l.take n)=(bq l).take n:=by simp[eU,List.map_take]
def mg(l:L (V S))(n:Nat):bq (l.drop n)=(bq l).drop n:=by simp[eU,List.map_drop]
def Vq(h:Yk v=W):(low v).leaf:=by
 cases v with
 |ty t x=>simp[Yk,Nf]at h;rw[low,zA _ h];exact Hf x h|dat d=>exact h|agg=>cases h
 |gM=>cases h
 |gd=>cases h
 |_=>trivial
def zB:∀{l:L (V S)},Ch l=W->leaves (bq l)
 |[],_=>trivial|v::l,h=>by simp[Ch,eZ]at h;exact⟨Vq h.1,zB h.2⟩
def FI(cs:L D):(List.range cs.length).map (λj=>T.sym ((D.agg cs).cell j))=cs.map .sym:=by
 apply Nz
 grind[D.cell,D.cells]
theorem rj(f:fc S){i:TI}{v:V S}{l:L (V S)}(h:wV i v=Z l):∃p,kj i (low v)=Z (p,bq l)∧p:=by
 unfold wV at h;split at h
 .rename_i g;obtain⟨a,h⟩|⟨_,h⟩:=af h
  .simp at h;have:(i.agg&&Nq (cD (bq g)) i.size)=W:=by grind[bS,eJ]
   exact⟨True,by simp_all[low,kj],trivial⟩
  .cases h
 .rename_i n x;obtain⟨a,h⟩|⟨_,h⟩:=af h
  .simp at h;subst h;rw[wB _ _ (f.leaf n),<-f.cells];have:(i.agg&&Nq (cD ((S.cells n x).map T.sym)) i.size)=W:=by rw[bS,QA,f.cells,mO,<-bS];exact a
   exact⟨True,by simp_all[low,ec,kj],trivial⟩
  .cases h
 .rename_i d;obtain⟨_,h⟩|⟨b,h⟩:=af h
  .cases h
  .obtain ⟨a,h⟩|⟨_,h⟩:=af h
   .simp only[eZ]at a;simp at h;subst h;exact⟨_,by simp only[low,kj,b,a.1,gY,jo];rfl,a.2⟩
   .cases h
 .cases h
 .cases h
 .obtain ⟨_,h⟩|⟨b,h⟩:=af h
  .cases h
  .obtain ⟨a,h⟩|⟨_,h⟩:=af h
   .simp at h;subst h;cases v with
    |ty t x=>
     have j:kF t=J:=by cases t with|st n=>grind|_=>rfl
     have e:low (V.ty t x)=.sym (enc S t x):=by rw[low,zA _ j]
     refine⟨(enc S t x).leaf=W,?_,Hf _ j⟩
     simp_all[bq,kj]
    |agg g=>simp_all|dat d=>simp_all|gM k=>simp_all|gd c v=>simp_all|_=>exact⟨True,by simp only[low,bq,kj,b,a,gY,jo],trivial⟩
   .cases h
def qd{ag:Bool}{l:L (V S)}(h:Dv ag l=Z v):wj ag (bq l)=Z (low v):=by
 obtain⟨a,h⟩|⟨a,h⟩:=af h
 .simp at h;subst h;simp[wj,a,gY,low]
 .split at h
  .simp_all[wj,bq]
  .cases h
end
section
def yZ(S:Sg)(i:TI):Ty->Prop
 |.int k=>i.kd=.leaf (.int k)∧i.agg=J∧i.size=1|.bool=>i.kd=.leaf .bool∧i.agg=J∧i.size=1|.str=>i.kd=.leaf .str∧i.agg=J∧i.size=1|.sl e=>(∃z,i.kd=.slice (S.width e) (kF e) (zU S e) z∧(bif kF e then D.agg z=enc S e (S.zero e)else z=[enc S e (S.zero e)]))∧i.agg=J∧i.size=1∧0<S.width e|.st n=>i.agg=W∧i.size=(S.fs n).length|.de _=>i.kd=.iface∧i.agg=J∧i.size=1|.opt _=>i.kd=.ptr∧i.agg=J∧i.size=1|.mp _ _=>True∧i.agg=J∧i.size=1
structure Sa(S:Sg)(E:fX):Prop where
 row:∀k i τ,E.E.ti k=Z i->E.ty k=Z τ->yZ S i τ
def xE(s:St):∀ds:L D,∃p,nZ s (ds.map .sym)=Z (p,ds,[])∧p
 |[]=>⟨True,rfl,trivial⟩|d::ds=>by
  let ⟨p,h,a⟩:=xE s ds
  exact⟨True∧p,by grind[nZ,BP],trivial,a⟩
variable {t e:Ty}{n:Int}{s:aY S}{v:V S}{i:TI}{τ:Option Ty}{fr:bX S}{u:Option (V S)}
def Uw(a:fc S)(s:St)(x:den S.A t):∃p,BP s (ec S t x)=Z (p,enc S t x,[])∧p:=by
 cases t with
 |st n=>
  let ⟨p,h,b⟩:=xE s (S.cells n x)
  refine⟨p∧(S.cells n x).all D.leaf=W,by simp[ec,BP,h,enc],b,?_⟩;rw[kA,a.cells];exact ic _ _ (a.leaf n)
 |_=>exact⟨True,rfl,trivial⟩
def N3(k:IntKind):oK k k=W:=by cases k<;>rfl
def xD:∀t:Ty,sk t t=W
 |.int k=>N3 k|.bool=>rfl|.str=>rfl|.sl e=>xD e|.st n=>Nat.beq_refl n|.de n=>Nat.beq_refl n|.opt n=>Nat.beq_refl n|.mp k v=>zm.2 ⟨xD k,xD v⟩
theorem wW{t:Ty}(x:den S.A t):wX (S:=S) t t x=Z x:=by unfold wX;rw[dif_pos (xD t)]
def JM:∀{ts:L Ty}{h:lP S.A ts}{j:Nat}{t:Ty}{y:den S.A t},nth ts j=Z t->eW S ts (wI ts h j t y)=(eW S ts h).set j (enc S t y)
 |[],_,_,_,_,h=>by rfl
 | τ::ts,h,0,t,y,e=>by
  grind[nth,wI,wW,eW]
 | τ::ts,h,j+1,t,y,e=>by simp[nth]at e;simp[wI,eW,List.set_cons_succ,JM e]
def JN:∀{ts:L Ty}{h:lP S.A ts}{j:Nat}{t:Ty},nth ts j=Z t->(eW S ts h)[j]?=Z (enc S t (ef ts h j t))
 |[],_,_,_,h=>by simp[nth]at h
 | τ::ts,h,0,t,e=>by
  grind[nth,ef,wW,eW]
 | τ::ts,h,j+1,t,e=>by simp[nth]at e;simp[ef,eW,List.getElem?_cons_succ,JN e]
def Hs{n j:Nat}(h:Eo S n j t=W):nth (S.fs n) j=Z (.sl t):=by
 grind[Eo,jK]
theorem Zs(a:fc S){n j:Nat}{t:Ty}(b:Eo S n j t=W)(x:S.A n)(y:L (den S.A t)):enc S (.st n) (UG n j t x y)=A4 j (enc S (.st n) x) (y.map (enc S t)):=by show D.agg (S.cells n _)=D.agg ((S.cells n x).set j _);rw[a.cells,a.cells,UG,a.sC,JM (Hs b)];rfl
theorem GN(a:fc S){n j:Nat}{t:Ty}(b:Eo S n j t=W):∀(l:L (S.A n))(iQ:L (L (den S.A t))),(kS n j t l iQ).map (enc S (.st n))=mN j (l.map (enc S (.st n))) (iQ.map (·.map (enc S t)))
 |[],_=>by rfl
 |_::_,[]=>by rfl
 |x::l,c::iQ=>by
  grind[kS,mN,Zs]
def Ax{m r:Nat}{iQ:L (L (den S.A t))}(h:MZ s m r=Z ⟨t,iQ⟩):Ix (aB s) m r=Z (iQ.map (·.map (enc S t))):=by
 unfold MZ at h;split at h
 .obtain ⟨a,h⟩|⟨_,h⟩:=af h
  .cases h
   simp_all[Ix,aI,cW]
  .cases h
 .cases h
mutual
def qv(d:fc S)(s:aY S):∀(t:Ty)(v:V S){x:den S.A t}{os:L Nat},bU s t v=Z (x,os)->∃p,BP (aB s) (low v)=Z (p,enc S t x,os)∧p
 |t,.ty u y,x,os,h=>by
  simp[bU]at h;split at h
  .rename_i z f;obtain⟨rfl,c⟩:=JX f;cases c;obtain⟨rfl,rfl⟩:=h;exact Uw d _ _
  .cases h
 |.bool,.kb b,x,os,h=>by obtain⟨rfl,rfl⟩:=h;exact⟨True,rfl,trivial⟩
 |.int k,.kn j n,x,os,h=>by
  obtain⟨g,h⟩|⟨_,h⟩:=af h
  .obtain ⟨rfl,rfl⟩:=h;rw[Cj g];exact⟨True,rfl,trivial⟩
  .cases h
 |.sl e,.emp,x,os,h=>by obtain⟨rfl,rfl⟩:=h;exact⟨True,rfl,trivial⟩
 |.sl e,.kr n t l,x,os,h=>by
  simp[bU]at h;split at h
  .rename_i z f;obtain⟨rfl,c⟩:=fG f;cases c;obtain⟨rfl,rfl⟩:=h;exact⟨True,rfl,trivial⟩
  .cases h
 |.sl e,.sh o r,x,os,h=>by
  simp[bU]at h;split at h
  .rename_i t l era q;obtain⟨g,h⟩|⟨_,h⟩:=af h
   .split at h
    .rename_i z f;obtain⟨rfl,c⟩:=fG f;cases c;obtain⟨rfl,rfl⟩:=h;refine⟨True,?_,trivial⟩
     simp_all[low,BP,aI,cW,enc]
    .cases h
   .cases h
  .rename_i t l era q;obtain⟨g,h⟩|⟨_,h⟩:=af h
   .split at h
    .rename_i z f;obtain⟨rfl,c⟩:=fG f;cases c;obtain⟨rfl,rfl⟩:=h;refine⟨True,?_,trivial⟩
     simp_all[low,BP,aI,cW,enc]
    .cases h
   .cases h
  .rename_i n j l era m r' q;split at h
   .rename_i t E F;obtain⟨g,h⟩|⟨_,h⟩:=af h
    .simp only[eZ]at g;split at h
     .rename_i z f;obtain⟨rfl,c⟩:=fG f;cases c;obtain⟨rfl,rfl⟩:=h;refine⟨True,?_,trivial⟩;simp only[low,BP,aI,q,jA,cW,Ax F,g.1,g.2.1,No,gY];rw[<-GN d g.2.2];rfl
     .cases h
    .cases h
   .cases h
  .cases h
 |.sl e,.pW n j x0,x,os,h=>by
  simp[bU]at h;split at h
  .rename_i f;obtain⟨rfl,c⟩:=fG f;cases c;obtain⟨rfl,rfl⟩:=h;exact⟨True,rfl,trivial⟩
  .cases h
 |.st n,.agg I,x,os,h=>by
  simp[bU]at h;split at h
  .rename_i h1 w K;obtain⟨rfl,rfl⟩:=h
   let ⟨p,A,B⟩:=p9 d s (S.fs n) I K
   have C:S.cells n (S.ER n h1)=eW S (S.fs n) h1:=by rw[d.cells,d.sC]
   refine⟨p∧(eW S (S.fs n) h1).all D.leaf=W,by simp[low,BP,A,enc,C],B,?_⟩;rw[kA];exact ic _ _ (d.leaf n)
  .cases h
 |.de n,.de t v,x,os,h=>by
  simp[bU]at h;split at h
  .rename_i i P;split at h
   .rename_i y w R;obtain⟨rfl,rfl⟩:=h
    let ⟨p,A,B⟩:=qv d s _ v R
    refine⟨p,?_,B⟩;have e:enc S (.de n) (S.imk n (Yv (S.alts n) i y))=.de t (enc S (nh (S.alts n) i) y):=by show PL (S.rT n _)=_;rw[d.rT,d.EU,OG _ _ _ _ P];rfl
    simp[low,BP,A,e]
   .cases h
  .cases h
 |.de n,.dat (.lit .nilIface),x,os,h=>by
  obtain⟨rfl,rfl⟩:=h;refine⟨True,?_,trivial⟩;have e:enc S (.de n) (S.imk n (X1 (S.alts n)))=.lit .nilIface:=by show PL (S.rT n _)=_;rw[d.rT,d.EU,OF];rfl
  simp[low,BP,e]
 |.opt _,.dat (.lit v),_,_,h=>by
  cases v with
  |pointer a=>cases a<;>simp[bU]at h;obtain⟨rfl,rfl⟩:=h;exact⟨True,rfl,trivial⟩
  |_=>simp[bU]at h
 |.opt _,.dat (.sl _),_,_,h=>by simp[bU]at h
 |.opt _,.dat (.agg _),_,_,h=>by simp[bU]at h
 |.opt _,.dat (.de _ _),_,_,h=>by simp[bU]at h
 |.opt _,.dat (.gM _),_,_,h=>by simp[bU]at h
 |.opt _,.dat (.pt _),_,_,h=>by simp[bU]at h
 |.opt _,.dat (.mp _ _),_,_,h=>by simp[bU]at h
 |.mp _ _,.dat _,_,_,h=>by simp[bU]at h
 |.de _,.kb _,_,_,h=>by simp[bU]at h
 |.de _,.kn _ _,_,_,h=>by simp[bU]at h
 |.de _,.emp,_,_,h=>by simp[bU]at h
 |.de _,.kr _ _ _,_,_,h=>by simp[bU]at h
 |.de _,.sh _ _,_,_,h=>by simp[bU]at h
 |.de _,.pW _ _ _,_,_,h=>by simp[bU]at h
 |.bool,.pW _ _ _,_,_,h=>by simp[bU]at h
 |.str,.pW _ _ _,_,_,h=>by simp[bU]at h
 |.int _,.pW _ _ _,_,_,h=>by simp[bU]at h
 |.st _,.pW _ _ _,_,_,h=>by simp[bU]at h
 |t,.sx _ _ _ _,_,_,h=>by cases t<;>simp[bU]at h
 |.de _,.agg _,_,_,h=>by simp[bU]at h
 |.int _,.de _ _,_,_,h=>by simp[bU]at h
 |.bool,.de _ _,_,_,h=>by simp[bU]at h
 |.str,.de _ _,_,_,h=>by simp[bU]at h
 |.sl _,.de _ _,_,_,h=>by simp[bU]at h
 |.st _,.de _ _,_,_,h=>by simp[bU]at h
 |.int _,.dat _,_,_,h=>by simp[bU]at h
 |.bool,.dat _,_,_,h=>by simp[bU]at h
 |.str,.dat _,_,_,h=>by simp[bU]at h
 |.sl _,.dat _,_,_,h=>by simp[bU]at h
 |.st _,.dat _,_,_,h=>by simp[bU]at h
 |.de _,.dat (.sl _),_,_,h=>by simp[bU]at h
 |.de _,.dat (.agg _),_,_,h=>by simp[bU]at h
 |.de _,.dat (.de _ _),_,_,h=>by simp[bU]at h
 |.de _,.dat (.gM _),_,_,h=>by simp[bU]at h
 |.de _,.dat (.lit (.bool _)),_,_,h=>by simp[bU]at h
 |.de _,.dat (.lit (.int _ _)),_,_,h=>by simp[bU]at h
 |.de _,.dat (.lit (.float _ _)),_,_,h=>by simp[bU]at h
 |.de _,.dat (.lit (.complex _ _ _)),_,_,h=>by simp[bU]at h
 |.de _,.dat (.lit (.string _)),_,_,h=>by simp[bU]at h
 |.de _,.dat (.lit (.pointer _)),_,_,h=>by simp[bU]at h
 |.de _,.dat (.lit (.slice _ _ _)),_,_,h=>by simp[bU]at h
 |.de _,.dat (.lit (.map _)),_,_,h=>by simp[bU]at h
 |.de _,.dat (.lit (.chan _)),_,_,h=>by simp[bU]at h
 |.de _,.dat (.lit (.iface _ _)),_,_,h=>by simp[bU]at h
 |.de _,.dat (.lit (.func _ _ _)),_,_,h=>by simp[bU]at h
 |.de _,.dat (.lit .nilFunc),_,_,h=>by simp[bU]at h
 |.de _,.dat (.lit (.agg _)),_,_,h=>by simp[bU]at h
 |.de _,.dat (.lit (.tuple _)),_,_,h=>by simp[bU]at h
 |t,.mp _,_,_,h=>by cases t<;>simp[bU]at h
 |t,.rE _,_,_,h=>by cases t<;>simp[bU]at h
 |t,.uj _,_,_,h=>by cases t<;>simp[bU]at h
 |t,.ub _,_,_,h=>by cases t<;>simp[bU]at h
 |.int _,.kb _,_,_,h=>by simp[bU]at h
 |.str,.kb _,_,_,h=>by simp[bU]at h
 |.sl _,.kb _,_,_,h=>by simp[bU]at h
 |.st _,.kb _,_,_,h=>by simp[bU]at h
 |.bool,.kn _ _,_,_,h=>by simp[bU]at h
 |.str,.kn _ _,_,_,h=>by simp[bU]at h
 |.sl _,.kn _ _,_,_,h=>by simp[bU]at h
 |.st _,.kn _ _,_,_,h=>by simp[bU]at h
 |.bool,.emp,_,_,h=>by simp[bU]at h
 |.str,.emp,_,_,h=>by simp[bU]at h
 |.int _,.emp,_,_,h=>by simp[bU]at h
 |.st _,.emp,_,_,h=>by simp[bU]at h
 |.bool,.kr _ _ _,_,_,h=>by simp[bU]at h
 |.str,.kr _ _ _,_,_,h=>by simp[bU]at h
 |.int _,.kr _ _ _,_,_,h=>by simp[bU]at h
 |.st _,.kr _ _ _,_,_,h=>by simp[bU]at h
 |.bool,.sh _ _,_,_,h=>by simp[bU]at h
 |.str,.sh _ _,_,_,h=>by simp[bU]at h
 |.int _,.sh _ _,_,_,h=>by simp[bU]at h
 |.st _,.sh _ _,_,_,h=>by simp[bU]at h
 |.bool,.agg _,_,_,h=>by simp[bU]at h
 |.str,.agg _,_,_,h=>by simp[bU]at h
 |.int _,.agg _,_,_,h=>by simp[bU]at h
 |.sl _,.agg _,_,_,h=>by simp[bU]at h
 |t,.ptr _ _,_,_,h=>by cases t<;>simp[bU]at h
 |t,.lR _ _ _,_,_,h=>by cases t<;>simp[bU]at h
 |t,.lQ _ _ _ _,_,_,h=>by cases t<;>simp[bU]at h
 |t,.fn _ _ _,_,_,h=>by cases t<;>simp[bU]at h
 |t,.gM _,_,_,h=>by cases t<;>simp[bU]at h
 |t,.gd _ _,_,_,h=>by cases t<;>simp[bU]at h
def p9(b:fc S)(s:aY S):∀(ts:L Ty)(l:L (V S)){h:lP S.A ts}{os:L Nat},nY s ts l=Z (h,os)->∃p,nZ (aB s) (bq l)=Z (p,eW S ts h,os)∧p
 |[],[],x,os,h=>by obtain⟨_,rfl⟩:=h;exact⟨True,rfl,trivial⟩
 |t::ts,v::l,x,os,h=>by
  simp[nY]at h;split at h
  .rename_i c d;obtain⟨rfl,rfl⟩:=h
   let ⟨p,e,f⟩:=qv b s t v c
   let ⟨q,a,g⟩:=p9 b s ts l d
   exact⟨p∧q,by simp[bq,nZ,e,a,eW],f,g⟩
  .cases h
 |[],_::_,_,_,h=>by simp[nY]at h
 |_::_,[],_,_,h=>by simp[nY]at h
end
def dx(c:fc S):∀(os:L Nat){s s':aY S},dU s os=Z s'->freeze (aB s) os=Z (aB s')
 |[],s,s',h=>by simp only[dU,gK]at h;subst h;rfl
 |o::os,s,s',h=>by
  simp only[dU]at h;obtain⟨e,h⟩|⟨_,h⟩:=af h
  .have d:Nl (aB s).fl o=W:=e;simp only[freeze,d,gY];split at h
   .rename_i t l era b;have:=dx c os h
    grind[ey,aI,cW]
   .rename_i t l era b;simp only[aI,b,jA,cW];exact dx c os h
   .rename_i m r b;split at h
    .rename_i t f g;obtain⟨a,h⟩|⟨_,h⟩:=af h
     .simp only[eZ]at a;have:=dx c os h;have i:Nl (aB s).fl m=W:=a.2.1;simp only[aI,b,jA,cW,Ax g,i,a.1,a.2.2.1,No,gY]
      grind[aB,Tr.mC,cW,GN]
     .cases h
    .cases h
   .rename_i b;simp only[aI,b,jA,cW];exact dx c os h
   .rename_i b;simp only[aI,b,jA,cW];exact dx c os h
   .cases h
  .cases h
def As{l:L (den S.A e)}(h:Kv s e v=Z l):∃p,BS (aB s) (low v)=Z (p,l.map (enc S e))∧p:=by
 unfold Kv at h;split at h
 .simp only[gK]at h;subst h;exact⟨True,rfl,trivial⟩
 .obtain ⟨rfl,a⟩:=fG h;cases a;exact⟨True,rfl,trivial⟩
 .obtain ⟨rfl,a⟩:=fG h;cases a;exact⟨True,rfl,trivial⟩
 .obtain ⟨rfl,a⟩:=fG h;cases a;exact⟨_,rfl,rfl⟩
 .split at h
  .rename_i t c era d;obtain⟨b,h⟩|⟨_,h⟩:=af h
   .obtain ⟨rfl,a⟩:=fG h;cases a;exact⟨True,by simp_all[low,BS,aI,cW],trivial⟩
   .cases h
  .obtain ⟨b,h⟩|⟨_,h⟩:=af h
   .obtain ⟨rfl,a⟩:=fG h;cases a;exact⟨True,by simp_all[low,BS,aI,cW],trivial⟩
   .cases h
  .cases h
 .cases h
def O4{o e:Nat}{l:L (den S.A t)}(h:LM s o e=Z ⟨t,l⟩):IT (aB s) o e=Z (S.width t,l.map (enc S t)):=by
 unfold LM at h;unfold IT;rw[aI];split at h
 .rename_i b c era d;obtain⟨a,h⟩|⟨_,h⟩:=af h
  .cases h
   simp_all[cW]
  .cases h
 .obtain ⟨a,h⟩|⟨_,h⟩:=af h
  .cases h
   simp_all[cW]
  .cases h
 .cases h
def Rq{α:Type}(f:α->D)(l:L α)(k:Nat)(z:α)(h:k<l.length):jf (l.map f) k=f (bp l k z):=by simp[jf,bp,h]
def wG{α:Type}{l:L α}(h:aN n l=W):0<=n∧n<l.length:=by simpa[aN]using h
def tM{α:Type}{k:Nat}{l:L α}(h:eR k l=W):k<l.length:=by simpa[eR]using h
def AV(a:fc S)(x:den S.A t):bq (wC (S:=S) t x)=(enc S t x).cells.map .sym:=by cases t with|st n=>simp[wC,enc,D.cells];rw[wB _ _ (a.leaf n),a.cells]|de n=>show[T.sym (PL (S.rT n x))]=(PL (S.rT n x)).cells.map .sym;rw[nE];rfl|opt n=>exact(fq (List.map T.sym) (iT _).2.2.1).symm|_=>rfl
def Ca(g:fc S)(hi:∀u,τ=Z u->yZ S i u){x:den S.A t}{off:Nat}(h:Tj i τ t x off=Z v) :
  m8 i (enc S t x) off=Z (low v)∧(enc S t x).has (Na off i.size):=by
 have w:=kH g x;obtain⟨f,o⟩|⟨_,h⟩:=af h
 .simp only[eZ]at f;clear h
  let ⟨h1,h2⟩:=f
  have p:=beq_iff'.1 h1;subst p;have h:=jT o;subst h;unfold abd at h2;split at h2
  .rename_i u;have:=jK h2;subst this;have c:=hi u rfl;cases u with
   |st n=>
    let ⟨b,a⟩:=c
    have q:(S.cells n x).length=(S.fs n).length:=by rw[g.cells,mO]
    refine⟨?_,?_⟩
    .unfold m8;rw[b,gY,a,<-q];simp[enc,low,ec,FI]
    simp_all[D.has,enc,D.cells]
   |int k=>let ⟨_,b,a⟩:=c;exact⟨by simp only[m8,b,a];rfl,by simp only[D.has,a];exact eM _⟩
   |bool=>let ⟨_,b,a⟩:=c;exact⟨by simp only[m8,b,a];rfl,by simp only[D.has,a];exact eM _⟩
   |str=>let ⟨_,b,a⟩:=c;exact⟨by simp only[m8,b,a];rfl,by simp only[D.has,a];exact eM _⟩
   |sl e=>let ⟨_,b,a,_⟩:=c;exact⟨by simp only[m8,b,a];rfl,by simp only[D.has,a];exact eM _⟩
   |de n=>
    let ⟨_,b,a⟩:=c
    have e:(enc S (.de n) x).cells=[enc S (.de n) x]:=nE _;exact⟨by simp only[m8,b,a,D.cell,e];rfl,by simp_all[D.has]⟩
   |opt n=>
    let ⟨_,b,a⟩:=c
    have e:(enc S (.opt n) x).cells=[enc S (.opt n) x]:=(iT _).2.2.1;exact⟨by simp only[m8,b,a,D.cell,e];rfl,by simp_all[D.has]⟩
   |mp k v=>let ⟨_,b,a⟩:=c;exact⟨by simp only[m8,b,a];rfl,by simp only[D.has,a];exact eM _⟩
  .cases h2
 .obtain ⟨f,h⟩|⟨_,h⟩:=af h
  .have r:off+i.size<=S.width t:=gN f;have d:=qd h;rw[me,mg,AV g]at d;have l:((List.map T.sym (enc S t x).cells).drop off).take i.size=(List.range i.size).map λj=>T.sym ((enc S t x).cell (off+j)):=by
    apply Nz;intro j;rw[kV];by_cases y:j<i.size
    .grind[D.cell]
    grind
   refine⟨?_,by simp only[D.has];grind⟩;unfold wj at d;unfold m8;cases m:i.agg with
   |true=>
    simp_all
   |false=>
    rw[m,jo]at d;split at d
    .rename_i s;have h1:i.size=1:=by
      have:=fq List.length s
      grind
     simp_all
    .cases d
  .cases h
def Jv(e:fc S)(hi:∀u,τ=Z u->yZ S i u){s':aY S}{a:V S}{c:Bool}(h:yO i τ s a=Z (c,v,s'))(f:c=W) :
  s'=s∧∃p,loadT i (aB s) (low a)=Z (p,low v,aB s')∧p:=by
 unfold yO at h;split at h
 .rename_i o off;split at h
  .rename_i g w;obtain⟨y,h⟩|⟨_,h⟩:=af h
   .simp only[fM,fh]at h;obtain⟨t,j,_,rfl,rfl⟩:=h;refine⟨rfl,True,?_,trivial⟩;have m:=qd j;rw[me,mg]at m;have n:Nq (cD (((bq g).drop off).take i.size)) i.size=W:=by
     grind[bS,eJ]
    simp_all[low,loadT,aI,cW]
   .cases h
  .cases h
 .rename_i t x off;simp only[fM,fh]at h;obtain⟨u,b,_,rfl,rfl⟩:=h
  let ⟨h1,h2⟩:=Ca e hi b
  exact⟨rfl,_,by grind[low,loadT],h2⟩
 .rename_i k off;split at h
  .rename_i t l q;simp at h;obtain⟨u,b,rfl,rfl,rfl⟩:=h
   let ⟨h1,h2⟩:=Ca e hi b
   have r:=tM f;have d:=Rq (enc S t) l k (S.zero t) r;refine⟨rfl,lH (k:Int) (eH (l.map (enc S t)))∧(enc S t (bp l k (S.zero t))).has (Na off i.size),by simp[low,loadT,O4 q,d,h1,jA],?_,h2⟩
   grind[lH,eH]
  .cases h
 .cases h
def FX{x:O Operand}(h:KM fr x=Z u):NM (bB fr) x=Z (u.map low):=by
 cases x with
 |none=>simp[KM,gK]at h;subst h;rfl|some x=>
  simp[KM,fM]at h;obtain⟨v,a,rfl⟩:=h
  grind[NM,cz]
def rm{d:Int}(h:CQ d u=Z n):∃p,w6 d (u.map low)=Z (p,n)∧p:=by cases u with|none=>simp[CQ,gK]at h;subst h;exact⟨True,rfl,trivial⟩|some v=>exact gu h
def FW(v:V S):tF (low v)=NL v:=by
 cases v with
 |ty t x=>cases t<;>rfl
 |_=>rfl
def uA{fr:bX S}:∀{l:L (Nat×Operand)}{a:L (Nat×V S)},iU fr l=Z a->su (bB fr) l=Z (a.map λp=>(p.1,low p.2))
 |[],a,h=>by simp only[iU,gK]at h;subst h;rfl
 |(k,x)::l,a,h=>by
  simp[iU]at h;split at h
  .rename_i h1 h2;simp at h;subst h;simp[su,cz h1,uA h2,pG]
  .cases h
def Cv(e:fc S){place:Nat->O (Nat×TI)}:∀{ps:L (Nat×V S)}{cells r:L (V S)},JL place cells ps=Z r->∃p,GQ place (bq cells) (ps.map λp=>(p.1,low p.2))=Z (p,bq r)∧p
 |[],cells,r,h=>by simp[JL,gK]at h;subst h;exact⟨True,rfl,trivial⟩
 |(k,v)::ps,cells,r,h=>by
  simp only[JL]at h;split at h
  .cases h
  .rename_i g;split at h
   .cases h
   .rename_i l i;obtain⟨c,h⟩|⟨_,h⟩:=af h
    .simp only[eZ]at c
     let ⟨p,j,d⟩:=rj e i
     let ⟨q,f,m⟩:=Cv e h
     simp only[j4,me,mg]at f;have b:cD (bq l)=cD l:=by rw[bS,eJ,<-bS]
     have a:cD (bq cells)=cD cells:=by rw[bS,eJ,<-bS]
     refine⟨p∧leaves (bq l)∧q,?_,d,zB c.2,m⟩;simp only[pG,GQ,g,j,b,a,c.1,gY,f,jA]
    .cases h
def Hi(a:fc S){s:aY S}{e:Ty}{i:TI}(hi:i.agg=kF e∧(kF e=W->i.size=S.width e)):∀{ps:L (Nat×V S)}{es r:L (den S.A e)}{os:L Nat},oP s e es ps=Z (r,os)->
  ∃p,sH (aB s) i (es.map (enc S e)) (ps.map λp=>(p.1,low p.2))=Z (p,r.map (enc S e),os)∧p
 |[],es,r,os,h=>by obtain⟨rfl,rfl⟩:=h;exact⟨True,rfl,trivial⟩
 |(k,v)::ps,es,r,os,h=>by
  simp[oP]at h;split at h
  .cases h
  .rename_i x f g;obtain⟨t,h⟩|⟨_,h⟩:=af h
   .split at h
    .rename_i j;obtain⟨rfl,rfl⟩:=h
     let ⟨p,l,m⟩:=qv a s e v g
     let ⟨q,d,o⟩:=Hi a hi j
     rw[FL]at d;have b:Nt k (cD (es.map (enc S e)))=W:=by grind[bS]
     refine⟨p∧(bif i.agg then(enc S e x).isAgg i.size else(enc S e x).leaf)=W∧q,by simp[pG,sH,l,b,gY,d,jA],m,?_,o⟩;rw[hi.1];cases e with|st n=>simp only[kF,gY,enc,D.isAgg];have c:=hi.2 rfl;rw[c];simp only[Sg.width,bS,a.cells,mO,eZ];refine⟨beq_iff'.2 rfl,?_⟩;rw[kA];exact ic _ _ (a.leaf n)|de n=>exact wH _|opt n=>exact(iT _).2.1|_=>rfl
    .cases h
   .cases h
end
section
def vY(s:St):∀(l m:L T){p q:Prop}{ds es:L D}{os ps:L Nat},nZ s l=Z (p,ds,os)->nZ s m=Z (q,es,ps)->∃r,nZ s (l++m)=Z (r,ds++es,os++ps)∧(p->q->r)
 |[],m,p,q,ds,es,os,ps,h,b=>by
  simp only[nZ,gK,fh]at h
  grind
 |t::l,m,p,q,ds,es,os,ps,h,b=>by
  simp[nZ]at h;split at h
  .rename_i e d f k g i h1 h2;obtain⟨rfl,rfl,rfl⟩:=h
   let ⟨r,n,a⟩:=vY s l m h2 b
   exact⟨e∧r,by grind[nZ],λc j=>⟨c.1,a c.2 j⟩⟩
  .cases h
def Lx(a:fc S):∀(t:Ty)(h:lP S.A (S.mL t)),(enc S t (wo t h)).cells=eW S (S.mL t) h
 |.st n,h=>(a.cells n (S.ER n h)).trans (fq _ (a.sC n h))|.int _,_=>rfl|.bool,_=>rfl|.str,_=>rfl|.sl _,_=>rfl|.de _,h=>by rw[show(enc S (.de _) (wo _ h)).cells=[enc S (.de _) (wo _ h)]from nE _];rfl
 |.opt _,_=>(iT _).2.2.1|.mp _ _,_=>rfl
variable {i:TI}{s s':aY S}{a x v:V S}{c:Bool}{lo hi:Int}
def Qa(u:fc S)(h:Fi i s a x=Z (c,v,s'))(hc:c=W) :
  ∃p,storeT i (aB s) (low a) (low x)=Z (p,low v,aB s')∧p:=by
 unfold Fi at h;split at h
 .cases h
 .rename_i l hl
  let ⟨p,R,hp⟩:=rj u hl
  have hlen:cD (bq l)=cD l:=by rw[bS,eJ,<-bS]
  split at h
  .rename_i o off;split at h
   .rename_i cs ho;obtain⟨E,F⟩|⟨_,F⟩:=af h
    .clear h;simp only[eZ]at E;obtain⟨_,rfl,rfl⟩:=F;have I:cD (bq cs)=cD cs:=by rw[bS,eJ,<-bS]
     have hb':(Nl (aB s).fl o&&Nl (Na off (cD l)) (cD (bq cs)))=W:=by rw[I,eZ];exact⟨E.1,E.2.1⟩
     refine⟨p∧leaves (bq l),?_,hp,zB E.2.2⟩;simp only[storeT,R,low,aI,ho,jA,cW,hb',gY,ey,j4,me,mg,hlen];rfl
    .cases F
   .cases h
  .rename_i o e k off;split at h
   .rename_i t _ _ _;split at h
    .rename_i h0 os hos;split at h
     .rename_i s1 Af;split at h
      .rename_i t2 m era ho;split at h
       .rename_i h2 os2 hh2;obtain⟨E,F⟩|⟨_,F⟩:=af h
        .clear h;simp only[eZ]at E
         let ⟨Ag,pR,Rh,Rg,hb5⟩:=E
         obtain⟨rfl,rfl,rfl⟩:=F
         let ⟨q,hd,hq⟩:=p9 u s _ l hos
         have hf:=dx u os Af;have hk:=tM hc;have K:=Rq (enc S t2) m k (S.zero t2) hk
         let ⟨q2,z,_⟩:=p9 u s _ _ hh2
         have r:off+cD l<=S.width t2:=gN Rh;have h1l:1<=cD l:=gN Rg;generalize hds:eW S (List.take (cD l) (List.drop off (S.mL t))) h0=ds at hd;have f:ds.length=cD l:=by
          have:∀(s:St)(l:L T){p:Prop}{ds:L D}{os:L Nat},nZ s l=Z (p,ds,os)->ds.length=l.length:=by
           intro s l
           induction l with
           |nil=>intro p ds os h;obtain⟨_,rfl,_⟩:=h;rfl
           |cons t l ih=>
            intro p ds os h;simp[nZ]at h;split at h
            .rename_i h2;obtain⟨_,rfl,_⟩:=h;simp[ih h2]
            .cases h
          rw[this _ _ hd,eJ,bS]
         have B:eW S (S.mL t2) h2=(enc S t2 (bp m k (S.zero t2))).cells.take off++ds++(enc S t2 (bp m k (S.zero t2))).cells.drop (Na off (cD l)):=by
          rw[j4,j4,me,mg,AV u,<-List.map_take,<-List.map_drop]at z
          let ⟨r1,e1,_⟩:=xE (aB s) ((enc S t2 (bp m k (S.zero t2))).cells.take off)
          let ⟨r2,e2,_⟩:=xE (aB s) ((enc S t2 (bp m k (S.zero t2))).cells.drop (Na off (cD l)))
          let ⟨r3,e3,_⟩:=vY _ _ _ e1 hd
          let ⟨r4,e4,_⟩:=vY _ _ _ e3 e2
          rw[e4]at z;simp only[gK,fh]at z;exact z.2.1.symm
         have C:D.PS (enc S t2 (bp m k (S.zero t2))) off ds=enc S t2 (wo t2 h2):=by
          have b:=Lx u t2 h2;rw[B]at b;cases t2 with
          |st n=>simp only[enc,D.cells]at b;simp only[enc,D.PS,f];rw[b];rfl|de n=>
           simp[Sg.width]at r;have g:off=0:=by omega
           have j:cD l=1:=by omega
           rw[j]at f;obtain⟨d1,rfl⟩:=Xk.1 f;subst g;have w:∀y:S.A n,(enc S (.de n) y).cells=[enc S (.de n) y]:=λy=>nE _;rw[w,w]at b;simp[List.take_zero,Nw,j,List.drop_succ_cons,List.drop_nil,jB,Nv,and_true]at b;have P:∀y:S.A n,D.PS (enc S (.de n) y) 0 [d1]=d1:=λy=>by show D.PS (PL (S.rT n y)) 0 [d1]=d1;cases S.rT n y<;>rfl
           rw[P];exact b.symm
          |opt n=>
           simp only[Sg.width]at r;have g:off=0:=by omega
           have j:cD l=1:=by omega
           rw[j]at f;obtain⟨d1,rfl⟩:=Xk.1 f;subst g;have w:∀y,(enc S (.opt n) y).cells=[enc S (.opt n) y]:=λy=>(iT _).2.2.1;rw[w,w]at b;simp[List.take_zero,Nw,j,List.drop_succ_cons,List.drop_nil,jB,Nv,and_true]at b;have P:∀y,D.PS (enc S (.opt n) y) 0 [d1]=d1:=λy=>by cases y<;>rfl
           rw[P];exact b.symm
          |_=>
           simp only[Sg.width]at r;have g:off=0:=by omega
           have j:cD l=1:=by omega
           rw[j]at f;obtain⟨d1,rfl⟩:=Xk.1 f;subst g;simp only[enc,D.cells,List.take_zero,Nw,j,Nat.add_eq,BW,List.drop_succ_cons,List.drop_nil,jB,Nv,and_true]at b;simp only[enc,D.PS,List.getD,ny,List.length_nil,Nat.lt_add_one,getElem?_pos,List.getElem_cons_zero,Qz,BW];exact b.symm
         have htk:(jf (m.map (enc S t2)) k).SV (S.width t2) off (cD ds):=by
          rw[K,bS,f];cases t2 with
          |st n=>
           left
           simp only[enc,D.isAgg,Sg.width,bS,u.cells,mO,eZ];refine⟨beq_iff'.2 rfl,?_⟩;rw[kA];exact ic _ _ (u.leaf n)
          |de n=>simp[Sg.width]at r;exact .inr ⟨wH _,rfl,by omega,by omega⟩
          |opt n=>simp[Sg.width]at r;exact .inr ⟨(iT _).2.1,rfl,by omega,by omega⟩
          |_=>simp only[Sg.width]at r;exact .inr ⟨rfl,rfl,by omega,by omega⟩
         have aqX:Nl (Na off (cD ds)) (S.width t2)=W:=by rw[bS,f];exact Rh
         have A:ds.all D.leaf=W:=by
          rw[kA];intro d hd';have:d∈eW S (S.mL t2) h2:=by rw[B];simp[hd']
          cases t2 with|st n=>exact ic _ _ (u.leaf n) d this|de n=>simp[Sg.mL,eW,tj]at this;rw[this];exact wH _|opt n=>simp[Sg.mL,eW,tj]at this;rw[this];exact(iT _).2.1|_=>simp only[Sg.mL,eW,tj]at this;rw[this];rfl
         have hby:((jf (m.map (enc S t2)) k).PS off ds).sL=(jf (m.map (enc S t2)) k).sL:=by rw[K,C,Cz u,Cz u]
         have aqZ:(Nl (aB s1).fl o&&Nq e era)=W:=by rw[eZ];exact⟨Ag,pR⟩
         refine⟨p∧q∧ds.all D.leaf=W∧lH (k:Int) (eH (m.map (enc S t2)))∧(jf (m.map (enc S t2)) k).SV (S.width t2) off (cD ds)∧Nl (Na off (cD ds)) (S.width t2)=W∧
          ((jf (m.map (enc S t2)) k).PS off ds).sL=(jf (m.map (enc S t2)) k).sL,?_,hp,hq,A,?_,htk,aqX,hby⟩
         .simp only[storeT,R,low,hd,hf,aI,ho,jA,cW,aqZ,gY,ey,K,C,y8,rI,FL];rfl
         .simp only[lH,eH,QA];omega
        .cases F
       .cases h
      .cases h
     .cases h
    .cases h
   .cases h
  .cases h
def Bi{len:Int}(h:fV lo hi len=W):y9 lo hi len:=by simpa[fV,y9]using h
def pO{α:Type}(f:α->D)(l:L α):eH (l.map f)=av l:=by simp[eH,av]
def SZ{α:Type}(f:α->D)(l:L α)(lo hi:Int):o7 (l.map f) lo hi=(cY l lo hi).map f:=by
 grind[o7,cY,List.map_drop,List.map_take]
def tc(a:fc S){e:Ty}(l:L (den S.A e)):jz (l.map (enc S e)) (S.width e):=by intro d b;obtain⟨x,_,rfl⟩:=v9.1 b;exact kH a x
def Fp(b:L UInt8):vu (bZ b)=av b:=by rfl
def Qd(b:L UInt8)(h:y9 lo hi (av b)):Ml (bZ b) lo hi=bZ (cY b lo hi):=by
 let ⟨h1,h2,h3⟩:=h
 unfold Ml bZ cY;apply ByteArray.ext
 grind[ByteArray.data_extract,List.drop_take]
def Qe(hS:fc S){τ:O Ty}(hi:∀u,τ=Z u->yZ S i u){l h m:O (V S)}(g:v5 i τ s x l h m=Z (c,v,s'))(C:c=W) :
  ∃p,qx i (aB s) (low x) (l.map low) (h.map low) (m.map low)=Z (p,low v,aB s')∧p:=by
 unfold v5 at g;split at g
 .rename_i lo E
  let ⟨p,f,P⟩:=rm (d:=0) E
  have f:w6 Ad (l.map low)=Z (p,lo):=f
  let ⟨w,_,_⟩:=hi _ rfl
  split at g
  .rename_i b _ hb
   let ⟨q,A,R⟩:=lA hb
   split at g
   .rename_i j B
    let ⟨r,o,I⟩:=rm B
    obtain⟨rfl,rfl,rfl⟩:=g;have a:=Bi C;refine⟨p∧q∧r∧y9 lo j (vu (bZ b)),?_,P,R,I,by exact a⟩;unfold qx;rw[w,f];simp only[A,Option.map_none,Fp,o,Qd b a];rfl
   .cases g
  .cases g
 .rename_i e lo E
  let ⟨p,f,P⟩:=rm (d:=0) E
  have f:w6 Ad (l.map low)=Z (p,lo):=f
  let ⟨⟨z,w,_⟩,_⟩:=hi _ rfl
  split at g
  .rename_i K s1 _ GG hfz
   let ⟨q,A,R⟩:=As GG
   have hf:=dx hS _ hfz;rw[<-FW]at hf;split at g
   .rename_i _ j B
    let ⟨r,o,I⟩:=rm B
    obtain⟨rfl,rfl,rfl⟩:=g;have a:=Bi C;refine⟨p∧q∧r∧jz (K.map (enc S e)) (S.width e)∧y9 lo j (eH (K.map (enc S e))),?_,P,R,I,tc hS K,by rw[pO];exact a⟩;unfold qx;rw[w,f];simp only[A,hf,pO,o,Option.map_none,SZ];rfl
   .rename_i j y hv B
    let ⟨r,o,I⟩:=rm B
    simp at o;split at g
    .obtain ⟨rfl,rfl,rfl⟩:=g;simp[eZ,fU,rF]at C;refine⟨p∧q∧r∧lo=Ad∧j=Ad,?_,P,R,I,C.1,C.2⟩;unfold qx;rw[w,f];simp[A,hf,pO,o,jA,low]
    .rename_i hno;split at g
     .rename_i mx hmx
      let ⟨t,ht1,ht⟩:=gu hmx
      obtain⟨rfl,rfl,rfl⟩:=g;simp[eZ,fU,rF]at C;have a:=Bi C.1;refine⟨p∧q∧r∧t∧jz (K.map (enc S e)) (S.width e)∧y9 lo j (eH (K.map (enc S e)))∧mx=j,?_,P,R,I,ht,tc hS K,by rw[pO];exact a,C.2⟩;unfold qx;rw[w,f];simp[A,hf,pO,o,jA,SZ];have hnl:∀q,low y=.kn .i64 q->q≠0:=by
       intro q F h0;subst h0;cases y with
       |ty t x=>cases t<;>simp[low,ec]at F
       |kn k n=>obtain⟨rfl,rfl⟩:=F;exact hno rfl
       |_=>simp[low]at F
      generalize low y=ly at ht1 hnl;split
      .exact absurd rfl (hnl 0 rfl)
      .rw[ht1];rfl
     .cases g
   .cases g
  .cases g
 .cases g
def HL{g:O Bool}{b:Bool}(h:ZU v=Z (g,b)):∃p,IU (low v)=Z (p,b)∧(orT g=W->p):=by
 unfold ZU at h;split at h
 .rename_i c i;split at h
  .rename_i d
   let ⟨p,a,e⟩:=mu d
   obtain⟨rfl,rfl⟩:=h;exact⟨c=W∧p,by simp[low,IU,a],λf=>⟨f,e⟩⟩
  .cases h
 .obtain ⟨rfl,rfl⟩:=h;exact⟨True,rfl,λ_=>trivial⟩
 .obtain ⟨rfl,rfl⟩:=h;exact⟨_,rfl,λ_=>rfl⟩
 .cases h
def U6{c b:V S}{q:Bool}(h:XL c a b=Z (q,v))(f:q=W):∃p,Ji (low c) (low a) (low b)=Z (p,low v)∧p:=by
 unfold XL at h;split at h
 .rename_i u;split at h
  .rename_i p y h1;obtain⟨rfl,rfl⟩:=h
   let ⟨r,e,k⟩:=HL h1
   refine⟨r,?_,k f⟩;have g:IU (bif u then low a else low b)=Z (r,y):=by cases u<;>exact e
   simp only[low,Ji,g];rfl
  .cases h
 split at h
 .rename_i t p x C y h1 h2 h3
  let ⟨i,j,l⟩:=mu h1
  let ⟨m,n,o⟩:=HL h2
  let ⟨s,w,z⟩:=HL h3
  obtain⟨rfl,rfl⟩:=h;refine⟨i∧(t=W->m)∧(t=J->s),by
   have A:∀u,low c≠.kb u:=by
    intro u d;cases c with
    |kb b=>grind|ty t x=>cases t<;>cases d
    |_=>cases d
   unfold Ji;split
   .simp_all
   .simp only[j,n,w];rfl,l,λB=>o ?_,λB=>z ?_⟩
  .simp_all
  simp_all
 .cases h
end
section
variable {v x ix a b:V S}{i:TI}{s s':aY S}{c:Bool}{op:BinOp}
def afE{o r:Nat}(h:low v=.sh o r):v=.sh o r:=by
 cases v with
 |ty t x=>cases t<;>simp[low,ec]at h
 |sh a b=>simpa[low]using h|_=>simp[low]at h
def GF(F:fc S){τ:O Ty}(hi:∀u,τ=Z u->yZ S i u)(a:j6 i τ s x ix=Z (c,v,s'))(C:c=W) :
  s'=s∧∃p,j7 i (aB s) (low x) (low ix)=Z (p,low v,aB s')∧p:=by
 unfold j6 at a;split at a
 .rename_i sz R bt zz e n g I
  let ⟨p,h,E⟩:=gu I
  let ⟨⟨z,b,_⟩,_⟩:=hi _ rfl
  split at a
  .rename_i o r;split at a
   .rename_i t l m;obtain⟨w,d⟩|⟨_,d⟩:=af a
    .clear a;have:=jK w;subst this;obtain⟨rfl,rfl,rfl⟩:=d;have f:=wG C;have y:Nq (S.width t) (S.width t)=W:=beq_iff'.2 rfl;refine⟨rfl,p∧lH n (eH (l.map (enc S t))),?_,E,by rw[pO];exact f⟩;unfold j7;rw[b,h];simp only[low,O4 m,y,gY];rfl
    .cases d
   .cases a
  .rename_i A;split at a
   .rename_i l m;obtain⟨rfl,rfl,rfl⟩:=a
    let ⟨q,B,K⟩:=As m
    have f:=wG C;have P:(az n)<l.length:=by unfold az;omega
    have j:=Rq (enc S e) l (az n) (S.zero e) P;refine⟨rfl,p∧q∧lH n (eH (l.map (enc S e)))∧(jf (l.map (enc S e)) (Ee n)).wide (S.width e),?_,E,K,by rw[pO];exact f,?_⟩
    .unfold j7;rw[b,h];simp only;split
     .rename_i o r k;exact absurd (afE k) (A o r)
     .rw[B];simp only[low];rw[show jf (List.map (enc S e) l) (Ee n)=_ from j]
    .show (jf (l.map (enc S e)) (az n)).cells.length=_;rw[j,kH F]
   .cases a
 .rename_i g;unfold xe at a;split at a
  .obtain ⟨w,h3⟩|⟨_,h3⟩:=af a
   .obtain ⟨rfl,rfl,rfl⟩:=h3;refine⟨rfl,True,?_,trivial⟩;unfold j7;rw[g];simp only[low,Bx,w,gY]
   .cases h3
  .cases a
 .cases a
theorem qU{i:TI}{s s':aY S}{k:Nat}{x v:V S}{c:Bool}(a:qV i s k x=Z (c,v,s')):s'=s∧∃p,qW i (aB s) k (low x)=Z (p,low v,aB s')∧p:=by
 unfold qV at a;unfold qW;split at a
 .rename_i b;try rw[b]
  try simp only
  split at a
  .rename_i d;try rw[d]
   obtain⟨_,h⟩|⟨e,h⟩:=af a
   .cases h
   .simp only[e,jo];split at h;all_goals first
     |(cases h;done)
     |(
       simp only[gK,fh]at h;obtain⟨rfl,rfl,rfl⟩:=h;exact⟨rfl,True,rfl,trivial⟩)
  .cases a
 .cases a
def Rn(e:fc S){k:Nat}(a:Cw i s k x=Z (c,v,s')):s'=s∧∃p,GR i (aB s) k (low x)=Z (p,low v,aB s')∧p:=by
 unfold Cw at a;unfold GR;split at a
 .rename_i b;try rw[b]
  try simp only
  split at a
  .rename_i off size o f q g
   let ⟨p,j,l⟩:=rj e g
   obtain⟨r,h⟩|⟨_,h⟩:=af a
   .simp only[fM,fh]at h;obtain⟨t,m,_,rfl,rfl⟩:=h;have d:=qd m;rw[me,mg]at d;have n:(Nq (cD (((bq f).drop off).take size)) size&&!(Nq size 0))=W:=by
     grind[bS,eJ]
    exact⟨rfl,p,by simp_all,l⟩
   .cases h
  .cases a
 .cases a
theorem UH{b:L UInt8}{n:Int}(h:aN n b=W):aaI (bZ b) n=mA b n:=by
 have a:=wG h;have c:n.toNat<b.length:=by omega
 unfold aaI mA;have h1:(bZ b).get! n.toNat=b.getD n.toNat 0:=by
  grind[bZ,ByteArray.get!]
 rw[h1]
def Q2(a:Cn i s x ix=Z (c,v,s'))(d:c=W):s'=s∧∃p,GD i (aB s) (low x) (low ix)=Z (p,low v,aB s')∧p:=by
 unfold Cn at a;split at a
 .rename_i n b e f g
  let ⟨p,h,j⟩:=gu f
  let ⟨q,k,l⟩:=lA g
  obtain⟨rfl,rfl,rfl⟩:=a;refine⟨rfl,p∧q∧lH n (vu (bZ b)),?_,j,l,by exact wG d⟩
  grind[GD,low,ec,enc,UH]
 .cases a
def Us(d:D):low (zeroV (S:=S) d)=qG d:=by
 unfold zeroV;split
 .rfl
 .rfl
 .rfl
 .rfl
 .unfold qG;split
  .simp_all
  .simp_all
  .grind
  .rfl
def nr:∀(l:L D),bq (l.map (zeroV (S:=S)))=l.map qG
 |[]=>rfl|d::l=>by simp[pG,bq,Us,nr l]
def RN(a:i.kd=.iface->False)(s:St)(t u:TypeId)(v:T) :
  r9 i s t W (.de u v)=(bif Nq u t then Z (True,.gM [v,.kb W],s)else(wj i.agg (i.zero.map qG)).map λz=>(True,.gM [z,.kb J],s)):=by
 unfold r9;cases b:i.kd<;>first|rfl|grind
def RO(a:i.kd=.iface->False)(s:St)(t u:TypeId)(v:T) :
  r9 i s t J (.de u v)=(bif Nq u t then Z (True,v,s)else Y):=by
 unfold r9;cases b:i.kd<;>first|rfl|grind
theorem xd{i:TI}{s s':aY S}{t:TypeId}{ok:Bool}{x v:V S}{c:Bool}(a:E3 i s t ok x=Z (c,v,s')):s'=s∧∃p,r9 i (aB s) t ok (low x)=Z (p,low v,aB s')∧p:=by
 unfold E3 at a;split at a
 .cases a
 .rename_i u w _ b;rw[low,RN b];obtain⟨d,a⟩|⟨d,a⟩:=af a
  .obtain ⟨rfl,rfl,rfl⟩:=a;exact⟨rfl,True,by rw[d];rfl,trivial⟩
  .simp only[fM,fh]at a;obtain⟨z,f,_,rfl,rfl⟩:=a;have e:=qd f;rw[nr]at e;exact⟨rfl,True,by rw[d,jo,e];rfl,trivial⟩
 .rename_i _ b;rw[low,RO b];obtain⟨d,a⟩|⟨_,a⟩:=af a
  .obtain ⟨rfl,rfl,rfl⟩:=a;exact⟨rfl,True,by rw[d];rfl,trivial⟩
  .cases a
 .cases a
def abc{op:UnOp}(a:unV i op x=Z v):∃p d,unT i op (low x)=Z (p,d)∧p∧low v=.sym d:=by
 unfold unV at a;split at a
 .rename_i c;simp only[fM]at a;obtain⟨b,f,rfl⟩:=a
  let ⟨p,e,g⟩:=mu f
  exact⟨p,_,by simp only[unT,c,e,jA];rfl,g,rfl⟩
 .rename_i c;simp at a;obtain⟨b,f,rfl⟩:=a
  let ⟨p,e,g⟩:=gu f
  exact⟨p,_,by simp only[unT,c,e,jA];rfl,g,rfl⟩
 .cases a
theorem CI{i j:TI}{s s':aY S}{x v:V S}{c:Bool}(a:TY i j s x=Z (c,v,s')):s'=s∧∃p,JV i j (aB s) (low x)=Z (p,low v,aB s')∧p:=by
 unfold TY at a;split at a
 .rename_i h1 h2;simp only[fM,fh]at a;obtain⟨n,d,_,rfl,rfl⟩:=a
  let ⟨p,b,e⟩:=gu d
  exact⟨rfl,p,by simp only[JV,h1,h2,b,jA];rfl,e⟩
 .simp only[fM,fh]at a;obtain⟨n,d,_,rfl,rfl⟩:=a
  let ⟨p,b,e⟩:=lA d
  exact⟨rfl,p,by grind[JV],e⟩
 .cases a
theorem uN{s s':aY S}{k:Nat}{x v:V S}{c:Bool}(a:A6 s k x=Z (c,v,s')):s'=s∧∃p,tQ (aB s) k (low x)=Z (p,low v,aB s')∧p:=by
 unfold A6 at a;split at a
 .simp only[fM,fh]at a;obtain⟨t,b,_,rfl,rfl⟩:=a;exact⟨rfl,True,by simp_all[low,tQ,j0,eU],trivial⟩
 .cases a
def BT(a b:L UInt8):Um (bZ a) (bZ b)=gp a b:=by show(a.toArray==b.toArray)=(a==b);simp
theorem DR{k:Lk}{a b:V S}{r:Bool}(h:EZ k a b=Z r):∃p,qX k (low a) (low b)=Z (p,r)∧p:=by
 unfold EZ at h;split at h
 .split at h
  .rename_i h1 h2;simp at h;subst h
   let ⟨p,c,d⟩:=gu h1
   let ⟨q,e,f⟩:=gu h2
   exact⟨p∧q,by simp[qX,c,e],d,f⟩
  .cases h
 .split at h
  .rename_i h1 h2;simp at h;subst h
   let ⟨p,c,d⟩:=mu h1
   let ⟨q,e,f⟩:=mu h2
   exact⟨p∧q,by simp[qX,c,e],d,f⟩
  .cases h
 .split at h
  .rename_i h1 h2;simp at h;subst h
   let ⟨p,c,d⟩:=lA h1
   let ⟨q,e,f⟩:=lA h2
   exact⟨p∧q,by simp[qX,c,e,BT],d,f⟩
  .cases h
 .cases h
theorem yR:∀{ks:L Lk}{as bs:L (V S)}{r:Bool},kG ks as bs=Z r->∃p,kf ks (bq as) (bq bs)=Z (p,r)∧p
 |[],[],[],r,h=>by simp only[kG,gK]at h;subst h;exact⟨True,rfl,trivial⟩
 |k::ks,a::as,b::bs,r,h=>by
  simp[kG]at h;split at h
  .rename_i h1 h2;simp at h;subst h
   let ⟨p,c,d⟩:=DR h1
   let ⟨q,e,f⟩:=yR h2
   exact⟨p∧q,by simp[bq,kf,c,e],d,f⟩
  .cases h
 |[],[],_::_,_,h=>by simp[kG]at h
 |[],_::_,_,_,h=>by simp[kG]at h
 |_::_,[],_,_,h=>by simp[kG]at h
 |_::_,_::_,[],_,h=>by simp[kG]at h
def OD(e:fc S){r:Bool}(h:agL i a b=Z r):∃p,Zn i (low a) (low b)=Z (p,r)∧p:=by
 unfold Zn;obtain⟨d,h⟩|⟨d,h⟩:=af h
 .grind[rj,yR]
 .rw[d];split at h
  .grind[DR]
  .rename_i c;try rw[c]
   unfold Zo at h;split at h
   .simp only[gK]at h;subst h;exact⟨True,rfl,trivial⟩
   .simp only[gK]at h;subst h;exact⟨True,rfl,trivial⟩
   .cases h
  .rename_i c;try rw[c]
   unfold Zp at h;split at h
   .simp only[gK]at h;subst h;exact⟨True,rfl,trivial⟩
   .simp only[gK]at h;subst h;exact⟨True,rfl,trivial⟩
   .cases h
  .cases h
def ZE{op:BinOp}{k:IntKind}{m n:Int}:(adi (S:=S) op k m n).map low=(V5 op k m n).map .sym:=by unfold adi V5;cases op<;>rfl
theorem Zw{op:BinOp}{k:IntKind}{m n:Int}:(ade (S:=S) op k m n).map low=(Zx op k m n).map .sym:=by unfold ade Zx;cases op<;>rfl
def VT{a b:L UInt8}(h:ac1 a b=W):Mm (bZ a) (bZ b):=by
 grind[ac1,Mm,bZ,ByteArray.size]
def ZP(z:fc S)(h:HD i op a b=Z (c,v))(B:c=W):∃p d,LK i op (low a) (low b)=Z (p,d)∧p∧low v=.sym d:=by
 have f:=h;unfold HD at h;split at h
 .simp only[fM,fh]at h;obtain⟨r,u,_,rfl⟩:=h
  let ⟨p,e,o⟩:=OD z u
  exact⟨p,_,by simp only[LK,e,jA];rfl,o,rfl⟩
 .simp only[fM,fh]at h;obtain⟨r,u,_,rfl⟩:=h
  let ⟨p,e,o⟩:=OD z u
  exact⟨p,_,by simp only[LK,e,jA];rfl,o,rfl⟩
 .rename_i g j;cases l:i.kd with
  |leaf C=>
   cases C with
   |int k=>
    have t:HD i op a b=(match iu k a,iu k b with
     |some m,Z n=>match adi op k m n with
      |some d=>Z (W,d)|none=>(ade op k m n).map λd=>(nzI n,d)
     |_,_=>Y):=by
     clear h;unfold HD;cases op<;>first|exact(g rfl).elim|exact(j rfl).elim|(simp only[l];done)|(simp only[l];cases iu k a<;>cases iu k b<;>rfl)
    have I:∀{p q:Prop}{m n:Int},yq k (low a)=Z (p,m)->yq k (low b)=Z (q,n)->LK i op (low a) (low b)=(match V5 op k m n with
     |some d=>Z (p∧q,d)|none=>(Zx op k m n).map λd=>(p∧q∧ahw n,d)):=by
     intro p q m n w x;clear h t;unfold LK;cases op<;>first|exact(g rfl).elim|exact(j rfl).elim|(simp only[l,w,x];rfl)
    rw[t]at f;split at f
    .rename_i m n h1 h2
     let ⟨p,w,o⟩:=gu h1
     let ⟨q,x,A⟩:=gu h2
     have s:=ZE (S:=S) (op:=op) (k:=k) (m:=m) (n:=n);split at f
     .grind
     .rename_i E;rw[E]at s;simp only[fM,fh]at f;obtain⟨d,F,rfl,rfl⟩:=f
      grind[Zw,Option.map_eq_some_iff,ahw,nzI]
    .cases f
   |str=>
    have y:op=.add:=by clear h;unfold HD at f;cases op<;>first|rfl|exact(g rfl).elim|exact(j rfl).elim|(simp only[l]at f;cases f)
    clear h;subst y;have t:HD i .add a b=(match vZ a,vZ b with
     |some m,Z n=>Z (ac1 m n,.ty .str (di m n))|_,_=>Y):=by
     unfold HD;simp[l];cases vZ a<;>cases vZ b<;>rfl
    rw[t]at f;split at f
    .rename_i m n h1 h2
     let ⟨p,w,o⟩:=lA h1
     let ⟨q,x,A⟩:=lA h2
     obtain⟨rfl,rfl⟩:=f;refine⟨p∧q∧Mm (bZ m) (bZ n),.lit (.string (Sw (bZ m) (bZ n))),?_,⟨o,A,VT B⟩,by rfl⟩
     simp_all[LK]
    .cases f
   |bool=>
    clear h;unfold HD at f;cases op<;>first|exact(g rfl).elim|exact(j rfl).elim|(simp only[l]at f;cases f)
   |no=>
    clear h;unfold HD at f;cases op<;>first|exact(g rfl).elim|exact(j rfl).elim|(simp only[l]at f;cases f)
  |_=>
   clear h;unfold HD at f;cases op<;>first|exact(g rfl).elim|exact(j rfl).elim|(simp only[l]at f;cases f)
def NO(A:fc S){E:fX}(hE:Sa S E){fr:bX S}{o:Op}(h:cF E fr s o=Z (c,v,s'))(F:c=W) :
  ∃p,oE E.E (bB fr) (aB s) o=Z (p,low v,aB s')∧p:=by
 cases o with
 |move x=>simp only[cF,fM,fh]at h;obtain⟨t,ht,_,rfl,rfl⟩:=h;exact⟨True,by simp[oE,cz ht,jA],trivial⟩
 |assign x=>simp only[cF,fM,fh]at h;obtain⟨t,ht,_,rfl,rfl⟩:=h;exact⟨True,by simp[oE,cz ht,jA],trivial⟩
 |pick x y z=>
  simp[cF]at h;split at h
  .rename_i a b d h1 h2 h3;simp only[fM,fh]at h;obtain⟨⟨q,t⟩,ht,rfl,rfl,rfl⟩:=h
   let ⟨p,e,l⟩:=U6 ht F
   exact⟨p,by simp[oE,cz h1,cz h2,cz h3,e,jA],l⟩
  .cases h
 |alloc t=>
  simp[cF]at h;split at h
  .rename_i i g;obtain⟨w,h⟩|⟨_,h⟩:=af h
   .obtain ⟨_,rfl,rfl⟩:=h;refine⟨True,?_,trivial⟩;have I:Nt (aB s).aE bC=W:=w;simp only[oE,g,I,gY,gV,cW,nr];rfl
   .cases h
  .cases h
 |box t x=>
  simp[cF]at h;split at h
  .rename_i i v' g hv;obtain⟨w,h⟩|⟨_,h⟩:=af h
   .simp only[fM,fh]at h;obtain⟨cs,K,_,rfl,rfl⟩:=h
    let ⟨p,e,l⟩:=rj A K
    have I:Nt (aB s).aE bC=W:=w;refine⟨p,?_,l⟩;simp only[oE,g,cz hv,I,gY,e,jA,gV,cW];rfl
   .cases h
  .cases h
 |build t ps=>
  simp[cF]at h;split at h
  .rename_i i ps' g P;split at h
   .rename_i B;simp only[fM,fh]at h;obtain⟨cs,K,_,rfl,rfl⟩:=h
    let ⟨p,e,l⟩:=Cv A K
    rw[nr]at e;refine⟨p,?_,l⟩;simp only[oE,g,uA P,B,low];exact fq (Option.map λq:Prop×L T=>(q.1,T.agg q.2,aB s)) e
   .cases h
  .cases h
 |buildSlice t n ps=>
  simp only[cF]at h;split at h
  .rename_i i e ps' g Li P;split at h
   .rename_i zz B;obtain⟨w,h⟩|⟨_,h⟩:=af h
    .split at h
     .rename_i os hel;simp only[fM,fh]at h;obtain⟨s1,Af,_,rfl,rfl⟩:=h
      let ⟨⟨z,C,R⟩,_,_,hpos⟩:=hE.row _ _ _ g Li
      rw[B]at C;obtain⟨rfl,rfl,rfl,rfl⟩:=Kd.slice.inj C;have hf:=dx A os Af;have hzl:cD zz=S.width e:=by cases e with|st m=>simp[kF,gY,enc,D.agg.injEq]at R;rw[R];simp[Sg.width,bS];rw[show S.cells m (S.zero (.st m))=_ from A.cells m _,mO]|_=>simp only[kF,jo]at R;rw[R];rfl
      have YR:((kF e||Nq (S.width e) 1)&&(Nq (cD zz) (S.width e)&&(!(Nq (S.width e) 0)&&Nl (Nat.mul n (S.width e)) 16777216)))=W:=by
       rw[hzl];simp only[eZ,Nf];refine⟨?_,beq_iff'.2 rfl,?_,w⟩
       .cases e<;>rfl
       .cases hq:Nq (S.width e) 0 with|false=>rfl|true=>have:=beq_iff'.1 hq;omega
      have af4:List.replicate n (bif kF e then D.agg zz else zz.getD 0 default)=(List.replicate n (S.zero e)).map (enc S e):=by
       rw[List.map_replicate]
       congr 1
       cases e with|st m=>exact R|_=>simp only[kF,jo]at R ⊢;rw[R];rfl
      let ⟨p,e1,l⟩:=Hi A (i:={(default:TI)with size:=S.width e,agg:=kF e}) ⟨rfl,λ_=>rfl⟩ hel
      refine⟨p,?_,l⟩;simp only[oE,g,uA P,B,YR,gY,af4,e1,hf,jA,low]
     .cases h
    .cases h
   .cases h
  .cases h
 |load t x=>
  simp[cF]at h;split at h
  .rename_i i a g r;obtain⟨rfl,p,e,l⟩:=Jv A (λu hu=>hE.row _ _ _ g hu) h F;exact⟨p,by simp[oE,g,cz r,e],l⟩
  .cases h
 |store t x y=>
  simp[cF]at h;split at h
  .rename_i i a b g r w
   let ⟨p,e,l⟩:=Qa A h F
   exact⟨p,by simp[oE,g,cz r,cz w,e],l⟩
  .cases h
 |nilCheck x=>
  simp[cF]at h;split at h;all_goals first
   |(cases h;done)
   |(
     rename_i hx;simp only[gK,fh]at h;obtain⟨_,rfl,rfl⟩:=h;have:=cz hx;simp only[low]at this;exact⟨True,by simp only[oE,this,low],trivial⟩)
 |binOp op t x y u=>
  simp[cF]at h;split at h
  .rename_i i a b g r w;simp only[fM,fh]at h;obtain⟨⟨q,d⟩,hd,rfl,rfl,rfl⟩:=h
   let ⟨p,d',e,l,hl⟩:=ZP A hd F
   exact⟨p,by simp[oE,g,cz r,cz w,e,jA,hl],l⟩
  .cases h
 |unOp op t x=>
  simp[cF]at h;split at h
  .rename_i i a g r;simp only[fM,fh]at h;obtain⟨d,hd,_,rfl,rfl⟩:=h
   let ⟨p,d',e,l,hl⟩:=abc hd
   exact⟨p,by simp[oE,g,cz r,e,jA,hl],l⟩
  .cases h
 |convert t u x=>
  simp[cF]at h;split at h
  .rename_i i j a g hj r;obtain⟨rfl,p,e,l⟩:=CI h;exact⟨p,by simp[oE,g,hj,cz r,e],l⟩
  .cases h
 |makeInterface t x=>
  simp[cF]at h;split at h
  .rename_i i a g r;split at h
   .cases h
   .obtain ⟨_,rfl,rfl⟩:=h;refine⟨True,?_,trivial⟩;simp[oE,g,cz r,low]
  .cases h
 |makeFunc f a b=>
  simp[cF]at h;split at h
  .rename_i x y hx hy;obtain⟨_,rfl,rfl⟩:=h;exact⟨True,by simp[oE,gU hx,gU hy,low],trivial⟩
  .cases h
 |extract x k=>
  simp[cF]at h;split at h
  .rename_i a r;obtain⟨rfl,p,e,l⟩:=uN h;exact⟨p,by simp[oE,cz r,e],l⟩
  .cases h
 |fieldAddr t x k=>
  simp[cF]at h;split at h
  .rename_i i a g r;obtain⟨rfl,p,e,l⟩:=qU h;exact⟨p,by simp[oE,g,cz r,e],l⟩
  .cases h
 |field t x k=>
  simp[cF]at h;split at h
  .rename_i i a g r;obtain⟨rfl,p,e,l⟩:=Rn A h;exact⟨p,by simp[oE,g,cz r,e],l⟩
  .cases h
 |indexAddr t x y=>
  simp[cF]at h;split at h
  .rename_i i a b g r w;obtain⟨rfl,p,e,l⟩:=GF A (λu hu=>hE.row _ _ _ g hu) h F;exact⟨p,by simp[oE,g,cz r,cz w,e],l⟩
  .cases h
 |index t x y=>
  simp[cF]at h;split at h
  .rename_i i a b g r w;obtain⟨rfl,p,e,l⟩:=Q2 h F;exact⟨p,by simp[oE,g,cz r,cz w,e],l⟩
  .cases h
 |slice t x lo g mx=>
  simp[cF]at h;split at h
  .rename_i i a l1 l2 l3 hi' r h1 h2 h3
   let ⟨p,e,l⟩:=Qe A (λu hu=>hE.row _ _ _ hi' hu) h F
   exact⟨p,by simp[oE,hi',cz r,FX h1,FX h2,FX h3,e],l⟩
  .cases h
 |typeAssert x t u ok=>
  simp[cF]at h;split at h
  .rename_i g r;obtain⟨rfl,p,e,l⟩:=xd h;exact⟨p,by simp[oE,g,cz r,e],l⟩
  .cases h
 |_=>simp[cF]at h
end
section
variable {e:Ty}{v:V S}{s s':aY S}{c:Bool}
def E2(a:fc S)(l:L (den S.A e)):vL (l.map (enc S e)) (zU S e):=by intro d b;obtain⟨x,_,rfl⟩:=v9.1 b;exact⟨Cz a x,OE a x⟩
def u5{α:Type}(f:α->D)(l m:L α):iB (l.map f) (m.map f)=(di l m).map f:=by simp[iB,di]
def EY{α:Type}(f:α->D){l m:L α}(h:dF l m=W):D.TQ (l.map f) (m.map f):=by simpa[dF,D.TQ]using h
def abY{n:Nat}{es:L D}(h:low v=.kr n es):∃t l,v=.kr n t l:=by
 cases v with
 |ty t x=>cases t<;>simp[low,ec]at h
 |kr a t l=>obtain⟨rfl,_⟩:=h;exact⟨t,l,rfl⟩
 |_=>simp[low]at h
def O6(l:fc S){i:TI}(hi:yZ S i (.sl e)){x y:V S}(h:Ua i e s x y=Z (c,v,s'))(C:c=W) :
  ∃p,u0 i (aB s) (low x) (low y)=Z (p,low v,aB s')∧p:=by
 obtain⟨_,a⟩|⟨E,a⟩:=af h
 .cases a
 clear h;have m:(!(Nt (aB s).aE bC))=J:=E;unfold u0;rw[m,jo]
 let ⟨⟨z,n,hz⟩,_⟩:=hi
 split at a
 .rename_i new g u;rw[n]at g;obtain⟨rfl,rfl,rfl,rfl⟩:=Kd.slice.inj g
  let ⟨q,F,A⟩:=As u
  rw[n,F];have w:=tc l new;have I:=E2 l new;split at a
  .obtain ⟨_,rfl,rfl⟩:=a;refine⟨q∧jz (new.map (enc S e)) (S.width e)∧vL (new.map (enc S e)) (zU S e),?_,A,w,I⟩;simp only[low,gV,cW];rfl
  .rename_i t f;split at a
   .rename_i es2 b;obtain⟨rfl,K⟩:=fG b;cases K;have j:=tc l (di f new);have d:=E2 l (di f new);rw[<-u5]at j d;split at a
    .rename_i k t2 l2;obtain⟨rfl,rfl,rfl⟩:=a;refine⟨q∧jz (iB (f.map (enc S t)) (new.map (enc S t))) (S.width t)∧vL (iB (f.map (enc S t)) (new.map (enc S t))) (zU S t)∧D.TQ (f.map (enc S t)) (new.map (enc S t)),?_,A,j,d,EY _ C⟩;simp only[low,gV,cW,<-u5];rfl
    .obtain ⟨rfl,rfl,rfl⟩:=a;refine⟨q∧jz (iB (f.map (enc S t)) (new.map (enc S t))) (S.width t)∧vL (iB (f.map (enc S t)) (new.map (enc S t))) (zU S t)∧D.TQ (f.map (enc S t)) (new.map (enc S t)),?_,A,j,d,EY _ C⟩;simp[low];split
     .rename_i hl;obtain⟨t3,l3,rfl⟩:=abY hl
      grind
     .simp[ec,enc,<-u5]
   .cases a
  .rename_i o r;split at a
   .rename_i t f era ho;split at a
    .rename_i b;obtain⟨rfl,K⟩:=fG b;cases K;obtain⟨B,P⟩|⟨_,P⟩:=af a
     .clear a;simp only[eZ]at B;obtain⟨rfl,rfl,rfl⟩:=P;have d:=E2 l (di f new);rw[<-u5]at d;refine⟨q∧jz (new.map (enc S t)) (S.width t)∧vL (iB (f.map (enc S t)) (new.map (enc S t))) (zU S t)∧D.TQ (f.map (enc S t)) (new.map (enc S t)),?_,A,w,d,EY _ C⟩;have R:(Nl (aB s).fl o&&Nq r era&&Nq (S.width t) (S.width t)&&!(tF (low y)).contains o)=W:=by rw[FW];simp only[eZ];exact⟨⟨⟨B.1,B.2.1⟩,beq_iff'.2 rfl⟩,B.2.2⟩
      simp only[low,aI,ho,jA,cW,R,gY,ey,<-u5]
     .cases P
    .cases a
   .cases a
  .cases a
 .cases a
def yV(w:fc S){E:fX}(r:Sa S E){b:Builtin}{n:Array TypeId}{args:L (V S)}(h:ie E s b n args=Z (c,v,s'))(y:c=W) :
  ∃p,fH E.E (aB s) b n (bq args)=Z (p,low v,aB s')∧p:=by
 unfold ie at h;split at h
 .rename_i x;split at h
  .rename_i i j d
   let ⟨k,l,m⟩:=vP.1 j
   let ⟨A,a,f⟩:=vP.1 d
   rw[l]at a;cases a
   let ⟨g,_⟩:=r.row _ _ _ m f
   split at h
   .rename_i _ B
    let ⟨p,e,o⟩:=lA B
    obtain⟨_,rfl,rfl⟩:=h;exact⟨p,by simp only[bq,fH,e,j,g,Fp];rfl,o⟩
   .cases h
  .rename_i i e j d
   let ⟨k,l,m⟩:=vP.1 j
   let ⟨A,a,f⟩:=vP.1 d
   rw[l]at a;cases a
   let ⟨⟨z,g,_⟩,_⟩:=r.row _ _ _ m f
   split at h
   .simp only[fM,fh]at h;obtain⟨I,t,_,rfl,rfl⟩:=h
    let ⟨p,u,o⟩:=As t
    refine⟨p,?_,o⟩;simp[bq,fH];cases C:Aq (low x)with|none=>simp only[j,g,u,jA,pO];rfl|some q=>simp only[j,g,u,jA,pO];rfl
   .cases h
  .cases h
 .split at h
  .split at h
   .rename_i j K d;split at h
    .rename_i F
     let ⟨p,u,o⟩:=O6 w (r.row _ _ _ j d) h y
     grind[bq,fH]
    .cases h
   .cases h
  .cases h
 .cases h
end
section
section
variable {g g':Gh}{w w':World}
structure mX(g g':Gh):Prop where
 bP:∀o b,g.bP o=Z b->g'.bP o=Z b
 arr:∀o e x,g.arr o e=Z x->g'.arr o e=Z x
 bh:∀b,g.bh b->g'.bh b
theorem mX.refl(g:Gh):mX g g:=⟨λ_ _ h=>h,λ_ _ _ h=>h,λ_ h=>h⟩
def mX.trans{g g' a:Gh}(h:mX g g')(k:mX g' a):mX g a:=⟨λo b e=>k.bP o b (h.bP o b e),λo e x c=>k.arr o e x (h.arr o e x c),λb e=>k.bh b (h.bh b e)⟩
variable {v:Value}{s s':St}{o b e:Nat}{x:eY}{os:List Nat}
def dH.le{I a:Nat->Prop}(c:∀b,I b->a b){d:D}(h:dH I w d v):dH a w d v:=h.mono (λ_ _=>rfl) c
def aH.le(h:mX g g'){t:T}{v:Value}(F:aH g w t v):aH g' w t v:=by
 induction F with|sym d v p=>exact .sym d v (p.le h.bh)|kb b=>exact .kb b|kn k n=>exact .kn k n|ptr o off b q=>exact .ptr o off b (h.bP o b q)|lR d off z val A I p=>exact .lR d off z val (h.bh _ A) I (λj c B=>(p j c B).le h.bh)|lQ o e i off len cap sz z s=>exact .lQ o e i off len cap sz z (h.arr _ _ _ s)|sh o e len cap sz a s=>exact .sh o e len cap sz a (h.arr _ _ _ s)|emp a=>exact .emp a|kr n K a P p=>exact .kr n K a P (p.le h.bh)|fn f R u S vc y hm _ _ l C=>exact .fn f R u S vc y hm l C|de t x v _ l=>exact .de t x v l|agg u E y _ l=>exact .agg u E y l|gM u E y _ l=>exact .gM u E y l|gd c t v _ l=>exact .gd c t v l|mp o b q=>exact .mp o b (h.bP o b q)|rE o b q=>exact .rE o b (h.bP o b q)|uj o b q=>exact .uj o b (h.bP o b q)|ub e b h=>exact .ub e b h|sx o m r i len cap sz a s=>exact .sx o m r i len cap sz a (h.arr _ _ _ s)|pW j d c a B p=>exact .pW j d c a B (p.le h.bh)
def xw.le{s s':St}{o b:Nat}(h:xw g s w o b)(c:mX g g')(hi:g'.bh=g.bh)(hs:s'.ob.get o=s.ob.get o):xw g' s' w o b:=by
 refine⟨by rw[hi];exact h.1,h.2.1,λob a=>?_⟩;rw[hs]at a
 let ⟨x,h1,h2⟩:=h.2.2 ob a
 exact⟨x,h1,h2.imp (λ_ _ h=>h.le c)⟩
def BK.le(h:BK g s w o e x)(hi:g'.bh=g.bh)(hs:s'.ob.get o=s.ob.get o)(b:∀k j y,g.arr k j=Z y->g'.arr k j=Z y)(d:∀c,g'.arr o c=g.arr o c):BK g' s' w o e x:=by refine⟨h.1,λob a=>?_⟩;rw[hs]at a;exact(h.2 ob a).tr (λh=>h.j8 hi) b (funext d) (λ_ _ _=>⟨rfl,by rw[hi]⟩)
def aV.ZZ(hs:aV g s w)(hn:s.aE<bC){sz:Nat}{es:L D}
  (v:∀b,x.at b->b<w.heap.size∧∀o,¬bz g o b) (n:xC g w J sz es x) (p:x.sz=sz) :
  aV (g.era s.aE 0 x) (eg s (.arr sz es 0)).2 w∧mX g (g.era s.aE 0 x)∧(∀k b,bz (g.era s.aE 0 x) k b->bz g k b∨(k=s.aE∧x.at b)):=by
 have q:=hs.ah s.aE (eM _);have e:∀k j y,g.arr k j=Z y->(g.era s.aE 0 x).arr k j=Z y:=λk j y h=>by
  rw[Gh.cQ]
  .exact h
  grind
 have i:mX g (g.era s.aE 0 x):=⟨λ_ _ h=>h,e,λ_ h=>h⟩;have a:∀k b,bz (g.era s.aE 0 x) k b->bz g k b∨(k=s.aE∧x.at b):=by
  rintro k b ⟨h1,h2|⟨j,y,m,h2,h3,h4,h5⟩⟩
  .exact .inl ⟨h1,.inl h2⟩
  .by_cases c:k=s.aE∧j=0
   .obtain ⟨rfl,rfl⟩:=c;rw[Gh.fE]at h2;simp at h2;subst h2;exact .inr ⟨rfl,⟨m,h3,h4,h5⟩⟩
   .rw[Gh.cQ _ _ _ _ _ _ c]at h2;exact .inl ⟨h1,.inr ⟨j,y,m,h2,h3,h4,h5⟩⟩
 refine⟨⟨by simp only[eg];omega,λk z=>?_,λk b r=>?_,λk j y l=>?_,λb r=>hs.bh b r,λk u b h A=>?_⟩,i,a⟩
 .simp only[eg]at z;refine⟨(hs.ah k (by omega)).1,λj=>?_⟩;rw[Gh.cQ _ _ _ _ _ _ (by omega)];exact(hs.ah k (by omega)).2 j
 .have t:g.bP k=Z b:=r;have d:k≠s.aE:=λh=>by simp_all
  exact(hs.box k b t).le i rfl (by simp[eg];rw[Tr.aR _ _ _ _ hn,bL d])
 .by_cases c:k=s.aE∧j=0
  .obtain ⟨rfl,rfl⟩:=c;rw[Gh.fE]at l;simp at l;subst l;refine⟨λm B C=>(v _ ⟨m,B,rfl,C⟩).1,λob f=>.inl ⟨J,es,0,?_,eM _,λE h=>?_,λ_=>p▸(n.j8 rfl)⟩⟩
   .simp[eg]at f;rw[Tr.aR _ _ _ _ hn,bw rfl]at f
    grind[fW]
   grind[Gh.cQ]
  .rw[Gh.cQ _ _ _ _ _ _ c]at l;have d:k≠s.aE:=λh=>by simp_all
   exact(hs.arr k j y l).le rfl (by simp[eg];rw[Tr.aR _ _ _ _ hn,bL d]) e (λE=>Gh.cQ _ _ _ _ _ _ (λh=>d h.1))
 .obtain h1|⟨h1,h3⟩:=a k b h<;>obtain h2|⟨h2,h4⟩:=a u b A
  .exact hs.jS k u b h1 h2
  .simp_all
  .simp_all
  .rw[h1,h2]
def aV.tK(hs:aV g s w)(m:g.bP o=Z b){ob:Ob}{x:Obj}(t:w.heap[b]?=Z x)(u:gS g w ob x)(l:∀e,g.arr o e=Y):aV g {s with ob:=s.ob.set aK o ob} w:=by
 have n:=hs.lt m;have p:=hs.aE;have ef:∀k,(Tr.set aK s.ob o ob).get k=if k=o then Z ob else s.ob.get k:=λk=>Tr.aR _ _ _ _ (by omega)
 refine⟨hs.aE,hs.ah,λk c q=>?_,λk e x r=>?_,hs.bh,hs.jS⟩
 .have d:=hs.box k c q;refine⟨d.1,d.2.1,λf a=>?_⟩;rw[ef]at a;by_cases i:k=o
  .simp_all
  .rw[bL i]at a;exact d.2.2 f a
 .have j:=hs.arr k e x r;have i:k≠o:=λh=>by simp_all
  refine⟨j.1,λf a=>?_⟩;rw[ef,bL i]at a;exact j.2 f a
theorem aV.step{s:St}(hs:aV g s w){I X:Nat->Prop}(B:∀b,g.bh b->I b)(hIn:∀b,I b->g.bh b∨w.heap.size<=b∨X b)(hIs:∀b,I b->b<w'.heap.size)(u:w.heap.size<=w'.heap.size)
  (R:∀b,b<w.heap.size->¬X b->w'.heap[b]?=w.heap[b]?) (hX:∀o b,X b->bz g o b->s.ob.get o=Y∧¬I b) (hXi:∀b,X b->¬g.bh b) :
  aV {g with bh:=I} s w':=by
 have F:∀k b,bz ({g with bh:=I}:Gh) k b->bz g k b:=λk b h=>⟨λhi=>h.1 (B b hi),h.2⟩;have S:jQ g.bh w w':=λb p=>R b (hs.bh b p) (λy=>hXi b y p);have hkeep:∀{t:T}{v:Value},aH g w t v->aH ({g with bh:=I}:Gh) w' t v:=by
  intro t v ht
  induction ht with|sym d v z=>exact .sym d v (z.mono S B)|kb b=>exact .kb b|kn k n=>exact .kn k n|ptr o off b p=>exact .ptr o off b p|lR d off ad val l q z=>exact .lR d off ad val (B _ l) (λj c K=>by rw[S.cell (by rw[kK];exact l)];grind) (λj c K=>(z j c K).mono S B)|lQ o e i off len cap sz ad y=>exact .lQ o e i off len cap sz ad y|sh o e len cap sz a y=>exact .sh o e len cap sz a y|emp a=>exact .emp a|kr n es a hn z=>exact .kr n es a hn (z.mono S B)|fn f fs cs va vc hl hm _ _ C ih'=>exact .fn f fs cs va vc hl hm C ih'|de t x v _ C=>exact .de t x v C|agg cs vs hl _ C=>exact .agg cs vs hl C|gM cs vs hl _ C=>exact .gM cs vs hl C|gd c t v _ C=>exact .gd c t v C|mp o b p=>exact .mp o b p|rE o b p=>exact .rE o b p|uj o b p=>exact .uj o b p|ub e b h=>exact .ub e b h|sx o m r i len cap sz a y=>exact .sx o m r i len cap sz a y|pW j d c a K z=>exact .pW j d c a K (z.mono S B)
 have P:∀o b,bz g o b->¬I b:=λo b hO hi=>by
  obtain h|h|h:=hIn b hi
  .exact hO.1 h
  .have:=(hs.rP hO).1;omega
  grind
 refine⟨hs.aE,hs.ah,λk c q=>?_,λk e x y=>?_,hIs,λk k' b h h'=>hs.jS k k' b (F k b h) (F k' b h')⟩
 .have A:=hs.box k c q;have hO:bz g k c:=⟨A.1,.inl q⟩;refine⟨P k c hO,iO A.2.1 u,λob lg=>?_⟩
  let ⟨x,h2,h3⟩:=A.2.2 ob lg
  exact⟨x,by grind,h3.imp (λ_ _ h=>hkeep h)⟩
 .have E:=hs.arr k e x y;refine⟨λad ha q=>iO (E.1 ad ha q) u,λob lg=>?_⟩;refine(E.2 ob lg).tr (λ{fz sz es}hA=>?_) (λ_ _ _ h=>h) rfl (λb k1 q=>?_);rotate_left
  .have p:b<w.heap.size:=E.1 _ k1 q;by_cases l:g.bh b
   .grind
   .have hO:bz g k b:=⟨l,.inr ⟨e,x,_,y,k1,rfl,q⟩⟩
    grind
  refine⟨hA.len,hA.cap,hA.rows,hA.pos,hA.WD,λq=>?_⟩
  let ⟨b,vs,ty,k1,k2,k3,k4,k5⟩:=hA.mem q
  have p:b<w.heap.size:=E.1 _ k1 q;by_cases l:g.bh b
  .refine ⟨b,vs,ty,k1,⟨λ_=>B b l,λ_=>k2.2 l⟩,by grind,k4,λi d j c z K=>?_⟩
   let ⟨v,hv,hr⟩:=k5 i d j c z K
   exact⟨v,hv,hr.mono S B⟩
  .have hO:bz g k b:=⟨l,.inr ⟨e,x,_,y,k1,rfl,q⟩⟩;have hnx:¬X b:=λhxx=>by grind
   refine⟨b,vs,ty,k1,⟨λhf=>absurd (k2.1 hf) l,λhi=>absurd hi (P k b hO)⟩,by simp_all,k4,λi d j c z K=>?_⟩
   let ⟨v,hv,hr⟩:=k5 i d j c z K
   exact⟨v,hv,hr.mono S B⟩
def Gh.drop(g:Gh)(os:L Nat):Gh:={g with arr:=λo e=>if o∈os then Y else g.arr o e}
def Gh.Hl(h:(g.drop os).arr o e=Z x):o∉os∧g.arr o e=Z x:=by
 grind[Gh.drop]
def Gh.zM{k:Nat}(h:bz (g.drop os) k b):bz g k b:=by
 obtain⟨h1,h2|⟨e,x,a,h2,h3⟩⟩:=h
 .exact ⟨h1,.inl h2⟩
 .exact ⟨h1,.inr ⟨e,x,a,(Gh.Hl h2).2,h3⟩⟩
mutual
def dw(os:L Nat):T->Bool
 |.ptr o _=>os.contains o|.lQ o _ _ _=>os.contains o|.sh o _=>os.contains o|.mp o=>os.contains o|.rE o=>os.contains o|.uj o=>os.contains o|.fn _ a b=>iI os a||iI os b|.de _ v=>dw os v|.agg c=>iI os c|.gM c=>iI os c|.gd _ v=>dw os v|.sx o m _ _=>os.contains o||os.contains m|_=>J
def iI(os:L Nat):L T->Bool
 |[]=>J|v::l=>dw os v||iI os l
end
def qK{os:L Nat}:∀{l:L T},iI os l=J->∀t∈l,dw os t=J
 |[],_,t,b=>by cases b
 |a::l,h,t,b=>by
  simp[iI,zl]at h;obtain rfl|b:=fS.1 b
  .exact h.1
  .exact qK h.2 t b
theorem aH.drop{os:L Nat}{t:T}{v:Value}(h:aH g w t v)(l:dw os t=J):aH (g.drop os) w t v:=by
 induction h with|sym d v q=>exact .sym d v q|kb b=>exact .kb b|kn k n=>exact .kn k n|ptr o off b h=>exact .ptr o off b h|lR d off y val E z q=>exact .lR d off y val E z q|lQ o e i off len cap sz y h=>simp[dw,FJ,Xf]at l;exact .lQ o e i off len cap sz y (by simp[Gh.drop,bL l];exact h)|sh o e len cap sz a h=>simp[dw,FJ,Xf]at l;exact .sh o e len cap sz a (by simp[Gh.drop,bL l];exact h)|emp a=>exact .emp a|kr k F a I q=>exact .kr k F a I q|fn f K s P R u A _ _ p B=>simp[dw,zl]at l;exact .fn f K s P R u A (λj t v h1 h2=>p j t v h1 h2 (qK l.1 t (iq h1))) (λj t v h1 h2=>B j t v h1 h2 (qK l.2 t (iq h1)))|de t x v _ p=>exact .de t x v (p l)|agg s C u _ p=>exact .agg s C u (λj t v h1 h2=>p j t v h1 h2 (qK l t (iq h1)))|gM s C u _ p=>exact .gM s C u (λj t v h1 h2=>p j t v h1 h2 (qK l t (iq h1)))|gd c t v _ p=>exact .gd c t v (λz=>p z l)|mp o b h=>exact .mp o b h|rE o b h=>exact .rE o b h|uj o b h=>exact .uj o b h|ub e b h=>exact .ub e b h|sx o m r i len cap sz a h=>simp[dw,zl,FJ,Xf]at l;exact .sx o m r i len cap sz a (by simp_all[Gh.drop])|pW j d c a S q=>exact .pW j d c a S q
def aai(os:L Nat)(ob a:Ob):Prop:=si (dw os) ob a
theorem aV.drop{s i:St}(hs:aV g s w){os:L Nat}(hn:i.aE=s.aE)(d:∀o a,i.ob.get o=Z a->∃ob,s.ob.get o=Z ob∧aai os ob a):aV (g.drop os) i w:=by
 refine⟨hn▸hs.aE,λo f=>⟨(hs.ah o (hn▸f)).1,λe=>?_⟩,λo b q=>?_,λo e x r=>?_,hs.bh,λo u b h z=>hs.jS o u b (Gh.zM h) (Gh.zM z)⟩
 .simp only[Gh.drop];split
  .rfl
  .exact (hs.ah o (hn▸f)).2 e
 .let ⟨h1,h2,h3⟩:=hs.box o b q
  refine⟨h1,h2,λa c=>?_⟩
  let ⟨ob,k,l⟩:=d o a c
  let ⟨x,h4,h5⟩:=h3 ob k
  exact⟨x,h4,h5.left (λt v A p=>A.drop p) l⟩
 .let ⟨f,n⟩:=Gh.Hl r
  let ⟨h1,h2⟩:=hs.arr o e x n
  refine⟨h1,λa c=>?_⟩
  let ⟨ob,k,l⟩:=d o a c
  refine(h2 ob k).left l (λh=>h.j8 rfl) (λm j y p h=>?_) (funext λB=>by simp[Gh.drop,bL f]) (λ_ _ _=>⟨rfl,vO⟩)
  simp_all[dw,Gh.drop]
end
end
section
def ghI(I:Nat->Prop):Gh:=⟨λ_=>Y,λ_ _=>Y,I⟩
def aaZ(I:Nat->Prop)(w:World)(sz:Nat)(es:L D)(x:eY):Prop:=xC (ghI I) w J sz es x∧x.sz=sz
def aht(S:Sg)(I:Nat->Prop)(w:World)(n j:Nat)(t:Ty)(l:L (S.A n))(a:eY)(rl:L eY):Prop:=
 ∃hl:L Value,hl.length=l.length∧aaZ I w (S.width (.st n)) (lits j (l.map (enc S (.st n))) hl) a∧rl.length=l.length∧
  (∀(i:Nat)(y:eY),rl[i]?=Z y->hl[i]?=Z (.slice y.a y.len y.cap))∧(∀(i:Nat)(y:eY)(x:S.A n),rl[i]?=Z y->l[i]?=Z x->aaZ I w (S.width t) ((IG n j t x).map (enc S t)) y)∧Eo S n j t=W
inductive jJ(S:Sg)(I:Nat->Prop)(w:World):(cs:List Ck)->gx S.A cs->List Value->List eY->Prop where
 |nil:jJ S I w [] () [] []|dat {t:Ty} {cs:List Ck} {x:den S.A t} {h:gx S.A cs} {v:Value} {vs:List Value} {al:List eY} (hd:dH I w (enc S t x) v) (hr:jJ S I w cs h vs al):jJ S I w (.dat t::cs) (x,h) (v::vs) al|own {e:Ty} {cs:List Ck} {l:List (den S.A e)} {h:gx S.A cs} {a:eY} {vs:List Value} {al:List eY} (ho:aaZ I w (S.width e) (l.map (enc S e)) a) (hr:jJ S I w cs h vs al) :
   jJ S I w (.own e::cs) (l,h) (.slice a.a a.len a.cap::vs) (a::al)
 |j3 {n j:Nat} {t:Ty} {cs:List Ck} {l:List (S.A n)} {h:gx S.A cs} {a:eY} {rl:List eY} {vs:List Value} {al:List eY} (ho:aht S I w n j t l a rl) (hr:jJ S I w cs h vs al) :
   jJ S I w (.j3 n j t::cs) (l,h) (.slice a.a a.len a.cap::vs) (a::(rl++al))
 |nl {e:Ty} {cs:List Ck} {h:gx S.A cs} {a:Option Addr} {vs:List Value} {al:List eY} (hr:jJ S I w cs h vs al):jJ S I w (.nil e::cs) ([],h) (.slice a 0 0::vs) al|ptr {t:Ty} {cs:List Ck} {x:den S.A t} {h:gx S.A cs} {ad:Addr} {val:Nat->Value} {vs:List Value} {al:List eY} (hi:I ad.block) (hc:∀j c,(enc S t x).cells[j]?=Z c->w.cell? (ad.add j)=Z (val j))
   (hd:∀j c,(enc S t x).cells[j]?=Z c->dH I w c (val j)) (hr:jJ S I w cs h vs al):jJ S I w (.ptr t::cs) (x,h) (.pointer (Z (ad.add 0))::vs) al
inductive AL(g:Gh):List eY->List Nat->Prop where
 |nil:AL g [] []|emp {a:eY} {al:List eY} {ow:List Nat} (h:a.cap=0) (hr:AL g al ow):AL g (a::al) ow|own {a:eY} {al:List eY} {o e:Nat} {ow:List Nat} (h:g.arr o e=Z a) (hr:AL g al ow):AL g (a::al) (o::ow)
 |rows {rl al:List eY} {m:Nat} {ow:List Nat} (h:∀y∈rl,∃e,g.arr m e=Z y) (hap:rl.Pairwise λx y=>∀b,x.at b->¬y.at b) (hr:AL g al ow):AL g (rl++al) (m::ow)
variable {g:Gh}{al vI:List eY}{ow fz:List Nat}{s:aY S}{w:World}{I:Nat->Prop}{a:eY}{b n j o:Nat}{t:Ty}{cs:List Ck}{vs:List Value}{c:Ck}{v:Value}{ob:u9 S}{k:Bk}{nx:Option Nat}
def AL.append{a:L Nat}(h:AL g al ow)(d:AL g vI a):AL g (al++vI) (ow++a):=by
 induction h with|nil=>exact d|emp h _ b=>exact .emp h b|own h _ b=>exact .own h b|rows h c _ b=>rw[AF];exact .rows h c b
def xB(al:L eY):Prop:=al.Pairwise λx y=>∀b,x.at b->¬y.at b
def AL.owned(h:AL g al ow)(hi:∀a∈al,∀b,a.at b->¬g.bh b):∀a∈al,∀b,a.at b->∃o∈ow,bz g o b:=by
 induction h with
 |nil=>simp_all|emp h _ i=>
  intro a c b d;obtain rfl|c:=fS.1 c
  .exact absurd h d.choose_spec.2.2
  grind
 |own h _ i=>
  intro a c b d;obtain rfl|c:=fS.1 c
  .let ⟨f,h1,h2,h3⟩:=d
   exact⟨_,eI,hi _ eI b ⟨f,h1,h2,h3⟩,.inr ⟨_,_,f,h,h1,h2,h3⟩⟩
  grind
 |rows h _ _ i=>
  intro a c b d;obtain c|c:=eS.1 c
  .let ⟨e,j⟩:=h a c
   let ⟨f,h1,h2,h3⟩:=d
   exact⟨_,eI,hi _ (fL _ c) b ⟨f,h1,h2,h3⟩,.inr ⟨_,_,f,j,h1,h2,h3⟩⟩
  grind
def AL.apart{s:St}(hs:aV g s w)(h:AL g al ow)(hn:ow.Nodup)(hi:∀a∈al,∀b,a.at b->¬g.bh b):xB al:=by
 induction h with
 |nil=>exact .nil|emp h k i=>refine .cons (λa c b j=>absurd h j.choose_spec.2.2) (i hn (λa c=>hi a (g7 _ c)))|own h k i=>
  rw[Nd]at hn;refine .cons (λa c b j f=>?_) (i hn.2 (λa c=>hi a (g7 _ c)))
  let ⟨p,l,d⟩:=k.owned (λa c=>hi a (g7 _ c)) a c b f
  let ⟨m,h1,h2,h3⟩:=j
  have n:bz g _ b:=⟨d.1,.inr ⟨_,_,m,h,h1,h2,h3⟩⟩;have:=hs.jS _ _ b n d
  simp_all
 |rows h o k i=>
  rw[Nd]at hn;refine uw.2 ⟨o,i hn.2 (λa c=>hi a (eP _ c)),λy q a c b j f=>?_⟩
  let ⟨e,r⟩:=h y q
  let ⟨p,l,d⟩:=k.owned (λa c=>hi a (eP _ c)) a c b f
  let ⟨m,h1,h2,h3⟩:=j
  have n:bz g _ b:=⟨d.1,.inr ⟨_,_,m,r,h1,h2,h3⟩⟩;have:=hs.jS _ _ b n d
  simp_all
def lO:∀{l:L Nat},sw l=W->l.Nodup
 |[],_=>.nil|a::l,h=>by simp[sw,eZ,Nf,FJ,Xf]at h;exact Nd.2 ⟨h.1,lO h.2⟩
def zW{l m:L Nat}(h:CR l m=W):∀o∈l,o∉m:=by
 grind[CR]
def aaZ.at_{I:Nat->Prop}{w:World}{sz:Nat}{es:L D}{a:eY}(h:aaZ I w sz es a){b:Nat}(c:a.at b):¬I b∧b<w.heap.size:=by
 let ⟨h1,vs,ty,_,h3⟩:=h.1.at_ c
 exact⟨λd=>Bool.noConfusion (h1.2 d),(Xj.1 h3).1⟩
def aht.at_{I:Nat->Prop}{w:World}{n j:Nat}{t:Ty}{l:L (S.A n)}{a:eY}{rl:L eY}(h:aht S I w n j t l a rl):∀y∈a::rl,∀b,y.at b->¬I b∧b<w.heap.size:=by
 let ⟨f,_,h2,h3,_,h5,_⟩:=h
 intro y c b d;obtain rfl|c:=fS.1 c
 .exact h2.at_ d
 .let ⟨i,e⟩:=NB c
  have:i<l.length:=by grind
  exact(h5 i y _ e (iR this)).at_ d
def jJ.at_{I:Nat->Prop}{w:World}{cs:L Ck}{x:gx S.A cs}{vs:L Value}{al:L eY}(h:jJ S I w cs x vs al):∀a∈al,∀b,a.at b->¬I b∧b<w.heap.size:=by
 induction h with
 |nil=>simp_all|dat _ _ d=>exact d|own e _ d=>
  intro a c b f;obtain rfl|c:=fS.1 c
  .exact e.at_ f
  grind
 |j3 e _ d=>
  intro a c b f;rw[<-List.cons_append]at c;obtain c|c:=eS.1 c
  .exact e.at_ a c b f
  grind
 |nl _ d=>exact d|ptr _ _ _ _ d=>exact d
theorem jJ.iH{I:Nat->Prop}{w:World}{cs:L Ck}{x:gx S.A cs}{vs:L Value}{al:L eY}(h:jJ S I w cs x vs al):∀a∈al,∀b,a.at b->¬I b:=λa c b d=>(h.at_ a c b d).1
def jJ.lt{x:gx S.A cs}(h:jJ S I w cs x vs al):∀a∈al,∀b,a.at b->b<w.heap.size:=λa c b d=>(h.at_ a c b d).2
def jJ.append{x:den S.A c.ty}{h:gx S.A cs}(h1:jJ S I w [c] (x,()) [v] al)(h2:jJ S I w cs h vs vI) :
  jJ S I w (c::cs) (x,h) (v::vs) (al++vI):=by
 cases h1 with
 |dat b a=>cases a;exact .dat b h2
 |own d a=>cases a;exact .own d h2
 |j3 d a=>cases a;rw[jB,List.cons_append];exact .j3 d h2
 |nl a=>cases a;exact .nl h2
 |ptr e f b a=>cases a;exact .ptr e f b h2
def qu{x:den S.A t}(h:dH g.bh w (enc S t x) v):aH g w (ec S t x) v:=by
 cases t with
 |st n=>
  cases h with|agg cs vs a e b=>refine .agg _ vs (by simpa using a) λj t v h1 h2=>?_;rw[kV,fM]at h1;obtain⟨d,c,rfl⟩:=h1;exact .sym _ _ (b j d v c h2)
 |_=>exact .sym _ _ h
def Tr.dA{α:Type}:∀(n:Nat)(t:Tr α)(k j:Nat)(x:α),j≠k->(Tr.set n t k x).get j=t.get j
 |0,_,_,_,_,_=>rfl|n+1,t,0,j,x,h=>by
  cases j with
  |zero=>exact absurd rfl h|succ j=>
   cases t with|nil=>rw[Tr.Av,Tr.dB,Tr.get_nil,Tr.get_nil];split<;>rfl|node v l r=>rw[Tr.Iw,Tr.dB,Tr.dB]
 |n+1,t,k+1,j,x,h=>by
  cases t with
  |nil=>
   rw[Tr.pg];cases j with
   |zero=>split<;>rw[Tr.iY,Tr.get_nil]
   |succ j=>
    by_cases b:k%2=0
    .rw[bw b,Tr.dB,Tr.get_nil,Tr.get_nil];by_cases a:j%2=0
     .rw[bw a,Tr.dA n _ _ _ _ (by omega),Tr.get_nil]
     .rw[bL a]
    .rw[bL b,Tr.dB,Tr.get_nil,Tr.get_nil];by_cases a:j%2=0
     .rw[bw a]
     .rw[bL a,Tr.dA n _ _ _ _ (by omega),Tr.get_nil]
  |node v l r=>
   rw[Tr.nQ];cases j with
   |zero=>split<;>rw[Tr.iY,Tr.iY]
   |succ j=>
    by_cases b:k%2=0
    .rw[bw b,Tr.dB,Tr.dB];by_cases a:j%2=0
     .rw[bw a,bw a,Tr.dA n _ _ _ _ (by omega)]
     .rw[bL a,bL a]
    .rw[bL b,Tr.dB,Tr.dB];by_cases a:j%2=0
     .rw[bw a,bw a]
     .rw[bL a,bL a,Tr.dA n _ _ _ _ (by omega)]
def RP:u9 S->Bool
 |.arr ..|.lD ..|.rws ..=>W|_=>J
def uY(h:RP ob=W):(cW ob).oe=W:=by cases ob<;>first|rfl|cases h
def Gp{nj:Nat}:∀{es:L D}{iQ:L (L D)}{hl:L Value},es.length<=iQ.length->lits nj (mN nj es iQ) hl=lits nj es hl
 |[],iQ,hl,_=>by rfl
 |d::es,[],hl,h=>by simp at h
 |d::es,a::iQ,[],_=>by rfl
 |d::es,a::iQ,v::hl,h=>by
  have:=Gp (nj:=nj) (es:=es) (iQ:=iQ) (hl:=hl) (by simpa using h)
  simp_all[lits,mN,jw,A4,D.cells]
def JF:∀{ts:L Ty}{h:lP S.A ts}{j:Nat}{t:Ty}{y:den S.A t},nth ts j=Z t->ef ts (wI ts h j t y) j t=y
 |[],_,_,_,_,h=>by simp[nth]at h
 | τ::ts,h,0,t,y,e=>by
  grind[nth,ef,wI,wW]
 | τ::ts,h,j+1,t,y,e=>by simp[nth]at e;simp[ef,wI,JF e]
def VO(a:fc S)(b:Eo S n j t=W)(x:S.A n)(y:L (den S.A t)):IG n j t (UG n j t x y)=y:=by rw[IG,UG,a.sC,JF (Hs b)]
def Dz(hS:fc S)(hs:aV g (aB s) w){v:V S}{val:Value}{x:den S.A c.ty}(h:o4 s c v=Z (x,fz,ow))(hv:aH g w (low v) val) :
  (∀o∈fz,Live g (aB s) o)∧(∀o∈ow,s.fl<=o∧s.lo<=o∧o<s.aE∧∃ob,s.ob.get o=Z ob∧RP ob=W)∧∀(A:Gh)(s1:St)(z:L Nat),aV A s1 w->Ext s.fl g w A w->jx (aB s) s1 z->(∀o∈fz,o∈z)->(∀o∈ow,s1.ob.get o=(aB s).ob.get o)->
   ∃al,jJ S A.bh w [c] (x,()) [val] al∧AL A al ow:=by
 cases c with
 |dat t=>
  simp[o4]at h;split at h
  .rename_i y os hy;obtain⟨rfl,rfl,rfl⟩:=h
   let ⟨p,hd,hp⟩:=qv hS s t v hy
   let ⟨h1,h2⟩:=l5 hs (low v) hd hp hv
   refine⟨h1,λo d=>(by cases d),λA s1 z f R hf q _=>⟨[],.dat ?_ .nil,.nil⟩⟩;exact h2 A s1 f R (hf.sub q)
  .cases h
 |nil e=>
  cases v with
  |emp=>
   obtain⟨rfl,rfl,rfl⟩:=h;cases hv with|emp a=>exact⟨λo d=>(by cases d),λo d=>(by cases d),λA s1 z f R hf q _=>⟨[],.nl .nil,.nil⟩⟩
  |_=>simp[o4]at h
 |ptr t=>simp[o4]at h|own e=>
  cases v with
  |emp=>
   obtain⟨C,h⟩|⟨_,h⟩:=af h
   .obtain ⟨rfl,rfl,rfl⟩:=h;have hpos:1<=S.width e:=gN C;cases hv with
    |emp a=>
    refine⟨λo d=>(by cases d),λo d=>(by cases d),λA s1 z f R hf q _=>⟨[⟨a,0,0,S.width e⟩],?_,.emp rfl .nil⟩⟩;refine jJ.own (a:=⟨a,0,0,S.width e⟩) ⟨⟨rfl,eM _,by simp,by omega,by simp,λh=>absurd rfl h⟩,rfl⟩ .nil
   .cases h
  |sh o r=>
   simp[o4]at h;split at h
   .rename_i t l era d;obtain⟨C,E⟩|⟨_,E⟩:=af h
    .clear h;split at E
     .rename_i l' hl;obtain⟨rfl,hh⟩:=fG hl;cases hh;simp only[eZ]at C;have YF:=beq_iff'.1 C.1;subst YF;obtain⟨rfl,rfl,rfl⟩:=E;cases hv with
      |sh _ _ len cap sz a hx=>
      have F:=hs.lt' hx;refine⟨λo d=>(by cases d),λk hk=>?_,λA s1 z f R hf q u=>?_⟩
      .rw[tj]at hk;subst hk;exact⟨gN C.2.1,gN C.2.2,F,_,d,rfl⟩
      .have I:=R.arr _ _ _ hx;have TH:s1.ob.get o=Z (fW J (S.width t) (l.map (enc S t)) r):=by rw[u o (by simp),aI,d];rfl
       let ⟨hok,hsz⟩:=f.nJ TH I
       exact⟨[_],jJ.own ⟨hok.j8 rfl,hsz⟩ .nil,.own I .nil⟩
     .cases E
    .cases E
   .cases h
  |_=>simp[o4]at h
 |j3 n j t=>
  cases v with
  |emp=>
   obtain⟨C,h⟩|⟨_,h⟩:=af h
   .obtain ⟨rfl,rfl,rfl⟩:=h;simp only[eZ]at C;have hpos:1<=S.width (.st n):=gN C.1;cases hv with
    |emp a=>
    refine⟨λo d=>(by cases d),λo d=>(by cases d),λA s1 z f R hf q _=>⟨[⟨a,0,0,S.width (.st n)⟩],?_,.emp rfl .nil⟩⟩;exact jJ.j3 (a:=⟨a,0,0,S.width (.st n)⟩) (rl:=[]) ⟨[],rfl,⟨⟨rfl,eM _,by simp[lits],by omega,by simp[lits],λh=>absurd rfl h⟩,rfl⟩,rfl,by simp,by simp,C.2.1⟩ .nil
   .cases h
  |sh o r=>
   simp[o4]at h;split at h;rotate_left
   .cases h
   rename_i l era m B d;split at h;rotate_left
   .cases h
   rename_i P K hrw;obtain⟨C,E⟩|⟨_,E⟩:=af h
   rotate_left
   .cases E
   clear h;simp only[eZ]at C
   let ⟨b1,b2,b3,b4,b5,b6,b7,b8,b9⟩:=C
   have YF:=beq_iff'.1 b1;subst YF;have hjj:=beq_iff'.1 b2;subst hjj;have htt:=jK b9;subst htt;split at E;rotate_left
   .cases E
   rename_i hl
   let ⟨e1,hh⟩:=fG hl
   cases e1;cases hh;simp only[gK,fh]at E;obtain⟨rfl,rfl,rfl⟩:=E;have hmlt:m<s.aE:=gN b7;cases hv with
   |sh _ _ len cap sz a hx=>
   have F:=hs.lt' hx
   let ⟨szm,hm⟩:=qc (Ax hrw)
   obtain⟨obm,hobm,hobmB⟩:∃ob,s.ob.get m=Z ob∧RP ob=W:=by
    cases hq:s.ob.get m with
    |none=>rw[aI,hq]at hm;cases hm
    |some ob=>
     rw[aI,hq]at hm;cases ob<;>first|exact⟨_,rfl,rfl⟩|cases hm
   refine⟨λo d=>(by cases d),λk hk=>?_,λA s1 z f R hf q u=>?_⟩
   .simp at hk;obtain rfl|rfl:=hk
    .exact ⟨gN b3,gN b4,F,_,d,rfl⟩
    simp_all
   .have I:=R.arr _ _ _ hx;have TH:s1.ob.get o=Z (.lD j (S.width (.st n)) (l.map (enc S (.st n))) r m B Y):=by rw[u o (by simp),aI,d];rfl
    have hm1:s1.ob.get m=Z (.rws szm (K.map (·.map (enc S P))) B):=by rw[u m (by simp),hm]
    have ajQ:szm=S.width P:=by
     have h1:=hrw;unfold MZ at h1;split at h1
     .rename_i hq;obtain⟨_,h1⟩|⟨_,h1⟩:=af h1
      .cases h1;rw[aI,hq]at hm;cases hm;rfl
      .cases h1
     .cases h1
    let ⟨q1,q2,q3,q4⟩:=f.Cf TH I
    let ⟨hl0,q5,q6,q7⟩:=q4 rfl
    simp at q5;have hrow:∀i,i<l.length->∃y rs,A.arr m (rc B i)=Z y∧hl0[i]?=Z (.slice y.a y.len y.cap)∧K[i]?=Z rs∧xC A w J (S.width P) (rs.map (enc S P)) y∧y.sz=S.width P:=by
     intro i hi
     let ⟨y,hy,hv⟩:=q7.2 i _ (iR (by omega)) (by simp)
     let ⟨k1,rs,k2,k3⟩:=(f.qz hm1 hy).2.2 i rfl
     grind
    have hex:∀i:Nat,∃y:eY,i<l.length->∃rs,A.arr m (rc B i)=Z y∧hl0[i]?=Z (.slice y.a y.len y.cap)∧K[i]?=Z rs∧xC A w J (S.width P) (rs.map (enc S P)) y∧y.sz=S.width P:=λi=>by
     grind
    let ⟨ys,hys⟩:=U0 hex
    have ef:∀(i:Nat)(y:eY),((List.range l.length).map ys)[i]?=Z y->i<l.length∧y=ys i:=λi y h=>by
     grind
    have hrl:l.length<=K.length:=by
     grind
    have hlen:(kS n j P l K).length=l.length:=by simp[kS];omega
    refine⟨_,jJ.j3 (a:=⟨a,len,cap,sz⟩) (rl:=(List.range l.length).map ys) ⟨hl0,by omega,⟨?_,q1⟩,by grind,λi y hi=>?_,λi y x hi hx=>?_,b8⟩ .nil,?_⟩
    .rw[GN hS b8,Gp (by grind)];exact q6.j8 rfl
    .grind
    .obtain ⟨h1,rfl⟩:=ef i y hi
     let ⟨rs,_,_,h3,h4,h5⟩:=hys i h1
     have hxx:x=UG n j P (l[i]) rs:=by
      grind[kS]
     rw[hxx,VO hS b8];exact⟨h4.j8 rfl,h5⟩
    .refine .own I ?_;refine .rows (λy hy=>?_) ?_ .nil
     .grind
     .refine QB.2 λi1 i2 l1 l2 hlt b Ag pR=>?_
      let ⟨h1,e1⟩:=ef i1 _ (iR l1)
      let ⟨h2,e2⟩:=ef i2 _ (iR l2)
      rw[e1]at Ag;rw[e2]at pR
      let ⟨_,k1,_⟩:=hys i1 h1
      let ⟨_,k2,_⟩:=hys i2 h2
      exact(f.qz hm1 k1).2.1 i1 i2 _ _ (by omega) k1 k2 b Ag pR
  |_=>simp[o4]at h
def gk(u:fc S){g:Gh}{w:World}{s:aY S}(hs:aV g (aB s) w):∀{cs:L Ck}{l:L (V S)}{vals:L Value}{x:gx S.A cs}{fz ow:L Nat},gf s cs l=Z (x,fz,ow)->PW (aH g w) (bq l) vals->
  (∀o∈fz,Live g (aB s) o)∧(∀o∈ow,s.fl<=o∧s.lo<=o∧o<s.aE∧∃ob,s.ob.get o=Z ob∧RP ob=W)∧∀(m:Gh)(s1:St)(e:L Nat),aV m s1 w->Ext s.fl g w m w->jx (aB s) s1 e->(∀o∈fz,o∈e)->(∀o∈ow,s1.ob.get o=(aB s).ob.get o)->
   ∃al,jJ S m.bh w cs x vals al∧AL m al ow
 |[],[],vals,x,fz,ow,h,i=>by obtain⟨_,rfl,rfl⟩:=h;have:vals=[]:=Eg (by have:=i.1;simpa[bq]using this.symm);subst this;exact⟨λo d=>(by cases d),λo d=>(by cases d),λ_ _ _ _ _ _ _ _=>⟨[],.nil,.nil⟩⟩
 |c::cs,v::l,vals,x,fz,ow,h,i=>by
  simp[gf]at h;split at h
  .rename_i A B;simp at h;obtain⟨rfl,rfl,rfl⟩:=h
   match vals,i with
   |val::vals,i=>
    have p:aH g w (low v) val:=i.2 0 _ _ rfl rfl;have q:PW (aH g w) (bq l) vals:=⟨by have:=i.1;simpa[bq]using this,λj a b r t=>i.2 (j+1) a b (by simpa[bq]using r) (by simpa using t)⟩
    let ⟨C,E,F⟩:=Dz u hs A p
    let ⟨I,K,P⟩:=gk u hs B q
    refine⟨λo d=>(eS.1 d).elim (C o) (I o),λo d=>(eS.1 d).elim (E o) (K o),λm s1 e n y z k f=>?_⟩
    let ⟨R,r,t⟩:=F m s1 e n y z (λo d=>k o (fL _ d)) (λo d=>f o (fL _ d))
    let ⟨BA,k3,k4⟩:=P m s1 e n y z (λo d=>k o (eP _ d)) (λo d=>f o (eP _ d))
    exact⟨_,r.append k3,t.append k4⟩
   |[],i=>exact absurd i.1 (by simp[bq])
  .cases h
 |[],_::_,_,_,_,_,h,_=>by simp[gf]at h
 |_::_,[],_,_,_,_,h,_=>by simp[gf]at h
structure Wl(g:Gh)(s:aY S)(w:World)(al:List eY)(g':Gh)(s':aY S):Prop where
 rel:aV g' (aB s') w
 le:mX g g'
 bh:g'.bh=g.bh
 own:∀k b,bz g' k b->bz g k b∨(s.aE<=k∧∃a∈al,a.at b)
 fl:s'.fl=s.fl
 lo:s'.lo=s.lo
 aE:s.aE<=s'.aE
 wr:s'.wr=s.wr
 dr:s'.dr=s.dr
 ob:∀o,o<s.aE->s'.ob.get o=s.ob.get o
 bP:g'.bP=g.bP
 arr:∀o,o<s.aE->∀e,g'.arr o e=g.arr o e
theorem Wl.refl{g:Gh}{s:aY S}{w:World}(h:aV g (aB s) w):Wl g s w [] g s:=
 ⟨h,mX.refl _,rfl,λ_ _ h=>.inl h,rfl,rfl,eM _,rfl,rfl,λ_ _=>rfl,rfl,λ_ _ _=>rfl⟩
def Wl.trans{g g' c:Gh}{s s' d:aY S}{w:World}{al vI:L eY}(h:Wl g s w al g' s')(k:Wl g' s' w vI c d):Wl g s w (al++vI) c d where
 rel:=k.rel
 le:=h.le.trans k.le
 bh:=k.bh.trans h.bh
 own o b f:=by
  obtain f|⟨h1,a,h2,h3⟩:=k.own o b f
  .obtain f|⟨h1,a,h2,h3⟩:=h.own o b f
   .exact .inl f
   grind
  .exact .inr ⟨fZ h.aE h1,a,eP _ h2,h3⟩
 fl:=k.fl.trans h.fl
 lo:=k.lo.trans h.lo
 aE:=fZ h.aE k.aE
 wr:=k.wr.trans h.wr
 dr:=k.dr.trans h.dr
 ob o i:=(k.ob o (iO i h.aE)).trans (h.ob o i)
 bP:=k.bP.trans h.bP
 arr o i e:=(k.arr o (iO i h.aE) e).trans (h.arr o i e)
def SR(s:aY S)(c:Ck)(x:den S.A c.ty):s.aE<=(vX s c x).2.aE:=by cases c with|dat t=>exact eM _|own e=>exact Dr _|j3 n j t=>exact Nat.le_succ_of_le (Dr _)|nil e=>exact eM _|ptr t=>exact eM _
def nX:∀(cs:L Ck)(s:aY S)(x:gx S.A cs),s.aE<=(ig s cs x).2.aE
 |[],_,_=>eM _|c::cs,s,x=>fZ (SR s c x.1) (nX cs _ x.2)
def nt:∀{cs:L Ck}{x:gx S.A cs}{vals:L Value}{al:L eY}{g:Gh}{w:World}{s:aY S},jJ S g.bh w cs x vals al->aV g (aB s) w->(∀a∈al,∀b,a.at b->∀o,¬bz g o b)->xB al->
  (ig s cs x).2.aE<=bC->∃g',Wl g s w al g' (ig s cs x).2∧PW (aH g' w) (bq (ig s cs x).1) vals:=by
 intro cs
 induction cs with
 |nil=>intro x vals al g w s h hs _ _ _;cases h;exact⟨g,Wl.refl hs,rfl,λj t v h=>by simp_all⟩
 |cons c cs ih=>
  intro x vals al g w s h hs r f hn;cases h with
  | @dat t _ x h v vs al hd E=>
   let ⟨g',u,d⟩:=ih E hs r f hn
   refine⟨g',u,by simp only[ig,vX,bq,ny];rw[d.1],λj F I p q=>?_⟩;cases j with|zero=>simp[ig,vX,bq,Nk,gK]at p q;subst p;subst q;have:=qu (g:=g) hd;exact this.le u.le|succ j=>exact d.2 j F I (by simpa[ig,vX,bq]using p) (by simpa using q)
  | @nl e _ h a vs al E=>
   let ⟨g',u,d⟩:=ih E hs r f hn
   refine⟨g',u,by simp only[ig,vX,bq,ny];rw[d.1],λj F I p q=>?_⟩;cases j with|zero=>simp[ig,vX,bq,Nk,gK]at p q;subst p;subst q;exact .emp _|succ j=>exact d.2 j F I (by simpa[ig,vX,bq]using p) (by simpa using q)
  | @ptr t _ x h ad val vs al hi hc hd E=>
   let ⟨g',u,d⟩:=ih E hs r f hn
   refine⟨g',u,by simp only[ig,vX,bq,ny];rw[d.1],λj F I p q=>?_⟩;cases j with|zero=>simp[ig,vX,bq,Nk,gK]at p q;subst p;subst q;have:aH g w (low (V.lR t x 0)) (.pointer (Z (ad.add 0))):=.lR _ 0 ad val hi hc hd;exact this.le u.le|succ j=>exact d.2 j F I (by simpa[ig,vX,bq]using p) (by simpa using q)
  | @own e _ l h a vs al ho E=>
   have hb0:=nX cs (dh s (.arr e l 0)) h;have z:s.aE<bC:=by have h1:(dh s (.arr e l 0)).aE=s.aE+1:=rfl;have h2:(ig (dh s (.arr e l 0)) cs h).2.aE<=bC:=hn;omega
   have ajT:∀b,a.at b->b<w.heap.size∧∀o,¬bz g o b:=λb B=>⟨(jJ.own (S:=S) ho E).lt a eI b B,r a eI b B⟩
   let ⟨p,q,k3⟩:=hs.ZZ z (sz:=S.width e) (es:=l.map (enc S e)) (x:=a) ajT (ho.1.j8 rfl) ho.2
   have hst:(eg (aB s) (Ob.arr (S.width e) (l.map (enc S e)) 0)).2=aB (dh s (.arr e l 0)):=(gV s (.arr e l 0)).symm;have e0:(aB s).aE=s.aE:=rfl;rw[hst,e0]at p;rw[xB,List.pairwise_cons]at f
   let ⟨g',u,d⟩:=ih (g:=g.era s.aE 0 a) (s:=dh s (.arr e l 0)) E p (λy hy b B o K=>by
    grind) f.2 hn
   have DJ:Wl g s w [a] (g.era s.aE 0 a) (dh s (.arr e l 0)):=by
    refine⟨p,q,rfl,λk b K=>?_,rfl,rfl,Dr _,rfl,rfl,λo hlo=>?_,rfl,λo hlo e'=>Gh.cQ _ _ _ _ _ _ (λh=>by omega)⟩
    .grind
    .simp[dh];rw[Tr.aR _ _ _ _ z,bL (by omega)]
   refine⟨g',DJ.trans u,by simp only[ig,vX,bq,ny];rw[d.1],λj F I q1 q2=>?_⟩;cases j with|zero=>simp[ig,vX,bq,Nk,gK]at q1 q2;subst q1;subst q2;have:aH (g.era s.aE 0 a) w (.sh s.aE 0) (.slice a.a a.len a.cap):=.sh _ _ _ _ a.sz _ (Gh.fE _ _ _ _);exact this.le u.le|succ j=>exact d.2 j F I (by simpa[ig,vX,bq]using q1) (by simpa using q2)
  | @j3 n j t0 _ l h a A vs al ho E=>
   have hb0:=nX cs (vX s (.j3 n j t0) l).2 h;have hnob2:(vX s (.j3 n j t0) l).2.aE=s.aE+2:=rfl;have z:s.aE+1<bC:=by
    grind[ig]
   have P:=ho.at_
   let ⟨hl,p1,p2,p3,p4,p5,p6⟩:=ho
   rw[<-List.cons_append]at r f;have R:=(uw.1 f).1;rw[List.pairwise_cons]at R
   let ⟨p,q,k3⟩:=hs.ZZ (by show s.aE<bC;omega) (sz:=S.width (.st n)) (es:=lits j (l.map (enc S (.st n))) hl) (x:=a) (λb B=>⟨(P a eI b B).2,r a (by simp) b B⟩) (p2.1.j8 rfl) p2.2
   have e0:(aB s).aE=s.aE:=rfl;rw[e0]at p q k3;have e1:(eg (aB s) (Ob.arr (S.width (.st n)) (lits j (l.map (enc S (.st n))) hl) 0)).2.aE=s.aE+1:=rfl
   let ⟨r1,r2,r3⟩:=p.ag7 (by omega) (sz:=S.width t0) (iQ:=(l.map (IG n j t0)).map (·.map (enc S t0))) (ys:=A)
    (λy hy b B=>⟨(P y (g7 _ hy) b B).2,λo K=>by
     grind⟩)
    (λi y hi=>by
     have hil:i<l.length:=by grind
     have hk:=p5 i y _ hi (iR hil);exact⟨hk.2,_,by simp_all,hk.1.j8 rfl⟩) R.2
   rw[e1]at r1 r2 r3;have C:∀k,(eg (eg (aB s) (Ob.arr (S.width (.st n)) (lits j (l.map (enc S (.st n))) hl) 0)).2 (.rws (S.width t0) ((l.map (IG n j t0)).map (·.map (enc S t0))) 0)).2.ob.get k=if k=s.aE+1 then Z (.rws (S.width t0) ((l.map (IG n j t0)).map (·.map (enc S t0))) 0)else if k=s.aE then Z (.arr (S.width (.st n)) (lits j (l.map (enc S (.st n))) hl) 0)else(aB s).ob.get k:=λk=>by show(((aB s).ob.set aK s.aE _).set aK (s.aE+1) _).get k=_;rw[Tr.aR _ _ _ _ z,Tr.aR _ _ _ _ (by omega)]
   have hL:IZ ((g.era s.aE 0 a).g8 (s.aE+1) A) (s.aE+1) 0 Y hl:=by
    have GG:∀i v,hl[i]?=Z v->∃hil:i<A.length,v=.slice (A[i]).a (A[i]).len (A[i]).cap:=λi v hi=>by
     grind
    refine⟨λi v hi=>let ⟨_,h⟩:=GG i v hi;⟨_,_,_,h⟩,λi v hi _=>?_⟩
    grind[Gh.xk]
   have u1:=r1.WO (o:=s.aE) (nj:=j) (es:=l.map (enc S (.st n))) (era:=0) (m:=s.aE+1) (gX:=0) (hole:=Y) (hl:=hl) (by omega) (by rw[C,bL (by omega),bw rfl]) (by simpa using p1) hL;have u2:aV ((g.era s.aE 0 a).g8 (s.aE+1) A) (aB (vX s (.j3 n j t0) l).2) w:=by
    refine u1.Zd rfl λk=>?_;show(aB (dh (dh s (.lD n j l 0 (Ns s.aE) 0 Y)) (.rws t0 (zP n j t0 l) 0))).ob.get k=((eg _ _).2.ob.set aK s.aE _).get k;rw[gV,gV,Tr.aR _ _ _ _ (by omega),C];show(((aB s).ob.set aK s.aE _).set aK (s.aE+1) _).get k=_;rw[Tr.aR _ _ _ _ z,Tr.aR _ _ _ _ (by omega)];by_cases h1:k=s.aE
    .subst h1;rw[bL (by omega),bw rfl,bw rfl];rfl
    .rw[bL h1,bL h1,bL h1];rfl
   have hle:mX g ((g.era s.aE 0 a).g8 (s.aE+1) A):=q.trans ⟨λ_ _ h=>h,r2,λ_ h=>h⟩
   let ⟨g',u,d⟩:=ih (g:=(g.era s.aE 0 a).g8 (s.aE+1) A) (s:=(vX s (.j3 n j t0) l).2) E u2 (λy hy b B o K=>by
    obtain K|⟨_,y',hy',hb'⟩:=r3 o b K
    .obtain K|⟨_,hb'⟩:=k3 o b K
     .grind
     .exact (uw.1 f).2.2 a (by simp) y hy b hb' B
    .exact (uw.1 f).2.2 y' (by simp[hy']) y hy b hb' B) (uw.1 f).2.1 hn
   have DJ:Wl g s w (a::A) ((g.era s.aE 0 a).g8 (s.aE+1) A) (vX s (.j3 n j t0) l).2:=by
    refine⟨u2,hle,rfl,λk b K=>?_,rfl,rfl,by omega,rfl,rfl,λo hlo=>?_,rfl,λo hlo e'=>?_⟩
    .grind
    .show ((s.ob.set aK s.aE _).set aK (s.aE+1) _).get o=_;rw[Tr.aR _ _ _ _ z,bL (by omega),Tr.aR _ _ _ _ (by omega),bL (by omega)]
    .rw[Gh.jF (by omega)]
     grind[Gh.cQ]
   refine⟨g',by exact DJ.trans u,by have:=d.1;simp only[ig,vX,bq,ny]at this ⊢;rw[this],λj' F I q1 q2=>?_⟩;cases j' with|zero=>simp[ig,vX,bq,Nk,gK]at q1 q2;subst q1;subst q2;have:aH ((g.era s.aE 0 a).g8 (s.aE+1) A) w (.sh s.aE 0) (.slice a.a a.len a.cap):=.sh _ _ _ _ a.sz _ (by simp_all[Gh.fE]);exact this.le u.le|succ j'=>exact d.2 j' F I (by simpa[ig,vX,bq]using q1) (by simpa using q2)
theorem uo{g:Gh}{w:World}{τ:Ty}{x:den S.A τ}{v:Value}(h:dH g.bh w (enc S τ x) v):aH g w (ec S τ x) v:=by
 cases τ with
 |st n=>
  cases h with|agg _ vs a e b=>refine .agg _ _ (by simpa using a) λj t v h1 h2=>?_;simp at h1;obtain⟨c,d,rfl⟩:=h1;exact .sym _ _ (b j c v d h2)
 |_=>exact .sym _ _ h
def EE(a:fc S){τ:Ty}{x:den S.A τ}(h:aH g w (ec S τ x) v):dH g.bh w (enc S τ x) v:=by
 cases τ with
 |st n=>
  cases h with
  |agg _ vs d e=>
   refine .agg _ _ (by simpa using d) (λc b=>?_) λj c v h1 h2=>?_
   .rw[a.cells]at b;exact ic _ _ (a.leaf n) c b
   .have:=e j (.sym c) v (by simp[h1]) h2;cases this with|sym _ _ h=>exact h
 |_=>cases h with|sym _ _ h=>exact h
def NX:Bool->Nat->Value
 |true,b=>.map (Z b)|false,b=>.pointer (Z ⟨b,0,Y⟩)
def Yf{m:Bool}{x:O (V S)}(h:lkO m x=Z o):x=Z (lkV m o):=by unfold lkO at h;split at h<;>cases h<;>rfl
def abZ(h:g.bP o=Z b):∀m,aH g w (low (lkV m o:V S)) (NX m b)
 |true=>.mp o b h|false=>.ptr o 0 b h
def Tw:∀{m},aH g w (low (lkV m o:V S)) v->∃b,g.bP o=Z b∧v=NX m b
 |true,h=>by cases h with|mp _ b a=>exact⟨b,a,rfl⟩
 |false,h=>by cases h with|ptr _ _ b a=>exact⟨b,a,rfl⟩
inductive EA(S:Sg)(I:Nat->Prop)(w:World)(nb:Option Nat):(k:Bk)->yp S.A k->Obj->List eY->Prop where
 |cells {cs:List Ck} {x:gx S.A cs} {cv:Array Value} {ty:TypeId} {al:List eY} (h:jJ S I w cs x cv.toList al):EA S I w nb (.cells cs) x (.cells cv ty (0,0)) al|map {kt vt:Ty} {l:List (den S.A kt×den S.A vt)} {ms:Array MapEntry} {c:Nat} (hl:l.length=ms.size)
   (h:∀(j:Nat)(p:den S.A kt×den S.A vt)(m:MapEntry),l[j]?=Z p->ms[j]?=Z m->dH I w (enc S kt p.1) m.key∧dH I w (enc S vt p.2) m.val):EA S I w nb (.map kt vt) l (.map ms c) []
 |rD {x:List UInt8×Nat}:EA S I w nb .rD x (.stringIter (bZ x.1) x.2) []|link {m:Bool} {pre post:List Ck} {x:gx S.A pre} {y:gx S.A post} {cv:Array Value} {ty:TypeId} {al vI:List eY} {vp vq:List Value} {b:Nat} (hn:nb=Z b) (hv:cv.toList=vp++([NX m b]++vq))
   (h1:jJ S I w pre x vp al) (h2:jJ S I w post y vq vI):EA S I w nb (.link m pre post) (x,y) (.cells cv ty (0,0)) (al++vI)
def La:Bk->Nat->Value
 |.cells _,b=>.pointer (Z ⟨b,0,Y⟩)|.map _ _,b=>.map (Z b)|.rD,b=>.pointer (Z ⟨b,0,Y⟩)|.link _ _ _,b=>.pointer (Z ⟨b,0,Y⟩)
def Lb{v:V S}(h:Ei k v=Z o):v=Vt k o:=by
 cases k with
 |cells cs=>
  cases v with
  |ptr a off=>cases off with|zero=>simp[Ei,gK]at h;subst h;rfl|succ=>simp[Ei]at h
  |_=>simp[Ei]at h
 |map b c=>cases v<;>simp[Ei]at h;subst h;rfl
 |rD=>cases v<;>simp[Ei]at h;subst h;rfl
 |link m pre post=>
  cases v with
  |ptr a off=>cases off with|zero=>simp[Ei,gK]at h;subst h;rfl|succ=>simp[Ei]at h
  |_=>simp[Ei]at h
theorem N1{g:Gh}{w:World}{k:Bk}{o b:Nat}(h:g.bP o=Z b):aH g w (low (Vt k o:V S)) (La k b):=by cases k with|cells cs=>exact .ptr o 0 b h|map a c=>exact .mp o b h|rD=>exact .uj o b h|link m pre post=>exact .ptr o 0 b h
def Gs(h:aH g w (low (Vt k o:V S)) v):∃b,g.bP o=Z b∧v=La k b:=by
 cases k with
 |cells cs=>cases h with|ptr _ _ b a=>exact⟨b,a,rfl⟩
 |map c d=>cases h with|mp _ b a=>exact⟨b,a,rfl⟩
 |rD=>cases h with|uj _ b a=>exact⟨b,a,rfl⟩
 |link m pre post=>cases h with|ptr _ _ b a=>exact⟨b,a,rfl⟩
theorem n8{ob:u9 S}(h:jL ob=W):(cW ob).oe=J:=by cases ob<;>first|rfl|(simp[jL]at h)
def AJ{e:Nat}{x:eY}(h:jL ob=W)(a:vM g w o e x (cW ob)):False:=by have:=a.oe;rw[n8 h]at this;cases this
def Hw{c d a b:Ty}{l:L (den S.A c×den S.A d)}{e:L (den S.A a×den S.A b)}(h:yT c d a b l=Z e):∃(h1:c=a)(h2:d=b),e=h1▸h2▸l:=by
 grind[yT]
def rO(hS:fc S)(hs:aV g (aB s) w)(hb:g.bP o=Z b){x:yp S.A k}(h:l8 s k (s.ob.get o)=Z (x,fz,ow,nx)) :
  (∃ob,s.ob.get o=Z ob∧jL ob=W)∧∃I,w.heap[b]?=Z I∧
  (∀o∈fz,Live g (aB s) o)∧(∀o∈ow,s.fl<=o∧s.lo<=o∧o<s.aE∧∃ob,s.ob.get o=Z ob∧RP ob=W)∧∀(u:Gh)(s1:St)(q:L Nat),aV u s1 w->Ext s.fl g w u w->jx (aB s) s1 q->(∀o∈fz,o∈q)->(∀o∈ow,s1.ob.get o=(aB s).ob.get o)->
   ∀nb,(∀o',nx=Z o'->∃b',nb=Z b'∧u.bP o'=Z b')->∃al,EA S u.bh w nb k x I al∧AL u al ow:=by
 cases f:s.ob.get o with
 |none=>rw[f]at h;cases k<;>simp[l8]at h
 |some ob=>
 rw[f]at h
 let ⟨I,hh,A⟩:=(hs.box o b hb).2.2 (cW ob) (by rw[aI,f];rfl)
 cases k with
 |cells cs=>
  cases ob with
  |box vs=>
   refine⟨⟨_,rfl,rfl⟩,I,hh,?_⟩;cases A with
   |box _ y ty K A=>
   simp[l8]at h;split at h;rotate_left
   .cases h
   rename_i y1 a1 b1 VE;obtain⟨rfl,rfl,rfl,rfl⟩:=h
   let ⟨p1,p2,p3⟩:=gk hS hs VE (vals:=y.toList) ⟨by simpa using K,λj t v i r=>A j t v i (by simpa using r)⟩
   refine⟨p1,p2,λu s1 q a b c d e nb _=>?_⟩
   let ⟨al,i,r⟩:=p3 u s1 q a b c d e
   exact⟨al,.cells i,r⟩
  |_=>simp[l8]at h
 |link m pre post=>
  cases ob with
  |box vs=>
   refine⟨⟨_,rfl,rfl⟩,I,hh,?_⟩;cases A with
   |box _ y ty K A=>
   simp only[l8]at h;split at h;rotate_left
   .cases h
   rename_i b2 e1 e2 e3;obtain⟨rfl,rfl,rfl,rfl⟩:=h;rw[bS]at e1 e2 e3;have P:vs.length=y.toList.length:=by rw[<-eJ];simpa using K
   have R:∀j t v,vs[j]?=Z t->y.toList[j]?=Z v->aH g w (low t) v:=λj t v i r=>A j _ v (by rw[eU,kV,i];rfl) (by simpa using r);have hpre:PW (aH g w) (bq (vs.take pre.length)) (y.toList.take pre.length):=by
    refine⟨by rw[eJ];simp[P],λj t v i r=>?_⟩;rw[eU,kV,fM]at i;obtain⟨t',i,rfl⟩:=i;rw[UX]at i r;split at i
    .rename_i hj;rw[bw hj]at r;exact R j t' v i r
    .cases i
   have hpost:PW (aH g w) (bq (vs.drop (Ns pre.length))) (y.toList.drop (Ns pre.length)):=by refine⟨by rw[eJ];simp[P],λj t v i r=>?_⟩;rw[eU,kV,fM]at i;obtain⟨t',i,rfl⟩:=i;rw[NA]at i r;exact R _ t' v i r
   have e2:=Yf e2;rw[j0]at e2;have hlt:pre.length<y.toList.length:=by rw[<-P];exact(U1.1 e2).1
   have E:=R pre.length _ _ e2 (iR hlt);generalize hvm:y.toList[pre.length]=vm at E;obtain⟨b2,pR,rfl⟩:=Tw E;have B:y.toList=y.toList.take pre.length++([NX m b2]++y.toList.drop (Ns pre.length)):=by have h1:=(Xl pre.length y.toList).symm;rw[Tf hlt,hvm]at h1;simpa using h1
   let ⟨p1,p2,p3⟩:=gk hS hs e1 hpre
   let ⟨q1,q2,q3⟩:=gk hS hs e3 hpost
   refine⟨λo f=>(eS.1 f).elim (p1 o) (q1 o),λo f=>(eS.1 f).elim (p2 o) (q2 o),λu s1 q C he hf F z nb hnb=>?_⟩
   let ⟨Ea,i,r⟩:=p3 u s1 q C he hf (λo f=>F o (fL _ f)) (λo f=>z o (fL _ f))
   let ⟨BA,k3,k4⟩:=q3 u s1 q C he hf (λo f=>F o (eP _ f)) (λo f=>z o (eP _ f))
   let ⟨b',Ag,Rh⟩:=hnb _ rfl
   have:b'=b2:=jT (Rh.symm.trans (he.bP _ _ pR));subst this;exact⟨_,.link Ag B i k3,r.append k4⟩
  |_=>simp[l8]at h
 |map kt vt=>
  cases ob with
  |map k v l=>
   simp[l8]at h;split at h
   .rename_i K;obtain⟨rfl,rfl,hh'⟩:=Hw K;cases hh';obtain⟨rfl,rfl,rfl,rfl⟩:=h;refine⟨⟨_,rfl,rfl⟩,I,hh,λo f=>(by cases f),λo f=>(by cases f),λu s1 q C he hf _ _ nb _=>⟨[],?_,.nil⟩⟩;cases A with
    |map _ ms c K A=>
    refine .map (by simpa using K) λj p m h1 h2=>?_;obtain⟨i,r⟩:=A j _ m (by rw[kV,h1];rfl) h2;exact⟨EE hS (i.ext he hs.bh),EE hS (r.ext he hs.bh)⟩
   .cases h
  |_=>simp[l8]at h
 |rD=>
  cases ob with
  |rD bs n=>obtain⟨rfl,rfl,rfl,rfl⟩:=h;refine⟨⟨_,rfl,rfl⟩,I,hh,λo f=>(by cases f),λo f=>(by cases f),λu s1 q C he hf _ _ nb _=>⟨[],?_,.nil⟩⟩;cases A;exact .rD (x:=(bs,n))
  |_=>simp[l8]at h
theorem EA.iH{I:Nat->Prop}{w:World}{c:O Nat}{k:Bk}{x:yp S.A k}{h:Obj}{al:L eY}(d:EA S I w c k x h al):∀a∈al,∀b,a.at b->¬I b:=by cases d with|cells h=>exact h.iH|map=>simp_all|rD=>simp_all|link _ _ h1 h2=>intro a e;exact(eS.1 e).elim (h1.iH a) (h2.iH a)
theorem ED(k:Bk)(s:aY S)(nx:O Nat)(x:yp S.A k):s.aE<=(lf s nx k x).2.aE:=by cases k with|cells cs=>exact nX cs s x|map a b=>exact eM _|rD=>exact eM _|link m pre post=>exact fZ (nX pre s x.1) (nX post _ x.2)
def p8{x:yp S.A k}{h:Obj}{R:O Nat}(C:EA S g.bh w R k x h al)(E:∀b',R=Z b'->∃r,nx=Z r∧g.bP r=Z b')(hs:aV g (aB s) w)(u:∀a∈al,∀b,a.at b->∀o,¬bz g o b)(z:xB al)
  (hn:(lf s nx k x).2.aE<=bC):∃g',Wl g s w al g' (lf s nx k x).2∧gS g' w (cW (lf s nx k x).1) h:=by
 cases C with
 |cells C=>
  let ⟨g',hu,A⟩:=nt C hs u z hn
  exact⟨g',hu,.box _ _ _ (by simpa using A.1) λj t v n q=>A.2 j t v n (by simpa using q)⟩
 | @map kt vt l ms c hl C=>
  refine⟨g,Wl.refl hs,.map _ _ _ (by simpa using hl) λj t m h1 h2=>?_⟩;simp only[kV,fM]at h1;obtain⟨p,hp,rfl⟩:=h1
  grind[uo]
 |rD=>exact⟨g,Wl.refl hs,.rD _ _⟩| @link m pre post x y cv ty al vI vp vq b hb hv h1 h2=>
  obtain⟨r,rfl,F⟩:=E b hb;have e:=uw.1 z;have I:(ig s pre x).2.aE<=bC:=fZ (nX post _ y) hn
  let ⟨g1,d,B⟩:=nt h1 hs (λa ha=>u a (fL _ ha)) e.1 I
  let ⟨K,i,P⟩:=nt (s:=(ig s pre x).2) (d.bh▸h2) d.rel (λa ha b hb o hO=>by
    obtain hO|⟨_,a2,ha2,pR⟩:=d.own o b hO
    .grind
    grind) e.2.1 hn
  refine⟨K,d.trans i,?_⟩;have hmid:aH K w (low (lkV m r:V S)) (NX m b):=abZ (by rw[i.bP,d.bP];exact F) m;have f:PW (aH K w) (bq ((ig s pre x).1++(XG m (Z r)++(ig (ig s pre x).2 post y).1))) cv.toList:=by
   rw[hv,j4,j4];exact PW.append ⟨B.1,λj t v n q=>(B.2 j t v n q).le i.le⟩ (PW.append ⟨rfl,λj t v n q=>by
    grind[bq,XG]⟩ P)
  exact .box _ _ _ (by simpa using f.1) λj t v n q=>f.2 j t v n (by simpa using q)
end
section
def Tr.rV{α:Type}:∀(n:Nat)(t:Tr α)(k j:Nat),k+1<2 ^ n->(Tr.del n t k).get j=if j=k then Y else t.get j
 |0,t,k,j,h=>by simp at h
 |n+1,.nil,k,j,h=>by have:Tr.del (n+1) (.nil:Tr α) k=.nil:=rfl;rw[this,Tr.get_nil];split<;>rfl
 |n+1,.node v l r,0,j,h=>by have:Tr.del (n+1) (.node v l r) 0=.node Y l r:=rfl;cases j with|zero=>rfl|succ j=>rfl
 |n+1,.node v l r,k+1,j,h=>by
  have b:k/2+1<2 ^ n:=by omega
  have c:Tr.del (n+1) (.node v l r) (k+1)=if k%2=0 then .node v (Tr.del n l (k/2)) r else .node v l (Tr.del n r (k/2)):=by
   simp[Tr.del];by_cases h2:k%2=0
   .have:Nq (Nat.mod k 2) 0=W:=by show Nq (k%2) 0=W;rw[h2];rfl
    simp[this,h2];rfl
   .have:Nq (Nat.mod k 2) 0=J:=by
     show Nq (k%2) 0=J;have:k%2=1:=by omega
     rw[this];rfl
    simp[this,h2];rfl
  rw[c];cases j with
  |zero=>split<;>simp[Tr.iY]
  |succ j=>
   by_cases d:k%2=0
   .rw[bw d,Tr.dB,Tr.dB];by_cases a:j%2=0
    .rw[bw a,bw a,Tr.rV n _ _ _ b]
     grind
    grind
   .rw[bL d,Tr.dB,Tr.dB];by_cases a:j%2=0
    .rw[bw a,bw a,bL (by omega)]
    .rw[bL a,bL a,Tr.rV n _ _ _ b]
     grind
def Tr.oq{α:Type}:∀(bs:L Nat)(t:Tr α)(j:Nat),(∀b∈bs,b<bC)->(bs.foldl (λt o=>t.del aK o) t).get j=if j∈bs then Y else t.get j
 |[],t,j,_=>by simp
 |b::bs,t,j,h=>by
  rw[Nx,Tr.oq bs _ j (λc a=>h c (by simp[a])),Tr.rV _ _ _ _ (by have:=h b (by simp);unfold aK;unfold bC at this;omega)];by_cases h1:j∈bs
  .simp[h1]
  .by_cases h2:j=b<;>simp[h1,h2]
def Tr.oh{α:Type}(f:α->α):∀(t:Tr α)(k:Nat),(t.mapA f).get k=(t.get k).map f
 |.nil,k=>by rfl
 |.node v l r,0=>by have:(Tr.node v l r).mapA f=.node (match v with|some x=>Z (f x)|none=>Y) (l.mapA f) (r.mapA f):=rfl;rw[this,Tr.iY,Tr.iY];cases v<;>rfl
 |.node v l r,k+1=>by have:(Tr.node v l r).mapA f=.node (match v with|some x=>Z (f x)|none=>Y) (l.mapA f) (r.mapA f):=rfl;rw[this,Tr.dB,Tr.dB,Tr.oh f l,Tr.oh f r];split<;>rfl
theorem Tr.qN{α:Type}(p:α->Bool):∀(t:Tr α)(k:Nat)(x:α),t.get k=Z x->p x=W->k∈t.jH p
 |.nil,k,x,h,_=>by cases h
 |.node v l r,0,x,h,a=>by
  grind[Tr.iY,Tr.jH]
 |.node v l r,k+1,x,h,a=>by
  rw[Tr.dB]at h;simp only[Tr.jH,eS,v9];by_cases b:k%2=0
  .rw[bw b]at h;exact .inr (.inl ⟨k/2,Tr.qN p l _ x h a,by grind⟩)
  .rw[bL b]at h;exact .inr (.inr ⟨k/2,Tr.qN p r _ x h a,by grind⟩)
theorem Tr.om{α:Type}(p:α->Bool):∀(t:Tr α)(k:Nat),(t.keep p).get k=(t.get k).filter p
 |.nil,k=>by rfl
 |.node v l r,0=>by
  have:(Tr.node v l r).keep p=.node (match v with|some x=>bif p x then Z x else Y|none=>Y) (l.keep p) (r.keep p):=rfl
  grind[Tr.iY]
 |.node v l r,k+1=>by have:(Tr.node v l r).keep p=.node (match v with|some x=>bif p x then Z x else Y|none=>Y) (l.keep p) (r.keep p):=rfl;rw[this,Tr.dB,Tr.dB,Tr.om p l,Tr.om p r];split<;>rfl
mutual
theorem kE(os:L Nat):∀v:V S,dw os (low v)=iP os v
 |.ty t x=>by
  have:∀l:L D,iI os (l.map .sym)=J:=by
   intro l
   induction l with|nil=>rfl|cons d l e=>simp[iI,dw,e]
  cases t<;>simp[low,ec,iP,dw,this]
 |.kb _=>rfl|.kn _ _=>rfl|.dat _=>rfl|.ptr _ _=>rfl|.lR _ _ _=>rfl|.lQ _ _ _ _=>rfl|.sh _ _=>rfl|.emp=>rfl|.kr _ _ _=>rfl|.fn _ a b=>by simp[low,iP,dw,qJ os a,qJ os b]
 |.de _ v=>by simp[low,iP,dw,kE os v]
 |.agg c=>by simp[low,iP,dw,qJ os c]
 |.gM c=>by simp[low,iP,dw,qJ os c]
 |.gd _ v=>by simp[low,iP,dw,kE os v]
 |.mp _=>rfl|.rE _=>rfl|.uj _=>rfl|.ub _=>rfl|.sx _ _ _ _=>rfl|.pW _ _ _=>rfl
theorem qJ(os:L Nat):∀l:L (V S),iI os (bq l)=oJ os l
 |[]=>rfl|v::l=>by simp[bq,iI,oJ,kE os v,qJ os l]
end
def l9:∀t:T,dw [] t=J:=by
 intro t
 induction t using T.rec (motive_2:=λl=>iI [] l=J)with|fn f a b d g=>simp[dw,d,g]|de t v e=>simp[dw,e]|agg i e=>simp[dw,e]|gM i e=>simp[dw,e]|gd c v e=>simp[dw,e]|nil=>rfl|cons a l d h=>simp[iI,d,h]|_=>simp[dw]
structure oD(lo fl:Nat)(g:Gh)(w:World)(g':Gh)(w':World):Prop where
 bP:∀o b,g.bP o=Z b->g'.bP o=Z b
 arr:∀o e x,o<lo->g.arr o e=Z x->g'.arr o e=Z x
 bh:∀b,g.bh b->g'.bh b
 size:w.heap.size<=w'.heap.size
 heap:∀b,b<w.heap.size->(∀o,fl<=o->¬bz g o b)->w'.heap[b]?=w.heap[b]?
 own:∀o b,fl<=o->bz g' o b->(∃o',fl<=o'∧bz g o' b)∨w.heap.size<=b
 og:∀b,g'.bh b->g.bh b∨w.heap.size<=b∨∃o,fl<=o∧bz g o b
 os:w'.os=w.os
 output:w'.output=w.output
theorem oD.refl(lo fl:Nat)(g:Gh)(w:World):oD lo fl g w g w:=
 ⟨λ_ _ h=>h,λ_ _ _ _ h=>h,λ_ h=>h,eM _,λ_ _ _=>rfl,λo _ a h=>.inl ⟨o,a,h⟩,λ_ h=>.inl h,rfl,rfl⟩
def oD.trans{lo fl:Nat}{g g' i:Gh}{w w' j:World}(h:oD lo fl g w g' w')(k:oD lo fl g' w' i j):oD lo fl g w i j where
 bP o b e:=k.bP o b (h.bP o b e)
 arr o e x n p:=k.arr o e x n (h.arr o e x n p)
 bh b e:=k.bh b (h.bh b e)
 size:=fZ h.size k.size
 heap b c q:=by
  rw[k.heap b (iO c h.size) (λo l a=>?_),h.heap b c q];obtain⟨m,d,f⟩|a:=h.own o b l a
  .grind
  .omega
 own o b l a:=by
  obtain⟨m,d,f⟩|a:=k.own o b l a
  .exact h.own m b d f
  .exact .inr (fZ h.size a)
 og b c:=by
  obtain c|c|⟨o,l,a⟩:=k.og b c
  .exact h.og b c
  .exact .inr (.inl (fZ h.size c))
  .obtain ⟨m,d,f⟩|a:=h.own o b l a
   .grind
   omega
 os:=k.os.trans h.os
 output:=k.output.trans h.output
variable {fl:Nat}{g g':Gh}{w w':World}{s:aY S}{k:Bk}{nx:Option Nat}
def Ext.Iu(lo:Nat)(h:Ext fl g w g' w'):oD lo fl g w g' w':=
 ⟨λo b e=>h.bP o b e,λo e x _ k=>h.arr o e x k,h.bh,h.size,h.heap,λo b a c=>(h.own o b c).imp (λh=>⟨o,a,h⟩) id,h.og,h.os,h.output⟩
structure cP(ow:List Nat)(s:aY S)(g:Gh)(w:World)(s':aY S)(g':Gh)(w':World):Prop where
 rel:aV g' (aB s') w'
 ext:oD s.lo s.fl g w g' w'
 fl:s'.fl=s.fl
 lo:s'.lo=s.lo
 aE:s.aE<=s'.aE
 ug:∀o∈s.wr,o∈s'.wr
 same:∀o,o<s.aE->o∉s'.wr->s'.ob.get o=s.ob.get o
 tr:∀t v,aH g w t v->dw ow t=J->aH g' w' t v
 oww:∀o∈ow,o∈s'.wr
 Ho:∀o∈s.dr,o∈s'.dr
 owd:∀o∈ow,o∈s'.dr
inductive ry(S:Sg)(I:Nat->Prop)(w:World):(ps:List Pk)->ga S.A ps->List Value->List eY->List Nat->Prop where
 |nil:ry S I w [] () [] [] []|one {c:Ck} {ps:List Pk} {x:den S.A c.ty} {h:ga S.A ps} {v:Value} {vs:List Value} {al vI:List eY} {bl:List Nat} (h1:jJ S I w [c] (x,()) [v] al) (h2:ry S I w ps h vs vI bl) :
   ry S I w (.one c::ps) (x,h) (v::vs) (al++vI) bl
 |box {k:Bk} {ps:List Pk} {x:yp S.A k} {h:ga S.A ps} {b:Nat} {hx:Obj} {vs:List Value} {al vI:List eY} {bl:List Nat} (hh:w.heap[b]?=Z hx)
   (h1:EA S I w (fC bl) k x hx al) (h2:ry S I w ps h vs vI bl):ry S I w (.box k::ps) (x,h) (La k b::vs) (al++vI) (b::bl)
 |hid {k:Bk} {ps:List Pk} {x:yp S.A k} {h:ga S.A ps} {b:Nat} {hx:Obj} {vs:List Value} {al vI:List eY} {bl:List Nat} (hh:w.heap[b]?=Z hx)
   (h1:EA S I w (fC bl) k x hx al) (h2:ry S I w ps h vs vI bl):ry S I w (.hid k::ps) (x,h) vs (al++vI) (b::bl)
inductive EB(S:Sg)(I:Nat->Prop)(w:World):(ps:List Pk)->iz S.A ps->List Nat->List eY->Prop where
 |nil:EB S I w [] () [] []|one {c:Ck} {ps:List Pk} {r:iz S.A ps} {bl:List Nat} {al:List eY} (h:EB S I w ps r bl al):EB S I w (.one c::ps) r bl al|box {k:Bk} {ps:List Pk} {x:yp S.A k} {r:iz S.A ps} {b:Nat} {hx:Obj} {bl:List Nat} {al vI:List eY} (hh:w.heap[b]?=Z hx)
   (h1:EA S I w (fC bl) k x hx al) (h2:EB S I w ps r bl vI):EB S I w (.box k::ps) (x,r) (b::bl) (al++vI)
 |hid {k:Bk} {ps:List Pk} {x:yp S.A k} {r:iz S.A ps} {b:Nat} {hx:Obj} {bl:List Nat} {al vI:List eY} (hh:w.heap[b]?=Z hx)
   (h1:EA S I w (fC bl) k x hx al) (h2:EB S I w ps r bl vI):EB S I w (.hid k::ps) (x,r) (b::bl) (al++vI)
def valOf:L Value->Value
 |[v]=>v|l=>.tuple l.toArray
def E6(S:Sg)(I:Nat->Prop)(w:World)(ps:L Pk)(f:L Ck)(r:gx S.A f×iz S.A ps)(al:L eY)(bl:L Nat)(v:Value)(w':World):Prop:=∃(e:Nat->Prop)(vs:L Value)(c d:L eY),(∀b,I b->e b)∧(∀b,e b->I b∨w.heap.size<=b∨∃a∈al,a.at b)∧(∀b,e b->b<w'.heap.size)∧w.heap.size<=w'.heap.size∧
   (∀b,b<w.heap.size->b∉bl->(∀a∈al,¬a.at b)->w'.heap[b]?=w.heap[b]?)∧w'.os=w.os∧w'.output=w.output∧v=valOf vs∧
   EB S e w' ps r.2 bl c∧jJ S e w' f r.1 vs d∧xB (c++d)∧(∀a∈c++d,∀b,a.at b->(∃a'∈al,a'.at b)∨w.heap.size<=b)∧(∀b∈bl,¬e b∧∀a∈c++d,¬a.at b)
def ye(S:Sg)(I:Nat->Prop)(w:World)(ps:L Pk)(b:L Ck)(r:Rx (gx S.A b×iz S.A ps) (den S.A S.pt×iz S.A ps))(al:L eY)(bl:L Nat):Ending->World->Prop
 |.returned v,w'=>match r with
  |.ok r=>E6 S I w ps b r al bl v w'|.iE _=>False
 |.panicked c,w'=>match r with
  |.ok _=>False|.iE p=>∃v,c=[{v,recovered:=J}]∧E6 S I w ps [.dat S.pt] ((p.1,()),p.2) al bl v w'
 |.outgrown,_=>False
def bA(P:Program)(f:FuncId)(c:lz S):Prop:=
 lX P f∧∀x r,c.F x=Z r->∀(I:Nat->Prop)(w:World)(vs:Array Value)(al:L eY)(bl:L Nat),ry S I w c.ps x vs.toList al bl->(∀b,I b->b<w.heap.size)->xB al->bl.Nodup->
  (∀b∈bl,b<w.heap.size∧¬I b∧∀a∈al,¬a.at b)->Calls P f vs w (ye S I w c.ps c.rs (RT.res c.pn r) al bl)
def AK(hs:aV g (aB s) w){o b:Nat}(j:g.bP o=Z b){x:yp S.A k}{fz ow:L Nat}(h:l8 s k (s.ob.get o)=Z (x,fz,ow,nx)) :
  (∀a,nx=Z a->∃l,g.bP a=Z l)∧∀a,nx=Z a->∃m pre post,k=.link m pre post:=by
 cases e:s.ob.get o with
 |none=>rw[e]at h;cases k<;>simp[l8]at h
 |some ob=>
 rw[e]at h
 let ⟨t,u,f⟩:=(hs.box o b j).2.2 (cW ob) (by rw[aI,e];rfl)
 cases k with
 |link m pre post=>
  refine⟨λa n=>?_,λ_ _=>⟨m,pre,post,rfl⟩⟩;cases ob with
  |box v=>
   cases f with
   |box _ p ty y f=>
   simp only[l8]at h;split at h;rotate_left
   .cases h
   rename_i q z d A;obtain⟨_,_,_,rfl⟩:=h;have d:=Yf d;rw[j0]at d;have i:cD pre<p.size:=by grind[eJ]
   have c:=f (cD pre) _ _ (by rw[eU,kV,d];rfl) (uy i)
   let ⟨q,r,_⟩:=Tw c
   grind
  |_=>simp[l8]at h
 |cells B=>
  cases ob<;>simp only[l8]at h<;>try(cases h;done)
  grind
 |map C E=>
  cases ob<;>simp only[l8]at h<;>try(cases h;done)
  grind
 |rD=>
  cases ob<;>simp only[l8]at h<;>try(cases h;done)
  grind
def Dx{i:Gh}{ps:L Pk}{l:L (V S)}{h:ga S.A ps}{a b bs bl:L Nat}(n:Gq k ps=W)(g:∀c,nx=Z c->∃m pre post,k=.link m pre post)(e:eD s ps l nx=Z (h,a,b,bs))(d:PW (λo b=>i.bP o=Z b) bs bl) :
  ∀c,nx=Z c->∃f,fC bl=Z f∧i.bP c=Z f:=by
 intro c j;obtain⟨m,pre,post,rfl⟩:=g c j;subst j
 match ps,n with
 |.hid p::ps,_=>
  simp[eD]at e;obtain⟨_,e⟩|⟨_,e⟩:=af e
  rotate_left
  .cases e
  split at e;rotate_left
  .cases e
  split at e;rotate_left
  .cases e
  simp at e;obtain⟨_,_,_,rfl⟩:=e
  match bl,d with
  |f::bl,d=>exact⟨f,rfl,d.2 0 _ _ rfl rfl⟩|[],d=>exact absurd d.1 (by simp)
def kD(hS:fc S){g:Gh}{w:World}{s:aY S}(hs:aV g (aB s) w):∀{ps:L Pk}{l:L (V S)}{vals:L Value}{x:ga S.A ps}{fz ow bs:L Nat}{B:O Nat},eD s ps l B=Z (x,fz,ow,bs)->PW (aH g w) (bq l) vals->(∀o,B=Z o->∃b,g.bP o=Z b)->
  (∀o∈fz,Live g (aB s) o)∧(∀o∈ow,s.fl<=o∧s.lo<=o∧o<s.aE∧∃ob,s.ob.get o=Z ob∧RP ob=W)∧(∀o∈bs,s.fl<=o∧∃ob,s.ob.get o=Z ob∧jL ob=W)∧∀(r:Gh)(s1:St)(i:L Nat),aV r s1 w->Ext s.fl g w r w->jx (aB s) s1 i->(∀o∈fz,o∈i)->(∀o∈ow,s1.ob.get o=(aB s).ob.get o)->
   ∃al bl,ry S r.bh w ps x vals al bl∧AL r al ow∧PW (λo b=>r.bP o=Z b) bs bl
 |[],[],vals,x,fz,ow,bs,_,h,m=>by intro _;obtain⟨_,rfl,rfl,rfl⟩:=h;have:vals=[]:=Eg (by have:=m.1;simpa[bq]using this.symm);subst this;exact⟨λo d=>(by cases d),λo d=>(by cases d),λo d=>(by cases d),λ_ _ _ _ _ _ _ _=>⟨[],[],.nil,.nil,rfl,λj a b h=>by simp at h⟩⟩
 |.one c::ps,v::l,vals,x,fz,ow,bs,_,h,m=>by
  intro _;simp[eD]at h;split at h
  .rename_i x1 a1 b1 h1 a2 b2 bs2 C E;simp at h;obtain⟨rfl,rfl,rfl,rfl⟩:=h
   match vals,m with
   |val::vals,m=>
    have F:aH g w (low v) val:=m.2 0 _ _ rfl rfl;have I:PW (aH g w) (bq l) vals:=⟨by have:=m.1;simpa[bq]using this,λj a b u y=>m.2 (j+1) a b (by simpa[bq]using u) (by simpa using y)⟩
    let ⟨p1,p2,p3⟩:=Dz hS hs C F
    let ⟨q1,q2,q4,q3⟩:=kD hS hs E I (λo d=>by cases d)
    refine⟨λo d=>(eS.1 d).elim (p1 o) (q1 o),λo d=>(eS.1 d).elim (p2 o) (q2 o),q4,λr s1 i n t A f e=>?_⟩
    let ⟨Ea,u,y⟩:=p3 r s1 i n t A (λo d=>f o (fL _ d)) (λo d=>e o (fL _ d))
    let ⟨BA,bl,k3,k4,z⟩:=q3 r s1 i n t A (λo d=>f o (eP _ d)) (λo d=>e o (eP _ d))
    exact⟨_,bl,.one u k3,y.append k4,z⟩
   |[],m=>exact absurd m.1 (by simp[bq])
  .cases h
 |.box k::ps,v::l,vals,x,fz,ow,bs,B,h,m=>by
  intro _;simp[eD]at h;split at h
  .rename_i o hkp;obtain rfl:=Lb hkp;obtain⟨hb,p⟩|⟨_,p⟩:=af h
   .clear h;rw[zm]at hb;split at p;rotate_left
    .cases p
    rename_i x1 a1 b1 nx C;split at p;rotate_left
    .cases p
    rename_i h1 a2 b2 bs2 E;simp at p;obtain⟨rfl,rfl,rfl,rfl⟩:=p
    match vals,m with
    |val::vals,m=>
     have F:aH g w (low (Vt k o)) val:=m.2 0 _ _ rfl rfl;have I:PW (aH g w) (bq l) vals:=⟨by have:=m.1;simpa[bq]using this,λj a b u y=>m.2 (j+1) a b (by simpa[bq]using u) (by simpa using y)⟩;obtain⟨b,q,rfl⟩:=Gs F
     let ⟨p0,hx,hh,p1,p2,p3⟩:=rO hS hs q C
     let ⟨K,P⟩:=AK hs q C
     let ⟨q1,q2,q4,q3⟩:=kD hS hs E I K
     refine⟨λo d=>(eS.1 d).elim (p1 o) (q1 o),λo d=>(eS.1 d).elim (p2 o) (q2 o),λk hk=>?_,λr s1 i n t A f e=>?_⟩
     .obtain rfl|hk:=fS.1 hk
      .simp_all
      grind
     .let ⟨BA,bl,k3,k4,z⟩:=q3 r s1 i n t A (λo d=>f o (eP _ d)) (λo d=>e o (eP _ d))
      let ⟨Ea,u,y⟩:=p3 r s1 i n t A (λo d=>f o (fL _ d)) (λo d=>e o (fL _ d)) (fC bl) (Dx hb.2 P E z)
      refine⟨_,b::bl,.box hh u k3,y.append k4,by simp[z.1],λj a c R m2=>?_⟩;cases j with|zero=>simp at R m2;subst R;subst m2;exact t.bP _ _ q|succ j=>exact z.2 j a c (by simpa using R) (by simpa using m2)
    |[],m=>exact absurd m.1 (by simp[bq])
   .cases p
  .cases h
 |.hid k::ps,l,vals,x,fz,ow,bs,Z o,h,m=>by
  intro hp0;obtain⟨hb,p⟩|⟨_,p⟩:=af h
  rotate_left
  .cases p
  clear h;rw[zm]at hb;split at p;rotate_left
  .cases p
  rename_i C;split at p;rotate_left
  .cases p
  rename_i E;obtain⟨rfl,rfl,rfl,rfl⟩:=p
  let ⟨b,q⟩:=hp0 o rfl
  let ⟨p0,hx,hh,p1,p2,p3⟩:=rO hS hs q C
  let ⟨K,P⟩:=AK hs q C
  let ⟨q1,q2,q4,q3⟩:=kD hS hs E m K
  refine⟨λo d=>(eS.1 d).elim (p1 o) (q1 o),λo d=>(eS.1 d).elim (p2 o) (q2 o),λk hk=>?_,λr s1 i n t A f e=>?_⟩
  .obtain rfl|hk:=fS.1 hk
   .simp_all
   grind
  .let ⟨BA,bl,k3,k4,z⟩:=q3 r s1 i n t A (λo d=>f o (eP _ d)) (λo d=>e o (eP _ d))
   let ⟨Ea,u,y⟩:=p3 r s1 i n t A (λo d=>f o (fL _ d)) (λo d=>e o (fL _ d)) (fC bl) (Dx hb.2 P E z)
   refine⟨_,b::bl,.hid hh u k3,y.append k4,by simp[z.1],λj a c R m2=>?_⟩;cases j with|zero=>simp at R m2;subst R;subst m2;exact t.bP _ _ q|succ j=>exact z.2 j a c (by simpa using R) (by simpa using m2)
 |[],_::_,_,_,_,_,_,_,h,_=>by simp[eD]at h
 |.one _::_,[],_,_,_,_,_,_,h,_=>by simp[eD]at h
 |.box _::_,[],_,_,_,_,_,_,h,_=>by simp[eD]at h
 |.hid _::_,_,_,_,_,_,_,Y,h,_=>by simp[eD]at h
end
section
def Gf{os:L Nat}:∀{l:L (V S)},oJ os l=J->∀v∈l,iP os v=J
 |[],_,v,b=>by cases b
 |a::l,h,v,b=>by
  simp[oJ,zl]at h;obtain rfl|b:=fS.1 b
  .exact h.1
  .exact Gf h.2 v b
def Ge{α:Type}{os:L Nat}:∀{l:L (α×V S)},KV os l=J->∀p∈l,iP os p.2=J
 |[],_,v,b=>by cases b
 |a::l,h,v,b=>by
  simp[KV,zl]at h;obtain rfl|b:=fS.1 b
  .exact h.1
  .exact Ge h.2 v b
def ES{p:V S->Bool}{f:V S->V S}(hf:∀v,p v=J->f v=v):∀{t:Tr (V S)},mJ p t=J->t.mapA f=t
 |.nil,_=>rfl|.node v l r,h=>by
  simp[mJ,zl]at h;simp only[Tr.mapA,ES hf h.2.1,ES hf h.2.2]
  grind
variable {os bl:List Nat}{g:Gh}{w:World}{s:aY S}{vs:List Value}{I:Nat->Prop}
def CJ{v:V S}(h:iP os v=J):ri os v=v:=by simp[ri,h,jo]
def RA{ob:u9 S}(h:KQ os ob=J):nV os ob=ob:=by
 cases ob with
 |box b=>simp[nV,u9.box.injEq];have:∀v∈b,ri os v=v:=λv c=>CJ (Gf h v c);exact(Xe this).trans (List.map_id _)|Il d l=>
  simp only[nV];have:∀p∈l,((p.1,ri os p.2):den S.A d×V S)=p:=λp e=>by rw[CJ (Ge h p e)]
  rw[(Xe this).trans (List.map_id _)]
 |lp l=>simp[nV,ES (λv=>CJ) (show mJ (iP os) l.fr.tm=J from h)]|lD n j l era m a hole=>have h:os.contains m=J:=h;simp only[nV,h,jo]|_=>rfl
theorem wU(os:L Nat)(v:V S):vJ (dw os) (low v) (low (ri os v)):=by cases a:iP os v with|true=>exact .inr ⟨_,by simp[ri,a,gY];rfl⟩|false=>exact .inl ⟨by simp[ri,a,jo],by rw[kE];exact a⟩
theorem SU(os:L Nat)(t:Ty)(x:den S.A t):vJ (dw os) (ec S t x) (ec S t x):=.inl ⟨rfl,kE (S:=S) os (.ty t x)⟩
def LF(os:L Nat)(ob:u9 S):aai os (cW ob) (cW (nV os ob)):=by
 cases ob with
 |box o=>
  refine⟨by simp[eJ],λj t u h1 h2=>?_⟩;simp only[eU,kV,fM]at h1 h2;obtain⟨v,c,rfl⟩:=h1;obtain⟨g,⟨d,a,rfl⟩,rfl⟩:=h2
  grind[wU]
 |map h q l=>
  refine⟨rfl,λj t u h1 h2=>?_⟩;rw[h1]at h2;cases h2;simp only[kV,fM]at h1;obtain⟨p,_,rfl⟩:=h1
  grind[SU]
 |Il h l=>
  refine⟨by simp,λj t u h1 h2=>?_⟩;simp only[kV,fM]at h1 h2;obtain⟨v,c,rfl⟩:=h1;obtain⟨g,⟨d,a,rfl⟩,rfl⟩:=h2
  grind[SU,wU]
 |lp l=>refine⟨rfl,rfl,λk u i=>?_⟩;have b:((l.fr.tm.mapA (ri os)).map low).get k=Z u:=i;rw[Tr.get_map,Tr.oh,FM,fM]at b;obtain⟨v,c,rfl⟩:=b;exact⟨low v,by show(l.fr.tm.map low).get k=_;rw[Tr.get_map,c];rfl,wU os v⟩
 |arr=>rfl|lq=>rfl|rD=>rfl|Ah=>rfl|rws=>rfl|gone=>rfl|Gd=>rfl|lD n j l era m f hole=>
  cases e:os.contains m with|true=>exact .inr (by simp only[nV,e,gY];rfl)|false=>exact .inl ⟨by simp only[nV,e,jo];rfl,e⟩
def GO(os:L Nat)(s:aY S)(o:Nat):(forget os s).ob.get o=if os=[]then s.ob.get o else(s.ob.get o).map (nV os):=by cases os with|nil=>rfl|cons a os=>exact Tr.oh _ _ _
def Oo(os:L Nat)(hs:aV g (aB s) w):aV (g.drop os) (aB (forget os s)) w:=by cases os with|nil=>exact hs|cons a os=>refine hs.drop rfl λo c h=>?_;rw[aI,GO,bL (by simp),FM,fM]at h;obtain⟨ob,b,rfl⟩:=h;exact⟨cW ob,by rw[aI,b];rfl,LF _ ob⟩
def On(os:L Nat)(s:aY S)(o:Nat)(h:o∉(forget os s).wr):(forget os s).ob.get o=s.ob.get o:=by
 rw[GO];split
 .rfl
 .cases c:s.ob.get o with
  |none=>rfl|some ob=>
   cases b:KQ os ob with
   |true=>
    exfalso;apply h;cases os with|nil=>simp_all|cons a os=>exact fL _ (Tr.qN _ _ _ _ c b)
   |false=>rw[jA,RA b]
def VS(os:L Nat)(s:aY S):(forget os s).fl=s.fl∧(forget os s).lo=s.lo∧(forget os s).aE=s.aE∧(forget os s).dr=s.dr∧∀o∈s.wr,o∈(forget os s).wr:=by cases os with|nil=>exact⟨rfl,rfl,rfl,rfl,λ_ h=>h⟩|cons a os=>exact⟨rfl,rfl,rfl,rfl,λo h=>eP _ h⟩
def eE:∀{os:L Nat}{s s':aY S},dU s os=Z s'->s'.fl=s.fl∧s'.lo=s.lo∧s'.aE=s.aE∧(∀o∈s.wr,o∈s'.wr)∧(∀o,o∉s'.wr->s'.ob.get o=s.ob.get o)∧(∀o,o∉os->s'.ob.get o=s.ob.get o)∧s'.dr=s.dr
 |[],s,s',h=>by simp[dU,gK]at h;subst h;exact⟨rfl,rfl,rfl,λ_ h=>h,λ_ _=>rfl,λ_ _=>rfl,rfl⟩
 |k::os,s,s',h=>by
  obtain⟨_,h⟩|⟨_,h⟩:=af h
  .split at h
   .let ⟨h1,h2,h3,h4,h5,h6,b⟩:=eE h
    refine⟨h1,h2,h3,λo a=>h4 o (g7 _ a),λo a=>?_,λo a=>?_,b⟩
    .rw[h5 o a];exact Tr.dA _ _ _ _ _ (λe=>a (h4 o (by rw[e];exact eI)))
    .rw[h6 o (λc=>a (g7 _ c))];exact Tr.dA _ _ _ _ _ (λe=>a (by rw[e];exact eI))
   .let ⟨h1,h2,h3,h4,h5,h6,b⟩:=eE h
    exact⟨h1,h2,h3,h4,h5,λo a=>h6 o (λc=>a (g7 _ c)),b⟩
   .split at h
    .rename_i _ _ _ _ _;obtain⟨d,h⟩|⟨_,h⟩:=af h
     .simp only[eZ,FJ,rF]at d
      let ⟨h1,h2,h3,h4,h5,h6,b⟩:=eE h
      refine⟨h1,h2,h3,λo a=>h4 o (g7 _ (g7 _ a)),λo a=>?_,λo a=>?_,b⟩
      .rw[h5 o a];show((s.ob.set aK _ _).set aK k _).get o=_;rw[Tr.dA _ _ _ _ _ (λe=>a (h4 o (by rw[e];exact eI))),Tr.dA _ _ _ _ _ (λe=>a (h4 o (by rw[e];exact g7 _ eI)))]
      .rw[h6 o (λc=>a (g7 _ c))];show((s.ob.set aK _ _).set aK k _).get o=_;rw[Tr.dA _ _ _ _ _ (λe=>a (by rw[e];exact eI)),Tr.dA _ _ _ _ _ (λe=>a (by rw[e];exact g7 _ d.1))]
     .cases h
    .cases h
   .let ⟨h1,h2,h3,h4,h5,h6,b⟩:=eE h
    exact⟨h1,h2,h3,h4,h5,λo a=>h6 o (λc=>a (g7 _ c)),b⟩
   .let ⟨h1,h2,h3,h4,h5,h6,b⟩:=eE h
    exact⟨h1,h2,h3,h4,h5,λo a=>h6 o (λc=>a (g7 _ c)),b⟩
   .cases h
  .cases h
structure asr(bs:List Nat)(g:Gh)(s:aY S)(w:World)(al:List eY)(g':Gh)(s':aY S):Prop where
 rel:aV g' (aB s') w
 le:mX g g'
 bh:g'.bh=g.bh
 own:∀k b,bz g' k b->bz g k b∨(s.aE<=k∧∃a∈al,a.at b)
 fl:s'.fl=s.fl
 lo:s'.lo=s.lo
 aE:s.aE<=s'.aE
 ug:∀o∈s.wr,o∈s'.wr
 wrb:∀o∈bs,o∈s'.wr
 dr:s'.dr=s.dr
 ob:∀o,o<s.aE->o∉bs->s'.ob.get o=s.ob.get o
 bP:g'.bP=g.bP
 arr:∀o,o<s.aE->∀e,g'.arr o e=g.arr o e
def tD:∀{ps:L Pk}{bs:L Nat}{r:iz S.A ps}{s s':aY S},l6 s ps bs r=Z s'->s.aE<=s'.aE
 |[],[],r,s,s',h=>by simp_all[l6,gK,eM]
 |.one c::ps,bs,r,s,s',h=>tD (ps:=ps) (by simpa only[l6]using h)
 |.box a::ps,o::bs,r,s,s',h=>by
  simp only[l6]at h;have h1:=tD h
  grind[Nat.le_trans,ED]
 |.hid a::ps,o::bs,r,s,s',h=>by
  simp only[l6]at h;have h1:=tD h
  grind[Nat.le_trans,ED]
 |[],_::_,_,_,_,h=>by simp[l6]at h
 |.box _::_,[],_,_,_,h=>by simp[l6]at h
 |.hid _::_,[],_,_,_,h=>by simp[l6]at h
def A1{bs:L Nat}(h:PW (λo b=>g.bP o=Z b) bs bl):∀a,fC bl=Z a->∃c,fC bs=Z c∧g.bP c=Z a:=by
 intro a d
 match bl,bs,h with
 |b::bl,o::bs,h=>cases d;exact⟨o,rfl,h.2 0 _ _ rfl rfl⟩
 |[],_,_=>cases d
 |_::_,[],h=>exact absurd h.1 (by simp)
def NC:∀{ps:L Pk}{r:iz S.A ps}{bl:L Nat}{al:L eY}{bs:L Nat}{g:Gh}{w:World}{s s2:aY S},EB S g.bh w ps r bl al->aV g (aB s) w->PW (λo b=>g.bP o=Z b) bs bl->(∀o∈bs,∀e,g.arr o e=Y)->
  (∀a∈al,∀b,a.at b->∀o,¬bz g o b)->xB al->l6 s ps bs r=Z s2->s2.aE<=bC->∃g',asr bs g s w al g' s2:=by
 intro ps
 induction ps with
 |nil=>
  intro r bl al bs g w s s2 hb C i _ _ _ h _;cases hb;cases bs with|nil=>simp[l6,gK]at h;subst h;exact⟨g,C,mX.refl _,rfl,λ_ _ h=>.inl h,rfl,rfl,eM _,λ_ h=>h,λo ho=>(by cases ho),rfl,λ_ _ _=>rfl,rfl,λ_ _ _=>rfl⟩|cons o bs=>exact absurd i.1 (by simp)
 |cons p ps ih=>
  intro r bl al bs g w s s2 hb C i hna hfr hap h hn;cases hb with
  |one hb=>
   grind[l6]
  | @box v _ x r b hx bl al E hh h1 h2=>
   cases bs with
   |nil=>exact absurd i.1 (by simp)
   |cons o bs=>
    simp[l6]at h;have y:g.bP o=Z b:=i.2 0 _ _ rfl rfl;have n:=uw.1 hap;have F:=tD h;have I:(lf s (fC bs) v x).2.aE<=bC:=fZ F hn
    let ⟨g1,d,z⟩:=p8 h1 (A1 (bs:=bs) (bl:=bl) ⟨by simpa using i.1,λj a c t u=>i.2 (j+1) a c (by simpa using t) (by simpa using u)⟩) C (λa ha=>hfr a (fL _ ha)) n.1 I
    have K:o<s.aE:=C.lt y;have hk:=d.rel.tK (o:=o) (b:=b) (by rw[d.bP];exact y) hh z (λe=>by rw[d.arr o K];simp_all);have P:aV g1 (aB {(lf s (fC bs) v x).2 with ob:=(lf s (fC bs) v x).2.ob.set aK o (lf s (fC bs) v x).1,wr:=o::(lf s (fC bs) v x).2.wr}) w:=by rw[ey];exact hk
    let ⟨g2,l⟩:=ih (bl:=bl) (al:=E) (bs:=bs) (g:=g1) (d.bh▸h2) P ⟨by simpa using i.1,λj a c t u=>by rw[d.bP];exact i.2 (j+1) a c (by simpa using t) (by simpa using u)⟩
     (λm f e=>by
      have:m<s.aE:=by
       obtain⟨j,hj,rfl⟩:=rG f;have hj':j<bl.length:=by have:=i.1;grind
       exact C.lt (i.2 (j+1) bs[j] bl[j] (by simp) (by simp))
      rw[d.arr m this]
      simp_all)
     (λa ha B hb' k q=>by
      obtain q|⟨_,a2,ha2,pR⟩:=d.own k B q
      .grind
      grind) n.2.1 h hn
    refine⟨g2,l.rel,d.le.trans l.le,l.bh.trans d.bh,λk B q=>?_,l.fl.trans d.fl,l.lo.trans d.lo,fZ d.aE l.aE,λm f=>?_,λm f=>?_,l.dr.trans d.dr,λm A f=>?_,l.bP.trans d.bP,λm A e=>?_⟩
    .obtain q|⟨t,a,u,k3⟩:=l.own k B q
     .obtain q|⟨t,a,u,k3⟩:=d.own k B q
      .exact .inl q
      grind
     .exact .inr ⟨fZ d.aE t,a,eP _ u,k3⟩
    .exact l.ug m (g7 _ (by rw[d.wr];exact f))
    .obtain rfl|f:=fS.1 f
     .exact l.ug _ eI
     .exact l.wrb m f
    .have R:m≠o:=λe=>f (by simp_all);rw[l.ob m (iO A d.aE) (λhm=>f (g7 _ hm))];rw[Tr.dA _ _ _ _ _ R];exact d.ob m A
    .rw[l.arr m (iO A d.aE)];exact d.arr m A e
  | @hid v _ x r b hx bl al E hh h1 h2=>
   cases bs with
   |nil=>exact absurd i.1 (by simp)
   |cons o bs=>
    simp[l6]at h;have y:g.bP o=Z b:=i.2 0 _ _ rfl rfl;have n:=uw.1 hap;have F:=tD h;have I:(lf s (fC bs) v x).2.aE<=bC:=fZ F hn
    let ⟨g1,d,z⟩:=p8 h1 (A1 (bs:=bs) (bl:=bl) ⟨by simpa using i.1,λj a c t u=>i.2 (j+1) a c (by simpa using t) (by simpa using u)⟩) C (λa ha=>hfr a (fL _ ha)) n.1 I
    have K:o<s.aE:=C.lt y;have hk:=d.rel.tK (o:=o) (b:=b) (by rw[d.bP];exact y) hh z (λe=>by rw[d.arr o K];simp_all);have P:aV g1 (aB {(lf s (fC bs) v x).2 with ob:=(lf s (fC bs) v x).2.ob.set aK o (lf s (fC bs) v x).1,wr:=o::(lf s (fC bs) v x).2.wr}) w:=by rw[ey];exact hk
    let ⟨g2,l⟩:=ih (bl:=bl) (al:=E) (bs:=bs) (g:=g1) (d.bh▸h2) P ⟨by simpa using i.1,λj a c t u=>by rw[d.bP];exact i.2 (j+1) a c (by simpa using t) (by simpa using u)⟩
     (λm f e=>by
      have:m<s.aE:=by
       obtain⟨j,hj,rfl⟩:=rG f;have hj':j<bl.length:=by have:=i.1;grind
       exact C.lt (i.2 (j+1) bs[j] bl[j] (by simp) (by simp))
      rw[d.arr m this]
      simp_all)
     (λa ha B hb' k q=>by
      obtain q|⟨_,a2,ha2,pR⟩:=d.own k B q
      .grind
      grind) n.2.1 h hn
    refine⟨g2,l.rel,d.le.trans l.le,l.bh.trans d.bh,λk B q=>?_,l.fl.trans d.fl,l.lo.trans d.lo,fZ d.aE l.aE,λm f=>?_,λm f=>?_,l.dr.trans d.dr,λm A f=>?_,l.bP.trans d.bP,λm A e=>?_⟩
    .obtain q|⟨t,a,u,k3⟩:=l.own k B q
     .obtain q|⟨t,a,u,k3⟩:=d.own k B q
      .exact .inl q
      grind
     .exact .inr ⟨fZ d.aE t,a,eP _ u,k3⟩
    .exact l.ug m (g7 _ (by rw[d.wr];exact f))
    .obtain rfl|f:=fS.1 f
     .exact l.ug _ eI
     .exact l.wrb m f
    .have R:m≠o:=λe=>f (by simp_all);rw[l.ob m (iO A d.aE) (λhm=>f (g7 _ hm))];rw[Tr.dA _ _ _ _ _ R];exact d.ob m A
    .rw[l.arr m (iO A d.aE)];exact d.arr m A e
def Ak{l:L (V S)}(h:PW (aH g w) (bq l) vs):aH g w (low (Ef l)) (valOf vs):=by
 match l,vs,h with
 |[],[],_=>exact .gM _ _ rfl (λj t v h=>by grind)
 |[v],[x],h=>exact h.2 0 _ _ rfl rfl|v::c::l,x::d::vs,h=>exact .gM _ _ (by simpa using h.1) (λj t u a b=>h.2 j t u a (by simpa using b))
 |[],_::_,h=>exact absurd h.1 (by simp[bq])
 |_::_,[],h=>exact absurd h.1 (by simp[bq])
 |[_],_::_::_,h=>exact absurd h.1 (by simp[bq])
 |_::_::_,[_],h=>exact absurd h.1 (by simp[bq])
theorem ry.iH{I:Nat->Prop}{w:World}{ps:L Pk}{x:ga S.A ps}{vs:L Value}{al:L eY}{bl:L Nat}(h:ry S I w ps x vs al bl):∀a∈al,∀b,a.at b->¬I b:=by
 induction h with
 |nil=>simp_all|one h1 h2 e=>
  intro a c b d;obtain c|c:=eS.1 c
  .exact h1.iH a c b d
  grind
 |box f h1 h2 e=>
  intro a c b d;obtain c|c:=eS.1 c
  .exact h1.iH a c b d
  grind
 |hid f h1 h2 e=>
  intro a c b d;obtain c|c:=eS.1 c
  .exact h1.iH a c b d
  grind
def iy{α β:Type}{x:O α}{f:α->O β}{r:β}(h:ah x f=Z r):∃a,x=Z a∧f a=Z r:=by
 unfold ah at h
 grind
def ry.arK{ps:L Pk}{x:ga S.A ps}{al:L eY}(h:ry S I w ps x vs al bl):ct ps=W->al=[]∧bl=[]:=by
 induction h with
 |nil=>simp_all| @one c ps x h v vs al b bl h1 h2 d=>
  intro a;cases c with
  |own e=>simp[ct]at a|j3 n j t=>simp[ct]at a|nil e=>simp[ct]at a|ptr t=>simp[ct]at a|dat t=>
   obtain⟨rfl,rfl⟩:=d (by simpa[ct]using a);cases h1 with
   |dat _ f=>
    cases f
    simp_all
 |box=>intro a;simp[ct]at a
 |hid=>intro a;simp[ct]at a
theorem Dy{s:aY S}:∀{ps:L Pk}{l:L (V S)}{nx:O Nat}{x:ga S.A ps}{fz ow bs:L Nat},ct ps=W->eD s ps l nx=Z (x,fz,ow,bs)->ow=[]
 |[],[],_,x,fz,ow,bs,_,h=>by
  grind[eD]
 |.one (.dat t)::ps,v::l,_,x,fz,ow,bs,a,h=>by
  simp[eD]at h;split at h
  .rename_i b c;obtain⟨_,_,rfl,_⟩:=h;rw[Dy (by simpa[ct]using a) c];simp[o4]at b
   grind
  .cases h
 |.one (.j3 ..)::_,_,_,_,_,_,_,a,_=>by simp[ct]at a
 |.one (.nil _)::_,_,_,_,_,_,_,a,_=>by simp[ct]at a
 |.one (.ptr _)::_,_,_,_,_,_,_,a,_=>by simp[ct]at a
 |.one (.own _)::_,_,_,_,_,_,_,a,_=>by simp[ct]at a
 |.box _::_,_,_,_,_,_,_,a,_=>by simp[ct]at a
 |.hid _::_,_,_,_,_,_,_,a,_=>by simp[ct]at a
 |[],_::_,_,_,_,_,_,_,h=>by simp[eD]at h
 |.one _::_,[],_,_,_,_,_,_,h=>by simp[eD]at h
def xX{g:Gh}{I:Nat->Prop}{w w':World}:∀{cs:L Ck}{x:gx S.A cs}{vs:L Value}{al:L eY},kU cs=W->jJ S I w cs x vs al->PW (aH g w') (bq (tS cs x)) vs
 |[],x,vs,al,_,h=>by cases h;exact⟨rfl,λj t v h=>by simp_all⟩
 |.dat t::cs,x,vs,al,a,h=>by
  cases h with
  | @dat _ _ y h v vs al b e=>
  simp[kU,eZ]at a
  let ⟨f,i⟩:=xX (g:=g) (w':=w') a.2 e
  refine⟨by simp only[tS,bq,ny];rw[f],λj l m c d=>?_⟩;cases j with
  |zero=>
   simp[tS,bq,Nk,gK]at c d;subst c;subst d;have:dH g.bh w' (enc S t y) v:=by
    cases t with
    |int k=>cases b;exact .lit _
    |bool=>cases b;exact .lit _
    |str=>cases b;exact .lit _
    |_=>simp[W3]at a
   exact qu this
  |succ j=>grind[tS,bq]
 |.own _::_,_,_,_,a,_=>by simp[kU]at a
 |.j3 ..::_,_,_,_,a,_=>by simp[kU]at a
 |.nil _::_,_,_,_,a,_=>by simp[kU]at a
 |.ptr _::_,_,_,_,a,_=>by simp[kU]at a
def Dq(R:fc S){g:Gh}{w:World}{s:aY S}(hs:aV g (aB s) w):∀{ts:L Ty}{l:L (V S)}{vals:L Value}{x:lP S.A ts}{fz:L Nat},AE s ts l=Z (x,fz)->PW (aH g w) (bq l) vals->
  (∀o∈fz,Live g (aB s) o)∧∀(k:Gh)(s1:St)(e:L Nat),aV k s1 w->Ext s.fl g w k w->jx (aB s) s1 e->(∀o∈fz,o∈e)->∃B:Nat->Prop,(∀b,B b->b<w.heap.size)∧∀I:Nat->Prop,(∀b,k.bh b∨B b->I b)->PW (dH I w) (eW S ts x) vals
 |[],[],vals,x,fz,h,A=>by simp only[AE,gK,fh]at h;obtain⟨_,rfl⟩:=h;exact⟨λo r=>(by cases r),λ_ _ _ _ _ _ _=>⟨λ_=>False,λ_ h=>h.elim,λ_ _=>⟨by have:=A.1;simpa[bq,eW]using this,λj d v h=>by simp[eW]at h⟩⟩⟩
 |[],_::_,_,_,_,h,_=>by simp[AE]at h
 |_::_,[],_,_,_,h,_=>by simp[AE]at h
 |t::ts,v::l,[],x,fz,_,A=>absurd A.1 (by simp[bq])
 |t::ts,v::l,val::vals,x,fz,h,A=>by
  simp only[AE]at h;split at h;rotate_left
  .cases h
  rename_i y os y2 os2 h1 h2;simp only[gK,fh]at h;obtain⟨rfl,rfl⟩:=h;have E:aH g w (low v) val:=A.2 0 _ _ rfl rfl;have hv2:PW (aH g w) (bq l) vals:=⟨by have:=A.1;simpa[bq]using this,λj a b k1 k2=>A.2 (j+1) a b (by simpa[bq]using k1) (by simpa using k2)⟩;obtain⟨q3,q4⟩:=Dq R hs h2 hv2;have one:(∀o∈os,Live g (aB s) o)∧∀(k:Gh)(s1:St)(e:L Nat),aV k s1 w->Ext s.fl g w k w->jx (aB s) s1 e->(∀o∈os,o∈e)->∃B:Nat->Prop,(∀b,B b->b<w.heap.size)∧∀I:Nat->Prop,(∀b,k.bh b∨B b->I b)->dH I w (enc S t y) val:=by
   unfold aiw at h1;split at h1
   .rename_i u o _;split at h1;rotate_left
    .cases h1
    rename_i m lg;split at h1;rotate_left
    .cases h1
    rename_i hm;obtain⟨rfl,rfl,hmm⟩:=Hw hm;cases hmm;simp only[gK,fh]at h1;obtain⟨rfl,rfl⟩:=h1;obtain⟨b,rfl,i⟩:∃b,val=.map (Z b)∧g.bP o=Z b:=by cases E with|mp _ b i=>exact⟨b,rfl,i⟩
    obtain⟨x0,hh,F⟩:=(hs.box o b i).2.2 _ (by rw[aI,lg];rfl);cases F with
    |map _ ms c hl F=>
    refine⟨λo r=>(by cases r),λk s1 e n C K f=>⟨λb'=>b'=b,λb' hb'=>hb'▸(hs.box o b i).2.1,λI z=>?_⟩⟩;have key:∀(j:Nat)p q,m[j]?=Z p->ms[j]?=Z q->dH I w (enc S _ p.1) q.key∧dH I w (enc S _ p.2) q.val:=λj p q h1 h2=>by obtain⟨k1,k2⟩:=F j _ q (by rw[kV,h1];rfl) h2;exact⟨(EE R (k1.ext C hs.bh)).le λb i=>z b (.inl i),(EE R (k2.ext C hs.bh)).le λb i=>z b (.inl i)⟩
    refine .mp _ _ b ms c (z b (.inr rfl)) hh (by simpa using hl) (by simpa using hl) (λj d q h1 h2=>?_) (λj d q h1 h2=>?_)
    .simp only[kV,fM]at h1;obtain⟨p,P,rfl⟩:=h1;exact(key j p q P h2).1
    .simp only[kV,fM]at h1;obtain⟨p,P,rfl⟩:=h1;exact(key j p q P h2).2
   .obtain ⟨p,hd,P⟩:=qv R s t v h1;obtain⟨q1,q2⟩:=l5 hs (low v) hd P E;exact⟨q1,λk s1 e n C K f=>⟨λ_=>False,λ_ h=>h.elim,λI z=>(q2 k s1 n C (K.sub f)).le λb i=>z b (.inl i)⟩⟩
  refine⟨λo r=>(eS.1 r).elim (one.1 o) (q3 o),λk s1 e n C K f=>?_⟩;obtain⟨B,hB,F⟩:=q4 k s1 e n C K (λo r=>f o (eP _ r));obtain⟨B',hB',hr'⟩:=one.2 k s1 e n C K (λo r=>f o (fL _ r));refine⟨λb=>B b∨B' b,λb i=>i.elim (hB b) (hB' b),λI z=>?_⟩;have a1:=F I λb i=>z b (i.imp id .inl);have a2:=hr' I λb i=>z b (i.imp id .inr);refine⟨by simp[eW,a1.1],λj d u h1 h2=>?_⟩;cases j with|zero=>simp[eW]at h1 h2;subst h1;subst h2;exact a2|succ j=>exact a1.2 j d u (by simpa[eW]using h1) (by simpa using h2)
def uB(hS:fc S){g:Gh}{w:World}{s:aY S}(hs:aV g (aB s) w):∀{ps:L Pk}{l:L (V S)}{vals:L Value}{x:ga S.A ps}{fz:L Nat},lM s ps l=Z (x,fz)->PW (aH g w) (bq l) vals->
  (∀o∈fz,Live g (aB s) o)∧∀(q:Gh)(s1:St)(f:L Nat),aV q s1 w->Ext s.fl g w q w->jx (aB s) s1 f->(∀o∈fz,o∈f)->∃B:Nat->Prop,(∀b,B b->b<w.heap.size)∧∀I:Nat->Prop,(∀b,q.bh b∨B b->I b)->ry S I w ps x vals [] []
 |[],[],vals,x,fz,h,m=>by obtain⟨_,rfl⟩:=h;have:vals=[]:=Eg (by have:=m.1;simpa[bq]using this.symm);subst this;exact⟨λo i=>(by cases i),λ_ _ _ _ _ _ _=>⟨λ_=>False,λ_ h=>h.elim,λ_ _=>.nil⟩⟩
 |[],_::_,_,_,_,h,_=>by simp[lM]at h
 |.one c::_,[],_,_,_,h,_=>by cases c<;>simp[lM]at h
 |.box _::_,[],_,_,_,h,_=>by simp[lM]at h
 |.hid _::_,[],_,_,_,h,_=>by simp[lM]at h
 |.box _::_,_::_,_,_,_,h,_=>by simp[lM]at h
 |.hid _::_,_::_,_,_,_,h,_=>by simp[lM]at h
 |.one (.own _)::_,_::_,_,_,_,h,_=>by simp[lM]at h
 |.one (.j3 ..)::_,_::_,_,_,_,h,_=>by simp[lM]at h
 |.one (.nil _)::_,_::_,_,_,_,h,_=>by simp[lM]at h
 |.one (.dat t)::ps,v::l,[],x,fz,_,m=>absurd m.1 (by simp[bq])
 |.one (.ptr t)::ps,v::l,[],x,fz,_,m=>absurd m.1 (by simp[bq])
 |.one (.dat t)::ps,v::l,val::vals,x,fz,h,m=>by
  simp[lM]at h;split at h;rotate_left
  .cases h
  rename_i y os y2 os2 h1 h2;obtain⟨rfl,rfl⟩:=h;have E:aH g w (low v) val:=m.2 0 _ _ rfl rfl;have P:PW (aH g w) (bq l) vals:=⟨by have:=m.1;simpa[bq]using this,λj a b k1 k2=>m.2 (j+1) a b (by simpa[bq]using k1) (by simpa using k2)⟩
  let ⟨p,hd,hp⟩:=qv hS s t v h1
  let ⟨q1,q2⟩:=l5 hs (low v) hd hp E
  let ⟨q3,q4⟩:=uB hS hs h2 P
  refine⟨λo i=>(eS.1 i).elim (q1 o) (q3 o),λq s1 f k F R d=>?_⟩
  let ⟨B,hB,hr⟩:=q4 q s1 f k F R (λo i=>d o (eP _ i))
  have hx:=q2 q s1 k F (R.sub λo i=>d o (fL _ i));exact⟨B,hB,λI z=>ry.one (al:=[]) (.dat (hx.le λb hb=>z b (.inl hb)) .nil) (hr I z)⟩
 |.one (.ptr t)::ps,v::l,val::vals,x,fz,h,m=>by
  simp[lM]at h;split at h;rotate_left
  .cases h
  rename_i h1 h2;obtain⟨rfl,rfl⟩:=h;have E:aH g w (low v) val:=m.2 0 _ _ rfl rfl;have P:PW (aH g w) (bq l) vals:=⟨by have:=m.1;simpa[bq]using this,λj a b k1 k2=>m.2 (j+1) a b (by simpa[bq]using k1) (by simpa using k2)⟩
  let ⟨q3,q4⟩:=uB hS hs h2 P
  unfold ad4 at h1;split at h1
  .split at h1;rotate_left
   .cases h1
   rename_i hz;obtain⟨rfl,rfl⟩:=h1;obtain⟨rfl,hz⟩:=JX hz;cases hz;cases E with
   |lR _ _ ad vv hi hc hd=>
   refine⟨λo i=>q3 o (by simpa using i),λq s1 f k F R d=>?_⟩
   let ⟨B,hB,hr⟩:=q4 q s1 f k F R (λo i=>d o (by simpa using i))
   exact⟨B,hB,λI z=>ry.one (al:=[]) (.ptr (z _ (.inl (F.bh _ hi))) hc (λj c A=>(hd j c A).le λb hb=>z _ (.inl (F.bh _ hb))) .nil) (hr I z)⟩
  .rename_i o;split at h1;rotate_left
   .cases h1
   rename_i cs i;cases E with
   |ptr _ _ b hb=>
   have ho':(aB s).ob.get o=Z (.box (bq cs)):=by rw[aI,i];rfl
   let ⟨vs,ty,JE,hl,hcell⟩:=(hs.box o b hb).box ho'
   obtain⟨n,rfl⟩:∃n,t=Ty.st n:=by cases t<;>first|exact⟨_,rfl⟩|simp only[afk,reduceCtorEq]at h1
   simp only[afk]at h1;obtain⟨⟨yh,os1⟩,K⟩:∃r,AE s (S.fs n) cs=Z r:=by
    cases K:AE s (S.fs n) cs with
    |none=>rw[K]at h1;cases h1
    |some r=>exact⟨r,rfl⟩
   rw[K]at h1;simp only[gK,fh]at h1;obtain⟨rfl,rfl⟩:=h1
   let ⟨q1,q2⟩:=Dq hS hs K (vals:=vs.toList) ⟨by simpa using hl,λj t v h1 h2=>hcell j t v h1 (by simpa using h2)⟩
   refine⟨λo i=>(eS.1 i).elim (q1 o) (q3 o),λq s1 f k F R d=>?_⟩
   let ⟨B,hB,hr⟩:=q4 q s1 f k F R (λo i=>d o (eP _ i))
   let ⟨B',hB',hx⟩:=q2 q s1 f k F R (λo i=>d o (fL _ i))
   refine⟨λC=>B C∨(C=b∨B' C),λC u=>u.elim (hB C) λe=>e.elim (λe=>by grind) (hB' C),λI z=>ry.one (al:=[]) ?_ (hr I λC u=>z C (u.imp id .inl))⟩;have hx:=hx I λC u=>z C (u.imp id λh=>.inr (.inr h));have hl':enc S (.st n) (S.ER n yh)=.agg (eW S (S.fs n) yh):=by show D.agg (S.cells n (S.ER n yh))=_;rw[hS.cells,hS.sC]
   have agC:∀j,(⟨b,0,Y⟩:Addr).add j=⟨b,j,Y⟩:=λj=>by
    grind[Addr.add]
   have hlen:(eW S (S.fs n) yh).length=vs.size:=by simpa using hx.1
   have:=jJ.ptr (S:=S) (I:=I) (w:=w) (t:=.st n) (cs:=[]) (x:=S.ER n yh) (h:=()) (ad:=⟨b,0,Y⟩) (val:=λj=>(vs[j]?).getD undef) (vs:=[]) (al:=[]) (z _ (.inr (.inr (.inl rfl)))) (λj c A=>?_) (λj c A=>?_) .nil
   .simp_all
   .rw[hl']at A;have A:(eW S (S.fs n) yh)[j]?=Z c:=A
    grind[cell?_of_block]
   .rw[hl']at A;have A:(eW S (S.fs n) yh)[j]?=Z c:=A;have hlt:j<vs.size:=by grind
    rw[uy hlt];exact hx.2 j c vs[j] A (by simp[hlt])
  .cases h1
def DP(hS:fc S){P:Program}{f:FuncId}{c:lz S}(VI:bA P f c)(hs:aV g (aB s) w){args:L (V S)}{vs:Array Value}(oL:PW (aH g w) (bq args) vs.toList)
  {ω:Type} {kp:V S->aY S->O ω} {k:V S->aY S->L Nat->O ω} {res:ω} (h:OA s c args kp k=Z res) :
  lX P f∧Calls P f vs w λ
   |.returned v,w'=>∃t s' g' A,k t s' A=Z res∧aH g' w' (low t) v∧cP A s g w s' g' w'|.panicked ch,w'=>∃v t s' g',ch=[{v,recovered:=J}]∧kp t s'=Z res∧aH g' w' (low t) v∧cP [] s g w s' g' w'|.outgrown,_=>False:=by
 unfold OA at h;obtain⟨_,h0⟩|⟨_,h0⟩:=af h
 .clear h;obtain⟨hc,h1⟩|⟨_,h1⟩:=af h0
  rotate_left
  .cases h1
  clear h0;simp only[eZ]at hc;split at h1
  .cases h1
  rename_i x fz hpk;split at h1
  .cases h1
  rename_i R hfz
  let ⟨p1,p2⟩:=uB hS hs hpk oL
  let ⟨z,q,C,hfr⟩:=ez fz hs (dx hS _ hfz) p1
  let ⟨B,hB,E⟩:=p2 z (aB R) fz q C hfr (λo u=>u)
  let ⟨r0,hF,h2⟩:=iy h1
  split at h2;rotate_left
  .cases h2
  rename_i r hr;refine⟨VI.1,(VI.2 x r0 hF (λb=>z.bh b∨B b) w vs [] [] (E _ λ_ h=>h) (λb l=>l.elim (q.bh b) (hB b)) .nil .nil (λb l=>by cases l)).mono λe w' he=>?_⟩;rw[hr]at he;cases e with
  |outgrown=>exact he.elim|panicked ch=>exact he.elim|returned v=>
   obtain⟨I',vr,Ea,BA,q1,q2,q3,q4,q5,q6,q7,rfl,q8,q9,_⟩:=he;have JE:∀b,b<w.heap.size->w'.heap[b]?=w.heap[b]?:=λb l=>q5 b l (by simp) (by simp)
   let ⟨hs',he'⟩:=hs.grow (fl:=s.fl) (I:=g.bh) (w':=w') (λ_ h=>h) (λ_ h=>.inl h) (λb l=>iO (hs.bh b l) q4) q4 JE q6 q7
   exact⟨_,s,g,[],h2,Ak (xX hc.2.1 q9),hs',he'.Iu _,rfl,rfl,eM _,λ_ h=>h,λ_ _ _=>rfl,λt v ht _=>ht.ext he' hs.bh,λo u=>(by cases u),λ_ h=>h,λo u=>(by cases u)⟩
 clear h;have h:=h0;clear h0;split at h
 .cases h
 rename_i x fz A bs hpk;split at h
 .cases h
 rename_i R hfz;obtain⟨YL,h2⟩|⟨_,h⟩:=af h
 .let ⟨p1,_,_,p3⟩:=kD hS hs hpk oL (λo u=>by cases u)
  let ⟨z,q,C,hfr⟩:=ez fz hs (dx hS _ hfz) p1
  simp only[Yh,eZ]at YL
  let ⟨f1,f2,f3,f4,f5,f6,f7⟩:=eE hfz
  let ⟨al,bl,E,_,_⟩:=p3 z (aB R) fz q C hfr (λo u=>u) (λo u=>by grind[Dy])
  obtain⟨rfl,rfl⟩:=E.arK YL.1;clear h
  let ⟨r0,hF,h2⟩:=iy h2
  split at h2;rotate_left
  .cases h2
  rename_i r hr;refine⟨VI.1,(VI.2 x r0 hF z.bh w vs [] [] E q.bh .nil .nil (λb l=>by cases l)).mono λe w' he=>?_⟩;rw[hr]at he;cases e with
  |outgrown=>exact he.elim|panicked ch=>exact he.elim|returned v=>
   obtain⟨I',vr,Ea,BA,q1,q2,q3,q4,q5,q6,q7,rfl,q8,q9,_⟩:=he;have JE:∀b,b<w.heap.size->w'.heap[b]?=w.heap[b]?:=λb l=>q5 b l (by simp) (by simp)
   let ⟨hs',he'⟩:=hs.grow (fl:=s.fl) (I:=g.bh) (w':=w') (λ_ h=>h) (λ_ h=>.inl h) (λb l=>iO (hs.bh b l) q4) q4 JE q6 q7
   refine⟨_,s,g,[],h2,Ak (xX YL.2.1 q9),hs',he'.Iu _,rfl,rfl,eM _,λ_ h=>h,λ_ _ _=>rfl,λt v ht _=>ht.ext he' hs.bh,λo u=>(by cases u),λ_ h=>h,λo u=>(by cases u)⟩
 obtain⟨l,h2⟩|⟨_,h2⟩:=af h
 rotate_left
 .cases h2
 clear h;simp at l;have IE:=lO l.1;have aqq:=lO l.2.1;have hap:=zW l.2.2;unfold ah at h2;split at h2;rotate_left
 .cases h2
 rename_i r hF;dsimp only at h2
 let ⟨p1,p2,p4,p3⟩:=kD hS hs hpk oL (λo u=>by cases u)
 have hfl:=dx hS _ hfz
 let ⟨z,q,C,hfr⟩:=ez fz hs hfl p1
 let ⟨f1,f2,f3,f4,f5,f6,f7⟩:=eE hfz
 let ⟨al,bl,E,hal,Mx⟩:=p3 z (aB R) fz q C hfr (λo u=>u) (λo u=>by rw[aI,aI,f6 o (hap o u)])
 have aeo:∀o∈bs,∃ob,R.ob.get o=Z ob∧jL ob=W:=by
  intro o u
  let ⟨_,ob',hvs,N8⟩:=p4 o u
  have hnf:o∉fz:=λhm=>by
   have:=(p1 o hm).oe (by rw[aI,hvs];rfl)
   grind[n8]
  simp_all
 have YJ:∀o∈bs,∀e,z.arr o e=Y:=by
  intro o u e
  let ⟨vs',hvs,N8⟩:=aeo o u
  cases hx:z.arr o e with
  |none=>rfl|some x'=>
   exfalso
   let ⟨_,h2⟩:=q.arr o e x' hx
   exact AJ N8 (h2 _ (by rw[aI,hvs];rfl))
 have hni:∀a∈al,∀b,a.at b->¬z.bh b:=E.iH;have Ek:=hal.owned hni;have akI:=hal.apart q IE hni;have ags:∀b∈bl,∃o∈bs,z.bP o=Z b:=by
  intro b l;obtain⟨j,hj,rfl⟩:=rG l;have hj':j<bs.length:=by have:=Mx.1;omega
  exact⟨bs[j],Nh hj',Mx.2 j _ _ (iR hj') (iR hj)⟩
 have VJ:∀o∈bs,∃b∈bl,z.bP o=Z b:=by
  intro o u;obtain⟨j,hj,rfl⟩:=rG u;have hj':j<bl.length:=by have:=Mx.1;omega
  exact⟨bl[j],Nh hj',Mx.2 j _ _ (iR hj) (iR hj')⟩
 have hOb:∀o b,z.bP o=Z b->bz z o b:=λo b h=>⟨(q.box o b h).1,.inl h⟩;have acN:bl.Nodup:=by
  refine QB.2 λi j hi hj hij heq=>?_;have hlen:=Mx.1;have hi':i<bs.length:=by omega
  have hj':j<bs.length:=by omega
  have e1:=Mx.2 i _ _ (iR hi') (iR hi);have e2:=Mx.2 j _ _ (iR hj') (iR hj);rw[<-heq]at e2;exact(QB.1 aqq i j hi' hj' hij) (q.jS _ _ _ (hOb _ _ e1) (hOb _ _ e2))
 have agu:∀b∈bl,b<w.heap.size∧¬z.bh b∧∀a∈al,¬a.at b:=by
  intro b l
  let ⟨o,u,lg⟩:=ags b l
  refine⟨(q.box o b lg).2.1,(q.box o b lg).1,λa ha zG=>?_⟩
  let ⟨o',ho',VN⟩:=Ek a ha b zG
  have:=q.jS o o' b (hOb o b lg) VN;subst this
  let ⟨vs',hvs,N8⟩:=aeo o u
  let ⟨_,_,_,oba,aqh,hB⟩:=p2 o ho'
  rw[f6 o (hap o ho')]at hvs;rw[aqh]at hvs;cases hvs;have:=uY hB
  grind[n8]
 have core:∀(rs:L Ck)(r:gx S.A rs×iz S.A c.ps)(s2:aY S),l6 (yS bs (forget A {R with wr:=A++R.wr,dr:=A++R.dr})) c.ps bs r.2=Z s2->(ig s2 rs r.1).2.aE<=bC->∀(v:Value)(w':World),E6 S z.bh w c.ps rs r al bl v w'->
   ∃g',aH g' w' (low (Ef (ig s2 rs r.1).1)) v∧cP A s g w (ig s2 rs r.1).2 g' w':=by
  clear h2;intro rs r s2 hput aqw v w' he;obtain⟨I',vr,Ea,BA,q1,q2,q3,q4,q5,q6,q7,rfl,q8,q9,q10,q11,q12⟩:=he
  let sF:aY S:=forget A {R with wr:=A++R.wr,dr:=A++R.dr}
  let sD:aY S:=yS bs sF
  let ⟨t1,t2,t3,t5,t4⟩:=VS A {R with wr:=A++R.wr,dr:=A++R.dr}
  have af2:aV z (aB {R with wr:=A++R.wr,dr:=A++R.dr}) w:=q;have hsF:aV (z.drop A) (aB sF) w:=Oo A af2;have hbsn:∀o∈bs,o<R.aE:=λo u=>by
   let ⟨b,_,l⟩:=VJ o u
   exact q.lt l
  have hnob1:R.aE<=bC:=q.aE;have akn:∀o,sD.ob.get o=if o∈bs then Y else sF.ob.get o:=λo=>Tr.oq bs _ o (λb l=>by grind)
  have hsD:aV (z.drop A) (aB sD) w:=by
   have hsub:∀o ob,(aB sD).ob.get o=Z ob->(aB sF).ob.get o=Z ob:=by
    grind[aI]
   refine⟨hsF.aE,hsF.ah,λo b h=>?_,λo e x h=>?_,hsF.bh,hsF.jS⟩
   .let ⟨k1,k2,k3⟩:=hsF.box o b h
    exact⟨k1,k2,λob lg=>k3 ob (hsub o ob lg)⟩
   .let ⟨k1,k2⟩:=hsF.arr o e x h
    exact⟨k1,λob lg=>k2 ob (hsub o ob lg)⟩
  let X:Nat->Prop:=λb=>b∈bl∨∃a∈al,a.at b
  have Re:∀o b,bz (z.drop A) o b->bz z o b:=λo b h=>Gh.zM h;have halno:∀a∈al,∀b,a.at b->∀o,¬bz (z.drop A) o b:=by
   intro a ha b l o F
   let ⟨o',ho',VN⟩:=Ek a ha b l
   have:=q.jS o o' b (Re o b F) VN;subst this;obtain⟨_,h|⟨e,x',ad,h,_⟩⟩:=F
   .have h:z.bP o=Z b:=h
    let ⟨_,_,_,oba,lg,hB⟩:=p2 o ho'
    have hnb:=q.AR (o:=o) (ob:=cW oba) ((aI R o).trans (by simp_all)) (uY hB)
    simp_all
   .exact (Gh.Hl h).1 ho'
  have hstep:aV {z.drop A with bh:=I'} (aB sD) w':=by
   refine hsD.step (X:=X) q1 (λb l=>?_) q3 q4 (λb l hX=>q5 b l (λh=>hX (.inl h)) (λa ha h=>hX (.inr ⟨a,ha,h⟩))) (λo b hX F=>?_) (λb hX=>?_)
   .obtain h|h|h:=q2 b l
    .exact .inl h
    .omega
    grind
   .obtain hX|⟨a,ha,K⟩:=hX
    .let ⟨o',ho',aqi⟩:=ags b hX
     have:=q.jS o o' b (Re o b F) (hOb _ _ aqi)
     simp_all[aI]
    grind
   .obtain hX|⟨a,ha,K⟩:=hX
    .exact (agu b hX).2.1
    .exact hni a ha b K
  have aej:∀o b,bz ({z.drop A with bh:=I'}:Gh) o b->bz (z.drop A) o b:=λo b h=>⟨λhi=>h.1 (q1 b hi),h.2⟩;have hfresh:∀a∈Ea++BA,∀b,a.at b->∀o,¬bz ({z.drop A with bh:=I'}:Gh) o b:=by
   intro a ha b l o F;have F:=aej o b F;obtain⟨a',ha',hb'⟩|hge:=q11 a ha b l
   .grind
   .have:=(hsD.rP F).1;omega
  have akH:=uw.1 q10;have hs3n:s2.aE<=(ig s2 rs r.1).2.aE:=nX _ _ _
  let ⟨g4,hp⟩:=NC (g:={z.drop A with bh:=I'}) (s:=sD) q8 hstep Mx (λo u e=>by
    show(if o∈A then Y else z.arr o e)=Y
    simp_all) (λa ha=>hfresh a (fL _ ha)) akH.1 hput (by omega)
  obtain⟨g5,hu,ap9⟩:=nt (g:=g4) (by rw[hp.bh];exact q9) hp.rel (λa ha b l o F=>by
    obtain F|⟨_,a2,ha2,pR⟩:=hp.own o b F
    .grind
    grind) akH.2.1 aqw
  have hle:mX ({z.drop A with bh:=I'}:Gh) g5:=hp.le.trans hu.le;have aem:g5.bh=I':=hu.bh.trans hp.bh;have hnobD:sD.aE=R.aE:=t3;have aql:R.aE<=(ig s2 rs r.1).2.aE:=by have:=hp.aE;omega
  have hown5:∀k b,bz g5 k b->bz g k b∨(s.fl<=k∧∃o',s.fl<=o'∧bz g o' b)∨w.heap.size<=b:=by
   intro k b F;have hnewk:∀a∈Ea++BA,a.at b->R.aE<=k->bz g k b∨(s.fl<=k∧∃o',s.fl<=o'∧bz g o' b)∨w.heap.size<=b:=by
    intro a ha K hk';obtain⟨a',ha',hb'⟩|hge:=q11 a ha b K
    .let ⟨o',ho',VN⟩:=Ek a' ha' b hb'
     obtain VN|hge:=C.own o' b VN
     .grind
     omega
    omega
   obtain F|⟨h1,a,ha,K⟩:=hu.own k b F
   .obtain F|⟨h1,a,ha,K⟩:=hp.own k b F
    .obtain F|hge:=C.own k b (Re k b (aej k b F))
     .exact .inl F
     omega
    grind
   .have:=hp.aE
    grind
  refine⟨g5,Ak ap9,hu.rel,⟨λo b l=>?_,λo e y hl hy=>?_,λb l=>?_,q4,λb l hno=>?_,λo b u F=>?_,λb l=>?_,q6,q7⟩,?_,?_,?_,λo u=>?_,λo hl u=>?_,λt v ht hm=>?_,λo u=>?_,λo u=>?_,λo u=>?_⟩
  .rw[hu.bP,hp.bP];exact C.bP o b l
  .have hno:o∉A:=λhm=>by grind
   have h1:({z.drop A with bh:=I'}:Gh).arr o e=Z y:=by show(if o∈A then Y else z.arr o e)=Z y;rw[bL hno];exact C.arr o e y hy
   exact hle.arr o e y h1
  .rw[aem];exact q1 b (C.bh b l)
  .refine q5 b l (λhm=>?_) (λa ha K=>?_)
   .let ⟨o,u,lg⟩:=ags b hm
    obtain F|hge:=C.own o b (hOb o b lg)
    .simp_all
    .omega
   .let ⟨o,u,F⟩:=Ek a ha b K
    obtain F|hge:=C.own o b F
    .simp_all
    .omega
  .grind
  .rw[aem]at l;obtain h|h|⟨a,ha,K⟩:=q2 b l
   .exact C.og b h
   .omega
   .let ⟨o,u,F⟩:=Ek a ha b K
    obtain F|hge:=C.own o b F
    .grind
    omega
  .exact hu.fl.trans (hp.fl.trans (t1.trans f1))
  .exact hu.lo.trans (hp.lo.trans (t2.trans f2))
  .omega
  .rw[hu.wr];exact hp.ug o (t4 o (eP _ (f4 o u)))
  .rw[hu.wr]at u;have h1:o∉bs:=λhm=>u (hp.wrb o hm);have h2:o∉sF.wr:=λhm=>u (hp.ug o hm);have h3:o∉R.wr:=λhm=>h2 (t4 o (eP _ hm));rw[hu.ob o (by have:=hp.aE;omega),hp.ob o (by omega) h1,akn,bL h1,On _ _ _ h2];exact f5 o h3
  .have h1:=ht.ext C hs.bh;have h2:=h1.drop hm;have hkp:jQ (z.drop A).bh w w':=λb l=>q5 b (q.bh b l) (λhmm=>(agu b hmm).2.1 l) (λa ha K=>hni a ha b K l);have h3:aH ({z.drop A with bh:=I'}:Gh) w' t v:=by
    clear hm h1 ht
    induction h2 with|sym d v hd=>exact .sym d v (hd.mono hkp q1)|kb b=>exact .kb b|kn k n=>exact .kn k n|ptr o off b l=>exact .ptr o off b l|lR d off ad val TK hc hd=>exact .lR d off ad val (q1 _ TK) (λj c hj=>by rw[hkp.cell (by rw[kK];exact TK)];grind) (λj c hj=>(hd j c hj).mono hkp q1)|lQ o e i off len cap sz ad hx=>exact .lQ o e i off len cap sz ad hx|sh o e len cap sz a hx=>exact .sh o e len cap sz a hx|emp a=>exact .emp a|kr n es a hn hd=>exact .kr n es a hn (hd.mono hkp q1)|fn f fs cs va vc hl hm _ _ ih ih'=>exact .fn f fs cs va vc hl hm ih ih'|de t x v _ ih=>exact .de t x v ih|agg cs vs hl _ ih=>exact .agg cs vs hl ih|gM cs vs hl _ ih=>exact .gM cs vs hl ih|gd c t v _ ih=>exact .gd c t v ih|mp o b l=>exact .mp o b l|rE o b l=>exact .rE o b l|uj o b l=>exact .uj o b l|ub e b h=>exact .ub e b h|sx o m r i len cap sz a hx=>exact .sx o m r i len cap sz a hx|pW j d c a hj hd=>exact .pW j d c a hj (hd.mono hkp q1)
   exact h3.le hle
  .rw[hu.wr];exact hp.ug o (t4 o (fL _ u))
  .rw[hu.dr,hp.dr];show o∈sF.dr
   grind
  .rw[hu.dr,hp.dr];show o∈sF.dr
   grind
 refine⟨VI.1,(VI.2 x r hF z.bh w vs al bl E q.bh akI acN agu).mono λe w' he=>?_⟩;cases e with
 |outgrown=>exact he.elim|returned v=>
  simp[ye]at he;split at he;rotate_left
  .exact he.elim
  rename_i hr';rw[hr']at h2;dsimp only at h2;split at h2
  .cases h2
  rename_i s2 hput;obtain⟨hlt,hk⟩|⟨_,hk⟩:=af h2
  rotate_left
  .cases hk
  grind[Nat.le_of_ble_eq_true]
 |panicked ch=>
  simp[ye]at he;split at he
  .exact he.elim
  rename_i p hp;obtain⟨v,rfl,he⟩:=he;rw[hp]at h2;dsimp only at h2;split at h2
  .cases h2
  rename_i s2 hput;split at h2;rotate_left
  .cases h2
  obtain⟨hlt,hk⟩|⟨_,hk⟩:=af h2
  rotate_left
  .cases hk
  let ⟨g5,k1,k2⟩:=core [.dat S.pt] ((p.1,()),p.2) s2 hput (gN hlt) v w' he
  exact⟨v,_,_,g5,rfl,hk,k1,k2⟩
end
section
structure rz(s s':aY S):Prop where
 ug:∀o∈s.wr,o∈s'.wr
 same:∀o,o<s.aE->o∉s'.wr->s'.ob.get o=s.ob.get o
 dr:s'.dr=s.dr
theorem rz.refl(s:aY S):rz s s:=⟨λ_ h=>h,λ_ _ _=>rfl,rfl⟩
variable {s s':aY S}{v:V S}{c:Bool}{E:fX}
def cP.kQ{g g':Gh}{w w':World}(hs:aV g (aB s) w)(h1:aV g' (aB s') w')(h2:Ext s.fl g w g' w')(h3:s'.fl=s.fl)(h4:s'.lo=s.lo)(h5:s.aE<=s'.aE)(h6:rz s s'):cP [] s g w s' g' w':=
 ⟨h1,h2.Iu _,h3,h4,h5,h6.ug,h6.same,λ_ _ b _=>b.ext h2 hs.bh,λo a=>(by cases a),λo a=>h6.dr▸a,λo a=>(by cases a)⟩
theorem cP.refl{g:Gh}{w:World}{s:aY S}(hs:aV g (aB s) w):cP [] s g w s g w:=
 cP.kQ hs hs (Ext.refl _ _ _) rfl rfl (eM _) (rz.refl _)
def js(s:aY S)(ob:u9 S)(hn:s.aE<bC):rz s (dh s ob):=
 ⟨λ_ h=>h,λo a _=>by simp[dh];rw[Tr.aR _ _ _ _ hn,bL (by omega)],rfl⟩
def mo{os:L Nat}(h:dU s os=Z s'):rz s s':=by
 let ⟨_,_,_,h1,h2,_,h3⟩:=eE h
 exact⟨h1,λo _ a=>h2 o a,h3⟩
def pz(s:aY S)(o:Nat)(ob:u9 S):rz s {s with ob:=s.ob.set aK o ob,wr:=o::s.wr}:=
 ⟨λ_ h=>g7 _ h,λk _ a=>Tr.dA _ _ _ _ _ (λe=>a (by simp_all)),rfl⟩
def rz.trans'{a:aY S}(h:rz s s')(hn:s.aE<=s'.aE)(k:rz s' a):rz s a:=
 ⟨λo c=>k.ug o (h.ug o c),λo c b=>(k.same o (iO c hn) b).trans (h.same o c (λd=>b (k.ug o d))),k.dr.trans h.dr⟩
theorem Qb{i:TI}{s s':aY S}{a x v:V S}{c:Bool}(h:Fi i s a x=Z (c,v,s')):rz s s':=by
 unfold Fi at h;split at h
 .cases h
 .split at h
  .split at h
   .obtain ⟨_,h⟩|⟨_,h⟩:=af h
    .obtain ⟨_,_,rfl⟩:=h;exact pz _ _ _
    .cases h
   .cases h
  .split at h
   .split at h
    .split at h
     .rename_i b;split at h
      .split at h
       .obtain ⟨_,h⟩|⟨_,h⟩:=af h
        .obtain ⟨_,_,rfl⟩:=h;exact(mo b).trans' (Ds (eE b).2.2.1.symm) (pz _ _ _)
        .cases h
       .cases h
      .cases h
     .cases h
    .cases h
   .cases h
  .cases h
def Fo{i:TI}{τ:O Ty}{x:V S}{l h m:O (V S)}(a:v5 i τ s x l h m=Z (c,v,s')):s'=s∨dU s (NL x)=Z s':=by
 unfold v5 at a
 repeat' split at a
 all_goals first
  |(cases a;done)
  |(
    simp only[gK,fh]at a;obtain⟨_,_,rfl⟩:=a;first|exact .inl rfl|(right;assumption))
def XU{fr:bX S}{o:Op}(h:cF E fr s o=Z (c,v,s')):rz s s':=by
 have same:s'=s->rz s s':=λe=>e▸rz.refl _;cases o with
 |alloc t=>
  simp[cF]at h;split at h
  .obtain ⟨g,h⟩|⟨_,h⟩:=af h
   .obtain ⟨_,_,rfl⟩:=h
    simp_all[js]
   .cases h
  .cases h
 |box t x=>
  simp[cF]at h;split at h
  .obtain ⟨g,h⟩|⟨_,h⟩:=af h
   .simp only[fM,fh]at h;obtain⟨_,_,_,_,rfl⟩:=h
    simp_all[js]
   .cases h
  .cases h
 |buildSlice t n i=>
  simp only[cF]at h;split at h
  .split at h
   .obtain ⟨_,h⟩|⟨_,h⟩:=af h
    .split at h
     .simp only[fM,fh]at h;obtain⟨j,d,_,_,rfl⟩:=h;exact mo d
     .cases h
    .cases h
   .cases h
  .cases h
 |store t x y=>
  grind[cF,Qb]
 |slice t x lo l m=>
  simp[cF]at h;split at h
  .obtain rfl|h:=Fo h
   .grind
   .exact mo h
  .cases h
 |move x=>simp only[cF,fM,fh]at h;grind|assign x=>simp only[cF,fM,fh]at h;grind|pick x y z=>
  simp[cF]at h;split at h
  .simp only[fM,fh]at h
   grind
  .cases h
 |build t i=>
  simp[cF]at h;split at h
  .split at h
   .simp only[fM,fh]at h
    grind
   .cases h
  .cases h
 |load t x=>
  simp[cF]at h;split at h
  .unfold yO at h;split at h
   .split at h
    .obtain ⟨_,h⟩|⟨_,h⟩:=af h
     .simp only[fM,fh]at h
      grind
     .cases h
    .cases h
   .simp only[fM,fh]at h
    grind
   .split at h
    .simp at h
     grind
    .cases h
   .cases h
  .cases h
 |nilCheck x=>
  simp[cF]at h
  grind
 |binOp op t x y u=>
  simp[cF]at h;split at h
  .simp only[fM,fh]at h
   grind
  .cases h
 |unOp op t x=>
  simp[cF]at h;split at h
  .simp only[fM,fh]at h
   grind
  .cases h
 |convert t u x=>
  grind[cF,CI]
 |makeInterface t x=>
  simp[cF]at h
  grind
 |makeFunc f a b=>
  simp[cF]at h
  grind
 |extract x k=>
  grind[cF,uN]
 |fieldAddr t x k=>
  grind[cF,qU]
 |field t x k=>
  simp[cF]at h;split at h
  .unfold Cw at h;split at h
   .split at h
    .obtain ⟨_,h⟩|⟨_,h⟩:=af h
     .simp only[fM,fh]at h
      grind
     .cases h
    .cases h
   .cases h
  .cases h
 |indexAddr t x y=>
  simp[cF]at h;split at h
  .unfold j6 at h;split at h
   .grind
   .have:=DY h
    grind
   .cases h
  .cases h
 |index t x y=>
  simp[cF]at h;split at h
  .unfold Cn at h
   grind
  .cases h
 |typeAssert x t u ok=>
  grind[cF,xd]
 |_=>simp[cF]at h
def IP{b:Builtin}{d:Array TypeId}{args:L (V S)}(h:ie E s b d args=Z (c,v,s')):rz s s':=by
 unfold ie at h;split at h
 .split at h
  .split at h
   .obtain ⟨_,_,rfl⟩:=h;exact rz.refl _
   .cases h
  .split at h
   .simp only[fM,fh]at h;obtain⟨_,_,_,_,rfl⟩:=h;exact rz.refl _
   .cases h
  .cases h
 .split at h
  .split at h
   .split at h
    .obtain ⟨_,h⟩|⟨e,h⟩:=af h
     .cases h
     .have a:s.aE<bC:=by
       have:Nt s.aE bC=W:=by simpa using e
       exact gN this
      split at h
      .split at h
       .obtain ⟨_,_,rfl⟩:=h;exact js _ _ a
       .split at h
        .split at h
         .obtain ⟨_,_,rfl⟩:=h;exact js _ _ a
         .obtain ⟨_,_,rfl⟩:=h;exact rz.refl _
        .cases h
       .split at h
        .split at h
         .obtain ⟨_,h⟩|⟨_,h⟩:=af h
          .obtain ⟨_,_,rfl⟩:=h;exact pz _ _ _
          .cases h
         .cases h
        .cases h
       .cases h
      .cases h
    .cases h
   .cases h
  .cases h
 .cases h
end
section
section
variable {g:Gh}{w w':World}
variable {s:St}{o b c:Nat}{ob:Ob}{kt:Ty}{u z:Value}{ms:Array MapEntry}
def aV.setObj(hs:aV g s w)(n:g.bP o=Z b){ob':Ob}(l:s.ob.get o=Z ob)(p:ob.odd=W)(v:s.fl<=o){x':Obj}(C:gS g w ob' x')
  (y:w'.heap.size=w.heap.size) (c:∀d,d≠b->w'.heap[d]?=w.heap[d]?) (q:w'.heap[b]?=Z x') (z:w'.os=w.os) (r:w'.output=w.output) :
  aV g {s with ob:=s.ob.set aK o ob'} w'∧Ext s.fl g w g w':=by
 have f:bz g o b:=⟨(hs.box o b n).1,.inl n⟩;have m:o<bC:=iO (hs.lt n) hs.aE;have u:Ext s.fl g w g w':=
  ⟨λ_ _ h=>h,λ_ _ _ h=>h,λ_ h=>h,by omega,λd _ E=>c d (λe=>E o v (e▸f)),λ_ _ h=>.inl h,λ_ h=>.inl h,z,r⟩
 refine⟨⟨hs.aE,hs.ah,λj d a=>?_,λj e x A=>?_,λd a=>by have:=hs.bh d a;omega,hs.jS⟩,u⟩
 .by_cases i:j=o
  .subst i;rw[n]at a;simp at a;subst a
   let ⟨h1,h2,_⟩:=hs.box j b n
   refine⟨h1,by omega,λF k=>⟨x',q,?_⟩⟩;rw[Tr.aR _ _ _ _ m,bw rfl]at k;obtain rfl:=jT k;exact C.ext u hs.bh
  .have B:d≠b:=λe=>i (hs.jS j o b (e▸⟨(hs.box j d a).1,.inl a⟩) f);exact(hs.box j d a).ext u hs.bh (c d B) (by simp;rw[Tr.aR _ _ _ _ m,bL i]) (hs.box j d a).1
 .have i:j≠o:=by
   rintro rfl
   have h4:=((hs.arr j e x A).2 _ l).oe;cases ob<;>first|(cases p;done)|(cases h4;done)
  refine(hs.arr j e x A).ext u hs.bh (λd a I=>⟨c d ?_,vO⟩) (by simp;rw[Tr.aR _ _ _ _ m,bL i]) rfl
  rintro rfl
  by_cases t:g.bh d
  .exact f.1 t
  .exact i (hs.jS j o d ⟨t,.inr ⟨e,x,_,A,a,rfl,I⟩⟩ f)
def aV.anj(hs:aV g s w)(m:g.bP o=Z b)(l:s.ob.get o=Z ob)(n:ob.odd=W)(r:s.fl<=o)
  (t:w'.heap.size=w.heap.size) (c:∀d,d≠b->w'.heap[d]?=w.heap[d]?) (u:w'.os=w.os) (p:w'.output=w.output) :
  aV g {s with ob:=s.ob.del aK o} w'∧Ext s.fl g w g w':=by
 have f:bz g o b:=⟨(hs.box o b m).1,.inl m⟩;have B:o<bC:=iO (hs.lt m) hs.aE;have ef:∀k,(s.ob.del aK o).get k=if k=o then Y else s.ob.get k:=λk=>Tr.rV _ _ _ _ (by grind[aK,bC])
 have v:Ext s.fl g w g w':=
  ⟨λ_ _ h=>h,λ_ _ _ h=>h,λ_ h=>h,by omega,λd _ C=>c d (λe=>C o r (e▸f)),λ_ _ h=>.inl h,λ_ h=>.inl h,u,p⟩
 refine⟨⟨hs.aE,hs.ah,λj d a=>?_,λj e x y=>?_,λd a=>by have:=hs.bh d a;omega,hs.jS⟩,v⟩
 .by_cases i:j=o
  .subst i;rw[m]at a;simp at a;subst a
   let ⟨h1,h2,_⟩:=hs.box j b m
   refine⟨h1,by omega,λE A=>?_⟩
   simp_all
  .have z:d≠b:=λe=>i (hs.jS j o b (e▸⟨(hs.box j d a).1,.inl a⟩) f);exact(hs.box j d a).ext v hs.bh (c d z) (by simp;rw[ef,bL i]) (hs.box j d a).1
 .have i:j≠o:=by
   rintro rfl
   have h4:=((hs.arr j e x y).2 _ l).oe;cases ob<;>first|(cases n;done)|(cases h4;done)
  refine(hs.arr j e x y).ext v hs.bh (λd a F=>⟨c d ?_,vO⟩) (by simp;rw[ef,bL i]) rfl
  rintro rfl
  by_cases q:g.bh d
  .exact f.1 q
  .exact i (hs.jS j o d ⟨q,.inr ⟨e,x,_,y,a,rfl,F⟩⟩ f)
def e9:(kt:Ty)->den S.A kt->Value
 |.int k,n=>.int k n|.bool,b=>.bool b|.str,s=>.string (bZ s)|_,_=>undef
def ir:Ty->TypeDesc->Prop
 |.int k,d=>d=.int k|.bool,d=>d=.bool|.str,d=>d=.string|_,_=>False
def qQ{v:V S}{k:den S.A kt}(h:Vu kt v=Z k)(c:aH g w (low v) u):u=e9 kt k:=by
 cases kt with
 |int j=>
  let ⟨p,b,a⟩:=gu (show iu j v=Z k from h)
  exact dS b a c
 |bool=>
  let ⟨p,b,a⟩:=mu (show jk v=Z k from h)
  exact jl b a c
 |str=>
  let ⟨p,b,a⟩:=lA (show vZ v=Z k from h)
  exact iG b a c
 |_=>cases h
def Tz{k:den S.A kt}{d:TypeDesc}(a:ir kt d)(b:aH g w (ec S kt k) u):u=e9 kt k:=by
 cases kt with
 |int j=>cases b with|sym _ _ a=>cases a;rfl
 |bool=>cases b with|sym _ _ a=>cases a;rfl
 |str=>cases b with|sym _ _ a=>cases a;rfl
 |_=>cases a
def ab5{k:den S.A kt}{d:TypeDesc}(a:ir kt d):aH g w (ec S kt k) (e9 kt k):=by cases kt with|int j=>exact .sym _ _ (.lit _)|bool=>exact .sym _ _ (.lit _)|str=>exact .sym _ _ (.lit _)|_=>cases a
def MY{d:TypeDesc}(c:ir kt d)(a b:den S.A kt):Instr.sameNow d (e9 kt a) (e9 kt b)=Z (Gv kt a b):=by
 cases kt with
 |int j=>cases c;simp[Instr.sameNow,e9,Gv,aa]
 |bool=>cases c;rfl
 |str=>
  cases c;have:=BT a b
  grind[Um,Instr.sameNow,e9,Gv]
 |_=>cases c
theorem KB{kt:Ty}{d:TypeDesc}(c:ir kt d){a b:den S.A kt}(h:Gv kt a b=W)(n:Nat):Instr.sameBits n (e9 kt b) (e9 kt a)=W:=by
 cases kt with
 |int j=>
  have:a=b:=by simpa[Gv,aa]using h
  subst this;cases n<;>simp[Instr.sameBits,e9]
 |bool=>
  have:a=b:=by simpa[Gv,o8]using h
  subst this;cases n<;>simp[Instr.sameBits,e9]
 |str=>
  have:a=b:=by simpa[Gv,gp]using h
  subst this;have e:(bZ a==bZ a)=W:=by
   have:=BT a a
   grind[Um,gp]
  cases n<;>simp[Instr.sameBits,e9,e]
 |_=>cases c
def DG{A:Nat->Type}{β:Type}(kt:Ty)(k:den A kt):L (den A kt×β)->O Nat
 |[]=>Y|p::l=>bif Gv kt k p.1 then Z 0 else(DG kt k l).map Ns
def Gz{β:Type}{kt:Ty}{k:den S.A kt}:∀{l:L (den S.A kt×β)},DG kt k l=Y->(∀z,ET kt z k l=z)∧GK kt k l=J∧∀x,iX kt k x l=l++[(k,x)]
 |[],_=>⟨λ_=>rfl,rfl,λ_=>rfl⟩|p::l,h=>by
  simp[DG]at h;cases a:Gv kt k p.1 with
  |true=>simp_all|false=>
   rw[a]at h;obtain⟨h1,h2,h3⟩:=Gz (l:=l) (by simpa using h)
   grind[ET,GK,iX]
def wE{β:Type}{kt:Ty}{k:den S.A kt}:∀{l:L (den S.A kt×β)}{j:Nat},DG kt k l=Z j->∃p,l[j]?=Z p∧Gv kt k p.1=W∧(∀z,ET kt z k l=p.2)∧GK kt k l=W∧∀x,iX kt k x l=l.set j (k,x)
 |[],j,h=>by cases h
 |p::l,j,h=>by
  simp[DG]at h;cases a:Gv kt k p.1 with
  |true=>rw[a]at h;simp at h;subst h;exact⟨p,rfl,a,λz=>by simp[ET,a],by simp[GK,a],λx=>by simp[iX,a]⟩
  |false=>
   rw[a]at h;simp only[jo,fM]at h;obtain⟨i,b,rfl⟩:=h
   let ⟨q,h1,h2,h3,h4,h5⟩:=wE b
   exact⟨q,by simpa using h1,h2,λz=>by simp[ET,a,h3],by simp[GK,h4],λx=>by simp[iX,a,h5]⟩
def TW{β:Type}{kt:Ty}{k:den S.A kt}:∀{l:L (den S.A kt×β)},LA kt k l=match DG kt k l with|some j=>l.eraseIdx j|none=>l
 |[]=>rfl|p::l=>by simp only[LA,DG];cases a:Gv kt k p.1 with|true=>rfl|false=>simp only[jo,TW (l:=l)];cases DG kt k l<;>rfl
def yP{β:Type}{kt:Ty}{d:TypeDesc}(b:ir kt d)(k:den S.A kt):∀(l:L (den S.A kt×β))(es:L MapEntry)(i:Nat),es.length=l.length->
  (∀(j:Nat)p m,l[j]?=Z p->es[j]?=Z m->m.key=e9 kt p.1)->Instr.findNow d (e9 kt k) es i=Z ((DG kt k l).bind λj=>(es[j]?).map λm=>(i+j,m.val))
 |[],[],i,_,_=>rfl|p::l,m::es,i,a,c=>by
  simp[Instr.findNow,c 0 p m rfl rfl,MY b];cases e:Gv kt k p.1 with
  |true=>simp[DG,e]|false=>
   rw[yP b k l es (i+1) (by simpa using a) (λj f g h1 h2=>c (j+1) f g (by simpa using h1) (by simpa using h2))];simp only[DG,e,jo];cases DG kt k l with
   |none=>rfl|some j=>
    simp
    congr 1
    funext m
    rw[Nat.add_assoc,Nat.add_comm 1 j]
 |[],_::_,_,a,_=>by simp at a
 |_::_,[],_,a,_=>by simp at a
variable {P:Program}
def Iy{d:TypeDesc}(a:ir kt d){t:TypeId}(c:P.underlying t=Z d)(b:Bool)(n:Nat)(v:Value)(w:World):(Instr.checkKey b (n+1) t v).run P w=.ok () w:=by
 cases kt with
 |int j=>cases a;simp_all[Instr.checkKey,aJ]
 |bool=>cases a;simp_all[Instr.checkKey,aJ]
 |str=>cases a;simp_all[Instr.checkKey,aJ]
 |_=>cases a
def run_checkKey{d:TypeDesc}(a:ir kt d){t:TypeId}(c:P.underlying t=Z d)(b:Bool)(v:Value)(w:World):(Instr.checkKey b 10000 t v).run P w=.ok () w:=
 Iy a c b 9999 v w
def run_findKey{β:Type}{d:TypeDesc}(a:ir kt d){t:TypeId}(c:P.underlying t=Z d)(k:den S.A kt){l:L (den S.A kt×β)}{es:L MapEntry}(hl:es.length=l.length)
  (b:∀(j:Nat)p m,l[j]?=Z p->es[j]?=Z m->m.key=e9 kt p.1) (w:World) :
  (Instr.findKey t (e9 kt k) es).run P w=.ok ((DG kt k l).bind λj=>(es[j]?).map λm=>(j,m.val)) w:=by
 have:=yP a k l es 0 hl b
 simp_all[Instr.findKey,aJ]
def nw(h:w.heap[b]?=Z (.map ms c)):(getObj b).run P w=.ok (.map ms c) w:=by simp[getObj,Sem.run,h]
def ur(o:Obj)(h:w.heap[b]?=Z (.map ms c)):(setObj b o).run P w=.ok () {w with heap:=w.heap.setIfInBounds b o}:=by simp[setObj,Sem.run,h]
def zg{β:Type}{d:TypeDesc}(f:ir kt d){t a e:TypeId}{g:TypeInfo}(q:P.underlying t=Z (.map a e))(i:P.underlying a=Z d)(hi:P.info? e=Z g)(n:g.zero=Z z)
  (k:den S.A kt) {l:L (den S.A kt×β)} {b c:Nat} {ms:Array MapEntry} (h:w.heap[b]?=Z (.map ms c)) (hl:l.length=ms.size) (r:∀(j:Nat)p m,l[j]?=Z p->ms[j]?=Z m->m.key=e9 kt p.1) (ok:Bool) :
  (Instr.lookup t (.map (Z b)) (e9 kt k) ok).run P w=.ok (match(DG kt k l).bind λj=>(ms[j]?).map (·.val)with
   |some v=>if ok then .tuple #[v,.bool W]else v|none=>if ok then .tuple #[z,.bool J]else z) w:=by
 have s:=run_findKey (P:=P) f i k (l:=l) (es:=ms.toList) (by grind) (λj p m h1 h2=>r j p m h1 (by simpa using h2)) w;simp only[Instr.lookup,run_bind,aJ q,andThen_ok,nw h,run_checkKey f i,s,run_pure];cases u:DG kt k l with
 |none=>simp[ej hi n]|some j=>
  cases o:ms[j]? with|none=>simp[o,ej hi n]|some m=>simp[o]
def Fx{d:TypeDesc}(b:ir kt d){t a e:TypeId}{c:TypeInfo}(g:P.underlying t=Z (.map a e))(f:P.underlying a=Z d)(hi:P.info? e=Z c)(h:c.zero=Z z)
  (k:den S.A kt) (ok:Bool):(Instr.lookup t (.map Y) (e9 kt k) ok).run P w=.ok (if ok then .tuple #[z,.bool J]else z) w:=by
 have i:=run_findKey (P:=P) (β:=U) b f k (l:=[]) (es:=[]) rfl (λj p m h1=>by simp at h1) w;simp only[Instr.lookup,run_bind,aJ g,andThen_ok,run_checkKey b f,run_pure]
 simp_all[ej]
end
end
section
section
variable {g:Gh}{w w':World}{P:Program}
def Ey{β:Type}(kt:Ty)(R:β->Value->Prop)(l:L (den S.A kt×β))(ms:Array MapEntry):Prop:=
 l.length=ms.size∧∀(j:Nat)p m,l[j]?=Z p->ms[j]?=Z m->m.key=e9 kt p.1∧R p.2 m.val
variable {kt kt':Ty}{ms:Array MapEntry}
def yH{β:Type}{R:β->Value->Prop}{d:TypeDesc}(r:ir kt d){t a e:TypeId}(z:P.underlying t=Z (.map a e))(s:P.underlying a=Z d)
  (k:den S.A kt) {l:L (den S.A kt×β)} {b c:Nat} {ms:Array MapEntry} (h:w.heap[b]?=Z (.map ms c)) (C:Ey kt R l ms) {x:β} {v:Value} (hx:R x v) :
  ∃g E,(Instr.mapUpdate t (.map (Z b)) (e9 kt k) v).run P w=.ok () {w with heap:=w.heap.setIfInBounds b (.map g E)}∧Ey kt R (iX kt k x l) g:=by
 let ⟨hl,F⟩:=C
 have A:=run_findKey (P:=P) r s k (l:=l) (es:=ms.toList) (by grind) (λj p m h1 h2=>(F j p m h1 (by simpa using h2)).1) w;cases f:DG kt k l with
 |none=>
  let ⟨_,_,o⟩:=Gz f
  rw[f]at A;refine⟨ms.push {key:=e9 kt k,val:=v,born:=c},c+1,?_,by simp_all,λj p m h1 h2=>?_⟩
  .simp[Instr.mapUpdate,run_bind,aJ z,andThen_ok,nw h,run_checkKey r s,A,Option.bind_none,ur _ h]
  grind
 |some i=>
  let ⟨p,hp,I,_,_,o⟩:=wE f
  have K:i<ms.size:=by grind
  obtain⟨m,hm⟩:∃m,ms[i]?=Z m:=⟨ms[i],uy K⟩;have u:(Instr.findKey a (e9 kt k) ms.toList).run P w=.ok (Z (i,m.val)) w:=by
   simp_all
  refine⟨ms.modify i λe=>{e with key:=e9 kt k,val:=v},c,?_,by simp_all,λj q n h1 h2=>?_⟩
  .have hsb:Instr.sameBits 10000 m.key (e9 kt k)=W:=by grind[KB]
   have y:(Instr.keyThatStays m.key (e9 kt k)).run P w=.ok (e9 kt k) w:=by
    simp_all[Instr.keyThatStays]
   simp[Instr.mapUpdate,run_bind,aJ z,andThen_ok,nw h,run_checkKey r s,u,hm,jA,Qz,y,ur _ h]
  grind
def Ql{β:Type}{R:β->Value->Prop}{d:TypeDesc}(u:ir kt d){t a e:TypeId}(y:P.underlying t=Z (.map a e))(v:P.underlying a=Z d)
  (k:den S.A kt) {l:L (den S.A kt×β)} {b c:Nat} {ms:Array MapEntry} (h:w.heap[b]?=Z (.map ms c)) (C:Ey kt R l ms) {ts:Array TypeId} (f:ts[0]?=Z t) {ty:TypeId} {args:Array Value} (g:args[0]?=Z (.map (Z b))) (o:args[1]?=Z (e9 kt k)) :
  ∃r,(Builtin.delete_ ts ty args).run P w=.ok (.tuple #[]) {w with heap:=w.heap.setIfInBounds b (.map r c)}∧Ey kt R (LA kt k l) r:=by
 let ⟨E,z⟩:=C
 have A:=run_findKey (P:=P) u v k (l:=l) (es:=ms.toList) (by grind) (λj p m h1 h2=>(z j p m h1 (by simpa using h2)).1) w;rw[TW];cases s:DG kt k l with
 |none=>rw[s]at A;refine⟨ms,?_,E,z⟩;simp[Builtin.delete_,run_bind,f,g,o,aJ y,andThen_ok,nw h,run_checkKey u v,A,Option.bind_none,ur _ h,run_pure]|some i=>
  let ⟨p,F,_⟩:=wE s
  have B:i<ms.size:=by grind
  have x:(Instr.findKey a (e9 kt k) ms.toList).run P w=.ok (Z (i,ms[i].val)) w:=by
   simp_all
  refine⟨ms.eraseIdxIfInBounds i,?_,?_,λj q n h1 h2=>?_⟩
  .simp[Builtin.delete_,run_bind,f,g,o,aJ y,andThen_ok,nw h,run_checkKey u v,x,ur _ h,run_pure]
  .simp only[Array.eraseIdxIfInBounds,B,dite_true,Array.size_eraseIdx,List.length_eraseIdx]
   grind
  .simp only[Array.eraseIdxIfInBounds,B,dite_true,Array.getElem?_eraseIdx,List.getElem?_eraseIdx]at h1 h2
   grind
def gS.MM{β:Type}{d:TypeDesc}(a:ir kt d){f:β->T}{l:L (den S.A kt×β)}{x:Obj}(h:gS g w (.map (l.map λp=>(ec S kt p.1,f p.2))) x) :
  ∃ms c,x=.map ms c∧Ey kt (λy v=>aH g w (f y) v) l ms:=by
 cases h with|map _ ms c b e=>refine⟨ms,c,rfl,by simpa using b,λj p m h1 h2=>?_⟩;have:=e j (ec S kt p.1,f p.2) m (by simp[h1]) h2;exact⟨Tz a this.1,this.2⟩
def Ey.ob{β:Type}{d:TypeDesc}(a:ir kt d){f:β->T}{l:L (den S.A kt×β)}(h:Ey kt (λy v=>aH g w (f y) v) l ms)(c:Nat):gS g w (.map (l.map λp=>(ec S kt p.1,f p.2))) (.map ms c):=by
 refine .map _ ms c (by simpa using h.1) λj t m h1 h2=>?_;simp only[kV,fM]at h1;obtain⟨p,b,rfl⟩:=h1
 let ⟨h3,h4⟩:=h.2 j p m b h2
 rw[h3];exact⟨ab5 a,h4⟩
def RU(S:Sg)(i:TI)(τ:Ty):Prop:=bif kF τ then D.agg i.zero=enc S τ (S.zero τ)else i.zero=[enc S τ (S.zero τ)]
def I2{I:Nat->Prop}(q:fc S){t:TypeId}{i:TI}(hi:m7 P t i){τ:Ty}(r:yZ S i τ)(d:RU S i τ){x:TypeInfo}{z:Value}(s:P.info? t=Z x)(f:x.zero=Z z):dH I w (enc S τ (S.zero τ)) z:=by
 let ⟨A,d0,B,g,C,_,y,h,a,_⟩:=hi.all
 rw[s]at g;cases g;rw[f]at h;cases h
 let ⟨m,o⟩:=hi.zag x z s f
 unfold RU at d;cases b:kF τ with
 |true=>
  rw[b,gY]at d;have k:i.agg=W:=by cases τ with|st n=>exact r.1|_=>cases b
  obtain⟨E,rfl⟩:=m k;rw[<-d];refine .agg _ _ a.1 (λc u=>?_) (λj c v h1 h2=>BO (a.2 j c v h1 h2));cases τ with
  |st n=>
   have e:i.zero=S.cells n (S.zero (.st n)):=by have:D.agg i.zero=D.agg (S.cells n (S.zero (.st n))):=d;injection this
   rw[e,q.cells]at u;exact ic _ _ (q.leaf n) c u
  |_=>cases b
 |false=>
  rw[b,jo]at d;have l:i.agg=J:=by
   cases τ with
   |st n=>cases b
   |_=>exact r.2.1
  have p:=o l;have:=a.2 0 _ z (by rw[d];rfl) (by rw[p];rfl);exact BO this
structure XOk(S:Sg)(E:fX):Prop where
 zr:∀t i τ,E.E.ti t=Z i->E.ty t=Z τ->RU S i τ
 mt:∀t m,E.mt t=Z m->∃kid d,E.E.P.underlying t=Z (.map kid m.el)∧E.E.P.underlying kid=Z d∧ir m.kt d∧(∃x z,E.E.P.info? m.el=Z x∧x.zero=Z z)∧
  ∀vt,m.vt=Z vt->E.ty m.el=Z vt∧∃i,E.E.ti m.el=Z i
 KT:∀t nm f,E.KT t nm=Z f->∃x mm d,E.E.P.info? t=Z x∧x.methods.find? (·.name==nm)=Z mm∧mm.path=#[]∧E.E.P.underlying t=Z d∧
  ((mm.func=Z (f,J)∧∀e,d≠.pointer e)∨(mm.func=Z (f,W)∧∃e,d=.pointer e))
def cS{fr:bX S}{a:Act}(hf:cR g (bB fr) a w){x:Operand}{v:V S}(h:cA fr x=Z v):aH g w (low v) (a.eval x):=bR hf (cz h)
def Hv{b a:Ty}{l:L (den S.A kt×den S.A b)}{c:L (den S.A kt'×den S.A a)}(h:yT kt b kt' a l=Z c):kt=kt'∧b=a∧HEq l c:=by
 unfold yT at h
 grind
def Hx{β:Type}{l:L (den S.A kt×β)}{a:L (den S.A kt'×β)}(h:JY kt kt' l=Z a):kt=kt'∧HEq l a:=by
 unfold JY at h
 grind
def EI{w:World}{b:Nat}(x:Obj)(c:b<w.heap.size):({w with heap:=w.heap.setIfInBounds b x}:World).heap.size=w.heap.size∧(∀a,a≠b->({w with heap:=w.heap.setIfInBounds b x}:World).heap[a]?=w.heap[a]?)∧
  ({w with heap:=w.heap.setIfInBounds b x}:World).heap[b]?=Z x:=by
 grind
def Gn{β:Type}{f:β->T}{k:den S.A kt}{l:L (den S.A kt×β)}(b:Ey kt (λy v=>aH g w (f y) v) l ms){z:β}{c:Value}(h:aH g w (f z) c) :
  aH g w (f (ET kt z k l)) (((DG kt k l).bind λj=>(ms[j]?).map (·.val)).getD c)∧(((DG kt k l).bind λj=>(ms[j]?).map (·.val)).isSome=GK kt k l):=by
 cases a:DG kt k l with
 |none=>
  let ⟨h1,h2,_⟩:=Gz a
  rw[h1,h2];exact⟨h,rfl⟩
 |some j=>
  let ⟨p,d,_,h1,h2,_⟩:=wE a
  rw[h1,h2];have i:j<ms.size:=by rw[<-b.1];exact cw d
  have e:ms[j]?=Z ms[j]:=uy i;simp[S9,e,jA,Qz,Option.isSome_some,and_true];exact(b.2 j p _ d e).2
end
end
section
def CC:∀(l:L (TypeId×Ty))(x:yu S.A l),isNil l x=(uR S l x).isNone
 |[],_=>rfl|_::_,.inl _=>rfl|_::l,.inr y=>CC l y
def Hh:∀(l:L (TypeId×Ty))(t:TypeId)(j:Nat)(x:yu S.A l)(z:(t:Ty)->den S.A t),O7 l=W->xj l t=Z j->
  (mj l j x=W∧uR S l x=Z (t,enc S (nh l j) (ke z l j x)))∨(mj l j x=J∧ke z l j x=z (nh l j)∧∀d,uR S l x≠Z (t,d))
 |[],t,j,x,z,_,h=>by cases h
 |p::l,t,j,x,z,e,h=>by
  simp only[O7,eZ]at e;obtain⟨a,h⟩|⟨a,h⟩:=af h
  .simp at h;subst h;have b:=vQ a;cases x with
   |inl y=>left;exact⟨rfl,by simp only[uR,b];rfl⟩
   |inr y=>
    right
    refine⟨rfl,rfl,λd f=>?_⟩;simp[uR]at f;have c:xj l p.1=Y:=by
     simp_all
    exact CA l y p.1 c d (by grind)
  .split at h
   .rename_i i k;simp only[gK]at h;subst h;cases x with
    |inl y=>
     right
     refine⟨rfl,rfl,λd f=>?_⟩
     grind[uR]
    |inr y=>
     obtain⟨h1,h2⟩|⟨h1,h2,h3⟩:=Hh l t i y z e.2 k
     .exact .inl ⟨h1,h2⟩
     .exact .inr ⟨h1,h2,h3⟩
   .cases h
where
 CA:∀(l:L (TypeId×Ty))(x:yu S.A l)(t:TypeId),xj l t=Y->∀d,uR S l x≠Z (t,d)
  |[],_,_,_,_,h=>by cases h
  |p::l,.inl y,t,g,d,h=>by
   simp_all[xj,uR]
  |p::l,.inr y,t,g,d,h=>by
   simp only[xj]at g;cases a:Nq p.1 t with
   |true=>simp_all|false=>
    refine CA l y t ?_ d h
    grind
section
variable {g:Gh}{w:World}{P:Program}
def EV(e:fc S){n:Nat}{x:S.A n}{v:Value}(h:aH g w (ec S (.de n) x) v) :
  (uR S (S.alts n) (S.uK n x)=Y∧v=.nilIface)∨∃t d u,uR S (S.alts n) (S.uK n x)=Z (t,d)∧v=.iface t u∧dH g.bh w d u:=by
 have b:aH g w (.sym (PL (S.rT n x))) v:=h;rw[e.rT]at b;cases b with
 |sym _ _ a=>
  cases c:uR S (S.alts n) (S.uK n x)with
  |none=>
   rw[c]at a;cases a
   simp_all
  |some p=>
   rw[c]at a
   let ⟨t,d⟩:=p
   cases a with|de _ _ u f=>grind
variable {s:aY S}
def KW(hs:aV g (aB s) w)(hn:s.aE<bC){t:TypeId}{r:O Value}{a el:TypeId}(f:P.underlying t=Z (.map a el))(d:∀v,r=Z v->∃k n,v=.int k n){ob:u9 S}(b:cW ob=.map []) :
  ∃v w' g',(Instr.makeMap t r).run P w=.ok v w'∧aH g' w' (low (.mp s.aE:V S)) v∧cP [] s g w (dh s ob) g' w':=by
 let ⟨c,e⟩:=hs.newObj (ob0:=.map []) (x0:=.map #[] 0) hn (.map [] #[] 0 rfl (λj t m h=>by simp at h))
 refine⟨.map (Z w.heap.size),_,_,?_,.mp _ _ (by simp[Gh.dD,aB]),cP.kQ hs (by rw[gV,b];exact c) e rfl rfl (Dr _) (js s ob hn)⟩;cases r with
 |none=>rfl|some v=>
  obtain⟨k,n,rfl⟩:=d v rfl
  simp_all[Instr.makeMap,aJ,asInt,asIntOf]
def Qu(hs:aV g (aB s) w)(hn:s.aE<bC){t:TypeId}(c:P.underlying t=Z .string)(b:L UInt8) :
  ∃v w' g',(Instr.range t (.string (bZ b))).run P w=.ok v w'∧aH g' w' (low (.uj s.aE:V S)) v∧cP [] s g w (dh s (.rD b 0)) g' w':=by
 let ⟨a,d⟩:=hs.newObj (ob0:=.rD (bZ b) 0) (x0:=.stringIter (bZ b) 0) hn (.rD _ _)
 refine⟨.pointer (Z ⟨w.heap.size,0,Y⟩),_,_,?_,.uj _ _ (by simp[Gh.dD,aB]),cP.kQ hs (by rw[gV];exact a) d rfl rfl (Dr _) (js s _ hn)⟩;simp[Instr.range,aJ c]
def Gk(hS:fc S)(hs:aV g (aB s) w)(hn:s.aE<bC){t:TypeId}{i:TI}(hi:m7 P t i){e:Ty}(hr:yZ S i (.sl e)){n:Int}(q:QT n=W)(k1 k2:IntKind) :
  ∃v w' g',(Instr.makeSlice t (.int k1 n) (.int k2 n)).run P w=.ok v w'∧aH g' w' (low (.sh s.aE 0:V S)) v∧cP [] s g w (dh s (.arr e (List.replicate (az n) (S.zero e)) 0)) g' w':=by
 let ⟨⟨z,r,hz⟩,_,_,u⟩:=hr
 let ⟨xi,d1,z1,N7,y,_,YY,hzx,Cq,hk⟩:=hi.all
 rw[r]at hk;obtain⟨el,j,d',p,rfl,hj,l,hju,agB,A,f,B,hj0,hjb1,hjb2,hjb3,C⟩:=hk;simp[QT,eZ,rF]at q;obtain⟨m,rfl⟩:∃m:Nat,n=(m:Int):=⟨n.toNat,by omega⟩;have hm:m<=17179869184:=by omega
 have hbm:j.bytes*m<=4096*17179869184:=Np B hm;have o:=run_make (P:=P) w t el j p y hj A k1 k2 (m:Int) (m:Int) (by omega) (Iz _) (by
  have:((j.bytes*m:Nat):Int)<=281474976710656:=by omega
  rwa [Int.natCast_mul]at this) (by omega)
 have E:(bif kF e then D.agg z else z.getD 0 default)=enc S e (S.zero e):=by
  grind
 have a:=MA (I:=g.bh) (w:=w.alloc (.cells (madeCells p.cells (m*j.size)) el)) (ag:=kF e) (sz:=S.width e) (len:=m) f (by
  cases hst:kF e with
  |true=>rfl|false=>
   simp_all) (by rw[bS];exact C)
 rw[E]at a;have F:(List.replicate m (S.zero e)).map (enc S e)=List.replicate m (enc S e (S.zero e)):=by simp
 let x:eY:=⟨Z ⟨w.heap.size,0,Y⟩,m,m,S.width e⟩
 have K:∀b,x.at b->b=w.heap.size:=by
  rintro b ⟨ad,h1,h2,_⟩
  grind
 have k:¬g.bh w.heap.size:=λh=>by have:=hs.bh _ h;omega
 let ⟨R,he⟩:=aV.QM (w':=w.alloc (.cells (madeCells p.cells (m*j.size)) el)) hs hn (sz:=S.width e) (es:=List.replicate m (enc S e (S.zero e))) (x:=x) rfl rfl (by simp) (λb hb=>qm w _ b hb)
  (λb hb=>by rw[K b hb];simp)
  ⟨by simp[x],eM _,a.rows,u,λd hd=>by
    have hde:=XE hd;rw[hde,Cz hS,List.length_replicate];have:m*zU S e<=17179869184*(2*4096):=Np hm (by omega);omega,λhc=>by
    refine⟨w.heap.size,madeCells p.cells (m*j.size),el,rfl,⟨λh=>(by cases h),λh=>absurd h k⟩,xZ w _,by rw[size_madeCells,l];grind,λi d jj c h1 h2=>?_⟩
    let ⟨v,h3,h4⟩:=a.rel i jj d c h1 h2
    refine⟨v,?_,h4⟩;rw[<-l]at h3 ⊢;exact h3⟩ rfl
 refine⟨_,_,_,o,.sh _ _ _ _ (S.width e) _ (Gh.fE _ _ _ _),cP.kQ hs ?_ he rfl rfl (Dr _) (js s _ hn)⟩;rw[gV];simp[cW,az,we,F];exact R
end
end
section
section
variable {g:Gh}{w:World}
variable {o n:Nat}{v:Value}{P:Program}{i:TI}{a:Act}{s s':aY S}{E:fX}{fr:bX S}{c:Bool}{t:V S}
def aH.GB(h:aH g w (.mp o) v):∃b,v=.map (Z b)∧g.bP o=Z b:=by cases h;simp_all
def aH.acq(h:aH g w (.uj o) v):∃b,v=.pointer (Z ⟨b,0,Y⟩)∧g.bP o=Z b:=by cases h;simp_all
def aH.afS{k:IntKind}{n:Int}(h:aH g w (.kn k n) v):v=.int k n:=by cases h;rfl
def aH.AX{u:Value}(h:aH g w (.sym (.lit u)) v):v=u:=by cases h with|sym _ _ a=>cases a;rfl
def aH.TA{cs:L T}(h:aH g w (.agg cs) v):∃vs,v=.agg vs∧PW (aH g w) cs vs.toList:=by cases h with|agg _ vs a b=>exact⟨vs,rfl,by simpa using a,λj t v h1 h2=>b j t v h1 (by simpa using h2)⟩
def Jb(P:Program)(d:Nat){ty:TypeId}{a:Array (String×TypeId)}(b:P.underlying ty=Z (.interface a)):(Op.equalIn (d+1) ty .nilIface .nilIface).run P w=.ok W w:=by simp only[Op.equalIn,run_bind,aJ b,andThen_ok];rfl
def UJ(P:Program)(d:Nat){ty e:TypeId}(b:P.underlying ty=Z (.slice e))(a:O Addr)(n m:Nat):(Op.equalIn (d+1) ty (.slice a n m) (.slice Y 0 0)).run P w=.ok a.isNone w:=by simp only[Op.equalIn,run_bind,aJ b,andThen_ok];cases a<;>rfl
def TC(f:fc S){t:TypeId}(hi:m7 P t i)(j:i.kd=.iface){x:S.A n}(h:aH g w (ec S (.de n) x) v)(a:Operand) :
  ((do eqGuard .eql t a (.const .nilIface) v .nilIface;binOp .eql t v .nilIface:Sem Value)).run P w=.ok (.bool (isNil (S.alts n) (S.uK n x))) w∧
  ((do eqGuard .neq t a (.const .nilIface) v .nilIface;binOp .neq t v .nilIface:Sem Value)).run P w=.ok (.bool (!(isNil (S.alts n) (S.uK n x)))) w:=by
 let ⟨_,d0,_,_,e,_,_,_,_,b⟩:=hi.all
 rw[j]at b;obtain⟨l,rfl⟩:=b;rw[CC];obtain⟨c,rfl⟩|⟨k,d,u,c,rfl,_⟩:=EV f h
 .rw[c];refine nR a (.const .nilIface) rfl rfl (λop=>?_) (Jb P 9999 e);unfold eqGuard;cases op<;>cases a<;>rfl
 .rw[c];refine nR a (.const .nilIface) rfl rfl (λop=>?_) (Jc 9999 e k u);unfold eqGuard;cases op<;>rfl
def Tp{t:TypeId}(hi:m7 P t i)(c:i.kd=.iface)(h:aH g w (.sym (.lit .nilIface)) v)(b:Operand) :
  ((do eqGuard .eql t b (.const .nilIface) v .nilIface;binOp .eql t v .nilIface:Sem Value)).run P w=.ok (.bool W) w∧
  ((do eqGuard .neq t b (.const .nilIface) v .nilIface;binOp .neq t v .nilIface:Sem Value)).run P w=.ok (.bool J) w:=by
 let ⟨_,d0,_,_,d,_,_,_,_,a⟩:=hi.all
 rw[c]at a;obtain⟨e,rfl⟩:=a;cases h with
 |sym _ _ h=>
 cases h;refine nR b (.const .nilIface) rfl rfl (λop=>?_) (Jb P 9999 d);unfold eqGuard;cases op<;>cases b<;>rfl
def UK(P:Program)(d:Nat){ty e:TypeId}(b:P.underlying ty=Z (.pointer e))(a:O Addr):(Op.equalIn (d+1) ty (.pointer a) (.pointer Y)).run P w=.ok a.isNone w:=by simp only[Op.equalIn,run_bind,aJ b,andThen_ok];cases a<;>rfl
def EM{t:TypeId}(hi:m7 P t i)(d:i.kd=.ptr){a:O Addr}(f:v=.pointer a)(c:Operand) :
  ((do eqGuard .eql t c (.const (.pointer Y)) v (.pointer Y);binOp .eql t v (.pointer Y):Sem Value)).run P w=.ok (.bool a.isNone) w∧
  ((do eqGuard .neq t c (.const (.pointer Y)) v (.pointer Y);binOp .neq t v (.pointer Y):Sem Value)).run P w=.ok (.bool (!a.isNone)) w:=by
 subst f
 let ⟨_,d0,_,_,g,_,_,_,_,b⟩:=hi.all
 rw[d]at b;obtain⟨e,rfl⟩:=b;exact nR c (.const (.pointer Y)) rfl rfl (λop=>by cases op<;>rfl) (UK P 9999 g a)
def KL{y:O (S.A n)}(h:aH g w (ec S (.opt n) y) v):∃a,v=.pointer a∧Ar y=!a.isNone∧(Ar y=W->∀z,aH g w (.lR (enc S (.st n) (IF z y)) 0) v):=by
 cases h with
 |sym _ _ h=>
 cases y with
 |none=>cases h;exact⟨Y,rfl,rfl,λh=>by cases h⟩
 |some x=>
  cases h with|pt _ b val c d e=>exact⟨Z (b.add 0),rfl,rfl,λ_ _=>.lR _ 0 b val c d e⟩
def afc{t:TypeId}(hi:m7 P t i){sz sL:Nat}{ag:Bool}{z:L D}(d:i.kd=.slice sz ag sL z)(a:O Addr)(n m:Nat)(c:Operand) :
  ((do eqGuard .eql t c (.const (.slice Y 0 0)) (.slice a n m) (.slice Y 0 0);binOp .eql t (.slice a n m) (.slice Y 0 0):Sem Value)).run P w=.ok (.bool a.isNone) w:=by
 let ⟨_,d0,_,_,e,_,_,_,_,b⟩:=hi.all
 rw[d]at b;obtain⟨el,j,f,g,rfl,_⟩:=b;refine(nR c (.const (.slice Y 0 0)) rfl rfl (λop=>?_) (UJ P 9999 e a n m)).1;unfold eqGuard;cases op<;>rfl
def afd(hs:aV g (aB s) w){e:Ty}{x:V S}{l:L (den S.A e)}(h:Kv s e x=Z l)(q:aH g w (low x) v):∃a n m,v=.slice a n m∧(a.isNone=W->isE l=W):=by
 unfold Kv at h;split at h
 .simp only[gK]at h;subst h;cases q with|emp a=>exact⟨a,0,0,rfl,λ_=>rfl⟩
 .rename_i t C;obtain⟨rfl,i⟩:=fG h;cases i;cases q with
  |kr n R a hn A=>
   refine⟨a,_,_,rfl,λE=>?_⟩;cases A with
   |sl _ _ _ sz val u F I hA K=>
   cases C with
   |nil=>rfl|cons y C=>
    simp_all
 .let ⟨f,i⟩:=fG h
  cases f;cases i;cases q with
  |pW j d c a hj A=>
   refine⟨a,_,_,rfl,λE=>?_⟩
   grind[xW]
 .rename_i t x'
  let ⟨f,i⟩:=fG h
  subst f;cases i;cases q with
  |sym _ _ A=>
   cases A with
   |sl _ a cap sz val u F I hA K=>
   refine⟨a,_,_,rfl,λE=>?_⟩;cases x' with
   |nil=>rfl|cons y C=>
    simp_all
 .rename_i o r;have key:∀(B:Bool)(t:Ty)(k:L (den S.A t))(era:Nat),s.ob.get o=Z (if B then .lq t k era else .arr t k era)->(bif Nq r era then oC t e k else Y)=Z l->∃a n m,v=.slice a n m∧(a.isNone=W->isE l=W):=by
   intro B t k era ho h;obtain⟨hb,h⟩|⟨_,h⟩:=af h
   .let ⟨f,i⟩:=fG h
    subst f;cases i;have P:=beq_iff'.1 hb;subst P;cases q with
    |sh _ _ len cap sz a hx=>
     have z:(aB s).ob.get o=Z (fW B (S.width t) (k.map (enc S t)) r):=by rw[aI,ho];cases B<;>rfl
     let ⟨p,_⟩:=hs.nJ z hx
     refine⟨a,len,cap,rfl,λE=>?_⟩;cases k with
     |nil=>rfl|cons y k=>
      have h1:=p.len;have h2:=p.cap;have K:(⟨a,len,cap,sz⟩:eY).cap≠0:=by grind
      let ⟨b,vs,ty,h3,_⟩:=p.mem K
      simp_all
   .cases h
  split at h
  .simp_all
  .simp_all
  .cases h
 .cases h
def Jt(hX:XOk S E)(hS:fc S)(hf:cR g (bB fr) a w)(hs:aV g (aB s) w)(o:Oper){ty:TypeId}{x ix y:Operand}(A:o.op=.mapUpdate ty x ix y∨o.op=.insert ty x ix y)
  (h:(match E.mt ty,cA fr x,cA fr ix,cA fr y with
  |some m,Z (.mp o),Z k,Z y=>match Vu m.kt k,s.ob.get o with
   |some k,Z (.map kt q l)=>match yT kt q m.kt q l,bU s q y with
    |some l,Z (y,os)=>match dU s os with
     |some s1=>bif Nl s.fl o&&abd m.vt q then Z (W,(fR:V S),{s1 with ob:=s1.ob.set aK o (.map m.kt q (iX m.kt k y l)),wr:=o::s1.wr})else Y
     |none=>Y
    |_,_=>Y
   |some k,Z (.Il kt l)=>match JY kt m.kt l with
    |some l=>bif Nl s.fl o then Z (W,fR,{s with ob:=s.ob.set aK o (.Il m.kt (iX m.kt k y l)),wr:=o::s.wr})else Y
    |none=>Y
   |_,_=>Y
  |_,_,_,_=>Y)=Z (c,t,s')) :
  ∃v w' g',((execOp a.eval o).run E.E.P w=.ok (.value v) w'∨((execOp a.eval o).run E.E.P w=.ok .skip w'∧v=undef))∧aH g' w' (low t) v∧cP [] s g w s' g' w':=by
 split at h;rotate_left
 .cases h
 rename_i m e kv yv hm hx hk hy
 let ⟨kid,d,ht,hu,n,_,_⟩:=hX.mt _ _ hm
 let ⟨b,hxe,hb⟩:=aH.GB (cS hf hx)
 have j:∀w',(Instr.mapUpdate ty (a.eval x) (a.eval ix) (a.eval y)).run E.E.P w=.ok () w'->(execOp a.eval o).run E.E.P w=.ok .skip w':=by intro w' hr;obtain A|A:=A<;>simp[execOp,A,hr]
 split at h
 .rename_i k kt q l r B;have WB:=qQ r (cS hf hk);split at h;rotate_left
  .cases h
  rename_i l' y' os hcm Li;obtain⟨rfl,_,K⟩:=Hv hcm;cases K;split at h;rotate_left
  .cases h
  rename_i s1 R;obtain⟨C,h9⟩|⟨_,h9⟩:=af h
  rotate_left
  .cases h9
  clear h;obtain⟨_,rfl,rfl⟩:=h9;rw[eZ]at C;have hfl:s.fl<=e:=gN C.1
  let ⟨p,hp,hpp⟩:=qv hS s q yv Li
  let ⟨u,hd⟩:=l5 hs _ hp hpp (cS hf hy)
  let ⟨g1,F,he1,hfr⟩:=ez os hs (dx hS _ R) u
  have hyd:=hd g1 _ F he1 hfr
  let ⟨f1,f2,f3,f4,f5,f6,f7⟩:=eE R
  have hno:e∉os:=λhmem=>by have:=(u e hmem).oe (by rw[aI,B];rfl);cases this
  have i:(aB s1).ob.get e=Z (cW (.map m.kt q l')):=by rw[aI,f6 e hno,B];rfl
  have Ag:g1.bP e=Z b:=he1.bP _ _ hb
  let ⟨x0,hh,YH⟩:=(F.box e b Ag).2.2 _ i
  obtain⟨ms,cl,rfl,hmr⟩:=gS.MM n (f:=ec S q) YH
  let ⟨ms',c',I,z⟩:=yH (P:=E.E.P) n ht hu k hh hmr (x:=y') (uo hyd)
  have hlt:=(F.box e b Ag).2.1
  let ⟨q1,q2,q3⟩:=EI (.map ms' c') hlt
  let ⟨Mv,VH⟩:=F.setObj Ag i rfl (by show s1.fl<=e;omega) (ob':=cW (.map m.kt q (iX m.kt k y' l'))) (Ey.ob n (f:=ec S q) z c') q1 q2 q3 rfl rfl
  have aqx:rz s {s1 with ob:=s1.ob.set aK e (.map m.kt q (iX m.kt k y' l')),wr:=e::s1.wr}:=(mo R).trans' (Ds f3.symm) (pz _ _ _);refine⟨undef,_,g1,.inr ⟨j _ (by rw[hxe,WB];exact I),rfl⟩,.sym _ _ (.lit _),cP.kQ hs (by rw[ey];exact Mv) (he1.trans (by grind[aB])) f1 f2 (Ds f3.symm) aqx⟩
 .rename_i k kt l r B;have WB:=qQ r (cS hf hk);split at h;rotate_left
  .cases h
  rename_i l' hck;obtain⟨rfl,K⟩:=Hx hck;cases K;obtain⟨C,h9⟩|⟨_,h9⟩:=af h
  rotate_left
  .cases h9
  clear h;obtain⟨_,rfl,rfl⟩:=h9;have i:(aB s).ob.get e=Z (cW (.Il m.kt l')):=by rw[aI,B];rfl
  let ⟨x0,hh,YH⟩:=(hs.box e b hb).2.2 _ i
  obtain⟨ms,cl,rfl,hmr⟩:=gS.MM n (f:=low) YH
  let ⟨ms',c',I,z⟩:=yH (P:=E.E.P) n ht hu k hh hmr (x:=yv) (cS hf hy)
  let ⟨q1,q2,q3⟩:=EI (.map ms' c') (hs.box e b hb).2.1
  let ⟨Mv,VH⟩:=hs.setObj hb i rfl (gN C) (ob':=cW (.Il m.kt (iX m.kt k yv l'))) (Ey.ob n (f:=low) z c') q1 q2 q3 rfl rfl
  exact⟨undef,_,g,.inr ⟨j _ (by simp_all),rfl⟩,.sym _ _ (.lit _),cP.kQ hs (by rw[ey];exact Mv) VH rfl rfl (eM _) (pz _ _ _)⟩
 .cases h
def abJ(hS:fc S)(hT:BC E.E)(hTy:Sa S E)(hX:XOk S E)(hf:cR g (bB fr) a w)(hs:aV g (aB s) w)(o:Oper)(h:uh E fr s o.op=Z (c,t,s'))(hc:c=W) :
  ∃v w' g',((execOp a.eval o).run E.E.P w=.ok (.value v) w'∨((execOp a.eval o).run E.E.P w=.ok .skip w'∧v=undef))∧aH g' w' (low t) v∧cP [] s g w s' g' w':=by
 unfold uh at h;split at h
 ·
  rename_i ty r A;obtain⟨hb,C⟩|⟨_,C⟩:=af h
  rotate_left
  .cases C
  clear h;rw[eZ]at hb;have hn:s.aE<bC:=gN hb.1;split at C;rotate_left
  .cases C
  rename_i m hm
  let ⟨kid,d,ht,hu,B,_,_⟩:=hX.mt _ _ hm
  have hr:∀v,r.map a.eval=Z v->∃k n,v=.int k n:=by
   intro v hv;cases r with
   |none=>cases hv
   |some x=>
    simp at hv;subst hv;have hh:=hb.2;simp[Oe]at hh;split at hh
    .rename_i k n F;exact⟨_,_,(cS hf F).afS⟩
    .rename_i k n F;exact⟨_,_,aH.AX (cS hf F)⟩
    .cases hh
  have fin:∀ob:u9 S,cW ob=.map []->(W,(.mp s.aE:V S),dh s ob)=(c,t,s')->
    ∃v w' g',((execOp a.eval o).run E.E.P w=.ok (.value v) w'∨((execOp a.eval o).run E.E.P w=.ok .skip w'∧v=undef))∧aH g' w' (low t) v∧cP [] s g w s' g' w':=λob lg he=>by
   obtain⟨_,rfl,rfl⟩:=he
   let ⟨v,w',g',h1,h2,h3⟩:=KW (P:=E.E.P) hs hn ht hr lg
   exact⟨v,w',g',.inl (by simp[execOp,A,h1]),h2,h3⟩
  split at C
  .exact fin _ rfl (jT C)
  .exact fin _ rfl (jT C)
 ·
  rename_i ty x ix ok A;split at h;rotate_left
  .cases h
  rename_i m xv kv hm F hk;split at h;rotate_left
  .cases h
  rename_i vt hvt;split at h;rotate_left
  .cases h
  rename_i k l hkey K;obtain⟨_,rfl,rfl⟩:=h
  let ⟨kid,d,ht,hu,B,⟨xi,z,R,hz⟩,hvv⟩:=hX.mt _ _ hm
  let ⟨aku,i,VD⟩:=hvv vt hvt
  have WB:=qQ hkey (cS hf hk);have hxr:=cS hf F;have YA:aH g w (ec S vt (S.zero vt)) z:=uo (I2 hS (hT.ti _ _ VD) (hTy.row _ _ _ VD aku) (hX.zr _ _ _ VD aku) R hz);have fin:∀(u:Value)(b:Bool),(Instr.lookup ty (a.eval x) (a.eval ix) ok).run E.E.P w=.ok (if ok then .tuple #[u,.bool b]else u) w->aH g w (ec S vt (ET m.kt (S.zero vt) k l)) u->b=GK m.kt k l->
    ∃v w' g',((execOp a.eval o).run E.E.P w=.ok (.value v) w'∨((execOp a.eval o).run E.E.P w=.ok .skip w'∧v=undef))∧
     aH g' w' (low (bif ok then .gM [.ty vt (ET m.kt (S.zero vt) k l),.ty .bool (GK m.kt k l)]else .ty vt (ET m.kt (S.zero vt) k l):V S)) v∧cP [] s g w s g' w':=by
   intro u b hrun hu hbb;refine⟨_,w,g,.inl (by simp only[execOp,A,run_bind,hrun,andThen_ok,run_pure];rfl),?_,cP.refl hs⟩;cases ok with
   |false=>exact hu|true=>
    subst hbb;refine .gM _ _ rfl λj t' v' h1 h2=>?_
    match j with
    |0=>simp[bq]at h1 h2;subst h1;subst h2;exact hu|1=>simp[bq]at h1 h2;subst h1;subst h2;exact .sym _ _ (.lit _)|j+2=>simp[bq]at h1
  unfold X9 at K;split at K
  .rename_i oid;split at K
   .rename_i kt' vt' l' lg;obtain⟨rfl,rfl,TJ⟩:=Hv K;cases TJ
    let ⟨b,hxe,hb⟩:=aH.GB hxr
    obtain⟨x0,hh,YH⟩:=(hs.box oid b hb).2.2 _ (by rw[aI,lg];rfl);obtain⟨ms,cl,rfl,hmr⟩:=gS.MM B (f:=ec S vt') YH;have hlk:=zg (P:=E.E.P) B ht hu R hz k hh hmr.1 (λj p q h1 h2=>(hmr.2 j p q h1 h2).1) ok
    let ⟨r1,r2⟩:=Gn (f:=ec S vt') (k:=k) hmr YA
    refine fin _ _ ?_ r1 r2;rw[WB,hxe,hlk];cases hq:(DG m.kt k l').bind λj=>(ms[j]?).map (·.val)with|none=>simp|some v=>simp
   .cases K
  .simp only[gK]at K;subst K;refine fin z J ?_ YA rfl;rw[WB,aH.AX hxr];exact Fx B ht hu R hz k ok
  .rename_i vt' l';obtain⟨rfl,rfl,TJ⟩:=Hv K;cases TJ;cases afW:a.eval x with
   |map mb=>
    rw[afW]at hxr;cases hxr with
    |sym _ _ hd=>
    cases hd with
    |mp _ _ b ms cl I hh h1 h2 Oc hv1=>
    have hmr:Ey m.kt (λy v=>aH g w (ec S vt' y) v) l' ms:=⟨by simpa using h1,λj p q e1 e2=>⟨Tz B (uo (Oc j _ q (by simp[e1]) e2)),uo (hv1 j _ q (by simp[e1]) e2)⟩⟩;have hlk:=zg (P:=E.E.P) B ht hu R hz k hh hmr.1 (λj p q h1 h2=>(hmr.2 j p q h1 h2).1) ok
    let ⟨r1,r2⟩:=Gn (f:=ec S vt') (k:=k) hmr YA
    refine fin _ _ ?_ r1 r2;rw[WB,afW,hlk];cases hq:(DG m.kt k l').bind λj=>(ms[j]?).map (·.val)with|none=>simp|some v=>simp
   |_=>
    rw[afW]at hxr;cases hxr with|sym _ _ hd=>cases hd
  .cases K
 .exact Jt hX hS hf hs o (.inl ‹_›) h
 .exact Jt hX hS hf hs o (.inr ‹_›) h
 ·
  rename_i ty n cp A;split at h;rotate_left
  .cases h
  rename_i i e nv cv I he hn hcv;split at h;rotate_left
  .cases h
  rename_i n1 c1 B hn1 hc1;obtain⟨hb,C⟩|⟨_,C⟩:=af h
  rotate_left
  .cases C
  obtain⟨rfl,rfl,rfl⟩:=C;rw[eZ]at hc;have hcn:c1=n1:=by simpa[fU]using hc.2
  subst hcn
  let ⟨p,hp,hpp⟩:=gu hn1
  let ⟨q,hq,hqq⟩:=gu hc1
  have e1:=dS hp hpp (cS hf hn);have e2:=dS hq hqq (cS hf hcv)
  let ⟨v,w',g',h1,h2,h3⟩:=Gk (P:=E.E.P) hS hs (gN hb) (hT.ti _ _ I) (hTy.row _ _ _ I he) hc.1 .i64 .i64
  exact⟨v,w',g',.inl (by simp[execOp,A,e1,e2,h1]),h2,h3⟩
 ·
  rename_i ty x A;split at h;rotate_left
  .cases h
  rename_i i xv I F;split at h;rotate_left
  .cases h
  rename_i b B hb;obtain⟨hn,C⟩|⟨_,C⟩:=af h
  rotate_left
  .cases C
  obtain⟨_,rfl,rfl⟩:=C
  let ⟨p,hp,hpp⟩:=lA hb
  have e1:=iG hp hpp (cS hf F)
  let ⟨_,d0,_,_,hu,_,_,_,_,hk⟩:=(hT.ti _ _ I).all
  rw[B]at hk;cases hk
  let ⟨v,w',g',h1,h2,h3⟩:=Qu (P:=E.E.P) hs (gN hn) hu b
  exact⟨v,w',g',.inl (by simp[execOp,A,e1,h1]),h2,h3⟩
 ·
  rename_i ty x u A;split at h;rotate_left
  .rename_i i I F;split at h;rotate_left
   .cases h
   rename_i B;obtain⟨_,rfl,rfl⟩:=h;have:=(Tp (w:=w) (hT.ti _ _ I) B (cS hf F) x).1;exact⟨_,w,g,.inl (by simp only[execOp,A,run_bind]at this ⊢;simp only[Act.eval]at this ⊢;rw[this];rfl),.kb W,cP.refl hs⟩
  .cases h
  rename_i i n y I F;split at h;rotate_left
  .cases h
  rename_i B;obtain⟨_,rfl,rfl⟩:=h;have:=(TC (S:=S) hS (hT.ti _ _ I) B (cS hf F) x).1;exact⟨_,w,g,.inl (by simp only[execOp,A,run_bind]at this ⊢;simp only[Act.eval]at this ⊢;rw[this];rfl),.sym _ _ (.lit _),cP.refl hs⟩
 ·
  rename_i ty x u A;split at h;rotate_left
  .rename_i i I F;split at h;rotate_left
   .cases h
   rename_i B;obtain⟨_,rfl,rfl⟩:=h;have:=(Tp (w:=w) (hT.ti _ _ I) B (cS hf F) x).2;exact⟨_,w,g,.inl (by simp only[execOp,A,run_bind]at this ⊢;simp only[Act.eval]at this ⊢;rw[this];rfl),.kb J,cP.refl hs⟩
  .cases h
  rename_i i n y I F;split at h;rotate_left
  .cases h
  rename_i B;obtain⟨_,rfl,rfl⟩:=h;have:=(TC (S:=S) hS (hT.ti _ _ I) B (cS hf F) x).2;exact⟨_,w,g,.inl (by simp only[execOp,A,run_bind]at this ⊢;simp only[Act.eval]at this ⊢;rw[this];rfl),.sym _ _ (.lit _),cP.refl hs⟩
 ·
  rename_i ty x u A;split at h;rotate_left
  .cases h
  rename_i i e xv I he F;split at h;rotate_left
  .cases h
  rename_i B hl;obtain⟨_,rfl,rfl⟩:=h
  let ⟨ad,n,m,hv,hE⟩:=afd hs hl (cS hf F)
  have:=afc (w:=w) (hT.ti _ _ I) B ad n m x;exact⟨_,w,g,.inl (by rw[<-hv]at this;simp only[execOp,A,run_bind]at this ⊢;simp only[Act.eval]at this ⊢;rw[this];rfl),.ub _ _ hE,cP.refl hs⟩
 ·
  rename_i x A;split at h;rotate_left
  .rename_i n y F;obtain⟨rfl,rfl,rfl⟩:=h
   let ⟨p,hv,Af,hr⟩:=KL (S:=S) (show aH g w (ec S (.opt n) y) (a.eval x)from cS hf F)
   have hne:p.isNone=J:=by rw[hc]at Af;simpa using Af
   refine⟨_,w,g,.inl ?_,hr hc (S.dfl n),cP.refl hs⟩;cases p with
   |none=>cases hne
   |some q=>simp[execOp,A,hv]
  .cases h
  rename_i n y F;obtain⟨rfl,rfl,rfl⟩:=h;have hr:=cS hf F;rw[CC]at hc;obtain⟨he,_⟩|⟨t',d,u,he,hv,_⟩:=EV hS (show aH g w (ec S (.de n) y) (a.eval x)from hr)
  .rw[he]at hc;cases hc
  .exact ⟨_,w,g,.inl (by simp[execOp,A,hv]),hv▸hr,cP.refl hs⟩
 ·
  rename_i ty x u A;split at h;rotate_left
  .rename_i i I F;split at h;rotate_left
   .cases h
   rename_i B;obtain⟨_,rfl,rfl⟩:=h;have:=(EM (w:=w) (hT.ti _ _ I) B (aH.AX (cS hf F)) x).1;exact⟨_,w,g,.inl (by simp only[execOp,A,run_bind]at this ⊢;simp only[Act.eval]at this ⊢;rw[this];rfl),.kb W,cP.refl hs⟩
  .cases h
  rename_i i n y I F;split at h;rotate_left
  .cases h
  rename_i B;obtain⟨_,rfl,rfl⟩:=h
  let ⟨p,hv,Af,_⟩:=KL (S:=S) (show aH g w (ec S (.opt n) y) (a.eval x)from cS hf F)
  have:=(EM (w:=w) (hT.ti _ _ I) B hv x).1;exact⟨_,w,g,.inl (by simp only[execOp,A,run_bind]at this ⊢;simp only[Act.eval]at this ⊢;rw[this];rfl),by rw[Af];cases p<;>exact .sym _ _ (.lit _),cP.refl hs⟩
 ·
  rename_i ty x u A;split at h;rotate_left
  .rename_i i I F;split at h;rotate_left
   .cases h
   rename_i B;obtain⟨_,rfl,rfl⟩:=h;have:=(EM (w:=w) (hT.ti _ _ I) B (aH.AX (cS hf F)) x).2;exact⟨_,w,g,.inl (by simp only[execOp,A,run_bind]at this ⊢;simp only[Act.eval]at this ⊢;rw[this];rfl),.kb J,cP.refl hs⟩
  .cases h
  rename_i i n y I F;split at h;rotate_left
  .cases h
  rename_i B;obtain⟨_,rfl,rfl⟩:=h
  let ⟨p,hv,Af,_⟩:=KL (S:=S) (show aH g w (ec S (.opt n) y) (a.eval x)from cS hf F)
  have:=(EM (w:=w) (hT.ti _ _ I) B hv x).2;exact⟨_,w,g,.inl (by simp only[execOp,A,run_bind]at this ⊢;simp only[Act.eval]at this ⊢;rw[this];rfl),by rw[Af];exact .sym _ _ (.lit _),cP.refl hs⟩
 ·
  rename_i x xt ty ok A;split at h;rotate_left
  .cases h
  rename_i i τ n y I he F
  let ⟨xi,d1,z,R,DJ,_,YY,hzx,Cq,Oc⟩:=(hT.ti _ _ I).all
  have hni:i.kd≠.iface->∀ms,d1≠.interface ms:=λhk ms hd=>hk ((hT.ti _ _ I).nif ms (by rw[DJ,hd]));have hr:=EV hS (show aH g w (ec S (.de n) y) (a.eval x)from cS hf F);have YA:aH g w (ec S τ (S.zero τ)) z:=uo (I2 hS (hT.ti _ _ I) (hTy.row _ _ _ I he) (hX.zr _ _ _ I he) R hzx);have hno:i.kd≠.iface->(∀d,uR S (S.alts n) (S.uK n y)≠Z (ty,d))->(Instr.typeAssert (a.eval x) xt ty W).run E.E.P w=.ok (.tuple #[z,.bool J]) w:=by
   intro hk hne;obtain⟨_,hv⟩|⟨t',d,u,he',hv,_⟩:=hr
   .rw[hv];simp only[Instr.typeAssert,run_bind,aJ DJ,andThen_ok];cases d1 with|interface ms=>exact absurd rfl (hni hk ms)|_=>simp[ej R hzx]
   .have aqp:t'≠ty:=λe=>hne d (e▸he');rw[hv];simp only[Instr.typeAssert,run_bind,aJ DJ,andThen_ok];cases d1 with|interface ms=>exact absurd rfl (hni hk ms)|_=>simp[aqp,ej R hzx]
  split at h
  .cases h
  .rename_i j hj hk;obtain⟨hb,C⟩|⟨_,C⟩:=af h
   rotate_left
   .cases C
   clear h;have hte:=jK hb;have hk':i.kd≠.iface:=λe=>hk e;obtain⟨h1,h2⟩|⟨h1,h2,h3⟩:=Hh (S.alts n) ty j (S.uK n y) S.zero (hS.alts n) hj
   ·
    obtain⟨he',_⟩|⟨t',d,u,he',hv,hd⟩:=hr
    .rw[he']at h2;cases h2
    rw[he']at h2;simp at h2;obtain⟨rfl,rfl⟩:=h2;have hrun:∀ok,(Instr.typeAssert (a.eval x) xt t' ok).run E.E.P w=.ok (if ok then .tuple #[u,.bool W]else u) w:=by intro ok;rw[hv];simp only[Instr.typeAssert,run_bind,aJ DJ,andThen_ok];cases d1 with|interface ms=>exact absurd rfl (hni hk' ms)|_=>simp
    obtain⟨hok,C⟩|⟨hok,C⟩:=af C
    .simp only[gK,fh]at C;obtain⟨_,rfl,rfl⟩:=C;subst hok;refine⟨_,w,g,.inl (by simp only[execOp,A,run_bind,hrun,andThen_ok,run_pure];rfl),.gM _ _ rfl λq t v k1 k2=>?_,cP.refl hs⟩
     match q with
     |0=>simp[bq]at k1 k2;subst k1;subst k2;exact uo hd|1=>simp[bq]at k1 k2;subst k1;subst k2;rw[h1];exact .sym _ _ (.lit _)|q+2=>simp[bq]at k1
    .obtain ⟨_,rfl,rfl⟩:=C;subst hok;exact⟨_,w,g,.inl (by simp only[execOp,A,run_bind,hrun,andThen_ok,run_pure];rfl),uo hd,cP.refl hs⟩
   ·
    obtain⟨hok,C⟩|⟨hok,C⟩:=af C
    .simp only[gK,fh]at C;obtain⟨_,rfl,rfl⟩:=C;subst hok;refine⟨_,w,g,.inl (by simp only[execOp,A,run_bind,hno hk' h3,andThen_ok,run_pure];rfl),.gM _ _ rfl λq t v k1 k2=>?_,cP.refl hs⟩
     match q with
     |0=>simp[bq]at k1 k2;subst k1;subst k2;rw[h2];subst hte;exact YA|1=>simp[bq]at k1 k2;subst k1;subst k2;rw[h1];exact .sym _ _ (.lit _)|q+2=>simp[bq]at k1
    .obtain ⟨rfl,_⟩:=C;rw[h1]at hc;cases hc
  .rename_i hj hk;have hk':i.kd≠.iface:=λe=>hk e;obtain⟨hok,C⟩|⟨hok,C⟩:=af h
   rotate_left
   .cases C
   simp only[gK,fh]at C;obtain⟨_,rfl,rfl⟩:=C;subst hok;refine⟨_,w,g,.inl (by simp only[execOp,A,run_bind,hno hk' (λd=>Hh.CA _ _ _ hj d),andThen_ok,run_pure];rfl),.gM _ _ rfl λq t v k1 k2=>?_,cP.refl hs⟩
   match q with
   |0=>simp[bq]at k1 k2;subst k1;subst k2;exact YA|1=>simp[bq]at k1 k2;subst k1;subst k2;exact .kb _|q+2=>simp[bq]at k1
 ·
  rename_i ps A;split at h;rotate_left
  .cases h
  rename_i i pv I hps;split at h;rotate_left
  .cases h
  rename_i sz ag B;simp only[fM,fh]at h;obtain⟨cs,hcs,_,rfl,rfl⟩:=h
  let ⟨p,hfl,hp⟩:=Cv hS hcs
  rw[nr]at hfl
  let ⟨xi,d1,z,R,DJ,_,YY,hzx,Cq,Oc⟩:=(hT.ti _ _ I).all
  rw[B]at Oc;obtain⟨el,j,d',rfl,hj,yw,hju,_⟩:=Oc;have YA:=sZ (g:=g) (w:=w) Cq;obtain⟨rs,h1,h2⟩:=wP (g:=g) (w:=w) (pl:=λk=>Z (k*sz,sz)) (λk off ti N8=>by
   obtain⟨rfl,rfl⟩:=N8;rfl) _ _ hfl hp (pJ hf (uA hps)) ⟨by simpa using YA.1,λj t v h1 h2=>YA.2 j t v h1 (by simpa using h2)⟩
  refine⟨.agg rs,w,g,.inl ?_,.agg _ _ (by simpa using h2.1) (λj t v h3 h4=>h2.2 j t v h3 (by simpa using h4)),cP.refl hs⟩;have akq:Instr.fill (λi=>Z (i*sz,sz)) z.cells (ps.map λ(i,x)=>(i,a.eval x)).toList=Z rs:=by simpa using h1
  simp only[execOp,A,Instr.build,run_bind,ej R hzx,aJ DJ,dn hj,yw,andThen_ok,run_pure,akq]
 .cases h
end
end
section
section
variable {g:Gh}{w:World}
def J8{β:Type}{ω:Type}{X:V S->aY S->O ω}{D:O ω}{a:Ty}(k:den S.A a)(f:β->V S)(s:aY S):∀(l:L (den S.A a×β)),
  yW X D (l.map λp=>(Gv a k p.1,f p.2,s))=match(DG a k l).bind (l[·]?)with
   |some p=>X (f p.2) s|none=>D
 |[]=>rfl|p::l=>by
  simp[pG,yW,DG];cases b:Gv a k p.1 with
  |true=>simp[ai]|false=>
   simp[ai,jo];rw[J8 k f s l];cases DG a k l with|none=>rfl|some j=>simp
def xh{ω:Type}{X:V S->aY S->O ω}{n:Int}{ag:Bool}{sz:Nat}{cs:L (V S)}{s:aY S}{r:ω}:∀{l:L Nat},yW X Y (zV n ag sz cs s l)=Z r->
  ∃j v,j∈l∧n=(j:Int)∧((cs.drop (j*sz)).take sz).length=sz∧0<sz∧Dv ag ((cs.drop (j*sz)).take sz)=Z v∧X v s=Z r
 |[],h=>by cases h
 |j::l,h=>by
  simp only[zV]at h;split at h
  .rename_i a;obtain⟨b,a⟩|⟨_,a⟩:=af a
   rotate_left
   .cases a
   rw[eZ]at b;have d:=beq_iff'.1 b.1;rw[bS]at d;obtain⟨e,h⟩|⟨_,h⟩:=I9 h
   .simp_all[fU]
   .let ⟨i,u,h1,h2⟩:=xh h
    grind
  .cases h
where
 I9 {α:Type} {c:Bool} {x y:O α} {r:α} (h:ai c x y=Z r):(c=W∧x=Z r)∨(c=J∧y=Z r):=af h
variable {s s':aY S}{E:fX}{fr:bX S}{a:Act}{o:Oper}{cl:Call}{b:Builtin}{args:List (V S)}{c:Bool}{t:V S}
def Tm(hT:BC E.E)(hX:XOk S E)(hf:cR g (bB fr) a w)(hs:aV g (aB s) w)(o:Oper){Wd:L (Bool×V S×aY S)}{p:Bool}{d:V S}(h:iF E fr s o.op=Z (Wd,p,d,s')){ω:Type}{X:V S->aY S->O ω}{r:ω}
  (e:yW X (aT p (X d s')) Wd=Z r) :
  ∃t s1 v w' g',X t s1=Z r∧((execOp a.eval o).run E.E.P w=.ok (.value v) w'∨((execOp a.eval o).run E.E.P w=.ok .skip w'∧v=undef))∧aH g' w' (low t) v∧cP [] s g w s1 g' w'∧((∀it b,o.op≠.next it b)->s1=s):=by
 unfold iF at h;split at h
 ·
  rename_i it B;split at h;rotate_left
  .cases h
  rename_i C hit;split at h;rotate_left
  .cases h
  rename_i b pos lg;obtain⟨hfl,h9⟩|⟨_,h9⟩:=af h
  rotate_left
  .cases h9
  clear h;obtain⟨rfl,rfl,rfl,rfl⟩:=h9
  let ⟨bP,hie,hb⟩:=aH.acq (cS hf hit)
  have N9:(aB s).ob.get C=Z (.rD (bZ b) pos):=by rw[aI,lg];rfl
  let ⟨x0,hh,YH⟩:=(hs.box C bP hb).2.2 _ N9
  have K:=(hs.box C bP hb).2.1;cases YH;have ef:(getObj bP).run E.E.P w=.ok (.stringIter (bZ b) pos) w:=by simp[getObj,Sem.run,hh]
  have wI:∀x,(setObj bP x).run E.E.P w=.ok () {w with heap:=w.heap.setIfInBounds bP x}:=λx=>by simp[setObj,Sem.run,hh]
  have F:(bZ b).size=b.length:=by rfl
  obtain⟨hp,e⟩|⟨hp,e⟩:=xh.I9 e
  .have hp':pos<(bZ b).size:=by rw[F];simpa[QE]using hp
   let ⟨q1,q2,q3⟩:=EI (.stringIter (bZ b) (pos+Ir b pos)) K
   let ⟨Mv,VH⟩:=hs.setObj hb N9 rfl (gN hfl) (ob':=.rD (bZ b) (pos+Ir b pos)) (.rD _ _) q1 q2 q3 rfl rfl
   refine⟨_,_,.tuple #[.bool W,goInt pos,.int .i32 (vC b pos)],_,g,e,.inl ?_,.gM _ _ rfl λq t v y A=>?_,cP.kQ hs (by rw[ey];exact Mv) VH rfl rfl (eM _) (pz _ _ _),λhh=>absurd B (hh it W)⟩
   .have hrun:(Instr.next (a.eval it) W o.type).run E.E.P w=.ok (.tuple #[.bool W,goInt pos,.int .i32 (vC b pos)]) {w with heap:=w.heap.setIfInBounds bP (.stringIter (bZ b) (pos+Ir b pos))}:=by rw[hie];simp only[Instr.next,run_bind,ef,andThen_ok,hp',sr,wI];rfl
    grind[execOp,run_bind,andThen_ok,run_pure]
   .match q with
    |0=>simp[bq]at y A;subst y;subst A;exact .kb _|1=>simp[bq]at y A;subst y;subst A;exact .sym _ _ (.lit _)|2=>simp[bq]at y A;subst y;subst A;exact .sym _ _ (.lit _)|q+3=>grind
  .have hp':¬pos<(bZ b).size:=by rw[F];simpa[QE]using hp
   refine⟨_,_,.tuple #[.bool J],w,g,e,.inl ?_,.gM _ _ rfl λq t v y A=>?_,cP.refl hs,λhh=>absurd B (hh it W)⟩
   .have hrun:(Instr.next (a.eval it) W o.type).run E.E.P w=.ok (.tuple #[.bool J]) w:=by rw[hie];simp only[Instr.next,run_bind,ef,andThen_ok,hp',yo];rfl
    grind[execOp,run_bind,andThen_ok,run_pure]
   .match q with
    |0=>simp[bq]at y A;subst y;subst A;exact .kb _|q+1=>grind
 ·
  rename_i ty x ix ok B;split at h;rotate_left
  .cases h
  rename_i m C kv hm hx hk;split at h;rotate_left
  .cases h
  rename_i kt l k i lg hkey VD;split at h;rotate_left
  .cases h
  rename_i l' z hck hpz;simp only[gK,fh]at h;obtain⟨rfl,rfl,rfl,rfl⟩:=h;obtain⟨rfl,TJ⟩:=Hx hck;cases TJ
  let ⟨kid,dd,ht,hu,R,⟨xi,zv,N7,hz⟩,_⟩:=hX.mt _ _ hm
  have WB:=qQ hkey (cS hf hk)
  let ⟨b,hxe,hb⟩:=aH.GB (cS hf hx)
  obtain⟨x0,hh,YH⟩:=(hs.box C b hb).2.2 _ (by rw[aI,lg];rfl);obtain⟨ms,cl,rfl,hmr⟩:=gS.MM R (f:=low) YH;have hlk:=zg (P:=E.E.P) R ht hu N7 hz k hh hmr.1 (λj p q h1 h2=>(hmr.2 j p q h1 h2).1) ok;have YA:aH g w (low z) zv:=by
   let ⟨x',_,z',hx',_,_,YY,hz',Cq,_⟩:=(hT.ti _ _ VD).all
   rw[N7]at hx';cases hx';rw[hz]at hz';cases hz'
   let ⟨hza,hzn⟩:=(hT.ti _ _ VD).zag _ _ N7 hz
   let ⟨hz1,hz2⟩:=sZ (g:=g) (w:=w) Cq
   have hp:=qd hpz;rw[nr]at hp
   let ⟨sA,_⟩:=xL (g:=g) (w:=w) hp (vals:=zv.cells.toList) (by omega) (λj t v h1 h2=>hz2 j t v h1 (by simpa using h2))
   cases hia:i.agg with
   |true=>
    obtain⟨vs,rfl⟩:=hza hia
    simp_all[Value.cells]
   |false=>
    simp_all
  rw[J8 k (λv=>bif ok then .gM [v,.kb W]else v) s l']at e;have wrap:∀(t:V S)(u:Value)(bb:Bool),aH g w (low t) u->aH g w (low (bif ok then .gM [t,.kb bb]else t:V S)) (if ok then .tuple #[u,.bool bb]else u):=by
   intro t u bb hu;cases ok with
   |false=>exact hu|true=>
    refine .gM _ _ rfl λq t v y A=>?_
    match q with
    |0=>grind[bq]|1=>simp[bq]at y A;subst y;subst A;exact .kb _|q+2=>grind
  have c:=hlk;rw[<-hxe,<-WB]at c;cases hix:DG m.kt k l' with
  |none=>rw[hix]at e c;exact⟨_,_,_,w,g,e,.inl (by grind[execOp,run_bind,andThen_ok,run_pure]),wrap z zv J YA,cP.refl hs,λ_=>rfl⟩
  |some j=>
   let ⟨q,hq,_⟩:=wE hix
   have hj:j<ms.size:=by rw[<-hmr.1];grind
   have hmj:ms[j]?=Z ms[j]:=uy hj;rw[hix]at e c;simp[S9,hq,hmj,jA]at e c;exact⟨_,_,_,w,g,e,.inl (by grind[execOp,run_bind,andThen_ok,run_pure]),wrap q.2 _ W (hmr.2 j q _ hq hmj).2,cP.refl hs,λ_=>rfl⟩
 ·
  rename_i B;split at h;rotate_left
  .cases h
  rename_i hi hx hk;split at h;rotate_left
  .cases h
  rename_i len sz ag n R hn;obtain⟨hlen,h9⟩|⟨_,h9⟩:=af h
  rotate_left
  .cases h9
  clear h;obtain⟨rfl,rfl,rfl,rfl⟩:=h9;obtain⟨j,v,hjm,rfl,hl,hsz,hpk,hXv⟩:=xh e;have hjl:j<len:=List.mem_range.1 hjm
  let ⟨pq,hp,hpp⟩:=gu hn
  have e1:=dS hp hpp (cS hf hk)
  let ⟨_,d1,_,_,DJ,hsz1,hag1,_,_,Oc⟩:=(hT.ti _ _ hi).all
  rw[R]at Oc;obtain⟨el,jj,d',rfl,hj1,hj2,hj3,hj4⟩:=Oc
  let ⟨vs,hxe,oL⟩:=aH.TA (cS hf hx)
  have I:=(oL.drop (j*sz)).take sz;have K:=qd hpk;rw[me,mg]at K
  let ⟨sA,h1⟩:=xL (g:=g) (w:=w) K I.1 I.2
  have hlv:((vs.toList.drop (j*sz)).take sz).length=sz:=by rw[<-I.1,<-mg,<-me,eJ];exact hl
  have hle:j*sz+sz<=vs.size:=by
   grind
  have hrp:=M1 (P:=E.E.P) (w:=w) hj1 hj3 vs (j*sz) (by omega) (λhd=>by
   grind)
  rw[hj2,<-hj4]at hrp;refine⟨v,s,_,w,g,hXv,.inl ?_,sA,cP.refl hs,λ_=>rfl⟩;have hin:(0:Int)<=(j:Int)∧(j:Int)<(len:Int):=by omega
  simp only[execOp,B,Instr.index,e1,hxe,asIntOf,run_bind,run_pure,andThen_ok,aJ DJ,bw hin,dn hj1,hj2,we,hrp]
 .cases h
def abp(P:Program)(a:Array TypeId)(ty:TypeId)(m n:Int):(Builtin.max_ a ty #[.int .i64 m,.int .i64 n]).run P w=.ok (.int .i64 (abS m n)) w:=by simp only[Builtin.max_,List.foldlM_cons,List.foldlM_nil,Builtin.max2,abS,aC];by_cases h:m<n<;>simp[h]
def abo(P:Program)(a:Array TypeId)(ty:TypeId)(m n:Int):(Builtin.min_ a ty #[.int .i64 m,.int .i64 n]).run P w=.ok (.int .i64 (abR m n)) w:=by simp only[Builtin.min_,List.foldlM_cons,List.foldlM_nil,Builtin.min2,abR,aC];by_cases h:n<m<;>simp[h]
def Br(hX:XOk S E)(hs:aV g (aB s) w)(hf:cR g (bB fr) a w)(B:o.op=.call cl)(hb:cl.callee=.builtin b)(j:jY fr cl.args.toList=Z args)
  (h:tX E s b cl.argTypes args=Z (c,t,s')):s'=s∧∃v,(execOp a.eval o).run E.E.P w=.ok (.value v) w∧aH g w (low t) v:=by
 have e:=eT hf (gU j);unfold tX at h;split at h
 .rename_i k;have key:∀(l:Nat)(ob:u9 S),s.ob.get k=Z ob->(∀x,gS g w (cW ob) x->∃p c,x=.map p c∧p.size=l)->∀m,(nth cl.argTypes.toList 0).bind E.mt=Z m->
    ∃v,(execOp a.eval o).run E.E.P w=.ok (.value v) w∧aH g w (low (.ty (.int .i64) (l:Int):V S)) v:=by
   intro l ob f q m i;simp[vP]at i
   let ⟨ty,C,F⟩:=i
   let ⟨kid,d,ht,_⟩:=hX.mt _ _ F
   have h0:aH g w (.mp k) ((cl.args.toList.map a.eval)[0]'(by have:=e.1;simp[bq]at this;simp;omega)):=e.2 0 _ _ rfl (iR _)
   let ⟨bP,hbe,r⟩:=aH.GB h0
   obtain⟨x0,hh,I⟩:=(hs.box k bP r).2.2 _ (by rw[aI,f];rfl);obtain⟨p,cc,rfl,K⟩:=q _ I;have ef:(getObj bP).run E.E.P w=.ok (.map p cc) w:=nw hh;have P:(cl.args.map a.eval)[0]?=Z (.map (Z bP)):=by
    grind
   have z:cl.argTypes[0]?=Z ty:=by rw[j0]at C;grind
   refine⟨goInt p.size,?_,by rw[K];exact .sym _ _ (.lit _)⟩;simp[execOp,B,resolve,hb,run_bind,run_pure,andThen_ok,invoke,builtin,Builtin.len_,z,P,aJ ht,ef]
  split at h
  .rename_i m kt vt l i f;obtain⟨_,rfl,rfl⟩:=h;exact⟨rfl,key l.length _ f (λx q=>by cases q with|map _ p c R _=>simp_all) m i⟩
  .rename_i m kt l i f;obtain⟨_,rfl,rfl⟩:=h;exact⟨rfl,key l.length _ f (λx q=>by cases q with|map _ p c R _=>simp_all) m i⟩
  .cases h
 .rename_i x y;split at h;rotate_left
  .cases h
  rename_i m n i A;obtain⟨_,rfl,rfl⟩:=h
  let ⟨a1,ha⟩:=MG e i A
  refine⟨rfl,.int .i64 (abS m n),?_,.sym _ _ (.lit _)⟩
  simp_all[execOp,resolve,invoke,builtin,abp]
 .rename_i x y;split at h;rotate_left
  .cases h
  rename_i m n i A;obtain⟨_,rfl,rfl⟩:=h
  let ⟨a1,ha⟩:=MG e i A
  refine⟨rfl,.int .i64 (abR m n),?_,.sym _ _ (.lit _)⟩
  simp_all[execOp,resolve,invoke,builtin,abo]
 .cases h
where
 MG {l:Array Operand} {a:Act} {x y:V S} {m n:Int} (e:PW (aH g w) (bq [x,y]) (l.toList.map a.eval)) (i:iu .i64 x=Z m) (A:iu .i64 y=Z n):True∧l.map a.eval=#[.int .i64 m,.int .i64 n]:=by
  refine⟨trivial,?_⟩;have R:(l.toList.map a.eval).length=2:=by have:=e.1;simpa[bq]using this.symm
  match TJ:l.toList.map a.eval,R with
  |[u,v],_=>
   rw[TJ]at e;have h1:=e.2 0 _ _ rfl rfl;have h2:=e.2 1 _ _ rfl rfl
   grind[gu,dS]
def LI(hX:XOk S E)(hs:aV g (aB s) w)(hf:cR g (bB fr) a w)(I:o.op=.call cl)(hb:cl.callee=.builtin b)(p:jY fr cl.args.toList=Z args)
  (h:tY E s b cl.argTypes args=Z (c,t,s')):∃v w' g',(execOp a.eval o).run E.E.P w=.ok (.value v) w'∧aH g' w' (low t) v∧cP [] s g w s' g' w':=by
 have i:=eT hf (gU p);unfold tY at h;split at h;rotate_left
 .cases h
 rename_i q kv;split at h;rotate_left
 .cases h
 rename_i m kt K l hm y;split at h;rotate_left
 .cases h
 rename_i l' k R z;obtain⟨r,h9⟩|⟨_,h9⟩:=af h
 rotate_left
 .cases h9
 obtain⟨rfl,j⟩:=Hx R;cases j;obtain⟨_,rfl,rfl⟩:=h9;have r:s.fl<=q:=gN r;simp only[vP]at hm;obtain⟨ty,Li,hmt⟩:=hm
 let ⟨kid,d,ht,hu,x,_,_⟩:=hX.mt _ _ hmt
 have A:(cl.args.toList.map a.eval).length=2:=by have:=i.1;simpa[bq]using this.symm
 match j:cl.args.toList.map a.eval,A with
 |[u,v],_=>
 rw[j]at i
 let ⟨bP,hbe,e⟩:=aH.GB (i.2 0 _ _ rfl rfl)
 have WB:=qQ z (i.2 1 _ _ rfl rfl);obtain⟨x0,hh,YH⟩:=(hs.box q bP e).2.2 _ (by rw[aI,y];rfl);obtain⟨ms,cc,rfl,hmr⟩:=gS.MM x (f:=ec S K) YH;have n:(cl.args.map a.eval)=#[.map (Z bP),e9 m.kt k]:=by apply Array.toList_inj.1;rw[S8,j,hbe,WB]
 have B:cl.argTypes[0]?=Z ty:=by rw[j0]at Li;grind
 let ⟨ms',C,F⟩:=Ql (P:=E.E.P) x ht hu k hh hmr B (ty:=o.type) (args:=cl.args.map a.eval) (by rw[n];rfl) (by rw[n];rfl)
 let ⟨q1,q2,q3⟩:=EI (.map ms' cc) (hs.box q bP e).2.1
 let ⟨Mv,VH⟩:=hs.setObj e (by rw[aI,y];rfl) rfl r (ob':=cW (.map m.kt K (LA m.kt k l'))) (Ey.ob x (f:=ec S K) F cc) q1 q2 q3 rfl rfl
 refine⟨.tuple #[],_,g,?_,.sym _ _ (.lit _),cP.kQ hs (by rw[ey];exact Mv) VH rfl rfl (eM _) (pz _ _ _)⟩;simp[execOp,I,resolve,hb,run_bind,run_pure,andThen_ok,invoke,builtin,C]
theorem Qk{E:fX}(j:XOk S E){t:TypeId}{b:String}{f:FuncId}(h:E.KT t b=Z f)(v:Value)(args:Array Value)(hf:lX E.E.P f):(callMethod (.iface t v) b args).run E.E.P w=.ok (.enter f (#[v]++args)) w:=by
 let ⟨x,q,d,k,l,m,o,a⟩:=j.KT _ _ _ h
 obtain⟨n,p⟩:∃n,E.E.P.types.size+Made.depth=n+1:=⟨E.E.P.types.size+Made.depth-1,by rfl⟩;have c:(method (E.E.P.types.size+Made.depth) t v b).run E.E.P w=.ok (f,v) w:=by
  rw[p];simp only[method,run_bind,so k,andThen_ok,l,m,follow,run_pure];obtain⟨a,g⟩|⟨a,e,rfl⟩:=a
  .simp only[a,run_bind,receiverAt,aJ o,andThen_ok];cases d<;>first|(exact absurd rfl (g _))|(simp[Place.get])
  simp_all[receiverAt,aJ,Place.get]
 have i:(Go.program).run E.E.P w=.ok E.E.P w:=rfl
 grind[callMethod,run_bind,andThen_ok,xI]
def M3(g:XOk S E){c:Call}(b:o.op=.call c){x:Operand}{m:String}(d:c.callee=.invoke x m){t:TypeId}{v:Value}(e:a.eval x=.iface t v){f:FuncId}(h:E.KT t m=Z f)(i:lX E.E.P f) :
  (execOp a.eval o).run E.E.P w=.ok (.enter f (#[v]++c.args.map a.eval)) w:=by
 simp only[execOp,b,resolve,d,e,run_bind,run_pure,andThen_ok,invoke]
 grind[Array.ext',Array.toList_extract,List.take_of_length_le,Qk]
end
end
section
section
variable {g:Gh}{w:World}
def lZ(s:aY S)(o:Nat)(ob:Ob):St:={aB s with ob:=(aB s).ob.set aK o ob}
variable {s s':aY S}{o n j era m gX k r i off:Nat}{hole:Option Nat}{hl:List Value}{d:D}{h v:Value}{a:Act}
def I3(hs:aV g (aB s) w){l:L (S.A n)}{x:eY}(a:s.ob.get o=Z (.lD n j l era m gX hole))(b:g.arr o era=Z x) :
  ∃hl,hl.length=l.length∧xC g w J (S.width (.st n)) (lits j (l.map (enc S (.st n))) hl) x∧IZ g m gX hole hl∧aV g (lZ s o (.arr (S.width (.st n)) (lits j (l.map (enc S (.st n))) hl) era)) w:=by
 obtain⟨hl,h1,h2,h3,h4⟩:=hs.view (by rw[aI,a];rfl) b;exact⟨hl,by simpa using h1,h2,h3,h4⟩
def Aj{s1:St}(h:aV g s1 w){l:L (S.A n)}(a:o<bC)(h1:s1.ob.get o=Z (.arr (S.width (.st n)) (lits j (l.map (enc S (.st n))) hl) era))(b:hl.length=l.length)
  (c:IZ g m gX hole hl) (h2:s'.ob.get o=Z (.lD n j l era m gX hole)) (h3:∀k,k≠o->(aB s').ob.get k=s1.ob.get k) (h4:s'.aE=s1.aE):aV g (aB s') w:=by
 refine(h.WO (es:=l.map (enc S (.st n))) a h1 (by grind) c).Zd h4 λk=>?_;rw[Tr.aR _ _ _ _ a];by_cases d:k=o
 .subst d;rw[bw rfl,aI,h2];rfl
 simp_all
def gC(a:o<bC)(ob:Ob)(k:Nat):(lZ s o ob).ob.get k=if k=o then Z ob else(aB s).ob.get k:=Tr.aR _ _ _ _ a
def KZ{es:L D}(h1:es[k]?=Z d)(h2:hl[k]?=Z h):jf (lits j es hl) k=jw j d h:=by
 grind[jf,lits]
def Fs(h:aH g w (.sh o r) v):∃x,g.arr o r=Z x∧v=.slice x.a x.len x.cap:=by cases h with|sh _ _ len cap sz a b=>simp_all
def TU{e:Nat}(h:aH g w (.lQ o e i off) v):∃x,g.arr o e=Z x:=by cases h with|lQ _ _ _ _ len cap sz a b=>grind
def Tq(h:aH g w (.sx o m r i) v):∃y,g.arr m (rc r i)=Z y∧v=.slice y.a y.len y.cap:=by cases h with|sx _ _ _ _ len cap sz a b=>simp_all
def U4(fr:Fr)(x:Operand)(t:T):Fr:=match x with
 |.tmp k=>{fr with tm:=fr.tm.set aK k t}
 |_=>fr
def ND{fr:Fr}(hf:cR g fr a w){u t:T}(c:fr.get k=Z u)(b:k<bC)(f:aH g w t (a.eval (.tmp k))):cR g (U4 fr (.tmp k) t) a w:=by
 refine⟨hf.size,hf.df,λd e h=>?_⟩;simp[U4,Fr.get]at h;rw[Tr.aR _ _ _ _ b]at h;split at h
 .cases h
  let ⟨v,i,_⟩:=hf.tm _ _ c
  simp_all[Act.eval]
 .exact hf.tm d e h
def U7{i:TI}(b:Nl (Na off i.size) j=W∨Nt j off=W):m8 i (jw j d h) off=m8 i d off:=by
 have a:∀q,(off<=q∧q<off+i.size)->(jw j d h).cell q=d.cell q:=by
  intro q c;have e:j≠q:=by
   obtain b|b:=b
   .have:=gN b
    grind
   .have:j<off:=gN b;omega
  show(d.cells.set j _).getD q _=d.cells.getD q _
  simp_all
 unfold m8;cases i.agg with
 |true=>
  simp only[gY]
  congr 2
  refine Xe λq c=>?_;have:=a (Na off q) ⟨Nat.le_add_right _ _,Nat.add_lt_add_left (List.mem_range.1 c) _⟩;rw[this]
 |false=>
  simp;cases f:Nq i.size 1 with|true=>have:=beq_iff'.1 f;simp only[gY];rw[a off ⟨eM _,by omega⟩]|false=>rfl
def MN(s:St):∀{l:L T}{p:Prop}{ds:L D}{os:L Nat}{j:Nat},nZ s l=Z (p,ds,os)->l[j]?=Z .emp->∀v,∃b,nZ s (l.set j (.sym (.lit v)))=Z (b,ds.set j (.lit v),os)∧(p->b)∧ds[j]?=Z (.sl [])
 |[],p,ds,os,j,_,a,v=>by simp at a
 |t::l,p,ds,os,j,h,a,v=>by
  simp[nZ]at h;split at h
  .rename_i q d c r e f h1 h2;obtain⟨rfl,rfl,rfl⟩:=h;cases j with
   |zero=>simp at a;subst a;obtain⟨rfl,rfl,rfl⟩:=h1;exact⟨True∧r,by grind[nZ,BP],λh=>h,rfl⟩
   |succ j=>obtain⟨b,k,g,i⟩:=MN s h2 (by simpa using a) v;exact⟨q∧b,by grind[nZ],λh=>⟨h.1,g h.2⟩,by simpa using i⟩
  .cases h
def abL{E:fX}(hS:fc S)(hT:BC E.E)(hTy:Sa S E){fr:bX S}(hf:cR g (bB fr) a w)(hs:aV g (aB s) w)(o:Oper){c:Bool}{t:V S}(h:BL E fr s o.op=Z (c,t,s'))(hc:c=W) :
  ∃v w' g',((execOp a.eval o).run E.E.P w=.ok (.value v) w'∨((execOp a.eval o).run E.E.P w=.ok .skip w'∧v=undef))∧aH g' w' (low t) v∧cP [] s g w s' g' w':=by
 unfold BL at h;split at h
 ·
  rename_i ty x ix R;split at h;rotate_left
  .cases h
  rename_i I r hx;split at h;rotate_left
  .cases h
  rename_i n j l era m gX hole lg;split at h;rotate_left
  .cases h
  rename_i i n' kv hi Li hix;split at h;rotate_left
  .cases h
  rename_i sz ag bt zz k vV hk;obtain⟨hb,f⟩|⟨_,f⟩:=af h
  rotate_left
  .cases f
  simp only[eZ]at hb;have YF:=beq_iff'.1 hb.1;subst YF;have hnn:=beq_iff'.1 hb.2;subst hnn;obtain⟨rfl,rfl,rfl⟩:=f
  let ⟨xs,C,_⟩:=Fs (cS hf hx)
  have A:I<bC:=iO (hs.lt' C) hs.aE
  let ⟨hl,h1,h2,h3,h4⟩:=I3 hs lg C
  let ⟨p,hp1,hp⟩:=gu hk
  let ⟨⟨z,Oa,_⟩,_⟩:=hTy.row _ _ _ hi Li
  have hin:=wG hc;have hbq:Nq (S.width (.st n)) (S.width (.st n))=W:=beq_iff'.2 rfl;have F:(lits j (l.map (enc S (.st n))) hl).length=l.length:=by rw[oa (by simpa using h1)];simp
  let ⟨⟨v,w',g',hr,B,he,ht⟩,q1,q2,q3⟩:=nC hT hf h4 o (p:=p∧lH k (eH (lits j (l.map (enc S (.st n))) hl))) (t:=.lQ I r (Ee k) 0) (s':=lZ s I (.arr (S.width (.st n)) (lits j (l.map (enc S (.st n))) hl) r)) (by
   rw[R];simp[oE,hi,cz hx,cz hix,j7,Oa,hp1,low,IT];rw[gC A,bw rfl];simp) ⟨hp,by simp[lH,eH,F];omega⟩
  refine⟨v,w',g',hr,ht,cP.kQ hs ?_ he rfl rfl (eM _) (rz.refl _)⟩;refine Aj B A (by rw[gC A,bw rfl]) h1 (h3.le (λj y=>he.arr m j y)) lg (λk hk=>by rw[gC A,bL hk]) rfl
 ·
  rename_i ty x R;split at h;rotate_left
  .cases h
  rename_i I e k off hx;split at h;rotate_left
  .cases h
  rename_i n j l era m gX hole lg;split at h;rotate_left
  .cases h
  rename_i i hi;obtain⟨hb,f⟩|⟨_,f⟩:=af h
  rotate_left
  .cases f
  clear h;have YF:=beq_iff'.1 hb;subst YF
  let ⟨xs,C⟩:=TU (cS hf hx)
  have A:I<bC:=iO (hs.lt' C) hs.aE
  let ⟨hl,h1,h2,h3,h4⟩:=I3 hs lg C
  have F:(lits j (l.map (enc S (.st n))) hl).length=l.length:=by rw[oa (by simpa using h1)];simp
  have back:∀{g':Gh}{w':World},aV g' (lZ s I (.arr (S.width (.st n)) (lits j (l.map (enc S (.st n))) hl) e)) w'->Ext s.fl g w g' w'->cP [] s g w s g' w':=λB he=>
   cP.kQ hs (Aj B A (by rw[gC A,bw rfl]) h1 (h3.le (λj y=>he.arr m j y)) lg (λk hk=>by rw[gC A,bL hk]) rfl) he rfl rfl (eM _) (rz.refl _)
  obtain⟨hj,h⟩|⟨hj,h⟩:=af f
  ·
   clear f;obtain⟨K,f⟩|⟨_,f⟩:=af h
   rotate_left
   .cases f
   simp only[eZ,Nf]at K;obtain⟨rfl,rfl,rfl⟩:=f;have hoff:=beq_iff'.1 hj;subst hoff;have hk:=tM hc;have hel:jf (lits off (l.map (enc S (.st n))) hl) k=jw off (enc S (.st n) l[k]) (hl[k]'(by omega)):=KZ (by rw[kV,iR hk];rfl) (iR _);have hrow:=h2.rows _ (iq (by rw[lits,Xc,kV,iR hk,iR (by omega:k<hl.length)];rfl:(lits off (l.map (enc S (.st n))) hl)[k]?=Z (jw off (enc S (.st n) l[k]) (hl[k]'(by omega)))));have hsz:i.size=1:=beq_iff'.1 K.1;have TG:off<S.width (.st n):=gN K.2.2.2;have hcell:(jw off (enc S (.st n) l[k]) (hl[k]'(by omega))).cell off=.lit (hl[k]'(by omega)):=by
    show((enc S (.st n) l[k]).cells.set off _).getD off _=_;have:off<(enc S (.st n) l[k]).cells.length:=by rw[kH hS];exact TG
    simp[this]
   let ⟨⟨v,w',g',hr,B,he,ht⟩,q1,q2,q3⟩:=nC hT hf h4 o (t:=.sym (.lit (hl[k]'(by omega)))) (s':=lZ s I (.arr (S.width (.st n)) (lits off (l.map (enc S (.st n))) hl) e)) (p:=lH (k:Int) (eH (lits off (l.map (enc S (.st n))) hl))∧(jf (lits off (l.map (enc S (.st n))) hl) k).has (Na off i.size)) (by
    rw[R];simp only[oE,hi,cz hx,low,loadT,IT];rw[gC A,bw rfl];simp[show Nq e e=W from beq_iff'.2 rfl,gY,hel,m8,K.2.1,jo,K.1,hcell,jA]) ⟨by simp only[lH,eH,F];omega,by
     rw[hel];show Na off i.size<=_;rw[hrow,hsz];exact TG⟩
   have hv:=aH.AX ht
   let ⟨y,hy,hye⟩:=h3.2 k _ (iR (by omega)) (by
    intro e;rw[e]at K;exact Bool.noConfusion K.2.2.1)
   refine⟨v,w',g',hr,?_,back B he⟩;rw[hv,hye];exact .sx _ _ _ _ _ _ y.sz _ (he.arr _ _ _ hy)
  ·
   clear f;obtain⟨K,f⟩|⟨_,f⟩:=af h
   rotate_left
   .cases f
   simp at f;obtain⟨u,hu,rfl,rfl,rfl⟩:=f;rw[oG]at K;have hk:=tM hc
   let ⟨p1,p2⟩:=Ca hS (i:=i) (τ:=Y) (λu h=>by cases h) hu
   have hex:bp l k (S.zero (.st n))=l[k]:=by simp[bp,hk]
   rw[hex]at p1 p2;have hel:jf (lits j (l.map (enc S (.st n))) hl) k=jw j (enc S (.st n) l[k]) (hl[k]'(by omega)):=KZ (by rw[kV,iR hk];rfl) (iR _)
   let ⟨⟨v,w',g',hr,B,he,ht⟩,q1,q2,q3⟩:=nC hT hf h4 o (t:=low u) (s':=lZ s I (.arr (S.width (.st n)) (lits j (l.map (enc S (.st n))) hl) e)) (p:=lH (k:Int) (eH (lits j (l.map (enc S (.st n))) hl))∧(jf (lits j (l.map (enc S (.st n))) hl) k).has (Na off i.size)) (by
    rw[R];simp only[oE,hi,cz hx,low,loadT,IT];rw[gC A,bw rfl];simp[show Nq e e=W from beq_iff'.2 rfl,gY,hel,U7 K,p1,jA]) ⟨by simp only[lH,eH,F];omega,by
     rw[hel];show Na off i.size<=((enc S (.st n) l[k]).cells.set j _).length;rw[Qv];exact p2⟩
   exact⟨v,w',g',hr,ht,back B he⟩
 ·
  rename_i ty x kx R;split at h;rotate_left
  .cases h
  rename_i I e k off o' m' r i hx hy;split at h;rotate_left
  .cases h
  rename_i n j l era m gX hh lg;split at h;rotate_left
  .cases h
  rename_i ti hi;obtain⟨hb,f⟩|⟨_,f⟩:=af h
  rotate_left
  .cases f
  clear h;simp only[eZ,Nf]at hb
  let ⟨b1,b2,b3,b4,b5,b6,b7,b8,b9,b10⟩:=hb
  have e1:=beq_iff'.1 b1;subst e1;have e2:=beq_iff'.1 b2;subst e2;have e3:=beq_iff'.1 b3;subst e3;have e4:=beq_iff'.1 b4;subst e4;have e5:=beq_iff'.1 b5;subst e5;obtain⟨rfl,rfl,rfl⟩:=f;unfold YI at hc;simp only[eZ]at hc;have hk:=tM hc.1;have e6:=beq_iff'.1 hc.2.1;subst e6;have e7:=beq_iff'.1 hc.2.2;subst e7
  let ⟨xs,C⟩:=TU (cS hf hx)
  have A:o'<bC:=iO (hs.lt' C) hs.aE
  let ⟨hl,h1,h2,h3,h4⟩:=I3 hs lg C
  have F:(lits off (l.map (enc S (.st n))) hl).length=l.length:=by rw[oa (by simpa using h1)];simp
  have TG:off<S.width (.st n):=gN b9;have hval:=cS hf (x:=.tmp kx) (v:=.sx o' m' r i) hy
  let ⟨y,hy1,hye⟩:=Tq hval
  have hel:jf (lits off (l.map (enc S (.st n))) hl) i=jw off (enc S (.st n) l[i]) (hl[i]'(by omega)):=KZ (by rw[kV,iR hk];rfl) (iR _);have hf':=ND hf (k:=kx) (u:=low (.sx o' m' r i)) (t:=.sym (.lit (.slice y.a y.len y.cap))) (by show(bB fr).get kx=_;rw[bW,hy];rfl) (gN b10) (by rw[hye];exact .sym _ _ (.lit _));have af8:jZ (U4 (bB fr) (.tmp kx) (.sym (.lit (.slice y.a y.len y.cap)))) (.tmp kx)=Z (.sym (.lit (.slice y.a y.len y.cap))):=by show((bB fr).tm.set aK kx _).get kx=_;rw[Tr.aR _ _ _ _ (gN b10),bw rfl]
  have aqc:jZ (U4 (bB fr) (.tmp kx) (.sym (.lit (.slice y.a y.len y.cap)))) x=Z (.lQ o' e i off):=by
   have h0:=cz hx;cases x with
   |tmp k2=>
    show((bB fr).tm.set aK kx _).get k2=_;rw[Tr.dA _ _ _ _ _ (λe=>by
     subst e;have h5:fr.get k2=Z (.lQ o' e i off):=hx;rw[hy]at h5;cases h5)]
    exact h0
   |_=>exact h0
  have ajN:(jw off (enc S (.st n) l[i]) (hl[i]'(by omega))).PS off [.lit (.slice y.a y.len y.cap)]=jw off (enc S (.st n) l[i]) (.slice y.a y.len y.cap):=by
   have hlt:off<(enc S (.st n) l[i]).cells.length:=by rw[kH hS];exact TG
   show D.agg _=D.agg _
   congr 1
   rw[List.take_set_of_le (eM _),rH,List.drop_set_of_lt (Nat.lt_succ_self _)];apply Nz;intro q;simp only[AF,tq,KJ,Qy,UX,NA,rH];obtain hq|hq|hq:=Nat.lt_trichotomy q off
   .rw[bw (by omega),bw hq,bL (by omega)]
   .subst hq;rw[bL (by omega),bw (by omega),bw rfl,bw hlt];simp[Nat.min_eq_left (Jg hlt)]
   .rw[bL (by omega),bL (by omega),bL (by omega)]
    congr 1
    omega
  have hby:(jw off (enc S (.st n) l[i]) (.slice y.a y.len y.cap)).sL=(jw off (enc S (.st n) l[i]) (hl[i]'(by omega))).sL:=by
   let ⟨a0,n0,m0,he0⟩:=h3.1 i _ (iR (by omega:i<hl.length))
   rw[he0,<-A3 off (enc S (.st n) l[i]) [] a0 n0 m0,<-A3 off (enc S (.st n) l[i]) [] y.a y.len y.cap]
  have acP:(jw off (enc S (.st n) l[i]) (hl[i]'(by omega))).isAgg (S.width (.st n))=W:=by
   let ⟨a0,n0,m0,he0⟩:=h3.1 i _ (iR (by omega:i<hl.length))
   rw[he0];show(Nq (cD ((enc S (.st n) l[i]).cells.set off _)) _&&((enc S (.st n) l[i]).cells.set off _).all D.leaf)=W;rw[eZ,bS,Qv,kH hS];refine⟨beq_iff'.2 rfl,kA.2 λd hd=>?_⟩;obtain hd|rfl:=Xi hd
   .rw[show(enc S (.st n) l[i]).cells=eW S (S.fs n) (S.get n l[i])from hS.cells n _]at hd;exact ic _ _ (hS.leaf n) d hd
   .rfl
  have hput:y8 (lits off (l.map (enc S (.st n))) hl) i (jw off (enc S (.st n) l[i]) (.slice y.a y.len y.cap))=lits off (l.map (enc S (.st n))) (hl.set i (.slice y.a y.len y.cap)):=by
   apply Nz;intro q;simp[y8,lits];by_cases hq:i=q
   .subst hq;rw[Xd (by simp;omega),Xc,kV,Xd (by omega),iR hk];rfl
   .rw[List.getElem?_set_ne hq,Xc,Xc,List.getElem?_set_ne hq]
  let ⟨⟨v,w',g',hr,B,he,ht⟩,q1,q2,q3⟩:=nC hT hf' h4 o (t:=SQ) (s':={lZ s o' (.arr (S.width (.st n)) (lits off (l.map (enc S (.st n))) hl) e)with ob:=(lZ s o' (.arr (S.width (.st n)) (lits off (l.map (enc S (.st n))) hl) e)).ob.set aK o' (.arr (S.width (.st n)) (lits off (l.map (enc S (.st n))) (hl.set i (.slice y.a y.len y.cap))) e)})
   (p:=(D.lit (.slice y.a y.len y.cap)).leaf=W∧(True∧True)∧[D.lit (.slice y.a y.len y.cap)].all D.leaf=W∧lH (i:Int) (eH (lits off (l.map (enc S (.st n))) hl))∧(jw off (enc S (.st n) l[i]) (hl[i]'(by omega))).SV (S.width (.st n)) off (cD [D.lit (.slice y.a y.len y.cap)])∧Nl (Na off (cD [D.lit (.slice y.a y.len y.cap)])) (S.width (.st n))=W∧((jw off (enc S (.st n) l[i]) (hl[i]'(by omega))).PS off [.lit (.slice y.a y.len y.cap)]).sL=(jw off (enc S (.st n) l[i]) (hl[i]'(by omega))).sL) (by
   rw[R];have hg:=gC (s:=s) A (.arr (S.width (.st n)) (lits off (l.map (enc S (.st n))) hl) e) o';rw[bw rfl]at hg;have aqK:Nl (lZ s o' (.arr (S.width (.st n)) (lits off (l.map (enc S (.st n))) hl) e)).fl o'=W:=b8;simp[oE,hi,aqc,af8,storeT,kj,b7,b6,jo,gY,nZ,BP,jB,freeze,hg,aqK,show Nq e e=W from beq_iff'.2 rfl,No,hel,ajN,hput]) ⟨rfl,⟨trivial,trivial⟩,rfl,⟨Int.natCast_nonneg _,by show(i:Int)<((lits off (l.map (enc S (.st n))) hl).length:Int);rw[F];exact Int.ofNat_lt.2 hk⟩,.inl acP,Nn (by show off+1<=_;omega),by rw[ajN,hby]⟩
  have hgn:∀q,({lZ s o' (.arr (S.width (.st n)) (lits off (l.map (enc S (.st n))) hl) e)with ob:=(lZ s o' (.arr (S.width (.st n)) (lits off (l.map (enc S (.st n))) hl) e)).ob.set aK o' (.arr (S.width (.st n)) (lits off (l.map (enc S (.st n))) (hl.set i (.slice y.a y.len y.cap))) e)}:St).ob.get q=if q=o' then Z (.arr (S.width (.st n)) (lits off (l.map (enc S (.st n))) (hl.set i (.slice y.a y.len y.cap))) e)else(lZ s o' (.arr (S.width (.st n)) (lits off (l.map (enc S (.st n))) hl) e)).ob.get q:=λq=>Tr.aR _ _ _ _ A
  refine⟨v,w',g',hr,ht,cP.kQ hs (Aj B (hl:=hl.set i (.slice y.a y.len y.cap)) A (by rw[hgn,bw rfl]) (by simpa using h1) ⟨λq hv hq=>?_,λq hv hq _=>?_⟩ (by show(s.ob.set aK o' _).get o'=_;rw[Tr.aR _ _ _ _ A,bw rfl]) (λq hq=>?_) rfl) he rfl rfl (eM _) (pz _ _ _)⟩
  .rw[Qy]at hq;split at hq
   .rw[bw (by omega)]at hq;cases hq;exact⟨_,_,_,rfl⟩
   .exact h3.1 q hv hq
  .rw[Qy]at hq;split at hq
   .rename_i e;subst e;rw[bw (by omega)]at hq;cases hq;exact⟨y,he.arr _ _ _ hy1,rfl⟩
   .rename_i e
    let ⟨yy,k1,k2⟩:=h3.2 q hv hq (λh=>e (jT h))
    exact⟨yy,he.arr _ _ _ k1,k2⟩
  .rw[hgn,bL hq,gC A,bL hq,aI,aI];show((s.ob.set aK o' _).get q).map cW=_;rw[Tr.aR _ _ _ _ A,bL hq]
 ·
  rename_i ty len parts R;split at h;rotate_left
  .rename_i Q7;split at h;rotate_left
   .cases h
   rename_i i e hi Li;split at h;rotate_left
   .cases h
   rename_i sz ag bt zz vV;obtain⟨hb,f⟩|⟨_,f⟩:=af h
   rotate_left
   .cases f
   obtain⟨_,rfl,rfl⟩:=f;have F:len=0:=beq_iff'.1 hb;subst F;have hle:Nl (Nat.mul 0 sz) 16777216=W:=by rw[show Nat.mul 0 sz=0 from Nat.zero_mul sz];rfl
   have h0:cF E fr s o.op=Z (W,.kr 0 e [],s):=by rw[R];simp only[cF,hi,Li,Q7,iU,vV,hle,gY,List.replicate_zero,oP,dU,jA]
   let ⟨p,aqd,hp⟩:=NO hS hTy h0 rfl
   let ⟨⟨v,w',g',hr,B,he,ht⟩,q1,q2,q3⟩:=nC hT hf hs o aqd hp
   refine⟨v,w',g',hr,?_,cP.kQ hs B he q1 q2 q3 (mo (show dU s []=Z s from rfl))⟩;cases ht with|kr _ _ a0 hn0 hd=>exact .emp a0
  .cases h
  rename_i kx Q7;split at h;rotate_left
  .cases h
  rename_i i n cs hi Li hkx;split at h;rotate_left
  .cases h
  rename_i j hnst;split at h;rotate_left
  .cases h
  rename_i sz ag bt zz vV hnj;obtain⟨hb,f⟩|⟨_,f⟩:=af h
  rotate_left
  .cases f
  clear h;split at f;rotate_left
  .cases f
  rename_i x os hx;simp only[fM,fh]at f;obtain⟨s1,Af,_,rfl,rfl⟩:=f;simp only[eZ]at hb;have akg:=beq_iff'.1 hb.1;subst akg;have hkN:kx<bC:=gN hb.2.2
  let ⟨⟨z,Oa,hz⟩,_,_,hpos⟩:=hTy.row _ _ _ hi Li
  rw[vV]at Oa;obtain⟨rfl,rfl,rfl,rfl⟩:=Kd.slice.inj Oa;have hfz:=dx hS os Af;have hval:=cS hf (x:=.tmp kx) (v:=.agg cs) hkx;generalize hve:a.eval (.tmp kx)=ve at hval;obtain⟨vs,rfl,oL⟩:=aH.TA hval;have hcj:(bq cs)[j]?=Z .emp:=by rw[j0]at hnj;rw[eU,kV,hnj];rfl
  obtain⟨vj,hvj⟩:∃vj,vs.toList[j]?=Z vj:=by have:=cw hcj;exact⟨_,iR (by have:=oL.1;omega)⟩
  have aqQ:=oL.2 j _ _ hcj hvj;obtain⟨c,rfl⟩:∃c,vj=.slice c 0 0:=by cases aqQ with|emp c=>exact⟨c,rfl⟩
  have ajM:aH g w (.agg ((bq cs).set j (.sym (.lit (.slice c 0 0))))) (.agg vs):=by
   refine .agg _ vs (by simpa using oL.1) λq t v h1 h2=>?_;rw[Qy]at h1;split at h1
   .rename_i e;subst e;rw[bw (cw hcj)]at h1;cases h1;have:vs.toList[j]?=Z v:=by simpa using h2
    rw[hvj]at this;cases this;exact .sym _ _ (.lit _)
   .exact oL.2 q t v h1 (by simpa using h2)
  have hf':=ND hf (k:=kx) (u:=low (.agg cs)) (t:=.agg ((bq cs).set j (.sym (.lit (.slice c 0 0))))) (by rw[bW,hkx];rfl) hkN (by rw[hve];exact ajM);have af8:jZ (U4 (bB fr) (.tmp kx) (.agg ((bq cs).set j (.sym (.lit (.slice c 0 0)))))) (.tmp kx)=Z (.agg ((bq cs).set j (.sym (.lit (.slice c 0 0))))):=by show((bB fr).tm.set aK kx _).get kx=_;rw[Tr.aR _ _ _ _ hkN,bw rfl]
  simp[bU]at hx;split at hx;rotate_left
  .cases hx
  rename_i hh os' C;obtain⟨rfl,rfl⟩:=hx
  let ⟨q,hq,hqp⟩:=p9 hS s _ _ C
  let ⟨q',hq',hqq,Mw⟩:=MN (aB s) hq hcj (.slice c 0 0)
  have GI:(enc S (.st n) (S.ER n hh)).cells=eW S (S.fs n) hh:=by show S.cells n _=_;rw[hS.cells,hS.sC]
  have hzl:cD zz=S.width (.st n):=by simp[kF,gY,enc,D.agg.injEq]at hz;rw[hz];simp[Sg.width,bS];rw[show S.cells n (S.zero (.st n))=_ from hS.cells n _,mO]
  have YR:((kF (.st n)||Nq (S.width (.st n)) 1)&&(Nq (cD zz) (S.width (.st n))&&(!(Nq (S.width (.st n)) 0)&&Nl (Nat.mul 1 (S.width (.st n))) 16777216)))=W:=by rw[hzl];simp only[eZ,Nf];refine⟨rfl,beq_iff'.2 rfl,?_,by simpa using hb.2.1⟩;cases hq:Nq (S.width (.st n)) 0 with|false=>rfl|true=>have:=beq_iff'.1 hq;omega
  have acP:(D.agg ((eW S (S.fs n) hh).set j (.lit (.slice c 0 0)))).isAgg (S.width (.st n))=W:=by
   show(Nq (cD ((eW S (S.fs n) hh).set j _)) _&&((eW S (S.fs n) hh).set j _).all D.leaf)=W;rw[eZ,bS,Qv,mO];refine⟨beq_iff'.2 (bS _).symm,kA.2 λd hd=>?_⟩;obtain hd|rfl:=Xi hd
   .exact ic _ _ (hS.leaf n) d hd
   .rfl
  have hall:((eW S (S.fs n) hh).set j (.lit (.slice c 0 0))).all D.leaf=W:=by have h0:(Nq (cD ((eW S (S.fs n) hh).set j _)) _&&((eW S (S.fs n) hh).set j (.lit (.slice c 0 0))).all D.leaf)=W:=acP;rw[eZ]at h0;exact h0.2
  let ⟨⟨v,w',g',hr,B,he,ht⟩,q1,q2,q3⟩:=nC hT hf' hs o (t:=.kr 1 [D.agg ((eW S (S.fs n) hh).set j (.lit (.slice c 0 0)))]) (s':=aB s1)
   (p:=(q'∧((eW S (S.fs n) hh).set j (.lit (.slice c 0 0))).all D.leaf=W)∧(D.agg ((eW S (S.fs n) hh).set j (.lit (.slice c 0 0)))).isAgg (S.width (.st n))=W∧True) (by
   rw[R];have hps:su (U4 (bB fr) (.tmp kx) (.agg ((bq cs).set j (.sym (.lit (.slice c 0 0)))))) parts.toList=Z [(0,.agg ((bq cs).set j (.sym (.lit (.slice c 0 0)))))]:=by rw[Q7];simp[su,af8]
   simp only[oE,hi,hps,vV,gY,sH,BP,hq',List.replicate,cD,kF,show Nt 0 (Ns 0)=W from rfl,List.set_cons_zero,jB,hfz,jA];have ago:((W||Nq (S.width (.st n)) 1)&&(Nq (cD zz) (S.width (.st n))&&(!(Nq (S.width (.st n)) 0)&&Nl (Nat.mul 1 (S.width (.st n))) 16777216)))=W:=YR;rw[ago];rfl) ⟨⟨hqq hqp,hall⟩,acP,trivial⟩
  refine⟨v,w',g',hr,?_,cP.kQ hs B he q1 q2 q3 (mo Af)⟩;cases ht with
  |kr _ _ a0 hn0 hd=>
   refine .pW _ _ c a0 ?_ ?_
   .rw[GI];exact Mw
   .show dH g'.bh w' (.sl [D.agg ((enc S (.st n) (S.ER n hh)).cells.set j _)]) _;rw[GI];exact hd
 ·
  rename_i ty x hi R;split at h;rotate_left
  .cases h
  rename_i i I r hv VD hx hh;split at h;rotate_left
  .cases h
  rename_i sz ag bt zz l era n vV lg hn;obtain⟨hb,f⟩|⟨_,f⟩:=af h
  rotate_left
  .cases f
  simp only[eZ]at hb;have YF:=beq_iff'.1 hb.1;subst YF;obtain⟨rfl,rfl,rfl⟩:=f;have hc':=Bi hc
  let ⟨xs,C,hval⟩:=Fs (cS hf hx)
  let ⟨p,hp1,hp⟩:=gu hn
  have e1:=dS hp1 hp (cS hf hh);have hlo:(aB s).ob.get I=Z (.arr (S.width (.int .i64)) (l.map (enc S (.int .i64))) r):=by show(s.ob.map cW).get I=_;rw[Tr.get_map,lg];rfl
  let ⟨IE,acv⟩:=hs.nJ (fz:=J) hlo C
  let ⟨c0,c1,c2⟩:=hc'
  have F:xs.len=l.length:=by rw[IE.len];simp
  have hcap:=IE.cap;have c2':n<=(l.length:Int):=c2
  let ⟨xi,d1,z1,N7,DJ,_,_,_,_,hk⟩:=(hT.ti _ _ VD).all
  rw[vV]at hk;obtain⟨el,j,d',zv,rfl,hj,yw,_⟩:=hk;have K:=nu (P:=E.E.P) (w:=w) W xs.len xs.cap (low:=Y) (high:=Z (.int .i64 n)) (lo:=0) (hi:=n) (.inl ⟨rfl,rfl⟩) (.inr rfl) (by omega) (by omega) (by omega)
  let x':eY:=⟨xs.a,n.toNat,xs.cap,xs.sz⟩
  have zG:∀b,x'.at b->xs.at b:=λb h=>h
  let ⟨B,he⟩:=hs.ak7 (w':=w) hlo C (x':=x') (es':=(cY l 0 n).map (enc S (.int .i64))) (gN hb.2) rfl rfl (eM _) (λ_ _ _=>rfl) (λb h=>⟨by
   let ⟨ad,h1,h2,h3⟩:=h
   have:=(hs.arr _ _ _ C).1 ad h1 h3;omega,.inr (zG b h)⟩) (by
   have hsub:cY l 0 n=l.take n.toNat:=by simp[cY]
   rw[hsub];refine⟨by simp[x'];omega,by show n.toNat<=xs.cap;omega,λd hd=>?_,IE.pos,λd hd=>?_,λh0=>?_⟩
   .exact IE.rows d (by grind)
   .refine fZ (zn _ ?_) (IE.WD d (by grind));simp;omega
   .let ⟨b,vs,ty,k1,k2,k3,k4,k5⟩:=IE.mem h0
    exact⟨b,vs,ty,k1,k2,k3,k4,λi d j c h1 h2=>k5 i d j c (by grind) h2⟩) acv
  refine⟨.slice xs.a n.toNat xs.cap,w,_,.inl ?_,?_,cP.kQ hs (by rw[ey];exact B) he rfl rfl (eM _) (pz _ _ _)⟩
  .have hrun:(Instr.sliceAt ty (.slice xs.a xs.len xs.cap) Y (Z (.int .i64 n)) Y).run E.E.P w=.ok (.slice xs.a n.toNat xs.cap) w:=by simp only[Instr.sliceAt,Instr.slice,run_bind,aJ DJ,andThen_ok,dn hj,yw,K];cases xs.a<;>simp[Addr.add]
   simp[execOp,R,hval,e1,hrun]
  .exact .sh _ _ _ _ xs.sz _ (Gh.fE _ _ _ _)
 .cases h
end
end
section
section
variable {g:Gh}{w:World}
theorem aV.abF{s:St}(hs:aV g s w){m sz r:Nat}{iQ:L (L D)}(o:s.ob.get m=Z (.rws sz iQ r))(C:m<s.aE)(h0:0<sz)(c:O Addr) :
  aV (g.era m (rc r iQ.length) ⟨c,0,0,sz⟩) {s with ob:=s.ob.set aK m (.rws sz (iQ++[[]]) r)} w∧Ext s.fl g w (g.era m (rc r iQ.length) ⟨c,0,0,sz⟩) w:=by
 have E:m<bC:=iO C hs.aE;have F:g.arr m (rc r iQ.length)=Y:=by
  cases h:g.arr m (rc r iQ.length)with
  |none=>rfl|some y=>
   let ⟨_,S,h2,_⟩:=(hs.qz o h).2.2 _ rfl
   simp_all
 have f:∀k j y,g.arr k j=Z y->(g.era m (rc r iQ.length) ⟨c,0,0,sz⟩).arr k j=Z y:=λk j y h=>by
  rw[Gh.cQ]
  .exact h
  grind
 have d:∀k b,bz (g.era m (rc r iQ.length) ⟨c,0,0,sz⟩) k b->bz g k b:=by
  rintro k b ⟨h1,h2|⟨j,y,A,h2,h3,h4,h5⟩⟩
  .exact ⟨h1,.inl h2⟩
  .by_cases p:k=m∧j=rc r iQ.length
   .obtain ⟨rfl,rfl⟩:=p;rw[Gh.fE]at h2
    grind
   .rw[Gh.cQ _ _ _ _ _ _ p]at h2;exact⟨h1,.inr ⟨j,y,A,h2,h3,h4,h5⟩⟩
 have he:Ext s.fl g w (g.era m (rc r iQ.length) ⟨c,0,0,sz⟩) w:=
  ⟨λ_ _ h=>h,f,λ_ h=>h,eM _,λ_ _ _=>rfl,λk b h=>.inl (d k b h),λ_ h=>.inl h,rfl,rfl⟩
 have ef:∀k,(s.ob.set aK m (.rws sz (iQ++[[]]) r)).get k=if k=m then Z (.rws sz (iQ++[[]]) r)else s.ob.get k:=λk=>Tr.aR _ _ _ _ E
 have hnb:=hs.AR o rfl;refine⟨⟨hs.aE,λk hk=>⟨(hs.ah k hk).1,λj=>?_⟩,λk b hb=>?_,λk j y l=>?_,hs.bh,λk k' b h h'=>hs.jS k k' b (d k b h) (d k' b h')⟩,he⟩
 .rw[Gh.cQ _ _ _ _ _ _ (by grind)];exact(hs.ah k hk).2 j
 .have I:g.bP k=Z b:=hb;have e:k≠m:=by grind
  let ⟨h1,h2,h3⟩:=hs.box k b I
  refine⟨h1,h2,λob a=>?_⟩;rw[ef,bL e]at a
  let ⟨x,k1,k2⟩:=h3 ob a
  exact⟨x,k1,k2.ext he hs.bh⟩
 .by_cases e:k=m
  .subst e;have hcl:∀n i,r<n->g.arr k (rc n i)=Y:=λn i q=>by cases h:g.arr k (rc n i)with|none=>rfl|some z=>rw[(hs.qz o h).1 n i q]at h;cases h
   have K:∀A,y.a=Z A->y.cap≠0->A.block<w.heap.size:=by
    by_cases B:j=rc r iQ.length
    .subst B;rw[Gh.fE]at l
     grind
    .rw[Gh.cQ _ _ _ _ _ _ (λh=>B h.2)]at l;exact(hs.arr k j y l).1
   refine⟨K,λob a=>?_⟩;rw[ef,bw rfl]at a;obtain rfl:=jT a;refine .inr (.inr (.inl ⟨sz,iQ++[[]],r,rfl,λn i q=>?_,λi1 i2 y1 y2 P h1 h2 b t u=>?_,λi B=>?_⟩))
   .grind[Gh.cQ,sq]
   .by_cases v:i1=iQ.length
    .subst v;rw[Gh.fE]at h1;cases h1
     let ⟨_,_,_,h⟩:=t
     grind
    .by_cases e2:i2=iQ.length
     .subst e2;rw[Gh.fE]at h2;cases h2
      let ⟨_,_,_,h⟩:=u
      grind
     .rw[Gh.cQ _ _ _ _ _ _ (λh=>v (sq h.2).2)]at h1;rw[Gh.cQ _ _ _ _ _ _ (λh=>e2 (sq h.2).2)]at h2;exact(hs.qz o h1).2.1 i1 i2 y1 y2 P h1 h2 b t u
   .subst B;by_cases v:i=iQ.length
    .subst v;rw[Gh.fE]at l;cases l;exact⟨rfl,[],by simp,⟨rfl,eM _,by simp,h0,by simp,λh=>absurd rfl h⟩⟩
    .rw[Gh.cQ _ _ _ _ _ _ (λh=>v (sq h.2).2)]at l
     let ⟨q1,S,q2,q3⟩:=(hs.qz o l).2.2 i rfl
     exact⟨q1,S,by grind,q3.j8 rfl⟩
  .have R:g.arr k j=Z y:=by grind[Gh.cQ]
   let ⟨h1,h2⟩:=hs.arr k j y R
   refine⟨h1,λob a=>?_⟩;rw[ef,bL e]at a;exact(h2 ob a).tr (λh=>h.j8 rfl) f (funext λj=>Gh.cQ _ _ _ _ _ _ (λh=>e h.1)) (λ_ _ _=>⟨rfl,vO⟩)
variable {a:Act}{o:Oper}{n j:Nat}
def J9{P:Program}{c:Call}(f:o.op=.call c)(k:c.callee=.builtin .append){u v:Operand}{ty d:TypeId}(l:c.args=#[u,v])(g:c.argTypes=#[ty,d]){R:Value->World->Prop}(h:Ik P ty d o.type (a.eval u) (a.eval v) w R)
  {K:Act->World->Prop} {Q:Exit->Act->World->Prop} (i:∀v w',R v w'->K (a.put o.dst v) w'):o.wp P a w K Q∨(o.asks P a w∧LetsOut Q):=by
 let ⟨r,w',e,j⟩:=h
 left
 unfold Oper.wp;have b:(execOp a.eval o).run P w=.ok (.value r) w':=by
  simp_all[execOp,resolve,invoke,builtin]
 rw[b];exact i r w' j
theorem args2{l:Array Operand}{a:Act}{x y:T}(b:PW (aH g w) [x,y] (l.toList.map a.eval)):∃u v,l=#[u,v]∧aH g w x (a.eval u)∧aH g w y (a.eval v):=by
 have d:l.size=2:=by have:=b.1;simp_all
 obtain⟨u,v,c⟩:∃u v,l=#[u,v]:=⟨l[0],l[1],by
  grind⟩
 exact⟨u,v,c,b.2 0 _ _ rfl (by simp[c]),b.2 1 _ _ rfl (by simp[c])⟩
def ab0(a:fc S){t:Ty}(b:Eo S n j t=W)(x:S.A n)(c:O Addr)(p q:Nat):(jw j (enc S (.st n) x) (.slice c p q)).sL=(enc S (.st n) x).sL:=by
 have h:A4 j (enc S (.st n) x) ((IG n j t x).map (enc S t))=enc S (.st n) x:=by
  show D.agg ((S.cells n x).set j _)=D.agg (S.cells n x);have:(S.cells n x)[j]?=Z (.sl ((IG n j t x).map (enc S t))):=by rw[a.cells];exact JN (Hs b)
  rw[I8 this]
 rw[<-A3 j _ ((IG n j t x).map (enc S t)),h]
def Vo(b:fc S)(x:S.A n)(c:O Addr)(p q:Nat):(jw j (enc S (.st n) x) (.slice c p q)).flat=W:=by
 show((S.cells n x).set j _).all D.leaf=W;refine kA.2 λd a=>?_;obtain a|rfl:=Xi a
 .rw[b.cells]at a;exact ic _ _ (b.leaf n) d a
 .rfl
def HC{E:fX}(hS:fc S)(hT:BC E.E)(hEE:PB E.E)(hTy:Sa S E){fr:bX S}{s s':aY S}(hf:cR g (bB fr) a w)(hs:aV g (aB s) w){cl:Call}(hop:o.op=.call cl){b:Builtin}(hb:cl.callee=.builtin b){args:L (V S)}(hargs:jY fr cl.args.toList=Z args){c:Bool}{t:V S}
  (h:mR E s b cl.argTypes args=Z (c,t,s')) (hc:c=W) {K:Act->World->Prop} {Q:Exit->Act->World->Prop} (hK:∀g' v w',cP [] s g w s' g' w'->aH g' w' (low t) v->K (a.put o.dst v) w') :
  o.wp E.E.P a w K Q∨(o.asks E.E.P a w∧LetsOut Q):=by
 have oL:=eT hf (gU hargs);unfold mR at h;split at h
 ·
  rename_i f r;split at h;rotate_left
  .cases h
  rename_i n j l era m gX hole lg;split at h;rotate_left
  .cases h
  rename_i i B hi Li;split at h;rotate_left
  .cases h
  rename_i sz ag bt zz vV;obtain⟨P,h9⟩|⟨_,h9⟩:=af h
  rotate_left
  .cases h9
  simp only[eZ]at P;have YF:=beq_iff'.1 P.1;subst YF;obtain⟨_,rfl,rfl⟩:=h9;have hx0:aH g w (.sh f r) ((cl.args.toList.map a.eval)[0]'(by have:=oL.1;simp[bq]at this;simp;omega)):=oL.2 0 _ _ rfl (iR _)
  let ⟨xs,hxs,_⟩:=Fs hx0
  have F:f<bC:=iO (hs.lt' hxs) hs.aE
  let ⟨hl,h1,h2,h3,h4⟩:=I3 hs lg hxs
  have hlen:(lits j (l.map (enc S (.st n))) hl).length=l.length:=by rw[oa (by simpa using h1)];simp
  refine yU hEE hf h4 hop hb (gU hargs) (p:=True) (t:=.sym (.lit (.int .i64 (eH (lits j (l.map (enc S (.st n))) hl))))) (s':=lZ s f (.arr (S.width (.st n)) (lits j (l.map (enc S (.st n))) hl) r)) ?_ trivial (k:=λC st'=>C=.sym (.lit (.int .i64 (eH (lits j (l.map (enc S (.st n))) hl))))∧st'=lZ s f (.arr (S.width (.st n)) (lits j (l.map (enc S (.st n))) hl) r)) ⟨rfl,rfl⟩ (λC st' g' v w' he wL ht=>?_)
  .have hi':(nth cl.argTypes.toList 0).bind E.E.ti=Z i:=hi;simp only[bq,low,fH,Aq,hi',vV,BS];rw[gC F,bw rfl];simp
  .obtain ⟨rfl,rfl⟩:=he;refine hK g' v w' (cP.kQ hs (Aj wL.rel F (by rw[gC F,bw rfl]) h1 (h3.le (λj y=>wL.ext.arr m j y)) lg (λk hk=>by rw[gC F,bL hk]) rfl) wL.ext rfl rfl (eM _) (rz.refl _)) ?_;have e:eH (lits j (l.map (enc S (.st n))) hl)=av l:=by simp[eH,hlen,av]
   rw[e]at ht;exact ht
 ·
  rename_i f r B j' x;split at h;rotate_left
  .cases h
  rename_i n j l era m gX lg;split at h;rotate_left
  .cases h
  rename_i ty tx agx;split at h;rotate_left
  .cases h
  rename_i i i' n'' C A hi hi' Li hrw;split at h;rotate_left
  .cases h
  rename_i sz ag bt zz sz' ag' bt' zz' new vV Oa hnew
  let ⟨e1,hh⟩:=fG hnew
  cases e1;cases hh;obtain⟨P,h9⟩|⟨_,h9⟩:=af h
  rotate_left
  .cases h9
  clear h;simp only[eZ]at P
  let ⟨b1,b2,b3,b4,b5,b6,b7,b8,b9⟩:=P
  have e1:=beq_iff'.1 b1;subst e1;have e2:=beq_iff'.1 b2;subst e2;have e3:=beq_iff'.1 b3;subst e3;simp only[gK,fh]at h9;obtain⟨TJ,rfl,rfl⟩:=h9;have aqA:cm (ab3 l A) (dF l [x])=W:=TJ.trans ‹_›;have ake:ab3 l A=W∧dF l [x]=W:=by simpa[cm]using aqA
  have aqO:=ake.2;have TJ:=Ny (show decide _=W from ake.1)
  let ⟨u,v,ha,hu,hv⟩:=args2 oL
  have zG:cl.argTypes=#[ty,tx]:=by apply Array.ext';simpa using agx
  let ⟨xs,hxs,hxe⟩:=Fs hu
  have F:f<bC:=iO (hs.lt' hxs) hs.aE;have hmn:m<s.aE:=gN b6;have hmN:m<bC:=iO hmn hs.aE;have hw0:0<S.width C:=gN b9
  let ⟨szm,hm⟩:=qc (Ax hrw)
  have ajQ:szm=S.width C:=by
   have h1:=hrw;unfold MZ at h1;split at h1
   .rename_i t0 rss0 r0 I;obtain⟨_,h1⟩|⟨_,h1⟩:=af h1
    .cases h1;rw[aI,I]at hm;cases hm;rfl
    .cases h1
   .cases h1
  subst ajQ;have hom:f≠m:=by rintro rfl;rw[aI,lg]at hm;cases hm
  generalize hvv:a.eval v=vv at hv;cases hv with
  |pW _ _ c ad hcj hcd=>
  let ⟨p1,p2⟩:=hs.abF hm hmn hw0 c
  let s1:aY S:={s with ob:=s.ob.set aK m (.rws C (A++[[]]) gX)}
  have apU:(aB s1)={aB s with ob:=(aB s).ob.set aK m (.rws (S.width C) (A.map (·.map (enc S C))++[[]]) gX)}:=by simp[s1,aB,Tr.mC,cW,UW,pG,List.map_nil]
  rw[<-apU]at p1;have Cr:s1.ob.get f=Z (.lD B j l r m gX Y):=by rw[Tr.aR _ _ _ _ hmN,bL hom];exact lg
  have apK:=p2.arr _ _ _ hxs
  let ⟨hl,h1,h2,h3,h4⟩:=I3 p1 Cr apK
  have acF:(lits j (l.map (enc S (.st B))) hl).length=l.length:=by rw[oa (by simpa using h1)];simp
  let ⟨⟨z,R,_⟩,_,_,hpos⟩:=hTy.row _ _ _ hi Li
  rw[vV]at R;obtain⟨rfl,rfl,rfl,rfl⟩:=Kd.slice.inj R;have aqV:aH (g.era m (rc gX (A.map (·.map (enc S C))).length) ⟨c,0,0,S.width C⟩) w (.kr 0 [jw j (enc S (.st B) x) (.slice c 0 0)]) (.slice ad 1 1):=.kr 0 _ ad (by simp) (hcd.ext p2 hs.bh);have hus:aH (g.era m (rc gX (A.map (·.map (enc S C))).length) ⟨c,0,0,S.width C⟩) w (.sh f r) (a.eval u):=hu.ext p2 hs.bh;have acO:iB (lits j (l.map (enc S (.st B))) hl) [jw j (enc S (.st B) x) (.slice c 0 0)]=lits j ((di l [x]).map (enc S (.st B))) (hl++[.slice c 0 0]):=by simp[iB,lits,di,UW,pG,List.map_nil];rw[List.zipWith_append (by simp;omega)];rfl
  have acM:vL (iB (lits j (l.map (enc S (.st B))) hl) [jw j (enc S (.st B) x) (.slice c 0 0)]) (zU S (.st B)):=by
   intro d hd;rw[acO]at hd
   let ⟨q,I⟩:=NB hd
   rw[lits,Xc]at I;split at I
   .rename_i hv0 k1 k2;cases I;rw[kV,fM]at k1;obtain⟨xx,_,rfl⟩:=k1;obtain⟨a0,n0,m0,rfl⟩:∃a0 n0 m0,hv0=.slice a0 n0 m0:=by
     rw[tq]at k2;split at k2
     .exact h3.1 q hv0 k2
     .have:q-hl.length=0:=by have:=cw k2;simpa using this
      rw[this]at k2;cases k2;exact⟨_,_,_,rfl⟩
    exact⟨by rw[ab0 hS b8];exact Cz hS (t:=.st B) xx,Vo hS xx a0 n0 m0⟩
   .cases I
  have hgv:=gC (s:=s1) F (.arr (S.width (.st B)) (lits j (l.map (enc S (.st B))) hl) r);have hkj:i'.kd=.slice sz' ag' bt' zz':=Oa;have hap:=yX (rt:=o.type) (hEE.ti _ _ hi) (hEE.ti _ _ hi') ⟨_,_,_,_,hkj⟩ h4 (x:=.sh f r) (y:=.kr 0 [jw j (enc S (.st B) x) (.slice c 0 0)]) (vx:=a.eval u) (vy:=.slice ad 1 1)
   (p:=True∧jz [jw j (enc S (.st B) x) (.slice c 0 0)] (S.width (.st B))∧vL (iB (lits j (l.map (enc S (.st B))) hl) [jw j (enc S (.st B) x) (.slice c 0 0)]) (zU S (.st B))∧D.TQ (lits j (l.map (enc S (.st B))) hl) [jw j (enc S (.st B) x) (.slice c 0 0)]) (t:=.sh f (Ns r))
   (s':={lZ s1 f (.arr (S.width (.st B)) (lits j (l.map (enc S (.st B))) hl) r)with ob:=(lZ s1 f (.arr (S.width (.st B)) (lits j (l.map (enc S (.st B))) hl) r)).ob.set aK f (.arr (S.width (.st B)) (iB (lits j (l.map (enc S (.st B))) hl) [jw j (enc S (.st B) x) (.slice c 0 0)]) (Ns r))}) (by
   have hg0:=hgv f;rw[bw rfl]at hg0;have e1:Nt (lZ s1 f (.arr (S.width (.st B)) (lits j (l.map (enc S (.st B))) hl) r)).aE bC=W:=b7;have e2:Nl (lZ s1 f (.arr (S.width (.st B)) (lits j (l.map (enc S (.st B))) hl) r)).fl f=W:=b4;simp only[u0,e1,KH,jo,vV,BS,hg0,e2,show Nq r r=W from beq_iff'.2 rfl,show Nq (S.width (.st B)) (S.width (.st B))=W from beq_iff'.2 rfl,tF,No];rfl) ⟨trivial,λd hd=>by
    rw[tj.1 hd];show((enc S (.st B) x).cells.set j _).length=_;rw[Qv,kH hS],acM,by
    have:l.length+1<=17179869184:=by simpa[dF]using aqO
    show(lits j (l.map (enc S (.st B))) hl).length+1<=_;rw[acF];exact this⟩ hus aqV
  refine J9 hop hb ha zG (by rw[hvv];exact hap) (λv w' hR=>?_)
  let ⟨g',r1,r2,r3⟩:=hR
  have hE:=p2.trans r2;refine hK g' v w' (cP.kQ hs ?_ hE rfl rfl (eM _) ⟨λ_ h=>g7 _ (g7 _ h),λk _ hk=>?_,rfl⟩) r3
  .refine Aj r1 (n:=B) (j:=j) (l:=di l [x]) (era:=Ns r) (m:=m) (gX:=gX) (hole:=Y) (hl:=hl++[.slice c 0 0]) F ?_ (by simp[di];omega) ⟨λq v I=>?_,λq v I _=>?_⟩ ?_ (λk hk=>?_) rfl
   .show ((lZ s1 f _).ob.set aK f _).get f=_;rw[Tr.aR _ _ _ _ F,bw rfl,acO]
   .rw[tq]at I;split at I
    .exact h3.1 q v I
    .have:q-hl.length=0:=by have:=cw I;simpa using this
     rw[this]at I;cases I;exact⟨_,_,_,rfl⟩
   .rw[tq]at I;split at I
    .let ⟨yy,k1,k2⟩:=h3.2 q v I (by simp)
     exact⟨yy,r2.arr _ _ _ k1,k2⟩
    .have h0:q-hl.length=0:=by have:=cw I;simpa using this
     rw[h0]at I;cases I;refine⟨⟨c,0,0,S.width C⟩,r2.arr _ _ _ ?_,rfl⟩;have:q=(A.map (·.map (enc S C))).length:=by rw[QA];omega
     rw[this];exact Gh.fE _ _ _ _
   .show ((s.ob.set aK m _).set aK f _).get f=_;rw[Tr.aR _ _ _ _ F,bw rfl]
   .rw[Tr.aR _ _ _ _ F,bL hk,hgv,bL hk,aI,aI];rw[Tr.aR _ _ _ _ F,bL hk];rfl
  .simp at hk;show((s.ob.set aK m _).set aK f _).get k=_;rw[Tr.dA _ _ _ _ _ hk.1,Tr.dA _ _ _ _ _ hk.2.1]
 ·
  rename_i f m r k y;split at h;rotate_left
  .cases h
  rename_i n j l era m' gX t0 A rera' lg hm0;split at h;rotate_left
  .cases h
  rename_i ty tx agx;split at h;rotate_left
  .cases h
  rename_i C new hi hi' Li GG;split at h
  .cases h
  .rename_i sz ag bt zz sz' ag' bt' zz' vV Oa aqk;obtain⟨P,h9⟩|⟨_,h9⟩:=af h
   rotate_left
   .cases h9
   clear h;simp only[eZ]at P
   let ⟨b1,b2,b3,b4,b5,b6,b7⟩:=P
   have e1:=beq_iff'.1 b1;subst e1;have e2:=beq_iff'.1 b2;subst e2;have e3:=beq_iff'.1 b3;subst e3;have e4:=jK b7;subst e4;obtain⟨rfl,rfl,rfl⟩:=h9;have hc1:eR k A=W∧dF (bp A k []) new=W:=by simpa[cm]using hc
   have hk:=tM hc1.1
   let ⟨u,v,ha,hu,hv⟩:=args2 oL
   have zG:cl.argTypes=#[ty,tx]:=by apply Array.ext';simpa using agx
   let ⟨yy,hyy,hue⟩:=Tq hu
   have hm:(aB s).ob.get m=Z (.rws (S.width C) (A.map (·.map (enc S C))) r):=by rw[aI,hm0];rfl
   let ⟨_,rs0,acz,hok⟩:=(hs.qz hm hyy).2.2 k rfl
   have hrs:rs0=(bp A k []).map (enc S C):=by rw[kV,iR hk]at acz;cases acz;simp[bp,hk]
   subst hrs
   let ⟨q,I,hqp⟩:=As GG
   let ⟨xi,d1,_,N7,DJ,_,_,_,_,Oc⟩:=(hEE.ti _ _ hi).all
   let ⟨_,d2,_,_,hu2,_,_,_,_,hk2⟩:=(hEE.ti _ _ hi').all
   rw[Oa]at hk2;obtain⟨e',_,_,_,rfl,_⟩:=hk2
   let ⟨⟨z,R,_⟩,_,_,hpos⟩:=hTy.row _ _ _ hi Li
   rw[vV]at R;obtain⟨rfl,rfl,rfl,rfl⟩:=Kd.slice.inj R;rw[vV]at Oc;obtain⟨e,ji,d',zv,rfl,hji,yw,_,_,hjz,Cq,Rg,h0,Ag,pR,hb0,hzl⟩:=Oc;have hzs:zv.cells.size=ji.size:=by rw[<-Cq.1,hzl,yw]
   have YD:jz (new.map (enc S C)) (S.width C):=tc hS new;have acM:vL (iB ((bp A k []).map (enc S C)) (new.map (enc S C))) (zU S C):=by rw[u5];exact E2 hS _
   let ⟨news,hsrc,hvr,hlen⟩:=Au hs I hqp hv hpos YD (λd hd=>(acM d (eP _ hd)).2) hu2
   let ⟨ay,cy,hve,_,apJ,Q4⟩:=s6 hs I hqp hv hpos YD
   have akB:=DZ (rt:=o.type) DJ hu2 hji hjz hzs (yw▸hpos) hb0 Rg pR hs.bh (yw▸hok) (λb hb=>(hok.at_ hb).2.elim λvs h=>h.elim λty h=>(Xj.1 h.2).1) (λd hd=>(acM d hd).1) (yw▸YD) (yw▸hsrc) (yw▸hvr) (EY _ hc1.2) (λhne=>by
    obtain⟨ady,ank,rfl,TE,hyc,_⟩:=Q4 hne;refine⟨ady,cy,hve,λzG=>?_,λq I=>?_⟩
    .obtain TK|⟨o',ho',_⟩:=TE
     .exact Bool.noConfusion ((hok.at_ zG).1.2 TK)
     .rw[FW]at ho';unfold NL at ho';split at ho'
      .exact aqk _ _ rfl
      .cases ho'
    .rw[yw]at I;have h1:=hyc (q/S.width C) (q%S.width C) (Td (by rw[Nr];exact I)) (Nat.mod_lt _ hpos);have hkk:q/S.width C*S.width C+q%S.width C=q:=by rw[Nr];exact Nat.div_add_mod q _
     rw[hkk]at h1;rw[h1];rfl)
   refine J9 hop hb ha zG (by rw[hue];exact akB) (λv w' hR=>?_)
   let ⟨y',hp⟩:=hR
   rw[yw,u5]at hp;have aqg:(aB s).ob.get f=Z (.lD j (S.width (.st n)) (l.map (enc S (.st n))) era m r Y):=by rw[aI,lg];rfl
   have F:f<bC:=gN b6
   let ⟨r1,r2⟩:=hs.ado aqg hm F hyy hp (gN b5)
   refine hK _ v w' (cP.kQ hs (s':={s with ob:=(s.ob.set aK m (.rws C (rI A k (di (bp A k []) new)) (Ns r))).set aK f (.lD n j l era m (Ns r) (Z k)),wr:=f::m::s.wr}) ?_ r2 rfl rfl (eM _) ⟨λ_ h=>g7 _ (g7 _ h),λk' _ hk'=>?_,rfl⟩) ?_
   .have e:aB {s with ob:=(s.ob.set aK m (.rws C (rI A k (di (bp A k []) new)) (Ns r))).set aK f (.lD n j l era m (Ns r) (Z k)),wr:=f::m::s.wr}={aB s with ob:=((aB s).ob.set aK m (.rws (S.width C) ((A.map (·.map (enc S C))).set k ((di (bp A k []) new).map (enc S C))) (r+1))).set aK f (.lD j (S.width (.st n)) (l.map (enc S (.st n))) era m (r+1) (Z k))}:=by simp[aB,Tr.mC,cW,rI,FL]
    rw[e];exact r1
   .simp at hk';show((s.ob.set aK m _).set aK f _).get k'=_;rw[Tr.dA _ _ _ _ _ hk'.1,Tr.dA _ _ _ _ _ hk'.2.1]
   .rw[hp.val];exact .sx _ _ _ _ _ _ y'.sz _ (by rw[Gh.qA,bw rfl])
  .cases h
 .cases h
end
end
end TL
end
end
