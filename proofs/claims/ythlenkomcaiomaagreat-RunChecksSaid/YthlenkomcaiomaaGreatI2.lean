import Derived.Laws.OwnMore
import Derived.Test.YthlenkomcaiomaaGreatI1
set_option linter.all false
set_option maxRecDepth 100000
set_option maxHeartbeats 0
noncomputable section
open Option renaming some->Z,none->Y
open Bool renaming true->W,false->J
open Nat renaming beq->Nq,ble->Nl,blt->Nt,succ->Ns,add->Na
open Go.Result(andThen_ok)
open Go.Sem(run_bind run_pure)
namespace TL
open Go
variable {S:Sg}
def xD(o:Oper):L Nat:=(o.after.toList.filter (Region.binds .any)).map (·.on)
def NR:L Oper->L Nat->L Nat
 |[],a=>a|o::l,a=>NR l (a++[(xD o).foldl (λb e=>b||| (1 <<< e||| a.getD e 0)) 0])
def wq(ops:L Oper):L Nat:=NR ops []
def uQ:L Oper->Nat->aa
 |[],_=>W|o::l,n=>(xD o).all (λe=>Nt e n)&&uQ l (Ns n)
def Lt(o:Oper)(k:Nat):aa:=o.op.operands.toList.any λx=>match x with|.tmp j=>Nq j k|_=>J
def afy(ops:L Oper)(a:L Nat):aa:=
 ops.zipIdx.all λ(o,i)=>match o.dst with
  |none=>W|some d=>Nt d bD&&ops.zipIdx.all λ(p,j)=>bif Nq i j then !(Lt p d)else !(match p.dst with|some e=>Nq e d|none=>J)&&(!(Lt p d)||((a.getD j 0).testBit i||(a.getD i 0).testBit j))
def SU(ops:L Oper)(a:L Nat)(i:Nat)(o:Oper):aa:=match o.dst with
 |none=>J|some d=>ops.zipIdx.any λ(p,j)=>Lt p d&&(a.getD i 0).testBit j
def adR(ops:L Oper):aa:=ops.all λo=>o.op.operands.toList.all λx=>match x with|.tmp j=>Nt j bD|_=>W
def PD(ops:L Oper)(a:L Nat):aa:=
 ops.zipIdx.all λ(o,i)=>match o.guard with
  |none=>W|some (j,_)=>(a.getD i 0).testBit j
def eX(o:Oper):aa:=match o.op with|.alloc _=>o.guard.isNone|_=>J
def Tp(a b:Nat):aa:=Nq (a&&& b) a
abbrev Vt:=L (Nat×Oper)
section
variable (E:er S)(call:fO S){ω:Type}
def OO(ops:L Oper)(a:L Nat)(done:Nat)(fr:bV S):Vt->O (Nat×Oper)
 |[]=>Y|(i,o)::l=>bif !(done.testBit i)&&(Tp (a.getD i 0) done&&((!(eX o)&&!(SU ops a i o))&&(uJ ops fr o||(match iB ops fr o with|some (Z _)=>A3 E (ri fr o.op) o|some Y=>A3 E fr o|none=>J))))
   then Z (i,o)else OO ops a done fr l
def OP(a:L Nat)(done u0:Nat):Vt->O (Nat×Oper)
 |[]=>Y|(i,o)::l=>bif !(done.testBit i)&&(!(eX o)&&Tp (a.getD i 0) (done||| u0))then Z (i,o)else OP a done u0 l
def yb(E:fN)(a:Nat):Vt->bV S->bf S->O (bV S×bf S)
 |[],b,s=>Z (b,s)|(i,o)::l,b,s=>bif a.testBit i then match o.op,o.dst with
   |.alloc t,Z d=>match E.E.ti t with
    |some c=>bif Nt s.aF bD&&Nt d b.n then yb E a l (b.put d (.ptr s.aF 0)) (dh s (.box (c.zero.map zeroV)))else Y|none=>Y
   |_,_=>Y
  else yb E a l b s
def jA(p:Nat->aa)(fr:bV S)(o:Op):aa:=o.operands.toList.any λx=>match cx fr x with
 |some v=>cH p v|none=>J
def Ms:Op->aa
 |.move _|.assign _|.nilCheck _|.fieldAddr ..=>W|_=>J
def Ej(ops:L Oper)(a:L Nat)(done i:Nat)(fr:bV S)(aF:Nat)(wr ow:L Nat):Vt->aa
 |[]=>W|(j,o)::l=>(!(done.testBit j)||(eX o||((a.getD i 0).testBit j||(!(jA (dL wr aF) fr o.op||jA (dL wr aF) (ri fr o.op) o.op)||(Ms o.op&&!(jA (λx=>ow.contains x) fr o.op||jA (λx=>ow.contains x) (ri fr o.op) o.op))))))&&Ej ops a done i fr aF wr ow l
def xO(all:Vt)(done:Nat):Nat:=all.foldl (λb(i,o)=>bif eX o&&!(done.testBit i)then b||| 1 <<< i else b) 0
def afA(ops:L Oper)(fr:bV S):bV S:={fr with tm:=(ops.filterMap (·.dst)).foldl (λt k=>t.del aO k) fr.tm}
def uf(ops:L Oper)(a:L Nat)(all:Vt)(kp:bV S->V S->bf S->O ω)(k:bV S->bf S->O ω):Nat->Nat->bV S->bf S->O ω
 |0,_,_,_=>Y|n+1,done,b,s=>
  match OO E ops a done b all with
  |some (i,o)=>bif gw b o.dst then bif uJ ops b o then uf ops a all kp k n (done||| 1 <<< i) (b.kG o.dst mN) s else match iB ops b o with
    |none=>Y|some Y=>fm E Y b s o λt=>Jy (So ops o.dst) t λt=>uf ops a all kp k n (done||| 1 <<< i) (b.kG o.dst t) s|some (Z c)=>aU (M5 c b o.op) (fm E (Z c) (ri b o.op) s o λt=>uf ops a all kp k n (done||| 1 <<< i) (b.kG o.dst (.gd c t)) s)
   else Y
  |none=>
   let d:=xO all done
   match OP a done d all with
   |some (i,o)=>
    bif all.all (λ(j,p)=>done.testBit j||(eX p||(Nq i j||(a.getD j 0).testBit i)))then
     match yb E.T (d&&& a.getD i 0) all b s with
     |none=>Y|some (e,g)=>
      o5 E call ops o e {g with wr:=[]} (λt f=>kp (afA ops e) t {f with wr:=f.wr++g.wr}) λt f h=>
       bif Ej ops a done i b s.aF f.wr h all then uf ops a all kp k n (done||| (d&&& a.getD i 0)||| 1 <<< i) ((dx h e).kG o.dst t) {f with wr:=f.wr++g.wr}else Y
    else Y
   |none=>match yb E.T d all b s with
    |none=>Y|some (b,s)=>bif all.all (λ(j,p)=>done.testBit j||eX p)then k b s else Y
def Qq(E:fN)(n:Nat)(l:L Oper):aa:=l.all λo=>bif eX o then(match o.op with
  |.alloc t=>(E.E.ti t).isSome|_=>W)&&(match o.dst with|some d=>Nt d n|none=>W)
 else W
def Yh(E:er S)(fr:bV S)(s:bf S)(l:L Oper)(a:L Nat):aa:=uQ l 0&&(afy l a&&(PD l a&&(adR l&&(Qq E.T fr.n l&&Nq s.fl 0))))
end
inductive LO(X R B P:Type) where
 |next (x:X)|out (j:Nat) (x:X)|ret (b:B) (r:R)|jJ (b:B) (p:P)
def iter{X R B P:Type}(F:X->O (LO X R B P)):Nat->X->O (LO X R B P)
 |0,_=>Y|n+1,x=>match F x with
  |none=>Y|some (.next y)=>iter F n y|some (.out j y)=>Z (.out j y)|some (.ret y r)=>Z (.ret y r)|some (.jJ y p)=>Z (.jJ y p)
def On:Code->aa
 |.region _ c _=>c.toList.all λo=>match o.op with|.defer _=>J|_=>W
 |.seq a b=>On a&&On b|.cond _ a b=>On a&&On b|.block _ b=>On b|.loop b=>On b|.scope _=>J|.rangeFunc ..=>J|_=>W
def uH:Code->L Nat
 |.region _ d _=>d.toList.foldl (λl o=>o.op.operands.toList.foldl (λl x=>match x with|.tmp k=>k::l|_=>l) l) []
 |.seq a b=>uH a++uH b|.cond c a b=>(match c with|.tmp k=>[k]|_=>[])++(uH a++uH b)
 |.block _ b=>uH b|.loop b=>uH b|_=>[]
def M8(l:L Nat)(fr:bV S):bV S:={n:=fr.n,tm:=l.foldl (λt k=>match fr.get k with|some v=>t.set aO k v|none=>t) .nil,df:=[]}
def OF:L Nat->L (V S)->Tr (V S)->Tr (V S)
 |k::a,v::b,t=>OF a b (t.set aO k v)|_,_,t=>t
def JH:LoopState->O Code->aa
 |.ready,Y=>W|_,_=>J
def aed{S:Sg}:LoopState->O Code->O (uF S)
 |.ready,Y=>Z .qW|.done,Z (.exit i)=>Z (.ext i)|.done,Z .ret=>Z .ret|_,_=>Y
def SG:Operand->L Nat
 |.tmp k=>[k]|_=>[]
def eG:Code->L Nat
 |.region _ d _=>d.toList.filterMap (·.dst)|.seq a b=>eG a++eG b|.cond c a b=>SG c++(eG a++eG b)|.block _ b=>eG b|.loop b=>eG b|.rangeFunc _ _ a b=>eG a++eG b|.scope b=>eG b|_=>[]
def kI:Code->L Nat
 |.seq a b=>kI a++kI b|.cond _ a b=>kI a++kI b|.block i b=>(kI b).filter λj=>!(Nq i j)|.loop b=>kI b|.rangeFunc _ _ a b=>kI a++kI b|.scope b=>kI b|.exit i=>[i]|_=>[]
def v7:L Nat->L Nat
 |[]=>[]|a::l=>a::(v7 l).filter λb=>!(Nq a b)
abbrev LOT(S:Sg)(sh:Sh)(rs:L Ck):=LO (fI S.A (kP sh)) (fU S.A rs) (fI S.A (kP (Om sh))) (den S.A S.pt)
def X5(ds:L Nat):Sh->L Nat
 |[]=>[]|(k,.one (.own _))::l=>bif ds.contains k then X5 ds l else k::X5 ds l|_::l=>X5 ds l
def O0:Sh->L Nat
 |[]=>[]|(k,.one (.own _))::l=>k::O0 l|_::l=>O0 l
def VV(fr:bV S)(s:bf S)(c:Nat):O (V S):=bif Nt c 1000000 then fr.get c else match fr.get (Nat.div (Nat.sub c 1000000) 1000)with
 |some (.ptr o 0)=>match s.ob.get o with
  |some (.box a)=>nth a (Nat.mod (Nat.sub c 1000000) 1000)|_=>Y
 |_=>Y
def Va(fr:bV S)(s:bf S)(al:L (Nat×Nat)):aa:=al.all λp=>match fr.get p.1,VV fr s p.2 with
 |some (.sh o r),Z (.sh a b)=>Nq o a&&Nq r b|_,_=>J
def aci(fr:bV S)(ow:L Nat)(al:L (Nat×Nat)):aa:=al.all λp=>match fr.get p.1 with
 |some (.sh o _)=>ow.contains o|_=>J
def mj(s:bf S):L (Nat×Nat)->bV S->bV S
 |[],a=>a|p::l,a=>mj s l (match VV a s p.2 with|some v=>a.put p.1 v|none=>a)
def abV(fr:bV S)(l:L Nat):aa:=l.all λk=>match fr.get k with
 |some (.sh _ _)=>W|_=>J
def Er(ds:L Nat)(sh:Sh):aa:=sh.all λp=>match p.2 with
 |.one _=>ds.contains p.1|.box _=>W|.hid _=>W
abbrev Rv:=L (Nat×Ty)
def Es(rv:Rv):L Ck:=rv.map λp=>.dat p.2
def V2(fr:bV S):Rv->O (L (V S))
 |[]=>Z []|(k,_)::l=>match fr.get k,V2 fr l with
  |some v,Z r=>Z (v::r)|_,_=>Y
def xI:(rv:Rv)->fU S.A (Es rv)->bV S->bV S
 |[],_,a=>a|(k,_)::l,x,a=>xI l x.2 (a.put k (.ty _ x.1))
def bV.sQ(fr:bV S)(c:Operand)(b:aa):bV S:=match c with
 |.tmp k=>bif Nt k fr.n then fr.put k (.kb b)else fr|_=>fr
noncomputable def HF{ω:Type}(e:aa)(x y:O ω):O ω:=bif e then(open Classical in if x=y then y else Y)else y
def abn(l:L Nat)(i:Nat):Nat:=match l with
 |[]=>0|a::l=>bif Nq a i then 0 else Ns (abn l i)
def Th(aF:Nat)(bs wr:L Nat):aa:=wr.all λo=>Nl aF o||bs.contains o
def uP{ω:Type}(sh:Sh)(bs:L Nat)(aF:Nat)(fr:bV S)(s:bf S)(f:fI S.A (kP sh)->O ω):O ω:=
 match qc sh bs fr s with
 |some (x,a,b)=>bif Th aF bs a.wr&&(b.all (λo=>Nl aF o)&&a.dr.all (λo=>Nl aF o))then f x else Y|none=>Y
section
variable (E:er S)(call:fO S)(n:Nat)(fid:FuncId)(rv:Rv)
def X4{ω:Type}(k:bV S->bf S->O ω)(Q:uF S->bV S->bf S->O ω):uF S->bV S->bf S->O ω
 |.qW,a,s=>k a s|.ext i,a,s=>Q (.ext i) a s|.ret,a,s=>Q .ret a s|.jJ v,a,s=>Q (.jJ v) a s
def Nh{ω:Type}(i:Nat)(Q:uF S->bV S->bf S->O ω):uF S->bV S->bf S->O ω
 |.qW,a,s=>Q .qW a s|.ext j,a,s=>match Nq j i with
  |true=>Q .qW a s|false=>Q (.ext j) a s
 |.ret,a,s=>Q .ret a s|.jJ v,a,s=>Q (.jJ v) a s
def aaJ{ω:Type}(Q:uF S->bV S->bf S->O ω)(fr:bV S)(s:bf S):L Nat->Nat->O ω
 |[],_=>Y|[i],_=>Q (.ext i) fr s|i::l,j=>match j with
  |0=>Q (.ext i) fr s|j+1=>aaJ Q fr s l j
def tV(aF:Nat)(s:bf S):L (so S)->O (L Nat)
 |[]=>Z []|.mark o::l=>match s.ob.get o with
  |some .zm=>bif Nl aF o then(match tV aF s l with|some r=>Z (o::r)|none=>Y)else Y
  |_=>Y
 |_=>Y
def ahu(fl aF:Nat)(base:bV S×bf S):aa:=match base.1.df with
 |.marks o::_=>(match base.2.ob.get o with
  |some .E5=>Nt o aF&&Nl fl o|_=>J)
 |_=>J
def OH(aF:Nat)(base:bV S×bf S)(fr':bV S)(s':bf S):aa:=
 match tV aF s' (fr'.df.take (Nat.sub (cC fr'.df) (cC base.1.df)))with
 |some os=>rP os&&(Nq (Na (cC os) (cC base.1.df)) (cC fr'.df)&&(Nq (cC os) 0||ahu s'.fl aF base))|none=>J
def OL(sh:Sh)(bs:L Nat)(aF:Nat)(a:L Nat)(base:bV S×bf S)(c:aa)(al:L (Nat×Nat))(ex:uF S)(fr':bV S)(s':bf S):O (LOT S sh (Es rv)):=
 bif OH aF base fr' s' then match ex with
  |.qW=>bif Va fr' s' al then uP sh bs aF fr' s' (λy=>Z (.next y))else Y|.ext j=>bif a.contains j&&Va fr' s' al then uP sh bs aF fr' s' (λy=>Z (.out (abn a j) y))else Y|.ret=>match V2 fr' rv with
   |none=>Y|some d=>match fR s' (Es rv) d with
    |some (r,b,_)=>match dS s' b with
     |some s'=>uP (Om sh) bs aF fr' s' (λy=>Z (.ret y r))|none=>Y
    |none=>Y
  |.jJ v=>bif c then match fR s' [.dat S.pt] [v]with
    |some (p,b,_)=>match dS s' b with
     |some s'=>uP (Om sh) bs aF fr' s' (λy=>Z (.jJ y p.1))|none=>Y
    |none=>Y
   else Y
  else Y
def Ey(e:{ω:Type}->(uF S->bV S->bf S->O ω)->bV S->bf S->O ω)(sh:Sh)(bs:L Nat)(aF:Nat)(b:L Nat)(base:bV S×bf S)(f:aa)(al:L (Nat×Nat))(x:fI S.A (kP sh)):O (LOT S sh (Es rv)):=
 match mP sh bs x base.1 base.2 with
 |none=>Y|some (c,a)=>e (λg d h=>OL rv sh bs aF b base f al g d {h with lo:=base.2.lo}) (mj a al c) {a with lo:=aF}
def uc:Code->O Nat
 |.region id _ _=>Z id|.seq a b=>match uc a with
  |some k=>Z k|none=>uc b
 |.cond _ a b=>match uc a with
  |some k=>Z k|none=>uc b
 |.block _ b=>uc b|.loop b=>uc b|.scope b=>uc b|_=>Y
def aim(a b:Code):Nat:=match uc a with
 |some k=>Na 1000000 k|none=>match uc b with
  |some k=>Na 1000000 k|none=>999999
noncomputable def SF{ω:Type}(c:Operand)(A B:(uF S->bV S->bf S->O ω)->bV S->bf S->O ω)(Q:uF S->bV S->bf S->O ω)(fr:bV S)(s:bf S):O ω:=match cx fr c with
  |some (.kb W)=>A Q fr s|some (.kb J)=>B Q fr s|some (.ub e)=>HF e (A Q (fr.sQ c W) s) (B Q (fr.sQ c J) s)|some v=>match rB v with
   |some t=>aj t (A Q (fr.sQ c W) s) (B Q (fr.sQ c J) s)|none=>Y
  |none=>Y
def Xq(i:{ω:Type}->(uF S->bV S->bf S->O ω)->bV S->bf S->O ω){ω:Type}(sh:Sh)(pts:L Pt)(al:L (Nat×Nat))(g h:L Nat)(Q:uF S->bV S->bf S->O ω)(fr:bV S)(s:bf S):O ω:=
 match qV fr s sh pts with
 |none=>Y|some e=>
  let ds:=g++(X5 g sh++al.map (·.1))
  match qc sh e fr s with
  |none=>Y|some (k,b,f)=>
   let base:=cI ds f e fr b
   bif (Er ds sh&&(abV fr (X5 g sh)&&(Va fr s al&&aci fr f al)))&&ds.all (λd=>Nt d fr.n)then
    ai (Ey rv i sh e b.aF h base E.pn al k) λ(o:LOT S sh (Es rv))=>match o with
     |.next x=>match mP sh e x base.1 base.2 with
      |none=>Y|some (c,a)=>Q .qW (mj a al c) {a with wr:=b.ob.ju (gq (dL f b.aF))++(e++b.wr),dr:=f++b.dr}
     |.out j x=>match mP sh e x base.1 base.2 with
      |none=>Y|some (c,a)=>aaJ Q (mj a al c) {a with wr:=b.ob.ju (gq (dL f b.aF))++(e++b.wr),dr:=f++b.dr} h j
     |.ret x r=>match mP (Om sh) e x base.1 base.2 with
      |none=>Y|some (c,a)=>Q .ret (xI rv r c) {a with wr:=b.ob.ju (gq (dL f b.aF))++(e++b.wr),dr:=f++b.dr}
     |.jJ y p=>bif E.pn then match mP (Om sh) e y base.1 base.2 with
      |none=>Y|some (c,a)=>Q (.jJ (.ty S.pt p)) c {a with wr:=b.ob.ju (gq (dL f b.aF))++(e++b.wr),dr:=f++b.dr}
      else Y
   else Y
def WL{ω:Type}(c:(uF S->bV S->bf S->O ω)->bV S->bf S->O ω)(Q:uF S->bV S->bf S->O ω)(a:bV S->bf S->O ω):Nat->bV S->bf S->O ω
 |0,b,s=>a b s|m+1,b,s=>c (X4 (WL c Q a m) Q) b s
def Xa(i:{ω:Type}->(uF S->bV S->bf S->O ω)->bV S->bf S->O ω){ω:Type}(sh:Sh)(pts:L Pt)(al:L (Nat×Nat))(g h:L Nat)(Q:uF S->bV S->bf S->O ω)(fr:bV S)(s:bf S):O ω:=match qV fr s sh pts with
  |none=>Y|some e=>
   let ds:=g++(X5 g sh++al.map (·.1))
   match qc sh e fr s with
   |none=>Y|some (k,a,f)=>
    let base:=cI ds f e fr a
    bif (Er ds sh&&(abV fr (X5 g sh)&&(Va fr s al&&aci fr f al)))&&ds.all (λd=>Nt d fr.n)then
     ai (iter (Ey rv i sh e a.aF h base E.pn al) n k) λ(o:LOT S sh (Es rv))=>match o with
      |.next _=>Y|.out j x=>match mP sh e x base.1 base.2 with
       |none=>Y|some (c,b)=>aaJ Q (mj b al c) {b with wr:=a.ob.ju (gq (dL f a.aF))++(e++a.wr),dr:=f++a.dr} h j
      |.ret x r=>match mP (Om sh) e x base.1 base.2 with
       |none=>Y|some (c,b)=>Q .ret (xI rv r c) {b with wr:=a.ob.ju (gq (dL f a.aF))++(e++a.wr),dr:=f++a.dr}
      |.jJ y p=>bif E.pn then match mP (Om sh) e y base.1 base.2 with
       |none=>Y|some (c,b)=>Q (.jJ (.ty S.pt p)) c {b with wr:=a.ob.ju (gq (dL f a.aF))++(e++a.wr),dr:=f++a.dr}
       else Y
    else Y
def Li:Code->aa
 |.seq a b=>Li a||Li b|.cond _ a b=>Li a||Li b|.block _ b=>Li b|.loop b=>Li b|.rangeFunc ..=>W|.scope b=>Li b|_=>J
def ama{ω:Type}(b:aa)(k:bV S->bf S->O ω)(fr:bV S)(s:bf S):O ω:=
 bif b then(bif Nt s.aF bD then k {fr with df:=.marks s.aF::fr.df} (dh s .E5)else Y)else k fr s
noncomputable def yV:Code->Nat->{ω:Type}->(uF S->bV S->bf S->O ω)->bV S->bf S->O ω
 |.region _ j J,_,_,Q,d,s=>Ss E call j.toList (λd t s=>Q (.jJ t) d s) (Q .qW) j.toList d s|.region _ j W,_,_,Q,d,s=>
  let l:=j.toList
  let m:=wq l
  let all:=l.zipIdx.map λp=>(p.2,p.1)
  bif Yh E d s l m then uf E call l m all (λd t s=>Q (.jJ t) d s) (Q .qW) (Ns (Nat.mul 2 (cC l))) 0 d s else Y
 |.seq a b,i,_,Q,d,s=>yV a i (X4 (yV b i Q) Q) d s|.cond c a b,i,_,Q,d,s=>match E.sh fid (aim a b)with
  |none=>SF c (yV a i) (yV b i) Q d s|some ⟨sh,pts,o,_⟩=>Xq E rv (λQ d s=>SF c (yV a i) (yV b i) Q d s) sh pts o (eG (.cond c a b)++rv.map (·.1)) (v7 (kI (.cond c a b))) Q d s
 |.block i b,_,_,Q,d,s=>yV b i (Nh i Q) d s|.loop b,i,_,Q,d,s=>match E.sh fid i with
  |none=>Y|some ⟨sh,pts,o,u⟩=>WL (yV b i) Q (ama (Li b) λd s=>Xa E n rv (yV b i) sh pts o (eG b++rv.map (·.1)) (v7 (kI b)) Q d s) u d s
 |.rangeFunc g v k h,_,_,Q,d,s=>match(cx d g).bind (o8 · [.qN (Ns s.aF)])with
  |none=>Y|some (f,args)=>bif On k&&(On h&&(Nl s.fl (Ns s.aF)&&Nt (Ns s.aF) bD))then
    ug E call (dh (dh s .zm) (.lp ⟨.ready,Y,fid,M8 (uH k++uH h) d,v.toList,k,h⟩)) f args (λ_ _=>Y) λ_ q r=>match q.ob.get (Ns s.aF)with
      |some (.lp l)=>match aed l.st l.u0 with
       |some e=>Q e {(dx r d)with df:=.mark s.aF::(dx r d).df} {q with ob:=q.ob.set aO (Ns s.aF) (.lp {l with st:=.exhausted})}
       |none=>Y
      |_=>Y
   else Y
 |.exit i,_,_,Q,d,s=>Q (.ext i) d s|.ret,_,_,Q,d,s=>Q .ret d s|.skip,_,_,Q,d,s=>Q .qW d s|.label _,_,_,Q,d,s=>Q .qW d s|.scope b,i,_,Q,d,s=>yV b i Q d s|_,_,_,_,_,_=>Y
end
def kQ(E:fN)(s:bf S)(fr:bV S):L ResultVar->O (L (V S))
 |[]=>Z []|.tmp t::l=>match fr.get t,kQ E s fr l with
  |some x,Z r=>Z (x::r)|_,_=>Y
 |.cell a t::l=>match E.E.ti t,fr.get a with
  |some i,Z a=>match xR i (E.ty t) s a,kQ E s fr l with
   |some (p,x,_),Z r=>bif p then Z (x::r)else Y|_,_=>Y
  |_,_=>Y
def OI(E:fN):L ResultVar->L TypeId->Rv
 |.tmp k::l,t::a=>match E.ty t with
  |some τ=>(k,τ)::OI E l a|none=>OI E l a
 |_::l,_::a=>OI E l a|_,_=>[]
def isRec(o:Oper):aa:=match o.guard,o.op with
 |none,.call c=>match c.callee with
  |.builtin .recover=>W|_=>J
 |_,_=>J
def ahe(pv:O (V S)):V S:=match pv with
 |some v=>v|none=>.dat (.lit .nilIface)
section
variable (E:er S)(call:fO S)(n:Nat)(pv:Option (V S)){ω:Type}
noncomputable def evR(fid:FuncId)(rv:Rv):Code->Nat->(aa->uF S->bV S->bf S->O ω)->bV S->bf S->O ω
 |.region id e J,i,Q,d,s=>match e.toList with
  |o::l=>bif isRec o then(bif gw d o.dst then Ss E call (o::l) (λd t s=>Q pv.isSome (.jJ t) d s) (Q pv.isSome .qW) l (d.kG o.dst (ahe pv)) s else Y)
   else yV E call n fid rv (.region id e J) i (Q J) d s
  |[]=>Y
 |.seq a b,i,Q,d,s=>evR fid rv a i (λf g d s=>match g with
  |.qW=>yV E call n fid rv b i (Q f) d s|g=>Q f g d s) d s
 |c,i,Q,d,s=>yV E call n fid rv c i (Q J) d s
noncomputable def Sv(d:so S)(s:bf S)(k:aa->bf S->O ω):O ω:=match d with
 |.call f args=>match o8 f args with
  |none=>Y|some (f,args)=>match E.T.E.Sp f with
   |none=>Y|some fn=>match fn.body with
    |none=>Y|some c=>bif Nl (cC args) fn.ntmps&&Nt fn.ntmps bD then
      evR E call n pv f (OI E.T fn.results.toList fn.resultTypes.toList) c 0 (λa e b g=>match b.df with
       |[]=>match e with
        |.qW|.ret=>match kQ E.T g b fn.results.toList with
         |some _=>k a {g with lo:=s.lo}
         |none=>Y
        |_=>Y
       |_::_=>Y) {n:=fn.ntmps,tm:=mu args 0 .nil} {s with lo:=s.aF}
     else Y
 |.mark o=>match s.ob.get o with
  |some .zm=>bif Nl s.fl o&&Nt o bD then k J {s with ob:=s.ob.del aO o,wr:=o::s.wr}else Y
  |_=>Y
 |.marks o=>match s.ob.get o with
  |some .E5=>bif Nl s.fl o&&Nt o bD then k J {s with ob:=s.ob.del aO o,wr:=o::s.wr}else Y
  |_=>Y
 |_=>Y
end
noncomputable def FJ(E:er S)(call:fO S)(n:Nat){ω:Type}:L (so S)->O (V S)->bf S->(O (V S)->bf S->O ω)->O ω
 |[],pv,s,k=>k pv s|d::l,pv,s,k=>Sv E call n pv d s λa b=>FJ E call n l (bif a then Y else pv) b k
def Nj(E:fN){ω:Type}(a:L ResultVar)(fr:bV S)(k kp:V S->bf S->O ω)(pv:O (V S))(s:bf S):O ω:=match pv with
 |none=>match kQ E s fr a with
  |some l=>k (CZ l) s|none=>Y
 |some v=>kp v s
noncomputable def Su(E:er S)(call:fO S)(n:Nat){ω:Type}(b:L ResultVar)(k kp:V S->bf S->O ω):uF S->bV S->bf S->O ω
 |.qW,a,s=>FJ E call n a.df Y s (Nj E.T b a k kp)|.ret,a,s=>FJ E call n a.df Y s (Nj E.T b a k kp)|.jJ v,a,s=>FJ E call n a.df (Z v) s (Nj E.T b a k kp)|.ext _,_,_=>Y
def ac3:uF S->O (O Code)
 |.qW=>Z Y|.ret=>Z (Z .ret)|.ext i=>Z (Z (.exit i))|.jJ _=>Y
def acP(o:Nat){ω:Type}(k:V S->bf S->O ω)(e:uF S)(_:bV S)(s:bf S):O ω:=match s.ob.get o,ac3 e with
 |some (.lp l),Z Y=>k (.kb W) {s with ob:=s.ob.set aO o (.lp {l with st:=.ready,u0:=Y})}
 |some (.lp l),Z (Z c)=>k (.kb J) {s with ob:=s.ob.set aO o (.lp {l with st:=.done,u0:=Z c}),wr:=o::s.wr}
 |_,_=>Y
noncomputable def acO(E:er S)(call:fO S)(n o:Nat)(fid:FuncId)(a:Code){ω:Type}(k:V S->bf S->O ω):uF S->bV S->bf S->O ω
 |.qW,b,s=>match s.ob.get o with
  |some (.lp l)=>bif JH l.st l.u0 then yV E call n fid [] a 0 (acP o k) b {s with ob:=s.ob.set aO o (.lp {l with st:=.busy})}else Y
  |_=>Y
 |_,_,_=>Y
noncomputable def JG(E:er S)(call:fO S)(n o:Nat)(args:L (V S))(s:bf S){ω:Type}(k:V S->bf S->O ω):O ω:=match s.ob.get o with
 |some (.lp l)=>bif JH l.st l.u0&&(Nq (cC args) (cC l.params)&&(l.params.all (λk=>Nt k l.fr.n)&&(Nl l.fr.n bD&&(On l.assign&&(On l.body&&(Nl s.fl o&&Nl s.lo s.aF))))))then
   yV E call n l.fid [] l.assign 0 (acO E call n o l.fid l.body k) {n:=l.fr.n,tm:=OF l.params args l.fr.tm,df:=[]} s
  else Y
 |_=>Y
noncomputable def Yw(E:er S)(n:Nat)(call:fO S):fO S:=λtg args s{_}k b=>match tg with
 |.yl o=>JG E call n o args {s with lo:=s.aF} λt a=>k t {a with lo:=s.lo}
 |.yd o=>JG E call n o args s k|.jn f=>match E.T.E.Sp f with
  |none=>Y|some fn=>match fn.body with
   |none=>Y|some c=>
    bif Nl (cC args) fn.ntmps&&(Nt fn.ntmps bD&&Nl s.lo s.aF)then
     yV E call n f (OI E.T fn.results.toList fn.resultTypes.toList) c 0 (Su E call n fn.results.toList k b) {n:=fn.ntmps,tm:=mu args 0 .nil} s
    else Y
 |.fn f=>match E.T.E.Sp f with
  |none=>Y|some fn=>match fn.body with
   |none=>Y|some c=>
    bif Nl (cC args) fn.ntmps&&Nt fn.ntmps bD then
     yV E call n f (OI E.T fn.results.toList fn.resultTypes.toList) c 0 (Su E call n fn.results.toList (λv a=>k v {a with lo:=s.lo}) (λv a=>b v {a with lo:=s.lo})) {n:=fn.ntmps,tm:=mu args 0 .nil} {s with lo:=s.aF}
    else Y
noncomputable def uO(E:er S)(n:Nat):Nat->fO S
 |0=>λ_ _ _{_}_ _=>Y|d+1=>Yw E n (uO E n d)
noncomputable def Yy(E:er S)(n d:Nat)(f:FuncId)(args:L (V S))(s:bf S){ω:Type}(k kp:V S->bf S->O ω):O ω:=match E.T.E.Sp f with
  |none=>Y|some fn=>match fn.body with
   |none=>Y|some c=>
    bif Nl (cC args) fn.ntmps&&Nt fn.ntmps bD then
     yV E (uO E n d) n f (OI E.T fn.results.toList fn.resultTypes.toList) c 0 (Su E (uO E n d) n fn.results.toList k kp) {n:=fn.ntmps,tm:=mu args 0 .nil} s
    else Y
def u6(b:Nat)(s:bf S):(ps:L Pk)->fI S.A ps->L (V S)×bf S
 |[],_=>([],s)|.one c::ps,x=>match vg s c x.1 with
  |(v,s)=>match u6 b s ps x.2 with
   |(l,s)=>(v::l,s)
 |.box k::ps,x=>match kL s (Z (Ns b)) k x.1 with
  |(ob,s)=>match u6 (Ns b) {s with ob:=s.ob.set aO b ob} ps x.2 with
   |(l,a)=>(Uj k b::l,a)
 |.hid k::ps,x=>match kL s (Z (Ns b)) k x.1 with
  |(ob,s)=>u6 (Ns b) {s with ob:=s.ob.set aO b ob} ps x.2
def dU:L Pk->Nat
 |[]=>0|.one _::l=>dU l|.box _::l=>Ns (dU l)|.hid _::l=>Ns (dU l)
def My(b:Nat):L Ck->Nat->L (Nat×Nat×Nat)
 |[],_=>[]|.dat (.opt n)::l,i=>(b,i,n)::My b l (Ns i)|_::l,i=>My b l (Ns i)
def acW(b:Nat):Bk->L (Nat×Nat×Nat)
 |.cells a=>My b a 0|.link _ pre post=>My b pre 0++My b post (Ns (cC pre))|_=>[]
def Ij:L Pk->Nat->L (Nat×Nat×Nat)
 |[],_=>[]|.one _::l,b=>Ij l b|.box k::l,b=>acW b k++Ij l (Ns b)|.hid k::l,b=>acW b k++Ij l (Ns b)
def aip:L Nat->aa
 |[]=>W|_::_=>J
def EY(v:V S)(Iw:Nat)(s:bf S)(q:Nat×Nat×Nat):bf S:=match s.ob.get q.1 with
 |some (.box a)=>match nth a q.2.1 with
  |some (.ptr o 0)=>match s.ob.get o with
   |some (.box b)=>match nG s (S.fs q.2.2) b with
    |some (h,os)=>
     let p:=λk=>Nq o k||Nl s.aF k
     bif aip os&&(Nl Iw o&&(Nt q.1 Iw&&!(cH p v)))then
      {s with ob:=(s.ob.mapA (eT p)).set aO q.1 (.box ((a.map (fK p)).set q.2.1 (.ty (.opt q.2.2) (Z (S.DC q.2.2 h)))))}
     else s
    |none=>s
   |_=>s
  |_=>s
 |_=>s
def abU(d:L Ck)(ps:L Pk)(v:V S)(s0:bf S):O (fU S.A d×gQ S.A ps):=
 let e:=(Ij ps 0).foldl (EY v (dU ps)) s0
 match fR e d (V5 d v),tS e 0 ps with
 |some (r,f,g),Z (b,a,c)=>match dS e (f++a)with
  |some _=>bif rP (g++c)&&BJ (g++c) (f++a)then Z (r,b)else Y|none=>Y
 |_,_=>Y
def afn(a:aa)(b:L Ck)(ps:L Pk)(v:V S)(s':bf S):O (RT a (fU S.A b×gQ S.A ps) (den S.A S.pt×gQ S.A ps)):=
 match abU b ps v s' with
 |some r=>Z (RT.ok a r)|none=>Y
def afm(a:aa)(b:L Ck)(ps:L Pk)(v:V S)(s':bf S):O (RT a (fU S.A b×gQ S.A ps) (den S.A S.pt×gQ S.A ps)):=
 match abU [.dat S.pt] ps v s' with
 |some r=>RT.jJ a (r.1.1,r.2)|none=>Y
noncomputable def uM(E:er S)(n d:Nat)(f:FuncId)(ps:L Pk)(a:L Ck)(x:fI S.A ps):O (RT E.pn (fU S.A a×gQ S.A ps) (den S.A S.pt×gQ S.A ps)):=
 match u6 0 ⟨.nil,dU ps,0,dU ps,[],[]⟩ ps x with
 |(args,s)=>bif !(Nl s.aF bD)then Y else Yy E n d f args s (afn E.pn a ps) (afm E.pn a ps)
section
namespace Tr
variable {α β:Type}
def map(f:α->β):Tr α->Tr β
 |.nil=>.nil|.node v l r=>.node (v.map f) (map f l) (map f r)
def get_map(f:α->β):∀(t:Tr α)(k:Nat),(t.map f).get k=(t.get k).map f
 |.nil,k=>by rfl
 |.node v l r,0=>by rw[map,iO,iO]
 |.node v l r,k+1=>by rw[map,dz,dz,get_map f l,get_map f r];split<;>rfl
theorem mc(f:α->β):∀(n:Nat)(t:Tr α)(k:Nat)(x:α),(Tr.set n t k x).map f=Tr.set n (t.map f) k (f x)
 |0,t,k,x=>rfl|n+1,.nil,0,x=>rfl|n+1,.nil,k+1,x=>by rw[map,oL,oL];split;rw[map,mc f n];rfl;rw[map,mc f n];rfl
 |n+1,.node v l r,0,x=>rfl|n+1,.node v l r,k+1,x=>by rw[map,ny,ny];split;rw[map,mc f n];rw[map,mc f n]
end Tr
def uh(S:Sg):(l:L (TypeId×Ty))->xz S.A l->O (TypeId×D)
 |[],_=>Y|p::_,.inl x=>Z (p.1,enc S p.2 x)|_::l,.inr y=>uh S l y
def NV:L (TypeId×Ty)->aa
 |[]=>W|p::l=>(wE l p.1).isNone&&NV l
structure eZ(S:Sg):Prop where
 rU:∀n h,S.get n (S.DC n h)=h
 W6:∀n x,S.DC n (S.get n x)=x
 cells:∀n x,S.cells n x=eS S (S.fs n) (S.get n x)
 leaf:∀n,∀t∈S.fs n,ke t=J
 DF:∀n h,S.tZ n (S.imk n h)=h
 qX:∀n x,S.qX n x=uh S (S.alts n) (S.tZ n x)
 alts:∀n,NV (S.alts n)=W
def Nv:∀l:L (TypeId×Ty),uh S l (W1 l)=Y
 |[]=>rfl|_::l=>Nv l
def Nw:∀(l:L (TypeId×Ty))(t:TypeId)(i:Nat)(x:den S.A (mR l i)),wE l t=Z i->uh S l (Xw l i x)=Z (t,enc S (mR l i) x)
 |[],t,i,x,h=>by cases h
 |p::l,t,i,x,h=>by
  obtain⟨a,h⟩|⟨_,h⟩:=ah h
  simp at h;subst h;simp only[Xw,uh,uZ a];rfl;split at h;rename_i j b;simp only[gC]at h;subst h;exact Nw l t j x b;cases h
def ahH:Ty->Nat
 |.str=>16|.de _=>16|.sl _=>24|_=>8
def aak:L Ty->Nat
 |[]=>0|t::l=>Na (ahH t) (aak l)
def y9(S:Sg):Ty->Nat
 |.int .i8|.int .u8=>1|.int .i16|.int .u16=>2|.int .i32|.int .u32=>4|.int _=>8|.bool=>1|.str=>16|.sl _=>24|.st n=>aak (S.fs n)|.de _=>16|.opt _|.mp _ _=>8
def abl(o:O (TypeId×D)):(Oo o).lby=16:=by cases o<;>rfl
theorem vP(o:O (TypeId×D)):(Oo o).leaf=W:=by cases o<;>rfl
theorem m8(o:O (TypeId×D)):(Oo o).cells=[Oo o]:=by cases o<;>rfl
def aeD(o:O (TypeId×D)):(Oo o).r7=16:=by cases o<;>rfl
def iK(o:O D):(ptD o).lby=8/\(ptD o).leaf=W/\(ptD o).cells=[ptD o]/\(ptD o).r7=8:=by cases o<;>exact⟨rfl,rfl,rfl,rfl⟩
def mz:∀(ts:L Ty)(h:lB S.A ts),(eS S ts h).length=ts.length
 |[],_=>rfl|t::ts,h=>by simp[eS,mz ts]
variable {t u:Ty}{v:V S}
def abW(x:den S.A t)(h:ke t=J):(enc S t x).lby=ahH t:=by cases t<;>first|rfl|exact abl _|exact(iK _).1|cases h
def Eh:∀(ts:L Ty)(h:lB S.A ts),(∀t∈ts,ke t=J)->D.oC (eS S ts h)=aak ts
 |[],_,_=>rfl|t::ts,h,a=>by simp[eS,D.oC,aak,abW _ (a t (by simp)),Eh ts h.2 (λu b=>a u (by simp[b]))]
def FM(x:den S.A t)(h:ke t=J):(enc S t x).leaf=W:=by cases t<;>first|rfl|exact vP _|exact(iK _).2.1|cases h
def g7:∀(ts:L Ty)(h:lB S.A ts),(∀t∈ts,ke t=J)->∀d∈eS S ts h,d.leaf=W
 |[],_,_,d,a=>by simp[eS]at a
 |t::ts,h,b,d,a=>by
  simp[eS,fF]at a;obtain rfl|a:=a
  exact FM _ (b t (by simp));exact g7 ts h.2 (λu c=>b u (by simp[c])) d a
def Bx(a:eZ S)(x:den S.A t):(enc S t x).r7=y9 S t:=by
 cases t with
 |st n=>simp[enc,D.r7,y9];rw[show S.cells n x=_ from a.cells n x,Eh _ _ (a.leaf n)]|int k=>cases k<;>rfl
 |de n=>exact aeD _|opt n=>exact(iK _).2.2.2|_=>rfl
theorem ki(a:eZ S){t:Ty}(x:den S.A t):(enc S t x).cells.length=S.width t:=by cases t with|st n=>simp[enc,D.cells,Sg.width,bS];rw[show S.cells n x=_ from a.cells n x,mz]|de n=>rw[show enc S (.de n) x=Oo (S.qX n x)from rfl,m8];rfl|opt n=>exact lq List.length (iK _).2.2.1|_=>rfl
theorem Nu(a:eZ S){t:Ty}(x:den S.A t):(enc S t x).flat=W:=by cases t with|st n=>simp[enc,D.flat,D.cells,j5];rw[show S.cells n x=_ from a.cells n x];exact g7 _ _ (a.leaf n)|de n=>grind[enc,D.flat,m8,vP]|opt n=>simp[enc,D.flat,(iK _).2.2.1,(iK _).2.1]|_=>rfl
def dY(S:Sg):(t:Ty)->den S.A t->T
 |.st n,x=>.agg ((S.cells n x).map .sym)|.int k,x=>.sym (enc S (.int k) x)|.bool,x=>.sym (enc S .bool x)|.str,x=>.sym (enc S .str x)|.sl e,x=>.sym (enc S (.sl e) x)|.de n,x=>.sym (enc S (.de n) x)|.opt n,x=>.sym (enc S (.opt n) x)|.mp k v,x=>.sym (enc S (.mp k v) x)
def yO(x:den S.A t)(h:ke t=J):dY S t x=.sym (enc S t x):=by cases t<;>first|rfl|cases h
mutual
def low:V S->T
 |.ty t x=>dY S t x|.kb b=>.kb b|.kn k n=>.kn k n|.dat d=>.sym d|.ptr o off=>.ptr o off|.lD t x off=>.lD (enc S t x) off|.lC o e i off=>.lC o e i off|.sh o e=>.sh o e|.emp=>.emp|.j4 n t l=>.j4 n (l.map (enc S t))|.fn f a b=>.fn f (bu a) (bu b)|.de t v=>.de t (low v)|.agg g=>.agg (bu g)|.gG h=>.gG (bu h)|.gd c v=>.gd c (low v)|.mp o=>.mp o|.qN o=>.qN o|.tD o=>.tD o|.ub e=>.ub e|.rQ o m r i=>.rQ o m r i|.o6 n j x=>.o6 j (enc S (.st n) x)
def bu:L (V S)->L T
 |[]=>[]|v::l=>low v::bu l
end
def eP:∀l:L (V S),bu l=l.map low
 |[]=>rfl|v::l=>by simp[bu,mh,eP l]
def lU:so S->Df
 |.call f args=>.call (low f) (bu args)|.mark o=>.mark o|.marks o=>.marks o|.jZ=>.jZ|.bad=>.bad
def bB(fr:bV S):Fr:=⟨fr.n,fr.tm.map low,fr.df.map lU⟩
def sO(l:LpV S):Lp:=⟨l.st,l.u0,l.fid,bB l.fr,l.params,l.assign,l.body⟩
def cX:uz S->Ob
 |.box e=>.box (bu e)|.arr t l era=>.arr (S.width t) (l.map (enc S t)) era|.kM t l era=>.kM (S.width t) (l.map (enc S t)) era|.map c f l=>.map (l.map λp=>(dY S c p.1,dY S f p.2))|.GY c l=>.map (l.map λp=>(dY S c p.1,low p.2))|.qO b pos=>.qO (cR b) pos|.lp l=>.lp (sO l)|.zm=>.zm|.kT n j l era m a hole=>.kT j (S.width (.st n)) (l.map (enc S (.st n))) era m a hole|.rws t d a=>.rws (S.width t) (d.map (·.map (enc S t))) a|.gone=>.gone|.E5=>.E5
def aE(s:bf S):St:=⟨s.ob.map cX,s.aF,s.fl,s.lo⟩
theorem aK(s:bf S)(o:Nat):(aE s).ob.get o=(s.ob.get o).map cX:=Tr.get_map _ _ _
theorem bU(fr:bV S)(k:Nat):(bB fr).get k=(fr.get k).map low:=Tr.get_map _ _ _
def Ue(fr:bV S)(k:Nat)(v:V S):bB (fr.put k v)=(bB fr).put k (low v):=by simp[bB,bV.put,Fr.put,Tr.mc]
def O9(fr:bV S)(k:O Nat)(v:V S):bB (fr.kG k v)=(bB fr).kG k (low v):=by cases k with|none=>rfl|some k=>exact Ue fr k v
theorem eu(s:bf S)(o:Nat)(ob:uz S)(wr:L Nat):aE {s with ob:=s.ob.set aO o ob,wr:=wr}={aE s with ob:=(aE s).ob.set aO o (cX ob)}:=by simp[aE,Tr.mc]
def gO(s:bf S)(ob:uz S):aE (dh s ob)=(ee (aE s) (cX ob)).2:=by simp[aE,dh,ee,Tr.mc]
def Yx(b:ByteArray):cR (ofBytes b)=b:=by rfl
def Qa{v:az}{u:V S}(h:um v=Z u):ofConst v=Z (low u):=by
 cases v with
 |bool b=>simp[um,gC]at h;subst h;rfl|int k n=>simp[um,gC]at h;subst h;rfl|string b=>simp[um,gC]at h;subst h;simp only[ofConst,low,dY,enc,Cu,jq];rw[Yx]|slice a n m=>
  unfold um at h;split at h;all_goals first
   |(simp only[gC]at h;rename_i c;simp only[Value.slice.injEq]at c;obtain⟨rfl,rfl,rfl⟩:=c;subst h;rfl)
   |(rename_i c;cases c;done)
   |grind[Cu]
 |func f a b=>
  simp[um]at h;simp[ofConst];split at h
  .simp at h;subst h;rename_i h1 h2;try rw[h1,h2]
   rfl
  cases h
 |iface t v=>simp[um,fG]at h;obtain⟨d,e,rfl⟩:=h;simp only[ofConst,e,jq];rfl
 |_=>simp only[um,fG]at h;obtain⟨d,e,rfl⟩:=h;simp only[ofConst,e,jq];rfl
theorem cw{fr:bV S}{x:Operand}{u:V S}(h:cx fr x=Z u):jO (bB fr) x=Z (low u):=by
 cases x with
 |tmp k=>grind[cx,jO,bU]|const v=>exact Qa h|global g=>cases h
 |func f=>simp[cx,gC]at h;subst h;rfl
def gN{fr:bV S}:∀{l:L Operand}{a:L (V S)},jN fr l=Z a->xQ (bB fr) l=Z (bu a)
 |[],a,h=>by simp only[jN,gC]at h;subst h;rfl
 |x::l,a,h=>by simp[jN]at h;split at h;rename_i h1 h2;simp at h;subst h;simp[xQ,cw h1,gN h2,bu];cases h
def I0{x:den S.A t}{y:den S.A u}(h:wg t u x=Z y):t=u/\HEq x y:=by
 unfold wg at h
 grind
def fy{x:L (den S.A t)}{y:L (den S.A u)}(h:nZ t u x=Z y):t=u/\HEq x y:=by
 unfold nZ at h
 grind
theorem gi{k:IntKind}{v:V S}{n:Int}(h:l6 k v=Z n):∃p,xy k (low v)=Z (p,n)/\p:=by unfold l6 at h;split at h;rename_i j m;cases a:oe j k<;>rw[a]at h;cases h;simp at h;subst h;exact⟨True,by simp[low,xy,a],trivial⟩;rename_i j x;cases a:oe j k<;>rw[a]at h;cases h;simp at h;subst h;exact⟨_,rfl,a⟩;cases h
def lZ{b:aa}(h:rB v=Z b):∃p,Ax (low v)=Z (p,b)/\p:=by unfold rB at h;split at h;simp at h;subst h;exact⟨True,rfl,trivial⟩;simp at h;subst h;exact⟨_,rfl,rfl⟩;cases h
def kO{b:L UInt8}(h:vn v=Z b):∃p,zB (low v)=Z (p,cR b)/\p:=by unfold vn at h;split at h;simp at h;subst h;exact⟨_,rfl,rfl⟩;cases h
def vJ:∀(ts:L Ty)(h:lB S.A ts),(∀t∈ts,ke t=J)->bu (zY (S:=S) ts h)=(eS S ts h).map .sym
 |[],_,_=>rfl|t::ts,h,a=>by simp only[zY,bu,eS,mh,vJ ts h.2 (λu b=>a u (by simp[b]))];rw[low,yO _ (a t (by simp))]
theorem eF:∀l:L (V S),(bu l).length=l.length
 |[]=>rfl|v::l=>by simp[bu,eF l]
def jR(l m:L (V S)):bu (l++m)=bu l++bu m:=by simp[eP,A5]
def lR(l:L (V S))(n:Nat):bu (l.take n)=(bu l).take n:=by simp[eP,List.map_take]
def lT(l:L (V S))(n:Nat):bu (l.drop n)=(bu l).drop n:=by simp[eP,List.map_drop]
def Uh(h:Xj v=W):(low v).leaf:=by
 cases v with
 |ty t x=>simp[Xj,Mb]at h;rw[low,yO _ h];exact FM x h|dat d=>exact h|agg=>cases h
 |gG=>cases h
 |gd=>cases h
 |_=>trivial
def yP:∀{l:L (V S)},Bi l=W->leaves (bu l)
 |[],_=>trivial|v::l,h=>by simp[Bi,eM]at h;exact⟨Uh h.1,yP h.2⟩
def EF(cs:L D):(List.range cs.length).map (λj=>T.sym ((D.agg cs).cell j))=cs.map .sym:=by
 apply Mm
 grind[D.cell,D.cells]
theorem qF(f:eZ S){i:TI}{v:V S}{l:L (V S)}(h:v9 i v=Z l):∃p,jY i (low v)=Z (p,bu l)/\p:=by
 unfold v9 at h;split at h;rename_i g;obtain⟨a,h⟩|⟨_,h⟩:=ah h
 simp at h;have:(i.agg&&Nq (cC (bu g)) i.size)=W:=by grind[bS,eF]
 exact⟨True,by simp_all[low,jY],trivial⟩;cases h;rename_i n x;obtain⟨a,h⟩|⟨_,h⟩:=ah h
 simp at h;subst h;rw[vJ _ _ (f.leaf n),<-f.cells];have:(i.agg&&Nq (cC ((S.cells n x).map T.sym)) i.size)=W:=by rw[bS,rM,f.cells,mz,<-bS];exact a
 exact⟨True,by simp_all[low,dY,jY],trivial⟩;cases h;rename_i d;obtain⟨_,h⟩|⟨b,h⟩:=ah h
 cases h;obtain⟨a,h⟩|⟨_,h⟩:=ah h
 simp only[eM]at a;simp at h;subst h;exact⟨_,by simp only[low,jY,b,a.1,gn,gJ];rfl,a.2⟩;(iterate 3 cases h);obtain⟨_,h⟩|⟨b,h⟩:=ah h
 cases h;obtain⟨a,h⟩|⟨_,h⟩:=ah h
 .simp at h;subst h;cases v with
  |ty t x=>
   have j:ke t=J:=by cases t with|st n=>grind|_=>rfl
   have e:low (V.ty t x)=.sym (enc S t x):=by rw[low,yO _ j]
   refine⟨(enc S t x).leaf=W,?_,FM _ j⟩
   simp_all[bu,jY]
  |agg g=>simp_all|dat d=>simp_all|gG k=>simp_all|gd c v=>simp_all|_=>exact⟨True,by simp only[low,bu,jY,b,a,gn,gJ],trivial⟩
 cases h
def pG{ag:aa}{l:L (V S)}(h:Cp ag l=Z v):vE ag (bu l)=Z (low v):=by
 obtain⟨a,h⟩|⟨a,h⟩:=ah h
 simp at h;subst h;simp[vE,a,gn,low];split at h
 simp_all[vE,bu]
 cases h
end
section
def yc(S:Sg)(i:TI):Ty->Prop
 |.int k=>i.kd=.leaf (.int k)/\i.agg=J/\i.size=1|.bool=>i.kd=.leaf .bool/\i.agg=J/\i.size=1|.str=>i.kd=.leaf .str/\i.agg=J/\i.size=1|.sl e=>(∃z,i.kd=.slice (S.width e) (ke e) (y9 S e) z/\(bif ke e then D.agg z=enc S e (S.zero e)else z=[enc S e (S.zero e)]))/\i.agg=J/\i.size=1/\0<S.width e|.st n=>i.agg=W/\i.size=(S.fs n).length|.de _=>i.kd=.iface/\i.agg=J/\i.size=1|.opt _=>i.kd=.ptr/\i.agg=J/\i.size=1|.mp _ _=>True/\i.agg=J/\i.size=1
structure Qw(S:Sg)(E:fN):Prop where
 row:∀k i τ,E.E.ti k=Z i->E.ty k=Z τ->yc S i τ
def wS(s:St):∀ds:L D,∃p,nH s (ds.map .sym)=Z (p,ds,[])/\p
 |[]=>⟨True,rfl,trivial⟩|d::ds=>by
  let ⟨p,h,a⟩:=wS s ds
  exact⟨True/\p,by grind[nH,AV],trivial,a⟩
variable {t e:Ty}{n:Int}{s:bf S}{v:V S}{i:TI}{τ:Option Ty}{fr:bV S}{u:Option (V S)}
def Tk(a:eZ S)(s:St)(x:den S.A t):∃p,AV s (dY S t x)=Z (p,enc S t x,[])/\p:=by
 cases t with
 |st n=>
  let ⟨p,h,b⟩:=wS s (S.cells n x)
  refine⟨p/\(S.cells n x).all D.leaf=W,by simp[dY,AV,h,enc],b,?_⟩;rw[j5,a.cells];exact g7 _ _ (a.leaf n)
 |_=>exact⟨True,rfl,trivial⟩
def ML(k:IntKind):oe k k=W:=by cases k<;>rfl
def wR:∀t:Ty,rH t t=W
 |.int k=>ML k|.bool=>rfl|.str=>rfl|.sl e=>wR e|.st n=>Nat.beq_refl n|.de n=>Nat.beq_refl n|.opt n=>Nat.beq_refl n|.mp k v=>yH.2 ⟨wR k,wR v⟩
theorem we{t:Ty}(x:den S.A t):wg (S:=S) t t x=Z x:=by unfold wg;rw[dif_pos (wR t)]
def IP:∀{ts:L Ty}{h:lB S.A ts}{j:Nat}{t:Ty}{y:den S.A t},nth ts j=Z t->eS S ts (u7 ts h j t y)=(eS S ts h).set j (enc S t y)
 |[],_,_,_,_,h=>by rfl
 | τ::ts,h,0,t,y,e=>by
  grind[nth,u7,we,eS]
 | τ::ts,h,j+1,t,y,e=>by simp[nth]at e;simp[u7,eS,List.set_cons_succ,IP e]
def IQ:∀{ts:L Ty}{h:lB S.A ts}{j:Nat}{t:Ty},nth ts j=Z t->(eS S ts h)[j]?=Z (enc S t (dN ts h j t))
 |[],_,_,_,h=>by simp[nth]at h
 | τ::ts,h,0,t,e=>by
  grind[nth,dN,we,eS]
 | τ::ts,h,j+1,t,e=>by simp[nth]at e;simp[dN,eS,List.getElem?_cons_succ,IQ e]
def FX{n j:Nat}(h:Dh S n j t=W):nth (S.fs n) j=Z (.sl t):=by
 grind[Dh,jy]
theorem Ye(a:eZ S){n j:Nat}{t:Ty}(b:Dh S n j t=W)(x:S.A n)(y:L (den S.A t)):enc S (.st n) (Tw n j t x y)=Ac j (enc S (.st n) x) (y.map (enc S t)):=by show D.agg (S.cells n _)=D.agg ((S.cells n x).set j _);rw[a.cells,a.cells,Tw,a.rU,IP (FX b)];rfl
theorem FA(a:eZ S){n j:Nat}{t:Ty}(b:Dh S n j t=W):∀(l:L (S.A n))(iG:L (L (den S.A t))),(kC n j t l iG).map (enc S (.st n))=mw j (l.map (enc S (.st n))) (iG.map (·.map (enc S t)))
 |[],_=>by rfl
 |_::_,[]=>by rfl
 |x::l,c::iG=>by
  grind[kC,mw,Ye]
def zH{m r:Nat}{iG:L (L (den S.A t))}(h:LM s m r=Z ⟨t,iG⟩):Hl (aE s) m r=Z (iG.map (·.map (enc S t))):=by
 unfold LM at h;split at h;obtain⟨a,h⟩|⟨_,h⟩:=ah h
 cases h
 simp_all[Hl,aK,cX]
 cases h;cases h
mutual
def pR(d:eZ S)(s:bf S):∀(t:Ty)(v:V S){x:den S.A t}{os:L Nat},bT s t v=Z (x,os)->∃p,AV (aE s) (low v)=Z (p,enc S t x,os)/\p
 |t,.ty u y,x,os,h=>by simp[bT]at h;split at h;rename_i z f;obtain⟨rfl,c⟩:=I0 f;cases c;obtain⟨rfl,rfl⟩:=h;exact Tk d _ _;cases h
 |.bool,.kb b,x,os,h=>by obtain⟨rfl,rfl⟩:=h;exact⟨True,rfl,trivial⟩
 |.int k,.kn j n,x,os,h=>by
  obtain⟨g,h⟩|⟨_,h⟩:=ah h
  obtain⟨rfl,rfl⟩:=h;rw[Bj g];exact⟨True,rfl,trivial⟩;cases h
 |.sl e,.emp,x,os,h=>by obtain⟨rfl,rfl⟩:=h;exact⟨True,rfl,trivial⟩
 |.sl e,.j4 n t l,x,os,h=>by simp[bT]at h;split at h;rename_i z f;obtain⟨rfl,c⟩:=fy f;cases c;obtain⟨rfl,rfl⟩:=h;exact⟨True,rfl,trivial⟩;cases h
 |.sl e,.sh o r,x,os,h=>by
  simp[bT]at h;split at h;rename_i t l era q;obtain⟨g,h⟩|⟨_,h⟩:=ah h
  split at h;rename_i z f;obtain⟨rfl,c⟩:=fy f;cases c;obtain⟨rfl,rfl⟩:=h;refine⟨True,?_,trivial⟩
  simp_all[low,AV,aK,cX,enc]
  cases h;cases h;rename_i t l era q;obtain⟨g,h⟩|⟨_,h⟩:=ah h
  split at h;rename_i z f;obtain⟨rfl,c⟩:=fy f;cases c;obtain⟨rfl,rfl⟩:=h;refine⟨True,?_,trivial⟩
  simp_all[low,AV,aK,cX,enc]
  cases h;cases h;rename_i n j l era m R q;split at h;rename_i t E F;obtain⟨g,h⟩|⟨_,h⟩:=ah h
  simp only[eM]at g;split at h;rename_i z f;obtain⟨rfl,c⟩:=fy f;cases c;obtain⟨rfl,rfl⟩:=h;refine⟨True,?_,trivial⟩;simp only[low,AV,aK,q,jq,cX,zH F,g.1,g.2.1,Mf,gn];rw[<-FA d g.2.2];rfl;iterate 4 cases h
 |.sl e,.o6 n j x0,x,os,h=>by simp[bT]at h;split at h;rename_i f;obtain⟨rfl,c⟩:=fy f;cases c;obtain⟨rfl,rfl⟩:=h;exact⟨True,rfl,trivial⟩;cases h
 |.st n,.agg I,x,os,h=>by
  simp[bT]at h;split at h;rename_i h1 w K;obtain⟨rfl,rfl⟩:=h
  let ⟨p,A,B⟩:=pE d s (S.fs n) I K
  have C:S.cells n (S.DC n h1)=eS S (S.fs n) h1:=by rw[d.cells,d.rU]
  refine⟨p/\(eS S (S.fs n) h1).all D.leaf=W,by simp[low,AV,A,enc,C],B,?_⟩;rw[j5];exact g7 _ _ (d.leaf n);cases h
 |.de n,.de t v,x,os,h=>by
  simp[bT]at h;split at h;rename_i i P;split at h;rename_i y w Q;obtain⟨rfl,rfl⟩:=h
  let ⟨p,A,B⟩:=pR d s _ v Q
  refine⟨p,?_,B⟩;have e:enc S (.de n) (S.imk n (Xw (S.alts n) i y))=.de t (enc S (mR (S.alts n) i) y):=by show Oo (S.qX n _)=_;rw[d.qX,d.DF,Nw _ _ _ _ P];rfl
  simp[low,AV,A,e];cases h;cases h
 |.de n,.dat (.lit .nilIface),x,os,h=>by
  obtain⟨rfl,rfl⟩:=h;refine⟨True,?_,trivial⟩;have e:enc S (.de n) (S.imk n (W1 (S.alts n)))=.lit .nilIface:=by show Oo (S.qX n _)=_;rw[d.qX,d.DF,Nv];rfl
  simp[low,AV,e]
 |.opt _,.dat (.lit v),_,_,h=>by
  cases v with
  |pointer a=>cases a<;>simp[bT]at h;obtain⟨rfl,rfl⟩:=h;exact⟨True,rfl,trivial⟩
  |_=>simp[bT]at h
 |.opt _,.dat (.sl _),_,_,h=>by simp[bT]at h
 |.opt _,.dat (.agg _),_,_,h=>by simp[bT]at h
 |.opt _,.dat (.de _ _),_,_,h=>by simp[bT]at h
 |.opt _,.dat (.gG _),_,_,h=>by simp[bT]at h
 |.opt _,.dat (.pt _),_,_,h=>by simp[bT]at h
 |.opt _,.dat (.mp _ _),_,_,h=>by simp[bT]at h
 |.mp _ _,.dat _,_,_,h=>by simp[bT]at h
 |.de _,.kb _,_,_,h=>by simp[bT]at h
 |.de _,.kn _ _,_,_,h=>by simp[bT]at h
 |.de _,.emp,_,_,h=>by simp[bT]at h
 |.de _,.j4 _ _ _,_,_,h=>by simp[bT]at h
 |.de _,.sh _ _,_,_,h=>by simp[bT]at h
 |.de _,.o6 _ _ _,_,_,h=>by simp[bT]at h
 |.bool,.o6 _ _ _,_,_,h=>by simp[bT]at h
 |.str,.o6 _ _ _,_,_,h=>by simp[bT]at h
 |.int _,.o6 _ _ _,_,_,h=>by simp[bT]at h
 |.st _,.o6 _ _ _,_,_,h=>by simp[bT]at h
 |t,.rQ _ _ _ _,_,_,h=>by cases t<;>simp[bT]at h
 |.de _,.agg _,_,_,h=>by simp[bT]at h
 |.int _,.de _ _,_,_,h=>by simp[bT]at h
 |.bool,.de _ _,_,_,h=>by simp[bT]at h
 |.str,.de _ _,_,_,h=>by simp[bT]at h
 |.sl _,.de _ _,_,_,h=>by simp[bT]at h
 |.st _,.de _ _,_,_,h=>by simp[bT]at h
 |.int _,.dat _,_,_,h=>by simp[bT]at h
 |.bool,.dat _,_,_,h=>by simp[bT]at h
 |.str,.dat _,_,_,h=>by simp[bT]at h
 |.sl _,.dat _,_,_,h=>by simp[bT]at h
 |.st _,.dat _,_,_,h=>by simp[bT]at h
 |.de _,.dat (.sl _),_,_,h=>by simp[bT]at h
 |.de _,.dat (.agg _),_,_,h=>by simp[bT]at h
 |.de _,.dat (.de _ _),_,_,h=>by simp[bT]at h
 |.de _,.dat (.gG _),_,_,h=>by simp[bT]at h
 |.de _,.dat (.lit (.bool _)),_,_,h=>by simp[bT]at h
 |.de _,.dat (.lit (.int _ _)),_,_,h=>by simp[bT]at h
 |.de _,.dat (.lit (.float _ _)),_,_,h=>by simp[bT]at h
 |.de _,.dat (.lit (.complex _ _ _)),_,_,h=>by simp[bT]at h
 |.de _,.dat (.lit (.string _)),_,_,h=>by simp[bT]at h
 |.de _,.dat (.lit (.pointer _)),_,_,h=>by simp[bT]at h
 |.de _,.dat (.lit (.slice _ _ _)),_,_,h=>by simp[bT]at h
 |.de _,.dat (.lit (.map _)),_,_,h=>by simp[bT]at h
 |.de _,.dat (.lit (.chan _)),_,_,h=>by simp[bT]at h
 |.de _,.dat (.lit (.iface _ _)),_,_,h=>by simp[bT]at h
 |.de _,.dat (.lit (.func _ _ _)),_,_,h=>by simp[bT]at h
 |.de _,.dat (.lit .nilFunc),_,_,h=>by simp[bT]at h
 |.de _,.dat (.lit (.agg _)),_,_,h=>by simp[bT]at h
 |.de _,.dat (.lit (.tuple _)),_,_,h=>by simp[bT]at h
 |t,.mp _,_,_,h=>by cases t<;>simp[bT]at h
 |t,.qN _,_,_,h=>by cases t<;>simp[bT]at h
 |t,.tD _,_,_,h=>by cases t<;>simp[bT]at h
 |t,.ub _,_,_,h=>by cases t<;>simp[bT]at h
 |.int _,.kb _,_,_,h=>by simp[bT]at h
 |.str,.kb _,_,_,h=>by simp[bT]at h
 |.sl _,.kb _,_,_,h=>by simp[bT]at h
 |.st _,.kb _,_,_,h=>by simp[bT]at h
 |.bool,.kn _ _,_,_,h=>by simp[bT]at h
 |.str,.kn _ _,_,_,h=>by simp[bT]at h
 |.sl _,.kn _ _,_,_,h=>by simp[bT]at h
 |.st _,.kn _ _,_,_,h=>by simp[bT]at h
 |.bool,.emp,_,_,h=>by simp[bT]at h
 |.str,.emp,_,_,h=>by simp[bT]at h
 |.int _,.emp,_,_,h=>by simp[bT]at h
 |.st _,.emp,_,_,h=>by simp[bT]at h
 |.bool,.j4 _ _ _,_,_,h=>by simp[bT]at h
 |.str,.j4 _ _ _,_,_,h=>by simp[bT]at h
 |.int _,.j4 _ _ _,_,_,h=>by simp[bT]at h
 |.st _,.j4 _ _ _,_,_,h=>by simp[bT]at h
 |.bool,.sh _ _,_,_,h=>by simp[bT]at h
 |.str,.sh _ _,_,_,h=>by simp[bT]at h
 |.int _,.sh _ _,_,_,h=>by simp[bT]at h
 |.st _,.sh _ _,_,_,h=>by simp[bT]at h
 |.bool,.agg _,_,_,h=>by simp[bT]at h
 |.str,.agg _,_,_,h=>by simp[bT]at h
 |.int _,.agg _,_,_,h=>by simp[bT]at h
 |.sl _,.agg _,_,_,h=>by simp[bT]at h
 |t,.ptr _ _,_,_,h=>by cases t<;>simp[bT]at h
 |t,.lD _ _ _,_,_,h=>by cases t<;>simp[bT]at h
 |t,.lC _ _ _ _,_,_,h=>by cases t<;>simp[bT]at h
 |t,.fn _ _ _,_,_,h=>by cases t<;>simp[bT]at h
 |t,.gG _,_,_,h=>by cases t<;>simp[bT]at h
 |t,.gd _ _,_,_,h=>by cases t<;>simp[bT]at h
def pE(b:eZ S)(s:bf S):∀(ts:L Ty)(l:L (V S)){h:lB S.A ts}{os:L Nat},nG s ts l=Z (h,os)->∃p,nH (aE s) (bu l)=Z (p,eS S ts h,os)/\p
 |[],[],x,os,h=>by obtain⟨_,rfl⟩:=h;exact⟨True,rfl,trivial⟩
 |t::ts,v::l,x,os,h=>by
  simp[nG]at h;split at h;rename_i c d;obtain⟨rfl,rfl⟩:=h
  let ⟨p,e,f⟩:=pR b s t v c
  let ⟨q,a,g⟩:=pE b s ts l d
  exact⟨p/\q,by simp[bu,nH,e,a,eS],f,g⟩;cases h
 |[],_::_,_,_,h=>by simp[nG]at h
 |_::_,[],_,_,h=>by simp[nG]at h
end
def dw(c:eZ S):∀(os:L Nat){s s':bf S},dS s os=Z s'->freeze (aE s) os=Z (aE s')
 |[],s,s',h=>by simp only[dS,gC]at h;subst h;rfl
 |o::os,s,s',h=>by
  simp only[dS]at h;obtain⟨e,h⟩|⟨_,h⟩:=ah h
  have d:Nl (aE s).fl o=W:=e;simp only[freeze,d,gn];split at h;rename_i t l era b;have:=dw c os h
  grind[eu,aK,cX]
  rename_i t l era b;simp only[aK,b,jq,cX];exact dw c os h;rename_i m r b;split at h;rename_i t f g;obtain⟨a,h⟩|⟨_,h⟩:=ah h
  simp only[eM]at a;have:=dw c os h;have i:Nl (aE s).fl m=W:=a.2.1;simp only[aK,b,jq,cX,zH g,i,a.1,a.2.2.1,Mf,gn]
  grind[aE,Tr.mc,cX,FA]
  cases h;cases h;rename_i b;simp only[aK,b,jq,cX];exact dw c os h;rename_i b;simp only[aK,b,jq,cX];exact dw c os h;cases h;cases h
def zC{l:L (den S.A e)}(h:JA s e v=Z l):∃p,AZ (aE s) (low v)=Z (p,l.map (enc S e))/\p:=by
 unfold JA at h;split at h;simp only[gC]at h;subst h;exact⟨True,rfl,trivial⟩;obtain⟨rfl,a⟩:=fy h;cases a;exact⟨True,rfl,trivial⟩;obtain⟨rfl,a⟩:=fy h;cases a;exact⟨True,rfl,trivial⟩;obtain⟨rfl,a⟩:=fy h;cases a;exact⟨_,rfl,rfl⟩;split at h;rename_i t c era d;obtain⟨b,h⟩|⟨_,h⟩:=ah h
 obtain⟨rfl,a⟩:=fy h;cases a;exact⟨True,by simp_all[low,AZ,aK,cX],trivial⟩;cases h;obtain⟨b,h⟩|⟨_,h⟩:=ah h
 obtain⟨rfl,a⟩:=fy h;cases a;exact⟨True,by simp_all[low,AZ,aK,cX],trivial⟩;iterate 3 cases h
def NT{o e:Nat}{l:L (den S.A t)}(h:KA s o e=Z ⟨t,l⟩):HD (aE s) o e=Z (S.width t,l.map (enc S t)):=by
 unfold KA at h;unfold HD;rw[aK];split at h;rename_i b c era d;obtain⟨a,h⟩|⟨_,h⟩:=ah h
 cases h
 simp_all[cX]
 cases h;obtain⟨a,h⟩|⟨_,h⟩:=ah h
 cases h
 simp_all[cX]
 cases h;cases h
def PS{α:Type}(f:α->D)(l:L α)(k:Nat)(z:α)(h:k<l.length):iX (l.map f) k=f (aX l k z):=by simp[iX,aX,h]
def vO{α:Type}{l:L α}(h:aL n l=W):0<=n/\n<l.length:=by simpa[aL]using h
def sS{α:Type}{k:Nat}{l:L α}(h:eo k l=W):k<l.length:=by simpa[eo]using h
def zZ(a:eZ S)(x:den S.A t):bu (vK (S:=S) t x)=(enc S t x).cells.map .sym:=by cases t with|st n=>simp[vK,enc,D.cells];rw[vJ _ _ (a.leaf n),a.cells]|de n=>show[T.sym (Oo (S.qX n x))]=(Oo (S.qX n x)).cells.map .sym;rw[m8];rfl|opt n=>exact(lq (List.map T.sym) (iK _).2.2.1).symm|_=>rfl
def A9(g:eZ S)(hi:∀u,τ=Z u->yc S i u){x:den S.A t}{off:Nat}(h:RJ i τ t x off=Z v) :
  mO i (enc S t x) off=Z (low v)/\(enc S t x).has (Na off i.size):=by
 have w:=ki g x;obtain⟨f,o⟩|⟨_,h⟩:=ah h
 simp only[eM]at f;clear h
 let ⟨h1,h2⟩:=f
 have p:=beq_iff'.1 h1;subst p;have h:=jG o;subst h;unfold aae at h2;split at h2
 .rename_i u;have:=jy h2;subst this;have c:=hi u rfl;cases u with
  |st n=>
   let ⟨b,a⟩:=c
   have q:(S.cells n x).length=(S.fs n).length:=by rw[g.cells,mz]
   refine⟨?_,?_⟩;unfold mO;rw[b,gn,a,<-q];simp[enc,low,dY,EF]
   simp_all[D.has,enc,D.cells]
  |int k=>let ⟨_,b,a⟩:=c;exact⟨by simp only[mO,b,a];rfl,by simp only[D.has,a];exact cM _⟩
  |bool=>let ⟨_,b,a⟩:=c;exact⟨by simp only[mO,b,a];rfl,by simp only[D.has,a];exact cM _⟩
  |str=>let ⟨_,b,a⟩:=c;exact⟨by simp only[mO,b,a];rfl,by simp only[D.has,a];exact cM _⟩
  |sl e=>let ⟨_,b,a,_⟩:=c;exact⟨by simp only[mO,b,a];rfl,by simp only[D.has,a];exact cM _⟩
  |de n=>
   let ⟨_,b,a⟩:=c
   have e:(enc S (.de n) x).cells=[enc S (.de n) x]:=m8 _;exact⟨by simp only[mO,b,a,D.cell,e];rfl,by simp_all[D.has]⟩
  |opt n=>
   let ⟨_,b,a⟩:=c
   have e:(enc S (.opt n) x).cells=[enc S (.opt n) x]:=(iK _).2.2.1;exact⟨by simp only[mO,b,a,D.cell,e];rfl,by simp_all[D.has]⟩
  |mp k v=>let ⟨_,b,a⟩:=c;exact⟨by simp only[mO,b,a];rfl,by simp only[D.has,a];exact cM _⟩
 cases h2;obtain⟨f,h⟩|⟨_,h⟩:=ah h
 .have r:off+i.size<=S.width t:=gH f;have d:=pG h;rw[lR,lT,zZ g]at d;have l:((List.map T.sym (enc S t x).cells).drop off).take i.size=(List.range i.size).map λj=>T.sym ((enc S t x).cell (off+j)):=by
   apply Mm;intro j;rw[kF];by_cases y:j<i.size
   grind[D.cell]
   grind
  refine⟨?_,by simp only[D.has];grind⟩;unfold vE at d;unfold mO;cases m:i.agg with
  |true=>
   simp_all
  |false=>
   rw[m,gJ]at d;split at d;rename_i s;have h1:i.size=1:=by
    have:=lq List.length s
    grind
   simp_all
   cases d
 cases h
def Iv(e:eZ S)(hi:∀u,τ=Z u->yc S i u){s':bf S}{a:V S}{c:aa}(h:xR i τ s a=Z (c,v,s'))(f:c=W) :
  s'=s/\∃p,loadT i (aE s) (low a)=Z (p,low v,aE s')/\p:=by
 unfold xR at h;split at h;rename_i o off;split at h;rename_i g w;obtain⟨y,h⟩|⟨_,h⟩:=ah h
 simp only[fG,fc]at h;obtain⟨t,j,_,rfl,rfl⟩:=h;refine⟨rfl,True,?_,trivial⟩;have m:=pG j;rw[lR,lT]at m;have n:Nq (cC (((bu g).drop off).take i.size)) i.size=W:=by
  grind[bS,eF]
 simp_all[low,loadT,aK,cX]
 cases h;cases h;rename_i t x off;simp only[fG,fc]at h;obtain⟨u,b,_,rfl,rfl⟩:=h
 let ⟨h1,h2⟩:=A9 e hi b
 exact⟨rfl,_,by grind[low,loadT],h2⟩;rename_i k off;split at h;rename_i t l q;simp at h;obtain⟨u,b,rfl,rfl,rfl⟩:=h
 let ⟨h1,h2⟩:=A9 e hi b
 have r:=sS f;have d:=PS (enc S t) l k (S.zero t) r;refine⟨rfl,kY (k:Int) (eE (l.map (enc S t)))/\(enc S t (aX l k (S.zero t))).has (Na off i.size),by simp[low,loadT,NT q,d,h1,jq],?_,h2⟩
 grind[kY,eE]
 cases h;cases h
def EX{x:O Operand}(h:JR fr x=Z u):Mx (bB fr) x=Z (u.map low):=by
 cases x with
 |none=>simp[JR,gC]at h;subst h;rfl|some x=>
  simp[JR,fG]at h;obtain⟨v,a,rfl⟩:=h
  grind[Mx,cw]
def qG{d:Int}(h:BI d u=Z n):∃p,wo d (u.map low)=Z (p,n)/\p:=by cases u with|none=>simp[BI,gC]at h;subst h;exact⟨True,rfl,trivial⟩|some v=>exact gi h
def EW(v:V S):sJ (low v)=Mw v:=by
 cases v with
 |ty t x=>cases t<;>rfl
 |_=>rfl
def tQ{fr:bV S}:∀{l:L (Nat×Operand)}{a:L (Nat×V S)},iL fr l=Z a->rN (bB fr) l=Z (a.map λp=>(p.1,low p.2))
 |[],a,h=>by simp only[iL,gC]at h;subst h;rfl
 |(k,x)::l,a,h=>by simp[iL]at h;split at h;rename_i h1 h2;simp at h;subst h;simp[rN,cw h1,tQ h2,mh];cases h
def Bu(e:eZ S){place:Nat->O (Nat×TI)}:∀{ps:L (Nat×V S)}{cells r:L (V S)},IN place cells ps=Z r->∃p,FE place (bu cells) (ps.map λp=>(p.1,low p.2))=Z (p,bu r)/\p
 |[],cells,r,h=>by simp[IN,gC]at h;subst h;exact⟨True,rfl,trivial⟩
 |(k,v)::ps,cells,r,h=>by
  simp only[IN]at h;split at h;cases h;rename_i g;split at h;cases h;rename_i l i;obtain⟨c,h⟩|⟨_,h⟩:=ah h
  simp only[eM]at c
  let ⟨p,j,d⟩:=qF e i
  let ⟨q,f,m⟩:=Bu e h
  simp only[jR,lR,lT]at f;have b:cC (bu l)=cC l:=by rw[bS,eF,<-bS]
  have a:cC (bu cells)=cC cells:=by rw[bS,eF,<-bS]
  refine⟨p/\leaves (bu l)/\q,?_,d,yP c.2,m⟩;simp only[mh,FE,g,j,b,a,c.1,gn,f,jq];cases h
def FP(a:eZ S){s:bf S}{e:Ty}{i:TI}(hi:i.agg=ke e/\(ke e=W->i.size=S.width e)):∀{ps:L (Nat×V S)}{es r:L (den S.A e)}{os:L Nat},om s e es ps=Z (r,os)->
  ∃p,rX (aE s) i (es.map (enc S e)) (ps.map λp=>(p.1,low p.2))=Z (p,r.map (enc S e),os)/\p
 |[],es,r,os,h=>by obtain⟨rfl,rfl⟩:=h;exact⟨True,rfl,trivial⟩
 |(k,v)::ps,es,r,os,h=>by
  simp[om]at h;split at h;cases h;rename_i x f g;obtain⟨t,h⟩|⟨_,h⟩:=ah h
  split at h
  .rename_i j;obtain⟨rfl,rfl⟩:=h
   let ⟨p,l,m⟩:=pR a s e v g
   let ⟨q,d,o⟩:=FP a hi j
   rw[EJ]at d;have b:Nt k (cC (es.map (enc S e)))=W:=by grind[bS]
   refine⟨p/\(bif i.agg then(enc S e x).isAgg i.size else(enc S e x).leaf)=W/\q,by simp[mh,rX,l,b,gn,d,jq],m,?_,o⟩;rw[hi.1];cases e with|st n=>simp only[ke,gn,enc,D.isAgg];have c:=hi.2 rfl;rw[c];simp only[Sg.width,bS,a.cells,mz,eM];refine⟨beq_iff'.2 rfl,?_⟩;rw[j5];exact g7 _ _ (a.leaf n)|de n=>exact vP _|opt n=>exact(iK _).2.1|_=>rfl
  cases h;cases h
end
section
def vk(s:St):∀(l m:L T){p q:Prop}{ds es:L D}{os ps:L Nat},nH s l=Z (p,ds,os)->nH s m=Z (q,es,ps)->∃r,nH s (l++m)=Z (r,ds++es,os++ps)/\(p->q->r)
 |[],m,p,q,ds,es,os,ps,h,b=>by
  simp only[nH,gC,fc]at h
  grind
 |t::l,m,p,q,ds,es,os,ps,h,b=>by
  simp[nH]at h;split at h;rename_i e d f k g i h1 h2;obtain⟨rfl,rfl,rfl⟩:=h
  let ⟨r,n,a⟩:=vk s l m h2 b
  exact⟨e/\r,by grind[nH],λc j=>⟨c.1,a c.2 j⟩⟩;cases h
def Kn(a:eZ S):∀(t:Ty)(h:lB S.A (S.mq t)),(enc S t (vG t h)).cells=eS S (S.mq t) h
 |.st n,h=>(a.cells n (S.DC n h)).trans (lq _ (a.rU n h))|.int _,_=>rfl|.bool,_=>rfl|.str,_=>rfl|.sl _,_=>rfl|.de _,h=>by rw[show(enc S (.de _) (vG _ h)).cells=[enc S (.de _) (vG _ h)]from m8 _];rfl
 |.opt _,_=>(iK _).2.2.1|.mp _ _,_=>rfl
variable {i:TI}{s s':bf S}{a x v:V S}{c:aa}{lo hi:Int}
def Oy(u:eZ S)(h:Ei i s a x=Z (c,v,s'))(hc:c=W) :
  ∃p,storeT i (aE s) (low a) (low x)=Z (p,low v,aE s')/\p:=by
 unfold Ei at h;split at h;cases h;rename_i l hl
 let ⟨p,Q,hp⟩:=qF u hl
 have R:cC (bu l)=cC l:=by rw[bS,eF,<-bS]
 split at h;rename_i o off;split at h;rename_i cs ho;obtain⟨E,F⟩|⟨_,F⟩:=ah h
 clear h;simp only[eM]at E;obtain⟨_,rfl,rfl⟩:=F;have I:cC (bu cs)=cC cs:=by rw[bS,eF,<-bS]
 have hb':(Nl (aE s).fl o&&Nl (Na off (cC l)) (cC (bu cs)))=W:=by rw[I,eM];exact⟨E.1,E.2.1⟩
 refine⟨p/\leaves (bu l),?_,hp,yP E.2.2⟩;simp only[storeT,Q,low,aK,ho,jq,cX,hb',gn,eu,jR,lR,lT,R];rfl;cases F;cases h;rename_i o e k off;split at h;rename_i t _ _ _;split at h;rename_i h0 os hos;split at h;rename_i s1 zl;split at h;rename_i t2 m era ho;split at h;rename_i h2 os2 hh2;obtain⟨E,F⟩|⟨_,F⟩:=ah h
 clear h;simp only[eM]at E
 let ⟨Dd,oY,PC,PB,hb5⟩:=E
 obtain⟨rfl,rfl,rfl⟩:=F
 let ⟨q,hd,hq⟩:=pE u s _ l hos
 have hf:=dw u os zl;have hk:=sS hc;have K:=PS (enc S t2) m k (S.zero t2) hk
 let ⟨q2,z,_⟩:=pE u s _ _ hh2
 have r:off+cC l<=S.width t2:=gH PC;have h1l:1<=cC l:=gH PB;generalize hds:eS S (List.take (cC l) (List.drop off (S.mq t))) h0=ds at hd;have f:ds.length=cC l:=by
  have:∀(s:St)(l:L T){p:Prop}{ds:L D}{os:L Nat},nH s l=Z (p,ds,os)->ds.length=l.length:=by
   intro s l
   induction l with
   |nil=>intro p ds os h;obtain⟨_,rfl,_⟩:=h;rfl
   |cons t l ih=>intro p ds os h;simp[nH]at h;split at h;rename_i h2;obtain⟨_,rfl,_⟩:=h;simp[ih h2];cases h
  rw[this _ _ hd,eF,bS]
 have B:eS S (S.mq t2) h2=(enc S t2 (aX m k (S.zero t2))).cells.take off++ds++(enc S t2 (aX m k (S.zero t2))).cells.drop (Na off (cC l)):=by
  rw[jR,jR,lR,lT,zZ u,<-List.map_take,<-List.map_drop]at z
  let ⟨r1,e1,_⟩:=wS (aE s) ((enc S t2 (aX m k (S.zero t2))).cells.take off)
  let ⟨r2,e2,_⟩:=wS (aE s) ((enc S t2 (aX m k (S.zero t2))).cells.drop (Na off (cC l)))
  let ⟨r3,e3,_⟩:=vk _ _ _ e1 hd
  let ⟨r4,e4,_⟩:=vk _ _ _ e3 e2
  rw[e4]at z;simp only[gC,fc]at z;exact z.2.1.symm
 have C:D.Ov (enc S t2 (aX m k (S.zero t2))) off ds=enc S t2 (vG t2 h2):=by
  have b:=Kn u t2 h2;rw[B]at b;cases t2 with
  |st n=>simp only[enc,D.cells]at b;simp only[enc,D.Ov,f];rw[b];rfl|de n=>
   simp[Sg.width]at r;have g:off=0:=by omega
   have j:cC l=1:=by omega
   rw[j]at f;obtain⟨d1,rfl⟩:=Wi.1 f;subst g;have w:∀y:S.A n,(enc S (.de n) y).cells=[enc S (.de n) y]:=λy=>m8 _;rw[w,w]at b;simp[List.take_zero,List.nil_append,j,List.drop_succ_cons,List.drop_nil,tK,Mi,and_true]at b;have P:∀y:S.A n,D.Ov (enc S (.de n) y) 0 [d1]=d1:=λy=>by show D.Ov (Oo (S.qX n y)) 0 [d1]=d1;cases S.qX n y<;>rfl
   rw[P];exact b.symm
  |opt n=>
   simp only[Sg.width]at r;have g:off=0:=by omega
   have j:cC l=1:=by omega
   rw[j]at f;obtain⟨d1,rfl⟩:=Wi.1 f;subst g;have w:∀y,(enc S (.opt n) y).cells=[enc S (.opt n) y]:=λy=>(iK _).2.2.1;rw[w,w]at b;simp[List.take_zero,List.nil_append,j,List.drop_succ_cons,List.drop_nil,tK,Mi,and_true]at b;have P:∀y,D.Ov (enc S (.opt n) y) 0 [d1]=d1:=λy=>by cases y<;>rfl
   rw[P];exact b.symm
  |_=>
   simp only[Sg.width]at r;have g:off=0:=by omega
   have j:cC l=1:=by omega
   rw[j]at f;obtain⟨d1,rfl⟩:=Wi.1 f;subst g;simp only[enc,D.cells,List.take_zero,List.nil_append,j,Nat.add_eq,A4,List.drop_succ_cons,List.drop_nil,tK,Mi,and_true]at b;simp only[enc,D.Ov,List.getD,qP,List.length_nil,Nat.lt_add_one,getElem?_pos,List.getElem_cons_zero,OR,A4];exact b.symm
 have htk:(iX (m.map (enc S t2)) k).Ri (S.width t2) off (cC ds):=by
  rw[K,bS,f];cases t2 with
  |st n=>
   left
   simp only[enc,D.isAgg,Sg.width,bS,u.cells,mz,eM];refine⟨beq_iff'.2 rfl,?_⟩;rw[j5];exact g7 _ _ (u.leaf n)
  |de n=>simp[Sg.width]at r;exact .inr ⟨vP _,rfl,by omega,by omega⟩
  |opt n=>simp[Sg.width]at r;exact .inr ⟨(iK _).2.1,rfl,by omega,by omega⟩
  |_=>simp only[Sg.width]at r;exact .inr ⟨rfl,rfl,by omega,by omega⟩
 have api:Nl (Na off (cC ds)) (S.width t2)=W:=by rw[bS,f];exact PC
 have A:ds.all D.leaf=W:=by
  rw[j5];intro d hd';have:d∈eS S (S.mq t2) h2:=by rw[B];simp[hd']
  cases t2 with|st n=>exact g7 _ _ (u.leaf n) d this|de n=>simp[Sg.mq,eS,sE]at this;rw[this];exact vP _|opt n=>simp[Sg.mq,eS,sE]at this;rw[this];exact(iK _).2.1|_=>simp only[Sg.mq,eS,sE]at this;rw[this];rfl
 have hby:((iX (m.map (enc S t2)) k).Ov off ds).r7=(iX (m.map (enc S t2)) k).r7:=by rw[K,C,Bx u,Bx u]
 have apk:(Nl (aE s1).fl o&&Nq e era)=W:=by rw[eM];exact⟨Dd,oY⟩
 refine⟨p/\q/\ds.all D.leaf=W/\kY (k:Int) (eE (m.map (enc S t2)))/\(iX (m.map (enc S t2)) k).Ri (S.width t2) off (cC ds)/\Nl (Na off (cC ds)) (S.width t2)=W/\
  ((iX (m.map (enc S t2)) k).Ov off ds).r7=(iX (m.map (enc S t2)) k).r7,?_,hp,hq,A,?_,htk,api,hby⟩
 simp only[storeT,Q,low,hd,hf,aK,ho,jq,cX,apk,gn,eu,K,C,ym,oO,EJ];rfl;simp only[kY,eE,rM];omega;cases F;iterate 6 cases h
def Ao{len:Int}(h:fX lo hi len=W):yo lo hi len:=by simpa[fX,yo]using h
def oV{α:Type}(f:α->D)(l:L α):eE (l.map f)=aq l:=by simp[eE,aq]
def Rl{α:Type}(f:α->D)(l:L α)(lo hi:Int):oK (l.map f) lo hi=(dD l lo hi).map f:=by
 grind[oK,dD,List.map_drop,List.map_take]
def sB(a:eZ S){e:Ty}(l:L (den S.A e)):jo (l.map (enc S e)) (S.width e):=by intro d b;obtain⟨x,_,rfl⟩:=tJ.1 b;exact ki a x
def Eo(b:L UInt8):uG (cR b)=aq b:=by rfl
def OB(b:L UInt8)(h:yo lo hi (aq b)):Lb (cR b) lo hi=cR (dD b lo hi):=by
 let ⟨h1,h2,h3⟩:=h
 unfold Lb cR dD;apply ByteArray.ext
 grind[ByteArray.data_extract,List.drop_take]
def OD(hS:eZ S){τ:O Ty}(hi:∀u,τ=Z u->yc S i u){l h m:O (V S)}(g:vo i τ s x l h m=Z (c,v,s'))(C:c=W) :
  ∃p,pU i (aE s) (low x) (l.map low) (h.map low) (m.map low)=Z (p,low v,aE s')/\p:=by
 unfold vo at g;split at g;rename_i lo E
 let ⟨p,f,P⟩:=qG (d:=0) E
 have f:wo zi (l.map low)=Z (p,lo):=f
 let ⟨w,_,_⟩:=hi _ rfl
 split at g;rename_i b _ hb
 let ⟨q,A,Q⟩:=kO hb
 split at g;rename_i j B
 let ⟨r,o,I⟩:=qG B
 obtain⟨rfl,rfl,rfl⟩:=g;have a:=Ao C;refine⟨p/\q/\r/\yo lo j (uG (cR b)),?_,P,Q,I,by exact a⟩;unfold pU;rw[w,f];simp only[A,Option.map_none,Eo,o,OB b a];rfl;cases g;cases g;rename_i e lo E
 let ⟨p,f,P⟩:=qG (d:=0) E
 have f:wo zi (l.map low)=Z (p,lo):=f
 let ⟨⟨z,w,_⟩,_⟩:=hi _ rfl
 split at g;rename_i K s1 _ Pn hfz
 let ⟨q,A,Q⟩:=zC Pn
 have hf:=dw hS _ hfz;rw[<-EW]at hf;split at g;rename_i _ j B
 let ⟨r,o,I⟩:=qG B
 obtain⟨rfl,rfl,rfl⟩:=g;have a:=Ao C;refine⟨p/\q/\r/\jo (K.map (enc S e)) (S.width e)/\yo lo j (eE (K.map (enc S e))),?_,P,Q,I,sB hS K,by rw[oV];exact a⟩;unfold pU;rw[w,f];simp only[A,hf,oV,o,Option.map_none,Rl];rfl;rename_i j y hv B
 let ⟨r,o,I⟩:=qG B
 simp at o;split at g;obtain⟨rfl,rfl,rfl⟩:=g;simp[eM,iW,sC]at C;refine⟨p/\q/\r/\lo=zi/\j=zi,?_,P,Q,I,C.1,C.2⟩;unfold pU;rw[w,f];simp[A,hf,oV,o,jq,low];rename_i hno;split at g;rename_i mx hmx
 let ⟨t,R,ht⟩:=gi hmx
 obtain⟨rfl,rfl,rfl⟩:=g;simp[eM,iW,sC]at C;have a:=Ao C.1;refine⟨p/\q/\r/\t/\jo (K.map (enc S e)) (S.width e)/\yo lo j (eE (K.map (enc S e)))/\mx=j,?_,P,Q,I,ht,sB hS K,by rw[oV];exact a,C.2⟩;unfold pU;rw[w,f];simp[A,hf,oV,o,jq,Rl];have hnl:∀q,low y=.kn .i64 q->q≠0:=by
  intro q F h0;subst h0;cases y with
  |ty t x=>cases t<;>simp[low,dY]at F
  |kn k n=>obtain⟨rfl,rfl⟩:=F;exact hno rfl
  |_=>simp[low]at F
 generalize low y=ly at R hnl;split;exact absurd rfl (hnl 0 rfl);rw[R];rfl;iterate 4 cases g
def Gr{g:O aa}{b:aa}(h:YC v=Z (g,b)):∃p,HE (low v)=Z (p,b)/\(orT g=W->p):=by
 unfold YC at h;split at h;rename_i c i;split at h;rename_i d
 let ⟨p,a,e⟩:=lZ d
 obtain⟨rfl,rfl⟩:=h;exact⟨c=W/\p,by simp[low,HE,a],λf=>⟨f,e⟩⟩;cases h;obtain⟨rfl,rfl⟩:=h;exact⟨True,rfl,λ_=>trivial⟩;obtain⟨rfl,rfl⟩:=h;exact⟨_,rfl,λ_=>rfl⟩;cases h
def TX{c b:V S}{q:aa}(h:WK c a b=Z (q,v))(f:q=W):∃p,Ig (low c) (low a) (low b)=Z (p,low v)/\p:=by
 unfold WK at h;split at h;rename_i u;split at h;rename_i p y h1;obtain⟨rfl,rfl⟩:=h
 let ⟨r,e,k⟩:=Gr h1
 refine⟨r,?_,k f⟩;have g:HE (bif u then low a else low b)=Z (r,y):=by cases u<;>exact e
 simp only[low,Ig,g];rfl;cases h;split at h;rename_i t p x C y h1 h2 h3
 let ⟨i,j,l⟩:=lZ h1
 let ⟨m,n,o⟩:=Gr h2
 let ⟨s,w,z⟩:=Gr h3
 obtain⟨rfl,rfl⟩:=h;refine⟨i/\(t=W->m)/\(t=J->s),by
  have A:∀u,low c≠.kb u:=by
   intro u d;cases c with
   |kb b=>grind|ty t x=>cases t<;>cases d
   |_=>cases d
  unfold Ig;split
  simp_all
  simp only[j,n,w];rfl,l,λB=>o ?_,λB=>z ?_⟩
 simp_all
 simp_all
 cases h
end
section
variable {v x ix a b:V S}{i:TI}{s s':bf S}{c:aa}{op:BinOp}
def aen{o r:Nat}(h:low v=.sh o r):v=.sh o r:=by
 cases v with
 |ty t x=>cases t<;>simp[low,dY]at h
 |sh a b=>simpa[low]using h|_=>simp[low]at h
def Fv(F:eZ S){τ:O Ty}(hi:∀u,τ=Z u->yc S i u)(a:jS i τ s x ix=Z (c,v,s'))(C:c=W) :
  s'=s/\∃p,jT i (aE s) (low x) (low ix)=Z (p,low v,aE s')/\p:=by
 unfold jS at a;split at a;rename_i sz Q R zz e n g I
 let ⟨p,h,E⟩:=gi I
 let ⟨⟨z,b,_⟩,_⟩:=hi _ rfl
 split at a;rename_i o r;split at a;rename_i t l m;obtain⟨w,d⟩|⟨_,d⟩:=ah a
 clear a;have:=jy w;subst this;obtain⟨rfl,rfl,rfl⟩:=d;have f:=vO C;have y:Nq (S.width t) (S.width t)=W:=beq_iff'.2 rfl;refine⟨rfl,p/\kY n (eE (l.map (enc S t))),?_,E,by rw[oV];exact f⟩;unfold jT;rw[b,h];simp only[low,NT m,y,gn];rfl;cases d;cases a;rename_i A;split at a;rename_i l m;obtain⟨rfl,rfl,rfl⟩:=a
 let ⟨q,B,K⟩:=zC m
 have f:=vO C;have P:(au n)<l.length:=by unfold au;omega
 have j:=PS (enc S e) l (au n) (S.zero e) P;refine⟨rfl,p/\q/\kY n (eE (l.map (enc S e)))/\(iX (l.map (enc S e)) (CY n)).wide (S.width e),?_,E,K,by rw[oV];exact f,?_⟩;unfold jT;rw[b,h];simp only;split;rename_i o r k;exact absurd (aen k) (A o r);rw[B];simp only[low];rw[show iX (List.map (enc S e) l) (CY n)=_ from j];show(iX (l.map (enc S e)) (au n)).cells.length=_;rw[j,ki F];cases a;rename_i g;unfold wB at a;split at a;obtain⟨w,h3⟩|⟨_,h3⟩:=ah a
 obtain⟨rfl,rfl,rfl⟩:=h3;refine⟨rfl,True,?_,trivial⟩;unfold jT;rw[g];simp only[low,AE,w,gn];cases h3;cases a;cases a
theorem qx{i:TI}{s s':bf S}{k:Nat}{x v:V S}{c:aa}(a:qy i s k x=Z (c,v,s')):s'=s/\∃p,qz i (aE s) k (low x)=Z (p,low v,aE s')/\p:=by
 unfold qy at a;unfold qz;split at a
 .rename_i b;try rw[b]
  try simp only
  split at a
  .rename_i d;try rw[d]
   obtain⟨_,h⟩|⟨e,h⟩:=ah a
   cases h
   .simp only[e,gJ];split at h;all_goals first
     |(cases h;done)
     |(
       simp only[gC,fc]at h;obtain⟨rfl,rfl,rfl⟩:=h;exact⟨rfl,True,rfl,trivial⟩)
  cases a
 cases a
def PM(e:eZ S){k:Nat}(a:Bv i s k x=Z (c,v,s')):s'=s/\∃p,FF i (aE s) k (low x)=Z (p,low v,aE s')/\p:=by
 unfold Bv at a;unfold FF;split at a
 .rename_i b;try rw[b]
  try simp only
  split at a;rename_i off size o f q g
  let ⟨p,j,l⟩:=qF e g
  obtain⟨r,h⟩|⟨_,h⟩:=ah a
  simp only[fG,fc]at h;obtain⟨t,m,_,rfl,rfl⟩:=h;have d:=pG m;rw[lR,lT]at d;have n:(Nq (cC (((bu f).drop off).take size)) size&&!(Nq size 0))=W:=by
   grind[bS,eF]
  exact⟨rfl,p,by simp_all,l⟩;cases h;cases a
 cases a
theorem Tx{b:L UInt8}{n:Int}(h:aL n b=W):ZE (cR b) n=l5 b n:=by
 have a:=vO h;have c:n.toNat<b.length:=by omega
 unfold ZE l5;have h1:(cR b).get! n.toNat=b.getD n.toNat 0:=by
  grind[cR,ByteArray.get!]
 rw[h1]
def Ph(a:Bn i s x ix=Z (c,v,s'))(d:c=W):s'=s/\∃p,Fu i (aE s) (low x) (low ix)=Z (p,low v,aE s')/\p:=by
 unfold Bn at a;split at a;rename_i n b e f g
 let ⟨p,h,j⟩:=gi f
 let ⟨q,k,l⟩:=kO g
 obtain⟨rfl,rfl,rfl⟩:=a;refine⟨rfl,p/\q/\kY n (uG (cR b)),?_,j,l,by exact vO d⟩
 grind[Fu,low,dY,enc,Tx]
 cases a
def Tg(d:D):low (zeroV (S:=S) d)=qe d:=by
 unfold zeroV;split;rfl;rfl;rfl;rfl;unfold qe;split
 simp_all
 simp_all
 grind
 rfl
def mV:∀(l:L D),bu (l.map (zeroV (S:=S)))=l.map qe
 |[]=>rfl|d::l=>by simp[mh,bu,Tg,mV l]
def Qm(a:i.kd=.iface->False)(s:St)(t u:TypeId)(v:T) :
  rC i s t W (.de u v)=(bif Nq u t then Z (True,.gG [v,.kb W],s)else(vE i.agg (i.zero.map qe)).map λz=>(True,.gG [z,.kb J],s)):=by
 unfold rC;cases b:i.kd<;>first|rfl|grind
def Qn(a:i.kd=.iface->False)(s:St)(t u:TypeId)(v:T) :
  rC i s t J (.de u v)=(bif Nq u t then Z (True,v,s)else Y):=by
 unfold rC;cases b:i.kd<;>first|rfl|grind
theorem wA{i:TI}{s s':bf S}{t:TypeId}{ok:aa}{x v:V S}{c:aa}(a:DR i s t ok x=Z (c,v,s')):s'=s/\∃p,rC i (aE s) t ok (low x)=Z (p,low v,aE s')/\p:=by
 unfold DR at a;split at a;cases a;rename_i u w _ b;rw[low,Qm b];obtain⟨d,a⟩|⟨d,a⟩:=ah a
 obtain⟨rfl,rfl,rfl⟩:=a;exact⟨rfl,True,by rw[d];rfl,trivial⟩;simp only[fG,fc]at a;obtain⟨z,f,_,rfl,rfl⟩:=a;have e:=pG f;rw[mV]at e;exact⟨rfl,True,by rw[d,gJ,e];rfl,trivial⟩;rename_i _ b;rw[low,Qn b];obtain⟨d,a⟩|⟨_,a⟩:=ah a
 obtain⟨rfl,rfl,rfl⟩:=a;exact⟨rfl,True,by rw[d];rfl,trivial⟩;cases a;cases a
def aad{op:UnOp}(a:unV i op x=Z v):∃p d,unT i op (low x)=Z (p,d)/\p/\low v=.sym d:=by
 unfold unV at a;split at a;rename_i c;simp only[fG]at a;obtain⟨b,f,rfl⟩:=a
 let ⟨p,e,g⟩:=lZ f
 exact⟨p,_,by simp only[unT,c,e,jq];rfl,g,rfl⟩;rename_i c;simp at a;obtain⟨b,f,rfl⟩:=a
 let ⟨p,e,g⟩:=gi f
 exact⟨p,_,by simp only[unT,c,e,jq];rfl,g,rfl⟩;cases a
theorem BB{i j:TI}{s s':bf S}{x v:V S}{c:aa}(a:SE i j s x=Z (c,v,s')):s'=s/\∃p,IY i j (aE s) (low x)=Z (p,low v,aE s')/\p:=by
 unfold SE at a;split at a;rename_i h1 h2;simp only[fG,fc]at a;obtain⟨n,d,_,rfl,rfl⟩:=a
 let ⟨p,b,e⟩:=gi d
 exact⟨rfl,p,by simp only[IY,h1,h2,b,jq];rfl,e⟩;simp only[fG,fc]at a;obtain⟨n,d,_,rfl,rfl⟩:=a
 let ⟨p,b,e⟩:=kO d
 exact⟨rfl,p,by grind[IY],e⟩;cases a
theorem ud{s s':bf S}{k:Nat}{x v:V S}{c:aa}(a:Ae s k x=Z (c,v,s')):s'=s/\∃p,sW (aE s) k (low x)=Z (p,low v,aE s')/\p:=by unfold Ae at a;split at a;simp only[fG,fc]at a;obtain⟨t,b,_,rfl,rfl⟩:=a;exact⟨rfl,True,by simp_all[low,sW,jP,eP],trivial⟩;cases a
def A0(a b:L UInt8):Ta (cR a) (cR b)=ga a b:=by show(a.toArray==b.toArray)=(a==b);simp
theorem CL{k:Lk}{a b:V S}{r:aa}(h:DL k a b=Z r):∃p,qA k (low a) (low b)=Z (p,r)/\p:=by
 unfold DL at h;split at h;split at h;rename_i h1 h2;simp at h;subst h
 let ⟨p,c,d⟩:=gi h1
 let ⟨q,e,f⟩:=gi h2
 exact⟨p/\q,by simp[qA,c,e],d,f⟩;cases h;split at h;rename_i h1 h2;simp at h;subst h
 let ⟨p,c,d⟩:=lZ h1
 let ⟨q,e,f⟩:=lZ h2
 exact⟨p/\q,by simp[qA,c,e],d,f⟩;cases h;split at h;rename_i h1 h2;simp at h;subst h
 let ⟨p,c,d⟩:=kO h1
 let ⟨q,e,f⟩:=kO h2
 exact⟨p/\q,by simp[qA,c,e,A0],d,f⟩;cases h;cases h
theorem xU:∀{c:L Lk}{as bs:L (V S)}{r:aa},kg c as bs=Z r->∃p,jW c (bu as) (bu bs)=Z (p,r)/\p
 |[],[],[],r,h=>by simp only[kg,gC]at h;subst h;exact⟨True,rfl,trivial⟩
 |k::c,a::as,b::bs,r,h=>by
  simp[kg]at h;split at h;rename_i h1 h2;simp at h;subst h
  let ⟨p,d,e⟩:=CL h1
  let ⟨q,f,g⟩:=xU h2
  exact⟨p/\q,by simp[bu,jW,d,f],e,g⟩;cases h
 |[],[],_::_,_,h=>by simp[kg]at h
 |[],_::_,_,_,h=>by simp[kg]at h
 |_::_,[],_,_,h=>by simp[kg]at h
 |_::_,_::_,[],_,h=>by simp[kg]at h
def Nr(e:eZ S){r:aa}(h:afq i a b=Z r):∃p,X7 i (low a) (low b)=Z (p,r)/\p:=by
 unfold X7;obtain⟨d,h⟩|⟨d,h⟩:=ah h
 grind[qF,xU]
 .rw[d];split at h
  grind[CL]
  .rename_i c;try rw[c]
   unfold X8 at h;split at h;simp only[gC]at h;subst h;exact⟨True,rfl,trivial⟩;simp only[gC]at h;subst h;exact⟨True,rfl,trivial⟩;cases h
  .rename_i c;try rw[c]
   unfold X9 at h;split at h;simp only[gC]at h;subst h;exact⟨True,rfl,trivial⟩;simp only[gC]at h;subst h;exact⟨True,rfl,trivial⟩;cases h
  cases h
def Yp{op:BinOp}{k:IntKind}{m n:Int}:(ab4 (S:=S) op k m n).map low=(UZ op k m n).map .sym:=by unfold ab4 UZ;cases op<;>rfl
theorem Yi{op:BinOp}{k:IntKind}{m n:Int}:(abZ (S:=S) op k m n).map low=(Yj op k m n).map .sym:=by unfold abZ Yj;cases op<;>rfl
def UM{a b:L UInt8}(h:abT a b=W):Lc (cR a) (cR b):=by
 grind[abT,Lc,cR,ByteArray.size]
def Yz(z:eZ S)(h:Gg i op a b=Z (c,v))(B:c=W):∃p d,Ky i op (low a) (low b)=Z (p,d)/\p/\low v=.sym d:=by
 have f:=h;unfold Gg at h;split at h;simp only[fG,fc]at h;obtain⟨r,u,_,rfl⟩:=h
 let ⟨p,e,o⟩:=Nr z u
 exact⟨p,_,by simp only[Ky,e,jq];rfl,o,rfl⟩;simp only[fG,fc]at h;obtain⟨r,u,_,rfl⟩:=h
 let ⟨p,e,o⟩:=Nr z u
 exact⟨p,_,by simp only[Ky,e,jq];rfl,o,rfl⟩
 .rename_i g j;cases l:i.kd with
  |leaf C=>
   cases C with
   |int k=>
    have t:Gg i op a b=(match l6 k a,l6 k b with
     |some m,Z n=>match ab4 op k m n with
      |some d=>Z (W,d)|none=>(abZ op k m n).map λd=>(nzI n,d)
     |_,_=>Y):=by
     clear h;unfold Gg;cases op<;>first|exact(g rfl).elim|exact(j rfl).elim|(simp only[l];done)|(simp only[l];cases l6 k a<;>cases l6 k b<;>rfl)
    have I:∀{p q:Prop}{m n:Int},xy k (low a)=Z (p,m)->xy k (low b)=Z (q,n)->Ky i op (low a) (low b)=(match UZ op k m n with
     |some d=>Z (p/\q,d)|none=>(Yj op k m n).map λd=>(p/\q/\agb n,d)):=by
     intro p q m n w x;clear h t;unfold Ky;cases op<;>first|exact(g rfl).elim|exact(j rfl).elim|(simp only[l,w,x];rfl)
    rw[t]at f;split at f;rename_i m n h1 h2
    let ⟨p,w,o⟩:=gi h1
    let ⟨q,x,A⟩:=gi h2
    have s:=Yp (S:=S) (op:=op) (k:=k) (m:=m) (n:=n);split at f
    grind
    rename_i E;rw[E]at s;simp only[fG,fc]at f;obtain⟨d,F,rfl,rfl⟩:=f
    grind[Yi,Option.map_eq_some_iff,agb,nzI]
    cases f
   |str=>
    have y:op=.add:=by clear h;unfold Gg at f;cases op<;>first|rfl|exact(g rfl).elim|exact(j rfl).elim|(simp only[l]at f;cases f)
    clear h;subst y;have t:Gg i .add a b=(match vn a,vn b with
     |some m,Z n=>Z (abT m n,.ty .str (di m n))|_,_=>Y):=by
     unfold Gg;simp[l];cases vn a<;>cases vn b<;>rfl
    rw[t]at f;split at f;rename_i m n h1 h2
    let ⟨p,w,o⟩:=kO h1
    let ⟨q,x,A⟩:=kO h2
    obtain⟨rfl,rfl⟩:=f;refine⟨p/\q/\Lc (cR m) (cR n),.lit (.string (QT (cR m) (cR n))),?_,⟨o,A,UM B⟩,by rfl⟩
    simp_all[Ky]
    cases f
   |bool=>
    clear h;unfold Gg at f;cases op<;>first|exact(g rfl).elim|exact(j rfl).elim|(simp only[l]at f;cases f)
   |no=>
    clear h;unfold Gg at f;cases op<;>first|exact(g rfl).elim|exact(j rfl).elim|(simp only[l]at f;cases f)
  |_=>
   clear h;unfold Gg at f;cases op<;>first|exact(g rfl).elim|exact(j rfl).elim|(simp only[l]at f;cases f)
def Mz(A:eZ S){E:fN}(hE:Qw S E){fr:bV S}{o:Op}(h:cG E fr s o=Z (c,v,s'))(F:c=W) :
  ∃p,n9 E.E (bB fr) (aE s) o=Z (p,low v,aE s')/\p:=by
 cases o with
 |move x=>simp only[cG,fG,fc]at h;obtain⟨t,ht,_,rfl,rfl⟩:=h;exact⟨True,by simp[n9,cw ht,jq],trivial⟩
 |assign x=>simp only[cG,fG,fc]at h;obtain⟨t,ht,_,rfl,rfl⟩:=h;exact⟨True,by simp[n9,cw ht,jq],trivial⟩
 |pick x y z=>
  simp[cG]at h;split at h;rename_i a b d h1 h2 h3;simp only[fG,fc]at h;obtain⟨⟨q,t⟩,ht,rfl,rfl,rfl⟩:=h
  let ⟨p,e,l⟩:=TX ht F
  exact⟨p,by simp[n9,cw h1,cw h2,cw h3,e,jq],l⟩;cases h
 |alloc t=>
  simp[cG]at h;split at h;rename_i i g;obtain⟨w,h⟩|⟨_,h⟩:=ah h
  obtain⟨_,rfl,rfl⟩:=h;refine⟨True,?_,trivial⟩;have I:Nt (aE s).aF bD=W:=w;simp only[n9,g,I,gn,gO,cX,mV];rfl;cases h;cases h
 |box t x=>
  simp[cG]at h;split at h;rename_i i v' g hv;obtain⟨w,h⟩|⟨_,h⟩:=ah h
  simp only[fG,fc]at h;obtain⟨cs,K,_,rfl,rfl⟩:=h
  let ⟨p,e,l⟩:=qF A K
  have I:Nt (aE s).aF bD=W:=w;refine⟨p,?_,l⟩;simp only[n9,g,cw hv,I,gn,e,jq,gO,cX];rfl;cases h;cases h
 |build t ps=>
  simp[cG]at h;split at h;rename_i i ps' g P;split at h;rename_i B;simp only[fG,fc]at h;obtain⟨cs,K,_,rfl,rfl⟩:=h
  let ⟨p,e,l⟩:=Bu A K
  rw[mV]at e;refine⟨p,?_,l⟩;simp only[n9,g,tQ P,B,low];exact lq (Option.map λq:Prop×L T=>(q.1,T.agg q.2,aE s)) e;cases h;cases h
 |buildSlice t n ps=>
  simp only[cG]at h;split at h;rename_i i e ps' g Kc P;split at h;rename_i zz B;obtain⟨w,h⟩|⟨_,h⟩:=ah h
  split at h;rename_i os hel;simp only[fG,fc]at h;obtain⟨s1,zl,_,rfl,rfl⟩:=h
  let ⟨⟨z,C,Q⟩,_,_,hpos⟩:=hE.row _ _ _ g Kc
  rw[B]at C;obtain⟨rfl,rfl,rfl,rfl⟩:=Kd.slice.inj C;have hf:=dw A os zl;have hzl:cC zz=S.width e:=by cases e with|st m=>simp[ke,gn,enc,D.agg.injEq]at Q;rw[Q];simp[Sg.width,bS];rw[show S.cells m (S.zero (.st m))=_ from A.cells m _,mz]|_=>simp only[ke,gJ]at Q;rw[Q];rfl
  have R:((ke e||Nq (S.width e) 1)&&(Nq (cC zz) (S.width e)&&(!(Nq (S.width e) 0)&&Nl (Nat.mul n (S.width e)) 16777216)))=W:=by rw[hzl];simp only[eM,Mb];refine⟨?_,beq_iff'.2 rfl,?_,w⟩;cases e<;>rfl;cases hq:Nq (S.width e) 0 with|false=>rfl|true=>have:=beq_iff'.1 hq;omega
  have aeN:List.replicate n (bif ke e then D.agg zz else zz.getD 0 default)=(List.replicate n (S.zero e)).map (enc S e):=by
   rw[List.map_replicate]
   congr 1
   cases e with|st m=>exact Q|_=>simp only[ke,cond_false]at Q ⊢;rw[Q];rfl
  let ⟨p,e1,l⟩:=FP A (i:={(default:TI)with size:=S.width e,agg:=ke e}) ⟨rfl,λ_=>rfl⟩ hel
  refine⟨p,?_,l⟩;simp only[n9,g,tQ P,B,R,gn,aeN,e1,hf,jq,low];iterate 4 cases h
 |load t x=>simp[cG]at h;split at h;rename_i i a g r;obtain⟨rfl,p,e,l⟩:=Iv A (λu hu=>hE.row _ _ _ g hu) h F;exact⟨p,by simp[n9,g,cw r,e],l⟩;cases h
 |store t x y=>
  simp[cG]at h;split at h;rename_i i a b g r w
  let ⟨p,e,l⟩:=Oy A h F
  exact⟨p,by simp[n9,g,cw r,cw w,e],l⟩;cases h
 |nilCheck x=>
  simp[cG]at h;split at h;all_goals first
   |(cases h;done)
   |(
     rename_i hx;simp only[gC,fc]at h;obtain⟨_,rfl,rfl⟩:=h;have:=cw hx;simp only[low]at this;exact⟨True,by simp only[n9,this,low],trivial⟩)
 |binOp op t x y u=>
  simp[cG]at h;split at h;rename_i i a b g r w;simp only[fG,fc]at h;obtain⟨⟨q,d⟩,hd,rfl,rfl,rfl⟩:=h
  let ⟨p,d',e,l,hl⟩:=Yz A hd F
  exact⟨p,by simp[n9,g,cw r,cw w,e,jq,hl],l⟩;cases h
 |unOp op t x=>
  simp[cG]at h;split at h;rename_i i a g r;simp only[fG,fc]at h;obtain⟨d,hd,_,rfl,rfl⟩:=h
  let ⟨p,d',e,l,hl⟩:=aad hd
  exact⟨p,by simp[n9,g,cw r,e,jq,hl],l⟩;cases h
 |convert t u x=>simp[cG]at h;split at h;rename_i i j a g hj r;obtain⟨rfl,p,e,l⟩:=BB h;exact⟨p,by simp[n9,g,hj,cw r,e],l⟩;cases h
 |makeInterface t x=>simp[cG]at h;split at h;rename_i i a g r;split at h;cases h;obtain⟨_,rfl,rfl⟩:=h;refine⟨True,?_,trivial⟩;simp[n9,g,cw r,low];cases h
 |makeFunc f a b=>simp[cG]at h;split at h;rename_i x y hx hy;obtain⟨_,rfl,rfl⟩:=h;exact⟨True,by simp[n9,gN hx,gN hy,low],trivial⟩;cases h
 |extract x k=>simp[cG]at h;split at h;rename_i a r;obtain⟨rfl,p,e,l⟩:=ud h;exact⟨p,by simp[n9,cw r,e],l⟩;cases h
 |fieldAddr t x k=>simp[cG]at h;split at h;rename_i i a g r;obtain⟨rfl,p,e,l⟩:=qx h;exact⟨p,by simp[n9,g,cw r,e],l⟩;cases h
 |field t x k=>simp[cG]at h;split at h;rename_i i a g r;obtain⟨rfl,p,e,l⟩:=PM A h;exact⟨p,by simp[n9,g,cw r,e],l⟩;cases h
 |indexAddr t x y=>simp[cG]at h;split at h;rename_i i a b g r w;obtain⟨rfl,p,e,l⟩:=Fv A (λu hu=>hE.row _ _ _ g hu) h F;exact⟨p,by simp[n9,g,cw r,cw w,e],l⟩;cases h
 |index t x y=>simp[cG]at h;split at h;rename_i i a b g r w;obtain⟨rfl,p,e,l⟩:=Ph h F;exact⟨p,by simp[n9,g,cw r,cw w,e],l⟩;cases h
 |slice t x lo g mx=>
  simp[cG]at h;split at h;rename_i i a l1 l2 l3 hi' r h1 h2 h3
  let ⟨p,e,l⟩:=OD A (λu hu=>hE.row _ _ _ hi' hu) h F
  exact⟨p,by simp[n9,hi',cw r,EX h1,EX h2,EX h3,e],l⟩;cases h
 |typeAssert x t u ok=>simp[cG]at h;split at h;rename_i g r;obtain⟨rfl,p,e,l⟩:=wA h;exact⟨p,by simp[n9,g,cw r,e],l⟩;cases h
 |_=>simp[cG]at h
end
section
variable {e:Ty}{v:V S}{s s':bf S}{c:aa}
def DP(a:eZ S)(l:L (den S.A e)):uV (l.map (enc S e)) (y9 S e):=by intro d b;obtain⟨x,_,rfl⟩:=tJ.1 b;exact⟨Bx a x,Nu a x⟩
def uw{α:Type}(f:α->D)(l m:L α):iq (l.map f) (m.map f)=(di l m).map f:=by simp[iq,di]
def DK{α:Type}(f:α->D){l m:L α}(h:dJ l m=W):D.Sr (l.map f) (m.map f):=by simpa[dJ,D.Sr]using h
def aaW{n:Nat}{es:L D}(h:low v=.j4 n es):∃t l,v=.j4 n t l:=by
 cases v with
 |ty t x=>cases t<;>simp[low,dY]at h
 |j4 a t l=>obtain⟨rfl,_⟩:=h;exact⟨t,l,rfl⟩
 |_=>simp[low]at h
def NU(l:eZ S){i:TI}(hi:yc S i (.sl e)){x y:V S}(h:SR i e s x y=Z (c,v,s'))(C:c=W) :
  ∃p,uv i (aE s) (low x) (low y)=Z (p,low v,aE s')/\p:=by
 obtain⟨_,a⟩|⟨E,a⟩:=ah h
 cases a;clear h;have m:(!(Nt (aE s).aF bD))=J:=E;unfold uv;rw[m,gJ]
 let ⟨⟨z,n,hz⟩,_⟩:=hi
 split at a;rename_i new g u;rw[n]at g;obtain⟨rfl,rfl,rfl,rfl⟩:=Kd.slice.inj g
 let ⟨q,F,A⟩:=zC u
 rw[n,F];have w:=sB l new;have I:=DP l new;split at a;obtain⟨_,rfl,rfl⟩:=a;refine⟨q/\jo (new.map (enc S e)) (S.width e)/\uV (new.map (enc S e)) (y9 S e),?_,A,w,I⟩;simp only[low,gO,cX];rfl;rename_i t f;split at a;rename_i R b;obtain⟨rfl,K⟩:=fy b;cases K;have j:=sB l (di f new);have d:=DP l (di f new);rw[<-uw]at j d;split at a;rename_i k t2 l2;obtain⟨rfl,rfl,rfl⟩:=a;refine⟨q/\jo (iq (f.map (enc S t)) (new.map (enc S t))) (S.width t)/\uV (iq (f.map (enc S t)) (new.map (enc S t))) (y9 S t)/\D.Sr (f.map (enc S t)) (new.map (enc S t)),?_,A,j,d,DK _ C⟩;simp only[low,gO,cX,<-uw];rfl;obtain⟨rfl,rfl,rfl⟩:=a;refine⟨q/\jo (iq (f.map (enc S t)) (new.map (enc S t))) (S.width t)/\uV (iq (f.map (enc S t)) (new.map (enc S t))) (y9 S t)/\D.Sr (f.map (enc S t)) (new.map (enc S t)),?_,A,j,d,DK _ C⟩;simp[low];split;rename_i hl;obtain⟨t3,l3,rfl⟩:=aaW hl
 grind
 simp[dY,enc,<-uw];cases a;rename_i o r;split at a;rename_i t f era ho;split at a;rename_i b;obtain⟨rfl,K⟩:=fy b;cases K;obtain⟨B,P⟩|⟨_,P⟩:=ah a
 clear a;simp only[eM]at B;obtain⟨rfl,rfl,rfl⟩:=P;have d:=DP l (di f new);rw[<-uw]at d;refine⟨q/\jo (new.map (enc S t)) (S.width t)/\uV (iq (f.map (enc S t)) (new.map (enc S t))) (y9 S t)/\D.Sr (f.map (enc S t)) (new.map (enc S t)),?_,A,w,d,DK _ C⟩;have Q:(Nl (aE s).fl o&&Nq r era&&Nq (S.width t) (S.width t)&&!(sJ (low y)).contains o)=W:=by rw[EW];simp only[eM];exact⟨⟨⟨B.1,B.2.1⟩,beq_iff'.2 rfl⟩,B.2.2⟩
 simp only[low,aK,ho,jq,cX,Q,gn,eu,<-uw];cases P;iterate 4 cases a
def xY(w:eZ S){E:fN}(r:Qw S E){b:Builtin}{n:Array TypeId}{args:L (V S)}(h:g8 E s b n args=Z (c,v,s'))(y:c=W) :
  ∃p,fC E.E (aE s) b n (bu args)=Z (p,low v,aE s')/\p:=by
 unfold g8 at h;split at h;rename_i x;split at h;rename_i i j d
 let ⟨k,l,m⟩:=uY.1 j
 let ⟨A,a,f⟩:=uY.1 d
 rw[l]at a;cases a
 let ⟨g,_⟩:=r.row _ _ _ m f
 split at h;rename_i _ B
 let ⟨p,e,o⟩:=kO B
 obtain⟨_,rfl,rfl⟩:=h;exact⟨p,by simp only[bu,fC,e,j,g,Eo];rfl,o⟩;cases h;rename_i i e j d
 let ⟨k,l,m⟩:=uY.1 j
 let ⟨A,a,f⟩:=uY.1 d
 rw[l]at a;cases a
 let ⟨⟨z,g,_⟩,_⟩:=r.row _ _ _ m f
 split at h
 .simp only[fG,fc]at h;obtain⟨F,t,_,rfl,rfl⟩:=h
  let ⟨p,u,o⟩:=zC t
  refine⟨p,?_,o⟩;simp[bu,fC];cases C:zB (low x)with|none=>simp only[j,g,u,jq,oV];rfl|some q=>simp only[j,g,u,jq,oV];rfl
 cases h;cases h;split at h;split at h;rename_i j I d;split at h
 let ⟨p,u,o⟩:=NU w (r.row _ _ _ j d) h y
 grind[bu,fC]
 iterate 4 cases h
end
section
variable {g g':Gh}{w w':av}
structure mH(g g':Gh):Prop where
 bP:∀o b,g.bP o=Z b->g'.bP o=Z b
 arr:∀o e x,g.arr o e=Z x->g'.arr o e=Z x
 bp:∀b,g.bp b->g'.bp b
theorem mH.refl(g:Gh):mH g g:=⟨λ_ _ h=>h,λ_ _ _ h=>h,λ_ h=>h⟩
def mH.trans{g g' a:Gh}(h:mH g g')(k:mH g' a):mH g a:=⟨λo b e=>k.bP o b (h.bP o b e),λo e x c=>k.arr o e x (h.arr o e x c),λb e=>k.bp b (h.bp b e)⟩
variable {v:az}{s s':St}{o b e:Nat}{x:eU}{os:List Nat}
def dF.le{I a:Nat->Prop}(c:∀b,I b->a b){d:D}(h:dF I w d v):dF a w d v:=h.mono (λ_ _=>rfl) c
def aH.le(h:mH g g'){t:T}{v:az}(F:aH g w t v):aH g' w t v:=by
 induction F with|sym d v p=>exact .sym d v (p.le h.bp)|kb b=>exact .kb b|kn k n=>exact .kn k n|ptr o off b q=>exact .ptr o off b (h.bP o b q)|lD d off z val A I p=>exact .lD d off z val (h.bp _ A) I (λj c B=>(p j c B).le h.bp)|lC o e i off len cap sz z s=>exact .lC o e i off len cap sz z (h.arr _ _ _ s)|sh o e len cap sz a s=>exact .sh o e len cap sz a (h.arr _ _ _ s)|emp a=>exact .emp a|j4 n K a P p=>exact .j4 n K a P (p.le h.bp)|fn f Q u R S y hm _ _ l C=>exact .fn f Q u R S y hm l C|de t x v _ l=>exact .de t x v l|agg u E y _ l=>exact .agg u E y l|gG u E y _ l=>exact .gG u E y l|gd c t v _ l=>exact .gd c t v l|mp o b q=>exact .mp o b (h.bP o b q)|qN o b q=>exact .qN o b (h.bP o b q)|tD o b q=>exact .tD o b (h.bP o b q)|ub e b h=>exact .ub e b h|rQ o m r i len cap sz a s=>exact .rQ o m r i len cap sz a (h.arr _ _ _ s)|o6 j d c a B p=>exact .o6 j d c a B (p.le h.bp)
def wM.le{s s':St}{o b:Nat}(h:wM g s w o b)(c:mH g g')(hi:g'.bp=g.bp)(hs:s'.ob.get o=s.ob.get o):wM g' s' w o b:=by
 refine⟨by rw[hi];exact h.1,h.2.1,λob a=>?_⟩;rw[hs]at a
 let ⟨x,h1,h2⟩:=h.2.2 ob a
 exact⟨x,h1,h2.imp (λ_ _ h=>h.le c)⟩
def AO.le(h:AO g s w o e x)(hi:g'.bp=g.bp)(hs:s'.ob.get o=s.ob.get o)(b:∀k j y,g.arr k j=Z y->g'.arr k j=Z y)(d:∀c,g'.arr o c=g.arr o c):AO g' s' w o e x:=by refine⟨h.1,λob a=>?_⟩;rw[hs]at a;exact(h.2 ob a).tr (λh=>h.jU hi) b (funext d) (λ_ _ _=>⟨rfl,by rw[hi]⟩)
def aY.YH(hs:aY g s w)(hn:s.aF<bD){sz:Nat}{es:L D}
  (v:∀b,x.at b->b<w.heap.size/\∀o,¬bx g o b) (n:wQ g w J sz es x) (p:x.sz=sz) :
  aY (g.era s.aF 0 x) (ee s (.arr sz es 0)).2 w/\mH g (g.era s.aF 0 x)/\(∀k b,bx (g.era s.aF 0 x) k b->bx g k b\/(k=s.aF/\x.at b)):=by
 have q:=hs.ai s.aF (cM _);have e:∀k j y,g.arr k j=Z y->(g.era s.aF 0 x).arr k j=Z y:=λk j y h=>by
  rw[Gh.cQ];exact h
  grind
 have i:mH g (g.era s.aF 0 x):=⟨λ_ _ h=>h,e,λ_ h=>h⟩;have a:∀k b,bx (g.era s.aF 0 x) k b->bx g k b\/(k=s.aF/\x.at b):=by
  rintro k b ⟨h1,h2|⟨j,y,m,h2,h3,h4,h5⟩⟩
  exact .inl ⟨h1,.inl h2⟩;by_cases c:k=s.aF/\j=0;obtain⟨rfl,rfl⟩:=c;rw[Gh.fq]at h2;simp at h2;subst h2;exact .inr ⟨rfl,⟨m,h3,h4,h5⟩⟩;rw[Gh.cQ _ _ _ _ _ _ c]at h2;exact .inl ⟨h1,.inr ⟨j,y,m,h2,h3,h4,h5⟩⟩
 refine⟨⟨by simp only[ee];omega,λk z=>?_,λk b r=>?_,λk j y l=>?_,λb r=>hs.bp b r,λk u b h A=>?_⟩,i,a⟩;simp only[ee]at z;refine⟨(hs.ai k (by omega)).1,λj=>?_⟩;rw[Gh.cQ _ _ _ _ _ _ (by omega)];exact(hs.ai k (by omega)).2 j;have t:g.bP k=Z b:=r;have d:k≠s.aF:=λh=>by simp_all
 exact(hs.box k b t).le i rfl (by simp[ee];rw[Tr.aV _ _ _ _ hn,cm d]);by_cases c:k=s.aF/\j=0;obtain⟨rfl,rfl⟩:=c;rw[Gh.fq]at l;simp at l;subst l;refine⟨λm B C=>(v _ ⟨m,B,rfl,C⟩).1,λob f=>.inl ⟨J,es,0,?_,cM _,λE h=>?_,λ_=>p▸(n.jU rfl)⟩⟩;simp[ee]at f;rw[Tr.aV _ _ _ _ hn,bO rfl]at f
 grind[fM]
 grind[Gh.cQ]
 rw[Gh.cQ _ _ _ _ _ _ c]at l;have d:k≠s.aF:=λh=>by simp_all
 exact(hs.arr k j y l).le rfl (by simp[ee];rw[Tr.aV _ _ _ _ hn,cm d]) e (λE=>Gh.cQ _ _ _ _ _ _ (λh=>d h.1));obtain h1|⟨h1,h3⟩:=a k b h<;>obtain h2|⟨h2,h4⟩:=a u b A
 exact hs.jF k u b h1 h2
 simp_all
 simp_all
 rw[h1,h2]
def aY.sQ(hs:aY g s w)(m:g.bP o=Z b){ob:Ob}{x:Obj}(t:w.heap[b]?=Z x)(u:gM g w ob x)(l:∀e,g.arr o e=Y):aY g {s with ob:=s.ob.set aO o ob} w:=by
 have n:=hs.lt m;have p:=hs.aF;have dN:∀k,(Tr.set aO s.ob o ob).get k=if k=o then Z ob else s.ob.get k:=λk=>Tr.aV _ _ _ _ (by omega)
 refine⟨hs.aF,hs.ai,λk c q=>?_,λk e x r=>?_,hs.bp,hs.jF⟩;have d:=hs.box k c q;refine⟨d.1,d.2.1,λf a=>?_⟩;rw[dN]at a;by_cases i:k=o
 simp_all
 rw[cm i]at a;exact d.2.2 f a;have j:=hs.arr k e x r;have i:k≠o:=λh=>by simp_all
 refine⟨j.1,λf a=>?_⟩;rw[dN,cm i]at a;exact j.2 f a
theorem aY.step{s:St}(hs:aY g s w){I X:Nat->Prop}(B:∀b,g.bp b->I b)(hIn:∀b,I b->g.bp b\/w.heap.size<=b\/X b)(hIs:∀b,I b->b<w'.heap.size)(u:w.heap.size<=w'.heap.size)
  (Q:∀b,b<w.heap.size->¬X b->w'.heap[b]?=w.heap[b]?) (hX:∀o b,X b->bx g o b->s.ob.get o=Y/\¬I b) (hXi:∀b,X b->¬g.bp b) :
  aY {g with bp:=I} s w':=by
 have F:∀k b,bx ({g with bp:=I}:Gh) k b->bx g k b:=λk b h=>⟨λhi=>h.1 (B b hi),h.2⟩;have R:jE g.bp w w':=λb p=>Q b (hs.bp b p) (λy=>hXi b y p);have S:∀{t:T}{v:az},aH g w t v->aH ({g with bp:=I}:Gh) w' t v:=by
  intro t v ht
  induction ht with|sym d v z=>exact .sym d v (z.mono R B)|kb b=>exact .kb b|kn k n=>exact .kn k n|ptr o off b p=>exact .ptr o off b p|lD d off ad val l q z=>exact .lD d off ad val (B _ l) (λj c K=>by rw[R.cell (by rw[kq];exact l)];grind) (λj c K=>(z j c K).mono R B)|lC o e i off len cap sz ad y=>exact .lC o e i off len cap sz ad y|sh o e len cap sz a y=>exact .sh o e len cap sz a y|emp a=>exact .emp a|j4 n es a hn z=>exact .j4 n es a hn (z.mono R B)|fn f fs cs va vc hl hm _ _ C ih'=>exact .fn f fs cs va vc hl hm C ih'|de t x v _ C=>exact .de t x v C|agg cs vs hl _ C=>exact .agg cs vs hl C|gG cs vs hl _ C=>exact .gG cs vs hl C|gd c t v _ C=>exact .gd c t v C|mp o b p=>exact .mp o b p|qN o b p=>exact .qN o b p|tD o b p=>exact .tD o b p|ub e b h=>exact .ub e b h|rQ o m r i len cap sz a y=>exact .rQ o m r i len cap sz a y|o6 j d c a K z=>exact .o6 j d c a K (z.mono R B)
 have P:∀o b,bx g o b->¬I b:=λo b hO hi=>by
  obtain h|h|h:=hIn b hi
  exact hO.1 h;have:=(hs.qU hO).1;omega
  grind
 refine⟨hs.aF,hs.ai,λk c q=>?_,λk e x y=>?_,hIs,λk k' b h h'=>hs.jF k k' b (F k b h) (F k' b h')⟩;have A:=hs.box k c q;have hO:bx g k c:=⟨A.1,.inl q⟩;refine⟨P k c hO,iE A.2.1 u,λob l9=>?_⟩
 let ⟨x,h2,h3⟩:=A.2.2 ob l9
 exact⟨x,by grind,h3.imp (λ_ _ h=>S h)⟩
 .have E:=hs.arr k e x y;refine⟨λad ha q=>iE (E.1 ad ha q) u,λob l9=>?_⟩;refine(E.2 ob l9).tr (λ{fz sz es}hA=>?_) (λ_ _ _ h=>h) rfl (λb k1 q=>?_);rotate_left;have p:b<w.heap.size:=E.1 _ k1 q;by_cases l:g.bp b
  grind
  have hO:bx g k b:=⟨l,.inr ⟨e,x,_,y,k1,rfl,q⟩⟩
  grind
  refine⟨hA.len,hA.cap,hA.rows,hA.pos,hA.VC,λq=>?_⟩
  let ⟨b,vs,ty,k1,k2,k3,k4,k5⟩:=hA.mem q
  have p:b<w.heap.size:=E.1 _ k1 q;by_cases l:g.bp b;refine⟨b,vs,ty,k1,⟨λ_=>B b l,λ_=>k2.2 l⟩,by grind,k4,λi d j c z K=>?_⟩
  let ⟨v,hv,hr⟩:=k5 i d j c z K
  exact⟨v,hv,hr.mono R B⟩;have hO:bx g k b:=⟨l,.inr ⟨e,x,_,y,k1,rfl,q⟩⟩;have hnx:¬X b:=λhxx=>by grind
  refine⟨b,vs,ty,k1,⟨λhf=>absurd (k2.1 hf) l,λhi=>absurd hi (P k b hO)⟩,by simp_all,k4,λi d j c z K=>?_⟩
  let ⟨v,hv,hr⟩:=k5 i d j c z K
  exact⟨v,hv,hr.mono R B⟩
def Gh.drop(g:Gh)(os:L Nat):Gh:={g with arr:=λo e=>if o∈os then Y else g.arr o e}
def Gh.FR(h:(g.drop os).arr o e=Z x):o∉os/\g.arr o e=Z x:=by
 grind[Gh.drop]
def Gh.yX{k:Nat}(h:bx (g.drop os) k b):bx g k b:=by obtain⟨h1,h2|⟨e,x,a,h2,h3⟩⟩:=h;exact⟨h1,.inl h2⟩;exact⟨h1,.inr ⟨e,x,a,(Gh.FR h2).2,h3⟩⟩
mutual
def dn(os:L Nat):T->aa
 |.ptr o _=>os.contains o|.lC o _ _ _=>os.contains o|.sh o _=>os.contains o|.mp o=>os.contains o|.qN o=>os.contains o|.tD o=>os.contains o|.fn _ a b=>iz os a||iz os b|.de _ v=>dn os v|.agg c=>iz os c|.gG c=>iz os c|.gd _ v=>dn os v|.rQ o m _ _=>os.contains o||os.contains m|_=>J
def iz(os:L Nat):L T->aa
 |[]=>J|v::l=>dn os v||iz os l
end
def ql{os:L Nat}:∀{l:L T},iz os l=J->∀t∈l,dn os t=J
 |[],_,t,b=>by cases b
 |a::l,h,t,b=>by
  simp[iz,yG]at h;obtain rfl|b:=fF.1 b
  exact h.1;exact ql h.2 t b
theorem aH.drop{os:L Nat}{t:T}{v:az}(h:aH g w t v)(l:dn os t=J):aH (g.drop os) w t v:=by
 induction h with|sym d v q=>exact .sym d v q|kb b=>exact .kb b|kn k n=>exact .kn k n|ptr o off b h=>exact .ptr o off b h|lD d off y val E z q=>exact .lD d off y val E z q|lC o e i off len cap sz y h=>simp[dn,EG,Wd]at l;exact .lC o e i off len cap sz y (by simp[Gh.drop,cm l];exact h)|sh o e len cap sz a h=>simp[dn,EG,Wd]at l;exact .sh o e len cap sz a (by simp[Gh.drop,cm l];exact h)|emp a=>exact .emp a|j4 k F a I q=>exact .j4 k F a I q|fn f K s P Q u A _ _ p B=>simp[dn,yG]at l;exact .fn f K s P Q u A (λj t v h1 h2=>p j t v h1 h2 (ql l.1 t (hU h1))) (λj t v h1 h2=>B j t v h1 h2 (ql l.2 t (hU h1)))|de t x v _ p=>exact .de t x v (p l)|agg s C u _ p=>exact .agg s C u (λj t v h1 h2=>p j t v h1 h2 (ql l t (hU h1)))|gG s C u _ p=>exact .gG s C u (λj t v h1 h2=>p j t v h1 h2 (ql l t (hU h1)))|gd c t v _ p=>exact .gd c t v (λz=>p z l)|mp o b h=>exact .mp o b h|qN o b h=>exact .qN o b h|tD o b h=>exact .tD o b h|ub e b h=>exact .ub e b h|rQ o m r i len cap sz a h=>simp[dn,yG,EG,Wd]at l;exact .rQ o m r i len cap sz a (by simp_all[Gh.drop])|o6 j d c a R q=>exact .o6 j d c a R q
def Za(os:L Nat)(ob a:Ob):Prop:=rF (dn os) ob a
theorem aY.drop{s i:St}(hs:aY g s w){os:L Nat}(hn:i.aF=s.aF)(d:∀o a,i.ob.get o=Z a->∃ob,s.ob.get o=Z ob/\Za os ob a):aY (g.drop os) i w:=by
 refine⟨hn▸hs.aF,λo f=>⟨(hs.ai o (hn▸f)).1,λe=>?_⟩,λo b q=>?_,λo e x r=>?_,hs.bp,λo u b h z=>hs.jF o u b (Gh.yX h) (Gh.yX z)⟩;simp only[Gh.drop];split;rfl;exact(hs.ai o (hn▸f)).2 e
 let ⟨h1,h2,h3⟩:=hs.box o b q
 refine⟨h1,h2,λa c=>?_⟩
 let ⟨ob,k,l⟩:=d o a c
 let ⟨x,h4,h5⟩:=h3 ob k
 exact⟨x,h4,h5.left (λt v A p=>A.drop p) l⟩
 let ⟨f,n⟩:=Gh.FR r
 let ⟨h1,h2⟩:=hs.arr o e x n
 refine⟨h1,λa c=>?_⟩
 let ⟨ob,k,l⟩:=d o a c
 refine(h2 ob k).left l (λh=>h.jU rfl) (λm j y p h=>?_) (funext λB=>by simp[Gh.drop,cm f]) (λ_ _ _=>⟨rfl,yF⟩)
 simp_all[dn,Gh.drop]
end
section
def ghI(I:Nat->Prop):Gh:=⟨λ_=>Y,λ_ _=>Y,I⟩
def ZV(I:Nat->Prop)(w:av)(sz:Nat)(es:L D)(x:eU):Prop:=wQ (ghI I) w J sz es x/\x.sz=sz
def af7(S:Sg)(I:Nat->Prop)(w:av)(n j:Nat)(t:Ty)(l:L (S.A n))(a:eU)(rl:L eU):Prop:=
 ∃hl:L az,hl.length=l.length/\ZV I w (S.width (.st n)) (lits j (l.map (enc S (.st n))) hl) a/\rl.length=l.length/\
  (∀(i:Nat)(y:eU),rl[i]?=Z y->hl[i]?=Z (.slice y.a y.len y.cap))/\(∀(i:Nat)(y:eU)(x:S.A n),rl[i]?=Z y->l[i]?=Z x->ZV I w (S.width t) ((Hu n j t x).map (enc S t)) y)/\Dh S n j t=W
inductive jw(S:Sg)(I:Nat->Prop)(w:av):(cs:List Ck)->fU S.A cs->List az->List eU->Prop where
 |nil:jw S I w [] () [] []|dat {t:Ty} {cs:List Ck} {x:den S.A t} {h:fU S.A cs} {v:az} {vs:List az} {al:List eU} (hd:dF I w (enc S t x) v) (hr:jw S I w cs h vs al):jw S I w (.dat t::cs) (x,h) (v::vs) al|own {e:Ty} {cs:List Ck} {l:List (den S.A e)} {h:fU S.A cs} {a:eU} {vs:List az} {al:List eU} (ho:ZV I w (S.width e) (l.map (enc S e)) a) (hr:jw S I w cs h vs al) :
   jw S I w (.own e::cs) (l,h) (.slice a.a a.len a.cap::vs) (a::al)
 |jQ {n j:Nat} {t:Ty} {cs:List Ck} {l:List (S.A n)} {h:fU S.A cs} {a:eU} {rl:List eU} {vs:List az} {al:List eU} (ho:af7 S I w n j t l a rl) (hr:jw S I w cs h vs al) :
   jw S I w (.jQ n j t::cs) (l,h) (.slice a.a a.len a.cap::vs) (a::(rl++al))
 |nl {e:Ty} {cs:List Ck} {h:fU S.A cs} {a:Option Addr} {vs:List az} {al:List eU} (hr:jw S I w cs h vs al):jw S I w (.nil e::cs) ([],h) (.slice a 0 0::vs) al|ptr {t:Ty} {cs:List Ck} {x:den S.A t} {h:fU S.A cs} {ad:Addr} {val:Nat->az} {vs:List az} {al:List eU} (hi:I ad.block) (hc:∀j c,(enc S t x).cells[j]?=Z c->w.cell? (ad.add j)=Z (val j))
   (hd:∀j c,(enc S t x).cells[j]?=Z c->dF I w c (val j)) (hr:jw S I w cs h vs al):jw S I w (.ptr t::cs) (x,h) (.pointer (Z (ad.add 0))::vs) al
inductive AL(g:Gh):List eU->List Nat->Prop where
 |nil:AL g [] []|emp {a:eU} {al:List eU} {ow:List Nat} (h:a.cap=0) (hr:AL g al ow):AL g (a::al) ow|own {a:eU} {al:List eU} {o e:Nat} {ow:List Nat} (h:g.arr o e=Z a) (hr:AL g al ow):AL g (a::al) (o::ow)
 |rows {rl al:List eU} {m:Nat} {ow:List Nat} (h:∀y∈rl,∃e,g.arr m e=Z y) (hap:rl.Pairwise λx y=>∀b,x.at b->¬y.at b) (hr:AL g al ow):AL g (rl++al) (m::ow)
variable {g:Gh}{al uS:List eU}{ow fz:List Nat}{s:bf S}{w:av}{I:Nat->Prop}{a:eU}{b n j o:Nat}{t:Ty}{cs:List Ck}{vs:List az}{c:Ck}{v:az}{ob:uz S}{k:Bk}{nx:Option Nat}
def AL.append{a:L Nat}(h:AL g al ow)(d:AL g uS a):AL g (al++uS) (ow++a):=by
 induction h with|nil=>exact d|emp h _ b=>exact .emp h b|own h _ b=>exact .own h b|rows h c _ b=>rw[vw];exact .rows h c b
def wP(al:L eU):Prop:=al.Pairwise λx y=>∀b,x.at b->¬y.at b
def AL.owned(h:AL g al ow)(hi:∀a∈al,∀b,a.at b->¬g.bp b):∀a∈al,∀b,a.at b->∃o∈ow,bx g o b:=by
 induction h with
 |nil=>simp_all|emp h _ i=>
  intro a c b d;obtain rfl|c:=fF.1 c
  exact absurd h d.choose_spec.2.2
  grind
 |own h _ i=>
  intro a c b d;obtain rfl|c:=fF.1 c
  let ⟨f,h1,h2,h3⟩:=d
  exact⟨_,fQ,hi _ fQ b ⟨f,h1,h2,h3⟩,.inr ⟨_,_,f,h,h1,h2,h3⟩⟩
  grind
 |rows h _ _ i=>
  intro a c b d;obtain c|c:=eN.1 c
  let ⟨e,j⟩:=h a c
  let ⟨f,h1,h2,h3⟩:=d
  exact⟨_,fQ,hi _ (eL _ c) b ⟨f,h1,h2,h3⟩,.inr ⟨_,_,f,j,h1,h2,h3⟩⟩
  grind
def AL.apart{s:St}(hs:aY g s w)(h:AL g al ow)(hn:ow.Nodup)(hi:∀a∈al,∀b,a.at b->¬g.bp b):wP al:=by
 induction h with
 |nil=>exact .nil|emp h k i=>refine .cons (λa c b j=>absurd h j.choose_spec.2.2) (i hn (λa c=>hi a (hJ _ c)))|own h k i=>
  rw[JL]at hn;refine .cons (λa c b j f=>?_) (i hn.2 (λa c=>hi a (hJ _ c)))
  let ⟨p,l,d⟩:=k.owned (λa c=>hi a (hJ _ c)) a c b f
  let ⟨m,h1,h2,h3⟩:=j
  have n:bx g _ b:=⟨d.1,.inr ⟨_,_,m,h,h1,h2,h3⟩⟩;have:=hs.jF _ _ b n d
  simp_all
 |rows h o k i=>
  rw[JL]at hn;refine tM.2 ⟨o,i hn.2 (λa c=>hi a (kz _ c)),λy q a c b j f=>?_⟩
  let ⟨e,r⟩:=h y q
  let ⟨p,l,d⟩:=k.owned (λa c=>hi a (kz _ c)) a c b f
  let ⟨m,h1,h2,h3⟩:=j
  have n:bx g _ b:=⟨d.1,.inr ⟨_,_,m,r,h1,h2,h3⟩⟩;have:=hs.jF _ _ b n d
  simp_all
def lA:∀{l:L Nat},rP l=W->l.Nodup
 |[],_=>.nil|a::l,h=>by simp[rP,eM,Mb,EG,Wd]at h;exact JL.2 ⟨h.1,lA h.2⟩
def zb{l m:L Nat}(h:BJ l m=W):∀o∈l,o∉m:=by
 grind[BJ]
def ZV.at_{I:Nat->Prop}{w:av}{sz:Nat}{es:L D}{a:eU}(h:ZV I w sz es a){b:Nat}(c:a.at b):¬I b/\b<w.heap.size:=by
 let ⟨h1,vs,ty,_,h3⟩:=h.1.at_ c
 exact⟨λd=>Bool.noConfusion (h1.2 d),(Wh.1 h3).1⟩
def af7.at_{I:Nat->Prop}{w:av}{n j:Nat}{t:Ty}{l:L (S.A n)}{a:eU}{rl:L eU}(h:af7 S I w n j t l a rl):∀y∈a::rl,∀b,y.at b->¬I b/\b<w.heap.size:=by
 let ⟨f,_,h2,h3,_,h5,_⟩:=h
 intro y c b d;obtain rfl|c:=fF.1 c
 exact h2.at_ d
 let ⟨i,e⟩:=Wb c
 have:i<l.length:=by grind
 exact(h5 i y _ e (iu this)).at_ d
def jw.at_{I:Nat->Prop}{w:av}{cs:L Ck}{x:fU S.A cs}{vs:L az}{al:L eU}(h:jw S I w cs x vs al):∀a∈al,∀b,a.at b->¬I b/\b<w.heap.size:=by
 induction h with
 |nil=>simp_all|dat _ _ d=>exact d|own e _ d=>
  intro a c b f;obtain rfl|c:=fF.1 c
  exact e.at_ f
  grind
 |jQ e _ d=>
  intro a c b f;rw[<-List.cons_append]at c;obtain c|c:=eN.1 c
  exact e.at_ a c b f
  grind
 |nl _ d=>exact d|ptr _ _ _ _ d=>exact d
theorem jw.iy{I:Nat->Prop}{w:av}{cs:L Ck}{x:fU S.A cs}{vs:L az}{al:L eU}(h:jw S I w cs x vs al):∀a∈al,∀b,a.at b->¬I b:=λa c b d=>(h.at_ a c b d).1
def jw.lt{x:fU S.A cs}(h:jw S I w cs x vs al):∀a∈al,∀b,a.at b->b<w.heap.size:=λa c b d=>(h.at_ a c b d).2
def jw.append{x:den S.A c.ty}{h:fU S.A cs}(h1:jw S I w [c] (x,()) [v] al)(h2:jw S I w cs h vs uS) :
  jw S I w (c::cs) (x,h) (v::vs) (al++uS):=by
 cases h1 with
 |dat b a=>cases a;exact .dat b h2
 |own d a=>cases a;exact .own d h2
 |jQ d a=>cases a;rw[tK,List.cons_append];exact .jQ d h2
 |nl a=>cases a;exact .nl h2
 |ptr e f b a=>cases a;exact .ptr e f b h2
def pQ{x:den S.A t}(h:dF g.bp w (enc S t x) v):aH g w (dY S t x) v:=by
 cases t with
 |st n=>
  cases h with|agg cs vs a e b=>refine .agg _ vs (by simpa using a) λj t v h1 h2=>?_;rw[kF,fG]at h1;obtain⟨d,c,rfl⟩:=h1;exact .sym _ _ (b j d v c h2)
 |_=>exact .sym _ _ h
def Tr.dy{α:Type}:∀(n:Nat)(t:Tr α)(k j:Nat)(x:α),j≠k->(Tr.set n t k x).get j=t.get j
 |0,_,_,_,_,_=>rfl|n+1,t,0,j,x,h=>by
  cases j with
  |zero=>exact absurd rfl h|succ j=>
   cases t with|nil=>rw[Tr.zF,Tr.dz,Tr.get_nil,Tr.get_nil];split<;>rfl|node v l r=>rw[Tr.Hj,Tr.dz,Tr.dz]
 |n+1,t,k+1,j,x,h=>by
  cases t with
  |nil=>
   rw[Tr.oL];cases j with|zero=>split<;>rw[Tr.iO,Tr.get_nil]|succ j=>by_cases b:k%2=0;rw[bO b,Tr.dz,Tr.get_nil,Tr.get_nil];by_cases a:j%2=0;rw[bO a,Tr.dy n _ _ _ _ (by omega),Tr.get_nil];rw[cm a];rw[cm b,Tr.dz,Tr.get_nil,Tr.get_nil];by_cases a:j%2=0;rw[bO a];rw[cm a,Tr.dy n _ _ _ _ (by omega),Tr.get_nil]
  |node v l r=>
   rw[Tr.ny];cases j with|zero=>split<;>rw[Tr.iO,Tr.iO]|succ j=>by_cases b:k%2=0;rw[bO b,Tr.dz,Tr.dz];by_cases a:j%2=0;rw[bO a,bO a,Tr.dy n _ _ _ _ (by omega)];rw[cm a,cm a];rw[cm b,Tr.dz,Tr.dz];by_cases a:j%2=0;rw[bO a,bO a];rw[cm a,cm a,Tr.dy n _ _ _ _ (by omega)]
def Qo:uz S->aa
 |.arr ..|.kT ..|.rws ..=>W|_=>J
def ur(h:Qo ob=W):(cX ob).nP=W:=by cases ob<;>first|rfl|cases h
def Fe{nj:Nat}:∀{es:L D}{iG:L (L D)}{hl:L az},es.length<=iG.length->lits nj (mw nj es iG) hl=lits nj es hl
 |[],iG,hl,_=>by rfl
 |d::es,[],hl,h=>by simp at h
 |d::es,a::iG,[],_=>by rfl
 |d::es,a::iG,v::hl,h=>by
  have:=Fe (nj:=nj) (es:=es) (iG:=iG) (hl:=hl) (by simpa using h)
  simp_all[lits,mw,jh,Ac,D.cells]
def IG:∀{ts:L Ty}{h:lB S.A ts}{j:Nat}{t:Ty}{y:den S.A t},nth ts j=Z t->dN ts (u7 ts h j t y) j t=y
 |[],_,_,_,_,h=>by simp[nth]at h
 | τ::ts,h,0,t,y,e=>by
  grind[nth,dN,u7,we]
 | τ::ts,h,j+1,t,y,e=>by simp[nth]at e;simp[dN,u7,IG e]
def UH(a:eZ S)(b:Dh S n j t=W)(x:S.A n)(y:L (den S.A t)):Hu n j t (Tw n j t x y)=y:=by rw[Hu,Tw,a.rU,IG (FX b)]
def Ct(hS:eZ S)(hs:aY g (aE s) w){v:V S}{val:az}{x:den S.A c.ty}(h:oG s c v=Z (x,fz,ow))(hv:aH g w (low v) val) :
  (∀o∈fz,Live g (aE s) o)/\(∀o∈ow,s.fl<=o/\s.lo<=o/\o<s.aF/\∃ob,s.ob.get o=Z ob/\Qo ob=W)/\∀(A:Gh)(s1:St)(z:L Nat),aY A s1 w->Ext s.fl g w A w->jl (aE s) s1 z->(∀o∈fz,o∈z)->(∀o∈ow,s1.ob.get o=(aE s).ob.get o)->
   ∃al,jw S A.bp w [c] (x,()) [val] al/\AL A al ow:=by
 cases c with
 |dat t=>
  simp[oG]at h;split at h;rename_i y os hy;obtain⟨rfl,rfl,rfl⟩:=h
  let ⟨p,hd,hp⟩:=pR hS s t v hy
  let ⟨h1,h2⟩:=lJ hs (low v) hd hp hv
  refine⟨h1,λo d=>(by cases d),λA s1 z f Q hf q _=>⟨[],.dat ?_ .nil,.nil⟩⟩;exact h2 A s1 f Q (hf.sub q);cases h
 |nil e=>
  cases v with
  |emp=>
   obtain⟨rfl,rfl,rfl⟩:=h;cases hv with|emp a=>exact⟨λo d=>(by cases d),λo d=>(by cases d),λA s1 z f Q hf q _=>⟨[],.nl .nil,.nil⟩⟩
  |_=>simp[oG]at h
 |ptr t=>simp[oG]at h|own e=>
  cases v with
  |emp=>
   obtain⟨C,h⟩|⟨_,h⟩:=ah h
   .obtain ⟨rfl,rfl,rfl⟩:=h;have hpos:1<=S.width e:=gH C;cases hv with
    |emp a=>
    refine⟨λo d=>(by cases d),λo d=>(by cases d),λA s1 z f Q hf q _=>⟨[⟨a,0,0,S.width e⟩],?_,.emp rfl .nil⟩⟩;refine jw.own (a:=⟨a,0,0,S.width e⟩) ⟨⟨rfl,cM _,by simp,by omega,by simp,λh=>absurd rfl h⟩,rfl⟩ .nil
   cases h
  |sh o r=>
   simp[oG]at h;split at h;rename_i t l era d;obtain⟨C,E⟩|⟨_,E⟩:=ah h
   clear h;split at E
   .rename_i l' hl;obtain⟨rfl,hh⟩:=fy hl;cases hh;simp only[eM]at C;have XF:=beq_iff'.1 C.1;subst XF;obtain⟨rfl,rfl,rfl⟩:=E;cases hv with
    |sh _ _ len cap sz a hx=>
    have F:=hs.lt' hx;refine⟨λo d=>(by cases d),λk hk=>?_,λA s1 z f Q hf q u=>?_⟩;rw[sE]at hk;subst hk;exact⟨gH C.2.1,gH C.2.2,F,_,d,rfl⟩;have I:=Q.arr _ _ _ hx;have Sn:s1.ob.get o=Z (fM J (S.width t) (l.map (enc S t)) r):=by rw[u o (by simp),aK,d];rfl
    let ⟨hok,hsz⟩:=f.ni Sn I
    exact⟨[_],jw.own ⟨hok.jU rfl,hsz⟩ .nil,.own I .nil⟩
   cases E;cases E;cases h
  |_=>simp[oG]at h
 |jQ n j t=>
  cases v with
  |emp=>
   obtain⟨C,h⟩|⟨_,h⟩:=ah h
   .obtain ⟨rfl,rfl,rfl⟩:=h;simp only[eM]at C;have hpos:1<=S.width (.st n):=gH C.1;cases hv with
    |emp a=>
    refine⟨λo d=>(by cases d),λo d=>(by cases d),λA s1 z f Q hf q _=>⟨[⟨a,0,0,S.width (.st n)⟩],?_,.emp rfl .nil⟩⟩;exact jw.jQ (a:=⟨a,0,0,S.width (.st n)⟩) (rl:=[]) ⟨[],rfl,⟨⟨rfl,cM _,by simp[lits],by omega,by simp[lits],λh=>absurd rfl h⟩,rfl⟩,rfl,by simp,by simp,C.2.1⟩ .nil
   cases h
  |sh o r=>
   simp[oG]at h;split at h;rotate_left;cases h;rename_i l era m B d;split at h;rotate_left;cases h;rename_i P K hrw;obtain⟨C,E⟩|⟨_,E⟩:=ah h
   rotate_left;cases E;clear h;simp only[eM]at C
   let ⟨b1,b2,b3,b4,b5,b6,b7,b8,b9⟩:=C
   have XF:=beq_iff'.1 b1;subst XF;have hjj:=beq_iff'.1 b2;subst hjj;have htt:=jy b9;subst htt;split at E;rotate_left;cases E;rename_i hl
   let ⟨e1,hh⟩:=fy hl
   cases e1;cases hh;simp only[gC,fc]at E;obtain⟨rfl,rfl,rfl⟩:=E;have hmlt:m<s.aF:=gH b7;cases hv with
   |sh _ _ len cap sz a hx=>
   have F:=hs.lt' hx
   let ⟨szm,hm⟩:=pF (zH hrw)
   obtain⟨obm,hobm,hobmB⟩:∃ob,s.ob.get m=Z ob/\Qo ob=W:=by
    cases hq:s.ob.get m with
    |none=>rw[aK,hq]at hm;cases hm
    |some ob=>
     rw[aK,hq]at hm;cases ob<;>first|exact⟨_,rfl,rfl⟩|cases hm
   refine⟨λo d=>(by cases d),λk hk=>?_,λA s1 z f Q hf q u=>?_⟩;simp at hk;obtain rfl|rfl:=hk
   exact⟨gH b3,gH b4,F,_,d,rfl⟩
   simp_all
   have I:=Q.arr _ _ _ hx;have Sn:s1.ob.get o=Z (.kT j (S.width (.st n)) (l.map (enc S (.st n))) r m B Y):=by rw[u o (by simp),aK,d];rfl
   have hm1:s1.ob.get m=Z (.rws szm (K.map (·.map (enc S P))) B):=by rw[u m (by simp),hm]
   have aiE:szm=S.width P:=by
    have h1:=hrw;unfold LM at h1;split at h1;rename_i hq;obtain⟨_,h1⟩|⟨_,h1⟩:=ah h1
    cases h1;rw[aK,hq]at hm;cases hm;rfl;cases h1;cases h1
   let ⟨q1,q2,q3,q4⟩:=f.Bh Sn I
   let ⟨hl0,q5,q6,q7⟩:=q4 rfl
   simp at q5;have hrow:∀i,i<l.length->∃y R,A.arr m (rc B i)=Z y/\hl0[i]?=Z (.slice y.a y.len y.cap)/\K[i]?=Z R/\wQ A w J (S.width P) (R.map (enc S P)) y/\y.sz=S.width P:=by
    intro i hi
    let ⟨y,hy,hv⟩:=q7.2 i _ (iu (by omega)) (by simp)
    let ⟨k1,R,k2,k3⟩:=(f.pX hm1 hy).2.2 i rfl
    grind
   have hex:∀i:Nat,∃y:eU,i<l.length->∃R,A.arr m (rc B i)=Z y/\hl0[i]?=Z (.slice y.a y.len y.cap)/\K[i]?=Z R/\wQ A w J (S.width P) (R.map (enc S P)) y/\y.sz=S.width P:=λi=>by
    grind
   let ⟨ys,hys⟩:=TQ hex
   have dN:∀(i:Nat)(y:eU),((List.range l.length).map ys)[i]?=Z y->i<l.length/\y=ys i:=λi y h=>by
    grind
   have hrl:l.length<=K.length:=by
    grind
   have hlen:(kC n j P l K).length=l.length:=by simp[kC];omega
   refine⟨_,jw.jQ (a:=⟨a,len,cap,sz⟩) (rl:=(List.range l.length).map ys) ⟨hl0,by omega,⟨?_,q1⟩,by grind,λi y hi=>?_,λi y x hi hx=>?_,b8⟩ .nil,?_⟩;rw[FA hS b8,Fe (by grind)];exact q6.jU rfl
   grind
   obtain⟨h1,rfl⟩:=dN i y hi
   let ⟨R,_,_,h3,h4,h5⟩:=hys i h1
   have hxx:x=Tw n j P (l[i]) R:=by
    grind[kC]
   rw[hxx,UH hS b8];exact⟨h4.jU rfl,h5⟩;refine .own I ?_;refine .rows (λy hy=>?_) ?_ .nil
   grind
   refine TS.2 λi1 i2 l1 l2 hlt b Dd oY=>?_
   let ⟨h1,e1⟩:=dN i1 _ (iu l1)
   let ⟨h2,e2⟩:=dN i2 _ (iu l2)
   rw[e1]at Dd;rw[e2]at oY
   let ⟨_,k1,_⟩:=hys i1 h1
   let ⟨_,k2,_⟩:=hys i2 h2
   exact(f.pX hm1 k1).2.1 i1 i2 _ _ (by omega) k1 k2 b Dd oY
  |_=>simp[oG]at h
def fW(u:eZ S){g:Gh}{w:av}{s:bf S}(hs:aY g (aE s) w):∀{cs:L Ck}{l:L (V S)}{vals:L az}{x:fU S.A cs}{fz ow:L Nat},fR s cs l=Z (x,fz,ow)->PW (aH g w) (bu l) vals->
  (∀o∈fz,Live g (aE s) o)/\(∀o∈ow,s.fl<=o/\s.lo<=o/\o<s.aF/\∃ob,s.ob.get o=Z ob/\Qo ob=W)/\∀(m:Gh)(s1:St)(e:L Nat),aY m s1 w->Ext s.fl g w m w->jl (aE s) s1 e->(∀o∈fz,o∈e)->(∀o∈ow,s1.ob.get o=(aE s).ob.get o)->
   ∃al,jw S m.bp w cs x vals al/\AL m al ow
 |[],[],vals,x,fz,ow,h,i=>by obtain⟨_,rfl,rfl⟩:=h;have:vals=[]:=Da (by have:=i.1;simpa[bu]using this.symm);subst this;exact⟨λo d=>(by cases d),λo d=>(by cases d),λ_ _ _ _ _ _ _ _=>⟨[],.nil,.nil⟩⟩
 |c::cs,v::l,vals,x,fz,ow,h,i=>by
  simp[fR]at h;split at h
  .rename_i A B;simp at h;obtain⟨rfl,rfl,rfl⟩:=h
   match vals,i with
   |val::vals,i=>
    have p:aH g w (low v) val:=i.2 0 _ _ rfl rfl;have q:PW (aH g w) (bu l) vals:=⟨by have:=i.1;simpa[bu]using this,λj a b r t=>i.2 (j+1) a b (by simpa[bu]using r) (by simpa using t)⟩
    let ⟨C,E,F⟩:=Ct u hs A p
    let ⟨I,K,P⟩:=fW u hs B q
    refine⟨λo d=>(eN.1 d).elim (C o) (I o),λo d=>(eN.1 d).elim (E o) (K o),λm s1 e n y z k f=>?_⟩
    let ⟨Q,r,t⟩:=F m s1 e n y z (λo d=>k o (eL _ d)) (λo d=>f o (eL _ d))
    let ⟨R,k3,k4⟩:=P m s1 e n y z (λo d=>k o (kz _ d)) (λo d=>f o (kz _ d))
    exact⟨_,r.append k3,t.append k4⟩
   |[],i=>exact absurd i.1 (by simp[bu])
  cases h
 |[],_::_,_,_,_,_,h,_=>by simp[fR]at h
 |_::_,[],_,_,_,_,h,_=>by simp[fR]at h
structure Vj(g:Gh)(s:bf S)(w:av)(al:List eU)(g':Gh)(s':bf S):Prop where
 rel:aY g' (aE s') w
 le:mH g g'
 bp:g'.bp=g.bp
 own:∀k b,bx g' k b->bx g k b\/(s.aF<=k/\∃a∈al,a.at b)
 fl:s'.fl=s.fl
 lo:s'.lo=s.lo
 aF:s.aF<=s'.aF
 wr:s'.wr=s.wr
 dr:s'.dr=s.dr
 ob:∀o,o<s.aF->s'.ob.get o=s.ob.get o
 bP:g'.bP=g.bP
 arr:∀o,o<s.aF->∀e,g'.arr o e=g.arr o e
theorem Vj.refl{g:Gh}{s:bf S}{w:av}(h:aY g (aE s) w):Vj g s w [] g s:=
 ⟨h,mH.refl _,rfl,λ_ _ h=>.inl h,rfl,rfl,cM _,rfl,rfl,λ_ _=>rfl,rfl,λ_ _ _=>rfl⟩
def Vj.trans{g g' c:Gh}{s s' d:bf S}{w:av}{al uS:L eU}(h:Vj g s w al g' s')(k:Vj g' s' w uS c d):Vj g s w (al++uS) c d where
 rel:=k.rel
 le:=h.le.trans k.le
 bp:=k.bp.trans h.bp
 own o b f:=by
  obtain f|⟨h1,a,h2,h3⟩:=k.own o b f
  obtain f|⟨h1,a,h2,h3⟩:=h.own o b f
  exact .inl f
  grind
  exact .inr ⟨fP h.aF h1,a,kz _ h2,h3⟩
 fl:=k.fl.trans h.fl
 lo:=k.lo.trans h.lo
 aF:=fP h.aF k.aF
 wr:=k.wr.trans h.wr
 dr:=k.dr.trans h.dr
 ob o i:=(k.ob o (iE i h.aF)).trans (h.ob o i)
 bP:=k.bP.trans h.bP
 arr o i e:=(k.arr o (iE i h.aF) e).trans (h.arr o i e)
def Rf(s:bf S)(c:Ck)(x:den S.A c.ty):s.aF<=(vg s c x).2.aF:=by cases c with|dat t=>exact cM _|own e=>exact Cj _|jQ n j t=>exact Nat.le_succ_of_le (Cj _)|nil e=>exact cM _|ptr t=>exact cM _
def nF:∀(cs:L Ck)(s:bf S)(x:fU S.A cs),s.aF<=(g9 s cs x).2.aF
 |[],_,_=>cM _|c::cs,s,x=>fP (Rf s c x.1) (nF cs _ x.2)
def mW:∀{cs:L Ck}{x:fU S.A cs}{vals:L az}{al:L eU}{g:Gh}{w:av}{s:bf S},jw S g.bp w cs x vals al->aY g (aE s) w->(∀a∈al,∀b,a.at b->∀o,¬bx g o b)->wP al->
  (g9 s cs x).2.aF<=bD->∃g',Vj g s w al g' (g9 s cs x).2/\PW (aH g' w) (bu (g9 s cs x).1) vals:=by
 intro cs
 induction cs with
 |nil=>intro x vals al g w s h R _ _ _;cases h;exact⟨g,Vj.refl R,rfl,λj t v h=>by simp_all⟩
 |cons c cs ih=>
  intro x vals al g w s h R r f hn;cases h with
  | @dat t _ x h v vs al hd E=>
   let ⟨g',u,d⟩:=ih E R r f hn
   refine⟨g',u,by simp only[g9,vg,bu,qP];rw[d.1],λj F I p q=>?_⟩;cases j with|zero=>simp[g9,vg,bu,Mc,gC]at p q;subst p;subst q;have:=pQ (g:=g) hd;exact this.le u.le|succ j=>exact d.2 j F I (by simpa[g9,vg,bu]using p) (by simpa using q)
  | @nl e _ h a vs al E=>
   let ⟨g',u,d⟩:=ih E R r f hn
   refine⟨g',u,by simp only[g9,vg,bu,qP];rw[d.1],λj F I p q=>?_⟩;cases j with|zero=>simp[g9,vg,bu,Mc,gC]at p q;subst p;subst q;exact .emp _|succ j=>exact d.2 j F I (by simpa[g9,vg,bu]using p) (by simpa using q)
  | @ptr t _ x h ad val vs al hi hc hd E=>
   let ⟨g',u,d⟩:=ih E R r f hn
   refine⟨g',u,by simp only[g9,vg,bu,qP];rw[d.1],λj F I p q=>?_⟩;cases j with|zero=>simp[g9,vg,bu,Mc,gC]at p q;subst p;subst q;have:aH g w (low (V.lD t x 0)) (.pointer (Z (ad.add 0))):=.lD _ 0 ad val hi hc hd;exact this.le u.le|succ j=>exact d.2 j F I (by simpa[g9,vg,bu]using p) (by simpa using q)
  | @own e _ l h a vs al ho E=>
   have hb0:=nF cs (dh s (.arr e l 0)) h;have z:s.aF<bD:=by have h1:(dh s (.arr e l 0)).aF=s.aF+1:=rfl;have h2:(g9 (dh s (.arr e l 0)) cs h).2.aF<=bD:=hn;omega
   have aiH:∀b,a.at b->b<w.heap.size/\∀o,¬bx g o b:=λb B=>⟨(jw.own (S:=S) ho E).lt a fQ b B,r a fQ b B⟩
   let ⟨p,q,k3⟩:=R.YH z (sz:=S.width e) (es:=l.map (enc S e)) (x:=a) aiH (ho.1.jU rfl) ho.2
   have hst:(ee (aE s) (Ob.arr (S.width e) (l.map (enc S e)) 0)).2=aE (dh s (.arr e l 0)):=(gO s (.arr e l 0)).symm;have e0:(aE s).aF=s.aF:=rfl;rw[hst,e0]at p;rw[wP,List.pairwise_cons]at f
   let ⟨g',u,d⟩:=ih (g:=g.era s.aF 0 a) (s:=dh s (.arr e l 0)) E p (λy hy b B o K=>by
    grind) f.2 hn
   have Kb:Vj g s w [a] (g.era s.aF 0 a) (dh s (.arr e l 0)):=by
    refine⟨p,q,rfl,λk b K=>?_,rfl,rfl,Cj _,rfl,rfl,λo hlo=>?_,rfl,λo hlo e'=>Gh.cQ _ _ _ _ _ _ (λh=>by omega)⟩
    grind
    simp[dh];rw[Tr.aV _ _ _ _ z,cm (by omega)]
   refine⟨g',Kb.trans u,by simp only[g9,vg,bu,qP];rw[d.1],λj F I q1 q2=>?_⟩;cases j with|zero=>simp[g9,vg,bu,Mc,gC]at q1 q2;subst q1;subst q2;have:aH (g.era s.aF 0 a) w (.sh s.aF 0) (.slice a.a a.len a.cap):=.sh _ _ _ _ a.sz _ (Gh.fq _ _ _ _);exact this.le u.le|succ j=>exact d.2 j F I (by simpa[g9,vg,bu]using q1) (by simpa using q2)
  | @jQ n j t0 _ l h a A vs al ho E=>
   have hb0:=nF cs (vg s (.jQ n j t0) l).2 h;have hnob2:(vg s (.jQ n j t0) l).2.aF=s.aF+2:=rfl;have z:s.aF+1<bD:=by
    grind[g9]
   have P:=ho.at_
   let ⟨hl,p1,p2,p3,p4,p5,p6⟩:=ho
   rw[<-List.cons_append]at r f;have Q:=(tM.1 f).1;rw[List.pairwise_cons]at Q
   let ⟨p,q,k3⟩:=R.YH (by show s.aF<bD;omega) (sz:=S.width (.st n)) (es:=lits j (l.map (enc S (.st n))) hl) (x:=a) (λb B=>⟨(P a fQ b B).2,r a (by simp) b B⟩) (p2.1.jU rfl) p2.2
   have e0:(aE s).aF=s.aF:=rfl;rw[e0]at p q k3;have e1:(ee (aE s) (Ob.arr (S.width (.st n)) (lits j (l.map (enc S (.st n))) hl) 0)).2.aF=s.aF+1:=rfl
   let ⟨r1,r2,r3⟩:=p.afK (by omega) (sz:=S.width t0) (iG:=(l.map (Hu n j t0)).map (·.map (enc S t0))) (ys:=A)
    (λy hy b B=>⟨(P y (hJ _ hy) b B).2,λo K=>by
     grind⟩)
    (λi y hi=>by
     have hil:i<l.length:=by grind
     have hk:=p5 i y _ hi (iu hil);exact⟨hk.2,_,by simp_all,hk.1.jU rfl⟩) Q.2
   rw[e1]at r1 r2 r3;have C:∀k,(ee (ee (aE s) (Ob.arr (S.width (.st n)) (lits j (l.map (enc S (.st n))) hl) 0)).2 (.rws (S.width t0) ((l.map (Hu n j t0)).map (·.map (enc S t0))) 0)).2.ob.get k=if k=s.aF+1 then Z (.rws (S.width t0) ((l.map (Hu n j t0)).map (·.map (enc S t0))) 0)else if k=s.aF then Z (.arr (S.width (.st n)) (lits j (l.map (enc S (.st n))) hl) 0)else(aE s).ob.get k:=λk=>by show(((aE s).ob.set aO s.aF _).set aO (s.aF+1) _).get k=_;rw[Tr.aV _ _ _ _ z,Tr.aV _ _ _ _ (by omega)]
   have hL:HK ((g.era s.aF 0 a).gW (s.aF+1) A) (s.aF+1) 0 Y hl:=by
    have Pn:∀i v,hl[i]?=Z v->∃hil:i<A.length,v=.slice (A[i]).a (A[i]).len (A[i]).cap:=λi v hi=>by
     grind
    refine⟨λi v hi=>let ⟨_,h⟩:=Pn i v hi;⟨_,_,_,h⟩,λi v hi _=>?_⟩
    grind[Gh.wF]
   have u1:=r1.VN (o:=s.aF) (nj:=j) (es:=l.map (enc S (.st n))) (era:=0) (m:=s.aF+1) (gR:=0) (hole:=Y) (hl:=hl) (by omega) (by rw[C,cm (by omega),bO rfl]) (by simpa using p1) hL;have u2:aY ((g.era s.aF 0 a).gW (s.aF+1) A) (aE (vg s (.jQ n j t0) l).2) w:=by refine u1.X0 rfl λk=>?_;show(aE (dh (dh s (.kT n j l 0 (Ns s.aF) 0 Y)) (.rws t0 (y4 n j t0 l) 0))).ob.get k=((ee _ _).2.ob.set aO s.aF _).get k;rw[gO,gO,Tr.aV _ _ _ _ (by omega),C];show(((aE s).ob.set aO s.aF _).set aO (s.aF+1) _).get k=_;rw[Tr.aV _ _ _ _ z,Tr.aV _ _ _ _ (by omega)];by_cases h1:k=s.aF;subst h1;rw[cm (by omega),bO rfl,bO rfl];rfl;rw[cm h1,cm h1,cm h1];rfl
   have hle:mH g ((g.era s.aF 0 a).gW (s.aF+1) A):=q.trans ⟨λ_ _ h=>h,r2,λ_ h=>h⟩
   let ⟨g',u,d⟩:=ih (g:=(g.era s.aF 0 a).gW (s.aF+1) A) (s:=(vg s (.jQ n j t0) l).2) E u2 (λy hy b B o K=>by
    obtain K|⟨_,y',hy',hb'⟩:=r3 o b K
    obtain K|⟨_,hb'⟩:=k3 o b K
    grind
    exact(tM.1 f).2.2 a (by simp) y hy b hb' B;exact(tM.1 f).2.2 y' (by simp[hy']) y hy b hb' B) (tM.1 f).2.1 hn
   have Kb:Vj g s w (a::A) ((g.era s.aF 0 a).gW (s.aF+1) A) (vg s (.jQ n j t0) l).2:=by
    refine⟨u2,hle,rfl,λk b K=>?_,rfl,rfl,by omega,rfl,rfl,λo hlo=>?_,rfl,λo hlo e'=>?_⟩
    grind
    show((s.ob.set aO s.aF _).set aO (s.aF+1) _).get o=_;rw[Tr.aV _ _ _ _ z,cm (by omega),Tr.aV _ _ _ _ (by omega),cm (by omega)];rw[Gh.js (by omega)]
    grind[Gh.cQ]
   refine⟨g',by exact Kb.trans u,by have:=d.1;simp only[g9,vg,bu,qP]at this ⊢;rw[this],λj' F I q1 q2=>?_⟩;cases j' with|zero=>simp[g9,vg,bu,Mc,gC]at q1 q2;subst q1;subst q2;have:aH ((g.era s.aF 0 a).gW (s.aF+1) A) w (.sh s.aF 0) (.slice a.a a.len a.cap):=.sh _ _ _ _ a.sz _ (by simp_all[Gh.fq]);exact this.le u.le|succ j'=>exact d.2 j' F I (by simpa[g9,vg,bu]using q1) (by simpa using q2)
theorem tF{g:Gh}{w:av}{τ:Ty}{x:den S.A τ}{v:az}(h:dF g.bp w (enc S τ x) v):aH g w (dY S τ x) v:=by
 cases τ with
 |st n=>
  cases h with|agg _ vs a e b=>refine .agg _ _ (by simpa using a) λj t v h1 h2=>?_;simp at h1;obtain⟨c,d,rfl⟩:=h1;exact .sym _ _ (b j c v d h2)
 |_=>exact .sym _ _ h
def Ds(a:eZ S){τ:Ty}{x:den S.A τ}(h:aH g w (dY S τ x) v):dF g.bp w (enc S τ x) v:=by
 cases τ with
 |st n=>
  cases h with
  |agg _ vs d e=>
   refine .agg _ _ (by simpa using d) (λc b=>?_) λj c v h1 h2=>?_;rw[a.cells]at b;exact g7 _ _ (a.leaf n) c b;have:=e j (.sym c) v (by simp[h1]) h2;cases this with|sym _ _ h=>exact h
 |_=>cases h with|sym _ _ h=>exact h
def MG:aa->Nat->az
 |true,b=>.map (Z b)|false,b=>.pointer (Z ⟨b,0,Y⟩)
def Xd{m:aa}{x:O (V S)}(h:lkO m x=Z o):x=Z (lkV m o):=by unfold lkO at h;split at h<;>cases h<;>rfl
def aaX(h:g.bP o=Z b):∀m,aH g w (low (lkV m o:V S)) (MG m b)
 |true=>.mp o b h|false=>.ptr o 0 b h
def RY:∀{m},aH g w (low (lkV m o:V S)) v->∃b,g.bP o=Z b/\v=MG m b
 |true,h=>by cases h with|mp _ b a=>exact⟨b,a,rfl⟩
 |false,h=>by cases h with|ptr _ _ b a=>exact⟨b,a,rfl⟩
inductive Dp(S:Sg)(I:Nat->Prop)(w:av)(nb:Option Nat):(k:Bk)->xw S.A k->Obj->List eU->Prop where
 |cells {cs:List Ck} {x:fU S.A cs} {cv:Array az} {ty:TypeId} {al:List eU} (h:jw S I w cs x cv.toList al):Dp S I w nb (.cells cs) x (.cells cv ty (0,0)) al|map {kt vt:Ty} {l:List (den S.A kt×den S.A vt)} {ms:Array MapEntry} {c:Nat} (hl:l.length=ms.size)
   (h:∀(j:Nat)(p:den S.A kt×den S.A vt)(m:MapEntry),l[j]?=Z p->ms[j]?=Z m->dF I w (enc S kt p.1) m.key/\dF I w (enc S vt p.2) m.val):Dp S I w nb (.map kt vt) l (.map ms c) []
 |qO {x:List UInt8×Nat}:Dp S I w nb .qO x (.stringIter (cR x.1) x.2) []|link {m:aa} {pre post:List Ck} {x:fU S.A pre} {y:fU S.A post} {cv:Array az} {ty:TypeId} {al uS:List eU} {vp vq:List az} {b:Nat} (hn:nb=Z b) (hv:cv.toList=vp++([MG m b]++vq))
   (h1:jw S I w pre x vp al) (h2:jw S I w post y vq uS):Dp S I w nb (.link m pre post) (x,y) (.cells cv ty (0,0)) (al++uS)
def J3:Bk->Nat->az
 |.cells _,b=>.pointer (Z ⟨b,0,Y⟩)|.map _ _,b=>.map (Z b)|.qO,b=>.pointer (Z ⟨b,0,Y⟩)|.link _ _ _,b=>.pointer (Z ⟨b,0,Y⟩)
def J4{v:V S}(h:Db k v=Z o):v=Uj k o:=by
 cases k with
 |cells cs=>
  cases v with
  |ptr a off=>cases off with|zero=>simp[Db,gC]at h;subst h;rfl|succ=>simp[Db]at h
  |_=>simp[Db]at h
 |map b c=>cases v<;>simp[Db]at h;subst h;rfl
 |qO=>cases v<;>simp[Db]at h;subst h;rfl
 |link m pre post=>
  cases v with
  |ptr a off=>cases off with|zero=>simp[Db,gC]at h;subst h;rfl|succ=>simp[Db]at h
  |_=>simp[Db]at h
theorem MJ{g:Gh}{w:av}{k:Bk}{o b:Nat}(h:g.bP o=Z b):aH g w (low (Uj k o:V S)) (J3 k b):=by cases k with|cells cs=>exact .ptr o 0 b h|map a c=>exact .mp o b h|qO=>exact .tD o b h|link m pre post=>exact .ptr o 0 b h
def Fh(h:aH g w (low (Uj k o:V S)) v):∃b,g.bP o=Z b/\v=J3 k b:=by
 cases k with
 |cells cs=>cases h with|ptr _ _ b a=>exact⟨b,a,rfl⟩
 |map c d=>cases h with|mp _ b a=>exact⟨b,a,rfl⟩
 |qO=>cases h with|tD _ b a=>exact⟨b,a,rfl⟩
 |link m pre post=>cases h with|ptr _ _ b a=>exact⟨b,a,rfl⟩
theorem nJ{ob:uz S}(h:jz ob=W):(cX ob).nP=J:=by cases ob<;>first|rfl|(simp[jz]at h)
def zO{e:Nat}{x:eU}(h:jz ob=W)(a:uW g w o e x (cX ob)):False:=by have:=a.nP;rw[nJ h]at this;cases this
def Ga{c d a b:Ty}{l:L (den S.A c×den S.A d)}{e:L (den S.A a×den S.A b)}(h:xW c d a b l=Z e):∃(h1:c=a)(h2:d=b),e=h1▸h2▸l:=by
 grind[xW]
def qT(hS:eZ S)(hs:aY g (aE s) w)(hb:g.bP o=Z b){x:xw S.A k}(h:lO s k (s.ob.get o)=Z (x,fz,ow,nx)) :
  (∃ob,s.ob.get o=Z ob/\jz ob=W)/\∃I,w.heap[b]?=Z I/\
  (∀o∈fz,Live g (aE s) o)/\(∀o∈ow,s.fl<=o/\s.lo<=o/\o<s.aF/\∃ob,s.ob.get o=Z ob/\Qo ob=W)/\∀(u:Gh)(s1:St)(q:L Nat),aY u s1 w->Ext s.fl g w u w->jl (aE s) s1 q->(∀o∈fz,o∈q)->(∀o∈ow,s1.ob.get o=(aE s).ob.get o)->
   ∀nb,(∀o',nx=Z o'->∃b',nb=Z b'/\u.bP o'=Z b')->∃al,Dp S u.bp w nb k x I al/\AL u al ow:=by
 cases f:s.ob.get o with
 |none=>rw[f]at h;cases k<;>simp[lO]at h
 |some ob=>
 rw[f]at h
 let ⟨I,hh,A⟩:=(hs.box o b hb).2.2 (cX ob) (by rw[aK,f];rfl)
 cases k with
 |cells cs=>
  cases ob with
  |box vs=>
   refine⟨⟨_,rfl,rfl⟩,I,hh,?_⟩;cases A with
   |box _ y ty K A=>
   simp[lO]at h;split at h;rotate_left;cases h;rename_i y1 a1 b1 Uv;obtain⟨rfl,rfl,rfl,rfl⟩:=h
   let ⟨p1,p2,p3⟩:=fW hS hs Uv (vals:=y.toList) ⟨by simpa using K,λj t v i r=>A j t v i (by simpa using r)⟩
   refine⟨p1,p2,λu s1 q a b c d e nb _=>?_⟩
   let ⟨al,i,r⟩:=p3 u s1 q a b c d e
   exact⟨al,.cells i,r⟩
  |_=>simp[lO]at h
 |link m pre post=>
  cases ob with
  |box vs=>
   refine⟨⟨_,rfl,rfl⟩,I,hh,?_⟩;cases A with
   |box _ y ty K A=>
   simp only[lO]at h;split at h;rotate_left;cases h;rename_i b2 e1 e2 e3;obtain⟨rfl,rfl,rfl,rfl⟩:=h;rw[bS]at e1 e2 e3;have P:vs.length=y.toList.length:=by rw[<-eF];simpa using K
   have Q:∀j t v,vs[j]?=Z t->y.toList[j]?=Z v->aH g w (low t) v:=λj t v i r=>A j _ v (by rw[eP,kF,i];rfl) (by simpa using r);have hpre:PW (aH g w) (bu (vs.take pre.length)) (y.toList.take pre.length):=by refine⟨by rw[eF];simp[P],λj t v i r=>?_⟩;rw[eP,kF,fG]at i;obtain⟨t',i,rfl⟩:=i;rw[TM]at i r;split at i;rename_i hj;rw[bO hj]at r;exact Q j t' v i r;cases i
   have R:PW (aH g w) (bu (vs.drop (Ns pre.length))) (y.toList.drop (Ns pre.length)):=by refine⟨by rw[eF];simp[P],λj t v i r=>?_⟩;rw[eP,kF,fG]at i;obtain⟨t',i,rfl⟩:=i;rw[TK]at i r;exact Q _ t' v i r
   have e2:=Xd e2;rw[jP]at e2;have hlt:pre.length<y.toList.length:=by rw[<-P];exact(TR.1 e2).1
   have E:=Q pre.length _ _ e2 (iu hlt);generalize hvm:y.toList[pre.length]=vm at E;obtain⟨b2,oY,rfl⟩:=RY E;have B:y.toList=y.toList.take pre.length++([MG m b2]++y.toList.drop (Ns pre.length)):=by have h1:=(Wj pre.length y.toList).symm;rw[Wg hlt,hvm]at h1;simpa using h1
   let ⟨p1,p2,p3⟩:=fW hS hs e1 hpre
   let ⟨q1,q2,q3⟩:=fW hS hs e3 R
   refine⟨λo f=>(eN.1 f).elim (p1 o) (q1 o),λo f=>(eN.1 f).elim (p2 o) (q2 o),λu s1 q C he hf F z nb hnb=>?_⟩
   let ⟨CU,i,r⟩:=p3 u s1 q C he hf (λo f=>F o (eL _ f)) (λo f=>z o (eL _ f))
   let ⟨AS,k3,k4⟩:=q3 u s1 q C he hf (λo f=>F o (kz _ f)) (λo f=>z o (kz _ f))
   let ⟨b',Dd,PC⟩:=hnb _ rfl
   have:b'=b2:=jG (PC.symm.trans (he.bP _ _ oY));subst this;exact⟨_,.link Dd B i k3,r.append k4⟩
  |_=>simp[lO]at h
 |map kt vt=>
  cases ob with
  |map k v l=>
   simp[lO]at h;split at h
   .rename_i K;obtain⟨rfl,rfl,hh'⟩:=Ga K;cases hh';obtain⟨rfl,rfl,rfl,rfl⟩:=h;refine⟨⟨_,rfl,rfl⟩,I,hh,λo f=>(by cases f),λo f=>(by cases f),λu s1 q C he hf _ _ nb _=>⟨[],?_,.nil⟩⟩;cases A with
    |map _ ms c K A=>
    refine .map (by simpa using K) λj p m h1 h2=>?_;obtain⟨i,r⟩:=A j _ m (by rw[kF,h1];rfl) h2;exact⟨Ds hS (i.ext he hs.bp),Ds hS (r.ext he hs.bp)⟩
   cases h
  |_=>simp[lO]at h
 |qO=>
  cases ob with
  |qO bs n=>obtain⟨rfl,rfl,rfl,rfl⟩:=h;refine⟨⟨_,rfl,rfl⟩,I,hh,λo f=>(by cases f),λo f=>(by cases f),λu s1 q C he hf _ _ nb _=>⟨[],?_,.nil⟩⟩;cases A;exact .qO (x:=(bs,n))
  |_=>simp[lO]at h
theorem Dp.iy{I:Nat->Prop}{w:av}{c:O Nat}{k:Bk}{x:xw S.A k}{h:Obj}{al:L eU}(d:Dp S I w c k x h al):∀a∈al,∀b,a.at b->¬I b:=by cases d with|cells h=>exact h.iy|map=>simp_all|qO=>simp_all|link _ _ h1 h2=>intro a e;exact(eN.1 e).elim (h1.iy a) (h2.iy a)
theorem Dr(k:Bk)(s:bf S)(nx:O Nat)(x:xw S.A k):s.aF<=(kL s nx k x).2.aF:=by cases k with|cells cs=>exact nF cs s x|map a b=>exact cM _|qO=>exact cM _|link m pre post=>exact fP (nF pre s x.1) (nF post _ x.2)
def pz{x:xw S.A k}{h:Obj}{Q:O Nat}(C:Dp S g.bp w Q k x h al)(E:∀R,Q=Z R->∃r,nx=Z r/\g.bP r=Z R)(hs:aY g (aE s) w)(u:∀a∈al,∀b,a.at b->∀o,¬bx g o b)(z:wP al)
  (hn:(kL s nx k x).2.aF<=bD):∃g',Vj g s w al g' (kL s nx k x).2/\gM g' w (cX (kL s nx k x).1) h:=by
 cases C with
 |cells C=>
  let ⟨g',hu,A⟩:=mW C hs u z hn
  exact⟨g',hu,.box _ _ _ (by simpa using A.1) λj t v n q=>A.2 j t v n (by simpa using q)⟩
 | @map kt vt l ms c hl C=>
  refine⟨g,Vj.refl hs,.map _ _ _ (by simpa using hl) λj t m h1 h2=>?_⟩;simp only[kF,fG]at h1;obtain⟨p,hp,rfl⟩:=h1
  grind[tF]
 |qO=>exact⟨g,Vj.refl hs,.qO _ _⟩| @link m pre post x y cv ty al uS vp vq b hb hv h1 h2=>
  obtain⟨r,rfl,F⟩:=E b hb;have e:=tM.1 z;have I:(g9 s pre x).2.aF<=bD:=fP (nF post _ y) hn
  let ⟨g1,d,B⟩:=mW h1 hs (λa ha=>u a (eL _ ha)) e.1 I
  let ⟨K,i,P⟩:=mW (s:=(g9 s pre x).2) (d.bp▸h2) d.rel (λa ha b hb o hO=>by
    obtain hO|⟨_,a2,ha2,oY⟩:=d.own o b hO
    grind
    grind) e.2.1 hn
  refine⟨K,d.trans i,?_⟩;have hmid:aH K w (low (lkV m r:V S)) (MG m b):=aaX (by rw[i.bP,d.bP];exact F) m;have f:PW (aH K w) (bu ((g9 s pre x).1++(WH m (Z r)++(g9 (g9 s pre x).2 post y).1))) cv.toList:=by
   rw[hv,jR,jR];exact PW.append ⟨B.1,λj t v n q=>(B.2 j t v n q).le i.le⟩ (PW.append ⟨rfl,λj t v n q=>by
    grind[bu,WH]⟩ P)
  exact .box _ _ _ (by simpa using f.1) λj t v n q=>f.2 j t v n (by simpa using q)
end
section
def Tr.qZ{α:Type}:∀(n:Nat)(t:Tr α)(k j:Nat),k+1<2 ^ n->(Tr.del n t k).get j=if j=k then Y else t.get j
 |0,t,k,j,h=>by simp at h
 |n+1,.nil,k,j,h=>by have:Tr.del (n+1) (.nil:Tr α) k=.nil:=rfl;rw[this,Tr.get_nil];split<;>rfl
 |n+1,.node v l r,0,j,h=>by have:Tr.del (n+1) (.node v l r) 0=.node Y l r:=rfl;cases j with|zero=>rfl|succ j=>rfl
 |n+1,.node v l r,k+1,j,h=>by
  have b:k/2+1<2 ^ n:=by omega
  have c:Tr.del (n+1) (.node v l r) (k+1)=if k%2=0 then .node v (Tr.del n l (k/2)) r else .node v l (Tr.del n r (k/2)):=by
   simp[Tr.del];by_cases h2:k%2=0;have:Nq (Nat.mod k 2) 0=W:=by show Nq (k%2) 0=W;rw[h2];rfl
   simp[this,h2];rfl;have:Nq (Nat.mod k 2) 0=J:=by
    show Nq (k%2) 0=J;have:k%2=1:=by omega
    rw[this];rfl
   simp[this,h2];rfl
  rw[c];cases j with
  |zero=>split<;>simp[Tr.iO]
  |succ j=>
   by_cases d:k%2=0;rw[bO d,Tr.dz,Tr.dz];by_cases a:j%2=0;rw[bO a,bO a,Tr.qZ n _ _ _ b]
   grind
   grind
   rw[cm d,Tr.dz,Tr.dz];by_cases a:j%2=0;rw[bO a,bO a,cm (by omega)];rw[cm a,cm a,Tr.qZ n _ _ _ b]
   grind
def Tr.nT{α:Type}:∀(bs:L Nat)(t:Tr α)(j:Nat),(∀b∈bs,b<bD)->(bs.foldl (λt o=>t.del aO o) t).get j=if j∈bs then Y else t.get j
 |[],t,j,_=>by simp
 |b::bs,t,j,h=>by rw[Mj,Tr.nT bs _ j (λc a=>h c (by simp[a])),Tr.qZ _ _ _ _ (by have:=h b (by simp);unfold aO;unfold bD at this;omega)];by_cases h1:j∈bs;simp[h1];by_cases h2:j=b<;>simp[h1,h2]
def Tr.nR{α:Type}(f:α->α):∀(t:Tr α)(k:Nat),(t.mapA f).get k=(t.get k).map f
 |.nil,k=>by rfl
 |.node v l r,0=>by have:(Tr.node v l r).mapA f=.node (match v with|some x=>Z (f x)|none=>Y) (l.mapA f) (r.mapA f):=rfl;rw[this,Tr.iO,Tr.iO];cases v<;>rfl
 |.node v l r,k+1=>by have:(Tr.node v l r).mapA f=.node (match v with|some x=>Z (f x)|none=>Y) (l.mapA f) (r.mapA f):=rfl;rw[this,Tr.dz,Tr.dz,Tr.nR f l,Tr.nR f r];split<;>rfl
theorem Tr.qo{α:Type}(p:α->aa):∀(t:Tr α)(k:Nat)(x:α),t.get k=Z x->p x=W->k∈t.ju p
 |.nil,k,x,h,_=>by cases h
 |.node v l r,0,x,h,a=>by
  grind[Tr.iO,Tr.ju]
 |.node v l r,k+1,x,h,a=>by rw[Tr.dz]at h;simp only[Tr.ju,eN,tJ];by_cases b:k%2=0;rw[bO b]at h;exact .inr (.inl ⟨k/2,Tr.qo p l _ x h a,by grind⟩);rw[cm b]at h;exact .inr (.inr ⟨k/2,Tr.qo p r _ x h a,by grind⟩)
theorem Tr.nS{α:Type}(p:α->aa):∀(t:Tr α)(k:Nat),(t.keep p).get k=(t.get k).filter p
 |.nil,k=>by rfl
 |.node v l r,0=>by
  have:(Tr.node v l r).keep p=.node (match v with|some x=>bif p x then Z x else Y|none=>Y) (l.keep p) (r.keep p):=rfl
  grind[Tr.iO]
 |.node v l r,k+1=>by have:(Tr.node v l r).keep p=.node (match v with|some x=>bif p x then Z x else Y|none=>Y) (l.keep p) (r.keep p):=rfl;rw[this,Tr.dz,Tr.dz,Tr.nS p l,Tr.nS p r];split<;>rfl
mutual
theorem j9(os:L Nat):∀v:V S,dn os (low v)=iF os v
 |.ty t x=>by
  have:∀l:L D,iz os (l.map .sym)=J:=by
   intro l
   induction l with|nil=>rfl|cons d l e=>simp[iz,dn,e]
  cases t<;>simp[low,dY,iF,dn,this]
 |.kb _=>rfl|.kn _ _=>rfl|.dat _=>rfl|.ptr _ _=>rfl|.lD _ _ _=>rfl|.lC _ _ _ _=>rfl|.sh _ _=>rfl|.emp=>rfl|.j4 _ _ _=>rfl|.fn _ a b=>by simp[low,iF,dn,qj os a,qj os b]
 |.de _ v=>by simp[low,iF,dn,j9 os v]
 |.agg c=>by simp[low,iF,dn,qj os c]
 |.gG c=>by simp[low,iF,dn,qj os c]
 |.gd _ v=>by simp[low,iF,dn,j9 os v]
 |.mp _=>rfl|.qN _=>rfl|.tD _=>rfl|.ub _=>rfl|.rQ _ _ _ _=>rfl|.o6 _ _ _=>rfl
theorem qj(os:L Nat):∀l:L (V S),iz os (bu l)=od os l
 |[]=>rfl|v::l=>by simp[bu,iz,od,j9 os v,qj os l]
end
def lP:∀t:T,dn [] t=J:=by
 intro t
 induction t using T.rec (motive_2:=λl=>iz [] l=J)with|fn f a b d g=>simp[dn,d,g]|de t v e=>simp[dn,e]|agg i e=>simp[dn,e]|gG i e=>simp[dn,e]|gd c v e=>simp[dn,e]|nil=>rfl|cons a l d h=>simp[iz,d,h]|_=>simp[dn]
structure n8(lo fl:Nat)(g:Gh)(w:av)(g':Gh)(w':av):Prop where
 bP:∀o b,g.bP o=Z b->g'.bP o=Z b
 arr:∀o e x,o<lo->g.arr o e=Z x->g'.arr o e=Z x
 bp:∀b,g.bp b->g'.bp b
 size:w.heap.size<=w'.heap.size
 heap:∀b,b<w.heap.size->(∀o,fl<=o->¬bx g o b)->w'.heap[b]?=w.heap[b]?
 own:∀o b,fl<=o->bx g' o b->(∃o',fl<=o'/\bx g o' b)\/w.heap.size<=b
 nQ:∀b,g'.bp b->g.bp b\/w.heap.size<=b\/∃o,fl<=o/\bx g o b
 os:w'.os=w.os
 output:w'.output=w.output
theorem n8.refl(lo fl:Nat)(g:Gh)(w:av):n8 lo fl g w g w:=
 ⟨λ_ _ h=>h,λ_ _ _ _ h=>h,λ_ h=>h,cM _,λ_ _ _=>rfl,λo _ a h=>.inl ⟨o,a,h⟩,λ_ h=>.inl h,rfl,rfl⟩
def n8.trans{lo fl:Nat}{g g' i:Gh}{w w' j:av}(h:n8 lo fl g w g' w')(k:n8 lo fl g' w' i j):n8 lo fl g w i j where
 bP o b e:=k.bP o b (h.bP o b e)
 arr o e x n p:=k.arr o e x n (h.arr o e x n p)
 bp b e:=k.bp b (h.bp b e)
 size:=fP h.size k.size
 heap b c q:=by
  rw[k.heap b (iE c h.size) (λo l a=>?_),h.heap b c q];obtain⟨m,d,f⟩|a:=h.own o b l a
  grind
  omega
 own o b l a:=by
  obtain⟨m,d,f⟩|a:=k.own o b l a
  exact h.own m b d f;exact .inr (fP h.size a)
 nQ b c:=by
  obtain c|c|⟨o,l,a⟩:=k.nQ b c
  exact h.nQ b c;exact .inr (.inl (fP h.size c));obtain⟨m,d,f⟩|a:=h.own o b l a
  grind
  omega
 os:=k.os.trans h.os
 output:=k.output.trans h.output
variable {fl:Nat}{g g':Gh}{w w':av}{s:bf S}{k:Bk}{nx:Option Nat}
def Ext.Hi(lo:Nat)(h:Ext fl g w g' w'):n8 lo fl g w g' w':=
 ⟨λo b e=>h.bP o b e,λo e x _ k=>h.arr o e x k,h.bp,h.size,h.heap,λo b a c=>(h.own o b c).imp (λh=>⟨o,a,h⟩) id,h.nQ,h.os,h.output⟩
structure cO(ow:List Nat)(s:bf S)(g:Gh)(w:av)(s':bf S)(g':Gh)(w':av):Prop where
 rel:aY g' (aE s') w'
 ext:n8 s.lo s.fl g w g' w'
 fl:s'.fl=s.fl
 lo:s'.lo=s.lo
 aF:s.aF<=s'.aF
 tw:∀o∈s.wr,o∈s'.wr
 same:∀o,o<s.aF->o∉s'.wr->s'.ob.get o=s.ob.get o
 tr:∀t v,aH g w t v->dn ow t=J->aH g' w' t v
 oww:∀o∈ow,o∈s'.wr
 FT:∀o∈s.dr,o∈s'.dr
 owd:∀o∈ow,o∈s'.dr
inductive qI(S:Sg)(I:Nat->Prop)(w:av):(ps:List Pk)->fI S.A ps->List az->List eU->List Nat->Prop where
 |nil:qI S I w [] () [] [] []|one {c:Ck} {ps:List Pk} {x:den S.A c.ty} {h:fI S.A ps} {v:az} {vs:List az} {al uS:List eU} {bl:List Nat} (h1:jw S I w [c] (x,()) [v] al) (h2:qI S I w ps h vs uS bl) :
   qI S I w (.one c::ps) (x,h) (v::vs) (al++uS) bl
 |box {k:Bk} {ps:List Pk} {x:xw S.A k} {h:fI S.A ps} {b:Nat} {hx:Obj} {vs:List az} {al uS:List eU} {bl:List Nat} (hh:w.heap[b]?=Z hx)
   (h1:Dp S I w (fj bl) k x hx al) (h2:qI S I w ps h vs uS bl):qI S I w (.box k::ps) (x,h) (J3 k b::vs) (al++uS) (b::bl)
 |hid {k:Bk} {ps:List Pk} {x:xw S.A k} {h:fI S.A ps} {b:Nat} {hx:Obj} {vs:List az} {al uS:List eU} {bl:List Nat} (hh:w.heap[b]?=Z hx)
   (h1:Dp S I w (fj bl) k x hx al) (h2:qI S I w ps h vs uS bl):qI S I w (.hid k::ps) (x,h) vs (al++uS) (b::bl)
inductive Dq(S:Sg)(I:Nat->Prop)(w:av):(ps:List Pk)->gQ S.A ps->List Nat->List eU->Prop where
 |nil:Dq S I w [] () [] []|one {c:Ck} {ps:List Pk} {r:gQ S.A ps} {bl:List Nat} {al:List eU} (h:Dq S I w ps r bl al):Dq S I w (.one c::ps) r bl al|box {k:Bk} {ps:List Pk} {x:xw S.A k} {r:gQ S.A ps} {b:Nat} {hx:Obj} {bl:List Nat} {al uS:List eU} (hh:w.heap[b]?=Z hx)
   (h1:Dp S I w (fj bl) k x hx al) (h2:Dq S I w ps r bl uS):Dq S I w (.box k::ps) (x,r) (b::bl) (al++uS)
 |hid {k:Bk} {ps:List Pk} {x:xw S.A k} {r:gQ S.A ps} {b:Nat} {hx:Obj} {bl:List Nat} {al uS:List eU} (hh:w.heap[b]?=Z hx)
   (h1:Dp S I w (fj bl) k x hx al) (h2:Dq S I w ps r bl uS):Dq S I w (.hid k::ps) (x,r) (b::bl) (al++uS)
def valOf:L az->az
 |[v]=>v|l=>.tuple l.toArray
def DU(S:Sg)(I:Nat->Prop)(w:av)(ps:L Pk)(f:L Ck)(r:fU S.A f×gQ S.A ps)(al:L eU)(bl:L Nat)(v:az)(w':av):Prop:=∃(e:Nat->Prop)(vs:L az)(c d:L eU),(∀b,I b->e b)/\(∀b,e b->I b\/w.heap.size<=b\/∃a∈al,a.at b)/\(∀b,e b->b<w'.heap.size)/\w.heap.size<=w'.heap.size/\
   (∀b,b<w.heap.size->b∉bl->(∀a∈al,¬a.at b)->w'.heap[b]?=w.heap[b]?)/\w'.os=w.os/\w'.output=w.output/\v=valOf vs/\
   Dq S e w' ps r.2 bl c/\jw S e w' f r.1 vs d/\wP (c++d)/\(∀a∈c++d,∀b,a.at b->(∃a'∈al,a'.at b)\/w.heap.size<=b)/\(∀b∈bl,¬e b/\∀a∈c++d,¬a.at b)
def xk(S:Sg)(I:Nat->Prop)(w:av)(ps:L Pk)(b:L Ck)(r:Rx (fU S.A b×gQ S.A ps) (den S.A S.pt×gQ S.A ps))(al:L eU)(bl:L Nat):Ending->av->Prop
 |.returned v,w'=>match r with
  |.ok r=>DU S I w ps b r al bl v w'|.jJ _=>False
 |.panicked c,w'=>match r with
  |.ok _=>False|.jJ p=>∃v,c=[{v,recovered:=J}]/\DU S I w ps [.dat S.pt] ((p.1,()),p.2) al bl v w'
 |.outgrown,_=>False
def bz(P:cP)(f:FuncId)(c:kD S):Prop:=
 lH P f/\∀x r,c.F x=Z r->∀(I:Nat->Prop)(w:av)(vs:Array az)(al:L eU)(bl:L Nat),qI S I w c.ps x vs.toList al bl->(∀b,I b->b<w.heap.size)->wP al->bl.Nodup->
  (∀b∈bl,b<w.heap.size/\¬I b/\∀a∈al,¬a.at b)->Calls P f vs w (xk S I w c.ps c.rs (RT.res c.pn r) al bl)
def zQ(hs:aY g (aE s) w){o b:Nat}(j:g.bP o=Z b){x:xw S.A k}{fz ow:L Nat}(h:lO s k (s.ob.get o)=Z (x,fz,ow,nx)) :
  (∀a,nx=Z a->∃l,g.bP a=Z l)/\∀a,nx=Z a->∃m pre post,k=.link m pre post:=by
 cases e:s.ob.get o with
 |none=>rw[e]at h;cases k<;>simp[lO]at h
 |some ob=>
 rw[e]at h
 let ⟨t,u,f⟩:=(hs.box o b j).2.2 (cX ob) (by rw[aK,e];rfl)
 cases k with
 |link m pre post=>
  refine⟨λa n=>?_,λ_ _=>⟨m,pre,post,rfl⟩⟩;cases ob with
  |box v=>
   cases f with
   |box _ p ty y f=>
   simp only[lO]at h;split at h;rotate_left;cases h;rename_i q z d A;obtain⟨_,_,_,rfl⟩:=h;have d:=Xd d;rw[jP]at d;have i:cC pre<p.size:=by grind[eF]
   have c:=f (cC pre) _ _ (by rw[eP,kF,d];rfl) (tO i)
   let ⟨q,r,_⟩:=RY c
   grind
  |_=>simp[lO]at h
 |cells B=>
  cases ob<;>simp only[lO]at h<;>try(cases h;done)
  grind
 |map C E=>
  cases ob<;>simp only[lO]at h<;>try(cases h;done)
  grind
 |qO=>
  cases ob<;>simp only[lO]at h<;>try(cases h;done)
  grind
def Cr{i:Gh}{ps:L Pk}{l:L (V S)}{h:fI S.A ps}{a b bs bl:L Nat}(n:Ff k ps=W)(g:∀c,nx=Z c->∃m pre post,k=.link m pre post)(e:eC s ps l nx=Z (h,a,b,bs))(d:PW (λo b=>i.bP o=Z b) bs bl) :
  ∀c,nx=Z c->∃f,fj bl=Z f/\i.bP c=Z f:=by
 intro c j;obtain⟨m,pre,post,rfl⟩:=g c j;subst j
 match ps,n with
 |.hid p::ps,_=>
  simp[eC]at e;obtain⟨_,e⟩|⟨_,e⟩:=ah e
  rotate_left;cases e;split at e;rotate_left;cases e;split at e;rotate_left;cases e;simp at e;obtain⟨_,_,_,rfl⟩:=e
  match bl,d with
  |f::bl,d=>exact⟨f,rfl,d.2 0 _ _ rfl rfl⟩|[],d=>exact absurd d.1 (by simp)
def j8(hS:eZ S){g:Gh}{w:av}{s:bf S}(hs:aY g (aE s) w):∀{ps:L Pk}{l:L (V S)}{vals:L az}{x:fI S.A ps}{fz ow bs:L Nat}{B:O Nat},eC s ps l B=Z (x,fz,ow,bs)->PW (aH g w) (bu l) vals->(∀o,B=Z o->∃b,g.bP o=Z b)->
  (∀o∈fz,Live g (aE s) o)/\(∀o∈ow,s.fl<=o/\s.lo<=o/\o<s.aF/\∃ob,s.ob.get o=Z ob/\Qo ob=W)/\(∀o∈bs,s.fl<=o/\∃ob,s.ob.get o=Z ob/\jz ob=W)/\∀(r:Gh)(s1:St)(i:L Nat),aY r s1 w->Ext s.fl g w r w->jl (aE s) s1 i->(∀o∈fz,o∈i)->(∀o∈ow,s1.ob.get o=(aE s).ob.get o)->
   ∃al bl,qI S r.bp w ps x vals al bl/\AL r al ow/\PW (λo b=>r.bP o=Z b) bs bl
 |[],[],vals,x,fz,ow,bs,_,h,m=>by intro _;obtain⟨_,rfl,rfl,rfl⟩:=h;have:vals=[]:=Da (by have:=m.1;simpa[bu]using this.symm);subst this;exact⟨λo d=>(by cases d),λo d=>(by cases d),λo d=>(by cases d),λ_ _ _ _ _ _ _ _=>⟨[],[],.nil,.nil,rfl,λj a b h=>by simp at h⟩⟩
 |.one c::ps,v::l,vals,x,fz,ow,bs,_,h,m=>by
  intro _;simp[eC]at h;split at h
  .rename_i x1 a1 b1 h1 a2 b2 bs2 C E;simp at h;obtain⟨rfl,rfl,rfl,rfl⟩:=h
   match vals,m with
   |val::vals,m=>
    have F:aH g w (low v) val:=m.2 0 _ _ rfl rfl;have I:PW (aH g w) (bu l) vals:=⟨by have:=m.1;simpa[bu]using this,λj a b u y=>m.2 (j+1) a b (by simpa[bu]using u) (by simpa using y)⟩
    let ⟨p1,p2,p3⟩:=Ct hS hs C F
    let ⟨q1,q2,q4,q3⟩:=j8 hS hs E I (λo d=>by cases d)
    refine⟨λo d=>(eN.1 d).elim (p1 o) (q1 o),λo d=>(eN.1 d).elim (p2 o) (q2 o),q4,λr s1 i n t A f e=>?_⟩
    let ⟨CU,u,y⟩:=p3 r s1 i n t A (λo d=>f o (eL _ d)) (λo d=>e o (eL _ d))
    let ⟨AS,bl,k3,k4,z⟩:=q3 r s1 i n t A (λo d=>f o (kz _ d)) (λo d=>e o (kz _ d))
    exact⟨_,bl,.one u k3,y.append k4,z⟩
   |[],m=>exact absurd m.1 (by simp[bu])
  cases h
 |.box k::ps,v::l,vals,x,fz,ow,bs,B,h,m=>by
  intro _;simp[eC]at h;split at h
  .rename_i o hkp;obtain rfl:=J4 hkp;obtain⟨hb,p⟩|⟨_,p⟩:=ah h
   .clear h;rw[yH]at hb;split at p;rotate_left;cases p;rename_i x1 a1 b1 nx C;split at p;rotate_left;cases p;rename_i h1 a2 b2 bs2 E;simp at p;obtain⟨rfl,rfl,rfl,rfl⟩:=p
    match vals,m with
    |val::vals,m=>
     have F:aH g w (low (Uj k o)) val:=m.2 0 _ _ rfl rfl;have I:PW (aH g w) (bu l) vals:=⟨by have:=m.1;simpa[bu]using this,λj a b u y=>m.2 (j+1) a b (by simpa[bu]using u) (by simpa using y)⟩;obtain⟨b,q,rfl⟩:=Fh F
     let ⟨p0,hx,hh,p1,p2,p3⟩:=qT hS hs q C
     let ⟨K,P⟩:=zQ hs q C
     let ⟨q1,q2,q4,q3⟩:=j8 hS hs E I K
     refine⟨λo d=>(eN.1 d).elim (p1 o) (q1 o),λo d=>(eN.1 d).elim (p2 o) (q2 o),λk hk=>?_,λr s1 i n t A f e=>?_⟩;obtain rfl|hk:=fF.1 hk
     simp_all
     grind
     let ⟨AS,bl,k3,k4,z⟩:=q3 r s1 i n t A (λo d=>f o (kz _ d)) (λo d=>e o (kz _ d))
     let ⟨CU,u,y⟩:=p3 r s1 i n t A (λo d=>f o (eL _ d)) (λo d=>e o (eL _ d)) (fj bl) (Cr hb.2 P E z)
     refine⟨_,b::bl,.box hh u k3,y.append k4,by simp[z.1],λj a c Q R=>?_⟩;cases j with|zero=>simp at Q R;subst Q;subst R;exact t.bP _ _ q|succ j=>exact z.2 j a c (by simpa using Q) (by simpa using R)
    |[],m=>exact absurd m.1 (by simp[bu])
   cases p
  cases h
 |.hid k::ps,l,vals,x,fz,ow,bs,Z o,h,m=>by
  intro hp0;obtain⟨hb,p⟩|⟨_,p⟩:=ah h
  rotate_left;cases p;clear h;rw[yH]at hb;split at p;rotate_left;cases p;rename_i C;split at p;rotate_left;cases p;rename_i E;obtain⟨rfl,rfl,rfl,rfl⟩:=p
  let ⟨b,q⟩:=hp0 o rfl
  let ⟨p0,hx,hh,p1,p2,p3⟩:=qT hS hs q C
  let ⟨K,P⟩:=zQ hs q C
  let ⟨q1,q2,q4,q3⟩:=j8 hS hs E m K
  refine⟨λo d=>(eN.1 d).elim (p1 o) (q1 o),λo d=>(eN.1 d).elim (p2 o) (q2 o),λk hk=>?_,λr s1 i n t A f e=>?_⟩;obtain rfl|hk:=fF.1 hk
  simp_all
  grind
  let ⟨AS,bl,k3,k4,z⟩:=q3 r s1 i n t A (λo d=>f o (kz _ d)) (λo d=>e o (kz _ d))
  let ⟨CU,u,y⟩:=p3 r s1 i n t A (λo d=>f o (eL _ d)) (λo d=>e o (eL _ d)) (fj bl) (Cr hb.2 P E z)
  refine⟨_,b::bl,.hid hh u k3,y.append k4,by simp[z.1],λj a c Q R=>?_⟩;cases j with|zero=>simp at Q R;subst Q;subst R;exact t.bP _ _ q|succ j=>exact z.2 j a c (by simpa using Q) (by simpa using R)
 |[],_::_,_,_,_,_,_,_,h,_=>by simp[eC]at h
 |.one _::_,[],_,_,_,_,_,_,h,_=>by simp[eC]at h
 |.box _::_,[],_,_,_,_,_,_,h,_=>by simp[eC]at h
 |.hid _::_,_,_,_,_,_,_,Y,h,_=>by simp[eC]at h
end
section
def E7{os:L Nat}:∀{l:L (V S)},od os l=J->∀v∈l,iF os v=J
 |[],_,v,b=>by cases b
 |a::l,h,v,b=>by
  simp[od,yG]at h;obtain rfl|b:=fF.1 b
  exact h.1;exact E7 h.2 v b
def E6{α:Type}{os:L Nat}:∀{l:L (α×V S)},JZ os l=J->∀p∈l,iF os p.2=J
 |[],_,v,b=>by cases b
 |a::l,h,v,b=>by
  simp[JZ,yG]at h;obtain rfl|b:=fF.1 b
  exact h.1;exact E6 h.2 v b
def DD{p:V S->aa}{f:V S->V S}(hf:∀v,p v=J->f v=v):∀{t:Tr (V S)},mo p t=J->t.mapA f=t
 |.nil,_=>rfl|.node v l r,h=>by
  simp[mo,yG]at h;simp only[Tr.mapA,DD hf h.2.1,DD hf h.2.2]
  grind
variable {os bl:List Nat}{g:Gh}{w:av}{s:bf S}{vs:List az}{I:Nat->Prop}
def BC{v:V S}(h:iF os v=J):qE os v=v:=by simp[qE,h,gJ]
def Qb{ob:uz S}(h:JU os ob=J):nD os ob=ob:=by
 cases ob with
 |box b=>simp[nD,uz.box.injEq];have:∀v∈b,qE os v=v:=λv c=>BC (E7 h v c);exact(OV this).trans (List.map_id _)|GY d l=>
  simp only[nD];have:∀p∈l,((p.1,qE os p.2):den S.A d×V S)=p:=λp e=>by rw[BC (E6 h p e)]
  rw[(OV this).trans (List.map_id _)]
 |lp l=>simp[nD,DD (λv=>BC) (show mo (iF os) l.fr.tm=J from h)]|kT n j l era m a hole=>have h:os.contains m=J:=h;simp only[nD,h,gJ]|_=>rfl
theorem v8(os:L Nat)(v:V S):uT (dn os) (low v) (low (qE os v)):=by cases a:iF os v with|true=>exact .inr ⟨_,by simp[qE,a,gn];rfl⟩|false=>exact .inl ⟨by simp[qE,a,gJ],by rw[j9];exact a⟩
theorem Rh(os:L Nat)(t:Ty)(x:den S.A t):uT (dn os) (dY S t x) (dY S t x):=.inl ⟨rfl,j9 (S:=S) os (.ty t x)⟩
def Kt(os:L Nat)(ob:uz S):Za os (cX ob) (cX (nD os ob)):=by
 cases ob with
 |box o=>
  refine⟨by simp[eF],λj t u h1 h2=>?_⟩;simp only[eP,kF,fG]at h1 h2;obtain⟨v,c,rfl⟩:=h1;obtain⟨g,⟨d,a,rfl⟩,rfl⟩:=h2
  grind[v8]
 |map h q l=>
  refine⟨rfl,λj t u h1 h2=>?_⟩;rw[h1]at h2;cases h2;simp only[kF,fG]at h1;obtain⟨p,_,rfl⟩:=h1
  grind[Rh]
 |GY h l=>
  refine⟨by simp,λj t u h1 h2=>?_⟩;simp only[kF,fG]at h1 h2;obtain⟨v,c,rfl⟩:=h1;obtain⟨g,⟨d,a,rfl⟩,rfl⟩:=h2
  grind[Rh,v8]
 |lp l=>refine⟨rfl,rfl,λk u i=>?_⟩;have b:((l.fr.tm.mapA (qE os)).map low).get k=Z u:=i;rw[Tr.get_map,Tr.nR,EL,fG]at b;obtain⟨v,c,rfl⟩:=b;exact⟨low v,by show(l.fr.tm.map low).get k=_;rw[Tr.get_map,c];rfl,v8 os v⟩
 |arr=>rfl|kM=>rfl|qO=>rfl|zm=>rfl|rws=>rfl|gone=>rfl|E5=>rfl|kT n j l era m f hole=>
  cases e:os.contains m with|true=>exact .inr (by simp only[nD,e,gn];rfl)|false=>exact .inl ⟨by simp only[nD,e,gJ];rfl,e⟩
def FC(os:L Nat)(s:bf S)(o:Nat):(forget os s).ob.get o=if os=[]then s.ob.get o else(s.ob.get o).map (nD os):=by cases os with|nil=>rfl|cons a os=>exact Tr.nR _ _ _
def Nc(os:L Nat)(hs:aY g (aE s) w):aY (g.drop os) (aE (forget os s)) w:=by cases os with|nil=>exact hs|cons a os=>refine hs.drop rfl λo c h=>?_;rw[aK,FC,cm (by simp),EL,fG]at h;obtain⟨ob,b,rfl⟩:=h;exact⟨cX ob,by rw[aK,b];rfl,Kt _ ob⟩
def Nb(os:L Nat)(s:bf S)(o:Nat)(h:o∉(forget os s).wr):(forget os s).ob.get o=s.ob.get o:=by
 rw[FC];split;rfl;cases c:s.ob.get o with
 |none=>rfl|some ob=>
  cases b:JU os ob with
  |true=>
   exfalso;apply h;cases os with|nil=>simp_all|cons a os=>exact eL _ (Tr.qo _ _ _ _ c b)
  |false=>rw[jq,Qb b]
def UL(os:L Nat)(s:bf S):(forget os s).fl=s.fl/\(forget os s).lo=s.lo/\(forget os s).aF=s.aF/\(forget os s).dr=s.dr/\∀o∈s.wr,o∈(forget os s).wr:=by cases os with|nil=>exact⟨rfl,rfl,rfl,rfl,λ_ h=>h⟩|cons a os=>exact⟨rfl,rfl,rfl,rfl,λo h=>kz _ h⟩
def eD:∀{os:L Nat}{s s':bf S},dS s os=Z s'->s'.fl=s.fl/\s'.lo=s.lo/\s'.aF=s.aF/\(∀o∈s.wr,o∈s'.wr)/\(∀o,o∉s'.wr->s'.ob.get o=s.ob.get o)/\(∀o,o∉os->s'.ob.get o=s.ob.get o)/\s'.dr=s.dr
 |[],s,s',h=>by simp[dS,gC]at h;subst h;exact⟨rfl,rfl,rfl,λ_ h=>h,λ_ _=>rfl,λ_ _=>rfl,rfl⟩
 |k::os,s,s',h=>by
  obtain⟨_,h⟩|⟨_,h⟩:=ah h
  split at h
  let ⟨h1,h2,h3,h4,h5,h6,b⟩:=eD h
  refine⟨h1,h2,h3,λo a=>h4 o (hJ _ a),λo a=>?_,λo a=>?_,b⟩;rw[h5 o a];exact Tr.dy _ _ _ _ _ (λe=>a (h4 o (by rw[e];exact fQ)));rw[h6 o (λc=>a (hJ _ c))];exact Tr.dy _ _ _ _ _ (λe=>a (by rw[e];exact fQ))
  let ⟨h1,h2,h3,h4,h5,h6,b⟩:=eD h
  exact⟨h1,h2,h3,h4,h5,λo a=>h6 o (λc=>a (hJ _ c)),b⟩;split at h;rename_i _ _ _ _ _;obtain⟨d,h⟩|⟨_,h⟩:=ah h
  simp only[eM,EG,sC]at d
  let ⟨h1,h2,h3,h4,h5,h6,b⟩:=eD h
  refine⟨h1,h2,h3,λo a=>h4 o (hJ _ (hJ _ a)),λo a=>?_,λo a=>?_,b⟩;rw[h5 o a];show((s.ob.set aO _ _).set aO k _).get o=_;rw[Tr.dy _ _ _ _ _ (λe=>a (h4 o (by rw[e];exact fQ))),Tr.dy _ _ _ _ _ (λe=>a (h4 o (by rw[e];exact hJ _ fQ)))];rw[h6 o (λc=>a (hJ _ c))];show((s.ob.set aO _ _).set aO k _).get o=_;rw[Tr.dy _ _ _ _ _ (λe=>a (by rw[e];exact fQ)),Tr.dy _ _ _ _ _ (λe=>a (by rw[e];exact hJ _ d.1))];cases h;cases h
  let ⟨h1,h2,h3,h4,h5,h6,b⟩:=eD h
  exact⟨h1,h2,h3,h4,h5,λo a=>h6 o (λc=>a (hJ _ c)),b⟩
  let ⟨h1,h2,h3,h4,h5,h6,b⟩:=eD h
  exact⟨h1,h2,h3,h4,h5,λo a=>h6 o (λc=>a (hJ _ c)),b⟩;cases h;cases h
structure aqM(bs:List Nat)(g:Gh)(s:bf S)(w:av)(al:List eU)(g':Gh)(s':bf S):Prop where
 rel:aY g' (aE s') w
 le:mH g g'
 bp:g'.bp=g.bp
 own:∀k b,bx g' k b->bx g k b\/(s.aF<=k/\∃a∈al,a.at b)
 fl:s'.fl=s.fl
 lo:s'.lo=s.lo
 aF:s.aF<=s'.aF
 tw:∀o∈s.wr,o∈s'.wr
 wrb:∀o∈bs,o∈s'.wr
 dr:s'.dr=s.dr
 ob:∀o,o<s.aF->o∉bs->s'.ob.get o=s.ob.get o
 bP:g'.bP=g.bP
 arr:∀o,o<s.aF->∀e,g'.arr o e=g.arr o e
def sI:∀{ps:L Pk}{bs:L Nat}{r:gQ S.A ps}{s s':bf S},lM s ps bs r=Z s'->s.aF<=s'.aF
 |[],[],r,s,s',h=>by simp_all[lM,gC,cM]
 |.one c::ps,bs,r,s,s',h=>sI (ps:=ps) (by simpa only[lM]using h)
 |.box a::ps,o::bs,r,s,s',h=>by
  simp only[lM]at h;have h1:=sI h
  grind[Nat.le_trans,Dr]
 |.hid a::ps,o::bs,r,s,s',h=>by
  simp only[lM]at h;have h1:=sI h
  grind[Nat.le_trans,Dr]
 |[],_::_,_,_,_,h=>by simp[lM]at h
 |.box _::_,[],_,_,_,h=>by simp[lM]at h
 |.hid _::_,[],_,_,_,h=>by simp[lM]at h
def z8{bs:L Nat}(h:PW (λo b=>g.bP o=Z b) bs bl):∀a,fj bl=Z a->∃c,fj bs=Z c/\g.bP c=Z a:=by
 intro a d
 match bl,bs,h with
 |b::bl,o::bs,h=>cases d;exact⟨o,rfl,h.2 0 _ _ rfl rfl⟩
 |[],_,_=>cases d
 |_::_,[],h=>exact absurd h.1 (by simp)
def Mp:∀{ps:L Pk}{r:gQ S.A ps}{bl:L Nat}{al:L eU}{bs:L Nat}{g:Gh}{w:av}{s R:bf S},Dq S g.bp w ps r bl al->aY g (aE s) w->PW (λo b=>g.bP o=Z b) bs bl->(∀o∈bs,∀e,g.arr o e=Y)->
  (∀a∈al,∀b,a.at b->∀o,¬bx g o b)->wP al->lM s ps bs r=Z R->R.aF<=bD->∃g',aqM bs g s w al g' R:=by
 intro ps
 induction ps with
 |nil=>
  intro r bl al bs g w s R hb C i _ _ _ h _;cases hb;cases bs with|nil=>simp[lM,gC]at h;subst h;exact⟨g,C,mH.refl _,rfl,λ_ _ h=>.inl h,rfl,rfl,cM _,λ_ h=>h,λo ho=>(by cases ho),rfl,λ_ _ _=>rfl,rfl,λ_ _ _=>rfl⟩|cons o bs=>exact absurd i.1 (by simp)
 |cons p ps ih=>
  intro r bl al bs g w s R hb C i hna hfr hap h hn;cases hb with
  |one hb=>
   grind[lM]
  | @box v _ x r b hx bl al E hh h1 h2=>
   cases bs with
   |nil=>exact absurd i.1 (by simp)
   |cons o bs=>
    simp[lM]at h;have y:g.bP o=Z b:=i.2 0 _ _ rfl rfl;have n:=tM.1 hap;have F:=sI h;have I:(kL s (fj bs) v x).2.aF<=bD:=fP F hn
    let ⟨g1,d,z⟩:=pz h1 (z8 (bs:=bs) (bl:=bl) ⟨by simpa using i.1,λj a c t u=>i.2 (j+1) a c (by simpa using t) (by simpa using u)⟩) C (λa ha=>hfr a (eL _ ha)) n.1 I
    have K:o<s.aF:=C.lt y;have hk:=d.rel.sQ (o:=o) (b:=b) (by rw[d.bP];exact y) hh z (λe=>by rw[d.arr o K];simp_all);have P:aY g1 (aE {(kL s (fj bs) v x).2 with ob:=(kL s (fj bs) v x).2.ob.set aO o (kL s (fj bs) v x).1,wr:=o::(kL s (fj bs) v x).2.wr}) w:=by rw[eu];exact hk
    let ⟨g2,l⟩:=ih (bl:=bl) (al:=E) (bs:=bs) (g:=g1) (d.bp▸h2) P ⟨by simpa using i.1,λj a c t u=>by rw[d.bP];exact i.2 (j+1) a c (by simpa using t) (by simpa using u)⟩
     (λm f e=>by
      have:m<s.aF:=by
       obtain⟨j,hj,rfl⟩:=p8 f;have hj':j<bl.length:=by have:=i.1;grind
       exact C.lt (i.2 (j+1) bs[j] bl[j] (by simp) (by simp))
      rw[d.arr m this]
      simp_all)
     (λa ha B hb' k q=>by
      obtain q|⟨_,a2,ha2,oY⟩:=d.own k B q
      grind
      grind) n.2.1 h hn
    refine⟨g2,l.rel,d.le.trans l.le,l.bp.trans d.bp,λk B q=>?_,l.fl.trans d.fl,l.lo.trans d.lo,fP d.aF l.aF,λm f=>?_,λm f=>?_,l.dr.trans d.dr,λm A f=>?_,l.bP.trans d.bP,λm A e=>?_⟩;obtain q|⟨t,a,u,k3⟩:=l.own k B q
    obtain q|⟨t,a,u,k3⟩:=d.own k B q
    exact .inl q
    grind
    exact .inr ⟨fP d.aF t,a,kz _ u,k3⟩;exact l.tw m (hJ _ (by rw[d.wr];exact f));obtain rfl|f:=fF.1 f
    exact l.tw _ fQ;exact l.wrb m f;have Q:m≠o:=λe=>f (by simp_all);rw[l.ob m (iE A d.aF) (λhm=>f (hJ _ hm))];rw[Tr.dy _ _ _ _ _ Q];exact d.ob m A;rw[l.arr m (iE A d.aF)];exact d.arr m A e
  | @hid v _ x r b hx bl al E hh h1 h2=>
   cases bs with
   |nil=>exact absurd i.1 (by simp)
   |cons o bs=>
    simp[lM]at h;have y:g.bP o=Z b:=i.2 0 _ _ rfl rfl;have n:=tM.1 hap;have F:=sI h;have I:(kL s (fj bs) v x).2.aF<=bD:=fP F hn
    let ⟨g1,d,z⟩:=pz h1 (z8 (bs:=bs) (bl:=bl) ⟨by simpa using i.1,λj a c t u=>i.2 (j+1) a c (by simpa using t) (by simpa using u)⟩) C (λa ha=>hfr a (eL _ ha)) n.1 I
    have K:o<s.aF:=C.lt y;have hk:=d.rel.sQ (o:=o) (b:=b) (by rw[d.bP];exact y) hh z (λe=>by rw[d.arr o K];simp_all);have P:aY g1 (aE {(kL s (fj bs) v x).2 with ob:=(kL s (fj bs) v x).2.ob.set aO o (kL s (fj bs) v x).1,wr:=o::(kL s (fj bs) v x).2.wr}) w:=by rw[eu];exact hk
    let ⟨g2,l⟩:=ih (bl:=bl) (al:=E) (bs:=bs) (g:=g1) (d.bp▸h2) P ⟨by simpa using i.1,λj a c t u=>by rw[d.bP];exact i.2 (j+1) a c (by simpa using t) (by simpa using u)⟩
     (λm f e=>by
      have:m<s.aF:=by
       obtain⟨j,hj,rfl⟩:=p8 f;have hj':j<bl.length:=by have:=i.1;grind
       exact C.lt (i.2 (j+1) bs[j] bl[j] (by simp) (by simp))
      rw[d.arr m this]
      simp_all)
     (λa ha B hb' k q=>by
      obtain q|⟨_,a2,ha2,oY⟩:=d.own k B q
      grind
      grind) n.2.1 h hn
    refine⟨g2,l.rel,d.le.trans l.le,l.bp.trans d.bp,λk B q=>?_,l.fl.trans d.fl,l.lo.trans d.lo,fP d.aF l.aF,λm f=>?_,λm f=>?_,l.dr.trans d.dr,λm A f=>?_,l.bP.trans d.bP,λm A e=>?_⟩;obtain q|⟨t,a,u,k3⟩:=l.own k B q
    obtain q|⟨t,a,u,k3⟩:=d.own k B q
    exact .inl q
    grind
    exact .inr ⟨fP d.aF t,a,kz _ u,k3⟩;exact l.tw m (hJ _ (by rw[d.wr];exact f));obtain rfl|f:=fF.1 f
    exact l.tw _ fQ;exact l.wrb m f;have Q:m≠o:=λe=>f (by simp_all);rw[l.ob m (iE A d.aF) (λhm=>f (hJ _ hm))];rw[Tr.dy _ _ _ _ _ Q];exact d.ob m A;rw[l.arr m (iE A d.aF)];exact d.arr m A e
def zp{l:L (V S)}(h:PW (aH g w) (bu l) vs):aH g w (low (CZ l)) (valOf vs):=by
 match l,vs,h with
 |[],[],_=>exact .gG _ _ rfl (λj t v h=>by grind)
 |[v],[x],h=>exact h.2 0 _ _ rfl rfl|v::c::l,x::d::vs,h=>exact .gG _ _ (by simpa using h.1) (λj t u a b=>h.2 j t u a (by simpa using b))
 |[],_::_,h=>exact absurd h.1 (by simp[bu])
 |_::_,[],h=>exact absurd h.1 (by simp[bu])
 |[_],_::_::_,h=>exact absurd h.1 (by simp[bu])
 |_::_::_,[_],h=>exact absurd h.1 (by simp[bu])
theorem qI.iy{I:Nat->Prop}{w:av}{ps:L Pk}{x:fI S.A ps}{vs:L az}{al:L eU}{bl:L Nat}(h:qI S I w ps x vs al bl):∀a∈al,∀b,a.at b->¬I b:=by
 induction h with
 |nil=>simp_all|one h1 h2 e=>
  intro a c b d;obtain c|c:=eN.1 c
  exact h1.iy a c b d
  grind
 |box f h1 h2 e=>
  intro a c b d;obtain c|c:=eN.1 c
  exact h1.iy a c b d
  grind
 |hid f h1 h2 e=>
  intro a c b d;obtain c|c:=eN.1 c
  exact h1.iy a c b d
  grind
def iQ{α β:Type}{x:O α}{f:α->O β}{r:β}(h:ai x f=Z r):∃a,x=Z a/\f a=Z r:=by
 unfold ai at h
 grind
def qI.ap9{ps:L Pk}{x:fI S.A ps}{al:L eU}(h:qI S I w ps x vs al bl):cr ps=W->al=[]/\bl=[]:=by
 induction h with
 |nil=>simp_all| @one c ps x h v vs al b bl h1 h2 d=>
  intro a;cases c with
  |own e=>simp[cr]at a|jQ n j t=>simp[cr]at a|nil e=>simp[cr]at a|ptr t=>simp[cr]at a|dat t=>
   obtain⟨rfl,rfl⟩:=d (by simpa[cr]using a);cases h1 with
   |dat _ f=>
    cases f
    simp_all
 |box=>intro a;simp[cr]at a
 |hid=>intro a;simp[cr]at a
theorem Cs{s:bf S}:∀{ps:L Pk}{l:L (V S)}{b:O Nat}{x:fI S.A ps}{fz ow bs:L Nat},cr ps=W->eC s ps l b=Z (x,fz,ow,bs)->ow=[]
 |[],[],_,x,fz,ow,bs,_,h=>by
  grind[eC]
 |.one (.dat t)::ps,v::l,_,x,fz,ow,bs,a,h=>by
  simp[eC]at h;split at h;rename_i c d;obtain⟨_,_,rfl,_⟩:=h;rw[Cs (by simpa[cr]using a) d];simp[oG]at c
  grind
  cases h
 |.one (.jQ ..)::_,_,_,_,_,_,_,a,_=>by simp[cr]at a
 |.one (.nil _)::_,_,_,_,_,_,_,a,_=>by simp[cr]at a
 |.one (.ptr _)::_,_,_,_,_,_,_,a,_=>by simp[cr]at a
 |.one (.own _)::_,_,_,_,_,_,_,a,_=>by simp[cr]at a
 |.box _::_,_,_,_,_,_,_,a,_=>by simp[cr]at a
 |.hid _::_,_,_,_,_,_,_,a,_=>by simp[cr]at a
 |[],_::_,_,_,_,_,_,_,h=>by simp[eC]at h
 |.one _::_,[],_,_,_,_,_,_,h=>by simp[eC]at h
def xb{g:Gh}{I:Nat->Prop}{w w':av}:∀{cs:L Ck}{x:fU S.A cs}{vs:L az}{al:L eU},kE cs=W->jw S I w cs x vs al->PW (aH g w') (bu (sX cs x)) vs
 |[],x,vs,al,_,h=>by cases h;exact⟨rfl,λj t v h=>by simp_all⟩
 |.dat t::cs,x,vs,al,a,h=>by
  cases h with
  | @dat _ _ y h v vs al b e=>
  simp[kE,eM]at a
  let ⟨f,i⟩:=xb (g:=g) (w':=w') a.2 e
  refine⟨by simp only[sX,bu,qP];rw[f],λj l m c d=>?_⟩;cases j with
  |zero=>
   simp[sX,bu,Mc,gC]at c d;subst c;subst d;have:dF g.bp w' (enc S t y) v:=by
    cases t with
    |int k=>cases b;exact .lit _
    |bool=>cases b;exact .lit _
    |str=>cases b;exact .lit _
    |_=>simp[V1]at a
   exact pQ this
  |succ j=>grind[sX,bu]
 |.own _::_,_,_,_,a,_=>by simp[kE]at a
 |.jQ ..::_,_,_,_,a,_=>by simp[kE]at a
 |.nil _::_,_,_,_,a,_=>by simp[kE]at a
 |.ptr _::_,_,_,_,a,_=>by simp[kE]at a
def Ci(Q:eZ S){g:Gh}{w:av}{s:bf S}(hs:aY g (aE s) w):∀{ts:L Ty}{l:L (V S)}{vals:L az}{x:lB S.A ts}{fz:L Nat},zM s ts l=Z (x,fz)->PW (aH g w) (bu l) vals->
  (∀o∈fz,Live g (aE s) o)/\∀(k:Gh)(s1:St)(e:L Nat),aY k s1 w->Ext s.fl g w k w->jl (aE s) s1 e->(∀o∈fz,o∈e)->∃B:Nat->Prop,(∀b,B b->b<w.heap.size)/\∀I:Nat->Prop,(∀b,k.bp b\/B b->I b)->PW (dF I w) (eS S ts x) vals
 |[],[],vals,x,fz,h,A=>by simp only[zM,gC,fc]at h;obtain⟨_,rfl⟩:=h;exact⟨λo r=>(by cases r),λ_ _ _ _ _ _ _=>⟨λ_=>False,λ_ h=>h.elim,λ_ _=>⟨by have:=A.1;simpa[bu,eS]using this,λj d v h=>by simp[eS]at h⟩⟩⟩
 |[],_::_,_,_,_,h,_=>by simp[zM]at h
 |_::_,[],_,_,_,h,_=>by simp[zM]at h
 |t::ts,v::l,[],x,fz,_,A=>absurd A.1 (by simp[bu])
 |t::ts,v::l,val::vals,x,fz,h,A=>by
  simp only[zM]at h;split at h;rotate_left;cases h;rename_i y os y2 os2 h1 h2;simp only[gC,fc]at h;obtain⟨rfl,rfl⟩:=h;have E:aH g w (low v) val:=A.2 0 _ _ rfl rfl;have R:PW (aH g w) (bu l) vals:=⟨by have:=A.1;simpa[bu]using this,λj a b k1 k2=>A.2 (j+1) a b (by simpa[bu]using k1) (by simpa using k2)⟩;obtain⟨q3,q4⟩:=Ci Q hs h2 R;have one:(∀o∈os,Live g (aE s) o)/\∀(k:Gh)(s1:St)(e:L Nat),aY k s1 w->Ext s.fl g w k w->jl (aE s) s1 e->(∀o∈os,o∈e)->∃B:Nat->Prop,(∀b,B b->b<w.heap.size)/\∀I:Nat->Prop,(∀b,k.bp b\/B b->I b)->dF I w (enc S t y) val:=by
   unfold ahf at h1;split at h1
   .rename_i u o _;split at h1;rotate_left;cases h1;rename_i m l9;split at h1;rotate_left;cases h1;rename_i hm;obtain⟨rfl,rfl,hmm⟩:=Ga hm;cases hmm;simp only[gC,fc]at h1;obtain⟨rfl,rfl⟩:=h1;obtain⟨b,rfl,i⟩:∃b,val=.map (Z b)/\g.bP o=Z b:=by cases E with|mp _ b i=>exact⟨b,rfl,i⟩
    obtain⟨x0,hh,F⟩:=(hs.box o b i).2.2 _ (by rw[aK,l9];rfl);cases F with
    |map _ ms c hl F=>
    refine⟨λo r=>(by cases r),λk s1 e n C K f=>⟨λb'=>b'=b,λb' hb'=>hb'▸(hs.box o b i).2.1,λI z=>?_⟩⟩;have key:∀(j:Nat)p q,m[j]?=Z p->ms[j]?=Z q->dF I w (enc S _ p.1) q.key/\dF I w (enc S _ p.2) q.val:=λj p q h1 h2=>by obtain⟨k1,k2⟩:=F j _ q (by rw[kF,h1];rfl) h2;exact⟨(Ds Q (k1.ext C hs.bp)).le λb i=>z b (.inl i),(Ds Q (k2.ext C hs.bp)).le λb i=>z b (.inl i)⟩
    refine .mp _ _ b ms c (z b (.inr rfl)) hh (by simpa using hl) (by simpa using hl) (λj d q h1 h2=>?_) (λj d q h1 h2=>?_);simp only[kF,fG]at h1;obtain⟨p,P,rfl⟩:=h1;exact(key j p q P h2).1;simp only[kF,fG]at h1;obtain⟨p,P,rfl⟩:=h1;exact(key j p q P h2).2
   obtain⟨p,hd,P⟩:=pR Q s t v h1;obtain⟨q1,q2⟩:=lJ hs (low v) hd P E;exact⟨q1,λk s1 e n C K f=>⟨λ_=>False,λ_ h=>h.elim,λI z=>(q2 k s1 n C (K.sub f)).le λb i=>z b (.inl i)⟩⟩
  refine⟨λo r=>(eN.1 r).elim (one.1 o) (q3 o),λk s1 e n C K f=>?_⟩;obtain⟨B,hB,F⟩:=q4 k s1 e n C K (λo r=>f o (kz _ r));obtain⟨B',hB',hr'⟩:=one.2 k s1 e n C K (λo r=>f o (eL _ r));refine⟨λb=>B b\/B' b,λb i=>i.elim (hB b) (hB' b),λI z=>?_⟩;have a1:=F I λb i=>z b (i.imp id .inl);have a2:=hr' I λb i=>z b (i.imp id .inr);refine⟨by simp[eS,a1.1],λj d u h1 h2=>?_⟩;cases j with|zero=>simp[eS]at h1 h2;subst h1;subst h2;exact a2|succ j=>exact a1.2 j d u (by simpa[eS]using h1) (by simpa using h2)
def tR(hS:eZ S){g:Gh}{w:av}{s:bf S}(hs:aY g (aE s) w):∀{ps:L Pk}{l:L (V S)}{vals:L az}{x:fI S.A ps}{fz:L Nat},lu s ps l=Z (x,fz)->PW (aH g w) (bu l) vals->
  (∀o∈fz,Live g (aE s) o)/\∀(q:Gh)(s1:St)(f:L Nat),aY q s1 w->Ext s.fl g w q w->jl (aE s) s1 f->(∀o∈fz,o∈f)->∃B:Nat->Prop,(∀b,B b->b<w.heap.size)/\∀I:Nat->Prop,(∀b,q.bp b\/B b->I b)->qI S I w ps x vals [] []
 |[],[],vals,x,fz,h,m=>by obtain⟨_,rfl⟩:=h;have:vals=[]:=Da (by have:=m.1;simpa[bu]using this.symm);subst this;exact⟨λo i=>(by cases i),λ_ _ _ _ _ _ _=>⟨λ_=>False,λ_ h=>h.elim,λ_ _=>.nil⟩⟩
 |[],_::_,_,_,_,h,_=>by simp[lu]at h
 |.one c::_,[],_,_,_,h,_=>by cases c<;>simp[lu]at h
 |.box _::_,[],_,_,_,h,_=>by simp[lu]at h
 |.hid _::_,[],_,_,_,h,_=>by simp[lu]at h
 |.box _::_,_::_,_,_,_,h,_=>by simp[lu]at h
 |.hid _::_,_::_,_,_,_,h,_=>by simp[lu]at h
 |.one (.own _)::_,_::_,_,_,_,h,_=>by simp[lu]at h
 |.one (.jQ ..)::_,_::_,_,_,_,h,_=>by simp[lu]at h
 |.one (.nil _)::_,_::_,_,_,_,h,_=>by simp[lu]at h
 |.one (.dat t)::ps,v::l,[],x,fz,_,m=>absurd m.1 (by simp[bu])
 |.one (.ptr t)::ps,v::l,[],x,fz,_,m=>absurd m.1 (by simp[bu])
 |.one (.dat t)::ps,v::l,val::vals,x,fz,h,m=>by
  simp[lu]at h;split at h;rotate_left;cases h;rename_i y os y2 os2 h1 h2;obtain⟨rfl,rfl⟩:=h;have E:aH g w (low v) val:=m.2 0 _ _ rfl rfl;have P:PW (aH g w) (bu l) vals:=⟨by have:=m.1;simpa[bu]using this,λj a b k1 k2=>m.2 (j+1) a b (by simpa[bu]using k1) (by simpa using k2)⟩
  let ⟨p,hd,hp⟩:=pR hS s t v h1
  let ⟨q1,q2⟩:=lJ hs (low v) hd hp E
  let ⟨q3,q4⟩:=tR hS hs h2 P
  refine⟨λo i=>(eN.1 i).elim (q1 o) (q3 o),λq s1 f k F Q d=>?_⟩
  let ⟨B,hB,hr⟩:=q4 q s1 f k F Q (λo i=>d o (kz _ i))
  have hx:=q2 q s1 k F (Q.sub λo i=>d o (eL _ i));exact⟨B,hB,λI z=>qI.one (al:=[]) (.dat (hx.le λb hb=>z b (.inl hb)) .nil) (hr I z)⟩
 |.one (.ptr t)::ps,v::l,val::vals,x,fz,h,m=>by
  simp[lu]at h;split at h;rotate_left;cases h;rename_i h1 h2;obtain⟨rfl,rfl⟩:=h;have E:aH g w (low v) val:=m.2 0 _ _ rfl rfl;have P:PW (aH g w) (bu l) vals:=⟨by have:=m.1;simpa[bu]using this,λj a b k1 k2=>m.2 (j+1) a b (by simpa[bu]using k1) (by simpa using k2)⟩
  let ⟨q3,q4⟩:=tR hS hs h2 P
  unfold acT at h1;split at h1
  .split at h1;rotate_left;cases h1;rename_i hz;obtain⟨rfl,rfl⟩:=h1;obtain⟨rfl,hz⟩:=I0 hz;cases hz;cases E with
   |lD _ _ ad vv hi hc hd=>
   refine⟨λo i=>q3 o (by simpa using i),λq s1 f k F Q d=>?_⟩
   let ⟨B,hB,hr⟩:=q4 q s1 f k F Q (λo i=>d o (by simpa using i))
   exact⟨B,hB,λI z=>qI.one (al:=[]) (.ptr (z _ (.inl (F.bp _ hi))) hc (λj c A=>(hd j c A).le λb hb=>z _ (.inl (F.bp _ hb))) .nil) (hr I z)⟩
  .rename_i o;split at h1;rotate_left;cases h1;rename_i cs i;cases E with
   |ptr _ _ b hb=>
   have ho':(aE s).ob.get o=Z (.box (bu cs)):=by rw[aK,i];rfl
   let ⟨vs,ty,IF,hl,R⟩:=(hs.box o b hb).box ho'
   obtain⟨n,rfl⟩:∃n,t=Ty.st n:=by cases t<;>first|exact⟨_,rfl⟩|simp only[ad7,reduceCtorEq]at h1
   simp only[ad7]at h1;obtain⟨⟨yh,os1⟩,K⟩:∃r,zM s (S.fs n) cs=Z r:=by
    cases K:zM s (S.fs n) cs with
    |none=>rw[K]at h1;cases h1
    |some r=>exact⟨r,rfl⟩
   rw[K]at h1;simp only[gC,fc]at h1;obtain⟨rfl,rfl⟩:=h1
   let ⟨q1,q2⟩:=Ci hS hs K (vals:=vs.toList) ⟨by simpa using hl,λj t v h1 h2=>R j t v h1 (by simpa using h2)⟩
   refine⟨λo i=>(eN.1 i).elim (q1 o) (q3 o),λq s1 f k F Q d=>?_⟩
   let ⟨B,hB,hr⟩:=q4 q s1 f k F Q (λo i=>d o (kz _ i))
   let ⟨B',hB',hx⟩:=q2 q s1 f k F Q (λo i=>d o (eL _ i))
   refine⟨λC=>B C\/(C=b\/B' C),λC u=>u.elim (hB C) λe=>e.elim (λe=>by grind) (hB' C),λI z=>qI.one (al:=[]) ?_ (hr I λC u=>z C (u.imp id .inl))⟩;have hx:=hx I λC u=>z C (u.imp id λh=>.inr (.inr h));have hl':enc S (.st n) (S.DC n yh)=.agg (eS S (S.fs n) yh):=by show D.agg (S.cells n (S.DC n yh))=_;rw[hS.cells,hS.rU]
   have afh:∀j,(⟨b,0,Y⟩:Addr).add j=⟨b,j,Y⟩:=λj=>by
    grind[Addr.add]
   have hlen:(eS S (S.fs n) yh).length=vs.size:=by simpa using hx.1
   have:=jw.ptr (S:=S) (I:=I) (w:=w) (t:=.st n) (cs:=[]) (x:=S.DC n yh) (h:=()) (ad:=⟨b,0,Y⟩) (val:=λj=>(vs[j]?).getD undef) (vs:=[]) (al:=[]) (z _ (.inr (.inr (.inl rfl)))) (λj c A=>?_) (λj c A=>?_) .nil
   simp_all
   rw[hl']at A;have A:(eS S (S.fs n) yh)[j]?=Z c:=A
   grind[cell?_of_block]
   rw[hl']at A;have A:(eS S (S.fs n) yh)[j]?=Z c:=A;have hlt:j<vs.size:=by grind
   rw[tO hlt];exact hx.2 j c vs[j] A (by simp[hlt])
  cases h1
def CJ(hS:eZ S){P:cP}{f:FuncId}{c:kD S}(UB:bz P f c)(hs:aY g (aE s) w){args:L (V S)}{vs:Array az}(oX:PW (aH g w) (bu args) vs.toList)
  {ω:Type} {kp:V S->bf S->O ω} {k:V S->bf S->L Nat->O ω} {res:ω} (h:No s c args kp k=Z res) :
  lH P f/\Calls P f vs w λ
   |.returned v,w'=>∃t s' g' A,k t s' A=Z res/\aH g' w' (low t) v/\cO A s g w s' g' w'|.panicked ch,w'=>∃v t s' g',ch=[{v,recovered:=J}]/\kp t s'=Z res/\aH g' w' (low t) v/\cO [] s g w s' g' w'|.outgrown,_=>False:=by
 unfold No at h;obtain⟨_,h0⟩|⟨_,h0⟩:=ah h
 .clear h;obtain⟨hc,h1⟩|⟨_,h1⟩:=ah h0
  rotate_left;cases h1;clear h0;simp only[eM]at hc;split at h1;cases h1;rename_i x fz hpk;split at h1;cases h1;rename_i Q hfz
  let ⟨p1,p2⟩:=tR hS hs hpk oX
  let ⟨z,q,C,hfr⟩:=ew fz hs (dw hS _ hfz) p1
  let ⟨B,hB,E⟩:=p2 z (aE Q) fz q C hfr (λo u=>u)
  let ⟨r0,hF,h2⟩:=iQ h1
  split at h2;rotate_left;cases h2;rename_i r hr;refine⟨UB.1,(UB.2 x r0 hF (λb=>z.bp b\/B b) w vs [] [] (E _ λ_ h=>h) (λb l=>l.elim (q.bp b) (hB b)) .nil .nil (λb l=>by cases l)).mono λe w' he=>?_⟩;rw[hr]at he;cases e with
  |outgrown=>exact he.elim|panicked ch=>exact he.elim|returned v=>
   obtain⟨I',vr,CU,AS,q1,q2,q3,q4,q5,q6,q7,rfl,q8,q9,_⟩:=he;have IF:∀b,b<w.heap.size->w'.heap[b]?=w.heap[b]?:=λb l=>q5 b l (by simp) (by simp)
   let ⟨hs',he'⟩:=hs.grow (fl:=s.fl) (I:=g.bp) (w':=w') (λ_ h=>h) (λ_ h=>.inl h) (λb l=>iE (hs.bp b l) q4) q4 IF q6 q7
   exact⟨_,s,g,[],h2,zp (xb hc.2.1 q9),hs',he'.Hi _,rfl,rfl,cM _,λ_ h=>h,λ_ _ _=>rfl,λt v ht _=>ht.ext he' hs.bp,λo u=>(by cases u),λ_ h=>h,λo u=>(by cases u)⟩
 clear h;have h:=h0;clear h0;split at h;cases h;rename_i x fz A bs hpk;split at h;cases h;rename_i Q hfz;obtain⟨XL,h2⟩|⟨_,h⟩:=ah h
 .let ⟨p1,_,_,p3⟩:=j8 hS hs hpk oX (λo u=>by cases u)
  let ⟨z,q,C,hfr⟩:=ew fz hs (dw hS _ hfz) p1
  simp only[Xg,eM]at XL
  let ⟨f1,f2,f3,f4,f5,f6,f7⟩:=eD hfz
  let ⟨al,bl,E,_,_⟩:=p3 z (aE Q) fz q C hfr (λo u=>u) (λo u=>by grind[Cs])
  obtain⟨rfl,rfl⟩:=E.ap9 XL.1;clear h
  let ⟨r0,hF,h2⟩:=iQ h2
  split at h2;rotate_left;cases h2;rename_i r hr;refine⟨UB.1,(UB.2 x r0 hF z.bp w vs [] [] E q.bp .nil .nil (λb l=>by cases l)).mono λe w' he=>?_⟩;rw[hr]at he;cases e with
  |outgrown=>exact he.elim|panicked ch=>exact he.elim|returned v=>
   obtain⟨I',vr,CU,AS,q1,q2,q3,q4,q5,q6,q7,rfl,q8,q9,_⟩:=he;have IF:∀b,b<w.heap.size->w'.heap[b]?=w.heap[b]?:=λb l=>q5 b l (by simp) (by simp)
   let ⟨hs',he'⟩:=hs.grow (fl:=s.fl) (I:=g.bp) (w':=w') (λ_ h=>h) (λ_ h=>.inl h) (λb l=>iE (hs.bp b l) q4) q4 IF q6 q7
   refine⟨_,s,g,[],h2,zp (xb XL.2.1 q9),hs',he'.Hi _,rfl,rfl,cM _,λ_ h=>h,λ_ _ _=>rfl,λt v ht _=>ht.ext he' hs.bp,λo u=>(by cases u),λ_ h=>h,λo u=>(by cases u)⟩
 obtain⟨l,h2⟩|⟨_,h2⟩:=ah h
 rotate_left;cases h2;clear h;simp at l;have Ht:=lA l.1;have aoK:=lA l.2.1;have hap:=zb l.2.2;unfold ai at h2;split at h2;rotate_left;cases h2;rename_i r hF;dsimp only at h2
 let ⟨p1,p2,p4,p3⟩:=j8 hS hs hpk oX (λo u=>by cases u)
 have hfl:=dw hS _ hfz
 let ⟨z,q,C,hfr⟩:=ew fz hs hfl p1
 let ⟨f1,f2,f3,f4,f5,f6,f7⟩:=eD hfz
 let ⟨al,bl,E,hal,Oq⟩:=p3 z (aE Q) fz q C hfr (λo u=>u) (λo u=>by rw[aK,aK,f6 o (hap o u)])
 have adf:∀o∈bs,∃ob,Q.ob.get o=Z ob/\jz ob=W:=by
  intro o u
  let ⟨_,ZY,hvs,MS⟩:=p4 o u
  have hnf:o∉fz:=λhm=>by
   have:=(p1 o hm).nP (by rw[aK,hvs];rfl)
   grind[nJ]
  simp_all
 have XJ:∀o∈bs,∀e,z.arr o e=Y:=by
  intro o u e
  let ⟨vs',hvs,MS⟩:=adf o u
  cases hx:z.arr o e with
  |none=>rfl|some x'=>
   exfalso
   let ⟨_,h2⟩:=q.arr o e x' hx
   exact zO MS (h2 _ (by rw[aK,hvs];rfl))
 have hni:∀a∈al,∀b,a.at b->¬z.bp b:=E.iy;have Dg:=hal.owned hni;have ajx:=hal.apart q Ht hni;have ae8:∀b∈bl,∃o∈bs,z.bP o=Z b:=by
  intro b l;obtain⟨j,hj,rfl⟩:=p8 l;have hj':j<bs.length:=by have:=Oq.1;omega
  exact⟨bs[j],JM hj',Oq.2 j _ _ (iu hj') (iu hj)⟩
 have UC:∀o∈bs,∃b∈bl,z.bP o=Z b:=by
  intro o u;obtain⟨j,hj,rfl⟩:=p8 u;have hj':j<bl.length:=by have:=Oq.1;omega
  exact⟨bl[j],JM hj',Oq.2 j _ _ (iu hj) (iu hj')⟩
 have hOb:∀o b,z.bP o=Z b->bx z o b:=λo b h=>⟨(q.box o b h).1,.inl h⟩;have abF:bl.Nodup:=by
  refine TS.2 λi j hi hj hij heq=>?_;have hlen:=Oq.1;have hi':i<bs.length:=by omega
  have hj':j<bs.length:=by omega
  have e1:=Oq.2 i _ _ (iu hi') (iu hi);have e2:=Oq.2 j _ _ (iu hj') (iu hj);rw[<-heq]at e2;exact(TS.1 aoK i j hi' hj' hij) (q.jF _ _ _ (hOb _ _ e1) (hOb _ _ e2))
 have afa:∀b∈bl,b<w.heap.size/\¬z.bp b/\∀a∈al,¬a.at b:=by
  intro b l
  let ⟨o,u,l9⟩:=ae8 b l
  refine⟨(q.box o b l9).2.1,(q.box o b l9).1,λa R De=>?_⟩
  let ⟨o',ho',UG⟩:=Dg a R b De
  have:=q.jF o o' b (hOb o b l9) UG;subst this
  let ⟨vs',hvs,MS⟩:=adf o u
  let ⟨_,_,_,oba,aoA,hB⟩:=p2 o ho'
  rw[f6 o (hap o ho')]at hvs;rw[aoA]at hvs;cases hvs;have:=ur hB
  grind[nJ]
 have core:∀(rs:L Ck)(r:fU S.A rs×gQ S.A c.ps)(s2:bf S),lM (xV bs (forget A {Q with wr:=A++Q.wr,dr:=A++Q.dr})) c.ps bs r.2=Z s2->(g9 s2 rs r.1).2.aF<=bD->∀(v:az)(w':av),DU S z.bp w c.ps rs r al bl v w'->
   ∃g',aH g' w' (low (CZ (g9 s2 rs r.1).1)) v/\cO A s g w (g9 s2 rs r.1).2 g' w':=by
  clear h2;intro rs r s2 hput aoQ v w' he;obtain⟨I',vr,CU,AS,q1,q2,q3,q4,q5,q6,q7,rfl,q8,q9,q10,q11,q12⟩:=he
  let sF:bf S:=forget A {Q with wr:=A++Q.wr,dr:=A++Q.dr}
  let sD:bf S:=xV bs sF
  let ⟨t1,t2,t3,t5,t4⟩:=UL A {Q with wr:=A++Q.wr,dr:=A++Q.dr}
  have aeL:aY z (aE {Q with wr:=A++Q.wr,dr:=A++Q.dr}) w:=q;have hsF:aY (z.drop A) (aE sF) w:=Nc A aeL;have hbsn:∀o∈bs,o<Q.aF:=λo u=>by
   let ⟨b,_,l⟩:=UC o u
   exact q.lt l
  have hnob1:Q.aF<=bD:=q.aF;have aja:∀o,sD.ob.get o=if o∈bs then Y else sF.ob.get o:=λo=>Tr.nT bs _ o (λb l=>by grind)
  have hsD:aY (z.drop A) (aE sD) w:=by
   have hsub:∀o ob,(aE sD).ob.get o=Z ob->(aE sF).ob.get o=Z ob:=by
    grind[aK]
   refine⟨hsF.aF,hsF.ai,λo b h=>?_,λo e x h=>?_,hsF.bp,hsF.jF⟩
   let ⟨k1,k2,k3⟩:=hsF.box o b h
   exact⟨k1,k2,λob l9=>k3 ob (hsub o ob l9)⟩
   let ⟨k1,k2⟩:=hsF.arr o e x h
   exact⟨k1,λob l9=>k2 ob (hsub o ob l9)⟩
  let X:Nat->Prop:=λb=>b∈bl\/∃a∈al,a.at b
  have Pz:∀o b,bx (z.drop A) o b->bx z o b:=λo b h=>Gh.yX h;have halno:∀a∈al,∀b,a.at b->∀o,¬bx (z.drop A) o b:=by
   intro a R b l o F
   let ⟨o',ho',UG⟩:=Dg a R b l
   have:=q.jF o o' b (Pz o b F) UG;subst this;obtain⟨_,h|⟨e,x',ad,h,_⟩⟩:=F;have h:z.bP o=Z b:=h
   let ⟨_,_,_,oba,l9,hB⟩:=p2 o ho'
   have hnb:=q.zV (o:=o) (ob:=cX oba) ((aK Q o).trans (by simp_all)) (ur hB)
   simp_all
   exact(Gh.FR h).1 ho'
  have hstep:aY {z.drop A with bp:=I'} (aE sD) w':=by
   refine hsD.step (X:=X) q1 (λb l=>?_) q3 q4 (λb l hX=>q5 b l (λh=>hX (.inl h)) (λa R h=>hX (.inr ⟨a,R,h⟩))) (λo b hX F=>?_) (λb hX=>?_);obtain h|h|h:=q2 b l
   exact .inl h;omega
   grind
   obtain hX|⟨a,R,K⟩:=hX
   let ⟨o',ho',aoC⟩:=ae8 b hX
   have:=q.jF o o' b (Pz o b F) (hOb _ _ aoC)
   simp_all[aK]
   grind
   obtain hX|⟨a,R,K⟩:=hX
   exact(afa b hX).2.1;exact hni a R b K
  have ac7:∀o b,bx ({z.drop A with bp:=I'}:Gh) o b->bx (z.drop A) o b:=λo b h=>⟨λhi=>h.1 (q1 b hi),h.2⟩;have hfresh:∀a∈CU++AS,∀b,a.at b->∀o,¬bx ({z.drop A with bp:=I'}:Gh) o b:=by
   intro a R b l o F;have F:=ac7 o b F;obtain⟨a',ha',hb'⟩|hge:=q11 a R b l
   grind
   have:=(hsD.qU F).1;omega
  have ajw:=tM.1 q10;have hs3n:s2.aF<=(g9 s2 rs r.1).2.aF:=nF _ _ _
  let ⟨g4,hp⟩:=Mp (g:={z.drop A with bp:=I'}) (s:=sD) q8 hstep Oq (λo u e=>by
    show(if o∈A then Y else z.arr o e)=Y
    simp_all) (λa R=>hfresh a (eL _ R)) ajw.1 hput (by omega)
  obtain⟨g5,hu,aos⟩:=mW (g:=g4) (by rw[hp.bp];exact q9) hp.rel (λa R b l o F=>by
    obtain F|⟨_,a2,ha2,oY⟩:=hp.own o b F
    grind
    grind) ajw.2.1 aoQ
  have hle:mH ({z.drop A with bp:=I'}:Gh) g5:=hp.le.trans hu.le;have adb:g5.bp=I':=hu.bp.trans hp.bp;have hnobD:sD.aF=Q.aF:=t3;have aoF:Q.aF<=(g9 s2 rs r.1).2.aF:=by have:=hp.aF;omega
  have hown5:∀k b,bx g5 k b->bx g k b\/(s.fl<=k/\∃o',s.fl<=o'/\bx g o' b)\/w.heap.size<=b:=by
   intro k b F;have hnewk:∀a∈CU++AS,a.at b->Q.aF<=k->bx g k b\/(s.fl<=k/\∃o',s.fl<=o'/\bx g o' b)\/w.heap.size<=b:=by
    intro a R K hk';obtain⟨a',ha',hb'⟩|hge:=q11 a R b K
    let ⟨o',ho',UG⟩:=Dg a' ha' b hb'
    obtain UG|hge:=C.own o' b UG
    grind
    omega;omega
   obtain F|⟨h1,a,R,K⟩:=hu.own k b F
   obtain F|⟨h1,a,R,K⟩:=hp.own k b F
   obtain F|hge:=C.own k b (Pz k b (ac7 k b F))
   exact .inl F;omega
   grind
   have:=hp.aF
   grind
  refine⟨g5,zp aos,hu.rel,⟨λo b l=>?_,λo e y hl hy=>?_,λb l=>?_,q4,λb l hno=>?_,λo b u F=>?_,λb l=>?_,q6,q7⟩,?_,?_,?_,λo u=>?_,λo hl u=>?_,λt v ht hm=>?_,λo u=>?_,λo u=>?_,λo u=>?_⟩;rw[hu.bP,hp.bP];exact C.bP o b l;have hno:o∉A:=λhm=>by grind
  have h1:({z.drop A with bp:=I'}:Gh).arr o e=Z y:=by show(if o∈A then Y else z.arr o e)=Z y;rw[cm hno];exact C.arr o e y hy
  exact hle.arr o e y h1;rw[adb];exact q1 b (C.bp b l);refine q5 b l (λhm=>?_) (λa R K=>?_)
  let ⟨o,u,l9⟩:=ae8 b hm
  obtain F|hge:=C.own o b (hOb o b l9)
  simp_all
  omega
  let ⟨o,u,F⟩:=Dg a R b K
  obtain F|hge:=C.own o b F
  simp_all
  omega
  grind
  rw[adb]at l;obtain h|h|⟨a,R,K⟩:=q2 b l
  exact C.nQ b h;omega
  let ⟨o,u,F⟩:=Dg a R b K
  obtain F|hge:=C.own o b F
  grind
  omega;exact hu.fl.trans (hp.fl.trans (t1.trans f1));exact hu.lo.trans (hp.lo.trans (t2.trans f2));omega;rw[hu.wr];exact hp.tw o (t4 o (kz _ (f4 o u)));rw[hu.wr]at u;have h1:o∉bs:=λhm=>u (hp.wrb o hm);have h2:o∉sF.wr:=λhm=>u (hp.tw o hm);have h3:o∉Q.wr:=λhm=>h2 (t4 o (kz _ hm));rw[hu.ob o (by have:=hp.aF;omega),hp.ob o (by omega) h1,aja,cm h1,Nb _ _ _ h2];exact f5 o h3;have h1:=ht.ext C hs.bp;have h2:=h1.drop hm;have hkp:jE (z.drop A).bp w w':=λb l=>q5 b (q.bp b l) (λhmm=>(afa b hmm).2.1 l) (λa R K=>hni a R b K l);have h3:aH ({z.drop A with bp:=I'}:Gh) w' t v:=by
   clear hm h1 ht
   induction h2 with|sym d v hd=>exact .sym d v (hd.mono hkp q1)|kb b=>exact .kb b|kn k n=>exact .kn k n|ptr o off b l=>exact .ptr o off b l|lD d off ad val Uw hc hd=>exact .lD d off ad val (q1 _ Uw) (λj c hj=>by rw[hkp.cell (by rw[kq];exact Uw)];grind) (λj c hj=>(hd j c hj).mono hkp q1)|lC o e i off len cap sz ad hx=>exact .lC o e i off len cap sz ad hx|sh o e len cap sz a hx=>exact .sh o e len cap sz a hx|emp a=>exact .emp a|j4 n es a hn hd=>exact .j4 n es a hn (hd.mono hkp q1)|fn f fs cs va vc hl hm _ _ ih ih'=>exact .fn f fs cs va vc hl hm ih ih'|de t x v _ ih=>exact .de t x v ih|agg cs vs hl _ ih=>exact .agg cs vs hl ih|gG cs vs hl _ ih=>exact .gG cs vs hl ih|gd c t v _ ih=>exact .gd c t v ih|mp o b l=>exact .mp o b l|qN o b l=>exact .qN o b l|tD o b l=>exact .tD o b l|ub e b h=>exact .ub e b h|rQ o m r i len cap sz a hx=>exact .rQ o m r i len cap sz a hx|o6 j d c a hj hd=>exact .o6 j d c a hj (hd.mono hkp q1)
  exact h3.le hle;rw[hu.wr];exact hp.tw o (t4 o (eL _ u));rw[hu.dr,hp.dr];show o∈sF.dr
  grind
  rw[hu.dr,hp.dr];show o∈sF.dr
  grind
 refine⟨UB.1,(UB.2 x r hF z.bp w vs al bl E q.bp ajx abF afa).mono λe w' he=>?_⟩;cases e with
 |outgrown=>exact he.elim|returned v=>
  simp[xk]at he;split at he;rotate_left;exact he.elim;rename_i hr';rw[hr']at h2;dsimp only at h2;split at h2;cases h2;rename_i s2 hput;obtain⟨hlt,hk⟩|⟨_,hk⟩:=ah h2
  rotate_left;cases hk
  grind[Nat.le_of_ble_eq_true]
 |panicked ch=>
  simp[xk]at he;split at he;exact he.elim;rename_i p hp;obtain⟨v,rfl,he⟩:=he;rw[hp]at h2;dsimp only at h2;split at h2;cases h2;rename_i s2 hput;split at h2;rotate_left;cases h2;obtain⟨hlt,hk⟩|⟨_,hk⟩:=ah h2
  rotate_left;cases hk
  let ⟨g5,k1,k2⟩:=core [.dat S.pt] ((p.1,()),p.2) s2 hput (gH hlt) v w' he
  exact⟨v,_,_,g5,rfl,hk,k1,k2⟩
end
section
structure qJ(s s':bf S):Prop where
 tw:∀o∈s.wr,o∈s'.wr
 same:∀o,o<s.aF->o∉s'.wr->s'.ob.get o=s.ob.get o
 dr:s'.dr=s.dr
theorem qJ.refl(s:bf S):qJ s s:=⟨λ_ h=>h,λ_ _ _=>rfl,rfl⟩
variable {s s':bf S}{v:V S}{c:aa}{E:fN}
def cO.kA{g g':Gh}{w w':av}(hs:aY g (aE s) w)(h1:aY g' (aE s') w')(h2:Ext s.fl g w g' w')(h3:s'.fl=s.fl)(h4:s'.lo=s.lo)(h5:s.aF<=s'.aF)(h6:qJ s s'):cO [] s g w s' g' w':=
 ⟨h1,h2.Hi _,h3,h4,h5,h6.tw,h6.same,λ_ _ b _=>b.ext h2 hs.bp,λo a=>(by cases a),λo a=>h6.dr▸a,λo a=>(by cases a)⟩
theorem cO.refl{g:Gh}{w:av}{s:bf S}(hs:aY g (aE s) w):cO [] s g w s g w:=
 cO.kA hs hs (Ext.refl _ _ _) rfl rfl (cM _) (qJ.refl _)
def je(s:bf S)(ob:uz S)(hn:s.aF<bD):qJ s (dh s ob):=
 ⟨λ_ h=>h,λo a _=>by simp[dh];rw[Tr.aV _ _ _ _ hn,cm (by omega)],rfl⟩
def lX{os:L Nat}(h:dS s os=Z s'):qJ s s':=by
 let ⟨_,_,_,h1,h2,_,h3⟩:=eD h
 exact⟨h1,λo _ a=>h2 o a,h3⟩
def oM(s:bf S)(o:Nat)(ob:uz S):qJ s {s with ob:=s.ob.set aO o ob,wr:=o::s.wr}:=
 ⟨λ_ h=>hJ _ h,λk _ a=>Tr.dy _ _ _ _ _ (λe=>a (by simp_all)),rfl⟩
def qJ.trans'{a:bf S}(h:qJ s s')(hn:s.aF<=s'.aF)(k:qJ s' a):qJ s a:=
 ⟨λo c=>k.tw o (h.tw o c),λo c b=>(k.same o (iE c hn) b).trans (h.same o c (λd=>b (k.tw o d))),k.dr.trans h.dr⟩
theorem Oz{i:TI}{s s':bf S}{a x v:V S}{c:aa}(h:Ei i s a x=Z (c,v,s')):qJ s s':=by
 unfold Ei at h;split at h;cases h;split at h;split at h;obtain⟨_,h⟩|⟨_,h⟩:=ah h
 obtain⟨_,_,rfl⟩:=h;exact oM _ _ _;cases h;cases h;(iterate 3 split at h);rename_i b;split at h;split at h;obtain⟨_,h⟩|⟨_,h⟩:=ah h
 obtain⟨_,_,rfl⟩:=h;exact(lX b).trans' (Cm (eD b).2.2.1.symm) (oM _ _ _);iterate 7 cases h
def En{i:TI}{τ:O Ty}{x:V S}{l h m:O (V S)}(a:vo i τ s x l h m=Z (c,v,s')):s'=s\/dS s (Mw x)=Z s':=by
 unfold vo at a
 repeat' split at a
 all_goals first
  |(cases a;done)
  |(
    simp only[gC,fc]at a;obtain⟨_,_,rfl⟩:=a;first|exact .inl rfl|(right;assumption))
def WV{fr:bV S}{o:Op}(h:cG E fr s o=Z (c,v,s')):qJ s s':=by
 have same:s'=s->qJ s s':=λe=>e▸qJ.refl _;cases o with
 |alloc t=>
  simp[cG]at h;split at h;obtain⟨g,h⟩|⟨_,h⟩:=ah h
  obtain⟨_,_,rfl⟩:=h
  simp_all[je]
  cases h;cases h
 |box t x=>
  simp[cG]at h;split at h;obtain⟨g,h⟩|⟨_,h⟩:=ah h
  simp only[fG,fc]at h;obtain⟨_,_,_,_,rfl⟩:=h
  simp_all[je]
  cases h;cases h
 |buildSlice t n i=>
  simp only[cG]at h;split at h;split at h;obtain⟨_,h⟩|⟨_,h⟩:=ah h
  split at h;simp only[fG,fc]at h;obtain⟨j,d,_,_,rfl⟩:=h;exact lX d;iterate 4 cases h
 |store t x y=>
  grind[cG,Oz]
 |slice t x lo l m=>
  simp[cG]at h;split at h;obtain rfl|h:=En h
  grind
  exact lX h;cases h
 |move x=>simp only[cG,fG,fc]at h;grind|assign x=>simp only[cG,fG,fc]at h;grind|pick x y z=>
  simp[cG]at h;split at h;simp only[fG,fc]at h
  grind
  cases h
 |build t i=>
  simp[cG]at h;split at h;split at h;simp only[fG,fc]at h
  grind
  cases h;cases h
 |load t x=>
  simp[cG]at h;split at h;unfold xR at h;split at h;split at h;obtain⟨_,h⟩|⟨_,h⟩:=ah h
  simp only[fG,fc]at h
  grind
  cases h;cases h;simp only[fG,fc]at h
  grind
  split at h;simp at h
  grind
  iterate 3 cases h
 |nilCheck x=>
  simp[cG]at h
  grind
 |binOp op t x y u=>
  simp[cG]at h;split at h;simp only[fG,fc]at h
  grind
  cases h
 |unOp op t x=>
  simp[cG]at h;split at h;simp only[fG,fc]at h
  grind
  cases h
 |convert t u x=>
  grind[cG,BB]
 |makeInterface t x=>
  simp[cG]at h
  grind
 |makeFunc f a b=>
  simp[cG]at h
  grind
 |extract x k=>
  grind[cG,ud]
 |fieldAddr t x k=>
  grind[cG,qx]
 |field t x k=>
  simp[cG]at h;split at h;unfold Bv at h;split at h;split at h;obtain⟨_,h⟩|⟨_,h⟩:=ah h
  simp only[fG,fc]at h
  grind
  iterate 4 cases h
 |indexAddr t x y=>
  simp[cG]at h;split at h;unfold jS at h;split at h
  grind
  have:=CS h
  grind
  cases h;cases h
 |index t x y=>
  simp[cG]at h;split at h;unfold Bn at h
  grind
  cases h
 |typeAssert x t u ok=>
  grind[cG,wA]
 |_=>simp[cG]at h
def HB{b:Builtin}{d:Array TypeId}{args:L (V S)}(h:g8 E s b d args=Z (c,v,s')):qJ s s':=by
 unfold g8 at h;(iterate 3 split at h);obtain⟨_,_,rfl⟩:=h;exact qJ.refl _;cases h;split at h;simp only[fG,fc]at h;obtain⟨_,_,_,_,rfl⟩:=h;exact qJ.refl _;cases h;cases h;(iterate 3 split at h);obtain⟨_,h⟩|⟨e,h⟩:=ah h
 cases h;have a:s.aF<bD:=by
  have:Nt s.aF bD=W:=by simpa using e
  exact gH this
 split at h;split at h;obtain⟨_,_,rfl⟩:=h;exact je _ _ a;split at h;split at h;obtain⟨_,_,rfl⟩:=h;exact je _ _ a;obtain⟨_,_,rfl⟩:=h;exact qJ.refl _;cases h;split at h;split at h;obtain⟨_,h⟩|⟨_,h⟩:=ah h
 obtain⟨_,_,rfl⟩:=h;exact oM _ _ _;iterate 9 cases h
end
section
variable {g:Gh}{w w':av}
variable {s:St}{o b c:Nat}{ob:Ob}{kt:Ty}{u z:az}{ms:Array MapEntry}
def aY.setObj(hs:aY g s w)(n:g.bP o=Z b){ZY:Ob}(l:s.ob.get o=Z ob)(p:ob.odd=W)(v:s.fl<=o){x':Obj}(C:gM g w ZY x')
  (y:w'.heap.size=w.heap.size) (c:∀d,d≠b->w'.heap[d]?=w.heap[d]?) (q:w'.heap[b]?=Z x') (z:w'.os=w.os) (r:w'.output=w.output) :
  aY g {s with ob:=s.ob.set aO o ZY} w'/\Ext s.fl g w g w':=by
 have f:bx g o b:=⟨(hs.box o b n).1,.inl n⟩;have m:o<bD:=iE (hs.lt n) hs.aF;have u:Ext s.fl g w g w':=
  ⟨λ_ _ h=>h,λ_ _ _ h=>h,λ_ h=>h,by omega,λd _ E=>c d (λe=>E o v (e▸f)),λ_ _ h=>.inl h,λ_ h=>.inl h,z,r⟩
 refine⟨⟨hs.aF,hs.ai,λj d a=>?_,λj e x A=>?_,λd a=>by have:=hs.bp d a;omega,hs.jF⟩,u⟩;by_cases i:j=o;subst i;rw[n]at a;simp at a;subst a
 let ⟨h1,h2,_⟩:=hs.box j b n
 refine⟨h1,by omega,λF k=>⟨x',q,?_⟩⟩;rw[Tr.aV _ _ _ _ m,bO rfl]at k;obtain rfl:=jG k;exact C.ext u hs.bp;have B:d≠b:=λe=>i (hs.jF j o b (e▸⟨(hs.box j d a).1,.inl a⟩) f);exact(hs.box j d a).ext u hs.bp (c d B) (by simp;rw[Tr.aV _ _ _ _ m,cm i]) (hs.box j d a).1
 .have i:j≠o:=by
   rintro rfl
   have h4:=((hs.arr j e x A).2 _ l).nP;cases ob<;>first|(cases p;done)|(cases h4;done)
  refine(hs.arr j e x A).ext u hs.bp (λd a I=>⟨c d ?_,yF⟩) (by simp;rw[Tr.aV _ _ _ _ m,cm i]) rfl
  rintro rfl
  by_cases t:g.bp d;exact f.1 t;exact i (hs.jF j o d ⟨t,.inr ⟨e,x,_,A,a,rfl,I⟩⟩ f)
def aY.al3(hs:aY g s w)(m:g.bP o=Z b)(l:s.ob.get o=Z ob)(n:ob.odd=W)(r:s.fl<=o)
  (t:w'.heap.size=w.heap.size) (c:∀d,d≠b->w'.heap[d]?=w.heap[d]?) (u:w'.os=w.os) (p:w'.output=w.output) :
  aY g {s with ob:=s.ob.del aO o} w'/\Ext s.fl g w g w':=by
 have f:bx g o b:=⟨(hs.box o b m).1,.inl m⟩;have B:o<bD:=iE (hs.lt m) hs.aF;have dN:∀k,(s.ob.del aO o).get k=if k=o then Y else s.ob.get k:=λk=>Tr.qZ _ _ _ _ (by grind[aO,bD])
 have v:Ext s.fl g w g w':=
  ⟨λ_ _ h=>h,λ_ _ _ h=>h,λ_ h=>h,by omega,λd _ C=>c d (λe=>C o r (e▸f)),λ_ _ h=>.inl h,λ_ h=>.inl h,u,p⟩
 refine⟨⟨hs.aF,hs.ai,λj d a=>?_,λj e x y=>?_,λd a=>by have:=hs.bp d a;omega,hs.jF⟩,v⟩;by_cases i:j=o;subst i;rw[m]at a;simp at a;subst a
 let ⟨h1,h2,_⟩:=hs.box j b m
 refine⟨h1,by omega,λE A=>?_⟩
 simp_all
 have z:d≠b:=λe=>i (hs.jF j o b (e▸⟨(hs.box j d a).1,.inl a⟩) f);exact(hs.box j d a).ext v hs.bp (c d z) (by simp;rw[dN,cm i]) (hs.box j d a).1
 .have i:j≠o:=by
   rintro rfl
   have h4:=((hs.arr j e x y).2 _ l).nP;cases ob<;>first|(cases n;done)|(cases h4;done)
  refine(hs.arr j e x y).ext v hs.bp (λd a F=>⟨c d ?_,yF⟩) (by simp;rw[dN,cm i]) rfl
  rintro rfl
  by_cases q:g.bp d;exact f.1 q;exact i (hs.jF j o d ⟨q,.inr ⟨e,x,_,y,a,rfl,F⟩⟩ f)
def eY:(kt:Ty)->den S.A kt->az
 |.int k,n=>.int k n|.bool,b=>.bool b|.str,s=>.string (cR s)|_,_=>undef
def hY:Ty->TypeDesc->Prop
 |.int k,d=>d=.int k|.bool,d=>d=.bool|.str,d=>d=.string|_,_=>False
def qu{v:V S}{k:den S.A kt}(h:Ul kt v=Z k)(c:aH g w (low v) u):u=eY kt k:=by
 cases kt with
 |int j=>
  let ⟨p,b,a⟩:=gi (show l6 j v=Z k from h)
  exact dR b a c
 |bool=>
  let ⟨p,b,a⟩:=lZ (show rB v=Z k from h)
  exact ja b a c
 |str=>
  let ⟨p,b,a⟩:=kO (show vn v=Z k from h)
  exact iw b a c
 |_=>cases h
def Sb{k:den S.A kt}{d:TypeDesc}(a:hY kt d)(b:aH g w (dY S kt k) u):u=eY kt k:=by
 cases kt with
 |int j=>cases b with|sym _ _ a=>cases a;rfl
 |bool=>cases b with|sym _ _ a=>cases a;rfl
 |str=>cases b with|sym _ _ a=>cases a;rfl
 |_=>cases a
def aa4{k:den S.A kt}{d:TypeDesc}(a:hY kt d):aH g w (dY S kt k) (eY kt k):=by cases kt with|int j=>exact .sym _ _ (.lit _)|bool=>exact .sym _ _ (.lit _)|str=>exact .sym _ _ (.lit _)|_=>cases a
def LL{d:TypeDesc}(c:hY kt d)(a b:den S.A kt):Instr.sameNow d (eY kt a) (eY kt b)=Z (Fj kt a b):=by
 cases kt with
 |int j=>cases c;simp[Instr.sameNow,eY,Fj,af]
 |bool=>cases c;rfl
 |str=>
  cases c;have:=A0 a b
  grind[Ta,Instr.sameNow,eY,Fj]
 |_=>cases c
theorem JD{kt:Ty}{d:TypeDesc}(c:hY kt d){a b:den S.A kt}(h:Fj kt a b=W)(n:Nat):Instr.sameBits n (eY kt b) (eY kt a)=W:=by
 cases kt with
 |int j=>
  have:a=b:=by simpa[Fj,af]using h
  subst this;cases n<;>simp[Instr.sameBits,eY]
 |bool=>
  have:a=b:=by simpa[Fj,j3]using h
  subst this;cases n<;>simp[Instr.sameBits,eY]
 |str=>
  have:a=b:=by simpa[Fj,ga]using h
  subst this;have e:(cR a==cR a)=W:=by
   have:=A0 a a
   grind[Ta,ga]
  cases n<;>simp[Instr.sameBits,eY,e]
 |_=>cases c
def CA{A:Nat->Type}{β:Type}(kt:Ty)(k:den A kt):L (den A kt×β)->O Nat
 |[]=>Y|p::l=>bif Fj kt k p.1 then Z 0 else(CA kt k l).map Ns
def Fp{β:Type}{kt:Ty}{k:den S.A kt}:∀{l:L (den S.A kt×β)},CA kt k l=Y->(∀z,AQ kt z k l=z)/\xC kt k l=J/\∀x,gY kt k x l=l++[(k,x)]
 |[],_=>⟨λ_=>rfl,rfl,λ_=>rfl⟩|p::l,h=>by
  simp[CA]at h;cases a:Fj kt k p.1 with
  |true=>simp_all|false=>
   rw[a]at h;obtain⟨h1,h2,h3⟩:=Fp (l:=l) (by simpa using h)
   grind[AQ,xC,gY]
def vM{β:Type}{kt:Ty}{k:den S.A kt}:∀{l:L (den S.A kt×β)}{j:Nat},CA kt k l=Z j->∃p,l[j]?=Z p/\Fj kt k p.1=W/\(∀z,AQ kt z k l=p.2)/\xC kt k l=W/\∀x,gY kt k x l=l.set j (k,x)
 |[],j,h=>by cases h
 |p::l,j,h=>by
  simp[CA]at h;cases a:Fj kt k p.1 with
  |true=>rw[a]at h;simp at h;subst h;exact⟨p,rfl,a,λz=>by simp[AQ,a],by simp[xC,a],λx=>by simp[gY,a]⟩
  |false=>
   rw[a]at h;simp only[gJ,fG]at h;obtain⟨i,b,rfl⟩:=h
   let ⟨q,h1,h2,h3,h4,h5⟩:=vM b
   exact⟨q,by simpa using h1,h2,λz=>by simp[AQ,a,h3],by simp[xC,h4],λx=>by simp[gY,a,h5]⟩
def Sy{β:Type}{kt:Ty}{k:den S.A kt}:∀{l:L (den S.A kt×β)},Kp kt k l=match CA kt k l with|some j=>l.eraseIdx j|none=>l
 |[]=>rfl|p::l=>by simp only[Kp,CA];cases a:Fj kt k p.1 with|true=>rfl|false=>simp only[gJ,Sy (l:=l)];cases CA kt k l<;>rfl
def xS{β:Type}{kt:Ty}{d:TypeDesc}(b:hY kt d)(k:den S.A kt):∀(l:L (den S.A kt×β))(es:L MapEntry)(i:Nat),es.length=l.length->
  (∀(j:Nat)p m,l[j]?=Z p->es[j]?=Z m->m.key=eY kt p.1)->Instr.findNow d (eY kt k) es i=Z ((CA kt k l).bind λj=>(es[j]?).map λm=>(i+j,m.val))
 |[],[],i,_,_=>rfl|p::l,m::es,i,a,c=>by
  simp[Instr.findNow,c 0 p m rfl rfl,LL b];cases e:Fj kt k p.1 with
  |true=>simp[CA,e]|false=>
   rw[xS b k l es (i+1) (by simpa using a) (λj f g h1 h2=>c (j+1) f g (by simpa using h1) (by simpa using h2))];simp only[CA,e,gJ];cases CA kt k l with
   |none=>rfl|some j=>
    simp
    congr 1
    funext m
    rw[Nat.add_assoc,Nat.add_comm 1 j]
 |[],_::_,_,a,_=>by simp at a
 |_::_,[],_,a,_=>by simp at a
variable {P:cP}
def Ho{d:TypeDesc}(a:hY kt d){t:TypeId}(c:P.underlying t=Z d)(b:aa)(n:Nat)(v:az)(w:av):(Instr.checkKey b (n+1) t v).run P w=.ok () w:=by
 cases kt with
 |int j=>cases a;simp_all[Instr.checkKey,aN]
 |bool=>cases a;simp_all[Instr.checkKey,aN]
 |str=>cases a;simp_all[Instr.checkKey,aN]
 |_=>cases a
def run_checkKey{d:TypeDesc}(a:hY kt d){t:TypeId}(c:P.underlying t=Z d)(b:aa)(v:az)(w:av):(Instr.checkKey b 10000 t v).run P w=.ok () w:=
 Ho a c b 9999 v w
def run_findKey{β:Type}{d:TypeDesc}(a:hY kt d){t:TypeId}(c:P.underlying t=Z d)(k:den S.A kt){l:L (den S.A kt×β)}{es:L MapEntry}(hl:es.length=l.length)
  (b:∀(j:Nat)p m,l[j]?=Z p->es[j]?=Z m->m.key=eY kt p.1) (w:av) :
  (Instr.findKey t (eY kt k) es).run P w=.ok ((CA kt k l).bind λj=>(es[j]?).map λm=>(j,m.val)) w:=by
 have:=xS a k l es 0 hl b
 simp_all[Instr.findKey,aN]
def mY(h:w.heap[b]?=Z (.map ms c)):(getObj b).run P w=.ok (.map ms c) w:=by simp[getObj,Sem.run,h]
def tG(o:Obj)(h:w.heap[b]?=Z (.map ms c)):(setObj b o).run P w=.ok () {w with heap:=w.heap.setIfInBounds b o}:=by simp[setObj,Sem.run,h]
def yz{β:Type}{d:TypeDesc}(f:hY kt d){t a e:TypeId}{g:TypeInfo}(q:P.underlying t=Z (.map a e))(i:P.underlying a=Z d)(hi:P.info? e=Z g)(n:g.zero=Z z)
  (k:den S.A kt) {l:L (den S.A kt×β)} {b c:Nat} {ms:Array MapEntry} (h:w.heap[b]?=Z (.map ms c)) (hl:l.length=ms.size) (r:∀(j:Nat)p m,l[j]?=Z p->ms[j]?=Z m->m.key=eY kt p.1) (ok:aa) :
  (Instr.lookup t (.map (Z b)) (eY kt k) ok).run P w=.ok (match(CA kt k l).bind λj=>(ms[j]?).map (·.val)with
   |some v=>if ok then .tuple #[v,.bool W]else v|none=>if ok then .tuple #[z,.bool J]else z) w:=by
 have s:=run_findKey (P:=P) f i k (l:=l) (es:=ms.toList) (by grind) (λj p m h1 h2=>r j p m h1 (by simpa using h2)) w;simp only[Instr.lookup,run_bind,aN q,andThen_ok,mY h,run_checkKey f i,s,run_pure];cases u:CA kt k l with
 |none=>simp[ef hi n]|some j=>
  cases o:ms[j]? with|none=>simp[o,ef hi n]|some m=>simp[o]
def Eu{d:TypeDesc}(b:hY kt d){t a e:TypeId}{c:TypeInfo}(g:P.underlying t=Z (.map a e))(f:P.underlying a=Z d)(hi:P.info? e=Z c)(h:c.zero=Z z)
  (k:den S.A kt) (ok:aa):(Instr.lookup t (.map Y) (eY kt k) ok).run P w=.ok (if ok then .tuple #[z,.bool J]else z) w:=by
 have i:=run_findKey (P:=P) (β:=U) b f k (l:=[]) (es:=[]) rfl (λj p m h1=>by simp at h1) w;simp only[Instr.lookup,run_bind,aN g,andThen_ok,run_checkKey b f,run_pure]
 simp_all[ef]
end
section
variable {g:Gh}{w w':av}{P:cP}
def Dn{β:Type}(kt:Ty)(R:β->az->Prop)(l:L (den S.A kt×β))(ms:Array MapEntry):Prop:=
 l.length=ms.size/\∀(j:Nat)p m,l[j]?=Z p->ms[j]?=Z m->m.key=eY kt p.1/\R p.2 m.val
variable {kt kt':Ty}{ms:Array MapEntry}
def xK{β:Type}{R:β->az->Prop}{d:TypeDesc}(r:hY kt d){t a e:TypeId}(z:P.underlying t=Z (.map a e))(s:P.underlying a=Z d)
  (k:den S.A kt) {l:L (den S.A kt×β)} {b c:Nat} {ms:Array MapEntry} (h:w.heap[b]?=Z (.map ms c)) (C:Dn kt R l ms) {x:β} {v:az} (hx:R x v) :
  ∃g E,(Instr.mapUpdate t (.map (Z b)) (eY kt k) v).run P w=.ok () {w with heap:=w.heap.setIfInBounds b (.map g E)}/\Dn kt R (gY kt k x l) g:=by
 let ⟨hl,F⟩:=C
 have A:=run_findKey (P:=P) r s k (l:=l) (es:=ms.toList) (by grind) (λj p m h1 h2=>(F j p m h1 (by simpa using h2)).1) w;cases f:CA kt k l with
 |none=>
  let ⟨_,_,o⟩:=Fp f
  rw[f]at A;refine⟨ms.push {key:=eY kt k,val:=v,born:=c},c+1,?_,by simp_all,λj p m h1 h2=>?_⟩;simp[Instr.mapUpdate,run_bind,aN z,andThen_ok,mY h,run_checkKey r s,A,Option.bind_none,tG _ h]
  grind
 |some i=>
  let ⟨p,hp,I,_,_,o⟩:=vM f
  have K:i<ms.size:=by grind
  obtain⟨m,Q⟩:∃m,ms[i]?=Z m:=⟨ms[i],tO K⟩;have u:(Instr.findKey a (eY kt k) ms.toList).run P w=.ok (Z (i,m.val)) w:=by
   simp_all
  refine⟨ms.modify i λe=>{e with key:=eY kt k,val:=v},c,?_,by simp_all,λj q n h1 h2=>?_⟩;have hsb:Instr.sameBits 10000 m.key (eY kt k)=W:=by grind[JD]
  have y:(Instr.keyThatStays m.key (eY kt k)).run P w=.ok (eY kt k) w:=by
   simp_all[Instr.keyThatStays]
  simp[Instr.mapUpdate,run_bind,aN z,andThen_ok,mY h,run_checkKey r s,u,Q,jq,OR,y,tG _ h]
  grind
def OK{β:Type}{R:β->az->Prop}{d:TypeDesc}(u:hY kt d){t a e:TypeId}(y:P.underlying t=Z (.map a e))(v:P.underlying a=Z d)
  (k:den S.A kt) {l:L (den S.A kt×β)} {b c:Nat} {ms:Array MapEntry} (h:w.heap[b]?=Z (.map ms c)) (C:Dn kt R l ms) {ts:Array TypeId} (f:ts[0]?=Z t) {ty:TypeId} {args:Array az} (g:args[0]?=Z (.map (Z b))) (o:args[1]?=Z (eY kt k)) :
  ∃r,(Builtin.delete_ ts ty args).run P w=.ok (.tuple #[]) {w with heap:=w.heap.setIfInBounds b (.map r c)}/\Dn kt R (Kp kt k l) r:=by
 let ⟨E,z⟩:=C
 have A:=run_findKey (P:=P) u v k (l:=l) (es:=ms.toList) (by grind) (λj p m h1 h2=>(z j p m h1 (by simpa using h2)).1) w;rw[Sy];cases s:CA kt k l with
 |none=>rw[s]at A;refine⟨ms,?_,E,z⟩;simp[Builtin.delete_,run_bind,f,g,o,aN y,andThen_ok,mY h,run_checkKey u v,A,Option.bind_none,tG _ h,run_pure]|some i=>
  let ⟨p,F,_⟩:=vM s
  have B:i<ms.size:=by grind
  have x:(Instr.findKey a (eY kt k) ms.toList).run P w=.ok (Z (i,ms[i].val)) w:=by
   simp_all
  refine⟨ms.eraseIdxIfInBounds i,?_,?_,λj q n h1 h2=>?_⟩;simp[Builtin.delete_,run_bind,f,g,o,aN y,andThen_ok,mY h,run_checkKey u v,x,tG _ h,run_pure];simp only[Array.eraseIdxIfInBounds,B,dite_true,Array.size_eraseIdx,List.length_eraseIdx]
  grind
  simp only[Array.eraseIdxIfInBounds,B,dite_true,Array.getElem?_eraseIdx,List.getElem?_eraseIdx]at h1 h2
  grind
def gM.LC{β:Type}{d:TypeDesc}(a:hY kt d){f:β->T}{l:L (den S.A kt×β)}{x:Obj}(h:gM g w (.map (l.map λp=>(dY S kt p.1,f p.2))) x) :
  ∃ms c,x=.map ms c/\Dn kt (λy v=>aH g w (f y) v) l ms:=by
 cases h with|map _ ms c b e=>refine⟨ms,c,rfl,by simpa using b,λj p m h1 h2=>?_⟩;have:=e j (dY S kt p.1,f p.2) m (by simp[h1]) h2;exact⟨Sb a this.1,this.2⟩
def Dn.ob{β:Type}{d:TypeDesc}(a:hY kt d){f:β->T}{l:L (den S.A kt×β)}(h:Dn kt (λy v=>aH g w (f y) v) l ms)(c:Nat):gM g w (.map (l.map λp=>(dY S kt p.1,f p.2))) (.map ms c):=by
 refine .map _ ms c (by simpa using h.1) λj t m h1 h2=>?_;simp only[kF,fG]at h1;obtain⟨p,b,rfl⟩:=h1
 let ⟨h3,h4⟩:=h.2 j p m b h2
 rw[h3];exact⟨aa4 a,h4⟩
def Qr(S:Sg)(i:TI)(τ:Ty):Prop:=bif ke τ then D.agg i.zero=enc S τ (S.zero τ)else i.zero=[enc S τ (S.zero τ)]
def HO{I:Nat->Prop}(q:eZ S){t:TypeId}{i:TI}(hi:mM P t i){τ:Ty}(r:yc S i τ)(d:Qr S i τ){x:TypeInfo}{z:az}(s:P.info? t=Z x)(f:x.zero=Z z):dF I w (enc S τ (S.zero τ)) z:=by
 let ⟨A,d0,B,g,C,_,y,h,a,_⟩:=hi.all
 rw[s]at g;cases g;rw[f]at h;cases h
 let ⟨m,o⟩:=hi.zag x z s f
 unfold Qr at d;cases b:ke τ with
 |true=>
  rw[b,gn]at d;have k:i.agg=W:=by cases τ with|st n=>exact r.1|_=>cases b
  obtain⟨E,rfl⟩:=m k;rw[<-d];refine .agg _ _ a.1 (λc u=>?_) (λj c v h1 h2=>AU (a.2 j c v h1 h2));cases τ with
  |st n=>
   have e:i.zero=S.cells n (S.zero (.st n)):=by have:D.agg i.zero=D.agg (S.cells n (S.zero (.st n))):=d;injection this
   rw[e,q.cells]at u;exact g7 _ _ (q.leaf n) c u
  |_=>cases b
 |false=>
  rw[b,gJ]at d;have l:i.agg=J:=by
   cases τ with
   |st n=>cases b
   |_=>exact r.2.1
  have p:=o l;have:=a.2 0 _ z (by rw[d];rfl) (by rw[p];rfl);exact AU this
structure XOk(S:Sg)(E:fN):Prop where
 zr:∀t i τ,E.E.ti t=Z i->E.ty t=Z τ->Qr S i τ
 mt:∀t m,E.mt t=Z m->∃kid d,E.E.P.underlying t=Z (.map kid m.el)/\E.E.P.underlying kid=Z d/\hY m.kt d/\(∃x z,E.E.P.info? m.el=Z x/\x.zero=Z z)/\
  ∀vt,m.vt=Z vt->E.ty m.el=Z vt/\∃i,E.E.ti m.el=Z i
 JX:∀t nm f,E.JX t nm=Z f->∃x mm d,E.E.P.info? t=Z x/\x.methods.find? (·.name==nm)=Z mm/\mm.path=#[]/\E.E.P.underlying t=Z d/\
  ((mm.func=Z (f,J)/\∀e,d≠.pointer e)\/(mm.func=Z (f,W)/\∃e,d=.pointer e))
def cT{fr:bV S}{a:Act}(hf:cS g (bB fr) a w){x:Operand}{v:V S}(h:cx fr x=Z v):aH g w (low v) (a.eval x):=bR hf (cw h)
def FZ{b a:Ty}{l:L (den S.A kt×den S.A b)}{c:L (den S.A kt'×den S.A a)}(h:xW kt b kt' a l=Z c):kt=kt'/\b=a/\HEq l c:=by
 unfold xW at h
 grind
def Gb{β:Type}{l:L (den S.A kt×β)}{a:L (den S.A kt'×β)}(h:I1 kt kt' l=Z a):kt=kt'/\HEq l a:=by
 unfold I1 at h
 grind
def Du{w:av}{b:Nat}(x:Obj)(c:b<w.heap.size):({w with heap:=w.heap.setIfInBounds b x}:av).heap.size=w.heap.size/\(∀a,a≠b->({w with heap:=w.heap.setIfInBounds b x}:av).heap[a]?=w.heap[a]?)/\
  ({w with heap:=w.heap.setIfInBounds b x}:av).heap[b]?=Z x:=by
 grind
def Fc{β:Type}{f:β->T}{k:den S.A kt}{l:L (den S.A kt×β)}(b:Dn kt (λy v=>aH g w (f y) v) l ms){z:β}{c:az}(h:aH g w (f z) c) :
  aH g w (f (AQ kt z k l)) (((CA kt k l).bind λj=>(ms[j]?).map (·.val)).getD c)/\(((CA kt k l).bind λj=>(ms[j]?).map (·.val)).isSome=xC kt k l):=by
 cases a:CA kt k l with
 |none=>
  let ⟨h1,h2,_⟩:=Fp a
  rw[h1,h2];exact⟨h,rfl⟩
 |some j=>
  let ⟨p,d,_,h1,h2,_⟩:=vM a
  rw[h1,h2];have i:j<ms.size:=by rw[<-b.1];exact ct d
  have e:ms[j]?=Z ms[j]:=tO i;simp[RB,e,jq,OR,Option.isSome_some,and_true];exact(b.2 j p _ d e).2
end
def Bz:∀(l:L (TypeId×Ty))(x:xz S.A l),isNil l x=(uh S l x).isNone
 |[],_=>rfl|_::_,.inl _=>rfl|_::l,.inr y=>Bz l y
def FO:∀(l:L (TypeId×Ty))(t:TypeId)(j:Nat)(x:xz S.A l)(z:(t:Ty)->den S.A t),NV l=W->wE l t=Z j->
  (lW l j x=W/\uh S l x=Z (t,enc S (mR l j) (jV z l j x)))\/(lW l j x=J/\jV z l j x=z (mR l j)/\∀d,uh S l x≠Z (t,d))
 |[],t,j,x,z,_,h=>by cases h
 |p::l,t,j,x,z,e,h=>by
  simp only[NV,eM]at e;obtain⟨a,h⟩|⟨a,h⟩:=ah h
  .simp at h;subst h;have b:=uZ a;cases x with
   |inl y=>left;exact⟨rfl,by simp only[uh,b];rfl⟩
   |inr y=>
    right
    refine⟨rfl,rfl,λd f=>?_⟩;simp[uh]at f;have c:wE l p.1=Y:=by
     simp_all
    exact By l y p.1 c d (by grind)
  split at h
  .rename_i i k;simp only[gC]at h;subst h;cases x with
   |inl y=>
    right
    refine⟨rfl,rfl,λd f=>?_⟩
    grind[uh]
   |inr y=>
    obtain⟨h1,h2⟩|⟨h1,h2,h3⟩:=FO l t i y z e.2 k
    exact .inl ⟨h1,h2⟩;exact .inr ⟨h1,h2,h3⟩
  cases h
where
 By:∀(l:L (TypeId×Ty))(x:xz S.A l)(t:TypeId),wE l t=Y->∀d,uh S l x≠Z (t,d)
  |[],_,_,_,_,h=>by cases h
  |p::l,.inl y,t,g,d,h=>by
   simp_all[wE,uh]
  |p::l,.inr y,t,g,d,h=>by
   simp only[wE]at g;cases a:Nq p.1 t with
   |true=>simp_all|false=>
    refine By l y t ?_ d h
    grind
section
variable {g:Gh}{w:av}{P:cP}
def DG(e:eZ S){n:Nat}{x:S.A n}{v:az}(h:aH g w (dY S (.de n) x) v) :
  (uh S (S.alts n) (S.tZ n x)=Y/\v=.nilIface)\/∃t d u,uh S (S.alts n) (S.tZ n x)=Z (t,d)/\v=.iface t u/\dF g.bp w d u:=by
 have b:aH g w (.sym (Oo (S.qX n x))) v:=h;rw[e.qX]at b;cases b with
 |sym _ _ a=>
  cases c:uh S (S.alts n) (S.tZ n x)with
  |none=>
   rw[c]at a;cases a
   simp_all
  |some p=>
   rw[c]at a
   let ⟨t,d⟩:=p
   cases a with|de _ _ u f=>grind
variable {s:bf S}
def J0(hs:aY g (aE s) w)(hn:s.aF<bD){t:TypeId}{r:O az}{a el:TypeId}(f:P.underlying t=Z (.map a el))(d:∀v,r=Z v->∃k n,v=.int k n){ob:uz S}(b:cX ob=.map []) :
  ∃v w' g',(Instr.makeMap t r).run P w=.ok v w'/\aH g' w' (low (.mp s.aF:V S)) v/\cO [] s g w (dh s ob) g' w':=by
 let ⟨c,e⟩:=hs.newObj (ob0:=.map []) (x0:=.map #[] 0) hn (.map [] #[] 0 rfl (λj t m h=>by simp at h))
 refine⟨.map (Z w.heap.size),_,_,?_,.mp _ _ (by simp[Gh.dB,aE]),cO.kA hs (by rw[gO,b];exact c) e rfl rfl (Cj _) (je s ob hn)⟩;cases r with
 |none=>rfl|some v=>
  obtain⟨k,n,rfl⟩:=d v rfl
  simp_all[Instr.makeMap,aN,asInt,asIntOf]
def OQ(hs:aY g (aE s) w)(hn:s.aF<bD){t:TypeId}(c:P.underlying t=Z .string)(b:L UInt8) :
  ∃v w' g',(Instr.range t (.string (cR b))).run P w=.ok v w'/\aH g' w' (low (.tD s.aF:V S)) v/\cO [] s g w (dh s (.qO b 0)) g' w':=by
 let ⟨a,d⟩:=hs.newObj (ob0:=.qO (cR b) 0) (x0:=.stringIter (cR b) 0) hn (.qO _ _)
 refine⟨.pointer (Z ⟨w.heap.size,0,Y⟩),_,_,?_,.tD _ _ (by simp[Gh.dB,aE]),cO.kA hs (by rw[gO];exact a) d rfl rfl (Cj _) (je s _ hn)⟩;simp[Instr.range,aN c]
def E9(hS:eZ S)(hs:aY g (aE s) w)(hn:s.aF<bD){t:TypeId}{i:TI}(hi:mM P t i){e:Ty}(hr:yc S i (.sl e)){n:Int}(q:O8 n=W)(k1 k2:IntKind) :
  ∃v w' g',(Instr.makeSlice t (.int k1 n) (.int k2 n)).run P w=.ok v w'/\aH g' w' (low (.sh s.aF 0:V S)) v/\cO [] s g w (dh s (.arr e (List.replicate (au n) (S.zero e)) 0)) g' w':=by
 let ⟨⟨z,r,hz⟩,_,_,u⟩:=hr
 let ⟨xi,d1,z1,MR,y,_,XX,hzx,Bq,hk⟩:=hi.all
 rw[r]at hk;obtain⟨el,j,d',p,rfl,hj,l,hju,afg,A,f,B,hj0,hjb1,hjb2,hjb3,C⟩:=hk;simp[O8,eM,sC]at q;obtain⟨m,rfl⟩:∃m:Nat,n=(m:Int):=⟨n.toNat,by omega⟩;have hm:m<=17179869184:=by omega
 have hbm:j.bytes*m<=4096*17179869184:=Nat.mul_le_mul B hm;have o:=run_make (P:=P) w t el j p y hj A k1 k2 (m:Int) (m:Int) (by omega) (Cl _) (by
  have:((j.bytes*m:Nat):Int)<=281474976710656:=by omega
  rwa [Int.natCast_mul]at this) (by omega)
 have E:(bif ke e then D.agg z else z.getD 0 default)=enc S e (S.zero e):=by
  grind
 have a:=Ls (I:=g.bp) (w:=w.alloc (.cells (madeCells p.cells (m*j.size)) el)) (ag:=ke e) (sz:=S.width e) (len:=m) f (by
  cases hst:ke e with
  |true=>rfl|false=>
   simp_all) (by rw[bS];exact C)
 rw[E]at a;have F:(List.replicate m (S.zero e)).map (enc S e)=List.replicate m (enc S e (S.zero e)):=by simp
 let x:eU:=⟨Z ⟨w.heap.size,0,Y⟩,m,m,S.width e⟩
 have K:∀b,x.at b->b=w.heap.size:=by
  rintro b ⟨ad,h1,h2,_⟩
  grind
 have k:¬g.bp w.heap.size:=λh=>by have:=hs.bp _ h;omega
 let ⟨Q,he⟩:=aY.O6 (w':=w.alloc (.cells (madeCells p.cells (m*j.size)) el)) hs hn (sz:=S.width e) (es:=List.replicate m (enc S e (S.zero e))) (x:=x) rfl rfl (by simp) (λb R=>pN w _ b R)
  (λb R=>by rw[K b R];simp)
  ⟨by simp[x],cM _,a.rows,u,λd hd=>by
    have hde:=WC hd;rw[hde,Bx hS,List.length_replicate];have:m*y9 S e<=17179869184*(2*4096):=Nat.mul_le_mul hm (by omega);omega,λhc=>by
    refine⟨w.heap.size,madeCells p.cells (m*j.size),el,rfl,⟨λh=>(by cases h),λh=>absurd h k⟩,xe w _,by rw[size_madeCells,l];grind,λi d jj c h1 h2=>?_⟩
    let ⟨v,h3,h4⟩:=a.rel i jj d c h1 h2
    refine⟨v,?_,h4⟩;rw[<-l]at h3 ⊢;exact h3⟩ rfl
 refine⟨_,_,_,o,.sh _ _ _ _ (S.width e) _ (Gh.fq _ _ _ _),cO.kA hs ?_ he rfl rfl (Cj _) (je s _ hn)⟩;rw[gO];simp[cX,au,RD,F];exact Q
end
section
variable {g:Gh}{w:av}
variable {o n:Nat}{v:az}{P:cP}{i:TI}{a:Act}{s s':bf S}{E:fN}{fr:bV S}{c:aa}{t:V S}
def aH.Fs(h:aH g w (.mp o) v):∃b,v=.map (Z b)/\g.bP o=Z b:=by cases h;simp_all
def aH.abk(h:aH g w (.tD o) v):∃b,v=.pointer (Z ⟨b,0,Y⟩)/\g.bP o=Z b:=by cases h;simp_all
def aH.aeB{k:IntKind}{n:Int}(h:aH g w (.kn k n) v):v=.int k n:=by cases h;rfl
def aH.z4{u:az}(h:aH g w (.sym (.lit u)) v):v=u:=by cases h with|sym _ _ a=>cases a;rfl
def aH.Sc{cs:L T}(h:aH g w (.agg cs) v):∃vs,v=.agg vs/\PW (aH g w) cs vs.toList:=by cases h with|agg _ vs a b=>exact⟨vs,rfl,by simpa using a,λj t v h1 h2=>b j t v h1 (by simpa using h2)⟩
def HY(P:cP)(d:Nat){ty:TypeId}{a:Array (String×TypeId)}(b:P.underlying ty=Z (.interface a)):(Op.equalIn (d+1) ty .nilIface .nilIface).run P w=.ok W w:=by simp only[Op.equalIn,run_bind,aN b,andThen_ok];rfl
def TA(P:cP)(d:Nat){ty e:TypeId}(b:P.underlying ty=Z (.slice e))(a:O Addr)(n m:Nat):(Op.equalIn (d+1) ty (.slice a n m) (.slice Y 0 0)).run P w=.ok a.isNone w:=by simp only[Op.equalIn,run_bind,aN b,andThen_ok];cases a<;>rfl
def Se(f:eZ S){t:TypeId}(hi:mM P t i)(j:i.kd=.iface){x:S.A n}(h:aH g w (dY S (.de n) x) v)(a:Operand) :
  ((do eqGuard .eql t a (.const .nilIface) v .nilIface;binOp .eql t v .nilIface:Sem az)).run P w=.ok (.bool (isNil (S.alts n) (S.tZ n x))) w/\
  ((do eqGuard .neq t a (.const .nilIface) v .nilIface;binOp .neq t v .nilIface:Sem az)).run P w=.ok (.bool (!(isNil (S.alts n) (S.tZ n x)))) w:=by
 let ⟨_,d0,_,_,e,_,_,_,_,b⟩:=hi.all
 rw[j]at b;obtain⟨l,rfl⟩:=b;rw[Bz];obtain⟨c,rfl⟩|⟨k,d,u,c,rfl,_⟩:=DG f h
 rw[c];refine nA a (.const .nilIface) rfl rfl (λop=>?_) (HY P 9999 e);unfold eqGuard;cases op<;>cases a<;>rfl;rw[c];refine nA a (.const .nilIface) rfl rfl (λop=>?_) (HZ 9999 e k u);unfold eqGuard;cases op<;>rfl
def RN{t:TypeId}(hi:mM P t i)(c:i.kd=.iface)(h:aH g w (.sym (.lit .nilIface)) v)(b:Operand) :
  ((do eqGuard .eql t b (.const .nilIface) v .nilIface;binOp .eql t v .nilIface:Sem az)).run P w=.ok (.bool W) w/\
  ((do eqGuard .neq t b (.const .nilIface) v .nilIface;binOp .neq t v .nilIface:Sem az)).run P w=.ok (.bool J) w:=by
 let ⟨_,d0,_,_,d,_,_,_,_,a⟩:=hi.all
 rw[c]at a;obtain⟨e,rfl⟩:=a;cases h with
 |sym _ _ h=>
 cases h;refine nA b (.const .nilIface) rfl rfl (λop=>?_) (HY P 9999 d);unfold eqGuard;cases op<;>cases b<;>rfl
def TB(P:cP)(d:Nat){ty e:TypeId}(b:P.underlying ty=Z (.pointer e))(a:O Addr):(Op.equalIn (d+1) ty (.pointer a) (.pointer Y)).run P w=.ok a.isNone w:=by simp only[Op.equalIn,run_bind,aN b,andThen_ok];cases a<;>rfl
def Dy{t:TypeId}(hi:mM P t i)(d:i.kd=.ptr){a:O Addr}(f:v=.pointer a)(c:Operand) :
  ((do eqGuard .eql t c (.const (.pointer Y)) v (.pointer Y);binOp .eql t v (.pointer Y):Sem az)).run P w=.ok (.bool a.isNone) w/\
  ((do eqGuard .neq t c (.const (.pointer Y)) v (.pointer Y);binOp .neq t v (.pointer Y):Sem az)).run P w=.ok (.bool (!a.isNone)) w:=by
 subst f
 let ⟨_,d0,_,_,g,_,_,_,_,b⟩:=hi.all
 rw[d]at b;obtain⟨e,rfl⟩:=b;exact nA c (.const (.pointer Y)) rfl rfl (λop=>by cases op<;>rfl) (TB P 9999 g a)
def JQ{y:O (S.A n)}(h:aH g w (dY S (.opt n) y) v):∃a,v=.pointer a/\El y=!a.isNone/\(El y=W->∀z,aH g w (.lD (enc S (.st n) (afj z y)) 0) v):=by
 cases h with
 |sym _ _ h=>
 cases y with
 |none=>cases h;exact⟨Y,rfl,rfl,λh=>by cases h⟩
 |some x=>
  cases h with|pt _ b val c d e=>exact⟨Z (b.add 0),rfl,rfl,λ_ _=>.lD _ 0 b val c d e⟩
def adX{t:TypeId}(hi:mM P t i){sz r7:Nat}{ag:aa}{z:L D}(d:i.kd=.slice sz ag r7 z)(a:O Addr)(n m:Nat)(c:Operand) :
  ((do eqGuard .eql t c (.const (.slice Y 0 0)) (.slice a n m) (.slice Y 0 0);binOp .eql t (.slice a n m) (.slice Y 0 0):Sem az)).run P w=.ok (.bool a.isNone) w:=by
 let ⟨_,d0,_,_,e,_,_,_,_,b⟩:=hi.all
 rw[d]at b;obtain⟨el,j,f,g,rfl,_⟩:=b;refine(nA c (.const (.slice Y 0 0)) rfl rfl (λop=>?_) (TA P 9999 e a n m)).1;unfold eqGuard;cases op<;>rfl
def adY(hs:aY g (aE s) w){e:Ty}{x:V S}{l:L (den S.A e)}(h:JA s e x=Z l)(q:aH g w (low x) v):∃a n m,v=.slice a n m/\(a.isNone=W->isE l=W):=by
 unfold JA at h;split at h
 .simp only[gC]at h;subst h;cases q with|emp a=>exact⟨a,0,0,rfl,λ_=>rfl⟩
 .rename_i t C;obtain⟨rfl,i⟩:=fy h;cases i;cases q with
  |j4 n Q a hn A=>
   refine⟨a,_,_,rfl,λE=>?_⟩;cases A with
   |sl _ _ _ sz val u F I hA K=>
   cases C with
   |nil=>rfl|cons y C=>
    simp_all
 .let ⟨f,i⟩:=fy h
  cases f;cases i;cases q with
  |o6 j d c a hj A=>
   refine⟨a,_,_,rfl,λE=>?_⟩
   grind[w9]
 .rename_i t R
  let ⟨f,i⟩:=fy h
  subst f;cases i;cases q with
  |sym _ _ A=>
   cases A with
   |sl _ a cap sz val u F I hA K=>
   refine⟨a,_,_,rfl,λE=>?_⟩;cases R with
   |nil=>rfl|cons y C=>
    simp_all
 rename_i o r;have key:∀(B:aa)(t:Ty)(k:L (den S.A t))(era:Nat),s.ob.get o=Z (if B then .kM t k era else .arr t k era)->(bif Nq r era then nZ t e k else Y)=Z l->∃a n m,v=.slice a n m/\(a.isNone=W->isE l=W):=by
  intro B t k era ho h;obtain⟨hb,h⟩|⟨_,h⟩:=ah h
  .let ⟨f,i⟩:=fy h
   subst f;cases i;have P:=beq_iff'.1 hb;subst P;cases q with
   |sh _ _ len cap sz a hx=>
    have z:(aE s).ob.get o=Z (fM B (S.width t) (k.map (enc S t)) r):=by rw[aK,ho];cases B<;>rfl
    let ⟨p,_⟩:=hs.ni z hx
    refine⟨a,len,cap,rfl,λE=>?_⟩;cases k with
    |nil=>rfl|cons y k=>
     have h1:=p.len;have h2:=p.cap;have K:(⟨a,len,cap,sz⟩:eU).cap≠0:=by grind
     let ⟨b,vs,ty,h3,_⟩:=p.mem K
     simp_all
  cases h
 split at h
 simp_all
 simp_all
 cases h;cases h
def It(hX:XOk S E)(hS:eZ S)(hf:cS g (bB fr) a w)(hs:aY g (aE s) w)(o:Oper){ty:TypeId}{x ix y:Operand}(A:o.op=.mapUpdate ty x ix y\/o.op=.insert ty x ix y)
  (h:(match E.mt ty,cx fr x,cx fr ix,cx fr y with
  |some m,Z (.mp o),Z k,Z y=>match Ul m.kt k,s.ob.get o with
   |some k,Z (.map kt q l)=>match xW kt q m.kt q l,bT s q y with
    |some l,Z (y,os)=>match dS s os with
     |some s1=>bif Nl s.fl o&&aae m.vt q then Z (W,(mN:V S),{s1 with ob:=s1.ob.set aO o (.map m.kt q (gY m.kt k y l)),wr:=o::s1.wr})else Y
     |none=>Y
    |_,_=>Y
   |some k,Z (.GY kt l)=>match I1 kt m.kt l with
    |some l=>bif Nl s.fl o then Z (W,mN,{s with ob:=s.ob.set aO o (.GY m.kt (gY m.kt k y l)),wr:=o::s.wr})else Y
    |none=>Y
   |_,_=>Y
  |_,_,_,_=>Y)=Z (c,t,s')) :
  ∃v w' g',((execOp a.eval o).run E.E.P w=.ok (.value v) w'\/((execOp a.eval o).run E.E.P w=.ok .skip w'/\v=undef))/\aH g' w' (low t) v/\cO [] s g w s' g' w':=by
 split at h;rotate_left;cases h;rename_i m e kv yv hm hx hk hy
 let ⟨kid,d,ht,hu,n,_,_⟩:=hX.mt _ _ hm
 let ⟨b,Z0,hb⟩:=aH.Fs (cT hf hx)
 have j:∀w',(Instr.mapUpdate ty (a.eval x) (a.eval ix) (a.eval y)).run E.E.P w=.ok () w'->(execOp a.eval o).run E.E.P w=.ok .skip w':=by intro w' hr;obtain A|A:=A<;>simp[execOp,A,hr]
 split at h
 .rename_i k kt q l r B;have VB:=qu r (cT hf hk);split at h;rotate_left;cases h;rename_i l' y' os hcm Kc;obtain⟨rfl,_,K⟩:=FZ hcm;cases K;split at h;rotate_left;cases h;rename_i s1 Q;obtain⟨C,R⟩|⟨_,R⟩:=ah h
  rotate_left;cases R;clear h;obtain⟨_,rfl,rfl⟩:=R;rw[eM]at C;have hfl:s.fl<=e:=gH C.1
  let ⟨p,hp,hpp⟩:=pR hS s q yv Kc
  let ⟨u,hd⟩:=lJ hs _ hp hpp (cT hf hy)
  let ⟨g1,F,Z1,hfr⟩:=ew os hs (dw hS _ Q) u
  have hyd:=hd g1 _ F Z1 hfr
  let ⟨f1,f2,f3,f4,f5,f6,f7⟩:=eD Q
  have hno:e∉os:=λhmem=>by have:=(u e hmem).nP (by rw[aK,B];rfl);cases this
  have i:(aE s1).ob.get e=Z (cX (.map m.kt q l')):=by rw[aK,f6 e hno,B];rfl
  have Dd:g1.bP e=Z b:=Z1.bP _ _ hb
  let ⟨x0,hh,XH⟩:=(F.box e b Dd).2.2 _ i
  obtain⟨ms,cl,rfl,hmr⟩:=gM.LC n (f:=dY S q) XH
  let ⟨ms',c',I,z⟩:=xK (P:=E.E.P) n ht hu k hh hmr (x:=y') (tF hyd)
  have hlt:=(F.box e b Dd).2.1
  let ⟨q1,q2,q3⟩:=Du (.map ms' c') hlt
  let ⟨Ll,UA⟩:=F.setObj Dd i rfl (by show s1.fl<=e;omega) (ZY:=cX (.map m.kt q (gY m.kt k y' l'))) (Dn.ob n (f:=dY S q) z c') q1 q2 q3 rfl rfl
  have aoR:qJ s {s1 with ob:=s1.ob.set aO e (.map m.kt q (gY m.kt k y' l')),wr:=e::s1.wr}:=(lX Q).trans' (Cm f3.symm) (oM _ _ _);refine⟨undef,_,g1,.inr ⟨j _ (by rw[Z0,VB];exact I),rfl⟩,.sym _ _ (.lit _),cO.kA hs (by rw[eu];exact Ll) (Z1.trans (by grind[aE])) f1 f2 (Cm f3.symm) aoR⟩
 .rename_i k kt l r B;have VB:=qu r (cT hf hk);split at h;rotate_left;cases h;rename_i l' hck;obtain⟨rfl,K⟩:=Gb hck;cases K;obtain⟨C,R⟩|⟨_,R⟩:=ah h
  rotate_left;cases R;clear h;obtain⟨_,rfl,rfl⟩:=R;have i:(aE s).ob.get e=Z (cX (.GY m.kt l')):=by rw[aK,B];rfl
  let ⟨x0,hh,XH⟩:=(hs.box e b hb).2.2 _ i
  obtain⟨ms,cl,rfl,hmr⟩:=gM.LC n (f:=low) XH
  let ⟨ms',c',I,z⟩:=xK (P:=E.E.P) n ht hu k hh hmr (x:=yv) (cT hf hy)
  let ⟨q1,q2,q3⟩:=Du (.map ms' c') (hs.box e b hb).2.1
  let ⟨Ll,UA⟩:=hs.setObj hb i rfl (gH C) (ZY:=cX (.GY m.kt (gY m.kt k yv l'))) (Dn.ob n (f:=low) z c') q1 q2 q3 rfl rfl
  exact⟨undef,_,g,.inr ⟨j _ (by simp_all),rfl⟩,.sym _ _ (.lit _),cO.kA hs (by rw[eu];exact Ll) UA rfl rfl (cM _) (oM _ _ _)⟩
 cases h
def aaK(hS:eZ S)(hT:AI E.E)(Z4:Qw S E)(hX:XOk S E)(hf:cS g (bB fr) a w)(hs:aY g (aE s) w)(o:Oper)(h:tC E fr s o.op=Z (c,t,s'))(hc:c=W) :
  ∃v w' g',((execOp a.eval o).run E.E.P w=.ok (.value v) w'\/((execOp a.eval o).run E.E.P w=.ok .skip w'/\v=undef))/\aH g' w' (low t) v/\cO [] s g w s' g' w':=by
 unfold tC at h;split at h
 ·
  rename_i ty r A;obtain⟨hb,C⟩|⟨_,C⟩:=ah h
  rotate_left;cases C;clear h;rw[eM]at hb;have hn:s.aF<bD:=gH hb.1;split at C;rotate_left;cases C;rename_i m hm
  let ⟨kid,d,ht,hu,B,_,_⟩:=hX.mt _ _ hm
  have hr:∀v,r.map a.eval=Z v->∃k n,v=.int k n:=by
   intro v R;cases r with
   |none=>cases R
   |some x=>simp at R;subst R;have hh:=hb.2;simp[MY]at hh;split at hh;rename_i k n F;exact⟨_,_,(cT hf F).aeB⟩;rename_i k n F;exact⟨_,_,aH.z4 (cT hf F)⟩;cases hh
  have fin:∀ob:uz S,cX ob=.map []->(W,(.mp s.aF:V S),dh s ob)=(c,t,s')->
    ∃v w' g',((execOp a.eval o).run E.E.P w=.ok (.value v) w'\/((execOp a.eval o).run E.E.P w=.ok .skip w'/\v=undef))/\aH g' w' (low t) v/\cO [] s g w s' g' w':=λob l9 he=>by
   obtain⟨_,rfl,rfl⟩:=he
   let ⟨v,w',g',h1,h2,h3⟩:=J0 (P:=E.E.P) hs hn ht hr l9
   exact⟨v,w',g',.inl (by simp[execOp,A,h1]),h2,h3⟩
  split at C;exact fin _ rfl (jG C);exact fin _ rfl (jG C)
 ·
  rename_i ty x ix ok A;split at h;rotate_left;cases h;rename_i m xv kv hm F hk;split at h;rotate_left;cases h;rename_i vt hvt;split at h;rotate_left;cases h;rename_i k l hkey K;obtain⟨_,rfl,rfl⟩:=h
  let ⟨kid,d,ht,hu,B,⟨xi,z,Q,hz⟩,hvv⟩:=hX.mt _ _ hm
  let ⟨ajh,i,Uu⟩:=hvv vt hvt
  have VB:=qu hkey (cT hf hk);have hxr:=cT hf F;have XA:aH g w (dY S vt (S.zero vt)) z:=tF (HO hS (hT.ti _ _ Uu) (Z4.row _ _ _ Uu ajh) (hX.zr _ _ _ Uu ajh) Q hz);have fin:∀(u:az)(b:aa),(Instr.lookup ty (a.eval x) (a.eval ix) ok).run E.E.P w=.ok (if ok then .tuple #[u,.bool b]else u) w->aH g w (dY S vt (AQ m.kt (S.zero vt) k l)) u->b=xC m.kt k l->
    ∃v w' g',((execOp a.eval o).run E.E.P w=.ok (.value v) w'\/((execOp a.eval o).run E.E.P w=.ok .skip w'/\v=undef))/\
     aH g' w' (low (bif ok then .gG [.ty vt (AQ m.kt (S.zero vt) k l),.ty .bool (xC m.kt k l)]else .ty vt (AQ m.kt (S.zero vt) k l):V S)) v/\cO [] s g w s g' w':=by
   intro u b hrun hu hbb;refine⟨_,w,g,.inl (by simp only[execOp,A,run_bind,hrun,andThen_ok,run_pure];rfl),?_,cO.refl hs⟩;cases ok with
   |false=>exact hu|true=>
    subst hbb;refine .gG _ _ rfl λj t' v' h1 h2=>?_
    match j with
    |0=>simp[bu]at h1 h2;subst h1;subst h2;exact hu|1=>simp[bu]at h1 h2;subst h1;subst h2;exact .sym _ _ (.lit _)|j+2=>simp[bu]at h1
  unfold W8 at K;split at K;rename_i oid;split at K
  .rename_i kt' vt' l' l9;obtain⟨rfl,rfl,hll⟩:=FZ K;cases hll
   let ⟨b,Z0,hb⟩:=aH.Fs hxr
   obtain⟨x0,hh,XH⟩:=(hs.box oid b hb).2.2 _ (by rw[aK,l9];rfl);obtain⟨ms,cl,rfl,hmr⟩:=gM.LC B (f:=dY S vt') XH;have hlk:=yz (P:=E.E.P) B ht hu Q hz k hh hmr.1 (λj p q h1 h2=>(hmr.2 j p q h1 h2).1) ok
   let ⟨r1,r2⟩:=Fc (f:=dY S vt') (k:=k) hmr XA
   refine fin _ _ ?_ r1 r2;rw[VB,Z0,hlk];cases hq:(CA m.kt k l').bind λj=>(ms[j]?).map (·.val)with|none=>simp|some v=>simp
  cases K;simp only[gC]at K;subst K;refine fin z J ?_ XA rfl;rw[VB,aH.z4 hxr];exact Eu B ht hu Q hz k ok
  .rename_i vt' l';obtain⟨rfl,rfl,hll⟩:=FZ K;cases hll;cases aeG:a.eval x with
   |map mb=>
    rw[aeG]at hxr;cases hxr with
    |sym _ _ hd=>
    cases hd with
    |mp _ _ b ms cl I hh h1 h2 MW hv1=>
    have hmr:Dn m.kt (λy v=>aH g w (dY S vt' y) v) l' ms:=⟨by simpa using h1,λj p q e1 e2=>⟨Sb B (tF (MW j _ q (by simp[e1]) e2)),tF (hv1 j _ q (by simp[e1]) e2)⟩⟩;have hlk:=yz (P:=E.E.P) B ht hu Q hz k hh hmr.1 (λj p q h1 h2=>(hmr.2 j p q h1 h2).1) ok
    let ⟨r1,r2⟩:=Fc (f:=dY S vt') (k:=k) hmr XA
    refine fin _ _ ?_ r1 r2;rw[VB,aeG,hlk];cases hq:(CA m.kt k l').bind λj=>(ms[j]?).map (·.val)with|none=>simp|some v=>simp
   |_=>
    rw[aeG]at hxr;cases hxr with|sym _ _ hd=>cases hd
  cases K
 exact It hX hS hf hs o (.inl ‹_›) h;exact It hX hS hf hs o (.inr ‹_›) h
 ·
  rename_i ty n cp A;split at h;rotate_left;cases h;rename_i i e nv cv I he hn hcv;split at h;rotate_left;cases h;rename_i n1 c1 B hn1 Z3;obtain⟨hb,C⟩|⟨_,C⟩:=ah h
  rotate_left;cases C;obtain⟨rfl,rfl,rfl⟩:=C;rw[eM]at hc;have hcn:c1=n1:=by simpa[iW]using hc.2
  subst hcn
  let ⟨p,hp,hpp⟩:=gi hn1
  let ⟨q,hq,hqq⟩:=gi Z3
  have e1:=dR hp hpp (cT hf hn);have e2:=dR hq hqq (cT hf hcv)
  let ⟨v,w',g',h1,h2,h3⟩:=E9 (P:=E.E.P) hS hs (gH hb) (hT.ti _ _ I) (Z4.row _ _ _ I he) hc.1 .i64 .i64
  exact⟨v,w',g',.inl (by simp[execOp,A,e1,e2,h1]),h2,h3⟩
 ·
  rename_i ty x A;split at h;rotate_left;cases h;rename_i i xv I F;split at h;rotate_left;cases h;rename_i b B hb;obtain⟨hn,C⟩|⟨_,C⟩:=ah h
  rotate_left;cases C;obtain⟨_,rfl,rfl⟩:=C
  let ⟨p,hp,hpp⟩:=kO hb
  have e1:=iw hp hpp (cT hf F)
  let ⟨_,d0,_,_,hu,_,_,_,_,hk⟩:=(hT.ti _ _ I).all
  rw[B]at hk;cases hk
  let ⟨v,w',g',h1,h2,h3⟩:=OQ (P:=E.E.P) hs (gH hn) hu b
  exact⟨v,w',g',.inl (by simp[execOp,A,e1,h1]),h2,h3⟩
 ·
  rename_i ty x u A;split at h;rotate_left
  .rename_i i I F;split at h;rotate_left;cases h;rename_i B;obtain⟨_,rfl,rfl⟩:=h;have:=(RN (w:=w) (hT.ti _ _ I) B (cT hf F) x).1;exact⟨_,w,g,.inl (by simp only[execOp,A,run_bind]at this ⊢;simp only[Act.eval]at this ⊢;rw[this];rfl),.kb W,cO.refl hs⟩
  cases h;rename_i i n y I F;split at h;rotate_left;cases h;rename_i B;obtain⟨_,rfl,rfl⟩:=h;have:=(Se (S:=S) hS (hT.ti _ _ I) B (cT hf F) x).1;exact⟨_,w,g,.inl (by simp only[execOp,A,run_bind]at this ⊢;simp only[Act.eval]at this ⊢;rw[this];rfl),.sym _ _ (.lit _),cO.refl hs⟩
 ·
  rename_i ty x u A;split at h;rotate_left
  .rename_i i I F;split at h;rotate_left;cases h;rename_i B;obtain⟨_,rfl,rfl⟩:=h;have:=(RN (w:=w) (hT.ti _ _ I) B (cT hf F) x).2;exact⟨_,w,g,.inl (by simp only[execOp,A,run_bind]at this ⊢;simp only[Act.eval]at this ⊢;rw[this];rfl),.kb J,cO.refl hs⟩
  cases h;rename_i i n y I F;split at h;rotate_left;cases h;rename_i B;obtain⟨_,rfl,rfl⟩:=h;have:=(Se (S:=S) hS (hT.ti _ _ I) B (cT hf F) x).2;exact⟨_,w,g,.inl (by simp only[execOp,A,run_bind]at this ⊢;simp only[Act.eval]at this ⊢;rw[this];rfl),.sym _ _ (.lit _),cO.refl hs⟩
 ·
  rename_i ty x u A;split at h;rotate_left;cases h;rename_i i e xv I he F;split at h;rotate_left;cases h;rename_i B hl;obtain⟨_,rfl,rfl⟩:=h
  let ⟨ad,n,m,R,hE⟩:=adY hs hl (cT hf F)
  have:=adX (w:=w) (hT.ti _ _ I) B ad n m x;exact⟨_,w,g,.inl (by rw[<-R]at this;simp only[execOp,A,run_bind]at this ⊢;simp only[Act.eval]at this ⊢;rw[this];rfl),.ub _ _ hE,cO.refl hs⟩
 ·
  rename_i x A;split at h;rotate_left
  .rename_i n y F;obtain⟨rfl,rfl,rfl⟩:=h
   let ⟨p,R,zl,hr⟩:=JQ (S:=S) (show aH g w (dY S (.opt n) y) (a.eval x)from cT hf F)
   have hne:p.isNone=J:=by rw[hc]at zl;simpa using zl
   refine⟨_,w,g,.inl ?_,hr hc (S.dfl n),cO.refl hs⟩;cases p with
   |none=>cases hne
   |some q=>simp[execOp,A,R]
  cases h;rename_i n y F;obtain⟨rfl,rfl,rfl⟩:=h;have hr:=cT hf F;rw[Bz]at hc;obtain⟨he,_⟩|⟨t',d,u,he,R,_⟩:=DG hS (show aH g w (dY S (.de n) y) (a.eval x)from hr)
  rw[he]at hc;cases hc;exact⟨_,w,g,.inl (by simp[execOp,A,R]),R▸hr,cO.refl hs⟩
 ·
  rename_i ty x u A;split at h;rotate_left
  .rename_i i I F;split at h;rotate_left;cases h;rename_i B;obtain⟨_,rfl,rfl⟩:=h;have:=(Dy (w:=w) (hT.ti _ _ I) B (aH.z4 (cT hf F)) x).1;exact⟨_,w,g,.inl (by simp only[execOp,A,run_bind]at this ⊢;simp only[Act.eval]at this ⊢;rw[this];rfl),.kb W,cO.refl hs⟩
  cases h;rename_i i n y I F;split at h;rotate_left;cases h;rename_i B;obtain⟨_,rfl,rfl⟩:=h
  let ⟨p,R,zl,_⟩:=JQ (S:=S) (show aH g w (dY S (.opt n) y) (a.eval x)from cT hf F)
  have:=(Dy (w:=w) (hT.ti _ _ I) B R x).1;exact⟨_,w,g,.inl (by simp only[execOp,A,run_bind]at this ⊢;simp only[Act.eval]at this ⊢;rw[this];rfl),by rw[zl];cases p<;>exact .sym _ _ (.lit _),cO.refl hs⟩
 ·
  rename_i ty x u A;split at h;rotate_left
  .rename_i i I F;split at h;rotate_left;cases h;rename_i B;obtain⟨_,rfl,rfl⟩:=h;have:=(Dy (w:=w) (hT.ti _ _ I) B (aH.z4 (cT hf F)) x).2;exact⟨_,w,g,.inl (by simp only[execOp,A,run_bind]at this ⊢;simp only[Act.eval]at this ⊢;rw[this];rfl),.kb J,cO.refl hs⟩
  cases h;rename_i i n y I F;split at h;rotate_left;cases h;rename_i B;obtain⟨_,rfl,rfl⟩:=h
  let ⟨p,R,zl,_⟩:=JQ (S:=S) (show aH g w (dY S (.opt n) y) (a.eval x)from cT hf F)
  have:=(Dy (w:=w) (hT.ti _ _ I) B R x).2;exact⟨_,w,g,.inl (by simp only[execOp,A,run_bind]at this ⊢;simp only[Act.eval]at this ⊢;rw[this];rfl),by rw[zl];exact .sym _ _ (.lit _),cO.refl hs⟩
 ·
  rename_i x xt ty ok A;split at h;rotate_left;cases h;rename_i i τ n y I he F
  let ⟨xi,d1,z,Q,Kb,_,XX,hzx,Bq,MW⟩:=(hT.ti _ _ I).all
  have hni:i.kd≠.iface->∀ms,d1≠.interface ms:=λhk ms hd=>hk ((hT.ti _ _ I).nif ms (by rw[Kb,hd]));have hr:=DG hS (show aH g w (dY S (.de n) y) (a.eval x)from cT hf F);have XA:aH g w (dY S τ (S.zero τ)) z:=tF (HO hS (hT.ti _ _ I) (Z4.row _ _ _ I he) (hX.zr _ _ _ I he) Q hzx);have hno:i.kd≠.iface->(∀d,uh S (S.alts n) (S.tZ n y)≠Z (ty,d))->(Instr.typeAssert (a.eval x) xt ty W).run E.E.P w=.ok (.tuple #[z,.bool J]) w:=by
   intro hk hne;obtain⟨_,R⟩|⟨t',d,u,he',R,_⟩:=hr
   .rw[R];simp only[Instr.typeAssert,run_bind,aN Kb,andThen_ok];cases d1 with|interface ms=>exact absurd rfl (hni hk ms)|_=>simp[ef Q hzx]
   have aoJ:t'≠ty:=λe=>hne d (e▸he');rw[R];simp only[Instr.typeAssert,run_bind,aN Kb,andThen_ok];cases d1 with|interface ms=>exact absurd rfl (hni hk ms)|_=>simp[aoJ,ef Q hzx]
  split at h;cases h
  .rename_i j hj hk;obtain⟨hb,C⟩|⟨_,C⟩:=ah h
   rotate_left;cases C;clear h;have hte:=jy hb;have hk':i.kd≠.iface:=λe=>hk e;obtain⟨h1,h2⟩|⟨h1,h2,h3⟩:=FO (S.alts n) ty j (S.tZ n y) S.zero (hS.alts n) hj
   ·
    obtain⟨he',_⟩|⟨t',d,u,he',R,hd⟩:=hr
    rw[he']at h2;cases h2;rw[he']at h2;simp at h2;obtain⟨rfl,rfl⟩:=h2;have hrun:∀ok,(Instr.typeAssert (a.eval x) xt t' ok).run E.E.P w=.ok (if ok then .tuple #[u,.bool W]else u) w:=by intro ok;rw[R];simp only[Instr.typeAssert,run_bind,aN Kb,andThen_ok];cases d1 with|interface ms=>exact absurd rfl (hni hk' ms)|_=>simp
    obtain⟨hok,C⟩|⟨hok,C⟩:=ah C
    .simp only[gC,fc]at C;obtain⟨_,rfl,rfl⟩:=C;subst hok;refine⟨_,w,g,.inl (by simp only[execOp,A,run_bind,hrun,andThen_ok,run_pure];rfl),.gG _ _ rfl λq t v k1 k2=>?_,cO.refl hs⟩
     match q with
     |0=>simp[bu]at k1 k2;subst k1;subst k2;exact tF hd|1=>simp[bu]at k1 k2;subst k1;subst k2;rw[h1];exact .sym _ _ (.lit _)|q+2=>simp[bu]at k1
    obtain⟨_,rfl,rfl⟩:=C;subst hok;exact⟨_,w,g,.inl (by simp only[execOp,A,run_bind,hrun,andThen_ok,run_pure];rfl),tF hd,cO.refl hs⟩
   ·
    obtain⟨hok,C⟩|⟨hok,C⟩:=ah C
    .simp only[gC,fc]at C;obtain⟨_,rfl,rfl⟩:=C;subst hok;refine⟨_,w,g,.inl (by simp only[execOp,A,run_bind,hno hk' h3,andThen_ok,run_pure];rfl),.gG _ _ rfl λq t v k1 k2=>?_,cO.refl hs⟩
     match q with
     |0=>simp[bu]at k1 k2;subst k1;subst k2;rw[h2];subst hte;exact XA|1=>simp[bu]at k1 k2;subst k1;subst k2;rw[h1];exact .sym _ _ (.lit _)|q+2=>simp[bu]at k1
    obtain⟨rfl,_⟩:=C;rw[h1]at hc;cases hc
  .rename_i hj hk;have hk':i.kd≠.iface:=λe=>hk e;obtain⟨hok,C⟩|⟨hok,C⟩:=ah h
   rotate_left;cases C;simp only[gC,fc]at C;obtain⟨_,rfl,rfl⟩:=C;subst hok;refine⟨_,w,g,.inl (by simp only[execOp,A,run_bind,hno hk' (λd=>FO.By _ _ _ hj d),andThen_ok,run_pure];rfl),.gG _ _ rfl λq t v k1 k2=>?_,cO.refl hs⟩
   match q with
   |0=>simp[bu]at k1 k2;subst k1;subst k2;exact XA|1=>simp[bu]at k1 k2;subst k1;subst k2;exact .kb _|q+2=>simp[bu]at k1
 ·
  rename_i ps A;split at h;rotate_left;cases h;rename_i i pv I hps;split at h;rotate_left;cases h;rename_i sz ag B;simp only[fG,fc]at h;obtain⟨cs,hcs,_,rfl,rfl⟩:=h
  let ⟨p,hfl,hp⟩:=Bu hS hcs
  rw[mV]at hfl
  let ⟨xi,d1,z,Q,Kb,_,XX,hzx,Bq,MW⟩:=(hT.ti _ _ I).all
  rw[B]at MW;obtain⟨el,j,d',rfl,hj,xB,hju,_⟩:=MW;have XA:=sv (g:=g) (w:=w) Bq;obtain⟨rs,h1,h2⟩:=vX (g:=g) (w:=w) (pl:=λk=>Z (k*sz,sz)) (λk off ti MS=>by
   obtain⟨rfl,rfl⟩:=MS;rfl) _ _ hfl hp (oQ hf (tQ hps)) ⟨by simpa using XA.1,λj t v h1 h2=>XA.2 j t v h1 (by simpa using h2)⟩
  refine⟨.agg rs,w,g,.inl ?_,.agg _ _ (by simpa using h2.1) (λj t v h3 h4=>h2.2 j t v h3 (by simpa using h4)),cO.refl hs⟩;have ajd:Instr.fill (λi=>Z (i*sz,sz)) z.cells (ps.map λ(i,x)=>(i,a.eval x)).toList=Z rs:=by simpa using h1
  simp only[execOp,A,Instr.build,run_bind,ef Q hzx,aN Kb,dm hj,xB,andThen_ok,run_pure,ajd]
 cases h
end
section
variable {g:Gh}{w:av}
def Jb{β:Type}{ω:Type}{X:V S->bf S->O ω}{D:O ω}{a:Ty}(k:den S.A a)(f:β->V S)(s:bf S):∀(l:L (den S.A a×β)),
  xZ X D (l.map λp=>(Fj a k p.1,f p.2,s))=match(CA a k l).bind (l[·]?)with
   |some p=>X (f p.2) s|none=>D
 |[]=>rfl|p::l=>by
  simp[mh,xZ,CA];cases b:Fj a k p.1 with
  |true=>simp[aj]|false=>
   simp[aj,gJ];rw[Jb k f s l];cases CA a k l with|none=>rfl|some j=>simp
def wD{ω:Type}{X:V S->bf S->O ω}{n:Int}{ag:aa}{sz:Nat}{cs:L (V S)}{s:bf S}{r:ω}:∀{l:L Nat},xZ X Y (za n ag sz cs s l)=Z r->
  ∃j v,j∈l/\n=(j:Int)/\((cs.drop (j*sz)).take sz).length=sz/\0<sz/\Cp ag ((cs.drop (j*sz)).take sz)=Z v/\X v s=Z r
 |[],h=>by cases h
 |j::l,h=>by
  simp only[za]at h;split at h
  .rename_i a;obtain⟨b,a⟩|⟨_,a⟩:=ah a
   rotate_left;cases a;rw[eM]at b;have d:=beq_iff'.1 b.1;rw[bS]at d;obtain⟨e,h⟩|⟨_,h⟩:=HW h
   simp_all[iW]
   let ⟨i,u,h1,h2⟩:=wD h
   grind
  cases h
where
 HW {α:Type} {c:aa} {x y:O α} {r:α} (h:aj c x y=Z r):(c=W/\x=Z r)\/(c=J/\y=Z r):=ah h
variable {s s':bf S}{E:fN}{fr:bV S}{a:Act}{o:Oper}{cl:Call}{b:Builtin}{args:List (V S)}{c:aa}{t:V S}
def RM(hT:AI E.E)(hX:XOk S E)(hf:cS g (bB fr) a w)(hs:aY g (aE s) w)(o:Oper){U8:L (aa×V S×bf S)}{p:aa}{d:V S}(h:Io E fr s o.op=Z (U8,p,d,s')){ω:Type}{X:V S->bf S->O ω}{r:ω}
  (e:xZ X (aU p (X d s')) U8=Z r) :
  ∃t s1 v w' g',X t s1=Z r/\((execOp a.eval o).run E.E.P w=.ok (.value v) w'\/((execOp a.eval o).run E.E.P w=.ok .skip w'/\v=undef))/\aH g' w' (low t) v/\cO [] s g w s1 g' w'/\((∀it b,o.op≠.next it b)->s1=s):=by
 unfold Io at h;split at h
 ·
  rename_i it B;split at h;rotate_left;cases h;rename_i C hit;split at h;rotate_left;cases h;rename_i b pos l9;obtain⟨hfl,h9⟩|⟨_,h9⟩:=ah h
  rotate_left;cases h9;clear h;obtain⟨rfl,rfl,rfl,rfl⟩:=h9
  let ⟨bP,hie,hb⟩:=aH.abk (cT hf hit)
  have MU:(aE s).ob.get C=Z (.qO (cR b) pos):=by rw[aK,l9];rfl
  let ⟨x0,hh,XH⟩:=(hs.box C bP hb).2.2 _ MU
  have K:=(hs.box C bP hb).2.1;cases XH;have dN:(getObj bP).run E.E.P w=.ok (.stringIter (cR b) pos) w:=by simp[getObj,Sem.run,hh]
  have u7:∀x,(setObj bP x).run E.E.P w=.ok () {w with heap:=w.heap.setIfInBounds bP x}:=λx=>by simp[setObj,Sem.run,hh]
  have F:(cR b).size=b.length:=by rfl
  obtain⟨hp,e⟩|⟨hp,e⟩:=wD.HW e
  .have hp':pos<(cR b).size:=by rw[F];simpa[OZ]using hp
   let ⟨q1,q2,q3⟩:=Du (.stringIter (cR b) (pos+Hf b pos)) K
   let ⟨Ll,UA⟩:=hs.setObj hb MU rfl (gH hfl) (ZY:=.qO (cR b) (pos+Hf b pos)) (.qO _ _) q1 q2 q3 rfl rfl
   refine⟨_,_,.tuple #[.bool W,goInt pos,.int .i32 (uK b pos)],_,g,e,.inl ?_,.gG _ _ rfl λq t v y A=>?_,cO.kA hs (by rw[eu];exact Ll) UA rfl rfl (cM _) (oM _ _ _),λhh=>absurd B (hh it W)⟩
   .have hrun:(Instr.next (a.eval it) W o.type).run E.E.P w=.ok (.tuple #[.bool W,goInt pos,.int .i32 (uK b pos)]) {w with heap:=w.heap.setIfInBounds bP (.stringIter (cR b) (pos+Hf b pos))}:=by rw[hie];simp only[Instr.next,run_bind,dN,andThen_ok,hp',yE,u7];rfl
    grind[execOp,run_bind,andThen_ok,run_pure]
   match q with
   |0=>simp[bu]at y A;subst y;subst A;exact .kb _|1=>simp[bu]at y A;subst y;subst A;exact .sym _ _ (.lit _)|2=>simp[bu]at y A;subst y;subst A;exact .sym _ _ (.lit _)|q+3=>grind
  .have hp':¬pos<(cR b).size:=by rw[F];simpa[OZ]using hp
   refine⟨_,_,.tuple #[.bool J],w,g,e,.inl ?_,.gG _ _ rfl λq t v y A=>?_,cO.refl hs,λhh=>absurd B (hh it W)⟩
   .have hrun:(Instr.next (a.eval it) W o.type).run E.E.P w=.ok (.tuple #[.bool J]) w:=by rw[hie];simp only[Instr.next,run_bind,dN,andThen_ok,hp',if_false];rfl
    grind[execOp,run_bind,andThen_ok,run_pure]
   match q with
   |0=>simp[bu]at y A;subst y;subst A;exact .kb _|q+1=>grind
 ·
  rename_i ty x ix ok B;split at h;rotate_left;cases h;rename_i m C kv hm hx hk;split at h;rotate_left;cases h;rename_i kt l k i l9 hkey Uu;split at h;rotate_left;cases h;rename_i l' z hck hpz;simp only[gC,fc]at h;obtain⟨rfl,rfl,rfl,rfl⟩:=h;obtain⟨rfl,hll⟩:=Gb hck;cases hll
  let ⟨kid,dd,ht,hu,Q,⟨xi,zv,MR,hz⟩,_⟩:=hX.mt _ _ hm
  have VB:=qu hkey (cT hf hk)
  let ⟨b,Z0,hb⟩:=aH.Fs (cT hf hx)
  obtain⟨x0,hh,XH⟩:=(hs.box C b hb).2.2 _ (by rw[aK,l9];rfl);obtain⟨ms,cl,rfl,R⟩:=gM.LC Q (f:=low) XH;have hlk:=yz (P:=E.E.P) Q ht hu MR hz k hh R.1 (λj p q h1 h2=>(R.2 j p q h1 h2).1) ok;have XA:aH g w (low z) zv:=by
   let ⟨x',_,z',hx',_,_,XX,hz',Bq,_⟩:=(hT.ti _ _ Uu).all
   rw[MR]at hx';cases hx';rw[hz]at hz';cases hz'
   let ⟨hza,hzn⟩:=(hT.ti _ _ Uu).zag _ _ MR hz
   let ⟨hz1,hz2⟩:=sv (g:=g) (w:=w) Bq
   have hp:=pG hpz;rw[mV]at hp
   let ⟨rT,_⟩:=wZ (g:=g) (w:=w) hp (vals:=zv.cells.toList) (by omega) (λj t v h1 h2=>hz2 j t v h1 (by simpa using h2))
   cases hia:i.agg with
   |true=>
    obtain⟨vs,rfl⟩:=hza hia
    simp_all[Value.cells]
   |false=>
    simp_all
  rw[Jb k (λv=>bif ok then .gG [v,.kb W]else v) s l']at e;have wrap:∀(t:V S)(u:az)(bb:aa),aH g w (low t) u->aH g w (low (bif ok then .gG [t,.kb bb]else t:V S)) (if ok then .tuple #[u,.bool bb]else u):=by
   intro t u bb hu;cases ok with
   |false=>exact hu|true=>
    refine .gG _ _ rfl λq t v y A=>?_
    match q with
    |0=>grind[bu]|1=>simp[bu]at y A;subst y;subst A;exact .kb _|q+2=>grind
  have c:=hlk;rw[<-Z0,<-VB]at c;cases hix:CA m.kt k l' with
  |none=>rw[hix]at e c;exact⟨_,_,_,w,g,e,.inl (by grind[execOp,run_bind,andThen_ok,run_pure]),wrap z zv J XA,cO.refl hs,λ_=>rfl⟩
  |some j=>
   let ⟨q,hq,_⟩:=vM hix
   have hj:j<ms.size:=by rw[<-R.1];grind
   have hmj:ms[j]?=Z ms[j]:=tO hj;rw[hix]at e c;simp[RB,hq,hmj,jq]at e c;exact⟨_,_,_,w,g,e,.inl (by grind[execOp,run_bind,andThen_ok,run_pure]),wrap q.2 _ W (R.2 j q _ hq hmj).2,cO.refl hs,λ_=>rfl⟩
 ·
  rename_i B;split at h;rotate_left;cases h;rename_i hi hx hk;split at h;rotate_left;cases h;rename_i len sz ag n Q hn;obtain⟨hlen,h9⟩|⟨_,h9⟩:=ah h
  rotate_left;cases h9;clear h;obtain⟨rfl,rfl,rfl,rfl⟩:=h9;obtain⟨j,v,hjm,rfl,hl,hsz,hpk,hXv⟩:=wD e;have hjl:j<len:=List.mem_range.1 hjm
  let ⟨pq,hp,hpp⟩:=gi hn
  have e1:=dR hp hpp (cT hf hk)
  let ⟨_,d1,_,_,Kb,hsz1,hag1,_,_,MW⟩:=(hT.ti _ _ hi).all
  rw[Q]at MW;obtain⟨el,jj,d',rfl,hj1,hj2,hj3,hj4⟩:=MW
  let ⟨vs,Z0,oX⟩:=aH.Sc (cT hf hx)
  have I:=(oX.drop (j*sz)).take sz;have K:=pG hpk;rw[lR,lT]at K
  let ⟨rT,h1⟩:=wZ (g:=g) (w:=w) K I.1 I.2
  have hlv:((vs.toList.drop (j*sz)).take sz).length=sz:=by rw[<-I.1,<-lT,<-lR,eF];exact hl
  have hle:j*sz+sz<=vs.size:=by
   grind
  have hrp:=LP (P:=E.E.P) (w:=w) hj1 hj3 vs (j*sz) (by omega) (λhd=>by
   grind)
  rw[hj2,<-hj4]at hrp;refine⟨v,s,_,w,g,hXv,.inl ?_,rT,cO.refl hs,λ_=>rfl⟩;have hin:(0:Int)<=(j:Int)/\(j:Int)<(len:Int):=by omega
  simp only[execOp,B,Instr.index,e1,Z0,asIntOf,run_bind,run_pure,andThen_ok,aN Kb,bO hin,dm hj1,hj2,RD,hrp]
 cases h
def aap(P:cP)(a:Array TypeId)(ty:TypeId)(m n:Int):(Builtin.max_ a ty #[.int .i64 m,.int .i64 n]).run P w=.ok (.int .i64 (aaT m n)) w:=by simp only[Builtin.max_,List.foldlM_cons,List.foldlM_nil,Builtin.max2,aaT,aD];by_cases h:m<n<;>simp[h]
def aao(P:cP)(a:Array TypeId)(ty:TypeId)(m n:Int):(Builtin.min_ a ty #[.int .i64 m,.int .i64 n]).run P w=.ok (.int .i64 (aaS m n)) w:=by simp only[Builtin.min_,List.foldlM_cons,List.foldlM_nil,Builtin.min2,aaS,aD];by_cases h:n<m<;>simp[h]
def Aw(hX:XOk S E)(hs:aY g (aE s) w)(hf:cS g (bB fr) a w)(B:o.op=.call cl)(hb:cl.callee=.builtin b)(j:jN fr cl.args.toList=Z args)
  (h:s6 E s b cl.argTypes args=Z (c,t,s')):s'=s/\∃v,(execOp a.eval o).run E.E.P w=.ok (.value v) w/\aH g w (low t) v:=by
 have e:=eO hf (gN j);unfold s6 at h;split at h;rename_i k;have key:∀(l:Nat)(ob:uz S),s.ob.get k=Z ob->(∀x,gM g w (cX ob) x->∃p c,x=.map p c/\p.size=l)->∀m,(nth cl.argTypes.toList 0).bind E.mt=Z m->
   ∃v,(execOp a.eval o).run E.E.P w=.ok (.value v) w/\aH g w (low (.ty (.int .i64) (l:Int):V S)) v:=by
  intro l ob f q m i;simp[uY]at i
  let ⟨ty,C,F⟩:=i
  let ⟨kid,d,ht,_⟩:=hX.mt _ _ F
  have h0:aH g w (.mp k) ((cl.args.toList.map a.eval)[0]'(by have:=e.1;simp[bu]at this;simp;omega)):=e.2 0 _ _ rfl (iu _)
  let ⟨bP,hbe,r⟩:=aH.Fs h0
  obtain⟨x0,hh,I⟩:=(hs.box k bP r).2.2 _ (by rw[aK,f];rfl);obtain⟨p,cc,rfl,K⟩:=q _ I;have dN:(getObj bP).run E.E.P w=.ok (.map p cc) w:=mY hh;have P:(cl.args.map a.eval)[0]?=Z (.map (Z bP)):=by
   grind
  have z:cl.argTypes[0]?=Z ty:=by rw[jP]at C;grind
  refine⟨goInt p.size,?_,by rw[K];exact .sym _ _ (.lit _)⟩;simp[execOp,B,resolve,hb,run_bind,run_pure,andThen_ok,invoke,builtin,Builtin.len_,z,P,aN ht,dN]
 split at h;rename_i m kt vt l i f;obtain⟨_,rfl,rfl⟩:=h;exact⟨rfl,key l.length _ f (λx q=>by cases q with|map _ p c Q _=>simp_all) m i⟩;rename_i m kt l i f;obtain⟨_,rfl,rfl⟩:=h;exact⟨rfl,key l.length _ f (λx q=>by cases q with|map _ p c Q _=>simp_all) m i⟩;cases h
 .rename_i x y;split at h;rotate_left;cases h;rename_i m n i A;obtain⟨_,rfl,rfl⟩:=h
  let ⟨a1,ha⟩:=Lx e i A
  refine⟨rfl,.int .i64 (aaT m n),?_,.sym _ _ (.lit _)⟩
  simp_all[execOp,resolve,invoke,builtin,aap]
 .rename_i x y;split at h;rotate_left;cases h;rename_i m n i A;obtain⟨_,rfl,rfl⟩:=h
  let ⟨a1,ha⟩:=Lx e i A
  refine⟨rfl,.int .i64 (aaS m n),?_,.sym _ _ (.lit _)⟩
  simp_all[execOp,resolve,invoke,builtin,aao]
 cases h
where
 Lx {l:Array Operand} {a:Act} {x y:V S} {m n:Int} (e:PW (aH g w) (bu [x,y]) (l.toList.map a.eval)) (i:l6 .i64 x=Z m) (A:l6 .i64 y=Z n):True/\l.map a.eval=#[.int .i64 m,.int .i64 n]:=by
  refine⟨trivial,?_⟩;have Q:(l.toList.map a.eval).length=2:=by have:=e.1;simpa[bu]using this.symm
  match R:l.toList.map a.eval,Q with
  |[u,v],_=>
   rw[R]at e;have h1:=e.2 0 _ _ rfl rfl;have h2:=e.2 1 _ _ rfl rfl
   grind[gi,dR]
def Kw(hX:XOk S E)(hs:aY g (aE s) w)(hf:cS g (bB fr) a w)(I:o.op=.call cl)(hb:cl.callee=.builtin b)(p:jN fr cl.args.toList=Z args)
  (h:s7 E s b cl.argTypes args=Z (c,t,s')):∃v w' g',(execOp a.eval o).run E.E.P w=.ok (.value v) w'/\aH g' w' (low t) v/\cO [] s g w s' g' w':=by
 have i:=eO hf (gN p);unfold s7 at h;split at h;rotate_left;cases h;rename_i q kv;split at h;rotate_left;cases h;rename_i m kt K l hm y;split at h;rotate_left;cases h;rename_i l' k Q z;obtain⟨r,R⟩|⟨_,R⟩:=ah h
 rotate_left;cases R;obtain⟨rfl,j⟩:=Gb Q;cases j;obtain⟨_,rfl,rfl⟩:=R;have r:s.fl<=q:=gH r;simp only[uY]at hm;obtain⟨ty,Kc,hmt⟩:=hm
 let ⟨kid,d,ht,hu,x,_,_⟩:=hX.mt _ _ hmt
 have A:(cl.args.toList.map a.eval).length=2:=by have:=i.1;simpa[bu]using this.symm
 match j:cl.args.toList.map a.eval,A with
 |[u,v],_=>
 rw[j]at i
 let ⟨bP,hbe,e⟩:=aH.Fs (i.2 0 _ _ rfl rfl)
 have VB:=qu z (i.2 1 _ _ rfl rfl);obtain⟨x0,hh,XH⟩:=(hs.box q bP e).2.2 _ (by rw[aK,y];rfl);obtain⟨ms,cc,rfl,hmr⟩:=gM.LC x (f:=dY S K) XH;have n:(cl.args.map a.eval)=#[.map (Z bP),eY m.kt k]:=by apply Array.toList_inj.1;rw[RA,j,hbe,VB]
 have B:cl.argTypes[0]?=Z ty:=by rw[jP]at Kc;grind
 let ⟨ms',C,F⟩:=OK (P:=E.E.P) x ht hu k hh hmr B (ty:=o.type) (args:=cl.args.map a.eval) (by rw[n];rfl) (by rw[n];rfl)
 let ⟨q1,q2,q3⟩:=Du (.map ms' cc) (hs.box q bP e).2.1
 let ⟨Ll,UA⟩:=hs.setObj e (by rw[aK,y];rfl) rfl r (ZY:=cX (.map m.kt K (Kp m.kt k l'))) (Dn.ob x (f:=dY S K) F cc) q1 q2 q3 rfl rfl
 refine⟨.tuple #[],_,g,?_,.sym _ _ (.lit _),cO.kA hs (by rw[eu];exact Ll) UA rfl rfl (cM _) (oM _ _ _)⟩;simp[execOp,I,resolve,hb,run_bind,run_pure,andThen_ok,invoke,builtin,C]
theorem OJ{E:fN}(j:XOk S E){t:TypeId}{b:String}{f:FuncId}(h:E.JX t b=Z f)(v:az)(args:Array az)(hf:lH E.E.P f):(callMethod (.iface t v) b args).run E.E.P w=.ok (.enter f (#[v]++args)) w:=by
 let ⟨x,q,d,k,l,m,o,a⟩:=j.JX _ _ _ h
 obtain⟨n,p⟩:∃n,E.E.P.types.size+Made.depth=n+1:=⟨E.E.P.types.size+Made.depth-1,by rfl⟩;have c:(method (E.E.P.types.size+Made.depth) t v b).run E.E.P w=.ok (f,v) w:=by
  rw[p];simp only[method,run_bind,rJ k,andThen_ok,l,m,follow,run_pure];obtain⟨a,g⟩|⟨a,e,rfl⟩:=a
  simp only[a,run_bind,receiverAt,aN o,andThen_ok];cases d<;>first|(exact absurd rfl (g _))|(simp[Place.get])
  simp_all[receiverAt,aN,Place.get]
 have i:(Go.program).run E.E.P w=.ok E.E.P w:=rfl
 grind[callMethod,run_bind,andThen_ok,wT]
def LQ(g:XOk S E){c:Call}(b:o.op=.call c){x:Operand}{m:String}(d:c.callee=.invoke x m){t:TypeId}{v:az}(e:a.eval x=.iface t v){f:FuncId}(h:E.JX t m=Z f)(i:lH E.E.P f) :
  (execOp a.eval o).run E.E.P w=.ok (.enter f (#[v]++c.args.map a.eval)) w:=by
 simp only[execOp,b,resolve,d,e,run_bind,run_pure,andThen_ok,invoke]
 grind[Array.ext',Array.toList_extract,List.take_of_length_le,OJ]
end
section
variable {g:Gh}{w:av}
def lI(s:bf S)(o:Nat)(ob:Ob):St:={aE s with ob:=(aE s).ob.set aO o ob}
variable {s s':bf S}{o n j era m gR k r i off:Nat}{hole:Option Nat}{hl:List az}{d:D}{h v:az}{a:Act}
def HP(hs:aY g (aE s) w){l:L (S.A n)}{x:eU}(a:s.ob.get o=Z (.kT n j l era m gR hole))(b:g.arr o era=Z x) :
  ∃hl,hl.length=l.length/\wQ g w J (S.width (.st n)) (lits j (l.map (enc S (.st n))) hl) x/\HK g m gR hole hl/\aY g (lI s o (.arr (S.width (.st n)) (lits j (l.map (enc S (.st n))) hl) era)) w:=by
 obtain⟨hl,h1,h2,h3,h4⟩:=hs.view (by rw[aK,a];rfl) b;exact⟨hl,by simpa using h1,h2,h3,h4⟩
def zo{s1:St}(h:aY g s1 w){l:L (S.A n)}(a:o<bD)(h1:s1.ob.get o=Z (.arr (S.width (.st n)) (lits j (l.map (enc S (.st n))) hl) era))(b:hl.length=l.length)
  (c:HK g m gR hole hl) (h2:s'.ob.get o=Z (.kT n j l era m gR hole)) (h3:∀k,k≠o->(aE s').ob.get k=s1.ob.get k) (h4:s'.aF=s1.aF):aY g (aE s') w:=by
 refine(h.VN (es:=l.map (enc S (.st n))) a h1 (by grind) c).X0 h4 λk=>?_;rw[Tr.aV _ _ _ _ a];by_cases d:k=o;subst d;rw[bO rfl,aK,h2];rfl
 simp_all
def gp(a:o<bD)(ob:Ob)(k:Nat):(lI s o ob).ob.get k=if k=o then Z ob else(aE s).ob.get k:=Tr.aV _ _ _ _ a
def J2{es:L D}(h1:es[k]?=Z d)(h2:hl[k]?=Z h):iX (lits j es hl) k=jh j d h:=by
 grind[iX,lits]
def Ep(h:aH g w (.sh o r) v):∃x,g.arr o r=Z x/\v=.slice x.a x.len x.cap:=by cases h with|sh _ _ len cap sz a b=>simp_all
def Sw{e:Nat}(h:aH g w (.lC o e i off) v):∃x,g.arr o e=Z x:=by cases h with|lC _ _ _ _ len cap sz a b=>grind
def RO(h:aH g w (.rQ o m r i) v):∃y,g.arr m (rc r i)=Z y/\v=.slice y.a y.len y.cap:=by cases h with|rQ _ _ _ _ len cap sz a b=>simp_all
def TV(fr:Fr)(x:Operand)(t:T):Fr:=match x with
 |.tmp k=>{fr with tm:=fr.tm.set aO k t}
 |_=>fr
def Mq{fr:Fr}(hf:cS g fr a w){u t:T}(c:fr.get k=Z u)(b:k<bD)(f:aH g w t (a.eval (.tmp k))):cS g (TV fr (.tmp k) t) a w:=by
 refine⟨hf.size,hf.df,λd e h=>?_⟩;simp[TV,Fr.get]at h;rw[Tr.aV _ _ _ _ b]at h;split at h;cases h
 let ⟨v,i,_⟩:=hf.tm _ _ c
 simp_all[Act.eval]
 exact hf.tm d e h
def TY{i:TI}(b:Nl (Na off i.size) j=W\/Nt j off=W):mO i (jh j d h) off=mO i d off:=by
 have a:∀q,(off<=q/\q<off+i.size)->(jh j d h).cell q=d.cell q:=by
  intro q c;have e:j≠q:=by
   obtain b|b:=b
   have:=gH b
   grind
   have:j<off:=gH b;omega
  show(d.cells.set j _).getD q _=d.cells.getD q _
  simp_all
 unfold mO;cases i.agg with
 |true=>
  simp only[gn]
  congr 2
  refine OV λq c=>?_;have:=a (Na off q) ⟨Nat.le_add_right _ _,Nat.add_lt_add_left (List.mem_range.1 c) _⟩;rw[this]
 |false=>
  simp;cases f:Nq i.size 1 with|true=>have:=beq_iff'.1 f;simp only[gn];rw[a off ⟨cM _,by omega⟩]|false=>rfl
def LD(s:St):∀{l:L T}{p:Prop}{ds:L D}{os:L Nat}{j:Nat},nH s l=Z (p,ds,os)->l[j]?=Z .emp->∀v,∃b,nH s (l.set j (.sym (.lit v)))=Z (b,ds.set j (.lit v),os)/\(p->b)/\ds[j]?=Z (.sl [])
 |[],p,ds,os,j,_,a,v=>by simp at a
 |t::l,p,ds,os,j,h,a,v=>by
  simp[nH]at h;split at h
  .rename_i q d c r e f h1 h2;obtain⟨rfl,rfl,rfl⟩:=h;cases j with
   |zero=>simp at a;subst a;obtain⟨rfl,rfl,rfl⟩:=h1;exact⟨True/\r,by grind[nH,AV],λh=>h,rfl⟩
   |succ j=>obtain⟨b,k,g,i⟩:=LD s h2 (by simpa using a) v;exact⟨q/\b,by grind[nH],λh=>⟨h.1,g h.2⟩,by simpa using i⟩
  cases h
def aaM{E:fN}(hS:eZ S)(hT:AI E.E)(Z4:Qw S E){fr:bV S}(hf:cS g (bB fr) a w)(hs:aY g (aE s) w)(o:Oper){c:aa}{t:V S}(h:AP E fr s o.op=Z (c,t,s'))(hc:c=W) :
  ∃v w' g',((execOp a.eval o).run E.E.P w=.ok (.value v) w'\/((execOp a.eval o).run E.E.P w=.ok .skip w'/\v=undef))/\aH g' w' (low t) v/\cO [] s g w s' g' w':=by
 unfold AP at h;split at h
 ·
  rename_i ty x ix Q;split at h;rotate_left;cases h;rename_i I r hx;split at h;rotate_left;cases h;rename_i n j l era m gR hole l9;split at h;rotate_left;cases h;rename_i i n' kv hi Kc hix;split at h;rotate_left;cases h;rename_i sz ag bt zz k xA hk;obtain⟨hb,f⟩|⟨_,f⟩:=ah h
  rotate_left;cases f;simp only[eM]at hb;have XF:=beq_iff'.1 hb.1;subst XF;have hnn:=beq_iff'.1 hb.2;subst hnn;obtain⟨rfl,rfl,rfl⟩:=f
  let ⟨R,C,_⟩:=Ep (cT hf hx)
  have A:I<bD:=iE (hs.lt' C) hs.aF
  let ⟨hl,h1,h2,h3,h4⟩:=HP hs l9 C
  let ⟨p,hp1,hp⟩:=gi hk
  let ⟨⟨z,MV,_⟩,_⟩:=Z4.row _ _ _ hi Kc
  have hin:=vO hc;have hbq:Nq (S.width (.st n)) (S.width (.st n))=W:=beq_iff'.2 rfl;have F:(lits j (l.map (enc S (.st n))) hl).length=l.length:=by rw[nM (by simpa using h1)];simp
  let ⟨⟨v,w',g',hr,B,he,ht⟩,q1,q2,q3⟩:=m7 hT hf h4 o (p:=p/\kY k (eE (lits j (l.map (enc S (.st n))) hl))) (t:=.lC I r (CY k) 0) (s':=lI s I (.arr (S.width (.st n)) (lits j (l.map (enc S (.st n))) hl) r)) (by
   rw[Q];simp[n9,hi,cw hx,cw hix,jT,MV,hp1,low,HD];rw[gp A,bO rfl];simp) ⟨hp,by simp[kY,eE,F];omega⟩
  refine⟨v,w',g',hr,ht,cO.kA hs ?_ he rfl rfl (cM _) (qJ.refl _)⟩;refine zo B A (by rw[gp A,bO rfl]) h1 (h3.le (λj y=>he.arr m j y)) l9 (λk hk=>by rw[gp A,cm hk]) rfl
 ·
  rename_i ty x Q;split at h;rotate_left;cases h;rename_i I e k off hx;split at h;rotate_left;cases h;rename_i n j l era m gR hole l9;split at h;rotate_left;cases h;rename_i i hi;obtain⟨hb,f⟩|⟨_,f⟩:=ah h
  rotate_left;cases f;clear h;have XF:=beq_iff'.1 hb;subst XF
  let ⟨R,C⟩:=Sw (cT hf hx)
  have A:I<bD:=iE (hs.lt' C) hs.aF
  let ⟨hl,h1,h2,h3,h4⟩:=HP hs l9 C
  have F:(lits j (l.map (enc S (.st n))) hl).length=l.length:=by rw[nM (by simpa using h1)];simp
  have back:∀{g':Gh}{w':av},aY g' (lI s I (.arr (S.width (.st n)) (lits j (l.map (enc S (.st n))) hl) e)) w'->Ext s.fl g w g' w'->cO [] s g w s g' w':=λB he=>
   cO.kA hs (zo B A (by rw[gp A,bO rfl]) h1 (h3.le (λj y=>he.arr m j y)) l9 (λk hk=>by rw[gp A,cm hk]) rfl) he rfl rfl (cM _) (qJ.refl _)
  obtain⟨hj,h⟩|⟨hj,h⟩:=ah f
  ·
   clear f;obtain⟨K,f⟩|⟨_,f⟩:=ah h
   rotate_left;cases f;simp only[eM,Mb]at K;obtain⟨rfl,rfl,rfl⟩:=f;have hoff:=beq_iff'.1 hj;subst hoff;have hk:=sS hc;have hel:iX (lits off (l.map (enc S (.st n))) hl) k=jh off (enc S (.st n) l[k]) (hl[k]'(by omega)):=J2 (by rw[kF,iu hk];rfl) (iu _);have hrow:=h2.rows _ (hU (by rw[lits,Wc,kF,iu hk,iu (by omega:k<hl.length)];rfl:(lits off (l.map (enc S (.st n))) hl)[k]?=Z (jh off (enc S (.st n) l[k]) (hl[k]'(by omega)))));have hsz:i.size=1:=beq_iff'.1 K.1;have Sl:off<S.width (.st n):=gH K.2.2.2;have hcell:(jh off (enc S (.st n) l[k]) (hl[k]'(by omega))).cell off=.lit (hl[k]'(by omega)):=by
    show((enc S (.st n) l[k]).cells.set off _).getD off _=_;have:off<(enc S (.st n) l[k]).cells.length:=by rw[ki hS];exact Sl
    simp[this]
   let ⟨⟨v,w',g',hr,B,he,ht⟩,q1,q2,q3⟩:=m7 hT hf h4 o (t:=.sym (.lit (hl[k]'(by omega)))) (s':=lI s I (.arr (S.width (.st n)) (lits off (l.map (enc S (.st n))) hl) e)) (p:=kY (k:Int) (eE (lits off (l.map (enc S (.st n))) hl))/\(iX (lits off (l.map (enc S (.st n))) hl) k).has (Na off i.size)) (by
    rw[Q];simp only[n9,hi,cw hx,low,loadT,HD];rw[gp A,bO rfl];simp[show Nq e e=W from beq_iff'.2 rfl,gn,hel,mO,K.2.1,gJ,K.1,hcell,jq]) ⟨by simp only[kY,eE,F];omega,by
     rw[hel];show Na off i.size<=_;rw[hrow,hsz];exact Sl⟩
   have hv:=aH.z4 ht
   let ⟨y,hy,hye⟩:=h3.2 k _ (iu (by omega)) (by
    intro e;rw[e]at K;exact Bool.noConfusion K.2.2.1)
   refine⟨v,w',g',hr,?_,back B he⟩;rw[hv,hye];exact .rQ _ _ _ _ _ _ y.sz _ (he.arr _ _ _ hy)
  ·
   clear f;obtain⟨K,f⟩|⟨_,f⟩:=ah h
   rotate_left;cases f;simp at f;obtain⟨u,hu,rfl,rfl,rfl⟩:=f;rw[nI]at K;have hk:=sS hc
   let ⟨p1,p2⟩:=A9 hS (i:=i) (τ:=Y) (λu h=>by cases h) hu
   have hex:aX l k (S.zero (.st n))=l[k]:=by simp[aX,hk]
   rw[hex]at p1 p2;have hel:iX (lits j (l.map (enc S (.st n))) hl) k=jh j (enc S (.st n) l[k]) (hl[k]'(by omega)):=J2 (by rw[kF,iu hk];rfl) (iu _)
   let ⟨⟨v,w',g',hr,B,he,ht⟩,q1,q2,q3⟩:=m7 hT hf h4 o (t:=low u) (s':=lI s I (.arr (S.width (.st n)) (lits j (l.map (enc S (.st n))) hl) e)) (p:=kY (k:Int) (eE (lits j (l.map (enc S (.st n))) hl))/\(iX (lits j (l.map (enc S (.st n))) hl) k).has (Na off i.size)) (by
    rw[Q];simp only[n9,hi,cw hx,low,loadT,HD];rw[gp A,bO rfl];simp[show Nq e e=W from beq_iff'.2 rfl,gn,hel,TY K,p1,jq]) ⟨by simp only[kY,eE,F];omega,by
     rw[hel];show Na off i.size<=((enc S (.st n) l[k]).cells.set j _).length;rw[Ie];exact p2⟩
   exact⟨v,w',g',hr,ht,back B he⟩
 ·
  rename_i ty x kx Q;split at h;rotate_left;cases h;rename_i I e k off o' m' r i hx hy;split at h;rotate_left;cases h;rename_i n j l era m gR hh l9;split at h;rotate_left;cases h;rename_i ti hi;obtain⟨hb,f⟩|⟨_,f⟩:=ah h
  rotate_left;cases f;clear h;simp only[eM,Mb]at hb
  let ⟨b1,b2,b3,b4,b5,b6,b7,b8,b9,b10⟩:=hb
  have e1:=beq_iff'.1 b1;subst e1;have e2:=beq_iff'.1 b2;subst e2;have e3:=beq_iff'.1 b3;subst e3;have e4:=beq_iff'.1 b4;subst e4;have e5:=beq_iff'.1 b5;subst e5;obtain⟨rfl,rfl,rfl⟩:=f;unfold XI at hc;simp only[eM]at hc;have hk:=sS hc.1;have e6:=beq_iff'.1 hc.2.1;subst e6;have e7:=beq_iff'.1 hc.2.2;subst e7
  let ⟨R,C⟩:=Sw (cT hf hx)
  have A:o'<bD:=iE (hs.lt' C) hs.aF
  let ⟨hl,h1,h2,h3,h4⟩:=HP hs l9 C
  have F:(lits off (l.map (enc S (.st n))) hl).length=l.length:=by rw[nM (by simpa using h1)];simp
  have Sl:off<S.width (.st n):=gH b9;have hval:=cT hf (x:=.tmp kx) (v:=.rQ o' m' r i) hy
  let ⟨y,hy1,hye⟩:=RO hval
  have hel:iX (lits off (l.map (enc S (.st n))) hl) i=jh off (enc S (.st n) l[i]) (hl[i]'(by omega)):=J2 (by rw[kF,iu hk];rfl) (iu _);have hf':=Mq hf (k:=kx) (u:=low (.rQ o' m' r i)) (t:=.sym (.lit (.slice y.a y.len y.cap))) (by show(bB fr).get kx=_;rw[bU,hy];rfl) (gH b10) (by rw[hye];exact .sym _ _ (.lit _));have aeR:jO (TV (bB fr) (.tmp kx) (.sym (.lit (.slice y.a y.len y.cap)))) (.tmp kx)=Z (.sym (.lit (.slice y.a y.len y.cap))):=by show((bB fr).tm.set aO kx _).get kx=_;rw[Tr.aV _ _ _ _ (gH b10),bO rfl]
  have aov:jO (TV (bB fr) (.tmp kx) (.sym (.lit (.slice y.a y.len y.cap)))) x=Z (.lC o' e i off):=by
   have h0:=cw hx;cases x with
   |tmp k2=>
    show((bB fr).tm.set aO kx _).get k2=_;rw[Tr.dy _ _ _ _ _ (λe=>by
     subst e;have h5:fr.get k2=Z (.lC o' e i off):=hx;rw[hy]at h5;cases h5)]
    exact h0
   |_=>exact h0
  have aiB:(jh off (enc S (.st n) l[i]) (hl[i]'(by omega))).Ov off [.lit (.slice y.a y.len y.cap)]=jh off (enc S (.st n) l[i]) (.slice y.a y.len y.cap):=by
   have hlt:off<(enc S (.st n) l[i]).cells.length:=by rw[ki hS];exact Sl
   show D.agg _=D.agg _
   congr 1
   rw[List.take_set_of_le (cM _),EH,List.drop_set_of_lt (Nat.lt_succ_self _)];apply Mm;intro q;simp only[vw,sG,xq,OT,TM,TK,EH];obtain hq|hq|hq:=Nat.lt_trichotomy q off
   rw[bO (by omega),bO hq,cm (by omega)];subst hq;rw[cm (by omega),bO (by omega),bO rfl,bO hlt];simp[Nat.min_eq_left (Ic hlt)];rw[cm (by omega),cm (by omega),cm (by omega)]
   congr 1
   omega
  have hby:(jh off (enc S (.st n) l[i]) (.slice y.a y.len y.cap)).r7=(jh off (enc S (.st n) l[i]) (hl[i]'(by omega))).r7:=by
   let ⟨a0,n0,m0,he0⟩:=h3.1 i _ (iu (by omega:i<hl.length))
   rw[he0,<-Ab off (enc S (.st n) l[i]) [] a0 n0 m0,<-Ab off (enc S (.st n) l[i]) [] y.a y.len y.cap]
  have abH:(jh off (enc S (.st n) l[i]) (hl[i]'(by omega))).isAgg (S.width (.st n))=W:=by
   let ⟨a0,n0,m0,he0⟩:=h3.1 i _ (iu (by omega:i<hl.length))
   rw[he0];show(Nq (cC ((enc S (.st n) l[i]).cells.set off _)) _&&((enc S (.st n) l[i]).cells.set off _).all D.leaf)=W;rw[eM,bS,Ie,ki hS];refine⟨beq_iff'.2 rfl,j5.2 λd hd=>?_⟩;obtain hd|rfl:=aat hd
   rw[show(enc S (.st n) l[i]).cells=eS S (S.fs n) (S.get n l[i])from hS.cells n _]at hd;exact g7 _ _ (hS.leaf n) d hd;rfl
  have hput:ym (lits off (l.map (enc S (.st n))) hl) i (jh off (enc S (.st n) l[i]) (.slice y.a y.len y.cap))=lits off (l.map (enc S (.st n))) (hl.set i (.slice y.a y.len y.cap)):=by apply Mm;intro q;simp[ym,lits];by_cases hq:i=q;subst hq;rw[TP (by simp;omega),Wc,kF,TP (by omega),iu hk];rfl;rw[List.getElem?_set_ne hq,Wc,Wc,List.getElem?_set_ne hq]
  let ⟨⟨v,w',g',hr,B,he,ht⟩,q1,q2,q3⟩:=m7 hT hf' h4 o (t:=Re) (s':={lI s o' (.arr (S.width (.st n)) (lits off (l.map (enc S (.st n))) hl) e)with ob:=(lI s o' (.arr (S.width (.st n)) (lits off (l.map (enc S (.st n))) hl) e)).ob.set aO o' (.arr (S.width (.st n)) (lits off (l.map (enc S (.st n))) (hl.set i (.slice y.a y.len y.cap))) e)})
   (p:=(D.lit (.slice y.a y.len y.cap)).leaf=W/\(True/\True)/\[D.lit (.slice y.a y.len y.cap)].all D.leaf=W/\kY (i:Int) (eE (lits off (l.map (enc S (.st n))) hl))/\(jh off (enc S (.st n) l[i]) (hl[i]'(by omega))).Ri (S.width (.st n)) off (cC [D.lit (.slice y.a y.len y.cap)])/\Nl (Na off (cC [D.lit (.slice y.a y.len y.cap)])) (S.width (.st n))=W/\((jh off (enc S (.st n) l[i]) (hl[i]'(by omega))).Ov off [.lit (.slice y.a y.len y.cap)]).r7=(jh off (enc S (.st n) l[i]) (hl[i]'(by omega))).r7) (by
   rw[Q];have hg:=gp (s:=s) A (.arr (S.width (.st n)) (lits off (l.map (enc S (.st n))) hl) e) o';rw[bO rfl]at hg;have ao4:Nl (lI s o' (.arr (S.width (.st n)) (lits off (l.map (enc S (.st n))) hl) e)).fl o'=W:=b8;simp[n9,hi,aov,aeR,storeT,jY,b7,b6,gJ,gn,nH,AV,tK,freeze,hg,ao4,show Nq e e=W from beq_iff'.2 rfl,Mf,hel,aiB,hput]) ⟨rfl,⟨trivial,trivial⟩,rfl,⟨Int.natCast_nonneg _,by show(i:Int)<((lits off (l.map (enc S (.st n))) hl).length:Int);rw[F];exact Int.ofNat_lt.2 hk⟩,.inl abH,Me (by show off+1<=_;omega),by rw[aiB,hby]⟩
  have hgn:∀q,({lI s o' (.arr (S.width (.st n)) (lits off (l.map (enc S (.st n))) hl) e)with ob:=(lI s o' (.arr (S.width (.st n)) (lits off (l.map (enc S (.st n))) hl) e)).ob.set aO o' (.arr (S.width (.st n)) (lits off (l.map (enc S (.st n))) (hl.set i (.slice y.a y.len y.cap))) e)}:St).ob.get q=if q=o' then Z (.arr (S.width (.st n)) (lits off (l.map (enc S (.st n))) (hl.set i (.slice y.a y.len y.cap))) e)else(lI s o' (.arr (S.width (.st n)) (lits off (l.map (enc S (.st n))) hl) e)).ob.get q:=λq=>Tr.aV _ _ _ _ A
  refine⟨v,w',g',hr,ht,cO.kA hs (zo B (hl:=hl.set i (.slice y.a y.len y.cap)) A (by rw[hgn,bO rfl]) (by simpa using h1) ⟨λq hv hq=>?_,λq hv hq _=>?_⟩ (by show(s.ob.set aO o' _).get o'=_;rw[Tr.aV _ _ _ _ A,bO rfl]) (λq hq=>?_) rfl) he rfl rfl (cM _) (oM _ _ _)⟩;rw[OT]at hq;split at hq;rw[bO (by omega)]at hq;cases hq;exact⟨_,_,_,rfl⟩;exact h3.1 q hv hq;rw[OT]at hq;split at hq;rename_i e;subst e;rw[bO (by omega)]at hq;cases hq;exact⟨y,he.arr _ _ _ hy1,rfl⟩;rename_i e
  let ⟨yy,k1,k2⟩:=h3.2 q hv hq (λh=>e (jG h))
  exact⟨yy,he.arr _ _ _ k1,k2⟩;rw[hgn,cm hq,gp A,cm hq,aK,aK];show((s.ob.set aO o' _).get q).map cX=_;rw[Tr.aV _ _ _ _ A,cm hq]
 ·
  rename_i ty len parts Q;split at h;rotate_left
  .rename_i Pq;split at h;rotate_left;cases h;rename_i i e hi Kc;split at h;rotate_left;cases h;rename_i sz ag bt zz xA;obtain⟨hb,f⟩|⟨_,f⟩:=ah h
   rotate_left;cases f;obtain⟨_,rfl,rfl⟩:=f;have F:len=0:=beq_iff'.1 hb;subst F;have hle:Nl (Nat.mul 0 sz) 16777216=W:=by rw[show Nat.mul 0 sz=0 from Nat.zero_mul sz];rfl
   have h0:cG E fr s o.op=Z (W,.j4 0 e [],s):=by rw[Q];simp only[cG,hi,Kc,Pq,iL,xA,hle,gn,List.replicate_zero,om,dS,jq]
   let ⟨p,aow,hp⟩:=Mz hS Z4 h0 rfl
   let ⟨⟨v,w',g',hr,B,he,ht⟩,q1,q2,q3⟩:=m7 hT hf hs o aow hp
   refine⟨v,w',g',hr,?_,cO.kA hs B he q1 q2 q3 (lX (show dS s []=Z s from rfl))⟩;cases ht with|j4 _ _ a0 hn0 hd=>exact .emp a0
  cases h;rename_i kx Pq;split at h;rotate_left;cases h;rename_i i n cs hi Kc hkx;split at h;rotate_left;cases h;rename_i j hnst;split at h;rotate_left;cases h;rename_i sz ag bt zz xA hnj;obtain⟨hb,f⟩|⟨_,f⟩:=ah h
  rotate_left;cases f;clear h;split at f;rotate_left;cases f;rename_i x os hx;simp only[fG,fc]at f;obtain⟨s1,zl,_,rfl,rfl⟩:=f;simp only[eM]at hb;have ai4:=beq_iff'.1 hb.1;subst ai4;have hkN:kx<bD:=gH hb.2.2
  let ⟨⟨z,MV,hz⟩,_,_,hpos⟩:=Z4.row _ _ _ hi Kc
  rw[xA]at MV;obtain⟨rfl,rfl,rfl,rfl⟩:=Kd.slice.inj MV;have hfz:=dw hS os zl;have hval:=cT hf (x:=.tmp kx) (v:=.agg cs) hkx;generalize hve:a.eval (.tmp kx)=ve at hval;obtain⟨vs,rfl,oX⟩:=aH.Sc hval;have hcj:(bu cs)[j]?=Z .emp:=by rw[jP]at hnj;rw[eP,kF,hnj];rfl
  obtain⟨vj,hvj⟩:∃vj,vs.toList[j]?=Z vj:=by have:=ct hcj;exact⟨_,iu (by have:=oX.1;omega)⟩
  have apa:=oX.2 j _ _ hcj hvj;obtain⟨c,rfl⟩:∃c,vj=.slice c 0 0:=by cases apa with|emp c=>exact⟨c,rfl⟩
  have aiz:aH g w (.agg ((bu cs).set j (.sym (.lit (.slice c 0 0))))) (.agg vs):=by
   refine .agg _ vs (by simpa using oX.1) λq t v h1 h2=>?_;rw[OT]at h1;split at h1;rename_i e;subst e;rw[bO (ct hcj)]at h1;cases h1;have:vs.toList[j]?=Z v:=by simpa using h2
   rw[hvj]at this;cases this;exact .sym _ _ (.lit _);exact oX.2 q t v h1 (by simpa using h2)
  have hf':=Mq hf (k:=kx) (u:=low (.agg cs)) (t:=.agg ((bu cs).set j (.sym (.lit (.slice c 0 0))))) (by rw[bU,hkx];rfl) hkN (by rw[hve];exact aiz);have aeR:jO (TV (bB fr) (.tmp kx) (.agg ((bu cs).set j (.sym (.lit (.slice c 0 0)))))) (.tmp kx)=Z (.agg ((bu cs).set j (.sym (.lit (.slice c 0 0))))):=by show((bB fr).tm.set aO kx _).get kx=_;rw[Tr.aV _ _ _ _ hkN,bO rfl]
  simp[bT]at hx;split at hx;rotate_left;cases hx;rename_i hh os' C;obtain⟨rfl,rfl⟩:=hx
  let ⟨q,hq,hqp⟩:=pE hS s _ _ C
  let ⟨q',hq',hqq,Lm⟩:=LD (aE s) hq hcj (.slice c 0 0)
  have XQ:(enc S (.st n) (S.DC n hh)).cells=eS S (S.fs n) hh:=by show S.cells n _=_;rw[hS.cells,hS.rU]
  have hzl:cC zz=S.width (.st n):=by simp[ke,gn,enc,D.agg.injEq]at hz;rw[hz];simp[Sg.width,bS];rw[show S.cells n (S.zero (.st n))=_ from hS.cells n _,mz]
  have ajq:((ke (.st n)||Nq (S.width (.st n)) 1)&&(Nq (cC zz) (S.width (.st n))&&(!(Nq (S.width (.st n)) 0)&&Nl (Nat.mul 1 (S.width (.st n))) 16777216)))=W:=by rw[hzl];simp only[eM,Mb];refine⟨rfl,beq_iff'.2 rfl,?_,by simpa using hb.2.1⟩;cases hq:Nq (S.width (.st n)) 0 with|false=>rfl|true=>have:=beq_iff'.1 hq;omega
  have abH:(D.agg ((eS S (S.fs n) hh).set j (.lit (.slice c 0 0)))).isAgg (S.width (.st n))=W:=by
   show(Nq (cC ((eS S (S.fs n) hh).set j _)) _&&((eS S (S.fs n) hh).set j _).all D.leaf)=W;rw[eM,bS,Ie,mz];refine⟨beq_iff'.2 (bS _).symm,j5.2 λd hd=>?_⟩;obtain hd|rfl:=aat hd
   exact g7 _ _ (hS.leaf n) d hd;rfl
  have hall:((eS S (S.fs n) hh).set j (.lit (.slice c 0 0))).all D.leaf=W:=by have h0:(Nq (cC ((eS S (S.fs n) hh).set j _)) _&&((eS S (S.fs n) hh).set j (.lit (.slice c 0 0))).all D.leaf)=W:=abH;rw[eM]at h0;exact h0.2
  let ⟨⟨v,w',g',hr,B,he,ht⟩,q1,q2,q3⟩:=m7 hT hf' hs o (t:=.j4 1 [D.agg ((eS S (S.fs n) hh).set j (.lit (.slice c 0 0)))]) (s':=aE s1)
   (p:=(q'/\((eS S (S.fs n) hh).set j (.lit (.slice c 0 0))).all D.leaf=W)/\(D.agg ((eS S (S.fs n) hh).set j (.lit (.slice c 0 0)))).isAgg (S.width (.st n))=W/\True) (by
   rw[Q];have hps:rN (TV (bB fr) (.tmp kx) (.agg ((bu cs).set j (.sym (.lit (.slice c 0 0)))))) parts.toList=Z [(0,.agg ((bu cs).set j (.sym (.lit (.slice c 0 0)))))]:=by rw[Pq];simp[rN,aeR]
   simp only[n9,hi,hps,xA,gn,rX,AV,hq',List.replicate,cC,ke,show Nt 0 (Ns 0)=W from rfl,List.set_cons_zero,tK,hfz,jq];have ae5:((W||Nq (S.width (.st n)) 1)&&(Nq (cC zz) (S.width (.st n))&&(!(Nq (S.width (.st n)) 0)&&Nl (Nat.mul 1 (S.width (.st n))) 16777216)))=W:=ajq;rw[ae5];rfl) ⟨⟨hqq hqp,hall⟩,abH,trivial⟩
  refine⟨v,w',g',hr,?_,cO.kA hs B he q1 q2 q3 (lX zl)⟩;cases ht with|j4 _ _ a0 hn0 hd=>refine .o6 _ _ c a0 ?_ ?_;rw[XQ];exact Lm;show dF g'.bp w' (.sl [D.agg ((enc S (.st n) (S.DC n hh)).cells.set j _)]) _;rw[XQ];exact hd
 ·
  rename_i ty x hi Q;split at h;rotate_left;cases h;rename_i i I r hv Uu hx hh;split at h;rotate_left;cases h;rename_i sz ag bt zz l era n xA l9 hn;obtain⟨hb,f⟩|⟨_,f⟩:=ah h
  rotate_left;cases f;simp only[eM]at hb;have XF:=beq_iff'.1 hb.1;subst XF;obtain⟨rfl,rfl,rfl⟩:=f;have hc':=Ao hc
  let ⟨R,C,hval⟩:=Ep (cT hf hx)
  let ⟨p,hp1,hp⟩:=gi hn
  have e1:=dR hp1 hp (cT hf hh);have hlo:(aE s).ob.get I=Z (.arr (S.width (.int .i64)) (l.map (enc S (.int .i64))) r):=by show(s.ob.map cX).get I=_;rw[Tr.get_map,l9];rfl
  let ⟨Ht,abo⟩:=hs.ni (fz:=J) hlo C
  let ⟨c0,c1,c2⟩:=hc'
  have F:R.len=l.length:=by rw[Ht.len];simp
  have hcap:=Ht.cap;have c2':n<=(l.length:Int):=c2
  let ⟨xi,d1,z1,MR,Kb,_,_,_,_,hk⟩:=(hT.ti _ _ Uu).all
  rw[xA]at hk;obtain⟨el,j,d',zv,rfl,hj,xB,_⟩:=hk;have K:=mX (P:=E.E.P) (w:=w) W R.len R.cap (low:=Y) (high:=Z (.int .i64 n)) (lo:=0) (hi:=n) (.inl ⟨rfl,rfl⟩) (.inr rfl) (by omega) (by omega) (by omega)
  let x':eU:=⟨R.a,n.toNat,R.cap,R.sz⟩
  have De:∀b,x'.at b->R.at b:=λb h=>h
  let ⟨B,he⟩:=hs.aj0 (w':=w) hlo C (x':=x') (es':=(dD l 0 n).map (enc S (.int .i64))) (gH hb.2) rfl rfl (cM _) (λ_ _ _=>rfl) (λb h=>⟨by
   let ⟨ad,h1,h2,h3⟩:=h
   have:=(hs.arr _ _ _ C).1 ad h1 h3;omega,.inr (De b h)⟩) (by
   have hsub:dD l 0 n=l.take n.toNat:=by simp[dD]
   rw[hsub];refine⟨by simp[x'];omega,by show n.toNat<=R.cap;omega,λd hd=>?_,Ht.pos,λd hd=>?_,λh0=>?_⟩;exact Ht.rows d (by grind);refine fP (yI _ ?_) (Ht.VC d (by grind));simp;omega
   let ⟨b,vs,ty,k1,k2,k3,k4,k5⟩:=Ht.mem h0
   exact⟨b,vs,ty,k1,k2,k3,k4,λi d j c h1 h2=>k5 i d j c (by grind) h2⟩) abo
  refine⟨.slice R.a n.toNat R.cap,w,_,.inl ?_,?_,cO.kA hs (by rw[eu];exact B) he rfl rfl (cM _) (oM _ _ _)⟩;have hrun:(Instr.sliceAt ty (.slice R.a R.len R.cap) Y (Z (.int .i64 n)) Y).run E.E.P w=.ok (.slice R.a n.toNat R.cap) w:=by simp only[Instr.sliceAt,Instr.slice,run_bind,aN Kb,andThen_ok,dm hj,xB,K];cases R.a<;>simp[Addr.add]
  simp[execOp,Q,hval,e1,hrun];exact .sh _ _ _ _ R.sz _ (Gh.fq _ _ _ _)
 cases h
end
section
variable {g:Gh}{w:av}
theorem aY.aaG{s:St}(hs:aY g s w){m sz r:Nat}{iG:L (L D)}(o:s.ob.get m=Z (.rws sz iG r))(C:m<s.aF)(h0:0<sz)(c:O Addr) :
  aY (g.era m (rc r iG.length) ⟨c,0,0,sz⟩) {s with ob:=s.ob.set aO m (.rws sz (iG++[[]]) r)} w/\Ext s.fl g w (g.era m (rc r iG.length) ⟨c,0,0,sz⟩) w:=by
 have E:m<bD:=iE C hs.aF;have F:g.arr m (rc r iG.length)=Y:=by
  cases h:g.arr m (rc r iG.length)with
  |none=>rfl|some y=>
   let ⟨_,R,h2,_⟩:=(hs.pX o h).2.2 _ rfl
   simp_all
 have f:∀k j y,g.arr k j=Z y->(g.era m (rc r iG.length) ⟨c,0,0,sz⟩).arr k j=Z y:=λk j y h=>by
  rw[Gh.cQ];exact h
  grind
 have d:∀k b,bx (g.era m (rc r iG.length) ⟨c,0,0,sz⟩) k b->bx g k b:=by
  rintro k b ⟨h1,h2|⟨j,y,A,h2,h3,h4,h5⟩⟩
  exact⟨h1,.inl h2⟩;by_cases p:k=m/\j=rc r iG.length;obtain⟨rfl,rfl⟩:=p;rw[Gh.fq]at h2
  grind
  rw[Gh.cQ _ _ _ _ _ _ p]at h2;exact⟨h1,.inr ⟨j,y,A,h2,h3,h4,h5⟩⟩
 have S:Ext s.fl g w (g.era m (rc r iG.length) ⟨c,0,0,sz⟩) w:=
  ⟨λ_ _ h=>h,f,λ_ h=>h,cM _,λ_ _ _=>rfl,λk b h=>.inl (d k b h),λ_ h=>.inl h,rfl,rfl⟩
 have dN:∀k,(s.ob.set aO m (.rws sz (iG++[[]]) r)).get k=if k=m then Z (.rws sz (iG++[[]]) r)else s.ob.get k:=λk=>Tr.aV _ _ _ _ E
 have hnb:=hs.zV o rfl;refine⟨⟨hs.aF,λk hk=>⟨(hs.ai k hk).1,λj=>?_⟩,λk b hb=>?_,λk j y l=>?_,hs.bp,λk k' b h h'=>hs.jF k k' b (d k b h) (d k' b h')⟩,S⟩;rw[Gh.cQ _ _ _ _ _ _ (by grind)];exact(hs.ai k hk).2 j;have I:g.bP k=Z b:=hb;have e:k≠m:=by grind
 let ⟨h1,h2,h3⟩:=hs.box k b I
 refine⟨h1,h2,λob a=>?_⟩;rw[dN,cm e]at a
 let ⟨x,k1,k2⟩:=h3 ob a
 exact⟨x,k1,k2.ext S hs.bp⟩;by_cases e:k=m;subst e;have hcl:∀n i,r<n->g.arr k (rc n i)=Y:=λn i q=>by cases h:g.arr k (rc n i)with|none=>rfl|some z=>rw[(hs.pX o h).1 n i q]at h;cases h
 have K:∀A,y.a=Z A->y.cap≠0->A.block<w.heap.size:=by
  by_cases B:j=rc r iG.length;subst B;rw[Gh.fq]at l
  grind
  rw[Gh.cQ _ _ _ _ _ _ (λh=>B h.2)]at l;exact(hs.arr k j y l).1
 refine⟨K,λob a=>?_⟩;rw[dN,bO rfl]at a;obtain rfl:=jG a;refine .inr (.inr (.inl ⟨sz,iG++[[]],r,rfl,λn i q=>?_,λi1 i2 y1 y2 P h1 h2 b t u=>?_,λi B=>?_⟩))
 grind[Gh.cQ,rL]
 by_cases v:i1=iG.length;subst v;rw[Gh.fq]at h1;cases h1
 let ⟨_,_,_,h⟩:=t
 grind
 by_cases e2:i2=iG.length;subst e2;rw[Gh.fq]at h2;cases h2
 let ⟨_,_,_,h⟩:=u
 grind
 rw[Gh.cQ _ _ _ _ _ _ (λh=>v (rL h.2).2)]at h1;rw[Gh.cQ _ _ _ _ _ _ (λh=>e2 (rL h.2).2)]at h2;exact(hs.pX o h1).2.1 i1 i2 y1 y2 P h1 h2 b t u;subst B;by_cases v:i=iG.length;subst v;rw[Gh.fq]at l;cases l;exact⟨rfl,[],by simp,⟨rfl,cM _,by simp,h0,by simp,λh=>absurd rfl h⟩⟩;rw[Gh.cQ _ _ _ _ _ _ (λh=>v (rL h.2).2)]at l
 let ⟨q1,R,q2,q3⟩:=(hs.pX o l).2.2 i rfl
 exact⟨q1,R,by grind,q3.jU rfl⟩;have Q:g.arr k j=Z y:=by grind[Gh.cQ]
 let ⟨h1,h2⟩:=hs.arr k j y Q
 refine⟨h1,λob a=>?_⟩;rw[dN,cm e]at a;exact(h2 ob a).tr (λh=>h.jU rfl) f (funext λj=>Gh.cQ _ _ _ _ _ _ (λh=>e h.1)) (λ_ _ _=>⟨rfl,yF⟩)
variable {a:Act}{o:Oper}{n j:Nat}
def Jc{P:cP}{c:Call}(f:o.op=.call c)(k:c.callee=.builtin .append){u v:Operand}{ty d:TypeId}(l:c.args=#[u,v])(g:c.argTypes=#[ty,d]){R:az->av->Prop}(h:GX P ty d o.type (a.eval u) (a.eval v) w R)
  {K:Act->av->Prop} {Q:Exit->Act->av->Prop} (i:∀v w',R v w'->K (a.put o.dst v) w'):o.wp P a w K Q\/(o.asks P a w/\LetsOut Q):=by
 let ⟨r,w',e,j⟩:=h
 left
 unfold Oper.wp;have b:(execOp a.eval o).run P w=.ok (.value r) w':=by
  simp_all[execOp,resolve,invoke,builtin]
 rw[b];exact i r w' j
theorem args2{l:Array Operand}{a:Act}{x y:T}(b:PW (aH g w) [x,y] (l.toList.map a.eval)):∃u v,l=#[u,v]/\aH g w x (a.eval u)/\aH g w y (a.eval v):=by
 have d:l.size=2:=by have:=b.1;simp_all
 obtain⟨u,v,c⟩:∃u v,l=#[u,v]:=⟨l[0],l[1],by
  grind⟩
 exact⟨u,v,c,b.2 0 _ _ rfl (by simp[c]),b.2 1 _ _ rfl (by simp[c])⟩
def aaY(a:eZ S){t:Ty}(b:Dh S n j t=W)(x:S.A n)(c:O Addr)(p q:Nat):(jh j (enc S (.st n) x) (.slice c p q)).r7=(enc S (.st n) x).r7:=by
 have h:Ac j (enc S (.st n) x) ((Hu n j t x).map (enc S t))=enc S (.st n) x:=by
  show D.agg ((S.cells n x).set j _)=D.agg (S.cells n x);have:(S.cells n x)[j]?=Z (.sl ((Hu n j t x).map (enc S t))):=by rw[a.cells];exact IQ (FX b)
  rw[HU this]
 rw[<-Ab j _ ((Hu n j t x).map (enc S t)),h]
def Uf(b:eZ S)(x:S.A n)(c:O Addr)(p q:Nat):(jh j (enc S (.st n) x) (.slice c p q)).flat=W:=by
 show((S.cells n x).set j _).all D.leaf=W;refine j5.2 λd a=>?_;obtain a|rfl:=aat a
 rw[b.cells]at a;exact g7 _ _ (b.leaf n) d a;rfl
def Gf{E:fN}(hS:eZ S)(hT:AI E.E)(hEE:Oh E.E)(Z4:Qw S E){fr:bV S}{s s':bf S}(hf:cS g (bB fr) a w)(hs:aY g (aE s) w){cl:Call}(hop:o.op=.call cl){b:Builtin}(hb:cl.callee=.builtin b){args:L (V S)}(hargs:jN fr cl.args.toList=Z args){c:aa}{t:V S}
  (h:mC E s b cl.argTypes args=Z (c,t,s')) (hc:c=W) {K:Act->av->Prop} {Q:Exit->Act->av->Prop} (hK:∀g' v w',cO [] s g w s' g' w'->aH g' w' (low t) v->K (a.put o.dst v) w') :
  o.wp E.E.P a w K Q\/(o.asks E.E.P a w/\LetsOut Q):=by
 have oX:=eO hf (gN hargs);unfold mC at h;split at h
 ·
  rename_i f r;split at h;rotate_left;cases h;rename_i n j l era m gR hole l9;split at h;rotate_left;cases h;rename_i i B hi Kc;split at h;rotate_left;cases h;rename_i sz ag bt zz xA;obtain⟨P,h9⟩|⟨_,h9⟩:=ah h
  rotate_left;cases h9;simp only[eM]at P;have XF:=beq_iff'.1 P.1;subst XF;obtain⟨_,rfl,rfl⟩:=h9;have hx0:aH g w (.sh f r) ((cl.args.toList.map a.eval)[0]'(by have:=oX.1;simp[bu]at this;simp;omega)):=oX.2 0 _ _ rfl (iu _)
  let ⟨xs,hxs,_⟩:=Ep hx0
  have F:f<bD:=iE (hs.lt' hxs) hs.aF
  let ⟨hl,h1,h2,h3,h4⟩:=HP hs l9 hxs
  have hlen:(lits j (l.map (enc S (.st n))) hl).length=l.length:=by rw[nM (by simpa using h1)];simp
  refine xX hEE hf h4 hop hb (gN hargs) (p:=True) (t:=.sym (.lit (.int .i64 (eE (lits j (l.map (enc S (.st n))) hl))))) (s':=lI s f (.arr (S.width (.st n)) (lits j (l.map (enc S (.st n))) hl) r)) ?_ trivial (k:=λC st'=>C=.sym (.lit (.int .i64 (eE (lits j (l.map (enc S (.st n))) hl))))/\st'=lI s f (.arr (S.width (.st n)) (lits j (l.map (enc S (.st n))) hl) r)) ⟨rfl,rfl⟩ (λC st' g' v w' he vS ht=>?_);have hi':(nth cl.argTypes.toList 0).bind E.E.ti=Z i:=hi;simp only[bu,low,fC,zB,hi',xA,AZ];rw[gp F,bO rfl];simp;obtain⟨rfl,rfl⟩:=he;refine hK g' v w' (cO.kA hs (zo vS.rel F (by rw[gp F,bO rfl]) h1 (h3.le (λj y=>vS.ext.arr m j y)) l9 (λk hk=>by rw[gp F,cm hk]) rfl) vS.ext rfl rfl (cM _) (qJ.refl _)) ?_;have e:eE (lits j (l.map (enc S (.st n))) hl)=aq l:=by simp[eE,hlen,aq]
  rw[e]at ht;exact ht
 ·
  rename_i f r B j' x;split at h;rotate_left;cases h;rename_i n j l era m gR l9;split at h;rotate_left;cases h;rename_i ty tx afc;split at h;rotate_left;cases h;rename_i i i' n'' C A hi hi' Kc hrw;split at h;rotate_left;cases h;rename_i sz ag bt zz sz' ag' bt' zz' new xA MV hnew
  let ⟨e1,hh⟩:=fy hnew
  cases e1;cases hh;obtain⟨P,h9⟩|⟨_,h9⟩:=ah h
  rotate_left;cases h9;clear h;simp only[eM]at P
  let ⟨b1,b2,b3,b4,b5,b6,b7,b8,b9⟩:=P
  have e1:=beq_iff'.1 b1;subst e1;have e2:=beq_iff'.1 b2;subst e2;have e3:=beq_iff'.1 b3;subst e3;simp only[gC,fc]at h9;obtain⟨hll,rfl,rfl⟩:=h9;have aoU:bQ (aa2 l A) (dJ l [x])=W:=hll.trans ‹_›;have ai2:aa2 l A=W/\dJ l [x]=W:=by simpa[bQ]using aoU
  have ao8:=ai2.2;have hll:=Ml (show decide _=W from ai2.1)
  let ⟨u,v,ha,hu,hv⟩:=args2 oX
  have De:cl.argTypes=#[ty,tx]:=by apply Array.ext';simpa using afc
  let ⟨xs,hxs,Z0⟩:=Ep hu
  have F:f<bD:=iE (hs.lt' hxs) hs.aF;have hmn:m<s.aF:=gH b6;have hmN:m<bD:=iE hmn hs.aF;have hw0:0<S.width C:=gH b9
  let ⟨szm,hm⟩:=pF (zH hrw)
  have aiE:szm=S.width C:=by
   have h1:=hrw;unfold LM at h1;split at h1;rename_i t0 rss0 r0 I;obtain⟨_,h1⟩|⟨_,h1⟩:=ah h1
   cases h1;rw[aK,I]at hm;cases hm;rfl;cases h1;cases h1
  subst aiE;have hom:f≠m:=by rintro rfl;rw[aK,l9]at hm;cases hm
  generalize hvv:a.eval v=vv at hv;cases hv with
  |o6 _ _ c ad hcj hcd=>
  let ⟨p1,p2⟩:=hs.aaG hm hmn hw0 c
  let s1:bf S:={s with ob:=s.ob.set aO m (.rws C (A++[[]]) gR)}
  have aoe:(aE s1)={aE s with ob:=(aE s).ob.set aO m (.rws (S.width C) (A.map (·.map (enc S C))++[[]]) gR)}:=by simp[s1,aE,Tr.mc,cX,A5,mh,List.map_nil]
  rw[<-aoe]at p1;have aoB:s1.ob.get f=Z (.kT B j l r m gR Y):=by rw[Tr.aV _ _ _ _ hmN,cm hom];exact l9
  have an3:=p2.arr _ _ _ hxs
  let ⟨hl,h1,h2,h3,h4⟩:=HP p1 aoB an3
  have abx:(lits j (l.map (enc S (.st B))) hl).length=l.length:=by rw[nM (by simpa using h1)];simp
  let ⟨⟨z,R,_⟩,_,_,hpos⟩:=Z4.row _ _ _ hi Kc
  rw[xA]at R;obtain⟨rfl,rfl,rfl,rfl⟩:=Kd.slice.inj R;have apg:aH (g.era m (rc gR (A.map (·.map (enc S C))).length) ⟨c,0,0,S.width C⟩) w (.j4 0 [jh j (enc S (.st B) x) (.slice c 0 0)]) (.slice ad 1 1):=.j4 0 _ ad (by simp) (hcd.ext p2 hs.bp);have hus:aH (g.era m (rc gR (A.map (·.map (enc S C))).length) ⟨c,0,0,S.width C⟩) w (.sh f r) (a.eval u):=hu.ext p2 hs.bp;have abG:iq (lits j (l.map (enc S (.st B))) hl) [jh j (enc S (.st B) x) (.slice c 0 0)]=lits j ((di l [x]).map (enc S (.st B))) (hl++[.slice c 0 0]):=by simp[iq,lits,di,A5,mh,List.map_nil];rw[List.zipWith_append (by simp;omega)];rfl
  have abE:uV (iq (lits j (l.map (enc S (.st B))) hl) [jh j (enc S (.st B) x) (.slice c 0 0)]) (y9 S (.st B)):=by
   intro d hd;rw[abG]at hd
   let ⟨q,I⟩:=Wb hd
   rw[lits,Wc]at I;split at I;rename_i hv0 k1 k2;cases I;rw[kF,fG]at k1;obtain⟨xx,_,rfl⟩:=k1;obtain⟨a0,n0,m0,rfl⟩:∃a0 n0 m0,hv0=.slice a0 n0 m0:=by
    rw[sG]at k2;split at k2;exact h3.1 q hv0 k2;have:q-hl.length=0:=by have:=ct k2;simpa using this
    rw[this]at k2;cases k2;exact⟨_,_,_,rfl⟩
   exact⟨by rw[aaY hS b8];exact Bx hS (t:=.st B) xx,Uf hS xx a0 n0 m0⟩;cases I
  have hgv:=gp (s:=s1) F (.arr (S.width (.st B)) (lits j (l.map (enc S (.st B))) hl) r);have hkj:i'.kd=.slice sz' ag' bt' zz':=MV;have hap:=ya (rt:=o.type) (hEE.ti _ _ hi) (hEE.ti _ _ hi') ⟨_,_,_,_,hkj⟩ h4 (x:=.sh f r) (y:=.j4 0 [jh j (enc S (.st B) x) (.slice c 0 0)]) (vx:=a.eval u) (vy:=.slice ad 1 1)
   (p:=True/\jo [jh j (enc S (.st B) x) (.slice c 0 0)] (S.width (.st B))/\uV (iq (lits j (l.map (enc S (.st B))) hl) [jh j (enc S (.st B) x) (.slice c 0 0)]) (y9 S (.st B))/\D.Sr (lits j (l.map (enc S (.st B))) hl) [jh j (enc S (.st B) x) (.slice c 0 0)]) (t:=.sh f (Ns r))
   (s':={lI s1 f (.arr (S.width (.st B)) (lits j (l.map (enc S (.st B))) hl) r)with ob:=(lI s1 f (.arr (S.width (.st B)) (lits j (l.map (enc S (.st B))) hl) r)).ob.set aO f (.arr (S.width (.st B)) (iq (lits j (l.map (enc S (.st B))) hl) [jh j (enc S (.st B) x) (.slice c 0 0)]) (Ns r))}) (by
   have hg0:=hgv f;rw[bO rfl]at hg0;have e1:Nt (lI s1 f (.arr (S.width (.st B)) (lits j (l.map (enc S (.st B))) hl) r)).aF bD=W:=b7;have e2:Nl (lI s1 f (.arr (S.width (.st B)) (lits j (l.map (enc S (.st B))) hl) r)).fl f=W:=b4;simp only[uv,e1,JJ,gJ,xA,AZ,hg0,e2,show Nq r r=W from beq_iff'.2 rfl,show Nq (S.width (.st B)) (S.width (.st B))=W from beq_iff'.2 rfl,sJ,Mf];rfl) ⟨trivial,λd hd=>by
    rw[sE.1 hd];show((enc S (.st B) x).cells.set j _).length=_;rw[Ie,ki hS],abE,by
    have:l.length+1<=17179869184:=by simpa[dJ]using ao8
    show(lits j (l.map (enc S (.st B))) hl).length+1<=_;rw[abx];exact this⟩ hus apg
  refine Jc hop hb ha De (by rw[hvv];exact hap) (λv w' hR=>?_)
  let ⟨g',r1,r2,r3⟩:=hR
  have hE:=p2.trans r2;refine hK g' v w' (cO.kA hs ?_ hE rfl rfl (cM _) ⟨λ_ h=>hJ _ (hJ _ h),λk _ hk=>?_,rfl⟩) r3;refine zo r1 (n:=B) (j:=j) (l:=di l [x]) (era:=Ns r) (m:=m) (gR:=gR) (hole:=Y) (hl:=hl++[.slice c 0 0]) F ?_ (by simp[di];omega) ⟨λq v I=>?_,λq v I _=>?_⟩ ?_ (λk hk=>?_) rfl;show((lI s1 f _).ob.set aO f _).get f=_;rw[Tr.aV _ _ _ _ F,bO rfl,abG];rw[sG]at I;split at I;exact h3.1 q v I;have:q-hl.length=0:=by have:=ct I;simpa using this
  rw[this]at I;cases I;exact⟨_,_,_,rfl⟩;rw[sG]at I;split at I
  let ⟨yy,k1,k2⟩:=h3.2 q v I (by simp)
  exact⟨yy,r2.arr _ _ _ k1,k2⟩;have h0:q-hl.length=0:=by have:=ct I;simpa using this
  rw[h0]at I;cases I;refine⟨⟨c,0,0,S.width C⟩,r2.arr _ _ _ ?_,rfl⟩;have:q=(A.map (·.map (enc S C))).length:=by rw[rM];omega
  rw[this];exact Gh.fq _ _ _ _;show((s.ob.set aO m _).set aO f _).get f=_;rw[Tr.aV _ _ _ _ F,bO rfl];rw[Tr.aV _ _ _ _ F,cm hk,hgv,cm hk,aK,aK];rw[Tr.aV _ _ _ _ F,cm hk];rfl;simp at hk;show((s.ob.set aO m _).set aO f _).get k=_;rw[Tr.dy _ _ _ _ _ hk.1,Tr.dy _ _ _ _ _ hk.2.1]
 ·
  rename_i f m r k y;split at h;rotate_left;cases h;rename_i n j l era m' gR t0 A rera' l9 hm0;split at h;rotate_left;cases h;rename_i ty tx afc;split at h;rotate_left;cases h;rename_i C new hi hi' Kc Pn;split at h;cases h
  .rename_i sz ag bt zz sz' ag' bt' zz' xA MV aoE;obtain⟨P,h9⟩|⟨_,h9⟩:=ah h
   rotate_left;cases h9;clear h;simp only[eM]at P
   let ⟨b1,b2,b3,b4,b5,b6,b7⟩:=P
   have e1:=beq_iff'.1 b1;subst e1;have e2:=beq_iff'.1 b2;subst e2;have e3:=beq_iff'.1 b3;subst e3;have e4:=jy b7;subst e4;obtain⟨rfl,rfl,rfl⟩:=h9;have Z3:eo k A=W/\dJ (aX A k []) new=W:=by simpa[bQ]using hc
   have hk:=sS Z3.1
   let ⟨u,v,ha,hu,hv⟩:=args2 oX
   have De:cl.argTypes=#[ty,tx]:=by apply Array.ext';simpa using afc
   let ⟨yy,hyy,hue⟩:=RO hu
   have hm:(aE s).ob.get m=Z (.rws (S.width C) (A.map (·.map (enc S C))) r):=by rw[aK,hm0];rfl
   let ⟨_,rs0,abq,hok⟩:=(hs.pX hm hyy).2.2 k rfl
   have hrs:rs0=(aX A k []).map (enc S C):=by rw[kF,iu hk]at abq;cases abq;simp[aX,hk]
   subst hrs
   let ⟨q,I,hqp⟩:=zC Pn
   let ⟨xi,d1,_,MR,Kb,_,_,_,_,MW⟩:=(hEE.ti _ _ hi).all
   let ⟨_,d2,_,_,hu2,_,_,_,_,hk2⟩:=(hEE.ti _ _ hi').all
   rw[MV]at hk2;obtain⟨e',_,_,_,rfl,_⟩:=hk2
   let ⟨⟨z,R,_⟩,_,_,hpos⟩:=Z4.row _ _ _ hi Kc
   rw[xA]at R;obtain⟨rfl,rfl,rfl,rfl⟩:=Kd.slice.inj R;rw[xA]at MW;obtain⟨e,ji,d',zv,rfl,hji,xB,_,_,hjz,Bq,PB,h0,Dd,oY,hb0,hzl⟩:=MW;have hzs:zv.cells.size=ji.size:=by rw[<-Bq.1,hzl,xB]
   have XD:jo (new.map (enc S C)) (S.width C):=sB hS new;have abE:uV (iq ((aX A k []).map (enc S C)) (new.map (enc S C))) (y9 S C):=by rw[uw];exact DP hS _
   let ⟨news,hsrc,hvr,hlen⟩:=zE hs I hqp hv hpos XD (λd hd=>(abE d (kz _ hd)).2) hu2
   let ⟨ay,cy,hve,_,an2,Pm⟩:=sx hs I hqp hv hpos XD
   have ajp:=CT (rt:=o.type) Kb hu2 hji hjz hzs (xB▸hpos) hb0 PB oY hs.bp (xB▸hok) (λb hb=>(hok.at_ hb).2.elim λvs h=>h.elim λty h=>(Wh.1 h.2).1) (λd hd=>(abE d hd).1) (xB▸XD) (xB▸hsrc) (xB▸hvr) (DK _ Z3.2) (λhne=>by
    obtain⟨ady,al4,rfl,Sj,hyc,_⟩:=Pm hne;refine⟨ady,cy,hve,λDe=>?_,λq I=>?_⟩;obtain Uw|⟨o',ho',_⟩:=Sj
    exact Bool.noConfusion ((hok.at_ De).1.2 Uw);rw[EW]at ho';unfold Mw at ho';split at ho';exact aoE _ _ rfl;cases ho';rw[xB]at I;have h1:=hyc (q/S.width C) (q%S.width C) (RF (by rw[Mg];exact I)) (Nat.mod_lt _ hpos);have hkk:q/S.width C*S.width C+q%S.width C=q:=by rw[Mg];exact Nat.div_add_mod q _
    rw[hkk]at h1;rw[h1];rfl)
   refine Jc hop hb ha De (by rw[hue];exact ajp) (λv w' hR=>?_)
   let ⟨y',hp⟩:=hR
   rw[xB,uw]at hp;have aoz:(aE s).ob.get f=Z (.kT j (S.width (.st n)) (l.map (enc S (.st n))) era m r Y):=by rw[aK,l9];rfl
   have F:f<bD:=gH b6
   let ⟨r1,r2⟩:=hs.acd aoz hm F hyy hp (gH b5)
   refine hK _ v w' (cO.kA hs (s':={s with ob:=(s.ob.set aO m (.rws C (oO A k (di (aX A k []) new)) (Ns r))).set aO f (.kT n j l era m (Ns r) (Z k)),wr:=f::m::s.wr}) ?_ r2 rfl rfl (cM _) ⟨λ_ h=>hJ _ (hJ _ h),λk' _ hk'=>?_,rfl⟩) ?_;have e:aE {s with ob:=(s.ob.set aO m (.rws C (oO A k (di (aX A k []) new)) (Ns r))).set aO f (.kT n j l era m (Ns r) (Z k)),wr:=f::m::s.wr}={aE s with ob:=((aE s).ob.set aO m (.rws (S.width C) ((A.map (·.map (enc S C))).set k ((di (aX A k []) new).map (enc S C))) (r+1))).set aO f (.kT j (S.width (.st n)) (l.map (enc S (.st n))) era m (r+1) (Z k))}:=by simp[aE,Tr.mc,cX,oO,EJ]
   rw[e];exact r1;simp at hk';show((s.ob.set aO m _).set aO f _).get k'=_;rw[Tr.dy _ _ _ _ _ hk'.1,Tr.dy _ _ _ _ _ hk'.2.1];rw[hp.val];exact .rQ _ _ _ _ _ _ y'.sz _ (by rw[Gh.pY,bO rfl])
  cases h
 cases h
end
section
theorem bV.jC(fr:bV S)(k j:Nat)(v:V S)(h:k<bD):(fr.put k v).get j=if j=k then Z v else fr.get j:=Tr.aV _ _ _ _ h
structure eB(s:bf S)(g:Gh)(w:av)(s':bf S)(g':Gh)(w':av):Prop where
 rel:aY g' (aE s') w'
 ext:n8 s.lo s.fl g w g' w'
 fl:s'.fl=s.fl
 lo:s'.lo=s.lo
 aF:s.aF<=s'.aF
 tw:∀o∈s.wr,o∈s'.wr
 same:∀o,o<s.aF->o∉s'.wr->s'.ob.get o=s.ob.get o
 FT:∀o∈s.dr,o∈s'.dr
variable {s s':bf S}{g g':Gh}{w w':av}{p:Nat->aa}{v:V S}{a:Act}
def cO.toW{ow:L Nat}(h:cO ow s g w s' g' w'):eB s g w s' g' w':=⟨h.rel,h.ext,h.fl,h.lo,h.aF,h.tw,h.same,h.FT⟩
def eB.lower{m:Nat}(h:eB {s with lo:=m} g w s' g' w')(a:s.lo<=m):eB s g w {s' with lo:=s.lo} g' w':=
 ⟨⟨h.rel.aF,h.rel.ai,h.rel.box,h.rel.arr,h.rel.bp,h.rel.jF⟩,⟨h.ext.bP,λo e x b k=>h.ext.arr o e x (iE b a) k,h.ext.bp,h.ext.size,h.ext.heap,h.ext.own,h.ext.nQ,h.ext.os,h.ext.output⟩,h.fl,rfl,h.aF,h.tw,h.same,h.FT⟩
theorem eB.refl{s:bf S}{g:Gh}{w:av}(h:aY g (aE s) w):eB s g w s g w:=(cO.refl h).toW
def eB.trans{s s' b:bf S}{g g' c:Gh}{w w' d:av}(h:eB s g w s' g' w')(k:eB s' g' w' b c d):eB s g w b c d:=
 ⟨k.rel,h.ext.trans (h.fl▸h.lo▸k.ext),k.fl.trans h.fl,k.lo.trans h.lo,fP h.aF k.aF,λo a=>k.tw o (h.tw o a),
  λo a e=>(k.same o (iE a h.aF) e).trans (h.same o a (λf=>e (k.tw o f))),λo a=>k.FT o (h.FT o a)⟩
mutual
theorem eg{p q:Nat->aa}(h:∀o,p o=W->q o=W):∀v:V S,cH p v=W->cH q v=W
 |.ptr o _,c=>h o c|.lC o _ _ _,c=>h o c|.sh o _,c=>h o c|.mp o,c=>h o c|.qN o,c=>h o c|.tD o,c=>h o c|.ub _,c=>by cases c
 |.o6 _ _ _,c=>by cases c
 |.rQ o m _ _,c=>by
  simp[cH,nI]at c ⊢
  grind
 |.fn _ a b,c=>by simp[cH,nI]at c ⊢;exact c.imp (lQ h a) (lQ h b)
 |.de _ v,c=>eg h v c|.agg d,c=>lQ h d c|.gG d,c=>lQ h d c|.gd _ v,c=>eg h v c|.ty _ _,c=>by cases c
 |.kb _,c=>by cases c
 |.kn _ _,c=>by cases c
 |.dat _,c=>by cases c
 |.lD _ _ _,c=>by cases c
 |.emp,c=>by cases c
 |.j4 _ _ _,c=>by cases c
theorem lQ{p q:Nat->aa}(h:∀o,p o=W->q o=W):∀l:L (V S),iA p l=W->iA q l=W
 |[],a=>by cases a
 |v::l,a=>by simp[iA,nI]at a ⊢;exact a.imp (eg h v) (lQ h l)
end
mutual
theorem oU(os:L Nat):∀v:V S,iF os v=cH os.contains v
 |.ptr o _=>rfl|.lC o _ _ _=>rfl|.sh o _=>rfl|.mp o=>rfl|.qN o=>rfl|.tD o=>rfl|.ub _=>rfl|.rQ _ _ _ _=>rfl|.o6 _ _ _=>rfl|.fn _ a b=>by simp[iF,cH,vI os a,vI os b]
 |.de _ v=>oU os v|.agg c=>vI os c|.gG c=>vI os c|.gd _ v=>oU os v|.ty _ _=>rfl|.kb _=>rfl|.kn _ _=>rfl|.dat _=>rfl|.lD _ _ _=>rfl|.emp=>rfl|.j4 _ _ _=>rfl
theorem vI(os:L Nat):∀l:L (V S),od os l=iA os.contains l
 |[]=>rfl|v::l=>by simp[od,iA,oU os v,vI os l]
end
theorem iM{dr b:L Nat}{aF a:Nat}(h:∀o∈dr,o∈b)(hn:a<=aF)(o:Nat)(c:dL dr aF o=W):dL b a o=W:=by
 simp only[dL,nI,EG,sC]at c ⊢
 grind[Nat.le_of_ble_eq_true,Nat.ble_eq_true_of_le]
mutual
def dH(p:Nat->aa):T->aa
 |.ptr o _=>p o|.lC o _ _ _=>p o|.sh o _=>p o|.mp o=>p o|.qN o=>p o|.tD o=>p o|.rQ o m _ _=>p o||p m|.fn _ a b=>jf p a||jf p b|.de _ v=>dH p v|.agg c=>jf p c|.gG c=>jf p c|.gd _ v=>dH p v|_=>J
def jf(p:Nat->aa):L T->aa
 |[]=>J|v::l=>dH p v||jf p l
end
mutual
def g6(p:Nat->aa):∀v:V S,dH p (low v)=cH p v
 |.ty t x=>by
  have:∀l:L D,jf p (l.map .sym)=J:=by
   intro l
   induction l with|nil=>rfl|cons d l e=>simp[jf,dH,e]
  cases t<;>simp[low,dY,cH,dH,this]
 |.kb _=>rfl|.kn _ _=>rfl|.dat _=>rfl|.ptr _ _=>rfl|.lD _ _ _=>rfl|.lC _ _ _ _=>rfl|.sh _ _=>rfl|.emp=>rfl|.j4 _ _ _=>rfl|.fn _ a b=>by simp[low,cH,dH,qm p a,qm p b]
 |.de _ v=>by simp[low,cH,dH,g6 p v]
 |.agg c=>by simp[low,cH,dH,qm p c]
 |.gG c=>by simp[low,cH,dH,qm p c]
 |.gd _ v=>by simp[low,cH,dH,g6 p v]
 |.mp _=>rfl|.qN _=>rfl|.tD _=>rfl|.ub _=>rfl|.rQ _ _ _ _=>rfl|.o6 _ _ _=>rfl
def qm(p:Nat->aa):∀l:L (V S),jf p (bu l)=iA p l
 |[]=>rfl|v::l=>by simp[bu,jf,iA,g6 p v,qm p l]
end
def nL{p:Nat->aa}:∀{l:L T},jf p l=J->∀t∈l,dH p t=J
 |[],_,t,b=>by cases b
 |a::l,h,t,b=>by
  simp[jf,yG]at h;obtain rfl|b:=fF.1 b
  exact h.1;exact nL h.2 t b
structure acC(p:Nat->aa)(g g':Gh):Prop where
 bP:∀o b,p o=J->g.bP o=Z b->g'.bP o=Z b
 arr:∀o e x,p o=J->g.arr o e=Z x->g'.arr o e=Z x
 bp:∀b,g.bp b->g'.bp b
theorem aH.on{p:Nat->aa}{g g':Gh}{w w':av}(q:acC p g g')(y:jE g.bp w w'){t:T}{v:az}(h:aH g w t v)(l:dH p t=J):aH g' w' t v:=by
 induction h with
 |sym d v u=>exact .sym d v (u.mono y q.bp)|kb b=>exact .kb b|kn k n=>exact .kn k n|ptr o off b h=>exact .ptr o off b (q.bP _ _ l h)|lD d off C val K P u=>exact .lD d off C val (q.bp _ K) (λj c B=>by rw[y.cell (by rw[kq];exact K)];grind) (λj c B=>(u j c B).mono y q.bp)
 |lC o e i off len cap sz C h=>exact .lC o e i off len cap sz C (q.arr _ _ _ l h)|sh o e len cap sz a h=>exact .sh o e len cap sz a (q.arr _ _ _ l h)|emp a=>exact .emp a|j4 k Q a R u=>exact .j4 k Q a R (u.mono y q.bp)|fn f S z va vc A E _ _ s F=>simp[dH,yG]at l;exact .fn f S z va vc A E (λj t v h1 h2=>s j t v h1 h2 (nL l.1 t (hU h1))) (λj t v h1 h2=>F j t v h1 h2 (nL l.2 t (hU h1)))|de t x v _ s=>exact .de t x v (s l)|agg z I A _ s=>exact .agg z I A (λj t v h1 h2=>s j t v h1 h2 (nL l t (hU h1)))|gG z I A _ s=>exact .gG z I A (λj t v h1 h2=>s j t v h1 h2 (nL l t (hU h1)))|gd c t v _ s=>exact .gd c t v (λP=>s P l)|mp o b h=>exact .mp o b (q.bP _ _ l h)|qN o b h=>exact .qN o b (q.bP _ _ l h)|tD o b h=>exact .tD o b (q.bP _ _ l h)|ub e b h=>exact .ub e b h|rQ o m r i len cap sz a h=>simp[dH,yG]at l;exact .rQ o m r i len cap sz a (q.arr _ _ _ l.2 h)|o6 j d c a B u=>exact .o6 j d c a B (u.mono y q.bp)
def Gh.base(g:Gh)(p:Nat->aa):Gh:={g with bP:=λo=>if p o=J then g.bP o else Y,arr:=λo e=>if p o=J then g.arr o e else Y}
def Gh.gr(g:Gh)(p:Nat->aa):acC p g (g.base p):=
 ⟨λo b h e=>by simp[Gh.base,h,e],λo e x h k=>by simp[Gh.base,h,k],λ_ h=>h⟩
theorem Gh.Az{g:Gh}{p:Nat->aa}{o b:Nat}(h:(g.base p).bP o=Z b):p o=J/\g.bP o=Z b:=by
 grind[Gh.base]
theorem Gh.AA{g:Gh}{p:Nat->aa}{o e:Nat}{x:eU}(h:(g.base p).arr o e=Z x):p o=J/\g.arr o e=Z x:=by
 grind[Gh.base]
def Gh.fD{k b:Nat}(h:bx (g.base p) k b):p k=J/\bx g k b:=by obtain⟨h1,h2|⟨e,x,a,h2,h3⟩⟩:=h;exact⟨(Gh.Az h2).1,h1,.inl (Gh.Az h2).2⟩;exact⟨(Gh.AA h2).1,h1,.inr ⟨e,x,a,(Gh.AA h2).2,h3⟩⟩
theorem aY.base{g:Gh}{w:av}{s s0:St}(hs:aY g s w){p:Nat->aa}{aF:Nat}(E:∀o,aF<=o->p o=W)(r:s0.aF=aF)(hn:aF<=s.aF)
  (f:∀o ob,p o=J->s0.ob.get o=Z ob->∃a,s.ob.get o=Z a/\rF (dH p) a ob):aY (g.base p) s0 w:=by
 refine⟨r▸fP hn hs.aF,λo F=>?_,λo b u=>?_,λo e x z=>?_,hs.bp,λo A b h B=>hs.jF o A b (Gh.fD h).2 (Gh.fD B).2⟩
 simp_all[Gh.base]
 let ⟨d,k⟩:=Gh.Az u
 let ⟨h1,h2,h3⟩:=hs.box o b k
 refine⟨h1,h2,λob c=>?_⟩
 let ⟨a,l,n⟩:=f o ob d c
 let ⟨x,h4,h5⟩:=h3 a l
 exact⟨x,h4,h5.left (λt v C i=>C.on (g.gr p) (λ_ _=>rfl) i) n⟩
 let ⟨d,q⟩:=Gh.AA z
 let ⟨h1,h2⟩:=hs.arr o e x q
 refine⟨h1,λob c=>?_⟩
 let ⟨a,l,n⟩:=f o ob d c
 refine(h2 a l).left n (λh=>h.jU rfl) (λm j y i h=>?_) (funext λI=>by simp[Gh.base,bO d]) (λ_ _ _=>⟨rfl,yF⟩);have i:p m=J:=i
 simp_all[Gh.base]
def iI(a:Act):Sh->L az->Prop
 |[],[]=>True|(k,.one _)::l,v::b=>a.tmps[k]?=Z v/\iI a l b|(_,.box _)::l,_::b=>iI a l b|(_,.hid _)::l,b=>iI a l b|_,_=>False
def DB{l:L (V S)}{i:Nat}(h:nth l i=Z v):(bu l)[i]?=Z (low v):=by rw[jP]at h;simp[eP,h]
theorem jK{g:Gh}{w:av}{fr:bV S}{s:bf S}{a:Act}(hf:cS g (bB fr) a w)(hs:aY g (aE s) w):∀{p:Pt}{v:V S},Hh fr s p=Z v->∃u,aH g w (low v) u
 |.slot k,v,h=>by
  let ⟨u,_,e⟩:=hf.tm k (low v) (by rw[bU,show fr.get k=Z v from h];rfl)
  grind
 |.cell p i,v,h=>by
  simp[Hh]at h;split at h;rename_i o d
  let ⟨u,c⟩:=jK hf hs d
  split at h
  .rename_i B f;cases c with
   |ptr _ _ b j=>
    obtain⟨m,ty,q,t,e⟩:=(hs.box o b j).box (by rw[aK,f];rfl);have h1:=DB h;have h2:i<m.size:=by grind
    exact⟨m[i],e i _ _ h1 (tO h2)⟩
  cases h;cases h
 |.cap p i,v,h=>by
  simp[Hh]at h;split at h
  .rename_i d
   let ⟨u,c⟩:=jK hf hs d
   cases c with
   |fn _ _ _ C n t E h1 h2=>
    have y:=DB h;have z:i<n.size:=by grind
    exact⟨n[i],h2 i _ _ y (tO z)⟩
  cases h
 |.Lh p k,v,h=>by
  simp[Hh]at h;split at h;rename_i o d
  let ⟨u,c⟩:=jK hf hs d
  split at h
  .rename_i l f;cases c with
   |qN _ b j=>
    obtain⟨x,q,e⟩:=(hs.box o b j).2.2 _ (by rw[aK,f];rfl);cases e with
    |lp _ r h1 h2 h4 h5 h6 F A=>
     let ⟨u,_,c⟩:=A k (low v) (by
      show(bB l.fr).get k=_;rw[bU,h];rfl)
     grind
  cases h;cases h
def sK{g:Gh}{w:av}{fr:bV S}{s:bf S}{a:Act}(hf:cS g (bB fr) a w)(hs:aY g (aE s) w):∀{sh:Sh}{ps:L Pt}{bs:L Nat},qV fr s sh ps=Z bs->∃bl,PW (λo b=>g.bP o=Z b) bs bl
 |[],[],bs,h=>by simp only[qV,gC]at h;subst h;exact⟨[],rfl,λj t v h=>by simp at h⟩
 |(k,.one c)::l,ps,bs,h=>sK hf hs (sh:=l) (ps:=ps) (by simpa only[qV]using h)
 |(_,.box k)::l,p::ps,bs,h=>by
  simp[qV]at h;split at h;rename_i v d;split at h
  .rename_i o r h1 h2;simp at h;subst h;obtain rfl:=J4 h1
   let ⟨u,e⟩:=jK hf hs d
   let ⟨b,q,_⟩:=Fh e
   let ⟨bl,h3⟩:=sK hf hs h2
   refine⟨b::bl,by simp[h3.1],λj f i m n=>?_⟩;cases j with|zero=>simp_all|succ j=>exact h3.2 j f i (by simpa using m) (by simpa using n)
  cases h;cases h
 |(_,.hid k)::l,p::ps,bs,h=>by
  simp[qV]at h;split at h;rename_i d;split at h
  .rename_i h1 h2;simp at h;subst h;obtain rfl:=J4 h1
   let ⟨u,e⟩:=jK hf hs d
   let ⟨b,q,_⟩:=Fh e
   let ⟨bl,h3⟩:=sK hf hs h2
   refine⟨b::bl,by simp[h3.1],λj f i m n=>?_⟩;cases j with|zero=>simp_all|succ j=>exact h3.2 j f i (by simpa using m) (by simpa using n)
  cases h;cases h
 |[],_::_,_,h=>by simp[qV]at h
 |(_,.box _)::_,[],_,h=>by simp[qV]at h
 |(_,.hid _)::_,[],_,h=>by simp[qV]at h
theorem Dt{g:Gh}{w:av}{fr:bV S}{a:Act}(hf:cS g (bB fr) a w):∀{sh:Sh}{bs bl:L Nat}{vs:L (V S)},uX fr sh bs=Z vs->PW (λo b=>g.bP o=Z b) bs bl->∃vals,iI a sh vals/\PW (aH g w) (bu vs) vals
 |[],[],bl,vs,h,_=>by simp only[uX,gC]at h;subst h;exact⟨[],trivial,rfl,λj t v h=>by grind⟩
 |(k,.one c)::l,bs,bl,vs,h,d=>by
  simp[uX]at h;split at h
  .rename_i v r h1 h2;simp at h;subst h
   let ⟨vals,h3,h4⟩:=Dt hf h2 d
   let ⟨u,p,s⟩:=hf.tm k (low v) (by rw[bU,h1];rfl)
   refine⟨u::vals,⟨p,h3⟩,by simp[bu,qP,h4.1],λj t i e f=>?_⟩;cases j with|zero=>grind[bu]|succ j=>exact h4.2 j t i (by simpa[bu]using e) (by simpa using f)
  cases h
 |(_,.box k)::l,o::bs,b::bl,vs,h,d=>by
  simp[uX]at h;split at h
  .rename_i h2;simp at h;subst h;have q:g.bP o=Z b:=d.2 0 _ _ rfl rfl
   let ⟨vals,h3,h4⟩:=Dt hf h2 (bl:=bl) ⟨by simpa using d.1,λj m n e f=>d.2 (j+1) m n (by simpa using e) (by simpa using f)⟩
   refine⟨J3 k b::vals,h3,by simp[bu,qP,h4.1],λj t i e f=>?_⟩;cases j with|zero=>grind[bu,MJ]|succ j=>exact h4.2 j t i (by simpa[bu]using e) (by simpa using f)
  cases h
 |(_,.box k)::l,o::bs,[],vs,h,d=>absurd d.1 (by simp)
 |(_,.hid k)::l,o::bs,b::bl,vs,h,d=>by
  simp[uX]at h
  let ⟨vals,h3,h4⟩:=Dt hf h (bl:=bl) ⟨by simpa using d.1,λj m n e f=>d.2 (j+1) m n (by simpa using e) (by simpa using f)⟩
  exact⟨vals,h3,h4⟩
 |(_,.hid k)::l,o::bs,[],vs,h,d=>absurd d.1 (by simp)
 |[],_::_,_,_,h,_=>by simp[uX]at h
 |(_,.box _)::_,[],_,_,h,_=>by simp[uX]at h
 |(_,.hid _)::_,[],_,_,h,_=>by simp[uX]at h
structure Gx(sh:Sh)(bs:List Nat)(a:Act)(g:Gh)(s:bf S)(w:av)(x:fI S.A (kP sh))(s2:bf S)(ow:List Nat)(g2:Gh)(vals:List az)(al:List eU)(bl:List Nat):Prop where
 rel:aY g2 (aE s2) w
 ext:Ext s.fl g w g2 w
 pr:qI S g2.bp w (kP sh) x vals al bl
 at_:iI a sh vals
 YE:AL g2 al ow
 GZ:PW (λo b=>g2.bP o=Z b) bs bl
 now:ow.Nodup
 WS:∀o∈ow,s.fl<=o/\s.lo<=o/\o<s.aF
 nbs:bs.Nodup
 SM:∀o∈bs,s.fl<=o/\o<s.aF/\o∉ow/\∀e,g2.arr o e=Y
 fl:s2.fl=s.fl
 lo:s2.lo=s.lo
 aF:s2.aF=s.aF
 tw:∀o∈s.wr,o∈s2.wr
 same:∀o,o∉s2.wr->s2.ob.get o=s.ob.get o
 dr:s2.dr=s.dr
 ap:wP al
 owb:∀o∈ow,g.bP o=Y
def j7(hS:eZ S){s2:bf S}{fr:bV S}(hf:cS g (bB fr) a w)(hs:aY g (aE s) w){sh:Sh}{bs ow:L Nat}{x:fI S.A (kP sh)}{bl0:L Nat}(q:PW (λo b=>g.bP o=Z b) bs bl0)(h:qc sh bs fr s=Z (x,s2,ow)) :
  ∃g2 vals al bl,Gx sh bs a g s w x s2 ow g2 vals al bl:=by
 unfold qc at h;split at h;cases h;rename_i i;split at h;cases h;rename_i x' P ow' k z;split at h;cases h;rename_i s1 A;obtain⟨p,h2⟩|⟨_,h2⟩:=ah h
 rotate_left;cases h2;clear h;simp only[eM]at p;simp at h2;obtain⟨rfl,rfl,rfl⟩:=h2
 let ⟨vals,Q,R⟩:=Dt hf i q
 have r:=lA p.1;have hap:=zb p.2.1;have t:=lA p.2.2.1;have hbb:k=bs:=by
  have h1:k.length=bs.length:=by have:=beq_iff'.1 p.2.2.2.1;rwa [bS,bS]at this
  have h2:=p.2.2.2.2;clear p z t i q
  induction k generalizing bs with
  |nil=>cases bs with|nil=>rfl|cons=>simp at h1
  |cons c cs ih=>cases bs with|nil=>simp at h1|cons d ds=>simp only[List.zip_cons_cons,List.all_cons,eM]at h2;rw[beq_iff'.1 h2.1,ih (by simpa using h1) h2.2]
 subst hbb
 let ⟨p1,B,p4,p3⟩:=j8 hS hs z R (λo f=>by cases f)
 have hfl:=dw hS _ A
 let ⟨K,l,C,hfr⟩:=ew P hs hfl p1
 let ⟨f1,f2,f3,f4,f5,f6,f7⟩:=eD A
 let ⟨al,bl,m,E,u⟩:=p3 K (aE s1) P l C hfr (λo f=>f) (λo f=>by rw[aK,aK,f6 o (hap o f)])
 have v:∀o∈k,∃ob,s1.ob.get o=Z ob/\s.ob.get o=Z ob/\jz ob=W:=by
  intro o f
  let ⟨_,F,i,n⟩:=p4 o f
  have hnf:o∉P:=λhm=>by have:=(p1 o hm).nP (by rw[aK,i];rfl);rw[nJ n]at this;cases this
  exact⟨F,by rw[f6 o hnf];exact i,i,n⟩
 have I:∀o∈k,∃b,K.bP o=Z b:=by
  intro o f;obtain⟨j,hj,rfl⟩:=p8 f;have hj':j<bl.length:=by have:=u.1;omega
  exact⟨bl[j],u.2 j _ _ (iu hj) (iu hj')⟩
 refine⟨K,vals,al,bl,l,C,m,Q,E,u,r,λo f=>⟨(B o f).1,(B o f).2.1,(B o f).2.2.1⟩,t,λo f=>?_,f1,f2,f3,f4,f5,f7,E.apart l r m.iy,λo f=>?_⟩;rotate_left
 let ⟨_,_,_,oba,y,hB⟩:=B o f
 exact hs.zV ((aK s o).trans (by rw[y];rfl)) (ur hB)
 let ⟨F,hv1,hv2,n⟩:=v o f
 refine⟨(p4 o f).1,?_,λhm=>?_,λe=>?_⟩
 let ⟨b,p⟩:=I o f
 have:=l.lt p;have e1:(aE s1).aF=s1.aF:=rfl;omega
 let ⟨_,_,_,oba,y,hB⟩:=B o hm
 rw[hv2]at y;cases y;have:=ur hB;rw[nJ n]at this;cases this;cases y:K.arr o e with
 |none=>rfl|some x'=>
  exfalso
  let ⟨_,h2⟩:=l.arr o e x' y
  exact zO n (h2 _ (by rw[aK,hv1];rfl))
def anY:Pk->aa|.one _=>J|_=>W
structure AK(ex:List Nat)(sh:Sh)(bs:List Nat)(a:Act)(gb:Gh)(jD:bV S)(s0:bf S)(w:av)(al:List eU)(gh:Gh)(Br:bV S)(yw:bf S):Prop where
 rel:aY gh (aE yw) w
 fr:cS gh (bB Br) a w
 le:mH gb gh
 bp:gh.bp=gb.bp
 own:∀k b,bx gh k b->bx gb k b\/(s0.aF<=k/\∃a∈al,a.at b)
 fl:yw.fl=s0.fl
 lo:yw.lo=s0.lo
 aF:s0.aF<=yw.aF
 wr:yw.wr=s0.wr
 dr:yw.dr=s0.dr
 ob:∀o,o<s0.aF->o∉bs->yw.ob.get o=s0.ob.get o
 bP:gh.bP=gb.bP
 arr:∀o,o<s0.aF->∀e,gh.arr o e=gb.arr o e
 n:Br.n=jD.n
 NA:Br.df=jD.df
 get:∀k,k∉ex->(∀p∈sh,p.1=k->anY p.2=W)->Br.get k=jD.get k
theorem vQ{a:Act}{w:av}:∀{sh:Sh}{bs:L Nat}{x:fI S.A (kP sh)}{vals:L az}{al:L eU}{bl:L Nat}{gb:Gh}{jD Br:bV S}{s0 yw:bf S},mP sh bs x jD s0=Z (Br,yw)->jD.n<=bD->
  qI S gb.bp w (kP sh) x vals al bl->iI a sh vals->PW (λo b=>gb.bP o=Z b) bs bl->(∀o∈bs,∀e,gb.arr o e=Y)->(∀a∈al,∀b,a.at b->∀o,¬bx gb o b)->wP al->cS gb (bB jD) a w->aY gb (aE s0) w->
  ∃gh,AK [] sh bs a gb jD s0 w al gh Br yw:=by
 intro sh
 induction sh with
 |nil=>
  intro bs x vals al bl gb jD Br s0 yw h hn hp C g hna hfr hap F hs;cases bs with
  |nil=>obtain⟨rfl,rfl⟩:=h;exact⟨gb,hs,F,mH.refl _,rfl,λ_ _ h=>.inl h,rfl,rfl,cM _,rfl,rfl,λ_ _ _=>rfl,rfl,λ_ _ _=>rfl,rfl,rfl,λ_ _ _=>rfl⟩
  |cons o bs=>simp[mP]at h
 |cons q sh ih=>
  intro bs x vals al bl gb jD Br s0 yw h hn hp C g hna hfr hap F hs
  let ⟨k,pk⟩:=q
  cases pk with
  |one c=>
   cases hp with
   | @one _ _ n xr v vs CU AS bl h1 h2=>
   let ⟨hv,C⟩:=C
   obtain⟨hb,h⟩|⟨_,h⟩:=ah h
   rotate_left;cases h;simp only[eM]at hb;have hk:k<jD.n:=gH hb.1;have I:(vg s0 c n).2.aF<=bD:=gH hb.2;have l:=tM.1 hap
   let ⟨K,d,oX⟩:=mW (cs:=[c]) (x:=(n,())) h1 hs (λa ha=>hfr a (eL _ ha)) l.1 (by simpa[g9]using I)
   have e1:(g9 s0 [c] (n,())).1=[(vg s0 c n).1]:=rfl;have e2:(g9 s0 [c] (n,())).2=(vg s0 c n).2:=rfl;have hv1:aH K w (low (vg s0 c n).1) v:=oX.2 0 _ _ rfl rfl;have P:cS K (bB (jD.put k (vg s0 c n).1)) a w:=by
    refine⟨F.size,F.df.imp (λ_ _ ht=>ht.le d.le) d.le.bP,λj t s=>?_⟩;rw[bU,bV.jC _ _ _ _ (iE hk hn)]at s;by_cases hjk:j=k
    simp_all
    rw[cm hjk]at s
    let ⟨u,Q,hr⟩:=F.tm j t (by rw[bU];exact s)
    exact⟨u,Q,hr.le d.le⟩
   let ⟨gh,f⟩:=ih (gb:=K) h (by simpa[bV.put]using hn) (d.bp▸h2) C (by rw[d.bP];exact g) (λo ho e=>by
     have R:o<s0.aF:=by
      obtain⟨j,s,rfl⟩:=p8 ho;have hj':j<bl.length:=by have:=g.1;omega
      exact hs.lt (g.2 j _ _ (iu s) (iu hj'))
     rw[d.arr o R]
     grind) (λa ha b hb o m=>by
     obtain m|⟨_,a2,ha2,oY⟩:=d.own o b m
     grind
     grind) l.2.1 P d.rel
   refine⟨gh,f.rel,f.fr,d.le.trans f.le,f.bp.trans d.bp,λk' b m=>?_,f.fl.trans d.fl,f.lo.trans d.lo,fP d.aF f.aF,f.wr.trans d.wr,f.dr.trans d.dr,λo ho A=>?_,f.bP.trans d.bP,λo ho e=>?_,f.n,f.NA,λj hex s=>?_⟩;obtain m|⟨y,E,z,k3⟩:=f.own k' b m
   obtain m|⟨y,E,z,k3⟩:=d.own k' b m
   exact .inl m
   grind
   exact .inr ⟨fP d.aF y,E,kz _ z,k3⟩;rw[f.ob o (iE ho d.aF) A];exact d.ob o ho;rw[f.arr o (iE ho d.aF)];exact d.arr o ho e;rw[f.get j hex (λp hp=>s p (hJ _ hp)),bV.jC _ _ _ _ (iE hk hn),cm];intro hjk;cases s (k,.one c) fQ hjk.symm
  |box B=>
   cases hp with
   | @box _ _ n xr b hx vs CU AS bl hhp h1 h2=>
   cases bs with
   |nil=>exact absurd g.1 (by simp)
   |cons o bs=>
   obtain⟨hb,h⟩|⟨_,h⟩:=ah h
   rotate_left;cases h;have I:(kL s0 (fj bs) B n).2.aF<=bD:=gH hb;have l:=tM.1 hap;have l9:gb.bP o=Z b:=g.2 0 _ _ rfl rfl
   let ⟨K,d,aeO⟩:=pz h1 (z8 (bs:=bs) (bl:=bl) ⟨by simpa using g.1,λj a c y z=>g.2 (j+1) a c (by simpa using y) (by simpa using z)⟩) hs (λa ha=>hfr a (eL _ ha)) l.1 I
   have R:o<s0.aF:=hs.lt l9;have hk:=d.rel.sQ (o:=o) (b:=b) (by rw[d.bP];exact l9) hhp aeO (λe=>by rw[d.arr o R];simp_all);have hk2:aY K (aE {(kL s0 (fj bs) B n).2 with ob:=(kL s0 (fj bs) B n).2.ob.set aO o (kL s0 (fj bs) B n).1}) w:=by
    have:=eu (kL s0 (fj bs) B n).2 o (kL s0 (fj bs) B n).1 (kL s0 (fj bs) B n).2.wr
    simp_all
   have P:cS K (bB jD) a w:=⟨F.size,F.df.imp (λ_ _ ht=>ht.le d.le) d.le.bP,λj t s=>by
    let ⟨u,Q,hr⟩:=F.tm j t s
    exact⟨u,Q,hr.le d.le⟩⟩
   let ⟨gh,f⟩:=ih (bs:=bs) (bl:=bl) (gb:=K) h hn (d.bp▸h2) C ⟨by simpa using g.1,λj E c y z=>by rw[d.bP];exact g.2 (j+1) E c (by simpa using y) (by simpa using z)⟩
    (λr i e=>by
     have aeS:r<s0.aF:=by
      obtain⟨j,s,rfl⟩:=p8 i;have hj':j<bl.length:=by have:=g.1;grind
      exact hs.lt (g.2 (j+1) bs[j] bl[j] (by simp) (by simp))
     rw[d.arr r aeS]
     simp_all) (λa ha b hb o m=>by
     obtain m|⟨_,a2,ha2,oY⟩:=d.own o b m
     grind
     grind) l.2.1 P hk2
   refine⟨gh,f.rel,f.fr,d.le.trans f.le,f.bp.trans d.bp,λk' b m=>?_,f.fl.trans d.fl,f.lo.trans d.lo,fP d.aF f.aF,f.wr.trans d.wr,f.dr.trans d.dr,λr i A=>?_,f.bP.trans d.bP,λr i e=>?_,f.n,f.NA,λj hex s=>?_⟩;obtain m|⟨y,E,z,k3⟩:=f.own k' b m
   obtain m|⟨y,E,z,k3⟩:=d.own k' b m
   exact .inl m
   grind
   exact .inr ⟨fP d.aF y,E,kz _ z,k3⟩;have hne:r≠o:=λe=>A (by simp_all);rw[f.ob r (iE i d.aF) (λhm=>A (hJ _ hm))];rw[Tr.dy _ _ _ _ _ hne];exact d.ob r i;rw[f.arr r (iE i d.aF)];exact d.arr r i e;exact f.get j hex (λp hp=>s p (hJ _ hp))
  |hid B=>
   cases hp with
   | @hid _ _ n xr b hx vs CU AS bl hhp h1 h2=>
   cases bs with
   |nil=>exact absurd g.1 (by simp)
   |cons o bs=>
   obtain⟨hb,h⟩|⟨_,h⟩:=ah h
   rotate_left;cases h;have I:(kL s0 (fj bs) B n).2.aF<=bD:=gH hb;have l:=tM.1 hap;have l9:gb.bP o=Z b:=g.2 0 _ _ rfl rfl
   let ⟨K,d,aeO⟩:=pz h1 (z8 (bs:=bs) (bl:=bl) ⟨by simpa using g.1,λj a c y z=>g.2 (j+1) a c (by simpa using y) (by simpa using z)⟩) hs (λa ha=>hfr a (eL _ ha)) l.1 I
   have R:o<s0.aF:=hs.lt l9;have hk:=d.rel.sQ (o:=o) (b:=b) (by rw[d.bP];exact l9) hhp aeO (λe=>by rw[d.arr o R];simp_all);have hk2:aY K (aE {(kL s0 (fj bs) B n).2 with ob:=(kL s0 (fj bs) B n).2.ob.set aO o (kL s0 (fj bs) B n).1}) w:=by
    have:=eu (kL s0 (fj bs) B n).2 o (kL s0 (fj bs) B n).1 (kL s0 (fj bs) B n).2.wr
    simp_all
   have P:cS K (bB jD) a w:=⟨F.size,F.df.imp (λ_ _ ht=>ht.le d.le) d.le.bP,λj t s=>by
    let ⟨u,Q,hr⟩:=F.tm j t s
    exact⟨u,Q,hr.le d.le⟩⟩
   let ⟨gh,f⟩:=ih (bs:=bs) (bl:=bl) (gb:=K) h hn (d.bp▸h2) C ⟨by simpa using g.1,λj E c y z=>by rw[d.bP];exact g.2 (j+1) E c (by simpa using y) (by simpa using z)⟩
    (λr i e=>by
     have aeS:r<s0.aF:=by
      obtain⟨j,s,rfl⟩:=p8 i;have hj':j<bl.length:=by have:=g.1;grind
      exact hs.lt (g.2 (j+1) bs[j] bl[j] (by simp) (by simp))
     rw[d.arr r aeS]
     simp_all) (λa ha b hb o m=>by
     obtain m|⟨_,a2,ha2,oY⟩:=d.own o b m
     grind
     grind) l.2.1 P hk2
   refine⟨gh,f.rel,f.fr,d.le.trans f.le,f.bp.trans d.bp,λk' b m=>?_,f.fl.trans d.fl,f.lo.trans d.lo,fP d.aF f.aF,f.wr.trans d.wr,f.dr.trans d.dr,λr i A=>?_,f.bP.trans d.bP,λr i e=>?_,f.n,f.NA,λj hex s=>?_⟩;obtain m|⟨y,E,z,k3⟩:=f.own k' b m
   obtain m|⟨y,E,z,k3⟩:=d.own k' b m
   exact .inl m
   grind
   exact .inr ⟨fP d.aF y,E,kz _ z,k3⟩;have hne:r≠o:=λe=>A (by simp_all);rw[f.ob r (iE i d.aF) (λhm=>A (hJ _ hm))];rw[Tr.dy _ _ _ _ _ hne];exact d.ob r i;rw[f.arr r (iE i d.aF)];exact d.arr r i e;exact f.get j hex (λp hp=>s p (hJ _ hp))
theorem lz{ow:L Nat}{aF o:Nat}(h:dL ow aF o=J):o∉ow/\o<aF:=by
 grind[dL,Nat.ble_eq_true_of_le]
def oS{ow:L Nat}{aF o:Nat}(h1:o∉ow)(h2:o<aF):dL ow aF o=J:=by simp[dL,yG,EG,Wd];refine⟨h1,?_⟩;cases h:Nl aF o with|false=>rfl|true=>have:=gH h;omega
theorem Ud{p q:Nat->aa}{v:V S}(h:cH p v=W)(a:cH q v=J):∃o,p o=W/\q o=J:=by
 obtain h1|h1:=Classical.em (∃o,p o=W/\q o=J)
 exact h1
 grind[eg]
theorem o7(p:Nat->aa)(v:V S):uT (dH p) (low v) (low (fK p v)):=by cases a:cH p v with|true=>exact .inr ⟨_,by simp[fK,a,gn];rfl⟩|false=>exact .inl ⟨by simp[fK,a,gJ],by rw[g6];exact a⟩
theorem r5(p:Nat->aa)(v:V S):uT (dH p) (low (fK p v)) (low (fK p v)):=by cases a:cH p v with|true=>exact .inr ⟨_,by simp[fK,a,gn];rfl⟩|false=>exact .inl ⟨rfl,by simp_all[fK,g6]⟩
theorem Eb(p:Nat->aa)(t:Ty)(x:den S.A t):uT (dH p) (dY S t x) (dY S t x):=.inl ⟨rfl,g6 (S:=S) p (.ty t x)⟩
theorem MF(p:Nat->aa)(a b:Ty)(l:L (den S.A a×den S.A b)):rF (dH p) (cX (.map a b l:uz S)) (cX (.map a b l)):=by
 refine⟨rfl,λj t u h1 h2=>?_⟩;rw[h1]at h2;cases h2;simp only[kF,fG]at h1;obtain⟨q,_,rfl⟩:=h1
 grind[Eb]
def aaV{f:V S->V S}(l:LpV S)(t0:Tr (V S))(hf:∀v,t0.get=t0.get->uT (dH p) (low v) (low (f v))) :
  rF (dH p) (cX (.lp {l with fr:={l.fr with tm:=t0}})) (cX (.lp {l with fr:={l.fr with tm:=t0.mapA f}})):=by
 refine⟨rfl,rfl,λk u b=>?_⟩;have a:((t0.mapA f).map low).get k=Z u:=b;rw[Tr.get_map,Tr.nR,EL,fG]at a;obtain⟨v,c,rfl⟩:=a;exact⟨low v,by show(t0.map low).get k=_;rw[Tr.get_map,c];rfl,hf v rfl⟩
theorem kU(p:Nat->aa)(ob:uz S):rF (dH p) (cX ob) (cX (eT p ob)):=by
 cases ob with
 |box i=>
  refine⟨by simp[eF],λj t u h1 h2=>?_⟩;simp only[eP,kF,fG]at h1 h2;obtain⟨v,f,rfl⟩:=h1;obtain⟨g,⟨b,a,rfl⟩,rfl⟩:=h2
  grind[o7]
 |map d h l=>exact MF p d h l|GY d l=>
  refine⟨by simp,λj t u h1 h2=>?_⟩;simp only[kF,fG]at h1 h2;obtain⟨v,f,rfl⟩:=h1;obtain⟨g,⟨b,a,rfl⟩,rfl⟩:=h2
  grind[Eb,o7]
 |lp l=>exact aaV l l.fr.tm λv _=>o7 p v|arr=>rfl|kM=>rfl|qO=>rfl|zm=>rfl|rws=>rfl|gone=>rfl|E5=>rfl|kT n j l era m e hole=>
  cases c:p m with|true=>exact .inr (by simp[eT,c,gn];rfl)|false=>exact .inl ⟨by simp[eT,c,gJ];rfl,c⟩
theorem FY(p:Nat->aa)(ob:uz S):rF (dH p) (cX (eT p ob)) (cX (eT p ob)):=by
 cases ob with
 |box i=>refine⟨rfl,λj t u h1 h2=>?_⟩;rw[h1]at h2;cases h2;simp only[eP,kF,fG]at h1;obtain⟨g,⟨v,c,rfl⟩,rfl⟩:=h1;exact r5 p v
 |map d h l=>exact MF p d h l|GY d l=>
  refine⟨rfl,λj t u h1 h2=>?_⟩;rw[h1]at h2;cases h2;simp only[kF,fG]at h1;obtain⟨g,⟨v,c,rfl⟩,rfl⟩:=h1
  grind[Eb,r5]
 |lp l=>refine⟨rfl,rfl,λk u e=>?_⟩;refine⟨u,e,?_⟩;have a:((l.fr.tm.mapA (fK p)).map low).get k=Z u:=e;rw[Tr.get_map,Tr.nR,EL,fG]at a;obtain⟨v,c,rfl⟩:=a;exact r5 p v
 |arr=>rfl|kM=>rfl|qO=>rfl|zm=>rfl|rws=>rfl|gone=>rfl|E5=>rfl|kT n j l era m f hole=>
  cases b:p m with|true=>simp[eT,b,gn];rfl|false=>simp[eT,b,gJ];exact .inl ⟨rfl,b⟩
def y5(h:cH p v=J):fK p v=v:=by simp[fK,h,gJ]
theorem nX{p:Nat->aa}{ob:uz S}(h:gq p ob=J):eT p ob=ob:=by
 cases ob with
 |box g=>
  simp[eT,uz.box.injEq];have c:∀{l:L (V S)},iA p l=J->∀v∈l,cH p v=J:=by
   intro l
   induction l with
   |nil=>intro _ v b;cases b
   |cons a l d=>
    intro h v b;simp[iA,yG]at h;obtain rfl|b:=fF.1 b
    exact h.1;exact d h.2 v b
  have:∀v∈g,fK p v=v:=λv b=>y5 (c h v b);exact(OV this).trans (List.map_id _)
 |GY e l=>
  simp only[eT];have c:∀{l:L (den S.A e×V S)},yN p l=J->∀v∈l,cH p v.2=J:=by
   intro l
   induction l with
   |nil=>intro _ v b;cases b
   |cons a l d=>
    intro h v b;simp[yN,yG]at h;obtain rfl|b:=fF.1 b
    exact h.1;exact d h.2 v b
  have:∀q∈l,((q.1,fK p q.2):den S.A e×V S)=q:=λq i=>by rw[y5 (c h q i)]
  rw[(OV this).trans (List.map_id _)]
 |lp l=>simp[eT,DD (λv=>y5) (show mo (cH p) l.fr.tm=J from h)]|kT n j l era m f hole=>have h:p m=J:=h;simp[eT,h,gJ]|_=>rfl
section
variable {bs ow ds:List Nat}{fr:bV S}{s1:bf S}
def s8(a:∀b∈bs,b<bD)(o:Nat):(cI ds ow bs fr s1).2.ob.get o=if o∈bs then Y else(s1.ob.get o).map (eT (dL ow s1.aF)):=by show(bs.foldl (λt o=>t.del aO o) (s1.ob.mapA _)).get o=_;rw[Tr.nT bs _ o a,Tr.nR]
end
def CC:∀(l:L (V S))(k:Nat)(t:Tr (V S)),(mu l k t).map low=Bm (bu l) k (t.map low)
 |[],_,_=>rfl|a::l,k,t=>by simp only[mu,bu,Bm];rw[CC l,Tr.mc]
theorem sR{g:Gh}{w:av}{n:Nat}(hn:n<bD){args:L (V S)}{vs:Array az}(hl:args.length<=n)(a:PW (aH g w) (bu args) vs.toList) :
  cS g (bB {n:=n,tm:=mu args 0 .nil}) {tmps:=vs++Array.replicate (n-vs.size) undef,defers:=[]} w:=by
 have c:(bu args).length=vs.size:=by simpa using a.1
 have d:args.length=vs.size:=by rw[<-c,eF]
 refine⟨by simp[bB];omega,.nil,λj t b=>?_⟩;have e:(bB {n:=n,tm:=mu args 0 .nil}).get j=(Bm (bu args) 0 .nil).get j:=by show((mu args 0 .nil).map low).get j=_;rw[CC];rfl
 rw[e,Ft _ _ _ (by omega)]at b;split at b;refine⟨vs[j],?_,a.2 j t _ b (by simp)⟩
 grind
 cases b
end
end TL
end
