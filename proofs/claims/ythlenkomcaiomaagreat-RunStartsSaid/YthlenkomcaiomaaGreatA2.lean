import Derived.Laws.OwnMore
import Derived.Test.YthlenkomcaiomaaGreatA1
set_option linter.all false
set_option maxRecDepth 100000
set_option maxHeartbeats 0
noncomputable section
open Option renaming some->Z,none->Y
open Bool renaming true->W,false->J
open Nat renaming beq->Nq,ble->Nl,blt->Nt,succ->Ns,add->Na
open Go.Result(andThen_ok)
open Go.Sem(run_bind run_pure)
section
namespace TL
open Go
variable {S:Sg}
section
def yj(o:Oper):L Nat:=(o.after.toList.filter (Region.binds .any)).map (·.on)
def Ol:L Oper->L Nat->L Nat
 |[],a=>a|o::l,a=>Ol l (a++[(yj o).foldl (λb e=>b||| (1 <<< e||| a.getD e 0)) 0])
def wX(ops:L Oper):L Nat:=Ol ops []
def vA:L Oper->Nat->Bool
 |[],_=>W|o::l,n=>(yj o).all (λe=>Nt e n)&&vA l (Ns n)
def Mc(o:Oper)(k:Nat):Bool:=o.op.operands.toList.any λx=>match x with|.tmp j=>Nq j k|_=>J
def af4(ops:L Oper)(a:L Nat):Bool:=
 ops.zipIdx.all λ(o,i)=>match o.dst with
  |none=>W|some d=>Nt d bI&&ops.zipIdx.all λ(p,j)=>bif Nq i j then !(Mc p d)else !(match p.dst with|some e=>Nq e d|none=>J)&&(!(Mc p d)||((a.getD j 0).testBit i||(a.getD i 0).testBit j))
def Tj(ops:L Oper)(a:L Nat)(i:Nat)(o:Oper):Bool:=match o.dst with
 |none=>J|some d=>ops.zipIdx.any λ(p,j)=>Mc p d&&(a.getD i 0).testBit j
def aeg(ops:L Oper):Bool:=ops.all λo=>o.op.operands.toList.all λx=>match x with|.tmp j=>Nt j bI|_=>W
def Qs(ops:L Oper)(a:L Nat):Bool:=
 ops.zipIdx.all λ(o,i)=>match o.guard with
  |none=>W|some (j,_)=>(a.getD i 0).testBit j
def fj(o:Oper):Bool:=match o.op with|.alloc _=>o.guard.isNone|_=>J
def TK(a b:Nat):Bool:=Nq (a&&& b) a
abbrev VM:=L (Nat×Oper)
section
variable (E:eO S)(call:gn S){ω:Type}
def Pr(ops:L Oper)(a:L Nat)(done:Nat)(fr:bU S):VM->O (Nat×Oper)
 |[]=>Y|(i,o)::l=>bif !(done.testBit i)&&(TK (a.getD i 0) done&&((!(fj o)&&!(Tj ops a i o))&&(vu ops fr o||(match iO ops fr o with|some (Z _)=>BE E (rZ fr o.op) o|some Y=>BE E fr o|none=>J))))
   then Z (i,o)else Pr ops a done fr l
def Pu(a:L Nat)(done vN:Nat):VM->O (Nat×Oper)
 |[]=>Y|(i,o)::l=>bif !(done.testBit i)&&(!(fj o)&&TK (a.getD i 0) (done||| vN))then Z (i,o)else Pu a done vN l
def yP(E:gm)(a:Nat):VM->bU S->bg S->O (bU S×bg S)
 |[],fr,s=>Z (fr,s)|(i,o)::l,fr,s=>bif a.testBit i then match o.op,o.dst with
   |.alloc t,Z d=>match E.E.ti t with
    |some b=>bif Nt s.aD bI&&Nt d fr.n then yP E a l (fr.put d (.ptr s.aD 0)) (dj s (.box (b.zero.map zeroV)))else Y|none=>Y
   |_,_=>Y
  else yP E a l fr s
def jZ(p:Nat->Bool)(fr:bU S)(o:Op):Bool:=o.operands.toList.any λx=>match cD fr x with
 |some v=>cI p v|none=>J
def M9:Op->Bool
 |.move _|.assign _|.nilCheck _|.fieldAddr ..=>W|_=>J
def EY(ops:L Oper)(a:L Nat)(done i:Nat)(fr:bU S)(aD:Nat)(wr ow:L Nat):VM->Bool
 |[]=>W|(j,o)::l=>(!(done.testBit j)||(fj o||((a.getD i 0).testBit j||(!(jZ (dJ wr aD) fr o.op||jZ (dJ wr aD) (rZ fr o.op) o.op)||(M9 o.op&&!(jZ (λx=>ow.contains x) fr o.op||jZ (λx=>ow.contains x) (rZ fr o.op) o.op))))))&&EY ops a done i fr aD wr ow l
def yC(all:VM)(done:Nat):Nat:=all.foldl (λb(i,o)=>bif fj o&&!(done.testBit i)then b||| 1 <<< i else b) 0
def af6(ops:L Oper)(fr:bU S):bU S:={fr with tm:=(ops.filterMap (·.dst)).foldl (λt k=>t.del aM k) fr.tm}
def uL(ops:L Oper)(a:L Nat)(all:VM)(kp:bU S->V S->bg S->O ω)(k:bU S->bg S->O ω):Nat->Nat->bU S->bg S->O ω
 |0,_,_,_=>Y|n+1,done,fr,s=>
  match Pr E ops a done fr all with
  |some (i,o)=>bif gP fr o.dst then bif vu ops fr o then uL ops a all kp k n (done||| 1 <<< i) (fr.jm o.dst dU) s else match iO ops fr o with
    |none=>Y|some Y=>fL E Y fr s o λt=>Ke (SR ops o.dst) t λt=>uL ops a all kp k n (done||| 1 <<< i) (fr.jm o.dst t) s|some (Z c)=>aO (NK c fr o.op) (fL E (Z c) (rZ fr o.op) s o λt=>uL ops a all kp k n (done||| 1 <<< i) (fr.jm o.dst (.gd c t)) s)
   else Y
  |none=>
   let b:=yC all done
   match Pu a done b all with
   |some (i,o)=>
    bif all.all (λ(j,p)=>done.testBit j||(fj p||(Nq i j||(a.getD j 0).testBit i)))then
     match yP E.T (b&&& a.getD i 0) all fr s with
     |none=>Y|some (d,f)=>
      pT E call ops o d {f with wr:=[]} (λt e=>kp (af6 ops d) t {e with wr:=e.wr++f.wr}) λt e g=>
       bif EY ops a done i fr s.aD e.wr g all then uL ops a all kp k n (done||| (b&&& a.getD i 0)||| 1 <<< i) ((dx g d).jm o.dst t) {e with wr:=e.wr++f.wr}else Y
    else Y
   |none=>match yP E.T b all fr s with
    |none=>Y|some (fr,s)=>bif all.all (λ(j,p)=>done.testBit j||fj p)then k fr s else Y
def Q4(E:gm)(n:Nat)(l:L Oper):Bool:=l.all λo=>bif fj o then(match o.op with
  |.alloc t=>(E.E.ti t).isSome|_=>W)&&(match o.dst with|some d=>Nt d n|none=>W)
 else W
def Yv(E:eO S)(fr:bU S)(s:bg S)(l:L Oper)(a:L Nat):Bool:=vA l 0&&(af4 l a&&(Qs l a&&(aeg l&&(Q4 E.T fr.n l&&Nq s.fl 0))))
end
inductive LO(X R B P:Type) where
 |next (x:X)|out (j:Nat) (x:X)|ret (b:B) (r:R)|iJ (b:B) (p:P)
def iter{X R B P:Type}(F:X->O (LO X R B P)):Nat->X->O (LO X R B P)
 |0,_=>Y|n+1,x=>match F x with
  |none=>Y|some (.next y)=>iter F n y|some (.out j y)=>Z (.out j y)|some (.ret y r)=>Z (.ret y r)|some (.iJ y p)=>Z (.iJ y p)
def O1:Code->Bool
 |.region _ c _=>c.toList.all λo=>match o.op with|.defer _=>J|_=>W
 |.seq a b=>O1 a&&O1 b|.cond _ a b=>O1 a&&O1 b|.block _ b=>O1 b|.loop b=>O1 b|.scope _=>J|.rangeFunc ..=>J|_=>W
def vn:Code->L Nat
 |.region _ d _=>d.toList.foldl (λl o=>o.op.operands.toList.foldl (λl x=>match x with|.tmp k=>k::l|_=>l) l) []
 |.seq a b=>vn a++vn b|.cond c a b=>(match c with|.tmp k=>[k]|_=>[])++(vn a++vn b)
 |.block _ b=>vn b|.loop b=>vn b|_=>[]
def NL(l:L Nat)(fr:bU S):bU S:={n:=fr.n,tm:=l.foldl (λt k=>match fr.get k with|some v=>t.set aM k v|none=>t) .nil,df:=[]}
def Pg:L Nat->L (V S)->Tr (V S)->Tr (V S)
 |k::a,v::b,t=>Pg a b (t.set aM k v)|_,_,t=>t
def Ko:LoopState->O Code->Bool
 |.ready,Y=>W|_,_=>J
def aeE{S:Sg}:LoopState->O Code->O (vg S)
 |.ready,Y=>Z .rU|.done,Z (.exit i)=>Z (.ext i)|.done,Z .ret=>Z .ret|_,_=>Y
def S6:Operand->L Nat
 |.tmp k=>[k]|_=>[]
def eT:Code->L Nat
 |.region _ d _=>d.toList.filterMap (·.dst)|.seq a b=>eT a++eT b|.cond c a b=>S6 c++(eT a++eT b)|.block _ b=>eT b|.loop b=>eT b|.rangeFunc _ _ a b=>eT a++eT b|.scope b=>eT b|_=>[]
def lF:Code->L Nat
 |.seq a b=>lF a++lF b|.cond _ a b=>lF a++lF b|.block i b=>(lF b).filter λj=>!(Nq i j)|.loop b=>lF b|.rangeFunc _ _ a b=>lF a++lF b|.scope b=>lF b|.exit i=>[i]|_=>[]
def wN:L Nat->L Nat
 |[]=>[]|a::l=>a::(wN l).filter λb=>!(Nq a b)
abbrev LOT(S:Sg)(sh:Sh)(rs:L Ck):=LO (gp S.A (lO sh)) (gH S.A rs) (gp S.A (lO (O0 sh))) (den S.A S.pt)
def Yl(ds:L Nat):Sh->L Nat
 |[]=>[]|(k,.one (.own _))::l=>bif ds.contains k then Yl ds l else k::Yl ds l|_::l=>Yl ds l
def PD:Sh->L Nat
 |[]=>[]|(k,.one (.own _))::l=>k::PD l|_::l=>PD l
def Wa(fr:bU S)(s:bg S)(c:Nat):O (V S):=bif Nt c 1000000 then fr.get c else match fr.get (Nat.div (Nat.sub c 1000000) 1000)with
 |some (.ptr o 0)=>match s.ob.get o with
  |some (.box a)=>nth a (Nat.mod (Nat.sub c 1000000) 1000)|_=>Y
 |_=>Y
def Vt(fr:bU S)(s:bg S)(al:L (Nat×Nat)):Bool:=al.all λp=>match fr.get p.1,Wa fr s p.2 with
 |some (.sh o r),Z (.sh a b)=>Nq o a&&Nq r b|_,_=>J
def acD(fr:bU S)(ow:L Nat)(al:L (Nat×Nat)):Bool:=al.all λp=>match fr.get p.1 with
 |some (.sh o _)=>ow.contains o|_=>J
def mT(s:bg S):L (Nat×Nat)->bU S->bU S
 |[],fr=>fr|p::l,fr=>mT s l (match Wa fr s p.2 with|some v=>fr.put p.1 v|none=>fr)
def ab9(fr:bU S)(l:L Nat):Bool:=l.all λk=>match fr.get k with
 |some (.sh _ _)=>W|_=>J
def E6(ds:L Nat)(sh:Sh):Bool:=sh.all λp=>match p.2 with
 |.one _=>ds.contains p.1|.box _=>W|.hid _=>W
abbrev Rv:=L (Nat×Ty)
def E7(rv:Rv):L Ck:=rv.map λp=>.dat p.2
def Wg(fr:bU S):Rv->O (L (V S))
 |[]=>Z []|(k,_)::l=>match fr.get k,Wg fr l with
  |some v,Z r=>Z (v::r)|_,_=>Y
def yu:(rv:Rv)->gH S.A (E7 rv)->bU S->bU S
 |[],_,fr=>fr|(k,_)::l,x,fr=>yu l x.2 (fr.put k (.ty _ x.1))
def bU.tG(fr:bU S)(c:Operand)(b:Bool):bU S:=match c with
 |.tmp k=>bif Nt k fr.n then fr.put k (.kb b)else fr|_=>fr
noncomputable def IB{ω:Type}(e:Bool)(x y:O ω):O ω:=bif e then(open Classical in if x=y then y else Y)else y
def abD(l:L Nat)(i:Nat):Nat:=match l with
 |[]=>0|a::l=>bif Nq a i then 0 else Ns (abD l i)
def TD(aD:Nat)(bs wr:L Nat):Bool:=wr.all λo=>Nl aD o||bs.contains o
def vz{ω:Type}(sh:Sh)(bs:L Nat)(aD:Nat)(fr:bU S)(s:bg S)(f:gp S.A (lO sh)->O ω):O ω:=
 match qF sh bs fr s with
 |some (x,a,b)=>bif TD aD bs a.wr&&(b.all (λo=>Nl aD o)&&a.dr.all (λo=>Nl aD o))then f x else Y|none=>Y
section
variable (E:eO S)(call:gn S)(n:Nat)(fid:FuncId)(rv:Rv)
def Yk{ω:Type}(k:bU S->bg S->O ω)(Q:vg S->bU S->bg S->O ω):vg S->bU S->bg S->O ω
 |.rU,fr,s=>k fr s|.ext i,fr,s=>Q (.ext i) fr s|.ret,fr,s=>Q .ret fr s|.iJ v,fr,s=>Q (.iJ v) fr s
def NQ{ω:Type}(i:Nat)(Q:vg S->bU S->bg S->O ω):vg S->bU S->bg S->O ω
 |.rU,fr,s=>Q .rU fr s|.ext j,fr,s=>match Nq j i with
  |true=>Q .rU fr s|false=>Q (.ext j) fr s
 |.ret,fr,s=>Q .ret fr s|.iJ v,fr,s=>Q (.iJ v) fr s
def aaV{ω:Type}(Q:vg S->bU S->bg S->O ω)(fr:bU S)(s:bg S):L Nat->Nat->O ω
 |[],_=>Y|[i],_=>Q (.ext i) fr s|i::l,j=>match j with
  |0=>Q (.ext i) fr s|j+1=>aaV Q fr s l j
def uA(aD:Nat)(s:bg S):L (sU S)->O (L Nat)
 |[]=>Z []|.mark o::l=>match s.ob.get o with
  |some .zZ=>bif Nl aD o then(match uA aD s l with|some r=>Z (o::r)|none=>Y)else Y
  |_=>Y
 |_=>Y
def ahR(fl aD:Nat)(base:bU S×bg S):Bool:=match base.1.df with
 |.marks o::_=>(match base.2.ob.get o with
  |some .FG=>Nt o aD&&Nl fl o|_=>J)
 |_=>J
def Pj(aD:Nat)(base:bU S×bg S)(fr':bU S)(s':bg S):Bool:=
 match uA aD s' (fr'.df.take (Nat.sub (cE fr'.df) (cE base.1.df)))with
 |some os=>sw os&&(Nq (Na (cE os) (cE base.1.df)) (cE fr'.df)&&(Nq (cE os) 0||ahR s'.fl aD base))|none=>J
def Pq(sh:Sh)(bs:L Nat)(aD:Nat)(a:L Nat)(base:bU S×bg S)(c:Bool)(al:L (Nat×Nat))(ex:vg S)(fr':bU S)(s':bg S):O (LOT S sh (E7 rv)):=
 bif Pj aD base fr' s' then match ex with
  |.rU=>bif Vt fr' s' al then vz sh bs aD fr' s' (λy=>Z (.next y))else Y|.ext j=>bif a.contains j&&Vt fr' s' al then vz sh bs aD fr' s' (λy=>Z (.out (abD a j) y))else Y|.ret=>match Wg fr' rv with
   |none=>Y|some d=>match gq s' (E7 rv) d with
    |some (r,b,_)=>match dR s' b with
     |some s'=>vz (O0 sh) bs aD fr' s' (λy=>Z (.ret y r))|none=>Y
    |none=>Y
  |.iJ v=>bif c then match gq s' [.dat S.pt] [v]with
    |some (p,b,_)=>match dR s' b with
     |some s'=>vz (O0 sh) bs aD fr' s' (λy=>Z (.iJ y p.1))|none=>Y
    |none=>Y
   else Y
  else Y
def Fc(e:{ω:Type}->(vg S->bU S->bg S->O ω)->bU S->bg S->O ω)(sh:Sh)(bs:L Nat)(aD:Nat)(b:L Nat)(base:bU S×bg S)(f:Bool)(al:L (Nat×Nat))(x:gp S.A (lO sh)):O (LOT S sh (E7 rv)):=
 match nu sh bs x base.1 base.2 with
 |none=>Y|some (c,a)=>e (λg d h=>Pq rv sh bs aD b base f al g d {h with lo:=base.2.lo}) (mT a al c) {a with lo:=aD}
def uI:Code->O Nat
 |.region id _ _=>Z id|.seq a b=>match uI a with
  |some k=>Z k|none=>uI b
 |.cond _ a b=>match uI a with
  |some k=>Z k|none=>uI b
 |.block _ b=>uI b|.loop b=>uI b|.scope b=>uI b|_=>Y
def aiF(a b:Code):Nat:=match uI a with
 |some k=>Na 1000000 k|none=>match uI b with
  |some k=>Na 1000000 k|none=>999999
noncomputable def S5{ω:Type}(c:Operand)(A B:(vg S->bU S->bg S->O ω)->bU S->bg S->O ω)(Q:vg S->bU S->bg S->O ω)(fr:bU S)(s:bg S):O ω:=match cD fr c with
  |some (.kb W)=>A Q fr s|some (.kb J)=>B Q fr s|some (.ub e)=>IB e (A Q (fr.tG c W) s) (B Q (fr.tG c J) s)|some v=>match iD v with
   |some t=>aj t (A Q (fr.tG c W) s) (B Q (fr.tG c J) s)|none=>Y
  |none=>Y
def XD(k:{ω:Type}->(vg S->bU S->bg S->O ω)->bU S->bg S->O ω){ω:Type}(sh:Sh)(i:L Pt)(al:L (Nat×Nat))(g h:L Nat)(Q:vg S->bU S->bg S->O ω)(fr:bU S)(s:bg S):O ω:=
 match rT fr s sh i with
 |none=>Y|some e=>
  let ds:=g++(Yl g sh++al.map (·.1))
  match qF sh e fr s with
  |none=>Y|some (l,b,f)=>
   let base:=cL ds f e fr b
   bif (E6 ds sh&&(ab9 fr (Yl g sh)&&(Vt fr s al&&acD fr f al)))&&ds.all (λd=>Nt d fr.n)then
    ah (Fc rv k sh e b.aD h base E.pn al l) λ(o:LOT S sh (E7 rv))=>match o with
     |.next x=>match nu sh e x base.1 base.2 with
      |none=>Y|some (c,a)=>Q .rU (mT a al c) {a with wr:=b.ob.jT (gL (dJ f b.aD))++(e++b.wr),dr:=f++b.dr}
     |.out j x=>match nu sh e x base.1 base.2 with
      |none=>Y|some (c,a)=>aaV Q (mT a al c) {a with wr:=b.ob.jT (gL (dJ f b.aD))++(e++b.wr),dr:=f++b.dr} h j
     |.ret x r=>match nu (O0 sh) e x base.1 base.2 with
      |none=>Y|some (c,a)=>Q .ret (yu rv r c) {a with wr:=b.ob.jT (gL (dJ f b.aD))++(e++b.wr),dr:=f++b.dr}
     |.iJ y p=>bif E.pn then match nu (O0 sh) e y base.1 base.2 with
      |none=>Y|some (c,a)=>Q (.iJ (.ty S.pt p)) c {a with wr:=b.ob.jT (gL (dJ f b.aD))++(e++b.wr),dr:=f++b.dr}
      else Y
   else Y
def W0{ω:Type}(b:(vg S->bU S->bg S->O ω)->bU S->bg S->O ω)(Q:vg S->bU S->bg S->O ω)(a:bU S->bg S->O ω):Nat->bU S->bg S->O ω
 |0,fr,s=>a fr s|m+1,fr,s=>b (Yk (W0 b Q a m) Q) fr s
def Xp(k:{ω:Type}->(vg S->bU S->bg S->O ω)->bU S->bg S->O ω){ω:Type}(sh:Sh)(i:L Pt)(al:L (Nat×Nat))(g h:L Nat)(Q:vg S->bU S->bg S->O ω)(fr:bU S)(s:bg S):O ω:=match rT fr s sh i with
  |none=>Y|some e=>
   let ds:=g++(Yl g sh++al.map (·.1))
   match qF sh e fr s with
   |none=>Y|some (l,a,f)=>
    let base:=cL ds f e fr a
    bif (E6 ds sh&&(ab9 fr (Yl g sh)&&(Vt fr s al&&acD fr f al)))&&ds.all (λd=>Nt d fr.n)then
     ah (iter (Fc rv k sh e a.aD h base E.pn al) n l) λ(o:LOT S sh (E7 rv))=>match o with
      |.next _=>Y|.out j x=>match nu sh e x base.1 base.2 with
       |none=>Y|some (c,b)=>aaV Q (mT b al c) {b with wr:=a.ob.jT (gL (dJ f a.aD))++(e++a.wr),dr:=f++a.dr} h j
      |.ret x r=>match nu (O0 sh) e x base.1 base.2 with
       |none=>Y|some (c,b)=>Q .ret (yu rv r c) {b with wr:=a.ob.jT (gL (dJ f a.aD))++(e++a.wr),dr:=f++a.dr}
      |.iJ y p=>bif E.pn then match nu (O0 sh) e y base.1 base.2 with
       |none=>Y|some (c,b)=>Q (.iJ (.ty S.pt p)) c {b with wr:=a.ob.jT (gL (dJ f a.aD))++(e++a.wr),dr:=f++a.dr}
       else Y
    else Y
def LU:Code->Bool
 |.seq a b=>LU a||LU b|.cond _ a b=>LU a||LU b|.block _ b=>LU b|.loop b=>LU b|.rangeFunc ..=>W|.scope b=>LU b|_=>J
def amR{ω:Type}(b:Bool)(k:bU S->bg S->O ω)(fr:bU S)(s:bg S):O ω:=
 bif b then(bif Nt s.aD bI then k {fr with df:=.marks s.aD::fr.df} (dj s .FG)else Y)else k fr s
noncomputable def zw:Code->Nat->{ω:Type}->(vg S->bU S->bg S->O ω)->bU S->bg S->O ω
 |.region _ h J,_,_,Q,fr,s=>SZ E call h.toList (λfr t s=>Q (.iJ t) fr s) (Q .rU) h.toList fr s|.region _ h W,_,_,Q,fr,s=>
  let l:=h.toList
  let m:=wX l
  let all:=l.zipIdx.map λp=>(p.2,p.1)
  bif Yv E fr s l m then uL E call l m all (λfr t s=>Q (.iJ t) fr s) (Q .rU) (Ns (Nat.mul 2 (cE l))) 0 fr s else Y
 |.seq a b,i,_,Q,fr,s=>zw a i (Yk (zw b i Q) Q) fr s|.cond c a b,i,_,Q,fr,s=>match E.sh fid (aiF a b)with
  |none=>S5 c (zw a i) (zw b i) Q fr s|some ⟨sh,j,o,_⟩=>XD E rv (λQ fr s=>S5 c (zw a i) (zw b i) Q fr s) sh j o (eT (.cond c a b)++rv.map (·.1)) (wN (lF (.cond c a b))) Q fr s
 |.block i b,_,_,Q,fr,s=>zw b i (NQ i Q) fr s|.loop b,i,_,Q,fr,s=>match E.sh fid i with
  |none=>Y|some ⟨sh,j,o,u⟩=>W0 (zw b i) Q (amR (LU b) λfr s=>Xp E n rv (zw b i) sh j o (eT b++rv.map (·.1)) (wN (lF b)) Q fr s) u fr s
 |.rangeFunc g v k d,_,_,Q,fr,s=>match(cD fr g).bind (pW · [.rJ (Ns s.aD)])with
  |none=>Y|some (f,args)=>bif O1 k&&(O1 d&&(Nl s.fl (Ns s.aD)&&Nt (Ns s.aD) bI))then
    uM E call (dj (dj s .zZ) (.lp ⟨.ready,Y,fid,NL (vn k++vn d) fr,v.toList,k,d⟩)) f args (λ_ _=>Y) λ_ q r=>match q.ob.get (Ns s.aD)with
      |some (.lp l)=>match aeE l.st l.vN with
       |some e=>Q e {(dx r fr)with df:=.mark s.aD::(dx r fr).df} {q with ob:=q.ob.set aM (Ns s.aD) (.lp {l with st:=.exhausted})}
       |none=>Y
      |_=>Y
   else Y
 |.exit i,_,_,Q,fr,s=>Q (.ext i) fr s|.ret,_,_,Q,fr,s=>Q .ret fr s|.skip,_,_,Q,fr,s=>Q .rU fr s|.label _,_,_,Q,fr,s=>Q .rU fr s|.scope b,i,_,Q,fr,s=>zw b i Q fr s|_,_,_,_,_,_=>Y
end
def lP(E:gm)(s:bg S)(fr:bU S):L ResultVar->O (L (V S))
 |[]=>Z []|.tmp t::l=>match fr.get t,lP E s fr l with
  |some x,Z r=>Z (x::r)|_,_=>Y
 |.cell a t::l=>match E.E.ti t,fr.get a with
  |some i,Z a=>match yF i (E.ty t) s a,lP E s fr l with
   |some (p,x,_),Z r=>bif p then Z (x::r)else Y|_,_=>Y
  |_,_=>Y
def Pm(E:gm):L ResultVar->L TypeId->Rv
 |.tmp k::l,t::a=>match E.ty t with
  |some τ=>(k,τ)::Pm E l a|none=>Pm E l a
 |_::l,_::a=>Pm E l a|_,_=>[]
def isRec(o:Oper):Bool:=match o.guard,o.op with
 |none,.call c=>match c.callee with
  |.builtin .recover=>W|_=>J
 |_,_=>J
def ahE(pv:O (V S)):V S:=match pv with
 |some v=>v|none=>.dat (.lit .nilIface)
section
variable (E:eO S)(call:gn S)(n:Nat)(pv:Option (V S)){ω:Type}
noncomputable def evR(fid:FuncId)(rv:Rv):Code->Nat->(Bool->vg S->bU S->bg S->O ω)->bU S->bg S->O ω
 |.region id d J,i,Q,fr,s=>match d.toList with
  |o::l=>bif isRec o then(bif gP fr o.dst then SZ E call (o::l) (λfr t s=>Q pv.isSome (.iJ t) fr s) (Q pv.isSome .rU) l (fr.jm o.dst (ahE pv)) s else Y)
   else zw E call n fid rv (.region id d J) i (Q J) fr s
  |[]=>Y
 |.seq a b,i,Q,fr,s=>evR fid rv a i (λe f fr s=>match f with
  |.rU=>zw E call n fid rv b i (Q e) fr s|f=>Q e f fr s) fr s
 |c,i,Q,fr,s=>zw E call n fid rv c i (Q J) fr s
noncomputable def S1(d:sU S)(s:bg S)(k:Bool->bg S->O ω):O ω:=match d with
 |.call f args=>match pW f args with
  |none=>Y|some (f,args)=>match E.T.E.SV f with
   |none=>Y|some fn=>match fn.body with
    |none=>Y|some c=>bif Nl (cE args) fn.ntmps&&Nt fn.ntmps bI then
      evR E call n pv f (Pm E.T fn.results.toList fn.resultTypes.toList) c 0 (λa e fr b=>match fr.df with
       |[]=>match e with
        |.rU|.ret=>match lP E.T b fr fn.results.toList with
         |some _=>k a {b with lo:=s.lo}
         |none=>Y
        |_=>Y
       |_::_=>Y) {n:=fn.ntmps,tm:=mW args 0 .nil} {s with lo:=s.aD}
     else Y
 |.mark o=>match s.ob.get o with
  |some .zZ=>bif Nl s.fl o&&Nt o bI then k J {s with ob:=s.ob.del aM o,wr:=o::s.wr}else Y
  |_=>Y
 |.marks o=>match s.ob.get o with
  |some .FG=>bif Nl s.fl o&&Nt o bI then k J {s with ob:=s.ob.del aM o,wr:=o::s.wr}else Y
  |_=>Y
 |_=>Y
end
noncomputable def Gy(E:eO S)(call:gn S)(n:Nat){ω:Type}:L (sU S)->O (V S)->bg S->(O (V S)->bg S->O ω)->O ω
 |[],pv,s,k=>k pv s|d::l,pv,s,k=>S1 E call n pv d s λa b=>Gy E call n l (bif a then Y else pv) b k
def NS(E:gm){ω:Type}(a:L ResultVar)(fr:bU S)(k kp:V S->bg S->O ω)(pv:O (V S))(s:bg S):O ω:=match pv with
 |none=>match lP E s fr a with
  |some l=>k (DL l) s|none=>Y
 |some v=>kp v s
noncomputable def S0(E:eO S)(call:gn S)(n:Nat){ω:Type}(a:L ResultVar)(k kp:V S->bg S->O ω):vg S->bU S->bg S->O ω
 |.rU,fr,s=>Gy E call n fr.df Y s (NS E.T a fr k kp)|.ret,fr,s=>Gy E call n fr.df Y s (NS E.T a fr k kp)|.iJ v,fr,s=>Gy E call n fr.df (Z v) s (NS E.T a fr k kp)|.ext _,_,_=>Y
def adp:vg S->O (O Code)
 |.rU=>Z Y|.ret=>Z (Z .ret)|.ext i=>Z (Z (.exit i))|.iJ _=>Y
def ac9(o:Nat){ω:Type}(k:V S->bg S->O ω)(e:vg S)(_:bU S)(s:bg S):O ω:=match s.ob.get o,adp e with
 |some (.lp l),Z Y=>k (.kb W) {s with ob:=s.ob.set aM o (.lp {l with st:=.ready,vN:=Y})}
 |some (.lp l),Z (Z c)=>k (.kb J) {s with ob:=s.ob.set aM o (.lp {l with st:=.done,vN:=Z c}),wr:=o::s.wr}
 |_,_=>Y
noncomputable def ac8(E:eO S)(call:gn S)(n o:Nat)(fid:FuncId)(a:Code){ω:Type}(k:V S->bg S->O ω):vg S->bU S->bg S->O ω
 |.rU,fr,s=>match s.ob.get o with
  |some (.lp l)=>bif Ko l.st l.vN then zw E call n fid [] a 0 (ac9 o k) fr {s with ob:=s.ob.set aM o (.lp {l with st:=.busy})}else Y
  |_=>Y
 |_,_,_=>Y
noncomputable def Kn(E:eO S)(call:gn S)(n o:Nat)(args:L (V S))(s:bg S){ω:Type}(k:V S->bg S->O ω):O ω:=match s.ob.get o with
 |some (.lp l)=>bif Ko l.st l.vN&&(Nq (cE args) (cE l.params)&&(l.params.all (λk=>Nt k l.fr.n)&&(Nl l.fr.n bI&&(O1 l.assign&&(O1 l.body&&(Nl s.fl o&&Nl s.lo s.aD))))))then
   zw E call n l.fid [] l.assign 0 (ac8 E call n o l.fid l.body k) {n:=l.fr.n,tm:=Pg l.params args l.fr.tm,df:=[]} s
  else Y
 |_=>Y
noncomputable def YL(E:eO S)(n:Nat)(call:gn S):gn S:=λd args s{_}k b=>match d with
 |.yl o=>Kn E call n o args {s with lo:=s.aD} λt a=>k t {a with lo:=s.lo}
 |.yd o=>Kn E call n o args s k|.jn f=>match E.T.E.SV f with
  |none=>Y|some fn=>match fn.body with
   |none=>Y|some c=>
    bif Nl (cE args) fn.ntmps&&(Nt fn.ntmps bI&&Nl s.lo s.aD)then
     zw E call n f (Pm E.T fn.results.toList fn.resultTypes.toList) c 0 (S0 E call n fn.results.toList k b) {n:=fn.ntmps,tm:=mW args 0 .nil} s
    else Y
 |.fn f=>match E.T.E.SV f with
  |none=>Y|some fn=>match fn.body with
   |none=>Y|some c=>
    bif Nl (cE args) fn.ntmps&&Nt fn.ntmps bI then
     zw E call n f (Pm E.T fn.results.toList fn.resultTypes.toList) c 0 (S0 E call n fn.results.toList (λv a=>k v {a with lo:=s.lo}) (λv a=>b v {a with lo:=s.lo})) {n:=fn.ntmps,tm:=mW args 0 .nil} {s with lo:=s.aD}
    else Y
noncomputable def wS(E:eO S)(n:Nat):Nat->gn S
 |0=>λ_ _ _{_}_ _=>Y|d+1=>YL E n (wS E n d)
noncomputable def YN(E:eO S)(n d:Nat)(f:FuncId)(args:L (V S))(s:bg S){ω:Type}(k kp:V S->bg S->O ω):O ω:=match E.T.E.SV f with
  |none=>Y|some fn=>match fn.body with
   |none=>Y|some c=>
    bif Nl (cE args) fn.ntmps&&Nt fn.ntmps bI then
     zw E (wS E n d) n f (Pm E.T fn.results.toList fn.resultTypes.toList) c 0 (S0 E (wS E n d) n fn.results.toList k kp) {n:=fn.ntmps,tm:=mW args 0 .nil} s
    else Y
def vP(b:Nat)(s:bg S):(ps:L Pk)->gp S.A ps->L (V S)×bg S
 |[],_=>([],s)|.one c::ps,x=>match vT s c x.1 with
  |(v,s)=>match vP b s ps x.2 with
   |(l,s)=>(v::l,s)
 |.box k::ps,x=>match lJ s (Z (Ns b)) k x.1 with
  |(ob,s)=>match vP (Ns b) {s with ob:=s.ob.set aM b ob} ps x.2 with
   |(l,a)=>(UD k b::l,a)
 |.hid k::ps,x=>match lJ s (Z (Ns b)) k x.1 with
  |(ob,s)=>vP (Ns b) {s with ob:=s.ob.set aM b ob} ps x.2
def dX:L Pk->Nat
 |[]=>0|.one _::l=>dX l|.box _::l=>Ns (dX l)|.hid _::l=>Ns (dX l)
def Nf(b:Nat):L Ck->Nat->L (Nat×Nat×Nat)
 |[],_=>[]|.dat (.opt n)::l,i=>(b,i,n)::Nf b l (Ns i)|_::l,i=>Nf b l (Ns i)
def adi(b:Nat):Bk->L (Nat×Nat×Nat)
 |.cells a=>Nf b a 0|.link _ pre post=>Nf b pre 0++Nf b post (Ns (cE pre))|_=>[]
def I8:L Pk->Nat->L (Nat×Nat×Nat)
 |[],_=>[]|.one _::l,b=>I8 l b|.box k::l,b=>adi b k++I8 l (Ns b)|.hid k::l,b=>adi b k++I8 l (Ns b)
def aiI:L Nat->Bool
 |[]=>W|_::_=>J
def FA(v:V S)(Ji:Nat)(s:bg S)(q:Nat×Nat×Nat):bg S:=match s.ob.get q.1 with
 |some (.box a)=>match nth a q.2.1 with
  |some (.ptr o 0)=>match s.ob.get o with
   |some (.box b)=>match oe s (S.fs q.2.2) b with
    |some (h,os)=>
     let p:=λk=>Nq o k||Nl s.aD k
     bif aiI os&&(Nl Ji o&&(Nt q.1 Ji&&!(cI p v)))then
      {s with ob:=(s.ob.mapA (ff p)).set aM q.1 (.box ((a.map (fZ p)).set q.2.1 (.ty (.opt q.2.2) (Z (S.Eu q.2.2 h)))))}
     else s
    |none=>s
   |_=>s
  |_=>s
 |_=>s
def ab8(d:L Ck)(ps:L Pk)(v:V S)(s0:bg S):O (gH S.A d×iE S.A ps):=
 let e:=(I8 ps 0).foldl (FA v (dX ps)) s0
 match gq e d (Wj d v),uw e 0 ps with
 |some (r,f,g),Z (b,a,c)=>match dR e (f++a)with
  |some _=>bif sw (g++c)&&Cq (g++c) (f++a)then Z (r,b)else Y|none=>Y
 |_,_=>Y
def afQ(a:Bool)(b:L Ck)(ps:L Pk)(v:V S)(s':bg S):O (RT a (gH S.A b×iE S.A ps) (den S.A S.pt×iE S.A ps)):=
 match ab8 b ps v s' with
 |some r=>Z (RT.ok a r)|none=>Y
def afP(a:Bool)(b:L Ck)(ps:L Pk)(v:V S)(s':bg S):O (RT a (gH S.A b×iE S.A ps) (den S.A S.pt×iE S.A ps)):=
 match ab8 [.dat S.pt] ps v s' with
 |some r=>RT.iJ a (r.1.1,r.2)|none=>Y
noncomputable def AO(E:eO S)(n d:Nat)(f:FuncId)(ps:L Pk)(a:L Ck)(x:gp S.A ps):O (RT E.pn (gH S.A a×iE S.A ps) (den S.A S.pt×iE S.A ps)):=
 match vP 0 ⟨.nil,dX ps,0,dX ps,[],[]⟩ ps x with
 |(args,s)=>bif !(Nl s.aD bI)then Y else YN E n d f args s (afQ E.pn a ps) (afP E.pn a ps)
end
section
namespace Tr
variable {α β:Type}
def map(f:α->β):Tr α->Tr β
 |.nil=>.nil|.node v l r=>.node (v.map f) (map f l) (map f r)
def get_map(f:α->β):∀(t:Tr α)(k:Nat),(t.map f).get k=(t.get k).map f
 |.nil,k=>by rfl
 |.node v l r,0=>by rw[map,jd,jd]
 |.node v l r,k+1=>by rw[map,dA,dA,get_map f l,get_map f r];split<;>rfl
theorem mQ(f:α->β):∀(n:Nat)(t:Tr α)(k:Nat)(x:α),(Tr.set n t k x).map f=Tr.set n (t.map f) k (f x)
 |0,t,k,x=>rfl|n+1,.nil,0,x=>rfl|n+1,.nil,k+1,x=>by
  rw[map,o8,o8];split
  .rw[map,mQ f n];rfl
  .rw[map,mQ f n];rfl
 |n+1,.node v l r,0,x=>rfl|n+1,.node v l r,k+1,x=>by
  rw[map,nY,nY];split
  .rw[map,mQ f n]
  .rw[map,mQ f n]
end Tr
def uN(S:Sg):(l:L (TypeId×Ty))->ye S.A l->O (TypeId×D)
 |[],_=>Y|p::_,.inl x=>Z (p.1,enc S p.2 x)|_::l,.inr y=>uN S l y
def Ot:L (TypeId×Ty)->Bool
 |[]=>W|p::l=>(xb l p.1).isNone&&Ot l
structure fy(S:Sg):Prop where
 sC:∀n h,S.get n (S.Eu n h)=h
 Xk:∀n x,S.Eu n (S.get n x)=x
 cells:∀n x,S.cells n x=fe S (S.fs n) (S.get n x)
 leaf:∀n,∀t∈S.fs n,kU t=J
 Ez:∀n h,S.uG n (S.imk n h)=h
 rV:∀n x,S.rV n x=uN S (S.alts n) (S.uG n x)
 alts:∀n,Ot (S.alts n)=W
def N1:∀l:L (TypeId×Ty),uN S l (Xe l)=Y
 |[]=>rfl|_::l=>N1 l
def N2:∀(l:L (TypeId×Ty))(t:TypeId)(i:Nat)(x:den S.A (ny l i)),xb l t=Z i->uN S l (XI l i x)=Z (t,enc S (ny l i) x)
 |[],t,i,x,h=>by cases h
 |p::l,t,i,x,h=>by
  obtain⟨a,h⟩|⟨_,h⟩:=af h
  .simp at h;subst h;simp only[XI,uN,vM a];rfl
  .split at h
   .rename_i j b;simp only[gR]at h;subst h;exact N2 l t j x b
   .cases h
def ah2:Ty->Nat
 |.str=>16|.di _=>16|.sl _=>24|_=>8
def aaz:L Ty->Nat
 |[]=>0|t::l=>Na (ah2 t) (aaz l)
def zI(S:Sg):Ty->Nat
 |.int .i8|.int .u8=>1|.int .i16|.int .u16=>2|.int .i32|.int .u32=>4|.int _=>8|.bool=>1|.str=>16|.sl _=>24|.st n=>aaz (S.fs n)|.di _=>16|.opt _|.mp _ _=>8
def abB(o:O (TypeId×D)):(O2 o).lby=16:=by cases o<;>rfl
theorem wB(o:O (TypeId×D)):(O2 o).leaf=W:=by cases o<;>rfl
theorem nL(o:O (TypeId×D)):(O2 o).cells=[O2 o]:=by cases o<;>rfl
def ae6(o:O (TypeId×D)):(O2 o).sM=16:=by cases o<;>rfl
def iY(o:O D):(ptD o).lby=8∧(ptD o).leaf=W∧(ptD o).cells=[ptD o]∧(ptD o).sM=8:=by cases o<;>exact⟨rfl,rfl,rfl,rfl⟩
def mY:∀(ts:L Ty)(h:l7 S.A ts),(fe S ts h).length=ts.length
 |[],_=>rfl|t::ts,h=>by simp[fe,mY ts]
variable {t u:Ty}{v:V S}
def acd(x:den S.A t)(h:kU t=J):(enc S t x).lby=ah2 t:=by cases t<;>first|rfl|exact abB _|exact(iY _).1|cases h
def EW:∀(ts:L Ty)(h:l7 S.A ts),(∀t∈ts,kU t=J)->D.oY (fe S ts h)=aaz ts
 |[],_,_=>rfl|t::ts,h,a=>by simp[fe,D.oY,aaz,acd _ (a t (by simp)),EW ts h.2 (λu b=>a u (by simp[b]))]
def GC(x:den S.A t)(h:kU t=J):(enc S t x).leaf=W:=by cases t<;>first|rfl|exact wB _|exact(iY _).2.1|cases h
def iu:∀(ts:L Ty)(h:l7 S.A ts),(∀t∈ts,kU t=J)->∀d∈fe S ts h,d.leaf=W
 |[],_,_,d,a=>by simp[fe]at a
 |t::ts,h,b,d,a=>by
  simp[fe,ga]at a;obtain rfl|a:=a
  .exact GC _ (b t (by simp))
  .exact iu ts h.2 (λu c=>b u (by simp[c])) d a
def Ca(a:fy S)(x:den S.A t):(enc S t x).sM=zI S t:=by
 cases t with
 |st n=>simp[enc,D.sM,zI];rw[show S.cells n x=_ from a.cells n x,EW _ _ (a.leaf n)]|int k=>cases k<;>rfl
 |di n=>exact ae6 _|opt n=>exact(iY _).2.2.2|_=>rfl
theorem kW(a:fy S){t:Ty}(x:den S.A t):(enc S t x).cells.length=S.width t:=by cases t with|st n=>simp[enc,D.cells,Sg.width,bR];rw[show S.cells n x=_ from a.cells n x,mY]|di n=>rw[show enc S (.di n) x=O2 (S.rV n x)from rfl,nL];rfl|opt n=>exact cU List.length (iY _).2.2.1|_=>rfl
theorem NZ(a:fy S){t:Ty}(x:den S.A t):(enc S t x).flat=W:=by cases t with|st n=>simp[enc,D.flat,D.cells,lB];rw[show S.cells n x=_ from a.cells n x];exact iu _ _ (a.leaf n)|di n=>grind[enc,D.flat,nL,wB]|opt n=>simp[enc,D.flat,(iY _).2.2.1,(iY _).2.1]|_=>rfl
def eg(S:Sg):(t:Ty)->den S.A t->T
 |.st n,x=>.agg ((S.cells n x).map .sym)|.int k,x=>.sym (enc S (.int k) x)|.bool,x=>.sym (enc S .bool x)|.str,x=>.sym (enc S .str x)|.sl e,x=>.sym (enc S (.sl e) x)|.di n,x=>.sym (enc S (.di n) x)|.opt n,x=>.sym (enc S (.opt n) x)|.mp k v,x=>.sym (enc S (.mp k v) x)
def zl(x:den S.A t)(h:kU t=J):eg S t x=.sym (enc S t x):=by cases t<;>first|rfl|cases h
mutual
def low:V S->T
 |.ty t x=>eg S t x|.kb b=>.kb b|.kn k n=>.kn k n|.dat d=>.sym d|.ptr o off=>.ptr o off|.mc t x off=>.mc (enc S t x) off|.l9 o e i off=>.l9 o e i off|.sh o e=>.sh o e|.emp=>.emp|.kM n t l=>.kM n (l.map (enc S t))|.fn f a b=>.fn f (bu a) (bu b)|.di t v=>.di t (low v)|.agg g=>.agg (bu g)|.gT h=>.gT (bu h)|.gd c v=>.gd c (low v)|.mp o=>.mp o|.rJ o=>.rJ o|.ud o=>.ud o|.ub e=>.ub e|.sy o m r i=>.sy o m r i|.pU n j x=>.pU j (enc S (.st n) x)
def bu:L (V S)->L T
 |[]=>[]|v::l=>low v::bu l
end
def e9:∀l:L (V S),bu l=l.map low
 |[]=>rfl|v::l=>by simp[bu,pz,e9 l]
def mF:sU S->Df
 |.call f args=>.call (low f) (bu args)|.mark o=>.mark o|.marks o=>.marks o|.kK=>.kK|.bad=>.bad
def bH(fr:bU S):Fr:=⟨fr.n,fr.tm.map low,fr.df.map mF⟩
def tE(l:LpV S):Lp:=⟨l.st,l.vN,l.fid,bH l.fr,l.params,l.assign,l.body⟩
def dc:u0 S->Ob
 |.box d=>.box (bu d)|.arr t l era=>.arr (S.width t) (l.map (enc S t)) era|.lK t l era=>.lK (S.width t) (l.map (enc S t)) era|.map kt e l=>.map (l.map λp=>(eg S kt p.1,eg S e p.2))|.HU kt l=>.map (l.map λp=>(eg S kt p.1,low p.2))|.rI b pos=>.rI (cg b) pos|.lp l=>.lp (tE l)|.zZ=>.zZ|.lS n j l era m a hole=>.lS j (S.width (.st n)) (l.map (enc S (.st n))) era m a hole|.rws t c a=>.rws (S.width t) (c.map (·.map (enc S t))) a|.gone=>.gone|.FG=>.FG
def aC(s:bg S):St:=⟨s.ob.map dc,s.aD,s.fl,s.lo⟩
theorem aJ(s:bg S)(o:Nat):(aC s).ob.get o=(s.ob.get o).map dc:=Tr.get_map _ _ _
theorem bT(fr:bU S)(k:Nat):(bH fr).get k=(fr.get k).map low:=Tr.get_map _ _ _
def Ux(fr:bU S)(k:Nat)(v:V S):bH (fr.put k v)=(bH fr).put k (low v):=by simp[bH,bU.put,Fr.put,Tr.mQ]
def PT(fr:bU S)(k:O Nat)(v:V S):bH (fr.jm k v)=(bH fr).jm k (low v):=by cases k with|none=>rfl|some k=>exact Ux fr k v
theorem eF(s:bg S)(o:Nat)(ob:u0 S)(wr:L Nat):aC {s with ob:=s.ob.set aM o ob,wr:=wr}={aC s with ob:=(aC s).ob.set aM o (dc ob)}:=by simp[aC,Tr.mQ]
def g6(s:bg S)(ob:u0 S):aC (dj s ob)=(ew (aC s) (dc ob)).2:=by simp[aC,dj,ew,Tr.mQ]
def YM(b:ByteArray):cg (ofBytes b)=b:=by rfl
def QG{v:Value}{u:V S}(h:uR v=Z u):ofConst v=Z (low u):=by
 cases v with
 |bool b=>simp[uR,gR]at h;subst h;rfl|int k n=>simp[uR,gR]at h;subst h;rfl|string b=>simp[uR,gR]at h;subst h;simp only[ofConst,low,eg,enc,CZ,jK];rw[YM]|slice a n m=>
  unfold uR at h;split at h;all_goals first
   |(simp only[gR]at h;rename_i c;simp only[Value.slice.injEq]at c;obtain⟨rfl,rfl,rfl⟩:=c;subst h;rfl)
   |(rename_i c;cases c;done)
   |grind[CZ]
 |func f a b=>
  simp[uR]at h;simp[ofConst];split at h
  .simp at h;subst h;rename_i h1 h2;try rw[h1,h2]
   rfl
  .cases h
 |iface t v=>simp[uR,fV]at h;obtain⟨d,e,rfl⟩:=h;simp only[ofConst,e,jK];rfl
 |_=>simp only[uR,fV]at h;obtain⟨d,e,rfl⟩:=h;simp only[ofConst,e,jK];rfl
theorem cC{fr:bU S}{x:Operand}{u:V S}(h:cD fr x=Z u):kr (bH fr) x=Z (low u):=by
 cases x with
 |tmp k=>grind[cD,kr,bT]|const v=>exact QG h|global g=>cases h
 |func f=>simp[cD,gR]at h;subst h;rfl
def gZ{fr:bU S}:∀{l:L Operand}{a:L (V S)},kq fr l=Z a->yD (bH fr) l=Z (bu a)
 |[],a,h=>by simp only[kq,gR]at h;subst h;rfl
 |x::l,a,h=>by
  simp[kq]at h;split at h
  .rename_i h1 h2;simp at h;subst h;simp[yD,cC h1,gZ h2,bu]
  .cases h
def JF{x:den S.A t}{y:den S.A u}(h:wR t u x=Z y):t=u∧HEq x y:=by
 unfold wR at h
 grind
def fO{x:L (den S.A t)}{y:L (den S.A u)}(h:oJ t u x=Z y):t=u∧HEq x y:=by
 unfold oJ at h
 grind
theorem gE{k:IntKind}{v:V S}{n:Int}(h:g7 k v=Z n):∃p,yc k (low v)=Z (p,n)∧p:=by
 unfold g7 at h;split at h
 .rename_i j m;cases a:oP j k<;>rw[a]at h
  .cases h
  .simp at h;subst h;exact⟨True,by simp[low,yc,a],trivial⟩
 .rename_i j x;cases a:oP j k<;>rw[a]at h
  .cases h
  .simp at h;subst h;exact⟨_,rfl,a⟩
 .cases h
def mJ{b:Bool}(h:iD v=Z b):∃p,A4 (low v)=Z (p,b)∧p:=by
 unfold iD at h;split at h
 .simp at h;subst h;exact⟨True,rfl,trivial⟩
 .simp at h;subst h;exact⟨_,rfl,rfl⟩
 .cases h
def lN{b:L UInt8}(h:vV v=Z b):∃p,z9 (low v)=Z (p,cg b)∧p:=by
 unfold vV at h;split at h
 .simp at h;subst h;exact⟨_,rfl,rfl⟩
 .cases h
def wm:∀(ts:L Ty)(h:l7 S.A ts),(∀t∈ts,kU t=J)->bu (Ax (S:=S) ts h)=(fe S ts h).map .sym
 |[],_,_=>rfl|t::ts,h,a=>by simp only[Ax,bu,fe,pz,wm ts h.2 (λu b=>a u (by simp[b]))];rw[low,zl _ (a t (by simp))]
theorem eS:∀l:L (V S),(bu l).length=l.length
 |[]=>rfl|v::l=>by simp[bu,eS l]
def kB(l m:L (V S)):bu (l++m)=bu l++bu m:=by simp[e9,T4]
def mD(l:L (V S))(n:Nat):bu (l.take n)=(bu l).take n:=by simp[e9,List.map_take]
def mE(l:L (V S))(n:Nat):bu (l.drop n)=(bu l).drop n:=by simp[e9,List.map_drop]
def UA(h:Xw v=W):(low v).leaf:=by
 cases v with
 |ty t x=>simp[Xw,T3]at h;rw[low,zl _ h];exact GC x h|dat d=>exact h|agg=>cases h
 |gT=>cases h
 |gd=>cases h
 |_=>trivial
def zm:∀{l:L (V S)},BN l=W->leaves (bu l)
 |[],_=>trivial|v::l,h=>by simp[BN,fF]at h;exact⟨UA h.1,zm h.2⟩
def Fk(cs:L D):(List.range cs.length).map (λj=>T.sym ((D.agg cs).cell j))=cs.map .sym:=by
 apply M1
 grind[D.cell,D.cells]
theorem rA(f:fy S){i:TI}{v:V S}{l:L (V S)}(h:wP i v=Z l):∃p,kJ i (low v)=Z (p,bu l)∧p:=by
 unfold wP at h;split at h
 .rename_i g;obtain⟨a,h⟩|⟨_,h⟩:=af h
  .simp at h;have:(i.agg&&Nq (cE (bu g)) i.size)=W:=by grind[bR,eS]
   exact⟨True,by simp_all[low,kJ],trivial⟩
  .cases h
 .rename_i n x;obtain⟨a,h⟩|⟨_,h⟩:=af h
  .simp at h;subst h;rw[wm _ _ (f.leaf n),<-f.cells];have:(i.agg&&Nq (cE ((S.cells n x).map T.sym)) i.size)=W:=by rw[bR,M4,f.cells,mY,<-bR];exact a
   exact⟨True,by simp_all[low,eg,kJ],trivial⟩
  .cases h
 .rename_i d;obtain⟨_,h⟩|⟨b,h⟩:=af h
  .cases h
  .obtain ⟨a,h⟩|⟨_,h⟩:=af h
   .simp only[fF]at a;simp at h;subst h;exact⟨_,by simp only[low,kJ,b,a.1,iq,j9];rfl,a.2⟩
   .cases h
 .cases h
 .cases h
 .obtain ⟨_,h⟩|⟨b,h⟩:=af h
  .cases h
  .obtain ⟨a,h⟩|⟨_,h⟩:=af h
   .simp at h;subst h;cases v with
    |ty t x=>
     have j:kU t=J:=by cases t with|st n=>grind|_=>rfl
     have e:low (V.ty t x)=.sym (enc S t x):=by rw[low,zl _ j]
     refine⟨(enc S t x).leaf=W,?_,GC _ j⟩
     simp_all[bu,kJ]
    |agg g=>simp_all|dat d=>simp_all|gT k=>simp_all|gd c v=>simp_all|_=>exact⟨True,by simp only[low,bu,kJ,b,a,iq,j9],trivial⟩
   .cases h
def qd{ag:Bool}{l:L (V S)}(h:CU ag l=Z v):v8 ag (bu l)=Z (low v):=by
 obtain⟨a,h⟩|⟨a,h⟩:=af h
 .simp at h;subst h;simp[v8,a,iq,low]
 .split at h
  .simp_all[v8,bu]
  .cases h
end
section
def yQ(S:Sg)(i:TI):Ty->Prop
 |.int k=>i.kd=.leaf (.int k)∧i.agg=J∧i.size=1|.bool=>i.kd=.leaf .bool∧i.agg=J∧i.size=1|.str=>i.kd=.leaf .str∧i.agg=J∧i.size=1|.sl e=>(∃z,i.kd=.slice (S.width e) (kU e) (zI S e) z∧(bif kU e then D.agg z=enc S e (S.zero e)else z=[enc S e (S.zero e)]))∧i.agg=J∧i.size=1∧0<S.width e|.st n=>i.agg=W∧i.size=(S.fs n).length|.di _=>i.kd=.iface∧i.agg=J∧i.size=1|.opt _=>i.kd=.ptr∧i.agg=J∧i.size=1|.mp _ _=>True∧i.agg=J∧i.size=1
structure Ra(S:Sg)(E:gm):Prop where
 row:∀k i τ,E.E.ti k=Z i->E.ty k=Z τ->yQ S i τ
def xB(s:St):∀ds:L D,∃p,og s (ds.map .sym)=Z (p,ds,[])∧p
 |[]=>⟨True,rfl,trivial⟩|d::ds=>by
  let ⟨p,h,a⟩:=xB s ds
  exact⟨True∧p,by grind[og,Bw],trivial,a⟩
variable {t e:Ty}{n:Int}{s:bg S}{v:V S}{i:TI}{τ:Option Ty}{fr:bU S}{u:Option (V S)}
def TG(a:fy S)(s:St)(x:den S.A t):∃p,Bw s (eg S t x)=Z (p,enc S t x,[])∧p:=by
 cases t with
 |st n=>
  let ⟨p,h,b⟩:=xB s (S.cells n x)
  refine⟨p∧(S.cells n x).all D.leaf=W,by simp[eg,Bw,h,enc],b,?_⟩;rw[lB,a.cells];exact iu _ _ (a.leaf n)
 |_=>exact⟨True,rfl,trivial⟩
def Nx(k:IntKind):oP k k=W:=by cases k<;>rfl
def xA:∀t:Ty,sk t t=W
 |.int k=>Nx k|.bool=>rfl|.str=>rfl|.sl e=>xA e|.st n=>Nat.beq_refl n|.di n=>Nat.beq_refl n|.opt n=>Nat.beq_refl n|.mp k v=>ze.2 ⟨xA k,xA v⟩
theorem wQ{t:Ty}(x:den S.A t):wR (S:=S) t t x=Z x:=by unfold wR;rw[dif_pos (xA t)]
def Jv:∀{ts:L Ty}{h:l7 S.A ts}{j:Nat}{t:Ty}{y:den S.A t},nth ts j=Z t->fe S ts (AB ts h j t y)=(fe S ts h).set j (enc S t y)
 |[],_,_,_,_,h=>by rfl
 | τ::ts,h,0,t,y,e=>by
  grind[nth,AB,wQ,fe]
 | τ::ts,h,j+1,t,y,e=>by simp[nth]at e;simp[AB,fe,List.set_cons_succ,Jv e]
def Jw:∀{ts:L Ty}{h:l7 S.A ts}{j:Nat}{t:Ty},nth ts j=Z t->(fe S ts h)[j]?=Z (enc S t (eo ts h j t))
 |[],_,_,_,h=>by simp[nth]at h
 | τ::ts,h,0,t,e=>by
  grind[nth,eo,wQ,fe]
 | τ::ts,h,j+1,t,e=>by simp[nth]at e;simp[eo,fe,List.getElem?_cons_succ,Jw e]
def GN{n j:Nat}(h:DV S n j t=W):nth (S.fs n) j=Z (.sl t):=by
 grind[DV,jX]
theorem Ys(a:fy S){n j:Nat}{t:Ty}(b:DV S n j t=W)(x:S.A n)(y:L (den S.A t)):enc S (.st n) (TQ n j t x y)=AG j (enc S (.st n) x) (y.map (enc S t)):=by show D.agg (S.cells n _)=D.agg ((S.cells n x).set j _);rw[a.cells,a.cells,TQ,a.sC,Jv (GN b)];rfl
theorem Gn(a:fy S){n j:Nat}{t:Ty}(b:DV S n j t=W):∀(l:L (S.A n))(iU:L (L (den S.A t))),(lz n j t l iU).map (enc S (.st n))=mX j (l.map (enc S (.st n))) (iU.map (·.map (enc S t)))
 |[],_=>by rfl
 |_::_,[]=>by rfl
 |x::l,c::iU=>by
  grind[lz,mX,Ys]
def Af{m r:Nat}{iU:L (L (den S.A t))}(h:Mw s m r=Z ⟨t,iU⟩):Ib (aC s) m r=Z (iU.map (·.map (enc S t))):=by
 unfold Mw at h;split at h
 .obtain ⟨a,h⟩|⟨_,h⟩:=af h
  .cases h
   simp_all[Ib,aJ,dc]
  .cases h
 .cases h
mutual
def qw(d:fy S)(s:bg S):∀(t:Ty)(v:V S){x:den S.A t}{os:L Nat},bS s t v=Z (x,os)->∃p,Bw (aC s) (low v)=Z (p,enc S t x,os)∧p
 |t,.ty u y,x,os,h=>by
  simp[bS]at h;split at h
  .rename_i z f;obtain⟨rfl,c⟩:=JF f;cases c;obtain⟨rfl,rfl⟩:=h;exact TG d _ _
  .cases h
 |.bool,.kb b,x,os,h=>by obtain⟨rfl,rfl⟩:=h;exact⟨True,rfl,trivial⟩
 |.int k,.kn j n,x,os,h=>by
  obtain⟨g,h⟩|⟨_,h⟩:=af h
  .obtain ⟨rfl,rfl⟩:=h;rw[BO g];exact⟨True,rfl,trivial⟩
  .cases h
 |.sl e,.emp,x,os,h=>by obtain⟨rfl,rfl⟩:=h;exact⟨True,rfl,trivial⟩
 |.sl e,.kM n t l,x,os,h=>by
  simp[bS]at h;split at h
  .rename_i z f;obtain⟨rfl,c⟩:=fO f;cases c;obtain⟨rfl,rfl⟩:=h;exact⟨True,rfl,trivial⟩
  .cases h
 |.sl e,.sh o r,x,os,h=>by
  simp[bS]at h;split at h
  .rename_i t l era q;obtain⟨g,h⟩|⟨_,h⟩:=af h
   .split at h
    .rename_i z f;obtain⟨rfl,c⟩:=fO f;cases c;obtain⟨rfl,rfl⟩:=h;refine⟨True,?_,trivial⟩
     simp_all[low,Bw,aJ,dc,enc]
    .cases h
   .cases h
  .rename_i t l era q;obtain⟨g,h⟩|⟨_,h⟩:=af h
   .split at h
    .rename_i z f;obtain⟨rfl,c⟩:=fO f;cases c;obtain⟨rfl,rfl⟩:=h;refine⟨True,?_,trivial⟩
     simp_all[low,Bw,aJ,dc,enc]
    .cases h
   .cases h
  .rename_i n j l era m R q;split at h
   .rename_i t E F;obtain⟨g,h⟩|⟨_,h⟩:=af h
    .simp only[fF]at g;split at h
     .rename_i z f;obtain⟨rfl,c⟩:=fO f;cases c;obtain⟨rfl,rfl⟩:=h;refine⟨True,?_,trivial⟩;simp only[low,Bw,aJ,q,jK,dc,Af F,g.1,g.2.1,MQ,iq];rw[<-Gn d g.2.2];rfl
     .cases h
    .cases h
   .cases h
  .cases h
 |.sl e,.pU n j x0,x,os,h=>by
  simp[bS]at h;split at h
  .rename_i f;obtain⟨rfl,c⟩:=fO f;cases c;obtain⟨rfl,rfl⟩:=h;exact⟨True,rfl,trivial⟩
  .cases h
 |.st n,.agg I,x,os,h=>by
  simp[bS]at h;split at h
  .rename_i h1 w K;obtain⟨rfl,rfl⟩:=h
   let ⟨p,A,B⟩:=p7 d s (S.fs n) I K
   have C:S.cells n (S.Eu n h1)=fe S (S.fs n) h1:=by rw[d.cells,d.sC]
   refine⟨p∧(fe S (S.fs n) h1).all D.leaf=W,by simp[low,Bw,A,enc,C],B,?_⟩;rw[lB];exact iu _ _ (d.leaf n)
  .cases h
 |.di n,.di t v,x,os,h=>by
  simp[bS]at h;split at h
  .rename_i i P;split at h
   .rename_i y w Q;obtain⟨rfl,rfl⟩:=h
    let ⟨p,A,B⟩:=qw d s _ v Q
    refine⟨p,?_,B⟩;have e:enc S (.di n) (S.imk n (XI (S.alts n) i y))=.di t (enc S (ny (S.alts n) i) y):=by show O2 (S.rV n _)=_;rw[d.rV,d.Ez,N2 _ _ _ _ P];rfl
    simp[low,Bw,A,e]
   .cases h
  .cases h
 |.di n,.dat (.lit .nilIface),x,os,h=>by
  obtain⟨rfl,rfl⟩:=h;refine⟨True,?_,trivial⟩;have e:enc S (.di n) (S.imk n (Xe (S.alts n)))=.lit .nilIface:=by show O2 (S.rV n _)=_;rw[d.rV,d.Ez,N1];rfl
  simp[low,Bw,e]
 |.opt _,.dat (.lit v),_,_,h=>by
  cases v with
  |pointer a=>cases a<;>simp[bS]at h;obtain⟨rfl,rfl⟩:=h;exact⟨True,rfl,trivial⟩
  |_=>simp[bS]at h
 |.opt _,.dat (.sl _),_,_,h=>by simp[bS]at h
 |.opt _,.dat (.agg _),_,_,h=>by simp[bS]at h
 |.opt _,.dat (.di _ _),_,_,h=>by simp[bS]at h
 |.opt _,.dat (.gT _),_,_,h=>by simp[bS]at h
 |.opt _,.dat (.pt _),_,_,h=>by simp[bS]at h
 |.opt _,.dat (.mp _ _),_,_,h=>by simp[bS]at h
 |.mp _ _,.dat _,_,_,h=>by simp[bS]at h
 |.di _,.kb _,_,_,h=>by simp[bS]at h
 |.di _,.kn _ _,_,_,h=>by simp[bS]at h
 |.di _,.emp,_,_,h=>by simp[bS]at h
 |.di _,.kM _ _ _,_,_,h=>by simp[bS]at h
 |.di _,.sh _ _,_,_,h=>by simp[bS]at h
 |.di _,.pU _ _ _,_,_,h=>by simp[bS]at h
 |.bool,.pU _ _ _,_,_,h=>by simp[bS]at h
 |.str,.pU _ _ _,_,_,h=>by simp[bS]at h
 |.int _,.pU _ _ _,_,_,h=>by simp[bS]at h
 |.st _,.pU _ _ _,_,_,h=>by simp[bS]at h
 |t,.sy _ _ _ _,_,_,h=>by cases t<;>simp[bS]at h
 |.di _,.agg _,_,_,h=>by simp[bS]at h
 |.int _,.di _ _,_,_,h=>by simp[bS]at h
 |.bool,.di _ _,_,_,h=>by simp[bS]at h
 |.str,.di _ _,_,_,h=>by simp[bS]at h
 |.sl _,.di _ _,_,_,h=>by simp[bS]at h
 |.st _,.di _ _,_,_,h=>by simp[bS]at h
 |.int _,.dat _,_,_,h=>by simp[bS]at h
 |.bool,.dat _,_,_,h=>by simp[bS]at h
 |.str,.dat _,_,_,h=>by simp[bS]at h
 |.sl _,.dat _,_,_,h=>by simp[bS]at h
 |.st _,.dat _,_,_,h=>by simp[bS]at h
 |.di _,.dat (.sl _),_,_,h=>by simp[bS]at h
 |.di _,.dat (.agg _),_,_,h=>by simp[bS]at h
 |.di _,.dat (.di _ _),_,_,h=>by simp[bS]at h
 |.di _,.dat (.gT _),_,_,h=>by simp[bS]at h
 |.di _,.dat (.lit (.bool _)),_,_,h=>by simp[bS]at h
 |.di _,.dat (.lit (.int _ _)),_,_,h=>by simp[bS]at h
 |.di _,.dat (.lit (.float _ _)),_,_,h=>by simp[bS]at h
 |.di _,.dat (.lit (.complex _ _ _)),_,_,h=>by simp[bS]at h
 |.di _,.dat (.lit (.string _)),_,_,h=>by simp[bS]at h
 |.di _,.dat (.lit (.pointer _)),_,_,h=>by simp[bS]at h
 |.di _,.dat (.lit (.slice _ _ _)),_,_,h=>by simp[bS]at h
 |.di _,.dat (.lit (.map _)),_,_,h=>by simp[bS]at h
 |.di _,.dat (.lit (.chan _)),_,_,h=>by simp[bS]at h
 |.di _,.dat (.lit (.iface _ _)),_,_,h=>by simp[bS]at h
 |.di _,.dat (.lit (.func _ _ _)),_,_,h=>by simp[bS]at h
 |.di _,.dat (.lit .nilFunc),_,_,h=>by simp[bS]at h
 |.di _,.dat (.lit (.agg _)),_,_,h=>by simp[bS]at h
 |.di _,.dat (.lit (.tuple _)),_,_,h=>by simp[bS]at h
 |t,.mp _,_,_,h=>by cases t<;>simp[bS]at h
 |t,.rJ _,_,_,h=>by cases t<;>simp[bS]at h
 |t,.ud _,_,_,h=>by cases t<;>simp[bS]at h
 |t,.ub _,_,_,h=>by cases t<;>simp[bS]at h
 |.int _,.kb _,_,_,h=>by simp[bS]at h
 |.str,.kb _,_,_,h=>by simp[bS]at h
 |.sl _,.kb _,_,_,h=>by simp[bS]at h
 |.st _,.kb _,_,_,h=>by simp[bS]at h
 |.bool,.kn _ _,_,_,h=>by simp[bS]at h
 |.str,.kn _ _,_,_,h=>by simp[bS]at h
 |.sl _,.kn _ _,_,_,h=>by simp[bS]at h
 |.st _,.kn _ _,_,_,h=>by simp[bS]at h
 |.bool,.emp,_,_,h=>by simp[bS]at h
 |.str,.emp,_,_,h=>by simp[bS]at h
 |.int _,.emp,_,_,h=>by simp[bS]at h
 |.st _,.emp,_,_,h=>by simp[bS]at h
 |.bool,.kM _ _ _,_,_,h=>by simp[bS]at h
 |.str,.kM _ _ _,_,_,h=>by simp[bS]at h
 |.int _,.kM _ _ _,_,_,h=>by simp[bS]at h
 |.st _,.kM _ _ _,_,_,h=>by simp[bS]at h
 |.bool,.sh _ _,_,_,h=>by simp[bS]at h
 |.str,.sh _ _,_,_,h=>by simp[bS]at h
 |.int _,.sh _ _,_,_,h=>by simp[bS]at h
 |.st _,.sh _ _,_,_,h=>by simp[bS]at h
 |.bool,.agg _,_,_,h=>by simp[bS]at h
 |.str,.agg _,_,_,h=>by simp[bS]at h
 |.int _,.agg _,_,_,h=>by simp[bS]at h
 |.sl _,.agg _,_,_,h=>by simp[bS]at h
 |t,.ptr _ _,_,_,h=>by cases t<;>simp[bS]at h
 |t,.mc _ _ _,_,_,h=>by cases t<;>simp[bS]at h
 |t,.l9 _ _ _ _,_,_,h=>by cases t<;>simp[bS]at h
 |t,.fn _ _ _,_,_,h=>by cases t<;>simp[bS]at h
 |t,.gT _,_,_,h=>by cases t<;>simp[bS]at h
 |t,.gd _ _,_,_,h=>by cases t<;>simp[bS]at h
def p7(b:fy S)(s:bg S):∀(ts:L Ty)(l:L (V S)){h:l7 S.A ts}{os:L Nat},oe s ts l=Z (h,os)->∃p,og (aC s) (bu l)=Z (p,fe S ts h,os)∧p
 |[],[],x,os,h=>by obtain⟨_,rfl⟩:=h;exact⟨True,rfl,trivial⟩
 |t::ts,v::l,x,os,h=>by
  simp[oe]at h;split at h
  .rename_i c d;obtain⟨rfl,rfl⟩:=h
   let ⟨p,e,f⟩:=qw b s t v c
   let ⟨q,a,g⟩:=p7 b s ts l d
   exact⟨p∧q,by simp[bu,og,e,a,fe],f,g⟩
  .cases h
 |[],_::_,_,_,h=>by simp[oe]at h
 |_::_,[],_,_,h=>by simp[oe]at h
end
def dw(c:fy S):∀(os:L Nat){s s':bg S},dR s os=Z s'->freeze (aC s) os=Z (aC s')
 |[],s,s',h=>by simp only[dR,gR]at h;subst h;rfl
 |o::os,s,s',h=>by
  simp only[dR]at h;obtain⟨e,h⟩|⟨_,h⟩:=af h
  .have d:Nl (aC s).fl o=W:=e;simp only[freeze,d,iq];split at h
   .rename_i t l era b;have:=dw c os h
    grind[eF,aJ,dc]
   .rename_i t l era b;simp only[aJ,b,jK,dc];exact dw c os h
   .rename_i m r b;split at h
    .rename_i t f g;obtain⟨a,h⟩|⟨_,h⟩:=af h
     .simp only[fF]at a;have:=dw c os h;have i:Nl (aC s).fl m=W:=a.2.1;simp only[aJ,b,jK,dc,Af g,i,a.1,a.2.2.1,MQ,iq]
      grind[aC,Tr.mQ,dc,Gn]
     .cases h
    .cases h
   .rename_i b;simp only[aJ,b,jK,dc];exact dw c os h
   .rename_i b;simp only[aJ,b,jK,dc];exact dw c os h
   .cases h
  .cases h
def Ab{l:L (den S.A e)}(h:Kg s e v=Z l):∃p,BA (aC s) (low v)=Z (p,l.map (enc S e))∧p:=by
 unfold Kg at h;split at h
 .simp only[gR]at h;subst h;exact⟨True,rfl,trivial⟩
 .obtain ⟨rfl,a⟩:=fO h;cases a;exact⟨True,rfl,trivial⟩
 .obtain ⟨rfl,a⟩:=fO h;cases a;exact⟨True,rfl,trivial⟩
 .obtain ⟨rfl,a⟩:=fO h;cases a;exact⟨_,rfl,rfl⟩
 .split at h
  .rename_i t c era d;obtain⟨b,h⟩|⟨_,h⟩:=af h
   .obtain ⟨rfl,a⟩:=fO h;cases a;exact⟨True,by simp_all[low,BA,aJ,dc],trivial⟩
   .cases h
  .obtain ⟨b,h⟩|⟨_,h⟩:=af h
   .obtain ⟨rfl,a⟩:=fO h;cases a;exact⟨True,by simp_all[low,BA,aJ,dc],trivial⟩
   .cases h
  .cases h
 .cases h
def On{o e:Nat}{l:L (den S.A t)}(h:Lr s o e=Z ⟨t,l⟩):Iz (aC s) o e=Z (S.width t,l.map (enc S t)):=by
 unfold Lr at h;unfold Iz;rw[aJ];split at h
 .rename_i b c era d;obtain⟨a,h⟩|⟨_,h⟩:=af h
  .cases h
   simp_all[dc]
  .cases h
 .obtain ⟨a,h⟩|⟨_,h⟩:=af h
  .cases h
   simp_all[dc]
  .cases h
 .cases h
def QB{α:Type}(f:α->D)(l:L α)(k:Nat)(z:α)(h:k<l.length):jq (l.map f) k=f (bn l k z):=by simp[jq,bn,h]
def wA{α:Type}{l:L α}(h:aI n l=W):0<=n∧n<l.length:=by simpa[aI]using h
def tI{α:Type}{k:Nat}{l:L α}(h:dV k l=W):k<l.length:=by simpa[dV]using h
def Ay(a:fy S)(x:den S.A t):bu (wo (S:=S) t x)=(enc S t x).cells.map .sym:=by cases t with|st n=>simp[wo,enc,D.cells];rw[wm _ _ (a.leaf n),a.cells]|di n=>show[T.sym (O2 (S.rV n x))]=(O2 (S.rV n x)).cells.map .sym;rw[nL];rfl|opt n=>exact(cU (List.map T.sym) (iY _).2.2.1).symm|_=>rfl
def BH(g:fy S)(hi:∀u,τ=Z u->yQ S i u){x:den S.A t}{off:Nat}(h:Su i τ t x off=Z v) :
  nt i (enc S t x) off=Z (low v)∧(enc S t x).has (Na off i.size):=by
 have w:=kW g x;obtain⟨f,o⟩|⟨_,h⟩:=af h
 .simp only[fF]at f;clear h
  let ⟨h1,h2⟩:=f
  have p:=beq_iff'.1 h1;subst p;have h:=ke o;subst h;unfold aau at h2;split at h2
  .rename_i u;have:=jX h2;subst this;have c:=hi u rfl;cases u with
   |st n=>
    let ⟨b,a⟩:=c
    have q:(S.cells n x).length=(S.fs n).length:=by rw[g.cells,mY]
    refine⟨?_,?_⟩
    .unfold nt;rw[b,iq,a,<-q];simp[enc,low,eg,Fk]
    simp_all[D.has,enc,D.cells]
   |int k=>let ⟨_,b,a⟩:=c;exact⟨by simp only[nt,b,a];rfl,by simp only[D.has,a];exact eR _⟩
   |bool=>let ⟨_,b,a⟩:=c;exact⟨by simp only[nt,b,a];rfl,by simp only[D.has,a];exact eR _⟩
   |str=>let ⟨_,b,a⟩:=c;exact⟨by simp only[nt,b,a];rfl,by simp only[D.has,a];exact eR _⟩
   |sl e=>let ⟨_,b,a,_⟩:=c;exact⟨by simp only[nt,b,a];rfl,by simp only[D.has,a];exact eR _⟩
   |di n=>
    let ⟨_,b,a⟩:=c
    have e:(enc S (.di n) x).cells=[enc S (.di n) x]:=nL _;exact⟨by simp only[nt,b,a,D.cell,e];rfl,by simp_all[D.has]⟩
   |opt n=>
    let ⟨_,b,a⟩:=c
    have e:(enc S (.opt n) x).cells=[enc S (.opt n) x]:=(iY _).2.2.1;exact⟨by simp only[nt,b,a,D.cell,e];rfl,by simp_all[D.has]⟩
   |mp k v=>let ⟨_,b,a⟩:=c;exact⟨by simp only[nt,b,a];rfl,by simp only[D.has,a];exact eR _⟩
  .cases h2
 .obtain ⟨f,h⟩|⟨_,h⟩:=af h
  .have r:off+i.size<=S.width t:=gU f;have d:=qd h;rw[mD,mE,Ay g]at d;have l:((List.map T.sym (enc S t x).cells).drop off).take i.size=(List.range i.size).map λj=>T.sym ((enc S t x).cell (off+j)):=by
    apply M1;intro j;rw[lC];by_cases y:j<i.size
    .grind[D.cell]
    grind
   refine⟨?_,by simp only[D.has];grind⟩;unfold v8 at d;unfold nt;cases m:i.agg with
   |true=>
    simp_all
   |false=>
    rw[m,j9]at d;split at d
    .rename_i s;have h1:i.size=1:=by
      have:=cU List.length s
      grind
     simp_all
    .cases d
  .cases h
def Jh(e:fy S)(hi:∀u,τ=Z u->yQ S i u){s':bg S}{a:V S}{c:Bool}(h:yF i τ s a=Z (c,v,s'))(f:c=W) :
  s'=s∧∃p,loadT i (aC s) (low a)=Z (p,low v,aC s')∧p:=by
 unfold yF at h;split at h
 .rename_i o off;split at h
  .rename_i g w;obtain⟨y,h⟩|⟨_,h⟩:=af h
   .simp only[fV,fE]at h;obtain⟨t,j,_,rfl,rfl⟩:=h;refine⟨rfl,True,?_,trivial⟩;have m:=qd j;rw[mD,mE]at m;have n:Nq (cE (((bu g).drop off).take i.size)) i.size=W:=by
     grind[bR,eS]
    simp_all[low,loadT,aJ,dc]
   .cases h
  .cases h
 .rename_i t x off;simp only[fV,fE]at h;obtain⟨u,b,_,rfl,rfl⟩:=h
  let ⟨h1,h2⟩:=BH e hi b
  exact⟨rfl,_,by grind[low,loadT],h2⟩
 .rename_i k off;split at h
  .rename_i t l q;simp at h;obtain⟨u,b,rfl,rfl,rfl⟩:=h
   let ⟨h1,h2⟩:=BH e hi b
   have r:=tI f;have d:=QB (enc S t) l k (S.zero t) r;refine⟨rfl,lW (k:Int) (eP (l.map (enc S t)))∧(enc S t (bn l k (S.zero t))).has (Na off i.size),by simp[low,loadT,On q,d,h1,jK],?_,h2⟩
   grind[lW,eP]
  .cases h
 .cases h
def Fz{x:O Operand}(h:Kx fr x=Z u):Nd (bH fr) x=Z (u.map low):=by
 cases x with
 |none=>simp[Kx,gR]at h;subst h;rfl|some x=>
  simp[Kx,fV]at h;obtain⟨v,a,rfl⟩:=h
  grind[Nd,cC]
def rB{d:Int}(h:Cp d u=Z n):∃p,wW d (u.map low)=Z (p,n)∧p:=by cases u with|none=>simp[Cp,gR]at h;subst h;exact⟨True,rfl,trivial⟩|some v=>exact gE h
def Fy(v:V S):tA (low v)=Nc v:=by
 cases v with
 |ty t x=>cases t<;>rfl
 |_=>rfl
def uu{fr:bU S}:∀{l:L (Nat×Operand)}{a:L (Nat×V S)},ja fr l=Z a->su (bH fr) l=Z (a.map λp=>(p.1,low p.2))
 |[],a,h=>by simp only[ja,gR]at h;subst h;rfl
 |(k,x)::l,a,h=>by
  simp[ja]at h;split at h
  .rename_i h1 h2;simp at h;subst h;simp[su,cC h1,uu h2,pz]
  .cases h
def BX(e:fy S){place:Nat->O (Nat×TI)}:∀{ps:L (Nat×V S)}{cells r:L (V S)},Ju place cells ps=Z r->∃p,Gs place (bu cells) (ps.map λp=>(p.1,low p.2))=Z (p,bu r)∧p
 |[],cells,r,h=>by simp[Ju,gR]at h;subst h;exact⟨True,rfl,trivial⟩
 |(k,v)::ps,cells,r,h=>by
  simp only[Ju]at h;split at h
  .cases h
  .rename_i g;split at h
   .cases h
   .rename_i l i;obtain⟨c,h⟩|⟨_,h⟩:=af h
    .simp only[fF]at c
     let ⟨p,j,d⟩:=rA e i
     let ⟨q,f,m⟩:=BX e h
     simp only[kB,mD,mE]at f;have b:cE (bu l)=cE l:=by rw[bR,eS,<-bR]
     have a:cE (bu cells)=cE cells:=by rw[bR,eS,<-bR]
     refine⟨p∧leaves (bu l)∧q,?_,d,zm c.2,m⟩;simp only[pz,Gs,g,j,b,a,c.1,iq,f,jK]
    .cases h
def GG(a:fy S){s:bg S}{e:Ty}{i:TI}(hi:i.agg=kU e∧(kU e=W->i.size=S.width e)):∀{ps:L (Nat×V S)}{es r:L (den S.A e)}{os:L Nat},oQ s e es ps=Z (r,os)->
  ∃p,sH (aC s) i (es.map (enc S e)) (ps.map λp=>(p.1,low p.2))=Z (p,r.map (enc S e),os)∧p
 |[],es,r,os,h=>by obtain⟨rfl,rfl⟩:=h;exact⟨True,rfl,trivial⟩
 |(k,v)::ps,es,r,os,h=>by
  simp[oQ]at h;split at h
  .cases h
  .rename_i x f g;obtain⟨t,h⟩|⟨_,h⟩:=af h
   .split at h
    .rename_i j;obtain⟨rfl,rfl⟩:=h
     let ⟨p,l,m⟩:=qw a s e v g
     let ⟨q,d,o⟩:=GG a hi j
     rw[Fo]at d;have b:Nt k (cE (es.map (enc S e)))=W:=by grind[bR]
     refine⟨p∧(bif i.agg then(enc S e x).isAgg i.size else(enc S e x).leaf)=W∧q,by simp[pz,sH,l,b,iq,d,jK],m,?_,o⟩;rw[hi.1];cases e with|st n=>simp only[kU,iq,enc,D.isAgg];have c:=hi.2 rfl;rw[c];simp only[Sg.width,bR,a.cells,mY,fF];refine⟨beq_iff'.2 rfl,?_⟩;rw[lB];exact iu _ _ (a.leaf n)|di n=>exact wB _|opt n=>exact(iY _).2.1|_=>rfl
    .cases h
   .cases h
end
section
def vU(s:St):∀(l m:L T){p q:Prop}{ds es:L D}{os ps:L Nat},og s l=Z (p,ds,os)->og s m=Z (q,es,ps)->∃r,og s (l++m)=Z (r,ds++es,os++ps)∧(p->q->r)
 |[],m,p,q,ds,es,os,ps,h,b=>by
  simp only[og,gR,fE]at h
  grind
 |t::l,m,p,q,ds,es,os,ps,h,b=>by
  simp[og]at h;split at h
  .rename_i e d f k g i h1 h2;obtain⟨rfl,rfl,rfl⟩:=h
   let ⟨r,n,a⟩:=vU s l m h2 b
   exact⟨e∧r,by grind[og],λc j=>⟨c.1,a c.2 j⟩⟩
  .cases h
def Lb(a:fy S):∀(t:Ty)(h:l7 S.A (S.mV t)),(enc S t (we t h)).cells=fe S (S.mV t) h
 |.st n,h=>(a.cells n (S.Eu n h)).trans (cU _ (a.sC n h))|.int _,_=>rfl|.bool,_=>rfl|.str,_=>rfl|.sl _,_=>rfl|.di _,h=>by rw[show(enc S (.di _) (we _ h)).cells=[enc S (.di _) (we _ h)]from nL _];rfl
 |.opt _,_=>(iY _).2.2.1|.mp _ _,_=>rfl
variable {i:TI}{s s':bg S}{a x v:V S}{c:Bool}{lo hi:Int}
def O9(u:fy S)(h:EX i s a x=Z (c,v,s'))(hc:c=W) :
  ∃p,storeT i (aC s) (low a) (low x)=Z (p,low v,aC s')∧p:=by
 unfold EX at h;split at h
 .cases h
 .rename_i l hl
  let ⟨p,Q,hp⟩:=rA u hl
  have R:cE (bu l)=cE l:=by rw[bR,eS,<-bR]
  split at h
  .rename_i o off;split at h
   .rename_i cs ho;obtain⟨E,F⟩|⟨_,F⟩:=af h
    .clear h;simp only[fF]at E;obtain⟨_,rfl,rfl⟩:=F;have I:cE (bu cs)=cE cs:=by rw[bR,eS,<-bR]
     have hb':(Nl (aC s).fl o&&Nl (Na off (cE l)) (cE (bu cs)))=W:=by rw[I,fF];exact⟨E.1,E.2.1⟩
     refine⟨p∧leaves (bu l),?_,hp,zm E.2.2⟩;simp only[storeT,Q,low,aJ,ho,jK,dc,hb',iq,eF,kB,mD,mE,R];rfl
    .cases F
   .cases h
  .rename_i o e k off;split at h
   .rename_i t _ _ _;split at h
    .rename_i h0 os hos;split at h
     .rename_i s1 zY;split at h
      .rename_i t2 m era ho;split at h
       .rename_i h2 os2 hh2;obtain⟨E,F⟩|⟨_,F⟩:=af h
        .clear h;simp only[fF]at E
         let ⟨DP,pQ,Qr,Qq,hb5⟩:=E
         obtain⟨rfl,rfl,rfl⟩:=F
         let ⟨q,hd,hq⟩:=p7 u s _ l hos
         have hf:=dw u os zY;have hk:=tI hc;have K:=QB (enc S t2) m k (S.zero t2) hk
         let ⟨q2,z,_⟩:=p7 u s _ _ hh2
         have r:off+cE l<=S.width t2:=gU Qr;have h1l:1<=cE l:=gU Qq;generalize hds:fe S (List.take (cE l) (List.drop off (S.mV t))) h0=ds at hd;have f:ds.length=cE l:=by
          have:∀(s:St)(l:L T){p:Prop}{ds:L D}{os:L Nat},og s l=Z (p,ds,os)->ds.length=l.length:=by
           intro s l
           induction l with
           |nil=>intro p ds os h;obtain⟨_,rfl,_⟩:=h;rfl
           |cons t l ih=>
            intro p ds os h;simp[og]at h;split at h
            .rename_i h2;obtain⟨_,rfl,_⟩:=h;simp[ih h2]
            .cases h
          rw[this _ _ hd,eS,bR]
         have B:fe S (S.mV t2) h2=(enc S t2 (bn m k (S.zero t2))).cells.take off++ds++(enc S t2 (bn m k (S.zero t2))).cells.drop (Na off (cE l)):=by
          rw[kB,kB,mD,mE,Ay u,<-List.map_take,<-List.map_drop]at z
          let ⟨r1,e1,_⟩:=xB (aC s) ((enc S t2 (bn m k (S.zero t2))).cells.take off)
          let ⟨r2,e2,_⟩:=xB (aC s) ((enc S t2 (bn m k (S.zero t2))).cells.drop (Na off (cE l)))
          let ⟨r3,e3,_⟩:=vU _ _ _ e1 hd
          let ⟨r4,e4,_⟩:=vU _ _ _ e3 e2
          rw[e4]at z;simp only[gR,fE]at z;exact z.2.1.symm
         have C:D.O6 (enc S t2 (bn m k (S.zero t2))) off ds=enc S t2 (we t2 h2):=by
          have b:=Lb u t2 h2;rw[B]at b;cases t2 with
          |st n=>simp only[enc,D.cells]at b;simp only[enc,D.O6,f];rw[b];rfl|di n=>
           simp[Sg.width]at r;have g:off=0:=by omega
           have j:cE l=1:=by omega
           rw[j]at f;obtain⟨d1,rfl⟩:=Wu.1 f;subst g;have w:∀y:S.A n,(enc S (.di n) y).cells=[enc S (.di n) y]:=λy=>nL _;rw[w,w]at b;simp[List.take_zero,MI,j,List.drop_succ_cons,List.drop_nil,kj,MW,and_true]at b;have P:∀y:S.A n,D.O6 (enc S (.di n) y) 0 [d1]=d1:=λy=>by show D.O6 (O2 (S.rV n y)) 0 [d1]=d1;cases S.rV n y<;>rfl
           rw[P];exact b.symm
          |opt n=>
           simp only[Sg.width]at r;have g:off=0:=by omega
           have j:cE l=1:=by omega
           rw[j]at f;obtain⟨d1,rfl⟩:=Wu.1 f;subst g;have w:∀y,(enc S (.opt n) y).cells=[enc S (.opt n) y]:=λy=>(iY _).2.2.1;rw[w,w]at b;simp[List.take_zero,MI,j,List.drop_succ_cons,List.drop_nil,kj,MW,and_true]at b;have P:∀y,D.O6 (enc S (.opt n) y) 0 [d1]=d1:=λy=>by cases y<;>rfl
           rw[P];exact b.symm
          |_=>
           simp only[Sg.width]at r;have g:off=0:=by omega
           have j:cE l=1:=by omega
           rw[j]at f;obtain⟨d1,rfl⟩:=Wu.1 f;subst g;simp only[enc,D.cells,List.take_zero,MI,j,Nat.add_eq,ya,List.drop_succ_cons,List.drop_nil,kj,MW,and_true]at b;simp only[enc,D.O6,List.getD,lQ,M3,Nat.lt_add_one,getElem?_pos,List.getElem_cons_zero,Sf,ya];exact b.symm
         have htk:(jq (m.map (enc S t2)) k).RO (S.width t2) off (cE ds):=by
          rw[K,bR,f];cases t2 with
          |st n=>
           left
           simp only[enc,D.isAgg,Sg.width,bR,u.cells,mY,fF];refine⟨beq_iff'.2 rfl,?_⟩;rw[lB];exact iu _ _ (u.leaf n)
          |di n=>simp[Sg.width]at r;exact .inr ⟨wB _,rfl,by omega,by omega⟩
          |opt n=>simp[Sg.width]at r;exact .inr ⟨(iY _).2.1,rfl,by omega,by omega⟩
          |_=>simp only[Sg.width]at r;exact .inr ⟨rfl,rfl,by omega,by omega⟩
         have aqi:Nl (Na off (cE ds)) (S.width t2)=W:=by rw[bR,f];exact Qr
         have A:ds.all D.leaf=W:=by
          rw[lB];intro d hd';have:d∈fe S (S.mV t2) h2:=by rw[B];simp[hd']
          cases t2 with|st n=>exact iu _ _ (u.leaf n) d this|di n=>simp[Sg.mV,fe,rL]at this;rw[this];exact wB _|opt n=>simp[Sg.mV,fe,rL]at this;rw[this];exact(iY _).2.1|_=>simp only[Sg.mV,fe,rL]at this;rw[this];rfl
         have hby:((jq (m.map (enc S t2)) k).O6 off ds).sM=(jq (m.map (enc S t2)) k).sM:=by rw[K,C,Ca u,Ca u]
         have aqk:(Nl (aC s1).fl o&&Nq e era)=W:=by rw[fF];exact⟨DP,pQ⟩
         refine⟨p∧q∧ds.all D.leaf=W∧lW (k:Int) (eP (m.map (enc S t2)))∧(jq (m.map (enc S t2)) k).RO (S.width t2) off (cE ds)∧Nl (Na off (cE ds)) (S.width t2)=W∧
          ((jq (m.map (enc S t2)) k).O6 off ds).sM=(jq (m.map (enc S t2)) k).sM,?_,hp,hq,A,?_,htk,aqi,hby⟩
         .simp only[storeT,Q,low,hd,hf,aJ,ho,jK,dc,aqk,iq,eF,K,C,yV,lE,Fo];rfl
         .simp only[lW,eP,M4];omega
        .cases F
       .cases h
      .cases h
     .cases h
    .cases h
   .cases h
  .cases h
def AU{len:Int}(h:eK lo hi len=W):yW lo hi len:=by simpa[eK,yW]using h
def pM{α:Type}(f:α->D)(l:L α):eP (l.map f)=aq l:=by simp[eP,aq]
def RS{α:Type}(f:α->D)(l:L α)(lo hi:Int):o6 (l.map f) lo hi=(cG l lo hi).map f:=by
 grind[o6,cG,List.map_drop,List.map_take]
def s9(a:fy S){e:Ty}(l:L (den S.A e)):jI (l.map (enc S e)) (S.width e):=by intro d b;obtain⟨x,_,rfl⟩:=zc.1 b;exact kW a x
def E2(b:L UInt8):vk (cg b)=aq b:=by rfl
def Pd(b:L UInt8)(h:yW lo hi (aq b)):LL (cg b) lo hi=cg (cG b lo hi):=by
 let ⟨h1,h2,h3⟩:=h
 unfold LL cg cG;apply ByteArray.ext
 grind[ByteArray.data_extract,List.drop_take]
def Pe(hS:fy S){τ:O Ty}(hi:∀u,τ=Z u->yQ S i u){l h m:O (V S)}(g:vW i τ s x l h m=Z (c,v,s'))(C:c=W) :
  ∃p,qz i (aC s) (low x) (l.map low) (h.map low) (m.map low)=Z (p,low v,aC s')∧p:=by
 unfold vW at g;split at g
 .rename_i lo E
  let ⟨p,f,P⟩:=rB (d:=0) E
  have f:wW zW (l.map low)=Z (p,lo):=f
  let ⟨w,_,_⟩:=hi _ rfl
  split at g
  .rename_i b _ hb
   let ⟨q,A,Q⟩:=lN hb
   split at g
   .rename_i j B
    let ⟨r,o,I⟩:=rB B
    obtain⟨rfl,rfl,rfl⟩:=g;have a:=AU C;refine⟨p∧q∧r∧yW lo j (vk (cg b)),?_,P,Q,I,by exact a⟩;unfold qz;rw[w,f];simp only[A,Option.map_none,E2,o,Pd b a];rfl
   .cases g
  .cases g
 .rename_i e lo E
  let ⟨p,f,P⟩:=rB (d:=0) E
  have f:wW zW (l.map low)=Z (p,lo):=f
  let ⟨⟨z,w,_⟩,_⟩:=hi _ rfl
  split at g
  .rename_i K s1 _ O3 hfz
   let ⟨q,A,Q⟩:=Ab O3
   have hf:=dw hS _ hfz;rw[<-Fy]at hf;split at g
   .rename_i _ j B
    let ⟨r,o,I⟩:=rB B
    obtain⟨rfl,rfl,rfl⟩:=g;have a:=AU C;refine⟨p∧q∧r∧jI (K.map (enc S e)) (S.width e)∧yW lo j (eP (K.map (enc S e))),?_,P,Q,I,s9 hS K,by rw[pM];exact a⟩;unfold qz;rw[w,f];simp only[A,hf,pM,o,Option.map_none,RS];rfl
   .rename_i j y hv B
    let ⟨r,o,I⟩:=rB B
    simp at o;split at g
    .obtain ⟨rfl,rfl,rfl⟩:=g;simp[fF,gi,qE]at C;refine⟨p∧q∧r∧lo=zW∧j=zW,?_,P,Q,I,C.1,C.2⟩;unfold qz;rw[w,f];simp[A,hf,pM,o,jK,low]
    .rename_i hno;split at g
     .rename_i mx hmx
      let ⟨t,R,ht⟩:=gE hmx
      obtain⟨rfl,rfl,rfl⟩:=g;simp[fF,gi,qE]at C;have a:=AU C.1;refine⟨p∧q∧r∧t∧jI (K.map (enc S e)) (S.width e)∧yW lo j (eP (K.map (enc S e)))∧mx=j,?_,P,Q,I,ht,s9 hS K,by rw[pM];exact a,C.2⟩;unfold qz;rw[w,f];simp[A,hf,pM,o,jK,RS];have hnl:∀q,low y=.kn .i64 q->q≠0:=by
       intro q F h0;subst h0;cases y with
       |ty t x=>cases t<;>simp[low,eg]at F
       |kn k n=>obtain⟨rfl,rfl⟩:=F;exact hno rfl
       |_=>simp[low]at F
      generalize low y=ly at R hnl;split
      .exact absurd rfl (hnl 0 rfl)
      .rw[R];rfl
     .cases g
   .cases g
  .cases g
 .cases g
def Hj{g:O Bool}{b:Bool}(h:YR v=Z (g,b)):∃p,IA (low v)=Z (p,b)∧(orT g=W->p):=by
 unfold YR at h;split at h
 .rename_i c i;split at h
  .rename_i d
   let ⟨p,a,e⟩:=mJ d
   obtain⟨rfl,rfl⟩:=h;exact⟨c=W∧p,by simp[low,IA,a],λf=>⟨f,e⟩⟩
  .cases h
 .obtain ⟨rfl,rfl⟩:=h;exact⟨True,rfl,λ_=>trivial⟩
 .obtain ⟨rfl,rfl⟩:=h;exact⟨_,rfl,λ_=>rfl⟩
 .cases h
def Ue{c b:V S}{q:Bool}(h:WZ c a b=Z (q,v))(f:q=W):∃p,I5 (low c) (low a) (low b)=Z (p,low v)∧p:=by
 unfold WZ at h;split at h
 .rename_i u;split at h
  .rename_i p y h1;obtain⟨rfl,rfl⟩:=h
   let ⟨r,e,k⟩:=Hj h1
   refine⟨r,?_,k f⟩;have g:IA (bif u then low a else low b)=Z (r,y):=by cases u<;>exact e
   simp only[low,I5,g];rfl
  .cases h
 split at h
 .rename_i t p x C y h1 h2 h3
  let ⟨i,j,l⟩:=mJ h1
  let ⟨m,n,o⟩:=Hj h2
  let ⟨s,w,z⟩:=Hj h3
  obtain⟨rfl,rfl⟩:=h;refine⟨i∧(t=W->m)∧(t=J->s),by
   have A:∀u,low c≠.kb u:=by
    intro u d;cases c with
    |kb b=>grind|ty t x=>cases t<;>cases d
    |_=>cases d
   unfold I5;split
   .simp_all
   .simp only[j,n,w];rfl,l,λB=>o ?_,λB=>z ?_⟩
  .simp_all
  simp_all
 .cases h
end
section
variable {v x ix a b:V S}{i:TI}{s s':bg S}{c:Bool}{op:BinOp}
def aeN{o r:Nat}(h:low v=.sh o r):v=.sh o r:=by
 cases v with
 |ty t x=>cases t<;>simp[low,eg]at h
 |sh a b=>simpa[low]using h|_=>simp[low]at h
def Gf(F:fy S){τ:O Ty}(hi:∀u,τ=Z u->yQ S i u)(a:kC i τ s x ix=Z (c,v,s'))(C:c=W) :
  s'=s∧∃p,kD i (aC s) (low x) (low ix)=Z (p,low v,aC s')∧p:=by
 unfold kC at a;split at a
 .rename_i sz Q R zz e n g I
  let ⟨p,h,E⟩:=gE I
  let ⟨⟨z,b,_⟩,_⟩:=hi _ rfl
  split at a
  .rename_i o r;split at a
   .rename_i t l m;obtain⟨w,d⟩|⟨_,d⟩:=af a
    .clear a;have:=jX w;subst this;obtain⟨rfl,rfl,rfl⟩:=d;have f:=wA C;have y:Nq (S.width t) (S.width t)=W:=beq_iff'.2 rfl;refine⟨rfl,p∧lW n (eP (l.map (enc S t))),?_,E,by rw[pM];exact f⟩;unfold kD;rw[b,h];simp only[low,On m,y,iq];rfl
    .cases d
   .cases a
  .rename_i A;split at a
   .rename_i l m;obtain⟨rfl,rfl,rfl⟩:=a
    let ⟨q,B,K⟩:=Ab m
    have f:=wA C;have P:(az n)<l.length:=by unfold az;omega
    have j:=QB (enc S e) l (az n) (S.zero e) P;refine⟨rfl,p∧q∧lW n (eP (l.map (enc S e)))∧(jq (l.map (enc S e)) (DK n)).wide (S.width e),?_,E,K,by rw[pM];exact f,?_⟩
    .unfold kD;rw[b,h];simp only;split
     .rename_i o r k;exact absurd (aeN k) (A o r)
     .rw[B];simp only[low];rw[show jq (List.map (enc S e) l) (DK n)=_ from j]
    .show (jq (l.map (enc S e)) (az n)).cells.length=_;rw[j,kW F]
   .cases a
 .rename_i g;unfold w7 at a;split at a
  .obtain ⟨w,h3⟩|⟨_,h3⟩:=af a
   .obtain ⟨rfl,rfl,rfl⟩:=h3;refine⟨rfl,True,?_,trivial⟩;unfold kD;rw[g];simp only[low,A9,w,iq]
   .cases h3
  .cases a
 .cases a
theorem qY{i:TI}{s s':bg S}{k:Nat}{x v:V S}{c:Bool}(a:qZ i s k x=Z (c,v,s')):s'=s∧∃p,rf i (aC s) k (low x)=Z (p,low v,aC s')∧p:=by
 unfold qZ at a;unfold rf;split at a
 .rename_i b;try rw[b]
  try simp only
  split at a
  .rename_i d;try rw[d]
   obtain⟨_,h⟩|⟨e,h⟩:=af a
   .cases h
   .simp only[e,j9];split at h;all_goals first
     |(cases h;done)
     |(
       simp only[gR,fE]at h;obtain⟨rfl,rfl,rfl⟩:=h;exact⟨rfl,True,rfl,trivial⟩)
  .cases a
 .cases a
def Qy(e:fy S){k:Nat}(a:BY i s k x=Z (c,v,s')):s'=s∧∃p,Gt i (aC s) k (low x)=Z (p,low v,aC s')∧p:=by
 unfold BY at a;unfold Gt;split at a
 .rename_i b;try rw[b]
  try simp only
  split at a
  .rename_i off size o f q g
   let ⟨p,j,l⟩:=rA e g
   obtain⟨r,h⟩|⟨_,h⟩:=af a
   .simp only[fV,fE]at h;obtain⟨t,m,_,rfl,rfl⟩:=h;have d:=qd m;rw[mD,mE]at d;have n:(Nq (cE (((bu f).drop off).take size)) size&&!(Nq size 0))=W:=by
     grind[bR,eS]
    exact⟨rfl,p,by simp_all,l⟩
   .cases h
  .cases a
 .cases a
theorem TR{b:L UInt8}{n:Int}(h:aI n b=W):ZU (cg b) n=mO b n:=by
 have a:=wA h;have c:n.toNat<b.length:=by omega
 unfold ZU mO;have h1:(cg b).get! n.toNat=b.getD n.toNat 0:=by
  grind[cg,ByteArray.get!]
 rw[h1]
def Qc(a:BR i s x ix=Z (c,v,s'))(d:c=W):s'=s∧∃p,Ge i (aC s) (low x) (low ix)=Z (p,low v,aC s')∧p:=by
 unfold BR at a;split at a
 .rename_i n b e f g
  let ⟨p,h,j⟩:=gE f
  let ⟨q,k,l⟩:=lN g
  obtain⟨rfl,rfl,rfl⟩:=a;refine⟨rfl,p∧q∧lW n (vk (cg b)),?_,j,l,by exact wA d⟩
  grind[Ge,low,eg,enc,TR]
 .cases a
def TC(d:D):low (zeroV (S:=S) d)=qH d:=by
 unfold zeroV;split
 .rfl
 .rfl
 .rfl
 .rfl
 .unfold qH;split
  .simp_all
  .simp_all
  .grind
  .rfl
def nD:∀(l:L D),bu (l.map (zeroV (S:=S)))=l.map qH
 |[]=>rfl|d::l=>by simp[pz,bu,TC,nD l]
def Q0(a:i.kd=.iface->False)(s:St)(t u:TypeId)(v:T) :
  sd i s t W (.di u v)=(bif Nq u t then Z (True,.gT [v,.kb W],s)else(v8 i.agg (i.zero.map qH)).map λz=>(True,.gT [z,.kb J],s)):=by
 unfold sd;cases b:i.kd<;>first|rfl|grind
def Q1(a:i.kd=.iface->False)(s:St)(t u:TypeId)(v:T) :
  sd i s t J (.di u v)=(bif Nq u t then Z (True,v,s)else Y):=by
 unfold sd;cases b:i.kd<;>first|rfl|grind
theorem w6{i:TI}{s s':bg S}{t:TypeId}{ok:Bool}{x v:V S}{c:Bool}(a:EI i s t ok x=Z (c,v,s')):s'=s∧∃p,sd i (aC s) t ok (low x)=Z (p,low v,aC s')∧p:=by
 unfold EI at a;split at a
 .cases a
 .rename_i u w _ b;rw[low,Q0 b];obtain⟨d,a⟩|⟨d,a⟩:=af a
  .obtain ⟨rfl,rfl,rfl⟩:=a;exact⟨rfl,True,by rw[d];rfl,trivial⟩
  .simp only[fV,fE]at a;obtain⟨z,f,_,rfl,rfl⟩:=a;have e:=qd f;rw[nD]at e;exact⟨rfl,True,by rw[d,j9,e];rfl,trivial⟩
 .rename_i _ b;rw[low,Q1 b];obtain⟨d,a⟩|⟨_,a⟩:=af a
  .obtain ⟨rfl,rfl,rfl⟩:=a;exact⟨rfl,True,by rw[d];rfl,trivial⟩
  .cases a
 .cases a
def aat{op:UnOp}(a:unV i op x=Z v):∃p d,unT i op (low x)=Z (p,d)∧p∧low v=.sym d:=by
 unfold unV at a;split at a
 .rename_i c;simp only[fV]at a;obtain⟨b,f,rfl⟩:=a
  let ⟨p,e,g⟩:=mJ f
  exact⟨p,_,by simp only[unT,c,e,jK];rfl,g,rfl⟩
 .rename_i c;simp at a;obtain⟨b,f,rfl⟩:=a
  let ⟨p,e,g⟩:=gE f
  exact⟨p,_,by simp only[unT,c,e,jK];rfl,g,rfl⟩
 .cases a
theorem Ch{i j:TI}{s s':bg S}{x v:V S}{c:Bool}(a:S4 i j s x=Z (c,v,s')):s'=s∧∃p,JE i j (aC s) (low x)=Z (p,low v,aC s')∧p:=by
 unfold S4 at a;split at a
 .rename_i h1 h2;simp only[fV,fE]at a;obtain⟨n,d,_,rfl,rfl⟩:=a
  let ⟨p,b,e⟩:=gE d
  exact⟨rfl,p,by simp only[JE,h1,h2,b,jK];rfl,e⟩
 .simp only[fV,fE]at a;obtain⟨n,d,_,rfl,rfl⟩:=a
  let ⟨p,b,e⟩:=lN d
  exact⟨rfl,p,by grind[JE],e⟩
 .cases a
theorem uJ{s s':bg S}{k:Nat}{x v:V S}{c:Bool}(a:AI s k x=Z (c,v,s')):s'=s∧∃p,tL (aC s) k (low x)=Z (p,low v,aC s')∧p:=by
 unfold AI at a;split at a
 .simp only[fV,fE]at a;obtain⟨t,b,_,rfl,rfl⟩:=a;exact⟨rfl,True,by simp_all[low,tL,ku,e9],trivial⟩
 .cases a
def BB(a b:L UInt8):Tv (cg a) (cg b)=gC a b:=by show(a.toArray==b.toArray)=(a==b);simp
theorem Dq{k:Lk}{a b:V S}{r:Bool}(h:EE k a b=Z r):∃p,ri k (low a) (low b)=Z (p,r)∧p:=by
 unfold EE at h;split at h
 .split at h
  .rename_i h1 h2;simp at h;subst h
   let ⟨p,c,d⟩:=gE h1
   let ⟨q,e,f⟩:=gE h2
   exact⟨p∧q,by simp[ri,c,e],d,f⟩
  .cases h
 .split at h
  .rename_i h1 h2;simp at h;subst h
   let ⟨p,c,d⟩:=mJ h1
   let ⟨q,e,f⟩:=mJ h2
   exact⟨p∧q,by simp[ri,c,e],d,f⟩
  .cases h
 .split at h
  .rename_i h1 h2;simp at h;subst h
   let ⟨p,c,d⟩:=lN h1
   let ⟨q,e,f⟩:=lN h2
   exact⟨p∧q,by simp[ri,c,e,BB],d,f⟩
  .cases h
 .cases h
theorem yI:∀{c:L Lk}{as bs:L (V S)}{r:Bool},kV c as bs=Z r->∃p,kG c (bu as) (bu bs)=Z (p,r)∧p
 |[],[],[],r,h=>by simp only[kV,gR]at h;subst h;exact⟨True,rfl,trivial⟩
 |k::c,a::as,b::bs,r,h=>by
  simp[kV]at h;split at h
  .rename_i h1 h2;simp at h;subst h
   let ⟨p,d,e⟩:=Dq h1
   let ⟨q,f,g⟩:=yI h2
   exact⟨p∧q,by simp[bu,kG,d,f],e,g⟩
  .cases h
 |[],[],_::_,_,h=>by simp[kV]at h
 |[],_::_,_,_,h=>by simp[kV]at h
 |_::_,[],_,_,h=>by simp[kV]at h
 |_::_,_::_,[],_,h=>by simp[kV]at h
def NY(e:fy S){r:Bool}(h:afU i a b=Z r):∃p,Yn i (low a) (low b)=Z (p,r)∧p:=by
 unfold Yn;obtain⟨d,h⟩|⟨d,h⟩:=af h
 .grind[rA,yI]
 .rw[d];split at h
  .grind[Dq]
  .rename_i c;try rw[c]
   unfold Yo at h;split at h
   .simp only[gR]at h;subst h;exact⟨True,rfl,trivial⟩
   .simp only[gR]at h;subst h;exact⟨True,rfl,trivial⟩
   .cases h
  .rename_i c;try rw[c]
   unfold Yp at h;split at h
   .simp only[gR]at h;subst h;exact⟨True,rfl,trivial⟩
   .simp only[gR]at h;subst h;exact⟨True,rfl,trivial⟩
   .cases h
  .cases h
def YF{op:BinOp}{k:IntKind}{m n:Int}:(acn (S:=S) op k m n).map low=(Vi op k m n).map .sym:=by unfold acn Vi;cases op<;>rfl
theorem Yw{op:BinOp}{k:IntKind}{m n:Int}:(aci (S:=S) op k m n).map low=(Yx op k m n).map .sym:=by unfold aci Yx;cases op<;>rfl
def U7{a b:L UInt8}(h:ab7 a b=W):LM (cg a) (cg b):=by
 grind[ab7,LM,cg,ByteArray.size]
def YO(z:fy S)(h:GX i op a b=Z (c,v))(B:c=W):∃p d,Ll i op (low a) (low b)=Z (p,d)∧p∧low v=.sym d:=by
 have f:=h;unfold GX at h;split at h
 .simp only[fV,fE]at h;obtain⟨r,u,_,rfl⟩:=h
  let ⟨p,e,o⟩:=NY z u
  exact⟨p,_,by simp only[Ll,e,jK];rfl,o,rfl⟩
 .simp only[fV,fE]at h;obtain⟨r,u,_,rfl⟩:=h
  let ⟨p,e,o⟩:=NY z u
  exact⟨p,_,by simp only[Ll,e,jK];rfl,o,rfl⟩
 .rename_i g j;cases l:i.kd with
  |leaf C=>
   cases C with
   |int k=>
    have t:GX i op a b=(match g7 k a,g7 k b with
     |some m,Z n=>match acn op k m n with
      |some d=>Z (W,d)|none=>(aci op k m n).map λd=>(nzI n,d)
     |_,_=>Y):=by
     clear h;unfold GX;cases op<;>first|exact(g rfl).elim|exact(j rfl).elim|(simp only[l];done)|(simp only[l];cases g7 k a<;>cases g7 k b<;>rfl)
    have I:∀{p q:Prop}{m n:Int},yc k (low a)=Z (p,m)->yc k (low b)=Z (q,n)->Ll i op (low a) (low b)=(match Vi op k m n with
     |some d=>Z (p∧q,d)|none=>(Yx op k m n).map λd=>(p∧q∧agG n,d)):=by
     intro p q m n w x;clear h t;unfold Ll;cases op<;>first|exact(g rfl).elim|exact(j rfl).elim|(simp only[l,w,x];rfl)
    rw[t]at f;split at f
    .rename_i m n h1 h2
     let ⟨p,w,o⟩:=gE h1
     let ⟨q,x,A⟩:=gE h2
     have s:=YF (S:=S) (op:=op) (k:=k) (m:=m) (n:=n);split at f
     .grind
     .rename_i E;rw[E]at s;simp only[fV,fE]at f;obtain⟨d,F,rfl,rfl⟩:=f
      grind[Yw,Option.map_eq_some_iff,agG,nzI]
    .cases f
   |str=>
    have y:op=.add:=by clear h;unfold GX at f;cases op<;>first|rfl|exact(g rfl).elim|exact(j rfl).elim|(simp only[l]at f;cases f)
    clear h;subst y;have t:GX i .add a b=(match vV a,vV b with
     |some m,Z n=>Z (ab7 m n,.ty .str (cZ m n))|_,_=>Y):=by
     unfold GX;simp[l];cases vV a<;>cases vV b<;>rfl
    rw[t]at f;split at f
    .rename_i m n h1 h2
     let ⟨p,w,o⟩:=lN h1
     let ⟨q,x,A⟩:=lN h2
     obtain⟨rfl,rfl⟩:=f;refine⟨p∧q∧LM (cg m) (cg n),.lit (.string (Rp (cg m) (cg n))),?_,⟨o,A,U7 B⟩,by rfl⟩
     simp_all[Ll]
    .cases f
   |bool=>
    clear h;unfold GX at f;cases op<;>first|exact(g rfl).elim|exact(j rfl).elim|(simp only[l]at f;cases f)
   |no=>
    clear h;unfold GX at f;cases op<;>first|exact(g rfl).elim|exact(j rfl).elim|(simp only[l]at f;cases f)
  |_=>
   clear h;unfold GX at f;cases op<;>first|exact(g rfl).elim|exact(j rfl).elim|(simp only[l]at f;cases f)
def Ng(A:fy S){E:gm}(hE:Ra S E){fr:bU S}{o:Op}(h:cH E fr s o=Z (c,v,s'))(F:c=W) :
  ∃p,oL E.E (bH fr) (aC s) o=Z (p,low v,aC s')∧p:=by
 cases o with
 |move x=>simp only[cH,fV,fE]at h;obtain⟨t,ht,_,rfl,rfl⟩:=h;exact⟨True,by simp[oL,cC ht,jK],trivial⟩
 |assign x=>simp only[cH,fV,fE]at h;obtain⟨t,ht,_,rfl,rfl⟩:=h;exact⟨True,by simp[oL,cC ht,jK],trivial⟩
 |pick x y z=>
  simp[cH]at h;split at h
  .rename_i a b d h1 h2 h3;simp only[fV,fE]at h;obtain⟨⟨q,t⟩,ht,rfl,rfl,rfl⟩:=h
   let ⟨p,e,l⟩:=Ue ht F
   exact⟨p,by simp[oL,cC h1,cC h2,cC h3,e,jK],l⟩
  .cases h
 |alloc t=>
  simp[cH]at h;split at h
  .rename_i i g;obtain⟨w,h⟩|⟨_,h⟩:=af h
   .obtain ⟨_,rfl,rfl⟩:=h;refine⟨True,?_,trivial⟩;have I:Nt (aC s).aD bI=W:=w;simp only[oL,g,I,iq,g6,dc,nD];rfl
   .cases h
  .cases h
 |box t x=>
  simp[cH]at h;split at h
  .rename_i i v' g hv;obtain⟨w,h⟩|⟨_,h⟩:=af h
   .simp only[fV,fE]at h;obtain⟨cs,K,_,rfl,rfl⟩:=h
    let ⟨p,e,l⟩:=rA A K
    have I:Nt (aC s).aD bI=W:=w;refine⟨p,?_,l⟩;simp only[oL,g,cC hv,I,iq,e,jK,g6,dc];rfl
   .cases h
  .cases h
 |build t ps=>
  simp[cH]at h;split at h
  .rename_i i ps' g P;split at h
   .rename_i B;simp only[fV,fE]at h;obtain⟨cs,K,_,rfl,rfl⟩:=h
    let ⟨p,e,l⟩:=BX A K
    rw[nD]at e;refine⟨p,?_,l⟩;simp only[oL,g,uu P,B,low];exact cU (Option.map λq:Prop×L T=>(q.1,T.agg q.2,aC s)) e
   .cases h
  .cases h
 |buildSlice t n ps=>
  simp only[cH]at h;split at h
  .rename_i i e ps' g KS P;split at h
   .rename_i zz B;obtain⟨w,h⟩|⟨_,h⟩:=af h
    .split at h
     .rename_i os hel;simp only[fV,fE]at h;obtain⟨s1,zY,_,rfl,rfl⟩:=h
      let ⟨⟨z,C,Q⟩,_,_,hpos⟩:=hE.row _ _ _ g KS
      rw[B]at C;obtain⟨rfl,rfl,rfl,rfl⟩:=Kd.slice.inj C;have hf:=dw A os zY;have hzl:cE zz=S.width e:=by cases e with|st m=>simp[kU,iq,enc,D.agg.injEq]at Q;rw[Q];simp[Sg.width,bR];rw[show S.cells m (S.zero (.st m))=_ from A.cells m _,mY]|_=>simp only[kU,j9]at Q;rw[Q];rfl
      have R:((kU e||Nq (S.width e) 1)&&(Nq (cE zz) (S.width e)&&(!(Nq (S.width e) 0)&&Nl (Nat.mul n (S.width e)) 16777216)))=W:=by
       rw[hzl];simp only[fF,T3];refine⟨?_,beq_iff'.2 rfl,?_,w⟩
       .cases e<;>rfl
       .cases hq:Nq (S.width e) 0 with|false=>rfl|true=>have:=beq_iff'.1 hq;omega
      have afg:List.replicate n (bif kU e then D.agg zz else zz.getD 0 default)=(List.replicate n (S.zero e)).map (enc S e):=by
       rw[List.map_replicate]
       congr 1
       cases e with|st m=>exact Q|_=>simp only[kU,j9]at Q ⊢;rw[Q];rfl
      let ⟨p,e1,l⟩:=GG A (i:={(default:TI)with size:=S.width e,agg:=kU e}) ⟨rfl,λ_=>rfl⟩ hel
      refine⟨p,?_,l⟩;simp only[oL,g,uu P,B,R,iq,afg,e1,hf,jK,low]
     .cases h
    .cases h
   .cases h
  .cases h
 |load t x=>
  simp[cH]at h;split at h
  .rename_i i a g r;obtain⟨rfl,p,e,l⟩:=Jh A (λu hu=>hE.row _ _ _ g hu) h F;exact⟨p,by simp[oL,g,cC r,e],l⟩
  .cases h
 |store t x y=>
  simp[cH]at h;split at h
  .rename_i i a b g r w
   let ⟨p,e,l⟩:=O9 A h F
   exact⟨p,by simp[oL,g,cC r,cC w,e],l⟩
  .cases h
 |nilCheck x=>
  simp[cH]at h;split at h;all_goals first
   |(cases h;done)
   |(
     rename_i hx;simp only[gR,fE]at h;obtain⟨_,rfl,rfl⟩:=h;have:=cC hx;simp only[low]at this;exact⟨True,by simp only[oL,this,low],trivial⟩)
 |binOp op t x y u=>
  simp[cH]at h;split at h
  .rename_i i a b g r w;simp only[fV,fE]at h;obtain⟨⟨q,d⟩,hd,rfl,rfl,rfl⟩:=h
   let ⟨p,d',e,l,hl⟩:=YO A hd F
   exact⟨p,by simp[oL,g,cC r,cC w,e,jK,hl],l⟩
  .cases h
 |unOp op t x=>
  simp[cH]at h;split at h
  .rename_i i a g r;simp only[fV,fE]at h;obtain⟨d,hd,_,rfl,rfl⟩:=h
   let ⟨p,d',e,l,hl⟩:=aat hd
   exact⟨p,by simp[oL,g,cC r,e,jK,hl],l⟩
  .cases h
 |convert t u x=>
  simp[cH]at h;split at h
  .rename_i i j a g hj r;obtain⟨rfl,p,e,l⟩:=Ch h;exact⟨p,by simp[oL,g,hj,cC r,e],l⟩
  .cases h
 |makeInterface t x=>
  simp[cH]at h;split at h
  .rename_i i a g r;split at h
   .cases h
   .obtain ⟨_,rfl,rfl⟩:=h;refine⟨True,?_,trivial⟩;simp[oL,g,cC r,low]
  .cases h
 |makeFunc f a b=>
  simp[cH]at h;split at h
  .rename_i x y hx hy;obtain⟨_,rfl,rfl⟩:=h;exact⟨True,by simp[oL,gZ hx,gZ hy,low],trivial⟩
  .cases h
 |extract x k=>
  simp[cH]at h;split at h
  .rename_i a r;obtain⟨rfl,p,e,l⟩:=uJ h;exact⟨p,by simp[oL,cC r,e],l⟩
  .cases h
 |fieldAddr t x k=>
  simp[cH]at h;split at h
  .rename_i i a g r;obtain⟨rfl,p,e,l⟩:=qY h;exact⟨p,by simp[oL,g,cC r,e],l⟩
  .cases h
 |field t x k=>
  simp[cH]at h;split at h
  .rename_i i a g r;obtain⟨rfl,p,e,l⟩:=Qy A h;exact⟨p,by simp[oL,g,cC r,e],l⟩
  .cases h
 |indexAddr t x y=>
  simp[cH]at h;split at h
  .rename_i i a b g r w;obtain⟨rfl,p,e,l⟩:=Gf A (λu hu=>hE.row _ _ _ g hu) h F;exact⟨p,by simp[oL,g,cC r,cC w,e],l⟩
  .cases h
 |index t x y=>
  simp[cH]at h;split at h
  .rename_i i a b g r w;obtain⟨rfl,p,e,l⟩:=Qc h F;exact⟨p,by simp[oL,g,cC r,cC w,e],l⟩
  .cases h
 |slice t x lo g mx=>
  simp[cH]at h;split at h
  .rename_i i a l1 l2 l3 hi' r h1 h2 h3
   let ⟨p,e,l⟩:=Pe A (λu hu=>hE.row _ _ _ hi' hu) h F
   exact⟨p,by simp[oL,hi',cC r,Fz h1,Fz h2,Fz h3,e],l⟩
  .cases h
 |typeAssert x t u ok=>
  simp[cH]at h;split at h
  .rename_i g r;obtain⟨rfl,p,e,l⟩:=w6 h;exact⟨p,by simp[oL,g,cC r,e],l⟩
  .cases h
 |_=>simp[cH]at h
end
section
variable {e:Ty}{v:V S}{s s':bg S}{c:Bool}
def EH(a:fy S)(l:L (den S.A e)):vG (l.map (enc S e)) (zI S e):=by intro d b;obtain⟨x,_,rfl⟩:=zc.1 b;exact⟨Ca a x,NZ a x⟩
def uX{α:Type}(f:α->D)(l m:L α):iG (l.map f) (m.map f)=(cZ l m).map f:=by simp[iG,cZ]
def ED{α:Type}(f:α->D){l m:L α}(h:de l m=W):D.SY (l.map f) (m.map f):=by simpa[de,D.SY]using h
def aa9{n:Nat}{es:L D}(h:low v=.kM n es):∃t l,v=.kM n t l:=by
 cases v with
 |ty t x=>cases t<;>simp[low,eg]at h
 |kM a t l=>obtain⟨rfl,_⟩:=h;exact⟨t,l,rfl⟩
 |_=>simp[low]at h
def Oq(l:fy S){i:TI}(hi:yQ S i (.sl e)){x y:V S}(h:Th i e s x y=Z (c,v,s'))(C:c=W) :
  ∃p,uW i (aC s) (low x) (low y)=Z (p,low v,aC s')∧p:=by
 obtain⟨_,a⟩|⟨E,a⟩:=af h
 .cases a
 clear h;have m:(!(Nt (aC s).aD bI))=J:=E;unfold uW;rw[m,j9]
 let ⟨⟨z,n,hz⟩,_⟩:=hi
 split at a
 .rename_i new g u;rw[n]at g;obtain⟨rfl,rfl,rfl,rfl⟩:=Kd.slice.inj g
  let ⟨q,F,A⟩:=Ab u
  rw[n,F];have w:=s9 l new;have I:=EH l new;split at a
  .obtain ⟨_,rfl,rfl⟩:=a;refine⟨q∧jI (new.map (enc S e)) (S.width e)∧vG (new.map (enc S e)) (zI S e),?_,A,w,I⟩;simp only[low,g6,dc];rfl
  .rename_i t f;split at a
   .rename_i R b;obtain⟨rfl,K⟩:=fO b;cases K;have j:=s9 l (cZ f new);have d:=EH l (cZ f new);rw[<-uX]at j d;split at a
    .rename_i k t2 l2;obtain⟨rfl,rfl,rfl⟩:=a;refine⟨q∧jI (iG (f.map (enc S t)) (new.map (enc S t))) (S.width t)∧vG (iG (f.map (enc S t)) (new.map (enc S t))) (zI S t)∧D.SY (f.map (enc S t)) (new.map (enc S t)),?_,A,j,d,ED _ C⟩;simp only[low,g6,dc,<-uX];rfl
    .obtain ⟨rfl,rfl,rfl⟩:=a;refine⟨q∧jI (iG (f.map (enc S t)) (new.map (enc S t))) (S.width t)∧vG (iG (f.map (enc S t)) (new.map (enc S t))) (zI S t)∧D.SY (f.map (enc S t)) (new.map (enc S t)),?_,A,j,d,ED _ C⟩;simp[low];split
     .rename_i hl;obtain⟨t3,l3,rfl⟩:=aa9 hl
      grind
     .simp[eg,enc,<-uX]
   .cases a
  .rename_i o r;split at a
   .rename_i t f era ho;split at a
    .rename_i b;obtain⟨rfl,K⟩:=fO b;cases K;obtain⟨B,P⟩|⟨_,P⟩:=af a
     .clear a;simp only[fF]at B;obtain⟨rfl,rfl,rfl⟩:=P;have d:=EH l (cZ f new);rw[<-uX]at d;refine⟨q∧jI (new.map (enc S t)) (S.width t)∧vG (iG (f.map (enc S t)) (new.map (enc S t))) (zI S t)∧D.SY (f.map (enc S t)) (new.map (enc S t)),?_,A,w,d,ED _ C⟩;have Q:(Nl (aC s).fl o&&Nq r era&&Nq (S.width t) (S.width t)&&!(tA (low y)).contains o)=W:=by rw[Fy];simp only[fF];exact⟨⟨⟨B.1,B.2.1⟩,beq_iff'.2 rfl⟩,B.2.2⟩
      simp only[low,aJ,ho,jK,dc,Q,iq,eF,<-uX]
     .cases P
    .cases a
   .cases a
  .cases a
 .cases a
def yM(w:fy S){E:gm}(r:Ra S E){b:Builtin}{n:Array TypeId}{args:L (V S)}(h:iw E s b n args=Z (c,v,s'))(y:c=W) :
  ∃p,fP E.E (aC s) b n (bu args)=Z (p,low v,aC s')∧p:=by
 unfold iw at h;split at h
 .rename_i x;split at h
  .rename_i i j d
   let ⟨k,l,m⟩:=vL.1 j
   let ⟨A,a,f⟩:=vL.1 d
   rw[l]at a;cases a
   let ⟨g,_⟩:=r.row _ _ _ m f
   split at h
   .rename_i _ B
    let ⟨p,e,o⟩:=lN B
    obtain⟨_,rfl,rfl⟩:=h;exact⟨p,by simp only[bu,fP,e,j,g,E2];rfl,o⟩
   .cases h
  .rename_i i e j d
   let ⟨k,l,m⟩:=vL.1 j
   let ⟨A,a,f⟩:=vL.1 d
   rw[l]at a;cases a
   let ⟨⟨z,g,_⟩,_⟩:=r.row _ _ _ m f
   split at h
   .simp only[fV,fE]at h;obtain⟨I,t,_,rfl,rfl⟩:=h
    let ⟨p,u,o⟩:=Ab t
    refine⟨p,?_,o⟩;simp[bu,fP];cases C:z9 (low x)with|none=>simp only[j,g,u,jK,pM];rfl|some q=>simp only[j,g,u,jK,pM];rfl
   .cases h
  .cases h
 .split at h
  .split at h
   .rename_i j K d;split at h
    .rename_i F
     let ⟨p,u,o⟩:=Oq w (r.row _ _ _ j d) h y
     grind[bu,fP]
    .cases h
   .cases h
  .cases h
 .cases h
end
section
section
variable {g g':Gh}{w w':World}
structure nh(g g':Gh):Prop where
 bP:∀o b,g.bP o=Z b->g'.bP o=Z b
 arr:∀o e x,g.arr o e=Z x->g'.arr o e=Z x
 bp:∀b,g.bp b->g'.bp b
theorem nh.refl(g:Gh):nh g g:=⟨λ_ _ h=>h,λ_ _ _ h=>h,λ_ h=>h⟩
def nh.trans{g g' a:Gh}(h:nh g g')(k:nh g' a):nh g a:=⟨λo b e=>k.bP o b (h.bP o b e),λo e x c=>k.arr o e x (h.arr o e x c),λb e=>k.bp b (h.bp b e)⟩
variable {v:Value}{s s':St}{o b e:Nat}{x:fh}{os:List Nat}
def dD.le{I a:Nat->Prop}(c:∀b,I b->a b){d:D}(h:dD I w d v):dD a w d v:=h.mono (λ_ _=>rfl) c
def aH.le(h:nh g g'){t:T}{v:Value}(F:aH g w t v):aH g' w t v:=by
 induction F with|sym d v p=>exact .sym d v (p.le h.bp)|kb b=>exact .kb b|kn k n=>exact .kn k n|ptr o off b q=>exact .ptr o off b (h.bP o b q)|mc d off z val A I p=>exact .mc d off z val (h.bp _ A) I (λj c B=>(p j c B).le h.bp)|l9 o e i off len cap sz z s=>exact .l9 o e i off len cap sz z (h.arr _ _ _ s)|sh o e len cap sz a s=>exact .sh o e len cap sz a (h.arr _ _ _ s)|emp a=>exact .emp a|kM n K a P p=>exact .kM n K a P (p.le h.bp)|fn f Q u R S y hm _ _ l C=>exact .fn f Q u R S y hm l C|di t x v _ l=>exact .di t x v l|agg u E y _ l=>exact .agg u E y l|gT u E y _ l=>exact .gT u E y l|gd c t v _ l=>exact .gd c t v l|mp o b q=>exact .mp o b (h.bP o b q)|rJ o b q=>exact .rJ o b (h.bP o b q)|ud o b q=>exact .ud o b (h.bP o b q)|ub e b h=>exact .ub e b h|sy o m r i len cap sz a s=>exact .sy o m r i len cap sz a (h.arr _ _ _ s)|pU j d c a B p=>exact .pU j d c a B (p.le h.bp)
def xp.le{s s':St}{o b:Nat}(h:xp g s w o b)(c:nh g g')(hi:g'.bp=g.bp)(hs:s'.ob.get o=s.ob.get o):xp g' s' w o b:=by
 refine⟨by rw[hi];exact h.1,h.2.1,λob a=>?_⟩;rw[hs]at a
 let ⟨x,h1,h2⟩:=h.2.2 ob a
 exact⟨x,h1,h2.imp (λ_ _ h=>h.le c)⟩
def Bo.le(h:Bo g s w o e x)(hi:g'.bp=g.bp)(hs:s'.ob.get o=s.ob.get o)(b:∀k j y,g.arr k j=Z y->g'.arr k j=Z y)(d:∀c,g'.arr o c=g.arr o c):Bo g' s' w o e x:=by refine⟨h.1,λob a=>?_⟩;rw[hs]at a;exact(h.2 ob a).tr (λh=>h.kE hi) b (funext d) (λ_ _ _=>⟨rfl,by rw[hi]⟩)
def aV.YW(hs:aV g s w)(hn:s.aD<bI){sz:Nat}{es:L D}
  (v:∀b,x.at b->b<w.heap.size∧∀o,¬bF g o b) (n:xz g w J sz es x) (p:x.sz=sz) :
  aV (g.era s.aD 0 x) (ew s (.arr sz es 0)).2 w∧nh g (g.era s.aD 0 x)∧(∀k b,bF (g.era s.aD 0 x) k b->bF g k b∨(k=s.aD∧x.at b)):=by
 have q:=hs.ah s.aD (eR _);have e:∀k j y,g.arr k j=Z y->(g.era s.aD 0 x).arr k j=Z y:=λk j y h=>by
  rw[Gh.cP]
  .exact h
  grind
 have i:nh g (g.era s.aD 0 x):=⟨λ_ _ h=>h,e,λ_ h=>h⟩;have a:∀k b,bF (g.era s.aD 0 x) k b->bF g k b∨(k=s.aD∧x.at b):=by
  rintro k b ⟨h1,h2|⟨j,y,m,h2,h3,h4,h5⟩⟩
  .exact .inl ⟨h1,.inl h2⟩
  .by_cases c:k=s.aD∧j=0
   .obtain ⟨rfl,rfl⟩:=c;rw[Gh.fM]at h2;simp at h2;subst h2;exact .inr ⟨rfl,⟨m,h3,h4,h5⟩⟩
   .rw[Gh.cP _ _ _ _ _ _ c]at h2;exact .inl ⟨h1,.inr ⟨j,y,m,h2,h3,h4,h5⟩⟩
 refine⟨⟨by simp only[ew];omega,λk z=>?_,λk b r=>?_,λk j y l=>?_,λb r=>hs.bp b r,λk u b h A=>?_⟩,i,a⟩
 .simp only[ew]at z;refine⟨(hs.ah k (by omega)).1,λj=>?_⟩;rw[Gh.cP _ _ _ _ _ _ (by omega)];exact(hs.ah k (by omega)).2 j
 .have t:g.bP k=Z b:=r;have d:k≠s.aD:=λh=>by simp_all
  exact(hs.box k b t).le i rfl (by simp[ew];rw[Tr.aR _ _ _ _ hn,bO d])
 .by_cases c:k=s.aD∧j=0
  .obtain ⟨rfl,rfl⟩:=c;rw[Gh.fM]at l;simp at l;subst l;refine⟨λm B C=>(v _ ⟨m,B,rfl,C⟩).1,λob f=>.inl ⟨J,es,0,?_,eR _,λE h=>?_,λ_=>p▸(n.kE rfl)⟩⟩
   .simp[ew]at f;rw[Tr.aR _ _ _ _ hn,bB rfl]at f
    grind[gj]
   grind[Gh.cP]
  .rw[Gh.cP _ _ _ _ _ _ c]at l;have d:k≠s.aD:=λh=>by simp_all
   exact(hs.arr k j y l).le rfl (by simp[ew];rw[Tr.aR _ _ _ _ hn,bO d]) e (λE=>Gh.cP _ _ _ _ _ _ (λh=>d h.1))
 .obtain h1|⟨h1,h3⟩:=a k b h<;>obtain h2|⟨h2,h4⟩:=a u b A
  .exact hs.j8 k u b h1 h2
  .simp_all
  .simp_all
  .rw[h1,h2]
def aV.tG(hs:aV g s w)(m:g.bP o=Z b){ob:Ob}{x:Obj}(t:w.heap[b]?=Z x)(u:gX g w ob x)(l:∀e,g.arr o e=Y):aV g {s with ob:=s.ob.set aM o ob} w:=by
 have n:=hs.lt m;have p:=hs.aD;have eo:∀k,(Tr.set aM s.ob o ob).get k=if k=o then Z ob else s.ob.get k:=λk=>Tr.aR _ _ _ _ (by omega)
 refine⟨hs.aD,hs.ah,λk c q=>?_,λk e x r=>?_,hs.bp,hs.j8⟩
 .have d:=hs.box k c q;refine⟨d.1,d.2.1,λf a=>?_⟩;rw[eo]at a;by_cases i:k=o
  .simp_all
  .rw[bO i]at a;exact d.2.2 f a
 .have j:=hs.arr k e x r;have i:k≠o:=λh=>by simp_all
  refine⟨j.1,λf a=>?_⟩;rw[eo,bO i]at a;exact j.2 f a
theorem aV.step{s:St}(hs:aV g s w){I X:Nat->Prop}(B:∀b,g.bp b->I b)(hIn:∀b,I b->g.bp b∨w.heap.size<=b∨X b)(hIs:∀b,I b->b<w'.heap.size)(u:w.heap.size<=w'.heap.size)
  (Q:∀b,b<w.heap.size->¬X b->w'.heap[b]?=w.heap[b]?) (hX:∀o b,X b->bF g o b->s.ob.get o=Y∧¬I b) (hXi:∀b,X b->¬g.bp b) :
  aV {g with bp:=I} s w':=by
 have F:∀k b,bF ({g with bp:=I}:Gh) k b->bF g k b:=λk b h=>⟨λhi=>h.1 (B b hi),h.2⟩;have R:j6 g.bp w w':=λb p=>Q b (hs.bp b p) (λy=>hXi b y p);have S:∀{t:T}{v:Value},aH g w t v->aH ({g with bp:=I}:Gh) w' t v:=by
  intro t v ht
  induction ht with|sym d v z=>exact .sym d v (z.mono R B)|kb b=>exact .kb b|kn k n=>exact .kn k n|ptr o off b p=>exact .ptr o off b p|mc d off ad val l q z=>exact .mc d off ad val (B _ l) (λj c K=>by rw[R.cell (by rw[kZ];exact l)];grind) (λj c K=>(z j c K).mono R B)|l9 o e i off len cap sz ad y=>exact .l9 o e i off len cap sz ad y|sh o e len cap sz a y=>exact .sh o e len cap sz a y|emp a=>exact .emp a|kM n es a hn z=>exact .kM n es a hn (z.mono R B)|fn f fs cs va vc hl hm _ _ C ih'=>exact .fn f fs cs va vc hl hm C ih'|di t x v _ C=>exact .di t x v C|agg cs vs hl _ C=>exact .agg cs vs hl C|gT cs vs hl _ C=>exact .gT cs vs hl C|gd c t v _ C=>exact .gd c t v C|mp o b p=>exact .mp o b p|rJ o b p=>exact .rJ o b p|ud o b p=>exact .ud o b p|ub e b h=>exact .ub e b h|sy o m r i len cap sz a y=>exact .sy o m r i len cap sz a y|pU j d c a K z=>exact .pU j d c a K (z.mono R B)
 have P:∀o b,bF g o b->¬I b:=λo b hO hi=>by
  obtain h|h|h:=hIn b hi
  .exact hO.1 h
  .have:=(hs.rS hO).1;omega
  grind
 refine⟨hs.aD,hs.ah,λk c q=>?_,λk e x y=>?_,hIs,λk k' b h h'=>hs.j8 k k' b (F k b h) (F k' b h')⟩
 .have A:=hs.box k c q;have hO:bF g k c:=⟨A.1,.inl q⟩;refine⟨P k c hO,iS A.2.1 u,λob mP=>?_⟩
  let ⟨x,h2,h3⟩:=A.2.2 ob mP
  exact⟨x,by grind,h3.imp (λ_ _ h=>S h)⟩
 .have E:=hs.arr k e x y;refine⟨λad ha q=>iS (E.1 ad ha q) u,λob mP=>?_⟩;refine(E.2 ob mP).tr (λ{fz sz es}hA=>?_) (λ_ _ _ h=>h) rfl (λb k1 q=>?_);rotate_left
  .have p:b<w.heap.size:=E.1 _ k1 q;by_cases l:g.bp b
   .grind
   .have hO:bF g k b:=⟨l,.inr ⟨e,x,_,y,k1,rfl,q⟩⟩
    grind
  refine⟨hA.len,hA.cap,hA.rows,hA.pos,hA.VT,λq=>?_⟩
  let ⟨b,vs,ty,k1,k2,k3,k4,k5⟩:=hA.mem q
  have p:b<w.heap.size:=E.1 _ k1 q;by_cases l:g.bp b
  .refine ⟨b,vs,ty,k1,⟨λ_=>B b l,λ_=>k2.2 l⟩,by grind,k4,λi d j c z K=>?_⟩
   let ⟨v,hv,hr⟩:=k5 i d j c z K
   exact⟨v,hv,hr.mono R B⟩
  .have hO:bF g k b:=⟨l,.inr ⟨e,x,_,y,k1,rfl,q⟩⟩;have hnx:¬X b:=λhxx=>by grind
   refine⟨b,vs,ty,k1,⟨λhf=>absurd (k2.1 hf) l,λhi=>absurd hi (P k b hO)⟩,by simp_all,k4,λi d j c z K=>?_⟩
   let ⟨v,hv,hr⟩:=k5 i d j c z K
   exact⟨v,hv,hr.mono R B⟩
def Gh.drop(g:Gh)(os:L Nat):Gh:={g with arr:=λo e=>if o∈os then Y else g.arr o e}
def Gh.GI(h:(g.drop os).arr o e=Z x):o∉os∧g.arr o e=Z x:=by
 grind[Gh.drop]
def Gh.zy{k:Nat}(h:bF (g.drop os) k b):bF g k b:=by
 obtain⟨h1,h2|⟨e,x,a,h2,h3⟩⟩:=h
 .exact ⟨h1,.inl h2⟩
 .exact ⟨h1,.inr ⟨e,x,a,(Gh.GI h2).2,h3⟩⟩
mutual
def dn(os:L Nat):T->Bool
 |.ptr o _=>os.contains o|.l9 o _ _ _=>os.contains o|.sh o _=>os.contains o|.mp o=>os.contains o|.rJ o=>os.contains o|.ud o=>os.contains o|.fn _ a b=>iM os a||iM os b|.di _ v=>dn os v|.agg c=>iM os c|.gT c=>iM os c|.gd _ v=>dn os v|.sy o m _ _=>os.contains o||os.contains m|_=>J
def iM(os:L Nat):L T->Bool
 |[]=>J|v::l=>dn os v||iM os l
end
def qL{os:L Nat}:∀{l:L T},iM os l=J->∀t∈l,dn os t=J
 |[],_,t,b=>by cases b
 |a::l,h,t,b=>by
  simp[iM,zd]at h;obtain rfl|b:=ga.1 b
  .exact h.1
  .exact qL h.2 t b
theorem aH.drop{os:L Nat}{t:T}{v:Value}(h:aH g w t v)(l:dn os t=J):aH (g.drop os) w t v:=by
 induction h with|sym d v q=>exact .sym d v q|kb b=>exact .kb b|kn k n=>exact .kn k n|ptr o off b h=>exact .ptr o off b h|mc d off y val E z q=>exact .mc d off y val E z q|l9 o e i off len cap sz y h=>simp[dn,Fl,Wr]at l;exact .l9 o e i off len cap sz y (by simp[Gh.drop,bO l];exact h)|sh o e len cap sz a h=>simp[dn,Fl,Wr]at l;exact .sh o e len cap sz a (by simp[Gh.drop,bO l];exact h)|emp a=>exact .emp a|kM k F a I q=>exact .kM k F a I q|fn f K s P Q u A _ _ p B=>simp[dn,zd]at l;exact .fn f K s P Q u A (λj t v h1 h2=>p j t v h1 h2 (qL l.1 t (iz h1))) (λj t v h1 h2=>B j t v h1 h2 (qL l.2 t (iz h1)))|di t x v _ p=>exact .di t x v (p l)|agg s C u _ p=>exact .agg s C u (λj t v h1 h2=>p j t v h1 h2 (qL l t (iz h1)))|gT s C u _ p=>exact .gT s C u (λj t v h1 h2=>p j t v h1 h2 (qL l t (iz h1)))|gd c t v _ p=>exact .gd c t v (λz=>p z l)|mp o b h=>exact .mp o b h|rJ o b h=>exact .rJ o b h|ud o b h=>exact .ud o b h|ub e b h=>exact .ub e b h|sy o m r i len cap sz a h=>simp[dn,zd,Fl,Wr]at l;exact .sy o m r i len cap sz a (by simp_all[Gh.drop])|pU j d c a R q=>exact .pU j d c a R q
def Zp(os:L Nat)(ob a:Ob):Prop:=si (dn os) ob a
theorem aV.drop{s i:St}(hs:aV g s w){os:L Nat}(hn:i.aD=s.aD)(d:∀o a,i.ob.get o=Z a->∃ob,s.ob.get o=Z ob∧Zp os ob a):aV (g.drop os) i w:=by
 refine⟨hn▸hs.aD,λo f=>⟨(hs.ah o (hn▸f)).1,λe=>?_⟩,λo b q=>?_,λo e x r=>?_,hs.bp,λo u b h z=>hs.j8 o u b (Gh.zy h) (Gh.zy z)⟩
 .simp only[Gh.drop];split
  .rfl
  .exact (hs.ah o (hn▸f)).2 e
 .let ⟨h1,h2,h3⟩:=hs.box o b q
  refine⟨h1,h2,λa c=>?_⟩
  let ⟨ob,k,l⟩:=d o a c
  let ⟨x,h4,h5⟩:=h3 ob k
  exact⟨x,h4,h5.left (λt v A p=>A.drop p) l⟩
 .let ⟨f,n⟩:=Gh.GI r
  let ⟨h1,h2⟩:=hs.arr o e x n
  refine⟨h1,λa c=>?_⟩
  let ⟨ob,k,l⟩:=d o a c
  refine(h2 ob k).left l (λh=>h.kE rfl) (λm j y p h=>?_) (funext λB=>by simp[Gh.drop,bO f]) (λ_ _ _=>⟨rfl,vK⟩)
  simp_all[dn,Gh.drop]
end
end
section
def ghI(I:Nat->Prop):Gh:=⟨λ_=>Y,λ_ _=>Y,I⟩
def aac(I:Nat->Prop)(w:World)(sz:Nat)(es:L D)(x:fh):Prop:=xz (ghI I) w J sz es x∧x.sz=sz
def agC(S:Sg)(I:Nat->Prop)(w:World)(n j:Nat)(t:Ty)(l:L (S.A n))(a:fh)(rl:L fh):Prop:=
 ∃hl:L Value,hl.length=l.length∧aac I w (S.width (.st n)) (lits j (l.map (enc S (.st n))) hl) a∧rl.length=l.length∧
  (∀(i:Nat)(y:fh),rl[i]?=Z y->hl[i]?=Z (.slice y.a y.len y.cap))∧(∀(i:Nat)(y:fh)(x:S.A n),rl[i]?=Z y->l[i]?=Z x->aac I w (S.width t) ((Ip n j t x).map (enc S t)) y)∧DV S n j t=W
inductive jV(S:Sg)(I:Nat->Prop)(w:World):(cs:List Ck)->gH S.A cs->List Value->List fh->Prop where
 |nil:jV S I w [] () [] []|dat {t:Ty} {cs:List Ck} {x:den S.A t} {h:gH S.A cs} {v:Value} {vs:List Value} {al:List fh} (hd:dD I w (enc S t x) v) (hr:jV S I w cs h vs al):jV S I w (.dat t::cs) (x,h) (v::vs) al|own {e:Ty} {cs:List Ck} {l:List (den S.A e)} {h:gH S.A cs} {a:fh} {vs:List Value} {al:List fh} (ho:aac I w (S.width e) (l.map (enc S e)) a) (hr:jV S I w cs h vs al) :
   jV S I w (.own e::cs) (l,h) (.slice a.a a.len a.cap::vs) (a::al)
 |kz {n j:Nat} {t:Ty} {cs:List Ck} {l:List (S.A n)} {h:gH S.A cs} {a:fh} {rl:List fh} {vs:List Value} {al:List fh} (ho:agC S I w n j t l a rl) (hr:jV S I w cs h vs al) :
   jV S I w (.kz n j t::cs) (l,h) (.slice a.a a.len a.cap::vs) (a::(rl++al))
 |nl {e:Ty} {cs:List Ck} {h:gH S.A cs} {a:Option Addr} {vs:List Value} {al:List fh} (hr:jV S I w cs h vs al):jV S I w (.nil e::cs) ([],h) (.slice a 0 0::vs) al|ptr {t:Ty} {cs:List Ck} {x:den S.A t} {h:gH S.A cs} {ad:Addr} {val:Nat->Value} {vs:List Value} {al:List fh} (hi:I ad.block) (hc:∀j c,(enc S t x).cells[j]?=Z c->w.cell? (ad.add j)=Z (val j))
   (hd:∀j c,(enc S t x).cells[j]?=Z c->dD I w c (val j)) (hr:jV S I w cs h vs al):jV S I w (.ptr t::cs) (x,h) (.pointer (Z (ad.add 0))::vs) al
inductive AL(g:Gh):List fh->List Nat->Prop where
 |nil:AL g [] []|emp {a:fh} {al:List fh} {ow:List Nat} (h:a.cap=0) (hr:AL g al ow):AL g (a::al) ow|own {a:fh} {al:List fh} {o e:Nat} {ow:List Nat} (h:g.arr o e=Z a) (hr:AL g al ow):AL g (a::al) (o::ow)
 |rows {rl al:List fh} {m:Nat} {ow:List Nat} (h:∀y∈rl,∃e,g.arr m e=Z y) (hap:rl.Pairwise λx y=>∀b,x.at b->¬y.at b) (hr:AL g al ow):AL g (rl++al) (m::ow)
variable {g:Gh}{al vC:List fh}{ow fz:List Nat}{s:bg S}{w:World}{I:Nat->Prop}{a:fh}{b n j o:Nat}{t:Ty}{cs:List Ck}{vs:List Value}{c:Ck}{v:Value}{ob:u0 S}{k:Bk}{nx:Option Nat}
def AL.append{a:L Nat}(h:AL g al ow)(d:AL g vC a):AL g (al++vC) (ow++a):=by
 induction h with|nil=>exact d|emp h _ b=>exact .emp h b|own h _ b=>exact .own h b|rows h c _ b=>rw[v5];exact .rows h c b
def xy(al:L fh):Prop:=al.Pairwise λx y=>∀b,x.at b->¬y.at b
def AL.owned(h:AL g al ow)(hi:∀a∈al,∀b,a.at b->¬g.bp b):∀a∈al,∀b,a.at b->∃o∈ow,bF g o b:=by
 induction h with
 |nil=>simp_all|emp h _ i=>
  intro a c b d;obtain rfl|c:=ga.1 c
  .exact absurd h d.choose_spec.2.2
  grind
 |own h _ i=>
  intro a c b d;obtain rfl|c:=ga.1 c
  .let ⟨f,h1,h2,h3⟩:=d
   exact⟨_,eJ,hi _ eJ b ⟨f,h1,h2,h3⟩,.inr ⟨_,_,f,h,h1,h2,h3⟩⟩
  grind
 |rows h _ _ i=>
  intro a c b d;obtain c|c:=eZ.1 c
  .let ⟨e,j⟩:=h a c
   let ⟨f,h1,h2,h3⟩:=d
   exact⟨_,eJ,hi _ (fU _ c) b ⟨f,h1,h2,h3⟩,.inr ⟨_,_,f,j,h1,h2,h3⟩⟩
  grind
def AL.apart{s:St}(hs:aV g s w)(h:AL g al ow)(hn:ow.Nodup)(hi:∀a∈al,∀b,a.at b->¬g.bp b):xy al:=by
 induction h with
 |nil=>exact .nil|emp h k i=>refine .cons (λa c b j=>absurd h j.choose_spec.2.2) (i hn (λa c=>hi a (ic _ c)))|own h k i=>
  rw[I3]at hn;refine .cons (λa c b j f=>?_) (i hn.2 (λa c=>hi a (ic _ c)))
  let ⟨p,l,d⟩:=k.owned (λa c=>hi a (ic _ c)) a c b f
  let ⟨m,h1,h2,h3⟩:=j
  have n:bF g _ b:=⟨d.1,.inr ⟨_,_,m,h,h1,h2,h3⟩⟩;have:=hs.j8 _ _ b n d
  simp_all
 |rows h o k i=>
  rw[I3]at hn;refine um.2 ⟨o,i hn.2 (λa c=>hi a (eY _ c)),λy q a c b j f=>?_⟩
  let ⟨e,r⟩:=h y q
  let ⟨p,l,d⟩:=k.owned (λa c=>hi a (eY _ c)) a c b f
  let ⟨m,h1,h2,h3⟩:=j
  have n:bF g _ b:=⟨d.1,.inr ⟨_,_,m,r,h1,h2,h3⟩⟩;have:=hs.j8 _ _ b n d
  simp_all
def l6:∀{l:L Nat},sw l=W->l.Nodup
 |[],_=>.nil|a::l,h=>by simp[sw,fF,T3,Fl,Wr]at h;exact I3.2 ⟨h.1,l6 h.2⟩
def zK{l m:L Nat}(h:Cq l m=W):∀o∈l,o∉m:=by
 grind[Cq]
def aac.at_{I:Nat->Prop}{w:World}{sz:Nat}{es:L D}{a:fh}(h:aac I w sz es a){b:Nat}(c:a.at b):¬I b∧b<w.heap.size:=by
 let ⟨h1,vs,ty,_,h3⟩:=h.1.at_ c
 exact⟨λd=>Bool.noConfusion (h1.2 d),(Wt.1 h3).1⟩
def agC.at_{I:Nat->Prop}{w:World}{n j:Nat}{t:Ty}{l:L (S.A n)}{a:fh}{rl:L fh}(h:agC S I w n j t l a rl):∀y∈a::rl,∀b,y.at b->¬I b∧b<w.heap.size:=by
 let ⟨f,_,h2,h3,_,h5,_⟩:=h
 intro y c b d;obtain rfl|c:=ga.1 c
 .exact h2.at_ d
 .let ⟨i,e⟩:=Wn c
  have:i<l.length:=by grind
  exact(h5 i y _ e (jr this)).at_ d
def jV.at_{I:Nat->Prop}{w:World}{cs:L Ck}{x:gH S.A cs}{vs:L Value}{al:L fh}(h:jV S I w cs x vs al):∀a∈al,∀b,a.at b->¬I b∧b<w.heap.size:=by
 induction h with
 |nil=>simp_all|dat _ _ d=>exact d|own e _ d=>
  intro a c b f;obtain rfl|c:=ga.1 c
  .exact e.at_ f
  grind
 |kz e _ d=>
  intro a c b f;rw[<-List.cons_append]at c;obtain c|c:=eZ.1 c
  .exact e.at_ a c b f
  grind
 |nl _ d=>exact d|ptr _ _ _ _ d=>exact d
theorem jV.iL{I:Nat->Prop}{w:World}{cs:L Ck}{x:gH S.A cs}{vs:L Value}{al:L fh}(h:jV S I w cs x vs al):∀a∈al,∀b,a.at b->¬I b:=λa c b d=>(h.at_ a c b d).1
def jV.lt{x:gH S.A cs}(h:jV S I w cs x vs al):∀a∈al,∀b,a.at b->b<w.heap.size:=λa c b d=>(h.at_ a c b d).2
def jV.append{x:den S.A c.ty}{h:gH S.A cs}(h1:jV S I w [c] (x,()) [v] al)(h2:jV S I w cs h vs vC) :
  jV S I w (c::cs) (x,h) (v::vs) (al++vC):=by
 cases h1 with
 |dat b a=>cases a;exact .dat b h2
 |own d a=>cases a;exact .own d h2
 |kz d a=>cases a;rw[kj,List.cons_append];exact .kz d h2
 |nl a=>cases a;exact .nl h2
 |ptr e f b a=>cases a;exact .ptr e f b h2
def qv{x:den S.A t}(h:dD g.bp w (enc S t x) v):aH g w (eg S t x) v:=by
 cases t with
 |st n=>
  cases h with|agg cs vs a e b=>refine .agg _ vs (by simpa using a) λj t v h1 h2=>?_;rw[lC,fV]at h1;obtain⟨d,c,rfl⟩:=h1;exact .sym _ _ (b j d v c h2)
 |_=>exact .sym _ _ h
def Tr.dz{α:Type}:∀(n:Nat)(t:Tr α)(k j:Nat)(x:α),j≠k->(Tr.set n t k x).get j=t.get j
 |0,_,_,_,_,_=>rfl|n+1,t,0,j,x,h=>by
  cases j with
  |zero=>exact absurd rfl h|succ j=>
   cases t with|nil=>rw[Tr.Ad,Tr.dA,Tr.get_nil,Tr.get_nil];split<;>rfl|node v l r=>rw[Tr.Ia,Tr.dA,Tr.dA]
 |n+1,t,k+1,j,x,h=>by
  cases t with
  |nil=>
   rw[Tr.o8];cases j with
   |zero=>split<;>rw[Tr.jd,Tr.get_nil]
   |succ j=>
    by_cases b:k%2=0
    .rw[bB b,Tr.dA,Tr.get_nil,Tr.get_nil];by_cases a:j%2=0
     .rw[bB a,Tr.dz n _ _ _ _ (by omega),Tr.get_nil]
     .rw[bO a]
    .rw[bO b,Tr.dA,Tr.get_nil,Tr.get_nil];by_cases a:j%2=0
     .rw[bB a]
     .rw[bO a,Tr.dz n _ _ _ _ (by omega),Tr.get_nil]
  |node v l r=>
   rw[Tr.nY];cases j with
   |zero=>split<;>rw[Tr.jd,Tr.jd]
   |succ j=>
    by_cases b:k%2=0
    .rw[bB b,Tr.dA,Tr.dA];by_cases a:j%2=0
     .rw[bB a,bB a,Tr.dz n _ _ _ _ (by omega)]
     .rw[bO a,bO a]
    .rw[bO b,Tr.dA,Tr.dA];by_cases a:j%2=0
     .rw[bB a,bB a]
     .rw[bO a,bO a,Tr.dz n _ _ _ _ (by omega)]
def Q2:u0 S->Bool
 |.arr ..|.lS ..|.rws ..=>W|_=>J
def uU(h:Q2 ob=W):(dc ob).ov=W:=by cases ob<;>first|rfl|cases h
def FP{nj:Nat}:∀{es:L D}{iU:L (L D)}{hl:L Value},es.length<=iU.length->lits nj (mX nj es iU) hl=lits nj es hl
 |[],iU,hl,_=>by rfl
 |d::es,[],hl,h=>by simp at h
 |d::es,a::iU,[],_=>by rfl
 |d::es,a::iU,v::hl,h=>by
  have:=FP (nj:=nj) (es:=es) (iU:=iU) (hl:=hl) (by simpa using h)
  simp_all[lits,mX,jC,AG,D.cells]
def Jp:∀{ts:L Ty}{h:l7 S.A ts}{j:Nat}{t:Ty}{y:den S.A t},nth ts j=Z t->eo ts (AB ts h j t y) j t=y
 |[],_,_,_,_,h=>by simp[nth]at h
 | τ::ts,h,0,t,y,e=>by
  grind[nth,eo,AB,wQ]
 | τ::ts,h,j+1,t,y,e=>by simp[nth]at e;simp[eo,AB,Jp e]
def U2(a:fy S)(b:DV S n j t=W)(x:S.A n)(y:L (den S.A t)):Ip n j t (TQ n j t x y)=y:=by rw[Ip,TQ,a.sC,Jp (GN b)]
def CY(hS:fy S)(hs:aV g (aC s) w){v:V S}{val:Value}{x:den S.A c.ty}(h:o3 s c v=Z (x,fz,ow))(hv:aH g w (low v) val) :
  (∀o∈fz,Live g (aC s) o)∧(∀o∈ow,s.fl<=o∧s.lo<=o∧o<s.aD∧∃ob,s.ob.get o=Z ob∧Q2 ob=W)∧∀(A:Gh)(s1:St)(z:L Nat),aV A s1 w->Ext s.fl g w A w->jG (aC s) s1 z->(∀o∈fz,o∈z)->(∀o∈ow,s1.ob.get o=(aC s).ob.get o)->
   ∃al,jV S A.bp w [c] (x,()) [val] al∧AL A al ow:=by
 cases c with
 |dat t=>
  simp[o3]at h;split at h
  .rename_i y os hy;obtain⟨rfl,rfl,rfl⟩:=h
   let ⟨p,hd,hp⟩:=qw hS s t v hy
   let ⟨h1,h2⟩:=mu hs (low v) hd hp hv
   refine⟨h1,λo d=>(by cases d),λA s1 z f Q hf q _=>⟨[],.dat ?_ .nil,.nil⟩⟩;exact h2 A s1 f Q (hf.sub q)
  .cases h
 |nil e=>
  cases v with
  |emp=>
   obtain⟨rfl,rfl,rfl⟩:=h;cases hv with|emp a=>exact⟨λo d=>(by cases d),λo d=>(by cases d),λA s1 z f Q hf q _=>⟨[],.nl .nil,.nil⟩⟩
  |_=>simp[o3]at h
 |ptr t=>simp[o3]at h|own e=>
  cases v with
  |emp=>
   obtain⟨C,h⟩|⟨_,h⟩:=af h
   .obtain ⟨rfl,rfl,rfl⟩:=h;have hpos:1<=S.width e:=gU C;cases hv with
    |emp a=>
    refine⟨λo d=>(by cases d),λo d=>(by cases d),λA s1 z f Q hf q _=>⟨[⟨a,0,0,S.width e⟩],?_,.emp rfl .nil⟩⟩;refine jV.own (a:=⟨a,0,0,S.width e⟩) ⟨⟨rfl,eR _,by simp,by omega,by simp,λh=>absurd rfl h⟩,rfl⟩ .nil
   .cases h
  |sh o r=>
   simp[o3]at h;split at h
   .rename_i t l era d;obtain⟨C,E⟩|⟨_,E⟩:=af h
    .clear h;split at E
     .rename_i l' hl;obtain⟨rfl,hh⟩:=fO hl;cases hh;simp only[fF]at C;have XR:=beq_iff'.1 C.1;subst XR;obtain⟨rfl,rfl,rfl⟩:=E;cases hv with
      |sh _ _ len cap sz a hx=>
      have F:=hs.lt' hx;refine⟨λo d=>(by cases d),λk hk=>?_,λA s1 z f Q hf q u=>?_⟩
      .rw[rL]at hk;subst hk;exact⟨gU C.2.1,gU C.2.2,F,_,d,rfl⟩
      .have I:=Q.arr _ _ _ hx;have SQ:s1.ob.get o=Z (gj J (S.width t) (l.map (enc S t)) r):=by rw[u o (by simp),aJ,d];rfl
       let ⟨hok,hsz⟩:=f.nQ SQ I
       exact⟨[_],jV.own ⟨hok.kE rfl,hsz⟩ .nil,.own I .nil⟩
     .cases E
    .cases E
   .cases h
  |_=>simp[o3]at h
 |kz n j t=>
  cases v with
  |emp=>
   obtain⟨C,h⟩|⟨_,h⟩:=af h
   .obtain ⟨rfl,rfl,rfl⟩:=h;simp only[fF]at C;have hpos:1<=S.width (.st n):=gU C.1;cases hv with
    |emp a=>
    refine⟨λo d=>(by cases d),λo d=>(by cases d),λA s1 z f Q hf q _=>⟨[⟨a,0,0,S.width (.st n)⟩],?_,.emp rfl .nil⟩⟩;exact jV.kz (a:=⟨a,0,0,S.width (.st n)⟩) (rl:=[]) ⟨[],rfl,⟨⟨rfl,eR _,by simp[lits],by omega,by simp[lits],λh=>absurd rfl h⟩,rfl⟩,rfl,by simp,by simp,C.2.1⟩ .nil
   .cases h
  |sh o r=>
   simp[o3]at h;split at h;rotate_left
   .cases h
   rename_i l era m B d;split at h;rotate_left
   .cases h
   rename_i P K hrw;obtain⟨C,E⟩|⟨_,E⟩:=af h
   rotate_left
   .cases E
   clear h;simp only[fF]at C
   let ⟨b1,b2,b3,b4,b5,b6,b7,b8,b9⟩:=C
   have XR:=beq_iff'.1 b1;subst XR;have hjj:=beq_iff'.1 b2;subst hjj;have htt:=jX b9;subst htt;split at E;rotate_left
   .cases E
   rename_i hl
   let ⟨e1,hh⟩:=fO hl
   cases e1;cases hh;simp only[gR,fE]at E;obtain⟨rfl,rfl,rfl⟩:=E;have hmlt:m<s.aD:=gU b7;cases hv with
   |sh _ _ len cap sz a hx=>
   have F:=hs.lt' hx
   let ⟨szm,hm⟩:=p9 (Af hrw)
   obtain⟨obm,hobm,hobmB⟩:∃ob,s.ob.get m=Z ob∧Q2 ob=W:=by
    cases hq:s.ob.get m with
    |none=>rw[aJ,hq]at hm;cases hm
    |some ob=>
     rw[aJ,hq]at hm;cases ob<;>first|exact⟨_,rfl,rfl⟩|cases hm
   refine⟨λo d=>(by cases d),λk hk=>?_,λA s1 z f Q hf q u=>?_⟩
   .simp at hk;obtain rfl|rfl:=hk
    .exact ⟨gU b3,gU b4,F,_,d,rfl⟩
    simp_all
   .have I:=Q.arr _ _ _ hx;have SQ:s1.ob.get o=Z (.lS j (S.width (.st n)) (l.map (enc S (.st n))) r m B Y):=by rw[u o (by simp),aJ,d];rfl
    have hm1:s1.ob.get m=Z (.rws szm (K.map (·.map (enc S P))) B):=by rw[u m (by simp),hm]
    have ai2:szm=S.width P:=by
     have h1:=hrw;unfold Mw at h1;split at h1
     .rename_i hq;obtain⟨_,h1⟩|⟨_,h1⟩:=af h1
      .cases h1;rw[aJ,hq]at hm;cases hm;rfl
      .cases h1
     .cases h1
    let ⟨q1,q2,q3,q4⟩:=f.BL SQ I
    let ⟨hl0,q5,q6,q7⟩:=q4 rfl
    simp at q5;have hrow:∀i,i<l.length->∃y R,A.arr m (rc B i)=Z y∧hl0[i]?=Z (.slice y.a y.len y.cap)∧K[i]?=Z R∧xz A w J (S.width P) (R.map (enc S P)) y∧y.sz=S.width P:=by
     intro i hi
     let ⟨y,hy,hv⟩:=q7.2 i _ (jr (by omega)) (by simp)
     let ⟨k1,R,k2,k3⟩:=(f.qB hm1 hy).2.2 i rfl
     grind
    have hex:∀i:Nat,∃y:fh,i<l.length->∃R,A.arr m (rc B i)=Z y∧hl0[i]?=Z (.slice y.a y.len y.cap)∧K[i]?=Z R∧xz A w J (S.width P) (R.map (enc S P)) y∧y.sz=S.width P:=λi=>by
     grind
    let ⟨ys,hys⟩:=T8 hex
    have eo:∀(i:Nat)(y:fh),((List.range l.length).map ys)[i]?=Z y->i<l.length∧y=ys i:=λi y h=>by
     grind
    have hrl:l.length<=K.length:=by
     grind
    have hlen:(lz n j P l K).length=l.length:=by simp[lz];omega
    refine⟨_,jV.kz (a:=⟨a,len,cap,sz⟩) (rl:=(List.range l.length).map ys) ⟨hl0,by omega,⟨?_,q1⟩,by grind,λi y hi=>?_,λi y x hi hx=>?_,b8⟩ .nil,?_⟩
    .rw[Gn hS b8,FP (by grind)];exact q6.kE rfl
    .grind
    .obtain ⟨h1,rfl⟩:=eo i y hi
     let ⟨R,_,_,h3,h4,h5⟩:=hys i h1
     have hxx:x=TQ n j P (l[i]) R:=by
      grind[lz]
     rw[hxx,U2 hS b8];exact⟨h4.kE rfl,h5⟩
    .refine .own I ?_;refine .rows (λy hy=>?_) ?_ .nil
     .grind
     .refine Ww.2 λi1 i2 l1 l2 hlt b DP pQ=>?_
      let ⟨h1,e1⟩:=eo i1 _ (jr l1)
      let ⟨h2,e2⟩:=eo i2 _ (jr l2)
      rw[e1]at DP;rw[e2]at pQ
      let ⟨_,k1,_⟩:=hys i1 h1
      let ⟨_,k2,_⟩:=hys i2 h2
      exact(f.qB hm1 k1).2.1 i1 i2 _ _ (by omega) k1 k2 b DP pQ
  |_=>simp[o3]at h
def gw(u:fy S){g:Gh}{w:World}{s:bg S}(hs:aV g (aC s) w):∀{cs:L Ck}{l:L (V S)}{vals:L Value}{x:gH S.A cs}{fz ow:L Nat},gq s cs l=Z (x,fz,ow)->PW (aH g w) (bu l) vals->
  (∀o∈fz,Live g (aC s) o)∧(∀o∈ow,s.fl<=o∧s.lo<=o∧o<s.aD∧∃ob,s.ob.get o=Z ob∧Q2 ob=W)∧∀(m:Gh)(s1:St)(e:L Nat),aV m s1 w->Ext s.fl g w m w->jG (aC s) s1 e->(∀o∈fz,o∈e)->(∀o∈ow,s1.ob.get o=(aC s).ob.get o)->
   ∃al,jV S m.bp w cs x vals al∧AL m al ow
 |[],[],vals,x,fz,ow,h,i=>by obtain⟨_,rfl,rfl⟩:=h;have:vals=[]:=Fm (by have:=i.1;simpa[bu]using this.symm);subst this;exact⟨λo d=>(by cases d),λo d=>(by cases d),λ_ _ _ _ _ _ _ _=>⟨[],.nil,.nil⟩⟩
 |c::cs,v::l,vals,x,fz,ow,h,i=>by
  simp[gq]at h;split at h
  .rename_i A B;simp at h;obtain⟨rfl,rfl,rfl⟩:=h
   match vals,i with
   |val::vals,i=>
    have p:aH g w (low v) val:=i.2 0 _ _ rfl rfl;have q:PW (aH g w) (bu l) vals:=⟨by have:=i.1;simpa[bu]using this,λj a b r t=>i.2 (j+1) a b (by simpa[bu]using r) (by simpa using t)⟩
    let ⟨C,E,F⟩:=CY u hs A p
    let ⟨q1,q2,q3⟩:=gw u hs B q
    refine⟨λo d=>(eZ.1 d).elim (C o) (q1 o),λo d=>(eZ.1 d).elim (E o) (q2 o),λm s1 e n y z k f=>?_⟩
    let ⟨I,r,t⟩:=F m s1 e n y z (λo d=>k o (fU _ d)) (λo d=>f o (fU _ d))
    let ⟨K,P,Q⟩:=q3 m s1 e n y z (λo d=>k o (eY _ d)) (λo d=>f o (eY _ d))
    exact⟨_,r.append P,t.append Q⟩
   |[],i=>exact absurd i.1 (by simp[bu])
  .cases h
 |[],_::_,_,_,_,_,h,_=>by simp[gq]at h
 |_::_,[],_,_,_,_,h,_=>by simp[gq]at h
structure VB(g:Gh)(s:bg S)(w:World)(al:List fh)(g':Gh)(s':bg S):Prop where
 rel:aV g' (aC s') w
 le:nh g g'
 bp:g'.bp=g.bp
 own:∀k b,bF g' k b->bF g k b∨(s.aD<=k∧∃a∈al,a.at b)
 fl:s'.fl=s.fl
 lo:s'.lo=s.lo
 aD:s.aD<=s'.aD
 wr:s'.wr=s.wr
 dr:s'.dr=s.dr
 ob:∀o,o<s.aD->s'.ob.get o=s.ob.get o
 bP:g'.bP=g.bP
 arr:∀o,o<s.aD->∀e,g'.arr o e=g.arr o e
theorem VB.refl{g:Gh}{s:bg S}{w:World}(h:aV g (aC s) w):VB g s w [] g s:=
 ⟨h,nh.refl _,rfl,λ_ _ h=>.inl h,rfl,rfl,eR _,rfl,rfl,λ_ _=>rfl,rfl,λ_ _ _=>rfl⟩
def VB.trans{g g' c:Gh}{s s' d:bg S}{w:World}{al vC:L fh}(h:VB g s w al g' s')(k:VB g' s' w vC c d):VB g s w (al++vC) c d where
 rel:=k.rel
 le:=h.le.trans k.le
 bp:=k.bp.trans h.bp
 own o b f:=by
  obtain f|⟨h1,a,h2,h3⟩:=k.own o b f
  .obtain f|⟨h1,a,h2,h3⟩:=h.own o b f
   .exact .inl f
   grind
  .exact .inr ⟨gD h.aD h1,a,eY _ h2,h3⟩
 fl:=k.fl.trans h.fl
 lo:=k.lo.trans h.lo
 aD:=gD h.aD k.aD
 wr:=k.wr.trans h.wr
 dr:=k.dr.trans h.dr
 ob o i:=(k.ob o (iS i h.aD)).trans (h.ob o i)
 bP:=k.bP.trans h.bP
 arr o i e:=(k.arr o (iS i h.aD) e).trans (h.arr o i e)
def RL(s:bg S)(c:Ck)(x:den S.A c.ty):s.aD<=(vT s c x).2.aD:=by cases c with|dat t=>exact eR _|own e=>exact CS _|kz n j t=>exact Nat.le_succ_of_le (CS _)|nil e=>exact eR _|ptr t=>exact eR _
def od:∀(cs:L Ck)(s:bg S)(x:gH S.A cs),s.aD<=(iy s cs x).2.aD
 |[],_,_=>eR _|c::cs,s,x=>gD (RL s c x.1) (od cs _ x.2)
def nE:∀{cs:L Ck}{x:gH S.A cs}{vals:L Value}{al:L fh}{g:Gh}{w:World}{s:bg S},jV S g.bp w cs x vals al->aV g (aC s) w->(∀a∈al,∀b,a.at b->∀o,¬bF g o b)->xy al->
  (iy s cs x).2.aD<=bI->∃g',VB g s w al g' (iy s cs x).2∧PW (aH g' w) (bu (iy s cs x).1) vals:=by
 intro cs
 induction cs with
 |nil=>intro x vals al g w s h R _ _ _;cases h;exact⟨g,VB.refl R,rfl,λj t v h=>by simp_all⟩
 |cons c cs ih=>
  intro x vals al g w s h R r f hn;cases h with
  | @dat t _ x h v vs al hd E=>
   let ⟨g',u,d⟩:=ih E R r f hn
   refine⟨g',u,by simp only[iy,vT,bu,lQ];rw[d.1],λj F I p q=>?_⟩;cases j with|zero=>simp[iy,vT,bu,ML,gR]at p q;subst p;subst q;have:=qv (g:=g) hd;exact this.le u.le|succ j=>exact d.2 j F I (by simpa[iy,vT,bu]using p) (by simpa using q)
  | @nl e _ h a vs al E=>
   let ⟨g',u,d⟩:=ih E R r f hn
   refine⟨g',u,by simp only[iy,vT,bu,lQ];rw[d.1],λj F I p q=>?_⟩;cases j with|zero=>simp[iy,vT,bu,ML,gR]at p q;subst p;subst q;exact .emp _|succ j=>exact d.2 j F I (by simpa[iy,vT,bu]using p) (by simpa using q)
  | @ptr t _ x h ad val vs al hi hc hd E=>
   let ⟨g',u,d⟩:=ih E R r f hn
   refine⟨g',u,by simp only[iy,vT,bu,lQ];rw[d.1],λj F I p q=>?_⟩;cases j with|zero=>simp[iy,vT,bu,ML,gR]at p q;subst p;subst q;have:aH g w (low (V.mc t x 0)) (.pointer (Z (ad.add 0))):=.mc _ 0 ad val hi hc hd;exact this.le u.le|succ j=>exact d.2 j F I (by simpa[iy,vT,bu]using p) (by simpa using q)
  | @own e _ l h a vs al ho E=>
   have hb0:=od cs (dj s (.arr e l 0)) h;have z:s.aD<bI:=by have h1:(dj s (.arr e l 0)).aD=s.aD+1:=rfl;have h2:(iy (dj s (.arr e l 0)) cs h).2.aD<=bI:=hn;omega
   have ai5:∀b,a.at b->b<w.heap.size∧∀o,¬bF g o b:=λb B=>⟨(jV.own (S:=S) ho E).lt a eJ b B,r a eJ b B⟩
   let ⟨p,q,k3⟩:=R.YW z (sz:=S.width e) (es:=l.map (enc S e)) (x:=a) ai5 (ho.1.kE rfl) ho.2
   have hst:(ew (aC s) (Ob.arr (S.width e) (l.map (enc S e)) 0)).2=aC (dj s (.arr e l 0)):=(g6 s (.arr e l 0)).symm;have e0:(aC s).aD=s.aD:=rfl;rw[hst,e0]at p;rw[xy,List.pairwise_cons]at f
   let ⟨g',u,d⟩:=ih (g:=g.era s.aD 0 a) (s:=dj s (.arr e l 0)) E p (λy hy b B o K=>by
    grind) f.2 hn
   have KR:VB g s w [a] (g.era s.aD 0 a) (dj s (.arr e l 0)):=by
    refine⟨p,q,rfl,λk b K=>?_,rfl,rfl,CS _,rfl,rfl,λo hlo=>?_,rfl,λo hlo e'=>Gh.cP _ _ _ _ _ _ (λh=>by omega)⟩
    .grind
    .simp[dj];rw[Tr.aR _ _ _ _ z,bO (by omega)]
   refine⟨g',KR.trans u,by simp only[iy,vT,bu,lQ];rw[d.1],λj F I q1 q2=>?_⟩;cases j with|zero=>simp[iy,vT,bu,ML,gR]at q1 q2;subst q1;subst q2;have:aH (g.era s.aD 0 a) w (.sh s.aD 0) (.slice a.a a.len a.cap):=.sh _ _ _ _ a.sz _ (Gh.fM _ _ _ _);exact this.le u.le|succ j=>exact d.2 j F I (by simpa[iy,vT,bu]using q1) (by simpa using q2)
  | @kz n j t0 _ l h a A vs al ho E=>
   have hb0:=od cs (vT s (.kz n j t0) l).2 h;have hnob2:(vT s (.kz n j t0) l).2.aD=s.aD+2:=rfl;have z:s.aD+1<bI:=by
    grind[iy]
   have P:=ho.at_
   let ⟨hl,p1,p2,p3,p4,p5,p6⟩:=ho
   rw[<-List.cons_append]at r f;have Q:=(um.1 f).1;rw[List.pairwise_cons]at Q
   let ⟨p,q,k3⟩:=R.YW (by show s.aD<bI;omega) (sz:=S.width (.st n)) (es:=lits j (l.map (enc S (.st n))) hl) (x:=a) (λb B=>⟨(P a eJ b B).2,r a (by simp) b B⟩) (p2.1.kE rfl) p2.2
   have e0:(aC s).aD=s.aD:=rfl;rw[e0]at p q k3;have e1:(ew (aC s) (Ob.arr (S.width (.st n)) (lits j (l.map (enc S (.st n))) hl) 0)).2.aD=s.aD+1:=rfl
   let ⟨r1,r2,r3⟩:=p.agh (by omega) (sz:=S.width t0) (iU:=(l.map (Ip n j t0)).map (·.map (enc S t0))) (ys:=A)
    (λy hy b B=>⟨(P y (ic _ hy) b B).2,λo K=>by
     grind⟩)
    (λi y hi=>by
     have hil:i<l.length:=by grind
     have hk:=p5 i y _ hi (jr hil);exact⟨hk.2,_,by simp_all,hk.1.kE rfl⟩) Q.2
   rw[e1]at r1 r2 r3;have C:∀k,(ew (ew (aC s) (Ob.arr (S.width (.st n)) (lits j (l.map (enc S (.st n))) hl) 0)).2 (.rws (S.width t0) ((l.map (Ip n j t0)).map (·.map (enc S t0))) 0)).2.ob.get k=if k=s.aD+1 then Z (.rws (S.width t0) ((l.map (Ip n j t0)).map (·.map (enc S t0))) 0)else if k=s.aD then Z (.arr (S.width (.st n)) (lits j (l.map (enc S (.st n))) hl) 0)else(aC s).ob.get k:=λk=>by show(((aC s).ob.set aM s.aD _).set aM (s.aD+1) _).get k=_;rw[Tr.aR _ _ _ _ z,Tr.aR _ _ _ _ (by omega)]
   have hL:IG ((g.era s.aD 0 a).ig (s.aD+1) A) (s.aD+1) 0 Y hl:=by
    have O3:∀i v,hl[i]?=Z v->∃hil:i<A.length,v=.slice (A[i]).a (A[i]).len (A[i]).cap:=λi v hi=>by
     grind
    refine⟨λi v hi=>let ⟨_,h⟩:=O3 i v hi;⟨_,_,_,h⟩,λi v hi _=>?_⟩
    grind[Gh.xd]
   have u1:=r1.V6 (o:=s.aD) (nj:=j) (es:=l.map (enc S (.st n))) (era:=0) (m:=s.aD+1) (g9:=0) (hole:=Y) (hl:=hl) (by omega) (by rw[C,bO (by omega),bB rfl]) (by simpa using p1) hL;have u2:aV ((g.era s.aD 0 a).ig (s.aD+1) A) (aC (vT s (.kz n j t0) l).2) w:=by
    refine u1.Ye rfl λk=>?_;show(aC (dj (dj s (.lS n j l 0 (Ns s.aD) 0 Y)) (.rws t0 (zC n j t0 l) 0))).ob.get k=((ew _ _).2.ob.set aM s.aD _).get k;rw[g6,g6,Tr.aR _ _ _ _ (by omega),C];show(((aC s).ob.set aM s.aD _).set aM (s.aD+1) _).get k=_;rw[Tr.aR _ _ _ _ z,Tr.aR _ _ _ _ (by omega)];by_cases h1:k=s.aD
    .subst h1;rw[bO (by omega),bB rfl,bB rfl];rfl
    .rw[bO h1,bO h1,bO h1];rfl
   have hle:nh g ((g.era s.aD 0 a).ig (s.aD+1) A):=q.trans ⟨λ_ _ h=>h,r2,λ_ h=>h⟩
   let ⟨g',u,d⟩:=ih (g:=(g.era s.aD 0 a).ig (s.aD+1) A) (s:=(vT s (.kz n j t0) l).2) E u2 (λy hy b B o K=>by
    obtain K|⟨_,y',hy',hb'⟩:=r3 o b K
    .obtain K|⟨_,hb'⟩:=k3 o b K
     .grind
     .exact (um.1 f).2.2 a (by simp) y hy b hb' B
    .exact (um.1 f).2.2 y' (by simp[hy']) y hy b hb' B) (um.1 f).2.1 hn
   have KR:VB g s w (a::A) ((g.era s.aD 0 a).ig (s.aD+1) A) (vT s (.kz n j t0) l).2:=by
    refine⟨u2,hle,rfl,λk b K=>?_,rfl,rfl,by omega,rfl,rfl,λo hlo=>?_,rfl,λo hlo e'=>?_⟩
    .grind
    .show ((s.ob.set aM s.aD _).set aM (s.aD+1) _).get o=_;rw[Tr.aR _ _ _ _ z,bO (by omega),Tr.aR _ _ _ _ (by omega),bO (by omega)]
    .rw[Gh.jQ (by omega)]
     grind[Gh.cP]
   refine⟨g',by exact KR.trans u,by have:=d.1;simp only[iy,vT,bu,lQ]at this ⊢;rw[this],λj' F I q1 q2=>?_⟩;cases j' with|zero=>simp[iy,vT,bu,ML,gR]at q1 q2;subst q1;subst q2;have:aH ((g.era s.aD 0 a).ig (s.aD+1) A) w (.sh s.aD 0) (.slice a.a a.len a.cap):=.sh _ _ _ _ a.sz _ (by simp_all[Gh.fM]);exact this.le u.le|succ j'=>exact d.2 j' F I (by simpa[iy,vT,bu]using q1) (by simpa using q2)
theorem ug{g:Gh}{w:World}{τ:Ty}{x:den S.A τ}{v:Value}(h:dD g.bp w (enc S τ x) v):aH g w (eg S τ x) v:=by
 cases τ with
 |st n=>
  cases h with|agg _ vs a e b=>refine .agg _ _ (by simpa using a) λj t v h1 h2=>?_;simp at h1;obtain⟨c,d,rfl⟩:=h1;exact .sym _ _ (b j c v d h2)
 |_=>exact .sym _ _ h
def Eh(a:fy S){τ:Ty}{x:den S.A τ}(h:aH g w (eg S τ x) v):dD g.bp w (enc S τ x) v:=by
 cases τ with
 |st n=>
  cases h with
  |agg _ vs d e=>
   refine .agg _ _ (by simpa using d) (λc b=>?_) λj c v h1 h2=>?_
   .rw[a.cells]at b;exact iu _ _ (a.leaf n) c b
   .have:=e j (.sym c) v (by simp[h1]) h2;cases this with|sym _ _ h=>exact h
 |_=>cases h with|sym _ _ h=>exact h
def Nr:Bool->Nat->Value
 |true,b=>.map (Z b)|false,b=>.pointer (Z ⟨b,0,Y⟩)
def Xr{m:Bool}{x:O (V S)}(h:lkO m x=Z o):x=Z (lkV m o):=by unfold lkO at h;split at h<;>cases h<;>rfl
def aba(h:g.bP o=Z b):∀m,aH g w (low (lkV m o:V S)) (Nr m b)
 |true=>.mp o b h|false=>.ptr o 0 b h
def SG:∀{m},aH g w (low (lkV m o:V S)) v->∃b,g.bP o=Z b∧v=Nr m b
 |true,h=>by cases h with|mp _ b a=>exact⟨b,a,rfl⟩
 |false,h=>by cases h with|ptr _ _ b a=>exact⟨b,a,rfl⟩
inductive Ed(S:Sg)(I:Nat->Prop)(w:World)(nb:Option Nat):(k:Bk)->yb S.A k->Obj->List fh->Prop where
 |cells {cs:List Ck} {x:gH S.A cs} {cv:Array Value} {ty:TypeId} {al:List fh} (h:jV S I w cs x cv.toList al):Ed S I w nb (.cells cs) x (.cells cv ty (0,0)) al|map {kt vt:Ty} {l:List (den S.A kt×den S.A vt)} {ms:Array MapEntry} {c:Nat} (hl:l.length=ms.size)
   (h:∀(j:Nat)(p:den S.A kt×den S.A vt)(m:MapEntry),l[j]?=Z p->ms[j]?=Z m->dD I w (enc S kt p.1) m.key∧dD I w (enc S vt p.2) m.val):Ed S I w nb (.map kt vt) l (.map ms c) []
 |rI {x:List UInt8×Nat}:Ed S I w nb .rI x (.stringIter (cg x.1) x.2) []|link {m:Bool} {pre post:List Ck} {x:gH S.A pre} {y:gH S.A post} {cv:Array Value} {ty:TypeId} {al vC:List fh} {vp vq:List Value} {b:Nat} (hn:nb=Z b) (hv:cv.toList=vp++([Nr m b]++vq))
   (h1:jV S I w pre x vp al) (h2:jV S I w post y vq vC):Ed S I w nb (.link m pre post) (x,y) (.cells cv ty (0,0)) (al++vC)
def KJ:Bk->Nat->Value
 |.cells _,b=>.pointer (Z ⟨b,0,Y⟩)|.map _ _,b=>.map (Z b)|.rI,b=>.pointer (Z ⟨b,0,Y⟩)|.link _ _ _,b=>.pointer (Z ⟨b,0,Y⟩)
def KK{v:V S}(h:DN k v=Z o):v=UD k o:=by
 cases k with
 |cells cs=>
  cases v with
  |ptr a off=>cases off with|zero=>simp[DN,gR]at h;subst h;rfl|succ=>simp[DN]at h
  |_=>simp[DN]at h
 |map kt b=>cases v<;>simp[DN]at h;subst h;rfl
 |rI=>cases v<;>simp[DN]at h;subst h;rfl
 |link m pre post=>
  cases v with
  |ptr a off=>cases off with|zero=>simp[DN,gR]at h;subst h;rfl|succ=>simp[DN]at h
  |_=>simp[DN]at h
theorem Nw{g:Gh}{w:World}{k:Bk}{o b:Nat}(h:g.bP o=Z b):aH g w (low (UD k o:V S)) (KJ k b):=by cases k with|cells cs=>exact .ptr o 0 b h|map kt a=>exact .mp o b h|rI=>exact .ud o b h|link m pre post=>exact .ptr o 0 b h
def FT(h:aH g w (low (UD k o:V S)) v):∃b,g.bP o=Z b∧v=KJ k b:=by
 cases k with
 |cells cs=>cases h with|ptr _ _ b a=>exact⟨b,a,rfl⟩
 |map kt c=>cases h with|mp _ b a=>exact⟨b,a,rfl⟩
 |rI=>cases h with|ud _ b a=>exact⟨b,a,rfl⟩
 |link m pre post=>cases h with|ptr _ _ b a=>exact⟨b,a,rfl⟩
theorem oh{ob:u0 S}(h:jY ob=W):(dc ob).ov=J:=by cases ob<;>first|rfl|(simp[jY]at h)
def Am{e:Nat}{x:fh}(h:jY ob=W)(a:vH g w o e x (dc ob)):False:=by have:=a.ov;rw[oh h]at this;cases this
def GR{kt c a b:Ty}{l:L (den S.A kt×den S.A c)}{d:L (den S.A a×den S.A b)}(h:yK kt c a b l=Z d):∃(h1:kt=a)(h2:c=b),d=h1▸h2▸l:=by
 grind[yK]
def rR(hS:fy S)(hs:aV g (aC s) w)(hb:g.bP o=Z b){x:yb S.A k}(h:mA s k (s.ob.get o)=Z (x,fz,ow,nx)) :
  (∃ob,s.ob.get o=Z ob∧jY ob=W)∧∃I,w.heap[b]?=Z I∧
  (∀o∈fz,Live g (aC s) o)∧(∀o∈ow,s.fl<=o∧s.lo<=o∧o<s.aD∧∃ob,s.ob.get o=Z ob∧Q2 ob=W)∧∀(u:Gh)(s1:St)(q:L Nat),aV u s1 w->Ext s.fl g w u w->jG (aC s) s1 q->(∀o∈fz,o∈q)->(∀o∈ow,s1.ob.get o=(aC s).ob.get o)->
   ∀nb,(∀o',nx=Z o'->∃b',nb=Z b'∧u.bP o'=Z b')->∃al,Ed S u.bp w nb k x I al∧AL u al ow:=by
 cases f:s.ob.get o with
 |none=>rw[f]at h;cases k<;>simp[mA]at h
 |some ob=>
 rw[f]at h
 let ⟨I,hh,A⟩:=(hs.box o b hb).2.2 (dc ob) (by rw[aJ,f];rfl)
 cases k with
 |cells cs=>
  cases ob with
  |box vs=>
   refine⟨⟨_,rfl,rfl⟩,I,hh,?_⟩;cases A with
   |box _ y ty K A=>
   simp[mA]at h;split at h;rotate_left
   .cases h
   rename_i y1 a1 b1 UO;obtain⟨rfl,rfl,rfl,rfl⟩:=h
   let ⟨p1,p2,p3⟩:=gw hS hs UO (vals:=y.toList) ⟨by simpa using K,λj t v i r=>A j t v i (by simpa using r)⟩
   refine⟨p1,p2,λu s1 q a b c d e nb _=>?_⟩
   let ⟨al,i,r⟩:=p3 u s1 q a b c d e
   exact⟨al,.cells i,r⟩
  |_=>simp[mA]at h
 |link m pre post=>
  cases ob with
  |box vs=>
   refine⟨⟨_,rfl,rfl⟩,I,hh,?_⟩;cases A with
   |box _ y ty K A=>
   simp only[mA]at h;split at h;rotate_left
   .cases h
   rename_i b2 e1 e2 e3;obtain⟨rfl,rfl,rfl,rfl⟩:=h;rw[bR]at e1 e2 e3;have P:vs.length=y.toList.length:=by rw[<-eS];simpa using K
   have Q:∀j t v,vs[j]?=Z t->y.toList[j]?=Z v->aH g w (low t) v:=λj t v i r=>A j _ v (by rw[e9,lC,i];rfl) (by simpa using r);have hpre:PW (aH g w) (bu (vs.take pre.length)) (y.toList.take pre.length):=by
    refine⟨by rw[eS];simp[P],λj t v i r=>?_⟩;rw[e9,lC,fV]at i;obtain⟨t',i,rfl⟩:=i;rw[T5]at i r;split at i
    .rename_i hj;rw[bB hj]at r;exact Q j t' v i r
    .cases i
   have R:PW (aH g w) (bu (vs.drop (Ns pre.length))) (y.toList.drop (Ns pre.length)):=by refine⟨by rw[eS];simp[P],λj t v i r=>?_⟩;rw[e9,lC,fV]at i;obtain⟨t',i,rfl⟩:=i;rw[M5]at i r;exact Q _ t' v i r
   have e2:=Xr e2;rw[ku]at e2;have hlt:pre.length<y.toList.length:=by rw[<-P];exact(T9.1 e2).1
   have E:=Q pre.length _ _ e2 (jr hlt);generalize hvm:y.toList[pre.length]=vm at E;obtain⟨b2,pQ,rfl⟩:=SG E;have B:y.toList=y.toList.take pre.length++([Nr m b2]++y.toList.drop (Ns pre.length)):=by have h1:=(Wv pre.length y.toList).symm;rw[aaG hlt,hvm]at h1;simpa using h1
   let ⟨p1,p2,p3⟩:=gw hS hs e1 hpre
   let ⟨q1,q2,q3⟩:=gw hS hs e3 R
   refine⟨λo f=>(eZ.1 f).elim (p1 o) (q1 o),λo f=>(eZ.1 f).elim (p2 o) (q2 o),λu s1 q C he hf F z nb hnb=>?_⟩
   let ⟨DA,i,r⟩:=p3 u s1 q C he hf (λo f=>F o (fU _ f)) (λo f=>z o (fU _ f))
   let ⟨Br,k3,k4⟩:=q3 u s1 q C he hf (λo f=>F o (eY _ f)) (λo f=>z o (eY _ f))
   let ⟨b',DP,Qr⟩:=hnb _ rfl
   have:b'=b2:=ke (Qr.symm.trans (he.bP _ _ pQ));subst this;exact⟨_,.link DP B i k3,r.append k4⟩
  |_=>simp[mA]at h
 |map kt vt=>
  cases ob with
  |map k v l=>
   simp[mA]at h;split at h
   .rename_i K;obtain⟨rfl,rfl,hh'⟩:=GR K;cases hh';obtain⟨rfl,rfl,rfl,rfl⟩:=h;refine⟨⟨_,rfl,rfl⟩,I,hh,λo f=>(by cases f),λo f=>(by cases f),λu s1 q C he hf _ _ nb _=>⟨[],?_,.nil⟩⟩;cases A with
    |map _ ms c K A=>
    refine .map (by simpa using K) λj p m h1 h2=>?_;obtain⟨i,r⟩:=A j _ m (by rw[lC,h1];rfl) h2;exact⟨Eh hS (i.ext he hs.bp),Eh hS (r.ext he hs.bp)⟩
   .cases h
  |_=>simp[mA]at h
 |rI=>
  cases ob with
  |rI bs n=>obtain⟨rfl,rfl,rfl,rfl⟩:=h;refine⟨⟨_,rfl,rfl⟩,I,hh,λo f=>(by cases f),λo f=>(by cases f),λu s1 q C he hf _ _ nb _=>⟨[],?_,.nil⟩⟩;cases A;exact .rI (x:=(bs,n))
  |_=>simp[mA]at h
theorem Ed.iL{I:Nat->Prop}{w:World}{c:O Nat}{k:Bk}{x:yb S.A k}{h:Obj}{al:L fh}(d:Ed S I w c k x h al):∀a∈al,∀b,a.at b->¬I b:=by cases d with|cells h=>exact h.iL|map=>simp_all|rI=>simp_all|link _ _ h1 h2=>intro a e;exact(eZ.1 e).elim (h1.iL a) (h2.iL a)
theorem Eg(k:Bk)(s:bg S)(nx:O Nat)(x:yb S.A k):s.aD<=(lJ s nx k x).2.aD:=by cases k with|cells cs=>exact od cs s x|map kt a=>exact eR _|rI=>exact eR _|link m pre post=>exact gD (od pre s x.1) (od post _ x.2)
def pZ{x:yb S.A k}{h:Obj}{Q:O Nat}(C:Ed S g.bp w Q k x h al)(E:∀R,Q=Z R->∃r,nx=Z r∧g.bP r=Z R)(hs:aV g (aC s) w)(u:∀a∈al,∀b,a.at b->∀o,¬bF g o b)(z:xy al)
  (hn:(lJ s nx k x).2.aD<=bI):∃g',VB g s w al g' (lJ s nx k x).2∧gX g' w (dc (lJ s nx k x).1) h:=by
 cases C with
 |cells C=>
  let ⟨g',hu,A⟩:=nE C hs u z hn
  exact⟨g',hu,.box _ _ _ (by simpa using A.1) λj t v n q=>A.2 j t v n (by simpa using q)⟩
 | @map kt vt l ms c hl C=>
  refine⟨g,VB.refl hs,.map _ _ _ (by simpa using hl) λj t m h1 h2=>?_⟩;simp only[lC,fV]at h1;obtain⟨p,hp,rfl⟩:=h1
  grind[ug]
 |rI=>exact⟨g,VB.refl hs,.rI _ _⟩| @link m pre post x y cv ty al vC vp vq b hb hv h1 h2=>
  obtain⟨r,rfl,F⟩:=E b hb;have e:=um.1 z;have I:(iy s pre x).2.aD<=bI:=gD (od post _ y) hn
  let ⟨g1,d,B⟩:=nE h1 hs (λa ha=>u a (fU _ ha)) e.1 I
  let ⟨K,i,P⟩:=nE (s:=(iy s pre x).2) (d.bp▸h2) d.rel (λa ha b hb o hO=>by
    obtain hO|⟨_,a2,ha2,pQ⟩:=d.own o b hO
    .grind
    grind) e.2.1 hn
  refine⟨K,d.trans i,?_⟩;have hmid:aH K w (low (lkV m r:V S)) (Nr m b):=aba (by rw[i.bP,d.bP];exact F) m;have f:PW (aH K w) (bu ((iy s pre x).1++(WW m (Z r)++(iy (iy s pre x).2 post y).1))) cv.toList:=by
   rw[hv,kB,kB];exact PW.append ⟨B.1,λj t v n q=>(B.2 j t v n q).le i.le⟩ (PW.append ⟨rfl,λj t v n q=>by
    grind[bu,WW]⟩ P)
  exact .box _ _ _ (by simpa using f.1) λj t v n q=>f.2 j t v n (by simpa using q)
end
section
def Tr.rX{α:Type}:∀(n:Nat)(t:Tr α)(k j:Nat),k+1<2 ^ n->(Tr.del n t k).get j=if j=k then Y else t.get j
 |0,t,k,j,h=>by simp at h
 |n+1,.nil,k,j,h=>by have:Tr.del (n+1) (.nil:Tr α) k=.nil:=rfl;rw[this,Tr.get_nil];split<;>rfl
 |n+1,.node v l r,0,j,h=>by have:Tr.del (n+1) (.node v l r) 0=.node Y l r:=rfl;cases j with|zero=>rfl|succ j=>rfl
 |n+1,.node v l r,k+1,j,h=>by
  have b:k/2+1<2 ^ n:=by omega
  have c:Tr.del (n+1) (.node v l r) (k+1)=if k%2=0 then .node v (Tr.del n l (k/2)) r else .node v l (Tr.del n r (k/2)):=by
   simp[Tr.del];by_cases h2:k%2=0
   .have:Nq (Nat.mod k 2) 0=W:=by show Nq (k%2) 0=W;rw[h2];rfl
    simp[this,h2];rfl
   .have:Nq (Nat.mod k 2) 0=J:=by
     show Nq (k%2) 0=J;have:k%2=1:=by omega
     rw[this];rfl
    simp[this,h2];rfl
  rw[c];cases j with
  |zero=>split<;>simp[Tr.jd]
  |succ j=>
   by_cases d:k%2=0
   .rw[bB d,Tr.dA,Tr.dA];by_cases a:j%2=0
    .rw[bB a,bB a,Tr.rX n _ _ _ b]
     grind
    grind
   .rw[bO d,Tr.dA,Tr.dA];by_cases a:j%2=0
    .rw[bB a,bB a,bO (by omega)]
    .rw[bO a,bO a,Tr.rX n _ _ _ b]
     grind
def Tr.oD{α:Type}:∀(bs:L Nat)(t:Tr α)(j:Nat),(∀b∈bs,b<bI)->(bs.foldl (λt o=>t.del aM o) t).get j=if j∈bs then Y else t.get j
 |[],t,j,_=>by simp
 |b::bs,t,j,h=>by
  rw[MX,Tr.oD bs _ j (λc a=>h c (by simp[a])),Tr.rX _ _ _ _ (by have:=h b (by simp);unfold aM;unfold bI at this;omega)];by_cases h1:j∈bs
  .simp[h1]
  .by_cases h2:j=b<;>simp[h1,h2]
def Tr.oA{α:Type}(f:α->α):∀(t:Tr α)(k:Nat),(t.mapA f).get k=(t.get k).map f
 |.nil,k=>by rfl
 |.node v l r,0=>by have:(Tr.node v l r).mapA f=.node (match v with|some x=>Z (f x)|none=>Y) (l.mapA f) (r.mapA f):=rfl;rw[this,Tr.jd,Tr.jd];cases v<;>rfl
 |.node v l r,k+1=>by have:(Tr.node v l r).mapA f=.node (match v with|some x=>Z (f x)|none=>Y) (l.mapA f) (r.mapA f):=rfl;rw[this,Tr.dA,Tr.dA,Tr.oA f l,Tr.oA f r];split<;>rfl
theorem Tr.qN{α:Type}(p:α->Bool):∀(t:Tr α)(k:Nat)(x:α),t.get k=Z x->p x=W->k∈t.jT p
 |.nil,k,x,h,_=>by cases h
 |.node v l r,0,x,h,a=>by
  grind[Tr.jd,Tr.jT]
 |.node v l r,k+1,x,h,a=>by
  rw[Tr.dA]at h;simp only[Tr.jT,eZ,zc];by_cases b:k%2=0
  .rw[bB b]at h;exact .inr (.inl ⟨k/2,Tr.qN p l _ x h a,by grind⟩)
  .rw[bO b]at h;exact .inr (.inr ⟨k/2,Tr.qN p r _ x h a,by grind⟩)
theorem Tr.oC{α:Type}(p:α->Bool):∀(t:Tr α)(k:Nat),(t.keep p).get k=(t.get k).filter p
 |.nil,k=>by rfl
 |.node v l r,0=>by
  have:(Tr.node v l r).keep p=.node (match v with|some x=>bif p x then Z x else Y|none=>Y) (l.keep p) (r.keep p):=rfl
  grind[Tr.jd]
 |.node v l r,k+1=>by have:(Tr.node v l r).keep p=.node (match v with|some x=>bif p x then Z x else Y|none=>Y) (l.keep p) (r.keep p):=rfl;rw[this,Tr.dA,Tr.dA,Tr.oC p l,Tr.oC p r];split<;>rfl
mutual
theorem kT(os:L Nat):∀v:V S,dn os (low v)=iT os v
 |.ty t x=>by
  have:∀l:L D,iM os (l.map .sym)=J:=by
   intro l
   induction l with|nil=>rfl|cons d l e=>simp[iM,dn,e]
  cases t<;>simp[low,eg,iT,dn,this]
 |.kb _=>rfl|.kn _ _=>rfl|.dat _=>rfl|.ptr _ _=>rfl|.mc _ _ _=>rfl|.l9 _ _ _ _=>rfl|.sh _ _=>rfl|.emp=>rfl|.kM _ _ _=>rfl|.fn _ a b=>by simp[low,iT,dn,qK os a,qK os b]
 |.di _ v=>by simp[low,iT,dn,kT os v]
 |.agg c=>by simp[low,iT,dn,qK os c]
 |.gT c=>by simp[low,iT,dn,qK os c]
 |.gd _ v=>by simp[low,iT,dn,kT os v]
 |.mp _=>rfl|.rJ _=>rfl|.ud _=>rfl|.ub _=>rfl|.sy _ _ _ _=>rfl|.pU _ _ _=>rfl
theorem qK(os:L Nat):∀l:L (V S),iM os (bu l)=oO os l
 |[]=>rfl|v::l=>by simp[bu,iM,oO,kT os v,qK os l]
end
def mB:∀t:T,dn [] t=J:=by
 intro t
 induction t using T.rec (motive_2:=λl=>iM [] l=J)with|fn f a b d g=>simp[dn,d,g]|di t v e=>simp[dn,e]|agg i e=>simp[dn,e]|gT i e=>simp[dn,e]|gd c v e=>simp[dn,e]|nil=>rfl|cons a l d h=>simp[iM,d,h]|_=>simp[dn]
structure oK(lo fl:Nat)(g:Gh)(w:World)(g':Gh)(w':World):Prop where
 bP:∀o b,g.bP o=Z b->g'.bP o=Z b
 arr:∀o e x,o<lo->g.arr o e=Z x->g'.arr o e=Z x
 bp:∀b,g.bp b->g'.bp b
 size:w.heap.size<=w'.heap.size
 heap:∀b,b<w.heap.size->(∀o,fl<=o->¬bF g o b)->w'.heap[b]?=w.heap[b]?
 own:∀o b,fl<=o->bF g' o b->(∃o',fl<=o'∧bF g o' b)∨w.heap.size<=b
 oz:∀b,g'.bp b->g.bp b∨w.heap.size<=b∨∃o,fl<=o∧bF g o b
 os:w'.os=w.os
 output:w'.output=w.output
theorem oK.refl(lo fl:Nat)(g:Gh)(w:World):oK lo fl g w g w:=
 ⟨λ_ _ h=>h,λ_ _ _ _ h=>h,λ_ h=>h,eR _,λ_ _ _=>rfl,λo _ a h=>.inl ⟨o,a,h⟩,λ_ h=>.inl h,rfl,rfl⟩
def oK.trans{lo fl:Nat}{g g' i:Gh}{w w' j:World}(h:oK lo fl g w g' w')(k:oK lo fl g' w' i j):oK lo fl g w i j where
 bP o b e:=k.bP o b (h.bP o b e)
 arr o e x n p:=k.arr o e x n (h.arr o e x n p)
 bp b e:=k.bp b (h.bp b e)
 size:=gD h.size k.size
 heap b c q:=by
  rw[k.heap b (iS c h.size) (λo l a=>?_),h.heap b c q];obtain⟨m,d,f⟩|a:=h.own o b l a
  .grind
  .omega
 own o b l a:=by
  obtain⟨m,d,f⟩|a:=k.own o b l a
  .exact h.own m b d f
  .exact .inr (gD h.size a)
 oz b c:=by
  obtain c|c|⟨o,l,a⟩:=k.oz b c
  .exact h.oz b c
  .exact .inr (.inl (gD h.size c))
  .obtain ⟨m,d,f⟩|a:=h.own o b l a
   .grind
   omega
 os:=k.os.trans h.os
 output:=k.output.trans h.output
variable {fl:Nat}{g g':Gh}{w w':World}{s:bg S}{k:Bk}{nx:Option Nat}
def Ext.H7(lo:Nat)(h:Ext fl g w g' w'):oK lo fl g w g' w':=
 ⟨λo b e=>h.bP o b e,λo e x _ k=>h.arr o e x k,h.bp,h.size,h.heap,λo b a c=>(h.own o b c).imp (λh=>⟨o,a,h⟩) id,h.oz,h.os,h.output⟩
structure cO(ow:List Nat)(s:bg S)(g:Gh)(w:World)(s':bg S)(g':Gh)(w':World):Prop where
 rel:aV g' (aC s') w'
 ext:oK s.lo s.fl g w g' w'
 fl:s'.fl=s.fl
 lo:s'.lo=s.lo
 aD:s.aD<=s'.aD
 ua:∀o∈s.wr,o∈s'.wr
 same:∀o,o<s.aD->o∉s'.wr->s'.ob.get o=s.ob.get o
 tr:∀t v,aH g w t v->dn ow t=J->aH g' w' t v
 oww:∀o∈ow,o∈s'.wr
 GJ:∀o∈s.dr,o∈s'.dr
 owd:∀o∈ow,o∈s'.dr
inductive rE(S:Sg)(I:Nat->Prop)(w:World):(ps:List Pk)->gp S.A ps->List Value->List fh->List Nat->Prop where
 |nil:rE S I w [] () [] [] []|one {c:Ck} {ps:List Pk} {x:den S.A c.ty} {h:gp S.A ps} {v:Value} {vs:List Value} {al vC:List fh} {bl:List Nat} (h1:jV S I w [c] (x,()) [v] al) (h2:rE S I w ps h vs vC bl) :
   rE S I w (.one c::ps) (x,h) (v::vs) (al++vC) bl
 |box {k:Bk} {ps:List Pk} {x:yb S.A k} {h:gp S.A ps} {b:Nat} {hx:Obj} {vs:List Value} {al vC:List fh} {bl:List Nat} (hh:w.heap[b]?=Z hx)
   (h1:Ed S I w (fK bl) k x hx al) (h2:rE S I w ps h vs vC bl):rE S I w (.box k::ps) (x,h) (KJ k b::vs) (al++vC) (b::bl)
 |hid {k:Bk} {ps:List Pk} {x:yb S.A k} {h:gp S.A ps} {b:Nat} {hx:Obj} {vs:List Value} {al vC:List fh} {bl:List Nat} (hh:w.heap[b]?=Z hx)
   (h1:Ed S I w (fK bl) k x hx al) (h2:rE S I w ps h vs vC bl):rE S I w (.hid k::ps) (x,h) vs (al++vC) (b::bl)
inductive Ee(S:Sg)(I:Nat->Prop)(w:World):(ps:List Pk)->iE S.A ps->List Nat->List fh->Prop where
 |nil:Ee S I w [] () [] []|one {c:Ck} {ps:List Pk} {r:iE S.A ps} {bl:List Nat} {al:List fh} (h:Ee S I w ps r bl al):Ee S I w (.one c::ps) r bl al|box {k:Bk} {ps:List Pk} {x:yb S.A k} {r:iE S.A ps} {b:Nat} {hx:Obj} {bl:List Nat} {al vC:List fh} (hh:w.heap[b]?=Z hx)
   (h1:Ed S I w (fK bl) k x hx al) (h2:Ee S I w ps r bl vC):Ee S I w (.box k::ps) (x,r) (b::bl) (al++vC)
 |hid {k:Bk} {ps:List Pk} {x:yb S.A k} {r:iE S.A ps} {b:Nat} {hx:Obj} {bl:List Nat} {al vC:List fh} (hh:w.heap[b]?=Z hx)
   (h1:Ed S I w (fK bl) k x hx al) (h2:Ee S I w ps r bl vC):Ee S I w (.hid k::ps) (x,r) (b::bl) (al++vC)
def valOf:L Value->Value
 |[v]=>v|l=>.tuple l.toArray
def EL(S:Sg)(I:Nat->Prop)(w:World)(ps:L Pk)(f:L Ck)(r:gH S.A f×iE S.A ps)(al:L fh)(bl:L Nat)(v:Value)(w':World):Prop:=∃(e:Nat->Prop)(vs:L Value)(c d:L fh),(∀b,I b->e b)∧(∀b,e b->I b∨w.heap.size<=b∨∃a∈al,a.at b)∧(∀b,e b->b<w'.heap.size)∧w.heap.size<=w'.heap.size∧
   (∀b,b<w.heap.size->b∉bl->(∀a∈al,¬a.at b)->w'.heap[b]?=w.heap[b]?)∧w'.os=w.os∧w'.output=w.output∧v=valOf vs∧
   Ee S e w' ps r.2 bl c∧jV S e w' f r.1 vs d∧xy (c++d)∧(∀a∈c++d,∀b,a.at b->(∃a'∈al,a'.at b)∨w.heap.size<=b)∧(∀b∈bl,¬e b∧∀a∈c++d,¬a.at b)
def xV(S:Sg)(I:Nat->Prop)(w:World)(ps:L Pk)(b:L Ck)(r:Rx (gH S.A b×iE S.A ps) (den S.A S.pt×iE S.A ps))(al:L fh)(bl:L Nat):Ending->World->Prop
 |.returned v,w'=>match r with
  |.ok r=>EL S I w ps b r al bl v w'|.iJ _=>False
 |.panicked c,w'=>match r with
  |.ok _=>False|.iJ p=>∃v,c=[{v,recovered:=J}]∧EL S I w ps [.dat S.pt] ((p.1,()),p.2) al bl v w'
 |.outgrown,_=>False
def bC(P:Program)(f:FuncId)(c:lI S):Prop:=
 mo P f∧∀x r,c.F x=Z r->∀(I:Nat->Prop)(w:World)(vs:Array Value)(al:L fh)(bl:L Nat),rE S I w c.ps x vs.toList al bl->(∀b,I b->b<w.heap.size)->xy al->bl.Nodup->
  (∀b∈bl,b<w.heap.size∧¬I b∧∀a∈al,¬a.at b)->Calls P f vs w (xV S I w c.ps c.rs (RT.res c.pn r) al bl)
def An(hs:aV g (aC s) w){o b:Nat}(j:g.bP o=Z b){x:yb S.A k}{fz ow:L Nat}(h:mA s k (s.ob.get o)=Z (x,fz,ow,nx)) :
  (∀a,nx=Z a->∃l,g.bP a=Z l)∧∀a,nx=Z a->∃m pre post,k=.link m pre post:=by
 cases e:s.ob.get o with
 |none=>rw[e]at h;cases k<;>simp[mA]at h
 |some ob=>
 rw[e]at h
 let ⟨t,u,f⟩:=(hs.box o b j).2.2 (dc ob) (by rw[aJ,e];rfl)
 cases k with
 |link m pre post=>
  refine⟨λa n=>?_,λ_ _=>⟨m,pre,post,rfl⟩⟩;cases ob with
  |box v=>
   cases f with
   |box _ p ty y f=>
   simp only[mA]at h;split at h;rotate_left
   .cases h
   rename_i q z d A;obtain⟨_,_,_,rfl⟩:=h;have d:=Xr d;rw[ku]at d;have i:cE pre<p.size:=by grind[eS]
   have c:=f (cE pre) _ _ (by rw[e9,lC,d];rfl) (uq i)
   let ⟨q,r,_⟩:=SG c
   grind
  |_=>simp[mA]at h
 |cells B=>
  cases ob<;>simp only[mA]at h<;>try(cases h;done)
  grind
 |map kt C=>
  cases ob<;>simp only[mA]at h<;>try(cases h;done)
  grind
 |rI=>
  cases ob<;>simp only[mA]at h<;>try(cases h;done)
  grind
def CW{i:Gh}{ps:L Pk}{l:L (V S)}{h:gp S.A ps}{a b bs bl:L Nat}(n:FQ k ps=W)(g:∀c,nx=Z c->∃m pre post,k=.link m pre post)(e:eM s ps l nx=Z (h,a,b,bs))(d:PW (λo b=>i.bP o=Z b) bs bl) :
  ∀c,nx=Z c->∃f,fK bl=Z f∧i.bP c=Z f:=by
 intro c j;obtain⟨m,pre,post,rfl⟩:=g c j;subst j
 match ps,n with
 |.hid p::ps,_=>
  simp[eM]at e;obtain⟨_,e⟩|⟨_,e⟩:=af e
  rotate_left
  .cases e
  split at e;rotate_left
  .cases e
  split at e;rotate_left
  .cases e
  simp at e;obtain⟨_,_,_,rfl⟩:=e
  match bl,d with
  |f::bl,d=>exact⟨f,rfl,d.2 0 _ _ rfl rfl⟩|[],d=>exact absurd d.1 (by simp)
def kS(hS:fy S){g:Gh}{w:World}{s:bg S}(hs:aV g (aC s) w):∀{ps:L Pk}{l:L (V S)}{vals:L Value}{x:gp S.A ps}{fz ow bs:L Nat}{B:O Nat},eM s ps l B=Z (x,fz,ow,bs)->PW (aH g w) (bu l) vals->(∀o,B=Z o->∃b,g.bP o=Z b)->
  (∀o∈fz,Live g (aC s) o)∧(∀o∈ow,s.fl<=o∧s.lo<=o∧o<s.aD∧∃ob,s.ob.get o=Z ob∧Q2 ob=W)∧(∀o∈bs,s.fl<=o∧∃ob,s.ob.get o=Z ob∧jY ob=W)∧∀(r:Gh)(s1:St)(i:L Nat),aV r s1 w->Ext s.fl g w r w->jG (aC s) s1 i->(∀o∈fz,o∈i)->(∀o∈ow,s1.ob.get o=(aC s).ob.get o)->
   ∃al bl,rE S r.bp w ps x vals al bl∧AL r al ow∧PW (λo b=>r.bP o=Z b) bs bl
 |[],[],vals,x,fz,ow,bs,_,h,m=>by intro _;obtain⟨_,rfl,rfl,rfl⟩:=h;have:vals=[]:=Fm (by have:=m.1;simpa[bu]using this.symm);subst this;exact⟨λo d=>(by cases d),λo d=>(by cases d),λo d=>(by cases d),λ_ _ _ _ _ _ _ _=>⟨[],[],.nil,.nil,rfl,λj a b h=>by simp at h⟩⟩
 |.one c::ps,v::l,vals,x,fz,ow,bs,_,h,m=>by
  intro _;simp[eM]at h;split at h
  .rename_i x1 a1 b1 h1 a2 b2 bs2 C E;simp at h;obtain⟨rfl,rfl,rfl,rfl⟩:=h
   match vals,m with
   |val::vals,m=>
    have F:aH g w (low v) val:=m.2 0 _ _ rfl rfl;have I:PW (aH g w) (bu l) vals:=⟨by have:=m.1;simpa[bu]using this,λj a b u y=>m.2 (j+1) a b (by simpa[bu]using u) (by simpa using y)⟩
    let ⟨p1,p2,p3⟩:=CY hS hs C F
    let ⟨q1,q2,q4,q3⟩:=kS hS hs E I (λo d=>by cases d)
    refine⟨λo d=>(eZ.1 d).elim (p1 o) (q1 o),λo d=>(eZ.1 d).elim (p2 o) (q2 o),q4,λr s1 i n t A f e=>?_⟩
    let ⟨DA,u,y⟩:=p3 r s1 i n t A (λo d=>f o (fU _ d)) (λo d=>e o (fU _ d))
    let ⟨Br,bl,k3,k4,z⟩:=q3 r s1 i n t A (λo d=>f o (eY _ d)) (λo d=>e o (eY _ d))
    exact⟨_,bl,.one u k3,y.append k4,z⟩
   |[],m=>exact absurd m.1 (by simp[bu])
  .cases h
 |.box k::ps,v::l,vals,x,fz,ow,bs,B,h,m=>by
  intro _;simp[eM]at h;split at h
  .rename_i o hkp;obtain rfl:=KK hkp;obtain⟨hb,p⟩|⟨_,p⟩:=af h
   .clear h;rw[ze]at hb;split at p;rotate_left
    .cases p
    rename_i x1 a1 b1 nx C;split at p;rotate_left
    .cases p
    rename_i h1 a2 b2 bs2 E;simp at p;obtain⟨rfl,rfl,rfl,rfl⟩:=p
    match vals,m with
    |val::vals,m=>
     have F:aH g w (low (UD k o)) val:=m.2 0 _ _ rfl rfl;have I:PW (aH g w) (bu l) vals:=⟨by have:=m.1;simpa[bu]using this,λj a b u y=>m.2 (j+1) a b (by simpa[bu]using u) (by simpa using y)⟩;obtain⟨b,q,rfl⟩:=FT F
     let ⟨p0,hx,hh,p1,p2,p3⟩:=rR hS hs q C
     let ⟨K,P⟩:=An hs q C
     let ⟨q1,q2,q4,q3⟩:=kS hS hs E I K
     refine⟨λo d=>(eZ.1 d).elim (p1 o) (q1 o),λo d=>(eZ.1 d).elim (p2 o) (q2 o),λk hk=>?_,λr s1 i n t A f e=>?_⟩
     .obtain rfl|hk:=ga.1 hk
      .simp_all
      grind
     .let ⟨Br,bl,k3,k4,z⟩:=q3 r s1 i n t A (λo d=>f o (eY _ d)) (λo d=>e o (eY _ d))
      let ⟨DA,u,y⟩:=p3 r s1 i n t A (λo d=>f o (fU _ d)) (λo d=>e o (fU _ d)) (fK bl) (CW hb.2 P E z)
      refine⟨_,b::bl,.box hh u k3,y.append k4,by simp[z.1],λj a c Q R=>?_⟩;cases j with|zero=>simp at Q R;subst Q;subst R;exact t.bP _ _ q|succ j=>exact z.2 j a c (by simpa using Q) (by simpa using R)
    |[],m=>exact absurd m.1 (by simp[bu])
   .cases p
  .cases h
 |.hid k::ps,l,vals,x,fz,ow,bs,Z o,h,m=>by
  intro hp0;obtain⟨hb,p⟩|⟨_,p⟩:=af h
  rotate_left
  .cases p
  clear h;rw[ze]at hb;split at p;rotate_left
  .cases p
  rename_i C;split at p;rotate_left
  .cases p
  rename_i E;obtain⟨rfl,rfl,rfl,rfl⟩:=p
  let ⟨b,q⟩:=hp0 o rfl
  let ⟨p0,hx,hh,p1,p2,p3⟩:=rR hS hs q C
  let ⟨K,P⟩:=An hs q C
  let ⟨q1,q2,q4,q3⟩:=kS hS hs E m K
  refine⟨λo d=>(eZ.1 d).elim (p1 o) (q1 o),λo d=>(eZ.1 d).elim (p2 o) (q2 o),λk hk=>?_,λr s1 i n t A f e=>?_⟩
  .obtain rfl|hk:=ga.1 hk
   .simp_all
   grind
  .let ⟨Br,bl,k3,k4,z⟩:=q3 r s1 i n t A (λo d=>f o (eY _ d)) (λo d=>e o (eY _ d))
   let ⟨DA,u,y⟩:=p3 r s1 i n t A (λo d=>f o (fU _ d)) (λo d=>e o (fU _ d)) (fK bl) (CW hb.2 P E z)
   refine⟨_,b::bl,.hid hh u k3,y.append k4,by simp[z.1],λj a c Q R=>?_⟩;cases j with|zero=>simp at Q R;subst Q;subst R;exact t.bP _ _ q|succ j=>exact z.2 j a c (by simpa using Q) (by simpa using R)
 |[],_::_,_,_,_,_,_,_,h,_=>by simp[eM]at h
 |.one _::_,[],_,_,_,_,_,_,h,_=>by simp[eM]at h
 |.box _::_,[],_,_,_,_,_,_,h,_=>by simp[eM]at h
 |.hid _::_,_,_,_,_,_,_,Y,h,_=>by simp[eM]at h
end
section
def FI{os:L Nat}:∀{l:L (V S)},oO os l=J->∀v∈l,iT os v=J
 |[],_,v,b=>by cases b
 |a::l,h,v,b=>by
  simp[oO,zd]at h;obtain rfl|b:=ga.1 b
  .exact h.1
  .exact FI h.2 v b
def FH{α:Type}{os:L Nat}:∀{l:L (α×V S)},KE os l=J->∀p∈l,iT os p.2=J
 |[],_,v,b=>by cases b
 |a::l,h,v,b=>by
  simp[KE,zd]at h;obtain rfl|b:=ga.1 b
  .exact h.1
  .exact FH h.2 v b
def Ew{p:V S->Bool}{f:V S->V S}(hf:∀v,p v=J->f v=v):∀{t:Tr (V S)},mU p t=J->t.mapA f=t
 |.nil,_=>rfl|.node v l r,h=>by
  simp[mU,zd]at h;simp only[Tr.mapA,Ew hf h.2.1,Ew hf h.2.2]
  grind
variable {os bl:List Nat}{g:Gh}{w:World}{s:bg S}{vs:List Value}{I:Nat->Prop}
def Ci{v:V S}(h:iT os v=J):rz os v=v:=by simp[rz,h,j9]
def QI{ob:u0 S}(h:Kz os ob=J):oa os ob=ob:=by
 cases ob with
 |box b=>simp[oa,u0.box.injEq];have:∀v∈b,rz os v=v:=λv c=>Ci (FI h v c);exact(Wq this).trans (List.map_id _)|HU kt l=>
  simp only[oa];have:∀p∈l,((p.1,rz os p.2):den S.A kt×V S)=p:=λp d=>by rw[Ci (FH h p d)]
  rw[(Wq this).trans (List.map_id _)]
 |lp l=>simp[oa,Ew (λv=>Ci) (show mU (iT os) l.fr.tm=J from h)]|lS n j l era m a hole=>have h:os.contains m=J:=h;simp only[oa,h,j9]|_=>rfl
theorem wO(os:L Nat)(v:V S):vD (dn os) (low v) (low (rz os v)):=by cases a:iT os v with|true=>exact .inr ⟨_,by simp[rz,a,iq];rfl⟩|false=>exact .inl ⟨by simp[rz,a,j9],by rw[kT];exact a⟩
theorem RN(os:L Nat)(t:Ty)(x:den S.A t):vD (dn os) (eg S t x) (eg S t x):=.inl ⟨rfl,kT (S:=S) os (.ty t x)⟩
def Lg(os:L Nat)(ob:u0 S):Zp os (dc ob) (dc (oa os ob)):=by
 cases ob with
 |box i=>
  refine⟨by simp[eS],λj t u h1 h2=>?_⟩;simp only[e9,lC,fV]at h1 h2;obtain⟨v,c,rfl⟩:=h1;obtain⟨g,⟨d,a,rfl⟩,rfl⟩:=h2
  grind[wO]
 |map kt o l=>
  refine⟨rfl,λj t u h1 h2=>?_⟩;rw[h1]at h2;cases h2;simp only[lC,fV]at h1;obtain⟨p,_,rfl⟩:=h1
  grind[RN]
 |HU kt l=>
  refine⟨by simp,λj t u h1 h2=>?_⟩;simp only[lC,fV]at h1 h2;obtain⟨v,c,rfl⟩:=h1;obtain⟨g,⟨d,a,rfl⟩,rfl⟩:=h2
  grind[RN,wO]
 |lp l=>refine⟨rfl,rfl,λk u h=>?_⟩;have b:((l.fr.tm.mapA (rz os)).map low).get k=Z u:=h;rw[Tr.get_map,Tr.oA,Px,fV]at b;obtain⟨v,c,rfl⟩:=b;exact⟨low v,by show(l.fr.tm.map low).get k=_;rw[Tr.get_map,c];rfl,wO os v⟩
 |arr=>rfl|lK=>rfl|rI=>rfl|zZ=>rfl|rws=>rfl|gone=>rfl|FG=>rfl|lS n j l era m f hole=>
  cases e:os.contains m with|true=>exact .inr (by simp only[oa,e,iq];rfl)|false=>exact .inl ⟨by simp only[oa,e,j9];rfl,e⟩
def Gp(os:L Nat)(s:bg S)(o:Nat):(forget os s).ob.get o=if os=[]then s.ob.get o else(s.ob.get o).map (oa os):=by cases os with|nil=>rfl|cons a os=>exact Tr.oA _ _ _
def NN(os:L Nat)(hs:aV g (aC s) w):aV (g.drop os) (aC (forget os s)) w:=by cases os with|nil=>exact hs|cons a os=>refine hs.drop rfl λo c h=>?_;rw[aJ,Gp,bO (by simp),Px,fV]at h;obtain⟨ob,b,rfl⟩:=h;exact⟨dc ob,by rw[aJ,b];rfl,Lg _ ob⟩
def NM(os:L Nat)(s:bg S)(o:Nat)(h:o∉(forget os s).wr):(forget os s).ob.get o=s.ob.get o:=by
 rw[Gp];split
 .rfl
 .cases c:s.ob.get o with
  |none=>rfl|some ob=>
   cases b:Kz os ob with
   |true=>
    exfalso;apply h;cases os with|nil=>simp_all|cons a os=>exact fU _ (Tr.qN _ _ _ _ c b)
   |false=>rw[jK,QI b]
def U6(os:L Nat)(s:bg S):(forget os s).fl=s.fl∧(forget os s).lo=s.lo∧(forget os s).aD=s.aD∧(forget os s).dr=s.dr∧∀o∈s.wr,o∈(forget os s).wr:=by cases os with|nil=>exact⟨rfl,rfl,rfl,rfl,λ_ h=>h⟩|cons a os=>exact⟨rfl,rfl,rfl,rfl,λo h=>eY _ h⟩
def eN:∀{os:L Nat}{s s':bg S},dR s os=Z s'->s'.fl=s.fl∧s'.lo=s.lo∧s'.aD=s.aD∧(∀o∈s.wr,o∈s'.wr)∧(∀o,o∉s'.wr->s'.ob.get o=s.ob.get o)∧(∀o,o∉os->s'.ob.get o=s.ob.get o)∧s'.dr=s.dr
 |[],s,s',h=>by simp[dR,gR]at h;subst h;exact⟨rfl,rfl,rfl,λ_ h=>h,λ_ _=>rfl,λ_ _=>rfl,rfl⟩
 |k::os,s,s',h=>by
  obtain⟨_,h⟩|⟨_,h⟩:=af h
  .split at h
   .let ⟨h1,h2,h3,h4,h5,h6,b⟩:=eN h
    refine⟨h1,h2,h3,λo a=>h4 o (ic _ a),λo a=>?_,λo a=>?_,b⟩
    .rw[h5 o a];exact Tr.dz _ _ _ _ _ (λe=>a (h4 o (by rw[e];exact eJ)))
    .rw[h6 o (λc=>a (ic _ c))];exact Tr.dz _ _ _ _ _ (λe=>a (by rw[e];exact eJ))
   .let ⟨h1,h2,h3,h4,h5,h6,b⟩:=eN h
    exact⟨h1,h2,h3,h4,h5,λo a=>h6 o (λc=>a (ic _ c)),b⟩
   .split at h
    .rename_i _ _ _ _ _;obtain⟨d,h⟩|⟨_,h⟩:=af h
     .simp only[fF,Fl,qE]at d
      let ⟨h1,h2,h3,h4,h5,h6,b⟩:=eN h
      refine⟨h1,h2,h3,λo a=>h4 o (ic _ (ic _ a)),λo a=>?_,λo a=>?_,b⟩
      .rw[h5 o a];show((s.ob.set aM _ _).set aM k _).get o=_;rw[Tr.dz _ _ _ _ _ (λe=>a (h4 o (by rw[e];exact eJ))),Tr.dz _ _ _ _ _ (λe=>a (h4 o (by rw[e];exact ic _ eJ)))]
      .rw[h6 o (λc=>a (ic _ c))];show((s.ob.set aM _ _).set aM k _).get o=_;rw[Tr.dz _ _ _ _ _ (λe=>a (by rw[e];exact eJ)),Tr.dz _ _ _ _ _ (λe=>a (by rw[e];exact ic _ d.1))]
     .cases h
    .cases h
   .let ⟨h1,h2,h3,h4,h5,h6,b⟩:=eN h
    exact⟨h1,h2,h3,h4,h5,λo a=>h6 o (λc=>a (ic _ c)),b⟩
   .let ⟨h1,h2,h3,h4,h5,h6,b⟩:=eN h
    exact⟨h1,h2,h3,h4,h5,λo a=>h6 o (λc=>a (ic _ c)),b⟩
   .cases h
  .cases h
structure arB(bs:List Nat)(g:Gh)(s:bg S)(w:World)(al:List fh)(g':Gh)(s':bg S):Prop where
 rel:aV g' (aC s') w
 le:nh g g'
 bp:g'.bp=g.bp
 own:∀k b,bF g' k b->bF g k b∨(s.aD<=k∧∃a∈al,a.at b)
 fl:s'.fl=s.fl
 lo:s'.lo=s.lo
 aD:s.aD<=s'.aD
 ua:∀o∈s.wr,o∈s'.wr
 wrb:∀o∈bs,o∈s'.wr
 dr:s'.dr=s.dr
 ob:∀o,o<s.aD->o∉bs->s'.ob.get o=s.ob.get o
 bP:g'.bP=g.bP
 arr:∀o,o<s.aD->∀e,g'.arr o e=g.arr o e
def tq:∀{ps:L Pk}{bs:L Nat}{r:iE S.A ps}{s s':bg S},mw s ps bs r=Z s'->s.aD<=s'.aD
 |[],[],r,s,s',h=>by simp_all[mw,gR,eR]
 |.one c::ps,bs,r,s,s',h=>tq (ps:=ps) (by simpa only[mw]using h)
 |.box a::ps,o::bs,r,s,s',h=>by
  simp only[mw]at h;have h1:=tq h
  grind[Nat.le_trans,Eg]
 |.hid a::ps,o::bs,r,s,s',h=>by
  simp only[mw]at h;have h1:=tq h
  grind[Nat.le_trans,Eg]
 |[],_::_,_,_,_,h=>by simp[mw]at h
 |.box _::_,[],_,_,_,h=>by simp[mw]at h
 |.hid _::_,[],_,_,_,h=>by simp[mw]at h
def AD{bs:L Nat}(h:PW (λo b=>g.bP o=Z b) bs bl):∀a,fK bl=Z a->∃c,fK bs=Z c∧g.bP c=Z a:=by
 intro a d
 match bl,bs,h with
 |b::bl,o::bs,h=>cases d;exact⟨o,rfl,h.2 0 _ _ rfl rfl⟩
 |[],_,_=>cases d
 |_::_,[],h=>exact absurd h.1 (by simp)
def M6:∀{ps:L Pk}{r:iE S.A ps}{bl:L Nat}{al:L fh}{bs:L Nat}{g:Gh}{w:World}{s R:bg S},Ee S g.bp w ps r bl al->aV g (aC s) w->PW (λo b=>g.bP o=Z b) bs bl->(∀o∈bs,∀e,g.arr o e=Y)->
  (∀a∈al,∀b,a.at b->∀o,¬bF g o b)->xy al->mw s ps bs r=Z R->R.aD<=bI->∃g',arB bs g s w al g' R:=by
 intro ps
 induction ps with
 |nil=>
  intro r bl al bs g w s R hb C i _ _ _ h _;cases hb;cases bs with|nil=>simp[mw,gR]at h;subst h;exact⟨g,C,nh.refl _,rfl,λ_ _ h=>.inl h,rfl,rfl,eR _,λ_ h=>h,λo ho=>(by cases ho),rfl,λ_ _ _=>rfl,rfl,λ_ _ _=>rfl⟩|cons o bs=>exact absurd i.1 (by simp)
 |cons p ps ih=>
  intro r bl al bs g w s R hb C i hna hfr hap h hn;cases hb with
  |one hb=>
   grind[mw]
  | @box v _ x r b hx bl al E hh h1 h2=>
   cases bs with
   |nil=>exact absurd i.1 (by simp)
   |cons o bs=>
    simp[mw]at h;have y:g.bP o=Z b:=i.2 0 _ _ rfl rfl;have n:=um.1 hap;have F:=tq h;have I:(lJ s (fK bs) v x).2.aD<=bI:=gD F hn
    let ⟨g1,d,z⟩:=pZ h1 (AD (bs:=bs) (bl:=bl) ⟨by simpa using i.1,λj a c t u=>i.2 (j+1) a c (by simpa using t) (by simpa using u)⟩) C (λa ha=>hfr a (fU _ ha)) n.1 I
    have K:o<s.aD:=C.lt y;have hk:=d.rel.tG (o:=o) (b:=b) (by rw[d.bP];exact y) hh z (λe=>by rw[d.arr o K];simp_all);have P:aV g1 (aC {(lJ s (fK bs) v x).2 with ob:=(lJ s (fK bs) v x).2.ob.set aM o (lJ s (fK bs) v x).1,wr:=o::(lJ s (fK bs) v x).2.wr}) w:=by rw[eF];exact hk
    let ⟨g2,l⟩:=ih (bl:=bl) (al:=E) (bs:=bs) (g:=g1) (d.bp▸h2) P ⟨by simpa using i.1,λj a c t u=>by rw[d.bP];exact i.2 (j+1) a c (by simpa using t) (by simpa using u)⟩
     (λm f e=>by
      have:m<s.aD:=by
       obtain⟨j,hj,rfl⟩:=rM f;have hj':j<bl.length:=by have:=i.1;grind
       exact C.lt (i.2 (j+1) bs[j] bl[j] (by simp) (by simp))
      rw[d.arr m this]
      simp_all)
     (λa ha B hb' k q=>by
      obtain q|⟨_,a2,ha2,pQ⟩:=d.own k B q
      .grind
      grind) n.2.1 h hn
    refine⟨g2,l.rel,d.le.trans l.le,l.bp.trans d.bp,λk B q=>?_,l.fl.trans d.fl,l.lo.trans d.lo,gD d.aD l.aD,λm f=>?_,λm f=>?_,l.dr.trans d.dr,λm A f=>?_,l.bP.trans d.bP,λm A e=>?_⟩
    .obtain q|⟨t,a,u,k3⟩:=l.own k B q
     .obtain q|⟨t,a,u,k3⟩:=d.own k B q
      .exact .inl q
      grind
     .exact .inr ⟨gD d.aD t,a,eY _ u,k3⟩
    .exact l.ua m (ic _ (by rw[d.wr];exact f))
    .obtain rfl|f:=ga.1 f
     .exact l.ua _ eJ
     .exact l.wrb m f
    .have Q:m≠o:=λe=>f (by simp_all);rw[l.ob m (iS A d.aD) (λhm=>f (ic _ hm))];rw[Tr.dz _ _ _ _ _ Q];exact d.ob m A
    .rw[l.arr m (iS A d.aD)];exact d.arr m A e
  | @hid v _ x r b hx bl al E hh h1 h2=>
   cases bs with
   |nil=>exact absurd i.1 (by simp)
   |cons o bs=>
    simp[mw]at h;have y:g.bP o=Z b:=i.2 0 _ _ rfl rfl;have n:=um.1 hap;have F:=tq h;have I:(lJ s (fK bs) v x).2.aD<=bI:=gD F hn
    let ⟨g1,d,z⟩:=pZ h1 (AD (bs:=bs) (bl:=bl) ⟨by simpa using i.1,λj a c t u=>i.2 (j+1) a c (by simpa using t) (by simpa using u)⟩) C (λa ha=>hfr a (fU _ ha)) n.1 I
    have K:o<s.aD:=C.lt y;have hk:=d.rel.tG (o:=o) (b:=b) (by rw[d.bP];exact y) hh z (λe=>by rw[d.arr o K];simp_all);have P:aV g1 (aC {(lJ s (fK bs) v x).2 with ob:=(lJ s (fK bs) v x).2.ob.set aM o (lJ s (fK bs) v x).1,wr:=o::(lJ s (fK bs) v x).2.wr}) w:=by rw[eF];exact hk
    let ⟨g2,l⟩:=ih (bl:=bl) (al:=E) (bs:=bs) (g:=g1) (d.bp▸h2) P ⟨by simpa using i.1,λj a c t u=>by rw[d.bP];exact i.2 (j+1) a c (by simpa using t) (by simpa using u)⟩
     (λm f e=>by
      have:m<s.aD:=by
       obtain⟨j,hj,rfl⟩:=rM f;have hj':j<bl.length:=by have:=i.1;grind
       exact C.lt (i.2 (j+1) bs[j] bl[j] (by simp) (by simp))
      rw[d.arr m this]
      simp_all)
     (λa ha B hb' k q=>by
      obtain q|⟨_,a2,ha2,pQ⟩:=d.own k B q
      .grind
      grind) n.2.1 h hn
    refine⟨g2,l.rel,d.le.trans l.le,l.bp.trans d.bp,λk B q=>?_,l.fl.trans d.fl,l.lo.trans d.lo,gD d.aD l.aD,λm f=>?_,λm f=>?_,l.dr.trans d.dr,λm A f=>?_,l.bP.trans d.bP,λm A e=>?_⟩
    .obtain q|⟨t,a,u,k3⟩:=l.own k B q
     .obtain q|⟨t,a,u,k3⟩:=d.own k B q
      .exact .inl q
      grind
     .exact .inr ⟨gD d.aD t,a,eY _ u,k3⟩
    .exact l.ua m (ic _ (by rw[d.wr];exact f))
    .obtain rfl|f:=ga.1 f
     .exact l.ua _ eJ
     .exact l.wrb m f
    .have Q:m≠o:=λe=>f (by simp_all);rw[l.ob m (iS A d.aD) (λhm=>f (ic _ hm))];rw[Tr.dz _ _ _ _ _ Q];exact d.ob m A
    .rw[l.arr m (iS A d.aD)];exact d.arr m A e
def z5{l:L (V S)}(h:PW (aH g w) (bu l) vs):aH g w (low (DL l)) (valOf vs):=by
 match l,vs,h with
 |[],[],_=>exact .gT _ _ rfl (λj t v h=>by grind)
 |[v],[x],h=>exact h.2 0 _ _ rfl rfl|v::c::l,x::d::vs,h=>exact .gT _ _ (by simpa using h.1) (λj t u a b=>h.2 j t u a (by simpa using b))
 |[],_::_,h=>exact absurd h.1 (by simp[bu])
 |_::_,[],h=>exact absurd h.1 (by simp[bu])
 |[_],_::_::_,h=>exact absurd h.1 (by simp[bu])
 |_::_::_,[_],h=>exact absurd h.1 (by simp[bu])
theorem rE.iL{I:Nat->Prop}{w:World}{ps:L Pk}{x:gp S.A ps}{vs:L Value}{al:L fh}{bl:L Nat}(h:rE S I w ps x vs al bl):∀a∈al,∀b,a.at b->¬I b:=by
 induction h with
 |nil=>simp_all|one h1 h2 e=>
  intro a c b d;obtain c|c:=eZ.1 c
  .exact h1.iL a c b d
  grind
 |box f h1 h2 e=>
  intro a c b d;obtain c|c:=eZ.1 c
  .exact h1.iL a c b d
  grind
 |hid f h1 h2 e=>
  intro a c b d;obtain c|c:=eZ.1 c
  .exact h1.iL a c b d
  grind
def eB{α β:Type}{x:O α}{f:α->O β}{r:β}(h:ah x f=Z r):∃a,x=Z a∧f a=Z r:=by
 unfold ah at h
 grind
def rE.aqT{ps:L Pk}{x:gp S.A ps}{al:L fh}(h:rE S I w ps x vs al bl):cA ps=W->al=[]∧bl=[]:=by
 induction h with
 |nil=>simp_all| @one c ps x h v vs al b bl h1 h2 d=>
  intro a;cases c with
  |own e=>simp[cA]at a|kz n j t=>simp[cA]at a|nil e=>simp[cA]at a|ptr t=>simp[cA]at a|dat t=>
   obtain⟨rfl,rfl⟩:=d (by simpa[cA]using a);cases h1 with
   |dat _ f=>
    cases f
    simp_all
 |box=>intro a;simp[cA]at a
 |hid=>intro a;simp[cA]at a
theorem CX{s:bg S}:∀{ps:L Pk}{l:L (V S)}{nx:O Nat}{x:gp S.A ps}{fz ow bs:L Nat},cA ps=W->eM s ps l nx=Z (x,fz,ow,bs)->ow=[]
 |[],[],_,x,fz,ow,bs,_,h=>by
  grind[eM]
 |.one (.dat t)::ps,v::l,_,x,fz,ow,bs,a,h=>by
  simp[eM]at h;split at h
  .rename_i b c;obtain⟨_,_,rfl,_⟩:=h;rw[CX (by simpa[cA]using a) c];simp[o3]at b
   grind
  .cases h
 |.one (.kz ..)::_,_,_,_,_,_,_,a,_=>by simp[cA]at a
 |.one (.nil _)::_,_,_,_,_,_,_,a,_=>by simp[cA]at a
 |.one (.ptr _)::_,_,_,_,_,_,_,a,_=>by simp[cA]at a
 |.one (.own _)::_,_,_,_,_,_,_,a,_=>by simp[cA]at a
 |.box _::_,_,_,_,_,_,_,a,_=>by simp[cA]at a
 |.hid _::_,_,_,_,_,_,_,a,_=>by simp[cA]at a
 |[],_::_,_,_,_,_,_,_,h=>by simp[eM]at h
 |.one _::_,[],_,_,_,_,_,_,h=>by simp[eM]at h
def xP{g:Gh}{I:Nat->Prop}{w w':World}:∀{cs:L Ck}{x:gH S.A cs}{vs:L Value}{al:L fh},lA cs=W->jV S I w cs x vs al->PW (aH g w') (bu (tN cs x)) vs
 |[],x,vs,al,_,h=>by cases h;exact⟨rfl,λj t v h=>by simp_all⟩
 |.dat t::cs,x,vs,al,a,h=>by
  cases h with
  | @dat _ _ y h v vs al b c=>
  simp[lA,fF]at a
  let ⟨d,e⟩:=xP (g:=g) (w':=w') a.2 c
  refine⟨by simp only[tN,bu,lQ];rw[d],λj f i q1 q2=>?_⟩;cases j with
  |zero=>
   simp[tN,bu,ML,gR]at q1 q2;subst q1;subst q2;have:dD g.bp w' (enc S t y) v:=by
    cases t with
    |int k=>cases b;exact .lit _
    |bool=>cases b;exact .lit _
    |str=>cases b;exact .lit _
    |_=>simp[Wf]at a
   exact qv this
  |succ j=>grind[tN,bu]
 |.own _::_,_,_,_,a,_=>by simp[lA]at a
 |.kz ..::_,_,_,_,a,_=>by simp[lA]at a
 |.nil _::_,_,_,_,a,_=>by simp[lA]at a
 |.ptr _::_,_,_,_,a,_=>by simp[lA]at a
def CR(Q:fy S){g:Gh}{w:World}{s:bg S}(hs:aV g (aC s) w):∀{ts:L Ty}{l:L (V S)}{vals:L Value}{x:l7 S.A ts}{fz:L Nat},Ak s ts l=Z (x,fz)->PW (aH g w) (bu l) vals->
  (∀o∈fz,Live g (aC s) o)∧∀(k:Gh)(s1:St)(e:L Nat),aV k s1 w->Ext s.fl g w k w->jG (aC s) s1 e->(∀o∈fz,o∈e)->∃B:Nat->Prop,(∀b,B b->b<w.heap.size)∧∀I:Nat->Prop,(∀b,k.bp b∨B b->I b)->PW (dD I w) (fe S ts x) vals
 |[],[],vals,x,fz,h,A=>by simp only[Ak,gR,fE]at h;obtain⟨_,rfl⟩:=h;exact⟨λo r=>(by cases r),λ_ _ _ _ _ _ _=>⟨λ_=>False,λ_ h=>h.elim,λ_ _=>⟨by have:=A.1;simpa[bu,fe]using this,λj d v h=>by simp[fe]at h⟩⟩⟩
 |[],_::_,_,_,_,h,_=>by simp[Ak]at h
 |_::_,[],_,_,_,h,_=>by simp[Ak]at h
 |t::ts,v::l,[],x,fz,_,A=>absurd A.1 (by simp[bu])
 |t::ts,v::l,val::vals,x,fz,h,A=>by
  simp only[Ak]at h;split at h;rotate_left
  .cases h
  rename_i y os y2 os2 h1 h2;simp only[gR,fE]at h;obtain⟨rfl,rfl⟩:=h;have E:aH g w (low v) val:=A.2 0 _ _ rfl rfl;have R:PW (aH g w) (bu l) vals:=⟨by have:=A.1;simpa[bu]using this,λj a b k1 k2=>A.2 (j+1) a b (by simpa[bu]using k1) (by simpa using k2)⟩;obtain⟨q3,q4⟩:=CR Q hs h2 R;have one:(∀o∈os,Live g (aC s) o)∧∀(k:Gh)(s1:St)(e:L Nat),aV k s1 w->Ext s.fl g w k w->jG (aC s) s1 e->(∀o∈os,o∈e)->∃B:Nat->Prop,(∀b,B b->b<w.heap.size)∧∀I:Nat->Prop,(∀b,k.bp b∨B b->I b)->dD I w (enc S t y) val:=by
   unfold ahG at h1;split at h1
   .rename_i u o _;split at h1;rotate_left
    .cases h1
    rename_i m mP;split at h1;rotate_left
    .cases h1
    rename_i hm;obtain⟨rfl,rfl,hmm⟩:=GR hm;cases hmm;simp only[gR,fE]at h1;obtain⟨rfl,rfl⟩:=h1;obtain⟨b,rfl,i⟩:∃b,val=.map (Z b)∧g.bP o=Z b:=by cases E with|mp _ b i=>exact⟨b,rfl,i⟩
    obtain⟨x0,hh,F⟩:=(hs.box o b i).2.2 _ (by rw[aJ,mP];rfl);cases F with
    |map _ ms c hl F=>
    refine⟨λo r=>(by cases r),λk s1 e n C K f=>⟨λb'=>b'=b,λb' hb'=>hb'▸(hs.box o b i).2.1,λI z=>?_⟩⟩;have key:∀(j:Nat)p q,m[j]?=Z p->ms[j]?=Z q->dD I w (enc S _ p.1) q.key∧dD I w (enc S _ p.2) q.val:=λj p q h1 h2=>by obtain⟨k1,k2⟩:=F j _ q (by rw[lC,h1];rfl) h2;exact⟨(Eh Q (k1.ext C hs.bp)).le λb i=>z b (.inl i),(Eh Q (k2.ext C hs.bp)).le λb i=>z b (.inl i)⟩
    refine .mp _ _ b ms c (z b (.inr rfl)) hh (by simpa using hl) (by simpa using hl) (λj d q h1 h2=>?_) (λj d q h1 h2=>?_)
    .simp only[lC,fV]at h1;obtain⟨p,P,rfl⟩:=h1;exact(key j p q P h2).1
    .simp only[lC,fV]at h1;obtain⟨p,P,rfl⟩:=h1;exact(key j p q P h2).2
   .obtain ⟨p,hd,P⟩:=qw Q s t v h1;obtain⟨q1,q2⟩:=mu hs (low v) hd P E;exact⟨q1,λk s1 e n C K f=>⟨λ_=>False,λ_ h=>h.elim,λI z=>(q2 k s1 n C (K.sub f)).le λb i=>z b (.inl i)⟩⟩
  refine⟨λo r=>(eZ.1 r).elim (one.1 o) (q3 o),λk s1 e n C K f=>?_⟩;obtain⟨B,hB,F⟩:=q4 k s1 e n C K (λo r=>f o (eY _ r));obtain⟨B',hB',hr'⟩:=one.2 k s1 e n C K (λo r=>f o (fU _ r));refine⟨λb=>B b∨B' b,λb i=>i.elim (hB b) (hB' b),λI z=>?_⟩;have a1:=F I λb i=>z b (i.imp id .inl);have a2:=hr' I λb i=>z b (i.imp id .inr);refine⟨by simp[fe,a1.1],λj d u h1 h2=>?_⟩;cases j with|zero=>simp[fe]at h1 h2;subst h1;subst h2;exact a2|succ j=>exact a1.2 j d u (by simpa[fe]using h1) (by simpa using h2)
def uv(hS:fy S){g:Gh}{w:World}{s:bg S}(hs:aV g (aC s) w):∀{ps:L Pk}{l:L (V S)}{vals:L Value}{x:gp S.A ps}{fz:L Nat},lZ s ps l=Z (x,fz)->PW (aH g w) (bu l) vals->
  (∀o∈fz,Live g (aC s) o)∧∀(q:Gh)(s1:St)(f:L Nat),aV q s1 w->Ext s.fl g w q w->jG (aC s) s1 f->(∀o∈fz,o∈f)->∃B:Nat->Prop,(∀b,B b->b<w.heap.size)∧∀I:Nat->Prop,(∀b,q.bp b∨B b->I b)->rE S I w ps x vals [] []
 |[],[],vals,x,fz,h,m=>by obtain⟨_,rfl⟩:=h;have:vals=[]:=Fm (by have:=m.1;simpa[bu]using this.symm);subst this;exact⟨λo i=>(by cases i),λ_ _ _ _ _ _ _=>⟨λ_=>False,λ_ h=>h.elim,λ_ _=>.nil⟩⟩
 |[],_::_,_,_,_,h,_=>by simp[lZ]at h
 |.one c::_,[],_,_,_,h,_=>by cases c<;>simp[lZ]at h
 |.box _::_,[],_,_,_,h,_=>by simp[lZ]at h
 |.hid _::_,[],_,_,_,h,_=>by simp[lZ]at h
 |.box _::_,_::_,_,_,_,h,_=>by simp[lZ]at h
 |.hid _::_,_::_,_,_,_,h,_=>by simp[lZ]at h
 |.one (.own _)::_,_::_,_,_,_,h,_=>by simp[lZ]at h
 |.one (.kz ..)::_,_::_,_,_,_,h,_=>by simp[lZ]at h
 |.one (.nil _)::_,_::_,_,_,_,h,_=>by simp[lZ]at h
 |.one (.dat t)::ps,v::l,[],x,fz,_,m=>absurd m.1 (by simp[bu])
 |.one (.ptr t)::ps,v::l,[],x,fz,_,m=>absurd m.1 (by simp[bu])
 |.one (.dat t)::ps,v::l,val::vals,x,fz,h,m=>by
  simp[lZ]at h;split at h;rotate_left
  .cases h
  rename_i y os y2 os2 h1 h2;obtain⟨rfl,rfl⟩:=h;have E:aH g w (low v) val:=m.2 0 _ _ rfl rfl;have P:PW (aH g w) (bu l) vals:=⟨by have:=m.1;simpa[bu]using this,λj a b k1 k2=>m.2 (j+1) a b (by simpa[bu]using k1) (by simpa using k2)⟩
  let ⟨p,hd,hp⟩:=qw hS s t v h1
  let ⟨q1,q2⟩:=mu hs (low v) hd hp E
  let ⟨q3,q4⟩:=uv hS hs h2 P
  refine⟨λo i=>(eZ.1 i).elim (q1 o) (q3 o),λq s1 f k F Q d=>?_⟩
  let ⟨B,hB,hr⟩:=q4 q s1 f k F Q (λo i=>d o (eY _ i))
  have hx:=q2 q s1 k F (Q.sub λo i=>d o (fU _ i));exact⟨B,hB,λI z=>rE.one (al:=[]) (.dat (hx.le λb hb=>z b (.inl hb)) .nil) (hr I z)⟩
 |.one (.ptr t)::ps,v::l,val::vals,x,fz,h,m=>by
  simp[lZ]at h;split at h;rotate_left
  .cases h
  rename_i h1 h2;obtain⟨rfl,rfl⟩:=h;have E:aH g w (low v) val:=m.2 0 _ _ rfl rfl;have P:PW (aH g w) (bu l) vals:=⟨by have:=m.1;simpa[bu]using this,λj a b k1 k2=>m.2 (j+1) a b (by simpa[bu]using k1) (by simpa using k2)⟩
  let ⟨q3,q4⟩:=uv hS hs h2 P
  unfold adf at h1;split at h1
  .split at h1;rotate_left
   .cases h1
   rename_i hz;obtain⟨rfl,rfl⟩:=h1;obtain⟨rfl,hz⟩:=JF hz;cases hz;cases E with
   |mc _ _ ad vv hi hc hd=>
   refine⟨λo i=>q3 o (by simpa using i),λq s1 f k F Q d=>?_⟩
   let ⟨B,hB,hr⟩:=q4 q s1 f k F Q (λo i=>d o (by simpa using i))
   exact⟨B,hB,λI z=>rE.one (al:=[]) (.ptr (z _ (.inl (F.bp _ hi))) hc (λj c A=>(hd j c A).le λb hb=>z _ (.inl (F.bp _ hb))) .nil) (hr I z)⟩
  .rename_i o;split at h1;rotate_left
   .cases h1
   rename_i cs i;cases E with
   |ptr _ _ b hb=>
   have ho':(aC s).ob.get o=Z (.box (bu cs)):=by rw[aJ,i];rfl
   let ⟨vs,ty,Jo,hl,R⟩:=(hs.box o b hb).box ho'
   obtain⟨n,rfl⟩:∃n,t=Ty.st n:=by cases t<;>first|exact⟨_,rfl⟩|simp only[aex,reduceCtorEq]at h1
   simp only[aex]at h1;obtain⟨⟨yh,os1⟩,K⟩:∃r,Ak s (S.fs n) cs=Z r:=by
    cases K:Ak s (S.fs n) cs with
    |none=>rw[K]at h1;cases h1
    |some r=>exact⟨r,rfl⟩
   rw[K]at h1;simp only[gR,fE]at h1;obtain⟨rfl,rfl⟩:=h1
   let ⟨q1,q2⟩:=CR hS hs K (vals:=vs.toList) ⟨by simpa using hl,λj t v h1 h2=>R j t v h1 (by simpa using h2)⟩
   refine⟨λo i=>(eZ.1 i).elim (q1 o) (q3 o),λq s1 f k F Q d=>?_⟩
   let ⟨B,hB,hr⟩:=q4 q s1 f k F Q (λo i=>d o (eY _ i))
   let ⟨B',hB',hx⟩:=q2 q s1 f k F Q (λo i=>d o (fU _ i))
   refine⟨λC=>B C∨(C=b∨B' C),λC u=>u.elim (hB C) λe=>e.elim (λe=>by grind) (hB' C),λI z=>rE.one (al:=[]) ?_ (hr I λC u=>z C (u.imp id .inl))⟩;have hx:=hx I λC u=>z C (u.imp id λh=>.inr (.inr h));have hl':enc S (.st n) (S.Eu n yh)=.agg (fe S (S.fs n) yh):=by show D.agg (S.cells n (S.Eu n yh))=_;rw[hS.cells,hS.sC]
   have afL:∀j,(⟨b,0,Y⟩:Addr).add j=⟨b,j,Y⟩:=λj=>by
    grind[Addr.add]
   have hlen:(fe S (S.fs n) yh).length=vs.size:=by simpa using hx.1
   have:=jV.ptr (S:=S) (I:=I) (w:=w) (t:=.st n) (cs:=[]) (x:=S.Eu n yh) (h:=()) (ad:=⟨b,0,Y⟩) (val:=λj=>(vs[j]?).getD undef) (vs:=[]) (al:=[]) (z _ (.inr (.inr (.inl rfl)))) (λj c A=>?_) (λj c A=>?_) .nil
   .simp_all
   .rw[hl']at A;have A:(fe S (S.fs n) yh)[j]?=Z c:=A
    grind[cell?_of_block]
   .rw[hl']at A;have A:(fe S (S.fs n) yh)[j]?=Z c:=A;have hlt:j<vs.size:=by grind
    rw[uq hlt];exact hx.2 j c vs[j] A (by simp[hlt])
  .cases h1
def Dn(hS:fy S){P:Program}{f:FuncId}{c:lI S}(UW:bC P f c)(hs:aV g (aC s) w){args:L (V S)}{vs:Array Value}(pP:PW (aH g w) (bu args) vs.toList)
  {ω:Type} {kp:V S->bg S->O ω} {k:V S->bg S->L Nat->O ω} {res:ω} (h:NW s c args kp k=Z res) :
  mo P f∧Calls P f vs w λ
   |.returned v,w'=>∃t s' g' A,k t s' A=Z res∧aH g' w' (low t) v∧cO A s g w s' g' w'|.panicked ch,w'=>∃v t s' g',ch=[{v,recovered:=J}]∧kp t s'=Z res∧aH g' w' (low t) v∧cO [] s g w s' g' w'|.outgrown,_=>False:=by
 unfold NW at h;obtain⟨_,h0⟩|⟨_,h0⟩:=af h
 .clear h;obtain⟨hc,h1⟩|⟨_,h1⟩:=af h0
  rotate_left
  .cases h1
  clear h0;simp only[fF]at hc;split at h1
  .cases h1
  rename_i x fz hpk;split at h1
  .cases h1
  rename_i Q hfz
  let ⟨p1,p2⟩:=uv hS hs hpk pP
  let ⟨z,q,C,hfr⟩:=eG fz hs (dw hS _ hfz) p1
  let ⟨B,hB,E⟩:=p2 z (aC Q) fz q C hfr (λo u=>u)
  let ⟨r0,hF,h2⟩:=eB h1
  split at h2;rotate_left
  .cases h2
  rename_i r hr;refine⟨UW.1,(UW.2 x r0 hF (λb=>z.bp b∨B b) w vs [] [] (E _ λ_ h=>h) (λb l=>l.elim (q.bp b) (hB b)) .nil .nil (λb l=>by cases l)).mono λe w' he=>?_⟩;rw[hr]at he;cases e with
  |outgrown=>exact he.elim|panicked ch=>exact he.elim|returned v=>
   obtain⟨I',vr,DA,Br,q1,q2,q3,q4,q5,q6,q7,rfl,q8,q9,_⟩:=he;have Jo:∀b,b<w.heap.size->w'.heap[b]?=w.heap[b]?:=λb l=>q5 b l (by simp) (by simp)
   let ⟨hs',he'⟩:=hs.grow (fl:=s.fl) (I:=g.bp) (w':=w') (λ_ h=>h) (λ_ h=>.inl h) (λb l=>iS (hs.bp b l) q4) q4 Jo q6 q7
   exact⟨_,s,g,[],h2,z5 (xP hc.2.1 q9),hs',he'.H7 _,rfl,rfl,eR _,λ_ h=>h,λ_ _ _=>rfl,λt v ht _=>ht.ext he' hs.bp,λo u=>(by cases u),λ_ h=>h,λo u=>(by cases u)⟩
 clear h;have h:=h0;clear h0;split at h
 .cases h
 rename_i x fz A bs hpk;split at h
 .cases h
 rename_i Q hfz;obtain⟨XY,h2⟩|⟨_,h⟩:=af h
 .let ⟨p1,_,_,p3⟩:=kS hS hs hpk pP (λo u=>by cases u)
  let ⟨z,q,C,hfr⟩:=eG fz hs (dw hS _ hfz) p1
  simp only[Xt,fF]at XY
  let ⟨f1,f2,f3,f4,f5,f6,f7⟩:=eN hfz
  let ⟨al,bl,E,_,_⟩:=p3 z (aC Q) fz q C hfr (λo u=>u) (λo u=>by grind[CX])
  obtain⟨rfl,rfl⟩:=E.aqT XY.1;clear h
  let ⟨r0,hF,h2⟩:=eB h2
  split at h2;rotate_left
  .cases h2
  rename_i r hr;refine⟨UW.1,(UW.2 x r0 hF z.bp w vs [] [] E q.bp .nil .nil (λb l=>by cases l)).mono λe w' he=>?_⟩;rw[hr]at he;cases e with
  |outgrown=>exact he.elim|panicked ch=>exact he.elim|returned v=>
   obtain⟨I',vr,DA,Br,q1,q2,q3,q4,q5,q6,q7,rfl,q8,q9,_⟩:=he;have Jo:∀b,b<w.heap.size->w'.heap[b]?=w.heap[b]?:=λb l=>q5 b l (by simp) (by simp)
   let ⟨hs',he'⟩:=hs.grow (fl:=s.fl) (I:=g.bp) (w':=w') (λ_ h=>h) (λ_ h=>.inl h) (λb l=>iS (hs.bp b l) q4) q4 Jo q6 q7
   refine⟨_,s,g,[],h2,z5 (xP XY.2.1 q9),hs',he'.H7 _,rfl,rfl,eR _,λ_ h=>h,λ_ _ _=>rfl,λt v ht _=>ht.ext he' hs.bp,λo u=>(by cases u),λ_ h=>h,λo u=>(by cases u)⟩
 obtain⟨l,h2⟩|⟨_,h2⟩:=af h
 rotate_left
 .cases h2
 clear h;simp at l;have Io:=l6 l.1;have apL:=l6 l.2.1;have hap:=zK l.2.2;unfold ah at h2;split at h2;rotate_left
 .cases h2
 rename_i r hF;dsimp only at h2
 let ⟨p1,p2,p4,p3⟩:=kS hS hs hpk pP (λo u=>by cases u)
 have hfl:=dw hS _ hfz
 let ⟨z,q,C,hfr⟩:=eG fz hs hfl p1
 let ⟨f1,f2,f3,f4,f5,f6,f7⟩:=eN hfz
 let ⟨al,bl,E,hal,LY⟩:=p3 z (aC Q) fz q C hfr (λo u=>u) (λo u=>by rw[aJ,aJ,f6 o (hap o u)])
 have adA:∀o∈bs,∃ob,Q.ob.get o=Z ob∧jY ob=W:=by
  intro o u
  let ⟨_,ob',hvs,NB⟩:=p4 o u
  have hnf:o∉fz:=λhm=>by
   have:=(p1 o hm).ov (by rw[aJ,hvs];rfl)
   grind[oh]
  simp_all
 have XW:∀o∈bs,∀e,z.arr o e=Y:=by
  intro o u e
  let ⟨vs',hvs,NB⟩:=adA o u
  cases hx:z.arr o e with
  |none=>rfl|some x'=>
   exfalso
   let ⟨_,h2⟩:=q.arr o e x' hx
   exact Am NB (h2 _ (by rw[aJ,hvs];rfl))
 have hni:∀a∈al,∀b,a.at b->¬z.bp b:=E.iL;have DR:=hal.owned hni;have ajV:=hal.apart q Io hni;have afC:∀b∈bl,∃o∈bs,z.bP o=Z b:=by
  intro b l;obtain⟨j,hj,rfl⟩:=rM l;have hj':j<bs.length:=by have:=LY.1;omega
  exact⟨bs[j],MK hj',LY.2 j _ _ (jr hj') (jr hj)⟩
 have UX:∀o∈bs,∃b∈bl,z.bP o=Z b:=by
  intro o u;obtain⟨j,hj,rfl⟩:=rM u;have hj':j<bl.length:=by have:=LY.1;omega
  exact⟨bl[j],MK hj',LY.2 j _ _ (jr hj) (jr hj')⟩
 have hOb:∀o b,z.bP o=Z b->bF z o b:=λo b h=>⟨(q.box o b h).1,.inl h⟩;have abU:bl.Nodup:=by
  refine Ww.2 λi j hi hj hij heq=>?_;have hlen:=LY.1;have hi':i<bs.length:=by omega
  have hj':j<bs.length:=by omega
  have e1:=LY.2 i _ _ (jr hi') (jr hi);have e2:=LY.2 j _ _ (jr hj') (jr hj);rw[<-heq]at e2;exact(Ww.1 apL i j hi' hj' hij) (q.j8 _ _ _ (hOb _ _ e1) (hOb _ _ e2))
 have afE:∀b∈bl,b<w.heap.size∧¬z.bp b∧∀a∈al,¬a.at b:=by
  intro b l
  let ⟨o,u,mP⟩:=afC b l
  refine⟨(q.box o b mP).2.1,(q.box o b mP).1,λa R zo=>?_⟩
  let ⟨o',ho',U1⟩:=DR a R b zo
  have:=q.j8 o o' b (hOb o b mP) U1;subst this
  let ⟨vs',hvs,NB⟩:=adA o u
  let ⟨_,_,_,oba,apC,hB⟩:=p2 o ho'
  rw[f6 o (hap o ho')]at hvs;rw[apC]at hvs;cases hvs;have:=uU hB
  grind[oh]
 have core:∀(rs:L Ck)(r:gH S.A rs×iE S.A c.ps)(s2:bg S),mw (yJ bs (forget A {Q with wr:=A++Q.wr,dr:=A++Q.dr})) c.ps bs r.2=Z s2->(iy s2 rs r.1).2.aD<=bI->∀(v:Value)(w':World),EL S z.bp w c.ps rs r al bl v w'->
   ∃g',aH g' w' (low (DL (iy s2 rs r.1).1)) v∧cO A s g w (iy s2 rs r.1).2 g' w':=by
  clear h2;intro rs r s2 hput apR v w' he;obtain⟨I',vr,DA,Br,q1,q2,q3,q4,q5,q6,q7,rfl,q8,q9,q10,q11,q12⟩:=he
  let sF:bg S:=forget A {Q with wr:=A++Q.wr,dr:=A++Q.dr}
  let sD:bg S:=yJ bs sF
  let ⟨t1,t2,t3,t5,t4⟩:=U6 A {Q with wr:=A++Q.wr,dr:=A++Q.dr}
  have afe:aV z (aC {Q with wr:=A++Q.wr,dr:=A++Q.dr}) w:=q;have hsF:aV (z.drop A) (aC sF) w:=NN A afe;have hbsn:∀o∈bs,o<Q.aD:=λo u=>by
   let ⟨b,_,l⟩:=UX o u
   exact q.lt l
  have hnob1:Q.aD<=bI:=q.aD;have ajz:∀o,sD.ob.get o=if o∈bs then Y else sF.ob.get o:=λo=>Tr.oD bs _ o (λb l=>by grind)
  have hsD:aV (z.drop A) (aC sD) w:=by
   have hsub:∀o ob,(aC sD).ob.get o=Z ob->(aC sF).ob.get o=Z ob:=by
    grind[aJ]
   refine⟨hsF.aD,hsF.ah,λo b h=>?_,λo e x h=>?_,hsF.bp,hsF.j8⟩
   .let ⟨k1,k2,k3⟩:=hsF.box o b h
    exact⟨k1,k2,λob mP=>k3 ob (hsub o ob mP)⟩
   .let ⟨k1,k2⟩:=hsF.arr o e x h
    exact⟨k1,λob mP=>k2 ob (hsub o ob mP)⟩
  let X:Nat->Prop:=λb=>b∈bl∨∃a∈al,a.at b
  have Qo:∀o b,bF (z.drop A) o b->bF z o b:=λo b h=>Gh.zy h;have halno:∀a∈al,∀b,a.at b->∀o,¬bF (z.drop A) o b:=by
   intro a R b l o F
   let ⟨o',ho',U1⟩:=DR a R b l
   have:=q.j8 o o' b (Qo o b F) U1;subst this;obtain⟨_,h|⟨e,x',ad,h,_⟩⟩:=F
   .have h:z.bP o=Z b:=h
    let ⟨_,_,_,oba,mP,hB⟩:=p2 o ho'
    have hnb:=q.As (o:=o) (ob:=dc oba) ((aJ Q o).trans (by simp_all)) (uU hB)
    simp_all
   .exact (Gh.GI h).1 ho'
  have hstep:aV {z.drop A with bp:=I'} (aC sD) w':=by
   refine hsD.step (X:=X) q1 (λb l=>?_) q3 q4 (λb l hX=>q5 b l (λh=>hX (.inl h)) (λa R h=>hX (.inr ⟨a,R,h⟩))) (λo b hX F=>?_) (λb hX=>?_)
   .obtain h|h|h:=q2 b l
    .exact .inl h
    .omega
    grind
   .obtain hX|⟨a,R,K⟩:=hX
    .let ⟨o',ho',apD⟩:=afC b hX
     have:=q.j8 o o' b (Qo o b F) (hOb _ _ apD)
     simp_all[aJ]
    grind
   .obtain hX|⟨a,R,K⟩:=hX
    .exact (afE b hX).2.1
    .exact hni a R b K
  have adt:∀o b,bF ({z.drop A with bp:=I'}:Gh) o b->bF (z.drop A) o b:=λo b h=>⟨λhi=>h.1 (q1 b hi),h.2⟩;have hfresh:∀a∈DA++Br,∀b,a.at b->∀o,¬bF ({z.drop A with bp:=I'}:Gh) o b:=by
   intro a R b l o F;have F:=adt o b F;obtain⟨a',ha',hb'⟩|hge:=q11 a R b l
   .grind
   .have:=(hsD.rS F).1;omega
  have ajU:=um.1 q10;have hs3n:s2.aD<=(iy s2 rs r.1).2.aD:=od _ _ _
  let ⟨g4,hp⟩:=M6 (g:={z.drop A with bp:=I'}) (s:=sD) q8 hstep LY (λo u e=>by
    show(if o∈A then Y else z.arr o e)=Y
    simp_all) (λa R=>hfresh a (fU _ R)) ajU.1 hput (by omega)
  obtain⟨g5,hu,apu⟩:=nE (g:=g4) (by rw[hp.bp];exact q9) hp.rel (λa R b l o F=>by
    obtain F|⟨_,a2,ha2,pQ⟩:=hp.own o b F
    .grind
    grind) ajU.2.1 apR
  have hle:nh ({z.drop A with bp:=I'}:Gh) g5:=hp.le.trans hu.le;have adx:g5.bp=I':=hu.bp.trans hp.bp;have hnobD:sD.aD=Q.aD:=t3;have apG:Q.aD<=(iy s2 rs r.1).2.aD:=by have:=hp.aD;omega
  have hown5:∀k b,bF g5 k b->bF g k b∨(s.fl<=k∧∃o',s.fl<=o'∧bF g o' b)∨w.heap.size<=b:=by
   intro k b F;have hnewk:∀a∈DA++Br,a.at b->Q.aD<=k->bF g k b∨(s.fl<=k∧∃o',s.fl<=o'∧bF g o' b)∨w.heap.size<=b:=by
    intro a R K hk';obtain⟨a',ha',hb'⟩|hge:=q11 a R b K
    .let ⟨o',ho',U1⟩:=DR a' ha' b hb'
     obtain U1|hge:=C.own o' b U1
     .grind
     omega
    omega
   obtain F|⟨h1,a,R,K⟩:=hu.own k b F
   .obtain F|⟨h1,a,R,K⟩:=hp.own k b F
    .obtain F|hge:=C.own k b (Qo k b (adt k b F))
     .exact .inl F
     omega
    grind
   .have:=hp.aD
    grind
  refine⟨g5,z5 apu,hu.rel,⟨λo b l=>?_,λo e y hl hy=>?_,λb l=>?_,q4,λb l hno=>?_,λo b u F=>?_,λb l=>?_,q6,q7⟩,?_,?_,?_,λo u=>?_,λo hl u=>?_,λt v ht hm=>?_,λo u=>?_,λo u=>?_,λo u=>?_⟩
  .rw[hu.bP,hp.bP];exact C.bP o b l
  .have hno:o∉A:=λhm=>by grind
   have h1:({z.drop A with bp:=I'}:Gh).arr o e=Z y:=by show(if o∈A then Y else z.arr o e)=Z y;rw[bO hno];exact C.arr o e y hy
   exact hle.arr o e y h1
  .rw[adx];exact q1 b (C.bp b l)
  .refine q5 b l (λhm=>?_) (λa R K=>?_)
   .let ⟨o,u,mP⟩:=afC b hm
    obtain F|hge:=C.own o b (hOb o b mP)
    .simp_all
    .omega
   .let ⟨o,u,F⟩:=DR a R b K
    obtain F|hge:=C.own o b F
    .simp_all
    .omega
  .grind
  .rw[adx]at l;obtain h|h|⟨a,R,K⟩:=q2 b l
   .exact C.oz b h
   .omega
   .let ⟨o,u,F⟩:=DR a R b K
    obtain F|hge:=C.own o b F
    .grind
    omega
  .exact hu.fl.trans (hp.fl.trans (t1.trans f1))
  .exact hu.lo.trans (hp.lo.trans (t2.trans f2))
  .omega
  .rw[hu.wr];exact hp.ua o (t4 o (eY _ (f4 o u)))
  .rw[hu.wr]at u;have h1:o∉bs:=λhm=>u (hp.wrb o hm);have h2:o∉sF.wr:=λhm=>u (hp.ua o hm);have h3:o∉Q.wr:=λhm=>h2 (t4 o (eY _ hm));rw[hu.ob o (by have:=hp.aD;omega),hp.ob o (by omega) h1,ajz,bO h1,NM _ _ _ h2];exact f5 o h3
  .have h1:=ht.ext C hs.bp;have h2:=h1.drop hm;have hkp:j6 (z.drop A).bp w w':=λb l=>q5 b (q.bp b l) (λhmm=>(afE b hmm).2.1 l) (λa R K=>hni a R b K l);have h3:aH ({z.drop A with bp:=I'}:Gh) w' t v:=by
    clear hm h1 ht
    induction h2 with|sym d v hd=>exact .sym d v (hd.mono hkp q1)|kb b=>exact .kb b|kn k n=>exact .kn k n|ptr o off b l=>exact .ptr o off b l|mc d off ad val UP hc hd=>exact .mc d off ad val (q1 _ UP) (λj c hj=>by rw[hkp.cell (by rw[kZ];exact UP)];grind) (λj c hj=>(hd j c hj).mono hkp q1)|l9 o e i off len cap sz ad hx=>exact .l9 o e i off len cap sz ad hx|sh o e len cap sz a hx=>exact .sh o e len cap sz a hx|emp a=>exact .emp a|kM n es a hn hd=>exact .kM n es a hn (hd.mono hkp q1)|fn f fs cs va vc hl hm _ _ ih ih'=>exact .fn f fs cs va vc hl hm ih ih'|di t x v _ ih=>exact .di t x v ih|agg cs vs hl _ ih=>exact .agg cs vs hl ih|gT cs vs hl _ ih=>exact .gT cs vs hl ih|gd c t v _ ih=>exact .gd c t v ih|mp o b l=>exact .mp o b l|rJ o b l=>exact .rJ o b l|ud o b l=>exact .ud o b l|ub e b h=>exact .ub e b h|sy o m r i len cap sz a hx=>exact .sy o m r i len cap sz a hx|pU j d c a hj hd=>exact .pU j d c a hj (hd.mono hkp q1)
   exact h3.le hle
  .rw[hu.wr];exact hp.ua o (t4 o (fU _ u))
  .rw[hu.dr,hp.dr];show o∈sF.dr
   grind
  .rw[hu.dr,hp.dr];show o∈sF.dr
   grind
 refine⟨UW.1,(UW.2 x r hF z.bp w vs al bl E q.bp ajV abU afE).mono λe w' he=>?_⟩;cases e with
 |outgrown=>exact he.elim|returned v=>
  simp[xV]at he;split at he;rotate_left
  .exact he.elim
  rename_i hr';rw[hr']at h2;dsimp only at h2;split at h2
  .cases h2
  rename_i s2 hput;obtain⟨hlt,hk⟩|⟨_,hk⟩:=af h2
  rotate_left
  .cases hk
  grind[Nat.le_of_ble_eq_true]
 |panicked ch=>
  simp[xV]at he;split at he
  .exact he.elim
  rename_i p hp;obtain⟨v,rfl,he⟩:=he;rw[hp]at h2;dsimp only at h2;split at h2
  .cases h2
  rename_i s2 hput;split at h2;rotate_left
  .cases h2
  obtain⟨hlt,hk⟩|⟨_,hk⟩:=af h2
  rotate_left
  .cases hk
  let ⟨g5,k1,k2⟩:=core [.dat S.pt] ((p.1,()),p.2) s2 hput (gU hlt) v w' he
  exact⟨v,_,_,g5,rfl,hk,k1,k2⟩
end
section
structure rF(s s':bg S):Prop where
 ua:∀o∈s.wr,o∈s'.wr
 same:∀o,o<s.aD->o∉s'.wr->s'.ob.get o=s.ob.get o
 dr:s'.dr=s.dr
theorem rF.refl(s:bg S):rF s s:=⟨λ_ h=>h,λ_ _ _=>rfl,rfl⟩
variable {s s':bg S}{v:V S}{c:Bool}{E:gm}
def cO.lq{g g':Gh}{w w':World}(hs:aV g (aC s) w)(h1:aV g' (aC s') w')(h2:Ext s.fl g w g' w')(h3:s'.fl=s.fl)(h4:s'.lo=s.lo)(h5:s.aD<=s'.aD)(h6:rF s s'):cO [] s g w s' g' w':=
 ⟨h1,h2.H7 _,h3,h4,h5,h6.ua,h6.same,λ_ _ b _=>b.ext h2 hs.bp,λo a=>(by cases a),λo a=>h6.dr▸a,λo a=>(by cases a)⟩
theorem cO.refl{g:Gh}{w:World}{s:bg S}(hs:aV g (aC s) w):cO [] s g w s g w:=
 cO.lq hs hs (Ext.refl _ _ _) rfl rfl (eR _) (rF.refl _)
def jx(s:bg S)(ob:u0 S)(hn:s.aD<bI):rF s (dj s ob):=
 ⟨λ_ h=>h,λo a _=>by simp[dj];rw[Tr.aR _ _ _ _ hn,bO (by omega)],rfl⟩
def mH{os:L Nat}(h:dR s os=Z s'):rF s s':=by
 let ⟨_,_,_,h1,h2,_,h3⟩:=eN h
 exact⟨h1,λo _ a=>h2 o a,h3⟩
def o9(s:bg S)(o:Nat)(ob:u0 S):rF s {s with ob:=s.ob.set aM o ob,wr:=o::s.wr}:=
 ⟨λ_ h=>ic _ h,λk _ a=>Tr.dz _ _ _ _ _ (λe=>a (by simp_all)),rfl⟩
def rF.trans'{a:bg S}(h:rF s s')(hn:s.aD<=s'.aD)(k:rF s' a):rF s a:=
 ⟨λo c=>k.ua o (h.ua o c),λo c b=>(k.same o (iS c hn) b).trans (h.same o c (λd=>b (k.ua o d))),k.dr.trans h.dr⟩
theorem Pb{i:TI}{s s':bg S}{a x v:V S}{c:Bool}(h:EX i s a x=Z (c,v,s')):rF s s':=by
 unfold EX at h;split at h
 .cases h
 .split at h
  .split at h
   .obtain ⟨_,h⟩|⟨_,h⟩:=af h
    .obtain ⟨_,_,rfl⟩:=h;exact o9 _ _ _
    .cases h
   .cases h
  .split at h
   .split at h
    .split at h
     .rename_i b;split at h
      .split at h
       .obtain ⟨_,h⟩|⟨_,h⟩:=af h
        .obtain ⟨_,_,rfl⟩:=h;exact(mH b).trans' (MG (eN b).2.2.1.symm) (o9 _ _ _)
        .cases h
       .cases h
      .cases h
     .cases h
    .cases h
   .cases h
  .cases h
def E1{i:TI}{τ:O Ty}{x:V S}{l h m:O (V S)}(a:vW i τ s x l h m=Z (c,v,s')):s'=s∨dR s (Nc x)=Z s':=by
 unfold vW at a
 repeat' split at a
 all_goals first
  |(cases a;done)
  |(
    simp only[gR,fE]at a;obtain⟨_,_,rfl⟩:=a;first|exact .inl rfl|(right;assumption))
def W8{fr:bU S}{o:Op}(h:cH E fr s o=Z (c,v,s')):rF s s':=by
 have same:s'=s->rF s s':=λe=>e▸rF.refl _;cases o with
 |alloc t=>
  simp[cH]at h;split at h
  .obtain ⟨g,h⟩|⟨_,h⟩:=af h
   .obtain ⟨_,_,rfl⟩:=h
    simp_all[jx]
   .cases h
  .cases h
 |box t x=>
  simp[cH]at h;split at h
  .obtain ⟨g,h⟩|⟨_,h⟩:=af h
   .simp only[fV,fE]at h;obtain⟨_,_,_,_,rfl⟩:=h
    simp_all[jx]
   .cases h
  .cases h
 |buildSlice t n i=>
  simp only[cH]at h;split at h
  .split at h
   .obtain ⟨_,h⟩|⟨_,h⟩:=af h
    .split at h
     .simp only[fV,fE]at h;obtain⟨j,d,_,_,rfl⟩:=h;exact mH d
     .cases h
    .cases h
   .cases h
  .cases h
 |store t x y=>
  grind[cH,Pb]
 |slice t x lo l m=>
  simp[cH]at h;split at h
  .obtain rfl|h:=E1 h
   .grind
   .exact mH h
  .cases h
 |move x=>simp only[cH,fV,fE]at h;grind|assign x=>simp only[cH,fV,fE]at h;grind|pick x y z=>
  simp[cH]at h;split at h
  .simp only[fV,fE]at h
   grind
  .cases h
 |build t i=>
  simp[cH]at h;split at h
  .split at h
   .simp only[fV,fE]at h
    grind
   .cases h
  .cases h
 |load t x=>
  simp[cH]at h;split at h
  .unfold yF at h;split at h
   .split at h
    .obtain ⟨_,h⟩|⟨_,h⟩:=af h
     .simp only[fV,fE]at h
      grind
     .cases h
    .cases h
   .simp only[fV,fE]at h
    grind
   .split at h
    .simp at h
     grind
    .cases h
   .cases h
  .cases h
 |nilCheck x=>
  simp[cH]at h
  grind
 |binOp op t x y u=>
  simp[cH]at h;split at h
  .simp only[fV,fE]at h
   grind
  .cases h
 |unOp op t x=>
  simp[cH]at h;split at h
  .simp only[fV,fE]at h
   grind
  .cases h
 |convert t u x=>
  grind[cH,Ch]
 |makeInterface t x=>
  simp[cH]at h
  grind
 |makeFunc f a b=>
  simp[cH]at h
  grind
 |extract x k=>
  grind[cH,uJ]
 |fieldAddr t x k=>
  grind[cH,qY]
 |field t x k=>
  simp[cH]at h;split at h
  .unfold BY at h;split at h
   .split at h
    .obtain ⟨_,h⟩|⟨_,h⟩:=af h
     .simp only[fV,fE]at h
      grind
     .cases h
    .cases h
   .cases h
  .cases h
 |indexAddr t x y=>
  simp[cH]at h;split at h
  .unfold kC at h;split at h
   .grind
   .have:=Dy h
    grind
   .cases h
  .cases h
 |index t x y=>
  simp[cH]at h;split at h
  .unfold BR at h
   grind
  .cases h
 |typeAssert x t u ok=>
  grind[cH,w6]
 |_=>simp[cH]at h
def Iw{b:Builtin}{d:Array TypeId}{args:L (V S)}(h:iw E s b d args=Z (c,v,s')):rF s s':=by
 unfold iw at h;split at h
 .split at h
  .split at h
   .obtain ⟨_,_,rfl⟩:=h;exact rF.refl _
   .cases h
  .split at h
   .simp only[fV,fE]at h;obtain⟨_,_,_,_,rfl⟩:=h;exact rF.refl _
   .cases h
  .cases h
 .split at h
  .split at h
   .split at h
    .obtain ⟨_,h⟩|⟨e,h⟩:=af h
     .cases h
     .have a:s.aD<bI:=by
       have:Nt s.aD bI=W:=by simpa using e
       exact gU this
      split at h
      .split at h
       .obtain ⟨_,_,rfl⟩:=h;exact jx _ _ a
       .split at h
        .split at h
         .obtain ⟨_,_,rfl⟩:=h;exact jx _ _ a
         .obtain ⟨_,_,rfl⟩:=h;exact rF.refl _
        .cases h
       .split at h
        .split at h
         .obtain ⟨_,h⟩|⟨_,h⟩:=af h
          .obtain ⟨_,_,rfl⟩:=h;exact o9 _ _ _
          .cases h
         .cases h
        .cases h
       .cases h
      .cases h
    .cases h
   .cases h
  .cases h
 .cases h
end
section
section
variable {g:Gh}{w w':World}
variable {s:St}{o b c:Nat}{ob:Ob}{kt:Ty}{u z:Value}{ms:Array MapEntry}
def aV.setObj(hs:aV g s w)(n:g.bP o=Z b){ob':Ob}(l:s.ob.get o=Z ob)(p:ob.odd=W)(v:s.fl<=o){x':Obj}(C:gX g w ob' x')
  (y:w'.heap.size=w.heap.size) (c:∀d,d≠b->w'.heap[d]?=w.heap[d]?) (q:w'.heap[b]?=Z x') (z:w'.os=w.os) (r:w'.output=w.output) :
  aV g {s with ob:=s.ob.set aM o ob'} w'∧Ext s.fl g w g w':=by
 have f:bF g o b:=⟨(hs.box o b n).1,.inl n⟩;have m:o<bI:=iS (hs.lt n) hs.aD;have u:Ext s.fl g w g w':=
  ⟨λ_ _ h=>h,λ_ _ _ h=>h,λ_ h=>h,by omega,λd _ E=>c d (λe=>E o v (e▸f)),λ_ _ h=>.inl h,λ_ h=>.inl h,z,r⟩
 refine⟨⟨hs.aD,hs.ah,λj d a=>?_,λj e x A=>?_,λd a=>by have:=hs.bp d a;omega,hs.j8⟩,u⟩
 .by_cases i:j=o
  .subst i;rw[n]at a;simp at a;subst a
   let ⟨h1,h2,_⟩:=hs.box j b n
   refine⟨h1,by omega,λF k=>⟨x',q,?_⟩⟩;rw[Tr.aR _ _ _ _ m,bB rfl]at k;obtain rfl:=ke k;exact C.ext u hs.bp
  .have B:d≠b:=λe=>i (hs.j8 j o b (e▸⟨(hs.box j d a).1,.inl a⟩) f);exact(hs.box j d a).ext u hs.bp (c d B) (by simp;rw[Tr.aR _ _ _ _ m,bO i]) (hs.box j d a).1
 .have i:j≠o:=by
   rintro rfl
   have h4:=((hs.arr j e x A).2 _ l).ov;cases ob<;>first|(cases p;done)|(cases h4;done)
  refine(hs.arr j e x A).ext u hs.bp (λd a I=>⟨c d ?_,vK⟩) (by simp;rw[Tr.aR _ _ _ _ m,bO i]) rfl
  rintro rfl
  by_cases t:g.bp d
  .exact f.1 t
  .exact i (hs.j8 j o d ⟨t,.inr ⟨e,x,_,A,a,rfl,I⟩⟩ f)
def aV.amy(hs:aV g s w)(m:g.bP o=Z b)(l:s.ob.get o=Z ob)(n:ob.odd=W)(r:s.fl<=o)
  (t:w'.heap.size=w.heap.size) (c:∀d,d≠b->w'.heap[d]?=w.heap[d]?) (u:w'.os=w.os) (p:w'.output=w.output) :
  aV g {s with ob:=s.ob.del aM o} w'∧Ext s.fl g w g w':=by
 have f:bF g o b:=⟨(hs.box o b m).1,.inl m⟩;have B:o<bI:=iS (hs.lt m) hs.aD;have eo:∀k,(s.ob.del aM o).get k=if k=o then Y else s.ob.get k:=λk=>Tr.rX _ _ _ _ (by grind[aM,bI])
 have v:Ext s.fl g w g w':=
  ⟨λ_ _ h=>h,λ_ _ _ h=>h,λ_ h=>h,by omega,λd _ C=>c d (λe=>C o r (e▸f)),λ_ _ h=>.inl h,λ_ h=>.inl h,u,p⟩
 refine⟨⟨hs.aD,hs.ah,λj d a=>?_,λj e x y=>?_,λd a=>by have:=hs.bp d a;omega,hs.j8⟩,v⟩
 .by_cases i:j=o
  .subst i;rw[m]at a;simp at a;subst a
   let ⟨h1,h2,_⟩:=hs.box j b m
   refine⟨h1,by omega,λE A=>?_⟩
   simp_all
  .have z:d≠b:=λe=>i (hs.j8 j o b (e▸⟨(hs.box j d a).1,.inl a⟩) f);exact(hs.box j d a).ext v hs.bp (c d z) (by simp;rw[eo,bO i]) (hs.box j d a).1
 .have i:j≠o:=by
   rintro rfl
   have h4:=((hs.arr j e x y).2 _ l).ov;cases ob<;>first|(cases n;done)|(cases h4;done)
  refine(hs.arr j e x y).ext v hs.bp (λd a F=>⟨c d ?_,vK⟩) (by simp;rw[eo,bO i]) rfl
  rintro rfl
  by_cases q:g.bp d
  .exact f.1 q
  .exact i (hs.j8 j o d ⟨q,.inr ⟨e,x,_,y,a,rfl,F⟩⟩ f)
def fq:(kt:Ty)->den S.A kt->Value
 |.int k,n=>.int k n|.bool,b=>.bool b|.str,s=>.string (cg s)|_,_=>undef
def iA:Ty->TypeDesc->Prop
 |.int k,d=>d=.int k|.bool,d=>d=.bool|.str,d=>d=.string|_,_=>False
def qS{v:V S}{k:den S.A kt}(h:UE kt v=Z k)(c:aH g w (low v) u):u=fq kt k:=by
 cases kt with
 |int j=>
  let ⟨p,b,a⟩:=gE (show g7 j v=Z k from h)
  exact dQ b a c
 |bool=>
  let ⟨p,b,a⟩:=mJ (show iD v=Z k from h)
  exact ju b a c
 |str=>
  let ⟨p,b,a⟩:=lN (show vV v=Z k from h)
  exact iK b a c
 |_=>cases h
def SI{k:den S.A kt}{d:TypeDesc}(a:iA kt d)(b:aH g w (eg S kt k) u):u=fq kt k:=by
 cases kt with
 |int j=>cases b with|sym _ _ a=>cases a;rfl
 |bool=>cases b with|sym _ _ a=>cases a;rfl
 |str=>cases b with|sym _ _ a=>cases a;rfl
 |_=>cases a
def abg{k:den S.A kt}{d:TypeDesc}(a:iA kt d):aH g w (eg S kt k) (fq kt k):=by cases kt with|int j=>exact .sym _ _ (.lit _)|bool=>exact .sym _ _ (.lit _)|str=>exact .sym _ _ (.lit _)|_=>cases a
def Mv{d:TypeDesc}(c:iA kt d)(a b:den S.A kt):Instr.sameNow d (fq kt a) (fq kt b)=Z (FW kt a b):=by
 cases kt with
 |int j=>cases c;simp[Instr.sameNow,fq,FW,aa]
 |bool=>cases c;rfl
 |str=>
  cases c;have:=BB a b
  grind[Tv,Instr.sameNow,fq,FW]
 |_=>cases c
theorem Kk{kt:Ty}{d:TypeDesc}(c:iA kt d){a b:den S.A kt}(h:FW kt a b=W)(n:Nat):Instr.sameBits n (fq kt b) (fq kt a)=W:=by
 cases kt with
 |int j=>
  have:a=b:=by simpa[FW,aa]using h
  subst this;cases n<;>simp[Instr.sameBits,fq]
 |bool=>
  have:a=b:=by simpa[FW,o7]using h
  subst this;cases n<;>simp[Instr.sameBits,fq]
 |str=>
  have:a=b:=by simpa[FW,gC]using h
  subst this;have e:(cg a==cg a)=W:=by
   have:=BB a a
   grind[Tv,gC]
  cases n<;>simp[Instr.sameBits,fq,e]
 |_=>cases c
def Dg{A:Nat->Type}{β:Type}(kt:Ty)(k:den A kt):L (den A kt×β)->O Nat
 |[]=>Y|p::l=>bif FW kt k p.1 then Z 0 else(Dg kt k l).map Ns
def Ga{β:Type}{kt:Ty}{k:den S.A kt}:∀{l:L (den S.A kt×β)},Dg kt k l=Y->(∀z,HV kt z k l=z)∧Gj kt k l=J∧∀x,jL kt k x l=l++[(k,x)]
 |[],_=>⟨λ_=>rfl,rfl,λ_=>rfl⟩|p::l,h=>by
  simp[Dg]at h;cases a:FW kt k p.1 with
  |true=>simp_all|false=>
   rw[a]at h;obtain⟨h1,h2,h3⟩:=Ga (l:=l) (by simpa using h)
   grind[HV,Gj,jL]
def wu{β:Type}{kt:Ty}{k:den S.A kt}:∀{l:L (den S.A kt×β)}{j:Nat},Dg kt k l=Z j->∃p,l[j]?=Z p∧FW kt k p.1=W∧(∀z,HV kt z k l=p.2)∧Gj kt k l=W∧∀x,jL kt k x l=l.set j (k,x)
 |[],j,h=>by cases h
 |p::l,j,h=>by
  simp[Dg]at h;cases a:FW kt k p.1 with
  |true=>rw[a]at h;simp at h;subst h;exact⟨p,rfl,a,λz=>by simp[HV,a],by simp[Gj,a],λx=>by simp[jL,a]⟩
  |false=>
   rw[a]at h;simp only[j9,fV]at h;obtain⟨i,b,rfl⟩:=h
   let ⟨q,h1,h2,h3,h4,h5⟩:=wu b
   exact⟨q,by simpa using h1,h2,λz=>by simp[HV,a,h3],by simp[Gj,h4],λx=>by simp[jL,a,h5]⟩
def S3{β:Type}{kt:Ty}{k:den S.A kt}:∀{l:L (den S.A kt×β)},QD kt k l=match Dg kt k l with|some j=>l.eraseIdx j|none=>l
 |[]=>rfl|p::l=>by simp only[QD,Dg];cases a:FW kt k p.1 with|true=>rfl|false=>simp only[j9,S3 (l:=l)];cases Dg kt k l<;>rfl
def yG{β:Type}{kt:Ty}{d:TypeDesc}(b:iA kt d)(k:den S.A kt):∀(l:L (den S.A kt×β))(es:L MapEntry)(i:Nat),es.length=l.length->
  (∀(j:Nat)p m,l[j]?=Z p->es[j]?=Z m->m.key=fq kt p.1)->Instr.findNow d (fq kt k) es i=Z ((Dg kt k l).bind λj=>(es[j]?).map λm=>(i+j,m.val))
 |[],[],i,_,_=>rfl|p::l,m::es,i,a,c=>by
  simp[Instr.findNow,c 0 p m rfl rfl,Mv b];cases e:FW kt k p.1 with
  |true=>simp[Dg,e]|false=>
   rw[yG b k l es (i+1) (by simpa using a) (λj f g h1 h2=>c (j+1) f g (by simpa using h1) (by simpa using h2))];simp only[Dg,e,j9];cases Dg kt k l with
   |none=>rfl|some j=>
    simp
    congr 1
    funext m
    rw[Nat.add_assoc,Nat.add_comm 1 j]
 |[],_::_,_,a,_=>by simp at a
 |_::_,[],_,a,_=>by simp at a
variable {P:Program}
def Ic{d:TypeDesc}(a:iA kt d){t:TypeId}(c:P.underlying t=Z d)(b:Bool)(n:Nat)(v:Value)(w:World):(Instr.checkKey b (n+1) t v).run P w=.ok () w:=by
 cases kt with
 |int j=>cases a;simp_all[Instr.checkKey,aL]
 |bool=>cases a;simp_all[Instr.checkKey,aL]
 |str=>cases a;simp_all[Instr.checkKey,aL]
 |_=>cases a
def run_checkKey{d:TypeDesc}(a:iA kt d){t:TypeId}(c:P.underlying t=Z d)(b:Bool)(v:Value)(w:World):(Instr.checkKey b 10000 t v).run P w=.ok () w:=
 Ic a c b 9999 v w
def run_findKey{β:Type}{d:TypeDesc}(a:iA kt d){t:TypeId}(c:P.underlying t=Z d)(k:den S.A kt){l:L (den S.A kt×β)}{es:L MapEntry}(hl:es.length=l.length)
  (b:∀(j:Nat)p m,l[j]?=Z p->es[j]?=Z m->m.key=fq kt p.1) (w:World) :
  (Instr.findKey t (fq kt k) es).run P w=.ok ((Dg kt k l).bind λj=>(es[j]?).map λm=>(j,m.val)) w:=by
 have:=yG a k l es 0 hl b
 simp_all[Instr.findKey,aL]
def nH(h:w.heap[b]?=Z (.map ms c)):(getObj b).run P w=.ok (.map ms c) w:=by simp[getObj,Sem.run,h]
def uh(o:Obj)(h:w.heap[b]?=Z (.map ms c)):(setObj b o).run P w=.ok () {w with heap:=w.heap.setIfInBounds b o}:=by simp[setObj,Sem.run,h]
def y8{β:Type}{d:TypeDesc}(f:iA kt d){t a e:TypeId}{g:TypeInfo}(q:P.underlying t=Z (.map a e))(i:P.underlying a=Z d)(hi:P.info? e=Z g)(n:g.zero=Z z)
  (k:den S.A kt) {l:L (den S.A kt×β)} {b c:Nat} {ms:Array MapEntry} (h:w.heap[b]?=Z (.map ms c)) (hl:l.length=ms.size) (r:∀(j:Nat)p m,l[j]?=Z p->ms[j]?=Z m->m.key=fq kt p.1) (ok:Bool) :
  (Instr.lookup t (.map (Z b)) (fq kt k) ok).run P w=.ok (match(Dg kt k l).bind λj=>(ms[j]?).map (·.val)with
   |some v=>if ok then .tuple #[v,.bool W]else v|none=>if ok then .tuple #[z,.bool J]else z) w:=by
 have s:=run_findKey (P:=P) f i k (l:=l) (es:=ms.toList) (by grind) (λj p m h1 h2=>r j p m h1 (by simpa using h2)) w;simp only[Instr.lookup,run_bind,aL q,andThen_ok,nH h,run_checkKey f i,s,run_pure];cases u:Dg kt k l with
 |none=>simp[ey hi n]|some j=>
  cases o:ms[j]? with|none=>simp[o,ey hi n]|some m=>simp[o]
def E9{d:TypeDesc}(b:iA kt d){t a e:TypeId}{c:TypeInfo}(g:P.underlying t=Z (.map a e))(f:P.underlying a=Z d)(hi:P.info? e=Z c)(h:c.zero=Z z)
  (k:den S.A kt) (ok:Bool):(Instr.lookup t (.map Y) (fq kt k) ok).run P w=.ok (if ok then .tuple #[z,.bool J]else z) w:=by
 have i:=run_findKey (P:=P) (β:=U) b f k (l:=[]) (es:=[]) rfl (λj p m h1=>by simp at h1) w;simp only[Instr.lookup,run_bind,aL g,andThen_ok,run_checkKey b f,run_pure]
 simp_all[ey]
end
end
section
section
variable {g:Gh}{w w':World}{P:Program}
def Ec{β:Type}(kt:Ty)(R:β->Value->Prop)(l:L (den S.A kt×β))(ms:Array MapEntry):Prop:=
 l.length=ms.size∧∀(j:Nat)p m,l[j]?=Z p->ms[j]?=Z m->m.key=fq kt p.1∧R p.2 m.val
variable {kt kt':Ty}{ms:Array MapEntry}
def yx{β:Type}{R:β->Value->Prop}{d:TypeDesc}(r:iA kt d){t a e:TypeId}(z:P.underlying t=Z (.map a e))(s:P.underlying a=Z d)
  (k:den S.A kt) {l:L (den S.A kt×β)} {b c:Nat} {ms:Array MapEntry} (h:w.heap[b]?=Z (.map ms c)) (C:Ec kt R l ms) {x:β} {v:Value} (hx:R x v) :
  ∃g E,(Instr.mapUpdate t (.map (Z b)) (fq kt k) v).run P w=.ok () {w with heap:=w.heap.setIfInBounds b (.map g E)}∧Ec kt R (jL kt k x l) g:=by
 let ⟨hl,F⟩:=C
 have A:=run_findKey (P:=P) r s k (l:=l) (es:=ms.toList) (by grind) (λj p m h1 h2=>(F j p m h1 (by simpa using h2)).1) w;cases f:Dg kt k l with
 |none=>
  let ⟨_,_,o⟩:=Ga f
  rw[f]at A;refine⟨ms.push {key:=fq kt k,val:=v,born:=c},c+1,?_,by simp_all,λj p m h1 h2=>?_⟩
  .simp[Instr.mapUpdate,run_bind,aL z,andThen_ok,nH h,run_checkKey r s,A,Option.bind_none,uh _ h]
  grind
 |some i=>
  let ⟨p,hp,I,_,_,o⟩:=wu f
  have K:i<ms.size:=by grind
  obtain⟨m,Q⟩:∃m,ms[i]?=Z m:=⟨ms[i],uq K⟩;have u:(Instr.findKey a (fq kt k) ms.toList).run P w=.ok (Z (i,m.val)) w:=by
   simp_all
  refine⟨ms.modify i λe=>{e with key:=fq kt k,val:=v},c,?_,by simp_all,λj q n h1 h2=>?_⟩
  .have hsb:Instr.sameBits 10000 m.key (fq kt k)=W:=by grind[Kk]
   have y:(Instr.keyThatStays m.key (fq kt k)).run P w=.ok (fq kt k) w:=by
    simp_all[Instr.keyThatStays]
   simp[Instr.mapUpdate,run_bind,aL z,andThen_ok,nH h,run_checkKey r s,u,Q,jK,Sf,y,uh _ h]
  grind
def Po{β:Type}{R:β->Value->Prop}{d:TypeDesc}(u:iA kt d){t a e:TypeId}(y:P.underlying t=Z (.map a e))(v:P.underlying a=Z d)
  (k:den S.A kt) {l:L (den S.A kt×β)} {b c:Nat} {ms:Array MapEntry} (h:w.heap[b]?=Z (.map ms c)) (C:Ec kt R l ms) {ts:Array TypeId} (f:ts[0]?=Z t) {ty:TypeId} {args:Array Value} (g:args[0]?=Z (.map (Z b))) (o:args[1]?=Z (fq kt k)) :
  ∃r,(Builtin.delete_ ts ty args).run P w=.ok (.tuple #[]) {w with heap:=w.heap.setIfInBounds b (.map r c)}∧Ec kt R (QD kt k l) r:=by
 let ⟨E,z⟩:=C
 have A:=run_findKey (P:=P) u v k (l:=l) (es:=ms.toList) (by grind) (λj p m h1 h2=>(z j p m h1 (by simpa using h2)).1) w;rw[S3];cases s:Dg kt k l with
 |none=>rw[s]at A;refine⟨ms,?_,E,z⟩;simp[Builtin.delete_,run_bind,f,g,o,aL y,andThen_ok,nH h,run_checkKey u v,A,Option.bind_none,uh _ h,run_pure]|some i=>
  let ⟨p,F,_⟩:=wu s
  have B:i<ms.size:=by grind
  have x:(Instr.findKey a (fq kt k) ms.toList).run P w=.ok (Z (i,ms[i].val)) w:=by
   simp_all
  refine⟨ms.eraseIdxIfInBounds i,?_,?_,λj q n h1 h2=>?_⟩
  .simp[Builtin.delete_,run_bind,f,g,o,aL y,andThen_ok,nH h,run_checkKey u v,x,uh _ h,run_pure]
  .simp only[Array.eraseIdxIfInBounds,B,dite_true,Array.size_eraseIdx,List.length_eraseIdx]
   grind
  .simp only[Array.eraseIdxIfInBounds,B,dite_true,Array.getElem?_eraseIdx,List.getElem?_eraseIdx]at h1 h2
   grind
def gX.Ml{β:Type}{d:TypeDesc}(a:iA kt d){f:β->T}{l:L (den S.A kt×β)}{x:Obj}(h:gX g w (.map (l.map λp=>(eg S kt p.1,f p.2))) x) :
  ∃ms c,x=.map ms c∧Ec kt (λy v=>aH g w (f y) v) l ms:=by
 cases h with|map _ ms c b e=>refine⟨ms,c,rfl,by simpa using b,λj p m h1 h2=>?_⟩;have:=e j (eg S kt p.1,f p.2) m (by simp[h1]) h2;exact⟨SI a this.1,this.2⟩
def Ec.ob{β:Type}{d:TypeDesc}(a:iA kt d){f:β->T}{l:L (den S.A kt×β)}(h:Ec kt (λy v=>aH g w (f y) v) l ms)(c:Nat):gX g w (.map (l.map λp=>(eg S kt p.1,f p.2))) (.map ms c):=by
 refine .map _ ms c (by simpa using h.1) λj t m h1 h2=>?_;simp only[lC,fV]at h1;obtain⟨p,b,rfl⟩:=h1
 let ⟨h3,h4⟩:=h.2 j p m b h2
 rw[h3];exact⟨abg a,h4⟩
def Q5(S:Sg)(i:TI)(τ:Ty):Prop:=bif kU τ then D.agg i.zero=enc S τ (S.zero τ)else i.zero=[enc S τ (S.zero τ)]
def IK{I:Nat->Prop}(q:fy S){t:TypeId}{i:TI}(hi:nr P t i){τ:Ty}(r:yQ S i τ)(d:Q5 S i τ){x:TypeInfo}{z:Value}(s:P.info? t=Z x)(f:x.zero=Z z):dD I w (enc S τ (S.zero τ)) z:=by
 let ⟨A,d0,B,g,C,_,y,h,a,_⟩:=hi.all
 rw[s]at g;cases g;rw[f]at h;cases h
 let ⟨m,o⟩:=hi.zag x z s f
 unfold Q5 at d;cases b:kU τ with
 |true=>
  rw[b,iq]at d;have k:i.agg=W:=by cases τ with|st n=>exact r.1|_=>cases b
  obtain⟨E,rfl⟩:=m k;rw[<-d];refine .agg _ _ a.1 (λc u=>?_) (λj c v h1 h2=>Bv (a.2 j c v h1 h2));cases τ with
  |st n=>
   have e:i.zero=S.cells n (S.zero (.st n)):=by have:D.agg i.zero=D.agg (S.cells n (S.zero (.st n))):=d;injection this
   rw[e,q.cells]at u;exact iu _ _ (q.leaf n) c u
  |_=>cases b
 |false=>
  rw[b,j9]at d;have l:i.agg=J:=by
   cases τ with
   |st n=>cases b
   |_=>exact r.2.1
  have p:=o l;have:=a.2 0 _ z (by rw[d];rfl) (by rw[p];rfl);exact Bv this
structure XOk(S:Sg)(E:gm):Prop where
 zr:∀t i τ,E.E.ti t=Z i->E.ty t=Z τ->Q5 S i τ
 mt:∀t m,E.mt t=Z m->∃kid d,E.E.P.underlying t=Z (.map kid m.el)∧E.E.P.underlying kid=Z d∧iA m.kt d∧(∃x z,E.E.P.info? m.el=Z x∧x.zero=Z z)∧
  ∀vt,m.vt=Z vt->E.ty m.el=Z vt∧∃i,E.E.ti m.el=Z i
 KC:∀t nm f,E.KC t nm=Z f->∃x mm d,E.E.P.info? t=Z x∧x.methods.find? (·.name==nm)=Z mm∧mm.path=#[]∧E.E.P.underlying t=Z d∧
  ((mm.func=Z (f,J)∧∀e,d≠.pointer e)∨(mm.func=Z (f,W)∧∃e,d=.pointer e))
def cR{fr:bU S}{a:Act}(hf:cQ g (bH fr) a w){x:Operand}{v:V S}(h:cD fr x=Z v):aH g w (low v) (a.eval x):=bQ hf (cC h)
def GQ{b a:Ty}{l:L (den S.A kt×den S.A b)}{c:L (den S.A kt'×den S.A a)}(h:yK kt b kt' a l=Z c):kt=kt'∧b=a∧HEq l c:=by
 unfold yK at h
 grind
def GS{β:Type}{l:L (den S.A kt×β)}{a:L (den S.A kt'×β)}(h:JG kt kt' l=Z a):kt=kt'∧HEq l a:=by
 unfold JG at h
 grind
def Ek{w:World}{b:Nat}(x:Obj)(c:b<w.heap.size):({w with heap:=w.heap.setIfInBounds b x}:World).heap.size=w.heap.size∧(∀a,a≠b->({w with heap:=w.heap.setIfInBounds b x}:World).heap[a]?=w.heap[a]?)∧
  ({w with heap:=w.heap.setIfInBounds b x}:World).heap[b]?=Z x:=by
 grind
def FO{β:Type}{f:β->T}{k:den S.A kt}{l:L (den S.A kt×β)}(b:Ec kt (λy v=>aH g w (f y) v) l ms){z:β}{c:Value}(h:aH g w (f z) c) :
  aH g w (f (HV kt z k l)) (((Dg kt k l).bind λj=>(ms[j]?).map (·.val)).getD c)∧(((Dg kt k l).bind λj=>(ms[j]?).map (·.val)).isSome=Gj kt k l):=by
 cases a:Dg kt k l with
 |none=>
  let ⟨h1,h2,_⟩:=Ga a
  rw[h1,h2];exact⟨h,rfl⟩
 |some j=>
  let ⟨p,d,_,h1,h2,_⟩:=wu a
  rw[h1,h2];have i:j<ms.size:=by rw[<-b.1];exact cB d
  have e:ms[j]?=Z ms[j]:=uq i;simp[Si,e,jK,Sf,Option.isSome_some,and_true];exact(b.2 j p _ d e).2
end
end
section
def Cc:∀(l:L (TypeId×Ty))(x:ye S.A l),isNil l x=(uN S l x).isNone
 |[],_=>rfl|_::_,.inl _=>rfl|_::l,.inr y=>Cc l y
def GF:∀(l:L (TypeId×Ty))(t:TypeId)(j:Nat)(x:ye S.A l)(z:(t:Ty)->den S.A t),Ot l=W->xb l t=Z j->
  (mG l j x=W∧uN S l x=Z (t,enc S (ny l j) (kF z l j x)))∨(mG l j x=J∧kF z l j x=z (ny l j)∧∀d,uN S l x≠Z (t,d))
 |[],t,j,x,z,_,h=>by cases h
 |p::l,t,j,x,z,e,h=>by
  simp only[Ot,fF]at e;obtain⟨a,h⟩|⟨a,h⟩:=af h
  .simp at h;subst h;have b:=vM a;cases x with
   |inl y=>left;exact⟨rfl,by simp only[uN,b];rfl⟩
   |inr y=>
    right
    refine⟨rfl,rfl,λd f=>?_⟩;simp[uN]at f;have c:xb l p.1=Y:=by
     simp_all
    exact Cb l y p.1 c d (by grind)
  .split at h
   .rename_i i k;simp only[gR]at h;subst h;cases x with
    |inl y=>
     right
     refine⟨rfl,rfl,λd f=>?_⟩
     grind[uN]
    |inr y=>
     obtain⟨h1,h2⟩|⟨h1,h2,h3⟩:=GF l t i y z e.2 k
     .exact .inl ⟨h1,h2⟩
     .exact .inr ⟨h1,h2,h3⟩
   .cases h
where
 Cb:∀(l:L (TypeId×Ty))(x:ye S.A l)(t:TypeId),xb l t=Y->∀d,uN S l x≠Z (t,d)
  |[],_,_,_,_,h=>by cases h
  |p::l,.inl y,t,g,d,h=>by
   simp_all[xb,uN]
  |p::l,.inr y,t,g,d,h=>by
   simp only[xb]at g;cases a:Nq p.1 t with
   |true=>simp_all|false=>
    refine Cb l y t ?_ d h
    grind
section
variable {g:Gh}{w:World}{P:Program}
def EA(e:fy S){n:Nat}{x:S.A n}{v:Value}(h:aH g w (eg S (.di n) x) v) :
  (uN S (S.alts n) (S.uG n x)=Y∧v=.nilIface)∨∃t d u,uN S (S.alts n) (S.uG n x)=Z (t,d)∧v=.iface t u∧dD g.bp w d u:=by
 have b:aH g w (.sym (O2 (S.rV n x))) v:=h;rw[e.rV]at b;cases b with
 |sym _ _ a=>
  cases c:uN S (S.alts n) (S.uG n x)with
  |none=>
   rw[c]at a;cases a
   simp_all
  |some p=>
   rw[c]at a
   let ⟨t,d⟩:=p
   cases a with|di _ _ u f=>grind
variable {s:bg S}
def KF(hs:aV g (aC s) w)(hn:s.aD<bI){t:TypeId}{r:O Value}{a el:TypeId}(f:P.underlying t=Z (.map a el))(d:∀v,r=Z v->∃k n,v=.int k n){ob:u0 S}(b:dc ob=.map []) :
  ∃v w' g',(Instr.makeMap t r).run P w=.ok v w'∧aH g' w' (low (.mp s.aD:V S)) v∧cO [] s g w (dj s ob) g' w':=by
 let ⟨c,e⟩:=hs.newObj (ob0:=.map []) (x0:=.map #[] 0) hn (.map [] #[] 0 rfl (λj t m h=>by simp at h))
 refine⟨.map (Z w.heap.size),_,_,?_,.mp _ _ (by simp[Gh.dB,aC]),cO.lq hs (by rw[g6,b];exact c) e rfl rfl (CS _) (jx s ob hn)⟩;cases r with
 |none=>rfl|some v=>
  obtain⟨k,n,rfl⟩:=d v rfl
  simp_all[Instr.makeMap,aL,asInt,asIntOf]
def Pv(hs:aV g (aC s) w)(hn:s.aD<bI){t:TypeId}(c:P.underlying t=Z .string)(b:L UInt8) :
  ∃v w' g',(Instr.range t (.string (cg b))).run P w=.ok v w'∧aH g' w' (low (.ud s.aD:V S)) v∧cO [] s g w (dj s (.rI b 0)) g' w':=by
 let ⟨a,d⟩:=hs.newObj (ob0:=.rI (cg b) 0) (x0:=.stringIter (cg b) 0) hn (.rI _ _)
 refine⟨.pointer (Z ⟨w.heap.size,0,Y⟩),_,_,?_,.ud _ _ (by simp[Gh.dB,aC]),cO.lq hs (by rw[g6];exact a) d rfl rfl (CS _) (jx s _ hn)⟩;simp[Instr.range,aL c]
def FL(hS:fy S)(hs:aV g (aC s) w)(hn:s.aD<bI){t:TypeId}{i:TI}(hi:nr P t i){e:Ty}(hr:yQ S i (.sl e)){n:Int}(q:PR n=W)(k1 k2:IntKind) :
  ∃v w' g',(Instr.makeSlice t (.int k1 n) (.int k2 n)).run P w=.ok v w'∧aH g' w' (low (.sh s.aD 0:V S)) v∧cO [] s g w (dj s (.arr e (List.replicate (az n) (S.zero e)) 0)) g' w':=by
 let ⟨⟨z,r,hz⟩,_,_,u⟩:=hr
 let ⟨xi,d1,z1,NA,y,_,hag,hzx,BT,hk⟩:=hi.all
 rw[r]at hk;obtain⟨el,j,d',p,rfl,hj,l,hju,afK,A,f,B,hj0,hjb1,hjb2,hjb3,C⟩:=hk;simp[PR,fF,qE]at q;obtain⟨m,rfl⟩:∃m:Nat,n=(m:Int):=⟨n.toNat,by omega⟩;have hm:m<=17179869184:=by omega
 have hbm:j.bytes*m<=4096*17179869184:=MS B hm;have o:=run_make (P:=P) w t el j p y hj A k1 k2 (m:Int) (m:Int) (by omega) (Ig _) (by
  have:((j.bytes*m:Nat):Int)<=281474976710656:=by omega
  rwa [Int.natCast_mul]at this) (by omega)
 have E:(bif kU e then D.agg z else z.getD 0 default)=enc S e (S.zero e):=by
  grind
 have a:=Mb (I:=g.bp) (w:=w.alloc (.cells (madeCells p.cells (m*j.size)) el)) (ag:=kU e) (sz:=S.width e) (len:=m) f (by
  cases hst:kU e with
  |true=>rfl|false=>
   simp_all) (by rw[bR];exact C)
 rw[E]at a;have F:(List.replicate m (S.zero e)).map (enc S e)=List.replicate m (enc S e (S.zero e)):=by simp
 let x:fh:=⟨Z ⟨w.heap.size,0,Y⟩,m,m,S.width e⟩
 have K:∀b,x.at b->b=w.heap.size:=by
  rintro b ⟨ad,h1,h2,_⟩
  grind
 have k:¬g.bp w.heap.size:=λh=>by have:=hs.bp _ h;omega
 let ⟨Q,he⟩:=aV.PN (w':=w.alloc (.cells (madeCells p.cells (m*j.size)) el)) hs hn (sz:=S.width e) (es:=List.replicate m (enc S e (S.zero e))) (x:=x) rfl rfl (by simp) (λb R=>qn w _ b R)
  (λb R=>by rw[K b R];simp)
  ⟨by simp[x],eR _,a.rows,u,λd hd=>by
    have hde:=WT hd;rw[hde,Ca hS,List.length_replicate];have:m*zI S e<=17179869184*(2*4096):=MS hm (by omega);omega,λhc=>by
    refine⟨w.heap.size,madeCells p.cells (m*j.size),el,rfl,⟨λh=>(by cases h),λh=>absurd h k⟩,xR w _,by rw[size_madeCells,l];grind,λi d jj c h1 h2=>?_⟩
    let ⟨v,h3,h4⟩:=a.rel i jj d c h1 h2
    refine⟨v,?_,h4⟩;rw[<-l]at h3 ⊢;exact h3⟩ rfl
 refine⟨_,_,_,o,.sh _ _ _ _ (S.width e) _ (Gh.fM _ _ _ _),cO.lq hs ?_ he rfl rfl (CS _) (jx s _ hn)⟩;rw[g6];simp[dc,az,vZ,F];exact Q
end
end
section
section
variable {g:Gh}{w:World}
variable {o n:Nat}{v:Value}{P:Program}{i:TI}{a:Act}{s s':bg S}{E:gm}{fr:bU S}{c:Bool}{t:V S}
def aH.Gc(h:aH g w (.mp o) v):∃b,v=.map (Z b)∧g.bP o=Z b:=by cases h;simp_all
def aH.abz(h:aH g w (.ud o) v):∃b,v=.pointer (Z ⟨b,0,Y⟩)∧g.bP o=Z b:=by cases h;simp_all
def aH.ae3{k:IntKind}{n:Int}(h:aH g w (.kn k n) v):v=.int k n:=by cases h;rfl
def aH.Az{u:Value}(h:aH g w (.sym (.lit u)) v):v=u:=by cases h with|sym _ _ a=>cases a;rfl
def aH.SJ{cs:L T}(h:aH g w (.agg cs) v):∃vs,v=.agg vs∧PW (aH g w) cs vs.toList:=by cases h with|agg _ vs a b=>exact⟨vs,rfl,by simpa using a,λj t v h1 h2=>b j t v h1 (by simpa using h2)⟩
def IV(P:Program)(d:Nat){ty:TypeId}{a:Array (String×TypeId)}(b:P.underlying ty=Z (.interface a)):(Op.equalIn (d+1) ty .nilIface .nilIface).run P w=.ok W w:=by simp only[Op.equalIn,run_bind,aL b,andThen_ok];rfl
def TT(P:Program)(d:Nat){ty e:TypeId}(b:P.underlying ty=Z (.slice e))(a:O Addr)(n m:Nat):(Op.equalIn (d+1) ty (.slice a n m) (.slice Y 0 0)).run P w=.ok a.isNone w:=by simp only[Op.equalIn,run_bind,aL b,andThen_ok];cases a<;>rfl
def SL(f:fy S){t:TypeId}(hi:nr P t i)(j:i.kd=.iface){x:S.A n}(h:aH g w (eg S (.di n) x) v)(a:Operand) :
  ((do eqGuard .eql t a (.const .nilIface) v .nilIface;binOp .eql t v .nilIface:Sem Value)).run P w=.ok (.bool (isNil (S.alts n) (S.uG n x))) w∧
  ((do eqGuard .neq t a (.const .nilIface) v .nilIface;binOp .neq t v .nilIface:Sem Value)).run P w=.ok (.bool (!(isNil (S.alts n) (S.uG n x)))) w:=by
 let ⟨_,d0,_,_,e,_,_,_,_,b⟩:=hi.all
 rw[j]at b;obtain⟨l,rfl⟩:=b;rw[Cc];obtain⟨c,rfl⟩|⟨k,d,u,c,rfl,_⟩:=EA f h
 .rw[c];refine nZ a (.const .nilIface) rfl rfl (λop=>?_) (IV P 9999 e);unfold eqGuard;cases op<;>cases a<;>rfl
 .rw[c];refine nZ a (.const .nilIface) rfl rfl (λop=>?_) (IW 9999 e k u);unfold eqGuard;cases op<;>rfl
def Sz{t:TypeId}(hi:nr P t i)(c:i.kd=.iface)(h:aH g w (.sym (.lit .nilIface)) v)(b:Operand) :
  ((do eqGuard .eql t b (.const .nilIface) v .nilIface;binOp .eql t v .nilIface:Sem Value)).run P w=.ok (.bool W) w∧
  ((do eqGuard .neq t b (.const .nilIface) v .nilIface;binOp .neq t v .nilIface:Sem Value)).run P w=.ok (.bool J) w:=by
 let ⟨_,d0,_,_,d,_,_,_,_,a⟩:=hi.all
 rw[c]at a;obtain⟨e,rfl⟩:=a;cases h with
 |sym _ _ h=>
 cases h;refine nZ b (.const .nilIface) rfl rfl (λop=>?_) (IV P 9999 d);unfold eqGuard;cases op<;>cases b<;>rfl
def TU(P:Program)(d:Nat){ty e:TypeId}(b:P.underlying ty=Z (.pointer e))(a:O Addr):(Op.equalIn (d+1) ty (.pointer a) (.pointer Y)).run P w=.ok a.isNone w:=by simp only[Op.equalIn,run_bind,aL b,andThen_ok];cases a<;>rfl
def Ep{t:TypeId}(hi:nr P t i)(d:i.kd=.ptr){a:O Addr}(f:v=.pointer a)(c:Operand) :
  ((do eqGuard .eql t c (.const (.pointer Y)) v (.pointer Y);binOp .eql t v (.pointer Y):Sem Value)).run P w=.ok (.bool a.isNone) w∧
  ((do eqGuard .neq t c (.const (.pointer Y)) v (.pointer Y);binOp .neq t v (.pointer Y):Sem Value)).run P w=.ok (.bool (!a.isNone)) w:=by
 subst f
 let ⟨_,d0,_,_,g,_,_,_,_,b⟩:=hi.all
 rw[d]at b;obtain⟨e,rfl⟩:=b;exact nZ c (.const (.pointer Y)) rfl rfl (λop=>by cases op<;>rfl) (TU P 9999 g a)
def Kw{y:O (S.A n)}(h:aH g w (eg S (.opt n) y) v):∃a,v=.pointer a∧Aa y=!a.isNone∧(Aa y=W->∀z,aH g w (.mc (enc S (.st n) (Gl z y)) 0) v):=by
 cases h with
 |sym _ _ h=>
 cases y with
 |none=>cases h;exact⟨Y,rfl,rfl,λh=>by cases h⟩
 |some x=>
  cases h with|pt _ b val c d e=>exact⟨Z (b.add 0),rfl,rfl,λ_ _=>.mc _ 0 b val c d e⟩
def aen{t:TypeId}(hi:nr P t i){sz sM:Nat}{ag:Bool}{z:L D}(d:i.kd=.slice sz ag sM z)(a:O Addr)(n m:Nat)(c:Operand) :
  ((do eqGuard .eql t c (.const (.slice Y 0 0)) (.slice a n m) (.slice Y 0 0);binOp .eql t (.slice a n m) (.slice Y 0 0):Sem Value)).run P w=.ok (.bool a.isNone) w:=by
 let ⟨_,d0,_,_,e,_,_,_,_,b⟩:=hi.all
 rw[d]at b;obtain⟨el,j,f,g,rfl,_⟩:=b;refine(nZ c (.const (.slice Y 0 0)) rfl rfl (λop=>?_) (TT P 9999 e a n m)).1;unfold eqGuard;cases op<;>rfl
def aeo(hs:aV g (aC s) w){e:Ty}{x:V S}{l:L (den S.A e)}(h:Kg s e x=Z l)(q:aH g w (low x) v):∃a n m,v=.slice a n m∧(a.isNone=W->isE l=W):=by
 unfold Kg at h;split at h
 .simp only[gR]at h;subst h;cases q with|emp a=>exact⟨a,0,0,rfl,λ_=>rfl⟩
 .rename_i t C;obtain⟨rfl,i⟩:=fO h;cases i;cases q with
  |kM n Q a hn A=>
   refine⟨a,_,_,rfl,λE=>?_⟩;cases A with
   |sl _ _ _ sz val u F I R K=>
   cases C with
   |nil=>rfl|cons y C=>
    simp_all
 .let ⟨f,i⟩:=fO h
  cases f;cases i;cases q with
  |pU j d c a hj A=>
   refine⟨a,_,_,rfl,λE=>?_⟩
   grind[xO]
 .rename_i t x'
  let ⟨f,i⟩:=fO h
  subst f;cases i;cases q with
  |sym _ _ A=>
   cases A with
   |sl _ a cap sz val u F I R K=>
   refine⟨a,_,_,rfl,λE=>?_⟩;cases x' with
   |nil=>rfl|cons y C=>
    simp_all
 .rename_i o r;have key:∀(B:Bool)(t:Ty)(k:L (den S.A t))(era:Nat),s.ob.get o=Z (if B then .lK t k era else .arr t k era)->(bif Nq r era then oJ t e k else Y)=Z l->∃a n m,v=.slice a n m∧(a.isNone=W->isE l=W):=by
   intro B t k era ho h;obtain⟨hb,h⟩|⟨_,h⟩:=af h
   .let ⟨f,i⟩:=fO h
    subst f;cases i;have P:=beq_iff'.1 hb;subst P;cases q with
    |sh _ _ len cap sz a hx=>
     have z:(aC s).ob.get o=Z (gj B (S.width t) (k.map (enc S t)) r):=by rw[aJ,ho];cases B<;>rfl
     let ⟨p,_⟩:=hs.nQ z hx
     refine⟨a,len,cap,rfl,λE=>?_⟩;cases k with
     |nil=>rfl|cons y k=>
      have h1:=p.len;have h2:=p.cap;have K:(⟨a,len,cap,sz⟩:fh).cap≠0:=by grind
      let ⟨b,vs,ty,h3,_⟩:=p.mem K
      simp_all
   .cases h
  split at h
  .simp_all
  .simp_all
  .cases h
 .cases h
def Jf(hX:XOk S E)(hS:fy S)(hf:cQ g (bH fr) a w)(hs:aV g (aC s) w)(o:Oper){ty:TypeId}{x ix y:Operand}(A:o.op=.mapUpdate ty x ix y∨o.op=.insert ty x ix y)
  (h:(match E.mt ty,cD fr x,cD fr ix,cD fr y with
  |some m,Z (.mp o),Z k,Z y=>match UE m.kt k,s.ob.get o with
   |some k,Z (.map kt q l)=>match yK kt q m.kt q l,bS s q y with
    |some l,Z (y,os)=>match dR s os with
     |some s1=>bif Nl s.fl o&&aau m.vt q then Z (W,(dU:V S),{s1 with ob:=s1.ob.set aM o (.map m.kt q (jL m.kt k y l)),wr:=o::s1.wr})else Y
     |none=>Y
    |_,_=>Y
   |some k,Z (.HU kt l)=>match JG kt m.kt l with
    |some l=>bif Nl s.fl o then Z (W,dU,{s with ob:=s.ob.set aM o (.HU m.kt (jL m.kt k y l)),wr:=o::s.wr})else Y
    |none=>Y
   |_,_=>Y
  |_,_,_,_=>Y)=Z (c,t,s')) :
  ∃v w' g',((execOp a.eval o).run E.E.P w=.ok (.value v) w'∨((execOp a.eval o).run E.E.P w=.ok .skip w'∧v=undef))∧aH g' w' (low t) v∧cO [] s g w s' g' w':=by
 split at h;rotate_left
 .cases h
 rename_i m e kv yv hm hx hk hy
 let ⟨kid,d,ht,hu,n,_,_⟩:=hX.mt _ _ hm
 let ⟨b,hxe,hb⟩:=aH.Gc (cR hf hx)
 have j:∀w',(Instr.mapUpdate ty (a.eval x) (a.eval ix) (a.eval y)).run E.E.P w=.ok () w'->(execOp a.eval o).run E.E.P w=.ok .skip w':=by intro w' hr;obtain A|A:=A<;>simp[execOp,A,hr]
 split at h
 .rename_i k kt q l r B;have VR:=qS r (cR hf hk);split at h;rotate_left
  .cases h
  rename_i l' y' os hcm KS;obtain⟨rfl,_,K⟩:=GQ hcm;cases K;split at h;rotate_left
  .cases h
  rename_i s1 Q;obtain⟨C,R⟩|⟨_,R⟩:=af h
  rotate_left
  .cases R
  clear h;obtain⟨_,rfl,rfl⟩:=R;rw[fF]at C;have hfl:s.fl<=e:=gU C.1
  let ⟨p,hp,hpp⟩:=qw hS s q yv KS
  let ⟨u,hd⟩:=mu hs _ hp hpp (cR hf hy)
  let ⟨g1,F,he1,hfr⟩:=eG os hs (dw hS _ Q) u
  have hyd:=hd g1 _ F he1 hfr
  let ⟨f1,f2,f3,f4,f5,f6,f7⟩:=eN Q
  have hno:e∉os:=λhmem=>by have:=(u e hmem).ov (by rw[aJ,B];rfl);cases this
  have i:(aC s1).ob.get e=Z (dc (.map m.kt q l')):=by rw[aJ,f6 e hno,B];rfl
  have DP:g1.bP e=Z b:=he1.bP _ _ hb
  let ⟨x0,hh,XT⟩:=(F.box e b DP).2.2 _ i
  obtain⟨ms,cl,rfl,hmr⟩:=gX.Ml n (f:=eg S q) XT
  let ⟨ms',c',I,z⟩:=yx (P:=E.E.P) n ht hu k hh hmr (x:=y') (ug hyd)
  have hlt:=(F.box e b DP).2.1
  let ⟨q1,q2,q3⟩:=Ek (.map ms' c') hlt
  let ⟨LW,UU⟩:=F.setObj DP i rfl (by show s1.fl<=e;omega) (ob':=dc (.map m.kt q (jL m.kt k y' l'))) (Ec.ob n (f:=eg S q) z c') q1 q2 q3 rfl rfl
  have apS:rF s {s1 with ob:=s1.ob.set aM e (.map m.kt q (jL m.kt k y' l')),wr:=e::s1.wr}:=(mH Q).trans' (MG f3.symm) (o9 _ _ _);refine⟨undef,_,g1,.inr ⟨j _ (by rw[hxe,VR];exact I),rfl⟩,.sym _ _ (.lit _),cO.lq hs (by rw[eF];exact LW) (he1.trans (by grind[aC])) f1 f2 (MG f3.symm) apS⟩
 .rename_i k kt l r B;have VR:=qS r (cR hf hk);split at h;rotate_left
  .cases h
  rename_i l' hck;obtain⟨rfl,K⟩:=GS hck;cases K;obtain⟨C,R⟩|⟨_,R⟩:=af h
  rotate_left
  .cases R
  clear h;obtain⟨_,rfl,rfl⟩:=R;have i:(aC s).ob.get e=Z (dc (.HU m.kt l')):=by rw[aJ,B];rfl
  let ⟨x0,hh,XT⟩:=(hs.box e b hb).2.2 _ i
  obtain⟨ms,cl,rfl,hmr⟩:=gX.Ml n (f:=low) XT
  let ⟨ms',c',I,z⟩:=yx (P:=E.E.P) n ht hu k hh hmr (x:=yv) (cR hf hy)
  let ⟨q1,q2,q3⟩:=Ek (.map ms' c') (hs.box e b hb).2.1
  let ⟨LW,UU⟩:=hs.setObj hb i rfl (gU C) (ob':=dc (.HU m.kt (jL m.kt k yv l'))) (Ec.ob n (f:=low) z c') q1 q2 q3 rfl rfl
  exact⟨undef,_,g,.inr ⟨j _ (by simp_all),rfl⟩,.sym _ _ (.lit _),cO.lq hs (by rw[eF];exact LW) UU rfl rfl (eR _) (o9 _ _ _)⟩
 .cases h
def aaW(hS:fy S)(hT:Bd E.E)(hTy:Ra S E)(hX:XOk S E)(hf:cQ g (bH fr) a w)(hs:aV g (aC s) w)(o:Oper)(h:uc E fr s o.op=Z (c,t,s'))(hc:c=W) :
  ∃v w' g',((execOp a.eval o).run E.E.P w=.ok (.value v) w'∨((execOp a.eval o).run E.E.P w=.ok .skip w'∧v=undef))∧aH g' w' (low t) v∧cO [] s g w s' g' w':=by
 unfold uc at h;split at h
 ·
  rename_i ty r A;obtain⟨hb,C⟩|⟨_,C⟩:=af h
  rotate_left
  .cases C
  clear h;rw[fF]at hb;have hn:s.aD<bI:=gU hb.1;split at C;rotate_left
  .cases C
  rename_i m hm
  let ⟨kid,d,ht,hu,B,_,_⟩:=hX.mt _ _ hm
  have hr:∀v,r.map a.eval=Z v->∃k n,v=.int k n:=by
   intro v R;cases r with
   |none=>cases R
   |some x=>
    simp at R;subst R;have hh:=hb.2;simp[NH]at hh;split at hh
    .rename_i k n F;exact⟨_,_,(cR hf F).ae3⟩
    .rename_i k n F;exact⟨_,_,aH.Az (cR hf F)⟩
    .cases hh
  have fin:∀ob:u0 S,dc ob=.map []->(W,(.mp s.aD:V S),dj s ob)=(c,t,s')->
    ∃v w' g',((execOp a.eval o).run E.E.P w=.ok (.value v) w'∨((execOp a.eval o).run E.E.P w=.ok .skip w'∧v=undef))∧aH g' w' (low t) v∧cO [] s g w s' g' w':=λob mP he=>by
   obtain⟨_,rfl,rfl⟩:=he
   let ⟨v,w',g',h1,h2,h3⟩:=KF (P:=E.E.P) hs hn ht hr mP
   exact⟨v,w',g',.inl (by simp[execOp,A,h1]),h2,h3⟩
  split at C
  .exact fin _ rfl (ke C)
  .exact fin _ rfl (ke C)
 ·
  rename_i ty x ix ok A;split at h;rotate_left
  .cases h
  rename_i m xv kv hm F hk;split at h;rotate_left
  .cases h
  rename_i vt hvt;split at h;rotate_left
  .cases h
  rename_i k l hkey K;obtain⟨_,rfl,rfl⟩:=h
  let ⟨kid,d,ht,hu,B,⟨xi,z,Q,hz⟩,hvv⟩:=hX.mt _ _ hm
  let ⟨ajG,i,UN⟩:=hvv vt hvt
  have VR:=qS hkey (cR hf hk);have hxr:=cR hf F;have XM:aH g w (eg S vt (S.zero vt)) z:=ug (IK hS (hT.ti _ _ UN) (hTy.row _ _ _ UN ajG) (hX.zr _ _ _ UN ajG) Q hz);have fin:∀(u:Value)(b:Bool),(Instr.lookup ty (a.eval x) (a.eval ix) ok).run E.E.P w=.ok (if ok then .tuple #[u,.bool b]else u) w->aH g w (eg S vt (HV m.kt (S.zero vt) k l)) u->b=Gj m.kt k l->
    ∃v w' g',((execOp a.eval o).run E.E.P w=.ok (.value v) w'∨((execOp a.eval o).run E.E.P w=.ok .skip w'∧v=undef))∧
     aH g' w' (low (bif ok then .gT [.ty vt (HV m.kt (S.zero vt) k l),.ty .bool (Gj m.kt k l)]else .ty vt (HV m.kt (S.zero vt) k l):V S)) v∧cO [] s g w s g' w':=by
   intro u b hrun hu hbb;refine⟨_,w,g,.inl (by simp only[execOp,A,run_bind,hrun,andThen_ok,run_pure];rfl),?_,cO.refl hs⟩;cases ok with
   |false=>exact hu|true=>
    subst hbb;refine .gT _ _ rfl λj t' v' h1 h2=>?_
    match j with
    |0=>simp[bu]at h1 h2;subst h1;subst h2;exact hu|1=>simp[bu]at h1 h2;subst h1;subst h2;exact .sym _ _ (.lit _)|j+2=>simp[bu]at h1
  unfold Xm at K;split at K
  .rename_i oid;split at K
   .rename_i kt' vt' l' mP;obtain⟨rfl,rfl,hll⟩:=GQ K;cases hll
    let ⟨b,hxe,hb⟩:=aH.Gc hxr
    obtain⟨x0,hh,XT⟩:=(hs.box oid b hb).2.2 _ (by rw[aJ,mP];rfl);obtain⟨ms,cl,rfl,hmr⟩:=gX.Ml B (f:=eg S vt') XT;have hlk:=y8 (P:=E.E.P) B ht hu Q hz k hh hmr.1 (λj p q h1 h2=>(hmr.2 j p q h1 h2).1) ok
    let ⟨r1,r2⟩:=FO (f:=eg S vt') (k:=k) hmr XM
    refine fin _ _ ?_ r1 r2;rw[VR,hxe,hlk];cases hq:(Dg m.kt k l').bind λj=>(ms[j]?).map (·.val)with|none=>simp|some v=>simp
   .cases K
  .simp only[gR]at K;subst K;refine fin z J ?_ XM rfl;rw[VR,aH.Az hxr];exact E9 B ht hu Q hz k ok
  .rename_i vt' l';obtain⟨rfl,rfl,hll⟩:=GQ K;cases hll;cases ae9:a.eval x with
   |map mb=>
    rw[ae9]at hxr;cases hxr with
    |sym _ _ hd=>
    cases hd with
    |mp _ _ b ms cl I hh h1 h2 NF hv1=>
    have hmr:Ec m.kt (λy v=>aH g w (eg S vt' y) v) l' ms:=⟨by simpa using h1,λj p q e1 e2=>⟨SI B (ug (NF j _ q (by simp[e1]) e2)),ug (hv1 j _ q (by simp[e1]) e2)⟩⟩;have hlk:=y8 (P:=E.E.P) B ht hu Q hz k hh hmr.1 (λj p q h1 h2=>(hmr.2 j p q h1 h2).1) ok
    let ⟨r1,r2⟩:=FO (f:=eg S vt') (k:=k) hmr XM
    refine fin _ _ ?_ r1 r2;rw[VR,ae9,hlk];cases hq:(Dg m.kt k l').bind λj=>(ms[j]?).map (·.val)with|none=>simp|some v=>simp
   |_=>
    rw[ae9]at hxr;cases hxr with|sym _ _ hd=>cases hd
  .cases K
 .exact Jf hX hS hf hs o (.inl ‹_›) h
 .exact Jf hX hS hf hs o (.inr ‹_›) h
 ·
  rename_i ty n cp A;split at h;rotate_left
  .cases h
  rename_i i e nv cv I he hn hcv;split at h;rotate_left
  .cases h
  rename_i n1 c1 B hn1 hc1;obtain⟨hb,C⟩|⟨_,C⟩:=af h
  rotate_left
  .cases C
  obtain⟨rfl,rfl,rfl⟩:=C;rw[fF]at hc;have hcn:c1=n1:=by simpa[gi]using hc.2
  subst hcn
  let ⟨p,hp,hpp⟩:=gE hn1
  let ⟨q,hq,hqq⟩:=gE hc1
  have e1:=dQ hp hpp (cR hf hn);have e2:=dQ hq hqq (cR hf hcv)
  let ⟨v,w',g',h1,h2,h3⟩:=FL (P:=E.E.P) hS hs (gU hb) (hT.ti _ _ I) (hTy.row _ _ _ I he) hc.1 .i64 .i64
  exact⟨v,w',g',.inl (by simp[execOp,A,e1,e2,h1]),h2,h3⟩
 ·
  rename_i ty x A;split at h;rotate_left
  .cases h
  rename_i i xv I F;split at h;rotate_left
  .cases h
  rename_i b B hb;obtain⟨hn,C⟩|⟨_,C⟩:=af h
  rotate_left
  .cases C
  obtain⟨_,rfl,rfl⟩:=C
  let ⟨p,hp,hpp⟩:=lN hb
  have e1:=iK hp hpp (cR hf F)
  let ⟨_,d0,_,_,hu,_,_,_,_,hk⟩:=(hT.ti _ _ I).all
  rw[B]at hk;cases hk
  let ⟨v,w',g',h1,h2,h3⟩:=Pv (P:=E.E.P) hs (gU hn) hu b
  exact⟨v,w',g',.inl (by simp[execOp,A,e1,h1]),h2,h3⟩
 ·
  rename_i ty x u A;split at h;rotate_left
  .rename_i i I F;split at h;rotate_left
   .cases h
   rename_i B;obtain⟨_,rfl,rfl⟩:=h;have:=(Sz (w:=w) (hT.ti _ _ I) B (cR hf F) x).1;exact⟨_,w,g,.inl (by simp only[execOp,A,run_bind]at this ⊢;simp only[Act.eval]at this ⊢;rw[this];rfl),.kb W,cO.refl hs⟩
  .cases h
  rename_i i n y I F;split at h;rotate_left
  .cases h
  rename_i B;obtain⟨_,rfl,rfl⟩:=h;have:=(SL (S:=S) hS (hT.ti _ _ I) B (cR hf F) x).1;exact⟨_,w,g,.inl (by simp only[execOp,A,run_bind]at this ⊢;simp only[Act.eval]at this ⊢;rw[this];rfl),.sym _ _ (.lit _),cO.refl hs⟩
 ·
  rename_i ty x u A;split at h;rotate_left
  .rename_i i I F;split at h;rotate_left
   .cases h
   rename_i B;obtain⟨_,rfl,rfl⟩:=h;have:=(Sz (w:=w) (hT.ti _ _ I) B (cR hf F) x).2;exact⟨_,w,g,.inl (by simp only[execOp,A,run_bind]at this ⊢;simp only[Act.eval]at this ⊢;rw[this];rfl),.kb J,cO.refl hs⟩
  .cases h
  rename_i i n y I F;split at h;rotate_left
  .cases h
  rename_i B;obtain⟨_,rfl,rfl⟩:=h;have:=(SL (S:=S) hS (hT.ti _ _ I) B (cR hf F) x).2;exact⟨_,w,g,.inl (by simp only[execOp,A,run_bind]at this ⊢;simp only[Act.eval]at this ⊢;rw[this];rfl),.sym _ _ (.lit _),cO.refl hs⟩
 ·
  rename_i ty x u A;split at h;rotate_left
  .cases h
  rename_i i e xv I he F;split at h;rotate_left
  .cases h
  rename_i B hl;obtain⟨_,rfl,rfl⟩:=h
  let ⟨ad,n,m,R,hE⟩:=aeo hs hl (cR hf F)
  have:=aen (w:=w) (hT.ti _ _ I) B ad n m x;exact⟨_,w,g,.inl (by rw[<-R]at this;simp only[execOp,A,run_bind]at this ⊢;simp only[Act.eval]at this ⊢;rw[this];rfl),.ub _ _ hE,cO.refl hs⟩
 ·
  rename_i x A;split at h;rotate_left
  .rename_i n y F;obtain⟨rfl,rfl,rfl⟩:=h
   let ⟨p,R,zY,hr⟩:=Kw (S:=S) (show aH g w (eg S (.opt n) y) (a.eval x)from cR hf F)
   have hne:p.isNone=J:=by rw[hc]at zY;simpa using zY
   refine⟨_,w,g,.inl ?_,hr hc (S.dfl n),cO.refl hs⟩;cases p with
   |none=>cases hne
   |some q=>simp[execOp,A,R]
  .cases h
  rename_i n y F;obtain⟨rfl,rfl,rfl⟩:=h;have hr:=cR hf F;rw[Cc]at hc;obtain⟨he,_⟩|⟨t',d,u,he,R,_⟩:=EA hS (show aH g w (eg S (.di n) y) (a.eval x)from hr)
  .rw[he]at hc;cases hc
  .exact ⟨_,w,g,.inl (by simp[execOp,A,R]),R▸hr,cO.refl hs⟩
 ·
  rename_i ty x u A;split at h;rotate_left
  .rename_i i I F;split at h;rotate_left
   .cases h
   rename_i B;obtain⟨_,rfl,rfl⟩:=h;have:=(Ep (w:=w) (hT.ti _ _ I) B (aH.Az (cR hf F)) x).1;exact⟨_,w,g,.inl (by simp only[execOp,A,run_bind]at this ⊢;simp only[Act.eval]at this ⊢;rw[this];rfl),.kb W,cO.refl hs⟩
  .cases h
  rename_i i n y I F;split at h;rotate_left
  .cases h
  rename_i B;obtain⟨_,rfl,rfl⟩:=h
  let ⟨p,R,zY,_⟩:=Kw (S:=S) (show aH g w (eg S (.opt n) y) (a.eval x)from cR hf F)
  have:=(Ep (w:=w) (hT.ti _ _ I) B R x).1;exact⟨_,w,g,.inl (by simp only[execOp,A,run_bind]at this ⊢;simp only[Act.eval]at this ⊢;rw[this];rfl),by rw[zY];cases p<;>exact .sym _ _ (.lit _),cO.refl hs⟩
 ·
  rename_i ty x u A;split at h;rotate_left
  .rename_i i I F;split at h;rotate_left
   .cases h
   rename_i B;obtain⟨_,rfl,rfl⟩:=h;have:=(Ep (w:=w) (hT.ti _ _ I) B (aH.Az (cR hf F)) x).2;exact⟨_,w,g,.inl (by simp only[execOp,A,run_bind]at this ⊢;simp only[Act.eval]at this ⊢;rw[this];rfl),.kb J,cO.refl hs⟩
  .cases h
  rename_i i n y I F;split at h;rotate_left
  .cases h
  rename_i B;obtain⟨_,rfl,rfl⟩:=h
  let ⟨p,R,zY,_⟩:=Kw (S:=S) (show aH g w (eg S (.opt n) y) (a.eval x)from cR hf F)
  have:=(Ep (w:=w) (hT.ti _ _ I) B R x).2;exact⟨_,w,g,.inl (by simp only[execOp,A,run_bind]at this ⊢;simp only[Act.eval]at this ⊢;rw[this];rfl),by rw[zY];exact .sym _ _ (.lit _),cO.refl hs⟩
 ·
  rename_i x xt ty ok A;split at h;rotate_left
  .cases h
  rename_i i τ n y I he F
  let ⟨xi,d1,z,Q,KR,_,hag,hzx,BT,NF⟩:=(hT.ti _ _ I).all
  have hni:i.kd≠.iface->∀ms,d1≠.interface ms:=λhk ms hd=>hk ((hT.ti _ _ I).nif ms (by rw[KR,hd]));have hr:=EA hS (show aH g w (eg S (.di n) y) (a.eval x)from cR hf F);have XM:aH g w (eg S τ (S.zero τ)) z:=ug (IK hS (hT.ti _ _ I) (hTy.row _ _ _ I he) (hX.zr _ _ _ I he) Q hzx);have hno:i.kd≠.iface->(∀d,uN S (S.alts n) (S.uG n y)≠Z (ty,d))->(Instr.typeAssert (a.eval x) xt ty W).run E.E.P w=.ok (.tuple #[z,.bool J]) w:=by
   intro hk hne;obtain⟨_,R⟩|⟨t',d,u,he',R,_⟩:=hr
   .rw[R];simp only[Instr.typeAssert,run_bind,aL KR,andThen_ok];cases d1 with|interface ms=>exact absurd rfl (hni hk ms)|_=>simp[ey Q hzx]
   .have apK:t'≠ty:=λe=>hne d (e▸he');rw[R];simp only[Instr.typeAssert,run_bind,aL KR,andThen_ok];cases d1 with|interface ms=>exact absurd rfl (hni hk ms)|_=>simp[apK,ey Q hzx]
  split at h
  .cases h
  .rename_i j hj hk;obtain⟨hb,C⟩|⟨_,C⟩:=af h
   rotate_left
   .cases C
   clear h;have hte:=jX hb;have hk':i.kd≠.iface:=λe=>hk e;obtain⟨h1,h2⟩|⟨h1,h2,h3⟩:=GF (S.alts n) ty j (S.uG n y) S.zero (hS.alts n) hj
   ·
    obtain⟨he',_⟩|⟨t',d,u,he',R,hd⟩:=hr
    .rw[he']at h2;cases h2
    rw[he']at h2;simp at h2;obtain⟨rfl,rfl⟩:=h2;have hrun:∀ok,(Instr.typeAssert (a.eval x) xt t' ok).run E.E.P w=.ok (if ok then .tuple #[u,.bool W]else u) w:=by intro ok;rw[R];simp only[Instr.typeAssert,run_bind,aL KR,andThen_ok];cases d1 with|interface ms=>exact absurd rfl (hni hk' ms)|_=>simp
    obtain⟨hok,C⟩|⟨hok,C⟩:=af C
    .simp only[gR,fE]at C;obtain⟨_,rfl,rfl⟩:=C;subst hok;refine⟨_,w,g,.inl (by simp only[execOp,A,run_bind,hrun,andThen_ok,run_pure];rfl),.gT _ _ rfl λq t v k1 k2=>?_,cO.refl hs⟩
     match q with
     |0=>simp[bu]at k1 k2;subst k1;subst k2;exact ug hd|1=>simp[bu]at k1 k2;subst k1;subst k2;rw[h1];exact .sym _ _ (.lit _)|q+2=>simp[bu]at k1
    .obtain ⟨_,rfl,rfl⟩:=C;subst hok;exact⟨_,w,g,.inl (by simp only[execOp,A,run_bind,hrun,andThen_ok,run_pure];rfl),ug hd,cO.refl hs⟩
   ·
    obtain⟨hok,C⟩|⟨hok,C⟩:=af C
    .simp only[gR,fE]at C;obtain⟨_,rfl,rfl⟩:=C;subst hok;refine⟨_,w,g,.inl (by simp only[execOp,A,run_bind,hno hk' h3,andThen_ok,run_pure];rfl),.gT _ _ rfl λq t v k1 k2=>?_,cO.refl hs⟩
     match q with
     |0=>simp[bu]at k1 k2;subst k1;subst k2;rw[h2];subst hte;exact XM|1=>simp[bu]at k1 k2;subst k1;subst k2;rw[h1];exact .sym _ _ (.lit _)|q+2=>simp[bu]at k1
    .obtain ⟨rfl,_⟩:=C;rw[h1]at hc;cases hc
  .rename_i hj hk;have hk':i.kd≠.iface:=λe=>hk e;obtain⟨hok,C⟩|⟨hok,C⟩:=af h
   rotate_left
   .cases C
   simp only[gR,fE]at C;obtain⟨_,rfl,rfl⟩:=C;subst hok;refine⟨_,w,g,.inl (by simp only[execOp,A,run_bind,hno hk' (λd=>GF.Cb _ _ _ hj d),andThen_ok,run_pure];rfl),.gT _ _ rfl λq t v k1 k2=>?_,cO.refl hs⟩
   match q with
   |0=>simp[bu]at k1 k2;subst k1;subst k2;exact XM|1=>simp[bu]at k1 k2;subst k1;subst k2;exact .kb _|q+2=>simp[bu]at k1
 ·
  rename_i ps A;split at h;rotate_left
  .cases h
  rename_i i pv I hps;split at h;rotate_left
  .cases h
  rename_i sz ag B;simp only[fV,fE]at h;obtain⟨cs,hcs,_,rfl,rfl⟩:=h
  let ⟨p,hfl,hp⟩:=BX hS hcs
  rw[nD]at hfl
  let ⟨xi,d1,z,Q,KR,_,hag,hzx,BT,NF⟩:=(hT.ti _ _ I).all
  rw[B]at NF;obtain⟨el,j,d',rfl,hj,yg,hju,_⟩:=NF;have XM:=sY (g:=g) (w:=w) BT;obtain⟨rs,h1,h2⟩:=wJ (g:=g) (w:=w) (pl:=λk=>Z (k*sz,sz)) (λk off ti NB=>by
   obtain⟨rfl,rfl⟩:=NB;rfl) _ _ hfl hp (pH hf (uu hps)) ⟨by simpa using XM.1,λj t v h1 h2=>XM.2 j t v h1 (by simpa using h2)⟩
  refine⟨.agg rs,w,g,.inl ?_,.agg _ _ (by simpa using h2.1) (λj t v h3 h4=>h2.2 j t v h3 (by simpa using h4)),cO.refl hs⟩;have ajC:Instr.fill (λi=>Z (i*sz,sz)) z.cells (ps.map λ(i,x)=>(i,a.eval x)).toList=Z rs:=by simpa using h1
  simp only[execOp,A,Instr.build,run_bind,ey Q hzx,aL KR,dm hj,yg,andThen_ok,run_pure,ajC]
 .cases h
end
end
section
section
variable {g:Gh}{w:World}
def JQ{β:Type}{ω:Type}{X:V S->bg S->O ω}{D:O ω}{kt:Ty}(k:den S.A kt)(f:β->V S)(s:bg S):∀(l:L (den S.A kt×β)),
  yN X D (l.map λp=>(FW kt k p.1,f p.2,s))=match(Dg kt k l).bind (l[·]?)with
   |some p=>X (f p.2) s|none=>D
 |[]=>rfl|p::l=>by
  simp[pz,yN,Dg];cases a:FW kt k p.1 with
  |true=>simp[aj]|false=>
   simp[aj,j9];rw[JQ k f s l];cases Dg kt k l with|none=>rfl|some j=>simp
def w9{ω:Type}{X:V S->bg S->O ω}{n:Int}{ag:Bool}{sz:Nat}{cs:L (V S)}{s:bg S}{r:ω}:∀{l:L Nat},yN X Y (zJ n ag sz cs s l)=Z r->
  ∃j v,j∈l∧n=(j:Int)∧((cs.drop (j*sz)).take sz).length=sz∧0<sz∧CU ag ((cs.drop (j*sz)).take sz)=Z v∧X v s=Z r
 |[],h=>by cases h
 |j::l,h=>by
  simp only[zJ]at h;split at h
  .rename_i a;obtain⟨b,a⟩|⟨_,a⟩:=af a
   rotate_left
   .cases a
   rw[fF]at b;have d:=beq_iff'.1 b.1;rw[bR]at d;obtain⟨e,h⟩|⟨_,h⟩:=IU h
   .simp_all[gi]
   .let ⟨i,u,h1,h2⟩:=w9 h
    grind
  .cases h
where
 IU {α:Type} {c:Bool} {x y:O α} {r:α} (h:aj c x y=Z r):(c=W∧x=Z r)∨(c=J∧y=Z r):=af h
variable {s s':bg S}{E:gm}{fr:bU S}{a:Act}{o:Oper}{cl:Call}{b:Builtin}{args:List (V S)}{c:Bool}{t:V S}
def Sy(hT:Bd E.E)(hX:XOk S E)(hf:cQ g (bH fr) a w)(hs:aV g (aC s) w)(o:Oper){Vr:L (Bool×V S×bg S)}{p:Bool}{d:V S}(h:eX E fr s o.op=Z (Vr,p,d,s')){ω:Type}{X:V S->bg S->O ω}{r:ω}
  (e:yN X (aO p (X d s')) Vr=Z r) :
  ∃t s1 v w' g',X t s1=Z r∧((execOp a.eval o).run E.E.P w=.ok (.value v) w'∨((execOp a.eval o).run E.E.P w=.ok .skip w'∧v=undef))∧aH g' w' (low t) v∧cO [] s g w s1 g' w'∧((∀it b,o.op≠.next it b)->s1=s):=by
 unfold eX at h;split at h
 ·
  rename_i it B;split at h;rotate_left
  .cases h
  rename_i C hit;split at h;rotate_left
  .cases h
  rename_i b pos mP;obtain⟨hfl,h9⟩|⟨_,h9⟩:=af h
  rotate_left
  .cases h9
  clear h;obtain⟨rfl,rfl,rfl,rfl⟩:=h9
  let ⟨bP,hie,hb⟩:=aH.abz (cR hf hit)
  have NC:(aC s).ob.get C=Z (.rI (cg b) pos):=by rw[aJ,mP];rfl
  let ⟨x0,hh,XT⟩:=(hs.box C bP hb).2.2 _ NC
  have K:=(hs.box C bP hb).2.1;cases XT;have eo:(getObj bP).run E.E.P w=.ok (.stringIter (cg b) pos) w:=by simp[getObj,Sem.run,hh]
  have AB:∀x,(setObj bP x).run E.E.P w=.ok () {w with heap:=w.heap.setIfInBounds bP x}:=λx=>by simp[setObj,Sem.run,hh]
  have F:(cg b).size=b.length:=by rfl
  obtain⟨hp,e⟩|⟨hp,e⟩:=w9.IU e
  .have hp':pos<(cg b).size:=by rw[F];simpa[PB]using hp
   let ⟨q1,q2,q3⟩:=Ek (.stringIter (cg b) (pos+HY b pos)) K
   let ⟨LW,UU⟩:=hs.setObj hb NC rfl (gU hfl) (ob':=.rI (cg b) (pos+HY b pos)) (.rI _ _) q1 q2 q3 rfl rfl
   refine⟨_,_,.tuple #[.bool W,goInt pos,.int .i32 (vw b pos)],_,g,e,.inl ?_,.gT _ _ rfl λq t v y A=>?_,cO.lq hs (by rw[eF];exact LW) UU rfl rfl (eR _) (o9 _ _ _),λhh=>absurd B (hh it W)⟩
   .have hrun:(Instr.next (a.eval it) W o.type).run E.E.P w=.ok (.tuple #[.bool W,goInt pos,.int .i32 (vw b pos)]) {w with heap:=w.heap.setIfInBounds bP (.stringIter (cg b) (pos+HY b pos))}:=by rw[hie];simp only[Instr.next,run_bind,eo,andThen_ok,hp',ki,AB];rfl
    grind[execOp,run_bind,andThen_ok,run_pure]
   .match q with
    |0=>simp[bu]at y A;subst y;subst A;exact .kb _|1=>simp[bu]at y A;subst y;subst A;exact .sym _ _ (.lit _)|2=>simp[bu]at y A;subst y;subst A;exact .sym _ _ (.lit _)|q+3=>grind
  .have hp':¬pos<(cg b).size:=by rw[F];simpa[PB]using hp
   refine⟨_,_,.tuple #[.bool J],w,g,e,.inl ?_,.gT _ _ rfl λq t v y A=>?_,cO.refl hs,λhh=>absurd B (hh it W)⟩
   .have hrun:(Instr.next (a.eval it) W o.type).run E.E.P w=.ok (.tuple #[.bool J]) w:=by rw[hie];simp only[Instr.next,run_bind,eo,andThen_ok,hp',jS];rfl
    grind[execOp,run_bind,andThen_ok,run_pure]
   .match q with
    |0=>simp[bu]at y A;subst y;subst A;exact .kb _|q+1=>grind
 ·
  rename_i ty x ix ok B;split at h;rotate_left
  .cases h
  rename_i m C kv hm hx hk;split at h;rotate_left
  .cases h
  rename_i kt l k i mP hkey UN;split at h;rotate_left
  .cases h
  rename_i l' z hck hpz;simp only[gR,fE]at h;obtain⟨rfl,rfl,rfl,rfl⟩:=h;obtain⟨rfl,hll⟩:=GS hck;cases hll
  let ⟨kid,dd,ht,hu,Q,⟨xi,zv,NA,hz⟩,_⟩:=hX.mt _ _ hm
  have VR:=qS hkey (cR hf hk)
  let ⟨b,hxe,hb⟩:=aH.Gc (cR hf hx)
  obtain⟨x0,hh,XT⟩:=(hs.box C b hb).2.2 _ (by rw[aJ,mP];rfl);obtain⟨ms,cl,rfl,R⟩:=gX.Ml Q (f:=low) XT;have hlk:=y8 (P:=E.E.P) Q ht hu NA hz k hh R.1 (λj p q h1 h2=>(R.2 j p q h1 h2).1) ok;have XM:aH g w (low z) zv:=by
   let ⟨x',_,z',hx',_,_,hag,hz',BT,_⟩:=(hT.ti _ _ UN).all
   rw[NA]at hx';cases hx';rw[hz]at hz';cases hz'
   let ⟨hza,hzn⟩:=(hT.ti _ _ UN).zag _ _ NA hz
   let ⟨hz1,hz2⟩:=sY (g:=g) (w:=w) BT
   have hp:=qd hpz;rw[nD]at hp
   let ⟨sB,_⟩:=xE (g:=g) (w:=w) hp (vals:=zv.cells.toList) (by omega) (λj t v h1 h2=>hz2 j t v h1 (by simpa using h2))
   cases hia:i.agg with
   |true=>
    obtain⟨vs,rfl⟩:=hza hia
    simp_all[Value.cells]
   |false=>
    simp_all
  rw[JQ k (λv=>bif ok then .gT [v,.kb W]else v) s l']at e;have wrap:∀(t:V S)(u:Value)(bb:Bool),aH g w (low t) u->aH g w (low (bif ok then .gT [t,.kb bb]else t:V S)) (if ok then .tuple #[u,.bool bb]else u):=by
   intro t u bb hu;cases ok with
   |false=>exact hu|true=>
    refine .gT _ _ rfl λq t v y A=>?_
    match q with
    |0=>grind[bu]|1=>simp[bu]at y A;subst y;subst A;exact .kb _|q+2=>grind
  have c:=hlk;rw[<-hxe,<-VR]at c;cases hix:Dg m.kt k l' with
  |none=>rw[hix]at e c;exact⟨_,_,_,w,g,e,.inl (by grind[execOp,run_bind,andThen_ok,run_pure]),wrap z zv J XM,cO.refl hs,λ_=>rfl⟩
  |some j=>
   let ⟨q,hq,_⟩:=wu hix
   have hj:j<ms.size:=by rw[<-R.1];grind
   have hmj:ms[j]?=Z ms[j]:=uq hj;rw[hix]at e c;simp[Si,hq,hmj,jK]at e c;exact⟨_,_,_,w,g,e,.inl (by grind[execOp,run_bind,andThen_ok,run_pure]),wrap q.2 _ W (R.2 j q _ hq hmj).2,cO.refl hs,λ_=>rfl⟩
 ·
  rename_i B;split at h;rotate_left
  .cases h
  rename_i hi hx hk;split at h;rotate_left
  .cases h
  rename_i len sz ag n Q hn;obtain⟨hlen,h9⟩|⟨_,h9⟩:=af h
  rotate_left
  .cases h9
  clear h;obtain⟨rfl,rfl,rfl,rfl⟩:=h9;obtain⟨j,v,hjm,rfl,hl,hsz,hpk,hXv⟩:=w9 e;have hjl:j<len:=List.mem_range.1 hjm
  let ⟨pq,hp,hpp⟩:=gE hn
  have e1:=dQ hp hpp (cR hf hk)
  let ⟨_,d1,_,_,KR,hsz1,hag1,_,_,NF⟩:=(hT.ti _ _ hi).all
  rw[Q]at NF;obtain⟨el,jj,d',rfl,hj1,hj2,hj3,hj4⟩:=NF
  let ⟨vs,hxe,pP⟩:=aH.SJ (cR hf hx)
  have I:=(pP.drop (j*sz)).take sz;have K:=qd hpk;rw[mD,mE]at K
  let ⟨sB,h1⟩:=xE (g:=g) (w:=w) K I.1 I.2
  have hlv:((vs.toList.drop (j*sz)).take sz).length=sz:=by rw[<-I.1,<-mE,<-mD,eS];exact hl
  have hle:j*sz+sz<=vs.size:=by
   grind
  have hrp:=My (P:=E.E.P) (w:=w) hj1 hj3 vs (j*sz) (by omega) (λhd=>by
   grind)
  rw[hj2,<-hj4]at hrp;refine⟨v,s,_,w,g,hXv,.inl ?_,sB,cO.refl hs,λ_=>rfl⟩;have hin:(0:Int)<=(j:Int)∧(j:Int)<(len:Int):=by omega
  simp only[execOp,B,Instr.index,e1,hxe,asIntOf,run_bind,run_pure,andThen_ok,aL KR,bB hin,dm hj1,hj2,vZ,hrp]
 .cases h
def aaE(P:Program)(a:Array TypeId)(ty:TypeId)(m n:Int):(Builtin.max_ a ty #[.int .i64 m,.int .i64 n]).run P w=.ok (.int .i64 (aa4 m n)) w:=by simp only[Builtin.max_,List.foldlM_cons,List.foldlM_nil,Builtin.max2,aa4,aE];by_cases h:m<n<;>simp[h]
def aaD(P:Program)(a:Array TypeId)(ty:TypeId)(m n:Int):(Builtin.min_ a ty #[.int .i64 m,.int .i64 n]).run P w=.ok (.int .i64 (aa3 m n)) w:=by simp only[Builtin.min_,List.foldlM_cons,List.foldlM_nil,Builtin.min2,aa3,aE];by_cases h:n<m<;>simp[h]
def A3(hX:XOk S E)(hs:aV g (aC s) w)(hf:cQ g (bH fr) a w)(B:o.op=.call cl)(hb:cl.callee=.builtin b)(j:kq fr cl.args.toList=Z args)
  (h:tS E s b cl.argTypes args=Z (c,t,s')):s'=s∧∃v,(execOp a.eval o).run E.E.P w=.ok (.value v) w∧aH g w (low t) v:=by
 have e:=e8 hf (gZ j);unfold tS at h;split at h
 .rename_i k;have key:∀(l:Nat)(ob:u0 S),s.ob.get k=Z ob->(∀x,gX g w (dc ob) x->∃p c,x=.map p c∧p.size=l)->∀m,(nth cl.argTypes.toList 0).bind E.mt=Z m->
    ∃v,(execOp a.eval o).run E.E.P w=.ok (.value v) w∧aH g w (low (.ty (.int .i64) (l:Int):V S)) v:=by
   intro l ob f q m i;simp[vL]at i
   let ⟨ty,C,F⟩:=i
   let ⟨kid,d,ht,_⟩:=hX.mt _ _ F
   have h0:aH g w (.mp k) ((cl.args.toList.map a.eval)[0]'(by have:=e.1;simp[bu]at this;simp;omega)):=e.2 0 _ _ rfl (jr _)
   let ⟨bP,hbe,r⟩:=aH.Gc h0
   obtain⟨x0,hh,I⟩:=(hs.box k bP r).2.2 _ (by rw[aJ,f];rfl);obtain⟨p,cc,rfl,K⟩:=q _ I;have eo:(getObj bP).run E.E.P w=.ok (.map p cc) w:=nH hh;have P:(cl.args.map a.eval)[0]?=Z (.map (Z bP)):=by
    grind
   have z:cl.argTypes[0]?=Z ty:=by rw[ku]at C;grind
   refine⟨goInt p.size,?_,by rw[K];exact .sym _ _ (.lit _)⟩;simp[execOp,B,resolve,hb,run_bind,run_pure,andThen_ok,invoke,builtin,Builtin.len_,z,P,aL ht,eo]
  split at h
  .rename_i m kt vt l i f;obtain⟨_,rfl,rfl⟩:=h;exact⟨rfl,key l.length _ f (λx q=>by cases q with|map _ p c Q _=>simp_all) m i⟩
  .rename_i m kt l i f;obtain⟨_,rfl,rfl⟩:=h;exact⟨rfl,key l.length _ f (λx q=>by cases q with|map _ p c Q _=>simp_all) m i⟩
  .cases h
 .rename_i x y;split at h;rotate_left
  .cases h
  rename_i m n i A;obtain⟨_,rfl,rfl⟩:=h
  let ⟨a1,ha⟩:=Mg e i A
  refine⟨rfl,.int .i64 (aa4 m n),?_,.sym _ _ (.lit _)⟩
  simp_all[execOp,resolve,invoke,builtin,aaE]
 .rename_i x y;split at h;rotate_left
  .cases h
  rename_i m n i A;obtain⟨_,rfl,rfl⟩:=h
  let ⟨a1,ha⟩:=Mg e i A
  refine⟨rfl,.int .i64 (aa3 m n),?_,.sym _ _ (.lit _)⟩
  simp_all[execOp,resolve,invoke,builtin,aaD]
 .cases h
where
 Mg {l:Array Operand} {a:Act} {x y:V S} {m n:Int} (e:PW (aH g w) (bu [x,y]) (l.toList.map a.eval)) (i:g7 .i64 x=Z m) (A:g7 .i64 y=Z n):True∧l.map a.eval=#[.int .i64 m,.int .i64 n]:=by
  refine⟨trivial,?_⟩;have Q:(l.toList.map a.eval).length=2:=by have:=e.1;simpa[bu]using this.symm
  match R:l.toList.map a.eval,Q with
  |[u,v],_=>
   rw[R]at e;have h1:=e.2 0 _ _ rfl rfl;have h2:=e.2 1 _ _ rfl rfl
   grind[gE,dQ]
def Li(hX:XOk S E)(hs:aV g (aC s) w)(hf:cQ g (bH fr) a w)(I:o.op=.call cl)(hb:cl.callee=.builtin b)(p:kq fr cl.args.toList=Z args)
  (h:tT E s b cl.argTypes args=Z (c,t,s')):∃v w' g',(execOp a.eval o).run E.E.P w=.ok (.value v) w'∧aH g' w' (low t) v∧cO [] s g w s' g' w':=by
 have i:=e8 hf (gZ p);unfold tT at h;split at h;rotate_left
 .cases h
 rename_i q kv;split at h;rotate_left
 .cases h
 rename_i m kt K l hm y;split at h;rotate_left
 .cases h
 rename_i l' k Q z;obtain⟨r,R⟩|⟨_,R⟩:=af h
 rotate_left
 .cases R
 obtain⟨rfl,j⟩:=GS Q;cases j;obtain⟨_,rfl,rfl⟩:=R;have r:s.fl<=q:=gU r;simp only[vL]at hm;obtain⟨ty,KS,hmt⟩:=hm
 let ⟨kid,d,ht,hu,x,_,_⟩:=hX.mt _ _ hmt
 have A:(cl.args.toList.map a.eval).length=2:=by have:=i.1;simpa[bu]using this.symm
 match j:cl.args.toList.map a.eval,A with
 |[u,v],_=>
 rw[j]at i
 let ⟨bP,hbe,e⟩:=aH.Gc (i.2 0 _ _ rfl rfl)
 have VR:=qS z (i.2 1 _ _ rfl rfl);obtain⟨x0,hh,XT⟩:=(hs.box q bP e).2.2 _ (by rw[aJ,y];rfl);obtain⟨ms,cc,rfl,hmr⟩:=gX.Ml x (f:=eg S K) XT;have n:(cl.args.map a.eval)=#[.map (Z bP),fq m.kt k]:=by apply Array.toList_inj.1;rw[Se,j,hbe,VR]
 have B:cl.argTypes[0]?=Z ty:=by rw[ku]at KS;grind
 let ⟨ms',C,F⟩:=Po (P:=E.E.P) x ht hu k hh hmr B (ty:=o.type) (args:=cl.args.map a.eval) (by rw[n];rfl) (by rw[n];rfl)
 let ⟨q1,q2,q3⟩:=Ek (.map ms' cc) (hs.box q bP e).2.1
 let ⟨LW,UU⟩:=hs.setObj e (by rw[aJ,y];rfl) rfl r (ob':=dc (.map m.kt K (QD m.kt k l'))) (Ec.ob x (f:=eg S K) F cc) q1 q2 q3 rfl rfl
 refine⟨.tuple #[],_,g,?_,.sym _ _ (.lit _),cO.lq hs (by rw[eF];exact LW) UU rfl rfl (eR _) (o9 _ _ _)⟩;simp[execOp,I,resolve,hb,run_bind,run_pure,andThen_ok,invoke,builtin,C]
theorem Pn{E:gm}(j:XOk S E){t:TypeId}{b:String}{f:FuncId}(h:E.KC t b=Z f)(v:Value)(args:Array Value)(hf:mo E.E.P f):(callMethod (.iface t v) b args).run E.E.P w=.ok (.enter f (#[v]++args)) w:=by
 let ⟨x,q,d,k,l,m,o,a⟩:=j.KC _ _ _ h
 obtain⟨n,p⟩:∃n,E.E.P.types.size+Made.depth=n+1:=⟨E.E.P.types.size+Made.depth-1,by rfl⟩;have c:(method (E.E.P.types.size+Made.depth) t v b).run E.E.P w=.ok (f,v) w:=by
  rw[p];simp only[method,run_bind,so k,andThen_ok,l,m,follow,run_pure];obtain⟨a,g⟩|⟨a,e,rfl⟩:=a
  .simp only[a,run_bind,receiverAt,aL o,andThen_ok];cases d<;>first|(exact absurd rfl (g _))|(simp[Place.get])
  simp_all[receiverAt,aL,Place.get]
 have i:(Go.program).run E.E.P w=.ok E.E.P w:=rfl
 grind[callMethod,run_bind,andThen_ok,xC]
def Mz(g:XOk S E){c:Call}(b:o.op=.call c){x:Operand}{m:String}(d:c.callee=.invoke x m){t:TypeId}{v:Value}(e:a.eval x=.iface t v){f:FuncId}(h:E.KC t m=Z f)(i:mo E.E.P f) :
  (execOp a.eval o).run E.E.P w=.ok (.enter f (#[v]++c.args.map a.eval)) w:=by
 simp only[execOp,b,resolve,d,e,run_bind,run_pure,andThen_ok,invoke]
 grind[Array.ext',Array.toList_extract,List.take_of_length_le,Pn]
end
end
section
section
variable {g:Gh}{w:World}
def mq(s:bg S)(o:Nat)(ob:Ob):St:={aC s with ob:=(aC s).ob.set aM o ob}
variable {s s':bg S}{o n j era m g9 k r i off:Nat}{hole:Option Nat}{hl:List Value}{d:D}{h v:Value}{a:Act}
def IL(hs:aV g (aC s) w){l:L (S.A n)}{x:fh}(a:s.ob.get o=Z (.lS n j l era m g9 hole))(b:g.arr o era=Z x) :
  ∃hl,hl.length=l.length∧xz g w J (S.width (.st n)) (lits j (l.map (enc S (.st n))) hl) x∧IG g m g9 hole hl∧aV g (mq s o (.arr (S.width (.st n)) (lits j (l.map (enc S (.st n))) hl) era)) w:=by
 obtain⟨hl,h1,h2,h3,h4⟩:=hs.view (by rw[aJ,a];rfl) b;exact⟨hl,by simpa using h1,h2,h3,h4⟩
def z4{s1:St}(h:aV g s1 w){l:L (S.A n)}(a:o<bI)(h1:s1.ob.get o=Z (.arr (S.width (.st n)) (lits j (l.map (enc S (.st n))) hl) era))(b:hl.length=l.length)
  (c:IG g m g9 hole hl) (h2:s'.ob.get o=Z (.lS n j l era m g9 hole)) (h3:∀k,k≠o->(aC s').ob.get k=s1.ob.get k) (h4:s'.aD=s1.aD):aV g (aC s') w:=by
 refine(h.V6 (es:=l.map (enc S (.st n))) a h1 (by grind) c).Ye h4 λk=>?_;rw[Tr.aR _ _ _ _ a];by_cases d:k=o
 .subst d;rw[bB rfl,aJ,h2];rfl
 simp_all
def gK(a:o<bI)(ob:Ob)(k:Nat):(mq s o ob).ob.get k=if k=o then Z ob else(aC s).ob.get k:=Tr.aR _ _ _ _ a
def KI{es:L D}(h1:es[k]?=Z d)(h2:hl[k]?=Z h):jq (lits j es hl) k=jC j d h:=by
 grind[jq,lits]
def E5(h:aH g w (.sh o r) v):∃x,g.arr o r=Z x∧v=.slice x.a x.len x.cap:=by cases h with|sh _ _ len cap sz a b=>simp_all
def S2{e:Nat}(h:aH g w (.l9 o e i off) v):∃x,g.arr o e=Z x:=by cases h with|l9 _ _ _ _ len cap sz a b=>grind
def SA(h:aH g w (.sy o m r i) v):∃y,g.arr m (rc r i)=Z y∧v=.slice y.a y.len y.cap:=by cases h with|sy _ _ _ _ len cap sz a b=>simp_all
def Uc(fr:Fr)(x:Operand)(t:T):Fr:=match x with
 |.tmp k=>{fr with tm:=fr.tm.set aM k t}
 |_=>fr
def M7{fr:Fr}(hf:cQ g fr a w){u t:T}(c:fr.get k=Z u)(b:k<bI)(f:aH g w t (a.eval (.tmp k))):cQ g (Uc fr (.tmp k) t) a w:=by
 refine⟨hf.size,hf.df,λd e h=>?_⟩;simp[Uc,Fr.get]at h;rw[Tr.aR _ _ _ _ b]at h;split at h
 .cases h
  let ⟨v,i,_⟩:=hf.tm _ _ c
  simp_all[Act.eval]
 .exact hf.tm d e h
def Uf{i:TI}(b:Nl (Na off i.size) j=W∨Nt j off=W):nt i (jC j d h) off=nt i d off:=by
 have a:∀q,(off<=q∧q<off+i.size)->(jC j d h).cell q=d.cell q:=by
  intro q c;have e:j≠q:=by
   obtain b|b:=b
   .have:=gU b
    grind
   .have:j<off:=gU b;omega
  show(d.cells.set j _).getD q _=d.cells.getD q _
  simp_all
 unfold nt;cases i.agg with
 |true=>
  simp only[iq]
  congr 2
  refine Wq λq c=>?_;have:=a (Na off q) ⟨Nat.le_add_right _ _,Nat.add_lt_add_left (List.mem_range.1 c) _⟩;rw[this]
 |false=>
  simp;cases f:Nq i.size 1 with|true=>have:=beq_iff'.1 f;simp only[iq];rw[a off ⟨eR _,by omega⟩]|false=>rfl
def Mm(s:St):∀{l:L T}{p:Prop}{ds:L D}{os:L Nat}{j:Nat},og s l=Z (p,ds,os)->l[j]?=Z .emp->∀v,∃b,og s (l.set j (.sym (.lit v)))=Z (b,ds.set j (.lit v),os)∧(p->b)∧ds[j]?=Z (.sl [])
 |[],p,ds,os,j,_,a,v=>by simp at a
 |t::l,p,ds,os,j,h,a,v=>by
  simp[og]at h;split at h
  .rename_i q d c r e f h1 h2;obtain⟨rfl,rfl,rfl⟩:=h;cases j with
   |zero=>simp at a;subst a;obtain⟨rfl,rfl,rfl⟩:=h1;exact⟨True∧r,by grind[og,Bw],λh=>h,rfl⟩
   |succ j=>obtain⟨b,k,g,i⟩:=Mm s h2 (by simpa using a) v;exact⟨q∧b,by grind[og],λh=>⟨h.1,g h.2⟩,by simpa using i⟩
  .cases h
def aaY{E:gm}(hS:fy S)(hT:Bd E.E)(hTy:Ra S E){fr:bU S}(hf:cQ g (bH fr) a w)(hs:aV g (aC s) w)(o:Oper){c:Bool}{t:V S}(h:Bp E fr s o.op=Z (c,t,s'))(hc:c=W) :
  ∃v w' g',((execOp a.eval o).run E.E.P w=.ok (.value v) w'∨((execOp a.eval o).run E.E.P w=.ok .skip w'∧v=undef))∧aH g' w' (low t) v∧cO [] s g w s' g' w':=by
 unfold Bp at h;split at h
 ·
  rename_i ty x ix Q;split at h;rotate_left
  .cases h
  rename_i I r hx;split at h;rotate_left
  .cases h
  rename_i n j l era m g9 hole mP;split at h;rotate_left
  .cases h
  rename_i i n' kv hi KS hix;split at h;rotate_left
  .cases h
  rename_i sz ag bt zz k yf hk;obtain⟨hb,f⟩|⟨_,f⟩:=af h
  rotate_left
  .cases f
  simp only[fF]at hb;have XR:=beq_iff'.1 hb.1;subst XR;have hnn:=beq_iff'.1 hb.2;subst hnn;obtain⟨rfl,rfl,rfl⟩:=f
  let ⟨R,C,_⟩:=E5 (cR hf hx)
  have A:I<bI:=iS (hs.lt' C) hs.aD
  let ⟨hl,h1,h2,h3,h4⟩:=IL hs mP C
  let ⟨p,hp1,hp⟩:=gE hk
  let ⟨⟨z,ND,_⟩,_⟩:=hTy.row _ _ _ hi KS
  have hin:=wA hc;have hbq:Nq (S.width (.st n)) (S.width (.st n))=W:=beq_iff'.2 rfl;have F:(lits j (l.map (enc S (.st n))) hl).length=l.length:=by rw[ot (by simpa using h1)];simp
  let ⟨⟨v,w',g',hr,B,he,ht⟩,q1,q2,q3⟩:=nK hT hf h4 o (p:=p∧lW k (eP (lits j (l.map (enc S (.st n))) hl))) (t:=.l9 I r (DK k) 0) (s':=mq s I (.arr (S.width (.st n)) (lits j (l.map (enc S (.st n))) hl) r)) (by
   rw[Q];simp[oL,hi,cC hx,cC hix,kD,ND,hp1,low,Iz];rw[gK A,bB rfl];simp) ⟨hp,by simp[lW,eP,F];omega⟩
  refine⟨v,w',g',hr,ht,cO.lq hs ?_ he rfl rfl (eR _) (rF.refl _)⟩;refine z4 B A (by rw[gK A,bB rfl]) h1 (h3.le (λj y=>he.arr m j y)) mP (λk hk=>by rw[gK A,bO hk]) rfl
 ·
  rename_i ty x Q;split at h;rotate_left
  .cases h
  rename_i I e k off hx;split at h;rotate_left
  .cases h
  rename_i n j l era m g9 hole mP;split at h;rotate_left
  .cases h
  rename_i i hi;obtain⟨hb,f⟩|⟨_,f⟩:=af h
  rotate_left
  .cases f
  clear h;have XR:=beq_iff'.1 hb;subst XR
  let ⟨R,C⟩:=S2 (cR hf hx)
  have A:I<bI:=iS (hs.lt' C) hs.aD
  let ⟨hl,h1,h2,h3,h4⟩:=IL hs mP C
  have F:(lits j (l.map (enc S (.st n))) hl).length=l.length:=by rw[ot (by simpa using h1)];simp
  have back:∀{g':Gh}{w':World},aV g' (mq s I (.arr (S.width (.st n)) (lits j (l.map (enc S (.st n))) hl) e)) w'->Ext s.fl g w g' w'->cO [] s g w s g' w':=λB he=>
   cO.lq hs (z4 B A (by rw[gK A,bB rfl]) h1 (h3.le (λj y=>he.arr m j y)) mP (λk hk=>by rw[gK A,bO hk]) rfl) he rfl rfl (eR _) (rF.refl _)
  obtain⟨hj,h⟩|⟨hj,h⟩:=af f
  ·
   clear f;obtain⟨K,f⟩|⟨_,f⟩:=af h
   rotate_left
   .cases f
   simp only[fF,T3]at K;obtain⟨rfl,rfl,rfl⟩:=f;have hoff:=beq_iff'.1 hj;subst hoff;have hk:=tI hc;have hel:jq (lits off (l.map (enc S (.st n))) hl) k=jC off (enc S (.st n) l[k]) (hl[k]'(by omega)):=KI (by rw[lC,jr hk];rfl) (jr _);have hrow:=h2.rows _ (iz (by rw[lits,Wo,lC,jr hk,jr (by omega:k<hl.length)];rfl:(lits off (l.map (enc S (.st n))) hl)[k]?=Z (jC off (enc S (.st n) l[k]) (hl[k]'(by omega)))));have hsz:i.size=1:=beq_iff'.1 K.1;have SP:off<S.width (.st n):=gU K.2.2.2;have hcell:(jC off (enc S (.st n) l[k]) (hl[k]'(by omega))).cell off=.lit (hl[k]'(by omega)):=by
    show((enc S (.st n) l[k]).cells.set off _).getD off _=_;have:off<(enc S (.st n) l[k]).cells.length:=by rw[kW hS];exact SP
    simp[this]
   let ⟨⟨v,w',g',hr,B,he,ht⟩,q1,q2,q3⟩:=nK hT hf h4 o (t:=.sym (.lit (hl[k]'(by omega)))) (s':=mq s I (.arr (S.width (.st n)) (lits off (l.map (enc S (.st n))) hl) e)) (p:=lW (k:Int) (eP (lits off (l.map (enc S (.st n))) hl))∧(jq (lits off (l.map (enc S (.st n))) hl) k).has (Na off i.size)) (by
    rw[Q];simp only[oL,hi,cC hx,low,loadT,Iz];rw[gK A,bB rfl];simp[show Nq e e=W from beq_iff'.2 rfl,iq,hel,nt,K.2.1,j9,K.1,hcell,jK]) ⟨by simp only[lW,eP,F];omega,by
     rw[hel];show Na off i.size<=_;rw[hrow,hsz];exact SP⟩
   have hv:=aH.Az ht
   let ⟨y,hy,hye⟩:=h3.2 k _ (jr (by omega)) (by
    intro e;rw[e]at K;exact Bool.noConfusion K.2.2.1)
   refine⟨v,w',g',hr,?_,back B he⟩;rw[hv,hye];exact .sy _ _ _ _ _ _ y.sz _ (he.arr _ _ _ hy)
  ·
   clear f;obtain⟨K,f⟩|⟨_,f⟩:=af h
   rotate_left
   .cases f
   simp at f;obtain⟨u,hu,rfl,rfl,rfl⟩:=f;rw[pE]at K;have hk:=tI hc
   let ⟨p1,p2⟩:=BH hS (i:=i) (τ:=Y) (λu h=>by cases h) hu
   have hex:bn l k (S.zero (.st n))=l[k]:=by simp[bn,hk]
   rw[hex]at p1 p2;have hel:jq (lits j (l.map (enc S (.st n))) hl) k=jC j (enc S (.st n) l[k]) (hl[k]'(by omega)):=KI (by rw[lC,jr hk];rfl) (jr _)
   let ⟨⟨v,w',g',hr,B,he,ht⟩,q1,q2,q3⟩:=nK hT hf h4 o (t:=low u) (s':=mq s I (.arr (S.width (.st n)) (lits j (l.map (enc S (.st n))) hl) e)) (p:=lW (k:Int) (eP (lits j (l.map (enc S (.st n))) hl))∧(jq (lits j (l.map (enc S (.st n))) hl) k).has (Na off i.size)) (by
    rw[Q];simp only[oL,hi,cC hx,low,loadT,Iz];rw[gK A,bB rfl];simp[show Nq e e=W from beq_iff'.2 rfl,iq,hel,Uf K,p1,jK]) ⟨by simp only[lW,eP,F];omega,by
     rw[hel];show Na off i.size<=((enc S (.st n) l[k]).cells.set j _).length;rw[Kr];exact p2⟩
   exact⟨v,w',g',hr,ht,back B he⟩
 ·
  rename_i ty x kx Q;split at h;rotate_left
  .cases h
  rename_i I e k off o' m' r i hx hy;split at h;rotate_left
  .cases h
  rename_i n j l era m g9 hh mP;split at h;rotate_left
  .cases h
  rename_i ti hi;obtain⟨hb,f⟩|⟨_,f⟩:=af h
  rotate_left
  .cases f
  clear h;simp only[fF,T3]at hb
  let ⟨b1,b2,b3,b4,b5,b6,b7,b8,b9,b10⟩:=hb
  have e1:=beq_iff'.1 b1;subst e1;have e2:=beq_iff'.1 b2;subst e2;have e3:=beq_iff'.1 b3;subst e3;have e4:=beq_iff'.1 b4;subst e4;have e5:=beq_iff'.1 b5;subst e5;obtain⟨rfl,rfl,rfl⟩:=f;unfold XU at hc;simp only[fF]at hc;have hk:=tI hc.1;have e6:=beq_iff'.1 hc.2.1;subst e6;have e7:=beq_iff'.1 hc.2.2;subst e7
  let ⟨R,C⟩:=S2 (cR hf hx)
  have A:o'<bI:=iS (hs.lt' C) hs.aD
  let ⟨hl,h1,h2,h3,h4⟩:=IL hs mP C
  have F:(lits off (l.map (enc S (.st n))) hl).length=l.length:=by rw[ot (by simpa using h1)];simp
  have SP:off<S.width (.st n):=gU b9;have hval:=cR hf (x:=.tmp kx) (v:=.sy o' m' r i) hy
  let ⟨y,hy1,hye⟩:=SA hval
  have hel:jq (lits off (l.map (enc S (.st n))) hl) i=jC off (enc S (.st n) l[i]) (hl[i]'(by omega)):=KI (by rw[lC,jr hk];rfl) (jr _);have hf':=M7 hf (k:=kx) (u:=low (.sy o' m' r i)) (t:=.sym (.lit (.slice y.a y.len y.cap))) (by show(bH fr).get kx=_;rw[bT,hy];rfl) (gU b10) (by rw[hye];exact .sym _ _ (.lit _));have afk:kr (Uc (bH fr) (.tmp kx) (.sym (.lit (.slice y.a y.len y.cap)))) (.tmp kx)=Z (.sym (.lit (.slice y.a y.len y.cap))):=by show((bH fr).tm.set aM kx _).get kx=_;rw[Tr.aR _ _ _ _ (gU b10),bB rfl]
  have apx:kr (Uc (bH fr) (.tmp kx) (.sym (.lit (.slice y.a y.len y.cap)))) x=Z (.l9 o' e i off):=by
   have h0:=cC hx;cases x with
   |tmp k2=>
    show((bH fr).tm.set aM kx _).get k2=_;rw[Tr.dz _ _ _ _ _ (λe=>by
     subst e;have h5:fr.get k2=Z (.l9 o' e i off):=hx;rw[hy]at h5;cases h5)]
    exact h0
   |_=>exact h0
  have aiZ:(jC off (enc S (.st n) l[i]) (hl[i]'(by omega))).O6 off [.lit (.slice y.a y.len y.cap)]=jC off (enc S (.st n) l[i]) (.slice y.a y.len y.cap):=by
   have hlt:off<(enc S (.st n) l[i]).cells.length:=by rw[kW hS];exact SP
   show D.agg _=D.agg _
   congr 1
   rw[List.take_set_of_le (eR _),pF,List.drop_set_of_lt (Nat.lt_succ_self _)];apply M1;intro q;simp only[v5,tc,MZ,Py,T5,M5,pF];obtain hq|hq|hq:=Nat.lt_trichotomy q off
   .rw[bB (by omega),bB hq,bO (by omega)]
   .subst hq;rw[bO (by omega),bB (by omega),bB rfl,bB hlt];simp[Nat.min_eq_left (I1 hlt)]
   .rw[bO (by omega),bO (by omega),bO (by omega)]
    congr 1
    omega
  have hby:(jC off (enc S (.st n) l[i]) (.slice y.a y.len y.cap)).sM=(jC off (enc S (.st n) l[i]) (hl[i]'(by omega))).sM:=by
   let ⟨a0,n0,m0,he0⟩:=h3.1 i _ (jr (by omega:i<hl.length))
   rw[he0,<-AF off (enc S (.st n) l[i]) [] a0 n0 m0,<-AF off (enc S (.st n) l[i]) [] y.a y.len y.cap]
  have abW:(jC off (enc S (.st n) l[i]) (hl[i]'(by omega))).isAgg (S.width (.st n))=W:=by
   let ⟨a0,n0,m0,he0⟩:=h3.1 i _ (jr (by omega:i<hl.length))
   rw[he0];show(Nq (cE ((enc S (.st n) l[i]).cells.set off _)) _&&((enc S (.st n) l[i]).cells.set off _).all D.leaf)=W;rw[fF,bR,Kr,kW hS];refine⟨beq_iff'.2 rfl,lB.2 λd hd=>?_⟩;obtain hd|rfl:=Ws hd
   .rw[show(enc S (.st n) l[i]).cells=fe S (S.fs n) (S.get n l[i])from hS.cells n _]at hd;exact iu _ _ (hS.leaf n) d hd
   .rfl
  have hput:yV (lits off (l.map (enc S (.st n))) hl) i (jC off (enc S (.st n) l[i]) (.slice y.a y.len y.cap))=lits off (l.map (enc S (.st n))) (hl.set i (.slice y.a y.len y.cap)):=by
   apply M1;intro q;simp[yV,lits];by_cases hq:i=q
   .subst hq;rw[Wp (by simp;omega),Wo,lC,Wp (by omega),jr hk];rfl
   .rw[List.getElem?_set_ne hq,Wo,Wo,List.getElem?_set_ne hq]
  let ⟨⟨v,w',g',hr,B,he,ht⟩,q1,q2,q3⟩:=nK hT hf' h4 o (t:=RK) (s':={mq s o' (.arr (S.width (.st n)) (lits off (l.map (enc S (.st n))) hl) e)with ob:=(mq s o' (.arr (S.width (.st n)) (lits off (l.map (enc S (.st n))) hl) e)).ob.set aM o' (.arr (S.width (.st n)) (lits off (l.map (enc S (.st n))) (hl.set i (.slice y.a y.len y.cap))) e)})
   (p:=(D.lit (.slice y.a y.len y.cap)).leaf=W∧(True∧True)∧[D.lit (.slice y.a y.len y.cap)].all D.leaf=W∧lW (i:Int) (eP (lits off (l.map (enc S (.st n))) hl))∧(jC off (enc S (.st n) l[i]) (hl[i]'(by omega))).RO (S.width (.st n)) off (cE [D.lit (.slice y.a y.len y.cap)])∧Nl (Na off (cE [D.lit (.slice y.a y.len y.cap)])) (S.width (.st n))=W∧((jC off (enc S (.st n) l[i]) (hl[i]'(by omega))).O6 off [.lit (.slice y.a y.len y.cap)]).sM=(jC off (enc S (.st n) l[i]) (hl[i]'(by omega))).sM) (by
   rw[Q];have hg:=gK (s:=s) A (.arr (S.width (.st n)) (lits off (l.map (enc S (.st n))) hl) e) o';rw[bB rfl]at hg;have ap5:Nl (mq s o' (.arr (S.width (.st n)) (lits off (l.map (enc S (.st n))) hl) e)).fl o'=W:=b8;simp[oL,hi,apx,afk,storeT,kJ,b7,b6,j9,iq,og,Bw,kj,freeze,hg,ap5,show Nq e e=W from beq_iff'.2 rfl,MQ,hel,aiZ,hput]) ⟨rfl,⟨trivial,trivial⟩,rfl,⟨Int.natCast_nonneg _,by show(i:Int)<((lits off (l.map (enc S (.st n))) hl).length:Int);rw[F];exact Int.ofNat_lt.2 hk⟩,.inl abW,MO (by show off+1<=_;omega),by rw[aiZ,hby]⟩
  have hgn:∀q,({mq s o' (.arr (S.width (.st n)) (lits off (l.map (enc S (.st n))) hl) e)with ob:=(mq s o' (.arr (S.width (.st n)) (lits off (l.map (enc S (.st n))) hl) e)).ob.set aM o' (.arr (S.width (.st n)) (lits off (l.map (enc S (.st n))) (hl.set i (.slice y.a y.len y.cap))) e)}:St).ob.get q=if q=o' then Z (.arr (S.width (.st n)) (lits off (l.map (enc S (.st n))) (hl.set i (.slice y.a y.len y.cap))) e)else(mq s o' (.arr (S.width (.st n)) (lits off (l.map (enc S (.st n))) hl) e)).ob.get q:=λq=>Tr.aR _ _ _ _ A
  refine⟨v,w',g',hr,ht,cO.lq hs (z4 B (hl:=hl.set i (.slice y.a y.len y.cap)) A (by rw[hgn,bB rfl]) (by simpa using h1) ⟨λq hv hq=>?_,λq hv hq _=>?_⟩ (by show(s.ob.set aM o' _).get o'=_;rw[Tr.aR _ _ _ _ A,bB rfl]) (λq hq=>?_) rfl) he rfl rfl (eR _) (o9 _ _ _)⟩
  .rw[Py]at hq;split at hq
   .rw[bB (by omega)]at hq;cases hq;exact⟨_,_,_,rfl⟩
   .exact h3.1 q hv hq
  .rw[Py]at hq;split at hq
   .rename_i e;subst e;rw[bB (by omega)]at hq;cases hq;exact⟨y,he.arr _ _ _ hy1,rfl⟩
   .rename_i e
    let ⟨yy,k1,k2⟩:=h3.2 q hv hq (λh=>e (ke h))
    exact⟨yy,he.arr _ _ _ k1,k2⟩
  .rw[hgn,bO hq,gK A,bO hq,aJ,aJ];show((s.ob.set aM o' _).get q).map dc=_;rw[Tr.aR _ _ _ _ A,bO hq]
 ·
  rename_i ty len parts Q;split at h;rotate_left
  .rename_i Qh;split at h;rotate_left
   .cases h
   rename_i i e hi KS;split at h;rotate_left
   .cases h
   rename_i sz ag bt zz yf;obtain⟨hb,f⟩|⟨_,f⟩:=af h
   rotate_left
   .cases f
   obtain⟨_,rfl,rfl⟩:=f;have F:len=0:=beq_iff'.1 hb;subst F;have hle:Nl (Nat.mul 0 sz) 16777216=W:=by rw[show Nat.mul 0 sz=0 from Nat.zero_mul sz];rfl
   have h0:cH E fr s o.op=Z (W,.kM 0 e [],s):=by rw[Q];simp only[cH,hi,KS,Qh,ja,yf,hle,iq,List.replicate_zero,oQ,dR,jK]
   let ⟨p,apy,hp⟩:=Ng hS hTy h0 rfl
   let ⟨⟨v,w',g',hr,B,he,ht⟩,q1,q2,q3⟩:=nK hT hf hs o apy hp
   refine⟨v,w',g',hr,?_,cO.lq hs B he q1 q2 q3 (mH (show dR s []=Z s from rfl))⟩;cases ht with|kM _ _ a0 hn0 hd=>exact .emp a0
  .cases h
  rename_i kx Qh;split at h;rotate_left
  .cases h
  rename_i i n cs hi KS hkx;split at h;rotate_left
  .cases h
  rename_i j hnst;split at h;rotate_left
  .cases h
  rename_i sz ag bt zz yf hnj;obtain⟨hb,f⟩|⟨_,f⟩:=af h
  rotate_left
  .cases f
  clear h;split at f;rotate_left
  .cases f
  rename_i x os hx;simp only[fV,fE]at f;obtain⟨s1,zY,_,rfl,rfl⟩:=f;simp only[fF]at hb;have ajs:=beq_iff'.1 hb.1;subst ajs;have hkN:kx<bI:=gU hb.2.2
  let ⟨⟨z,ND,hz⟩,_,_,hpos⟩:=hTy.row _ _ _ hi KS
  rw[yf]at ND;obtain⟨rfl,rfl,rfl,rfl⟩:=Kd.slice.inj ND;have hfz:=dw hS os zY;have hval:=cR hf (x:=.tmp kx) (v:=.agg cs) hkx;generalize hve:a.eval (.tmp kx)=ve at hval;obtain⟨vs,rfl,pP⟩:=aH.SJ hval;have hcj:(bu cs)[j]?=Z .emp:=by rw[ku]at hnj;rw[e9,lC,hnj];rfl
  obtain⟨vj,hvj⟩:∃vj,vs.toList[j]?=Z vj:=by have:=cB hcj;exact⟨_,jr (by have:=pP.1;omega)⟩
  have aqb:=pP.2 j _ _ hcj hvj;obtain⟨c,rfl⟩:∃c,vj=.slice c 0 0:=by cases aqb with|emp c=>exact⟨c,rfl⟩
  have aiX:aH g w (.agg ((bu cs).set j (.sym (.lit (.slice c 0 0))))) (.agg vs):=by
   refine .agg _ vs (by simpa using pP.1) λq t v h1 h2=>?_;rw[Py]at h1;split at h1
   .rename_i e;subst e;rw[bB (cB hcj)]at h1;cases h1;have:vs.toList[j]?=Z v:=by simpa using h2
    rw[hvj]at this;cases this;exact .sym _ _ (.lit _)
   .exact pP.2 q t v h1 (by simpa using h2)
  have hf':=M7 hf (k:=kx) (u:=low (.agg cs)) (t:=.agg ((bu cs).set j (.sym (.lit (.slice c 0 0))))) (by rw[bT,hkx];rfl) hkN (by rw[hve];exact aiX);have afk:kr (Uc (bH fr) (.tmp kx) (.agg ((bu cs).set j (.sym (.lit (.slice c 0 0)))))) (.tmp kx)=Z (.agg ((bu cs).set j (.sym (.lit (.slice c 0 0))))):=by show((bH fr).tm.set aM kx _).get kx=_;rw[Tr.aR _ _ _ _ hkN,bB rfl]
  simp[bS]at hx;split at hx;rotate_left
  .cases hx
  rename_i hh os' C;obtain⟨rfl,rfl⟩:=hx
  let ⟨q,hq,hqp⟩:=p7 hS s _ _ C
  let ⟨q',hq',hqq,LX⟩:=Mm (aC s) hq hcj (.slice c 0 0)
  have X3:(enc S (.st n) (S.Eu n hh)).cells=fe S (S.fs n) hh:=by show S.cells n _=_;rw[hS.cells,hS.sC]
  have hzl:cE zz=S.width (.st n):=by simp[kU,iq,enc,D.agg.injEq]at hz;rw[hz];simp[Sg.width,bR];rw[show S.cells n (S.zero (.st n))=_ from hS.cells n _,mY]
  have ajO:((kU (.st n)||Nq (S.width (.st n)) 1)&&(Nq (cE zz) (S.width (.st n))&&(!(Nq (S.width (.st n)) 0)&&Nl (Nat.mul 1 (S.width (.st n))) 16777216)))=W:=by rw[hzl];simp only[fF,T3];refine⟨rfl,beq_iff'.2 rfl,?_,by simpa using hb.2.1⟩;cases hq:Nq (S.width (.st n)) 0 with|false=>rfl|true=>have:=beq_iff'.1 hq;omega
  have abW:(D.agg ((fe S (S.fs n) hh).set j (.lit (.slice c 0 0)))).isAgg (S.width (.st n))=W:=by
   show(Nq (cE ((fe S (S.fs n) hh).set j _)) _&&((fe S (S.fs n) hh).set j _).all D.leaf)=W;rw[fF,bR,Kr,mY];refine⟨beq_iff'.2 (bR _).symm,lB.2 λd hd=>?_⟩;obtain hd|rfl:=Ws hd
   .exact iu _ _ (hS.leaf n) d hd
   .rfl
  have hall:((fe S (S.fs n) hh).set j (.lit (.slice c 0 0))).all D.leaf=W:=by have h0:(Nq (cE ((fe S (S.fs n) hh).set j _)) _&&((fe S (S.fs n) hh).set j (.lit (.slice c 0 0))).all D.leaf)=W:=abW;rw[fF]at h0;exact h0.2
  let ⟨⟨v,w',g',hr,B,he,ht⟩,q1,q2,q3⟩:=nK hT hf' hs o (t:=.kM 1 [D.agg ((fe S (S.fs n) hh).set j (.lit (.slice c 0 0)))]) (s':=aC s1)
   (p:=(q'∧((fe S (S.fs n) hh).set j (.lit (.slice c 0 0))).all D.leaf=W)∧(D.agg ((fe S (S.fs n) hh).set j (.lit (.slice c 0 0)))).isAgg (S.width (.st n))=W∧True) (by
   rw[Q];have hps:su (Uc (bH fr) (.tmp kx) (.agg ((bu cs).set j (.sym (.lit (.slice c 0 0)))))) parts.toList=Z [(0,.agg ((bu cs).set j (.sym (.lit (.slice c 0 0)))))]:=by rw[Qh];simp[su,afk]
   simp only[oL,hi,hps,yf,iq,sH,Bw,hq',List.replicate,cE,kU,show Nt 0 (Ns 0)=W from rfl,List.set_cons_zero,kj,hfz,jK];have afz:((W||Nq (S.width (.st n)) 1)&&(Nq (cE zz) (S.width (.st n))&&(!(Nq (S.width (.st n)) 0)&&Nl (Nat.mul 1 (S.width (.st n))) 16777216)))=W:=ajO;rw[afz];rfl) ⟨⟨hqq hqp,hall⟩,abW,trivial⟩
  refine⟨v,w',g',hr,?_,cO.lq hs B he q1 q2 q3 (mH zY)⟩;cases ht with
  |kM _ _ a0 hn0 hd=>
   refine .pU _ _ c a0 ?_ ?_
   .rw[X3];exact LX
   .show dD g'.bp w' (.sl [D.agg ((enc S (.st n) (S.Eu n hh)).cells.set j _)]) _;rw[X3];exact hd
 ·
  rename_i ty x hi Q;split at h;rotate_left
  .cases h
  rename_i i I r hv UN hx hh;split at h;rotate_left
  .cases h
  rename_i sz ag bt zz l era n yf mP hn;obtain⟨hb,f⟩|⟨_,f⟩:=af h
  rotate_left
  .cases f
  simp only[fF]at hb;have XR:=beq_iff'.1 hb.1;subst XR;obtain⟨rfl,rfl,rfl⟩:=f;have hc':=AU hc
  let ⟨R,C,hval⟩:=E5 (cR hf hx)
  let ⟨p,hp1,hp⟩:=gE hn
  have e1:=dQ hp1 hp (cR hf hh);have hlo:(aC s).ob.get I=Z (.arr (S.width (.int .i64)) (l.map (enc S (.int .i64))) r):=by show(s.ob.map dc).get I=_;rw[Tr.get_map,mP];rfl
  let ⟨Io,abE⟩:=hs.nQ (fz:=J) hlo C
  let ⟨c0,c1,c2⟩:=hc'
  have F:R.len=l.length:=by rw[Io.len];simp
  have hcap:=Io.cap;have c2':n<=(l.length:Int):=c2
  let ⟨xi,d1,z1,NA,KR,_,_,_,_,hk⟩:=(hT.ti _ _ UN).all
  rw[yf]at hk;obtain⟨el,j,d',zv,rfl,hj,yg,_⟩:=hk;have K:=nG (P:=E.E.P) (w:=w) W R.len R.cap (low:=Y) (high:=Z (.int .i64 n)) (lo:=0) (hi:=n) (.inl ⟨rfl,rfl⟩) (.inr rfl) (by omega) (by omega) (by omega)
  let x':fh:=⟨R.a,n.toNat,R.cap,R.sz⟩
  have zo:∀b,x'.at b->R.at b:=λb h=>h
  let ⟨B,he⟩:=hs.akl (w':=w) hlo C (x':=x') (es':=(cG l 0 n).map (enc S (.int .i64))) (gU hb.2) rfl rfl (eR _) (λ_ _ _=>rfl) (λb h=>⟨by
   let ⟨ad,h1,h2,h3⟩:=h
   have:=(hs.arr _ _ _ C).1 ad h1 h3;omega,.inr (zo b h)⟩) (by
   have hsub:cG l 0 n=l.take n.toNat:=by simp[cG]
   rw[hsub];refine⟨by simp[x'];omega,by show n.toNat<=R.cap;omega,λd hd=>?_,Io.pos,λd hd=>?_,λh0=>?_⟩
   .exact Io.rows d (by grind)
   .refine gD (zf _ ?_) (Io.VT d (by grind));simp;omega
   .let ⟨b,vs,ty,k1,k2,k3,k4,k5⟩:=Io.mem h0
    exact⟨b,vs,ty,k1,k2,k3,k4,λi d j c h1 h2=>k5 i d j c (by grind) h2⟩) abE
  refine⟨.slice R.a n.toNat R.cap,w,_,.inl ?_,?_,cO.lq hs (by rw[eF];exact B) he rfl rfl (eR _) (o9 _ _ _)⟩
  .have hrun:(Instr.sliceAt ty (.slice R.a R.len R.cap) Y (Z (.int .i64 n)) Y).run E.E.P w=.ok (.slice R.a n.toNat R.cap) w:=by simp only[Instr.sliceAt,Instr.slice,run_bind,aL KR,andThen_ok,dm hj,yg,K];cases R.a<;>simp[Addr.add]
   simp[execOp,Q,hval,e1,hrun]
  .exact .sh _ _ _ _ R.sz _ (Gh.fM _ _ _ _)
 .cases h
end
end
section
section
variable {g:Gh}{w:World}
theorem aV.aaS{s:St}(hs:aV g s w){m sz r:Nat}{iU:L (L D)}(o:s.ob.get m=Z (.rws sz iU r))(C:m<s.aD)(h0:0<sz)(c:O Addr) :
  aV (g.era m (rc r iU.length) ⟨c,0,0,sz⟩) {s with ob:=s.ob.set aM m (.rws sz (iU++[[]]) r)} w∧Ext s.fl g w (g.era m (rc r iU.length) ⟨c,0,0,sz⟩) w:=by
 have E:m<bI:=iS C hs.aD;have F:g.arr m (rc r iU.length)=Y:=by
  cases h:g.arr m (rc r iU.length)with
  |none=>rfl|some y=>
   let ⟨_,R,h2,_⟩:=(hs.qB o h).2.2 _ rfl
   simp_all
 have f:∀k j y,g.arr k j=Z y->(g.era m (rc r iU.length) ⟨c,0,0,sz⟩).arr k j=Z y:=λk j y h=>by
  rw[Gh.cP]
  .exact h
  grind
 have d:∀k b,bF (g.era m (rc r iU.length) ⟨c,0,0,sz⟩) k b->bF g k b:=by
  rintro k b ⟨h1,h2|⟨j,y,A,h2,h3,h4,h5⟩⟩
  .exact ⟨h1,.inl h2⟩
  .by_cases p:k=m∧j=rc r iU.length
   .obtain ⟨rfl,rfl⟩:=p;rw[Gh.fM]at h2
    grind
   .rw[Gh.cP _ _ _ _ _ _ p]at h2;exact⟨h1,.inr ⟨j,y,A,h2,h3,h4,h5⟩⟩
 have S:Ext s.fl g w (g.era m (rc r iU.length) ⟨c,0,0,sz⟩) w:=
  ⟨λ_ _ h=>h,f,λ_ h=>h,eR _,λ_ _ _=>rfl,λk b h=>.inl (d k b h),λ_ h=>.inl h,rfl,rfl⟩
 have eo:∀k,(s.ob.set aM m (.rws sz (iU++[[]]) r)).get k=if k=m then Z (.rws sz (iU++[[]]) r)else s.ob.get k:=λk=>Tr.aR _ _ _ _ E
 have hnb:=hs.As o rfl;refine⟨⟨hs.aD,λk hk=>⟨(hs.ah k hk).1,λj=>?_⟩,λk b hb=>?_,λk j y l=>?_,hs.bp,λk k' b h h'=>hs.j8 k k' b (d k b h) (d k' b h')⟩,S⟩
 .rw[Gh.cP _ _ _ _ _ _ (by grind)];exact(hs.ah k hk).2 j
 .have I:g.bP k=Z b:=hb;have e:k≠m:=by grind
  let ⟨h1,h2,h3⟩:=hs.box k b I
  refine⟨h1,h2,λob a=>?_⟩;rw[eo,bO e]at a
  let ⟨x,k1,k2⟩:=h3 ob a
  exact⟨x,k1,k2.ext S hs.bp⟩
 .by_cases e:k=m
  .subst e;have hcl:∀n i,r<n->g.arr k (rc n i)=Y:=λn i q=>by cases h:g.arr k (rc n i)with|none=>rfl|some z=>rw[(hs.qB o h).1 n i q]at h;cases h
   have K:∀A,y.a=Z A->y.cap≠0->A.block<w.heap.size:=by
    by_cases B:j=rc r iU.length
    .subst B;rw[Gh.fM]at l
     grind
    .rw[Gh.cP _ _ _ _ _ _ (λh=>B h.2)]at l;exact(hs.arr k j y l).1
   refine⟨K,λob a=>?_⟩;rw[eo,bB rfl]at a;obtain rfl:=ke a;refine .inr (.inr (.inl ⟨sz,iU++[[]],r,rfl,λn i q=>?_,λi1 i2 y1 y2 P h1 h2 b t u=>?_,λi B=>?_⟩))
   .grind[Gh.cP,sq]
   .by_cases v:i1=iU.length
    .subst v;rw[Gh.fM]at h1;cases h1
     let ⟨_,_,_,h⟩:=t
     grind
    .by_cases e2:i2=iU.length
     .subst e2;rw[Gh.fM]at h2;cases h2
      let ⟨_,_,_,h⟩:=u
      grind
     .rw[Gh.cP _ _ _ _ _ _ (λh=>v (sq h.2).2)]at h1;rw[Gh.cP _ _ _ _ _ _ (λh=>e2 (sq h.2).2)]at h2;exact(hs.qB o h1).2.1 i1 i2 y1 y2 P h1 h2 b t u
   .subst B;by_cases v:i=iU.length
    .subst v;rw[Gh.fM]at l;cases l;exact⟨rfl,[],by simp,⟨rfl,eR _,by simp,h0,by simp,λh=>absurd rfl h⟩⟩
    .rw[Gh.cP _ _ _ _ _ _ (λh=>v (sq h.2).2)]at l
     let ⟨q1,R,q2,q3⟩:=(hs.qB o l).2.2 i rfl
     exact⟨q1,R,by grind,q3.kE rfl⟩
  .have Q:g.arr k j=Z y:=by grind[Gh.cP]
   let ⟨h1,h2⟩:=hs.arr k j y Q
   refine⟨h1,λob a=>?_⟩;rw[eo,bO e]at a;exact(h2 ob a).tr (λh=>h.kE rfl) f (funext λj=>Gh.cP _ _ _ _ _ _ (λh=>e h.1)) (λ_ _ _=>⟨rfl,vK⟩)
variable {a:Act}{o:Oper}{n j:Nat}
def JR{P:Program}{c:Call}(f:o.op=.call c)(k:c.callee=.builtin .append){u v:Operand}{ty d:TypeId}(l:c.args=#[u,v])(g:c.argTypes=#[ty,d]){R:Value->World->Prop}(h:HT P ty d o.type (a.eval u) (a.eval v) w R)
  {K:Act->World->Prop} {Q:Exit->Act->World->Prop} (i:∀v w',R v w'->K (a.put o.dst v) w'):o.wp P a w K Q∨(o.asks P a w∧LetsOut Q):=by
 let ⟨r,w',e,j⟩:=h
 left
 unfold Oper.wp;have b:(execOp a.eval o).run P w=.ok (.value r) w':=by
  simp_all[execOp,resolve,invoke,builtin]
 rw[b];exact i r w' j
theorem args2{l:Array Operand}{a:Act}{x y:T}(b:PW (aH g w) [x,y] (l.toList.map a.eval)):∃u v,l=#[u,v]∧aH g w x (a.eval u)∧aH g w y (a.eval v):=by
 have d:l.size=2:=by have:=b.1;simp_all
 obtain⟨u,v,c⟩:∃u v,l=#[u,v]:=⟨l[0],l[1],by
  grind⟩
 exact⟨u,v,c,b.2 0 _ _ rfl (by simp[c]),b.2 1 _ _ rfl (by simp[c])⟩
def abb(a:fy S){t:Ty}(b:DV S n j t=W)(x:S.A n)(c:O Addr)(p q:Nat):(jC j (enc S (.st n) x) (.slice c p q)).sM=(enc S (.st n) x).sM:=by
 have h:AG j (enc S (.st n) x) ((Ip n j t x).map (enc S t))=enc S (.st n) x:=by
  show D.agg ((S.cells n x).set j _)=D.agg (S.cells n x);have:(S.cells n x)[j]?=Z (.sl ((Ip n j t x).map (enc S t))):=by rw[a.cells];exact Jw (GN b)
  rw[IS this]
 rw[<-AF j _ ((Ip n j t x).map (enc S t)),h]
def Uy(b:fy S)(x:S.A n)(c:O Addr)(p q:Nat):(jC j (enc S (.st n) x) (.slice c p q)).flat=W:=by
 show((S.cells n x).set j _).all D.leaf=W;refine lB.2 λd a=>?_;obtain a|rfl:=Ws a
 .rw[b.cells]at a;exact iu _ _ (b.leaf n) d a
 .rfl
def GW{E:gm}(hS:fy S)(hT:Bd E.E)(hEE:OX E.E)(hTy:Ra S E){fr:bU S}{s s':bg S}(hf:cQ g (bH fr) a w)(hs:aV g (aC s) w){cl:Call}(hop:o.op=.call cl){b:Builtin}(hb:cl.callee=.builtin b){args:L (V S)}(hargs:kq fr cl.args.toList=Z args){c:Bool}{t:V S}
  (h:m7 E s b cl.argTypes args=Z (c,t,s')) (hc:c=W) {K:Act->World->Prop} {Q:Exit->Act->World->Prop} (hK:∀g' v w',cO [] s g w s' g' w'->aH g' w' (low t) v->K (a.put o.dst v) w') :
  o.wp E.E.P a w K Q∨(o.asks E.E.P a w∧LetsOut Q):=by
 have pP:=e8 hf (gZ hargs);unfold m7 at h;split at h
 ·
  rename_i f r;split at h;rotate_left
  .cases h
  rename_i n j l era m g9 hole mP;split at h;rotate_left
  .cases h
  rename_i i B hi KS;split at h;rotate_left
  .cases h
  rename_i sz ag bt zz yf;obtain⟨P,h9⟩|⟨_,h9⟩:=af h
  rotate_left
  .cases h9
  simp only[fF]at P;have XR:=beq_iff'.1 P.1;subst XR;obtain⟨_,rfl,rfl⟩:=h9;have hx0:aH g w (.sh f r) ((cl.args.toList.map a.eval)[0]'(by have:=pP.1;simp[bu]at this;simp;omega)):=pP.2 0 _ _ rfl (jr _)
  let ⟨xs,hxs,_⟩:=E5 hx0
  have F:f<bI:=iS (hs.lt' hxs) hs.aD
  let ⟨hl,h1,h2,h3,h4⟩:=IL hs mP hxs
  have hlen:(lits j (l.map (enc S (.st n))) hl).length=l.length:=by rw[ot (by simpa using h1)];simp
  refine yL hEE hf h4 hop hb (gZ hargs) (p:=True) (t:=.sym (.lit (.int .i64 (eP (lits j (l.map (enc S (.st n))) hl))))) (s':=mq s f (.arr (S.width (.st n)) (lits j (l.map (enc S (.st n))) hl) r)) ?_ trivial (k:=λC st'=>C=.sym (.lit (.int .i64 (eP (lits j (l.map (enc S (.st n))) hl))))∧st'=mq s f (.arr (S.width (.st n)) (lits j (l.map (enc S (.st n))) hl) r)) ⟨rfl,rfl⟩ (λC st' g' v w' he wE ht=>?_)
  .have hi':(nth cl.argTypes.toList 0).bind E.E.ti=Z i:=hi;simp only[bu,low,fP,z9,hi',yf,BA];rw[gK F,bB rfl];simp
  .obtain ⟨rfl,rfl⟩:=he;refine hK g' v w' (cO.lq hs (z4 wE.rel F (by rw[gK F,bB rfl]) h1 (h3.le (λj y=>wE.ext.arr m j y)) mP (λk hk=>by rw[gK F,bO hk]) rfl) wE.ext rfl rfl (eR _) (rF.refl _)) ?_;have e:eP (lits j (l.map (enc S (.st n))) hl)=aq l:=by simp[eP,hlen,aq]
   rw[e]at ht;exact ht
 ·
  rename_i f r B j' x;split at h;rotate_left
  .cases h
  rename_i n j l era m g9 mP;split at h;rotate_left
  .cases h
  rename_i ty tx afG;split at h;rotate_left
  .cases h
  rename_i i i' n'' C A hi hi' KS hrw;split at h;rotate_left
  .cases h
  rename_i sz ag bt zz sz' ag' bt' zz' new yf ND hnew
  let ⟨e1,hh⟩:=fO hnew
  cases e1;cases hh;obtain⟨P,h9⟩|⟨_,h9⟩:=af h
  rotate_left
  .cases h9
  clear h;simp only[fF]at P
  let ⟨b1,b2,b3,b4,b5,b6,b7,b8,b9⟩:=P
  have e1:=beq_iff'.1 b1;subst e1;have e2:=beq_iff'.1 b2;subst e2;have e3:=beq_iff'.1 b3;subst e3;simp only[gR,fE]at h9;obtain⟨hll,rfl,rfl⟩:=h9;have apV:bZ (abe l A) (de l [x])=W:=hll.trans ‹_›;have ajq:abe l A=W∧de l [x]=W:=by simpa[bZ]using apV
  have ap9:=ajq.2;have hll:=M0 (show decide _=W from ajq.1)
  let ⟨u,v,ha,hu,hv⟩:=args2 pP
  have zo:cl.argTypes=#[ty,tx]:=by apply Array.ext';simpa using afG
  let ⟨xs,hxs,hxe⟩:=E5 hu
  have F:f<bI:=iS (hs.lt' hxs) hs.aD;have hmn:m<s.aD:=gU b6;have hmN:m<bI:=iS hmn hs.aD;have hw0:0<S.width C:=gU b9
  let ⟨szm,hm⟩:=p9 (Af hrw)
  have ai2:szm=S.width C:=by
   have h1:=hrw;unfold Mw at h1;split at h1
   .rename_i t0 rss0 r0 I;obtain⟨_,h1⟩|⟨_,h1⟩:=af h1
    .cases h1;rw[aJ,I]at hm;cases hm;rfl
    .cases h1
   .cases h1
  subst ai2;have hom:f≠m:=by rintro rfl;rw[aJ,mP]at hm;cases hm
  generalize hvv:a.eval v=vv at hv;cases hv with
  |pU _ _ c ad hcj hcd=>
  let ⟨p1,p2⟩:=hs.aaS hm hmn hw0 c
  let s1:bg S:={s with ob:=s.ob.set aM m (.rws C (A++[[]]) g9)}
  have apf:(aC s1)={aC s with ob:=(aC s).ob.set aM m (.rws (S.width C) (A.map (·.map (enc S C))++[[]]) g9)}:=by simp[s1,aC,Tr.mQ,dc,T4,pz,List.map_nil]
  rw[<-apf]at p1;have XV:s1.ob.get f=Z (.lS B j l r m g9 Y):=by rw[Tr.aR _ _ _ _ hmN,bO hom];exact mP
  have ao5:=p2.arr _ _ _ hxs
  let ⟨hl,h1,h2,h3,h4⟩:=IL p1 XV ao5
  have abM:(lits j (l.map (enc S (.st B))) hl).length=l.length:=by rw[ot (by simpa using h1)];simp
  let ⟨⟨z,R,_⟩,_,_,hpos⟩:=hTy.row _ _ _ hi KS
  rw[yf]at R;obtain⟨rfl,rfl,rfl,rfl⟩:=Kd.slice.inj R;have aqg:aH (g.era m (rc g9 (A.map (·.map (enc S C))).length) ⟨c,0,0,S.width C⟩) w (.kM 0 [jC j (enc S (.st B) x) (.slice c 0 0)]) (.slice ad 1 1):=.kM 0 _ ad (by simp) (hcd.ext p2 hs.bp);have hus:aH (g.era m (rc g9 (A.map (·.map (enc S C))).length) ⟨c,0,0,S.width C⟩) w (.sh f r) (a.eval u):=hu.ext p2 hs.bp;have abV:iG (lits j (l.map (enc S (.st B))) hl) [jC j (enc S (.st B) x) (.slice c 0 0)]=lits j ((cZ l [x]).map (enc S (.st B))) (hl++[.slice c 0 0]):=by simp[iG,lits,cZ,T4,pz,List.map_nil];rw[List.zipWith_append (by simp;omega)];rfl
  have abT:vG (iG (lits j (l.map (enc S (.st B))) hl) [jC j (enc S (.st B) x) (.slice c 0 0)]) (zI S (.st B)):=by
   intro d hd;rw[abV]at hd
   let ⟨q,I⟩:=Wn hd
   rw[lits,Wo]at I;split at I
   .rename_i hv0 k1 k2;cases I;rw[lC,fV]at k1;obtain⟨xx,_,rfl⟩:=k1;obtain⟨a0,n0,m0,rfl⟩:∃a0 n0 m0,hv0=.slice a0 n0 m0:=by
     rw[tc]at k2;split at k2
     .exact h3.1 q hv0 k2
     .have:q-hl.length=0:=by have:=cB k2;simpa using this
      rw[this]at k2;cases k2;exact⟨_,_,_,rfl⟩
    exact⟨by rw[abb hS b8];exact Ca hS (t:=.st B) xx,Uy hS xx a0 n0 m0⟩
   .cases I
  have hgv:=gK (s:=s1) F (.arr (S.width (.st B)) (lits j (l.map (enc S (.st B))) hl) r);have hkj:i'.kd=.slice sz' ag' bt' zz':=ND;have hap:=yO (rt:=o.type) (hEE.ti _ _ hi) (hEE.ti _ _ hi') ⟨_,_,_,_,hkj⟩ h4 (x:=.sh f r) (y:=.kM 0 [jC j (enc S (.st B) x) (.slice c 0 0)]) (vx:=a.eval u) (vy:=.slice ad 1 1)
   (p:=True∧jI [jC j (enc S (.st B) x) (.slice c 0 0)] (S.width (.st B))∧vG (iG (lits j (l.map (enc S (.st B))) hl) [jC j (enc S (.st B) x) (.slice c 0 0)]) (zI S (.st B))∧D.SY (lits j (l.map (enc S (.st B))) hl) [jC j (enc S (.st B) x) (.slice c 0 0)]) (t:=.sh f (Ns r))
   (s':={mq s1 f (.arr (S.width (.st B)) (lits j (l.map (enc S (.st B))) hl) r)with ob:=(mq s1 f (.arr (S.width (.st B)) (lits j (l.map (enc S (.st B))) hl) r)).ob.set aM f (.arr (S.width (.st B)) (iG (lits j (l.map (enc S (.st B))) hl) [jC j (enc S (.st B) x) (.slice c 0 0)]) (Ns r))}) (by
   have hg0:=hgv f;rw[bB rfl]at hg0;have e1:Nt (mq s1 f (.arr (S.width (.st B)) (lits j (l.map (enc S (.st B))) hl) r)).aD bI=W:=b7;have e2:Nl (mq s1 f (.arr (S.width (.st B)) (lits j (l.map (enc S (.st B))) hl) r)).fl f=W:=b4;simp only[uW,e1,I2,j9,yf,BA,hg0,e2,show Nq r r=W from beq_iff'.2 rfl,show Nq (S.width (.st B)) (S.width (.st B))=W from beq_iff'.2 rfl,tA,MQ];rfl) ⟨trivial,λd hd=>by
    rw[rL.1 hd];show((enc S (.st B) x).cells.set j _).length=_;rw[Kr,kW hS],abT,by
    have:l.length+1<=17179869184:=by simpa[de]using ap9
    show(lits j (l.map (enc S (.st B))) hl).length+1<=_;rw[abM];exact this⟩ hus aqg
  refine JR hop hb ha zo (by rw[hvv];exact hap) (λv w' hR=>?_)
  let ⟨g',r1,r2,r3⟩:=hR
  have hE:=p2.trans r2;refine hK g' v w' (cO.lq hs ?_ hE rfl rfl (eR _) ⟨λ_ h=>ic _ (ic _ h),λk _ hk=>?_,rfl⟩) r3
  .refine z4 r1 (n:=B) (j:=j) (l:=cZ l [x]) (era:=Ns r) (m:=m) (g9:=g9) (hole:=Y) (hl:=hl++[.slice c 0 0]) F ?_ (by simp[cZ];omega) ⟨λq v I=>?_,λq v I _=>?_⟩ ?_ (λk hk=>?_) rfl
   .show ((mq s1 f _).ob.set aM f _).get f=_;rw[Tr.aR _ _ _ _ F,bB rfl,abV]
   .rw[tc]at I;split at I
    .exact h3.1 q v I
    .have:q-hl.length=0:=by have:=cB I;simpa using this
     rw[this]at I;cases I;exact⟨_,_,_,rfl⟩
   .rw[tc]at I;split at I
    .let ⟨yy,k1,k2⟩:=h3.2 q v I (by simp)
     exact⟨yy,r2.arr _ _ _ k1,k2⟩
    .have h0:q-hl.length=0:=by have:=cB I;simpa using this
     rw[h0]at I;cases I;refine⟨⟨c,0,0,S.width C⟩,r2.arr _ _ _ ?_,rfl⟩;have:q=(A.map (·.map (enc S C))).length:=by rw[M4];omega
     rw[this];exact Gh.fM _ _ _ _
   .show ((s.ob.set aM m _).set aM f _).get f=_;rw[Tr.aR _ _ _ _ F,bB rfl]
   .rw[Tr.aR _ _ _ _ F,bO hk,hgv,bO hk,aJ,aJ];rw[Tr.aR _ _ _ _ F,bO hk];rfl
  .simp at hk;show((s.ob.set aM m _).set aM f _).get k=_;rw[Tr.dz _ _ _ _ _ hk.1,Tr.dz _ _ _ _ _ hk.2.1]
 ·
  rename_i f m r k y;split at h;rotate_left
  .cases h
  rename_i n j l era m' g9 t0 A rera' mP hm0;split at h;rotate_left
  .cases h
  rename_i ty tx afG;split at h;rotate_left
  .cases h
  rename_i C new hi hi' KS O3;split at h
  .cases h
  .rename_i sz ag bt zz sz' ag' bt' zz' yf ND apF;obtain⟨P,h9⟩|⟨_,h9⟩:=af h
   rotate_left
   .cases h9
   clear h;simp only[fF]at P
   let ⟨b1,b2,b3,b4,b5,b6,b7⟩:=P
   have e1:=beq_iff'.1 b1;subst e1;have e2:=beq_iff'.1 b2;subst e2;have e3:=beq_iff'.1 b3;subst e3;have e4:=jX b7;subst e4;obtain⟨rfl,rfl,rfl⟩:=h9;have hc1:dV k A=W∧de (bn A k []) new=W:=by simpa[bZ]using hc
   have hk:=tI hc1.1
   let ⟨u,v,ha,hu,hv⟩:=args2 pP
   have zo:cl.argTypes=#[ty,tx]:=by apply Array.ext';simpa using afG
   let ⟨yy,hyy,hue⟩:=SA hu
   have hm:(aC s).ob.get m=Z (.rws (S.width C) (A.map (·.map (enc S C))) r):=by rw[aJ,hm0];rfl
   let ⟨_,rs0,abG,hok⟩:=(hs.qB hm hyy).2.2 k rfl
   have hrs:rs0=(bn A k []).map (enc S C):=by rw[lC,jr hk]at abG;cases abG;simp[bn,hk]
   subst hrs
   let ⟨q,I,hqp⟩:=Ab O3
   let ⟨xi,d1,_,NA,KR,_,_,_,_,NF⟩:=(hEE.ti _ _ hi).all
   let ⟨_,d2,_,_,hu2,_,_,_,_,hk2⟩:=(hEE.ti _ _ hi').all
   rw[ND]at hk2;obtain⟨e',_,_,_,rfl,_⟩:=hk2
   let ⟨⟨z,R,_⟩,_,_,hpos⟩:=hTy.row _ _ _ hi KS
   rw[yf]at R;obtain⟨rfl,rfl,rfl,rfl⟩:=Kd.slice.inj R;rw[yf]at NF;obtain⟨e,ji,d',zv,rfl,hji,yg,_,_,hjz,BT,Qq,h0,DP,pQ,hb0,hzl⟩:=NF;have hzs:zv.cells.size=ji.size:=by rw[<-BT.1,hzl,yg]
   have XP:jI (new.map (enc S C)) (S.width C):=s9 hS new;have abT:vG (iG ((bn A k []).map (enc S C)) (new.map (enc S C))) (zI S C):=by rw[uX];exact EH hS _
   let ⟨news,hsrc,hvr,hlen⟩:=Ac hs I hqp hv hpos XP (λd hd=>(abT d (eY _ hd)).2) hu2
   let ⟨ay,cy,hve,_,ao4,Qe⟩:=s5 hs I hqp hv hpos XP
   have ajN:=Dz (rt:=o.type) KR hu2 hji hjz hzs (yg▸hpos) hb0 Qq pQ hs.bp (yg▸hok) (λb hb=>(hok.at_ hb).2.elim λvs h=>h.elim λty h=>(Wt.1 h.2).1) (λd hd=>(abT d hd).1) (yg▸XP) (yg▸hsrc) (yg▸hvr) (ED _ hc1.2) (λhne=>by
    obtain⟨ady,amz,rfl,SN,hyc,_⟩:=Qe hne;refine⟨ady,cy,hve,λzo=>?_,λq I=>?_⟩
    .obtain UP|⟨o',ho',_⟩:=SN
     .exact Bool.noConfusion ((hok.at_ zo).1.2 UP)
     .rw[Fy]at ho';unfold Nc at ho';split at ho'
      .exact apF _ _ rfl
      .cases ho'
    .rw[yg]at I;have h1:=hyc (q/S.width C) (q%S.width C) (Sn (by rw[MU];exact I)) (Nat.mod_lt _ hpos);have hkk:q/S.width C*S.width C+q%S.width C=q:=by rw[MU];exact Nat.div_add_mod q _
     rw[hkk]at h1;rw[h1];rfl)
   refine JR hop hb ha zo (by rw[hue];exact ajN) (λv w' hR=>?_)
   let ⟨y',hp⟩:=hR
   rw[yg,uX]at hp;have apB:(aC s).ob.get f=Z (.lS j (S.width (.st n)) (l.map (enc S (.st n))) era m r Y):=by rw[aJ,mP];rfl
   have F:f<bI:=gU b6
   let ⟨r1,r2⟩:=hs.acw apB hm F hyy hp (gU b5)
   refine hK _ v w' (cO.lq hs (s':={s with ob:=(s.ob.set aM m (.rws C (lE A k (cZ (bn A k []) new)) (Ns r))).set aM f (.lS n j l era m (Ns r) (Z k)),wr:=f::m::s.wr}) ?_ r2 rfl rfl (eR _) ⟨λ_ h=>ic _ (ic _ h),λk' _ hk'=>?_,rfl⟩) ?_
   .have e:aC {s with ob:=(s.ob.set aM m (.rws C (lE A k (cZ (bn A k []) new)) (Ns r))).set aM f (.lS n j l era m (Ns r) (Z k)),wr:=f::m::s.wr}={aC s with ob:=((aC s).ob.set aM m (.rws (S.width C) ((A.map (·.map (enc S C))).set k ((cZ (bn A k []) new).map (enc S C))) (r+1))).set aM f (.lS j (S.width (.st n)) (l.map (enc S (.st n))) era m (r+1) (Z k))}:=by simp[aC,Tr.mQ,dc,lE,Fo]
    rw[e];exact r1
   .simp at hk';show((s.ob.set aM m _).set aM f _).get k'=_;rw[Tr.dz _ _ _ _ _ hk'.1,Tr.dz _ _ _ _ _ hk'.2.1]
   .rw[hp.val];exact .sy _ _ _ _ _ _ y'.sz _ (by rw[Gh.qC,bB rfl])
  .cases h
 .cases h
end
end
end TL
end
end
