import Derived.Laws.OwnMore
import Derived.Test.YthlenkomcaiomaaGreatE1
set_option linter.all false
set_option maxRecDepth 100000
set_option maxHeartbeats 0
noncomputable section
open Option renaming some->Z,none->Y
open Bool renaming true->W,false->J
open Nat renaming beq->Nq,ble->Nl,blt->Nt,succ->Ns,add->Na
open Go.Result(andThen_ok)
open Go.Sem(run_bind run_pure)
namespace TL
open Go
variable {S:Sg}
def yY(o:Oper):L Nat:=(o.after.toList.filter (Region.binds .any)).map (·.on)
def QC:L Oper->L Nat->L Nat
 |[],a=>a|o::l,a=>QC l (a++[(yY o).foldl (λb e=>b||| (1 <<< e||| a.getD e 0)) 0])
def xF(ops:L Oper):L Nat:=QC ops []
def v7:L Oper->Nat->aa
 |[],_=>W|o::l,n=>(yY o).all (λe=>Nt e n)&&v7 l (Ns n)
def NW(o:Oper)(k:Nat):aa:=o.op.operands.toList.any λx=>match x with|.tmp j=>Nq j k|_=>J
def aiD(ops:L Oper)(a:L Nat):aa:=
 ops.zipIdx.all λ(o,i)=>match o.dst with
  |none=>W|some d=>Nt d bO&&ops.zipIdx.all λ(p,j)=>bif Nq i j then !(NW p d)else !(match p.dst with|some e=>Nq e d|none=>J)&&(!(NW p d)||((a.getD j 0).testBit i||(a.getD i 0).testBit j))
def VD(ops:L Oper)(a:L Nat)(i:Nat)(o:Oper):aa:=match o.dst with
 |none=>J|some d=>ops.zipIdx.any λ(p,j)=>NW p d&&(a.getD i 0).testBit j
def agJ(ops:L Oper):aa:=ops.all λo=>o.op.operands.toList.all λx=>match x with|.tmp j=>Nt j bO|_=>W
def SW(ops:L Oper)(a:L Nat):aa:=
 ops.zipIdx.all λ(o,i)=>match o.guard with
  |none=>W|some (j,_)=>(a.getD i 0).testBit j
def fC(o:Oper):aa:=match o.op with|.alloc _=>o.guard.isNone|_=>J
def V6(a b:Nat):aa:=Nq (a&&& b) a
abbrev X0:=L (Nat×Oper)
section
variable (E:eI S)(call:gD S){ω:Type}
def RS(ops:L Oper)(a:L Nat)(done:Nat)(fr:cr S):X0->O (Nat×Oper)
 |[]=>Y|(i,o)::l=>bif !(done.testBit i)&&(V6 (a.getD i 0) done&&((!(fC o)&&!(VD ops a i o))&&(vX ops fr o||(match iT ops fr o with|some (Z _)=>CE E (sB fr o.op) o|some Y=>CE E fr o|none=>J))))
   then Z (i,o)else RS ops a done fr l
def RU(a:L Nat)(done wC:Nat):X0->O (Nat×Oper)
 |[]=>Y|(i,o)::l=>bif !(done.testBit i)&&(!(fC o)&&V6 (a.getD i 0) (done||| wC))then Z (i,o)else RU a done wC l
def zu(E:gC)(a:Nat):X0->cr S->bx S->O (cr S×bx S)
 |[],fr,s=>Z (fr,s)|(i,o)::l,fr,s=>bif a.testBit i then match o.op,o.dst with
   |.alloc t,Z d=>match E.E.ti t with
    |some b=>bif Nt s.aH bO&&Nt d fr.n then zu E a l (fr.put d (.ptr s.aH 0)) (dy s (.box (b.zero.map zeroV)))else Y|none=>Y
   |_,_=>Y
  else zu E a l fr s
def j6(p:Nat->aa)(fr:cr S)(o:Op):aa:=o.operands.toList.any λx=>match cI fr x with
 |some v=>cQ p v|none=>J
def OT:Op->aa
 |.move _|.assign _|.nilCheck _|.fieldAddr ..=>W|_=>J
def Gf(ops:L Oper)(a:L Nat)(done i:Nat)(fr:cr S)(aH:Nat)(wr ow:L Nat):X0->aa
 |[]=>W|(j,o)::l=>(!(done.testBit j)||(fC o||((a.getD i 0).testBit j||(!(j6 (dU wr aH) fr o.op||j6 (dU wr aH) (sB fr o.op) o.op)||(OT o.op&&!(j6 (λx=>ow.contains x) fr o.op||j6 (λx=>ow.contains x) (sB fr o.op) o.op))))))&&Gf ops a done i fr aH wr ow l
def ze(all:X0)(done:Nat):Nat:=all.foldl (λb(i,o)=>bif fC o&&!(done.testBit i)then b||| 1 <<< i else b) 0
def aiF(ops:L Oper)(fr:cr S):cr S:={fr with tm:=(ops.filterMap (·.dst)).foldl (λt k=>t.del aP k) fr.tm}
def vw(ops:L Oper)(a:L Nat)(all:X0)(kp:cr S->V S->bx S->O ω)(k:cr S->bx S->O ω):Nat->Nat->cr S->bx S->O ω
 |0,_,_,_=>Y|n+1,done,fr,s=>
  match RS E ops a done fr all with
  |some (i,o)=>bif gU fr o.dst then bif vX ops fr o then vw ops a all kp k n (done||| 1 <<< i) (fr.jb o.dst eA) s else match iT ops fr o with
    |none=>Y|some Y=>fR E Y fr s o λt=>LN (Vb ops o.dst) t λt=>vw ops a all kp k n (done||| 1 <<< i) (fr.jb o.dst t) s|some (Z c)=>aS (PA c fr o.op) (fR E (Z c) (sB fr o.op) s o λt=>vw ops a all kp k n (done||| 1 <<< i) (fr.jb o.dst (.gd c t)) s)
   else Y
  |none=>
   let b:=ze all done
   match RU a done b all with
   |some (i,o)=>
    bif all.all (λ(j,p)=>done.testBit j||(fC p||(Nq i j||(a.getD j 0).testBit i)))then
     match zu E.T (b&&& a.getD i 0) all fr s with
     |none=>Y|some (d,f)=>
      qv E call ops o d {f with wr:=[]} (λt e=>kp (aiF ops d) t {e with wr:=e.wr++f.wr}) λt e g=>
       bif Gf ops a done i fr s.aH e.wr g all then vw ops a all kp k n (done||| (b&&& a.getD i 0)||| 1 <<< i) ((dH g d).jb o.dst t) {e with wr:=e.wr++f.wr}else Y
    else Y
   |none=>match zu E.T b all fr s with
    |none=>Y|some (fr,s)=>bif all.all (λ(j,p)=>done.testBit j||fC p)then k fr s else Y
def Tu(E:gC)(n:Nat)(l:L Oper):aa:=l.all λo=>bif fC o then(match o.op with
  |.alloc t=>(E.E.ti t).isSome|_=>W)&&(match o.dst with|some d=>Nt d n|none=>W)
 else W
def aa0(E:eI S)(fr:cr S)(s:bx S)(l:L Oper)(a:L Nat):aa:=v7 l 0&&(aiD l a&&(SW l a&&(agJ l&&(Tu E.T fr.n l&&Nq s.fl 0))))
end
inductive LO(X R B P:Type) where
 |next (x:X)|out (j:Nat) (x:X)|ret (b:B) (r:R)|iN (b:B) (p:P)
def iter{X R B P:Type}(F:X->O (LO X R B P)):Nat->X->O (LO X R B P)
 |0,_=>Y|n+1,x=>match F x with
  |none=>Y|some (.next y)=>iter F n y|some (.out j y)=>Z (.out j y)|some (.ret y r)=>Z (.ret y r)|some (.iN y p)=>Z (.iN y p)
def Rq:Code->aa
 |.region _ c _=>c.toList.all λo=>match o.op with|.defer _=>J|_=>W
 |.seq a b=>Rq a&&Rq b|.cond _ a b=>Rq a&&Rq b|.block _ b=>Rq b|.loop b=>Rq b|.scope _=>J|.rangeFunc ..=>J|_=>W
def vV:Code->L Nat
 |.region _ d _=>d.toList.foldl (λl o=>o.op.operands.toList.foldl (λl x=>match x with|.tmp k=>k::l|_=>l) l) []
 |.seq a b=>vV a++vV b|.cond c a b=>(match c with|.tmp k=>[k]|_=>[])++(vV a++vV b)
 |.block _ b=>vV b|.loop b=>vV b|_=>[]
def PD(l:L Nat)(fr:cr S):cr S:={n:=fr.n,tm:=l.foldl (λt k=>match fr.get k with|some v=>t.set aP k v|none=>t) .nil,df:=[]}
def RH:L Nat->L (V S)->Tr (V S)->Tr (V S)
 |k::a,v::b,t=>RH a b (t.set aP k v)|_,_,t=>t
def LY:LoopState->O Code->aa
 |.ready,Y=>W|_,_=>J
def ag8{S:Sg}:LoopState->O Code->O (vT S)
 |.ready,Y=>Z .su|.done,Z (.exit i)=>Z (.ext i)|.done,Z .ret=>Z .ret|_,_=>Y
def Vq:Operand->L Nat
 |.tmp k=>[k]|_=>[]
def eV:Code->L Nat
 |.region _ d _=>d.toList.filterMap (·.dst)|.seq a b=>eV a++eV b|.cond c a b=>Vq c++(eV a++eV b)|.block _ b=>eV b|.loop b=>eV b|.rangeFunc _ _ a b=>eV a++eV b|.scope b=>eV b|_=>[]
def lO:Code->L Nat
 |.seq a b=>lO a++lO b|.cond _ a b=>lO a++lO b|.block i b=>(lO b).filter λj=>!(Nq i j)|.loop b=>lO b|.rangeFunc _ _ a b=>lO a++lO b|.scope b=>lO b|.exit i=>[i]|_=>[]
def xq:L Nat->L Nat
 |[]=>[]|a::l=>a::(xq l).filter λb=>!(Nq a b)
abbrev LOT(S:Sg)(sh:Sh)(rs:L Ck):=LO (gp S.A (lY sh)) (gJ S.A rs) (gp S.A (lY (Rp sh))) (den S.A S.pt)
def exS(ds:L Nat):Sh->L Nat
 |[]=>[]|(k,.one (.own _))::l=>bif ds.contains k then exS ds l else k::exS ds l|_::l=>exS ds l
def Sj:Sh->L Nat
 |[]=>[]|(k,.one (.own _))::l=>k::Sj l|_::l=>Sj l
def Yt(fr:cr S)(s:bx S)(c:Nat):O (V S):=bif Nt c 1000000 then fr.get c else match fr.get (Nat.div (Nat.sub c 1000000) 1000)with
 |some (.ptr o 0)=>match s.ob.get o with
  |some (.box a)=>nth a (Nat.mod (Nat.sub c 1000000) 1000)|_=>Y
 |_=>Y
def XK(fr:cr S)(s:bx S)(al:L (Nat×Nat)):aa:=al.all λp=>match fr.get p.1,Yt fr s p.2 with
 |some (.sh o r),Z (.sh a b)=>Nq o a&&Nq r b|_,_=>J
def ae4(fr:cr S)(ow:L Nat)(al:L (Nat×Nat)):aa:=al.all λp=>match fr.get p.1 with
 |some (.sh o _)=>ow.contains o|_=>J
def m9(s:bx S):L (Nat×Nat)->cr S->cr S
 |[],fr=>fr|p::l,fr=>m9 s l (match Yt fr s p.2 with|some v=>fr.put p.1 v|none=>fr)
def aeF(fr:cr S)(l:L Nat):aa:=l.all λk=>match fr.get k with
 |some (.sh _ _)=>W|_=>J
def Gn(ds:L Nat)(sh:Sh):aa:=sh.all λp=>match p.2 with
 |.one _=>ds.contains p.1|.box _=>W|.hid _=>W
abbrev Rv:=L (Nat×Ty)
def Gr(rv:Rv):L Ck:=rv.map λp=>.dat p.2
def Yz(fr:cr S):Rv->O (L (V S))
 |[]=>Z []|(k,_)::l=>match fr.get k,Yz fr l with
  |some v,Z r=>Z (v::r)|_,_=>Y
def y7:(rv:Rv)->gJ S.A (Gr rv)->cr S->cr S
 |[],_,fr=>fr|(k,_)::l,x,fr=>y7 l x.2 (fr.put k (.ty _ x.1))
def cr.ue(fr:cr S)(c:Operand)(b:aa):cr S:=match c with
 |.tmp k=>bif Nt k fr.n then fr.put k (.kb b)else fr|_=>fr
noncomputable def JM{ω:Type}(e:aa)(x y:O ω):O ω:=bif e then(open Classical in if x=y then y else Y)else y
def ad7(l:L Nat)(i:Nat):Nat:=match l with
 |[]=>0|a::l=>bif Nq a i then 0 else Ns (ad7 l i)
def VY(aH:Nat)(bs wr:L Nat):aa:=wr.all λo=>Nl aH o||bs.contains o
def v5{ω:Type}(sh:Sh)(bs:L Nat)(aH:Nat)(fr:cr S)(s:bx S)(f:gp S.A (lY sh)->O ω):O ω:=
 match rm sh bs fr s with
 |some (x,a,b)=>bif VY aH bs a.wr&&(b.all (λo=>Nl aH o)&&a.dr.all (λo=>Nl aH o))then f x else Y|none=>Y
section
variable (E:eI S)(call:gD S)(n:Nat)(fid:FuncId)(rv:Rv)
def aaN{ω:Type}(k:cr S->bx S->O ω)(Q:vT S->cr S->bx S->O ω):vT S->cr S->bx S->O ω
 |.su,fr,s=>k fr s|.ext i,fr,s=>Q (.ext i) fr s|.ret,fr,s=>Q .ret fr s|.iN v,fr,s=>Q (.iN v) fr s
def PN{ω:Type}(i:Nat)(Q:vT S->cr S->bx S->O ω):vT S->cr S->bx S->O ω
 |.su,fr,s=>Q .su fr s|.ext j,fr,s=>match Nq j i with
  |true=>Q .su fr s|false=>Q (.ext j) fr s
 |.ret,fr,s=>Q .ret fr s|.iN v,fr,s=>Q (.iN v) fr s
def adp{ω:Type}(Q:vT S->cr S->bx S->O ω)(fr:cr S)(s:bx S):L Nat->Nat->O ω
 |[],_=>Y|[i],_=>Q (.ext i) fr s|i::l,j=>match j with
  |0=>Q (.ext i) fr s|j+1=>adp Q fr s l j
def uZ(aH:Nat)(s:bx S):L (tG S)->O (L Nat)
 |[]=>Z []|.mark o::l=>match s.ob.get o with
  |some .AG=>bif Nl aH o then(match uZ aH s l with|some r=>Z (o::r)|none=>Y)else Y
  |_=>Y
 |_=>Y
def akw(fl aH:Nat)(base:cr S×bx S):aa:=match base.1.df with
 |.marks o::_=>(match base.2.ob.get o with
  |some .Hj=>Nt o aH&&Nl fl o|_=>J)
 |_=>J
def RK(aH:Nat)(base:cr S×bx S)(fr':cr S)(s':bx S):aa:=
 match uZ aH s' (fr'.df.take (Nat.sub (cM fr'.df) (cM base.1.df)))with
 |some os=>sU os&&(Nq (Na (cM os) (cM base.1.df)) (cM fr'.df)&&(Nq (cM os) 0||akw s'.fl aH base))|none=>J
def RP(sh:Sh)(bs:L Nat)(aH:Nat)(a:L Nat)(base:cr S×bx S)(c:aa)(al:L (Nat×Nat))(ex:vT S)(fr':cr S)(s':bx S):O (LOT S sh (Gr rv)):=
 bif RK aH base fr' s' then match ex with
  |.su=>bif XK fr' s' al then v5 sh bs aH fr' s' (λy=>Z (.next y))else Y|.ext j=>bif a.contains j&&XK fr' s' al then v5 sh bs aH fr' s' (λy=>Z (.out (ad7 a j) y))else Y|.ret=>match Yz fr' rv with
   |none=>Y|some d=>match gG s' (Gr rv) d with
    |some (r,b,_)=>match dZ s' b with
     |some s'=>v5 (Rp sh) bs aH fr' s' (λy=>Z (.ret y r))|none=>Y
    |none=>Y
  |.iN v=>bif c then match gG s' [.dat S.pt] [v]with
    |some (p,b,_)=>match dZ s' b with
     |some s'=>v5 (Rp sh) bs aH fr' s' (λy=>Z (.iN y p.1))|none=>Y
    |none=>Y
   else Y
  else Y
def Gx(e:{ω:Type}->(vT S->cr S->bx S->O ω)->cr S->bx S->O ω)(sh:Sh)(bs:L Nat)(aH:Nat)(b:L Nat)(base:cr S×bx S)(f:aa)(al:L (Nat×Nat))(x:gp S.A (lY sh)):O (LOT S sh (Gr rv)):=
 match nJ sh bs x base.1 base.2 with
 |none=>Y|some (c,a)=>e (λg d h=>RP rv sh bs aH b base f al g d {h with lo:=base.2.lo}) (m9 a al c) {a with lo:=aH}
def vn:Code->O Nat
 |.region id _ _=>Z id|.seq a b=>match vn a with
  |some k=>Z k|none=>vn b
 |.cond _ a b=>match vn a with
  |some k=>Z k|none=>vn b
 |.block _ b=>vn b|.loop b=>vn b|.scope b=>vn b|_=>Y
def alq(a b:Code):Nat:=match vn a with
 |some k=>Na 1000000 k|none=>match vn b with
  |some k=>Na 1000000 k|none=>999999
noncomputable def Vp{ω:Type}(c:Operand)(A B:(vT S->cr S->bx S->O ω)->cr S->bx S->O ω)(Q:vT S->cr S->bx S->O ω)(fr:cr S)(s:bx S):O ω:=match cI fr c with
  |some (.kb W)=>A Q fr s|some (.kb J)=>B Q fr s|some (.ub e)=>JM e (A Q (fr.ue c W) s) (B Q (fr.ue c J) s)|some v=>match iI v with
   |some t=>ak t (A Q (fr.ue c W) s) (B Q (fr.ue c J) s)|none=>Y
  |none=>Y
def Z2(k:{ω:Type}->(vT S->cr S->bx S->O ω)->cr S->bx S->O ω){ω:Type}(sh:Sh)(i:L Pt)(al:L (Nat×Nat))(g h:L Nat)(Q:vT S->cr S->bx S->O ω)(fr:cr S)(s:bx S):O ω:=
 match sr fr s sh i with
 |none=>Y|some e=>
  let ds:=g++(exS g sh++al.map (·.1))
  match rm sh e fr s with
  |none=>Y|some (l,b,f)=>
   let base:=cR ds f e fr b
   bif (Gn ds sh&&(aeF fr (exS g sh)&&(XK fr s al&&ae4 fr f al)))&&ds.all (λd=>Nt d fr.n)then
    aj (Gx rv k sh e b.aH h base E.pn al l) λ(o:LOT S sh (Gr rv))=>match o with
     |.next x=>match nJ sh e x base.1 base.2 with
      |none=>Y|some (c,a)=>Q .su (m9 a al c) {a with wr:=b.ob.jZ (gQ (dU f b.aH))++(e++b.wr),dr:=f++b.dr}
     |.out j x=>match nJ sh e x base.1 base.2 with
      |none=>Y|some (c,a)=>adp Q (m9 a al c) {a with wr:=b.ob.jZ (gQ (dU f b.aH))++(e++b.wr),dr:=f++b.dr} h j
     |.ret x r=>match nJ (Rp sh) e x base.1 base.2 with
      |none=>Y|some (c,a)=>Q .ret (y7 rv r c) {a with wr:=b.ob.jZ (gQ (dU f b.aH))++(e++b.wr),dr:=f++b.dr}
     |.iN y p=>bif E.pn then match nJ (Rp sh) e y base.1 base.2 with
      |none=>Y|some (c,a)=>Q (.iN (.ty S.pt p)) c {a with wr:=b.ob.jZ (gQ (dU f b.aH))++(e++b.wr),dr:=f++b.dr}
      else Y
   else Y
def Zm{ω:Type}(b:(vT S->cr S->bx S->O ω)->cr S->bx S->O ω)(Q:vT S->cr S->bx S->O ω)(a:cr S->bx S->O ω):Nat->cr S->bx S->O ω
 |0,fr,s=>a fr s|m+1,fr,s=>b (aaN (Zm b Q a m) Q) fr s
def ZM(k:{ω:Type}->(vT S->cr S->bx S->O ω)->cr S->bx S->O ω){ω:Type}(sh:Sh)(i:L Pt)(al:L (Nat×Nat))(g h:L Nat)(Q:vT S->cr S->bx S->O ω)(fr:cr S)(s:bx S):O ω:=match sr fr s sh i with
  |none=>Y|some e=>
   let ds:=g++(exS g sh++al.map (·.1))
   match rm sh e fr s with
   |none=>Y|some (l,a,f)=>
    let base:=cR ds f e fr a
    bif (Gn ds sh&&(aeF fr (exS g sh)&&(XK fr s al&&ae4 fr f al)))&&ds.all (λd=>Nt d fr.n)then
     aj (iter (Gx rv k sh e a.aH h base E.pn al) n l) λ(o:LOT S sh (Gr rv))=>match o with
      |.next _=>Y|.out j x=>match nJ sh e x base.1 base.2 with
       |none=>Y|some (c,b)=>adp Q (m9 b al c) {b with wr:=a.ob.jZ (gQ (dU f a.aH))++(e++a.wr),dr:=f++a.dr} h j
      |.ret x r=>match nJ (Rp sh) e x base.1 base.2 with
       |none=>Y|some (c,b)=>Q .ret (y7 rv r c) {b with wr:=a.ob.jZ (gQ (dU f a.aH))++(e++a.wr),dr:=f++a.dr}
      |.iN y p=>bif E.pn then match nJ (Rp sh) e y base.1 base.2 with
       |none=>Y|some (c,b)=>Q (.iN (.ty S.pt p)) c {b with wr:=a.ob.jZ (gQ (dU f a.aH))++(e++a.wr),dr:=f++a.dr}
       else Y
    else Y
def NP:Code->aa
 |.seq a b=>NP a||NP b|.cond _ a b=>NP a||NP b|.block _ b=>NP b|.loop b=>NP b|.rangeFunc ..=>W|.scope b=>NP b|_=>J
def apw{ω:Type}(b:aa)(k:cr S->bx S->O ω)(fr:cr S)(s:bx S):O ω:=
 bif b then(bif Nt s.aH bO then k {fr with df:=.marks s.aH::fr.df} (dy s .Hj)else Y)else k fr s
noncomputable def Ac:Code->Nat->{ω:Type}->(vT S->cr S->bx S->O ω)->cr S->bx S->O ω
 |.region _ h J,_,_,Q,fr,s=>Vh E call h.toList (λfr t s=>Q (.iN t) fr s) (Q .su) h.toList fr s|.region _ h W,_,_,Q,fr,s=>
  let l:=h.toList
  let m:=xF l
  let all:=l.zipIdx.map λp=>(p.2,p.1)
  bif aa0 E fr s l m then vw E call l m all (λfr t s=>Q (.iN t) fr s) (Q .su) (Ns (Nat.mul 2 (cM l))) 0 fr s else Y
 |.seq a b,i,_,Q,fr,s=>Ac a i (aaN (Ac b i Q) Q) fr s|.cond c a b,i,_,Q,fr,s=>match E.sh fid (alq a b)with
  |none=>Vp c (Ac a i) (Ac b i) Q fr s|some ⟨sh,j,o,_⟩=>Z2 E rv (λQ fr s=>Vp c (Ac a i) (Ac b i) Q fr s) sh j o (eV (.cond c a b)++rv.map (·.1)) (xq (lO (.cond c a b))) Q fr s
 |.block i b,_,_,Q,fr,s=>Ac b i (PN i Q) fr s|.loop b,i,_,Q,fr,s=>match E.sh fid i with
  |none=>Y|some ⟨sh,j,o,u⟩=>Zm (Ac b i) Q (apw (NP b) λfr s=>ZM E n rv (Ac b i) sh j o (eV b++rv.map (·.1)) (xq (lO b)) Q fr s) u fr s
 |.rangeFunc g v k d,_,_,Q,fr,s=>match(cI fr g).bind (qz · [.r9 (Ns s.aH)])with
  |none=>Y|some (f,args)=>bif Rq k&&(Rq d&&(Nl s.fl (Ns s.aH)&&Nt (Ns s.aH) bO))then
    vz E call (dy (dy s .AG) (.lp ⟨.ready,Y,fid,PD (vV k++vV d) fr,v.toList,k,d⟩)) f args (λ_ _=>Y) λ_ q r=>match q.ob.get (Ns s.aH)with
      |some (.lp l)=>match ag8 l.st l.wC with
       |some e=>Q e {(dH r fr)with df:=.mark s.aH::(dH r fr).df} {q with ob:=q.ob.set aP (Ns s.aH) (.lp {l with st:=.exhausted})}
       |none=>Y
      |_=>Y
   else Y
 |.exit i,_,_,Q,fr,s=>Q (.ext i) fr s|.ret,_,_,Q,fr,s=>Q .ret fr s|.skip,_,_,Q,fr,s=>Q .su fr s|.label _,_,_,Q,fr,s=>Q .su fr s|.scope b,i,_,Q,fr,s=>Ac b i Q fr s|_,_,_,_,_,_=>Y
end
def lZ(E:gC)(s:bx S)(fr:cr S):L ResultVar->O (L (V S))
 |[]=>Z []|.tmp t::l=>match fr.get t,lZ E s fr l with
  |some x,Z r=>Z (x::r)|_,_=>Y
 |.cell a t::l=>match E.E.ti t,fr.get a with
  |some i,Z a=>match zh i (E.ty t) s a,lZ E s fr l with
   |some (p,x,_),Z r=>bif p then Z (x::r)else Y|_,_=>Y
  |_,_=>Y
def RL(E:gC):L ResultVar->L TypeId->Rv
 |.tmp k::l,t::a=>match E.ty t with
  |some τ=>(k,τ)::RL E l a|none=>RL E l a
 |_::l,_::a=>RL E l a|_,_=>[]
def isRec(o:Oper):aa:=match o.guard,o.op with
 |none,.call c=>match c.callee with
  |.builtin .recover=>W|_=>J
 |_,_=>J
def akg(pv:O (V S)):V S:=match pv with
 |some v=>v|none=>.dat (.lit .nilIface)
section
variable (E:eI S)(call:gD S)(n:Nat)(pv:Option (V S)){ω:Type}
noncomputable def evR(fid:FuncId)(rv:Rv):Code->Nat->(aa->vT S->cr S->bx S->O ω)->cr S->bx S->O ω
 |.region id d J,i,Q,fr,s=>match d.toList with
  |o::l=>bif isRec o then(bif gU fr o.dst then Vh E call (o::l) (λfr t s=>Q pv.isSome (.iN t) fr s) (Q pv.isSome .su) l (fr.jb o.dst (akg pv)) s else Y)
   else Ac E call n fid rv (.region id d J) i (Q J) fr s
  |[]=>Y
 |.seq a b,i,Q,fr,s=>evR fid rv a i (λe f fr s=>match f with
  |.su=>Ac E call n fid rv b i (Q e) fr s|f=>Q e f fr s) fr s
 |c,i,Q,fr,s=>Ac E call n fid rv c i (Q J) fr s
noncomputable def Vj(d:tG S)(s:bx S)(k:aa->bx S->O ω):O ω:=match d with
 |.call f args=>match qz f args with
  |none=>Y|some (f,args)=>match E.T.E.Ve f with
   |none=>Y|some fn=>match fn.body with
    |none=>Y|some c=>bif Nl (cM args) fn.ntmps&&Nt fn.ntmps bO then
      evR E call n pv f (RL E.T fn.results.toList fn.resultTypes.toList) c 0 (λa e fr b=>match fr.df with
       |[]=>match e with
        |.su|.ret=>match lZ E.T b fr fn.results.toList with
         |some _=>k a {b with lo:=s.lo}
         |none=>Y
        |_=>Y
       |_::_=>Y) {n:=fn.ntmps,tm:=ni args 0 .nil} {s with lo:=s.aH}
     else Y
 |.mark o=>match s.ob.get o with
  |some .AG=>bif Nl s.fl o&&Nt o bO then k J {s with ob:=s.ob.del aP o,wr:=o::s.wr}else Y
  |_=>Y
 |.marks o=>match s.ob.get o with
  |some .Hj=>bif Nl s.fl o&&Nt o bO then k J {s with ob:=s.ob.del aP o,wr:=o::s.wr}else Y
  |_=>Y
 |_=>Y
end
noncomputable def H8(E:eI S)(call:gD S)(n:Nat){ω:Type}:L (tG S)->O (V S)->bx S->(O (V S)->bx S->O ω)->O ω
 |[],pv,s,k=>k pv s|d::l,pv,s,k=>Vj E call n pv d s λa b=>H8 E call n l (bif a then Y else pv) b k
def PS(E:gC){ω:Type}(a:L ResultVar)(fr:cr S)(k kp:V S->bx S->O ω)(pv:O (V S))(s:bx S):O ω:=match pv with
 |none=>match lZ E s fr a with
  |some l=>k (EY l) s|none=>Y
 |some v=>kp v s
noncomputable def Vi(E:eI S)(call:gD S)(n:Nat){ω:Type}(a:L ResultVar)(k kp:V S->bx S->O ω):vT S->cr S->bx S->O ω
 |.su,fr,s=>H8 E call n fr.df Y s (PS E.T a fr k kp)|.ret,fr,s=>H8 E call n fr.df Y s (PS E.T a fr k kp)|.iN v,fr,s=>H8 E call n fr.df (Z v) s (PS E.T a fr k kp)|.ext _,_,_=>Y
def afS:vT S->O (O Code)
 |.su=>Z Y|.ret=>Z (Z .ret)|.ext i=>Z (Z (.exit i))|.iN _=>Y
def afB(o:Nat){ω:Type}(k:V S->bx S->O ω)(e:vT S)(_:cr S)(s:bx S):O ω:=match s.ob.get o,afS e with
 |some (.lp l),Z Y=>k (.kb W) {s with ob:=s.ob.set aP o (.lp {l with st:=.ready,wC:=Y})}
 |some (.lp l),Z (Z c)=>k (.kb J) {s with ob:=s.ob.set aP o (.lp {l with st:=.done,wC:=Z c}),wr:=o::s.wr}
 |_,_=>Y
noncomputable def afA(E:eI S)(call:gD S)(n o:Nat)(fid:FuncId)(a:Code){ω:Type}(k:V S->bx S->O ω):vT S->cr S->bx S->O ω
 |.su,fr,s=>match s.ob.get o with
  |some (.lp l)=>bif LY l.st l.wC then Ac E call n fid [] a 0 (afB o k) fr {s with ob:=s.ob.set aP o (.lp {l with st:=.busy})}else Y
  |_=>Y
 |_,_,_=>Y
noncomputable def LX(E:eI S)(call:gD S)(n o:Nat)(args:L (V S))(s:bx S){ω:Type}(k:V S->bx S->O ω):O ω:=match s.ob.get o with
 |some (.lp l)=>bif LY l.st l.wC&&(Nq (cM args) (cM l.params)&&(l.params.all (λk=>Nt k l.fr.n)&&(Nl l.fr.n bO&&(Rq l.assign&&(Rq l.body&&(Nl s.fl o&&Nl s.lo s.aH))))))then
   Ac E call n l.fid [] l.assign 0 (afA E call n o l.fid l.body k) {n:=l.fr.n,tm:=RH l.params args l.fr.tm,df:=[]} s
  else Y
 |_=>Y
noncomputable def abh(E:eI S)(n:Nat)(call:gD S):gD S:=λtg args s{_}k b=>match tg with
 |.yl o=>LX E call n o args {s with lo:=s.aH} λt a=>k t {a with lo:=s.lo}
 |.yd o=>LX E call n o args s k|.jn f=>match E.T.E.Ve f with
  |none=>Y|some fn=>match fn.body with
   |none=>Y|some c=>
    bif Nl (cM args) fn.ntmps&&(Nt fn.ntmps bO&&Nl s.lo s.aH)then
     Ac E call n f (RL E.T fn.results.toList fn.resultTypes.toList) c 0 (Vi E call n fn.results.toList k b) {n:=fn.ntmps,tm:=ni args 0 .nil} s
    else Y
 |.fn f=>match E.T.E.Ve f with
  |none=>Y|some fn=>match fn.body with
   |none=>Y|some c=>
    bif Nl (cM args) fn.ntmps&&Nt fn.ntmps bO then
     Ac E call n f (RL E.T fn.results.toList fn.resultTypes.toList) c 0 (Vi E call n fn.results.toList (λv a=>k v {a with lo:=s.lo}) (λv a=>b v {a with lo:=s.lo})) {n:=fn.ntmps,tm:=ni args 0 .nil} {s with lo:=s.aH}
    else Y
noncomputable def xA(E:eI S)(n:Nat):Nat->gD S
 |0=>λ_ _ _{_}_ _=>Y|d+1=>abh E n (xA E n d)
noncomputable def abj(E:eI S)(n d:Nat)(f:FuncId)(args:L (V S))(s:bx S){ω:Type}(k kp:V S->bx S->O ω):O ω:=match E.T.E.Ve f with
  |none=>Y|some fn=>match fn.body with
   |none=>Y|some c=>
    bif Nl (cM args) fn.ntmps&&Nt fn.ntmps bO then
     Ac E (xA E n d) n f (RL E.T fn.results.toList fn.resultTypes.toList) c 0 (Vi E (xA E n d) n fn.results.toList k kp) {n:=fn.ntmps,tm:=ni args 0 .nil} s
    else Y
def wF(b:Nat)(s:bx S):(ps:L Pk)->gp S.A ps->L (V S)×bx S
 |[],_=>([],s)|.one c::ps,x=>match wJ s c x.1 with
  |(v,s)=>match wF b s ps x.2 with
   |(l,s)=>(v::l,s)
 |.box k::ps,x=>match lU s (Z (Ns b)) k x.1 with
  |(ob,s)=>match wF (Ns b) {s with ob:=s.ob.set aP b ob} ps x.2 with
   |(l,a)=>(WZ k b::l,a)
 |.hid k::ps,x=>match lU s (Z (Ns b)) k x.1 with
  |(ob,s)=>wF (Ns b) {s with ob:=s.ob.set aP b ob} ps x.2
def ef:L Pk->Nat
 |[]=>0|.one _::l=>ef l|.box _::l=>Ns (ef l)|.hid _::l=>Ns (ef l)
def OY(b:Nat):L Ck->Nat->L (Nat×Nat×Nat)
 |[],_=>[]|.dat (.opt n)::l,i=>(b,i,n)::OY b l (Ns i)|_::l,i=>OY b l (Ns i)
def afJ(b:Nat):Bk->L (Nat×Nat×Nat)
 |.cells a=>OY b a 0|.link _ pre post=>OY b pre 0++OY b post (Ns (cM pre))|_=>[]
def Kk:L Pk->Nat->L (Nat×Nat×Nat)
 |[],_=>[]|.one _::l,b=>Kk l b|.box k::l,b=>afJ b k++Kk l (Ns b)|.hid k::l,b=>afJ b k++Kk l (Ns b)
def alw:L Nat->aa
 |[]=>W|_::_=>J
def He(v:V S)(Kw:Nat)(s:bx S)(q:Nat×Nat×Nat):bx S:=match s.ob.get q.1 with
 |some (.box a)=>match nth a q.2.1 with
  |some (.ptr o 0)=>match s.ob.get o with
   |some (.box b)=>match oE s (S.fs q.2.2) b with
    |some (h,os)=>
     let p:=λk=>Nq o k||Nl s.aH k
     bif alw os&&(Nl Kw o&&(Nt q.1 Kw&&!(cQ p v)))then
      {s with ob:=(s.ob.mapA (fq p)).set aP q.1 (.box ((a.map (gu p)).set q.2.1 (.ty (.opt q.2.2) (Z (S.FC q.2.2 h)))))}
     else s
    |none=>s
   |_=>s
  |_=>s
 |_=>s
def aeE(d:L Ck)(ps:L Pk)(v:V S)(s0:bx S):O (gJ S.A d×ic S.A ps):=
 let e:=(Kk ps 0).foldl (He v (ef ps)) s0
 match gG e d (YC d v),uW e 0 ps with
 |some (r,f,g),Z (b,a,c)=>match dZ e (f++a)with
  |some _=>bif sU (g++c)&&DA (g++c) (f++a)then Z (r,b)else Y|none=>Y
 |_,_=>Y
def aio(a:aa)(b:L Ck)(ps:L Pk)(v:V S)(s':bx S):O (RT a (gJ S.A b×ic S.A ps) (den S.A S.pt×ic S.A ps)):=
 match aeE b ps v s' with
 |some r=>Z (RT.ok a r)|none=>Y
def ain(a:aa)(b:L Ck)(ps:L Pk)(v:V S)(s':bx S):O (RT a (gJ S.A b×ic S.A ps) (den S.A S.pt×ic S.A ps)):=
 match aeE [.dat S.pt] ps v s' with
 |some r=>RT.iN a (r.1.1,r.2)|none=>Y
noncomputable def vZ(E:eI S)(n d:Nat)(f:FuncId)(ps:L Pk)(a:L Ck)(x:gp S.A ps):O (RT E.pn (gJ S.A a×ic S.A ps) (den S.A S.pt×ic S.A ps)):=
 match wF 0 ⟨.nil,ef ps,0,ef ps,[],[]⟩ ps x with
 |(args,s)=>bif !(Nl s.aH bO)then Y else abj E n d f args s (aio E.pn a ps) (ain E.pn a ps)
section
namespace Tr
variable {α β:Type}
def map(f:α->β):Tr α->Tr β
 |.nil=>.nil|.node v l r=>.node (v.map f) (map f l) (map f r)
def get_map(f:α->β):∀(t:Tr α)(k:Nat),(t.map f).get k=(t.get k).map f
 |.nil,k=>by rfl
 |.node v l r,0=>by rw[map,jk,jk]
 |.node v l r,k+1=>by rw[map,dL,dL,get_map f l,get_map f r];split<;>rfl
theorem mZ(f:α->β):∀(n:Nat)(t:Tr α)(k:Nat)(x:α),(Tr.set n t k x).map f=Tr.set n (t.map f) k (f x)
 |0,t,k,x=>rfl|n+1,.nil,0,x=>rfl|n+1,.nil,k+1,x=>by rw[map,p8,p8];split;rw[map,mZ f n];rfl;rw[map,mZ f n];rfl
 |n+1,.node v l r,0,x=>rfl|n+1,.node v l r,k+1,x=>by rw[map,ot,ot];split;rw[map,mZ f n];rw[map,mZ f n]
end Tr
def vA(S:Sg):(l:L (TypeId×Ty))->yV S.A l->O (TypeId×D)
 |[],_=>Y|p::_,.inl x=>Z (p.1,enc S p.2 x)|_::l,.inr y=>vA S l y
def QH:L (TypeId×Ty)->aa
 |[]=>W|p::l=>(xN l p.1).isNone&&QH l
structure fE(S:Sg):Prop where
 sY:∀n h,S.get n (S.FC n h)=h
 ZH:∀n x,S.FC n (S.get n x)=x
 cells:∀n x,S.cells n x=fj S (S.fs n) (S.get n x)
 leaf:∀n,∀t∈S.fs n,lf t=J
 FF:∀n h,S.vg n (S.imk n h)=h
 sv:∀n x,S.sv n x=vA S (S.alts n) (S.vg n x)
 alts:∀n,QH (S.alts n)=W
def Qc:∀l:L (TypeId×Ty),vA S l (ZB l)=Y
 |[]=>rfl|_::l=>Qc l
def Qd:∀(l:L (TypeId×Ty))(t:TypeId)(i:Nat)(x:den S.A (nL l i)),xN l t=Z i->vA S l (aaa l i x)=Z (t,enc S (nL l i) x)
 |[],t,i,x,h=>by cases h
 |p::l,t,i,x,h=>by
  obtain⟨a,h⟩|⟨_,h⟩:=ah h
  simp at h;subst h;simp only[aaa,vA,wA a];rfl;split at h;rename_i j b;simp only[gV]at h;subst h;exact Qd l t j x b;cases h
def akI:Ty->Nat
 |.str=>16|.dn _=>16|.sl _=>24|_=>8
def acW:L Ty->Nat
 |[]=>0|t::l=>Na (akI t) (acW l)
def An(S:Sg):Ty->Nat
 |.int .i8|.int .u8=>1|.int .i16|.int .u16=>2|.int .i32|.int .u32=>4|.int _=>8|.bool=>1|.str=>16|.sl _=>24|.st n=>acW (S.fs n)|.dn _=>16|.opt _|.mp _ _=>8
def ad5(o:O (TypeId×D)):(Rr o).lby=16:=by cases o<;>rfl
theorem xb(o:O (TypeId×D)):(Rr o).leaf=W:=by cases o<;>rfl
theorem nZ(o:O (TypeId×D)):(Rr o).cells=[Rr o]:=by cases o<;>rfl
def ahB(o:O (TypeId×D)):(Rr o).s9=16:=by cases o<;>rfl
def jc(o:O D):(ptD o).lby=8/\(ptD o).leaf=W/\(ptD o).cells=[ptD o]/\(ptD o).s9=8:=by cases o<;>exact⟨rfl,rfl,rfl,rfl⟩
def nq:∀(ts:L Ty)(h:mA S.A ts),(fj S ts h).length=ts.length
 |[],_=>rfl|t::ts,h=>by simp[fj,nq ts]
variable {t u:Ty}{v:V S}
def aeG(x:den S.A t)(h:lf t=J):(enc S t x).lby=akI t:=by cases t<;>first|rfl|exact ad5 _|exact(jc _).1|cases h
def Gd:∀(ts:L Ty)(h:mA S.A ts),(∀t∈ts,lf t=J)->D.pQ (fj S ts h)=acW ts
 |[],_,_=>rfl|t::ts,h,a=>by simp[fj,D.pQ,acW,aeG _ (a t (by simp)),Gd ts h.2 (λu b=>a u (by simp[b]))]
def Ic(x:den S.A t)(h:lf t=J):(enc S t x).leaf=W:=by cases t<;>first|rfl|exact xb _|exact(jc _).2.1|cases h
def iD:∀(ts:L Ty)(h:mA S.A ts),(∀t∈ts,lf t=J)->∀d∈fj S ts h,d.leaf=W
 |[],_,_,d,a=>by simp[fj]at a
 |t::ts,h,b,d,a=>by
  simp[fj,gn]at a;obtain rfl|a:=a
  exact Ic _ (b t (by simp));exact iD ts h.2 (λu c=>b u (by simp[c])) d a
def Dg(a:fE S)(x:den S.A t):(enc S t x).s9=An S t:=by
 cases t with
 |st n=>simp[enc,D.s9,An];rw[show S.cells n x=_ from a.cells n x,Gd _ _ (a.leaf n)]|int k=>cases k<;>rfl
 |dn n=>exact ahB _|opt n=>exact(jc _).2.2.2|_=>rfl
theorem lq(a:fE S){t:Ty}(x:den S.A t):(enc S t x).cells.length=S.width t:=by cases t with|st n=>simp[enc,D.cells,Sg.width,bZ];rw[show S.cells n x=_ from a.cells n x,nq]|dn n=>rw[show enc S (.dn n) x=Rr (S.sv n x)from rfl,nZ];rfl|opt n=>exact eC List.length (jc _).2.2.1|_=>rfl
theorem Qb(a:fE S){t:Ty}(x:den S.A t):(enc S t x).flat=W:=by cases t with|st n=>simp[enc,D.flat,D.cells,kU];rw[show S.cells n x=_ from a.cells n x];exact iD _ _ (a.leaf n)|dn n=>grind[enc,D.flat,nZ,xb]|opt n=>simp[enc,D.flat,(jc _).2.2.1,(jc _).2.1]|_=>rfl
def ek(S:Sg):(t:Ty)->den S.A t->T
 |.st n,x=>.agg ((S.cells n x).map .sym)|.int k,x=>.sym (enc S (.int k) x)|.bool,x=>.sym (enc S .bool x)|.str,x=>.sym (enc S .str x)|.sl e,x=>.sym (enc S (.sl e) x)|.dn n,x=>.sym (enc S (.dn n) x)|.opt n,x=>.sym (enc S (.opt n) x)|.mp k v,x=>.sym (enc S (.mp k v) x)
def zZ(x:den S.A t)(h:lf t=J):ek S t x=.sym (enc S t x):=by cases t<;>first|rfl|cases h
mutual
def low:V S->T
 |.ty t x=>ek S t x|.kb b=>.kb b|.kn k n=>.kn k n|.dat d=>.sym d|.ptr o off=>.ptr o off|.mD t x off=>.mD (enc S t x) off|.mC o e i off=>.mC o e i off|.sh o e=>.sh o e|.emp=>.emp|.kR n t l=>.kR n (l.map (enc S t))|.fn f a b=>.fn f (bI a) (bI b)|.dn t v=>.dn t (low v)|.agg g=>.agg (bI g)|.gX h=>.gX (bI h)|.gd c v=>.gd c (low v)|.mp o=>.mp o|.r9 o=>.r9 o|.uH o=>.uH o|.ub e=>.ub e|.sV o m r i=>.sV o m r i|.qx n j x=>.qx j (enc S (.st n) x)
def bI:L (V S)->L T
 |[]=>[]|v::l=>low v::bI l
end
def ff:∀l:L (V S),bI l=l.map low
 |[]=>rfl|v::l=>by simp[bI,o7,ff l]
def mP:tG S->Df
 |.call f args=>.call (low f) (bI args)|.mark o=>.mark o|.marks o=>.marks o|.kO=>.kO|.bad=>.bad
def bM(fr:cr S):Fr:=⟨fr.n,fr.tm.map low,fr.df.map mP⟩
def uc(l:LpV S):Lp:=⟨l.st,l.wC,l.fid,bM l.fr,l.params,l.assign,l.body⟩
def dj:vO S->Ob
 |.box d=>.box (bI d)|.arr t l era=>.arr (S.width t) (l.map (enc S t)) era|.lW t l era=>.lW (S.width t) (l.map (enc S t)) era|.map kt e l=>.map (l.map λp=>(ek S kt p.1,ek S e p.2))|.Jh kt l=>.map (l.map λp=>(ek S kt p.1,low p.2))|.r8 b pos=>.r8 (cY b) pos|.lp l=>.lp (uc l)|.AG=>.AG|.l8 n j l era m a hole=>.l8 j (S.width (.st n)) (l.map (enc S (.st n))) era m a hole|.rws t c a=>.rws (S.width t) (c.map (·.map (enc S t))) a|.gone=>.gone|.Hj=>.Hj
def aF(s:bx S):St:=⟨s.ob.map dj,s.aH,s.fl,s.lo⟩
theorem aN(s:bx S)(o:Nat):(aF s).ob.get o=(s.ob.get o).map dj:=Tr.get_map _ _ _
theorem cq(fr:cr S)(k:Nat):(bM fr).get k=(fr.get k).map low:=Tr.get_map _ _ _
def WT(fr:cr S)(k:Nat)(v:V S):bM (fr.put k v)=(bM fr).put k (low v):=by simp[bM,cr.put,Fr.put,Tr.mZ]
def Su(fr:cr S)(k:O Nat)(v:V S):bM (fr.jb k v)=(bM fr).jb k (low v):=by cases k with|none=>rfl|some k=>exact WT fr k v
theorem eJ(s:bx S)(o:Nat)(ob:vO S)(wr:L Nat):aF {s with ob:=s.ob.set aP o ob,wr:=wr}={aF s with ob:=(aF s).ob.set aP o (dj ob)}:=by simp[aF,Tr.mZ]
def hU(s:bx S)(ob:vO S):aF (dy s ob)=(ew (aF s) (dj ob)).2:=by simp[aF,dy,ew,Tr.mZ]
def abi(b:ByteArray):cY (ofBytes b)=b:=by rfl
def Ta{v:aD}{u:V S}(h:vF v=Z u):ofConst v=Z (low u):=by
 cases v with
 |bool b=>simp[vF,gV]at h;subst h;rfl|int k n=>simp[vF,gV]at h;subst h;rfl|string b=>simp[vF,gV]at h;subst h;simp only[ofConst,low,ek,enc,El,jQ];rw[abi]|slice a n m=>
  unfold vF at h;split at h;all_goals first
   |(simp only[gV]at h;rename_i c;simp only[Value.slice.injEq]at c;obtain⟨rfl,rfl,rfl⟩:=c;subst h;rfl)
   |(rename_i c;cases c;done)
   |grind[El]
 |func f a b=>
  simp[vF]at h;simp[ofConst];split at h
  .simp at h;subst h;rename_i h1 h2;try rw[h1,h2]
   rfl
  cases h
 |iface t v=>simp[vF,gi]at h;obtain⟨d,e,rfl⟩:=h;simp only[ofConst,e,jQ];rfl
 |_=>simp only[vF,gi]at h;obtain⟨d,e,rfl⟩:=h;simp only[ofConst,e,jQ];rfl
theorem cH{fr:cr S}{x:Operand}{u:V S}(h:cI fr x=Z u):kC (bM fr) x=Z (low u):=by
 cases x with
 |tmp k=>grind[cI,kC,cq]|const v=>exact Ta h|global g=>cases h
 |func f=>simp[cI,gV]at h;subst h;rfl
def hJ{fr:cr S}:∀{l:L Operand}{a:L (V S)},kB fr l=Z a->zf (bM fr) l=Z (bI a)
 |[],a,h=>by simp only[kB,gV]at h;subst h;rfl
 |x::l,a,h=>by simp[kB]at h;split at h;rename_i h1 h2;simp at h;subst h;simp[zf,cH h1,hJ h2,bI];cases h
def La{x:den S.A t}{y:den S.A u}(h:xz t u x=Z y):t=u/\HEq x y:=by
 unfold xz at h
 grind
def fU{x:L (den S.A t)}{y:L (den S.A u)}(h:oX t u x=Z y):t=u/\HEq x y:=by
 unfold oX at h
 grind
theorem gN{k:IntKind}{v:V S}{n:Int}(h:ia k v=Z n):∃p,yU k (low v)=Z (p,n)/\p:=by unfold ia at h;split at h;rename_i j m;cases a:pz j k<;>rw[a]at h;cases h;simp at h;subst h;exact⟨True,by simp[low,yU,a],trivial⟩;rename_i j x;cases a:pz j k<;>rw[a]at h;cases h;simp at h;subst h;exact⟨_,rfl,a⟩;cases h
def mS{b:aa}(h:iI v=Z b):∃p,BT (low v)=Z (p,b)/\p:=by unfold iI at h;split at h;simp at h;subst h;exact⟨True,rfl,trivial⟩;simp at h;subst h;exact⟨_,rfl,rfl⟩;cases h
def lX{b:L UInt8}(h:wL v=Z b):∃p,AR (low v)=Z (p,cY b)/\p:=by unfold wL at h;split at h;simp at h;subst h;exact⟨_,rfl,rfl⟩;cases h
def wZ:∀(ts:L Ty)(h:mA S.A ts),(∀t∈ts,lf t=J)->bI (Bm (S:=S) ts h)=(fj S ts h).map .sym
 |[],_,_=>rfl|t::ts,h,a=>by simp only[Bm,bI,fj,o7,wZ ts h.2 (λu b=>a u (by simp[b]))];rw[low,zZ _ (a t (by simp))]
theorem eU:∀l:L (V S),(bI l).length=l.length
 |[]=>rfl|v::l=>by simp[bI,eU l]
def kF(l m:L (V S)):bI (l++m)=bI l++bI m:=by simp[ff,Kb]
def mN(l:L (V S))(n:Nat):bI (l.take n)=(bI l).take n:=by simp[ff,List.map_take]
def mO(l:L (V S))(n:Nat):bI (l.drop n)=(bI l).drop n:=by simp[ff,List.map_drop]
def WW(h:ZU v=W):(low v).leaf:=by
 cases v with
 |ty t x=>simp[ZU,Ox]at h;rw[low,zZ _ h];exact Ic x h|dat d=>exact h|agg=>cases h
 |gX=>cases h
 |gd=>cases h
 |_=>trivial
def z4:∀{l:L (V S)},CQ l=W->leaves (bI l)
 |[],_=>trivial|v::l,h=>by simp[CQ,eX]at h;exact⟨WW h.1,z4 h.2⟩
def GG(cs:L D):(List.range cs.length).map (λj=>T.sym ((D.agg cs).cell j))=cs.map .sym:=by
 apply OL
 grind[D.cell,D.cells]
theorem rV(f:fE S){i:TI}{v:V S}{l:L (V S)}(h:xw i v=Z l):∃p,kN i (low v)=Z (p,bI l)/\p:=by
 unfold xw at h;split at h;rename_i g;obtain⟨a,h⟩|⟨_,h⟩:=ah h
 simp at h;have:(i.agg&&Nq (cM (bI g)) i.size)=W:=by grind[bZ,eU]
 exact⟨True,by simp_all[low,kN],trivial⟩;cases h;rename_i n x;obtain⟨a,h⟩|⟨_,h⟩:=ah h
 simp at h;subst h;rw[wZ _ _ (f.leaf n),<-f.cells];have:(i.agg&&Nq (cM ((S.cells n x).map T.sym)) i.size)=W:=by rw[bZ,Sb,f.cells,nq,<-bZ];exact a
 exact⟨True,by simp_all[low,ek,kN],trivial⟩;cases h;rename_i d;obtain⟨_,h⟩|⟨b,h⟩:=ah h
 cases h;obtain⟨a,h⟩|⟨_,h⟩:=ah h
 simp only[eX]at a;simp at h;subst h;exact⟨_,by simp only[low,kN,b,a.1,iq,jP];rfl,a.2⟩;(iterate 3 cases h);obtain⟨_,h⟩|⟨b,h⟩:=ah h
 cases h;obtain⟨a,h⟩|⟨_,h⟩:=ah h
 .simp at h;subst h;cases v with
  |ty t x=>
   have j:lf t=J:=by cases t with|st n=>grind|_=>rfl
   have e:low (V.ty t x)=.sym (enc S t x):=by rw[low,zZ _ j]
   refine⟨(enc S t x).leaf=W,?_,Ic _ j⟩
   simp_all[bI,kN]
  |agg g=>simp_all|dat d=>simp_all|gX k=>simp_all|gd c v=>simp_all|_=>exact⟨True,by simp only[low,bI,kN,b,a,iq,jP],trivial⟩
 cases h
def qG{ag:aa}{l:L (V S)}(h:Eg ag l=Z v):wS ag (bI l)=Z (low v):=by
 obtain⟨a,h⟩|⟨a,h⟩:=ah h
 simp at h;subst h;simp[wS,a,iq,low];split at h
 simp_all[wS,bI]
 cases h
end
section
def zw(S:Sg)(i:TI):Ty->Prop
 |.int k=>i.kd=.leaf (.int k)/\i.agg=J/\i.size=1|.bool=>i.kd=.leaf .bool/\i.agg=J/\i.size=1|.str=>i.kd=.leaf .str/\i.agg=J/\i.size=1|.sl e=>(∃z,i.kd=.slice (S.width e) (lf e) (An S e) z/\(bif lf e then D.agg z=enc S e (S.zero e)else z=[enc S e (S.zero e)]))/\i.agg=J/\i.size=1/\0<S.width e|.st n=>i.agg=W/\i.size=(S.fs n).length|.dn _=>i.kd=.iface/\i.agg=J/\i.size=1|.opt _=>i.kd=.ptr/\i.agg=J/\i.size=1|.mp _ _=>True/\i.agg=J/\i.size=1
structure TB(S:Sg)(E:gC):Prop where
 row:∀k i τ,E.E.ti k=Z i->E.ty k=Z τ->zw S i τ
def yf(s:St):∀ds:L D,∃p,oF s (ds.map .sym)=Z (p,ds,[])/\p
 |[]=>⟨True,rfl,trivial⟩|d::ds=>by
  let ⟨p,h,a⟩:=yf s ds
  exact⟨True/\p,by grind[oF,Ct],trivial,a⟩
variable {t e:Ty}{n:Int}{s:bx S}{v:V S}{i:TI}{τ:Option Ty}{fr:cr S}{u:Option (V S)}
def V1(a:fE S)(s:St)(x:den S.A t):∃p,Ct s (ek S t x)=Z (p,enc S t x,[])/\p:=by
 cases t with
 |st n=>
  let ⟨p,h,b⟩:=yf s (S.cells n x)
  refine⟨p/\(S.cells n x).all D.leaf=W,by simp[ek,Ct,h,enc],b,?_⟩;rw[kU,a.cells];exact iD _ _ (a.leaf n)
 |_=>exact⟨True,rfl,trivial⟩
def Pf(k:IntKind):pz k k=W:=by cases k<;>rfl
def ye:∀t:Ty,sN t t=W
 |.int k=>Pf k|.bool=>rfl|.str=>rfl|.sl e=>ye e|.st n=>Nat.beq_refl n|.dn n=>Nat.beq_refl n|.opt n=>Nat.beq_refl n|.mp k v=>zT.2 ⟨ye k,ye v⟩
theorem xy{t:Ty}(x:den S.A t):xz (S:=S) t t x=Z x:=by unfold xz;rw[dif_pos (ye t)]
def KN:∀{ts:L Ty}{h:mA S.A ts}{j:Nat}{t:Ty}{y:den S.A t},nth ts j=Z t->fj S ts (yW ts h j t y)=(fj S ts h).set j (enc S t y)
 |[],_,_,_,_,h=>by rfl
 | τ::ts,h,0,t,y,e=>by
  grind[nth,yW,xy,fj]
 | τ::ts,h,j+1,t,y,e=>by simp[nth]at e;simp[yW,fj,List.set_cons_succ,KN e]
def KO:∀{ts:L Ty}{h:mA S.A ts}{j:Nat}{t:Ty},nth ts j=Z t->(fj S ts h)[j]?=Z (enc S t (eu ts h j t))
 |[],_,_,_,h=>by simp[nth]at h
 | τ::ts,h,0,t,e=>by
  grind[nth,eu,xy,fj]
 | τ::ts,h,j+1,t,e=>by simp[nth]at e;simp[eu,fj,List.getElem?_cons_succ,KO e]
def Iq{n j:Nat}(h:E7 S n j t=W):nth (S.fs n) j=Z (.sl t):=by
 grind[E7,j4]
theorem aaX(a:fE S){n j:Nat}{t:Ty}(b:E7 S n j t=W)(x:S.A n)(y:L (den S.A t)):enc S (.st n) (Wc n j t x y)=Bx j (enc S (.st n) x) (y.map (enc S t)):=by show D.agg (S.cells n _)=D.agg ((S.cells n x).set j _);rw[a.cells,a.cells,Wc,a.sY,KN (Iq b)];rfl
theorem HT(a:fE S){n j:Nat}{t:Ty}(b:E7 S n j t=W):∀(l:L (S.A n))(iY:L (L (den S.A t))),(pW n j t l iY).map (enc S (.st n))=nk j (l.map (enc S (.st n))) (iY.map (·.map (enc S t)))
 |[],_=>by rfl
 |_::_,[]=>by rfl
 |x::l,c::iY=>by
  grind[pW,nk,aaX]
def AX{m r:Nat}{iY:L (L (den S.A t))}(h:Oi s m r=Z ⟨t,iY⟩):Jr (aF s) m r=Z (iY.map (·.map (enc S t))):=by
 unfold Oi at h;split at h;obtain⟨a,h⟩|⟨_,h⟩:=ah h
 cases h
 simp_all[Jr,aN,dj]
 cases h;cases h
mutual
def qT(d:fE S)(s:bx S):∀(t:Ty)(v:V S){x:den S.A t}{os:L Nat},ck s t v=Z (x,os)->∃p,Ct (aF s) (low v)=Z (p,enc S t x,os)/\p
 |t,.ty u y,x,os,h=>by simp[ck]at h;split at h;rename_i z f;obtain⟨rfl,c⟩:=La f;cases c;obtain⟨rfl,rfl⟩:=h;exact V1 d _ _;cases h
 |.bool,.kb b,x,os,h=>by obtain⟨rfl,rfl⟩:=h;exact⟨True,rfl,trivial⟩
 |.int k,.kn j n,x,os,h=>by
  obtain⟨g,h⟩|⟨_,h⟩:=ah h
  obtain⟨rfl,rfl⟩:=h;rw[CR g];exact⟨True,rfl,trivial⟩;cases h
 |.sl e,.emp,x,os,h=>by obtain⟨rfl,rfl⟩:=h;exact⟨True,rfl,trivial⟩
 |.sl e,.kR n t l,x,os,h=>by simp[ck]at h;split at h;rename_i z f;obtain⟨rfl,c⟩:=fU f;cases c;obtain⟨rfl,rfl⟩:=h;exact⟨True,rfl,trivial⟩;cases h
 |.sl e,.sh o r,x,os,h=>by
  simp[ck]at h;split at h;rename_i t l era q;obtain⟨g,h⟩|⟨_,h⟩:=ah h
  split at h;rename_i z f;obtain⟨rfl,c⟩:=fU f;cases c;obtain⟨rfl,rfl⟩:=h;refine⟨True,?_,trivial⟩
  simp_all[low,Ct,aN,dj,enc]
  cases h;cases h;rename_i t l era q;obtain⟨g,h⟩|⟨_,h⟩:=ah h
  split at h;rename_i z f;obtain⟨rfl,c⟩:=fU f;cases c;obtain⟨rfl,rfl⟩:=h;refine⟨True,?_,trivial⟩
  simp_all[low,Ct,aN,dj,enc]
  cases h;cases h;rename_i n j l era m r' q;split at h;rename_i t E F;obtain⟨g,h⟩|⟨_,h⟩:=ah h
  simp only[eX]at g;split at h;rename_i z f;obtain⟨rfl,c⟩:=fU f;cases c;obtain⟨rfl,rfl⟩:=h;refine⟨True,?_,trivial⟩;simp only[low,Ct,aN,q,jQ,dj,AX F,g.1,g.2.1,OE,iq];rw[<-HT d g.2.2];rfl;iterate 4 cases h
 |.sl e,.qx n j x0,x,os,h=>by simp[ck]at h;split at h;rename_i f;obtain⟨rfl,c⟩:=fU f;cases c;obtain⟨rfl,rfl⟩:=h;exact⟨True,rfl,trivial⟩;cases h
 |.st n,.agg I,x,os,h=>by
  simp[ck]at h;split at h;rename_i h1 w K;obtain⟨rfl,rfl⟩:=h
  let ⟨p,A,B⟩:=qD d s (S.fs n) I K
  have C:S.cells n (S.FC n h1)=fj S (S.fs n) h1:=by rw[d.cells,d.sY]
  refine⟨p/\(fj S (S.fs n) h1).all D.leaf=W,by simp[low,Ct,A,enc,C],B,?_⟩;rw[kU];exact iD _ _ (d.leaf n);cases h
 |.dn n,.dn t v,x,os,h=>by
  simp[ck]at h;split at h;rename_i i P;split at h;rename_i y w R;obtain⟨rfl,rfl⟩:=h
  let ⟨p,A,B⟩:=qT d s _ v R
  refine⟨p,?_,B⟩;have e:enc S (.dn n) (S.imk n (aaa (S.alts n) i y))=.dn t (enc S (nL (S.alts n) i) y):=by show Rr (S.sv n _)=_;rw[d.sv,d.FF,Qd _ _ _ _ P];rfl
  simp[low,Ct,A,e];cases h;cases h
 |.dn n,.dat (.lit .nilIface),x,os,h=>by
  obtain⟨rfl,rfl⟩:=h;refine⟨True,?_,trivial⟩;have e:enc S (.dn n) (S.imk n (ZB (S.alts n)))=.lit .nilIface:=by show Rr (S.sv n _)=_;rw[d.sv,d.FF,Qc];rfl
  simp[low,Ct,e]
 |.opt _,.dat (.lit v),_,_,h=>by
  cases v with
  |pointer a=>cases a<;>simp[ck]at h;obtain⟨rfl,rfl⟩:=h;exact⟨True,rfl,trivial⟩
  |_=>simp[ck]at h
 |.opt _,.dat (.sl _),_,_,h=>by simp[ck]at h
 |.opt _,.dat (.agg _),_,_,h=>by simp[ck]at h
 |.opt _,.dat (.dn _ _),_,_,h=>by simp[ck]at h
 |.opt _,.dat (.gX _),_,_,h=>by simp[ck]at h
 |.opt _,.dat (.pt _),_,_,h=>by simp[ck]at h
 |.opt _,.dat (.mp _ _),_,_,h=>by simp[ck]at h
 |.mp _ _,.dat _,_,_,h=>by simp[ck]at h
 |.dn _,.kb _,_,_,h=>by simp[ck]at h
 |.dn _,.kn _ _,_,_,h=>by simp[ck]at h
 |.dn _,.emp,_,_,h=>by simp[ck]at h
 |.dn _,.kR _ _ _,_,_,h=>by simp[ck]at h
 |.dn _,.sh _ _,_,_,h=>by simp[ck]at h
 |.dn _,.qx _ _ _,_,_,h=>by simp[ck]at h
 |.bool,.qx _ _ _,_,_,h=>by simp[ck]at h
 |.str,.qx _ _ _,_,_,h=>by simp[ck]at h
 |.int _,.qx _ _ _,_,_,h=>by simp[ck]at h
 |.st _,.qx _ _ _,_,_,h=>by simp[ck]at h
 |t,.sV _ _ _ _,_,_,h=>by cases t<;>simp[ck]at h
 |.dn _,.agg _,_,_,h=>by simp[ck]at h
 |.int _,.dn _ _,_,_,h=>by simp[ck]at h
 |.bool,.dn _ _,_,_,h=>by simp[ck]at h
 |.str,.dn _ _,_,_,h=>by simp[ck]at h
 |.sl _,.dn _ _,_,_,h=>by simp[ck]at h
 |.st _,.dn _ _,_,_,h=>by simp[ck]at h
 |.int _,.dat _,_,_,h=>by simp[ck]at h
 |.bool,.dat _,_,_,h=>by simp[ck]at h
 |.str,.dat _,_,_,h=>by simp[ck]at h
 |.sl _,.dat _,_,_,h=>by simp[ck]at h
 |.st _,.dat _,_,_,h=>by simp[ck]at h
 |.dn _,.dat (.sl _),_,_,h=>by simp[ck]at h
 |.dn _,.dat (.agg _),_,_,h=>by simp[ck]at h
 |.dn _,.dat (.dn _ _),_,_,h=>by simp[ck]at h
 |.dn _,.dat (.gX _),_,_,h=>by simp[ck]at h
 |.dn _,.dat (.lit (.bool _)),_,_,h=>by simp[ck]at h
 |.dn _,.dat (.lit (.int _ _)),_,_,h=>by simp[ck]at h
 |.dn _,.dat (.lit (.float _ _)),_,_,h=>by simp[ck]at h
 |.dn _,.dat (.lit (.complex _ _ _)),_,_,h=>by simp[ck]at h
 |.dn _,.dat (.lit (.string _)),_,_,h=>by simp[ck]at h
 |.dn _,.dat (.lit (.pointer _)),_,_,h=>by simp[ck]at h
 |.dn _,.dat (.lit (.slice _ _ _)),_,_,h=>by simp[ck]at h
 |.dn _,.dat (.lit (.map _)),_,_,h=>by simp[ck]at h
 |.dn _,.dat (.lit (.chan _)),_,_,h=>by simp[ck]at h
 |.dn _,.dat (.lit (.iface _ _)),_,_,h=>by simp[ck]at h
 |.dn _,.dat (.lit (.func _ _ _)),_,_,h=>by simp[ck]at h
 |.dn _,.dat (.lit .nilFunc),_,_,h=>by simp[ck]at h
 |.dn _,.dat (.lit (.agg _)),_,_,h=>by simp[ck]at h
 |.dn _,.dat (.lit (.tuple _)),_,_,h=>by simp[ck]at h
 |t,.mp _,_,_,h=>by cases t<;>simp[ck]at h
 |t,.r9 _,_,_,h=>by cases t<;>simp[ck]at h
 |t,.uH _,_,_,h=>by cases t<;>simp[ck]at h
 |t,.ub _,_,_,h=>by cases t<;>simp[ck]at h
 |.int _,.kb _,_,_,h=>by simp[ck]at h
 |.str,.kb _,_,_,h=>by simp[ck]at h
 |.sl _,.kb _,_,_,h=>by simp[ck]at h
 |.st _,.kb _,_,_,h=>by simp[ck]at h
 |.bool,.kn _ _,_,_,h=>by simp[ck]at h
 |.str,.kn _ _,_,_,h=>by simp[ck]at h
 |.sl _,.kn _ _,_,_,h=>by simp[ck]at h
 |.st _,.kn _ _,_,_,h=>by simp[ck]at h
 |.bool,.emp,_,_,h=>by simp[ck]at h
 |.str,.emp,_,_,h=>by simp[ck]at h
 |.int _,.emp,_,_,h=>by simp[ck]at h
 |.st _,.emp,_,_,h=>by simp[ck]at h
 |.bool,.kR _ _ _,_,_,h=>by simp[ck]at h
 |.str,.kR _ _ _,_,_,h=>by simp[ck]at h
 |.int _,.kR _ _ _,_,_,h=>by simp[ck]at h
 |.st _,.kR _ _ _,_,_,h=>by simp[ck]at h
 |.bool,.sh _ _,_,_,h=>by simp[ck]at h
 |.str,.sh _ _,_,_,h=>by simp[ck]at h
 |.int _,.sh _ _,_,_,h=>by simp[ck]at h
 |.st _,.sh _ _,_,_,h=>by simp[ck]at h
 |.bool,.agg _,_,_,h=>by simp[ck]at h
 |.str,.agg _,_,_,h=>by simp[ck]at h
 |.int _,.agg _,_,_,h=>by simp[ck]at h
 |.sl _,.agg _,_,_,h=>by simp[ck]at h
 |t,.ptr _ _,_,_,h=>by cases t<;>simp[ck]at h
 |t,.mD _ _ _,_,_,h=>by cases t<;>simp[ck]at h
 |t,.mC _ _ _ _,_,_,h=>by cases t<;>simp[ck]at h
 |t,.fn _ _ _,_,_,h=>by cases t<;>simp[ck]at h
 |t,.gX _,_,_,h=>by cases t<;>simp[ck]at h
 |t,.gd _ _,_,_,h=>by cases t<;>simp[ck]at h
def qD(b:fE S)(s:bx S):∀(ts:L Ty)(l:L (V S)){h:mA S.A ts}{os:L Nat},oE s ts l=Z (h,os)->∃p,oF (aF s) (bI l)=Z (p,fj S ts h,os)/\p
 |[],[],x,os,h=>by obtain⟨_,rfl⟩:=h;exact⟨True,rfl,trivial⟩
 |t::ts,v::l,x,os,h=>by
  simp[oE]at h;split at h;rename_i c d;obtain⟨rfl,rfl⟩:=h
  let ⟨p,e,f⟩:=qT b s t v c
  let ⟨q,a,g⟩:=qD b s ts l d
  exact⟨p/\q,by simp[bI,oF,e,a,fj],f,g⟩;cases h
 |[],_::_,_,_,h=>by simp[oE]at h
 |_::_,[],_,_,h=>by simp[oE]at h
end
def dG(c:fE S):∀(os:L Nat){s s':bx S},dZ s os=Z s'->freeze (aF s) os=Z (aF s')
 |[],s,s',h=>by simp only[dZ,gV]at h;subst h;rfl
 |o::os,s,s',h=>by
  simp only[dZ]at h;obtain⟨e,h⟩|⟨_,h⟩:=ah h
  have d:Nl (aF s).fl o=W:=e;simp only[freeze,d,iq];split at h;rename_i t l era b;have:=dG c os h
  grind[eJ,aN,dj]
  rename_i t l era b;simp only[aN,b,jQ,dj];exact dG c os h;rename_i m r b;split at h;rename_i t f g;obtain⟨a,h⟩|⟨_,h⟩:=ah h
  simp only[eX]at a;have:=dG c os h;have i:Nl (aF s).fl m=W:=a.2.1;simp only[aN,b,jQ,dj,AX g,i,a.1,a.2.2.1,OE,iq]
  grind[aF,Tr.mZ,dj,HT]
  cases h;cases h;rename_i b;simp only[aN,b,jQ,dj];exact dG c os h;rename_i b;simp only[aN,b,jQ,dj];exact dG c os h;cases h;cases h
def AT{l:L (den S.A e)}(h:LQ s e v=Z l):∃p,Cz (aF s) (low v)=Z (p,l.map (enc S e))/\p:=by
 unfold LQ at h;split at h;simp only[gV]at h;subst h;exact⟨True,rfl,trivial⟩;obtain⟨rfl,a⟩:=fU h;cases a;exact⟨True,rfl,trivial⟩;obtain⟨rfl,a⟩:=fU h;cases a;exact⟨True,rfl,trivial⟩;obtain⟨rfl,a⟩:=fU h;cases a;exact⟨_,rfl,rfl⟩;split at h;rename_i t c era d;obtain⟨b,h⟩|⟨_,h⟩:=ah h
 obtain⟨rfl,a⟩:=fU h;cases a;exact⟨True,by simp_all[low,Cz,aN,dj],trivial⟩;cases h;obtain⟨b,h⟩|⟨_,h⟩:=ah h
 obtain⟨rfl,a⟩:=fU h;cases a;exact⟨True,by simp_all[low,Cz,aN,dj],trivial⟩;iterate 3 cases h
def QE{o e:Nat}{l:L (den S.A t)}(h:Nf s o e=Z ⟨t,l⟩):JK (aF s) o e=Z (S.width t,l.map (enc S t)):=by
 unfold Nf at h;unfold JK;rw[aN];split at h;rename_i b c era d;obtain⟨a,h⟩|⟨_,h⟩:=ah h
 cases h
 simp_all[dj]
 cases h;obtain⟨a,h⟩|⟨_,h⟩:=ah h
 cases h
 simp_all[dj]
 cases h;cases h
def S5{α:Type}(f:α->D)(l:L α)(k:Nat)(z:α)(h:k<l.length):jy (l.map f) k=f (bE l k z):=by simp[jy,bE,h]
def w9{α:Type}{l:L α}(h:aM n l=W):0<=n/\n<l.length:=by simpa[aM]using h
def ug{α:Type}{k:Nat}{l:L α}(h:ei k l=W):k<l.length:=by simpa[ei]using h
def Bn(a:fE S)(x:den S.A t):bI (w4 (S:=S) t x)=(enc S t x).cells.map .sym:=by cases t with|st n=>simp[w4,enc,D.cells];rw[wZ _ _ (a.leaf n),a.cells]|dn n=>show[T.sym (Rr (S.sv n x))]=(Rr (S.sv n x)).cells.map .sym;rw[nZ];rfl|opt n=>exact(eC (List.map T.sym) (jc _).2.2.1).symm|_=>rfl
def CI(g:fE S)(hi:∀u,τ=Z u->zw S i u){x:den S.A t}{off:Nat}(h:UK i τ t x off=Z v) :
  nI i (enc S t x) off=Z (low v)/\(enc S t x).has (Na off i.size):=by
 have w:=lq g x;obtain⟨f,o⟩|⟨_,h⟩:=ah h
 simp only[eX]at f;clear h
 let ⟨h1,h2⟩:=f
 have p:=beq_iff'.1 h1;subst p;have h:=ko o;subst h;unfold acR at h2;split at h2
 .rename_i u;have:=j4 h2;subst this;have c:=hi u rfl;cases u with
  |st n=>
   let ⟨b,a⟩:=c
   have q:(S.cells n x).length=(S.fs n).length:=by rw[g.cells,nq]
   refine⟨?_,?_⟩;unfold nI;rw[b,iq,a,<-q];simp[enc,low,ek,GG]
   simp_all[D.has,enc,D.cells]
  |int k=>let ⟨_,b,a⟩:=c;exact⟨by simp only[nI,b,a];rfl,by simp only[D.has,a];exact eP _⟩
  |bool=>let ⟨_,b,a⟩:=c;exact⟨by simp only[nI,b,a];rfl,by simp only[D.has,a];exact eP _⟩
  |str=>let ⟨_,b,a⟩:=c;exact⟨by simp only[nI,b,a];rfl,by simp only[D.has,a];exact eP _⟩
  |sl e=>let ⟨_,b,a,_⟩:=c;exact⟨by simp only[nI,b,a];rfl,by simp only[D.has,a];exact eP _⟩
  |dn n=>
   let ⟨_,b,a⟩:=c
   have e:(enc S (.dn n) x).cells=[enc S (.dn n) x]:=nZ _;exact⟨by simp only[nI,b,a,D.cell,e];rfl,by simp_all[D.has]⟩
  |opt n=>
   let ⟨_,b,a⟩:=c
   have e:(enc S (.opt n) x).cells=[enc S (.opt n) x]:=(jc _).2.2.1;exact⟨by simp only[nI,b,a,D.cell,e];rfl,by simp_all[D.has]⟩
  |mp k v=>let ⟨_,b,a⟩:=c;exact⟨by simp only[nI,b,a];rfl,by simp only[D.has,a];exact eP _⟩
 cases h2;obtain⟨f,h⟩|⟨_,h⟩:=ah h
 .have r:off+i.size<=S.width t:=gY f;have d:=qG h;rw[mN,mO,Bn g]at d;have l:((List.map T.sym (enc S t x).cells).drop off).take i.size=(List.range i.size).map λj=>T.sym ((enc S t x).cell (off+j)):=by
   apply OL;intro j;rw[lK];by_cases y:j<i.size
   grind[D.cell]
   grind
  refine⟨?_,by simp only[D.has];grind⟩;unfold wS at d;unfold nI;cases m:i.agg with
  |true=>
   simp_all
  |false=>
   rw[m,jP]at d;split at d;rename_i s;have h1:i.size=1:=by
    have:=eC List.length s
    grind
   simp_all
   cases d
 cases h
def Kv(e:fE S)(hi:∀u,τ=Z u->zw S i u){s':bx S}{a:V S}{c:aa}(h:zh i τ s a=Z (c,v,s'))(f:c=W) :
  s'=s/\∃p,loadT i (aF s) (low a)=Z (p,low v,aF s')/\p:=by
 unfold zh at h;split at h;rename_i o off;split at h;rename_i g w;obtain⟨y,h⟩|⟨_,h⟩:=ah h
 simp only[gi,fH]at h;obtain⟨t,j,_,rfl,rfl⟩:=h;refine⟨rfl,True,?_,trivial⟩;have m:=qG j;rw[mN,mO]at m;have n:Nq (cM (((bI g).drop off).take i.size)) i.size=W:=by
  grind[bZ,eU]
 simp_all[low,loadT,aN,dj]
 cases h;cases h;rename_i t x off;simp only[gi,fH]at h;obtain⟨u,b,_,rfl,rfl⟩:=h
 let ⟨h1,h2⟩:=CI e hi b
 exact⟨rfl,_,by grind[low,loadT],h2⟩;rename_i k off;split at h;rename_i t l q;simp at h;obtain⟨u,b,rfl,rfl,rfl⟩:=h
 let ⟨h1,h2⟩:=CI e hi b
 have r:=ug f;have d:=S5 (enc S t) l k (S.zero t) r;refine⟨rfl,mj (k:Int) (eT (l.map (enc S t)))/\(enc S t (bE l k (S.zero t))).has (Na off i.size),by simp[low,loadT,QE q,d,h1,jQ],?_,h2⟩
 grind[mj,eT]
 cases h;cases h
def GZ{x:O Operand}(h:Mj fr x=Z u):OX (bM fr) x=Z (u.map low):=by
 cases x with
 |none=>simp[Mj,gV]at h;subst h;rfl|some x=>
  simp[Mj,gi]at h;obtain⟨v,a,rfl⟩:=h
  grind[OX,cH]
def rW{d:Int}(h:Dz d u=Z n):∃p,xE d (u.map low)=Z (p,n)/\p:=by cases u with|none=>simp[Dz,gV]at h;subst h;exact⟨True,rfl,trivial⟩|some v=>exact gN h
def GY(v:V S):tX (low v)=OW v:=by
 cases v with
 |ty t x=>cases t<;>rfl
 |_=>rfl
def uU{fr:cr S}:∀{l:L (Nat×Operand)}{a:L (Nat×V S)},je fr l=Z a->sR (bM fr) l=Z (a.map λp=>(p.1,low p.2))
 |[],a,h=>by simp only[je,gV]at h;subst h;rfl
 |(k,x)::l,a,h=>by simp[je]at h;split at h;rename_i h1 h2;simp at h;subst h;simp[sR,cH h1,uU h2,o7];cases h
def Dc(e:fE S){place:Nat->O (Nat×TI)}:∀{ps:L (Nat×V S)}{cells r:L (V S)},KM place cells ps=Z r->∃p,HW place (bI cells) (ps.map λp=>(p.1,low p.2))=Z (p,bI r)/\p
 |[],cells,r,h=>by simp[KM,gV]at h;subst h;exact⟨True,rfl,trivial⟩
 |(k,v)::ps,cells,r,h=>by
  simp only[KM]at h;split at h;cases h;rename_i g;split at h;cases h;rename_i l i;obtain⟨c,h⟩|⟨_,h⟩:=ah h
  simp only[eX]at c
  let ⟨p,j,d⟩:=rV e i
  let ⟨q,f,m⟩:=Dc e h
  simp only[kF,mN,mO]at f;have b:cM (bI l)=cM l:=by rw[bZ,eU,<-bZ]
  have a:cM (bI cells)=cM cells:=by rw[bZ,eU,<-bZ]
  refine⟨p/\leaves (bI l)/\q,?_,d,z4 c.2,m⟩;simp only[o7,HW,g,j,b,a,c.1,iq,f,jQ];cases h
def Ih(a:fE S){s:bx S}{e:Ty}{i:TI}(hi:i.agg=lf e/\(lf e=W->i.size=S.width e)):∀{ps:L (Nat×V S)}{es r:L (den S.A e)}{os:L Nat},pH s e es ps=Z (r,os)->
  ∃p,s5 (aF s) i (es.map (enc S e)) (ps.map λp=>(p.1,low p.2))=Z (p,r.map (enc S e),os)/\p
 |[],es,r,os,h=>by obtain⟨rfl,rfl⟩:=h;exact⟨True,rfl,trivial⟩
 |(k,v)::ps,es,r,os,h=>by
  simp[pH]at h;split at h;cases h;rename_i x f g;obtain⟨t,h⟩|⟨_,h⟩:=ah h
  split at h
  .rename_i j;obtain⟨rfl,rfl⟩:=h
   let ⟨p,l,m⟩:=qT a s e v g
   let ⟨q,d,o⟩:=Ih a hi j
   rw[GL]at d;have b:Nt k (cM (es.map (enc S e)))=W:=by grind[bZ]
   refine⟨p/\(bif i.agg then(enc S e x).isAgg i.size else(enc S e x).leaf)=W/\q,by simp[o7,s5,l,b,iq,d,jQ],m,?_,o⟩;rw[hi.1];cases e with|st n=>simp only[lf,iq,enc,D.isAgg];have c:=hi.2 rfl;rw[c];simp only[Sg.width,bZ,a.cells,nq,eX];refine⟨beq_iff'.2 rfl,?_⟩;rw[kU];exact iD _ _ (a.leaf n)|dn n=>exact xb _|opt n=>exact(jc _).2.1|_=>rfl
  cases h;cases h
end
section
def wK(s:St):∀(l m:L T){p q:Prop}{ds es:L D}{os ps:L Nat},oF s l=Z (p,ds,os)->oF s m=Z (q,es,ps)->∃r,oF s (l++m)=Z (r,ds++es,os++ps)/\(p->q->r)
 |[],m,p,q,ds,es,os,ps,h,b=>by
  simp only[oF,gV,fH]at h
  grind
 |t::l,m,p,q,ds,es,os,ps,h,b=>by
  simp[oF]at h;split at h;rename_i e d f k g i h1 h2;obtain⟨rfl,rfl,rfl⟩:=h
  let ⟨r,n,a⟩:=wK s l m h2 b
  exact⟨e/\r,by grind[oF],λc j=>⟨c.1,a c.2 j⟩⟩;cases h
def MV(a:fE S):∀(t:Ty)(h:mA S.A (S.nh t)),(enc S t (wU t h)).cells=fj S (S.nh t) h
 |.st n,h=>(a.cells n (S.FC n h)).trans (eC _ (a.sY n h))|.int _,_=>rfl|.bool,_=>rfl|.str,_=>rfl|.sl _,_=>rfl|.dn _,h=>by rw[show(enc S (.dn _) (wU _ h)).cells=[enc S (.dn _) (wU _ h)]from nZ _];rfl
 |.opt _,_=>(jc _).2.2.1|.mp _ _,_=>rfl
variable {i:TI}{s s':bx S}{a x v:V S}{c:aa}{lo hi:Int}
def RB(u:fE S)(h:Ge i s a x=Z (c,v,s'))(hc:c=W) :
  ∃p,storeT i (aF s) (low a) (low x)=Z (p,low v,aF s')/\p:=by
 unfold Ge at h;split at h;cases h;rename_i l hl
 let ⟨p,R,hp⟩:=rV u hl
 have hlen:cM (bI l)=cM l:=by rw[bZ,eU,<-bZ]
 split at h;rename_i o off;split at h;rename_i cs ho;obtain⟨E,F⟩|⟨_,F⟩:=ah h
 clear h;simp only[eX]at E;obtain⟨_,rfl,rfl⟩:=F;have I:cM (bI cs)=cM cs:=by rw[bZ,eU,<-bZ]
 have hb':(Nl (aF s).fl o&&Nl (Na off (cM l)) (cM (bI cs)))=W:=by rw[I,eX];exact⟨E.1,E.2.1⟩
 refine⟨p/\leaves (bI l),?_,hp,z4 E.2.2⟩;simp only[storeT,R,low,aN,ho,jQ,dj,hb',iq,eJ,kF,mN,mO,hlen];rfl;cases F;cases h;rename_i o e k off;split at h;rename_i t _ _ _;split at h;rename_i h0 os hos;split at h;rename_i s1 AE;split at h;rename_i t2 m era ho;split at h;rename_i h2 os2 hh2;obtain⟨E,F⟩|⟨_,F⟩:=ah h
 clear h;simp only[eX]at E
 let ⟨AF,qq,SV,SU,hb5⟩:=E
 obtain⟨rfl,rfl,rfl⟩:=F
 let ⟨q,hd,hq⟩:=qD u s _ l hos
 have hf:=dG u os AE;have hk:=ug hc;have K:=S5 (enc S t2) m k (S.zero t2) hk
 let ⟨q2,z,_⟩:=qD u s _ _ hh2
 have r:off+cM l<=S.width t2:=gY SV;have h1l:1<=cM l:=gY SU;generalize hds:fj S (List.take (cM l) (List.drop off (S.nh t))) h0=ds at hd;have f:ds.length=cM l:=by
  have:∀(s:St)(l:L T){p:Prop}{ds:L D}{os:L Nat},oF s l=Z (p,ds,os)->ds.length=l.length:=by
   intro s l
   induction l with
   |nil=>intro p ds os h;obtain⟨_,rfl,_⟩:=h;rfl
   |cons t l ih=>intro p ds os h;simp[oF]at h;split at h;rename_i h2;obtain⟨_,rfl,_⟩:=h;simp[ih h2];cases h
  rw[this _ _ hd,eU,bZ]
 have B:fj S (S.nh t2) h2=(enc S t2 (bE m k (S.zero t2))).cells.take off++ds++(enc S t2 (bE m k (S.zero t2))).cells.drop (Na off (cM l)):=by
  rw[kF,kF,mN,mO,Bn u,<-List.map_take,<-List.map_drop]at z
  let ⟨r1,e1,_⟩:=yf (aF s) ((enc S t2 (bE m k (S.zero t2))).cells.take off)
  let ⟨r2,e2,_⟩:=yf (aF s) ((enc S t2 (bE m k (S.zero t2))).cells.drop (Na off (cM l)))
  let ⟨r3,e3,_⟩:=wK _ _ _ e1 hd
  let ⟨r4,e4,_⟩:=wK _ _ _ e3 e2
  rw[e4]at z;simp only[gV,fH]at z;exact z.2.1.symm
 have C:D.Rw (enc S t2 (bE m k (S.zero t2))) off ds=enc S t2 (wU t2 h2):=by
  have b:=MV u t2 h2;rw[B]at b;cases t2 with
  |st n=>simp only[enc,D.cells]at b;simp only[enc,D.Rw,f];rw[b];rfl|dn n=>
   simp[Sg.width]at r;have g:off=0:=by omega
   have j:cM l=1:=by omega
   rw[j]at f;obtain⟨d1,rfl⟩:=YN.1 f;subst g;have w:∀y:S.A n,(enc S (.dn n) y).cells=[enc S (.dn n) y]:=λy=>nZ _;rw[w,w]at b;simp[List.take_zero,Ow,j,List.drop_succ_cons,List.drop_nil,iP,OI,and_true]at b;have P:∀y:S.A n,D.Rw (enc S (.dn n) y) 0 [d1]=d1:=λy=>by show D.Rw (Rr (S.sv n y)) 0 [d1]=d1;cases S.sv n y<;>rfl
   rw[P];exact b.symm
  |opt n=>
   simp only[Sg.width]at r;have g:off=0:=by omega
   have j:cM l=1:=by omega
   rw[j]at f;obtain⟨d1,rfl⟩:=YN.1 f;subst g;have w:∀y,(enc S (.opt n) y).cells=[enc S (.opt n) y]:=λy=>(jc _).2.2.1;rw[w,w]at b;simp[List.take_zero,Ow,j,List.drop_succ_cons,List.drop_nil,iP,OI,and_true]at b;have P:∀y,D.Rw (enc S (.opt n) y) 0 [d1]=d1:=λy=>by cases y<;>rfl
   rw[P];exact b.symm
  |_=>
   simp only[Sg.width]at r;have g:off=0:=by omega
   have j:cM l=1:=by omega
   rw[j]at f;obtain⟨d1,rfl⟩:=YN.1 f;subst g;simp only[enc,D.cells,List.take_zero,Ow,j,Nat.add_eq,yS,List.drop_succ_cons,List.drop_nil,iP,OI,and_true]at b;simp only[enc,D.Rw,List.getD,l5,Kc,Nat.lt_add_one,getElem?_pos,List.getElem_cons_zero,RY,yS];exact b.symm
 have htk:(jy (m.map (enc S t2)) k).Uj (S.width t2) off (cM ds):=by
  rw[K,bZ,f];cases t2 with
  |st n=>
   left
   simp only[enc,D.isAgg,Sg.width,bZ,u.cells,nq,eX];refine⟨beq_iff'.2 rfl,?_⟩;rw[kU];exact iD _ _ (u.leaf n)
  |dn n=>simp[Sg.width]at r;exact .inr ⟨xb _,rfl,by omega,by omega⟩
  |opt n=>simp[Sg.width]at r;exact .inr ⟨(jc _).2.1,rfl,by omega,by omega⟩
  |_=>simp only[Sg.width]at r;exact .inr ⟨rfl,rfl,by omega,by omega⟩
 have as5:Nl (Na off (cM ds)) (S.width t2)=W:=by rw[bZ,f];exact SV
 have A:ds.all D.leaf=W:=by
  rw[kU];intro d hd';have:d∈fj S (S.nh t2) h2:=by rw[B];simp[hd']
  cases t2 with|st n=>exact iD _ _ (u.leaf n) d this|dn n=>simp[Sg.nh,fj,tR]at this;rw[this];exact xb _|opt n=>simp[Sg.nh,fj,tR]at this;rw[this];exact(jc _).2.1|_=>simp only[Sg.nh,fj,tR]at this;rw[this];rfl
 have hby:((jy (m.map (enc S t2)) k).Rw off ds).s9=(jy (m.map (enc S t2)) k).s9:=by rw[K,C,Dg u,Dg u]
 have as7:(Nl (aF s1).fl o&&Nq e era)=W:=by rw[eX];exact⟨AF,qq⟩
 refine⟨p/\q/\ds.all D.leaf=W/\mj (k:Int) (eT (m.map (enc S t2)))/\(jy (m.map (enc S t2)) k).Uj (S.width t2) off (cM ds)/\Nl (Na off (cM ds)) (S.width t2)=W/\
  ((jy (m.map (enc S t2)) k).Rw off ds).s9=(jy (m.map (enc S t2)) k).s9,?_,hp,hq,A,?_,htk,as5,hby⟩
 simp only[storeT,R,low,hd,hf,aN,ho,jQ,dj,as7,iq,eJ,K,C,zC,lM,GL];rfl;simp only[mj,eT,Sb];omega;cases F;iterate 6 cases h
def BI{len:Int}(h:eF lo hi len=W):zE lo hi len:=by simpa[eF,zE]using h
def ql{α:Type}(f:α->D)(l:L α):eT (l.map f)=au l:=by simp[eT,au]
def Um{α:Type}(f:α->D)(l:L α)(lo hi:Int):pY (l.map f) lo hi=(cO l lo hi).map f:=by
 grind[pY,cO,List.map_drop,List.map_take]
def tQ(a:fE S){e:Ty}(l:L (den S.A e)):jO (l.map (enc S e)) (S.width e):=by intro d b;obtain⟨x,_,rfl⟩:=wP.1 b;exact lq a x
def Gk(b:L UInt8):vU (cY b)=au b:=by rfl
def RE(b:L UInt8)(h:zE lo hi (au b)):NI (cY b) lo hi=cY (cO b lo hi):=by
 let ⟨h1,h2,h3⟩:=h
 unfold NI cY cO;apply ByteArray.ext
 grind[ByteArray.data_extract,List.drop_take]
def RF(hS:fE S){τ:O Ty}(hi:∀u,τ=Z u->zw S i u){l h m:O (V S)}(g:wM i τ s x l h m=Z (c,v,s'))(C:c=W) :
  ∃p,qV i (aF s) (low x) (l.map low) (h.map low) (m.map low)=Z (p,low v,aF s')/\p:=by
 unfold wM at g;split at g;rename_i lo E
 let ⟨p,f,P⟩:=rW (d:=0) E
 have f:xE AD (l.map low)=Z (p,lo):=f
 let ⟨w,_,_⟩:=hi _ rfl
 split at g;rename_i b _ hb
 let ⟨q,A,R⟩:=lX hb
 split at g;rename_i j B
 let ⟨r,o,I⟩:=rW B
 obtain⟨rfl,rfl,rfl⟩:=g;have a:=BI C;refine⟨p/\q/\r/\zE lo j (vU (cY b)),?_,P,R,I,by exact a⟩;unfold qV;rw[w,f];simp only[A,Option.map_none,Gk,o,RE b a];rfl;cases g;cases g;rename_i e lo E
 let ⟨p,f,P⟩:=rW (d:=0) E
 have f:xE AD (l.map low)=Z (p,lo):=f
 let ⟨⟨z,w,_⟩,_⟩:=hi _ rfl
 split at g;rename_i K s1 _ HM hfz
 let ⟨q,A,R⟩:=AT HM
 have hf:=dG hS _ hfz;rw[<-GY]at hf;split at g;rename_i _ j B
 let ⟨r,o,I⟩:=rW B
 obtain⟨rfl,rfl,rfl⟩:=g;have a:=BI C;refine⟨p/\q/\r/\jO (K.map (enc S e)) (S.width e)/\zE lo j (eT (K.map (enc S e))),?_,P,R,I,tQ hS K,by rw[ql];exact a⟩;unfold qV;rw[w,f];simp only[A,hf,ql,o,Option.map_none,Um];rfl;rename_i j y hv B
 let ⟨r,o,I⟩:=rW B
 simp at o;split at g;obtain⟨rfl,rfl,rfl⟩:=g;simp[eX,fZ,ri]at C;refine⟨p/\q/\r/\lo=AD/\j=AD,?_,P,R,I,C.1,C.2⟩;unfold qV;rw[w,f];simp[A,hf,ql,o,jQ,low];rename_i hno;split at g;rename_i mx hmx
 let ⟨t,ht1,ht⟩:=gN hmx
 obtain⟨rfl,rfl,rfl⟩:=g;simp[eX,fZ,ri]at C;have a:=BI C.1;refine⟨p/\q/\r/\t/\jO (K.map (enc S e)) (S.width e)/\zE lo j (eT (K.map (enc S e)))/\mx=j,?_,P,R,I,ht,tQ hS K,by rw[ql];exact a,C.2⟩;unfold qV;rw[w,f];simp[A,hf,ql,o,jQ,Um];have hnl:∀q,low y=.kn .i64 q->q≠0:=by
  intro q F h0;subst h0;cases y with
  |ty t x=>cases t<;>simp[low,ek]at F
  |kn k n=>obtain⟨rfl,rfl⟩:=F;exact hno rfl
  |_=>simp[low]at F
 generalize low y=ly at ht1 hnl;split;exact absurd rfl (hnl 0 rfl);rw[ht1];rfl;iterate 4 cases g
def IJ{g:O aa}{b:aa}(h:abp v=Z (g,b)):∃p,JL (low v)=Z (p,b)/\(orT g=W->p):=by
 unfold abp at h;split at h;rename_i c i;split at h;rename_i d
 let ⟨p,a,e⟩:=mS d
 obtain⟨rfl,rfl⟩:=h;exact⟨c=W/\p,by simp[low,JL,a],λf=>⟨f,e⟩⟩;cases h;obtain⟨rfl,rfl⟩:=h;exact⟨True,rfl,λ_=>trivial⟩;obtain⟨rfl,rfl⟩:=h;exact⟨_,rfl,λ_=>rfl⟩;cases h
def Wz{c b:V S}{q:aa}(h:Zl c a b=Z (q,v))(f:q=W):∃p,Kh (low c) (low a) (low b)=Z (p,low v)/\p:=by
 unfold Zl at h;split at h;rename_i u;split at h;rename_i p y h1;obtain⟨rfl,rfl⟩:=h
 let ⟨r,e,k⟩:=IJ h1
 refine⟨r,?_,k f⟩;have g:JL (bif u then low a else low b)=Z (r,y):=by cases u<;>exact e
 simp only[low,Kh,g];rfl;cases h;split at h;rename_i t p x C y h1 h2 h3
 let ⟨i,j,l⟩:=mS h1
 let ⟨m,n,o⟩:=IJ h2
 let ⟨s,w,z⟩:=IJ h3
 obtain⟨rfl,rfl⟩:=h;refine⟨i/\(t=W->m)/\(t=J->s),by
  have A:∀u,low c≠.kb u:=by
   intro u d;cases c with
   |kb b=>grind|ty t x=>cases t<;>cases d
   |_=>cases d
  unfold Kh;split
  simp_all
  simp only[j,n,w];rfl,l,λB=>o ?_,λB=>z ?_⟩
 simp_all
 simp_all
 cases h
end
section
variable {v x ix a b:V S}{i:TI}{s s':bx S}{c:aa}{op:BinOp}
def ahj{o r:Nat}(h:low v=.sh o r):v=.sh o r:=by
 cases v with
 |ty t x=>cases t<;>simp[low,ek]at h
 |sh a b=>simpa[low]using h|_=>simp[low]at h
def HL(F:fE S){τ:O Ty}(hi:∀u,τ=Z u->zw S i u)(a:kH i τ s x ix=Z (c,v,s'))(C:c=W) :
  s'=s/\∃p,kI i (aF s) (low x) (low ix)=Z (p,low v,aF s')/\p:=by
 unfold kH at a;split at a;rename_i sz R bt zz e n g I
 let ⟨p,h,E⟩:=gN I
 let ⟨⟨z,b,_⟩,_⟩:=hi _ rfl
 split at a;rename_i o r;split at a;rename_i t l m;obtain⟨w,d⟩|⟨_,d⟩:=ah a
 clear a;have:=j4 w;subst this;obtain⟨rfl,rfl,rfl⟩:=d;have f:=w9 C;have y:Nq (S.width t) (S.width t)=W:=beq_iff'.2 rfl;refine⟨rfl,p/\mj n (eT (l.map (enc S t))),?_,E,by rw[ql];exact f⟩;unfold kI;rw[b,h];simp only[low,QE m,y,iq];rfl;cases d;cases a;rename_i A;split at a;rename_i l m;obtain⟨rfl,rfl,rfl⟩:=a
 let ⟨q,B,K⟩:=AT m
 have f:=w9 C;have P:(aC n)<l.length:=by unfold aC;omega
 have j:=S5 (enc S e) l (aC n) (S.zero e) P;refine⟨rfl,p/\q/\mj n (eT (l.map (enc S e)))/\(jy (l.map (enc S e)) (EX n)).wide (S.width e),?_,E,K,by rw[ql];exact f,?_⟩;unfold kI;rw[b,h];simp only;split;rename_i o r k;exact absurd (ahj k) (A o r);rw[B];simp only[low];rw[show jy (List.map (enc S e) l) (EX n)=_ from j];show(jy (l.map (enc S e)) (aC n)).cells.length=_;rw[j,lq F];cases a;rename_i g;unfold xK at a;split at a;obtain⟨w,h3⟩|⟨_,h3⟩:=ah a
 obtain⟨rfl,rfl,rfl⟩:=h3;refine⟨rfl,True,?_,trivial⟩;unfold kI;rw[g];simp only[low,BY,w,iq];cases h3;cases a;cases a
theorem rM{i:TI}{s s':bx S}{k:Nat}{x v:V S}{c:aa}(a:rN i s k x=Z (c,v,s')):s'=s/\∃p,rO i (aF s) k (low x)=Z (p,low v,aF s')/\p:=by
 unfold rN at a;unfold rO;split at a
 .rename_i b;try rw[b]
  try simp only
  split at a
  .rename_i d;try rw[d]
   obtain⟨_,h⟩|⟨e,h⟩:=ah a
   cases h
   .simp only[e,jP];split at h;all_goals first
     |(cases h;done)
     |(
       simp only[gV,fH]at h;obtain⟨rfl,rfl,rfl⟩:=h;exact⟨rfl,True,rfl,trivial⟩)
  cases a
 cases a
def S2(e:fE S){k:Nat}(a:Dd i s k x=Z (c,v,s')):s'=s/\∃p,HX i (aF s) k (low x)=Z (p,low v,aF s')/\p:=by
 unfold Dd at a;unfold HX;split at a
 .rename_i b;try rw[b]
  try simp only
  split at a;rename_i off size o f q g
  let ⟨p,j,l⟩:=rV e g
  obtain⟨r,h⟩|⟨_,h⟩:=ah a
  simp only[gi,fH]at h;obtain⟨t,m,_,rfl,rfl⟩:=h;have d:=qG m;rw[mN,mO]at d;have n:(Nq (cM (((bI f).drop off).take size)) size&&!(Nq size 0))=W:=by
   grind[bZ,eU]
  exact⟨rfl,p,by simp_all,l⟩;cases h;cases a
 cases a
theorem Wd{b:L UInt8}{n:Int}(h:aM n b=W):acj (cY b) n=mX b n:=by
 have a:=w9 h;have c:n.toNat<b.length:=by omega
 unfold acj mX;have h1:(cY b).get! n.toNat=b.getD n.toNat 0:=by
  grind[cY,ByteArray.get!]
 rw[h1]
def SF(a:CU i s x ix=Z (c,v,s'))(d:c=W):s'=s/\∃p,HK i (aF s) (low x) (low ix)=Z (p,low v,aF s')/\p:=by
 unfold CU at a;split at a;rename_i n b e f g
 let ⟨p,h,j⟩:=gN f
 let ⟨q,k,l⟩:=lX g
 obtain⟨rfl,rfl,rfl⟩:=a;refine⟨rfl,p/\q/\mj n (vU (cY b)),?_,j,l,by exact w9 d⟩
 grind[HK,low,ek,enc,Wd]
 cases a
def VX(d:D):low (zeroV (S:=S) d)=ru d:=by
 unfold zeroV;split;rfl;rfl;rfl;rfl;unfold ru;split
 simp_all
 simp_all
 grind
 rfl
def nP:∀(l:L D),bI (l.map (zeroV (S:=S)))=l.map ru
 |[]=>rfl|d::l=>by simp[o7,bI,VX,nP l]
def Tp(a:i.kd=.iface->False)(s:St)(t u:TypeId)(v:T) :
  sJ i s t W (.dn u v)=(bif Nq u t then Z (True,.gX [v,.kb W],s)else(wS i.agg (i.zero.map ru)).map λz=>(True,.gX [z,.kb J],s)):=by
 unfold sJ;cases b:i.kd<;>first|rfl|grind
def Tq(a:i.kd=.iface->False)(s:St)(t u:TypeId)(v:T) :
  sJ i s t J (.dn u v)=(bif Nq u t then Z (True,v,s)else Y):=by
 unfold sJ;cases b:i.kd<;>first|rfl|grind
theorem xJ{i:TI}{s s':bx S}{t:TypeId}{ok:aa}{x v:V S}{c:aa}(a:FO i s t ok x=Z (c,v,s')):s'=s/\∃p,sJ i (aF s) t ok (low x)=Z (p,low v,aF s')/\p:=by
 unfold FO at a;split at a;cases a;rename_i u w _ b;rw[low,Tp b];obtain⟨d,a⟩|⟨d,a⟩:=ah a
 obtain⟨rfl,rfl,rfl⟩:=a;exact⟨rfl,True,by rw[d];rfl,trivial⟩;simp only[gi,fH]at a;obtain⟨z,f,_,rfl,rfl⟩:=a;have e:=qG f;rw[nP]at e;exact⟨rfl,True,by rw[d,jP,e];rfl,trivial⟩;rename_i _ b;rw[low,Tq b];obtain⟨d,a⟩|⟨_,a⟩:=ah a
 obtain⟨rfl,rfl,rfl⟩:=a;exact⟨rfl,True,by rw[d];rfl,trivial⟩;cases a;cases a
def acQ{op:UnOp}(a:unV i op x=Z v):∃p d,unT i op (low x)=Z (p,d)/\p/\low v=.sym d:=by
 unfold unV at a;split at a;rename_i c;simp only[gi]at a;obtain⟨b,f,rfl⟩:=a
 let ⟨p,e,g⟩:=mS f
 exact⟨p,_,by simp only[unT,c,e,jQ];rfl,g,rfl⟩;rename_i c;simp at a;obtain⟨b,f,rfl⟩:=a
 let ⟨p,e,g⟩:=gN f
 exact⟨p,_,by simp only[unT,c,e,jQ];rfl,g,rfl⟩;cases a
theorem Dr{i j:TI}{s s':bx S}{x v:V S}{c:aa}(a:Vo i j s x=Z (c,v,s')):s'=s/\∃p,KY i j (aF s) (low x)=Z (p,low v,aF s')/\p:=by
 unfold Vo at a;split at a;rename_i h1 h2;simp only[gi,fH]at a;obtain⟨n,d,_,rfl,rfl⟩:=a
 let ⟨p,b,e⟩:=gN d
 exact⟨rfl,p,by simp only[KY,h1,h2,b,jQ];rfl,e⟩;simp only[gi,fH]at a;obtain⟨n,d,_,rfl,rfl⟩:=a
 let ⟨p,b,e⟩:=lX d
 exact⟨rfl,p,by grind[KY],e⟩;cases a
theorem vo{s s':bx S}{k:Nat}{x v:V S}{c:aa}(a:Bz s k x=Z (c,v,s')):s'=s/\∃p,uk (aF s) k (low x)=Z (p,low v,aF s')/\p:=by unfold Bz at a;split at a;simp only[gi,fH]at a;obtain⟨t,b,_,rfl,rfl⟩:=a;exact⟨rfl,True,by simp_all[low,uk,kD,ff],trivial⟩;cases a
def CC(a b:L UInt8):VR (cY a) (cY b)=gZ a b:=by show(a.toArray==b.toArray)=(a==b);simp
theorem ED{k:Lk}{a b:V S}{r:aa}(h:FK k a b=Z r):∃p,rP k (low a) (low b)=Z (p,r)/\p:=by
 unfold FK at h;split at h;split at h;rename_i h1 h2;simp at h;subst h
 let ⟨p,c,d⟩:=gN h1
 let ⟨q,e,f⟩:=gN h2
 exact⟨p/\q,by simp[rP,c,e],d,f⟩;cases h;split at h;rename_i h1 h2;simp at h;subst h
 let ⟨p,c,d⟩:=mS h1
 let ⟨q,e,f⟩:=mS h2
 exact⟨p/\q,by simp[rP,c,e],d,f⟩;cases h;split at h;rename_i h1 h2;simp at h;subst h
 let ⟨p,c,d⟩:=lX h1
 let ⟨q,e,f⟩:=lX h2
 exact⟨p/\q,by simp[rP,c,e,CC],d,f⟩;cases h;cases h
theorem zk:∀{c:L Lk}{as bs:L (V S)}{r:aa},lg c as bs=Z r->∃p,kL c (bI as) (bI bs)=Z (p,r)/\p
 |[],[],[],r,h=>by simp only[lg,gV]at h;subst h;exact⟨True,rfl,trivial⟩
 |k::c,a::as,b::bs,r,h=>by
  simp[lg]at h;split at h;rename_i h1 h2;simp at h;subst h
  let ⟨p,d,e⟩:=ED h1
  let ⟨q,f,g⟩:=zk h2
  exact⟨p/\q,by simp[bI,kL,d,f],e,g⟩;cases h
 |[],[],_::_,_,h=>by simp[lg]at h
 |[],_::_,_,_,h=>by simp[lg]at h
 |_::_,[],_,_,h=>by simp[lg]at h
 |_::_,_::_,[],_,h=>by simp[lg]at h
def Qa(e:fE S){r:aa}(h:ais i a b=Z r):∃p,aaQ i (low a) (low b)=Z (p,r)/\p:=by
 unfold aaQ;obtain⟨d,h⟩|⟨d,h⟩:=ah h
 grind[rV,zk]
 .rw[d];split at h
  grind[ED]
  .rename_i c;try rw[c]
   unfold aaR at h;split at h;simp only[gV]at h;subst h;exact⟨True,rfl,trivial⟩;simp only[gV]at h;subst h;exact⟨True,rfl,trivial⟩;cases h
  .rename_i c;try rw[c]
   unfold aaS at h;split at h;simp only[gV]at h;subst h;exact⟨True,rfl,trivial⟩;simp only[gV]at h;subst h;exact⟨True,rfl,trivial⟩;cases h
  cases h
def aba{op:BinOp}{k:IntKind}{m n:Int}:(aeQ (S:=S) op k m n).map low=(XB op k m n).map .sym:=by unfold aeQ XB;cases op<;>rfl
theorem aa1{op:BinOp}{k:IntKind}{m n:Int}:(aeM (S:=S) op k m n).map low=(aa2 op k m n).map .sym:=by unfold aeM aa2;cases op<;>rfl
def Xq{a b:L UInt8}(h:aeD a b=W):NJ (cY a) (cY b):=by
 grind[aeD,NJ,cY,ByteArray.size]
def abk(z:fE S)(h:Iz i op a b=Z (c,v))(B:c=W):∃p d,M9 i op (low a) (low b)=Z (p,d)/\p/\low v=.sym d:=by
 have f:=h;unfold Iz at h;split at h;simp only[gi,fH]at h;obtain⟨r,u,_,rfl⟩:=h
 let ⟨p,e,o⟩:=Qa z u
 exact⟨p,_,by simp only[M9,e,jQ];rfl,o,rfl⟩;simp only[gi,fH]at h;obtain⟨r,u,_,rfl⟩:=h
 let ⟨p,e,o⟩:=Qa z u
 exact⟨p,_,by simp only[M9,e,jQ];rfl,o,rfl⟩
 .rename_i g j;cases l:i.kd with
  |leaf C=>
   cases C with
   |int k=>
    have t:Iz i op a b=(match ia k a,ia k b with
     |some m,Z n=>match aeQ op k m n with
      |some d=>Z (W,d)|none=>(aeM op k m n).map λd=>(nzI n,d)
     |_,_=>Y):=by
     clear h;unfold Iz;cases op<;>first|exact(g rfl).elim|exact(j rfl).elim|(simp only[l];done)|(simp only[l];cases ia k a<;>cases ia k b<;>rfl)
    have I:∀{p q:Prop}{m n:Int},yU k (low a)=Z (p,m)->yU k (low b)=Z (q,n)->M9 i op (low a) (low b)=(match XB op k m n with
     |some d=>Z (p/\q,d)|none=>(aa2 op k m n).map λd=>(p/\q/\ajg n,d)):=by
     intro p q m n w x;clear h t;unfold M9;cases op<;>first|exact(g rfl).elim|exact(j rfl).elim|(simp only[l,w,x];rfl)
    rw[t]at f;split at f;rename_i m n h1 h2
    let ⟨p,w,o⟩:=gN h1
    let ⟨q,x,A⟩:=gN h2
    have s:=aba (S:=S) (op:=op) (k:=k) (m:=m) (n:=n);split at f
    grind
    rename_i E;rw[E]at s;simp only[gi,fH]at f;obtain⟨d,F,rfl,rfl⟩:=f
    grind[aa1,Option.map_eq_some_iff,ajg,nzI]
    cases f
   |str=>
    have y:op=.add:=by clear h;unfold Iz at f;cases op<;>first|rfl|exact(g rfl).elim|exact(j rfl).elim|(simp only[l]at f;cases f)
    clear h;subst y;have t:Iz i .add a b=(match wL a,wL b with
     |some m,Z n=>Z (aeD m n,.ty .str (dx m n))|_,_=>Y):=by
     unfold Iz;simp[l];cases wL a<;>cases wL b<;>rfl
    rw[t]at f;split at f;rename_i m n h1 h2
    let ⟨p,w,o⟩:=lX h1
    let ⟨q,x,A⟩:=lX h2
    obtain⟨rfl,rfl⟩:=f;refine⟨p/\q/\NJ (cY m) (cY n),.lit (.string (TY (cY m) (cY n))),?_,⟨o,A,Xq B⟩,by rfl⟩
    simp_all[M9]
    cases f
   |bool=>
    clear h;unfold Iz at f;cases op<;>first|exact(g rfl).elim|exact(j rfl).elim|(simp only[l]at f;cases f)
   |no=>
    clear h;unfold Iz at f;cases op<;>first|exact(g rfl).elim|exact(j rfl).elim|(simp only[l]at f;cases f)
  |_=>
   clear h;unfold Iz at f;cases op<;>first|exact(g rfl).elim|exact(j rfl).elim|(simp only[l]at f;cases f)
def OZ(A:fE S){E:gC}(hE:TB S E){fr:cr S}{o:Op}(h:cP E fr s o=Z (c,v,s'))(F:c=W) :
  ∃p,o5 E.E (bM fr) (aF s) o=Z (p,low v,aF s')/\p:=by
 cases o with
 |move x=>simp only[cP,gi,fH]at h;obtain⟨t,ht,_,rfl,rfl⟩:=h;exact⟨True,by simp[o5,cH ht,jQ],trivial⟩
 |assign x=>simp only[cP,gi,fH]at h;obtain⟨t,ht,_,rfl,rfl⟩:=h;exact⟨True,by simp[o5,cH ht,jQ],trivial⟩
 |pick x y z=>
  simp[cP]at h;split at h;rename_i a b d h1 h2 h3;simp only[gi,fH]at h;obtain⟨⟨q,t⟩,ht,rfl,rfl,rfl⟩:=h
  let ⟨p,e,l⟩:=Wz ht F
  exact⟨p,by simp[o5,cH h1,cH h2,cH h3,e,jQ],l⟩;cases h
 |alloc t=>
  simp[cP]at h;split at h;rename_i i g;obtain⟨w,h⟩|⟨_,h⟩:=ah h
  obtain⟨_,rfl,rfl⟩:=h;refine⟨True,?_,trivial⟩;have I:Nt (aF s).aH bO=W:=w;simp only[o5,g,I,iq,hU,dj,nP];rfl;cases h;cases h
 |box t x=>
  simp[cP]at h;split at h;rename_i i v' g hv;obtain⟨w,h⟩|⟨_,h⟩:=ah h
  simp only[gi,fH]at h;obtain⟨cs,K,_,rfl,rfl⟩:=h
  let ⟨p,e,l⟩:=rV A K
  have I:Nt (aF s).aH bO=W:=w;refine⟨p,?_,l⟩;simp only[o5,g,cH hv,I,iq,e,jQ,hU,dj];rfl;cases h;cases h
 |build t ps=>
  simp[cP]at h;split at h;rename_i i ps' g P;split at h;rename_i B;simp only[gi,fH]at h;obtain⟨cs,K,_,rfl,rfl⟩:=h
  let ⟨p,e,l⟩:=Dc A K
  rw[nP]at e;refine⟨p,?_,l⟩;simp only[o5,g,uU P,B,low];exact eC (Option.map λq:Prop×L T=>(q.1,T.agg q.2,aF s)) e;cases h;cases h
 |buildSlice t n ps=>
  simp only[cP]at h;split at h;rename_i i e ps' g MJ P;split at h;rename_i zz B;obtain⟨w,h⟩|⟨_,h⟩:=ah h
  split at h;rename_i os hel;simp only[gi,fH]at h;obtain⟨s1,AE,_,rfl,rfl⟩:=h
  let ⟨⟨z,C,R⟩,_,_,hpos⟩:=hE.row _ _ _ g MJ
  rw[B]at C;obtain⟨rfl,rfl,rfl,rfl⟩:=Kd.slice.inj C;have hf:=dG A os AE;have hzl:cM zz=S.width e:=by cases e with|st m=>simp[lf,iq,enc,D.agg.injEq]at R;rw[R];simp[Sg.width,bZ];rw[show S.cells m (S.zero (.st m))=_ from A.cells m _,nq]|_=>simp only[lf,jP]at R;rw[R];rfl
  have aav:((lf e||Nq (S.width e) 1)&&(Nq (cM zz) (S.width e)&&(!(Nq (S.width e) 0)&&Nl (Nat.mul n (S.width e)) 16777216)))=W:=by rw[hzl];simp only[eX,Ox];refine⟨?_,beq_iff'.2 rfl,?_,w⟩;cases e<;>rfl;cases hq:Nq (S.width e) 0 with|false=>rfl|true=>have:=beq_iff'.1 hq;omega
  have ahM:List.replicate n (bif lf e then D.agg zz else zz.getD 0 default)=(List.replicate n (S.zero e)).map (enc S e):=by
   rw[List.map_replicate]
   congr 1
   cases e with|st m=>exact R|_=>simp only[lf,cond_false]at R ⊢;rw[R];rfl
  let ⟨p,e1,l⟩:=Ih A (i:={(default:TI)with size:=S.width e,agg:=lf e}) ⟨rfl,λ_=>rfl⟩ hel
  refine⟨p,?_,l⟩;simp only[o5,g,uU P,B,aav,iq,ahM,e1,hf,jQ,low];iterate 4 cases h
 |load t x=>simp[cP]at h;split at h;rename_i i a g r;obtain⟨rfl,p,e,l⟩:=Kv A (λu hu=>hE.row _ _ _ g hu) h F;exact⟨p,by simp[o5,g,cH r,e],l⟩;cases h
 |store t x y=>
  simp[cP]at h;split at h;rename_i i a b g r w
  let ⟨p,e,l⟩:=RB A h F
  exact⟨p,by simp[o5,g,cH r,cH w,e],l⟩;cases h
 |nilCheck x=>
  simp[cP]at h;split at h;all_goals first
   |(cases h;done)
   |(
     rename_i hx;simp only[gV,fH]at h;obtain⟨_,rfl,rfl⟩:=h;have:=cH hx;simp only[low]at this;exact⟨True,by simp only[o5,this,low],trivial⟩)
 |binOp op t x y u=>
  simp[cP]at h;split at h;rename_i i a b g r w;simp only[gi,fH]at h;obtain⟨⟨q,d⟩,hd,rfl,rfl,rfl⟩:=h
  let ⟨p,d',e,l,hl⟩:=abk A hd F
  exact⟨p,by simp[o5,g,cH r,cH w,e,jQ,hl],l⟩;cases h
 |unOp op t x=>
  simp[cP]at h;split at h;rename_i i a g r;simp only[gi,fH]at h;obtain⟨d,hd,_,rfl,rfl⟩:=h
  let ⟨p,d',e,l,hl⟩:=acQ hd
  exact⟨p,by simp[o5,g,cH r,e,jQ,hl],l⟩;cases h
 |convert t u x=>simp[cP]at h;split at h;rename_i i j a g hj r;obtain⟨rfl,p,e,l⟩:=Dr h;exact⟨p,by simp[o5,g,hj,cH r,e],l⟩;cases h
 |makeInterface t x=>simp[cP]at h;split at h;rename_i i a g r;split at h;cases h;obtain⟨_,rfl,rfl⟩:=h;refine⟨True,?_,trivial⟩;simp[o5,g,cH r,low];cases h
 |makeFunc f a b=>simp[cP]at h;split at h;rename_i x y hx hy;obtain⟨_,rfl,rfl⟩:=h;exact⟨True,by simp[o5,hJ hx,hJ hy,low],trivial⟩;cases h
 |extract x k=>simp[cP]at h;split at h;rename_i a r;obtain⟨rfl,p,e,l⟩:=vo h;exact⟨p,by simp[o5,cH r,e],l⟩;cases h
 |fieldAddr t x k=>simp[cP]at h;split at h;rename_i i a g r;obtain⟨rfl,p,e,l⟩:=rM h;exact⟨p,by simp[o5,g,cH r,e],l⟩;cases h
 |field t x k=>simp[cP]at h;split at h;rename_i i a g r;obtain⟨rfl,p,e,l⟩:=S2 A h;exact⟨p,by simp[o5,g,cH r,e],l⟩;cases h
 |indexAddr t x y=>simp[cP]at h;split at h;rename_i i a b g r w;obtain⟨rfl,p,e,l⟩:=HL A (λu hu=>hE.row _ _ _ g hu) h F;exact⟨p,by simp[o5,g,cH r,cH w,e],l⟩;cases h
 |index t x y=>simp[cP]at h;split at h;rename_i i a b g r w;obtain⟨rfl,p,e,l⟩:=SF h F;exact⟨p,by simp[o5,g,cH r,cH w,e],l⟩;cases h
 |slice t x lo g mx=>
  simp[cP]at h;split at h;rename_i i a l1 l2 l3 hi' r h1 h2 h3
  let ⟨p,e,l⟩:=RF A (λu hu=>hE.row _ _ _ hi' hu) h F
  exact⟨p,by simp[o5,hi',cH r,GZ h1,GZ h2,GZ h3,e],l⟩;cases h
 |typeAssert x t u ok=>simp[cP]at h;split at h;rename_i g r;obtain⟨rfl,p,e,l⟩:=xJ h;exact⟨p,by simp[o5,g,cH r,e],l⟩;cases h
 |_=>simp[cP]at h
end
section
variable {e:Ty}{v:V S}{s s':bx S}{c:aa}
def FN(a:fE S)(l:L (den S.A e)):wj (l.map (enc S e)) (An S e):=by intro d b;obtain⟨x,_,rfl⟩:=wP.1 b;exact⟨Dg a x,Qb a x⟩
def vL{α:Type}(f:α->D)(l m:L α):iK (l.map f) (m.map f)=(dx l m).map f:=by simp[iK,dx]
def FJ{α:Type}(f:α->D){l m:L α}(h:dI l m=W):D.Vg (l.map f) (m.map f):=by simpa[dI,D.Vg]using h
def adH{n:Nat}{es:L D}(h:low v=.kR n es):∃t l,v=.kR n t l:=by
 cases v with
 |ty t x=>cases t<;>simp[low,ek]at h
 |kR a t l=>obtain⟨rfl,_⟩:=h;exact⟨t,l,rfl⟩
 |_=>simp[low]at h
def QG(l:fE S){i:TI}(hi:zw S i (.sl e)){x y:V S}(h:VB i e s x y=Z (c,v,s'))(C:c=W) :
  ∃p,vK i (aF s) (low x) (low y)=Z (p,low v,aF s')/\p:=by
 obtain⟨_,a⟩|⟨E,a⟩:=ah h
 cases a;clear h;have m:(!(Nt (aF s).aH bO))=J:=E;unfold vK;rw[m,jP]
 let ⟨⟨z,n,hz⟩,_⟩:=hi
 split at a;rename_i new g u;rw[n]at g;obtain⟨rfl,rfl,rfl,rfl⟩:=Kd.slice.inj g
 let ⟨q,F,A⟩:=AT u
 rw[n,F];have w:=tQ l new;have I:=FN l new;split at a;obtain⟨_,rfl,rfl⟩:=a;refine⟨q/\jO (new.map (enc S e)) (S.width e)/\wj (new.map (enc S e)) (An S e),?_,A,w,I⟩;simp only[low,hU,dj];rfl;rename_i t f;split at a;rename_i es2 b;obtain⟨rfl,K⟩:=fU b;cases K;have j:=tQ l (dx f new);have d:=FN l (dx f new);rw[<-vL]at j d;split at a;rename_i k t2 l2;obtain⟨rfl,rfl,rfl⟩:=a;refine⟨q/\jO (iK (f.map (enc S t)) (new.map (enc S t))) (S.width t)/\wj (iK (f.map (enc S t)) (new.map (enc S t))) (An S t)/\D.Vg (f.map (enc S t)) (new.map (enc S t)),?_,A,j,d,FJ _ C⟩;simp only[low,hU,dj,<-vL];rfl;obtain⟨rfl,rfl,rfl⟩:=a;refine⟨q/\jO (iK (f.map (enc S t)) (new.map (enc S t))) (S.width t)/\wj (iK (f.map (enc S t)) (new.map (enc S t))) (An S t)/\D.Vg (f.map (enc S t)) (new.map (enc S t)),?_,A,j,d,FJ _ C⟩;simp[low];split;rename_i hl;obtain⟨t3,l3,rfl⟩:=adH hl
 grind
 simp[ek,enc,<-vL];cases a;rename_i o r;split at a;rename_i t f era ho;split at a;rename_i b;obtain⟨rfl,K⟩:=fU b;cases K;obtain⟨B,P⟩|⟨_,P⟩:=ah a
 clear a;simp only[eX]at B;obtain⟨rfl,rfl,rfl⟩:=P;have d:=FN l (dx f new);rw[<-vL]at d;refine⟨q/\jO (new.map (enc S t)) (S.width t)/\wj (iK (f.map (enc S t)) (new.map (enc S t))) (An S t)/\D.Vg (f.map (enc S t)) (new.map (enc S t)),?_,A,w,d,FJ _ C⟩;have R:(Nl (aF s).fl o&&Nq r era&&Nq (S.width t) (S.width t)&&!(tX (low y)).contains o)=W:=by rw[GY];simp only[eX];exact⟨⟨⟨B.1,B.2.1⟩,beq_iff'.2 rfl⟩,B.2.2⟩
 simp only[low,aN,ho,jQ,dj,R,iq,eJ,<-vL];cases P;iterate 4 cases a
def zo(w:fE S){E:gC}(r:TB S E){b:Builtin}{n:Array TypeId}{args:L (V S)}(h:iE E s b n args=Z (c,v,s'))(y:c=W) :
  ∃p,fV E.E (aF s) b n (bI args)=Z (p,low v,aF s')/\p:=by
 unfold iE at h;split at h;rename_i x;split at h;rename_i i j d
 let ⟨k,l,m⟩:=wz.1 j
 let ⟨A,a,f⟩:=wz.1 d
 rw[l]at a;cases a
 let ⟨g,_⟩:=r.row _ _ _ m f
 split at h;rename_i _ B
 let ⟨p,e,o⟩:=lX B
 obtain⟨_,rfl,rfl⟩:=h;exact⟨p,by simp only[bI,fV,e,j,g,Gk];rfl,o⟩;cases h;rename_i i e j d
 let ⟨k,l,m⟩:=wz.1 j
 let ⟨A,a,f⟩:=wz.1 d
 rw[l]at a;cases a
 let ⟨⟨z,g,_⟩,_⟩:=r.row _ _ _ m f
 split at h
 .simp only[gi,fH]at h;obtain⟨F,t,_,rfl,rfl⟩:=h
  let ⟨p,u,o⟩:=AT t
  refine⟨p,?_,o⟩;simp[bI,fV];cases C:AR (low x)with|none=>simp only[j,g,u,jQ,ql];rfl|some q=>simp only[j,g,u,jQ,ql];rfl
 cases h;cases h;split at h;split at h;rename_i j I d;split at h
 let ⟨p,u,o⟩:=QG w (r.row _ _ _ j d) h y
 grind[bI,fV]
 iterate 4 cases h
end
section
variable {g g':Gh}{w w':az}
structure nD(g g':Gh):Prop where
 bX:∀o b,g.bX o=Z b->g'.bX o=Z b
 arr:∀o e x,g.arr o e=Z x->g'.arr o e=Z x
 bF:∀b,g.bF b->g'.bF b
theorem nD.refl(g:Gh):nD g g:=⟨λ_ _ h=>h,λ_ _ _ h=>h,λ_ h=>h⟩
def nD.trans{g g' a:Gh}(h:nD g g')(k:nD g' a):nD g a:=⟨λo b e=>k.bX o b (h.bX o b e),λo e x c=>k.arr o e x (h.arr o e x c),λb e=>k.bF b (h.bF b e)⟩
variable {v:aD}{s s':St}{o b e:Nat}{x:fy}{os:List Nat}
def dP.le{I a:Nat->Prop}(c:∀b,I b->a b){d:D}(h:dP I w d v):dP a w d v:=h.mono (λ_ _=>rfl) c
def aL.le(h:nD g g'){t:T}{v:aD}(F:aL g w t v):aL g' w t v:=by
 induction F with|sym d v p=>exact .sym d v (p.le h.bF)|kb b=>exact .kb b|kn k n=>exact .kn k n|ptr o off b q=>exact .ptr o off b (h.bX o b q)|mD d off z val A I p=>exact .mD d off z val (h.bF _ A) I (λj c B=>(p j c B).le h.bF)|mC o e i off len cap sz z s=>exact .mC o e i off len cap sz z (h.arr _ _ _ s)|sh o e len cap sz a s=>exact .sh o e len cap sz a (h.arr _ _ _ s)|emp a=>exact .emp a|kR n K a P p=>exact .kR n K a P (p.le h.bF)|fn f R u S vc y hm _ _ l C=>exact .fn f R u S vc y hm l C|dn t x v _ l=>exact .dn t x v l|agg u E y _ l=>exact .agg u E y l|gX u E y _ l=>exact .gX u E y l|gd c t v _ l=>exact .gd c t v l|mp o b q=>exact .mp o b (h.bX o b q)|r9 o b q=>exact .r9 o b (h.bX o b q)|uH o b q=>exact .uH o b (h.bX o b q)|ub e b h=>exact .ub e b h|sV o m r i len cap sz a s=>exact .sV o m r i len cap sz a (h.arr _ _ _ s)|qx j d c a B p=>exact .qx j d c a B (p.le h.bF)
def xX.le{s s':St}{o b:Nat}(h:xX g s w o b)(c:nD g g')(hi:g'.bF=g.bF)(hs:s'.ob.get o=s.ob.get o):xX g' s' w o b:=by
 refine⟨by rw[hi];exact h.1,h.2.1,λob a=>?_⟩;rw[hs]at a
 let ⟨x,h1,h2⟩:=h.2.2 ob a
 exact⟨x,h1,h2.imp (λ_ _ h=>h.le c)⟩
def Co.le(h:Co g s w o e x)(hi:g'.bF=g.bF)(hs:s'.ob.get o=s.ob.get o)(b:∀k j y,g.arr k j=Z y->g'.arr k j=Z y)(d:∀c,g'.arr o c=g.arr o c):Co g' s' w o e x:=by refine⟨h.1,λob a=>?_⟩;rw[hs]at a;exact(h.2 ob a).tr (λh=>h.kJ hi) b (funext d) (λ_ _ _=>⟨rfl,by rw[hi]⟩)
def bg.abv(hs:bg g s w)(hn:s.aH<bO){sz:Nat}{es:L D}
  (v:∀b,x.at b->b<w.heap.size/\∀o,¬bL g o b) (n:yc g w J sz es x) (p:x.sz=sz) :
  bg (g.era s.aH 0 x) (ew s (.arr sz es 0)).2 w/\nD g (g.era s.aH 0 x)/\(∀k b,bL (g.era s.aH 0 x) k b->bL g k b\/(k=s.aH/\x.at b)):=by
 have q:=hs.aj s.aH (eP _);have e:∀k j y,g.arr k j=Z y->(g.era s.aH 0 x).arr k j=Z y:=λk j y h=>by
  rw[Gh.cW];exact h
  grind
 have i:nD g (g.era s.aH 0 x):=⟨λ_ _ h=>h,e,λ_ h=>h⟩;have a:∀k b,bL (g.era s.aH 0 x) k b->bL g k b\/(k=s.aH/\x.at b):=by
  rintro k b ⟨h1,h2|⟨j,y,m,h2,h3,h4,h5⟩⟩
  exact .inl ⟨h1,.inl h2⟩;by_cases c:k=s.aH/\j=0;obtain⟨rfl,rfl⟩:=c;rw[Gh.fS]at h2;simp at h2;subst h2;exact .inr ⟨rfl,⟨m,h3,h4,h5⟩⟩;rw[Gh.cW _ _ _ _ _ _ c]at h2;exact .inl ⟨h1,.inr ⟨j,y,m,h2,h3,h4,h5⟩⟩
 refine⟨⟨by simp only[ew];omega,λk z=>?_,λk b r=>?_,λk j y l=>?_,λb r=>hs.bF b r,λk u b h A=>?_⟩,i,a⟩;simp only[ew]at z;refine⟨(hs.aj k (by omega)).1,λj=>?_⟩;rw[Gh.cW _ _ _ _ _ _ (by omega)];exact(hs.aj k (by omega)).2 j;have t:g.bX k=Z b:=r;have d:k≠s.aH:=λh=>by simp_all
 exact(hs.box k b t).le i rfl (by simp[ew];rw[Tr.aX _ _ _ _ hn,bS d]);by_cases c:k=s.aH/\j=0;obtain⟨rfl,rfl⟩:=c;rw[Gh.fS]at l;simp at l;subst l;refine⟨λm B C=>(v _ ⟨m,B,rfl,C⟩).1,λob f=>.inl ⟨J,es,0,?_,eP _,λE h=>?_,λ_=>p▸(n.kJ rfl)⟩⟩;simp[ew]at f;rw[Tr.aX _ _ _ _ hn,bH rfl]at f
 grind[gz]
 grind[Gh.cW]
 rw[Gh.cW _ _ _ _ _ _ c]at l;have d:k≠s.aH:=λh=>by simp_all
 exact(hs.arr k j y l).le rfl (by simp[ew];rw[Tr.aX _ _ _ _ hn,bS d]) e (λE=>Gh.cW _ _ _ _ _ _ (λh=>d h.1));obtain h1|⟨h1,h3⟩:=a k b h<;>obtain h2|⟨h2,h4⟩:=a u b A
 exact hs.kj k u b h1 h2
 simp_all
 simp_all
 rw[h1,h2]
def bg.ue(hs:bg g s w)(m:g.bX o=Z b){ob:Ob}{x:Obj}(t:w.heap[b]?=Z x)(u:g8 g w ob x)(l:∀e,g.arr o e=Y):bg g {s with ob:=s.ob.set aP o ob} w:=by
 have n:=hs.lt m;have p:=hs.aH;have eu:∀k,(Tr.set aP s.ob o ob).get k=if k=o then Z ob else s.ob.get k:=λk=>Tr.aX _ _ _ _ (by omega)
 refine⟨hs.aH,hs.aj,λk c q=>?_,λk e x r=>?_,hs.bF,hs.kj⟩;have d:=hs.box k c q;refine⟨d.1,d.2.1,λf a=>?_⟩;rw[eu]at a;by_cases i:k=o
 simp_all
 rw[bS i]at a;exact d.2.2 f a;have j:=hs.arr k e x r;have i:k≠o:=λh=>by simp_all
 refine⟨j.1,λf a=>?_⟩;rw[eu,bS i]at a;exact j.2 f a
theorem bg.step{s:St}(hs:bg g s w){I X:Nat->Prop}(B:∀b,g.bF b->I b)(hIn:∀b,I b->g.bF b\/w.heap.size<=b\/X b)(hIs:∀b,I b->b<w'.heap.size)(u:w.heap.size<=w'.heap.size)
  (R:∀b,b<w.heap.size->¬X b->w'.heap[b]?=w.heap[b]?) (hX:∀o b,X b->bL g o b->s.ob.get o=Y/\¬I b) (hXi:∀b,X b->¬g.bF b) :
  bg {g with bF:=I} s w':=by
 have F:∀k b,bL ({g with bF:=I}:Gh) k b->bL g k b:=λk b h=>⟨λhi=>h.1 (B b hi),h.2⟩;have S:kg g.bF w w':=λb p=>R b (hs.bF b p) (λy=>hXi b y p);have hkeep:∀{t:T}{v:aD},aL g w t v->aL ({g with bF:=I}:Gh) w' t v:=by
  intro t v ht
  induction ht with|sym d v z=>exact .sym d v (z.mono S B)|kb b=>exact .kb b|kn k n=>exact .kn k n|ptr o off b p=>exact .ptr o off b p|mD d off ad val l q z=>exact .mD d off ad val (B _ l) (λj c K=>by rw[S.cell (by rw[lC];exact l)];grind) (λj c K=>(z j c K).mono S B)|mC o e i off len cap sz ad y=>exact .mC o e i off len cap sz ad y|sh o e len cap sz a y=>exact .sh o e len cap sz a y|emp a=>exact .emp a|kR n es a hn z=>exact .kR n es a hn (z.mono S B)|fn f fs cs va vc hl hm _ _ C ih'=>exact .fn f fs cs va vc hl hm C ih'|dn t x v _ C=>exact .dn t x v C|agg cs vs hl _ C=>exact .agg cs vs hl C|gX cs vs hl _ C=>exact .gX cs vs hl C|gd c t v _ C=>exact .gd c t v C|mp o b p=>exact .mp o b p|r9 o b p=>exact .r9 o b p|uH o b p=>exact .uH o b p|ub e b h=>exact .ub e b h|sV o m r i len cap sz a y=>exact .sV o m r i len cap sz a y|qx j d c a K z=>exact .qx j d c a K (z.mono S B)
 have P:∀o b,bL g o b->¬I b:=λo b hO hi=>by
  obtain h|h|h:=hIn b hi
  exact hO.1 h;have:=(hs.sq hO).1;omega
  grind
 refine⟨hs.aH,hs.aj,λk c q=>?_,λk e x y=>?_,hIs,λk k' b h h'=>hs.kj k k' b (F k b h) (F k' b h')⟩;have A:=hs.box k c q;have hO:bL g k c:=⟨A.1,.inl q⟩;refine⟨P k c hO,iW A.2.1 u,λob lV=>?_⟩
 let ⟨x,h2,h3⟩:=A.2.2 ob lV
 exact⟨x,by grind,h3.imp (λ_ _ h=>hkeep h)⟩
 .have E:=hs.arr k e x y;refine⟨λad ha q=>iW (E.1 ad ha q) u,λob lV=>?_⟩;refine(E.2 ob lV).tr (λ{fz sz es}hA=>?_) (λ_ _ _ h=>h) rfl (λb k1 q=>?_);rotate_left;have p:b<w.heap.size:=E.1 _ k1 q;by_cases l:g.bF b
  grind
  have hO:bL g k b:=⟨l,.inr ⟨e,x,_,y,k1,rfl,q⟩⟩
  grind
  refine⟨hA.len,hA.cap,hA.rows,hA.pos,hA.Yb,λq=>?_⟩
  let ⟨b,vs,ty,k1,k2,k3,k4,k5⟩:=hA.mem q
  have p:b<w.heap.size:=E.1 _ k1 q;by_cases l:g.bF b;refine⟨b,vs,ty,k1,⟨λ_=>B b l,λ_=>k2.2 l⟩,by grind,k4,λi d j c z K=>?_⟩
  let ⟨v,hv,hr⟩:=k5 i d j c z K
  exact⟨v,hv,hr.mono S B⟩;have hO:bL g k b:=⟨l,.inr ⟨e,x,_,y,k1,rfl,q⟩⟩;have hnx:¬X b:=λhxx=>by grind
  refine⟨b,vs,ty,k1,⟨λhf=>absurd (k2.1 hf) l,λhi=>absurd hi (P k b hO)⟩,by simp_all,k4,λi d j c z K=>?_⟩
  let ⟨v,hv,hr⟩:=k5 i d j c z K
  exact⟨v,hv,hr.mono S B⟩
def Gh.drop(g:Gh)(os:L Nat):Gh:={g with arr:=λo e=>if o∈os then Y else g.arr o e}
def Gh.Ij(h:(g.drop os).arr o e=Z x):o∉os/\g.arr o e=Z x:=by
 grind[Gh.drop]
def Gh.Af{k:Nat}(h:bL (g.drop os) k b):bL g k b:=by obtain⟨h1,h2|⟨e,x,a,h2,h3⟩⟩:=h;exact⟨h1,.inl h2⟩;exact⟨h1,.inr ⟨e,x,a,(Gh.Ij h2).2,h3⟩⟩
mutual
def dF(os:L Nat):T->aa
 |.ptr o _=>os.contains o|.mC o _ _ _=>os.contains o|.sh o _=>os.contains o|.mp o=>os.contains o|.r9 o=>os.contains o|.uH o=>os.contains o|.fn _ a b=>iR os a||iR os b|.dn _ v=>dF os v|.agg c=>iR os c|.gX c=>iR os c|.gd _ v=>dF os v|.sV o m _ _=>os.contains o||os.contains m|_=>J
def iR(os:L Nat):L T->aa
 |[]=>J|v::l=>dF os v||iR os l
end
def rB{os:L Nat}:∀{l:L T},iR os l=J->∀t∈l,dF os t=J
 |[],_,t,b=>by cases b
 |a::l,h,t,b=>by
  simp[iR,zS]at h;obtain rfl|b:=gn.1 b
  exact h.1;exact rB h.2 t b
theorem aL.drop{os:L Nat}{t:T}{v:aD}(h:aL g w t v)(l:dF os t=J):aL (g.drop os) w t v:=by
 induction h with|sym d v q=>exact .sym d v q|kb b=>exact .kb b|kn k n=>exact .kn k n|ptr o off b h=>exact .ptr o off b h|mD d off y val E z q=>exact .mD d off y val E z q|mC o e i off len cap sz y h=>simp[dF,GJ,YI]at l;exact .mC o e i off len cap sz y (by simp[Gh.drop,bS l];exact h)|sh o e len cap sz a h=>simp[dF,GJ,YI]at l;exact .sh o e len cap sz a (by simp[Gh.drop,bS l];exact h)|emp a=>exact .emp a|kR k F a I q=>exact .kR k F a I q|fn f K s P R u A _ _ p B=>simp[dF,zS]at l;exact .fn f K s P R u A (λj t v h1 h2=>p j t v h1 h2 (rB l.1 t (iG h1))) (λj t v h1 h2=>B j t v h1 h2 (rB l.2 t (iG h1)))|dn t x v _ p=>exact .dn t x v (p l)|agg s C u _ p=>exact .agg s C u (λj t v h1 h2=>p j t v h1 h2 (rB l t (iG h1)))|gX s C u _ p=>exact .gX s C u (λj t v h1 h2=>p j t v h1 h2 (rB l t (iG h1)))|gd c t v _ p=>exact .gd c t v (λz=>p z l)|mp o b h=>exact .mp o b h|r9 o b h=>exact .r9 o b h|uH o b h=>exact .uH o b h|ub e b h=>exact .ub e b h|sV o m r i len cap sz a h=>simp[dF,zS,GJ,YI]at l;exact .sV o m r i len cap sz a (by simp_all[Gh.drop])|qx j d c a S q=>exact .qx j d c a S q
def abO(os:L Nat)(ob a:Ob):Prop:=sL (dF os) ob a
theorem bg.drop{s i:St}(hs:bg g s w){os:L Nat}(hn:i.aH=s.aH)(d:∀o a,i.ob.get o=Z a->∃ob,s.ob.get o=Z ob/\abO os ob a):bg (g.drop os) i w:=by
 refine⟨hn▸hs.aH,λo f=>⟨(hs.aj o (hn▸f)).1,λe=>?_⟩,λo b q=>?_,λo e x r=>?_,hs.bF,λo u b h z=>hs.kj o u b (Gh.Af h) (Gh.Af z)⟩;simp only[Gh.drop];split;rfl;exact(hs.aj o (hn▸f)).2 e
 let ⟨h1,h2,h3⟩:=hs.box o b q
 refine⟨h1,h2,λa c=>?_⟩
 let ⟨ob,k,l⟩:=d o a c
 let ⟨x,h4,h5⟩:=h3 ob k
 exact⟨x,h4,h5.left (λt v A p=>A.drop p) l⟩
 let ⟨f,n⟩:=Gh.Ij r
 let ⟨h1,h2⟩:=hs.arr o e x n
 refine⟨h1,λa c=>?_⟩
 let ⟨ob,k,l⟩:=d o a c
 refine(h2 ob k).left l (λh=>h.kJ rfl) (λm j y p h=>?_) (funext λB=>by simp[Gh.drop,bS f]) (λ_ _ _=>⟨rfl,wu⟩)
 simp_all[dF,Gh.drop]
end
section
def ghI(I:Nat->Prop):Gh:=⟨λ_=>Y,λ_ _=>Y,I⟩
def acB(I:Nat->Prop)(w:az)(sz:Nat)(es:L D)(x:fy):Prop:=yc (ghI I) w J sz es x/\x.sz=sz
def ajc(S:Sg)(I:Nat->Prop)(w:az)(n j:Nat)(t:Ty)(l:L (S.A n))(a:fy)(rl:L fy):Prop:=
 ∃hl:L aD,hl.length=l.length/\acB I w (S.width (.st n)) (lits j (l.map (enc S (.st n))) hl) a/\rl.length=l.length/\
  (∀(i:Nat)(y:fy),rl[i]?=Z y->hl[i]?=Z (.slice y.a y.len y.cap))/\(∀(i:Nat)(y:fy)(x:S.A n),rl[i]?=Z y->l[i]?=Z x->acB I w (S.width t) ((Jz n j t x).map (enc S t)) y)/\E7 S n j t=W
inductive j3(S:Sg)(I:Nat->Prop)(w:az):(cs:List Ck)->gJ S.A cs->List aD->List fy->Prop where
 |nil:j3 S I w [] () [] []|dat {t:Ty} {cs:List Ck} {x:den S.A t} {h:gJ S.A cs} {v:aD} {vs:List aD} {al:List fy} (hd:dP I w (enc S t x) v) (hr:j3 S I w cs h vs al):j3 S I w (.dat t::cs) (x,h) (v::vs) al|own {e:Ty} {cs:List Ck} {l:List (den S.A e)} {h:gJ S.A cs} {a:fy} {vs:List aD} {al:List fy} (ho:acB I w (S.width e) (l.map (enc S e)) a) (hr:j3 S I w cs h vs al) :
   j3 S I w (.own e::cs) (l,h) (.slice a.a a.len a.cap::vs) (a::al)
 |kE {n j:Nat} {t:Ty} {cs:List Ck} {l:List (S.A n)} {h:gJ S.A cs} {a:fy} {rl:List fy} {vs:List aD} {al:List fy} (ho:ajc S I w n j t l a rl) (hr:j3 S I w cs h vs al) :
   j3 S I w (.kE n j t::cs) (l,h) (.slice a.a a.len a.cap::vs) (a::(rl++al))
 |nl {e:Ty} {cs:List Ck} {h:gJ S.A cs} {a:Option Addr} {vs:List aD} {al:List fy} (hr:j3 S I w cs h vs al):j3 S I w (.nil e::cs) ([],h) (.slice a 0 0::vs) al|ptr {t:Ty} {cs:List Ck} {x:den S.A t} {h:gJ S.A cs} {ad:Addr} {val:Nat->aD} {vs:List aD} {al:List fy} (hi:I ad.block) (hc:∀j c,(enc S t x).cells[j]?=Z c->w.cell? (ad.add j)=Z (val j))
   (hd:∀j c,(enc S t x).cells[j]?=Z c->dP I w c (val j)) (hr:j3 S I w cs h vs al):j3 S I w (.ptr t::cs) (x,h) (.pointer (Z (ad.add 0))::vs) al
inductive AL(g:Gh):List fy->List Nat->Prop where
 |nil:AL g [] []|emp {a:fy} {al:List fy} {ow:List Nat} (h:a.cap=0) (hr:AL g al ow):AL g (a::al) ow|own {a:fy} {al:List fy} {o e:Nat} {ow:List Nat} (h:g.arr o e=Z a) (hr:AL g al ow):AL g (a::al) (o::ow)
 |rows {rl al:List fy} {m:Nat} {ow:List Nat} (h:∀y∈rl,∃e,g.arr m e=Z y) (hap:rl.Pairwise λx y=>∀b,x.at b->¬y.at b) (hr:AL g al ow):AL g (rl++al) (m::ow)
variable {g:Gh}{al v9:List fy}{ow fz:List Nat}{s:bx S}{w:az}{I:Nat->Prop}{a:fy}{b n j o:Nat}{t:Ty}{cs:List Ck}{vs:List aD}{c:Ck}{v:aD}{ob:vO S}{k:Bk}{nx:Option Nat}
def AL.append{a:L Nat}(h:AL g al ow)(d:AL g v9 a):AL g (al++v9) (ow++a):=by
 induction h with|nil=>exact d|emp h _ b=>exact .emp h b|own h _ b=>exact .own h b|rows h c _ b=>rw[wv];exact .rows h c b
def yb(al:L fy):Prop:=al.Pairwise λx y=>∀b,x.at b->¬y.at b
def AL.owned(h:AL g al ow)(hi:∀a∈al,∀b,a.at b->¬g.bF b):∀a∈al,∀b,a.at b->∃o∈ow,bL g o b:=by
 induction h with
 |nil=>simp_all|emp h _ i=>
  intro a c b d;obtain rfl|c:=gn.1 c
  exact absurd h d.choose_spec.2.2
  grind
 |own h _ i=>
  intro a c b d;obtain rfl|c:=gn.1 c
  let ⟨f,h1,h2,h3⟩:=d
  exact⟨_,eN,hi _ eN b ⟨f,h1,h2,h3⟩,.inr ⟨_,_,f,h,h1,h2,h3⟩⟩
  grind
 |rows h _ _ i=>
  intro a c b d;obtain c|c:=fc.1 c
  let ⟨e,j⟩:=h a c
  let ⟨f,h1,h2,h3⟩:=d
  exact⟨_,eN,hi _ (gf _ c) b ⟨f,h1,h2,h3⟩,.inr ⟨_,_,f,j,h1,h2,h3⟩⟩
  grind
def AL.apart{s:St}(hs:bg g s w)(h:AL g al ow)(hn:ow.Nodup)(hi:∀a∈al,∀b,a.at b->¬g.bF b):yb al:=by
 induction h with
 |nil=>exact .nil|emp h k i=>refine .cons (λa c b j=>absurd h j.choose_spec.2.2) (i hn (λa c=>hi a (ie _ c)))|own h k i=>
  rw[Ov]at hn;refine .cons (λa c b j f=>?_) (i hn.2 (λa c=>hi a (ie _ c)))
  let ⟨p,l,d⟩:=k.owned (λa c=>hi a (ie _ c)) a c b f
  let ⟨m,h1,h2,h3⟩:=j
  have n:bL g _ b:=⟨d.1,.inr ⟨_,_,m,h,h1,h2,h3⟩⟩;have:=hs.kj _ _ b n d
  simp_all
 |rows h o k i=>
  rw[Ov]at hn;refine uQ.2 ⟨o,i hn.2 (λa c=>hi a (e9 _ c)),λy q a c b j f=>?_⟩
  let ⟨e,r⟩:=h y q
  let ⟨p,l,d⟩:=k.owned (λa c=>hi a (e9 _ c)) a c b f
  let ⟨m,h1,h2,h3⟩:=j
  have n:bL g _ b:=⟨d.1,.inr ⟨_,_,m,r,h1,h2,h3⟩⟩;have:=hs.kj _ _ b n d
  simp_all
def mz:∀{l:L Nat},sU l=W->l.Nodup
 |[],_=>.nil|a::l,h=>by simp[sU,eX,Ox,GJ,YI]at h;exact Ov.2 ⟨h.1,mz h.2⟩
def Ap{l m:L Nat}(h:DA l m=W):∀o∈l,o∉m:=by
 grind[DA]
def acB.at_{I:Nat->Prop}{w:az}{sz:Nat}{es:L D}{a:fy}(h:acB I w sz es a){b:Nat}(c:a.at b):¬I b/\b<w.heap.size:=by
 let ⟨h1,vs,ty,_,h3⟩:=h.1.at_ c
 exact⟨λd=>Bool.noConfusion (h1.2 d),(YM.1 h3).1⟩
def ajc.at_{I:Nat->Prop}{w:az}{n j:Nat}{t:Ty}{l:L (S.A n)}{a:fy}{rl:L fy}(h:ajc S I w n j t l a rl):∀y∈a::rl,∀b,y.at b->¬I b/\b<w.heap.size:=by
 let ⟨f,_,h2,h3,_,h5,_⟩:=h
 intro y c b d;obtain rfl|c:=gn.1 c
 exact h2.at_ d
 let ⟨i,e⟩:=ON c
 have:i<l.length:=by grind
 exact(h5 i y _ e (iZ this)).at_ d
def j3.at_{I:Nat->Prop}{w:az}{cs:L Ck}{x:gJ S.A cs}{vs:L aD}{al:L fy}(h:j3 S I w cs x vs al):∀a∈al,∀b,a.at b->¬I b/\b<w.heap.size:=by
 induction h with
 |nil=>simp_all|dat _ _ d=>exact d|own e _ d=>
  intro a c b f;obtain rfl|c:=gn.1 c
  exact e.at_ f
  grind
 |kE e _ d=>
  intro a c b f;rw[<-List.cons_append]at c;obtain c|c:=fc.1 c
  exact e.at_ a c b f
  grind
 |nl _ d=>exact d|ptr _ _ _ _ d=>exact d
theorem j3.iQ{I:Nat->Prop}{w:az}{cs:L Ck}{x:gJ S.A cs}{vs:L aD}{al:L fy}(h:j3 S I w cs x vs al):∀a∈al,∀b,a.at b->¬I b:=λa c b d=>(h.at_ a c b d).1
def j3.lt{x:gJ S.A cs}(h:j3 S I w cs x vs al):∀a∈al,∀b,a.at b->b<w.heap.size:=λa c b d=>(h.at_ a c b d).2
def j3.append{x:den S.A c.ty}{h:gJ S.A cs}(h1:j3 S I w [c] (x,()) [v] al)(h2:j3 S I w cs h vs v9) :
  j3 S I w (c::cs) (x,h) (v::vs) (al++v9):=by
 cases h1 with
 |dat b a=>cases a;exact .dat b h2
 |own d a=>cases a;exact .own d h2
 |kE d a=>cases a;rw[iP,List.cons_append];exact .kE d h2
 |nl a=>cases a;exact .nl h2
 |ptr e f b a=>cases a;exact .ptr e f b h2
def qS{x:den S.A t}(h:dP g.bF w (enc S t x) v):aL g w (ek S t x) v:=by
 cases t with
 |st n=>
  cases h with|agg cs vs a e b=>refine .agg _ vs (by simpa using a) λj t v h1 h2=>?_;rw[lK,gi]at h1;obtain⟨d,c,rfl⟩:=h1;exact .sym _ _ (b j d v c h2)
 |_=>exact .sym _ _ h
def Tr.dK{α:Type}:∀(n:Nat)(t:Tr α)(k j:Nat)(x:α),j≠k->(Tr.set n t k x).get j=t.get j
 |0,_,_,_,_,_=>rfl|n+1,t,0,j,x,h=>by
  cases j with
  |zero=>exact absurd rfl h|succ j=>
   cases t with|nil=>rw[Tr.AV,Tr.dL,Tr.get_nil,Tr.get_nil];split<;>rfl|node v l r=>rw[Tr.Jq,Tr.dL,Tr.dL]
 |n+1,t,k+1,j,x,h=>by
  cases t with
  |nil=>
   rw[Tr.p8];cases j with|zero=>split<;>rw[Tr.jk,Tr.get_nil]|succ j=>by_cases b:k%2=0;rw[bH b,Tr.dL,Tr.get_nil,Tr.get_nil];by_cases a:j%2=0;rw[bH a,Tr.dK n _ _ _ _ (by omega),Tr.get_nil];rw[bS a];rw[bS b,Tr.dL,Tr.get_nil,Tr.get_nil];by_cases a:j%2=0;rw[bH a];rw[bS a,Tr.dK n _ _ _ _ (by omega),Tr.get_nil]
  |node v l r=>
   rw[Tr.ot];cases j with|zero=>split<;>rw[Tr.jk,Tr.jk]|succ j=>by_cases b:k%2=0;rw[bH b,Tr.dL,Tr.dL];by_cases a:j%2=0;rw[bH a,bH a,Tr.dK n _ _ _ _ (by omega)];rw[bS a,bS a];rw[bS b,Tr.dL,Tr.dL];by_cases a:j%2=0;rw[bH a,bH a];rw[bS a,bS a,Tr.dK n _ _ _ _ (by omega)]
def Ts:vO S->aa
 |.arr ..|.l8 ..|.rws ..=>W|_=>J
def vI(h:Ts ob=W):(dj ob).oM=W:=by cases ob<;>first|rfl|cases h
def Hw{nj:Nat}:∀{es:L D}{iY:L (L D)}{hl:L aD},es.length<=iY.length->lits nj (nk nj es iY) hl=lits nj es hl
 |[],iY,hl,_=>by rfl
 |d::es,[],hl,h=>by simp at h
 |d::es,a::iY,[],_=>by rfl
 |d::es,a::iY,v::hl,h=>by
  have:=Hw (nj:=nj) (es:=es) (iY:=iY) (hl:=hl) (by simpa using h)
  simp_all[lits,nk,jJ,Bx,D.cells]
def KF:∀{ts:L Ty}{h:mA S.A ts}{j:Nat}{t:Ty}{y:den S.A t},nth ts j=Z t->eu ts (yW ts h j t y) j t=y
 |[],_,_,_,_,h=>by simp[nth]at h
 | τ::ts,h,0,t,y,e=>by
  grind[nth,eu,yW,xy]
 | τ::ts,h,j+1,t,y,e=>by simp[nth]at e;simp[eu,yW,KF e]
def Xl(a:fE S)(b:E7 S n j t=W)(x:S.A n)(y:L (den S.A t)):Jz n j t (Wc n j t x y)=y:=by rw[Jz,Wc,a.sY,KF (Iq b)]
def Ek(hS:fE S)(hs:bg g (aF s) w){v:V S}{val:aD}{x:den S.A c.ty}(h:pU s c v=Z (x,fz,ow))(hv:aL g w (low v) val) :
  (∀o∈fz,Live g (aF s) o)/\(∀o∈ow,s.fl<=o/\s.lo<=o/\o<s.aH/\∃ob,s.ob.get o=Z ob/\Ts ob=W)/\∀(A:Gh)(s1:St)(z:L Nat),bg A s1 w->Ext s.fl g w A w->jM (aF s) s1 z->(∀o∈fz,o∈z)->(∀o∈ow,s1.ob.get o=(aF s).ob.get o)->
   ∃al,j3 S A.bF w [c] (x,()) [val] al/\AL A al ow:=by
 cases c with
 |dat t=>
  simp[pU]at h;split at h;rename_i y os hy;obtain⟨rfl,rfl,rfl⟩:=h
  let ⟨p,hd,hp⟩:=qT hS s t v hy
  let ⟨h1,h2⟩:=mH hs (low v) hd hp hv
  refine⟨h1,λo d=>(by cases d),λA s1 z f R hf q _=>⟨[],.dat ?_ .nil,.nil⟩⟩;exact h2 A s1 f R (hf.sub q);cases h
 |nil e=>
  cases v with
  |emp=>
   obtain⟨rfl,rfl,rfl⟩:=h;cases hv with|emp a=>exact⟨λo d=>(by cases d),λo d=>(by cases d),λA s1 z f R hf q _=>⟨[],.nl .nil,.nil⟩⟩
  |_=>simp[pU]at h
 |ptr t=>simp[pU]at h|own e=>
  cases v with
  |emp=>
   obtain⟨C,h⟩|⟨_,h⟩:=ah h
   .obtain ⟨rfl,rfl,rfl⟩:=h;have hpos:1<=S.width e:=gY C;cases hv with
    |emp a=>
    refine⟨λo d=>(by cases d),λo d=>(by cases d),λA s1 z f R hf q _=>⟨[⟨a,0,0,S.width e⟩],?_,.emp rfl .nil⟩⟩;refine j3.own (a:=⟨a,0,0,S.width e⟩) ⟨⟨rfl,eP _,by simp,by omega,by simp,λh=>absurd rfl h⟩,rfl⟩ .nil
   cases h
  |sh o r=>
   simp[pU]at h;split at h;rename_i t l era d;obtain⟨C,E⟩|⟨_,E⟩:=ah h
   clear h;split at E
   .rename_i l' hl;obtain⟨rfl,hh⟩:=fU hl;cases hh;simp only[eX]at C;have hre:=beq_iff'.1 C.1;subst hre;obtain⟨rfl,rfl,rfl⟩:=E;cases hv with
    |sh _ _ len cap sz a hx=>
    have F:=hs.lt' hx;refine⟨λo d=>(by cases d),λk hk=>?_,λA s1 z f R hf q u=>?_⟩;rw[tR]at hk;subst hk;exact⟨gY C.2.1,gY C.2.2,F,_,d,rfl⟩;have I:=R.arr _ _ _ hx;have U8:s1.ob.get o=Z (gz J (S.width t) (l.map (enc S t)) r):=by rw[u o (by simp),aN,d];rfl
    let ⟨hok,hsz⟩:=f.oc U8 I
    exact⟨[_],j3.own ⟨hok.kJ rfl,hsz⟩ .nil,.own I .nil⟩
   cases E;cases E;cases h
  |_=>simp[pU]at h
 |kE n j t=>
  cases v with
  |emp=>
   obtain⟨C,h⟩|⟨_,h⟩:=ah h
   .obtain ⟨rfl,rfl,rfl⟩:=h;simp only[eX]at C;have hpos:1<=S.width (.st n):=gY C.1;cases hv with
    |emp a=>
    refine⟨λo d=>(by cases d),λo d=>(by cases d),λA s1 z f R hf q _=>⟨[⟨a,0,0,S.width (.st n)⟩],?_,.emp rfl .nil⟩⟩;exact j3.kE (a:=⟨a,0,0,S.width (.st n)⟩) (rl:=[]) ⟨[],rfl,⟨⟨rfl,eP _,by simp[lits],by omega,by simp[lits],λh=>absurd rfl h⟩,rfl⟩,rfl,by simp,by simp,C.2.1⟩ .nil
   cases h
  |sh o r=>
   simp[pU]at h;split at h;rotate_left;cases h;rename_i l era m B d;split at h;rotate_left;cases h;rename_i P K hrw;obtain⟨C,E⟩|⟨_,E⟩:=ah h
   rotate_left;cases E;clear h;simp only[eX]at C
   let ⟨b1,b2,b3,b4,b5,b6,b7,b8,b9⟩:=C
   have hre:=beq_iff'.1 b1;subst hre;have hjj:=beq_iff'.1 b2;subst hjj;have htt:=j4 b9;subst htt;split at E;rotate_left;cases E;rename_i hl
   let ⟨e1,hh⟩:=fU hl
   cases e1;cases hh;simp only[gV,fH]at E;obtain⟨rfl,rfl,rfl⟩:=E;have hmlt:m<s.aH:=gY b7;cases hv with
   |sh _ _ len cap sz a hx=>
   have F:=hs.lt' hx
   let ⟨szm,hm⟩:=qF (AX hrw)
   obtain⟨obm,hobm,hobmB⟩:∃ob,s.ob.get m=Z ob/\Ts ob=W:=by
    cases hq:s.ob.get m with
    |none=>rw[aN,hq]at hm;cases hm
    |some ob=>
     rw[aN,hq]at hm;cases ob<;>first|exact⟨_,rfl,rfl⟩|cases hm
   refine⟨λo d=>(by cases d),λk hk=>?_,λA s1 z f R hf q u=>?_⟩;simp at hk;obtain rfl|rfl:=hk
   exact⟨gY b3,gY b4,F,_,d,rfl⟩
   simp_all
   have I:=R.arr _ _ _ hx;have U8:s1.ob.get o=Z (.l8 j (S.width (.st n)) (l.map (enc S (.st n))) r m B Y):=by rw[u o (by simp),aN,d];rfl
   have hm1:s1.ob.get m=Z (.rws szm (K.map (·.map (enc S P))) B):=by rw[u m (by simp),hm]
   have alL:szm=S.width P:=by
    have h1:=hrw;unfold Oi at h1;split at h1;rename_i hq;obtain⟨_,h1⟩|⟨_,h1⟩:=ah h1
    cases h1;rw[aN,hq]at hm;cases hm;rfl;cases h1;cases h1
   let ⟨q1,q2,q3,q4⟩:=f.CO U8 I
   let ⟨hl0,q5,q6,q7⟩:=q4 rfl
   simp at q5;have hrow:∀i,i<l.length->∃y rs,A.arr m (rc B i)=Z y/\hl0[i]?=Z (.slice y.a y.len y.cap)/\K[i]?=Z rs/\yc A w J (S.width P) (rs.map (enc S P)) y/\y.sz=S.width P:=by
    intro i hi
    let ⟨y,hy,hv⟩:=q7.2 i _ (iZ (by omega)) (by simp)
    let ⟨k1,rs,k2,k3⟩:=(f.qX hm1 hy).2.2 i rfl
    grind
   have hex:∀i:Nat,∃y:fy,i<l.length->∃rs,A.arr m (rc B i)=Z y/\hl0[i]?=Z (.slice y.a y.len y.cap)/\K[i]?=Z rs/\yc A w J (S.width P) (rs.map (enc S P)) y/\y.sz=S.width P:=λi=>by
    grind
   let ⟨ys,hys⟩:=Ws hex
   have eu:∀(i:Nat)(y:fy),((List.range l.length).map ys)[i]?=Z y->i<l.length/\y=ys i:=λi y h=>by
    grind
   have hrl:l.length<=K.length:=by
    grind
   have hlen:(pW n j P l K).length=l.length:=by simp[pW];omega
   refine⟨_,j3.kE (a:=⟨a,len,cap,sz⟩) (rl:=(List.range l.length).map ys) ⟨hl0,by omega,⟨?_,q1⟩,by grind,λi y hi=>?_,λi y x hi hx=>?_,b8⟩ .nil,?_⟩;rw[HT hS b8,Hw (by grind)];exact q6.kJ rfl
   grind
   obtain⟨h1,rfl⟩:=eu i y hi
   let ⟨rs,_,_,h3,h4,h5⟩:=hys i h1
   have hxx:x=Wc n j P (l[i]) rs:=by
    grind[pW]
   rw[hxx,Xl hS b8];exact⟨h4.kJ rfl,h5⟩;refine .own I ?_;refine .rows (λy hy=>?_) ?_ .nil
   grind
   refine Sc.2 λi1 i2 l1 l2 hlt b AF qq=>?_
   let ⟨h1,e1⟩:=eu i1 _ (iZ l1)
   let ⟨h2,e2⟩:=eu i2 _ (iZ l2)
   rw[e1]at AF;rw[e2]at qq
   let ⟨_,k1,_⟩:=hys i1 h1
   let ⟨_,k2,_⟩:=hys i2 h2
   exact(f.qX hm1 k1).2.1 i1 i2 _ _ (by omega) k1 k2 b AF qq
  |_=>simp[pU]at h
def gK(u:fE S){g:Gh}{w:az}{s:bx S}(hs:bg g (aF s) w):∀{cs:L Ck}{l:L (V S)}{vals:L aD}{x:gJ S.A cs}{fz ow:L Nat},gG s cs l=Z (x,fz,ow)->PW (aL g w) (bI l) vals->
  (∀o∈fz,Live g (aF s) o)/\(∀o∈ow,s.fl<=o/\s.lo<=o/\o<s.aH/\∃ob,s.ob.get o=Z ob/\Ts ob=W)/\∀(m:Gh)(s1:St)(e:L Nat),bg m s1 w->Ext s.fl g w m w->jM (aF s) s1 e->(∀o∈fz,o∈e)->(∀o∈ow,s1.ob.get o=(aF s).ob.get o)->
   ∃al,j3 S m.bF w cs x vals al/\AL m al ow
 |[],[],vals,x,fz,ow,h,i=>by obtain⟨_,rfl,rfl⟩:=h;have:vals=[]:=EZ (by have:=i.1;simpa[bI]using this.symm);subst this;exact⟨λo d=>(by cases d),λo d=>(by cases d),λ_ _ _ _ _ _ _ _=>⟨[],.nil,.nil⟩⟩
 |c::cs,v::l,vals,x,fz,ow,h,i=>by
  simp[gG]at h;split at h
  .rename_i A B;simp at h;obtain⟨rfl,rfl,rfl⟩:=h
   match vals,i with
   |val::vals,i=>
    have p:aL g w (low v) val:=i.2 0 _ _ rfl rfl;have q:PW (aL g w) (bI l) vals:=⟨by have:=i.1;simpa[bI]using this,λj a b r t=>i.2 (j+1) a b (by simpa[bI]using r) (by simpa using t)⟩
    let ⟨C,E,F⟩:=Ek u hs A p
    let ⟨I,K,P⟩:=gK u hs B q
    refine⟨λo d=>(fc.1 d).elim (C o) (I o),λo d=>(fc.1 d).elim (E o) (K o),λm s1 e n y z k f=>?_⟩
    let ⟨R,r,t⟩:=F m s1 e n y z (λo d=>k o (gf _ d)) (λo d=>f o (gf _ d))
    let ⟨Cb,k3,k4⟩:=P m s1 e n y z (λo d=>k o (e9 _ d)) (λo d=>f o (e9 _ d))
    exact⟨_,r.append k3,t.append k4⟩
   |[],i=>exact absurd i.1 (by simp[bI])
  cases h
 |[],_::_,_,_,_,_,h,_=>by simp[gG]at h
 |_::_,[],_,_,_,_,h,_=>by simp[gG]at h
structure XQ(g:Gh)(s:bx S)(w:az)(al:List fy)(g':Gh)(s':bx S):Prop where
 rel:bg g' (aF s') w
 le:nD g g'
 bF:g'.bF=g.bF
 own:∀k b,bL g' k b->bL g k b\/(s.aH<=k/\∃a∈al,a.at b)
 fl:s'.fl=s.fl
 lo:s'.lo=s.lo
 aH:s.aH<=s'.aH
 wr:s'.wr=s.wr
 dr:s'.dr=s.dr
 ob:∀o,o<s.aH->s'.ob.get o=s.ob.get o
 bX:g'.bX=g.bX
 arr:∀o,o<s.aH->∀e,g'.arr o e=g.arr o e
theorem XQ.refl{g:Gh}{s:bx S}{w:az}(h:bg g (aF s) w):XQ g s w [] g s:=
 ⟨h,nD.refl _,rfl,λ_ _ h=>.inl h,rfl,rfl,eP _,rfl,rfl,λ_ _=>rfl,rfl,λ_ _ _=>rfl⟩
def XQ.trans{g g' c:Gh}{s s' d:bx S}{w:az}{al v9:L fy}(h:XQ g s w al g' s')(k:XQ g' s' w v9 c d):XQ g s w (al++v9) c d where
 rel:=k.rel
 le:=h.le.trans k.le
 bF:=k.bF.trans h.bF
 own o b f:=by
  obtain f|⟨h1,a,h2,h3⟩:=k.own o b f
  obtain f|⟨h1,a,h2,h3⟩:=h.own o b f
  exact .inl f
  grind
  exact .inr ⟨gE h.aH h1,a,e9 _ h2,h3⟩
 fl:=k.fl.trans h.fl
 lo:=k.lo.trans h.lo
 aH:=gE h.aH k.aH
 wr:=k.wr.trans h.wr
 dr:=k.dr.trans h.dr
 ob o i:=(k.ob o (iW i h.aH)).trans (h.ob o i)
 bX:=k.bX.trans h.bX
 arr o i e:=(k.arr o (iW i h.aH) e).trans (h.arr o i e)
def Uf(s:bx S)(c:Ck)(x:den S.A c.ty):s.aH<=(wJ s c x).2.aH:=by cases c with|dat t=>exact eP _|own e=>exact Ed _|kE n j t=>exact Nat.le_succ_of_le (Ed _)|nil e=>exact eP _|ptr t=>exact eP _
def oD:∀(cs:L Ck)(s:bx S)(x:gJ S.A cs),s.aH<=(iF s cs x).2.aH
 |[],_,_=>eP _|c::cs,s,x=>gE (Uf s c x.1) (oD cs _ x.2)
def nQ:∀{cs:L Ck}{x:gJ S.A cs}{vals:L aD}{al:L fy}{g:Gh}{w:az}{s:bx S},j3 S g.bF w cs x vals al->bg g (aF s) w->(∀a∈al,∀b,a.at b->∀o,¬bL g o b)->yb al->
  (iF s cs x).2.aH<=bO->∃g',XQ g s w al g' (iF s cs x).2/\PW (aL g' w) (bI (iF s cs x).1) vals:=by
 intro cs
 induction cs with
 |nil=>intro x vals al g w s h hs _ _ _;cases h;exact⟨g,XQ.refl hs,rfl,λj t v h=>by simp_all⟩
 |cons c cs ih=>
  intro x vals al g w s h hs r f hn;cases h with
  | @dat t _ x h v vs al hd E=>
   let ⟨g',u,d⟩:=ih E hs r f hn
   refine⟨g',u,by simp only[iF,wJ,bI,l5];rw[d.1],λj F I p q=>?_⟩;cases j with|zero=>simp[iF,wJ,bI,OA,gV]at p q;subst p;subst q;have:=qS (g:=g) hd;exact this.le u.le|succ j=>exact d.2 j F I (by simpa[iF,wJ,bI]using p) (by simpa using q)
  | @nl e _ h a vs al E=>
   let ⟨g',u,d⟩:=ih E hs r f hn
   refine⟨g',u,by simp only[iF,wJ,bI,l5];rw[d.1],λj F I p q=>?_⟩;cases j with|zero=>simp[iF,wJ,bI,OA,gV]at p q;subst p;subst q;exact .emp _|succ j=>exact d.2 j F I (by simpa[iF,wJ,bI]using p) (by simpa using q)
  | @ptr t _ x h ad val vs al hi hc hd E=>
   let ⟨g',u,d⟩:=ih E hs r f hn
   refine⟨g',u,by simp only[iF,wJ,bI,l5];rw[d.1],λj F I p q=>?_⟩;cases j with|zero=>simp[iF,wJ,bI,OA,gV]at p q;subst p;subst q;have:aL g w (low (V.mD t x 0)) (.pointer (Z (ad.add 0))):=.mD _ 0 ad val hi hc hd;exact this.le u.le|succ j=>exact d.2 j F I (by simpa[iF,wJ,bI]using p) (by simpa using q)
  | @own e _ l h a vs al ho E=>
   have hb0:=oD cs (dy s (.arr e l 0)) h;have z:s.aH<bO:=by have h1:(dy s (.arr e l 0)).aH=s.aH+1:=rfl;have h2:(iF (dy s (.arr e l 0)) cs h).2.aH<=bO:=hn;omega
   have alO:∀b,a.at b->b<w.heap.size/\∀o,¬bL g o b:=λb B=>⟨(j3.own (S:=S) ho E).lt a eN b B,r a eN b B⟩
   let ⟨p,q,k3⟩:=hs.abv z (sz:=S.width e) (es:=l.map (enc S e)) (x:=a) alO (ho.1.kJ rfl) ho.2
   have hst:(ew (aF s) (Ob.arr (S.width e) (l.map (enc S e)) 0)).2=aF (dy s (.arr e l 0)):=(hU s (.arr e l 0)).symm;have e0:(aF s).aH=s.aH:=rfl;rw[hst,e0]at p;rw[yb,List.pairwise_cons]at f
   let ⟨g',u,d⟩:=ih (g:=g.era s.aH 0 a) (s:=dy s (.arr e l 0)) E p (λy hy b B o K=>by
    grind) f.2 hn
   have Eu:XQ g s w [a] (g.era s.aH 0 a) (dy s (.arr e l 0)):=by
    refine⟨p,q,rfl,λk b K=>?_,rfl,rfl,Ed _,rfl,rfl,λo hlo=>?_,rfl,λo hlo e'=>Gh.cW _ _ _ _ _ _ (λh=>by omega)⟩
    grind
    simp[dy];rw[Tr.aX _ _ _ _ z,bS (by omega)]
   refine⟨g',Eu.trans u,by simp only[iF,wJ,bI,l5];rw[d.1],λj F I q1 q2=>?_⟩;cases j with|zero=>simp[iF,wJ,bI,OA,gV]at q1 q2;subst q1;subst q2;have:aL (g.era s.aH 0 a) w (.sh s.aH 0) (.slice a.a a.len a.cap):=.sh _ _ _ _ a.sz _ (Gh.fS _ _ _ _);exact this.le u.le|succ j=>exact d.2 j F I (by simpa[iF,wJ,bI]using q1) (by simpa using q2)
  | @kE n j t0 _ l h a A vs al ho E=>
   have hb0:=oD cs (wJ s (.kE n j t0) l).2 h;have hnob2:(wJ s (.kE n j t0) l).2.aH=s.aH+2:=rfl;have z:s.aH+1<bO:=by
    grind[iF]
   have P:=ho.at_
   let ⟨hl,p1,p2,p3,p4,p5,p6⟩:=ho
   rw[<-List.cons_append]at r f;have R:=(uQ.1 f).1;rw[List.pairwise_cons]at R
   let ⟨p,q,k3⟩:=hs.abv (by show s.aH<bO;omega) (sz:=S.width (.st n)) (es:=lits j (l.map (enc S (.st n))) hl) (x:=a) (λb B=>⟨(P a eN b B).2,r a (by simp) b B⟩) (p2.1.kJ rfl) p2.2
   have e0:(aF s).aH=s.aH:=rfl;rw[e0]at p q k3;have e1:(ew (aF s) (Ob.arr (S.width (.st n)) (lits j (l.map (enc S (.st n))) hl) 0)).2.aH=s.aH+1:=rfl
   let ⟨r1,r2,r3⟩:=p.aiR (by omega) (sz:=S.width t0) (iY:=(l.map (Jz n j t0)).map (·.map (enc S t0))) (ys:=A)
    (λy hy b B=>⟨(P y (ie _ hy) b B).2,λo K=>by
     grind⟩)
    (λi y hi=>by
     have hil:i<l.length:=by grind
     have hk:=p5 i y _ hi (iZ hil);exact⟨hk.2,_,by simp_all,hk.1.kJ rfl⟩) R.2
   rw[e1]at r1 r2 r3;have C:∀k,(ew (ew (aF s) (Ob.arr (S.width (.st n)) (lits j (l.map (enc S (.st n))) hl) 0)).2 (.rws (S.width t0) ((l.map (Jz n j t0)).map (·.map (enc S t0))) 0)).2.ob.get k=if k=s.aH+1 then Z (.rws (S.width t0) ((l.map (Jz n j t0)).map (·.map (enc S t0))) 0)else if k=s.aH then Z (.arr (S.width (.st n)) (lits j (l.map (enc S (.st n))) hl) 0)else(aF s).ob.get k:=λk=>by show(((aF s).ob.set aP s.aH _).set aP (s.aH+1) _).get k=_;rw[Tr.aX _ _ _ _ z,Tr.aX _ _ _ _ (by omega)]
   have hL:JS ((g.era s.aH 0 a).iy (s.aH+1) A) (s.aH+1) 0 Y hl:=by
    have HM:∀i v,hl[i]?=Z v->∃hil:i<A.length,v=.slice (A[i]).a (A[i]).len (A[i]).cap:=λi v hi=>by
     grind
    refine⟨λi v hi=>let ⟨_,h⟩:=HM i v hi;⟨_,_,_,h⟩,λi v hi _=>?_⟩
    grind[Gh.xO]
   have u1:=r1.Ym (o:=s.aH) (nj:=j) (es:=l.map (enc S (.st n))) (era:=0) (m:=s.aH+1) (ij:=0) (hole:=Y) (hl:=hl) (by omega) (by rw[C,bS (by omega),bH rfl]) (by simpa using p1) hL;have u2:bg ((g.era s.aH 0 a).iy (s.aH+1) A) (aF (wJ s (.kE n j t0) l).2) w:=by refine u1.aaH rfl λk=>?_;show(aF (dy (dy s (.l8 n j l 0 (Ns s.aH) 0 Y)) (.rws t0 (M1 n j t0 l) 0))).ob.get k=((ew _ _).2.ob.set aP s.aH _).get k;rw[hU,hU,Tr.aX _ _ _ _ (by omega),C];show(((aF s).ob.set aP s.aH _).set aP (s.aH+1) _).get k=_;rw[Tr.aX _ _ _ _ z,Tr.aX _ _ _ _ (by omega)];by_cases h1:k=s.aH;subst h1;rw[bS (by omega),bH rfl,bH rfl];rfl;rw[bS h1,bS h1,bS h1];rfl
   have hle:nD g ((g.era s.aH 0 a).iy (s.aH+1) A):=q.trans ⟨λ_ _ h=>h,r2,λ_ h=>h⟩
   let ⟨g',u,d⟩:=ih (g:=(g.era s.aH 0 a).iy (s.aH+1) A) (s:=(wJ s (.kE n j t0) l).2) E u2 (λy hy b B o K=>by
    obtain K|⟨_,y',hy',hb'⟩:=r3 o b K
    obtain K|⟨_,hb'⟩:=k3 o b K
    grind
    exact(uQ.1 f).2.2 a (by simp) y hy b hb' B;exact(uQ.1 f).2.2 y' (by simp[hy']) y hy b hb' B) (uQ.1 f).2.1 hn
   have Eu:XQ g s w (a::A) ((g.era s.aH 0 a).iy (s.aH+1) A) (wJ s (.kE n j t0) l).2:=by
    refine⟨u2,hle,rfl,λk b K=>?_,rfl,rfl,by omega,rfl,rfl,λo hlo=>?_,rfl,λo hlo e'=>?_⟩
    grind
    show((s.ob.set aP s.aH _).set aP (s.aH+1) _).get o=_;rw[Tr.aX _ _ _ _ z,bS (by omega),Tr.aX _ _ _ _ (by omega),bS (by omega)];rw[Gh.jW (by omega)]
    grind[Gh.cW]
   refine⟨g',by exact Eu.trans u,by have:=d.1;simp only[iF,wJ,bI,l5]at this ⊢;rw[this],λj' F I q1 q2=>?_⟩;cases j' with|zero=>simp[iF,wJ,bI,OA,gV]at q1 q2;subst q1;subst q2;have:aL ((g.era s.aH 0 a).iy (s.aH+1) A) w (.sh s.aH 0) (.slice a.a a.len a.cap):=.sh _ _ _ _ a.sz _ (by simp_all[Gh.fS]);exact this.le u.le|succ j'=>exact d.2 j' F I (by simpa[iF,wJ,bI]using q1) (by simpa using q2)
theorem uK{g:Gh}{w:az}{τ:Ty}{x:den S.A τ}{v:aD}(h:dP g.bF w (enc S τ x) v):aL g w (ek S τ x) v:=by
 cases τ with
 |st n=>
  cases h with|agg _ vs a e b=>refine .agg _ _ (by simpa using a) λj t v h1 h2=>?_;simp at h1;obtain⟨c,d,rfl⟩:=h1;exact .sym _ _ (b j c v d h2)
 |_=>exact .sym _ _ h
def Fk(a:fE S){τ:Ty}{x:den S.A τ}(h:aL g w (ek S τ x) v):dP g.bF w (enc S τ x) v:=by
 cases τ with
 |st n=>
  cases h with
  |agg _ vs d e=>
   refine .agg _ _ (by simpa using d) (λc b=>?_) λj c v h1 h2=>?_;rw[a.cells]at b;exact iD _ _ (a.leaf n) c b;have:=e j (.sym c) v (by simp[h1]) h2;cases this with|sym _ _ h=>exact h
 |_=>cases h with|sym _ _ h=>exact h
def O9:aa->Nat->aD
 |true,b=>.map (Z b)|false,b=>.pointer (Z ⟨b,0,Y⟩)
def ZP{m:aa}{x:O (V S)}(h:lkO m x=Z o):x=Z (lkV m o):=by unfold lkO at h;split at h<;>cases h<;>rfl
def adI(h:g.bX o=Z b):∀m,aL g w (low (lkV m o:V S)) (O9 m b)
 |true=>.mp o b h|false=>.ptr o 0 b h
def UY:∀{m},aL g w (low (lkV m o:V S)) v->∃b,g.bX o=Z b/\v=O9 m b
 |true,h=>by cases h with|mp _ b a=>exact⟨b,a,rfl⟩
 |false,h=>by cases h with|ptr _ _ b a=>exact⟨b,a,rfl⟩
inductive Fg(S:Sg)(I:Nat->Prop)(w:az)(nb:Option Nat):(k:Bk)->yT S.A k->Obj->List fy->Prop where
 |cells {cs:List Ck} {x:gJ S.A cs} {cv:Array aD} {ty:TypeId} {al:List fy} (h:j3 S I w cs x cv.toList al):Fg S I w nb (.cells cs) x (.cells cv ty (0,0)) al|map {kt vt:Ty} {l:List (den S.A kt×den S.A vt)} {ms:Array MapEntry} {c:Nat} (hl:l.length=ms.size)
   (h:∀(j:Nat)(p:den S.A kt×den S.A vt)(m:MapEntry),l[j]?=Z p->ms[j]?=Z m->dP I w (enc S kt p.1) m.key/\dP I w (enc S vt p.2) m.val):Fg S I w nb (.map kt vt) l (.map ms c) []
 |r8 {x:List UInt8×Nat}:Fg S I w nb .r8 x (.stringIter (cY x.1) x.2) []|link {m:aa} {pre post:List Ck} {x:gJ S.A pre} {y:gJ S.A post} {cv:Array aD} {ty:TypeId} {al v9:List fy} {vp vq:List aD} {b:Nat} (hn:nb=Z b) (hv:cv.toList=vp++([O9 m b]++vq))
   (h1:j3 S I w pre x vp al) (h2:j3 S I w post y vq v9):Fg S I w nb (.link m pre post) (x,y) (.cells cv ty (0,0)) (al++v9)
def MC:Bk->Nat->aD
 |.cells _,b=>.pointer (Z ⟨b,0,Y⟩)|.map _ _,b=>.map (Z b)|.r8,b=>.pointer (Z ⟨b,0,Y⟩)|.link _ _ _,b=>.pointer (Z ⟨b,0,Y⟩)
def MD{v:V S}(h:E1 k v=Z o):v=WZ k o:=by
 cases k with
 |cells cs=>
  cases v with
  |ptr a off=>cases off with|zero=>simp[E1,gV]at h;subst h;rfl|succ=>simp[E1]at h
  |_=>simp[E1]at h
 |map kt b=>cases v<;>simp[E1]at h;subst h;rfl
 |r8=>cases v<;>simp[E1]at h;subst h;rfl
 |link m pre post=>
  cases v with
  |ptr a off=>cases off with|zero=>simp[E1,gV]at h;subst h;rfl|succ=>simp[E1]at h
  |_=>simp[E1]at h
theorem Pd{g:Gh}{w:az}{k:Bk}{o b:Nat}(h:g.bX o=Z b):aL g w (low (WZ k o:V S)) (MC k b):=by cases k with|cells cs=>exact .ptr o 0 b h|map kt a=>exact .mp o b h|r8=>exact .uH o b h|link m pre post=>exact .ptr o 0 b h
def Hz(h:aL g w (low (WZ k o:V S)) v):∃b,g.bX o=Z b/\v=MC k b:=by
 cases k with
 |cells cs=>cases h with|ptr _ _ b a=>exact⟨b,a,rfl⟩
 |map kt c=>cases h with|mp _ b a=>exact⟨b,a,rfl⟩
 |r8=>cases h with|uH _ b a=>exact⟨b,a,rfl⟩
 |link m pre post=>cases h with|ptr _ _ b a=>exact⟨b,a,rfl⟩
theorem oG{ob:vO S}(h:j5 ob=W):(dj ob).oM=J:=by cases ob<;>first|rfl|(simp[j5]at h)
def A8{e:Nat}{x:fy}(h:j5 ob=W)(a:wm g w o e x (dj ob)):False:=by have:=a.oM;rw[oG h]at this;cases this
def Iu{kt c a b:Ty}{l:L (den S.A kt×den S.A c)}{d:L (den S.A a×den S.A b)}(h:zm kt c a b l=Z d):∃(h1:kt=a)(h2:c=b),d=h1▸h2▸l:=by
 grind[zm]
def so(hS:fE S)(hs:bg g (aF s) w)(hb:g.bX o=Z b){x:yT S.A k}(h:mK s k (s.ob.get o)=Z (x,fz,ow,nx)) :
  (∃ob,s.ob.get o=Z ob/\j5 ob=W)/\∃I,w.heap[b]?=Z I/\
  (∀o∈fz,Live g (aF s) o)/\(∀o∈ow,s.fl<=o/\s.lo<=o/\o<s.aH/\∃ob,s.ob.get o=Z ob/\Ts ob=W)/\∀(u:Gh)(s1:St)(q:L Nat),bg u s1 w->Ext s.fl g w u w->jM (aF s) s1 q->(∀o∈fz,o∈q)->(∀o∈ow,s1.ob.get o=(aF s).ob.get o)->
   ∀nb,(∀o',nx=Z o'->∃b',nb=Z b'/\u.bX o'=Z b')->∃al,Fg S u.bF w nb k x I al/\AL u al ow:=by
 cases f:s.ob.get o with
 |none=>rw[f]at h;cases k<;>simp[mK]at h
 |some ob=>
 rw[f]at h
 let ⟨I,hh,A⟩:=(hs.box o b hb).2.2 (dj ob) (by rw[aN,f];rfl)
 cases k with
 |cells cs=>
  cases ob with
  |box vs=>
   refine⟨⟨_,rfl,rfl⟩,I,hh,?_⟩;cases A with
   |box _ y ty K A=>
   simp[mK]at h;split at h;rotate_left;cases h;rename_i y1 a1 b1 Xb;obtain⟨rfl,rfl,rfl,rfl⟩:=h
   let ⟨p1,p2,p3⟩:=gK hS hs Xb (vals:=y.toList) ⟨by simpa using K,λj t v i r=>A j t v i (by simpa using r)⟩
   refine⟨p1,p2,λu s1 q a b c d e nb _=>?_⟩
   let ⟨al,i,r⟩:=p3 u s1 q a b c d e
   exact⟨al,.cells i,r⟩
  |_=>simp[mK]at h
 |link m pre post=>
  cases ob with
  |box vs=>
   refine⟨⟨_,rfl,rfl⟩,I,hh,?_⟩;cases A with
   |box _ y ty K A=>
   simp only[mK]at h;split at h;rotate_left;cases h;rename_i b2 e1 e2 e3;obtain⟨rfl,rfl,rfl,rfl⟩:=h;rw[bZ]at e1 e2 e3;have P:vs.length=y.toList.length:=by rw[<-eU];simpa using K
   have R:∀j t v,vs[j]?=Z t->y.toList[j]?=Z v->aL g w (low t) v:=λj t v i r=>A j _ v (by rw[ff,lK,i];rfl) (by simpa using r);have hpre:PW (aL g w) (bI (vs.take pre.length)) (y.toList.take pre.length):=by refine⟨by rw[eU];simp[P],λj t v i r=>?_⟩;rw[ff,lK,gi]at i;obtain⟨t',i,rfl⟩:=i;rw[Ke]at i r;split at i;rename_i hj;rw[bH hj]at r;exact R j t' v i r;cases i
   have hpost:PW (aL g w) (bI (vs.drop (Ns pre.length))) (y.toList.drop (Ns pre.length)):=by refine⟨by rw[eU];simp[P],λj t v i r=>?_⟩;rw[ff,lK,gi]at i;obtain⟨t',i,rfl⟩:=i;rw[OM]at i r;exact R _ t' v i r
   have e2:=ZP e2;rw[kD]at e2;have hlt:pre.length<y.toList.length:=by rw[<-P];exact(Wt.1 e2).1
   have E:=R pre.length _ _ e2 (iZ hlt);generalize hvm:y.toList[pre.length]=vm at E;obtain⟨b2,qq,rfl⟩:=UY E;have B:y.toList=y.toList.take pre.length++([O9 m b2]++y.toList.drop (Ns pre.length)):=by have h1:=(YO pre.length y.toList).symm;rw[UF hlt,hvm]at h1;simpa using h1
   let ⟨p1,p2,p3⟩:=gK hS hs e1 hpre
   let ⟨q1,q2,q3⟩:=gK hS hs e3 hpost
   refine⟨λo f=>(fc.1 f).elim (p1 o) (q1 o),λo f=>(fc.1 f).elim (p2 o) (q2 o),λu s1 q C he hf F z nb hnb=>?_⟩
   let ⟨EN,i,r⟩:=p3 u s1 q C he hf (λo f=>F o (gf _ f)) (λo f=>z o (gf _ f))
   let ⟨Cb,k3,k4⟩:=q3 u s1 q C he hf (λo f=>F o (e9 _ f)) (λo f=>z o (e9 _ f))
   let ⟨b',AF,SV⟩:=hnb _ rfl
   have:b'=b2:=ko (SV.symm.trans (he.bX _ _ qq));subst this;exact⟨_,.link AF B i k3,r.append k4⟩
  |_=>simp[mK]at h
 |map kt vt=>
  cases ob with
  |map k v l=>
   simp[mK]at h;split at h
   .rename_i K;obtain⟨rfl,rfl,hh'⟩:=Iu K;cases hh';obtain⟨rfl,rfl,rfl,rfl⟩:=h;refine⟨⟨_,rfl,rfl⟩,I,hh,λo f=>(by cases f),λo f=>(by cases f),λu s1 q C he hf _ _ nb _=>⟨[],?_,.nil⟩⟩;cases A with
    |map _ ms c K A=>
    refine .map (by simpa using K) λj p m h1 h2=>?_;obtain⟨i,r⟩:=A j _ m (by rw[lK,h1];rfl) h2;exact⟨Fk hS (i.ext he hs.bF),Fk hS (r.ext he hs.bF)⟩
   cases h
  |_=>simp[mK]at h
 |r8=>
  cases ob with
  |r8 bs n=>obtain⟨rfl,rfl,rfl,rfl⟩:=h;refine⟨⟨_,rfl,rfl⟩,I,hh,λo f=>(by cases f),λo f=>(by cases f),λu s1 q C he hf _ _ nb _=>⟨[],?_,.nil⟩⟩;cases A;exact .r8 (x:=(bs,n))
  |_=>simp[mK]at h
theorem Fg.iQ{I:Nat->Prop}{w:az}{c:O Nat}{k:Bk}{x:yT S.A k}{h:Obj}{al:L fy}(d:Fg S I w c k x h al):∀a∈al,∀b,a.at b->¬I b:=by cases d with|cells h=>exact h.iQ|map=>simp_all|r8=>simp_all|link _ _ h1 h2=>intro a e;exact(fc.1 e).elim (h1.iQ a) (h2.iQ a)
theorem Fj(k:Bk)(s:bx S)(nx:O Nat)(x:yT S.A k):s.aH<=(lU s nx k x).2.aH:=by cases k with|cells cs=>exact oD cs s x|map kt a=>exact eP _|r8=>exact eP _|link m pre post=>exact gE (oD pre s x.1) (oD post _ x.2)
def qC{x:yT S.A k}{h:Obj}{R:O Nat}(C:Fg S g.bF w R k x h al)(E:∀b',R=Z b'->∃r,nx=Z r/\g.bX r=Z b')(hs:bg g (aF s) w)(u:∀a∈al,∀b,a.at b->∀o,¬bL g o b)(z:yb al)
  (hn:(lU s nx k x).2.aH<=bO):∃g',XQ g s w al g' (lU s nx k x).2/\g8 g' w (dj (lU s nx k x).1) h:=by
 cases C with
 |cells C=>
  let ⟨g',hu,A⟩:=nQ C hs u z hn
  exact⟨g',hu,.box _ _ _ (by simpa using A.1) λj t v n q=>A.2 j t v n (by simpa using q)⟩
 | @map kt vt l ms c hl C=>
  refine⟨g,XQ.refl hs,.map _ _ _ (by simpa using hl) λj t m h1 h2=>?_⟩;simp only[lK,gi]at h1;obtain⟨p,hp,rfl⟩:=h1
  grind[uK]
 |r8=>exact⟨g,XQ.refl hs,.r8 _ _⟩| @link m pre post x y cv ty al v9 vp vq b hb hv h1 h2=>
  obtain⟨r,rfl,F⟩:=E b hb;have e:=uQ.1 z;have I:(iF s pre x).2.aH<=bO:=gE (oD post _ y) hn
  let ⟨g1,d,B⟩:=nQ h1 hs (λa ha=>u a (gf _ ha)) e.1 I
  let ⟨K,i,P⟩:=nQ (s:=(iF s pre x).2) (d.bF▸h2) d.rel (λa ha b hb o hO=>by
    obtain hO|⟨_,a2,ha2,qq⟩:=d.own o b hO
    grind
    grind) e.2.1 hn
  refine⟨K,d.trans i,?_⟩;have hmid:aL K w (low (lkV m r:V S)) (O9 m b):=adI (by rw[i.bX,d.bX];exact F) m;have f:PW (aL K w) (bI ((iF s pre x).1++(Zg m (Z r)++(iF (iF s pre x).2 post y).1))) cv.toList:=by
   rw[hv,kF,kF];exact PW.append ⟨B.1,λj t v n q=>(B.2 j t v n q).le i.le⟩ (PW.append ⟨rfl,λj t v n q=>by
    grind[bI,Zg]⟩ P)
  exact .box _ _ _ (by simpa using f.1) λj t v n q=>f.2 j t v n (by simpa using q)
end
section
def Tr.sy{α:Type}:∀(n:Nat)(t:Tr α)(k j:Nat),k+1<2 ^ n->(Tr.del n t k).get j=if j=k then Y else t.get j
 |0,t,k,j,h=>by simp at h
 |n+1,.nil,k,j,h=>by have:Tr.del (n+1) (.nil:Tr α) k=.nil:=rfl;rw[this,Tr.get_nil];split<;>rfl
 |n+1,.node v l r,0,j,h=>by have:Tr.del (n+1) (.node v l r) 0=.node Y l r:=rfl;cases j with|zero=>rfl|succ j=>rfl
 |n+1,.node v l r,k+1,j,h=>by
  have b:k/2+1<2 ^ n:=by omega
  have c:Tr.del (n+1) (.node v l r) (k+1)=if k%2=0 then .node v (Tr.del n l (k/2)) r else .node v l (Tr.del n r (k/2)):=by
   simp[Tr.del];by_cases h2:k%2=0;have:Nq (Nat.mod k 2) 0=W:=by show Nq (k%2) 0=W;rw[h2];rfl
   simp[this,h2];rfl;have:Nq (Nat.mod k 2) 0=J:=by
    show Nq (k%2) 0=J;have:k%2=1:=by omega
    rw[this];rfl
   simp[this,h2];rfl
  rw[c];cases j with
  |zero=>split<;>simp[Tr.jk]
  |succ j=>
   by_cases d:k%2=0;rw[bH d,Tr.dL,Tr.dL];by_cases a:j%2=0;rw[bH a,bH a,Tr.sy n _ _ _ b]
   grind
   grind
   rw[bS d,Tr.dL,Tr.dL];by_cases a:j%2=0;rw[bH a,bH a,bS (by omega)];rw[bS a,bS a,Tr.sy n _ _ _ b]
   grind
def Tr.oQ{α:Type}:∀(bs:L Nat)(t:Tr α)(j:Nat),(∀b∈bs,b<bO)->(bs.foldl (λt o=>t.del aP o) t).get j=if j∈bs then Y else t.get j
 |[],t,j,_=>by simp
 |b::bs,t,j,h=>by rw[OJ,Tr.oQ bs _ j (λc a=>h c (by simp[a])),Tr.sy _ _ _ _ (by have:=h b (by simp);unfold aP;unfold bO at this;omega)];by_cases h1:j∈bs;simp[h1];by_cases h2:j=b<;>simp[h1,h2]
def Tr.oO{α:Type}(f:α->α):∀(t:Tr α)(k:Nat),(t.mapA f).get k=(t.get k).map f
 |.nil,k=>by rfl
 |.node v l r,0=>by have:(Tr.node v l r).mapA f=.node (match v with|some x=>Z (f x)|none=>Y) (l.mapA f) (r.mapA f):=rfl;rw[this,Tr.jk,Tr.jk];cases v<;>rfl
 |.node v l r,k+1=>by have:(Tr.node v l r).mapA f=.node (match v with|some x=>Z (f x)|none=>Y) (l.mapA f) (r.mapA f):=rfl;rw[this,Tr.dL,Tr.dL,Tr.oO f l,Tr.oO f r];split<;>rfl
theorem Tr.rE{α:Type}(p:α->aa):∀(t:Tr α)(k:Nat)(x:α),t.get k=Z x->p x=W->k∈t.jZ p
 |.nil,k,x,h,_=>by cases h
 |.node v l r,0,x,h,a=>by
  grind[Tr.jk,Tr.jZ]
 |.node v l r,k+1,x,h,a=>by rw[Tr.dL]at h;simp only[Tr.jZ,fc,wP];by_cases b:k%2=0;rw[bH b]at h;exact .inr (.inl ⟨k/2,Tr.rE p l _ x h a,by grind⟩);rw[bS b]at h;exact .inr (.inr ⟨k/2,Tr.rE p r _ x h a,by grind⟩)
theorem Tr.oP{α:Type}(p:α->aa):∀(t:Tr α)(k:Nat),(t.keep p).get k=(t.get k).filter p
 |.nil,k=>by rfl
 |.node v l r,0=>by
  have:(Tr.node v l r).keep p=.node (match v with|some x=>bif p x then Z x else Y|none=>Y) (l.keep p) (r.keep p):=rfl
  grind[Tr.jk]
 |.node v l r,k+1=>by have:(Tr.node v l r).keep p=.node (match v with|some x=>bif p x then Z x else Y|none=>Y) (l.keep p) (r.keep p):=rfl;rw[this,Tr.dL,Tr.dL,Tr.oP p l,Tr.oP p r];split<;>rfl
mutual
theorem kZ(os:L Nat):∀v:V S,dF os (low v)=iX os v
 |.ty t x=>by
  have:∀l:L D,iR os (l.map .sym)=J:=by
   intro l
   induction l with|nil=>rfl|cons d l e=>simp[iR,dF,e]
  cases t<;>simp[low,ek,iX,dF,this]
 |.kb _=>rfl|.kn _ _=>rfl|.dat _=>rfl|.ptr _ _=>rfl|.mD _ _ _=>rfl|.mC _ _ _ _=>rfl|.sh _ _=>rfl|.emp=>rfl|.kR _ _ _=>rfl|.fn _ a b=>by simp[low,iX,dF,rA os a,rA os b]
 |.dn _ v=>by simp[low,iX,dF,kZ os v]
 |.agg c=>by simp[low,iX,dF,rA os c]
 |.gX c=>by simp[low,iX,dF,rA os c]
 |.gd _ v=>by simp[low,iX,dF,kZ os v]
 |.mp _=>rfl|.r9 _=>rfl|.uH _=>rfl|.ub _=>rfl|.sV _ _ _ _=>rfl|.qx _ _ _=>rfl
theorem rA(os:L Nat):∀l:L (V S),iR os (bI l)=pg os l
 |[]=>rfl|v::l=>by simp[bI,iR,pg,kZ os v,rA os l]
end
def mL:∀t:T,dF [] t=J:=by
 intro t
 induction t using T.rec (motive_2:=λl=>iR [] l=J)with|fn f a b d g=>simp[dF,d,g]|dn t v e=>simp[dF,e]|agg i e=>simp[dF,e]|gX i e=>simp[dF,e]|gd c v e=>simp[dF,e]|nil=>rfl|cons a l d h=>simp[iR,d,h]|_=>simp[dF]
structure o4(lo fl:Nat)(g:Gh)(w:az)(g':Gh)(w':az):Prop where
 bX:∀o b,g.bX o=Z b->g'.bX o=Z b
 arr:∀o e x,o<lo->g.arr o e=Z x->g'.arr o e=Z x
 bF:∀b,g.bF b->g'.bF b
 size:w.heap.size<=w'.heap.size
 heap:∀b,b<w.heap.size->(∀o,fl<=o->¬bL g o b)->w'.heap[b]?=w.heap[b]?
 own:∀o b,fl<=o->bL g' o b->(∃o',fl<=o'/\bL g o' b)\/w.heap.size<=b
 oN:∀b,g'.bF b->g.bF b\/w.heap.size<=b\/∃o,fl<=o/\bL g o b
 os:w'.os=w.os
 output:w'.output=w.output
theorem o4.refl(lo fl:Nat)(g:Gh)(w:az):o4 lo fl g w g w:=
 ⟨λ_ _ h=>h,λ_ _ _ _ h=>h,λ_ h=>h,eP _,λ_ _ _=>rfl,λo _ a h=>.inl ⟨o,a,h⟩,λ_ h=>.inl h,rfl,rfl⟩
def o4.trans{lo fl:Nat}{g g' i:Gh}{w w' j:az}(h:o4 lo fl g w g' w')(k:o4 lo fl g' w' i j):o4 lo fl g w i j where
 bX o b e:=k.bX o b (h.bX o b e)
 arr o e x n p:=k.arr o e x n (h.arr o e x n p)
 bF b e:=k.bF b (h.bF b e)
 size:=gE h.size k.size
 heap b c q:=by
  rw[k.heap b (iW c h.size) (λo l a=>?_),h.heap b c q];obtain⟨m,d,f⟩|a:=h.own o b l a
  grind
  omega
 own o b l a:=by
  obtain⟨m,d,f⟩|a:=k.own o b l a
  exact h.own m b d f;exact .inr (gE h.size a)
 oN b c:=by
  obtain c|c|⟨o,l,a⟩:=k.oN b c
  exact h.oN b c;exact .inr (.inl (gE h.size c));obtain⟨m,d,f⟩|a:=h.own o b l a
  grind
  omega
 os:=k.os.trans h.os
 output:=k.output.trans h.output
variable {fl:Nat}{g g':Gh}{w w':az}{s:bx S}{k:Bk}{nx:Option Nat}
def Ext.Jn(lo:Nat)(h:Ext fl g w g' w'):o4 lo fl g w g' w':=
 ⟨λo b e=>h.bX o b e,λo e x _ k=>h.arr o e x k,h.bF,h.size,h.heap,λo b a c=>(h.own o b c).imp (λh=>⟨o,a,h⟩) id,h.oN,h.os,h.output⟩
structure cU(ow:List Nat)(s:bx S)(g:Gh)(w:az)(s':bx S)(g':Gh)(w':az):Prop where
 rel:bg g' (aF s') w'
 ext:o4 s.lo s.fl g w g' w'
 fl:s'.fl=s.fl
 lo:s'.lo=s.lo
 aH:s.aH<=s'.aH
 uF:∀o∈s.wr,o∈s'.wr
 same:∀o,o<s.aH->o∉s'.wr->s'.ob.get o=s.ob.get o
 tr:∀t v,aL g w t v->dF ow t=J->aL g' w' t v
 oww:∀o∈ow,o∈s'.wr
 Ik:∀o∈s.dr,o∈s'.dr
 owd:∀o∈ow,o∈s'.dr
inductive rY(S:Sg)(I:Nat->Prop)(w:az):(ps:List Pk)->gp S.A ps->List aD->List fy->List Nat->Prop where
 |nil:rY S I w [] () [] [] []|one {c:Ck} {ps:List Pk} {x:den S.A c.ty} {h:gp S.A ps} {v:aD} {vs:List aD} {al v9:List fy} {bl:List Nat} (h1:j3 S I w [c] (x,()) [v] al) (h2:rY S I w ps h vs v9 bl) :
   rY S I w (.one c::ps) (x,h) (v::vs) (al++v9) bl
 |box {k:Bk} {ps:List Pk} {x:yT S.A k} {h:gp S.A ps} {b:Nat} {hx:Obj} {vs:List aD} {al v9:List fy} {bl:List Nat} (hh:w.heap[b]?=Z hx)
   (h1:Fg S I w (fQ bl) k x hx al) (h2:rY S I w ps h vs v9 bl):rY S I w (.box k::ps) (x,h) (MC k b::vs) (al++v9) (b::bl)
 |hid {k:Bk} {ps:List Pk} {x:yT S.A k} {h:gp S.A ps} {b:Nat} {hx:Obj} {vs:List aD} {al v9:List fy} {bl:List Nat} (hh:w.heap[b]?=Z hx)
   (h1:Fg S I w (fQ bl) k x hx al) (h2:rY S I w ps h vs v9 bl):rY S I w (.hid k::ps) (x,h) vs (al++v9) (b::bl)
inductive Fh(S:Sg)(I:Nat->Prop)(w:az):(ps:List Pk)->ic S.A ps->List Nat->List fy->Prop where
 |nil:Fh S I w [] () [] []|one {c:Ck} {ps:List Pk} {r:ic S.A ps} {bl:List Nat} {al:List fy} (h:Fh S I w ps r bl al):Fh S I w (.one c::ps) r bl al|box {k:Bk} {ps:List Pk} {x:yT S.A k} {r:ic S.A ps} {b:Nat} {hx:Obj} {bl:List Nat} {al v9:List fy} (hh:w.heap[b]?=Z hx)
   (h1:Fg S I w (fQ bl) k x hx al) (h2:Fh S I w ps r bl v9):Fh S I w (.box k::ps) (x,r) (b::bl) (al++v9)
 |hid {k:Bk} {ps:List Pk} {x:yT S.A k} {r:ic S.A ps} {b:Nat} {hx:Obj} {bl:List Nat} {al v9:List fy} (hh:w.heap[b]?=Z hx)
   (h1:Fg S I w (fQ bl) k x hx al) (h2:Fh S I w ps r bl v9):Fh S I w (.hid k::ps) (x,r) (b::bl) (al++v9)
def valOf:L aD->aD
 |[v]=>v|l=>.tuple l.toArray
def FR(S:Sg)(I:Nat->Prop)(w:az)(ps:L Pk)(f:L Ck)(r:gJ S.A f×ic S.A ps)(al:L fy)(bl:L Nat)(v:aD)(w':az):Prop:=∃(e:Nat->Prop)(vs:L aD)(c d:L fy),(∀b,I b->e b)/\(∀b,e b->I b\/w.heap.size<=b\/∃a∈al,a.at b)/\(∀b,e b->b<w'.heap.size)/\w.heap.size<=w'.heap.size/\
   (∀b,b<w.heap.size->b∉bl->(∀a∈al,¬a.at b)->w'.heap[b]?=w.heap[b]?)/\w'.os=w.os/\w'.output=w.output/\v=valOf vs/\
   Fh S e w' ps r.2 bl c/\j3 S e w' f r.1 vs d/\yb (c++d)/\(∀a∈c++d,∀b,a.at b->(∃a'∈al,a'.at b)\/w.heap.size<=b)/\(∀b∈bl,¬e b/\∀a∈c++d,¬a.at b)
def yN(S:Sg)(I:Nat->Prop)(w:az)(ps:L Pk)(b:L Ck)(r:Rx (gJ S.A b×ic S.A ps) (den S.A S.pt×ic S.A ps))(al:L fy)(bl:L Nat):Ending->az->Prop
 |.returned v,w'=>match r with
  |.ok r=>FR S I w ps b r al bl v w'|.iN _=>False
 |.panicked c,w'=>match r with
  |.ok _=>False|.iN p=>∃v,c=[{v,recovered:=J}]/\FR S I w ps [.dat S.pt] ((p.1,()),p.2) al bl v w'
 |.outgrown,_=>False
def bN(P:cV)(f:FuncId)(c:lT S):Prop:=
 mF P f/\∀x r,c.F x=Z r->∀(I:Nat->Prop)(w:az)(vs:Array aD)(al:L fy)(bl:L Nat),rY S I w c.ps x vs.toList al bl->(∀b,I b->b<w.heap.size)->yb al->bl.Nodup->
  (∀b∈bl,b<w.heap.size/\¬I b/\∀a∈al,¬a.at b)->Calls P f vs w (yN S I w c.ps c.rs (RT.res c.pn r) al bl)
def A9(hs:bg g (aF s) w){o b:Nat}(j:g.bX o=Z b){x:yT S.A k}{fz ow:L Nat}(h:mK s k (s.ob.get o)=Z (x,fz,ow,nx)) :
  (∀a,nx=Z a->∃l,g.bX a=Z l)/\∀a,nx=Z a->∃m pre post,k=.link m pre post:=by
 cases e:s.ob.get o with
 |none=>rw[e]at h;cases k<;>simp[mK]at h
 |some ob=>
 rw[e]at h
 let ⟨t,u,f⟩:=(hs.box o b j).2.2 (dj ob) (by rw[aN,e];rfl)
 cases k with
 |link m pre post=>
  refine⟨λa n=>?_,λ_ _=>⟨m,pre,post,rfl⟩⟩;cases ob with
  |box v=>
   cases f with
   |box _ p ty y f=>
   simp only[mK]at h;split at h;rotate_left;cases h;rename_i q z d A;obtain⟨_,_,_,rfl⟩:=h;have d:=ZP d;rw[kD]at d;have i:cM pre<p.size:=by grind[eU]
   have c:=f (cM pre) _ _ (by rw[ff,lK,d];rfl) (uS i)
   let ⟨q,r,_⟩:=UY c
   grind
  |_=>simp[mK]at h
 |cells B=>
  cases ob<;>simp only[mK]at h<;>try(cases h;done)
  grind
 |map kt C=>
  cases ob<;>simp only[mK]at h<;>try(cases h;done)
  grind
 |r8=>
  cases ob<;>simp only[mK]at h<;>try(cases h;done)
  grind
def Ei{i:Gh}{ps:L Pk}{l:L (V S)}{h:gp S.A ps}{a b bs bl:L Nat}(n:Hx k ps=W)(g:∀c,nx=Z c->∃m pre post,k=.link m pre post)(e:eR s ps l nx=Z (h,a,b,bs))(d:PW (λo b=>i.bX o=Z b) bs bl) :
  ∀c,nx=Z c->∃f,fQ bl=Z f/\i.bX c=Z f:=by
 intro c j;obtain⟨m,pre,post,rfl⟩:=g c j;subst j
 match ps,n with
 |.hid p::ps,_=>
  simp[eR]at e;obtain⟨_,e⟩|⟨_,e⟩:=ah e
  rotate_left;cases e;split at e;rotate_left;cases e;split at e;rotate_left;cases e;simp at e;obtain⟨_,_,_,rfl⟩:=e
  match bl,d with
  |f::bl,d=>exact⟨f,rfl,d.2 0 _ _ rfl rfl⟩|[],d=>exact absurd d.1 (by simp)
def kY(hS:fE S){g:Gh}{w:az}{s:bx S}(hs:bg g (aF s) w):∀{ps:L Pk}{l:L (V S)}{vals:L aD}{x:gp S.A ps}{fz ow bs:L Nat}{B:O Nat},eR s ps l B=Z (x,fz,ow,bs)->PW (aL g w) (bI l) vals->(∀o,B=Z o->∃b,g.bX o=Z b)->
  (∀o∈fz,Live g (aF s) o)/\(∀o∈ow,s.fl<=o/\s.lo<=o/\o<s.aH/\∃ob,s.ob.get o=Z ob/\Ts ob=W)/\(∀o∈bs,s.fl<=o/\∃ob,s.ob.get o=Z ob/\j5 ob=W)/\∀(r:Gh)(s1:St)(i:L Nat),bg r s1 w->Ext s.fl g w r w->jM (aF s) s1 i->(∀o∈fz,o∈i)->(∀o∈ow,s1.ob.get o=(aF s).ob.get o)->
   ∃al bl,rY S r.bF w ps x vals al bl/\AL r al ow/\PW (λo b=>r.bX o=Z b) bs bl
 |[],[],vals,x,fz,ow,bs,_,h,m=>by intro _;obtain⟨_,rfl,rfl,rfl⟩:=h;have:vals=[]:=EZ (by have:=m.1;simpa[bI]using this.symm);subst this;exact⟨λo d=>(by cases d),λo d=>(by cases d),λo d=>(by cases d),λ_ _ _ _ _ _ _ _=>⟨[],[],.nil,.nil,rfl,λj a b h=>by simp at h⟩⟩
 |.one c::ps,v::l,vals,x,fz,ow,bs,_,h,m=>by
  intro _;simp[eR]at h;split at h
  .rename_i x1 a1 b1 h1 a2 b2 bs2 C E;simp at h;obtain⟨rfl,rfl,rfl,rfl⟩:=h
   match vals,m with
   |val::vals,m=>
    have F:aL g w (low v) val:=m.2 0 _ _ rfl rfl;have I:PW (aL g w) (bI l) vals:=⟨by have:=m.1;simpa[bI]using this,λj a b u y=>m.2 (j+1) a b (by simpa[bI]using u) (by simpa using y)⟩
    let ⟨p1,p2,p3⟩:=Ek hS hs C F
    let ⟨q1,q2,q4,q3⟩:=kY hS hs E I (λo d=>by cases d)
    refine⟨λo d=>(fc.1 d).elim (p1 o) (q1 o),λo d=>(fc.1 d).elim (p2 o) (q2 o),q4,λr s1 i n t A f e=>?_⟩
    let ⟨EN,u,y⟩:=p3 r s1 i n t A (λo d=>f o (gf _ d)) (λo d=>e o (gf _ d))
    let ⟨Cb,bl,k3,k4,z⟩:=q3 r s1 i n t A (λo d=>f o (e9 _ d)) (λo d=>e o (e9 _ d))
    exact⟨_,bl,.one u k3,y.append k4,z⟩
   |[],m=>exact absurd m.1 (by simp[bI])
  cases h
 |.box k::ps,v::l,vals,x,fz,ow,bs,B,h,m=>by
  intro _;simp[eR]at h;split at h
  .rename_i o hkp;obtain rfl:=MD hkp;obtain⟨hb,p⟩|⟨_,p⟩:=ah h
   .clear h;rw[zT]at hb;split at p;rotate_left;cases p;rename_i x1 a1 b1 nx C;split at p;rotate_left;cases p;rename_i h1 a2 b2 bs2 E;simp at p;obtain⟨rfl,rfl,rfl,rfl⟩:=p
    match vals,m with
    |val::vals,m=>
     have F:aL g w (low (WZ k o)) val:=m.2 0 _ _ rfl rfl;have I:PW (aL g w) (bI l) vals:=⟨by have:=m.1;simpa[bI]using this,λj a b u y=>m.2 (j+1) a b (by simpa[bI]using u) (by simpa using y)⟩;obtain⟨b,q,rfl⟩:=Hz F
     let ⟨p0,hx,hh,p1,p2,p3⟩:=so hS hs q C
     let ⟨K,P⟩:=A9 hs q C
     let ⟨q1,q2,q4,q3⟩:=kY hS hs E I K
     refine⟨λo d=>(fc.1 d).elim (p1 o) (q1 o),λo d=>(fc.1 d).elim (p2 o) (q2 o),λk hk=>?_,λr s1 i n t A f e=>?_⟩;obtain rfl|hk:=gn.1 hk
     simp_all
     grind
     let ⟨Cb,bl,k3,k4,z⟩:=q3 r s1 i n t A (λo d=>f o (e9 _ d)) (λo d=>e o (e9 _ d))
     let ⟨EN,u,y⟩:=p3 r s1 i n t A (λo d=>f o (gf _ d)) (λo d=>e o (gf _ d)) (fQ bl) (Ei hb.2 P E z)
     refine⟨_,b::bl,.box hh u k3,y.append k4,by simp[z.1],λj a c R m2=>?_⟩;cases j with|zero=>simp at R m2;subst R;subst m2;exact t.bX _ _ q|succ j=>exact z.2 j a c (by simpa using R) (by simpa using m2)
    |[],m=>exact absurd m.1 (by simp[bI])
   cases p
  cases h
 |.hid k::ps,l,vals,x,fz,ow,bs,Z o,h,m=>by
  intro hp0;obtain⟨hb,p⟩|⟨_,p⟩:=ah h
  rotate_left;cases p;clear h;rw[zT]at hb;split at p;rotate_left;cases p;rename_i C;split at p;rotate_left;cases p;rename_i E;obtain⟨rfl,rfl,rfl,rfl⟩:=p
  let ⟨b,q⟩:=hp0 o rfl
  let ⟨p0,hx,hh,p1,p2,p3⟩:=so hS hs q C
  let ⟨K,P⟩:=A9 hs q C
  let ⟨q1,q2,q4,q3⟩:=kY hS hs E m K
  refine⟨λo d=>(fc.1 d).elim (p1 o) (q1 o),λo d=>(fc.1 d).elim (p2 o) (q2 o),λk hk=>?_,λr s1 i n t A f e=>?_⟩;obtain rfl|hk:=gn.1 hk
  simp_all
  grind
  let ⟨Cb,bl,k3,k4,z⟩:=q3 r s1 i n t A (λo d=>f o (e9 _ d)) (λo d=>e o (e9 _ d))
  let ⟨EN,u,y⟩:=p3 r s1 i n t A (λo d=>f o (gf _ d)) (λo d=>e o (gf _ d)) (fQ bl) (Ei hb.2 P E z)
  refine⟨_,b::bl,.hid hh u k3,y.append k4,by simp[z.1],λj a c R m2=>?_⟩;cases j with|zero=>simp at R m2;subst R;subst m2;exact t.bX _ _ q|succ j=>exact z.2 j a c (by simpa using R) (by simpa using m2)
 |[],_::_,_,_,_,_,_,_,h,_=>by simp[eR]at h
 |.one _::_,[],_,_,_,_,_,_,h,_=>by simp[eR]at h
 |.box _::_,[],_,_,_,_,_,_,h,_=>by simp[eR]at h
 |.hid _::_,_,_,_,_,_,_,Y,h,_=>by simp[eR]at h
end
section
def Ho{os:L Nat}:∀{l:L (V S)},pg os l=J->∀v∈l,iX os v=J
 |[],_,v,b=>by cases b
 |a::l,h,v,b=>by
  simp[pg,zS]at h;obtain rfl|b:=gn.1 b
  exact h.1;exact Ho h.2 v b
def Hl{α:Type}{os:L Nat}:∀{l:L (α×V S)},Mw os l=J->∀p∈l,iX os p.2=J
 |[],_,v,b=>by cases b
 |a::l,h,v,b=>by
  simp[Mw,zS]at h;obtain rfl|b:=gn.1 b
  exact h.1;exact Hl h.2 v b
def FD{p:V S->aa}{f:V S->V S}(hf:∀v,p v=J->f v=v):∀{t:Tr (V S)},nc p t=J->t.mapA f=t
 |.nil,_=>rfl|.node v l r,h=>by
  simp[nc,zS]at h;simp only[Tr.mapA,FD hf h.2.1,FD hf h.2.2]
  grind
variable {os bl:List Nat}{g:Gh}{w:az}{s:bx S}{vs:List aD}{I:Nat->Prop}
def Ds{v:V S}(h:iX os v=J):rU os v=v:=by simp[rU,h,jP]
def Tb{ob:vO S}(h:Mo os ob=J):oA os ob=ob:=by
 cases ob with
 |box b=>simp[oA,vO.box.injEq];have:∀v∈b,rU os v=v:=λv c=>Ds (Ho h v c);exact(YH this).trans (List.map_id _)|Jh kt l=>
  simp only[oA];have:∀p∈l,((p.1,rU os p.2):den S.A kt×V S)=p:=λp d=>by rw[Ds (Hl h p d)]
  rw[(YH this).trans (List.map_id _)]
 |lp l=>simp[oA,FD (λv=>Ds) (show nc (iX os) l.fr.tm=J from h)]|l8 n j l era m a hole=>have h:os.contains m=J:=h;simp only[oA,h,jP]|_=>rfl
theorem xu(os:L Nat)(v:V S):we (dF os) (low v) (low (rU os v)):=by cases a:iX os v with|true=>exact .inr ⟨_,by simp[rU,a,iq];rfl⟩|false=>exact .inl ⟨by simp[rU,a,jP],by rw[kZ];exact a⟩
theorem Uh(os:L Nat)(t:Ty)(x:den S.A t):we (dF os) (ek S t x) (ek S t x):=.inl ⟨rfl,kZ (S:=S) os (.ty t x)⟩
def M4(os:L Nat)(ob:vO S):abO os (dj ob) (dj (oA os ob)):=by
 cases ob with
 |box i=>
  refine⟨by simp[eU],λj t u h1 h2=>?_⟩;simp only[ff,lK,gi]at h1 h2;obtain⟨v,c,rfl⟩:=h1;obtain⟨g,⟨d,a,rfl⟩,rfl⟩:=h2
  grind[xu]
 |map kt o l=>
  refine⟨rfl,λj t u h1 h2=>?_⟩;rw[h1]at h2;cases h2;simp only[lK,gi]at h1;obtain⟨p,_,rfl⟩:=h1
  grind[Uh]
 |Jh kt l=>
  refine⟨by simp,λj t u h1 h2=>?_⟩;simp only[lK,gi]at h1 h2;obtain⟨v,c,rfl⟩:=h1;obtain⟨g,⟨d,a,rfl⟩,rfl⟩:=h2
  grind[Uh,xu]
 |lp l=>refine⟨rfl,rfl,λk u h=>?_⟩;have b:((l.fr.tm.mapA (rU os)).map low).get k=Z u:=h;rw[Tr.get_map,Tr.oO,GM,gi]at b;obtain⟨v,c,rfl⟩:=b;exact⟨low v,by show(l.fr.tm.map low).get k=_;rw[Tr.get_map,c];rfl,xu os v⟩
 |arr=>rfl|lW=>rfl|r8=>rfl|AG=>rfl|rws=>rfl|gone=>rfl|Hj=>rfl|l8 n j l era m f hole=>
  cases e:os.contains m with|true=>exact .inr (by simp only[oA,e,iq];rfl)|false=>exact .inl ⟨by simp only[oA,e,jP];rfl,e⟩
def HU(os:L Nat)(s:bx S)(o:Nat):(forget os s).ob.get o=if os=[]then s.ob.get o else(s.ob.get o).map (oA os):=by cases os with|nil=>rfl|cons a os=>exact Tr.oO _ _ _
def PF(os:L Nat)(hs:bg g (aF s) w):bg (g.drop os) (aF (forget os s)) w:=by cases os with|nil=>exact hs|cons a os=>refine hs.drop rfl λo c h=>?_;rw[aN,HU,bS (by simp),GM,gi]at h;obtain⟨ob,b,rfl⟩:=h;exact⟨dj ob,by rw[aN,b];rfl,M4 _ ob⟩
def PE(os:L Nat)(s:bx S)(o:Nat)(h:o∉(forget os s).wr):(forget os s).ob.get o=s.ob.get o:=by
 rw[HU];split;rfl;cases c:s.ob.get o with
 |none=>rfl|some ob=>
  cases b:Mo os ob with
  |true=>
   exfalso;apply h;cases os with|nil=>simp_all|cons a os=>exact gf _ (Tr.rE _ _ _ _ c b)
  |false=>rw[jQ,Tb b]
def Xp(os:L Nat)(s:bx S):(forget os s).fl=s.fl/\(forget os s).lo=s.lo/\(forget os s).aH=s.aH/\(forget os s).dr=s.dr/\∀o∈s.wr,o∈(forget os s).wr:=by cases os with|nil=>exact⟨rfl,rfl,rfl,rfl,λ_ h=>h⟩|cons a os=>exact⟨rfl,rfl,rfl,rfl,λo h=>e9 _ h⟩
def eS:∀{os:L Nat}{s s':bx S},dZ s os=Z s'->s'.fl=s.fl/\s'.lo=s.lo/\s'.aH=s.aH/\(∀o∈s.wr,o∈s'.wr)/\(∀o,o∉s'.wr->s'.ob.get o=s.ob.get o)/\(∀o,o∉os->s'.ob.get o=s.ob.get o)/\s'.dr=s.dr
 |[],s,s',h=>by simp[dZ,gV]at h;subst h;exact⟨rfl,rfl,rfl,λ_ h=>h,λ_ _=>rfl,λ_ _=>rfl,rfl⟩
 |k::os,s,s',h=>by
  obtain⟨_,h⟩|⟨_,h⟩:=ah h
  split at h
  let ⟨h1,h2,h3,h4,h5,h6,b⟩:=eS h
  refine⟨h1,h2,h3,λo a=>h4 o (ie _ a),λo a=>?_,λo a=>?_,b⟩;rw[h5 o a];exact Tr.dK _ _ _ _ _ (λe=>a (h4 o (by rw[e];exact eN)));rw[h6 o (λc=>a (ie _ c))];exact Tr.dK _ _ _ _ _ (λe=>a (by rw[e];exact eN))
  let ⟨h1,h2,h3,h4,h5,h6,b⟩:=eS h
  exact⟨h1,h2,h3,h4,h5,λo a=>h6 o (λc=>a (ie _ c)),b⟩;split at h;rename_i _ _ _ _ _;obtain⟨d,h⟩|⟨_,h⟩:=ah h
  simp only[eX,GJ,ri]at d
  let ⟨h1,h2,h3,h4,h5,h6,b⟩:=eS h
  refine⟨h1,h2,h3,λo a=>h4 o (ie _ (ie _ a)),λo a=>?_,λo a=>?_,b⟩;rw[h5 o a];show((s.ob.set aP _ _).set aP k _).get o=_;rw[Tr.dK _ _ _ _ _ (λe=>a (h4 o (by rw[e];exact eN))),Tr.dK _ _ _ _ _ (λe=>a (h4 o (by rw[e];exact ie _ eN)))];rw[h6 o (λc=>a (ie _ c))];show((s.ob.set aP _ _).set aP k _).get o=_;rw[Tr.dK _ _ _ _ _ (λe=>a (by rw[e];exact eN)),Tr.dK _ _ _ _ _ (λe=>a (by rw[e];exact ie _ d.1))];cases h;cases h
  let ⟨h1,h2,h3,h4,h5,h6,b⟩:=eS h
  exact⟨h1,h2,h3,h4,h5,λo a=>h6 o (λc=>a (ie _ c)),b⟩
  let ⟨h1,h2,h3,h4,h5,h6,b⟩:=eS h
  exact⟨h1,h2,h3,h4,h5,λo a=>h6 o (λc=>a (ie _ c)),b⟩;cases h;cases h
structure auB(bs:List Nat)(g:Gh)(s:bx S)(w:az)(al:List fy)(g':Gh)(s':bx S):Prop where
 rel:bg g' (aF s') w
 le:nD g g'
 bF:g'.bF=g.bF
 own:∀k b,bL g' k b->bL g k b\/(s.aH<=k/\∃a∈al,a.at b)
 fl:s'.fl=s.fl
 lo:s'.lo=s.lo
 aH:s.aH<=s'.aH
 uF:∀o∈s.wr,o∈s'.wr
 wrb:∀o∈bs,o∈s'.wr
 dr:s'.dr=s.dr
 ob:∀o,o<s.aH->o∉bs->s'.ob.get o=s.ob.get o
 bX:g'.bX=g.bX
 arr:∀o,o<s.aH->∀e,g'.arr o e=g.arr o e
def tV:∀{ps:L Pk}{bs:L Nat}{r:ic S.A ps}{s s':bx S},mI s ps bs r=Z s'->s.aH<=s'.aH
 |[],[],r,s,s',h=>by simp_all[mI,gV,eP]
 |.one c::ps,bs,r,s,s',h=>tV (ps:=ps) (by simpa only[mI]using h)
 |.box a::ps,o::bs,r,s,s',h=>by
  simp only[mI]at h;have h1:=tV h
  grind[Nat.le_trans,Fj]
 |.hid a::ps,o::bs,r,s,s',h=>by
  simp only[mI]at h;have h1:=tV h
  grind[Nat.le_trans,Fj]
 |[],_::_,_,_,_,h=>by simp[mI]at h
 |.box _::_,[],_,_,_,h=>by simp[mI]at h
 |.hid _::_,[],_,_,_,h=>by simp[mI]at h
def Bt{bs:L Nat}(h:PW (λo b=>g.bX o=Z b) bs bl):∀a,fQ bl=Z a->∃c,fQ bs=Z c/\g.bX c=Z a:=by
 intro a d
 match bl,bs,h with
 |b::bl,o::bs,h=>cases d;exact⟨o,rfl,h.2 0 _ _ rfl rfl⟩
 |[],_,_=>cases d
 |_::_,[],h=>exact absurd h.1 (by simp)
def OQ:∀{ps:L Pk}{r:ic S.A ps}{bl:L Nat}{al:L fy}{bs:L Nat}{g:Gh}{w:az}{s s2:bx S},Fh S g.bF w ps r bl al->bg g (aF s) w->PW (λo b=>g.bX o=Z b) bs bl->(∀o∈bs,∀e,g.arr o e=Y)->
  (∀a∈al,∀b,a.at b->∀o,¬bL g o b)->yb al->mI s ps bs r=Z s2->s2.aH<=bO->∃g',auB bs g s w al g' s2:=by
 intro ps
 induction ps with
 |nil=>
  intro r bl al bs g w s s2 hb C i _ _ _ h _;cases hb;cases bs with|nil=>simp[mI,gV]at h;subst h;exact⟨g,C,nD.refl _,rfl,λ_ _ h=>.inl h,rfl,rfl,eP _,λ_ h=>h,λo ho=>(by cases ho),rfl,λ_ _ _=>rfl,rfl,λ_ _ _=>rfl⟩|cons o bs=>exact absurd i.1 (by simp)
 |cons p ps ih=>
  intro r bl al bs g w s s2 hb C i hna hfr hap h hn;cases hb with
  |one hb=>
   grind[mI]
  | @box v _ x r b hx bl al E hh h1 h2=>
   cases bs with
   |nil=>exact absurd i.1 (by simp)
   |cons o bs=>
    simp[mI]at h;have y:g.bX o=Z b:=i.2 0 _ _ rfl rfl;have n:=uQ.1 hap;have F:=tV h;have I:(lU s (fQ bs) v x).2.aH<=bO:=gE F hn
    let ⟨g1,d,z⟩:=qC h1 (Bt (bs:=bs) (bl:=bl) ⟨by simpa using i.1,λj a c t u=>i.2 (j+1) a c (by simpa using t) (by simpa using u)⟩) C (λa ha=>hfr a (gf _ ha)) n.1 I
    have K:o<s.aH:=C.lt y;have hk:=d.rel.ue (o:=o) (b:=b) (by rw[d.bX];exact y) hh z (λe=>by rw[d.arr o K];simp_all);have P:bg g1 (aF {(lU s (fQ bs) v x).2 with ob:=(lU s (fQ bs) v x).2.ob.set aP o (lU s (fQ bs) v x).1,wr:=o::(lU s (fQ bs) v x).2.wr}) w:=by rw[eJ];exact hk
    let ⟨g2,l⟩:=ih (bl:=bl) (al:=E) (bs:=bs) (g:=g1) (d.bF▸h2) P ⟨by simpa using i.1,λj a c t u=>by rw[d.bX];exact i.2 (j+1) a c (by simpa using t) (by simpa using u)⟩
     (λm f e=>by
      have:m<s.aH:=by
       obtain⟨j,hj,rfl⟩:=sd f;have hj':j<bl.length:=by have:=i.1;grind
       exact C.lt (i.2 (j+1) bs[j] bl[j] (by simp) (by simp))
      rw[d.arr m this]
      simp_all)
     (λa ha B hb' k q=>by
      obtain q|⟨_,a2,ha2,qq⟩:=d.own k B q
      grind
      grind) n.2.1 h hn
    refine⟨g2,l.rel,d.le.trans l.le,l.bF.trans d.bF,λk B q=>?_,l.fl.trans d.fl,l.lo.trans d.lo,gE d.aH l.aH,λm f=>?_,λm f=>?_,l.dr.trans d.dr,λm A f=>?_,l.bX.trans d.bX,λm A e=>?_⟩;obtain q|⟨t,a,u,k3⟩:=l.own k B q
    obtain q|⟨t,a,u,k3⟩:=d.own k B q
    exact .inl q
    grind
    exact .inr ⟨gE d.aH t,a,e9 _ u,k3⟩;exact l.uF m (ie _ (by rw[d.wr];exact f));obtain rfl|f:=gn.1 f
    exact l.uF _ eN;exact l.wrb m f;have R:m≠o:=λe=>f (by simp_all);rw[l.ob m (iW A d.aH) (λhm=>f (ie _ hm))];rw[Tr.dK _ _ _ _ _ R];exact d.ob m A;rw[l.arr m (iW A d.aH)];exact d.arr m A e
  | @hid v _ x r b hx bl al E hh h1 h2=>
   cases bs with
   |nil=>exact absurd i.1 (by simp)
   |cons o bs=>
    simp[mI]at h;have y:g.bX o=Z b:=i.2 0 _ _ rfl rfl;have n:=uQ.1 hap;have F:=tV h;have I:(lU s (fQ bs) v x).2.aH<=bO:=gE F hn
    let ⟨g1,d,z⟩:=qC h1 (Bt (bs:=bs) (bl:=bl) ⟨by simpa using i.1,λj a c t u=>i.2 (j+1) a c (by simpa using t) (by simpa using u)⟩) C (λa ha=>hfr a (gf _ ha)) n.1 I
    have K:o<s.aH:=C.lt y;have hk:=d.rel.ue (o:=o) (b:=b) (by rw[d.bX];exact y) hh z (λe=>by rw[d.arr o K];simp_all);have P:bg g1 (aF {(lU s (fQ bs) v x).2 with ob:=(lU s (fQ bs) v x).2.ob.set aP o (lU s (fQ bs) v x).1,wr:=o::(lU s (fQ bs) v x).2.wr}) w:=by rw[eJ];exact hk
    let ⟨g2,l⟩:=ih (bl:=bl) (al:=E) (bs:=bs) (g:=g1) (d.bF▸h2) P ⟨by simpa using i.1,λj a c t u=>by rw[d.bX];exact i.2 (j+1) a c (by simpa using t) (by simpa using u)⟩
     (λm f e=>by
      have:m<s.aH:=by
       obtain⟨j,hj,rfl⟩:=sd f;have hj':j<bl.length:=by have:=i.1;grind
       exact C.lt (i.2 (j+1) bs[j] bl[j] (by simp) (by simp))
      rw[d.arr m this]
      simp_all)
     (λa ha B hb' k q=>by
      obtain q|⟨_,a2,ha2,qq⟩:=d.own k B q
      grind
      grind) n.2.1 h hn
    refine⟨g2,l.rel,d.le.trans l.le,l.bF.trans d.bF,λk B q=>?_,l.fl.trans d.fl,l.lo.trans d.lo,gE d.aH l.aH,λm f=>?_,λm f=>?_,l.dr.trans d.dr,λm A f=>?_,l.bX.trans d.bX,λm A e=>?_⟩;obtain q|⟨t,a,u,k3⟩:=l.own k B q
    obtain q|⟨t,a,u,k3⟩:=d.own k B q
    exact .inl q
    grind
    exact .inr ⟨gE d.aH t,a,e9 _ u,k3⟩;exact l.uF m (ie _ (by rw[d.wr];exact f));obtain rfl|f:=gn.1 f
    exact l.uF _ eN;exact l.wrb m f;have R:m≠o:=λe=>f (by simp_all);rw[l.ob m (iW A d.aH) (λhm=>f (ie _ hm))];rw[Tr.dK _ _ _ _ _ R];exact d.ob m A;rw[l.arr m (iW A d.aH)];exact d.arr m A e
def AK{l:L (V S)}(h:PW (aL g w) (bI l) vs):aL g w (low (EY l)) (valOf vs):=by
 match l,vs,h with
 |[],[],_=>exact .gX _ _ rfl (λj t v h=>by grind)
 |[v],[x],h=>exact h.2 0 _ _ rfl rfl|v::c::l,x::d::vs,h=>exact .gX _ _ (by simpa using h.1) (λj t u a b=>h.2 j t u a (by simpa using b))
 |[],_::_,h=>exact absurd h.1 (by simp[bI])
 |_::_,[],h=>exact absurd h.1 (by simp[bI])
 |[_],_::_::_,h=>exact absurd h.1 (by simp[bI])
 |_::_::_,[_],h=>exact absurd h.1 (by simp[bI])
theorem rY.iQ{I:Nat->Prop}{w:az}{ps:L Pk}{x:gp S.A ps}{vs:L aD}{al:L fy}{bl:L Nat}(h:rY S I w ps x vs al bl):∀a∈al,∀b,a.at b->¬I b:=by
 induction h with
 |nil=>simp_all|one h1 h2 e=>
  intro a c b d;obtain c|c:=fc.1 c
  exact h1.iQ a c b d
  grind
 |box f h1 h2 e=>
  intro a c b d;obtain c|c:=fc.1 c
  exact h1.iQ a c b d
  grind
 |hid f h1 h2 e=>
  intro a c b d;obtain c|c:=fc.1 c
  exact h1.iQ a c b d
  grind
def jq{α β:Type}{x:O α}{f:α->O β}{r:β}(h:aj x f=Z r):∃a,x=Z a/\f a=Z r:=by
 unfold aj at h
 grind
def rY.atU{ps:L Pk}{x:gp S.A ps}{al:L fy}(h:rY S I w ps x vs al bl):cE ps=W->al=[]/\bl=[]:=by
 induction h with
 |nil=>simp_all| @one c ps x h v vs al b bl h1 h2 d=>
  intro a;cases c with
  |own e=>simp[cE]at a|kE n j t=>simp[cE]at a|nil e=>simp[cE]at a|ptr t=>simp[cE]at a|dat t=>
   obtain⟨rfl,rfl⟩:=d (by simpa[cE]using a);cases h1 with
   |dat _ f=>
    cases f
    simp_all
 |box=>intro a;simp[cE]at a
 |hid=>intro a;simp[cE]at a
theorem Ej{s:bx S}:∀{ps:L Pk}{l:L (V S)}{nx:O Nat}{x:gp S.A ps}{fz ow bs:L Nat},cE ps=W->eR s ps l nx=Z (x,fz,ow,bs)->ow=[]
 |[],[],_,x,fz,ow,bs,_,h=>by
  grind[eR]
 |.one (.dat t)::ps,v::l,_,x,fz,ow,bs,a,h=>by
  simp[eR]at h;split at h;rename_i b c;obtain⟨_,_,rfl,_⟩:=h;rw[Ej (by simpa[cE]using a) c];simp[pU]at b
  grind
  cases h
 |.one (.kE ..)::_,_,_,_,_,_,_,a,_=>by simp[cE]at a
 |.one (.nil _)::_,_,_,_,_,_,_,a,_=>by simp[cE]at a
 |.one (.ptr _)::_,_,_,_,_,_,_,a,_=>by simp[cE]at a
 |.one (.own _)::_,_,_,_,_,_,_,a,_=>by simp[cE]at a
 |.box _::_,_,_,_,_,_,_,a,_=>by simp[cE]at a
 |.hid _::_,_,_,_,_,_,_,a,_=>by simp[cE]at a
 |[],_::_,_,_,_,_,_,_,h=>by simp[eR]at h
 |.one _::_,[],_,_,_,_,_,_,h=>by simp[eR]at h
def yG{g:Gh}{I:Nat->Prop}{w w':az}:∀{cs:L Ck}{x:gJ S.A cs}{vs:L aD}{al:L fy},lJ cs=W->j3 S I w cs x vs al->PW (aL g w') (bI (uo cs x)) vs
 |[],x,vs,al,_,h=>by cases h;exact⟨rfl,λj t v h=>by simp_all⟩
 |.dat t::cs,x,vs,al,a,h=>by
  cases h with
  | @dat _ _ y h v vs al b e=>
  simp[lJ,eX]at a
  let ⟨f,i⟩:=yG (g:=g) (w':=w') a.2 e
  refine⟨by simp only[uo,bI,l5];rw[f],λj l m c d=>?_⟩;cases j with
  |zero=>
   simp[uo,bI,OA,gV]at c d;subst c;subst d;have:dP g.bF w' (enc S t y) v:=by
    cases t with
    |int k=>cases b;exact .lit _
    |bool=>cases b;exact .lit _
    |str=>cases b;exact .lit _
    |_=>simp[Yy]at a
   exact qS this
  |succ j=>grind[uo,bI]
 |.own _::_,_,_,_,a,_=>by simp[lJ]at a
 |.kE ..::_,_,_,_,a,_=>by simp[lJ]at a
 |.nil _::_,_,_,_,a,_=>by simp[lJ]at a
 |.ptr _::_,_,_,_,a,_=>by simp[lJ]at a
def Ec(R:fE S){g:Gh}{w:az}{s:bx S}(hs:bg g (aF s) w):∀{ts:L Ty}{l:L (V S)}{vals:L aD}{x:mA S.A ts}{fz:L Nat},A4 s ts l=Z (x,fz)->PW (aL g w) (bI l) vals->
  (∀o∈fz,Live g (aF s) o)/\∀(k:Gh)(s1:St)(e:L Nat),bg k s1 w->Ext s.fl g w k w->jM (aF s) s1 e->(∀o∈fz,o∈e)->∃B:Nat->Prop,(∀b,B b->b<w.heap.size)/\∀I:Nat->Prop,(∀b,k.bF b\/B b->I b)->PW (dP I w) (fj S ts x) vals
 |[],[],vals,x,fz,h,A=>by simp only[A4,gV,fH]at h;obtain⟨_,rfl⟩:=h;exact⟨λo r=>(by cases r),λ_ _ _ _ _ _ _=>⟨λ_=>False,λ_ h=>h.elim,λ_ _=>⟨by have:=A.1;simpa[bI,fj]using this,λj d v h=>by simp[fj]at h⟩⟩⟩
 |[],_::_,_,_,_,h,_=>by simp[A4]at h
 |_::_,[],_,_,_,h,_=>by simp[A4]at h
 |t::ts,v::l,[],x,fz,_,A=>absurd A.1 (by simp[bI])
 |t::ts,v::l,val::vals,x,fz,h,A=>by
  simp only[A4]at h;split at h;rotate_left;cases h;rename_i y os y2 os2 h1 h2;simp only[gV,fH]at h;obtain⟨rfl,rfl⟩:=h;have E:aL g w (low v) val:=A.2 0 _ _ rfl rfl;have hv2:PW (aL g w) (bI l) vals:=⟨by have:=A.1;simpa[bI]using this,λj a b k1 k2=>A.2 (j+1) a b (by simpa[bI]using k1) (by simpa using k2)⟩;obtain⟨q3,q4⟩:=Ec R hs h2 hv2;have one:(∀o∈os,Live g (aF s) o)/\∀(k:Gh)(s1:St)(e:L Nat),bg k s1 w->Ext s.fl g w k w->jM (aF s) s1 e->(∀o∈os,o∈e)->∃B:Nat->Prop,(∀b,B b->b<w.heap.size)/\∀I:Nat->Prop,(∀b,k.bF b\/B b->I b)->dP I w (enc S t y) val:=by
   unfold akh at h1;split at h1
   .rename_i u o _;split at h1;rotate_left;cases h1;rename_i m lV;split at h1;rotate_left;cases h1;rename_i hm;obtain⟨rfl,rfl,hmm⟩:=Iu hm;cases hmm;simp only[gV,fH]at h1;obtain⟨rfl,rfl⟩:=h1;obtain⟨b,rfl,i⟩:∃b,val=.map (Z b)/\g.bX o=Z b:=by cases E with|mp _ b i=>exact⟨b,rfl,i⟩
    obtain⟨x0,hh,F⟩:=(hs.box o b i).2.2 _ (by rw[aN,lV];rfl);cases F with
    |map _ ms c hl F=>
    refine⟨λo r=>(by cases r),λk s1 e n C K f=>⟨λb'=>b'=b,λb' hb'=>hb'▸(hs.box o b i).2.1,λI z=>?_⟩⟩;have key:∀(j:Nat)p q,m[j]?=Z p->ms[j]?=Z q->dP I w (enc S _ p.1) q.key/\dP I w (enc S _ p.2) q.val:=λj p q h1 h2=>by obtain⟨k1,k2⟩:=F j _ q (by rw[lK,h1];rfl) h2;exact⟨(Fk R (k1.ext C hs.bF)).le λb i=>z b (.inl i),(Fk R (k2.ext C hs.bF)).le λb i=>z b (.inl i)⟩
    refine .mp _ _ b ms c (z b (.inr rfl)) hh (by simpa using hl) (by simpa using hl) (λj d q h1 h2=>?_) (λj d q h1 h2=>?_);simp only[lK,gi]at h1;obtain⟨p,P,rfl⟩:=h1;exact(key j p q P h2).1;simp only[lK,gi]at h1;obtain⟨p,P,rfl⟩:=h1;exact(key j p q P h2).2
   obtain⟨p,hd,P⟩:=qT R s t v h1;obtain⟨q1,q2⟩:=mH hs (low v) hd P E;exact⟨q1,λk s1 e n C K f=>⟨λ_=>False,λ_ h=>h.elim,λI z=>(q2 k s1 n C (K.sub f)).le λb i=>z b (.inl i)⟩⟩
  refine⟨λo r=>(fc.1 r).elim (one.1 o) (q3 o),λk s1 e n C K f=>?_⟩;obtain⟨B,hB,F⟩:=q4 k s1 e n C K (λo r=>f o (e9 _ r));obtain⟨B',hB',hr'⟩:=one.2 k s1 e n C K (λo r=>f o (gf _ r));refine⟨λb=>B b\/B' b,λb i=>i.elim (hB b) (hB' b),λI z=>?_⟩;have a1:=F I λb i=>z b (i.imp id .inl);have a2:=hr' I λb i=>z b (i.imp id .inr);refine⟨by simp[fj,a1.1],λj d u h1 h2=>?_⟩;cases j with|zero=>simp[fj]at h1 h2;subst h1;subst h2;exact a2|succ j=>exact a1.2 j d u (by simpa[fj]using h1) (by simpa using h2)
def uV(hS:fE S){g:Gh}{w:az}{s:bx S}(hs:bg g (aF s) w):∀{ps:L Pk}{l:L (V S)}{vals:L aD}{x:gp S.A ps}{fz:L Nat},mu s ps l=Z (x,fz)->PW (aL g w) (bI l) vals->
  (∀o∈fz,Live g (aF s) o)/\∀(q:Gh)(s1:St)(f:L Nat),bg q s1 w->Ext s.fl g w q w->jM (aF s) s1 f->(∀o∈fz,o∈f)->∃B:Nat->Prop,(∀b,B b->b<w.heap.size)/\∀I:Nat->Prop,(∀b,q.bF b\/B b->I b)->rY S I w ps x vals [] []
 |[],[],vals,x,fz,h,m=>by obtain⟨_,rfl⟩:=h;have:vals=[]:=EZ (by have:=m.1;simpa[bI]using this.symm);subst this;exact⟨λo i=>(by cases i),λ_ _ _ _ _ _ _=>⟨λ_=>False,λ_ h=>h.elim,λ_ _=>.nil⟩⟩
 |[],_::_,_,_,_,h,_=>by simp[mu]at h
 |.one c::_,[],_,_,_,h,_=>by cases c<;>simp[mu]at h
 |.box _::_,[],_,_,_,h,_=>by simp[mu]at h
 |.hid _::_,[],_,_,_,h,_=>by simp[mu]at h
 |.box _::_,_::_,_,_,_,h,_=>by simp[mu]at h
 |.hid _::_,_::_,_,_,_,h,_=>by simp[mu]at h
 |.one (.own _)::_,_::_,_,_,_,h,_=>by simp[mu]at h
 |.one (.kE ..)::_,_::_,_,_,_,h,_=>by simp[mu]at h
 |.one (.nil _)::_,_::_,_,_,_,h,_=>by simp[mu]at h
 |.one (.dat t)::ps,v::l,[],x,fz,_,m=>absurd m.1 (by simp[bI])
 |.one (.ptr t)::ps,v::l,[],x,fz,_,m=>absurd m.1 (by simp[bI])
 |.one (.dat t)::ps,v::l,val::vals,x,fz,h,m=>by
  simp[mu]at h;split at h;rotate_left;cases h;rename_i y os y2 os2 h1 h2;obtain⟨rfl,rfl⟩:=h;have E:aL g w (low v) val:=m.2 0 _ _ rfl rfl;have P:PW (aL g w) (bI l) vals:=⟨by have:=m.1;simpa[bI]using this,λj a b k1 k2=>m.2 (j+1) a b (by simpa[bI]using k1) (by simpa using k2)⟩
  let ⟨p,hd,hp⟩:=qT hS s t v h1
  let ⟨q1,q2⟩:=mH hs (low v) hd hp E
  let ⟨q3,q4⟩:=uV hS hs h2 P
  refine⟨λo i=>(fc.1 i).elim (q1 o) (q3 o),λq s1 f k F R d=>?_⟩
  let ⟨B,hB,hr⟩:=q4 q s1 f k F R (λo i=>d o (e9 _ i))
  have hx:=q2 q s1 k F (R.sub λo i=>d o (gf _ i));exact⟨B,hB,λI z=>rY.one (al:=[]) (.dat (hx.le λb hb=>z b (.inl hb)) .nil) (hr I z)⟩
 |.one (.ptr t)::ps,v::l,val::vals,x,fz,h,m=>by
  simp[mu]at h;split at h;rotate_left;cases h;rename_i h1 h2;obtain⟨rfl,rfl⟩:=h;have E:aL g w (low v) val:=m.2 0 _ _ rfl rfl;have P:PW (aL g w) (bI l) vals:=⟨by have:=m.1;simpa[bI]using this,λj a b k1 k2=>m.2 (j+1) a b (by simpa[bI]using k1) (by simpa using k2)⟩
  let ⟨q3,q4⟩:=uV hS hs h2 P
  unfold afG at h1;split at h1
  .split at h1;rotate_left;cases h1;rename_i hz;obtain⟨rfl,rfl⟩:=h1;obtain⟨rfl,hz⟩:=La hz;cases hz;cases E with
   |mD _ _ ad vv hi hc hd=>
   refine⟨λo i=>q3 o (by simpa using i),λq s1 f k F R d=>?_⟩
   let ⟨B,hB,hr⟩:=q4 q s1 f k F R (λo i=>d o (by simpa using i))
   exact⟨B,hB,λI z=>rY.one (al:=[]) (.ptr (z _ (.inl (F.bF _ hi))) hc (λj c A=>(hd j c A).le λb hb=>z _ (.inl (F.bF _ hb))) .nil) (hr I z)⟩
  .rename_i o;split at h1;rotate_left;cases h1;rename_i cs i;cases E with
   |ptr _ _ b hb=>
   have ho':(aF s).ob.get o=Z (.box (bI cs)):=by rw[aN,i];rfl
   let ⟨vs,ty,KE,hl,hcell⟩:=(hs.box o b hb).box ho'
   obtain⟨n,rfl⟩:∃n,t=Ty.st n:=by cases t<;>first|exact⟨_,rfl⟩|simp only[ag0,reduceCtorEq]at h1
   simp only[ag0]at h1;obtain⟨⟨yh,os1⟩,K⟩:∃r,A4 s (S.fs n) cs=Z r:=by
    cases K:A4 s (S.fs n) cs with
    |none=>rw[K]at h1;cases h1
    |some r=>exact⟨r,rfl⟩
   rw[K]at h1;simp only[gV,fH]at h1;obtain⟨rfl,rfl⟩:=h1
   let ⟨q1,q2⟩:=Ec hS hs K (vals:=vs.toList) ⟨by simpa using hl,λj t v h1 h2=>hcell j t v h1 (by simpa using h2)⟩
   refine⟨λo i=>(fc.1 i).elim (q1 o) (q3 o),λq s1 f k F R d=>?_⟩
   let ⟨B,hB,hr⟩:=q4 q s1 f k F R (λo i=>d o (e9 _ i))
   let ⟨B',hB',hx⟩:=q2 q s1 f k F R (λo i=>d o (gf _ i))
   refine⟨λC=>B C\/(C=b\/B' C),λC u=>u.elim (hB C) λe=>e.elim (λe=>by grind) (hB' C),λI z=>rY.one (al:=[]) ?_ (hr I λC u=>z C (u.imp id .inl))⟩;have hx:=hx I λC u=>z C (u.imp id λh=>.inr (.inr h));have hl':enc S (.st n) (S.FC n yh)=.agg (fj S (S.fs n) yh):=by show D.agg (S.cells n (S.FC n yh))=_;rw[hS.cells,hS.sY]
   have aij:∀j,(⟨b,0,Y⟩:Addr).add j=⟨b,j,Y⟩:=λj=>by
    grind[Addr.add]
   have hlen:(fj S (S.fs n) yh).length=vs.size:=by simpa using hx.1
   have:=j3.ptr (S:=S) (I:=I) (w:=w) (t:=.st n) (cs:=[]) (x:=S.FC n yh) (h:=()) (ad:=⟨b,0,Y⟩) (val:=λj=>(vs[j]?).getD undef) (vs:=[]) (al:=[]) (z _ (.inr (.inr (.inl rfl)))) (λj c A=>?_) (λj c A=>?_) .nil
   simp_all
   rw[hl']at A;have A:(fj S (S.fs n) yh)[j]?=Z c:=A
   grind[cell?_of_block]
   rw[hl']at A;have A:(fj S (S.fs n) yh)[j]?=Z c:=A;have hlt:j<vs.size:=by grind
   rw[uS hlt];exact hx.2 j c vs[j] A (by simp[hlt])
  cases h1
def EC(hS:fE S){P:cV}{f:FuncId}{c:lT S}(Xf:bN P f c)(hs:bg g (aF s) w){args:L (V S)}{vs:Array aD}(pE:PW (aL g w) (bI args) vs.toList)
  {ω:Type} {kp:V S->bx S->O ω} {k:V S->bx S->L Nat->O ω} {res:ω} (h:PY s c args kp k=Z res) :
  mF P f/\Calls P f vs w λ
   |.returned v,w'=>∃t s' g' A,k t s' A=Z res/\aL g' w' (low t) v/\cU A s g w s' g' w'|.panicked ch,w'=>∃v t s' g',ch=[{v,recovered:=J}]/\kp t s'=Z res/\aL g' w' (low t) v/\cU [] s g w s' g' w'|.outgrown,_=>False:=by
 unfold PY at h;obtain⟨_,h0⟩|⟨_,h0⟩:=ah h
 .clear h;obtain⟨hc,h1⟩|⟨_,h1⟩:=ah h0
  rotate_left;cases h1;clear h0;simp only[eX]at hc;split at h1;cases h1;rename_i x fz hpk;split at h1;cases h1;rename_i R hfz
  let ⟨p1,p2⟩:=uV hS hs hpk pE
  let ⟨z,q,C,hfr⟩:=eK fz hs (dG hS _ hfz) p1
  let ⟨B,hB,E⟩:=p2 z (aF R) fz q C hfr (λo u=>u)
  let ⟨r0,hF,h2⟩:=jq h1
  split at h2;rotate_left;cases h2;rename_i r hr;refine⟨Xf.1,(Xf.2 x r0 hF (λb=>z.bF b\/B b) w vs [] [] (E _ λ_ h=>h) (λb l=>l.elim (q.bF b) (hB b)) .nil .nil (λb l=>by cases l)).mono λe w' he=>?_⟩;rw[hr]at he;cases e with
  |outgrown=>exact he.elim|panicked ch=>exact he.elim|returned v=>
   obtain⟨I',vr,EN,Cb,q1,q2,q3,q4,q5,q6,q7,rfl,q8,q9,_⟩:=he;have KE:∀b,b<w.heap.size->w'.heap[b]?=w.heap[b]?:=λb l=>q5 b l (by simp) (by simp)
   let ⟨hs',he'⟩:=hs.grow (fl:=s.fl) (I:=g.bF) (w':=w') (λ_ h=>h) (λ_ h=>.inl h) (λb l=>iW (hs.bF b l) q4) q4 KE q6 q7
   exact⟨_,s,g,[],h2,AK (yG hc.2.1 q9),hs',he'.Jn _,rfl,rfl,eP _,λ_ h=>h,λ_ _ _=>rfl,λt v ht _=>ht.ext he' hs.bF,λo u=>(by cases u),λ_ h=>h,λo u=>(by cases u)⟩
 clear h;have h:=h0;clear h0;split at h;cases h;rename_i x fz A bs hpk;split at h;cases h;rename_i R hfz;obtain⟨aap,h2⟩|⟨_,h⟩:=ah h
 .let ⟨p1,_,_,p3⟩:=kY hS hs hpk pE (λo u=>by cases u)
  let ⟨z,q,C,hfr⟩:=eK fz hs (dG hS _ hfz) p1
  simp only[ZR,eX]at aap
  let ⟨f1,f2,f3,f4,f5,f6,f7⟩:=eS hfz
  let ⟨al,bl,E,_,_⟩:=p3 z (aF R) fz q C hfr (λo u=>u) (λo u=>by grind[Ej])
  obtain⟨rfl,rfl⟩:=E.atU aap.1;clear h
  let ⟨r0,hF,h2⟩:=jq h2
  split at h2;rotate_left;cases h2;rename_i r hr;refine⟨Xf.1,(Xf.2 x r0 hF z.bF w vs [] [] E q.bF .nil .nil (λb l=>by cases l)).mono λe w' he=>?_⟩;rw[hr]at he;cases e with
  |outgrown=>exact he.elim|panicked ch=>exact he.elim|returned v=>
   obtain⟨I',vr,EN,Cb,q1,q2,q3,q4,q5,q6,q7,rfl,q8,q9,_⟩:=he;have KE:∀b,b<w.heap.size->w'.heap[b]?=w.heap[b]?:=λb l=>q5 b l (by simp) (by simp)
   let ⟨hs',he'⟩:=hs.grow (fl:=s.fl) (I:=g.bF) (w':=w') (λ_ h=>h) (λ_ h=>.inl h) (λb l=>iW (hs.bF b l) q4) q4 KE q6 q7
   refine⟨_,s,g,[],h2,AK (yG aap.2.1 q9),hs',he'.Jn _,rfl,rfl,eP _,λ_ h=>h,λ_ _ _=>rfl,λt v ht _=>ht.ext he' hs.bF,λo u=>(by cases u),λ_ h=>h,λo u=>(by cases u)⟩
 obtain⟨l,h2⟩|⟨_,h2⟩:=ah h
 rotate_left;cases h2;clear h;simp at l;have Jy:=mz l.1;have asw:=mz l.2.1;have hap:=Ap l.2.2;unfold aj at h2;split at h2;rotate_left;cases h2;rename_i r hF;dsimp only at h2
 let ⟨p1,p2,p4,p3⟩:=kY hS hs hpk pE (λo u=>by cases u)
 have hfl:=dG hS _ hfz
 let ⟨z,q,C,hfr⟩:=eK fz hs hfl p1
 let ⟨f1,f2,f3,f4,f5,f6,f7⟩:=eS hfz
 let ⟨al,bl,E,hal,NT⟩:=p3 z (aF R) fz q C hfr (λo u=>u) (λo u=>by rw[aN,aN,f6 o (hap o u)])
 have af1:∀o∈bs,∃ob,R.ob.get o=Z ob/\j5 ob=W:=by
  intro o u
  let ⟨_,ob',hvs,Po⟩:=p4 o u
  have hnf:o∉fz:=λhm=>by
   have:=(p1 o hm).oM (by rw[aN,hvs];rfl)
   grind[oG]
  simp_all
 have aan:∀o∈bs,∀e,z.arr o e=Y:=by
  intro o u e
  let ⟨vs',hvs,Po⟩:=af1 o u
  cases hx:z.arr o e with
  |none=>rfl|some x'=>
   exfalso
   let ⟨_,h2⟩:=q.arr o e x' hx
   exact A8 Po (h2 _ (by rw[aN,hvs];rfl))
 have hni:∀a∈al,∀b,a.at b->¬z.bF b:=E.iQ;have E3:=hal.owned hni;have amF:=hal.apart q Jy hni;have ah9:∀b∈bl,∃o∈bs,z.bX o=Z b:=by
  intro b l;obtain⟨j,hj,rfl⟩:=sd l;have hj':j<bs.length:=by have:=NT.1;omega
  exact⟨bs[j],Oz hj',NT.2 j _ _ (iZ hj') (iZ hj)⟩
 have Xg:∀o∈bs,∃b∈bl,z.bX o=Z b:=by
  intro o u;obtain⟨j,hj,rfl⟩:=sd u;have hj':j<bl.length:=by have:=NT.1;omega
  exact⟨bl[j],Oz hj',NT.2 j _ _ (iZ hj) (iZ hj')⟩
 have hOb:∀o b,z.bX o=Z b->bL z o b:=λo b h=>⟨(q.box o b h).1,.inl h⟩;have aep:bl.Nodup:=by
  refine Sc.2 λi j hi hj hij heq=>?_;have hlen:=NT.1;have hi':i<bs.length:=by omega
  have hj':j<bs.length:=by omega
  have e1:=NT.2 i _ _ (iZ hi') (iZ hi);have e2:=NT.2 j _ _ (iZ hj') (iZ hj);rw[<-heq]at e2;exact(Sc.1 asw i j hi' hj' hij) (q.kj _ _ _ (hOb _ _ e1) (hOb _ _ e2))
 have aib:∀b∈bl,b<w.heap.size/\¬z.bF b/\∀a∈al,¬a.at b:=by
  intro b l
  let ⟨o,u,lV⟩:=ah9 b l
  refine⟨(q.box o b lV).2.1,(q.box o b lV).1,λa ha z8=>?_⟩
  let ⟨o',ho',Xk⟩:=E3 a ha b z8
  have:=q.kj o o' b (hOb o b lV) Xk;subst this
  let ⟨vs',hvs,Po⟩:=af1 o u
  let ⟨_,_,_,oba,asn,hB⟩:=p2 o ho'
  rw[f6 o (hap o ho')]at hvs;rw[asn]at hvs;cases hvs;have:=vI hB
  grind[oG]
 have core:∀(rs:L Ck)(r:gJ S.A rs×ic S.A c.ps)(s2:bx S),mI (zl bs (forget A {R with wr:=A++R.wr,dr:=A++R.dr})) c.ps bs r.2=Z s2->(iF s2 rs r.1).2.aH<=bO->∀(v:aD)(w':az),FR S z.bF w c.ps rs r al bl v w'->
   ∃g',aL g' w' (low (EY (iF s2 rs r.1).1)) v/\cU A s g w (iF s2 rs r.1).2 g' w':=by
  clear h2;intro rs r s2 hput asD v w' he;obtain⟨I',vr,EN,Cb,q1,q2,q3,q4,q5,q6,q7,rfl,q8,q9,q10,q11,q12⟩:=he
  let sF:bx S:=forget A {R with wr:=A++R.wr,dr:=A++R.dr}
  let sD:bx S:=zl bs sF
  let ⟨t1,t2,t3,t5,t4⟩:=Xp A {R with wr:=A++R.wr,dr:=A++R.dr}
  have ahK:bg z (aF {R with wr:=A++R.wr,dr:=A++R.dr}) w:=q;have hsF:bg (z.drop A) (aF sF) w:=PF A ahK;have hbsn:∀o∈bs,o<R.aH:=λo u=>by
   let ⟨b,_,l⟩:=Xg o u
   exact q.lt l
  have hnob1:R.aH<=bO:=q.aH;have amk:∀o,sD.ob.get o=if o∈bs then Y else sF.ob.get o:=λo=>Tr.oQ bs _ o (λb l=>by grind)
  have hsD:bg (z.drop A) (aF sD) w:=by
   have hsub:∀o ob,(aF sD).ob.get o=Z ob->(aF sF).ob.get o=Z ob:=by
    grind[aN]
   refine⟨hsF.aH,hsF.aj,λo b h=>?_,λo e x h=>?_,hsF.bF,hsF.kj⟩
   let ⟨k1,k2,k3⟩:=hsF.box o b h
   exact⟨k1,k2,λob lV=>k3 ob (hsub o ob lV)⟩
   let ⟨k1,k2⟩:=hsF.arr o e x h
   exact⟨k1,λob lV=>k2 ob (hsub o ob lV)⟩
  let X:Nat->Prop:=λb=>b∈bl\/∃a∈al,a.at b
  have SR:∀o b,bL (z.drop A) o b->bL z o b:=λo b h=>Gh.Af h;have halno:∀a∈al,∀b,a.at b->∀o,¬bL (z.drop A) o b:=by
   intro a ha b l o F
   let ⟨o',ho',Xk⟩:=E3 a ha b l
   have:=q.kj o o' b (SR o b F) Xk;subst this;obtain⟨_,h|⟨e,x',ad,h,_⟩⟩:=F;have h:z.bX o=Z b:=h
   let ⟨_,_,_,oba,lV,hB⟩:=p2 o ho'
   have hnb:=q.Bg (o:=o) (ob:=dj oba) ((aN R o).trans (by simp_all)) (vI hB)
   simp_all
   exact(Gh.Ij h).1 ho'
  have hstep:bg {z.drop A with bF:=I'} (aF sD) w':=by
   refine hsD.step (X:=X) q1 (λb l=>?_) q3 q4 (λb l hX=>q5 b l (λh=>hX (.inl h)) (λa ha h=>hX (.inr ⟨a,ha,h⟩))) (λo b hX F=>?_) (λb hX=>?_);obtain h|h|h:=q2 b l
   exact .inl h;omega
   grind
   obtain hX|⟨a,ha,K⟩:=hX
   let ⟨o',ho',aso⟩:=ah9 b hX
   have:=q.kj o o' b (SR o b F) (hOb _ _ aso)
   simp_all[aN]
   grind
   obtain hX|⟨a,ha,K⟩:=hX
   exact(aib b hX).2.1;exact hni a ha b K
  have afW:∀o b,bL ({z.drop A with bF:=I'}:Gh) o b->bL (z.drop A) o b:=λo b h=>⟨λhi=>h.1 (q1 b hi),h.2⟩;have hfresh:∀a∈EN++Cb,∀b,a.at b->∀o,¬bL ({z.drop A with bF:=I'}:Gh) o b:=by
   intro a ha b l o F;have F:=afW o b F;obtain⟨a',ha',hb'⟩|hge:=q11 a ha b l
   grind
   have:=(hsD.sq F).1;omega
  have amE:=uQ.1 q10;have hs3n:s2.aH<=(iF s2 rs r.1).2.aH:=oD _ _ _
  let ⟨g4,hp⟩:=OQ (g:={z.drop A with bF:=I'}) (s:=sD) q8 hstep NT (λo u e=>by
    show(if o∈A then Y else z.arr o e)=Y
    simp_all) (λa ha=>hfresh a (gf _ ha)) amE.1 hput (by omega)
  obtain⟨g5,hu,asd⟩:=nQ (g:=g4) (by rw[hp.bF];exact q9) hp.rel (λa ha b l o F=>by
    obtain F|⟨_,a2,ha2,qq⟩:=hp.own o b F
    grind
    grind) amE.2.1 asD
  have hle:nD ({z.drop A with bF:=I'}:Gh) g5:=hp.le.trans hu.le;have afZ:g5.bF=I':=hu.bF.trans hp.bF;have hnobD:sD.aH=R.aH:=t3;have asr:R.aH<=(iF s2 rs r.1).2.aH:=by have:=hp.aH;omega
  have hown5:∀k b,bL g5 k b->bL g k b\/(s.fl<=k/\∃o',s.fl<=o'/\bL g o' b)\/w.heap.size<=b:=by
   intro k b F;have hnewk:∀a∈EN++Cb,a.at b->R.aH<=k->bL g k b\/(s.fl<=k/\∃o',s.fl<=o'/\bL g o' b)\/w.heap.size<=b:=by
    intro a ha K hk';obtain⟨a',ha',hb'⟩|hge:=q11 a ha b K
    let ⟨o',ho',Xk⟩:=E3 a' ha' b hb'
    obtain Xk|hge:=C.own o' b Xk
    grind
    omega;omega
   obtain F|⟨h1,a,ha,K⟩:=hu.own k b F
   obtain F|⟨h1,a,ha,K⟩:=hp.own k b F
   obtain F|hge:=C.own k b (SR k b (afW k b F))
   exact .inl F;omega
   grind
   have:=hp.aH
   grind
  refine⟨g5,AK asd,hu.rel,⟨λo b l=>?_,λo e y hl hy=>?_,λb l=>?_,q4,λb l hno=>?_,λo b u F=>?_,λb l=>?_,q6,q7⟩,?_,?_,?_,λo u=>?_,λo hl u=>?_,λt v ht hm=>?_,λo u=>?_,λo u=>?_,λo u=>?_⟩;rw[hu.bX,hp.bX];exact C.bX o b l;have hno:o∉A:=λhm=>by grind
  have h1:({z.drop A with bF:=I'}:Gh).arr o e=Z y:=by show(if o∈A then Y else z.arr o e)=Z y;rw[bS hno];exact C.arr o e y hy
  exact hle.arr o e y h1;rw[afZ];exact q1 b (C.bF b l);refine q5 b l (λhm=>?_) (λa ha K=>?_)
  let ⟨o,u,lV⟩:=ah9 b hm
  obtain F|hge:=C.own o b (hOb o b lV)
  simp_all
  omega
  let ⟨o,u,F⟩:=E3 a ha b K
  obtain F|hge:=C.own o b F
  simp_all
  omega
  grind
  rw[afZ]at l;obtain h|h|⟨a,ha,K⟩:=q2 b l
  exact C.oN b h;omega
  let ⟨o,u,F⟩:=E3 a ha b K
  obtain F|hge:=C.own o b F
  grind
  omega;exact hu.fl.trans (hp.fl.trans (t1.trans f1));exact hu.lo.trans (hp.lo.trans (t2.trans f2));omega;rw[hu.wr];exact hp.uF o (t4 o (e9 _ (f4 o u)));rw[hu.wr]at u;have h1:o∉bs:=λhm=>u (hp.wrb o hm);have h2:o∉sF.wr:=λhm=>u (hp.uF o hm);have h3:o∉R.wr:=λhm=>h2 (t4 o (e9 _ hm));rw[hu.ob o (by have:=hp.aH;omega),hp.ob o (by omega) h1,amk,bS h1,PE _ _ _ h2];exact f5 o h3;have h1:=ht.ext C hs.bF;have h2:=h1.drop hm;have hkp:kg (z.drop A).bF w w':=λb l=>q5 b (q.bF b l) (λhmm=>(aib b hmm).2.1 l) (λa ha K=>hni a ha b K l);have h3:aL ({z.drop A with bF:=I'}:Gh) w' t v:=by
   clear hm h1 ht
   induction h2 with|sym d v hd=>exact .sym d v (hd.mono hkp q1)|kb b=>exact .kb b|kn k n=>exact .kn k n|ptr o off b l=>exact .ptr o off b l|mD d off ad val Va hc hd=>exact .mD d off ad val (q1 _ Va) (λj c hj=>by rw[hkp.cell (by rw[lC];exact Va)];grind) (λj c hj=>(hd j c hj).mono hkp q1)|mC o e i off len cap sz ad hx=>exact .mC o e i off len cap sz ad hx|sh o e len cap sz a hx=>exact .sh o e len cap sz a hx|emp a=>exact .emp a|kR n es a hn hd=>exact .kR n es a hn (hd.mono hkp q1)|fn f fs cs va vc hl hm _ _ ih ih'=>exact .fn f fs cs va vc hl hm ih ih'|dn t x v _ ih=>exact .dn t x v ih|agg cs vs hl _ ih=>exact .agg cs vs hl ih|gX cs vs hl _ ih=>exact .gX cs vs hl ih|gd c t v _ ih=>exact .gd c t v ih|mp o b l=>exact .mp o b l|r9 o b l=>exact .r9 o b l|uH o b l=>exact .uH o b l|ub e b h=>exact .ub e b h|sV o m r i len cap sz a hx=>exact .sV o m r i len cap sz a hx|qx j d c a hj hd=>exact .qx j d c a hj (hd.mono hkp q1)
  exact h3.le hle;rw[hu.wr];exact hp.uF o (t4 o (gf _ u));rw[hu.dr,hp.dr];show o∈sF.dr
  grind
  rw[hu.dr,hp.dr];show o∈sF.dr
  grind
 refine⟨Xf.1,(Xf.2 x r hF z.bF w vs al bl E q.bF amF aep aib).mono λe w' he=>?_⟩;cases e with
 |outgrown=>exact he.elim|returned v=>
  simp[yN]at he;split at he;rotate_left;exact he.elim;rename_i hr';rw[hr']at h2;dsimp only at h2;split at h2;cases h2;rename_i s2 hput;obtain⟨hlt,hk⟩|⟨_,hk⟩:=ah h2
  rotate_left;cases hk
  grind[Nat.le_of_ble_eq_true]
 |panicked ch=>
  simp[yN]at he;split at he;exact he.elim;rename_i p hp;obtain⟨v,rfl,he⟩:=he;rw[hp]at h2;dsimp only at h2;split at h2;cases h2;rename_i s2 hput;split at h2;rotate_left;cases h2;obtain⟨hlt,hk⟩|⟨_,hk⟩:=ah h2
  rotate_left;cases hk
  let ⟨g5,k1,k2⟩:=core [.dat S.pt] ((p.1,()),p.2) s2 hput (gY hlt) v w' he
  exact⟨v,_,_,g5,rfl,hk,k1,k2⟩
end
section
structure rZ(s s':bx S):Prop where
 uF:∀o∈s.wr,o∈s'.wr
 same:∀o,o<s.aH->o∉s'.wr->s'.ob.get o=s.ob.get o
 dr:s'.dr=s.dr
theorem rZ.refl(s:bx S):rZ s s:=⟨λ_ h=>h,λ_ _ _=>rfl,rfl⟩
variable {s s':bx S}{v:V S}{c:aa}{E:gC}
def cU.lF{g g':Gh}{w w':az}(hs:bg g (aF s) w)(h1:bg g' (aF s') w')(h2:Ext s.fl g w g' w')(h3:s'.fl=s.fl)(h4:s'.lo=s.lo)(h5:s.aH<=s'.aH)(h6:rZ s s'):cU [] s g w s' g' w':=
 ⟨h1,h2.Jn _,h3,h4,h5,h6.uF,h6.same,λ_ _ b _=>b.ext h2 hs.bF,λo a=>(by cases a),λo a=>h6.dr▸a,λo a=>(by cases a)⟩
theorem cU.refl{g:Gh}{w:az}{s:bx S}(hs:bg g (aF s) w):cU [] s g w s g w:=
 cU.lF hs hs (Ext.refl _ _ _) rfl rfl (eP _) (rZ.refl _)
def jF(s:bx S)(ob:vO S)(hn:s.aH<bO):rZ s (dy s ob):=
 ⟨λ_ h=>h,λo a _=>by simp[dy];rw[Tr.aX _ _ _ _ hn,bS (by omega)],rfl⟩
def mR{os:L Nat}(h:dZ s os=Z s'):rZ s s':=by
 let ⟨_,_,_,h1,h2,_,h3⟩:=eS h
 exact⟨h1,λo _ a=>h2 o a,h3⟩
def p9(s:bx S)(o:Nat)(ob:vO S):rZ s {s with ob:=s.ob.set aP o ob,wr:=o::s.wr}:=
 ⟨λ_ h=>ie _ h,λk _ a=>Tr.dK _ _ _ _ _ (λe=>a (by simp_all)),rfl⟩
def rZ.trans'{a:bx S}(h:rZ s s')(hn:s.aH<=s'.aH)(k:rZ s' a):rZ s a:=
 ⟨λo c=>k.uF o (h.uF o c),λo c b=>(k.same o (iW c hn) b).trans (h.same o c (λd=>b (k.uF o d))),k.dr.trans h.dr⟩
theorem RC{i:TI}{s s':bx S}{a x v:V S}{c:aa}(h:Ge i s a x=Z (c,v,s')):rZ s s':=by
 unfold Ge at h;split at h;cases h;split at h;split at h;obtain⟨_,h⟩|⟨_,h⟩:=ah h
 obtain⟨_,_,rfl⟩:=h;exact p9 _ _ _;cases h;cases h;(iterate 3 split at h);rename_i b;split at h;split at h;obtain⟨_,h⟩|⟨_,h⟩:=ah h
 obtain⟨_,_,rfl⟩:=h;exact(mR b).trans' (Ee (eS b).2.2.1.symm) (p9 _ _ _);iterate 7 cases h
def Gj{i:TI}{τ:O Ty}{x:V S}{l h m:O (V S)}(a:wM i τ s x l h m=Z (c,v,s')):s'=s\/dZ s (OW x)=Z s':=by
 unfold wM at a
 repeat' split at a
 all_goals first
  |(cases a;done)
  |(
    simp only[gV,fH]at a;obtain⟨_,_,rfl⟩:=a;first|exact .inl rfl|(right;assumption))
def Zu{fr:cr S}{o:Op}(h:cP E fr s o=Z (c,v,s')):rZ s s':=by
 have same:s'=s->rZ s s':=λe=>e▸rZ.refl _;cases o with
 |alloc t=>
  simp[cP]at h;split at h;obtain⟨g,h⟩|⟨_,h⟩:=ah h
  obtain⟨_,_,rfl⟩:=h
  simp_all[jF]
  cases h;cases h
 |box t x=>
  simp[cP]at h;split at h;obtain⟨g,h⟩|⟨_,h⟩:=ah h
  simp only[gi,fH]at h;obtain⟨_,_,_,_,rfl⟩:=h
  simp_all[jF]
  cases h;cases h
 |buildSlice t n i=>
  simp only[cP]at h;split at h;split at h;obtain⟨_,h⟩|⟨_,h⟩:=ah h
  split at h;simp only[gi,fH]at h;obtain⟨j,d,_,_,rfl⟩:=h;exact mR d;iterate 4 cases h
 |store t x y=>
  grind[cP,RC]
 |slice t x lo l m=>
  simp[cP]at h;split at h;obtain rfl|h:=Gj h
  grind
  exact mR h;cases h
 |move x=>simp only[cP,gi,fH]at h;grind|assign x=>simp only[cP,gi,fH]at h;grind|pick x y z=>
  simp[cP]at h;split at h;simp only[gi,fH]at h
  grind
  cases h
 |build t i=>
  simp[cP]at h;split at h;split at h;simp only[gi,fH]at h
  grind
  cases h;cases h
 |load t x=>
  simp[cP]at h;split at h;unfold zh at h;split at h;split at h;obtain⟨_,h⟩|⟨_,h⟩:=ah h
  simp only[gi,fH]at h
  grind
  cases h;cases h;simp only[gi,fH]at h
  grind
  split at h;simp at h
  grind
  iterate 3 cases h
 |nilCheck x=>
  simp[cP]at h
  grind
 |binOp op t x y u=>
  simp[cP]at h;split at h;simp only[gi,fH]at h
  grind
  cases h
 |unOp op t x=>
  simp[cP]at h;split at h;simp only[gi,fH]at h
  grind
  cases h
 |convert t u x=>
  grind[cP,Dr]
 |makeInterface t x=>
  simp[cP]at h
  grind
 |makeFunc f a b=>
  simp[cP]at h
  grind
 |extract x k=>
  grind[cP,vo]
 |fieldAddr t x k=>
  grind[cP,rM]
 |field t x k=>
  simp[cP]at h;split at h;unfold Dd at h;split at h;split at h;obtain⟨_,h⟩|⟨_,h⟩:=ah h
  simp only[gi,fH]at h
  grind
  iterate 4 cases h
 |indexAddr t x y=>
  simp[cP]at h;split at h;unfold kH at h;split at h
  grind
  have:=EL h
  grind
  cases h;cases h
 |index t x y=>
  simp[cP]at h;split at h;unfold CU at h
  grind
  cases h
 |typeAssert x t u ok=>
  grind[cP,xJ]
 |_=>simp[cP]at h
def JH{b:Builtin}{d:Array TypeId}{args:L (V S)}(h:iE E s b d args=Z (c,v,s')):rZ s s':=by
 unfold iE at h;(iterate 3 split at h);obtain⟨_,_,rfl⟩:=h;exact rZ.refl _;cases h;split at h;simp only[gi,fH]at h;obtain⟨_,_,_,_,rfl⟩:=h;exact rZ.refl _;cases h;cases h;(iterate 3 split at h);obtain⟨_,h⟩|⟨e,h⟩:=ah h
 cases h;have a:s.aH<bO:=by
  have:Nt s.aH bO=W:=by simpa using e
  exact gY this
 split at h;split at h;obtain⟨_,_,rfl⟩:=h;exact jF _ _ a;split at h;split at h;obtain⟨_,_,rfl⟩:=h;exact jF _ _ a;obtain⟨_,_,rfl⟩:=h;exact rZ.refl _;cases h;split at h;split at h;obtain⟨_,h⟩|⟨_,h⟩:=ah h
 obtain⟨_,_,rfl⟩:=h;exact p9 _ _ _;iterate 9 cases h
end
section
variable {g:Gh}{w w':az}
variable {s:St}{o b c:Nat}{ob:Ob}{kt:Ty}{u z:aD}{ms:Array MapEntry}
def bg.setObj(hs:bg g s w)(n:g.bX o=Z b){ob':Ob}(l:s.ob.get o=Z ob)(p:ob.odd=W)(v:s.fl<=o){x':Obj}(C:g8 g w ob' x')
  (y:w'.heap.size=w.heap.size) (c:∀d,d≠b->w'.heap[d]?=w.heap[d]?) (q:w'.heap[b]?=Z x') (z:w'.os=w.os) (r:w'.output=w.output) :
  bg g {s with ob:=s.ob.set aP o ob'} w'/\Ext s.fl g w g w':=by
 have f:bL g o b:=⟨(hs.box o b n).1,.inl n⟩;have m:o<bO:=iW (hs.lt n) hs.aH;have u:Ext s.fl g w g w':=
  ⟨λ_ _ h=>h,λ_ _ _ h=>h,λ_ h=>h,by omega,λd _ E=>c d (λe=>E o v (e▸f)),λ_ _ h=>.inl h,λ_ h=>.inl h,z,r⟩
 refine⟨⟨hs.aH,hs.aj,λj d a=>?_,λj e x A=>?_,λd a=>by have:=hs.bF d a;omega,hs.kj⟩,u⟩;by_cases i:j=o;subst i;rw[n]at a;simp at a;subst a
 let ⟨h1,h2,_⟩:=hs.box j b n
 refine⟨h1,by omega,λF k=>⟨x',q,?_⟩⟩;rw[Tr.aX _ _ _ _ m,bH rfl]at k;obtain rfl:=ko k;exact C.ext u hs.bF;have B:d≠b:=λe=>i (hs.kj j o b (e▸⟨(hs.box j d a).1,.inl a⟩) f);exact(hs.box j d a).ext u hs.bF (c d B) (by simp;rw[Tr.aX _ _ _ _ m,bS i]) (hs.box j d a).1
 .have i:j≠o:=by
   rintro rfl
   have h4:=((hs.arr j e x A).2 _ l).oM;cases ob<;>first|(cases p;done)|(cases h4;done)
  refine(hs.arr j e x A).ext u hs.bF (λd a I=>⟨c d ?_,wu⟩) (by simp;rw[Tr.aX _ _ _ _ m,bS i]) rfl
  rintro rfl
  by_cases t:g.bF d;exact f.1 t;exact i (hs.kj j o d ⟨t,.inr ⟨e,x,_,A,a,rfl,I⟩⟩ f)
def bg.aph(hs:bg g s w)(m:g.bX o=Z b)(l:s.ob.get o=Z ob)(n:ob.odd=W)(r:s.fl<=o)
  (t:w'.heap.size=w.heap.size) (c:∀d,d≠b->w'.heap[d]?=w.heap[d]?) (u:w'.os=w.os) (p:w'.output=w.output) :
  bg g {s with ob:=s.ob.del aP o} w'/\Ext s.fl g w g w':=by
 have f:bL g o b:=⟨(hs.box o b m).1,.inl m⟩;have B:o<bO:=iW (hs.lt m) hs.aH;have eu:∀k,(s.ob.del aP o).get k=if k=o then Y else s.ob.get k:=λk=>Tr.sy _ _ _ _ (by grind[aP,bO])
 have v:Ext s.fl g w g w':=
  ⟨λ_ _ h=>h,λ_ _ _ h=>h,λ_ h=>h,by omega,λd _ C=>c d (λe=>C o r (e▸f)),λ_ _ h=>.inl h,λ_ h=>.inl h,u,p⟩
 refine⟨⟨hs.aH,hs.aj,λj d a=>?_,λj e x y=>?_,λd a=>by have:=hs.bF d a;omega,hs.kj⟩,v⟩;by_cases i:j=o;subst i;rw[m]at a;simp at a;subst a
 let ⟨h1,h2,_⟩:=hs.box j b m
 refine⟨h1,by omega,λE A=>?_⟩
 simp_all
 have z:d≠b:=λe=>i (hs.kj j o b (e▸⟨(hs.box j d a).1,.inl a⟩) f);exact(hs.box j d a).ext v hs.bF (c d z) (by simp;rw[eu,bS i]) (hs.box j d a).1
 .have i:j≠o:=by
   rintro rfl
   have h4:=((hs.arr j e x y).2 _ l).oM;cases ob<;>first|(cases n;done)|(cases h4;done)
  refine(hs.arr j e x y).ext v hs.bF (λd a F=>⟨c d ?_,wu⟩) (by simp;rw[eu,bS i]) rfl
  rintro rfl
  by_cases q:g.bF d;exact f.1 q;exact i (hs.kj j o d ⟨q,.inr ⟨e,x,_,y,a,rfl,F⟩⟩ f)
def fD:(kt:Ty)->den S.A kt->aD
 |.int k,n=>.int k n|.bool,b=>.bool b|.str,s=>.string (cY s)|_,_=>undef
def iH:Ty->TypeDesc->Prop
 |.int k,d=>d=.int k|.bool,d=>d=.bool|.str,d=>d=.string|_,_=>False
def rI{v:V S}{k:den S.A kt}(h:W0 kt v=Z k)(c:aL g w (low v) u):u=fD kt k:=by
 cases kt with
 |int j=>
  let ⟨p,b,a⟩:=gN (show ia j v=Z k from h)
  exact dY b a c
 |bool=>
  let ⟨p,b,a⟩:=mS (show iI v=Z k from h)
  exact jC b a c
 |str=>
  let ⟨p,b,a⟩:=lX (show wL v=Z k from h)
  exact iO b a c
 |_=>cases h
def U0{k:den S.A kt}{d:TypeDesc}(a:iH kt d)(b:aL g w (ek S kt k) u):u=fD kt k:=by
 cases kt with
 |int j=>cases b with|sym _ _ a=>cases a;rfl
 |bool=>cases b with|sym _ _ a=>cases a;rfl
 |str=>cases b with|sym _ _ a=>cases a;rfl
 |_=>cases a
def adO{k:den S.A kt}{d:TypeDesc}(a:iH kt d):aL g w (ek S kt k) (fD kt k):=by cases kt with|int j=>exact .sym _ _ (.lit _)|bool=>exact .sym _ _ (.lit _)|str=>exact .sym _ _ (.lit _)|_=>cases a
def Oh{d:TypeDesc}(c:iH kt d)(a b:den S.A kt):Instr.sameNow d (fD kt a) (fD kt b)=Z (HC kt a b):=by
 cases kt with
 |int j=>cases c;simp[Instr.sameNow,fD,HC,af]
 |bool=>cases c;rfl
 |str=>
  cases c;have:=CC a b
  grind[VR,Instr.sameNow,fD,HC]
 |_=>cases c
theorem LV{kt:Ty}{d:TypeDesc}(c:iH kt d){a b:den S.A kt}(h:HC kt a b=W)(n:Nat):Instr.sameBits n (fD kt b) (fD kt a)=W:=by
 cases kt with
 |int j=>
  have:a=b:=by simpa[HC,af]using h
  subst this;cases n<;>simp[Instr.sameBits,fD]
 |bool=>
  have:a=b:=by simpa[HC,pZ]using h
  subst this;cases n<;>simp[Instr.sameBits,fD]
 |str=>
  have:a=b:=by simpa[HC,gZ]using h
  subst this;have e:(cY a==cY a)=W:=by
   have:=CC a a
   grind[VR,gZ]
  cases n<;>simp[Instr.sameBits,fD,e]
 |_=>cases c
def Es{A:Nat->Type}{β:Type}(kt:Ty)(k:den A kt):L (den A kt×β)->O Nat
 |[]=>Y|p::l=>bif HC kt k p.1 then Z 0 else(Es kt k l).map Ns
def HG{β:Type}{kt:Ty}{k:den S.A kt}:∀{l:L (den S.A kt×β)},Es kt k l=Y->(∀z,FE kt z k l=z)/\HQ kt k l=J/\∀x,jK kt k x l=l++[(k,x)]
 |[],_=>⟨λ_=>rfl,rfl,λ_=>rfl⟩|p::l,h=>by
  simp[Es]at h;cases a:HC kt k p.1 with
  |true=>simp_all|false=>
   rw[a]at h;obtain⟨h1,h2,h3⟩:=HG (l:=l) (by simpa using h)
   grind[FE,HQ,jK]
def w7{β:Type}{kt:Ty}{k:den S.A kt}:∀{l:L (den S.A kt×β)}{j:Nat},Es kt k l=Z j->∃p,l[j]?=Z p/\HC kt k p.1=W/\(∀z,FE kt z k l=p.2)/\HQ kt k l=W/\∀x,jK kt k x l=l.set j (k,x)
 |[],j,h=>by cases h
 |p::l,j,h=>by
  simp[Es]at h;cases a:HC kt k p.1 with
  |true=>rw[a]at h;simp at h;subst h;exact⟨p,rfl,a,λz=>by simp[FE,a],by simp[HQ,a],λx=>by simp[jK,a]⟩
  |false=>
   rw[a]at h;simp only[jP,gi]at h;obtain⟨i,b,rfl⟩:=h
   let ⟨q,h1,h2,h3,h4,h5⟩:=w7 b
   exact⟨q,by simpa using h1,h2,λz=>by simp[FE,a,h3],by simp[HQ,h4],λx=>by simp[jK,a,h5]⟩
def Vm{β:Type}{kt:Ty}{k:den S.A kt}:∀{l:L (den S.A kt×β)},MY kt k l=match Es kt k l with|some j=>l.eraseIdx j|none=>l
 |[]=>rfl|p::l=>by simp only[MY,Es];cases a:HC kt k p.1 with|true=>rfl|false=>simp only[jP,Vm (l:=l)];cases Es kt k l<;>rfl
def zi{β:Type}{kt:Ty}{d:TypeDesc}(b:iH kt d)(k:den S.A kt):∀(l:L (den S.A kt×β))(es:L MapEntry)(i:Nat),es.length=l.length->
  (∀(j:Nat)p m,l[j]?=Z p->es[j]?=Z m->m.key=fD kt p.1)->Instr.findNow d (fD kt k) es i=Z ((Es kt k l).bind λj=>(es[j]?).map λm=>(i+j,m.val))
 |[],[],i,_,_=>rfl|p::l,m::es,i,a,c=>by
  simp[Instr.findNow,c 0 p m rfl rfl,Oh b];cases e:HC kt k p.1 with
  |true=>simp[Es,e]|false=>
   rw[zi b k l es (i+1) (by simpa using a) (λj f g h1 h2=>c (j+1) f g (by simpa using h1) (by simpa using h2))];simp only[Es,e,jP];cases Es kt k l with
   |none=>rfl|some j=>
    simp
    congr 1
    funext m
    rw[Nat.add_assoc,Nat.add_comm 1 j]
 |[],_::_,_,a,_=>by simp at a
 |_::_,[],_,a,_=>by simp at a
variable {P:cV}
def Js{d:TypeDesc}(a:iH kt d){t:TypeId}(c:P.underlying t=Z d)(b:aa)(n:Nat)(v:aD)(w:az):(Instr.checkKey b (n+1) t v).run P w=.ok () w:=by
 cases kt with
 |int j=>cases a;simp_all[Instr.checkKey,aO]
 |bool=>cases a;simp_all[Instr.checkKey,aO]
 |str=>cases a;simp_all[Instr.checkKey,aO]
 |_=>cases a
def run_checkKey{d:TypeDesc}(a:iH kt d){t:TypeId}(c:P.underlying t=Z d)(b:aa)(v:aD)(w:az):(Instr.checkKey b 10000 t v).run P w=.ok () w:=
 Js a c b 9999 v w
def run_findKey{β:Type}{d:TypeDesc}(a:iH kt d){t:TypeId}(c:P.underlying t=Z d)(k:den S.A kt){l:L (den S.A kt×β)}{es:L MapEntry}(hl:es.length=l.length)
  (b:∀(j:Nat)p m,l[j]?=Z p->es[j]?=Z m->m.key=fD kt p.1) (w:az) :
  (Instr.findKey t (fD kt k) es).run P w=.ok ((Es kt k l).bind λj=>(es[j]?).map λm=>(j,m.val)) w:=by
 have:=zi a k l es 0 hl b
 simp_all[Instr.findKey,aO]
def nT(h:w.heap[b]?=Z (.map ms c)):(getObj b).run P w=.ok (.map ms c) w:=by simp[getObj,Sem.run,h]
def uM(o:Obj)(h:w.heap[b]?=Z (.map ms c)):(setObj b o).run P w=.ok () {w with heap:=w.heap.setIfInBounds b o}:=by simp[setObj,Sem.run,h]
def zM{β:Type}{d:TypeDesc}(f:iH kt d){t a e:TypeId}{g:TypeInfo}(q:P.underlying t=Z (.map a e))(i:P.underlying a=Z d)(hi:P.info? e=Z g)(n:g.zero=Z z)
  (k:den S.A kt) {l:L (den S.A kt×β)} {b c:Nat} {ms:Array MapEntry} (h:w.heap[b]?=Z (.map ms c)) (hl:l.length=ms.size) (r:∀(j:Nat)p m,l[j]?=Z p->ms[j]?=Z m->m.key=fD kt p.1) (ok:aa) :
  (Instr.lookup t (.map (Z b)) (fD kt k) ok).run P w=.ok (match(Es kt k l).bind λj=>(ms[j]?).map (·.val)with
   |some v=>if ok then .tuple #[v,.bool W]else v|none=>if ok then .tuple #[z,.bool J]else z) w:=by
 have s:=run_findKey (P:=P) f i k (l:=l) (es:=ms.toList) (by grind) (λj p m h1 h2=>r j p m h1 (by simpa using h2)) w;simp only[Instr.lookup,run_bind,aO q,andThen_ok,nT h,run_checkKey f i,s,run_pure];cases u:Es kt k l with
 |none=>simp[eB hi n]|some j=>
  cases o:ms[j]? with|none=>simp[o,eB hi n]|some m=>simp[o]
def Gt{d:TypeDesc}(b:iH kt d){t a e:TypeId}{c:TypeInfo}(g:P.underlying t=Z (.map a e))(f:P.underlying a=Z d)(hi:P.info? e=Z c)(h:c.zero=Z z)
  (k:den S.A kt) (ok:aa):(Instr.lookup t (.map Y) (fD kt k) ok).run P w=.ok (if ok then .tuple #[z,.bool J]else z) w:=by
 have i:=run_findKey (P:=P) (β:=U) b f k (l:=[]) (es:=[]) rfl (λj p m h1=>by simp at h1) w;simp only[Instr.lookup,run_bind,aO g,andThen_ok,run_checkKey b f,run_pure]
 simp_all[eB]
end
section
variable {g:Gh}{w w':az}{P:cV}
def Ff{β:Type}(kt:Ty)(R:β->aD->Prop)(l:L (den S.A kt×β))(ms:Array MapEntry):Prop:=
 l.length=ms.size/\∀(j:Nat)p m,l[j]?=Z p->ms[j]?=Z m->m.key=fD kt p.1/\R p.2 m.val
variable {kt kt':Ty}{ms:Array MapEntry}
def y9{β:Type}{R:β->aD->Prop}{d:TypeDesc}(r:iH kt d){t a e:TypeId}(z:P.underlying t=Z (.map a e))(s:P.underlying a=Z d)
  (k:den S.A kt) {l:L (den S.A kt×β)} {b c:Nat} {ms:Array MapEntry} (h:w.heap[b]?=Z (.map ms c)) (C:Ff kt R l ms) {x:β} {v:aD} (hx:R x v) :
  ∃g E,(Instr.mapUpdate t (.map (Z b)) (fD kt k) v).run P w=.ok () {w with heap:=w.heap.setIfInBounds b (.map g E)}/\Ff kt R (jK kt k x l) g:=by
 let ⟨hl,F⟩:=C
 have A:=run_findKey (P:=P) r s k (l:=l) (es:=ms.toList) (by grind) (λj p m h1 h2=>(F j p m h1 (by simpa using h2)).1) w;cases f:Es kt k l with
 |none=>
  let ⟨_,_,o⟩:=HG f
  rw[f]at A;refine⟨ms.push {key:=fD kt k,val:=v,born:=c},c+1,?_,by simp_all,λj p m h1 h2=>?_⟩;simp[Instr.mapUpdate,run_bind,aO z,andThen_ok,nT h,run_checkKey r s,A,Option.bind_none,uM _ h]
  grind
 |some i=>
  let ⟨p,hp,I,_,_,o⟩:=w7 f
  have K:i<ms.size:=by grind
  obtain⟨m,hm⟩:∃m,ms[i]?=Z m:=⟨ms[i],uS K⟩;have u:(Instr.findKey a (fD kt k) ms.toList).run P w=.ok (Z (i,m.val)) w:=by
   simp_all
  refine⟨ms.modify i λe=>{e with key:=fD kt k,val:=v},c,?_,by simp_all,λj q n h1 h2=>?_⟩;have hsb:Instr.sameBits 10000 m.key (fD kt k)=W:=by grind[LV]
  have y:(Instr.keyThatStays m.key (fD kt k)).run P w=.ok (fD kt k) w:=by
   simp_all[Instr.keyThatStays]
  simp[Instr.mapUpdate,run_bind,aO z,andThen_ok,nT h,run_checkKey r s,u,hm,jQ,RY,y,uM _ h]
  grind
def RN{β:Type}{R:β->aD->Prop}{d:TypeDesc}(u:iH kt d){t a e:TypeId}(y:P.underlying t=Z (.map a e))(v:P.underlying a=Z d)
  (k:den S.A kt) {l:L (den S.A kt×β)} {b c:Nat} {ms:Array MapEntry} (h:w.heap[b]?=Z (.map ms c)) (C:Ff kt R l ms) {ts:Array TypeId} (f:ts[0]?=Z t) {ty:TypeId} {args:Array aD} (g:args[0]?=Z (.map (Z b))) (o:args[1]?=Z (fD kt k)) :
  ∃r,(Builtin.delete_ ts ty args).run P w=.ok (.tuple #[]) {w with heap:=w.heap.setIfInBounds b (.map r c)}/\Ff kt R (MY kt k l) r:=by
 let ⟨E,z⟩:=C
 have A:=run_findKey (P:=P) u v k (l:=l) (es:=ms.toList) (by grind) (λj p m h1 h2=>(z j p m h1 (by simpa using h2)).1) w;rw[Vm];cases s:Es kt k l with
 |none=>rw[s]at A;refine⟨ms,?_,E,z⟩;simp[Builtin.delete_,run_bind,f,g,o,aO y,andThen_ok,nT h,run_checkKey u v,A,Option.bind_none,uM _ h,run_pure]|some i=>
  let ⟨p,F,_⟩:=w7 s
  have B:i<ms.size:=by grind
  have x:(Instr.findKey a (fD kt k) ms.toList).run P w=.ok (Z (i,ms[i].val)) w:=by
   simp_all
  refine⟨ms.eraseIdxIfInBounds i,?_,?_,λj q n h1 h2=>?_⟩;simp[Builtin.delete_,run_bind,f,g,o,aO y,andThen_ok,nT h,run_checkKey u v,x,uM _ h,run_pure];simp only[Array.eraseIdxIfInBounds,B,dite_true,Array.size_eraseIdx,List.length_eraseIdx]
  grind
  simp only[Array.eraseIdxIfInBounds,B,dite_true,Array.getElem?_eraseIdx,List.getElem?_eraseIdx]at h1 h2
  grind
def g8.N6{β:Type}{d:TypeDesc}(a:iH kt d){f:β->T}{l:L (den S.A kt×β)}{x:Obj}(h:g8 g w (.map (l.map λp=>(ek S kt p.1,f p.2))) x) :
  ∃ms c,x=.map ms c/\Ff kt (λy v=>aL g w (f y) v) l ms:=by
 cases h with|map _ ms c b e=>refine⟨ms,c,rfl,by simpa using b,λj p m h1 h2=>?_⟩;have:=e j (ek S kt p.1,f p.2) m (by simp[h1]) h2;exact⟨U0 a this.1,this.2⟩
def Ff.ob{β:Type}{d:TypeDesc}(a:iH kt d){f:β->T}{l:L (den S.A kt×β)}(h:Ff kt (λy v=>aL g w (f y) v) l ms)(c:Nat):g8 g w (.map (l.map λp=>(ek S kt p.1,f p.2))) (.map ms c):=by
 refine .map _ ms c (by simpa using h.1) λj t m h1 h2=>?_;simp only[lK,gi]at h1;obtain⟨p,b,rfl⟩:=h1
 let ⟨h3,h4⟩:=h.2 j p m b h2
 rw[h3];exact⟨adO a,h4⟩
def Tv(S:Sg)(i:TI)(τ:Ty):Prop:=bif lf τ then D.agg i.zero=enc S τ (S.zero τ)else i.zero=[enc S τ (S.zero τ)]
def JW{I:Nat->Prop}(q:fE S){t:TypeId}{i:TI}(hi:nH P t i){τ:Ty}(r:zw S i τ)(d:Tv S i τ){x:TypeInfo}{z:aD}(s:P.info? t=Z x)(f:x.zero=Z z):dP I w (enc S τ (S.zero τ)) z:=by
 let ⟨A,d0,B,g,C,_,y,h,a,_⟩:=hi.all
 rw[s]at g;cases g;rw[f]at h;cases h
 let ⟨m,o⟩:=hi.zag x z s f
 unfold Tv at d;cases b:lf τ with
 |true=>
  rw[b,iq]at d;have k:i.agg=W:=by cases τ with|st n=>exact r.1|_=>cases b
  obtain⟨E,rfl⟩:=m k;rw[<-d];refine .agg _ _ a.1 (λc u=>?_) (λj c v h1 h2=>Cs (a.2 j c v h1 h2));cases τ with
  |st n=>
   have e:i.zero=S.cells n (S.zero (.st n)):=by have:D.agg i.zero=D.agg (S.cells n (S.zero (.st n))):=d;injection this
   rw[e,q.cells]at u;exact iD _ _ (q.leaf n) c u
  |_=>cases b
 |false=>
  rw[b,jP]at d;have l:i.agg=J:=by
   cases τ with
   |st n=>cases b
   |_=>exact r.2.1
  have p:=o l;have:=a.2 0 _ z (by rw[d];rfl) (by rw[p];rfl);exact Cs this
structure XOk(S:Sg)(E:gC):Prop where
 zr:∀t i τ,E.E.ti t=Z i->E.ty t=Z τ->Tv S i τ
 mt:∀t m,E.mt t=Z m->∃kid d,E.E.P.underlying t=Z (.map kid m.el)/\E.E.P.underlying kid=Z d/\iH m.kt d/\(∃x z,E.E.P.info? m.el=Z x/\x.zero=Z z)/\
  ∀vt,m.vt=Z vt->E.ty m.el=Z vt/\∃i,E.E.ti m.el=Z i
 Mu:∀t nm f,E.Mu t nm=Z f->∃x mm d,E.E.P.info? t=Z x/\x.methods.find? (·.name==nm)=Z mm/\mm.path=#[]/\E.E.P.underlying t=Z d/\
  ((mm.func=Z (f,J)/\∀e,d≠.pointer e)\/(mm.func=Z (f,W)/\∃e,d=.pointer e))
def dc{fr:cr S}{a:Act}(hf:cZ g (bM fr) a w){x:Operand}{v:V S}(h:cI fr x=Z v):aL g w (low v) (a.eval x):=bY hf (cH h)
def It{b a:Ty}{l:L (den S.A kt×den S.A b)}{c:L (den S.A kt'×den S.A a)}(h:zm kt b kt' a l=Z c):kt=kt'/\b=a/\HEq l c:=by
 unfold zm at h
 grind
def Iv{β:Type}{l:L (den S.A kt×β)}{a:L (den S.A kt'×β)}(h:Lb kt kt' l=Z a):kt=kt'/\HEq l a:=by
 unfold Lb at h
 grind
def Fo{w:az}{b:Nat}(x:Obj)(c:b<w.heap.size):({w with heap:=w.heap.setIfInBounds b x}:az).heap.size=w.heap.size/\(∀a,a≠b->({w with heap:=w.heap.setIfInBounds b x}:az).heap[a]?=w.heap[a]?)/\
  ({w with heap:=w.heap.setIfInBounds b x}:az).heap[b]?=Z x:=by
 grind
def Hv{β:Type}{f:β->T}{k:den S.A kt}{l:L (den S.A kt×β)}(b:Ff kt (λy v=>aL g w (f y) v) l ms){z:β}{c:aD}(h:aL g w (f z) c) :
  aL g w (f (FE kt z k l)) (((Es kt k l).bind λj=>(ms[j]?).map (·.val)).getD c)/\(((Es kt k l).bind λj=>(ms[j]?).map (·.val)).isSome=HQ kt k l):=by
 cases a:Es kt k l with
 |none=>
  let ⟨h1,h2,_⟩:=HG a
  rw[h1,h2];exact⟨h,rfl⟩
 |some j=>
  let ⟨p,d,_,h1,h2,_⟩:=w7 a
  rw[h1,h2];have i:j<ms.size:=by rw[<-b.1];exact cF d
  have e:ms[j]?=Z ms[j]:=uS i;simp[Ux,e,jQ,RY,Option.isSome_some,and_true];exact(b.2 j p _ d e).2
end
def Di:∀(l:L (TypeId×Ty))(x:yV S.A l),isNil l x=(vA S l x).isNone
 |[],_=>rfl|_::_,.inl _=>rfl|_::l,.inr y=>Di l y
def Ig:∀(l:L (TypeId×Ty))(t:TypeId)(j:Nat)(x:yV S.A l)(z:(t:Ty)->den S.A t),QH l=W->xN l t=Z j->
  (mQ l j x=W/\vA S l x=Z (t,enc S (nL l j) (kK z l j x)))\/(mQ l j x=J/\kK z l j x=z (nL l j)/\∀d,vA S l x≠Z (t,d))
 |[],t,j,x,z,_,h=>by cases h
 |p::l,t,j,x,z,e,h=>by
  simp only[QH,eX]at e;obtain⟨a,h⟩|⟨a,h⟩:=ah h
  .simp at h;subst h;have b:=wA a;cases x with
   |inl y=>left;exact⟨rfl,by simp only[vA,b];rfl⟩
   |inr y=>
    right
    refine⟨rfl,rfl,λd f=>?_⟩;simp[vA]at f;have c:xN l p.1=Y:=by
     simp_all
    exact Dh l y p.1 c d (by grind)
  split at h
  .rename_i i k;simp only[gV]at h;subst h;cases x with
   |inl y=>
    right
    refine⟨rfl,rfl,λd f=>?_⟩
    grind[vA]
   |inr y=>
    obtain⟨h1,h2⟩|⟨h1,h2,h3⟩:=Ig l t i y z e.2 k
    exact .inl ⟨h1,h2⟩;exact .inr ⟨h1,h2,h3⟩
  cases h
where
 Dh:∀(l:L (TypeId×Ty))(x:yV S.A l)(t:TypeId),xN l t=Y->∀d,vA S l x≠Z (t,d)
  |[],_,_,_,_,h=>by cases h
  |p::l,.inl y,t,g,d,h=>by
   simp_all[xN,vA]
  |p::l,.inr y,t,g,d,h=>by
   simp only[xN]at g;cases a:Nq p.1 t with
   |true=>simp_all|false=>
    refine Dh l y t ?_ d h
    grind
section
variable {g:Gh}{w:az}{P:cV}
def FG(e:fE S){n:Nat}{x:S.A n}{v:aD}(h:aL g w (ek S (.dn n) x) v) :
  (vA S (S.alts n) (S.vg n x)=Y/\v=.nilIface)\/∃t d u,vA S (S.alts n) (S.vg n x)=Z (t,d)/\v=.iface t u/\dP g.bF w d u:=by
 have b:aL g w (.sym (Rr (S.sv n x))) v:=h;rw[e.sv]at b;cases b with
 |sym _ _ a=>
  cases c:vA S (S.alts n) (S.vg n x)with
  |none=>
   rw[c]at a;cases a
   simp_all
  |some p=>
   rw[c]at a
   let ⟨t,d⟩:=p
   cases a with|dn _ _ u f=>grind
variable {s:bx S}
def Mx(hs:bg g (aF s) w)(hn:s.aH<bO){t:TypeId}{r:O aD}{a el:TypeId}(f:P.underlying t=Z (.map a el))(d:∀v,r=Z v->∃k n,v=.int k n){ob:vO S}(b:dj ob=.map []) :
  ∃v w' g',(Instr.makeMap t r).run P w=.ok v w'/\aL g' w' (low (.mp s.aH:V S)) v/\cU [] s g w (dy s ob) g' w':=by
 let ⟨c,e⟩:=hs.newObj (ob0:=.map []) (x0:=.map #[] 0) hn (.map [] #[] 0 rfl (λj t m h=>by simp at h))
 refine⟨.map (Z w.heap.size),_,_,?_,.mp _ _ (by simp[Gh.dN,aF]),cU.lF hs (by rw[hU,b];exact c) e rfl rfl (Ed _) (jF s ob hn)⟩;cases r with
 |none=>rfl|some v=>
  obtain⟨k,n,rfl⟩:=d v rfl
  simp_all[Instr.makeMap,aO,asInt,asIntOf]
def RV(hs:bg g (aF s) w)(hn:s.aH<bO){t:TypeId}(c:P.underlying t=Z .string)(b:L UInt8) :
  ∃v w' g',(Instr.range t (.string (cY b))).run P w=.ok v w'/\aL g' w' (low (.uH s.aH:V S)) v/\cU [] s g w (dy s (.r8 b 0)) g' w':=by
 let ⟨a,d⟩:=hs.newObj (ob0:=.r8 (cY b) 0) (x0:=.stringIter (cY b) 0) hn (.r8 _ _)
 refine⟨.pointer (Z ⟨w.heap.size,0,Y⟩),_,_,?_,.uH _ _ (by simp[Gh.dN,aF]),cU.lF hs (by rw[hU];exact a) d rfl rfl (Ed _) (jF s _ hn)⟩;simp[Instr.range,aO c]
def Hs(hS:fE S)(hs:bg g (aF s) w)(hn:s.aH<bO){t:TypeId}{i:TI}(hi:nH P t i){e:Ty}(hr:zw S i (.sl e)){n:Int}(q:Ss n=W)(k1 k2:IntKind) :
  ∃v w' g',(Instr.makeSlice t (.int k1 n) (.int k2 n)).run P w=.ok v w'/\aL g' w' (low (.sh s.aH 0:V S)) v/\cU [] s g w (dy s (.arr e (List.replicate (aC n) (S.zero e)) 0)) g' w':=by
 let ⟨⟨z,r,hz⟩,_,_,u⟩:=hr
 let ⟨xi,d1,z1,Pn,y,_,hag,hzx,CX,hk⟩:=hi.all
 rw[r]at hk;obtain⟨el,j,d',p,rfl,hj,l,hju,aii,A,f,B,hj0,hjb1,hjb2,hjb3,C⟩:=hk;simp[Ss,eX,ri]at q;obtain⟨m,rfl⟩:∃m:Nat,n=(m:Int):=⟨n.toNat,by omega⟩;have hm:m<=17179869184:=by omega
 have hbm:j.bytes*m<=4096*17179869184:=OF B hm;have o:=run_make (P:=P) w t el j p y hj A k1 k2 (m:Int) (m:Int) (by omega) (zd _) (by
  have:((j.bytes*m:Nat):Int)<=281474976710656:=by omega
  rwa [Int.natCast_mul]at this) (by omega)
 have E:(bif lf e then D.agg z else z.getD 0 default)=enc S e (S.zero e):=by
  grind
 have a:=NV (I:=g.bF) (w:=w.alloc (.cells (madeCells p.cells (m*j.size)) el)) (ag:=lf e) (sz:=S.width e) (len:=m) f (by
  cases hst:lf e with
  |true=>rfl|false=>
   simp_all) (by rw[bZ];exact C)
 rw[E]at a;have F:(List.replicate m (S.zero e)).map (enc S e)=List.replicate m (enc S e (S.zero e)):=by simp
 let x:fy:=⟨Z ⟨w.heap.size,0,Y⟩,m,m,S.width e⟩
 have K:∀b,x.at b->b=w.heap.size:=by
  rintro b ⟨ad,h1,h2,_⟩
  grind
 have k:¬g.bF w.heap.size:=λh=>by have:=hs.bF _ h;omega
 let ⟨R,he⟩:=bg.Sq (w':=w.alloc (.cells (madeCells p.cells (m*j.size)) el)) hs hn (sz:=S.width e) (es:=List.replicate m (enc S e (S.zero e))) (x:=x) rfl rfl (by simp) (λb hb=>qN w _ b hb)
  (λb hb=>by rw[K b hb];simp)
  ⟨by simp[x],eP _,a.rows,u,λd hd=>by
    have hde:=Zc hd;rw[hde,Dg hS,List.length_replicate];have:m*An S e<=17179869184*(2*4096):=OF hm (by omega);omega,λhc=>by
    refine⟨w.heap.size,madeCells p.cells (m*j.size),el,rfl,⟨λh=>(by cases h),λh=>absurd h k⟩,yJ w _,by rw[size_madeCells,l];grind,λi d jj c h1 h2=>?_⟩
    let ⟨v,h3,h4⟩:=a.rel i jj d c h1 h2
    refine⟨v,?_,h4⟩;rw[<-l]at h3 ⊢;exact h3⟩ rfl
 refine⟨_,_,_,o,.sh _ _ _ _ (S.width e) _ (Gh.fS _ _ _ _),cU.lF hs ?_ he rfl rfl (Ed _) (jF s _ hn)⟩;rw[hU];simp[dj,aC,uP,F];exact R
end
section
variable {g:Gh}{w:az}
variable {o n:Nat}{v:aD}{P:cV}{i:TI}{a:Act}{s s':bx S}{E:gC}{fr:cr S}{c:aa}{t:V S}
def aL.HI(h:aL g w (.mp o) v):∃b,v=.map (Z b)/\g.bX o=Z b:=by cases h;simp_all
def aL.ad4(h:aL g w (.uH o) v):∃b,v=.pointer (Z ⟨b,0,Y⟩)/\g.bX o=Z b:=by cases h;simp_all
def aL.ahz{k:IntKind}{n:Int}(h:aL g w (.kn k n) v):v=.int k n:=by cases h;rfl
def aL.Bp{u:aD}(h:aL g w (.sym (.lit u)) v):v=u:=by cases h with|sym _ _ a=>cases a;rfl
def aL.U1{cs:L T}(h:aL g w (.agg cs) v):∃vs,v=.agg vs/\PW (aL g w) cs vs.toList:=by cases h with|agg _ vs a b=>exact⟨vs,rfl,by simpa using a,λj t v h1 h2=>b j t v h1 (by simpa using h2)⟩
def J5(P:cV)(d:Nat){ty:TypeId}{a:Array (String×TypeId)}(b:P.underlying ty=Z (.interface a)):(Op.equalIn (d+1) ty .nilIface .nilIface).run P w=.ok W w:=by simp only[Op.equalIn,run_bind,aO b,andThen_ok];rfl
def Wf(P:cV)(d:Nat){ty e:TypeId}(b:P.underlying ty=Z (.slice e))(a:O Addr)(n m:Nat):(Op.equalIn (d+1) ty (.slice a n m) (.slice Y 0 0)).run P w=.ok a.isNone w:=by simp only[Op.equalIn,run_bind,aO b,andThen_ok];cases a<;>rfl
def U3(f:fE S){t:TypeId}(hi:nH P t i)(j:i.kd=.iface){x:S.A n}(h:aL g w (ek S (.dn n) x) v)(a:Operand) :
  ((do eqGuard .eql t a (.const .nilIface) v .nilIface;binOp .eql t v .nilIface:Sem aD)).run P w=.ok (.bool (isNil (S.alts n) (S.vg n x))) w/\
  ((do eqGuard .neq t a (.const .nilIface) v .nilIface;binOp .neq t v .nilIface:Sem aD)).run P w=.ok (.bool (!(isNil (S.alts n) (S.vg n x)))) w:=by
 let ⟨_,d0,_,_,e,_,_,_,_,b⟩:=hi.all
 rw[j]at b;obtain⟨l,rfl⟩:=b;rw[Di];obtain⟨c,rfl⟩|⟨k,d,u,c,rfl,_⟩:=FG f h
 rw[c];refine ou a (.const .nilIface) rfl rfl (λop=>?_) (J5 P 9999 e);unfold eqGuard;cases op<;>cases a<;>rfl;rw[c];refine ou a (.const .nilIface) rfl rfl (λop=>?_) (J6 9999 e k u);unfold eqGuard;cases op<;>rfl
def UP{t:TypeId}(hi:nH P t i)(c:i.kd=.iface)(h:aL g w (.sym (.lit .nilIface)) v)(b:Operand) :
  ((do eqGuard .eql t b (.const .nilIface) v .nilIface;binOp .eql t v .nilIface:Sem aD)).run P w=.ok (.bool W) w/\
  ((do eqGuard .neq t b (.const .nilIface) v .nilIface;binOp .neq t v .nilIface:Sem aD)).run P w=.ok (.bool J) w:=by
 let ⟨_,d0,_,_,d,_,_,_,_,a⟩:=hi.all
 rw[c]at a;obtain⟨e,rfl⟩:=a;cases h with
 |sym _ _ h=>
 cases h;refine ou b (.const .nilIface) rfl rfl (λop=>?_) (J5 P 9999 d);unfold eqGuard;cases op<;>cases b<;>rfl
def Wg(P:cV)(d:Nat){ty e:TypeId}(b:P.underlying ty=Z (.pointer e))(a:O Addr):(Op.equalIn (d+1) ty (.pointer a) (.pointer Y)).run P w=.ok a.isNone w:=by simp only[Op.equalIn,run_bind,aO b,andThen_ok];cases a<;>rfl
def Fw{t:TypeId}(hi:nH P t i)(d:i.kd=.ptr){a:O Addr}(f:v=.pointer a)(c:Operand) :
  ((do eqGuard .eql t c (.const (.pointer Y)) v (.pointer Y);binOp .eql t v (.pointer Y):Sem aD)).run P w=.ok (.bool a.isNone) w/\
  ((do eqGuard .neq t c (.const (.pointer Y)) v (.pointer Y);binOp .neq t v (.pointer Y):Sem aD)).run P w=.ok (.bool (!a.isNone)) w:=by
 subst f
 let ⟨_,d0,_,_,g,_,_,_,_,b⟩:=hi.all
 rw[d]at b;obtain⟨e,rfl⟩:=b;exact ou c (.const (.pointer Y)) rfl rfl (λop=>by cases op<;>rfl) (Wg P 9999 g a)
def Mi{y:O (S.A n)}(h:aL g w (ek S (.opt n) y) v):∃a,v=.pointer a/\AS y=!a.isNone/\(AS y=W->∀z,aL g w (.mD (enc S (.st n) (E4 z y)) 0) v):=by
 cases h with
 |sym _ _ h=>
 cases y with
 |none=>cases h;exact⟨Y,rfl,rfl,λh=>by cases h⟩
 |some x=>
  cases h with|pt _ b val c d e=>exact⟨Z (b.add 0),rfl,rfl,λ_ _=>.mD _ 0 b val c d e⟩
def agR{t:TypeId}(hi:nH P t i){sz s9:Nat}{ag:aa}{z:L D}(d:i.kd=.slice sz ag s9 z)(a:O Addr)(n m:Nat)(c:Operand) :
  ((do eqGuard .eql t c (.const (.slice Y 0 0)) (.slice a n m) (.slice Y 0 0);binOp .eql t (.slice a n m) (.slice Y 0 0):Sem aD)).run P w=.ok (.bool a.isNone) w:=by
 let ⟨_,d0,_,_,e,_,_,_,_,b⟩:=hi.all
 rw[d]at b;obtain⟨el,j,f,g,rfl,_⟩:=b;refine(ou c (.const (.slice Y 0 0)) rfl rfl (λop=>?_) (Wf P 9999 e a n m)).1;unfold eqGuard;cases op<;>rfl
def agS(hs:bg g (aF s) w){e:Ty}{x:V S}{l:L (den S.A e)}(h:LQ s e x=Z l)(q:aL g w (low x) v):∃a n m,v=.slice a n m/\(a.isNone=W->isE l=W):=by
 unfold LQ at h;split at h
 .simp only[gV]at h;subst h;cases q with|emp a=>exact⟨a,0,0,rfl,λ_=>rfl⟩
 .rename_i t C;obtain⟨rfl,i⟩:=fU h;cases i;cases q with
  |kR n R a hn A=>
   refine⟨a,_,_,rfl,λE=>?_⟩;cases A with
   |sl _ _ _ sz val u F I hA K=>
   cases C with
   |nil=>rfl|cons y C=>
    simp_all
 .let ⟨f,i⟩:=fU h
  cases f;cases i;cases q with
  |qx j d c a hj A=>
   refine⟨a,_,_,rfl,λE=>?_⟩
   grind[yF]
 .rename_i t x'
  let ⟨f,i⟩:=fU h
  subst f;cases i;cases q with
  |sym _ _ A=>
   cases A with
   |sl _ a cap sz val u F I hA K=>
   refine⟨a,_,_,rfl,λE=>?_⟩;cases x' with
   |nil=>rfl|cons y C=>
    simp_all
 rename_i o r;have key:∀(B:aa)(t:Ty)(k:L (den S.A t))(era:Nat),s.ob.get o=Z (if B then .lW t k era else .arr t k era)->(bif Nq r era then oX t e k else Y)=Z l->∃a n m,v=.slice a n m/\(a.isNone=W->isE l=W):=by
  intro B t k era ho h;obtain⟨hb,h⟩|⟨_,h⟩:=ah h
  .let ⟨f,i⟩:=fU h
   subst f;cases i;have P:=beq_iff'.1 hb;subst P;cases q with
   |sh _ _ len cap sz a hx=>
    have z:(aF s).ob.get o=Z (gz B (S.width t) (k.map (enc S t)) r):=by rw[aN,ho];cases B<;>rfl
    let ⟨p,_⟩:=hs.oc z hx
    refine⟨a,len,cap,rfl,λE=>?_⟩;cases k with
    |nil=>rfl|cons y k=>
     have h1:=p.len;have h2:=p.cap;have K:(⟨a,len,cap,sz⟩:fy).cap≠0:=by grind
     let ⟨b,vs,ty,h3,_⟩:=p.mem K
     simp_all
  cases h
 split at h
 simp_all
 simp_all
 cases h;cases h
def Kt(hX:XOk S E)(hS:fE S)(hf:cZ g (bM fr) a w)(hs:bg g (aF s) w)(o:Oper){ty:TypeId}{x ix y:Operand}(A:o.op=.mapUpdate ty x ix y\/o.op=.insert ty x ix y)
  (h:(match E.mt ty,cI fr x,cI fr ix,cI fr y with
  |some m,Z (.mp o),Z k,Z y=>match W0 m.kt k,s.ob.get o with
   |some k,Z (.map kt q l)=>match zm kt q m.kt q l,ck s q y with
    |some l,Z (y,os)=>match dZ s os with
     |some s1=>bif Nl s.fl o&&acR m.vt q then Z (W,(eA:V S),{s1 with ob:=s1.ob.set aP o (.map m.kt q (jK m.kt k y l)),wr:=o::s1.wr})else Y
     |none=>Y
    |_,_=>Y
   |some k,Z (.Jh kt l)=>match Lb kt m.kt l with
    |some l=>bif Nl s.fl o then Z (W,eA,{s with ob:=s.ob.set aP o (.Jh m.kt (jK m.kt k y l)),wr:=o::s.wr})else Y
    |none=>Y
   |_,_=>Y
  |_,_,_,_=>Y)=Z (c,t,s')) :
  ∃v w' g',((execOp a.eval o).run E.E.P w=.ok (.value v) w'\/((execOp a.eval o).run E.E.P w=.ok .skip w'/\v=undef))/\aL g' w' (low t) v/\cU [] s g w s' g' w':=by
 split at h;rotate_left;cases h;rename_i m e kv yv hm hx hk hy
 let ⟨kid,d,ht,hu,n,_,_⟩:=hX.mt _ _ hm
 let ⟨b,hxe,hb⟩:=aL.HI (dc hf hx)
 have j:∀w',(Instr.mapUpdate ty (a.eval x) (a.eval ix) (a.eval y)).run E.E.P w=.ok () w'->(execOp a.eval o).run E.E.P w=.ok .skip w':=by intro w' hr;obtain A|A:=A<;>simp[execOp,A,hr]
 split at h
 .rename_i k kt q l r B;have X9:=rI r (dc hf hk);split at h;rotate_left;cases h;rename_i l' y' os hcm MJ;obtain⟨rfl,_,K⟩:=It hcm;cases K;split at h;rotate_left;cases h;rename_i s1 R;obtain⟨C,h9⟩|⟨_,h9⟩:=ah h
  rotate_left;cases h9;clear h;obtain⟨_,rfl,rfl⟩:=h9;rw[eX]at C;have hfl:s.fl<=e:=gY C.1
  let ⟨p,hp,hpp⟩:=qT hS s q yv MJ
  let ⟨u,hd⟩:=mH hs _ hp hpp (dc hf hy)
  let ⟨g1,F,he1,hfr⟩:=eK os hs (dG hS _ R) u
  have hyd:=hd g1 _ F he1 hfr
  let ⟨f1,f2,f3,f4,f5,f6,f7⟩:=eS R
  have hno:e∉os:=λhmem=>by have:=(u e hmem).oM (by rw[aN,B];rfl);cases this
  have i:(aF s1).ob.get e=Z (dj (.map m.kt q l')):=by rw[aN,f6 e hno,B];rfl
  have AF:g1.bX e=Z b:=he1.bX _ _ hb
  let ⟨x0,hh,hor⟩:=(F.box e b AF).2.2 _ i
  obtain⟨ms,cl,rfl,hmr⟩:=g8.N6 n (f:=ek S q) hor
  let ⟨ms',c',I,z⟩:=y9 (P:=E.E.P) n ht hu k hh hmr (x:=y') (uK hyd)
  have hlt:=(F.box e b AF).2.1
  let ⟨q1,q2,q3⟩:=Fo (.map ms' c') hlt
  let ⟨NR,Xe⟩:=F.setObj AF i rfl (by show s1.fl<=e;omega) (ob':=dj (.map m.kt q (jK m.kt k y' l'))) (Ff.ob n (f:=ek S q) z c') q1 q2 q3 rfl rfl
  have asE:rZ s {s1 with ob:=s1.ob.set aP e (.map m.kt q (jK m.kt k y' l')),wr:=e::s1.wr}:=(mR R).trans' (Ee f3.symm) (p9 _ _ _);refine⟨undef,_,g1,.inr ⟨j _ (by rw[hxe,X9];exact I),rfl⟩,.sym _ _ (.lit _),cU.lF hs (by rw[eJ];exact NR) (he1.trans (by grind[aF])) f1 f2 (Ee f3.symm) asE⟩
 .rename_i k kt l r B;have X9:=rI r (dc hf hk);split at h;rotate_left;cases h;rename_i l' hck;obtain⟨rfl,K⟩:=Iv hck;cases K;obtain⟨C,h9⟩|⟨_,h9⟩:=ah h
  rotate_left;cases h9;clear h;obtain⟨_,rfl,rfl⟩:=h9;have i:(aF s).ob.get e=Z (dj (.Jh m.kt l')):=by rw[aN,B];rfl
  let ⟨x0,hh,hor⟩:=(hs.box e b hb).2.2 _ i
  obtain⟨ms,cl,rfl,hmr⟩:=g8.N6 n (f:=low) hor
  let ⟨ms',c',I,z⟩:=y9 (P:=E.E.P) n ht hu k hh hmr (x:=yv) (dc hf hy)
  let ⟨q1,q2,q3⟩:=Fo (.map ms' c') (hs.box e b hb).2.1
  let ⟨NR,Xe⟩:=hs.setObj hb i rfl (gY C) (ob':=dj (.Jh m.kt (jK m.kt k yv l'))) (Ff.ob n (f:=low) z c') q1 q2 q3 rfl rfl
  exact⟨undef,_,g,.inr ⟨j _ (by simp_all),rfl⟩,.sym _ _ (.lit _),cU.lF hs (by rw[eJ];exact NR) Xe rfl rfl (eP _) (p9 _ _ _)⟩
 cases h
def adq(hS:fE S)(hT:Cc E.E)(hTy:TB S E)(hX:XOk S E)(hf:cZ g (bM fr) a w)(hs:bg g (aF s) w)(o:Oper)(h:uG E fr s o.op=Z (c,t,s'))(hc:c=W) :
  ∃v w' g',((execOp a.eval o).run E.E.P w=.ok (.value v) w'\/((execOp a.eval o).run E.E.P w=.ok .skip w'/\v=undef))/\aL g' w' (low t) v/\cU [] s g w s' g' w':=by
 unfold uG at h;split at h
 ·
  rename_i ty r A;obtain⟨hb,C⟩|⟨_,C⟩:=ah h
  rotate_left;cases C;clear h;rw[eX]at hb;have hn:s.aH<bO:=gY hb.1;split at C;rotate_left;cases C;rename_i m hm
  let ⟨kid,d,ht,hu,B,_,_⟩:=hX.mt _ _ hm
  have hr:∀v,r.map a.eval=Z v->∃k n,v=.int k n:=by
   intro v hv;cases r with
   |none=>cases hv
   |some x=>simp at hv;subst hv;have hh:=hb.2;simp[Pv]at hh;split at hh;rename_i k n F;exact⟨_,_,(dc hf F).ahz⟩;rename_i k n F;exact⟨_,_,aL.Bp (dc hf F)⟩;cases hh
  have fin:∀ob:vO S,dj ob=.map []->(W,(.mp s.aH:V S),dy s ob)=(c,t,s')->
    ∃v w' g',((execOp a.eval o).run E.E.P w=.ok (.value v) w'\/((execOp a.eval o).run E.E.P w=.ok .skip w'/\v=undef))/\aL g' w' (low t) v/\cU [] s g w s' g' w':=λob lV he=>by
   obtain⟨_,rfl,rfl⟩:=he
   let ⟨v,w',g',h1,h2,h3⟩:=Mx (P:=E.E.P) hs hn ht hr lV
   exact⟨v,w',g',.inl (by simp[execOp,A,h1]),h2,h3⟩
  split at C;exact fin _ rfl (ko C);exact fin _ rfl (ko C)
 ·
  rename_i ty x ix ok A;split at h;rotate_left;cases h;rename_i m xv kv hm F hk;split at h;rotate_left;cases h;rename_i vt hvt;split at h;rotate_left;cases h;rename_i k l hkey K;obtain⟨_,rfl,rfl⟩:=h
  let ⟨kid,d,ht,hu,B,⟨xi,z,R,hz⟩,hvv⟩:=hX.mt _ _ hm
  let ⟨amr,i,Xa⟩:=hvv vt hvt
  have X9:=rI hkey (dc hf hk);have hxr:=dc hf F;have hzr:aL g w (ek S vt (S.zero vt)) z:=uK (JW hS (hT.ti _ _ Xa) (hTy.row _ _ _ Xa amr) (hX.zr _ _ _ Xa amr) R hz);have fin:∀(u:aD)(b:aa),(Instr.lookup ty (a.eval x) (a.eval ix) ok).run E.E.P w=.ok (if ok then .tuple #[u,.bool b]else u) w->aL g w (ek S vt (FE m.kt (S.zero vt) k l)) u->b=HQ m.kt k l->
    ∃v w' g',((execOp a.eval o).run E.E.P w=.ok (.value v) w'\/((execOp a.eval o).run E.E.P w=.ok .skip w'/\v=undef))/\
     aL g' w' (low (bif ok then .gX [.ty vt (FE m.kt (S.zero vt) k l),.ty .bool (HQ m.kt k l)]else .ty vt (FE m.kt (S.zero vt) k l):V S)) v/\cU [] s g w s g' w':=by
   intro u b hrun hu hbb;refine⟨_,w,g,.inl (by simp only[execOp,A,run_bind,hrun,andThen_ok,run_pure];rfl),?_,cU.refl hs⟩;cases ok with
   |false=>exact hu|true=>
    subst hbb;refine .gX _ _ rfl λj t' v' h1 h2=>?_
    match j with
    |0=>simp[bI]at h1 h2;subst h1;subst h2;exact hu|1=>simp[bI]at h1 h2;subst h1;subst h2;exact .sym _ _ (.lit _)|j+2=>simp[bI]at h1
  unfold ZK at K;split at K;rename_i oid;split at K
  .rename_i kt' vt' l' lV;obtain⟨rfl,rfl,U9⟩:=It K;cases U9
   let ⟨b,hxe,hb⟩:=aL.HI hxr
   obtain⟨x0,hh,hor⟩:=(hs.box oid b hb).2.2 _ (by rw[aN,lV];rfl);obtain⟨ms,cl,rfl,hmr⟩:=g8.N6 B (f:=ek S vt') hor;have hlk:=zM (P:=E.E.P) B ht hu R hz k hh hmr.1 (λj p q h1 h2=>(hmr.2 j p q h1 h2).1) ok
   let ⟨r1,r2⟩:=Hv (f:=ek S vt') (k:=k) hmr hzr
   refine fin _ _ ?_ r1 r2;rw[X9,hxe,hlk];cases hq:(Es m.kt k l').bind λj=>(ms[j]?).map (·.val)with|none=>simp|some v=>simp
  cases K;simp only[gV]at K;subst K;refine fin z J ?_ hzr rfl;rw[X9,aL.Bp hxr];exact Gt B ht hu R hz k ok
  .rename_i vt' l';obtain⟨rfl,rfl,U9⟩:=It K;cases U9;cases ahE:a.eval x with
   |map mb=>
    rw[ahE]at hxr;cases hxr with
    |sym _ _ hd=>
    cases hd with
    |mp _ _ b ms cl I hh h1 h2 Pr hv1=>
    have hmr:Ff m.kt (λy v=>aL g w (ek S vt' y) v) l' ms:=⟨by simpa using h1,λj p q e1 e2=>⟨U0 B (uK (Pr j _ q (by simp[e1]) e2)),uK (hv1 j _ q (by simp[e1]) e2)⟩⟩;have hlk:=zM (P:=E.E.P) B ht hu R hz k hh hmr.1 (λj p q h1 h2=>(hmr.2 j p q h1 h2).1) ok
    let ⟨r1,r2⟩:=Hv (f:=ek S vt') (k:=k) hmr hzr
    refine fin _ _ ?_ r1 r2;rw[X9,ahE,hlk];cases hq:(Es m.kt k l').bind λj=>(ms[j]?).map (·.val)with|none=>simp|some v=>simp
   |_=>
    rw[ahE]at hxr;cases hxr with|sym _ _ hd=>cases hd
  cases K
 exact Kt hX hS hf hs o (.inl ‹_›) h;exact Kt hX hS hf hs o (.inr ‹_›) h
 ·
  rename_i ty n cp A;split at h;rotate_left;cases h;rename_i i e nv cv I he hn hcv;split at h;rotate_left;cases h;rename_i n1 c1 B hn1 hc1;obtain⟨hb,C⟩|⟨_,C⟩:=ah h
  rotate_left;cases C;obtain⟨rfl,rfl,rfl⟩:=C;rw[eX]at hc;have hcn:c1=n1:=by simpa[fZ]using hc.2
  subst hcn
  let ⟨p,hp,hpp⟩:=gN hn1
  let ⟨q,hq,hqq⟩:=gN hc1
  have e1:=dY hp hpp (dc hf hn);have e2:=dY hq hqq (dc hf hcv)
  let ⟨v,w',g',h1,h2,h3⟩:=Hs (P:=E.E.P) hS hs (gY hb) (hT.ti _ _ I) (hTy.row _ _ _ I he) hc.1 .i64 .i64
  exact⟨v,w',g',.inl (by simp[execOp,A,e1,e2,h1]),h2,h3⟩
 ·
  rename_i ty x A;split at h;rotate_left;cases h;rename_i i xv I F;split at h;rotate_left;cases h;rename_i b B hb;obtain⟨hn,C⟩|⟨_,C⟩:=ah h
  rotate_left;cases C;obtain⟨_,rfl,rfl⟩:=C
  let ⟨p,hp,hpp⟩:=lX hb
  have e1:=iO hp hpp (dc hf F)
  let ⟨_,d0,_,_,hu,_,_,_,_,hk⟩:=(hT.ti _ _ I).all
  rw[B]at hk;cases hk
  let ⟨v,w',g',h1,h2,h3⟩:=RV (P:=E.E.P) hs (gY hn) hu b
  exact⟨v,w',g',.inl (by simp[execOp,A,e1,h1]),h2,h3⟩
 ·
  rename_i ty x u A;split at h;rotate_left
  .rename_i i I F;split at h;rotate_left;cases h;rename_i B;obtain⟨_,rfl,rfl⟩:=h;have:=(UP (w:=w) (hT.ti _ _ I) B (dc hf F) x).1;exact⟨_,w,g,.inl (by simp only[execOp,A,run_bind]at this ⊢;simp only[Act.eval]at this ⊢;rw[this];rfl),.kb W,cU.refl hs⟩
  cases h;rename_i i n y I F;split at h;rotate_left;cases h;rename_i B;obtain⟨_,rfl,rfl⟩:=h;have:=(U3 (S:=S) hS (hT.ti _ _ I) B (dc hf F) x).1;exact⟨_,w,g,.inl (by simp only[execOp,A,run_bind]at this ⊢;simp only[Act.eval]at this ⊢;rw[this];rfl),.sym _ _ (.lit _),cU.refl hs⟩
 ·
  rename_i ty x u A;split at h;rotate_left
  .rename_i i I F;split at h;rotate_left;cases h;rename_i B;obtain⟨_,rfl,rfl⟩:=h;have:=(UP (w:=w) (hT.ti _ _ I) B (dc hf F) x).2;exact⟨_,w,g,.inl (by simp only[execOp,A,run_bind]at this ⊢;simp only[Act.eval]at this ⊢;rw[this];rfl),.kb J,cU.refl hs⟩
  cases h;rename_i i n y I F;split at h;rotate_left;cases h;rename_i B;obtain⟨_,rfl,rfl⟩:=h;have:=(U3 (S:=S) hS (hT.ti _ _ I) B (dc hf F) x).2;exact⟨_,w,g,.inl (by simp only[execOp,A,run_bind]at this ⊢;simp only[Act.eval]at this ⊢;rw[this];rfl),.sym _ _ (.lit _),cU.refl hs⟩
 ·
  rename_i ty x u A;split at h;rotate_left;cases h;rename_i i e xv I he F;split at h;rotate_left;cases h;rename_i B hl;obtain⟨_,rfl,rfl⟩:=h
  let ⟨ad,n,m,hv,hE⟩:=agS hs hl (dc hf F)
  have:=agR (w:=w) (hT.ti _ _ I) B ad n m x;exact⟨_,w,g,.inl (by rw[<-hv]at this;simp only[execOp,A,run_bind]at this ⊢;simp only[Act.eval]at this ⊢;rw[this];rfl),.ub _ _ hE,cU.refl hs⟩
 ·
  rename_i x A;split at h;rotate_left
  .rename_i n y F;obtain⟨rfl,rfl,rfl⟩:=h
   let ⟨p,hv,AE,hr⟩:=Mi (S:=S) (show aL g w (ek S (.opt n) y) (a.eval x)from dc hf F)
   have hne:p.isNone=J:=by rw[hc]at AE;simpa using AE
   refine⟨_,w,g,.inl ?_,hr hc (S.dfl n),cU.refl hs⟩;cases p with
   |none=>cases hne
   |some q=>simp[execOp,A,hv]
  cases h;rename_i n y F;obtain⟨rfl,rfl,rfl⟩:=h;have hr:=dc hf F;rw[Di]at hc;obtain⟨he,_⟩|⟨t',d,u,he,hv,_⟩:=FG hS (show aL g w (ek S (.dn n) y) (a.eval x)from hr)
  rw[he]at hc;cases hc;exact⟨_,w,g,.inl (by simp[execOp,A,hv]),hv▸hr,cU.refl hs⟩
 ·
  rename_i ty x u A;split at h;rotate_left
  .rename_i i I F;split at h;rotate_left;cases h;rename_i B;obtain⟨_,rfl,rfl⟩:=h;have:=(Fw (w:=w) (hT.ti _ _ I) B (aL.Bp (dc hf F)) x).1;exact⟨_,w,g,.inl (by simp only[execOp,A,run_bind]at this ⊢;simp only[Act.eval]at this ⊢;rw[this];rfl),.kb W,cU.refl hs⟩
  cases h;rename_i i n y I F;split at h;rotate_left;cases h;rename_i B;obtain⟨_,rfl,rfl⟩:=h
  let ⟨p,hv,AE,_⟩:=Mi (S:=S) (show aL g w (ek S (.opt n) y) (a.eval x)from dc hf F)
  have:=(Fw (w:=w) (hT.ti _ _ I) B hv x).1;exact⟨_,w,g,.inl (by simp only[execOp,A,run_bind]at this ⊢;simp only[Act.eval]at this ⊢;rw[this];rfl),by rw[AE];cases p<;>exact .sym _ _ (.lit _),cU.refl hs⟩
 ·
  rename_i ty x u A;split at h;rotate_left
  .rename_i i I F;split at h;rotate_left;cases h;rename_i B;obtain⟨_,rfl,rfl⟩:=h;have:=(Fw (w:=w) (hT.ti _ _ I) B (aL.Bp (dc hf F)) x).2;exact⟨_,w,g,.inl (by simp only[execOp,A,run_bind]at this ⊢;simp only[Act.eval]at this ⊢;rw[this];rfl),.kb J,cU.refl hs⟩
  cases h;rename_i i n y I F;split at h;rotate_left;cases h;rename_i B;obtain⟨_,rfl,rfl⟩:=h
  let ⟨p,hv,AE,_⟩:=Mi (S:=S) (show aL g w (ek S (.opt n) y) (a.eval x)from dc hf F)
  have:=(Fw (w:=w) (hT.ti _ _ I) B hv x).2;exact⟨_,w,g,.inl (by simp only[execOp,A,run_bind]at this ⊢;simp only[Act.eval]at this ⊢;rw[this];rfl),by rw[AE];exact .sym _ _ (.lit _),cU.refl hs⟩
 ·
  rename_i x xt ty ok A;split at h;rotate_left;cases h;rename_i i τ n y I he F
  let ⟨xi,d1,z,R,Eu,_,hag,hzx,CX,Pr⟩:=(hT.ti _ _ I).all
  have hni:i.kd≠.iface->∀ms,d1≠.interface ms:=λhk ms hd=>hk ((hT.ti _ _ I).nif ms (by rw[Eu,hd]));have hr:=FG hS (show aL g w (ek S (.dn n) y) (a.eval x)from dc hf F);have hzr:aL g w (ek S τ (S.zero τ)) z:=uK (JW hS (hT.ti _ _ I) (hTy.row _ _ _ I he) (hX.zr _ _ _ I he) R hzx);have hno:i.kd≠.iface->(∀d,vA S (S.alts n) (S.vg n y)≠Z (ty,d))->(Instr.typeAssert (a.eval x) xt ty W).run E.E.P w=.ok (.tuple #[z,.bool J]) w:=by
   intro hk hne;obtain⟨_,hv⟩|⟨t',d,u,he',hv,_⟩:=hr
   .rw[hv];simp only[Instr.typeAssert,run_bind,aO Eu,andThen_ok];cases d1 with|interface ms=>exact absurd rfl (hni hk ms)|_=>simp[eB R hzx]
   have asv:t'≠ty:=λe=>hne d (e▸he');rw[hv];simp only[Instr.typeAssert,run_bind,aO Eu,andThen_ok];cases d1 with|interface ms=>exact absurd rfl (hni hk ms)|_=>simp[asv,eB R hzx]
  split at h;cases h
  .rename_i j hj hk;obtain⟨hb,C⟩|⟨_,C⟩:=ah h
   rotate_left;cases C;clear h;have hte:=j4 hb;have hk':i.kd≠.iface:=λe=>hk e;obtain⟨h1,h2⟩|⟨h1,h2,h3⟩:=Ig (S.alts n) ty j (S.vg n y) S.zero (hS.alts n) hj
   ·
    obtain⟨he',_⟩|⟨t',d,u,he',hv,hd⟩:=hr
    rw[he']at h2;cases h2;rw[he']at h2;simp at h2;obtain⟨rfl,rfl⟩:=h2;have hrun:∀ok,(Instr.typeAssert (a.eval x) xt t' ok).run E.E.P w=.ok (if ok then .tuple #[u,.bool W]else u) w:=by intro ok;rw[hv];simp only[Instr.typeAssert,run_bind,aO Eu,andThen_ok];cases d1 with|interface ms=>exact absurd rfl (hni hk' ms)|_=>simp
    obtain⟨hok,C⟩|⟨hok,C⟩:=ah C
    .simp only[gV,fH]at C;obtain⟨_,rfl,rfl⟩:=C;subst hok;refine⟨_,w,g,.inl (by simp only[execOp,A,run_bind,hrun,andThen_ok,run_pure];rfl),.gX _ _ rfl λq t v k1 k2=>?_,cU.refl hs⟩
     match q with
     |0=>simp[bI]at k1 k2;subst k1;subst k2;exact uK hd|1=>simp[bI]at k1 k2;subst k1;subst k2;rw[h1];exact .sym _ _ (.lit _)|q+2=>simp[bI]at k1
    obtain⟨_,rfl,rfl⟩:=C;subst hok;exact⟨_,w,g,.inl (by simp only[execOp,A,run_bind,hrun,andThen_ok,run_pure];rfl),uK hd,cU.refl hs⟩
   ·
    obtain⟨hok,C⟩|⟨hok,C⟩:=ah C
    .simp only[gV,fH]at C;obtain⟨_,rfl,rfl⟩:=C;subst hok;refine⟨_,w,g,.inl (by simp only[execOp,A,run_bind,hno hk' h3,andThen_ok,run_pure];rfl),.gX _ _ rfl λq t v k1 k2=>?_,cU.refl hs⟩
     match q with
     |0=>simp[bI]at k1 k2;subst k1;subst k2;rw[h2];subst hte;exact hzr|1=>simp[bI]at k1 k2;subst k1;subst k2;rw[h1];exact .sym _ _ (.lit _)|q+2=>simp[bI]at k1
    obtain⟨rfl,_⟩:=C;rw[h1]at hc;cases hc
  .rename_i hj hk;have hk':i.kd≠.iface:=λe=>hk e;obtain⟨hok,C⟩|⟨hok,C⟩:=ah h
   rotate_left;cases C;simp only[gV,fH]at C;obtain⟨_,rfl,rfl⟩:=C;subst hok;refine⟨_,w,g,.inl (by simp only[execOp,A,run_bind,hno hk' (λd=>Ig.Dh _ _ _ hj d),andThen_ok,run_pure];rfl),.gX _ _ rfl λq t v k1 k2=>?_,cU.refl hs⟩
   match q with
   |0=>simp[bI]at k1 k2;subst k1;subst k2;exact hzr|1=>simp[bI]at k1 k2;subst k1;subst k2;exact .kb _|q+2=>simp[bI]at k1
 ·
  rename_i ps A;split at h;rotate_left;cases h;rename_i i pv I hps;split at h;rotate_left;cases h;rename_i sz ag B;simp only[gi,fH]at h;obtain⟨cs,hcs,_,rfl,rfl⟩:=h
  let ⟨p,hfl,hp⟩:=Dc hS hcs
  rw[nP]at hfl
  let ⟨xi,d1,z,R,Eu,_,hag,hzx,CX,Pr⟩:=(hT.ti _ _ I).all
  rw[B]at Pr;obtain⟨el,j,d',rfl,hj,yX,hju,_⟩:=Pr;have hzr:=tK (g:=g) (w:=w) CX;obtain⟨rs,h1,h2⟩:=xl (g:=g) (w:=w) (pl:=λk=>Z (k*sz,sz)) (λk off ti Po=>by
   obtain⟨rfl,rfl⟩:=Po;rfl) _ _ hfl hp (qf hf (uU hps)) ⟨by simpa using hzr.1,λj t v h1 h2=>hzr.2 j t v h1 (by simpa using h2)⟩
  refine⟨.agg rs,w,g,.inl ?_,.agg _ _ (by simpa using h2.1) (λj t v h3 h4=>h2.2 j t v h3 (by simpa using h4)),cU.refl hs⟩;have amn:Instr.fill (λi=>Z (i*sz,sz)) z.cells (ps.map λ(i,x)=>(i,a.eval x)).toList=Z rs:=by simpa using h1
  simp only[execOp,A,Instr.build,run_bind,eB R hzx,aO Eu,dD hj,yX,andThen_ok,run_pure,amn]
 cases h
end
section
variable {g:Gh}{w:az}
def Lm{β:Type}{ω:Type}{X:V S->bx S->O ω}{D:O ω}{kt:Ty}(k:den S.A kt)(f:β->V S)(s:bx S):∀(l:L (den S.A kt×β)),
  zp X D (l.map λp=>(HC kt k p.1,f p.2,s))=match(Es kt k l).bind (l[·]?)with
   |some p=>X (f p.2) s|none=>D
 |[]=>rfl|p::l=>by
  simp[o7,zp,Es];cases a:HC kt k p.1 with
  |true=>simp[ak]|false=>
   simp[ak,jP];rw[Lm k f s l];cases Es kt k l with|none=>rfl|some j=>simp
def xM{ω:Type}{X:V S->bx S->O ω}{n:Int}{ag:aa}{sz:Nat}{cs:L (V S)}{s:bx S}{r:ω}:∀{l:L Nat},zp X Y (Ao n ag sz cs s l)=Z r->
  ∃j v,j∈l/\n=(j:Int)/\((cs.drop (j*sz)).take sz).length=sz/\0<sz/\Eg ag ((cs.drop (j*sz)).take sz)=Z v/\X v s=Z r
 |[],h=>by cases h
 |j::l,h=>by
  simp only[Ao]at h;split at h
  .rename_i a;obtain⟨b,a⟩|⟨_,a⟩:=ah a
   rotate_left;cases a;rw[eX]at b;have d:=beq_iff'.1 b.1;rw[bZ]at d;obtain⟨e,h⟩|⟨_,h⟩:=J3 h
   simp_all[fZ]
   let ⟨i,u,h1,h2⟩:=xM h
   grind
  cases h
where
 J3 {α:Type} {c:aa} {x y:O α} {r:α} (h:ak c x y=Z r):(c=W/\x=Z r)\/(c=J/\y=Z r):=ah h
variable {s s':bx S}{E:gC}{fr:cr S}{a:Act}{o:Oper}{cl:Call}{b:Builtin}{args:List (V S)}{c:aa}{t:V S}
def UN(hT:Cc E.E)(hX:XOk S E)(hf:cZ g (bM fr) a w)(hs:bg g (aF s) w)(o:Oper){XI:L (aa×V S×bx S)}{p:aa}{d:V S}(h:l7 E fr s o.op=Z (XI,p,d,s')){ω:Type}{X:V S->bx S->O ω}{r:ω}
  (e:zp X (aS p (X d s')) XI=Z r) :
  ∃t s1 v w' g',X t s1=Z r/\((execOp a.eval o).run E.E.P w=.ok (.value v) w'\/((execOp a.eval o).run E.E.P w=.ok .skip w'/\v=undef))/\aL g' w' (low t) v/\cU [] s g w s1 g' w'/\((∀it b,o.op≠.next it b)->s1=s):=by
 unfold l7 at h;split at h
 ·
  rename_i it B;split at h;rotate_left;cases h;rename_i C hit;split at h;rotate_left;cases h;rename_i b pos lV;obtain⟨hfl,h9⟩|⟨_,h9⟩:=ah h
  rotate_left;cases h9;clear h;obtain⟨rfl,rfl,rfl,rfl⟩:=h9
  let ⟨bX,hie,hb⟩:=aL.ad4 (dc hf hit)
  have Pp:(aF s).ob.get C=Z (.r8 (cY b) pos):=by rw[aN,lV];rfl
  let ⟨x0,hh,hor⟩:=(hs.box C bX hb).2.2 _ Pp
  have K:=(hs.box C bX hb).2.1;cases hor;have eu:(getObj bX).run E.E.P w=.ok (.stringIter (cY b) pos) w:=by simp[getObj,Sem.run,hh]
  have yW:∀x,(setObj bX x).run E.E.P w=.ok () {w with heap:=w.heap.setIfInBounds bX x}:=λx=>by simp[setObj,Sem.run,hh]
  have F:(cY b).size=b.length:=by rfl
  obtain⟨hp,e⟩|⟨hp,e⟩:=xM.J3 e
  .have hp':pos<(cY b).size:=by rw[F];simpa[Se]using hp
   let ⟨q1,q2,q3⟩:=Fo (.stringIter (cY b) (pos+Jk b pos)) K
   let ⟨NR,Xe⟩:=hs.setObj hb Pp rfl (gY hfl) (ob':=.r8 (cY b) (pos+Jk b pos)) (.r8 _ _) q1 q2 q3 rfl rfl
   refine⟨_,_,.tuple #[.bool W,goInt pos,.int .i32 (vY b pos)],_,g,e,.inl ?_,.gX _ _ rfl λq t v y A=>?_,cU.lF hs (by rw[eJ];exact NR) Xe rfl rfl (eP _) (p9 _ _ _),λhh=>absurd B (hh it W)⟩
   .have hrun:(Instr.next (a.eval it) W o.type).run E.E.P w=.ok (.tuple #[.bool W,goInt pos,.int .i32 (vY b pos)]) {w with heap:=w.heap.setIfInBounds bX (.stringIter (cY b) (pos+Jk b pos))}:=by rw[hie];simp only[Instr.next,run_bind,eu,andThen_ok,hp',kz,yW];rfl
    grind[execOp,run_bind,andThen_ok,run_pure]
   match q with
   |0=>simp[bI]at y A;subst y;subst A;exact .kb _|1=>simp[bI]at y A;subst y;subst A;exact .sym _ _ (.lit _)|2=>simp[bI]at y A;subst y;subst A;exact .sym _ _ (.lit _)|q+3=>grind
  .have hp':¬pos<(cY b).size:=by rw[F];simpa[Se]using hp
   refine⟨_,_,.tuple #[.bool J],w,g,e,.inl ?_,.gX _ _ rfl λq t v y A=>?_,cU.refl hs,λhh=>absurd B (hh it W)⟩
   .have hrun:(Instr.next (a.eval it) W o.type).run E.E.P w=.ok (.tuple #[.bool J]) w:=by rw[hie];simp only[Instr.next,run_bind,eu,andThen_ok,hp',jY];rfl
    grind[execOp,run_bind,andThen_ok,run_pure]
   match q with
   |0=>simp[bI]at y A;subst y;subst A;exact .kb _|q+1=>grind
 ·
  rename_i ty x ix ok B;split at h;rotate_left;cases h;rename_i m C kv hm hx hk;split at h;rotate_left;cases h;rename_i kt l k i lV hkey Xa;split at h;rotate_left;cases h;rename_i l' z hck hpz;simp only[gV,fH]at h;obtain⟨rfl,rfl,rfl,rfl⟩:=h;obtain⟨rfl,U9⟩:=Iv hck;cases U9
  let ⟨kid,dd,ht,hu,R,⟨xi,zv,Pn,hz⟩,_⟩:=hX.mt _ _ hm
  have X9:=rI hkey (dc hf hk)
  let ⟨b,hxe,hb⟩:=aL.HI (dc hf hx)
  obtain⟨x0,hh,hor⟩:=(hs.box C b hb).2.2 _ (by rw[aN,lV];rfl);obtain⟨ms,cl,rfl,hmr⟩:=g8.N6 R (f:=low) hor;have hlk:=zM (P:=E.E.P) R ht hu Pn hz k hh hmr.1 (λj p q h1 h2=>(hmr.2 j p q h1 h2).1) ok;have hzr:aL g w (low z) zv:=by
   let ⟨x',_,z',hx',_,_,hag,hz',CX,_⟩:=(hT.ti _ _ Xa).all
   rw[Pn]at hx';cases hx';rw[hz]at hz';cases hz'
   let ⟨hza,hzn⟩:=(hT.ti _ _ Xa).zag _ _ Pn hz
   let ⟨hz1,hz2⟩:=tK (g:=g) (w:=w) CX
   have hp:=qG hpz;rw[nP]at hp
   let ⟨sX,_⟩:=yq (g:=g) (w:=w) hp (vals:=zv.cells.toList) (by omega) (λj t v h1 h2=>hz2 j t v h1 (by simpa using h2))
   cases hia:i.agg with
   |true=>
    obtain⟨vs,rfl⟩:=hza hia
    simp_all[Value.cells]
   |false=>
    simp_all
  rw[Lm k (λv=>bif ok then .gX [v,.kb W]else v) s l']at e;have wrap:∀(t:V S)(u:aD)(bb:aa),aL g w (low t) u->aL g w (low (bif ok then .gX [t,.kb bb]else t:V S)) (if ok then .tuple #[u,.bool bb]else u):=by
   intro t u bb hu;cases ok with
   |false=>exact hu|true=>
    refine .gX _ _ rfl λq t v y A=>?_
    match q with
    |0=>grind[bI]|1=>simp[bI]at y A;subst y;subst A;exact .kb _|q+2=>grind
  have c:=hlk;rw[<-hxe,<-X9]at c;cases hix:Es m.kt k l' with
  |none=>rw[hix]at e c;exact⟨_,_,_,w,g,e,.inl (by grind[execOp,run_bind,andThen_ok,run_pure]),wrap z zv J hzr,cU.refl hs,λ_=>rfl⟩
  |some j=>
   let ⟨q,hq,_⟩:=w7 hix
   have hj:j<ms.size:=by rw[<-hmr.1];grind
   have hmj:ms[j]?=Z ms[j]:=uS hj;rw[hix]at e c;simp[Ux,hq,hmj,jQ]at e c;exact⟨_,_,_,w,g,e,.inl (by grind[execOp,run_bind,andThen_ok,run_pure]),wrap q.2 _ W (hmr.2 j q _ hq hmj).2,cU.refl hs,λ_=>rfl⟩
 ·
  rename_i B;split at h;rotate_left;cases h;rename_i hi hx hk;split at h;rotate_left;cases h;rename_i len sz ag n R hn;obtain⟨hlen,h9⟩|⟨_,h9⟩:=ah h
  rotate_left;cases h9;clear h;obtain⟨rfl,rfl,rfl,rfl⟩:=h9;obtain⟨j,v,hjm,rfl,hl,hsz,hpk,hXv⟩:=xM e;have hjl:j<len:=List.mem_range.1 hjm
  let ⟨pq,hp,hpp⟩:=gN hn
  have e1:=dY hp hpp (dc hf hk)
  let ⟨_,d1,_,_,Eu,hsz1,hag1,_,_,Pr⟩:=(hT.ti _ _ hi).all
  rw[R]at Pr;obtain⟨el,jj,d',rfl,hj1,hj2,hj3,hj4⟩:=Pr
  let ⟨vs,hxe,pE⟩:=aL.U1 (dc hf hx)
  have I:=(pE.drop (j*sz)).take sz;have K:=qG hpk;rw[mN,mO]at K
  let ⟨sX,h1⟩:=yq (g:=g) (w:=w) K I.1 I.2
  have hlv:((vs.toList.drop (j*sz)).take sz).length=sz:=by rw[<-I.1,<-mO,<-mN,eU];exact hl
  have hle:j*sz+sz<=vs.size:=by
   grind
  have hrp:=Ok (P:=E.E.P) (w:=w) hj1 hj3 vs (j*sz) (by omega) (λhd=>by
   grind)
  rw[hj2,<-hj4]at hrp;refine⟨v,s,_,w,g,hXv,.inl ?_,sX,cU.refl hs,λ_=>rfl⟩;have hin:(0:Int)<=(j:Int)/\(j:Int)<(len:Int):=by omega
  simp only[execOp,B,Instr.index,e1,hxe,asIntOf,run_bind,run_pure,andThen_ok,aO Eu,bH hin,dD hj1,hj2,uP,hrp]
 cases h
def ac2(P:cV)(a:Array TypeId)(ty:TypeId)(m n:Int):(Builtin.max_ a ty #[.int .i64 m,.int .i64 n]).run P w=.ok (.int .i64 (adB m n)) w:=by simp only[Builtin.max_,List.foldlM_cons,List.foldlM_nil,Builtin.max2,adB,aG];by_cases h:m<n<;>simp[h]
def ac1(P:cV)(a:Array TypeId)(ty:TypeId)(m n:Int):(Builtin.min_ a ty #[.int .i64 m,.int .i64 n]).run P w=.ok (.int .i64 (adA m n)) w:=by simp only[Builtin.min_,List.foldlM_cons,List.foldlM_nil,Builtin.min2,adA,aG];by_cases h:n<m<;>simp[h]
def BS(hX:XOk S E)(hs:bg g (aF s) w)(hf:cZ g (bM fr) a w)(B:o.op=.call cl)(hb:cl.callee=.builtin b)(j:kB fr cl.args.toList=Z args)
  (h:uw E s b cl.argTypes args=Z (c,t,s')):s'=s/\∃v,(execOp a.eval o).run E.E.P w=.ok (.value v) w/\aL g w (low t) v:=by
 have e:=fe hf (hJ j);unfold uw at h;split at h;rename_i k;have key:∀(l:Nat)(ob:vO S),s.ob.get k=Z ob->(∀x,g8 g w (dj ob) x->∃p c,x=.map p c/\p.size=l)->∀m,(nth cl.argTypes.toList 0).bind E.mt=Z m->
   ∃v,(execOp a.eval o).run E.E.P w=.ok (.value v) w/\aL g w (low (.ty (.int .i64) (l:Int):V S)) v:=by
  intro l ob f q m i;simp[wz]at i
  let ⟨ty,C,F⟩:=i
  let ⟨kid,d,ht,_⟩:=hX.mt _ _ F
  have h0:aL g w (.mp k) ((cl.args.toList.map a.eval)[0]'(by have:=e.1;simp[bI]at this;simp;omega)):=e.2 0 _ _ rfl (iZ _)
  let ⟨bX,hbe,r⟩:=aL.HI h0
  obtain⟨x0,hh,I⟩:=(hs.box k bX r).2.2 _ (by rw[aN,f];rfl);obtain⟨p,cc,rfl,K⟩:=q _ I;have eu:(getObj bX).run E.E.P w=.ok (.map p cc) w:=nT hh;have P:(cl.args.map a.eval)[0]?=Z (.map (Z bX)):=by
   grind
  have z:cl.argTypes[0]?=Z ty:=by rw[kD]at C;grind
  refine⟨goInt p.size,?_,by rw[K];exact .sym _ _ (.lit _)⟩;simp[execOp,B,resolve,hb,run_bind,run_pure,andThen_ok,invoke,builtin,Builtin.len_,z,P,aO ht,eu]
 split at h;rename_i m kt vt l i f;obtain⟨_,rfl,rfl⟩:=h;exact⟨rfl,key l.length _ f (λx q=>by cases q with|map _ p c R _=>simp_all) m i⟩;rename_i m kt l i f;obtain⟨_,rfl,rfl⟩:=h;exact⟨rfl,key l.length _ f (λx q=>by cases q with|map _ p c R _=>simp_all) m i⟩;cases h
 .rename_i x y;split at h;rotate_left;cases h;rename_i m n i A;obtain⟨_,rfl,rfl⟩:=h
  let ⟨a1,ha⟩:=N1 e i A
  refine⟨rfl,.int .i64 (adB m n),?_,.sym _ _ (.lit _)⟩
  simp_all[execOp,resolve,invoke,builtin,ac2]
 .rename_i x y;split at h;rotate_left;cases h;rename_i m n i A;obtain⟨_,rfl,rfl⟩:=h
  let ⟨a1,ha⟩:=N1 e i A
  refine⟨rfl,.int .i64 (adA m n),?_,.sym _ _ (.lit _)⟩
  simp_all[execOp,resolve,invoke,builtin,ac1]
 cases h
where
 N1 {l:Array Operand} {a:Act} {x y:V S} {m n:Int} (e:PW (aL g w) (bI [x,y]) (l.toList.map a.eval)) (i:ia .i64 x=Z m) (A:ia .i64 y=Z n):True/\l.map a.eval=#[.int .i64 m,.int .i64 n]:=by
  refine⟨trivial,?_⟩;have R:(l.toList.map a.eval).length=2:=by have:=e.1;simpa[bI]using this.symm
  match U9:l.toList.map a.eval,R with
  |[u,v],_=>
   rw[U9]at e;have h1:=e.2 0 _ _ rfl rfl;have h2:=e.2 1 _ _ rfl rfl
   grind[gN,dY]
def M6(hX:XOk S E)(hs:bg g (aF s) w)(hf:cZ g (bM fr) a w)(I:o.op=.call cl)(hb:cl.callee=.builtin b)(p:kB fr cl.args.toList=Z args)
  (h:ux E s b cl.argTypes args=Z (c,t,s')):∃v w' g',(execOp a.eval o).run E.E.P w=.ok (.value v) w'/\aL g' w' (low t) v/\cU [] s g w s' g' w':=by
 have i:=fe hf (hJ p);unfold ux at h;split at h;rotate_left;cases h;rename_i q kv;split at h;rotate_left;cases h;rename_i m kt K l hm y;split at h;rotate_left;cases h;rename_i l' k R z;obtain⟨r,h9⟩|⟨_,h9⟩:=ah h
 rotate_left;cases h9;obtain⟨rfl,j⟩:=Iv R;cases j;obtain⟨_,rfl,rfl⟩:=h9;have r:s.fl<=q:=gY r;simp only[wz]at hm;obtain⟨ty,MJ,hmt⟩:=hm
 let ⟨kid,d,ht,hu,x,_,_⟩:=hX.mt _ _ hmt
 have A:(cl.args.toList.map a.eval).length=2:=by have:=i.1;simpa[bI]using this.symm
 match j:cl.args.toList.map a.eval,A with
 |[u,v],_=>
 rw[j]at i
 let ⟨bX,hbe,e⟩:=aL.HI (i.2 0 _ _ rfl rfl)
 have X9:=rI z (i.2 1 _ _ rfl rfl);obtain⟨x0,hh,hor⟩:=(hs.box q bX e).2.2 _ (by rw[aN,y];rfl);obtain⟨ms,cc,rfl,hmr⟩:=g8.N6 x (f:=ek S K) hor;have n:(cl.args.map a.eval)=#[.map (Z bX),fD m.kt k]:=by apply Array.toList_inj.1;rw[Uw,j,hbe,X9]
 have B:cl.argTypes[0]?=Z ty:=by rw[kD]at MJ;grind
 let ⟨ms',C,F⟩:=RN (P:=E.E.P) x ht hu k hh hmr B (ty:=o.type) (args:=cl.args.map a.eval) (by rw[n];rfl) (by rw[n];rfl)
 let ⟨q1,q2,q3⟩:=Fo (.map ms' cc) (hs.box q bX e).2.1
 let ⟨NR,Xe⟩:=hs.setObj e (by rw[aN,y];rfl) rfl r (ob':=dj (.map m.kt K (MY m.kt k l'))) (Ff.ob x (f:=ek S K) F cc) q1 q2 q3 rfl rfl
 refine⟨.tuple #[],_,g,?_,.sym _ _ (.lit _),cU.lF hs (by rw[eJ];exact NR) Xe rfl rfl (eP _) (p9 _ _ _)⟩;simp[execOp,I,resolve,hb,run_bind,run_pure,andThen_ok,invoke,builtin,C]
theorem RM{E:gC}(j:XOk S E){t:TypeId}{b:String}{f:FuncId}(h:E.Mu t b=Z f)(v:aD)(args:Array aD)(hf:mF E.E.P f):(callMethod (.iface t v) b args).run E.E.P w=.ok (.enter f (#[v]++args)) w:=by
 let ⟨x,q,d,k,l,m,o,a⟩:=j.Mu _ _ _ h
 obtain⟨n,p⟩:∃n,E.E.P.types.size+Made.depth=n+1:=⟨E.E.P.types.size+Made.depth-1,by rfl⟩;have c:(method (E.E.P.types.size+Made.depth) t v b).run E.E.P w=.ok (f,v) w:=by
  rw[p];simp only[method,run_bind,sP k,andThen_ok,l,m,follow,run_pure];obtain⟨a,g⟩|⟨a,e,rfl⟩:=a
  simp only[a,run_bind,receiverAt,aO o,andThen_ok];cases d<;>first|(exact absurd rfl (g _))|(simp[Place.get])
  simp_all[receiverAt,aO,Place.get]
 have i:(Go.program).run E.E.P w=.ok E.E.P w:=rfl
 grind[callMethod,run_bind,andThen_ok,ym]
def Ol(g:XOk S E){c:Call}(b:o.op=.call c){x:Operand}{m:String}(d:c.callee=.invoke x m){t:TypeId}{v:aD}(e:a.eval x=.iface t v){f:FuncId}(h:E.Mu t m=Z f)(i:mF E.E.P f) :
  (execOp a.eval o).run E.E.P w=.ok (.enter f (#[v]++c.args.map a.eval)) w:=by
 simp only[execOp,b,resolve,d,e,run_bind,run_pure,andThen_ok,invoke]
 grind[Array.ext',Array.toList_extract,List.take_of_length_le,RM]
end
section
variable {g:Gh}{w:az}
def mG(s:bx S)(o:Nat)(ob:Ob):St:={aF s with ob:=(aF s).ob.set aP o ob}
variable {s s':bx S}{o n j era m ij k r i off:Nat}{hole:Option Nat}{hl:List aD}{d:D}{h v:aD}{a:Act}
def JX(hs:bg g (aF s) w){l:L (S.A n)}{x:fy}(a:s.ob.get o=Z (.l8 n j l era m ij hole))(b:g.arr o era=Z x) :
  ∃hl,hl.length=l.length/\yc g w J (S.width (.st n)) (lits j (l.map (enc S (.st n))) hl) x/\JS g m ij hole hl/\bg g (mG s o (.arr (S.width (.st n)) (lits j (l.map (enc S (.st n))) hl) era)) w:=by
 obtain⟨hl,h1,h2,h3,h4⟩:=hs.view (by rw[aN,a];rfl) b;exact⟨hl,by simpa using h1,h2,h3,h4⟩
def AI{s1:St}(h:bg g s1 w){l:L (S.A n)}(a:o<bO)(h1:s1.ob.get o=Z (.arr (S.width (.st n)) (lits j (l.map (enc S (.st n))) hl) era))(b:hl.length=l.length)
  (c:JS g m ij hole hl) (h2:s'.ob.get o=Z (.l8 n j l era m ij hole)) (h3:∀k,k≠o->(aF s').ob.get k=s1.ob.get k) (h4:s'.aH=s1.aH):bg g (aF s') w:=by
 refine(h.Ym (es:=l.map (enc S (.st n))) a h1 (by grind) c).aaH h4 λk=>?_;rw[Tr.aX _ _ _ _ a];by_cases d:k=o;subst d;rw[bH rfl,aN,h2];rfl
 simp_all
def gP(a:o<bO)(ob:Ob)(k:Nat):(mG s o ob).ob.get k=if k=o then Z ob else(aF s).ob.get k:=Tr.aX _ _ _ _ a
def MA{es:L D}(h1:es[k]?=Z d)(h2:hl[k]?=Z h):jy (lits j es hl) k=jJ j d h:=by
 grind[jy,lits]
def Gm(h:aL g w (.sh o r) v):∃x,g.arr o r=Z x/\v=.slice x.a x.len x.cap:=by cases h with|sh _ _ len cap sz a b=>simp_all
def Vk{e:Nat}(h:aL g w (.mC o e i off) v):∃x,g.arr o e=Z x:=by cases h with|mC _ _ _ _ len cap sz a b=>grind
def UQ(h:aL g w (.sV o m r i) v):∃y,g.arr m (rc r i)=Z y/\v=.slice y.a y.len y.cap:=by cases h with|sV _ _ _ _ len cap sz a b=>simp_all
def Wx(fr:Fr)(x:Operand)(t:T):Fr:=match x with
 |.tmp k=>{fr with tm:=fr.tm.set aP k t}
 |_=>fr
def OR{fr:Fr}(hf:cZ g fr a w){u t:T}(c:fr.get k=Z u)(b:k<bO)(f:aL g w t (a.eval (.tmp k))):cZ g (Wx fr (.tmp k) t) a w:=by
 refine⟨hf.size,hf.df,λd e h=>?_⟩;simp[Wx,Fr.get]at h;rw[Tr.aX _ _ _ _ b]at h;split at h;cases h
 let ⟨v,i,_⟩:=hf.tm _ _ c
 simp_all[Act.eval]
 exact hf.tm d e h
def WA{i:TI}(b:Nl (Na off i.size) j=W\/Nt j off=W):nI i (jJ j d h) off=nI i d off:=by
 have a:∀q,(off<=q/\q<off+i.size)->(jJ j d h).cell q=d.cell q:=by
  intro q c;have e:j≠q:=by
   obtain b|b:=b
   have:=gY b
   grind
   have:j<off:=gY b;omega
  show(d.cells.set j _).getD q _=d.cells.getD q _
  simp_all
 unfold nI;cases i.agg with
 |true=>
  simp only[iq]
  congr 2
  refine YH λq c=>?_;have:=a (Na off q) ⟨Nat.le_add_right _ _,Nat.add_lt_add_left (List.mem_range.1 c) _⟩;rw[this]
 |false=>
  simp;cases f:Nq i.size 1 with|true=>have:=beq_iff'.1 f;simp only[iq];rw[a off ⟨eP _,by omega⟩]|false=>rfl
def N7(s:St):∀{l:L T}{p:Prop}{ds:L D}{os:L Nat}{j:Nat},oF s l=Z (p,ds,os)->l[j]?=Z .emp->∀v,∃b,oF s (l.set j (.sym (.lit v)))=Z (b,ds.set j (.lit v),os)/\(p->b)/\ds[j]?=Z (.sl [])
 |[],p,ds,os,j,_,a,v=>by simp at a
 |t::l,p,ds,os,j,h,a,v=>by
  simp[oF]at h;split at h
  .rename_i q d c r e f h1 h2;obtain⟨rfl,rfl,rfl⟩:=h;cases j with
   |zero=>simp at a;subst a;obtain⟨rfl,rfl,rfl⟩:=h1;exact⟨True/\r,by grind[oF,Ct],λh=>h,rfl⟩
   |succ j=>obtain⟨b,k,g,i⟩:=N7 s h2 (by simpa using a) v;exact⟨q/\b,by grind[oF],λh=>⟨h.1,g h.2⟩,by simpa using i⟩
  cases h
def ads{E:gC}(hS:fE S)(hT:Cc E.E)(hTy:TB S E){fr:cr S}(hf:cZ g (bM fr) a w)(hs:bg g (aF s) w)(o:Oper){c:aa}{t:V S}(h:Cp E fr s o.op=Z (c,t,s'))(hc:c=W) :
  ∃v w' g',((execOp a.eval o).run E.E.P w=.ok (.value v) w'\/((execOp a.eval o).run E.E.P w=.ok .skip w'/\v=undef))/\aL g' w' (low t) v/\cU [] s g w s' g' w':=by
 unfold Cp at h;split at h
 ·
  rename_i ty x ix R;split at h;rotate_left;cases h;rename_i I r hx;split at h;rotate_left;cases h;rename_i n j l era m ij hole lV;split at h;rotate_left;cases h;rename_i i n' kv hi MJ hix;split at h;rotate_left;cases h;rename_i sz ag bt zz k wG hk;obtain⟨hb,f⟩|⟨_,f⟩:=ah h
  rotate_left;cases f;simp only[eX]at hb;have hre:=beq_iff'.1 hb.1;subst hre;have hnn:=beq_iff'.1 hb.2;subst hnn;obtain⟨rfl,rfl,rfl⟩:=f
  let ⟨xs,C,_⟩:=Gm (dc hf hx)
  have A:I<bO:=iW (hs.lt' C) hs.aH
  let ⟨hl,h1,h2,h3,h4⟩:=JX hs lV C
  let ⟨p,hp1,hp⟩:=gN hk
  let ⟨⟨z,Pq,_⟩,_⟩:=hTy.row _ _ _ hi MJ
  have hin:=w9 hc;have hbq:Nq (S.width (.st n)) (S.width (.st n))=W:=beq_iff'.2 rfl;have F:(lits j (l.map (enc S (.st n))) hl).length=l.length:=by rw[oJ (by simpa using h1)];simp
  let ⟨⟨v,w',g',hr,B,he,ht⟩,q1,q2,q3⟩:=nX hT hf h4 o (p:=p/\mj k (eT (lits j (l.map (enc S (.st n))) hl))) (t:=.mC I r (EX k) 0) (s':=mG s I (.arr (S.width (.st n)) (lits j (l.map (enc S (.st n))) hl) r)) (by
   rw[R];simp[o5,hi,cH hx,cH hix,kI,Pq,hp1,low,JK];rw[gP A,bH rfl];simp) ⟨hp,by simp[mj,eT,F];omega⟩
  refine⟨v,w',g',hr,ht,cU.lF hs ?_ he rfl rfl (eP _) (rZ.refl _)⟩;refine AI B A (by rw[gP A,bH rfl]) h1 (h3.le (λj y=>he.arr m j y)) lV (λk hk=>by rw[gP A,bS hk]) rfl
 ·
  rename_i ty x R;split at h;rotate_left;cases h;rename_i I e k off hx;split at h;rotate_left;cases h;rename_i n j l era m ij hole lV;split at h;rotate_left;cases h;rename_i i hi;obtain⟨hb,f⟩|⟨_,f⟩:=ah h
  rotate_left;cases f;clear h;have hre:=beq_iff'.1 hb;subst hre
  let ⟨xs,C⟩:=Vk (dc hf hx)
  have A:I<bO:=iW (hs.lt' C) hs.aH
  let ⟨hl,h1,h2,h3,h4⟩:=JX hs lV C
  have F:(lits j (l.map (enc S (.st n))) hl).length=l.length:=by rw[oJ (by simpa using h1)];simp
  have back:∀{g':Gh}{w':az},bg g' (mG s I (.arr (S.width (.st n)) (lits j (l.map (enc S (.st n))) hl) e)) w'->Ext s.fl g w g' w'->cU [] s g w s g' w':=λB he=>
   cU.lF hs (AI B A (by rw[gP A,bH rfl]) h1 (h3.le (λj y=>he.arr m j y)) lV (λk hk=>by rw[gP A,bS hk]) rfl) he rfl rfl (eP _) (rZ.refl _)
  obtain⟨hj,h⟩|⟨hj,h⟩:=ah f
  ·
   clear f;obtain⟨K,f⟩|⟨_,f⟩:=ah h
   rotate_left;cases f;simp only[eX,Ox]at K;obtain⟨rfl,rfl,rfl⟩:=f;have hoff:=beq_iff'.1 hj;subst hoff;have hk:=ug hc;have hel:jy (lits off (l.map (enc S (.st n))) hl) k=jJ off (enc S (.st n) l[k]) (hl[k]'(by omega)):=MA (by rw[lK,iZ hk];rfl) (iZ _);have hrow:=h2.rows _ (iG (by rw[lits,OO,lK,iZ hk,iZ (by omega:k<hl.length)];rfl:(lits off (l.map (enc S (.st n))) hl)[k]?=Z (jJ off (enc S (.st n) l[k]) (hl[k]'(by omega)))));have hsz:i.size=1:=beq_iff'.1 K.1;have U7:off<S.width (.st n):=gY K.2.2.2;have hcell:(jJ off (enc S (.st n) l[k]) (hl[k]'(by omega))).cell off=.lit (hl[k]'(by omega)):=by
    show((enc S (.st n) l[k]).cells.set off _).getD off _=_;have:off<(enc S (.st n) l[k]).cells.length:=by rw[lq hS];exact U7
    simp[this]
   let ⟨⟨v,w',g',hr,B,he,ht⟩,q1,q2,q3⟩:=nX hT hf h4 o (t:=.sym (.lit (hl[k]'(by omega)))) (s':=mG s I (.arr (S.width (.st n)) (lits off (l.map (enc S (.st n))) hl) e)) (p:=mj (k:Int) (eT (lits off (l.map (enc S (.st n))) hl))/\(jy (lits off (l.map (enc S (.st n))) hl) k).has (Na off i.size)) (by
    rw[R];simp only[o5,hi,cH hx,low,loadT,JK];rw[gP A,bH rfl];simp[show Nq e e=W from beq_iff'.2 rfl,iq,hel,nI,K.2.1,jP,K.1,hcell,jQ]) ⟨by simp only[mj,eT,F];omega,by
     rw[hel];show Na off i.size<=_;rw[hrow,hsz];exact U7⟩
   have hv:=aL.Bp ht
   let ⟨y,hy,hye⟩:=h3.2 k _ (iZ (by omega)) (by
    intro e;rw[e]at K;exact Bool.noConfusion K.2.2.1)
   refine⟨v,w',g',hr,?_,back B he⟩;rw[hv,hye];exact .sV _ _ _ _ _ _ y.sz _ (he.arr _ _ _ hy)
  ·
   clear f;obtain⟨K,f⟩|⟨_,f⟩:=ah h
   rotate_left;cases f;simp at f;obtain⟨u,hu,rfl,rfl,rfl⟩:=f;rw[o8]at K;have hk:=ug hc
   let ⟨p1,p2⟩:=CI hS (i:=i) (τ:=Y) (λu h=>by cases h) hu
   have hex:bE l k (S.zero (.st n))=l[k]:=by simp[bE,hk]
   rw[hex]at p1 p2;have hel:jy (lits j (l.map (enc S (.st n))) hl) k=jJ j (enc S (.st n) l[k]) (hl[k]'(by omega)):=MA (by rw[lK,iZ hk];rfl) (iZ _)
   let ⟨⟨v,w',g',hr,B,he,ht⟩,q1,q2,q3⟩:=nX hT hf h4 o (t:=low u) (s':=mG s I (.arr (S.width (.st n)) (lits j (l.map (enc S (.st n))) hl) e)) (p:=mj (k:Int) (eT (lits j (l.map (enc S (.st n))) hl))/\(jy (lits j (l.map (enc S (.st n))) hl) k).has (Na off i.size)) (by
    rw[R];simp only[o5,hi,cH hx,low,loadT,JK];rw[gP A,bH rfl];simp[show Nq e e=W from beq_iff'.2 rfl,iq,hel,WA K,p1,jQ]) ⟨by simp only[mj,eT,F];omega,by
     rw[hel];show Na off i.size<=((enc S (.st n) l[k]).cells.set j _).length;rw[Md];exact p2⟩
   exact⟨v,w',g',hr,ht,back B he⟩
 ·
  rename_i ty x kx R;split at h;rotate_left;cases h;rename_i I e k off o' m' r i hx hy;split at h;rotate_left;cases h;rename_i n j l era m ij hh lV;split at h;rotate_left;cases h;rename_i ti hi;obtain⟨hb,f⟩|⟨_,f⟩:=ah h
  rotate_left;cases f;clear h;simp only[eX,Ox]at hb
  let ⟨b1,b2,b3,b4,b5,b6,b7,b8,b9,b10⟩:=hb
  have e1:=beq_iff'.1 b1;subst e1;have e2:=beq_iff'.1 b2;subst e2;have e3:=beq_iff'.1 b3;subst e3;have e4:=beq_iff'.1 b4;subst e4;have e5:=beq_iff'.1 b5;subst e5;obtain⟨rfl,rfl,rfl⟩:=f;unfold aam at hc;simp only[eX]at hc;have hk:=ug hc.1;have e6:=beq_iff'.1 hc.2.1;subst e6;have e7:=beq_iff'.1 hc.2.2;subst e7
  let ⟨xs,C⟩:=Vk (dc hf hx)
  have A:o'<bO:=iW (hs.lt' C) hs.aH
  let ⟨hl,h1,h2,h3,h4⟩:=JX hs lV C
  have F:(lits off (l.map (enc S (.st n))) hl).length=l.length:=by rw[oJ (by simpa using h1)];simp
  have U7:off<S.width (.st n):=gY b9;have hval:=dc hf (x:=.tmp kx) (v:=.sV o' m' r i) hy
  let ⟨y,hy1,hye⟩:=UQ hval
  have hel:jy (lits off (l.map (enc S (.st n))) hl) i=jJ off (enc S (.st n) l[i]) (hl[i]'(by omega)):=MA (by rw[lK,iZ hk];rfl) (iZ _);have hf':=OR hf (k:=kx) (u:=low (.sV o' m' r i)) (t:=.sym (.lit (.slice y.a y.len y.cap))) (by show(bM fr).get kx=_;rw[cq,hy];rfl) (gY b10) (by rw[hye];exact .sym _ _ (.lit _));have ahQ:kC (Wx (bM fr) (.tmp kx) (.sym (.lit (.slice y.a y.len y.cap)))) (.tmp kx)=Z (.sym (.lit (.slice y.a y.len y.cap))):=by show((bM fr).tm.set aP kx _).get kx=_;rw[Tr.aX _ _ _ _ (gY b10),bH rfl]
  have ash:kC (Wx (bM fr) (.tmp kx) (.sym (.lit (.slice y.a y.len y.cap)))) x=Z (.mC o' e i off):=by
   have h0:=cH hx;cases x with
   |tmp k2=>
    show((bM fr).tm.set aP kx _).get k2=_;rw[Tr.dK _ _ _ _ _ (λe=>by
     subst e;have h5:fr.get k2=Z (.mC o' e i off):=hx;rw[hy]at h5;cases h5)]
    exact h0
   |_=>exact h0
  have alI:(jJ off (enc S (.st n) l[i]) (hl[i]'(by omega))).Rw off [.lit (.slice y.a y.len y.cap)]=jJ off (enc S (.st n) l[i]) (.slice y.a y.len y.cap):=by
   have hlt:off<(enc S (.st n) l[i]).cells.length:=by rw[lq hS];exact U7
   show D.agg _=D.agg _
   congr 1
   rw[List.take_set_of_le (eP _),m8,List.drop_set_of_lt (Nat.lt_succ_self _)];apply OL;intro q;simp only[wv,tS,Me,Sa,Ke,OM,m8];obtain hq|hq|hq:=Nat.lt_trichotomy q off
   rw[bH (by omega),bH hq,bS (by omega)];subst hq;rw[bS (by omega),bH (by omega),bH rfl,bH hlt];simp[Nat.min_eq_left (Ka hlt)];rw[bS (by omega),bS (by omega),bS (by omega)]
   congr 1
   omega
  have hby:(jJ off (enc S (.st n) l[i]) (.slice y.a y.len y.cap)).s9=(jJ off (enc S (.st n) l[i]) (hl[i]'(by omega))).s9:=by
   let ⟨a0,n0,m0,he0⟩:=h3.1 i _ (iZ (by omega:i<hl.length))
   rw[he0,<-Bw off (enc S (.st n) l[i]) [] a0 n0 m0,<-Bw off (enc S (.st n) l[i]) [] y.a y.len y.cap]
  have aer:(jJ off (enc S (.st n) l[i]) (hl[i]'(by omega))).isAgg (S.width (.st n))=W:=by
   let ⟨a0,n0,m0,he0⟩:=h3.1 i _ (iZ (by omega:i<hl.length))
   rw[he0];show(Nq (cM ((enc S (.st n) l[i]).cells.set off _)) _&&((enc S (.st n) l[i]).cells.set off _).all D.leaf)=W;rw[eX,bZ,Md,lq hS];refine⟨beq_iff'.2 rfl,kU.2 λd hd=>?_⟩;obtain hd|rfl:=YL hd
   rw[show(enc S (.st n) l[i]).cells=fj S (S.fs n) (S.get n l[i])from hS.cells n _]at hd;exact iD _ _ (hS.leaf n) d hd;rfl
  have hput:zC (lits off (l.map (enc S (.st n))) hl) i (jJ off (enc S (.st n) l[i]) (.slice y.a y.len y.cap))=lits off (l.map (enc S (.st n))) (hl.set i (.slice y.a y.len y.cap)):=by apply OL;intro q;simp[zC,lits];by_cases hq:i=q;subst hq;rw[OP (by simp;omega),OO,lK,OP (by omega),iZ hk];rfl;rw[List.getElem?_set_ne hq,OO,OO,List.getElem?_set_ne hq]
  let ⟨⟨v,w',g',hr,B,he,ht⟩,q1,q2,q3⟩:=nX hT hf' h4 o (t:=Ue) (s':={mG s o' (.arr (S.width (.st n)) (lits off (l.map (enc S (.st n))) hl) e)with ob:=(mG s o' (.arr (S.width (.st n)) (lits off (l.map (enc S (.st n))) hl) e)).ob.set aP o' (.arr (S.width (.st n)) (lits off (l.map (enc S (.st n))) (hl.set i (.slice y.a y.len y.cap))) e)})
   (p:=(D.lit (.slice y.a y.len y.cap)).leaf=W/\(True/\True)/\[D.lit (.slice y.a y.len y.cap)].all D.leaf=W/\mj (i:Int) (eT (lits off (l.map (enc S (.st n))) hl))/\(jJ off (enc S (.st n) l[i]) (hl[i]'(by omega))).Uj (S.width (.st n)) off (cM [D.lit (.slice y.a y.len y.cap)])/\Nl (Na off (cM [D.lit (.slice y.a y.len y.cap)])) (S.width (.st n))=W/\((jJ off (enc S (.st n) l[i]) (hl[i]'(by omega))).Rw off [.lit (.slice y.a y.len y.cap)]).s9=(jJ off (enc S (.st n) l[i]) (hl[i]'(by omega))).s9) (by
   rw[R];have hg:=gP (s:=s) A (.arr (S.width (.st n)) (lits off (l.map (enc S (.st n))) hl) e) o';rw[bH rfl]at hg;have asR:Nl (mG s o' (.arr (S.width (.st n)) (lits off (l.map (enc S (.st n))) hl) e)).fl o'=W:=b8;simp[o5,hi,ash,ahQ,storeT,kN,b7,b6,jP,iq,oF,Ct,iP,freeze,hg,asR,show Nq e e=W from beq_iff'.2 rfl,OE,hel,alI,hput]) ⟨rfl,⟨trivial,trivial⟩,rfl,⟨Int.natCast_nonneg _,by show(i:Int)<((lits off (l.map (enc S (.st n))) hl).length:Int);rw[F];exact Int.ofNat_lt.2 hk⟩,.inl aer,OD (by show off+1<=_;omega),by rw[alI,hby]⟩
  have hgn:∀q,({mG s o' (.arr (S.width (.st n)) (lits off (l.map (enc S (.st n))) hl) e)with ob:=(mG s o' (.arr (S.width (.st n)) (lits off (l.map (enc S (.st n))) hl) e)).ob.set aP o' (.arr (S.width (.st n)) (lits off (l.map (enc S (.st n))) (hl.set i (.slice y.a y.len y.cap))) e)}:St).ob.get q=if q=o' then Z (.arr (S.width (.st n)) (lits off (l.map (enc S (.st n))) (hl.set i (.slice y.a y.len y.cap))) e)else(mG s o' (.arr (S.width (.st n)) (lits off (l.map (enc S (.st n))) hl) e)).ob.get q:=λq=>Tr.aX _ _ _ _ A
  refine⟨v,w',g',hr,ht,cU.lF hs (AI B (hl:=hl.set i (.slice y.a y.len y.cap)) A (by rw[hgn,bH rfl]) (by simpa using h1) ⟨λq hv hq=>?_,λq hv hq _=>?_⟩ (by show(s.ob.set aP o' _).get o'=_;rw[Tr.aX _ _ _ _ A,bH rfl]) (λq hq=>?_) rfl) he rfl rfl (eP _) (p9 _ _ _)⟩;rw[Sa]at hq;split at hq;rw[bH (by omega)]at hq;cases hq;exact⟨_,_,_,rfl⟩;exact h3.1 q hv hq;rw[Sa]at hq;split at hq;rename_i e;subst e;rw[bH (by omega)]at hq;cases hq;exact⟨y,he.arr _ _ _ hy1,rfl⟩;rename_i e
  let ⟨yy,k1,k2⟩:=h3.2 q hv hq (λh=>e (ko h))
  exact⟨yy,he.arr _ _ _ k1,k2⟩;rw[hgn,bS hq,gP A,bS hq,aN,aN];show((s.ob.set aP o' _).get q).map dj=_;rw[Tr.aX _ _ _ _ A,bS hq]
 ·
  rename_i ty len parts R;split at h;rotate_left
  .rename_i SK;split at h;rotate_left;cases h;rename_i i e hi MJ;split at h;rotate_left;cases h;rename_i sz ag bt zz wG;obtain⟨hb,f⟩|⟨_,f⟩:=ah h
   rotate_left;cases f;obtain⟨_,rfl,rfl⟩:=f;have F:len=0:=beq_iff'.1 hb;subst F;have hle:Nl (Nat.mul 0 sz) 16777216=W:=by rw[show Nat.mul 0 sz=0 from Nat.zero_mul sz];rfl
   have h0:cP E fr s o.op=Z (W,.kR 0 e [],s):=by rw[R];simp only[cP,hi,MJ,SK,je,wG,hle,iq,List.replicate_zero,pH,dZ,jQ]
   let ⟨p,asi,hp⟩:=OZ hS hTy h0 rfl
   let ⟨⟨v,w',g',hr,B,he,ht⟩,q1,q2,q3⟩:=nX hT hf hs o asi hp
   refine⟨v,w',g',hr,?_,cU.lF hs B he q1 q2 q3 (mR (show dZ s []=Z s from rfl))⟩;cases ht with|kR _ _ a0 hn0 hd=>exact .emp a0
  cases h;rename_i kx SK;split at h;rotate_left;cases h;rename_i i n cs hi MJ hkx;split at h;rotate_left;cases h;rename_i j hnst;split at h;rotate_left;cases h;rename_i sz ag bt zz wG hnj;obtain⟨hb,f⟩|⟨_,f⟩:=ah h
  rotate_left;cases f;clear h;split at f;rotate_left;cases f;rename_i x os hx;simp only[gi,fH]at f;obtain⟨s1,AE,_,rfl,rfl⟩:=f;simp only[eX]at hb;have amd:=beq_iff'.1 hb.1;subst amd;have hkN:kx<bO:=gY hb.2.2
  let ⟨⟨z,Pq,hz⟩,_,_,hpos⟩:=hTy.row _ _ _ hi MJ
  rw[wG]at Pq;obtain⟨rfl,rfl,rfl,rfl⟩:=Kd.slice.inj Pq;have hfz:=dG hS os AE;have hval:=dc hf (x:=.tmp kx) (v:=.agg cs) hkx;generalize hve:a.eval (.tmp kx)=ve at hval;obtain⟨vs,rfl,pE⟩:=aL.U1 hval;have hcj:(bI cs)[j]?=Z .emp:=by rw[kD]at hnj;rw[ff,lK,hnj];rfl
  obtain⟨vj,hvj⟩:∃vj,vs.toList[j]?=Z vj:=by have:=cF hcj;exact⟨_,iZ (by have:=pE.1;omega)⟩
  have asX:=pE.2 j _ _ hcj hvj;obtain⟨c,rfl⟩:∃c,vj=.slice c 0 0:=by cases asX with|emp c=>exact⟨c,rfl⟩
  have alH:aL g w (.agg ((bI cs).set j (.sym (.lit (.slice c 0 0))))) (.agg vs):=by
   refine .agg _ vs (by simpa using pE.1) λq t v h1 h2=>?_;rw[Sa]at h1;split at h1;rename_i e;subst e;rw[bH (cF hcj)]at h1;cases h1;have:vs.toList[j]?=Z v:=by simpa using h2
   rw[hvj]at this;cases this;exact .sym _ _ (.lit _);exact pE.2 q t v h1 (by simpa using h2)
  have hf':=OR hf (k:=kx) (u:=low (.agg cs)) (t:=.agg ((bI cs).set j (.sym (.lit (.slice c 0 0))))) (by rw[cq,hkx];rfl) hkN (by rw[hve];exact alH);have ahQ:kC (Wx (bM fr) (.tmp kx) (.agg ((bI cs).set j (.sym (.lit (.slice c 0 0)))))) (.tmp kx)=Z (.agg ((bI cs).set j (.sym (.lit (.slice c 0 0))))):=by show((bM fr).tm.set aP kx _).get kx=_;rw[Tr.aX _ _ _ _ hkN,bH rfl]
  simp[ck]at hx;split at hx;rotate_left;cases hx;rename_i hh os' C;obtain⟨rfl,rfl⟩:=hx
  let ⟨q,hq,hqp⟩:=qD hS s _ _ C
  let ⟨q',hq',hqq,NS⟩:=N7 (aF s) hq hcj (.slice c 0 0)
  have HO:(enc S (.st n) (S.FC n hh)).cells=fj S (S.fs n) hh:=by show S.cells n _=_;rw[hS.cells,hS.sY]
  have hzl:cM zz=S.width (.st n):=by simp[lf,iq,enc,D.agg.injEq]at hz;rw[hz];simp[Sg.width,bZ];rw[show S.cells n (S.zero (.st n))=_ from hS.cells n _,nq]
  have aav:((lf (.st n)||Nq (S.width (.st n)) 1)&&(Nq (cM zz) (S.width (.st n))&&(!(Nq (S.width (.st n)) 0)&&Nl (Nat.mul 1 (S.width (.st n))) 16777216)))=W:=by rw[hzl];simp only[eX,Ox];refine⟨rfl,beq_iff'.2 rfl,?_,by simpa using hb.2.1⟩;cases hq:Nq (S.width (.st n)) 0 with|false=>rfl|true=>have:=beq_iff'.1 hq;omega
  have aer:(D.agg ((fj S (S.fs n) hh).set j (.lit (.slice c 0 0)))).isAgg (S.width (.st n))=W:=by
   show(Nq (cM ((fj S (S.fs n) hh).set j _)) _&&((fj S (S.fs n) hh).set j _).all D.leaf)=W;rw[eX,bZ,Md,nq];refine⟨beq_iff'.2 (bZ _).symm,kU.2 λd hd=>?_⟩;obtain hd|rfl:=YL hd
   exact iD _ _ (hS.leaf n) d hd;rfl
  have hall:((fj S (S.fs n) hh).set j (.lit (.slice c 0 0))).all D.leaf=W:=by have h0:(Nq (cM ((fj S (S.fs n) hh).set j _)) _&&((fj S (S.fs n) hh).set j (.lit (.slice c 0 0))).all D.leaf)=W:=aer;rw[eX]at h0;exact h0.2
  let ⟨⟨v,w',g',hr,B,he,ht⟩,q1,q2,q3⟩:=nX hT hf' hs o (t:=.kR 1 [D.agg ((fj S (S.fs n) hh).set j (.lit (.slice c 0 0)))]) (s':=aF s1)
   (p:=(q'/\((fj S (S.fs n) hh).set j (.lit (.slice c 0 0))).all D.leaf=W)/\(D.agg ((fj S (S.fs n) hh).set j (.lit (.slice c 0 0)))).isAgg (S.width (.st n))=W/\True) (by
   rw[R];have hps:sR (Wx (bM fr) (.tmp kx) (.agg ((bI cs).set j (.sym (.lit (.slice c 0 0)))))) parts.toList=Z [(0,.agg ((bI cs).set j (.sym (.lit (.slice c 0 0)))))]:=by rw[SK];simp[sR,ahQ]
   simp only[o5,hi,hps,wG,iq,s5,Ct,hq',List.replicate,cM,lf,show Nt 0 (Ns 0)=W from rfl,List.set_cons_zero,iP,hfz,jQ];have ah5:((W||Nq (S.width (.st n)) 1)&&(Nq (cM zz) (S.width (.st n))&&(!(Nq (S.width (.st n)) 0)&&Nl (Nat.mul 1 (S.width (.st n))) 16777216)))=W:=aav;rw[ah5];rfl) ⟨⟨hqq hqp,hall⟩,aer,trivial⟩
  refine⟨v,w',g',hr,?_,cU.lF hs B he q1 q2 q3 (mR AE)⟩;cases ht with|kR _ _ a0 hn0 hd=>refine .qx _ _ c a0 ?_ ?_;rw[HO];exact NS;show dP g'.bF w' (.sl [D.agg ((enc S (.st n) (S.FC n hh)).cells.set j _)]) _;rw[HO];exact hd
 ·
  rename_i ty x hi R;split at h;rotate_left;cases h;rename_i i I r hv Xa hx hh;split at h;rotate_left;cases h;rename_i sz ag bt zz l era n wG lV hn;obtain⟨hb,f⟩|⟨_,f⟩:=ah h
  rotate_left;cases f;simp only[eX]at hb;have hre:=beq_iff'.1 hb.1;subst hre;obtain⟨rfl,rfl,rfl⟩:=f;have hc':=BI hc
  let ⟨xs,C,hval⟩:=Gm (dc hf hx)
  let ⟨p,hp1,hp⟩:=gN hn
  have e1:=dY hp1 hp (dc hf hh);have hlo:(aF s).ob.get I=Z (.arr (S.width (.int .i64)) (l.map (enc S (.int .i64))) r):=by show(s.ob.map dj).get I=_;rw[Tr.get_map,lV];rfl
  let ⟨Jy,ad8⟩:=hs.oc (fz:=J) hlo C
  let ⟨c0,c1,c2⟩:=hc'
  have F:xs.len=l.length:=by rw[Jy.len];simp
  have hcap:=Jy.cap;have c2':n<=(l.length:Int):=c2
  let ⟨xi,d1,z1,Pn,Eu,_,_,_,_,hk⟩:=(hT.ti _ _ Xa).all
  rw[wG]at hk;obtain⟨el,j,d',zv,rfl,hj,yX,_⟩:=hk;have K:=nS (P:=E.E.P) (w:=w) W xs.len xs.cap (low:=Y) (high:=Z (.int .i64 n)) (lo:=0) (hi:=n) (.inl ⟨rfl,rfl⟩) (.inr rfl) (by omega) (by omega) (by omega)
  let x':fy:=⟨xs.a,n.toNat,xs.cap,xs.sz⟩
  have z8:∀b,x'.at b->xs.at b:=λb h=>h
  let ⟨B,he⟩:=hs.am7 (w':=w) hlo C (x':=x') (es':=(cO l 0 n).map (enc S (.int .i64))) (gY hb.2) rfl rfl (eP _) (λ_ _ _=>rfl) (λb h=>⟨by
   let ⟨ad,h1,h2,h3⟩:=h
   have:=(hs.arr _ _ _ C).1 ad h1 h3;omega,.inr (z8 b h)⟩) (by
   have hsub:cO l 0 n=l.take n.toNat:=by simp[cO]
   rw[hsub];refine⟨by simp[x'];omega,by show n.toNat<=xs.cap;omega,λd hd=>?_,Jy.pos,λd hd=>?_,λh0=>?_⟩;exact Jy.rows d (by grind);refine gE (zU _ ?_) (Jy.Yb d (by grind));simp;omega
   let ⟨b,vs,ty,k1,k2,k3,k4,k5⟩:=Jy.mem h0
   exact⟨b,vs,ty,k1,k2,k3,k4,λi d j c h1 h2=>k5 i d j c (by grind) h2⟩) ad8
  refine⟨.slice xs.a n.toNat xs.cap,w,_,.inl ?_,?_,cU.lF hs (by rw[eJ];exact B) he rfl rfl (eP _) (p9 _ _ _)⟩;have hrun:(Instr.sliceAt ty (.slice xs.a xs.len xs.cap) Y (Z (.int .i64 n)) Y).run E.E.P w=.ok (.slice xs.a n.toNat xs.cap) w:=by simp only[Instr.sliceAt,Instr.slice,run_bind,aO Eu,andThen_ok,dD hj,yX,K];cases xs.a<;>simp[Addr.add]
  simp[execOp,R,hval,e1,hrun];exact .sh _ _ _ _ xs.sz _ (Gh.fS _ _ _ _)
 cases h
end
section
variable {g:Gh}{w:az}
theorem bg.adm{s:St}(hs:bg g s w){m sz r:Nat}{iY:L (L D)}(o:s.ob.get m=Z (.rws sz iY r))(C:m<s.aH)(h0:0<sz)(c:O Addr) :
  bg (g.era m (rc r iY.length) ⟨c,0,0,sz⟩) {s with ob:=s.ob.set aP m (.rws sz (iY++[[]]) r)} w/\Ext s.fl g w (g.era m (rc r iY.length) ⟨c,0,0,sz⟩) w:=by
 have E:m<bO:=iW C hs.aH;have F:g.arr m (rc r iY.length)=Y:=by
  cases h:g.arr m (rc r iY.length)with
  |none=>rfl|some y=>
   let ⟨_,S,h2,_⟩:=(hs.qX o h).2.2 _ rfl
   simp_all
 have f:∀k j y,g.arr k j=Z y->(g.era m (rc r iY.length) ⟨c,0,0,sz⟩).arr k j=Z y:=λk j y h=>by
  rw[Gh.cW];exact h
  grind
 have d:∀k b,bL (g.era m (rc r iY.length) ⟨c,0,0,sz⟩) k b->bL g k b:=by
  rintro k b ⟨h1,h2|⟨j,y,A,h2,h3,h4,h5⟩⟩
  exact⟨h1,.inl h2⟩;by_cases p:k=m/\j=rc r iY.length;obtain⟨rfl,rfl⟩:=p;rw[Gh.fS]at h2
  grind
  rw[Gh.cW _ _ _ _ _ _ p]at h2;exact⟨h1,.inr ⟨j,y,A,h2,h3,h4,h5⟩⟩
 have he:Ext s.fl g w (g.era m (rc r iY.length) ⟨c,0,0,sz⟩) w:=
  ⟨λ_ _ h=>h,f,λ_ h=>h,eP _,λ_ _ _=>rfl,λk b h=>.inl (d k b h),λ_ h=>.inl h,rfl,rfl⟩
 have eu:∀k,(s.ob.set aP m (.rws sz (iY++[[]]) r)).get k=if k=m then Z (.rws sz (iY++[[]]) r)else s.ob.get k:=λk=>Tr.aX _ _ _ _ E
 have hnb:=hs.Bg o rfl;refine⟨⟨hs.aH,λk hk=>⟨(hs.aj k hk).1,λj=>?_⟩,λk b hb=>?_,λk j y l=>?_,hs.bF,λk k' b h h'=>hs.kj k k' b (d k b h) (d k' b h')⟩,he⟩;rw[Gh.cW _ _ _ _ _ _ (by grind)];exact(hs.aj k hk).2 j;have I:g.bX k=Z b:=hb;have e:k≠m:=by grind
 let ⟨h1,h2,h3⟩:=hs.box k b I
 refine⟨h1,h2,λob a=>?_⟩;rw[eu,bS e]at a
 let ⟨x,k1,k2⟩:=h3 ob a
 exact⟨x,k1,k2.ext he hs.bF⟩;by_cases e:k=m;subst e;have hcl:∀n i,r<n->g.arr k (rc n i)=Y:=λn i q=>by cases h:g.arr k (rc n i)with|none=>rfl|some z=>rw[(hs.qX o h).1 n i q]at h;cases h
 have K:∀A,y.a=Z A->y.cap≠0->A.block<w.heap.size:=by
  by_cases B:j=rc r iY.length;subst B;rw[Gh.fS]at l
  grind
  rw[Gh.cW _ _ _ _ _ _ (λh=>B h.2)]at l;exact(hs.arr k j y l).1
 refine⟨K,λob a=>?_⟩;rw[eu,bH rfl]at a;obtain rfl:=ko a;refine .inr (.inr (.inl ⟨sz,iY++[[]],r,rfl,λn i q=>?_,λi1 i2 y1 y2 P h1 h2 b t u=>?_,λi B=>?_⟩))
 grind[Gh.cW,sQ]
 by_cases v:i1=iY.length;subst v;rw[Gh.fS]at h1;cases h1
 let ⟨_,_,_,h⟩:=t
 grind
 by_cases e2:i2=iY.length;subst e2;rw[Gh.fS]at h2;cases h2
 let ⟨_,_,_,h⟩:=u
 grind
 rw[Gh.cW _ _ _ _ _ _ (λh=>v (sQ h.2).2)]at h1;rw[Gh.cW _ _ _ _ _ _ (λh=>e2 (sQ h.2).2)]at h2;exact(hs.qX o h1).2.1 i1 i2 y1 y2 P h1 h2 b t u;subst B;by_cases v:i=iY.length;subst v;rw[Gh.fS]at l;cases l;exact⟨rfl,[],by simp,⟨rfl,eP _,by simp,h0,by simp,λh=>absurd rfl h⟩⟩;rw[Gh.cW _ _ _ _ _ _ (λh=>v (sQ h.2).2)]at l
 let ⟨q1,S,q2,q3⟩:=(hs.qX o l).2.2 i rfl
 exact⟨q1,S,by grind,q3.kJ rfl⟩;have R:g.arr k j=Z y:=by grind[Gh.cW]
 let ⟨h1,h2⟩:=hs.arr k j y R
 refine⟨h1,λob a=>?_⟩;rw[eu,bS e]at a;exact(h2 ob a).tr (λh=>h.kJ rfl) f (funext λj=>Gh.cW _ _ _ _ _ _ (λh=>e h.1)) (λ_ _ _=>⟨rfl,wu⟩)
variable {a:Act}{o:Oper}{n j:Nat}
def Ln{P:cV}{c:Call}(f:o.op=.call c)(k:c.callee=.builtin .append){u v:Operand}{ty d:TypeId}(l:c.args=#[u,v])(g:c.argTypes=#[ty,d]){R:aD->az->Prop}(h:Jg P ty d o.type (a.eval u) (a.eval v) w R)
  {K:Act->az->Prop} {Q:Exit->Act->az->Prop} (i:∀v w',R v w'->K (a.put o.dst v) w'):o.wp P a w K Q\/(o.asks P a w/\LetsOut Q):=by
 let ⟨r,w',e,j⟩:=h
 left
 unfold Oper.wp;have b:(execOp a.eval o).run P w=.ok (.value r) w':=by
  simp_all[execOp,resolve,invoke,builtin]
 rw[b];exact i r w' j
theorem args2{l:Array Operand}{a:Act}{x y:T}(b:PW (aL g w) [x,y] (l.toList.map a.eval)):∃u v,l=#[u,v]/\aL g w x (a.eval u)/\aL g w y (a.eval v):=by
 have d:l.size=2:=by have:=b.1;simp_all
 obtain⟨u,v,c⟩:∃u v,l=#[u,v]:=⟨l[0],l[1],by
  grind⟩
 exact⟨u,v,c,b.2 0 _ _ rfl (by simp[c]),b.2 1 _ _ rfl (by simp[c])⟩
def adJ(a:fE S){t:Ty}(b:E7 S n j t=W)(x:S.A n)(c:O Addr)(p q:Nat):(jJ j (enc S (.st n) x) (.slice c p q)).s9=(enc S (.st n) x).s9:=by
 have h:Bx j (enc S (.st n) x) ((Jz n j t x).map (enc S t))=enc S (.st n) x:=by
  show D.agg ((S.cells n x).set j _)=D.agg (S.cells n x);have:(S.cells n x)[j]?=Z (.sl ((Jz n j t x).map (enc S t))):=by rw[a.cells];exact KO (Iq b)
  rw[J2 this]
 rw[<-Bw j _ ((Jz n j t x).map (enc S t)),h]
def WU(b:fE S)(x:S.A n)(c:O Addr)(p q:Nat):(jJ j (enc S (.st n) x) (.slice c p q)).flat=W:=by
 show((S.cells n x).set j _).all D.leaf=W;refine kU.2 λd a=>?_;obtain a|rfl:=YL a
 rw[b.cells]at a;exact iD _ _ (b.leaf n) d a;rfl
def Iy{E:gC}(hS:fE S)(hT:Cc E.E)(hEE:Rl E.E)(hTy:TB S E){fr:cr S}{s s':bx S}(hf:cZ g (bM fr) a w)(hs:bg g (aF s) w){cl:Call}(hop:o.op=.call cl){b:Builtin}(hb:cl.callee=.builtin b){args:L (V S)}(hargs:kB fr cl.args.toList=Z args){c:aa}{t:V S}
  (h:nu E s b cl.argTypes args=Z (c,t,s')) (hc:c=W) {K:Act->az->Prop} {Q:Exit->Act->az->Prop} (hK:∀g' v w',cU [] s g w s' g' w'->aL g' w' (low t) v->K (a.put o.dst v) w') :
  o.wp E.E.P a w K Q\/(o.asks E.E.P a w/\LetsOut Q):=by
 have pE:=fe hf (hJ hargs);unfold nu at h;split at h
 ·
  rename_i f r;split at h;rotate_left;cases h;rename_i n j l era m ij hole lV;split at h;rotate_left;cases h;rename_i i B hi MJ;split at h;rotate_left;cases h;rename_i sz ag bt zz wG;obtain⟨P,h9⟩|⟨_,h9⟩:=ah h
  rotate_left;cases h9;simp only[eX]at P;have hre:=beq_iff'.1 P.1;subst hre;obtain⟨_,rfl,rfl⟩:=h9;have hx0:aL g w (.sh f r) ((cl.args.toList.map a.eval)[0]'(by have:=pE.1;simp[bI]at this;simp;omega)):=pE.2 0 _ _ rfl (iZ _)
  let ⟨xs,hxs,_⟩:=Gm hx0
  have F:f<bO:=iW (hs.lt' hxs) hs.aH
  let ⟨hl,h1,h2,h3,h4⟩:=JX hs lV hxs
  have hlen:(lits j (l.map (enc S (.st n))) hl).length=l.length:=by rw[oJ (by simpa using h1)];simp
  refine zn hEE hf h4 hop hb (hJ hargs) (p:=True) (t:=.sym (.lit (.int .i64 (eT (lits j (l.map (enc S (.st n))) hl))))) (s':=mG s f (.arr (S.width (.st n)) (lits j (l.map (enc S (.st n))) hl) r)) ?_ trivial (k:=λC st'=>C=.sym (.lit (.int .i64 (eT (lits j (l.map (enc S (.st n))) hl))))/\st'=mG s f (.arr (S.width (.st n)) (lits j (l.map (enc S (.st n))) hl) r)) ⟨rfl,rfl⟩ (λC st' g' v w' he xg ht=>?_);have hi':(nth cl.argTypes.toList 0).bind E.E.ti=Z i:=hi;simp only[bI,low,fV,AR,hi',wG,Cz];rw[gP F,bH rfl];simp;obtain⟨rfl,rfl⟩:=he;refine hK g' v w' (cU.lF hs (AI xg.rel F (by rw[gP F,bH rfl]) h1 (h3.le (λj y=>xg.ext.arr m j y)) lV (λk hk=>by rw[gP F,bS hk]) rfl) xg.ext rfl rfl (eP _) (rZ.refl _)) ?_;have e:eT (lits j (l.map (enc S (.st n))) hl)=au l:=by simp[eT,hlen,au]
  rw[e]at ht;exact ht
 ·
  rename_i f r B j' x;split at h;rotate_left;cases h;rename_i n j l era m ij lV;split at h;rotate_left;cases h;rename_i ty tx aid;split at h;rotate_left;cases h;rename_i i i' n'' C A hi hi' MJ hrw;split at h;rotate_left;cases h;rename_i sz ag bt zz sz' ag' bt' zz' new wG Pq hnew
  let ⟨e1,hh⟩:=fU hnew
  cases e1;cases hh;obtain⟨P,h9⟩|⟨_,h9⟩:=ah h
  rotate_left;cases h9;clear h;simp only[eX]at P
  let ⟨b1,b2,b3,b4,b5,b6,b7,b8,b9⟩:=P
  have e1:=beq_iff'.1 b1;subst e1;have e2:=beq_iff'.1 b2;subst e2;have e3:=beq_iff'.1 b3;subst e3;simp only[gV,fH]at h9;obtain⟨U9,rfl,rfl⟩:=h9;have asH:bR (adM l A) (dI l [x])=W:=U9.trans ‹_›;have amb:adM l A=W/\dI l [x]=W:=by simpa[bR]using asH
  have asV:=amb.2;have U9:=OK (show decide _=W from amb.1)
  let ⟨u,v,ha,hu,hv⟩:=args2 pE
  have z8:cl.argTypes=#[ty,tx]:=by apply Array.ext';simpa using aid
  let ⟨xs,hxs,hxe⟩:=Gm hu
  have F:f<bO:=iW (hs.lt' hxs) hs.aH;have hmn:m<s.aH:=gY b6;have hmN:m<bO:=iW hmn hs.aH;have hw0:0<S.width C:=gY b9
  let ⟨szm,hm⟩:=qF (AX hrw)
  have alL:szm=S.width C:=by
   have h1:=hrw;unfold Oi at h1;split at h1;rename_i t0 rss0 r0 I;obtain⟨_,h1⟩|⟨_,h1⟩:=ah h1
   cases h1;rw[aN,I]at hm;cases hm;rfl;cases h1;cases h1
  subst alL;have hom:f≠m:=by rintro rfl;rw[aN,lV]at hm;cases hm
  generalize hvv:a.eval v=vv at hv;cases hv with
  |qx _ _ c ad hcj hcd=>
  let ⟨p1,p2⟩:=hs.adm hm hmn hw0 c
  let s1:bx S:={s with ob:=s.ob.set aP m (.rws C (A++[[]]) ij)}
  have arY:(aF s1)={aF s with ob:=(aF s).ob.set aP m (.rws (S.width C) (A.map (·.map (enc S C))++[[]]) ij)}:=by simp[s1,aF,Tr.mZ,dj,Kb,o7,List.map_nil]
  rw[<-arY]at p1;have CY:s1.ob.get f=Z (.l8 B j l r m ij Y):=by rw[Tr.aX _ _ _ _ hmN,bS hom];exact lV
  have arN:=p2.arr _ _ _ hxs
  let ⟨hl,h1,h2,h3,h4⟩:=JX p1 CY arN
  have aeh:(lits j (l.map (enc S (.st B))) hl).length=l.length:=by rw[oJ (by simpa using h1)];simp
  let ⟨⟨z,R,_⟩,_,_,hpos⟩:=hTy.row _ _ _ hi MJ
  rw[wG]at R;obtain⟨rfl,rfl,rfl,rfl⟩:=Kd.slice.inj R;have as3:aL (g.era m (rc ij (A.map (·.map (enc S C))).length) ⟨c,0,0,S.width C⟩) w (.kR 0 [jJ j (enc S (.st B) x) (.slice c 0 0)]) (.slice ad 1 1):=.kR 0 _ ad (by simp) (hcd.ext p2 hs.bF);have hus:aL (g.era m (rc ij (A.map (·.map (enc S C))).length) ⟨c,0,0,S.width C⟩) w (.sh f r) (a.eval u):=hu.ext p2 hs.bF;have aeq:iK (lits j (l.map (enc S (.st B))) hl) [jJ j (enc S (.st B) x) (.slice c 0 0)]=lits j ((dx l [x]).map (enc S (.st B))) (hl++[.slice c 0 0]):=by simp[iK,lits,dx,Kb,o7,List.map_nil];rw[List.zipWith_append (by simp;omega)];rfl
  have aeo:wj (iK (lits j (l.map (enc S (.st B))) hl) [jJ j (enc S (.st B) x) (.slice c 0 0)]) (An S (.st B)):=by
   intro d hd;rw[aeq]at hd
   let ⟨q,I⟩:=ON hd
   rw[lits,OO]at I;split at I;rename_i hv0 k1 k2;cases I;rw[lK,gi]at k1;obtain⟨xx,_,rfl⟩:=k1;obtain⟨a0,n0,m0,rfl⟩:∃a0 n0 m0,hv0=.slice a0 n0 m0:=by
    rw[tS]at k2;split at k2;exact h3.1 q hv0 k2;have:q-hl.length=0:=by have:=cF k2;simpa using this
    rw[this]at k2;cases k2;exact⟨_,_,_,rfl⟩
   exact⟨by rw[adJ hS b8];exact Dg hS (t:=.st B) xx,WU hS xx a0 n0 m0⟩;cases I
  have hgv:=gP (s:=s1) F (.arr (S.width (.st B)) (lits j (l.map (enc S (.st B))) hl) r);have hkj:i'.kd=.slice sz' ag' bt' zz':=Pq;have hap:=zq (rt:=o.type) (hEE.ti _ _ hi) (hEE.ti _ _ hi') ⟨_,_,_,_,hkj⟩ h4 (x:=.sh f r) (y:=.kR 0 [jJ j (enc S (.st B) x) (.slice c 0 0)]) (vx:=a.eval u) (vy:=.slice ad 1 1)
   (p:=True/\jO [jJ j (enc S (.st B) x) (.slice c 0 0)] (S.width (.st B))/\wj (iK (lits j (l.map (enc S (.st B))) hl) [jJ j (enc S (.st B) x) (.slice c 0 0)]) (An S (.st B))/\D.Vg (lits j (l.map (enc S (.st B))) hl) [jJ j (enc S (.st B) x) (.slice c 0 0)]) (t:=.sh f (Ns r))
   (s':={mG s1 f (.arr (S.width (.st B)) (lits j (l.map (enc S (.st B))) hl) r)with ob:=(mG s1 f (.arr (S.width (.st B)) (lits j (l.map (enc S (.st B))) hl) r)).ob.set aP f (.arr (S.width (.st B)) (iK (lits j (l.map (enc S (.st B))) hl) [jJ j (enc S (.st B) x) (.slice c 0 0)]) (Ns r))}) (by
   have hg0:=hgv f;rw[bH rfl]at hg0;have e1:Nt (mG s1 f (.arr (S.width (.st B)) (lits j (l.map (enc S (.st B))) hl) r)).aH bO=W:=b7;have e2:Nl (mG s1 f (.arr (S.width (.st B)) (lits j (l.map (enc S (.st B))) hl) r)).fl f=W:=b4;simp only[vK,e1,Jt,jP,wG,Cz,hg0,e2,show Nq r r=W from beq_iff'.2 rfl,show Nq (S.width (.st B)) (S.width (.st B))=W from beq_iff'.2 rfl,tX,OE];rfl) ⟨trivial,λd hd=>by
    rw[tR.1 hd];show((enc S (.st B) x).cells.set j _).length=_;rw[Md,lq hS],aeo,by
    have:l.length+1<=17179869184:=by simpa[dI]using asV
    show(lits j (l.map (enc S (.st B))) hl).length+1<=_;rw[aeh];exact this⟩ hus as3
  refine Ln hop hb ha z8 (by rw[hvv];exact hap) (λv w' hR=>?_)
  let ⟨g',r1,r2,r3⟩:=hR
  have hE:=p2.trans r2;refine hK g' v w' (cU.lF hs ?_ hE rfl rfl (eP _) ⟨λ_ h=>ie _ (ie _ h),λk _ hk=>?_,rfl⟩) r3;refine AI r1 (n:=B) (j:=j) (l:=dx l [x]) (era:=Ns r) (m:=m) (ij:=ij) (hole:=Y) (hl:=hl++[.slice c 0 0]) F ?_ (by simp[dx];omega) ⟨λq v I=>?_,λq v I _=>?_⟩ ?_ (λk hk=>?_) rfl;show((mG s1 f _).ob.set aP f _).get f=_;rw[Tr.aX _ _ _ _ F,bH rfl,aeq];rw[tS]at I;split at I;exact h3.1 q v I;have:q-hl.length=0:=by have:=cF I;simpa using this
  rw[this]at I;cases I;exact⟨_,_,_,rfl⟩;rw[tS]at I;split at I
  let ⟨yy,k1,k2⟩:=h3.2 q v I (by simp)
  exact⟨yy,r2.arr _ _ _ k1,k2⟩;have h0:q-hl.length=0:=by have:=cF I;simpa using this
  rw[h0]at I;cases I;refine⟨⟨c,0,0,S.width C⟩,r2.arr _ _ _ ?_,rfl⟩;have:q=(A.map (·.map (enc S C))).length:=by rw[Sb];omega
  rw[this];exact Gh.fS _ _ _ _;show((s.ob.set aP m _).set aP f _).get f=_;rw[Tr.aX _ _ _ _ F,bH rfl];rw[Tr.aX _ _ _ _ F,bS hk,hgv,bS hk,aN,aN];rw[Tr.aX _ _ _ _ F,bS hk];rfl;simp at hk;show((s.ob.set aP m _).set aP f _).get k=_;rw[Tr.dK _ _ _ _ _ hk.1,Tr.dK _ _ _ _ _ hk.2.1]
 ·
  rename_i f m r k y;split at h;rotate_left;cases h;rename_i n j l era m' ij t0 A rera' lV hm0;split at h;rotate_left;cases h;rename_i ty tx aid;split at h;rotate_left;cases h;rename_i C new hi hi' MJ HM;split at h;cases h
  .rename_i sz ag bt zz sz' ag' bt' zz' wG Pq asq;obtain⟨P,h9⟩|⟨_,h9⟩:=ah h
   rotate_left;cases h9;clear h;simp only[eX]at P
   let ⟨b1,b2,b3,b4,b5,b6,b7⟩:=P
   have e1:=beq_iff'.1 b1;subst e1;have e2:=beq_iff'.1 b2;subst e2;have e3:=beq_iff'.1 b3;subst e3;have e4:=j4 b7;subst e4;obtain⟨rfl,rfl,rfl⟩:=h9;have hc1:ei k A=W/\dI (bE A k []) new=W:=by simpa[bR]using hc
   have hk:=ug hc1.1
   let ⟨u,v,ha,hu,hv⟩:=args2 pE
   have z8:cl.argTypes=#[ty,tx]:=by apply Array.ext';simpa using aid
   let ⟨yy,hyy,hue⟩:=UQ hu
   have hm:(aF s).ob.get m=Z (.rws (S.width C) (A.map (·.map (enc S C))) r):=by rw[aN,hm0];rfl
   let ⟨_,rs0,aeb,hok⟩:=(hs.qX hm hyy).2.2 k rfl
   have hrs:rs0=(bE A k []).map (enc S C):=by rw[lK,iZ hk]at aeb;cases aeb;simp[bE,hk]
   subst hrs
   let ⟨q,I,hqp⟩:=AT HM
   let ⟨xi,d1,_,Pn,Eu,_,_,_,_,Pr⟩:=(hEE.ti _ _ hi).all
   let ⟨_,d2,_,_,hu2,_,_,_,_,hk2⟩:=(hEE.ti _ _ hi').all
   rw[Pq]at hk2;obtain⟨e',_,_,_,rfl,_⟩:=hk2
   let ⟨⟨z,R,_⟩,_,_,hpos⟩:=hTy.row _ _ _ hi MJ
   rw[wG]at R;obtain⟨rfl,rfl,rfl,rfl⟩:=Kd.slice.inj R;rw[wG]at Pr;obtain⟨e,ji,d',zv,rfl,hji,yX,_,_,hjz,CX,SU,h0,AF,qq,hb0,hzl⟩:=Pr;have hzs:zv.cells.size=ji.size:=by rw[<-CX.1,hzl,yX]
   have aah:jO (new.map (enc S C)) (S.width C):=tQ hS new;have aeo:wj (iK ((bE A k []).map (enc S C)) (new.map (enc S C))) (An S C):=by rw[vL];exact FN hS _
   let ⟨news,hsrc,hvr,hlen⟩:=AU hs I hqp hv hpos aah (λd hd=>(aeo d (e9 _ hd)).2) hu2
   let ⟨ay,cy,hve,_,arM,SH⟩:=tM hs I hqp hv hpos aah
   have amy:=EM (rt:=o.type) Eu hu2 hji hjz hzs (yX▸hpos) hb0 SU qq hs.bF (yX▸hok) (λb hb=>(hok.at_ hb).2.elim λvs h=>h.elim λty h=>(YM.1 h.2).1) (λd hd=>(aeo d hd).1) (yX▸aah) (yX▸hsrc) (yX▸hvr) (FJ _ hc1.2) (λhne=>by
    obtain⟨ady,api,rfl,U5,hyc,_⟩:=SH hne;refine⟨ady,cy,hve,λz8=>?_,λq I=>?_⟩;obtain Va|⟨o',ho',_⟩:=U5
    exact Bool.noConfusion ((hok.at_ z8).1.2 Va);rw[GY]at ho';unfold OW at ho';split at ho';exact asq _ _ rfl;cases ho';rw[yX]at I;have h1:=hyc (q/S.width C) (q%S.width C) (UB (by rw[OG];exact I)) (Nat.mod_lt _ hpos);have hkk:q/S.width C*S.width C+q%S.width C=q:=by rw[OG];exact Nat.div_add_mod q _
    rw[hkk]at h1;rw[h1];rfl)
   refine Ln hop hb ha z8 (by rw[hue];exact amy) (λv w' hR=>?_)
   let ⟨y',hp⟩:=hR
   rw[yX,vL]at hp;have asm:(aF s).ob.get f=Z (.l8 j (S.width (.st n)) (l.map (enc S (.st n))) era m r Y):=by rw[aN,lV];rfl
   have F:f<bO:=gY b6
   let ⟨r1,r2⟩:=hs.aeW asm hm F hyy hp (gY b5)
   refine hK _ v w' (cU.lF hs (s':={s with ob:=(s.ob.set aP m (.rws C (lM A k (dx (bE A k []) new)) (Ns r))).set aP f (.l8 n j l era m (Ns r) (Z k)),wr:=f::m::s.wr}) ?_ r2 rfl rfl (eP _) ⟨λ_ h=>ie _ (ie _ h),λk' _ hk'=>?_,rfl⟩) ?_;have e:aF {s with ob:=(s.ob.set aP m (.rws C (lM A k (dx (bE A k []) new)) (Ns r))).set aP f (.l8 n j l era m (Ns r) (Z k)),wr:=f::m::s.wr}={aF s with ob:=((aF s).ob.set aP m (.rws (S.width C) ((A.map (·.map (enc S C))).set k ((dx (bE A k []) new).map (enc S C))) (r+1))).set aP f (.l8 j (S.width (.st n)) (l.map (enc S (.st n))) era m (r+1) (Z k))}:=by simp[aF,Tr.mZ,dj,lM,GL]
   rw[e];exact r1;simp at hk';show((s.ob.set aP m _).set aP f _).get k'=_;rw[Tr.dK _ _ _ _ _ hk'.1,Tr.dK _ _ _ _ _ hk'.2.1];rw[hp.val];exact .sV _ _ _ _ _ _ y'.sz _ (by rw[Gh.qY,bH rfl])
  cases h
 cases h
end
section
theorem cr.ke(fr:cr S)(k j:Nat)(v:V S)(h:k<bO):(fr.put k v).get j=if j=k then Z v else fr.get j:=Tr.aX _ _ _ _ h
structure eO(s:bx S)(g:Gh)(w:az)(s':bx S)(g':Gh)(w':az):Prop where
 rel:bg g' (aF s') w'
 ext:o4 s.lo s.fl g w g' w'
 fl:s'.fl=s.fl
 lo:s'.lo=s.lo
 aH:s.aH<=s'.aH
 uF:∀o∈s.wr,o∈s'.wr
 same:∀o,o<s.aH->o∉s'.wr->s'.ob.get o=s.ob.get o
 Ik:∀o∈s.dr,o∈s'.dr
variable {s s':bx S}{g g':Gh}{w w':az}{p:Nat->aa}{v:V S}{a:Act}
def cU.toW{ow:L Nat}(h:cU ow s g w s' g' w'):eO s g w s' g' w':=⟨h.rel,h.ext,h.fl,h.lo,h.aH,h.uF,h.same,h.Ik⟩
def eO.lower{m:Nat}(h:eO {s with lo:=m} g w s' g' w')(a:s.lo<=m):eO s g w {s' with lo:=s.lo} g' w':=
 ⟨⟨h.rel.aH,h.rel.aj,h.rel.box,h.rel.arr,h.rel.bF,h.rel.kj⟩,⟨h.ext.bX,λo e x b k=>h.ext.arr o e x (iW b a) k,h.ext.bF,h.ext.size,h.ext.heap,h.ext.own,h.ext.oN,h.ext.os,h.ext.output⟩,h.fl,rfl,h.aH,h.uF,h.same,h.Ik⟩
theorem eO.refl{s:bx S}{g:Gh}{w:az}(h:bg g (aF s) w):eO s g w s g w:=(cU.refl h).toW
def eO.trans{s s' b:bx S}{g g' c:Gh}{w w' d:az}(h:eO s g w s' g' w')(k:eO s' g' w' b c d):eO s g w b c d:=
 ⟨k.rel,h.ext.trans (h.fl▸h.lo▸k.ext),k.fl.trans h.fl,k.lo.trans h.lo,gE h.aH k.aH,λo a=>k.uF o (h.uF o a),
  λo a e=>(k.same o (iW a h.aH) e).trans (h.same o a (λf=>e (k.uF o f))),λo a=>k.Ik o (h.Ik o a)⟩
mutual
theorem eD{p q:Nat->aa}(h:∀o,p o=W->q o=W):∀v:V S,cQ p v=W->cQ q v=W
 |.ptr o _,c=>h o c|.mC o _ _ _,c=>h o c|.sh o _,c=>h o c|.mp o,c=>h o c|.r9 o,c=>h o c|.uH o,c=>h o c|.ub _,c=>by cases c
 |.qx _ _ _,c=>by cases c
 |.sV o m _ _,c=>by
  simp[cQ,o8]at c ⊢
  grind
 |.fn _ a b,c=>by simp[cQ,o8]at c ⊢;exact c.imp (mM h a) (mM h b)
 |.dn _ v,c=>eD h v c|.agg d,c=>mM h d c|.gX d,c=>mM h d c|.gd _ v,c=>eD h v c|.ty _ _,c=>by cases c
 |.kb _,c=>by cases c
 |.kn _ _,c=>by cases c
 |.dat _,c=>by cases c
 |.mD _ _ _,c=>by cases c
 |.emp,c=>by cases c
 |.kR _ _ _,c=>by cases c
theorem mM{p q:Nat->aa}(h:∀o,p o=W->q o=W):∀l:L (V S),iS p l=W->iS q l=W
 |[],a=>by cases a
 |v::l,a=>by simp[iS,o8]at a ⊢;exact a.imp (eD h v) (mM h l)
end
mutual
theorem qj(os:L Nat):∀v:V S,iX os v=cQ os.contains v
 |.ptr o _=>rfl|.mC o _ _ _=>rfl|.sh o _=>rfl|.mp o=>rfl|.r9 o=>rfl|.uH o=>rfl|.ub _=>rfl|.sV _ _ _ _=>rfl|.qx _ _ _=>rfl|.fn _ a b=>by simp[iX,cQ,wY os a,wY os b]
 |.dn _ v=>qj os v|.agg c=>wY os c|.gX c=>wY os c|.gd _ v=>qj os v|.ty _ _=>rfl|.kb _=>rfl|.kn _ _=>rfl|.dat _=>rfl|.mD _ _ _=>rfl|.emp=>rfl|.kR _ _ _=>rfl
theorem wY(os:L Nat):∀l:L (V S),pg os l=iS os.contains l
 |[]=>rfl|v::l=>by simp[pg,iS,qj os v,wY os l]
end
theorem jf{dr b:L Nat}{aH a:Nat}(h:∀o∈dr,o∈b)(hn:a<=aH)(o:Nat)(c:dU dr aH o=W):dU b a o=W:=by
 simp only[dU,o8,GJ,ri]at c ⊢
 grind[Nat.le_of_ble_eq_true,Nat.ble_eq_true_of_le]
mutual
def dQ(p:Nat->aa):T->aa
 |.ptr o _=>p o|.mC o _ _ _=>p o|.sh o _=>p o|.mp o=>p o|.r9 o=>p o|.uH o=>p o|.sV o m _ _=>p o||p m|.fn _ a b=>jG p a||jG p b|.dn _ v=>dQ p v|.agg c=>jG p c|.gX c=>jG p c|.gd _ v=>dQ p v|_=>J
def jG(p:Nat->aa):L T->aa
 |[]=>J|v::l=>dQ p v||jG p l
end
mutual
def iC(p:Nat->aa):∀v:V S,dQ p (low v)=cQ p v
 |.ty t x=>by
  have:∀l:L D,jG p (l.map .sym)=J:=by
   intro l
   induction l with|nil=>rfl|cons d l e=>simp[jG,dQ,e]
  cases t<;>simp[low,ek,cQ,dQ,this]
 |.kb _=>rfl|.kn _ _=>rfl|.dat _=>rfl|.ptr _ _=>rfl|.mD _ _ _=>rfl|.mC _ _ _ _=>rfl|.sh _ _=>rfl|.emp=>rfl|.kR _ _ _=>rfl|.fn _ a b=>by simp[low,cQ,dQ,rC p a,rC p b]
 |.dn _ v=>by simp[low,cQ,dQ,iC p v]
 |.agg c=>by simp[low,cQ,dQ,rC p c]
 |.gX c=>by simp[low,cQ,dQ,rC p c]
 |.gd _ v=>by simp[low,cQ,dQ,iC p v]
 |.mp _=>rfl|.r9 _=>rfl|.uH _=>rfl|.ub _=>rfl|.sV _ _ _ _=>rfl|.qx _ _ _=>rfl
def rC(p:Nat->aa):∀l:L (V S),jG p (bI l)=iS p l
 |[]=>rfl|v::l=>by simp[bI,jG,iS,iC p v,rC p l]
end
def oI{p:Nat->aa}:∀{l:L T},jG p l=J->∀t∈l,dQ p t=J
 |[],_,t,b=>by cases b
 |a::l,h,t,b=>by
  simp[jG,zS]at h;obtain rfl|b:=gn.1 b
  exact h.1;exact oI h.2 t b
structure afm(p:Nat->aa)(g g':Gh):Prop where
 bX:∀o b,p o=J->g.bX o=Z b->g'.bX o=Z b
 arr:∀o e x,p o=J->g.arr o e=Z x->g'.arr o e=Z x
 bF:∀b,g.bF b->g'.bF b
theorem aL.on{p:Nat->aa}{g g':Gh}{w w':az}(q:afm p g g')(y:kg g.bF w w'){t:T}{v:aD}(h:aL g w t v)(l:dQ p t=J):aL g' w' t v:=by
 induction h with
 |sym d v u=>exact .sym d v (u.mono y q.bF)|kb b=>exact .kb b|kn k n=>exact .kn k n|ptr o off b h=>exact .ptr o off b (q.bX _ _ l h)|mD d off C val K P u=>exact .mD d off C val (q.bF _ K) (λj c B=>by rw[y.cell (by rw[lC];exact K)];grind) (λj c B=>(u j c B).mono y q.bF)
 |mC o e i off len cap sz C h=>exact .mC o e i off len cap sz C (q.arr _ _ _ l h)|sh o e len cap sz a h=>exact .sh o e len cap sz a (q.arr _ _ _ l h)|emp a=>exact .emp a|kR k R a S u=>exact .kR k R a S (u.mono y q.bF)|fn f fs z va vc A E _ _ s F=>simp[dQ,zS]at l;exact .fn f fs z va vc A E (λj t v h1 h2=>s j t v h1 h2 (oI l.1 t (iG h1))) (λj t v h1 h2=>F j t v h1 h2 (oI l.2 t (iG h1)))|dn t x v _ s=>exact .dn t x v (s l)|agg z I A _ s=>exact .agg z I A (λj t v h1 h2=>s j t v h1 h2 (oI l t (iG h1)))|gX z I A _ s=>exact .gX z I A (λj t v h1 h2=>s j t v h1 h2 (oI l t (iG h1)))|gd c t v _ s=>exact .gd c t v (λP=>s P l)|mp o b h=>exact .mp o b (q.bX _ _ l h)|r9 o b h=>exact .r9 o b (q.bX _ _ l h)|uH o b h=>exact .uH o b (q.bX _ _ l h)|ub e b h=>exact .ub e b h|sV o m r i len cap sz a h=>simp[dQ,zS]at l;exact .sV o m r i len cap sz a (q.arr _ _ _ l.2 h)|qx j d c a B u=>exact .qx j d c a B (u.mono y q.bF)
def Gh.base(g:Gh)(p:Nat->aa):Gh:={g with bX:=λo=>if p o=J then g.bX o else Y,arr:=λo e=>if p o=J then g.arr o e else Y}
def Gh.gR(g:Gh)(p:Nat->aa):afm p g (g.base p):=
 ⟨λo b h e=>by simp[Gh.base,h,e],λo e x h k=>by simp[Gh.base,h,k],λ_ h=>h⟩
theorem Gh.BV{g:Gh}{p:Nat->aa}{o b:Nat}(h:(g.base p).bX o=Z b):p o=J/\g.bX o=Z b:=by
 grind[Gh.base]
theorem Gh.BW{g:Gh}{p:Nat->aa}{o e:Nat}{x:fy}(h:(g.base p).arr o e=Z x):p o=J/\g.arr o e=Z x:=by
 grind[Gh.base]
def Gh.fW{k b:Nat}(h:bL (g.base p) k b):p k=J/\bL g k b:=by obtain⟨h1,h2|⟨e,x,a,h2,h3⟩⟩:=h;exact⟨(Gh.BV h2).1,h1,.inl (Gh.BV h2).2⟩;exact⟨(Gh.BW h2).1,h1,.inr ⟨e,x,a,(Gh.BW h2).2,h3⟩⟩
theorem bg.base{g:Gh}{w:az}{s s0:St}(hs:bg g s w){p:Nat->aa}{aH:Nat}(E:∀o,aH<=o->p o=W)(r:s0.aH=aH)(hn:aH<=s.aH)
  (f:∀o ob,p o=J->s0.ob.get o=Z ob->∃a,s.ob.get o=Z a/\sL (dQ p) a ob):bg (g.base p) s0 w:=by
 refine⟨r▸gE hn hs.aH,λo F=>?_,λo b u=>?_,λo e x z=>?_,hs.bF,λo A b h B=>hs.kj o A b (Gh.fW h).2 (Gh.fW B).2⟩
 simp_all[Gh.base]
 let ⟨d,k⟩:=Gh.BV u
 let ⟨h1,h2,h3⟩:=hs.box o b k
 refine⟨h1,h2,λob c=>?_⟩
 let ⟨a,l,n⟩:=f o ob d c
 let ⟨x,h4,h5⟩:=h3 a l
 exact⟨x,h4,h5.left (λt v C i=>C.on (g.gR p) (λ_ _=>rfl) i) n⟩
 let ⟨d,q⟩:=Gh.BW z
 let ⟨h1,h2⟩:=hs.arr o e x q
 refine⟨h1,λob c=>?_⟩
 let ⟨a,l,n⟩:=f o ob d c
 refine(h2 a l).left n (λh=>h.kJ rfl) (λm j y i h=>?_) (funext λI=>by simp[Gh.base,bH d]) (λ_ _ _=>⟨rfl,wu⟩);have i:p m=J:=i
 simp_all[Gh.base]
def ja(a:Act):Sh->L aD->Prop
 |[],[]=>True|(k,.one _)::l,v::b=>a.tmps[k]?=Z v/\ja a l b|(_,.box _)::l,_::b=>ja a l b|(_,.hid _)::l,b=>ja a l b|_,_=>False
def FA{l:L (V S)}{i:Nat}(h:nth l i=Z v):(bI l)[i]?=Z (low v):=by rw[kD]at h;simp[ff,h]
theorem kq{g:Gh}{w:az}{fr:cr S}{s:bx S}{a:Act}(hf:cZ g (bM fr) a w)(hs:bg g (aF s) w):∀{p:Pt}{v:V S},Jm fr s p=Z v->∃u,aL g w (low v) u
 |.slot k,v,h=>by
  let ⟨u,_,e⟩:=hf.tm k (low v) (by rw[cq,show fr.get k=Z v from h];rfl)
  grind
 |.cell p i,v,h=>by
  simp[Jm]at h;split at h;rename_i o d
  let ⟨u,c⟩:=kq hf hs d
  split at h
  .rename_i B f;cases c with
   |ptr _ _ b j=>
    obtain⟨m,ty,q,t,e⟩:=(hs.box o b j).box (by rw[aN,f];rfl);have h1:=FA h;have h2:i<m.size:=by grind
    exact⟨m[i],e i _ _ h1 (uS h2)⟩
  cases h;cases h
 |.cap p i,v,h=>by
  simp[Jm]at h;split at h
  .rename_i d
   let ⟨u,c⟩:=kq hf hs d
   cases c with
   |fn _ _ _ C n t E h1 h2=>
    have y:=FA h;have z:i<n.size:=by grind
    exact⟨n[i],h2 i _ _ y (uS z)⟩
  cases h
 |.NO p k,v,h=>by
  simp[Jm]at h;split at h;rename_i o d
  let ⟨u,c⟩:=kq hf hs d
  split at h
  .rename_i l f;cases c with
   |r9 _ b j=>
    obtain⟨x,q,e⟩:=(hs.box o b j).2.2 _ (by rw[aN,f];rfl);cases e with
    |lp _ r h1 h2 h4 h5 h6 F A=>
     let ⟨u,_,c⟩:=A k (low v) (by
      show(bM l.fr).get k=_;rw[cq,h];rfl)
     grind
  cases h;cases h
def tY{g:Gh}{w:az}{fr:cr S}{s:bx S}{a:Act}(hf:cZ g (bM fr) a w)(hs:bg g (aF s) w):∀{sh:Sh}{ps:L Pt}{bs:L Nat},sr fr s sh ps=Z bs->∃bl,PW (λo b=>g.bX o=Z b) bs bl
 |[],[],bs,h=>by simp only[sr,gV]at h;subst h;exact⟨[],rfl,λj t v h=>by simp at h⟩
 |(k,.one c)::l,ps,bs,h=>tY hf hs (sh:=l) (ps:=ps) (by simpa only[sr]using h)
 |(_,.box k)::l,p::ps,bs,h=>by
  simp[sr]at h;split at h;rename_i v d;split at h
  .rename_i o r h1 h2;simp at h;subst h;obtain rfl:=MD h1
   let ⟨u,e⟩:=kq hf hs d
   let ⟨b,q,_⟩:=Hz e
   let ⟨bl,h3⟩:=tY hf hs h2
   refine⟨b::bl,by simp[h3.1],λj f i m n=>?_⟩;cases j with|zero=>simp_all|succ j=>exact h3.2 j f i (by simpa using m) (by simpa using n)
  cases h;cases h
 |(_,.hid k)::l,p::ps,bs,h=>by
  simp[sr]at h;split at h;rename_i d;split at h
  .rename_i h1 h2;simp at h;subst h;obtain rfl:=MD h1
   let ⟨u,e⟩:=kq hf hs d
   let ⟨b,q,_⟩:=Hz e
   let ⟨bl,h3⟩:=tY hf hs h2
   refine⟨b::bl,by simp[h3.1],λj f i m n=>?_⟩;cases j with|zero=>simp_all|succ j=>exact h3.2 j f i (by simpa using m) (by simpa using n)
  cases h;cases h
 |[],_::_,_,h=>by simp[sr]at h
 |(_,.box _)::_,[],_,h=>by simp[sr]at h
 |(_,.hid _)::_,[],_,h=>by simp[sr]at h
theorem Fm{g:Gh}{w:az}{fr:cr S}{a:Act}(hf:cZ g (bM fr) a w):∀{sh:Sh}{bs bl:L Nat}{vs:L (V S)},wo fr sh bs=Z vs->PW (λo b=>g.bX o=Z b) bs bl->∃vals,ja a sh vals/\PW (aL g w) (bI vs) vals
 |[],[],bl,vs,h,_=>by simp only[wo,gV]at h;subst h;exact⟨[],trivial,rfl,λj t v h=>by grind⟩
 |(k,.one c)::l,bs,bl,vs,h,d=>by
  simp[wo]at h;split at h
  .rename_i v r h1 h2;simp at h;subst h
   let ⟨vals,h3,h4⟩:=Fm hf h2 d
   let ⟨u,p,s⟩:=hf.tm k (low v) (by rw[cq,h1];rfl)
   refine⟨u::vals,⟨p,h3⟩,by simp[bI,l5,h4.1],λj t i e f=>?_⟩;cases j with|zero=>grind[bI]|succ j=>exact h4.2 j t i (by simpa[bI]using e) (by simpa using f)
  cases h
 |(_,.box k)::l,o::bs,b::bl,vs,h,d=>by
  simp[wo]at h;split at h
  .rename_i h2;simp at h;subst h;have q:g.bX o=Z b:=d.2 0 _ _ rfl rfl
   let ⟨vals,h3,h4⟩:=Fm hf h2 (bl:=bl) ⟨by simpa using d.1,λj m n e f=>d.2 (j+1) m n (by simpa using e) (by simpa using f)⟩
   refine⟨MC k b::vals,h3,by simp[bI,l5,h4.1],λj t i e f=>?_⟩;cases j with|zero=>grind[bI,Pd]|succ j=>exact h4.2 j t i (by simpa[bI]using e) (by simpa using f)
  cases h
 |(_,.box k)::l,o::bs,[],vs,h,d=>absurd d.1 (by simp)
 |(_,.hid k)::l,o::bs,b::bl,vs,h,d=>by
  simp[wo]at h
  let ⟨vals,h3,h4⟩:=Fm hf h (bl:=bl) ⟨by simpa using d.1,λj m n e f=>d.2 (j+1) m n (by simpa using e) (by simpa using f)⟩
  exact⟨vals,h3,h4⟩
 |(_,.hid k)::l,o::bs,[],vs,h,d=>absurd d.1 (by simp)
 |[],_::_,_,_,h,_=>by simp[wo]at h
 |(_,.box _)::_,[],_,_,h,_=>by simp[wo]at h
 |(_,.hid _)::_,[],_,_,h,_=>by simp[wo]at h
structure IP(sh:Sh)(bs:List Nat)(a:Act)(g:Gh)(s:bx S)(w:az)(x:gp S.A (lY sh))(s2:bx S)(ow:List Nat)(g2:Gh)(vals:List aD)(al:List fy)(bl:List Nat):Prop where
 rel:bg g2 (aF s2) w
 ext:Ext s.fl g w g2 w
 pr:rY S g2.bF w (lY sh) x vals al bl
 at_:ja a sh vals
 alr:AL g2 al ow
 Ji:PW (λo b=>g2.bX o=Z b) bs bl
 now:ow.Nodup
 Zr:∀o∈ow,s.fl<=o/\s.lo<=o/\o<s.aH
 nbs:bs.Nodup
 Vv:∀o∈bs,s.fl<=o/\o<s.aH/\o∉ow/\∀e,g2.arr o e=Y
 fl:s2.fl=s.fl
 lo:s2.lo=s.lo
 aH:s2.aH=s.aH
 uF:∀o∈s.wr,o∈s2.wr
 same:∀o,o∉s2.wr->s2.ob.get o=s.ob.get o
 dr:s2.dr=s.dr
 ap:yb al
 owb:∀o∈ow,g.bX o=Y
def kX(hS:fE S){s2:bx S}{fr:cr S}(hf:cZ g (bM fr) a w)(hs:bg g (aF s) w){sh:Sh}{bs ow:L Nat}{x:gp S.A (lY sh)}{bl0:L Nat}(q:PW (λo b=>g.bX o=Z b) bs bl0)(h:rm sh bs fr s=Z (x,s2,ow)) :
  ∃g2 vals al bl,IP sh bs a g s w x s2 ow g2 vals al bl:=by
 unfold rm at h;split at h;cases h;rename_i i;split at h;cases h;rename_i x' P ow' k z;split at h;cases h;rename_i s1 A;obtain⟨p,h2⟩|⟨_,h2⟩:=ah h
 rotate_left;cases h2;clear h;simp only[eX]at p;simp at h2;obtain⟨rfl,rfl,rfl⟩:=h2
 let ⟨vals,R,pE⟩:=Fm hf i q
 have r:=mz p.1;have hap:=Ap p.2.1;have t:=mz p.2.2.1;have hbb:k=bs:=by
  have h1:k.length=bs.length:=by have:=beq_iff'.1 p.2.2.2.1;rwa [bZ,bZ]at this
  have h2:=p.2.2.2.2;clear p z t i q
  induction k generalizing bs with
  |nil=>cases bs with|nil=>rfl|cons=>simp at h1
  |cons c cs ih=>cases bs with|nil=>simp at h1|cons d ds=>simp only[List.zip_cons_cons,List.all_cons,eX]at h2;rw[beq_iff'.1 h2.1,ih (by simpa using h1) h2.2]
 subst hbb
 let ⟨p1,B,p4,p3⟩:=kY hS hs z pE (λo f=>by cases f)
 have hfl:=dG hS _ A
 let ⟨K,l,C,hfr⟩:=eK P hs hfl p1
 let ⟨f1,f2,f3,f4,f5,f6,f7⟩:=eS A
 let ⟨al,bl,m,E,u⟩:=p3 K (aF s1) P l C hfr (λo f=>f) (λo f=>by rw[aN,aN,f6 o (hap o f)])
 have v:∀o∈k,∃ob,s1.ob.get o=Z ob/\s.ob.get o=Z ob/\j5 ob=W:=by
  intro o f
  let ⟨_,F,i,n⟩:=p4 o f
  have hnf:o∉P:=λhm=>by have:=(p1 o hm).oM (by rw[aN,i];rfl);rw[oG n]at this;cases this
  exact⟨F,by rw[f6 o hnf];exact i,i,n⟩
 have I:∀o∈k,∃b,K.bX o=Z b:=by
  intro o f;obtain⟨j,hj,rfl⟩:=sd f;have hj':j<bl.length:=by have:=u.1;omega
  exact⟨bl[j],u.2 j _ _ (iZ hj) (iZ hj')⟩
 refine⟨K,vals,al,bl,l,C,m,R,E,u,r,λo f=>⟨(B o f).1,(B o f).2.1,(B o f).2.2.1⟩,t,λo f=>?_,f1,f2,f3,f4,f5,f7,E.apart l r m.iQ,λo f=>?_⟩;rotate_left
 let ⟨_,_,_,oba,y,hB⟩:=B o f
 exact hs.Bg ((aN s o).trans (by rw[y];rfl)) (vI hB)
 let ⟨F,hv1,hv2,n⟩:=v o f
 refine⟨(p4 o f).1,?_,λhm=>?_,λe=>?_⟩
 let ⟨b,p⟩:=I o f
 have:=l.lt p;have e1:(aF s1).aH=s1.aH:=rfl;omega
 let ⟨_,_,_,oba,y,hB⟩:=B o hm
 rw[hv2]at y;cases y;have:=vI hB;rw[oG n]at this;cases this;cases y:K.arr o e with
 |none=>rfl|some x'=>
  exfalso
  let ⟨_,h2⟩:=l.arr o e x' y
  exact A8 n (h2 _ (by rw[aN,hv1];rfl))
def arI:Pk->aa|.one _=>J|_=>W
structure Ci(ex:List Nat)(sh:Sh)(bs:List Nat)(a:Act)(gb:Gh)(kf:cr S)(s0:bx S)(w:az)(al:List fy)(gh:Gh)(CZ:cr S)(zJ:bx S):Prop where
 rel:bg gh (aF zJ) w
 fr:cZ gh (bM CZ) a w
 le:nD gb gh
 bF:gh.bF=gb.bF
 own:∀k b,bL gh k b->bL gb k b\/(s0.aH<=k/\∃a∈al,a.at b)
 fl:zJ.fl=s0.fl
 lo:zJ.lo=s0.lo
 aH:s0.aH<=zJ.aH
 wr:zJ.wr=s0.wr
 dr:zJ.dr=s0.dr
 ob:∀o,o<s0.aH->o∉bs->zJ.ob.get o=s0.ob.get o
 bX:gh.bX=gb.bX
 arr:∀o,o<s0.aH->∀e,gh.arr o e=gb.arr o e
 n:CZ.n=kf.n
 Qj:CZ.df=kf.df
 get:∀k,k∉ex->(∀p∈sh,p.1=k->arI p.2=W)->CZ.get k=kf.get k
theorem xd{a:Act}{w:az}:∀{sh:Sh}{bs:L Nat}{x:gp S.A (lY sh)}{vals:L aD}{al:L fy}{bl:L Nat}{gb:Gh}{kf CZ:cr S}{s0 zJ:bx S},nJ sh bs x kf s0=Z (CZ,zJ)->kf.n<=bO->
  rY S gb.bF w (lY sh) x vals al bl->ja a sh vals->PW (λo b=>gb.bX o=Z b) bs bl->(∀o∈bs,∀e,gb.arr o e=Y)->(∀a∈al,∀b,a.at b->∀o,¬bL gb o b)->yb al->cZ gb (bM kf) a w->bg gb (aF s0) w->
  ∃gh,Ci [] sh bs a gb kf s0 w al gh CZ zJ:=by
 intro sh
 induction sh with
 |nil=>
  intro bs x vals al bl gb kf CZ s0 zJ h hn hp C g hna hfr hap F hs;cases bs with
  |nil=>obtain⟨rfl,rfl⟩:=h;exact⟨gb,hs,F,nD.refl _,rfl,λ_ _ h=>.inl h,rfl,rfl,eP _,rfl,rfl,λ_ _ _=>rfl,rfl,λ_ _ _=>rfl,rfl,rfl,λ_ _ _=>rfl⟩
  |cons o bs=>simp[nJ]at h
 |cons q sh ih=>
  intro bs x vals al bl gb kf CZ s0 zJ h hn hp C g hna hfr hap F hs
  let ⟨k,pk⟩:=q
  cases pk with
  |one c=>
   cases hp with
   | @one _ _ n xr v vs EN Cb bl h1 h2=>
   let ⟨hv,C⟩:=C
   obtain⟨hb,h⟩|⟨_,h⟩:=ah h
   rotate_left;cases h;simp only[eX]at hb;have hk:k<kf.n:=gY hb.1;have I:(wJ s0 c n).2.aH<=bO:=gY hb.2;have l:=uQ.1 hap
   let ⟨K,d,pE⟩:=nQ (cs:=[c]) (x:=(n,())) h1 hs (λa ha=>hfr a (gf _ ha)) l.1 (by simpa[iF]using I)
   have e1:(iF s0 [c] (n,())).1=[(wJ s0 c n).1]:=rfl;have e2:(iF s0 [c] (n,())).2=(wJ s0 c n).2:=rfl;have hv1:aL K w (low (wJ s0 c n).1) v:=pE.2 0 _ _ rfl rfl;have P:cZ K (bM (kf.put k (wJ s0 c n).1)) a w:=by
    refine⟨F.size,F.df.imp (λ_ _ ht=>ht.le d.le) d.le.bX,λj t s=>?_⟩;rw[cq,cr.ke _ _ _ _ (iW hk hn)]at s;by_cases hjk:j=k
    simp_all
    rw[bS hjk]at s
    let ⟨u,R,hr⟩:=F.tm j t (by rw[cq];exact s)
    exact⟨u,R,hr.le d.le⟩
   let ⟨gh,f⟩:=ih (gb:=K) h (by simpa[cr.put]using hn) (d.bF▸h2) C (by rw[d.bX];exact g) (λo ho e=>by
     have hol:o<s0.aH:=by
      obtain⟨j,s,rfl⟩:=sd ho;have hj':j<bl.length:=by have:=g.1;omega
      exact hs.lt (g.2 j _ _ (iZ s) (iZ hj'))
     rw[d.arr o hol]
     grind) (λa ha b hb o m=>by
     obtain m|⟨_,a2,ha2,qq⟩:=d.own o b m
     grind
     grind) l.2.1 P d.rel
   refine⟨gh,f.rel,f.fr,d.le.trans f.le,f.bF.trans d.bF,λk' b m=>?_,f.fl.trans d.fl,f.lo.trans d.lo,gE d.aH f.aH,f.wr.trans d.wr,f.dr.trans d.dr,λo ho A=>?_,f.bX.trans d.bX,λo ho e=>?_,f.n,f.Qj,λj hex s=>?_⟩;obtain m|⟨y,E,z,k3⟩:=f.own k' b m
   obtain m|⟨y,E,z,k3⟩:=d.own k' b m
   exact .inl m
   grind
   exact .inr ⟨gE d.aH y,E,e9 _ z,k3⟩;rw[f.ob o (iW ho d.aH) A];exact d.ob o ho;rw[f.arr o (iW ho d.aH)];exact d.arr o ho e;rw[f.get j hex (λp hp=>s p (ie _ hp)),cr.ke _ _ _ _ (iW hk hn),bS];intro hjk;cases s (k,.one c) eN hjk.symm
  |box B=>
   cases hp with
   | @box _ _ n xr b hx vs EN Cb bl hhp h1 h2=>
   cases bs with
   |nil=>exact absurd g.1 (by simp)
   |cons o bs=>
   obtain⟨hb,h⟩|⟨_,h⟩:=ah h
   rotate_left;cases h;have I:(lU s0 (fQ bs) B n).2.aH<=bO:=gY hb;have l:=uQ.1 hap;have lV:gb.bX o=Z b:=g.2 0 _ _ rfl rfl
   let ⟨K,d,ahN⟩:=qC h1 (Bt (bs:=bs) (bl:=bl) ⟨by simpa using g.1,λj a c y z=>g.2 (j+1) a c (by simpa using y) (by simpa using z)⟩) hs (λa ha=>hfr a (gf _ ha)) l.1 I
   have hol:o<s0.aH:=hs.lt lV;have hk:=d.rel.ue (o:=o) (b:=b) (by rw[d.bX];exact lV) hhp ahN (λe=>by rw[d.arr o hol];simp_all);have hk2:bg K (aF {(lU s0 (fQ bs) B n).2 with ob:=(lU s0 (fQ bs) B n).2.ob.set aP o (lU s0 (fQ bs) B n).1}) w:=by
    have:=eJ (lU s0 (fQ bs) B n).2 o (lU s0 (fQ bs) B n).1 (lU s0 (fQ bs) B n).2.wr
    simp_all
   have P:cZ K (bM kf) a w:=⟨F.size,F.df.imp (λ_ _ ht=>ht.le d.le) d.le.bX,λj t s=>by
    let ⟨u,R,hr⟩:=F.tm j t s
    exact⟨u,R,hr.le d.le⟩⟩
   let ⟨gh,f⟩:=ih (bs:=bs) (bl:=bl) (gb:=K) h hn (d.bF▸h2) C ⟨by simpa using g.1,λj E c y z=>by rw[d.bX];exact g.2 (j+1) E c (by simpa using y) (by simpa using z)⟩
    (λr i e=>by
     have ahR:r<s0.aH:=by
      obtain⟨j,s,rfl⟩:=sd i;have hj':j<bl.length:=by have:=g.1;grind
      exact hs.lt (g.2 (j+1) bs[j] bl[j] (by simp) (by simp))
     rw[d.arr r ahR]
     simp_all) (λa ha b hb o m=>by
     obtain m|⟨_,a2,ha2,qq⟩:=d.own o b m
     grind
     grind) l.2.1 P hk2
   refine⟨gh,f.rel,f.fr,d.le.trans f.le,f.bF.trans d.bF,λk' b m=>?_,f.fl.trans d.fl,f.lo.trans d.lo,gE d.aH f.aH,f.wr.trans d.wr,f.dr.trans d.dr,λr i A=>?_,f.bX.trans d.bX,λr i e=>?_,f.n,f.Qj,λj hex s=>?_⟩;obtain m|⟨y,E,z,k3⟩:=f.own k' b m
   obtain m|⟨y,E,z,k3⟩:=d.own k' b m
   exact .inl m
   grind
   exact .inr ⟨gE d.aH y,E,e9 _ z,k3⟩;have hne:r≠o:=λe=>A (by simp_all);rw[f.ob r (iW i d.aH) (λhm=>A (ie _ hm))];rw[Tr.dK _ _ _ _ _ hne];exact d.ob r i;rw[f.arr r (iW i d.aH)];exact d.arr r i e;exact f.get j hex (λp hp=>s p (ie _ hp))
  |hid B=>
   cases hp with
   | @hid _ _ n xr b hx vs EN Cb bl hhp h1 h2=>
   cases bs with
   |nil=>exact absurd g.1 (by simp)
   |cons o bs=>
   obtain⟨hb,h⟩|⟨_,h⟩:=ah h
   rotate_left;cases h;have I:(lU s0 (fQ bs) B n).2.aH<=bO:=gY hb;have l:=uQ.1 hap;have lV:gb.bX o=Z b:=g.2 0 _ _ rfl rfl
   let ⟨K,d,ahN⟩:=qC h1 (Bt (bs:=bs) (bl:=bl) ⟨by simpa using g.1,λj a c y z=>g.2 (j+1) a c (by simpa using y) (by simpa using z)⟩) hs (λa ha=>hfr a (gf _ ha)) l.1 I
   have hol:o<s0.aH:=hs.lt lV;have hk:=d.rel.ue (o:=o) (b:=b) (by rw[d.bX];exact lV) hhp ahN (λe=>by rw[d.arr o hol];simp_all);have hk2:bg K (aF {(lU s0 (fQ bs) B n).2 with ob:=(lU s0 (fQ bs) B n).2.ob.set aP o (lU s0 (fQ bs) B n).1}) w:=by
    have:=eJ (lU s0 (fQ bs) B n).2 o (lU s0 (fQ bs) B n).1 (lU s0 (fQ bs) B n).2.wr
    simp_all
   have P:cZ K (bM kf) a w:=⟨F.size,F.df.imp (λ_ _ ht=>ht.le d.le) d.le.bX,λj t s=>by
    let ⟨u,R,hr⟩:=F.tm j t s
    exact⟨u,R,hr.le d.le⟩⟩
   let ⟨gh,f⟩:=ih (bs:=bs) (bl:=bl) (gb:=K) h hn (d.bF▸h2) C ⟨by simpa using g.1,λj E c y z=>by rw[d.bX];exact g.2 (j+1) E c (by simpa using y) (by simpa using z)⟩
    (λr i e=>by
     have ahR:r<s0.aH:=by
      obtain⟨j,s,rfl⟩:=sd i;have hj':j<bl.length:=by have:=g.1;grind
      exact hs.lt (g.2 (j+1) bs[j] bl[j] (by simp) (by simp))
     rw[d.arr r ahR]
     simp_all) (λa ha b hb o m=>by
     obtain m|⟨_,a2,ha2,qq⟩:=d.own o b m
     grind
     grind) l.2.1 P hk2
   refine⟨gh,f.rel,f.fr,d.le.trans f.le,f.bF.trans d.bF,λk' b m=>?_,f.fl.trans d.fl,f.lo.trans d.lo,gE d.aH f.aH,f.wr.trans d.wr,f.dr.trans d.dr,λr i A=>?_,f.bX.trans d.bX,λr i e=>?_,f.n,f.Qj,λj hex s=>?_⟩;obtain m|⟨y,E,z,k3⟩:=f.own k' b m
   obtain m|⟨y,E,z,k3⟩:=d.own k' b m
   exact .inl m
   grind
   exact .inr ⟨gE d.aH y,E,e9 _ z,k3⟩;have hne:r≠o:=λe=>A (by simp_all);rw[f.ob r (iW i d.aH) (λhm=>A (ie _ hm))];rw[Tr.dK _ _ _ _ _ hne];exact d.ob r i;rw[f.arr r (iW i d.aH)];exact d.arr r i e;exact f.get j hex (λp hp=>s p (ie _ hp))
theorem mw{ow:L Nat}{aH o:Nat}(h:dU ow aH o=J):o∉ow/\o<aH:=by
 grind[dU,Nat.ble_eq_true_of_le]
def qh{ow:L Nat}{aH o:Nat}(h1:o∉ow)(h2:o<aH):dU ow aH o=J:=by simp[dU,zS,GJ,YI];refine⟨h1,?_⟩;cases h:Nl aH o with|false=>rfl|true=>have:=gY h;omega
theorem WS{p q:Nat->aa}{v:V S}(h:cQ p v=W)(a:cQ q v=J):∃o,p o=W/\q o=J:=by
 obtain h1|h1:=Classical.em (∃o,p o=W/\q o=J)
 exact h1
 grind[eD]
theorem qy(p:Nat->aa)(v:V S):we (dQ p) (low v) (low (gu p v)):=by cases a:cQ p v with|true=>exact .inr ⟨_,by simp[gu,a,iq];rfl⟩|false=>exact .inl ⟨by simp[gu,a,jP],by rw[iC];exact a⟩
theorem s7(p:Nat->aa)(v:V S):we (dQ p) (low (gu p v)) (low (gu p v)):=by cases a:cQ p v with|true=>exact .inr ⟨_,by simp[gu,a,iq];rfl⟩|false=>exact .inl ⟨rfl,by simp_all[gu,iC]⟩
theorem FY(p:Nat->aa)(t:Ty)(x:den S.A t):we (dQ p) (ek S t x) (ek S t x):=.inl ⟨rfl,iC (S:=S) p (.ty t x)⟩
theorem O8(p:Nat->aa)(kt a:Ty)(l:L (den S.A kt×den S.A a)):sL (dQ p) (dj (.map kt a l:vO S)) (dj (.map kt a l)):=by
 refine⟨rfl,λj t u h1 h2=>?_⟩;rw[h1]at h2;cases h2;simp only[lK,gi]at h1;obtain⟨q,_,rfl⟩:=h1
 grind[FY]
def adG{f:V S->V S}(l:LpV S)(t0:Tr (V S))(hf:∀v,t0.get=t0.get->we (dQ p) (low v) (low (f v))) :
  sL (dQ p) (dj (.lp {l with fr:={l.fr with tm:=t0}})) (dj (.lp {l with fr:={l.fr with tm:=t0.mapA f}})):=by
 refine⟨rfl,rfl,λk u b=>?_⟩;have a:((t0.mapA f).map low).get k=Z u:=b;rw[Tr.get_map,Tr.oO,GM,gi]at a;obtain⟨v,c,rfl⟩:=a;exact⟨low v,by show(t0.map low).get k=_;rw[Tr.get_map,c];rfl,hf v rfl⟩
theorem mc(p:Nat->aa)(ob:vO S):sL (dQ p) (dj ob) (dj (fq p ob)):=by
 cases ob with
 |box h=>
  refine⟨by simp[eU],λj t u h1 h2=>?_⟩;simp only[ff,lK,gi]at h1 h2;obtain⟨v,e,rfl⟩:=h1;obtain⟨f,⟨b,a,rfl⟩,rfl⟩:=h2
  grind[qy]
 |map kt g l=>exact O8 p kt g l|Jh kt l=>
  refine⟨by simp,λj t u h1 h2=>?_⟩;simp only[lK,gi]at h1 h2;obtain⟨v,e,rfl⟩:=h1;obtain⟨f,⟨b,a,rfl⟩,rfl⟩:=h2
  grind[FY,qy]
 |lp l=>exact adG l l.fr.tm λv _=>qy p v|arr=>rfl|lW=>rfl|r8=>rfl|AG=>rfl|rws=>rfl|gone=>rfl|Hj=>rfl|l8 n j l era m d hole=>
  cases c:p m with|true=>exact .inr (by simp[fq,c,iq];rfl)|false=>exact .inl ⟨by simp[fq,c,jP];rfl,c⟩
theorem Is(p:Nat->aa)(ob:vO S):sL (dQ p) (dj (fq p ob)) (dj (fq p ob)):=by
 cases ob with
 |box h=>refine⟨rfl,λj t u h1 h2=>?_⟩;rw[h1]at h2;cases h2;simp only[ff,lK,gi]at h1;obtain⟨f,⟨v,c,rfl⟩,rfl⟩:=h1;exact s7 p v
 |map kt g l=>exact O8 p kt g l|Jh kt l=>
  refine⟨rfl,λj t u h1 h2=>?_⟩;rw[h1]at h2;cases h2;simp only[lK,gi]at h1;obtain⟨f,⟨v,c,rfl⟩,rfl⟩:=h1
  grind[FY,s7]
 |lp l=>refine⟨rfl,rfl,λk u d=>?_⟩;refine⟨u,d,?_⟩;have a:((l.fr.tm.mapA (gu p)).map low).get k=Z u:=d;rw[Tr.get_map,Tr.oO,GM,gi]at a;obtain⟨v,c,rfl⟩:=a;exact s7 p v
 |arr=>rfl|lW=>rfl|r8=>rfl|AG=>rfl|rws=>rfl|gone=>rfl|Hj=>rfl|l8 n j l era m e hole=>
  cases b:p m with|true=>simp[fq,b,iq];rfl|false=>simp[fq,b,jP];exact .inl ⟨rfl,b⟩
def Ai(h:cQ p v=J):gu p v=v:=by simp[gu,h,jP]
theorem oV{p:Nat->aa}{ob:vO S}(h:gQ p ob=J):fq p ob=ob:=by
 cases ob with
 |box f=>
  simp[fq,vO.box.injEq];have c:∀{l:L (V S)},iS p l=J->∀v∈l,cQ p v=J:=by
   intro l
   induction l with
   |nil=>intro _ v b;cases b
   |cons a l d=>
    intro h v b;simp[iS,zS]at h;obtain rfl|b:=gn.1 b
    exact h.1;exact d h.2 v b
  have:∀v∈f,gu p v=v:=λv b=>Ai (c h v b);exact(YH this).trans (List.map_id _)
 |Jh kt l=>
  simp only[fq];have c:∀{l:L (den S.A kt×V S)},zY p l=J->∀v∈l,cQ p v.2=J:=by
   intro l
   induction l with
   |nil=>intro _ v b;cases b
   |cons a l d=>
    intro h v b;simp[zY,zS]at h;obtain rfl|b:=gn.1 b
    exact h.1;exact d h.2 v b
  have:∀q∈l,((q.1,gu p q.2):den S.A kt×V S)=q:=λq g=>by rw[Ai (c h q g)]
  rw[(YH this).trans (List.map_id _)]
 |lp l=>simp[fq,FD (λv=>Ai) (show nc (cQ p) l.fr.tm=J from h)]|l8 n j l era m e hole=>have h:p m=J:=h;simp[fq,h,jP]|_=>rfl
section
variable {bs ow ds:List Nat}{fr:cr S}{s1:bx S}
def uz(a:∀b∈bs,b<bO)(o:Nat):(cR ds ow bs fr s1).2.ob.get o=if o∈bs then Y else(s1.ob.get o).map (fq (dU ow s1.aH)):=by show(bs.foldl (λt o=>t.del aP o) (s1.ob.mapA _)).get o=_;rw[Tr.oQ bs _ o a,Tr.oO]
end
def Et:∀(l:L (V S))(k:Nat)(t:Tr (V S)),(ni l k t).map low=CT (bI l) k (t.map low)
 |[],_,_=>rfl|a::l,k,t=>by simp only[ni,bI,CT];rw[Et l,Tr.mZ]
theorem uf{g:Gh}{w:az}{n:Nat}(hn:n<bO){args:L (V S)}{vs:Array aD}(hl:args.length<=n)(a:PW (aL g w) (bI args) vs.toList) :
  cZ g (bM {n:=n,tm:=ni args 0 .nil}) {tmps:=vs++Array.replicate (n-vs.size) undef,defers:=[]} w:=by
 have c:(bI args).length=vs.size:=by simpa using a.1
 have d:args.length=vs.size:=by rw[<-c,eU]
 refine⟨by simp[bM];omega,.nil,λj t b=>?_⟩;have e:(bM {n:=n,tm:=ni args 0 .nil}).get j=(CT (bI args) 0 .nil).get j:=by show((ni args 0 .nil).map low).get j=_;rw[Et];rfl
 rw[e,HJ _ _ _ (by omega)]at b;split at b;refine⟨vs[j],?_,a.2 j t _ b (by simp)⟩
 grind
 cases b
end
end TL
end
