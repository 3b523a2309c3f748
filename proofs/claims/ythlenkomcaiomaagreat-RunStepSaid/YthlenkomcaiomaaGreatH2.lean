import Derived.Laws.OwnMore
import Derived.Test.YthlenkomcaiomaaGreatH1
set_option linter.all false
set_option maxRecDepth 100000
set_option maxHeartbeats 0
noncomputable section
open Option renaming some->Z,none->Y
open Bool renaming true->W,false->J
open Nat renaming beq->Nq,ble->Nl,blt->Nt,succ->Ns,add->Na
open Go.Result(andThen_ok)
open Go.Sem(run_bind run_pure)
section
namespace TL
open Go
variable {S:Sg}
section
def yz(o:Oper):L Nat:=(o.after.toList.filter (Region.binds .any)).map (·.on)
def Pg:L Oper->L Nat->L Nat
 |[],a=>a|o::l,a=>Pg l (a++[(yz o).foldl (λb e=>b||| (1 <<< e||| a.getD e 0)) 0])
def w6(ops:L Oper):L Nat:=Pg ops []
def vI:L Oper->Nat->Bool
 |[],_=>W|o::l,n=>(yz o).all (λe=>Nt e n)&&vI l (Ns n)
def MZ(o:Oper)(k:Nat):Bool:=o.op.operands.toList.any λx=>match x with|.tmp j=>Nq j k|_=>J
def ahk(ops:L Oper)(a:L Nat):Bool:=
 ops.zipIdx.all λ(o,i)=>match o.dst with
  |none=>W|some d=>Nt d bM&&ops.zipIdx.all λ(p,j)=>bif Nq i j then !(MZ p d)else !(match p.dst with|some e=>Nq e d|none=>J)&&(!(MZ p d)||((a.getD j 0).testBit i||(a.getD i 0).testBit j))
def Ur(ops:L Oper)(a:L Nat)(i:Nat)(o:Oper):Bool:=match o.dst with
 |none=>J|some d=>ops.zipIdx.any λ(p,j)=>MZ p d&&(a.getD i 0).testBit j
def afz(ops:L Oper):Bool:=ops.all λo=>o.op.operands.toList.all λx=>match x with|.tmp j=>Nt j bM|_=>W
def Rz(ops:L Oper)(a:L Nat):Bool:=
 ops.zipIdx.all λ(o,i)=>match o.guard with
  |none=>W|some (j,_)=>(a.getD i 0).testBit j
def fh(o:Oper):Bool:=match o.op with|.alloc _=>o.guard.isNone|_=>J
def UT(a b:Nat):Bool:=Nq (a&&& b) a
abbrev WS:=L (Nat×Oper)
section
variable (E:eM S)(call:gj S){ω:Type}
def QJ(ops:L Oper)(a:L Nat)(done:Nat)(fr:ck S):WS->O (Nat×Oper)
 |[]=>Y|(i,o)::l=>bif !(done.testBit i)&&(UT (a.getD i 0) done&&((!(fh o)&&!(Ur ops a i o))&&(vF ops fr o||(match iO ops fr o with|some (Z _)=>BU E (r8 fr o.op) o|some Y=>BU E fr o|none=>J))))
   then Z (i,o)else QJ ops a done fr l
def QL(a:L Nat)(done vW:Nat):WS->O (Nat×Oper)
 |[]=>Y|(i,o)::l=>bif !(done.testBit i)&&(!(fh o)&&UT (a.getD i 0) (done||| vW))then Z (i,o)else QL a done vW l
def yX(E:gi)(a:Nat):WS->ck S->bp S->O (ck S×bp S)
 |[],fr,s=>Z (fr,s)|(i,o)::l,fr,s=>bif a.testBit i then match o.op,o.dst with
   |.alloc t,Z d=>match E.E.ti t with
    |some b=>bif Nt s.aE bM&&Nt d fr.n then yX E a l (fr.put d (.ptr s.aE 0)) (dn s (.box (b.zero.map zeroV)))else Y|none=>Y
   |_,_=>Y
  else yX E a l fr s
def jW(p:Nat->Bool)(fr:ck S)(o:Op):Bool:=o.operands.toList.any λx=>match cF fr x with
 |some v=>cN p v|none=>J
def NX:Op->Bool
 |.move _|.assign _|.nilCheck _|.fieldAddr ..=>W|_=>J
def Fo(ops:L Oper)(a:L Nat)(done i:Nat)(fr:ck S)(aE:Nat)(wr ow:L Nat):WS->Bool
 |[]=>W|(j,o)::l=>(!(done.testBit j)||(fh o||((a.getD i 0).testBit j||(!(jW (dN wr aE) fr o.op||jW (dN wr aE) (r8 fr o.op) o.op)||(NX o.op&&!(jW (λx=>ow.contains x) fr o.op||jW (λx=>ow.contains x) (r8 fr o.op) o.op))))))&&Fo ops a done i fr aE wr ow l
def yK(all:WS)(done:Nat):Nat:=all.foldl (λb(i,o)=>bif fh o&&!(done.testBit i)then b||| 1 <<< i else b) 0
def ahn(ops:L Oper)(fr:ck S):ck S:={fr with tm:=(ops.filterMap (·.dst)).foldl (λt k=>t.del aM k) fr.tm}
def uT(ops:L Oper)(a:L Nat)(all:WS)(kp:ck S->V S->bp S->O ω)(k:ck S->bp S->O ω):Nat->Nat->ck S->bp S->O ω
 |0,_,_,_=>Y|n+1,done,fr,s=>
  match QJ E ops a done fr all with
  |some (i,o)=>bif gN fr o.dst then bif vF ops fr o then uT ops a all kp k n (done||| 1 <<< i) (fr.jr o.dst ep) s else match iO ops fr o with
    |none=>Y|some Y=>fI E Y fr s o λt=>KO (T1 ops o.dst) t λt=>uT ops a all kp k n (done||| 1 <<< i) (fr.jr o.dst t) s|some (Z c)=>aO (Oy c fr o.op) (fI E (Z c) (r8 fr o.op) s o λt=>uT ops a all kp k n (done||| 1 <<< i) (fr.jr o.dst (.gd c t)) s)
   else Y
  |none=>
   let b:=yK all done
   match QL a done b all with
   |some (i,o)=>
    bif all.all (λ(j,p)=>done.testBit j||(fh p||(Nq i j||(a.getD j 0).testBit i)))then
     match yX E.T (b&&& a.getD i 0) all fr s with
     |none=>Y|some (d,f)=>
      p9 E call ops o d {f with wr:=[]} (λt e=>kp (ahn ops d) t {e with wr:=e.wr++f.wr}) λt e g=>
       bif Fo ops a done i fr s.aE e.wr g all then uT ops a all kp k n (done||| (b&&& a.getD i 0)||| 1 <<< i) ((dA g d).jr o.dst t) {e with wr:=e.wr++f.wr}else Y
    else Y
   |none=>match yX E.T b all fr s with
    |none=>Y|some (fr,s)=>bif all.all (λ(j,p)=>done.testBit j||fh p)then k fr s else Y
def Sj(E:gi)(n:Nat)(l:L Oper):Bool:=l.all λo=>bif fh o then(match o.op with
  |.alloc t=>(E.E.ti t).isSome|_=>W)&&(match o.dst with|some d=>Nt d n|none=>W)
 else W
def ZR(E:eM S)(fr:ck S)(s:bp S)(l:L Oper)(a:L Nat):Bool:=vI l 0&&(ahk l a&&(Rz l a&&(afz l&&(Sj E.T fr.n l&&Nq s.fl 0))))
end
inductive LO(X R B P:Type) where
 |next (x:X)|out (j:Nat) (x:X)|ret (b:B) (r:R)|iJ (b:B) (p:P)
def iter{X R B P:Type}(F:X->O (LO X R B P)):Nat->X->O (LO X R B P)
 |0,_=>Y|n+1,x=>match F x with
  |none=>Y|some (.next y)=>iter F n y|some (.out j y)=>Z (.out j y)|some (.ret y r)=>Z (.ret y r)|some (.iJ y p)=>Z (.iJ y p)
def Qm:Code->Bool
 |.region _ c _=>c.toList.all λo=>match o.op with|.defer _=>J|_=>W
 |.seq a b=>Qm a&&Qm b|.cond _ a b=>Qm a&&Qm b|.block _ b=>Qm b|.loop b=>Qm b|.scope _=>J|.rangeFunc ..=>J|_=>W
def vD:Code->L Nat
 |.region _ d _=>d.toList.foldl (λl o=>o.op.operands.toList.foldl (λl x=>match x with|.tmp k=>k::l|_=>l) l) []
 |.seq a b=>vD a++vD b|.cond c a b=>(match c with|.tmp k=>[k]|_=>[])++(vD a++vD b)
 |.block _ b=>vD b|.loop b=>vD b|_=>[]
def OB(l:L Nat)(fr:ck S):ck S:={n:=fr.n,tm:=l.foldl (λt k=>match fr.get k with|some v=>t.set aM k v|none=>t) .nil,df:=[]}
def QB:L Nat->L (V S)->Tr (V S)->Tr (V S)
 |k::a,v::b,t=>QB a b (t.set aM k v)|_,_,t=>t
def KZ:LoopState->O Code->Bool
 |.ready,Y=>W|_,_=>J
def afV{S:Sg}:LoopState->O Code->O (vA S)
 |.ready,Y=>Z .rY|.done,Z (.exit i)=>Z (.ext i)|.done,Z .ret=>Z .ret|_,_=>Y
def Uf:Operand->L Nat
 |.tmp k=>[k]|_=>[]
def eR:Code->L Nat
 |.region _ d _=>d.toList.filterMap (·.dst)|.seq a b=>eR a++eR b|.cond c a b=>Uf c++(eR a++eR b)|.block _ b=>eR b|.loop b=>eR b|.rangeFunc _ _ a b=>eR a++eR b|.scope b=>eR b|_=>[]
def lG:Code->L Nat
 |.seq a b=>lG a++lG b|.cond _ a b=>lG a++lG b|.block i b=>(lG b).filter λj=>!(Nq i j)|.loop b=>lG b|.rangeFunc _ _ a b=>lG a++lG b|.scope b=>lG b|.exit i=>[i]|_=>[]
def wS:L Nat->L Nat
 |[]=>[]|a::l=>a::(wS l).filter λb=>!(Nq a b)
abbrev LOT(S:Sg)(sh:Sh)(rs:L Ck):=LO (gm S.A (lP sh)) (gC S.A rs) (gm S.A (lP (Ql sh))) (den S.A S.pt)
def ZH(ds:L Nat):Sh->L Nat
 |[]=>[]|(k,.one (.own _))::l=>bif ds.contains k then ZH ds l else k::ZH ds l|_::l=>ZH ds l
def Q0:Sh->L Nat
 |[]=>[]|(k,.one (.own _))::l=>k::Q0 l|_::l=>Q0 l
def Xl(fr:ck S)(s:bp S)(c:Nat):O (V S):=bif Nt c 1000000 then fr.get c else match fr.get (Nat.div (Nat.sub c 1000000) 1000)with
 |some (.ptr o 0)=>match s.ob.get o with
  |some (.box a)=>nth a (Nat.mod (Nat.sub c 1000000) 1000)|_=>Y
 |_=>Y
def Wy(fr:ck S)(s:bp S)(al:L (Nat×Nat)):Bool:=al.all λp=>match fr.get p.1,Xl fr s p.2 with
 |some (.sh o r),Z (.sh a b)=>Nq o a&&Nq r b|_,_=>J
def adR(fr:ck S)(ow:L Nat)(al:L (Nat×Nat)):Bool:=al.all λp=>match fr.get p.1 with
 |some (.sh o _)=>ow.contains o|_=>J
def mV(s:bp S):L (Nat×Nat)->ck S->ck S
 |[],fr=>fr|p::l,fr=>mV s l (match Xl fr s p.2 with|some v=>fr.put p.1 v|none=>fr)
def adr(fr:ck S)(l:L Nat):Bool:=l.all λk=>match fr.get k with
 |some (.sh _ _)=>W|_=>J
def Fy(ds:L Nat)(sh:Sh):Bool:=sh.all λp=>match p.2 with
 |.one _=>ds.contains p.1|.box _=>W|.hid _=>W
abbrev Rv:=L (Nat×Ty)
def FC(rv:Rv):L Ck:=rv.map λp=>.dat p.2
def Xr(fr:ck S):Rv->O (L (V S))
 |[]=>Z []|(k,_)::l=>match fr.get k,Xr fr l with
  |some v,Z r=>Z (v::r)|_,_=>Y
def yE:(rv:Rv)->gC S.A (FC rv)->ck S->ck S
 |[],_,fr=>fr|(k,_)::l,x,fr=>yE l x.2 (fr.put k (.ty _ x.1))
def ck.tO(fr:ck S)(c:Operand)(b:Bool):ck S:=match c with
 |.tmp k=>bif Nt k fr.n then fr.put k (.kb b)else fr|_=>fr
noncomputable def I6{ω:Type}(e:Bool)(x y:O ω):O ω:=bif e then(open Classical in if x=y then y else Y)else y
def acS(l:L Nat)(i:Nat):Nat:=match l with
 |[]=>0|a::l=>bif Nq a i then 0 else Ns (acS l i)
def UL(aE:Nat)(bs wr:L Nat):Bool:=wr.all λo=>Nl aE o||bs.contains o
def vH{ω:Type}(sh:Sh)(bs:L Nat)(aE:Nat)(fr:ck S)(s:bp S)(f:gm S.A (lP sh)->O ω):O ω:=
 match qN sh bs fr s with
 |some (x,a,b)=>bif UL aE bs a.wr&&(b.all (λo=>Nl aE o)&&a.dr.all (λo=>Nl aE o))then f x else Y|none=>Y
section
variable (E:eM S)(call:gj S)(n:Nat)(fid:FuncId)(rv:Rv)
def ZG{ω:Type}(k:ck S->bp S->O ω)(Q:vA S->ck S->bp S->O ω):vA S->ck S->bp S->O ω
 |.rY,fr,s=>k fr s|.ext i,fr,s=>Q (.ext i) fr s|.ret,fr,s=>Q .ret fr s|.iJ v,fr,s=>Q (.iJ v) fr s
def OI{ω:Type}(i:Nat)(Q:vA S->ck S->bp S->O ω):vA S->ck S->bp S->O ω
 |.rY,fr,s=>Q .rY fr s|.ext j,fr,s=>match Nq j i with
  |true=>Q .rY fr s|false=>Q (.ext j) fr s
 |.ret,fr,s=>Q .ret fr s|.iJ v,fr,s=>Q (.iJ v) fr s
def ab7{ω:Type}(Q:vA S->ck S->bp S->O ω)(fr:ck S)(s:bp S):L Nat->Nat->O ω
 |[],_=>Y|[i],_=>Q (.ext i) fr s|i::l,j=>match j with
  |0=>Q (.ext i) fr s|j+1=>ab7 Q fr s l j
def uI(aE:Nat)(s:bp S):L (sZ S)->O (L Nat)
 |[]=>Z []|.mark o::l=>match s.ob.get o with
  |some .Ab=>bif Nl aE o then(match uI aE s l with|some r=>Z (o::r)|none=>Y)else Y
  |_=>Y
 |_=>Y
def ajh(fl aE:Nat)(base:ck S×bp S):Bool:=match base.1.df with
 |.marks o::_=>(match base.2.ob.get o with
  |some .Gl=>Nt o aE&&Nl fl o|_=>J)
 |_=>J
def QC(aE:Nat)(base:ck S×bp S)(fr':ck S)(s':bp S):Bool:=
 match uI aE s' (fr'.df.take (Nat.sub (cH fr'.df) (cH base.1.df)))with
 |some os=>sB os&&(Nq (Na (cH os) (cH base.1.df)) (cH fr'.df)&&(Nq (cH os) 0||ajh s'.fl aE base))|none=>J
def QH(sh:Sh)(bs:L Nat)(aE:Nat)(a:L Nat)(base:ck S×bp S)(c:Bool)(al:L (Nat×Nat))(ex:vA S)(fr':ck S)(s':bp S):O (LOT S sh (FC rv)):=
 bif QC aE base fr' s' then match ex with
  |.rY=>bif Wy fr' s' al then vH sh bs aE fr' s' (λy=>Z (.next y))else Y|.ext j=>bif a.contains j&&Wy fr' s' al then vH sh bs aE fr' s' (λy=>Z (.out (acS a j) y))else Y|.ret=>match Xr fr' rv with
   |none=>Y|some d=>match gn s' (FC rv) d with
    |some (r,b,_)=>match dV s' b with
     |some s'=>vH (Ql sh) bs aE fr' s' (λy=>Z (.ret y r))|none=>Y
    |none=>Y
  |.iJ v=>bif c then match gn s' [.dat S.pt] [v]with
    |some (p,b,_)=>match dV s' b with
     |some s'=>vH (Ql sh) bs aE fr' s' (λy=>Z (.iJ y p.1))|none=>Y
    |none=>Y
   else Y
  else Y
def FH(e:{ω:Type}->(vA S->ck S->bp S->O ω)->ck S->bp S->O ω)(sh:Sh)(bs:L Nat)(aE:Nat)(b:L Nat)(base:ck S×bp S)(f:Bool)(al:L (Nat×Nat))(x:gm S.A (lP sh)):O (LOT S sh (FC rv)):=
 match ny sh bs x base.1 base.2 with
 |none=>Y|some (c,a)=>e (λg d h=>QH rv sh bs aE b base f al g d {h with lo:=base.2.lo}) (mV a al c) {a with lo:=aE}
def uQ:Code->O Nat
 |.region id _ _=>Z id|.seq a b=>match uQ a with
  |some k=>Z k|none=>uQ b
 |.cond _ a b=>match uQ a with
  |some k=>Z k|none=>uQ b
 |.block _ b=>uQ b|.loop b=>uQ b|.scope b=>uQ b|_=>Y
def aj9(a b:Code):Nat:=match uQ a with
 |some k=>Na 1000000 k|none=>match uQ b with
  |some k=>Na 1000000 k|none=>999999
noncomputable def Ue{ω:Type}(c:Operand)(A B:(vA S->ck S->bp S->O ω)->ck S->bp S->O ω)(Q:vA S->ck S->bp S->O ω)(fr:ck S)(s:bp S):O ω:=match cF fr c with
  |some (.kb W)=>A Q fr s|some (.kb J)=>B Q fr s|some (.ub e)=>I6 e (A Q (fr.tO c W) s) (B Q (fr.tO c J) s)|some v=>match iD v with
   |some t=>ai t (A Q (fr.tO c W) s) (B Q (fr.tO c J) s)|none=>Y
  |none=>Y
def YO(k:{ω:Type}->(vA S->ck S->bp S->O ω)->ck S->bp S->O ω){ω:Type}(sh:Sh)(i:L Pt)(al:L (Nat×Nat))(g h:L Nat)(Q:vA S->ck S->bp S->O ω)(fr:ck S)(s:bp S):O ω:=
 match rX fr s sh i with
 |none=>Y|some e=>
  let ds:=g++(ZH g sh++al.map (·.1))
  match qN sh e fr s with
  |none=>Y|some (l,b,f)=>
   let base:=cP ds f e fr b
   bif (Fy ds sh&&(adr fr (ZH g sh)&&(Wy fr s al&&adR fr f al)))&&ds.all (λd=>Nt d fr.n)then
    ah (FH rv k sh e b.aE h base E.pn al l) λ(o:LOT S sh (FC rv))=>match o with
     |.next x=>match ny sh e x base.1 base.2 with
      |none=>Y|some (c,a)=>Q .rY (mV a al c) {a with wr:=b.ob.jR (gI (dN f b.aE))++(e++b.wr),dr:=f++b.dr}
     |.out j x=>match ny sh e x base.1 base.2 with
      |none=>Y|some (c,a)=>ab7 Q (mV a al c) {a with wr:=b.ob.jR (gI (dN f b.aE))++(e++b.wr),dr:=f++b.dr} h j
     |.ret x r=>match ny (Ql sh) e x base.1 base.2 with
      |none=>Y|some (c,a)=>Q .ret (yE rv r c) {a with wr:=b.ob.jR (gI (dN f b.aE))++(e++b.wr),dr:=f++b.dr}
     |.iJ y p=>bif E.pn then match ny (Ql sh) e y base.1 base.2 with
      |none=>Y|some (c,a)=>Q (.iJ (.ty S.pt p)) c {a with wr:=b.ob.jR (gI (dN f b.aE))++(e++b.wr),dr:=f++b.dr}
      else Y
   else Y
def X8{ω:Type}(b:(vA S->ck S->bp S->O ω)->ck S->bp S->O ω)(Q:vA S->ck S->bp S->O ω)(a:ck S->bp S->O ω):Nat->ck S->bp S->O ω
 |0,fr,s=>a fr s|m+1,fr,s=>b (ZG (X8 b Q a m) Q) fr s
def Yy(k:{ω:Type}->(vA S->ck S->bp S->O ω)->ck S->bp S->O ω){ω:Type}(sh:Sh)(i:L Pt)(al:L (Nat×Nat))(g h:L Nat)(Q:vA S->ck S->bp S->O ω)(fr:ck S)(s:bp S):O ω:=match rX fr s sh i with
  |none=>Y|some e=>
   let ds:=g++(ZH g sh++al.map (·.1))
   match qN sh e fr s with
   |none=>Y|some (l,a,f)=>
    let base:=cP ds f e fr a
    bif (Fy ds sh&&(adr fr (ZH g sh)&&(Wy fr s al&&adR fr f al)))&&ds.all (λd=>Nt d fr.n)then
     ah (iter (FH rv k sh e a.aE h base E.pn al) n l) λ(o:LOT S sh (FC rv))=>match o with
      |.next _=>Y|.out j x=>match ny sh e x base.1 base.2 with
       |none=>Y|some (c,b)=>ab7 Q (mV b al c) {b with wr:=a.ob.jR (gI (dN f a.aE))++(e++a.wr),dr:=f++a.dr} h j
      |.ret x r=>match ny (Ql sh) e x base.1 base.2 with
       |none=>Y|some (c,b)=>Q .ret (yE rv r c) {b with wr:=a.ob.jR (gI (dN f a.aE))++(e++a.wr),dr:=f++a.dr}
      |.iJ y p=>bif E.pn then match ny (Ql sh) e y base.1 base.2 with
       |none=>Y|some (c,b)=>Q (.iJ (.ty S.pt p)) c {b with wr:=a.ob.jR (gI (dN f a.aE))++(e++a.wr),dr:=f++a.dr}
       else Y
    else Y
def MQ:Code->Bool
 |.seq a b=>MQ a||MQ b|.cond _ a b=>MQ a||MQ b|.block _ b=>MQ b|.loop b=>MQ b|.rangeFunc ..=>W|.scope b=>MQ b|_=>J
def aom{ω:Type}(b:Bool)(k:ck S->bp S->O ω)(fr:ck S)(s:bp S):O ω:=
 bif b then(bif Nt s.aE bM then k {fr with df:=.marks s.aE::fr.df} (dn s .Gl)else Y)else k fr s
noncomputable def zG:Code->Nat->{ω:Type}->(vA S->ck S->bp S->O ω)->ck S->bp S->O ω
 |.region _ h J,_,_,Q,fr,s=>T7 E call h.toList (λfr t s=>Q (.iJ t) fr s) (Q .rY) h.toList fr s|.region _ h W,_,_,Q,fr,s=>
  let l:=h.toList
  let m:=w6 l
  let all:=l.zipIdx.map λp=>(p.2,p.1)
  bif ZR E fr s l m then uT E call l m all (λfr t s=>Q (.iJ t) fr s) (Q .rY) (Ns (Nat.mul 2 (cH l))) 0 fr s else Y
 |.seq a b,i,_,Q,fr,s=>zG a i (ZG (zG b i Q) Q) fr s|.cond c a b,i,_,Q,fr,s=>match E.sh fid (aj9 a b)with
  |none=>Ue c (zG a i) (zG b i) Q fr s|some ⟨sh,j,o,_⟩=>YO E rv (λQ fr s=>Ue c (zG a i) (zG b i) Q fr s) sh j o (eR (.cond c a b)++rv.map (·.1)) (wS (lG (.cond c a b))) Q fr s
 |.block i b,_,_,Q,fr,s=>zG b i (OI i Q) fr s|.loop b,i,_,Q,fr,s=>match E.sh fid i with
  |none=>Y|some ⟨sh,j,o,u⟩=>X8 (zG b i) Q (aom (MQ b) λfr s=>Yy E n rv (zG b i) sh j o (eR b++rv.map (·.1)) (wS (lG b)) Q fr s) u fr s
 |.rangeFunc g v k d,_,_,Q,fr,s=>match(cF fr g).bind (qf · [.rP (Ns s.aE)])with
  |none=>Y|some (f,args)=>bif Qm k&&(Qm d&&(Nl s.fl (Ns s.aE)&&Nt (Ns s.aE) bM))then
    uU E call (dn (dn s .Ab) (.lp ⟨.ready,Y,fid,OB (vD k++vD d) fr,v.toList,k,d⟩)) f args (λ_ _=>Y) λ_ q r=>match q.ob.get (Ns s.aE)with
      |some (.lp l)=>match afV l.st l.vW with
       |some e=>Q e {(dA r fr)with df:=.mark s.aE::(dA r fr).df} {q with ob:=q.ob.set aM (Ns s.aE) (.lp {l with st:=.exhausted})}
       |none=>Y
      |_=>Y
   else Y
 |.exit i,_,_,Q,fr,s=>Q (.ext i) fr s|.ret,_,_,Q,fr,s=>Q .ret fr s|.skip,_,_,Q,fr,s=>Q .rY fr s|.label _,_,_,Q,fr,s=>Q .rY fr s|.scope b,i,_,Q,fr,s=>zG b i Q fr s|_,_,_,_,_,_=>Y
end
def lQ(E:gi)(s:bp S)(fr:ck S):L ResultVar->O (L (V S))
 |[]=>Z []|.tmp t::l=>match fr.get t,lQ E s fr l with
  |some x,Z r=>Z (x::r)|_,_=>Y
 |.cell a t::l=>match E.E.ti t,fr.get a with
  |some i,Z a=>match yN i (E.ty t) s a,lQ E s fr l with
   |some (p,x,_),Z r=>bif p then Z (x::r)else Y|_,_=>Y
  |_,_=>Y
def QD(E:gi):L ResultVar->L TypeId->Rv
 |.tmp k::l,t::a=>match E.ty t with
  |some τ=>(k,τ)::QD E l a|none=>QD E l a
 |_::l,_::a=>QD E l a|_,_=>[]
def isRec(o:Oper):Bool:=match o.guard,o.op with
 |none,.call c=>match c.callee with
  |.builtin .recover=>W|_=>J
 |_,_=>J
def ai2(pv:O (V S)):V S:=match pv with
 |some v=>v|none=>.dat (.lit .nilIface)
section
variable (E:eM S)(call:gj S)(n:Nat)(pv:Option (V S)){ω:Type}
noncomputable def evR(fid:FuncId)(rv:Rv):Code->Nat->(Bool->vA S->ck S->bp S->O ω)->ck S->bp S->O ω
 |.region id d J,i,Q,fr,s=>match d.toList with
  |o::l=>bif isRec o then(bif gN fr o.dst then T7 E call (o::l) (λfr t s=>Q pv.isSome (.iJ t) fr s) (Q pv.isSome .rY) l (fr.jr o.dst (ai2 pv)) s else Y)
   else zG E call n fid rv (.region id d J) i (Q J) fr s
  |[]=>Y
 |.seq a b,i,Q,fr,s=>evR fid rv a i (λe f fr s=>match f with
  |.rY=>zG E call n fid rv b i (Q e) fr s|f=>Q e f fr s) fr s
 |c,i,Q,fr,s=>zG E call n fid rv c i (Q J) fr s
noncomputable def T9(d:sZ S)(s:bp S)(k:Bool->bp S->O ω):O ω:=match d with
 |.call f args=>match qf f args with
  |none=>Y|some (f,args)=>match E.T.E.T4 f with
   |none=>Y|some fn=>match fn.body with
    |none=>Y|some c=>bif Nl (cH args) fn.ntmps&&Nt fn.ntmps bM then
      evR E call n pv f (QD E.T fn.results.toList fn.resultTypes.toList) c 0 (λa e fr b=>match fr.df with
       |[]=>match e with
        |.rY|.ret=>match lQ E.T b fr fn.results.toList with
         |some _=>k a {b with lo:=s.lo}
         |none=>Y
        |_=>Y
       |_::_=>Y) {n:=fn.ntmps,tm:=mY args 0 .nil} {s with lo:=s.aE}
     else Y
 |.mark o=>match s.ob.get o with
  |some .Ab=>bif Nl s.fl o&&Nt o bM then k J {s with ob:=s.ob.del aM o,wr:=o::s.wr}else Y
  |_=>Y
 |.marks o=>match s.ob.get o with
  |some .Gl=>bif Nl s.fl o&&Nt o bM then k J {s with ob:=s.ob.del aM o,wr:=o::s.wr}else Y
  |_=>Y
 |_=>Y
end
noncomputable def Hg(E:eM S)(call:gj S)(n:Nat){ω:Type}:L (sZ S)->O (V S)->bp S->(O (V S)->bp S->O ω)->O ω
 |[],pv,s,k=>k pv s|d::l,pv,s,k=>T9 E call n pv d s λa b=>Hg E call n l (bif a then Y else pv) b k
def OK(E:gi){ω:Type}(a:L ResultVar)(fr:ck S)(k kp:V S->bp S->O ω)(pv:O (V S))(s:bp S):O ω:=match pv with
 |none=>match lQ E s fr a with
  |some l=>k (Ej l) s|none=>Y
 |some v=>kp v s
noncomputable def T8(E:eM S)(call:gj S)(n:Nat){ω:Type}(a:L ResultVar)(k kp:V S->bp S->O ω):vA S->ck S->bp S->O ω
 |.rY,fr,s=>Hg E call n fr.df Y s (OK E.T a fr k kp)|.ret,fr,s=>Hg E call n fr.df Y s (OK E.T a fr k kp)|.iJ v,fr,s=>Hg E call n fr.df (Z v) s (OK E.T a fr k kp)|.ext _,_,_=>Y
def aeG:vA S->O (O Code)
 |.rY=>Z Y|.ret=>Z (Z .ret)|.ext i=>Z (Z (.exit i))|.iJ _=>Y
def aer(o:Nat){ω:Type}(k:V S->bp S->O ω)(e:vA S)(_:ck S)(s:bp S):O ω:=match s.ob.get o,aeG e with
 |some (.lp l),Z Y=>k (.kb W) {s with ob:=s.ob.set aM o (.lp {l with st:=.ready,vW:=Y})}
 |some (.lp l),Z (Z c)=>k (.kb J) {s with ob:=s.ob.set aM o (.lp {l with st:=.done,vW:=Z c}),wr:=o::s.wr}
 |_,_=>Y
noncomputable def aeq(E:eM S)(call:gj S)(n o:Nat)(fid:FuncId)(a:Code){ω:Type}(k:V S->bp S->O ω):vA S->ck S->bp S->O ω
 |.rY,fr,s=>match s.ob.get o with
  |some (.lp l)=>bif KZ l.st l.vW then zG E call n fid [] a 0 (aer o k) fr {s with ob:=s.ob.set aM o (.lp {l with st:=.busy})}else Y
  |_=>Y
 |_,_,_=>Y
noncomputable def KY(E:eM S)(call:gj S)(n o:Nat)(args:L (V S))(s:bp S){ω:Type}(k:V S->bp S->O ω):O ω:=match s.ob.get o with
 |some (.lp l)=>bif KZ l.st l.vW&&(Nq (cH args) (cH l.params)&&(l.params.all (λk=>Nt k l.fr.n)&&(Nl l.fr.n bM&&(Qm l.assign&&(Qm l.body&&(Nl s.fl o&&Nl s.lo s.aE))))))then
   zG E call n l.fid [] l.assign 0 (aeq E call n o l.fid l.body k) {n:=l.fr.n,tm:=QB l.params args l.fr.tm,df:=[]} s
  else Y
 |_=>Y
noncomputable def Z9(E:eM S)(n:Nat)(call:gj S):gj S:=λtg args s{_}k b=>match tg with
 |.yl o=>KY E call n o args {s with lo:=s.aE} λt a=>k t {a with lo:=s.lo}
 |.yd o=>KY E call n o args s k|.jn f=>match E.T.E.T4 f with
  |none=>Y|some fn=>match fn.body with
   |none=>Y|some c=>
    bif Nl (cH args) fn.ntmps&&(Nt fn.ntmps bM&&Nl s.lo s.aE)then
     zG E call n f (QD E.T fn.results.toList fn.resultTypes.toList) c 0 (T8 E call n fn.results.toList k b) {n:=fn.ntmps,tm:=mY args 0 .nil} s
    else Y
 |.fn f=>match E.T.E.T4 f with
  |none=>Y|some fn=>match fn.body with
   |none=>Y|some c=>
    bif Nl (cH args) fn.ntmps&&Nt fn.ntmps bM then
     zG E call n f (QD E.T fn.results.toList fn.resultTypes.toList) c 0 (T8 E call n fn.results.toList (λv a=>k v {a with lo:=s.lo}) (λv a=>b v {a with lo:=s.lo})) {n:=fn.ntmps,tm:=mY args 0 .nil} {s with lo:=s.aE}
    else Y
noncomputable def wX(E:eM S)(n:Nat):Nat->gj S
 |0=>λ_ _ _{_}_ _=>Y|d+1=>Z9 E n (wX E n d)
noncomputable def aab(E:eM S)(n d:Nat)(f:FuncId)(args:L (V S))(s:bp S){ω:Type}(k kp:V S->bp S->O ω):O ω:=match E.T.E.T4 f with
  |none=>Y|some fn=>match fn.body with
   |none=>Y|some c=>
    bif Nl (cH args) fn.ntmps&&Nt fn.ntmps bM then
     zG E (wX E n d) n f (QD E.T fn.results.toList fn.resultTypes.toList) c 0 (T8 E (wX E n d) n fn.results.toList k kp) {n:=fn.ntmps,tm:=mY args 0 .nil} s
    else Y
def vY(b:Nat)(s:bp S):(ps:L Pk)->gm S.A ps->L (V S)×bp S
 |[],_=>([],s)|.one c::ps,x=>match v8 s c x.1 with
  |(v,s)=>match vY b s ps x.2 with
   |(l,s)=>(v::l,s)
 |.box k::ps,x=>match lK s (Z (Ns b)) k x.1 with
  |(ob,s)=>match vY (Ns b) {s with ob:=s.ob.set aM b ob} ps x.2 with
   |(l,a)=>(VK k b::l,a)
 |.hid k::ps,x=>match lK s (Z (Ns b)) k x.1 with
  |(ob,s)=>vY (Ns b) {s with ob:=s.ob.set aM b ob} ps x.2
def dY:L Pk->Nat
 |[]=>0|.one _::l=>dY l|.box _::l=>Ns (dY l)|.hid _::l=>Ns (dY l)
def N2(b:Nat):L Ck->Nat->L (Nat×Nat×Nat)
 |[],_=>[]|.dat (.opt n)::l,i=>(b,i,n)::N2 b l (Ns i)|_::l,i=>N2 b l (Ns i)
def aey(b:Nat):Bk->L (Nat×Nat×Nat)
 |.cells a=>N2 b a 0|.link _ pre post=>N2 b pre 0++N2 b post (Ns (cH pre))|_=>[]
def JB:L Pk->Nat->L (Nat×Nat×Nat)
 |[],_=>[]|.one _::l,b=>JB l b|.box k::l,b=>aey b k++JB l (Ns b)|.hid k::l,b=>aey b k++JB l (Ns b)
def akc:L Nat->Bool
 |[]=>W|_::_=>J
def Gf(v:V S)(JN:Nat)(s:bp S)(q:Nat×Nat×Nat):bp S:=match s.ob.get q.1 with
 |some (.box a)=>match nth a q.2.1 with
  |some (.ptr o 0)=>match s.ob.get o with
   |some (.box b)=>match om s (S.fs q.2.2) b with
    |some (h,os)=>
     let p:=λk=>Nq o k||Nl s.aE k
     bif akc os&&(Nl JN o&&(Nt q.1 JN&&!(cN p v)))then
      {s with ob:=(s.ob.mapA (fc p)).set aM q.1 (.box ((a.map (fX p)).set q.2.1 (.ty (.opt q.2.2) (Z (S.ET q.2.2 h)))))}
     else s
    |none=>s
   |_=>s
  |_=>s
 |_=>s
def adq(d:L Ck)(ps:L Pk)(v:V S)(s0:bp S):O (gC S.A d×iE S.A ps):=
 let e:=(JB ps 0).foldl (Gf v (dY ps)) s0
 match gn e d (Xu d v),uF e 0 ps with
 |some (r,f,g),Z (b,a,c)=>match dV e (f++a)with
  |some _=>bif sB (g++c)&&CM (g++c) (f++a)then Z (r,b)else Y|none=>Y
 |_,_=>Y
def ag6(a:Bool)(b:L Ck)(ps:L Pk)(v:V S)(s':bp S):O (RT a (gC S.A b×iE S.A ps) (den S.A S.pt×iE S.A ps)):=
 match adq b ps v s' with
 |some r=>Z (RT.ok a r)|none=>Y
def ag5(a:Bool)(b:L Ck)(ps:L Pk)(v:V S)(s':bp S):O (RT a (gC S.A b×iE S.A ps) (den S.A S.pt×iE S.A ps)):=
 match adq [.dat S.pt] ps v s' with
 |some r=>RT.iJ a (r.1.1,r.2)|none=>Y
noncomputable def A3(E:eM S)(n d:Nat)(f:FuncId)(ps:L Pk)(a:L Ck)(x:gm S.A ps):O (RT E.pn (gC S.A a×iE S.A ps) (den S.A S.pt×iE S.A ps)):=
 match vY 0 ⟨.nil,dY ps,0,dY ps,[],[]⟩ ps x with
 |(args,s)=>bif !(Nl s.aE bM)then Y else aab E n d f args s (ag6 E.pn a ps) (ag5 E.pn a ps)
end
section
namespace Tr
variable {α β:Type}
def map(f:α->β):Tr α->Tr β
 |.nil=>.nil|.node v l r=>.node (v.map f) (map f l) (map f r)
def get_map(f:α->β):∀(t:Tr α)(k:Nat),(t.map f).get k=(t.get k).map f
 |.nil,k=>by rfl
 |.node v l r,0=>by rw[map,je,je]
 |.node v l r,k+1=>by rw[map,dG,dG,get_map f l,get_map f r];split<;>rfl
theorem mS(f:α->β):∀(n:Nat)(t:Tr α)(k:Nat)(x:α),(Tr.set n t k x).map f=Tr.set n (t.map f) k (f x)
 |0,t,k,x=>rfl|n+1,.nil,0,x=>rfl|n+1,.nil,k+1,x=>by rw[map,pK,pK];split;rw[map,mS f n];rfl;rw[map,mS f n];rfl
 |n+1,.node v l r,0,x=>rfl|n+1,.node v l r,k+1,x=>by rw[map,n9,n9];split;rw[map,mS f n];rw[map,mS f n]
end Tr
def uV(S:Sg):(l:L (TypeId×Ty))->yu S.A l->O (TypeId×D)
 |[],_=>Y|p::_,.inl x=>Z (p.1,enc S p.2 x)|_::l,.inr y=>uV S l y
def Pp:L (TypeId×Ty)->Bool
 |[]=>W|p::l=>(xh l p.1).isNone&&Pp l
structure fq(S:Sg):Prop where
 sH:∀n h,S.get n (S.ET n h)=h
 Yt:∀n x,S.ET n (S.get n x)=x
 cells:∀n x,S.cells n x=e9 S (S.fs n) (S.get n x)
 leaf:∀n,∀t∈S.fs n,kV t=J
 EX:∀n h,S.uO n (S.imk n h)=h
 rZ:∀n x,S.rZ n x=uV S (S.alts n) (S.uO n x)
 alts:∀n,Pp (S.alts n)=W
def OS:∀l:L (TypeId×Ty),uV S l (Yn l)=Y
 |[]=>rfl|_::l=>OS l
def OT:∀(l:L (TypeId×Ty))(t:TypeId)(i:Nat)(x:den S.A (nB l i)),xh l t=Z i->uV S l (YU l i x)=Z (t,enc S (nB l i) x)
 |[],t,i,x,h=>by cases h
 |p::l,t,i,x,h=>by
  obtain⟨a,h⟩|⟨_,h⟩:=af h
  simp at h;subst h;simp only[YU,uV,vV a];rfl;split at h;rename_i j b;simp only[gP]at h;subst h;exact OT l t j x b;cases h
def ajt:Ty->Nat
 |.str=>16|.dj _=>16|.sl _=>24|_=>8
def abM:L Ty->Nat
 |[]=>0|t::l=>Na (ajt t) (abM l)
def zQ(S:Sg):Ty->Nat
 |.int .i8|.int .u8=>1|.int .i16|.int .u16=>2|.int .i32|.int .u32=>4|.int _=>8|.bool=>1|.str=>16|.sl _=>24|.st n=>abM (S.fs n)|.dj _=>16|.opt _|.mp _ _=>8
def acQ(o:O (TypeId×D)):(Qn o).lby=16:=by cases o<;>rfl
theorem wH(o:O (TypeId×D)):(Qn o).leaf=W:=by cases o<;>rfl
theorem nQ(o:O (TypeId×D)):(Qn o).cells=[Qn o]:=by cases o<;>rfl
def agn(o:O (TypeId×D)):(Qn o).sP=16:=by cases o<;>rfl
def iY(o:O D):(ptD o).lby=8/\(ptD o).leaf=W/\(ptD o).cells=[ptD o]/\(ptD o).sP=8:=by cases o<;>exact⟨rfl,rfl,rfl,rfl⟩
def m6:∀(ts:L Ty)(h:l7 S.A ts),(e9 S ts h).length=ts.length
 |[],_=>rfl|t::ts,h=>by simp[e9,m6 ts]
variable {t u:Ty}{v:V S}
def ads(x:den S.A t)(h:kV t=J):(enc S t x).lby=ajt t:=by cases t<;>first|rfl|exact acQ _|exact(iY _).1|cases h
def Fl:∀(ts:L Ty)(h:l7 S.A ts),(∀t∈ts,kV t=J)->D.o8 (e9 S ts h)=abM ts
 |[],_,_=>rfl|t::ts,h,a=>by simp[e9,D.o8,abM,ads _ (a t (by simp)),Fl ts h.2 (λu b=>a u (by simp[b]))]
def Hl(x:den S.A t)(h:kV t=J):(enc S t x).leaf=W:=by cases t<;>first|rfl|exact wH _|exact(iY _).2.1|cases h
def iw:∀(ts:L Ty)(h:l7 S.A ts),(∀t∈ts,kV t=J)->∀d∈e9 S ts h,d.leaf=W
 |[],_,_,d,a=>by simp[e9]at a
 |t::ts,h,b,d,a=>by
  simp[e9,fV]at a;obtain rfl|a:=a
  exact Hl _ (b t (by simp));exact iw ts h.2 (λu c=>b u (by simp[c])) d a
def Ct(a:fq S)(x:den S.A t):(enc S t x).sP=zQ S t:=by
 cases t with
 |st n=>simp[enc,D.sP,zQ];rw[show S.cells n x=_ from a.cells n x,Fl _ _ (a.leaf n)]|int k=>cases k<;>rfl
 |dj n=>exact agn _|opt n=>exact(iY _).2.2.2|_=>rfl
theorem kX(a:fq S){t:Ty}(x:den S.A t):(enc S t x).cells.length=S.width t:=by cases t with|st n=>simp[enc,D.cells,Sg.width,bV];rw[show S.cells n x=_ from a.cells n x,m6]|dj n=>rw[show enc S (.dj n) x=Qn (S.rZ n x)from rfl,nQ];rfl|opt n=>exact eu List.length (iY _).2.2.1|_=>rfl
theorem OR(a:fq S){t:Ty}(x:den S.A t):(enc S t x).flat=W:=by cases t with|st n=>simp[enc,D.flat,D.cells,kP];rw[show S.cells n x=_ from a.cells n x];exact iw _ _ (a.leaf n)|dj n=>grind[enc,D.flat,nQ,wH]|opt n=>simp[enc,D.flat,(iY _).2.2.1,(iY _).2.1]|_=>rfl
def ef(S:Sg):(t:Ty)->den S.A t->T
 |.st n,x=>.agg ((S.cells n x).map .sym)|.int k,x=>.sym (enc S (.int k) x)|.bool,x=>.sym (enc S .bool x)|.str,x=>.sym (enc S .str x)|.sl e,x=>.sym (enc S (.sl e) x)|.dj n,x=>.sym (enc S (.dj n) x)|.opt n,x=>.sym (enc S (.opt n) x)|.mp k v,x=>.sym (enc S (.mp k v) x)
def zw(x:den S.A t)(h:kV t=J):ef S t x=.sym (enc S t x):=by cases t<;>first|rfl|cases h
mutual
def low:V S->T
 |.ty t x=>ef S t x|.kb b=>.kb b|.kn k n=>.kn k n|.dat d=>.sym d|.ptr o off=>.ptr o off|.mc t x off=>.mc (enc S t x) off|.l9 o e i off=>.l9 o e i off|.sh o e=>.sh o e|.emp=>.emp|.kM n t l=>.kM n (l.map (enc S t))|.fn f a b=>.fn f (bA a) (bA b)|.dj t v=>.dj t (low v)|.agg g=>.agg (bA g)|.gR h=>.gR (bA h)|.gd c v=>.gd c (low v)|.mp o=>.mp o|.rP o=>.rP o|.uo o=>.uo o|.ub e=>.ub e|.sC o m r i=>.sC o m r i|.qd n j x=>.qd j (enc S (.st n) x)
def bA:L (V S)->L T
 |[]=>[]|v::l=>low v::bA l
end
def eZ:∀l:L (V S),bA l=l.map low
 |[]=>rfl|v::l=>by simp[bA,pN,eZ l]
def mH:sZ S->Df
 |.call f args=>.call (low f) (bA args)|.mark o=>.mark o|.marks o=>.marks o|.kK=>.kK|.bad=>.bad
def bL(fr:ck S):Fr:=⟨fr.n,fr.tm.map low,fr.df.map mH⟩
def tM(l:LpV S):Lp:=⟨l.st,l.vW,l.fid,bL l.fr,l.params,l.assign,l.body⟩
def de:vo S->Ob
 |.box d=>.box (bA d)|.arr t l era=>.arr (S.width t) (l.map (enc S t)) era|.lM t l era=>.lM (S.width t) (l.map (enc S t)) era|.map kt e l=>.map (l.map λp=>(ef S kt p.1,ef S e p.2))|.Iw kt l=>.map (l.map λp=>(ef S kt p.1,low p.2))|.rO b pos=>.rO (cq b) pos|.lp l=>.lp (tM l)|.Ab=>.Ab|.lT n j l era m a hole=>.lT j (S.width (.st n)) (l.map (enc S (.st n))) era m a hole|.rws t c a=>.rws (S.width t) (c.map (·.map (enc S t))) a|.gone=>.gone|.Gl=>.Gl
def aC(s:bp S):St:=⟨s.ob.map de,s.aE,s.fl,s.lo⟩
theorem aJ(s:bp S)(o:Nat):(aC s).ob.get o=(s.ob.get o).map de:=Tr.get_map _ _ _
theorem cg(fr:ck S)(k:Nat):(bL fr).get k=(fr.get k).map low:=Tr.get_map _ _ _
def VE(fr:ck S)(k:Nat)(v:V S):bL (fr.put k v)=(bL fr).put k (low v):=by simp[bL,ck.put,Fr.put,Tr.mS]
def Q8(fr:ck S)(k:O Nat)(v:V S):bL (fr.jr k v)=(bL fr).jr k (low v):=by cases k with|none=>rfl|some k=>exact VE fr k v
theorem eE(s:bp S)(o:Nat)(ob:vo S)(wr:L Nat):aC {s with ob:=s.ob.set aM o ob,wr:=wr}={aC s with ob:=(aC s).ob.set aM o (de ob)}:=by simp[aC,Tr.mS]
def g6(s:bp S)(ob:vo S):aC (dn s ob)=(eo (aC s) (de ob)).2:=by simp[aC,dn,eo,Tr.mS]
def aaa(b:ByteArray):cq (ofBytes b)=b:=by rfl
def RN{v:Value}{u:V S}(h:uZ v=Z u):ofConst v=Z (low u):=by
 cases v with
 |bool b=>simp[uZ,gP]at h;subst h;rfl|int k n=>simp[uZ,gP]at h;subst h;rfl|string b=>simp[uZ,gP]at h;subst h;simp only[ofConst,low,ef,enc,Dz,jI];rw[aaa]|slice a n m=>
  unfold uZ at h;split at h;all_goals first
   |(simp only[gP]at h;rename_i c;simp only[Value.slice.injEq]at c;obtain⟨rfl,rfl,rfl⟩:=c;subst h;rfl)
   |(rename_i c;cases c;done)
   |grind[Dz]
 |func f a b=>
  simp[uZ]at h;simp[ofConst];split at h
  .simp at h;subst h;rename_i h1 h2;try rw[h1,h2]
   rfl
  cases h
 |iface t v=>simp[uZ,fT]at h;obtain⟨d,e,rfl⟩:=h;simp only[ofConst,e,jI];rfl
 |_=>simp only[uZ,fT]at h;obtain⟨d,e,rfl⟩:=h;simp only[ofConst,e,jI];rfl
theorem cE{fr:ck S}{x:Operand}{u:V S}(h:cF fr x=Z u):kq (bL fr) x=Z (low u):=by
 cases x with
 |tmp k=>grind[cF,kq,cg]|const v=>exact RN h|global g=>cases h
 |func f=>simp[cF,gP]at h;subst h;rfl
def gZ{fr:ck S}:∀{l:L Operand}{a:L (V S)},ko fr l=Z a->yL (bL fr) l=Z (bA a)
 |[],a,h=>by simp only[ko,gP]at h;subst h;rfl
 |x::l,a,h=>by simp[ko]at h;split at h;rename_i h1 h2;simp at h;subst h;simp[yL,cE h1,gZ h2,bA];cases h
def Kg{x:den S.A t}{y:den S.A u}(h:wW t u x=Z y):t=u/\HEq x y:=by
 unfold wW at h
 grind
def fL{x:L (den S.A t)}{y:L (den S.A u)}(h:oM t u x=Z y):t=u/\HEq x y:=by
 unfold oM at h
 grind
theorem gx{k:IntKind}{v:V S}{n:Int}(h:g8 k v=Z n):∃p,yq k (low v)=Z (p,n)/\p:=by unfold g8 at h;split at h;rename_i j m;cases a:oU j k<;>rw[a]at h;cases h;simp at h;subst h;exact⟨True,by simp[low,yq,a],trivial⟩;rename_i j x;cases a:oU j k<;>rw[a]at h;cases h;simp at h;subst h;exact⟨_,rfl,a⟩;cases h
def mK{b:Bool}(h:iD v=Z b):∃p,Bl (low v)=Z (p,b)/\p:=by unfold iD at h;split at h;simp at h;subst h;exact⟨True,rfl,trivial⟩;simp at h;subst h;exact⟨_,rfl,rfl⟩;cases h
def lO{b:L UInt8}(h:we v=Z b):∃p,Ak (low v)=Z (p,cq b)/\p:=by unfold we at h;split at h;simp at h;subst h;exact⟨_,rfl,rfl⟩;cases h
def wB:∀(ts:L Ty)(h:l7 S.A ts),(∀t∈ts,kV t=J)->bA (AK (S:=S) ts h)=(e9 S ts h).map .sym
 |[],_,_=>rfl|t::ts,h,a=>by simp only[AK,bA,e9,pN,wB ts h.2 (λu b=>a u (by simp[b]))];rw[low,zw _ (a t (by simp))]
theorem eP:∀l:L (V S),(bA l).length=l.length
 |[]=>rfl|v::l=>by simp[bA,eP l]
def kz(l m:L (V S)):bA (l++m)=bA l++bA m:=by simp[eZ,Ju]
def mF(l:L (V S))(n:Nat):bA (l.take n)=(bA l).take n:=by simp[eZ,List.map_take]
def mG(l:L (V S))(n:Nat):bA (l.drop n)=(bA l).drop n:=by simp[eZ,List.map_drop]
def VH(h:YG v=W):(low v).leaf:=by
 cases v with
 |ty t x=>simp[YG,NC]at h;rw[low,zw _ h];exact Hl x h|dat d=>exact h|agg=>cases h
 |gR=>cases h
 |gd=>cases h
 |_=>trivial
def zx:∀{l:L (V S)},Ce l=W->leaves (bA l)
 |[],_=>trivial|v::l,h=>by simp[Ce,eW]at h;exact⟨VH h.1,zx h.2⟩
def FO(cs:L D):(List.range cs.length).map (λj=>T.sym ((D.agg cs).cell j))=cs.map .sym:=by
 apply NQ
 grind[D.cell,D.cells]
theorem rF(f:fq S){i:TI}{v:V S}{l:L (V S)}(h:wU i v=Z l):∃p,kJ i (low v)=Z (p,bA l)/\p:=by
 unfold wU at h;split at h;rename_i g;obtain⟨a,h⟩|⟨_,h⟩:=af h
 simp at h;have:(i.agg&&Nq (cH (bA g)) i.size)=W:=by grind[bV,eP]
 exact⟨True,by simp_all[low,kJ],trivial⟩;cases h;rename_i n x;obtain⟨a,h⟩|⟨_,h⟩:=af h
 simp at h;subst h;rw[wB _ _ (f.leaf n),<-f.cells];have:(i.agg&&Nq (cH ((S.cells n x).map T.sym)) i.size)=W:=by rw[bV,QU,f.cells,m6,<-bV];exact a
 exact⟨True,by simp_all[low,ef,kJ],trivial⟩;cases h;rename_i d;obtain⟨_,h⟩|⟨b,h⟩:=af h
 cases h;obtain⟨a,h⟩|⟨_,h⟩:=af h
 simp only[eW]at a;simp at h;subst h;exact⟨_,by simp only[low,kJ,b,a.1,iq,j7];rfl,a.2⟩;cases h;cases h;cases h;obtain⟨_,h⟩|⟨b,h⟩:=af h
 cases h;obtain⟨a,h⟩|⟨_,h⟩:=af h
 .simp at h;subst h;cases v with
  |ty t x=>
   have j:kV t=J:=by cases t with|st n=>grind|_=>rfl
   have e:low (V.ty t x)=.sym (enc S t x):=by rw[low,zw _ j]
   refine⟨(enc S t x).leaf=W,?_,Hl _ j⟩
   simp_all[bA,kJ]
  |agg g=>simp_all|dat d=>simp_all|gR k=>simp_all|gd c v=>simp_all|_=>exact⟨True,by simp only[low,bA,kJ,b,a,iq,j7],trivial⟩
 cases h
def qn{ag:Bool}{l:L (V S)}(h:Dt ag l=Z v):wo ag (bA l)=Z (low v):=by
 obtain⟨a,h⟩|⟨a,h⟩:=af h
 simp at h;subst h;simp[wo,a,iq,low];split at h
 simp_all[wo,bA]
 cases h
end
section
def yY(S:Sg)(i:TI):Ty->Prop
 |.int k=>i.kd=.leaf (.int k)/\i.agg=J/\i.size=1|.bool=>i.kd=.leaf .bool/\i.agg=J/\i.size=1|.str=>i.kd=.leaf .str/\i.agg=J/\i.size=1|.sl e=>(∃z,i.kd=.slice (S.width e) (kV e) (zQ S e) z/\(bif kV e then D.agg z=enc S e (S.zero e)else z=[enc S e (S.zero e)]))/\i.agg=J/\i.size=1/\0<S.width e|.st n=>i.agg=W/\i.size=(S.fs n).length|.dj _=>i.kd=.iface/\i.agg=J/\i.size=1|.opt _=>i.kd=.ptr/\i.agg=J/\i.size=1|.mp _ _=>True/\i.agg=J/\i.size=1
structure Sq(S:Sg)(E:gi):Prop where
 row:∀k i τ,E.E.ti k=Z i->E.ty k=Z τ->yY S i τ
def xF(s:St):∀ds:L D,∃p,oq s (ds.map .sym)=Z (p,ds,[])/\p
 |[]=>⟨True,rfl,trivial⟩|d::ds=>by
  let ⟨p,h,a⟩:=xF s ds
  exact⟨True/\p,by grind[oq,BL],trivial,a⟩
variable {t e:Ty}{n:Int}{s:bp S}{v:V S}{i:TI}{τ:Option Ty}{fr:ck S}{u:Option (V S)}
def UO(a:fq S)(s:St)(x:den S.A t):∃p,BL s (ef S t x)=Z (p,enc S t x,[])/\p:=by
 cases t with
 |st n=>
  let ⟨p,h,b⟩:=xF s (S.cells n x)
  refine⟨p/\(S.cells n x).all D.leaf=W,by simp[ef,BL,h,enc],b,?_⟩;rw[kP,a.cells];exact iw _ _ (a.leaf n)
 |_=>exact⟨True,rfl,trivial⟩
def Oi(k:IntKind):oU k k=W:=by cases k<;>rfl
def xE:∀t:Ty,sr t t=W
 |.int k=>Oi k|.bool=>rfl|.str=>rfl|.sl e=>xE e|.st n=>Nat.beq_refl n|.dj n=>Nat.beq_refl n|.opt n=>Nat.beq_refl n|.mp k v=>zk.2 ⟨xE k,xE v⟩
theorem wV{t:Ty}(x:den S.A t):wW (S:=S) t t x=Z x:=by unfold wW;rw[dif_pos (xE t)]
def J5:∀{ts:L Ty}{h:l7 S.A ts}{j:Nat}{t:Ty}{y:den S.A t},nth ts j=Z t->e9 S ts (Eo ts h j t y)=(e9 S ts h).set j (enc S t y)
 |[],_,_,_,_,h=>by rfl
 | τ::ts,h,0,t,y,e=>by
  grind[nth,Eo,wV,e9]
 | τ::ts,h,j+1,t,y,e=>by simp[nth]at e;simp[Eo,e9,List.set_cons_succ,J5 e]
def J6:∀{ts:L Ty}{h:l7 S.A ts}{j:Nat}{t:Ty},nth ts j=Z t->(e9 S ts h)[j]?=Z (enc S t (ek ts h j t))
 |[],_,_,_,h=>by simp[nth]at h
 | τ::ts,h,0,t,e=>by
  grind[nth,ek,wV,e9]
 | τ::ts,h,j+1,t,e=>by simp[nth]at e;simp[ek,e9,List.getElem?_cons_succ,J6 e]
def Hy{n j:Nat}(h:Eu S n j t=W):nth (S.fs n) j=Z (.sl t):=by
 grind[Eu,jU]
theorem ZO(a:fq S){n j:Nat}{t:Ty}(b:Eu S n j t=W)(x:S.A n)(y:L (den S.A t)):enc S (.st n) (UZ n j t x y)=AV j (enc S (.st n) x) (y.map (enc S t)):=by show D.agg (S.cells n _)=D.agg ((S.cells n x).set j _);rw[a.cells,a.cells,UZ,a.sH,J5 (Hy b)];rfl
theorem GS(a:fq S){n j:Nat}{t:Ty}(b:Eu S n j t=W):∀(l:L (S.A n))(iU:L (L (den S.A t))),(lC n j t l iU).map (enc S (.st n))=mZ j (l.map (enc S (.st n))) (iU.map (·.map (enc S t)))
 |[],_=>by rfl
 |_::_,[]=>by rfl
 |x::l,c::iU=>by
  grind[lC,mZ,ZO]
def Aq{m r:Nat}{iU:L (L (den S.A t))}(h:Nm s m r=Z ⟨t,iU⟩):II (aC s) m r=Z (iU.map (·.map (enc S t))):=by
 unfold Nm at h;split at h;obtain⟨a,h⟩|⟨_,h⟩:=af h
 cases h
 simp_all[II,aJ,de]
 cases h;cases h
mutual
def qE(d:fq S)(s:bp S):∀(t:Ty)(v:V S){x:den S.A t}{os:L Nat},bX s t v=Z (x,os)->∃p,BL (aC s) (low v)=Z (p,enc S t x,os)/\p
 |t,.ty u y,x,os,h=>by simp[bX]at h;split at h;rename_i z f;obtain⟨rfl,c⟩:=Kg f;cases c;obtain⟨rfl,rfl⟩:=h;exact UO d _ _;cases h
 |.bool,.kb b,x,os,h=>by obtain⟨rfl,rfl⟩:=h;exact⟨True,rfl,trivial⟩
 |.int k,.kn j n,x,os,h=>by
  obtain⟨g,h⟩|⟨_,h⟩:=af h
  obtain⟨rfl,rfl⟩:=h;rw[Cf g];exact⟨True,rfl,trivial⟩;cases h
 |.sl e,.emp,x,os,h=>by obtain⟨rfl,rfl⟩:=h;exact⟨True,rfl,trivial⟩
 |.sl e,.kM n t l,x,os,h=>by simp[bX]at h;split at h;rename_i z f;obtain⟨rfl,c⟩:=fL f;cases c;obtain⟨rfl,rfl⟩:=h;exact⟨True,rfl,trivial⟩;cases h
 |.sl e,.sh o r,x,os,h=>by
  simp[bX]at h;split at h;rename_i t l era q;obtain⟨g,h⟩|⟨_,h⟩:=af h
  split at h;rename_i z f;obtain⟨rfl,c⟩:=fL f;cases c;obtain⟨rfl,rfl⟩:=h;refine⟨True,?_,trivial⟩
  simp_all[low,BL,aJ,de,enc]
  cases h;cases h;rename_i t l era q;obtain⟨g,h⟩|⟨_,h⟩:=af h
  split at h;rename_i z f;obtain⟨rfl,c⟩:=fL f;cases c;obtain⟨rfl,rfl⟩:=h;refine⟨True,?_,trivial⟩
  simp_all[low,BL,aJ,de,enc]
  cases h;cases h;rename_i n j l era m R q;split at h;rename_i t E F;obtain⟨g,h⟩|⟨_,h⟩:=af h
  simp only[eW]at g;split at h;rename_i z f;obtain⟨rfl,c⟩:=fL f;cases c;obtain⟨rfl,rfl⟩:=h;refine⟨True,?_,trivial⟩;simp only[low,BL,aJ,q,jI,de,Aq F,g.1,g.2.1,NJ,iq];rw[<-GS d g.2.2];rfl;cases h;cases h;cases h;cases h
 |.sl e,.qd n j x0,x,os,h=>by simp[bX]at h;split at h;rename_i f;obtain⟨rfl,c⟩:=fL f;cases c;obtain⟨rfl,rfl⟩:=h;exact⟨True,rfl,trivial⟩;cases h
 |.st n,.agg I,x,os,h=>by
  simp[bX]at h;split at h;rename_i h1 w K;obtain⟨rfl,rfl⟩:=h
  let ⟨p,A,B⟩:=qj d s (S.fs n) I K
  have C:S.cells n (S.ET n h1)=e9 S (S.fs n) h1:=by rw[d.cells,d.sH]
  refine⟨p/\(e9 S (S.fs n) h1).all D.leaf=W,by simp[low,BL,A,enc,C],B,?_⟩;rw[kP];exact iw _ _ (d.leaf n);cases h
 |.dj n,.dj t v,x,os,h=>by
  simp[bX]at h;split at h;rename_i i P;split at h;rename_i y w Q;obtain⟨rfl,rfl⟩:=h
  let ⟨p,A,B⟩:=qE d s _ v Q
  refine⟨p,?_,B⟩;have e:enc S (.dj n) (S.imk n (YU (S.alts n) i y))=.dj t (enc S (nB (S.alts n) i) y):=by show Qn (S.rZ n _)=_;rw[d.rZ,d.EX,OT _ _ _ _ P];rfl
  simp[low,BL,A,e];cases h;cases h
 |.dj n,.dat (.lit .nilIface),x,os,h=>by
  obtain⟨rfl,rfl⟩:=h;refine⟨True,?_,trivial⟩;have e:enc S (.dj n) (S.imk n (Yn (S.alts n)))=.lit .nilIface:=by show Qn (S.rZ n _)=_;rw[d.rZ,d.EX,OS];rfl
  simp[low,BL,e]
 |.opt _,.dat (.lit v),_,_,h=>by
  cases v with
  |pointer a=>cases a<;>simp[bX]at h;obtain⟨rfl,rfl⟩:=h;exact⟨True,rfl,trivial⟩
  |_=>simp[bX]at h
 |.opt _,.dat (.sl _),_,_,h=>by simp[bX]at h
 |.opt _,.dat (.agg _),_,_,h=>by simp[bX]at h
 |.opt _,.dat (.dj _ _),_,_,h=>by simp[bX]at h
 |.opt _,.dat (.gR _),_,_,h=>by simp[bX]at h
 |.opt _,.dat (.pt _),_,_,h=>by simp[bX]at h
 |.opt _,.dat (.mp _ _),_,_,h=>by simp[bX]at h
 |.mp _ _,.dat _,_,_,h=>by simp[bX]at h
 |.dj _,.kb _,_,_,h=>by simp[bX]at h
 |.dj _,.kn _ _,_,_,h=>by simp[bX]at h
 |.dj _,.emp,_,_,h=>by simp[bX]at h
 |.dj _,.kM _ _ _,_,_,h=>by simp[bX]at h
 |.dj _,.sh _ _,_,_,h=>by simp[bX]at h
 |.dj _,.qd _ _ _,_,_,h=>by simp[bX]at h
 |.bool,.qd _ _ _,_,_,h=>by simp[bX]at h
 |.str,.qd _ _ _,_,_,h=>by simp[bX]at h
 |.int _,.qd _ _ _,_,_,h=>by simp[bX]at h
 |.st _,.qd _ _ _,_,_,h=>by simp[bX]at h
 |t,.sC _ _ _ _,_,_,h=>by cases t<;>simp[bX]at h
 |.dj _,.agg _,_,_,h=>by simp[bX]at h
 |.int _,.dj _ _,_,_,h=>by simp[bX]at h
 |.bool,.dj _ _,_,_,h=>by simp[bX]at h
 |.str,.dj _ _,_,_,h=>by simp[bX]at h
 |.sl _,.dj _ _,_,_,h=>by simp[bX]at h
 |.st _,.dj _ _,_,_,h=>by simp[bX]at h
 |.int _,.dat _,_,_,h=>by simp[bX]at h
 |.bool,.dat _,_,_,h=>by simp[bX]at h
 |.str,.dat _,_,_,h=>by simp[bX]at h
 |.sl _,.dat _,_,_,h=>by simp[bX]at h
 |.st _,.dat _,_,_,h=>by simp[bX]at h
 |.dj _,.dat (.sl _),_,_,h=>by simp[bX]at h
 |.dj _,.dat (.agg _),_,_,h=>by simp[bX]at h
 |.dj _,.dat (.dj _ _),_,_,h=>by simp[bX]at h
 |.dj _,.dat (.gR _),_,_,h=>by simp[bX]at h
 |.dj _,.dat (.lit (.bool _)),_,_,h=>by simp[bX]at h
 |.dj _,.dat (.lit (.int _ _)),_,_,h=>by simp[bX]at h
 |.dj _,.dat (.lit (.float _ _)),_,_,h=>by simp[bX]at h
 |.dj _,.dat (.lit (.complex _ _ _)),_,_,h=>by simp[bX]at h
 |.dj _,.dat (.lit (.string _)),_,_,h=>by simp[bX]at h
 |.dj _,.dat (.lit (.pointer _)),_,_,h=>by simp[bX]at h
 |.dj _,.dat (.lit (.slice _ _ _)),_,_,h=>by simp[bX]at h
 |.dj _,.dat (.lit (.map _)),_,_,h=>by simp[bX]at h
 |.dj _,.dat (.lit (.chan _)),_,_,h=>by simp[bX]at h
 |.dj _,.dat (.lit (.iface _ _)),_,_,h=>by simp[bX]at h
 |.dj _,.dat (.lit (.func _ _ _)),_,_,h=>by simp[bX]at h
 |.dj _,.dat (.lit .nilFunc),_,_,h=>by simp[bX]at h
 |.dj _,.dat (.lit (.agg _)),_,_,h=>by simp[bX]at h
 |.dj _,.dat (.lit (.tuple _)),_,_,h=>by simp[bX]at h
 |t,.mp _,_,_,h=>by cases t<;>simp[bX]at h
 |t,.rP _,_,_,h=>by cases t<;>simp[bX]at h
 |t,.uo _,_,_,h=>by cases t<;>simp[bX]at h
 |t,.ub _,_,_,h=>by cases t<;>simp[bX]at h
 |.int _,.kb _,_,_,h=>by simp[bX]at h
 |.str,.kb _,_,_,h=>by simp[bX]at h
 |.sl _,.kb _,_,_,h=>by simp[bX]at h
 |.st _,.kb _,_,_,h=>by simp[bX]at h
 |.bool,.kn _ _,_,_,h=>by simp[bX]at h
 |.str,.kn _ _,_,_,h=>by simp[bX]at h
 |.sl _,.kn _ _,_,_,h=>by simp[bX]at h
 |.st _,.kn _ _,_,_,h=>by simp[bX]at h
 |.bool,.emp,_,_,h=>by simp[bX]at h
 |.str,.emp,_,_,h=>by simp[bX]at h
 |.int _,.emp,_,_,h=>by simp[bX]at h
 |.st _,.emp,_,_,h=>by simp[bX]at h
 |.bool,.kM _ _ _,_,_,h=>by simp[bX]at h
 |.str,.kM _ _ _,_,_,h=>by simp[bX]at h
 |.int _,.kM _ _ _,_,_,h=>by simp[bX]at h
 |.st _,.kM _ _ _,_,_,h=>by simp[bX]at h
 |.bool,.sh _ _,_,_,h=>by simp[bX]at h
 |.str,.sh _ _,_,_,h=>by simp[bX]at h
 |.int _,.sh _ _,_,_,h=>by simp[bX]at h
 |.st _,.sh _ _,_,_,h=>by simp[bX]at h
 |.bool,.agg _,_,_,h=>by simp[bX]at h
 |.str,.agg _,_,_,h=>by simp[bX]at h
 |.int _,.agg _,_,_,h=>by simp[bX]at h
 |.sl _,.agg _,_,_,h=>by simp[bX]at h
 |t,.ptr _ _,_,_,h=>by cases t<;>simp[bX]at h
 |t,.mc _ _ _,_,_,h=>by cases t<;>simp[bX]at h
 |t,.l9 _ _ _ _,_,_,h=>by cases t<;>simp[bX]at h
 |t,.fn _ _ _,_,_,h=>by cases t<;>simp[bX]at h
 |t,.gR _,_,_,h=>by cases t<;>simp[bX]at h
 |t,.gd _ _,_,_,h=>by cases t<;>simp[bX]at h
def qj(b:fq S)(s:bp S):∀(ts:L Ty)(l:L (V S)){h:l7 S.A ts}{os:L Nat},om s ts l=Z (h,os)->∃p,oq (aC s) (bA l)=Z (p,e9 S ts h,os)/\p
 |[],[],x,os,h=>by obtain⟨_,rfl⟩:=h;exact⟨True,rfl,trivial⟩
 |t::ts,v::l,x,os,h=>by
  simp[om]at h;split at h;rename_i c d;obtain⟨rfl,rfl⟩:=h
  let ⟨p,e,f⟩:=qE b s t v c
  let ⟨q,a,g⟩:=qj b s ts l d
  exact⟨p/\q,by simp[bA,oq,e,a,e9],f,g⟩;cases h
 |[],_::_,_,_,h=>by simp[om]at h
 |_::_,[],_,_,h=>by simp[om]at h
end
def dz(c:fq S):∀(os:L Nat){s s':bp S},dV s os=Z s'->freeze (aC s) os=Z (aC s')
 |[],s,s',h=>by simp only[dV,gP]at h;subst h;rfl
 |o::os,s,s',h=>by
  simp only[dV]at h;obtain⟨e,h⟩|⟨_,h⟩:=af h
  have d:Nl (aC s).fl o=W:=e;simp only[freeze,d,iq];split at h;rename_i t l era b;have:=dz c os h
  grind[eE,aJ,de]
  rename_i t l era b;simp only[aJ,b,jI,de];exact dz c os h;rename_i m r b;split at h;rename_i t f g;obtain⟨a,h⟩|⟨_,h⟩:=af h
  simp only[eW]at a;have:=dz c os h;have i:Nl (aC s).fl m=W:=a.2.1;simp only[aJ,b,jI,de,Aq g,i,a.1,a.2.2.1,NJ,iq]
  grind[aC,Tr.mS,de,GS]
  cases h;cases h;rename_i b;simp only[aJ,b,jI,de];exact dz c os h;rename_i b;simp only[aJ,b,jI,de];exact dz c os h;cases h;cases h
def Am{l:L (den S.A e)}(h:KQ s e v=Z l):∃p,BQ (aC s) (low v)=Z (p,l.map (enc S e))/\p:=by
 unfold KQ at h;split at h;simp only[gP]at h;subst h;exact⟨True,rfl,trivial⟩;obtain⟨rfl,a⟩:=fL h;cases a;exact⟨True,rfl,trivial⟩;obtain⟨rfl,a⟩:=fL h;cases a;exact⟨True,rfl,trivial⟩;obtain⟨rfl,a⟩:=fL h;cases a;exact⟨_,rfl,rfl⟩;split at h;rename_i t c era d;obtain⟨b,h⟩|⟨_,h⟩:=af h
 obtain⟨rfl,a⟩:=fL h;cases a;exact⟨True,by simp_all[low,BQ,aJ,de],trivial⟩;cases h;obtain⟨b,h⟩|⟨_,h⟩:=af h
 obtain⟨rfl,a⟩:=fL h;cases a;exact⟨True,by simp_all[low,BQ,aJ,de],trivial⟩;cases h;cases h;cases h
def Pm{o e:Nat}{l:L (den S.A t)}(h:Mi s o e=Z ⟨t,l⟩):I4 (aC s) o e=Z (S.width t,l.map (enc S t)):=by
 unfold Mi at h;unfold I4;rw[aJ];split at h;rename_i b c era d;obtain⟨a,h⟩|⟨_,h⟩:=af h
 cases h
 simp_all[de]
 cases h;obtain⟨a,h⟩|⟨_,h⟩:=af h
 cases h
 simp_all[de]
 cases h;cases h
def RI{α:Type}(f:α->D)(l:L α)(k:Nat)(z:α)(h:k<l.length):jt (l.map f) k=f (bh l k z):=by simp[jt,bh,h]
def wG{α:Type}{l:L α}(h:aF n l=W):0<=n/\n<l.length:=by simpa[aF]using h
def tQ{α:Type}{k:Nat}{l:L α}(h:dX k l=W):k<l.length:=by simpa[dX]using h
def AM(a:fq S)(x:den S.A t):bA (wC (S:=S) t x)=(enc S t x).cells.map .sym:=by cases t with|st n=>simp[wC,enc,D.cells];rw[wB _ _ (a.leaf n),a.cells]|dj n=>show[T.sym (Qn (S.rZ n x))]=(Qn (S.rZ n x)).cells.map .sym;rw[nQ];rfl|opt n=>exact(eu (List.map T.sym) (iY _).2.2.1).symm|_=>rfl
def BX(g:fq S)(hi:∀u,τ=Z u->yY S i u){x:den S.A t}{off:Nat}(h:TE i τ t x off=Z v) :
  nw i (enc S t x) off=Z (low v)/\(enc S t x).has (Na off i.size):=by
 have w:=kX g x;obtain⟨f,o⟩|⟨_,h⟩:=af h
 simp only[eW]at f;clear h
 let ⟨h1,h2⟩:=f
 have p:=beq_iff'.1 h1;subst p;have h:=j8 o;subst h;unfold abH at h2;split at h2
 .rename_i u;have:=jU h2;subst this;have c:=hi u rfl;cases u with
  |st n=>
   let ⟨b,a⟩:=c
   have q:(S.cells n x).length=(S.fs n).length:=by rw[g.cells,m6]
   refine⟨?_,?_⟩;unfold nw;rw[b,iq,a,<-q];simp[enc,low,ef,FO]
   simp_all[D.has,enc,D.cells]
  |int k=>let ⟨_,b,a⟩:=c;exact⟨by simp only[nw,b,a];rfl,by simp only[D.has,a];exact eO _⟩
  |bool=>let ⟨_,b,a⟩:=c;exact⟨by simp only[nw,b,a];rfl,by simp only[D.has,a];exact eO _⟩
  |str=>let ⟨_,b,a⟩:=c;exact⟨by simp only[nw,b,a];rfl,by simp only[D.has,a];exact eO _⟩
  |sl e=>let ⟨_,b,a,_⟩:=c;exact⟨by simp only[nw,b,a];rfl,by simp only[D.has,a];exact eO _⟩
  |dj n=>
   let ⟨_,b,a⟩:=c
   have e:(enc S (.dj n) x).cells=[enc S (.dj n) x]:=nQ _;exact⟨by simp only[nw,b,a,D.cell,e];rfl,by simp_all[D.has]⟩
  |opt n=>
   let ⟨_,b,a⟩:=c
   have e:(enc S (.opt n) x).cells=[enc S (.opt n) x]:=(iY _).2.2.1;exact⟨by simp only[nw,b,a,D.cell,e];rfl,by simp_all[D.has]⟩
  |mp k v=>let ⟨_,b,a⟩:=c;exact⟨by simp only[nw,b,a];rfl,by simp only[D.has,a];exact eO _⟩
 cases h2;obtain⟨f,h⟩|⟨_,h⟩:=af h
 .have r:off+i.size<=S.width t:=gS f;have d:=qn h;rw[mF,mG,AM g]at d;have l:((List.map T.sym (enc S t x).cells).drop off).take i.size=(List.range i.size).map λj=>T.sym ((enc S t x).cell (off+j)):=by
   apply NQ;intro j;rw[lE];by_cases y:j<i.size
   grind[D.cell]
   grind
  refine⟨?_,by simp only[D.has];grind⟩;unfold wo at d;unfold nw;cases m:i.agg with
  |true=>
   simp_all
  |false=>
   rw[m,j7]at d;split at d;rename_i s;have h1:i.size=1:=by
    have:=eu List.length s
    grind
   simp_all
   cases d
 cases h
def JM(e:fq S)(hi:∀u,τ=Z u->yY S i u){s':bp S}{a:V S}{c:Bool}(h:yN i τ s a=Z (c,v,s'))(f:c=W) :
  s'=s/\∃p,loadT i (aC s) (low a)=Z (p,low v,aC s')/\p:=by
 unfold yN at h;split at h;rename_i o off;split at h;rename_i g w;obtain⟨y,h⟩|⟨_,h⟩:=af h
 simp only[fT,fC]at h;obtain⟨t,j,_,rfl,rfl⟩:=h;refine⟨rfl,True,?_,trivial⟩;have m:=qn j;rw[mF,mG]at m;have n:Nq (cH (((bA g).drop off).take i.size)) i.size=W:=by
  grind[bV,eP]
 simp_all[low,loadT,aJ,de]
 cases h;cases h;rename_i t x off;simp only[fT,fC]at h;obtain⟨u,b,_,rfl,rfl⟩:=h
 let ⟨h1,h2⟩:=BX e hi b
 exact⟨rfl,_,by grind[low,loadT],h2⟩;rename_i k off;split at h;rename_i t l q;simp at h;obtain⟨u,b,rfl,rfl,rfl⟩:=h
 let ⟨h1,h2⟩:=BX e hi b
 have r:=tQ f;have d:=RI (enc S t) l k (S.zero t) r;refine⟨rfl,lX (k:Int) (eN (l.map (enc S t)))/\(enc S t (bh l k (S.zero t))).has (Na off i.size),by simp[low,loadT,Pm q,d,h1,jI],?_,h2⟩
 grind[lX,eN]
 cases h;cases h
def Ge{x:O Operand}(h:Li fr x=Z u):N1 (bL fr) x=Z (u.map low):=by
 cases x with
 |none=>simp[Li,gP]at h;subst h;rfl|some x=>
  simp[Li,fT]at h;obtain⟨v,a,rfl⟩:=h
  grind[N1,cE]
def rG{d:Int}(h:CL d u=Z n):∃p,w5 d (u.map low)=Z (p,n)/\p:=by cases u with|none=>simp[CL,gP]at h;subst h;exact⟨True,rfl,trivial⟩|some v=>exact gx h
def Gd(v:V S):tI (low v)=NZ v:=by
 cases v with
 |ty t x=>cases t<;>rfl
 |_=>rfl
def uD{fr:ck S}:∀{l:L (Nat×Operand)}{a:L (Nat×V S)},ja fr l=Z a->sy (bL fr) l=Z (a.map λp=>(p.1,low p.2))
 |[],a,h=>by simp only[ja,gP]at h;subst h;rfl
 |(k,x)::l,a,h=>by simp[ja]at h;split at h;rename_i h1 h2;simp at h;subst h;simp[sy,cE h1,uD h2,pN];cases h
def Cq(e:fq S){place:Nat->O (Nat×TI)}:∀{ps:L (Nat×V S)}{cells r:L (V S)},J4 place cells ps=Z r->∃p,GW place (bA cells) (ps.map λp=>(p.1,low p.2))=Z (p,bA r)/\p
 |[],cells,r,h=>by simp[J4,gP]at h;subst h;exact⟨True,rfl,trivial⟩
 |(k,v)::ps,cells,r,h=>by
  simp only[J4]at h;split at h;cases h;rename_i g;split at h;cases h;rename_i l i;obtain⟨c,h⟩|⟨_,h⟩:=af h
  simp only[eW]at c
  let ⟨p,j,d⟩:=rF e i
  let ⟨q,f,m⟩:=Cq e h
  simp only[kz,mF,mG]at f;have b:cH (bA l)=cH l:=by rw[bV,eP,<-bV]
  have a:cH (bA cells)=cH cells:=by rw[bV,eP,<-bV]
  refine⟨p/\leaves (bA l)/\q,?_,d,zx c.2,m⟩;simp only[pN,GW,g,j,b,a,c.1,iq,f,jI];cases h
def Hq(a:fq S){s:bp S}{e:Ty}{i:TI}(hi:i.agg=kV e/\(kV e=W->i.size=S.width e)):∀{ps:L (Nat×V S)}{es r:L (den S.A e)}{os:L Nat},oW s e es ps=Z (r,os)->
  ∃p,sK (aC s) i (es.map (enc S e)) (ps.map λp=>(p.1,low p.2))=Z (p,r.map (enc S e),os)/\p
 |[],es,r,os,h=>by obtain⟨rfl,rfl⟩:=h;exact⟨True,rfl,trivial⟩
 |(k,v)::ps,es,r,os,h=>by
  simp[oW]at h;split at h;cases h;rename_i x f g;obtain⟨t,h⟩|⟨_,h⟩:=af h
  split at h
  .rename_i j;obtain⟨rfl,rfl⟩:=h
   let ⟨p,l,m⟩:=qE a s e v g
   let ⟨q,d,o⟩:=Hq a hi j
   rw[FU]at d;have b:Nt k (cH (es.map (enc S e)))=W:=by grind[bV]
   refine⟨p/\(bif i.agg then(enc S e x).isAgg i.size else(enc S e x).leaf)=W/\q,by simp[pN,sK,l,b,iq,d,jI],m,?_,o⟩;rw[hi.1];cases e with|st n=>simp only[kV,iq,enc,D.isAgg];have c:=hi.2 rfl;rw[c];simp only[Sg.width,bV,a.cells,m6,eW];refine⟨beq_iff'.2 rfl,?_⟩;rw[kP];exact iw _ _ (a.leaf n)|dj n=>exact wH _|opt n=>exact(iY _).2.1|_=>rfl
  cases h;cases h
end
section
def v9(s:St):∀(l m:L T){p q:Prop}{ds es:L D}{os ps:L Nat},oq s l=Z (p,ds,os)->oq s m=Z (q,es,ps)->∃r,oq s (l++m)=Z (r,ds++es,os++ps)/\(p->q->r)
 |[],m,p,q,ds,es,os,ps,h,b=>by
  simp only[oq,gP,fC]at h
  grind
 |t::l,m,p,q,ds,es,os,ps,h,b=>by
  simp[oq]at h;split at h;rename_i e d f k g i h1 h2;obtain⟨rfl,rfl,rfl⟩:=h
  let ⟨r,n,a⟩:=v9 s l m h2 b
  exact⟨e/\r,by grind[oq],λc j=>⟨c.1,a c.2 j⟩⟩;cases h
def LS(a:fq S):∀(t:Ty)(h:l7 S.A (S.mX t)),(enc S t (wu t h)).cells=e9 S (S.mX t) h
 |.st n,h=>(a.cells n (S.ET n h)).trans (eu _ (a.sH n h))|.int _,_=>rfl|.bool,_=>rfl|.str,_=>rfl|.sl _,_=>rfl|.dj _,h=>by rw[show(enc S (.dj _) (wu _ h)).cells=[enc S (.dj _) (wu _ h)]from nQ _];rfl
 |.opt _,_=>(iY _).2.2.1|.mp _ _,_=>rfl
variable {i:TI}{s s':bp S}{a x v:V S}{c:Bool}{lo hi:Int}
def Qv(u:fq S)(h:Fm i s a x=Z (c,v,s'))(hc:c=W) :
  ∃p,storeT i (aC s) (low a) (low x)=Z (p,low v,aC s')/\p:=by
 unfold Fm at h;split at h;cases h;rename_i l hl
 let ⟨p,Q,hp⟩:=rF u hl
 have R:cH (bA l)=cH l:=by rw[bV,eP,<-bV]
 split at h;rename_i o off;split at h;rename_i cs ho;obtain⟨E,F⟩|⟨_,F⟩:=af h
 clear h;simp only[eW]at E;obtain⟨_,rfl,rfl⟩:=F;have I:cH (bA cs)=cH cs:=by rw[bV,eP,<-bV]
 have hb':(Nl (aC s).fl o&&Nl (Na off (cH l)) (cH (bA cs)))=W:=by rw[I,eW];exact⟨E.1,E.2.1⟩
 refine⟨p/\leaves (bA l),?_,hp,zx E.2.2⟩;simp only[storeT,Q,low,aJ,ho,jI,de,hb',iq,eE,kz,mF,mG,R];rfl;cases F;cases h;rename_i o e k off;split at h;rename_i t _ _ _;split at h;rename_i h0 os hos;split at h;rename_i s1 Aa;split at h;rename_i t2 m era ho;split at h;rename_i h2 os2 hh2;obtain⟨E,F⟩|⟨_,F⟩:=af h
 clear h;simp only[eW]at E
 let ⟨Ep,pZ,Ry,Rw,hb5⟩:=E
 obtain⟨rfl,rfl,rfl⟩:=F
 let ⟨q,hd,hq⟩:=qj u s _ l hos
 have hf:=dz u os Aa;have hk:=tQ hc;have K:=RI (enc S t2) m k (S.zero t2) hk
 let ⟨q2,z,_⟩:=qj u s _ _ hh2
 have r:off+cH l<=S.width t2:=gS Ry;have h1l:1<=cH l:=gS Rw;generalize hds:e9 S (List.take (cH l) (List.drop off (S.mX t))) h0=ds at hd;have f:ds.length=cH l:=by
  have:∀(s:St)(l:L T){p:Prop}{ds:L D}{os:L Nat},oq s l=Z (p,ds,os)->ds.length=l.length:=by
   intro s l
   induction l with
   |nil=>intro p ds os h;obtain⟨_,rfl,_⟩:=h;rfl
   |cons t l ih=>intro p ds os h;simp[oq]at h;split at h;rename_i h2;obtain⟨_,rfl,_⟩:=h;simp[ih h2];cases h
  rw[this _ _ hd,eP,bV]
 have B:e9 S (S.mX t2) h2=(enc S t2 (bh m k (S.zero t2))).cells.take off++ds++(enc S t2 (bh m k (S.zero t2))).cells.drop (Na off (cH l)):=by
  rw[kz,kz,mF,mG,AM u,<-List.map_take,<-List.map_drop]at z
  let ⟨r1,e1,_⟩:=xF (aC s) ((enc S t2 (bh m k (S.zero t2))).cells.take off)
  let ⟨r2,e2,_⟩:=xF (aC s) ((enc S t2 (bh m k (S.zero t2))).cells.drop (Na off (cH l)))
  let ⟨r3,e3,_⟩:=v9 _ _ _ e1 hd
  let ⟨r4,e4,_⟩:=v9 _ _ _ e3 e2
  rw[e4]at z;simp only[gP,fC]at z;exact z.2.1.symm
 have C:D.Qr (enc S t2 (bh m k (S.zero t2))) off ds=enc S t2 (wu t2 h2):=by
  have b:=LS u t2 h2;rw[B]at b;cases t2 with
  |st n=>simp only[enc,D.cells]at b;simp only[enc,D.Qr,f];rw[b];rfl|dj n=>
   simp[Sg.width]at r;have g:off=0:=by omega
   have j:cH l=1:=by omega
   rw[j]at f;obtain⟨d1,rfl⟩:=XG.1 f;subst g;have w:∀y:S.A n,(enc S (.dj n) y).cells=[enc S (.dj n) y]:=λy=>nQ _;rw[w,w]at b;simp[List.take_zero,NA,j,List.drop_succ_cons,List.drop_nil,jQ,NN,and_true]at b;have P:∀y:S.A n,D.Qr (enc S (.dj n) y) 0 [d1]=d1:=λy=>by show D.Qr (Qn (S.rZ n y)) 0 [d1]=d1;cases S.rZ n y<;>rfl
   rw[P];exact b.symm
  |opt n=>
   simp only[Sg.width]at r;have g:off=0:=by omega
   have j:cH l=1:=by omega
   rw[j]at f;obtain⟨d1,rfl⟩:=XG.1 f;subst g;have w:∀y,(enc S (.opt n) y).cells=[enc S (.opt n) y]:=λy=>(iY _).2.2.1;rw[w,w]at b;simp[List.take_zero,NA,j,List.drop_succ_cons,List.drop_nil,jQ,NN,and_true]at b;have P:∀y,D.Qr (enc S (.opt n) y) 0 [d1]=d1:=λy=>by cases y<;>rfl
   rw[P];exact b.symm
  |_=>
   simp only[Sg.width]at r;have g:off=0:=by omega
   have j:cH l=1:=by omega
   rw[j]at f;obtain⟨d1,rfl⟩:=XG.1 f;subst g;simp only[enc,D.cells,List.take_zero,NA,j,Nat.add_eq,yo,List.drop_succ_cons,List.drop_nil,jQ,NN,and_true]at b;simp only[enc,D.Qr,List.getD,lR,Jv,Nat.lt_add_one,getElem?_pos,List.getElem_cons_zero,NB,yo];exact b.symm
 have htk:(jt (m.map (enc S t2)) k).Ta (S.width t2) off (cH ds):=by
  rw[K,bV,f];cases t2 with
  |st n=>
   left
   simp only[enc,D.isAgg,Sg.width,bV,u.cells,m6,eW];refine⟨beq_iff'.2 rfl,?_⟩;rw[kP];exact iw _ _ (u.leaf n)
  |dj n=>simp[Sg.width]at r;exact .inr ⟨wH _,rfl,by omega,by omega⟩
  |opt n=>simp[Sg.width]at r;exact .inr ⟨(iY _).2.1,rfl,by omega,by omega⟩
  |_=>simp only[Sg.width]at r;exact .inr ⟨rfl,rfl,by omega,by omega⟩
 have arN:Nl (Na off (cH ds)) (S.width t2)=W:=by rw[bV,f];exact Ry
 have A:ds.all D.leaf=W:=by
  rw[kP];intro d hd';have:d∈e9 S (S.mX t2) h2:=by rw[B];simp[hd']
  cases t2 with|st n=>exact iw _ _ (u.leaf n) d this|dj n=>simp[Sg.mX,e9,tC]at this;rw[this];exact wH _|opt n=>simp[Sg.mX,e9,tC]at this;rw[this];exact(iY _).2.1|_=>simp only[Sg.mX,e9,tC]at this;rw[this];rfl
 have hby:((jt (m.map (enc S t2)) k).Qr off ds).sP=(jt (m.map (enc S t2)) k).sP:=by rw[K,C,Ct u,Ct u]
 have arP:(Nl (aC s1).fl o&&Nq e era)=W:=by rw[eW];exact⟨Ep,pZ⟩
 refine⟨p/\q/\ds.all D.leaf=W/\lX (k:Int) (eN (m.map (enc S t2)))/\(jt (m.map (enc S t2)) k).Ta (S.width t2) off (cH ds)/\Nl (Na off (cH ds)) (S.width t2)=W/\
  ((jt (m.map (enc S t2)) k).Qr off ds).sP=(jt (m.map (enc S t2)) k).sP,?_,hp,hq,A,?_,htk,arN,hby⟩
 simp only[storeT,Q,low,hd,hf,aJ,ho,jI,de,arP,iq,eE,K,C,y7,lF,FU];rfl;simp only[lX,eN,QU];omega;cases F;cases h;cases h;cases h;cases h;cases h;cases h
def A9{len:Int}(h:ez lo hi len=W):y8 lo hi len:=by simpa[ez,y8]using h
def pV{α:Type}(f:α->D)(l:L α):eN (l.map f)=ak l:=by simp[eN,ak]
def Td{α:Type}(f:α->D)(l:L α)(lo hi:Int):pI (l.map f) lo hi=(cL l lo hi).map f:=by
 grind[pI,cL,List.map_drop,List.map_take]
def tA(a:fq S){e:Ty}(l:L (den S.A e)):jH (l.map (enc S e)) (S.width e):=by intro d b;obtain⟨x,_,rfl⟩:=ym.1 b;exact kX a x
def Ft(b:L UInt8):vC (cq b)=ak b:=by rfl
def Qy(b:L UInt8)(h:y8 lo hi (ak b)):MI (cq b) lo hi=cq (cL b lo hi):=by
 let ⟨h1,h2,h3⟩:=h
 unfold MI cq cL;apply ByteArray.ext
 grind[ByteArray.data_extract,List.drop_take]
def Qz(hS:fq S){τ:O Ty}(hi:∀u,τ=Z u->yY S i u){l h m:O (V S)}(g:wg i τ s x l h m=Z (c,v,s'))(C:c=W) :
  ∃p,qG i (aC s) (low x) (l.map low) (h.map low) (m.map low)=Z (p,low v,aC s')/\p:=by
 unfold wg at g;split at g;rename_i lo E
 let ⟨p,f,P⟩:=rG (d:=0) E
 have f:w5 z8 (l.map low)=Z (p,lo):=f
 let ⟨w,_,_⟩:=hi _ rfl
 split at g;rename_i b _ hb
 let ⟨q,A,Q⟩:=lO hb
 split at g;rename_i j B
 let ⟨r,o,I⟩:=rG B
 obtain⟨rfl,rfl,rfl⟩:=g;have a:=A9 C;refine⟨p/\q/\r/\y8 lo j (vC (cq b)),?_,P,Q,I,by exact a⟩;unfold qG;rw[w,f];simp only[A,Option.map_none,Ft,o,Qy b a];rfl;cases g;cases g;rename_i e lo E
 let ⟨p,f,P⟩:=rG (d:=0) E
 have f:w5 z8 (l.map low)=Z (p,lo):=f
 let ⟨⟨z,w,_⟩,_⟩:=hi _ rfl
 split at g;rename_i K s1 _ Qo hfz
 let ⟨q,A,Q⟩:=Am Qo
 have hf:=dz hS _ hfz;rw[<-Gd]at hf;split at g;rename_i _ j B
 let ⟨r,o,I⟩:=rG B
 obtain⟨rfl,rfl,rfl⟩:=g;have a:=A9 C;refine⟨p/\q/\r/\jH (K.map (enc S e)) (S.width e)/\y8 lo j (eN (K.map (enc S e))),?_,P,Q,I,tA hS K,by rw[pV];exact a⟩;unfold qG;rw[w,f];simp only[A,hf,pV,o,Option.map_none,Td];rfl;rename_i j y hv B
 let ⟨r,o,I⟩:=rG B
 simp at o;split at g;obtain⟨rfl,rfl,rfl⟩:=g;simp[eW,fZ,qM]at C;refine⟨p/\q/\r/\lo=z8/\j=z8,?_,P,Q,I,C.1,C.2⟩;unfold qG;rw[w,f];simp[A,hf,pV,o,jI,low];rename_i hno;split at g;rename_i mx hmx
 let ⟨t,R,ht⟩:=gx hmx
 obtain⟨rfl,rfl,rfl⟩:=g;simp[eW,fZ,qM]at C;have a:=A9 C.1;refine⟨p/\q/\r/\t/\jH (K.map (enc S e)) (S.width e)/\y8 lo j (eN (K.map (enc S e)))/\mx=j,?_,P,Q,I,ht,tA hS K,by rw[pV];exact a,C.2⟩;unfold qG;rw[w,f];simp[A,hf,pV,o,jI,Td];have hnl:∀q,low y=.kn .i64 q->q≠0:=by
  intro q F h0;subst h0;cases y with
  |ty t x=>cases t<;>simp[low,ef]at F
  |kn k n=>obtain⟨rfl,rfl⟩:=F;exact hno rfl
  |_=>simp[low]at F
 generalize low y=ly at R hnl;split;exact absurd rfl (hnl 0 rfl);rw[R];rfl;cases g;cases g;cases g;cases g
def HQ{g:O Bool}{b:Bool}(h:aaf v=Z (g,b)):∃p,I5 (low v)=Z (p,b)/\(orT g=W->p):=by
 unfold aaf at h;split at h;rename_i c i;split at h;rename_i d
 let ⟨p,a,e⟩:=mK d
 obtain⟨rfl,rfl⟩:=h;exact⟨c=W/\p,by simp[low,I5,a],λf=>⟨f,e⟩⟩;cases h;obtain⟨rfl,rfl⟩:=h;exact⟨True,rfl,λ_=>trivial⟩;obtain⟨rfl,rfl⟩:=h;exact⟨_,rfl,λ_=>rfl⟩;cases h
def Vm{c b:V S}{q:Bool}(h:X7 c a b=Z (q,v))(f:q=W):∃p,Jy (low c) (low a) (low b)=Z (p,low v)/\p:=by
 unfold X7 at h;split at h;rename_i u;split at h;rename_i p y h1;obtain⟨rfl,rfl⟩:=h
 let ⟨r,e,k⟩:=HQ h1
 refine⟨r,?_,k f⟩;have g:I5 (bif u then low a else low b)=Z (r,y):=by cases u<;>exact e
 simp only[low,Jy,g];rfl;cases h;split at h;rename_i t p x C y h1 h2 h3
 let ⟨i,j,l⟩:=mK h1
 let ⟨m,n,o⟩:=HQ h2
 let ⟨s,w,z⟩:=HQ h3
 obtain⟨rfl,rfl⟩:=h;refine⟨i/\(t=W->m)/\(t=J->s),by
  have A:∀u,low c≠.kb u:=by
   intro u d;cases c with
   |kb b=>grind|ty t x=>cases t<;>cases d
   |_=>cases d
  unfold Jy;split
  simp_all
  simp only[j,n,w];rfl,l,λB=>o ?_,λB=>z ?_⟩
 simp_all
 simp_all
 cases h
end
section
variable {v x ix a b:V S}{i:TI}{s s':bp S}{c:Bool}{op:BinOp}
def af6{o r:Nat}(h:low v=.sh o r):v=.sh o r:=by
 cases v with
 |ty t x=>cases t<;>simp[low,ef]at h
 |sh a b=>simpa[low]using h|_=>simp[low]at h
def GL(F:fq S){τ:O Ty}(hi:∀u,τ=Z u->yY S i u)(a:kC i τ s x ix=Z (c,v,s'))(C:c=W) :
  s'=s/\∃p,kD i (aC s) (low x) (low ix)=Z (p,low v,aC s')/\p:=by
 unfold kC at a;split at a;rename_i sz Q R zz e n g I
 let ⟨p,h,E⟩:=gx I
 let ⟨⟨z,b,_⟩,_⟩:=hi _ rfl
 split at a;rename_i o r;split at a;rename_i t l m;obtain⟨w,d⟩|⟨_,d⟩:=af a
 clear a;have:=jU w;subst this;obtain⟨rfl,rfl,rfl⟩:=d;have f:=wG C;have y:Nq (S.width t) (S.width t)=W:=beq_iff'.2 rfl;refine⟨rfl,p/\lX n (eN (l.map (enc S t))),?_,E,by rw[pV];exact f⟩;unfold kD;rw[b,h];simp only[low,Pm m,y,iq];rfl;cases d;cases a;rename_i A;split at a;rename_i l m;obtain⟨rfl,rfl,rfl⟩:=a
 let ⟨q,B,K⟩:=Am m
 have f:=wG C;have P:(ax n)<l.length:=by unfold ax;omega
 have j:=RI (enc S e) l (ax n) (S.zero e) P;refine⟨rfl,p/\q/\lX n (eN (l.map (enc S e)))/\(jt (l.map (enc S e)) (Ei n)).wide (S.width e),?_,E,K,by rw[pV];exact f,?_⟩;unfold kD;rw[b,h];simp only;split;rename_i o r k;exact absurd (af6 k) (A o r);rw[B];simp only[low];rw[show jt (List.map (enc S e) l) (Ei n)=_ from j];show(jt (l.map (enc S e)) (ax n)).cells.length=_;rw[j,kX F];cases a;rename_i g;unfold xd at a;split at a;obtain⟨w,h3⟩|⟨_,h3⟩:=af a
 obtain⟨rfl,rfl,rfl⟩:=h3;refine⟨rfl,True,?_,trivial⟩;unfold kD;rw[g];simp only[low,Bq,w,iq];cases h3;cases a;cases a
theorem ru{i:TI}{s s':bp S}{k:Nat}{x v:V S}{c:Bool}(a:ry i s k x=Z (c,v,s')):s'=s/\∃p,rz i (aC s) k (low x)=Z (p,low v,aC s')/\p:=by
 unfold ry at a;unfold rz;split at a
 .rename_i b;try rw[b]
  try simp only
  split at a
  .rename_i d;try rw[d]
   obtain⟨_,h⟩|⟨e,h⟩:=af a
   cases h
   .simp only[e,j7];split at h;all_goals first
     |(cases h;done)
     |(
       simp only[gP,fC]at h;obtain⟨rfl,rfl,rfl⟩:=h;exact⟨rfl,True,rfl,trivial⟩)
  cases a
 cases a
def RF(e:fq S){k:Nat}(a:Cr i s k x=Z (c,v,s')):s'=s/\∃p,GX i (aC s) k (low x)=Z (p,low v,aC s')/\p:=by
 unfold Cr at a;unfold GX;split at a
 .rename_i b;try rw[b]
  try simp only
  split at a;rename_i off size o f q g
  let ⟨p,j,l⟩:=rF e g
  obtain⟨r,h⟩|⟨_,h⟩:=af a
  simp only[fT,fC]at h;obtain⟨t,m,_,rfl,rfl⟩:=h;have d:=qn m;rw[mF,mG]at d;have n:(Nq (cH (((bA f).drop off).take size)) size&&!(Nq size 0))=W:=by
   grind[bV,eP]
  exact⟨rfl,p,by simp_all,l⟩;cases h;cases a
 cases a
theorem U0{b:L UInt8}{n:Int}(h:aF n b=W):aa7 (cq b) n=mP b n:=by
 have a:=wG h;have c:n.toNat<b.length:=by omega
 unfold aa7 mP;have h1:(cq b).get! n.toNat=b.getD n.toNat 0:=by
  grind[cq,ByteArray.get!]
 rw[h1]
def Rg(a:Ci i s x ix=Z (c,v,s'))(d:c=W):s'=s/\∃p,GK i (aC s) (low x) (low ix)=Z (p,low v,aC s')/\p:=by
 unfold Ci at a;split at a;rename_i n b e f g
 let ⟨p,h,j⟩:=gx f
 let ⟨q,k,l⟩:=lO g
 obtain⟨rfl,rfl,rfl⟩:=a;refine⟨rfl,p/\q/\lX n (vC (cq b)),?_,j,l,by exact wG d⟩
 grind[GK,low,ef,enc,U0]
 cases a
def UK(d:D):low (zeroV (S:=S) d)=qP d:=by
 unfold zeroV;split;rfl;rfl;rfl;rfl;unfold qP;split
 simp_all
 simp_all
 grind
 rfl
def nF:∀(l:L D),bA (l.map (zeroV (S:=S)))=l.map qP
 |[]=>rfl|d::l=>by simp[pN,bA,UK,nF l]
def Sd(a:i.kd=.iface->False)(s:St)(t u:TypeId)(v:T) :
  sk i s t W (.dj u v)=(bif Nq u t then Z (True,.gR [v,.kb W],s)else(wo i.agg (i.zero.map qP)).map λz=>(True,.gR [z,.kb J],s)):=by
 unfold sk;cases b:i.kd<;>first|rfl|grind
def Se(a:i.kd=.iface->False)(s:St)(t u:TypeId)(v:T) :
  sk i s t J (.dj u v)=(bif Nq u t then Z (True,v,s)else Y):=by
 unfold sk;cases b:i.kd<;>first|rfl|grind
theorem xb{i:TI}{s s':bp S}{t:TypeId}{ok:Bool}{x v:V S}{c:Bool}(a:E6 i s t ok x=Z (c,v,s')):s'=s/\∃p,sk i (aC s) t ok (low x)=Z (p,low v,aC s')/\p:=by
 unfold E6 at a;split at a;cases a;rename_i u w _ b;rw[low,Sd b];obtain⟨d,a⟩|⟨d,a⟩:=af a
 obtain⟨rfl,rfl,rfl⟩:=a;exact⟨rfl,True,by rw[d];rfl,trivial⟩;simp only[fT,fC]at a;obtain⟨z,f,_,rfl,rfl⟩:=a;have e:=qn f;rw[nF]at e;exact⟨rfl,True,by rw[d,j7,e];rfl,trivial⟩;rename_i _ b;rw[low,Se b];obtain⟨d,a⟩|⟨_,a⟩:=af a
 obtain⟨rfl,rfl,rfl⟩:=a;exact⟨rfl,True,by rw[d];rfl,trivial⟩;cases a;cases a
def abG{op:UnOp}(a:unV i op x=Z v):∃p d,unT i op (low x)=Z (p,d)/\p/\low v=.sym d:=by
 unfold unV at a;split at a;rename_i c;simp only[fT]at a;obtain⟨b,f,rfl⟩:=a
 let ⟨p,e,g⟩:=mK f
 exact⟨p,_,by simp only[unT,c,e,jI];rfl,g,rfl⟩;rename_i c;simp at a;obtain⟨b,f,rfl⟩:=a
 let ⟨p,e,g⟩:=gx f
 exact⟨p,_,by simp only[unT,c,e,jI];rfl,g,rfl⟩;cases a
theorem CC{i j:TI}{s s':bp S}{x v:V S}{c:Bool}(a:Ud i j s x=Z (c,v,s')):s'=s/\∃p,Ke i j (aC s) (low x)=Z (p,low v,aC s')/\p:=by
 unfold Ud at a;split at a;rename_i h1 h2;simp only[fT,fC]at a;obtain⟨n,d,_,rfl,rfl⟩:=a
 let ⟨p,b,e⟩:=gx d
 exact⟨rfl,p,by simp only[Ke,h1,h2,b,jI];rfl,e⟩;simp only[fT,fC]at a;obtain⟨n,d,_,rfl,rfl⟩:=a
 let ⟨p,b,e⟩:=lO d
 exact⟨rfl,p,by grind[Ke],e⟩;cases a
theorem uR{s s':bp S}{k:Nat}{x v:V S}{c:Bool}(a:AX s k x=Z (c,v,s')):s'=s/\∃p,tT (aC s) k (low x)=Z (p,low v,aC s')/\p:=by unfold AX at a;split at a;simp only[fT,fC]at a;obtain⟨t,b,_,rfl,rfl⟩:=a;exact⟨rfl,True,by simp_all[low,tT,kr,eZ],trivial⟩;cases a
def BR(a b:L UInt8):UE (cq a) (cq b)=gw a b:=by show(a.toArray==b.toArray)=(a==b);simp
theorem DO{k:Lk}{a b:V S}{r:Bool}(h:E2 k a b=Z r):∃p,rA k (low a) (low b)=Z (p,r)/\p:=by
 unfold E2 at h;split at h;split at h;rename_i h1 h2;simp at h;subst h
 let ⟨p,c,d⟩:=gx h1
 let ⟨q,e,f⟩:=gx h2
 exact⟨p/\q,by simp[rA,c,e],d,f⟩;cases h;split at h;rename_i h1 h2;simp at h;subst h
 let ⟨p,c,d⟩:=mK h1
 let ⟨q,e,f⟩:=mK h2
 exact⟨p/\q,by simp[rA,c,e],d,f⟩;cases h;split at h;rename_i h1 h2;simp at h;subst h
 let ⟨p,c,d⟩:=lO h1
 let ⟨q,e,f⟩:=lO h2
 exact⟨p/\q,by simp[rA,c,e,BR],d,f⟩;cases h;cases h
theorem yQ:∀{c:L Lk}{as bs:L (V S)}{r:Bool},kW c as bs=Z r->∃p,kF c (bA as) (bA bs)=Z (p,r)/\p
 |[],[],[],r,h=>by simp only[kW,gP]at h;subst h;exact⟨True,rfl,trivial⟩
 |k::c,a::as,b::bs,r,h=>by
  simp[kW]at h;split at h;rename_i h1 h2;simp at h;subst h
  let ⟨p,d,e⟩:=DO h1
  let ⟨q,f,g⟩:=yQ h2
  exact⟨p/\q,by simp[bA,kF,d,f],e,g⟩;cases h
 |[],[],_::_,_,h=>by simp[kW]at h
 |[],_::_,_,_,h=>by simp[kW]at h
 |_::_,[],_,_,h=>by simp[kW]at h
 |_::_,_::_,[],_,h=>by simp[kW]at h
def OQ(e:fq S){r:Bool}(h:aha i a b=Z r):∃p,ZJ i (low a) (low b)=Z (p,r)/\p:=by
 unfold ZJ;obtain⟨d,h⟩|⟨d,h⟩:=af h
 grind[rF,yQ]
 .rw[d];split at h
  grind[DO]
  .rename_i c;try rw[c]
   unfold ZK at h;split at h;simp only[gP]at h;subst h;exact⟨True,rfl,trivial⟩;simp only[gP]at h;subst h;exact⟨True,rfl,trivial⟩;cases h
  .rename_i c;try rw[c]
   unfold ZL at h;split at h;simp only[gP]at h;subst h;exact⟨True,rfl,trivial⟩;simp only[gP]at h;subst h;exact⟨True,rfl,trivial⟩;cases h
  cases h
def Z2{op:BinOp}{k:IntKind}{m n:Int}:(adE (S:=S) op k m n).map low=(Wn op k m n).map .sym:=by unfold adE Wn;cases op<;>rfl
theorem ZS{op:BinOp}{k:IntKind}{m n:Int}:(adA (S:=S) op k m n).map low=(ZT op k m n).map .sym:=by unfold adA ZT;cases op<;>rfl
def Wc{a b:L UInt8}(h:adp a b=W):MJ (cq a) (cq b):=by
 grind[adp,MJ,cq,ByteArray.size]
def aac(z:fq S)(h:HI i op a b=Z (c,v))(B:c=W):∃p d,Me i op (low a) (low b)=Z (p,d)/\p/\low v=.sym d:=by
 have f:=h;unfold HI at h;split at h;simp only[fT,fC]at h;obtain⟨r,u,_,rfl⟩:=h
 let ⟨p,e,o⟩:=OQ z u
 exact⟨p,_,by simp only[Me,e,jI];rfl,o,rfl⟩;simp only[fT,fC]at h;obtain⟨r,u,_,rfl⟩:=h
 let ⟨p,e,o⟩:=OQ z u
 exact⟨p,_,by simp only[Me,e,jI];rfl,o,rfl⟩
 .rename_i g j;cases l:i.kd with
  |leaf C=>
   cases C with
   |int k=>
    have t:HI i op a b=(match g8 k a,g8 k b with
     |some m,Z n=>match adE op k m n with
      |some d=>Z (W,d)|none=>(adA op k m n).map λd=>(nzI n,d)
     |_,_=>Y):=by
     clear h;unfold HI;cases op<;>first|exact(g rfl).elim|exact(j rfl).elim|(simp only[l];done)|(simp only[l];cases g8 k a<;>cases g8 k b<;>rfl)
    have I:∀{p q:Prop}{m n:Int},yq k (low a)=Z (p,m)->yq k (low b)=Z (q,n)->Me i op (low a) (low b)=(match Wn op k m n with
     |some d=>Z (p/\q,d)|none=>(ZT op k m n).map λd=>(p/\q/\ahZ n,d)):=by
     intro p q m n w x;clear h t;unfold Me;cases op<;>first|exact(g rfl).elim|exact(j rfl).elim|(simp only[l,w,x];rfl)
    rw[t]at f;split at f;rename_i m n h1 h2
    let ⟨p,w,o⟩:=gx h1
    let ⟨q,x,A⟩:=gx h2
    have s:=Z2 (S:=S) (op:=op) (k:=k) (m:=m) (n:=n);split at f
    grind
    rename_i E;rw[E]at s;simp only[fT,fC]at f;obtain⟨d,F,rfl,rfl⟩:=f
    grind[ZS,Option.map_eq_some_iff,ahZ,nzI]
    cases f
   |str=>
    have y:op=.add:=by clear h;unfold HI at f;cases op<;>first|rfl|exact(g rfl).elim|exact(j rfl).elim|(simp only[l]at f;cases f)
    clear h;subst y;have t:HI i .add a b=(match we a,we b with
     |some m,Z n=>Z (adp m n,.ty .str (dc m n))|_,_=>Y):=by
     unfold HI;simp[l];cases we a<;>cases we b<;>rfl
    rw[t]at f;split at f;rename_i m n h1 h2
    let ⟨p,w,o⟩:=lO h1
    let ⟨q,x,A⟩:=lO h2
    obtain⟨rfl,rfl⟩:=f;refine⟨p/\q/\MJ (cq m) (cq n),.lit (.string (SM (cq m) (cq n))),?_,⟨o,A,Wc B⟩,by rfl⟩
    simp_all[Me]
    cases f
   |bool=>
    clear h;unfold HI at f;cases op<;>first|exact(g rfl).elim|exact(j rfl).elim|(simp only[l]at f;cases f)
   |no=>
    clear h;unfold HI at f;cases op<;>first|exact(g rfl).elim|exact(j rfl).elim|(simp only[l]at f;cases f)
  |_=>
   clear h;unfold HI at f;cases op<;>first|exact(g rfl).elim|exact(j rfl).elim|(simp only[l]at f;cases f)
def N3(A:fq S){E:gi}(hE:Sq S E){fr:ck S}{o:Op}(h:cM E fr s o=Z (c,v,s'))(F:c=W) :
  ∃p,oO E.E (bL fr) (aC s) o=Z (p,low v,aC s')/\p:=by
 cases o with
 |move x=>simp only[cM,fT,fC]at h;obtain⟨t,ht,_,rfl,rfl⟩:=h;exact⟨True,by simp[oO,cE ht,jI],trivial⟩
 |assign x=>simp only[cM,fT,fC]at h;obtain⟨t,ht,_,rfl,rfl⟩:=h;exact⟨True,by simp[oO,cE ht,jI],trivial⟩
 |pick x y z=>
  simp[cM]at h;split at h;rename_i a b d h1 h2 h3;simp only[fT,fC]at h;obtain⟨⟨q,t⟩,ht,rfl,rfl,rfl⟩:=h
  let ⟨p,e,l⟩:=Vm ht F
  exact⟨p,by simp[oO,cE h1,cE h2,cE h3,e,jI],l⟩;cases h
 |alloc t=>
  simp[cM]at h;split at h;rename_i i g;obtain⟨w,h⟩|⟨_,h⟩:=af h
  obtain⟨_,rfl,rfl⟩:=h;refine⟨True,?_,trivial⟩;have I:Nt (aC s).aE bM=W:=w;simp only[oO,g,I,iq,g6,de,nF];rfl;cases h;cases h
 |box t x=>
  simp[cM]at h;split at h;rename_i i v' g hv;obtain⟨w,h⟩|⟨_,h⟩:=af h
  simp only[fT,fC]at h;obtain⟨cs,K,_,rfl,rfl⟩:=h
  let ⟨p,e,l⟩:=rF A K
  have I:Nt (aC s).aE bM=W:=w;refine⟨p,?_,l⟩;simp only[oO,g,cE hv,I,iq,e,jI,g6,de];rfl;cases h;cases h
 |build t ps=>
  simp[cM]at h;split at h;rename_i i ps' g P;split at h;rename_i B;simp only[fT,fC]at h;obtain⟨cs,K,_,rfl,rfl⟩:=h
  let ⟨p,e,l⟩:=Cq A K
  rw[nF]at e;refine⟨p,?_,l⟩;simp only[oO,g,uD P,B,low];exact eu (Option.map λq:Prop×L T=>(q.1,T.agg q.2,aC s)) e;cases h;cases h
 |buildSlice t n ps=>
  simp only[cM]at h;split at h;rename_i i e ps' g LH P;split at h;rename_i zz B;obtain⟨w,h⟩|⟨_,h⟩:=af h
  split at h;rename_i os hel;simp only[fT,fC]at h;obtain⟨s1,Aa,_,rfl,rfl⟩:=h
  let ⟨⟨z,C,Q⟩,_,_,hpos⟩:=hE.row _ _ _ g LH
  rw[B]at C;obtain⟨rfl,rfl,rfl,rfl⟩:=Kd.slice.inj C;have hf:=dz A os Aa;have hzl:cH zz=S.width e:=by cases e with|st m=>simp[kV,iq,enc,D.agg.injEq]at Q;rw[Q];simp[Sg.width,bV];rw[show S.cells m (S.zero (.st m))=_ from A.cells m _,m6]|_=>simp only[kV,j7]at Q;rw[Q];rfl
  have R:((kV e||Nq (S.width e) 1)&&(Nq (cH zz) (S.width e)&&(!(Nq (S.width e) 0)&&Nl (Nat.mul n (S.width e)) 16777216)))=W:=by rw[hzl];simp only[eW,NC];refine⟨?_,beq_iff'.2 rfl,?_,w⟩;cases e<;>rfl;cases hq:Nq (S.width e) 0 with|false=>rfl|true=>have:=beq_iff'.1 hq;omega
  have agx:List.replicate n (bif kV e then D.agg zz else zz.getD 0 default)=(List.replicate n (S.zero e)).map (enc S e):=by
   rw[List.map_replicate]
   congr 1
   cases e with|st m=>exact Q|_=>simp only[kV,cond_false]at Q ⊢;rw[Q];rfl
  let ⟨p,e1,l⟩:=Hq A (i:={(default:TI)with size:=S.width e,agg:=kV e}) ⟨rfl,λ_=>rfl⟩ hel
  refine⟨p,?_,l⟩;simp only[oO,g,uD P,B,R,iq,agx,e1,hf,jI,low];cases h;cases h;cases h;cases h
 |load t x=>simp[cM]at h;split at h;rename_i i a g r;obtain⟨rfl,p,e,l⟩:=JM A (λu hu=>hE.row _ _ _ g hu) h F;exact⟨p,by simp[oO,g,cE r,e],l⟩;cases h
 |store t x y=>
  simp[cM]at h;split at h;rename_i i a b g r w
  let ⟨p,e,l⟩:=Qv A h F
  exact⟨p,by simp[oO,g,cE r,cE w,e],l⟩;cases h
 |nilCheck x=>
  simp[cM]at h;split at h;all_goals first
   |(cases h;done)
   |(
     rename_i hx;simp only[gP,fC]at h;obtain⟨_,rfl,rfl⟩:=h;have:=cE hx;simp only[low]at this;exact⟨True,by simp only[oO,this,low],trivial⟩)
 |binOp op t x y u=>
  simp[cM]at h;split at h;rename_i i a b g r w;simp only[fT,fC]at h;obtain⟨⟨q,d⟩,hd,rfl,rfl,rfl⟩:=h
  let ⟨p,d',e,l,hl⟩:=aac A hd F
  exact⟨p,by simp[oO,g,cE r,cE w,e,jI,hl],l⟩;cases h
 |unOp op t x=>
  simp[cM]at h;split at h;rename_i i a g r;simp only[fT,fC]at h;obtain⟨d,hd,_,rfl,rfl⟩:=h
  let ⟨p,d',e,l,hl⟩:=abG hd
  exact⟨p,by simp[oO,g,cE r,e,jI,hl],l⟩;cases h
 |convert t u x=>simp[cM]at h;split at h;rename_i i j a g hj r;obtain⟨rfl,p,e,l⟩:=CC h;exact⟨p,by simp[oO,g,hj,cE r,e],l⟩;cases h
 |makeInterface t x=>simp[cM]at h;split at h;rename_i i a g r;split at h;cases h;obtain⟨_,rfl,rfl⟩:=h;refine⟨True,?_,trivial⟩;simp[oO,g,cE r,low];cases h
 |makeFunc f a b=>simp[cM]at h;split at h;rename_i x y hx hy;obtain⟨_,rfl,rfl⟩:=h;exact⟨True,by simp[oO,gZ hx,gZ hy,low],trivial⟩;cases h
 |extract x k=>simp[cM]at h;split at h;rename_i a r;obtain⟨rfl,p,e,l⟩:=uR h;exact⟨p,by simp[oO,cE r,e],l⟩;cases h
 |fieldAddr t x k=>simp[cM]at h;split at h;rename_i i a g r;obtain⟨rfl,p,e,l⟩:=ru h;exact⟨p,by simp[oO,g,cE r,e],l⟩;cases h
 |field t x k=>simp[cM]at h;split at h;rename_i i a g r;obtain⟨rfl,p,e,l⟩:=RF A h;exact⟨p,by simp[oO,g,cE r,e],l⟩;cases h
 |indexAddr t x y=>simp[cM]at h;split at h;rename_i i a b g r w;obtain⟨rfl,p,e,l⟩:=GL A (λu hu=>hE.row _ _ _ g hu) h F;exact⟨p,by simp[oO,g,cE r,cE w,e],l⟩;cases h
 |index t x y=>simp[cM]at h;split at h;rename_i i a b g r w;obtain⟨rfl,p,e,l⟩:=Rg h F;exact⟨p,by simp[oO,g,cE r,cE w,e],l⟩;cases h
 |slice t x lo g mx=>
  simp[cM]at h;split at h;rename_i i a l1 l2 l3 hi' r h1 h2 h3
  let ⟨p,e,l⟩:=Qz A (λu hu=>hE.row _ _ _ hi' hu) h F
  exact⟨p,by simp[oO,hi',cE r,Ge h1,Ge h2,Ge h3,e],l⟩;cases h
 |typeAssert x t u ok=>simp[cM]at h;split at h;rename_i g r;obtain⟨rfl,p,e,l⟩:=xb h;exact⟨p,by simp[oO,g,cE r,e],l⟩;cases h
 |_=>simp[cM]at h
end
section
variable {e:Ty}{v:V S}{s s':bp S}{c:Bool}
def E5(a:fq S)(l:L (den S.A e)):vO (l.map (enc S e)) (zQ S e):=by intro d b;obtain⟨x,_,rfl⟩:=ym.1 b;exact⟨Ct a x,OR a x⟩
def vg{α:Type}(f:α->D)(l m:L α):iG (l.map f) (m.map f)=(dc l m).map f:=by simp[iG,dc]
def E1{α:Type}(f:α->D){l m:L α}(h:dg l m=W):D.T6 (l.map f) (m.map f):=by simpa[dg,D.T6]using h
def acp{n:Nat}{es:L D}(h:low v=.kM n es):∃t l,v=.kM n t l:=by
 cases v with
 |ty t x=>cases t<;>simp[low,ef]at h
 |kM a t l=>obtain⟨rfl,_⟩:=h;exact⟨t,l,rfl⟩
 |_=>simp[low]at h
def Po(l:fq S){i:TI}(hi:yY S i (.sl e)){x y:V S}(h:Up i e s x y=Z (c,v,s'))(C:c=W) :
  ∃p,u9 i (aC s) (low x) (low y)=Z (p,low v,aC s')/\p:=by
 obtain⟨_,a⟩|⟨E,a⟩:=af h
 cases a;clear h;have m:(!(Nt (aC s).aE bM))=J:=E;unfold u9;rw[m,j7]
 let ⟨⟨z,n,hz⟩,_⟩:=hi
 split at a;rename_i new g u;rw[n]at g;obtain⟨rfl,rfl,rfl,rfl⟩:=Kd.slice.inj g
 let ⟨q,F,A⟩:=Am u
 rw[n,F];have w:=tA l new;have I:=E5 l new;split at a;obtain⟨_,rfl,rfl⟩:=a;refine⟨q/\jH (new.map (enc S e)) (S.width e)/\vO (new.map (enc S e)) (zQ S e),?_,A,w,I⟩;simp only[low,g6,de];rfl;rename_i t f;split at a;rename_i R b;obtain⟨rfl,K⟩:=fL b;cases K;have j:=tA l (dc f new);have d:=E5 l (dc f new);rw[<-vg]at j d;split at a;rename_i k t2 l2;obtain⟨rfl,rfl,rfl⟩:=a;refine⟨q/\jH (iG (f.map (enc S t)) (new.map (enc S t))) (S.width t)/\vO (iG (f.map (enc S t)) (new.map (enc S t))) (zQ S t)/\D.T6 (f.map (enc S t)) (new.map (enc S t)),?_,A,j,d,E1 _ C⟩;simp only[low,g6,de,<-vg];rfl;obtain⟨rfl,rfl,rfl⟩:=a;refine⟨q/\jH (iG (f.map (enc S t)) (new.map (enc S t))) (S.width t)/\vO (iG (f.map (enc S t)) (new.map (enc S t))) (zQ S t)/\D.T6 (f.map (enc S t)) (new.map (enc S t)),?_,A,j,d,E1 _ C⟩;simp[low];split;rename_i hl;obtain⟨t3,l3,rfl⟩:=acp hl
 grind
 simp[ef,enc,<-vg];cases a;rename_i o r;split at a;rename_i t f era ho;split at a;rename_i b;obtain⟨rfl,K⟩:=fL b;cases K;obtain⟨B,P⟩|⟨_,P⟩:=af a
 clear a;simp only[eW]at B;obtain⟨rfl,rfl,rfl⟩:=P;have d:=E5 l (dc f new);rw[<-vg]at d;refine⟨q/\jH (new.map (enc S t)) (S.width t)/\vO (iG (f.map (enc S t)) (new.map (enc S t))) (zQ S t)/\D.T6 (f.map (enc S t)) (new.map (enc S t)),?_,A,w,d,E1 _ C⟩;have Q:(Nl (aC s).fl o&&Nq r era&&Nq (S.width t) (S.width t)&&!(tI (low y)).contains o)=W:=by rw[Gd];simp only[eW];exact⟨⟨⟨B.1,B.2.1⟩,beq_iff'.2 rfl⟩,B.2.2⟩
 simp only[low,aJ,ho,jI,de,Q,iq,eE,<-vg];cases P;cases a;cases a;cases a;cases a
def yU(w:fq S){E:gi}(r:Sq S E){b:Builtin}{n:Array TypeId}{args:L (V S)}(h:iy E s b n args=Z (c,v,s'))(y:c=W) :
  ∃p,fM E.E (aC s) b n (bA args)=Z (p,low v,aC s')/\p:=by
 unfold iy at h;split at h;rename_i x;split at h;rename_i i j d
 let ⟨k,l,m⟩:=vU.1 j
 let ⟨A,a,f⟩:=vU.1 d
 rw[l]at a;cases a
 let ⟨g,_⟩:=r.row _ _ _ m f
 split at h;rename_i _ B
 let ⟨p,e,o⟩:=lO B
 obtain⟨_,rfl,rfl⟩:=h;exact⟨p,by simp only[bA,fM,e,j,g,Ft];rfl,o⟩;cases h;rename_i i e j d
 let ⟨k,l,m⟩:=vU.1 j
 let ⟨A,a,f⟩:=vU.1 d
 rw[l]at a;cases a
 let ⟨⟨z,g,_⟩,_⟩:=r.row _ _ _ m f
 split at h
 .simp only[fT,fC]at h;obtain⟨F,t,_,rfl,rfl⟩:=h
  let ⟨p,u,o⟩:=Am t
  refine⟨p,?_,o⟩;simp[bA,fM];cases C:Ak (low x)with|none=>simp only[j,g,u,jI,pV];rfl|some q=>simp only[j,g,u,jI,pV];rfl
 cases h;cases h;split at h;split at h;rename_i j I d;split at h
 let ⟨p,u,o⟩:=Po w (r.row _ _ _ j d) h y
 grind[bA,fM]
 cases h;cases h;cases h;cases h
end
section
section
variable {g g':Gh}{w w':World}
structure nk(g g':Gh):Prop where
 bT:∀o b,g.bT o=Z b->g'.bT o=Z b
 arr:∀o e x,g.arr o e=Z x->g'.arr o e=Z x
 bx:∀b,g.bx b->g'.bx b
theorem nk.refl(g:Gh):nk g g:=⟨λ_ _ h=>h,λ_ _ _ h=>h,λ_ h=>h⟩
def nk.trans{g g' a:Gh}(h:nk g g')(k:nk g' a):nk g a:=⟨λo b e=>k.bT o b (h.bT o b e),λo e x c=>k.arr o e x (h.arr o e x c),λb e=>k.bx b (h.bx b e)⟩
variable {v:Value}{s s':St}{o b e:Nat}{x:fe}{os:List Nat}
def dJ.le{I a:Nat->Prop}(c:∀b,I b->a b){d:D}(h:dJ I w d v):dJ a w d v:=h.mono (λ_ _=>rfl) c
def aI.le(h:nk g g'){t:T}{v:Value}(F:aI g w t v):aI g' w t v:=by
 induction F with|sym d v p=>exact .sym d v (p.le h.bx)|kb b=>exact .kb b|kn k n=>exact .kn k n|ptr o off b q=>exact .ptr o off b (h.bT o b q)|mc d off z val A I p=>exact .mc d off z val (h.bx _ A) I (λj c B=>(p j c B).le h.bx)|l9 o e i off len cap sz z s=>exact .l9 o e i off len cap sz z (h.arr _ _ _ s)|sh o e len cap sz a s=>exact .sh o e len cap sz a (h.arr _ _ _ s)|emp a=>exact .emp a|kM n K a P p=>exact .kM n K a P (p.le h.bx)|fn f Q u R S y hm _ _ l C=>exact .fn f Q u R S y hm l C|dj t x v _ l=>exact .dj t x v l|agg u E y _ l=>exact .agg u E y l|gR u E y _ l=>exact .gR u E y l|gd c t v _ l=>exact .gd c t v l|mp o b q=>exact .mp o b (h.bT o b q)|rP o b q=>exact .rP o b (h.bT o b q)|uo o b q=>exact .uo o b (h.bT o b q)|ub e b h=>exact .ub e b h|sC o m r i len cap sz a s=>exact .sC o m r i len cap sz a (h.arr _ _ _ s)|qd j d c a B p=>exact .qd j d c a B (p.le h.bx)
def xy.le{s s':St}{o b:Nat}(h:xy g s w o b)(c:nk g g')(hi:g'.bx=g.bx)(hs:s'.ob.get o=s.ob.get o):xy g' s' w o b:=by
 refine⟨by rw[hi];exact h.1,h.2.1,λob a=>?_⟩;rw[hs]at a
 let ⟨x,h1,h2⟩:=h.2.2 ob a
 exact⟨x,h1,h2.imp (λ_ _ h=>h.le c)⟩
def BF.le(h:BF g s w o e x)(hi:g'.bx=g.bx)(hs:s'.ob.get o=s.ob.get o)(b:∀k j y,g.arr k j=Z y->g'.arr k j=Z y)(d:∀c,g'.arr o c=g.arr o c):BF g' s' w o e x:=by refine⟨h.1,λob a=>?_⟩;rw[hs]at a;exact(h.2 ob a).tr (λh=>h.kE hi) b (funext d) (λ_ _ _=>⟨rfl,by rw[hi]⟩)
def aY.aak(hs:aY g s w)(hn:s.aE<bM){sz:Nat}{es:L D}
  (v:∀b,x.at b->b<w.heap.size/\∀o,¬bJ g o b) (n:xD g w J sz es x) (p:x.sz=sz) :
  aY (g.era s.aE 0 x) (eo s (.arr sz es 0)).2 w/\nk g (g.era s.aE 0 x)/\(∀k b,bJ (g.era s.aE 0 x) k b->bJ g k b\/(k=s.aE/\x.at b)):=by
 have q:=hs.ah s.aE (eO _);have e:∀k j y,g.arr k j=Z y->(g.era s.aE 0 x).arr k j=Z y:=λk j y h=>by
  rw[Gh.cT];exact h
  grind
 have i:nk g (g.era s.aE 0 x):=⟨λ_ _ h=>h,e,λ_ h=>h⟩;have a:∀k b,bJ (g.era s.aE 0 x) k b->bJ g k b\/(k=s.aE/\x.at b):=by
  rintro k b ⟨h1,h2|⟨j,y,m,h2,h3,h4,h5⟩⟩
  exact .inl ⟨h1,.inl h2⟩;by_cases c:k=s.aE/\j=0;obtain⟨rfl,rfl⟩:=c;rw[Gh.fJ]at h2;simp at h2;subst h2;exact .inr ⟨rfl,⟨m,h3,h4,h5⟩⟩;rw[Gh.cT _ _ _ _ _ _ c]at h2;exact .inl ⟨h1,.inr ⟨j,y,m,h2,h3,h4,h5⟩⟩
 refine⟨⟨by simp only[eo];omega,λk z=>?_,λk b r=>?_,λk j y l=>?_,λb r=>hs.bx b r,λk u b h A=>?_⟩,i,a⟩;simp only[eo]at z;refine⟨(hs.ah k (by omega)).1,λj=>?_⟩;rw[Gh.cT _ _ _ _ _ _ (by omega)];exact(hs.ah k (by omega)).2 j;have t:g.bT k=Z b:=r;have d:k≠s.aE:=λh=>by simp_all
 exact(hs.box k b t).le i rfl (by simp[eo];rw[Tr.aV _ _ _ _ hn,bQ d]);by_cases c:k=s.aE/\j=0;obtain⟨rfl,rfl⟩:=c;rw[Gh.fJ]at l;simp at l;subst l;refine⟨λm B C=>(v _ ⟨m,B,rfl,C⟩).1,λob f=>.inl ⟨J,es,0,?_,eO _,λE h=>?_,λ_=>p▸(n.kE rfl)⟩⟩;simp[eo]at f;rw[Tr.aV _ _ _ _ hn,bD rfl]at f
 grind[ga]
 grind[Gh.cT]
 rw[Gh.cT _ _ _ _ _ _ c]at l;have d:k≠s.aE:=λh=>by simp_all
 exact(hs.arr k j y l).le rfl (by simp[eo];rw[Tr.aV _ _ _ _ hn,bQ d]) e (λE=>Gh.cT _ _ _ _ _ _ (λh=>d h.1));obtain h1|⟨h1,h3⟩:=a k b h<;>obtain h2|⟨h2,h4⟩:=a u b A
 exact hs.j6 k u b h1 h2
 simp_all
 simp_all
 rw[h1,h2]
def aY.tO(hs:aY g s w)(m:g.bT o=Z b){ob:Ob}{x:Obj}(t:w.heap[b]?=Z x)(u:gX g w ob x)(l:∀e,g.arr o e=Y):aY g {s with ob:=s.ob.set aM o ob} w:=by
 have n:=hs.lt m;have p:=hs.aE;have ek:∀k,(Tr.set aM s.ob o ob).get k=if k=o then Z ob else s.ob.get k:=λk=>Tr.aV _ _ _ _ (by omega)
 refine⟨hs.aE,hs.ah,λk c q=>?_,λk e x r=>?_,hs.bx,hs.j6⟩;have d:=hs.box k c q;refine⟨d.1,d.2.1,λf a=>?_⟩;rw[ek]at a;by_cases i:k=o
 simp_all
 rw[bQ i]at a;exact d.2.2 f a;have j:=hs.arr k e x r;have i:k≠o:=λh=>by simp_all
 refine⟨j.1,λf a=>?_⟩;rw[ek,bQ i]at a;exact j.2 f a
theorem aY.step{s:St}(hs:aY g s w){I X:Nat->Prop}(B:∀b,g.bx b->I b)(hIn:∀b,I b->g.bx b\/w.heap.size<=b\/X b)(hIs:∀b,I b->b<w'.heap.size)(u:w.heap.size<=w'.heap.size)
  (Q:∀b,b<w.heap.size->¬X b->w'.heap[b]?=w.heap[b]?) (hX:∀o b,X b->bJ g o b->s.ob.get o=Y/\¬I b) (hXi:∀b,X b->¬g.bx b) :
  aY {g with bx:=I} s w':=by
 have F:∀k b,bJ ({g with bx:=I}:Gh) k b->bJ g k b:=λk b h=>⟨λhi=>h.1 (B b hi),h.2⟩;have R:j4 g.bx w w':=λb p=>Q b (hs.bx b p) (λy=>hXi b y p);have S:∀{t:T}{v:Value},aI g w t v->aI ({g with bx:=I}:Gh) w' t v:=by
  intro t v ht
  induction ht with|sym d v z=>exact .sym d v (z.mono R B)|kb b=>exact .kb b|kn k n=>exact .kn k n|ptr o off b p=>exact .ptr o off b p|mc d off ad val l q z=>exact .mc d off ad val (B _ l) (λj c K=>by rw[R.cell (by rw[lg];exact l)];grind) (λj c K=>(z j c K).mono R B)|l9 o e i off len cap sz ad y=>exact .l9 o e i off len cap sz ad y|sh o e len cap sz a y=>exact .sh o e len cap sz a y|emp a=>exact .emp a|kM n es a hn z=>exact .kM n es a hn (z.mono R B)|fn f fs cs va vc hl hm _ _ C ih'=>exact .fn f fs cs va vc hl hm C ih'|dj t x v _ C=>exact .dj t x v C|agg cs vs hl _ C=>exact .agg cs vs hl C|gR cs vs hl _ C=>exact .gR cs vs hl C|gd c t v _ C=>exact .gd c t v C|mp o b p=>exact .mp o b p|rP o b p=>exact .rP o b p|uo o b p=>exact .uo o b p|ub e b h=>exact .ub e b h|sC o m r i len cap sz a y=>exact .sC o m r i len cap sz a y|qd j d c a K z=>exact .qd j d c a K (z.mono R B)
 have P:∀o b,bJ g o b->¬I b:=λo b hO hi=>by
  obtain h|h|h:=hIn b hi
  exact hO.1 h;have:=(hs.rW hO).1;omega
  grind
 refine⟨hs.aE,hs.ah,λk c q=>?_,λk e x y=>?_,hIs,λk k' b h h'=>hs.j6 k k' b (F k b h) (F k' b h')⟩;have A:=hs.box k c q;have hO:bJ g k c:=⟨A.1,.inl q⟩;refine⟨P k c hO,iS A.2.1 u,λob mR=>?_⟩
 let ⟨x,h2,h3⟩:=A.2.2 ob mR
 exact⟨x,by grind,h3.imp (λ_ _ h=>S h)⟩
 .have E:=hs.arr k e x y;refine⟨λad ha q=>iS (E.1 ad ha q) u,λob mR=>?_⟩;refine(E.2 ob mR).tr (λ{fz sz es}hA=>?_) (λ_ _ _ h=>h) rfl (λb k1 q=>?_);rotate_left;have p:b<w.heap.size:=E.1 _ k1 q;by_cases l:g.bx b
  grind
  have hO:bJ g k b:=⟨l,.inr ⟨e,x,_,y,k1,rfl,q⟩⟩
  grind
  refine⟨hA.len,hA.cap,hA.rows,hA.pos,hA.W0,λq=>?_⟩
  let ⟨b,vs,ty,k1,k2,k3,k4,k5⟩:=hA.mem q
  have p:b<w.heap.size:=E.1 _ k1 q;by_cases l:g.bx b;refine⟨b,vs,ty,k1,⟨λ_=>B b l,λ_=>k2.2 l⟩,by grind,k4,λi d j c z K=>?_⟩
  let ⟨v,hv,hr⟩:=k5 i d j c z K
  exact⟨v,hv,hr.mono R B⟩;have hO:bJ g k b:=⟨l,.inr ⟨e,x,_,y,k1,rfl,q⟩⟩;have hnx:¬X b:=λhxx=>by grind
  refine⟨b,vs,ty,k1,⟨λhf=>absurd (k2.1 hf) l,λhi=>absurd hi (P k b hO)⟩,by simp_all,k4,λi d j c z K=>?_⟩
  let ⟨v,hv,hr⟩:=k5 i d j c z K
  exact⟨v,hv,hr.mono R B⟩
def Gh.drop(g:Gh)(os:L Nat):Gh:={g with arr:=λo e=>if o∈os then Y else g.arr o e}
def Gh.Hs(h:(g.drop os).arr o e=Z x):o∉os/\g.arr o e=Z x:=by
 grind[Gh.drop]
def Gh.zI{k:Nat}(h:bJ (g.drop os) k b):bJ g k b:=by obtain⟨h1,h2|⟨e,x,a,h2,h3⟩⟩:=h;exact⟨h1,.inl h2⟩;exact⟨h1,.inr ⟨e,x,a,(Gh.Hs h2).2,h3⟩⟩
mutual
def dy(os:L Nat):T->Bool
 |.ptr o _=>os.contains o|.l9 o _ _ _=>os.contains o|.sh o _=>os.contains o|.mp o=>os.contains o|.rP o=>os.contains o|.uo o=>os.contains o|.fn _ a b=>iM os a||iM os b|.dj _ v=>dy os v|.agg c=>iM os c|.gR c=>iM os c|.gd _ v=>dy os v|.sC o m _ _=>os.contains o||os.contains m|_=>J
def iM(os:L Nat):L T->Bool
 |[]=>J|v::l=>dy os v||iM os l
end
def qT{os:L Nat}:∀{l:L T},iM os l=J->∀t∈l,dy os t=J
 |[],_,t,b=>by cases b
 |a::l,h,t,b=>by
  simp[iM,zj]at h;obtain rfl|b:=fV.1 b
  exact h.1;exact qT h.2 t b
theorem aI.drop{os:L Nat}{t:T}{v:Value}(h:aI g w t v)(l:dy os t=J):aI (g.drop os) w t v:=by
 induction h with|sym d v q=>exact .sym d v q|kb b=>exact .kb b|kn k n=>exact .kn k n|ptr o off b h=>exact .ptr o off b h|mc d off y val E z q=>exact .mc d off y val E z q|l9 o e i off len cap sz y h=>simp[dy,FR,XC]at l;exact .l9 o e i off len cap sz y (by simp[Gh.drop,bQ l];exact h)|sh o e len cap sz a h=>simp[dy,FR,XC]at l;exact .sh o e len cap sz a (by simp[Gh.drop,bQ l];exact h)|emp a=>exact .emp a|kM k F a I q=>exact .kM k F a I q|fn f K s P Q u A _ _ p B=>simp[dy,zj]at l;exact .fn f K s P Q u A (λj t v h1 h2=>p j t v h1 h2 (qT l.1 t (iA h1))) (λj t v h1 h2=>B j t v h1 h2 (qT l.2 t (iA h1)))|dj t x v _ p=>exact .dj t x v (p l)|agg s C u _ p=>exact .agg s C u (λj t v h1 h2=>p j t v h1 h2 (qT l t (iA h1)))|gR s C u _ p=>exact .gR s C u (λj t v h1 h2=>p j t v h1 h2 (qT l t (iA h1)))|gd c t v _ p=>exact .gd c t v (λz=>p z l)|mp o b h=>exact .mp o b h|rP o b h=>exact .rP o b h|uo o b h=>exact .uo o b h|ub e b h=>exact .ub e b h|sC o m r i len cap sz a h=>simp[dy,zj,FR,XC]at l;exact .sC o m r i len cap sz a (by simp_all[Gh.drop])|qd j d c a R q=>exact .qd j d c a R q
def aaF(os:L Nat)(ob a:Ob):Prop:=so (dy os) ob a
theorem aY.drop{s i:St}(hs:aY g s w){os:L Nat}(hn:i.aE=s.aE)(d:∀o a,i.ob.get o=Z a->∃ob,s.ob.get o=Z ob/\aaF os ob a):aY (g.drop os) i w:=by
 refine⟨hn▸hs.aE,λo f=>⟨(hs.ah o (hn▸f)).1,λe=>?_⟩,λo b q=>?_,λo e x r=>?_,hs.bx,λo u b h z=>hs.j6 o u b (Gh.zI h) (Gh.zI z)⟩;simp only[Gh.drop];split;rfl;exact(hs.ah o (hn▸f)).2 e
 let ⟨h1,h2,h3⟩:=hs.box o b q
 refine⟨h1,h2,λa c=>?_⟩
 let ⟨ob,k,l⟩:=d o a c
 let ⟨x,h4,h5⟩:=h3 ob k
 exact⟨x,h4,h5.left (λt v A p=>A.drop p) l⟩
 let ⟨f,n⟩:=Gh.Hs r
 let ⟨h1,h2⟩:=hs.arr o e x n
 refine⟨h1,λa c=>?_⟩
 let ⟨ob,k,l⟩:=d o a c
 refine(h2 ob k).left l (λh=>h.kE rfl) (λm j y p h=>?_) (funext λB=>by simp[Gh.drop,bQ f]) (λ_ _ _=>⟨rfl,vS⟩)
 simp_all[dy,Gh.drop]
end
end
section
def ghI(I:Nat->Prop):Gh:=⟨λ_=>Y,λ_ _=>Y,I⟩
def abo(I:Nat->Prop)(w:World)(sz:Nat)(es:L D)(x:fe):Prop:=xD (ghI I) w J sz es x/\x.sz=sz
def ahV(S:Sg)(I:Nat->Prop)(w:World)(n j:Nat)(t:Ty)(l:L (S.A n))(a:fe)(rl:L fe):Prop:=
 ∃hl:L Value,hl.length=l.length/\abo I w (S.width (.st n)) (lits j (l.map (enc S (.st n))) hl) a/\rl.length=l.length/\
  (∀(i:Nat)(y:fe),rl[i]?=Z y->hl[i]?=Z (.slice y.a y.len y.cap))/\(∀(i:Nat)(y:fe)(x:S.A n),rl[i]?=Z y->l[i]?=Z x->abo I w (S.width t) ((IT n j t x).map (enc S t)) y)/\Eu S n j t=W
inductive jT(S:Sg)(I:Nat->Prop)(w:World):(cs:List Ck)->gC S.A cs->List Value->List fe->Prop where
 |nil:jT S I w [] () [] []|dat {t:Ty} {cs:List Ck} {x:den S.A t} {h:gC S.A cs} {v:Value} {vs:List Value} {al:List fe} (hd:dJ I w (enc S t x) v) (hr:jT S I w cs h vs al):jT S I w (.dat t::cs) (x,h) (v::vs) al|own {e:Ty} {cs:List Ck} {l:List (den S.A e)} {h:gC S.A cs} {a:fe} {vs:List Value} {al:List fe} (ho:abo I w (S.width e) (l.map (enc S e)) a) (hr:jT S I w cs h vs al) :
   jT S I w (.own e::cs) (l,h) (.slice a.a a.len a.cap::vs) (a::al)
 |ku {n j:Nat} {t:Ty} {cs:List Ck} {l:List (S.A n)} {h:gC S.A cs} {a:fe} {rl:List fe} {vs:List Value} {al:List fe} (ho:ahV S I w n j t l a rl) (hr:jT S I w cs h vs al) :
   jT S I w (.ku n j t::cs) (l,h) (.slice a.a a.len a.cap::vs) (a::(rl++al))
 |nl {e:Ty} {cs:List Ck} {h:gC S.A cs} {a:Option Addr} {vs:List Value} {al:List fe} (hr:jT S I w cs h vs al):jT S I w (.nil e::cs) ([],h) (.slice a 0 0::vs) al|ptr {t:Ty} {cs:List Ck} {x:den S.A t} {h:gC S.A cs} {ad:Addr} {val:Nat->Value} {vs:List Value} {al:List fe} (hi:I ad.block) (hc:∀j c,(enc S t x).cells[j]?=Z c->w.cell? (ad.add j)=Z (val j))
   (hd:∀j c,(enc S t x).cells[j]?=Z c->dJ I w c (val j)) (hr:jT S I w cs h vs al):jT S I w (.ptr t::cs) (x,h) (.pointer (Z (ad.add 0))::vs) al
inductive AL(g:Gh):List fe->List Nat->Prop where
 |nil:AL g [] []|emp {a:fe} {al:List fe} {ow:List Nat} (h:a.cap=0) (hr:AL g al ow):AL g (a::al) ow|own {a:fe} {al:List fe} {o e:Nat} {ow:List Nat} (h:g.arr o e=Z a) (hr:AL g al ow):AL g (a::al) (o::ow)
 |rows {rl al:List fe} {m:Nat} {ow:List Nat} (h:∀y∈rl,∃e,g.arr m e=Z y) (hap:rl.Pairwise λx y=>∀b,x.at b->¬y.at b) (hr:AL g al ow):AL g (rl++al) (m::ow)
variable {g:Gh}{al vK:List fe}{ow fz:List Nat}{s:bp S}{w:World}{I:Nat->Prop}{a:fe}{b n j o:Nat}{t:Ty}{cs:List Ck}{vs:List Value}{c:Ck}{v:Value}{ob:vo S}{k:Bk}{nx:Option Nat}
def AL.append{a:L Nat}(h:AL g al ow)(d:AL g vK a):AL g (al++vK) (ow++a):=by
 induction h with|nil=>exact d|emp h _ b=>exact .emp h b|own h _ b=>exact .own h b|rows h c _ b=>rw[wj];exact .rows h c b
def xC(al:L fe):Prop:=al.Pairwise λx y=>∀b,x.at b->¬y.at b
def AL.owned(h:AL g al ow)(hi:∀a∈al,∀b,a.at b->¬g.bx b):∀a∈al,∀b,a.at b->∃o∈ow,bJ g o b:=by
 induction h with
 |nil=>simp_all|emp h _ i=>
  intro a c b d;obtain rfl|c:=fV.1 c
  exact absurd h d.choose_spec.2.2
  grind
 |own h _ i=>
  intro a c b d;obtain rfl|c:=fV.1 c
  let ⟨f,h1,h2,h3⟩:=d
  exact⟨_,eI,hi _ eI b ⟨f,h1,h2,h3⟩,.inr ⟨_,_,f,h,h1,h2,h3⟩⟩
  grind
 |rows h _ _ i=>
  intro a c b d;obtain c|c:=eX.1 c
  let ⟨e,j⟩:=h a c
  let ⟨f,h1,h2,h3⟩:=d
  exact⟨_,eI,hi _ (fS _ c) b ⟨f,h1,h2,h3⟩,.inr ⟨_,_,f,j,h1,h2,h3⟩⟩
  grind
def AL.apart{s:St}(hs:aY g s w)(h:AL g al ow)(hn:ow.Nodup)(hi:∀a∈al,∀b,a.at b->¬g.bx b):xC al:=by
 induction h with
 |nil=>exact .nil|emp h k i=>refine .cons (λa c b j=>absurd h j.choose_spec.2.2) (i hn (λa c=>hi a (hJ _ c)))|own h k i=>
  rw[Nz]at hn;refine .cons (λa c b j f=>?_) (i hn.2 (λa c=>hi a (hJ _ c)))
  let ⟨p,l,d⟩:=k.owned (λa c=>hi a (hJ _ c)) a c b f
  let ⟨m,h1,h2,h3⟩:=j
  have n:bJ g _ b:=⟨d.1,.inr ⟨_,_,m,h,h1,h2,h3⟩⟩;have:=hs.j6 _ _ b n d
  simp_all
 |rows h o k i=>
  rw[Nz]at hn;refine uz.2 ⟨o,i hn.2 (λa c=>hi a (eV _ c)),λy q a c b j f=>?_⟩
  let ⟨e,r⟩:=h y q
  let ⟨p,l,d⟩:=k.owned (λa c=>hi a (eV _ c)) a c b f
  let ⟨m,h1,h2,h3⟩:=j
  have n:bJ g _ b:=⟨d.1,.inr ⟨_,_,m,r,h1,h2,h3⟩⟩;have:=hs.j6 _ _ b n d
  simp_all
def l6:∀{l:L Nat},sB l=W->l.Nodup
 |[],_=>.nil|a::l,h=>by simp[sB,eW,NC,FR,XC]at h;exact Nz.2 ⟨h.1,l6 h.2⟩
def zS{l m:L Nat}(h:CM l m=W):∀o∈l,o∉m:=by
 grind[CM]
def abo.at_{I:Nat->Prop}{w:World}{sz:Nat}{es:L D}{a:fe}(h:abo I w sz es a){b:Nat}(c:a.at b):¬I b/\b<w.heap.size:=by
 let ⟨h1,vs,ty,_,h3⟩:=h.1.at_ c
 exact⟨λd=>Bool.noConfusion (h1.2 d),(XF.1 h3).1⟩
def ahV.at_{I:Nat->Prop}{w:World}{n j:Nat}{t:Ty}{l:L (S.A n)}{a:fe}{rl:L fe}(h:ahV S I w n j t l a rl):∀y∈a::rl,∀b,y.at b->¬I b/\b<w.heap.size:=by
 let ⟨f,_,h2,h3,_,h5,_⟩:=h
 intro y c b d;obtain rfl|c:=fV.1 c
 exact h2.at_ d
 let ⟨i,e⟩:=NS c
 have:i<l.length:=by grind
 exact(h5 i y _ e (iX this)).at_ d
def jT.at_{I:Nat->Prop}{w:World}{cs:L Ck}{x:gC S.A cs}{vs:L Value}{al:L fe}(h:jT S I w cs x vs al):∀a∈al,∀b,a.at b->¬I b/\b<w.heap.size:=by
 induction h with
 |nil=>simp_all|dat _ _ d=>exact d|own e _ d=>
  intro a c b f;obtain rfl|c:=fV.1 c
  exact e.at_ f
  grind
 |ku e _ d=>
  intro a c b f;rw[<-List.cons_append]at c;obtain c|c:=eX.1 c
  exact e.at_ a c b f
  grind
 |nl _ d=>exact d|ptr _ _ _ _ d=>exact d
theorem jT.iL{I:Nat->Prop}{w:World}{cs:L Ck}{x:gC S.A cs}{vs:L Value}{al:L fe}(h:jT S I w cs x vs al):∀a∈al,∀b,a.at b->¬I b:=λa c b d=>(h.at_ a c b d).1
def jT.lt{x:gC S.A cs}(h:jT S I w cs x vs al):∀a∈al,∀b,a.at b->b<w.heap.size:=λa c b d=>(h.at_ a c b d).2
def jT.append{x:den S.A c.ty}{h:gC S.A cs}(h1:jT S I w [c] (x,()) [v] al)(h2:jT S I w cs h vs vK) :
  jT S I w (c::cs) (x,h) (v::vs) (al++vK):=by
 cases h1 with
 |dat b a=>cases a;exact .dat b h2
 |own d a=>cases a;exact .own d h2
 |ku d a=>cases a;rw[jQ,List.cons_append];exact .ku d h2
 |nl a=>cases a;exact .nl h2
 |ptr e f b a=>cases a;exact .ptr e f b h2
def qD{x:den S.A t}(h:dJ g.bx w (enc S t x) v):aI g w (ef S t x) v:=by
 cases t with
 |st n=>
  cases h with|agg cs vs a e b=>refine .agg _ vs (by simpa using a) λj t v h1 h2=>?_;rw[lE,fT]at h1;obtain⟨d,c,rfl⟩:=h1;exact .sym _ _ (b j d v c h2)
 |_=>exact .sym _ _ h
def Tr.dD{α:Type}:∀(n:Nat)(t:Tr α)(k j:Nat)(x:α),j≠k->(Tr.set n t k x).get j=t.get j
 |0,_,_,_,_,_=>rfl|n+1,t,0,j,x,h=>by
  cases j with
  |zero=>exact absurd rfl h|succ j=>
   cases t with|nil=>rw[Tr.Ao,Tr.dG,Tr.get_nil,Tr.get_nil];split<;>rfl|node v l r=>rw[Tr.IG,Tr.dG,Tr.dG]
 |n+1,t,k+1,j,x,h=>by
  cases t with
  |nil=>
   rw[Tr.pK];cases j with|zero=>split<;>rw[Tr.je,Tr.get_nil]|succ j=>by_cases b:k%2=0;rw[bD b,Tr.dG,Tr.get_nil,Tr.get_nil];by_cases a:j%2=0;rw[bD a,Tr.dD n _ _ _ _ (by omega),Tr.get_nil];rw[bQ a];rw[bQ b,Tr.dG,Tr.get_nil,Tr.get_nil];by_cases a:j%2=0;rw[bD a];rw[bQ a,Tr.dD n _ _ _ _ (by omega),Tr.get_nil]
  |node v l r=>
   rw[Tr.n9];cases j with|zero=>split<;>rw[Tr.je,Tr.je]|succ j=>by_cases b:k%2=0;rw[bD b,Tr.dG,Tr.dG];by_cases a:j%2=0;rw[bD a,bD a,Tr.dD n _ _ _ _ (by omega)];rw[bQ a,bQ a];rw[bQ b,Tr.dG,Tr.dG];by_cases a:j%2=0;rw[bD a,bD a];rw[bQ a,bQ a,Tr.dD n _ _ _ _ (by omega)]
def Sf:vo S->Bool
 |.arr ..|.lT ..|.rws ..=>W|_=>J
def u6(h:Sf ob=W):(de ob).oC=W:=by cases ob<;>first|rfl|cases h
def Gv{nj:Nat}:∀{es:L D}{iU:L (L D)}{hl:L Value},es.length<=iU.length->lits nj (mZ nj es iU) hl=lits nj es hl
 |[],iU,hl,_=>by rfl
 |d::es,[],hl,h=>by simp at h
 |d::es,a::iU,[],_=>by rfl
 |d::es,a::iU,v::hl,h=>by
  have:=Gv (nj:=nj) (es:=es) (iU:=iU) (hl:=hl) (by simpa using h)
  simp_all[lits,mZ,jD,AV,D.cells]
def JX:∀{ts:L Ty}{h:l7 S.A ts}{j:Nat}{t:Ty}{y:den S.A t},nth ts j=Z t->ek ts (Eo ts h j t y) j t=y
 |[],_,_,_,_,h=>by simp[nth]at h
 | τ::ts,h,0,t,y,e=>by
  grind[nth,ek,Eo,wV]
 | τ::ts,h,j+1,t,y,e=>by simp[nth]at e;simp[ek,Eo,JX e]
def V7(a:fq S)(b:Eu S n j t=W)(x:S.A n)(y:L (den S.A t)):IT n j t (UZ n j t x y)=y:=by rw[IT,UZ,a.sH,JX (Hy b)]
def Dy(hS:fq S)(hs:aY g (aC s) w){v:V S}{val:Value}{x:den S.A c.ty}(h:pF s c v=Z (x,fz,ow))(hv:aI g w (low v) val) :
  (∀o∈fz,Live g (aC s) o)/\(∀o∈ow,s.fl<=o/\s.lo<=o/\o<s.aE/\∃ob,s.ob.get o=Z ob/\Sf ob=W)/\∀(A:Gh)(s1:St)(z:L Nat),aY A s1 w->Ext s.fl g w A w->jF (aC s) s1 z->(∀o∈fz,o∈z)->(∀o∈ow,s1.ob.get o=(aC s).ob.get o)->
   ∃al,jT S A.bx w [c] (x,()) [val] al/\AL A al ow:=by
 cases c with
 |dat t=>
  simp[pF]at h;split at h;rename_i y os hy;obtain⟨rfl,rfl,rfl⟩:=h
  let ⟨p,hd,hp⟩:=qE hS s t v hy
  let ⟨h1,h2⟩:=mz hs (low v) hd hp hv
  refine⟨h1,λo d=>(by cases d),λA s1 z f Q hf q _=>⟨[],.dat ?_ .nil,.nil⟩⟩;exact h2 A s1 f Q (hf.sub q);cases h
 |nil e=>
  cases v with
  |emp=>
   obtain⟨rfl,rfl,rfl⟩:=h;cases hv with|emp a=>exact⟨λo d=>(by cases d),λo d=>(by cases d),λA s1 z f Q hf q _=>⟨[],.nl .nil,.nil⟩⟩
  |_=>simp[pF]at h
 |ptr t=>simp[pF]at h|own e=>
  cases v with
  |emp=>
   obtain⟨C,h⟩|⟨_,h⟩:=af h
   .obtain ⟨rfl,rfl,rfl⟩:=h;have hpos:1<=S.width e:=gS C;cases hv with
    |emp a=>
    refine⟨λo d=>(by cases d),λo d=>(by cases d),λA s1 z f Q hf q _=>⟨[⟨a,0,0,S.width e⟩],?_,.emp rfl .nil⟩⟩;refine jT.own (a:=⟨a,0,0,S.width e⟩) ⟨⟨rfl,eO _,by simp,by omega,by simp,λh=>absurd rfl h⟩,rfl⟩ .nil
   cases h
  |sh o r=>
   simp[pF]at h;split at h;rename_i t l era d;obtain⟨C,E⟩|⟨_,E⟩:=af h
   clear h;split at E
   .rename_i l' hl;obtain⟨rfl,hh⟩:=fL hl;cases hh;simp only[eW]at C;have Zd:=beq_iff'.1 C.1;subst Zd;obtain⟨rfl,rfl,rfl⟩:=E;cases hv with
    |sh _ _ len cap sz a hx=>
    have F:=hs.lt' hx;refine⟨λo d=>(by cases d),λk hk=>?_,λA s1 z f Q hf q u=>?_⟩;rw[tC]at hk;subst hk;exact⟨gS C.2.1,gS C.2.2,F,_,d,rfl⟩;have I:=Q.arr _ _ _ hx;have T0:s1.ob.get o=Z (ga J (S.width t) (l.map (enc S t)) r):=by rw[u o (by simp),aJ,d];rfl
    let ⟨hok,hsz⟩:=f.nV T0 I
    exact⟨[_],jT.own ⟨hok.kE rfl,hsz⟩ .nil,.own I .nil⟩
   cases E;cases E;cases h
  |_=>simp[pF]at h
 |ku n j t=>
  cases v with
  |emp=>
   obtain⟨C,h⟩|⟨_,h⟩:=af h
   .obtain ⟨rfl,rfl,rfl⟩:=h;simp only[eW]at C;have hpos:1<=S.width (.st n):=gS C.1;cases hv with
    |emp a=>
    refine⟨λo d=>(by cases d),λo d=>(by cases d),λA s1 z f Q hf q _=>⟨[⟨a,0,0,S.width (.st n)⟩],?_,.emp rfl .nil⟩⟩;exact jT.ku (a:=⟨a,0,0,S.width (.st n)⟩) (rl:=[]) ⟨[],rfl,⟨⟨rfl,eO _,by simp[lits],by omega,by simp[lits],λh=>absurd rfl h⟩,rfl⟩,rfl,by simp,by simp,C.2.1⟩ .nil
   cases h
  |sh o r=>
   simp[pF]at h;split at h;rotate_left;cases h;rename_i l era m B d;split at h;rotate_left;cases h;rename_i P K hrw;obtain⟨C,E⟩|⟨_,E⟩:=af h
   rotate_left;cases E;clear h;simp only[eW]at C
   let ⟨b1,b2,b3,b4,b5,b6,b7,b8,b9⟩:=C
   have Zd:=beq_iff'.1 b1;subst Zd;have hjj:=beq_iff'.1 b2;subst hjj;have htt:=jU b9;subst htt;split at E;rotate_left;cases E;rename_i hl
   let ⟨e1,hh⟩:=fL hl
   cases e1;cases hh;simp only[gP,fC]at E;obtain⟨rfl,rfl,rfl⟩:=E;have hmlt:m<s.aE:=gS b7;cases hv with
   |sh _ _ len cap sz a hx=>
   have F:=hs.lt' hx
   let ⟨szm,hm⟩:=qm (Aq hrw)
   obtain⟨obm,hobm,hobmB⟩:∃ob,s.ob.get m=Z ob/\Sf ob=W:=by
    cases hq:s.ob.get m with
    |none=>rw[aJ,hq]at hm;cases hm
    |some ob=>
     rw[aJ,hq]at hm;cases ob<;>first|exact⟨_,rfl,rfl⟩|cases hm
   refine⟨λo d=>(by cases d),λk hk=>?_,λA s1 z f Q hf q u=>?_⟩;simp at hk;obtain rfl|rfl:=hk
   exact⟨gS b3,gS b4,F,_,d,rfl⟩
   simp_all
   have I:=Q.arr _ _ _ hx;have T0:s1.ob.get o=Z (.lT j (S.width (.st n)) (l.map (enc S (.st n))) r m B Y):=by rw[u o (by simp),aJ,d];rfl
   have hm1:s1.ob.get m=Z (.rws szm (K.map (·.map (enc S P))) B):=by rw[u m (by simp),hm]
   have aku:szm=S.width P:=by
    have h1:=hrw;unfold Nm at h1;split at h1;rename_i hq;obtain⟨_,h1⟩|⟨_,h1⟩:=af h1
    cases h1;rw[aJ,hq]at hm;cases hm;rfl;cases h1;cases h1
   let ⟨q1,q2,q3,q4⟩:=f.Cc T0 I
   let ⟨hl0,q5,q6,q7⟩:=q4 rfl
   simp at q5;have hrow:∀i,i<l.length->∃y R,A.arr m (rc B i)=Z y/\hl0[i]?=Z (.slice y.a y.len y.cap)/\K[i]?=Z R/\xD A w J (S.width P) (R.map (enc S P)) y/\y.sz=S.width P:=by
    intro i hi
    let ⟨y,hy,hv⟩:=q7.2 i _ (iX (by omega)) (by simp)
    let ⟨k1,R,k2,k3⟩:=(f.qI hm1 hy).2.2 i rfl
    grind
   have hex:∀i:Nat,∃y:fe,i<l.length->∃R,A.arr m (rc B i)=Z y/\hl0[i]?=Z (.slice y.a y.len y.cap)/\K[i]?=Z R/\xD A w J (S.width P) (R.map (enc S P)) y/\y.sz=S.width P:=λi=>by
    grind
   let ⟨ys,hys⟩:=Vf hex
   have ek:∀(i:Nat)(y:fe),((List.range l.length).map ys)[i]?=Z y->i<l.length/\y=ys i:=λi y h=>by
    grind
   have hrl:l.length<=K.length:=by
    grind
   have hlen:(lC n j P l K).length=l.length:=by simp[lC];omega
   refine⟨_,jT.ku (a:=⟨a,len,cap,sz⟩) (rl:=(List.range l.length).map ys) ⟨hl0,by omega,⟨?_,q1⟩,by grind,λi y hi=>?_,λi y x hi hx=>?_,b8⟩ .nil,?_⟩;rw[GS hS b8,Gv (by grind)];exact q6.kE rfl
   grind
   obtain⟨h1,rfl⟩:=ek i y hi
   let ⟨R,_,_,h3,h4,h5⟩:=hys i h1
   have hxx:x=UZ n j P (l[i]) R:=by
    grind[lC]
   rw[hxx,V7 hS b8];exact⟨h4.kE rfl,h5⟩;refine .own I ?_;refine .rows (λy hy=>?_) ?_ .nil
   grind
   refine Vh.2 λi1 i2 l1 l2 hlt b Ep pZ=>?_
   let ⟨h1,e1⟩:=ek i1 _ (iX l1)
   let ⟨h2,e2⟩:=ek i2 _ (iX l2)
   rw[e1]at Ep;rw[e2]at pZ
   let ⟨_,k1,_⟩:=hys i1 h1
   let ⟨_,k2,_⟩:=hys i2 h2
   exact(f.qI hm1 k1).2.1 i1 i2 _ _ (by omega) k1 k2 b Ep pZ
  |_=>simp[pF]at h
def gq(u:fq S){g:Gh}{w:World}{s:bp S}(hs:aY g (aC s) w):∀{cs:L Ck}{l:L (V S)}{vals:L Value}{x:gC S.A cs}{fz ow:L Nat},gn s cs l=Z (x,fz,ow)->PW (aI g w) (bA l) vals->
  (∀o∈fz,Live g (aC s) o)/\(∀o∈ow,s.fl<=o/\s.lo<=o/\o<s.aE/\∃ob,s.ob.get o=Z ob/\Sf ob=W)/\∀(m:Gh)(s1:St)(e:L Nat),aY m s1 w->Ext s.fl g w m w->jF (aC s) s1 e->(∀o∈fz,o∈e)->(∀o∈ow,s1.ob.get o=(aC s).ob.get o)->
   ∃al,jT S m.bx w cs x vals al/\AL m al ow
 |[],[],vals,x,fz,ow,h,i=>by obtain⟨_,rfl,rfl⟩:=h;have:vals=[]:=Ek (by have:=i.1;simpa[bA]using this.symm);subst this;exact⟨λo d=>(by cases d),λo d=>(by cases d),λ_ _ _ _ _ _ _ _=>⟨[],.nil,.nil⟩⟩
 |c::cs,v::l,vals,x,fz,ow,h,i=>by
  simp[gn]at h;split at h
  .rename_i A B;simp at h;obtain⟨rfl,rfl,rfl⟩:=h
   match vals,i with
   |val::vals,i=>
    have p:aI g w (low v) val:=i.2 0 _ _ rfl rfl;have q:PW (aI g w) (bA l) vals:=⟨by have:=i.1;simpa[bA]using this,λj a b r t=>i.2 (j+1) a b (by simpa[bA]using r) (by simpa using t)⟩
    let ⟨C,E,F⟩:=Dy u hs A p
    let ⟨I,K,P⟩:=gq u hs B q
    refine⟨λo d=>(eX.1 d).elim (C o) (I o),λo d=>(eX.1 d).elim (E o) (K o),λm s1 e n y z k f=>?_⟩
    let ⟨Q,r,t⟩:=F m s1 e n y z (λo d=>k o (fS _ d)) (λo d=>f o (fS _ d))
    let ⟨R,k3,k4⟩:=P m s1 e n y z (λo d=>k o (eV _ d)) (λo d=>f o (eV _ d))
    exact⟨_,r.append k3,t.append k4⟩
   |[],i=>exact absurd i.1 (by simp[bA])
  cases h
 |[],_::_,_,_,_,_,h,_=>by simp[gn]at h
 |_::_,[],_,_,_,_,h,_=>by simp[gn]at h
structure WE(g:Gh)(s:bp S)(w:World)(al:List fe)(g':Gh)(s':bp S):Prop where
 rel:aY g' (aC s') w
 le:nk g g'
 bx:g'.bx=g.bx
 own:∀k b,bJ g' k b->bJ g k b\/(s.aE<=k/\∃a∈al,a.at b)
 fl:s'.fl=s.fl
 lo:s'.lo=s.lo
 aE:s.aE<=s'.aE
 wr:s'.wr=s.wr
 dr:s'.dr=s.dr
 ob:∀o,o<s.aE->s'.ob.get o=s.ob.get o
 bT:g'.bT=g.bT
 arr:∀o,o<s.aE->∀e,g'.arr o e=g.arr o e
theorem WE.refl{g:Gh}{s:bp S}{w:World}(h:aY g (aC s) w):WE g s w [] g s:=
 ⟨h,nk.refl _,rfl,λ_ _ h=>.inl h,rfl,rfl,eO _,rfl,rfl,λ_ _=>rfl,rfl,λ_ _ _=>rfl⟩
def WE.trans{g g' c:Gh}{s s' d:bp S}{w:World}{al vK:L fe}(h:WE g s w al g' s')(k:WE g' s' w vK c d):WE g s w (al++vK) c d where
 rel:=k.rel
 le:=h.le.trans k.le
 bx:=k.bx.trans h.bx
 own o b f:=by
  obtain f|⟨h1,a,h2,h3⟩:=k.own o b f
  obtain f|⟨h1,a,h2,h3⟩:=h.own o b f
  exact .inl f
  grind
  exact .inr ⟨gk h.aE h1,a,eV _ h2,h3⟩
 fl:=k.fl.trans h.fl
 lo:=k.lo.trans h.lo
 aE:=gk h.aE k.aE
 wr:=k.wr.trans h.wr
 dr:=k.dr.trans h.dr
 ob o i:=(k.ob o (iS i h.aE)).trans (h.ob o i)
 bT:=k.bT.trans h.bT
 arr o i e:=(k.arr o (iS i h.aE) e).trans (h.arr o i e)
def S7(s:bp S)(c:Ck)(x:den S.A c.ty):s.aE<=(v8 s c x).2.aE:=by cases c with|dat t=>exact eO _|own e=>exact Dn _|ku n j t=>exact Nat.le_succ_of_le (Dn _)|nil e=>exact eO _|ptr t=>exact eO _
def oh:∀(cs:L Ck)(s:bp S)(x:gC S.A cs),s.aE<=(iz s cs x).2.aE
 |[],_,_=>eO _|c::cs,s,x=>gk (S7 s c x.1) (oh cs _ x.2)
def nG:∀{cs:L Ck}{x:gC S.A cs}{vals:L Value}{al:L fe}{g:Gh}{w:World}{s:bp S},jT S g.bx w cs x vals al->aY g (aC s) w->(∀a∈al,∀b,a.at b->∀o,¬bJ g o b)->xC al->
  (iz s cs x).2.aE<=bM->∃g',WE g s w al g' (iz s cs x).2/\PW (aI g' w) (bA (iz s cs x).1) vals:=by
 intro cs
 induction cs with
 |nil=>intro x vals al g w s h R _ _ _;cases h;exact⟨g,WE.refl R,rfl,λj t v h=>by simp_all⟩
 |cons c cs ih=>
  intro x vals al g w s h R r f hn;cases h with
  | @dat t _ x h v vs al hd E=>
   let ⟨g',u,d⟩:=ih E R r f hn
   refine⟨g',u,by simp only[iz,v8,bA,lR];rw[d.1],λj F I p q=>?_⟩;cases j with|zero=>simp[iz,v8,bA,NG,gP]at p q;subst p;subst q;have:=qD (g:=g) hd;exact this.le u.le|succ j=>exact d.2 j F I (by simpa[iz,v8,bA]using p) (by simpa using q)
  | @nl e _ h a vs al E=>
   let ⟨g',u,d⟩:=ih E R r f hn
   refine⟨g',u,by simp only[iz,v8,bA,lR];rw[d.1],λj F I p q=>?_⟩;cases j with|zero=>simp[iz,v8,bA,NG,gP]at p q;subst p;subst q;exact .emp _|succ j=>exact d.2 j F I (by simpa[iz,v8,bA]using p) (by simpa using q)
  | @ptr t _ x h ad val vs al hi hc hd E=>
   let ⟨g',u,d⟩:=ih E R r f hn
   refine⟨g',u,by simp only[iz,v8,bA,lR];rw[d.1],λj F I p q=>?_⟩;cases j with|zero=>simp[iz,v8,bA,NG,gP]at p q;subst p;subst q;have:aI g w (low (V.mc t x 0)) (.pointer (Z (ad.add 0))):=.mc _ 0 ad val hi hc hd;exact this.le u.le|succ j=>exact d.2 j F I (by simpa[iz,v8,bA]using p) (by simpa using q)
  | @own e _ l h a vs al ho E=>
   have hb0:=oh cs (dn s (.arr e l 0)) h;have z:s.aE<bM:=by have h1:(dn s (.arr e l 0)).aE=s.aE+1:=rfl;have h2:(iz (dn s (.arr e l 0)) cs h).2.aE<=bM:=hn;omega
   have akx:∀b,a.at b->b<w.heap.size/\∀o,¬bJ g o b:=λb B=>⟨(jT.own (S:=S) ho E).lt a eI b B,r a eI b B⟩
   let ⟨p,q,k3⟩:=R.aak z (sz:=S.width e) (es:=l.map (enc S e)) (x:=a) akx (ho.1.kE rfl) ho.2
   have hst:(eo (aC s) (Ob.arr (S.width e) (l.map (enc S e)) 0)).2=aC (dn s (.arr e l 0)):=(g6 s (.arr e l 0)).symm;have e0:(aC s).aE=s.aE:=rfl;rw[hst,e0]at p;rw[xC,List.pairwise_cons]at f
   let ⟨g',u,d⟩:=ih (g:=g.era s.aE 0 a) (s:=dn s (.arr e l 0)) E p (λy hy b B o K=>by
    grind) f.2 hn
   have LG:WE g s w [a] (g.era s.aE 0 a) (dn s (.arr e l 0)):=by
    refine⟨p,q,rfl,λk b K=>?_,rfl,rfl,Dn _,rfl,rfl,λo hlo=>?_,rfl,λo hlo e'=>Gh.cT _ _ _ _ _ _ (λh=>by omega)⟩
    grind
    simp[dn];rw[Tr.aV _ _ _ _ z,bQ (by omega)]
   refine⟨g',LG.trans u,by simp only[iz,v8,bA,lR];rw[d.1],λj F I q1 q2=>?_⟩;cases j with|zero=>simp[iz,v8,bA,NG,gP]at q1 q2;subst q1;subst q2;have:aI (g.era s.aE 0 a) w (.sh s.aE 0) (.slice a.a a.len a.cap):=.sh _ _ _ _ a.sz _ (Gh.fJ _ _ _ _);exact this.le u.le|succ j=>exact d.2 j F I (by simpa[iz,v8,bA]using q1) (by simpa using q2)
  | @ku n j t0 _ l h a A vs al ho E=>
   have hb0:=oh cs (v8 s (.ku n j t0) l).2 h;have hnob2:(v8 s (.ku n j t0) l).2.aE=s.aE+2:=rfl;have z:s.aE+1<bM:=by
    grind[iz]
   have P:=ho.at_
   let ⟨hl,p1,p2,p3,p4,p5,p6⟩:=ho
   rw[<-List.cons_append]at r f;have Q:=(uz.1 f).1;rw[List.pairwise_cons]at Q
   let ⟨p,q,k3⟩:=R.aak (by show s.aE<bM;omega) (sz:=S.width (.st n)) (es:=lits j (l.map (enc S (.st n))) hl) (x:=a) (λb B=>⟨(P a eI b B).2,r a (by simp) b B⟩) (p2.1.kE rfl) p2.2
   have e0:(aC s).aE=s.aE:=rfl;rw[e0]at p q k3;have e1:(eo (aC s) (Ob.arr (S.width (.st n)) (lits j (l.map (enc S (.st n))) hl) 0)).2.aE=s.aE+1:=rfl
   let ⟨r1,r2,r3⟩:=p.ahy (by omega) (sz:=S.width t0) (iU:=(l.map (IT n j t0)).map (·.map (enc S t0))) (ys:=A)
    (λy hy b B=>⟨(P y (hJ _ hy) b B).2,λo K=>by
     grind⟩)
    (λi y hi=>by
     have hil:i<l.length:=by grind
     have hk:=p5 i y _ hi (iX hil);exact⟨hk.2,_,by simp_all,hk.1.kE rfl⟩) Q.2
   rw[e1]at r1 r2 r3;have C:∀k,(eo (eo (aC s) (Ob.arr (S.width (.st n)) (lits j (l.map (enc S (.st n))) hl) 0)).2 (.rws (S.width t0) ((l.map (IT n j t0)).map (·.map (enc S t0))) 0)).2.ob.get k=if k=s.aE+1 then Z (.rws (S.width t0) ((l.map (IT n j t0)).map (·.map (enc S t0))) 0)else if k=s.aE then Z (.arr (S.width (.st n)) (lits j (l.map (enc S (.st n))) hl) 0)else(aC s).ob.get k:=λk=>by show(((aC s).ob.set aM s.aE _).set aM (s.aE+1) _).get k=_;rw[Tr.aV _ _ _ _ z,Tr.aV _ _ _ _ (by omega)]
   have hL:Jb ((g.era s.aE 0 a).ig (s.aE+1) A) (s.aE+1) 0 Y hl:=by
    have Qo:∀i v,hl[i]?=Z v->∃hil:i<A.length,v=.slice (A[i]).a (A[i]).len (A[i]).cap:=λi v hi=>by
     grind
    refine⟨λi v hi=>let ⟨_,h⟩:=Qo i v hi;⟨_,_,_,h⟩,λi v hi _=>?_⟩
    grind[Gh.xj]
   have u1:=r1.Xe (o:=s.aE) (nj:=j) (es:=l.map (enc S (.st n))) (era:=0) (m:=s.aE+1) (hU:=0) (hole:=Y) (hl:=hl) (by omega) (by rw[C,bQ (by omega),bD rfl]) (by simpa using p1) hL;have u2:aY ((g.era s.aE 0 a).ig (s.aE+1) A) (aC (v8 s (.ku n j t0) l).2) w:=by refine u1.ZA rfl λk=>?_;show(aC (dn (dn s (.lT n j l 0 (Ns s.aE) 0 Y)) (.rws t0 (zL n j t0 l) 0))).ob.get k=((eo _ _).2.ob.set aM s.aE _).get k;rw[g6,g6,Tr.aV _ _ _ _ (by omega),C];show(((aC s).ob.set aM s.aE _).set aM (s.aE+1) _).get k=_;rw[Tr.aV _ _ _ _ z,Tr.aV _ _ _ _ (by omega)];by_cases h1:k=s.aE;subst h1;rw[bQ (by omega),bD rfl,bD rfl];rfl;rw[bQ h1,bQ h1,bQ h1];rfl
   have hle:nk g ((g.era s.aE 0 a).ig (s.aE+1) A):=q.trans ⟨λ_ _ h=>h,r2,λ_ h=>h⟩
   let ⟨g',u,d⟩:=ih (g:=(g.era s.aE 0 a).ig (s.aE+1) A) (s:=(v8 s (.ku n j t0) l).2) E u2 (λy hy b B o K=>by
    obtain K|⟨_,y',hy',hb'⟩:=r3 o b K
    obtain K|⟨_,hb'⟩:=k3 o b K
    grind
    exact(uz.1 f).2.2 a (by simp) y hy b hb' B;exact(uz.1 f).2.2 y' (by simp[hy']) y hy b hb' B) (uz.1 f).2.1 hn
   have LG:WE g s w (a::A) ((g.era s.aE 0 a).ig (s.aE+1) A) (v8 s (.ku n j t0) l).2:=by
    refine⟨u2,hle,rfl,λk b K=>?_,rfl,rfl,by omega,rfl,rfl,λo hlo=>?_,rfl,λo hlo e'=>?_⟩
    grind
    show((s.ob.set aM s.aE _).set aM (s.aE+1) _).get o=_;rw[Tr.aV _ _ _ _ z,bQ (by omega),Tr.aV _ _ _ _ (by omega),bQ (by omega)];rw[Gh.jN (by omega)]
    grind[Gh.cT]
   refine⟨g',by exact LG.trans u,by have:=d.1;simp only[iz,v8,bA,lR]at this ⊢;rw[this],λj' F I q1 q2=>?_⟩;cases j' with|zero=>simp[iz,v8,bA,NG,gP]at q1 q2;subst q1;subst q2;have:aI ((g.era s.aE 0 a).ig (s.aE+1) A) w (.sh s.aE 0) (.slice a.a a.len a.cap):=.sh _ _ _ _ a.sz _ (by simp_all[Gh.fJ]);exact this.le u.le|succ j'=>exact d.2 j' F I (by simpa[iz,v8,bA]using q1) (by simpa using q2)
theorem uv{g:Gh}{w:World}{τ:Ty}{x:den S.A τ}{v:Value}(h:dJ g.bx w (enc S τ x) v):aI g w (ef S τ x) v:=by
 cases τ with
 |st n=>
  cases h with|agg _ vs a e b=>refine .agg _ _ (by simpa using a) λj t v h1 h2=>?_;simp at h1;obtain⟨c,d,rfl⟩:=h1;exact .sym _ _ (b j c v d h2)
 |_=>exact .sym _ _ h
def EH(a:fq S){τ:Ty}{x:den S.A τ}(h:aI g w (ef S τ x) v):dJ g.bx w (enc S τ x) v:=by
 cases τ with
 |st n=>
  cases h with
  |agg _ vs d e=>
   refine .agg _ _ (by simpa using d) (λc b=>?_) λj c v h1 h2=>?_;rw[a.cells]at b;exact iw _ _ (a.leaf n) c b;have:=e j (.sym c) v (by simp[h1]) h2;cases this with|sym _ _ h=>exact h
 |_=>cases h with|sym _ _ h=>exact h
def Od:Bool->Nat->Value
 |true,b=>.map (Z b)|false,b=>.pointer (Z ⟨b,0,Y⟩)
def YB{m:Bool}{x:O (V S)}(h:lkO m x=Z o):x=Z (lkV m o):=by unfold lkO at h;split at h<;>cases h<;>rfl
def acq(h:g.bT o=Z b):∀m,aI g w (low (lkV m o:V S)) (Od m b)
 |true=>.mp o b h|false=>.ptr o 0 b h
def TQ:∀{m},aI g w (low (lkV m o:V S)) v->∃b,g.bT o=Z b/\v=Od m b
 |true,h=>by cases h with|mp _ b a=>exact⟨b,a,rfl⟩
 |false,h=>by cases h with|ptr _ _ b a=>exact⟨b,a,rfl⟩
inductive ED(S:Sg)(I:Nat->Prop)(w:World)(nb:Option Nat):(k:Bk)->yp S.A k->Obj->List fe->Prop where
 |cells {cs:List Ck} {x:gC S.A cs} {cv:Array Value} {ty:TypeId} {al:List fe} (h:jT S I w cs x cv.toList al):ED S I w nb (.cells cs) x (.cells cv ty (0,0)) al|map {kt vt:Ty} {l:List (den S.A kt×den S.A vt)} {ms:Array MapEntry} {c:Nat} (hl:l.length=ms.size)
   (h:∀(j:Nat)(p:den S.A kt×den S.A vt)(m:MapEntry),l[j]?=Z p->ms[j]?=Z m->dJ I w (enc S kt p.1) m.key/\dJ I w (enc S vt p.2) m.val):ED S I w nb (.map kt vt) l (.map ms c) []
 |rO {x:List UInt8×Nat}:ED S I w nb .rO x (.stringIter (cq x.1) x.2) []|link {m:Bool} {pre post:List Ck} {x:gC S.A pre} {y:gC S.A post} {cv:Array Value} {ty:TypeId} {al vK:List fe} {vp vq:List Value} {b:Nat} (hn:nb=Z b) (hv:cv.toList=vp++([Od m b]++vq))
   (h1:jT S I w pre x vp al) (h2:jT S I w post y vq vK):ED S I w nb (.link m pre post) (x,y) (.cells cv ty (0,0)) (al++vK)
def Lx:Bk->Nat->Value
 |.cells _,b=>.pointer (Z ⟨b,0,Y⟩)|.map _ _,b=>.map (Z b)|.rO,b=>.pointer (Z ⟨b,0,Y⟩)|.link _ _ _,b=>.pointer (Z ⟨b,0,Y⟩)
def Ly{v:V S}(h:Em k v=Z o):v=VK k o:=by
 cases k with
 |cells cs=>
  cases v with
  |ptr a off=>cases off with|zero=>simp[Em,gP]at h;subst h;rfl|succ=>simp[Em]at h
  |_=>simp[Em]at h
 |map kt b=>cases v<;>simp[Em]at h;subst h;rfl
 |rO=>cases v<;>simp[Em]at h;subst h;rfl
 |link m pre post=>
  cases v with
  |ptr a off=>cases off with|zero=>simp[Em,gP]at h;subst h;rfl|succ=>simp[Em]at h
  |_=>simp[Em]at h
theorem Og{g:Gh}{w:World}{k:Bk}{o b:Nat}(h:g.bT o=Z b):aI g w (low (VK k o:V S)) (Lx k b):=by cases k with|cells cs=>exact .ptr o 0 b h|map kt a=>exact .mp o b h|rO=>exact .uo o b h|link m pre post=>exact .ptr o 0 b h
def Gy(h:aI g w (low (VK k o:V S)) v):∃b,g.bT o=Z b/\v=Lx k b:=by
 cases k with
 |cells cs=>cases h with|ptr _ _ b a=>exact⟨b,a,rfl⟩
 |map kt c=>cases h with|mp _ b a=>exact⟨b,a,rfl⟩
 |rO=>cases h with|uo _ b a=>exact⟨b,a,rfl⟩
 |link m pre post=>cases h with|ptr _ _ b a=>exact⟨b,a,rfl⟩
theorem ot{ob:vo S}(h:jV ob=W):(de ob).oC=J:=by cases ob<;>first|rfl|(simp[jV]at h)
def Az{e:Nat}{x:fe}(h:jV ob=W)(a:vP g w o e x (de ob)):False:=by have:=a.oC;rw[ot h]at this;cases this
def HC{kt c a b:Ty}{l:L (den S.A kt×den S.A c)}{d:L (den S.A a×den S.A b)}(h:yS kt c a b l=Z d):∃(h1:kt=a)(h2:c=b),d=h1▸h2▸l:=by
 grind[yS]
def rV(hS:fq S)(hs:aY g (aC s) w)(hb:g.bT o=Z b){x:yp S.A k}(h:mC s k (s.ob.get o)=Z (x,fz,ow,nx)) :
  (∃ob,s.ob.get o=Z ob/\jV ob=W)/\∃I,w.heap[b]?=Z I/\
  (∀o∈fz,Live g (aC s) o)/\(∀o∈ow,s.fl<=o/\s.lo<=o/\o<s.aE/\∃ob,s.ob.get o=Z ob/\Sf ob=W)/\∀(u:Gh)(s1:St)(q:L Nat),aY u s1 w->Ext s.fl g w u w->jF (aC s) s1 q->(∀o∈fz,o∈q)->(∀o∈ow,s1.ob.get o=(aC s).ob.get o)->
   ∀nb,(∀o',nx=Z o'->∃b',nb=Z b'/\u.bT o'=Z b')->∃al,ED S u.bx w nb k x I al/\AL u al ow:=by
 cases f:s.ob.get o with
 |none=>rw[f]at h;cases k<;>simp[mC]at h
 |some ob=>
 rw[f]at h
 let ⟨I,hh,A⟩:=(hs.box o b hb).2.2 (de ob) (by rw[aJ,f];rfl)
 cases k with
 |cells cs=>
  cases ob with
  |box vs=>
   refine⟨⟨_,rfl,rfl⟩,I,hh,?_⟩;cases A with
   |box _ y ty K A=>
   simp[mC]at h;split at h;rotate_left;cases h;rename_i y1 a1 b1 VV;obtain⟨rfl,rfl,rfl,rfl⟩:=h
   let ⟨p1,p2,p3⟩:=gq hS hs VV (vals:=y.toList) ⟨by simpa using K,λj t v i r=>A j t v i (by simpa using r)⟩
   refine⟨p1,p2,λu s1 q a b c d e nb _=>?_⟩
   let ⟨al,i,r⟩:=p3 u s1 q a b c d e
   exact⟨al,.cells i,r⟩
  |_=>simp[mC]at h
 |link m pre post=>
  cases ob with
  |box vs=>
   refine⟨⟨_,rfl,rfl⟩,I,hh,?_⟩;cases A with
   |box _ y ty K A=>
   simp only[mC]at h;split at h;rotate_left;cases h;rename_i b2 e1 e2 e3;obtain⟨rfl,rfl,rfl,rfl⟩:=h;rw[bV]at e1 e2 e3;have P:vs.length=y.toList.length:=by rw[<-eP];simpa using K
   have Q:∀j t v,vs[j]?=Z t->y.toList[j]?=Z v->aI g w (low t) v:=λj t v i r=>A j _ v (by rw[eZ,lE,i];rfl) (by simpa using r);have hpre:PW (aI g w) (bA (vs.take pre.length)) (y.toList.take pre.length):=by refine⟨by rw[eP];simp[P],λj t v i r=>?_⟩;rw[eZ,lE,fT]at i;obtain⟨t',i,rfl⟩:=i;rw[Jw]at i r;split at i;rename_i hj;rw[bD hj]at r;exact Q j t' v i r;cases i
   have R:PW (aI g w) (bA (vs.drop (Ns pre.length))) (y.toList.drop (Ns pre.length)):=by refine⟨by rw[eP];simp[P],λj t v i r=>?_⟩;rw[eZ,lE,fT]at i;obtain⟨t',i,rfl⟩:=i;rw[NR]at i r;exact Q _ t' v i r
   have e2:=YB e2;rw[kr]at e2;have hlt:pre.length<y.toList.length:=by rw[<-P];exact(Vg.1 e2).1
   have E:=Q pre.length _ _ e2 (iX hlt);generalize hvm:y.toList[pre.length]=vm at E;obtain⟨b2,pZ,rfl⟩:=TQ E;have B:y.toList=y.toList.take pre.length++([Od m b2]++y.toList.drop (Ns pre.length)):=by have h1:=(XH pre.length y.toList).symm;rw[TA hlt,hvm]at h1;simpa using h1
   let ⟨p1,p2,p3⟩:=gq hS hs e1 hpre
   let ⟨q1,q2,q3⟩:=gq hS hs e3 R
   refine⟨λo f=>(eX.1 f).elim (p1 o) (q1 o),λo f=>(eX.1 f).elim (p2 o) (q2 o),λu s1 q C he hf F z nb hnb=>?_⟩
   let ⟨DZ,i,r⟩:=p3 u s1 q C he hf (λo f=>F o (fS _ f)) (λo f=>z o (fS _ f))
   let ⟨BI,k3,k4⟩:=q3 u s1 q C he hf (λo f=>F o (eV _ f)) (λo f=>z o (eV _ f))
   let ⟨b',Ep,Ry⟩:=hnb _ rfl
   have:b'=b2:=j8 (Ry.symm.trans (he.bT _ _ pZ));subst this;exact⟨_,.link Ep B i k3,r.append k4⟩
  |_=>simp[mC]at h
 |map kt vt=>
  cases ob with
  |map k v l=>
   simp[mC]at h;split at h
   .rename_i K;obtain⟨rfl,rfl,hh'⟩:=HC K;cases hh';obtain⟨rfl,rfl,rfl,rfl⟩:=h;refine⟨⟨_,rfl,rfl⟩,I,hh,λo f=>(by cases f),λo f=>(by cases f),λu s1 q C he hf _ _ nb _=>⟨[],?_,.nil⟩⟩;cases A with
    |map _ ms c K A=>
    refine .map (by simpa using K) λj p m h1 h2=>?_;obtain⟨i,r⟩:=A j _ m (by rw[lE,h1];rfl) h2;exact⟨EH hS (i.ext he hs.bx),EH hS (r.ext he hs.bx)⟩
   cases h
  |_=>simp[mC]at h
 |rO=>
  cases ob with
  |rO bs n=>obtain⟨rfl,rfl,rfl,rfl⟩:=h;refine⟨⟨_,rfl,rfl⟩,I,hh,λo f=>(by cases f),λo f=>(by cases f),λu s1 q C he hf _ _ nb _=>⟨[],?_,.nil⟩⟩;cases A;exact .rO (x:=(bs,n))
  |_=>simp[mC]at h
theorem ED.iL{I:Nat->Prop}{w:World}{c:O Nat}{k:Bk}{x:yp S.A k}{h:Obj}{al:L fe}(d:ED S I w c k x h al):∀a∈al,∀b,a.at b->¬I b:=by cases d with|cells h=>exact h.iL|map=>simp_all|rO=>simp_all|link _ _ h1 h2=>intro a e;exact(eX.1 e).elim (h1.iL a) (h2.iL a)
theorem EG(k:Bk)(s:bp S)(nx:O Nat)(x:yp S.A k):s.aE<=(lK s nx k x).2.aE:=by cases k with|cells cs=>exact oh cs s x|map kt a=>exact eO _|rO=>exact eO _|link m pre post=>exact gk (oh pre s x.1) (oh post _ x.2)
def qi{x:yp S.A k}{h:Obj}{Q:O Nat}(C:ED S g.bx w Q k x h al)(E:∀R,Q=Z R->∃r,nx=Z r/\g.bT r=Z R)(hs:aY g (aC s) w)(u:∀a∈al,∀b,a.at b->∀o,¬bJ g o b)(z:xC al)
  (hn:(lK s nx k x).2.aE<=bM):∃g',WE g s w al g' (lK s nx k x).2/\gX g' w (de (lK s nx k x).1) h:=by
 cases C with
 |cells C=>
  let ⟨g',hu,A⟩:=nG C hs u z hn
  exact⟨g',hu,.box _ _ _ (by simpa using A.1) λj t v n q=>A.2 j t v n (by simpa using q)⟩
 | @map kt vt l ms c hl C=>
  refine⟨g,WE.refl hs,.map _ _ _ (by simpa using hl) λj t m h1 h2=>?_⟩;simp only[lE,fT]at h1;obtain⟨p,hp,rfl⟩:=h1
  grind[uv]
 |rO=>exact⟨g,WE.refl hs,.rO _ _⟩| @link m pre post x y cv ty al vK vp vq b hb hv h1 h2=>
  obtain⟨r,rfl,F⟩:=E b hb;have e:=uz.1 z;have I:(iz s pre x).2.aE<=bM:=gk (oh post _ y) hn
  let ⟨g1,d,B⟩:=nG h1 hs (λa ha=>u a (fS _ ha)) e.1 I
  let ⟨K,i,P⟩:=nG (s:=(iz s pre x).2) (d.bx▸h2) d.rel (λa ha b hb o hO=>by
    obtain hO|⟨_,a2,ha2,pZ⟩:=d.own o b hO
    grind
    grind) e.2.1 hn
  refine⟨K,d.trans i,?_⟩;have hmid:aI K w (low (lkV m r:V S)) (Od m b):=acq (by rw[i.bT,d.bT];exact F) m;have f:PW (aI K w) (bA ((iz s pre x).1++(X4 m (Z r)++(iz (iz s pre x).2 post y).1))) cv.toList:=by
   rw[hv,kz,kz];exact PW.append ⟨B.1,λj t v n q=>(B.2 j t v n q).le i.le⟩ (PW.append ⟨rfl,λj t v n q=>by
    grind[bA,X4]⟩ P)
  exact .box _ _ _ (by simpa using f.1) λj t v n q=>f.2 j t v n (by simpa using q)
end
section
def Tr.r6{α:Type}:∀(n:Nat)(t:Tr α)(k j:Nat),k+1<2 ^ n->(Tr.del n t k).get j=if j=k then Y else t.get j
 |0,t,k,j,h=>by simp at h
 |n+1,.nil,k,j,h=>by have:Tr.del (n+1) (.nil:Tr α) k=.nil:=rfl;rw[this,Tr.get_nil];split<;>rfl
 |n+1,.node v l r,0,j,h=>by have:Tr.del (n+1) (.node v l r) 0=.node Y l r:=rfl;cases j with|zero=>rfl|succ j=>rfl
 |n+1,.node v l r,k+1,j,h=>by
  have b:k/2+1<2 ^ n:=by omega
  have c:Tr.del (n+1) (.node v l r) (k+1)=if k%2=0 then .node v (Tr.del n l (k/2)) r else .node v l (Tr.del n r (k/2)):=by
   simp[Tr.del];by_cases h2:k%2=0;have:Nq (Nat.mod k 2) 0=W:=by show Nq (k%2) 0=W;rw[h2];rfl
   simp[this,h2];rfl;have:Nq (Nat.mod k 2) 0=J:=by
    show Nq (k%2) 0=J;have:k%2=1:=by omega
    rw[this];rfl
   simp[this,h2];rfl
  rw[c];cases j with
  |zero=>split<;>simp[Tr.je]
  |succ j=>
   by_cases d:k%2=0;rw[bD d,Tr.dG,Tr.dG];by_cases a:j%2=0;rw[bD a,bD a,Tr.r6 n _ _ _ b]
   grind
   grind
   rw[bQ d,Tr.dG,Tr.dG];by_cases a:j%2=0;rw[bD a,bD a,bQ (by omega)];rw[bQ a,bQ a,Tr.r6 n _ _ _ b]
   grind
def Tr.oG{α:Type}:∀(bs:L Nat)(t:Tr α)(j:Nat),(∀b∈bs,b<bM)->(bs.foldl (λt o=>t.del aM o) t).get j=if j∈bs then Y else t.get j
 |[],t,j,_=>by simp
 |b::bs,t,j,h=>by rw[NO,Tr.oG bs _ j (λc a=>h c (by simp[a])),Tr.r6 _ _ _ _ (by have:=h b (by simp);unfold aM;unfold bM at this;omega)];by_cases h1:j∈bs;simp[h1];by_cases h2:j=b<;>simp[h1,h2]
def Tr.oE{α:Type}(f:α->α):∀(t:Tr α)(k:Nat),(t.mapA f).get k=(t.get k).map f
 |.nil,k=>by rfl
 |.node v l r,0=>by have:(Tr.node v l r).mapA f=.node (match v with|some x=>Z (f x)|none=>Y) (l.mapA f) (r.mapA f):=rfl;rw[this,Tr.je,Tr.je];cases v<;>rfl
 |.node v l r,k+1=>by have:(Tr.node v l r).mapA f=.node (match v with|some x=>Z (f x)|none=>Y) (l.mapA f) (r.mapA f):=rfl;rw[this,Tr.dG,Tr.dG,Tr.oE f l,Tr.oE f r];split<;>rfl
theorem Tr.qW{α:Type}(p:α->Bool):∀(t:Tr α)(k:Nat)(x:α),t.get k=Z x->p x=W->k∈t.jR p
 |.nil,k,x,h,_=>by cases h
 |.node v l r,0,x,h,a=>by
  grind[Tr.je,Tr.jR]
 |.node v l r,k+1,x,h,a=>by rw[Tr.dG]at h;simp only[Tr.jR,eX,ym];by_cases b:k%2=0;rw[bD b]at h;exact .inr (.inl ⟨k/2,Tr.qW p l _ x h a,by grind⟩);rw[bQ b]at h;exact .inr (.inr ⟨k/2,Tr.qW p r _ x h a,by grind⟩)
theorem Tr.oF{α:Type}(p:α->Bool):∀(t:Tr α)(k:Nat),(t.keep p).get k=(t.get k).filter p
 |.nil,k=>by rfl
 |.node v l r,0=>by
  have:(Tr.node v l r).keep p=.node (match v with|some x=>bif p x then Z x else Y|none=>Y) (l.keep p) (r.keep p):=rfl
  grind[Tr.je]
 |.node v l r,k+1=>by have:(Tr.node v l r).keep p=.node (match v with|some x=>bif p x then Z x else Y|none=>Y) (l.keep p) (r.keep p):=rfl;rw[this,Tr.dG,Tr.dG,Tr.oF p l,Tr.oF p r];split<;>rfl
mutual
theorem kU(os:L Nat):∀v:V S,dy os (low v)=iT os v
 |.ty t x=>by
  have:∀l:L D,iM os (l.map .sym)=J:=by
   intro l
   induction l with|nil=>rfl|cons d l e=>simp[iM,dy,e]
  cases t<;>simp[low,ef,iT,dy,this]
 |.kb _=>rfl|.kn _ _=>rfl|.dat _=>rfl|.ptr _ _=>rfl|.mc _ _ _=>rfl|.l9 _ _ _ _=>rfl|.sh _ _=>rfl|.emp=>rfl|.kM _ _ _=>rfl|.fn _ a b=>by simp[low,iT,dy,qS os a,qS os b]
 |.dj _ v=>by simp[low,iT,dy,kU os v]
 |.agg c=>by simp[low,iT,dy,qS os c]
 |.gR c=>by simp[low,iT,dy,qS os c]
 |.gd _ v=>by simp[low,iT,dy,kU os v]
 |.mp _=>rfl|.rP _=>rfl|.uo _=>rfl|.ub _=>rfl|.sC _ _ _ _=>rfl|.qd _ _ _=>rfl
theorem qS(os:L Nat):∀l:L (V S),iM os (bA l)=oT os l
 |[]=>rfl|v::l=>by simp[bA,iM,oT,kU os v,qS os l]
end
def mD:∀t:T,dy [] t=J:=by
 intro t
 induction t using T.rec (motive_2:=λl=>iM [] l=J)with|fn f a b d g=>simp[dy,d,g]|dj t v e=>simp[dy,e]|agg i e=>simp[dy,e]|gR i e=>simp[dy,e]|gd c v e=>simp[dy,e]|nil=>rfl|cons a l d h=>simp[iM,d,h]|_=>simp[dy]
structure oN(lo fl:Nat)(g:Gh)(w:World)(g':Gh)(w':World):Prop where
 bT:∀o b,g.bT o=Z b->g'.bT o=Z b
 arr:∀o e x,o<lo->g.arr o e=Z x->g'.arr o e=Z x
 bx:∀b,g.bx b->g'.bx b
 size:w.heap.size<=w'.heap.size
 heap:∀b,b<w.heap.size->(∀o,fl<=o->¬bJ g o b)->w'.heap[b]?=w.heap[b]?
 own:∀o b,fl<=o->bJ g' o b->(∃o',fl<=o'/\bJ g o' b)\/w.heap.size<=b
 oD:∀b,g'.bx b->g.bx b\/w.heap.size<=b\/∃o,fl<=o/\bJ g o b
 os:w'.os=w.os
 output:w'.output=w.output
theorem oN.refl(lo fl:Nat)(g:Gh)(w:World):oN lo fl g w g w:=
 ⟨λ_ _ h=>h,λ_ _ _ _ h=>h,λ_ h=>h,eO _,λ_ _ _=>rfl,λo _ a h=>.inl ⟨o,a,h⟩,λ_ h=>.inl h,rfl,rfl⟩
def oN.trans{lo fl:Nat}{g g' i:Gh}{w w' j:World}(h:oN lo fl g w g' w')(k:oN lo fl g' w' i j):oN lo fl g w i j where
 bT o b e:=k.bT o b (h.bT o b e)
 arr o e x n p:=k.arr o e x n (h.arr o e x n p)
 bx b e:=k.bx b (h.bx b e)
 size:=gk h.size k.size
 heap b c q:=by
  rw[k.heap b (iS c h.size) (λo l a=>?_),h.heap b c q];obtain⟨m,d,f⟩|a:=h.own o b l a
  grind
  omega
 own o b l a:=by
  obtain⟨m,d,f⟩|a:=k.own o b l a
  exact h.own m b d f;exact .inr (gk h.size a)
 oD b c:=by
  obtain c|c|⟨o,l,a⟩:=k.oD b c
  exact h.oD b c;exact .inr (.inl (gk h.size c));obtain⟨m,d,f⟩|a:=h.own o b l a
  grind
  omega
 os:=k.os.trans h.os
 output:=k.output.trans h.output
variable {fl:Nat}{g g':Gh}{w w':World}{s:bp S}{k:Bk}{nx:Option Nat}
def Ext.ID(lo:Nat)(h:Ext fl g w g' w'):oN lo fl g w g' w':=
 ⟨λo b e=>h.bT o b e,λo e x _ k=>h.arr o e x k,h.bx,h.size,h.heap,λo b a c=>(h.own o b c).imp (λh=>⟨o,a,h⟩) id,h.oD,h.os,h.output⟩
structure cS(ow:List Nat)(s:bp S)(g:Gh)(w:World)(s':bp S)(g':Gh)(w':World):Prop where
 rel:aY g' (aC s') w'
 ext:oN s.lo s.fl g w g' w'
 fl:s'.fl=s.fl
 lo:s'.lo=s.lo
 aE:s.aE<=s'.aE
 uk:∀o∈s.wr,o∈s'.wr
 same:∀o,o<s.aE->o∉s'.wr->s'.ob.get o=s.ob.get o
 tr:∀t v,aI g w t v->dy ow t=J->aI g' w' t v
 oww:∀o∈ow,o∈s'.wr
 Ht:∀o∈s.dr,o∈s'.dr
 owd:∀o∈ow,o∈s'.dr
inductive rJ(S:Sg)(I:Nat->Prop)(w:World):(ps:List Pk)->gm S.A ps->List Value->List fe->List Nat->Prop where
 |nil:rJ S I w [] () [] [] []|one {c:Ck} {ps:List Pk} {x:den S.A c.ty} {h:gm S.A ps} {v:Value} {vs:List Value} {al vK:List fe} {bl:List Nat} (h1:jT S I w [c] (x,()) [v] al) (h2:rJ S I w ps h vs vK bl) :
   rJ S I w (.one c::ps) (x,h) (v::vs) (al++vK) bl
 |box {k:Bk} {ps:List Pk} {x:yp S.A k} {h:gm S.A ps} {b:Nat} {hx:Obj} {vs:List Value} {al vK:List fe} {bl:List Nat} (hh:w.heap[b]?=Z hx)
   (h1:ED S I w (fH bl) k x hx al) (h2:rJ S I w ps h vs vK bl):rJ S I w (.box k::ps) (x,h) (Lx k b::vs) (al++vK) (b::bl)
 |hid {k:Bk} {ps:List Pk} {x:yp S.A k} {h:gm S.A ps} {b:Nat} {hx:Obj} {vs:List Value} {al vK:List fe} {bl:List Nat} (hh:w.heap[b]?=Z hx)
   (h1:ED S I w (fH bl) k x hx al) (h2:rJ S I w ps h vs vK bl):rJ S I w (.hid k::ps) (x,h) vs (al++vK) (b::bl)
inductive EE(S:Sg)(I:Nat->Prop)(w:World):(ps:List Pk)->iE S.A ps->List Nat->List fe->Prop where
 |nil:EE S I w [] () [] []|one {c:Ck} {ps:List Pk} {r:iE S.A ps} {bl:List Nat} {al:List fe} (h:EE S I w ps r bl al):EE S I w (.one c::ps) r bl al|box {k:Bk} {ps:List Pk} {x:yp S.A k} {r:iE S.A ps} {b:Nat} {hx:Obj} {bl:List Nat} {al vK:List fe} (hh:w.heap[b]?=Z hx)
   (h1:ED S I w (fH bl) k x hx al) (h2:EE S I w ps r bl vK):EE S I w (.box k::ps) (x,r) (b::bl) (al++vK)
 |hid {k:Bk} {ps:List Pk} {x:yp S.A k} {r:iE S.A ps} {b:Nat} {hx:Obj} {bl:List Nat} {al vK:List fe} (hh:w.heap[b]?=Z hx)
   (h1:ED S I w (fH bl) k x hx al) (h2:EE S I w ps r bl vK):EE S I w (.hid k::ps) (x,r) (b::bl) (al++vK)
def valOf:L Value->Value
 |[v]=>v|l=>.tuple l.toArray
def E9(S:Sg)(I:Nat->Prop)(w:World)(ps:L Pk)(f:L Ck)(r:gC S.A f×iE S.A ps)(al:L fe)(bl:L Nat)(v:Value)(w':World):Prop:=∃(e:Nat->Prop)(vs:L Value)(c d:L fe),(∀b,I b->e b)/\(∀b,e b->I b\/w.heap.size<=b\/∃a∈al,a.at b)/\(∀b,e b->b<w'.heap.size)/\w.heap.size<=w'.heap.size/\
   (∀b,b<w.heap.size->b∉bl->(∀a∈al,¬a.at b)->w'.heap[b]?=w.heap[b]?)/\w'.os=w.os/\w'.output=w.output/\v=valOf vs/\
   EE S e w' ps r.2 bl c/\jT S e w' f r.1 vs d/\xC (c++d)/\(∀a∈c++d,∀b,a.at b->(∃a'∈al,a'.at b)\/w.heap.size<=b)/\(∀b∈bl,¬e b/\∀a∈c++d,¬a.at b)
def yc(S:Sg)(I:Nat->Prop)(w:World)(ps:L Pk)(b:L Ck)(r:Rx (gC S.A b×iE S.A ps) (den S.A S.pt×iE S.A ps))(al:L fe)(bl:L Nat):Ending->World->Prop
 |.returned v,w'=>match r with
  |.ok r=>E9 S I w ps b r al bl v w'|.iJ _=>False
 |.panicked c,w'=>match r with
  |.ok _=>False|.iJ p=>∃v,c=[{v,recovered:=J}]/\E9 S I w ps [.dat S.pt] ((p.1,()),p.2) al bl v w'
 |.outgrown,_=>False
def bG(P:Program)(f:FuncId)(c:lJ S):Prop:=
 mu P f/\∀x r,c.F x=Z r->∀(I:Nat->Prop)(w:World)(vs:Array Value)(al:L fe)(bl:L Nat),rJ S I w c.ps x vs.toList al bl->(∀b,I b->b<w.heap.size)->xC al->bl.Nodup->
  (∀b∈bl,b<w.heap.size/\¬I b/\∀a∈al,¬a.at b)->Calls P f vs w (yc S I w c.ps c.rs (RT.res c.pn r) al bl)
def AA(hs:aY g (aC s) w){o b:Nat}(j:g.bT o=Z b){x:yp S.A k}{fz ow:L Nat}(h:mC s k (s.ob.get o)=Z (x,fz,ow,nx)) :
  (∀a,nx=Z a->∃l,g.bT a=Z l)/\∀a,nx=Z a->∃m pre post,k=.link m pre post:=by
 cases e:s.ob.get o with
 |none=>rw[e]at h;cases k<;>simp[mC]at h
 |some ob=>
 rw[e]at h
 let ⟨t,u,f⟩:=(hs.box o b j).2.2 (de ob) (by rw[aJ,e];rfl)
 cases k with
 |link m pre post=>
  refine⟨λa n=>?_,λ_ _=>⟨m,pre,post,rfl⟩⟩;cases ob with
  |box v=>
   cases f with
   |box _ p ty y f=>
   simp only[mC]at h;split at h;rotate_left;cases h;rename_i q z d A;obtain⟨_,_,_,rfl⟩:=h;have d:=YB d;rw[kr]at d;have i:cH pre<p.size:=by grind[eP]
   have c:=f (cH pre) _ _ (by rw[eZ,lE,d];rfl) (uB i)
   let ⟨q,r,_⟩:=TQ c
   grind
  |_=>simp[mC]at h
 |cells B=>
  cases ob<;>simp only[mC]at h<;>try(cases h;done)
  grind
 |map kt C=>
  cases ob<;>simp only[mC]at h<;>try(cases h;done)
  grind
 |rO=>
  cases ob<;>simp only[mC]at h<;>try(cases h;done)
  grind
def Dv{i:Gh}{ps:L Pk}{l:L (V S)}{h:gm S.A ps}{a b bs bl:L Nat}(n:Gw k ps=W)(g:∀c,nx=Z c->∃m pre post,k=.link m pre post)(e:eK s ps l nx=Z (h,a,b,bs))(d:PW (λo b=>i.bT o=Z b) bs bl) :
  ∀c,nx=Z c->∃f,fH bl=Z f/\i.bT c=Z f:=by
 intro c j;obtain⟨m,pre,post,rfl⟩:=g c j;subst j
 match ps,n with
 |.hid p::ps,_=>
  simp[eK]at e;obtain⟨_,e⟩|⟨_,e⟩:=af e
  rotate_left;cases e;split at e;rotate_left;cases e;split at e;rotate_left;cases e;simp at e;obtain⟨_,_,_,rfl⟩:=e
  match bl,d with
  |f::bl,d=>exact⟨f,rfl,d.2 0 _ _ rfl rfl⟩|[],d=>exact absurd d.1 (by simp)
def kT(hS:fq S){g:Gh}{w:World}{s:bp S}(hs:aY g (aC s) w):∀{ps:L Pk}{l:L (V S)}{vals:L Value}{x:gm S.A ps}{fz ow bs:L Nat}{B:O Nat},eK s ps l B=Z (x,fz,ow,bs)->PW (aI g w) (bA l) vals->(∀o,B=Z o->∃b,g.bT o=Z b)->
  (∀o∈fz,Live g (aC s) o)/\(∀o∈ow,s.fl<=o/\s.lo<=o/\o<s.aE/\∃ob,s.ob.get o=Z ob/\Sf ob=W)/\(∀o∈bs,s.fl<=o/\∃ob,s.ob.get o=Z ob/\jV ob=W)/\∀(r:Gh)(s1:St)(i:L Nat),aY r s1 w->Ext s.fl g w r w->jF (aC s) s1 i->(∀o∈fz,o∈i)->(∀o∈ow,s1.ob.get o=(aC s).ob.get o)->
   ∃al bl,rJ S r.bx w ps x vals al bl/\AL r al ow/\PW (λo b=>r.bT o=Z b) bs bl
 |[],[],vals,x,fz,ow,bs,_,h,m=>by intro _;obtain⟨_,rfl,rfl,rfl⟩:=h;have:vals=[]:=Ek (by have:=m.1;simpa[bA]using this.symm);subst this;exact⟨λo d=>(by cases d),λo d=>(by cases d),λo d=>(by cases d),λ_ _ _ _ _ _ _ _=>⟨[],[],.nil,.nil,rfl,λj a b h=>by simp at h⟩⟩
 |.one c::ps,v::l,vals,x,fz,ow,bs,_,h,m=>by
  intro _;simp[eK]at h;split at h
  .rename_i x1 a1 b1 h1 a2 b2 bs2 C E;simp at h;obtain⟨rfl,rfl,rfl,rfl⟩:=h
   match vals,m with
   |val::vals,m=>
    have F:aI g w (low v) val:=m.2 0 _ _ rfl rfl;have I:PW (aI g w) (bA l) vals:=⟨by have:=m.1;simpa[bA]using this,λj a b u y=>m.2 (j+1) a b (by simpa[bA]using u) (by simpa using y)⟩
    let ⟨p1,p2,p3⟩:=Dy hS hs C F
    let ⟨q1,q2,q4,q3⟩:=kT hS hs E I (λo d=>by cases d)
    refine⟨λo d=>(eX.1 d).elim (p1 o) (q1 o),λo d=>(eX.1 d).elim (p2 o) (q2 o),q4,λr s1 i n t A f e=>?_⟩
    let ⟨DZ,u,y⟩:=p3 r s1 i n t A (λo d=>f o (fS _ d)) (λo d=>e o (fS _ d))
    let ⟨BI,bl,k3,k4,z⟩:=q3 r s1 i n t A (λo d=>f o (eV _ d)) (λo d=>e o (eV _ d))
    exact⟨_,bl,.one u k3,y.append k4,z⟩
   |[],m=>exact absurd m.1 (by simp[bA])
  cases h
 |.box k::ps,v::l,vals,x,fz,ow,bs,B,h,m=>by
  intro _;simp[eK]at h;split at h
  .rename_i o hkp;obtain rfl:=Ly hkp;obtain⟨hb,p⟩|⟨_,p⟩:=af h
   .clear h;rw[zk]at hb;split at p;rotate_left;cases p;rename_i x1 a1 b1 nx C;split at p;rotate_left;cases p;rename_i h1 a2 b2 bs2 E;simp at p;obtain⟨rfl,rfl,rfl,rfl⟩:=p
    match vals,m with
    |val::vals,m=>
     have F:aI g w (low (VK k o)) val:=m.2 0 _ _ rfl rfl;have I:PW (aI g w) (bA l) vals:=⟨by have:=m.1;simpa[bA]using this,λj a b u y=>m.2 (j+1) a b (by simpa[bA]using u) (by simpa using y)⟩;obtain⟨b,q,rfl⟩:=Gy F
     let ⟨p0,hx,hh,p1,p2,p3⟩:=rV hS hs q C
     let ⟨K,P⟩:=AA hs q C
     let ⟨q1,q2,q4,q3⟩:=kT hS hs E I K
     refine⟨λo d=>(eX.1 d).elim (p1 o) (q1 o),λo d=>(eX.1 d).elim (p2 o) (q2 o),λk hk=>?_,λr s1 i n t A f e=>?_⟩;obtain rfl|hk:=fV.1 hk
     simp_all
     grind
     let ⟨BI,bl,k3,k4,z⟩:=q3 r s1 i n t A (λo d=>f o (eV _ d)) (λo d=>e o (eV _ d))
     let ⟨DZ,u,y⟩:=p3 r s1 i n t A (λo d=>f o (fS _ d)) (λo d=>e o (fS _ d)) (fH bl) (Dv hb.2 P E z)
     refine⟨_,b::bl,.box hh u k3,y.append k4,by simp[z.1],λj a c Q R=>?_⟩;cases j with|zero=>simp at Q R;subst Q;subst R;exact t.bT _ _ q|succ j=>exact z.2 j a c (by simpa using Q) (by simpa using R)
    |[],m=>exact absurd m.1 (by simp[bA])
   cases p
  cases h
 |.hid k::ps,l,vals,x,fz,ow,bs,Z o,h,m=>by
  intro hp0;obtain⟨hb,p⟩|⟨_,p⟩:=af h
  rotate_left;cases p;clear h;rw[zk]at hb;split at p;rotate_left;cases p;rename_i C;split at p;rotate_left;cases p;rename_i E;obtain⟨rfl,rfl,rfl,rfl⟩:=p
  let ⟨b,q⟩:=hp0 o rfl
  let ⟨p0,hx,hh,p1,p2,p3⟩:=rV hS hs q C
  let ⟨K,P⟩:=AA hs q C
  let ⟨q1,q2,q4,q3⟩:=kT hS hs E m K
  refine⟨λo d=>(eX.1 d).elim (p1 o) (q1 o),λo d=>(eX.1 d).elim (p2 o) (q2 o),λk hk=>?_,λr s1 i n t A f e=>?_⟩;obtain rfl|hk:=fV.1 hk
  simp_all
  grind
  let ⟨BI,bl,k3,k4,z⟩:=q3 r s1 i n t A (λo d=>f o (eV _ d)) (λo d=>e o (eV _ d))
  let ⟨DZ,u,y⟩:=p3 r s1 i n t A (λo d=>f o (fS _ d)) (λo d=>e o (fS _ d)) (fH bl) (Dv hb.2 P E z)
  refine⟨_,b::bl,.hid hh u k3,y.append k4,by simp[z.1],λj a c Q R=>?_⟩;cases j with|zero=>simp at Q R;subst Q;subst R;exact t.bT _ _ q|succ j=>exact z.2 j a c (by simpa using Q) (by simpa using R)
 |[],_::_,_,_,_,_,_,_,h,_=>by simp[eK]at h
 |.one _::_,[],_,_,_,_,_,_,h,_=>by simp[eK]at h
 |.box _::_,[],_,_,_,_,_,_,h,_=>by simp[eK]at h
 |.hid _::_,_,_,_,_,_,_,Y,h,_=>by simp[eK]at h
end
section
def Gn{os:L Nat}:∀{l:L (V S)},oT os l=J->∀v∈l,iT os v=J
 |[],_,v,b=>by cases b
 |a::l,h,v,b=>by
  simp[oT,zj]at h;obtain rfl|b:=fV.1 b
  exact h.1;exact Gn h.2 v b
def Gm{α:Type}{os:L Nat}:∀{l:L (α×V S)},Ls os l=J->∀p∈l,iT os p.2=J
 |[],_,v,b=>by cases b
 |a::l,h,v,b=>by
  simp[Ls,zj]at h;obtain rfl|b:=fV.1 b
  exact h.1;exact Gm h.2 v b
def EU{p:V S->Bool}{f:V S->V S}(hf:∀v,p v=J->f v=v):∀{t:Tr (V S)},mW p t=J->t.mapA f=t
 |.nil,_=>rfl|.node v l r,h=>by
  simp[mW,zj]at h;simp only[Tr.mapA,EU hf h.2.1,EU hf h.2.2]
  grind
variable {os bl:List Nat}{g:Gh}{w:World}{s:bp S}{vs:List Value}{I:Nat->Prop}
def CD{v:V S}(h:iT os v=J):rE os v=v:=by simp[rE,h,j7]
def RO{ob:vo S}(h:Ll os ob=J):oe os ob=ob:=by
 cases ob with
 |box b=>simp[oe,vo.box.injEq];have:∀v∈b,rE os v=v:=λv c=>CD (Gn h v c);exact(XB this).trans (List.map_id _)|Iw kt l=>
  simp only[oe];have:∀p∈l,((p.1,rE os p.2):den S.A kt×V S)=p:=λp d=>by rw[CD (Gm h p d)]
  rw[(XB this).trans (List.map_id _)]
 |lp l=>simp[oe,EU (λv=>CD) (show mW (iT os) l.fr.tm=J from h)]|lT n j l era m a hole=>have h:os.contains m=J:=h;simp only[oe,h,j7]|_=>rfl
theorem wT(os:L Nat)(v:V S):vL (dy os) (low v) (low (rE os v)):=by cases a:iT os v with|true=>exact .inr ⟨_,by simp[rE,a,iq];rfl⟩|false=>exact .inl ⟨by simp[rE,a,j7],by rw[kU];exact a⟩
theorem S9(os:L Nat)(t:Ty)(x:den S.A t):vL (dy os) (ef S t x) (ef S t x):=.inl ⟨rfl,kU (S:=S) os (.ty t x)⟩
def Ma(os:L Nat)(ob:vo S):aaF os (de ob) (de (oe os ob)):=by
 cases ob with
 |box i=>
  refine⟨by simp[eP],λj t u h1 h2=>?_⟩;simp only[eZ,lE,fT]at h1 h2;obtain⟨v,c,rfl⟩:=h1;obtain⟨g,⟨d,a,rfl⟩,rfl⟩:=h2
  grind[wT]
 |map kt o l=>
  refine⟨rfl,λj t u h1 h2=>?_⟩;rw[h1]at h2;cases h2;simp only[lE,fT]at h1;obtain⟨p,_,rfl⟩:=h1
  grind[S9]
 |Iw kt l=>
  refine⟨by simp,λj t u h1 h2=>?_⟩;simp only[lE,fT]at h1 h2;obtain⟨v,c,rfl⟩:=h1;obtain⟨g,⟨d,a,rfl⟩,rfl⟩:=h2
  grind[S9,wT]
 |lp l=>refine⟨rfl,rfl,λk u h=>?_⟩;have b:((l.fr.tm.mapA (rE os)).map low).get k=Z u:=h;rw[Tr.get_map,Tr.oE,FV,fT]at b;obtain⟨v,c,rfl⟩:=b;exact⟨low v,by show(l.fr.tm.map low).get k=_;rw[Tr.get_map,c];rfl,wT os v⟩
 |arr=>rfl|lM=>rfl|rO=>rfl|Ab=>rfl|rws=>rfl|gone=>rfl|Gl=>rfl|lT n j l era m f hole=>
  cases e:os.contains m with|true=>exact .inr (by simp only[oe,e,iq];rfl)|false=>exact .inl ⟨by simp only[oe,e,j7];rfl,e⟩
def GU(os:L Nat)(s:bp S)(o:Nat):(forget os s).ob.get o=if os=[]then s.ob.get o else(s.ob.get o).map (oe os):=by cases os with|nil=>rfl|cons a os=>exact Tr.oE _ _ _
def OE(os:L Nat)(hs:aY g (aC s) w):aY (g.drop os) (aC (forget os s)) w:=by cases os with|nil=>exact hs|cons a os=>refine hs.drop rfl λo c h=>?_;rw[aJ,GU,bQ (by simp),FV,fT]at h;obtain⟨ob,b,rfl⟩:=h;exact⟨de ob,by rw[aJ,b];rfl,Ma _ ob⟩
def OD(os:L Nat)(s:bp S)(o:Nat)(h:o∉(forget os s).wr):(forget os s).ob.get o=s.ob.get o:=by
 rw[GU];split;rfl;cases c:s.ob.get o with
 |none=>rfl|some ob=>
  cases b:Ll os ob with
  |true=>
   exfalso;apply h;cases os with|nil=>simp_all|cons a os=>exact fS _ (Tr.qW _ _ _ _ c b)
  |false=>rw[jI,RO b]
def Wb(os:L Nat)(s:bp S):(forget os s).fl=s.fl/\(forget os s).lo=s.lo/\(forget os s).aE=s.aE/\(forget os s).dr=s.dr/\∀o∈s.wr,o∈(forget os s).wr:=by cases os with|nil=>exact⟨rfl,rfl,rfl,rfl,λ_ h=>h⟩|cons a os=>exact⟨rfl,rfl,rfl,rfl,λo h=>eV _ h⟩
def eL:∀{os:L Nat}{s s':bp S},dV s os=Z s'->s'.fl=s.fl/\s'.lo=s.lo/\s'.aE=s.aE/\(∀o∈s.wr,o∈s'.wr)/\(∀o,o∉s'.wr->s'.ob.get o=s.ob.get o)/\(∀o,o∉os->s'.ob.get o=s.ob.get o)/\s'.dr=s.dr
 |[],s,s',h=>by simp[dV,gP]at h;subst h;exact⟨rfl,rfl,rfl,λ_ h=>h,λ_ _=>rfl,λ_ _=>rfl,rfl⟩
 |k::os,s,s',h=>by
  obtain⟨_,h⟩|⟨_,h⟩:=af h
  split at h
  let ⟨h1,h2,h3,h4,h5,h6,b⟩:=eL h
  refine⟨h1,h2,h3,λo a=>h4 o (hJ _ a),λo a=>?_,λo a=>?_,b⟩;rw[h5 o a];exact Tr.dD _ _ _ _ _ (λe=>a (h4 o (by rw[e];exact eI)));rw[h6 o (λc=>a (hJ _ c))];exact Tr.dD _ _ _ _ _ (λe=>a (by rw[e];exact eI))
  let ⟨h1,h2,h3,h4,h5,h6,b⟩:=eL h
  exact⟨h1,h2,h3,h4,h5,λo a=>h6 o (λc=>a (hJ _ c)),b⟩;split at h;rename_i _ _ _ _ _;obtain⟨d,h⟩|⟨_,h⟩:=af h
  simp only[eW,FR,qM]at d
  let ⟨h1,h2,h3,h4,h5,h6,b⟩:=eL h
  refine⟨h1,h2,h3,λo a=>h4 o (hJ _ (hJ _ a)),λo a=>?_,λo a=>?_,b⟩;rw[h5 o a];show((s.ob.set aM _ _).set aM k _).get o=_;rw[Tr.dD _ _ _ _ _ (λe=>a (h4 o (by rw[e];exact eI))),Tr.dD _ _ _ _ _ (λe=>a (h4 o (by rw[e];exact hJ _ eI)))];rw[h6 o (λc=>a (hJ _ c))];show((s.ob.set aM _ _).set aM k _).get o=_;rw[Tr.dD _ _ _ _ _ (λe=>a (by rw[e];exact eI)),Tr.dD _ _ _ _ _ (λe=>a (by rw[e];exact hJ _ d.1))];cases h;cases h
  let ⟨h1,h2,h3,h4,h5,h6,b⟩:=eL h
  exact⟨h1,h2,h3,h4,h5,λo a=>h6 o (λc=>a (hJ _ c)),b⟩
  let ⟨h1,h2,h3,h4,h5,h6,b⟩:=eL h
  exact⟨h1,h2,h3,h4,h5,λo a=>h6 o (λc=>a (hJ _ c)),b⟩;cases h;cases h
structure ath(bs:List Nat)(g:Gh)(s:bp S)(w:World)(al:List fe)(g':Gh)(s':bp S):Prop where
 rel:aY g' (aC s') w
 le:nk g g'
 bx:g'.bx=g.bx
 own:∀k b,bJ g' k b->bJ g k b\/(s.aE<=k/\∃a∈al,a.at b)
 fl:s'.fl=s.fl
 lo:s'.lo=s.lo
 aE:s.aE<=s'.aE
 uk:∀o∈s.wr,o∈s'.wr
 wrb:∀o∈bs,o∈s'.wr
 dr:s'.dr=s.dr
 ob:∀o,o<s.aE->o∉bs->s'.ob.get o=s.ob.get o
 bT:g'.bT=g.bT
 arr:∀o,o<s.aE->∀e,g'.arr o e=g.arr o e
def tG:∀{ps:L Pk}{bs:L Nat}{r:iE S.A ps}{s s':bp S},mA s ps bs r=Z s'->s.aE<=s'.aE
 |[],[],r,s,s',h=>by simp_all[mA,gP,eO]
 |.one c::ps,bs,r,s,s',h=>tG (ps:=ps) (by simpa only[mA]using h)
 |.box a::ps,o::bs,r,s,s',h=>by
  simp only[mA]at h;have h1:=tG h
  grind[Nat.le_trans,EG]
 |.hid a::ps,o::bs,r,s,s',h=>by
  simp only[mA]at h;have h1:=tG h
  grind[Nat.le_trans,EG]
 |[],_::_,_,_,_,h=>by simp[mA]at h
 |.box _::_,[],_,_,_,h=>by simp[mA]at h
 |.hid _::_,[],_,_,_,h=>by simp[mA]at h
def AS{bs:L Nat}(h:PW (λo b=>g.bT o=Z b) bs bl):∀a,fH bl=Z a->∃c,fH bs=Z c/\g.bT c=Z a:=by
 intro a d
 match bl,bs,h with
 |b::bl,o::bs,h=>cases d;exact⟨o,rfl,h.2 0 _ _ rfl rfl⟩
 |[],_,_=>cases d
 |_::_,[],h=>exact absurd h.1 (by simp)
def NU:∀{ps:L Pk}{r:iE S.A ps}{bl:L Nat}{al:L fe}{bs:L Nat}{g:Gh}{w:World}{s R:bp S},EE S g.bx w ps r bl al->aY g (aC s) w->PW (λo b=>g.bT o=Z b) bs bl->(∀o∈bs,∀e,g.arr o e=Y)->
  (∀a∈al,∀b,a.at b->∀o,¬bJ g o b)->xC al->mA s ps bs r=Z R->R.aE<=bM->∃g',ath bs g s w al g' R:=by
 intro ps
 induction ps with
 |nil=>
  intro r bl al bs g w s R hb C i _ _ _ h _;cases hb;cases bs with|nil=>simp[mA,gP]at h;subst h;exact⟨g,C,nk.refl _,rfl,λ_ _ h=>.inl h,rfl,rfl,eO _,λ_ h=>h,λo ho=>(by cases ho),rfl,λ_ _ _=>rfl,rfl,λ_ _ _=>rfl⟩|cons o bs=>exact absurd i.1 (by simp)
 |cons p ps ih=>
  intro r bl al bs g w s R hb C i hna hfr hap h hn;cases hb with
  |one hb=>
   grind[mA]
  | @box v _ x r b hx bl al E hh h1 h2=>
   cases bs with
   |nil=>exact absurd i.1 (by simp)
   |cons o bs=>
    simp[mA]at h;have y:g.bT o=Z b:=i.2 0 _ _ rfl rfl;have n:=uz.1 hap;have F:=tG h;have I:(lK s (fH bs) v x).2.aE<=bM:=gk F hn
    let ⟨g1,d,z⟩:=qi h1 (AS (bs:=bs) (bl:=bl) ⟨by simpa using i.1,λj a c t u=>i.2 (j+1) a c (by simpa using t) (by simpa using u)⟩) C (λa ha=>hfr a (fS _ ha)) n.1 I
    have K:o<s.aE:=C.lt y;have hk:=d.rel.tO (o:=o) (b:=b) (by rw[d.bT];exact y) hh z (λe=>by rw[d.arr o K];simp_all);have P:aY g1 (aC {(lK s (fH bs) v x).2 with ob:=(lK s (fH bs) v x).2.ob.set aM o (lK s (fH bs) v x).1,wr:=o::(lK s (fH bs) v x).2.wr}) w:=by rw[eE];exact hk
    let ⟨g2,l⟩:=ih (bl:=bl) (al:=E) (bs:=bs) (g:=g1) (d.bx▸h2) P ⟨by simpa using i.1,λj a c t u=>by rw[d.bT];exact i.2 (j+1) a c (by simpa using t) (by simpa using u)⟩
     (λm f e=>by
      have:m<s.aE:=by
       obtain⟨j,hj,rfl⟩:=rQ f;have hj':j<bl.length:=by have:=i.1;grind
       exact C.lt (i.2 (j+1) bs[j] bl[j] (by simp) (by simp))
      rw[d.arr m this]
      simp_all)
     (λa ha B hb' k q=>by
      obtain q|⟨_,a2,ha2,pZ⟩:=d.own k B q
      grind
      grind) n.2.1 h hn
    refine⟨g2,l.rel,d.le.trans l.le,l.bx.trans d.bx,λk B q=>?_,l.fl.trans d.fl,l.lo.trans d.lo,gk d.aE l.aE,λm f=>?_,λm f=>?_,l.dr.trans d.dr,λm A f=>?_,l.bT.trans d.bT,λm A e=>?_⟩;obtain q|⟨t,a,u,k3⟩:=l.own k B q
    obtain q|⟨t,a,u,k3⟩:=d.own k B q
    exact .inl q
    grind
    exact .inr ⟨gk d.aE t,a,eV _ u,k3⟩;exact l.uk m (hJ _ (by rw[d.wr];exact f));obtain rfl|f:=fV.1 f
    exact l.uk _ eI;exact l.wrb m f;have Q:m≠o:=λe=>f (by simp_all);rw[l.ob m (iS A d.aE) (λhm=>f (hJ _ hm))];rw[Tr.dD _ _ _ _ _ Q];exact d.ob m A;rw[l.arr m (iS A d.aE)];exact d.arr m A e
  | @hid v _ x r b hx bl al E hh h1 h2=>
   cases bs with
   |nil=>exact absurd i.1 (by simp)
   |cons o bs=>
    simp[mA]at h;have y:g.bT o=Z b:=i.2 0 _ _ rfl rfl;have n:=uz.1 hap;have F:=tG h;have I:(lK s (fH bs) v x).2.aE<=bM:=gk F hn
    let ⟨g1,d,z⟩:=qi h1 (AS (bs:=bs) (bl:=bl) ⟨by simpa using i.1,λj a c t u=>i.2 (j+1) a c (by simpa using t) (by simpa using u)⟩) C (λa ha=>hfr a (fS _ ha)) n.1 I
    have K:o<s.aE:=C.lt y;have hk:=d.rel.tO (o:=o) (b:=b) (by rw[d.bT];exact y) hh z (λe=>by rw[d.arr o K];simp_all);have P:aY g1 (aC {(lK s (fH bs) v x).2 with ob:=(lK s (fH bs) v x).2.ob.set aM o (lK s (fH bs) v x).1,wr:=o::(lK s (fH bs) v x).2.wr}) w:=by rw[eE];exact hk
    let ⟨g2,l⟩:=ih (bl:=bl) (al:=E) (bs:=bs) (g:=g1) (d.bx▸h2) P ⟨by simpa using i.1,λj a c t u=>by rw[d.bT];exact i.2 (j+1) a c (by simpa using t) (by simpa using u)⟩
     (λm f e=>by
      have:m<s.aE:=by
       obtain⟨j,hj,rfl⟩:=rQ f;have hj':j<bl.length:=by have:=i.1;grind
       exact C.lt (i.2 (j+1) bs[j] bl[j] (by simp) (by simp))
      rw[d.arr m this]
      simp_all)
     (λa ha B hb' k q=>by
      obtain q|⟨_,a2,ha2,pZ⟩:=d.own k B q
      grind
      grind) n.2.1 h hn
    refine⟨g2,l.rel,d.le.trans l.le,l.bx.trans d.bx,λk B q=>?_,l.fl.trans d.fl,l.lo.trans d.lo,gk d.aE l.aE,λm f=>?_,λm f=>?_,l.dr.trans d.dr,λm A f=>?_,l.bT.trans d.bT,λm A e=>?_⟩;obtain q|⟨t,a,u,k3⟩:=l.own k B q
    obtain q|⟨t,a,u,k3⟩:=d.own k B q
    exact .inl q
    grind
    exact .inr ⟨gk d.aE t,a,eV _ u,k3⟩;exact l.uk m (hJ _ (by rw[d.wr];exact f));obtain rfl|f:=fV.1 f
    exact l.uk _ eI;exact l.wrb m f;have Q:m≠o:=λe=>f (by simp_all);rw[l.ob m (iS A d.aE) (λhm=>f (hJ _ hm))];rw[Tr.dD _ _ _ _ _ Q];exact d.ob m A;rw[l.arr m (iS A d.aE)];exact d.arr m A e
def Ae{l:L (V S)}(h:PW (aI g w) (bA l) vs):aI g w (low (Ej l)) (valOf vs):=by
 match l,vs,h with
 |[],[],_=>exact .gR _ _ rfl (λj t v h=>by grind)
 |[v],[x],h=>exact h.2 0 _ _ rfl rfl|v::c::l,x::d::vs,h=>exact .gR _ _ (by simpa using h.1) (λj t u a b=>h.2 j t u a (by simpa using b))
 |[],_::_,h=>exact absurd h.1 (by simp[bA])
 |_::_,[],h=>exact absurd h.1 (by simp[bA])
 |[_],_::_::_,h=>exact absurd h.1 (by simp[bA])
 |_::_::_,[_],h=>exact absurd h.1 (by simp[bA])
theorem rJ.iL{I:Nat->Prop}{w:World}{ps:L Pk}{x:gm S.A ps}{vs:L Value}{al:L fe}{bl:L Nat}(h:rJ S I w ps x vs al bl):∀a∈al,∀b,a.at b->¬I b:=by
 induction h with
 |nil=>simp_all|one h1 h2 e=>
  intro a c b d;obtain c|c:=eX.1 c
  exact h1.iL a c b d
  grind
 |box f h1 h2 e=>
  intro a c b d;obtain c|c:=eX.1 c
  exact h1.iL a c b d
  grind
 |hid f h1 h2 e=>
  intro a c b d;obtain c|c:=eX.1 c
  exact h1.iL a c b d
  grind
def fN{α β:Type}{x:O α}{f:α->O β}{r:β}(h:ah x f=Z r):∃a,x=Z a/\f a=Z r:=by
 unfold ah at h
 grind
def rJ.asA{ps:L Pk}{x:gm S.A ps}{al:L fe}(h:rJ S I w ps x vs al bl):cC ps=W->al=[]/\bl=[]:=by
 induction h with
 |nil=>simp_all| @one c ps x h v vs al b bl h1 h2 d=>
  intro a;cases c with
  |own e=>simp[cC]at a|ku n j t=>simp[cC]at a|nil e=>simp[cC]at a|ptr t=>simp[cC]at a|dat t=>
   obtain⟨rfl,rfl⟩:=d (by simpa[cC]using a);cases h1 with
   |dat _ f=>
    cases f
    simp_all
 |box=>intro a;simp[cC]at a
 |hid=>intro a;simp[cC]at a
theorem Dw{s:bp S}:∀{ps:L Pk}{l:L (V S)}{nx:O Nat}{x:gm S.A ps}{fz ow bs:L Nat},cC ps=W->eK s ps l nx=Z (x,fz,ow,bs)->ow=[]
 |[],[],_,x,fz,ow,bs,_,h=>by
  grind[eK]
 |.one (.dat t)::ps,v::l,_,x,fz,ow,bs,a,h=>by
  simp[eK]at h;split at h;rename_i b c;obtain⟨_,_,rfl,_⟩:=h;rw[Dw (by simpa[cC]using a) c];simp[pF]at b
  grind
  cases h
 |.one (.ku ..)::_,_,_,_,_,_,_,a,_=>by simp[cC]at a
 |.one (.nil _)::_,_,_,_,_,_,_,a,_=>by simp[cC]at a
 |.one (.ptr _)::_,_,_,_,_,_,_,a,_=>by simp[cC]at a
 |.one (.own _)::_,_,_,_,_,_,_,a,_=>by simp[cC]at a
 |.box _::_,_,_,_,_,_,_,a,_=>by simp[cC]at a
 |.hid _::_,_,_,_,_,_,_,a,_=>by simp[cC]at a
 |[],_::_,_,_,_,_,_,_,h=>by simp[eK]at h
 |.one _::_,[],_,_,_,_,_,_,h=>by simp[eK]at h
def xW{g:Gh}{I:Nat->Prop}{w w':World}:∀{cs:L Ck}{x:gC S.A cs}{vs:L Value}{al:L fe},lD cs=W->jT S I w cs x vs al->PW (aI g w') (bA (tV cs x)) vs
 |[],x,vs,al,_,h=>by cases h;exact⟨rfl,λj t v h=>by simp_all⟩
 |.dat t::cs,x,vs,al,a,h=>by
  cases h with
  | @dat _ _ y h v vs al b e=>
  simp[lD,eW]at a
  let ⟨f,i⟩:=xW (g:=g) (w':=w') a.2 e
  refine⟨by simp only[tV,bA,lR];rw[f],λj l m c d=>?_⟩;cases j with
  |zero=>
   simp[tV,bA,NG,gP]at c d;subst c;subst d;have:dJ g.bx w' (enc S t y) v:=by
    cases t with
    |int k=>cases b;exact .lit _
    |bool=>cases b;exact .lit _
    |str=>cases b;exact .lit _
    |_=>simp[Xq]at a
   exact qD this
  |succ j=>grind[tV,bA]
 |.own _::_,_,_,_,a,_=>by simp[lD]at a
 |.ku ..::_,_,_,_,a,_=>by simp[lD]at a
 |.nil _::_,_,_,_,a,_=>by simp[lD]at a
 |.ptr _::_,_,_,_,a,_=>by simp[lD]at a
def Dm(Q:fq S){g:Gh}{w:World}{s:bp S}(hs:aY g (aC s) w):∀{ts:L Ty}{l:L (V S)}{vals:L Value}{x:l7 S.A ts}{fz:L Nat},Aw s ts l=Z (x,fz)->PW (aI g w) (bA l) vals->
  (∀o∈fz,Live g (aC s) o)/\∀(k:Gh)(s1:St)(e:L Nat),aY k s1 w->Ext s.fl g w k w->jF (aC s) s1 e->(∀o∈fz,o∈e)->∃B:Nat->Prop,(∀b,B b->b<w.heap.size)/\∀I:Nat->Prop,(∀b,k.bx b\/B b->I b)->PW (dJ I w) (e9 S ts x) vals
 |[],[],vals,x,fz,h,A=>by simp only[Aw,gP,fC]at h;obtain⟨_,rfl⟩:=h;exact⟨λo r=>(by cases r),λ_ _ _ _ _ _ _=>⟨λ_=>False,λ_ h=>h.elim,λ_ _=>⟨by have:=A.1;simpa[bA,e9]using this,λj d v h=>by simp[e9]at h⟩⟩⟩
 |[],_::_,_,_,_,h,_=>by simp[Aw]at h
 |_::_,[],_,_,_,h,_=>by simp[Aw]at h
 |t::ts,v::l,[],x,fz,_,A=>absurd A.1 (by simp[bA])
 |t::ts,v::l,val::vals,x,fz,h,A=>by
  simp only[Aw]at h;split at h;rotate_left;cases h;rename_i y os y2 os2 h1 h2;simp only[gP,fC]at h;obtain⟨rfl,rfl⟩:=h;have E:aI g w (low v) val:=A.2 0 _ _ rfl rfl;have R:PW (aI g w) (bA l) vals:=⟨by have:=A.1;simpa[bA]using this,λj a b k1 k2=>A.2 (j+1) a b (by simpa[bA]using k1) (by simpa using k2)⟩;obtain⟨q3,q4⟩:=Dm Q hs h2 R;have one:(∀o∈os,Live g (aC s) o)/\∀(k:Gh)(s1:St)(e:L Nat),aY k s1 w->Ext s.fl g w k w->jF (aC s) s1 e->(∀o∈os,o∈e)->∃B:Nat->Prop,(∀b,B b->b<w.heap.size)/\∀I:Nat->Prop,(∀b,k.bx b\/B b->I b)->dJ I w (enc S t y) val:=by
   unfold ai4 at h1;split at h1
   .rename_i u o _;split at h1;rotate_left;cases h1;rename_i m mR;split at h1;rotate_left;cases h1;rename_i hm;obtain⟨rfl,rfl,hmm⟩:=HC hm;cases hmm;simp only[gP,fC]at h1;obtain⟨rfl,rfl⟩:=h1;obtain⟨b,rfl,i⟩:∃b,val=.map (Z b)/\g.bT o=Z b:=by cases E with|mp _ b i=>exact⟨b,rfl,i⟩
    obtain⟨x0,hh,F⟩:=(hs.box o b i).2.2 _ (by rw[aJ,mR];rfl);cases F with
    |map _ ms c hl F=>
    refine⟨λo r=>(by cases r),λk s1 e n C K f=>⟨λb'=>b'=b,λb' hb'=>hb'▸(hs.box o b i).2.1,λI z=>?_⟩⟩;have key:∀(j:Nat)p q,m[j]?=Z p->ms[j]?=Z q->dJ I w (enc S _ p.1) q.key/\dJ I w (enc S _ p.2) q.val:=λj p q h1 h2=>by obtain⟨k1,k2⟩:=F j _ q (by rw[lE,h1];rfl) h2;exact⟨(EH Q (k1.ext C hs.bx)).le λb i=>z b (.inl i),(EH Q (k2.ext C hs.bx)).le λb i=>z b (.inl i)⟩
    refine .mp _ _ b ms c (z b (.inr rfl)) hh (by simpa using hl) (by simpa using hl) (λj d q h1 h2=>?_) (λj d q h1 h2=>?_);simp only[lE,fT]at h1;obtain⟨p,P,rfl⟩:=h1;exact(key j p q P h2).1;simp only[lE,fT]at h1;obtain⟨p,P,rfl⟩:=h1;exact(key j p q P h2).2
   obtain⟨p,hd,P⟩:=qE Q s t v h1;obtain⟨q1,q2⟩:=mz hs (low v) hd P E;exact⟨q1,λk s1 e n C K f=>⟨λ_=>False,λ_ h=>h.elim,λI z=>(q2 k s1 n C (K.sub f)).le λb i=>z b (.inl i)⟩⟩
  refine⟨λo r=>(eX.1 r).elim (one.1 o) (q3 o),λk s1 e n C K f=>?_⟩;obtain⟨B,hB,F⟩:=q4 k s1 e n C K (λo r=>f o (eV _ r));obtain⟨B',hB',hr'⟩:=one.2 k s1 e n C K (λo r=>f o (fS _ r));refine⟨λb=>B b\/B' b,λb i=>i.elim (hB b) (hB' b),λI z=>?_⟩;have a1:=F I λb i=>z b (i.imp id .inl);have a2:=hr' I λb i=>z b (i.imp id .inr);refine⟨by simp[e9,a1.1],λj d u h1 h2=>?_⟩;cases j with|zero=>simp[e9]at h1 h2;subst h1;subst h2;exact a2|succ j=>exact a1.2 j d u (by simpa[e9]using h1) (by simpa using h2)
def uE(hS:fq S){g:Gh}{w:World}{s:bp S}(hs:aY g (aC s) w):∀{ps:L Pk}{l:L (V S)}{vals:L Value}{x:gm S.A ps}{fz:L Nat},lZ s ps l=Z (x,fz)->PW (aI g w) (bA l) vals->
  (∀o∈fz,Live g (aC s) o)/\∀(q:Gh)(s1:St)(f:L Nat),aY q s1 w->Ext s.fl g w q w->jF (aC s) s1 f->(∀o∈fz,o∈f)->∃B:Nat->Prop,(∀b,B b->b<w.heap.size)/\∀I:Nat->Prop,(∀b,q.bx b\/B b->I b)->rJ S I w ps x vals [] []
 |[],[],vals,x,fz,h,m=>by obtain⟨_,rfl⟩:=h;have:vals=[]:=Ek (by have:=m.1;simpa[bA]using this.symm);subst this;exact⟨λo i=>(by cases i),λ_ _ _ _ _ _ _=>⟨λ_=>False,λ_ h=>h.elim,λ_ _=>.nil⟩⟩
 |[],_::_,_,_,_,h,_=>by simp[lZ]at h
 |.one c::_,[],_,_,_,h,_=>by cases c<;>simp[lZ]at h
 |.box _::_,[],_,_,_,h,_=>by simp[lZ]at h
 |.hid _::_,[],_,_,_,h,_=>by simp[lZ]at h
 |.box _::_,_::_,_,_,_,h,_=>by simp[lZ]at h
 |.hid _::_,_::_,_,_,_,h,_=>by simp[lZ]at h
 |.one (.own _)::_,_::_,_,_,_,h,_=>by simp[lZ]at h
 |.one (.ku ..)::_,_::_,_,_,_,h,_=>by simp[lZ]at h
 |.one (.nil _)::_,_::_,_,_,_,h,_=>by simp[lZ]at h
 |.one (.dat t)::ps,v::l,[],x,fz,_,m=>absurd m.1 (by simp[bA])
 |.one (.ptr t)::ps,v::l,[],x,fz,_,m=>absurd m.1 (by simp[bA])
 |.one (.dat t)::ps,v::l,val::vals,x,fz,h,m=>by
  simp[lZ]at h;split at h;rotate_left;cases h;rename_i y os y2 os2 h1 h2;obtain⟨rfl,rfl⟩:=h;have E:aI g w (low v) val:=m.2 0 _ _ rfl rfl;have P:PW (aI g w) (bA l) vals:=⟨by have:=m.1;simpa[bA]using this,λj a b k1 k2=>m.2 (j+1) a b (by simpa[bA]using k1) (by simpa using k2)⟩
  let ⟨p,hd,hp⟩:=qE hS s t v h1
  let ⟨q1,q2⟩:=mz hs (low v) hd hp E
  let ⟨q3,q4⟩:=uE hS hs h2 P
  refine⟨λo i=>(eX.1 i).elim (q1 o) (q3 o),λq s1 f k F Q d=>?_⟩
  let ⟨B,hB,hr⟩:=q4 q s1 f k F Q (λo i=>d o (eV _ i))
  have hx:=q2 q s1 k F (Q.sub λo i=>d o (fS _ i));exact⟨B,hB,λI z=>rJ.one (al:=[]) (.dat (hx.le λb hb=>z b (.inl hb)) .nil) (hr I z)⟩
 |.one (.ptr t)::ps,v::l,val::vals,x,fz,h,m=>by
  simp[lZ]at h;split at h;rotate_left;cases h;rename_i h1 h2;obtain⟨rfl,rfl⟩:=h;have E:aI g w (low v) val:=m.2 0 _ _ rfl rfl;have P:PW (aI g w) (bA l) vals:=⟨by have:=m.1;simpa[bA]using this,λj a b k1 k2=>m.2 (j+1) a b (by simpa[bA]using k1) (by simpa using k2)⟩
  let ⟨q3,q4⟩:=uE hS hs h2 P
  unfold aev at h1;split at h1
  .split at h1;rotate_left;cases h1;rename_i hz;obtain⟨rfl,rfl⟩:=h1;obtain⟨rfl,hz⟩:=Kg hz;cases hz;cases E with
   |mc _ _ ad vv hi hc hd=>
   refine⟨λo i=>q3 o (by simpa using i),λq s1 f k F Q d=>?_⟩
   let ⟨B,hB,hr⟩:=q4 q s1 f k F Q (λo i=>d o (by simpa using i))
   exact⟨B,hB,λI z=>rJ.one (al:=[]) (.ptr (z _ (.inl (F.bx _ hi))) hc (λj c A=>(hd j c A).le λb hb=>z _ (.inl (F.bx _ hb))) .nil) (hr I z)⟩
  .rename_i o;split at h1;rotate_left;cases h1;rename_i cs i;cases E with
   |ptr _ _ b hb=>
   have ho':(aC s).ob.get o=Z (.box (bA cs)):=by rw[aJ,i];rfl
   let ⟨vs,ty,JW,hl,R⟩:=(hs.box o b hb).box ho'
   obtain⟨n,rfl⟩:∃n,t=Ty.st n:=by cases t<;>first|exact⟨_,rfl⟩|simp only[afP,reduceCtorEq]at h1
   simp only[afP]at h1;obtain⟨⟨yh,os1⟩,K⟩:∃r,Aw s (S.fs n) cs=Z r:=by
    cases K:Aw s (S.fs n) cs with
    |none=>rw[K]at h1;cases h1
    |some r=>exact⟨r,rfl⟩
   rw[K]at h1;simp only[gP,fC]at h1;obtain⟨rfl,rfl⟩:=h1
   let ⟨q1,q2⟩:=Dm hS hs K (vals:=vs.toList) ⟨by simpa using hl,λj t v h1 h2=>R j t v h1 (by simpa using h2)⟩
   refine⟨λo i=>(eX.1 i).elim (q1 o) (q3 o),λq s1 f k F Q d=>?_⟩
   let ⟨B,hB,hr⟩:=q4 q s1 f k F Q (λo i=>d o (eV _ i))
   let ⟨B',hB',hx⟩:=q2 q s1 f k F Q (λo i=>d o (fS _ i))
   refine⟨λC=>B C\/(C=b\/B' C),λC u=>u.elim (hB C) λe=>e.elim (λe=>by grind) (hB' C),λI z=>rJ.one (al:=[]) ?_ (hr I λC u=>z C (u.imp id .inl))⟩;have hx:=hx I λC u=>z C (u.imp id λh=>.inr (.inr h));have hl':enc S (.st n) (S.ET n yh)=.agg (e9 S (S.fs n) yh):=by show D.agg (S.cells n (S.ET n yh))=_;rw[hS.cells,hS.sH]
   have ag1:∀j,(⟨b,0,Y⟩:Addr).add j=⟨b,j,Y⟩:=λj=>by
    grind[Addr.add]
   have hlen:(e9 S (S.fs n) yh).length=vs.size:=by simpa using hx.1
   have:=jT.ptr (S:=S) (I:=I) (w:=w) (t:=.st n) (cs:=[]) (x:=S.ET n yh) (h:=()) (ad:=⟨b,0,Y⟩) (val:=λj=>(vs[j]?).getD undef) (vs:=[]) (al:=[]) (z _ (.inr (.inr (.inl rfl)))) (λj c A=>?_) (λj c A=>?_) .nil
   simp_all
   rw[hl']at A;have A:(e9 S (S.fs n) yh)[j]?=Z c:=A
   grind[cell?_of_block]
   rw[hl']at A;have A:(e9 S (S.fs n) yh)[j]?=Z c:=A;have hlt:j<vs.size:=by grind
   rw[uB hlt];exact hx.2 j c vs[j] A (by simp[hlt])
  cases h1
def DN(hS:fq S){P:Program}{f:FuncId}{c:lJ S}(V1:bG P f c)(hs:aY g (aC s) w){args:L (V S)}{vs:Array Value}(pY:PW (aI g w) (bA args) vs.toList)
  {ω:Type} {kp:V S->bp S->O ω} {k:V S->bp S->L Nat->O ω} {res:ω} (h:OO s c args kp k=Z res) :
  mu P f/\Calls P f vs w λ
   |.returned v,w'=>∃t s' g' A,k t s' A=Z res/\aI g' w' (low t) v/\cS A s g w s' g' w'|.panicked ch,w'=>∃v t s' g',ch=[{v,recovered:=J}]/\kp t s'=Z res/\aI g' w' (low t) v/\cS [] s g w s' g' w'|.outgrown,_=>False:=by
 unfold OO at h;obtain⟨_,h0⟩|⟨_,h0⟩:=af h
 .clear h;obtain⟨hc,h1⟩|⟨_,h1⟩:=af h0
  rotate_left;cases h1;clear h0;simp only[eW]at hc;split at h1;cases h1;rename_i x fz hpk;split at h1;cases h1;rename_i Q hfz
  let ⟨p1,p2⟩:=uE hS hs hpk pY
  let ⟨z,q,C,hfr⟩:=eF fz hs (dz hS _ hfz) p1
  let ⟨B,hB,E⟩:=p2 z (aC Q) fz q C hfr (λo u=>u)
  let ⟨r0,hF,h2⟩:=fN h1
  split at h2;rotate_left;cases h2;rename_i r hr;refine⟨V1.1,(V1.2 x r0 hF (λb=>z.bx b\/B b) w vs [] [] (E _ λ_ h=>h) (λb l=>l.elim (q.bx b) (hB b)) .nil .nil (λb l=>by cases l)).mono λe w' he=>?_⟩;rw[hr]at he;cases e with
  |outgrown=>exact he.elim|panicked ch=>exact he.elim|returned v=>
   obtain⟨I',vr,DZ,BI,q1,q2,q3,q4,q5,q6,q7,rfl,q8,q9,_⟩:=he;have JW:∀b,b<w.heap.size->w'.heap[b]?=w.heap[b]?:=λb l=>q5 b l (by simp) (by simp)
   let ⟨hs',he'⟩:=hs.grow (fl:=s.fl) (I:=g.bx) (w':=w') (λ_ h=>h) (λ_ h=>.inl h) (λb l=>iS (hs.bx b l) q4) q4 JW q6 q7
   exact⟨_,s,g,[],h2,Ae (xW hc.2.1 q9),hs',he'.ID _,rfl,rfl,eO _,λ_ h=>h,λ_ _ _=>rfl,λt v ht _=>ht.ext he' hs.bx,λo u=>(by cases u),λ_ h=>h,λo u=>(by cases u)⟩
 clear h;have h:=h0;clear h0;split at h;cases h;rename_i x fz A bs hpk;split at h;cases h;rename_i Q hfz;obtain⟨Zk,h2⟩|⟨_,h⟩:=af h
 .let ⟨p1,_,_,p3⟩:=kT hS hs hpk pY (λo u=>by cases u)
  let ⟨z,q,C,hfr⟩:=eF fz hs (dz hS _ hfz) p1
  simp only[YD,eW]at Zk
  let ⟨f1,f2,f3,f4,f5,f6,f7⟩:=eL hfz
  let ⟨al,bl,E,_,_⟩:=p3 z (aC Q) fz q C hfr (λo u=>u) (λo u=>by grind[Dw])
  obtain⟨rfl,rfl⟩:=E.asA Zk.1;clear h
  let ⟨r0,hF,h2⟩:=fN h2
  split at h2;rotate_left;cases h2;rename_i r hr;refine⟨V1.1,(V1.2 x r0 hF z.bx w vs [] [] E q.bx .nil .nil (λb l=>by cases l)).mono λe w' he=>?_⟩;rw[hr]at he;cases e with
  |outgrown=>exact he.elim|panicked ch=>exact he.elim|returned v=>
   obtain⟨I',vr,DZ,BI,q1,q2,q3,q4,q5,q6,q7,rfl,q8,q9,_⟩:=he;have JW:∀b,b<w.heap.size->w'.heap[b]?=w.heap[b]?:=λb l=>q5 b l (by simp) (by simp)
   let ⟨hs',he'⟩:=hs.grow (fl:=s.fl) (I:=g.bx) (w':=w') (λ_ h=>h) (λ_ h=>.inl h) (λb l=>iS (hs.bx b l) q4) q4 JW q6 q7
   refine⟨_,s,g,[],h2,Ae (xW Zk.2.1 q9),hs',he'.ID _,rfl,rfl,eO _,λ_ h=>h,λ_ _ _=>rfl,λt v ht _=>ht.ext he' hs.bx,λo u=>(by cases u),λ_ h=>h,λo u=>(by cases u)⟩
 obtain⟨l,h2⟩|⟨_,h2⟩:=af h
 rotate_left;cases h2;clear h;simp at l;have IS:=l6 l.1;have ard:=l6 l.2.1;have hap:=zS l.2.2;unfold ah at h2;split at h2;rotate_left;cases h2;rename_i r hF;dsimp only at h2
 let ⟨p1,p2,p4,p3⟩:=kT hS hs hpk pY (λo u=>by cases u)
 have hfl:=dz hS _ hfz
 let ⟨z,q,C,hfr⟩:=eF fz hs hfl p1
 let ⟨f1,f2,f3,f4,f5,f6,f7⟩:=eL hfz
 let ⟨al,bl,E,hal,MV⟩:=p3 z (aC Q) fz q C hfr (λo u=>u) (λo u=>by rw[aJ,aJ,f6 o (hap o u)])
 have aeQ:∀o∈bs,∃ob,Q.ob.get o=Z ob/\jV ob=W:=by
  intro o u
  let ⟨_,ob',hvs,Om⟩:=p4 o u
  have hnf:o∉fz:=λhm=>by
   have:=(p1 o hm).oC (by rw[aJ,hvs];rfl)
   grind[ot]
  simp_all
 have Zi:∀o∈bs,∀e,z.arr o e=Y:=by
  intro o u e
  let ⟨vs',hvs,Om⟩:=aeQ o u
  cases hx:z.arr o e with
  |none=>rfl|some x'=>
   exfalso
   let ⟨_,h2⟩:=q.arr o e x' hx
   exact Az Om (h2 _ (by rw[aJ,hvs];rfl))
 have hni:∀a∈al,∀b,a.at b->¬z.bx b:=E.iL;have Er:=hal.owned hni;have alq:=hal.apart q IS hni;have agS:∀b∈bl,∃o∈bs,z.bT o=Z b:=by
  intro b l;obtain⟨j,hj,rfl⟩:=rQ l;have hj':j<bs.length:=by have:=MV.1;omega
  exact⟨bs[j],NF hj',MV.2 j _ _ (iX hj') (iX hj)⟩
 have V2:∀o∈bs,∃b∈bl,z.bT o=Z b:=by
  intro o u;obtain⟨j,hj,rfl⟩:=rQ u;have hj':j<bl.length:=by have:=MV.1;omega
  exact⟨bl[j],NF hj',MV.2 j _ _ (iX hj) (iX hj')⟩
 have hOb:∀o b,z.bT o=Z b->bJ z o b:=λo b h=>⟨(q.box o b h).1,.inl h⟩;have ac9:bl.Nodup:=by
  refine Vh.2 λi j hi hj hij heq=>?_;have hlen:=MV.1;have hi':i<bs.length:=by omega
  have hj':j<bs.length:=by omega
  have e1:=MV.2 i _ _ (iX hi') (iX hi);have e2:=MV.2 j _ _ (iX hj') (iX hj);rw[<-heq]at e2;exact(Vh.1 ard i j hi' hj' hij) (q.j6 _ _ _ (hOb _ _ e1) (hOb _ _ e2))
 have agU:∀b∈bl,b<w.heap.size/\¬z.bx b/\∀a∈al,¬a.at b:=by
  intro b l
  let ⟨o,u,mR⟩:=agS b l
  refine⟨(q.box o b mR).2.1,(q.box o b mR).1,λa R zB=>?_⟩
  let ⟨o',ho',V6⟩:=Er a R b zB
  have:=q.j6 o o' b (hOb o b mR) V6;subst this
  let ⟨vs',hvs,Om⟩:=aeQ o u
  let ⟨_,_,_,oba,aq4,hB⟩:=p2 o ho'
  rw[f6 o (hap o ho')]at hvs;rw[aq4]at hvs;cases hvs;have:=u6 hB
  grind[ot]
 have core:∀(rs:L Ck)(r:gC S.A rs×iE S.A c.ps)(s2:bp S),mA (yR bs (forget A {Q with wr:=A++Q.wr,dr:=A++Q.dr})) c.ps bs r.2=Z s2->(iz s2 rs r.1).2.aE<=bM->∀(v:Value)(w':World),E9 S z.bx w c.ps rs r al bl v w'->
   ∃g',aI g' w' (low (Ej (iz s2 rs r.1).1)) v/\cS A s g w (iz s2 rs r.1).2 g' w':=by
  clear h2;intro rs r s2 hput ark v w' he;obtain⟨I',vr,DZ,BI,q1,q2,q3,q4,q5,q6,q7,rfl,q8,q9,q10,q11,q12⟩:=he
  let sF:bp S:=forget A {Q with wr:=A++Q.wr,dr:=A++Q.dr}
  let sD:bp S:=yR bs sF
  let ⟨t1,t2,t3,t5,t4⟩:=Wb A {Q with wr:=A++Q.wr,dr:=A++Q.dr}
  have agv:aY z (aC {Q with wr:=A++Q.wr,dr:=A++Q.dr}) w:=q;have hsF:aY (z.drop A) (aC sF) w:=OE A agv;have hbsn:∀o∈bs,o<Q.aE:=λo u=>by
   let ⟨b,_,l⟩:=V2 o u
   exact q.lt l
  have hnob1:Q.aE<=bM:=q.aE;have ak1:∀o,sD.ob.get o=if o∈bs then Y else sF.ob.get o:=λo=>Tr.oG bs _ o (λb l=>by grind)
  have hsD:aY (z.drop A) (aC sD) w:=by
   have hsub:∀o ob,(aC sD).ob.get o=Z ob->(aC sF).ob.get o=Z ob:=by
    grind[aJ]
   refine⟨hsF.aE,hsF.ah,λo b h=>?_,λo e x h=>?_,hsF.bx,hsF.j6⟩
   let ⟨k1,k2,k3⟩:=hsF.box o b h
   exact⟨k1,k2,λob mR=>k3 ob (hsub o ob mR)⟩
   let ⟨k1,k2⟩:=hsF.arr o e x h
   exact⟨k1,λob mR=>k2 ob (hsub o ob mR)⟩
  let X:Nat->Prop:=λb=>b∈bl\/∃a∈al,a.at b
  have Rs:∀o b,bJ (z.drop A) o b->bJ z o b:=λo b h=>Gh.zI h;have halno:∀a∈al,∀b,a.at b->∀o,¬bJ (z.drop A) o b:=by
   intro a R b l o F
   let ⟨o',ho',V6⟩:=Er a R b l
   have:=q.j6 o o' b (Rs o b F) V6;subst this;obtain⟨_,h|⟨e,x',ad,h,_⟩⟩:=F;have h:z.bT o=Z b:=h
   let ⟨_,_,_,oba,mR,hB⟩:=p2 o ho'
   have hnb:=q.AG (o:=o) (ob:=de oba) ((aJ Q o).trans (by simp_all)) (u6 hB)
   simp_all
   exact(Gh.Hs h).1 ho'
  have hstep:aY {z.drop A with bx:=I'} (aC sD) w':=by
   refine hsD.step (X:=X) q1 (λb l=>?_) q3 q4 (λb l hX=>q5 b l (λh=>hX (.inl h)) (λa R h=>hX (.inr ⟨a,R,h⟩))) (λo b hX F=>?_) (λb hX=>?_);obtain h|h|h:=q2 b l
   exact .inl h;omega
   grind
   obtain hX|⟨a,R,K⟩:=hX
   let ⟨o',ho',aq5⟩:=agS b hX
   have:=q.j6 o o' b (Rs o b F) (hOb _ _ aq5)
   simp_all[aJ]
   grind
   obtain hX|⟨a,R,K⟩:=hX
   exact(agU b hX).2.1;exact hni a R b K
  have aeK:∀o b,bJ ({z.drop A with bx:=I'}:Gh) o b->bJ (z.drop A) o b:=λo b h=>⟨λhi=>h.1 (q1 b hi),h.2⟩;have hfresh:∀a∈DZ++BI,∀b,a.at b->∀o,¬bJ ({z.drop A with bx:=I'}:Gh) o b:=by
   intro a R b l o F;have F:=aeK o b F;obtain⟨a',ha',hb'⟩|hge:=q11 a R b l
   grind
   have:=(hsD.rW F).1;omega
  have alp:=uz.1 q10;have hs3n:s2.aE<=(iz s2 rs r.1).2.aE:=oh _ _ _
  let ⟨g4,hp⟩:=NU (g:={z.drop A with bx:=I'}) (s:=sD) q8 hstep MV (λo u e=>by
    show(if o∈A then Y else z.arr o e)=Y
    simp_all) (λa R=>hfresh a (fS _ R)) alp.1 hput (by omega)
  obtain⟨g5,hu,aqW⟩:=nG (g:=g4) (by rw[hp.bx];exact q9) hp.rel (λa R b l o F=>by
    obtain F|⟨_,a2,ha2,pZ⟩:=hp.own o b F
    grind
    grind) alp.2.1 ark
  have hle:nk ({z.drop A with bx:=I'}:Gh) g5:=hp.le.trans hu.le;have aeO:g5.bx=I':=hu.bx.trans hp.bx;have hnobD:sD.aE=Q.aE:=t3;have aq8:Q.aE<=(iz s2 rs r.1).2.aE:=by have:=hp.aE;omega
  have hown5:∀k b,bJ g5 k b->bJ g k b\/(s.fl<=k/\∃o',s.fl<=o'/\bJ g o' b)\/w.heap.size<=b:=by
   intro k b F;have hnewk:∀a∈DZ++BI,a.at b->Q.aE<=k->bJ g k b\/(s.fl<=k/\∃o',s.fl<=o'/\bJ g o' b)\/w.heap.size<=b:=by
    intro a R K hk';obtain⟨a',ha',hb'⟩|hge:=q11 a R b K
    let ⟨o',ho',V6⟩:=Er a' ha' b hb'
    obtain V6|hge:=C.own o' b V6
    grind
    omega;omega
   obtain F|⟨h1,a,R,K⟩:=hu.own k b F
   obtain F|⟨h1,a,R,K⟩:=hp.own k b F
   obtain F|hge:=C.own k b (Rs k b (aeK k b F))
   exact .inl F;omega
   grind
   have:=hp.aE
   grind
  refine⟨g5,Ae aqW,hu.rel,⟨λo b l=>?_,λo e y hl hy=>?_,λb l=>?_,q4,λb l hno=>?_,λo b u F=>?_,λb l=>?_,q6,q7⟩,?_,?_,?_,λo u=>?_,λo hl u=>?_,λt v ht hm=>?_,λo u=>?_,λo u=>?_,λo u=>?_⟩;rw[hu.bT,hp.bT];exact C.bT o b l;have hno:o∉A:=λhm=>by grind
  have h1:({z.drop A with bx:=I'}:Gh).arr o e=Z y:=by show(if o∈A then Y else z.arr o e)=Z y;rw[bQ hno];exact C.arr o e y hy
  exact hle.arr o e y h1;rw[aeO];exact q1 b (C.bx b l);refine q5 b l (λhm=>?_) (λa R K=>?_)
  let ⟨o,u,mR⟩:=agS b hm
  obtain F|hge:=C.own o b (hOb o b mR)
  simp_all
  omega
  let ⟨o,u,F⟩:=Er a R b K
  obtain F|hge:=C.own o b F
  simp_all
  omega
  grind
  rw[aeO]at l;obtain h|h|⟨a,R,K⟩:=q2 b l
  exact C.oD b h;omega
  let ⟨o,u,F⟩:=Er a R b K
  obtain F|hge:=C.own o b F
  grind
  omega;exact hu.fl.trans (hp.fl.trans (t1.trans f1));exact hu.lo.trans (hp.lo.trans (t2.trans f2));omega;rw[hu.wr];exact hp.uk o (t4 o (eV _ (f4 o u)));rw[hu.wr]at u;have h1:o∉bs:=λhm=>u (hp.wrb o hm);have h2:o∉sF.wr:=λhm=>u (hp.uk o hm);have h3:o∉Q.wr:=λhm=>h2 (t4 o (eV _ hm));rw[hu.ob o (by have:=hp.aE;omega),hp.ob o (by omega) h1,ak1,bQ h1,OD _ _ _ h2];exact f5 o h3;have h1:=ht.ext C hs.bx;have h2:=h1.drop hm;have hkp:j4 (z.drop A).bx w w':=λb l=>q5 b (q.bx b l) (λhmm=>(agU b hmm).2.1 l) (λa R K=>hni a R b K l);have h3:aI ({z.drop A with bx:=I'}:Gh) w' t v:=by
   clear hm h1 ht
   induction h2 with|sym d v hd=>exact .sym d v (hd.mono hkp q1)|kb b=>exact .kb b|kn k n=>exact .kn k n|ptr o off b l=>exact .ptr o off b l|mc d off ad val VW hc hd=>exact .mc d off ad val (q1 _ VW) (λj c hj=>by rw[hkp.cell (by rw[lg];exact VW)];grind) (λj c hj=>(hd j c hj).mono hkp q1)|l9 o e i off len cap sz ad hx=>exact .l9 o e i off len cap sz ad hx|sh o e len cap sz a hx=>exact .sh o e len cap sz a hx|emp a=>exact .emp a|kM n es a hn hd=>exact .kM n es a hn (hd.mono hkp q1)|fn f fs cs va vc hl hm _ _ ih ih'=>exact .fn f fs cs va vc hl hm ih ih'|dj t x v _ ih=>exact .dj t x v ih|agg cs vs hl _ ih=>exact .agg cs vs hl ih|gR cs vs hl _ ih=>exact .gR cs vs hl ih|gd c t v _ ih=>exact .gd c t v ih|mp o b l=>exact .mp o b l|rP o b l=>exact .rP o b l|uo o b l=>exact .uo o b l|ub e b h=>exact .ub e b h|sC o m r i len cap sz a hx=>exact .sC o m r i len cap sz a hx|qd j d c a hj hd=>exact .qd j d c a hj (hd.mono hkp q1)
  exact h3.le hle;rw[hu.wr];exact hp.uk o (t4 o (fS _ u));rw[hu.dr,hp.dr];show o∈sF.dr
  grind
  rw[hu.dr,hp.dr];show o∈sF.dr
  grind
 refine⟨V1.1,(V1.2 x r hF z.bx w vs al bl E q.bx alq ac9 agU).mono λe w' he=>?_⟩;cases e with
 |outgrown=>exact he.elim|returned v=>
  simp[yc]at he;split at he;rotate_left;exact he.elim;rename_i hr';rw[hr']at h2;dsimp only at h2;split at h2;cases h2;rename_i s2 hput;obtain⟨hlt,hk⟩|⟨_,hk⟩:=af h2
  rotate_left;cases hk
  grind[Nat.le_of_ble_eq_true]
 |panicked ch=>
  simp[yc]at he;split at he;exact he.elim;rename_i p hp;obtain⟨v,rfl,he⟩:=he;rw[hp]at h2;dsimp only at h2;split at h2;cases h2;rename_i s2 hput;split at h2;rotate_left;cases h2;obtain⟨hlt,hk⟩|⟨_,hk⟩:=af h2
  rotate_left;cases hk
  let ⟨g5,k1,k2⟩:=core [.dat S.pt] ((p.1,()),p.2) s2 hput (gS hlt) v w' he
  exact⟨v,_,_,g5,rfl,hk,k1,k2⟩
end
section
structure rK(s s':bp S):Prop where
 uk:∀o∈s.wr,o∈s'.wr
 same:∀o,o<s.aE->o∉s'.wr->s'.ob.get o=s.ob.get o
 dr:s'.dr=s.dr
theorem rK.refl(s:bp S):rK s s:=⟨λ_ h=>h,λ_ _ _=>rfl,rfl⟩
variable {s s':bp S}{v:V S}{c:Bool}{E:gi}
def cS.lz{g g':Gh}{w w':World}(hs:aY g (aC s) w)(h1:aY g' (aC s') w')(h2:Ext s.fl g w g' w')(h3:s'.fl=s.fl)(h4:s'.lo=s.lo)(h5:s.aE<=s'.aE)(h6:rK s s'):cS [] s g w s' g' w':=
 ⟨h1,h2.ID _,h3,h4,h5,h6.uk,h6.same,λ_ _ b _=>b.ext h2 hs.bx,λo a=>(by cases a),λo a=>h6.dr▸a,λo a=>(by cases a)⟩
theorem cS.refl{g:Gh}{w:World}{s:bp S}(hs:aY g (aC s) w):cS [] s g w s g w:=
 cS.lz hs hs (Ext.refl _ _ _) rfl rfl (eO _) (rK.refl _)
def jy(s:bp S)(ob:vo S)(hn:s.aE<bM):rK s (dn s ob):=
 ⟨λ_ h=>h,λo a _=>by simp[dn];rw[Tr.aV _ _ _ _ hn,bQ (by omega)],rfl⟩
def mI{os:L Nat}(h:dV s os=Z s'):rK s s':=by
 let ⟨_,_,_,h1,h2,_,h3⟩:=eL h
 exact⟨h1,λo _ a=>h2 o a,h3⟩
def pL(s:bp S)(o:Nat)(ob:vo S):rK s {s with ob:=s.ob.set aM o ob,wr:=o::s.wr}:=
 ⟨λ_ h=>hJ _ h,λk _ a=>Tr.dD _ _ _ _ _ (λe=>a (by simp_all)),rfl⟩
def rK.trans'{a:bp S}(h:rK s s')(hn:s.aE<=s'.aE)(k:rK s' a):rK s a:=
 ⟨λo c=>k.uk o (h.uk o c),λo c b=>(k.same o (iS c hn) b).trans (h.same o c (λd=>b (k.uk o d))),k.dr.trans h.dr⟩
theorem Qw{i:TI}{s s':bp S}{a x v:V S}{c:Bool}(h:Fm i s a x=Z (c,v,s')):rK s s':=by
 unfold Fm at h;split at h;cases h;split at h;split at h;obtain⟨_,h⟩|⟨_,h⟩:=af h
 obtain⟨_,_,rfl⟩:=h;exact pL _ _ _;cases h;cases h;split at h;split at h;split at h;rename_i b;split at h;split at h;obtain⟨_,h⟩|⟨_,h⟩:=af h
 obtain⟨_,_,rfl⟩:=h;exact(mI b).trans' (Dq (eL b).2.2.1.symm) (pL _ _ _);cases h;cases h;cases h;cases h;cases h;cases h;cases h
def Fs{i:TI}{τ:O Ty}{x:V S}{l h m:O (V S)}(a:wg i τ s x l h m=Z (c,v,s')):s'=s\/dV s (NZ x)=Z s':=by
 unfold wg at a
 repeat' split at a
 all_goals first
  |(cases a;done)
  |(
    simp only[gP,fC]at a;obtain⟨_,_,rfl⟩:=a;first|exact .inl rfl|(right;assumption))
def Yg{fr:ck S}{o:Op}(h:cM E fr s o=Z (c,v,s')):rK s s':=by
 have same:s'=s->rK s s':=λe=>e▸rK.refl _;cases o with
 |alloc t=>
  simp[cM]at h;split at h;obtain⟨g,h⟩|⟨_,h⟩:=af h
  obtain⟨_,_,rfl⟩:=h
  simp_all[jy]
  cases h;cases h
 |box t x=>
  simp[cM]at h;split at h;obtain⟨g,h⟩|⟨_,h⟩:=af h
  simp only[fT,fC]at h;obtain⟨_,_,_,_,rfl⟩:=h
  simp_all[jy]
  cases h;cases h
 |buildSlice t n i=>
  simp only[cM]at h;split at h;split at h;obtain⟨_,h⟩|⟨_,h⟩:=af h
  split at h;simp only[fT,fC]at h;obtain⟨j,d,_,_,rfl⟩:=h;exact mI d;cases h;cases h;cases h;cases h
 |store t x y=>
  grind[cM,Qw]
 |slice t x lo l m=>
  simp[cM]at h;split at h;obtain rfl|h:=Fs h
  grind
  exact mI h;cases h
 |move x=>simp only[cM,fT,fC]at h;grind|assign x=>simp only[cM,fT,fC]at h;grind|pick x y z=>
  simp[cM]at h;split at h;simp only[fT,fC]at h
  grind
  cases h
 |build t i=>
  simp[cM]at h;split at h;split at h;simp only[fT,fC]at h
  grind
  cases h;cases h
 |load t x=>
  simp[cM]at h;split at h;unfold yN at h;split at h;split at h;obtain⟨_,h⟩|⟨_,h⟩:=af h
  simp only[fT,fC]at h
  grind
  cases h;cases h;simp only[fT,fC]at h
  grind
  split at h;simp at h
  grind
  cases h;cases h;cases h
 |nilCheck x=>
  simp[cM]at h
  grind
 |binOp op t x y u=>
  simp[cM]at h;split at h;simp only[fT,fC]at h
  grind
  cases h
 |unOp op t x=>
  simp[cM]at h;split at h;simp only[fT,fC]at h
  grind
  cases h
 |convert t u x=>
  grind[cM,CC]
 |makeInterface t x=>
  simp[cM]at h
  grind
 |makeFunc f a b=>
  simp[cM]at h
  grind
 |extract x k=>
  grind[cM,uR]
 |fieldAddr t x k=>
  grind[cM,ru]
 |field t x k=>
  simp[cM]at h;split at h;unfold Cr at h;split at h;split at h;obtain⟨_,h⟩|⟨_,h⟩:=af h
  simp only[fT,fC]at h
  grind
  cases h;cases h;cases h;cases h
 |indexAddr t x y=>
  simp[cM]at h;split at h;unfold kC at h;split at h
  grind
  have:=DW h
  grind
  cases h;cases h
 |index t x y=>
  simp[cM]at h;split at h;unfold Ci at h
  grind
  cases h
 |typeAssert x t u ok=>
  grind[cM,xb]
 |_=>simp[cM]at h
def I1{b:Builtin}{d:Array TypeId}{args:L (V S)}(h:iy E s b d args=Z (c,v,s')):rK s s':=by
 unfold iy at h;split at h;split at h;split at h;obtain⟨_,_,rfl⟩:=h;exact rK.refl _;cases h;split at h;simp only[fT,fC]at h;obtain⟨_,_,_,_,rfl⟩:=h;exact rK.refl _;cases h;cases h;split at h;split at h;split at h;obtain⟨_,h⟩|⟨e,h⟩:=af h
 cases h;have a:s.aE<bM:=by
  have:Nt s.aE bM=W:=by simpa using e
  exact gS this
 split at h;split at h;obtain⟨_,_,rfl⟩:=h;exact jy _ _ a;split at h;split at h;obtain⟨_,_,rfl⟩:=h;exact jy _ _ a;obtain⟨_,_,rfl⟩:=h;exact rK.refl _;cases h;split at h;split at h;obtain⟨_,h⟩|⟨_,h⟩:=af h
 obtain⟨_,_,rfl⟩:=h;exact pL _ _ _;cases h;cases h;cases h;cases h;cases h;cases h;cases h;cases h;cases h
end
section
section
variable {g:Gh}{w w':World}
variable {s:St}{o b c:Nat}{ob:Ob}{kt:Ty}{u z:Value}{ms:Array MapEntry}
def aY.setObj(hs:aY g s w)(n:g.bT o=Z b){ob':Ob}(l:s.ob.get o=Z ob)(p:ob.odd=W)(v:s.fl<=o){x':Obj}(C:gX g w ob' x')
  (y:w'.heap.size=w.heap.size) (c:∀d,d≠b->w'.heap[d]?=w.heap[d]?) (q:w'.heap[b]?=Z x') (z:w'.os=w.os) (r:w'.output=w.output) :
  aY g {s with ob:=s.ob.set aM o ob'} w'/\Ext s.fl g w g w':=by
 have f:bJ g o b:=⟨(hs.box o b n).1,.inl n⟩;have m:o<bM:=iS (hs.lt n) hs.aE;have u:Ext s.fl g w g w':=
  ⟨λ_ _ h=>h,λ_ _ _ h=>h,λ_ h=>h,by omega,λd _ E=>c d (λe=>E o v (e▸f)),λ_ _ h=>.inl h,λ_ h=>.inl h,z,r⟩
 refine⟨⟨hs.aE,hs.ah,λj d a=>?_,λj e x A=>?_,λd a=>by have:=hs.bx d a;omega,hs.j6⟩,u⟩;by_cases i:j=o;subst i;rw[n]at a;simp at a;subst a
 let ⟨h1,h2,_⟩:=hs.box j b n
 refine⟨h1,by omega,λF k=>⟨x',q,?_⟩⟩;rw[Tr.aV _ _ _ _ m,bD rfl]at k;obtain rfl:=j8 k;exact C.ext u hs.bx;have B:d≠b:=λe=>i (hs.j6 j o b (e▸⟨(hs.box j d a).1,.inl a⟩) f);exact(hs.box j d a).ext u hs.bx (c d B) (by simp;rw[Tr.aV _ _ _ _ m,bQ i]) (hs.box j d a).1
 .have i:j≠o:=by
   rintro rfl
   have h4:=((hs.arr j e x A).2 _ l).oC;cases ob<;>first|(cases p;done)|(cases h4;done)
  refine(hs.arr j e x A).ext u hs.bx (λd a I=>⟨c d ?_,vS⟩) (by simp;rw[Tr.aV _ _ _ _ m,bQ i]) rfl
  rintro rfl
  by_cases t:g.bx d;exact f.1 t;exact i (hs.j6 j o d ⟨t,.inr ⟨e,x,_,A,a,rfl,I⟩⟩ f)
def aY.an6(hs:aY g s w)(m:g.bT o=Z b)(l:s.ob.get o=Z ob)(n:ob.odd=W)(r:s.fl<=o)
  (t:w'.heap.size=w.heap.size) (c:∀d,d≠b->w'.heap[d]?=w.heap[d]?) (u:w'.os=w.os) (p:w'.output=w.output) :
  aY g {s with ob:=s.ob.del aM o} w'/\Ext s.fl g w g w':=by
 have f:bJ g o b:=⟨(hs.box o b m).1,.inl m⟩;have B:o<bM:=iS (hs.lt m) hs.aE;have ek:∀k,(s.ob.del aM o).get k=if k=o then Y else s.ob.get k:=λk=>Tr.r6 _ _ _ _ (by grind[aM,bM])
 have v:Ext s.fl g w g w':=
  ⟨λ_ _ h=>h,λ_ _ _ h=>h,λ_ h=>h,by omega,λd _ C=>c d (λe=>C o r (e▸f)),λ_ _ h=>.inl h,λ_ h=>.inl h,u,p⟩
 refine⟨⟨hs.aE,hs.ah,λj d a=>?_,λj e x y=>?_,λd a=>by have:=hs.bx d a;omega,hs.j6⟩,v⟩;by_cases i:j=o;subst i;rw[m]at a;simp at a;subst a
 let ⟨h1,h2,_⟩:=hs.box j b m
 refine⟨h1,by omega,λE A=>?_⟩
 simp_all
 have z:d≠b:=λe=>i (hs.j6 j o b (e▸⟨(hs.box j d a).1,.inl a⟩) f);exact(hs.box j d a).ext v hs.bx (c d z) (by simp;rw[ek,bQ i]) (hs.box j d a).1
 .have i:j≠o:=by
   rintro rfl
   have h4:=((hs.arr j e x y).2 _ l).oC;cases ob<;>first|(cases n;done)|(cases h4;done)
  refine(hs.arr j e x y).ext v hs.bx (λd a F=>⟨c d ?_,vS⟩) (by simp;rw[ek,bQ i]) rfl
  rintro rfl
  by_cases q:g.bx d;exact f.1 q;exact i (hs.j6 j o d ⟨q,.inr ⟨e,x,_,y,a,rfl,F⟩⟩ f)
def fj:(kt:Ty)->den S.A kt->Value
 |.int k,n=>.int k n|.bool,b=>.bool b|.str,s=>.string (cq s)|_,_=>undef
def iB:Ty->TypeDesc->Prop
 |.int k,d=>d=.int k|.bool,d=>d=.bool|.str,d=>d=.string|_,_=>False
def rf{v:V S}{k:den S.A kt}(h:VL kt v=Z k)(c:aI g w (low v) u):u=fj kt k:=by
 cases kt with
 |int j=>
  let ⟨p,b,a⟩:=gx (show g8 j v=Z k from h)
  exact dU b a c
 |bool=>
  let ⟨p,b,a⟩:=mK (show iD v=Z k from h)
  exact jv b a c
 |str=>
  let ⟨p,b,a⟩:=lO (show we v=Z k from h)
  exact iK b a c
 |_=>cases h
def TS{k:den S.A kt}{d:TypeDesc}(a:iB kt d)(b:aI g w (ef S kt k) u):u=fj kt k:=by
 cases kt with
 |int j=>cases b with|sym _ _ a=>cases a;rfl
 |bool=>cases b with|sym _ _ a=>cases a;rfl
 |str=>cases b with|sym _ _ a=>cases a;rfl
 |_=>cases a
def acy{k:den S.A kt}{d:TypeDesc}(a:iB kt d):aI g w (ef S kt k) (fj kt k):=by cases kt with|int j=>exact .sym _ _ (.lit _)|bool=>exact .sym _ _ (.lit _)|str=>exact .sym _ _ (.lit _)|_=>cases a
def Nk{d:TypeDesc}(c:iB kt d)(a b:den S.A kt):Instr.sameNow d (fj kt a) (fj kt b)=Z (GB kt a b):=by
 cases kt with
 |int j=>cases c;simp[Instr.sameNow,fj,GB,aa]
 |bool=>cases c;rfl
 |str=>
  cases c;have:=BR a b
  grind[UE,Instr.sameNow,fj,GB]
 |_=>cases c
theorem KV{kt:Ty}{d:TypeDesc}(c:iB kt d){a b:den S.A kt}(h:GB kt a b=W)(n:Nat):Instr.sameBits n (fj kt b) (fj kt a)=W:=by
 cases kt with
 |int j=>
  have:a=b:=by simpa[GB,aa]using h
  subst this;cases n<;>simp[Instr.sameBits,fj]
 |bool=>
  have:a=b:=by simpa[GB,pJ]using h
  subst this;cases n<;>simp[Instr.sameBits,fj]
 |str=>
  have:a=b:=by simpa[GB,gw]using h
  subst this;have e:(cq a==cq a)=W:=by
   have:=BR a a
   grind[UE,gw]
  cases n<;>simp[Instr.sameBits,fj,e]
 |_=>cases c
def DF{A:Nat->Type}{β:Type}(kt:Ty)(k:den A kt):L (den A kt×β)->O Nat
 |[]=>Y|p::l=>bif GB kt k p.1 then Z 0 else(DF kt k l).map Ns
def GG{β:Type}{kt:Ty}{k:den S.A kt}:∀{l:L (den S.A kt×β)},DF kt k l=Y->(∀z,EV kt z k l=z)/\GO kt k l=J/\∀x,iV kt k x l=l++[(k,x)]
 |[],_=>⟨λ_=>rfl,rfl,λ_=>rfl⟩|p::l,h=>by
  simp[DF]at h;cases a:GB kt k p.1 with
  |true=>simp_all|false=>
   rw[a]at h;obtain⟨h1,h2,h3⟩:=GG (l:=l) (by simpa using h)
   grind[EV,GO,iV]
def wE{β:Type}{kt:Ty}{k:den S.A kt}:∀{l:L (den S.A kt×β)}{j:Nat},DF kt k l=Z j->∃p,l[j]?=Z p/\GB kt k p.1=W/\(∀z,EV kt z k l=p.2)/\GO kt k l=W/\∀x,iV kt k x l=l.set j (k,x)
 |[],j,h=>by cases h
 |p::l,j,h=>by
  simp[DF]at h;cases a:GB kt k p.1 with
  |true=>rw[a]at h;simp at h;subst h;exact⟨p,rfl,a,λz=>by simp[EV,a],by simp[GO,a],λx=>by simp[iV,a]⟩
  |false=>
   rw[a]at h;simp only[j7,fT]at h;obtain⟨i,b,rfl⟩:=h
   let ⟨q,h1,h2,h3,h4,h5⟩:=wE b
   exact⟨q,by simpa using h1,h2,λz=>by simp[EV,a,h3],by simp[GO,h4],λx=>by simp[iV,a,h5]⟩
def Uc{β:Type}{kt:Ty}{k:den S.A kt}:∀{l:L (den S.A kt×β)},LW kt k l=match DF kt k l with|some j=>l.eraseIdx j|none=>l
 |[]=>rfl|p::l=>by simp only[LW,DF];cases a:GB kt k p.1 with|true=>rfl|false=>simp only[j7,Uc (l:=l)];cases DF kt k l<;>rfl
def yO{β:Type}{kt:Ty}{d:TypeDesc}(b:iB kt d)(k:den S.A kt):∀(l:L (den S.A kt×β))(es:L MapEntry)(i:Nat),es.length=l.length->
  (∀(j:Nat)p m,l[j]?=Z p->es[j]?=Z m->m.key=fj kt p.1)->Instr.findNow d (fj kt k) es i=Z ((DF kt k l).bind λj=>(es[j]?).map λm=>(i+j,m.val))
 |[],[],i,_,_=>rfl|p::l,m::es,i,a,c=>by
  simp[Instr.findNow,c 0 p m rfl rfl,Nk b];cases e:GB kt k p.1 with
  |true=>simp[DF,e]|false=>
   rw[yO b k l es (i+1) (by simpa using a) (λj f g h1 h2=>c (j+1) f g (by simpa using h1) (by simpa using h2))];simp only[DF,e,j7];cases DF kt k l with
   |none=>rfl|some j=>
    simp
    congr 1
    funext m
    rw[Nat.add_assoc,Nat.add_comm 1 j]
 |[],_::_,_,a,_=>by simp at a
 |_::_,[],_,a,_=>by simp at a
variable {P:Program}
def IJ{d:TypeDesc}(a:iB kt d){t:TypeId}(c:P.underlying t=Z d)(b:Bool)(n:Nat)(v:Value)(w:World):(Instr.checkKey b (n+1) t v).run P w=.ok () w:=by
 cases kt with
 |int j=>cases a;simp_all[Instr.checkKey,aL]
 |bool=>cases a;simp_all[Instr.checkKey,aL]
 |str=>cases a;simp_all[Instr.checkKey,aL]
 |_=>cases a
def run_checkKey{d:TypeDesc}(a:iB kt d){t:TypeId}(c:P.underlying t=Z d)(b:Bool)(v:Value)(w:World):(Instr.checkKey b 10000 t v).run P w=.ok () w:=
 IJ a c b 9999 v w
def run_findKey{β:Type}{d:TypeDesc}(a:iB kt d){t:TypeId}(c:P.underlying t=Z d)(k:den S.A kt){l:L (den S.A kt×β)}{es:L MapEntry}(hl:es.length=l.length)
  (b:∀(j:Nat)p m,l[j]?=Z p->es[j]?=Z m->m.key=fj kt p.1) (w:World) :
  (Instr.findKey t (fj kt k) es).run P w=.ok ((DF kt k l).bind λj=>(es[j]?).map λm=>(j,m.val)) w:=by
 have:=yO a k l es 0 hl b
 simp_all[Instr.findKey,aL]
def nJ(h:w.heap[b]?=Z (.map ms c)):(getObj b).run P w=.ok (.map ms c) w:=by simp[getObj,Sem.run,h]
def uw(o:Obj)(h:w.heap[b]?=Z (.map ms c)):(setObj b o).run P w=.ok () {w with heap:=w.heap.setIfInBounds b o}:=by simp[setObj,Sem.run,h]
def ze{β:Type}{d:TypeDesc}(f:iB kt d){t a e:TypeId}{g:TypeInfo}(q:P.underlying t=Z (.map a e))(i:P.underlying a=Z d)(hi:P.info? e=Z g)(n:g.zero=Z z)
  (k:den S.A kt) {l:L (den S.A kt×β)} {b c:Nat} {ms:Array MapEntry} (h:w.heap[b]?=Z (.map ms c)) (hl:l.length=ms.size) (r:∀(j:Nat)p m,l[j]?=Z p->ms[j]?=Z m->m.key=fj kt p.1) (ok:Bool) :
  (Instr.lookup t (.map (Z b)) (fj kt k) ok).run P w=.ok (match(DF kt k l).bind λj=>(ms[j]?).map (·.val)with
   |some v=>if ok then .tuple #[v,.bool W]else v|none=>if ok then .tuple #[z,.bool J]else z) w:=by
 have s:=run_findKey (P:=P) f i k (l:=l) (es:=ms.toList) (by grind) (λj p m h1 h2=>r j p m h1 (by simpa using h2)) w;simp only[Instr.lookup,run_bind,aL q,andThen_ok,nJ h,run_checkKey f i,s,run_pure];cases u:DF kt k l with
 |none=>simp[er hi n]|some j=>
  cases o:ms[j]? with|none=>simp[o,er hi n]|some m=>simp[o]
def FE{d:TypeDesc}(b:iB kt d){t a e:TypeId}{c:TypeInfo}(g:P.underlying t=Z (.map a e))(f:P.underlying a=Z d)(hi:P.info? e=Z c)(h:c.zero=Z z)
  (k:den S.A kt) (ok:Bool):(Instr.lookup t (.map Y) (fj kt k) ok).run P w=.ok (if ok then .tuple #[z,.bool J]else z) w:=by
 have i:=run_findKey (P:=P) (β:=U) b f k (l:=[]) (es:=[]) rfl (λj p m h1=>by simp at h1) w;simp only[Instr.lookup,run_bind,aL g,andThen_ok,run_checkKey b f,run_pure]
 simp_all[er]
end
end
section
section
variable {g:Gh}{w w':World}{P:Program}
def EC{β:Type}(kt:Ty)(R:β->Value->Prop)(l:L (den S.A kt×β))(ms:Array MapEntry):Prop:=
 l.length=ms.size/\∀(j:Nat)p m,l[j]?=Z p->ms[j]?=Z m->m.key=fj kt p.1/\R p.2 m.val
variable {kt kt':Ty}{ms:Array MapEntry}
def yG{β:Type}{R:β->Value->Prop}{d:TypeDesc}(r:iB kt d){t a e:TypeId}(z:P.underlying t=Z (.map a e))(s:P.underlying a=Z d)
  (k:den S.A kt) {l:L (den S.A kt×β)} {b c:Nat} {ms:Array MapEntry} (h:w.heap[b]?=Z (.map ms c)) (C:EC kt R l ms) {x:β} {v:Value} (hx:R x v) :
  ∃g E,(Instr.mapUpdate t (.map (Z b)) (fj kt k) v).run P w=.ok () {w with heap:=w.heap.setIfInBounds b (.map g E)}/\EC kt R (iV kt k x l) g:=by
 let ⟨hl,F⟩:=C
 have A:=run_findKey (P:=P) r s k (l:=l) (es:=ms.toList) (by grind) (λj p m h1 h2=>(F j p m h1 (by simpa using h2)).1) w;cases f:DF kt k l with
 |none=>
  let ⟨_,_,o⟩:=GG f
  rw[f]at A;refine⟨ms.push {key:=fj kt k,val:=v,born:=c},c+1,?_,by simp_all,λj p m h1 h2=>?_⟩;simp[Instr.mapUpdate,run_bind,aL z,andThen_ok,nJ h,run_checkKey r s,A,Option.bind_none,uw _ h]
  grind
 |some i=>
  let ⟨p,hp,I,_,_,o⟩:=wE f
  have K:i<ms.size:=by grind
  obtain⟨m,Q⟩:∃m,ms[i]?=Z m:=⟨ms[i],uB K⟩;have u:(Instr.findKey a (fj kt k) ms.toList).run P w=.ok (Z (i,m.val)) w:=by
   simp_all
  refine⟨ms.modify i λe=>{e with key:=fj kt k,val:=v},c,?_,by simp_all,λj q n h1 h2=>?_⟩;have hsb:Instr.sameBits 10000 m.key (fj kt k)=W:=by grind[KV]
  have y:(Instr.keyThatStays m.key (fj kt k)).run P w=.ok (fj kt k) w:=by
   simp_all[Instr.keyThatStays]
  simp[Instr.mapUpdate,run_bind,aL z,andThen_ok,nJ h,run_checkKey r s,u,Q,jI,NB,y,uw _ h]
  grind
def QF{β:Type}{R:β->Value->Prop}{d:TypeDesc}(u:iB kt d){t a e:TypeId}(y:P.underlying t=Z (.map a e))(v:P.underlying a=Z d)
  (k:den S.A kt) {l:L (den S.A kt×β)} {b c:Nat} {ms:Array MapEntry} (h:w.heap[b]?=Z (.map ms c)) (C:EC kt R l ms) {ts:Array TypeId} (f:ts[0]?=Z t) {ty:TypeId} {args:Array Value} (g:args[0]?=Z (.map (Z b))) (o:args[1]?=Z (fj kt k)) :
  ∃r,(Builtin.delete_ ts ty args).run P w=.ok (.tuple #[]) {w with heap:=w.heap.setIfInBounds b (.map r c)}/\EC kt R (LW kt k l) r:=by
 let ⟨E,z⟩:=C
 have A:=run_findKey (P:=P) u v k (l:=l) (es:=ms.toList) (by grind) (λj p m h1 h2=>(z j p m h1 (by simpa using h2)).1) w;rw[Uc];cases s:DF kt k l with
 |none=>rw[s]at A;refine⟨ms,?_,E,z⟩;simp[Builtin.delete_,run_bind,f,g,o,aL y,andThen_ok,nJ h,run_checkKey u v,A,Option.bind_none,uw _ h,run_pure]|some i=>
  let ⟨p,F,_⟩:=wE s
  have B:i<ms.size:=by grind
  have x:(Instr.findKey a (fj kt k) ms.toList).run P w=.ok (Z (i,ms[i].val)) w:=by
   simp_all
  refine⟨ms.eraseIdxIfInBounds i,?_,?_,λj q n h1 h2=>?_⟩;simp[Builtin.delete_,run_bind,f,g,o,aL y,andThen_ok,nJ h,run_checkKey u v,x,uw _ h,run_pure];simp only[Array.eraseIdxIfInBounds,B,dite_true,Array.size_eraseIdx,List.length_eraseIdx]
  grind
  simp only[Array.eraseIdxIfInBounds,B,dite_true,Array.getElem?_eraseIdx,List.getElem?_eraseIdx]at h1 h2
  grind
def gX.M9{β:Type}{d:TypeDesc}(a:iB kt d){f:β->T}{l:L (den S.A kt×β)}{x:Obj}(h:gX g w (.map (l.map λp=>(ef S kt p.1,f p.2))) x) :
  ∃ms c,x=.map ms c/\EC kt (λy v=>aI g w (f y) v) l ms:=by
 cases h with|map _ ms c b e=>refine⟨ms,c,rfl,by simpa using b,λj p m h1 h2=>?_⟩;have:=e j (ef S kt p.1,f p.2) m (by simp[h1]) h2;exact⟨TS a this.1,this.2⟩
def EC.ob{β:Type}{d:TypeDesc}(a:iB kt d){f:β->T}{l:L (den S.A kt×β)}(h:EC kt (λy v=>aI g w (f y) v) l ms)(c:Nat):gX g w (.map (l.map λp=>(ef S kt p.1,f p.2))) (.map ms c):=by
 refine .map _ ms c (by simpa using h.1) λj t m h1 h2=>?_;simp only[lE,fT]at h1;obtain⟨p,b,rfl⟩:=h1
 let ⟨h3,h4⟩:=h.2 j p m b h2
 rw[h3];exact⟨acy a,h4⟩
def Sk(S:Sg)(i:TI)(τ:Ty):Prop:=bif kV τ then D.agg i.zero=enc S τ (S.zero τ)else i.zero=[enc S τ (S.zero τ)]
def Je{I:Nat->Prop}(q:fq S){t:TypeId}{i:TI}(hi:nu P t i){τ:Ty}(r:yY S i τ)(d:Sk S i τ){x:TypeInfo}{z:Value}(s:P.info? t=Z x)(f:x.zero=Z z):dJ I w (enc S τ (S.zero τ)) z:=by
 let ⟨A,d0,B,g,C,_,y,h,a,_⟩:=hi.all
 rw[s]at g;cases g;rw[f]at h;cases h
 let ⟨m,o⟩:=hi.zag x z s f
 unfold Sk at d;cases b:kV τ with
 |true=>
  rw[b,iq]at d;have k:i.agg=W:=by cases τ with|st n=>exact r.1|_=>cases b
  obtain⟨E,rfl⟩:=m k;rw[<-d];refine .agg _ _ a.1 (λc u=>?_) (λj c v h1 h2=>BK (a.2 j c v h1 h2));cases τ with
  |st n=>
   have e:i.zero=S.cells n (S.zero (.st n)):=by have:D.agg i.zero=D.agg (S.cells n (S.zero (.st n))):=d;injection this
   rw[e,q.cells]at u;exact iw _ _ (q.leaf n) c u
  |_=>cases b
 |false=>
  rw[b,j7]at d;have l:i.agg=J:=by
   cases τ with
   |st n=>cases b
   |_=>exact r.2.1
  have p:=o l;have:=a.2 0 _ z (by rw[d];rfl) (by rw[p];rfl);exact BK this
structure XOk(S:Sg)(E:gi):Prop where
 zr:∀t i τ,E.E.ti t=Z i->E.ty t=Z τ->Sk S i τ
 mt:∀t m,E.mt t=Z m->∃kid d,E.E.P.underlying t=Z (.map kid m.el)/\E.E.P.underlying kid=Z d/\iB m.kt d/\(∃x z,E.E.P.info? m.el=Z x/\x.zero=Z z)/\
  ∀vt,m.vt=Z vt->E.ty m.el=Z vt/\∃i,E.E.ti m.el=Z i
 Lq:∀t nm f,E.Lq t nm=Z f->∃x mm d,E.E.P.info? t=Z x/\x.methods.find? (·.name==nm)=Z mm/\mm.path=#[]/\E.E.P.underlying t=Z d/\
  ((mm.func=Z (f,J)/\∀e,d≠.pointer e)\/(mm.func=Z (f,W)/\∃e,d=.pointer e))
def cV{fr:ck S}{a:Act}(hf:cU g (bL fr) a w){x:Operand}{v:V S}(h:cF fr x=Z v):aI g w (low v) (a.eval x):=bU hf (cE h)
def HB{b a:Ty}{l:L (den S.A kt×den S.A b)}{c:L (den S.A kt'×den S.A a)}(h:yS kt b kt' a l=Z c):kt=kt'/\b=a/\HEq l c:=by
 unfold yS at h
 grind
def HD{β:Type}{l:L (den S.A kt×β)}{a:L (den S.A kt'×β)}(h:Kh kt kt' l=Z a):kt=kt'/\HEq l a:=by
 unfold Kh at h
 grind
def EK{w:World}{b:Nat}(x:Obj)(c:b<w.heap.size):({w with heap:=w.heap.setIfInBounds b x}:World).heap.size=w.heap.size/\(∀a,a≠b->({w with heap:=w.heap.setIfInBounds b x}:World).heap[a]?=w.heap[a]?)/\
  ({w with heap:=w.heap.setIfInBounds b x}:World).heap[b]?=Z x:=by
 grind
def Gu{β:Type}{f:β->T}{k:den S.A kt}{l:L (den S.A kt×β)}(b:EC kt (λy v=>aI g w (f y) v) l ms){z:β}{c:Value}(h:aI g w (f z) c) :
  aI g w (f (EV kt z k l)) (((DF kt k l).bind λj=>(ms[j]?).map (·.val)).getD c)/\(((DF kt k l).bind λj=>(ms[j]?).map (·.val)).isSome=GO kt k l):=by
 cases a:DF kt k l with
 |none=>
  let ⟨h1,h2,_⟩:=GG a
  rw[h1,h2];exact⟨h,rfl⟩
 |some j=>
  let ⟨p,d,_,h1,h2,_⟩:=wE a
  rw[h1,h2];have i:j<ms.size:=by rw[<-b.1];exact cD d
  have e:ms[j]?=Z ms[j]:=uB i;simp[Tp,e,jI,NB,Option.isSome_some,and_true];exact(b.2 j p _ d e).2
end
end
section
def Cv:∀(l:L (TypeId×Ty))(x:yu S.A l),isNil l x=(uV S l x).isNone
 |[],_=>rfl|_::_,.inl _=>rfl|_::l,.inr y=>Cv l y
def Hp:∀(l:L (TypeId×Ty))(t:TypeId)(j:Nat)(x:yu S.A l)(z:(t:Ty)->den S.A t),Pp l=W->xh l t=Z j->
  (kB l j x=W/\uV S l x=Z (t,enc S (nB l j) (jf z l j x)))\/(kB l j x=J/\jf z l j x=z (nB l j)/\∀d,uV S l x≠Z (t,d))
 |[],t,j,x,z,_,h=>by cases h
 |p::l,t,j,x,z,e,h=>by
  simp only[Pp,eW]at e;obtain⟨a,h⟩|⟨a,h⟩:=af h
  .simp at h;subst h;have b:=vV a;cases x with
   |inl y=>left;exact⟨rfl,by simp only[uV,b];rfl⟩
   |inr y=>
    right
    refine⟨rfl,rfl,λd f=>?_⟩;simp[uV]at f;have c:xh l p.1=Y:=by
     simp_all
    exact Cu l y p.1 c d (by grind)
  split at h
  .rename_i i k;simp only[gP]at h;subst h;cases x with
   |inl y=>
    right
    refine⟨rfl,rfl,λd f=>?_⟩
    grind[uV]
   |inr y=>
    obtain⟨h1,h2⟩|⟨h1,h2,h3⟩:=Hp l t i y z e.2 k
    exact .inl ⟨h1,h2⟩;exact .inr ⟨h1,h2,h3⟩
  cases h
where
 Cu:∀(l:L (TypeId×Ty))(x:yu S.A l)(t:TypeId),xh l t=Y->∀d,uV S l x≠Z (t,d)
  |[],_,_,_,_,h=>by cases h
  |p::l,.inl y,t,g,d,h=>by
   simp_all[xh,uV]
  |p::l,.inr y,t,g,d,h=>by
   simp only[xh]at g;cases a:Nq p.1 t with
   |true=>simp_all|false=>
    refine Cu l y t ?_ d h
    grind
section
variable {g:Gh}{w:World}{P:Program}
def EY(e:fq S){n:Nat}{x:S.A n}{v:Value}(h:aI g w (ef S (.dj n) x) v) :
  (uV S (S.alts n) (S.uO n x)=Y/\v=.nilIface)\/∃t d u,uV S (S.alts n) (S.uO n x)=Z (t,d)/\v=.iface t u/\dJ g.bx w d u:=by
 have b:aI g w (.sym (Qn (S.rZ n x))) v:=h;rw[e.rZ]at b;cases b with
 |sym _ _ a=>
  cases c:uV S (S.alts n) (S.uO n x)with
  |none=>
   rw[c]at a;cases a
   simp_all
  |some p=>
   rw[c]at a
   let ⟨t,d⟩:=p
   cases a with|dj _ _ u f=>grind
variable {s:bp S}
def Lt(hs:aY g (aC s) w)(hn:s.aE<bM){t:TypeId}{r:O Value}{a el:TypeId}(f:P.underlying t=Z (.map a el))(d:∀v,r=Z v->∃k n,v=.int k n){ob:vo S}(b:de ob=.map []) :
  ∃v w' g',(Instr.makeMap t r).run P w=.ok v w'/\aI g' w' (low (.mp s.aE:V S)) v/\cS [] s g w (dn s ob) g' w':=by
 let ⟨c,e⟩:=hs.newObj (ob0:=.map []) (x0:=.map #[] 0) hn (.map [] #[] 0 rfl (λj t m h=>by simp at h))
 refine⟨.map (Z w.heap.size),_,_,?_,.mp _ _ (by simp[Gh.dH,aC]),cS.lz hs (by rw[g6,b];exact c) e rfl rfl (Dn _) (jy s ob hn)⟩;cases r with
 |none=>rfl|some v=>
  obtain⟨k,n,rfl⟩:=d v rfl
  simp_all[Instr.makeMap,aL,asInt,asIntOf]
def QM(hs:aY g (aC s) w)(hn:s.aE<bM){t:TypeId}(c:P.underlying t=Z .string)(b:L UInt8) :
  ∃v w' g',(Instr.range t (.string (cq b))).run P w=.ok v w'/\aI g' w' (low (.uo s.aE:V S)) v/\cS [] s g w (dn s (.rO b 0)) g' w':=by
 let ⟨a,d⟩:=hs.newObj (ob0:=.rO (cq b) 0) (x0:=.stringIter (cq b) 0) hn (.rO _ _)
 refine⟨.pointer (Z ⟨w.heap.size,0,Y⟩),_,_,?_,.uo _ _ (by simp[Gh.dH,aC]),cS.lz hs (by rw[g6];exact a) d rfl rfl (Dn _) (jy s _ hn)⟩;simp[Instr.range,aL c]
def Gr(hS:fq S)(hs:aY g (aC s) w)(hn:s.aE<bM){t:TypeId}{i:TI}(hi:nu P t i){e:Ty}(hr:yY S i (.sl e)){n:Int}(q:Q6 n=W)(k1 k2:IntKind) :
  ∃v w' g',(Instr.makeSlice t (.int k1 n) (.int k2 n)).run P w=.ok v w'/\aI g' w' (low (.sh s.aE 0:V S)) v/\cS [] s g w (dn s (.arr e (List.replicate (ax n) (S.zero e)) 0)) g' w':=by
 let ⟨⟨z,r,hz⟩,_,_,u⟩:=hr
 let ⟨xi,d1,z1,Ol,y,_,hag,hzx,Cm,hk⟩:=hi.all
 rw[r]at hk;obtain⟨el,j,d',p,rfl,hj,l,hju,ag0,A,f,B,hj0,hjb1,hjb2,hjb3,C⟩:=hk;simp[Q6,eW,qM]at q;obtain⟨m,rfl⟩:∃m:Nat,n=(m:Int):=⟨n.toNat,by omega⟩;have hm:m<=17179869184:=by omega
 have hbm:j.bytes*m<=4096*17179869184:=NK B hm;have o:=run_make (P:=P) w t el j p y hj A k1 k2 (m:Int) (m:Int) (by omega) (IK _) (by
  have:((j.bytes*m:Nat):Int)<=281474976710656:=by omega
  rwa [Int.natCast_mul]at this) (by omega)
 have E:(bif kV e then D.agg z else z.getD 0 default)=enc S e (S.zero e):=by
  grind
 have a:=MY (I:=g.bx) (w:=w.alloc (.cells (madeCells p.cells (m*j.size)) el)) (ag:=kV e) (sz:=S.width e) (len:=m) f (by
  cases hst:kV e with
  |true=>rfl|false=>
   simp_all) (by rw[bV];exact C)
 rw[E]at a;have F:(List.replicate m (S.zero e)).map (enc S e)=List.replicate m (enc S e (S.zero e)):=by simp
 let x:fe:=⟨Z ⟨w.heap.size,0,Y⟩,m,m,S.width e⟩
 have K:∀b,x.at b->b=w.heap.size:=by
  rintro b ⟨ad,h1,h2,_⟩
  grind
 have k:¬g.bx w.heap.size:=λh=>by have:=hs.bx _ h;omega
 let ⟨Q,he⟩:=aY.Q5 (w':=w.alloc (.cells (madeCells p.cells (m*j.size)) el)) hs hn (sz:=S.width e) (es:=List.replicate m (enc S e (S.zero e))) (x:=x) rfl rfl (by simp) (λb R=>qy w _ b R)
  (λb R=>by rw[K b R];simp)
  ⟨by simp[x],eO _,a.rows,u,λd hd=>by
    have hde:=X0 hd;rw[hde,Ct hS,List.length_replicate];have:m*zQ S e<=17179869184*(2*4096):=NK hm (by omega);omega,λhc=>by
    refine⟨w.heap.size,madeCells p.cells (m*j.size),el,rfl,⟨λh=>(by cases h),λh=>absurd h k⟩,xY w _,by rw[size_madeCells,l];grind,λi d jj c h1 h2=>?_⟩
    let ⟨v,h3,h4⟩:=a.rel i jj d c h1 h2
    refine⟨v,?_,h4⟩;rw[<-l]at h3 ⊢;exact h3⟩ rfl
 refine⟨_,_,_,o,.sh _ _ _ _ (S.width e) _ (Gh.fJ _ _ _ _),cS.lz hs ?_ he rfl rfl (Dn _) (jy s _ hn)⟩;rw[g6];simp[de,ax,vT,F];exact Q
end
end
section
section
variable {g:Gh}{w:World}
variable {o n:Nat}{v:Value}{P:Program}{i:TI}{a:Act}{s s':bp S}{E:gi}{fr:ck S}{c:Bool}{t:V S}
def aI.GI(h:aI g w (.mp o) v):∃b,v=.map (Z b)/\g.bT o=Z b:=by cases h;simp_all
def aI.acP(h:aI g w (.uo o) v):∃b,v=.pointer (Z ⟨b,0,Y⟩)/\g.bT o=Z b:=by cases h;simp_all
def aI.agm{k:IntKind}{n:Int}(h:aI g w (.kn k n) v):v=.int k n:=by cases h;rfl
def aI.AO{u:Value}(h:aI g w (.sym (.lit u)) v):v=u:=by cases h with|sym _ _ a=>cases a;rfl
def aI.TT{cs:L T}(h:aI g w (.agg cs) v):∃vs,v=.agg vs/\PW (aI g w) cs vs.toList:=by cases h with|agg _ vs a b=>exact⟨vs,rfl,by simpa using a,λj t v h1 h2=>b j t v h1 (by simpa using h2)⟩
def Jo(P:Program)(d:Nat){ty:TypeId}{a:Array (String×TypeId)}(b:P.underlying ty=Z (.interface a)):(Op.equalIn (d+1) ty .nilIface .nilIface).run P w=.ok W w:=by simp only[Op.equalIn,run_bind,aL b,andThen_ok];rfl
def U2(P:Program)(d:Nat){ty e:TypeId}(b:P.underlying ty=Z (.slice e))(a:O Addr)(n m:Nat):(Op.equalIn (d+1) ty (.slice a n m) (.slice Y 0 0)).run P w=.ok a.isNone w:=by simp only[Op.equalIn,run_bind,aL b,andThen_ok];cases a<;>rfl
def TV(f:fq S){t:TypeId}(hi:nu P t i)(j:i.kd=.iface){x:S.A n}(h:aI g w (ef S (.dj n) x) v)(a:Operand) :
  ((do eqGuard .eql t a (.const .nilIface) v .nilIface;binOp .eql t v .nilIface:Sem Value)).run P w=.ok (.bool (isNil (S.alts n) (S.uO n x))) w/\
  ((do eqGuard .neq t a (.const .nilIface) v .nilIface;binOp .neq t v .nilIface:Sem Value)).run P w=.ok (.bool (!(isNil (S.alts n) (S.uO n x)))) w:=by
 let ⟨_,d0,_,_,e,_,_,_,_,b⟩:=hi.all
 rw[j]at b;obtain⟨l,rfl⟩:=b;rw[Cv];obtain⟨c,rfl⟩|⟨k,d,u,c,rfl,_⟩:=EY f h
 rw[c];refine oa a (.const .nilIface) rfl rfl (λop=>?_) (Jo P 9999 e);unfold eqGuard;cases op<;>cases a<;>rfl;rw[c];refine oa a (.const .nilIface) rfl rfl (λop=>?_) (Jp 9999 e k u);unfold eqGuard;cases op<;>rfl
def TJ{t:TypeId}(hi:nu P t i)(c:i.kd=.iface)(h:aI g w (.sym (.lit .nilIface)) v)(b:Operand) :
  ((do eqGuard .eql t b (.const .nilIface) v .nilIface;binOp .eql t v .nilIface:Sem Value)).run P w=.ok (.bool W) w/\
  ((do eqGuard .neq t b (.const .nilIface) v .nilIface;binOp .neq t v .nilIface:Sem Value)).run P w=.ok (.bool J) w:=by
 let ⟨_,d0,_,_,d,_,_,_,_,a⟩:=hi.all
 rw[c]at a;obtain⟨e,rfl⟩:=a;cases h with
 |sym _ _ h=>
 cases h;refine oa b (.const .nilIface) rfl rfl (λop=>?_) (Jo P 9999 d);unfold eqGuard;cases op<;>cases b<;>rfl
def U3(P:Program)(d:Nat){ty e:TypeId}(b:P.underlying ty=Z (.pointer e))(a:O Addr):(Op.equalIn (d+1) ty (.pointer a) (.pointer Y)).run P w=.ok a.isNone w:=by simp only[Op.equalIn,run_bind,aL b,andThen_ok];cases a<;>rfl
def EO{t:TypeId}(hi:nu P t i)(d:i.kd=.ptr){a:O Addr}(f:v=.pointer a)(c:Operand) :
  ((do eqGuard .eql t c (.const (.pointer Y)) v (.pointer Y);binOp .eql t v (.pointer Y):Sem Value)).run P w=.ok (.bool a.isNone) w/\
  ((do eqGuard .neq t c (.const (.pointer Y)) v (.pointer Y);binOp .neq t v (.pointer Y):Sem Value)).run P w=.ok (.bool (!a.isNone)) w:=by
 subst f
 let ⟨_,d0,_,_,g,_,_,_,_,b⟩:=hi.all
 rw[d]at b;obtain⟨e,rfl⟩:=b;exact oa c (.const (.pointer Y)) rfl rfl (λop=>by cases op<;>rfl) (U3 P 9999 g a)
def Lh{y:O (S.A n)}(h:aI g w (ef S (.opt n) y) v):∃a,v=.pointer a/\Al y=!a.isNone/\(Al y=W->∀z,aI g w (.mc (enc S (.st n) (GQ z y)) 0) v):=by
 cases h with
 |sym _ _ h=>
 cases y with
 |none=>cases h;exact⟨Y,rfl,rfl,λh=>by cases h⟩
 |some x=>
  cases h with|pt _ b val c d e=>exact⟨Z (b.add 0),rfl,rfl,λ_ _=>.mc _ 0 b val c d e⟩
def afF{t:TypeId}(hi:nu P t i){sz sP:Nat}{ag:Bool}{z:L D}(d:i.kd=.slice sz ag sP z)(a:O Addr)(n m:Nat)(c:Operand) :
  ((do eqGuard .eql t c (.const (.slice Y 0 0)) (.slice a n m) (.slice Y 0 0);binOp .eql t (.slice a n m) (.slice Y 0 0):Sem Value)).run P w=.ok (.bool a.isNone) w:=by
 let ⟨_,d0,_,_,e,_,_,_,_,b⟩:=hi.all
 rw[d]at b;obtain⟨el,j,f,g,rfl,_⟩:=b;refine(oa c (.const (.slice Y 0 0)) rfl rfl (λop=>?_) (U2 P 9999 e a n m)).1;unfold eqGuard;cases op<;>rfl
def afG(hs:aY g (aC s) w){e:Ty}{x:V S}{l:L (den S.A e)}(h:KQ s e x=Z l)(q:aI g w (low x) v):∃a n m,v=.slice a n m/\(a.isNone=W->isE l=W):=by
 unfold KQ at h;split at h
 .simp only[gP]at h;subst h;cases q with|emp a=>exact⟨a,0,0,rfl,λ_=>rfl⟩
 .rename_i t C;obtain⟨rfl,i⟩:=fL h;cases i;cases q with
  |kM n Q a hn A=>
   refine⟨a,_,_,rfl,λE=>?_⟩;cases A with
   |sl _ _ _ sz val u F I R K=>
   cases C with
   |nil=>rfl|cons y C=>
    simp_all
 .let ⟨f,i⟩:=fL h
  cases f;cases i;cases q with
  |qd j d c a hj A=>
   refine⟨a,_,_,rfl,λE=>?_⟩
   grind[xV]
 .rename_i t x'
  let ⟨f,i⟩:=fL h
  subst f;cases i;cases q with
  |sym _ _ A=>
   cases A with
   |sl _ a cap sz val u F I R K=>
   refine⟨a,_,_,rfl,λE=>?_⟩;cases x' with
   |nil=>rfl|cons y C=>
    simp_all
 rename_i o r;have key:∀(B:Bool)(t:Ty)(k:L (den S.A t))(era:Nat),s.ob.get o=Z (if B then .lM t k era else .arr t k era)->(bif Nq r era then oM t e k else Y)=Z l->∃a n m,v=.slice a n m/\(a.isNone=W->isE l=W):=by
  intro B t k era ho h;obtain⟨hb,h⟩|⟨_,h⟩:=af h
  .let ⟨f,i⟩:=fL h
   subst f;cases i;have P:=beq_iff'.1 hb;subst P;cases q with
   |sh _ _ len cap sz a hx=>
    have z:(aC s).ob.get o=Z (ga B (S.width t) (k.map (enc S t)) r):=by rw[aJ,ho];cases B<;>rfl
    let ⟨p,_⟩:=hs.nV z hx
    refine⟨a,len,cap,rfl,λE=>?_⟩;cases k with
    |nil=>rfl|cons y k=>
     have h1:=p.len;have h2:=p.cap;have K:(⟨a,len,cap,sz⟩:fe).cap≠0:=by grind
     let ⟨b,vs,ty,h3,_⟩:=p.mem K
     simp_all
  cases h
 split at h
 simp_all
 simp_all
 cases h;cases h
def JK(hX:XOk S E)(hS:fq S)(hf:cU g (bL fr) a w)(hs:aY g (aC s) w)(o:Oper){ty:TypeId}{x ix y:Operand}(A:o.op=.mapUpdate ty x ix y\/o.op=.insert ty x ix y)
  (h:(match E.mt ty,cF fr x,cF fr ix,cF fr y with
  |some m,Z (.mp o),Z k,Z y=>match VL m.kt k,s.ob.get o with
   |some k,Z (.map kt q l)=>match yS kt q m.kt q l,bX s q y with
    |some l,Z (y,os)=>match dV s os with
     |some s1=>bif Nl s.fl o&&abH m.vt q then Z (W,(ep:V S),{s1 with ob:=s1.ob.set aM o (.map m.kt q (iV m.kt k y l)),wr:=o::s1.wr})else Y
     |none=>Y
    |_,_=>Y
   |some k,Z (.Iw kt l)=>match Kh kt m.kt l with
    |some l=>bif Nl s.fl o then Z (W,ep,{s with ob:=s.ob.set aM o (.Iw m.kt (iV m.kt k y l)),wr:=o::s.wr})else Y
    |none=>Y
   |_,_=>Y
  |_,_,_,_=>Y)=Z (c,t,s')) :
  ∃v w' g',((execOp a.eval o).run E.E.P w=.ok (.value v) w'\/((execOp a.eval o).run E.E.P w=.ok .skip w'/\v=undef))/\aI g' w' (low t) v/\cS [] s g w s' g' w':=by
 split at h;rotate_left;cases h;rename_i m e kv yv hm hx hk hy
 let ⟨kid,d,ht,hu,n,_,_⟩:=hX.mt _ _ hm
 let ⟨b,hxe,hb⟩:=aI.GI (cV hf hx)
 have j:∀w',(Instr.mapUpdate ty (a.eval x) (a.eval ix) (a.eval y)).run E.E.P w=.ok () w'->(execOp a.eval o).run E.E.P w=.ok .skip w':=by intro w' hr;obtain A|A:=A<;>simp[execOp,A,hr]
 split at h
 .rename_i k kt q l r B;have WY:=rf r (cV hf hk);split at h;rotate_left;cases h;rename_i l' y' os hcm LH;obtain⟨rfl,_,K⟩:=HB hcm;cases K;split at h;rotate_left;cases h;rename_i s1 Q;obtain⟨C,R⟩|⟨_,R⟩:=af h
  rotate_left;cases R;clear h;obtain⟨_,rfl,rfl⟩:=R;rw[eW]at C;have hfl:s.fl<=e:=gS C.1
  let ⟨p,hp,hpp⟩:=qE hS s q yv LH
  let ⟨u,hd⟩:=mz hs _ hp hpp (cV hf hy)
  let ⟨g1,F,he1,hfr⟩:=eF os hs (dz hS _ Q) u
  have hyd:=hd g1 _ F he1 hfr
  let ⟨f1,f2,f3,f4,f5,f6,f7⟩:=eL Q
  have hno:e∉os:=λhmem=>by have:=(u e hmem).oC (by rw[aJ,B];rfl);cases this
  have i:(aC s1).ob.get e=Z (de (.map m.kt q l')):=by rw[aJ,f6 e hno,B];rfl
  have Ep:g1.bT e=Z b:=he1.bT _ _ hb
  let ⟨x0,hh,Zf⟩:=(F.box e b Ep).2.2 _ i
  obtain⟨ms,cl,rfl,hmr⟩:=gX.M9 n (f:=ef S q) Zf
  let ⟨ms',c',I,z⟩:=yG (P:=E.E.P) n ht hu k hh hmr (x:=y') (uv hyd)
  have hlt:=(F.box e b Ep).2.1
  let ⟨q1,q2,q3⟩:=EK (.map ms' c') hlt
  let ⟨MS,V0⟩:=F.setObj Ep i rfl (by show s1.fl<=e;omega) (ob':=de (.map m.kt q (iV m.kt k y' l'))) (EC.ob n (f:=ef S q) z c') q1 q2 q3 rfl rfl
  have arl:rK s {s1 with ob:=s1.ob.set aM e (.map m.kt q (iV m.kt k y' l')),wr:=e::s1.wr}:=(mI Q).trans' (Dq f3.symm) (pL _ _ _);refine⟨undef,_,g1,.inr ⟨j _ (by rw[hxe,WY];exact I),rfl⟩,.sym _ _ (.lit _),cS.lz hs (by rw[eE];exact MS) (he1.trans (by grind[aC])) f1 f2 (Dq f3.symm) arl⟩
 .rename_i k kt l r B;have WY:=rf r (cV hf hk);split at h;rotate_left;cases h;rename_i l' hck;obtain⟨rfl,K⟩:=HD hck;cases K;obtain⟨C,R⟩|⟨_,R⟩:=af h
  rotate_left;cases R;clear h;obtain⟨_,rfl,rfl⟩:=R;have i:(aC s).ob.get e=Z (de (.Iw m.kt l')):=by rw[aJ,B];rfl
  let ⟨x0,hh,Zf⟩:=(hs.box e b hb).2.2 _ i
  obtain⟨ms,cl,rfl,hmr⟩:=gX.M9 n (f:=low) Zf
  let ⟨ms',c',I,z⟩:=yG (P:=E.E.P) n ht hu k hh hmr (x:=yv) (cV hf hy)
  let ⟨q1,q2,q3⟩:=EK (.map ms' c') (hs.box e b hb).2.1
  let ⟨MS,V0⟩:=hs.setObj hb i rfl (gS C) (ob':=de (.Iw m.kt (iV m.kt k yv l'))) (EC.ob n (f:=low) z c') q1 q2 q3 rfl rfl
  exact⟨undef,_,g,.inr ⟨j _ (by simp_all),rfl⟩,.sym _ _ (.lit _),cS.lz hs (by rw[eE];exact MS) V0 rfl rfl (eO _) (pL _ _ _)⟩
 cases h
def ab8(hS:fq S)(hT:Bu E.E)(hTy:Sq S E)(hX:XOk S E)(hf:cU g (bL fr) a w)(hs:aY g (aC s) w)(o:Oper)(h:um E fr s o.op=Z (c,t,s'))(hc:c=W) :
  ∃v w' g',((execOp a.eval o).run E.E.P w=.ok (.value v) w'\/((execOp a.eval o).run E.E.P w=.ok .skip w'/\v=undef))/\aI g' w' (low t) v/\cS [] s g w s' g' w':=by
 unfold um at h;split at h
 ·
  rename_i ty r A;obtain⟨hb,C⟩|⟨_,C⟩:=af h
  rotate_left;cases C;clear h;rw[eW]at hb;have hn:s.aE<bM:=gS hb.1;split at C;rotate_left;cases C;rename_i m hm
  let ⟨kid,d,ht,hu,B,_,_⟩:=hX.mt _ _ hm
  have hr:∀v,r.map a.eval=Z v->∃k n,v=.int k n:=by
   intro v R;cases r with
   |none=>cases R
   |some x=>simp at R;subst R;have hh:=hb.2;simp[Ou]at hh;split at hh;rename_i k n F;exact⟨_,_,(cV hf F).agm⟩;rename_i k n F;exact⟨_,_,aI.AO (cV hf F)⟩;cases hh
  have fin:∀ob:vo S,de ob=.map []->(W,(.mp s.aE:V S),dn s ob)=(c,t,s')->
    ∃v w' g',((execOp a.eval o).run E.E.P w=.ok (.value v) w'\/((execOp a.eval o).run E.E.P w=.ok .skip w'/\v=undef))/\aI g' w' (low t) v/\cS [] s g w s' g' w':=λob mR he=>by
   obtain⟨_,rfl,rfl⟩:=he
   let ⟨v,w',g',h1,h2,h3⟩:=Lt (P:=E.E.P) hs hn ht hr mR
   exact⟨v,w',g',.inl (by simp[execOp,A,h1]),h2,h3⟩
  split at C;exact fin _ rfl (j8 C);exact fin _ rfl (j8 C)
 ·
  rename_i ty x ix ok A;split at h;rotate_left;cases h;rename_i m xv kv hm F hk;split at h;rotate_left;cases h;rename_i vt hvt;split at h;rotate_left;cases h;rename_i k l hkey K;obtain⟨_,rfl,rfl⟩:=h
  let ⟨kid,d,ht,hu,B,⟨xi,z,Q,hz⟩,hvv⟩:=hX.mt _ _ hm
  let ⟨ak8,i,VU⟩:=hvv vt hvt
  have WY:=rf hkey (cV hf hk);have hxr:=cV hf F;have YY:aI g w (ef S vt (S.zero vt)) z:=uv (Je hS (hT.ti _ _ VU) (hTy.row _ _ _ VU ak8) (hX.zr _ _ _ VU ak8) Q hz);have fin:∀(u:Value)(b:Bool),(Instr.lookup ty (a.eval x) (a.eval ix) ok).run E.E.P w=.ok (if ok then .tuple #[u,.bool b]else u) w->aI g w (ef S vt (EV m.kt (S.zero vt) k l)) u->b=GO m.kt k l->
    ∃v w' g',((execOp a.eval o).run E.E.P w=.ok (.value v) w'\/((execOp a.eval o).run E.E.P w=.ok .skip w'/\v=undef))/\
     aI g' w' (low (bif ok then .gR [.ty vt (EV m.kt (S.zero vt) k l),.ty .bool (GO m.kt k l)]else .ty vt (EV m.kt (S.zero vt) k l):V S)) v/\cS [] s g w s g' w':=by
   intro u b hrun hu hbb;refine⟨_,w,g,.inl (by simp only[execOp,A,run_bind,hrun,andThen_ok,run_pure];rfl),?_,cS.refl hs⟩;cases ok with
   |false=>exact hu|true=>
    subst hbb;refine .gR _ _ rfl λj t' v' h1 h2=>?_
    match j with
    |0=>simp[bA]at h1 h2;subst h1;subst h2;exact hu|1=>simp[bA]at h1 h2;subst h1;subst h2;exact .sym _ _ (.lit _)|j+2=>simp[bA]at h1
  unfold Yv at K;split at K;rename_i oid;split at K
  .rename_i kt' vt' l' mR;obtain⟨rfl,rfl,hll⟩:=HB K;cases hll
   let ⟨b,hxe,hb⟩:=aI.GI hxr
   obtain⟨x0,hh,Zf⟩:=(hs.box oid b hb).2.2 _ (by rw[aJ,mR];rfl);obtain⟨ms,cl,rfl,hmr⟩:=gX.M9 B (f:=ef S vt') Zf;have hlk:=ze (P:=E.E.P) B ht hu Q hz k hh hmr.1 (λj p q h1 h2=>(hmr.2 j p q h1 h2).1) ok
   let ⟨r1,r2⟩:=Gu (f:=ef S vt') (k:=k) hmr YY
   refine fin _ _ ?_ r1 r2;rw[WY,hxe,hlk];cases hq:(DF m.kt k l').bind λj=>(ms[j]?).map (·.val)with|none=>simp|some v=>simp
  cases K;simp only[gP]at K;subst K;refine fin z J ?_ YY rfl;rw[WY,aI.AO hxr];exact FE B ht hu Q hz k ok
  .rename_i vt' l';obtain⟨rfl,rfl,hll⟩:=HB K;cases hll;cases agq:a.eval x with
   |map mb=>
    rw[agq]at hxr;cases hxr with
    |sym _ _ hd=>
    cases hd with
    |mp _ _ b ms cl I hh h1 h2 Oq hv1=>
    have hmr:EC m.kt (λy v=>aI g w (ef S vt' y) v) l' ms:=⟨by simpa using h1,λj p q e1 e2=>⟨TS B (uv (Oq j _ q (by simp[e1]) e2)),uv (hv1 j _ q (by simp[e1]) e2)⟩⟩;have hlk:=ze (P:=E.E.P) B ht hu Q hz k hh hmr.1 (λj p q h1 h2=>(hmr.2 j p q h1 h2).1) ok
    let ⟨r1,r2⟩:=Gu (f:=ef S vt') (k:=k) hmr YY
    refine fin _ _ ?_ r1 r2;rw[WY,agq,hlk];cases hq:(DF m.kt k l').bind λj=>(ms[j]?).map (·.val)with|none=>simp|some v=>simp
   |_=>
    rw[agq]at hxr;cases hxr with|sym _ _ hd=>cases hd
  cases K
 exact JK hX hS hf hs o (.inl ‹_›) h;exact JK hX hS hf hs o (.inr ‹_›) h
 ·
  rename_i ty n cp A;split at h;rotate_left;cases h;rename_i i e nv cv I he hn hcv;split at h;rotate_left;cases h;rename_i n1 c1 B hn1 hc1;obtain⟨hb,C⟩|⟨_,C⟩:=af h
  rotate_left;cases C;obtain⟨rfl,rfl,rfl⟩:=C;rw[eW]at hc;have hcn:c1=n1:=by simpa[fZ]using hc.2
  subst hcn
  let ⟨p,hp,hpp⟩:=gx hn1
  let ⟨q,hq,hqq⟩:=gx hc1
  have e1:=dU hp hpp (cV hf hn);have e2:=dU hq hqq (cV hf hcv)
  let ⟨v,w',g',h1,h2,h3⟩:=Gr (P:=E.E.P) hS hs (gS hb) (hT.ti _ _ I) (hTy.row _ _ _ I he) hc.1 .i64 .i64
  exact⟨v,w',g',.inl (by simp[execOp,A,e1,e2,h1]),h2,h3⟩
 ·
  rename_i ty x A;split at h;rotate_left;cases h;rename_i i xv I F;split at h;rotate_left;cases h;rename_i b B hb;obtain⟨hn,C⟩|⟨_,C⟩:=af h
  rotate_left;cases C;obtain⟨_,rfl,rfl⟩:=C
  let ⟨p,hp,hpp⟩:=lO hb
  have e1:=iK hp hpp (cV hf F)
  let ⟨_,d0,_,_,hu,_,_,_,_,hk⟩:=(hT.ti _ _ I).all
  rw[B]at hk;cases hk
  let ⟨v,w',g',h1,h2,h3⟩:=QM (P:=E.E.P) hs (gS hn) hu b
  exact⟨v,w',g',.inl (by simp[execOp,A,e1,h1]),h2,h3⟩
 ·
  rename_i ty x u A;split at h;rotate_left
  .rename_i i I F;split at h;rotate_left;cases h;rename_i B;obtain⟨_,rfl,rfl⟩:=h;have:=(TJ (w:=w) (hT.ti _ _ I) B (cV hf F) x).1;exact⟨_,w,g,.inl (by simp only[execOp,A,run_bind]at this ⊢;simp only[Act.eval]at this ⊢;rw[this];rfl),.kb W,cS.refl hs⟩
  cases h;rename_i i n y I F;split at h;rotate_left;cases h;rename_i B;obtain⟨_,rfl,rfl⟩:=h;have:=(TV (S:=S) hS (hT.ti _ _ I) B (cV hf F) x).1;exact⟨_,w,g,.inl (by simp only[execOp,A,run_bind]at this ⊢;simp only[Act.eval]at this ⊢;rw[this];rfl),.sym _ _ (.lit _),cS.refl hs⟩
 ·
  rename_i ty x u A;split at h;rotate_left
  .rename_i i I F;split at h;rotate_left;cases h;rename_i B;obtain⟨_,rfl,rfl⟩:=h;have:=(TJ (w:=w) (hT.ti _ _ I) B (cV hf F) x).2;exact⟨_,w,g,.inl (by simp only[execOp,A,run_bind]at this ⊢;simp only[Act.eval]at this ⊢;rw[this];rfl),.kb J,cS.refl hs⟩
  cases h;rename_i i n y I F;split at h;rotate_left;cases h;rename_i B;obtain⟨_,rfl,rfl⟩:=h;have:=(TV (S:=S) hS (hT.ti _ _ I) B (cV hf F) x).2;exact⟨_,w,g,.inl (by simp only[execOp,A,run_bind]at this ⊢;simp only[Act.eval]at this ⊢;rw[this];rfl),.sym _ _ (.lit _),cS.refl hs⟩
 ·
  rename_i ty x u A;split at h;rotate_left;cases h;rename_i i e xv I he F;split at h;rotate_left;cases h;rename_i B hl;obtain⟨_,rfl,rfl⟩:=h
  let ⟨ad,n,m,R,hE⟩:=afG hs hl (cV hf F)
  have:=afF (w:=w) (hT.ti _ _ I) B ad n m x;exact⟨_,w,g,.inl (by rw[<-R]at this;simp only[execOp,A,run_bind]at this ⊢;simp only[Act.eval]at this ⊢;rw[this];rfl),.ub _ _ hE,cS.refl hs⟩
 ·
  rename_i x A;split at h;rotate_left
  .rename_i n y F;obtain⟨rfl,rfl,rfl⟩:=h
   let ⟨p,R,Aa,hr⟩:=Lh (S:=S) (show aI g w (ef S (.opt n) y) (a.eval x)from cV hf F)
   have hne:p.isNone=J:=by rw[hc]at Aa;simpa using Aa
   refine⟨_,w,g,.inl ?_,hr hc (S.dfl n),cS.refl hs⟩;cases p with
   |none=>cases hne
   |some q=>simp[execOp,A,R]
  cases h;rename_i n y F;obtain⟨rfl,rfl,rfl⟩:=h;have hr:=cV hf F;rw[Cv]at hc;obtain⟨he,_⟩|⟨t',d,u,he,R,_⟩:=EY hS (show aI g w (ef S (.dj n) y) (a.eval x)from hr)
  rw[he]at hc;cases hc;exact⟨_,w,g,.inl (by simp[execOp,A,R]),R▸hr,cS.refl hs⟩
 ·
  rename_i ty x u A;split at h;rotate_left
  .rename_i i I F;split at h;rotate_left;cases h;rename_i B;obtain⟨_,rfl,rfl⟩:=h;have:=(EO (w:=w) (hT.ti _ _ I) B (aI.AO (cV hf F)) x).1;exact⟨_,w,g,.inl (by simp only[execOp,A,run_bind]at this ⊢;simp only[Act.eval]at this ⊢;rw[this];rfl),.kb W,cS.refl hs⟩
  cases h;rename_i i n y I F;split at h;rotate_left;cases h;rename_i B;obtain⟨_,rfl,rfl⟩:=h
  let ⟨p,R,Aa,_⟩:=Lh (S:=S) (show aI g w (ef S (.opt n) y) (a.eval x)from cV hf F)
  have:=(EO (w:=w) (hT.ti _ _ I) B R x).1;exact⟨_,w,g,.inl (by simp only[execOp,A,run_bind]at this ⊢;simp only[Act.eval]at this ⊢;rw[this];rfl),by rw[Aa];cases p<;>exact .sym _ _ (.lit _),cS.refl hs⟩
 ·
  rename_i ty x u A;split at h;rotate_left
  .rename_i i I F;split at h;rotate_left;cases h;rename_i B;obtain⟨_,rfl,rfl⟩:=h;have:=(EO (w:=w) (hT.ti _ _ I) B (aI.AO (cV hf F)) x).2;exact⟨_,w,g,.inl (by simp only[execOp,A,run_bind]at this ⊢;simp only[Act.eval]at this ⊢;rw[this];rfl),.kb J,cS.refl hs⟩
  cases h;rename_i i n y I F;split at h;rotate_left;cases h;rename_i B;obtain⟨_,rfl,rfl⟩:=h
  let ⟨p,R,Aa,_⟩:=Lh (S:=S) (show aI g w (ef S (.opt n) y) (a.eval x)from cV hf F)
  have:=(EO (w:=w) (hT.ti _ _ I) B R x).2;exact⟨_,w,g,.inl (by simp only[execOp,A,run_bind]at this ⊢;simp only[Act.eval]at this ⊢;rw[this];rfl),by rw[Aa];exact .sym _ _ (.lit _),cS.refl hs⟩
 ·
  rename_i x xt ty ok A;split at h;rotate_left;cases h;rename_i i τ n y I he F
  let ⟨xi,d1,z,Q,LG,_,hag,hzx,Cm,Oq⟩:=(hT.ti _ _ I).all
  have hni:i.kd≠.iface->∀ms,d1≠.interface ms:=λhk ms hd=>hk ((hT.ti _ _ I).nif ms (by rw[LG,hd]));have hr:=EY hS (show aI g w (ef S (.dj n) y) (a.eval x)from cV hf F);have YY:aI g w (ef S τ (S.zero τ)) z:=uv (Je hS (hT.ti _ _ I) (hTy.row _ _ _ I he) (hX.zr _ _ _ I he) Q hzx);have hno:i.kd≠.iface->(∀d,uV S (S.alts n) (S.uO n y)≠Z (ty,d))->(Instr.typeAssert (a.eval x) xt ty W).run E.E.P w=.ok (.tuple #[z,.bool J]) w:=by
   intro hk hne;obtain⟨_,R⟩|⟨t',d,u,he',R,_⟩:=hr
   .rw[R];simp only[Instr.typeAssert,run_bind,aL LG,andThen_ok];cases d1 with|interface ms=>exact absurd rfl (hni hk ms)|_=>simp[er Q hzx]
   have arc:t'≠ty:=λe=>hne d (e▸he');rw[R];simp only[Instr.typeAssert,run_bind,aL LG,andThen_ok];cases d1 with|interface ms=>exact absurd rfl (hni hk ms)|_=>simp[arc,er Q hzx]
  split at h;cases h
  .rename_i j hj hk;obtain⟨hb,C⟩|⟨_,C⟩:=af h
   rotate_left;cases C;clear h;have hte:=jU hb;have hk':i.kd≠.iface:=λe=>hk e;obtain⟨h1,h2⟩|⟨h1,h2,h3⟩:=Hp (S.alts n) ty j (S.uO n y) S.zero (hS.alts n) hj
   ·
    obtain⟨he',_⟩|⟨t',d,u,he',R,hd⟩:=hr
    rw[he']at h2;cases h2;rw[he']at h2;simp at h2;obtain⟨rfl,rfl⟩:=h2;have hrun:∀ok,(Instr.typeAssert (a.eval x) xt t' ok).run E.E.P w=.ok (if ok then .tuple #[u,.bool W]else u) w:=by intro ok;rw[R];simp only[Instr.typeAssert,run_bind,aL LG,andThen_ok];cases d1 with|interface ms=>exact absurd rfl (hni hk' ms)|_=>simp
    obtain⟨hok,C⟩|⟨hok,C⟩:=af C
    .simp only[gP,fC]at C;obtain⟨_,rfl,rfl⟩:=C;subst hok;refine⟨_,w,g,.inl (by simp only[execOp,A,run_bind,hrun,andThen_ok,run_pure];rfl),.gR _ _ rfl λq t v k1 k2=>?_,cS.refl hs⟩
     match q with
     |0=>simp[bA]at k1 k2;subst k1;subst k2;exact uv hd|1=>simp[bA]at k1 k2;subst k1;subst k2;rw[h1];exact .sym _ _ (.lit _)|q+2=>simp[bA]at k1
    obtain⟨_,rfl,rfl⟩:=C;subst hok;exact⟨_,w,g,.inl (by simp only[execOp,A,run_bind,hrun,andThen_ok,run_pure];rfl),uv hd,cS.refl hs⟩
   ·
    obtain⟨hok,C⟩|⟨hok,C⟩:=af C
    .simp only[gP,fC]at C;obtain⟨_,rfl,rfl⟩:=C;subst hok;refine⟨_,w,g,.inl (by simp only[execOp,A,run_bind,hno hk' h3,andThen_ok,run_pure];rfl),.gR _ _ rfl λq t v k1 k2=>?_,cS.refl hs⟩
     match q with
     |0=>simp[bA]at k1 k2;subst k1;subst k2;rw[h2];subst hte;exact YY|1=>simp[bA]at k1 k2;subst k1;subst k2;rw[h1];exact .sym _ _ (.lit _)|q+2=>simp[bA]at k1
    obtain⟨rfl,_⟩:=C;rw[h1]at hc;cases hc
  .rename_i hj hk;have hk':i.kd≠.iface:=λe=>hk e;obtain⟨hok,C⟩|⟨hok,C⟩:=af h
   rotate_left;cases C;simp only[gP,fC]at C;obtain⟨_,rfl,rfl⟩:=C;subst hok;refine⟨_,w,g,.inl (by simp only[execOp,A,run_bind,hno hk' (λd=>Hp.Cu _ _ _ hj d),andThen_ok,run_pure];rfl),.gR _ _ rfl λq t v k1 k2=>?_,cS.refl hs⟩
   match q with
   |0=>simp[bA]at k1 k2;subst k1;subst k2;exact YY|1=>simp[bA]at k1 k2;subst k1;subst k2;exact .kb _|q+2=>simp[bA]at k1
 ·
  rename_i ps A;split at h;rotate_left;cases h;rename_i i pv I hps;split at h;rotate_left;cases h;rename_i sz ag B;simp only[fT,fC]at h;obtain⟨cs,hcs,_,rfl,rfl⟩:=h
  let ⟨p,hfl,hp⟩:=Cq hS hcs
  rw[nF]at hfl
  let ⟨xi,d1,z,Q,LG,_,hag,hzx,Cm,Oq⟩:=(hT.ti _ _ I).all
  rw[B]at Oq;obtain⟨el,j,d',rfl,hj,yx,hju,_⟩:=Oq;have YY:=s7 (g:=g) (w:=w) Cm;obtain⟨rs,h1,h2⟩:=wO (g:=g) (w:=w) (pl:=λk=>Z (k*sz,sz)) (λk off ti Om=>by
   obtain⟨rfl,rfl⟩:=Om;rfl) _ _ hfl hp (pQ hf (uD hps)) ⟨by simpa using YY.1,λj t v h1 h2=>YY.2 j t v h1 (by simpa using h2)⟩
  refine⟨.agg rs,w,g,.inl ?_,.agg _ _ (by simpa using h2.1) (λj t v h3 h4=>h2.2 j t v h3 (by simpa using h4)),cS.refl hs⟩;have ak4:Instr.fill (λi=>Z (i*sz,sz)) z.cells (ps.map λ(i,x)=>(i,a.eval x)).toList=Z rs:=by simpa using h1
  simp only[execOp,A,Instr.build,run_bind,er Q hzx,aL LG,dx hj,yx,andThen_ok,run_pure,ak4]
 cases h
end
end
section
section
variable {g:Gh}{w:World}
def Kr{β:Type}{ω:Type}{X:V S->bp S->O ω}{D:O ω}{kt:Ty}(k:den S.A kt)(f:β->V S)(s:bp S):∀(l:L (den S.A kt×β)),
  yV X D (l.map λp=>(GB kt k p.1,f p.2,s))=match(DF kt k l).bind (l[·]?)with
   |some p=>X (f p.2) s|none=>D
 |[]=>rfl|p::l=>by
  simp[pN,yV,DF];cases a:GB kt k p.1 with
  |true=>simp[ai]|false=>
   simp[ai,j7];rw[Kr k f s l];cases DF kt k l with|none=>rfl|some j=>simp
def xg{ω:Type}{X:V S->bp S->O ω}{n:Int}{ag:Bool}{sz:Nat}{cs:L (V S)}{s:bp S}{r:ω}:∀{l:L Nat},yV X Y (zR n ag sz cs s l)=Z r->
  ∃j v,j∈l/\n=(j:Int)/\((cs.drop (j*sz)).take sz).length=sz/\0<sz/\Dt ag ((cs.drop (j*sz)).take sz)=Z v/\X v s=Z r
 |[],h=>by cases h
 |j::l,h=>by
  simp only[zR]at h;split at h
  .rename_i a;obtain⟨b,a⟩|⟨_,a⟩:=af a
   rotate_left;cases a;rw[eW]at b;have d:=beq_iff'.1 b.1;rw[bV]at d;obtain⟨e,h⟩|⟨_,h⟩:=Jm h
   simp_all[fZ]
   let ⟨i,u,h1,h2⟩:=xg h
   grind
  cases h
where
 Jm {α:Type} {c:Bool} {x y:O α} {r:α} (h:ai c x y=Z r):(c=W/\x=Z r)\/(c=J/\y=Z r):=af h
variable {s s':bp S}{E:gi}{fr:ck S}{a:Act}{o:Oper}{cl:Call}{b:Builtin}{args:List (V S)}{c:Bool}{t:V S}
def TH(hT:Bu E.E)(hX:XOk S E)(hf:cU g (bL fr) a w)(hs:aY g (aC s) w)(o:Oper){Ww:L (Bool×V S×bp S)}{p:Bool}{d:V S}(h:ir E fr s o.op=Z (Ww,p,d,s')){ω:Type}{X:V S->bp S->O ω}{r:ω}
  (e:yV X (aO p (X d s')) Ww=Z r) :
  ∃t s1 v w' g',X t s1=Z r/\((execOp a.eval o).run E.E.P w=.ok (.value v) w'\/((execOp a.eval o).run E.E.P w=.ok .skip w'/\v=undef))/\aI g' w' (low t) v/\cS [] s g w s1 g' w'/\((∀it b,o.op≠.next it b)->s1=s):=by
 unfold ir at h;split at h
 ·
  rename_i it B;split at h;rotate_left;cases h;rename_i C hit;split at h;rotate_left;cases h;rename_i b pos mR;obtain⟨hfl,h9⟩|⟨_,h9⟩:=af h
  rotate_left;cases h9;clear h;obtain⟨rfl,rfl,rfl,rfl⟩:=h9
  let ⟨bT,hie,hb⟩:=aI.acP (cV hf hit)
  have On:(aC s).ob.get C=Z (.rO (cq b) pos):=by rw[aJ,mR];rfl
  let ⟨x0,hh,Zf⟩:=(hs.box C bT hb).2.2 _ On
  have K:=(hs.box C bT hb).2.1;cases Zf;have ek:(getObj bT).run E.E.P w=.ok (.stringIter (cq b) pos) w:=by simp[getObj,Sem.run,hh]
  have Eo:∀x,(setObj bT x).run E.E.P w=.ok () {w with heap:=w.heap.setIfInBounds bT x}:=λx=>by simp[setObj,Sem.run,hh]
  have F:(cq b).size=b.length:=by rfl
  obtain⟨hp,e⟩|⟨hp,e⟩:=xg.Jm e
  .have hp':pos<(cq b).size:=by rw[F];simpa[QY]using hp
   let ⟨q1,q2,q3⟩:=EK (.stringIter (cq b) (pos+IA b pos)) K
   let ⟨MS,V0⟩:=hs.setObj hb On rfl (gS hfl) (ob':=.rO (cq b) (pos+IA b pos)) (.rO _ _) q1 q2 q3 rfl rfl
   refine⟨_,_,.tuple #[.bool W,goInt pos,.int .i32 (vG b pos)],_,g,e,.inl ?_,.gR _ _ rfl λq t v y A=>?_,cS.lz hs (by rw[eE];exact MS) V0 rfl rfl (eO _) (pL _ _ _),λhh=>absurd B (hh it W)⟩
   .have hrun:(Instr.next (a.eval it) W o.type).run E.E.P w=.ok (.tuple #[.bool W,goInt pos,.int .i32 (vG b pos)]) {w with heap:=w.heap.setIfInBounds bT (.stringIter (cq b) (pos+IA b pos))}:=by rw[hie];simp only[Instr.next,run_bind,ek,andThen_ok,hp',ki,Eo];rfl
    grind[execOp,run_bind,andThen_ok,run_pure]
   match q with
   |0=>simp[bA]at y A;subst y;subst A;exact .kb _|1=>simp[bA]at y A;subst y;subst A;exact .sym _ _ (.lit _)|2=>simp[bA]at y A;subst y;subst A;exact .sym _ _ (.lit _)|q+3=>grind
  .have hp':¬pos<(cq b).size:=by rw[F];simpa[QY]using hp
   refine⟨_,_,.tuple #[.bool J],w,g,e,.inl ?_,.gR _ _ rfl λq t v y A=>?_,cS.refl hs,λhh=>absurd B (hh it W)⟩
   .have hrun:(Instr.next (a.eval it) W o.type).run E.E.P w=.ok (.tuple #[.bool J]) w:=by rw[hie];simp only[Instr.next,run_bind,ek,andThen_ok,hp',jP];rfl
    grind[execOp,run_bind,andThen_ok,run_pure]
   match q with
   |0=>simp[bA]at y A;subst y;subst A;exact .kb _|q+1=>grind
 ·
  rename_i ty x ix ok B;split at h;rotate_left;cases h;rename_i m C kv hm hx hk;split at h;rotate_left;cases h;rename_i kt l k i mR hkey VU;split at h;rotate_left;cases h;rename_i l' z hck hpz;simp only[gP,fC]at h;obtain⟨rfl,rfl,rfl,rfl⟩:=h;obtain⟨rfl,hll⟩:=HD hck;cases hll
  let ⟨kid,dd,ht,hu,Q,⟨xi,zv,Ol,hz⟩,_⟩:=hX.mt _ _ hm
  have WY:=rf hkey (cV hf hk)
  let ⟨b,hxe,hb⟩:=aI.GI (cV hf hx)
  obtain⟨x0,hh,Zf⟩:=(hs.box C b hb).2.2 _ (by rw[aJ,mR];rfl);obtain⟨ms,cl,rfl,R⟩:=gX.M9 Q (f:=low) Zf;have hlk:=ze (P:=E.E.P) Q ht hu Ol hz k hh R.1 (λj p q h1 h2=>(R.2 j p q h1 h2).1) ok;have YY:aI g w (low z) zv:=by
   let ⟨x',_,z',hx',_,_,hag,hz',Cm,_⟩:=(hT.ti _ _ VU).all
   rw[Ol]at hx';cases hx';rw[hz]at hz';cases hz'
   let ⟨hza,hzn⟩:=(hT.ti _ _ VU).zag _ _ Ol hz
   let ⟨hz1,hz2⟩:=s7 (g:=g) (w:=w) Cm
   have hp:=qn hpz;rw[nF]at hp
   let ⟨sG,_⟩:=xL (g:=g) (w:=w) hp (vals:=zv.cells.toList) (by omega) (λj t v h1 h2=>hz2 j t v h1 (by simpa using h2))
   cases hia:i.agg with
   |true=>
    obtain⟨vs,rfl⟩:=hza hia
    simp_all[Value.cells]
   |false=>
    simp_all
  rw[Kr k (λv=>bif ok then .gR [v,.kb W]else v) s l']at e;have wrap:∀(t:V S)(u:Value)(bb:Bool),aI g w (low t) u->aI g w (low (bif ok then .gR [t,.kb bb]else t:V S)) (if ok then .tuple #[u,.bool bb]else u):=by
   intro t u bb hu;cases ok with
   |false=>exact hu|true=>
    refine .gR _ _ rfl λq t v y A=>?_
    match q with
    |0=>grind[bA]|1=>simp[bA]at y A;subst y;subst A;exact .kb _|q+2=>grind
  have c:=hlk;rw[<-hxe,<-WY]at c;cases hix:DF m.kt k l' with
  |none=>rw[hix]at e c;exact⟨_,_,_,w,g,e,.inl (by grind[execOp,run_bind,andThen_ok,run_pure]),wrap z zv J YY,cS.refl hs,λ_=>rfl⟩
  |some j=>
   let ⟨q,hq,_⟩:=wE hix
   have hj:j<ms.size:=by rw[<-R.1];grind
   have hmj:ms[j]?=Z ms[j]:=uB hj;rw[hix]at e c;simp[Tp,hq,hmj,jI]at e c;exact⟨_,_,_,w,g,e,.inl (by grind[execOp,run_bind,andThen_ok,run_pure]),wrap q.2 _ W (R.2 j q _ hq hmj).2,cS.refl hs,λ_=>rfl⟩
 ·
  rename_i B;split at h;rotate_left;cases h;rename_i hi hx hk;split at h;rotate_left;cases h;rename_i len sz ag n Q hn;obtain⟨hlen,h9⟩|⟨_,h9⟩:=af h
  rotate_left;cases h9;clear h;obtain⟨rfl,rfl,rfl,rfl⟩:=h9;obtain⟨j,v,hjm,rfl,hl,hsz,hpk,hXv⟩:=xg e;have hjl:j<len:=List.mem_range.1 hjm
  let ⟨pq,hp,hpp⟩:=gx hn
  have e1:=dU hp hpp (cV hf hk)
  let ⟨_,d1,_,_,LG,hsz1,hag1,_,_,Oq⟩:=(hT.ti _ _ hi).all
  rw[Q]at Oq;obtain⟨el,jj,d',rfl,hj1,hj2,hj3,hj4⟩:=Oq
  let ⟨vs,hxe,pY⟩:=aI.TT (cV hf hx)
  have I:=(pY.drop (j*sz)).take sz;have K:=qn hpk;rw[mF,mG]at K
  let ⟨sG,h1⟩:=xL (g:=g) (w:=w) K I.1 I.2
  have hlv:((vs.toList.drop (j*sz)).take sz).length=sz:=by rw[<-I.1,<-mG,<-mF,eP];exact hl
  have hle:j*sz+sz<=vs.size:=by
   grind
  have hrp:=No (P:=E.E.P) (w:=w) hj1 hj3 vs (j*sz) (by omega) (λhd=>by
   grind)
  rw[hj2,<-hj4]at hrp;refine⟨v,s,_,w,g,hXv,.inl ?_,sG,cS.refl hs,λ_=>rfl⟩;have hin:(0:Int)<=(j:Int)/\(j:Int)<(len:Int):=by omega
  simp only[execOp,B,Instr.index,e1,hxe,asIntOf,run_bind,run_pure,andThen_ok,aL LG,bD hin,dx hj1,hj2,vT,hrp]
 cases h
def abR(P:Program)(a:Array TypeId)(ty:TypeId)(m n:Int):(Builtin.max_ a ty #[.int .i64 m,.int .i64 n]).run P w=.ok (.int .i64 (acj m n)) w:=by simp only[Builtin.max_,List.foldlM_cons,List.foldlM_nil,Builtin.max2,acj,aD];by_cases h:m<n<;>simp[h]
def abQ(P:Program)(a:Array TypeId)(ty:TypeId)(m n:Int):(Builtin.min_ a ty #[.int .i64 m,.int .i64 n]).run P w=.ok (.int .i64 (aci m n)) w:=by simp only[Builtin.min_,List.foldlM_cons,List.foldlM_nil,Builtin.min2,aci,aD];by_cases h:n<m<;>simp[h]
def Bj(hX:XOk S E)(hs:aY g (aC s) w)(hf:cU g (bL fr) a w)(B:o.op=.call cl)(hb:cl.callee=.builtin b)(j:ko fr cl.args.toList=Z args)
  (h:ua E s b cl.argTypes args=Z (c,t,s')):s'=s/\∃v,(execOp a.eval o).run E.E.P w=.ok (.value v) w/\aI g w (low t) v:=by
 have e:=eY hf (gZ j);unfold ua at h;split at h;rename_i k;have key:∀(l:Nat)(ob:vo S),s.ob.get k=Z ob->(∀x,gX g w (de ob) x->∃p c,x=.map p c/\p.size=l)->∀m,(nth cl.argTypes.toList 0).bind E.mt=Z m->
   ∃v,(execOp a.eval o).run E.E.P w=.ok (.value v) w/\aI g w (low (.ty (.int .i64) (l:Int):V S)) v:=by
  intro l ob f q m i;simp[vU]at i
  let ⟨ty,C,F⟩:=i
  let ⟨kid,d,ht,_⟩:=hX.mt _ _ F
  have h0:aI g w (.mp k) ((cl.args.toList.map a.eval)[0]'(by have:=e.1;simp[bA]at this;simp;omega)):=e.2 0 _ _ rfl (iX _)
  let ⟨bT,hbe,r⟩:=aI.GI h0
  obtain⟨x0,hh,I⟩:=(hs.box k bT r).2.2 _ (by rw[aJ,f];rfl);obtain⟨p,cc,rfl,K⟩:=q _ I;have ek:(getObj bT).run E.E.P w=.ok (.map p cc) w:=nJ hh;have P:(cl.args.map a.eval)[0]?=Z (.map (Z bT)):=by
   grind
  have z:cl.argTypes[0]?=Z ty:=by rw[kr]at C;grind
  refine⟨goInt p.size,?_,by rw[K];exact .sym _ _ (.lit _)⟩;simp[execOp,B,resolve,hb,run_bind,run_pure,andThen_ok,invoke,builtin,Builtin.len_,z,P,aL ht,ek]
 split at h;rename_i m kt vt l i f;obtain⟨_,rfl,rfl⟩:=h;exact⟨rfl,key l.length _ f (λx q=>by cases q with|map _ p c Q _=>simp_all) m i⟩;rename_i m kt l i f;obtain⟨_,rfl,rfl⟩:=h;exact⟨rfl,key l.length _ f (λx q=>by cases q with|map _ p c Q _=>simp_all) m i⟩;cases h
 .rename_i x y;split at h;rotate_left;cases h;rename_i m n i A;obtain⟨_,rfl,rfl⟩:=h
  let ⟨a1,ha⟩:=M4 e i A
  refine⟨rfl,.int .i64 (acj m n),?_,.sym _ _ (.lit _)⟩
  simp_all[execOp,resolve,invoke,builtin,abR]
 .rename_i x y;split at h;rotate_left;cases h;rename_i m n i A;obtain⟨_,rfl,rfl⟩:=h
  let ⟨a1,ha⟩:=M4 e i A
  refine⟨rfl,.int .i64 (aci m n),?_,.sym _ _ (.lit _)⟩
  simp_all[execOp,resolve,invoke,builtin,abQ]
 cases h
where
 M4 {l:Array Operand} {a:Act} {x y:V S} {m n:Int} (e:PW (aI g w) (bA [x,y]) (l.toList.map a.eval)) (i:g8 .i64 x=Z m) (A:g8 .i64 y=Z n):True/\l.map a.eval=#[.int .i64 m,.int .i64 n]:=by
  refine⟨trivial,?_⟩;have Q:(l.toList.map a.eval).length=2:=by have:=e.1;simpa[bA]using this.symm
  match R:l.toList.map a.eval,Q with
  |[u,v],_=>
   rw[R]at e;have h1:=e.2 0 _ _ rfl rfl;have h2:=e.2 1 _ _ rfl rfl
   grind[gx,dU]
def Mc(hX:XOk S E)(hs:aY g (aC s) w)(hf:cU g (bL fr) a w)(I:o.op=.call cl)(hb:cl.callee=.builtin b)(p:ko fr cl.args.toList=Z args)
  (h:uc E s b cl.argTypes args=Z (c,t,s')):∃v w' g',(execOp a.eval o).run E.E.P w=.ok (.value v) w'/\aI g' w' (low t) v/\cS [] s g w s' g' w':=by
 have i:=eY hf (gZ p);unfold uc at h;split at h;rotate_left;cases h;rename_i q kv;split at h;rotate_left;cases h;rename_i m kt K l hm y;split at h;rotate_left;cases h;rename_i l' k Q z;obtain⟨r,R⟩|⟨_,R⟩:=af h
 rotate_left;cases R;obtain⟨rfl,j⟩:=HD Q;cases j;obtain⟨_,rfl,rfl⟩:=R;have r:s.fl<=q:=gS r;simp only[vU]at hm;obtain⟨ty,LH,hmt⟩:=hm
 let ⟨kid,d,ht,hu,x,_,_⟩:=hX.mt _ _ hmt
 have A:(cl.args.toList.map a.eval).length=2:=by have:=i.1;simpa[bA]using this.symm
 match j:cl.args.toList.map a.eval,A with
 |[u,v],_=>
 rw[j]at i
 let ⟨bT,hbe,e⟩:=aI.GI (i.2 0 _ _ rfl rfl)
 have WY:=rf z (i.2 1 _ _ rfl rfl);obtain⟨x0,hh,Zf⟩:=(hs.box q bT e).2.2 _ (by rw[aJ,y];rfl);obtain⟨ms,cc,rfl,hmr⟩:=gX.M9 x (f:=ef S K) Zf;have n:(cl.args.map a.eval)=#[.map (Z bT),fj m.kt k]:=by apply Array.toList_inj.1;rw[Tn,j,hbe,WY]
 have B:cl.argTypes[0]?=Z ty:=by rw[kr]at LH;grind
 let ⟨ms',C,F⟩:=QF (P:=E.E.P) x ht hu k hh hmr B (ty:=o.type) (args:=cl.args.map a.eval) (by rw[n];rfl) (by rw[n];rfl)
 let ⟨q1,q2,q3⟩:=EK (.map ms' cc) (hs.box q bT e).2.1
 let ⟨MS,V0⟩:=hs.setObj e (by rw[aJ,y];rfl) rfl r (ob':=de (.map m.kt K (LW m.kt k l'))) (EC.ob x (f:=ef S K) F cc) q1 q2 q3 rfl rfl
 refine⟨.tuple #[],_,g,?_,.sym _ _ (.lit _),cS.lz hs (by rw[eE];exact MS) V0 rfl rfl (eO _) (pL _ _ _)⟩;simp[execOp,I,resolve,hb,run_bind,run_pure,andThen_ok,invoke,builtin,C]
theorem QE{E:gi}(j:XOk S E){t:TypeId}{b:String}{f:FuncId}(h:E.Lq t b=Z f)(v:Value)(args:Array Value)(hf:mu E.E.P f):(callMethod (.iface t v) b args).run E.E.P w=.ok (.enter f (#[v]++args)) w:=by
 let ⟨x,q,d,k,l,m,o,a⟩:=j.Lq _ _ _ h
 obtain⟨n,p⟩:∃n,E.E.P.types.size+Made.depth=n+1:=⟨E.E.P.types.size+Made.depth-1,by rfl⟩;have c:(method (E.E.P.types.size+Made.depth) t v b).run E.E.P w=.ok (f,v) w:=by
  rw[p];simp only[method,run_bind,sv k,andThen_ok,l,m,follow,run_pure];obtain⟨a,g⟩|⟨a,e,rfl⟩:=a
  simp only[a,run_bind,receiverAt,aL o,andThen_ok];cases d<;>first|(exact absurd rfl (g _))|(simp[Place.get])
  simp_all[receiverAt,aL,Place.get]
 have i:(Go.program).run E.E.P w=.ok E.E.P w:=rfl
 grind[callMethod,run_bind,andThen_ok,xI]
def Np(g:XOk S E){c:Call}(b:o.op=.call c){x:Operand}{m:String}(d:c.callee=.invoke x m){t:TypeId}{v:Value}(e:a.eval x=.iface t v){f:FuncId}(h:E.Lq t m=Z f)(i:mu E.E.P f) :
  (execOp a.eval o).run E.E.P w=.ok (.enter f (#[v]++c.args.map a.eval)) w:=by
 simp only[execOp,b,resolve,d,e,run_bind,run_pure,andThen_ok,invoke]
 grind[Array.ext',Array.toList_extract,List.take_of_length_le,QE]
end
end
section
section
variable {g:Gh}{w:World}
def mw(s:bp S)(o:Nat)(ob:Ob):St:={aC s with ob:=(aC s).ob.set aM o ob}
variable {s s':bp S}{o n j era m hU k r i off:Nat}{hole:Option Nat}{hl:List Value}{d:D}{h v:Value}{a:Act}
def Jf(hs:aY g (aC s) w){l:L (S.A n)}{x:fe}(a:s.ob.get o=Z (.lT n j l era m hU hole))(b:g.arr o era=Z x) :
  ∃hl,hl.length=l.length/\xD g w J (S.width (.st n)) (lits j (l.map (enc S (.st n))) hl) x/\Jb g m hU hole hl/\aY g (mw s o (.arr (S.width (.st n)) (lits j (l.map (enc S (.st n))) hl) era)) w:=by
 obtain⟨hl,h1,h2,h3,h4⟩:=hs.view (by rw[aJ,a];rfl) b;exact⟨hl,by simpa using h1,h2,h3,h4⟩
def Ad{s1:St}(h:aY g s1 w){l:L (S.A n)}(a:o<bM)(h1:s1.ob.get o=Z (.arr (S.width (.st n)) (lits j (l.map (enc S (.st n))) hl) era))(b:hl.length=l.length)
  (c:Jb g m hU hole hl) (h2:s'.ob.get o=Z (.lT n j l era m hU hole)) (h3:∀k,k≠o->(aC s').ob.get k=s1.ob.get k) (h4:s'.aE=s1.aE):aY g (aC s') w:=by
 refine(h.Xe (es:=l.map (enc S (.st n))) a h1 (by grind) c).ZA h4 λk=>?_;rw[Tr.aV _ _ _ _ a];by_cases d:k=o;subst d;rw[bD rfl,aJ,h2];rfl
 simp_all
def gH(a:o<bM)(ob:Ob)(k:Nat):(mw s o ob).ob.get k=if k=o then Z ob else(aC s).ob.get k:=Tr.aV _ _ _ _ a
def Lw{es:L D}(h1:es[k]?=Z d)(h2:hl[k]?=Z h):jt (lits j es hl) k=jD j d h:=by
 grind[jt,lits]
def Fw(h:aI g w (.sh o r) v):∃x,g.arr o r=Z x/\v=.slice x.a x.len x.cap:=by cases h with|sh _ _ len cap sz a b=>simp_all
def Ua{e:Nat}(h:aI g w (.l9 o e i off) v):∃x,g.arr o e=Z x:=by cases h with|l9 _ _ _ _ len cap sz a b=>grind
def TK(h:aI g w (.sC o m r i) v):∃y,g.arr m (rc r i)=Z y/\v=.slice y.a y.len y.cap:=by cases h with|sC _ _ _ _ len cap sz a b=>simp_all
def Vk(fr:Fr)(x:Operand)(t:T):Fr:=match x with
 |.tmp k=>{fr with tm:=fr.tm.set aM k t}
 |_=>fr
def NV{fr:Fr}(hf:cU g fr a w){u t:T}(c:fr.get k=Z u)(b:k<bM)(f:aI g w t (a.eval (.tmp k))):cU g (Vk fr (.tmp k) t) a w:=by
 refine⟨hf.size,hf.df,λd e h=>?_⟩;simp[Vk,Fr.get]at h;rw[Tr.aV _ _ _ _ b]at h;split at h;cases h
 let ⟨v,i,_⟩:=hf.tm _ _ c
 simp_all[Act.eval]
 exact hf.tm d e h
def Vn{i:TI}(b:Nl (Na off i.size) j=W\/Nt j off=W):nw i (jD j d h) off=nw i d off:=by
 have a:∀q,(off<=q/\q<off+i.size)->(jD j d h).cell q=d.cell q:=by
  intro q c;have e:j≠q:=by
   obtain b|b:=b
   have:=gS b
   grind
   have:j<off:=gS b;omega
  show(d.cells.set j _).getD q _=d.cells.getD q _
  simp_all
 unfold nw;cases i.agg with
 |true=>
  simp only[iq]
  congr 2
  refine XB λq c=>?_;have:=a (Na off q) ⟨Nat.le_add_right _ _,Nat.add_lt_add_left (List.mem_range.1 c) _⟩;rw[this]
 |false=>
  simp;cases f:Nq i.size 1 with|true=>have:=beq_iff'.1 f;simp only[iq];rw[a off ⟨eO _,by omega⟩]|false=>rfl
def Nb(s:St):∀{l:L T}{p:Prop}{ds:L D}{os:L Nat}{j:Nat},oq s l=Z (p,ds,os)->l[j]?=Z .emp->∀v,∃b,oq s (l.set j (.sym (.lit v)))=Z (b,ds.set j (.lit v),os)/\(p->b)/\ds[j]?=Z (.sl [])
 |[],p,ds,os,j,_,a,v=>by simp at a
 |t::l,p,ds,os,j,h,a,v=>by
  simp[oq]at h;split at h
  .rename_i q d c r e f h1 h2;obtain⟨rfl,rfl,rfl⟩:=h;cases j with
   |zero=>simp at a;subst a;obtain⟨rfl,rfl,rfl⟩:=h1;exact⟨True/\r,by grind[oq,BL],λh=>h,rfl⟩
   |succ j=>obtain⟨b,k,g,i⟩:=Nb s h2 (by simpa using a) v;exact⟨q/\b,by grind[oq],λh=>⟨h.1,g h.2⟩,by simpa using i⟩
  cases h
def acd{E:gi}(hS:fq S)(hT:Bu E.E)(hTy:Sq S E){fr:ck S}(hf:cU g (bL fr) a w)(hs:aY g (aC s) w)(o:Oper){c:Bool}{t:V S}(h:BG E fr s o.op=Z (c,t,s'))(hc:c=W) :
  ∃v w' g',((execOp a.eval o).run E.E.P w=.ok (.value v) w'\/((execOp a.eval o).run E.E.P w=.ok .skip w'/\v=undef))/\aI g' w' (low t) v/\cS [] s g w s' g' w':=by
 unfold BG at h;split at h
 ·
  rename_i ty x ix Q;split at h;rotate_left;cases h;rename_i I r hx;split at h;rotate_left;cases h;rename_i n j l era m hU hole mR;split at h;rotate_left;cases h;rename_i i n' kv hi LH hix;split at h;rotate_left;cases h;rename_i sz ag bt zz k yw hk;obtain⟨hb,f⟩|⟨_,f⟩:=af h
  rotate_left;cases f;simp only[eW]at hb;have Zd:=beq_iff'.1 hb.1;subst Zd;have hnn:=beq_iff'.1 hb.2;subst hnn;obtain⟨rfl,rfl,rfl⟩:=f
  let ⟨R,C,_⟩:=Fw (cV hf hx)
  have A:I<bM:=iS (hs.lt' C) hs.aE
  let ⟨hl,h1,h2,h3,h4⟩:=Jf hs mR C
  let ⟨p,hp1,hp⟩:=gx hk
  let ⟨⟨z,Oo,_⟩,_⟩:=hTy.row _ _ _ hi LH
  have hin:=wG hc;have hbq:Nq (S.width (.st n)) (S.width (.st n))=W:=beq_iff'.2 rfl;have F:(lits j (l.map (enc S (.st n))) hl).length=l.length:=by rw[ov (by simpa using h1)];simp
  let ⟨⟨v,w',g',hr,B,he,ht⟩,q1,q2,q3⟩:=nO hT hf h4 o (p:=p/\lX k (eN (lits j (l.map (enc S (.st n))) hl))) (t:=.l9 I r (Ei k) 0) (s':=mw s I (.arr (S.width (.st n)) (lits j (l.map (enc S (.st n))) hl) r)) (by
   rw[Q];simp[oO,hi,cE hx,cE hix,kD,Oo,hp1,low,I4];rw[gH A,bD rfl];simp) ⟨hp,by simp[lX,eN,F];omega⟩
  refine⟨v,w',g',hr,ht,cS.lz hs ?_ he rfl rfl (eO _) (rK.refl _)⟩;refine Ad B A (by rw[gH A,bD rfl]) h1 (h3.le (λj y=>he.arr m j y)) mR (λk hk=>by rw[gH A,bQ hk]) rfl
 ·
  rename_i ty x Q;split at h;rotate_left;cases h;rename_i I e k off hx;split at h;rotate_left;cases h;rename_i n j l era m hU hole mR;split at h;rotate_left;cases h;rename_i i hi;obtain⟨hb,f⟩|⟨_,f⟩:=af h
  rotate_left;cases f;clear h;have Zd:=beq_iff'.1 hb;subst Zd
  let ⟨R,C⟩:=Ua (cV hf hx)
  have A:I<bM:=iS (hs.lt' C) hs.aE
  let ⟨hl,h1,h2,h3,h4⟩:=Jf hs mR C
  have F:(lits j (l.map (enc S (.st n))) hl).length=l.length:=by rw[ov (by simpa using h1)];simp
  have back:∀{g':Gh}{w':World},aY g' (mw s I (.arr (S.width (.st n)) (lits j (l.map (enc S (.st n))) hl) e)) w'->Ext s.fl g w g' w'->cS [] s g w s g' w':=λB he=>
   cS.lz hs (Ad B A (by rw[gH A,bD rfl]) h1 (h3.le (λj y=>he.arr m j y)) mR (λk hk=>by rw[gH A,bQ hk]) rfl) he rfl rfl (eO _) (rK.refl _)
  obtain⟨hj,h⟩|⟨hj,h⟩:=af f
  ·
   clear f;obtain⟨K,f⟩|⟨_,f⟩:=af h
   rotate_left;cases f;simp only[eW,NC]at K;obtain⟨rfl,rfl,rfl⟩:=f;have hoff:=beq_iff'.1 hj;subst hoff;have hk:=tQ hc;have hel:jt (lits off (l.map (enc S (.st n))) hl) k=jD off (enc S (.st n) l[k]) (hl[k]'(by omega)):=Lw (by rw[lE,iX hk];rfl) (iX _);have hrow:=h2.rows _ (iA (by rw[lits,NT,lE,iX hk,iX (by omega:k<hl.length)];rfl:(lits off (l.map (enc S (.st n))) hl)[k]?=Z (jD off (enc S (.st n) l[k]) (hl[k]'(by omega)))));have hsz:i.size=1:=beq_iff'.1 K.1;have TZ:off<S.width (.st n):=gS K.2.2.2;have hcell:(jD off (enc S (.st n) l[k]) (hl[k]'(by omega))).cell off=.lit (hl[k]'(by omega)):=by
    show((enc S (.st n) l[k]).cells.set off _).getD off _=_;have:off<(enc S (.st n) l[k]).cells.length:=by rw[kX hS];exact TZ
    simp[this]
   let ⟨⟨v,w',g',hr,B,he,ht⟩,q1,q2,q3⟩:=nO hT hf h4 o (t:=.sym (.lit (hl[k]'(by omega)))) (s':=mw s I (.arr (S.width (.st n)) (lits off (l.map (enc S (.st n))) hl) e)) (p:=lX (k:Int) (eN (lits off (l.map (enc S (.st n))) hl))/\(jt (lits off (l.map (enc S (.st n))) hl) k).has (Na off i.size)) (by
    rw[Q];simp only[oO,hi,cE hx,low,loadT,I4];rw[gH A,bD rfl];simp[show Nq e e=W from beq_iff'.2 rfl,iq,hel,nw,K.2.1,j7,K.1,hcell,jI]) ⟨by simp only[lX,eN,F];omega,by
     rw[hel];show Na off i.size<=_;rw[hrow,hsz];exact TZ⟩
   have hv:=aI.AO ht
   let ⟨y,hy,hye⟩:=h3.2 k _ (iX (by omega)) (by
    intro e;rw[e]at K;exact Bool.noConfusion K.2.2.1)
   refine⟨v,w',g',hr,?_,back B he⟩;rw[hv,hye];exact .sC _ _ _ _ _ _ y.sz _ (he.arr _ _ _ hy)
  ·
   clear f;obtain⟨K,f⟩|⟨_,f⟩:=af h
   rotate_left;cases f;simp at f;obtain⟨u,hu,rfl,rfl,rfl⟩:=f;rw[oQ]at K;have hk:=tQ hc
   let ⟨p1,p2⟩:=BX hS (i:=i) (τ:=Y) (λu h=>by cases h) hu
   have hex:bh l k (S.zero (.st n))=l[k]:=by simp[bh,hk]
   rw[hex]at p1 p2;have hel:jt (lits j (l.map (enc S (.st n))) hl) k=jD j (enc S (.st n) l[k]) (hl[k]'(by omega)):=Lw (by rw[lE,iX hk];rfl) (iX _)
   let ⟨⟨v,w',g',hr,B,he,ht⟩,q1,q2,q3⟩:=nO hT hf h4 o (t:=low u) (s':=mw s I (.arr (S.width (.st n)) (lits j (l.map (enc S (.st n))) hl) e)) (p:=lX (k:Int) (eN (lits j (l.map (enc S (.st n))) hl))/\(jt (lits j (l.map (enc S (.st n))) hl) k).has (Na off i.size)) (by
    rw[Q];simp only[oO,hi,cE hx,low,loadT,I4];rw[gH A,bD rfl];simp[show Nq e e=W from beq_iff'.2 rfl,iq,hel,Vn K,p1,jI]) ⟨by simp only[lX,eN,F];omega,by
     rw[hel];show Na off i.size<=((enc S (.st n) l[k]).cells.set j _).length;rw[Ld];exact p2⟩
   exact⟨v,w',g',hr,ht,back B he⟩
 ·
  rename_i ty x kx Q;split at h;rotate_left;cases h;rename_i I e k off o' m' r i hx hy;split at h;rotate_left;cases h;rename_i n j l era m hU hh mR;split at h;rotate_left;cases h;rename_i ti hi;obtain⟨hb,f⟩|⟨_,f⟩:=af h
  rotate_left;cases f;clear h;simp only[eW,NC]at hb
  let ⟨b1,b2,b3,b4,b5,b6,b7,b8,b9,b10⟩:=hb
  have e1:=beq_iff'.1 b1;subst e1;have e2:=beq_iff'.1 b2;subst e2;have e3:=beq_iff'.1 b3;subst e3;have e4:=beq_iff'.1 b4;subst e4;have e5:=beq_iff'.1 b5;subst e5;obtain⟨rfl,rfl,rfl⟩:=f;unfold Zg at hc;simp only[eW]at hc;have hk:=tQ hc.1;have e6:=beq_iff'.1 hc.2.1;subst e6;have e7:=beq_iff'.1 hc.2.2;subst e7
  let ⟨R,C⟩:=Ua (cV hf hx)
  have A:o'<bM:=iS (hs.lt' C) hs.aE
  let ⟨hl,h1,h2,h3,h4⟩:=Jf hs mR C
  have F:(lits off (l.map (enc S (.st n))) hl).length=l.length:=by rw[ov (by simpa using h1)];simp
  have TZ:off<S.width (.st n):=gS b9;have hval:=cV hf (x:=.tmp kx) (v:=.sC o' m' r i) hy
  let ⟨y,hy1,hye⟩:=TK hval
  have hel:jt (lits off (l.map (enc S (.st n))) hl) i=jD off (enc S (.st n) l[i]) (hl[i]'(by omega)):=Lw (by rw[lE,iX hk];rfl) (iX _);have hf':=NV hf (k:=kx) (u:=low (.sC o' m' r i)) (t:=.sym (.lit (.slice y.a y.len y.cap))) (by show(bL fr).get kx=_;rw[cg,hy];rfl) (gS b10) (by rw[hye];exact .sym _ _ (.lit _));have agB:kq (Vk (bL fr) (.tmp kx) (.sym (.lit (.slice y.a y.len y.cap)))) (.tmp kx)=Z (.sym (.lit (.slice y.a y.len y.cap))):=by show((bL fr).tm.set aM kx _).get kx=_;rw[Tr.aV _ _ _ _ (gS b10),bD rfl]
  have aqZ:kq (Vk (bL fr) (.tmp kx) (.sym (.lit (.slice y.a y.len y.cap)))) x=Z (.l9 o' e i off):=by
   have h0:=cE hx;cases x with
   |tmp k2=>
    show((bL fr).tm.set aM kx _).get k2=_;rw[Tr.dD _ _ _ _ _ (λe=>by
     subst e;have h5:fr.get k2=Z (.l9 o' e i off):=hx;rw[hy]at h5;cases h5)]
    exact h0
   |_=>exact h0
  have akr:(jD off (enc S (.st n) l[i]) (hl[i]'(by omega))).Qr off [.lit (.slice y.a y.len y.cap)]=jD off (enc S (.st n) l[i]) (.slice y.a y.len y.cap):=by
   have hlt:off<(enc S (.st n) l[i]).cells.length:=by rw[kX hS];exact TZ
   show D.agg _=D.agg _
   congr 1
   rw[List.take_set_of_le (eO _),nK,List.drop_set_of_lt (Nat.lt_succ_self _)];apply NQ;intro q;simp only[wj,tD,Le,QT,Jw,NR,nK];obtain hq|hq|hq:=Nat.lt_trichotomy q off
   rw[bD (by omega),bD hq,bQ (by omega)];subst hq;rw[bQ (by omega),bD (by omega),bD rfl,bD hlt];simp[Nat.min_eq_left (Jt hlt)];rw[bQ (by omega),bQ (by omega),bQ (by omega)]
   congr 1
   omega
  have hby:(jD off (enc S (.st n) l[i]) (.slice y.a y.len y.cap)).sP=(jD off (enc S (.st n) l[i]) (hl[i]'(by omega))).sP:=by
   let ⟨a0,n0,m0,he0⟩:=h3.1 i _ (iX (by omega:i<hl.length))
   rw[he0,<-AU off (enc S (.st n) l[i]) [] a0 n0 m0,<-AU off (enc S (.st n) l[i]) [] y.a y.len y.cap]
  have adb:(jD off (enc S (.st n) l[i]) (hl[i]'(by omega))).isAgg (S.width (.st n))=W:=by
   let ⟨a0,n0,m0,he0⟩:=h3.1 i _ (iX (by omega:i<hl.length))
   rw[he0];show(Nq (cH ((enc S (.st n) l[i]).cells.set off _)) _&&((enc S (.st n) l[i]).cells.set off _).all D.leaf)=W;rw[eW,bV,Ld,kX hS];refine⟨beq_iff'.2 rfl,kP.2 λd hd=>?_⟩;obtain hd|rfl:=XE hd
   rw[show(enc S (.st n) l[i]).cells=e9 S (S.fs n) (S.get n l[i])from hS.cells n _]at hd;exact iw _ _ (hS.leaf n) d hd;rfl
  have hput:y7 (lits off (l.map (enc S (.st n))) hl) i (jD off (enc S (.st n) l[i]) (.slice y.a y.len y.cap))=lits off (l.map (enc S (.st n))) (hl.set i (.slice y.a y.len y.cap)):=by apply NQ;intro q;simp[y7,lits];by_cases hq:i=q;subst hq;rw[XA (by simp;omega),NT,lE,XA (by omega),iX hk];rfl;rw[List.getElem?_set_ne hq,NT,NT,List.getElem?_set_ne hq]
  let ⟨⟨v,w',g',hr,B,he,ht⟩,q1,q2,q3⟩:=nO hT hf' h4 o (t:=S6) (s':={mw s o' (.arr (S.width (.st n)) (lits off (l.map (enc S (.st n))) hl) e)with ob:=(mw s o' (.arr (S.width (.st n)) (lits off (l.map (enc S (.st n))) hl) e)).ob.set aM o' (.arr (S.width (.st n)) (lits off (l.map (enc S (.st n))) (hl.set i (.slice y.a y.len y.cap))) e)})
   (p:=(D.lit (.slice y.a y.len y.cap)).leaf=W/\(True/\True)/\[D.lit (.slice y.a y.len y.cap)].all D.leaf=W/\lX (i:Int) (eN (lits off (l.map (enc S (.st n))) hl))/\(jD off (enc S (.st n) l[i]) (hl[i]'(by omega))).Ta (S.width (.st n)) off (cH [D.lit (.slice y.a y.len y.cap)])/\Nl (Na off (cH [D.lit (.slice y.a y.len y.cap)])) (S.width (.st n))=W/\((jD off (enc S (.st n) l[i]) (hl[i]'(by omega))).Qr off [.lit (.slice y.a y.len y.cap)]).sP=(jD off (enc S (.st n) l[i]) (hl[i]'(by omega))).sP) (by
   rw[Q];have hg:=gH (s:=s) A (.arr (S.width (.st n)) (lits off (l.map (enc S (.st n))) hl) e) o';rw[bD rfl]at hg;have arA:Nl (mw s o' (.arr (S.width (.st n)) (lits off (l.map (enc S (.st n))) hl) e)).fl o'=W:=b8;simp[oO,hi,aqZ,agB,storeT,kJ,b7,b6,j7,iq,oq,BL,jQ,freeze,hg,arA,show Nq e e=W from beq_iff'.2 rfl,NJ,hel,akr,hput]) ⟨rfl,⟨trivial,trivial⟩,rfl,⟨Int.natCast_nonneg _,by show(i:Int)<((lits off (l.map (enc S (.st n))) hl).length:Int);rw[F];exact Int.ofNat_lt.2 hk⟩,.inl adb,NI (by show off+1<=_;omega),by rw[akr,hby]⟩
  have hgn:∀q,({mw s o' (.arr (S.width (.st n)) (lits off (l.map (enc S (.st n))) hl) e)with ob:=(mw s o' (.arr (S.width (.st n)) (lits off (l.map (enc S (.st n))) hl) e)).ob.set aM o' (.arr (S.width (.st n)) (lits off (l.map (enc S (.st n))) (hl.set i (.slice y.a y.len y.cap))) e)}:St).ob.get q=if q=o' then Z (.arr (S.width (.st n)) (lits off (l.map (enc S (.st n))) (hl.set i (.slice y.a y.len y.cap))) e)else(mw s o' (.arr (S.width (.st n)) (lits off (l.map (enc S (.st n))) hl) e)).ob.get q:=λq=>Tr.aV _ _ _ _ A
  refine⟨v,w',g',hr,ht,cS.lz hs (Ad B (hl:=hl.set i (.slice y.a y.len y.cap)) A (by rw[hgn,bD rfl]) (by simpa using h1) ⟨λq hv hq=>?_,λq hv hq _=>?_⟩ (by show(s.ob.set aM o' _).get o'=_;rw[Tr.aV _ _ _ _ A,bD rfl]) (λq hq=>?_) rfl) he rfl rfl (eO _) (pL _ _ _)⟩;rw[QT]at hq;split at hq;rw[bD (by omega)]at hq;cases hq;exact⟨_,_,_,rfl⟩;exact h3.1 q hv hq;rw[QT]at hq;split at hq;rename_i e;subst e;rw[bD (by omega)]at hq;cases hq;exact⟨y,he.arr _ _ _ hy1,rfl⟩;rename_i e
  let ⟨yy,k1,k2⟩:=h3.2 q hv hq (λh=>e (j8 h))
  exact⟨yy,he.arr _ _ _ k1,k2⟩;rw[hgn,bQ hq,gH A,bQ hq,aJ,aJ];show((s.ob.set aM o' _).get q).map de=_;rw[Tr.aV _ _ _ _ A,bQ hq]
 ·
  rename_i ty len parts Q;split at h;rotate_left
  .rename_i Rl;split at h;rotate_left;cases h;rename_i i e hi LH;split at h;rotate_left;cases h;rename_i sz ag bt zz yw;obtain⟨hb,f⟩|⟨_,f⟩:=af h
   rotate_left;cases f;obtain⟨_,rfl,rfl⟩:=f;have F:len=0:=beq_iff'.1 hb;subst F;have hle:Nl (Nat.mul 0 sz) 16777216=W:=by rw[show Nat.mul 0 sz=0 from Nat.zero_mul sz];rfl
   have h0:cM E fr s o.op=Z (W,.kM 0 e [],s):=by rw[Q];simp only[cM,hi,LH,Rl,ja,yw,hle,iq,List.replicate_zero,oW,dV,jI]
   let ⟨p,aq0,hp⟩:=N3 hS hTy h0 rfl
   let ⟨⟨v,w',g',hr,B,he,ht⟩,q1,q2,q3⟩:=nO hT hf hs o aq0 hp
   refine⟨v,w',g',hr,?_,cS.lz hs B he q1 q2 q3 (mI (show dV s []=Z s from rfl))⟩;cases ht with|kM _ _ a0 hn0 hd=>exact .emp a0
  cases h;rename_i kx Rl;split at h;rotate_left;cases h;rename_i i n cs hi LH hkx;split at h;rotate_left;cases h;rename_i j hnst;split at h;rotate_left;cases h;rename_i sz ag bt zz yw hnj;obtain⟨hb,f⟩|⟨_,f⟩:=af h
  rotate_left;cases f;clear h;split at f;rotate_left;cases f;rename_i x os hx;simp only[fT,fC]at f;obtain⟨s1,Aa,_,rfl,rfl⟩:=f;simp only[eW]at hb;have akU:=beq_iff'.1 hb.1;subst akU;have hkN:kx<bM:=gS hb.2.2
  let ⟨⟨z,Oo,hz⟩,_,_,hpos⟩:=hTy.row _ _ _ hi LH
  rw[yw]at Oo;obtain⟨rfl,rfl,rfl,rfl⟩:=Kd.slice.inj Oo;have hfz:=dz hS os Aa;have hval:=cV hf (x:=.tmp kx) (v:=.agg cs) hkx;generalize hve:a.eval (.tmp kx)=ve at hval;obtain⟨vs,rfl,pY⟩:=aI.TT hval;have hcj:(bA cs)[j]?=Z .emp:=by rw[kr]at hnj;rw[eZ,lE,hnj];rfl
  obtain⟨vj,hvj⟩:∃vj,vs.toList[j]?=Z vj:=by have:=cD hcj;exact⟨_,iX (by have:=pY.1;omega)⟩
  have arG:=pY.2 j _ _ hcj hvj;obtain⟨c,rfl⟩:∃c,vj=.slice c 0 0:=by cases arG with|emp c=>exact⟨c,rfl⟩
  have akp:aI g w (.agg ((bA cs).set j (.sym (.lit (.slice c 0 0))))) (.agg vs):=by
   refine .agg _ vs (by simpa using pY.1) λq t v h1 h2=>?_;rw[QT]at h1;split at h1;rename_i e;subst e;rw[bD (cD hcj)]at h1;cases h1;have:vs.toList[j]?=Z v:=by simpa using h2
   rw[hvj]at this;cases this;exact .sym _ _ (.lit _);exact pY.2 q t v h1 (by simpa using h2)
  have hf':=NV hf (k:=kx) (u:=low (.agg cs)) (t:=.agg ((bA cs).set j (.sym (.lit (.slice c 0 0))))) (by rw[cg,hkx];rfl) hkN (by rw[hve];exact akp);have agB:kq (Vk (bL fr) (.tmp kx) (.agg ((bA cs).set j (.sym (.lit (.slice c 0 0)))))) (.tmp kx)=Z (.agg ((bA cs).set j (.sym (.lit (.slice c 0 0))))):=by show((bL fr).tm.set aM kx _).get kx=_;rw[Tr.aV _ _ _ _ hkN,bD rfl]
  simp[bX]at hx;split at hx;rotate_left;cases hx;rename_i hh os' C;obtain⟨rfl,rfl⟩:=hx
  let ⟨q,hq,hqp⟩:=qj hS s _ _ C
  let ⟨q',hq',hqq,MU⟩:=Nb (aC s) hq hcj (.slice c 0 0)
  have Zp:(enc S (.st n) (S.ET n hh)).cells=e9 S (S.fs n) hh:=by show S.cells n _=_;rw[hS.cells,hS.sH]
  have hzl:cH zz=S.width (.st n):=by simp[kV,iq,enc,D.agg.injEq]at hz;rw[hz];simp[Sg.width,bV];rw[show S.cells n (S.zero (.st n))=_ from hS.cells n _,m6]
  have alh:((kV (.st n)||Nq (S.width (.st n)) 1)&&(Nq (cH zz) (S.width (.st n))&&(!(Nq (S.width (.st n)) 0)&&Nl (Nat.mul 1 (S.width (.st n))) 16777216)))=W:=by rw[hzl];simp only[eW,NC];refine⟨rfl,beq_iff'.2 rfl,?_,by simpa using hb.2.1⟩;cases hq:Nq (S.width (.st n)) 0 with|false=>rfl|true=>have:=beq_iff'.1 hq;omega
  have adb:(D.agg ((e9 S (S.fs n) hh).set j (.lit (.slice c 0 0)))).isAgg (S.width (.st n))=W:=by
   show(Nq (cH ((e9 S (S.fs n) hh).set j _)) _&&((e9 S (S.fs n) hh).set j _).all D.leaf)=W;rw[eW,bV,Ld,m6];refine⟨beq_iff'.2 (bV _).symm,kP.2 λd hd=>?_⟩;obtain hd|rfl:=XE hd
   exact iw _ _ (hS.leaf n) d hd;rfl
  have hall:((e9 S (S.fs n) hh).set j (.lit (.slice c 0 0))).all D.leaf=W:=by have h0:(Nq (cH ((e9 S (S.fs n) hh).set j _)) _&&((e9 S (S.fs n) hh).set j (.lit (.slice c 0 0))).all D.leaf)=W:=adb;rw[eW]at h0;exact h0.2
  let ⟨⟨v,w',g',hr,B,he,ht⟩,q1,q2,q3⟩:=nO hT hf' hs o (t:=.kM 1 [D.agg ((e9 S (S.fs n) hh).set j (.lit (.slice c 0 0)))]) (s':=aC s1)
   (p:=(q'/\((e9 S (S.fs n) hh).set j (.lit (.slice c 0 0))).all D.leaf=W)/\(D.agg ((e9 S (S.fs n) hh).set j (.lit (.slice c 0 0)))).isAgg (S.width (.st n))=W/\True) (by
   rw[Q];have hps:sy (Vk (bL fr) (.tmp kx) (.agg ((bA cs).set j (.sym (.lit (.slice c 0 0)))))) parts.toList=Z [(0,.agg ((bA cs).set j (.sym (.lit (.slice c 0 0)))))]:=by rw[Rl];simp[sy,agB]
   simp only[oO,hi,hps,yw,iq,sK,BL,hq',List.replicate,cH,kV,show Nt 0 (Ns 0)=W from rfl,List.set_cons_zero,jQ,hfz,jI];have agP:((W||Nq (S.width (.st n)) 1)&&(Nq (cH zz) (S.width (.st n))&&(!(Nq (S.width (.st n)) 0)&&Nl (Nat.mul 1 (S.width (.st n))) 16777216)))=W:=alh;rw[agP];rfl) ⟨⟨hqq hqp,hall⟩,adb,trivial⟩
  refine⟨v,w',g',hr,?_,cS.lz hs B he q1 q2 q3 (mI Aa)⟩;cases ht with|kM _ _ a0 hn0 hd=>refine .qd _ _ c a0 ?_ ?_;rw[Zp];exact MU;show dJ g'.bx w' (.sl [D.agg ((enc S (.st n) (S.ET n hh)).cells.set j _)]) _;rw[Zp];exact hd
 ·
  rename_i ty x hi Q;split at h;rotate_left;cases h;rename_i i I r hv VU hx hh;split at h;rotate_left;cases h;rename_i sz ag bt zz l era n yw mR hn;obtain⟨hb,f⟩|⟨_,f⟩:=af h
  rotate_left;cases f;simp only[eW]at hb;have Zd:=beq_iff'.1 hb.1;subst Zd;obtain⟨rfl,rfl,rfl⟩:=f;have hc':=A9 hc
  let ⟨R,C,hval⟩:=Fw (cV hf hx)
  let ⟨p,hp1,hp⟩:=gx hn
  have e1:=dU hp1 hp (cV hf hh);have hlo:(aC s).ob.get I=Z (.arr (S.width (.int .i64)) (l.map (enc S (.int .i64))) r):=by show(s.ob.map de).get I=_;rw[Tr.get_map,mR];rfl
  let ⟨IS,acT⟩:=hs.nV (fz:=J) hlo C
  let ⟨c0,c1,c2⟩:=hc'
  have F:R.len=l.length:=by rw[IS.len];simp
  have hcap:=IS.cap;have c2':n<=(l.length:Int):=c2
  let ⟨xi,d1,z1,Ol,LG,_,_,_,_,hk⟩:=(hT.ti _ _ VU).all
  rw[yw]at hk;obtain⟨el,j,d',zv,rfl,hj,yx,_⟩:=hk;have K:=nI (P:=E.E.P) (w:=w) W R.len R.cap (low:=Y) (high:=Z (.int .i64 n)) (lo:=0) (hi:=n) (.inl ⟨rfl,rfl⟩) (.inr rfl) (by omega) (by omega) (by omega)
  let x':fe:=⟨R.a,n.toNat,R.cap,R.sz⟩
  have zB:∀b,x'.at b->R.at b:=λb h=>h
  let ⟨B,he⟩:=hs.alW (w':=w) hlo C (x':=x') (es':=(cL l 0 n).map (enc S (.int .i64))) (gS hb.2) rfl rfl (eO _) (λ_ _ _=>rfl) (λb h=>⟨by
   let ⟨ad,h1,h2,h3⟩:=h
   have:=(hs.arr _ _ _ C).1 ad h1 h3;omega,.inr (zB b h)⟩) (by
   have hsub:cL l 0 n=l.take n.toNat:=by simp[cL]
   rw[hsub];refine⟨by simp[x'];omega,by show n.toNat<=R.cap;omega,λd hd=>?_,IS.pos,λd hd=>?_,λh0=>?_⟩;exact IS.rows d (by grind);refine gk (zl _ ?_) (IS.W0 d (by grind));simp;omega
   let ⟨b,vs,ty,k1,k2,k3,k4,k5⟩:=IS.mem h0
   exact⟨b,vs,ty,k1,k2,k3,k4,λi d j c h1 h2=>k5 i d j c (by grind) h2⟩) acT
  refine⟨.slice R.a n.toNat R.cap,w,_,.inl ?_,?_,cS.lz hs (by rw[eE];exact B) he rfl rfl (eO _) (pL _ _ _)⟩;have hrun:(Instr.sliceAt ty (.slice R.a R.len R.cap) Y (Z (.int .i64 n)) Y).run E.E.P w=.ok (.slice R.a n.toNat R.cap) w:=by simp only[Instr.sliceAt,Instr.slice,run_bind,aL LG,andThen_ok,dx hj,yx,K];cases R.a<;>simp[Addr.add]
  simp[execOp,Q,hval,e1,hrun];exact .sh _ _ _ _ R.sz _ (Gh.fJ _ _ _ _)
 cases h
end
end
section
section
variable {g:Gh}{w:World}
theorem aY.ab4{s:St}(hs:aY g s w){m sz r:Nat}{iU:L (L D)}(o:s.ob.get m=Z (.rws sz iU r))(C:m<s.aE)(h0:0<sz)(c:O Addr) :
  aY (g.era m (rc r iU.length) ⟨c,0,0,sz⟩) {s with ob:=s.ob.set aM m (.rws sz (iU++[[]]) r)} w/\Ext s.fl g w (g.era m (rc r iU.length) ⟨c,0,0,sz⟩) w:=by
 have E:m<bM:=iS C hs.aE;have F:g.arr m (rc r iU.length)=Y:=by
  cases h:g.arr m (rc r iU.length)with
  |none=>rfl|some y=>
   let ⟨_,R,h2,_⟩:=(hs.qI o h).2.2 _ rfl
   simp_all
 have f:∀k j y,g.arr k j=Z y->(g.era m (rc r iU.length) ⟨c,0,0,sz⟩).arr k j=Z y:=λk j y h=>by
  rw[Gh.cT];exact h
  grind
 have d:∀k b,bJ (g.era m (rc r iU.length) ⟨c,0,0,sz⟩) k b->bJ g k b:=by
  rintro k b ⟨h1,h2|⟨j,y,A,h2,h3,h4,h5⟩⟩
  exact⟨h1,.inl h2⟩;by_cases p:k=m/\j=rc r iU.length;obtain⟨rfl,rfl⟩:=p;rw[Gh.fJ]at h2
  grind
  rw[Gh.cT _ _ _ _ _ _ p]at h2;exact⟨h1,.inr ⟨j,y,A,h2,h3,h4,h5⟩⟩
 have S:Ext s.fl g w (g.era m (rc r iU.length) ⟨c,0,0,sz⟩) w:=
  ⟨λ_ _ h=>h,f,λ_ h=>h,eO _,λ_ _ _=>rfl,λk b h=>.inl (d k b h),λ_ h=>.inl h,rfl,rfl⟩
 have ek:∀k,(s.ob.set aM m (.rws sz (iU++[[]]) r)).get k=if k=m then Z (.rws sz (iU++[[]]) r)else s.ob.get k:=λk=>Tr.aV _ _ _ _ E
 have hnb:=hs.AG o rfl;refine⟨⟨hs.aE,λk hk=>⟨(hs.ah k hk).1,λj=>?_⟩,λk b hb=>?_,λk j y l=>?_,hs.bx,λk k' b h h'=>hs.j6 k k' b (d k b h) (d k' b h')⟩,S⟩;rw[Gh.cT _ _ _ _ _ _ (by grind)];exact(hs.ah k hk).2 j;have I:g.bT k=Z b:=hb;have e:k≠m:=by grind
 let ⟨h1,h2,h3⟩:=hs.box k b I
 refine⟨h1,h2,λob a=>?_⟩;rw[ek,bQ e]at a
 let ⟨x,k1,k2⟩:=h3 ob a
 exact⟨x,k1,k2.ext S hs.bx⟩;by_cases e:k=m;subst e;have hcl:∀n i,r<n->g.arr k (rc n i)=Y:=λn i q=>by cases h:g.arr k (rc n i)with|none=>rfl|some z=>rw[(hs.qI o h).1 n i q]at h;cases h
 have K:∀A,y.a=Z A->y.cap≠0->A.block<w.heap.size:=by
  by_cases B:j=rc r iU.length;subst B;rw[Gh.fJ]at l
  grind
  rw[Gh.cT _ _ _ _ _ _ (λh=>B h.2)]at l;exact(hs.arr k j y l).1
 refine⟨K,λob a=>?_⟩;rw[ek,bD rfl]at a;obtain rfl:=j8 a;refine .inr (.inr (.inl ⟨sz,iU++[[]],r,rfl,λn i q=>?_,λi1 i2 y1 y2 P h1 h2 b t u=>?_,λi B=>?_⟩))
 grind[Gh.cT,sw]
 by_cases v:i1=iU.length;subst v;rw[Gh.fJ]at h1;cases h1
 let ⟨_,_,_,h⟩:=t
 grind
 by_cases e2:i2=iU.length;subst e2;rw[Gh.fJ]at h2;cases h2
 let ⟨_,_,_,h⟩:=u
 grind
 rw[Gh.cT _ _ _ _ _ _ (λh=>v (sw h.2).2)]at h1;rw[Gh.cT _ _ _ _ _ _ (λh=>e2 (sw h.2).2)]at h2;exact(hs.qI o h1).2.1 i1 i2 y1 y2 P h1 h2 b t u;subst B;by_cases v:i=iU.length;subst v;rw[Gh.fJ]at l;cases l;exact⟨rfl,[],by simp,⟨rfl,eO _,by simp,h0,by simp,λh=>absurd rfl h⟩⟩;rw[Gh.cT _ _ _ _ _ _ (λh=>v (sw h.2).2)]at l
 let ⟨q1,R,q2,q3⟩:=(hs.qI o l).2.2 i rfl
 exact⟨q1,R,by grind,q3.kE rfl⟩;have Q:g.arr k j=Z y:=by grind[Gh.cT]
 let ⟨h1,h2⟩:=hs.arr k j y Q
 refine⟨h1,λob a=>?_⟩;rw[ek,bQ e]at a;exact(h2 ob a).tr (λh=>h.kE rfl) f (funext λj=>Gh.cT _ _ _ _ _ _ (λh=>e h.1)) (λ_ _ _=>⟨rfl,vS⟩)
variable {a:Act}{o:Oper}{n j:Nat}
def Ks{P:Program}{c:Call}(f:o.op=.call c)(k:c.callee=.builtin .append){u v:Operand}{ty d:TypeId}(l:c.args=#[u,v])(g:c.argTypes=#[ty,d]){R:Value->World->Prop}(h:Iv P ty d o.type (a.eval u) (a.eval v) w R)
  {K:Act->World->Prop} {Q:Exit->Act->World->Prop} (i:∀v w',R v w'->K (a.put o.dst v) w'):o.wp P a w K Q\/(o.asks P a w/\LetsOut Q):=by
 let ⟨r,w',e,j⟩:=h
 left
 unfold Oper.wp;have b:(execOp a.eval o).run P w=.ok (.value r) w':=by
  simp_all[execOp,resolve,invoke,builtin]
 rw[b];exact i r w' j
theorem args2{l:Array Operand}{a:Act}{x y:T}(b:PW (aI g w) [x,y] (l.toList.map a.eval)):∃u v,l=#[u,v]/\aI g w x (a.eval u)/\aI g w y (a.eval v):=by
 have d:l.size=2:=by have:=b.1;simp_all
 obtain⟨u,v,c⟩:∃u v,l=#[u,v]:=⟨l[0],l[1],by
  grind⟩
 exact⟨u,v,c,b.2 0 _ _ rfl (by simp[c]),b.2 1 _ _ rfl (by simp[c])⟩
def acr(a:fq S){t:Ty}(b:Eu S n j t=W)(x:S.A n)(c:O Addr)(p q:Nat):(jD j (enc S (.st n) x) (.slice c p q)).sP=(enc S (.st n) x).sP:=by
 have h:AV j (enc S (.st n) x) ((IT n j t x).map (enc S t))=enc S (.st n) x:=by
  show D.agg ((S.cells n x).set j _)=D.agg (S.cells n x);have:(S.cells n x)[j]?=Z (.sl ((IT n j t x).map (enc S t))):=by rw[a.cells];exact J6 (Hy b)
  rw[Jk this]
 rw[<-AU j _ ((IT n j t x).map (enc S t)),h]
def VF(b:fq S)(x:S.A n)(c:O Addr)(p q:Nat):(jD j (enc S (.st n) x) (.slice c p q)).flat=W:=by
 show((S.cells n x).set j _).all D.leaf=W;refine kP.2 λd a=>?_;obtain a|rfl:=XE a
 rw[b.cells]at a;exact iw _ _ (b.leaf n) d a;rfl
def HH{E:gi}(hS:fq S)(hT:Bu E.E)(hEE:Qh E.E)(hTy:Sq S E){fr:ck S}{s s':bp S}(hf:cU g (bL fr) a w)(hs:aY g (aC s) w){cl:Call}(hop:o.op=.call cl){b:Builtin}(hb:cl.callee=.builtin b){args:L (V S)}(hargs:ko fr cl.args.toList=Z args){c:Bool}{t:V S}
  (h:m9 E s b cl.argTypes args=Z (c,t,s')) (hc:c=W) {K:Act->World->Prop} {Q:Exit->Act->World->Prop} (hK:∀g' v w',cS [] s g w s' g' w'->aI g' w' (low t) v->K (a.put o.dst v) w') :
  o.wp E.E.P a w K Q\/(o.asks E.E.P a w/\LetsOut Q):=by
 have pY:=eY hf (gZ hargs);unfold m9 at h;split at h
 ·
  rename_i f r;split at h;rotate_left;cases h;rename_i n j l era m hU hole mR;split at h;rotate_left;cases h;rename_i i B hi LH;split at h;rotate_left;cases h;rename_i sz ag bt zz yw;obtain⟨P,h9⟩|⟨_,h9⟩:=af h
  rotate_left;cases h9;simp only[eW]at P;have Zd:=beq_iff'.1 P.1;subst Zd;obtain⟨_,rfl,rfl⟩:=h9;have hx0:aI g w (.sh f r) ((cl.args.toList.map a.eval)[0]'(by have:=pY.1;simp[bA]at this;simp;omega)):=pY.2 0 _ _ rfl (iX _)
  let ⟨xs,hxs,_⟩:=Fw hx0
  have F:f<bM:=iS (hs.lt' hxs) hs.aE
  let ⟨hl,h1,h2,h3,h4⟩:=Jf hs mR hxs
  have hlen:(lits j (l.map (enc S (.st n))) hl).length=l.length:=by rw[ov (by simpa using h1)];simp
  refine yT hEE hf h4 hop hb (gZ hargs) (p:=True) (t:=.sym (.lit (.int .i64 (eN (lits j (l.map (enc S (.st n))) hl))))) (s':=mw s f (.arr (S.width (.st n)) (lits j (l.map (enc S (.st n))) hl) r)) ?_ trivial (k:=λC st'=>C=.sym (.lit (.int .i64 (eN (lits j (l.map (enc S (.st n))) hl))))/\st'=mw s f (.arr (S.width (.st n)) (lits j (l.map (enc S (.st n))) hl) r)) ⟨rfl,rfl⟩ (λC st' g' v w' he wK ht=>?_);have hi':(nth cl.argTypes.toList 0).bind E.E.ti=Z i:=hi;simp only[bA,low,fM,Ak,hi',yw,BQ];rw[gH F,bD rfl];simp;obtain⟨rfl,rfl⟩:=he;refine hK g' v w' (cS.lz hs (Ad wK.rel F (by rw[gH F,bD rfl]) h1 (h3.le (λj y=>wK.ext.arr m j y)) mR (λk hk=>by rw[gH F,bQ hk]) rfl) wK.ext rfl rfl (eO _) (rK.refl _)) ?_;have e:eN (lits j (l.map (enc S (.st n))) hl)=ak l:=by simp[eN,hlen,ak]
  rw[e]at ht;exact ht
 ·
  rename_i f r B j' x;split at h;rotate_left;cases h;rename_i n j l era m hU mR;split at h;rotate_left;cases h;rename_i ty tx agW;split at h;rotate_left;cases h;rename_i i i' n'' C A hi hi' LH hrw;split at h;rotate_left;cases h;rename_i sz ag bt zz sz' ag' bt' zz' new yw Oo hnew
  let ⟨e1,hh⟩:=fL hnew
  cases e1;cases hh;obtain⟨P,h9⟩|⟨_,h9⟩:=af h
  rotate_left;cases h9;clear h;simp only[eW]at P
  let ⟨b1,b2,b3,b4,b5,b6,b7,b8,b9⟩:=P
  have e1:=beq_iff'.1 b1;subst e1;have e2:=beq_iff'.1 b2;subst e2;have e3:=beq_iff'.1 b3;subst e3;simp only[gP,fC]at h9;obtain⟨hll,rfl,rfl⟩:=h9;have arp:bS (acv l A) (dg l [x])=W:=hll.trans ‹_›;have akS:acv l A=W/\dg l [x]=W:=by simpa[bS]using arp
  have arE:=akS.2;have hll:=NP (show decide _=W from akS.1)
  let ⟨u,v,ha,hu,hv⟩:=args2 pY
  have zB:cl.argTypes=#[ty,tx]:=by apply Array.ext';simpa using agW
  let ⟨xs,hxs,hxe⟩:=Fw hu
  have F:f<bM:=iS (hs.lt' hxs) hs.aE;have hmn:m<s.aE:=gS b6;have hmN:m<bM:=iS hmn hs.aE;have hw0:0<S.width C:=gS b9
  let ⟨szm,hm⟩:=qm (Aq hrw)
  have aku:szm=S.width C:=by
   have h1:=hrw;unfold Nm at h1;split at h1;rename_i t0 rss0 r0 I;obtain⟨_,h1⟩|⟨_,h1⟩:=af h1
   cases h1;rw[aJ,I]at hm;cases hm;rfl;cases h1;cases h1
  subst aku;have hom:f≠m:=by rintro rfl;rw[aJ,mR]at hm;cases hm
  generalize hvv:a.eval v=vv at hv;cases hv with
  |qd _ _ c ad hcj hcd=>
  let ⟨p1,p2⟩:=hs.ab4 hm hmn hw0 c
  let s1:bp S:={s with ob:=s.ob.set aM m (.rws C (A++[[]]) hU)}
  have aqI:(aC s1)={aC s with ob:=(aC s).ob.set aM m (.rws (S.width C) (A.map (·.map (enc S C))++[[]]) hU)}:=by simp[s1,aC,Tr.mS,de,Ju,pN,List.map_nil]
  rw[<-aqI]at p1;have Zh:s1.ob.get f=Z (.lT B j l r m hU Y):=by rw[Tr.aV _ _ _ _ hmN,bQ hom];exact mR
  have aqy:=p2.arr _ _ _ hxs
  let ⟨hl,h1,h2,h3,h4⟩:=Jf p1 Zh aqy
  have ac1:(lits j (l.map (enc S (.st B))) hl).length=l.length:=by rw[ov (by simpa using h1)];simp
  let ⟨⟨z,R,_⟩,_,_,hpos⟩:=hTy.row _ _ _ hi LH
  rw[yw]at R;obtain⟨rfl,rfl,rfl,rfl⟩:=Kd.slice.inj R;have arL:aI (g.era m (rc hU (A.map (·.map (enc S C))).length) ⟨c,0,0,S.width C⟩) w (.kM 0 [jD j (enc S (.st B) x) (.slice c 0 0)]) (.slice ad 1 1):=.kM 0 _ ad (by simp) (hcd.ext p2 hs.bx);have hus:aI (g.era m (rc hU (A.map (·.map (enc S C))).length) ⟨c,0,0,S.width C⟩) w (.sh f r) (a.eval u):=hu.ext p2 hs.bx;have ada:iG (lits j (l.map (enc S (.st B))) hl) [jD j (enc S (.st B) x) (.slice c 0 0)]=lits j ((dc l [x]).map (enc S (.st B))) (hl++[.slice c 0 0]):=by simp[iG,lits,dc,Ju,pN,List.map_nil];rw[List.zipWith_append (by simp;omega)];rfl
  have ac8:vO (iG (lits j (l.map (enc S (.st B))) hl) [jD j (enc S (.st B) x) (.slice c 0 0)]) (zQ S (.st B)):=by
   intro d hd;rw[ada]at hd
   let ⟨q,I⟩:=NS hd
   rw[lits,NT]at I;split at I;rename_i hv0 k1 k2;cases I;rw[lE,fT]at k1;obtain⟨xx,_,rfl⟩:=k1;obtain⟨a0,n0,m0,rfl⟩:∃a0 n0 m0,hv0=.slice a0 n0 m0:=by
    rw[tD]at k2;split at k2;exact h3.1 q hv0 k2;have:q-hl.length=0:=by have:=cD k2;simpa using this
    rw[this]at k2;cases k2;exact⟨_,_,_,rfl⟩
   exact⟨by rw[acr hS b8];exact Ct hS (t:=.st B) xx,VF hS xx a0 n0 m0⟩;cases I
  have hgv:=gH (s:=s1) F (.arr (S.width (.st B)) (lits j (l.map (enc S (.st B))) hl) r);have hkj:i'.kd=.slice sz' ag' bt' zz':=Oo;have hap:=yW (rt:=o.type) (hEE.ti _ _ hi) (hEE.ti _ _ hi') ⟨_,_,_,_,hkj⟩ h4 (x:=.sh f r) (y:=.kM 0 [jD j (enc S (.st B) x) (.slice c 0 0)]) (vx:=a.eval u) (vy:=.slice ad 1 1)
   (p:=True/\jH [jD j (enc S (.st B) x) (.slice c 0 0)] (S.width (.st B))/\vO (iG (lits j (l.map (enc S (.st B))) hl) [jD j (enc S (.st B) x) (.slice c 0 0)]) (zQ S (.st B))/\D.T6 (lits j (l.map (enc S (.st B))) hl) [jD j (enc S (.st B) x) (.slice c 0 0)]) (t:=.sh f (Ns r))
   (s':={mw s1 f (.arr (S.width (.st B)) (lits j (l.map (enc S (.st B))) hl) r)with ob:=(mw s1 f (.arr (S.width (.st B)) (lits j (l.map (enc S (.st B))) hl) r)).ob.set aM f (.arr (S.width (.st B)) (iG (lits j (l.map (enc S (.st B))) hl) [jD j (enc S (.st B) x) (.slice c 0 0)]) (Ns r))}) (by
   have hg0:=hgv f;rw[bD rfl]at hg0;have e1:Nt (mw s1 f (.arr (S.width (.st B)) (lits j (l.map (enc S (.st B))) hl) r)).aE bM=W:=b7;have e2:Nl (mw s1 f (.arr (S.width (.st B)) (lits j (l.map (enc S (.st B))) hl) r)).fl f=W:=b4;simp only[u9,e1,IL,j7,yw,BQ,hg0,e2,show Nq r r=W from beq_iff'.2 rfl,show Nq (S.width (.st B)) (S.width (.st B))=W from beq_iff'.2 rfl,tI,NJ];rfl) ⟨trivial,λd hd=>by
    rw[tC.1 hd];show((enc S (.st B) x).cells.set j _).length=_;rw[Ld,kX hS],ac8,by
    have:l.length+1<=17179869184:=by simpa[dg]using arE
    show(lits j (l.map (enc S (.st B))) hl).length+1<=_;rw[ac1];exact this⟩ hus arL
  refine Ks hop hb ha zB (by rw[hvv];exact hap) (λv w' hR=>?_)
  let ⟨g',r1,r2,r3⟩:=hR
  have hE:=p2.trans r2;refine hK g' v w' (cS.lz hs ?_ hE rfl rfl (eO _) ⟨λ_ h=>hJ _ (hJ _ h),λk _ hk=>?_,rfl⟩) r3;refine Ad r1 (n:=B) (j:=j) (l:=dc l [x]) (era:=Ns r) (m:=m) (hU:=hU) (hole:=Y) (hl:=hl++[.slice c 0 0]) F ?_ (by simp[dc];omega) ⟨λq v I=>?_,λq v I _=>?_⟩ ?_ (λk hk=>?_) rfl;show((mw s1 f _).ob.set aM f _).get f=_;rw[Tr.aV _ _ _ _ F,bD rfl,ada];rw[tD]at I;split at I;exact h3.1 q v I;have:q-hl.length=0:=by have:=cD I;simpa using this
  rw[this]at I;cases I;exact⟨_,_,_,rfl⟩;rw[tD]at I;split at I
  let ⟨yy,k1,k2⟩:=h3.2 q v I (by simp)
  exact⟨yy,r2.arr _ _ _ k1,k2⟩;have h0:q-hl.length=0:=by have:=cD I;simpa using this
  rw[h0]at I;cases I;refine⟨⟨c,0,0,S.width C⟩,r2.arr _ _ _ ?_,rfl⟩;have:q=(A.map (·.map (enc S C))).length:=by rw[QU];omega
  rw[this];exact Gh.fJ _ _ _ _;show((s.ob.set aM m _).set aM f _).get f=_;rw[Tr.aV _ _ _ _ F,bD rfl];rw[Tr.aV _ _ _ _ F,bQ hk,hgv,bQ hk,aJ,aJ];rw[Tr.aV _ _ _ _ F,bQ hk];rfl;simp at hk;show((s.ob.set aM m _).set aM f _).get k=_;rw[Tr.dD _ _ _ _ _ hk.1,Tr.dD _ _ _ _ _ hk.2.1]
 ·
  rename_i f m r k y;split at h;rotate_left;cases h;rename_i n j l era m' hU t0 A rera' mR hm0;split at h;rotate_left;cases h;rename_i ty tx agW;split at h;rotate_left;cases h;rename_i C new hi hi' LH Qo;split at h;cases h
  .rename_i sz ag bt zz sz' ag' bt' zz' yw Oo aq7;obtain⟨P,h9⟩|⟨_,h9⟩:=af h
   rotate_left;cases h9;clear h;simp only[eW]at P
   let ⟨b1,b2,b3,b4,b5,b6,b7⟩:=P
   have e1:=beq_iff'.1 b1;subst e1;have e2:=beq_iff'.1 b2;subst e2;have e3:=beq_iff'.1 b3;subst e3;have e4:=jU b7;subst e4;obtain⟨rfl,rfl,rfl⟩:=h9;have hc1:dX k A=W/\dg (bh A k []) new=W:=by simpa[bS]using hc
   have hk:=tQ hc1.1
   let ⟨u,v,ha,hu,hv⟩:=args2 pY
   have zB:cl.argTypes=#[ty,tx]:=by apply Array.ext';simpa using agW
   let ⟨yy,hyy,hue⟩:=TK hu
   have hm:(aC s).ob.get m=Z (.rws (S.width C) (A.map (·.map (enc S C))) r):=by rw[aJ,hm0];rfl
   let ⟨_,rs0,acV,hok⟩:=(hs.qI hm hyy).2.2 k rfl
   have hrs:rs0=(bh A k []).map (enc S C):=by rw[lE,iX hk]at acV;cases acV;simp[bh,hk]
   subst hrs
   let ⟨q,I,hqp⟩:=Am Qo
   let ⟨xi,d1,_,Ol,LG,_,_,_,_,Oq⟩:=(hEE.ti _ _ hi).all
   let ⟨_,d2,_,_,hu2,_,_,_,_,hk2⟩:=(hEE.ti _ _ hi').all
   rw[Oo]at hk2;obtain⟨e',_,_,_,rfl,_⟩:=hk2
   let ⟨⟨z,R,_⟩,_,_,hpos⟩:=hTy.row _ _ _ hi LH
   rw[yw]at R;obtain⟨rfl,rfl,rfl,rfl⟩:=Kd.slice.inj R;rw[yw]at Oq;obtain⟨e,ji,d',zv,rfl,hji,yx,_,_,hjz,Cm,Rw,h0,Ep,pZ,hb0,hzl⟩:=Oq;have hzs:zv.cells.size=ji.size:=by rw[<-Cm.1,hzl,yx]
   have Zb:jH (new.map (enc S C)) (S.width C):=tA hS new;have ac8:vO (iG ((bh A k []).map (enc S C)) (new.map (enc S C))) (zQ S C):=by rw[vg];exact E5 hS _
   let ⟨news,hsrc,hvr,hlen⟩:=An hs I hqp hv hpos Zb (λd hd=>(ac8 d (eV _ hd)).2) hu2
   let ⟨ay,cy,hve,_,aqx,Ri⟩:=tc hs I hqp hv hpos Zb
   have alg:=DY (rt:=o.type) LG hu2 hji hjz hzs (yx▸hpos) hb0 Rw pZ hs.bx (yx▸hok) (λb hb=>(hok.at_ hb).2.elim λvs h=>h.elim λty h=>(XF.1 h.2).1) (λd hd=>(ac8 d hd).1) (yx▸Zb) (yx▸hsrc) (yx▸hvr) (E1 _ hc1.2) (λhne=>by
    obtain⟨ady,an7,rfl,TX,hyc,_⟩:=Ri hne;refine⟨ady,cy,hve,λzB=>?_,λq I=>?_⟩;obtain VW|⟨o',ho',_⟩:=TX
    exact Bool.noConfusion ((hok.at_ zB).1.2 VW);rw[Gd]at ho';unfold NZ at ho';split at ho';exact aq7 _ _ rfl;cases ho';rw[yx]at I;have h1:=hyc (q/S.width C) (q%S.width C) (Tu (by rw[NL];exact I)) (Nat.mod_lt _ hpos);have hkk:q/S.width C*S.width C+q%S.width C=q:=by rw[NL];exact Nat.div_add_mod q _
    rw[hkk]at h1;rw[h1];rfl)
   refine Ks hop hb ha zB (by rw[hue];exact alg) (λv w' hR=>?_)
   let ⟨y',hp⟩:=hR
   rw[yx,vg]at hp;have aq3:(aC s).ob.get f=Z (.lT j (S.width (.st n)) (l.map (enc S (.st n))) era m r Y):=by rw[aJ,mR];rfl
   have F:f<bM:=gS b6
   let ⟨r1,r2⟩:=hs.adL aq3 hm F hyy hp (gS b5)
   refine hK _ v w' (cS.lz hs (s':={s with ob:=(s.ob.set aM m (.rws C (lF A k (dc (bh A k []) new)) (Ns r))).set aM f (.lT n j l era m (Ns r) (Z k)),wr:=f::m::s.wr}) ?_ r2 rfl rfl (eO _) ⟨λ_ h=>hJ _ (hJ _ h),λk' _ hk'=>?_,rfl⟩) ?_;have e:aC {s with ob:=(s.ob.set aM m (.rws C (lF A k (dc (bh A k []) new)) (Ns r))).set aM f (.lT n j l era m (Ns r) (Z k)),wr:=f::m::s.wr}={aC s with ob:=((aC s).ob.set aM m (.rws (S.width C) ((A.map (·.map (enc S C))).set k ((dc (bh A k []) new).map (enc S C))) (r+1))).set aM f (.lT j (S.width (.st n)) (l.map (enc S (.st n))) era m (r+1) (Z k))}:=by simp[aC,Tr.mS,de,lF,FU]
   rw[e];exact r1;simp at hk';show((s.ob.set aM m _).set aM f _).get k'=_;rw[Tr.dD _ _ _ _ _ hk'.1,Tr.dD _ _ _ _ _ hk'.2.1];rw[hp.val];exact .sC _ _ _ _ _ _ y'.sz _ (by rw[Gh.qJ,bD rfl])
  cases h
 cases h
end
end
section
theorem ck.j0(fr:ck S)(k j:Nat)(v:V S)(h:k<bM):(fr.put k v).get j=if j=k then Z v else fr.get j:=Tr.aV _ _ _ _ h
structure eJ(s:bp S)(g:Gh)(w:World)(s':bp S)(g':Gh)(w':World):Prop where
 rel:aY g' (aC s') w'
 ext:oN s.lo s.fl g w g' w'
 fl:s'.fl=s.fl
 lo:s'.lo=s.lo
 aE:s.aE<=s'.aE
 uk:∀o∈s.wr,o∈s'.wr
 same:∀o,o<s.aE->o∉s'.wr->s'.ob.get o=s.ob.get o
 Ht:∀o∈s.dr,o∈s'.dr
variable {s s':bp S}{g g':Gh}{w w':World}{p:Nat->Bool}{v:V S}{a:Act}
def cS.toW{ow:L Nat}(h:cS ow s g w s' g' w'):eJ s g w s' g' w':=⟨h.rel,h.ext,h.fl,h.lo,h.aE,h.uk,h.same,h.Ht⟩
def eJ.lower{m:Nat}(h:eJ {s with lo:=m} g w s' g' w')(a:s.lo<=m):eJ s g w {s' with lo:=s.lo} g' w':=
 ⟨⟨h.rel.aE,h.rel.ah,h.rel.box,h.rel.arr,h.rel.bx,h.rel.j6⟩,⟨h.ext.bT,λo e x b k=>h.ext.arr o e x (iS b a) k,h.ext.bx,h.ext.size,h.ext.heap,h.ext.own,h.ext.oD,h.ext.os,h.ext.output⟩,h.fl,rfl,h.aE,h.uk,h.same,h.Ht⟩
theorem eJ.refl{s:bp S}{g:Gh}{w:World}(h:aY g (aC s) w):eJ s g w s g w:=(cS.refl h).toW
def eJ.trans{s s' b:bp S}{g g' c:Gh}{w w' d:World}(h:eJ s g w s' g' w')(k:eJ s' g' w' b c d):eJ s g w b c d:=
 ⟨k.rel,h.ext.trans (h.fl▸h.lo▸k.ext),k.fl.trans h.fl,k.lo.trans h.lo,gk h.aE k.aE,λo a=>k.uk o (h.uk o a),
  λo a e=>(k.same o (iS a h.aE) e).trans (h.same o a (λf=>e (k.uk o f))),λo a=>k.Ht o (h.Ht o a)⟩
mutual
theorem ew{p q:Nat->Bool}(h:∀o,p o=W->q o=W):∀v:V S,cN p v=W->cN q v=W
 |.ptr o _,c=>h o c|.l9 o _ _ _,c=>h o c|.sh o _,c=>h o c|.mp o,c=>h o c|.rP o,c=>h o c|.uo o,c=>h o c|.ub _,c=>by cases c
 |.qd _ _ _,c=>by cases c
 |.sC o m _ _,c=>by
  simp[cN,oQ]at c ⊢
  grind
 |.fn _ a b,c=>by simp[cN,oQ]at c ⊢;exact c.imp (mE h a) (mE h b)
 |.dj _ v,c=>ew h v c|.agg d,c=>mE h d c|.gR d,c=>mE h d c|.gd _ v,c=>ew h v c|.ty _ _,c=>by cases c
 |.kb _,c=>by cases c
 |.kn _ _,c=>by cases c
 |.dat _,c=>by cases c
 |.mc _ _ _,c=>by cases c
 |.emp,c=>by cases c
 |.kM _ _ _,c=>by cases c
theorem mE{p q:Nat->Bool}(h:∀o,p o=W->q o=W):∀l:L (V S),iN p l=W->iN q l=W
 |[],a=>by cases a
 |v::l,a=>by simp[iN,oQ]at a ⊢;exact a.imp (ew h v) (mE h l)
end
mutual
theorem pU(os:L Nat):∀v:V S,iT os v=cN os.contains v
 |.ptr o _=>rfl|.l9 o _ _ _=>rfl|.sh o _=>rfl|.mp o=>rfl|.rP o=>rfl|.uo o=>rfl|.ub _=>rfl|.sC _ _ _ _=>rfl|.qd _ _ _=>rfl|.fn _ a b=>by simp[iT,cN,wA os a,wA os b]
 |.dj _ v=>pU os v|.agg c=>wA os c|.gR c=>wA os c|.gd _ v=>pU os v|.ty _ _=>rfl|.kb _=>rfl|.kn _ _=>rfl|.dat _=>rfl|.mc _ _ _=>rfl|.emp=>rfl|.kM _ _ _=>rfl
theorem wA(os:L Nat):∀l:L (V S),oT os l=iN os.contains l
 |[]=>rfl|v::l=>by simp[oT,iN,pU os v,wA os l]
end
theorem jb{dr b:L Nat}{aE a:Nat}(h:∀o∈dr,o∈b)(hn:a<=aE)(o:Nat)(c:dN dr aE o=W):dN b a o=W:=by
 simp only[dN,oQ,FR,qM]at c ⊢
 grind[Nat.le_of_ble_eq_true,Nat.ble_eq_true_of_le]
mutual
def dK(p:Nat->Bool):T->Bool
 |.ptr o _=>p o|.l9 o _ _ _=>p o|.sh o _=>p o|.mp o=>p o|.rP o=>p o|.uo o=>p o|.sC o m _ _=>p o||p m|.fn _ a b=>jz p a||jz p b|.dj _ v=>dK p v|.agg c=>jz p c|.gR c=>jz p c|.gd _ v=>dK p v|_=>J
def jz(p:Nat->Bool):L T->Bool
 |[]=>J|v::l=>dK p v||jz p l
end
mutual
def iu(p:Nat->Bool):∀v:V S,dK p (low v)=cN p v
 |.ty t x=>by
  have:∀l:L D,jz p (l.map .sym)=J:=by
   intro l
   induction l with|nil=>rfl|cons d l e=>simp[jz,dK,e]
  cases t<;>simp[low,ef,cN,dK,this]
 |.kb _=>rfl|.kn _ _=>rfl|.dat _=>rfl|.ptr _ _=>rfl|.mc _ _ _=>rfl|.l9 _ _ _ _=>rfl|.sh _ _=>rfl|.emp=>rfl|.kM _ _ _=>rfl|.fn _ a b=>by simp[low,cN,dK,qU p a,qU p b]
 |.dj _ v=>by simp[low,cN,dK,iu p v]
 |.agg c=>by simp[low,cN,dK,qU p c]
 |.gR c=>by simp[low,cN,dK,qU p c]
 |.gd _ v=>by simp[low,cN,dK,iu p v]
 |.mp _=>rfl|.rP _=>rfl|.uo _=>rfl|.ub _=>rfl|.sC _ _ _ _=>rfl|.qd _ _ _=>rfl
def qU(p:Nat->Bool):∀l:L (V S),jz p (bA l)=iN p l
 |[]=>rfl|v::l=>by simp[bA,jz,iN,iu p v,qU p l]
end
def ou{p:Nat->Bool}:∀{l:L T},jz p l=J->∀t∈l,dK p t=J
 |[],_,t,b=>by cases b
 |a::l,h,t,b=>by
  simp[jz,zj]at h;obtain rfl|b:=fV.1 b
  exact h.1;exact ou h.2 t b
structure aec(p:Nat->Bool)(g g':Gh):Prop where
 bT:∀o b,p o=J->g.bT o=Z b->g'.bT o=Z b
 arr:∀o e x,p o=J->g.arr o e=Z x->g'.arr o e=Z x
 bx:∀b,g.bx b->g'.bx b
theorem aI.on{p:Nat->Bool}{g g':Gh}{w w':World}(q:aec p g g')(y:j4 g.bx w w'){t:T}{v:Value}(h:aI g w t v)(l:dK p t=J):aI g' w' t v:=by
 induction h with
 |sym d v u=>exact .sym d v (u.mono y q.bx)|kb b=>exact .kb b|kn k n=>exact .kn k n|ptr o off b h=>exact .ptr o off b (q.bT _ _ l h)|mc d off C val K P u=>exact .mc d off C val (q.bx _ K) (λj c B=>by rw[y.cell (by rw[lg];exact K)];grind) (λj c B=>(u j c B).mono y q.bx)
 |l9 o e i off len cap sz C h=>exact .l9 o e i off len cap sz C (q.arr _ _ _ l h)|sh o e len cap sz a h=>exact .sh o e len cap sz a (q.arr _ _ _ l h)|emp a=>exact .emp a|kM k Q a R u=>exact .kM k Q a R (u.mono y q.bx)|fn f S z va vc A E _ _ s F=>simp[dK,zj]at l;exact .fn f S z va vc A E (λj t v h1 h2=>s j t v h1 h2 (ou l.1 t (iA h1))) (λj t v h1 h2=>F j t v h1 h2 (ou l.2 t (iA h1)))|dj t x v _ s=>exact .dj t x v (s l)|agg z I A _ s=>exact .agg z I A (λj t v h1 h2=>s j t v h1 h2 (ou l t (iA h1)))|gR z I A _ s=>exact .gR z I A (λj t v h1 h2=>s j t v h1 h2 (ou l t (iA h1)))|gd c t v _ s=>exact .gd c t v (λP=>s P l)|mp o b h=>exact .mp o b (q.bT _ _ l h)|rP o b h=>exact .rP o b (q.bT _ _ l h)|uo o b h=>exact .uo o b (q.bT _ _ l h)|ub e b h=>exact .ub e b h|sC o m r i len cap sz a h=>simp[dK,zj]at l;exact .sC o m r i len cap sz a (q.arr _ _ _ l.2 h)|qd j d c a B u=>exact .qd j d c a B (u.mono y q.bx)
def Gh.base(g:Gh)(p:Nat->Bool):Gh:={g with bT:=λo=>if p o=J then g.bT o else Y,arr:=λo e=>if p o=J then g.arr o e else Y}
def Gh.gJ(g:Gh)(p:Nat->Bool):aec p g (g.base p):=
 ⟨λo b h e=>by simp[Gh.base,h,e],λo e x h k=>by simp[Gh.base,h,k],λ_ h=>h⟩
theorem Gh.Bn{g:Gh}{p:Nat->Bool}{o b:Nat}(h:(g.base p).bT o=Z b):p o=J/\g.bT o=Z b:=by
 grind[Gh.base]
theorem Gh.Bo{g:Gh}{p:Nat->Bool}{o e:Nat}{x:fe}(h:(g.base p).arr o e=Z x):p o=J/\g.arr o e=Z x:=by
 grind[Gh.base]
def Gh.fO{k b:Nat}(h:bJ (g.base p) k b):p k=J/\bJ g k b:=by obtain⟨h1,h2|⟨e,x,a,h2,h3⟩⟩:=h;exact⟨(Gh.Bn h2).1,h1,.inl (Gh.Bn h2).2⟩;exact⟨(Gh.Bo h2).1,h1,.inr ⟨e,x,a,(Gh.Bo h2).2,h3⟩⟩
theorem aY.base{g:Gh}{w:World}{s s0:St}(hs:aY g s w){p:Nat->Bool}{aE:Nat}(E:∀o,aE<=o->p o=W)(r:s0.aE=aE)(hn:aE<=s.aE)
  (f:∀o ob,p o=J->s0.ob.get o=Z ob->∃a,s.ob.get o=Z a/\so (dK p) a ob):aY (g.base p) s0 w:=by
 refine⟨r▸gk hn hs.aE,λo F=>?_,λo b u=>?_,λo e x z=>?_,hs.bx,λo A b h B=>hs.j6 o A b (Gh.fO h).2 (Gh.fO B).2⟩
 simp_all[Gh.base]
 let ⟨d,k⟩:=Gh.Bn u
 let ⟨h1,h2,h3⟩:=hs.box o b k
 refine⟨h1,h2,λob c=>?_⟩
 let ⟨a,l,n⟩:=f o ob d c
 let ⟨x,h4,h5⟩:=h3 a l
 exact⟨x,h4,h5.left (λt v C i=>C.on (g.gJ p) (λ_ _=>rfl) i) n⟩
 let ⟨d,q⟩:=Gh.Bo z
 let ⟨h1,h2⟩:=hs.arr o e x q
 refine⟨h1,λob c=>?_⟩
 let ⟨a,l,n⟩:=f o ob d c
 refine(h2 a l).left n (λh=>h.kE rfl) (λm j y i h=>?_) (funext λI=>by simp[Gh.base,bD d]) (λ_ _ _=>⟨rfl,vS⟩);have i:p m=J:=i
 simp_all[Gh.base]
def iW(a:Act):Sh->L Value->Prop
 |[],[]=>True|(k,.one _)::l,v::b=>a.tmps[k]?=Z v/\iW a l b|(_,.box _)::l,_::b=>iW a l b|(_,.hid _)::l,b=>iW a l b|_,_=>False
def ES{l:L (V S)}{i:Nat}(h:nth l i=Z v):(bA l)[i]?=Z (low v):=by rw[kr]at h;simp[eZ,h]
theorem ke{g:Gh}{w:World}{fr:ck S}{s:bp S}{a:Act}(hf:cU g (bL fr) a w)(hs:aY g (aC s) w):∀{p:Pt}{v:V S},IC fr s p=Z v->∃u,aI g w (low v) u
 |.slot k,v,h=>by
  let ⟨u,_,e⟩:=hf.tm k (low v) (by rw[cg,show fr.get k=Z v from h];rfl)
  grind
 |.cell p i,v,h=>by
  simp[IC]at h;split at h;rename_i o d
  let ⟨u,c⟩:=ke hf hs d
  split at h
  .rename_i B f;cases c with
   |ptr _ _ b j=>
    obtain⟨m,ty,q,t,e⟩:=(hs.box o b j).box (by rw[aJ,f];rfl);have h1:=ES h;have h2:i<m.size:=by grind
    exact⟨m[i],e i _ _ h1 (uB h2)⟩
  cases h;cases h
 |.cap p i,v,h=>by
  simp[IC]at h;split at h
  .rename_i d
   let ⟨u,c⟩:=ke hf hs d
   cases c with
   |fn _ _ _ C n t E h1 h2=>
    have y:=ES h;have z:i<n.size:=by grind
    exact⟨n[i],h2 i _ _ y (uB z)⟩
  cases h
 |.MO p k,v,h=>by
  simp[IC]at h;split at h;rename_i o d
  let ⟨u,c⟩:=ke hf hs d
  split at h
  .rename_i l f;cases c with
   |rP _ b j=>
    obtain⟨x,q,e⟩:=(hs.box o b j).2.2 _ (by rw[aJ,f];rfl);cases e with
    |lp _ r h1 h2 h4 h5 h6 F A=>
     let ⟨u,_,c⟩:=A k (low v) (by
      show(bL l.fr).get k=_;rw[cg,h];rfl)
     grind
  cases h;cases h
def tJ{g:Gh}{w:World}{fr:ck S}{s:bp S}{a:Act}(hf:cU g (bL fr) a w)(hs:aY g (aC s) w):∀{sh:Sh}{ps:L Pt}{bs:L Nat},rX fr s sh ps=Z bs->∃bl,PW (λo b=>g.bT o=Z b) bs bl
 |[],[],bs,h=>by simp only[rX,gP]at h;subst h;exact⟨[],rfl,λj t v h=>by simp at h⟩
 |(k,.one c)::l,ps,bs,h=>tJ hf hs (sh:=l) (ps:=ps) (by simpa only[rX]using h)
 |(_,.box k)::l,p::ps,bs,h=>by
  simp[rX]at h;split at h;rename_i v d;split at h
  .rename_i o r h1 h2;simp at h;subst h;obtain rfl:=Ly h1
   let ⟨u,e⟩:=ke hf hs d
   let ⟨b,q,_⟩:=Gy e
   let ⟨bl,h3⟩:=tJ hf hs h2
   refine⟨b::bl,by simp[h3.1],λj f i m n=>?_⟩;cases j with|zero=>simp_all|succ j=>exact h3.2 j f i (by simpa using m) (by simpa using n)
  cases h;cases h
 |(_,.hid k)::l,p::ps,bs,h=>by
  simp[rX]at h;split at h;rename_i d;split at h
  .rename_i h1 h2;simp at h;subst h;obtain rfl:=Ly h1
   let ⟨u,e⟩:=ke hf hs d
   let ⟨b,q,_⟩:=Gy e
   let ⟨bl,h3⟩:=tJ hf hs h2
   refine⟨b::bl,by simp[h3.1],λj f i m n=>?_⟩;cases j with|zero=>simp_all|succ j=>exact h3.2 j f i (by simpa using m) (by simpa using n)
  cases h;cases h
 |[],_::_,_,h=>by simp[rX]at h
 |(_,.box _)::_,[],_,h=>by simp[rX]at h
 |(_,.hid _)::_,[],_,h=>by simp[rX]at h
theorem EJ{g:Gh}{w:World}{fr:ck S}{a:Act}(hf:cU g (bL fr) a w):∀{sh:Sh}{bs bl:L Nat}{vs:L (V S)},vQ fr sh bs=Z vs->PW (λo b=>g.bT o=Z b) bs bl->∃vals,iW a sh vals/\PW (aI g w) (bA vs) vals
 |[],[],bl,vs,h,_=>by simp only[vQ,gP]at h;subst h;exact⟨[],trivial,rfl,λj t v h=>by grind⟩
 |(k,.one c)::l,bs,bl,vs,h,d=>by
  simp[vQ]at h;split at h
  .rename_i v r h1 h2;simp at h;subst h
   let ⟨vals,h3,h4⟩:=EJ hf h2 d
   let ⟨u,p,s⟩:=hf.tm k (low v) (by rw[cg,h1];rfl)
   refine⟨u::vals,⟨p,h3⟩,by simp[bA,lR,h4.1],λj t i e f=>?_⟩;cases j with|zero=>grind[bA]|succ j=>exact h4.2 j t i (by simpa[bA]using e) (by simpa using f)
  cases h
 |(_,.box k)::l,o::bs,b::bl,vs,h,d=>by
  simp[vQ]at h;split at h
  .rename_i h2;simp at h;subst h;have q:g.bT o=Z b:=d.2 0 _ _ rfl rfl
   let ⟨vals,h3,h4⟩:=EJ hf h2 (bl:=bl) ⟨by simpa using d.1,λj m n e f=>d.2 (j+1) m n (by simpa using e) (by simpa using f)⟩
   refine⟨Lx k b::vals,h3,by simp[bA,lR,h4.1],λj t i e f=>?_⟩;cases j with|zero=>grind[bA,Og]|succ j=>exact h4.2 j t i (by simpa[bA]using e) (by simpa using f)
  cases h
 |(_,.box k)::l,o::bs,[],vs,h,d=>absurd d.1 (by simp)
 |(_,.hid k)::l,o::bs,b::bl,vs,h,d=>by
  simp[vQ]at h
  let ⟨vals,h3,h4⟩:=EJ hf h (bl:=bl) ⟨by simpa using d.1,λj m n e f=>d.2 (j+1) m n (by simpa using e) (by simpa using f)⟩
  exact⟨vals,h3,h4⟩
 |(_,.hid k)::l,o::bs,[],vs,h,d=>absurd d.1 (by simp)
 |[],_::_,_,_,h,_=>by simp[vQ]at h
 |(_,.box _)::_,[],_,_,h,_=>by simp[vQ]at h
 |(_,.hid _)::_,[],_,_,h,_=>by simp[vQ]at h
structure HU(sh:Sh)(bs:List Nat)(a:Act)(g:Gh)(s:bp S)(w:World)(x:gm S.A (lP sh))(s2:bp S)(ow:List Nat)(g2:Gh)(vals:List Value)(al:List fe)(bl:List Nat):Prop where
 rel:aY g2 (aC s2) w
 ext:Ext s.fl g w g2 w
 pr:rJ S g2.bx w (lP sh) x vals al bl
 at_:iW a sh vals
 alr:AL g2 al ow
 Iy:PW (λo b=>g2.bT o=Z b) bs bl
 now:ow.Nodup
 Yd:∀o∈ow,s.fl<=o/\s.lo<=o/\o<s.aE
 nbs:bs.Nodup
 Uj:∀o∈bs,s.fl<=o/\o<s.aE/\o∉ow/\∀e,g2.arr o e=Y
 fl:s2.fl=s.fl
 lo:s2.lo=s.lo
 aE:s2.aE=s.aE
 uk:∀o∈s.wr,o∈s2.wr
 same:∀o,o∉s2.wr->s2.ob.get o=s.ob.get o
 dr:s2.dr=s.dr
 ap:xC al
 owb:∀o∈ow,g.bT o=Y
def kS(hS:fq S){s2:bp S}{fr:ck S}(hf:cU g (bL fr) a w)(hs:aY g (aC s) w){sh:Sh}{bs ow:L Nat}{x:gm S.A (lP sh)}{bl0:L Nat}(q:PW (λo b=>g.bT o=Z b) bs bl0)(h:qN sh bs fr s=Z (x,s2,ow)) :
  ∃g2 vals al bl,HU sh bs a g s w x s2 ow g2 vals al bl:=by
 unfold qN at h;split at h;cases h;rename_i i;split at h;cases h;rename_i x' P ow' k z;split at h;cases h;rename_i s1 A;obtain⟨p,h2⟩|⟨_,h2⟩:=af h
 rotate_left;cases h2;clear h;simp only[eW]at p;simp at h2;obtain⟨rfl,rfl,rfl⟩:=h2
 let ⟨vals,Q,R⟩:=EJ hf i q
 have r:=l6 p.1;have hap:=zS p.2.1;have t:=l6 p.2.2.1;have hbb:k=bs:=by
  have h1:k.length=bs.length:=by have:=beq_iff'.1 p.2.2.2.1;rwa [bV,bV]at this
  have h2:=p.2.2.2.2;clear p z t i q
  induction k generalizing bs with
  |nil=>cases bs with|nil=>rfl|cons=>simp at h1
  |cons c cs ih=>cases bs with|nil=>simp at h1|cons d ds=>simp only[List.zip_cons_cons,List.all_cons,eW]at h2;rw[beq_iff'.1 h2.1,ih (by simpa using h1) h2.2]
 subst hbb
 let ⟨p1,B,p4,p3⟩:=kT hS hs z R (λo f=>by cases f)
 have hfl:=dz hS _ A
 let ⟨K,l,C,hfr⟩:=eF P hs hfl p1
 let ⟨f1,f2,f3,f4,f5,f6,f7⟩:=eL A
 let ⟨al,bl,m,E,u⟩:=p3 K (aC s1) P l C hfr (λo f=>f) (λo f=>by rw[aJ,aJ,f6 o (hap o f)])
 have v:∀o∈k,∃ob,s1.ob.get o=Z ob/\s.ob.get o=Z ob/\jV ob=W:=by
  intro o f
  let ⟨_,F,i,n⟩:=p4 o f
  have hnf:o∉P:=λhm=>by have:=(p1 o hm).oC (by rw[aJ,i];rfl);rw[ot n]at this;cases this
  exact⟨F,by rw[f6 o hnf];exact i,i,n⟩
 have I:∀o∈k,∃b,K.bT o=Z b:=by
  intro o f;obtain⟨j,hj,rfl⟩:=rQ f;have hj':j<bl.length:=by have:=u.1;omega
  exact⟨bl[j],u.2 j _ _ (iX hj) (iX hj')⟩
 refine⟨K,vals,al,bl,l,C,m,Q,E,u,r,λo f=>⟨(B o f).1,(B o f).2.1,(B o f).2.2.1⟩,t,λo f=>?_,f1,f2,f3,f4,f5,f7,E.apart l r m.iL,λo f=>?_⟩;rotate_left
 let ⟨_,_,_,oba,y,hB⟩:=B o f
 exact hs.AG ((aJ s o).trans (by rw[y];rfl)) (u6 hB)
 let ⟨F,hv1,hv2,n⟩:=v o f
 refine⟨(p4 o f).1,?_,λhm=>?_,λe=>?_⟩
 let ⟨b,p⟩:=I o f
 have:=l.lt p;have e1:(aC s1).aE=s1.aE:=rfl;omega
 let ⟨_,_,_,oba,y,hB⟩:=B o hm
 rw[hv2]at y;cases y;have:=u6 hB;rw[ot n]at this;cases this;cases y:K.arr o e with
 |none=>rfl|some x'=>
  exfalso
  let ⟨_,h2⟩:=l.arr o e x' y
  exact Az n (h2 _ (by rw[aJ,hv1];rfl))
def aqt:Pk->Bool|.one _=>J|_=>W
structure BA(ex:List Nat)(sh:Sh)(bs:List Nat)(a:Act)(gb:Gh)(j3:ck S)(s0:bp S)(w:World)(al:List fe)(gh:Gh)(Cn:ck S)(zc:bp S):Prop where
 rel:aY gh (aC zc) w
 fr:cU gh (bL Cn) a w
 le:nk gb gh
 bx:gh.bx=gb.bx
 own:∀k b,bJ gh k b->bJ gb k b\/(s0.aE<=k/\∃a∈al,a.at b)
 fl:zc.fl=s0.fl
 lo:zc.lo=s0.lo
 aE:s0.aE<=zc.aE
 wr:zc.wr=s0.wr
 dr:zc.dr=s0.dr
 ob:∀o,o<s0.aE->o∉bs->zc.ob.get o=s0.ob.get o
 bT:gh.bT=gb.bT
 arr:∀o,o<s0.aE->∀e,gh.arr o e=gb.arr o e
 n:Cn.n=j3.n
 OY:Cn.df=j3.df
 get:∀k,k∉ex->(∀p∈sh,p.1=k->aqt p.2=W)->Cn.get k=j3.get k
theorem wI{a:Act}{w:World}:∀{sh:Sh}{bs:L Nat}{x:gm S.A (lP sh)}{vals:L Value}{al:L fe}{bl:L Nat}{gb:Gh}{j3 Cn:ck S}{s0 zc:bp S},ny sh bs x j3 s0=Z (Cn,zc)->j3.n<=bM->
  rJ S gb.bx w (lP sh) x vals al bl->iW a sh vals->PW (λo b=>gb.bT o=Z b) bs bl->(∀o∈bs,∀e,gb.arr o e=Y)->(∀a∈al,∀b,a.at b->∀o,¬bJ gb o b)->xC al->cU gb (bL j3) a w->aY gb (aC s0) w->
  ∃gh,BA [] sh bs a gb j3 s0 w al gh Cn zc:=by
 intro sh
 induction sh with
 |nil=>
  intro bs x vals al bl gb j3 Cn s0 zc h hn hp C g hna hfr hap F hs;cases bs with
  |nil=>obtain⟨rfl,rfl⟩:=h;exact⟨gb,hs,F,nk.refl _,rfl,λ_ _ h=>.inl h,rfl,rfl,eO _,rfl,rfl,λ_ _ _=>rfl,rfl,λ_ _ _=>rfl,rfl,rfl,λ_ _ _=>rfl⟩
  |cons o bs=>simp[ny]at h
 |cons q sh ih=>
  intro bs x vals al bl gb j3 Cn s0 zc h hn hp C g hna hfr hap F hs
  let ⟨k,pk⟩:=q
  cases pk with
  |one c=>
   cases hp with
   | @one _ _ n xr v vs DZ BI bl h1 h2=>
   let ⟨hv,C⟩:=C
   obtain⟨hb,h⟩|⟨_,h⟩:=af h
   rotate_left;cases h;simp only[eW]at hb;have hk:k<j3.n:=gS hb.1;have I:(v8 s0 c n).2.aE<=bM:=gS hb.2;have l:=uz.1 hap
   let ⟨K,d,pY⟩:=nG (cs:=[c]) (x:=(n,())) h1 hs (λa ha=>hfr a (fS _ ha)) l.1 (by simpa[iz]using I)
   have e1:(iz s0 [c] (n,())).1=[(v8 s0 c n).1]:=rfl;have e2:(iz s0 [c] (n,())).2=(v8 s0 c n).2:=rfl;have hv1:aI K w (low (v8 s0 c n).1) v:=pY.2 0 _ _ rfl rfl;have P:cU K (bL (j3.put k (v8 s0 c n).1)) a w:=by
    refine⟨F.size,F.df.imp (λ_ _ ht=>ht.le d.le) d.le.bT,λj t s=>?_⟩;rw[cg,ck.j0 _ _ _ _ (iS hk hn)]at s;by_cases hjk:j=k
    simp_all
    rw[bQ hjk]at s
    let ⟨u,Q,hr⟩:=F.tm j t (by rw[cg];exact s)
    exact⟨u,Q,hr.le d.le⟩
   let ⟨gh,f⟩:=ih (gb:=K) h (by simpa[ck.put]using hn) (d.bx▸h2) C (by rw[d.bT];exact g) (λo ho e=>by
     have R:o<s0.aE:=by
      obtain⟨j,s,rfl⟩:=rQ ho;have hj':j<bl.length:=by have:=g.1;omega
      exact hs.lt (g.2 j _ _ (iX s) (iX hj'))
     rw[d.arr o R]
     grind) (λa ha b hb o m=>by
     obtain m|⟨_,a2,ha2,pZ⟩:=d.own o b m
     grind
     grind) l.2.1 P d.rel
   refine⟨gh,f.rel,f.fr,d.le.trans f.le,f.bx.trans d.bx,λk' b m=>?_,f.fl.trans d.fl,f.lo.trans d.lo,gk d.aE f.aE,f.wr.trans d.wr,f.dr.trans d.dr,λo ho A=>?_,f.bT.trans d.bT,λo ho e=>?_,f.n,f.OY,λj hex s=>?_⟩;obtain m|⟨y,E,z,k3⟩:=f.own k' b m
   obtain m|⟨y,E,z,k3⟩:=d.own k' b m
   exact .inl m
   grind
   exact .inr ⟨gk d.aE y,E,eV _ z,k3⟩;rw[f.ob o (iS ho d.aE) A];exact d.ob o ho;rw[f.arr o (iS ho d.aE)];exact d.arr o ho e;rw[f.get j hex (λp hp=>s p (hJ _ hp)),ck.j0 _ _ _ _ (iS hk hn),bQ];intro hjk;cases s (k,.one c) eI hjk.symm
  |box B=>
   cases hp with
   | @box _ _ n xr b hx vs DZ BI bl hhp h1 h2=>
   cases bs with
   |nil=>exact absurd g.1 (by simp)
   |cons o bs=>
   obtain⟨hb,h⟩|⟨_,h⟩:=af h
   rotate_left;cases h;have I:(lK s0 (fH bs) B n).2.aE<=bM:=gS hb;have l:=uz.1 hap;have mR:gb.bT o=Z b:=g.2 0 _ _ rfl rfl
   let ⟨K,d,agy⟩:=qi h1 (AS (bs:=bs) (bl:=bl) ⟨by simpa using g.1,λj a c y z=>g.2 (j+1) a c (by simpa using y) (by simpa using z)⟩) hs (λa ha=>hfr a (fS _ ha)) l.1 I
   have R:o<s0.aE:=hs.lt mR;have hk:=d.rel.tO (o:=o) (b:=b) (by rw[d.bT];exact mR) hhp agy (λe=>by rw[d.arr o R];simp_all);have hk2:aY K (aC {(lK s0 (fH bs) B n).2 with ob:=(lK s0 (fH bs) B n).2.ob.set aM o (lK s0 (fH bs) B n).1}) w:=by
    have:=eE (lK s0 (fH bs) B n).2 o (lK s0 (fH bs) B n).1 (lK s0 (fH bs) B n).2.wr
    simp_all
   have P:cU K (bL j3) a w:=⟨F.size,F.df.imp (λ_ _ ht=>ht.le d.le) d.le.bT,λj t s=>by
    let ⟨u,Q,hr⟩:=F.tm j t s
    exact⟨u,Q,hr.le d.le⟩⟩
   let ⟨gh,f⟩:=ih (bs:=bs) (bl:=bl) (gb:=K) h hn (d.bx▸h2) C ⟨by simpa using g.1,λj E c y z=>by rw[d.bT];exact g.2 (j+1) E c (by simpa using y) (by simpa using z)⟩
    (λr i e=>by
     have agC:r<s0.aE:=by
      obtain⟨j,s,rfl⟩:=rQ i;have hj':j<bl.length:=by have:=g.1;grind
      exact hs.lt (g.2 (j+1) bs[j] bl[j] (by simp) (by simp))
     rw[d.arr r agC]
     simp_all) (λa ha b hb o m=>by
     obtain m|⟨_,a2,ha2,pZ⟩:=d.own o b m
     grind
     grind) l.2.1 P hk2
   refine⟨gh,f.rel,f.fr,d.le.trans f.le,f.bx.trans d.bx,λk' b m=>?_,f.fl.trans d.fl,f.lo.trans d.lo,gk d.aE f.aE,f.wr.trans d.wr,f.dr.trans d.dr,λr i A=>?_,f.bT.trans d.bT,λr i e=>?_,f.n,f.OY,λj hex s=>?_⟩;obtain m|⟨y,E,z,k3⟩:=f.own k' b m
   obtain m|⟨y,E,z,k3⟩:=d.own k' b m
   exact .inl m
   grind
   exact .inr ⟨gk d.aE y,E,eV _ z,k3⟩;have hne:r≠o:=λe=>A (by simp_all);rw[f.ob r (iS i d.aE) (λhm=>A (hJ _ hm))];rw[Tr.dD _ _ _ _ _ hne];exact d.ob r i;rw[f.arr r (iS i d.aE)];exact d.arr r i e;exact f.get j hex (λp hp=>s p (hJ _ hp))
  |hid B=>
   cases hp with
   | @hid _ _ n xr b hx vs DZ BI bl hhp h1 h2=>
   cases bs with
   |nil=>exact absurd g.1 (by simp)
   |cons o bs=>
   obtain⟨hb,h⟩|⟨_,h⟩:=af h
   rotate_left;cases h;have I:(lK s0 (fH bs) B n).2.aE<=bM:=gS hb;have l:=uz.1 hap;have mR:gb.bT o=Z b:=g.2 0 _ _ rfl rfl
   let ⟨K,d,agy⟩:=qi h1 (AS (bs:=bs) (bl:=bl) ⟨by simpa using g.1,λj a c y z=>g.2 (j+1) a c (by simpa using y) (by simpa using z)⟩) hs (λa ha=>hfr a (fS _ ha)) l.1 I
   have R:o<s0.aE:=hs.lt mR;have hk:=d.rel.tO (o:=o) (b:=b) (by rw[d.bT];exact mR) hhp agy (λe=>by rw[d.arr o R];simp_all);have hk2:aY K (aC {(lK s0 (fH bs) B n).2 with ob:=(lK s0 (fH bs) B n).2.ob.set aM o (lK s0 (fH bs) B n).1}) w:=by
    have:=eE (lK s0 (fH bs) B n).2 o (lK s0 (fH bs) B n).1 (lK s0 (fH bs) B n).2.wr
    simp_all
   have P:cU K (bL j3) a w:=⟨F.size,F.df.imp (λ_ _ ht=>ht.le d.le) d.le.bT,λj t s=>by
    let ⟨u,Q,hr⟩:=F.tm j t s
    exact⟨u,Q,hr.le d.le⟩⟩
   let ⟨gh,f⟩:=ih (bs:=bs) (bl:=bl) (gb:=K) h hn (d.bx▸h2) C ⟨by simpa using g.1,λj E c y z=>by rw[d.bT];exact g.2 (j+1) E c (by simpa using y) (by simpa using z)⟩
    (λr i e=>by
     have agC:r<s0.aE:=by
      obtain⟨j,s,rfl⟩:=rQ i;have hj':j<bl.length:=by have:=g.1;grind
      exact hs.lt (g.2 (j+1) bs[j] bl[j] (by simp) (by simp))
     rw[d.arr r agC]
     simp_all) (λa ha b hb o m=>by
     obtain m|⟨_,a2,ha2,pZ⟩:=d.own o b m
     grind
     grind) l.2.1 P hk2
   refine⟨gh,f.rel,f.fr,d.le.trans f.le,f.bx.trans d.bx,λk' b m=>?_,f.fl.trans d.fl,f.lo.trans d.lo,gk d.aE f.aE,f.wr.trans d.wr,f.dr.trans d.dr,λr i A=>?_,f.bT.trans d.bT,λr i e=>?_,f.n,f.OY,λj hex s=>?_⟩;obtain m|⟨y,E,z,k3⟩:=f.own k' b m
   obtain m|⟨y,E,z,k3⟩:=d.own k' b m
   exact .inl m
   grind
   exact .inr ⟨gk d.aE y,E,eV _ z,k3⟩;have hne:r≠o:=λe=>A (by simp_all);rw[f.ob r (iS i d.aE) (λhm=>A (hJ _ hm))];rw[Tr.dD _ _ _ _ _ hne];exact d.ob r i;rw[f.arr r (iS i d.aE)];exact d.arr r i e;exact f.get j hex (λp hp=>s p (hJ _ hp))
theorem l5{ow:L Nat}{aE o:Nat}(h:dN ow aE o=J):o∉ow/\o<aE:=by
 grind[dN,Nat.ble_eq_true_of_le]
def pS{ow:L Nat}{aE o:Nat}(h1:o∉ow)(h2:o<aE):dN ow aE o=J:=by simp[dN,zj,FR,XC];refine⟨h1,?_⟩;cases h:Nl aE o with|false=>rfl|true=>have:=gS h;omega
theorem VD{p q:Nat->Bool}{v:V S}(h:cN p v=W)(a:cN q v=J):∃o,p o=W/\q o=J:=by
 obtain h1|h1:=Classical.em (∃o,p o=W/\q o=J)
 exact h1
 grind[ew]
theorem qe(p:Nat->Bool)(v:V S):vL (dK p) (low v) (low (fX p v)):=by cases a:cN p v with|true=>exact .inr ⟨_,by simp[fX,a,iq];rfl⟩|false=>exact .inl ⟨by simp[fX,a,j7],by rw[iu];exact a⟩
theorem sN(p:Nat->Bool)(v:V S):vL (dK p) (low (fX p v)) (low (fX p v)):=by cases a:cN p v with|true=>exact .inr ⟨_,by simp[fX,a,iq];rfl⟩|false=>exact .inl ⟨rfl,by simp_all[fX,iu]⟩
theorem Fg(p:Nat->Bool)(t:Ty)(x:den S.A t):vL (dK p) (ef S t x) (ef S t x):=.inl ⟨rfl,iu (S:=S) p (.ty t x)⟩
theorem Oc(p:Nat->Bool)(kt a:Ty)(l:L (den S.A kt×den S.A a)):so (dK p) (de (.map kt a l:vo S)) (de (.map kt a l)):=by
 refine⟨rfl,λj t u h1 h2=>?_⟩;rw[h1]at h2;cases h2;simp only[lE,fT]at h1;obtain⟨q,_,rfl⟩:=h1
 grind[Fg]
def aco{f:V S->V S}(l:LpV S)(t0:Tr (V S))(hf:∀v,t0.get=t0.get->vL (dK p) (low v) (low (f v))) :
  so (dK p) (de (.lp {l with fr:={l.fr with tm:=t0}})) (de (.lp {l with fr:={l.fr with tm:=t0.mapA f}})):=by
 refine⟨rfl,rfl,λk u b=>?_⟩;have a:((t0.mapA f).map low).get k=Z u:=b;rw[Tr.get_map,Tr.oE,FV,fT]at a;obtain⟨v,c,rfl⟩:=a;exact⟨low v,by show(t0.map low).get k=_;rw[Tr.get_map,c];rfl,hf v rfl⟩
theorem lU(p:Nat->Bool)(ob:vo S):so (dK p) (de ob) (de (fc p ob)):=by
 cases ob with
 |box h=>
  refine⟨by simp[eP],λj t u h1 h2=>?_⟩;simp only[eZ,lE,fT]at h1 h2;obtain⟨v,e,rfl⟩:=h1;obtain⟨f,⟨b,a,rfl⟩,rfl⟩:=h2
  grind[qe]
 |map kt g l=>exact Oc p kt g l|Iw kt l=>
  refine⟨by simp,λj t u h1 h2=>?_⟩;simp only[lE,fT]at h1 h2;obtain⟨v,e,rfl⟩:=h1;obtain⟨f,⟨b,a,rfl⟩,rfl⟩:=h2
  grind[Fg,qe]
 |lp l=>exact aco l l.fr.tm λv _=>qe p v|arr=>rfl|lM=>rfl|rO=>rfl|Ab=>rfl|rws=>rfl|gone=>rfl|Gl=>rfl|lT n j l era m d hole=>
  cases c:p m with|true=>exact .inr (by simp[fc,c,iq];rfl)|false=>exact .inl ⟨by simp[fc,c,j7];rfl,c⟩
theorem HA(p:Nat->Bool)(ob:vo S):so (dK p) (de (fc p ob)) (de (fc p ob)):=by
 cases ob with
 |box h=>refine⟨rfl,λj t u h1 h2=>?_⟩;rw[h1]at h2;cases h2;simp only[eZ,lE,fT]at h1;obtain⟨f,⟨v,c,rfl⟩,rfl⟩:=h1;exact sN p v
 |map kt g l=>exact Oc p kt g l|Iw kt l=>
  refine⟨rfl,λj t u h1 h2=>?_⟩;rw[h1]at h2;cases h2;simp only[lE,fT]at h1;obtain⟨f,⟨v,c,rfl⟩,rfl⟩:=h1
  grind[Fg,sN]
 |lp l=>refine⟨rfl,rfl,λk u d=>?_⟩;refine⟨u,d,?_⟩;have a:((l.fr.tm.mapA (fX p)).map low).get k=Z u:=d;rw[Tr.get_map,Tr.oE,FV,fT]at a;obtain⟨v,c,rfl⟩:=a;exact sN p v
 |arr=>rfl|lM=>rfl|rO=>rfl|Ab=>rfl|rws=>rfl|gone=>rfl|Gl=>rfl|lT n j l era m e hole=>
  cases b:p m with|true=>simp[fc,b,iq];rfl|false=>simp[fc,b,j7];exact .inl ⟨rfl,b⟩
def zM(h:cN p v=J):fX p v=v:=by simp[fX,h,j7]
theorem oK{p:Nat->Bool}{ob:vo S}(h:gI p ob=J):fc p ob=ob:=by
 cases ob with
 |box f=>
  simp[fc,vo.box.injEq];have c:∀{l:L (V S)},iN p l=J->∀v∈l,cN p v=J:=by
   intro l
   induction l with
   |nil=>intro _ v b;cases b
   |cons a l d=>
    intro h v b;simp[iN,zj]at h;obtain rfl|b:=fV.1 b
    exact h.1;exact d h.2 v b
  have:∀v∈f,fX p v=v:=λv b=>zM (c h v b);exact(XB this).trans (List.map_id _)
 |Iw kt l=>
  simp only[fc];have c:∀{l:L (den S.A kt×V S)},zu p l=J->∀v∈l,cN p v.2=J:=by
   intro l
   induction l with
   |nil=>intro _ v b;cases b
   |cons a l d=>
    intro h v b;simp[zu,zj]at h;obtain rfl|b:=fV.1 b
    exact h.1;exact d h.2 v b
  have:∀q∈l,((q.1,fX p q.2):den S.A kt×V S)=q:=λq g=>by rw[zM (c h q g)]
  rw[(XB this).trans (List.map_id _)]
 |lp l=>simp[fc,EU (λv=>zM) (show mW (cN p) l.fr.tm=J from h)]|lT n j l era m e hole=>have h:p m=J:=h;simp[fc,h,j7]|_=>rfl
section
variable {bs ow ds:List Nat}{fr:ck S}{s1:bp S}
def ue(a:∀b∈bs,b<bM)(o:Nat):(cP ds ow bs fr s1).2.ob.get o=if o∈bs then Y else(s1.ob.get o).map (fc (dN ow s1.aE)):=by show(bs.foldl (λt o=>t.del aM o) (s1.ob.mapA _)).get o=_;rw[Tr.oG bs _ o a,Tr.oE]
end
def DG:∀(l:L (V S))(k:Nat)(t:Tr (V S)),(mY l k t).map low=Ch (bA l) k (t.map low)
 |[],_,_=>rfl|a::l,k,t=>by simp only[mY,bA,Ch];rw[DG l,Tr.mS]
theorem tP{g:Gh}{w:World}{n:Nat}(hn:n<bM){args:L (V S)}{vs:Array Value}(hl:args.length<=n)(a:PW (aI g w) (bA args) vs.toList) :
  cU g (bL {n:=n,tm:=mY args 0 .nil}) {tmps:=vs++Array.replicate (n-vs.size) undef,defers:=[]} w:=by
 have c:(bA args).length=vs.size:=by simpa using a.1
 have d:args.length=vs.size:=by rw[<-c,eP]
 refine⟨by simp[bL];omega,.nil,λj t b=>?_⟩;have e:(bL {n:=n,tm:=mY args 0 .nil}).get j=(Ch (bA args) 0 .nil).get j:=by show((mY args 0 .nil).map low).get j=_;rw[DG];rfl
 rw[e,GJ _ _ _ (by omega)]at b;split at b;refine⟨vs[j],?_,a.2 j t _ b (by simp)⟩
 grind
 cases b
end
end TL
end
end
